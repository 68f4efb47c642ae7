import Derived.Test.YthckccalfpnmaaaGreatDoorVB
import Derived.Test.YthckccalfpnmaaaGreatDoorThD
import Derived.Test.YthckccalfpnmaaaGreatDoorThE
import Derived.Lib.Builder
import Derived.WalkKit
import Derived.Laws.Externs
import Derived.Shelf.RegionOpenPlain
import Derived.Test.YthckccalfpnmaaaGreatDoorVA
import Derived.Lib.Overlaps
import Derived.KernelRfl
import Derived.Shelf.Strings.Prefix
import Derived.Shelf.Strings.Trim
/- Parts of a proof. -/
set_option linter.unusedSimpArgs false
set_option linter.unusedVariables false
set_option linter.unusedSectionVars false
namespace Go.Abs
open Go.Proofs
set_option maxHeartbeats 4000000
set_option maxRecDepth 100000
theorem splAux_len (c:Nat):∀ (s cur:List Nat),(splAux c cur s).length ≤ s.length + 1
 | [],cur=>by simp [splAux]
 | x :: s,cur=>by
  have h1:=splAux_len c s []
  have h2:=splAux_len c s (cur ++ [x])
  rw [splAux]; split <;> simp <;> omega
theorem splAux_mem (c:Nat):∀ (s cur p:List Nat),p ∈ splAux c cur s → p.length ≤ cur.length + s.length ∧ ∀ x ∈ p,x ∈ cur ∨ x ∈ s
 | [],cur,p,h=>by
  simp only [splAux,List.mem_singleton] at h
  subst h
  exact ⟨by simp,fun x hx=>.inl hx⟩
 | a :: s,cur,p,h=>by
  rw [splAux] at h
  split at h
  · rcases List.mem_cons.1 h with rfl | h
    · exact ⟨by simp,fun x hx=>.inl hx⟩
    · obtain ⟨h1,h2⟩:=splAux_mem c s [] p h
      refine ⟨by simp at h1 ⊢; omega,fun x hx=>.inr ?_⟩
      rcases h2 x hx with h | h
      · cases h
      · exact List.mem_cons_of_mem _ h
  · obtain ⟨h1,h2⟩:=splAux_mem c s _ p h
    refine ⟨by simp at h1 ⊢; omega,fun x hx=>?_⟩
    rcases h2 x hx with h | h
    · rcases List.mem_append.1 h with h | h
      · exact .inl h
      · rw [List.mem_singleton.1 h]; exact .inr List.mem_cons_self
    · exact .inr (List.mem_cons_of_mem _ h)
theorem spl_len (c:Nat) (s:List Nat):(spl c s).length ≤ s.length + 1:=splAux_len c s []
theorem spl_mem {c:Nat} {s p:List Nat} (h:p ∈ spl c s):p.length ≤ s.length ∧ ∀ x ∈ p,x ∈ s:=by
 obtain ⟨h1,h2⟩:=splAux_mem c s [] p h
 refine ⟨by simpa using h1,fun x hx=>?_⟩
 rcases h2 x hx with h | h
 · cases h
 · exact h
def readI (s:List Nat):Option Int :=
 if s.head? = some 45 then (if (intR s.tail).2 = true ∧ (intR s.tail).1 ≠ 0 then some (-(intR s.tail).1) else none)
 else if (intR s).2 = true then some (intR s).1 else none
def valI (s:List Nat):Int:=(readI s).getD 0
def readV (s:List Nat):List Int × Bool:=if (spl 44 s).all (fun p=>(readI p).isSome) = true then ((spl 44 s).map valI,true) else ([],false)
theorem intR_lt (s:List Nat):0 ≤ (intR s).1 ∧ (intR s).1 < 10 ^ 9:=by
 rw [intR]; split
 · rename_i h
   simp only [plainN,Bool.and_eq_true,Bool.not_eq_true',decide_eq_false_iff_not] at h
   have h1:=numT_lt s.length s rfl h.2
   have h2:10 ^ s.length ≤ 10 ^ 9:=Nat.pow_le_pow_right (by omega) (by omega)
   dsimp only; omega
 · exact ⟨by simp,by simp⟩
theorem c_readValuesR (s:List Nat) (h:s.length ≤ 1000000) (hb:∀ c ∈ s,c < 256):GoodC Tryz.prog 110 [.str s] (.tup [.seq ((readV s).1.map (.int .i64)),.bool (readV s).2]):=by
 refine good_fn nf isF110 mix (by simp [Tryz.f110]) ?_
 simp [Tryz.f110]
 refine c2 (c_splitR s 44 (by omega) (by omega)) ?_
 have hl:=spl_len 44 s
 have hm:=fun p=>spl_mem (c:=44) (s:=s) (p:=p)
 have hv:readV s = if (spl 44 s).all (fun p=>(readI p).isSome) = true then ((spl 44 s).map valI,true) else ([],false):=rfl
 rw [hv]
 clear hv
 generalize spl 44 s = l at *
 simp
 refine lp (α:=Nat) (fun i=>⟨[(6,.p (.int .i64 i)),(5,.p (.seq (l.map .str))),(4,.sl 0 i 1 0 i)],[.arr .grow i 1 ((l.map fun p=>.p (.int .i64 (valI p))).take i)]⟩) (fun i=>i ≤ l.length ∧ (l.take i).all (fun p=>(readI p).isSome) = true) (fun i=>l.length - i) 0 (by simp) ?_
 rintro i ⟨k1,k2⟩
 have hw:=wi1 (i:=i) (by omega)
 by_cases hi:i < l.length
 · have ht:=take_next (fun p=>AV.p (.int .i64 (valI p))) hi
   have hall:(l.take (i + 1)).all (fun p=>(readI p).isSome) = (readI l[i]).isSome:=by rw [List.take_succ_eq_append_getElem hi,List.all_append,k2]; simp
   have hno:(readI l[i]).isSome = false → l.all (fun p=>(readI p).isSome) = false:=fun h=>by
    rw [List.all_eq_false]; exact ⟨l[i],List.getElem_mem hi,by simpa using h⟩
   have hp:=hm _ (List.getElem_mem hi)
   generalize hq:l[i] = q at *
   have hqb:∀ c ∈ q,c < 256:=fun c hc=>hb c (hp.2 c hc)
   by_cases hs:q.head? = some 45
   · obtain ⟨t,rfl⟩:∃ t,q = 45 :: t:=by
      cases q with
      | nil=>cases hs
      | cons a t=>injection hs with hs; subst hs; exact ⟨t,rfl⟩
     have hlt:=intR_lt t
     have c1':=c_integerR t (by have:=hp.1; simp at this; omega) (fun c hc=>hqb c (List.mem_cons_of_mem _ hc))
     have hr:readI (45 :: t) = if (intR t).2 = true ∧ (intR t).1 ≠ 0 then some (-(intR t).1) else none:=rfl
     generalize intR t = v at *
     obtain ⟨v,ok⟩:=v
     dsimp only at hlt hr c1'
     have g1:(0:Int) < (t.length:Int) + 1:=by omega
     simp [hi,hq,g1]
     refine c1 c1' ?_
     by_cases hok:ok = true
     · subst hok
       by_cases hv0:v = 0
       · subst hv0
         have hz:(readI (45 :: t)).isSome = false:=by rw [hr]; simp
         simp [hno hz]
       · have hr2:readI (45 :: t) = some (-v):=by rw [hr,if_pos ⟨rfl,hv0⟩]
         have hval:valI (45 :: t) = -v:=by rw [valI,hr2]; rfl
         have hsome:(readI (45 :: t)).isSome = true:=by rw [hr2]; rfl
         have wv:IntKind.i64.wrap (-v) = -v:=wi64 _ (by omega) (by omega)
         rw [hval] at ht
         simp [hv0,wv,hw]
         refine ⟨by simp only [maxL]; omega,?_⟩
         exact rd (i + 1) ⟨hi,by rw [hall,hsome]⟩ (hh:=by simp [ht]) (hr2:=by simp [ht])
     · have hok:ok = false:=by simpa using hok
       subst hok
       have hz:(readI (45 :: t)).isSome = false:=by rw [hr]; simp
       simp [hno hz]
   · have hlt:=intR_lt q
     have c1':=c_integerR q (by have:=hp.1; omega) hqb
     have hr:readI q = if (intR q).2 = true then some (intR q).1 else none:=by rw [readI,if_neg hs]
     generalize intR q = v at *
     obtain ⟨v,ok⟩:=v
     dsimp only at hlt hr c1'
     have fin:∀ {p:Prop},(q.length = 0 ∨ ∃ h:0 < q.length,¬ q[0] = 45):=by
      intro _
      cases q with
      | nil=>exact .inl rfl
      | cons a t=>exact .inr ⟨by simp,fun e=>hs (by rw [List.getElem_cons_zero] at e; rw [e]; rfl)⟩
     rcases fin (p:=True) with h0 | ⟨h0,h45⟩
     · have hq0:q = []:=List.length_eq_zero_iff.1 h0
       subst hq0
       simp [hi,hq]
       refine c1 c1' ?_
       by_cases hok:ok = true
       · subst hok
         rw [if_pos rfl] at hr
         have hval:valI [] = v:=by rw [valI,hr]; rfl
         have hsome:(readI []).isSome = true:=by rw [hr]; rfl
         rw [hval] at ht
         simp [hw]
         refine ⟨by simp only [maxL]; omega,?_⟩
         exact rd (i + 1) ⟨hi,by rw [hall,hsome]⟩ (hh:=by simp [ht]) (hr2:=by simp [ht])
       · have hok:ok = false:=by simpa using hok
         subst hok
         have hz:(readI []).isSome = false:=by rw [hr]; simp
         simp [hno hz]
     · have g1:(0:Int) < (q.length:Int):=by omega
       have g2:¬ ((q[0]:Nat):Int) = 45:=by omega
       simp [hi,hq,g1,h0,g2]
       have g3:(((q[0]:Nat):Int) == 45) = false:=by rw [beq_eq_false_iff_ne]; exact g2
       refine c1 c1' ?_
       by_cases hok:ok = true
       · subst hok
         rw [if_pos rfl] at hr
         have hval:valI q = v:=by rw [valI,hr]; rfl
         have hsome:(readI q).isSome = true:=by rw [hr]; rfl
         rw [hval] at ht
         simp [hw,g3]
         refine ⟨by simp only [maxL]; omega,?_⟩
         exact rd (i + 1) ⟨hi,by rw [hall,hsome]⟩ (hh:=by simp [ht]) (hr2:=by simp [ht])
       · have hok:ok = false:=by simpa using hok
         subst hok
         have hz:(readI q).isSome = false:=by rw [hr]; simp
         simp [hno hz,g3]
 · have:i = l.length:=by omega
   subst this
   rw [List.take_length] at k2
   rw [if_pos k2]
   simp
end Go.Abs
namespace Go.Abs
open Go.Proofs
set_option maxHeartbeats 4000000
set_option maxRecDepth 100000
theorem readV_len (s:List Nat):(readV s).1.length ≤ s.length + 1:=by
 have:=spl_len 44 s
 rw [readV]; split <;> simp
 exact this
end Go.Abs
namespace Go.Abs
def cutN (c:Nat):List Nat → List Nat × List Nat × Bool
 | []=>([],[],false)
 | x :: r=>if x = c then ([],r,true) else (x :: (cutN c r).1,(cutN c r).2.1,(cutN c r).2.2)
theorem idxB_cut (c : Nat) : ∀ (s : List Nat) (k : Nat), ((cutN c s).2.2 = false ∧ idxB c s k = -1 ∧ cutN c s = (s, [], false)) ∨
    ∃ i,i < s.length ∧ idxB c s k = ((k + i:Nat):Int) ∧ cutN c s = (s.take i,s.drop (i + 1),true)
 | [],k=>by simp [cutN,idxB]
 | x :: r,k=>by
  rw [cutN,idxB]
  by_cases h:x = c
  · subst h
    right
    refine ⟨0,by simp,?_,?_⟩
    · simp
    · simp
  · have hb:Nat.beq x c = false:=by
     cases hb:Nat.beq x c
     · rfl
     · exact (h (Nat.eq_of_beq_eq_true hb)).elim
    rcases idxB_cut c r (k + 1) with ⟨h1,h2,h3⟩ | ⟨i,h1,h2,h3⟩
    · left
      rw [if_neg h,hb,cond_false,h2,h3]
      exact ⟨rfl,rfl,rfl⟩
    · right
      refine ⟨i + 1,by simpa using h1,?_,?_⟩
      · rw [hb,cond_false,h2]; omega
      · rw [if_neg h,h3]; simp
theorem splAux_cur (c:Nat):∀ (s cur:List Nat),splAux c cur s = (cur ++ (cutN c s).1) :: if (cutN c s).2.2 = true then splAux c [] (cutN c s).2.1 else []
 | [],cur=>by simp [splAux,cutN]
 | x :: r,cur=>by
  rw [splAux,cutN]
  by_cases h:x = c
  · rw [if_pos h,if_pos h]; simp
  · rw [if_neg h,if_neg h,splAux_cur c r]; simp
theorem spl_cut (c:Nat) (s:List Nat):spl c s = (cutN c s).1 :: if (cutN c s).2.2 = true then spl c (cutN c s).2.1 else []:=by
 rw [spl,splAux_cur]; rfl
theorem cntB_add (c:Nat):∀ (s:List Nat) (n:Nat),cntB c s n = n + cntB c s 0
 | [],n=>by simp [cntB]
 | x :: r,n=>by
  rw [cntB,cntB,cntB_add c r (n + 1),cntB_add c r (0 + 1),cntB_add c r n]
  cases Nat.beq x c <;> simp <;> omega
theorem splAux_cnt (c:Nat):∀ (s cur:List Nat),(splAux c cur s).length = cntB c s 0 + 1
 | [],cur=>by simp [splAux,cntB]
 | x :: r,cur=>by
  rw [splAux,cntB]
  by_cases h:x = c
  · subst h
    rw [if_pos rfl,List.length_cons,splAux_cnt _ r,Nat.beq_refl,cond_true,cntB_add _ r (0 + 1)]; omega
  · have hb:Nat.beq x c = false:=by
     cases hb:Nat.beq x c
     · rfl
     · exact (h (Nat.eq_of_beq_eq_true hb)).elim
    rw [if_neg h,splAux_cnt c r,hb,cond_false]
theorem spl_cnt (c:Nat) (s:List Nat):(spl c s).length = cntB c s 0 + 1:=splAux_cnt c s []
theorem cntB_le (c:Nat):∀ s:List Nat,cntB c s 0 ≤ s.length
 | []=>by simp [cntB]
 | x :: r=>by
  rw [cntB,cntB_add c r (0 + 1)]
  have:=cntB_le c r
  cases Nat.beq x c <;> simp <;> omega
def isD (c:Nat):Bool:=decide (48 ≤ c) && decide (c ≤ 57)
def trimL (s:List Nat):List Nat:=s.dropWhile isD
def trimR (s:List Nat):List Nat:=(s.reverse.dropWhile isD).reverse
theorem dropWhile_nil_iff {p:Nat → Bool}:∀ {s:List Nat},s.dropWhile p = [] ↔ s.all p = true
 | []=>by simp
 | x :: r=>by
  rw [List.dropWhile_cons,List.all_cons]
  cases hp:p x
  · simp
  · simp [dropWhile_nil_iff (s:=r)]
theorem trimLR_nil (s:List Nat):trimL (trimR s) = [] ↔ s.all isD = true:=by
 rw [trimL,dropWhile_nil_iff,trimR]
 constructor
 · intro h
   by_cases h2:s.reverse.dropWhile isD = []
   · rw [dropWhile_nil_iff,List.all_reverse] at h2; exact h2
   · have h3:=List.head_dropWhile_not isD h2
     rw [List.all_reverse,List.all_eq_true] at h
     rw [h _ (List.head_mem h2)] at h3
     cases h3
 · intro h
   have:s.reverse.dropWhile isD = []:=by rw [dropWhile_nil_iff,List.all_reverse]; exact h
   rw [this]; rfl
end Go.Abs
namespace Go.Abs
open Go.Proofs
set_option maxHeartbeats 4000000
set_option maxRecDepth 100000
theorem c_cutL (s:List Nat) (c:Nat) (h:s.length ≤ 1048576):GoodC Tryz.prog 232 [.str s,.str [c]] (.tup [.str (cutN c s).1,.str (cutN c s).2.1,.bool (cutN c s).2.2]):=by
 refine good_fn nf isF232 mix (by simp [Tryz.f232]) ?_
 simp [Tryz.f232]
 refine c2 (h166 s c) ?_
 rcases idxB_cut c s 0 with ⟨_,h2,h3⟩ | ⟨i,h1,h2,h3⟩
 · simp [h2,h3]
 · rw [Nat.zero_add] at h2
   have w:=wi1 (i:=i) (by omega)
   have e1:((i:Int) + 1).toNat = i + 1:=by omega
   simp [h2,h3,w,e1]
   omega
theorem c_cut (s:List Nat) (c:Nat) (h:s.length ≤ 1048576):GoodC Tryz.prog 177 [.str s,.str [c]] (.tup [.str (cutN c s).1,.str (cutN c s).2.1,.bool (cutN c s).2.2]):=by
 refine good_fn nf isF177 mix (by simp [Tryz.f177]) ?_
 simp [Tryz.f177]
 refine c2 (c_cutL s c h) ?_
 simp
theorem c_index (s:List Nat) (c:Nat):GoodC Tryz.prog 72 [.str s,.str [c]] (.int .i64 (idxB c s 0)):=by
 refine good_fn nf isF72 mix (by simp [Tryz.f72]) ?_
 simp [Tryz.f72]
 refine c2 (h166 s c) ?_
 simp
theorem c_contains (s:List Nat) (c:Nat):GoodC Tryz.prog 145 [.str s,.str [c]] (.bool (cutN c s).2.2):=by
 refine good_fn nf isF145 mix (by simp [Tryz.f145]) ?_
 simp [Tryz.f145]
 refine c2 (c_index s c) ?_
 rcases idxB_cut c s 0 with ⟨_,h2,h3⟩ | ⟨i,h1,h2,h3⟩
 · simp [h2,h3]
 · simp [h2,h3]
theorem c_genSplit (s:List Nat) (c:Nat) (h:s.length ≤ 1048576):GoodC Tryz.prog 212 [.str s,.str [c],.int .i64 0,.int .i64 (-1)] (.seq ((spl c s).map .str)):=by
 refine good_fn nf isF212 mix (by simp [Tryz.f212]) ?_
 simp [Tryz.f212]
 refine c2 (h256 s c) ?_
 have hc:=cntB_le c s
 have hn:=spl_cnt c s
 generalize cntB c s 0 = n at *
 have w1:=wi1 (i:=n) (by omega)
 have w2:=wi1 (i:=s.length) (by omega)
 have w3:IntKind.i64.wrap (n:Int) = n:=wi64 _ (by omega) (by omega)
 have e1:¬ s.length < n:=by omega
 have e2:((n:Int) + 1).toNat = n + 1:=by omega
 simp [w1,w2,w3,e1,e2,maxL]
 refine ⟨by omega,?_⟩
 refine lp (α:=Nat × List Nat × List (List Nat)) (fun (i,r,out)=>⟨[(10,.p (.int .i64 i)),(9,.sl 0 0 1 0 (n + 1)),(3,.p (.int .i64 n)),(2,.p (.int .i64 0)),(1,.p (.str [c])),(0,.p (.str r))],[.arr .exact 0 1 (out.map (fun x=>.p (.str x)) ++ List.replicate (n + 1 - i) (.p (.str [])))]⟩)
  (fun (i,r,out)=>i ≤ n ∧ out.length = i ∧ r.length ≤ s.length ∧ out ++ spl c r = spl c s) (fun (i,_,_)=>n - i) (0,s,[]) (by simp) ?_
 rintro ⟨i,r,out⟩ ⟨h1,h2,h3,h4⟩
 dsimp only at h1 h2 h3 h4 ⊢
 have hl:(spl c r).length = n - i + 1:=by have:=congrArg List.length h4; rw [List.length_append,hn] at this; omega
 have hs:=spl_cut c r
 have wi:=wi1 (i:=i) (by omega)
 by_cases hi:i < n
 · rcases idxB_cut c r 0 with ⟨_,g2,g3⟩ | ⟨k,g1,g2,g3⟩
   · rw [g3] at hs; rw [hs] at hl; simp at hl; omega
   · rw [Nat.zero_add] at g2
     rw [g3] at hs
     simp at hs
     have wk:=wi1 (i:=k) (by omega)
     have wk0:IntKind.i64.wrap (k:Int) = k:=wi64 _ (by omega) (by omega)
     have e3:((k:Int) + 1).toNat = k + 1:=by omega
     simp [hi]
     refine c2 (c_index r c) ?_
     have hset:∀ v:AV,(out.map (fun x=>AV.p (.str x)) ++ List.replicate (n + 1 - i) (AV.p (.str []))).set i v = out.map (fun x=>AV.p (.str x)) ++ v :: List.replicate (n - i) (AV.p (.str [])):=by
      intro v
      rw [List.set_append_right _ _ (by simp [h2])]
      have e:n + 1 - i = (n - i) + 1:=by omega
      rw [e,List.replicate_succ,List.length_map,h2,Nat.sub_self]
      rfl
     have hget:∃ v,(out.map (fun x=>AV.p (.str x)) ++ List.replicate (n + 1 - i) (AV.p (.str [])))[i]? = some (AV.p (.str v)):=by
      refine ⟨[],?_⟩
      rw [List.getElem?_append_right (by simp [h2]),List.length_map,h2,Nat.sub_self,List.getElem?_replicate,if_pos (by omega)]
     obtain ⟨v0,hget⟩:=hget
     have hk0:¬ (k:Int) < 0:=by omega
     simp [g2,wk,wk0,e3,wi,h2,hset,hget,hk0]
     refine ⟨by omega,by omega,⟨by omega,by omega⟩,?_⟩
     exact rd (i + 1,r.drop (k + 1),out ++ [r.take k]) ⟨hi,by simp [h2],by simp; omega,by rw [← h4,spl_cut c r,g3]; simp⟩ (h1:=by dsimp only; omega)
      (hh:=by simp [show n + 1 - (i + 1) = n - i by omega]) (hr2:=by simp [rl_p])
 · have hi:i = n:=by omega
   subst hi
   have hset:∀ v w:AV,(out.map (fun x=>AV.p (.str x)) ++ [w]).set i v = out.map (fun x=>AV.p (.str x)) ++ [v]:=by
    intro v w
    rw [List.set_append_right _ _ (by simp [h2]),List.length_map,h2,Nat.sub_self]
    rfl
   have hget:∀ w:AV,(out.map (fun x=>AV.p (.str x)) ++ [w])[i]? = some w:=by
    intro w
    rw [List.getElem?_append_right (by simp [h2]),List.length_map,h2,Nat.sub_self]
    rfl
   have hsp:spl c r = [r]:=by
    rcases idxB_cut c r 0 with ⟨g1,g2,g3⟩ | ⟨k,g1,g2,g3⟩
    · rw [spl_cut,g3]; rfl
    · rw [spl_cut,g3] at hl
      simp at hl
      have:=spl_cnt c (r.drop (k + 1))
      rw [hl] at this; simp at this
   rw [hsp] at h4
   simp [h2,hset,hget,wi,e2,← h4]
   refine ⟨by omega,?_⟩
   rw [List.take_of_length_le (by simp [h2])]
   have ea:out.map (fun x=>AV.p (.str x)) ++ [AV.p (.str r)] = (out ++ [r]).map (fun x=>AV.p (.str x)):=by simp
   have eb:out.map PV.str ++ [PV.str r] = (out ++ [r]).map PV.str:=by simp
   rw [ea,eb]
   simp only [purl_map]
   intro x _
   simp
theorem c_split (s:List Nat) (c:Nat) (h:s.length ≤ 1048576):GoodC Tryz.prog 148 [.str s,.str [c]] (.seq ((spl c s).map .str)):=by
 refine good_fn nf isF148 mix (by simp [Tryz.f148]) ?_
 simp [Tryz.f148]
 refine c4 (c_genSplit s c h) ?_
 simp
def setD:PV:=.st 329 ((List.range 256).map fun i=>.bool (isD i))
theorem c_setHas (c:Nat) (hc:c < 256):GoodC Tryz.prog 280 [.fptr setD,.int .u8 c] (.bool (isD c)):=by
 refine good_fn nf isF280 mix (by simp [Tryz.f280]) ?_
 have hg:(List.range 256)[c]? = some c:=List.getElem?_range hc
 simp [Tryz.f280,setD,hg,hc]
theorem c_trimLeftA (s:List Nat) (h:s.length ≤ 1048576) (hb:∀ c ∈ s,c < 256):GoodC Tryz.prog 243 [.str s,.fptr setD] (.str (trimL s)):=by
 refine good_fn nf isF243 mix (by simp [Tryz.f243]) ?_
 simp [Tryz.f243]
 refine lp (α:=List Nat) (fun r=>⟨[(1,.p (.fptr setD)),(0,.p (.str r))],[]⟩) (fun r=>trimL r = trimL s ∧ r.length ≤ s.length ∧ ∀ c ∈ r,c < 256) (fun r=>r.length) s (by exact ⟨rfl,Nat.le_refl _,hb⟩) ?_
 rintro r ⟨h1,h2,h3⟩
 cases r with
 | nil =>
  have e:trimL s = []:=by rw [← h1]; rfl
  simp [e]
 | cons x r =>
  have hx:=h3 x (by simp)
  have hr:trimL (x :: r) = if isD x = true then trimL r else x :: r:=by
   rw [trimL,List.dropWhile_cons]; split <;> rfl
  rw [hr] at h1
  have q2:(0:Int) < (r.length:Int) + 1:=by omega
  simp [q2]
  refine c2 (c_setHas x hx) ?_
  cases hd:isD x
  · rw [hd] at h1
    simp [← h1]
  · rw [hd] at h1
    simp
    exact rd r ⟨by simpa using h1,by simp at h2; omega,fun c hc=>h3 c (by simp [hc])⟩ (h1:=by simp)
theorem c_trimRightA (s:List Nat) (h:s.length ≤ 1048576) (hb:∀ c ∈ s,c < 256):GoodC Tryz.prog 244 [.str s,.fptr setD] (.str (trimR s)):=by
 refine good_fn nf isF244 mix (by simp [Tryz.f244]) ?_
 simp [Tryz.f244]
 refine lp (α:=List Nat) (fun r=>⟨[(1,.p (.fptr setD)),(0,.p (.str r))],[]⟩) (fun r=>trimR r = trimR s ∧ r.length ≤ s.length ∧ ∀ c ∈ r,c < 256) (fun r=>r.length) s (by exact ⟨rfl,Nat.le_refl _,hb⟩) ?_
 rintro r ⟨h1,h2,h3⟩
 rcases List.eq_nil_or_concat r with rfl | ⟨t,x,rfl⟩
 · have e:trimR s = []:=by rw [← h1]; rfl
   simp [e]
 · simp only [List.concat_eq_append] at h1 h2 h3 ⊢
   have hx:=h3 x (by simp)
   have hr:trimR (t ++ [x]) = if isD x = true then trimR t else t ++ [x]:=by
    rw [trimR,List.reverse_append,List.reverse_cons,List.reverse_nil,List.nil_append,List.singleton_append,List.dropWhile_cons]
    split
    · rfl
    · simp
   rw [hr] at h1
   have q2:(0:Int) < (t.length:Int) + 1:=by omega
   have w1:IntKind.i64.wrap (t.length:Int) = t.length:=wi64 _ (by omega) (by simp at h2; omega)
   simp [q2,w1]
   refine c2 (c_setHas x hx) ?_
   cases hd:isD x
   · rw [hd] at h1
     simp [← h1]
   · rw [hd] at h1
     simp [w1]
     exact rd t ⟨by simpa using h1,by simp at h2; omega,fun c hc=>h3 c (by simp [hc])⟩ (h1:=by simp)
end Go.Abs
namespace Go.Proofs
open Go.Abs
theorem Tryz.und160:Tryz.prog.underlying 160 = some (.pointer 162):=by kernel_rfl
theorem Tryz.und326:Tryz.prog.underlying 326 = some .unsafePointer:=by kernel_rfl
theorem Tryz.size162:(Tryz.prog.info? 162).map (·.size) = some 2:=by kernel_rfl
theorem Tryz.lies162:liesAt Tryz.prog Tryz.prog.depth 162 (2 / Tryz.prog.cellsOf 162) 0 162 1 = true:=by kernel_rfl
set_option maxHeartbeats 1000000 in
set_option maxRecDepth 100000 in
theorem Tryz.copyCheck_used (b : Nat) (w : World) (h0 : w.cell? ⟨b, 0, none⟩ = some (.pointer (some ⟨b, 0, none⟩))) :
    Calls Tryz.prog 180 #[.pointer (some ⟨b,0,none⟩)] w fun e w'=>e = .returned (.tuple #[]) ∧ w' = w:=by
 obtain ⟨j,hj,_⟩:=Option.map_eq_some_iff.1 Tryz.size162
 go_enter Tryz.func180,Tryz.ntmps180
 go_wp2
 rw [Lib.run_neq_ptr_same w _ Tryz.und160 hj]
 go_wp2
 go_end0
 exact ⟨rfl,rfl⟩
set_option maxHeartbeats 1000000 in
set_option maxRecDepth 100000 in
theorem Tryz.copyCheck_fresh (b : Nat) (w : World) (h0 : w.cell? ⟨b, 0, none⟩ = some (.pointer none)) (hsh : w.shape? b = some (162, 2)) (hfz : w.frozen? ⟨b, 0, none⟩ = false) :
    Calls Tryz.prog 180 #[.pointer (some ⟨b,0,none⟩)] w fun e w'=>e = .returned (.tuple #[]) ∧ w' = w.setCell ⟨b,0,none⟩ (.pointer (some ⟨b,0,none⟩)):=by
 obtain ⟨j,hj,hjs⟩:=Option.map_eq_some_iff.1 Tryz.size162
 go_enter Tryz.func180,Tryz.ntmps180
 go_wp2
 rw [Lib.run_to_unsafe w ⟨b,0,none⟩ Tryz.und160 Tryz.und326 hj (by rw [hjs]; decide) hsh (Nat.zero_lt_succ 1)]
 simp only [Result.andThen]
 rw [Oper.upon_value]
 go_wp2
 rw [run_callFunc_extern Tryz.func236 (by kernel_rfl) (by kernel_rfl) (by kernel_rfl) (e:=Extern.AbiNoEscape.same) (by kernel_rfl)]
 rw [Lib.run_noEscape]
 simp only [Result.andThen]
 rw [Oper.upon_value]
 go_wp2
 rw [Lib.run_from_unsafe w ⟨b,0,none⟩ Tryz.und326 Tryz.und160 hj hsh Tryz.lies162]
 simp only [Result.andThen]
 rw [Oper.upon_value]
 go_wp2
 go_end0
 exact ⟨rfl,rfl⟩
end Go.Proofs
namespace Go.Abs
open Go.Proofs
set_option linter.unusedSectionVars false
theorem szs161:szs Tryz.prog 161 = some [1,1]:=by kernel_rfl
section
variable {w:World} {Imm Prot:Nat → Prop} {β:Bd} {H:Heap}
theorem setCell_row {blk:Nat} {c0 c1 v:Value} {T:TypeId} (h:w.heap[blk]? = some (.cells #[c0,c1] T (0,0))):w.setCell ⟨blk,0,none⟩ v = w.setRow blk #[v,c1]:=by
 obtain ⟨hb,he⟩:=Array.getElem?_eq_some_iff.1 h
 unfold World.setCell World.setRow
 congr 1
 apply Array.ext
 · simp
 · intro i h1 h2
   simp only [Array.getElem_modify]
   by_cases hi:blk = i
   · subst hi; simp [he]
   · simp [hi]
theorem builder_cells {t x:AV} {cs:Array Value} (ht:t = mkSt 161 [.p .nptr,x] ∨ t = .st 161 [.p .nptr,x]) (h:AVC Tryz.prog w Imm β H t cs.toList):∃ y,cs = #[.pointer none,y] ∧ AVC Tryz.prog w Imm β H x [y]:=by
 have h':AVC Tryz.prog w Imm β H (.st 161 [.p .nptr,x]) cs.toList:=by
  rcases ht with rfl | rfl
  · exact AVC_mkSt.1 h
  · exact h
 simp only [AVC,szs161,Option.some.injEq] at h'
 obtain ⟨l,css,rfl,h1,h2⟩:=h'
 simp only [AVCl,AVC,PVC] at h1
 obtain ⟨c,cs1,rfl,rfl,_,c2,cs2,rfl,h3,h4,rfl⟩:=h1
 match c2,h4 with
 | [y],_=>exact ⟨y,Array.ext' (by simpa using h2),h3⟩
theorem builder_cells2 {b:Nat} {x:AV} {cs:Array Value} (h:AVC Tryz.prog w Imm β H (.st 161 [.ptr b [],x]) cs.toList):∃ v y,cs = #[v,y] ∧ RefV Tryz.prog β H (.ptr b []) v:=by
 simp only [AVC,szs161,Option.some.injEq] at h
 obtain ⟨l,css,rfl,h1,h2⟩:=h
 simp only [AVCl,AVC] at h1
 obtain ⟨c,cs1,rfl,⟨v,rfl,hv⟩,_,c2,cs2,rfl,h3,h4,rfl⟩:=h1
 match c2,h4 with
 | [y],_=>exact ⟨v,y,Array.ext' (by simpa using h2),hv⟩
end
theorem g180f {H : Heap} {b : Nat} {t x : AV} (hb : H[b]? = some (.box false t)) (ht : t = mkSt 161 [.p .nptr, x] ∨ t = .st 161 [.p .nptr, x]) :
    GoodI Tryz.prog 180 H [.ptr b []] (H.set b (.box false (.st 161 [.ptr b [],x]))) (.p (.tup [])):=by
 refine ⟨enters_fn Tryz.func180 (by kernel_rfl),fun w Imm Prot β cargs hr ha hre=>?_⟩
 simp only [AVVl,AVV] at ha
 obtain ⟨v,vs,rfl,⟨_,blk0,off0,oo,rfl,ho,hp⟩,rfl⟩:=ha
 simp only [pathOff,Option.some.injEq] at ho
 subst ho
 obtain ⟨rfl,rfl⟩:=hp (.inl ⟨false,t,hb⟩)
 obtain ⟨cs,T,k1,k2,k3,_,k5⟩:=hr.objs b _ hb
 have hsh:shpA t = .agg 161:=by
  rcases ht with rfl | rfl
  · exact shpA_mkSt _ _
  · rfl
 have hT:T = 162:=by
  rw [hsh] at k5
  exact beq2 (by simpa [bxB,Gl.bx,glOff] using k5)
 subst hT
 obtain ⟨y,rfl,hy⟩:=builder_cells ht k2
 have k3':¬ Imm (β.blk b) ∧ ¬ Prot (β.blk b):=by simpa [Held] using k3
 refine (Tryz.copyCheck_fresh (β.blk b) w (by simp [World.cell?,k1]) (by simp [World.shape?,k1]) (by simp [World.frozen?,k1])).mono ?_
 rintro e w' ⟨rfl,rfl⟩
 rw [setCell_row k1]
 have hst:HStep β H β (H.set b (.box false (.st 161 [.ptr b [],x]))):=set_step hb (.inl ⟨_,_,_,_,rfl,rfl⟩)
 have hin:∀ z,InH H z → InH (H.set b (.box false (.st 161 [.ptr b [],x]))) z:=InH_set hb (fun _ h=>h)
 have hbl:b < H.length:=(List.getElem?_eq_some_iff.1 hb).1
 have hg:(H.set b (.box false (.st 161 [.ptr b [],x])))[b]? = some (.box false (.st 161 [.ptr b [],x])):=List.getElem?_set_self hbl
 have hrx:refsLt (InH H) x:=by
  have:=hr.refs b _ hb
  rcases ht with rfl | rfl
  · simp only [Obj.refs] at this
    unfold mkSt at this
    split at this
    · rename_i l hl
      have hl:=allP_eq hl
      match l,hl with
      | [a,c],hl=>simp at hl; rw [hl.2]; simp [refsLt]
      | [],hl=>simp at hl
      | [_],hl=>simp at hl
      | _ :: _ :: _ :: _,hl=>simp at hl
    · simp only [refsLt,refsLtl] at this; exact this.2.1
  · simp only [Obj.refs,refsLt,refsLtl] at this; exact this.2.1
 have hsame:∀ k,Imm k → (w.setRow (β.blk b) #[.pointer (some ⟨β.blk b,0,none⟩),y]).heap[k]? = w.heap[k]?:=fun k hki=>setRow_other w _ k _ (fun he=>k3'.1 (he ▸ hki))
 have href:Obj.refs (InH (H.set b (.box false (.st 161 [.ptr b [],x])))) (.box false (.st 161 [.ptr b [],x])):=by
  simp only [Obj.refs,refsLt,refsLtl,and_true]
  exact ⟨⟨_,hg,trivial⟩,refsLt.mono hin _ hrx⟩
 have hpost:=write_post hr hb trivial (o':=.box false (.st 161 [.ptr b [],x])) trivial (fun _ h=>h) k1 (new:=#[.pointer (some ⟨β.blk b,0,none⟩),y]) k3' hst
  ⟨_,162,setRow_heap w _ _ _ 162 _ k1,by
   simp only [AVC,szs161,Option.some.injEq]
   refine ⟨_,[[.pointer (some ⟨β.blk b,0,none⟩)],[y]],rfl,?_,rfl⟩
   simp only [AVCl,AVC]
   exact ⟨_,_,rfl,⟨_,rfl,⟨rfl,_,_,0,rfl,rfl,fun _=>⟨rfl,rfl⟩⟩⟩,rfl,_,_,rfl,AVC.mono (fun _ x=>x) hsame hst _ _ hrx hy,rfl,rfl⟩,k3,by simp,by simp [shpA,bxB,Gl.bx]⟩ href
 exact ⟨_,β,Imm,rfl,hpost,by simp [AVV,PVV,PVVl],by simp [refsLt]⟩
theorem g180u {H:Heap} {b:Nat} {x:AV} (hb:H[b]? = some (.box false (.st 161 [.ptr b [],x]))):GoodI Tryz.prog 180 H [.ptr b []] H (.p (.tup [])):=by
 refine ⟨enters_fn Tryz.func180 (by kernel_rfl),fun w Imm Prot β cargs hr ha hre=>?_⟩
 simp only [AVVl,AVV] at ha
 obtain ⟨v,vs,rfl,⟨_,blk0,off0,oo,rfl,ho,hp⟩,rfl⟩:=ha
 simp only [pathOff,Option.some.injEq] at ho
 subst ho
 obtain ⟨rfl,rfl⟩:=hp (.inl ⟨false,_,hb⟩)
 obtain ⟨cs,T,k1,k2,k3,_,k5⟩:=hr.objs b _ hb
 obtain ⟨v,y,rfl,hv⟩:=builder_cells2 k2
 simp only [RefV,RefC] at hv
 obtain ⟨_,blk1,off1,oo,rfl,ho,hp⟩:=hv
 simp only [pathOff,Option.some.injEq] at ho
 subst ho
 obtain ⟨rfl,rfl⟩:=hp (.inl ⟨false,_,hb⟩)
 refine (Tryz.copyCheck_used (β.blk b) w (by simp [World.cell?,k1])).mono ?_
 rintro e w' ⟨rfl,rfl⟩
 exact ⟨_,β,Imm,rfl,Post.refl hr,by simp [AVV,PVV,PVVl],by simp [refsLt]⟩
end Go.Abs
namespace Go.Abs
open Go.Proofs
set_option linter.unusedSectionVars false
theorem und22:Tryz.prog.underlying 22 = some (.slice 168):=by kernel_rfl
theorem info168:(Tryz.prog.info? 168).map (·.size) = some 2:=by kernel_rfl
theorem size168 (w:World):(Go.sizeOf 168).run Tryz.prog w = .ok 2 w:=by
 obtain ⟨j,hj,hs⟩:=Option.map_eq_some_iff.1 info168
 simp [Go.sizeOf,typeInfo,hj,hs]
def rowM:Obj → Nat → Nat → Bool
 | .arr k v z es,ver,esz=>Nat.beq ver v && (Nat.beq esz z && (nfz k && nnl k es))
 | _,_,_=>false
def rowNE:Obj → Nat → Nat → Bool
 | .arr k v z (_ :: _),ver,esz=>Nat.beq ver v && (Nat.beq esz z && (nfz k && Nat.ble 1 z))
 | _,_,_=>false
theorem x294 {b ver esz off len b' ver' esz' off' len' : Nat} {o o' : Obj} (hne : b ≠ b') (h1 : rowM o ver esz = true) (h2 : rowNE o' ver' esz' = true) :
    GoodXE Tryz.prog 294 [.sl b ver esz off len,.sl b' ver' esz' off' len'] [(b,o),(b',o')] (.bool false):=by
 intro H w Imm Prot β cargs hr ha hre hin
 have hb:H[b]? = some o:=hin (b,o) (by simp)
 have hb':H[b']? = some o':=hin (b',o') (by simp)
 cases o <;> simp only [rowM] at h1 <;> first | cases h1 | skip
 rename_i k v z es
 simp only [Bool.and_eq_true] at h1
 obtain ⟨a1,a2,a3,a4⟩:=h1
 obtain rfl:=beq2 a1
 obtain rfl:=beq2 a2
 cases o' <;> simp only [rowNE] at h2 <;> first | cases h2 | skip
 rename_i k' v' z' es'
 cases es' with
 | nil=>simp [rowNE] at h2
 | cons e0 er =>
  simp only [rowNE,Bool.and_eq_true] at h2
  obtain ⟨c1,c2,c3,c4⟩:=h2
  obtain rfl:=beq2 c1
  obtain rfl:=beq2 c2
  have c4:=ble2 c4
  simp only [AVVl,AVV,RefV,RefC] at ha
  obtain ⟨x,xs,rfl,⟨_,hx⟩,y,ys,rfl,⟨_,hy⟩,rfl⟩:=ha
  obtain ⟨x1,_,x2⟩:=hx k es hb
  have hnn:¬ isNilArr k es:=nnl_ne a4
  have hnn':¬ isNilArr k' (e0 :: er):=fun h=>by cases h.2
  obtain ⟨y1,_,y2⟩:=hy k' (e0 :: er) hb'
  rw [x2 hnn,y2 hnn']
  rcases hr.objs b _ hb with hold | ⟨cs,T,css,rest,k1,k2,k3,k4,k5,k6,k7,k8⟩
  · exact (hnn hold).elim
  rcases hr.objs b' _ hb' with hold | ⟨cs',T',css',rest',l1,l2,l3,l4,l5,l6,l7,l8⟩
  · exact (hnn' hold).elim
  have hni:¬ Imm (β.blk b):=by
   have:k ≠ .frozen:=nfz_ne a3
   have hf:(k == AK.frozen) = false:=by simpa using this
   simp only [Held,hf,Bool.false_eq_true,if_false] at k7
   exact k7.1
  have hblk:β.blk b ≠ β.blk b':=fun he=>hne (hr.inj b b' _ _ hb hb' hnn hnn' hni he)
  refine ⟨.bool false,?_,by simp [PVV]⟩
  rw [run_callFunc_extern Tryz.func294 (by kernel_rfl) (by kernel_rfl) (by kernel_rfl) (e:=Extern.SlicesOverlaps.overlaps #[22,22] #[4]) (by kernel_rfl)]
  rw [Lib.run_overlaps_apart w 22 4 168 und22 2 size168 _ _ _ _ _ _ hblk T T' cs.size cs'.size (by simp [World.shape?,k1]) (by simp [World.shape?,l1]) ?_ (by simp [World.frozen?,k1]) (by simp [World.frozen?,k1])]
  · rfl
  · have:1 ≤ β.cap b':=by simp at l5; omega
    rw [l4]
    exact Nat.mul_ne_zero (by omega) (by omega)
def strsP:List PV → Option (List (List Nat))
 | []=>some []
 | .str s :: r=>match strsP r with
  | some t=>some (s :: t)
  | none=>none
 | _=>none
theorem strsP_ok:∀ {l:List PV} {ss:List (List Nat)},strsP l = some ss → l = ss.map .str
 | [],ss,h=>by simp only [strsP,Option.some.injEq] at h; subst h; rfl
 | v :: r,ss,h=>by
  cases v <;> simp only [strsP] at h <;> first | cases h | skip
  split at h
  · rename_i t ht
    simp only [Option.some.injEq] at h; subst h
    simp [strsP_ok ht]
  · cases h
def inI64:Int → Bool
 | .ofNat n=>Nat.ble n 9223372036854775807
 | .negSucc n=>Nat.ble n 9223372036854775807
theorem inI64_ok {n:Int} (h:inI64 n = true):-9223372036854775808 ≤ n ∧ n ≤ 9223372036854775807:=by
 cases n with
 | ofNat n=>have:=ble2 h; simp; omega
 | negSucc n=>have:=ble2 h; simp [Int.negSucc_eq]; omega
def hkO (f:FuncId) (vs:List PV):Option PV :=
 bif Nat.beq f 223 then match vs with
  | [.str s,.int .u8 (.ofNat c)]=>bif Nat.ble (c + 1) 256 then some (.int .i64 (idxB c s 0)) else none
  | _=>none
 else bif Nat.beq f 166 then match vs with
  | [.str s,.str [c]]=>some (.int .i64 (idxB c s 0))
  | _=>none
 else bif Nat.beq f 256 then match vs with
  | [.str s,.str [c]]=>some (.int .i64 (cntB c s 0:Nat))
  | _=>none
 else bif Nat.beq f 182 then match vs with
  | [.int .i64 n]=>bif inI64 n then some (.str (itoaN n)) else none
  | _=>none
 else bif Nat.beq f 159 then match vs with
  | [.lst full l,.str sep]=>match strsP l with
   | some ss=>bif Nat.ble ss.length 140737488355328 && Nat.ble (joinN sep ss).length 140737488355328 then some (.str (joinN sep ss)) else none
   | none=>none
  | [.nsl,.str _]=>some (.str [])
  | _=>none
 else bif Nat.beq f 73 then match vs with
  | [.str s,.int .i64 (.ofNat n)]=>bif Nat.ble n 9223372036854775807 && Nat.ble (s.length * n) 140737488355328 then some (.str (repN s n)) else none
  | _=>none
 else bif Nat.beq f 239 then match vs with
  | [.str s]=>match Lib.atoiAll (s.map UInt8.ofNat) with
   | .ok v=>bif Nat.ble s.length 9223372036854775806 then some (.tup [.int .i64 v,.nif]) else none
   | _=>none
  | _=>none
 else none
theorem hkO_ok {f:FuncId} {vs:List PV} {v:PV} (h:hkO f vs = some v):GoodC Tryz.prog f vs v:=by
 unfold hkO at h
 simp only [Bool.cond_eq_ite] at h
 split at h
 · rename_i hf; obtain rfl:=beq2 hf
   split at h
   · simp only [Option.ite_none_right_eq_some,Option.some.injEq] at h
     obtain ⟨h1,rfl⟩:=h
     exact h223 _ _ (ble2 h1)
   · cases h
 split at h
 · rename_i hf; obtain rfl:=beq2 hf
   split at h
   · simp only [Option.some.injEq] at h; subst h; exact h166 _ _
   · cases h
 split at h
 · rename_i hf; obtain rfl:=beq2 hf
   split at h
   · simp only [Option.some.injEq] at h; subst h; exact h256 _ _
   · cases h
 split at h
 · rename_i hf; obtain rfl:=beq2 hf
   split at h
   · simp only [Option.ite_none_right_eq_some,Option.some.injEq] at h
     obtain ⟨h1,rfl⟩:=h
     exact h182 _ (inI64_ok h1).1 (inI64_ok h1).2
   · cases h
 split at h
 · rename_i hf; obtain rfl:=beq2 hf
   split at h
   · split at h
     · rename_i ss hs
       simp only [Option.ite_none_right_eq_some,Bool.and_eq_true,Option.some.injEq] at h
       obtain ⟨⟨h1,h2⟩,rfl⟩:=h
       rw [strsP_ok hs]
       exact h159 _ _ _ (ble2 h1) (ble2 h2)
     · cases h
   · simp only [Option.some.injEq] at h; subst h; exact h159n _
   · cases h
 split at h
 · rename_i hf; obtain rfl:=beq2 hf
   split at h
   · simp only [Option.ite_none_right_eq_some,Bool.and_eq_true,Option.some.injEq] at h
     obtain ⟨⟨h1,h2⟩,rfl⟩:=h
     exact h73 _ _ (ble2 h1) (ble2 h2)
   · cases h
 split at h
 · rename_i hf; obtain rfl:=beq2 hf
   split at h
   · split at h
     · rename_i v hv
       simp only [Option.ite_none_right_eq_some,Option.some.injEq] at h
       obtain ⟨h1,rfl⟩:=h
       exact h239 _ _ hv (ble2 h1)
     · cases h
   · cases h
 cases h
def hkI (f:FuncId) (args:List AV) (H:Heap):Option (AV × Heap) :=
 bif Nat.beq f 180 then match args with
  | [.ptr b []]=>match H[b]? with
   | some (.box false (.p (.st u [.nptr,x])))=>bif Nat.beq u 161 then some (.p (.tup []),H.set b (.box false (.st 161 [.ptr b [],.p x]))) else none
   | some (.box false (.st u [.p .nptr,x]))=>bif Nat.beq u 161 then some (.p (.tup []),H.set b (.box false (.st 161 [.ptr b [],x]))) else none
   | some (.box false (.st u [.ptr b' [],_]))=>bif Nat.beq u 161 && Nat.beq b' b then some (.p (.tup []),H) else none
   | _=>none
  | _=>none
 else none
theorem hkI_ok {f:FuncId} {args:List AV} {H H':Heap} {v:AV} (h:hkI f args H = some (v,H')):GoodI Tryz.prog f H args H' v:=by
 unfold hkI at h
 simp only [Bool.cond_eq_ite] at h
 split at h
 case isFalse=>cases h
 rename_i hf; obtain rfl:=beq2 hf
 split at h
 case h_2=>cases h
 split at h
 · rename_i hb
   simp only [Option.ite_none_right_eq_some,Option.some.injEq,Prod.mk.injEq] at h
   obtain ⟨h1,rfl,rfl⟩:=h
   obtain rfl:=beq2 h1
   exact g180f hb (.inl rfl)
 · rename_i hb
   simp only [Option.ite_none_right_eq_some,Option.some.injEq,Prod.mk.injEq] at h
   obtain ⟨h1,rfl,rfl⟩:=h
   obtain rfl:=beq2 h1
   exact g180f hb (.inr rfl)
 · rename_i hb
   simp only [Option.ite_none_right_eq_some,Option.some.injEq,Prod.mk.injEq,Bool.and_eq_true] at h
   obtain ⟨⟨h1,h2⟩,rfl,rfl⟩:=h
   obtain rfl:=beq2 h1
   obtain rfl:=beq2 h2
   exact g180u hb
 · cases h
def hkX (f:FuncId) (args:List AV) (H:Heap):Option (List (Nat × Obj) × PV) :=
 bif Nat.beq f 294 then match args with
  | [.sl b ver esz _ _,.sl b' ver' esz' _ _]=>match H[b]?,H[b']? with
   | some o,some o'=>bif Nat.beq b b' then none else (bif rowM o ver esz && rowNE o' ver' esz' then some ([(b,o),(b',o')],.bool false) else none)
   | _,_=>none
  | _=>none
 else none
theorem hkX_ok {f:FuncId} {args:List AV} {H:Heap} {hin:List (Nat × Obj)} {v:PV} (h:hkX f args H = some (hin,v)):GoodXE Tryz.prog f args hin v ∧ ∀ p ∈ hin,H[p.1]? = some p.2:=by
 unfold hkX at h
 simp only [Bool.cond_eq_ite] at h
 split at h
 case isFalse=>cases h
 rename_i hf; obtain rfl:=beq2 hf
 split at h
 case h_2=>cases h
 split at h
 case h_2=>cases h
 rename_i o o' hb hb'
 split at h
 · cases h
 rename_i hne
 simp only [Option.ite_none_right_eq_some,Option.some.injEq,Prod.mk.injEq,Bool.and_eq_true] at h
 obtain ⟨⟨h1,h2⟩,rfl,rfl⟩:=h
 refine ⟨x294 (fun e=>hne (by rw [e]; exact Nat.beq_refl _)) h1 h2,?_⟩
 intro p hp
 simp only [List.mem_cons,List.not_mem_nil,or_false] at hp
 rcases hp with rfl | rfl
 · exact hb
 · exact hb'
end Go.Abs
namespace Go.Abs
open Go.Proofs
def AllFn (P:Program):List (Nat × Func) → Prop
 | []=>True
 | p :: r=>IsFn P p.1 p.2 ∧ AllFn P r
theorem lookT_ok {P:Program}:∀ {l:List (Nat × Func)},AllFn P l → ∀ {f:Nat} {fn:Func},lookT l f = some fn → IsFn P f fn
 | [],_,f,fn,h=>by simp [lookT] at h
 | (i,g) :: r,ha,f,fn,h=>by
  simp only [lookT,Bool.cond_eq_ite] at h
  split at h
  · rename_i hf
    simp only [Option.some.injEq] at h
    subst h
    rw [beq2 hf]; exact ha.1
  · exact lookT_ok ha.2 h
theorem tab_ok:AllFn Tryz.prog tabL:=⟨isF17,isF19,isF20,isF21,isF25,isF28,isF29,isF31,isF36,isF45,isF46,isF55,isF56,isF61,isF63,isF64,isF66,isF67,isF72,isF73,isF77,isF88,isF89,isF90,isF91,isF92,isF93,isF94,isF95,isF96,isF97,isF98,isF99,isF100,isF101,isF102,isF103,isF104,isF105,isF106,isF107,isF109,isF110,isF111,isF115,isF117,isF118,isF119,isF124,isF125,isF126,isF127,isF128,isF129,isF130,isF131,isF132,isF138,isF139,isF140,isF141,isF144,isF145,isF146,isF148,isF151,isF152,isF153,isF154,isF157,isF158,isF159,isF160,isF161,isF163,isF164,isF165,isF166,isF167,isF168,isF169,isF170,isF171,isF172,isF177,isF178,isF179,isF180,isF181,isF182,isF183,isF184,isF185,isF186,isF187,isF188,isF189,isF190,isF191,isF192,isF193,isF194,isF195,isF196,isF197,isF199,isF200,isF201,isF202,isF203,isF204,isF205,isF206,isF207,isF208,isF209,isF210,isF212,isF213,isF214,isF215,isF216,isF217,isF218,isF221,isF222,isF223,isF225,isF226,isF227,isF228,isF229,isF230,isF231,isF232,isF233,isF234,isF235,isF237,isF238,isF239,isF240,isF241,isF242,isF243,isF244,isF245,isF246,isF247,isF248,isF249,isF250,isF251,isF252,isF255,isF256,isF257,isF258,isF259,isF260,isF261,isF262,isF263,isF264,isF265,isF266,isF267,isF268,isF269,isF270,isF271,isF273,isF275,isF276,isF277,isF278,isF279,isF280,isF281,isF282,isF283,isF284,isF285,isF286,isF287,isF288,isF289,isF290,isF291,isF292,isF293,isF295,isF296,isF298,isF299,isF300,isF301,isF302,isF303,isF304,isF305,isF306,isF307,isF308,isF309,isF310,isF311,isF312,isF313,isF314,isF315,isF316,isF317,isF318,isF319,isF320,isF321,isF322,isF323,isF324,isF325,isF326,isF327,isF328,isF329,isF330,isF331,isF332,isF333,isF334,isF335,isF336,trivial⟩
def memN (n:Nat):List Nat → Bool
 | []=>false
 | x :: r=>bif Nat.beq n x then true else memN n r
def polL:List Nat:=[190]
def polT:List (Nat × Nat × Nat):=[(67,124,1),(46,130,3),(46,129,3),(17,91,1),(152,206,3),(146,207,3),(146,208,3),(146,209,3),(146,210,3),(210,251,3),(210,252,3),(210,249,3)]
def polF (c f:Nat):List (Nat × Nat × Nat) → Option Nat
 | []=>none
 | (a,b,n) :: r=>bif Nat.beq a c && Nat.beq b f then some n else polF c f r
def polC (c f:Nat):Nat:=match polF c f polT with
 | some n=>n
 | none=>bif memN f [124,159] then 2 else bif memN f [97,100,101] then 3 else bif memN f polL then 1 else 0
noncomputable def plan (facts:FuncId → List PV → Option PV):Plan:=⟨lookT tabL,fun f vs=>match facts f vs with
 | some v=>some v
 | none=>hkO f vs,hkI,polC,hkX⟩
theorem plan_ok {facts:FuncId → List PV → Option PV} (h:∀ f vs v,facts f vs = some v → GoodC Tryz.prog f vs v):PlanOk Tryz.prog (plan facts):=by
 refine ⟨mix,fun f fn hf=>lookT_ok tab_ok hf,fun f vs v hk=>?_,fun f args H v H' hk=>hkI_ok hk,fun f args H hin v hk=>hkX_ok hk⟩
 simp only [plan] at hk
 split at hk
 · rename_i hf
   simp only [Option.some.injEq] at hk; subst hk
   exact h _ _ _ hf
 · exact hkO_ok hk
noncomputable def run0 (facts:FuncId → List PV → Option PV) (f:FuncId) (vs:List PV):Option PV:=runP Tryz.prog nf (plan facts) (callsR Tryz.prog nf (plan facts) 20) f vs
theorem run0_ok {facts:FuncId → List PV → Option PV} (h:∀ f vs v,facts f vs = some v → GoodC Tryz.prog f vs v) {f:FuncId} {vs:List PV} {v:PV} (hr:run0 facts f vs = some v):GoodC Tryz.prog f vs v:=reckon 20 (plan_ok h) hr
def noF:FuncId → List PV → Option PV:=fun _ _=>none
end Go.Abs
namespace Go.Abs
open Go.Proofs
set_option maxRecDepth 100000
def samN:List Nat → List Nat → Bool
 | [],[]=>true
 | x :: a,y :: b=>bif Nat.beq x y then samN a b else false
 | _,_=>false
theorem samN_eq:∀ {a b:List Nat},samN a b = true → a = b
 | [],[],_=>rfl
 | [],_ :: _,h=>by simp [samN] at h
 | _ :: _,[],h=>by simp [samN] at h
 | x :: a,y :: b,h=>by
  simp only [samN,Bool.cond_eq_ite] at h
  split at h
  · rename_i hx; rw [Nat.eq_of_beq_eq_true hx,samN_eq h]
  · cases h
def samI:Int → Int → Bool
 | .ofNat a,.ofNat b=>Nat.beq a b
 | .negSucc a,.negSucc b=>Nat.beq a b
 | _,_=>false
theorem samI_eq:∀ {a b:Int},samI a b = true → a = b
 | .ofNat a,.ofNat b,h=>by simp only [samI] at h; rw [Nat.eq_of_beq_eq_true h]
 | .negSucc a,.negSucc b,h=>by simp only [samI] at h; rw [Nat.eq_of_beq_eq_true h]
 | .ofNat a,.negSucc b,h=>by simp [samI] at h
 | .negSucc a,.ofNat b,h=>by simp [samI] at h
mutual
def samV:PV → PV → Bool
 | .int .i64 a,.int .i64 b=>samI a b
 | .str a,.str b=>samN a b
 | .nsl,.nsl=>true
 | .lst f a,.lst g b=>bif Bool.xor f g then false else samL a b
 | .st u a,.st v b=>bif Nat.beq u v then samL a b else false
 | .tup a,.tup b=>samL a b
 | _,_=>false
def samL:List PV → List PV → Bool
 | [],[]=>true
 | a :: l,b :: m=>bif samV a b then samL l m else false
 | _,_=>false
end
mutual
theorem samV_eq:∀ {a b:PV},samV a b = true → a = b
 | a,b,h=>by
  unfold samV at h
  split at h
  · rw [samI_eq h]
  · rw [samN_eq h]
  · rfl
  · rename_i f a g b
    cases f <;> cases g <;> simp only [Bool.xor_self,Bool.xor_true,Bool.xor_false,Bool.not_false,cond_true,cond_false] at h
    · rw [samL_eq h]
    · cases h
    · cases h
    · rw [samL_eq h]
  · simp only [Bool.cond_eq_ite] at h
    split at h
    · rename_i hu; rw [Nat.eq_of_beq_eq_true hu,samL_eq h]
    · cases h
  · rw [samL_eq h]
  · cases h
theorem samL_eq:∀ {a b:List PV},samL a b = true → a = b
 | [],[],_=>rfl
 | [],_ :: _,h=>by simp [samL] at h
 | _ :: _,[],h=>by simp [samL] at h
 | a :: l,b :: m,h=>by
  simp only [samL,Bool.cond_eq_ite] at h
  split at h
  · rename_i hv; rw [samV_eq hv,samL_eq h]
  · cases h
end
def knownF:List (FuncId × List PV × PV) → FuncId → List PV → Option PV
 | [],_,_=>none
 | (g,us,v) :: r,f,vs=>bif Nat.beq g f then (bif samL us vs then some v else knownF r f vs) else knownF r f vs
def AllG (P:Program) [Gl]:List (FuncId × List PV × PV) → Prop
 | []=>True
 | (g,us,v) :: r=>GoodC P g us v ∧ AllG P r
theorem knownF_ok {P:Program} [Gl]:∀ {l:List (FuncId × List PV × PV)},AllG P l → ∀ f vs v,knownF l f vs = some v → GoodC P f vs v
 | [],_,f,vs,v,h=>by simp [knownF] at h
 | (g,us,w) :: r,ha,f,vs,v,h=>by
  simp only [knownF,Bool.cond_eq_ite] at h
  split at h
  · rename_i hg
    split at h
    · rename_i hs
      simp only [Option.some.injEq] at h
      subst h
      rw [← samL_eq hs,← Nat.eq_of_beq_eq_true hg]; exact ha.1
    · exact knownF_ok ha.2 f vs v h
  · exact knownF_ok ha.2 f vs v h
def isR (v:PV):Option PV → Bool
 | some w=>samV v w
 | none=>false
theorem isR_eq {v:PV} {o:Option PV} (h:isR v o = true):o = some v:=by
 cases o with
 | none=>cases h
 | some w=>rw [samV_eq h]
def isT:Option PV → Bool | some (.bool true)=>true | _=>false
theorem isT_eq {o:Option PV} (h:isT o = true):o = some (.bool true):=by
 unfold isT at h; split at h
 · rfl
 · cases h
theorem by_run {f:FuncId} {vs:List PV} {v:PV} (h:isR v (run0 noF f vs) = true):GoodC Tryz.prog f vs v:=run0_ok (fun _ _ _ h=>by cases h) (isR_eq h)
end Go.Abs
namespace Go.Abs
open Go.Proofs
set_option maxHeartbeats 4000000
set_option maxRecDepth 100000
def digS:List Nat:=[48,49,50,51,52,53,54,55,56,57]
theorem c_makeSet:GoodC Tryz.prog 242 [.str digS] (.tup [setD,.bool true]):=run0_ok (facts:=noF) (fun _ _ _ h=>by cases h) (by kernel_rfl)
theorem tzSet:tzero Tryz.prog 330 = some (.st 329 (List.replicate 256 (.bool false))):=by kernel_rfl
theorem c_trim10 (s:List Nat) (h:s.length ≤ 1048576) (hb:∀ c ∈ s,c < 256):GoodC Tryz.prog 196 [.str s,.str digS] (.str (trimL (trimR s))):=by
 refine good_fn nf isF196 mix (by simp [Tryz.f196]) ?_
 by_cases h0:s = []
 · subst h0
   simp [Tryz.f196,digS,trimL,trimR]
 simp [Tryz.f196,digS,h0]
 refine c1 c_makeSet ?_
 have hr:(trimR s).length ≤ s.length:=by
  rw [trimR,List.length_reverse]
  have:=(List.dropWhile_sublist isD (l:=s.reverse)).length_le
  simpa using this
 have hm:∀ c ∈ trimR s,c < 256:=by
  intro c hc
  rw [trimR,List.mem_reverse] at hc
  exact hb c (by simpa using (List.dropWhile_sublist isD (l:=s.reverse)).subset hc)
 simp [tzSet]
 have hsh:shp setD = .agg 329:=rfl
 refine ⟨⟨⟨hsh.symm,by rw [hsh]; intro e; cases e⟩,hsh.symm⟩,?_⟩
 refine cp (c_trimRightA s h hb) (by simp; exact ⟨rfl,rfl⟩) ?_
 simp
 refine cp (c_trimLeftA (trimR s) (by omega) hm) (by simp; exact ⟨rfl,rfl⟩) ?_
 simp
end Go.Abs
namespace Go.Proofs
open Go.Shelf
def Tryz.lays100_ren:Go.Shelf.Ren:=⟨fun | 100=>103 | 207=>183 | n=>n,fun | 9=>9 | 4=>4 | 3=>3 | n=>n,fun | n=>n⟩
def Tryz.lays101_ren:Go.Shelf.Ren:=⟨fun | 101=>238 | 208=>277 | 206=>229 | n=>n,fun | 9=>9 | 4=>4 | 3=>3 | n=>n,fun | n=>n⟩
theorem Tryz.lays101:Go.Proofs.Lays.n101 Tryz.prog Tryz.lays101_ren:={
 mixed:=by kernel_rfl
 f101:=Tryz.func238.trans (congrArg some (by kernel_rfl))
 f206:=Tryz.func229.trans (congrArg some (by kernel_rfl))
 f208:=Tryz.func277.trans (congrArg some (by kernel_rfl))
 t3:=Tryz.underlying3
 a3:=Tryz.isAgg3
 z3:=Tryz.sizeOf3
 v3:=Tryz.zeroValue3
 t4:=Tryz.underlying4
 a4:=Tryz.isAgg4
 z4:=Tryz.sizeOf4
 v4:=Tryz.zeroValue4
 t9:=Tryz.underlying9
 a9:=Tryz.isAgg9
 z9:=Tryz.sizeOf9
 v9:=Tryz.zeroValue9 }
open Go.RowKit Go.Lib in
theorem Tryz.strings_TrimPrefix (s p : ByteArray) (w : World) :
    Calls Tryz.prog 238 #[.string s,.string p] w fun e w'=>e = .returned (.string ⟨(Lib.trimPrefix s.data.toList p.data.toList).toArray⟩) ∧ w' = w:=Any.strings_TrimPrefix Tryz.lays101 s p w
end Go.Proofs
namespace Go.Abs
open Go.Proofs
theorem h238 (s p t:List Nat) (h:natsB (Lib.trimPrefix (s.map UInt8.ofNat) (p.map UInt8.ofNat)) = t):GoodC Tryz.prog 238 [.str s,.str p] (.str t):=by
 refine goodP_flat (enters_fn Tryz.func238 (by kernel_rfl)) fun w Imm cargs _ hg ha=>?_
 obtain ⟨x,y,rfl,h1,h2⟩:=PVVl_two ha
 simp only [PVV] at h1 h2
 obtain ⟨bs,rfl,rfl⟩:=h1
 obtain ⟨cs,rfl,rfl⟩:=h2
 have e1:=ofNat_natsB bs.data.toList
 have e2:=ofNat_natsB cs.data.toList
 simp only [natsB] at e1 e2
 rw [e1,e2] at h
 refine (Tryz.strings_TrimPrefix bs cs w).mono ?_
 rintro e w' ⟨rfl,rfl⟩
 exact ⟨_,rfl,⟨Nat.le_refl _,fun _ _=>rfl,rfl,rfl⟩,fun w Imm=>by rw [← h]; exact PVV_strB _⟩
end Go.Abs
namespace Go.Abs
open Go.Proofs
set_option maxHeartbeats 4000000
set_option maxRecDepth 100000
theorem parse_dig:∀ (d:List Nat) (acc:Nat),d.all isD = true → (∀ c ∈ d,c < 256) → d.foldl decV acc < 1000000000 → Lib.parseUint10 acc (d.map UInt8.ofNat) = .ok (d.foldl decV acc)
 | [],acc,_,_,_=>rfl
 | c :: r,acc,h,hb,hl=>by
  simp only [List.all_cons,Bool.and_eq_true] at h
  have hc:=h.1
  simp only [isD,Bool.and_eq_true,decide_eq_true_eq] at hc
  have hmono:∀ (r:List Nat) (a:Nat),a ≤ r.foldl decV a:=by
   intro r
   induction r with
   | nil=>intro a; exact Nat.le_refl _
   | cons x r ih=>intro a; exact Nat.le_trans (by simp only [decV]; omega) (ih _)
  have h2:=hmono r (decV acc c)
  rw [List.foldl_cons] at hl ⊢
  have e:(UInt8.ofNat c).toNat = c:=by simp; omega
  have e2:acc * 10 + (c - 48) = decV acc c:=rfl
  have h3:decV acc c < 1000000000:=by omega
  have h4:acc ≤ decV acc c:=by simp only [decV]; omega
  rw [List.map_cons,Lib.parseUint10,e,if_pos hc,if_neg (by omega),e2,if_neg (by omega)]
  exact parse_dig r _ h.2 (fun c hc=>hb c (by simp [hc])) hl
theorem atoi_dig {d:List Nat} (h:d.all isD = true) (hb:∀ c ∈ d,c < 256) (h0:d ≠ []) (h9:d.length ≤ 9):Lib.atoiAll (d.map UInt8.ofNat) = .ok (numT d):=by
 have hl:=numT_lt _ d rfl h
 have hp:10 ^ d.length ≤ 10 ^ 9:=Nat.pow_le_pow_right (by omega) h9
 cases d with
 | nil=>exact (h0 rfl).elim
 | cons c r =>
  have hc:=(Bool.and_eq_true .. ▸ (List.all_cons ▸ h):isD c = true ∧ r.all isD = true).1
  simp only [isD,Bool.and_eq_true,decide_eq_true_eq] at hc
  have e:(UInt8.ofNat c).toNat = c:=by simp; omega
  have hl9:numT (c :: r) < 1000000000:=by omega
  have hpar:=parse_dig (c :: r) 0 h hb hl9
  rw [← numT] at hpar
  rw [List.map_cons] at hpar
  rw [List.map_cons,Lib.atoiAll]
  simp only [e]
  rw [if_neg (by omega),Lib.parseMag,if_neg (by simp),hpar]
  dsimp only
  rw [if_neg (by omega),if_neg (by omega),if_neg (by omega)]
theorem atoi_neg {d:List Nat} (h:d.all isD = true) (hb:∀ c ∈ d,c < 256) (h0:d ≠ []) (h9:d.length ≤ 9):Lib.atoiAll ((45 :: d).map UInt8.ofNat) = .ok (-(numT d:Int)):=by
 have hl:=numT_lt _ d rfl h
 have hp:10 ^ d.length ≤ 10 ^ 9:=Nat.pow_le_pow_right (by omega) h9
 have hl9:numT d < 1000000000:=by omega
 have hpar:=parse_dig d 0 h hb hl9
 rw [← numT] at hpar
 have e:(UInt8.ofNat 45).toNat = 45:=rfl
 have hne:d.map UInt8.ofNat ≠ []:=by simpa using h0
 rw [List.map_cons,Lib.atoiAll]
 simp only [e]
 have hor:(45:Nat) = 43 ∨ True:=.inr trivial
 simp only [or_true,if_true]
 rw [Lib.parseMag,if_neg hne,hpar]
 dsimp only
 rw [if_neg (by simp),if_neg (by omega)]
theorem trimPre_eq {s:List Nat} (hb:∀ c ∈ s,c < 256):natsB (Lib.trimPrefix (s.map UInt8.ofNat) (([45]:List Nat).map UInt8.ofNat)) = if s.head? = some 45 then s.tail else s:=by
 have hn:∀ l:List Nat,(∀ c ∈ l,c < 256) → natsB (l.map UInt8.ofNat) = l:=by
  intro l hl
  rw [natsB,List.map_map]
  conv=>rhs; rw [← List.map_id l]
  apply List.map_congr_left
  intro c hc
  have:=hl c hc
  simp; omega
 cases s with
 | nil=>rfl
 | cons c r =>
  have hc:=hb c (by simp)
  have hr:=hn r fun c hc=>hb c (by simp [hc])
  have hcr:=hn (c :: r) hb
  rw [Lib.trimPrefix,Lib.hasPrefix]
  by_cases h:c = 45
  · subst h
    simpa using hr
  · have hne:¬ (45:UInt8) = UInt8.ofNat c:=by
     intro e
     have:=congrArg UInt8.toNat e
     simp at this; omega
    have h2:(([45]:List Nat).map UInt8.ofNat).isPrefixOf ((c :: r).map UInt8.ofNat) = false:=by
     simp only [List.map_cons,List.map_nil,List.isPrefixOf,Bool.and_eq_false_iff,beq_eq_false_iff_ne,ne_eq]
     exact .inl hne
    rw [h2]
    simpa [h] using hcr
theorem num_cons {c:Nat} (s:List Nat) (h:49 ≤ c):1 ≤ numT (c :: s):=by
 have key:∀ (s:List Nat) (a:Nat),a ≤ s.foldl decV a:=by
  intro r
  induction r with
  | nil=>intro a; exact Nat.le_refl _
  | cons x r ih=>intro a; exact Nat.le_trans (by simp only [decV]; omega) (ih _)
 have:=key s (decV 0 c)
 simp only [numT,List.foldl_cons]
 simp only [decV] at this ⊢
 omega
def okP (d:List Nat) (z:Bool):Bool:=!decide (d = []) && !decide (9 < d.length) && d.all isD && !(decide (d.head? = some 48) && z)
def intP (sign:Bool) (s:List Nat):Int × Bool:=if sign = true then (valI s,(readI s).isSome) else intR s
theorem okP_int {s:List Nat}:okP s (decide (s ≠ [48])) = plainN s:=by
 rw [okP,plainN]
 have e1:decide (s.length = 0) = decide (s = []):=by simp
 have e2:s.all digN = s.all isD:=rfl
 rw [e1,e2]
 by_cases h:s.all isD = true
 · rw [h]
   simp only [Bool.and_true]
   congr 2
   cases s with
   | nil=>simp
   | cons c r=>cases r with
    | nil=>simp
    | cons x r=>simp
 · have:s.all isD = false:=by simpa using h
   rw [this]; simp
theorem intP_eq (sign : Bool) (s d : List Nat) (hd : d = if sign = true ∧ s.head? = some 45 then s.tail else s) :
    intP sign s = if okP d (decide (s ≠ [48])) = true then (if sign = true ∧ s.head? = some 45 then -(numT d:Int) else numT d,true) else (0,false):=by
 by_cases hs:sign = true ∧ s.head? = some 45
 · rw [if_pos hs] at hd
   obtain ⟨rfl,hs2⟩:=hs
   simp only [intP,if_true,hs2,and_self]
   cases s with
   | nil=>simp at hs2
   | cons c r =>
    simp at hs2 hd
    subst hs2; subst hd
    have e1:okP d (decide ((45:Nat) :: d ≠ [48])) = (plainN d && !decide (d.head? = some 48)):=by
     have:decide ((45:Nat) :: d ≠ [48]) = true:=by simp
     rw [this,← okP_int,okP,okP]
     cases decide (d.head? = some 48) <;> simp
    rw [e1]
    have hr:readI (45 :: d) = if (intR d).2 = true ∧ (intR d).1 ≠ 0 then some (-(intR d).1) else none:=by
     have:(45 :: d:List Nat).head? = some 45:=rfl
     rw [readI,if_pos this]; rfl
    rw [valI,hr]
    by_cases hp:plainN d = true
    · have hi:intR d = ((numT d:Int),true):=by rw [intR,if_pos hp]
      rw [hi,hp]
      by_cases h48:d.head? = some 48
      · have:numT d = 0:=by
         have hq:=hp
         simp only [plainN,Bool.and_eq_true,Bool.not_eq_true',Bool.and_eq_false_iff,decide_eq_false_iff_not] at hq
         cases d with
         | nil=>simp at h48
         | cons x r =>
          simp at h48
          subst h48
          cases r with
          | nil=>rfl
          | cons y r=>simp at hq
        simp [this,h48]
      · have:numT d ≠ 0:=by
         have hq:=hp
         simp only [plainN,Bool.and_eq_true,Bool.not_eq_true',decide_eq_false_iff_not] at hq
         cases d with
         | nil=>simp at hq
         | cons x r =>
          have hx:=(Bool.and_eq_true .. ▸ (List.all_cons ▸ hq.2):digN x = true ∧ r.all digN = true).1
          simp only [digN,Bool.and_eq_true,decide_eq_true_eq] at hx
          have:x ≠ 48:=fun e=>h48 (by simp [e])
          have:=num_cons r (c:=x) (by omega)
          omega
        have h2:¬ (numT d:Int) = 0:=by omega
        simp [this,h48]
    · have hi:intR d = (0,false):=by rw [intR,if_neg hp]
      have hp:plainN d = false:=by simpa using hp
      rw [hi,hp]; simp
 · rw [if_neg hs] at hd
   rw [hd,if_neg hs,okP_int]
   clear hd
   cases sign
   · rw [intP,if_neg (by simp),intR]
   · have h45:¬ s.head? = some 45:=fun e=>hs ⟨rfl,e⟩
     have hr:readI s = if (intR s).2 = true then some (intR s).1 else none:=by rw [readI,if_neg h45]
     rw [intP,if_pos rfl,valI,hr,intR]
     by_cases hp:plainN s = true
     · simp [hp]
     · simp [hp]
theorem c_integer (s:List Nat) (sign:Bool) (h:s.length ≤ 1048576) (hb:∀ c ∈ s,c < 256):GoodC Tryz.prog 187 [.str s,.bool sign] (.tup [.int .i64 (intP sign s).1,.bool (intP sign s).2]):=by
 refine good_fn nf isF187 mix (by simp [Tryz.f187]) ?_
 obtain ⟨d,hd⟩:∃ d,d = if sign = true ∧ s.head? = some 45 then s.tail else s:=⟨_,rfl⟩
 rw [intP_eq sign s d hd]
 have hdl:d.length ≤ s.length:=by rw [hd]; split <;> simp
 have hdb:∀ c ∈ d,c < 256:=by
  intro c hc
  rw [hd] at hc
  split at hc
  · exact hb c (List.mem_of_mem_tail hc)
  · exact hb c hc
 have hT:=c_trim10 d (by omega) hdb
 have hnil:=trimLR_nil d
 have hA:okP d (decide (s ≠ [48])) = true → GoodC Tryz.prog 239 [.str s] (.tup [.int .i64 (if sign = true ∧ s.head? = some 45 then -(numT d:Int) else numT d),.nif]):=by
  intro hok
  simp only [okP,Bool.and_eq_true,Bool.not_eq_true',decide_eq_false_iff_not] at hok
  obtain ⟨⟨⟨k1,k2⟩,k3⟩,_⟩:=hok
  refine h239 s _ ?_ (by omega)
  by_cases hs:sign = true ∧ s.head? = some 45
  · rw [if_pos hs] at hd ⊢
    have:s = 45 :: d:=by
     cases s with
     | nil=>simp at hs
     | cons c r=>simp at hs hd; rw [hs.2,hd]
    rw [this]
    exact atoi_neg k3 hdb k1 (by omega)
  · rw [if_neg hs] at hd ⊢
    subst hd
    exact atoi_dig k3 hdb k1 (by omega)
 cases sign
 · simp only [Bool.false_eq_true,false_and,if_false] at hd hA ⊢
   obtain rfl:s = d:=hd.symm
   by_cases k0:s = []
   · have ok:okP s (decide (s ≠ [48])) = false:=by simp [okP,k0]
     rw [if_neg (by rw [ok]; simp)]
     simp [Tryz.f187,k0]
   by_cases k9:9 < s.length
   · have ok:okP s (decide (s ≠ [48])) = false:=by simp [okP,k9]
     have k9':(9:Int) < (s.length:Int):=by omega
     rw [if_neg (by rw [ok]; simp)]
     simp [Tryz.f187,k0,k9,k9']
   have k9':¬ (9:Int) < (s.length:Int):=by omega
   by_cases ka:s.all isD = true
   case neg =>
    have ok:okP s (decide (s ≠ [48])) = false:=by
     have:s.all isD = false:=by simpa using ka
     rw [okP,this]; simp
    have kt:¬ trimL (trimR s) = []:=fun e=>ka (hnil.1 e)
    rw [if_neg (by rw [ok]; simp)]
    simp [Tryz.f187,k0,k9,k9']
    refine c2 hT ?_
    simp [kt]
   have kt:=hnil.2 ka
   rw [kt] at hT
   obtain ⟨x,r,hx⟩:∃ x r,s = x :: r:=by
    cases s with
    | nil=>exact (k0 rfl).elim
    | cons x r=>exact ⟨x,r,rfl⟩
   have hg:s[0]? = some x:=by rw [hx]; rfl
   have hh:s.head? = some x:=by rw [hx]; rfl
   have hl0:0 < s.length:=by rw [hx]; simp
   have hg2:s[0] = x:=by simp [hx]
   by_cases kx:x = 48
   · have kx':(x:Int) = 48:=by omega
     by_cases kz:s = [48]
     · have ok:okP s (decide (s ≠ [48])) = true:=by
        have e:decide (s ≠ [48]) = false:=by simp [kz]
        rw [e]; simp only [okP,k0,k9,ka]; simp
       rw [if_pos ok]
       simp [Tryz.f187,k0,k9,k9']
       refine c2 hT ?_
       simp [hl0,hg2,kx',eq_true kz]
       refine c1 (hA ok) ?_
       simp
     · have ok:okP s (decide (s ≠ [48])) = false:=by
        have e:decide (s ≠ [48]) = true:=by simp [kz]
        rw [e]; simp only [okP,k0,k9,ka,hh,kx]; simp
       rw [if_neg (by rw [ok]; simp)]
       simp [Tryz.f187,k0,k9,k9']
       refine c2 hT ?_
       simp [hl0,hg2,kx',kz]
   · have kx':¬ (x:Int) = 48:=by omega
     have ok:okP s (decide (s ≠ [48])) = true:=by
      have:¬ (some x = some 48):=fun e=>kx (by injection e)
      simp only [okP,k0,k9,ka,hh,this]; simp
     rw [if_pos ok]
     simp [Tryz.f187,k0,k9,k9']
     refine c2 hT ?_
     simp [hl0,hg2,kx']
     refine c1 (hA ok) ?_
     simp
 · have hP:GoodC Tryz.prog 238 [.str s,.str [45]] (.str d):=h238 s [45] d (by rw [trimPre_eq hb,hd]; simp)
   by_cases k0:d = []
   · have ok:okP d (decide (s ≠ [48])) = false:=by simp [okP,k0]
     rw [if_neg (by rw [ok]; simp)]
     simp [Tryz.f187]
     refine c2 hP ?_
     simp [k0]
   by_cases k9:9 < d.length
   · have ok:okP d (decide (s ≠ [48])) = false:=by simp [okP,k9]
     have k9':(9:Int) < (d.length:Int):=by omega
     rw [if_neg (by rw [ok]; simp)]
     simp [Tryz.f187]
     refine c2 hP ?_
     simp [k0,k9,k9']
   have k9':¬ (9:Int) < (d.length:Int):=by omega
   by_cases ka:d.all isD = true
   case neg =>
    have ok:okP d (decide (s ≠ [48])) = false:=by
     have:d.all isD = false:=by simpa using ka
     rw [okP,this]; simp
    have kt:¬ trimL (trimR d) = []:=fun e=>ka (hnil.1 e)
    rw [if_neg (by rw [ok]; simp)]
    simp [Tryz.f187]
    refine c2 hP ?_
    simp [k0,k9,k9']
    refine c2 hT ?_
    simp [kt]
   have kt:=hnil.2 ka
   rw [kt] at hT
   obtain ⟨x,r,hx⟩:∃ x r,d = x :: r:=by
    cases d with
    | nil=>exact (k0 rfl).elim
    | cons x r=>exact ⟨x,r,rfl⟩
   have hg:d[0]? = some x:=by rw [hx]; rfl
   have hh:d.head? = some x:=by rw [hx]; rfl
   have hl0:0 < d.length:=by rw [hx]; simp
   have hg2:d[0] = x:=by simp [hx]
   by_cases kx:x = 48
   · have kx':(x:Int) = 48:=by omega
     by_cases kz:s = [48]
     · have ok:okP d (decide (s ≠ [48])) = true:=by
        have e:decide (s ≠ [48]) = false:=by simp [kz]
        rw [e]; simp only [okP,k0,k9,ka]; simp
       rw [if_pos ok]
       simp [Tryz.f187]
       refine c2 hP ?_
       simp [k0,k9,k9']
       refine c2 hT ?_
       simp [hl0,hg2,kx',eq_true kz]
       refine c1 (hA ok) ?_
       simp
     · have ok:okP d (decide (s ≠ [48])) = false:=by
        have e:decide (s ≠ [48]) = true:=by simp [kz]
        rw [e]; simp only [okP,k0,k9,ka,hh,kx]; simp
       rw [if_neg (by rw [ok]; simp)]
       simp [Tryz.f187]
       refine c2 hP ?_
       simp [k0,k9,k9']
       refine c2 hT ?_
       simp [hl0,hg2,kx',kz]
   · have kx':¬ (x:Int) = 48:=by omega
     have ok:okP d (decide (s ≠ [48])) = true:=by
      have:¬ (some x = some 48):=fun e=>kx (by injection e)
      simp only [okP,k0,k9,ka,hh,this]; simp
     rw [if_pos ok]
     simp [Tryz.f187]
     refine c2 hP ?_
     simp [k0,k9,k9']
     refine c2 hT ?_
     simp [hl0,hg2,kx']
     refine c1 (hA ok) ?_
     simp
end Go.Abs
namespace Go.Abs
open Go.Proofs
set_option maxHeartbeats 4000000
set_option maxRecDepth 100000
theorem c_readValues (s:List Nat) (h:s.length ≤ 1000000) (hb:∀ c ∈ s,c < 256):GoodC Tryz.prog 107 [.str s] (.tup [.seq ((readV s).1.map (.int .i64)),.bool (readV s).2]):=by
 refine good_fn nf isF107 mix (by simp [Tryz.f107]) ?_
 simp [Tryz.f107]
 refine c2 (c_split s 44 (by omega)) ?_
 have hl:=spl_len 44 s
 have hm:=fun p=>spl_mem (c:=44) (s:=s) (p:=p)
 have hv:readV s = if (spl 44 s).all (fun p=>(readI p).isSome) = true then ((spl 44 s).map valI,true) else ([],false):=rfl
 rw [hv]
 clear hv
 generalize spl 44 s = l at *
 simp
 refine lp (α:=Nat) (fun i=>⟨[(12,.p (.int .i64 i)),(11,.p (.int .i64 l.length)),(10,.p (.seq (l.map .str))),(4,.sl 0 i 1 0 i)],[.arr .grow i 1 ((l.map fun p=>.p (.int .i64 (valI p))).take i)]⟩) (fun i=>i ≤ l.length ∧ (l.take i).all (fun p=>(readI p).isSome) = true) (fun i=>l.length - i) 0 (by simp) ?_
 rintro i ⟨k1,k2⟩
 have hw:=wi1 (i:=i) (by omega)
 by_cases hi:i < l.length
 · have hm1:=hm l[i] (List.getElem_mem hi)
   have hall:(l.take (i + 1)).all (fun p=>(readI p).isSome) = (readI l[i]).isSome:=by
    rw [List.take_succ_eq_append_getElem hi,List.all_append,k2]; simp
   simp [hi]
   refine c2 (c_integer l[i] true (by omega) (fun c hc=>hb c (hm1.2 c hc))) ?_
   cases hr:(readI l[i]).isSome
   · have e:l.all (fun p=>(readI p).isSome) = false:=by
      rw [List.all_eq_false]; exact ⟨l[i],List.getElem_mem hi,by simp [hr]⟩
     simp [intP,hr,e]
   · have hl2:((l.map fun p=>AV.p (.int .i64 (valI p))).take i).length = i:=by simp; omega
     simp [intP,hr,hw,hl2]
     refine ⟨by simp only [maxL]; omega,?_⟩
     have hs:(l.map fun p=>AV.p (.int .i64 (valI p))).take (i + 1) = (l.map fun p=>AV.p (.int .i64 (valI p))).take i ++ [AV.p (.int .i64 (valI l[i]))]:=by
      rw [List.take_succ_eq_append_getElem (by simpa using hi),List.getElem_map]
     exact rd (i + 1) ⟨hi,by rw [hall]; exact hr⟩ (hh:=by simp only [hs]; simp) (hr2:=by rw [hs]; simp)
 · have:i = l.length:=by omega
   subst this
   rw [List.take_length] at k2
   simp [k2]
end Go.Abs
namespace Go.Abs
open Go.Proofs
set_option maxHeartbeats 4000000
set_option maxRecDepth 100000
def lnC:Nat → List Nat → List Nat → List (Nat × List Nat)
 | k,cur,[]=>if cur = [] then [] else [(k,cur)]
 | k,cur,x :: r=>if x = 10 then (k + 1,cur ++ [10]) :: lnC (k + 1) [] r else lnC (k + 1) (cur ++ [x]) r
def lns (s:List Nat):List (Nat × List Nat):=lnC 0 [] s
theorem lnC_cut : ∀ (t : List Nat) (k : Nat) (cur : List Nat), lnC k cur t =
    if (cutN 10 t).2.2 = true then (k + (cutN 10 t).1.length + 1,cur ++ (cutN 10 t).1 ++ [10]) :: lnC (k + (cutN 10 t).1.length + 1) [] (cutN 10 t).2.1
    else if cur ++ t = [] then [] else [(k + t.length,cur ++ t)]
 | [],k,cur=>by simp [lnC,cutN]
 | x :: r,k,cur=>by
  rw [lnC,cutN]
  by_cases h:x = 10
  · subst h; simp
  · rw [if_neg h,if_neg h,lnC_cut r]
    have e1:k + 1 + (cutN 10 r).1.length + 1 = k + ((cutN 10 r).1.length + 1) + 1:=by omega
    have e2:k + 1 + r.length = k + (r.length + 1):=by omega
    cases (cutN 10 r).2.2 <;> simp [e1,e2]
def itemL (x:Nat × List Nat):List PV:=[.int .i64 x.1,.str x.2]
theorem c_indexByte (s:List Nat) (c:Nat) (hc:c < 256):GoodC Tryz.prog 185 [.str s,.int .u8 c] (.int .i64 (idxB c s 0)):=by
 refine good_fn nf isF185 mix (by simp [Tryz.f185]) ?_
 simp [Tryz.f185]
 refine c2 (h223 s c hc) ?_
 simp
theorem c_lines (s:List Nat):GoodC Tryz.prog 104 [.str s] (.func 184 [] [.fptr (.str s)]):=by
 refine good_fn nf isF104 mix (by simp [Tryz.f104]) ?_
 simp [Tryz.f104]
 exact Wk.refl (.str s)
theorem cutN_whole (c:Nat):∀ (s:List Nat),(cutN c s).2.2 = true → s = (cutN c s).1 ++ c :: (cutN c s).2.1
 | [],h=>by simp [cutN] at h
 | x :: s,h=>by
  rw [cutN] at h ⊢
  by_cases hx:x = c
  · subst hx; simp
  · rw [if_neg hx] at h ⊢
    have:=cutN_whole c s h
    dsimp only
    rw [List.cons_append,← this]
theorem s_lines (s:List Nat) (h:s.length ≤ 1000000):Stream Tryz.prog 184 [] [.fptr (.str s)] ((lns s).map itemL):=by
 intro b k Hs H' hk hR hy he
 refine goodI_fn nf isF184 mix (by simp [Tryz.f184]) ?_
 simp [Tryz.f184]
 refine lp (α:=Nat × Nat) (fun (i,a)=>⟨[(3,.p (.int .i64 a)),(1,.p (.fptr (.str s))),(0,.map b)],Hs i⟩) (fun (i,a)=>i ≤ k ∧ a ≤ s.length ∧ (lns s).drop i = lnC a [] (s.drop a)) (fun (_,a)=>s.length - a) (0,0) (by simp [lns]) ?_ (hr:=by simp; exact (hR 0 (by omega)).2) (hr2:=(hR 0 (by omega)).1)
 rintro ⟨i,a⟩ ⟨h1,h2,h3⟩
 dsimp only at h1 h2 h3 ⊢
 rw [List.length_map] at hk
 by_cases ha:a < s.length
 · have hget:∀ x r,lnC a [] (s.drop a) = x :: r → i < (lns s).length ∧ ((lns s).map itemL)[i]? = some (itemL x) ∧ (lns s).drop (i + 1) = r:=by
    intro x r hx
    rw [hx] at h3
    have hl:i < (lns s).length:=by
     rcases Nat.lt_or_ge i (lns s).length with h | h
     · exact h
     · rw [List.drop_eq_nil_of_le h] at h3; cases h3
    rw [List.drop_eq_getElem_cons hl] at h3
    injection h3 with e1 e2
    exact ⟨hl,by rw [List.getElem?_map,List.getElem?_eq_getElem hl,e1]; rfl,e2⟩
   have hstep:∀ x r,lnC a [] (s.drop a) = x :: r → (i < k ∧ GoodY Tryz.prog b (Hs i) ((itemL x).map .p) (Hs (i + 1)) (.p (.bool true))) ∨ GoodY Tryz.prog b (Hs i) ((itemL x).map .p) H' (.p (.bool false)):=by
    intro x r hx
    obtain ⟨g1,g2,g3⟩:=hget x r hx
    by_cases hik:i < k
    · exact .inl ⟨hik,hy i _ hik g2⟩
    · have:i = k:=by omega
      subst this
      rcases he with ⟨e1,_⟩ | ⟨y,e1,e2⟩
      · rw [List.length_map] at e1; omega
      · rw [g2] at e1; injection e1 with e1; subst e1; exact .inr e2
   simp [ha]
   refine ⟨h2,?_⟩
   refine c2 (c_indexByte (s.drop a) 10 (by omega)) ?_
   have hcut:=lnC_cut (s.drop a) a []
   rcases idxB_cut 10 (s.drop a) 0 with ⟨g1,g2,g3⟩ | ⟨j,g1,g2,g3⟩
   · rw [g3] at hcut
     have hne:¬ s.drop a = []:=by simp; omega
     have el:a + (s.drop a).length = s.length:=by simp; omega
     simp only [Bool.false_eq_true,if_false,List.nil_append,hne,el] at hcut
     simp [g2]
     refine ⟨h2,?_⟩
     rcases hstep _ _ hcut with ⟨hik,hY⟩ | hY
     · refine ⟨Hs (i + 1),_,hY,?_⟩
       simp
       exact rd (i + 1,s.length) ⟨hik,Nat.le_refl _,by rw [(hget _ _ hcut).2.2]; simp [lnC]⟩ (h1:=by dsimp only; omega) (hr:=by simp; exact (hR (i + 1) (by omega)).2) (hr2:=(hR (i + 1) (by omega)).1)
     · refine ⟨H',_,hY,?_⟩
       simp
   · rw [Nat.zero_add] at g2
     have hw:=cutN_whole 10 (s.drop a) (by rw [g3])
     rw [g3] at hcut hw
     dsimp only at hw
     have hlen:((s.drop a).take j).length = j:=by simp at g1 ⊢; omega
     simp only [if_true,List.nil_append,hlen] at hcut
     simp only [List.length_drop] at g1
     have ed:(s.drop a).drop (j + 1) = s.drop (a + j + 1):=by rw [List.drop_drop]; congr 1
     rw [ed] at hcut
     have w1:IntKind.i64.wrap ((a:Int) + j) = (a:Int) + j:=wi64 _ (by omega) (by omega)
     have w2:IntKind.i64.wrap ((a:Int) + j + 1) = (a:Int) + j + 1:=wi64 _ (by omega) (by omega)
     have e2:((a:Int) + j + 1).toNat = a + j + 1:=by omega
     have e3:(((a + j + 1:Nat):Int)) = (a:Int) + j + 1:=by omega
     have hslice:(s.take (a + j + 1)).drop a = (s.drop a).take j ++ [10]:=by
      rw [List.drop_take,show a + j + 1 - a = j + 1 by omega]
      conv=>lhs; rw [hw]
      rw [List.take_append,hlen,show j + 1 - j = 1 by omega,List.take_of_length_le (by omega)]
      rfl
     have hj0:(0:Int) ≤ (j:Int):=by omega
     simp [g2,hj0,w1,w2,e2,hslice]
     refine ⟨⟨by omega,by omega,by omega⟩,?_⟩
     rcases hstep _ _ hcut with ⟨hik,hY⟩ | hY
     · simp only [itemL,List.map_cons,List.map_nil,e3] at hY
       refine ⟨Hs (i + 1),_,hY,?_⟩
       simp
       exact rd (i + 1,a + j + 1) ⟨hik,by dsimp only; omega,(hget _ _ hcut).2.2⟩ (h1:=by dsimp only; omega) (hr:=by simp; exact (hR (i + 1) (by omega)).2) (hr2:=(hR (i + 1) (by omega)).1)
     · simp only [itemL,List.map_cons,List.map_nil,e3] at hY
       refine ⟨H',_,hY,?_⟩
       simp
 · have:a = s.length:=by omega
   subst this
   simp
   have hend:i = (lns s).length ∨ i < (lns s).length:=by
    rcases Nat.lt_trichotomy i (lns s).length with h | h | h
    · exact .inr h
    · exact .inl h
    · omega
   rcases hend with hend | hend
   · left
     rcases he with ⟨_,e2⟩ | ⟨y,e1,_⟩
     · rw [e2]; congr 1; omega
     · rw [List.getElem?_eq_none (by rw [List.length_map]; omega)] at e1; cases e1
   · rw [List.drop_eq_getElem_cons hend] at h3
     simp [lnC] at h3
     omega
end Go.Abs
namespace Go.Abs
open Go.Proofs
set_option maxHeartbeats 4000000
set_option maxRecDepth 100000
def u8s (t:List Nat):List AV:=t.map fun (c:Nat)=>AV.p (.int .u8 (c:Int))
theorem u8s_len (t:List Nat):(u8s t).length = t.length:=by simp [u8s]
theorem u8s_app (a t:List Nat):u8s (a ++ t) = u8s a ++ u8s t:=by simp [u8s]
theorem u8s_bytes:∀ (t:List Nat),(∀ c ∈ t,c < 256) → bytesOf (u8s t) = some t
 | [],_=>rfl
 | c :: t,hb=>by
  have h1:=hb c (by simp)
  have:=u8s_bytes t fun c hc=>hb c (by simp [hc])
  show bytesOf (.p (.int .u8 (c:Int)) :: u8s t) = some (c :: t)
  rw [bytesOf,if_pos ⟨by omega,by omega⟩,this]
  simp
theorem g_str (a : List Nat) (v n : Nat) (hn : n = a.length) (h0 : a ≠ []) (ha : a.length ≤ 1048576) (hb : ∀ c ∈ a, c < 256) : GoodI Tryz.prog 101 [.box false (.st 161 [.ptr 0 [], .sl 1 v 1 0 n]), .arr .bytes v 1 (u8s a)] [.ptr 0 []]
    [.box false (.st 161 [.ptr 0 [],.sl 1 v 1 0 n]),.dead] (.p (.str a)):=by
 refine goodI_fn nf isF101 mix (by simp [Tryz.f101]) ?_
 have hp:0 < a.length:=List.length_pos_iff.2 h0
 simp [Tryz.f101]
 refine d_sdata (ver:=v) (es:=u8s a) rfl rfl (by rw [hn]; exact hp) (by simp [u8s,hn]) ?_
 simp
 refine d_ustr (ver:=v) (es:=u8s a) (l:=a) rfl rfl rfl (by omega) (by simp [u8s_len,hn]) (by omega) rfl ?_ ?_ ?_ ?_
 · kernel_rfl
 · kernel_rfl
 · rw [List.take_of_length_le (by rw [u8s_len]; simp [hn])]
   exact u8s_bytes a hb
 simp
 repeat' with_reducible refine And.intro ?_ ?_
 all_goals rfl
theorem c_joinW (l:List (List Nat)) (hl:l.length ≤ 1048576) (hj:(joinN [32] l).length ≤ 140737488355328):GoodC Tryz.prog 98 [.seq (l.map .str)] (.str (joinN [32] l)):=by
 refine good_fn nf isF98 mix (by simp [Tryz.f98]) ?_
 simp [Tryz.f98]
 refine c2 (c_join l [32] hl hj) ?_
 simp
theorem okN_byte:∀ (s:List Nat) (i:Nat),okN i s = true → ∀ c ∈ s,c < 256
 | [],_,_,c,hc=>by simp at hc
 | x :: s,i,h,c,hc=>by
  rw [okN] at h
  simp only [Bool.and_eq_true] at h
  rcases List.mem_cons.1 hc with rfl | hc
  · have h1:=h.1
    simp only [isLet,isDig,Bool.or_eq_true,Bool.and_eq_true,decide_eq_true_eq] at h1
    omega
  · exact okN_byte s _ h.2 c hc
theorem isName_byte {s:List Nat} (h:isName s = true):∀ c ∈ s,c < 256:=by
 simp only [isName,Bool.and_eq_true] at h
 exact okN_byte s _ h.2
end Go.Abs
namespace Go.Abs
open Go.Proofs
structure EventD where
 num:Int
 kind:List Nat
 names:List (List Nat)
 vals:List Int
 text:List Nat
 deriving DecidableEq
def eEvent (e:EventD):PV:=.st 60 [.int .i64 e.num,.str e.kind,.seq (e.names.map .str),.seq (e.vals.map (.int .i64)),.str e.text]
@[simp] theorem shp_eEvent {e:EventD}:shp (eEvent e) = .agg 60:=rfl
def kSet:List Nat:=[115,101,116]
def kMove:List Nat:=[109,111,118,101]
def kUndo:List Nat:=[117,110,100,111]
def formS (k:List Nat):Nat × Nat × Bool × Bool :=
 if k = kAdd then (1,0,true,true) else if k = kSet then (1,0,true,true) else if k = kDrop then (1,0,false,true) else if k = kMove then (1,1,false,true)
 else if k = kUndo then (0,0,false,true) else (0,0,false,false)
def withinE (n lo hi:Int):Int:=whenE (decide (n < lo) || decide (n > hi)) 3
def chkNames:List (List Nat) → Int
 | []=>0
 | s :: r=>if isName s = true then chkNames r else 8
def chkNums:List Int → Int
 | []=>0
 | n :: r=>if n < 0 ∨ n > 999999999 then 3 else chkNums r
def chkText (t:Bool) (s:List Nat):Int:=firstE [whenE (!t && !decide (s = []) || decide (10 ∈ s)) 1,whenE (decide (4096 < s.length)) 26]
def chkShape (e:EventD):Int:=firstE [withinE e.num 1 1000,whenE (!(formS e.kind).2.2.2) 13,whenE (decide (e.names.length ≠ (formS e.kind).1) || decide (e.vals.length ≠ (formS e.kind).2.1)) 2]
def chkEvent (e:EventD):Int:=firstE [chkShape e,chkNames e.names,chkNums e.vals,chkText (formS e.kind).2.2.1 e.text]
def toldE (s:List Nat):Int:=firstE [whenE (!(readV s).2) 25,whenE (decide (16 < (readV s).1.length)) 5]
def keyN (e:EventD):List Nat:=e.names.headD []
def placeN (e:EventD):Int:=e.vals.headD 0 - 1
def atK (l:List RowD) (k:List Nat):Int:=idxFrom (keyIs k) l 0
def addS (l:List RowD) (e:EventD):List RowD × Int :=
 if 0 ≤ atK l (keyN e) then ([],9)
 else if firstE [toldE e.text,whenE (decide (256 ≤ l.length)) 5] ≠ 0 then ([],firstE [toldE e.text,whenE (decide (256 ≤ l.length)) 5])
 else (l ++ [⟨keyN e,(readV e.text).1⟩],0)
def setS (l:List RowD) (e:EventD):List RowD × Int :=
 if atK l (keyN e) < 0 then ([],10)
 else if firstE [toldE e.text,whenE (decide ((l[(atK l (keyN e)).toNat]?.map (·.vals)) = some (readV e.text).1)) 9] ≠ 0 then ([],firstE [toldE e.text,whenE (decide ((l[(atK l (keyN e)).toNat]?.map (·.vals)) = some (readV e.text).1)) 9])
 else (l.set (atK l (keyN e)).toNat ⟨keyN e,(readV e.text).1⟩,0)
def dropS (l:List RowD) (e:EventD):List RowD × Int :=
 if atK l (keyN e) < 0 then ([],10) else (l.eraseIdx (atK l (keyN e)).toNat,0)
def moveE (l:List RowD) (e:EventD):Int:=firstE [whenE (decide (atK l (keyN e) < 0)) 10,withinE (placeN e) 0 (l.length - 1),whenE (decide (atK l (keyN e) = placeN e)) 9]
def moveS (l:List RowD) (e:EventD):List RowD × Int :=
 if moveE l e ≠ 0 then ([],moveE l e)
 else ((l.eraseIdx (atK l (keyN e)).toNat).insertIdx (placeN e).toNat (l[(atK l (keyN e)).toNat]?.getD ⟨[],[]⟩),0)
def stepS (l:List RowD) (e:EventD):List RowD × Int :=
 if e.kind = kAdd then addS l e else if e.kind = kSet then setS l e else if e.kind = kDrop then dropS l e else moveS l e
structure StoryD where
 evs:List EventD
 sts:List (List RowD)
def StoryD.now (d:StoryD):List RowD:=d.sts.getLast?.getD []
def acceptE (d:StoryD) (e:EventD):Int :=
 if e.num ≠ d.evs.length + 1 then 11 else if e.kind = kUndo then (if d.sts = [] then 12 else 0) else (stepS d.now e).2
def acceptD (d:StoryD) (e:EventD):StoryD:=⟨d.evs ++ [e],if e.kind = kUndo then d.sts.dropLast else d.sts ++ [(stepS d.now e).1]⟩
def addE (d:StoryD) (e:EventD):Int:=firstE [chkEvent e,acceptE d e]
def playL:List EventD → Nat → StoryD → StoryD × Int × Int
 | [],_,d=>(d,0,0)
 | e :: r,i,d=>if addE d e ≠ 0 then (d,i + 1,addE d e) else playL r (i + 1) (acceptD d e)
def playS (l:List EventD):StoryD × Int × Int:=if 1000 < l.length then (⟨[],[]⟩,0,5) else playL l 0 ⟨[],[]⟩
def replayS (l:List EventD):List RowD × Int × Int:=if (playS l).2.2 ≠ 0 then ([],(playS l).2.1,(playS l).2.2) else ((playS l).1.now,0,0)
def evB (e:EventD):Prop:=e.kind.length ≤ 1000000 ∧ e.names.length ≤ 1000 ∧ (∀ s ∈ e.names,s.length ≤ 1000000) ∧ e.vals.length ≤ 1000 ∧ e.text.length ≤ 1000000 ∧ (∀ c ∈ e.text,c < 256)
def heardE (e:EventD):Bool:=decide (e.kind.length ≤ 60) && decide (e.names.length ≤ 5) && decide (e.vals.length ≤ 5) && decide (e.text.length ≤ 300) && e.names.all fun s=>decide (s.length ≤ 60)
def heardS (l:List EventD):Bool:=l.all heardE && decide (l.length ≤ 24)
end Go.Abs
namespace Go.Abs
open Go.Proofs
@[simp] theorem ki236:kindOf Tryz.prog 236 = .leaf:=by kernel_rfl
@[simp] theorem at236:appTy Tryz.prog 236 = true:=by kernel_rfl
@[simp] theorem el236:elemOk Tryz.prog 236 = some 1:=by kernel_rfl
@[simp] theorem et236:elemType Tryz.prog 236 = 22:=by kernel_rfl
@[simp] theorem ki246:kindOf Tryz.prog 246 = .leaf:=by kernel_rfl
end Go.Abs
namespace Go.Abs
open Go.Proofs
set_option maxHeartbeats 4000000
set_option maxRecDepth 100000
theorem c_within (n lo hi:Int):GoodC Tryz.prog 128 [.int .i64 n,.int .i64 lo,.int .i64 hi] (.int .i64 (withinE n lo hi)):=by
 refine good_fn nf isF128 mix (by simp [Tryz.f128]) ?_
 by_cases h1:n < lo
 · simp [Tryz.f128,h1]
   refine c2 (c_when true 3) ?_
   simp [withinE,h1]
 · by_cases h2:hi < n
   · simp [Tryz.f128,h1,h2]
     refine c2 (c_when true 3) ?_
     simp [withinE,h1,h2]
   · simp [Tryz.f128,h1,h2]
     refine c2 (c_when false 3) ?_
     simp [withinE,h1,h2]
def kindV (f:Nat × Nat × Bool × Bool) (fn:PV):PV:=.st 229 [.int .i64 f.1,.int .i64 f.2.1,.bool f.2.2.1,fn]
def kindsE:List (PV × PV):=[(.str kAdd,kindV (1,0,true,true) (.func 207 [] [])),(.str kSet,kindV (1,0,true,true) (.func 208 [] [])),(.str kDrop,kindV (1,0,false,true) (.func 209 [] [])),(.str kMove,kindV (1,1,false,true) (.func 210 [] [])),(.str kUndo,kindV (0,0,false,true) .nfunc)]
theorem c_kinds:GoodC Tryz.prog 144 [] (.fmap kindsE):=by
 refine good_fn nf isF144 mix (by simp [Tryz.f144]) ?_
 simp [Tryz.f144,kindsE,kindV,kAdd,kSet,kDrop,kMove,kUndo]
def kindF (k:List Nat):PV:=if k = kAdd then .func 207 [] [] else if k = kSet then .func 208 [] [] else if k = kDrop then .func 209 [] [] else if k = kMove then .func 210 [] [] else .nfunc
theorem kinds_look (k:List Nat):lookupM kindsE (.str k) = some (if (formS k).2.2.2 = true then some (kindV (formS k) (kindF k)) else none):=by
 have e:∀ a b:List Nat,eqP (.str a) (.str b) = some (decide (a = b)):=fun a b=>by simp [eqP]; rw [Bool.eq_iff_iff]; simp
 by_cases h1:k = kAdd
 · subst h1; rfl
 by_cases h2:k = kSet
 · subst h2; rfl
 by_cases h3:k = kDrop
 · subst h3; rfl
 by_cases h4:k = kMove
 · subst h4; rfl
 by_cases h5:k = kUndo
 · subst h5; rfl
 have hf:formS k = (0,0,false,false):=by simp [formS,h1,h2,h3,h4,h5]
 simp only [kindsE,lookupM,e,h1,h2,h3,h4,h5,decide_false,hf,Bool.false_eq_true,if_false]
theorem c_form (k:List Nat):GoodC Tryz.prog 123 [.str k] (.tup [.int .i64 (formS k).1,.int .i64 (formS k).2.1,.bool (formS k).2.2.1,.bool (formS k).2.2.2]):=by
 refine good_fn nf isF123 mix (by simp [Tryz.f123]) ?_
 by_cases h1:k = kAdd
 · subst h1; simp [Tryz.f123,kAdd,formS]
 by_cases h2:k = kSet
 · subst h2; simp [Tryz.f123,kSet,kAdd,formS]
 by_cases h3:k = kDrop
 · subst h3; simp [Tryz.f123,kDrop,kSet,kAdd,formS]
 by_cases h4:k = kMove
 · subst h4; simp [Tryz.f123,kMove,kDrop,kSet,kAdd,formS]
 by_cases h5:k = kUndo
 · subst h5; simp [Tryz.f123,kUndo,kMove,kDrop,kSet,kAdd,formS]
 have hf:formS k = (0,0,false,false):=by simp [formS,h1,h2,h3,h4,h5]
 rw [hf]
 simp only [kAdd,kSet,kDrop,kMove,kUndo] at h1 h2 h3 h4 h5
 simp [Tryz.f123,h1,h2,h3,h4,h5]
end Go.Abs
namespace Go.Abs
open Go.Proofs
set_option maxHeartbeats 4000000
set_option maxRecDepth 100000
theorem cutN_has (c:Nat):∀ s:List Nat,(cutN c s).2.2 = decide (c ∈ s)
 | []=>by simp [cutN]
 | x :: r=>by
  rw [cutN]
  by_cases h:x = c
  · simp [h]
  · rw [if_neg h]
    have h':¬ c = x:=fun e=>h e.symm
    simp [cutN_has c r,h']
theorem c_checkEvent (e:EventD) (h:evB e):GoodC Tryz.prog 55 [eEvent e] (.int .i64 (chkEvent e)):=by
 obtain ⟨num,kind,names,vals,text⟩:=e
 obtain ⟨b1,b2,b3,b4,b5,b6⟩:=h
 dsimp only at b1 b2 b3 b4 b5 b6
 refine good_fn nf isF55 mix (by simp [Tryz.f55]) ?_
 have hlk:=kinds_look kind
 have hz:(formS kind).2.2.2 = false → formS kind = (0,0,false,false):=by
  intro h
  by_cases h1:kind = kAdd
  · subst h1; cases h
  by_cases h2:kind = kSet
  · subst h2; cases h
  by_cases h3:kind = kDrop
  · subst h3; cases h
  by_cases h4:kind = kMove
  · subst h4; cases h
  by_cases h5:kind = kUndo
  · subst h5; cases h
  simp [formS,h1,h2,h3,h4,h5]
 have hc:chkEvent ⟨num,kind,names,vals,text⟩ = firstE [firstE [withinE num 1 1000,whenE (!(formS kind).2.2.2) 13,whenE (decide (names.length ≠ (formS kind).1) || decide (vals.length ≠ (formS kind).2.1)) 2],chkNames names,chkNums vals,chkText (formS kind).2.2.1 text]:=rfl
 rw [hc]
 clear hc
 generalize formS kind = f at *
 obtain ⟨fn,fv,ft,fk⟩:=f
 dsimp only at hz hlk ⊢
 simp [Tryz.f55,eEvent,-w_seq']
 rw [w_seq']
 simp [-w_seq']
 refine join (fun s=>∃ fnv,getE s.env 1 = .ptr 0 [] ∧ getE s.env 3 = .ptr 1 [] ∧ getE s.env 4 = .p (.bool fk) ∧ s.heap = [.box false (.p (.st 60 [.int .i64 num,.str kind,.seq (names.map .str),.seq (vals.map (.int .i64)),.str text])),.box false (.p (.st 229 [.int .i64 fn,.int .i64 fv,.bool ft,fnv]))]) ?_ ?_
 · simp
   refine e0 c_kinds ?_
   cases fk
   · obtain ⟨rfl,rfl,rfl⟩:fn = 0 ∧ fv = 0 ∧ ft = false:=by
      have:=hz rfl
      simpa using this
     simp [hlk]
     rfl
   · simp [hlk,kindV]
     rfl
 rintro ⟨env,heap⟩ ⟨fnv,g1,g3,g4,hp⟩
 dsimp only at g1 g3 g4 hp
 subst hp
 refine join (fun s=>getE s.env 1 = .ptr 0 [] ∧ getE s.env 3 = .ptr 1 [] ∧ firstE [withinE num 1 1000,whenE (!fk) 13,whenE (decide (names.length ≠ fn) || decide (vals.length ≠ fv)) 2] = 0 ∧ s.heap = [.box false (.p (.st 60 [.int .i64 num,.str kind,.seq (names.map .str),.seq (vals.map (.int .i64)),.str text])),.box false (.p (.st 229 [.int .i64 fn,.int .i64 fv,.bool ft,fnv])),.arr .frozen 0 1 [.p (.int .i64 (withinE num 1 1000)),.p (.int .i64 (whenE (!fk) 13)),.p (.int .i64 (whenE (decide (names.length ≠ fn) || decide (vals.length ≠ fv)) 2))]]) ?_ ?_
 · generalize hb:(decide (names.length ≠ fn) || decide (vals.length ≠ fv)) = b
   have hcs:((names.length:Int) = fn ∧ (vals.length:Int) = fv ∧ b = false) ∨ ((names.length:Int) = fn ∧ ¬ (vals.length:Int) = fv ∧ b = true) ∨ (¬ (names.length:Int) = fn ∧ ¬ (names.length:Int) = fn ∧ b = true):=by
    rw [← hb]
    by_cases q1:names.length = fn <;> by_cases q2:vals.length = fv <;> simp [q1,q2] <;> omega
   clear hb
   rcases hcs with ⟨q1,q2,q3⟩ | ⟨q1,q2,q3⟩ | ⟨q1,q2,q3⟩
   all_goals
    simp [g1,g3,g4,q1,q2]
    refine e3 (c_within num 1 1000) ?_
    simp [g1,g3,g4,q1,q2]
    refine e2 (c_when (!fk) 13) ?_
    simp [g1,g3,g4,q1,q2]
    refine e2 (c_when b 2) ?_ (h1:=by simp [q1,q2,q3])
    simp [g1,g3,g4,q1,q2]
    refine ep (h1:=?g1) (c_first [withinE num 1 1000,whenE (!fk) 13,whenE b 2] (by simp)) (by simp; exact ⟨rfl,rfl⟩) (by simp; exact ⟨rfl,rfl⟩) ?_
    case g1=>simp
    by_cases hz:firstE [withinE num 1 1000,whenE (!fk) 13,whenE b 2] = 0
    · simp [hz,g1,g3,g4]
      rfl
    · simp [hz]
      refine ⟨rfl,?_⟩
      rw [firstE,if_neg hz]
 rintro ⟨env2,heap2⟩ ⟨h1,h3,hs,hp⟩
 dsimp only at h1 h3 hp
 subst hp
 rw [show firstE [firstE [withinE num 1 1000,whenE (!fk) 13,whenE (decide (names.length ≠ fn) || decide (vals.length ≠ fv)) 2],chkNames names,chkNums vals,chkText ft text] = firstE [chkNames names,chkNums vals,chkText ft text] by rw [firstE,if_pos hs]]
 clear hs hlk hz g1 g3 g4
 refine join (fun s=>getE s.env 1 = .ptr 0 [] ∧ getE s.env 3 = .ptr 1 [] ∧ chkNames names = 0 ∧ s.heap = [.box false (.p (.st 60 [.int .i64 num,.str kind,.seq (names.map .str),.seq (vals.map (.int .i64)),.str text])),.box false (.p (.st 229 [.int .i64 fn,.int .i64 fv,.bool ft,fnv]))]) ?_ ?_
 · simp [h1,h3]
   refine lp (α:=Nat) (fun i=>⟨[(48,.p (.int .i64 i)),(47,.p (.int .i64 names.length)),(46,.p (.seq (names.map .str))),(1,.ptr 0 []),(3,.ptr 1 [])],[.box false (.p (.st 60 [.int .i64 num,.str kind,.seq (names.map .str),.seq (vals.map (.int .i64)),.str text])),.box false (.p (.st 229 [.int .i64 fn,.int .i64 fv,.bool ft,fnv]))]⟩) (fun i=>i ≤ names.length ∧ chkNames names = chkNames (names.drop i)) (fun i=>names.length - i) 0 (by simp) ?_ (he:=by simp [h1,h3])
   rintro i ⟨k1,k2⟩
   have hw:=wi1 (i:=i) (by omega)
   by_cases hi:i < names.length
   · rw [List.drop_eq_getElem_cons hi,chkNames] at k2
     have hs:=b3 _ (List.getElem_mem hi)
     simp [hi]
     refine c1 (c_named names[i] (by omega)) ?_
     by_cases hn:isName names[i] = true
     · rw [if_pos hn] at k2
       simp [hn,whenE,hw]
       exact rd (i + 1) ⟨hi,k2⟩
     · rw [if_neg hn] at k2
       simp [hn,whenE,k2,firstE]
   · have:i = names.length:=by omega
     subst this
     rw [List.drop_length,chkNames] at k2
     simp [k2]
 rintro ⟨env3,heap3⟩ ⟨h1,h3,hs,hp⟩
 dsimp only at h1 h3 hp
 subst hp
 rw [show firstE [chkNames names,chkNums vals,chkText ft text] = firstE [chkNums vals,chkText ft text] by rw [firstE,if_pos hs]]
 clear hs
 refine join (fun s=>getE s.env 1 = .ptr 0 [] ∧ getE s.env 3 = .ptr 1 [] ∧ chkNums vals = 0 ∧ s.heap = [.box false (.p (.st 60 [.int .i64 num,.str kind,.seq (names.map .str),.seq (vals.map (.int .i64)),.str text])),.box false (.p (.st 229 [.int .i64 fn,.int .i64 fv,.bool ft,fnv]))]) ?_ ?_
 · simp [h1,h3]
   refine lp (α:=Nat) (fun i=>⟨[(61,.p (.int .i64 i)),(60,.p (.int .i64 vals.length)),(59,.p (.seq (vals.map (.int .i64)))),(1,.ptr 0 []),(3,.ptr 1 [])],[.box false (.p (.st 60 [.int .i64 num,.str kind,.seq (names.map .str),.seq (vals.map (.int .i64)),.str text])),.box false (.p (.st 229 [.int .i64 fn,.int .i64 fv,.bool ft,fnv]))]⟩) (fun i=>i ≤ vals.length ∧ chkNums vals = chkNums (vals.drop i)) (fun i=>vals.length - i) 0 (by simp) ?_ (he:=by simp [h1,h3])
   rintro i ⟨k1,k2⟩
   have hw:=wi1 (i:=i) (by omega)
   by_cases hi:i < vals.length
   · rw [List.drop_eq_getElem_cons hi,chkNums] at k2
     simp [hi]
     refine c3 (c_within vals[i] 0 999999999) ?_
     by_cases hn:vals[i] < 0 ∨ vals[i] > 999999999
     · rw [if_pos hn] at k2
       have e:withinE vals[i] 0 999999999 = 3:=by
        rcases hn with hn | hn <;> simp [withinE,whenE,hn]
       simp [e,k2,firstE]
     · rw [if_neg hn] at k2
       have e:withinE vals[i] 0 999999999 = 0:=by
        simp only [not_or] at hn
        simp [withinE,whenE,hn]
       simp [e,hw]
       exact rd (i + 1) ⟨hi,k2⟩
   · have:i = vals.length:=by omega
     subst this
     rw [List.drop_length,chkNums] at k2
     simp [k2]
 rintro ⟨env4,heap4⟩ ⟨h1,h3,hs,hp⟩
 dsimp only at h1 h3 hp
 subst hp
 rw [show firstE [chkNums vals,chkText ft text] = chkText ft text by rw [firstE,if_pos hs,chkText]; simp only [firstE]; split <;> simp_all]
 clear hs
 have hC:=c_contains text 10
 rw [cutN_has] at hC
 rw [chkText]
 by_cases q0:text = []
 · subst q0
   cases ft
   all_goals
    simp [h1,h3]
    refine e2 hC ?_
    simp
    refine e2 (c_when false 1) ?_
    simp [h1,h3]
    refine e2 (c_when false 26) ?_
    simp
    refine ep (h1:=?g1) (c_first [whenE false 1,whenE false 26] (by simp)) (by simp; exact ⟨rfl,rfl⟩) (by simp; exact ⟨rfl,rfl⟩) ?_
    case g1=>simp
    simp
    rfl
 · cases ft
   · simp [h1,h3,q0]
     refine e2 (c_when true 1) ?_
     simp [h1,h3]
     refine e2 (c_when (decide (4096 < text.length)) 26) ?_ (h1:=by simp; omega)
     simp
     refine ep (h1:=?g1) (c_first [whenE true 1,whenE (decide (4096 < text.length)) 26] (by simp)) (by simp; exact ⟨rfl,rfl⟩) (by simp; exact ⟨rfl,rfl⟩) ?_
     case g1=>simp
     simp [q0]
     rfl
   · simp [h1,h3,q0]
     refine e2 hC ?_
     simp
     refine e2 (c_when (decide (10 ∈ text)) 1) ?_
     simp [h1,h3]
     refine e2 (c_when (decide (4096 < text.length)) 26) ?_ (h1:=by simp; omega)
     simp
     refine ep (h1:=?g1) (c_first [whenE (decide (10 ∈ text)) 1,whenE (decide (4096 < text.length)) 26] (by simp)) (by simp; exact ⟨rfl,rfl⟩) (by simp; exact ⟨rfl,rfl⟩) ?_
     case g1=>simp
     simp
     rfl
end Go.Abs
namespace Go.Abs
open Go.Proofs
set_option maxHeartbeats 4000000
set_option maxRecDepth 100000
theorem c_checkEventR (e:EventD) (h:evB e):GoodC Tryz.prog 38 [eEvent e] (.int .i64 (chkEvent e)):=by
 obtain ⟨num,kind,names,vals,text⟩:=e
 obtain ⟨b1,b2,b3,b4,b5,b6⟩:=h
 dsimp only at b1 b2 b3 b4 b5 b6
 refine good_fn nf isF38 mix (by simp [Tryz.f38]) ?_
 have hF:=c_form kind
 have hc:chkEvent ⟨num,kind,names,vals,text⟩ = firstE [firstE [withinE num 1 1000,whenE (!(formS kind).2.2.2) 13,whenE (decide (names.length ≠ (formS kind).1) || decide (vals.length ≠ (formS kind).2.1)) 2],chkNames names,chkNums vals,chkText (formS kind).2.2.1 text]:=rfl
 rw [hc]
 clear hc
 generalize formS kind = f at *
 obtain ⟨fn,fv,ft,fk⟩:=f
 dsimp only at hF ⊢
 have hH:∀ (a b c:Int),withinE a b c = whenE (decide (a < b) || decide (c < a)) 3:=fun _ _ _=>rfl
 simp [Tryz.f38,eEvent,-w_seq']
 rw [w_seq']
 simp [-w_seq']
 refine join (fun s=>getE s.env 1 = .ptr 0 [] ∧ withinE num 1 1000 = 0 ∧ s.heap = [.box false (.p (.st 60 [.int .i64 num,.str kind,.seq (names.map .str),.seq (vals.map (.int .i64)),.str text]))]) ?_ ?_
 · simp
   refine c3 (c_out _ _ _) ?_
   by_cases ho:num < 1 ∨ 1000 < num
   · have e:withinE num 1 1000 = 3:=by
      rcases ho with hn | hn <;> simp [withinE,whenE,hn]
     have e2:(decide (num < 1) || decide (1000 < num)) = true:=by simpa using ho
     simp [e,e2,firstE]
   · have e:withinE num 1 1000 = 0:=by
      simp only [not_or] at ho
      simp [withinE,whenE,ho]
     have e2:(decide (num < 1) || decide (1000 < num)) = false:=by simpa using ho
     simp [e,e2]
 rintro ⟨env,heap⟩ ⟨g1,hs1,hp⟩
 dsimp only at g1 hp
 subst hp
 rw [w_seq']
 simp [-w_seq',g1]
 refine c1 hF ?_
 simp [-w_seq']
 refine join (fun s=>getE s.env 1 = .ptr 0 [] ∧ getE s.env 3 = .p (.int .i64 fn) ∧ getE s.env 4 = .p (.int .i64 fv) ∧ getE s.env 5 = .p (.bool ft) ∧ fk = true ∧ s.heap = [.box false (.p (.st 60 [.int .i64 num,.str kind,.seq (names.map .str),.seq (vals.map (.int .i64)),.str text]))]) ?_ ?_
 · cases fk
   · simp [hs1,firstE,whenE]
   · simp [g1]
 rintro ⟨env,heap⟩ ⟨g1,g3,g4,g5,rfl,hp⟩
 dsimp only at g1 g3 g4 g5 hp
 subst hp
 refine join (fun s=>getE s.env 1 = .ptr 0 [] ∧ getE s.env 3 = .p (.int .i64 fn) ∧ getE s.env 4 = .p (.int .i64 fv) ∧ getE s.env 5 = .p (.bool ft) ∧ names.length = fn ∧ vals.length = fv ∧ s.heap = [.box false (.p (.st 60 [.int .i64 num,.str kind,.seq (names.map .str),.seq (vals.map (.int .i64)),.str text]))]) ?_ ?_
 · by_cases q1:names.length = fn
   · by_cases q2:vals.length = fv
     · have q1':(names.length:Int) = fn:=by omega
       have q2':(vals.length:Int) = fv:=by omega
       simp [g1,g3,g4,g5,q1',q2']
       exact ⟨q1,q2⟩
     · have q1':(names.length:Int) = fn:=by omega
       have q2':¬ (vals.length:Int) = fv:=by omega
       simp [g1,g3,g4,g5,q1',q2',hs1,q1,q2,firstE,whenE]
   · have q1':¬ (names.length:Int) = fn:=by omega
     simp [g1,g3,g4,g5,q1',hs1,q1,firstE,whenE]
 rintro ⟨env,heap⟩ ⟨g1,g3,g4,g5,q1,q2,hp⟩
 dsimp only at g1 g3 g4 g5 hp
 subst hp
 subst q1
 subst q2
 rw [show firstE [firstE [withinE num 1 1000,whenE (!true) 13,whenE (decide (names.length ≠ names.length) || decide (vals.length ≠ vals.length)) 2],chkNames names,chkNums vals,chkText ft text] = firstE [chkNames names,chkNums vals,chkText ft text] by simp [firstE,hs1,whenE]]
 clear hs1 hF
 refine join (fun s=>getE s.env 1 = .ptr 0 [] ∧ getE s.env 4 = .p (.int .i64 vals.length) ∧ getE s.env 5 = .p (.bool ft) ∧ chkNames names = 0 ∧ s.heap = [.box false (.p (.st 60 [.int .i64 num,.str kind,.seq (names.map .str),.seq (vals.map (.int .i64)),.str text]))]) ?_ ?_
 · simp [g1,g3,g4,g5]
   refine lp (α:=Nat) (fun i=>⟨[(7,.p (.int .i64 i)),(1,.ptr 0 []),(3,.p (.int .i64 names.length)),(4,.p (.int .i64 vals.length)),(5,.p (.bool ft))],[.box false (.p (.st 60 [.int .i64 num,.str kind,.seq (names.map .str),.seq (vals.map (.int .i64)),.str text]))]⟩) (fun i=>i ≤ names.length ∧ chkNames names = chkNames (names.drop i)) (fun i=>names.length - i) 0 (by simp) ?_ (he:=by simp [g1,g3,g4,g5])
   rintro i ⟨k1,k2⟩
   have hw:=wi1 (i:=i) (by omega)
   by_cases hi:i < names.length
   · rw [List.drop_eq_getElem_cons hi,chkNames] at k2
     have hs:=b3 _ (List.getElem_mem hi)
     simp [hi]
     refine c1 (c_refIsName names[i] (by omega)) ?_
     by_cases hn:isName names[i] = true
     · rw [if_pos hn] at k2
       simp [hn,hw]
       exact rd (i + 1) ⟨hi,k2⟩
     · rw [if_neg hn] at k2
       simp [hn,k2,firstE]
   · have:i = names.length:=by omega
     subst this
     rw [List.drop_length,chkNames] at k2
     simp [k2]
 rintro ⟨env,heap⟩ ⟨g1,g4,g5,hs,hp⟩
 dsimp only at g1 g4 g5 hp
 subst hp
 rw [show firstE [chkNames names,chkNums vals,chkText ft text] = firstE [chkNums vals,chkText ft text] by rw [firstE,if_pos hs]]
 clear hs
 refine join (fun s=>getE s.env 1 = .ptr 0 [] ∧ getE s.env 5 = .p (.bool ft) ∧ chkNums vals = 0 ∧ s.heap = [.box false (.p (.st 60 [.int .i64 num,.str kind,.seq (names.map .str),.seq (vals.map (.int .i64)),.str text]))]) ?_ ?_
 · simp [g1,g4,g5]
   refine lp (α:=Nat) (fun i=>⟨[(8,.p (.int .i64 i)),(1,.ptr 0 []),(4,.p (.int .i64 vals.length)),(5,.p (.bool ft))],[.box false (.p (.st 60 [.int .i64 num,.str kind,.seq (names.map .str),.seq (vals.map (.int .i64)),.str text]))]⟩) (fun i=>i ≤ vals.length ∧ chkNums vals = chkNums (vals.drop i)) (fun i=>vals.length - i) 0 (by simp) ?_ (he:=by simp [g1,g4,g5])
   rintro i ⟨k1,k2⟩
   have hw:=wi1 (i:=i) (by omega)
   by_cases hi:i < vals.length
   · rw [List.drop_eq_getElem_cons hi,chkNums] at k2
     simp [hi]
     refine c3 (c_out _ _ _) ?_
     by_cases hn:vals[i] < 0 ∨ vals[i] > 999999999
     · rw [if_pos hn] at k2
       have e:(decide (vals[i] < 0) || decide (999999999 < vals[i])) = true:=by simpa using hn
       simp [e,k2,firstE]
     · rw [if_neg hn] at k2
       have e:(decide (vals[i] < 0) || decide (999999999 < vals[i])) = false:=by simpa using hn
       simp [e,hw]
       exact rd (i + 1) ⟨hi,k2⟩
   · have:i = vals.length:=by omega
     subst this
     rw [List.drop_length,chkNums] at k2
     simp [k2]
 rintro ⟨env,heap⟩ ⟨g1,g5,hs,hp⟩
 dsimp only at g1 g5 hp
 subst hp
 rw [show firstE [chkNums vals,chkText ft text] = chkText ft text by rw [firstE,if_pos hs,chkText]; simp only [firstE]; split <;> simp_all]
 clear hs
 rw [chkText]
 refine join (fun s=>getE s.env 1 = .ptr 0 [] ∧ (ft = true ∨ text = []) ∧ s.heap = [.box false (.p (.st 60 [.int .i64 num,.str kind,.seq (names.map .str),.seq (vals.map (.int .i64)),.str text]))]) ?_ ?_
 · cases ft
   · by_cases q0:text = []
     · subst q0
       simp [g1,g5]
     · simp [g1,g5,q0,firstE,whenE]
   · simp [g1,g5]
 rintro ⟨env,heap⟩ ⟨g1,hq,hp⟩
 dsimp only at g1 hp
 subst hp
 have hq2:(!ft && !decide (text = [])) = false:=by
  rcases hq with rfl | rfl <;> simp
 rw [hq2,Bool.false_or]
 refine join (fun s=>getE s.env 1 = .ptr 0 [] ∧ 10 ∉ text ∧ s.heap = [.box false (.p (.st 60 [.int .i64 num,.str kind,.seq (names.map .str),.seq (vals.map (.int .i64)),.str text]))]) ?_ ?_
 · simp [g1]
   refine lp (α:=Nat) (fun i=>⟨[(9,.p (.int .i64 i)),(1,.ptr 0 [])],[.box false (.p (.st 60 [.int .i64 num,.str kind,.seq (names.map .str),.seq (vals.map (.int .i64)),.str text]))]⟩) (fun i=>i ≤ text.length ∧ 10 ∉ text.take i) (fun i=>text.length - i) 0 (by simp) ?_ (he:=by simp [g1])
   rintro i ⟨k1,k2⟩
   have hw:=wi1 (i:=i) (by omega)
   by_cases hi:i < text.length
   · by_cases hn:text[i] = 10
     · have hm:10 ∈ text:=hn ▸ List.getElem_mem hi
       have hn':((text[i]:Nat):Int) = 10:=by omega
       simp [hi,hn',hm,firstE,whenE]
     · have hn':¬ ((text[i]:Nat):Int) = 10:=by omega
       simp [hi,hn',hw]
       refine rd (i + 1) ⟨hi,?_⟩
       rw [List.take_succ_eq_append_getElem hi,List.mem_append]
       simp only [List.mem_singleton,not_or]
       exact ⟨k2,fun e=>hn e.symm⟩
   · have:i = text.length:=by omega
     subst this
     rw [List.take_length] at k2
     simp [k2]
 rintro ⟨env,heap⟩ ⟨g1,hm,hp⟩
 dsimp only at g1 hp
 subst hp
 by_cases hl:4096 < text.length
 · have hl':(4096:Int) < text.length:=by omega
   simp [g1,hm,hl,hl',firstE,whenE]
 · have hl':¬ (4096:Int) < text.length:=by omega
   simp [g1,hm,hl,hl',firstE,whenE]
end Go.Abs
namespace Go.Abs
open Go.Proofs
set_option maxHeartbeats 4000000
set_option maxRecDepth 100000
theorem g_at1 (r:RowD) (k:List Nat):GoodI Tryz.prog 293 [.box false (.p (.str k))] [.p (eRow r),.ptr 0 []] [.box false (.p (.str k))] (.p (.bool (decide (r.key = k)))):=by
 refine goodI_fn nf isF293 mix (by simp [Tryz.f293]) ?_
 by_cases h:r.key = k
 · simp [Tryz.f293,eRow,h]
   refine ForgetN.og (by simp) (by simp) (by simp) (by simp) (by simp)
 · simp [Tryz.f293,eRow,h]
   refine ForgetN.og (by simp) (by simp) (by simp) (by simp) (by simp)
@[simp] def rowsX (l:List RowD):Obj:=.arr .exact 0 2 (l.map (AV.p ∘ eRow))
theorem g_indexRow (l:List RowD) (k:List Nat) (h:l.length ≤ 1048576):GoodI Tryz.prog 292 [rowsX l,.box false (.p (.str k))] [.sl 0 0 2 0 l.length,.func 293 [] [.ptr 1 []]] [rowsX l,.box false (.p (.str k))] (.p (.int .i64 (atK l k))):=by
 refine goodI_fn nf isF292 mix (by simp [Tryz.f292]) ?_
 simp [Tryz.f292,rowsX]
 refine lp (α:=Nat) (fun i=>⟨[(8,.p (.int .i64 i)),(7,.p (.int .i64 l.length)),(1,.func 293 [] [.ptr 1 []]),(0,.sl 0 0 2 0 l.length)],[.arr .exact 0 2 (l.map (AV.p ∘ eRow)),.box false (.p (.str k))]⟩) (fun i=>i ≤ l.length ∧ atK l k = idxFrom (keyIs k) (l.drop i) i) (fun i=>l.length - i) 0 (by simp [atK]) ?_
 rintro i ⟨k1,k2⟩
 have hw:=wi1 (i:=i) (by omega)
 by_cases hi:i < l.length
 · rw [List.drop_eq_getElem_cons hi,idxFrom] at k2
   simp [hi]
   refine cf (g_at1 l[i] k) [1] ?_
   by_cases hk:l[i].key = k
   · simp [keyIs,hk] at k2
     simp [hk,k2,setAll]
   · simp [keyIs,hk] at k2
     simp [hk,hw,setAll]
     exact rd (i + 1) ⟨hi,k2⟩
 · have:i = l.length:=by omega
   subst this
   simp [idxFrom] at k2
   simp [k2]
theorem g_at (l:List RowD) (k:List Nat) (h:l.length ≤ 1048576):GoodI Tryz.prog 249 [rowsX l] [.sl 0 0 2 0 l.length,.p (.str k)] [rowsX l] (.p (.int .i64 (atK l k))):=by
 refine goodI_fn nf isF249 mix (by simp [Tryz.f249]) ?_
 simp [Tryz.f249]
 refine cf (g_indexRow l k h) [0,1] ?_
 simp [setAll]
 refine ForgetN.og (by simp) (by simp) (by simp) (by simp) (by simp)
theorem c_told (e:EventD) (h:evB e):GoodC Tryz.prog 250 [eEvent e] (.tup [.seq ((readV e.text).1.map (.int .i64)),.int .i64 (toldE e.text)]):=by
 refine good_fn nf isF250 mix (by simp [Tryz.f250]) ?_
 simp [Tryz.f250,eEvent]
 refine c1 (c_readValues e.text (by have:=h.2.2.2.2.1; omega) h.2.2.2.2.2) ?_
 simp
 refine c2 (c_when (!(readV e.text).2) 25) ?_
 simp
 refine c2 (c_when (decide (16 < (readV e.text).1.length)) 5) ?_ (h1:=by simp; omega)
 simp
 refine cp (h1:=?g1) (c_first [whenE (!(readV e.text).2) 25,whenE (decide (16 < (readV e.text).1.length)) 5] (by simp)) (by simp; exact ⟨rfl,rfl⟩) ?_
 case g1=>simp
 simp [toldE]
end Go.Abs
