import Derived.Test.YthckccalfpnmaaaGreatDoorPD
import Derived.Test.YthckccalfpnmaaaGreatDoorThE
import Derived.Test.YthckccalfpnmaaaGreatDoorPC
import Derived.Test.YthckccalfpnmaaaGreatDoorPA
/- Parts of a proof. -/
set_option linter.unusedSimpArgs false
set_option linter.unusedVariables false
set_option linter.unusedSectionVars false
namespace Go.Abs
open Go.Proofs
set_option maxHeartbeats 4000000
set_option maxRecDepth 100000
theorem rndW_take {h:List VerD} {l:List (List Nat)} {i:Nat} (hi:i < h.length):rndW (h.take (i + 1)) l = rndWStep (rndW (h.take i) l) h[i]:=by
 rw [rndW,List.take_succ_eq_append_getElem hi,List.foldl_append]; rfl
theorem rndStep_len (l:List (List Nat)) (v:VerD):(rndWStep l v).length ≤ l.length + 1:=by
 rw [rndWStep]; split
 · rw [(insS_perm (l:=l) (k:=v.name)).length_eq]; simp
 · omega
theorem c_wholeR (h:List VerD) (hb:histB h) (ok:HistOk h):GoodC Tryz.prog 135 [.seq (h.map rVer)] (.seq ((wholeL h).map .str)):=by
 refine good_fn nf isF135 mix (by simp [Tryz.f135]) ?_
 have hlen:h.length ≤ 256:=ok.len
 simp [Tryz.f135]
 refine lp (α:=Nat × PV × List (List Nat)) (fun (n,cf,L)=>⟨[(4,.p (.int .i64 n)),(3,.p cf),(0,.p (.seq (h.map rVer)))],[]⟩)
  (fun (n,cf,L)=>n ≤ h.length ∧ L = rndsW h n ∧ L.length ≤ n * h.length ∧ Wk cf (.seq (L.map .str))) (fun (n,_)=>h.length - n) (0,.nsl,[]) ⟨by simp,rfl,by simp,by simp [Wk]⟩ ?_ (he:=by simp)
 rintro ⟨n,cf,L⟩ ⟨k1,k2,k3,k4⟩
 dsimp only at k1 k2 k3 k4 ⊢
 have hw:=wi1 (i:=n) (by omega)
 by_cases hn:n < h.length
 · have hnz:(n:Int) < (h.length:Int):=by omega
   have hb1:n * h.length ≤ 65536:=Nat.le_trans (Nat.mul_le_mul (show n ≤ 256 by omega) hlen) (by omega)
   simp [hnz,hn]
   refine lp (α:=Nat × PV × List (List Nat)) (fun (i,cf,L)=>⟨[(5,.p (.int .i64 i)),(4,.p (.int .i64 n)),(3,.p cf),(0,.p (.seq (h.map rVer)))],[]⟩)
    (fun (i,cf,L)=>i ≤ h.length ∧ L = rndW (h.take i) (rndsW h n) ∧ L.length ≤ n * h.length + i ∧ Wk cf (.seq (L.map .str))) (fun (i,_)=>h.length - i) (0,cf,L) ⟨by simp,by simpa [rndW] using k2,by simpa using k3,k4⟩ ?_ (he:=by simp)
   clear k2 k3 k4
   rintro ⟨i,cf,L⟩ ⟨q1,q2,q3,q4⟩
   dsimp only at q1 q2 q3 q4 ⊢
   have hw2:=wi1 (i:=i) (by omega)
   by_cases hi:i < h.length
   · have hiz:(i:Int) < (h.length:Int):=by omega
     have hE:=rVer_eq h[i]
     have hpl:=ok.par h[i] (List.getElem_mem hi)
     have hsl:=rndStep_len L h[i]
     have hrt:=rndW_take (l:=rndsW h n) hi
     rw [← q2] at hrt
     simp [hiz,hi,hE]
     refine c2 (c_hasWord L h[i].name (by omega)) ?_ (h1:=q4)
     simp
     refine lp (α:=Nat) (fun j=>⟨[(7,.p (.int .i64 j)),(6,.p (.bool (!decide (h[i].name ∈ L) && (h[i].parents.take j).all fun p=>decide (p ∈ L)))),(5,.p (.int .i64 i)),(4,.p (.int .i64 n)),(3,.p cf),(0,.p (.seq (h.map rVer)))],[]⟩)
      (fun j=>j ≤ h[i].parents.length) (fun j=>h[i].parents.length - j) 0 (by simp) ?_ (he:=by simp)
     rintro j z1
     have hw3:=wi1 (i:=j) (by omega)
     by_cases hj:j < h[i].parents.length
     · have hjz:(j:Int) < (h[i].parents.length:Int):=by omega
       have hat:(h[i].parents.take (j + 1)).all (fun p=>decide (p ∈ L)) = ((h[i].parents.take j).all (fun p=>decide (p ∈ L)) && decide (h[i].parents[j] ∈ L)):=by
        rw [List.take_succ_eq_append_getElem hj,List.all_append]; simp
       generalize hB:(!decide (h[i].name ∈ L) && (h[i].parents.take j).all fun p=>decide (p ∈ L)) = B
       cases B with
       | false =>
        simp [hjz,hj,hi,hE,hw3]
        refine rd (j + 1) hj (he:=?_)
        rw [hat,← Bool.and_assoc,hB]
        simp
       | true =>
        simp [hjz,hj,hi,hE]
        refine c2 (c_hasWord L h[i].parents[j] (by omega)) ?_ (h1:=q4)
        simp [hw3]
        refine rd (j + 1) hj (he:=?_)
        rw [hat,← Bool.and_assoc,hB]
        simp
     · have:j = h[i].parents.length:=by omega
       subst this
       rw [List.take_length]
       generalize hB:(!decide (h[i].name ∈ L) && h[i].parents.all fun p=>decide (p ∈ L)) = B
       rw [rndWStep,hB] at hrt hsl
       cases B with
       | false =>
        simp at hrt
        simp [hi,hE,hw2]
        exact rd (i + 1,cf,L) ⟨hi,hrt.symm,by dsimp only; omega,q4⟩ (h1:=by dsimp only; omega)
       | true =>
        simp at hrt hsl
        simp [hi,hE]
        refine c2 (c_insert L h[i].name (by omega)) ?_ (h1:=q4)
        simp [hw2]
        exact rd (i + 1,.seq ((insS L h[i].name).map .str),insS L h[i].name) ⟨hi,hrt.symm,by dsimp only; omega,Wk.refl _⟩ (h1:=by dsimp only; omega)
   · have:i = h.length:=by omega
     subst this
     simp [hw]
     refine rd (n + 1,cf,L) ⟨hn,by rw [q2,List.take_length]; rfl,by dsimp only; rw [Nat.add_mul]; omega,q4⟩ (h1:=by dsimp only; omega)
 · have:n = h.length:=by omega
   subst this
   rw [rnds_whole ok] at k2
   subst k2
   simp [k4]
end Go.Abs
namespace Go.Abs
open Go.Proofs
set_option maxHeartbeats 4000000
set_option maxRecDepth 100000
theorem wholeL_len {h:List VerD} (ok:HistOk h):(wholeL h).length ≤ 256:=by
 have h1:=List.length_filter_le (fun v:VerD=>wholeS h v.name) h
 have:=ok.len
 simp only [wholeL,namesV,List.length_map]; omega
theorem whole_dec {h:List VerD} (ok:HistOk h) (a:List Nat):decide (a ∈ wholeL h) = wholeS h a:=by
 rw [Bool.eq_iff_iff,decide_eq_true_eq,wholeL_mem ok]
theorem c_checkName (h:List VerD) (k:List Nat) (hb:histB h) (ok:HistOk h):GoodC Tryz.prog 48 [.seq (h.map rVer),.str k] (.int .i64 (nameE h k)):=by
 refine good_fn nf isF48 mix (by simp [Tryz.f48]) ?_
 have hlen:h.length ≤ 256:=ok.len
 have hwl:=wholeL_len ok
 simp [Tryz.f48]
 refine c2 (c_at h k (by omega)) ?_
 rcases at_find h k with ⟨hx,hat⟩ | ⟨x,hx,hat,hv⟩
 · simp [hat,nameE,hx,firstE,whenE]
 · have hxz:¬ (x:Int) < 0:=by omega
   simp only [hat]
   generalize (x:Int) = xz at hxz
   simp [hxz]
   refine c1 (c_wholeR h hb ok) ?_
   simp
   refine c2 (c_hasWord (wholeL h) k (by omega)) ?_
   rw [whole_dec ok]
   cases hq:wholeS h k <;> simp [nameE,hv,hq,firstE,whenE]
end Go.Abs
namespace Go.Abs
open Go.Proofs
set_option maxHeartbeats 4000000
set_option maxRecDepth 100000
theorem c_bookCopied (b:BookD) (h:bookB b):GoodC Tryz.prog 205 [eBook b] (eBook b):=by
 refine good_fn nf isF205 mix (by simp [Tryz.f205]) ?_
 obtain ⟨nm,rows⟩:=b
 simp [Tryz.f205,eBook]
 refine e2 (c_mappedRR rows h.2) ?_
 simp
 try rfl
theorem c_verCopied (v:VerD) (h:verB v):GoodC Tryz.prog 131 [eVer v] (eVer v):=by
 refine good_fn nf isF131 mix (by simp [Tryz.f131]) ?_
 obtain ⟨nm,lv,ps,bk⟩:=v
 simp [Tryz.f131,eVer_mk]
 refine e1 (c_cloneS ps h.2.1) ?_
 simp
 refine e1 (c_bookCopied bk h.2.2.2) ?_
 simp
 exact ⟨⟨rfl,rfl,rfl⟩,rfl,rfl⟩
theorem g_mappedVV (l:List VerD) (h:histB l):GoodI Tryz.prog 130 [] [.p (.seq (l.map eVer)),.p (.func 131 [] [])] [.arr .grow l.length 5 (l.map (AV.p ∘ eVer))] (.sl 0 l.length 5 0 l.length):=by
 refine goodI_fn nf isF130 mix (by simp [Tryz.f130]) ?_
 have hl:=h.1
 simp [Tryz.f130]
 refine lp (α:=Nat) (fun i=>⟨[(10,.p (.int .i64 i)),(9,.p (.int .i64 l.length)),(8,.p (.seq (l.map eVer))),(5,.sl 0 i 5 0 i),(1,.p (.func 131 [] []))],[.arr .grow i 5 ((l.map fun r=>.p (eVer r)).take i)]⟩) (fun i=>i ≤ l.length) (fun i=>l.length - i) 0 (by simp) ?_
 rintro i k1
 by_cases hi:i < l.length
 · have hw:=wi1 (i:=i) (by omega)
   have ht:=take_next (fun r=>AV.p (eVer r)) hi
   simp [hi]
   refine c1 (c_verCopied l[i] (h.2 _ (List.getElem_mem hi))) ?_
   simp
   refine ⟨⟨by omega,by simp only [maxL]; omega⟩,?_⟩
   exact rd (i + 1) hi (he:=by simp [hw]) (hh:=by simp [ht]) (hr2:=by simp [ht])
 · have:i = l.length:=by omega
   subst this
   simp [oneOf,Function.comp_def]
theorem sortV_len (l:List VerD):(sortV l).length = l.length:=by
 rw [sortV,(foldl_insVr_perm l []).length_eq]; simp
theorem sz_hist:szs Tryz.prog 75 = some [1]:=by kernel_rfl
def frzV (S:List VerD) (n:Nat):Obj:=if S = [] then .arr .grow n 5 [] else .arr .frozen n 5 (S.map (AV.p ∘ eVer))
theorem g_levelsS (S : List VerD) (n : Nat) (hn : n = S.length) (ha : AscV S) (hb : histB S) :
    GoodI Tryz.prog 132 [.arr .grow n 5 (S.map (AV.p ∘ eVer))] [.st 75 [.sl 0 n 5 0 n]] [frzV S n] (.p (.int .i64 (whenE (lvlBad S) 11))):=by
 subst hn
 have hc:=c_checkLevels S ha hb
 rw [eHist] at hc
 cases S with
 | nil=>exact hc.inSt (vs':=.nsl) isF132.enters sz_hist (by simp [purL,purA,frzV]) rfl (by simp [Wk])
 | cons v r =>
  refine hc.inSt (vs':=.lst false ((v :: r).map eVer)) isF132.enters sz_hist ?_ rfl (by simp [Wk])
  have hal:allP (r.map (AV.p ∘ eVer)) = some (r.map eVer):=by
   have:=allP_map (r.map eVer)
   simpa using this
  simp [purL,purA,frzV,hal]
end Go.Abs
namespace Go.Abs
open Go.Proofs
set_option maxHeartbeats 4000000
set_option maxRecDepth 100000
theorem g_sorted2 (o : Obj) (v0 : Nat) (ps : List (List Nat)) (xs : List VerD) (n : Nat) (hn : n = xs.length) (hne : xs ≠ []) (hl : xs.length ≤ 1048576) (hnd : (namesV xs).Nodup) (ho : o = .arr .frozen v0 1 (ps.map (AV.p ∘ PV.str))) :
    GoodI Tryz.prog 129 [o,.arr .grow n 5 (xs.map (AV.p ∘ eVer))] [.sl 1 n 5 0 n] [o,.arr .grow n 5 ((sortV xs).map (AV.p ∘ eVer))] (.st 75 [.sl 1 n 5 0 n]):=by
 subst hn
 refine goodI_fn nf isF129 mix (by simp [Tryz.f129]) ?_
 simp [Tryz.f129]
 refine ci (g_sortV (b:=1) (ver:=xs.length) (xs:=xs) rfl hne hl hnd) ?_
 simp [oneOf]
 subst ho
 refine ForgetN.og (by simp) (by simp) (by simp) (by simp) (by simp)
def joinP (h:List VerD) (a b nm:List Nat):List VerD × List (List Nat) × Int :=
 if openE h [a,b] ≠ 0 then ([],[],openE h [a,b]) else joinH h a b nm ((verAt h a).getD zVer) ((verAt h b).getD zVer)
theorem open_at {h:List VerD} {l:List (List Nat)} (hz:openE h l = 0):chkHist h = 0 ∧ ∀ k ∈ l,∃ v,verAt h k = some v ∧ wholeS h k = true:=by
 rw [openE,firstE_zero] at hz
 refine ⟨hz _ List.mem_cons_self,?_⟩
 have h2:=hz _ (List.mem_cons_of_mem _ List.mem_cons_self)
 clear hz
 induction l with
 | nil=>intro k hk; cases hk
 | cons x r ih =>
  rw [namesE] at h2
  by_cases hn:nameE h x = 0
  · rw [if_pos hn] at h2
    intro k hk
    rcases List.mem_cons.1 hk with rfl | hk
    · rw [nameE,firstE_zero] at hn
      have e1:=hn _ List.mem_cons_self
      have e2:=hn _ (List.mem_cons_of_mem _ List.mem_cons_self)
      rw [whenE_zero (by omega)] at e1 e2
      cases hv:verAt h k with
      | none=>rw [hv] at e1; simp at e1
      | some v=>exact ⟨v,rfl,by simpa using e2⟩
    · exact ih h2 k hk
  · rw [if_neg hn] at h2; exact absurd h2 hn
theorem bestF_mem:∀ (l:List VerD) (b:Option VerD) (v:VerD),bestF l b = some v → v ∈ l ∨ b = some v
 | [],b,v,h=>.inr h
 | u :: r,b,v,h=>by
  rcases bestF_mem r _ v (show bestF r _ = some v from h) with h1 | h1
  · exact .inl (List.mem_cons_of_mem _ h1)
  · cases b with
    | none=>simp at h1; subst h1; exact .inl List.mem_cons_self
    | some x =>
     simp only at h1
     split at h1
     · cases h1; exact .inl List.mem_cons_self
     · exact .inr h1
theorem base_mem {h:List VerD} {a b:List Nat} {v:VerD} (hv:baseS h a b = some v):v ∈ h:=by
 rcases bestF_mem _ _ _ hv with h1 | h1
 · exact (List.mem_filter.1 h1).1
 · cases h1
theorem base_ok {h:List VerD} (ok:HistOk h) (hb:histB h) {a b:List Nat} {x:VerD} (hx:x ∈ h):bookB (baseB h a b x) ∧ rowsI (baseB h a b x).rows ∧ (keysOf (baseB h a b x).rows).Nodup ∧ (baseB h a b x).rows.length ≤ 1000:=by
 rw [baseB]
 cases hv:baseS h a b with
 | none=>exact ⟨⟨(hb.2 x hx).2.2.2.1,by simp,by simp⟩,by simp [rowsI],by simp [keysOf],by simp⟩
 | some v =>
  have hm:=base_mem hv
  have z:=chkBook_zero (ok.bok v hm)
  exact ⟨(hb.2 v hm).2.2.2,chkRows_I z,(chkRows_iff.1 z).2.2,by have:=(chkRows_iff.1 z).1; simp only; omega⟩
theorem c_join_ok (h : List VerD) (hb : histB h) (a b nm : List Nat) (hnm : nm.length ≤ 1048576) (hz : openE h [a, b] = 0) (x y : VerD) (hx : verAt h a = some x) (hy : verAt h b = some y) :
    GoodC Tryz.prog 46 [eHist h,.str a,.str b,.str nm] (.tup [eHist (joinH h a b nm x y).1,.seq ((joinH h a b nm x y).2.1.map .str),.int .i64 (joinH h a b nm x y).2.2]):=by
 refine good_fn nf isF46 mix (by simp [Tryz.f46]) ?_
 have hz1:=(open_at hz).1
 have ok:=histOk hz1
 have hlen:h.length ≤ 256:=ok.len
 have hO:=g_openN h hb [a,b] (by simp) 0 hz
 simp [eHist] at hO
 have lx:=ok.lev x (verAt_mem hx).1
 have ly:=ok.lev y (verAt_mem hy).1
 have hmx:max x.level y.level ≤ 256:=by omega
 have hmn:1 ≤ max x.level y.level:=by omega
 have hmi:(if x.level < y.level then y.level else x.level) = max x.level y.level:=by
  rw [Int.max_def]; split <;> split <;> omega
 have hcz:decide ((256:Int) ≤ (h.length:Int)) = decide (256 ≤ h.length):=by rw [decide_eq_decide]; omega
 have hwl:IntKind.i64.wrap (max x.level y.level + 1) = max x.level y.level + 1:=by rw [wi64] <;> omega
 rw [← hmi] at hwl
 simp [Tryz.f46,eHist]
 refine cf hO [2] ?_
 simp [sig]
 refine c2 (c_findV h nm ok.asc (by omega)) ?_
 simp
 refine c2 (c_findV h a ok.asc (by omega)) ?_
 simp
 refine c2 (c_findV h b ok.asc (by omega)) ?_
 rw [hx,hy]
 simp [eVer_eq x,eVer_eq y,hwl]
 refine e1 (c_named nm hnm) ?_
 simp
 refine e2 (c_when (verAt h nm).isSome 9) ?_
 simp
 have hAa:=g_ancestors ok (memoL h [a,b]) a
 have hAb:=g_ancestors ok (memoL h [a,b]) b
 simp only [eHist] at hAa hAb
 have ma:=ancM_mem ok a b
 have mb:=ancM_mem ok b a
 refine ef hAa [5,4] ?_
 have hjE:∀ t:Bool,t = (ancS h a b || ancS h b a) → firstE [whenE (!isName nm) 8,whenE (verAt h nm).isSome 9,whenE t 19,whenE (decide (256 ≤ h.length)) 5,withinE (max x.level y.level + 1) 1 256] = joinE h a b nm x y:=fun t ht=>by rw [ht]; rfl
 have hne:(ancS h a b || ancS h b a) = true → joinE h a b nm x y ≠ 0:=by
  intro ht he
  rw [← hjE _ rfl,ht,firstE_zero] at he
  have:=he (whenE true 19) (by simp)
  simp [whenE] at this
 have hJe:joinE h a b nm x y ≠ 0 → joinH h a b nm x y = ([],[],joinE h a b nm x y):=fun he=>by rw [joinH,if_pos he]
 cases q1:ancS h a b with
 | true =>
  simp only [q1,iff_true] at ma
  have hE:=hjE true (by rw [q1]; rfl)
  have hn:=hne (by rw [q1]; rfl)
  rw [hJe hn]
  simp [sig,look_seen,ma]
  refine e2 (c_when true 19) ?_
  simp
  refine e2 (c_when (decide (256 ≤ h.length)) 5) ?_ (h1:=by rw [← hcz]; exact Wk.refl _)
  simp
  refine e3 (c_within (max x.level y.level + 1) 1 256) ?_ (h1:=by rw [hmi]; exact Wk.refl _)
  simp
  refine ep (h1:=?g1) (c_first [whenE (!isName nm) 8,whenE (verAt h nm).isSome 9,whenE true 19,whenE (decide (256 ≤ h.length)) 5,withinE (max x.level y.level + 1) 1 256] (by simp)) (by simp; exact ⟨rfl,rfl⟩) (by simp; exact ⟨rfl,rfl⟩) ?_
  case g1=>simp
  rw [hE]
  simp [hn]
  exact ⟨rfl,rfl⟩
 | false =>
  simp only [q1,iff_false,Bool.false_eq_true] at ma
  simp [sig,look_seen,ma]
  refine ef hAb [5,4] ?_
  cases q2:ancS h b a with
  | true =>
   simp only [q2,iff_true] at mb
   have hE:=hjE true (by rw [q1,q2]; rfl)
   have hn:=hne (by rw [q1,q2]; rfl)
   rw [hJe hn]
   simp [sig,look_seen,mb]
   refine e2 (c_when true 19) ?_
   simp
   refine e2 (c_when (decide (256 ≤ h.length)) 5) ?_ (h1:=by rw [← hcz]; exact Wk.refl _)
   simp
   refine e3 (c_within (max x.level y.level + 1) 1 256) ?_ (h1:=by rw [hmi]; exact Wk.refl _)
   simp
   refine ep (h1:=?g1) (c_first [whenE (!isName nm) 8,whenE (verAt h nm).isSome 9,whenE true 19,whenE (decide (256 ≤ h.length)) 5,withinE (max x.level y.level + 1) 1 256] (by simp)) (by simp; exact ⟨rfl,rfl⟩) (by simp; exact ⟨rfl,rfl⟩) ?_
   case g1=>simp
   rw [hE]
   simp [hn]
   exact ⟨rfl,rfl,rfl,rfl⟩
  | false =>
   simp only [q2,iff_false,Bool.false_eq_true] at mb
   have hE:=hjE false (by rw [q1,q2]; rfl)
   simp [sig,look_seen,mb]
   refine e2 (c_when false 19) ?_
   simp
   refine e2 (c_when (decide (256 ≤ h.length)) 5) ?_ (h1:=by rw [← hcz]; exact Wk.refl _)
   simp
   refine e3 (c_within (max x.level y.level + 1) 1 256) ?_ (h1:=by rw [hmi]; exact Wk.refl _)
   simp
   refine ep (h1:=?g1) (c_first [whenE (!isName nm) 8,whenE (verAt h nm).isSome 9,whenE false 19,whenE (decide (256 ≤ h.length)) 5,withinE (max x.level y.level + 1) 1 256] (by simp)) (by simp; exact ⟨rfl,rfl⟩) (by simp; exact ⟨rfl,rfl⟩) ?_
   case g1=>simp
   rw [hE]
   by_cases hn:¬ joinE h a b nm x y = 0
   · rw [hJe hn]
     simp [hn]
     exact ⟨rfl,rfl,rfl,rfl⟩
   replace hn:joinE h a b nm x y = 0:=by simpa using hn
   have hBx:eBook x.book = .st 23 [.str x.book.name,.seq (x.book.rows.map eRow)]:=rfl
   simp [hn,hBx]
   refine ⟨⟨rfl,rfl,rfl,rfl⟩,?_⟩
   have hG:=g_base ok (memoL h [a,b]) a b
   simp only [eHist] at hG
   refine cf hG [5,4] ?_
   have cx:chkBook x.book = 0:=ok.bok x (verAt_mem hx).1
   have cy:chkBook y.book = 0:=ok.bok y (verAt_mem hy).1
   have bx:=(hb.2 x (verAt_mem hx).1).2.2.2
   have byy:=(hb.2 y (verAt_mem hy).1).2.2.2
   have hBB:bookB (baseB h a b x) ∧ rowsI (baseB h a b x).rows ∧ (keysOf (baseB h a b x).rows).Nodup ∧ (baseB h a b x).rows.length ≤ 1000:=base_ok ok hb (verAt_mem hx).1
   have zx:=chkBook_zero cx
   have zy:=chkBook_zero cy
   have hM:=c_merge (baseB h a b x) x.book y.book hBB.1 bx byy hBB.2.1 (chkRows_I zx) (chkRows_I zy) hBB.2.2.1 (chkRows_iff.1 zx).2.2 (chkRows_iff.1 zy).2.2 hBB.2.2.2 (by have:=(chkRows_iff.1 zx).1; omega) (by have:=(chkRows_iff.1 zy).1; omega)
   rw [resP_eq] at hM
   have mB:=mergeC_B (x:=baseB h a b x) bx byy (by have:=(chkRows_iff.1 zx).1; omega) (by have:=(chkRows_iff.1 zy).1; omega)
   have hJ : joinH h a b nm x y = if (mergeC (baseB h a b x) x.book y.book).2.2 ≠ 0 then ([], [], (mergeC (baseB h a b x) x.book y.book).2.2)
       else if lvlBad (sortV (h ++ [joinV a b nm x y (mergeC (baseB h a b x) x.book y.book).1])) = true then ([],[],29)
       else (sortV (h ++ [joinV a b nm x y (mergeC (baseB h a b x) x.book y.book).1]),(mergeC (baseB h a b x) x.book y.book).2.1,0):=by
    rw [joinH,if_neg (by simpa using hn)]
   have hNone:verAt h nm = none:=by
    have h1:=hn
    rw [joinE,firstE_zero] at h1
    have h2:=h1 (whenE (verAt h nm).isSome 9) (by simp)
    rw [whenE_zero (by omega)] at h2
    cases hq:verAt h nm with
    | none=>rfl
    | some v=>rw [hq] at h2; simp at h2
   have hWk : ∀ B, (match baseS h a b with
       | some v=>B = eBook v.book
       | none=>B = .st 23 [.str x.book.name,.nsl]) → Wk B (eBook (baseB h a b x)):=by
    intro B hB
    cases hbs:baseS h a b with
    | none=>rw [hbs] at hB; subst hB; simp [baseB,hbs,eBook,Wk,Wkl]
    | some v=>rw [hbs] at hB; subst hB; simp only [baseB,hbs]; exact Wk.refl _
   generalize hMM:mergeC (baseB h a b x) x.book y.book = M at *
   obtain ⟨mb',mc,me⟩:=M
   dsimp only at hM mB hJ
   obtain ⟨J,hJv⟩:∃ J,J = joinV a b nm x y mb':=⟨_,rfl⟩
   rw [← hJv] at hJ
   have hJe2:eVer J = .st 147 [.str nm,.int .i64 (max x.level y.level + 1),.seq [.str a,.str b],eBook mb']:=by rw [hJv]; rfl
   have hxl:(h ++ [J]).length = h.length + 1:=by simp
   have hxnd:(namesV (h ++ [J])).Nodup:=ins_nodup ok.asc (v:=J) (by rw [hJv]; exact hNone)
   have hjB:verB J:=by
    rw [hJv]
    refine ⟨hnm,by simp [joinV],?_,mB.1⟩
    intro p hp
    simp only [joinV,List.mem_cons,List.not_mem_nil,or_false] at hp
    rcases hp with rfl | rfl
    · rw [← (verAt_mem hx).2]; exact (hb.2 x (verAt_mem hx).1).1
    · rw [← (verAt_mem hy).2]; exact (hb.2 y (verAt_mem hy).1).1
   have hS0:=g_sorted2 (.arr .frozen 0 1 (([a,b]:List (List Nat)).map (AV.p ∘ PV.str))) 0 [a,b] (h ++ [J]) (h.length + 1) hxl.symm (by simp) (by rw [hxl]; omega) hxnd rfl
   have hS:=GoodI.frzE (P:=Tryz.prog) (f:=129) (u:=147) (v0:=0) (n:=h.length + 1) (z:=5) (ps:=[.str a,.str b]) (es:=h.map eVer) (pre:=[.str nm,.int .i64 (max x.level y.level + 1)]) (post:=[eBook mb']) (args:=[.sl 1 (h.length + 1) 5 0 (h.length + 1)]) (by simp) (by simpa [hJe2] using hS0)
   have hSB:histB (sortV (h ++ [J])):=⟨by rw [sortV_len,hxl]; omega,fun v hv=>by
    rw [sortV_mem] at hv
    rcases List.mem_append.1 hv with h1 | h1
    · exact hb.2 _ h1
    · rw [List.mem_singleton] at h1; subst h1; exact hjB⟩
   have hSl:(sortV (h ++ [J])).length = h.length + 1:=by rw [sortV_len,hxl]
   have hgL:=g_levelsS (sortV (h ++ [J])) (h.length + 1) hSl.symm (sortV_asc hxnd) hSB
   have hSne:sortV (h ++ [J]) ≠ []:=fun e=>by rw [e] at hSl; simp at hSl
   rw [frzV,if_neg hSne] at hgL
   generalize sortV (h ++ [J]) = S at *
   have hST:List.take (h.length + 1) (S.map (AV.p ∘ eVer)) = S.map (AV.p ∘ eVer):=List.take_of_length_le (by simp [hSl])
   simp at hS
   clear hS0
   cases hbs:baseS h a b with
   | none =>
    have hW:=hWk (.st 23 [.str x.book.name,.nsl]) (by rw [hbs])
    simp [sig,oV,zV]
    refine c3 hM ?_ (h1:=hW)
    simp
    by_cases hme:¬ me = 0
    · rw [hJ,if_pos hme]
      simp [hme]
      try rfl
    replace hme:me = 0:=by simpa using hme
    rw [if_neg (by simpa using hme)] at hJ
    simp [hme]
    refine ef (g_mappedVV h hb) [] ?_
    simp [sig,hmi]
    refine ⟨by simp only [maxL]; omega,?_⟩
    refine ef hS [18,17] ?_
    simp [sig]
    refine ⟨by repeat' first | rfl | apply And.intro,?_⟩
    refine cf hgL [17] ?_
    cases hlb:lvlBad S with
    | true =>
     rw [hJ,hlb]
     simp [sig,whenE]
     try rfl
    | false =>
     rw [hJ,hlb]
     simp [sig,whenE,hSl,hST]
   | some v =>
    have hW:=hWk (eBook v.book) (by rw [hbs])
    simp [sig,oV,eVer_eq v]
    refine c3 hM ?_ (h1:=hW)
    simp
    by_cases hme:¬ me = 0
    · rw [hJ,if_pos hme]
      simp [hme]
      try rfl
    replace hme:me = 0:=by simpa using hme
    rw [if_neg (by simpa using hme)] at hJ
    simp [hme]
    refine ef (g_mappedVV h hb) [] ?_
    simp [sig,hmi]
    refine ⟨by simp only [maxL]; omega,?_⟩
    refine ef hS [18,17] ?_
    simp [sig]
    refine ⟨by repeat' first | rfl | apply And.intro,?_⟩
    refine cf hgL [17] ?_
    cases hlb:lvlBad S with
    | true =>
     rw [hJ,hlb]
     simp [sig,whenE]
     try rfl
    | false =>
     rw [hJ,hlb]
     simp [sig,whenE,hSl,hST]
theorem c_join_b (h : List VerD) (hb : histB h) (a b nm : List Nat) (hnm : nm.length ≤ 1048576) :
    GoodC Tryz.prog 46 [eHist h,.str a,.str b,.str nm] (.tup [eHist (joinP h a b nm).1,.seq ((joinP h a b nm).2.1.map .str),.int .i64 (joinP h a b nm).2.2]):=by
 by_cases hz:¬ openE h [a,b] = 0
 · have hc:=c_openErr h hb [a,b] (by simp) hz
   have hj:joinP h a b nm = ([],[],openE h [a,b]):=by rw [joinP,if_pos hz]
   rw [hj]
   refine good_fn nf isF46 mix (by simp [Tryz.f46]) ?_
   simp [Tryz.f46]
   refine cp (h1:=?g1) hc (by simp; exact ⟨rfl,rfl⟩) ?_
   case g1=>simp
   simp [hz,eHist]
   try rfl
 · replace hz:openE h [a,b] = 0:=by simpa using hz
   have ho:=open_at hz
   obtain ⟨x,hx,_⟩:=ho.2 a (by simp)
   obtain ⟨y,hy,_⟩:=ho.2 b (by simp)
   have hj:joinP h a b nm = joinH h a b nm x y:=by rw [joinP,if_neg (by simpa using hz),hx,hy]; rfl
   rw [hj]
   exact c_join_ok h hb a b nm hnm hz x y hx hy
end Go.Abs
namespace Go.Abs
open Go.Proofs
set_option maxHeartbeats 4000000
set_option maxRecDepth 100000
structure SInv (h:List VerD) (k:List Nat) (l:List (List Nat)):Prop where
 nd:l.Nodup
 hd:k ∈ l
 an:∀ a ∈ l,ancS h k a = true
theorem SInv.len {h:List VerD} (ok:HistOk h) {k:List Nat} (hk:wholeS h k = true) {l:List (List Nat)} (hi:SInv h k l):l.length ≤ h.length:=by
 have:=compact_len (xs:=namesV h) hi.nd (fun a ha=>by
  have h1:=anc_whole ok hk (hi.an a ha)
  obtain ⟨v,hv,_⟩:=whole_at ok h1
  rw [← (verAt_mem hv).2]
  exact List.mem_map_of_mem (verAt_mem hv).1)
 simpa [namesV] using this
theorem SInv.add {h:List VerD} (ok:HistOk h) {k a p:List Nat} {v:VerD} {l:List (List Nat)} (hi:SInv h k l) (ha:a ∈ l) (hv:verAt h a = some v) (hp:p ∈ v.parents) (hn:p ∉ l):SInv h k (l ++ [p]):=by
 refine ⟨?_,List.mem_append_left _ hi.hd,?_⟩
 · rw [List.nodup_append]
   refine ⟨hi.nd,by simp,?_⟩
   intro x hx y hy hxy
   rw [List.mem_singleton] at hy
   subst hy; subst hxy
   exact hn hx
 · intro x hx
   rcases List.mem_append.1 hx with hx | hx
   · exact hi.an x hx
   · rw [List.mem_singleton] at hx; subst hx
     exact anc_trans ok (hi.an a ha) (anc_par ok hv hp (anc_self ok x))
theorem g_hasWord (l:List (List Nat)) (p:List Nat) (k:AK) (ver n:Nat) (hn:n = l.length) (h:l.length ≤ 1048576):GoodI Tryz.prog 33 [.arr k ver 1 (l.map (AV.p ∘ PV.str))] [.sl 0 ver 1 0 n,.p (.str p)] [.arr k ver 1 (l.map (AV.p ∘ PV.str))] (.p (.bool (decide (p ∈ l)))):=by
 subst hn
 refine goodI_fn nf isF33 mix (by simp [Tryz.f33]) ?_
 simp [Tryz.f33]
 refine lp (α:=Nat) (fun i=>⟨[(5,.p (.int .i64 i)),(1,.p (.str p)),(0,.sl 0 ver 1 0 l.length)],[.arr k ver 1 (l.map (AV.p ∘ PV.str))]⟩) (fun i=>i ≤ l.length ∧ decide (p ∈ l) = decide (p ∈ l.drop i)) (fun i=>l.length - i) 0 (by simp) ?_
 rintro i ⟨k1,k2⟩
 by_cases hi:i < l.length
 · have hw:=wi1 (i:=i) (by omega)
   have hl0:¬ l = []:=fun e=>by rw [e] at hi; simp at hi
   rw [List.drop_eq_getElem_cons hi] at k2
   by_cases he:l[i] = p
   · simp [he] at k2
     simp [hi,he,k2,hl0]
   · have he':¬ p = l[i]:=fun e=>he e.symm
     rw [dec_iff List.mem_cons,Bool.decide_or,decide_eq_false he',Bool.false_or] at k2
     simp [hi,he,hw,hl0]
     exact rd (i + 1) ⟨hi,by simpa using k2⟩
 · have:i = l.length:=by omega
   subst this
   simp at k2
   simp [k2]
def lH (g:Bool) (L:List (List Nat)):Heap:=bif g then [.hole,.hole,.arr .grow (L.length - 2) 1 (L.map (AV.p ∘ PV.str))] else [.arr .exact 0 1 (L.map (AV.p ∘ PV.str))]
def lS (g:Bool) (L:List (List Nat)):AV:=bif g then .sl 2 (L.length - 2) 1 0 L.length else .sl 0 0 1 0 L.length
def lK (g:Bool) (L:List (List Nat)):Prop:=bif g then 2 ≤ L.length else L.length = 1
theorem lHf (L:List (List Nat)):lH false L = [.arr .exact 0 1 (L.map (AV.p ∘ PV.str))]:=rfl
theorem lHt (L:List (List Nat)):lH true L = [.hole,.hole,.arr .grow (L.length - 2) 1 (L.map (AV.p ∘ PV.str))]:=rfl
theorem lSf (L:List (List Nat)):lS false L = .sl 0 0 1 0 L.length:=rfl
theorem lSt (L:List (List Nat)):lS true L = .sl 2 (L.length - 2) 1 0 L.length:=rfl
theorem c_ancestorsR (h:List VerD) (hb:histB h) (ok:HistOk h) (k:List Nat) (hk:wholeS h k = true):GoodC Tryz.prog 49 [.seq (h.map rVer),.str k] (.seq ((ancL h k).map .str)):=by
 refine good_fn nf isF49 mix (by simp [Tryz.f49]) ?_
 have hlen:h.length ≤ 256:=ok.len
 simp [Tryz.f49]
 refine lp (α:=Nat × List (List Nat) × Bool) (fun (i,L,g)=>⟨[(6,.p (.int .i64 i)),(5,lS g L),(0,.p (.seq (h.map rVer)))],lH g L⟩)
  (fun (i,L,g)=>i ≤ L.length ∧ SInv h k L ∧ lK g L ∧ ∀ a ∈ L.take i,∀ v,verAt h a = some v → ∀ p ∈ v.parents,p ∈ L) (fun (i,_)=>h.length - i) (0,[k],false) ⟨by simp,⟨by simp,by simp,fun a ha=>by rw [List.mem_singleton] at ha; subst ha; exact anc_self ok _⟩,rfl,by simp⟩ ?_ (hn:=by simp [lH]) (he:=by simp [lS]) (hh:=by simp [lH]) (hr:=by simp [lH,lS]) (hr2:=by simp [lH])
 rintro ⟨i,L,g⟩ ⟨k1,k2,k3,k4⟩
 dsimp only at k1 k2 k3 k4 ⊢
 have hll:=k2.len ok hk
 have hw:=wi1 (i:=i) (by omega)
 by_cases hi:i < L.length
 · have hiz:(i:Int) < (L.length:Int):=by omega
   have hwa:=anc_whole ok hk (k2.an _ (List.getElem_mem hi))
   obtain ⟨v,hv,_⟩:=whole_at ok hwa
   rcases at_find h L[i] with ⟨hx,_⟩ | ⟨x,hx,hat,hxv⟩
   · rw [hx] at hv; cases hv
   have hvx:v = h[x]:=by rw [hxv] at hv; exact (Option.some.inj hv).symm
   subst hvx
   have hE:=rVer_eq h[x]
   have hpl:=ok.par h[x] (List.getElem_mem hx)
   obtain ⟨a,ha⟩:∃ a,a = L[i]:=⟨_,rfl⟩
   rw [← ha] at hv hat
   have hmem:a ∈ L:=by rw [ha]; exact List.getElem_mem hi
   have hl0:¬ L = []:=fun e=>by rw [e] at hi; simp at hi
   cases g with
   | false =>
    simp only [lHf,lSf]
    simp [hiz,hi,← ha,hl0]
    refine c2 (c_at h a (by omega)) ?_
    simp [hat,hx,hE]
    refine lp (α:=Nat × List (List Nat) × Bool) (fun (j,L',g)=>⟨[(8,.p (.int .i64 j)),(7,.p (.seq (h[x].parents.map .str))),(6,.p (.int .i64 i)),(5,lS g L'),(0,.p (.seq (h.map rVer)))],lH g L'⟩)
     (fun (j,L',g)=>j ≤ h[x].parents.length ∧ SInv h k L' ∧ lK g L' ∧ (∃ t,L' = L ++ t) ∧ ∀ p ∈ h[x].parents.take j,p ∈ L') (fun (j,_)=>h[x].parents.length - j) (0,L,false) ⟨by simp,k2,k3,⟨[],by simp⟩,by simp⟩ ?_ (hn:=by simp) (he:=by simp [lS]) (hh:=by simp [lH]) (hr:=by simp [lH,lS]) (hr2:=by simp [lH])
    rintro ⟨j,L',g⟩ ⟨q1,q2,q3,q4,q5⟩
    dsimp only at q1 q2 q3 q4 q5 ⊢
    have hll':=q2.len ok hk
    obtain ⟨t,ht⟩:=q4
    have hw2:=wi1 (i:=j) (by omega)
    have hl0':¬ L' = []:=fun e=>by have:=q2.hd; rw [e] at this; simp at this
    by_cases hj:j < h[x].parents.length
    · have hjz:(j:Int) < (h[x].parents.length:Int):=by omega
      have q5':∀ l'':List (List Nat),(∀ b ∈ L',b ∈ l'') → h[x].parents[j] ∈ l'' → ∀ p ∈ h[x].parents.take (j + 1),p ∈ l'':=by
       intro l'' z1 z2 p hp
       rw [List.take_succ_eq_append_getElem hj,List.mem_append,List.mem_singleton] at hp
       rcases hp with hp | rfl
       · exact z1 p (q5 p hp)
       · exact z2
      cases g with
      | false =>
       have hI:=g_hasWord L' h[x].parents[j] .exact 0 L'.length rfl (by omega)
       have q3':L'.length = 1:=q3
       simp only [lHf,lSf]
       simp [hjz,hj]
       refine cf hI [0] ?_
       by_cases hm:h[x].parents[j] ∈ L'
       · simp [sig,hm,hw2]
         exact rd (j + 1,L',false) ⟨hj,q2,q3,⟨t,ht⟩,q5' L' (fun _ h=>h) hm⟩ (h1:=by dsimp only; omega) (hn:=by simp) (he:=by simp [lS]) (hh:=by simp [lH]) (hr:=by simp [lH,lS]) (hr2:=by simp [lH])
       · have q2':=q2.add ok (by rw [ht]; exact List.mem_append_left _ hmem) hv (List.getElem_mem hj) hm
         simp [sig,hm,hj,hl0',hw2]
         refine ⟨by simp only [maxL]; omega,?_⟩
         rw [if_neg (show ¬ L'.length + 1 ≤ L'.length by omega)]
         simp [hw2]
         exact rd (j + 1,L' ++ [h[x].parents[j]],true) ⟨hj,q2',by simp [lK,q3'],⟨t ++ [h[x].parents[j]],by rw [ht,List.append_assoc]⟩,q5' _ (fun b hb=>List.mem_append_left _ hb) (by simp)⟩ (h1:=by dsimp only; omega) (hn:=by simp) (he:=by simp [lS,q3']) (hh:=by simp [lH,q3']) (hr:=by simp [lH,lS,q3']) (hr2:=by simp [lH,q3'])
      | true =>
       have hI:=g_hasWord L' h[x].parents[j] .grow (L'.length - 2) L'.length rfl (by omega)
       have q3':2 ≤ L'.length:=q3
       have e3:L'.length - 2 + 1 = L'.length + 1 - 2:=by omega
       simp only [lHt,lSt]
       simp [hjz,hj]
       refine cf hI [2] ?_
       by_cases hm:h[x].parents[j] ∈ L'
       · simp [sig,hm,hw2]
         exact rd (j + 1,L',true) ⟨hj,q2,q3,⟨t,ht⟩,q5' L' (fun _ h=>h) hm⟩ (h1:=by dsimp only; omega) (hn:=by simp) (he:=by simp [lS]) (hh:=by simp [lH]) (hr:=by simp [lH,lS]) (hr2:=by simp [lH])
       · have q2':=q2.add ok (by rw [ht]; exact List.mem_append_left _ hmem) hv (List.getElem_mem hj) hm
         simp [sig,hm,hj,hl0',hw2]
         refine ⟨by simp only [maxL]; omega,?_⟩
         exact rd (j + 1,L' ++ [h[x].parents[j]],true) ⟨hj,q2',by simp [lK]; omega,⟨t ++ [h[x].parents[j]],by rw [ht,List.append_assoc]⟩,q5' _ (fun b hb=>List.mem_append_left _ hb) (by simp)⟩ (h1:=by dsimp only; omega) (hn:=by simp) (he:=by simp [lS,e3]) (hh:=by simp [lH,e3]) (hr:=by simp [lH,lS]) (hr2:=by simp [lH])
    · have:j = h[x].parents.length:=by omega
      subst this
      have hLL:L.length ≤ L'.length:=by rw [ht]; simp
      have hout:∀ b ∈ L'.take (i + 1),∀ v,verAt h b = some v → ∀ p ∈ v.parents,p ∈ L':=by
       intro b hb v hvb p hp
       rw [ht,List.take_append_of_le_length (by omega),List.take_succ_eq_append_getElem hi,List.mem_append,List.mem_singleton] at hb
       rcases hb with hb | hb
       · rw [ht]; exact List.mem_append_left _ (k4 b hb v hvb p hp)
       · rw [← ha] at hb
         subst hb
         rw [hv] at hvb
         cases hvb
         exact q5 p (by rw [List.take_length]; exact hp)
      simp [hw]
      exact rd (i + 1,L',g) ⟨by dsimp only; omega,q2,q3,hout⟩ (h1:=by dsimp only; omega) (hn:=by simp) (he:=by simp) (hh:=by simp) (hr:=by cases g <;> simp [lH,lS]) (hr2:=by cases g <;> simp [lH])
   | true =>
    simp only [lHt,lSt]
    simp [hiz,hi,← ha,hl0]
    refine c2 (c_at h a (by omega)) ?_
    simp [hat,hx,hE]
    refine lp (α:=Nat × List (List Nat) × Bool) (fun (j,L',g)=>⟨[(8,.p (.int .i64 j)),(7,.p (.seq (h[x].parents.map .str))),(6,.p (.int .i64 i)),(5,lS g L'),(0,.p (.seq (h.map rVer)))],lH g L'⟩)
     (fun (j,L',g)=>j ≤ h[x].parents.length ∧ SInv h k L' ∧ lK g L' ∧ (∃ t,L' = L ++ t) ∧ ∀ p ∈ h[x].parents.take j,p ∈ L') (fun (j,_)=>h[x].parents.length - j) (0,L,true) ⟨by simp,k2,k3,⟨[],by simp⟩,by simp⟩ ?_ (hn:=by simp) (he:=by simp [lS]) (hh:=by simp [lH]) (hr:=by simp [lH,lS]) (hr2:=by simp [lH])
    rintro ⟨j,L',g⟩ ⟨q1,q2,q3,q4,q5⟩
    dsimp only at q1 q2 q3 q4 q5 ⊢
    have hll':=q2.len ok hk
    obtain ⟨t,ht⟩:=q4
    have hw2:=wi1 (i:=j) (by omega)
    have hl0':¬ L' = []:=fun e=>by have:=q2.hd; rw [e] at this; simp at this
    by_cases hj:j < h[x].parents.length
    · have hjz:(j:Int) < (h[x].parents.length:Int):=by omega
      have q5':∀ l'':List (List Nat),(∀ b ∈ L',b ∈ l'') → h[x].parents[j] ∈ l'' → ∀ p ∈ h[x].parents.take (j + 1),p ∈ l'':=by
       intro l'' z1 z2 p hp
       rw [List.take_succ_eq_append_getElem hj,List.mem_append,List.mem_singleton] at hp
       rcases hp with hp | rfl
       · exact z1 p (q5 p hp)
       · exact z2
      cases g with
      | false =>
       have hI:=g_hasWord L' h[x].parents[j] .exact 0 L'.length rfl (by omega)
       have q3':L'.length = 1:=q3
       simp only [lHf,lSf]
       simp [hjz,hj]
       refine cf hI [0] ?_
       by_cases hm:h[x].parents[j] ∈ L'
       · simp [sig,hm,hw2]
         exact rd (j + 1,L',false) ⟨hj,q2,q3,⟨t,ht⟩,q5' L' (fun _ h=>h) hm⟩ (h1:=by dsimp only; omega) (hn:=by simp) (he:=by simp [lS]) (hh:=by simp [lH]) (hr:=by simp [lH,lS]) (hr2:=by simp [lH])
       · have q2':=q2.add ok (by rw [ht]; exact List.mem_append_left _ hmem) hv (List.getElem_mem hj) hm
         simp [sig,hm,hj,hl0',hw2]
         refine ⟨by simp only [maxL]; omega,?_⟩
         rw [if_neg (show ¬ L'.length + 1 ≤ L'.length by omega)]
         simp [hw2]
         exact rd (j + 1,L' ++ [h[x].parents[j]],true) ⟨hj,q2',by simp [lK,q3'],⟨t ++ [h[x].parents[j]],by rw [ht,List.append_assoc]⟩,q5' _ (fun b hb=>List.mem_append_left _ hb) (by simp)⟩ (h1:=by dsimp only; omega) (hn:=by simp) (he:=by simp [lS,q3']) (hh:=by simp [lH,q3']) (hr:=by simp [lH,lS,q3']) (hr2:=by simp [lH,q3'])
      | true =>
       have hI:=g_hasWord L' h[x].parents[j] .grow (L'.length - 2) L'.length rfl (by omega)
       have q3':2 ≤ L'.length:=q3
       have e3:L'.length - 2 + 1 = L'.length + 1 - 2:=by omega
       simp only [lHt,lSt]
       simp [hjz,hj]
       refine cf hI [2] ?_
       by_cases hm:h[x].parents[j] ∈ L'
       · simp [sig,hm,hw2]
         exact rd (j + 1,L',true) ⟨hj,q2,q3,⟨t,ht⟩,q5' L' (fun _ h=>h) hm⟩ (h1:=by dsimp only; omega) (hn:=by simp) (he:=by simp [lS]) (hh:=by simp [lH]) (hr:=by simp [lH,lS]) (hr2:=by simp [lH])
       · have q2':=q2.add ok (by rw [ht]; exact List.mem_append_left _ hmem) hv (List.getElem_mem hj) hm
         simp [sig,hm,hj,hl0',hw2]
         refine ⟨by simp only [maxL]; omega,?_⟩
         exact rd (j + 1,L' ++ [h[x].parents[j]],true) ⟨hj,q2',by simp [lK]; omega,⟨t ++ [h[x].parents[j]],by rw [ht,List.append_assoc]⟩,q5' _ (fun b hb=>List.mem_append_left _ hb) (by simp)⟩ (h1:=by dsimp only; omega) (hn:=by simp) (he:=by simp [lS,e3]) (hh:=by simp [lH,e3]) (hr:=by simp [lH,lS]) (hr2:=by simp [lH])
    · have:j = h[x].parents.length:=by omega
      subst this
      have hLL:L.length ≤ L'.length:=by rw [ht]; simp
      have hout:∀ b ∈ L'.take (i + 1),∀ v,verAt h b = some v → ∀ p ∈ v.parents,p ∈ L':=by
       intro b hb v hvb p hp
       rw [ht,List.take_append_of_le_length (by omega),List.take_succ_eq_append_getElem hi,List.mem_append,List.mem_singleton] at hb
       rcases hb with hb | hb
       · rw [ht]; exact List.mem_append_left _ (k4 b hb v hvb p hp)
       · rw [← ha] at hb
         subst hb
         rw [hv] at hvb
         cases hvb
         exact q5 p (by rw [List.take_length]; exact hp)
      simp [hw]
      exact rd (i + 1,L',g) ⟨by dsimp only; omega,q2,q3,hout⟩ (h1:=by dsimp only; omega) (hn:=by simp) (he:=by simp) (hh:=by simp) (hr:=by cases g <;> simp [lH,lS]) (hr2:=by cases g <;> simp [lH])
 · have:i = L.length:=by omega
   subst this
   have hl0:¬ L = []:=fun e=>by have:=k2.hd; rw [e] at this; simp at this
   have hsA:=anc_sorted ok hk k2.nd k2.hd k2.an (by rw [List.take_length] at k4; exact k4)
   rw [← hsA]
   cases g with
   | false =>
    simp only [lHf,lSf]
    simp
    refine lp (α:=Nat × PV) (fun (i,cf)=>⟨[(10,.p (.int .i64 i)),(9,.p cf),(5,.sl 0 0 1 0 L.length)],[.arr .exact 0 1 (L.map (AV.p ∘ PV.str))]⟩) (fun (i,cf)=>i ≤ L.length ∧ Wk cf (.seq (((L.take i).foldl insS []).map .str))) (fun (i,_)=>L.length - i) (0,.nsl) ⟨by simp,by simp [Wk]⟩ ?_ (he:=by simp)
    rintro ⟨i,cf⟩ ⟨q1,q2⟩
    dsimp only at q1 q2 ⊢
    have hw2:=wi1 (i:=i) (by omega)
    by_cases hi2:i < L.length
    · have hiz:(i:Int) < (L.length:Int):=by omega
      have hff:=foldl_take insS ([]:List (List Nat)) hi2
      have hfl:((L.take i).foldl insS []).length ≤ 1000000:=by
       have:=(sortS_perm (L.take i)).length_eq
       rw [sortS] at this
       rw [this,List.length_take]; omega
      simp [hiz,hi2,hl0]
      refine c2 (c_insert _ L[i] hfl) ?_ (h1:=q2)
      simp [hw2]
      exact rd (i + 1,.seq ((insS ((L.take i).foldl insS []) L[i]).map .str)) ⟨hi2,by rw [hff]; exact Wk.refl _⟩ (h1:=by dsimp only; omega)
    · have:i = L.length:=by omega
      subst this
      rw [List.take_length] at q2
      simp [sortS,q2]
   | true =>
    simp only [lHt,lSt]
    simp
    refine lp (α:=Nat × PV) (fun (i,cf)=>⟨[(10,.p (.int .i64 i)),(9,.p cf),(5,.sl 2 (L.length - 2) 1 0 L.length)],[.hole,.hole,.arr .grow (L.length - 2) 1 (L.map (AV.p ∘ PV.str))]⟩) (fun (i,cf)=>i ≤ L.length ∧ Wk cf (.seq (((L.take i).foldl insS []).map .str))) (fun (i,_)=>L.length - i) (0,.nsl) ⟨by simp,by simp [Wk]⟩ ?_ (he:=by simp)
    rintro ⟨i,cf⟩ ⟨q1,q2⟩
    dsimp only at q1 q2 ⊢
    have hw2:=wi1 (i:=i) (by omega)
    by_cases hi2:i < L.length
    · have hiz:(i:Int) < (L.length:Int):=by omega
      have hff:=foldl_take insS ([]:List (List Nat)) hi2
      have hfl:((L.take i).foldl insS []).length ≤ 1000000:=by
       have:=(sortS_perm (L.take i)).length_eq
       rw [sortS] at this
       rw [this,List.length_take]; omega
      simp [hiz,hi2,hl0]
      refine c2 (c_insert _ L[i] hfl) ?_ (h1:=q2)
      simp [hw2]
      exact rd (i + 1,.seq ((insS ((L.take i).foldl insS []) L[i]).map .str)) ⟨hi2,by rw [hff]; exact Wk.refl _⟩ (h1:=by dsimp only; omega)
    · have:i = L.length:=by omega
      subst this
      rw [List.take_length] at q2
      simp [sortS,q2]
end Go.Abs
namespace Go.Abs
open Go.Proofs
set_option maxHeartbeats 4000000
set_option maxRecDepth 100000
theorem ancL_len {h:List VerD} (ok:HistOk h) (k:List Nat):(ancL h k).length ≤ 256:=by
 have h1:=List.length_filter_le (fun v:VerD=>ancS h k v.name) h
 have:=ok.len
 simp only [ancL,namesV,List.length_map]; omega
theorem anc_dec {h:List VerD} (ok:HistOk h) {k:List Nat} (hk:wholeS h k = true) (a:List Nat):decide (a ∈ ancL h k) = ancS h k a:=by
 rw [Bool.eq_iff_iff,decide_eq_true_eq,ancL_mem ok hk]
def bI:Option Nat → Int
 | none=>-1
 | some j=>j
def bV (h:List VerD) (o:Option Nat):Option VerD:=o.bind fun j=>h[j]?
theorem bestF_cons (v : VerD) (r : List VerD) (b : Option VerD) : bestF (v :: r) b = bestF r (match b with
    | none=>some v
    | some x=>if x.level ≤ v.level then some v else some x):=rfl
theorem c_baseR (h : List VerD) (hb : histB h) (ok : HistOk h) (a b : List Nat) (ha : wholeS h a = true) (hbw : wholeS h b = true) :
    GoodC Tryz.prog 50 [.seq (h.map rVer),.str a,.str b] (.tup [.str (match baseS h a b with
     | some v=>v.name
     | none=>[]),.bool (baseS h a b).isSome]):=by
 refine good_fn nf isF50 mix (by simp [Tryz.f50]) ?_
 have hlen:h.length ≤ 256:=ok.len
 have l1:=ancL_len ok a
 have l2:=ancL_len ok b
 have d1:=anc_dec ok ha
 have d2:=anc_dec ok hbw
 have hcA:=c_ancestorsR h hb ok a ha
 have hcB:=c_ancestorsR h hb ok b hbw
 generalize ancL h a = A at *
 generalize ancL h b = B at *
 simp [Tryz.f50]
 refine c2 hcA ?_
 simp
 refine c2 hcB ?_
 simp
 refine lp (α:=Nat × Option Nat) (fun (i,o)=>⟨[(11,.p (.int .i64 i)),(10,.p (.int .i64 (bI o))),(9,.p (.seq (B.map .str))),(8,.p (.seq (A.map .str))),(0,.p (.seq (h.map rVer)))],[]⟩)
  (fun (i,o)=>i ≤ h.length ∧ (∀ j,o = some j → j < h.length) ∧ bestF ((h.drop i).filter fun v=>ancS h a v.name && ancS h b v.name) (bV h o) = baseS h a b) (fun (i,_)=>h.length - i) (0,none) ⟨by simp,by simp,by simp [bV,baseS]⟩ ?_ (he:=by simp [bI])
 rintro ⟨i,o⟩ ⟨k1,k2,k3⟩
 dsimp only at k1 k2 k3 ⊢
 have hw:=wi1 (i:=i) (by omega)
 by_cases hi:i < h.length
 · have hiz:(i:Int) < (h.length:Int):=by omega
   have hE:=rVer_eq h[i]
   rw [List.drop_eq_getElem_cons hi] at k3
   have e1:=d1 h[i].name
   have e2':=d2 h[i].name
   cases q1:ancS h a h[i].name with
   | false =>
    rw [q1] at e1
    rw [List.filter_cons_of_neg (by simp [q1])] at k3
    simp [hiz,hi,hE]
    refine e2 (c_hasWord A h[i].name (by omega)) ?_
    simp [e1,hw]
    exact rd (i + 1,o) ⟨hi,k2,k3⟩ (h1:=by dsimp only; omega)
   | true =>
    rw [q1] at e1
    cases q2:ancS h b h[i].name with
    | false =>
     rw [q2] at e2'
     rw [List.filter_cons_of_neg (by simp [q2])] at k3
     simp [hiz,hi,hE]
     refine e2 (c_hasWord A h[i].name (by omega)) ?_
     simp [e1,hi,hE]
     refine e2 (c_hasWord B h[i].name (by omega)) ?_
     simp [e2',hw]
     exact rd (i + 1,o) ⟨hi,k2,k3⟩ (h1:=by dsimp only; omega)
    | true =>
     rw [q2] at e2'
     rw [List.filter_cons_of_pos (by simp [q1,q2]),bestF_cons] at k3
     have hnew:bV h (some i) = some h[i]:=by simp [bV,hi]
     cases o with
     | none =>
      simp [bV] at k3
      simp [hiz,hi,hE]
      refine e2 (c_hasWord A h[i].name (by omega)) ?_
      simp [e1,hi,hE]
      refine e2 (c_hasWord B h[i].name (by omega)) ?_
      simp [e2',bI,hw]
      exact rd (i + 1,some i) ⟨hi,fun j hj=>by cases hj; exact hi,by rw [hnew]; exact k3⟩ (h1:=by dsimp only; omega) (he:=by simp [bI])
     | some m =>
      have hm:=k2 m rfl
      have hEm:=rVer_eq h[m]
      have hbm:bV h (some m) = some h[m]:=by simp [bV,hm]
      have hmz:¬ (m:Int) < 0:=by omega
      rw [hbm] at k3
      dsimp only at k3
      simp [hiz,hi,hE]
      refine e2 (c_hasWord A h[i].name (by omega)) ?_
      simp [e1,hi,hE]
      refine e2 (c_hasWord B h[i].name (by omega)) ?_
      by_cases hl:h[m].level ≤ h[i].level
      · rw [if_pos hl] at k3
        simp [e2',bI,hmz,hi,hm,hE,hEm,hl]
        exact rd (i + 1,some i) ⟨hi,fun j hj=>by cases hj; exact hi,by rw [hnew]; exact k3⟩ (h1:=by dsimp only; omega) (he:=by simp [hw])
      · rw [if_neg hl] at k3
        simp [e2',bI,hmz,hi,hm,hE,hEm,hl]
        exact rd (i + 1,some m) ⟨hi,k2,by rw [hbm]; exact k3⟩ (h1:=by dsimp only; omega) (he:=by simp [hw])
 · have:i = h.length:=by omega
   subst this
   rw [List.drop_length] at k3
   have k3:bV h o = baseS h a b:=k3
   rw [← k3]
   cases o with
   | none=>simp [bI,bV]
   | some m =>
    have hm:=k2 m rfl
    have hEm:=rVer_eq h[m]
    have hbm:bV h (some m) = some h[m]:=by simp [bV,hm]
    have hmz:¬ (m:Int) < 0:=by omega
    rw [hbm]
    simp [bI,hmz,hm,hEm]
theorem c_joinR (h : List VerD) (hb : histB h) (ok : HistOk h) (a b nm : List Nat) (hnm : nm.length ≤ 1048576) (ha : wholeS h a = true) (hbw : wholeS h b = true) (x y : VerD) (hx : verAt h a = some x) (hy : verAt h b = some y) :
    GoodC Tryz.prog 51 [.seq (h.map rVer),.str a,.str b,.str nm] (.tup [.seq ((joinH h a b nm x y).1.map rVer),.seq ((joinH h a b nm x y).2.1.map .str),.int .i64 (joinH h a b nm x y).2.2]):=by
 refine good_fn nf isF51 mix (by simp [Tryz.f51]) ?_
 have hlen:h.length ≤ 256:=ok.len
 have lx:=ok.lev x (verAt_mem hx).1
 have ly:=ok.lev y (verAt_mem hy).1
 have hcA:=c_ancestorsR h hb ok a ha
 have hcB:=c_ancestorsR h hb ok b hbw
 have l1:=ancL_len ok a
 have l2:=ancL_len ok b
 have d1:=anc_dec ok ha b
 have d2:=anc_dec ok hbw a
 have hJe:joinE h a b nm x y ≠ 0 → joinH h a b nm x y = ([],[],joinE h a b nm x y):=fun he=>by rw [joinH,if_pos he]
 simp [Tryz.f51]
 refine c1 (c_refIsName nm hnm) ?_
 cases q0:isName nm with
 | false =>
  have hE:joinE h a b nm x y = 8:=by simp [joinE,q0,firstE,whenE]
  rw [hJe (by rw [hE]; omega),hE]
  simp
  try rfl
 | true =>
 simp
 refine c2 (c_at h nm (by omega)) ?_
 rcases at_find h nm with ⟨hn0,hat⟩ | ⟨m,hm,hat,hmv⟩
 case inr =>
  have hE:joinE h a b nm x y = 9:=by simp [joinE,q0,hmv,firstE,whenE]
  rw [hJe (by rw [hE]; omega),hE]
  have hmz:(0:Int) ≤ (m:Int):=by omega
  simp only [hat]
  generalize (m:Int) = mz at hmz
  simp [hmz]
  try rfl
 simp [hat]
 refine c2 hcA ?_
 simp
 refine c2 (c_hasWord (ancL h a) b (by omega)) ?_
 rw [d1]
 cases q1:ancS h a b with
 | true =>
  have hE:joinE h a b nm x y = 19:=by simp [joinE,q0,hn0,q1,firstE,whenE]
  rw [hJe (by rw [hE]; omega),hE]
  simp
  try rfl
 | false =>
 simp
 refine c2 hcB ?_
 simp
 refine c2 (c_hasWord (ancL h b) a (by omega)) ?_
 rw [d2]
 cases q2:ancS h b a with
 | true =>
  have hE:joinE h a b nm x y = 19:=by simp [joinE,q0,hn0,q1,q2,firstE,whenE]
  rw [hJe (by rw [hE]; omega),hE]
  simp
  try rfl
 | false =>
 by_cases q3:256 ≤ h.length
 · have hE:joinE h a b nm x y = 5:=by simp [joinE,q0,hn0,q1,q2,q3,firstE,whenE]
   rw [hJe (by rw [hE]; omega),hE]
   have q3':(256:Int) ≤ (h.length:Int):=by omega
   simp [q3']
   try rfl
 have q3':¬ (256:Int) ≤ (h.length:Int):=by omega
 rcases at_find h a with ⟨hx0,_⟩ | ⟨i,hi,hai,hvi⟩
 · rw [hx0] at hx; cases hx
 rcases at_find h b with ⟨hx0,_⟩ | ⟨j,hj,haj,hvj⟩
 · rw [hx0] at hy; cases hy
 have hxi:h[i] = x:=by rw [hvi] at hx; exact Option.some.inj hx
 have hyj:h[j] = y:=by rw [hvj] at hy; exact Option.some.inj hy
 have hEx:=rVer_eq x
 have hEy:=rVer_eq y
 have hmi:(if x.level < y.level then y.level else x.level) = max x.level y.level:=by
  rw [Int.max_def]; split <;> split <;> omega
 have hwl:IntKind.i64.wrap (1 + max x.level y.level) = max x.level y.level + 1:=by rw [wi64] <;> omega
 simp [q3']
 refine e2 (c_at h a (by omega)) ?_
 simp [hai,hi,hxi]
 refine e2 (c_at h b (by omega)) ?_
 have hBx:rBook x.book = .st 26 [.str x.book.name,.seq (x.book.rows.map eRow)]:=rfl
 by_cases q4:256 < max x.level y.level + 1
 · have hE:joinE h a b nm x y = 3:=by
    have:¬ max x.level y.level + 1 < 1:=by omega
    simp [joinE,q0,hn0,q1,q2,q3,withinE,firstE,whenE,q4]
   rw [hJe (by rw [hE]; omega),hE]
   simp [haj,hj,hyj,hEx,hEy,hmi,hwl,q4,hBx]
   exact ⟨rfl,rfl⟩
 have hE:joinE h a b nm x y = 0:=by
  have:¬ max x.level y.level + 1 < 1:=by omega
  simp [joinE,q0,hn0,q1,q2,q3,withinE,firstE,whenE,q4,this]
 have q4':max x.level y.level + 1 ≤ 256:=by omega
 simp [haj,hj,hyj,hEx,hEy,hmi,hwl,q4,hBx]
 refine ⟨⟨rfl,rfl⟩,?_⟩
 refine c3 (c_baseR h hb ok a b ha hbw) ?_
 have cx:chkBook x.book = 0:=ok.bok x (verAt_mem hx).1
 have cy:chkBook y.book = 0:=ok.bok y (verAt_mem hy).1
 have bx:=(hb.2 x (verAt_mem hx).1).2.2.2
 have byy:=(hb.2 y (verAt_mem hy).1).2.2.2
 have hBB:bookB (baseB h a b x) ∧ rowsI (baseB h a b x).rows ∧ (keysOf (baseB h a b x).rows).Nodup ∧ (baseB h a b x).rows.length ≤ 1000:=base_ok ok hb (verAt_mem hx).1
 have zx:=chkBook_zero cx
 have zy:=chkBook_zero cy
 have hM:=c_mergeR (baseB h a b x) x.book y.book hBB.1 bx byy (by have:=(chkRows_iff.1 zx).1; omega) (by have:=(chkRows_iff.1 zy).1; omega)
 rw [resS_eq] at hM
 have mB:=mergeC_B (x:=baseB h a b x) bx byy (by have:=(chkRows_iff.1 zx).1; omega) (by have:=(chkRows_iff.1 zy).1; omega)
 have hJ : joinH h a b nm x y = if (mergeC (baseB h a b x) x.book y.book).2.2 ≠ 0 then ([], [], (mergeC (baseB h a b x) x.book y.book).2.2)
     else if lvlBad (sortV (h ++ [joinV a b nm x y (mergeC (baseB h a b x) x.book y.book).1])) = true then ([],[],29)
     else (sortV (h ++ [joinV a b nm x y (mergeC (baseB h a b x) x.book y.book).1]),(mergeC (baseB h a b x) x.book y.book).2.1,0):=by
  rw [joinH,if_neg (by simpa using hE)]
 have hWk : ∀ B, (match baseS h a b with
     | some v=>B = rBook v.book
     | none=>B = .st 26 [.str x.book.name,.nsl]) → Wk B (rBook (baseB h a b x)):=by
  intro B hB
  cases hbs:baseS h a b with
  | none=>rw [hbs] at hB; subst hB; simp [baseB,hbs,rBook,Wk,Wkl]
  | some v=>rw [hbs] at hB; subst hB; simp only [baseB,hbs]; exact Wk.refl _
 generalize hMM:mergeC (baseB h a b x) x.book y.book = M at *
 obtain ⟨mb',mc,me⟩:=M
 dsimp only at hM mB hJ
 obtain ⟨J,hJv⟩:∃ J,J = joinV a b nm x y mb':=⟨_,rfl⟩
 rw [← hJv] at hJ
 have hJe2:rVer J = .st 196 [.str nm,.int .i64 (max x.level y.level + 1),.seq [.str a,.str b],rBook mb']:=by rw [hJv]; rfl
 have hjB:verB J:=by
  rw [hJv]
  refine ⟨hnm,by simp [joinV],?_,mB.1⟩
  intro p hp
  simp only [joinV,List.mem_cons,List.not_mem_nil,or_false] at hp
  rcases hp with rfl | rfl
  · rw [← (verAt_mem hx).2]; exact (hb.2 x (verAt_mem hx).1).1
  · rw [← (verAt_mem hy).2]; exact (hb.2 y (verAt_mem hy).1).1
 have hins:insVr h J = sortV (h ++ [J]):=put_all (n:=[J]) ok.asc
 have hSl:(sortV (h ++ [J])).length = h.length + 1:=by rw [sortV_len]; simp
 have hSB:histB (sortV (h ++ [J])):=⟨by rw [hSl]; omega,fun v hv=>by
  rw [sortV_mem] at hv
  rcases List.mem_append.1 hv with h1 | h1
  · exact hb.2 _ h1
  · rw [List.mem_singleton] at h1; subst h1; exact hjB⟩
 have hP:=c_put h J (by omega)
 rw [hins,hJe2] at hP
 have hPI:=GoodC.eat (P:=Tryz.prog) (H:=[.arr .exact 0 1 [.p (.str a),.p (.str b)]]) (args:=[.p (.seq (h.map rVer)),.st 196 [.p (.str nm),.p (.int .i64 (max x.level y.level + 1)),.sl 0 0 1 0 2,.p (rBook mb')]]) 9 hP isF136.enters (by simp) (by intro b L hb; cases b <;> simp at hb)
 simp only [List.length_cons,List.length_nil,show deads (0 + 1) = [.dead] from rfl] at hPI
 cases hbs:baseS h a b with
 | none =>
  have hW:=hWk (.st 26 [.str x.book.name,.nsl]) (by rw [hbs])
  simp
  refine c3 hM ?_ (h1:=hW)
  simp
  by_cases hme:¬ me = 0
  · rw [hJ,if_pos hme]
    simp [hme]
    try rfl
  replace hme:me = 0:=by simpa using hme
  rw [if_neg (by simpa using hme)] at hJ
  simp [hme]
  refine cf hPI [2] ?_
  simp [sig,deads]
  refine c1 (c_levels (sortV (h ++ [J])) hSB) ?_
  cases hlb:lvlBad (sortV (h ++ [J])) with
  | true =>
   rw [hJ,hlb]
   simp [whenE]
   try rfl
  | false =>
   rw [hJ,hlb]
   simp [whenE]
   try rfl
 | some v =>
  have hW:=hWk (rBook v.book) (by rw [hbs])
  rcases at_find h v.name with ⟨hx0,_⟩ | ⟨l,hl,hal,hvl⟩
  · rw [verAt_of ok.asc.names (base_mem hbs)] at hx0; cases hx0
  have hvl':h[l] = v:=by rw [verAt_of ok.asc.names (base_mem hbs)] at hvl; exact (Option.some.inj hvl).symm
  simp
  refine c2 (c_at h v.name (by omega)) ?_
  simp [hal,hl,hvl',rVer_eq v]
  refine c3 hM ?_ (h1:=hW)
  simp
  by_cases hme:¬ me = 0
  · rw [hJ,if_pos hme]
    simp [hme]
    try rfl
  replace hme:me = 0:=by simpa using hme
  rw [if_neg (by simpa using hme)] at hJ
  simp [hme]
  refine cf hPI [2] ?_
  simp [sig,deads]
  refine c1 (c_levels (sortV (h ++ [J])) hSB) ?_
  cases hlb:lvlBad (sortV (h ++ [J])) with
  | true =>
   rw [hJ,hlb]
   simp [whenE]
   try rfl
  | false =>
   rw [hJ,hlb]
   simp [whenE]
   try rfl
end Go.Abs
namespace Go.Abs
open Go.Proofs
set_option maxHeartbeats 4000000
set_option maxRecDepth 100000
def pairA (p q:List Nat):PV:=.st 77 [.str p,.str q]
theorem openE_one {h:List VerD} (p:List Nat) (hz:chkHist h = 0):openE h [p] = nameE h p:=by
 rw [openE,hz,namesE]
 by_cases h1:nameE h p = 0 <;> simp [firstE,namesE,h1]
theorem openE_two {h:List VerD} (p q:List Nat) (hz:chkHist h = 0):openE h [p,q] = if nameE h p = 0 then nameE h q else nameE h p:=by
 rw [openE,hz,namesE,namesE]
 by_cases h1:nameE h p = 0
 · by_cases h2:nameE h q = 0 <;> simp [firstE,namesE,h1,h2]
 · simp [firstE,h1]
theorem openE_bad {h:List VerD} (l:List (List Nat)) (hz:¬ chkHist h = 0):openE h l = chkHist h:=by
 rw [openE]; simp [firstE,hz]
theorem ancE_len {h:List VerD} (ok:HistOk h) (k:List Nat):(ancL h k).length ≤ 1048576:=by have:=ancL_len ok k; omega
theorem joinH_B {h : List VerD} (ok : HistOk h) (hb : histB h) {a b nm : List Nat} (hnm : nm.length ≤ 1048576) {x y : VerD} (hx : verAt h a = some x) (hy : verAt h b = some y) :
    histB (joinH h a b nm x y).1 ∧ (joinH h a b nm x y).2.1.length ≤ 1048576:=by
 have nB:histB []:=⟨by simp,by simp⟩
 have bx:=(hb.2 x (verAt_mem hx).1).2.2.2
 have byy:=(hb.2 y (verAt_mem hy).1).2.2.2
 have zx:=chkBook_zero (ok.bok x (verAt_mem hx).1)
 have zy:=chkBook_zero (ok.bok y (verAt_mem hy).1)
 have mB:=mergeC_B (x:=baseB h a b x) bx byy (by have:=(chkRows_iff.1 zx).1; omega) (by have:=(chkRows_iff.1 zy).1; omega)
 have hl:=ok.len
 rw [joinH]
 split
 · exact ⟨nB,by simp⟩
 split
 · exact ⟨nB,by simp⟩
 split
 · exact ⟨nB,by simp⟩
 refine ⟨⟨?_,fun v hv=>?_⟩,mB.2⟩
 · rw [sortV_len,List.length_append]; simp only [List.length_cons,List.length_nil]; omega
 · simp only [sortV_mem] at hv
   rcases List.mem_append.1 hv with h1 | h1
   · exact hb.2 _ h1
   · rw [List.mem_singleton] at h1
     subst h1
     refine ⟨hnm,by simp [joinV],?_,mB.1⟩
     intro p hp
     simp only [joinV,List.mem_cons,List.not_mem_nil,or_false] at hp
     rcases hp with rfl | rfl
     · rw [← (verAt_mem hx).2]; exact (hb.2 x (verAt_mem hx).1).1
     · rw [← (verAt_mem hy).2]; exact (hb.2 y (verAt_mem hy).1).1
theorem c_law7 (hw : GoodC Tryz.prog 17 [] (.bool true)) (h : List VerD) (pq : List Nat × List Nat) (nm : List Nat) (ha : histW h) (hp : pq.1.length ≤ 1048576 ∧ pq.2.length ≤ 1048576) (hn : nm.length ≤ 1048576) (_hy : ∀ c ∈ nm, c < 256) :
    GoodC Tryz.prog 7 [eHist h,pairA pq.1 pq.2,.str nm] (.bool true):=by
 obtain ⟨p,q⟩:=pq
 dsimp only at hp ⊢
 refine good_fn nf isF7 mix (by simp [Tryz.f7]) ?_
 simp [Tryz.f7,pairA]
 refine c1 (c_versions h ha) ?_
 simp
 refine c2 (c_shortHist h 8 ha (by omega)) ?_
 by_cases s1:shortHist h 8 = true
 case neg =>
  simp [s1]
  refine c0 hw ?_
  simp
 by_cases s2:60 < p.length
 · have s2':(60:Int) < (p.length:Int):=by omega
   simp [s1,s2']
   refine c0 hw ?_
   simp
 have s2':¬ (60:Int) < (p.length:Int):=by omega
 by_cases s3:60 < q.length
 · have s3':(60:Int) < (q.length:Int):=by omega
   simp [s1,s2',s3']
   refine c0 hw ?_
   simp
 have s3':¬ (60:Int) < (q.length:Int):=by omega
 by_cases s4:60 < nm.length
 · have s4':(60:Int) < (nm.length:Int):=by omega
   simp [s1,s2',s3',s4']
   refine c0 hw ?_
   simp
 have s4':¬ (60:Int) < (nm.length:Int):=by omega
 obtain ⟨rb,lb⟩:=short_histB (by omega) s1
 simp [s1,s2',s3',s4']
 refine c2 (c_ancestors h rb p) ?_
 simp
 refine c3 (c_base h rb p q) ?_
 simp
 refine c4 (c_join_b h rb p q nm (by omega)) ?_
 simp
 refine c1 (c_checkHistoryR h rb) ?_
 have nB:histB []:=⟨by simp,by simp⟩
 have bad:∀ e:Int,e ≠ 0 → openE h [p] = e → openE h [p,q] = e → ancE h p = [] ∧ baseN h p q = [] ∧ baseE h p q = e ∧ joinP h p q nm = ([],[],e):=by
  intro e he e1 e2
  exact ⟨by rw [ancE,e1,if_pos he],by rw [baseN,e2,if_pos he],by rw [baseE,e2,if_pos he],by rw [joinP,e2,if_pos he]⟩
 by_cases z0:¬ chkHist h = 0
 · obtain ⟨r1,r2,r3,r4⟩:=bad (chkHist h) z0 (openE_bad _ z0) (openE_bad _ z0)
   rw [openE_bad _ z0,r1,r2,r3,r4]
   · simp [z0]
     refine c2 (c_sameWords [] [] (by simp) (by simp)) ?_ (h1:=by simp) (h2:=by simp)
     simp
     refine c1 (c_versions [] nB.w) ?_
     simp
     refine c2 (c_sameVers [] [] nB nB) ?_ (h2:=by simp)
     simp
     refine c2 (c_sameWords [] [] (by simp) (by simp)) ?_ (h1:=by simp) (h2:=by simp)
     simp
     refine c0 hw ?_
     simp
 replace z0:chkHist h = 0:=by simpa using z0
 have ok:=histOk z0
 simp [z0]
 refine c2 (c_checkName h p rb ok) ?_
 by_cases z1:¬ nameE h p = 0
 · obtain ⟨r1,r2,r3,r4⟩:=bad (nameE h p) z1 (openE_one p z0) (by rw [openE_two p q z0,if_neg z1])
   rw [openE_one p z0,r1,r2,r3,r4]
   · simp [z1]
     refine c2 (c_sameWords [] [] (by simp) (by simp)) ?_ (h1:=by simp) (h2:=by simp)
     simp
     refine c1 (c_versions [] nB.w) ?_
     simp
     refine c2 (c_sameVers [] [] nB nB) ?_ (h2:=by simp)
     simp
     refine c2 (c_sameWords [] [] (by simp) (by simp)) ?_ (h1:=by simp) (h2:=by simp)
     simp
     refine c0 hw ?_
     simp
 replace z1:nameE h p = 0:=by simpa using z1
 have f1:openE h [p] = 0:=by rw [openE_one p z0,z1]
 have hwp:=(open_at f1).2 p (by simp)
 obtain ⟨x,hx,hwp⟩:=hwp
 have hA:ancE h p = ancL h p:=by rw [ancE,if_neg (by simpa using f1)]
 have hAl:=ancE_len ok p
 have hcA:=c_ancestorsR h rb ok p hwp
 rw [f1,hA]
 simp [z1]
 refine c2 (c_checkName h q rb ok) ?_
 have f2:openE h [p,q] = nameE h q:=by rw [openE_two p q z0,if_pos z1]
 by_cases z2:¬ nameE h q = 0
 · have r2:baseN h p q = []:=by rw [baseN,f2,if_pos z2]
   have r3:baseE h p q = nameE h q:=by rw [baseE,f2,if_pos z2]
   have r4:joinP h p q nm = ([],[],nameE h q):=by rw [joinP,f2,if_pos z2]
   rw [r2,r3,r4]
   simp [z2]
   refine c2 hcA ?_
   simp [z2]
   refine c2 (c_sameWords (ancL h p) (ancL h p) hAl hAl) ?_
   simp
   refine c1 (c_versions [] nB.w) ?_
   simp
   refine c2 (c_sameVers [] [] nB nB) ?_ (h2:=by simp)
   simp
   refine c2 (c_sameWords [] [] (by simp) (by simp)) ?_ (h1:=by simp) (h2:=by simp)
   simp
   refine c0 hw ?_
   simp
 replace z2:nameE h q = 0:=by simpa using z2
 rw [z2] at f2
 obtain ⟨y,hy,hwq⟩:=(open_at f2).2 q (by simp)
 have r4:joinP h p q nm = joinH h p q nm x y:=by rw [joinP,if_neg (by simpa using f2),hx,hy]; rfl
 have r3:baseE h p q = whenE (!(baseS h p q).isSome) 7:=by rw [baseE,if_neg (by simpa using f2)]
 have hcB:GoodC Tryz.prog 50 [.seq (h.map rVer),.str p,.str q] (.tup [.str (baseN h p q),.bool (baseS h p q).isSome]):=by
  have:=c_baseR h rb ok p q hwp hwq
  rw [baseN,if_neg (by simpa using f2)]
  cases hbs:baseS h p q <;> simpa [hbs] using this
 have hcJ:=c_joinR h rb ok p q nm (by omega) hwp hwq x y hx hy
 obtain ⟨jB,jL⟩:=joinH_B ok rb (nm:=nm) (a:=p) (b:=q) (by omega) hx hy
 rw [r3,r4]
 generalize baseN h p q = N at *
 generalize (baseS h p q).isSome = is0 at *
 generalize joinH h p q nm x y = G at *
 obtain ⟨g,cs,e⟩:=G
 dsimp only at hcJ jB jL ⊢
 simp [z2]
 refine c2 hcA ?_
 simp
 refine c3 hcB ?_
 simp
 refine c2 (c_lwhen (!is0) 7) ?_
 simp
 refine c4 hcJ ?_
 simp
 refine c2 (c_sameWords (ancL h p) (ancL h p) hAl hAl) ?_
 simp
 refine c1 (c_versions g jB.w) ?_
 simp
 refine c2 (c_sameVers g g jB jB) ?_
 simp
 refine c2 (c_sameWords cs cs jL jL) ?_
 simp
 refine c0 hw ?_
 simp
end Go.Abs
namespace Go.Abs
open Go.Proofs Go.Proofs.YthckccalfpnmaaaGreatDoor
set_option maxRecDepth 100000
section
variable {H:Type} {W:World} {Imm:Nat → Prop}
theorem uidP:Tryz.prog.underlyingId 77 = 77:=by kernel_rfl
theorem pair_arg {d:DataW H} (h:∃ cs,PVC Tryz.prog W Imm (toPV Tryz.prog 8 77 d) cs) (hb:Rows.uptoBulk d ≤ 1048576):∃ pq:List Nat × List Nat,toPV Tryz.prog 8 77 d = pairA pq.1 pq.2 ∧ pq.1.length ≤ 1048576 ∧ pq.2.length ≤ 1048576:=by
 obtain ⟨cs,h⟩:=h
 cases d with
 | agg l =>
  have e:toPV Tryz.prog 8 77 (.agg l) = .st 77 (l.map (toPV Tryz.prog 7 9)):=by simp only [toPV,un77,uidP]
  rw [e] at h ⊢
  simp only [PVC,sz77] at h
  obtain ⟨l',css,h1,h2,_⟩:=h
  cases h1
  match l,h2 with
  | [],h2=>simp [PVCl] at h2
  | [_],h2=>simp [PVCl] at h2
  | _ :: _ :: _ :: _,h2=>simp [PVCl] at h2
  | [a,b],h2 =>
   simp only [List.map_cons,List.map_nil,PVCl] at h2 ⊢
   obtain ⟨c0,_,_,g0,_,c1,_,_,g1,_⟩:=h2
   have ba:=bulk_part (d:=a) (l:=[a,b]) (by simp) hb
   have bb:=bulk_part (d:=b) (l:=[a,b]) (by simp) hb
   obtain ⟨s,e1,l1,_⟩:=str_arg' (n:=6) ⟨c0,g0⟩ ba
   obtain ⟨t,e2,l2,_⟩:=str_arg' (n:=6) ⟨c1,g1⟩ bb
   exact ⟨(s,t),by rw [e1,e2]; rfl,l1,l2⟩
 | _=>simp only [toPV,un77,PVC] at h
end
end Go.Abs
