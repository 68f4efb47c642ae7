import Derived.Test.YthckccalfpnmaaaGreatDoorPD
import Derived.Test.YthckccalfpnmaaaGreatDoorPB
import Derived.Test.YthckccalfpnmaaaGreatDoorThE
import Derived.Test.YthckccalfpnmaaaGreatDoorPC
import Derived.Test.YthckccalfpnmaaaGreatDoorPA
/- Parts of a proof. -/
set_option linter.unusedSimpArgs false
set_option linter.unusedVariables false
set_option linter.unusedSectionVars false
namespace Go.Abs
open Go.Proofs
set_option maxHeartbeats 4000000
set_option maxRecDepth 100000
def zV:PV:=.st 147 [.str [],.int .i64 0,.nsl,.st 23 [.str [],.nsl]]
def oV:Option VerD → PV
 | some v=>eVer v
 | none=>zV
@[simp] theorem shp_zV:shp zV = .agg 147:=rfl
@[simp] theorem shp_oV {o:Option VerD}:shp (oV o) = .agg 147:=by cases o <;> rfl
def bestStep (c:Option VerD) (v:VerD):Option VerD:=match c with
 | none=>some v
 | some x=>if v.level ≤ x.level then some x else some v
theorem bestR_cons (v:VerD) (r:List VerD) (c:Option VerD):bestR (v :: r) c = bestR r (bestStep c v):=by
 cases c <;> rfl
theorem base_all (h:List VerD) (a b:List Nat):bestR (h.reverse.filter fun v=>ancS h a v.name && ancS h b v.name) none = baseS h a b:=by
 rw [List.filter_reverse,best_rev,baseS]
theorem g_base {h : List VerD} (ok : HistOk h) (M : Memo) (a b : List Nat) :
    GoodI Tryz.prog 126 [.box false (.st 297 [.p (eHist h),.map 1]),.map false (memoE M)] [.ptr 0 [],.p (.str a),.p (.str b)] [.box false (.st 297 [.p (eHist h),.map 1]),.map false (memoE M)] (.p (.tup [oV (baseS h a b),.bool (baseS h a b).isSome])):=by
 refine goodI_fn nf isF126 mix (by simp [Tryz.f126]) ?_
 have hlen:h.length ≤ 256:=ok.len
 have hA:=g_ancestors ok M a
 have hB:=g_ancestors ok M b
 simp [Tryz.f126]
 refine cf hA [0,1] ?_
 simp [sig]
 refine cf hB [0,1] ?_
 simp [sig,eHist]
 refine lp (α:=Nat × Option VerD) (fun (i,c)=>⟨[(26,.p (.int .i64 i)),(25,.p (.int .i64 h.length)),(11,.p (.bool c.isSome)),(10,.ptr 7 []),(9,.map 6),(8,.map 4),(6,.ptr 2 []),(0,.ptr 0 [])],[.box false (.st 297 [.p (eHist h),.map 1]),.map false (memoE M),.box false (.p zV),.hole,.map false (seenE (ancM h a)),.hole,.map false (seenE (ancM h b)),.box false (.p (oV c))]⟩)
  (fun (i,c)=>i ≤ h.length ∧ bestR ((h.reverse.drop i).filter fun v=>ancS h a v.name && ancS h b v.name) c = baseS h a b) (fun (i,_)=>h.length - i) (0,none) ⟨by simp,by simpa using base_all h a b⟩ ?_ (hn:=by simp [eHist]) (he:=by simp) (hh:=by simp [eHist,oV,zV]) (hr:=by simp) (hr2:=by simp)
 rintro ⟨i,c⟩ ⟨k1,k2⟩
 dsimp only at k1 k2 ⊢
 have hw:=wi1 (i:=i) (by omega)
 by_cases hi:i < h.length
 · have hiz:(i:Int) < (h.length:Int):=by omega
   have hw1:IntKind.i64.wrap ((h.length:Int) - 1) = (h.length:Int) - 1:=by rw [wi64] <;> omega
   have hw2:IntKind.i64.wrap ((h.length:Int) - 1 - (i:Int)) = ((h.length - 1 - i:Nat):Int):=by rw [wi64] <;> omega
   have hx:h.length - 1 - i < h.length:=by omega
   have hrv:h.reverse[i]'(by simpa using hi) = h[h.length - 1 - i]:=by rw [List.getElem_reverse]
   rw [List.drop_eq_getElem_cons (by simpa using hi),hrv] at k2
   generalize hX:h.length - 1 - i = x at *
   have hE:=eVer_eq h[x]
   have a1:=ancM_mem ok a h[x].name
   have a2:=ancM_mem ok b h[x].name
   have hEH:eHist h = .st 75 [.seq (h.map eVer)]:=rfl
   cases hq1:ancS h a h[x].name with
   | false =>
    simp only [hq1,iff_true,iff_false,Bool.false_eq_true] at a1
    rw [List.filter_cons_of_neg (by simp [hq1])] at k2
    simp [hiz,hw1,hw2,hx,hEH,hE,look_seen,a1]
    refine ⟨rfl,?_⟩
    simp [hw]
    exact rd (i + 1,c) ⟨hi,k2⟩ (h1:=by dsimp only; omega) (hn:=by simp [hEH]) (hh:=by simp [hEH])
   | true =>
    simp only [hq1,iff_true,iff_false,Bool.false_eq_true] at a1
    cases hq2:ancS h b h[x].name with
    | false =>
     simp only [hq2,iff_true,iff_false,Bool.false_eq_true] at a2
     rw [List.filter_cons_of_neg (by simp [hq2])] at k2
     simp [hiz,hw1,hw2,hx,hEH,hE,look_seen,a1,a2]
     refine ⟨rfl,?_⟩
     simp [hw]
     exact rd (i + 1,c) ⟨hi,k2⟩ (h1:=by dsimp only; omega) (hn:=by simp [hEH]) (hh:=by simp [hEH])
    | true =>
     simp only [hq2,iff_true,iff_false,Bool.false_eq_true] at a2
     rw [List.filter_cons_of_pos (by simp [hq1,hq2]),bestR_cons] at k2
     cases c with
     | none =>
      simp [hiz,hw1,hw2,hx,hEH,hE,look_seen,a1,a2]
      refine ⟨rfl,?_⟩
      simp [hw]
      exact rd (i + 1,some h[x]) ⟨hi,k2⟩ (h1:=by dsimp only; omega) (hn:=by simp [hEH]) (hh:=by simp [hEH,oV,hE])
     | some y =>
      by_cases hl:h[x].level ≤ y.level
      · simp only [bestStep,hl,if_true] at k2
        simp [hiz,hw1,hw2,hx,hEH,hE,look_seen,a1,a2,oV,eVer_eq y,hl]
        refine ⟨rfl,?_⟩
        simp [hw]
        exact rd (i + 1,some y) ⟨hi,k2⟩ (h1:=by dsimp only; omega) (hn:=by simp [hEH]) (hh:=by simp [hEH,oV,eVer_eq y])
      · simp only [bestStep,hl,if_false] at k2
        simp [hiz,hw1,hw2,hx,hEH,hE,look_seen,a1,a2,oV,eVer_eq y,hl]
        refine ⟨rfl,?_⟩
        simp [hw]
        exact rd (i + 1,some h[x]) ⟨hi,k2⟩ (h1:=by dsimp only; omega) (hn:=by simp [hEH]) (hh:=by simp [hEH,oV,hE])
 · have:i = h.length:=by omega
   subst this
   rw [List.drop_of_length_le (by simp),List.filter_nil] at k2
   change c = _ at k2
   subst k2
   simp [eHist]
   refine ForgetN.og (by simp [eHist]) (by simp) (by simp [eHist]) (by simp) (by simp)
def ancE (h:List VerD) (k:List Nat):List (List Nat):=if openE h [k] ≠ 0 then [] else ancL h k
theorem c_ancestors (h:List VerD) (hb:histB h) (k:List Nat):GoodC Tryz.prog 44 [eHist h,.str k] (.tup [.seq ((ancE h k).map .str),.int .i64 (openE h [k])]):=by
 refine good_fn nf isF44 mix (by simp [Tryz.f44]) ?_
 by_cases hz:¬ openE h [k] = 0
 · have hc:=c_openErr h hb [k] (by simp) hz
   simp [Tryz.f44]
   refine cp (h1:=?g1) hc (by simp; exact ⟨rfl,rfl⟩) ?_
   case g1=>simp
   simp [hz,ancE]
   try rfl
 replace hz:openE h [k] = 0:=by simpa using hz
 have hz1:chkHist h = 0:=by
  rw [openE,firstE_zero] at hz
  exact hz _ List.mem_cons_self
 have ok:=histOk hz1
 have hlen:h.length ≤ 256:=ok.len
 have hO:=g_openN h hb [k] (by simp) 0 hz
 simp at hO
 simp [Tryz.f44]
 refine cf hO [1] ?_
 simp [sig]
 have hA:=g_ancestors ok (memoL h [k]) k
 refine cf hA [4,3] ?_
 simp [sig,eHist]
 have hmem:∀ v:VerD,v.name ∈ ancM h k ↔ ancS h k v.name = true:=fun v=>ancM_mem ok k v.name
 refine lp (α:=Nat) (fun i=>⟨[(28,.p (.int .i64 i)),(27,.p (.int .i64 h.length)),(26,.p (.seq (h.map eVer))),(9,.sl 7 (namesV ((h.take i).filter fun v=>ancS h k v.name)).length 1 0 (namesV ((h.take i).filter fun v=>ancS h k v.name)).length),(8,.map 6)],[.hole,.hole,.hole,.hole,.hole,.hole,.map false (seenE (ancM h k)),.arr .grow (namesV ((h.take i).filter fun v=>ancS h k v.name)).length 1 ((namesV ((h.take i).filter fun v=>ancS h k v.name)).map (AV.p ∘ PV.str))]⟩)
  (fun i=>i ≤ h.length) (fun i=>h.length - i) 0 (by simp) ?_ (he:=by simp [namesV]) (hh:=by simp [namesV])
 rintro i k1
 have hw:=wi1 (i:=i) (by omega)
 have hnl:=names_lt h (fun v=>ancS h k v.name) i
 by_cases hi:i < h.length
 · have hiz:(i:Int) < (h.length:Int):=by omega
   have hE:=eVer_eq h[i]
   have hns:=names_take h (fun v=>ancS h k v.name) hi
   have hm:=hmem h[i]
   generalize namesV ((h.take i).filter fun v=>ancS h k v.name) = L at *
   cases hq:ancS h k h[i].name with
   | false =>
    simp only [hq,iff_false,Bool.false_eq_true] at hm
    simp [hq] at hns
    simp [hiz,hi,hE,look_seen,hm,hw]
    exact rd (i + 1) hi (he:=by simp [hns]) (hh:=by simp [hns]) (hr:=by simp [hns]) (hr2:=by simp [hns])
   | true =>
    simp only [hq,iff_true] at hm
    simp [hq] at hns
    simp [hiz,hi,hE,look_seen,hm,hw]
    refine ⟨by simp only [maxL]; omega,?_⟩
    exact rd (i + 1) hi (he:=by simp [hns]) (hh:=by simp [hns]) (hr:=by simp [hns]) (hr2:=by simp [hns])
 · have:i = h.length:=by omega
   subst this
   simp [ancE,ancL,hz]
end Go.Abs
namespace Go.Abs
open Go.Proofs
set_option maxHeartbeats 4000000
set_option maxRecDepth 100000
theorem g_compactT {H : Heap} {b ver : Nat} {xs l : List (List Nat)} (hb : H[b]? = some (.arr .grow ver 1 (xs.map (AV.p ∘ PV.str)))) (hne : xs ≠ []) (hlen : xs.length ≤ 1048576)
    (hx:Asc xs) (hl:Asc l) (nl:l.Nodup) (hm:∀ a,a ∈ l ↔ a ∈ xs) :
    GoodI Tryz.prog 164 H [.sl b ver 1 0 xs.length] (H.set b (.arr .grow ver 1 ((l ++ List.replicate (xs.length - l.length) []).map (AV.p ∘ PV.str)))) (.sl b ver 1 0 l.length) :=
 g_compact isF164.enters (fun blk off cap zs w h1 h2 h3=>Any.slices_Compact_string Tryz.lays194 blk off cap zs w h1 h2 h3) hb hne (by omega) hx hl nl hm
theorem compact_len {l xs:List (List Nat)} (hn:l.Nodup) (hs:∀ a ∈ l,a ∈ xs):l.length ≤ xs.length:=by
 induction l generalizing xs with
 | nil=>simp
 | cons a r ih =>
  rw [List.nodup_cons] at hn
  have ha:=hs a List.mem_cons_self
  have h1:=ih (xs:=xs.erase a) hn.2 (fun b hb=>(List.mem_erase_of_ne (fun e=>hn.1 (by rw [← e]; exact hb))).2 (hs b (List.mem_cons_of_mem _ hb)))
  rw [List.length_erase_of_mem ha] at h1
  have:0 < xs.length:=List.length_pos_of_mem ha
  simp only [List.length_cons]; omega
theorem c_compact0:GoodC Tryz.prog 164 [.seq []] (.seq []):=by
 refine good_fn nf isF164 mix (by simp [Tryz.f164]) ?_
 simp [Tryz.f164]
def lackT (h:List VerD) (i:Nat):List (List Nat):=((h.take i).flatMap (·.parents)).filter fun p=>(verAt h p).isNone
theorem lackT_succ (h:List VerD) {i:Nat} (hi:i < h.length):lackT h (i + 1) = lackT h i ++ h[i].parents.filter fun p=>(verAt h p).isNone:=by
 rw [lackT,List.take_succ_eq_append_getElem hi,List.flatMap_append,List.filter_append]; simp [lackT]
theorem filt_snoc {α:Type} (p:α → Bool) {l:List α} {j:Nat} (hj:j < l.length):(l.take (j + 1)).filter p = (l.take j).filter p ++ (if p l[j] = true then [l[j]] else []):=by
 rw [List.take_succ_eq_append_getElem hj,List.filter_append]
 cases hp:p l[j] <;> simp [hp]
def missE (h:List VerD):List (List Nat):=if chkHist h ≠ 0 then [] else missS h
theorem c_missing (h:List VerD) (hb:histB h):GoodC Tryz.prog 66 [eHist h] (.tup [.seq ((missE h).map .str),.int .i64 (chkHist h)]):=by
 refine good_fn nf isF66 mix (by simp [Tryz.f66]) ?_
 simp [Tryz.f66]
 refine c1 (c_checkHistory h hb) ?_
 by_cases hz:¬ chkHist h = 0
 · simp [hz,missE]
   try rfl
 replace hz:chkHist h = 0:=by simpa using hz
 have ok:=histOk hz
 have hlen:h.length ≤ 256:=ok.len
 simp [hz,missE,eHist]
 refine lp (α:=Nat × List (List Nat)) (fun (i,L)=>⟨[(20,.p (.int .i64 i)),(19,.p (.int .i64 h.length)),(18,.p (.seq (h.map eVer))),(5,.sl 1 L.length 1 0 L.length),(1,.ptr 0 [])],[.box false (.p (eHist h)),.arr .grow L.length 1 (L.map (AV.p ∘ PV.str))]⟩)
  (fun (i,L)=>i ≤ h.length ∧ L = lackT h i ∧ L.length ≤ 2 * i) (fun (i,_)=>h.length - i) (0,[]) ⟨by simp,by simp [lackT],by simp⟩ ?_ (he:=by simp) (hh:=by simp [eHist])
 rintro ⟨i,L⟩ ⟨k1,k2,k3⟩
 dsimp only at k1 k2 k3 ⊢
 have hw:=wi1 (i:=i) (by omega)
 by_cases hi:i < h.length
 · have hiz:(i:Int) < (h.length:Int):=by omega
   have hE:=eVer_eq h[i]
   have hpl:=ok.par h[i] (List.getElem_mem hi)
   simp [hiz,hi,hE]
   refine lp (α:=Nat × List (List Nat)) (fun (j,L)=>⟨[(27,.p (.int .i64 j)),(26,.p (.int .i64 h[i].parents.length)),(25,.p (.seq (h[i].parents.map .str))),(20,.p (.int .i64 i)),(19,.p (.int .i64 h.length)),(18,.p (.seq (h.map eVer))),(5,.sl 1 L.length 1 0 L.length),(1,.ptr 0 [])],[.box false (.p (eHist h)),.arr .grow L.length 1 (L.map (AV.p ∘ PV.str))]⟩)
    (fun (j,L)=>j ≤ h[i].parents.length ∧ L = lackT h i ++ (h[i].parents.take j).filter (fun p=>(verAt h p).isNone) ∧ L.length ≤ 2 * i + j) (fun (j,_)=>h[i].parents.length - j) (0,L) ⟨by simp,by simpa using k2,by omega⟩ ?_ (he:=by simp) (hh:=by simp [hE])
   clear k2 k3
   rintro ⟨j,L⟩ ⟨q1,q2,q3⟩
   dsimp only at q1 q2 q3 ⊢
   have hw2:=wi1 (i:=j) (by omega)
   by_cases hj:j < h[i].parents.length
   · have hjz:(j:Int) < (h[i].parents.length:Int):=by omega
     have hs:=filt_snoc (fun p=>(verAt h p).isNone) hj
     simp [hjz,hj]
     refine c2 (c_findV h h[i].parents[j] ok.asc (by omega)) ?_
     cases hx:verAt h h[i].parents[j] with
     | none =>
      simp [hx] at hs
      simp [hw2]
      refine ⟨by simp only [maxL]; omega,?_⟩
      exact rd (j + 1,L ++ [h[i].parents[j]]) ⟨hj,by rw [hs,q2,List.append_assoc],by rw [List.length_append]; simp only [List.length_cons,List.length_nil]; omega⟩ (h1:=by dsimp only; omega) (he:=by simp) (hh:=by simp)
     | some x =>
      simp [hx] at hs
      simp [hw2]
      exact rd (j + 1,L) ⟨hj,by rw [hs,q2],by dsimp only; omega⟩ (h1:=by dsimp only; omega) (he:=by simp) (hh:=by simp)
   · have:j = h[i].parents.length:=by omega
     subst this
     simp [hw]
     exact rd (i + 1,L) ⟨hi,by rw [lackT_succ h hi,q2,List.take_length],by dsimp only; omega⟩ (h1:=by dsimp only; omega) (he:=by simp) (hh:=by simp)
 · have:i = h.length:=by omega
   subst this
   have kL:L = lackL h:=by rw [k2,lackT,List.take_length,lackL]
   clear k2
   obtain ⟨m1,m2,m3⟩:=missS_ok h
   rw [← kL] at m3
   by_cases hne:L = []
   · have hm0:missS h = []:=by
      cases hq:missS h with
      | nil=>rfl
      | cons a r=>have:=(m3 a).1 (by rw [hq]; exact List.mem_cons_self); rw [hne] at this; simp at this
     subst hne
     simp [hm0]
     refine ci (g_sort_nil (b:=1) (ver:=0) rfl) ?_
     simp
     refine cp (h1:=?g1) c_compact0 (by simp; exact ⟨rfl,rfl⟩) ?_
     case g1=>simp
     simp [hz,hm0]
   · have hso:=sortS_asc L
     have hsl:(sortS L).length = L.length:=(sortS_perm L).length_eq
     have gC:=g_compactT (H:=[.box false (.p (eHist h)),.arr .grow L.length 1 ((sortS L).map (AV.p ∘ PV.str))]) (b:=1) (ver:=L.length) (xs:=sortS L) (l:=missS h) rfl (fun e=>hne (by rw [e] at hsl; exact List.length_eq_zero_iff.1 hsl.symm)) (by omega) hso m1 m2 (fun a=>by rw [m3 a,(sortS_perm L).mem_iff])
     rw [hsl] at gC
     have hml:(missS h).length ≤ L.length:=by
      have:=compact_len m2 (fun a ha=>(m3 a).1 ha)
      exact this
     simp
     refine ci (g_sort163 (b:=1) (ver:=L.length) (xs:=L) rfl hne (by omega)) ?_
     simp
     refine ci gC ?_
     simp [hz]
end Go.Abs
namespace Go.Abs
open Go.Proofs
set_option maxHeartbeats 4000000
set_option maxRecDepth 100000
theorem c_equalS (a b:List (List Nat)) (ha:a.length ≤ 1048576) (hb:b.length ≤ 1048576):GoodC Tryz.prog 219 [.seq (a.map .str),.seq (b.map .str)] (.bool (decide (a = b))):=by
 refine good_fn nf isF219 mix (by simp [Tryz.f219]) ?_
 by_cases hl:a.length = b.length
 · have hl':(a.length:Int) = b.length:=by omega
   simp [Tryz.f219,hl']
   refine lp (α:=Nat) (fun i=>⟨[(13,.p (.int .i64 i)),(12,.p (.int .i64 b.length)),(1,.p (.seq (b.map .str))),(0,.p (.seq (a.map .str)))],[]⟩) (fun i=>i ≤ a.length ∧ decide (a = b) = decide (a.drop i = b.drop i)) (fun i=>a.length - i) 0 (by simp) ?_
   rintro i ⟨k1,k2⟩
   by_cases hi:i < a.length
   · have hi':i < b.length:=by omega
     rw [beq_drop hi hi'] at k2
     have hw:=wi1 (i:=i) (by omega)
     by_cases he:a[i] = b[i]
     · rw [decide_eq_true he,Bool.true_and] at k2
       simp [hi,hi',he,hw]
       exact rd (i + 1) ⟨hi,k2⟩
     · rw [decide_eq_false he,Bool.false_and] at k2
       rw [k2]
       simp [hi,hi',he]
   · have:i = a.length:=by omega
     subst this
     have k3:decide (a = b) = true:=by rw [k2,List.drop_length,hl,List.drop_length]; rfl
     rw [k3]
     simp [hl]
 · have hl':¬ (a.length:Int) = b.length:=by omega
   rw [decide_eq_false (len_ne hl)]
   simp [Tryz.f219,hl']
theorem c_bookCopied (b:BookD) (h:bookB b):GoodC Tryz.prog 205 [eBook b] (eBook b):=by
 refine good_fn nf isF205 mix (by simp [Tryz.f205]) ?_
 obtain ⟨nm,rows⟩:=b
 simp [Tryz.f205,eBook]
 refine e2 (c_mappedRR rows h.2) ?_
 simp
 try rfl
theorem c_verCopied (v:VerD) (h:verB v):GoodC Tryz.prog 131 [eVer v] (eVer v):=by
 refine good_fn nf isF131 mix (by simp [Tryz.f131]) ?_
 obtain ⟨nm,lv,ps,bk⟩:=v
 simp [Tryz.f131,eVer_mk]
 refine e1 (c_cloneS ps h.2.1) ?_
 simp
 refine e1 (c_bookCopied bk h.2.2.2) ?_
 simp
 exact ⟨⟨rfl,rfl,rfl⟩,rfl,rfl⟩
theorem c_equalRows (a b:List RowD) (ha:rowsB a) (hb:rowsB b):GoodC Tryz.prog 220 [.seq (a.map eRow),.seq (b.map eRow),.func 171 [] []] (.bool (decide (a = b))):=by
 refine good_fn nf isF220 mix (by simp [Tryz.f220]) ?_
 obtain ⟨ha,ha'⟩:=ha
 obtain ⟨hb,hb'⟩:=hb
 by_cases hl:a.length = b.length
 · have hl':(a.length:Int) = b.length:=by omega
   simp [Tryz.f220,hl']
   refine lp (α:=Nat) (fun i=>⟨[(17,.p (.int .i64 i)),(16,.p (.int .i64 b.length)),(15,.p (.seq (a.map eRow))),(2,.p (.func 171 [] [])),(1,.p (.seq (b.map eRow)))],[]⟩) (fun i=>i ≤ a.length ∧ decide (a = b) = decide (a.drop i = b.drop i)) (fun i=>a.length - i) 0 (by simp) ?_
   rintro i ⟨k1,k2⟩
   by_cases hi:i < a.length
   · have hi':i < b.length:=by omega
     rw [beq_drop hi hi'] at k2
     have hw:=wi1 (i:=i) (by omega)
     simp [hi,hi']
     refine c2 (c_same a[i] b[i] (ha' _ (List.getElem_mem hi)) (hb' _ (List.getElem_mem hi'))) ?_
     by_cases he:a[i] = b[i]
     · rw [decide_eq_true he,Bool.true_and] at k2
       simp [he,hw]
       exact rd (i + 1) ⟨hi,k2⟩
     · rw [decide_eq_false he,Bool.false_and] at k2
       rw [k2]
       simp [he]
   · have:i = a.length:=by omega
     subst this
     have k3:decide (a = b) = true:=by rw [k2,List.drop_length,hl,List.drop_length]; rfl
     rw [k3]
     simp [hl]
 · have hl':¬ (a.length:Int) = b.length:=by omega
   rw [decide_eq_false (len_ne hl)]
   simp [Tryz.f220,hl']
theorem c_sameV (a b:VerD) (ha:verB a) (hb:verB b):GoodC Tryz.prog 162 [eVer a,eVer b] (.bool (decide (a = b))):=by
 refine good_fn nf isF162 mix (by simp [Tryz.f162]) ?_
 obtain ⟨n1,l1,p1,m1,r1⟩:=a
 obtain ⟨n2,l2,p2,m2,r2⟩:=b
 have hE:(decide ((⟨n1,l1,p1,m1,r1⟩:VerD) = ⟨n2,l2,p2,m2,r2⟩)) = (decide (n1 = n2) && decide (l1 = l2) && decide (p1 = p2) && decide (m1 = m2) && decide (r1 = r2)):=by
  rw [Bool.eq_iff_iff]; simp [and_assoc]
 rw [hE]
 by_cases h1:n1 = n2
 · by_cases h2:l1 = l2
   · simp [Tryz.f162,eVer_mk,eBook,h1,h2]
     refine c2 (c_equalS p1 p2 ha.2.1 hb.2.1) ?_
     by_cases h3:p1 = p2
     · by_cases h4:m1 = m2
       · simp [h3,h4]
         refine c3 (c_equalRows r1 r2 ha.2.2.2.2 hb.2.2.2.2) ?_
         simp [h1,h2,h3,h4]
       · simp [h3,h4]
     · simp [h3]
   · simp [Tryz.f162,eVer_mk,eBook,h1,h2]
 · simp [Tryz.f162,eVer_mk,eBook,h1]
theorem g_mappedVV (l:List VerD) (h:histB l):GoodI Tryz.prog 130 [] [.p (.seq (l.map eVer)),.p (.func 131 [] [])] [.arr .grow l.length 5 (l.map (AV.p ∘ eVer))] (.sl 0 l.length 5 0 l.length):=by
 refine goodI_fn nf isF130 mix (by simp [Tryz.f130]) ?_
 have hl:=h.1
 simp [Tryz.f130]
 refine lp (α:=Nat) (fun i=>⟨[(10,.p (.int .i64 i)),(9,.p (.int .i64 l.length)),(8,.p (.seq (l.map eVer))),(5,.sl 0 i 5 0 i),(1,.p (.func 131 [] []))],[.arr .grow i 5 ((l.map fun r=>.p (eVer r)).take i)]⟩) (fun i=>i ≤ l.length) (fun i=>l.length - i) 0 (by simp) ?_
 rintro i k1
 by_cases hi:i < l.length
 · have hw:=wi1 (i:=i) (by omega)
   have ht:=take_next (fun r=>AV.p (eVer r)) hi
   simp [hi]
   refine c1 (c_verCopied l[i] (h.2 _ (List.getElem_mem hi))) ?_
   simp
   refine ⟨⟨by omega,by simp only [maxL]; omega⟩,?_⟩
   exact rd (i + 1) hi (he:=by simp [hw]) (hh:=by simp [ht]) (hr2:=by simp [ht])
 · have:i = l.length:=by omega
   subst this
   simp [oneOf,Function.comp_def]
theorem g_sortV0 {H:Heap} {b ver:Nat} (hb:H[b]? = some (.arr .grow ver 5 [])):GoodI Tryz.prog 203 H [.sl b ver 5 0 0,.p (.func 204 [] [])] H (.p (.tup [])):=by
 refine ⟨isF203.enters,fun w Imm Prot β cargs hr ha hre=>?_⟩
 simp only [AVVl,AVV] at ha
 obtain ⟨v,vs,rfl,⟨_,hp⟩,v2,vs2,rfl,hf,rfl⟩:=ha
 obtain ⟨_,hv,_⟩:=hp .grow _ hb
 have hv:=hv ⟨rfl,rfl⟩
 subst hv
 refine (AnyF.slices_SortFunc_none Tryz.sortF none 0 v2 w).mono ?_
 rintro e w' ⟨rfl,rfl⟩
 exact ⟨_,β,Imm,rfl,Post.refl hr,by simp [AVV,PVV,PVVl],by simp [refsLt]⟩
theorem sortV_len (l:List VerD):(sortV l).length = l.length:=by
 rw [sortV,(foldl_insVr_perm l []).length_eq]; simp
theorem g_sorted (xs : List VerD) (n : Nat) (hn : n = xs.length) (hl : xs.length ≤ 1048576) (hnd : (namesV xs).Nodup) :
    GoodI Tryz.prog 129 [.arr .grow n 5 (xs.map (AV.p ∘ eVer))] [.sl 0 n 5 0 n] [.arr .grow n 5 ((sortV xs).map (AV.p ∘ eVer))] (.st 75 [.sl 0 n 5 0 n]):=by
 subst hn
 refine goodI_fn nf isF129 mix (by simp [Tryz.f129]) ?_
 by_cases hne:xs = []
 · subst hne
   simp [Tryz.f129]
   refine ci (g_sortV0 (b:=0) (ver:=0) rfl) ?_
   simp [oneOf,sortV]
   refine ForgetN.og (by simp) (by simp) (by simp) (by simp) (by simp)
 · simp [Tryz.f129]
   refine ci (g_sortV (b:=0) (ver:=xs.length) (xs:=xs) rfl hne hl hnd) ?_
   simp [oneOf]
   refine ForgetN.og (by simp) (by simp) (by simp) (by simp) (by simp)
theorem sz_hist:szs Tryz.prog 75 = some [1]:=by kernel_rfl
def frzV (S:List VerD) (n:Nat):Obj:=if S = [] then .arr .grow n 5 [] else .arr .frozen n 5 (S.map (AV.p ∘ eVer))
theorem g_levelsS (S : List VerD) (n : Nat) (hn : n = S.length) (ha : AscV S) (hb : histB S) :
    GoodI Tryz.prog 132 [.arr .grow n 5 (S.map (AV.p ∘ eVer))] [.st 75 [.sl 0 n 5 0 n]] [frzV S n] (.p (.int .i64 (whenE (lvlBad S) 11))):=by
 subst hn
 have hc:=c_checkLevels S ha hb
 rw [eHist] at hc
 cases S with
 | nil=>exact hc.inSt (vs':=.nsl) isF132.enters sz_hist (by simp [purL,purA,frzV]) rfl (by simp [Wk])
 | cons v r =>
  refine hc.inSt (vs':=.lst false ((v :: r).map eVer)) isF132.enters sz_hist ?_ rfl (by simp [Wk])
  have hal:allP (r.map (AV.p ∘ eVer)) = some (r.map eVer):=by
   have:=allP_map (r.map eVer)
   simpa using this
  simp [purL,purA,frzV,hal]
theorem gather_nodup {a b:List VerD} (ha:AscV a) (hb:AscV b):(namesV (a ++ newG a b)).Nodup:=by
 rw [namesV,List.map_append,List.nodup_append]
 refine ⟨ha.names,(filt_names hb _).2,?_⟩
 intro x hx y hy hxy
 subst hxy
 obtain ⟨v,hv,rfl⟩:=List.mem_map.1 hx
 obtain ⟨u,hu,hun⟩:=List.mem_map.1 hy
 obtain ⟨_,h2⟩:=List.mem_filter.1 hu
 rw [hun,verAt_of ha.names hv] at h2
 simp at h2
theorem newG_take (a b:List VerD) {i:Nat} (hi:i < b.length):newG a (b.take (i + 1)) = newG a (b.take i) ++ (if (verAt a b[i].name).isNone = true then [b[i]] else []):=filt_snoc _ hi
theorem confG_drop (a b:List VerD) {i:Nat} (hi:i < b.length):confG a (b.drop i) = ((verAt a b[i].name).any (fun o=>!decide (o = b[i])) || confG a (b.drop (i + 1))):=any_dropV _ hi
theorem c_gather (a b:List VerD) (ha:histB a) (hb:histB b):GoodC Tryz.prog 65 [eHist a,eHist b] (.tup [eHist (gatherV a b).1,.int .i64 (gatherV a b).2]):=by
 refine good_fn nf isF65 mix (by simp [Tryz.f65]) ?_
 simp [Tryz.f65]
 refine e1 (c_checkHistory a ha) ?_
 simp
 refine e1 (c_checkHistory b hb) ?_
 simp
 refine ep (h1:=?g1) (c_first [chkHist a,chkHist b] (by simp)) (by simp; exact ⟨rfl,rfl⟩) (by simp; exact ⟨rfl,rfl⟩) ?_
 case g1=>simp
 by_cases hz:¬ firstE [chkHist a,chkHist b] = 0
 · have hm:gatherV a b = ([],firstE [chkHist a,chkHist b]):=by rw [gatherV,if_pos hz]
   rw [hm]
   simp [hz,eHist]
   try rfl
 replace hz:firstE [chkHist a,chkHist b] = 0:=by simpa using hz
 have hm:gatherV a b = gatherS a b:=by rw [gatherV,if_neg (by simpa using hz)]
 rw [hm]
 have hz1:chkHist a = 0:=by rw [firstE_zero] at hz; exact hz _ List.mem_cons_self
 have hz2:chkHist b = 0:=by rw [firstE_zero] at hz; exact hz _ (List.mem_cons_of_mem _ List.mem_cons_self)
 have oa:=histOk hz1
 have ob:=histOk hz2
 have la:a.length ≤ 256:=oa.len
 have lb:b.length ≤ 256:=ob.len
 simp [hz,eHist]
 refine ⟨rfl,?_⟩
 refine cn2 (g_mappedVV a ha) ?_
 simp
 refine lp (α:=Nat × List VerD) (fun (i,L)=>⟨[(29,.p (.int .i64 i)),(28,.p (.int .i64 b.length)),(27,.p (.seq (b.map eVer))),(7,.sl 4 L.length 5 0 L.length),(4,.ptr 2 []),(2,.ptr 0 [])],[.box false (.p (eHist a)),.hole,.box false (.p (.st 75 [.nsl])),.hole,.arr .grow L.length 5 (L.map (AV.p ∘ eVer))]⟩)
  (fun (i,L)=>i ≤ b.length ∧ L = a ++ newG a (b.take i) ∧ L.length ≤ a.length + i ∧ confG a b = confG a (b.drop i)) (fun (i,_)=>b.length - i) (0,a) ⟨by simp,by simp [newG],by simp,by simp⟩ ?_ (hn:=by simp [eHist]) (he:=by simp [eHist]) (hh:=by simp [eHist]) (hr:=by simp) (hr2:=by simp)
 rintro ⟨i,L⟩ ⟨k1,k2,k3,k4⟩
 dsimp only at k1 k2 k3 k4 ⊢
 have hw:=wi1 (i:=i) (by omega)
 by_cases hi:i < b.length
 · have hiz:(i:Int) < (b.length:Int):=by omega
   have hE:=eVer_eq b[i]
   have hvb:=hb.2 _ (List.getElem_mem hi)
   have hng:=newG_take a b hi
   rw [confG_drop a b hi] at k4
   simp [hiz,hi,hE]
   refine c2 (c_findV a b[i].name oa.asc (by omega)) ?_
   cases hx:verAt a b[i].name with
   | none =>
    simp [hx] at hng k4
    simp
    refine c1 (c_verCopied b[i] hvb) ?_ (h1:=by rw [hE]; exact Wk.refl _)
    simp [hw]
    refine ⟨by simp only [maxL]; omega,?_⟩
    exact rd (i + 1,L ++ [b[i]]) ⟨hi,by rw [hng,k2,List.append_assoc],by dsimp only; simp; omega,k4⟩ (h1:=by dsimp only; omega) (he:=by simp) (hh:=by simp) (hr:=by simp) (hr2:=by simp)
   | some o =>
    simp [hx] at hng k4
    have hov:=ha.2 _ (verAt_mem hx).1
    simp
    refine c2 (c_sameV o b[i] hov hvb) ?_ (h2:=by rw [hE]; exact Wk.refl _)
    by_cases hq:o = b[i]
    · simp [hq] at k4
      simp [hq,hw]
      exact rd (i + 1,L) ⟨hi,by rw [hng,k2],by dsimp only; omega,k4⟩ (h1:=by dsimp only; omega) (he:=by simp) (hh:=by simp) (hr:=by simp) (hr2:=by simp)
    · simp [hq] at k4
      simp [hq,gatherS,k4]
      try rfl
 · have:i = b.length:=by omega
   subst this
   rw [List.take_length] at k2
   have k4:confG a b = false:=by rw [k4,List.drop_length]; rfl
   have hgs:gatherS a b = if 256 < L.length then ([],5) else if lvlBad (sortV L) = true then ([],29) else (sortV L,0):=by
    rw [gatherS,k4,← k2]; simp
   rw [hgs]
   have hnd:(namesV L).Nodup:=by rw [k2]; exact gather_nodup oa.asc ob.asc
   have hSb:histB (sortV L):=⟨by rw [sortV_len]; omega,fun v hv=>by
    rw [sortV_mem] at hv
    rw [k2] at hv
    rcases List.mem_append.1 hv with h1 | h1
    · exact ha.2 _ h1
    · exact hb.2 _ (List.mem_filter.1 h1).1⟩
   by_cases hL:256 < L.length
   · have hL':(256:Int) < (L.length:Int):=by omega
     simp [hL,hL']
     try rfl
   have hL':¬ (256:Int) < (L.length:Int):=by omega
   have hgS:=g_sorted L L.length rfl (by omega) hnd
   have hgL:=g_levelsS (sortV L) L.length (by rw [sortV_len]) (sortV_asc hnd) hSb
   simp [hL,hL']
   refine cf hgS [4] ?_
   simp [sig]
   by_cases hS:sortV L = []
   · have hL0:L.length = 0:=by have:=sortV_len L; rw [hS] at this; exact this.symm
     rw [frzV,if_pos hS] at hgL
     refine cf hgL [4] ?_
     cases hlb:lvlBad (sortV L) with
     | true=>simp [sig,whenE,hL0]; try rfl
     | false=>simp [sig,whenE,hL0,hS]
   · rw [frzV,if_neg hS] at hgL
     refine cf hgL [4] ?_
     have hsl:=sortV_len L
     cases hlb:lvlBad (sortV L) with
     | true=>simp [sig,whenE,hL]; try rfl
     | false =>
      have ht:List.take L.length (List.map (AV.p ∘ eVer) (sortV L)) = List.map (AV.p ∘ eVer) (sortV L):=List.take_of_length_le (by simp [hsl])
      simp [sig,whenE,hL,hsl,ht]
end Go.Abs
namespace Go.Abs
open Go.Proofs
set_option maxHeartbeats 4000000
set_option maxRecDepth 100000
theorem g_sorted2 (o : Obj) (v0 : Nat) (ps : List (List Nat)) (xs : List VerD) (n : Nat) (hn : n = xs.length) (hne : xs ≠ []) (hl : xs.length ≤ 1048576) (hnd : (namesV xs).Nodup) (ho : o = .arr .frozen v0 1 (ps.map (AV.p ∘ PV.str))) :
    GoodI Tryz.prog 129 [o,.arr .grow n 5 (xs.map (AV.p ∘ eVer))] [.sl 1 n 5 0 n] [o,.arr .grow n 5 ((sortV xs).map (AV.p ∘ eVer))] (.st 75 [.sl 1 n 5 0 n]):=by
 subst hn
 refine goodI_fn nf isF129 mix (by simp [Tryz.f129]) ?_
 simp [Tryz.f129]
 refine ci (g_sortV (b:=1) (ver:=xs.length) (xs:=xs) rfl hne hl hnd) ?_
 simp [oneOf]
 subst ho
 refine ForgetN.og (by simp) (by simp) (by simp) (by simp) (by simp)
def joinP (h:List VerD) (a b nm:List Nat):List VerD × List (List Nat) × Int :=
 if openE h [a,b] ≠ 0 then ([],[],openE h [a,b]) else joinH h a b nm ((verAt h a).getD zVer) ((verAt h b).getD zVer)
theorem open_at {h:List VerD} {l:List (List Nat)} (hz:openE h l = 0):chkHist h = 0 ∧ ∀ k ∈ l,∃ v,verAt h k = some v ∧ wholeS h k = true:=by
 rw [openE,firstE_zero] at hz
 refine ⟨hz _ List.mem_cons_self,?_⟩
 have h2:=hz _ (List.mem_cons_of_mem _ List.mem_cons_self)
 clear hz
 induction l with
 | nil=>intro k hk; cases hk
 | cons x r ih =>
  rw [namesE] at h2
  by_cases hn:nameE h x = 0
  · rw [if_pos hn] at h2
    intro k hk
    rcases List.mem_cons.1 hk with rfl | hk
    · rw [nameE,firstE_zero] at hn
      have e1:=hn _ List.mem_cons_self
      have e2:=hn _ (List.mem_cons_of_mem _ List.mem_cons_self)
      rw [whenE_zero (by omega)] at e1 e2
      cases hv:verAt h k with
      | none=>rw [hv] at e1; simp at e1
      | some v=>exact ⟨v,rfl,by simpa using e2⟩
    · exact ih h2 k hk
  · rw [if_neg hn] at h2; exact absurd h2 hn
theorem bestF_mem:∀ (l:List VerD) (b:Option VerD) (v:VerD),bestF l b = some v → v ∈ l ∨ b = some v
 | [],b,v,h=>.inr h
 | u :: r,b,v,h=>by
  rcases bestF_mem r _ v (show bestF r _ = some v from h) with h1 | h1
  · exact .inl (List.mem_cons_of_mem _ h1)
  · cases b with
    | none=>simp at h1; subst h1; exact .inl List.mem_cons_self
    | some x =>
     simp only at h1
     split at h1
     · cases h1; exact .inl List.mem_cons_self
     · exact .inr h1
theorem base_mem {h:List VerD} {a b:List Nat} {v:VerD} (hv:baseS h a b = some v):v ∈ h:=by
 rcases bestF_mem _ _ _ hv with h1 | h1
 · exact (List.mem_filter.1 h1).1
 · cases h1
theorem base_ok {h:List VerD} (ok:HistOk h) (hb:histB h) {a b:List Nat} {x:VerD} (hx:x ∈ h):bookB (baseB h a b x) ∧ rowsI (baseB h a b x).rows ∧ (keysOf (baseB h a b x).rows).Nodup ∧ (baseB h a b x).rows.length ≤ 1000:=by
 rw [baseB]
 cases hv:baseS h a b with
 | none=>exact ⟨⟨(hb.2 x hx).2.2.2.1,by simp,by simp⟩,by simp [rowsI],by simp [keysOf],by simp⟩
 | some v =>
  have hm:=base_mem hv
  have z:=chkBook_zero (ok.bok v hm)
  exact ⟨(hb.2 v hm).2.2.2,chkRows_I z,(chkRows_iff.1 z).2.2,by have:=(chkRows_iff.1 z).1; simp only; omega⟩
theorem c_join_ok (h : List VerD) (hb : histB h) (a b nm : List Nat) (hnm : nm.length ≤ 1048576) (hz : openE h [a, b] = 0) (x y : VerD) (hx : verAt h a = some x) (hy : verAt h b = some y) :
    GoodC Tryz.prog 46 [eHist h,.str a,.str b,.str nm] (.tup [eHist (joinH h a b nm x y).1,.seq ((joinH h a b nm x y).2.1.map .str),.int .i64 (joinH h a b nm x y).2.2]):=by
 refine good_fn nf isF46 mix (by simp [Tryz.f46]) ?_
 have hz1:=(open_at hz).1
 have ok:=histOk hz1
 have hlen:h.length ≤ 256:=ok.len
 have hO:=g_openN h hb [a,b] (by simp) 0 hz
 simp [eHist] at hO
 have lx:=ok.lev x (verAt_mem hx).1
 have ly:=ok.lev y (verAt_mem hy).1
 have hmx:max x.level y.level ≤ 256:=by omega
 have hmn:1 ≤ max x.level y.level:=by omega
 have hmi:(if x.level < y.level then y.level else x.level) = max x.level y.level:=by
  rw [Int.max_def]; split <;> split <;> omega
 have hcz:decide ((256:Int) ≤ (h.length:Int)) = decide (256 ≤ h.length):=by rw [decide_eq_decide]; omega
 have hwl:IntKind.i64.wrap (max x.level y.level + 1) = max x.level y.level + 1:=by rw [wi64] <;> omega
 rw [← hmi] at hwl
 simp [Tryz.f46,eHist]
 refine cf hO [2] ?_
 simp [sig]
 refine c2 (c_findV h nm ok.asc (by omega)) ?_
 simp
 refine c2 (c_findV h a ok.asc (by omega)) ?_
 simp
 refine c2 (c_findV h b ok.asc (by omega)) ?_
 rw [hx,hy]
 simp [eVer_eq x,eVer_eq y,hwl]
 refine e1 (c_named nm hnm) ?_
 simp
 refine e2 (c_when (verAt h nm).isSome 9) ?_
 simp
 have hAa:=g_ancestors ok (memoL h [a,b]) a
 have hAb:=g_ancestors ok (memoL h [a,b]) b
 simp only [eHist] at hAa hAb
 have ma:=ancM_mem ok a b
 have mb:=ancM_mem ok b a
 refine ef hAa [5,4] ?_
 have hjE:∀ t:Bool,t = (ancS h a b || ancS h b a) → firstE [whenE (!isName nm) 8,whenE (verAt h nm).isSome 9,whenE t 19,whenE (decide (256 ≤ h.length)) 5,withinE (max x.level y.level + 1) 1 256] = joinE h a b nm x y:=fun t ht=>by rw [ht]; rfl
 have hne:(ancS h a b || ancS h b a) = true → joinE h a b nm x y ≠ 0:=by
  intro ht he
  rw [← hjE _ rfl,ht,firstE_zero] at he
  have:=he (whenE true 19) (by simp)
  simp [whenE] at this
 have hJe:joinE h a b nm x y ≠ 0 → joinH h a b nm x y = ([],[],joinE h a b nm x y):=fun he=>by rw [joinH,if_pos he]
 cases q1:ancS h a b with
 | true =>
  simp only [q1,iff_true] at ma
  have hE:=hjE true (by rw [q1]; rfl)
  have hn:=hne (by rw [q1]; rfl)
  rw [hJe hn]
  simp [sig,look_seen,ma]
  refine e2 (c_when true 19) ?_
  simp
  refine e2 (c_when (decide (256 ≤ h.length)) 5) ?_ (h1:=by rw [← hcz]; exact Wk.refl _)
  simp
  refine e3 (c_within (max x.level y.level + 1) 1 256) ?_ (h1:=by rw [hmi]; exact Wk.refl _)
  simp
  refine ep (h1:=?g1) (c_first [whenE (!isName nm) 8,whenE (verAt h nm).isSome 9,whenE true 19,whenE (decide (256 ≤ h.length)) 5,withinE (max x.level y.level + 1) 1 256] (by simp)) (by simp; exact ⟨rfl,rfl⟩) (by simp; exact ⟨rfl,rfl⟩) ?_
  case g1=>simp
  rw [hE]
  simp [hn]
  exact ⟨rfl,rfl⟩
 | false =>
  simp only [q1,iff_false,Bool.false_eq_true] at ma
  simp [sig,look_seen,ma]
  refine ef hAb [5,4] ?_
  cases q2:ancS h b a with
  | true =>
   simp only [q2,iff_true] at mb
   have hE:=hjE true (by rw [q1,q2]; rfl)
   have hn:=hne (by rw [q1,q2]; rfl)
   rw [hJe hn]
   simp [sig,look_seen,mb]
   refine e2 (c_when true 19) ?_
   simp
   refine e2 (c_when (decide (256 ≤ h.length)) 5) ?_ (h1:=by rw [← hcz]; exact Wk.refl _)
   simp
   refine e3 (c_within (max x.level y.level + 1) 1 256) ?_ (h1:=by rw [hmi]; exact Wk.refl _)
   simp
   refine ep (h1:=?g1) (c_first [whenE (!isName nm) 8,whenE (verAt h nm).isSome 9,whenE true 19,whenE (decide (256 ≤ h.length)) 5,withinE (max x.level y.level + 1) 1 256] (by simp)) (by simp; exact ⟨rfl,rfl⟩) (by simp; exact ⟨rfl,rfl⟩) ?_
   case g1=>simp
   rw [hE]
   simp [hn]
   exact ⟨rfl,rfl,rfl,rfl⟩
  | false =>
   simp only [q2,iff_false,Bool.false_eq_true] at mb
   have hE:=hjE false (by rw [q1,q2]; rfl)
   simp [sig,look_seen,mb]
   refine e2 (c_when false 19) ?_
   simp
   refine e2 (c_when (decide (256 ≤ h.length)) 5) ?_ (h1:=by rw [← hcz]; exact Wk.refl _)
   simp
   refine e3 (c_within (max x.level y.level + 1) 1 256) ?_ (h1:=by rw [hmi]; exact Wk.refl _)
   simp
   refine ep (h1:=?g1) (c_first [whenE (!isName nm) 8,whenE (verAt h nm).isSome 9,whenE false 19,whenE (decide (256 ≤ h.length)) 5,withinE (max x.level y.level + 1) 1 256] (by simp)) (by simp; exact ⟨rfl,rfl⟩) (by simp; exact ⟨rfl,rfl⟩) ?_
   case g1=>simp
   rw [hE]
   by_cases hn:¬ joinE h a b nm x y = 0
   · rw [hJe hn]
     simp [hn]
     exact ⟨rfl,rfl,rfl,rfl⟩
   replace hn:joinE h a b nm x y = 0:=by simpa using hn
   have hBx:eBook x.book = .st 23 [.str x.book.name,.seq (x.book.rows.map eRow)]:=rfl
   simp [hn,hBx]
   refine ⟨⟨rfl,rfl,rfl,rfl⟩,?_⟩
   have hG:=g_base ok (memoL h [a,b]) a b
   simp only [eHist] at hG
   refine cf hG [5,4] ?_
   have cx:chkBook x.book = 0:=ok.bok x (verAt_mem hx).1
   have cy:chkBook y.book = 0:=ok.bok y (verAt_mem hy).1
   have bx:=(hb.2 x (verAt_mem hx).1).2.2.2
   have byy:=(hb.2 y (verAt_mem hy).1).2.2.2
   have hBB:bookB (baseB h a b x) ∧ rowsI (baseB h a b x).rows ∧ (keysOf (baseB h a b x).rows).Nodup ∧ (baseB h a b x).rows.length ≤ 1000:=base_ok ok hb (verAt_mem hx).1
   have zx:=chkBook_zero cx
   have zy:=chkBook_zero cy
   have hM:=c_merge (baseB h a b x) x.book y.book hBB.1 bx byy hBB.2.1 (chkRows_I zx) (chkRows_I zy) hBB.2.2.1 (chkRows_iff.1 zx).2.2 (chkRows_iff.1 zy).2.2 hBB.2.2.2 (by have:=(chkRows_iff.1 zx).1; omega) (by have:=(chkRows_iff.1 zy).1; omega)
   rw [resP_eq] at hM
   have mB:=mergeC_B (x:=baseB h a b x) bx byy (by have:=(chkRows_iff.1 zx).1; omega) (by have:=(chkRows_iff.1 zy).1; omega)
   have hJ : joinH h a b nm x y = if (mergeC (baseB h a b x) x.book y.book).2.2 ≠ 0 then ([], [], (mergeC (baseB h a b x) x.book y.book).2.2)
       else if lvlBad (sortV (h ++ [joinV a b nm x y (mergeC (baseB h a b x) x.book y.book).1])) = true then ([],[],29)
       else (sortV (h ++ [joinV a b nm x y (mergeC (baseB h a b x) x.book y.book).1]),(mergeC (baseB h a b x) x.book y.book).2.1,0):=by
    rw [joinH,if_neg (by simpa using hn)]
   have hNone:verAt h nm = none:=by
    have h1:=hn
    rw [joinE,firstE_zero] at h1
    have h2:=h1 (whenE (verAt h nm).isSome 9) (by simp)
    rw [whenE_zero (by omega)] at h2
    cases hq:verAt h nm with
    | none=>rfl
    | some v=>rw [hq] at h2; simp at h2
   have hWk : ∀ B, (match baseS h a b with
       | some v=>B = eBook v.book
       | none=>B = .st 23 [.str x.book.name,.nsl]) → Wk B (eBook (baseB h a b x)):=by
    intro B hB
    cases hbs:baseS h a b with
    | none=>rw [hbs] at hB; subst hB; simp [baseB,hbs,eBook,Wk,Wkl]
    | some v=>rw [hbs] at hB; subst hB; simp only [baseB,hbs]; exact Wk.refl _
   generalize hMM:mergeC (baseB h a b x) x.book y.book = M at *
   obtain ⟨mb',mc,me⟩:=M
   dsimp only at hM mB hJ
   obtain ⟨J,hJv⟩:∃ J,J = joinV a b nm x y mb':=⟨_,rfl⟩
   rw [← hJv] at hJ
   have hJe2:eVer J = .st 147 [.str nm,.int .i64 (max x.level y.level + 1),.seq [.str a,.str b],eBook mb']:=by rw [hJv]; rfl
   have hxl:(h ++ [J]).length = h.length + 1:=by simp
   have hxnd:(namesV (h ++ [J])).Nodup:=ins_nodup ok.asc (v:=J) (by rw [hJv]; exact hNone)
   have hjB:verB J:=by
    rw [hJv]
    refine ⟨hnm,by simp [joinV],?_,mB.1⟩
    intro p hp
    simp only [joinV,List.mem_cons,List.not_mem_nil,or_false] at hp
    rcases hp with rfl | rfl
    · rw [← (verAt_mem hx).2]; exact (hb.2 x (verAt_mem hx).1).1
    · rw [← (verAt_mem hy).2]; exact (hb.2 y (verAt_mem hy).1).1
   have hS0:=g_sorted2 (.arr .frozen 0 1 (([a,b]:List (List Nat)).map (AV.p ∘ PV.str))) 0 [a,b] (h ++ [J]) (h.length + 1) hxl.symm (by simp) (by rw [hxl]; omega) hxnd rfl
   have hS:=GoodI.frzE (P:=Tryz.prog) (f:=129) (u:=147) (v0:=0) (n:=h.length + 1) (z:=5) (ps:=[.str a,.str b]) (es:=h.map eVer) (pre:=[.str nm,.int .i64 (max x.level y.level + 1)]) (post:=[eBook mb']) (args:=[.sl 1 (h.length + 1) 5 0 (h.length + 1)]) (by simp) (by simpa [hJe2] using hS0)
   have hSB:histB (sortV (h ++ [J])):=⟨by rw [sortV_len,hxl]; omega,fun v hv=>by
    rw [sortV_mem] at hv
    rcases List.mem_append.1 hv with h1 | h1
    · exact hb.2 _ h1
    · rw [List.mem_singleton] at h1; subst h1; exact hjB⟩
   have hSl:(sortV (h ++ [J])).length = h.length + 1:=by rw [sortV_len,hxl]
   have hgL:=g_levelsS (sortV (h ++ [J])) (h.length + 1) hSl.symm (sortV_asc hxnd) hSB
   have hSne:sortV (h ++ [J]) ≠ []:=fun e=>by rw [e] at hSl; simp at hSl
   rw [frzV,if_neg hSne] at hgL
   generalize sortV (h ++ [J]) = S at *
   have hST:List.take (h.length + 1) (S.map (AV.p ∘ eVer)) = S.map (AV.p ∘ eVer):=List.take_of_length_le (by simp [hSl])
   simp at hS
   clear hS0
   cases hbs:baseS h a b with
   | none =>
    have hW:=hWk (.st 23 [.str x.book.name,.nsl]) (by rw [hbs])
    simp [sig,oV,zV]
    refine c3 hM ?_ (h1:=hW)
    simp
    by_cases hme:¬ me = 0
    · rw [hJ,if_pos hme]
      simp [hme]
      try rfl
    replace hme:me = 0:=by simpa using hme
    rw [if_neg (by simpa using hme)] at hJ
    simp [hme]
    refine ef (g_mappedVV h hb) [] ?_
    simp [sig,hmi]
    refine ⟨by simp only [maxL]; omega,?_⟩
    refine ef hS [18,17] ?_
    simp [sig]
    refine ⟨by repeat' first | rfl | apply And.intro,?_⟩
    refine cf hgL [17] ?_
    cases hlb:lvlBad S with
    | true =>
     rw [hJ,hlb]
     simp [sig,whenE]
     try rfl
    | false =>
     rw [hJ,hlb]
     simp [sig,whenE,hSl,hST]
   | some v =>
    have hW:=hWk (eBook v.book) (by rw [hbs])
    simp [sig,oV,eVer_eq v]
    refine c3 hM ?_ (h1:=hW)
    simp
    by_cases hme:¬ me = 0
    · rw [hJ,if_pos hme]
      simp [hme]
      try rfl
    replace hme:me = 0:=by simpa using hme
    rw [if_neg (by simpa using hme)] at hJ
    simp [hme]
    refine ef (g_mappedVV h hb) [] ?_
    simp [sig,hmi]
    refine ⟨by simp only [maxL]; omega,?_⟩
    refine ef hS [18,17] ?_
    simp [sig]
    refine ⟨by repeat' first | rfl | apply And.intro,?_⟩
    refine cf hgL [17] ?_
    cases hlb:lvlBad S with
    | true =>
     rw [hJ,hlb]
     simp [sig,whenE]
     try rfl
    | false =>
     rw [hJ,hlb]
     simp [sig,whenE,hSl,hST]
theorem c_join_b (h : List VerD) (hb : histB h) (a b nm : List Nat) (hnm : nm.length ≤ 1048576) :
    GoodC Tryz.prog 46 [eHist h,.str a,.str b,.str nm] (.tup [eHist (joinP h a b nm).1,.seq ((joinP h a b nm).2.1.map .str),.int .i64 (joinP h a b nm).2.2]):=by
 by_cases hz:¬ openE h [a,b] = 0
 · have hc:=c_openErr h hb [a,b] (by simp) hz
   have hj:joinP h a b nm = ([],[],openE h [a,b]):=by rw [joinP,if_pos hz]
   rw [hj]
   refine good_fn nf isF46 mix (by simp [Tryz.f46]) ?_
   simp [Tryz.f46]
   refine cp (h1:=?g1) hc (by simp; exact ⟨rfl,rfl⟩) ?_
   case g1=>simp
   simp [hz,eHist]
   try rfl
 · replace hz:openE h [a,b] = 0:=by simpa using hz
   have ho:=open_at hz
   obtain ⟨x,hx,_⟩:=ho.2 a (by simp)
   obtain ⟨y,hy,_⟩:=ho.2 b (by simp)
   have hj:joinP h a b nm = joinH h a b nm x y:=by rw [joinP,if_neg (by simpa using hz),hx,hy]; rfl
   rw [hj]
   exact c_join_ok h hb a b nm hnm hz x y hx hy
end Go.Abs
namespace Go.Abs
open Go.Proofs
set_option maxHeartbeats 4000000
set_option maxRecDepth 100000
structure SInv (h:List VerD) (k:List Nat) (l:List (List Nat)):Prop where
 nd:l.Nodup
 hd:k ∈ l
 an:∀ a ∈ l,ancS h k a = true
theorem SInv.len {h:List VerD} (ok:HistOk h) {k:List Nat} (hk:wholeS h k = true) {l:List (List Nat)} (hi:SInv h k l):l.length ≤ h.length:=by
 have:=compact_len (xs:=namesV h) hi.nd (fun a ha=>by
  have h1:=anc_whole ok hk (hi.an a ha)
  obtain ⟨v,hv,_⟩:=whole_at ok h1
  rw [← (verAt_mem hv).2]
  exact List.mem_map_of_mem (verAt_mem hv).1)
 simpa [namesV] using this
theorem SInv.add {h:List VerD} (ok:HistOk h) {k a p:List Nat} {v:VerD} {l:List (List Nat)} (hi:SInv h k l) (ha:a ∈ l) (hv:verAt h a = some v) (hp:p ∈ v.parents) (hn:p ∉ l):SInv h k (l ++ [p]):=by
 refine ⟨?_,List.mem_append_left _ hi.hd,?_⟩
 · rw [List.nodup_append]
   refine ⟨hi.nd,by simp,?_⟩
   intro x hx y hy hxy
   rw [List.mem_singleton] at hy
   subst hy; subst hxy
   exact hn hx
 · intro x hx
   rcases List.mem_append.1 hx with hx | hx
   · exact hi.an x hx
   · rw [List.mem_singleton] at hx; subst hx
     exact anc_trans ok (hi.an a ha) (anc_par ok hv hp (anc_self ok x))
end Go.Abs
namespace Go.Abs
open Go.Proofs
set_option maxHeartbeats 4000000
set_option maxRecDepth 100000
theorem ancL_len {h:List VerD} (ok:HistOk h) (k:List Nat):(ancL h k).length ≤ 256:=by
 have h1:=List.length_filter_le (fun v:VerD=>ancS h k v.name) h
 have:=ok.len
 simp only [ancL,namesV,List.length_map]; omega
theorem anc_dec {h:List VerD} (ok:HistOk h) {k:List Nat} (hk:wholeS h k = true) (a:List Nat):decide (a ∈ ancL h k) = ancS h k a:=by
 rw [Bool.eq_iff_iff,decide_eq_true_eq,ancL_mem ok hk]
end Go.Abs
namespace Go.Abs
open Go.Proofs
set_option maxHeartbeats 4000000
set_option maxRecDepth 100000
theorem flat_par:∀ {h:List VerD},(∀ v ∈ h,v.parents.length ≤ 2) → (h.flatMap (·.parents)).length ≤ 2 * h.length
 | [],_=>by simp
 | v :: r,hp=>by
  have:=flat_par (h:=r) (fun u hu=>hp u (List.mem_cons_of_mem _ hu))
  have:=hp v List.mem_cons_self
  simp only [List.flatMap_cons,List.length_append,List.length_cons]
  omega
theorem missS_len {h:List VerD} (ok:HistOk h):(missS h).length ≤ 1048576:=by
 obtain ⟨_,m2,m3⟩:=missS_ok h
 have h1:=compact_len m2 (fun a ha=>(m3 a).1 ha)
 have h2:=List.length_filter_le (fun p:List Nat=>(verAt h p).isNone) (h.flatMap (·.parents))
 have h3:=flat_par ok.par
 have h4:=ok.len
 simp only [lackL] at h1
 omega
theorem headsL_len {h:List VerD} (ok:HistOk h):(headsL h).length ≤ 1048576:=by
 have h1:=List.length_filter_le (fun v:VerD=>wholeS h v.name && !isPar h v.name) h
 have:=ok.len
 simp only [headsL,namesV,List.length_map]; omega
end Go.Abs
namespace Go.Abs
open Go.Proofs
set_option maxHeartbeats 4000000
set_option maxRecDepth 100000
theorem openE_one {h:List VerD} (p:List Nat) (hz:chkHist h = 0):openE h [p] = nameE h p:=by
 rw [openE,hz,namesE]
 by_cases h1:nameE h p = 0 <;> simp [firstE,namesE,h1]
theorem openE_two {h:List VerD} (p q:List Nat) (hz:chkHist h = 0):openE h [p,q] = if nameE h p = 0 then nameE h q else nameE h p:=by
 rw [openE,hz,namesE,namesE]
 by_cases h1:nameE h p = 0
 · by_cases h2:nameE h q = 0 <;> simp [firstE,namesE,h1,h2]
 · simp [firstE,h1]
theorem ancE_len {h:List VerD} (ok:HistOk h) (k:List Nat):(ancL h k).length ≤ 1048576:=by have:=ancL_len ok k; omega
theorem joinH_B {h : List VerD} (ok : HistOk h) (hb : histB h) {a b nm : List Nat} (hnm : nm.length ≤ 1048576) {x y : VerD} (hx : verAt h a = some x) (hy : verAt h b = some y) :
    histB (joinH h a b nm x y).1 ∧ (joinH h a b nm x y).2.1.length ≤ 1048576:=by
 have nB:histB []:=⟨by simp,by simp⟩
 have bx:=(hb.2 x (verAt_mem hx).1).2.2.2
 have byy:=(hb.2 y (verAt_mem hy).1).2.2.2
 have zx:=chkBook_zero (ok.bok x (verAt_mem hx).1)
 have zy:=chkBook_zero (ok.bok y (verAt_mem hy).1)
 have mB:=mergeC_B (x:=baseB h a b x) bx byy (by have:=(chkRows_iff.1 zx).1; omega) (by have:=(chkRows_iff.1 zy).1; omega)
 have hl:=ok.len
 rw [joinH]
 split
 · exact ⟨nB,by simp⟩
 split
 · exact ⟨nB,by simp⟩
 split
 · exact ⟨nB,by simp⟩
 refine ⟨⟨?_,fun v hv=>?_⟩,mB.2⟩
 · rw [sortV_len,List.length_append]; simp only [List.length_cons,List.length_nil]; omega
 · simp only [sortV_mem] at hv
   rcases List.mem_append.1 hv with h1 | h1
   · exact hb.2 _ h1
   · rw [List.mem_singleton] at h1
     subst h1
     refine ⟨hnm,by simp [joinV],?_,mB.1⟩
     intro p hp
     simp only [joinV,List.mem_cons,List.not_mem_nil,or_false] at hp
     rcases hp with rfl | rfl
     · rw [← (verAt_mem hx).2]; exact (hb.2 x (verAt_mem hx).1).1
     · rw [← (verAt_mem hy).2]; exact (hb.2 y (verAt_mem hy).1).1
end Go.Abs
namespace Go.Abs
open Go.Proofs
set_option maxHeartbeats 4000000
set_option maxRecDepth 100000
def inP (c k i:Nat):Bool:=decide (c / 2 ^ i % 2 = 1) || decide (k = i % 3)
def partN (h:List VerD) (c k:Nat):Nat → List VerD
 | 0=>[]
 | i + 1=>partN h c k i ++ (if inP c k i = true then (h[i]?).toList else [])
theorem partN_succ (h:List VerD) (c k:Nat) {i:Nat} (hi:i < h.length):partN h c k (i + 1) = partN h c k i ++ (if inP c k i = true then [h[i]] else []):=by
 rw [partN,List.getElem?_eq_getElem hi]; rfl
theorem partN_sub (h:List VerD) (c k:Nat):∀ i,i ≤ h.length → (partN h c k i).Sublist (h.take i)
 | 0,_=>by simp [partN]
 | i + 1,hi=>by
  rw [partN_succ h c k (by omega),List.take_succ_eq_append_getElem (by omega)]
  refine (partN_sub h c k i (by omega)).append ?_
  split
  · exact List.Sublist.refl _
  · exact List.nil_sublist _
theorem partN_mem (h:List VerD) (c k:Nat):∀ i,i ≤ h.length → ∀ (j:Nat) (hj:j < h.length),j < i → inP c k j = true → h[j] ∈ partN h c k i
 | 0,_,j,_,h1,_=>by omega
 | i + 1,hi,j,hj,h1,h2=>by
  rw [partN_succ h c k (by omega),List.mem_append]
  by_cases he:j = i
  · subst he; right; simp [h2]
  · exact .inl (partN_mem h c k i (by omega) j hj (by omega) h2)
theorem bit_eq (c i:Nat) (hc:c < 256) (hi:i ≤ 8):IntKind.i64.wrap ((((IntKind.i64.wrap (c:Int)).fdiv (2 ^ min i IntKind.i64.bits) % 2 ^ IntKind.i64.bits).toNat &&& 1 % 2 ^ IntKind.i64.bits:Nat):Int) = ((c / 2 ^ i % 2:Nat):Int):=by
 have h1:IntKind.i64.wrap (c:Int) = c:=by rw [wi64] <;> omega
 have h2:min i IntKind.i64.bits = i:=by have:IntKind.i64.bits = 64:=rfl; omega
 obtain ⟨m,hm⟩:∃ m,m = c / 2 ^ i:=⟨_,rfl⟩
 have h3:m < 256:=by rw [hm]; exact Nat.lt_of_le_of_lt (Nat.div_le_self _ _) hc
 have h5:((2:Int) ^ i) = ((2 ^ i:Nat):Int):=by simp
 have h4:(c:Int).fdiv (2 ^ i) = (m:Int):=by
  rw [Int.fdiv_eq_ediv_of_nonneg _ (by rw [h5]; exact Int.natCast_nonneg _),h5,← Int.natCast_ediv,hm]
 have h6:(m:Int) % 2 ^ IntKind.i64.bits = (m:Int):=by
  have:(2:Int) ^ IntKind.i64.bits = 18446744073709551616:=by decide
  rw [this,Int.emod_eq_of_lt] <;> omega
 have h7:1 % 2 ^ IntKind.i64.bits = 1:=by decide
 rw [← hm,h1,h2,h4,h6,Int.toNat_natCast,h7,Nat.and_one_is_mod,wi64] <;> omega
def cutP (a b c:Nat):PV:=.st 145 [.int .u8 a,.int .u8 b,.int .u8 c]
def partB (A B C:List VerD):Obj:=.box false (.st 146 [.st 75 [.sl 3 A.length 5 0 A.length],.st 75 [.sl 4 B.length 5 0 B.length],.st 75 [.sl 5 C.length 5 0 C.length]])
def arrV (A:List VerD):Obj:=.arr .grow A.length 5 (A.map (AV.p ∘ eVer))
theorem parts_cover (h:List VerD) (ca cb cc:Nat):(partN h ca 0 h.length).Sublist h ∧ (partN h cb 1 h.length).Sublist h ∧ (partN h cc 2 h.length).Sublist h ∧ ∀ v ∈ h,v ∈ partN h ca 0 h.length ∨ v ∈ partN h cb 1 h.length ∨ v ∈ partN h cc 2 h.length:=by
 refine ⟨by simpa using partN_sub h ca 0 h.length (Nat.le_refl _),by simpa using partN_sub h cb 1 h.length (Nat.le_refl _),by simpa using partN_sub h cc 2 h.length (Nat.le_refl _),?_⟩
 intro v hv
 obtain ⟨j,hj,rfl⟩:=List.mem_iff_getElem.1 hv
 have h3:j % 3 = 0 ∨ j % 3 = 1 ∨ j % 3 = 2:=by omega
 rcases h3 with h3 | h3 | h3
 · exact .inl (partN_mem h ca 0 _ (Nat.le_refl _) j hj hj (by simp [inP,h3]))
 · exact .inr (.inl (partN_mem h cb 1 _ (Nat.le_refl _) j hj hj (by simp [inP,h3])))
 · exact .inr (.inr (partN_mem h cc 2 _ (Nat.le_refl _) j hj hj (by simp [inP,h3])))
theorem histB.part {h a:List VerD} (hb:histB h) (hs:a.Sublist h):histB a:=⟨Nat.le_trans hs.length_le hb.1,fun v hv=>hb.2 v (hs.subset hv)⟩
def kA (A:List VerD):AK:=if A = [] then .grow else .frozen
def fzV (A:List VerD):Obj:=.arr (kA A) A.length 5 (A.map (AV.p ∘ eVer))
def isA (o:Obj) (A:List VerD):Prop:=o = arrV A ∨ o = fzV A
def vA (A:List VerD):PV:=if A = [] then .nsl else .lst false (A.map eVer)
theorem vA_wk (A:List VerD):Wk (vA A) (.seq (A.map eVer)):=by
 rw [vA]; split
 · subst_vars; simp [Wk]
 · simp [Wk]
theorem vA_leaf (A:List VerD):shp (vA A) = .leaf:=by rw [vA]; split <;> rfl
theorem pur_isA {H:Heap} {b:Nat} {o:Obj} {A:List VerD} (hb:H[b]? = some o) (ho:isA o A):purA H (.sl b A.length 5 0 A.length) = some (vA A,H.set b (fzV A)):=by
 have hbl:b < H.length:=(List.getElem?_eq_some_iff.1 hb).1
 by_cases hA:A = []
 · subst hA
   have e:o = .arr .grow 0 5 []:=by rcases ho with rfl | rfl <;> rfl
   subst e
   have hs:H.set b (fzV []) = H:=by
    apply List.ext_getElem?
    intro i
    by_cases hi:b = i
    · subst hi; rw [List.getElem?_set_self hbl,hb]; rfl
    · rw [List.getElem?_set_ne hi]
   rw [hs]
   simp [purA,hb,vA]
 · have hal:allP (A.map (AV.p ∘ eVer)) = some (A.map eVer):=by
    have:=allP_map (A.map eVer)
    simpa using this
   have hk:kA A = .frozen:=by rw [kA,if_neg hA]
   rcases ho with rfl | rfl
   · simp only [arrV] at hb
     simp [purA,hb,vA,hA,hal,fzV,hk]
   · simp only [fzV,hk] at hb
     simp [purA,hb,vA,hA,hal,fzV,hk]
theorem g_gather2 (A B : List VerD) (oA oB : Obj) (ha : histB A) (hb : histB B) (hoA : isA oA A) (hoB : isA oB B) :
    GoodI Tryz.prog 65 [oA,oB] [.st 75 [.sl 0 A.length 5 0 A.length],.st 75 [.sl 1 B.length 5 0 B.length]] [fzV A,fzV B] (.p (.tup [eHist (gatherV A B).1,.int .i64 (gatherV A B).2])):=by
 have h1:=pur_isA (H:=[oA,oB]) (b:=0) rfl hoA
 have h2:=pur_isA (H:=[fzV A,oB]) (b:=1) rfl hoB
 refine GoodC.inSts (ws:=[some 75,some 75]) (avs:=[.sl 0 A.length 5 0 A.length,.sl 1 B.length 5 0 B.length]) (vs:=[.seq (A.map eVer),.seq (B.map eVer)]) (vs':=[vA A,vA B]) (c_gather A B ha hb) isF65.enters ?_ ?_ ?_
 · simp only [purL,h1,List.set_cons_zero,h2,List.set_cons_succ]
 · exact ⟨sz_hist,vA_leaf A,⟨_,_,_,_,_,rfl⟩,sz_hist,vA_leaf B,⟨_,_,_,_,_,rfl⟩,trivial⟩
 · simp [wrP,Wk,Wkl,vA_wk]
theorem g_gatherR (X C : List VerD) (oC : Obj) (ha : histB X) (hb : histB C) (hoC : isA oC C) :
    GoodI Tryz.prog 65 [oC] [.p (eHist X),.st 75 [.sl 0 C.length 5 0 C.length]] [fzV C] (.p (.tup [eHist (gatherV X C).1,.int .i64 (gatherV X C).2])):=by
 have h1:=pur_isA (H:=[oC]) (b:=0) rfl hoC
 refine GoodC.inSts (ws:=[none,some 75]) (avs:=[.p (eHist X),.sl 0 C.length 5 0 C.length]) (vs:=[eHist X,.seq (C.map eVer)]) (vs':=[eHist X,vA C]) (c_gather X C ha hb) isF65.enters ?_ ?_ ?_
 · simp only [purL,show ∀ (H:Heap) (v:PV),purA H (.p v) = some (v,H) from fun _ _=>rfl,h1,List.set_cons_zero]
 · exact ⟨sz_hist,vA_leaf C,⟨_,_,_,_,_,rfl⟩,trivial⟩
 · simp [wrP,Wk,Wkl,vA_wk,Wk.refl]
theorem g_gatherL (A Y : List VerD) (oA : Obj) (ha : histB A) (hb : histB Y) (hoA : isA oA A) :
    GoodI Tryz.prog 65 [oA] [.st 75 [.sl 0 A.length 5 0 A.length],.p (eHist Y)] [fzV A] (.p (.tup [eHist (gatherV A Y).1,.int .i64 (gatherV A Y).2])):=by
 have h1:=pur_isA (H:=[oA]) (b:=0) rfl hoA
 refine GoodC.inSts (ws:=[some 75,none]) (avs:=[.sl 0 A.length 5 0 A.length,.p (eHist Y)]) (vs:=[.seq (A.map eVer),eHist Y]) (vs':=[vA A,eHist Y]) (c_gather A Y ha hb) isF65.enters ?_ ?_ ?_
 · simp only [purL,show ∀ (H:Heap) (v:PV),purA H (.p v) = some (v,H) from fun _ _=>rfl,h1,List.set_cons_zero]
 · exact ⟨sz_hist,vA_leaf A,⟨_,_,_,_,_,rfl⟩,trivial⟩
 · simp [wrP,Wk,Wkl,vA_wk,Wk.refl]
theorem g_missing1 (A : List VerD) (oA : Obj) (ha : histB A) (hoA : isA oA A) :
    GoodI Tryz.prog 66 [oA] [.st 75 [.sl 0 A.length 5 0 A.length]] [fzV A] (.p (.tup [.seq ((missE A).map .str),.int .i64 (chkHist A)])):=by
 have h1:=pur_isA (H:=[oA]) (b:=0) rfl hoA
 refine GoodC.inSts (ws:=[some 75]) (avs:=[.sl 0 A.length 5 0 A.length]) (vs:=[.seq (A.map eVer)]) (vs':=[vA A]) (c_missing A ha) isF66.enters ?_ ?_ ?_
 · simp only [purL,h1,List.set_cons_zero]
 · exact ⟨sz_hist,vA_leaf A,⟨_,_,_,_,_,rfl⟩,trivial⟩
 · simp [wrP,Wk,Wkl,vA_wk]
theorem g_versions1 (A : List VerD) (oA : Obj) (ha : histB A) (hoA : isA oA A) :
    GoodI Tryz.prog 42 [oA] [.st 75 [.sl 0 A.length 5 0 A.length]] [fzV A] (.p (.seq (A.map rVer))):=by
 have h1:=pur_isA (H:=[oA]) (b:=0) rfl hoA
 refine GoodC.inSts (ws:=[some 75]) (avs:=[.sl 0 A.length 5 0 A.length]) (vs:=[.seq (A.map eVer)]) (vs':=[vA A]) (c_versions A ha.w) isF42.enters ?_ ?_ ?_
 · simp only [purL,h1,List.set_cons_zero]
 · exact ⟨sz_hist,vA_leaf A,⟨_,_,_,_,_,rfl⟩,trivial⟩
 · simp [wrP,Wk,Wkl,vA_wk]
theorem open_whole {h:List VerD} (hz:chkHist h = 0) {k:List Nat} (hk:wholeS h k = true):openE h [k] = 0:=by
 obtain ⟨v,hv,_⟩:=whole_at (histOk hz) hk
 rw [openE_one k hz,nameE]
 simp [hv,hk,whenE,firstE]
theorem short_rows8 {h:List VerD} (z0:chkHist h = 0) {n:Nat} (hs:shortHist h n = true) {v:VerD} (hv:v ∈ h):v.book.rows.length ≤ 8:=by
 have h1:=(histOk z0).bok v hv
 have h2:=(chkRows_iff.1 (chkBook_zero h1)).1
 simp only [shortHist,Bool.and_eq_true,decide_eq_true_eq,List.all_eq_true] at hs
 have h3:=hs.2 v hv
 simp only [shortVer,Bool.and_eq_true,decide_eq_true_eq] at h3
 have h4:=h3.1.2
 simp only [shortBook,shortRows,Bool.and_eq_true,Bool.or_eq_true,decide_eq_true_eq] at h4
 omega
theorem join_law {h : List VerD} (z0 : chkHist h = 0) (hs : ∀ v ∈ h, v.book.rows.length ≤ 8) (lb : h.length ≤ 8) {a b nm : List Nat} {x y : VerD} (ha : wholeS h a = true) (hb : wholeS h b = true) (hx : verAt h a = some x) (hy : verAt h b = some y)
    (hab:ancS h a b = false) (hba:ancS h b a = false) (hne:a ≠ b) (hnm:isName nm = true) (hn:verAt h nm = none) :
    ((joinH h a b nm x y).2.2 = 3 ∨ (joinH h a b nm x y).2.2 = 29) ∨ ((joinH h a b nm x y).2.2 = 0 ∧ chkHist (joinH h a b nm x y).1 = 0 ∧ wholeS (joinH h a b nm x y).1 nm = true ∧ ancS (joinH h a b nm x y).1 nm a = true ∧ ancS (joinH h a b nm x y).1 nm b = true):=by
 have ok:=histOk z0
 have mx:=verAt_mem hx
 have my:=verAt_mem hy
 have lx:=ok.lev x mx.1
 have ly:=ok.lev y my.1
 have cx:=ok.bok x mx.1
 have cy:=ok.bok y my.1
 have rx:=hs x mx.1
 have ry:=hs y my.1
 have hol:=outS_len (base:=(baseB h a b x).rows) (a:=x.book.rows) (b:=y.book.rows)
 have hmc:mergeC (baseB h a b x) x.book y.book = (⟨x.book.name,outS (baseB h a b x).rows x.book.rows y.book.rows⟩,confL (baseB h a b x).rows x.book.rows y.book.rows,0):=by
  rw [mergeC,if_neg (by omega)]
 have hJE:joinE h a b nm x y = withinE (max x.level y.level + 1) 1 256:=by
  have hl:¬ 256 ≤ h.length:=by omega
  have:∀ e:Int,(if e = 0 then 0 else e) = e:=fun e=>by split <;> omega
  simp [joinE,hnm,hn,hab,hba,hl,firstE,whenE]
  exact fun h=>h.symm
 rw [joinH,hJE,hmc]
 by_cases hl:256 < max x.level y.level + 1
 · have e:withinE (max x.level y.level + 1) 1 256 = 3:=by simp [withinE,whenE,hl]
   rw [e]
   simp
 have e:withinE (max x.level y.level + 1) 1 256 = 0:=by
  have:¬ max x.level y.level + 1 < 1:=by omega
  simp [withinE,whenE,hl,this]
 rw [e]
 simp only [ne_eq,not_true_eq_false,if_false]
 obtain ⟨J,hJ⟩:∃ J,J = joinV a b nm x y ⟨x.book.name,outS (baseB h a b x).rows x.book.rows y.book.rows⟩:=⟨_,rfl⟩
 rw [← hJ]
 cases hlb:lvlBad (sortV (h ++ [J])) with
 | true=>left; right; simp
 | false =>
  right
  have hbk:chkBook ⟨x.book.name,outS (baseB h a b x).rows x.book.rows y.book.rows⟩ = 0:=by
   have h1:=cx
   rw [chkBook,first2] at h1 ⊢
   exact ⟨h1.1,outS_ok h1.2 (chkBook_zero cy) (by omega)⟩
  have hvJ:chkVer none J = 0:=by
   rw [chkVer,firstE_zero,hJ]
   simp only [joinV,List.mem_cons,List.not_mem_nil,or_false,forall_eq_or_imp,forall_eq]
   have n1:=ok.nam x mx.1
   have n2:=ok.nam y my.1
   rw [mx.2] at n1
   rw [my.2] at n2
   refine ⟨by rw [hnm]; rfl,rfl,e,by simp [whenE],by simp [chkNames,n1,n2],by simp [twiceP,hne,whenE],hbk⟩
  have hin:=chkHist_ins z0 hvJ (by rw [hJ]; exact hn) (by omega) hlb
  have:=join_anc z0 ha hb hn (by rw [hJ] at hin; exact hin)
  rw [← hJ] at this
  simp only [Bool.false_eq_true,if_false]
  exact ⟨trivial,hin,this.1,this.2.1,this.2.2⟩
theorem c_law14a (hw : GoodC Tryz.prog 17 [] (.bool true)) (h : List VerD) (ca cb cc : Nat) (nm : List Nat) (ha : histW h) (hc : ca < 256 ∧ cb < 256 ∧ cc < 256) (hn : nm.length ≤ 1048576) :
    GoodC Tryz.prog 14 [eHist h,cutP ca cb cc,.str nm] (.bool true):=by
 refine good_fn nf isF14 mix (by simp [Tryz.f14]) ?_
 simp [Tryz.f14,cutP]
 refine c1 (c_versions h ha) ?_
 simp
 refine c2 (c_shortHist h 8 ha (by omega)) ?_
 by_cases s1:shortHist h 8 = true
 case neg =>
  simp [s1]
  refine c0 hw ?_
  simp
 obtain ⟨rb,lb⟩:=short_histB (by omega) s1
 simp [s1]
 refine c1 (c_checkHistoryR h rb) ?_
 by_cases z0:¬ chkHist h = 0
 · simp [z0]
   refine c0 hw ?_
   simp
 replace z0:chkHist h = 0:=by simpa using z0
 by_cases s4:60 < nm.length
 · have s4':(60:Int) < (nm.length:Int):=by omega
   simp [z0,s4']
   refine c0 hw ?_
   simp
 have s4':¬ (60:Int) < (nm.length:Int):=by omega
 have ok:=histOk z0
 simp [z0,s4',eHist]
 refine lp (α := Nat) (fun i => ⟨[(60, .p (.int .i64 i)), (59, .p (.int .i64 h.length)), (58, .p (.seq (h.map eVer))), (8, .ptr 2 []), (7, .p (.seq (h.map rVer))), (4, .ptr 1 []), (3, .ptr 0 []), (2, .p (.str nm))],
     [.box false (.p (eHist h)),.box false (.p (cutP ca cb cc)),partB (partN h ca 0 i) (partN h cb 1 i) (partN h cc 2 i),arrV (partN h ca 0 i),arrV (partN h cb 1 i),arrV (partN h cc 2 i)]⟩)
  (fun i=>i ≤ h.length) (fun i=>h.length - i) 0 (by simp) ?_ (hn:=by simp [eHist]) (he:=by simp) (hh:=by simp [eHist,cutP,partB,arrV,partN]) (hr:=by simp [partB,arrV]) (hr2:=by simp [partB,arrV])
 rintro i k1
 have hwi:=wi1 (i:=i) (by omega)
 by_cases hi:i < h.length
 · have hiz:(i:Int) < (h.length:Int):=by omega
   simp [hiz,hi]
   refine lp (α := Nat) (fun k => ⟨[(65, .p (.int .i64 k)), (60, .p (.int .i64 i)), (59, .p (.int .i64 h.length)), (58, .p (.seq (h.map eVer))), (10, .ptr 6 []), (9, .p (.int .i64 i)), (8, .ptr 2 []), (7, .p (.seq (h.map rVer))), (4, .ptr 1 []), (3, .ptr 0 []), (2, .p (.str nm))],
       [.box false (.p (eHist h)),.box false (.p (cutP ca cb cc)),partB (partN h ca 0 (if 0 < k then i + 1 else i)) (partN h cb 1 (if 1 < k then i + 1 else i)) (partN h cc 2 (if 2 < k then i + 1 else i)),arrV (partN h ca 0 (if 0 < k then i + 1 else i)),arrV (partN h cb 1 (if 1 < k then i + 1 else i)),arrV (partN h cc 2 (if 2 < k then i + 1 else i)),.box false (.p (eVer h[i]))]⟩)
    (fun k=>k ≤ 3) (fun k=>3 - k) 0 (by simp) ?_ (hn:=by simp) (he:=by simp) (hh:=by simp [partB,arrV]) (hr:=by simp [partB,arrV]) (hr2:=by simp [partB,arrV])
   rintro k q1
   by_cases hk:k < 3
   · obtain rfl | rfl | rfl:k = 0 ∨ k = 1 ∨ k = 2:=by omega
     · have hbi:=bit_eq ca i hc.1 (by omega)
       have hps:=partN_succ h ca 0 hi
       have hlp:=(partN_sub h ca 0 i (by omega)).length_le
       rw [List.length_take] at hlp
       by_cases hq:ca / 2 ^ i % 2 = 1
       · rw [hq] at hbi
         rw [if_pos (by simp [inP,hq])] at hps
         simp only [cutP]
         try simp at hbi
         simp [hbi,partB,arrV]
         refine ⟨by simp only [maxL]; omega,by repeat' first | rfl | apply And.intro,?_⟩
         exact rd 1 (by omega) (hn:=by simp) (he:=by simp; decide) (hh:=by simp [hps]) (hr:=by simp [hps]) (hr2:=by simp [hps])
       · have hb0:IntKind.i64.wrap ((((IntKind.i64.wrap (ca:Int)).fdiv (2 ^ min i IntKind.i64.bits) % 2 ^ IntKind.i64.bits).toNat &&& 1 % 2 ^ IntKind.i64.bits:Nat):Int) = 0:=by rw [hbi]; omega
         simp only [cutP]
         try simp at hb0
         by_cases hr:0 = i % 3
         · have hrz:(0:Int) = (i:Int).tmod 3:=by rw [Int.tmod_eq_emod_of_nonneg (by omega)]; omega
           rw [if_pos (by simp [inP,← hr])] at hps
           simp [hb0,← hrz,partB,arrV]
           refine ⟨by simp only [maxL]; omega,by repeat' first | rfl | apply And.intro,?_⟩
           exact rd 1 (by omega) (hn:=by simp) (he:=by simp; decide) (hh:=by simp [hps]) (hr:=by simp [hps]) (hr2:=by simp [hps])
         · have hrz:¬ (0:Int) = (i:Int).tmod 3:=by rw [Int.tmod_eq_emod_of_nonneg (by omega)]; omega
           rw [if_neg (by simp [inP,hq,hr]),List.append_nil] at hps
           simp [hb0,hrz,partB,arrV]
           exact rd 1 (by omega) (hn:=by simp) (he:=by simp; decide) (hh:=by simp [hps]) (hr:=by simp [hps]) (hr2:=by simp [hps])
     · have hbi:=bit_eq cb i hc.2.1 (by omega)
       have hps:=partN_succ h cb 1 hi
       have hlp:=(partN_sub h cb 1 i (by omega)).length_le
       rw [List.length_take] at hlp
       by_cases hq:cb / 2 ^ i % 2 = 1
       · rw [hq] at hbi
         rw [if_pos (by simp [inP,hq])] at hps
         simp only [cutP]
         try simp at hbi
         simp [hbi,partB,arrV]
         refine ⟨by simp only [maxL]; omega,by repeat' first | rfl | apply And.intro,?_⟩
         exact rd 2 (by omega) (hn:=by simp) (he:=by simp; decide) (hh:=by simp [hps]) (hr:=by simp [hps]) (hr2:=by simp [hps])
       · have hb0:IntKind.i64.wrap ((((IntKind.i64.wrap (cb:Int)).fdiv (2 ^ min i IntKind.i64.bits) % 2 ^ IntKind.i64.bits).toNat &&& 1 % 2 ^ IntKind.i64.bits:Nat):Int) = 0:=by rw [hbi]; omega
         simp only [cutP]
         try simp at hb0
         by_cases hr:1 = i % 3
         · have hrz:(1:Int) = (i:Int).tmod 3:=by rw [Int.tmod_eq_emod_of_nonneg (by omega)]; omega
           rw [if_pos (by simp [inP,← hr])] at hps
           simp [hb0,← hrz,partB,arrV]
           refine ⟨by simp only [maxL]; omega,by repeat' first | rfl | apply And.intro,?_⟩
           exact rd 2 (by omega) (hn:=by simp) (he:=by simp; decide) (hh:=by simp [hps]) (hr:=by simp [hps]) (hr2:=by simp [hps])
         · have hrz:¬ (1:Int) = (i:Int).tmod 3:=by rw [Int.tmod_eq_emod_of_nonneg (by omega)]; omega
           rw [if_neg (by simp [inP,hq,hr]),List.append_nil] at hps
           simp [hb0,hrz,partB,arrV]
           exact rd 2 (by omega) (hn:=by simp) (he:=by simp; decide) (hh:=by simp [hps]) (hr:=by simp [hps]) (hr2:=by simp [hps])
     · have hbi:=bit_eq cc i hc.2.2 (by omega)
       have hps:=partN_succ h cc 2 hi
       have hlp:=(partN_sub h cc 2 i (by omega)).length_le
       rw [List.length_take] at hlp
       by_cases hq:cc / 2 ^ i % 2 = 1
       · rw [hq] at hbi
         rw [if_pos (by simp [inP,hq])] at hps
         simp only [cutP]
         try simp at hbi
         simp [hbi,partB,arrV]
         refine ⟨by simp only [maxL]; omega,by repeat' first | rfl | apply And.intro,?_⟩
         exact rd 3 (by omega) (hn:=by simp) (he:=by simp; decide) (hh:=by simp [hps]) (hr:=by simp [hps]) (hr2:=by simp [hps])
       · have hb0:IntKind.i64.wrap ((((IntKind.i64.wrap (cc:Int)).fdiv (2 ^ min i IntKind.i64.bits) % 2 ^ IntKind.i64.bits).toNat &&& 1 % 2 ^ IntKind.i64.bits:Nat):Int) = 0:=by rw [hbi]; omega
         simp only [cutP]
         try simp at hb0
         by_cases hr:2 = i % 3
         · have hrz:(2:Int) = (i:Int).tmod 3:=by rw [Int.tmod_eq_emod_of_nonneg (by omega)]; omega
           rw [if_pos (by simp [inP,← hr])] at hps
           simp [hb0,← hrz,partB,arrV]
           refine ⟨by simp only [maxL]; omega,by repeat' first | rfl | apply And.intro,?_⟩
           exact rd 3 (by omega) (hn:=by simp) (he:=by simp; decide) (hh:=by simp [hps]) (hr:=by simp [hps]) (hr2:=by simp [hps])
         · have hrz:¬ (2:Int) = (i:Int).tmod 3:=by rw [Int.tmod_eq_emod_of_nonneg (by omega)]; omega
           rw [if_neg (by simp [inP,hq,hr]),List.append_nil] at hps
           simp [hb0,hrz,partB,arrV]
           exact rd 3 (by omega) (hn:=by simp) (he:=by simp; decide) (hh:=by simp [hps]) (hr:=by simp [hps]) (hr2:=by simp [hps])
   · have:k = 3:=by omega
     subst this
     simp [hwi]
     exact rd (i + 1) hi (hn:=by simp) (hh:=by simp [partB,arrV]) (hr:=by simp [partB,arrV]) (hr2:=by simp [partB,arrV])
 · have:i = h.length:=by omega
   subst this
   obtain ⟨sA,sB,sC,cov⟩:=parts_cover h ca cb cc
   generalize partN h ca 0 h.length = A at *
   generalize partN h cb 1 h.length = B at *
   generalize partN h cc 2 h.length = C at *
   have bA:=rb.part sA
   have bB:=rb.part sB
   have bC:=rb.part sC
   have g01:=g_gather2 A B (arrV A) (arrV B) bA bB (.inl rfl) (.inl rfl)
   have g10:=g_gather2 B A (fzV B) (fzV A) bB bA (.inr rfl) (.inr rfl)
   have g12:=g_gather2 B C (fzV B) (arrV C) bB bC (.inr rfl) (.inl rfl)
   have e01:=gather_parts z0 sA sB
   have e10:=gather_parts z0 sB sA
   have e12:=gather_parts z0 sB sC
   obtain ⟨X,hX⟩:∃ X,X = h.filter fun v=>decide (v ∈ A) || decide (v ∈ B):=⟨_,rfl⟩
   obtain ⟨Y,hY⟩:∃ Y,Y = h.filter fun v=>decide (v ∈ B) || decide (v ∈ C):=⟨_,rfl⟩
   have hX2:(h.filter fun v=>decide (v ∈ B) || decide (v ∈ A)) = X:=by rw [hX]; exact List.filter_congr fun v _=>by rw [Bool.or_comm]
   rw [← hX] at e01
   rw [hX2] at e10
   rw [← hY] at e12
   have sX:X.Sublist h:=by rw [hX]; exact List.filter_sublist
   have sY:Y.Sublist h:=by rw [hY]; exact List.filter_sublist
   have eone:=gather_parts z0 sX sC
   rw [filter_or_self (by
    intro v hv
    rcases cov v hv with h1 | h1 | h1
    · left; rw [hX,List.mem_filter]; exact ⟨hv,by simp [h1]⟩
    · left; rw [hX,List.mem_filter]; exact ⟨hv,by simp [h1]⟩
    · exact .inr h1)] at eone
   have etwo:=gather_parts z0 sA sY
   rw [filter_or_self (by
    intro v hv
    rcases cov v hv with h1 | h1 | h1
    · exact .inl h1
    · right; rw [hY,List.mem_filter]; exact ⟨hv,by simp [h1]⟩
    · right; rw [hY,List.mem_filter]; exact ⟨hv,by simp [h1]⟩)] at etwo
   have eself:=gather_self z0
   have bX:=rb.part sX
   have bY:=rb.part sY
   have lX:X.length ≤ 8:=Nat.le_trans sX.length_le lb
   have lY:Y.length ≤ 8:=Nat.le_trans sY.length_le lb
   rw [e01] at g01
   rw [e10] at g10
   rw [e12] at g12
   simp only [arrV,fzV] at g01 g10 g12
   simp only [partB,arrV]
   simp
   refine cf g01 [3,4] ?_
   simp [sig]
   refine cf g10 [4,3] ?_
   simp [sig]
   refine cf g12 [4,5] ?_
   simp [sig]
   refine e1 (c_versions X bX.w) ?_
   simp
   refine e1 (c_versions X bX.w) ?_
   simp
   refine e2 (c_sameVers X X bX bX) ?_
   have lX':¬ (8:Int) < (X.length:Int):=by omega
   have lY':¬ (8:Int) < (Y.length:Int):=by omega
   have gX:=g_gatherR X C (fzV C) bX bC (.inr rfl)
   have gY:=g_gatherL A Y (fzV A) bA bY (.inr rfl)
   have gM:=g_missing1 A (fzV A) bA (.inr rfl)
   have gS:=c_gather h h rb rb
   have gH:=c_heads h rb
   have zA:=chkHist_part z0 sA
   have hmA:missE A = missS A:=by rw [missE,if_neg (by simpa using zA)]
   have hhE:headE h = headsL h:=by rw [headE,if_neg (by simpa using z0)]
   rw [eone] at gX
   rw [etwo] at gY
   rw [eself] at gS
   rw [zA,hmA] at gM
   rw [z0,hhE] at gH
   simp only [fzV] at gX gY gM
   simp [eHist,lX',lY']
   try refine ⟨by repeat' first | rfl | apply And.intro,?_⟩
   refine cf gX [5] ?_ (hargs:=by simp [sig,eHist])
   simp [sig]
   refine cf gY [3] ?_ (hargs:=by simp [sig,eHist])
   simp [sig]
   refine c2 gS ?_
   simp
   refine cf gM [3] ?_
   simp [sig]
   refine c1 gH ?_
   simp
   refine c1 (c_versions h rb.w) ?_
   simp
   refine c2 (c_sameVers h h rb rb) ?_
   simp
   refine c1 (c_versions h rb.w) ?_
   simp
   refine c2 (c_sameVers h h rb rb) ?_
   simp
   refine c1 (c_versions h rb.w) ?_
   simp
   refine c2 (c_sameVers h h rb rb) ?_
   simp
   obtain ⟨m1,m2,m3⟩:=missS_ok A
   have mlen:=missS_len (histOk zA)
   have hlen1:=headsL_len ok
   have hnd:=heads_nodup ok
   have hwh:∀ s ∈ headsL h,wholeS h s = true:=fun s hs=>heads_whole ok hs
   have hna:∀ s t,s ∈ headsL h → t ∈ headsL h → s ≠ t → ancS h s t = false:=fun s t hs ht hne=>head_not_anc ok hs ht hne
   generalize missS A = M at *
   generalize headsL h = L at *
   refine lp (α := Nat) (fun i => ⟨[(220, .p (.int .i64 i)), (219, .p (.int .i64 M.length)), (218, .p (.seq (M.map .str))), (26, .p (.seq (L.map .str))), (8, .ptr 2 []), (7, .p (.seq (h.map rVer))), (3, .ptr 0 []), (2, .p (.str nm))],
       [.box false (.p (eHist h)),.hole,.box false (.st 146 [.st 75 [.sl 3 A.length 5 0 A.length],.st 75 [.sl 4 B.length 5 0 B.length],.st 75 [.sl 5 C.length 5 0 C.length]]),.arr (kA A) A.length 5 (A.map (AV.p ∘ eVer)),.arr (kA B) B.length 5 (B.map (AV.p ∘ eVer)),.arr (kA C) C.length 5 (C.map (AV.p ∘ eVer))]⟩)
    (fun i=>i ≤ M.length) (fun i=>M.length - i) 0 (by simp) ?_ (hn:=by simp [eHist]) (he:=by simp) (hh:=by simp [eHist]) (hr:=by simp) (hr2:=by simp)
   rintro i q1
   have hw2:=wi1 (i:=i) (by omega)
   by_cases hi2:i < M.length
   · have hiz:(i:Int) < (M.length:Int):=by omega
     have hmi:=(m3 M[i]).1 (List.getElem_mem hi2)
     have hno:verAt A M[i] = none:=by
      rw [lackL,List.mem_filter] at hmi
      simpa using hmi.2
     have gV:=g_versions1 A (fzV A) bA (.inr rfl)
     simp only [fzV] at gV
     simp [hiz,hi2]
     refine cf gV [3] ?_
     simp [sig]
     refine c2 (c_at A M[i] (by have:=bA.1; omega)) ?_
     rcases at_find A M[i] with ⟨_,hat⟩ | ⟨x,hx,hat,hv⟩
     · simp [hat,hw2]
       exact rd (i + 1) hi2 (hn:=by simp) (hh:=by simp) (hr:=by simp) (hr2:=by simp)
     · rw [hno] at hv; cases hv
   · have:i = M.length:=by omega
     subst this
     simp
     refine lp (α:=Nat) (fun i=>⟨[(233,.p (.int .i64 i)),(232,.p (.int .i64 L.length)),(231,.p (.seq (L.map .str))),(26,.p (.seq (L.map .str))),(7,.p (.seq (h.map rVer))),(3,.ptr 0 []),(2,.p (.str nm))],[.box false (.p (eHist h))]⟩)
      (fun i=>i ≤ L.length) (fun i=>L.length - i) 0 (by simp) ?_ (hn:=by simp) (he:=by simp) (hh:=by simp) (hr:=by simp) (hr2:=by simp)
     rintro i q1
     have hw3:=wi1 (i:=i) (by omega)
     by_cases hi3:i < L.length
     · have hiz:(i:Int) < (L.length:Int):=by omega
       have hmi:=List.getElem_mem hi3
       have hoz:openE h [L[i]] = 0:=open_whole z0 (hwh _ hmi)
       have hcA:=c_ancestors h rb L[i]
       have hAE:ancE h L[i] = ancL h L[i]:=by rw [ancE,if_neg (by simpa using hoz)]
       have hAl:=ancE_len ok L[i]
       rw [hoz,hAE] at hcA
       simp [hiz,hi3]
       refine c2 hcA ?_
       simp
       refine lp (α:=Nat) (fun k=>⟨[(248,.p (.int .i64 k)),(247,.p (.int .i64 L.length)),(246,.p (.seq (L.map .str))),(233,.p (.int .i64 i)),(232,.p (.int .i64 L.length)),(231,.p (.seq (L.map .str))),(32,.p (.seq ((ancL h L[i]).map .str))),(30,.p (.int .i64 i)),(26,.p (.seq (L.map .str))),(7,.p (.seq (h.map rVer))),(3,.ptr 0 []),(2,.p (.str nm))],[.box false (.p (eHist h))]⟩)
        (fun k=>k ≤ L.length) (fun k=>L.length - k) 0 (by simp) ?_ (hn:=by simp) (he:=by simp) (hh:=by simp) (hr:=by simp) (hr2:=by simp)
       rintro k q2
       have hw4:=wi1 (i:=k) (by omega)
       by_cases hk:k < L.length
       · have hkz:(k:Int) < (L.length:Int):=by omega
         by_cases hik:i = k
         · subst hik
           simp [hkz,hk,hw4]
           exact rd (i + 1) hk
         · have hikz:¬ (i:Int) = (k:Int):=by omega
           have hne:L[i] ≠ L[k]:=fun e=>hik ((List.getElem_inj hnd).1 e)
           have hno:=hna _ _ hmi (List.getElem_mem hk) hne
           have hdc:=anc_dec ok (hwh _ hmi) L[k]
           rw [hno] at hdc
           simp [hkz,hk,hikz]
           refine c2 (c_hasWord (ancL h L[i]) L[k] hAl) ?_
           rw [hdc]
           simp [hw4]
           exact rd (k + 1) hk
       · have:k = L.length:=by omega
         subst this
         simp [hw3]
         exact rd (i + 1) hi3
     · have:i = L.length:=by omega
       subst this
       by_cases t1:L.length < 2
       · have t1':(L.length:Int) < 2:=by omega
         simp [t1']
         refine c0 hw ?_
         simp
       have t1':¬ (L.length:Int) < 2:=by omega
       simp [t1']
       refine c1 (c_refIsName nm (by omega)) ?_
       cases t2:isName nm with
       | false =>
        simp
        refine c0 hw ?_
        simp
       | true =>
       simp
       refine c2 (c_at h nm (by omega)) ?_
       rcases at_find h nm with ⟨hn0,hat⟩ | ⟨x,hx,hat,hv⟩
       case inr =>
        have hxz:(0:Int) ≤ (x:Int):=by omega
        simp only [hat]
        generalize (x:Int) = xz at hxz
        simp [hxz]
        refine c0 hw ?_
        simp
       have i0:0 < L.length:=by omega
       have i1:1 < L.length:=by omega
       have hw0:=hwh _ (List.getElem_mem i0)
       have hw1:=hwh _ (List.getElem_mem i1)
       have hne01:L[0] ≠ L[1]:=fun e=>absurd ((List.getElem_inj hnd).1 e) (by omega)
       have a01:=hna _ _ (List.getElem_mem i0) (List.getElem_mem i1) hne01
       have a10:=hna _ _ (List.getElem_mem i1) (List.getElem_mem i0) (Ne.symm hne01)
       obtain ⟨x,hx,_⟩:=whole_at ok hw0
       obtain ⟨y,hy,_⟩:=whole_at ok hw1
       have hJl:=join_law z0 (fun v hv=>short_rows8 z0 s1 hv) lb hw0 hw1 hx hy a01 a10 hne01 t2 hn0
       obtain ⟨jB,jL⟩:=joinH_B ok rb (nm:=nm) (a:=L[0]) (b:=L[1]) (by omega) hx hy
       have hcJ:=c_join_b h rb L[0] L[1] nm (by omega)
       have hoz:openE h [L[0],L[1]] = 0:=by
        have z1:=open_whole z0 hw0
        have z2:=open_whole z0 hw1
        rw [openE_one _ z0] at z1 z2
        rw [openE_two _ _ z0,if_pos z1,z2]
       have hjp:joinP h L[0] L[1] nm = joinH h L[0] L[1] nm x y:=by rw [joinP,if_neg (by simpa using hoz),hx,hy]; rfl
       rw [hjp] at hcJ
       generalize joinH h L[0] L[1] nm x y = G at *
       obtain ⟨g,cs,e⟩:=G
       dsimp only at hJl jB jL hcJ
       simp [hat,i0,i1]
       refine e4 hcJ ?_
       rcases hJl with (rfl | rfl) | ⟨rfl,gz,gw,g0,g1⟩
       · simp
         try refine ⟨by repeat' first | rfl | apply And.intro,?_⟩
         refine c0 hw ?_
         simp
       · simp
         try refine ⟨by repeat' first | rfl | apply And.intro,?_⟩
         refine c0 hw ?_
         simp
       · have og:=histOk gz
         have hcA:=c_ancestors g jB nm
         have hoz2:openE g [nm] = 0:=open_whole gz gw
         have hAE:ancE g nm = ancL g nm:=by rw [ancE,if_neg (by simpa using hoz2)]
         have hAl:=ancE_len og nm
         have d0:=anc_dec og gw L[0]
         have d1:=anc_dec og gw L[1]
         have d2:=anc_dec og gw nm
         rw [g0] at d0
         rw [g1] at d1
         rw [anc_self og nm] at d2
         rw [hoz2,hAE] at hcA
         simp
         try refine ⟨by repeat' first | rfl | apply And.intro,?_⟩
         refine c2 hcA ?_
         simp [i0]
         refine c2 (c_hasWord (ancL g nm) L[0] hAl) ?_
         rw [d0]
         simp [i1]
         refine c2 (c_hasWord (ancL g nm) L[1] hAl) ?_
         rw [d1]
         simp
         refine c2 (c_hasWord (ancL g nm) nm hAl) ?_
         rw [d2]
         simp
         refine c0 hw ?_
         simp
theorem c_law14 (hw : GoodC Tryz.prog 17 [] (.bool true)) (h : List VerD) (c : Nat × Nat × Nat) (nm : List Nat) (ha : histW h) (hc : c.1 < 256 ∧ c.2.1 < 256 ∧ c.2.2 < 256) (hn : nm.length ≤ 1048576) (_hy : ∀ c ∈ nm, c < 256) :
    GoodC Tryz.prog 14 [eHist h,cutP c.1 c.2.1 c.2.2,.str nm] (.bool true):=c_law14a hw h c.1 c.2.1 c.2.2 nm ha hc hn
end Go.Abs
namespace Go.Abs
open Go.Proofs Go.Proofs.YthckccalfpnmaaaGreatDoor
set_option maxRecDepth 100000
section
variable {H:Type} {W:World} {Imm:Nat → Prop}
theorem u8_ofD {n:Nat} (d:DataW H) (c) (h:PVC Tryz.prog W Imm (toPV Tryz.prog (n + 1) 5 d) c):∃ a:Nat,toPV Tryz.prog (n + 1) 5 d = .int .u8 a ∧ a < 256:=by
 cases d with
 | lit l =>
  cases l with
  | int k z =>
   simp only [toPV,un5] at h ⊢
   split at h
   · rename_i hz
     rw [if_pos hz]
     simp only [Lit.wf,Bool.and_eq_true,decide_eq_true_eq] at hz
     have h1:(0:Int) ≤ z:=hz.1
     have h2:z ≤ 255:=hz.2
     exact ⟨z.toNat,by rw [Int.toNat_of_nonneg h1],by omega⟩
   · simp only [PVC] at h
  | _=>simp only [toPV,un5,PVC] at h
 | _=>simp only [toPV,un5,PVC] at h
theorem uidC:Tryz.prog.underlyingId 145 = 145:=by kernel_rfl
theorem cut3_arg {d:DataW H} (h:∃ cs,PVC Tryz.prog W Imm (toPV Tryz.prog 8 145 d) cs) (_hb:Rows.uptoBulk d ≤ 1048576):∃ a:Nat × Nat × Nat,toPV Tryz.prog 8 145 d = cutP a.1 a.2.1 a.2.2 ∧ a.1 < 256 ∧ a.2.1 < 256 ∧ a.2.2 < 256:=by
 obtain ⟨cs,h⟩:=h
 cases d with
 | agg l =>
  have e:toPV Tryz.prog 8 145 (.agg l) = .st 145 (l.map (toPV Tryz.prog 7 5)):=by simp only [toPV,un145,uidC]
  rw [e] at h ⊢
  simp only [PVC,sz145] at h
  obtain ⟨l',css,h1,h2,_⟩:=h
  cases h1
  match l,h2 with
  | [],h2=>simp [PVCl] at h2
  | [_],h2=>simp [PVCl] at h2
  | [_,_],h2=>simp [PVCl] at h2
  | _ :: _ :: _ :: _ :: _,h2=>simp [PVCl] at h2
  | [a,b,c],h2 =>
   simp only [List.map_cons,List.map_nil,PVCl] at h2 ⊢
   obtain ⟨c0,_,_,g0,_,c1,_,_,g1,_,c2,_,_,g2,_⟩:=h2
   obtain ⟨x,ex,hx⟩:=u8_ofD (n:=6) a c0 g0
   obtain ⟨y,ey,hy⟩:=u8_ofD (n:=6) b c1 g1
   obtain ⟨z,ez,hz⟩:=u8_ofD (n:=6) c c2 g2
   exact ⟨(x,y,z),by rw [ex,ey,ez]; rfl,hx,hy,hz⟩
 | _=>simp only [toPV,un145,PVC] at h
end
end Go.Abs
