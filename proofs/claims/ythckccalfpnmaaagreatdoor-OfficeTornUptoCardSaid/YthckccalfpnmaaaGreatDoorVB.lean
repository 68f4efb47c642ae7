import Derived.Test.YthckccalfpnmaaaGreatDoorVA
import Derived.Shelf.Strings.OnBuilder
import Derived.Shelf.Strings.BuilderX
import Derived.Shelf.Small.Strs
import Derived.Shelf.Strconv.Itoa3
import Derived.Shelf.Strconv.AtoiAll
import Derived.Shelf.Strings.Search1
import Derived.Shelf.Strings.Search2
import Derived.Shelf.Strings.Search3
import Derived.Shelf.Strings.Count
import Derived.Shelf.Strings.Repeat
import Derived.Test.YthckccalfpnmaaaGreatDoorProg
import Derived.Shelf.LaysM
import Derived.Shelf.LaysC
import Derived.Lib.AtoiErrMem
import Derived.Test.YthckccalfpnmaaaGreatDoorThD
import Derived.Shelf.Sort.Plain
import Derived.Shelf.Slices.In.SortNone
/- Parts of a proof. -/
set_option linter.unusedSimpArgs false
set_option linter.unusedVariables false
set_option linter.unusedSectionVars false
namespace Go.Abs
open Go.Proofs
set_option maxHeartbeats 4000000
set_option maxRecDepth 100000
theorem c_script (a b:List RowD) (ha:rowsB a) (hb:rowsB b) (la:a.length ≤ 1000) (lb:b.length ≤ 1000):GoodC Tryz.prog 170 [.seq (a.map eRow),.seq (b.map eRow),.func 171 [] [],.func 172 [] []] (.seq ((diffS a b).map eEdit)):=by
 refine good_fn nf isF170 mix (by simp [Tryz.f170]) ?_
 have wa:=wi1 (i:=a.length) (by omega)
 have wb:=wi1 (i:=b.length) (by omega)
 simp [Tryz.f170,wa,maxL]
 refine ⟨by omega,?_⟩
 refine lp (α:=Nat) (fun j=>⟨[(10,.p (.int .i64 ((a.length:Int) - j))),(9,.sl 0 0 1 0 (a.length + 1)),(3,.p (.func 172 [] [])),(2,.p (.func 171 [] [])),(1,.p (.seq (b.map eRow))),(0,.p (.seq (a.map eRow)))],tabG a b j⟩) (fun j=>j ≤ a.length + 1) (fun j=>a.length + 1 - j) 0 (by simp) ?_ (he:=by simp) (hh:=by simp [tabG,outR_zero,rowsR]) (hr:=by simp [tabG]) (hr2:=tabG_refs fun q hq=>tabG_in hq)
 intro j hj
 by_cases hji:j ≤ a.length
 · obtain ⟨i,hi⟩:∃ i,i + j = a.length:=⟨a.length - j,by omega⟩
   have ej:(a.length:Int) - j = (i:Int):=by omega
   have w1:IntKind.i64.wrap ((i:Int) - 1) = (i:Int) - 1:=wi64 _ (by omega) (by omega)
   rw [ej]
   have hO:=outR_get (b:=b) (j:=j) (show i ≤ a.length by omega)
   rw [if_neg (by omega)] at hO
   simp [wb,maxL,tabG_new,tabN_0,tabG_len,outR_len,hO,tabN_set hi]
   refine ⟨by omega,by omega,?_⟩
   refine lp (α:=Nat) (fun t=>⟨[(11,.p (.int .i64 ((b.length:Int) - t))),(10,.p (.int .i64 i)),(9,.sl 0 0 1 0 (a.length + 1)),(3,.p (.func 172 [] [])),(2,.p (.func 171 [] [])),(1,.p (.seq (b.map eRow))),(0,.p (.seq (a.map eRow)))],tabH a b j (partR a b i t)⟩) (fun t=>t ≤ b.length + 1) (fun t=>b.length + 1 - t) 0 (by simp) ?_ (he:=by simp) (hh:=keepHg_refl) (hr:=by simp only [RefsE,refsLt,and_true,true_and]; exact tabH_in (by omega)) (hr2:=tabH_refs fun q hq=>tabH_in hq)
   intro t ht
   by_cases htk:t ≤ b.length
   · obtain ⟨k,hk⟩:∃ k,k + t = b.length:=⟨b.length - t,by omega⟩
     have et:(b.length:Int) - t = (k:Int):=by omega
     rw [et]
     have w2:IntKind.i64.wrap ((k:Int) - 1) = (k:Int) - 1:=wi64 _ (by omega) (by omega)
     have hO1:=outR_get (b:=b) (j:=j + 1) (show i ≤ a.length by omega)
     rw [if_pos (by omega),show a.length + 1 - i = j + 1 by omega] at hO1
     have hs:=partR_set (a:=a) (i:=i) hk
     have hset:=fun v=>partR_set2 (a:=a) (i:=i) hk v
     have hP:=fun c:List AV=>tabH_set (a:=a) (b:=b) j c
     by_cases hia:i = a.length
     · have hv:=costC_a (a:=a) (b:=b) (k:=k) (by omega)
       have wv:IntKind.i64.wrap ((b.length:Int) - k) = costC a b i k:=by rw [hia,hv]; exact wi64 _ (by omega) (by omega)
       subst hia
       simp [tabH_0,hO1,tabH_cur,wv,partR_get (show k ≤ b.length by omega),hs,tabH_set,w2]
       refine ⟨by omega,?_⟩
       exact rd (t + 1) (by omega) (he:=by simp; omega) (hh:=keepHg_refl) (hr:=by simp only [RefsE,refsLt,and_true,true_and]; exact tabH_in (by omega)) (hr2:=tabH_refs fun q hq=>tabH_in hq)
     · have hia':¬ (i:Int) = a.length:=by omega
       by_cases hkb:k = b.length
       · have hv:=costC_b (a:=a) (b:=b) (i:=i) (by omega)
         have wv:IntKind.i64.wrap ((a.length:Int) - i) = costC a b i k:=by rw [hkb,hv]; exact wi64 _ (by omega) (by omega)
         subst hkb
         simp [tabH_0,hO1,tabH_cur,wv,partR_get (show b.length ≤ b.length by omega),hs,tabH_set,w2,hia,hia']
         refine ⟨by omega,?_⟩
         exact rd (t + 1) (by omega) (he:=by simp; omega) (hh:=keepHg_refl) (hr:=by simp only [RefsE,refsLt,and_true,true_and]; exact tabH_in (by omega)) (hr2:=tabH_refs fun q hq=>tabH_in hq)
       · have hkb':¬ (k:Int) = b.length:=by omega
         have hia2:i < a.length:=by omega
         have hkb2:k < b.length:=by omega
         have hO2:=outR_get (b:=b) (j:=j + 1) (show i + 1 ≤ a.length by omega)
         rw [if_pos (by omega),show a.length + 1 - (i + 1) = j by omega] at hO2
         have hR:=fun c:List AV=>tabH_row (a:=a) (b:=b) (j:=j) (p:=i + 1) c (by omega) (by omega)
         simp only [show a.length + 1 - (i + 1) = j by omega] at hR
         have hF1:=fullR_get (a:=a) (b:=b) (i:=i + 1) (k:=k) (by omega)
         have hF2:=fullR_get (a:=a) (b:=b) (i:=i + 1) (k:=k + 1) (by omega)
         have hP1:=partR_get (a:=a) (b:=b) (i:=i) (t:=t) (k:=k + 1) (by omega)
         rw [if_pos (by omega)] at hP1
         have hP0:=partR_get (a:=a) (b:=b) (i:=i) (t:=t) (k:=k) (by omega)
         have wi:=wi1 (i:=i) (by omega)
         have wk:=wi1 (i:=k) (by omega)
         have hst:=costC_step hia2 hkb2
         have q1:=costC_bd a b (i + 1) k
         have q2:=costC_bd a b i (k + 1)
         have q3:=costC_bd a b (i + 1) (k + 1)
         generalize hC1:costC a b (i + 1) k = C1 at *
         generalize hC2:costC a b i (k + 1) = C2 at *
         generalize hC3:costC a b (i + 1) (k + 1) = C3 at *
         have hm:(if C2 < C1 then C2 else C1) = min C1 C2:=by omega
         have wm:IntKind.i64.wrap (1 + min C1 C2) = 1 + min C1 C2:=wi64 _ (by omega) (by omega)
         simp [tabH_0,hO1,hO2,hR,hF1,hF2,hP1,hP0,tabH_cur,tabH_set,w2,hia,hia',hkb,hkb',wi,wk,hm,wm,hi,hkb2,hia2]
         refine ⟨by omega,by omega,by omega,by omega,by omega,by omega,?_,?_⟩
         · repeat' (first | exact rfl | refine ⟨?_,?_⟩)
         refine e2 (c_same a[i] b[k] (ha.2 _ (List.getElem_mem hia2)) (hb.2 _ (List.getElem_mem hkb2))) ?_
         have hself:((partR a b i t).set k (AV.p (PV.int IntKind.i64 (1 + min C1 C2))))[k]? = some (.p (.int .i64 (1 + min C1 C2))):=List.getElem?_set_self (by rw [partR_len]; omega)
         by_cases hab:a[i] = b[k]
         · rw [if_pos hab] at hst
           have hm2:(if C3 < 1 + min C1 C2 then C3 else 1 + min C1 C2) = costC a b i k:=by rw [hst]; omega
           simp [tabH_0,hO1,hO2,hR,hF1,hF2,tabH_cur,tabH_set,w2,hab,wi,wk,hself,hset,hm2]
           refine ⟨by omega,by omega,⟨by omega,by omega⟩,⟨by omega,by omega⟩,by omega,?_,?_⟩
           · repeat' (first | exact rfl | refine ⟨?_,?_⟩)
           exact rd (t + 1) (by omega) (he:=by simp; omega) (hh:=keepHg_refl) (hr:=by simp only [RefsE,refsLt,and_true,true_and]; exact tabH_in (by omega)) (hr2:=tabH_refs fun q hq=>tabH_in hq)
         · rw [if_neg hab] at hst
           rw [hst] at hs
           simp [hab,w2,hs]
           exact rd (t + 1) (by omega) (he:=by simp; omega) (hh:=keepHg_refl) (hr:=by simp only [RefsE,refsLt,and_true,true_and]; exact tabH_in (by omega)) (hr2:=tabH_refs fun q hq=>tabH_in hq)
   · have htm:t = b.length + 1:=by omega
     subst htm
     have et:(b.length:Int) - ((b.length + 1:Nat):Int) = -1:=by omega
     rw [et]
     simp [partR_full,tabH_full hi,w1]
     exact rd (j + 1) (by omega) (he:=by simp; omega) (hh:=keepHg_refl) (hr:=by simp only [RefsE,refsLt,and_true,true_and]; exact tabG_in (by omega)) (hr2:=tabG_refs fun q hq=>tabG_in hq)
 · have hjm:j = a.length + 1:=by omega
   subst hjm
   have ej:(a.length:Int) - ((a.length + 1:Nat):Int) = -1:=by omega
   rw [ej]
   simp
   refine lp (α:=Nat × Nat × List EditD) (fun (i,k,out)=>⟨[(14,.p (.int .i64 k)),(13,.p (.int .i64 i)),(12,.sl (a.length + 2) out.length 3 0 out.length),(9,.sl 0 0 1 0 (a.length + 1)),(3,.p (.func 172 [] [])),(2,.p (.func 171 [] [])),(1,.p (.seq (b.map eRow))),(0,.p (.seq (a.map eRow)))],tabE a b out⟩)
    (fun (i,k,out)=>i ≤ a.length ∧ k ≤ b.length ∧ out.length ≤ i + k ∧ diffS a b = out ++ diffS (a.drop i) (b.drop k)) (fun (i,k,_)=>(a.length - i) + (b.length - k)) (0,0,[]) (by simp) ?_
    (he:=by simp [tabE_cur]) (hh:=by show KeepHg (tabE a b []) (tabG a b (a.length + 1)) (tabG a b (a.length + 1) ++ [.arr .grow 0 3 []]); exact keepHg_app (by simp)) (hr:=by simp only [RefsE,refsLt,and_true,true_and]; exact ⟨tabE_inE [],tabE_in (by omega)⟩) (hr2:=tabE_refs _)
   rintro ⟨i,k,out⟩ ⟨h1,h2,h3,h4⟩
   dsimp only at h1 h2 h3 h4 ⊢
   have wi:=wi1 (i:=i) (by omega)
   have wk:=wi1 (i:=k) (by omega)
   have hT:=tabE_out (b:=b) h1
   have hR:=fun l=>tabE_row (b:=b) (p:=i) l h1
   have hF:=fullR_get (a:=a) (i:=i) h2
   have h0:=tabE_0 (a:=a) (b:=b)
   by_cases hi:i < a.length
   · have hT1:=tabE_out (b:=b) (show i + 1 ≤ a.length by omega)
     have hR1:=fun l=>tabE_row (b:=b) (p:=i + 1) l (show i + 1 ≤ a.length by omega)
     simp only [Nat.add_sub_add_right] at hT1 hR1
     have hF1:=fullR_get (a:=a) (i:=i + 1) h2
     have q2:=costC_bd a b (i + 1) k
     have wc:IntKind.i64.wrap (1 + costC a b (i + 1) k) = 1 + costC a b (i + 1) k:=wi64 _ (by omega) (by omega)
     by_cases hk:k < b.length
     · have hF2:=fullR_get (a:=a) (i:=i + 1) (show k + 1 ≤ b.length by omega)
       rw [diff_both hi hk] at h4
       simp [hi,hk]
       refine e2 (c_same a[i] b[k] (ha.2 _ (List.getElem_mem hi)) (hb.2 _ (List.getElem_mem hk))) ?_
       by_cases hab:a[i] = b[k]
       · by_cases hc:costC a b i k = costC a b (i + 1) (k + 1)
         · rw [if_pos ⟨hab,hc⟩] at h4
           rw [decide_eq_true hab]
           simp [hi,hk,h0,hT,hT1,hR,hR1,hF,hF2,hc,wi,wk]
           repeat' with_reducible refine And.intro ?_ ?_
           all_goals first | omega | refine c2 (c_edited kKeep a[i] (ha.2 _ (List.getElem_mem hi))) ?_ | exact rfl
           simp [tabE_len,tabE_get,shp_edit,tabE_push,wi,wk]
           repeat' with_reducible refine And.intro ?_ ?_
           all_goals first | omega | (simp only [maxL]; omega) | exact rd (i + 1,k + 1,out ++ [(⟨kKeep,a[i]⟩:EditD)]) ⟨hi,hk,by simp; omega,by rw [h4,List.append_assoc]; rfl⟩ (h1:=by simp; omega) (he:=by simp) (hh:=keepHg_pre) (hr:=by simp only [RefsE,refsLt,and_true,true_and]; exact ⟨tabE_inE _,tabE_in (by omega)⟩) (hr2:=tabE_refs _)
         · rw [if_neg (fun h=>hc h.2)] at h4
           rw [decide_eq_true hab]
           by_cases hd:costC a b i k = 1 + costC a b (i + 1) k
           · rw [if_pos hd] at h4
             have hc':¬ (1 + costC a b (i + 1) k = costC a b (i + 1) (k + 1)):=hd ▸ hc
             simp [hi,hk,h0,hT,hT1,hR,hR1,hF,hF1,hF2,hc',hd,wi,wk,wc]
             repeat' with_reducible refine And.intro ?_ ?_
             all_goals first | omega | refine c2 (c_edited kDrop a[i] (ha.2 _ (List.getElem_mem hi))) ?_ | exact rfl
             simp [tabE_len,tabE_get,shp_edit,tabE_push,wi,wk]
             repeat' with_reducible refine And.intro ?_ ?_
             all_goals first | omega | (simp only [maxL]; omega) | exact rd (i + 1,k,out ++ [(⟨kDrop,a[i]⟩:EditD)]) ⟨hi,h2,by simp; omega,by rw [h4,List.append_assoc]; rfl⟩ (h1:=by simp; omega) (he:=by simp) (hh:=keepHg_pre) (hr:=by simp only [RefsE,refsLt,and_true,true_and]; exact ⟨tabE_inE _,tabE_in (by omega)⟩) (hr2:=tabE_refs _)
           · rw [if_neg hd] at h4
             simp [hi,hk,h0,hT,hT1,hR,hR1,hF,hF1,hF2,hc,hd,wi,wk,wc]
             repeat' with_reducible refine And.intro ?_ ?_
             all_goals first | omega | refine c2 (c_edited kAdd b[k] (hb.2 _ (List.getElem_mem hk))) ?_ | exact rfl
             simp [tabE_len,tabE_get,shp_edit,tabE_push,wi,wk]
             repeat' with_reducible refine And.intro ?_ ?_
             all_goals first | omega | (simp only [maxL]; omega) | exact rd (i,k + 1,out ++ [(⟨kAdd,b[k]⟩:EditD)]) ⟨h1,hk,by simp; omega,by rw [h4,List.append_assoc]; rfl⟩ (h1:=by simp; omega) (he:=by simp) (hh:=keepHg_pre) (hr:=by simp only [RefsE,refsLt,and_true,true_and]; exact ⟨tabE_inE _,tabE_in (by omega)⟩) (hr2:=tabE_refs _)
       · rw [if_neg (fun h=>hab h.1)] at h4
         rw [decide_eq_false hab]
         by_cases hd:costC a b i k = 1 + costC a b (i + 1) k
         · rw [if_pos hd] at h4
           simp [hi,hk,h0,hT,hT1,hR,hR1,hF,hF1,hd,wi,wk,wc]
           repeat' with_reducible refine And.intro ?_ ?_
           all_goals first | omega | refine c2 (c_edited kDrop a[i] (ha.2 _ (List.getElem_mem hi))) ?_ | exact rfl
           simp [tabE_len,tabE_get,shp_edit,tabE_push,wi,wk]
           repeat' with_reducible refine And.intro ?_ ?_
           all_goals first | omega | (simp only [maxL]; omega) | exact rd (i + 1,k,out ++ [(⟨kDrop,a[i]⟩:EditD)]) ⟨hi,h2,by simp; omega,by rw [h4,List.append_assoc]; rfl⟩ (h1:=by simp; omega) (he:=by simp) (hh:=keepHg_pre) (hr:=by simp only [RefsE,refsLt,and_true,true_and]; exact ⟨tabE_inE _,tabE_in (by omega)⟩) (hr2:=tabE_refs _)
         · rw [if_neg hd] at h4
           simp [hi,hk,h0,hT,hT1,hR,hR1,hF,hF1,hd,wi,wk,wc]
           repeat' with_reducible refine And.intro ?_ ?_
           all_goals first | omega | refine c2 (c_edited kAdd b[k] (hb.2 _ (List.getElem_mem hk))) ?_ | exact rfl
           simp [tabE_len,tabE_get,shp_edit,tabE_push,wi,wk]
           repeat' with_reducible refine And.intro ?_ ?_
           all_goals first | omega | (simp only [maxL]; omega) | exact rd (i,k + 1,out ++ [(⟨kAdd,b[k]⟩:EditD)]) ⟨h1,hk,by simp; omega,by rw [h4,List.append_assoc]; rfl⟩ (h1:=by simp; omega) (he:=by simp) (hh:=keepHg_pre) (hr:=by simp only [RefsE,refsLt,and_true,true_and]; exact ⟨tabE_inE _,tabE_in (by omega)⟩) (hr2:=tabE_refs _)
     · rw [diff_drop hi hk] at h4
       have hd:=cost_last hi hk h2
       simp [hi,hk,h0,hT,hT1,hR,hR1,hF,hF1,hd,wi,wk,wc]
       repeat' with_reducible refine And.intro ?_ ?_
       all_goals first | omega | refine c2 (c_edited kDrop a[i] (ha.2 _ (List.getElem_mem hi))) ?_ | exact rfl
       simp [tabE_len,tabE_get,shp_edit,tabE_push,wi,wk]
       repeat' with_reducible refine And.intro ?_ ?_
       all_goals first | omega | (simp only [maxL]; omega) | exact rd (i + 1,k,out ++ [(⟨kDrop,a[i]⟩:EditD)]) ⟨hi,h2,by simp; omega,by rw [h4,List.append_assoc]; rfl⟩ (h1:=by simp; omega) (he:=by simp) (hh:=keepHg_pre) (hr:=by simp only [RefsE,refsLt,and_true,true_and]; exact ⟨tabE_inE _,tabE_in (by omega)⟩) (hr2:=tabE_refs _)
   · by_cases hk:k < b.length
     · rw [diff_add hi hk] at h4
       simp [hi,hk,wi,wk]
       repeat' with_reducible refine And.intro ?_ ?_
       all_goals first | omega | refine c2 (c_edited kAdd b[k] (hb.2 _ (List.getElem_mem hk))) ?_ | exact rfl
       simp [tabE_len,tabE_get,shp_edit,tabE_push,wi,wk]
       repeat' with_reducible refine And.intro ?_ ?_
       all_goals first | omega | (simp only [maxL]; omega) | exact rd (i,k + 1,out ++ [(⟨kAdd,b[k]⟩:EditD)]) ⟨h1,hk,by simp; omega,by rw [h4,List.append_assoc]; rfl⟩ (h1:=by simp; omega) (he:=by simp) (hh:=keepHg_pre) (hr:=by simp only [RefsE,refsLt,and_true,true_and]; exact ⟨tabE_inE _,tabE_in (by omega)⟩) (hr2:=tabE_refs _)
     · rw [diff_end hi hk,List.append_nil] at h4
       rw [h4]
       simp [hi,hk,tabE_cur]
end Go.Abs
namespace Go.Abs
open Go.Proofs
set_option maxHeartbeats 4000000
set_option maxRecDepth 100000
@[simp] theorem allP_mapc {α:Type} {f:α → PV}:∀ {l:List α},allP (l.map fun x=>.p (f x)) = some (l.map f)
 | []=>rfl
 | a :: l=>by simp [allP,allP_mapc (l:=l)]
def patchGo:List RowD → List RowD → List EditD → Option (List RowD × List RowD)
 | rest,out,[]=>some (rest,out)
 | rest,out,e :: l =>
  if e.kind = kAdd then patchGo rest (out ++ [e.row]) l
  else match rest with
   | r :: rs=>if r = e.row then patchGo rs (if e.kind = kDrop then out else out ++ [e.row]) l else none
   | []=>none
end Go.Abs
namespace Go.Abs
open Go.Proofs
set_option maxHeartbeats 4000000
set_option maxRecDepth 100000
theorem first2 {x y:Int}:firstE [x,y] = 0 ↔ x = 0 ∧ y = 0:=by
 simp only [firstE]
 by_cases h:x = 0 <;> by_cases h2:y = 0 <;> simp [h,h2]
end Go.Abs
namespace Go.Abs
open Go.Proofs
theorem first3 {x y z:Int}:firstE [x,y,z] = 0 ↔ x = 0 ∧ y = 0 ∧ z = 0:=by
 simp only [firstE]; repeat' split
 all_goals (first | (constructor <;> (intro h; omega)) | omega)
theorem when0 {b:Bool} {e:Int} (he:e ≠ 0):whenE b e = 0 ↔ b = false:=by cases b <;> simp [whenE,he]
inductive Leads:List RowD → List EditD → List RowD → Nat → Prop
 | nil:Leads [] [] [] 0
 | keep {a l b n} (r:RowD) (h:Leads a l b n):Leads (r :: a) (⟨kKeep,r⟩ :: l) (r :: b) n
 | drop {a l b n} (r:RowD) (h:Leads a l b n):Leads (r :: a) (⟨kDrop,r⟩ :: l) b (n + 1)
 | add {a l b n} (r:RowD) (h:Leads a l b n):Leads a (⟨kAdd,r⟩ :: l) (r :: b) (n + 1)
theorem Leads.go {a l b n} (h:Leads a l b n):∀ out,patchGo a out l = some ([],out ++ b):=by
 induction h with
 | nil=>intro out; simp [patchGo]
 | keep r h ih=>intro out; simp [patchGo,kKeep,kAdd,kDrop,ih]
 | drop r h ih=>intro out; simp [patchGo,kAdd,kDrop,ih]
 | add r h ih=>intro out; simp [patchGo,ih]
theorem Leads.of:∀ {l:List EditD} {a out o:List RowD},(∀ e ∈ l,known e.kind = true) → patchGo a out l = some ([],o) → ∃ b n,o = out ++ b ∧ Leads a l b n
 | [],a,out,o,_,h=>by
  simp only [patchGo,Option.some.injEq,Prod.mk.injEq] at h
  obtain ⟨rfl,rfl⟩:=h
  exact ⟨[],0,by simp,.nil⟩
 | ⟨k,r⟩ :: l,a,out,o,hk,h=>by
  have hk':∀ e ∈ l,known e.kind = true:=fun e he=>hk e (List.mem_cons_of_mem _ he)
  rcases known_iff.1 (hk _ List.mem_cons_self) with h1 | h1 | h1 <;> simp only at h1 <;> subst h1
  · cases a with
    | nil=>simp [patchGo,kKeep,kAdd] at h
    | cons x a =>
     simp [patchGo,kKeep,kAdd,kDrop] at h
     obtain ⟨rfl,h⟩:=h
     obtain ⟨b,n,rfl,h2⟩:=Leads.of hk' h
     exact ⟨x :: b,n,by simp,.keep x h2⟩
  · cases a with
    | nil=>simp [patchGo,kDrop,kAdd] at h
    | cons x a =>
     simp [patchGo,kAdd,kDrop] at h
     obtain ⟨rfl,h⟩:=h
     obtain ⟨b,n,rfl,h2⟩:=Leads.of hk' h
     exact ⟨b,n + 1,by simp,.drop x h2⟩
  · simp [patchGo] at h
    obtain ⟨b,n,rfl,h2⟩:=Leads.of hk' h
    exact ⟨r :: b,n + 1,by simp,.add r h2⟩
end Go.Abs
namespace Go.Abs
open Go.Proofs
def look:List RowD → List Nat → Option (List Int)
 | [],_=>none
 | r :: l,k=>if r.key = k then some r.vals else look l k
end Go.Abs
namespace Go.Abs
open Go.Proofs
set_option maxHeartbeats 4000000
set_option maxRecDepth 100000
structure BookD where
 name:List Nat
 rows:List RowD
 deriving DecidableEq
def eBook (b:BookD):PV:=.st 23 [.str b.name,.seq (b.rows.map eRow)]
def rBook (b:BookD):PV:=.st 26 [.str b.name,.seq (b.rows.map eRow)]
theorem c_sameWords (a b:List (List Nat)) (ha:a.length ≤ 1048576) (hb:b.length ≤ 1048576):GoodC Tryz.prog 28 [.seq (a.map .str),.seq (b.map .str)] (.bool (decide (a = b))):=by
 refine good_fn nf isF28 mix (by simp [Tryz.f28]) ?_
 by_cases hl:a.length = b.length
 case neg =>
  have hl':¬ (a.length:Int) = b.length:=by omega
  simp [Tryz.f28,hl,hl',len_ne hl]
 have hl':(a.length:Int) = b.length:=by omega
 simp [Tryz.f28,hl,hl']
 refine lp (α:=Nat) (fun i=>⟨[(5,.p (.int .i64 i)),(1,.p (.seq (b.map .str))),(0,.p (.seq (a.map .str)))],[]⟩) (fun i=>i ≤ a.length ∧ decide (a.drop i = b.drop i) = decide (a = b)) (fun i=>a.length - i) 0 (by simp) ?_
 rintro i ⟨k1,k2⟩
 by_cases hi:i < a.length
 · have hib:i < b.length:=by omega
   rw [beq_drop hi hib] at k2
   have hw:=wi1 (i:=i) (by omega)
   by_cases he:a[i] = b[i]
   · simp [he] at k2
     simp [hi,hib,he,hw]
     exact rd (i + 1) ⟨hi,by simpa using k2⟩
   · simp [he] at k2
     simp [hi,hib,he,k2]
 · have:i = a.length:=by omega
   subst this
   have hb0:b.drop a.length = []:=List.drop_eq_nil_of_le (by omega)
   simp [hb0] at k2
   simp [k2]
end Go.Abs
namespace Go.Abs
open Go.Proofs
noncomputable def tabL:List (Nat × Func):=[(17,Tryz.f17),(19,Tryz.f19),(20,Tryz.f20),(21,Tryz.f21),(25,Tryz.f25),(28,Tryz.f28),(29,Tryz.f29),(31,Tryz.f31),(36,Tryz.f36),(45,Tryz.f45),(46,Tryz.f46),(55,Tryz.f55),(56,Tryz.f56),(61,Tryz.f61),(63,Tryz.f63),(64,Tryz.f64),(66,Tryz.f66),(67,Tryz.f67),(72,Tryz.f72),(73,Tryz.f73),(77,Tryz.f77),(88,Tryz.f88),(89,Tryz.f89),(90,Tryz.f90),(91,Tryz.f91),(92,Tryz.f92),(93,Tryz.f93),(94,Tryz.f94),(95,Tryz.f95),(96,Tryz.f96),(97,Tryz.f97),(98,Tryz.f98),(99,Tryz.f99),(100,Tryz.f100),(101,Tryz.f101),(102,Tryz.f102),(103,Tryz.f103),(104,Tryz.f104),(105,Tryz.f105),(106,Tryz.f106),(107,Tryz.f107),(109,Tryz.f109),(110,Tryz.f110),(111,Tryz.f111),(115,Tryz.f115),(117,Tryz.f117),(118,Tryz.f118),(119,Tryz.f119),(124,Tryz.f124),(125,Tryz.f125),(126,Tryz.f126),(127,Tryz.f127),(128,Tryz.f128),(129,Tryz.f129),(130,Tryz.f130),(131,Tryz.f131),(132,Tryz.f132),(138,Tryz.f138),(139,Tryz.f139),(140,Tryz.f140),(141,Tryz.f141),(144,Tryz.f144),(145,Tryz.f145),(146,Tryz.f146),(148,Tryz.f148),(151,Tryz.f151),(152,Tryz.f152),(153,Tryz.f153),(154,Tryz.f154),(157,Tryz.f157),(158,Tryz.f158),(159,Tryz.f159),(160,Tryz.f160),(161,Tryz.f161),(163,Tryz.f163),(164,Tryz.f164),(165,Tryz.f165),(166,Tryz.f166),(167,Tryz.f167),(168,Tryz.f168),(169,Tryz.f169),(170,Tryz.f170),(171,Tryz.f171),(172,Tryz.f172),(177,Tryz.f177),(178,Tryz.f178),(179,Tryz.f179),(180,Tryz.f180),(181,Tryz.f181),(182,Tryz.f182),(183,Tryz.f183),(184,Tryz.f184),(185,Tryz.f185),(186,Tryz.f186),(187,Tryz.f187),(188,Tryz.f188),(189,Tryz.f189),(190,Tryz.f190),(191,Tryz.f191),(192,Tryz.f192),(193,Tryz.f193),(194,Tryz.f194),(195,Tryz.f195),(196,Tryz.f196),(197,Tryz.f197),(199,Tryz.f199),(200,Tryz.f200),(201,Tryz.f201),(202,Tryz.f202),(203,Tryz.f203),(204,Tryz.f204),(205,Tryz.f205),(206,Tryz.f206),(207,Tryz.f207),(208,Tryz.f208),(209,Tryz.f209),(210,Tryz.f210),(212,Tryz.f212),(213,Tryz.f213),(214,Tryz.f214),(215,Tryz.f215),(216,Tryz.f216),(217,Tryz.f217),(218,Tryz.f218),(221,Tryz.f221),(222,Tryz.f222),(223,Tryz.f223),(225,Tryz.f225),(226,Tryz.f226),(227,Tryz.f227),(228,Tryz.f228),(229,Tryz.f229),(230,Tryz.f230),(231,Tryz.f231),(232,Tryz.f232),(233,Tryz.f233),(234,Tryz.f234),(235,Tryz.f235),(237,Tryz.f237),(238,Tryz.f238),(239,Tryz.f239),(240,Tryz.f240),(241,Tryz.f241),(242,Tryz.f242),(243,Tryz.f243),(244,Tryz.f244),(245,Tryz.f245),(246,Tryz.f246),(247,Tryz.f247),(248,Tryz.f248),(249,Tryz.f249),(250,Tryz.f250),(251,Tryz.f251),(252,Tryz.f252),(255,Tryz.f255),(256,Tryz.f256),(257,Tryz.f257),(258,Tryz.f258),(259,Tryz.f259),(260,Tryz.f260),(261,Tryz.f261),(262,Tryz.f262),(263,Tryz.f263),(264,Tryz.f264),(265,Tryz.f265),(266,Tryz.f266),(267,Tryz.f267),(268,Tryz.f268),(269,Tryz.f269),(270,Tryz.f270),(271,Tryz.f271),(273,Tryz.f273),(275,Tryz.f275),(276,Tryz.f276),(277,Tryz.f277),(278,Tryz.f278),(279,Tryz.f279),(280,Tryz.f280),(281,Tryz.f281),(282,Tryz.f282),(283,Tryz.f283),(284,Tryz.f284),(285,Tryz.f285),(286,Tryz.f286),(287,Tryz.f287),(288,Tryz.f288),(289,Tryz.f289),(290,Tryz.f290),(291,Tryz.f291),(292,Tryz.f292),(293,Tryz.f293),(295,Tryz.f295),(296,Tryz.f296),(298,Tryz.f298),(299,Tryz.f299),(300,Tryz.f300),(301,Tryz.f301),(302,Tryz.f302),(303,Tryz.f303),(304,Tryz.f304),(305,Tryz.f305),(306,Tryz.f306),(307,Tryz.f307),(308,Tryz.f308),(309,Tryz.f309),(310,Tryz.f310),(311,Tryz.f311),(312,Tryz.f312),(313,Tryz.f313),(314,Tryz.f314),(315,Tryz.f315),(316,Tryz.f316),(317,Tryz.f317),(318,Tryz.f318),(319,Tryz.f319),(320,Tryz.f320),(321,Tryz.f321),(322,Tryz.f322),(323,Tryz.f323),(324,Tryz.f324),(325,Tryz.f325),(326,Tryz.f326),(327,Tryz.f327),(328,Tryz.f328),(329,Tryz.f329),(330,Tryz.f330),(331,Tryz.f331),(332,Tryz.f332),(333,Tryz.f333),(334,Tryz.f334),(335,Tryz.f335),(336,Tryz.f336)]
def lookT:List (Nat × Func) → Nat → Option Func
 | [],_=>none
 | (i,f) :: r,n=>bif Nat.beq n i then some f else lookT r n
def S (s:String):PV:=.str (s.toUTF8.data.toList.map (·.toNat))
end Go.Abs
namespace Go.Proofs
open Go.Shelf
def Tryz.lays156_ren:Go.Shelf.Ren:=⟨fun | 156=>159 | 165=>169 | 166=>97 | 169=>101 | 240=>180 | 241=>230 | 276=>236 | 277=>274 | n=>n,fun | 31=>44 | 9=>9 | 3=>3 | 4=>4 | 0=>0 | 20=>20 | 72=>162 | 76=>165 | 70=>160 | 37=>126 | 75=>164 | 127=>283 | 164=>326 | 5=>5 | 80=>111 | n=>n,fun | n=>n⟩
theorem Tryz.lays156:Go.Proofs.Lays.n156 Tryz.prog Tryz.lays156_ren:={
 mixed:=by kernel_rfl
 f156:=Tryz.func159.trans (congrArg some (by kernel_rfl))
 f165:=Tryz.func169.trans (congrArg some (by kernel_rfl))
 f166:=Tryz.func97.trans (congrArg some (by kernel_rfl))
 f169:=Tryz.func101.trans (congrArg some (by kernel_rfl))
 f240:=Tryz.func180.trans (congrArg some (by kernel_rfl))
 f241:=Tryz.func230.trans (congrArg some (by kernel_rfl))
 f276:=Tryz.func236.trans (congrArg some (by kernel_rfl))
 f277:=Tryz.func274.trans (congrArg some (by kernel_rfl))
 t0:=Tryz.underlying0
 a0:=Tryz.isAgg0
 z0:=Tryz.sizeOf0
 v0:=Tryz.zeroValue0
 t3:=Tryz.underlying3
 a3:=Tryz.isAgg3
 z3:=Tryz.sizeOf3
 v3:=Tryz.zeroValue3
 t4:=Tryz.underlying4
 a4:=Tryz.isAgg4
 z4:=Tryz.sizeOf4
 v4:=Tryz.zeroValue4
 t9:=Tryz.underlying9
 a9:=Tryz.isAgg9
 z9:=Tryz.sizeOf9
 v9:=Tryz.zeroValue9
 t20:=Tryz.underlying20
 a20:=Tryz.isAgg20
 z20:=Tryz.sizeOf20
 v20:=Tryz.zeroValue20
 t31:=Tryz.underlying44
 a31:=Tryz.isAgg44
 z31:=Tryz.sizeOf44
 v31:=Tryz.zeroValue44
 t37:=Tryz.underlying126
 a37:=Tryz.isAgg126
 z37:=Tryz.sizeOf126
 v37:=Tryz.zeroValue126
 t70:=Tryz.underlying160
 a70:=Tryz.isAgg160
 z70:=Tryz.sizeOf160
 v70:=Tryz.zeroValue160
 t72:=Tryz.underlying162
 a72:=Tryz.isAgg162
 z72:=Tryz.sizeOf162
 v72:=Tryz.zeroValue162
 t75:=Tryz.underlying164
 a75:=Tryz.isAgg164
 z75:=Tryz.sizeOf164
 v75:=Tryz.zeroValue164
 t76:=Tryz.underlying165
 a76:=Tryz.isAgg165
 z76:=Tryz.sizeOf165
 v76:=Tryz.zeroValue165
 t127:=Tryz.underlying283
 a127:=Tryz.isAgg283
 z127:=Tryz.sizeOf283
 v127:=Tryz.zeroValue283
 t164:=Tryz.underlying326
 a164:=Tryz.isAgg326
 z164:=Tryz.sizeOf326
 v164:=Tryz.zeroValue326 }
theorem Tryz.Builder_Extra_156:Builder.Extra Tryz.prog Tryz.lays156_ren:={
 sizeBuilder:=by kernel_rfl
 liesBuilder:=by kernel_rfl
 t5:=Tryz.underlying5
 a5:=Tryz.isAgg5
 z5:=Tryz.sizeOf5
 v5:=Tryz.zeroValue5
 infoByte:=by kernel_rfl
 cellsByte:=by kernel_rfl
 sizeByte:=by kernel_rfl
 neB5:=by decide }
open Go.RowKit in
theorem Tryz.strings_Join_none (a : Option Addr) (c : Nat) (sep : ByteArray) (w : World) :
    Calls Tryz.prog 159 #[.slice a 0 c,.string sep] w fun e w'=>e = .returned (.string ⟨#[]⟩) ∧ w' = w:=Any.strings_Join_none Tryz.lays156 Tryz.Builder_Extra_156 a c sep w
open Go.RowKit in
theorem Tryz.strings_Join (bk o c : Nat) (xs : List ByteArray) (sep : ByteArray) (w : World) (hcells : ∀ (j : Nat) x, xs[j]? = some x → w.cell? ⟨bk, o + j, none⟩ = some (.string x)) (hbk : bk < w.heap.size) (hN : xs.length ≤ 140737488355328) (hcap : xs.length ≤ c) (hlen : (Lib.join (xs.map (·.data.toList)) sep.data.toList).length ≤ 140737488355328) :
    Calls Tryz.prog 159 #[.slice (some ⟨bk,o,none⟩) xs.length c,.string sep] w fun e w'=>e = .returned (.string ⟨(Lib.join (xs.map (·.data.toList)) sep.data.toList).toArray⟩) ∧ Below w.heap.size w w':=Any.strings_Join Tryz.lays156 Tryz.Builder_Extra_156 bk o c xs sep w hcells hbk hN hcap hlen
def Tryz.laysM171_ren:Go.Shelf.Ren:=⟨fun | 171=>182 | 243=>237 | 246=>276 | 283=>305 | 284=>306 | 285=>307 | 286=>308 | 129=>271 | 317=>323 | 318=>324 | 319=>325 | 320=>326 | 337=>333 | 338=>334 | n=>n,fun | 3=>3 | 9=>9 | 2=>2 | 4=>4 | 171=>384 | 0=>0 | 53=>320 | 37=>126 | 5=>5 | 173=>386 | 212=>401 | 51=>317 | 20=>20 | 213=>402 | 46=>261 | 232=>418 | 233=>419 | n=>n,fun | 17=>1 | 18=>6 | 19=>7 | n=>n⟩
theorem Tryz.laysM171:Go.Proofs.LaysM.n171 Tryz.prog Tryz.laysM171_ren:={
 mixed:=by kernel_rfl
 f129:=Tryz.func271.trans (congrArg some (by kernel_rfl))
 f171:=Tryz.func182.trans (congrArg some (by kernel_rfl))
 f243:=Tryz.func237.trans (congrArg some (by kernel_rfl))
 f246:=Tryz.func276.trans (congrArg some (by kernel_rfl))
 f283:=Tryz.func305.trans (congrArg some (by kernel_rfl))
 f284:=Tryz.func306.trans (congrArg some (by kernel_rfl))
 f285:=Tryz.func307.trans (congrArg some (by kernel_rfl))
 f286:=Tryz.func308.trans (congrArg some (by kernel_rfl))
 f317:=Tryz.func323.trans (congrArg some (by kernel_rfl))
 f318:=Tryz.func324.trans (congrArg some (by kernel_rfl))
 f319:=Tryz.func325.trans (congrArg some (by kernel_rfl))
 f320:=Tryz.func326.trans (congrArg some (by kernel_rfl))
 f337:=Tryz.func333.trans (congrArg some (by kernel_rfl))
 f338:=Tryz.func334.trans (congrArg some (by kernel_rfl))
 t0:=Tryz.underlying0
 a0:=Tryz.isAgg0
 z0:=Tryz.sizeOf0
 v0:=Tryz.zeroValue0
 t2:=Tryz.underlying2
 a2:=Tryz.isAgg2
 z2:=Tryz.sizeOf2
 v2:=Tryz.zeroValue2
 t3:=Tryz.underlying3
 a3:=Tryz.isAgg3
 z3:=Tryz.sizeOf3
 v3:=Tryz.zeroValue3
 t4:=Tryz.underlying4
 a4:=Tryz.isAgg4
 z4:=Tryz.sizeOf4
 v4:=Tryz.zeroValue4
 t5:=Tryz.underlying5
 a5:=Tryz.isAgg5
 z5:=Tryz.sizeOf5
 v5:=Tryz.zeroValue5
 t9:=Tryz.underlying9
 a9:=Tryz.isAgg9
 z9:=Tryz.sizeOf9
 v9:=Tryz.zeroValue9
 t20:=Tryz.underlying20
 a20:=Tryz.isAgg20
 z20:=Tryz.sizeOf20
 v20:=Tryz.zeroValue20
 t37:=Tryz.underlying126
 a37:=Tryz.isAgg126
 z37:=Tryz.sizeOf126
 v37:=Tryz.zeroValue126
 t46:=Tryz.underlying261
 a46:=Tryz.isAgg261
 z46:=Tryz.sizeOf261
 v46:=Tryz.zeroValue261
 t51:=Tryz.underlying317
 a51:=Tryz.isAgg317
 z51:=Tryz.sizeOf317
 v51:=Tryz.zeroValue317
 t53:=Tryz.underlying320
 a53:=Tryz.isAgg320
 z53:=Tryz.sizeOf320
 v53:=Tryz.zeroValue320
 t171:=Tryz.underlying384
 a171:=Tryz.isAgg384
 z171:=Tryz.sizeOf384
 v171:=Tryz.zeroValue384
 t173:=Tryz.underlying386
 a173:=Tryz.isAgg386
 z173:=Tryz.sizeOf386
 v173:=Tryz.zeroValue386
 t212:=Tryz.underlying401
 a212:=Tryz.isAgg401
 z212:=Tryz.sizeOf401
 v212:=Tryz.zeroValue401
 t213:=Tryz.underlying402
 a213:=Tryz.isAgg402
 z213:=Tryz.sizeOf402
 t232:=Tryz.underlying418
 a232:=Tryz.isAgg418
 z232:=Tryz.sizeOf418
 v232:=Tryz.zeroValue418
 t233:=Tryz.underlying419
 a233:=Tryz.isAgg419
 z233:=Tryz.sizeOf419
 v233:=Tryz.zeroValue419
 g17:=by kernel_rfl
 g18:=by kernel_rfl
 g19:=by kernel_rfl
 i0:=by kernel_rfl
 i2:=by kernel_rfl
 i3:=by kernel_rfl
 i4:=by kernel_rfl
 i5:=by kernel_rfl
 i9:=by kernel_rfl
 i20:=by kernel_rfl
 i37:=by kernel_rfl
 i46:=by kernel_rfl
 i51:=by kernel_rfl
 i53:=by kernel_rfl
 i171:=by kernel_rfl
 i173:=by kernel_rfl
 i212:=by kernel_rfl
 i232:=by kernel_rfl
 i233:=by kernel_rfl
 m17:=by kernel_rfl
 m18:=by kernel_rfl
 m19:=by kernel_rfl }
open Go.RowKit Go.Sort Go.Lib in
theorem Tryz.strconv_Itoa (n : Int) (h0 : -9223372036854775808 ≤ n) (h1 : n ≤ 9223372036854775807) (w : World) (htab : Lib.TabIs Tryz.prog w "internal/strconv.uint64pow10" .u64 Lib.pow10Tab) :
    Calls Tryz.prog 182 #[.int .i64 n] w fun e w'=>e = .returned (.string ⟨(Lib.itoa n).toArray⟩) ∧ ∃ k os,w' = grow (w.drewN k) os:=Any.strconv_Itoa Tryz.laysM171 n h0 h1 w htab
def Tryz.laysC172_ren:Go.Shelf.Ren:=⟨fun | 172=>239 | 244=>278 | 245=>279 | 247=>309 | 279=>310 | 280=>311 | 281=>312 | 282=>313 | 287=>327 | 316=>328 | 171=>182 | 205=>329 | 321=>335 | 322=>336 | 243=>237 | 246=>276 | 283=>305 | 284=>306 | 285=>307 | 286=>308 | 129=>271 | 317=>323 | 318=>324 | 319=>325 | 320=>326 | 337=>333 | 338=>334 | n=>n,fun | 9=>9 | 3=>3 | 75=>164 | 76=>165 | 4=>4 | 5=>5 | 167=>388 | 37=>126 | 0=>0 | 85=>389 | 2=>2 | 168=>391 | 53=>320 | 175=>403 | 46=>261 | 210=>406 | 127=>283 | 145=>417 | 143=>415 | 21=>21 | 171=>384 | 173=>386 | 212=>401 | 51=>317 | 20=>20 | 213=>402 | 232=>418 | 233=>419 | 80=>111 | n=>n,fun | 15=>2 | 16=>3 | 17=>1 | 18=>6 | 19=>7 | n=>n⟩
theorem Tryz.laysC172:Go.Proofs.LaysC.n172 Tryz.prog Tryz.laysC172_ren:={
 mixed:=by kernel_rfl
 f129:=Tryz.func271.trans (congrArg some (by kernel_rfl))
 f171:=Tryz.func182.trans (congrArg some (by kernel_rfl))
 f172:=Tryz.func239.trans (congrArg some (by kernel_rfl))
 f205:=Tryz.func329.trans (congrArg some (by kernel_rfl))
 f243:=Tryz.func237.trans (congrArg some (by kernel_rfl))
 f244:=Tryz.func278.trans (congrArg some (by kernel_rfl))
 f245:=Tryz.func279.trans (congrArg some (by kernel_rfl))
 f246:=Tryz.func276.trans (congrArg some (by kernel_rfl))
 f247:=Tryz.func309.trans (congrArg some (by kernel_rfl))
 f279:=Tryz.func310.trans (congrArg some (by kernel_rfl))
 f280:=Tryz.func311.trans (congrArg some (by kernel_rfl))
 f281:=Tryz.func312.trans (congrArg some (by kernel_rfl))
 f282:=Tryz.func313.trans (congrArg some (by kernel_rfl))
 f283:=Tryz.func305.trans (congrArg some (by kernel_rfl))
 f284:=Tryz.func306.trans (congrArg some (by kernel_rfl))
 f285:=Tryz.func307.trans (congrArg some (by kernel_rfl))
 f286:=Tryz.func308.trans (congrArg some (by kernel_rfl))
 f287:=Tryz.func327.trans (congrArg some (by kernel_rfl))
 f316:=Tryz.func328.trans (congrArg some (by kernel_rfl))
 f317:=Tryz.func323.trans (congrArg some (by kernel_rfl))
 f318:=Tryz.func324.trans (congrArg some (by kernel_rfl))
 f319:=Tryz.func325.trans (congrArg some (by kernel_rfl))
 f320:=Tryz.func326.trans (congrArg some (by kernel_rfl))
 f321:=Tryz.func335.trans (congrArg some (by kernel_rfl))
 f322:=Tryz.func336.trans (congrArg some (by kernel_rfl))
 f337:=Tryz.func333.trans (congrArg some (by kernel_rfl))
 f338:=Tryz.func334.trans (congrArg some (by kernel_rfl))
 t0:=Tryz.underlying0
 a0:=Tryz.isAgg0
 z0:=Tryz.sizeOf0
 v0:=Tryz.zeroValue0
 t2:=Tryz.underlying2
 a2:=Tryz.isAgg2
 z2:=Tryz.sizeOf2
 v2:=Tryz.zeroValue2
 t3:=Tryz.underlying3
 a3:=Tryz.isAgg3
 z3:=Tryz.sizeOf3
 v3:=Tryz.zeroValue3
 t4:=Tryz.underlying4
 a4:=Tryz.isAgg4
 z4:=Tryz.sizeOf4
 v4:=Tryz.zeroValue4
 t5:=Tryz.underlying5
 a5:=Tryz.isAgg5
 z5:=Tryz.sizeOf5
 v5:=Tryz.zeroValue5
 t9:=Tryz.underlying9
 a9:=Tryz.isAgg9
 z9:=Tryz.sizeOf9
 v9:=Tryz.zeroValue9
 t20:=Tryz.underlying20
 a20:=Tryz.isAgg20
 z20:=Tryz.sizeOf20
 v20:=Tryz.zeroValue20
 t21:=Tryz.underlying21
 a21:=Tryz.isAgg21
 z21:=Tryz.sizeOf21
 v21:=Tryz.zeroValue21
 t37:=Tryz.underlying126
 a37:=Tryz.isAgg126
 z37:=Tryz.sizeOf126
 v37:=Tryz.zeroValue126
 t46:=Tryz.underlying261
 a46:=Tryz.isAgg261
 z46:=Tryz.sizeOf261
 v46:=Tryz.zeroValue261
 t51:=Tryz.underlying317
 a51:=Tryz.isAgg317
 z51:=Tryz.sizeOf317
 v51:=Tryz.zeroValue317
 t53:=Tryz.underlying320
 a53:=Tryz.isAgg320
 z53:=Tryz.sizeOf320
 v53:=Tryz.zeroValue320
 t75:=Tryz.underlying164
 a75:=Tryz.isAgg164
 z75:=Tryz.sizeOf164
 v75:=Tryz.zeroValue164
 t76:=Tryz.underlying165
 a76:=Tryz.isAgg165
 z76:=Tryz.sizeOf165
 v76:=Tryz.zeroValue165
 t85:=Tryz.underlying389
 a85:=Tryz.isAgg389
 z85:=Tryz.sizeOf389
 v85:=Tryz.zeroValue389
 t127:=Tryz.underlying283
 a127:=Tryz.isAgg283
 z127:=Tryz.sizeOf283
 v127:=Tryz.zeroValue283
 t143:=Tryz.underlying415
 a143:=Tryz.isAgg415
 z143:=Tryz.sizeOf415
 v143:=Tryz.zeroValue415
 t145:=Tryz.underlying417
 a145:=Tryz.isAgg417
 z145:=Tryz.sizeOf417
 v145:=Tryz.zeroValue417
 t167:=Tryz.underlying388
 a167:=Tryz.isAgg388
 z167:=Tryz.sizeOf388
 v167:=Tryz.zeroValue388
 t168:=Tryz.underlying391
 a168:=Tryz.isAgg391
 z168:=Tryz.sizeOf391
 v168:=Tryz.zeroValue391
 t171:=Tryz.underlying384
 a171:=Tryz.isAgg384
 z171:=Tryz.sizeOf384
 v171:=Tryz.zeroValue384
 t173:=Tryz.underlying386
 a173:=Tryz.isAgg386
 z173:=Tryz.sizeOf386
 v173:=Tryz.zeroValue386
 t175:=Tryz.underlying403
 a175:=Tryz.isAgg403
 z175:=Tryz.sizeOf403
 v175:=Tryz.zeroValue403
 t210:=Tryz.underlying406
 a210:=Tryz.isAgg406
 z210:=Tryz.sizeOf406
 v210:=Tryz.zeroValue406
 t212:=Tryz.underlying401
 a212:=Tryz.isAgg401
 z212:=Tryz.sizeOf401
 v212:=Tryz.zeroValue401
 t213:=Tryz.underlying402
 a213:=Tryz.isAgg402
 z213:=Tryz.sizeOf402
 t232:=Tryz.underlying418
 a232:=Tryz.isAgg418
 z232:=Tryz.sizeOf418
 v232:=Tryz.zeroValue418
 t233:=Tryz.underlying419
 a233:=Tryz.isAgg419
 z233:=Tryz.sizeOf419
 v233:=Tryz.zeroValue419
 g15:=by kernel_rfl
 g16:=by kernel_rfl
 g17:=by kernel_rfl
 g18:=by kernel_rfl
 g19:=by kernel_rfl
 t80:=Tryz.underlying111
 a80:=Tryz.isAgg111
 z80:=Tryz.sizeOf111
 v80:=Tryz.zeroValue111
 i0:=by kernel_rfl
 i2:=by kernel_rfl
 i3:=by kernel_rfl
 i4:=by kernel_rfl
 i5:=by kernel_rfl
 i9:=by kernel_rfl
 i20:=by kernel_rfl
 i21:=by kernel_rfl
 i37:=by kernel_rfl
 i46:=by kernel_rfl
 i51:=by kernel_rfl
 i53:=by kernel_rfl
 i75:=by kernel_rfl
 i76:=by kernel_rfl
 i80:=by kernel_rfl
 i85:=by kernel_rfl
 i127:=by kernel_rfl
 i143:=by kernel_rfl
 i145:=by kernel_rfl
 i167:=by kernel_rfl
 i168:=by kernel_rfl
 i171:=by kernel_rfl
 i173:=by kernel_rfl
 i175:=by kernel_rfl
 i210:=by kernel_rfl
 i212:=by kernel_rfl
 i232:=by kernel_rfl
 i233:=by kernel_rfl
 m15:=by kernel_rfl
 m16:=by kernel_rfl
 m17:=by kernel_rfl
 m18:=by kernel_rfl
 m19:=by kernel_rfl
 c0:=by kernel_rfl
 c2:=by kernel_rfl
 c3:=by kernel_rfl
 c4:=by kernel_rfl
 c5:=by kernel_rfl
 c9:=by kernel_rfl
 c20:=by kernel_rfl
 c21:=by kernel_rfl
 c37:=by kernel_rfl
 c46:=by kernel_rfl
 c51:=by kernel_rfl
 c53:=by kernel_rfl
 c75:=by kernel_rfl
 c76:=by kernel_rfl
 c80:=by kernel_rfl
 c85:=by kernel_rfl
 c127:=by kernel_rfl
 c143:=by kernel_rfl
 c145:=by kernel_rfl
 c167:=by kernel_rfl
 c168:=by kernel_rfl
 c171:=by kernel_rfl
 c173:=by kernel_rfl
 c175:=by kernel_rfl
 c210:=by kernel_rfl
 c212:=by kernel_rfl
 c213:=by kernel_rfl
 c232:=by kernel_rfl
 c233:=by kernel_rfl }
open Go.RowKit in
theorem Tryz.strconv_Atoi_ok (s : ByteArray) (hmax : s.size ≤ 9223372036854775806) (v : Int) (h : Lib.atoiAll s.data.toList = .ok v) (w : World) :
    Calls Tryz.prog 239 #[.string s] w fun e w'=>e = .returned (.tuple #[.int .i64 v,.nilIface]) ∧ (w' = w ∨ ∃ t,w' = Lib.bytesWorld w 5 t):=Any.strconv_Atoi_ok Tryz.laysC172 s hmax v h w
def Tryz.lays217_ren:Go.Shelf.Ren:=⟨fun | 217=>223 | 266=>272 | n=>n,fun | 9=>9 | 5=>5 | 3=>3 | n=>n,fun | n=>n⟩
theorem Tryz.lays217:Go.Proofs.Lays.n217 Tryz.prog Tryz.lays217_ren:={
 mixed:=by kernel_rfl
 f217:=Tryz.func223.trans (congrArg some (by kernel_rfl))
 f266:=Tryz.func272.trans (congrArg some (by kernel_rfl))
 t3:=Tryz.underlying3
 a3:=Tryz.isAgg3
 z3:=Tryz.sizeOf3
 v3:=Tryz.zeroValue3
 t5:=Tryz.underlying5
 a5:=Tryz.isAgg5
 z5:=Tryz.sizeOf5
 v5:=Tryz.zeroValue5
 t9:=Tryz.underlying9
 a9:=Tryz.isAgg9
 z9:=Tryz.sizeOf9
 v9:=Tryz.zeroValue9 }
open Go.RowKit Go.Lib in
theorem Tryz.stringslite_IndexByte (s : ByteArray) (c : Int) (w : World) :
    Calls Tryz.prog 223 #[.string s,.int .u8 c] w fun e w'=>e = .returned (.int .i64 (Lib.indexByte s.data.toList c.toNat.toUInt8)) ∧ w' = w:=Any.stringslite_IndexByte Tryz.lays217 s c w
def Tryz.lays219_ren:Go.Shelf.Ren:=⟨fun | 219=>166 | 217=>223 | 225=>224 | 224=>225 | 267=>226 | 266=>272 | 314=>273 | n=>n,fun | 9=>9 | 3=>3 | 4=>4 | 5=>5 | 46=>261 | 146=>318 | 51=>317 | n=>n,fun | 1=>0 | n=>n⟩
theorem Tryz.lays219:Go.Proofs.Lays.n219 Tryz.prog Tryz.lays219_ren:={
 mixed:=by kernel_rfl
 f217:=Tryz.func223.trans (congrArg some (by kernel_rfl))
 f219:=Tryz.func166.trans (congrArg some (by kernel_rfl))
 f224:=Tryz.func225.trans (congrArg some (by kernel_rfl))
 f225:=Tryz.func224.trans (congrArg some (by kernel_rfl))
 f266:=Tryz.func272.trans (congrArg some (by kernel_rfl))
 f267:=Tryz.func226.trans (congrArg some (by kernel_rfl))
 f314:=Tryz.func273.trans (congrArg some (by kernel_rfl))
 t3:=Tryz.underlying3
 a3:=Tryz.isAgg3
 z3:=Tryz.sizeOf3
 v3:=Tryz.zeroValue3
 t4:=Tryz.underlying4
 a4:=Tryz.isAgg4
 z4:=Tryz.sizeOf4
 v4:=Tryz.zeroValue4
 t5:=Tryz.underlying5
 a5:=Tryz.isAgg5
 z5:=Tryz.sizeOf5
 v5:=Tryz.zeroValue5
 t9:=Tryz.underlying9
 a9:=Tryz.isAgg9
 z9:=Tryz.sizeOf9
 v9:=Tryz.zeroValue9
 t46:=Tryz.underlying261
 a46:=Tryz.isAgg261
 z46:=Tryz.sizeOf261
 v46:=Tryz.zeroValue261
 t51:=Tryz.underlying317
 a51:=Tryz.isAgg317
 z51:=Tryz.sizeOf317
 v51:=Tryz.zeroValue317
 t146:=Tryz.underlying318
 a146:=Tryz.isAgg318
 z146:=Tryz.sizeOf318
 v146:=Tryz.zeroValue318
 g1:=by kernel_rfl }
open Go.RowKit Go.Lib in
theorem Tryz.stringslite_Index_one (s : ByteArray) (c : UInt8) (w : World) :
    Calls Tryz.prog 166 #[.string s,.string ⟨#[c]⟩] w fun e w'=>e = .returned (.int .i64 (Lib.indexByte s.data.toList c)) ∧ w' = w:=Any.stringslite_Index_one Tryz.lays219 s c w
def Tryz.lays138_ren:Go.Shelf.Ren:=⟨fun | 138=>256 | 195=>296 | 218=>297 | 143=>72 | 219=>166 | 217=>223 | 225=>224 | 224=>225 | 267=>226 | 266=>272 | 314=>273 | n=>n,fun | 9=>9 | 3=>3 | 4=>4 | 5=>5 | 0=>0 | 46=>261 | 146=>318 | 51=>317 | n=>n,fun | 1=>0 | n=>n⟩
theorem Tryz.lays138:Go.Proofs.Lays.n138 Tryz.prog Tryz.lays138_ren:={
 mixed:=by kernel_rfl
 f138:=Tryz.func256.trans (congrArg some (by kernel_rfl))
 f143:=Tryz.func72.trans (congrArg some (by kernel_rfl))
 f195:=Tryz.func296.trans (congrArg some (by kernel_rfl))
 f217:=Tryz.func223.trans (congrArg some (by kernel_rfl))
 f218:=Tryz.func297.trans (congrArg some (by kernel_rfl))
 f219:=Tryz.func166.trans (congrArg some (by kernel_rfl))
 f224:=Tryz.func225.trans (congrArg some (by kernel_rfl))
 f225:=Tryz.func224.trans (congrArg some (by kernel_rfl))
 f266:=Tryz.func272.trans (congrArg some (by kernel_rfl))
 f267:=Tryz.func226.trans (congrArg some (by kernel_rfl))
 f314:=Tryz.func273.trans (congrArg some (by kernel_rfl))
 t0:=Tryz.underlying0
 a0:=Tryz.isAgg0
 z0:=Tryz.sizeOf0
 v0:=Tryz.zeroValue0
 t3:=Tryz.underlying3
 a3:=Tryz.isAgg3
 z3:=Tryz.sizeOf3
 v3:=Tryz.zeroValue3
 t4:=Tryz.underlying4
 a4:=Tryz.isAgg4
 z4:=Tryz.sizeOf4
 v4:=Tryz.zeroValue4
 t5:=Tryz.underlying5
 a5:=Tryz.isAgg5
 z5:=Tryz.sizeOf5
 v5:=Tryz.zeroValue5
 t9:=Tryz.underlying9
 a9:=Tryz.isAgg9
 z9:=Tryz.sizeOf9
 v9:=Tryz.zeroValue9
 t46:=Tryz.underlying261
 a46:=Tryz.isAgg261
 z46:=Tryz.sizeOf261
 v46:=Tryz.zeroValue261
 t51:=Tryz.underlying317
 a51:=Tryz.isAgg317
 z51:=Tryz.sizeOf317
 v51:=Tryz.zeroValue317
 t146:=Tryz.underlying318
 a146:=Tryz.isAgg318
 z146:=Tryz.sizeOf318
 v146:=Tryz.zeroValue318
 g1:=by kernel_rfl }
open Go.RowKit Go.Lib in
theorem Tryz.strings_Count_one (s : ByteArray) (c : UInt8) (w : World) :
    Calls Tryz.prog 256 #[.string s,.string ⟨#[c]⟩] w fun e w'=>e = .returned (.int .i64 (Lib.countByte s.data.toList c)) ∧ w' = w:=Any.strings_Count_one Tryz.lays138 s c w
def Tryz.lays105_ren:Go.Shelf.Ren:=⟨fun | 105=>73 | 212=>167 | 99=>168 | 165=>169 | 166=>97 | 170=>100 | 169=>101 | 263=>227 | 264=>228 | 206=>229 | 240=>180 | 241=>230 | 276=>236 | 277=>274 | n=>n,fun | 9=>9 | 3=>3 | 4=>4 | 20=>20 | 0=>0 | 46=>261 | 109=>262 | 5=>5 | 72=>162 | 76=>165 | 51=>317 | 146=>318 | 53=>320 | 148=>321 | 70=>160 | 37=>126 | 75=>164 | 127=>283 | 164=>326 | 80=>111 | n=>n,fun | n=>n⟩
theorem Tryz.lays105:Go.Proofs.Lays.n105 Tryz.prog Tryz.lays105_ren:={
 mixed:=by kernel_rfl
 f99:=Tryz.func168.trans (congrArg some (by kernel_rfl))
 f105:=Tryz.func73.trans (congrArg some (by kernel_rfl))
 f165:=Tryz.func169.trans (congrArg some (by kernel_rfl))
 f166:=Tryz.func97.trans (congrArg some (by kernel_rfl))
 f169:=Tryz.func101.trans (congrArg some (by kernel_rfl))
 f170:=Tryz.func100.trans (congrArg some (by kernel_rfl))
 f206:=Tryz.func229.trans (congrArg some (by kernel_rfl))
 f212:=Tryz.func167.trans (congrArg some (by kernel_rfl))
 f240:=Tryz.func180.trans (congrArg some (by kernel_rfl))
 f241:=Tryz.func230.trans (congrArg some (by kernel_rfl))
 f263:=Tryz.func227.trans (congrArg some (by kernel_rfl))
 f264:=Tryz.func228.trans (congrArg some (by kernel_rfl))
 f276:=Tryz.func236.trans (congrArg some (by kernel_rfl))
 f277:=Tryz.func274.trans (congrArg some (by kernel_rfl))
 t0:=Tryz.underlying0
 a0:=Tryz.isAgg0
 z0:=Tryz.sizeOf0
 v0:=Tryz.zeroValue0
 t3:=Tryz.underlying3
 a3:=Tryz.isAgg3
 z3:=Tryz.sizeOf3
 v3:=Tryz.zeroValue3
 t4:=Tryz.underlying4
 a4:=Tryz.isAgg4
 z4:=Tryz.sizeOf4
 v4:=Tryz.zeroValue4
 t5:=Tryz.underlying5
 a5:=Tryz.isAgg5
 z5:=Tryz.sizeOf5
 v5:=Tryz.zeroValue5
 t9:=Tryz.underlying9
 a9:=Tryz.isAgg9
 z9:=Tryz.sizeOf9
 v9:=Tryz.zeroValue9
 t20:=Tryz.underlying20
 a20:=Tryz.isAgg20
 z20:=Tryz.sizeOf20
 v20:=Tryz.zeroValue20
 t37:=Tryz.underlying126
 a37:=Tryz.isAgg126
 z37:=Tryz.sizeOf126
 v37:=Tryz.zeroValue126
 t46:=Tryz.underlying261
 a46:=Tryz.isAgg261
 z46:=Tryz.sizeOf261
 v46:=Tryz.zeroValue261
 t51:=Tryz.underlying317
 a51:=Tryz.isAgg317
 z51:=Tryz.sizeOf317
 v51:=Tryz.zeroValue317
 t53:=Tryz.underlying320
 a53:=Tryz.isAgg320
 z53:=Tryz.sizeOf320
 v53:=Tryz.zeroValue320
 t70:=Tryz.underlying160
 a70:=Tryz.isAgg160
 z70:=Tryz.sizeOf160
 v70:=Tryz.zeroValue160
 t72:=Tryz.underlying162
 a72:=Tryz.isAgg162
 z72:=Tryz.sizeOf162
 v72:=Tryz.zeroValue162
 t75:=Tryz.underlying164
 a75:=Tryz.isAgg164
 z75:=Tryz.sizeOf164
 v75:=Tryz.zeroValue164
 t76:=Tryz.underlying165
 a76:=Tryz.isAgg165
 z76:=Tryz.sizeOf165
 v76:=Tryz.zeroValue165
 t109:=Tryz.underlying262
 a109:=Tryz.isAgg262
 z109:=Tryz.sizeOf262
 v109:=Tryz.zeroValue262
 t127:=Tryz.underlying283
 a127:=Tryz.isAgg283
 z127:=Tryz.sizeOf283
 v127:=Tryz.zeroValue283
 t146:=Tryz.underlying318
 a146:=Tryz.isAgg318
 z146:=Tryz.sizeOf318
 v146:=Tryz.zeroValue318
 t148:=Tryz.underlying321
 a148:=Tryz.isAgg321
 z148:=Tryz.sizeOf321
 v148:=Tryz.zeroValue321
 t164:=Tryz.underlying326
 a164:=Tryz.isAgg326
 z164:=Tryz.sizeOf326
 v164:=Tryz.zeroValue326 }
theorem Tryz.Builder_Extra_105:Builder.Extra Tryz.prog Tryz.lays105_ren:={
 sizeBuilder:=by kernel_rfl
 liesBuilder:=by kernel_rfl
 t5:=Tryz.underlying5
 a5:=Tryz.isAgg5
 z5:=Tryz.sizeOf5
 v5:=Tryz.zeroValue5
 infoByte:=by kernel_rfl
 cellsByte:=by kernel_rfl
 sizeByte:=by kernel_rfl
 neB5:=by decide }
open Go.RowKit Go.Lib in
theorem Tryz.strings_Repeat (s : ByteArray) (c : Nat) (w : World) (hc : c ≤ 9223372036854775807) (hlen : s.size * c ≤ 140737488355328) :
    Calls Tryz.prog 73 #[.string s,.int .i64 c] w fun e w'=>e = .returned (.string ⟨(Lib.repeatL s.data.toList c).toArray⟩) ∧ Below w.heap.size w w':=Any.strings_Repeat Tryz.lays105 Tryz.Builder_Extra_105 s c w hc hlen
end Go.Proofs
namespace Go.Abs
open Go.Proofs
set_option linter.unusedSectionVars false
def idxB (c:Nat):List Nat → Nat → Int
 | [],_=>-1
 | x :: r,i=>bif Nat.beq x c then (i:Int) else idxB c r (i + 1)
def cntB (c:Nat):List Nat → Nat → Nat
 | [],n=>n
 | x :: r,n=>bif Nat.beq x c then cntB c r (n + 1) else cntB c r n
def digitsF:Nat → Nat → List Nat → List Nat
 | 0,_,acc=>acc
 | f + 1,n,acc=>bif Nat.ble n 9 then (48 + n) :: acc else digitsF f (n / 10) ((48 + n % 10) :: acc)
def itoaN (n:Int):List Nat:=match n with
 | .ofNat n=>digitsF 20 n []
 | .negSucc n=>45 :: digitsF 20 (n + 1) []
def joinN (sep:List Nat):List (List Nat) → List Nat
 | []=>[]
 | [s]=>s
 | s :: r=>s ++ (sep ++ joinN sep r)
def repN (s:List Nat):Nat → List Nat
 | 0=>[]
 | n + 1=>s ++ repN s n
section
variable [Gl] {P:Program}
theorem enters_fn {f : FuncId} {fn : Func} (h : P.funcs[f]? = some fn) (hs : (fn.body.isSome && (fn.name != "runtime.NumGoroutine")) = true) : Enters P f := by
 intro args w
 simp only [Bool.and_eq_true,bne_iff_ne] at hs
 cases hfb:fn.body with
 | none=>rw [hfb] at hs; simp at hs
 | some c=>simp [callFunc,h,hs.2,hfb]
theorem goodP_flat {f : FuncId} {args : List PV} {v : PV} (he : Enters P f)
    (h:∀ (w:World) (Imm:Nat → Prop) (cargs:List Value),(∀ k,Imm k → k < w.heap.size) → GlobOk P w Imm → PVVl P w Imm args cargs →
     Calls P f cargs.toArray w fun e w'=>∃ cv,e = .returned cv ∧ (w.heap.size ≤ w'.heap.size ∧ (∀ k,k < w.heap.size → w'.heap[k]? = w.heap[k]?) ∧ w'.os = w.os ∧ w'.output = w.output) ∧ ∀ (w:World) (Imm:Nat → Prop),PVV P w Imm v cv):GoodC P f args v:=by
 refine .inl ⟨he,fun w Imm cargs hb hg ha=>(h w Imm cargs hb hg ha).mono ?_⟩
 rintro e w' ⟨cv,rfl,⟨h1,h2,hio⟩,h3⟩
 exact ⟨cv,Imm,rfl,fun _ x=>x,fun _ x=>.inl x,fun k hk=>Nat.lt_of_lt_of_le (hb k hk) h1,h1,h2,hio,h3 _ _⟩
theorem PVVl_two {w:World} {Imm:Nat → Prop} {a b:PV} {cs:List Value} (h:PVVl P w Imm [a,b] cs):∃ x y,cs = [x,y] ∧ PVV P w Imm a x ∧ PVV P w Imm b y:=by
 simp only [PVVl] at h
 obtain ⟨x,xs,rfl,h1,y,ys,rfl,h2,rfl⟩:=h
 exact ⟨x,y,rfl,h1,h2⟩
theorem PVVl_one {w:World} {Imm:Nat → Prop} {a:PV} {cs:List Value} (h:PVVl P w Imm [a] cs):∃ x,cs = [x] ∧ PVV P w Imm a x:=by
 simp only [PVVl] at h
 obtain ⟨x,xs,rfl,h1,rfl⟩:=h
 exact ⟨x,rfl,h1⟩
def natsB (l:List UInt8):List Nat:=l.map (·.toNat)
theorem PVV_strB {w:World} {Imm:Nat → Prop} (l:List UInt8):PVV P w Imm (.str (natsB l)) (.string ⟨l.toArray⟩):=by
 simp only [PVV]; exact ⟨_,rfl,by simp [natsB]⟩
theorem idxB_lib (c:UInt8):∀ (l:List UInt8) (i:Nat),idxB c.toNat (natsB l) i = if Lib.indexByte l c = -1 then -1 else Lib.indexByte l c + i
 | [],i=>by simp [idxB,natsB,Lib.indexByte]
 | x :: r,i=>by
  have ih:=idxB_lib c r (i + 1)
  simp only [natsB] at ih
  simp only [natsB,List.map_cons,idxB,Lib.indexByte]
  by_cases hx:x = c
  · subst hx; simp
  · have hn:Nat.beq x.toNat c.toNat = false:=by
     cases hb:Nat.beq x.toNat c.toNat
     · rfl
     · exact (hx (UInt8.toNat_inj.1 (beq2 hb))).elim
    have hge:=Lib.indexByte_ge r c
    simp only [hn,cond_false,ih,beq_iff_eq,hx,if_false]
    by_cases h1:Lib.indexByte r c = -1
    · simp [h1]
    · rw [if_neg h1,if_neg h1]
      rw [if_neg (by omega)]
      omega
theorem cntB_lib (c:UInt8):∀ (l:List UInt8) (n:Nat),cntB c.toNat (natsB l) n = n + Lib.countByte l c
 | [],n=>by simp [cntB,natsB,Lib.countByte]
 | x :: r,n=>by
  have ih:=cntB_lib c r
  simp only [natsB] at ih
  simp only [natsB,List.map_cons,cntB,Lib.countByte,List.count_cons]
  by_cases hx:x = c
  · subst hx
    simp [ih,Lib.countByte]; omega
  · have hn:Nat.beq x.toNat c.toNat = false:=by
     cases hb:Nat.beq x.toNat c.toNat
     · rfl
     · exact (hx (UInt8.toNat_inj.1 (beq2 hb))).elim
    simp [hn,ih,Lib.countByte,hx]
end
section
variable [Gl]
theorem h223 (s:List Nat) (c:Nat) (hc:c < 256):GoodC Tryz.prog 223 [.str s,.int .u8 c] (.int .i64 (idxB c s 0)):=by
 refine goodP_flat (enters_fn Tryz.func223 (by kernel_rfl)) fun w Imm cargs _ _ ha=>?_
 obtain ⟨x,y,rfl,h1,h2⟩:=PVVl_two ha
 simp only [PVV] at h1 h2
 obtain ⟨bs,rfl,rfl⟩:=h1
 subst h2
 refine (Tryz.stringslite_IndexByte bs c w).mono ?_
 rintro e w' ⟨rfl,rfl⟩
 refine ⟨_,rfl,⟨Nat.le_refl _,fun _ _=>rfl,rfl,rfl⟩,fun w Imm=>?_⟩
 have e1:=idxB_lib (UInt8.ofNat c) bs.data.toList 0
 have e2:(UInt8.ofNat c).toNat = c:=by simp [UInt8.toNat_ofNat']; omega
 rw [e2] at e1
 simp only [PVV,natsB] at e1 ⊢
 rw [e1]
 have e3:((c:Int).toNat).toUInt8 = UInt8.ofNat c:=by simp
 rw [e3]
 have:=Lib.indexByte_ge bs.data.toList (UInt8.ofNat c)
 by_cases h:Lib.indexByte bs.data.toList (UInt8.ofNat c) = -1 <;> simp [h]
theorem one_byte {w:World} {Imm:Nat → Prop} {c:Nat} {v:Value} (h:PVV Tryz.prog w Imm (.str [c]) v):∃ b:UInt8,v = .string ⟨#[b]⟩ ∧ c = b.toNat:=by
 simp only [PVV] at h
 obtain ⟨bs,rfl,h⟩:=h
 match hb:bs.data.toList with
 | []=>rw [hb] at h; simp at h
 | [b] =>
  rw [hb] at h; simp at h
  refine ⟨b,?_,h⟩
  congr 1
  cases bs with
  | mk d=>simp at hb ⊢; exact Array.ext' (by simpa using hb)
 | a :: b :: r=>rw [hb] at h; simp at h
theorem h166 (s:List Nat) (c:Nat):GoodC Tryz.prog 166 [.str s,.str [c]] (.int .i64 (idxB c s 0)):=by
 refine goodP_flat (enters_fn Tryz.func166 (by kernel_rfl)) fun w Imm cargs _ _ ha=>?_
 obtain ⟨x,y,rfl,h1,h2⟩:=PVVl_two ha
 obtain ⟨b,rfl,rfl⟩:=one_byte h2
 simp only [PVV] at h1
 obtain ⟨bs,rfl,rfl⟩:=h1
 refine (Tryz.stringslite_Index_one bs b w).mono ?_
 rintro e w' ⟨rfl,rfl⟩
 refine ⟨_,rfl,⟨Nat.le_refl _,fun _ _=>rfl,rfl,rfl⟩,fun w Imm=>?_⟩
 have e1:=idxB_lib b bs.data.toList 0
 simp only [PVV,natsB] at e1 ⊢
 rw [e1]
 by_cases h:Lib.indexByte bs.data.toList b = -1 <;> simp [h]
theorem h256 (s:List Nat) (c:Nat):GoodC Tryz.prog 256 [.str s,.str [c]] (.int .i64 (cntB c s 0:Nat)):=by
 refine goodP_flat (enters_fn Tryz.func256 (by kernel_rfl)) fun w Imm cargs _ _ ha=>?_
 obtain ⟨x,y,rfl,h1,h2⟩:=PVVl_two ha
 obtain ⟨b,rfl,rfl⟩:=one_byte h2
 simp only [PVV] at h1
 obtain ⟨bs,rfl,rfl⟩:=h1
 refine (Tryz.strings_Count_one bs b w).mono ?_
 rintro e w' ⟨rfl,rfl⟩
 refine ⟨_,rfl,⟨Nat.le_refl _,fun _ _=>rfl,rfl,rfl⟩,fun w Imm=>?_⟩
 have e1:=cntB_lib b bs.data.toList 0
 simp only [PVV,natsB] at e1 ⊢
 rw [e1]; simp
end
end Go.Abs
namespace Go.Abs
open Go.Proofs
set_option linter.unusedSectionVars false
theorem u8_of (n:Nat) (h:n < 256):(UInt8.ofNat n).toNat = n:=by simp [UInt8.toNat_ofNat']; omega
theorem digitsF_lib:∀ (f n:Nat) (acc:List Nat),n < 10 ^ (f + 1) → digitsF (f + 1) n acc = natsB (Lib.decDigits n) ++ acc
 | 0,n,acc,h=>by
  have h9:n ≤ 9:=by simp at h; omega
  rw [Lib.decDigits,dif_pos (by omega)]
  simp only [digitsF,ble_of h9,cond_true,natsB,List.map_cons,List.map_nil,u8_of (48 + n) (by omega),List.singleton_append]
 | f + 1,n,acc,h=>by
  rw [Lib.decDigits,digitsF]
  by_cases h9:n ≤ 9
  · rw [dif_pos (by omega)]
    simp only [ble_of h9,cond_true,natsB,List.map_cons,List.map_nil,u8_of (48 + n) (by omega),List.singleton_append]
  · rw [dif_neg (by omega)]
    have hm:n % 10 < 10:=Nat.mod_lt _ (by omega)
    simp only [ble_not h9,cond_false]
    rw [digitsF_lib f (n / 10) _ (by rw [Nat.pow_succ] at h; omega)]
    simp only [natsB,List.map_append,List.map_cons,List.map_nil,u8_of (48 + n % 10) (by omega),List.append_assoc,List.singleton_append]
theorem itoaN_lib (n:Int) (h0:-9223372036854775808 ≤ n) (h1:n ≤ 9223372036854775807):itoaN n = natsB (Lib.itoa n):=by
 unfold itoaN Lib.itoa
 split
 · rename_i n
   have hn:¬ ((Int.ofNat n) < 0):=by simp
   rw [if_neg hn,digitsF_lib 19 n [] (by simp at h1 ⊢; omega)]
   simp
 · rename_i n
   rw [if_pos (Int.negSucc_lt_zero n),digitsF_lib 19 (n + 1) [] (by simp at h0 ⊢; omega)]
   simp [natsB,Int.natAbs]
theorem joinN_lib (sep:List UInt8):∀ (xs:List (List UInt8)),joinN (natsB sep) (xs.map natsB) = natsB (Lib.join xs sep)
 | []=>by simp [joinN,Lib.join_nil,natsB]
 | [x]=>by simp [joinN,Lib.join_one]
 | x :: y :: r=>by
  have ih:=joinN_lib sep (y :: r)
  rw [Lib.join_cons] at ih ⊢
  simp only [List.map_cons] at ih ⊢
  rw [joinN,ih]
  · simp [natsB,Lib.joinTail]
  · simp
theorem repN_lib (s:List UInt8):∀ n,repN (natsB s) n = natsB (Lib.repeatL s n)
 | 0=>by simp [repN,Lib.repeatL,natsB]
 | n + 1=>by
  have ih:=repN_lib s n
  simp only [natsB] at ih
  simp [repN,Lib.repeatL,natsB,ih]
theorem ofNat_natsB (l:List UInt8):(natsB l).map UInt8.ofNat = l:=by
 induction l with
 | nil=>rfl
 | cons a r ih=>simp only [natsB,List.map_cons] at ih ⊢; rw [ih]; simp
section
variable {P:Program} {w:World} {Imm:Nat → Prop}
theorem strs_of [Gl] : ∀ {l : List (List Nat)} {ns : List Nat} {css : List (List Value)}, PVCl P w Imm ns (l.map .str) css →
    ∃ xs:List ByteArray,css.flatten = xs.map .string ∧ l = xs.map (fun b=>natsB b.data.toList)
 | [],ns,css,h=>by
  have:=flatten_nil_of_PVCl h
  subst this; exact ⟨[],by simp,by simp⟩
 | s :: l,[],css,h=>by simp [PVCl] at h
 | s :: l,n :: ns,css,h=>by
  simp only [List.map_cons,PVCl,PVC] at h
  obtain ⟨c,cs,rfl,⟨bs,rfl,h1⟩,_,h2⟩:=h
  obtain ⟨xs,g1,g2⟩:=strs_of h2
  exact ⟨bs :: xs,by simp [g1],by simp [g2,h1,natsB]⟩
end
theorem h182 (n:Int) (h0:-9223372036854775808 ≤ n) (h1:n ≤ 9223372036854775807):GoodC Tryz.prog 182 [.int .i64 n] (.str (itoaN n)):=by
 refine goodP_flat (enters_fn Tryz.func182 (by kernel_rfl)) fun w Imm cargs _ hg ha=>?_
 obtain ⟨x,rfl,h2⟩:=PVVl_one ha
 simp only [PVV] at h2
 subst h2
 obtain ⟨_,T,hT⟩:=hg.raw 1 _ rfl
 refine (Tryz.strconv_Itoa n h0 h1 w ?_).mono ?_
 · have hn : Tryz.prog.globalNamed "internal/strconv.uint64pow10" = some 1 := by kernel_rfl
   simp only [Lib.TabIs,World.var?,hn,Option.bind_some,hT]
   rfl
 · rintro e w' ⟨rfl,k,os,rfl⟩
   refine ⟨_,rfl,⟨?_,fun k hk=>?_,rfl,rfl⟩,fun w Imm=>?_⟩
   · simp [Go.Sort.grow,World.drewN]
   · simp only [Go.Sort.grow]
     exact Array.getElem?_append_left hk
   · rw [itoaN_lib n h0 h1]; exact PVV_strB _
theorem h73 (s:List Nat) (c:Nat) (hc:c ≤ 9223372036854775807) (hl:s.length * c ≤ 140737488355328):GoodC Tryz.prog 73 [.str s,.int .i64 c] (.str (repN s c)):=by
 refine goodP_flat (enters_fn Tryz.func73 (by kernel_rfl)) fun w Imm cargs _ hg ha=>?_
 obtain ⟨x,y,rfl,h1,h2⟩:=PVVl_two ha
 simp only [PVV] at h1 h2
 obtain ⟨bs,rfl,rfl⟩:=h1
 subst h2
 refine (Tryz.strings_Repeat bs c w hc (by simpa using hl)).mono ?_
 rintro e w' ⟨rfl,hb⟩
 exact ⟨_,rfl,⟨hb.size,hb.block,hb.os,hb.output⟩,fun w Imm=>by
  have:=repN_lib bs.data.toList c
  simp only [natsB] at this
  rw [this]; exact PVV_strB _⟩
theorem h239 (s:List Nat) (v:Int) (h:Lib.atoiAll (s.map UInt8.ofNat) = .ok v) (hl:s.length ≤ 9223372036854775806):GoodC Tryz.prog 239 [.str s] (.tup [.int .i64 v,.nif]):=by
 refine goodP_flat (enters_fn Tryz.func239 (by kernel_rfl)) fun w Imm cargs _ hg ha=>?_
 obtain ⟨x,rfl,h1⟩:=PVVl_one ha
 simp only [PVV] at h1
 obtain ⟨bs,rfl,rfl⟩:=h1
 have e:=ofNat_natsB bs.data.toList
 simp only [natsB] at e
 rw [e] at h
 refine (Tryz.strconv_Atoi_ok bs (by simpa using hl) v h w).mono ?_
 rintro e w' ⟨rfl,hw⟩
 refine ⟨_,rfl,?_,fun w Imm=>by simp [PVV,PVVl]⟩
 rcases hw with rfl | ⟨t,rfl⟩
 · exact ⟨Nat.le_refl _,fun _ _=>rfl,rfl,rfl⟩
 · have hb:=Lib.bytesWorld_below w 5 t
   exact ⟨hb.size,hb.block,hb.os,hb.output⟩
theorem h159 (full:Bool) (l:List (List Nat)) (sep:List Nat) (hl:l.length ≤ 140737488355328) (hj:(joinN sep l).length ≤ 140737488355328):GoodC Tryz.prog 159 [.lst full (l.map .str),.str sep] (.str (joinN sep l)):=by
 refine goodP_flat (enters_fn Tryz.func159 (by kernel_rfl)) fun w Imm cargs hb hg ha=>?_
 obtain ⟨x,y,rfl,h1,h2⟩:=PVVl_two ha
 simp only [PVV] at h1 h2
 obtain ⟨sp,rfl,rfl⟩:=h2
 obtain ⟨blk,off,cap,esz,css,h3,h4,h5,h6,h7,spt,hspt,rfl⟩:=h1
 obtain ⟨xs,g1,g2⟩:=strs_of h3
 have hlen:(l.map PV.str).length = xs.length:=by rw [g2]; simp
 cases hxs:xs with
 | nil =>
  subst hxs
  have hl0:l = []:=by simpa using g2
  subst hl0
  refine (Tryz.strings_Join_none (some ⟨blk,off,spt⟩) cap sp w).mono ?_
  rintro e w' ⟨rfl,rfl⟩
  exact ⟨_,rfl,⟨Nat.le_refl _,fun _ _=>rfl,rfl,rfl⟩,fun w Imm=>by simpa [joinN,natsB] using PVV_strB (P:=Tryz.prog) (w:=w) (Imm:=Imm) []⟩
 | cons x0 r =>
  have hne:l.map PV.str ≠ []:=by rw [g2,hxs]; simp
  obtain rfl:spt = none:=hspt.resolve_right (by rw [hlen,hxs] at h7; simp at h7; omega)
  have hjn:=joinN_lib sp.data.toList (xs.map (·.data.toList))
  have e2:(xs.map (·.data.toList)).map natsB = l:=by rw [g2]; simp
  rw [e2] at hjn
  have hjn':joinN (sp.data.toList.map (·.toNat)) l = natsB (Lib.join (xs.map (·.data.toList)) sp.data.toList):=hjn
  rw [hlen]
  refine (Tryz.strings_Join blk off cap xs sp w (fun j x hx=>?_) (hb _ (h4 hne)) (by simp at hlen; omega) (by omega) ?_).mono ?_
  · have hjl:j < xs.length:=(List.getElem?_eq_some_iff.1 hx).1
    rw [g1] at h5
    have:=h5 j (by simpa using hjl)
    rw [this]
    simp [(List.getElem?_eq_some_iff.1 hx).2]
  · rw [hjn'] at hj; simpa [natsB] using hj
  · rintro e w' ⟨rfl,hbl⟩
    exact ⟨_,rfl,⟨hbl.size,hbl.block,hbl.os,hbl.output⟩,fun w Imm=>by rw [hjn']; exact PVV_strB _⟩
theorem h159n (sep:List Nat):GoodC Tryz.prog 159 [.nsl,.str sep] (.str []):=by
 refine goodP_flat (enters_fn Tryz.func159 (by kernel_rfl)) fun w Imm cargs hb hg ha=>?_
 obtain ⟨x,y,rfl,h1,h2⟩:=PVVl_two ha
 simp only [PVV] at h1 h2
 obtain ⟨sp,rfl,rfl⟩:=h2
 subst h1
 refine (Tryz.strings_Join_none none 0 sp w).mono ?_
 rintro e w' ⟨rfl,rfl⟩
 exact ⟨_,rfl,⟨Nat.le_refl _,fun _ _=>rfl,rfl,rfl⟩,fun w Imm=>by simpa [natsB] using PVV_strB (P:=Tryz.prog) (w:=w) (Imm:=Imm) []⟩
end Go.Abs
namespace Go.Abs
def splAux (c:Nat):List Nat → List Nat → List (List Nat)
 | cur,[]=>[cur]
 | cur,x :: s=>if x = c then cur :: splAux c [] s else splAux c (cur ++ [x]) s
def spl (c:Nat) (s:List Nat):List (List Nat):=splAux c [] s
def decV (a c:Nat):Nat:=a * 10 + (c - 48)
def valsT (l:List Int):List Nat:=joinN [44] (l.map itoaN)
theorem digitsF_len:∀ (f n:Nat) (acc:List Nat),(digitsF f n acc).length ≤ f + acc.length
 | 0,_,acc=>by simp [digitsF]
 | f + 1,n,acc=>by
  rw [digitsF,Bool.cond_eq_ite]
  split
  · simp only [List.length_cons]; omega
  · have:=digitsF_len f (n / 10) ((48 + n % 10) :: acc)
    simp only [List.length_cons] at this; omega
theorem itoaN_len (n:Int):(itoaN n).length ≤ 21:=by
 cases n with
 | ofNat n=>have:=digitsF_len 20 n []; simp only [itoaN,List.length_nil] at *; omega
 | negSucc n=>have:=digitsF_len 20 (n + 1) []; simp only [itoaN,List.length_cons,List.length_nil] at *; omega
theorem joinN_len {sep:List Nat} {m:Nat}:∀ {l:List (List Nat)},(∀ s ∈ l,s.length ≤ m) → (joinN sep l).length ≤ l.length * (m + sep.length)
 | [],_=>by simp [joinN]
 | [s],h=>by have:=h s List.mem_cons_self; simp only [joinN,List.length_cons,List.length_nil]; omega
 | s :: t :: r,h=>by
  have ih:=joinN_len (sep:=sep) (l:=t :: r) fun s hs=>h s (List.mem_cons_of_mem _ hs)
  have:=h s List.mem_cons_self
  rw [joinN]
  · rw [List.length_cons,Nat.add_mul,Nat.one_mul]
    simp only [List.length_append] at *
    omega
  · intro e; cases e
theorem valsT_len (l:List Int):(valsT l).length ≤ l.length * 22:=by
 have:=joinN_len (sep:=[44]) (m:=21) (l:=l.map itoaN) fun s hs=>by
  obtain ⟨n,_,rfl⟩:=List.mem_map.1 hs
  exact itoaN_len n
 simpa [valsT] using this
end Go.Abs
namespace Go.Abs
open Go.Proofs
set_option maxHeartbeats 4000000
set_option maxRecDepth 100000
theorem goodP_seq {P:Program} {f:FuncId} {pre post es:List PV} {v:PV} (h1:es = [] → GoodP P f (pre ++ .nsl :: post) v) (h2:GoodP P f (pre ++ .lst false es :: post) v):GoodP P f (pre ++ .seq es :: post) v:=by
 have split:∀ {w:World} {Imm:Nat → Prop} {xs:List Value} {pre:List PV},PVVl P w Imm (pre ++ .seq es :: post) xs → (es = [] ∧ PVVl P w Imm (pre ++ .nsl :: post) xs) ∨ PVVl P w Imm (pre ++ .lst false es :: post) xs:=by
  intro w Imm xs pre
  induction pre generalizing xs with
  | nil =>
   intro h
   simp only [List.nil_append,PVVl] at h ⊢
   obtain ⟨y,ys,e,h1,h2⟩:=h
   rcases PVV_seq.1 h1 with ⟨h0,h⟩ | h
   · exact .inl ⟨h0,y,ys,e,h,h2⟩
   · exact .inr ⟨y,ys,e,h,h2⟩
  | cons p pre ih =>
   intro h
   simp only [List.cons_append,PVVl] at h ⊢
   obtain ⟨y,ys,e,h1,h2⟩:=h
   rcases ih h2 with ⟨h0,h⟩ | h
   · exact .inl ⟨h0,y,ys,e,h1,h⟩
   · exact .inr ⟨y,ys,e,h1,h⟩
 refine ⟨h2.1,fun w Imm cargs k1 k2 k3=>?_⟩
 rcases split k3 with ⟨h0,h⟩ | h
 · exact (h1 h0).2 w Imm cargs k1 k2 h
 · exact h2.2 w Imm cargs k1 k2 h
theorem goodP_of_C {P:Program} {f:FuncId} {args:List PV} {v:PV} (he:Enters P f) (h:GoodC P f args v):GoodP P f args v:=by
 rcases h with h | h
 · exact h
 · refine ⟨he,fun w Imm cargs _ _ ha=>?_⟩
   obtain ⟨cv,k1,_⟩:=h w Imm cargs ha
   rw [he cargs.toArray w] at k1
   cases k1
theorem c_join (l:List (List Nat)) (sep:List Nat) (hl:l.length ≤ 1048576) (hj:(joinN sep l).length ≤ 140737488355328):GoodC Tryz.prog 159 [.seq (l.map .str),.str sep] (.str (joinN sep l)) :=
 .inl (goodP_seq (pre:=[]) (post:=[.str sep]) (fun h=>by
  have:l = []:=by simpa using h
  subst this
  exact goodP_of_C isF159.enters (h159n sep)) (goodP_of_C isF159.enters (h159 false l sep (by omega) hj)))
def inI (n:Int):Prop:=-9223372036854775808 ≤ n ∧ n ≤ 9223372036854775807
theorem c_mappedIS (l:List Int) (h:l.length ≤ 1048576) (hb:∀ n ∈ l,inI n):GoodC Tryz.prog 181 [.seq (l.map (.int .i64)),.func 182 [] []] (.seq ((l.map itoaN).map .str)):=by
 refine good_fn nf isF181 mix (by simp [Tryz.f181]) ?_
 simp [Tryz.f181]
 refine lp (α:=Nat) (fun i=>⟨[(10,.p (.int .i64 i)),(9,.p (.int .i64 l.length)),(8,.p (.seq (l.map (.int .i64)))),(5,.sl 0 i 1 0 i),(1,.p (.func 182 [] []))],[.arr .grow i 1 ((l.map fun n=>.p (.str (itoaN n))).take i)]⟩) (fun i=>i ≤ l.length) (fun i=>l.length - i) 0 (by simp) ?_
 rintro i k1
 by_cases hi:i < l.length
 · have hw:=wi1 (i:=i) (by omega)
   have ht:=take_next (fun n=>AV.p (.str (itoaN n))) hi
   have hn:=hb l[i] (List.getElem_mem hi)
   simp [hi]
   refine c1 (h182 l[i] hn.1 hn.2) ?_
   simp
   refine ⟨⟨by omega,by simp [maxL]; omega⟩,?_⟩
   exact rd (i + 1) hi (he:=by simp [hw]) (hh:=by simp [ht]) (hr2:=by simp [ht])
 · have:i = l.length:=by omega
   subst this
   simp
theorem c_values (l:List Int) (h:l.length ≤ 1048576) (hb:∀ n ∈ l,inI n):GoodC Tryz.prog 99 [.seq (l.map (.int .i64))] (.str (valsT l)):=by
 refine good_fn nf isF99 mix (by simp [Tryz.f99]) ?_
 simp [Tryz.f99]
 refine c2 (c_mappedIS l h hb) ?_
 simp
 refine c2 (c_join (l.map itoaN) [44] (by simpa using h) ?_) ?_ (h1:=by simp)
 · have:=valsT_len l
   simp only [valsT] at this; omega
 simp [valsT]
theorem c_mappedRS {g:FuncId} {F:RowD → List Nat} (l:List RowD) (h:l.length ≤ 1048576) (hg:∀ r ∈ l,GoodC Tryz.prog g [eRow r] (.str (F r))):GoodC Tryz.prog 190 [.seq (l.map eRow),.func g [] []] (.seq ((l.map F).map .str)):=by
 refine good_fn nf isF190 mix (by simp [Tryz.f190]) ?_
 simp [Tryz.f190]
 refine lp (α:=Nat) (fun i=>⟨[(10,.p (.int .i64 i)),(9,.p (.int .i64 l.length)),(8,.p (.seq (l.map eRow))),(5,.sl 0 i 1 0 i),(1,.p (.func g [] []))],[.arr .grow i 1 ((l.map fun r=>.p (.str (F r))).take i)]⟩) (fun i=>i ≤ l.length) (fun i=>l.length - i) 0 (by simp) ?_
 rintro i k1
 by_cases hi:i < l.length
 · have hw:=wi1 (i:=i) (by omega)
   have ht:=take_next (fun r=>AV.p (.str (F r))) hi
   simp [hi]
   refine c1 (hg l[i] (List.getElem_mem hi)) ?_
   simp
   refine ⟨⟨by omega,by simp [maxL]; omega⟩,?_⟩
   exact rd (i + 1) hi (he:=by simp [hw]) (hh:=by simp [ht]) (hr2:=by simp [ht])
 · have:i = l.length:=by omega
   subst this
   simp
end Go.Abs
namespace Go.Abs
open Go.Proofs
set_option maxHeartbeats 4000000
set_option maxRecDepth 100000
theorem idx_look (k:List Nat):∀ (l:List RowD) (j:Nat),(look l k = none ∧ idxFrom (keyIs k) l j = -1) ∨ ∃ i,∃ h:i < l.length,idxFrom (keyIs k) l j = (j:Int) + i ∧ look l k = some l[i].vals ∧ l[i].key = k
 | [],j=>.inl ⟨rfl,rfl⟩
 | r :: l,j=>by
  simp only [idxFrom,keyIs,look]
  by_cases h:r.key = k
  · right
    refine ⟨0,by simp,?_⟩
    simp [h]
  · rcases idx_look k l (j + 1) with ⟨h1,h2⟩ | ⟨i,hi,h1,h2,h3⟩
    · left
      simp [h,h1,h2]
    · right
      refine ⟨i + 1,by simpa using hi,?_⟩
      simp [h,h1,h2,h3]; omega
@[simp] theorem u8_eq:(Gl.u8:TypeId) = 5:=rfl
@[simp] theorem shp_strs {l:List (List Nat)}:allShp Tryz.prog 1 (List.map (AV.p ∘ PV.str) l):=shp_map fun x=>⟨by simp [shpA,shp],by simp [shpA,shp,shpSize]⟩
end Go.Abs
namespace Go.Abs
open Go.Proofs
set_option maxHeartbeats 4000000
set_option maxRecDepth 100000
@[simp] theorem shp_eBook {b:BookD}:shp (eBook b) = .agg 23:=rfl
@[simp] theorem shp_rBook {b:BookD}:shp (rBook b) = .agg 26:=rfl
end Go.Abs
namespace Go.Abs
open Go.Proofs
set_option maxHeartbeats 4000000
set_option maxRecDepth 100000
theorem splAux_at {c:Nat} {s:List Nat} {i:Nat} (hi:i < s.length) (cur:List Nat):splAux c cur (s.drop i) = if s[i] = c then cur :: splAux c [] (s.drop (i + 1)) else splAux c (cur ++ [s[i]]) (s.drop (i + 1)):=by
 rw [List.drop_eq_getElem_cons hi,splAux]
theorem cut_next {s:List Nat} {j i:Nat} (hj:j ≤ i) (hi:i < s.length):(s.drop j).take (i - j) ++ [s[i]] = (s.drop j).take (i + 1 - j):=by
 have e:i + 1 - j = (i - j) + 1:=by omega
 have h:i - j < (s.drop j).length:=by simp; omega
 rw [e,List.take_succ_eq_append_getElem h]
 congr 2
 rw [List.getElem_drop]
 congr 1; omega
theorem c_splitR (s:List Nat) (c:Nat) (h:s.length ≤ 1048576) (hc:c < 256):GoodC Tryz.prog 109 [.str s,.int .u8 c] (.seq ((spl c s).map .str)):=by
 refine good_fn nf isF109 mix (by simp [Tryz.f109]) ?_
 simp [Tryz.f109]
 refine lp (α:=Nat × Nat × List (List Nat)) (fun (i,j,out)=>⟨[(7,.p (.int .i64 i)),(6,.p (.int .i64 j)),(5,.sl 0 out.length 1 0 out.length),(1,.p (.int .u8 c)),(0,.p (.str s))],[.arr .grow out.length 1 (out.map fun x=>.p (.str x))]⟩)
  (fun (i,j,out)=>j ≤ i ∧ out.length ≤ i ∧ ((i ≤ s.length ∧ out ++ splAux c ((s.drop j).take (i - j)) (s.drop i) = spl c s) ∨ (i = s.length + 1 ∧ out = spl c s))) (fun (i,_)=>s.length + 1 - i) (0,0,[]) (by simp [spl]) ?_
 rintro ⟨i,j,out⟩ ⟨h1,h2,h3⟩
 dsimp only at h1 h2 h3 ⊢
 have hw:=wi1 (i:=i) (by omega)
 rcases h3 with ⟨h3,h4⟩ | ⟨h3,h4⟩
 · have q1:(i:Int) ≤ (s.length:Int):=by omega
   by_cases hi:i < s.length
   · have q2:¬ (i:Int) = (s.length:Int):=by omega
     rw [splAux_at hi] at h4
     have hcut:=cut_next h1 hi
     by_cases he:s[i] = c
     · rw [if_pos he] at h4
       have he':((s[i]:Nat):Int) = (c:Int):=by rw [he]
       simp [q1,q2,hi,he',hw]
       refine ⟨⟨by omega,h1⟩,by simp only [maxL]; omega,?_⟩
       have hd:(s.take i).drop j = (s.drop j).take (i - j):=by rw [List.drop_take]
       exact rd (i + 1,i + 1,out ++ [(s.drop j).take (i - j)]) ⟨by dsimp only; omega,by simp; omega,.inl ⟨hi,by simpa using h4⟩⟩ (h1:=by dsimp only; omega) (hh:=by simp [hd])
     · rw [if_neg he,hcut] at h4
       have he':¬ ((s[i]:Nat):Int) = (c:Int):=by omega
       simp [q1,q2,hi,he',hw]
       exact rd (i + 1,j,out) ⟨by dsimp only; omega,by dsimp only; omega,.inl ⟨hi,h4⟩⟩ (h1:=by dsimp only; omega)
   · have hi:i = s.length:=by omega
     subst hi
     have q2:(s.length:Int) ≤ (s.length:Int):=by omega
     rw [List.drop_length,splAux,List.take_of_length_le (by simp)] at h4
     simp [hw]
     refine ⟨h1,by simp only [maxL]; omega,?_⟩
     exact rd (s.length + 1,s.length + 1,out ++ [s.drop j]) ⟨by dsimp only; omega,by simp; omega,.inr ⟨rfl,h4⟩⟩ (h1:=by dsimp only; omega)
 · subst h3
   have q1:¬ ((s.length:Int) + 1 ≤ (s.length:Int)):=by omega
   simp [q1,h4]
end Go.Abs
namespace Go.Abs
def low:Nat → Nat → List Nat
 | 0,_=>[]
 | i + 1,n=>(48 + n / 10 ^ i % 10) :: low i n
def nd (n:Nat):Nat:=if h:n = 0 then 0 else nd (n / 10) + 1
 decreasing_by omega
theorem nd_lt:∀ (i n:Nat),i < nd n ↔ 10 ^ i ≤ n
 | 0,n=>by
  rw [nd]; split
  · subst n; simp
  · simp; omega
 | i + 1,n=>by
  rw [nd]; split
  · rename_i h
    subst h
    have:=Nat.pow_pos (n:=i + 1) (show 0 < 10 by omega)
    constructor
    · intro h; omega
    · intro h; omega
  · have:=nd_lt i (n / 10)
    rw [Nat.le_div_iff_mul_le (by omega),← Nat.pow_succ] at this
    rw [← this]; omega
theorem low_app (b n:Nat):∀ a,low (a + b) n = low a (n / 10 ^ b) ++ low b n
 | 0=>by simp [low]
 | a + 1=>by
  rw [show a + 1 + b = (a + b) + 1 by omega,low,low,low_app b n a,Nat.div_div_eq_div_mul,← Nat.pow_add,Nat.add_comm b a]; rfl
theorem low_mod (n k:Nat):∀ b,b ≤ k → low b (n % 10 ^ k) = low b n
 | 0,_=>rfl
 | b + 1,h=>by
  have e:k = b + (k - b - 1 + 1):=by omega
  have h1:n % 10 ^ k / 10 ^ b = n / 10 ^ b % 10 ^ (k - b - 1 + 1):=by
   conv=>lhs; rw [e,Nat.pow_add]
   rw [Nat.mod_mul_right_div_self]
  rw [low,low,low_mod n k b (by omega),h1,Nat.mod_mod_of_dvd _ (Nat.pow_dvd_pow 10 (show 1 ≤ k - b - 1 + 1 by omega) |> fun h=>by simpa using h)]
theorem nd_eq {n m:Nat} (h:∀ i,i < nd n ↔ i < m):nd n = m:=by
 have h1:=h m
 have h2:=h (nd n)
 omega
theorem nd_add {n k:Nat} (h:10 ^ k ≤ n):nd n = nd (n / 10 ^ k) + k:=by
 refine nd_eq fun i=>?_
 rw [nd_lt]
 by_cases hi:i < k
 · have:=Nat.pow_le_pow_right (show 0 < 10 by omega) (Nat.le_of_lt hi)
   constructor
   · intro _; omega
   · intro _; omega
 · obtain ⟨j,rfl⟩:∃ j,i = j + k:=⟨i - k,by omega⟩
   rw [Nat.pow_add,← Nat.le_div_iff_mul_le (Nat.pow_pos (by omega)),← nd_lt]; omega
theorem nd_le {n k:Nat} (h:n < 10 ^ k):nd n ≤ k:=by
 rcases Nat.lt_or_ge k (nd n) with h1 | h1
 · rw [nd_lt] at h1; omega
 · exact h1
theorem nd_pos {n:Nat} (h:0 < n):0 < nd n:=by rw [nd_lt,Nat.pow_zero]; exact h
theorem low_join {M:Nat} (h:10 ^ 9 ≤ M):low (nd M) M = low (nd (M / 10 ^ 9)) (M / 10 ^ 9) ++ low 9 (M % 10 ^ 9):=by
 rw [nd_add h,low_app,low_mod _ _ _ (Nat.le_refl 9)]
theorem digitsF_low:∀ (f n:Nat) (acc:List Nat),n < 10 ^ (f + 1) → digitsF (f + 1) n acc = low (max 1 (nd n)) n ++ acc
 | f,n,acc,h=>by
  rw [digitsF,Bool.cond_eq_ite]
  split
  · rename_i h9
    rw [Nat.ble_eq] at h9
    have:=nd_le (n:=n) (k:=1) (by simp; omega)
    have e:max 1 (nd n) = 1:=by omega
    rw [e]; simp [low]; omega
  · rename_i h9
    rw [Nat.ble_eq] at h9
    match f,h with
    | 0,h=>simp at h; omega
    | f + 1,h =>
     have h1:n / 10 < 10 ^ (f + 1):=by rw [Nat.div_lt_iff_lt_mul (by omega),← Nat.pow_succ]; exact h
     have h2:=nd_add (n:=n) (k:=1) (by simp; omega)
     have h3:=nd_pos (n:=n / 10) (by omega)
     rw [Nat.pow_one] at h2
     rw [digitsF_low f _ _ h1]
     have e1:max 1 (nd (n / 10)) = nd (n / 10):=by omega
     have e2:max 1 (nd n) = nd (n / 10) + 1:=by omega
     rw [e1,e2,low_app]
     simp [low]
theorem itoaN_nat {n:Nat} (h:n < 10 ^ 20):itoaN n = low (max 1 (nd n)) n:=by
 show digitsF 20 n [] = _
 rw [digitsF_low 19 n [] h,List.append_nil]
theorem itoaN_neg {n:Nat} (h:n < 10 ^ 20) (h0:0 < n):itoaN (-(n:Int)) = 45 :: low (nd n) n:=by
 obtain ⟨m,rfl⟩:∃ m,n = m + 1:=⟨n - 1,by omega⟩
 have e:(-((m + 1:Nat):Int)) = Int.negSucc m:=rfl
 have h3:=nd_pos h0
 have e1:max 1 (nd (m + 1)) = nd (m + 1):=by omega
 rw [e]
 show 45 :: digitsF 20 (m + 1) [] = _
 rw [digitsF_low 19 (m + 1) [] h,List.append_nil,e1]
def d9 (n:Nat):List Nat:=if h:n = 0 then [] else n % 10 ^ 9 :: d9 (n / 10 ^ 9)
 decreasing_by omega
theorem d9_lt:∀ (i n:Nat),i < (d9 n).length ↔ (10 ^ 9) ^ i ≤ n
 | 0,n=>by
  rw [d9]; split
  · subst n; simp
  · simp; omega
 | i + 1,n=>by
  rw [d9]; split
  · rename_i h
    subst h
    have:=Nat.pow_pos (n:=i + 1) (show 0 < 10 ^ 9 by omega)
    constructor
    · intro h; simp at h
    · intro h; omega
  · have:=d9_lt i (n / 10 ^ 9)
    rw [Nat.le_div_iff_mul_le (by omega),← Nat.pow_succ] at this
    rw [← this,List.length_cons]; omega
theorem d9_get:∀ (i n:Nat) (h:i < (d9 n).length),(d9 n)[i] = n / (10 ^ 9) ^ i % 10 ^ 9
 | 0,n,h=>by
  have h0:¬ n = 0:=by intro e; subst e; rw [d9] at h; simp at h
  have e:d9 n = n % 10 ^ 9 :: d9 (n / 10 ^ 9):=by rw [d9,dif_neg h0]
  simp only [e,List.getElem_cons_zero,Nat.pow_zero,Nat.div_one]
 | i + 1,n,h=>by
  have h0:¬ n = 0:=by intro e; subst e; rw [d9] at h; simp at h
  have e:d9 n = n % 10 ^ 9 :: d9 (n / 10 ^ 9):=by rw [d9,dif_neg h0]
  simp only [e,List.getElem_cons_succ]
  rw [d9_get i (n / 10 ^ 9) (by rw [e] at h; simpa using h),Nat.div_div_eq_div_mul,← Nat.pow_succ']
theorem d9_len {n k:Nat} (h:n < (10 ^ 9) ^ k):(d9 n).length ≤ k:=by
 rcases Nat.lt_or_ge k (d9 n).length with h1 | h1
 · rw [d9_lt] at h1; omega
 · exact h1
end Go.Abs
namespace Go.Abs
open Go.Proofs
set_option maxHeartbeats 4000000
set_option maxRecDepth 100000
theorem dig_slice:∀ d:Nat,d < 10 → (48 :: ([49,50,51,52,53,54,55,56,57]:List Nat).take d).drop d = [48 + d]:=by decide
theorem c_decimal (n w:Nat) (hn:n < 10 ^ 18) (hw:w ≤ 9):GoodC Tryz.prog 298 [.int .i64 n,.int .i64 w] (.str (low (max w (nd n)) n)):=by
 refine good_fn nf isF298 mix (by simp [Tryz.f298]) ?_
 simp [Tryz.f298]
 have h18:=nd_le hn
 refine lp (α:=Nat × Nat) (fun (i,m)=>⟨[(5,.p (.str (low i n))),(1,.p (.int .i64 w)),(0,.p (.int .i64 m))],[]⟩) (fun (i,m)=>i ≤ max w (nd n) ∧ m = n / 10 ^ i) (fun (i,_)=>max w (nd n) - i) (0,n) (by simp) ?_ (he:=by simp [low])
 rintro ⟨i,m⟩ ⟨h1,h2⟩
 dsimp only at h1 h2 ⊢
 have hl:(low i n).length = i:=by
  clear h1 h2
  induction i with
  | zero=>rfl
  | succ i ih=>simp [low,ih]
 have hp:(0 < m) ↔ i < nd n:=by rw [h2,nd_lt,Nat.div_pos_iff]; have:=Nat.pow_pos (n:=i) (show 0 < 10 by omega); omega
 have hb:m ≤ n:=by rw [h2]; exact Nat.div_le_self _ _
 have hnext:m / 10 = n / 10 ^ (i + 1):=by rw [h2,Nat.pow_succ,Nat.div_div_eq_div_mul]
 have hlow:low (i + 1) n = (48 + m % 10) :: low i n:=by rw [h2]; rfl
 clear h2
 have e1:(m:Int).tmod 10 = (m:Int) % 10:=Int.tmod_eq_emod_of_nonneg (by omega)
 have e2:(m:Int).tdiv 10 = (m:Int) / 10:=Int.tdiv_eq_ediv_of_nonneg (by omega)
 have e3:IntKind.i64.wrap ((m:Int) / 10) = (m:Int) / 10:=wi64 _ (by omega) (by omega)
 have e4:IntKind.i64.wrap ((m:Int) % 10 + 1) = (m:Int) % 10 + 1:=wi64 _ (by omega) (by omega)
 have e5:=dig_slice (m % 10) (by omega)
 have e6:((m:Int) % 10 + 1).toNat = m % 10 + 1:=by omega
 have e7:((m:Int) % 10).toNat = m % 10:=by omega
 by_cases q1:0 < m
 · have q1':(0:Int) < (m:Int):=by omega
   have hi:i < max w (nd n):=by omega
   simp [q1,q1',e1,e2,e3,e4,e5,e6,e7,hl]
   refine ⟨by omega,by omega,?_⟩
   exact rd (i + 1,m / 10) ⟨hi,hnext⟩ (h1:=by dsimp only; omega) (he:=by simp [hlow])
 · have q1':¬ (0:Int) < (m:Int):=by omega
   by_cases q2:i < w
   · have q2':(i:Int) < (w:Int):=by omega
     have hi:i < max w (nd n):=by omega
     simp [q1,q1',q2,q2',e1,e2,e3,e4,e5,e6,e7,hl]
     refine ⟨by omega,by omega,?_⟩
     exact rd (i + 1,m / 10) ⟨hi,hnext⟩ (h1:=by dsimp only; omega) (he:=by simp [hlow])
   · have q2':¬ (i:Int) < (w:Int):=by omega
     have hi:max w (nd n) = i:=by omega
     simp [q1,q1',q2,q2',hl,hi]
def eInt (neg:Bool) (l:List Nat):PV:=.st 345 [.bool neg,.seq (l.map fun (x:Nat)=>.int .i64 x)]
theorem c_trim (l:List Nat) (h:l.length ≤ 100) (hl:∀ h:l ≠ [],l.getLast h ≠ 0):GoodC Tryz.prog 321 [.seq (l.map fun (x:Nat)=>.int .i64 x)] (.seq (l.map fun (x:Nat)=>.int .i64 x)):=by
 refine good_fn nf isF321 mix (by simp [Tryz.f321]) ?_
 simp [Tryz.f321]
 refine lp (α:=Unit) (fun _=>⟨[(0,.p (.seq (l.map fun (x:Nat)=>.int .i64 x)))],[]⟩) (fun _=>True) (fun _=>0) () trivial ?_
 rintro _ _
 by_cases h0:l = []
 · subst h0
   simp
 · have hp:0 < l.length:=List.length_pos_iff.2 h0
   have q1:(0:Int) < (l.length:Int):=by omega
   have e1:IntKind.i64.wrap ((l.length:Int) - 1) = (l.length:Int) - 1:=wi64 _ (by omega) (by omega)
   have e2:((l.length:Int) - 1).toNat = l.length - 1:=by omega
   have e3:l[l.length - 1]? = some (l.getLast h0):=by rw [← List.getLast?_eq_getElem?,List.getLast?_eq_some_getLast h0]
   have e4:((l.getLast h0:Nat):Int) ≠ 0:=by have:=hl h0; omega
   simp [q1,hp,e1,e2,e3,e4]
   exact ⟨by omega,fun e=>(hl h0 e).elim⟩
theorem c_signed (neg:Bool) (l:List Nat) (h:l.length ≤ 100) (hl:∀ h:l ≠ [],l.getLast h ≠ 0) (hn:l = [] → neg = false):GoodC Tryz.prog 299 [.bool neg,.seq (l.map fun (x:Nat)=>.int .i64 x)] (eInt neg l):=by
 refine good_fn nf isF299 mix (by simp [Tryz.f299]) ?_
 simp [Tryz.f299]
 refine c1 (c_trim l h hl) ?_
 cases neg
 · simp [eInt]
 · have h0:l ≠ []:=fun e=>by simpa using hn e
   have hp:0 < l.length:=List.length_pos_iff.2 h0
   simp [eInt,hp]
theorem d9_last {n:Nat} (h:d9 n ≠ []):(d9 n).getLast h ≠ 0:=by
 have hp:0 < (d9 n).length:=List.length_pos_iff.2 h
 have h1:=(d9_lt ((d9 n).length - 1) n).1 (by omega)
 have h2:¬ (10 ^ 9) ^ (d9 n).length ≤ n:=by rw [← d9_lt]; omega
 rw [List.getLast_eq_getElem,d9_get]
 have e:(d9 n).length = (d9 n).length - 1 + 1:=by omega
 rw [e,Nat.pow_succ] at h2
 have h3:n / (10 ^ 9) ^ ((d9 n).length - 1) < 10 ^ 9:=by rw [Nat.div_lt_iff_lt_mul (Nat.pow_pos (by omega)),Nat.mul_comm]; omega
 rw [Nat.mod_eq_of_lt h3]
 have:=Nat.div_pos h1 (Nat.pow_pos (by omega))
 omega
theorem d9_step {m:Nat} (h:0 < m):d9 m = m % 1000000000 :: d9 (m / 1000000000):=by
 rw [d9,dif_neg (by omega)]
theorem c_whole (n:Int) (hn:inI n):GoodC Tryz.prog 258 [.int .i64 n] (eInt (decide (n < 0)) (d9 n.natAbs)):=by
 refine good_fn nf isF258 mix (by simp [Tryz.f258]) ?_
 by_cases h0:n < 0
 · obtain ⟨k,rfl⟩:∃ k:Nat,n = -(k:Int):=⟨n.natAbs,by omega⟩
   have ek:(-(k:Int)).natAbs = k:=by omega
   have hkp:0 < k:=by omega
   have hL:(d9 k).length ≤ 3:=d9_len (by have:=hn.1; have:=hn.2; simp; omega)
   have hlast:∀ h:d9 k ≠ [],(d9 k).getLast h ≠ 0:=fun h=>d9_last h
   rw [ek]
   have hs:=c_signed true (d9 k) (by omega) hlast (fun e=>by rw [d9_step (by omega)] at e; cases e)
   simp [Tryz.f258,h0]
   refine lp (α:=Nat × List Nat) (fun (m,out)=>⟨[(4,.p (.bool true)),(3,.sl 1 out.length 1 0 out.length),(2,.ptr 0 []),(0,.p (.int .i64 (-(m:Int))))],[.box false (.p (.st 345 [.bool false,.nsl])),.arr .grow out.length 1 (out.map fun (x:Nat)=>.p (.int .i64 x))]⟩)
    (fun (m,out)=>m ≤ k ∧ out ++ d9 m = d9 k) (fun (m,_)=>m) (k,[]) (by simp) ?_ (he:=by simp [hkp])
   rintro ⟨m,out⟩ ⟨h1,h2⟩
   dsimp only at h1 h2 ⊢
   have hk:(k:Int) ≤ 9223372036854775808:=by have:=hn.1; omega
   have hol:out.length ≤ 3:=by have:=congrArg List.length h2; rw [List.length_append] at this; omega
   by_cases hm:m = 0
   · subst hm
     have e0:d9 0 = []:=by rw [d9,dif_pos rfl]
     rw [e0,List.append_nil] at h2
     subst h2
     clear h1 e0
     simp [h0]
     generalize d9 k = l at *
     cases l with
     | nil =>
      refine cp (h1:=?g1) hs (by simp; exact ⟨rfl,rfl⟩) ?_
      case g1=>simp
      simp [eInt,hkp]
     | cons x r =>
      refine cp (h1:=?g2) hs (by simp; exact ⟨rfl,rfl⟩) ?_
      case g2=>simp
      simp [eInt,hkp]
   · have hm':¬ (m:Int) = 0:=by omega
     have e1:(-(m:Int)).tmod 1000000000 = -((m:Int) % 1000000000):=by rw [Int.neg_tmod,Int.tmod_eq_emod_of_nonneg (by omega)]
     have e2:(-(m:Int)).tdiv 1000000000 = -((m:Int) / 1000000000):=by rw [Int.neg_tdiv,Int.tdiv_eq_ediv_of_nonneg (by omega)]
     have e3:IntKind.i64.wrap (-((m:Int) / 1000000000)) = -((m:Int) / 1000000000):=wi64 _ (by omega) (by omega)
     have e5:IntKind.i64.wrap ((m:Int) % 1000000000) = (m:Int) % 1000000000:=wi64 _ (by omega) (by omega)
     rw [d9_step (by omega)] at h2
     by_cases e4:(0:Int) < (m:Int) % 1000000000
     · simp [hm,hm',e1,e2,e3,e4,e5]
       refine ⟨by simp only [maxL]; omega,?_⟩
       exact rd (m / 1000000000,out ++ [m % 1000000000]) ⟨by dsimp only; omega,by simpa using h2⟩ (h1:=by dsimp only; omega)
     · have e6:(m:Int) % 1000000000 = 0:=by omega
       have e7:m % 1000000000 = 0:=by omega
       rw [e7] at h2
       simp [hm,hm',e1,e2,e3,e6]
       refine ⟨by simp only [maxL]; omega,?_⟩
       exact rd (m / 1000000000,out ++ [0]) ⟨by dsimp only; omega,by simpa using h2⟩ (h1:=by dsimp only; omega)
 · obtain ⟨k,rfl⟩:∃ k:Nat,n = k:=⟨n.natAbs,by omega⟩
   have ek:(k:Int).natAbs = k:=by omega
   have hL:(d9 k).length ≤ 3:=d9_len (by have:=hn.1; have:=hn.2; simp; omega)
   have hlast:∀ h:d9 k ≠ [],(d9 k).getLast h ≠ 0:=fun h=>d9_last h
   rw [ek]
   have hs:=c_signed false (d9 k) (by omega) hlast (fun _=>rfl)
   simp [Tryz.f258,h0]
   refine lp (α:=Nat × List Nat) (fun (m,out)=>⟨[(4,.p (.bool false)),(3,.sl 1 out.length 1 0 out.length),(2,.ptr 0 []),(0,.p (.int .i64 m))],[.box false (.p (.st 345 [.bool false,.nsl])),.arr .grow out.length 1 (out.map fun (x:Nat)=>.p (.int .i64 x))]⟩)
    (fun (m,out)=>m ≤ k ∧ out ++ d9 m = d9 k) (fun (m,_)=>m) (k,[]) (by simp) ?_
   rintro ⟨m,out⟩ ⟨h1,h2⟩
   dsimp only at h1 h2 ⊢
   have hk:(k:Int) ≤ 9223372036854775807:=hn.2
   have hol:out.length ≤ 3:=by have:=congrArg List.length h2; rw [List.length_append] at this; omega
   by_cases hm:m = 0
   · subst hm
     have e0:d9 0 = []:=by rw [d9,dif_pos rfl]
     rw [e0,List.append_nil] at h2
     subst h2
     clear h1 e0
     simp [h0]
     generalize d9 k = l at *
     cases l with
     | nil =>
      refine cp (h1:=?g1) hs (by simp; exact ⟨rfl,rfl⟩) ?_
      case g1=>simp
      simp [eInt]
     | cons x r =>
      refine cp (h1:=?g2) hs (by simp; exact ⟨rfl,rfl⟩) ?_
      case g2=>simp
      simp [eInt]
   · have hm':¬ (m:Int) = 0:=by omega
     have e1:(m:Int).tmod 1000000000 = (m:Int) % 1000000000:=Int.tmod_eq_emod_of_nonneg (by omega)
     have e2:(m:Int).tdiv 1000000000 = (m:Int) / 1000000000:=Int.tdiv_eq_ediv_of_nonneg (by omega)
     have e3:IntKind.i64.wrap ((m:Int) / 1000000000) = (m:Int) / 1000000000:=wi64 _ (by omega) (by omega)
     have e4:¬ (m:Int) % 1000000000 < 0:=by omega
     rw [d9_step (by omega)] at h2
     simp [hm,hm',e1,e2,e3,e4]
     refine ⟨by simp only [maxL]; omega,?_⟩
     exact rd (m / 1000000000,out ++ [m % 1000000000]) ⟨by dsimp only; omega,by simpa using h2⟩ (h1:=by dsimp only; omega)
end Go.Abs
namespace Go.Abs
open Go.Proofs
set_option maxHeartbeats 4000000
set_option maxRecDepth 100000
theorem low_len (n:Nat):∀ i,(low i n).length = i
 | 0=>rfl
 | i + 1=>by simp [low,low_len n i]
theorem c_text (neg:Bool) (n:Nat) (hn:n < 10 ^ 20):GoodC Tryz.prog 257 [eInt neg (d9 n)] (.str (if n = 0 then [48] else if neg = true then 45 :: low (nd n) n else low (nd n) n)):=by
 refine good_fn nf isF257 mix (by simp [Tryz.f257]) ?_
 by_cases h0:n = 0
 · subst h0
   have e0:d9 0 = []:=by rw [d9,dif_pos rfl]
   simp [Tryz.f257,eInt,e0]
 have hL:(d9 n).length ≤ 3:=d9_len (by simp; omega)
 have hne:d9 n ≠ []:=by rw [d9_step (by omega)]; simp
 have hp:0 < (d9 n).length:=List.length_pos_iff.2 hne
 have l1:=(d9_lt ((d9 n).length - 1) n).1 (by omega)
 have l2:¬ (10 ^ 9) ^ (d9 n).length ≤ n:=by rw [← d9_lt]; omega
 have gl:=fun i h=>d9_get i n h
 have ll:=fun i=>d9_lt i n
 have hnd:nd n ≤ 20:=nd_le hn
 generalize d9 n = l at *
 obtain ⟨k,hk⟩:∃ k,l.length = k + 1:=⟨l.length - 1,by omega⟩
 rw [hk] at l1 l2
 simp only [Nat.add_sub_cancel] at l1
 have l3:n / (10 ^ 9) ^ k < 10 ^ 9:=by
  rw [Nat.pow_succ] at l2
  rw [Nat.div_lt_iff_lt_mul (Nat.pow_pos (by omega)),Nat.mul_comm]; omega
 have l4:=Nat.div_pos l1 (Nat.pow_pos (by omega))
 have g1:l[k]'(by omega) = n / (10 ^ 9) ^ k:=by rw [gl k (by omega),Nat.mod_eq_of_lt l3]
 generalize hM:n / (10 ^ 9) ^ k = M at *
 have hp':¬ (k:Int) + 1 = 0:=by omega
 have i1:IntKind.i64.wrap (k:Int) = (k:Int):=wi64 _ (by omega) (by omega)
 have i2:IntKind.i64.wrap ((k:Int) + 1 - 2) = (k:Int) - 1:=by rw [wi64 _ (by omega) (by omega)]; omega
 have hkl:k < l.length:=by omega
 have em:max 1 (nd M) = nd M:=by have:=nd_pos l4; omega
 simp [Tryz.f257,eInt,hk,hp',i1,i2,hkl,g1,h0]
 have dc:=c_decimal M 1 (by omega) (by omega)
 rw [em] at dc
 refine c2 dc ?_
 simp
 refine lp (α:=Nat × Nat) (fun (j,m)=>⟨[(4,.p (.int .i64 ((j:Int) - 1))),(3,.p (.str (low (nd m) m))),(1,.ptr 0 [])],[.box false (.p (.st 345 [.bool neg,.seq (l.map fun (x:Nat)=>.int .i64 x)]))]⟩)
  (fun (j,m)=>j ≤ k ∧ m = n / (10 ^ 9) ^ j ∧ 0 < m) (fun (j,_)=>j) (k,M) ⟨Nat.le_refl _,hM.symm,l4⟩ ?_ (he:=by simp [hk,i2])
 rintro ⟨j,m⟩ ⟨h1,h2,h3⟩
 dsimp only at h1 h2 h3 ⊢
 cases j with
 | zero =>
  rw [Nat.pow_zero,Nat.div_one] at h2
  subst h2
  have q:¬ (0:Int) ≤ 0 - 1:=by omega
  cases neg
  · simp [low_len,h0]
  · simp [low_len,h0]
    omega
 | succ j =>
  have hjl:j < l.length:=by omega
  have g:=gl j hjl
  have hd:n / (10 ^ 9) ^ j / 10 ^ 9 = m:=by rw [h2,Nat.div_div_eq_div_mul,← Nat.pow_succ]
  have hge:10 ^ 9 ≤ n / (10 ^ 9) ^ j:=by
   rcases Nat.lt_or_ge (n / (10 ^ 9) ^ j) (10 ^ 9) with h | h
   · rw [Nat.div_eq_of_lt h] at hd; omega
   · exact h
  have hj:=low_join hge
  have hle:n / (10 ^ 9) ^ j ≤ n:=Nat.div_le_self _ _
  rw [hd] at hj
  generalize hm':n / (10 ^ 9) ^ j = m' at *
  have hx:m' % 10 ^ 9 < 10 ^ 9:=Nat.mod_lt _ (by omega)
  have e9:max 9 (nd (m' % 10 ^ 9)) = 9:=by have:=nd_le hx; omega
  have dc:=c_decimal (m' % 10 ^ 9) 9 (by omega) (by omega)
  rw [e9,← g] at dc
  rw [← g] at hj
  have hmd:nd m ≤ 20:=by
   have:m ≤ n:=by rw [h2]; exact Nat.div_le_self _ _
   exact nd_le (by omega)
  have i3:IntKind.i64.wrap ((j:Int) - 1) = (j:Int) - 1:=wi64 _ (by omega) (by omega)
  simp [hjl]
  refine c2 dc ?_
  simp [low_len,i3]
  exact ⟨by omega,rd (j,m') ⟨by dsimp only; omega,hm'.symm,by dsimp only; omega⟩ (h1:=by dsimp only; omega) (he:=by simp [hj])⟩
theorem text_itoa {n:Int} (hn:inI n):(if n.natAbs = 0 then [48] else if decide (n < 0) = true then 45 :: low (nd n.natAbs) n.natAbs else low (nd n.natAbs) n.natAbs) = itoaN n:=by
 have h1:=hn.1
 have h2:=hn.2
 by_cases h0:n < 0
 · obtain ⟨k,rfl⟩:∃ k:Nat,n = -(k:Int):=⟨n.natAbs,by omega⟩
   have ek:(-(k:Int)).natAbs = k:=by omega
   rw [ek,if_neg (by omega),if_pos (by simpa using h0),itoaN_neg (by omega) (by omega)]
 · obtain ⟨k,rfl⟩:∃ k:Nat,n = k:=⟨n.natAbs,by omega⟩
   have ek:(k:Int).natAbs = k:=by omega
   rw [ek,itoaN_nat (by omega)]
   by_cases hk:k = 0
   · subst hk
     have:nd 0 = 0:=by rw [nd,dif_pos rfl]
     simp [this,low]
   · have:=nd_pos (n:=k) (by omega)
     have e:max 1 (nd k) = nd k:=by omega
     rw [if_neg hk,if_neg (by simp),e]
theorem c_fromInt (n:Int) (hn:inI n):GoodC Tryz.prog 213 [.int .i64 n] (.str (itoaN n)):=by
 refine good_fn nf isF213 mix (by simp [Tryz.f213]) ?_
 simp [Tryz.f213]
 refine c1 (c_whole n hn) ?_
 simp
 have hc:=c_text (decide (n < 0)) n.natAbs (by have:=hn.1; have:=hn.2; omega)
 rw [text_itoa hn] at hc
 refine c1 hc ?_
 simp
theorem c_textR (n:Int) (hn:inI n):GoodC Tryz.prog 151 [.int .i64 n] (.str (itoaN n)):=by
 refine good_fn nf isF151 mix (by simp [Tryz.f151]) ?_
 simp [Tryz.f151]
 refine c1 (c_fromInt n hn) ?_
 simp
end Go.Abs
namespace Go.Abs
open Go.Proofs
set_option maxHeartbeats 4000000
set_option maxRecDepth 100000
def digN (c:Nat):Bool:=decide (48 ≤ c) && decide (c ≤ 57)
def numT (s:List Nat):Nat:=s.foldl decV 0
def plainN (s:List Nat):Bool:=!decide (s.length = 0) && !decide (9 < s.length) && !(decide (1 < s.length) && decide (s.head? = some 48)) && s.all digN
def intR (s:List Nat):Int × Bool:=if plainN s = true then (numT s,true) else (0,false)
theorem wu8 (n:Int) (h1:0 ≤ n) (h2:n < 256):IntKind.u8.wrap n = n:=by
 simp only [IntKind.wrap,IntKind.bits,IntKind.signed,Bool.false_and,Bool.false_eq_true,if_false]
 omega
theorem numT_snoc (s:List Nat) (c:Nat):numT (s ++ [c]) = numT s * 10 + (c - 48):=by simp [numT,decV]
theorem numT_lt:∀ (n:Nat) (s:List Nat),s.length = n → s.all digN = true → numT s < 10 ^ n
 | 0, s, h, _ => by have : s = [] := List.length_eq_zero_iff.1 h
                    subst this; simp [numT]
 | n + 1,s,h,ha=>by
  have hne:s ≠ []:=by intro e; subst e; simp at h
  obtain ⟨t,c,rfl⟩:∃ t c,s = t ++ [c]:=⟨s.dropLast,s.getLast hne,(List.dropLast_concat_getLast hne).symm⟩
  simp only [List.all_append,List.all_cons,List.all_nil,Bool.and_true,Bool.and_eq_true] at ha
  have ih:=numT_lt n t (by simpa using h) ha.1
  have hc:=ha.2
  simp only [digN,Bool.and_eq_true,decide_eq_true_eq] at hc
  rw [numT_snoc,Nat.pow_succ]; omega
theorem c_integerR (s:List Nat) (h:s.length ≤ 1048576) (hb:∀ c ∈ s,c < 256):GoodC Tryz.prog 188 [.str s] (.tup [.int .i64 (intR s).1,.bool (intR s).2]):=by
 refine good_fn nf isF188 mix (by simp [Tryz.f188]) ?_
 by_cases h0:s.length = 0
 · have e:plainN s = false:=by simp [plainN,h0]
   simp [Tryz.f188,h0,intR,e]
 by_cases h9:9 < s.length
 · have e:plainN s = false:=by simp [plainN,h9]
   have h0':¬ (s.length:Int) = 0:=by omega
   have h9':(9:Int) < (s.length:Int):=by omega
   simp [Tryz.f188,h0,h0',h9,h9',intR,e]
 have h0':¬ (s.length:Int) = 0:=by omega
 have h9':¬ (9:Int) < (s.length:Int):=by omega
 have hp:0 < s.length:=by omega
 have hh:s.head? = some s[0]:=by rw [List.head?_eq_getElem?,List.getElem?_eq_getElem hp]
 by_cases hz:1 < s.length ∧ s[0] = 48
 · have e:plainN s = false:=by simp [plainN,hh,hz.1,hz.2]
   have h1':(1:Int) < (s.length:Int):=by omega
   simp [Tryz.f188,h0,h0',h9,h9',h1',hz.1,hz.2,hp,intR,e]
 have hall:plainN s = s.all digN:=by
  have:¬ (1 < s.length ∧ s.head? = some 48):=by rw [hh]; intro h; exact hz ⟨h.1,by injection h.2⟩
  have h3:(!(decide (1 < s.length) && decide (s.head? = some 48))) = true:=by
   rw [Bool.not_eq_true',Bool.and_eq_false_iff,decide_eq_false_iff_not,decide_eq_false_iff_not]
   exact Decidable.not_and_iff_or_not.1 this
  simp only [plainN,h3,h0,h9,decide_false,Bool.not_false,Bool.true_and]
 have loop:1 < s.length ∧ ¬ s[0] = 48 ∨ ¬ 1 < s.length:=by
  by_cases h:1 < s.length
  · exact .inl ⟨h,fun e=>hz ⟨h,e⟩⟩
  · exact .inr h
 clear hz hh
 rcases loop with ⟨g1,g2⟩ | g1
 · have g1':(1:Int) < (s.length:Int):=by omega
   have g2':¬ ((s[0]:Nat):Int) = 48:=by omega
   simp [Tryz.f188,h0,h0',h9,h9',g1',g1,g2,g2',hp]
   refine lp (α:=Nat) (fun i=>⟨[(5,.p (.int .i64 i)),(4,.p (.int .i64 (numT (s.take i)))),(0,.p (.str s))],[]⟩) (fun i=>i ≤ s.length ∧ (s.take i).all digN = true) (fun i=>s.length - i) 0 (by simp) ?_ (he:=by simp [numT])
   rintro i ⟨k1,k2⟩
   have hw:=wi1 (i:=i) (by omega)
   by_cases hi:i < s.length
   · have hs:=numT_snoc (s.take i) s[i]
     rw [← List.take_succ_eq_append_getElem hi] at hs
     have hall2:(s.take (i + 1)).all digN = digN s[i]:=by rw [List.take_succ_eq_append_getElem hi,List.all_append,k2]; simp
     have hlt:=numT_lt i (s.take i) (by simp; omega) k2
     have hlt2:numT (s.take i) < 10 ^ 9:=Nat.lt_of_lt_of_le hlt (Nat.pow_le_pow_right (by omega) (by omega))
     have hc:=hb _ (List.getElem_mem hi)
     generalize hcc:s[i] = c at *
     by_cases q1:c < 48
     · have q1':(c:Int) < 48:=by omega
       have e:s.all digN = false:=by
        rw [List.all_eq_false]; exact ⟨c,hcc ▸ List.getElem_mem hi,by simp [digN]; omega⟩
       simp [hi,hcc,q1,q1',intR,hall,e]
     · have q1':¬ (c:Int) < 48:=by omega
       by_cases q2:57 < c
       · have q2':(57:Int) < (c:Int):=by omega
         have e:s.all digN = false:=by
          rw [List.all_eq_false]; exact ⟨c,hcc ▸ List.getElem_mem hi,by simp [digN]; omega⟩
         simp [hi,hcc,q1,q1',q2,q2',intR,hall,e]
       · have q2':¬ (57:Int) < (c:Int):=by omega
         have w1:IntKind.u8.wrap ((c:Int) - 48) = (c:Int) - 48:=wu8 _ (by omega) (by omega)
         have w2:IntKind.i64.wrap ((c:Int) - 48) = (c:Int) - 48:=wi64 _ (by omega) (by omega)
         have w3:IntKind.i64.wrap (10 * (numT (s.take i):Int)) = 10 * (numT (s.take i):Int):=wi64 _ (by omega) (by omega)
         have w4:IntKind.i64.wrap (10 * (numT (s.take i):Int) + ((c:Int) - 48)) = (numT (s.take (i + 1)):Int):=by rw [wi64 _ (by omega) (by omega),hs]; omega
         simp [hi,hcc,q1,q1',q2,q2',w1,w2,w3,w4,hw]
         exact rd (i + 1) ⟨hi,by rw [hall2]; simp [digN]; omega⟩
   · have:i = s.length:=by omega
     subst this
     rw [List.take_length] at k2
     simp [intR,hall,k2]
 · have g1':¬ (1:Int) < (s.length:Int):=by omega
   simp [Tryz.f188,h0,h0',h9,h9',g1',g1,hp]
   refine lp (α:=Nat) (fun i=>⟨[(5,.p (.int .i64 i)),(4,.p (.int .i64 (numT (s.take i)))),(0,.p (.str s))],[]⟩) (fun i=>i ≤ s.length ∧ (s.take i).all digN = true) (fun i=>s.length - i) 0 (by simp) ?_ (he:=by simp [numT])
   rintro i ⟨k1,k2⟩
   have hw:=wi1 (i:=i) (by omega)
   by_cases hi:i < s.length
   · have hs:=numT_snoc (s.take i) s[i]
     rw [← List.take_succ_eq_append_getElem hi] at hs
     have hall2:(s.take (i + 1)).all digN = digN s[i]:=by rw [List.take_succ_eq_append_getElem hi,List.all_append,k2]; simp
     have hlt:=numT_lt i (s.take i) (by simp; omega) k2
     have hlt2:numT (s.take i) < 10 ^ 9:=Nat.lt_of_lt_of_le hlt (Nat.pow_le_pow_right (by omega) (by omega))
     have hc:=hb _ (List.getElem_mem hi)
     generalize hcc:s[i] = c at *
     by_cases q1:c < 48
     · have q1':(c:Int) < 48:=by omega
       have e:s.all digN = false:=by
        rw [List.all_eq_false]; exact ⟨c,hcc ▸ List.getElem_mem hi,by simp [digN]; omega⟩
       simp [hi,hcc,q1,q1',intR,hall,e]
     · have q1':¬ (c:Int) < 48:=by omega
       by_cases q2:57 < c
       · have q2':(57:Int) < (c:Int):=by omega
         have e:s.all digN = false:=by
          rw [List.all_eq_false]; exact ⟨c,hcc ▸ List.getElem_mem hi,by simp [digN]; omega⟩
         simp [hi,hcc,q1,q1',q2,q2',intR,hall,e]
       · have q2':¬ (57:Int) < (c:Int):=by omega
         have w1:IntKind.u8.wrap ((c:Int) - 48) = (c:Int) - 48:=wu8 _ (by omega) (by omega)
         have w2:IntKind.i64.wrap ((c:Int) - 48) = (c:Int) - 48:=wi64 _ (by omega) (by omega)
         have w3:IntKind.i64.wrap (10 * (numT (s.take i):Int)) = 10 * (numT (s.take i):Int):=wi64 _ (by omega) (by omega)
         have w4:IntKind.i64.wrap (10 * (numT (s.take i):Int) + ((c:Int) - 48)) = (numT (s.take (i + 1)):Int):=by rw [wi64 _ (by omega) (by omega),hs]; omega
         simp [hi,hcc,q1,q1',q2,q2',w1,w2,w3,w4,hw]
         exact rd (i + 1) ⟨hi,by rw [hall2]; simp [digN]; omega⟩
   · have:i = s.length:=by omega
     subst this
     rw [List.take_length] at k2
     simp [intR,hall,k2]
end Go.Abs
