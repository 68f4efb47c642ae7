import Derived.Test.YthckccalfpnmaaaGreatDoorPB
import Derived.Test.YthckccalfpnmaaaGreatDoorThD
import Derived.Lib.Builder
import Derived.WalkKit
import Derived.Laws.Externs
import Derived.Shelf.RegionOpenPlain
import Derived.Test.YthckccalfpnmaaaGreatDoorPA
import Derived.Lib.Overlaps
import Derived.KernelRfl
import Derived.Shelf.Strings.Prefix
import Derived.Shelf.Strings.Trim
/- Parts of a proof. -/
set_option linter.unusedSimpArgs false
set_option linter.unusedVariables false
set_option linter.unusedSectionVars false
namespace Go.Abs
open Go.Proofs
set_option maxHeartbeats 4000000
set_option maxRecDepth 100000
theorem g_mappedRS {g : FuncId} {F : RowD → List Nat} (l : List RowD) (h : l.length ≤ 1048576) (hg : ∀ r ∈ l, GoodC Tryz.prog g [eRow r] (.str (F r))) :
    GoodI Tryz.prog 190 [] [.p (.seq (l.map eRow)),.p (.func g [] [])] [.arr .grow l.length 1 ((l.map F).map (AV.p ∘ PV.str))] (.sl 0 l.length 1 0 l.length):=by
 refine goodI_fn nf isF190 mix (by simp [Tryz.f190]) ?_
 simp [Tryz.f190]
 refine lp (α:=Nat) (fun i=>⟨[(10,.p (.int .i64 i)),(9,.p (.int .i64 l.length)),(8,.p (.seq (l.map eRow))),(5,.sl 0 i 1 0 i),(1,.p (.func g [] []))],[.arr .grow i 1 ((l.map fun r=>.p (.str (F r))).take i)]⟩) (fun i=>i ≤ l.length) (fun i=>l.length - i) 0 (by simp) ?_
 rintro i k1
 by_cases hi:i < l.length
 · have hw:=wi1 (i:=i) (by omega)
   have ht:=take_next (fun r=>AV.p (.str (F r))) hi
   simp [hi]
   refine c1 (hg l[i] (List.getElem_mem hi)) ?_
   simp
   refine ⟨⟨by omega,by simp [maxL]; omega⟩,?_⟩
   exact rd (i + 1) hi (he:=by simp [hw]) (hh:=by simp [ht]) (hr2:=by simp [ht])
 · have:i = l.length:=by omega
   subst this
   simp [oneOf,Function.comp_def]
def resP (x a b:List RowD) (n:List Nat):PV :=
 if (outS x a b).length > 256 then .tup [eBook ⟨[],[]⟩,.seq [],.int .i64 5] else .tup [eBook ⟨n,outS x a b⟩,.seq ((confL x a b).map .str),.int .i64 0]
theorem heldE_eq {o p:Option (List Int)} (ho:∀ v,o = some v → ∀ n ∈ v,inI n) (hp:∀ v,p = some v → ∀ n ∈ v,inI n):(o.isSome = p.isSome ∧ valsT (o.getD []) = valsT (p.getD [])) ↔ o = p:=by
 cases o with
 | none=>cases p <;> simp
 | some v=>cases p with
  | none=>simp
  | some w =>
   simp only [Option.isSome_some,Option.getD_some,true_and,Option.some.injEq]
   exact ⟨fun h=>valsT_inj (ho v rfl) (hp w rfl) h,fun h=>by rw [h]⟩
theorem ft_held:fieldT Tryz.prog 294 0 = some (293,.leaf):=by kernel_rfl
@[simp] theorem fv_held {b:Bool} {s:PV}:fieldV Tryz.prog 294 0 (.p (.st 293 [.bool b,s])) = some (True,{ v:=.p (.bool b) }):=by
 rw [fieldV_st ft_held]
 simp [shp]
theorem so_held:Tryz.prog.stoodInHeld 294 = false:=by kernel_rfl
@[simp] theorem eo_held:eqOk Tryz.prog 294 = true:=by kernel_rfl
def heldC (p:Bool) (s:List Nat) (q:Bool) (t:List Nat):Bool:=decide (p = q ∧ s = t)
@[simp] theorem eq_held {p q:Bool} {s t:List Nat}:eqT Tryz.prog 9 294 (.st 293 [.bool p,.str s]) (.st 293 [.bool q,.str t]) = some (heldC p s q t):=by
 have hu:=Tryz.underlying294
 have:((p == q) && ((s == t) && true)) = heldC p s q t:=by
  rw [heldC,Bool.eq_iff_iff]; simp
 rw [← this]
 simp [eqT,hu,so_held,eqTs,shp]
theorem heldC_eq {o p:Option (List Int)} (ho:∀ v,o = some v → ∀ n ∈ v,inI n) (hp:∀ v,p = some v → ∀ n ∈ v,inI n):heldC o.isSome (valsT (o.getD [])) p.isSome (valsT (p.getD [])) = decide (o = p):=by
 rw [heldC,Bool.eq_iff_iff,decide_eq_true_eq,decide_eq_true_eq]
 exact heldE_eq ho hp
section
variable (x a b:List RowD) (xn an bn:List Nat)
def pH (ks cs:List (List Nat)) (out:List RowD):Heap:=[.box false (.p (.st 23 [.str xn,.seq (x.map eRow)])),.box false (.p (.st 23 [.str an,.seq (a.map eRow)])),.box false (.p (.st 23 [.str bn,.seq (b.map eRow)])),
 .box false (.p (.st 23 [.str [],.nsl])),.box false (.st 23 [.p (.str an),.sl 7 out.length 2 0 out.length]),.arr .grow ks.length 1 (ks.map (AV.p ∘ PV.str)),.arr .grow cs.length 1 (cs.map (AV.p ∘ PV.str)),.arr .grow out.length 2 (out.map (AV.p ∘ eRow))]
end
theorem look_key {l:List RowD} {k:List Nat} {v:List Int} (h:look l k = some v):k ∈ keysOf l:=by
 have:=List.mem_map_of_mem (f:=RowD.key) (look_mem h)
 exact this
theorem keysOf_step {b:List RowD} {i:Nat} (hi:i < b.length):keysOf (b.take (i + 1)) = keysOf (b.take i) ++ [b[i].key]:=by
 rw [List.take_succ_eq_append_getElem hi,keysOf,keysOf,List.map_append]; rfl
theorem c_merge (x a b : BookD) (hx : bookB x) (ha : bookB a) (hb : bookB b) (ix : rowsI x.rows) (ia : rowsI a.rows) (ib : rowsI b.rows) (nx : (keysOf x.rows).Nodup) (na : (keysOf a.rows).Nodup) (nb : (keysOf b.rows).Nodup)
    (lx:x.rows.length ≤ 1000) (la:a.rows.length ≤ 1000) (lb:b.rows.length ≤ 1000):GoodC Tryz.prog 111 [eBook x,eBook a,eBook b] (resP x.rows a.rows b.rows a.name):=by
 refine good_fn nf isF111 mix (by simp [Tryz.f111]) ?_
 have rx:=c_rows x hx.2.1 nx
 have ra:=c_rows a ha.2.1 na
 have rb:=c_rows b hb.2.1 nb
 obtain ⟨xn,x⟩:=x
 obtain ⟨an,a⟩:=a
 obtain ⟨bn,b⟩:=b
 dsimp only at hx ha hb ix ia ib nx na nb lx la lb ⊢
 simp [Tryz.f111,-w_seq',eBook] at rx ra rb ⊢
 rw [w_seq']; simp [-w_seq']
 rw [w_seq']; simp [-w_seq']
 refine e1 rx ?_
 simp [-w_seq']
 refine e1 ra ?_
 simp [-w_seq']
 refine e1 rb ?_
 simp [-w_seq']
 rw [w_seq']; simp [-w_seq']
 rw [w_seq']; simp [-w_seq']
 rw [w_seq']; simp [-w_seq']
 refine cn2 (g_mappedRS a ha.2.1 fun r _=>c_merge1 r) ?_
 simp [-w_seq']
 rw [w_seq',w_seq']
 simp [-w_seq']
 refine lp (α:=Nat × List (List Nat)) (fun (i,ks)=>⟨[(42,.p (.int .i64 i)),(41,.p (.int .i64 b.length)),(40,.p (.seq (b.map eRow))),(14,.sl 5 ks.length 1 0 ks.length),(13,.sl 6 0 1 0 0),(12,.ptr 4 []),(11,.p (.fmap (rowsE b))),(10,.p (.fmap (rowsE a))),(9,.p (.fmap (rowsE x))),(6,.ptr 3 []),(3,.ptr 0 [])],pH x a b xn an bn ks [] []⟩)
  (fun (i,ks)=>i ≤ b.length ∧ ks = keysOf a ++ (keysOf (b.take i)).filter fun k=>!(keysOf a).contains k) (fun (i,_)=>b.length - i) (0,keysOf a) (by simp [keysOf]) ?_ (he:=by simp [pH,keysOf]) (hh:=by simp [pH,keysOf]) (hr:=by simp [pH]) (hr2:=by simp [pH])
 rintro ⟨i,ks⟩ ⟨h1,h2⟩
 dsimp only at h1 h2 ⊢
 have hw:=wi1 (i:=i) (by omega)
 have hks:ks.length ≤ a.length + i:=by
  have q2:=List.length_filter_le (fun k=>!(keysOf a).contains k) (keysOf (b.take i))
  rw [h2]; simp only [List.length_append,keysOf,List.length_map,List.length_take] at *; omega
 by_cases hi:i < b.length
 · have hiz:(i:Int) < (b.length:Int):=by omega
   have hE:eRow b[i] = .st 54 [.str b[i].key,.seq (b[i].vals.map (.int .i64))]:=rfl
   have ht:b.take (i + 1) = b.take i ++ [b[i]]:=List.take_succ_eq_append_getElem hi
   simp [hiz,hi,hE,pH]
   refine c2 (c_holds a b[i].key ha.2 ia) ?_
   cases hl:look a b[i].key with
   | none =>
    have hk:ks ++ [b[i].key] = keysOf a ++ (keysOf (b.take (i + 1))).filter fun k=>!(keysOf a).contains k:=by
     have:=look_none.1 hl
     rw [keysOf_step hi,List.filter_append,← List.append_assoc,← h2]; simp [this]
    simp [heldE,hw]
    refine ⟨by simp only [maxL]; omega,?_⟩
    exact rd (i + 1,ks ++ [b[i].key]) ⟨hi,hk⟩ (h1:=by dsimp only; omega) (he:=by simp) (hh:=by simp) (hr2:=by simp)
   | some v =>
    have hk:ks = keysOf a ++ (keysOf (b.take (i + 1))).filter fun k=>!(keysOf a).contains k:=by
     have:b[i].key ∈ keysOf a:=look_key hl
     rw [keysOf_step hi,List.filter_append,h2]; simp [this]
    simp [heldE,hw]
    exact rd (i + 1,ks) ⟨hi,hk⟩ (h1:=by dsimp only; omega) (hh:=by simp [pH]) (hr2:=by simp)
 have hie:i = b.length:=by omega
 have hin:¬ (i:Int) < (b.length:Int):=by omega
 have hkA:ks = allK a b:=by rw [h2,hie,List.take_length,allK]
 clear h1 h2 hw hks
 subst hie hkA
 rw [w_seq']
 simp [-w_seq',hin]
 rw [w_seq']
 simp [-w_seq']
 rw [w_seq',w_seq']
 simp [-w_seq',pH]
 refine lp (α:=Nat × List (List Nat)) (fun (i,ks)=>⟨[(61,.p (.int .i64 i)),(60,.p (.int .i64 x.length)),(59,.p (.seq (x.map eRow))),(14,.sl 5 ks.length 1 0 ks.length),(13,.sl 6 0 1 0 0),(12,.ptr 4 []),(11,.p (.fmap (rowsE b))),(10,.p (.fmap (rowsE a))),(9,.p (.fmap (rowsE x))),(6,.ptr 3 [])],pH x a b xn an bn ks [] []⟩)
  (fun (i,ks)=>i ≤ x.length ∧ ks = allK a b ++ (keysOf (x.take i)).filter fun k=>!(keysOf a).contains k && !(keysOf b).contains k) (fun (i,_)=>x.length - i) (0,allK a b) (by simp [keysOf]) ?_ (he:=by simp) (hh:=by simp [pH]) (hr:=by simp [pH]) (hr2:=by simp [pH])
 rintro ⟨i,ks⟩ ⟨h1,h2⟩
 dsimp only at h1 h2 ⊢
 have hw:=wi1 (i:=i) (by omega)
 have hks:ks.length ≤ a.length + b.length + i:=by
  have q2:=List.length_filter_le (fun k=>!(keysOf a).contains k && !(keysOf b).contains k) (keysOf (x.take i))
  have q3:=kTo_len a b (a.length + b.length)
  rw [kTo_end] at q3
  rw [h2]; simp only [List.length_append,keysOf,List.length_map,List.length_take] at *; omega
 by_cases hi:i < x.length
 · have hiz:(i:Int) < (x.length:Int):=by omega
   have hE:eRow x[i] = .st 54 [.str x[i].key,.seq (x[i].vals.map (.int .i64))]:=rfl
   simp [hiz,hi,hE,pH]
   refine c2 (c_holds a x[i].key ha.2 ia) ?_
   cases hl:look a x[i].key with
   | none =>
    simp [heldE,hw]
    refine c2 (c_holds b x[i].key hb.2 ib) ?_
    cases hl2:look b x[i].key with
    | none =>
     have hk:ks ++ [x[i].key] = allK a b ++ (keysOf (x.take (i + 1))).filter fun k=>!(keysOf a).contains k && !(keysOf b).contains k:=by
      have t1:=look_none.1 hl
      have t2:=look_none.1 hl2
      rw [keysOf_step hi,List.filter_append,← List.append_assoc,← h2]; simp [t1,t2]
     simp [heldE,hw]
     refine ⟨by simp only [maxL]; omega,?_⟩
     exact rd (i + 1,ks ++ [x[i].key]) ⟨hi,hk⟩ (h1:=by dsimp only; omega) (he:=by simp) (hh:=by simp) (hr2:=by simp)
    | some v =>
     have hk:ks = allK a b ++ (keysOf (x.take (i + 1))).filter fun k=>!(keysOf a).contains k && !(keysOf b).contains k:=by
      have:x[i].key ∈ keysOf b:=look_key hl2
      rw [keysOf_step hi,List.filter_append,h2]; simp [this]
     simp [heldE,hw]
     exact rd (i + 1,ks) ⟨hi,hk⟩ (h1:=by dsimp only; omega) (hh:=by simp [pH]) (hr2:=by simp)
   | some v =>
    have hk:ks = allK a b ++ (keysOf (x.take (i + 1))).filter fun k=>!(keysOf a).contains k && !(keysOf b).contains k:=by
     have:x[i].key ∈ keysOf a:=look_key hl
     rw [keysOf_step hi,List.filter_append,h2]; simp [this]
    simp [heldE,hw]
    exact rd (i + 1,ks) ⟨hi,hk⟩ (h1:=by dsimp only; omega) (hh:=by simp [pH]) (hr2:=by simp)
 have hie:i = x.length:=by omega
 have hin:¬ (i:Int) < (x.length:Int):=by omega
 have hkA:ks = allK a b ++ (keysOf x).filter fun k=>!(keysOf a).contains k && !(keysOf b).contains k:=by rw [h2,hie,List.take_length]
 clear h1 hw h2
 subst hie
 rw [w_seq']
 simp [-w_seq',hin]
 rw [w_seq']
 simp [-w_seq']
 rw [w_seq',w_seq']
 simp [-w_seq',pH]
 refine lp (α:=Nat × List (List Nat) × List RowD) (fun (i,cs,out)=>⟨[(87,.p (.int .i64 i)),(86,.p (.int .i64 ks.length)),(85,.sl 5 ks.length 1 0 ks.length),(13,.sl 6 cs.length 1 0 cs.length),(12,.ptr 4 []),(11,.p (.fmap (rowsE b))),(10,.p (.fmap (rowsE a))),(9,.p (.fmap (rowsE x))),(6,.ptr 3 [])],pH x a b xn an bn ks cs out⟩)
  (fun (i,cs,out)=>i ≤ ks.length ∧ cs = (ks.take i).filter (confS x a b) ∧ out = (ks.take i).filterMap fun k=>rowAt (srcS x a b k) k) (fun (i,_)=>ks.length - i) (0,[],[]) (by simp) ?_ (he:=by simp) (hh:=by simp [pH]) (hr:=by simp [pH]) (hr2:=by simp [pH])
 rintro ⟨i,cs,out⟩ ⟨h1,h2,h3⟩
 dsimp only at h1 h2 h3 ⊢
 have hw:=wi1 (i:=i) (by omega)
 have hcl:cs.length ≤ i:=by
  have:=List.length_filter_le (confS x a b) (ks.take i)
  rw [h2]; simp only [List.length_take] at *; omega
 have hol:out.length ≤ i:=by
  have:=List.length_filterMap_le (fun k=>rowAt (srcS x a b k) k) (ks.take i)
  rw [← h3] at this; simp only [List.length_take] at *; omega
 by_cases hi:i < ks.length
 · have hiz:(i:Int) < (ks.length:Int):=by omega
   have ht:ks.take (i + 1) = ks.take i ++ [ks[i]]:=List.take_succ_eq_append_getElem hi
   have hk0:ks ≠ []:=by intro e; subst e; simp at hi
   obtain ⟨k,hk⟩:∃ k,k = ks[i]:=⟨_,rfl⟩
   rw [← hk] at ht
   simp [hiz,hi,pH,hk0,← hk]
   refine c2 (c_holds x k hx.2 ix) ?_
   simp
   refine c2 (c_holds a k ha.2 ia) ?_
   simp
   refine c2 (c_holds b k hb.2 ib) ?_
   have q:∀ {l:List RowD},rowsI l → ∀ v,look l k = some v → ∀ n ∈ v,inI n:=fun hl v hv n hn=>hl _ (look_mem hv) n hn
   have qab:=heldC_eq (q ia) (q ib)
   have qbx:=heldC_eq (q ib) (q ix)
   have qax:=heldC_eq (q ia) (q ix)
   simp [heldE]
   by_cases hab:look a k = look b k
   · have hs:srcS x a b k = a:=by rw [srcS,if_neg (fun e=>e.1 hab)]
     have hcs:cs = (ks.take (i + 1)).filter (confS x a b):=by
      rw [ht,List.filter_append,← h2]; simp [confS,hab]
     rw [decide_eq_true hab] at qab
     simp [-w_seq',qab]
     cases hv:look a k with
     | none =>
      have hout:out = (ks.take (i + 1)).filterMap fun k=>rowAt (srcS x a b k) k:=by
       rw [ht,List.filterMap_append,← h3]; simp [rowAt,hs,hv]
      have hr:=look_rows k a
      simp only [rowAt,hv,Option.map_none] at hr
      simp [hr,hw]
      exact rd (i + 1,cs,out) ⟨hi,hcs,hout⟩ (h1:=by dsimp only; omega) (he:=by simp) (hh:=by simp [pH]) (hr2:=by simp [pH])
     | some v =>
      have hout:out ++ [⟨k,v⟩] = (ks.take (i + 1)).filterMap fun k=>rowAt (srcS x a b k) k:=by
       rw [ht,List.filterMap_append,← h3]; simp [rowAt,hs,hv]
      have hr:=look_rows k a
      have hE:eRow ⟨k,v⟩ = .st 54 [.str k,.seq (v.map (.int .i64))]:=rfl
      simp only [rowAt,hv,Option.map_some] at hr
      have hcp:=c_copied ⟨k,v⟩ (ha.2.2 _ (look_mem hv))
      rw [hE] at hr hcp
      simp [hr,hw]
      refine e1 hcp ?_
      simp [hw]
      repeat' refine And.intro ?_ ?_
      all_goals first | rfl | (simp only [maxL]; omega) | exact rd (i + 1,cs,out ++ [⟨k,v⟩]) ⟨hi,hcs,hout⟩ (h1:=by dsimp only; omega) (he:=by simp) (hh:=by simp [pH,hE]) (hr2:=by simp [pH])
   rw [decide_eq_false hab] at qab
   by_cases hbx:look b k = look x k
   · have hs:srcS x a b k = a:=by rw [srcS,if_neg (fun e=>hab (e.2.trans hbx.symm))]
     have hcs:cs = (ks.take (i + 1)).filter (confS x a b):=by
      rw [ht,List.filter_append,← h2]; simp [confS,hbx]
     rw [decide_eq_true hbx] at qbx
     simp [-w_seq',qab,qbx]
     cases hv:look a k with
     | none =>
      have hout:out = (ks.take (i + 1)).filterMap fun k=>rowAt (srcS x a b k) k:=by
       rw [ht,List.filterMap_append,← h3]; simp [rowAt,hs,hv]
      have hr:=look_rows k a
      simp only [rowAt,hv,Option.map_none] at hr
      simp [hr,hw]
      exact rd (i + 1,cs,out) ⟨hi,hcs,hout⟩ (h1:=by dsimp only; omega) (he:=by simp) (hh:=by simp [pH]) (hr2:=by simp [pH])
     | some v =>
      have hout:out ++ [⟨k,v⟩] = (ks.take (i + 1)).filterMap fun k=>rowAt (srcS x a b k) k:=by
       rw [ht,List.filterMap_append,← h3]; simp [rowAt,hs,hv]
      have hr:=look_rows k a
      have hE:eRow ⟨k,v⟩ = .st 54 [.str k,.seq (v.map (.int .i64))]:=rfl
      simp only [rowAt,hv,Option.map_some] at hr
      have hcp:=c_copied ⟨k,v⟩ (ha.2.2 _ (look_mem hv))
      rw [hE] at hr hcp
      simp [hr,hw]
      refine e1 hcp ?_
      simp [hw]
      repeat' refine And.intro ?_ ?_
      all_goals first | rfl | (simp only [maxL]; omega) | exact rd (i + 1,cs,out ++ [⟨k,v⟩]) ⟨hi,hcs,hout⟩ (h1:=by dsimp only; omega) (he:=by simp) (hh:=by simp [pH,hE]) (hr2:=by simp [pH])
   rw [decide_eq_false hbx] at qbx
   by_cases hax:look a k = look x k
   · have hs:srcS x a b k = b:=by rw [srcS,if_pos ⟨hab,hax⟩]
     have hcs:cs = (ks.take (i + 1)).filter (confS x a b):=by
      rw [ht,List.filter_append,← h2]; simp [confS,hax]
     rw [decide_eq_true hax] at qax
     simp [-w_seq',qab,qbx,qax]
     cases hv:look b k with
     | none =>
      have hout:out = (ks.take (i + 1)).filterMap fun k=>rowAt (srcS x a b k) k:=by
       rw [ht,List.filterMap_append,← h3]; simp [rowAt,hs,hv]
      have hr:=look_rows k b
      simp only [rowAt,hv,Option.map_none] at hr
      simp [hr,hw]
      exact rd (i + 1,cs,out) ⟨hi,hcs,hout⟩ (h1:=by dsimp only; omega) (he:=by simp) (hh:=by simp [pH]) (hr2:=by simp [pH])
     | some v =>
      have hout:out ++ [⟨k,v⟩] = (ks.take (i + 1)).filterMap fun k=>rowAt (srcS x a b k) k:=by
       rw [ht,List.filterMap_append,← h3]; simp [rowAt,hs,hv]
      have hr:=look_rows k b
      have hE:eRow ⟨k,v⟩ = .st 54 [.str k,.seq (v.map (.int .i64))]:=rfl
      simp only [rowAt,hv,Option.map_some] at hr
      have hcp:=c_copied ⟨k,v⟩ (hb.2.2 _ (look_mem hv))
      rw [hE] at hr hcp
      simp [hr,hw]
      refine e1 hcp ?_
      simp [hw]
      repeat' refine And.intro ?_ ?_
      all_goals first | rfl | (simp only [maxL]; omega) | exact rd (i + 1,cs,out ++ [⟨k,v⟩]) ⟨hi,hcs,hout⟩ (h1:=by dsimp only; omega) (he:=by simp) (hh:=by simp [pH,hE]) (hr2:=by simp [pH])
   · have hs:srcS x a b k = a:=by rw [srcS,if_neg (fun e=>hax e.2)]
     have hcs:cs ++ [k] = (ks.take (i + 1)).filter (confS x a b):=by
      rw [ht,List.filter_append,← h2]; simp [confS,hab,hbx,hax]
     rw [decide_eq_false hax] at qax
     have hml:cs.length + 1 ≤ maxL:=by simp only [maxL]; omega
     simp [-w_seq',qab,qbx,qax,hml]
     cases hv:look a k with
     | none =>
      have hout:out = (ks.take (i + 1)).filterMap fun k=>rowAt (srcS x a b k) k:=by
       rw [ht,List.filterMap_append,← h3]; simp [rowAt,hs,hv]
      have hr:=look_rows k a
      simp only [rowAt,hv,Option.map_none] at hr
      simp [hr,hw]
      exact rd (i + 1,cs ++ [k],out) ⟨hi,hcs,hout⟩ (h1:=by dsimp only; omega) (he:=by simp) (hh:=by simp [pH]) (hr2:=by simp [pH])
     | some v =>
      have hout:out ++ [⟨k,v⟩] = (ks.take (i + 1)).filterMap fun k=>rowAt (srcS x a b k) k:=by
       rw [ht,List.filterMap_append,← h3]; simp [rowAt,hs,hv]
      have hr:=look_rows k a
      have hE:eRow ⟨k,v⟩ = .st 54 [.str k,.seq (v.map (.int .i64))]:=rfl
      simp only [rowAt,hv,Option.map_some] at hr
      have hcp:=c_copied ⟨k,v⟩ (ha.2.2 _ (look_mem hv))
      rw [hE] at hr hcp
      simp [hr,hw]
      refine e1 hcp ?_
      simp [hw]
      repeat' refine And.intro ?_ ?_
      all_goals first | rfl | (simp only [maxL]; omega) | exact rd (i + 1,cs ++ [k],out ++ [⟨k,v⟩]) ⟨hi,hcs,hout⟩ (h1:=by dsimp only; omega) (he:=by simp) (hh:=by simp [pH,hE]) (hr2:=by simp [pH])
 · have hin:¬ (i:Int) < (ks.length:Int):=by omega
   have hie:i = ks.length:=by omega
   rw [hie,List.take_length,hkA] at h2 h3
   have hno:∀ k ∈ (keysOf x).filter (fun k=>!(keysOf a).contains k && !(keysOf b).contains k),look a k = none ∧ look b k = none:=by
    intro k hk
    rw [List.mem_filter] at hk
    simp at hk
    exact ⟨look_none.2 hk.2.1,look_none.2 hk.2.2⟩
   have n1:((keysOf x).filter (fun k=>!(keysOf a).contains k && !(keysOf b).contains k)).filter (confS x a b) = []:=by
    rw [List.filter_eq_nil_iff]; intro k hk; have:=hno k hk; simp [confS,this.1,this.2]
   have n2:((keysOf x).filter (fun k=>!(keysOf a).contains k && !(keysOf b).contains k)).filterMap (fun k=>rowAt (srcS x a b k) k) = []:=by
    rw [List.filterMap_eq_nil_iff]; intro k hk; have:=hno k hk; simp [srcS,rowAt,this.1,this.2]
   have hcs:confL x a b = sortS cs:=by rw [confL,h2,List.filter_append,n1,List.append_nil]
   have hout:outS x a b = out:=by rw [outS,h3,List.filterMap_append,n2,List.append_nil]
   have hol2:out.length ≤ a.length + b.length:=by rw [← hout]; exact outS_len
   by_cases hbig:(256:Int) < (out.length:Int)
   · have hres:resP x a b an = .tup [.st 23 [.str [],.seq []],.seq [],.int .i64 5]:=by
      rw [resP,hout,if_pos (by omega)]; rfl
     rw [hres]
     simp [hin,pH,hbig]
   · have hres:resP x a b an = .tup [.st 23 [.str an,.seq (out.map eRow)],.seq ((sortS cs).map .str),.int .i64 0]:=by
      rw [resP,hout,hcs,if_neg (by omega)]; rfl
     rw [hres]
     simp [hin,pH,hbig]
     by_cases hc0:cs = []
     · subst hc0
       refine ci (g_sort_nil (ver:=0) rfl) ?_
       simp [sortS]
       try (rw [purl_map]; intro r _; simp)
     · refine ci (g_sort163 (xs:=cs) rfl hc0 (by omega)) ?_
       have hsl:(sortS cs).length = cs.length:=(sortS_perm cs).length_eq
       have hpl:List.take cs.length (List.map (AV.p ∘ PV.str) (sortS cs)) = List.map (AV.p ∘ PV.str) (sortS cs):=List.take_of_length_le (by simp [hsl])
       simp [hsl,hpl]
end Go.Abs
namespace Go.Abs
open Go.Proofs
set_option maxHeartbeats 4000000
set_option maxRecDepth 100000
@[simp] theorem shp_eBook {b:BookD}:shp (eBook b) = .agg 23:=rfl
@[simp] theorem shp_rBook {b:BookD}:shp (rBook b) = .agg 26:=rfl
def mergeC (x a b:BookD):BookD × List (List Nat) × Int :=
 if (outS x.rows a.rows b.rows).length > 256 then (⟨[],[]⟩,[],5) else (⟨a.name,outS x.rows a.rows b.rows⟩,confL x.rows a.rows b.rows,0)
theorem resP_eq (x a b:BookD):resP x.rows a.rows b.rows a.name = .tup [eBook (mergeC x a b).1,.seq ((mergeC x a b).2.1.map .str),.int .i64 (mergeC x a b).2.2]:=by
 simp only [resP,mergeC]; split <;> rfl
theorem okRow_I {r:RowD} (h:okRow r):∀ n ∈ r.vals,inI n:=by
 have h:=h.2
 rw [chkVals,first3,when0 (by omega),when0 (by omega),when0 (by omega)] at h
 intro n hn
 have:=(List.any_eq_false.1 h.2.2) n hn
 simp [far] at this
 simp only [inI]; omega
theorem chkBook_zero {b:BookD} (h:chkBook b = 0):chkRows b.rows = 0:=by
 rw [chkBook,first2] at h; exact h.2
theorem chkRows_I {l:List RowD} (h:chkRows l = 0):rowsI l:=fun r hr=>okRow_I ((chkRows_iff.1 h).2.1 r hr)
theorem mergeC_B {x a b:BookD} (ha:bookB a) (hb:bookB b) (la:a.rows.length ≤ 1000) (lb:b.rows.length ≤ 1000):bookB (mergeC x a b).1 ∧ (mergeC x a b).2.1.length ≤ 1048576:=by
 rw [mergeC]
 split
 · exact ⟨⟨by simp,by simp,fun r hr=>by cases hr⟩,by simp⟩
 · refine ⟨⟨ha.1,?_,fun r hr=>?_⟩,?_⟩
   · have:=outS_len (base:=x.rows) (a:=a.rows) (b:=b.rows); show (outS x.rows a.rows b.rows).length ≤ _; omega
   · rcases outS_mem hr with h | h
     · exact ha.2.2 r h
     · exact hb.2.2 r h
   · show (confL x.rows a.rows b.rows).length ≤ _
     rw [confL,(sortS_perm _).length_eq]
     have q:=List.length_filter_le (confS x.rows a.rows b.rows) (allK a.rows b.rows)
     have q2:=kTo_len a.rows b.rows (a.rows.length + b.rows.length)
     rw [kTo_end] at q2
     omega
theorem short_bookB {b:BookD} {n:Nat} (h:shortBook b n = true):bookB b ∧ b.rows.length ≤ 259:=by
 simp only [shortBook,Bool.and_eq_true,decide_eq_true_eq] at h
 have:=short_rowsB h.2
 exact ⟨⟨by omega,this.1⟩,this.2⟩
end Go.Abs
namespace Go.Abs
open Go.Proofs
set_option maxHeartbeats 4000000
set_option maxRecDepth 100000
theorem c_hasWord (l:List (List Nat)) (k:List Nat) (h:l.length ≤ 1048576):GoodC Tryz.prog 33 [.seq (l.map .str),.str k] (.bool (decide (k ∈ l))):=by
 refine good_fn nf isF33 mix (by simp [Tryz.f33]) ?_
 simp [Tryz.f33]
 refine lp (α:=Nat) (fun i=>⟨[(5,.p (.int .i64 i)),(1,.p (.str k)),(0,.p (.seq (l.map .str)))],[]⟩) (fun i=>i ≤ l.length ∧ decide (k ∈ l) = decide (k ∈ l.drop i)) (fun i=>l.length - i) 0 (by simp) ?_
 rintro i ⟨k1,k2⟩
 by_cases hi:i < l.length
 · have hm:(k ∈ l.drop i) = (k = l[i] ∨ k ∈ l.drop (i + 1)):=by rw [List.drop_eq_getElem_cons hi,List.mem_cons]
   have k2:(k ∈ l) = (k = l[i] ∨ k ∈ l.drop (i + 1)):=by rw [← hm]; simpa using k2
   have hw:=wi1 (i:=i) (by omega)
   by_cases he:l[i] = k
   · have k2:k ∈ l:=by rw [k2]; exact .inl he.symm
     simp [hi,he,k2]
   · have he':¬ k = l[i]:=fun e=>he e.symm
     have k2:(k ∈ l) = (k ∈ l.drop (i + 1)):=by rw [k2]; simp [he']
     simp [hi,he,hw]
     exact rd (i + 1) ⟨hi,decide_eq_decide.2 (iff_of_eq k2)⟩
 · have:i = l.length:=by omega
   subst this
   simp at k2
   simp [k2]
end Go.Abs
namespace Go.Abs
def nd (n:Nat):Nat:=if h:n = 0 then 0 else nd (n / 10) + 1
 decreasing_by omega
end Go.Abs
namespace Go.Proofs
open Go.Abs
theorem Tryz.und160:Tryz.prog.underlying 160 = some (.pointer 162):=by kernel_rfl
theorem Tryz.und326:Tryz.prog.underlying 326 = some .unsafePointer:=by kernel_rfl
theorem Tryz.size162:(Tryz.prog.info? 162).map (·.size) = some 2:=by kernel_rfl
theorem Tryz.lies162:liesAt Tryz.prog Tryz.prog.depth 162 (2 / Tryz.prog.cellsOf 162) 0 162 1 = true:=by kernel_rfl
set_option maxHeartbeats 1000000 in
set_option maxRecDepth 100000 in
theorem Tryz.copyCheck_used (b : Nat) (w : World) (h0 : w.cell? ⟨b, 0, none⟩ = some (.pointer (some ⟨b, 0, none⟩))) :
    Calls Tryz.prog 180 #[.pointer (some ⟨b,0,none⟩)] w fun e w'=>e = .returned (.tuple #[]) ∧ w' = w:=by
 obtain ⟨j,hj,_⟩:=Option.map_eq_some_iff.1 Tryz.size162
 go_enter Tryz.func180,Tryz.ntmps180
 go_wp2
 rw [Lib.run_neq_ptr_same w _ Tryz.und160 hj]
 go_wp2
 go_end0
 exact ⟨rfl,rfl⟩
set_option maxHeartbeats 1000000 in
set_option maxRecDepth 100000 in
theorem Tryz.copyCheck_fresh (b : Nat) (w : World) (h0 : w.cell? ⟨b, 0, none⟩ = some (.pointer none)) (hsh : w.shape? b = some (162, 2)) (hfz : w.frozen? ⟨b, 0, none⟩ = false) :
    Calls Tryz.prog 180 #[.pointer (some ⟨b,0,none⟩)] w fun e w'=>e = .returned (.tuple #[]) ∧ w' = w.setCell ⟨b,0,none⟩ (.pointer (some ⟨b,0,none⟩)):=by
 obtain ⟨j,hj,hjs⟩:=Option.map_eq_some_iff.1 Tryz.size162
 go_enter Tryz.func180,Tryz.ntmps180
 go_wp2
 rw [Lib.run_to_unsafe w ⟨b,0,none⟩ Tryz.und160 Tryz.und326 hj (by rw [hjs]; decide) hsh (Nat.zero_lt_succ 1)]
 simp only [Result.andThen]
 rw [Oper.upon_value]
 go_wp2
 rw [run_callFunc_extern Tryz.func236 (by kernel_rfl) (by kernel_rfl) (by kernel_rfl) (e:=Extern.AbiNoEscape.same) (by kernel_rfl)]
 rw [Lib.run_noEscape]
 simp only [Result.andThen]
 rw [Oper.upon_value]
 go_wp2
 rw [Lib.run_from_unsafe w ⟨b,0,none⟩ Tryz.und326 Tryz.und160 hj hsh Tryz.lies162]
 simp only [Result.andThen]
 rw [Oper.upon_value]
 go_wp2
 go_end0
 exact ⟨rfl,rfl⟩
end Go.Proofs
namespace Go.Abs
open Go.Proofs
set_option linter.unusedSectionVars false
theorem szs161:szs Tryz.prog 161 = some [1,1]:=by kernel_rfl
section
variable {w:World} {Imm Prot:Nat → Prop} {β:Bd} {H:Heap}
theorem setCell_row {blk:Nat} {c0 c1 v:Value} {T:TypeId} (h:w.heap[blk]? = some (.cells #[c0,c1] T (0,0))):w.setCell ⟨blk,0,none⟩ v = w.setRow blk #[v,c1]:=by
 obtain ⟨hb,he⟩:=Array.getElem?_eq_some_iff.1 h
 unfold World.setCell World.setRow
 congr 1
 apply Array.ext
 · simp
 · intro i h1 h2
   simp only [Array.getElem_modify]
   by_cases hi:blk = i
   · subst hi; simp [he]
   · simp [hi]
theorem builder_cells {t x:AV} {cs:Array Value} (ht:t = mkSt 161 [.p .nptr,x] ∨ t = .st 161 [.p .nptr,x]) (h:AVC Tryz.prog w Imm β H t cs.toList):∃ y,cs = #[.pointer none,y] ∧ AVC Tryz.prog w Imm β H x [y]:=by
 have h':AVC Tryz.prog w Imm β H (.st 161 [.p .nptr,x]) cs.toList:=by
  rcases ht with rfl | rfl
  · exact AVC_mkSt.1 h
  · exact h
 simp only [AVC,szs161,Option.some.injEq] at h'
 obtain ⟨l,css,rfl,h1,h2⟩:=h'
 simp only [AVCl,AVC,PVC] at h1
 obtain ⟨c,cs1,rfl,rfl,_,c2,cs2,rfl,h3,h4,rfl⟩:=h1
 match c2,h4 with
 | [y],_=>exact ⟨y,Array.ext' (by simpa using h2),h3⟩
theorem builder_cells2 {b:Nat} {x:AV} {cs:Array Value} (h:AVC Tryz.prog w Imm β H (.st 161 [.ptr b [],x]) cs.toList):∃ v y,cs = #[v,y] ∧ RefV Tryz.prog β H (.ptr b []) v:=by
 simp only [AVC,szs161,Option.some.injEq] at h
 obtain ⟨l,css,rfl,h1,h2⟩:=h
 simp only [AVCl,AVC] at h1
 obtain ⟨c,cs1,rfl,⟨v,rfl,hv⟩,_,c2,cs2,rfl,h3,h4,rfl⟩:=h1
 match c2,h4 with
 | [y],_=>exact ⟨v,y,Array.ext' (by simpa using h2),hv⟩
end
theorem g180f {H : Heap} {b : Nat} {t x : AV} (hb : H[b]? = some (.box false t)) (ht : t = mkSt 161 [.p .nptr, x] ∨ t = .st 161 [.p .nptr, x]) :
    GoodI Tryz.prog 180 H [.ptr b []] (H.set b (.box false (.st 161 [.ptr b [],x]))) (.p (.tup [])):=by
 refine ⟨enters_fn Tryz.func180 (by kernel_rfl),fun w Imm Prot β cargs hr ha hre=>?_⟩
 simp only [AVVl,AVV] at ha
 obtain ⟨v,vs,rfl,⟨_,blk0,off0,oo,rfl,ho,hp⟩,rfl⟩:=ha
 simp only [pathOff,Option.some.injEq] at ho
 subst ho
 obtain ⟨rfl,rfl⟩:=hp (.inl ⟨false,t,hb⟩)
 obtain ⟨cs,T,k1,k2,k3,_,k5⟩:=hr.objs b _ hb
 have hsh:shpA t = .agg 161:=by
  rcases ht with rfl | rfl
  · exact shpA_mkSt _ _
  · rfl
 have hT:T = 162:=by
  rw [hsh] at k5
  exact beq2 (by simpa [bxB,Gl.bx,glOff] using k5)
 subst hT
 obtain ⟨y,rfl,hy⟩:=builder_cells ht k2
 have k3':¬ Imm (β.blk b) ∧ ¬ Prot (β.blk b):=by simpa [Held] using k3
 refine (Tryz.copyCheck_fresh (β.blk b) w (by simp [World.cell?,k1]) (by simp [World.shape?,k1]) (by simp [World.frozen?,k1])).mono ?_
 rintro e w' ⟨rfl,rfl⟩
 rw [setCell_row k1]
 have hst:HStep β H β (H.set b (.box false (.st 161 [.ptr b [],x]))):=set_step hb (.inl ⟨_,_,_,_,rfl,rfl⟩)
 have hin:∀ z,InH H z → InH (H.set b (.box false (.st 161 [.ptr b [],x]))) z:=InH_set hb (fun _ h=>h)
 have hbl:b < H.length:=(List.getElem?_eq_some_iff.1 hb).1
 have hg:(H.set b (.box false (.st 161 [.ptr b [],x])))[b]? = some (.box false (.st 161 [.ptr b [],x])):=List.getElem?_set_self hbl
 have hrx:refsLt (InH H) x:=by
  have:=hr.refs b _ hb
  rcases ht with rfl | rfl
  · simp only [Obj.refs] at this
    unfold mkSt at this
    split at this
    · rename_i l hl
      have hl:=allP_eq hl
      match l,hl with
      | [a,c],hl=>simp at hl; rw [hl.2]; simp [refsLt]
      | [],hl=>simp at hl
      | [_],hl=>simp at hl
      | _ :: _ :: _ :: _,hl=>simp at hl
    · simp only [refsLt,refsLtl] at this; exact this.2.1
  · simp only [Obj.refs,refsLt,refsLtl] at this; exact this.2.1
 have hsame:∀ k,Imm k → (w.setRow (β.blk b) #[.pointer (some ⟨β.blk b,0,none⟩),y]).heap[k]? = w.heap[k]?:=fun k hki=>setRow_other w _ k _ (fun he=>k3'.1 (he ▸ hki))
 have href:Obj.refs (InH (H.set b (.box false (.st 161 [.ptr b [],x])))) (.box false (.st 161 [.ptr b [],x])):=by
  simp only [Obj.refs,refsLt,refsLtl,and_true]
  exact ⟨⟨_,hg,trivial⟩,refsLt.mono hin _ hrx⟩
 have hpost:=write_post hr hb trivial (o':=.box false (.st 161 [.ptr b [],x])) trivial (fun _ h=>h) k1 (new:=#[.pointer (some ⟨β.blk b,0,none⟩),y]) k3' hst
  ⟨_,162,setRow_heap w _ _ _ 162 _ k1,by
   simp only [AVC,szs161,Option.some.injEq]
   refine ⟨_,[[.pointer (some ⟨β.blk b,0,none⟩)],[y]],rfl,?_,rfl⟩
   simp only [AVCl,AVC]
   exact ⟨_,_,rfl,⟨_,rfl,⟨rfl,_,_,0,rfl,rfl,fun _=>⟨rfl,rfl⟩⟩⟩,rfl,_,_,rfl,AVC.mono (fun _ x=>x) hsame hst _ _ hrx hy,rfl,rfl⟩,k3,by simp,by simp [shpA,bxB,Gl.bx]⟩ href
 exact ⟨_,β,Imm,rfl,hpost,by simp [AVV,PVV,PVVl],by simp [refsLt]⟩
theorem g180u {H:Heap} {b:Nat} {x:AV} (hb:H[b]? = some (.box false (.st 161 [.ptr b [],x]))):GoodI Tryz.prog 180 H [.ptr b []] H (.p (.tup [])):=by
 refine ⟨enters_fn Tryz.func180 (by kernel_rfl),fun w Imm Prot β cargs hr ha hre=>?_⟩
 simp only [AVVl,AVV] at ha
 obtain ⟨v,vs,rfl,⟨_,blk0,off0,oo,rfl,ho,hp⟩,rfl⟩:=ha
 simp only [pathOff,Option.some.injEq] at ho
 subst ho
 obtain ⟨rfl,rfl⟩:=hp (.inl ⟨false,_,hb⟩)
 obtain ⟨cs,T,k1,k2,k3,_,k5⟩:=hr.objs b _ hb
 obtain ⟨v,y,rfl,hv⟩:=builder_cells2 k2
 simp only [RefV,RefC] at hv
 obtain ⟨_,blk1,off1,oo,rfl,ho,hp⟩:=hv
 simp only [pathOff,Option.some.injEq] at ho
 subst ho
 obtain ⟨rfl,rfl⟩:=hp (.inl ⟨false,_,hb⟩)
 refine (Tryz.copyCheck_used (β.blk b) w (by simp [World.cell?,k1])).mono ?_
 rintro e w' ⟨rfl,rfl⟩
 exact ⟨_,β,Imm,rfl,Post.refl hr,by simp [AVV,PVV,PVVl],by simp [refsLt]⟩
end Go.Abs
namespace Go.Abs
open Go.Proofs
set_option linter.unusedSectionVars false
theorem und22:Tryz.prog.underlying 22 = some (.slice 168):=by kernel_rfl
theorem info168:(Tryz.prog.info? 168).map (·.size) = some 2:=by kernel_rfl
theorem size168 (w:World):(Go.sizeOf 168).run Tryz.prog w = .ok 2 w:=by
 obtain ⟨j,hj,hs⟩:=Option.map_eq_some_iff.1 info168
 simp [Go.sizeOf,typeInfo,hj,hs]
def rowM:Obj → Nat → Nat → Bool
 | .arr k v z es,ver,esz=>Nat.beq ver v && (Nat.beq esz z && (nfz k && nnl k es))
 | _,_,_=>false
def rowNE:Obj → Nat → Nat → Bool
 | .arr k v z (_ :: _),ver,esz=>Nat.beq ver v && (Nat.beq esz z && (nfz k && Nat.ble 1 z))
 | _,_,_=>false
theorem x294 {b ver esz off len b' ver' esz' off' len' : Nat} {o o' : Obj} (hne : b ≠ b') (h1 : rowM o ver esz = true) (h2 : rowNE o' ver' esz' = true) :
    GoodXE Tryz.prog 294 [.sl b ver esz off len,.sl b' ver' esz' off' len'] [(b,o),(b',o')] (.bool false):=by
 intro H w Imm Prot β cargs hr ha hre hin
 have hb:H[b]? = some o:=hin (b,o) (by simp)
 have hb':H[b']? = some o':=hin (b',o') (by simp)
 cases o <;> simp only [rowM] at h1 <;> first | cases h1 | skip
 rename_i k v z es
 simp only [Bool.and_eq_true] at h1
 obtain ⟨a1,a2,a3,a4⟩:=h1
 obtain rfl:=beq2 a1
 obtain rfl:=beq2 a2
 cases o' <;> simp only [rowNE] at h2 <;> first | cases h2 | skip
 rename_i k' v' z' es'
 cases es' with
 | nil=>simp [rowNE] at h2
 | cons e0 er =>
  simp only [rowNE,Bool.and_eq_true] at h2
  obtain ⟨c1,c2,c3,c4⟩:=h2
  obtain rfl:=beq2 c1
  obtain rfl:=beq2 c2
  have c4:=ble2 c4
  simp only [AVVl,AVV,RefV,RefC] at ha
  obtain ⟨x,xs,rfl,⟨_,hx⟩,y,ys,rfl,⟨_,hy⟩,rfl⟩:=ha
  obtain ⟨x1,_,x2⟩:=hx k es hb
  have hnn:¬ isNilArr k es:=nnl_ne a4
  have hnn':¬ isNilArr k' (e0 :: er):=fun h=>by cases h.2
  obtain ⟨y1,_,y2⟩:=hy k' (e0 :: er) hb'
  rw [x2 hnn,y2 hnn']
  rcases hr.objs b _ hb with hold | ⟨cs,T,css,rest,k1,k2,k3,k4,k5,k6,k7,k8⟩
  · exact (hnn hold).elim
  rcases hr.objs b' _ hb' with hold | ⟨cs',T',css',rest',l1,l2,l3,l4,l5,l6,l7,l8⟩
  · exact (hnn' hold).elim
  have hni:¬ Imm (β.blk b):=by
   have:k ≠ .frozen:=nfz_ne a3
   have hf:(k == AK.frozen) = false:=by simpa using this
   simp only [Held,hf,Bool.false_eq_true,if_false] at k7
   exact k7.1
  have hblk:β.blk b ≠ β.blk b':=fun he=>hne (hr.inj b b' _ _ hb hb' hnn hnn' hni he)
  refine ⟨.bool false,?_,by simp [PVV]⟩
  rw [run_callFunc_extern Tryz.func294 (by kernel_rfl) (by kernel_rfl) (by kernel_rfl) (e:=Extern.SlicesOverlaps.overlaps #[22,22] #[4]) (by kernel_rfl)]
  rw [Lib.run_overlaps_apart w 22 4 168 und22 2 size168 _ _ _ _ _ _ hblk T T' cs.size cs'.size (by simp [World.shape?,k1]) (by simp [World.shape?,l1]) ?_ (by simp [World.frozen?,k1]) (by simp [World.frozen?,k1])]
  · rfl
  · have:1 ≤ β.cap b':=by simp at l5; omega
    rw [l4]
    exact Nat.mul_ne_zero (by omega) (by omega)
def strsP:List PV → Option (List (List Nat))
 | []=>some []
 | .str s :: r=>match strsP r with
  | some t=>some (s :: t)
  | none=>none
 | _=>none
theorem strsP_ok:∀ {l:List PV} {ss:List (List Nat)},strsP l = some ss → l = ss.map .str
 | [],ss,h=>by simp only [strsP,Option.some.injEq] at h; subst h; rfl
 | v :: r,ss,h=>by
  cases v <;> simp only [strsP] at h <;> first | cases h | skip
  split at h
  · rename_i t ht
    simp only [Option.some.injEq] at h; subst h
    simp [strsP_ok ht]
  · cases h
def inI64:Int → Bool
 | .ofNat n=>Nat.ble n 9223372036854775807
 | .negSucc n=>Nat.ble n 9223372036854775807
theorem inI64_ok {n:Int} (h:inI64 n = true):-9223372036854775808 ≤ n ∧ n ≤ 9223372036854775807:=by
 cases n with
 | ofNat n=>have:=ble2 h; simp; omega
 | negSucc n=>have:=ble2 h; simp [Int.negSucc_eq]; omega
def hkO (f:FuncId) (vs:List PV):Option PV :=
 bif Nat.beq f 223 then match vs with
  | [.str s,.int .u8 (.ofNat c)]=>bif Nat.ble (c + 1) 256 then some (.int .i64 (idxB c s 0)) else none
  | _=>none
 else bif Nat.beq f 166 then match vs with
  | [.str s,.str [c]]=>some (.int .i64 (idxB c s 0))
  | _=>none
 else bif Nat.beq f 256 then match vs with
  | [.str s,.str [c]]=>some (.int .i64 (cntB c s 0:Nat))
  | _=>none
 else bif Nat.beq f 182 then match vs with
  | [.int .i64 n]=>bif inI64 n then some (.str (itoaN n)) else none
  | _=>none
 else bif Nat.beq f 159 then match vs with
  | [.lst full l,.str sep]=>match strsP l with
   | some ss=>bif Nat.ble ss.length 140737488355328 && Nat.ble (joinN sep ss).length 140737488355328 then some (.str (joinN sep ss)) else none
   | none=>none
  | [.nsl,.str _]=>some (.str [])
  | _=>none
 else bif Nat.beq f 73 then match vs with
  | [.str s,.int .i64 (.ofNat n)]=>bif Nat.ble n 9223372036854775807 && Nat.ble (s.length * n) 140737488355328 then some (.str (repN s n)) else none
  | _=>none
 else bif Nat.beq f 239 then match vs with
  | [.str s]=>match Lib.atoiAll (s.map UInt8.ofNat) with
   | .ok v=>bif Nat.ble s.length 9223372036854775806 then some (.tup [.int .i64 v,.nif]) else none
   | _=>none
  | _=>none
 else none
theorem hkO_ok {f:FuncId} {vs:List PV} {v:PV} (h:hkO f vs = some v):GoodC Tryz.prog f vs v:=by
 unfold hkO at h
 simp only [Bool.cond_eq_ite] at h
 split at h
 · rename_i hf; obtain rfl:=beq2 hf
   split at h
   · simp only [Option.ite_none_right_eq_some,Option.some.injEq] at h
     obtain ⟨h1,rfl⟩:=h
     exact h223 _ _ (ble2 h1)
   · cases h
 split at h
 · rename_i hf; obtain rfl:=beq2 hf
   split at h
   · simp only [Option.some.injEq] at h; subst h; exact h166 _ _
   · cases h
 split at h
 · rename_i hf; obtain rfl:=beq2 hf
   split at h
   · simp only [Option.some.injEq] at h; subst h; exact h256 _ _
   · cases h
 split at h
 · rename_i hf; obtain rfl:=beq2 hf
   split at h
   · simp only [Option.ite_none_right_eq_some,Option.some.injEq] at h
     obtain ⟨h1,rfl⟩:=h
     exact h182 _ (inI64_ok h1).1 (inI64_ok h1).2
   · cases h
 split at h
 · rename_i hf; obtain rfl:=beq2 hf
   split at h
   · split at h
     · rename_i ss hs
       simp only [Option.ite_none_right_eq_some,Bool.and_eq_true,Option.some.injEq] at h
       obtain ⟨⟨h1,h2⟩,rfl⟩:=h
       rw [strsP_ok hs]
       exact h159 _ _ _ (ble2 h1) (ble2 h2)
     · cases h
   · simp only [Option.some.injEq] at h; subst h; exact h159n _
   · cases h
 split at h
 · rename_i hf; obtain rfl:=beq2 hf
   split at h
   · simp only [Option.ite_none_right_eq_some,Bool.and_eq_true,Option.some.injEq] at h
     obtain ⟨⟨h1,h2⟩,rfl⟩:=h
     exact h73 _ _ (ble2 h1) (ble2 h2)
   · cases h
 split at h
 · rename_i hf; obtain rfl:=beq2 hf
   split at h
   · split at h
     · rename_i v hv
       simp only [Option.ite_none_right_eq_some,Option.some.injEq] at h
       obtain ⟨h1,rfl⟩:=h
       exact h239 _ _ hv (ble2 h1)
     · cases h
   · cases h
 cases h
def hkI (f:FuncId) (args:List AV) (H:Heap):Option (AV × Heap) :=
 bif Nat.beq f 180 then match args with
  | [.ptr b []]=>match H[b]? with
   | some (.box false (.p (.st u [.nptr,x])))=>bif Nat.beq u 161 then some (.p (.tup []),H.set b (.box false (.st 161 [.ptr b [],.p x]))) else none
   | some (.box false (.st u [.p .nptr,x]))=>bif Nat.beq u 161 then some (.p (.tup []),H.set b (.box false (.st 161 [.ptr b [],x]))) else none
   | some (.box false (.st u [.ptr b' [],_]))=>bif Nat.beq u 161 && Nat.beq b' b then some (.p (.tup []),H) else none
   | _=>none
  | _=>none
 else none
theorem hkI_ok {f:FuncId} {args:List AV} {H H':Heap} {v:AV} (h:hkI f args H = some (v,H')):GoodI Tryz.prog f H args H' v:=by
 unfold hkI at h
 simp only [Bool.cond_eq_ite] at h
 split at h
 case isFalse=>cases h
 rename_i hf; obtain rfl:=beq2 hf
 split at h
 case h_2=>cases h
 split at h
 · rename_i hb
   simp only [Option.ite_none_right_eq_some,Option.some.injEq,Prod.mk.injEq] at h
   obtain ⟨h1,rfl,rfl⟩:=h
   obtain rfl:=beq2 h1
   exact g180f hb (.inl rfl)
 · rename_i hb
   simp only [Option.ite_none_right_eq_some,Option.some.injEq,Prod.mk.injEq] at h
   obtain ⟨h1,rfl,rfl⟩:=h
   obtain rfl:=beq2 h1
   exact g180f hb (.inr rfl)
 · rename_i hb
   simp only [Option.ite_none_right_eq_some,Option.some.injEq,Prod.mk.injEq,Bool.and_eq_true] at h
   obtain ⟨⟨h1,h2⟩,rfl,rfl⟩:=h
   obtain rfl:=beq2 h1
   obtain rfl:=beq2 h2
   exact g180u hb
 · cases h
def hkX (f:FuncId) (args:List AV) (H:Heap):Option (List (Nat × Obj) × PV) :=
 bif Nat.beq f 294 then match args with
  | [.sl b ver esz _ _,.sl b' ver' esz' _ _]=>match H[b]?,H[b']? with
   | some o,some o'=>bif Nat.beq b b' then none else (bif rowM o ver esz && rowNE o' ver' esz' then some ([(b,o),(b',o')],.bool false) else none)
   | _,_=>none
  | _=>none
 else none
theorem hkX_ok {f:FuncId} {args:List AV} {H:Heap} {hin:List (Nat × Obj)} {v:PV} (h:hkX f args H = some (hin,v)):GoodXE Tryz.prog f args hin v ∧ ∀ p ∈ hin,H[p.1]? = some p.2:=by
 unfold hkX at h
 simp only [Bool.cond_eq_ite] at h
 split at h
 case isFalse=>cases h
 rename_i hf; obtain rfl:=beq2 hf
 split at h
 case h_2=>cases h
 split at h
 case h_2=>cases h
 rename_i o o' hb hb'
 split at h
 · cases h
 rename_i hne
 simp only [Option.ite_none_right_eq_some,Option.some.injEq,Prod.mk.injEq,Bool.and_eq_true] at h
 obtain ⟨⟨h1,h2⟩,rfl,rfl⟩:=h
 refine ⟨x294 (fun e=>hne (by rw [e]; exact Nat.beq_refl _)) h1 h2,?_⟩
 intro p hp
 simp only [List.mem_cons,List.not_mem_nil,or_false] at hp
 rcases hp with rfl | rfl
 · exact hb
 · exact hb'
end Go.Abs
namespace Go.Abs
open Go.Proofs
def AllFn (P:Program):List (Nat × Func) → Prop
 | []=>True
 | p :: r=>IsFn P p.1 p.2 ∧ AllFn P r
theorem lookT_ok {P:Program}:∀ {l:List (Nat × Func)},AllFn P l → ∀ {f:Nat} {fn:Func},lookT l f = some fn → IsFn P f fn
 | [],_,f,fn,h=>by simp [lookT] at h
 | (i,g) :: r,ha,f,fn,h=>by
  simp only [lookT,Bool.cond_eq_ite] at h
  split at h
  · rename_i hf
    simp only [Option.some.injEq] at h
    subst h
    rw [beq2 hf]; exact ha.1
  · exact lookT_ok ha.2 h
theorem tab_ok:AllFn Tryz.prog tabL:=⟨isF17,isF19,isF20,isF21,isF25,isF28,isF29,isF31,isF36,isF45,isF46,isF55,isF56,isF61,isF63,isF64,isF66,isF67,isF72,isF73,isF77,isF88,isF89,isF90,isF91,isF92,isF93,isF94,isF95,isF96,isF97,isF98,isF99,isF100,isF101,isF102,isF103,isF104,isF105,isF106,isF107,isF109,isF110,isF111,isF115,isF117,isF118,isF119,isF124,isF125,isF126,isF127,isF128,isF129,isF130,isF131,isF132,isF138,isF139,isF140,isF141,isF144,isF145,isF146,isF148,isF151,isF152,isF153,isF154,isF157,isF158,isF159,isF160,isF161,isF163,isF164,isF165,isF166,isF167,isF168,isF169,isF170,isF171,isF172,isF177,isF178,isF179,isF180,isF181,isF182,isF183,isF184,isF185,isF186,isF187,isF188,isF189,isF190,isF191,isF192,isF193,isF194,isF195,isF196,isF197,isF199,isF200,isF201,isF202,isF203,isF204,isF205,isF206,isF207,isF208,isF209,isF210,isF212,isF213,isF214,isF215,isF216,isF217,isF218,isF221,isF222,isF223,isF225,isF226,isF227,isF228,isF229,isF230,isF231,isF232,isF233,isF234,isF235,isF237,isF238,isF239,isF240,isF241,isF242,isF243,isF244,isF245,isF246,isF247,isF248,isF249,isF250,isF251,isF252,isF255,isF256,isF257,isF258,isF259,isF260,isF261,isF262,isF263,isF264,isF265,isF266,isF267,isF268,isF269,isF270,isF271,isF273,isF275,isF276,isF277,isF278,isF279,isF280,isF281,isF282,isF283,isF284,isF285,isF286,isF287,isF288,isF289,isF290,isF291,isF292,isF293,isF295,isF296,isF298,isF299,isF300,isF301,isF302,isF303,isF304,isF305,isF306,isF307,isF308,isF309,isF310,isF311,isF312,isF313,isF314,isF315,isF316,isF317,isF318,isF319,isF320,isF321,isF322,isF323,isF324,isF325,isF326,isF327,isF328,isF329,isF330,isF331,isF332,isF333,isF334,isF335,isF336,trivial⟩
def memN (n:Nat):List Nat → Bool
 | []=>false
 | x :: r=>bif Nat.beq n x then true else memN n r
def polL:List Nat:=[190]
def polT:List (Nat × Nat × Nat):=[(67,124,1),(46,130,3),(46,129,3),(17,91,1),(152,206,3),(146,207,3),(146,208,3),(146,209,3),(146,210,3),(210,251,3),(210,252,3),(210,249,3)]
def polF (c f:Nat):List (Nat × Nat × Nat) → Option Nat
 | []=>none
 | (a,b,n) :: r=>bif Nat.beq a c && Nat.beq b f then some n else polF c f r
def polC (c f:Nat):Nat:=match polF c f polT with
 | some n=>n
 | none=>bif memN f [124,159] then 2 else bif memN f [97,100,101] then 3 else bif memN f polL then 1 else 0
noncomputable def plan (facts:FuncId → List PV → Option PV):Plan:=⟨lookT tabL,fun f vs=>match facts f vs with
 | some v=>some v
 | none=>hkO f vs,hkI,polC,hkX⟩
theorem plan_ok {facts:FuncId → List PV → Option PV} (h:∀ f vs v,facts f vs = some v → GoodC Tryz.prog f vs v):PlanOk Tryz.prog (plan facts):=by
 refine ⟨mix,fun f fn hf=>lookT_ok tab_ok hf,fun f vs v hk=>?_,fun f args H v H' hk=>hkI_ok hk,fun f args H hin v hk=>hkX_ok hk⟩
 simp only [plan] at hk
 split at hk
 · rename_i hf
   simp only [Option.some.injEq] at hk; subst hk
   exact h _ _ _ hf
 · exact hkO_ok hk
noncomputable def run0 (facts:FuncId → List PV → Option PV) (f:FuncId) (vs:List PV):Option PV:=runP Tryz.prog nf (plan facts) (callsR Tryz.prog nf (plan facts) 20) f vs
theorem run0_ok {facts:FuncId → List PV → Option PV} (h:∀ f vs v,facts f vs = some v → GoodC Tryz.prog f vs v) {f:FuncId} {vs:List PV} {v:PV} (hr:run0 facts f vs = some v):GoodC Tryz.prog f vs v:=reckon 20 (plan_ok h) hr
def noF:FuncId → List PV → Option PV:=fun _ _=>none
end Go.Abs
namespace Go.Abs
open Go.Proofs
set_option maxRecDepth 100000
def samN:List Nat → List Nat → Bool
 | [],[]=>true
 | x :: a,y :: b=>bif Nat.beq x y then samN a b else false
 | _,_=>false
theorem samN_eq:∀ {a b:List Nat},samN a b = true → a = b
 | [],[],_=>rfl
 | [],_ :: _,h=>by simp [samN] at h
 | _ :: _,[],h=>by simp [samN] at h
 | x :: a,y :: b,h=>by
  simp only [samN,Bool.cond_eq_ite] at h
  split at h
  · rename_i hx; rw [Nat.eq_of_beq_eq_true hx,samN_eq h]
  · cases h
def samI:Int → Int → Bool
 | .ofNat a,.ofNat b=>Nat.beq a b
 | .negSucc a,.negSucc b=>Nat.beq a b
 | _,_=>false
theorem samI_eq:∀ {a b:Int},samI a b = true → a = b
 | .ofNat a,.ofNat b,h=>by simp only [samI] at h; rw [Nat.eq_of_beq_eq_true h]
 | .negSucc a,.negSucc b,h=>by simp only [samI] at h; rw [Nat.eq_of_beq_eq_true h]
 | .ofNat a,.negSucc b,h=>by simp [samI] at h
 | .negSucc a,.ofNat b,h=>by simp [samI] at h
mutual
def samV:PV → PV → Bool
 | .int .i64 a,.int .i64 b=>samI a b
 | .str a,.str b=>samN a b
 | .nsl,.nsl=>true
 | .lst f a,.lst g b=>bif Bool.xor f g then false else samL a b
 | .st u a,.st v b=>bif Nat.beq u v then samL a b else false
 | .tup a,.tup b=>samL a b
 | _,_=>false
def samL:List PV → List PV → Bool
 | [],[]=>true
 | a :: l,b :: m=>bif samV a b then samL l m else false
 | _,_=>false
end
mutual
theorem samV_eq:∀ {a b:PV},samV a b = true → a = b
 | a,b,h=>by
  unfold samV at h
  split at h
  · rw [samI_eq h]
  · rw [samN_eq h]
  · rfl
  · rename_i f a g b
    cases f <;> cases g <;> simp only [Bool.xor_self,Bool.xor_true,Bool.xor_false,Bool.not_false,cond_true,cond_false] at h
    · rw [samL_eq h]
    · cases h
    · cases h
    · rw [samL_eq h]
  · simp only [Bool.cond_eq_ite] at h
    split at h
    · rename_i hu; rw [Nat.eq_of_beq_eq_true hu,samL_eq h]
    · cases h
  · rw [samL_eq h]
  · cases h
theorem samL_eq:∀ {a b:List PV},samL a b = true → a = b
 | [],[],_=>rfl
 | [],_ :: _,h=>by simp [samL] at h
 | _ :: _,[],h=>by simp [samL] at h
 | a :: l,b :: m,h=>by
  simp only [samL,Bool.cond_eq_ite] at h
  split at h
  · rename_i hv; rw [samV_eq hv,samL_eq h]
  · cases h
end
def knownF:List (FuncId × List PV × PV) → FuncId → List PV → Option PV
 | [],_,_=>none
 | (g,us,v) :: r,f,vs=>bif Nat.beq g f then (bif samL us vs then some v else knownF r f vs) else knownF r f vs
def AllG (P:Program) [Gl]:List (FuncId × List PV × PV) → Prop
 | []=>True
 | (g,us,v) :: r=>GoodC P g us v ∧ AllG P r
theorem knownF_ok {P:Program} [Gl]:∀ {l:List (FuncId × List PV × PV)},AllG P l → ∀ f vs v,knownF l f vs = some v → GoodC P f vs v
 | [],_,f,vs,v,h=>by simp [knownF] at h
 | (g,us,w) :: r,ha,f,vs,v,h=>by
  simp only [knownF,Bool.cond_eq_ite] at h
  split at h
  · rename_i hg
    split at h
    · rename_i hs
      simp only [Option.some.injEq] at h
      subst h
      rw [← samL_eq hs,← Nat.eq_of_beq_eq_true hg]; exact ha.1
    · exact knownF_ok ha.2 f vs v h
  · exact knownF_ok ha.2 f vs v h
def isR (v:PV):Option PV → Bool
 | some w=>samV v w
 | none=>false
theorem isR_eq {v:PV} {o:Option PV} (h:isR v o = true):o = some v:=by
 cases o with
 | none=>cases h
 | some w=>rw [samV_eq h]
def isT:Option PV → Bool | some (.bool true)=>true | _=>false
theorem isT_eq {o:Option PV} (h:isT o = true):o = some (.bool true):=by
 unfold isT at h; split at h
 · rfl
 · cases h
theorem by_run {f:FuncId} {vs:List PV} {v:PV} (h:isR v (run0 noF f vs) = true):GoodC Tryz.prog f vs v:=run0_ok (fun _ _ _ h=>by cases h) (isR_eq h)
end Go.Abs
namespace Go.Abs
open Go.Proofs
structure EventD where
 num:Int
 kind:List Nat
 names:List (List Nat)
 vals:List Int
 text:List Nat
 deriving DecidableEq
def eEvent (e:EventD):PV:=.st 60 [.int .i64 e.num,.str e.kind,.seq (e.names.map .str),.seq (e.vals.map (.int .i64)),.str e.text]
@[simp] theorem shp_eEvent {e:EventD}:shp (eEvent e) = .agg 60:=rfl
def withinE (n lo hi:Int):Int:=whenE (decide (n < lo) || decide (n > hi)) 3
def chkNames:List (List Nat) → Int
 | []=>0
 | s :: r=>if isName s = true then chkNames r else 8
end Go.Abs
namespace Go.Abs
structure VerD where
 name:List Nat
 level:Int
 parents:List (List Nat)
 book:BookD
 deriving DecidableEq
def nameIs (k:List Nat) (v:VerD):Bool:=decide (v.name = k)
def verAt (h:List VerD) (k:List Nat):Option VerD:=h.find? (nameIs k)
def twiceP:List (List Nat) → Bool
 | [a,b]=>decide (a = b)
 | _=>false
def ordBad:Option (List Nat) → List Nat → Bool
 | none,_=>false
 | some q,k=>!sLess q k
def chkVer (pre:Option (List Nat)) (v:VerD):Int :=
 firstE [whenE (!isName v.name) 8,whenE (ordBad pre v.name) 11,withinE v.level 1 256,whenE (decide (2 < v.parents.length)) 5,chkNames v.parents,whenE (twiceP v.parents) 9,chkBook v.book]
def chkVersFrom:Option (List Nat) → List VerD → Int
 | _,[]=>0
 | pre,v :: r=>if chkVer pre v = 0 then chkVersFrom (some v.name) r else chkVer pre v
def lvlBad (h:List VerD):Bool:=h.any fun v=>v.parents.any fun p=>(verAt h p).any fun x=>decide (v.level ≤ x.level)
def chkHist (h:List VerD):Int:=if 256 < h.length then 5 else firstE [chkVersFrom none h,whenE (lvlBad h) 11]
def namesV (h:List VerD):List (List Nat):=h.map (·.name)
def AscV (h:List VerD):Prop:=h.Pairwise fun x y=>sLess x.name y.name = true
structure HistOk (h:List VerD):Prop where
 asc:AscV h
 lev:∀ v ∈ h,1 ≤ v.level ∧ v.level ≤ 256
 par:∀ v ∈ h,v.parents.length ≤ 2
 up:lvlBad h = false
 len:h.length ≤ 256
 nam:∀ v ∈ h,isName v.name = true
 pnam:∀ v ∈ h,chkNames v.parents = 0
 bok:∀ v ∈ h,chkBook v.book = 0
theorem firstE_zero:∀ {l:List Int},firstE l = 0 ↔ ∀ e ∈ l,e = 0
 | []=>by simp [firstE]
 | e :: r=>by
  rw [firstE]
  by_cases h:e = 0
  · simp [h,firstE_zero (l:=r)]
  · simp [h]
theorem whenE_zero {b:Bool} {e:Int} (he:e ≠ 0):whenE b e = 0 ↔ b = false:=by cases b <;> simp [whenE,he]
theorem chkVer_zero {pre:Option (List Nat)} {v:VerD} (h:chkVer pre v = 0):isName v.name = true ∧ ordBad pre v.name = false ∧ (1 ≤ v.level ∧ v.level ≤ 256) ∧ v.parents.length ≤ 2 ∧ chkNames v.parents = 0 ∧ twiceP v.parents = false ∧ chkBook v.book = 0:=by
 rw [chkVer,firstE_zero] at h
 simp only [List.mem_cons,List.not_mem_nil,or_false,forall_eq_or_imp,forall_eq] at h
 obtain ⟨h1,h2,h3,h4,h5,h6,h7⟩:=h
 rw [whenE_zero (by omega)] at h1 h2 h4 h6
 rw [withinE,whenE_zero (by omega)] at h3
 simp at h1 h3 h4
 exact ⟨h1,h2,by omega,by omega,h5,h6,h7⟩
theorem chkVersFrom_zero:∀ {h:List VerD} {pre:Option (List Nat)},chkVersFrom pre h = 0 → (∀ v ∈ h,∃ pre',chkVer pre' v = 0) ∧ AscV h ∧ ∀ q,pre = some q → ∀ v ∈ h,sLess q v.name = true
 | [],_,_=>by simp [AscV]
 | v :: r,pre,hz=>by
  rw [chkVersFrom] at hz
  by_cases hv:chkVer pre v = 0
  · rw [if_pos hv] at hz
    obtain ⟨h1,h2,h3⟩:=chkVersFrom_zero hz
    have h3:=h3 _ rfl
    refine ⟨?_,List.pairwise_cons.2 ⟨h3,h2⟩,?_⟩
    · intro u hu
      rcases List.mem_cons.1 hu with rfl | hu
      · exact ⟨_,hv⟩
      · exact h1 u hu
    · rintro q rfl u hu
      have hq:sLess q v.name = true:=by
       have:=(chkVer_zero hv).2.1
       simpa [ordBad] using this
      rcases List.mem_cons.1 hu with rfl | hu
      · exact hq
      · exact sLess_trans hq (h3 u hu)
  · rw [if_neg hv] at hz; exact (hv hz).elim
theorem histOk {h:List VerD} (hz:chkHist h = 0):HistOk h:=by
 rw [chkHist] at hz
 split at hz
 · omega
 · rename_i hl
   rw [firstE_zero] at hz
   simp only [List.mem_cons,List.not_mem_nil,or_false,forall_eq_or_imp,forall_eq] at hz
   obtain ⟨h1,h2⟩:=hz
   rw [whenE_zero (by omega)] at h2
   obtain ⟨k1,k2,_⟩:=chkVersFrom_zero h1
   have key:∀ v ∈ h,isName v.name = true ∧ (1 ≤ v.level ∧ v.level ≤ 256) ∧ v.parents.length ≤ 2 ∧ chkNames v.parents = 0 ∧ chkBook v.book = 0:=fun v hv=>by
    obtain ⟨_,hp⟩:=k1 v hv
    obtain ⟨a,_,c,d,e,_,g⟩:=chkVer_zero hp
    exact ⟨a,c,d,e,g⟩
   exact ⟨k2,fun v hv=>(key v hv).2.1,fun v hv=>(key v hv).2.2.1,h2,by omega,fun v hv=>(key v hv).1,fun v hv=>(key v hv).2.2.2.1,fun v hv=>(key v hv).2.2.2.2⟩
theorem AscV.names {h:List VerD} (ha:AscV h):(namesV h).Nodup:=by
 rw [namesV,List.Nodup,List.pairwise_map]
 refine ha.imp ?_
 intro a b hab e
 rw [e,sLess_irr] at hab; cases hab
theorem AscV.asc {h:List VerD} (ha:AscV h):Asc (namesV h):=by
 rw [namesV,Asc,List.pairwise_map]
 exact ha.imp fun hab=>sLess_asym hab
theorem verAt_mem {h:List VerD} {k:List Nat} {v:VerD} (hv:verAt h k = some v):v ∈ h ∧ v.name = k :=
 ⟨List.mem_of_find?_eq_some hv,by simpa [nameIs] using List.find?_some hv⟩
theorem verAt_of {h:List VerD} (hn:(namesV h).Nodup) {v:VerD} (hv:v ∈ h):verAt h v.name = some v:=by
 induction h with
 | nil=>cases hv
 | cons x r ih =>
  simp only [namesV,List.map_cons,List.nodup_cons] at hn
  rw [verAt,List.find?_cons]
  rcases List.mem_cons.1 hv with rfl | hv
  · simp [nameIs]
  · have:x.name ≠ v.name:=fun e=>hn.1 (by rw [e]; exact List.mem_map_of_mem hv)
    simp only [nameIs,this,decide_false]
    exact ih hn.2 hv
theorem verAt_none {h:List VerD} {k:List Nat}:verAt h k = none ↔ k ∉ namesV h:=by
 simp [verAt,nameIs,namesV]
theorem lvlBad_false {h:List VerD} (hu:lvlBad h = false) {v x:VerD} (hv:v ∈ h) {p:List Nat} (hp:p ∈ v.parents) (hx:verAt h p = some x):x.level < v.level:=by
 rw [lvlBad,List.any_eq_false] at hu
 have h1:=hu v hv
 rw [Bool.not_eq_true,List.any_eq_false] at h1
 have h2:=h1 p hp
 simp [hx] at h2
 exact h2
def wholeF (h:List VerD):Nat → List Nat → Bool
 | 0,_=>false
 | f + 1,k=>(verAt h k).any fun v=>v.parents.all (wholeF h f)
def wholeS (h:List VerD) (k:List Nat):Bool:=wholeF h 256 k
theorem wholeF_eq {h:List VerD} (ok:HistOk h):∀ (f g:Nat) (k:List Nat),(∀ v,verAt h k = some v → v.level ≤ f ∧ v.level ≤ g) → wholeF h f k = wholeF h g k
 | 0,0,_,_=>rfl
 | 0,g + 1,k,hk=>by
  cases hv:verAt h k with
  | none=>simp [wholeF,hv]
  | some v =>
   have:=ok.lev v (verAt_mem hv).1
   have:=hk v hv
   omega
 | f + 1,0,k,hk=>by
  cases hv:verAt h k with
  | none=>simp [wholeF,hv]
  | some v =>
   have:=ok.lev v (verAt_mem hv).1
   have:=hk v hv
   omega
 | f + 1,g + 1,k,hk=>by
  cases hv:verAt h k with
  | none=>simp [wholeF,hv]
  | some v =>
   have h1:=hk v hv
   simp only [wholeF,hv,Option.any_some]
   rw [Bool.eq_iff_iff,List.all_eq_true,List.all_eq_true]
   have key:∀ p ∈ v.parents,wholeF h f p = wholeF h g p:=fun p hp=>wholeF_eq ok f g p fun x hx=>by
    have:=lvlBad_false ok.up (verAt_mem hv).1 hp hx
    omega
   exact ⟨fun q p hp=>by rw [← key p hp]; exact q p hp,fun q p hp=>by rw [key p hp]; exact q p hp⟩
theorem whole_eq {h:List VerD} (ok:HistOk h) (k:List Nat):wholeS h k = (verAt h k).any fun v=>v.parents.all (wholeS h):=by
 have:wholeS h k = wholeF h 257 k:=wholeF_eq ok 256 257 k fun v hv=>by have:=(ok.lev v (verAt_mem hv).1).2; omega
 rw [this]; rfl
theorem whole_of {h:List VerD} (ok:HistOk h) {v:VerD} (hv:v ∈ h):wholeS h v.name = v.parents.all (wholeS h):=by
 rw [whole_eq ok,verAt_of ok.asc.names hv]; rfl
def ancF (h:List VerD):Nat → List Nat → List Nat → Bool
 | 0,_,_=>false
 | f + 1,k,a=>decide (k = a) || (verAt h k).any fun v=>v.parents.any fun p=>ancF h f p a
def ancS (h:List VerD) (k a:List Nat):Bool:=ancF h 257 k a
theorem ancF_eq {h:List VerD} (ok:HistOk h) (a:List Nat):∀ (f g:Nat) (k:List Nat),1 ≤ f → 1 ≤ g → (∀ v,verAt h k = some v → v.level < f ∧ v.level < g) → ancF h f k a = ancF h g k a
 | 0,_,_,h1,_,_=>by omega
 | _,0,_,_,h1,_=>by omega
 | f + 1,g + 1,k,_,_,hk=>by
  cases hv:verAt h k with
  | none=>simp [ancF,hv]
  | some v =>
   have h1:=hk v hv
   have h2:=ok.lev v (verAt_mem hv).1
   simp only [ancF,hv,Option.any_some]
   have key:∀ p ∈ v.parents,ancF h f p a = ancF h g p a:=fun p hp=>ancF_eq ok a f g p (by omega) (by omega) fun x hx=>by
    have:=lvlBad_false ok.up (verAt_mem hv).1 hp hx
    omega
   congr 1
   rw [Bool.eq_iff_iff,List.any_eq_true,List.any_eq_true]
   exact ⟨fun ⟨p,hp,q⟩=>⟨p,hp,by rw [← key p hp]; exact q⟩,fun ⟨p,hp,q⟩=>⟨p,hp,by rw [key p hp]; exact q⟩⟩
theorem anc_eq {h:List VerD} (ok:HistOk h) (k a:List Nat):ancS h k a = (decide (k = a) || (verAt h k).any fun v=>v.parents.any fun p=>ancS h p a):=by
 have:ancS h k a = ancF h 258 k a:=ancF_eq ok a 257 258 k (by omega) (by omega) fun v hv=>by have:=(ok.lev v (verAt_mem hv).1).2; omega
 rw [this]; rfl
theorem anc_self {h:List VerD} (ok:HistOk h) (k:List Nat):ancS h k k = true:=by rw [anc_eq ok]; simp
theorem anc_par {h:List VerD} (ok:HistOk h) {k a p:List Nat} {v:VerD} (hv:verAt h k = some v) (hp:p ∈ v.parents) (ha:ancS h p a = true):ancS h k a = true:=by
 rw [anc_eq ok,hv]
 simp only [Option.any_some,Bool.or_eq_true,List.any_eq_true]
 exact .inr ⟨p,hp,ha⟩
theorem anc_closed {h:List VerD} (ok:HistOk h) {S:List Nat → Prop} (hS:∀ k v p,S k → verAt h k = some v → p ∈ v.parents → S p):∀ (f:Nat) (k a:List Nat),ancF h f k a = true → S k → S a
 | 0,_,_,h,_=>by simp [ancF] at h
 | f + 1,k,a,hh,hk=>by
  simp only [ancF,Bool.or_eq_true,decide_eq_true_eq] at hh
  rcases hh with rfl | hh
  · exact hk
  · cases hv:verAt h k with
    | none=>simp [hv] at hh
    | some v =>
     simp only [hv,Option.any_some,List.any_eq_true] at hh
     obtain ⟨p,hp,q⟩:=hh
     exact anc_closed ok hS f p a q (hS k v p hk hv hp)
theorem anc_trans {h:List VerD} (ok:HistOk h) {k a b:List Nat} (h1:ancS h k a = true) (h2:ancS h a b = true):ancS h k b = true:=by
 refine anc_closed ok (S:=fun x=>ancS h k x = true) ?_ 257 a b h2 h1
 intro x v p hx hv hp
 have key:∀ (f:Nat) (k:List Nat),ancF h f k x = true → ancS h k p = true:=by
  intro f
  induction f with
  | zero=>intro k hk; simp [ancF] at hk
  | succ f ih =>
   intro k hk
   simp only [ancF,Bool.or_eq_true,decide_eq_true_eq] at hk
   rcases hk with rfl | hk
   · exact anc_par ok hv hp (anc_self ok p)
   · cases hv':verAt h k with
     | none=>simp [hv'] at hk
     | some u =>
      simp only [hv',Option.any_some,List.any_eq_true] at hk
      obtain ⟨q,hq,r⟩:=hk
      exact anc_par ok hv' hq (ih q r)
 exact key 257 k hx
theorem anc_whole {h:List VerD} (ok:HistOk h) {k a:List Nat} (hk:wholeS h k = true) (ha:ancS h k a = true):wholeS h a = true:=by
 refine anc_closed ok (S:=fun x=>wholeS h x = true) ?_ 257 k a ha hk
 intro k v p hk hv hp
 rw [whole_eq ok,hv] at hk
 simp only [Option.any_some,List.all_eq_true] at hk
 exact hk p hp
theorem whole_at {h:List VerD} (ok:HistOk h) {k:List Nat} (hk:wholeS h k = true):∃ v,verAt h k = some v ∧ ∀ p ∈ v.parents,wholeS h p = true:=by
 rw [whole_eq ok] at hk
 cases hv:verAt h k with
 | none=>simp [hv] at hk
 | some v =>
  simp only [hv,Option.any_some,List.all_eq_true] at hk
  exact ⟨v,rfl,hk⟩
end Go.Abs
namespace Go.Abs
open Go.Proofs
@[simp] theorem ki299:kindOf Tryz.prog 299 = .leaf:=by kernel_rfl
@[simp] theorem tz299:tzero Tryz.prog 299 = some (.nfunc):=by kernel_rfl
end Go.Abs
namespace Go.Abs
open Go.Proofs
set_option maxHeartbeats 4000000
set_option maxRecDepth 100000
theorem c_within (n lo hi:Int):GoodC Tryz.prog 128 [.int .i64 n,.int .i64 lo,.int .i64 hi] (.int .i64 (withinE n lo hi)):=by
 refine good_fn nf isF128 mix (by simp [Tryz.f128]) ?_
 by_cases h1:n < lo
 · simp [Tryz.f128,h1]
   refine c2 (c_when true 3) ?_
   simp [withinE,h1]
 · by_cases h2:hi < n
   · simp [Tryz.f128,h1,h2]
     refine c2 (c_when true 3) ?_
     simp [withinE,h1,h2]
   · simp [Tryz.f128,h1,h2]
     refine c2 (c_when false 3) ?_
     simp [withinE,h1,h2]
end Go.Abs
namespace Go.Abs
open Go.Proofs
set_option maxHeartbeats 4000000
set_option maxRecDepth 100000
def eVer (v:VerD):PV:=.st 147 [.str v.name,.int .i64 v.level,.seq (v.parents.map .str),eBook v.book]
def rVer (v:VerD):PV:=.st 196 [.str v.name,.int .i64 v.level,.seq (v.parents.map .str),rBook v.book]
def eHist (h:List VerD):PV:=.st 75 [.seq (h.map eVer)]
def zVer:VerD:=⟨[],0,[],⟨[],[]⟩⟩
@[simp] theorem shp_eVer {v:VerD}:shp (eVer v) = .agg 147:=rfl
@[simp] theorem shp_rVer {v:VerD}:shp (rVer v) = .agg 196:=rfl
@[simp] theorem shp_eHist {h:List VerD}:shp (eHist h) = .agg 75:=rfl
def verB (v:VerD):Prop:=v.name.length ≤ 1048576 ∧ v.parents.length ≤ 1048576 ∧ (∀ p ∈ v.parents,p.length ≤ 1048576) ∧ bookB v.book
def histB (h:List VerD):Prop:=h.length ≤ 1048576 ∧ ∀ v ∈ h,verB v
theorem eVer_mk (n:List Nat) (l:Int) (p:List (List Nat)) (b:BookD):eVer ⟨n,l,p,b⟩ = .st 147 [.str n,.int .i64 l,.seq (p.map .str),eBook b]:=rfl
theorem rVer_mk (n:List Nat) (l:Int) (p:List (List Nat)) (b:BookD):rVer ⟨n,l,p,b⟩ = .st 196 [.str n,.int .i64 l,.seq (p.map .str),rBook b]:=rfl
theorem eVer_eq (v:VerD):eVer v = .st 147 [.str v.name,.int .i64 v.level,.seq (v.parents.map .str),eBook v.book]:=rfl
theorem rVer_eq (v:VerD):rVer v = .st 196 [.str v.name,.int .i64 v.level,.seq (v.parents.map .str),rBook v.book]:=rfl
theorem firstE_app:∀ (l m:List Int),firstE (l ++ m) = firstE [firstE l,firstE m]
 | [],m=>by simp [firstE]
 | e :: r,m=>by
  have ih:=firstE_app r m
  by_cases h:e = 0
  · subst h
    simpa [firstE] using ih
  · simp [firstE,h]
theorem firstE_one (e:Int):firstE [e] = e:=by simp [firstE]; exact fun h=>h.symm
theorem firstE_in (a b c:Int):firstE [a,firstE [b,c]] = firstE [a,b,c]:=by
 by_cases ha:a = 0 <;> by_cases hb:b = 0 <;> by_cases hc:c = 0 <;> simp [firstE,ha,hb,hc]
theorem firstE_as (a b c:Int):firstE [firstE [a,b],c] = firstE [a,firstE [b,c]]:=by
 by_cases ha:a = 0 <;> by_cases hb:b = 0 <;> by_cases hc:c = 0 <;> simp [firstE,ha,hb,hc]
theorem chkNames_snoc (p:List Nat):∀ l:List (List Nat),chkNames (l ++ [p]) = firstE [chkNames l,whenE (!isName p) 8]
 | []=>by cases h:isName p <;> simp [chkNames,firstE,whenE,h]
 | s :: r=>by
  have ih:=chkNames_snoc p r
  by_cases h:isName s = true
  · simp [chkNames,h,ih]
  · simp [chkNames,h,firstE]
theorem chkNames_take {l:List (List Nat)} {i:Nat} (hi:i < l.length):chkNames (l.take (i + 1)) = firstE [chkNames (l.take i),whenE (!isName l[i]) 8]:=by
 rw [List.take_succ_eq_append_getElem hi,chkNames_snoc]
theorem sLess_leq (a b:List Nat):(sLess a b || a == b) = !sLess b a:=by
 cases h1:sLess b a with
 | true =>
  have h2:=sLess_asym h1
  have h3:¬ a = b:=fun e=>by rw [e,sLess_irr] at h1; simp at h1
  have h4:(a == b) = false:=by simpa using h3
  simp [h2,h4]
 | false =>
  cases h2:sLess a b with
  | true=>simp
  | false =>
   have h3:(a == b) = true:=by simpa using sLess_tri h2 h1
   simp [h3]
def lastN (l:List VerD):Option (List Nat):=l.getLast?.map (·.name)
theorem twiceP_not {l:List (List Nat)} (h:l.length ≠ 2):twiceP l = false:=by
 match l,h with
 | [],_=>rfl
 | [_],_=>rfl
 | [_,_],h=>simp at h
 | _ :: _ :: _ :: _,_=>rfl
theorem c_checkVersion (v:VerD) (l:List VerD) (hv:verB v) (hl:l.length ≤ 1048576):GoodC Tryz.prog 161 [eVer v,.seq (l.map eVer)] (.int .i64 (chkVer (lastN l) v)):=by
 refine good_fn nf isF161 mix (by simp [Tryz.f161]) ?_
 obtain ⟨nm,lv,ps,bk⟩:=v
 obtain ⟨b1,b2,b3,b4⟩:=hv
 dsimp only at b1 b2 b3 b4
 simp [Tryz.f161,eVer_mk,-w_seq']
 rw [w_seq']; simp [-w_seq']
 generalize hV:PV.st 147 [.str nm,.int .i64 lv,.seq (ps.map .str),eBook bk] = V
 refine join (fun s=>getE s.env 2 = .ptr 0 [] ∧ getE s.env 5 = .p (.bool (ordBad (lastN l) nm)) ∧ s.heap = [.box false (.p V)]) ?_ ?_
 · subst hV
   rcases List.eq_nil_or_concat l with rfl | ⟨l',q,hl0⟩
   · simp [lastN,ordBad]
   · rw [List.concat_eq_append] at hl0
     subst hl0
     have hw:IntKind.i64.wrap (l'.length:Int) = (l'.length:Int):=by rw [wi64] <;> simp at hl <;> omega
     have hp:(0:Int) < (l'.length:Int) + 1:=by omega
     have e:(!sLess q.name nm) = ordBad (lastN (l' ++ [q])) nm:=by simp [lastN,ordBad]
     rw [← e]
     simp [hw,hp,eVer_eq,sLess_eq,sLess_leq]
 rintro ⟨env,heap⟩ ⟨g2,g5,hp⟩
 dsimp only at g2 g5 hp
 subst hp
 have e0:chkVer (lastN l) ⟨nm,lv,ps,bk⟩ = firstE [firstE [firstE [whenE (!isName nm) 8,whenE (ordBad (lastN l) nm) 11,withinE lv 1 256,whenE (decide (2 < ps.length)) 5],chkNames ps],whenE (twiceP ps) 9,chkBook bk]:=by
  rw [chkVer,show [whenE (!isName nm) 8,whenE (ordBad (lastN l) nm) 11,withinE lv 1 256,whenE (decide (2 < ps.length)) 5,chkNames ps,whenE (twiceP ps) 9,chkBook bk] = ([whenE (!isName nm) 8,whenE (ordBad (lastN l) nm) 11,withinE lv 1 256,whenE (decide (2 < ps.length)) 5] ++ [chkNames ps]) ++ [whenE (twiceP ps) 9,chkBook bk] from rfl,firstE_app,firstE_app _ [chkNames ps],firstE_one (chkNames ps)]
  rw [firstE_in]
 rw [e0]
 generalize ordBad (lastN l) nm = ob at *
 refine join (fun s=>getE s.env 2 = .ptr 0 [] ∧ getE s.env 6 = .p (.int .i64 (firstE [whenE (!isName nm) 8,whenE ob 11,withinE lv 1 256,whenE (decide (2 < ps.length)) 5])) ∧ s.heap = [.box false (.p V),.arr .frozen 0 1 [.p (.int .i64 (whenE (!isName nm) 8)),.p (.int .i64 (whenE ob 11)),.p (.int .i64 (withinE lv 1 256)),.p (.int .i64 (whenE (decide (2 < ps.length)) 5))]]) ?_ ?_
 · subst hV
   simp [g2,g5]
   refine e1 (c_named nm (by omega)) ?_
   simp [g2,g5]
   refine e2 (c_when ob 11) ?_
   simp [g2,g5]
   refine e3 (c_within lv 1 256) ?_
   simp [g2,g5]
   refine e2 (c_when (decide (2 < ps.length)) 5) ?_ (h1:=by simp; omega)
   simp [g2,g5]
   refine ep (h1:=?g1) (c_first [whenE (!isName nm) 8,whenE ob 11,withinE lv 1 256,whenE (decide (2 < ps.length)) 5] (by simp)) (by simp; exact ⟨rfl,rfl⟩) (by simp; exact ⟨rfl,rfl⟩) ?_
   case g1=>simp
   simp [g2]
   rfl
 rintro ⟨env,heap⟩ ⟨g2,g6,hp⟩
 dsimp only at g2 g6 hp
 subst hp
 generalize firstE [whenE (!isName nm) 8,whenE ob 11,withinE lv 1 256,whenE (decide (2 < ps.length)) 5] = E0 at *
 generalize (Obj.arr .frozen 0 1 [.p (.int .i64 (whenE (!isName nm) 8)),.p (.int .i64 (whenE ob 11)),.p (.int .i64 (withinE lv 1 256)),.p (.int .i64 (whenE (decide (2 < ps.length)) 5))]) = oo at *
 refine join (fun s=>getE s.env 2 = .ptr 0 [] ∧ getE s.env 6 = .p (.int .i64 (firstE [E0,chkNames ps])) ∧ s.heap = [.box false (.p V)]) ?_ ?_
 · subst hV
   simp [g2,g6]
   refine lp (α:=Nat) (fun i=>⟨[(42,.p (.int .i64 i)),(41,.p (.int .i64 ps.length)),(40,.p (.seq (ps.map .str))),(2,.ptr 0 []),(6,.p (.int .i64 (firstE [E0,chkNames (ps.take i)])))],[.box false (.p (.st 147 [.str nm,.int .i64 lv,.seq (ps.map .str),eBook bk]))]⟩) (fun i=>i ≤ ps.length) (fun i=>ps.length - i) 0 (by simp) ?_ (he:=by simp [g2,g6,chkNames,firstE_one,firstE])
   rintro i k1
   have hw:=wi1 (i:=i) (by omega)
   by_cases hi:i < ps.length
   · have hs:=b3 _ (List.getElem_mem hi)
     have ht:firstE [firstE [E0,chkNames (ps.take i)],whenE (!isName ps[i]) 8] = firstE [E0,chkNames (ps.take (i + 1))]:=by
      rw [chkNames_take hi,firstE_as]
     simp [hi]
     refine c1 (c_named ps[i] (by omega)) ?_
     simp
     refine cp (h1:=?g1) (c_first [firstE [E0,chkNames (ps.take i)],whenE (!isName ps[i]) 8] (by simp)) (by simp; exact ⟨rfl,rfl⟩) ?_
     case g1=>simp
     rw [ht]
     simp [hw]
     exact rd (i + 1) hi
   · have:i = ps.length:=by omega
     subst this
     simp
 rintro ⟨env,heap⟩ ⟨g2,g6,hp⟩
 dsimp only at g2 g6 hp
 subst hp
 generalize firstE [E0,chkNames ps] = E1 at *
 subst hV
 by_cases h2:ps.length = 2
 · match ps,h2 with
   | [a,b],_ =>
    have hw1:IntKind.i64.wrap 1 = 1:=by decide
    have hb:(a == b) = decide (a = b):=by by_cases h:a = b <;> simp [h]
    simp [g2,g6,hw1,hb]
    refine e2 (c_when (decide (a = b)) 9) ?_
    simp [g2,g6]
    refine e1 (c_checkBook bk b4) ?_
    simp [g2,g6]
    refine ep (h1:=?g1) (c_first [E1,whenE (decide (a = b)) 9,chkBook bk] (by simp)) (by simp; exact ⟨rfl,rfl⟩) (by simp; exact ⟨rfl,rfl⟩) ?_
    case g1=>simp
    simp [twiceP]
    try rfl
 · have hi:¬ (ps.length:Int) = 2:=by omega
   rw [twiceP_not h2]
   simp [g2,g6,hi]
   refine e2 (c_when false 9) ?_
   simp [g2,g6]
   refine e1 (c_checkBook bk b4) ?_
   simp [g2,g6]
   refine ep (h1:=?g1) (c_first [E1,whenE false 9,chkBook bk] (by simp)) (by simp; exact ⟨rfl,rfl⟩) (by simp; exact ⟨rfl,rfl⟩) ?_
   case g1=>simp
   simp
   try rfl
end Go.Abs
namespace Go.Abs
open Go.Proofs
set_option maxHeartbeats 4000000
set_option maxRecDepth 100000
def cmpS (a b:List Nat):Int:=if sLess a b = true then -1 else if sLess b a = true then 1 else 0
theorem c_isNaN (a:List Nat):GoodC Tryz.prog 247 [.str a] (.bool false):=by
 refine good_fn nf isF247 mix (by simp [Tryz.f247]) ?_
 simp [Tryz.f247]
theorem c_compare (a b:List Nat):GoodC Tryz.prog 202 [.str a,.str b] (.int .i64 (cmpS a b)):=by
 refine good_fn nf isF202 mix (by simp [Tryz.f202]) ?_
 simp [Tryz.f202]
 refine c1 (c_isNaN a) ?_
 simp
 refine c1 (c_isNaN b) ?_
 have hq:=sLess_leq a b
 cases h1:sLess a b <;> cases h2:sLess b a <;> simp only [h1,h2,Bool.true_or,Bool.false_or,Bool.not_true,Bool.not_false] at hq <;> simp_all [sLess_eq,cmpS]
theorem cmpS_neg (a b:List Nat):cmpS a b < 0 ↔ sLess a b = true:=by
 rw [cmpS]
 cases h1:sLess a b <;> cases h2:sLess b a <;> simp
theorem cmpS_zero (a b:List Nat):cmpS a b = 0 ↔ a = b:=by
 rw [cmpS]
 cases h1:sLess a b <;> cases h2:sLess b a <;> simp
 · exact sLess_tri h1 h2
 · intro e; rw [e,sLess_irr] at h2; simp at h2
 · intro e; rw [e,sLess_irr] at h1; simp at h1
 · intro e; rw [e,sLess_irr] at h1; simp at h1
theorem c_find1 (v:VerD) (k:List Nat):GoodC Tryz.prog 201 [eVer v,.str k] (.int .i64 (cmpS v.name k)):=by
 refine good_fn nf isF201 mix (by simp [Tryz.f201]) ?_
 simp [Tryz.f201,eVer_eq]
 refine c2 (c_compare v.name k) ?_
 simp
def posV (h:List VerD) (k:List Nat):Nat:=(h.takeWhile fun v=>sLess v.name k).length
theorem pos_le (h:List VerD) (k:List Nat):posV h k ≤ h.length:=(List.takeWhile_sublist _).length_le
theorem pos_lt {k:List Nat}:∀ {h:List VerD},AscV h → ∀ {m:Nat} (hm:m < h.length),sLess h[m].name k = decide (m < posV h k)
 | [],_,m,hm=>by simp at hm
 | v :: r,ha,m,hm=>by
  rw [AscV,List.pairwise_cons] at ha
  by_cases hv:sLess v.name k = true
  · have e:posV (v :: r) k = posV r k + 1:=by simp [posV,List.takeWhile_cons,hv]
    cases m with
    | zero=>simp [e,hv]
    | succ m =>
     have:=pos_lt (k:=k) ha.2 (m:=m) (by simpa using hm)
     simp [this,e]
  · have e:posV (v :: r) k = 0:=by simp [posV,List.takeWhile_cons,hv]
    cases m with
    | zero=>simp [e,hv]
    | succ m =>
     have hm':m < r.length:=by simpa using hm
     have hq:=ha.1 r[m] (List.getElem_mem hm')
     rw [e]
     simp only [List.getElem_cons_succ,Nat.not_lt_zero,decide_false]
     cases hs:(sLess r[m].name k:Bool) with
     | false=>rfl
     | true=>exact absurd (sLess_trans hq hs) hv
theorem verAt_pos {k:List Nat}:∀ {h:List VerD},AscV h → verAt h k = (h[posV h k]?).bind fun v=>if v.name = k then some v else none
 | [],_=>by simp [verAt,posV]
 | v :: r,ha=>by
  rw [AscV,List.pairwise_cons] at ha
  by_cases hv:sLess v.name k = true
  · have e:posV (v :: r) k = posV r k + 1:=by simp [posV,List.takeWhile_cons,hv]
    have hn:v.name ≠ k:=fun h=>by rw [h,sLess_irr] at hv; simp at hv
    have:=verAt_pos (k:=k) ha.2
    rw [e,List.getElem?_cons_succ,← this]
    simp [verAt,List.find?_cons,nameIs,hn]
  · have e:posV (v :: r) k = 0:=by simp [posV,List.takeWhile_cons,hv]
    rw [e]
    by_cases hn:v.name = k
    · simp [verAt,List.find?_cons,nameIs,hn]
    · have:verAt r k = none:=by
       rw [verAt_none,namesV]
       intro hm
       obtain ⟨x,hx,rfl⟩:=List.mem_map.1 hm
       exact hv (ha.1 x hx)
      simp only [verAt] at this
      simp [verAt,List.find?_cons,nameIs,hn]
      simpa [nameIs] using this
theorem c_search (h:List VerD) (k:List Nat) (ha:AscV h) (hl:h.length ≤ 1048576):GoodC Tryz.prog 200 [.seq (h.map eVer),.str k,.func 201 [] []] (.tup [.int .i64 (posV h k),.bool (verAt h k).isSome]):=by
 refine good_fn nf isF200 mix (by simp [Tryz.f200]) ?_
 have hple:=pos_le h k
 simp [Tryz.f200]
 refine lp (α:=Nat × Nat) (fun (i,j)=>⟨[(0,.p (.seq (h.map eVer))),(1,.p (.str k)),(2,.p (.func 201 [] [])),(8,.p (.int .i64 h.length)),(9,.p (.int .i64 i)),(10,.p (.int .i64 j))],[]⟩) (fun (i,j)=>i ≤ posV h k ∧ posV h k ≤ j ∧ j ≤ h.length) (fun (i,j)=>j - i) (0,h.length) (by simp [hple]) ?_
 rintro ⟨i,j⟩ ⟨k1,k2,k3⟩
 dsimp only at k1 k2 k3 ⊢
 by_cases hi:i < j
 · have hij:(i:Int) < (j:Int):=by omega
   obtain ⟨m,hm⟩:∃ m,m = (i + j) / 2:=⟨_,rfl⟩
   have hA:IntKind.i64.wrap ((i:Int) + (j:Int)) = (i:Int) + (j:Int):=by rw [wi64] <;> omega
   have hB:IntKind.u64.wrap ((i:Int) + (j:Int)) = (i:Int) + (j:Int):=by
    rw [IntWalk.u64_in]; omega
   have hC:((i:Int) + (j:Int)).fdiv (2 ^ min 1 IntKind.u64.bits) = (m:Int):=by
    have:min 1 IntKind.u64.bits = 1:=by decide
    rw [this,hm,Int.fdiv_eq_ediv_of_nonneg _ (by omega)]
    omega
   have hD:IntKind.i64.wrap (m:Int) = (m:Int):=by rw [wi64] <;> omega
   have hmi:i ≤ m:=by omega
   have hmj:m < j:=by omega
   have hmh:m < h.length:=by omega
   have hw:=wi1 (i:=m) (by omega)
   have hs:=pos_lt (k:=k) ha hmh
   clear hm
   simp [hij,hA,hB,hC,hD,hmh]
   refine c2 (c_find1 h[m] k) ?_
   by_cases hlt:m < posV h k
   · have hc:cmpS h[m].name k < 0:=by rw [cmpS_neg,hs]; simpa using hlt
     simp [hc,hw]
     exact rd (m + 1,j) ⟨by omega,k2,k3⟩ (h1:=by dsimp only; omega)
   · have hc:¬ cmpS h[m].name k < 0:=by rw [cmpS_neg,hs]; simpa using hlt
     simp [hc]
     exact rd (i,m) ⟨by omega,by omega,by omega⟩ (h1:=by dsimp only; omega)
 · have hij:¬ (i:Int) < (j:Int):=by omega
   have hp:i = posV h k:=by omega
   have hj:j = posV h k:=by omega
   subst hp
   have hv:=verAt_pos (k:=k) ha
   by_cases hlt:posV h k < h.length
   · have hlt':(posV h k:Int) < (h.length:Int):=by omega
     rw [List.getElem?_eq_getElem hlt] at hv
     simp [hij,hlt',hlt]
     refine c2 (c_find1 h[posV h k] k) ?_
     have hs:=pos_lt (k:=k) ha hlt
     simp at hs
     rw [hv]
     by_cases hn:h[posV h k].name = k
     · have h2:=(cmpS_zero h[posV h k].name k).2 hn
       simp [h2,hn]
       exact (cmpS_zero k k).2 rfl
     · have h2:¬ cmpS h[posV h k].name k = 0:=fun e=>hn ((cmpS_zero _ _).1 e)
       simp [hn,h2]
   · have hlt':¬ (posV h k:Int) < (h.length:Int):=by omega
     rw [List.getElem?_eq_none (by omega)] at hv
     simp [hij,hlt',hlt,hv]
theorem c_findV (h:List VerD) (k:List Nat) (ha:AscV h) (hl:h.length ≤ 1048576):GoodC Tryz.prog 127 [eHist h,.str k] (.tup [eVer ((verAt h k).getD zVer),.bool (verAt h k).isSome]):=by
 refine good_fn nf isF127 mix (by simp [Tryz.f127]) ?_
 simp [Tryz.f127,eHist]
 refine c3 (c_search h k ha hl) ?_
 have hv:=verAt_pos (k:=k) ha
 cases hs:verAt h k with
 | none =>
  simp [zVer,eVer,eBook]
  try rfl
 | some v =>
  have hlt:posV h k < h.length:=by
   by_cases hlt:posV h k < h.length
   · exact hlt
   · rw [List.getElem?_eq_none (by omega),hs] at hv; simp at hv
  have he:h[posV h k] = v:=by
   rw [List.getElem?_eq_getElem hlt,hs] at hv
   simp at hv
   exact hv.2.symm
  have hw:((posV h k:Int) < (h.length:Int)):=by omega
  simp [hlt,hw,he]
end Go.Abs
namespace Go.Abs
open Go.Proofs
set_option maxHeartbeats 4000000
set_option maxRecDepth 100000
def badP (h:List VerD) (l:Int) (p:List Nat):Bool:=(verAt h p).any fun x=>decide (l ≤ x.level)
def badV (h:List VerD) (v:VerD):Bool:=v.parents.any (badP h v.level)
theorem lvlBad_eq (h:List VerD):lvlBad h = h.any (badV h):=rfl
theorem any_dropV {α:Type} (f:α → Bool) {l:List α} {i:Nat} (hi:i < l.length):(l.drop i).any f = (f l[i] || (l.drop (i + 1)).any f):=by
 rw [List.drop_eq_getElem_cons hi,List.any_cons]
theorem c_checkLevels (h:List VerD) (ha:AscV h) (hb:histB h):GoodC Tryz.prog 132 [eHist h] (.int .i64 (whenE (lvlBad h) 11)):=by
 refine good_fn nf isF132 mix (by simp [Tryz.f132]) ?_
 obtain ⟨b1,b2⟩:=hb
 simp [Tryz.f132,eHist]
 refine lp (α:=Nat) (fun i=>⟨[(12,.p (.int .i64 i)),(11,.p (.int .i64 h.length)),(10,.p (.seq (h.map eVer))),(1,.ptr 0 [])],[.box false (.p (eHist h))]⟩) (fun i=>i ≤ h.length ∧ lvlBad h = (h.drop i).any (badV h)) (fun i=>h.length - i) 0 (by simp [lvlBad_eq]) ?_ (hh:=by simp [eHist])
 rintro i ⟨k1,k2⟩
 by_cases hi:i < h.length
 · have hE:=eVer_eq h[i]
   have hw:=wi1 (i:=i) (by omega)
   have hpb:=(b2 _ (List.getElem_mem hi)).2.1
   rw [any_dropV _ hi] at k2
   simp [hi,hE,eHist]
   refine lp (α:=Nat) (fun j=>⟨[(19,.p (.int .i64 j)),(18,.p (.int .i64 h[i].parents.length)),(17,.p (.seq (h[i].parents.map .str))),(12,.p (.int .i64 i)),(11,.p (.int .i64 h.length)),(10,.p (.seq (h.map eVer))),(4,.ptr 1 []),(1,.ptr 0 [])],[.box false (.p (eHist h)),.box false (.p (eVer h[i]))]⟩) (fun j=>j ≤ h[i].parents.length ∧ badV h h[i] = (h[i].parents.drop j).any (badP h h[i].level)) (fun j=>h[i].parents.length - j) 0 (by simp [badV]) ?_ (hh:=by simp [eHist,hE])
   rintro j ⟨q1,q2⟩
   by_cases hj:j < h[i].parents.length
   · have hw2:=wi1 (i:=j) (by omega)
     rw [any_dropV _ hj] at q2
     simp [hj,eHist]
     refine c2 (c_findV h h[i].parents[j] ha b1) ?_
     rw [badP] at q2
     cases hx:verAt h h[i].parents[j] with
     | none =>
      rw [hx] at q2
      simp at q2
      simp [hx,eVer_eq,zVer,eBook,hw2]
      exact rd (j + 1) ⟨hj,q2⟩ (hh:=by simp [eHist,hE])
     | some x =>
      rw [hx] at q2
      by_cases hb:h[i].level ≤ x.level
      · simp [hb] at q2
        rw [q2] at k2
        simp at k2
        simp [hx,eVer_eq,hb,k2,whenE]
      · simp [hb] at q2
        simp [hx,eVer_eq,hb,hw2]
        exact rd (j + 1) ⟨hj,q2⟩ (hh:=by simp [eHist,hE])
   · have:j = h[i].parents.length:=by omega
     subst this
     simp at q2
     rw [q2] at k2
     simp [hw]
     exact rd (i + 1) ⟨hi,by simpa using k2⟩ (hh:=by simp [eHist])
 · have:i = h.length:=by omega
   subst this
   simp at k2
   simp [k2,whenE]
theorem shpVer (l:List VerD):allShp Tryz.prog 5 (l.map (AV.p ∘ eVer)):=by
 rw [allShp_iff]
 intro v hv
 obtain ⟨x,_,rfl⟩:=List.mem_map.1 hv
 exact ⟨by simp [shpA],by simp [shpA,shpSize]⟩
theorem getLast_take {h:List VerD} {i:Nat} (hi:i < h.length):lastN (h.take (i + 1)) = some h[i].name:=by
 rw [List.take_succ_eq_append_getElem hi,lastN,List.getLast?_append]; simp
theorem c_checkHistory (h:List VerD) (hb:histB h):GoodC Tryz.prog 64 [eHist h] (.int .i64 (chkHist h)):=by
 refine good_fn nf isF64 mix (by simp [Tryz.f64]) ?_
 obtain ⟨b1,b2⟩:=hb
 by_cases hl:256 < h.length
 · have hl':(256:Int) < h.length:=by omega
   simp [Tryz.f64,eHist,hl',chkHist,hl]
 have hl':¬ (256:Int) < h.length:=by omega
 rw [chkHist,if_neg hl]
 simp [Tryz.f64,eHist,hl']
 refine lp (α:=Nat) (fun i=>⟨[(13,.p (.int .i64 i)),(12,.p (.int .i64 h.length)),(11,.p (.seq (h.map eVer))),(1,.ptr 0 [])],[.box false (.p (eHist h))]⟩) (fun i=>i ≤ h.length ∧ chkVersFrom none h = chkVersFrom (lastN (h.take i)) (h.drop i)) (fun i=>h.length - i) 0 (by simp [lastN]) ?_ (hh:=by simp [eHist])
 rintro i ⟨k1,k2⟩
 by_cases hi:i < h.length
 · have hw:=wi1 (i:=i) (by omega)
   have hc:=c_checkVersion h[i] (h.take i) (b2 _ (List.getElem_mem hi)) (by simp; omega)
   rw [List.drop_eq_getElem_cons hi,chkVersFrom] at k2
   simp [hi,eHist]
   rw [List.map_take] at hc
   refine ⟨⟨by omega,shpVer h⟩,?_⟩
   refine e2 hc ?_
   by_cases hz:chkVer (lastN (h.take i)) h[i] = 0
   · rw [if_pos hz,← getLast_take hi] at k2
     simp [hz,hw]
     exact rd (i + 1) ⟨hi,k2⟩ (hh:=by simp [eHist])
   · rw [if_neg hz] at k2
     simp [hz,k2,firstE]
     try rfl
 · have:i = h.length:=by omega
   subst this
   simp [chkVersFrom] at k2
   simp
   have hz:chkVersFrom none h = 0:=k2
   refine c1 (c_checkLevels h (chkVersFrom_zero hz).2.1 ⟨b1,b2⟩) ?_
   simp [hz,firstE]
   try exact fun h=>h.symm
   try rfl
end Go.Abs
namespace Go.Abs
open Go.Proofs
set_option maxHeartbeats 4000000
set_option maxRecDepth 100000
def atV (h:List VerD) (k:List Nat):Int:=idxFrom (nameIs k) h 0
theorem idx_find (k:List Nat):∀ (h:List VerD) (n:Nat),(verAt h k = none ∧ idxFrom (nameIs k) h n = -1) ∨ ∃ (j:Nat) (hj:j < h.length),idxFrom (nameIs k) h n = ((n + j:Nat):Int) ∧ verAt h k = some h[j]
 | [],n=>.inl ⟨rfl,rfl⟩
 | v :: r,n=>by
  by_cases hv:nameIs k v = true
  · exact .inr ⟨0,by simp,by simp [idxFrom,hv],by simp [verAt,List.find?_cons,hv]⟩
  · have hv:nameIs k v = false:=by simpa using hv
    have e:verAt (v :: r) k = verAt r k:=by simp [verAt,List.find?_cons,hv]
    have e2:idxFrom (nameIs k) (v :: r) n = idxFrom (nameIs k) r (n + 1):=by simp [idxFrom,hv]
    rcases idx_find k r (n + 1) with ⟨h1,h2⟩ | ⟨j,hj,h1,h2⟩
    · exact .inl ⟨by rw [e,h1],by rw [e2,h2]⟩
    · exact .inr ⟨j + 1,by simpa using hj,by rw [e2,h1]; congr 1; omega,by rw [e,h2]; simp⟩
theorem at_find (h:List VerD) (k:List Nat):(verAt h k = none ∧ atV h k = -1) ∨ ∃ (j:Nat) (hj:j < h.length),atV h k = (j:Int) ∧ verAt h k = some h[j]:=by
 rcases idx_find k h 0 with h1 | ⟨j,hj,h1,h2⟩
 · exact .inl h1
 · exact .inr ⟨j,hj,by rw [atV,h1]; congr 1; omega,h2⟩
theorem c_at (h:List VerD) (k:List Nat) (hl:h.length ≤ 1048576):GoodC Tryz.prog 86 [.seq (h.map rVer),.str k] (.int .i64 (atV h k)):=by
 refine good_fn nf isF86 mix (by simp [Tryz.f86]) ?_
 simp [Tryz.f86]
 refine lp (α:=Nat) (fun i=>⟨[(5,.p (.int .i64 i)),(1,.p (.str k)),(0,.p (.seq (h.map rVer)))],[]⟩) (fun i=>i ≤ h.length ∧ atV h k = idxFrom (nameIs k) (h.drop i) i) (fun i=>h.length - i) 0 (by simp [atV]) ?_
 rintro i ⟨k1,k2⟩
 by_cases hi:i < h.length
 · rw [List.drop_eq_getElem_cons hi,idxFrom] at k2
   have hw:=wi1 (i:=i) (by omega)
   have hE:=rVer_eq h[i]
   by_cases hk:h[i].name = k
   · have e:nameIs k h[i] = true:=by simp [nameIs,hk]
     rw [e,if_pos rfl] at k2
     rw [k2]
     simp [hi,hE,hk]
   · have e:nameIs k h[i] = false:=by simp [nameIs,hk]
     rw [e] at k2
     simp [hi,hE,hk,hw]
     exact rd (i + 1) ⟨hi,by simpa using k2⟩
 · have:i = h.length:=by omega
   subst this
   rw [List.drop_length,idxFrom] at k2
   rw [k2]
   simp
theorem c_levels (h:List VerD) (hb:histB h):GoodC Tryz.prog 134 [.seq (h.map rVer)] (.int .i64 (whenE (lvlBad h) 11)):=by
 refine good_fn nf isF134 mix (by simp [Tryz.f134]) ?_
 obtain ⟨b1,b2⟩:=hb
 simp [Tryz.f134]
 refine lp (α:=Nat) (fun i=>⟨[(3,.p (.int .i64 i)),(0,.p (.seq (h.map rVer)))],[]⟩) (fun i=>i ≤ h.length ∧ lvlBad h = (h.drop i).any (badV h)) (fun i=>h.length - i) 0 (by simp [lvlBad_eq]) ?_
 rintro i ⟨k1,k2⟩
 by_cases hi:i < h.length
 · have hE:=rVer_eq h[i]
   have hw:=wi1 (i:=i) (by omega)
   have hpb:=(b2 _ (List.getElem_mem hi)).2.1
   rw [any_dropV _ hi] at k2
   simp [hi]
   refine lp (α:=Nat) (fun j=>⟨[(4,.p (.int .i64 j)),(3,.p (.int .i64 i)),(0,.p (.seq (h.map rVer)))],[]⟩) (fun j=>j ≤ h[i].parents.length ∧ badV h h[i] = (h[i].parents.drop j).any (badP h h[i].level)) (fun j=>h[i].parents.length - j) 0 (by simp [badV]) ?_
   rintro j ⟨q1,q2⟩
   by_cases hj:j < h[i].parents.length
   · have hw2:=wi1 (i:=j) (by omega)
     rw [any_dropV _ hj] at q2
     simp [hi,hj,hE]
     refine c2 (c_at h h[i].parents[j] b1) ?_
     rw [badP] at q2
     rcases at_find h h[i].parents[j] with ⟨hx,ha⟩ | ⟨x,hx,ha,hv⟩
     · rw [hx] at q2
       simp at q2
       simp [ha,hw2]
       exact rd (j + 1) ⟨hj,q2⟩
     · rw [hv] at q2
       by_cases hb:h[i].level ≤ h[x].level
       · simp [hb] at q2
         rw [q2] at k2
         simp at k2
         have hEx:=rVer_eq h[x]
         have hxz:(0:Int) ≤ (x:Int):=by omega
         simp [ha,hi,hx,hE,hEx,hb,k2,whenE,hxz]
       · simp [hb] at q2
         have hEx:=rVer_eq h[x]
         have hxz:(0:Int) ≤ (x:Int):=by omega
         simp [ha,hi,hx,hE,hEx,hb,hw2,hxz]
         exact rd (j + 1) ⟨hj,q2⟩
   · have:j = h[i].parents.length:=by omega
     subst this
     simp at q2
     rw [q2] at k2
     simp [hi,hE,hw]
     exact rd (i + 1) ⟨hi,by simpa using k2⟩
 · have:i = h.length:=by omega
   subst this
   simp at k2
   simp [k2,whenE]
def chkVerR (v:VerD):Int:=firstE [withinE v.level 1 256,whenE (decide (2 < v.parents.length)) 5,chkNames v.parents,whenE (twiceP v.parents) 9,chkBook v.book]
theorem c_checkVersionR (v:VerD) (hv:verB v):GoodC Tryz.prog 133 [rVer v] (.int .i64 (chkVerR v)):=by
 refine good_fn nf isF133 mix (by simp [Tryz.f133]) ?_
 obtain ⟨nm,lv,ps,bk⟩:=v
 obtain ⟨b1,b2,b3,b4⟩:=hv
 dsimp only at b1 b2 b3 b4
 simp [Tryz.f133,rVer_mk]
 refine c3 (c_out lv 1 256) ?_
 rw [chkVerR]
 dsimp only
 by_cases h1:(decide (lv < 1) || decide (lv > 256)) = true
 · have e:withinE lv 1 256 = 3:=by rw [withinE,h1]; rfl
   simp only [h1,e]
   simp [firstE,e]
 have h1:(decide (lv < 1) || decide (lv > 256)) = false:=by simpa using h1
 have e:withinE lv 1 256 = 0:=by rw [withinE,h1]; rfl
 simp only [h1,e]
 by_cases h2:2 < ps.length
 · have h2':(2:Int) < (ps.length:Int):=by omega
   simp [h2,h2',firstE,whenE,e]
 have h2':¬ (2:Int) < (ps.length:Int):=by omega
 simp [h2']
 refine lp (α:=Nat) (fun i=>⟨[(3,.p (.int .i64 i)),(1,.ptr 0 [])],[.box false (.p (rVer ⟨nm,lv,ps,bk⟩))]⟩) (fun i=>i ≤ ps.length ∧ chkNames ps = chkNames (ps.drop i)) (fun i=>ps.length - i) 0 (by simp) ?_ (hh:=by simp [rVer_mk])
 rintro i ⟨k1,k2⟩
 have hw:=wi1 (i:=i) (by omega)
 by_cases hi:i < ps.length
 · rw [List.drop_eq_getElem_cons hi,chkNames] at k2
   have hs:=b3 _ (List.getElem_mem hi)
   simp [hi,rVer_mk]
   refine c1 (c_refIsName ps[i] (by omega)) ?_
   by_cases hn:isName ps[i] = true
   · rw [if_pos hn] at k2
     simp [hn,hw]
     exact rd (i + 1) ⟨hi,k2⟩ (hh:=by simp [rVer_mk])
   · rw [if_neg hn] at k2
     simp [hn,h2,whenE,k2,firstE,e]
 · have:i = ps.length:=by omega
   subst this
   rw [List.drop_length,chkNames] at k2
   by_cases h3:ps.length = 2
   · match ps,h3 with
     | [a,b],_ =>
      have hb:(a == b) = decide (a = b):=by by_cases h:a = b <;> simp [h]
      by_cases hab:a = b
      · simp [rVer_mk,hab] at k2 ⊢
        simp [k2,twiceP,whenE,firstE,e]
      · simp [rVer_mk,hab]
        refine c1 (c_checkBookR bk b4) ?_
        simp [k2,twiceP,hab,whenE,firstE,e]
        try exact fun h=>h.symm
   · have h3':¬ (ps.length:Int) = 2:=by omega
     rw [twiceP_not h3]
     simp [rVer_mk,h3']
     refine c1 (c_checkBookR bk b4) ?_
     simp [k2,h2,whenE,firstE,e]
     try exact fun h=>h.symm
theorem chkVer_R (pre:Option (List Nat)) (v:VerD):chkVer pre v = if isName v.name = true then (if ordBad pre v.name = true then 11 else chkVerR v) else 8:=by
 rw [chkVer,chkVerR]
 cases h1:isName v.name <;> cases h2:ordBad pre v.name <;> simp [firstE,whenE]
theorem c_checkHistoryR (h:List VerD) (hb:histB h):GoodC Tryz.prog 47 [.seq (h.map rVer)] (.int .i64 (chkHist h)):=by
 refine good_fn nf isF47 mix (by simp [Tryz.f47]) ?_
 have hb0:=hb
 obtain ⟨b1,b2⟩:=hb
 by_cases hl:256 < h.length
 · have hl':(256:Int) < h.length:=by omega
   simp [Tryz.f47,hl',chkHist,hl]
 have hl':¬ (256:Int) < h.length:=by omega
 rw [chkHist,if_neg hl]
 simp [Tryz.f47,hl']
 refine lp (α:=Nat) (fun i=>⟨[(3,.p (.int .i64 i)),(0,.p (.seq (h.map rVer)))],[]⟩) (fun i=>i ≤ h.length ∧ chkVersFrom none h = chkVersFrom (lastN (h.take i)) (h.drop i)) (fun i=>h.length - i) 0 (by simp [lastN]) ?_
 rintro i ⟨k1,k2⟩
 by_cases hi:i < h.length
 · have hw:=wi1 (i:=i) (by omega)
   have hE:=rVer_eq h[i]
   have hvb:=b2 _ (List.getElem_mem hi)
   rw [List.drop_eq_getElem_cons hi,chkVersFrom,chkVer_R] at k2
   simp [hi,hE]
   refine c1 (c_refIsName h[i].name hvb.1) ?_
   cases hn:isName h[i].name with
   | false =>
    rw [hn] at k2
    simp at k2
    simp [k2,firstE]
   | true =>
    simp only [hn,if_true] at k2
    have hob:(decide (0 < i) && ordBad (lastN (h.take i)) h[i].name) = ordBad (lastN (h.take i)) h[i].name:=by
     cases i with
     | zero=>simp [lastN,ordBad]
     | succ i=>simp
    cases ho:ordBad (lastN (h.take i)) h[i].name with
    | true =>
     simp only [ho,if_true] at k2
     simp at k2
     cases i with
     | zero=>simp [lastN,ordBad] at ho
     | succ j =>
      rw [getLast_take (by omega)] at ho
      have hEj:=rVer_eq (h[j]'(by omega))
      have hwj:IntKind.i64.wrap (((j + 1:Nat):Int) - 1) = (j:Int):=by rw [wi64] <;> omega
      have hjl:j < h.length:=by omega
      simp [ordBad] at ho
      simp at hwj
      have hp:(0:Int) < (j:Int) + 1:=by omega
      have hp':(0:Int) ≤ (j:Int) + 1:=by omega
      simp [hi,hE,hEj,hwj,hjl,sLess_eq,sLess_leq,ho,k2,firstE,hp,hp']
    | false =>
     simp only [ho,if_false,Bool.false_eq_true] at k2
     have hstep:∀ (K:Prop),(GoodC Tryz.prog 133 [rVer h[i]] (.int .i64 (chkVerR h[i])) → K) → K:=fun K hK=>hK (c_checkVersionR h[i] hvb)
     cases i with
     | zero =>
      simp [hi,hE]
      refine c1 (c_checkVersionR h[0] hvb) ?_ (h1:=by rw [hE]; simp)
      by_cases hz:chkVerR h[0] = 0
      · rw [if_pos hz,← getLast_take hi] at k2
        simp [hz]
        exact rd 1 ⟨hi,k2⟩ (he:=by simp; decide)
      · rw [if_neg hz] at k2
        simp [hz,k2,firstE]
     | succ j =>
      rw [getLast_take (by omega)] at ho
      have hEj:=rVer_eq (h[j]'(by omega))
      have hwj:IntKind.i64.wrap (((j + 1:Nat):Int) - 1) = (j:Int):=by rw [wi64] <;> omega
      have hjl:j < h.length:=by omega
      simp [ordBad] at ho
      simp at hwj
      have hp:(0:Int) < (j:Int) + 1:=by omega
      have hp':(0:Int) ≤ (j:Int) + 1:=by omega
      simp [hi,hE,hEj,hwj,hjl,sLess_eq,sLess_leq,ho,hp,hp']
      refine c1 (c_checkVersionR h[j + 1] hvb) ?_ (h1:=by rw [hE]; first | exact Wk.refl _ | simp)
      simp at hw
      by_cases hz:chkVerR h[j + 1] = 0
      · rw [if_pos hz,← getLast_take hi] at k2
        simp [hz,hw]
        exact rd (j + 1 + 1) ⟨hi,k2⟩
      · rw [if_neg hz] at k2
        simp [hz,k2,firstE]
 · have:i = h.length:=by omega
   subst this
   simp [chkVersFrom] at k2
   simp
   have hz:chkVersFrom none h = 0:=k2
   refine c1 (c_levels h hb0) ?_
   simp [hz,firstE]
   try exact fun h=>h.symm
end Go.Abs
namespace Go.Abs
theorem asc_ext {l m:List (List Nat)} (hl:Asc l) (hm:Asc m) (nl:l.Nodup) (nm:m.Nodup) (h:∀ a,a ∈ l ↔ a ∈ m):l = m :=
 asc_unique hl hm ((List.perm_ext_iff_of_nodup nl nm).2 h)
theorem insS_nodup {l:List (List Nat)} {k:List Nat} (h:l.Nodup) (hk:k ∉ l):(insS l k).Nodup:=(insS_perm (l:=l) (k:=k)).nodup_iff.2 (List.nodup_cons.2 ⟨hk,h⟩)
theorem sortS_nodup {l:List (List Nat)} (h:l.Nodup):(sortS l).Nodup:=(sortS_perm l).nodup_iff.2 h
theorem filt_names {h:List VerD} (ok:AscV h) (p:VerD → Bool):Asc (namesV (h.filter p)) ∧ (namesV (h.filter p)).Nodup :=
 have:AscV (h.filter p):=List.Pairwise.filter p ok
 ⟨this.asc,this.names⟩
def wholeL (h:List VerD):List (List Nat):=namesV (h.filter fun v=>wholeS h v.name)
theorem wholeL_mem {h:List VerD} (ok:HistOk h) {a:List Nat}:a ∈ wholeL h ↔ wholeS h a = true:=by
 simp only [wholeL,namesV,List.mem_map,List.mem_filter]
 constructor
 · rintro ⟨v,⟨_,h2⟩,rfl⟩; exact h2
 · intro ha
   obtain ⟨v,hv,_⟩:=whole_at ok ha
   obtain ⟨h1,rfl⟩:=verAt_mem hv
   exact ⟨v,⟨h1,ha⟩,rfl⟩
def rndWStep (l:List (List Nat)) (v:VerD):List (List Nat):=if (!decide (v.name ∈ l) && v.parents.all fun p=>decide (p ∈ l)) = true then insS l v.name else l
def isPar (h:List VerD) (k:List Nat):Bool:=h.any fun u=>wholeS h u.name && decide (k ∈ u.parents)
def headsL (h:List VerD):List (List Nat):=namesV (h.filter fun v=>wholeS h v.name && !isPar h v.name)
theorem headsL_eq (h:List VerD):headsL h = (wholeL h).filter fun k=>!isPar h k:=by
 simp only [headsL,wholeL,namesV,List.filter_map,List.filter_filter,Function.comp_def]
 congr 1
 apply List.filter_congr
 intro v _
 rw [Bool.and_comm]
def ancL (h:List VerD) (k:List Nat):List (List Nat):=namesV (h.filter fun v=>ancS h k v.name)
theorem ancL_mem {h:List VerD} (ok:HistOk h) {k a:List Nat} (hk:wholeS h k = true):a ∈ ancL h k ↔ ancS h k a = true:=by
 simp only [ancL,namesV,List.mem_map,List.mem_filter]
 constructor
 · rintro ⟨v,⟨_,h2⟩,rfl⟩; exact h2
 · intro ha
   obtain ⟨v,hv,_⟩:=whole_at ok (anc_whole ok hk ha)
   obtain ⟨h1,rfl⟩:=verAt_mem hv
   exact ⟨v,⟨h1,ha⟩,rfl⟩
def bestF:List VerD → Option VerD → Option VerD
 | [],b=>b
 | v :: r,b=>bestF r (match b with
  | none=>some v
  | some x=>if x.level ≤ v.level then some v else some x)
def bestR:List VerD → Option VerD → Option VerD
 | [],b=>b
 | v :: r,b=>bestR r (match b with
  | none=>some v
  | some x=>if v.level ≤ x.level then some x else some v)
theorem bestR_some : ∀ (l : List VerD) (x : VerD), bestR l (some x) = match bestR l none with
    | some y=>if y.level ≤ x.level then some x else some y
    | none=>some x
 | [],x=>rfl
 | v :: r,x=>by
  simp only [bestR]
  have h1:=bestR_some r v
  by_cases h:v.level ≤ x.level
  · rw [if_pos h,bestR_some r x,h1]
    cases bestR r none with
    | none=>simp [h]
    | some y =>
     by_cases h2:y.level ≤ x.level <;> by_cases h3:y.level ≤ v.level <;> first | (exfalso; omega) | simp [h,h2,h3]
  · rw [if_neg h,h1]
    cases bestR r none with
    | none=>simp [h]
    | some y =>
     by_cases h2:y.level ≤ x.level <;> by_cases h3:y.level ≤ v.level <;> first | (exfalso; omega) | simp [h,h2,h3]
theorem bestF_snoc : ∀ (l : List VerD) (b : Option VerD) (v : VerD), bestF (l ++ [v]) b = match bestF l b with
    | none=>some v
    | some x=>if x.level ≤ v.level then some v else some x
 | [],b,v=>rfl
 | u :: r,b,v=>by simp only [List.cons_append,bestF]; exact bestF_snoc r _ v
theorem best_rev (l:List VerD):bestR l.reverse none = bestF l none:=by
 have key:∀ (n:Nat) (l:List VerD),l.length = n → bestR l.reverse none = bestF l none:=by
  intro n
  induction n with
  | zero=>intro l hl; rw [List.length_eq_zero_iff.1 hl]; rfl
  | succ n ih =>
   intro l hl
   rcases List.eq_nil_or_concat l with rfl | ⟨t,v,rfl⟩
   · simp at hl
   · rw [List.concat_eq_append,List.reverse_append,List.reverse_singleton,List.singleton_append,bestR,bestF_snoc]
     rw [bestR_some,ih t (by simpa using hl)]
     cases bestF t none with
     | none=>rfl
     | some y=>dsimp only
 exact key _ l rfl
def baseS (h:List VerD) (a b:List Nat):Option VerD:=bestF (h.filter fun v=>ancS h a v.name && ancS h b v.name) none
def insVr:List VerD → VerD → List VerD
 | [],v=>[v]
 | x :: l,v=>if sLess x.name v.name then x :: insVr l v else v :: x :: l
theorem insVr_names:∀ (l:List VerD) (v:VerD),namesV (insVr l v) = insS (namesV l) v.name
 | [],_=>rfl
 | x :: l,v=>by
  have ih:=insVr_names l v
  simp only [namesV] at ih
  simp only [insVr,namesV,List.map_cons,insS]
  split
  · rw [List.map_cons,ih]
  · rfl
theorem insVr_perm {v:VerD}:∀ {l:List VerD},(insVr l v).Perm (v :: l)
 | []=>by simp [insVr]
 | x :: l=>by
  simp only [insVr]; split
  · exact (List.Perm.cons x insVr_perm).trans (.swap v x l)
  · exact .refl _
def sortV (l:List VerD):List VerD:=l.foldl insVr []
theorem foldl_insVr_perm:∀ (l acc:List VerD),(l.foldl insVr acc).Perm (acc ++ l)
 | [],_=>by simp
 | _ :: l,_=>by
  rw [List.foldl_cons]
  refine (foldl_insVr_perm l _).trans ?_
  refine (List.Perm.append_right l insVr_perm).trans ?_
  exact List.perm_middle.symm
theorem foldl_insVr_names:∀ (l acc:List VerD),namesV (l.foldl insVr acc) = (namesV l).foldl insS (namesV acc)
 | [],_=>rfl
 | v :: l,acc=>by
  rw [List.foldl_cons,foldl_insVr_names l,insVr_names]; rfl
theorem sortV_names (l:List VerD):namesV (sortV l) = sortS (namesV l):=foldl_insVr_names l []
theorem ascV_unique {l m:List VerD} (hl:AscV l) (hm:AscV m) (h:l.Perm m):l = m:=by
 induction l generalizing m with
 | nil=>simpa using h.length_eq.symm
 | cons x l ih =>
  cases m with
  | nil=>simpa using h.length_eq
  | cons y m =>
   have hxy:x = y:=by
    have hl':=List.pairwise_cons.1 hl
    have hm':=List.pairwise_cons.1 hm
    have h1:y ∈ x :: l:=h.mem_iff.2 List.mem_cons_self
    have h2:x ∈ y :: m:=h.mem_iff.1 List.mem_cons_self
    rcases List.mem_cons.1 h1 with e | h1
    · exact e.symm
    rcases List.mem_cons.1 h2 with e | h2
    · exact e
    have:=sLess_asym (hl'.1 y h1)
    rw [hm'.1 x h2] at this; cases this
   subst hxy
   rw [ih (List.pairwise_cons.1 hl).2 (List.pairwise_cons.1 hm).2 (List.Perm.cons_inv h)]
theorem ascV_of {l:List VerD} (hn:(namesV l).Nodup) (ha:Asc (namesV l)):AscV l:=by
 induction l with
 | nil=>exact List.Pairwise.nil
 | cons x l ih =>
  simp only [namesV,List.map_cons,List.nodup_cons] at hn
  simp only [namesV,List.map_cons,Asc,List.pairwise_cons] at ha
  refine List.pairwise_cons.2 ⟨fun y hy=>?_,ih hn.2 ha.2⟩
  cases hs:sLess x.name y.name with
  | true=>rfl
  | false =>
   have:=sLess_tri hs (ha.1 _ (List.mem_map_of_mem hy))
   exact (hn.1 (by rw [this]; exact List.mem_map_of_mem hy)).elim
theorem sortV_asc {l:List VerD} (hn:(namesV l).Nodup):AscV (sortV l) :=
 ascV_of (by rw [sortV_names]; exact sortS_nodup hn) (by rw [sortV_names]; exact sortS_asc _)
theorem sortV_of {l m:List VerD} (hn:(namesV l).Nodup) (h:m.Perm l) (hm:AscV m):m = sortV l :=
 ascV_unique hm (sortV_asc hn) (h.trans (foldl_insVr_perm l []).symm)
end Go.Abs
