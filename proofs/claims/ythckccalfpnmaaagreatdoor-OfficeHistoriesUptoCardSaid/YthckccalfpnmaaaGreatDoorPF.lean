import Derived.Shelf.Slices.CompactS
import Derived.Shelf.SlSortCmp.WholeK
import Derived.Shelf.SlSortCmp.NoneTotal
import Derived.Test.YthckccalfpnmaaaGreatDoorProg
import Derived.Test.YthckccalfpnmaaaGreatDoorPB
import Derived.Test.YthckccalfpnmaaaGreatDoorPC
import Derived.Test.YthckccalfpnmaaaGreatDoorPA
import Derived.WalkLawsBesides
import Derived.Test.YthckccalfpnmaaaGreatDoorThE
/- Parts of a proof. -/
set_option linter.unusedSimpArgs false
set_option linter.unusedVariables false
set_option linter.unusedSectionVars false
namespace Go.Proofs
open Go.Shelf
def Tryz.sortF_ren:Go.Shelf.Ren:=⟨fun | 6=>203 | 15=>222 | 14=>248 | 28=>270 | 29=>271 | 20=>284 | 21=>285 | 22=>286 | 23=>287 | 24=>288 | 25=>289 | 26=>290 | 27=>291 | 46=>317 | 47=>301 | 48=>302 | 49=>318 | 50=>319 | 57=>331 | n=>n,fun | 22=>74 | 24=>148 | 25=>303 | 3=>3 | 39=>261 | 0=>0 | 53=>317 | 55=>320 | 4=>4 | 46=>351 | 45=>350 | 50=>286 | 5=>5 | 9=>9 | 66=>378 | 70=>382 | 76=>397 | 77=>398 | n=>n,fun | n=>n⟩
theorem Tryz.sortF:Go.Proofs.SlLaysF0.n6 Tryz.prog Tryz.sortF_ren:={
 mixed:=by kernel_rfl
 f6:=⟨Tryz.f203.name,by decide,Tryz.func203.trans (congrArg some (by kernel_rfl))⟩
 f14:=⟨Tryz.f248.name,by decide,Tryz.func248.trans (congrArg some (by kernel_rfl))⟩
 f15:=Tryz.func222.trans (congrArg some (by kernel_rfl))
 f20:=⟨Tryz.f284.name,by decide,Tryz.func284.trans (congrArg some (by kernel_rfl))⟩
 f21:=⟨Tryz.f285.name,by decide,Tryz.func285.trans (congrArg some (by kernel_rfl))⟩
 f22:=⟨Tryz.f286.name,by decide,Tryz.func286.trans (congrArg some (by kernel_rfl))⟩
 f23:=⟨Tryz.f287.name,by decide,Tryz.func287.trans (congrArg some (by kernel_rfl))⟩
 f24:=⟨Tryz.f288.name,by decide,Tryz.func288.trans (congrArg some (by kernel_rfl))⟩
 f25:=⟨Tryz.f289.name,by decide,Tryz.func289.trans (congrArg some (by kernel_rfl))⟩
 f26:=⟨Tryz.f290.name,by decide,Tryz.func290.trans (congrArg some (by kernel_rfl))⟩
 f27:=⟨Tryz.f291.name,by decide,Tryz.func291.trans (congrArg some (by kernel_rfl))⟩
 f28:=Tryz.func270.trans (congrArg some (by kernel_rfl))
 f29:=Tryz.func271.trans (congrArg some (by kernel_rfl))
 f46:=⟨Tryz.f317.name,by decide,Tryz.func317.trans (congrArg some (by kernel_rfl))⟩
 f47:=Tryz.func301.trans (congrArg some (by kernel_rfl))
 f48:=Tryz.func302.trans (congrArg some (by kernel_rfl))
 f49:=⟨Tryz.f318.name,by decide,Tryz.func318.trans (congrArg some (by kernel_rfl))⟩
 f50:=⟨Tryz.f319.name,by decide,Tryz.func319.trans (congrArg some (by kernel_rfl))⟩
 f57:=⟨Tryz.f331.name,by decide,Tryz.func331.trans (congrArg some (by kernel_rfl))⟩
 t0:=Tryz.underlying0
 a0:=Tryz.isAgg0
 z0:=Tryz.sizeOf0
 v0:=Tryz.zeroValue0
 t3:=Tryz.underlying3
 a3:=Tryz.isAgg3
 z3:=Tryz.sizeOf3
 v3:=Tryz.zeroValue3
 t4:=Tryz.underlying4
 a4:=Tryz.isAgg4
 z4:=Tryz.sizeOf4
 v4:=Tryz.zeroValue4
 t5:=Tryz.underlying5
 a5:=Tryz.isAgg5
 z5:=Tryz.sizeOf5
 v5:=Tryz.zeroValue5
 t9:=Tryz.underlying9
 a9:=Tryz.isAgg9
 z9:=Tryz.sizeOf9
 v9:=Tryz.zeroValue9
 t22:=Tryz.underlying74
 a22:=Tryz.isAgg74
 z22:=Tryz.sizeOf74
 v22:=Tryz.zeroValue74
 t25:=Tryz.underlying303
 a25:=Tryz.isAgg303
 z25:=Tryz.sizeOf303
 v25:=Tryz.zeroValue303
 t39:=Tryz.underlying261
 a39:=Tryz.isAgg261
 z39:=Tryz.sizeOf261
 v39:=Tryz.zeroValue261
 t45:=Tryz.underlying350
 a45:=Tryz.isAgg350
 z45:=Tryz.sizeOf350
 v45:=Tryz.zeroValue350
 t46:=Tryz.underlying351
 a46:=Tryz.isAgg351
 z46:=Tryz.sizeOf351
 v46:=Tryz.zeroValue351
 t50:=Tryz.underlying286
 a50:=Tryz.isAgg286
 z50:=Tryz.sizeOf286
 v50:=Tryz.zeroValue286
 t53:=Tryz.underlying317
 a53:=Tryz.isAgg317
 z53:=Tryz.sizeOf317
 v53:=Tryz.zeroValue317
 t55:=Tryz.underlying320
 a55:=Tryz.isAgg320
 z55:=Tryz.sizeOf320
 v55:=Tryz.zeroValue320
 t66:=Tryz.underlying378
 a66:=Tryz.isAgg378
 z66:=Tryz.sizeOf378
 v66:=Tryz.zeroValue378
 t70:=Tryz.underlying382
 a70:=Tryz.isAgg382
 z70:=Tryz.sizeOf382
 v70:=Tryz.zeroValue382
 t76:=Tryz.underlying397
 a76:=Tryz.isAgg397
 z76:=Tryz.sizeOf397
 v76:=Tryz.zeroValue397
 t77:=Tryz.underlying398
 a77:=Tryz.isAgg398
 z77:=Tryz.sizeOf398
 v77:=Tryz.zeroValue398 }
def Tryz.lays194_ren:Go.Shelf.Ren:=⟨fun | 194=>164 | n=>n,fun | 31=>44 | 9=>9 | 3=>3 | 4=>4 | 0=>0 | n=>n,fun | n=>n⟩
theorem Tryz.lays194:Go.Proofs.Lays.n194 Tryz.prog Tryz.lays194_ren:={
 mixed:=by kernel_rfl
 f194:=Tryz.func164.trans (congrArg some (by kernel_rfl))
 t0:=Tryz.underlying0
 a0:=Tryz.isAgg0
 z0:=Tryz.sizeOf0
 v0:=Tryz.zeroValue0
 t3:=Tryz.underlying3
 a3:=Tryz.isAgg3
 z3:=Tryz.sizeOf3
 v3:=Tryz.zeroValue3
 t4:=Tryz.underlying4
 a4:=Tryz.isAgg4
 z4:=Tryz.sizeOf4
 v4:=Tryz.zeroValue4
 t9:=Tryz.underlying9
 a9:=Tryz.isAgg9
 z9:=Tryz.sizeOf9
 v9:=Tryz.zeroValue9
 t31:=Tryz.underlying44
 a31:=Tryz.isAgg44
 z31:=Tryz.sizeOf44
 v31:=Tryz.zeroValue44 }
end Go.Proofs
namespace Go.Abs
open Go.Proofs
theorem compact_inv (zs : List (List UInt8)) (hz : Asc (zs.map natsB)) : ∀ m, m ≤ zs.length →
    Asc ((Go.Lib.compactUpTo zs.toArray m).map natsB) ∧ ((Go.Lib.compactUpTo zs.toArray m).map natsB).Nodup ∧ ∀ a,a ∈ (Go.Lib.compactUpTo zs.toArray m).map natsB ↔ a ∈ (zs.take m).map natsB:=by
 have hsl:∀ i j (hi:i < zs.length) (hj:j < zs.length),i ≤ j → sLess (natsB zs[j]) (natsB zs[i]) = false:=by
  intro i j hi hj hij
  rcases Nat.lt_or_ge i j with h | h
  · have:=(List.pairwise_iff_getElem.1 hz) i j (by simpa using hi) (by simpa using hj) h
    simpa using this
  · have:i = j:=by omega
    subst this; exact sLess_irr _
 have hinj:∀ x y:List UInt8,natsB x = natsB y → x = y:=fun x y h=>(List.map_inj_right (fun a b hab=>UInt8.toNat_inj.1 hab)).1 h
 intro m
 induction m with
 | zero=>intro _; simp [Go.Lib.compactUpTo,Asc]
 | succ m ih =>
  intro hm
  obtain ⟨h1,h2,h3⟩:=ih (by omega)
  have hml:m < zs.length:=by omega
  have hgm:zs.toArray[m]! = zs[m]:=by simp [hml]
  rw [Go.Lib.compactUpTo_succ]
  have ht:(zs.take (m + 1)).map natsB = (zs.take m).map natsB ++ [natsB zs[m]]:=by rw [List.take_succ_eq_append_getElem hml,List.map_append]; rfl
  have hle:∀ a ∈ (zs.take m).map natsB,sLess (natsB zs[m]) a = false:=by
   intro a ha
   obtain ⟨x,hx,rfl⟩:=List.mem_map.1 ha
   obtain ⟨i,hi,rfl⟩:=List.mem_iff_getElem.1 hx
   simp only [List.length_take] at hi
   rw [List.getElem_take]
   exact hsl i m (by omega) hml (by omega)
  cases hk:Go.Lib.keeps zs.toArray m with
  | true =>
   simp only [if_true,List.map_append,List.map_cons,List.map_nil,hgm]
   refine ⟨?_,?_,?_⟩
   · rw [Asc,List.pairwise_append]
     refine ⟨h1,by simp,?_⟩
     intro a ha b hb
     rw [List.mem_singleton] at hb; subst hb
     exact hle a ((h3 a).1 ha)
   · rw [List.nodup_append]
     refine ⟨h2,by simp,?_⟩
     intro a ha b hb hab
     rw [List.mem_singleton] at hb; subst hb; subst hab
     obtain ⟨x,hx,hxe⟩:=List.mem_map.1 ((h3 _).1 ha)
     obtain ⟨i,hi,rfl⟩:=List.mem_iff_getElem.1 hx
     simp only [List.length_take] at hi
     rw [List.getElem_take] at hxe
     have hm0:m ≠ 0:=by omega
     have hgp:zs.toArray[m - 1]! = zs[m - 1]:=by simp [show m - 1 < zs.length by omega]
     simp only [Go.Lib.keeps,hm0,false_or,decide_eq_true_eq,hgm,hgp] at hk
     apply hk
     have e1:=hsl i (m - 1) (by omega) (by omega) (by omega)
     have e2:=hsl (m - 1) m (by omega) hml (by omega)
     rw [hxe] at e1
     exact (hinj _ _ (sLess_tri e1 e2)).symm
   · intro a
     rw [ht,List.mem_append,List.mem_append,h3 a]
  | false =>
   simp only [List.append_nil,Bool.false_eq_true,if_false]
   refine ⟨h1,h2,fun a=>?_⟩
   rw [h3 a,ht,List.mem_append,List.mem_singleton]
   constructor
   · exact .inl
   · rintro (h | rfl)
     · exact h
     · have hm0:m ≠ 0:=by
        intro e; subst e; simp [Go.Lib.keeps] at hk
       have hgp:zs.toArray[m - 1]! = zs[m - 1]:=by simp [show m - 1 < zs.length by omega]
       have hk':zs[m] = zs[m - 1]:=by
        simp only [Go.Lib.keeps,hm0,false_or,hgm,hgp,decide_eq_false_iff_not,ne_eq,Decidable.not_not] at hk
        exact hk
       rw [hk']
       exact List.mem_map.2 ⟨_,List.mem_iff_getElem.2 ⟨m - 1,by simp; omega,by rw [List.getElem_take]⟩,rfl⟩
theorem compact_ok (zs:List (List UInt8)) (hz:Asc (zs.map natsB)) {l:List (List Nat)} (hl:Asc l) (nl:l.Nodup) (hm:∀ a,a ∈ l ↔ a ∈ zs.map natsB):(Go.Lib.compact zs).map natsB = l:=by
 obtain ⟨h1,h2,h3⟩:=compact_inv zs hz zs.length (Nat.le_refl _)
 rw [List.take_length] at h3
 exact asc_ext h1 hl h2 nl fun a=>by rw [Go.Lib.compact,h3 a,hm a]
theorem asc_bytes {bs:List ByteArray} {xs:List (List Nat)} (h:xs = bs.map fun b=>natsB b.data.toList):(bs.map (·.data.toList)).map natsB = xs:=by rw [h,List.map_map]; rfl
theorem g_compact {P : Program} [Gl] {f : FuncId} (he : Enters P f)
    (hS:∀ (blk off cap:Nat) (zs:List (List UInt8)) (w:World),Go.Sort.Holds encStr w blk off zs.toArray → zs.length ≤ 9223372036854775807 → zs.length ≤ cap →
     Calls P f #[.slice (some ⟨blk,off,none⟩) zs.length cap] w fun e w'=>e = .returned (.slice (some ⟨blk,off,none⟩) (Go.Lib.compact zs).length cap) ∧ ∃ q,w' = Go.Sort.putRow encStr (Go.Sort.ahead w q) blk off (Go.Lib.compact zs ++ List.replicate (zs.length - (Go.Lib.compact zs).length) []).toArray)
    {H:Heap} {b ver:Nat} {xs l:List (List Nat)} (hb:H[b]? = some (.arr .grow ver 1 (xs.map (AV.p ∘ PV.str)))) (hne:xs ≠ []) (hlen:xs.length < 4611686018427387904)
    (hx:Asc xs) (hl:Asc l) (nl:l.Nodup) (hm:∀ a,a ∈ l ↔ a ∈ xs) :
    GoodI P f H [.sl b ver 1 0 xs.length] (H.set b (.arr .grow ver 1 ((l ++ List.replicate (xs.length - l.length) []).map (AV.p ∘ PV.str)))) (.sl b ver 1 0 l.length):=by
 refine ⟨he,fun w Imm Prot β cargs hr ha hre=>?_⟩
 simp only [AVVl,AVV] at ha
 obtain ⟨v,vs,rfl,⟨_,hp⟩,rfl⟩:=ha
 obtain ⟨_,_,hv⟩:=hp .grow _ hb
 have hnil:¬ isNilArr .grow (xs.map (AV.p ∘ PV.str)):=fun h=>hne (by simpa using h.2)
 have hv:=hv hnil
 simp only [Nat.zero_mul,Nat.sub_zero] at hv
 subst hv
 rcases hr.objs b _ hb with h | ⟨cs,T,css,rest,k1,k2,k3,k4,k5,k6,k7,k8,k9⟩
 · exact (hnil h).elim
 have k2':PVCl P w Imm (List.replicate (xs.map (AV.p ∘ PV.str)).length 1) (xs.map .str) css:=by
  rw [← AVCl_map (β:=β) (H:=H)]; simpa [Function.comp_def] using k2
 obtain ⟨bs,g1,g2⟩:=strs_of k2'
 have k7':¬ Imm (β.blk b) ∧ ¬ Prot (β.blk b):=by simpa [Held] using k7
 rw [g1] at k3
 have hxl:xs.length = bs.length:=by rw [g2]; simp
 have hblk:β.blk b < w.heap.size:=(Array.getElem?_eq_some_iff.1 k1).1
 have hH:Go.Sort.Holds encStr w (β.blk b) 0 (bs.map (·.data.toList)).toArray:=by
  intro j hj
  have hj:j < bs.length:=by simpa using hj
  refine ⟨?_,by simp [World.frozen?,k1]⟩
  have e1:cs[j]? = some (.string bs[j]):=by
   rw [← Array.getElem?_toList,k3,List.getElem?_append_left (by simpa using hj)]
   simp [hj]
  simp [World.cell?,k1,e1,encStr,hj]
 have hc:=hS (β.blk b) 0 (β.cap b) (bs.map (·.data.toList)) w hH (by simp; omega) (by simp at k5; simp; omega)
 have hco:(Go.Lib.compact (bs.map (·.data.toList))).map natsB = l:=by
  have e:=asc_bytes g2
  exact compact_ok _ (by rw [e]; exact hx) hl nl (fun a=>by rw [hm a,e])
 have hll0:(Go.Lib.compact (bs.map (·.data.toList))).length ≤ xs.length:=by
  have:=List.length_filter_le (Go.Lib.keeps (bs.map (·.data.toList)).toArray) (List.range (bs.map (·.data.toList)).length)
  simp only [List.length_range,List.length_map] at this
  simp only [Go.Lib.compact,Go.Lib.compactUpTo,List.length_map]
  rw [hxl]; exact this
 generalize hcd:Go.Lib.compact (bs.map (·.data.toList)) = C at hc hco hll0
 rw [List.length_map,← hxl] at hc
 have hCl:C.length = l.length:=by rw [← hco]; simp
 have hll:l.length ≤ xs.length:=by rw [← hCl]; exact hll0
 refine hc.mono ?_
 rintro e w' ⟨rfl,n,rfl⟩
 generalize hd:C ++ List.replicate (xs.length - C.length) [] = d
 have hso:l ++ List.replicate (xs.length - l.length) [] = d.map natsB:=by
  rw [← hd,List.map_append,hco,List.map_replicate,hCl]; rfl
 have hdl:d.length = bs.length:=by rw [← hd]; simp [hCl]; omega
 have hnew:=putCells_list (d:=d) k3 (by simp [hdl])
 generalize hcs:Go.Sort.putCells encStr 0 d.toArray cs = new at hnew
 rw [hso]
 have hst:HStep β H β (H.set b (.arr .grow ver 1 ((d.map natsB).map (AV.p ∘ PV.str)))):=set_step hb (.inr (.inl ⟨_,_,_,_,_,rfl,rfl,by simp [hdl,hxl]⟩))
 have hnil' : ¬ isNilArr .grow ((d.map natsB).map (AV.p ∘ PV.str)) := fun h => hne (by
     have h0:d = []:=by simpa using h.2
     rw [h0] at hdl
     exact List.length_eq_zero_iff.1 (by rw [hxl,← hdl]; rfl))
 have hp1:=write_post hr hb hnil (o':=.arr .grow ver 1 ((d.map natsB).map (AV.p ∘ PV.str))) hnil' (fun _ h=>h) k1 (new:=new) k7' hst
  (.inr ⟨new,T,d.map fun l=>[Value.string ⟨l.toArray⟩],rest,setRow_heap w _ _ _ T _ k1,by
   have:=strs_to (P:=P) (w:=w.setRow (β.blk b) new) (Imm:=Imm) d
   rw [← AVCl_map (β:=β) (H:=H.set b (.arr .grow ver 1 ((d.map natsB).map (AV.p ∘ PV.str))))] at this
   simpa [Function.comp_def] using this,by rw [hnew,flat1],by rw [← k4,← hcs]; simp [Go.Sort.putCells],by simp only [List.length_map] at k5 ⊢; omega,by simp,k7,by simp,k9⟩)
  (by simp only [Obj.refs]; rw [refsLtl_mem]; intro v hv; simp only [List.mem_map] at hv; obtain ⟨x,_,rfl⟩:=hv; trivial)
 have hp2:Post P Prot Imm (w.setRow (β.blk b) new) β _ Imm (Go.Sort.putRow encStr (Go.Sort.ahead w n) (β.blk b) 0 d.toArray) β _ :=
  HRel.later hp1.rel (fun _ h => h) (fun _ h => .inl h) (fun k hk => by
      have:=hr.imm k hk
      simp only [Go.Sort.size_putRow]
      show k < (Go.Sort.ahead w n).heap.size
      simp only [Go.Sort.ahead]; omega)
   (by rw [setRow_size]; simp only [Go.Sort.size_putRow,Go.Sort.ahead]; omega)
   (fun k hk=>by
    rw [setRow_size] at hk
    by_cases hkb:k = β.blk b
    · subst hkb
      rw [setRow_heap w _ _ _ T _ k1]
      simp [Go.Sort.putRow,Go.Sort.mapBlock,Go.Sort.ahead,Go.Sort.onCells,Array.getElem?_modify,k1,hcs]
    · rw [setRow_other w _ k _ hkb]
      simp [Go.Sort.putRow,Go.Sort.mapBlock,Go.Sort.ahead,Array.getElem?_modify,Ne.symm hkb])
 have hbl:b < H.length:=(List.getElem?_eq_some_iff.1 hb).1
 refine ⟨_,β,Imm,rfl,hp1.trans hp2,?_,?_⟩
 · refine ⟨rfl,?_⟩
   intro k es hk
   rw [LiveArr,List.getElem?_set_self hbl] at hk
   cases hk
   refine ⟨by simp [hdl]; omega,fun h=>(hnil' h).elim,fun _=>by simp [hCl]⟩
 · exact ⟨_,List.getElem?_set_self hbl,Nat.le_refl _⟩
end Go.Abs
namespace Go.Proofs
open Go.Shelf Go.RowKit Go.Lib Go.Sort
set_option maxHeartbeats 1000000 in
theorem Tryz.isNaN247 (a:ByteArray) (W:World):Calls Tryz.prog 247 #[.string a] W fun e w'=>e = .returned (.bool false) ∧ w' = W:=by
 go_enter Tryz.func247,Tryz.ntmps247
 go_wp2
 go_ret
 exact ⟨rfl,rfl⟩
def cmpBy (a b:ByteArray):Int:=if Op.bytesLess a.toList b.toList = true then -1 else if (!a.toList == b.toList) = true then 1 else 0
set_option maxHeartbeats 1000000 in
theorem Tryz.compare202 (a b:ByteArray) (W:World):Calls Tryz.prog 202 #[.string a,.string b] W fun e w'=>e = .returned (.int .i64 (cmpBy a b)) ∧ w' = W:=by
 go_enter Tryz.func202,Tryz.ntmps202
 go_wp2_with (go_at_call 247; refine (Tryz.isNaN247 _ _).mono ?_; rintro e w' ⟨rfl,hw⟩; rw [hw])
 all_goals go_ret
 · refine ⟨?_,rfl⟩
   rw [cmpBy,if_pos (by assumption)]
   rfl
 · refine ⟨?_,rfl⟩
   rw [cmpBy,if_neg (by simp [*]),if_pos (by assumption)]
   rfl
 · refine ⟨?_,rfl⟩
   rw [cmpBy,if_neg (by simp [*]),if_neg (by simp [*])]
   rfl
structure VC where
 name:ByteArray
 c1:Value
 c2:Value
 c3:Value
 c4:Value
 o1:c1.oneCell' = true
 o2:c2.oneCell' = true
 o3:c3.oneCell' = true
 o4:c4.oneCell' = true
instance:Inhabited VC:=⟨⟨⟨#[]⟩,.bool false,.bool false,.bool false,.bool false,rfl,rfl,rfl,rfl⟩⟩
def VC.enc (x:VC):List Value:=[.string x.name,x.c1,x.c2,x.c3,x.c4]
set_option maxHeartbeats 1000000 in
theorem Tryz.closure204 (x y:VC) (W:World):Calls Tryz.prog 204 #[.agg x.enc.toArray,.agg y.enc.toArray] W fun e w'=>e = .returned (.int .i64 (cmpBy x.name y.name)) ∧ ∃ q os',w' = grow (W.drewN q) os':=by
 have hcon:=fun W'=>Tryz.compare202 x.name y.name W'
 generalize cmpBy x.name y.name = r at hcon ⊢
 obtain ⟨a,x1,x2,x3,x4,p1,p2,p3,p4⟩:=x
 obtain ⟨b,y1,y2,y3,y4,q1,q2,q3,q4⟩:=y
 simp only [VC.enc] at hcon ⊢
 go_enter Tryz.func204,Tryz.ntmps204
 go_wp2_with (go_at_call 202; refine (hcon _).mono ?_; rintro e w' ⟨rfl,rfl⟩)
 go_ret
 exact ⟨rfl,0,_,by rw [alloc_eq_grow,alloc_eq_grow,grow_grow]; rfl⟩
end Go.Proofs
namespace Go.Abs
open Go.Proofs
set_option maxRecDepth 100000
theorem sz_book:szs Tryz.prog 23 = some [1,1]:=by kernel_rfl
theorem sz_ver:szs Tryz.prog 147 = some [1,1,1,2]:=by kernel_rfl
section
variable {w:World} {Imm:Nat → Prop}
theorem seq_cell {es:List PV} {c:List Value} (h:PVC Tryz.prog w Imm (.seq es) c):∃ x:Value,c = [x] ∧ x.oneCell' = true:=by
 simp only [PVC] at h
 rcases h with ⟨_,h⟩ | ⟨_,_,_,_,_,_,_,_,_,_,_,h⟩
 · exact ⟨_,h,rfl⟩
 · exact ⟨_,h,rfl⟩
theorem str_cell {s:List Nat} {c:List Value} (h:PVC Tryz.prog w Imm (.str s) c):∃ x:ByteArray,c = [.string x] ∧ s = natsB x.data.toList:=by
 simp only [PVC] at h
 obtain ⟨b,h1,h2⟩:=h
 exact ⟨b,h1,h2⟩
theorem ver_cells {v:VerD} {c:List Value} (h:PVC Tryz.prog w Imm (eVer v) c):∃ x:VC,c = x.enc ∧ v.name = natsB x.name.data.toList:=by
 simp only [eVer,PVC,sz_ver] at h
 obtain ⟨l,css,h1,h2,h3⟩:=h
 cases h1
 simp only [PVCl] at h2
 obtain ⟨c0,r0,rfl,k0,_,c1,r1,rfl,k1,_,c2,r2,rfl,k2,_,c3,r3,rfl,k3,_,rfl⟩:=h2
 simp only [eBook,PVC,sz_book] at k3
 obtain ⟨l,css,h1,h2,rfl⟩:=k3
 cases h1
 simp only [PVCl] at h2
 obtain ⟨d0,s0,rfl,m0,_,d1,s1,rfl,m1,_,rfl⟩:=h2
 obtain ⟨x0,rfl,e0⟩:=str_cell k0
 simp only [PVC] at k1
 subst k1
 obtain ⟨x2,rfl,o2⟩:=seq_cell k2
 obtain ⟨x3,rfl,_⟩:=str_cell m0
 obtain ⟨x4,rfl,o4⟩:=seq_cell m1
 exact ⟨⟨x0,.int .i64 v.level,x2,.string x3,x4,rfl,o2,rfl,o4⟩,by rw [h3]; rfl,e0⟩
theorem vers_of : ∀ {l : List VerD} {css : List (List Value)}, PVCl Tryz.prog w Imm (List.replicate l.length 5) (l.map eVer) css →
    ∃ xs:List (VerD × VC),xs.map (·.1) = l ∧ css = xs.map (fun p=>p.2.enc) ∧ ∀ p ∈ xs,PVC Tryz.prog w Imm (eVer p.1) p.2.enc ∧ p.1.name = natsB p.2.name.data.toList
 | [],css,h=>⟨[],rfl,by simpa [PVCl] using h,by simp⟩
 | v :: l,css,h=>by
  simp only [List.length_cons,List.replicate_succ,List.map_cons,PVCl] at h
  obtain ⟨c,cs,rfl,h1,_,h2⟩:=h
  obtain ⟨x,rfl,hn⟩:=ver_cells h1
  obtain ⟨xs,g1,g2,g3⟩:=vers_of h2
  refine ⟨(v,x) :: xs,by simp [g1],by simp [g2],?_⟩
  intro p hp
  rcases List.mem_cons.1 hp with rfl | hp
  · exact ⟨h1,hn⟩
  · exact g3 p hp
theorem vers_to:∀ {xs:List (VerD × VC)},(∀ p ∈ xs,PVC Tryz.prog w Imm (eVer p.1) p.2.enc) → PVCl Tryz.prog w Imm (List.replicate xs.length 5) ((xs.map (·.1)).map eVer) (xs.map fun p=>p.2.enc)
 | [],_=>by simp [PVCl]
 | p :: r,h=>by
  simp only [List.length_cons,List.replicate_succ,List.map_cons,PVCl]
  exact ⟨_,_,rfl,h p List.mem_cons_self,rfl,vers_to fun q hq=>h q (List.mem_cons_of_mem _ hq)⟩
end
theorem perm_lift {α β:Type} (f:α → β) {l l':List β} (h:l'.Perm l):∀ zs:List α,zs.map f = l → ∃ zs':List α,zs'.Perm zs ∧ zs'.map f = l':=by
 induction h with
 | nil=>intro zs hz; exact ⟨[],by simpa using hz,rfl⟩
 | cons x _ ih =>
  intro zs hz
  cases zs with
  | nil=>simp at hz
  | cons z zs =>
   simp only [List.map_cons,List.cons.injEq] at hz
   obtain ⟨zs',p1,p2⟩:=ih zs hz.2
   exact ⟨z :: zs',p1.cons z,by simp [p2,hz.1]⟩
 | swap x y l =>
  intro zs hz
  match zs,hz with
  | a :: b :: r,hz =>
   simp only [List.map_cons,List.cons.injEq] at hz
   exact ⟨b :: a :: r,.swap a b r,by simp [hz]⟩
 | trans _ _ ih1 ih2 =>
  intro zs hz
  obtain ⟨z1,p1,p2⟩:=ih2 zs hz
  obtain ⟨z2,q1,q2⟩:=ih1 z1 p2
  exact ⟨z2,q1.trans p1,q2⟩
theorem flat_get {α:Type} (enc:α → List Value) (k:Nat) (hk:∀ x,(enc x).length = k) (k0:0 < k):∀ (l:List α) (t:Nat),t < l.length * k → (l.map enc).flatten[t]? = (l[t / k]?).bind fun x=>(enc x)[t % k]?
 | [],t,h=>by simp at h
 | x :: r,t,h=>by
  simp only [List.map_cons,List.flatten_cons]
  by_cases ht:t < k
  · rw [List.getElem?_append_left (by rw [hk]; exact ht),Nat.div_eq_of_lt ht,Nat.mod_eq_of_lt ht]; rfl
  · have h1:t / k = (t - k) / k + 1:=by rw [← Nat.add_div_right (t - k) k0,Nat.sub_add_cancel (by omega)]
    have h2:t % k = (t - k) % k:=by rw [← Nat.add_mod_right (t - k) k,Nat.sub_add_cancel (by omega)]
    rw [List.getElem?_append_right (by rw [hk]; omega),hk,flat_get enc k hk k0 r (t - k) (by simp only [List.length_cons,Nat.add_mul] at h; omega),h1,h2,List.getElem?_cons_succ]
theorem flatK_list (ds:List VC):(Go.Sort.flatK VC.enc 5 ds.toArray).toList = (ds.map VC.enc).flatten:=by
 apply List.ext_getElem?
 intro t
 by_cases ht:t < ds.length * 5
 · rw [flat_get VC.enc 5 (fun _=>rfl) (by omega) ds t ht]
   have hq:t / 5 < ds.length:=by omega
   have hm:t % 5 < (VC.enc ds[t / 5]).length:=by rw [show (VC.enc ds[t / 5]).length = 5 from rfl]; omega
   rw [List.getElem?_eq_getElem hq]
   simp only [Option.bind_some]
   rw [List.getElem?_eq_getElem hm,Array.getElem?_toList]
   have h3:t < (Go.Sort.flatK VC.enc 5 ds.toArray).size:=by simpa using ht
   rw [Array.getElem?_eq_getElem h3]
   have h4:=Go.Sort.get_flatK VC.enc 5 ds.toArray t (by simpa using ht)
   rw [getElem!_pos (Go.Sort.flatK VC.enc 5 ds.toArray) t h3] at h4
   rw [h4]
   simp [hq,hm]
 · have h1:(Go.Sort.flatK VC.enc 5 ds.toArray).toList.length ≤ t:=by simp; omega
   have h2:(ds.map VC.enc).flatten.length ≤ t:=by
    rw [List.length_flatten]
    have:((ds.map VC.enc).map List.length) = List.replicate ds.length 5:=by
     rw [List.map_map,List.eq_replicate_iff]
     exact ⟨by simp,fun b hb=>by obtain ⟨x,_,rfl⟩:=List.mem_map.1 hb; rfl⟩
    rw [this]; simp; omega
   rw [List.getElem?_eq_none h1,List.getElem?_eq_none h2]
theorem cmpBy_lt (a b:ByteArray):(cmpBy a b < 0) = (sLess (natsB a.data.toList) (natsB b.data.toList) = true):=by
 have h:Op.bytesLess a.toList b.toList = sLess (natsB a.data.toList) (natsB b.data.toList):=by
  rw [bytesLess_eq,sLess_eq,ByteArray.toList_eq,ByteArray.toList_eq]; rfl
 rw [cmpBy,h]
 cases sLess (natsB a.data.toList) (natsB b.data.toList) with
 | true=>simp
 | false =>
  simp
  split <;> omega
def cfV (x y:VC):Int:=cmpBy x.name y.name
theorem ltV (x y:VC):Go.Proofs.ltOf cfV x y = sLess (natsB x.name.data.toList) (natsB y.name.data.toList):=by
 simp only [Go.Proofs.ltOf,cfV,cmpBy_lt,Bool.decide_eq_true]
theorem swoV:Go.Sort.SWO (Go.Proofs.ltOf cfV) where
 irrefl x:=by rw [ltV,sLess_irr]
 trans x y z h1 h2:=by rw [ltV] at *; exact sLess_trans h1 h2
 ntrans x y z h1 h2:=by rw [ltV] at *; exact sLess_neg_trans h2 h1
theorem putCells_id {F:List Value} {l rest:List Value} {cs:Array Value} (h:cs.toList = l ++ rest) (hl:l.length = F.length):(Go.Sort.putCells id 0 F.toArray cs).toList = F ++ rest:=by
 have hsz:cs.size = l.length + rest.length:=by rw [← Array.length_toList,h]; simp
 apply List.ext_getElem
 · simp [Go.Sort.putCells,hsz,hl]
 · intro i h1 h2
   simp only [Go.Sort.putCells,Array.getElem_toList,Array.getElem_mapIdx,List.size_toArray,Nat.zero_le,Nat.zero_add,true_and,Nat.sub_zero]
   split
   · rename_i hi
     rw [List.getElem_append_left (by simpa using hi)]
     simp [hi]
   · rename_i hi
     rw [List.getElem_append_right (by simpa using hi)]
     have e:cs[i]'(by simpa [Go.Sort.putCells] using h1) = cs.toList[i]'(by simpa [Go.Sort.putCells] using h1):=by simp
     rw [e]
     simp only [h]
     rw [List.getElem_append_right (by omega)]
     simp [hl]
theorem sorted_asc {zs : List (VerD × VC)} (hz : ∀ p ∈ zs, p.1.name = natsB p.2.name.data.toList) (hn : (namesV (zs.map (·.1))).Nodup)
    (hs:Go.Sort.SortedIn (Go.Proofs.ltOf cfV) 0 zs.length (zs.map (·.2)).toArray):AscV (zs.map (·.1)):=by
 rw [AscV,List.pairwise_iff_getElem]
 intro i j hi hj hij
 simp only [List.length_map] at hi hj
 have h1:=hs i j (Nat.zero_le _) hij hj
 rw [ltV] at h1
 have gi:((zs.map (·.2)).toArray)[i]! = zs[i].2:=by simp [hi]
 have gj:((zs.map (·.2)).toArray)[j]! = zs[j].2:=by simp [hj]
 rw [gi,gj,← hz _ (List.getElem_mem hi),← hz _ (List.getElem_mem hj)] at h1
 simp only [List.getElem_map]
 cases h2:sLess zs[i].1.name zs[j].1.name with
 | true=>rfl
 | false =>
  have h3:=sLess_tri h2 h1
  rw [namesV,List.map_map,List.nodup_iff_pairwise_ne,List.pairwise_iff_getElem] at hn
  have h4:=hn i j (by simpa using hi) (by simpa using hj) hij
  simp at h4
  exact absurd h3 h4
theorem g_sortV {H : Heap} {b ver : Nat} {xs : List VerD} (hb : H[b]? = some (.arr .grow ver 5 (xs.map (AV.p ∘ eVer)))) (hne : xs ≠ []) (hlen : xs.length ≤ 1048576) (hnd : (namesV xs).Nodup) :
    GoodI Tryz.prog 203 H [.sl b ver 5 0 xs.length,.p (.func 204 [] [])] (H.set b (.arr .grow ver 5 ((sortV xs).map (AV.p ∘ eVer)))) (.p (.tup [])):=by
 refine ⟨isF203.enters,fun w Imm Prot β cargs hr ha hre=>?_⟩
 simp only [AVVl,AVV] at ha
 obtain ⟨v,vs,rfl,⟨_,hp⟩,v2,vs2,rfl,hf,rfl⟩:=ha
 simp only [PVV,PVVl] at hf
 obtain ⟨fv,cv,rfl,rfl,rfl⟩:=hf
 obtain ⟨_,_,hv⟩:=hp .grow _ hb
 have hnil:¬ isNilArr .grow (xs.map (AV.p ∘ eVer)):=fun h=>hne (by simpa using h.2)
 have hv:=hv hnil
 simp only [Nat.zero_mul,Nat.sub_zero] at hv
 subst hv
 rcases hr.objs b _ hb with h | ⟨cs,T,css,rest,k1,k2,k3,k4,k5,k6,k7,k8,k9⟩
 · exact (hnil h).elim
 have k2':PVCl Tryz.prog w Imm (List.replicate xs.length 5) (xs.map eVer) css:=by
  have:PVCl Tryz.prog w Imm (List.replicate (xs.map (AV.p ∘ eVer)).length 5) (xs.map eVer) css:=by
   rw [← AVCl_map (β:=β) (H:=H)]; simpa [Function.comp_def] using k2
  simpa using this
 obtain ⟨zs,g1,g2,g3⟩:=vers_of k2'
 have k7':¬ Imm (β.blk b) ∧ ¬ Prot (β.blk b):=by simpa [Held] using k7
 have hxl:xs.length = zs.length:=by rw [← g1]; simp
 have hfl:css.flatten = (Go.Sort.flatK VC.enc 5 (zs.map (·.2)).toArray).toList:=by rw [flatK_list,g2,List.map_map]; rfl
 have hblk:β.blk b < w.heap.size:=(Array.getElem?_eq_some_iff.1 k1).1
 have hH:Go.Sort.HoldsK VC.enc 5 w (β.blk b) 0 (zs.map (·.2)).toArray:=by
  intro j hj
  refine ⟨?_,by simp [World.frozen?,k1]⟩
  have e1:cs[j]? = some (Go.Sort.flatK VC.enc 5 (zs.map (·.2)).toArray)[j]!:=by
   rw [← Array.getElem?_toList,k3,hfl,List.getElem?_append_left (by simpa using hj),Array.getElem?_toList,Array.getElem?_eq_getElem hj,getElem!_pos (Go.Sort.flatK VC.enc 5 (zs.map (·.2)).toArray) j hj]
  simp [World.cell?,k1,e1]
 have hc := AnyQ.slices_SortFunc Tryz.sortF 5 Tryz.isAgg148 Tryz.sizeOf148 VC.enc (fun _ => rfl) (fun x v hv => by
     simp only [VC.enc,List.mem_cons,List.not_mem_nil,or_false] at hv
     rcases hv with rfl | rfl | rfl | rfl | rfl
     · rfl
     · exact x.o1
     · exact x.o2
     · exact x.o3
     · exact x.o4) cfV swoV 204 #[] (β.blk b) 0 (β.cap b) (zs.map (·.2)).toArray w isF204.enters (fun _ _ _ _ x y=>by simpa [cfV] using Tryz.closure204 x y _) hH hblk (by simp; omega)
 change Calls Tryz.prog 203 _ _ _ at hc
 simp only [List.size_toArray,List.length_map,← hxl] at hc
 refine hc.mono ?_
 rintro e w' ⟨rfl,d',n,os,hpm,hso,rfl⟩
 have hds:d'.size = zs.length:=by rw [hpm.1]; simp
 have hpl:d'.toList.Perm (zs.map (·.2)):=by
  have:=hpm.2.2
  rw [hxl] at this
  have e1:d'.extract 0 zs.length = d':=by rw [← hds]; simp
  have e2:((zs.map (·.2)).toArray).extract 0 zs.length = (zs.map (·.2)).toArray:=by
   have:zs.length = ((zs.map (·.2)).toArray).size:=by simp
   rw [this]; simp
  rw [e1,e2] at this
  exact this
 obtain ⟨ys,y1,y2⟩:=perm_lift (fun p:VerD × VC=>p.2) hpl zs rfl
 have hyl:ys.length = zs.length:=y1.length_eq
 have hd':d' = (ys.map (·.2)).toArray:=by rw [y2]
 have hyp:(ys.map (·.1)).Perm xs:=by rw [← g1]; exact y1.map _
 have hy3:∀ p ∈ ys,PVC Tryz.prog w Imm (eVer p.1) p.2.enc ∧ p.1.name = natsB p.2.name.data.toList:=fun p hp=>g3 p (y1.mem_iff.1 hp)
 have hasc:AscV (ys.map (·.1)):=by
  refine sorted_asc (fun p hp=>(hy3 p hp).2) ?_ ?_
  · exact ((hyp.map VerD.name).nodup_iff).2 hnd
  · rw [hyl,← hxl,← hd']; exact hso
 have hsv:ys.map (·.1) = sortV xs:=sortV_of hnd hyp hasc
 have hsl:(sortV xs).length = xs.length:=by rw [← hsv,hyp.length_eq]
 generalize hF:Go.Sort.flatK VC.enc 5 d' = F
 have hFl:F.toList = (ys.map fun p=>p.2.enc).flatten:=by rw [← hF,hd',flatK_list,List.map_map]; rfl
 have hFa:F = F.toList.toArray:=by simp
 have hcl:css.flatten.length = F.toList.length:=by
  rw [hfl,← hF]; simp [hds]
 have hnew:=putCells_id (F:=F.toList) k3 hcl
 rw [← hFa] at hnew
 generalize hcs:Go.Sort.putCells id 0 F cs = new at hnew
 have hst:HStep β H β (H.set b (.arr .grow ver 5 ((sortV xs).map (AV.p ∘ eVer)))):=set_step hb (.inr (.inl ⟨_,_,_,_,_,rfl,rfl,by simp [hsl]⟩))
 have hp1 := write_post hr hb hnil (o' := .arr .grow ver 5 ((sortV xs).map (AV.p ∘ eVer))) (fun h => hne (by
     have h0:sortV xs = []:=by simpa using h.2
     rw [h0] at hsl
     exact List.length_eq_zero_iff.1 hsl.symm)) (fun _ h=>h) k1 (new:=new) k7' hst
  (.inr ⟨new,T,ys.map fun p=>p.2.enc,rest,setRow_heap w _ _ _ T _ k1,by
   have:=vers_to (w:=w.setRow (β.blk b) new) (Imm:=Imm) (xs:=ys) (fun p hp=>PVC.mono (fun _ h=>h) (fun k hk=>setRow_other w (β.blk b) k new (fun e=>k7'.1 (by rw [← e]; exact hk))) _ _ (hy3 p hp).1)
   rw [hsv] at this
   have e:ys.length = ((sortV xs).map (AV.p ∘ eVer)).length:=by rw [List.length_map,hsl,hyl,hxl]
   rw [e] at this
   rw [← AVCl_map (β:=β) (H:=H.set b (.arr .grow ver 5 ((sortV xs).map (AV.p ∘ eVer))))] at this
   simpa [Function.comp_def] using this,by rw [hnew,hFl],by rw [← k4,← hcs]; simp [Go.Sort.putCells],by simpa [hsl] using k5,by simp,k7,by simp,k9⟩)
  (by simp only [Obj.refs]; rw [refsLtl_mem]; intro v hv; simp only [List.mem_map] at hv; obtain ⟨x,_,rfl⟩:=hv; trivial)
 have hp2:Post Tryz.prog Prot Imm (w.setRow (β.blk b) new) β _ Imm (sortWorldK VC.enc 5 w (β.blk b) 0 n d' os) β _ :=
  HRel.later hp1.rel (fun _ h => h) (fun _ h => .inl h) (fun k hk => by
      have:=hr.imm k hk
      simp only [Go.Proofs.sortWorldK,Go.Sort.putRowK,Go.Sort.grow,Array.size_append,Go.Sort.size_putRow]
      show k < (Go.Sort.ahead w n).heap.size + _
      simp only [Go.Sort.ahead]; omega)
   (by rw [setRow_size]; simp only [Go.Proofs.sortWorldK,Go.Sort.putRowK,Go.Sort.grow,Array.size_append,Go.Sort.size_putRow,Go.Sort.ahead]; omega)
   (fun k hk=>by
    rw [setRow_size] at hk
    simp only [Go.Proofs.sortWorldK,Go.Sort.putRowK,hF]
    have h1:(Go.Sort.grow (Go.Sort.putRow id (Go.Sort.ahead w n) (β.blk b) 0 F) os).heap[k]? = (Go.Sort.putRow id (Go.Sort.ahead w n) (β.blk b) 0 F).heap[k]?:=by
     simp only [Go.Sort.grow]
     rw [Array.getElem?_append_left (by simpa [Go.Sort.ahead] using hk)]
    rw [h1]
    by_cases hkb:k = β.blk b
    · subst hkb
      rw [setRow_heap w _ _ _ T _ k1]
      simp [Go.Sort.putRow,Go.Sort.mapBlock,Go.Sort.ahead,Go.Sort.onCells,Array.getElem?_modify,k1,hcs]
    · rw [setRow_other w _ k _ hkb]
      simp [Go.Sort.putRow,Go.Sort.mapBlock,Go.Sort.ahead,Array.getElem?_modify,Ne.symm hkb])
 exact ⟨_,β,Imm,rfl,hp1.trans hp2,by simp [AVV,PVV,PVVl],by simp [refsLt]⟩
end Go.Abs
namespace Go.Abs
abbrev Memo:=List (List Nat × Bool)
def memoGet:Memo → List Nat → Option Bool
 | [],_=>none
 | (a,b) :: r,k=>if a = k then some b else memoGet r k
def memoSet:Memo → List Nat → Bool → Memo
 | [],k,b=>[(k,b)]
 | (a,c) :: r,k,b=>if a = k then (a,b) :: r else (a,c) :: memoSet r k b
theorem memoGet_set (k j:List Nat) (b:Bool):∀ m:Memo,memoGet (memoSet m k b) j = if k = j then some b else memoGet m j
 | []=>by simp [memoSet,memoGet]
 | (a,c) :: r=>by
  have ih:=memoGet_set k j b r
  by_cases h:a = k
  · subst h
    by_cases h2:a = j <;> simp [memoSet,memoGet,h2]
  · by_cases h2:a = j
    · subst h2
      have h3:¬ k = a:=fun e=>h e.symm
      simp [memoSet,memoGet,h,h3]
    · simp [memoSet,memoGet,h,h2,ih]
def parsOf (h:List VerD) (k:List Nat):List (List Nat):=((verAt h k).map (·.parents)).getD []
def lev (h:List VerD) (k:List Nat):Int:=((verAt h k).map (·.level)).getD 0
def memoF (h:List VerD):Nat → Memo → List Nat → Memo × Bool
 | 0,m,_=>(m,false)
 | f + 1,m,k=>match memoGet m k with
  | some b=>(m,b)
  | none =>
   let r:=(parsOf h k).foldl (fun (s:Memo × Bool) p=>if s.2 = true then memoF h f s.1 p else s) (m,(verAt h k).isSome)
   (memoSet r.1 k r.2,r.2)
def MemoOk (h:List VerD) (m:Memo):Prop:=∀ k b,memoGet m k = some b → b = wholeS h k
theorem memoOk_nil {h:List VerD}:MemoOk h []:=fun k b hb=>by simp [memoGet] at hb
theorem memoOk_set {h:List VerD} {m:Memo} {k:List Nat} {b:Bool} (hm:MemoOk h m) (hb:b = wholeS h k):MemoOk h (memoSet m k b):=by
 intro j c hj
 rw [memoGet_set] at hj
 by_cases h1:k = j
 · subst h1; rw [if_pos rfl] at hj; cases hj; exact hb
 · rw [if_neg h1] at hj; exact hm j c hj
theorem par_level {h:List VerD} (ok:HistOk h) {k p:List Nat} {v x:VerD} (hv:verAt h k = some v) (hp:p ∈ v.parents) (hx:verAt h p = some x):x.level < v.level :=
 lvlBad_false ok.up (verAt_mem hv).1 hp hx
theorem memoF_ok {h:List VerD} (ok:HistOk h):∀ (f:Nat) (m:Memo) (k:List Nat),MemoOk h m → (∀ v,verAt h k = some v → v.level ≤ f) → MemoOk h (memoF h (f + 1) m k).1 ∧ (memoF h (f + 1) m k).2 = wholeS h k:=by
 intro f
 induction f with
 | zero =>
  intro m k hm hl
  have hn:verAt h k = none:=by
   cases hv:verAt h k with
   | none=>rfl
   | some v =>
    have h1:=hl v hv
    have h2:=(ok.lev v (verAt_mem hv).1).1
    simp at h1
    omega
  have hw:wholeS h k = false:=by rw [whole_eq ok,hn]; rfl
  rw [memoF]
  cases hg:memoGet m k with
  | some b=>exact ⟨hm,hm k b hg⟩
  | none =>
   simp only [parsOf,hn,Option.map_none,Option.getD_none,List.foldl_nil,Option.isSome_none]
   exact ⟨memoOk_set hm hw.symm,hw.symm⟩
 | succ f ih =>
  intro m k hm hl
  rw [memoF]
  cases hg:memoGet m k with
  | some b=>exact ⟨hm,hm k b hg⟩
  | none =>
   simp only []
   have key : ∀ (ps : List (List Nat)) (m : Memo) (b : Bool), MemoOk h m → (∀ p ∈ ps, ∀ x, verAt h p = some x → x.level ≤ f) →
       MemoOk h (ps.foldl (fun (s:Memo × Bool) p=>if s.2 = true then memoF h (f + 1) s.1 p else s) (m,b)).1 ∧ (ps.foldl (fun (s:Memo × Bool) p=>if s.2 = true then memoF h (f + 1) s.1 p else s) (m,b)).2 = (b && ps.all (wholeS h)):=by
    intro ps
    induction ps with
    | nil=>intro m b hm _; simpa using hm
    | cons p ps ih2 =>
     intro m b hm hp
     cases b with
     | false =>
      rw [List.foldl_cons]
      have:=ih2 m false hm (fun q hq=>hp q (List.mem_cons_of_mem _ hq))
      simpa using this
     | true =>
      rw [List.foldl_cons]
      obtain ⟨a1,a2⟩:=ih m p hm (hp p List.mem_cons_self)
      have:=ih2 (memoF h (f + 1) m p).1 (memoF h (f + 1) m p).2 a1 (fun q hq=>hp q (List.mem_cons_of_mem _ hq))
      simp only [if_true]
      rw [List.all_cons,← a2]
      simpa using this
   have hk:MemoOk h ((parsOf h k).foldl (fun (s:Memo × Bool) p=>if s.2 = true then memoF h (f + 1) s.1 p else s) (m,(verAt h k).isSome)).1 ∧ ((parsOf h k).foldl (fun (s:Memo × Bool) p=>if s.2 = true then memoF h (f + 1) s.1 p else s) (m,(verAt h k).isSome)).2 = wholeS h k:=by
    cases hv:verAt h k with
    | none =>
     have:=key [] m false hm (fun p hp=>by simp at hp)
     simp only [parsOf,hv,Option.map_none,Option.getD_none,Option.isSome_none]
     rw [whole_eq ok,hv]
     simpa using this
    | some v =>
     have:=key v.parents m true hm (fun p hp x hx=>by
      have h1:=par_level ok hv hp hx
      have h2:=hl v hv
      push_cast at h2
      omega)
     simp only [parsOf,hv,Option.map_some,Option.getD_some,Option.isSome_some]
     rw [whole_eq ok,hv]
     simpa using this
   exact ⟨memoOk_set hk.1 hk.2,hk.2⟩
theorem lev_par {h:List VerD} (ok:HistOk h) {k p:List Nat} (hp:p ∈ parsOf h k):lev h p < lev h k:=by
 cases hv:verAt h k with
 | none=>simp [parsOf,hv] at hp
 | some v =>
  simp only [parsOf,hv,Option.map_some,Option.getD_some] at hp
  have h1:=(ok.lev v (verAt_mem hv).1).1
  cases hx:verAt h p with
  | none=>simp [lev,hv,hx]; omega
  | some x =>
   have:=par_level ok hv hp hx
   simpa [lev,hv,hx] using this
theorem lev_le {h:List VerD} (ok:HistOk h) (k:List Nat):lev h k ≤ 256:=by
 cases hx:verAt h k with
 | none=>simp [lev,hx]
 | some x=>have:=(ok.lev x (verAt_mem hx).1).2; simp [lev,hx]; omega
end Go.Abs
namespace Go.Abs
open Go.Proofs
set_option maxHeartbeats 4000000
set_option maxRecDepth 100000
def memoE (m:Memo):List (PV × PV):=m.map fun p=>(.str p.1,.bool p.2)
theorem look_memo (k:List Nat):∀ m:Memo,lookupM (memoE m) (.str k) = some ((memoGet m k).map .bool)
 | []=>by simp [memoE,lookupM,memoGet]
 | (a,b) :: r=>by
  have ih:=look_memo k r
  simp only [memoE,List.map_cons,lookupM,eqP,memoGet] at ih ⊢
  by_cases h:k = a
  · subst h; simp
  · have hb:(k == a) = false:=by simpa using h
    have h':¬ a = k:=fun e=>h e.symm
    rw [hb,if_neg h']
    simp only [ih]
theorem upd_memo (k:List Nat) (b:Bool):∀ m:Memo,updateM (memoE m) (.str k) (.bool b) = memoE (memoSet m k b)
 | []=>by simp [memoE,updateM,memoSet]
 | (a,c) :: r=>by
  have ih:=upd_memo k b r
  by_cases h:k = a
  · subst h; simp [memoE,updateM,eqP,memoSet]
  · have hb:(k == a) = false:=by simpa using h
    have h':¬ a = k:=fun e=>h e.symm
    simp only [memoE,List.map_cons,updateM,eqP,memoSet,hb,h',if_false] at ih ⊢
    simp [ih]
def gBox (h:List VerD):Obj:=.box false (.st 297 [.p (eHist h),.map 1])
def gHeap (h:List VerD) (m:Memo):Heap:=[gBox h,.map false (memoE m)]
theorem parsOf_get (h:List VerD) (k:List Nat):((verAt h k).getD zVer).parents = parsOf h k:=by
 cases hv:verAt h k <;> simp [parsOf,hv,zVer]
def foldW (h:List VerD) (f:Nat) (s:Memo × Bool) (p:List Nat):Memo × Bool:=if s.2 = true then memoF h f s.1 p else s
theorem foldl_take {α β:Type} (f:α → β → α) (a:α) {l:List β} {i:Nat} (hi:i < l.length):(l.take (i + 1)).foldl f a = f ((l.take i).foldl f a) l[i]:=by
 rw [List.take_succ_eq_append_getElem hi,List.foldl_append]; rfl
theorem memoF_some {h:List VerD} {f:Nat} {m:Memo} {k:List Nat} {b:Bool} (hg:memoGet m k = some b):memoF h (f + 1) m k = (m,b):=by
 rw [memoF,hg]
theorem memoF_none {h : List VerD} {f : Nat} {m : Memo} {k : List Nat} (hg : memoGet m k = none) :
    memoF h (f + 1) m k = (memoSet ((parsOf h k).foldl (foldW h f) (m,(verAt h k).isSome)).1 k ((parsOf h k).foldl (foldW h f) (m,(verAt h k).isSome)).2,((parsOf h k).foldl (foldW h f) (m,(verAt h k).isSome)).2):=by
 rw [memoF,hg]; rfl
theorem lev_nonneg {h:List VerD} (ok:HistOk h) (k:List Nat):0 ≤ lev h k:=by
 cases hx:verAt h k with
 | none=>simp [lev,hx]
 | some x=>have:=(ok.lev x (verAt_mem hx).1).1; simp [lev,hx]; omega
theorem pars_len {h:List VerD} (ok:HistOk h) (k:List Nat):(parsOf h k).length ≤ 2:=by
 cases hv:verAt h k with
 | none=>simp [parsOf,hv]
 | some v=>have:=ok.par v (verAt_mem hv).1; simpa [parsOf,hv] using this
theorem g_whole (h : List VerD) (ok : HistOk h) : ∀ (f : Nat) (m : Memo) (k : List Nat), lev h k ≤ f →
    GoodI Tryz.prog 165 (gHeap h m) [.ptr 0 [],.p (.str k)] (gHeap h (memoF h (f + 1) m k).1) (.p (.bool (memoF h (f + 1) m k).2)):=by
 intro f
 induction f using Nat.strongRecOn with
 | _ f ih =>
  intro m k hl
  refine goodI_fn nf isF165 mix (by simp [Tryz.f165]) ?_
  have hlen:h.length ≤ 1048576:=by have:=ok.len; omega
  cases hg:memoGet m k with
  | some b =>
   rw [memoF_some hg]
   simp [Tryz.f165,gHeap,gBox,look_memo,hg]
  | none =>
   rw [memoF_none hg]
   have hpl:=pars_len ok k
   have hV:=parsOf_get h k
   simp [Tryz.f165,gHeap,gBox,look_memo,hg]
   refine c2 (c_findV h k ok.asc hlen) ?_
   generalize (verAt h k).getD zVer = V at *
   have hE:=eVer_eq V
   rw [hV] at hE
   generalize (verAt h k).isSome = is0 at *
   simp [hE]
   refine lp (α:=Nat) (fun i=>⟨[(37,.p (.int .i64 i)),(36,.p (.int .i64 (parsOf h k).length)),(35,.p (.seq ((parsOf h k).map .str))),(9,.func 165 [.ptr 0 []] []),(8,.p (.bool (((parsOf h k).take i).foldl (foldW h f) (m,is0)).2)),(0,.ptr 0 []),(1,.p (.str k))],
    [.box false (.st 297 [.p (eHist h),.map 1]),.map false (memoE (((parsOf h k).take i).foldl (foldW h f) (m,is0)).1),.box false (.p (eVer V))]⟩) (fun i=>i ≤ (parsOf h k).length) (fun i=>(parsOf h k).length - i) 0 (by simp) ?_ (he:=by simp) (hh:=by simp [hE]) (hr:=by simp) (hr2:=by simp)
   rintro i k1
   have hw:=wi1 (i:=i) (by omega)
   by_cases hi:i < (parsOf h k).length
   · have hf:=foldl_take (foldW h f) (m,is0) hi
     have hlp:=lev_par ok (List.getElem_mem hi)
     have hnn:=lev_nonneg ok (parsOf h k)[i]
     obtain ⟨g,rfl⟩:∃ g,f = g + 1:=⟨f - 1,by omega⟩
     generalize ((parsOf h k).take i).foldl (foldW h (g + 1)) (m,is0) = S at *
     obtain ⟨M,b⟩:=S
     have hI:=ih g (by omega) M (parsOf h k)[i] (by push_cast at hl; omega)
     rw [foldW] at hf
     cases b with
     | false =>
      simp at hf
      simp [hi,hw]
      exact rd (i + 1) hi (hn:=by simp [hf]) (he:=by simp [hf]) (hh:=by simp [hf])
     | true =>
      simp only [if_true] at hf
      simp [hi]
      simp only [gHeap,gBox] at hI
      refine cf hI [0,1] ?_
      simp [hw,sig]
      exact rd (i + 1) hi (hn:=by simp [hf]) (he:=by simp [hf]) (hh:=by simp [hf])
   · have:i = (parsOf h k).length:=by omega
     subst this
     simp [upd_memo,look_memo]
     refine ForgetN.og (by simp) (by simp) (by simp) (by simp) (by simp)
def knowW (h:List VerD) (m:Memo) (k:List Nat):Memo:=(memoF h 257 m k).1
theorem knowW_ok {h:List VerD} (ok:HistOk h) {m:Memo} {k:List Nat} (hm:MemoOk h m):MemoOk h (knowW h m k) ∧ (memoF h 257 m k).2 = wholeS h k :=
 memoF_ok ok 256 m k hm fun v hv=>by have:=(ok.lev v (verAt_mem hv).1).2; omega
theorem g_wholeS {h : List VerD} (ok : HistOk h) {m : Memo} (hm : MemoOk h m) (k : List Nat) :
    GoodI Tryz.prog 165 [.box false (.st 297 [.p (eHist h),.map 1]),.map false (memoE m)] [.ptr 0 [],.p (.str k)] [.box false (.st 297 [.p (eHist h),.map 1]),.map false (memoE (knowW h m k))] (.p (.bool (wholeS h k))):=by
 have:=g_whole h ok 256 m k (lev_le ok k)
 rw [(knowW_ok ok hm).2] at this
 exact this
end Go.Abs
namespace Go.Abs
open Go.Proofs
set_option maxHeartbeats 4000000
set_option maxRecDepth 100000
def nameE (h:List VerD) (k:List Nat):Int:=firstE [whenE (!(verAt h k).isSome) 10,whenE (!wholeS h k) 24]
def namesE (h:List VerD):List (List Nat) → Int
 | []=>0
 | k :: r=>if nameE h k = 0 then namesE h r else nameE h k
def openE (h:List VerD) (l:List (List Nat)):Int:=firstE [chkHist h,namesE h l]
def memoL (h:List VerD) (l:List (List Nat)):Memo:=l.foldl (knowW h) []
theorem memoL_ok {h:List VerD} (ok:HistOk h) (l:List (List Nat)):MemoOk h (memoL h l):=by
 have:∀ (l:List (List Nat)) (m:Memo),MemoOk h m → MemoOk h (l.foldl (knowW h) m):=by
  intro l
  induction l with
  | nil=>intro m hm; exact hm
  | cons k r ih=>intro m hm; exact ih _ (knowW_ok ok hm).1
 exact this l [] memoOk_nil
theorem namesE_drop {h:List VerD} {l:List (List Nat)} {i:Nat} (hi:i < l.length):namesE h (l.drop i) = if nameE h l[i] = 0 then namesE h (l.drop (i + 1)) else nameE h l[i]:=by
 rw [List.drop_eq_getElem_cons hi,namesE]
theorem c_openErr (h : List VerD) (hb : histB h) (l : List (List Nat)) (hl : l.length ≤ 1000) (he : openE h l ≠ 0) :
    GoodC Tryz.prog 124 [eHist h,.seq (l.map .str)] (.tup [.nptr,.int .i64 (openE h l)]):=by
 refine good_fn nf isF124 mix (by simp [Tryz.f124]) ?_
 simp [Tryz.f124]
 refine c1 (c_checkHistory h hb) ?_
 by_cases hz:chkHist h = 0
 · have ok:=histOk hz
   have hlen:h.length ≤ 1048576:=by have:=ok.len; omega
   have e0:openE h l = namesE h l:=by rw [openE,hz]; simp [firstE]; exact fun h=>h.symm
   rw [e0] at he ⊢
   simp [hz]
   refine lp (α:=Nat) (fun i=>⟨[(24,.p (.int .i64 i)),(23,.p (.int .i64 l.length)),(22,.p (.seq (l.map .str))),(7,.ptr 2 []),(2,.ptr 0 [])],[.box false (.p (eHist h)),.map false (memoE (memoL h (l.take i))),.box false (.st 297 [.p (eHist h),.map 1])]⟩) (fun i=>i ≤ l.length ∧ namesE h l = namesE h (l.drop i)) (fun i=>l.length - i) 0 (by simp) ?_ (hh:=by simp [memoL,memoE])
   rintro i ⟨k1,k2⟩
   have hw:=wi1 (i:=i) (by omega)
   by_cases hi:i < l.length
   · have hf:memoL h (l.take (i + 1)) = knowW h (memoL h (l.take i)) l[i]:=foldl_take (knowW h) [] hi
     have hmo:=memoL_ok ok (l.take i)
     rw [namesE_drop hi] at k2
     have hI:=g_wholeS ok hmo l[i]
     simp [hi]
     refine c2 (c_findV h l[i] ok.asc hlen) ?_
     simp
     refine c2 (c_when (!(verAt h l[i]).isSome) 10) ?_
     simp
     refine cf hI [2,1] ?_
     simp [sig]
     refine c2 (c_when (!wholeS h l[i]) 24) ?_
     simp
     refine cp (h1:=?g1) (c_first [whenE (!(verAt h l[i]).isSome) 10,whenE (!wholeS h l[i]) 24] (by simp)) (by simp; exact ⟨rfl,rfl⟩) ?_
     case g1=>simp
     rw [← nameE]
     by_cases hn:nameE h l[i] = 0
     · rw [if_pos hn] at k2
       simp [hn,hw]
       exact rd (i + 1) ⟨hi,k2⟩ (hh:=by simp [hf])
     · rw [if_neg hn] at k2
       simp [hn,k2]
   · have:i = l.length:=by omega
     subst this
     rw [List.drop_length] at k2
     exact absurd k2 (by simpa [namesE] using he)
 · have e0:openE h l = chkHist h:=by rw [openE]; simp [firstE,hz]
   rw [e0]
   simp [hz]
theorem g_open0 (h : List VerD) (hb : histB h) (he : chkHist h = 0) :
    GoodI Tryz.prog 124 [] [.p (eHist h),.p .nsl] [.hole,.map false (memoE []),.box false (.st 297 [.p (eHist h),.map 1])] (.tup [.ptr 2 [],.p (.int .i64 0)]):=by
 refine goodI_fn nf isF124 mix (by simp [Tryz.f124]) ?_
 simp [Tryz.f124]
 refine c1 (c_checkHistory h hb) ?_
 simp [he]
 refine lp (α:=Nat) (fun _=>⟨[(24,.p (.int .i64 0)),(23,.p (.int .i64 0)),(7,.ptr 2 [])],[.hole,.map false (memoE []),.box false (.st 297 [.p (eHist h),.map 1])]⟩) (fun i=>i = 0) (fun i=>0) 0 (by simp) ?_ (hh:=by simp [memoE])
 rintro i rfl
 simp
end Go.Abs
namespace Go.Abs
open Go.Proofs
set_option maxHeartbeats 4000000
set_option maxRecDepth 100000
theorem openE_nil (h:List VerD):openE h [] = chkHist h:=by simp [openE,namesE,firstE]; exact fun h=>h.symm
theorem names_take (h:List VerD) (p:VerD → Bool) {i:Nat} (hi:i < h.length):namesV ((h.take (i + 1)).filter p) = namesV ((h.take i).filter p) ++ (if p h[i] = true then [h[i].name] else []):=by
 rw [List.take_succ_eq_append_getElem hi,List.filter_append,namesV,List.map_append]
 cases hp:p h[i] <;> simp [hp,namesV]
theorem names_lt (h:List VerD) (p:VerD → Bool) (i:Nat):(namesV ((h.take i).filter p)).length ≤ i:=by
 have:=List.length_filter_le p (h.take i)
 simp only [namesV,List.length_map,List.length_take] at *
 omega
def parUp (h:List VerD) (i:Nat) (q:List Nat):Bool:=(h.take i).any fun u=>wholeS h u.name && decide (q ∈ u.parents)
theorem parUp_succ (h:List VerD) {i:Nat} (hi:i < h.length) (q:List Nat):parUp h (i + 1) q = (parUp h i q || (wholeS h h[i].name && decide (q ∈ h[i].parents))):=by
 rw [parUp,List.take_succ_eq_append_getElem hi,List.any_append]; simp [parUp]
theorem memo_cases (m:Memo) (k:List Nat):((memoGet m k = none ∨ memoGet m k = some false) ∧ (memoGet m k).getD false = false) ∨ (memoGet m k = some true ∧ (memoGet m k).getD false = true):=by
 cases h:memoGet m k with
 | none=>simp
 | some b=>cases b <;> simp
def headE (h:List VerD):List (List Nat):=if chkHist h ≠ 0 then [] else headsL h
theorem c_heads (h:List VerD) (hb:histB h):GoodC Tryz.prog 67 [eHist h] (.tup [.seq ((headE h).map .str),.int .i64 (chkHist h)]):=by
 refine good_fn nf isF67 mix (by simp [Tryz.f67]) ?_
 by_cases hz:¬ chkHist h = 0
 · have hc:=c_openErr h hb [] (by simp) (by rw [openE_nil]; exact hz)
   rw [openE_nil] at hc
   simp [Tryz.f67]
   refine c2 hc ?_
   simp [hz,headE]
   try rfl
 replace hz:chkHist h = 0:=by simpa using hz
 have ok:=histOk hz
 have hlen:h.length ≤ 256:=ok.len
 simp [Tryz.f67]
 refine cn2 (g_open0 h hb hz) ?_
 simp [hz,headE,eHist]
 refine lp (α:=Nat × Memo × Memo) (fun (i,M,Q)=>⟨[(26,.p (.int .i64 i)),(25,.p (.int .i64 h.length)),(24,.p (.seq (h.map eVer))),(6,.map 4),(4,.ptr 3 []),(1,.ptr 0 [])],[.box false (.p (eHist h)),.hole,.map false (memoE M),.box false (.st 297 [.p (eHist h),.map 2]),.map false (memoE Q)]⟩)
  (fun (i,M,Q)=>i ≤ h.length ∧ MemoOk h M ∧ ∀ q,(memoGet Q q).getD false = parUp h i q) (fun (i,_)=>h.length - i) (0,[],[]) ⟨by simp,memoOk_nil,by simp [memoGet,parUp]⟩ ?_ (he:=by simp) (hh:=by simp [memoE,eHist])
 rintro ⟨i,M,Q⟩ ⟨k1,k2,k3⟩
 dsimp only at k1 k2 k3 ⊢
 have hw:=wi1 (i:=i) (by omega)
 by_cases hi:i < h.length
 · have hiz:(i:Int) < (h.length:Int):=by omega
   have hE:=eVer_eq h[i]
   have hpl:=ok.par h[i] (List.getElem_mem hi)
   simp [hiz,hi,hE]
   refine lp (α:=Nat × Memo × Memo) (fun (j,M,Q)=>⟨[(33,.p (.int .i64 j)),(32,.p (.int .i64 h[i].parents.length)),(31,.p (.seq (h[i].parents.map .str))),(26,.p (.int .i64 i)),(25,.p (.int .i64 h.length)),(24,.p (.seq (h.map eVer))),(8,.ptr 5 []),(6,.map 4),(4,.ptr 3 []),(1,.ptr 0 [])],[.box false (.p (eHist h)),.hole,.map false (memoE M),.box false (.st 297 [.p (eHist h),.map 2]),.map false (memoE Q),.box false (.p (eVer h[i]))]⟩)
    (fun (j,M,Q)=>j ≤ h[i].parents.length ∧ MemoOk h M ∧ ∀ q,(memoGet Q q).getD false = (parUp h i q || (wholeS h h[i].name && decide (q ∈ h[i].parents.take j)))) (fun (j,_)=>h[i].parents.length - j) (0,M,Q) ⟨by simp,k2,by simpa using k3⟩ ?_ (he:=by simp) (hh:=by simp [hE])
   clear k2 k3
   rintro ⟨j,M,Q⟩ ⟨q1,q2,q3⟩
   dsimp only at q1 q2 q3 ⊢
   have hw2:=wi1 (i:=j) (by omega)
   by_cases hj:j < h[i].parents.length
   · have hjz:(j:Int) < (h[i].parents.length:Int):=by omega
     have ht:∀ q:List Nat,(q ∈ h[i].parents.take (j + 1)) ↔ (q ∈ h[i].parents.take j ∨ q = h[i].parents[j]):=by
      intro q; rw [List.take_succ_eq_append_getElem hj,List.mem_append,List.mem_singleton]
     have hgq:=q3 h[i].parents[j]
     rcases memo_cases Q h[i].parents[j] with ⟨hcs,hg⟩ | ⟨hg,hg'⟩
     · rw [hg] at hgq
       have hI:=g_wholeS ok q2 h[i].name
       have hgo:∀ q,(memoGet (memoSet Q h[i].parents[j] (wholeS h h[i].name)) q).getD false = (parUp h i q || (wholeS h h[i].name && decide (q ∈ h[i].parents.take (j + 1)))):=by
        intro q
        rw [memoGet_set]
        by_cases hq:h[i].parents[j] = q
        · subst hq
          rw [if_pos rfl]
          have hp:parUp h i h[i].parents[j] = false:=by
           cases hp:parUp h i h[i].parents[j] with
           | false=>rfl
           | true=>rw [hp] at hgq; simp at hgq
          simp [hp,ht]
        · rw [if_neg hq,q3 q]
          have:¬ q = h[i].parents[j]:=fun e=>hq e.symm
          simp only [ht,this,or_false]
       rcases hcs with hcs | hcs
       all_goals
        simp [hjz,hj,look_memo,hcs,hE]
        refine cf hI [3,2] ?_
        simp [sig,upd_memo,look_memo,hcs,hw2]
        exact rd (j + 1,knowW h M h[i].name,memoSet Q h[i].parents[j] (wholeS h h[i].name)) ⟨hj,(knowW_ok ok q2).1,hgo⟩ (h1:=by dsimp only; omega) (hh:=by simp [hE])
     · rw [hg'] at hgq
       simp [hjz,hj,look_memo,hg,hE,upd_memo,hw2]
       refine rd (j + 1,M,memoSet Q h[i].parents[j] true) ⟨hj,q2,fun q=>?_⟩ (h1:=by dsimp only; omega) (hh:=by simp [hE])
       rw [memoGet_set]
       by_cases hq:h[i].parents[j] = q
       · subst hq
         rw [if_pos rfl]
         cases hp:parUp h i h[i].parents[j] with
         | true=>simp
         | false =>
          rw [hp] at hgq
          simp at hgq
          simp [hgq.1,ht]
       · rw [if_neg hq,q3 q]
         have:¬ q = h[i].parents[j]:=fun e=>hq e.symm
         simp only [ht,this,or_false]
   · have:j = h[i].parents.length:=by omega
     subst this
     simp [hw]
     exact rd (i + 1,M,Q) ⟨hi,q2,fun q=>by rw [parUp_succ h hi,q3 q,List.take_length]⟩ (h1:=by dsimp only; omega) (hh:=by simp)
 · have:i = h.length:=by omega
   subst this
   have k4:∀ q,(memoGet Q q).getD false = isPar h q:=fun q=>by rw [k3 q,parUp,List.take_length]; rfl
   clear k3
   simp [eHist]
   refine lp (α:=Nat × Memo) (fun (i,M)=>⟨[(53,.p (.int .i64 i)),(52,.p (.int .i64 h.length)),(51,.p (.seq (h.map eVer))),(11,.sl 5 (namesV ((h.take i).filter fun v=>wholeS h v.name && !isPar h v.name)).length 1 0 (namesV ((h.take i).filter fun v=>wholeS h v.name && !isPar h v.name)).length),(6,.map 4),(4,.ptr 3 [])],[.box false (.p (eHist h)),.hole,.map false (memoE M),.box false (.st 297 [.p (eHist h),.map 2]),.map false (memoE Q),.arr .grow (namesV ((h.take i).filter fun v=>wholeS h v.name && !isPar h v.name)).length 1 ((namesV ((h.take i).filter fun v=>wholeS h v.name && !isPar h v.name)).map (AV.p ∘ PV.str))]⟩)
    (fun (i,M)=>i ≤ h.length ∧ MemoOk h M) (fun (i,_)=>h.length - i) (0,M) ⟨by simp,k2⟩ ?_ (he:=by simp [namesV]) (hh:=by simp [namesV,eHist])
   clear k2
   rintro ⟨i,M⟩ ⟨q1,q2⟩
   dsimp only at q1 q2 ⊢
   have hw:=wi1 (i:=i) (by omega)
   have hnl:=names_lt h (fun v=>wholeS h v.name && !isPar h v.name) i
   by_cases hi:i < h.length
   · have hiz:(i:Int) < (h.length:Int):=by omega
     have hE:=eVer_eq h[i]
     have hns:=names_take h (fun v=>wholeS h v.name && !isPar h v.name) hi
     have hI:=g_wholeS ok q2 h[i].name
     generalize namesV ((h.take i).filter fun v=>wholeS h v.name && !isPar h v.name) = L at *
     simp [hiz,hi,hE]
     refine cf hI [3,2] ?_
     cases hwh:wholeS h h[i].name with
     | false =>
      simp [hwh] at hns
      simp [sig,hw]
      exact rd (i + 1,knowW h M h[i].name) ⟨hi,(knowW_ok ok q2).1⟩ (h1:=by dsimp only; omega) (he:=by simp [hns]) (hh:=by simp [hns]) (hr:=by simp [hns]) (hr2:=by simp [hns])
     | true =>
      have hq:=k4 h[i].name
      rcases memo_cases Q h[i].name with ⟨hcs,hg⟩ | ⟨hg,hg'⟩
      · rw [hg] at hq
        simp [hwh,← hq] at hns
        rcases hcs with hcs | hcs
        all_goals
         simp [sig,look_memo,hcs,hw]
         refine ⟨by simp only [maxL]; omega,?_⟩
         exact rd (i + 1,knowW h M h[i].name) ⟨hi,(knowW_ok ok q2).1⟩ (h1:=by dsimp only; omega) (he:=by simp [hns]) (hh:=by simp [hns]) (hr:=by simp [hns]) (hr2:=by simp [hns])
      · rw [hg'] at hq
        simp [hwh,← hq] at hns
        simp [sig,look_memo,hg,hw]
        exact rd (i + 1,knowW h M h[i].name) ⟨hi,(knowW_ok ok q2).1⟩ (h1:=by dsimp only; omega) (he:=by simp [hns]) (hh:=by simp [hns]) (hr:=by simp [hns]) (hr2:=by simp [hns])
   · have:i = h.length:=by omega
     subst this
     simp [headsL,hz]
end Go.Abs
namespace Go.Abs
open Go.Proofs
set_option maxHeartbeats 4000000
set_option maxRecDepth 100000
def zV:PV:=.st 147 [.str [],.int .i64 0,.nsl,.st 23 [.str [],.nsl]]
@[simp] theorem shp_zV:shp zV = .agg 147:=rfl
end Go.Abs
namespace Go.Abs
open Go.Proofs
set_option maxHeartbeats 4000000
set_option maxRecDepth 100000
theorem g_compactT {H : Heap} {b ver : Nat} {xs l : List (List Nat)} (hb : H[b]? = some (.arr .grow ver 1 (xs.map (AV.p ∘ PV.str)))) (hne : xs ≠ []) (hlen : xs.length ≤ 1048576)
    (hx:Asc xs) (hl:Asc l) (nl:l.Nodup) (hm:∀ a,a ∈ l ↔ a ∈ xs) :
    GoodI Tryz.prog 164 H [.sl b ver 1 0 xs.length] (H.set b (.arr .grow ver 1 ((l ++ List.replicate (xs.length - l.length) []).map (AV.p ∘ PV.str)))) (.sl b ver 1 0 l.length) :=
 g_compact isF164.enters (fun blk off cap zs w h1 h2 h3=>Any.slices_Compact_string Tryz.lays194 blk off cap zs w h1 h2 h3) hb hne (by omega) hx hl nl hm
theorem compact_len {l xs:List (List Nat)} (hn:l.Nodup) (hs:∀ a ∈ l,a ∈ xs):l.length ≤ xs.length:=by
 induction l generalizing xs with
 | nil=>simp
 | cons a r ih =>
  rw [List.nodup_cons] at hn
  have ha:=hs a List.mem_cons_self
  have h1:=ih (xs:=xs.erase a) hn.2 (fun b hb=>(List.mem_erase_of_ne (fun e=>hn.1 (by rw [← e]; exact hb))).2 (hs b (List.mem_cons_of_mem _ hb)))
  rw [List.length_erase_of_mem ha] at h1
  have:0 < xs.length:=List.length_pos_of_mem ha
  simp only [List.length_cons]; omega
theorem c_compact0:GoodC Tryz.prog 164 [.seq []] (.seq []):=by
 refine good_fn nf isF164 mix (by simp [Tryz.f164]) ?_
 simp [Tryz.f164]
def lackT (h:List VerD) (i:Nat):List (List Nat):=((h.take i).flatMap (·.parents)).filter fun p=>(verAt h p).isNone
theorem lackT_succ (h:List VerD) {i:Nat} (hi:i < h.length):lackT h (i + 1) = lackT h i ++ h[i].parents.filter fun p=>(verAt h p).isNone:=by
 rw [lackT,List.take_succ_eq_append_getElem hi,List.flatMap_append,List.filter_append]; simp [lackT]
theorem filt_snoc {α:Type} (p:α → Bool) {l:List α} {j:Nat} (hj:j < l.length):(l.take (j + 1)).filter p = (l.take j).filter p ++ (if p l[j] = true then [l[j]] else []):=by
 rw [List.take_succ_eq_append_getElem hj,List.filter_append]
 cases hp:p l[j] <;> simp [hp]
def missE (h:List VerD):List (List Nat):=if chkHist h ≠ 0 then [] else missS h
theorem c_missing (h:List VerD) (hb:histB h):GoodC Tryz.prog 66 [eHist h] (.tup [.seq ((missE h).map .str),.int .i64 (chkHist h)]):=by
 refine good_fn nf isF66 mix (by simp [Tryz.f66]) ?_
 simp [Tryz.f66]
 refine c1 (c_checkHistory h hb) ?_
 by_cases hz:¬ chkHist h = 0
 · simp [hz,missE]
   try rfl
 replace hz:chkHist h = 0:=by simpa using hz
 have ok:=histOk hz
 have hlen:h.length ≤ 256:=ok.len
 simp [hz,missE,eHist]
 refine lp (α:=Nat × List (List Nat)) (fun (i,L)=>⟨[(20,.p (.int .i64 i)),(19,.p (.int .i64 h.length)),(18,.p (.seq (h.map eVer))),(5,.sl 1 L.length 1 0 L.length),(1,.ptr 0 [])],[.box false (.p (eHist h)),.arr .grow L.length 1 (L.map (AV.p ∘ PV.str))]⟩)
  (fun (i,L)=>i ≤ h.length ∧ L = lackT h i ∧ L.length ≤ 2 * i) (fun (i,_)=>h.length - i) (0,[]) ⟨by simp,by simp [lackT],by simp⟩ ?_ (he:=by simp) (hh:=by simp [eHist])
 rintro ⟨i,L⟩ ⟨k1,k2,k3⟩
 dsimp only at k1 k2 k3 ⊢
 have hw:=wi1 (i:=i) (by omega)
 by_cases hi:i < h.length
 · have hiz:(i:Int) < (h.length:Int):=by omega
   have hE:=eVer_eq h[i]
   have hpl:=ok.par h[i] (List.getElem_mem hi)
   simp [hiz,hi,hE]
   refine lp (α:=Nat × List (List Nat)) (fun (j,L)=>⟨[(27,.p (.int .i64 j)),(26,.p (.int .i64 h[i].parents.length)),(25,.p (.seq (h[i].parents.map .str))),(20,.p (.int .i64 i)),(19,.p (.int .i64 h.length)),(18,.p (.seq (h.map eVer))),(5,.sl 1 L.length 1 0 L.length),(1,.ptr 0 [])],[.box false (.p (eHist h)),.arr .grow L.length 1 (L.map (AV.p ∘ PV.str))]⟩)
    (fun (j,L)=>j ≤ h[i].parents.length ∧ L = lackT h i ++ (h[i].parents.take j).filter (fun p=>(verAt h p).isNone) ∧ L.length ≤ 2 * i + j) (fun (j,_)=>h[i].parents.length - j) (0,L) ⟨by simp,by simpa using k2,by omega⟩ ?_ (he:=by simp) (hh:=by simp [hE])
   clear k2 k3
   rintro ⟨j,L⟩ ⟨q1,q2,q3⟩
   dsimp only at q1 q2 q3 ⊢
   have hw2:=wi1 (i:=j) (by omega)
   by_cases hj:j < h[i].parents.length
   · have hjz:(j:Int) < (h[i].parents.length:Int):=by omega
     have hs:=filt_snoc (fun p=>(verAt h p).isNone) hj
     simp [hjz,hj]
     refine c2 (c_findV h h[i].parents[j] ok.asc (by omega)) ?_
     cases hx:verAt h h[i].parents[j] with
     | none =>
      simp [hx] at hs
      simp [hw2]
      refine ⟨by simp only [maxL]; omega,?_⟩
      exact rd (j + 1,L ++ [h[i].parents[j]]) ⟨hj,by rw [hs,q2,List.append_assoc],by rw [List.length_append]; simp only [List.length_cons,List.length_nil]; omega⟩ (h1:=by dsimp only; omega) (he:=by simp) (hh:=by simp)
     | some x =>
      simp [hx] at hs
      simp [hw2]
      exact rd (j + 1,L) ⟨hj,by rw [hs,q2],by dsimp only; omega⟩ (h1:=by dsimp only; omega) (he:=by simp) (hh:=by simp)
   · have:j = h[i].parents.length:=by omega
     subst this
     simp [hw]
     exact rd (i + 1,L) ⟨hi,by rw [lackT_succ h hi,q2,List.take_length],by dsimp only; omega⟩ (h1:=by dsimp only; omega) (he:=by simp) (hh:=by simp)
 · have:i = h.length:=by omega
   subst this
   have kL:L = lackL h:=by rw [k2,lackT,List.take_length,lackL]
   clear k2
   obtain ⟨m1,m2,m3⟩:=missS_ok h
   rw [← kL] at m3
   by_cases hne:L = []
   · have hm0:missS h = []:=by
      cases hq:missS h with
      | nil=>rfl
      | cons a r=>have:=(m3 a).1 (by rw [hq]; exact List.mem_cons_self); rw [hne] at this; simp at this
     subst hne
     simp [hm0]
     refine ci (g_sort_nil (b:=1) (ver:=0) rfl) ?_
     simp
     refine cp (h1:=?g1) c_compact0 (by simp; exact ⟨rfl,rfl⟩) ?_
     case g1=>simp
     simp [hz,hm0]
   · have hso:=sortS_asc L
     have hsl:(sortS L).length = L.length:=(sortS_perm L).length_eq
     have gC:=g_compactT (H:=[.box false (.p (eHist h)),.arr .grow L.length 1 ((sortS L).map (AV.p ∘ PV.str))]) (b:=1) (ver:=L.length) (xs:=sortS L) (l:=missS h) rfl (fun e=>hne (by rw [e] at hsl; exact List.length_eq_zero_iff.1 hsl.symm)) (by omega) hso m1 m2 (fun a=>by rw [m3 a,(sortS_perm L).mem_iff])
     rw [hsl] at gC
     have hml:(missS h).length ≤ L.length:=by
      have:=compact_len m2 (fun a ha=>(m3 a).1 ha)
      exact this
     simp
     refine ci (g_sort163 (b:=1) (ver:=L.length) (xs:=L) rfl hne (by omega)) ?_
     simp
     refine ci gC ?_
     simp [hz]
end Go.Abs
namespace Go.Abs
open Go.Proofs
set_option maxHeartbeats 4000000
set_option maxRecDepth 100000
theorem insVr_pos (v:VerD):∀ h:List VerD,insVr h v = h.take (posV h v.name) ++ v :: h.drop (posV h v.name)
 | []=>by simp [insVr,posV]
 | x :: r=>by
  have ih:=insVr_pos v r
  by_cases hx:sLess x.name v.name = true
  · have e:posV (x :: r) v.name = posV r v.name + 1:=by simp [posV,List.takeWhile_cons,hx]
    rw [e]
    simp [insVr,hx,ih]
  · have e:posV (x :: r) v.name = 0:=by simp [posV,List.takeWhile_cons,hx]
    rw [e]
    simp [insVr,hx]
theorem pos_get (k:List Nat):∀ (h:List VerD) (i:Nat),i ≤ posV h k → (posV h k = i ↔ ∀ hi:i < h.length,sLess h[i].name k = false)
 | [],i,h=>by simp [posV] at h; simp [h,posV]
 | x :: r,i,h=>by
  by_cases hx:sLess x.name k = true
  · have e:posV (x :: r) k = posV r k + 1:=by simp [posV,List.takeWhile_cons,hx]
    rw [e] at h ⊢
    cases i with
    | zero=>simp [hx]
    | succ i=>have:=pos_get k r i (by omega); simpa using this
  · have e:posV (x :: r) k = 0:=by simp [posV,List.takeWhile_cons,hx]
    rw [e] at h ⊢
    have:i = 0:=by omega
    subst this
    simp [hx]
theorem purl_vers {H:Heap} {n m:Nat} {l:List VerD} (hm:l.length ≤ m):Purl H n (List.take m (l.map (AV.p ∘ rVer))) (l.map rVer):=by
 rw [List.take_of_length_le (by simpa using hm)]
 have:=purl_map (H:=H) (n:=n) (g:=fun s=>AV.p (rVer s)) (f:=rVer) (l:=l)
 simp only [Function.comp_def]
 rw [this]; intro x _; simp
theorem c_put (h:List VerD) (v:VerD) (hl:h.length ≤ 1000000):GoodC Tryz.prog 136 [.seq (h.map rVer),rVer v] (.seq ((insVr h v).map rVer)):=by
 refine good_fn nf isF136 mix (by simp [Tryz.f136]) ?_
 have hVE:=rVer_eq v
 have hle:=pos_le h v.name
 simp [Tryz.f136]
 refine lp (α:=Nat) (fun i=>⟨[(5,.p (.int .i64 i)),(3,.ptr 0 []),(0,.p (.seq (h.map rVer)))],[.box false (.p (rVer v))]⟩) (fun i=>i ≤ posV h v.name) (fun i=>h.length - i) 0 (by simp) ?_
 rintro i h1
 have hg:=pos_get v.name h i h1
 by_cases hi:i < h.length
 · have hw:=wi1 (i:=i) (by omega)
   have hE:=rVer_eq h[i]
   cases hs:sLess h[i].name v.name
   · have he:posV h v.name = i:=hg.2 fun _=>hs
     have hfin:=insVr_pos v h
     rw [he] at hfin
     have hl0:h ≠ []:=by intro e; subst e; simp at hi
     have hmin:min i h.length = i:=by omega
     have hA:(List.take i (h.map (AV.p ∘ rVer)) ++ [.p (rVer v)]) ++ List.drop i (h.map (AV.p ∘ rVer)) = (insVr h v).map (AV.p ∘ rVer):=by
      rw [hfin]; simp [List.map_take,List.map_drop]
     have hT:List.take (i + 1) (List.take i (h.map (AV.p ∘ rVer)) ++ [.p (rVer v)]) = List.take i (h.map (AV.p ∘ rVer)) ++ [.p (rVer v)]:=List.take_of_length_le (by simp; omega)
     have hL:(insVr h v).length = h.length + 1:=by rw [hfin]; simp; omega
     have hil:¬ h.length ≤ i:=by omega
     by_cases h0:i = 0
     · subst h0
       simp at hA
       simp [hi,hE,hVE,sLess_eq,hs,hl0]
       simp only [← hVE,hA]
       exact ⟨shpVerR h,by simp only [maxL]; omega,shpVerR h,⟨shpVerR h,by simp only [maxL]; omega⟩,⟨rfl,rfl⟩,by omega,purl_vers (by omega)⟩
     · simp [hi,hE,hVE,sLess_eq,hs,h0,hl0,hmin,hil]
       simp only [← hVE,hT,hA]
       have s1:allShp Tryz.prog 5 (List.take i (h.map (AV.p ∘ rVer))):=by rw [← List.map_take]; exact shpVerR _
       have s2:allShp Tryz.prog 5 (List.drop i (h.map (AV.p ∘ rVer))):=by rw [← List.map_drop]; exact shpVerR _
       exact ⟨⟨by omega,shpVerR h⟩,⟨s1,by simp only [maxL]; omega⟩,by simp only [maxL]; omega,⟨by omega,shpVerR h⟩,⟨s2,by simp only [maxL]; omega⟩,⟨rfl,rfl⟩,purl_vers (by omega)⟩
   · have hne:posV h v.name ≠ i:=fun e=>by have:=hg.1 e hi; rw [hs] at this; cases this
     simp [hi,hE,hVE,sLess_eq,hs,hw]
     exact rd (i + 1) (by omega) (hh:=by simp [hVE])
 · have:i = h.length:=by omega
   subst this
   have he:posV h v.name = h.length:=by omega
   have hfin:=insVr_pos v h
   rw [he] at hfin
   have hA:List.take (h.length + 1) (h.map (AV.p ∘ rVer) ++ [.p (rVer v)]) = (insVr h v).map (AV.p ∘ rVer):=by
    rw [hfin,List.take_of_length_le (by simp)]; simp
   have hL:(insVr h v).length = h.length + 1:=by rw [hfin]; simp
   by_cases hl0:h = []
   · subst hl0
     simp [insVr,hVE]
     exact ⟨by simp only [maxL]; omega,rfl,rfl⟩
   · simp [hl0,hA]
     have s2:allShp Tryz.prog 5 (List.drop h.length (h.map (AV.p ∘ rVer))):=by rw [← List.map_drop]; exact shpVerR _
     exact ⟨shpVerR h,⟨shpVerR h,by simp only [maxL]; omega⟩,by simp only [maxL]; omega,shpVerR h,⟨s2,by simp only [maxL]; omega⟩,rfl,rfl⟩
theorem insVr_len (h:List VerD) (v:VerD):(insVr h v).length = h.length + 1:=by rw [insVr_perm.length_eq]; rfl
theorem c_gatherR (a b : List VerD) (ha : histB a) (hb : histB b) (oa : AscV a) (ob : AscV b) (la : a.length ≤ 1000) (lb : b.length ≤ 1000) :
    GoodC Tryz.prog 68 [.seq (a.map rVer),.seq (b.map rVer)] (.tup [.seq ((gatherS a b).1.map rVer),.int .i64 (gatherS a b).2]):=by
 refine good_fn nf isF68 mix (by simp [Tryz.f68]) ?_
 simp [Tryz.f68]
 refine lp (α:=Nat × List VerD) (fun (i,L)=>⟨[(7,.p (.int .i64 i)),(6,.p (.seq (L.map rVer))),(1,.p (.seq (b.map rVer))),(0,.p (.seq (a.map rVer)))],[]⟩)
  (fun (i,L)=>i ≤ b.length ∧ L = (newG a (b.take i)).foldl insVr a ∧ L.length ≤ a.length + i ∧ confG a b = confG a (b.drop i)) (fun (i,_)=>b.length - i) (0,a) ⟨by simp,by simp [newG],by simp,by simp⟩ ?_ (he:=by simp)
 rintro ⟨i,L⟩ ⟨k1,k2,k3,k4⟩
 dsimp only at k1 k2 k3 k4 ⊢
 have hw:=wi1 (i:=i) (by omega)
 by_cases hi:i < b.length
 · have hiz:(i:Int) < (b.length:Int):=by omega
   have hE:=rVer_eq b[i]
   have hvb:=hb.2 _ (List.getElem_mem hi)
   have hng:=filt_snoc (fun v:VerD=>(verAt a v.name).isNone) hi
   rw [show confG a (b.drop i) = ((verAt a b[i].name).any (fun o=>!decide (o = b[i])) || confG a (b.drop (i + 1))) from any_dropV _ hi] at k4
   simp [hiz,hi,hE]
   refine c2 (c_at a b[i].name (by omega)) ?_
   rcases at_find a b[i].name with ⟨hx,hat⟩ | ⟨x,hx,hat,hv⟩
   · simp [hx] at hng k4
     simp [hat,hi]
     refine c2 (c_put L b[i] (by omega)) ?_
     simp [hw]
     refine rd (i + 1,insVr L b[i]) ⟨hi,?_,by dsimp only; rw [insVr_len]; omega,k4⟩ (h1:=by dsimp only; omega)
     rw [newG,hng,List.foldl_append,k2]; rfl
   · simp [hv] at hng k4
     have hxz:¬ (x:Int) < 0:=by omega
     simp [hat,hi,hx]
     refine e2 (c_sameVer a[x] b[i] (ha.2 _ (List.getElem_mem hx)) hvb) ?_
     by_cases hq:a[x] = b[i]
     · simp [hq] at k4
       simp [hq,hw]
       exact rd (i + 1,L) ⟨hi,by rw [newG,hng,k2]; rfl,by dsimp only; omega,k4⟩ (h1:=by dsimp only; omega)
     · simp [hq] at k4
       simp [hq,gatherS,k4]
       try rfl
 · have:i = b.length:=by omega
   subst this
   rw [List.take_length,put_all oa] at k2
   have k4:confG a b = false:=by rw [k4,List.drop_length]; rfl
   have hSL:L.length = (a ++ newG a b).length:=by rw [k2,sortV,(foldl_insVr_perm _ []).length_eq]; simp
   have hgs:gatherS a b = if 256 < L.length then ([],5) else if lvlBad L = true then ([],29) else (L,0):=by
    rw [gatherS,k4,hSL,k2]; simp
   rw [hgs]
   have hLb:histB L:=⟨by omega,fun v hv=>by
    rw [k2,sortV_mem] at hv
    rcases List.mem_append.1 hv with h1 | h1
    · exact ha.2 _ h1
    · exact hb.2 _ (List.mem_filter.1 h1).1⟩
   by_cases hL:256 < L.length
   · have hL':(256:Int) < (L.length:Int):=by omega
     simp [hL,hL']
     try rfl
   have hL':¬ (256:Int) < (L.length:Int):=by omega
   simp [hL,hL']
   refine c1 (c_levels L hLb) ?_
   cases hlb:lvlBad L <;> simp [whenE,hL]
   try rfl
end Go.Abs
namespace Go.Abs
open Go.Proofs
set_option maxHeartbeats 4000000
set_option maxRecDepth 100000
theorem addO_len (l:List (List Nat)) (p:List Nat):(addO l p).length ≤ l.length + 1:=by
 rw [addO]; split
 · omega
 · rw [(insS_perm (l:=l) (k:=p)).length_eq]; simp
theorem c_missingR (h:List VerD) (hb:histB h) (ok:HistOk h):GoodC Tryz.prog 69 [.seq (h.map rVer)] (.seq ((missS h).map .str)):=by
 refine good_fn nf isF69 mix (by simp [Tryz.f69]) ?_
 have hlen:h.length ≤ 256:=ok.len
 simp [Tryz.f69]
 refine lp (α:=Nat × PV × List (List Nat)) (fun (i,cf,L)=>⟨[(4,.p (.int .i64 i)),(3,.p cf),(0,.p (.seq (h.map rVer)))],[]⟩)
  (fun (i,cf,L)=>i ≤ h.length ∧ L = (lackT h i).foldl addO [] ∧ L.length ≤ 2 * i ∧ Wk cf (.seq (L.map .str))) (fun (i,_)=>h.length - i) (0,.nsl,[]) ⟨by simp,by simp [lackT],by simp,by simp [Wk]⟩ ?_ (he:=by simp)
 rintro ⟨i,cf,L⟩ ⟨k1,k2,k3,k4⟩
 dsimp only at k1 k2 k3 k4 ⊢
 have hw:=wi1 (i:=i) (by omega)
 by_cases hi:i < h.length
 · have hiz:(i:Int) < (h.length:Int):=by omega
   have hE:=rVer_eq h[i]
   have hpl:=ok.par h[i] (List.getElem_mem hi)
   simp [hiz,hi]
   refine lp (α:=Nat × PV × List (List Nat)) (fun (j,cf,L)=>⟨[(5,.p (.int .i64 j)),(4,.p (.int .i64 i)),(3,.p cf),(0,.p (.seq (h.map rVer)))],[]⟩)
    (fun (j,cf,L)=>j ≤ h[i].parents.length ∧ L = ((h[i].parents.take j).filter fun p=>(verAt h p).isNone).foldl addO ((lackT h i).foldl addO []) ∧ L.length ≤ 2 * i + j ∧ Wk cf (.seq (L.map .str))) (fun (j,_)=>h[i].parents.length - j) (0,cf,L) ⟨by simp,by simpa using k2,by omega,k4⟩ ?_ (he:=by simp)
   clear k2 k3 k4
   rintro ⟨j,cf,L⟩ ⟨q1,q2,q3,q4⟩
   dsimp only at q1 q2 q3 q4 ⊢
   have hw2:=wi1 (i:=j) (by omega)
   by_cases hj:j < h[i].parents.length
   · have hjz:(j:Int) < (h[i].parents.length:Int):=by omega
     have hs:=filt_snoc (fun p=>(verAt h p).isNone) hj
     have hal:=addO_len L h[i].parents[j]
     simp [hjz,hj,hi,hE]
     refine c2 (c_at h h[i].parents[j] (by omega)) ?_
     rcases at_find h h[i].parents[j] with ⟨hx,hat⟩ | ⟨x,hx,hat,hv⟩
     · simp [hx] at hs
       simp [hat]
       refine c2 (c_hasWord L h[i].parents[j] (by omega)) ?_ (h1:=q4)
       by_cases hm:h[i].parents[j] ∈ L
       · have ha:addO L h[i].parents[j] = L:=by rw [addO,if_pos hm]
         simp [hm,hw2]
         exact rd (j + 1,cf,L) ⟨hj,by rw [hs,List.foldl_append,← q2]; exact ha.symm,by dsimp only; omega,q4⟩ (h1:=by dsimp only; omega)
       · have ha:addO L h[i].parents[j] = insS L h[i].parents[j]:=by rw [addO,if_neg hm]
         rw [ha] at hal
         simp [hm]
         refine c2 (c_insert L h[i].parents[j] (by omega)) ?_ (h1:=q4)
         simp [hw2]
         exact rd (j + 1,.seq ((insS L h[i].parents[j]).map .str),insS L h[i].parents[j]) ⟨hj,by rw [hs,List.foldl_append,← q2]; exact ha.symm,by dsimp only; omega,Wk.refl _⟩ (h1:=by dsimp only; omega)
     · simp [hv] at hs
       have hxz:¬ (x:Int) < 0:=by omega
       simp only [hat]
       generalize (x:Int) = xz at hxz
       simp [hxz,hw2]
       exact rd (j + 1,cf,L) ⟨hj,by rw [hs,← q2],by dsimp only; omega,q4⟩ (h1:=by dsimp only; omega)
   · have:j = h[i].parents.length:=by omega
     subst this
     simp [hi,hE,hw]
     exact rd (i + 1,cf,L) ⟨hi,by rw [lackT_succ h hi,List.foldl_append,q2,List.take_length],by dsimp only; omega,q4⟩ (h1:=by dsimp only; omega)
 · have:i = h.length:=by omega
   subst this
   have kL:L = missS h:=by rw [k2,lackT,List.take_length,missS,lackL]
   subst kL
   simp [k4]
theorem rndW_take {h:List VerD} {l:List (List Nat)} {i:Nat} (hi:i < h.length):rndW (h.take (i + 1)) l = rndWStep (rndW (h.take i) l) h[i]:=by
 rw [rndW,List.take_succ_eq_append_getElem hi,List.foldl_append]; rfl
theorem rndStep_len (l:List (List Nat)) (v:VerD):(rndWStep l v).length ≤ l.length + 1:=by
 rw [rndWStep]; split
 · rw [(insS_perm (l:=l) (k:=v.name)).length_eq]; simp
 · omega
theorem c_wholeR (h:List VerD) (hb:histB h) (ok:HistOk h):GoodC Tryz.prog 135 [.seq (h.map rVer)] (.seq ((wholeL h).map .str)):=by
 refine good_fn nf isF135 mix (by simp [Tryz.f135]) ?_
 have hlen:h.length ≤ 256:=ok.len
 simp [Tryz.f135]
 refine lp (α:=Nat × PV × List (List Nat)) (fun (n,cf,L)=>⟨[(4,.p (.int .i64 n)),(3,.p cf),(0,.p (.seq (h.map rVer)))],[]⟩)
  (fun (n,cf,L)=>n ≤ h.length ∧ L = rndsW h n ∧ L.length ≤ n * h.length ∧ Wk cf (.seq (L.map .str))) (fun (n,_)=>h.length - n) (0,.nsl,[]) ⟨by simp,rfl,by simp,by simp [Wk]⟩ ?_ (he:=by simp)
 rintro ⟨n,cf,L⟩ ⟨k1,k2,k3,k4⟩
 dsimp only at k1 k2 k3 k4 ⊢
 have hw:=wi1 (i:=n) (by omega)
 by_cases hn:n < h.length
 · have hnz:(n:Int) < (h.length:Int):=by omega
   have hb1:n * h.length ≤ 65536:=Nat.le_trans (Nat.mul_le_mul (show n ≤ 256 by omega) hlen) (by omega)
   simp [hnz,hn]
   refine lp (α:=Nat × PV × List (List Nat)) (fun (i,cf,L)=>⟨[(5,.p (.int .i64 i)),(4,.p (.int .i64 n)),(3,.p cf),(0,.p (.seq (h.map rVer)))],[]⟩)
    (fun (i,cf,L)=>i ≤ h.length ∧ L = rndW (h.take i) (rndsW h n) ∧ L.length ≤ n * h.length + i ∧ Wk cf (.seq (L.map .str))) (fun (i,_)=>h.length - i) (0,cf,L) ⟨by simp,by simpa [rndW] using k2,by simpa using k3,k4⟩ ?_ (he:=by simp)
   clear k2 k3 k4
   rintro ⟨i,cf,L⟩ ⟨q1,q2,q3,q4⟩
   dsimp only at q1 q2 q3 q4 ⊢
   have hw2:=wi1 (i:=i) (by omega)
   by_cases hi:i < h.length
   · have hiz:(i:Int) < (h.length:Int):=by omega
     have hE:=rVer_eq h[i]
     have hpl:=ok.par h[i] (List.getElem_mem hi)
     have hsl:=rndStep_len L h[i]
     have hrt:=rndW_take (l:=rndsW h n) hi
     rw [← q2] at hrt
     simp [hiz,hi,hE]
     refine c2 (c_hasWord L h[i].name (by omega)) ?_ (h1:=q4)
     simp
     refine lp (α:=Nat) (fun j=>⟨[(7,.p (.int .i64 j)),(6,.p (.bool (!decide (h[i].name ∈ L) && (h[i].parents.take j).all fun p=>decide (p ∈ L)))),(5,.p (.int .i64 i)),(4,.p (.int .i64 n)),(3,.p cf),(0,.p (.seq (h.map rVer)))],[]⟩)
      (fun j=>j ≤ h[i].parents.length) (fun j=>h[i].parents.length - j) 0 (by simp) ?_ (he:=by simp)
     rintro j z1
     have hw3:=wi1 (i:=j) (by omega)
     by_cases hj:j < h[i].parents.length
     · have hjz:(j:Int) < (h[i].parents.length:Int):=by omega
       have hat:(h[i].parents.take (j + 1)).all (fun p=>decide (p ∈ L)) = ((h[i].parents.take j).all (fun p=>decide (p ∈ L)) && decide (h[i].parents[j] ∈ L)):=by
        rw [List.take_succ_eq_append_getElem hj,List.all_append]; simp
       generalize hB:(!decide (h[i].name ∈ L) && (h[i].parents.take j).all fun p=>decide (p ∈ L)) = B
       cases B with
       | false =>
        simp [hjz,hj,hi,hE,hw3]
        refine rd (j + 1) hj (he:=?_)
        rw [hat,← Bool.and_assoc,hB]
        simp
       | true =>
        simp [hjz,hj,hi,hE]
        refine c2 (c_hasWord L h[i].parents[j] (by omega)) ?_ (h1:=q4)
        simp [hw3]
        refine rd (j + 1) hj (he:=?_)
        rw [hat,← Bool.and_assoc,hB]
        simp
     · have:j = h[i].parents.length:=by omega
       subst this
       rw [List.take_length]
       generalize hB:(!decide (h[i].name ∈ L) && h[i].parents.all fun p=>decide (p ∈ L)) = B
       rw [rndWStep,hB] at hrt hsl
       cases B with
       | false =>
        simp at hrt
        simp [hi,hE,hw2]
        exact rd (i + 1,cf,L) ⟨hi,hrt.symm,by dsimp only; omega,q4⟩ (h1:=by dsimp only; omega)
       | true =>
        simp at hrt hsl
        simp [hi,hE]
        refine c2 (c_insert L h[i].name (by omega)) ?_ (h1:=q4)
        simp [hw2]
        exact rd (i + 1,.seq ((insS L h[i].name).map .str),insS L h[i].name) ⟨hi,hrt.symm,by dsimp only; omega,Wk.refl _⟩ (h1:=by dsimp only; omega)
   · have:i = h.length:=by omega
     subst this
     simp [hw]
     refine rd (n + 1,cf,L) ⟨hn,by rw [q2,List.take_length]; rfl,by dsimp only; rw [Nat.add_mul]; omega,q4⟩ (h1:=by dsimp only; omega)
 · have:n = h.length:=by omega
   subst this
   rw [rnds_whole ok] at k2
   subst k2
   simp [k4]
end Go.Abs
namespace Go.Abs
open Go.Proofs
set_option maxHeartbeats 4000000
set_option maxRecDepth 100000
theorem wholeL_len {h:List VerD} (ok:HistOk h):(wholeL h).length ≤ 256:=by
 have h1:=List.length_filter_le (fun v:VerD=>wholeS h v.name) h
 have:=ok.len
 simp only [wholeL,namesV,List.length_map]; omega
theorem whole_dec {h:List VerD} (ok:HistOk h) (a:List Nat):decide (a ∈ wholeL h) = wholeS h a:=by
 rw [Bool.eq_iff_iff,decide_eq_true_eq,wholeL_mem ok]
theorem c_headsR (h:List VerD) (hb:histB h) (ok:HistOk h):GoodC Tryz.prog 70 [.seq (h.map rVer)] (.seq ((headsL h).map .str)):=by
 refine good_fn nf isF70 mix (by simp [Tryz.f70]) ?_
 have hlen:h.length ≤ 256:=ok.len
 have hwl:=wholeL_len ok
 simp [Tryz.f70]
 refine c1 (c_wholeR h hb ok) ?_
 rw [headsL_eq]
 have hwd:=whole_dec ok
 generalize wholeL h = W at *
 simp
 refine lp (α:=Nat) (fun i=>⟨[(5,.p (.int .i64 i)),(4,.sl 0 ((W.take i).filter fun k=>!isPar h k).length 1 0 ((W.take i).filter fun k=>!isPar h k).length),(3,.p (.seq (W.map .str))),(0,.p (.seq (h.map rVer)))],[.arr .grow ((W.take i).filter fun k=>!isPar h k).length 1 (((W.take i).filter fun k=>!isPar h k).map (AV.p ∘ PV.str))]⟩)
  (fun i=>i ≤ W.length) (fun i=>W.length - i) 0 (by simp) ?_ (he:=by simp)
 rintro i k1
 have hw:=wi1 (i:=i) (by omega)
 by_cases hi:i < W.length
 · have hiz:(i:Int) < (W.length:Int):=by omega
   have hfs:=filt_snoc (fun k=>!isPar h k) hi
   have hfl:((W.take i).filter fun k=>!isPar h k).length ≤ i:=by
    have:=List.length_filter_le (fun k=>!isPar h k) (W.take i)
    rw [List.length_take] at this; omega
   generalize hO:(W.take i).filter (fun k=>!isPar h k) = O at *
   simp [hiz,hi]
   refine lp (α:=Nat) (fun j=>⟨[(7,.p (.int .i64 j)),(6,.p (.bool ((h.take j).any fun u=>wholeS h u.name && decide (W[i] ∈ u.parents)))),(5,.p (.int .i64 i)),(4,.sl 0 O.length 1 0 O.length),(3,.p (.seq (W.map .str))),(0,.p (.seq (h.map rVer)))],[.arr .grow O.length 1 (O.map (AV.p ∘ PV.str))]⟩)
    (fun j=>j ≤ h.length) (fun j=>h.length - j) 0 (by simp) ?_ (he:=by simp [hO]) (hh:=by simp [hO])
   rintro j z1
   have hw2:=wi1 (i:=j) (by omega)
   by_cases hj:j < h.length
   · have hjz:(j:Int) < (h.length:Int):=by omega
     have hE:=rVer_eq h[j]
     have hpl:=ok.par h[j] (List.getElem_mem hj)
     have hat:(h.take (j + 1)).any (fun u=>wholeS h u.name && decide (W[i] ∈ u.parents)) = ((h.take j).any (fun u=>wholeS h u.name && decide (W[i] ∈ u.parents)) || (wholeS h h[j].name && decide (W[i] ∈ h[j].parents))):=by
      rw [List.take_succ_eq_append_getElem hj,List.any_append]; simp
     have hwj:=hwd h[j].name
     generalize (h.take j).any (fun u=>wholeS h u.name && decide (W[i] ∈ u.parents)) = B at *
     cases B with
     | true =>
      simp [hjz,hj,hi,hE,hw2]
      exact rd (j + 1) hj (he:=by simp [hat])
     | false =>
      cases hq:wholeS h h[j].name with
      | false =>
       rw [hq] at hwj hat
       simp [hjz,hj,hi,hE]
       refine e2 (c_hasWord W h[j].name (by omega)) ?_
       simp [hwj,hw2]
       exact rd (j + 1) hj (he:=by simp [hat])
      | true =>
       rw [hq] at hwj hat
       simp [hjz,hj,hi,hE]
       refine e2 (c_hasWord W h[j].name (by omega)) ?_
       simp [hwj,hj,hi,hE]
       refine e2 (c_hasWord h[j].parents W[i] (by omega)) ?_
       simp [hw2]
       exact rd (j + 1) hj (he:=by simp [hat])
   · have:j = h.length:=by omega
     subst this
     rw [List.take_length]
     have hip:(h.any fun u=>wholeS h u.name && decide (W[i] ∈ u.parents)) = isPar h W[i]:=rfl
     rw [hip]
     cases hq:isPar h W[i] with
     | true =>
      simp [hq] at hfs
      simp [hw]
      exact rd (i + 1) hi (he:=by simp [hfs]) (hh:=by simp [hfs]) (hr:=by simp [hfs]) (hr2:=by simp [hfs])
     | false =>
      simp [hq] at hfs
      simp [hi,hw]
      refine ⟨by simp only [maxL]; omega,?_⟩
      exact rd (i + 1) hi (he:=by simp [hfs]) (hh:=by simp [hfs]) (hr:=by simp [hfs]) (hr2:=by simp [hfs])
 · have:i = W.length:=by omega
   subst this
   simp
end Go.Abs
namespace Go.Abs
open Go.Proofs
set_option maxHeartbeats 4000000
set_option maxRecDepth 100000
theorem c_equalS (a b:List (List Nat)) (ha:a.length ≤ 1048576) (hb:b.length ≤ 1048576):GoodC Tryz.prog 219 [.seq (a.map .str),.seq (b.map .str)] (.bool (decide (a = b))):=by
 refine good_fn nf isF219 mix (by simp [Tryz.f219]) ?_
 by_cases hl:a.length = b.length
 · have hl':(a.length:Int) = b.length:=by omega
   simp [Tryz.f219,hl']
   refine lp (α:=Nat) (fun i=>⟨[(13,.p (.int .i64 i)),(12,.p (.int .i64 b.length)),(1,.p (.seq (b.map .str))),(0,.p (.seq (a.map .str)))],[]⟩) (fun i=>i ≤ a.length ∧ decide (a = b) = decide (a.drop i = b.drop i)) (fun i=>a.length - i) 0 (by simp) ?_
   rintro i ⟨k1,k2⟩
   by_cases hi:i < a.length
   · have hi':i < b.length:=by omega
     rw [beq_drop hi hi'] at k2
     have hw:=wi1 (i:=i) (by omega)
     by_cases he:a[i] = b[i]
     · rw [decide_eq_true he,Bool.true_and] at k2
       simp [hi,hi',he,hw]
       exact rd (i + 1) ⟨hi,k2⟩
     · rw [decide_eq_false he,Bool.false_and] at k2
       rw [k2]
       simp [hi,hi',he]
   · have:i = a.length:=by omega
     subst this
     have k3:decide (a = b) = true:=by rw [k2,List.drop_length,hl,List.drop_length]; rfl
     rw [k3]
     simp [hl]
 · have hl':¬ (a.length:Int) = b.length:=by omega
   rw [decide_eq_false (len_ne hl)]
   simp [Tryz.f219,hl']
theorem c_bookCopied (b:BookD) (h:bookB b):GoodC Tryz.prog 205 [eBook b] (eBook b):=by
 refine good_fn nf isF205 mix (by simp [Tryz.f205]) ?_
 obtain ⟨nm,rows⟩:=b
 simp [Tryz.f205,eBook]
 refine e2 (c_mappedRR rows h.2) ?_
 simp
 try rfl
theorem c_verCopied (v:VerD) (h:verB v):GoodC Tryz.prog 131 [eVer v] (eVer v):=by
 refine good_fn nf isF131 mix (by simp [Tryz.f131]) ?_
 obtain ⟨nm,lv,ps,bk⟩:=v
 simp [Tryz.f131,eVer_mk]
 refine e1 (c_cloneS ps h.2.1) ?_
 simp
 refine e1 (c_bookCopied bk h.2.2.2) ?_
 simp
 exact ⟨⟨rfl,rfl,rfl⟩,rfl,rfl⟩
theorem c_equalRows (a b:List RowD) (ha:rowsB a) (hb:rowsB b):GoodC Tryz.prog 220 [.seq (a.map eRow),.seq (b.map eRow),.func 171 [] []] (.bool (decide (a = b))):=by
 refine good_fn nf isF220 mix (by simp [Tryz.f220]) ?_
 obtain ⟨ha,ha'⟩:=ha
 obtain ⟨hb,hb'⟩:=hb
 by_cases hl:a.length = b.length
 · have hl':(a.length:Int) = b.length:=by omega
   simp [Tryz.f220,hl']
   refine lp (α:=Nat) (fun i=>⟨[(17,.p (.int .i64 i)),(16,.p (.int .i64 b.length)),(15,.p (.seq (a.map eRow))),(2,.p (.func 171 [] [])),(1,.p (.seq (b.map eRow)))],[]⟩) (fun i=>i ≤ a.length ∧ decide (a = b) = decide (a.drop i = b.drop i)) (fun i=>a.length - i) 0 (by simp) ?_
   rintro i ⟨k1,k2⟩
   by_cases hi:i < a.length
   · have hi':i < b.length:=by omega
     rw [beq_drop hi hi'] at k2
     have hw:=wi1 (i:=i) (by omega)
     simp [hi,hi']
     refine c2 (c_same a[i] b[i] (ha' _ (List.getElem_mem hi)) (hb' _ (List.getElem_mem hi'))) ?_
     by_cases he:a[i] = b[i]
     · rw [decide_eq_true he,Bool.true_and] at k2
       simp [he,hw]
       exact rd (i + 1) ⟨hi,k2⟩
     · rw [decide_eq_false he,Bool.false_and] at k2
       rw [k2]
       simp [he]
   · have:i = a.length:=by omega
     subst this
     have k3:decide (a = b) = true:=by rw [k2,List.drop_length,hl,List.drop_length]; rfl
     rw [k3]
     simp [hl]
 · have hl':¬ (a.length:Int) = b.length:=by omega
   rw [decide_eq_false (len_ne hl)]
   simp [Tryz.f220,hl']
theorem c_sameV (a b:VerD) (ha:verB a) (hb:verB b):GoodC Tryz.prog 162 [eVer a,eVer b] (.bool (decide (a = b))):=by
 refine good_fn nf isF162 mix (by simp [Tryz.f162]) ?_
 obtain ⟨n1,l1,p1,m1,r1⟩:=a
 obtain ⟨n2,l2,p2,m2,r2⟩:=b
 have hE:(decide ((⟨n1,l1,p1,m1,r1⟩:VerD) = ⟨n2,l2,p2,m2,r2⟩)) = (decide (n1 = n2) && decide (l1 = l2) && decide (p1 = p2) && decide (m1 = m2) && decide (r1 = r2)):=by
  rw [Bool.eq_iff_iff]; simp [and_assoc]
 rw [hE]
 by_cases h1:n1 = n2
 · by_cases h2:l1 = l2
   · simp [Tryz.f162,eVer_mk,eBook,h1,h2]
     refine c2 (c_equalS p1 p2 ha.2.1 hb.2.1) ?_
     by_cases h3:p1 = p2
     · by_cases h4:m1 = m2
       · simp [h3,h4]
         refine c3 (c_equalRows r1 r2 ha.2.2.2.2 hb.2.2.2.2) ?_
         simp [h1,h2,h3,h4]
       · simp [h3,h4]
     · simp [h3]
   · simp [Tryz.f162,eVer_mk,eBook,h1,h2]
 · simp [Tryz.f162,eVer_mk,eBook,h1]
theorem g_mappedVV (l:List VerD) (h:histB l):GoodI Tryz.prog 130 [] [.p (.seq (l.map eVer)),.p (.func 131 [] [])] [.arr .grow l.length 5 (l.map (AV.p ∘ eVer))] (.sl 0 l.length 5 0 l.length):=by
 refine goodI_fn nf isF130 mix (by simp [Tryz.f130]) ?_
 have hl:=h.1
 simp [Tryz.f130]
 refine lp (α:=Nat) (fun i=>⟨[(10,.p (.int .i64 i)),(9,.p (.int .i64 l.length)),(8,.p (.seq (l.map eVer))),(5,.sl 0 i 5 0 i),(1,.p (.func 131 [] []))],[.arr .grow i 5 ((l.map fun r=>.p (eVer r)).take i)]⟩) (fun i=>i ≤ l.length) (fun i=>l.length - i) 0 (by simp) ?_
 rintro i k1
 by_cases hi:i < l.length
 · have hw:=wi1 (i:=i) (by omega)
   have ht:=take_next (fun r=>AV.p (eVer r)) hi
   simp [hi]
   refine c1 (c_verCopied l[i] (h.2 _ (List.getElem_mem hi))) ?_
   simp
   refine ⟨⟨by omega,by simp only [maxL]; omega⟩,?_⟩
   exact rd (i + 1) hi (he:=by simp [hw]) (hh:=by simp [ht]) (hr2:=by simp [ht])
 · have:i = l.length:=by omega
   subst this
   simp [oneOf,Function.comp_def]
theorem g_sortV0 {H:Heap} {b ver:Nat} (hb:H[b]? = some (.arr .grow ver 5 [])):GoodI Tryz.prog 203 H [.sl b ver 5 0 0,.p (.func 204 [] [])] H (.p (.tup [])):=by
 refine ⟨isF203.enters,fun w Imm Prot β cargs hr ha hre=>?_⟩
 simp only [AVVl,AVV] at ha
 obtain ⟨v,vs,rfl,⟨_,hp⟩,v2,vs2,rfl,hf,rfl⟩:=ha
 obtain ⟨_,hv,_⟩:=hp .grow _ hb
 have hv:=hv ⟨rfl,rfl⟩
 subst hv
 refine (AnyF.slices_SortFunc_none Tryz.sortF none 0 v2 w).mono ?_
 rintro e w' ⟨rfl,rfl⟩
 exact ⟨_,β,Imm,rfl,Post.refl hr,by simp [AVV,PVV,PVVl],by simp [refsLt]⟩
theorem sortV_len (l:List VerD):(sortV l).length = l.length:=by
 rw [sortV,(foldl_insVr_perm l []).length_eq]; simp
theorem g_sorted (xs : List VerD) (n : Nat) (hn : n = xs.length) (hl : xs.length ≤ 1048576) (hnd : (namesV xs).Nodup) :
    GoodI Tryz.prog 129 [.arr .grow n 5 (xs.map (AV.p ∘ eVer))] [.sl 0 n 5 0 n] [.arr .grow n 5 ((sortV xs).map (AV.p ∘ eVer))] (.st 75 [.sl 0 n 5 0 n]):=by
 subst hn
 refine goodI_fn nf isF129 mix (by simp [Tryz.f129]) ?_
 by_cases hne:xs = []
 · subst hne
   simp [Tryz.f129]
   refine ci (g_sortV0 (b:=0) (ver:=0) rfl) ?_
   simp [oneOf,sortV]
   refine ForgetN.og (by simp) (by simp) (by simp) (by simp) (by simp)
 · simp [Tryz.f129]
   refine ci (g_sortV (b:=0) (ver:=xs.length) (xs:=xs) rfl hne hl hnd) ?_
   simp [oneOf]
   refine ForgetN.og (by simp) (by simp) (by simp) (by simp) (by simp)
theorem sz_hist:szs Tryz.prog 75 = some [1]:=by kernel_rfl
def frzV (S:List VerD) (n:Nat):Obj:=if S = [] then .arr .grow n 5 [] else .arr .frozen n 5 (S.map (AV.p ∘ eVer))
theorem g_levelsS (S : List VerD) (n : Nat) (hn : n = S.length) (ha : AscV S) (hb : histB S) :
    GoodI Tryz.prog 132 [.arr .grow n 5 (S.map (AV.p ∘ eVer))] [.st 75 [.sl 0 n 5 0 n]] [frzV S n] (.p (.int .i64 (whenE (lvlBad S) 11))):=by
 subst hn
 have hc:=c_checkLevels S ha hb
 rw [eHist] at hc
 cases S with
 | nil=>exact hc.inSt (vs':=.nsl) isF132.enters sz_hist (by simp [purL,purA,frzV]) rfl (by simp [Wk])
 | cons v r =>
  refine hc.inSt (vs':=.lst false ((v :: r).map eVer)) isF132.enters sz_hist ?_ rfl (by simp [Wk])
  have hal:allP (r.map (AV.p ∘ eVer)) = some (r.map eVer):=by
   have:=allP_map (r.map eVer)
   simpa using this
  simp [purL,purA,frzV,hal]
theorem gather_nodup {a b:List VerD} (ha:AscV a) (hb:AscV b):(namesV (a ++ newG a b)).Nodup:=by
 rw [namesV,List.map_append,List.nodup_append]
 refine ⟨ha.names,(filt_names hb _).2,?_⟩
 intro x hx y hy hxy
 subst hxy
 obtain ⟨v,hv,rfl⟩:=List.mem_map.1 hx
 obtain ⟨u,hu,hun⟩:=List.mem_map.1 hy
 obtain ⟨_,h2⟩:=List.mem_filter.1 hu
 rw [hun,verAt_of ha.names hv] at h2
 simp at h2
theorem newG_take (a b:List VerD) {i:Nat} (hi:i < b.length):newG a (b.take (i + 1)) = newG a (b.take i) ++ (if (verAt a b[i].name).isNone = true then [b[i]] else []):=filt_snoc _ hi
theorem confG_drop (a b:List VerD) {i:Nat} (hi:i < b.length):confG a (b.drop i) = ((verAt a b[i].name).any (fun o=>!decide (o = b[i])) || confG a (b.drop (i + 1))):=any_dropV _ hi
theorem c_gather (a b:List VerD) (ha:histB a) (hb:histB b):GoodC Tryz.prog 65 [eHist a,eHist b] (.tup [eHist (gatherV a b).1,.int .i64 (gatherV a b).2]):=by
 refine good_fn nf isF65 mix (by simp [Tryz.f65]) ?_
 simp [Tryz.f65]
 refine e1 (c_checkHistory a ha) ?_
 simp
 refine e1 (c_checkHistory b hb) ?_
 simp
 refine ep (h1:=?g1) (c_first [chkHist a,chkHist b] (by simp)) (by simp; exact ⟨rfl,rfl⟩) (by simp; exact ⟨rfl,rfl⟩) ?_
 case g1=>simp
 by_cases hz:¬ firstE [chkHist a,chkHist b] = 0
 · have hm:gatherV a b = ([],firstE [chkHist a,chkHist b]):=by rw [gatherV,if_pos hz]
   rw [hm]
   simp [hz,eHist]
   try rfl
 replace hz:firstE [chkHist a,chkHist b] = 0:=by simpa using hz
 have hm:gatherV a b = gatherS a b:=by rw [gatherV,if_neg (by simpa using hz)]
 rw [hm]
 have hz1:chkHist a = 0:=by rw [firstE_zero] at hz; exact hz _ List.mem_cons_self
 have hz2:chkHist b = 0:=by rw [firstE_zero] at hz; exact hz _ (List.mem_cons_of_mem _ List.mem_cons_self)
 have oa:=histOk hz1
 have ob:=histOk hz2
 have la:a.length ≤ 256:=oa.len
 have lb:b.length ≤ 256:=ob.len
 simp [hz,eHist]
 refine ⟨rfl,?_⟩
 refine cn2 (g_mappedVV a ha) ?_
 simp
 refine lp (α:=Nat × List VerD) (fun (i,L)=>⟨[(29,.p (.int .i64 i)),(28,.p (.int .i64 b.length)),(27,.p (.seq (b.map eVer))),(7,.sl 4 L.length 5 0 L.length),(4,.ptr 2 []),(2,.ptr 0 [])],[.box false (.p (eHist a)),.hole,.box false (.p (.st 75 [.nsl])),.hole,.arr .grow L.length 5 (L.map (AV.p ∘ eVer))]⟩)
  (fun (i,L)=>i ≤ b.length ∧ L = a ++ newG a (b.take i) ∧ L.length ≤ a.length + i ∧ confG a b = confG a (b.drop i)) (fun (i,_)=>b.length - i) (0,a) ⟨by simp,by simp [newG],by simp,by simp⟩ ?_ (hn:=by simp [eHist]) (he:=by simp [eHist]) (hh:=by simp [eHist]) (hr:=by simp) (hr2:=by simp)
 rintro ⟨i,L⟩ ⟨k1,k2,k3,k4⟩
 dsimp only at k1 k2 k3 k4 ⊢
 have hw:=wi1 (i:=i) (by omega)
 by_cases hi:i < b.length
 · have hiz:(i:Int) < (b.length:Int):=by omega
   have hE:=eVer_eq b[i]
   have hvb:=hb.2 _ (List.getElem_mem hi)
   have hng:=newG_take a b hi
   rw [confG_drop a b hi] at k4
   simp [hiz,hi,hE]
   refine c2 (c_findV a b[i].name oa.asc (by omega)) ?_
   cases hx:verAt a b[i].name with
   | none =>
    simp [hx] at hng k4
    simp
    refine c1 (c_verCopied b[i] hvb) ?_ (h1:=by rw [hE]; exact Wk.refl _)
    simp [hw]
    refine ⟨by simp only [maxL]; omega,?_⟩
    exact rd (i + 1,L ++ [b[i]]) ⟨hi,by rw [hng,k2,List.append_assoc],by dsimp only; simp; omega,k4⟩ (h1:=by dsimp only; omega) (he:=by simp) (hh:=by simp) (hr:=by simp) (hr2:=by simp)
   | some o =>
    simp [hx] at hng k4
    have hov:=ha.2 _ (verAt_mem hx).1
    simp
    refine c2 (c_sameV o b[i] hov hvb) ?_ (h2:=by rw [hE]; exact Wk.refl _)
    by_cases hq:o = b[i]
    · simp [hq] at k4
      simp [hq,hw]
      exact rd (i + 1,L) ⟨hi,by rw [hng,k2],by dsimp only; omega,k4⟩ (h1:=by dsimp only; omega) (he:=by simp) (hh:=by simp) (hr:=by simp) (hr2:=by simp)
    · simp [hq] at k4
      simp [hq,gatherS,k4]
      try rfl
 · have:i = b.length:=by omega
   subst this
   rw [List.take_length] at k2
   have k4:confG a b = false:=by rw [k4,List.drop_length]; rfl
   have hgs:gatherS a b = if 256 < L.length then ([],5) else if lvlBad (sortV L) = true then ([],29) else (sortV L,0):=by
    rw [gatherS,k4,← k2]; simp
   rw [hgs]
   have hnd:(namesV L).Nodup:=by rw [k2]; exact gather_nodup oa.asc ob.asc
   have hSb:histB (sortV L):=⟨by rw [sortV_len]; omega,fun v hv=>by
    rw [sortV_mem] at hv
    rw [k2] at hv
    rcases List.mem_append.1 hv with h1 | h1
    · exact ha.2 _ h1
    · exact hb.2 _ (List.mem_filter.1 h1).1⟩
   by_cases hL:256 < L.length
   · have hL':(256:Int) < (L.length:Int):=by omega
     simp [hL,hL']
     try rfl
   have hL':¬ (256:Int) < (L.length:Int):=by omega
   have hgS:=g_sorted L L.length rfl (by omega) hnd
   have hgL:=g_levelsS (sortV L) L.length (by rw [sortV_len]) (sortV_asc hnd) hSb
   simp [hL,hL']
   refine cf hgS [4] ?_
   simp [sig]
   by_cases hS:sortV L = []
   · have hL0:L.length = 0:=by have:=sortV_len L; rw [hS] at this; exact this.symm
     rw [frzV,if_pos hS] at hgL
     refine cf hgL [4] ?_
     cases hlb:lvlBad (sortV L) with
     | true=>simp [sig,whenE,hL0]; try rfl
     | false=>simp [sig,whenE,hL0,hS]
   · rw [frzV,if_neg hS] at hgL
     refine cf hgL [4] ?_
     have hsl:=sortV_len L
     cases hlb:lvlBad (sortV L) with
     | true=>simp [sig,whenE,hL]; try rfl
     | false =>
      have ht:List.take L.length (List.map (AV.p ∘ eVer) (sortV L)) = List.map (AV.p ∘ eVer) (sortV L):=List.take_of_length_le (by simp [hsl])
      simp [sig,whenE,hL,hsl,ht]
end Go.Abs
namespace Go.Abs
open Go.Proofs
set_option maxHeartbeats 4000000
set_option maxRecDepth 100000
theorem flat_par:∀ {h:List VerD},(∀ v ∈ h,v.parents.length ≤ 2) → (h.flatMap (·.parents)).length ≤ 2 * h.length
 | [],_=>by simp
 | v :: r,hp=>by
  have:=flat_par (h:=r) (fun u hu=>hp u (List.mem_cons_of_mem _ hu))
  have:=hp v List.mem_cons_self
  simp only [List.flatMap_cons,List.length_append,List.length_cons]
  omega
theorem missS_len {h:List VerD} (ok:HistOk h):(missS h).length ≤ 1048576:=by
 obtain ⟨_,m2,m3⟩:=missS_ok h
 have h1:=compact_len m2 (fun a ha=>(m3 a).1 ha)
 have h2:=List.length_filter_le (fun p:List Nat=>(verAt h p).isNone) (h.flatMap (·.parents))
 have h3:=flat_par ok.par
 have h4:=ok.len
 simp only [lackL] at h1
 omega
theorem headsL_len {h:List VerD} (ok:HistOk h):(headsL h).length ≤ 1048576:=by
 have h1:=List.length_filter_le (fun v:VerD=>wholeS h v.name && !isPar h v.name) h
 have:=ok.len
 simp only [headsL,namesV,List.length_map]; omega
theorem gatherS_B {a b:List VerD} (ha:histB a) (hb:histB b) (la:a.length ≤ 256) (lb:b.length ≤ 256):histB (gatherS a b).1:=by
 have e:histB []:=⟨by simp,by simp⟩
 rw [gatherS]
 split
 · exact e
 split
 · exact e
 split
 · exact e
 · refine ⟨?_,fun v hv=>?_⟩
   · rw [sortV_len,List.length_append]
     have:=List.length_filter_le (fun v:VerD=>(verAt a v.name).isNone) b
     simp only [newG]; omega
   · simp only [sortV_mem] at hv
     rcases List.mem_append.1 hv with h1 | h1
     · exact ha.2 _ h1
     · exact hb.2 _ (List.mem_filter.1 h1).1
theorem c_law10 (hw : GoodC Tryz.prog 17 [] (.bool true)) (a b : List VerD) (ha : histW a) (hb : histW b) :
    GoodC Tryz.prog 10 [eHist a,eHist b] (.bool true):=by
 refine good_fn nf isF10 mix (by simp [Tryz.f10]) ?_
 simp [Tryz.f10]
 refine e1 (c_versions a ha) ?_
 simp
 refine e1 (c_versions b hb) ?_
 simp
 try refine ⟨rfl,?_⟩
 refine c2 (c_shortHist a 8 ha (by omega)) ?_
 by_cases s1:shortHist a 8 = true
 case neg =>
  simp [s1]
  refine c0 hw ?_
  simp
 simp [s1]
 refine c2 (c_shortHist b 8 hb (by omega)) ?_
 by_cases s2:shortHist b 8 = true
 case neg =>
  simp [s2]
  refine c0 hw ?_
  simp
 simp [s2]
 obtain ⟨ra,la⟩:=short_histB (by omega) s1
 obtain ⟨rb,lb⟩:=short_histB (by omega) s2
 clear s1 s2
 refine c1 (c_checkHistoryR a ra) ?_
 simp
 refine c1 (c_checkHistory a ra) ?_
 simp
 refine c2 (c_gather a b ra rb) ?_
 simp
 refine c1 (c_missing a ra) ?_
 simp
 refine c1 (c_heads a ra) ?_
 simp
 refine c1 (c_checkHistoryR b rb) ?_
 simp
 refine cp (h1:=?g1) (c_lfirst [chkHist a,chkHist b] (by simp)) (by simp; exact ⟨rfl,rfl⟩) ?_
 case g1=>simp
 have nB:histB []:=⟨by simp,by simp⟩
 by_cases za:¬ chkHist a = 0
 · have hf:firstE [chkHist a,chkHist b] = chkHist a:=by simp [firstE,za]
   have hm:gatherV a b = ([],chkHist a):=by rw [gatherV,hf,if_pos za]
   rw [hm]
   simp [hf,za,missE,headE]
   refine c1 (c_versions [] nB.w) ?_
   simp
   refine c2 (c_sameVers [] [] nB nB) ?_ (h2:=by simp)
   simp
   refine c2 (c_sameWords [] [] (by simp) (by simp)) ?_ (h1:=by simp) (h2:=by simp)
   simp
   refine c2 (c_sameWords [] [] (by simp) (by simp)) ?_ (h1:=by simp) (h2:=by simp)
   simp
   refine c0 hw ?_
   simp
 replace za:chkHist a = 0:=by simpa using za
 have oa:=histOk za
 have hmi:=c_missingR a ra oa
 have hhe:=c_headsR a ra oa
 have lmi:=missS_len oa
 have lhe:=headsL_len oa
 by_cases zb:¬ chkHist b = 0
 · have hf:firstE [chkHist a,chkHist b] = chkHist b:=by simp [firstE,za,zb]
   have hm:gatherV a b = ([],chkHist b):=by rw [gatherV,hf,if_pos zb]
   rw [hm]
   simp only [hf]
   simp [za,zb,missE,headE]
   refine c1 hmi ?_
   simp
   refine c1 hhe ?_
   simp
   refine c1 (c_versions [] nB.w) ?_
   simp
   refine c2 (c_sameVers [] [] nB nB) ?_ (h2:=by simp)
   simp
   refine c2 (c_sameWords (missS a) (missS a) lmi lmi) ?_
   simp
   refine c2 (c_sameWords (headsL a) (headsL a) lhe lhe) ?_
   simp
   refine c0 hw ?_
   simp
 replace zb:chkHist b = 0:=by simpa using zb
 have ob:=histOk zb
 have hf:firstE [chkHist a,chkHist b] = 0:=by simp [firstE,za,zb]
 have hm:gatherV a b = gatherS a b:=by rw [gatherV,if_neg (by simpa using hf)]
 have hga:=c_gatherR a b ra rb oa.asc ob.asc (by omega) (by omega)
 have hgB:=gatherS_B ra rb (by omega) (by omega)
 rw [hm]
 generalize gatherS a b = G at *
 obtain ⟨g,e⟩:=G
 dsimp only at hga hgB ⊢
 simp only [hf]
 simp [za,missE,headE]
 refine c2 hga ?_
 simp
 refine c1 hmi ?_
 simp
 refine c1 hhe ?_
 simp
 refine c1 (c_versions g hgB.w) ?_
 simp
 refine c2 (c_sameVers g g hgB hgB) ?_
 simp
 refine c2 (c_sameWords (missS a) (missS a) lmi lmi) ?_
 simp
 refine c2 (c_sameWords (headsL a) (headsL a) lhe lhe) ?_
 simp
 refine c0 hw ?_
 simp
end Go.Abs
