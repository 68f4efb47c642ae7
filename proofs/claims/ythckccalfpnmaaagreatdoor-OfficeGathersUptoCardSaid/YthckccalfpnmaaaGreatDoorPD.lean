import Derived.Test.YthckccalfpnmaaaGreatDoorPC
import Derived.Test.YthckccalfpnmaaaGreatDoorThD
import Derived.Test.YthckccalfpnmaaaGreatDoorThE
import Derived.Test.YthckccalfpnmaaaGreatDoorPB
import Derived.Shelf.Slices.CompactS
import Derived.Shelf.SlSortCmp.WholeK
import Derived.Shelf.SlSortCmp.NoneTotal
import Derived.Test.YthckccalfpnmaaaGreatDoorProg
import Derived.Test.YthckccalfpnmaaaGreatDoorPA
import Derived.WalkLawsBesides
/- Parts of a proof. -/
set_option linter.unusedSimpArgs false
set_option linter.unusedVariables false
set_option linter.unusedSectionVars false
namespace Go.Abs
def confG (a b:List VerD):Bool:=b.any fun v=>(verAt a v.name).any fun o=>!decide (o = v)
def newG (a b:List VerD):List VerD:=b.filter fun v=>(verAt a v.name).isNone
def gatherS (a b:List VerD):List VerD × Int :=
 if confG a b = true then ([],29) else if 256 < (a ++ newG a b).length then ([],5)
 else if lvlBad (sortV (a ++ newG a b)) = true then ([],29) else (sortV (a ++ newG a b),0)
def gatherV (a b:List VerD):List VerD × Int:=if firstE [chkHist a,chkHist b] ≠ 0 then ([],firstE [chkHist a,chkHist b]) else gatherS a b
def lackL (h:List VerD):List (List Nat):=(h.flatMap (·.parents)).filter fun p=>(verAt h p).isNone
def addO (l:List (List Nat)) (p:List Nat):List (List Nat):=if p ∈ l then l else insS l p
def missS (h:List VerD):List (List Nat):=(lackL h).foldl addO []
theorem addO_all:∀ (n l:List (List Nat)),Asc l → l.Nodup → Asc (n.foldl addO l) ∧ (n.foldl addO l).Nodup ∧ ∀ a,a ∈ n.foldl addO l ↔ a ∈ l ∨ a ∈ n
 | [],l,h1,h2=>⟨h1,h2,by simp⟩
 | p :: n,l,h1,h2=>by
  rw [List.foldl_cons]
  by_cases hp:p ∈ l
  · have e:addO l p = l:=by rw [addO,if_pos hp]
    rw [e]
    obtain ⟨k1,k2,k3⟩:=addO_all n l h1 h2
    refine ⟨k1,k2,fun a=>?_⟩
    rw [k3,List.mem_cons]
    constructor
    · rintro (h | h)
      · exact .inl h
      · exact .inr (.inr h)
    · rintro (h | rfl | h)
      · exact .inl h
      · exact .inl hp
      · exact .inr h
  · have e:addO l p = insS l p:=by rw [addO,if_neg hp]
    rw [e]
    obtain ⟨k1,k2,k3⟩:=addO_all n (insS l p) (insS_asc h1) (insS_nodup h2 hp)
    refine ⟨k1,k2,fun a=>?_⟩
    rw [k3,insS_mem,List.mem_cons]
    constructor
    · rintro ((h | h) | h)
      · exact .inr (.inl h)
      · exact .inl h
      · exact .inr (.inr h)
    · rintro (h | h | h)
      · exact .inl (.inr h)
      · exact .inl (.inl h)
      · exact .inr h
theorem missS_ok (h:List VerD):Asc (missS h) ∧ (missS h).Nodup ∧ ∀ a,a ∈ missS h ↔ a ∈ lackL h:=by
 obtain ⟨h1,h2,h3⟩:=addO_all (lackL h) [] (by simp [Asc]) (by simp)
 exact ⟨h1,h2,fun a=>by rw [missS,h3]; simp⟩
theorem verAt_part {h a:List VerD} (ok:AscV h) (hs:a.Sublist h) {k:List Nat} {v:VerD} (hv:verAt a k = some v):verAt h k = some v:=by
 obtain ⟨h1,rfl⟩:=verAt_mem hv
 exact verAt_of ok.names (hs.subset h1)
theorem lvlBad_part {h a:List VerD} (ok:AscV h) (hs:a.Sublist h) (hu:lvlBad h = false):lvlBad a = false:=by
 rw [lvlBad,List.any_eq_false]
 intro v hv
 rw [Bool.not_eq_true,List.any_eq_false]
 intro p hp
 cases hx:verAt a p with
 | none=>simp
 | some x =>
  have:=lvlBad_false hu (hs.subset hv) hp (verAt_part ok hs hx)
  simp; omega
theorem chkVers_part:∀ {h a:List VerD} {pre:Option (List Nat)},chkVersFrom pre h = 0 → a.Sublist h → ∀ pre',(∀ q,pre' = some q → ∀ v ∈ a,sLess q v.name = true) → chkVersFrom pre' a = 0
 | _,[],_,_,_,_,_=>rfl
 | [],v :: r,_,_,hs,_,_=>by cases hs
 | u :: h,v :: r,pre,hz,hs,pre',hp=>by
  obtain ⟨k1,k2,_⟩:=chkVersFrom_zero hz
  obtain ⟨p1,hv⟩:=k1 v (hs.subset List.mem_cons_self)
  have hv':chkVer pre' v = 0:=by
   obtain ⟨_,c2,_⟩:=chkVer_zero hv
   have ho:ordBad pre' v.name = false:=by
    cases pre' with
    | none=>rfl
    | some q=>simp [ordBad,hp q rfl v List.mem_cons_self]
   rw [chkVer,firstE_zero] at hv ⊢
   simp only [List.mem_cons,List.not_mem_nil,or_false,forall_eq_or_imp,forall_eq] at hv ⊢
   exact ⟨hv.1,by rw [ho]; rfl,hv.2.2⟩
  have hr:chkVersFrom (some u.name) h = 0:=by
   rw [chkVersFrom] at hz
   by_cases hu:chkVer pre u = 0
   · rwa [if_pos hu] at hz
   · rw [if_neg hu] at hz; exact (hu hz).elim
  have ha:AscV (v :: r):=k2.sublist hs
  rw [chkVersFrom,if_pos hv']
  have hs2:r.Sublist h:=by
   cases hs with
   | cons _ h'=>exact (List.sublist_cons_self v r).trans h'
   | cons_cons _ h'=>exact h'
  exact chkVers_part hr hs2 (some v.name) fun q e w hw=>by
   injection e with e; subst e
   exact (List.pairwise_cons.1 ha).1 w hw
theorem chkHist_part {h a:List VerD} (hz:chkHist h = 0) (hs:a.Sublist h):chkHist a = 0:=by
 have ok:=histOk hz
 have hl:=hs.length_le
 have hl2:=ok.len
 rw [chkHist] at hz
 rw [if_neg (by omega),firstE_zero] at hz
 simp only [List.mem_cons,List.not_mem_nil,or_false,forall_eq_or_imp,forall_eq] at hz
 rw [chkHist,if_neg (by omega),firstE_zero]
 simp only [List.mem_cons,List.not_mem_nil,or_false,forall_eq_or_imp,forall_eq]
 exact ⟨chkVers_part hz.1 hs none (by simp),by rw [lvlBad_part ok.asc hs ok.up]; rfl⟩
theorem asc_mem_ext {l m:List VerD} (hl:AscV l) (hm:AscV m) (h:∀ v,v ∈ l ↔ v ∈ m):l = m:=by
 have nod:∀ {l:List VerD},AscV l → l.Nodup:=fun ha=>by
  have h1:=ha.names
  rw [namesV,List.Nodup,List.pairwise_map] at h1
  exact h1.imp fun hne e=>hne (by rw [e])
 exact ascV_unique hl hm ((List.perm_ext_iff_of_nodup (nod hl) (nod hm)).2 h)
theorem gather_parts {h a b:List VerD} (hz:chkHist h = 0) (ha:a.Sublist h) (hb:b.Sublist h):gatherV a b = (h.filter fun v=>decide (v ∈ a) || decide (v ∈ b),0):=by
 have ok:=histOk hz
 have za:=chkHist_part hz ha
 have zb:=chkHist_part hz hb
 have aa:AscV a:=ok.asc.sublist ha
 have ab:AscV b:=ok.asc.sublist hb
 have hc:confG a b = false:=by
  rw [confG,List.any_eq_false]
  intro v hv
  cases hx:verAt a v.name with
  | none=>simp
  | some o =>
   have h1:=verAt_part ok.asc ha hx
   rw [verAt_of ok.asc.names (hb.subset hv)] at h1
   injection h1 with h1
   simp [h1]
 have hmem:∀ v,v ∈ a ++ newG a b ↔ v ∈ a ∨ v ∈ b:=by
  intro v
  rw [List.mem_append,newG,List.mem_filter]
  constructor
  · rintro (h | h)
    · exact .inl h
    · exact .inr h.1
  · rintro (h | h)
    · exact .inl h
    · cases hx:verAt a v.name with
      | none=>exact .inr ⟨h,by simp⟩
      | some o =>
       have h1:=verAt_part ok.asc ha hx
       rw [verAt_of ok.asc.names (hb.subset h)] at h1
       injection h1 with h1
       subst h1
       exact .inl (verAt_mem hx).1
 have hnod:(namesV (a ++ newG a b)).Nodup:=by
  rw [namesV,List.map_append,List.nodup_append]
  refine ⟨aa.names,?_,?_⟩
  · exact AscV.names (h:=newG a b) (List.Pairwise.filter _ ab)
  · intro x hx y hy e
    subst e
    obtain ⟨v,hv,rfl⟩:=List.mem_map.1 hy
    rw [newG,List.mem_filter] at hv
    have h2:=hv.2
    rw [Option.isNone_iff_eq_none,verAt_none] at h2
    exact h2 hx
 have hs:sortV (a ++ newG a b) = h.filter fun v=>decide (v ∈ a) || decide (v ∈ b):=by
  refine asc_mem_ext (sortV_asc hnod) (List.Pairwise.filter _ ok.asc) fun v=>?_
  rw [sortV,(foldl_insVr_perm _ []).mem_iff,List.nil_append,hmem,List.mem_filter]
  simp only [Bool.or_eq_true,decide_eq_true_eq]
  exact ⟨fun hv=>⟨hv.elim (ha.subset ·) (hb.subset ·),hv⟩,fun hv=>hv.2⟩
 have hlen:(a ++ newG a b).length = (h.filter fun v=>decide (v ∈ a) || decide (v ∈ b)).length:=by
  rw [← hs,sortV,(foldl_insVr_perm _ []).length_eq,List.nil_append]
 have hfl:(h.filter fun v=>decide (v ∈ a) || decide (v ∈ b)).length ≤ h.length:=List.length_filter_le _ _
 have hll:=ok.len
 rw [gatherV,if_neg (by rw [za,zb]; simp [firstE]),gatherS,if_neg (by rw [hc]; simp),if_neg (by omega),hs,lvlBad_part ok.asc List.filter_sublist ok.up]
 simp
theorem filter_or_self {h:List VerD} {a b:List VerD} (hc:∀ v ∈ h,v ∈ a ∨ v ∈ b):(h.filter fun v=>decide (v ∈ a) || decide (v ∈ b)) = h:=by
 rw [List.filter_eq_self]
 intro v hv
 simpa using hc v hv
theorem gather_self {h:List VerD} (hz:chkHist h = 0):gatherV h h = (h,0):=by
 rw [gather_parts hz (List.Sublist.refl h) (List.Sublist.refl h),filter_or_self fun v hv=>.inl hv]
theorem anc_isPar {h:List VerD} (ok:HistOk h):∀ (f:Nat) (k a:List Nat),wholeS h k = true → ancF h f k a = true → k ≠ a → isPar h a = true
 | 0,_,_,_,h,_=>by simp [ancF] at h
 | f + 1,k,a,hk,hh,hne=>by
  simp only [ancF,Bool.or_eq_true,decide_eq_true_eq] at hh
  rcases hh with h | hh
  · exact (hne h).elim
  · obtain ⟨v,hv,hw⟩:=whole_at ok hk
    simp only [hv,Option.any_some,List.any_eq_true] at hh
    obtain ⟨p,hp,q⟩:=hh
    by_cases hpa:p = a
    · subst hpa
      obtain ⟨h1,rfl⟩:=verAt_mem hv
      rw [isPar,List.any_eq_true]
      exact ⟨v,h1,by simp [hk,hp]⟩
    · exact anc_isPar ok f p a (hw p hp) q hpa
theorem head_not_anc {h:List VerD} (ok:HistOk h) {s t:List Nat} (hs:s ∈ headsL h) (ht:t ∈ headsL h) (hne:s ≠ t):ancS h s t = false:=by
 cases ha:ancS h s t with
 | false=>rfl
 | true =>
  rw [headsL_eq,List.mem_filter] at hs ht
  have:=anc_isPar ok 257 s t ((wholeL_mem ok).1 hs.1) ha hne
  simp [this] at ht
theorem heads_nodup {h:List VerD} (ok:HistOk h):(headsL h).Nodup:=(filt_names ok.asc _).2
theorem heads_whole {h:List VerD} (ok:HistOk h) {s:List Nat} (hs:s ∈ headsL h):wholeS h s = true:=by
 rw [headsL_eq,List.mem_filter] at hs
 exact (wholeL_mem ok).1 hs.1
theorem whole_more {h j:List VerD} (ok:HistOk h) (ok':HistOk j) (hs:∀ v ∈ h,v ∈ j):∀ (f:Nat) (k:List Nat),wholeF h f k = true → wholeS j k = true
 | 0,_,h=>by simp [wholeF] at h
 | f + 1,k,hh=>by
  simp only [wholeF] at hh
  cases hv:verAt h k with
  | none=>simp [hv] at hh
  | some v =>
   simp only [hv,Option.any_some,List.all_eq_true] at hh
   obtain ⟨h1,rfl⟩:=verAt_mem hv
   rw [whole_of ok' (hs v h1),List.all_eq_true]
   exact fun p hp=>whole_more ok ok' hs f p (hh p hp)
end Go.Abs
namespace Go.Abs
def joinV (a b name:List Nat) (x y:VerD) (bk:BookD):VerD:=⟨name,max x.level y.level + 1,[a,b],bk⟩
def joinE (h:List VerD) (a b name:List Nat) (x y:VerD):Int :=
 firstE [whenE (!isName name) 8,whenE (verAt h name).isSome 9,whenE (ancS h a b || ancS h b a) 19,whenE (decide (256 ≤ h.length)) 5,withinE (max x.level y.level + 1) 1 256]
def baseB (h:List VerD) (a b:List Nat) (x:VerD):BookD:=match baseS h a b with
 | some v=>v.book
 | none=>⟨x.book.name,[]⟩
def joinH (h:List VerD) (a b name:List Nat) (x y:VerD):List VerD × List (List Nat) × Int :=
 if joinE h a b name x y ≠ 0 then ([],[],joinE h a b name x y)
 else if (mergeC (baseB h a b x) x.book y.book).2.2 ≠ 0 then ([],[],(mergeC (baseB h a b x) x.book y.book).2.2)
 else if lvlBad (sortV (h ++ [joinV a b name x y (mergeC (baseB h a b x) x.book y.book).1])) = true then ([],[],29)
 else (sortV (h ++ [joinV a b name x y (mergeC (baseB h a b x) x.book y.book).1]),(mergeC (baseB h a b x) x.book y.book).2.1,0)
theorem chkVers_of:∀ {l:List VerD} {pre:Option (List Nat)},AscV l → (∀ v ∈ l,chkVer none v = 0) → (∀ q,pre = some q → ∀ v ∈ l,sLess q v.name = true) → chkVersFrom pre l = 0
 | [],_,_,_,_=>rfl
 | v :: r,pre,ha,hv,hp=>by
  have h1:=hv v List.mem_cons_self
  have h2:chkVer pre v = 0:=by
   have ho:ordBad pre v.name = false:=by
    cases pre with
    | none=>rfl
    | some q=>simp [ordBad,hp q rfl v List.mem_cons_self]
   rw [chkVer,firstE_zero] at h1 ⊢
   simp only [List.mem_cons,List.not_mem_nil,or_false,forall_eq_or_imp,forall_eq] at h1 ⊢
   exact ⟨h1.1,by rw [ho]; rfl,h1.2.2⟩
  rw [chkVersFrom,if_pos h2]
  exact chkVers_of (List.pairwise_cons.1 ha).2 (fun u hu=>hv u (List.mem_cons_of_mem _ hu)) fun q e u hu=>by
   injection e with e; subst e
   exact (List.pairwise_cons.1 ha).1 u hu
theorem chkVers_each {h:List VerD} (hz:chkHist h = 0):∀ v ∈ h,chkVer none v = 0:=by
 intro v hv
 rw [chkHist] at hz
 split at hz
 · omega
 rw [firstE_zero] at hz
 simp only [List.mem_cons,List.not_mem_nil,or_false,forall_eq_or_imp,forall_eq] at hz
 obtain ⟨p,hp⟩:=(chkVersFrom_zero hz.1).1 v hv
 rw [chkVer,firstE_zero] at hp ⊢
 simp only [List.mem_cons,List.not_mem_nil,or_false,forall_eq_or_imp,forall_eq] at hp ⊢
 exact ⟨hp.1,rfl,hp.2.2⟩
theorem ins_nodup {h:List VerD} (ok:AscV h) {v:VerD} (hn:verAt h v.name = none):(namesV (h ++ [v])).Nodup:=by
 rw [namesV,List.map_append,List.nodup_append]
 refine ⟨ok.names,by simp,fun x hx y hy e=>?_⟩
 rw [verAt_none] at hn
 simp at hy
 subst e; subst hy
 exact hn hx
theorem chkHist_ins {h:List VerD} (hz:chkHist h = 0) {v:VerD} (hv:chkVer none v = 0) (hn:verAt h v.name = none) (hl:h.length < 256) (hu:lvlBad (sortV (h ++ [v])) = false):chkHist (sortV (h ++ [v])) = 0:=by
 have ok:=histOk hz
 have hlen:(sortV (h ++ [v])).length = h.length + 1:=by rw [sortV,(foldl_insVr_perm _ []).length_eq]; simp
 rw [chkHist,if_neg (by omega),firstE_zero]
 simp only [List.mem_cons,List.not_mem_nil,or_false,forall_eq_or_imp,forall_eq]
 refine ⟨chkVers_of (sortV_asc (ins_nodup ok.asc hn)) (fun u hu=>?_) (by simp),by rw [hu]; rfl⟩
 rw [sortV,(foldl_insVr_perm _ []).mem_iff] at hu
 simp at hu
 rcases hu with hu | rfl
 · exact chkVers_each hz u hu
 · exact hv
theorem sortV_mem {l:List VerD} {v:VerD}:v ∈ sortV l ↔ v ∈ l:=by rw [sortV,(foldl_insVr_perm _ []).mem_iff,List.nil_append]
theorem join_anc {h : List VerD} (hz : chkHist h = 0) {a b name : List Nat} {x y : VerD} {bk : BookD} (ha : wholeS h a = true) (hb : wholeS h b = true) (hn : verAt h name = none)
    (hj:chkHist (sortV (h ++ [joinV a b name x y bk])) = 0) :
    wholeS (sortV (h ++ [joinV a b name x y bk])) name = true ∧ ancS (sortV (h ++ [joinV a b name x y bk])) name a = true ∧ ancS (sortV (h ++ [joinV a b name x y bk])) name b = true:=by
 have ok:=histOk hz
 have ok':=histOk hj
 have hm:joinV a b name x y bk ∈ sortV (h ++ [joinV a b name x y bk]):=sortV_mem.2 (by simp)
 have hs:∀ v ∈ h,v ∈ sortV (h ++ [joinV a b name x y bk]):=fun v hv=>sortV_mem.2 (by simp [hv])
 have hw:=whole_of ok' hm
 have hat:=verAt_of ok'.asc.names hm
 have e1:(joinV a b name x y bk).name = name:=rfl
 have e2:(joinV a b name x y bk).parents = [a,b]:=rfl
 rw [e1] at hw hat
 refine ⟨?_,anc_par ok' hat (by rw [e2]; simp) (anc_self ok' a),anc_par ok' hat (by rw [e2]; simp) (anc_self ok' b)⟩
 rw [hw,e2]
 simp only [List.all_cons,List.all_nil,Bool.and_true,Bool.and_eq_true]
 exact ⟨whole_more ok ok' hs 256 a ha,whole_more ok ok' hs 256 b hb⟩
end Go.Abs
namespace Go.Abs
open Go.Proofs
set_option maxHeartbeats 4000000
set_option maxRecDepth 100000
@[simp] def rowsX (l:List RowD):Obj:=.arr .exact 0 2 (l.map (AV.p ∘ eRow))
end Go.Abs
namespace Go.Abs
open Go.Proofs
set_option maxHeartbeats 4000000
set_option maxRecDepth 100000
theorem c_cloneS (l:List (List Nat)) (h:l.length ≤ 1048576):GoodC Tryz.prog 157 [.seq (l.map .str)] (.seq (l.map .str)):=by
 cases l with
 | nil =>
  refine .inl (goodP_seq_nil (pre:=[]) (post:=[]) ?_ ?_)
  · refine goodP_fn nf isF157 mix (by simp [Tryz.f157]) ?_
    simp [Tryz.f157]
  · refine goodP_fn nf isF157 mix (by simp [Tryz.f157]) ?_
    simp [Tryz.f157,maxL]
 | cons a r =>
  refine good_fn nf isF157 mix (by simp [Tryz.f157]) ?_
  simp at h
  simp [Tryz.f157]
  simp only [maxL]; omega
end Go.Abs
namespace Go.Abs
open Go.Proofs
set_option maxHeartbeats 4000000
set_option maxRecDepth 100000
theorem cx {f:FuncId} {args:List AV} {H:Heap} {K:AV → Heap → Prop} {hin:List (Nat × Obj)} {v:PV} (h:GoodXE Tryz.prog f args hin v) (hi:∀ p ∈ hin,H[p.1]? = some p.2) (hk:K (.p v) H):CallS Tryz.prog false f K args H:=.inr ⟨rfl,.inr (.inr (.inr ⟨hin,v,h,hi,hk⟩))⟩
end Go.Abs
namespace Go.Abs
open Go.Proofs
set_option maxHeartbeats 4000000
set_option maxRecDepth 100000
@[simp] theorem renL_app {σ:Nat → Nat}:∀ {a b:List AV},renL σ (a ++ b) = renL σ a ++ renL σ b
 | [],b=>by simp [renL]
 | x :: a,b=>by simp [renL,renL_app (a:=a)]
end Go.Abs
namespace Go.Abs
def EventD.at (e:EventD) (n:Int):EventD:=⟨n,e.kind,e.names,e.vals,e.text⟩
end Go.Abs
namespace Go.Abs
open Go.Proofs
set_option maxHeartbeats 4000000
set_option maxRecDepth 100000
theorem c_mappedRR (l:List RowD) (h:rowsB l):GoodC Tryz.prog 139 [.seq (l.map eRow),.func 141 [] []] (.seq (l.map eRow)):=by
 refine good_fn nf isF139 mix (by simp [Tryz.f139]) ?_
 have hl:=h.1
 simp [Tryz.f139]
 refine lp (α:=Nat) (fun i=>⟨[(10,.p (.int .i64 i)),(9,.p (.int .i64 l.length)),(8,.p (.seq (l.map eRow))),(5,.sl 0 i 2 0 i),(1,.p (.func 141 [] []))],[.arr .grow i 2 ((l.map fun r=>.p (eRow r)).take i)]⟩) (fun i=>i ≤ l.length) (fun i=>l.length - i) 0 (by simp) ?_
 rintro i k1
 by_cases hi:i < l.length
 · have hw:=wi1 (i:=i) (by omega)
   have ht:=take_next (fun r=>AV.p (eRow r)) hi
   simp [hi]
   refine c1 (c_copied l[i] (h.2 _ (List.getElem_mem hi))) ?_
   simp
   refine ⟨⟨by omega,by simp only [maxL]; omega⟩,?_⟩
   exact rd (i + 1) hi (he:=by simp [hw]) (hh:=by simp [ht]) (hr2:=by simp [ht])
 · have:i = l.length:=by omega
   subst this
   simp
end Go.Abs
namespace Go.Abs
open Go.Proofs
set_option maxHeartbeats 4000000
set_option maxRecDepth 100000
def histW (h:List VerD):Prop:=h.length ≤ 1048576 ∧ ∀ v ∈ h,v.book.rows.length ≤ 1048576
theorem histB.w {h:List VerD} (hb:histB h):histW h:=⟨hb.1,fun v hv=>(hb.2 v hv).2.2.2.2.1⟩
theorem c_versions (h:List VerD) (hb:histW h):GoodC Tryz.prog 42 [eHist h] (.seq (h.map rVer)):=by
 refine good_fn nf isF42 mix (by simp [Tryz.f42]) ?_
 have hl:=hb.1
 simp [Tryz.f42,eHist]
 refine lp (α:=Nat) (fun i=>⟨[(9,.p (.int .i64 i)),(8,.p (.int .i64 h.length)),(7,.p (.seq (h.map eVer))),(3,.sl 1 i 5 0 i)],[.hole,.arr .grow i 5 ((h.map fun r=>.p (rVer r)).take i)]⟩) (fun i=>i ≤ h.length) (fun i=>h.length - i) 0 (by simp) ?_
 rintro i k1
 by_cases hi:i < h.length
 · have hw:=wi1 (i:=i) (by omega)
   have ht:=take_next (fun r=>AV.p (rVer r)) hi
   have hE:=eVer_eq h[i]
   have hR:=rVer_eq h[i]
   simp [hi,hE]
   refine e1 (c_book h[i].book (hb.2 _ (List.getElem_mem hi))) ?_
   simp [← hR]
   refine ⟨⟨by omega,by simp only [maxL]; omega⟩,rfl,?_⟩
   exact rd (i + 1) hi (he:=by simp [hw]) (hh:=by simp [ht]) (hr2:=by simp [ht])
 · have:i = h.length:=by omega
   subst this
   simp
def shortVer (v:VerD):Bool:=decide (v.name.length ≤ 60) && decide (v.parents.length ≤ 4) && shortBook v.book 8 && v.parents.all fun p=>decide (p.length ≤ 60)
def shortHist (h:List VerD) (n:Nat):Bool:=decide (h.length ≤ n) && h.all shortVer
theorem all_dropV {α:Type} (f:α → Bool) {l:List α} {i:Nat} (hi:i < l.length):(l.drop i).all f = (f l[i] && (l.drop (i + 1)).all f):=by
 rw [List.drop_eq_getElem_cons hi,List.all_cons]
theorem c_shortHist (h:List VerD) (n:Nat) (hb:histW h) (hn:n ≤ 100):GoodC Tryz.prog 43 [.seq (h.map rVer),.int .i64 n] (.bool (shortHist h n)):=by
 refine good_fn nf isF43 mix (by simp [Tryz.f43]) ?_
 by_cases hl:n < h.length
 · have hl':(n:Int) < h.length:=by omega
   have hs:¬ h.length ≤ n:=by omega
   simp [Tryz.f43,hl',shortHist,hs]
 have hl':¬ (n:Int) < h.length:=by omega
 have e0:shortHist h n = h.all shortVer:=by rw [shortHist,decide_eq_true (by omega)]; simp
 rw [e0]
 simp [Tryz.f43,hl']
 refine lp (α:=Nat) (fun i=>⟨[(5,.p (.int .i64 i)),(0,.p (.seq (h.map rVer)))],[]⟩) (fun i=>i ≤ h.length ∧ h.all shortVer = (h.drop i).all shortVer) (fun i=>h.length - i) 0 (by simp) ?_
 rintro i ⟨k1,k2⟩
 by_cases hi:i < h.length
 · have hw:=wi1 (i:=i) (by omega)
   have hE:=rVer_eq h[i]
   have hvb:=hb.2 _ (List.getElem_mem hi)
   rw [all_dropV _ hi] at k2
   by_cases h1:60 < h[i].name.length
   · have h1':(60:Int) < (h[i].name.length:Int):=by omega
     have e:shortVer h[i] = false:=by simp [shortVer]; intro h; omega
     rw [e,Bool.false_and] at k2
     rw [k2]
     simp [hi,hE,h1']
   have h1':¬ (60:Int) < (h[i].name.length:Int):=by omega
   by_cases h2:4 < h[i].parents.length
   · have h2':(4:Int) < (h[i].parents.length:Int):=by omega
     have e:shortVer h[i] = false:=by simp [shortVer]; intro _ h; omega
     rw [e,Bool.false_and] at k2
     rw [k2]
     simp [hi,hE,h1',h2']
   have h2':¬ (4:Int) < (h[i].parents.length:Int):=by omega
   have e1:shortVer h[i] = (shortBook h[i].book 8 && h[i].parents.all fun p=>decide (p.length ≤ 60)):=by
    simp [shortVer,show h[i].name.length ≤ 60 by omega,show h[i].parents.length ≤ 4 by omega]
   simp [hi,hE,h1',h2']
   refine c2 (c_shortBook h[i].book 8 hvb (by omega)) ?_
   cases hsb:shortBook h[i].book 8 with
   | false =>
    rw [e1,hsb,Bool.false_and,Bool.false_and] at k2
    rw [k2]
    simp
   | true =>
    rw [e1,hsb,Bool.true_and] at k2
    simp
    refine lp (α:=Nat) (fun j=>⟨[(6,.p (.int .i64 j)),(5,.p (.int .i64 i)),(0,.p (.seq (h.map rVer)))],[]⟩) (fun j=>j ≤ h[i].parents.length ∧ (h[i].parents.all fun p=>decide (p.length ≤ 60)) = (h[i].parents.drop j).all fun p=>decide (p.length ≤ 60)) (fun j=>h[i].parents.length - j) 0 (by simp) ?_
    rintro j ⟨q1,q2⟩
    by_cases hj:j < h[i].parents.length
    · have hw2:=wi1 (i:=j) (by omega)
      rw [all_dropV _ hj] at q2
      by_cases h3:60 < h[i].parents[j].length
      · have h3':(60:Int) < (h[i].parents[j].length:Int):=by omega
        have h3'':¬ h[i].parents[j].length ≤ 60:=by omega
        rw [decide_eq_false h3'',Bool.false_and] at q2
        rw [q2,Bool.false_and] at k2
        rw [k2]
        simp [hi,hj,hE,h3']
      · have h3':¬ (60:Int) < (h[i].parents[j].length:Int):=by omega
        rw [decide_eq_true (by omega),Bool.true_and] at q2
        simp [hi,hj,hE,h3',hw2]
        exact rd (j + 1) ⟨hj,q2⟩
    · have:j = h[i].parents.length:=by omega
      subst this
      rw [List.drop_length] at q2
      rw [q2] at k2
      simp [hi,hE,hw]
      exact rd (i + 1) ⟨hi,by simpa using k2⟩
 · have:i = h.length:=by omega
   subst this
   rw [List.drop_length] at k2
   rw [k2]
   simp
theorem short_histB {h:List VerD} {n:Nat} (hn:n ≤ 100) (hs:shortHist h n = true):histB h ∧ h.length ≤ n:=by
 simp only [shortHist,Bool.and_eq_true,decide_eq_true_eq,List.all_eq_true] at hs
 refine ⟨⟨by omega,fun v hv=>?_⟩,hs.1⟩
 have h1:=hs.2 v hv
 simp only [shortVer,Bool.and_eq_true,decide_eq_true_eq,List.all_eq_true] at h1
 exact ⟨by omega,by omega,fun p hp=>by have:=h1.2 p hp; omega,(short_bookB h1.1.2).1⟩
theorem c_sameVer (a b:VerD) (ha:verB a) (hb:verB b):GoodC Tryz.prog 137 [rVer a,rVer b] (.bool (decide (a = b))):=by
 refine good_fn nf isF137 mix (by simp [Tryz.f137]) ?_
 obtain ⟨n1,l1,p1,m1⟩:=a
 obtain ⟨n2,l2,p2,m2⟩:=b
 have hE:(decide ((⟨n1,l1,p1,m1⟩:VerD) = ⟨n2,l2,p2,m2⟩)) = (decide (n1 = n2) && decide (l1 = l2) && decide (p1 = p2) && decide (m1 = m2)):=by
  rw [Bool.eq_iff_iff]; simp [and_assoc]
 rw [hE]
 by_cases h1:n1 = n2
 · by_cases h2:l1 = l2
   · simp [Tryz.f137,rVer_mk,h1,h2]
     refine c2 (c_sameWords p1 p2 ha.2.1 hb.2.1) ?_
     by_cases h3:p1 = p2
     · simp [h3]
       refine c2 (c_sameBook m1 m2 ha.2.2.2 hb.2.2.2) ?_
       simp [h1,h2,h3]
     · simp [h3]
   · simp [Tryz.f137,rVer_mk,h1,h2]
 · simp [Tryz.f137,rVer_mk,h1]
theorem c_sameVers (a b:List VerD) (ha:histB a) (hb:histB b):GoodC Tryz.prog 52 [.seq (a.map rVer),.seq (b.map rVer)] (.bool (decide (a = b))):=by
 refine good_fn nf isF52 mix (by simp [Tryz.f52]) ?_
 obtain ⟨ha,ha'⟩:=ha
 obtain ⟨hb,hb'⟩:=hb
 by_cases hl:a.length = b.length
 · have hl':(a.length:Int) = b.length:=by omega
   simp [Tryz.f52,hl']
   refine lp (α:=Nat) (fun i=>⟨[(5,.p (.int .i64 i)),(1,.p (.seq (b.map rVer))),(0,.p (.seq (a.map rVer)))],[]⟩) (fun i=>i ≤ a.length ∧ decide (a = b) = decide (a.drop i = b.drop i)) (fun i=>a.length - i) 0 (by simp) ?_
   rintro i ⟨k1,k2⟩
   by_cases hi:i < a.length
   · have hi':i < b.length:=by omega
     rw [beq_drop hi hi'] at k2
     have hw:=wi1 (i:=i) (by omega)
     simp [hi,hi']
     refine e2 (c_sameVer a[i] b[i] (ha' _ (List.getElem_mem hi)) (hb' _ (List.getElem_mem hi'))) ?_
     by_cases he:a[i] = b[i]
     · rw [decide_eq_true he,Bool.true_and] at k2
       simp [he,hw]
       exact rd (i + 1) ⟨hi,k2⟩
     · rw [decide_eq_false he,Bool.false_and] at k2
       rw [k2]
       simp [he]
   · have:i = a.length:=by omega
     subst this
     have k3:decide (a = b) = true:=by rw [k2,List.drop_length,hl,List.drop_length]; rfl
     rw [k3]
     simp
 · have hl':¬ (a.length:Int) = b.length:=by omega
   rw [decide_eq_false (len_ne hl)]
   simp [Tryz.f52,hl']
end Go.Abs
namespace Go.Abs
open Go.Proofs Go.Proofs.YthckccalfpnmaaaGreatDoor
set_option maxRecDepth 100000
section
variable {H:Type} {W:World} {Imm:Nat → Prop}
theorem four_of {P : Program} {n : Nat} {t : TypeId} {f0 f1 f2 f3 : Field} {k0 k1 k2 k3 : Nat} (ht : P.underlying t = some (.struct #[f0, f1, f2, f3])) (hs : szs P (P.underlyingId t) = some [k0, k1, k2, k3])
    {d:DataW H} {cs:List Value} (h:PVC P W Imm (toPV P (n + 1) t d) cs) :
    ∃ (a b c e:DataW H) (r:List (DataW H)) (c0 c1 c2 c3:List Value),d = .agg (a :: b :: c :: e :: r) ∧ toPV P (n + 1) t d = .st (P.underlyingId t) [toPV P n f0.type a,toPV P n f1.type b,toPV P n f2.type c,toPV P n f3.type e] ∧
     PVC P W Imm (toPV P n f0.type a) c0 ∧ PVC P W Imm (toPV P n f1.type b) c1 ∧ PVC P W Imm (toPV P n f2.type c) c2 ∧ PVC P W Imm (toPV P n f3.type e) c3:=by
 cases d with
 | agg l =>
  simp only [toPV,ht,PVC] at h ⊢
  obtain ⟨l',css,h1,h2,_⟩:=h
  rw [hs] at h1; cases h1
  match l,h2 with
  | [],h2=>simp [PVCl] at h2
  | [_],h2=>simp [PVCl] at h2
  | [_,_],h2=>simp [PVCl] at h2
  | [_,_,_],h2=>simp [PVCl] at h2
  | a :: b :: c :: e :: r,h2 =>
   simp only [List.zip_cons_cons,List.map_cons,PVCl,List.zip_nil_left,List.map_nil] at h2 ⊢
   obtain ⟨c0,_,_,g0,_,c1,_,_,g1,_,c2,_,_,g2,_,c3,_,_,g3,_⟩:=h2
   exact ⟨a,b,c,e,r,c0,c1,c2,c3,rfl,rfl,g0,g1,g2,g3⟩
 | _=>simp only [toPV,ht,PVC] at h
theorem unVer:∃ f0 f1 f2 f3:Field,Tryz.prog.underlying 148 = some (.struct #[f0,f1,f2,f3]) ∧ f0.type = 9 ∧ f1.type = 3 ∧ f2.type = 44 ∧ f3.type = 24:=⟨_,_,_,_,Tryz.underlying148,rfl,rfl,rfl,rfl⟩
theorem uidVer:Tryz.prog.underlyingId 148 = 147:=by kernel_rfl
theorem bulk_part {d:DataW H} {l:List (DataW H)} {n:Nat} (hd:d ∈ l) (h:Rows.uptoBulk (.agg l) ≤ n):Rows.uptoBulk d ≤ n:=by
 have:=bulks.part_le hd
 rw [Rows.uptoBulk] at h
 omega
theorem seq_ofB {α : Type} {n N : Nat} {t e : TypeId} {F : α → PV} (Q : α → Prop) (ht : Tryz.prog.underlying t = some (.slice e)) (hF : ∀ (d : DataW H) c, PVC Tryz.prog W Imm (toPV Tryz.prog n e d) c → Rows.uptoBulk d ≤ N → ∃ a, toPV Tryz.prog n e d = F a ∧ Q a)
    {d:DataW H} {cs:List Value} (h:PVC Tryz.prog W Imm (toPV Tryz.prog (n + 1) t d) cs) (hb:Rows.uptoBulk d ≤ N):∃ l:List α,toPV Tryz.prog (n + 1) t d = .seq (l.map F) ∧ (∀ a ∈ l,Q a) ∧ l.length ≤ N:=by
 cases d with
 | nil=>exact ⟨[],by simp [toPV,ht],by simp,by simp⟩
 | slice ds sp =>
  have hlen:=bulks.slice_le ds sp
  have hel:∀ x ∈ ds,Rows.uptoBulk x ≤ N:=fun x hx=>by
   have:=bulks.part_le hx
   simp only [Rows.uptoBulk] at hb
   omega
  simp only [toPV,ht,PVC] at h ⊢
  have hm:∀ e' ∈ ds.map (toPV Tryz.prog n e),∃ c,PVC Tryz.prog W Imm e' c:=by
   rcases h with ⟨h,_⟩ | ⟨_,_,_,_,css,h,_⟩
   · rw [h]; intro _ h; cases h
   · exact pvcl_mem h
  have key:∀ ds:List (DataW H),(∀ x ∈ ds,Rows.uptoBulk x ≤ N) → (∀ e' ∈ ds.map (toPV Tryz.prog n e),∃ c,PVC Tryz.prog W Imm e' c) → ∃ l:List α,ds.map (toPV Tryz.prog n e) = l.map F ∧ (∀ a ∈ l,Q a) ∧ l.length = ds.length:=by
   intro ds
   induction ds with
   | nil=>intro _ _; exact ⟨[],rfl,by simp,rfl⟩
   | cons d r ih =>
    intro hx hm
    obtain ⟨c,hc⟩:=hm _ List.mem_cons_self
    obtain ⟨a,ha,hq⟩:=hF d c hc (hx d List.mem_cons_self)
    obtain ⟨l,h1,h3,h2⟩:=ih (fun x h=>hx x (List.mem_cons_of_mem _ h)) fun e' he=>hm e' (List.mem_cons_of_mem _ he)
    refine ⟨a :: l,by simp only [List.map_cons]; rw [ha,h1],?_,by simp [h2]⟩
    intro x hx
    rcases List.mem_cons.1 hx with rfl | hx
    · exact hq
    · exact h3 x hx
  obtain ⟨l,h1,h3,h2⟩:=key ds hel hm
  exact ⟨l,by rw [h1],h3,by omega⟩
 | lit l=>simp only [toPV,ht,PVC] at h
 | ptr d=>simp only [toPV,ht,PVC] at h
 | agg l=>simp only [toPV,ht,PVC] at h
 | iface a b=>simp only [toPV,ht,PVC] at h
 | map l=>simp only [toPV,ht,PVC] at h
 | held a=>simp only [toPV,ht,PVC] at h
theorem book_arg5 {d:DataW H} (h:∃ cs,PVC Tryz.prog W Imm (toPV Tryz.prog 5 24 d) cs) (hb:Rows.uptoBulk d ≤ 1048576):∃ b:BookD,toPV Tryz.prog 5 24 d = eBook b ∧ b.rows.length ≤ 1048576:=by
 obtain ⟨cs,h⟩:=h
 obtain ⟨f0,f1,hu,t0,t1⟩:=unBook
 obtain ⟨x,y,r,c0,c1,hd,h1,h2,h3⟩:=two_of2 (n:=4) hu (by rw [uidBook]; exact sz23) h
 rw [t0] at h1 h2; rw [t1] at h1 h3
 obtain ⟨s,hs⟩:=str_of x c0 h2
 have hy:Rows.uptoBulk y ≤ 1048576:=bulk_part (d:=y) (l:=x :: y :: r) (by simp) (by rw [← hd]; exact hb)
 obtain ⟨l,hl,hll⟩:=list_arg (n:=3) un22 (fun d c hc=>row_of (n:=0) d c hc) ⟨c1,h3⟩ hy
 exact ⟨⟨s,l⟩,by rw [h1,hs,hl,uidBook]; rfl,hll⟩
theorem ver_of (d:DataW H) (c) (h:PVC Tryz.prog W Imm (toPV Tryz.prog 6 148 d) c) (hb:Rows.uptoBulk d ≤ 1048576):∃ v:VerD,toPV Tryz.prog 6 148 d = eVer v ∧ v.book.rows.length ≤ 1048576:=by
 obtain ⟨f0,f1,f2,f3,hu,t0,t1,t2,t3⟩:=unVer
 obtain ⟨x,y,z,u,r,c0,c1,c2,c3,hd,h1,g0,g1,g2,g3⟩:=four_of (n:=5) hu (by rw [uidVer]; exact sz147) h
 rw [t0] at h1 g0; rw [t1] at h1 g1; rw [t2] at h1 g2; rw [t3] at h1 g3
 obtain ⟨nm,e0⟩:=str_of x c0 g0
 obtain ⟨lv,e1⟩:=int_of y c1 g1
 obtain ⟨ps,e2,_⟩:=seq_of un44 (fun d c hh=>str_of d c hh) g2
 have hub:Rows.uptoBulk u ≤ 1048576:=bulk_part (d:=u) (l:=x :: y :: z :: u :: r) (by simp) (by rw [← hd]; exact hb)
 obtain ⟨bk,e3,e4⟩:=book_arg5 ⟨c3,g3⟩ hub
 exact ⟨⟨nm,lv,ps,bk⟩,by rw [h1,e0,e1,e2,e3,uidVer]; rfl,e4⟩
theorem one_ofS {P : Program} {n : Nat} {t : TypeId} {f0 : Field} {k0 : Nat} (ht : P.underlying t = some (.struct #[f0])) (hs : szs P (P.underlyingId t) = some [k0])
    {d:DataW H} {cs:List Value} (h:PVC P W Imm (toPV P (n + 1) t d) cs) :
    ∃ (a:DataW H) (r:List (DataW H)) (c0:List Value),d = .agg (a :: r) ∧ toPV P (n + 1) t d = .st (P.underlyingId t) [toPV P n f0.type a] ∧ PVC P W Imm (toPV P n f0.type a) c0:=by
 cases d with
 | agg l =>
  simp only [toPV,ht,PVC] at h ⊢
  obtain ⟨l',css,h1,h2,_⟩:=h
  rw [hs] at h1; cases h1
  match l,h2 with
  | [],h2=>simp [PVCl] at h2
  | a :: r,h2 =>
   simp only [List.zip_cons_cons,List.map_cons,PVCl,List.zip_nil_left,List.map_nil] at h2 ⊢
   obtain ⟨c0,_,_,g0,_⟩:=h2
   exact ⟨a,r,c0,rfl,rfl,g0⟩
 | _=>simp only [toPV,ht,PVC] at h
theorem unHist:∃ f0:Field,Tryz.prog.underlying 76 = some (.struct #[f0]) ∧ f0.type = 74:=⟨_,Tryz.underlying76,rfl⟩
theorem uidHist:Tryz.prog.underlyingId 76 = 75:=by kernel_rfl
theorem hist_arg {d:DataW H} (h:∃ cs,PVC Tryz.prog W Imm (toPV Tryz.prog 8 76 d) cs) (hb:Rows.uptoBulk d ≤ 1048576):∃ h:List VerD,toPV Tryz.prog 8 76 d = eHist h ∧ histW h:=by
 obtain ⟨cs,h⟩:=h
 obtain ⟨f0,hu,t0⟩:=unHist
 obtain ⟨x,r,c0,hd,h1,h2⟩:=one_ofS (n:=7) hu (by rw [uidHist]; exact sz75) h
 rw [t0] at h1 h2
 have hx:Rows.uptoBulk x ≤ 1048576:=bulk_part (d:=x) (l:=x :: r) (by simp) (by rw [← hd]; exact hb)
 obtain ⟨l,e1,e2,e3⟩:=seq_ofB (n:=6) (fun v:VerD=>v.book.rows.length ≤ 1048576) un74 (fun d c hc hb=>ver_of d c hc hb) h2 hx
 exact ⟨l,by rw [h1,e1,uidHist]; rfl,e3,e2⟩
end
end Go.Abs
namespace Go.Proofs
open Go.Shelf
def Tryz.sortF_ren:Go.Shelf.Ren:=⟨fun | 6=>203 | 15=>222 | 14=>248 | 28=>270 | 29=>271 | 20=>284 | 21=>285 | 22=>286 | 23=>287 | 24=>288 | 25=>289 | 26=>290 | 27=>291 | 46=>317 | 47=>301 | 48=>302 | 49=>318 | 50=>319 | 57=>331 | n=>n,fun | 22=>74 | 24=>148 | 25=>303 | 3=>3 | 39=>261 | 0=>0 | 53=>317 | 55=>320 | 4=>4 | 46=>351 | 45=>350 | 50=>286 | 5=>5 | 9=>9 | 66=>378 | 70=>382 | 76=>397 | 77=>398 | n=>n,fun | n=>n⟩
theorem Tryz.sortF:Go.Proofs.SlLaysF0.n6 Tryz.prog Tryz.sortF_ren:={
 mixed:=by kernel_rfl
 f6:=⟨Tryz.f203.name,by decide,Tryz.func203.trans (congrArg some (by kernel_rfl))⟩
 f14:=⟨Tryz.f248.name,by decide,Tryz.func248.trans (congrArg some (by kernel_rfl))⟩
 f15:=Tryz.func222.trans (congrArg some (by kernel_rfl))
 f20:=⟨Tryz.f284.name,by decide,Tryz.func284.trans (congrArg some (by kernel_rfl))⟩
 f21:=⟨Tryz.f285.name,by decide,Tryz.func285.trans (congrArg some (by kernel_rfl))⟩
 f22:=⟨Tryz.f286.name,by decide,Tryz.func286.trans (congrArg some (by kernel_rfl))⟩
 f23:=⟨Tryz.f287.name,by decide,Tryz.func287.trans (congrArg some (by kernel_rfl))⟩
 f24:=⟨Tryz.f288.name,by decide,Tryz.func288.trans (congrArg some (by kernel_rfl))⟩
 f25:=⟨Tryz.f289.name,by decide,Tryz.func289.trans (congrArg some (by kernel_rfl))⟩
 f26:=⟨Tryz.f290.name,by decide,Tryz.func290.trans (congrArg some (by kernel_rfl))⟩
 f27:=⟨Tryz.f291.name,by decide,Tryz.func291.trans (congrArg some (by kernel_rfl))⟩
 f28:=Tryz.func270.trans (congrArg some (by kernel_rfl))
 f29:=Tryz.func271.trans (congrArg some (by kernel_rfl))
 f46:=⟨Tryz.f317.name,by decide,Tryz.func317.trans (congrArg some (by kernel_rfl))⟩
 f47:=Tryz.func301.trans (congrArg some (by kernel_rfl))
 f48:=Tryz.func302.trans (congrArg some (by kernel_rfl))
 f49:=⟨Tryz.f318.name,by decide,Tryz.func318.trans (congrArg some (by kernel_rfl))⟩
 f50:=⟨Tryz.f319.name,by decide,Tryz.func319.trans (congrArg some (by kernel_rfl))⟩
 f57:=⟨Tryz.f331.name,by decide,Tryz.func331.trans (congrArg some (by kernel_rfl))⟩
 t0:=Tryz.underlying0
 a0:=Tryz.isAgg0
 z0:=Tryz.sizeOf0
 v0:=Tryz.zeroValue0
 t3:=Tryz.underlying3
 a3:=Tryz.isAgg3
 z3:=Tryz.sizeOf3
 v3:=Tryz.zeroValue3
 t4:=Tryz.underlying4
 a4:=Tryz.isAgg4
 z4:=Tryz.sizeOf4
 v4:=Tryz.zeroValue4
 t5:=Tryz.underlying5
 a5:=Tryz.isAgg5
 z5:=Tryz.sizeOf5
 v5:=Tryz.zeroValue5
 t9:=Tryz.underlying9
 a9:=Tryz.isAgg9
 z9:=Tryz.sizeOf9
 v9:=Tryz.zeroValue9
 t22:=Tryz.underlying74
 a22:=Tryz.isAgg74
 z22:=Tryz.sizeOf74
 v22:=Tryz.zeroValue74
 t25:=Tryz.underlying303
 a25:=Tryz.isAgg303
 z25:=Tryz.sizeOf303
 v25:=Tryz.zeroValue303
 t39:=Tryz.underlying261
 a39:=Tryz.isAgg261
 z39:=Tryz.sizeOf261
 v39:=Tryz.zeroValue261
 t45:=Tryz.underlying350
 a45:=Tryz.isAgg350
 z45:=Tryz.sizeOf350
 v45:=Tryz.zeroValue350
 t46:=Tryz.underlying351
 a46:=Tryz.isAgg351
 z46:=Tryz.sizeOf351
 v46:=Tryz.zeroValue351
 t50:=Tryz.underlying286
 a50:=Tryz.isAgg286
 z50:=Tryz.sizeOf286
 v50:=Tryz.zeroValue286
 t53:=Tryz.underlying317
 a53:=Tryz.isAgg317
 z53:=Tryz.sizeOf317
 v53:=Tryz.zeroValue317
 t55:=Tryz.underlying320
 a55:=Tryz.isAgg320
 z55:=Tryz.sizeOf320
 v55:=Tryz.zeroValue320
 t66:=Tryz.underlying378
 a66:=Tryz.isAgg378
 z66:=Tryz.sizeOf378
 v66:=Tryz.zeroValue378
 t70:=Tryz.underlying382
 a70:=Tryz.isAgg382
 z70:=Tryz.sizeOf382
 v70:=Tryz.zeroValue382
 t76:=Tryz.underlying397
 a76:=Tryz.isAgg397
 z76:=Tryz.sizeOf397
 v76:=Tryz.zeroValue397
 t77:=Tryz.underlying398
 a77:=Tryz.isAgg398
 z77:=Tryz.sizeOf398
 v77:=Tryz.zeroValue398 }
def Tryz.lays194_ren:Go.Shelf.Ren:=⟨fun | 194=>164 | n=>n,fun | 31=>44 | 9=>9 | 3=>3 | 4=>4 | 0=>0 | n=>n,fun | n=>n⟩
theorem Tryz.lays194:Go.Proofs.Lays.n194 Tryz.prog Tryz.lays194_ren:={
 mixed:=by kernel_rfl
 f194:=Tryz.func164.trans (congrArg some (by kernel_rfl))
 t0:=Tryz.underlying0
 a0:=Tryz.isAgg0
 z0:=Tryz.sizeOf0
 v0:=Tryz.zeroValue0
 t3:=Tryz.underlying3
 a3:=Tryz.isAgg3
 z3:=Tryz.sizeOf3
 v3:=Tryz.zeroValue3
 t4:=Tryz.underlying4
 a4:=Tryz.isAgg4
 z4:=Tryz.sizeOf4
 v4:=Tryz.zeroValue4
 t9:=Tryz.underlying9
 a9:=Tryz.isAgg9
 z9:=Tryz.sizeOf9
 v9:=Tryz.zeroValue9
 t31:=Tryz.underlying44
 a31:=Tryz.isAgg44
 z31:=Tryz.sizeOf44
 v31:=Tryz.zeroValue44 }
end Go.Proofs
namespace Go.Abs
open Go.Proofs
theorem compact_inv (zs : List (List UInt8)) (hz : Asc (zs.map natsB)) : ∀ m, m ≤ zs.length →
    Asc ((Go.Lib.compactUpTo zs.toArray m).map natsB) ∧ ((Go.Lib.compactUpTo zs.toArray m).map natsB).Nodup ∧ ∀ a,a ∈ (Go.Lib.compactUpTo zs.toArray m).map natsB ↔ a ∈ (zs.take m).map natsB:=by
 have hsl:∀ i j (hi:i < zs.length) (hj:j < zs.length),i ≤ j → sLess (natsB zs[j]) (natsB zs[i]) = false:=by
  intro i j hi hj hij
  rcases Nat.lt_or_ge i j with h | h
  · have:=(List.pairwise_iff_getElem.1 hz) i j (by simpa using hi) (by simpa using hj) h
    simpa using this
  · have:i = j:=by omega
    subst this; exact sLess_irr _
 have hinj:∀ x y:List UInt8,natsB x = natsB y → x = y:=fun x y h=>(List.map_inj_right (fun a b hab=>UInt8.toNat_inj.1 hab)).1 h
 intro m
 induction m with
 | zero=>intro _; simp [Go.Lib.compactUpTo,Asc]
 | succ m ih =>
  intro hm
  obtain ⟨h1,h2,h3⟩:=ih (by omega)
  have hml:m < zs.length:=by omega
  have hgm:zs.toArray[m]! = zs[m]:=by simp [hml]
  rw [Go.Lib.compactUpTo_succ]
  have ht:(zs.take (m + 1)).map natsB = (zs.take m).map natsB ++ [natsB zs[m]]:=by rw [List.take_succ_eq_append_getElem hml,List.map_append]; rfl
  have hle:∀ a ∈ (zs.take m).map natsB,sLess (natsB zs[m]) a = false:=by
   intro a ha
   obtain ⟨x,hx,rfl⟩:=List.mem_map.1 ha
   obtain ⟨i,hi,rfl⟩:=List.mem_iff_getElem.1 hx
   simp only [List.length_take] at hi
   rw [List.getElem_take]
   exact hsl i m (by omega) hml (by omega)
  cases hk:Go.Lib.keeps zs.toArray m with
  | true =>
   simp only [if_true,List.map_append,List.map_cons,List.map_nil,hgm]
   refine ⟨?_,?_,?_⟩
   · rw [Asc,List.pairwise_append]
     refine ⟨h1,by simp,?_⟩
     intro a ha b hb
     rw [List.mem_singleton] at hb; subst hb
     exact hle a ((h3 a).1 ha)
   · rw [List.nodup_append]
     refine ⟨h2,by simp,?_⟩
     intro a ha b hb hab
     rw [List.mem_singleton] at hb; subst hb; subst hab
     obtain ⟨x,hx,hxe⟩:=List.mem_map.1 ((h3 _).1 ha)
     obtain ⟨i,hi,rfl⟩:=List.mem_iff_getElem.1 hx
     simp only [List.length_take] at hi
     rw [List.getElem_take] at hxe
     have hm0:m ≠ 0:=by omega
     have hgp:zs.toArray[m - 1]! = zs[m - 1]:=by simp [show m - 1 < zs.length by omega]
     simp only [Go.Lib.keeps,hm0,false_or,decide_eq_true_eq,hgm,hgp] at hk
     apply hk
     have e1:=hsl i (m - 1) (by omega) (by omega) (by omega)
     have e2:=hsl (m - 1) m (by omega) hml (by omega)
     rw [hxe] at e1
     exact (hinj _ _ (sLess_tri e1 e2)).symm
   · intro a
     rw [ht,List.mem_append,List.mem_append,h3 a]
  | false =>
   simp only [List.append_nil,Bool.false_eq_true,if_false]
   refine ⟨h1,h2,fun a=>?_⟩
   rw [h3 a,ht,List.mem_append,List.mem_singleton]
   constructor
   · exact .inl
   · rintro (h | rfl)
     · exact h
     · have hm0:m ≠ 0:=by
        intro e; subst e; simp [Go.Lib.keeps] at hk
       have hgp:zs.toArray[m - 1]! = zs[m - 1]:=by simp [show m - 1 < zs.length by omega]
       have hk':zs[m] = zs[m - 1]:=by
        simp only [Go.Lib.keeps,hm0,false_or,hgm,hgp,decide_eq_false_iff_not,ne_eq,Decidable.not_not] at hk
        exact hk
       rw [hk']
       exact List.mem_map.2 ⟨_,List.mem_iff_getElem.2 ⟨m - 1,by simp; omega,by rw [List.getElem_take]⟩,rfl⟩
theorem compact_ok (zs:List (List UInt8)) (hz:Asc (zs.map natsB)) {l:List (List Nat)} (hl:Asc l) (nl:l.Nodup) (hm:∀ a,a ∈ l ↔ a ∈ zs.map natsB):(Go.Lib.compact zs).map natsB = l:=by
 obtain ⟨h1,h2,h3⟩:=compact_inv zs hz zs.length (Nat.le_refl _)
 rw [List.take_length] at h3
 exact asc_ext h1 hl h2 nl fun a=>by rw [Go.Lib.compact,h3 a,hm a]
theorem asc_bytes {bs:List ByteArray} {xs:List (List Nat)} (h:xs = bs.map fun b=>natsB b.data.toList):(bs.map (·.data.toList)).map natsB = xs:=by rw [h,List.map_map]; rfl
theorem g_compact {P : Program} [Gl] {f : FuncId} (he : Enters P f)
    (hS:∀ (blk off cap:Nat) (zs:List (List UInt8)) (w:World),Go.Sort.Holds encStr w blk off zs.toArray → zs.length ≤ 9223372036854775807 → zs.length ≤ cap →
     Calls P f #[.slice (some ⟨blk,off,none⟩) zs.length cap] w fun e w'=>e = .returned (.slice (some ⟨blk,off,none⟩) (Go.Lib.compact zs).length cap) ∧ ∃ q,w' = Go.Sort.putRow encStr (Go.Sort.ahead w q) blk off (Go.Lib.compact zs ++ List.replicate (zs.length - (Go.Lib.compact zs).length) []).toArray)
    {H:Heap} {b ver:Nat} {xs l:List (List Nat)} (hb:H[b]? = some (.arr .grow ver 1 (xs.map (AV.p ∘ PV.str)))) (hne:xs ≠ []) (hlen:xs.length < 4611686018427387904)
    (hx:Asc xs) (hl:Asc l) (nl:l.Nodup) (hm:∀ a,a ∈ l ↔ a ∈ xs) :
    GoodI P f H [.sl b ver 1 0 xs.length] (H.set b (.arr .grow ver 1 ((l ++ List.replicate (xs.length - l.length) []).map (AV.p ∘ PV.str)))) (.sl b ver 1 0 l.length):=by
 refine ⟨he,fun w Imm Prot β cargs hr ha hre=>?_⟩
 simp only [AVVl,AVV] at ha
 obtain ⟨v,vs,rfl,⟨_,hp⟩,rfl⟩:=ha
 obtain ⟨_,_,hv⟩:=hp .grow _ hb
 have hnil:¬ isNilArr .grow (xs.map (AV.p ∘ PV.str)):=fun h=>hne (by simpa using h.2)
 have hv:=hv hnil
 simp only [Nat.zero_mul,Nat.sub_zero] at hv
 subst hv
 rcases hr.objs b _ hb with h | ⟨cs,T,css,rest,k1,k2,k3,k4,k5,k6,k7,k8,k9⟩
 · exact (hnil h).elim
 have k2':PVCl P w Imm (List.replicate (xs.map (AV.p ∘ PV.str)).length 1) (xs.map .str) css:=by
  rw [← AVCl_map (β:=β) (H:=H)]; simpa [Function.comp_def] using k2
 obtain ⟨bs,g1,g2⟩:=strs_of k2'
 have k7':¬ Imm (β.blk b) ∧ ¬ Prot (β.blk b):=by simpa [Held] using k7
 rw [g1] at k3
 have hxl:xs.length = bs.length:=by rw [g2]; simp
 have hblk:β.blk b < w.heap.size:=(Array.getElem?_eq_some_iff.1 k1).1
 have hH:Go.Sort.Holds encStr w (β.blk b) 0 (bs.map (·.data.toList)).toArray:=by
  intro j hj
  have hj:j < bs.length:=by simpa using hj
  refine ⟨?_,by simp [World.frozen?,k1]⟩
  have e1:cs[j]? = some (.string bs[j]):=by
   rw [← Array.getElem?_toList,k3,List.getElem?_append_left (by simpa using hj)]
   simp [hj]
  simp [World.cell?,k1,e1,encStr,hj]
 have hc:=hS (β.blk b) 0 (β.cap b) (bs.map (·.data.toList)) w hH (by simp; omega) (by simp at k5; simp; omega)
 have hco:(Go.Lib.compact (bs.map (·.data.toList))).map natsB = l:=by
  have e:=asc_bytes g2
  exact compact_ok _ (by rw [e]; exact hx) hl nl (fun a=>by rw [hm a,e])
 have hll0:(Go.Lib.compact (bs.map (·.data.toList))).length ≤ xs.length:=by
  have:=List.length_filter_le (Go.Lib.keeps (bs.map (·.data.toList)).toArray) (List.range (bs.map (·.data.toList)).length)
  simp only [List.length_range,List.length_map] at this
  simp only [Go.Lib.compact,Go.Lib.compactUpTo,List.length_map]
  rw [hxl]; exact this
 generalize hcd:Go.Lib.compact (bs.map (·.data.toList)) = C at hc hco hll0
 rw [List.length_map,← hxl] at hc
 have hCl:C.length = l.length:=by rw [← hco]; simp
 have hll:l.length ≤ xs.length:=by rw [← hCl]; exact hll0
 refine hc.mono ?_
 rintro e w' ⟨rfl,n,rfl⟩
 generalize hd:C ++ List.replicate (xs.length - C.length) [] = d
 have hso:l ++ List.replicate (xs.length - l.length) [] = d.map natsB:=by
  rw [← hd,List.map_append,hco,List.map_replicate,hCl]; rfl
 have hdl:d.length = bs.length:=by rw [← hd]; simp [hCl]; omega
 have hnew:=putCells_list (d:=d) k3 (by simp [hdl])
 generalize hcs:Go.Sort.putCells encStr 0 d.toArray cs = new at hnew
 rw [hso]
 have hst:HStep β H β (H.set b (.arr .grow ver 1 ((d.map natsB).map (AV.p ∘ PV.str)))):=set_step hb (.inr (.inl ⟨_,_,_,_,_,rfl,rfl,by simp [hdl,hxl]⟩))
 have hnil' : ¬ isNilArr .grow ((d.map natsB).map (AV.p ∘ PV.str)) := fun h => hne (by
     have h0:d = []:=by simpa using h.2
     rw [h0] at hdl
     exact List.length_eq_zero_iff.1 (by rw [hxl,← hdl]; rfl))
 have hp1:=write_post hr hb hnil (o':=.arr .grow ver 1 ((d.map natsB).map (AV.p ∘ PV.str))) hnil' (fun _ h=>h) k1 (new:=new) k7' hst
  (.inr ⟨new,T,d.map fun l=>[Value.string ⟨l.toArray⟩],rest,setRow_heap w _ _ _ T _ k1,by
   have:=strs_to (P:=P) (w:=w.setRow (β.blk b) new) (Imm:=Imm) d
   rw [← AVCl_map (β:=β) (H:=H.set b (.arr .grow ver 1 ((d.map natsB).map (AV.p ∘ PV.str))))] at this
   simpa [Function.comp_def] using this,by rw [hnew,flat1],by rw [← k4,← hcs]; simp [Go.Sort.putCells],by simp only [List.length_map] at k5 ⊢; omega,by simp,k7,by simp,k9⟩)
  (by simp only [Obj.refs]; rw [refsLtl_mem]; intro v hv; simp only [List.mem_map] at hv; obtain ⟨x,_,rfl⟩:=hv; trivial)
 have hp2:Post P Prot Imm (w.setRow (β.blk b) new) β _ Imm (Go.Sort.putRow encStr (Go.Sort.ahead w n) (β.blk b) 0 d.toArray) β _ :=
  HRel.later hp1.rel (fun _ h => h) (fun _ h => .inl h) (fun k hk => by
      have:=hr.imm k hk
      simp only [Go.Sort.size_putRow]
      show k < (Go.Sort.ahead w n).heap.size
      simp only [Go.Sort.ahead]; omega)
   (by rw [setRow_size]; simp only [Go.Sort.size_putRow,Go.Sort.ahead]; omega)
   (fun k hk=>by
    rw [setRow_size] at hk
    by_cases hkb:k = β.blk b
    · subst hkb
      rw [setRow_heap w _ _ _ T _ k1]
      simp [Go.Sort.putRow,Go.Sort.mapBlock,Go.Sort.ahead,Go.Sort.onCells,Array.getElem?_modify,k1,hcs]
    · rw [setRow_other w _ k _ hkb]
      simp [Go.Sort.putRow,Go.Sort.mapBlock,Go.Sort.ahead,Array.getElem?_modify,Ne.symm hkb])
 have hbl:b < H.length:=(List.getElem?_eq_some_iff.1 hb).1
 refine ⟨_,β,Imm,rfl,hp1.trans hp2,?_,?_⟩
 · refine ⟨rfl,?_⟩
   intro k es hk
   rw [LiveArr,List.getElem?_set_self hbl] at hk
   cases hk
   refine ⟨by simp [hdl]; omega,fun h=>(hnil' h).elim,fun _=>by simp [hCl]⟩
 · exact ⟨_,List.getElem?_set_self hbl,Nat.le_refl _⟩
end Go.Abs
namespace Go.Proofs
open Go.Shelf Go.RowKit Go.Lib Go.Sort
set_option maxHeartbeats 1000000 in
theorem Tryz.isNaN247 (a:ByteArray) (W:World):Calls Tryz.prog 247 #[.string a] W fun e w'=>e = .returned (.bool false) ∧ w' = W:=by
 go_enter Tryz.func247,Tryz.ntmps247
 go_wp2
 go_ret
 exact ⟨rfl,rfl⟩
def cmpBy (a b:ByteArray):Int:=if Op.bytesLess a.toList b.toList = true then -1 else if (!a.toList == b.toList) = true then 1 else 0
set_option maxHeartbeats 1000000 in
theorem Tryz.compare202 (a b:ByteArray) (W:World):Calls Tryz.prog 202 #[.string a,.string b] W fun e w'=>e = .returned (.int .i64 (cmpBy a b)) ∧ w' = W:=by
 go_enter Tryz.func202,Tryz.ntmps202
 go_wp2_with (go_at_call 247; refine (Tryz.isNaN247 _ _).mono ?_; rintro e w' ⟨rfl,hw⟩; rw [hw])
 all_goals go_ret
 · refine ⟨?_,rfl⟩
   rw [cmpBy,if_pos (by assumption)]
   rfl
 · refine ⟨?_,rfl⟩
   rw [cmpBy,if_neg (by simp [*]),if_pos (by assumption)]
   rfl
 · refine ⟨?_,rfl⟩
   rw [cmpBy,if_neg (by simp [*]),if_neg (by simp [*])]
   rfl
structure VC where
 name:ByteArray
 c1:Value
 c2:Value
 c3:Value
 c4:Value
 o1:c1.oneCell' = true
 o2:c2.oneCell' = true
 o3:c3.oneCell' = true
 o4:c4.oneCell' = true
instance:Inhabited VC:=⟨⟨⟨#[]⟩,.bool false,.bool false,.bool false,.bool false,rfl,rfl,rfl,rfl⟩⟩
def VC.enc (x:VC):List Value:=[.string x.name,x.c1,x.c2,x.c3,x.c4]
set_option maxHeartbeats 1000000 in
theorem Tryz.closure204 (x y:VC) (W:World):Calls Tryz.prog 204 #[.agg x.enc.toArray,.agg y.enc.toArray] W fun e w'=>e = .returned (.int .i64 (cmpBy x.name y.name)) ∧ ∃ q os',w' = grow (W.drewN q) os':=by
 have hcon:=fun W'=>Tryz.compare202 x.name y.name W'
 generalize cmpBy x.name y.name = r at hcon ⊢
 obtain ⟨a,x1,x2,x3,x4,p1,p2,p3,p4⟩:=x
 obtain ⟨b,y1,y2,y3,y4,q1,q2,q3,q4⟩:=y
 simp only [VC.enc] at hcon ⊢
 go_enter Tryz.func204,Tryz.ntmps204
 go_wp2_with (go_at_call 202; refine (hcon _).mono ?_; rintro e w' ⟨rfl,rfl⟩)
 go_ret
 exact ⟨rfl,0,_,by rw [alloc_eq_grow,alloc_eq_grow,grow_grow]; rfl⟩
end Go.Proofs
namespace Go.Abs
open Go.Proofs
set_option maxRecDepth 100000
theorem sz_book:szs Tryz.prog 23 = some [1,1]:=by kernel_rfl
theorem sz_ver:szs Tryz.prog 147 = some [1,1,1,2]:=by kernel_rfl
section
variable {w:World} {Imm:Nat → Prop}
theorem seq_cell {es:List PV} {c:List Value} (h:PVC Tryz.prog w Imm (.seq es) c):∃ x:Value,c = [x] ∧ x.oneCell' = true:=by
 simp only [PVC] at h
 rcases h with ⟨_,h⟩ | ⟨_,_,_,_,_,_,_,_,_,_,_,h⟩
 · exact ⟨_,h,rfl⟩
 · exact ⟨_,h,rfl⟩
theorem str_cell {s:List Nat} {c:List Value} (h:PVC Tryz.prog w Imm (.str s) c):∃ x:ByteArray,c = [.string x] ∧ s = natsB x.data.toList:=by
 simp only [PVC] at h
 obtain ⟨b,h1,h2⟩:=h
 exact ⟨b,h1,h2⟩
theorem ver_cells {v:VerD} {c:List Value} (h:PVC Tryz.prog w Imm (eVer v) c):∃ x:VC,c = x.enc ∧ v.name = natsB x.name.data.toList:=by
 simp only [eVer,PVC,sz_ver] at h
 obtain ⟨l,css,h1,h2,h3⟩:=h
 cases h1
 simp only [PVCl] at h2
 obtain ⟨c0,r0,rfl,k0,_,c1,r1,rfl,k1,_,c2,r2,rfl,k2,_,c3,r3,rfl,k3,_,rfl⟩:=h2
 simp only [eBook,PVC,sz_book] at k3
 obtain ⟨l,css,h1,h2,rfl⟩:=k3
 cases h1
 simp only [PVCl] at h2
 obtain ⟨d0,s0,rfl,m0,_,d1,s1,rfl,m1,_,rfl⟩:=h2
 obtain ⟨x0,rfl,e0⟩:=str_cell k0
 simp only [PVC] at k1
 subst k1
 obtain ⟨x2,rfl,o2⟩:=seq_cell k2
 obtain ⟨x3,rfl,_⟩:=str_cell m0
 obtain ⟨x4,rfl,o4⟩:=seq_cell m1
 exact ⟨⟨x0,.int .i64 v.level,x2,.string x3,x4,rfl,o2,rfl,o4⟩,by rw [h3]; rfl,e0⟩
theorem vers_of : ∀ {l : List VerD} {css : List (List Value)}, PVCl Tryz.prog w Imm (List.replicate l.length 5) (l.map eVer) css →
    ∃ xs:List (VerD × VC),xs.map (·.1) = l ∧ css = xs.map (fun p=>p.2.enc) ∧ ∀ p ∈ xs,PVC Tryz.prog w Imm (eVer p.1) p.2.enc ∧ p.1.name = natsB p.2.name.data.toList
 | [],css,h=>⟨[],rfl,by simpa [PVCl] using h,by simp⟩
 | v :: l,css,h=>by
  simp only [List.length_cons,List.replicate_succ,List.map_cons,PVCl] at h
  obtain ⟨c,cs,rfl,h1,_,h2⟩:=h
  obtain ⟨x,rfl,hn⟩:=ver_cells h1
  obtain ⟨xs,g1,g2,g3⟩:=vers_of h2
  refine ⟨(v,x) :: xs,by simp [g1],by simp [g2],?_⟩
  intro p hp
  rcases List.mem_cons.1 hp with rfl | hp
  · exact ⟨h1,hn⟩
  · exact g3 p hp
theorem vers_to:∀ {xs:List (VerD × VC)},(∀ p ∈ xs,PVC Tryz.prog w Imm (eVer p.1) p.2.enc) → PVCl Tryz.prog w Imm (List.replicate xs.length 5) ((xs.map (·.1)).map eVer) (xs.map fun p=>p.2.enc)
 | [],_=>by simp [PVCl]
 | p :: r,h=>by
  simp only [List.length_cons,List.replicate_succ,List.map_cons,PVCl]
  exact ⟨_,_,rfl,h p List.mem_cons_self,rfl,vers_to fun q hq=>h q (List.mem_cons_of_mem _ hq)⟩
end
theorem perm_lift {α β:Type} (f:α → β) {l l':List β} (h:l'.Perm l):∀ zs:List α,zs.map f = l → ∃ zs':List α,zs'.Perm zs ∧ zs'.map f = l':=by
 induction h with
 | nil=>intro zs hz; exact ⟨[],by simpa using hz,rfl⟩
 | cons x _ ih =>
  intro zs hz
  cases zs with
  | nil=>simp at hz
  | cons z zs =>
   simp only [List.map_cons,List.cons.injEq] at hz
   obtain ⟨zs',p1,p2⟩:=ih zs hz.2
   exact ⟨z :: zs',p1.cons z,by simp [p2,hz.1]⟩
 | swap x y l =>
  intro zs hz
  match zs,hz with
  | a :: b :: r,hz =>
   simp only [List.map_cons,List.cons.injEq] at hz
   exact ⟨b :: a :: r,.swap a b r,by simp [hz]⟩
 | trans _ _ ih1 ih2 =>
  intro zs hz
  obtain ⟨z1,p1,p2⟩:=ih2 zs hz
  obtain ⟨z2,q1,q2⟩:=ih1 z1 p2
  exact ⟨z2,q1.trans p1,q2⟩
theorem flat_get {α:Type} (enc:α → List Value) (k:Nat) (hk:∀ x,(enc x).length = k) (k0:0 < k):∀ (l:List α) (t:Nat),t < l.length * k → (l.map enc).flatten[t]? = (l[t / k]?).bind fun x=>(enc x)[t % k]?
 | [],t,h=>by simp at h
 | x :: r,t,h=>by
  simp only [List.map_cons,List.flatten_cons]
  by_cases ht:t < k
  · rw [List.getElem?_append_left (by rw [hk]; exact ht),Nat.div_eq_of_lt ht,Nat.mod_eq_of_lt ht]; rfl
  · have h1:t / k = (t - k) / k + 1:=by rw [← Nat.add_div_right (t - k) k0,Nat.sub_add_cancel (by omega)]
    have h2:t % k = (t - k) % k:=by rw [← Nat.add_mod_right (t - k) k,Nat.sub_add_cancel (by omega)]
    rw [List.getElem?_append_right (by rw [hk]; omega),hk,flat_get enc k hk k0 r (t - k) (by simp only [List.length_cons,Nat.add_mul] at h; omega),h1,h2,List.getElem?_cons_succ]
theorem flatK_list (ds:List VC):(Go.Sort.flatK VC.enc 5 ds.toArray).toList = (ds.map VC.enc).flatten:=by
 apply List.ext_getElem?
 intro t
 by_cases ht:t < ds.length * 5
 · rw [flat_get VC.enc 5 (fun _=>rfl) (by omega) ds t ht]
   have hq:t / 5 < ds.length:=by omega
   have hm:t % 5 < (VC.enc ds[t / 5]).length:=by rw [show (VC.enc ds[t / 5]).length = 5 from rfl]; omega
   rw [List.getElem?_eq_getElem hq]
   simp only [Option.bind_some]
   rw [List.getElem?_eq_getElem hm,Array.getElem?_toList]
   have h3:t < (Go.Sort.flatK VC.enc 5 ds.toArray).size:=by simpa using ht
   rw [Array.getElem?_eq_getElem h3]
   have h4:=Go.Sort.get_flatK VC.enc 5 ds.toArray t (by simpa using ht)
   rw [getElem!_pos (Go.Sort.flatK VC.enc 5 ds.toArray) t h3] at h4
   rw [h4]
   simp [hq,hm]
 · have h1:(Go.Sort.flatK VC.enc 5 ds.toArray).toList.length ≤ t:=by simp; omega
   have h2:(ds.map VC.enc).flatten.length ≤ t:=by
    rw [List.length_flatten]
    have:((ds.map VC.enc).map List.length) = List.replicate ds.length 5:=by
     rw [List.map_map,List.eq_replicate_iff]
     exact ⟨by simp,fun b hb=>by obtain ⟨x,_,rfl⟩:=List.mem_map.1 hb; rfl⟩
    rw [this]; simp; omega
   rw [List.getElem?_eq_none h1,List.getElem?_eq_none h2]
theorem cmpBy_lt (a b:ByteArray):(cmpBy a b < 0) = (sLess (natsB a.data.toList) (natsB b.data.toList) = true):=by
 have h:Op.bytesLess a.toList b.toList = sLess (natsB a.data.toList) (natsB b.data.toList):=by
  rw [bytesLess_eq,sLess_eq,ByteArray.toList_eq,ByteArray.toList_eq]; rfl
 rw [cmpBy,h]
 cases sLess (natsB a.data.toList) (natsB b.data.toList) with
 | true=>simp
 | false =>
  simp
  split <;> omega
def cfV (x y:VC):Int:=cmpBy x.name y.name
theorem ltV (x y:VC):Go.Proofs.ltOf cfV x y = sLess (natsB x.name.data.toList) (natsB y.name.data.toList):=by
 simp only [Go.Proofs.ltOf,cfV,cmpBy_lt,Bool.decide_eq_true]
theorem swoV:Go.Sort.SWO (Go.Proofs.ltOf cfV) where
 irrefl x:=by rw [ltV,sLess_irr]
 trans x y z h1 h2:=by rw [ltV] at *; exact sLess_trans h1 h2
 ntrans x y z h1 h2:=by rw [ltV] at *; exact sLess_neg_trans h2 h1
theorem putCells_id {F:List Value} {l rest:List Value} {cs:Array Value} (h:cs.toList = l ++ rest) (hl:l.length = F.length):(Go.Sort.putCells id 0 F.toArray cs).toList = F ++ rest:=by
 have hsz:cs.size = l.length + rest.length:=by rw [← Array.length_toList,h]; simp
 apply List.ext_getElem
 · simp [Go.Sort.putCells,hsz,hl]
 · intro i h1 h2
   simp only [Go.Sort.putCells,Array.getElem_toList,Array.getElem_mapIdx,List.size_toArray,Nat.zero_le,Nat.zero_add,true_and,Nat.sub_zero]
   split
   · rename_i hi
     rw [List.getElem_append_left (by simpa using hi)]
     simp [hi]
   · rename_i hi
     rw [List.getElem_append_right (by simpa using hi)]
     have e:cs[i]'(by simpa [Go.Sort.putCells] using h1) = cs.toList[i]'(by simpa [Go.Sort.putCells] using h1):=by simp
     rw [e]
     simp only [h]
     rw [List.getElem_append_right (by omega)]
     simp [hl]
theorem sorted_asc {zs : List (VerD × VC)} (hz : ∀ p ∈ zs, p.1.name = natsB p.2.name.data.toList) (hn : (namesV (zs.map (·.1))).Nodup)
    (hs:Go.Sort.SortedIn (Go.Proofs.ltOf cfV) 0 zs.length (zs.map (·.2)).toArray):AscV (zs.map (·.1)):=by
 rw [AscV,List.pairwise_iff_getElem]
 intro i j hi hj hij
 simp only [List.length_map] at hi hj
 have h1:=hs i j (Nat.zero_le _) hij hj
 rw [ltV] at h1
 have gi:((zs.map (·.2)).toArray)[i]! = zs[i].2:=by simp [hi]
 have gj:((zs.map (·.2)).toArray)[j]! = zs[j].2:=by simp [hj]
 rw [gi,gj,← hz _ (List.getElem_mem hi),← hz _ (List.getElem_mem hj)] at h1
 simp only [List.getElem_map]
 cases h2:sLess zs[i].1.name zs[j].1.name with
 | true=>rfl
 | false =>
  have h3:=sLess_tri h2 h1
  rw [namesV,List.map_map,List.nodup_iff_pairwise_ne,List.pairwise_iff_getElem] at hn
  have h4:=hn i j (by simpa using hi) (by simpa using hj) hij
  simp at h4
  exact absurd h3 h4
theorem g_sortV {H : Heap} {b ver : Nat} {xs : List VerD} (hb : H[b]? = some (.arr .grow ver 5 (xs.map (AV.p ∘ eVer)))) (hne : xs ≠ []) (hlen : xs.length ≤ 1048576) (hnd : (namesV xs).Nodup) :
    GoodI Tryz.prog 203 H [.sl b ver 5 0 xs.length,.p (.func 204 [] [])] (H.set b (.arr .grow ver 5 ((sortV xs).map (AV.p ∘ eVer)))) (.p (.tup [])):=by
 refine ⟨isF203.enters,fun w Imm Prot β cargs hr ha hre=>?_⟩
 simp only [AVVl,AVV] at ha
 obtain ⟨v,vs,rfl,⟨_,hp⟩,v2,vs2,rfl,hf,rfl⟩:=ha
 simp only [PVV,PVVl] at hf
 obtain ⟨fv,cv,rfl,rfl,rfl⟩:=hf
 obtain ⟨_,_,hv⟩:=hp .grow _ hb
 have hnil:¬ isNilArr .grow (xs.map (AV.p ∘ eVer)):=fun h=>hne (by simpa using h.2)
 have hv:=hv hnil
 simp only [Nat.zero_mul,Nat.sub_zero] at hv
 subst hv
 rcases hr.objs b _ hb with h | ⟨cs,T,css,rest,k1,k2,k3,k4,k5,k6,k7,k8,k9⟩
 · exact (hnil h).elim
 have k2':PVCl Tryz.prog w Imm (List.replicate xs.length 5) (xs.map eVer) css:=by
  have:PVCl Tryz.prog w Imm (List.replicate (xs.map (AV.p ∘ eVer)).length 5) (xs.map eVer) css:=by
   rw [← AVCl_map (β:=β) (H:=H)]; simpa [Function.comp_def] using k2
  simpa using this
 obtain ⟨zs,g1,g2,g3⟩:=vers_of k2'
 have k7':¬ Imm (β.blk b) ∧ ¬ Prot (β.blk b):=by simpa [Held] using k7
 have hxl:xs.length = zs.length:=by rw [← g1]; simp
 have hfl:css.flatten = (Go.Sort.flatK VC.enc 5 (zs.map (·.2)).toArray).toList:=by rw [flatK_list,g2,List.map_map]; rfl
 have hblk:β.blk b < w.heap.size:=(Array.getElem?_eq_some_iff.1 k1).1
 have hH:Go.Sort.HoldsK VC.enc 5 w (β.blk b) 0 (zs.map (·.2)).toArray:=by
  intro j hj
  refine ⟨?_,by simp [World.frozen?,k1]⟩
  have e1:cs[j]? = some (Go.Sort.flatK VC.enc 5 (zs.map (·.2)).toArray)[j]!:=by
   rw [← Array.getElem?_toList,k3,hfl,List.getElem?_append_left (by simpa using hj),Array.getElem?_toList,Array.getElem?_eq_getElem hj,getElem!_pos (Go.Sort.flatK VC.enc 5 (zs.map (·.2)).toArray) j hj]
  simp [World.cell?,k1,e1]
 have hc := AnyQ.slices_SortFunc Tryz.sortF 5 Tryz.isAgg148 Tryz.sizeOf148 VC.enc (fun _ => rfl) (fun x v hv => by
     simp only [VC.enc,List.mem_cons,List.not_mem_nil,or_false] at hv
     rcases hv with rfl | rfl | rfl | rfl | rfl
     · rfl
     · exact x.o1
     · exact x.o2
     · exact x.o3
     · exact x.o4) cfV swoV 204 #[] (β.blk b) 0 (β.cap b) (zs.map (·.2)).toArray w isF204.enters (fun _ _ _ _ x y=>by simpa [cfV] using Tryz.closure204 x y _) hH hblk (by simp; omega)
 change Calls Tryz.prog 203 _ _ _ at hc
 simp only [List.size_toArray,List.length_map,← hxl] at hc
 refine hc.mono ?_
 rintro e w' ⟨rfl,d',n,os,hpm,hso,rfl⟩
 have hds:d'.size = zs.length:=by rw [hpm.1]; simp
 have hpl:d'.toList.Perm (zs.map (·.2)):=by
  have:=hpm.2.2
  rw [hxl] at this
  have e1:d'.extract 0 zs.length = d':=by rw [← hds]; simp
  have e2:((zs.map (·.2)).toArray).extract 0 zs.length = (zs.map (·.2)).toArray:=by
   have:zs.length = ((zs.map (·.2)).toArray).size:=by simp
   rw [this]; simp
  rw [e1,e2] at this
  exact this
 obtain ⟨ys,y1,y2⟩:=perm_lift (fun p:VerD × VC=>p.2) hpl zs rfl
 have hyl:ys.length = zs.length:=y1.length_eq
 have hd':d' = (ys.map (·.2)).toArray:=by rw [y2]
 have hyp:(ys.map (·.1)).Perm xs:=by rw [← g1]; exact y1.map _
 have hy3:∀ p ∈ ys,PVC Tryz.prog w Imm (eVer p.1) p.2.enc ∧ p.1.name = natsB p.2.name.data.toList:=fun p hp=>g3 p (y1.mem_iff.1 hp)
 have hasc:AscV (ys.map (·.1)):=by
  refine sorted_asc (fun p hp=>(hy3 p hp).2) ?_ ?_
  · exact ((hyp.map VerD.name).nodup_iff).2 hnd
  · rw [hyl,← hxl,← hd']; exact hso
 have hsv:ys.map (·.1) = sortV xs:=sortV_of hnd hyp hasc
 have hsl:(sortV xs).length = xs.length:=by rw [← hsv,hyp.length_eq]
 generalize hF:Go.Sort.flatK VC.enc 5 d' = F
 have hFl:F.toList = (ys.map fun p=>p.2.enc).flatten:=by rw [← hF,hd',flatK_list,List.map_map]; rfl
 have hFa:F = F.toList.toArray:=by simp
 have hcl:css.flatten.length = F.toList.length:=by
  rw [hfl,← hF]; simp [hds]
 have hnew:=putCells_id (F:=F.toList) k3 hcl
 rw [← hFa] at hnew
 generalize hcs:Go.Sort.putCells id 0 F cs = new at hnew
 have hst:HStep β H β (H.set b (.arr .grow ver 5 ((sortV xs).map (AV.p ∘ eVer)))):=set_step hb (.inr (.inl ⟨_,_,_,_,_,rfl,rfl,by simp [hsl]⟩))
 have hp1 := write_post hr hb hnil (o' := .arr .grow ver 5 ((sortV xs).map (AV.p ∘ eVer))) (fun h => hne (by
     have h0:sortV xs = []:=by simpa using h.2
     rw [h0] at hsl
     exact List.length_eq_zero_iff.1 hsl.symm)) (fun _ h=>h) k1 (new:=new) k7' hst
  (.inr ⟨new,T,ys.map fun p=>p.2.enc,rest,setRow_heap w _ _ _ T _ k1,by
   have:=vers_to (w:=w.setRow (β.blk b) new) (Imm:=Imm) (xs:=ys) (fun p hp=>PVC.mono (fun _ h=>h) (fun k hk=>setRow_other w (β.blk b) k new (fun e=>k7'.1 (by rw [← e]; exact hk))) _ _ (hy3 p hp).1)
   rw [hsv] at this
   have e:ys.length = ((sortV xs).map (AV.p ∘ eVer)).length:=by rw [List.length_map,hsl,hyl,hxl]
   rw [e] at this
   rw [← AVCl_map (β:=β) (H:=H.set b (.arr .grow ver 5 ((sortV xs).map (AV.p ∘ eVer))))] at this
   simpa [Function.comp_def] using this,by rw [hnew,hFl],by rw [← k4,← hcs]; simp [Go.Sort.putCells],by simpa [hsl] using k5,by simp,k7,by simp,k9⟩)
  (by simp only [Obj.refs]; rw [refsLtl_mem]; intro v hv; simp only [List.mem_map] at hv; obtain ⟨x,_,rfl⟩:=hv; trivial)
 have hp2:Post Tryz.prog Prot Imm (w.setRow (β.blk b) new) β _ Imm (sortWorldK VC.enc 5 w (β.blk b) 0 n d' os) β _ :=
  HRel.later hp1.rel (fun _ h => h) (fun _ h => .inl h) (fun k hk => by
      have:=hr.imm k hk
      simp only [Go.Proofs.sortWorldK,Go.Sort.putRowK,Go.Sort.grow,Array.size_append,Go.Sort.size_putRow]
      show k < (Go.Sort.ahead w n).heap.size + _
      simp only [Go.Sort.ahead]; omega)
   (by rw [setRow_size]; simp only [Go.Proofs.sortWorldK,Go.Sort.putRowK,Go.Sort.grow,Array.size_append,Go.Sort.size_putRow,Go.Sort.ahead]; omega)
   (fun k hk=>by
    rw [setRow_size] at hk
    simp only [Go.Proofs.sortWorldK,Go.Sort.putRowK,hF]
    have h1:(Go.Sort.grow (Go.Sort.putRow id (Go.Sort.ahead w n) (β.blk b) 0 F) os).heap[k]? = (Go.Sort.putRow id (Go.Sort.ahead w n) (β.blk b) 0 F).heap[k]?:=by
     simp only [Go.Sort.grow]
     rw [Array.getElem?_append_left (by simpa [Go.Sort.ahead] using hk)]
    rw [h1]
    by_cases hkb:k = β.blk b
    · subst hkb
      rw [setRow_heap w _ _ _ T _ k1]
      simp [Go.Sort.putRow,Go.Sort.mapBlock,Go.Sort.ahead,Go.Sort.onCells,Array.getElem?_modify,k1,hcs]
    · rw [setRow_other w _ k _ hkb]
      simp [Go.Sort.putRow,Go.Sort.mapBlock,Go.Sort.ahead,Array.getElem?_modify,Ne.symm hkb])
 exact ⟨_,β,Imm,rfl,hp1.trans hp2,by simp [AVV,PVV,PVVl],by simp [refsLt]⟩
end Go.Abs
namespace Go.Abs
abbrev Memo:=List (List Nat × Bool)
def memoGet:Memo → List Nat → Option Bool
 | [],_=>none
 | (a,b) :: r,k=>if a = k then some b else memoGet r k
def memoSet:Memo → List Nat → Bool → Memo
 | [],k,b=>[(k,b)]
 | (a,c) :: r,k,b=>if a = k then (a,b) :: r else (a,c) :: memoSet r k b
theorem memoGet_set (k j:List Nat) (b:Bool):∀ m:Memo,memoGet (memoSet m k b) j = if k = j then some b else memoGet m j
 | []=>by simp [memoSet,memoGet]
 | (a,c) :: r=>by
  have ih:=memoGet_set k j b r
  by_cases h:a = k
  · subst h
    by_cases h2:a = j <;> simp [memoSet,memoGet,h2]
  · by_cases h2:a = j
    · subst h2
      have h3:¬ k = a:=fun e=>h e.symm
      simp [memoSet,memoGet,h,h3]
    · simp [memoSet,memoGet,h,h2,ih]
def parsOf (h:List VerD) (k:List Nat):List (List Nat):=((verAt h k).map (·.parents)).getD []
def lev (h:List VerD) (k:List Nat):Int:=((verAt h k).map (·.level)).getD 0
def memoF (h:List VerD):Nat → Memo → List Nat → Memo × Bool
 | 0,m,_=>(m,false)
 | f + 1,m,k=>match memoGet m k with
  | some b=>(m,b)
  | none =>
   let r:=(parsOf h k).foldl (fun (s:Memo × Bool) p=>if s.2 = true then memoF h f s.1 p else s) (m,(verAt h k).isSome)
   (memoSet r.1 k r.2,r.2)
def MemoOk (h:List VerD) (m:Memo):Prop:=∀ k b,memoGet m k = some b → b = wholeS h k
theorem memoOk_nil {h:List VerD}:MemoOk h []:=fun k b hb=>by simp [memoGet] at hb
theorem memoOk_set {h:List VerD} {m:Memo} {k:List Nat} {b:Bool} (hm:MemoOk h m) (hb:b = wholeS h k):MemoOk h (memoSet m k b):=by
 intro j c hj
 rw [memoGet_set] at hj
 by_cases h1:k = j
 · subst h1; rw [if_pos rfl] at hj; cases hj; exact hb
 · rw [if_neg h1] at hj; exact hm j c hj
theorem par_level {h:List VerD} (ok:HistOk h) {k p:List Nat} {v x:VerD} (hv:verAt h k = some v) (hp:p ∈ v.parents) (hx:verAt h p = some x):x.level < v.level :=
 lvlBad_false ok.up (verAt_mem hv).1 hp hx
theorem memoF_ok {h:List VerD} (ok:HistOk h):∀ (f:Nat) (m:Memo) (k:List Nat),MemoOk h m → (∀ v,verAt h k = some v → v.level ≤ f) → MemoOk h (memoF h (f + 1) m k).1 ∧ (memoF h (f + 1) m k).2 = wholeS h k:=by
 intro f
 induction f with
 | zero =>
  intro m k hm hl
  have hn:verAt h k = none:=by
   cases hv:verAt h k with
   | none=>rfl
   | some v =>
    have h1:=hl v hv
    have h2:=(ok.lev v (verAt_mem hv).1).1
    simp at h1
    omega
  have hw:wholeS h k = false:=by rw [whole_eq ok,hn]; rfl
  rw [memoF]
  cases hg:memoGet m k with
  | some b=>exact ⟨hm,hm k b hg⟩
  | none =>
   simp only [parsOf,hn,Option.map_none,Option.getD_none,List.foldl_nil,Option.isSome_none]
   exact ⟨memoOk_set hm hw.symm,hw.symm⟩
 | succ f ih =>
  intro m k hm hl
  rw [memoF]
  cases hg:memoGet m k with
  | some b=>exact ⟨hm,hm k b hg⟩
  | none =>
   simp only []
   have key : ∀ (ps : List (List Nat)) (m : Memo) (b : Bool), MemoOk h m → (∀ p ∈ ps, ∀ x, verAt h p = some x → x.level ≤ f) →
       MemoOk h (ps.foldl (fun (s:Memo × Bool) p=>if s.2 = true then memoF h (f + 1) s.1 p else s) (m,b)).1 ∧ (ps.foldl (fun (s:Memo × Bool) p=>if s.2 = true then memoF h (f + 1) s.1 p else s) (m,b)).2 = (b && ps.all (wholeS h)):=by
    intro ps
    induction ps with
    | nil=>intro m b hm _; simpa using hm
    | cons p ps ih2 =>
     intro m b hm hp
     cases b with
     | false =>
      rw [List.foldl_cons]
      have:=ih2 m false hm (fun q hq=>hp q (List.mem_cons_of_mem _ hq))
      simpa using this
     | true =>
      rw [List.foldl_cons]
      obtain ⟨a1,a2⟩:=ih m p hm (hp p List.mem_cons_self)
      have:=ih2 (memoF h (f + 1) m p).1 (memoF h (f + 1) m p).2 a1 (fun q hq=>hp q (List.mem_cons_of_mem _ hq))
      simp only [if_true]
      rw [List.all_cons,← a2]
      simpa using this
   have hk:MemoOk h ((parsOf h k).foldl (fun (s:Memo × Bool) p=>if s.2 = true then memoF h (f + 1) s.1 p else s) (m,(verAt h k).isSome)).1 ∧ ((parsOf h k).foldl (fun (s:Memo × Bool) p=>if s.2 = true then memoF h (f + 1) s.1 p else s) (m,(verAt h k).isSome)).2 = wholeS h k:=by
    cases hv:verAt h k with
    | none =>
     have:=key [] m false hm (fun p hp=>by simp at hp)
     simp only [parsOf,hv,Option.map_none,Option.getD_none,Option.isSome_none]
     rw [whole_eq ok,hv]
     simpa using this
    | some v =>
     have:=key v.parents m true hm (fun p hp x hx=>by
      have h1:=par_level ok hv hp hx
      have h2:=hl v hv
      push_cast at h2
      omega)
     simp only [parsOf,hv,Option.map_some,Option.getD_some,Option.isSome_some]
     rw [whole_eq ok,hv]
     simpa using this
   exact ⟨memoOk_set hk.1 hk.2,hk.2⟩
def visM (h:List VerD):Nat → List (List Nat) → List Nat → List (List Nat)
 | 0,m,_=>m
 | f + 1,m,k=>if k ∈ m then m else (parsOf h k).foldl (visM h f) (m ++ [k])
theorem anc_iff {h:List VerD} (ok:HistOk h) (k a:List Nat):ancS h k a = true ↔ k = a ∨ ∃ p ∈ parsOf h k,ancS h p a = true:=by
 rw [anc_eq ok]
 cases hv:verAt h k with
 | none=>simp [parsOf,hv]
 | some v=>simp [parsOf,hv]
theorem lev_par {h:List VerD} (ok:HistOk h) {k p:List Nat} (hp:p ∈ parsOf h k):lev h p < lev h k:=by
 cases hv:verAt h k with
 | none=>simp [parsOf,hv] at hp
 | some v =>
  simp only [parsOf,hv,Option.map_some,Option.getD_some] at hp
  have h1:=(ok.lev v (verAt_mem hv).1).1
  cases hx:verAt h p with
  | none=>simp [lev,hv,hx]; omega
  | some x =>
   have:=par_level ok hv hp hx
   simpa [lev,hv,hx] using this
theorem visM_mem {h : List VerD} (ok : HistOk h) : ∀ (f : Nat) (m : List (List Nat)) (k : List Nat), lev h k ≤ f →
    (∀ x ∈ m,(∀ a,ancS h x a = true → a ∈ m) ∨ lev h k < lev h x) → ∀ a,a ∈ visM h (f + 1) m k ↔ a ∈ m ∨ ancS h k a = true:=by
 intro f
 induction f with
 | zero =>
  intro m k hl hc a
  have hn:parsOf h k = []:=by
   cases hp:parsOf h k with
   | nil=>rfl
   | cons p r =>
    have h1:=lev_par ok (k:=k) (p:=p) (by rw [hp]; exact List.mem_cons_self)
    have h2:0 ≤ lev h p:=by
     cases hx:verAt h p with
     | none=>simp [lev,hx]
     | some x=>have:=(ok.lev x (verAt_mem hx).1).1; simp [lev,hx]; omega
    simp at hl; omega
  rw [visM,hn,anc_iff ok,hn]
  by_cases hk:k ∈ m
  · rw [if_pos hk]
    constructor
    · exact .inl
    · rintro (h1 | h1 | ⟨p,hp,_⟩)
      · exact h1
      · exact h1 ▸ hk
      · simp at hp
  · rw [if_neg hk]
    simp only [List.foldl_nil,List.mem_append,List.mem_singleton,List.not_mem_nil,false_and,exists_false,or_false]
    constructor
    · rintro (h1 | h1)
      · exact .inl h1
      · exact .inr h1.symm
    · rintro (h1 | h1)
      · exact .inl h1
      · exact .inr h1.symm
 | succ f ih =>
  intro m k hl hc a
  rw [visM]
  by_cases hk:k ∈ m
  · rw [if_pos hk]
    refine ⟨.inl,?_⟩
    rintro (h1 | h1)
    · exact h1
    · rcases hc k hk with h2 | h2
      · exact h2 a h1
      · omega
  · rw [if_neg hk]
    have key : ∀ (ps : List (List Nat)) (m' : List (List Nat)), (∀ p ∈ ps, lev h p < lev h k) → (∀ x ∈ m', (∀ a, ancS h x a = true → a ∈ m') ∨ lev h k ≤ lev h x) →
        ∀ a,a ∈ ps.foldl (visM h (f + 1)) m' ↔ a ∈ m' ∨ ∃ p ∈ ps,ancS h p a = true:=by
     intro ps
     induction ps with
     | nil=>intro m' _ _ a; simp
     | cons p ps ih2 =>
      intro m' hp hm' a
      have hlp:=hp p List.mem_cons_self
      have hv:=ih m' p (by push_cast at hl; omega) (fun x hx=>by
       rcases hm' x hx with h1 | h1
       · exact .inl h1
       · exact .inr (by omega))
      rw [List.foldl_cons,ih2 (visM h (f + 1) m' p) (fun q hq=>hp q (List.mem_cons_of_mem _ hq)) (fun x hx=>by
       rcases (hv x).1 hx with h1 | h1
       · rcases hm' x h1 with h2 | h2
         · exact .inl fun b hb=>(hv b).2 (.inl (h2 b hb))
         · exact .inr h2
       · exact .inl fun b hb=>(hv b).2 (.inr (anc_trans ok h1 hb))),hv]
      simp only [List.mem_cons,exists_eq_or_imp,or_assoc]
    rw [key (parsOf h k) (m ++ [k]) (fun p hp=>lev_par ok hp) (fun x hx=>by
     rcases List.mem_append.1 hx with h1 | h1
     · rcases hc x h1 with h2 | h2
       · exact .inl fun b hb=>List.mem_append_left _ (h2 b hb)
       · exact .inr (by omega)
     · rw [List.mem_singleton] at h1; subst h1; exact .inr (Int.le_refl _)),anc_iff ok,List.mem_append,List.mem_singleton,or_assoc]
    constructor
    · rintro (h1 | h1 | h1)
      · exact .inl h1
      · exact .inr (.inl h1.symm)
      · exact .inr (.inr h1)
    · rintro (h1 | h1 | h1)
      · exact .inl h1
      · exact .inr (.inl h1.symm)
      · exact .inr (.inr h1)
theorem lev_le {h:List VerD} (ok:HistOk h) (k:List Nat):lev h k ≤ 256:=by
 cases hx:verAt h k with
 | none=>simp [lev,hx]
 | some x=>have:=(ok.lev x (verAt_mem hx).1).2; simp [lev,hx]; omega
def ancM (h:List VerD) (k:List Nat):List (List Nat):=visM h 257 [] k
theorem ancM_mem {h:List VerD} (ok:HistOk h) (k a:List Nat):a ∈ ancM h k ↔ ancS h k a = true:=by
 rw [ancM,visM_mem ok 256 [] k (lev_le ok k) (fun x hx=>by simp at hx)]
 simp
end Go.Abs
namespace Go.Abs
open Go.Proofs
set_option maxHeartbeats 4000000
set_option maxRecDepth 100000
def memoE (m:Memo):List (PV × PV):=m.map fun p=>(.str p.1,.bool p.2)
theorem look_memo (k:List Nat):∀ m:Memo,lookupM (memoE m) (.str k) = some ((memoGet m k).map .bool)
 | []=>by simp [memoE,lookupM,memoGet]
 | (a,b) :: r=>by
  have ih:=look_memo k r
  simp only [memoE,List.map_cons,lookupM,eqP,memoGet] at ih ⊢
  by_cases h:k = a
  · subst h; simp
  · have hb:(k == a) = false:=by simpa using h
    have h':¬ a = k:=fun e=>h e.symm
    rw [hb,if_neg h']
    simp only [ih]
theorem upd_memo (k:List Nat) (b:Bool):∀ m:Memo,updateM (memoE m) (.str k) (.bool b) = memoE (memoSet m k b)
 | []=>by simp [memoE,updateM,memoSet]
 | (a,c) :: r=>by
  have ih:=upd_memo k b r
  by_cases h:k = a
  · subst h; simp [memoE,updateM,eqP,memoSet]
  · have hb:(k == a) = false:=by simpa using h
    have h':¬ a = k:=fun e=>h e.symm
    simp only [memoE,List.map_cons,updateM,eqP,memoSet,hb,h',if_false] at ih ⊢
    simp [ih]
def gBox (h:List VerD):Obj:=.box false (.st 297 [.p (eHist h),.map 1])
def gHeap (h:List VerD) (m:Memo):Heap:=[gBox h,.map false (memoE m)]
theorem parsOf_get (h:List VerD) (k:List Nat):((verAt h k).getD zVer).parents = parsOf h k:=by
 cases hv:verAt h k <;> simp [parsOf,hv,zVer]
def foldW (h:List VerD) (f:Nat) (s:Memo × Bool) (p:List Nat):Memo × Bool:=if s.2 = true then memoF h f s.1 p else s
theorem foldl_take {α β:Type} (f:α → β → α) (a:α) {l:List β} {i:Nat} (hi:i < l.length):(l.take (i + 1)).foldl f a = f ((l.take i).foldl f a) l[i]:=by
 rw [List.take_succ_eq_append_getElem hi,List.foldl_append]; rfl
theorem memoF_some {h:List VerD} {f:Nat} {m:Memo} {k:List Nat} {b:Bool} (hg:memoGet m k = some b):memoF h (f + 1) m k = (m,b):=by
 rw [memoF,hg]
theorem memoF_none {h : List VerD} {f : Nat} {m : Memo} {k : List Nat} (hg : memoGet m k = none) :
    memoF h (f + 1) m k = (memoSet ((parsOf h k).foldl (foldW h f) (m,(verAt h k).isSome)).1 k ((parsOf h k).foldl (foldW h f) (m,(verAt h k).isSome)).2,((parsOf h k).foldl (foldW h f) (m,(verAt h k).isSome)).2):=by
 rw [memoF,hg]; rfl
theorem lev_nonneg {h:List VerD} (ok:HistOk h) (k:List Nat):0 ≤ lev h k:=by
 cases hx:verAt h k with
 | none=>simp [lev,hx]
 | some x=>have:=(ok.lev x (verAt_mem hx).1).1; simp [lev,hx]; omega
theorem pars_len {h:List VerD} (ok:HistOk h) (k:List Nat):(parsOf h k).length ≤ 2:=by
 cases hv:verAt h k with
 | none=>simp [parsOf,hv]
 | some v=>have:=ok.par v (verAt_mem hv).1; simpa [parsOf,hv] using this
theorem g_whole (h : List VerD) (ok : HistOk h) : ∀ (f : Nat) (m : Memo) (k : List Nat), lev h k ≤ f →
    GoodI Tryz.prog 165 (gHeap h m) [.ptr 0 [],.p (.str k)] (gHeap h (memoF h (f + 1) m k).1) (.p (.bool (memoF h (f + 1) m k).2)):=by
 intro f
 induction f using Nat.strongRecOn with
 | _ f ih =>
  intro m k hl
  refine goodI_fn nf isF165 mix (by simp [Tryz.f165]) ?_
  have hlen:h.length ≤ 1048576:=by have:=ok.len; omega
  cases hg:memoGet m k with
  | some b =>
   rw [memoF_some hg]
   simp [Tryz.f165,gHeap,gBox,look_memo,hg]
  | none =>
   rw [memoF_none hg]
   have hpl:=pars_len ok k
   have hV:=parsOf_get h k
   simp [Tryz.f165,gHeap,gBox,look_memo,hg]
   refine c2 (c_findV h k ok.asc hlen) ?_
   generalize (verAt h k).getD zVer = V at *
   have hE:=eVer_eq V
   rw [hV] at hE
   generalize (verAt h k).isSome = is0 at *
   simp [hE]
   refine lp (α:=Nat) (fun i=>⟨[(37,.p (.int .i64 i)),(36,.p (.int .i64 (parsOf h k).length)),(35,.p (.seq ((parsOf h k).map .str))),(9,.func 165 [.ptr 0 []] []),(8,.p (.bool (((parsOf h k).take i).foldl (foldW h f) (m,is0)).2)),(0,.ptr 0 []),(1,.p (.str k))],
    [.box false (.st 297 [.p (eHist h),.map 1]),.map false (memoE (((parsOf h k).take i).foldl (foldW h f) (m,is0)).1),.box false (.p (eVer V))]⟩) (fun i=>i ≤ (parsOf h k).length) (fun i=>(parsOf h k).length - i) 0 (by simp) ?_ (he:=by simp) (hh:=by simp [hE]) (hr:=by simp) (hr2:=by simp)
   rintro i k1
   have hw:=wi1 (i:=i) (by omega)
   by_cases hi:i < (parsOf h k).length
   · have hf:=foldl_take (foldW h f) (m,is0) hi
     have hlp:=lev_par ok (List.getElem_mem hi)
     have hnn:=lev_nonneg ok (parsOf h k)[i]
     obtain ⟨g,rfl⟩:∃ g,f = g + 1:=⟨f - 1,by omega⟩
     generalize ((parsOf h k).take i).foldl (foldW h (g + 1)) (m,is0) = S at *
     obtain ⟨M,b⟩:=S
     have hI:=ih g (by omega) M (parsOf h k)[i] (by push_cast at hl; omega)
     rw [foldW] at hf
     cases b with
     | false =>
      simp at hf
      simp [hi,hw]
      exact rd (i + 1) hi (hn:=by simp [hf]) (he:=by simp [hf]) (hh:=by simp [hf])
     | true =>
      simp only [if_true] at hf
      simp [hi]
      simp only [gHeap,gBox] at hI
      refine cf hI [0,1] ?_
      simp [hw,sig]
      exact rd (i + 1) hi (hn:=by simp [hf]) (he:=by simp [hf]) (hh:=by simp [hf])
   · have:i = (parsOf h k).length:=by omega
     subst this
     simp [upd_memo,look_memo]
     refine ForgetN.og (by simp) (by simp) (by simp) (by simp) (by simp)
def knowW (h:List VerD) (m:Memo) (k:List Nat):Memo:=(memoF h 257 m k).1
theorem knowW_ok {h:List VerD} (ok:HistOk h) {m:Memo} {k:List Nat} (hm:MemoOk h m):MemoOk h (knowW h m k) ∧ (memoF h 257 m k).2 = wholeS h k :=
 memoF_ok ok 256 m k hm fun v hv=>by have:=(ok.lev v (verAt_mem hv).1).2; omega
theorem g_wholeS {h : List VerD} (ok : HistOk h) {m : Memo} (hm : MemoOk h m) (k : List Nat) :
    GoodI Tryz.prog 165 [.box false (.st 297 [.p (eHist h),.map 1]),.map false (memoE m)] [.ptr 0 [],.p (.str k)] [.box false (.st 297 [.p (eHist h),.map 1]),.map false (memoE (knowW h m k))] (.p (.bool (wholeS h k))):=by
 have:=g_whole h ok 256 m k (lev_le ok k)
 rw [(knowW_ok ok hm).2] at this
 exact this
end Go.Abs
namespace Go.Abs
open Go.Proofs
set_option maxHeartbeats 4000000
set_option maxRecDepth 100000
def visH (h:List VerD) (m:Memo) (l:List (List Nat)):Heap :=
 [.box false (.st 297 [.p (eHist h),.map 1]),.map false (memoE m),.box false (.ptr 0 []),.map false (seenE l),.box false (.map 3),.box false (.func 199 [] [.ptr 4 [],.ptr 2 [],.ptr 5 []])]
theorem visM_in {h:List VerD} {f:Nat} {l:List (List Nat)} {k:List Nat} (hk:k ∈ l):visM h (f + 1) l k = l:=by rw [visM,if_pos hk]
theorem visM_out {h:List VerD} {f:Nat} {l:List (List Nat)} {k:List Nat} (hk:k ∉ l):visM h (f + 1) l k = (parsOf h k).foldl (visM h f) (l ++ [k]):=by rw [visM,if_neg hk]
theorem g_visit (h : List VerD) (ok : HistOk h) (m : Memo) : ∀ (f : Nat) (l : List (List Nat)) (k : List Nat), lev h k ≤ f →
    GoodI Tryz.prog 199 (visH h m l) [.p (.str k),.ptr 4 [],.ptr 2 [],.ptr 5 []] (visH h m (visM h (f + 1) l k)) (.p (.tup [])):=by
 intro f
 induction f using Nat.strongRecOn with
 | _ f ih =>
  intro l k hl
  refine goodI_fn nf isF199 mix (by simp [Tryz.f199]) ?_
  have hlen:h.length ≤ 1048576:=by have:=ok.len; omega
  by_cases hk:k ∈ l
  · rw [visM_in hk]
    simp [Tryz.f199,visH,look_seen,hk]
  · rw [visM_out hk]
    have hu:=upd_seen k l (by simpa using hk)
    have hpl:=pars_len ok k
    have hV:=parsOf_get h k
    simp [Tryz.f199,visH,look_seen,hk,hu]
    refine c2 (c_findV h k ok.asc hlen) ?_
    generalize (verAt h k).getD zVer = V at *
    have hE:=eVer_eq V
    rw [hV] at hE
    generalize (verAt h k).isSome = is0 at *
    simp [hE]
    refine lp (α:=Nat) (fun i=>⟨[(26,.p (.int .i64 i)),(25,.p (.int .i64 (parsOf h k).length)),(24,.p (.seq ((parsOf h k).map .str))),(3,.ptr 5 [])],
     visH h m (((parsOf h k).take i).foldl (visM h f) (l ++ [k])) ++ [.box false (.p (eVer V))]⟩) (fun i=>i ≤ (parsOf h k).length) (fun i=>(parsOf h k).length - i) 0 (by simp) ?_ (hn:=by simp [visH]) (he:=by simp) (hh:=by simp [hE,visH]) (hr:=by simp [visH]) (hr2:=by simp [visH])
    rintro i k1
    have hw:=wi1 (i:=i) (by omega)
    by_cases hi:i < (parsOf h k).length
    · have hf:=foldl_take (visM h f) (l ++ [k]) hi
      have hlp:=lev_par ok (List.getElem_mem hi)
      have hnn:=lev_nonneg ok (parsOf h k)[i]
      obtain ⟨g,rfl⟩:∃ g,f = g + 1:=⟨f - 1,by omega⟩
      generalize ((parsOf h k).take i).foldl (visM h (g + 1)) (l ++ [k]) = S at *
      have hI:=ih g (by omega) S (parsOf h k)[i] (by push_cast at hl; omega)
      simp only [visH] at hI
      simp [hi,visH]
      refine cf hI [0,1,2,3,4,5] ?_
      simp [hw,sig]
      exact rd (i + 1) hi (hn:=by simp [hf,visH]) (he:=by simp [hf]) (hh:=by simp [hf,visH]) (hr:=by simp [visH]) (hr2:=by simp [visH])
    · have:i = (parsOf h k).length:=by omega
      subst this
      simp [visH]
      refine ForgetN.og (by simp) (by simp) (by simp) (by simp) (by simp)
theorem g_ancestors {h : List VerD} (ok : HistOk h) (m : Memo) (k : List Nat) :
    GoodI Tryz.prog 125 [.box false (.st 297 [.p (eHist h),.map 1]),.map false (memoE m)] [.ptr 0 [],.p (.str k)] [.box false (.st 297 [.p (eHist h),.map 1]),.map false (memoE m),.hole,.map false (seenE (ancM h k))] (.map 3):=by
 refine goodI_fn nf isF125 mix (by simp [Tryz.f125]) ?_
 have hI:=g_visit h ok m 256 [] k (lev_le ok k)
 simp only [visH] at hI
 simp [Tryz.f125]
 refine cf hI [0,1,2,3,4,5] ?_ (hin:=by simp [sig,seenE])
 simp [sig]
 refine ForgetN.og (by simp) (by simp) (by simp [ancM]) (by simp) (by simp)
end Go.Abs
namespace Go.Abs
open Go.Proofs
set_option maxHeartbeats 4000000
set_option maxRecDepth 100000
def nameE (h:List VerD) (k:List Nat):Int:=firstE [whenE (!(verAt h k).isSome) 10,whenE (!wholeS h k) 24]
def namesE (h:List VerD):List (List Nat) → Int
 | []=>0
 | k :: r=>if nameE h k = 0 then namesE h r else nameE h k
def openE (h:List VerD) (l:List (List Nat)):Int:=firstE [chkHist h,namesE h l]
def memoL (h:List VerD) (l:List (List Nat)):Memo:=l.foldl (knowW h) []
theorem memoL_ok {h:List VerD} (ok:HistOk h) (l:List (List Nat)):MemoOk h (memoL h l):=by
 have:∀ (l:List (List Nat)) (m:Memo),MemoOk h m → MemoOk h (l.foldl (knowW h) m):=by
  intro l
  induction l with
  | nil=>intro m hm; exact hm
  | cons k r ih=>intro m hm; exact ih _ (knowW_ok ok hm).1
 exact this l [] memoOk_nil
theorem namesE_drop {h:List VerD} {l:List (List Nat)} {i:Nat} (hi:i < l.length):namesE h (l.drop i) = if nameE h l[i] = 0 then namesE h (l.drop (i + 1)) else nameE h l[i]:=by
 rw [List.drop_eq_getElem_cons hi,namesE]
theorem c_openErr (h : List VerD) (hb : histB h) (l : List (List Nat)) (hl : l.length ≤ 1000) (he : openE h l ≠ 0) :
    GoodC Tryz.prog 124 [eHist h,.seq (l.map .str)] (.tup [.nptr,.int .i64 (openE h l)]):=by
 refine good_fn nf isF124 mix (by simp [Tryz.f124]) ?_
 simp [Tryz.f124]
 refine c1 (c_checkHistory h hb) ?_
 by_cases hz:chkHist h = 0
 · have ok:=histOk hz
   have hlen:h.length ≤ 1048576:=by have:=ok.len; omega
   have e0:openE h l = namesE h l:=by rw [openE,hz]; simp [firstE]; exact fun h=>h.symm
   rw [e0] at he ⊢
   simp [hz]
   refine lp (α:=Nat) (fun i=>⟨[(24,.p (.int .i64 i)),(23,.p (.int .i64 l.length)),(22,.p (.seq (l.map .str))),(7,.ptr 2 []),(2,.ptr 0 [])],[.box false (.p (eHist h)),.map false (memoE (memoL h (l.take i))),.box false (.st 297 [.p (eHist h),.map 1])]⟩) (fun i=>i ≤ l.length ∧ namesE h l = namesE h (l.drop i)) (fun i=>l.length - i) 0 (by simp) ?_ (hh:=by simp [memoL,memoE])
   rintro i ⟨k1,k2⟩
   have hw:=wi1 (i:=i) (by omega)
   by_cases hi:i < l.length
   · have hf:memoL h (l.take (i + 1)) = knowW h (memoL h (l.take i)) l[i]:=foldl_take (knowW h) [] hi
     have hmo:=memoL_ok ok (l.take i)
     rw [namesE_drop hi] at k2
     have hI:=g_wholeS ok hmo l[i]
     simp [hi]
     refine c2 (c_findV h l[i] ok.asc hlen) ?_
     simp
     refine c2 (c_when (!(verAt h l[i]).isSome) 10) ?_
     simp
     refine cf hI [2,1] ?_
     simp [sig]
     refine c2 (c_when (!wholeS h l[i]) 24) ?_
     simp
     refine cp (h1:=?g1) (c_first [whenE (!(verAt h l[i]).isSome) 10,whenE (!wholeS h l[i]) 24] (by simp)) (by simp; exact ⟨rfl,rfl⟩) ?_
     case g1=>simp
     rw [← nameE]
     by_cases hn:nameE h l[i] = 0
     · rw [if_pos hn] at k2
       simp [hn,hw]
       exact rd (i + 1) ⟨hi,k2⟩ (hh:=by simp [hf])
     · rw [if_neg hn] at k2
       simp [hn,k2]
   · have:i = l.length:=by omega
     subst this
     rw [List.drop_length] at k2
     exact absurd k2 (by simpa [namesE] using he)
 · have e0:openE h l = chkHist h:=by rw [openE]; simp [firstE,hz]
   rw [e0]
   simp [hz]
theorem g_open0 (h : List VerD) (hb : histB h) (he : chkHist h = 0) :
    GoodI Tryz.prog 124 [] [.p (eHist h),.p .nsl] [.hole,.map false (memoE []),.box false (.st 297 [.p (eHist h),.map 1])] (.tup [.ptr 2 [],.p (.int .i64 0)]):=by
 refine goodI_fn nf isF124 mix (by simp [Tryz.f124]) ?_
 simp [Tryz.f124]
 refine c1 (c_checkHistory h hb) ?_
 simp [he]
 refine lp (α:=Nat) (fun _=>⟨[(24,.p (.int .i64 0)),(23,.p (.int .i64 0)),(7,.ptr 2 [])],[.hole,.map false (memoE []),.box false (.st 297 [.p (eHist h),.map 1])]⟩) (fun i=>i = 0) (fun i=>0) 0 (by simp) ?_ (hh:=by simp [memoE])
 rintro i rfl
 simp
theorem g_openN (h : List VerD) (hb : histB h) (l : List (List Nat)) (hl : l.length ≤ 1000) (v : Nat) (he : openE h l = 0) :
    GoodI Tryz.prog 124 [.arr .exact v 1 (l.map (AV.p ∘ PV.str))] [.p (eHist h),.sl 0 v 1 0 l.length] [.arr .exact v 1 (l.map (AV.p ∘ PV.str)),.hole,.map false (memoE (memoL h l)),.box false (.st 297 [.p (eHist h),.map 2])] (.tup [.ptr 3 [],.p (.int .i64 0)]):=by
 refine goodI_fn nf isF124 mix (by simp [Tryz.f124]) ?_
 rw [openE,firstE_zero] at he
 have hz:=he _ List.mem_cons_self
 have he2:=he _ (List.mem_cons_of_mem _ List.mem_cons_self)
 have ok:=histOk hz
 have hlen:h.length ≤ 1048576:=by have:=ok.len; omega
 simp [Tryz.f124]
 refine c1 (c_checkHistory h hb) ?_
 simp [hz]
 refine lp (α:=Nat) (fun i=>⟨[(24,.p (.int .i64 i)),(23,.p (.int .i64 l.length)),(22,.sl 0 v 1 0 l.length),(7,.ptr 3 []),(2,.ptr 1 [])],[.arr .exact v 1 (l.map (AV.p ∘ PV.str)),.box false (.p (eHist h)),.map false (memoE (memoL h (l.take i))),.box false (.st 297 [.p (eHist h),.map 2])]⟩) (fun i=>i ≤ l.length ∧ namesE h (l.drop i) = 0) (fun i=>l.length - i) 0 (by simpa using he2) ?_ (hh:=by simp [memoL,memoE])
 rintro i ⟨k1,k2⟩
 have hw:=wi1 (i:=i) (by omega)
 by_cases hi:i < l.length
 · have hf:memoL h (l.take (i + 1)) = knowW h (memoL h (l.take i)) l[i]:=foldl_take (knowW h) [] hi
   have hmo:=memoL_ok ok (l.take i)
   rw [namesE_drop hi] at k2
   have hn:nameE h l[i] = 0:=by
    by_cases hn:nameE h l[i] = 0
    · exact hn
    · rw [if_neg hn] at k2; exact k2
   rw [if_pos hn] at k2
   have hI:=g_wholeS ok hmo l[i]
   simp [hi]
   refine c2 (c_findV h l[i] ok.asc hlen) ?_
   simp
   refine c2 (c_when (!(verAt h l[i]).isSome) 10) ?_
   simp
   refine cf hI [3,2] ?_
   simp [sig]
   refine c2 (c_when (!wholeS h l[i]) 24) ?_
   simp
   refine cp (h1:=?g1) (c_first [whenE (!(verAt h l[i]).isSome) 10,whenE (!wholeS h l[i]) 24] (by simp)) (by simp; exact ⟨rfl,rfl⟩) ?_
   case g1=>simp
   rw [← nameE]
   simp [hn,hw]
   exact rd (i + 1) ⟨hi,k2⟩ (hh:=by simp [hf])
 · have:i = l.length:=by omega
   subst this
   simp
   refine ForgetN.og (by simp) (by simp) (by simp) (by simp) (by simp)
end Go.Abs
namespace Go.Abs
open Go.Proofs
set_option maxHeartbeats 4000000
set_option maxRecDepth 100000
theorem openE_nil (h:List VerD):openE h [] = chkHist h:=by simp [openE,namesE,firstE]; exact fun h=>h.symm
theorem names_take (h:List VerD) (p:VerD → Bool) {i:Nat} (hi:i < h.length):namesV ((h.take (i + 1)).filter p) = namesV ((h.take i).filter p) ++ (if p h[i] = true then [h[i].name] else []):=by
 rw [List.take_succ_eq_append_getElem hi,List.filter_append,namesV,List.map_append]
 cases hp:p h[i] <;> simp [hp,namesV]
theorem names_lt (h:List VerD) (p:VerD → Bool) (i:Nat):(namesV ((h.take i).filter p)).length ≤ i:=by
 have:=List.length_filter_le p (h.take i)
 simp only [namesV,List.length_map,List.length_take] at *
 omega
def parUp (h:List VerD) (i:Nat) (q:List Nat):Bool:=(h.take i).any fun u=>wholeS h u.name && decide (q ∈ u.parents)
theorem parUp_succ (h:List VerD) {i:Nat} (hi:i < h.length) (q:List Nat):parUp h (i + 1) q = (parUp h i q || (wholeS h h[i].name && decide (q ∈ h[i].parents))):=by
 rw [parUp,List.take_succ_eq_append_getElem hi,List.any_append]; simp [parUp]
theorem memo_cases (m:Memo) (k:List Nat):((memoGet m k = none ∨ memoGet m k = some false) ∧ (memoGet m k).getD false = false) ∨ (memoGet m k = some true ∧ (memoGet m k).getD false = true):=by
 cases h:memoGet m k with
 | none=>simp
 | some b=>cases b <;> simp
def headE (h:List VerD):List (List Nat):=if chkHist h ≠ 0 then [] else headsL h
theorem c_heads (h:List VerD) (hb:histB h):GoodC Tryz.prog 67 [eHist h] (.tup [.seq ((headE h).map .str),.int .i64 (chkHist h)]):=by
 refine good_fn nf isF67 mix (by simp [Tryz.f67]) ?_
 by_cases hz:¬ chkHist h = 0
 · have hc:=c_openErr h hb [] (by simp) (by rw [openE_nil]; exact hz)
   rw [openE_nil] at hc
   simp [Tryz.f67]
   refine c2 hc ?_
   simp [hz,headE]
   try rfl
 replace hz:chkHist h = 0:=by simpa using hz
 have ok:=histOk hz
 have hlen:h.length ≤ 256:=ok.len
 simp [Tryz.f67]
 refine cn2 (g_open0 h hb hz) ?_
 simp [hz,headE,eHist]
 refine lp (α:=Nat × Memo × Memo) (fun (i,M,Q)=>⟨[(26,.p (.int .i64 i)),(25,.p (.int .i64 h.length)),(24,.p (.seq (h.map eVer))),(6,.map 4),(4,.ptr 3 []),(1,.ptr 0 [])],[.box false (.p (eHist h)),.hole,.map false (memoE M),.box false (.st 297 [.p (eHist h),.map 2]),.map false (memoE Q)]⟩)
  (fun (i,M,Q)=>i ≤ h.length ∧ MemoOk h M ∧ ∀ q,(memoGet Q q).getD false = parUp h i q) (fun (i,_)=>h.length - i) (0,[],[]) ⟨by simp,memoOk_nil,by simp [memoGet,parUp]⟩ ?_ (he:=by simp) (hh:=by simp [memoE,eHist])
 rintro ⟨i,M,Q⟩ ⟨k1,k2,k3⟩
 dsimp only at k1 k2 k3 ⊢
 have hw:=wi1 (i:=i) (by omega)
 by_cases hi:i < h.length
 · have hiz:(i:Int) < (h.length:Int):=by omega
   have hE:=eVer_eq h[i]
   have hpl:=ok.par h[i] (List.getElem_mem hi)
   simp [hiz,hi,hE]
   refine lp (α:=Nat × Memo × Memo) (fun (j,M,Q)=>⟨[(33,.p (.int .i64 j)),(32,.p (.int .i64 h[i].parents.length)),(31,.p (.seq (h[i].parents.map .str))),(26,.p (.int .i64 i)),(25,.p (.int .i64 h.length)),(24,.p (.seq (h.map eVer))),(8,.ptr 5 []),(6,.map 4),(4,.ptr 3 []),(1,.ptr 0 [])],[.box false (.p (eHist h)),.hole,.map false (memoE M),.box false (.st 297 [.p (eHist h),.map 2]),.map false (memoE Q),.box false (.p (eVer h[i]))]⟩)
    (fun (j,M,Q)=>j ≤ h[i].parents.length ∧ MemoOk h M ∧ ∀ q,(memoGet Q q).getD false = (parUp h i q || (wholeS h h[i].name && decide (q ∈ h[i].parents.take j)))) (fun (j,_)=>h[i].parents.length - j) (0,M,Q) ⟨by simp,k2,by simpa using k3⟩ ?_ (he:=by simp) (hh:=by simp [hE])
   clear k2 k3
   rintro ⟨j,M,Q⟩ ⟨q1,q2,q3⟩
   dsimp only at q1 q2 q3 ⊢
   have hw2:=wi1 (i:=j) (by omega)
   by_cases hj:j < h[i].parents.length
   · have hjz:(j:Int) < (h[i].parents.length:Int):=by omega
     have ht:∀ q:List Nat,(q ∈ h[i].parents.take (j + 1)) ↔ (q ∈ h[i].parents.take j ∨ q = h[i].parents[j]):=by
      intro q; rw [List.take_succ_eq_append_getElem hj,List.mem_append,List.mem_singleton]
     have hgq:=q3 h[i].parents[j]
     rcases memo_cases Q h[i].parents[j] with ⟨hcs,hg⟩ | ⟨hg,hg'⟩
     · rw [hg] at hgq
       have hI:=g_wholeS ok q2 h[i].name
       have hgo:∀ q,(memoGet (memoSet Q h[i].parents[j] (wholeS h h[i].name)) q).getD false = (parUp h i q || (wholeS h h[i].name && decide (q ∈ h[i].parents.take (j + 1)))):=by
        intro q
        rw [memoGet_set]
        by_cases hq:h[i].parents[j] = q
        · subst hq
          rw [if_pos rfl]
          have hp:parUp h i h[i].parents[j] = false:=by
           cases hp:parUp h i h[i].parents[j] with
           | false=>rfl
           | true=>rw [hp] at hgq; simp at hgq
          simp [hp,ht]
        · rw [if_neg hq,q3 q]
          have:¬ q = h[i].parents[j]:=fun e=>hq e.symm
          simp only [ht,this,or_false]
       rcases hcs with hcs | hcs
       all_goals
        simp [hjz,hj,look_memo,hcs,hE]
        refine cf hI [3,2] ?_
        simp [sig,upd_memo,look_memo,hcs,hw2]
        exact rd (j + 1,knowW h M h[i].name,memoSet Q h[i].parents[j] (wholeS h h[i].name)) ⟨hj,(knowW_ok ok q2).1,hgo⟩ (h1:=by dsimp only; omega) (hh:=by simp [hE])
     · rw [hg'] at hgq
       simp [hjz,hj,look_memo,hg,hE,upd_memo,hw2]
       refine rd (j + 1,M,memoSet Q h[i].parents[j] true) ⟨hj,q2,fun q=>?_⟩ (h1:=by dsimp only; omega) (hh:=by simp [hE])
       rw [memoGet_set]
       by_cases hq:h[i].parents[j] = q
       · subst hq
         rw [if_pos rfl]
         cases hp:parUp h i h[i].parents[j] with
         | true=>simp
         | false =>
          rw [hp] at hgq
          simp at hgq
          simp [hgq.1,ht]
       · rw [if_neg hq,q3 q]
         have:¬ q = h[i].parents[j]:=fun e=>hq e.symm
         simp only [ht,this,or_false]
   · have:j = h[i].parents.length:=by omega
     subst this
     simp [hw]
     exact rd (i + 1,M,Q) ⟨hi,q2,fun q=>by rw [parUp_succ h hi,q3 q,List.take_length]⟩ (h1:=by dsimp only; omega) (hh:=by simp)
 · have:i = h.length:=by omega
   subst this
   have k4:∀ q,(memoGet Q q).getD false = isPar h q:=fun q=>by rw [k3 q,parUp,List.take_length]; rfl
   clear k3
   simp [eHist]
   refine lp (α:=Nat × Memo) (fun (i,M)=>⟨[(53,.p (.int .i64 i)),(52,.p (.int .i64 h.length)),(51,.p (.seq (h.map eVer))),(11,.sl 5 (namesV ((h.take i).filter fun v=>wholeS h v.name && !isPar h v.name)).length 1 0 (namesV ((h.take i).filter fun v=>wholeS h v.name && !isPar h v.name)).length),(6,.map 4),(4,.ptr 3 [])],[.box false (.p (eHist h)),.hole,.map false (memoE M),.box false (.st 297 [.p (eHist h),.map 2]),.map false (memoE Q),.arr .grow (namesV ((h.take i).filter fun v=>wholeS h v.name && !isPar h v.name)).length 1 ((namesV ((h.take i).filter fun v=>wholeS h v.name && !isPar h v.name)).map (AV.p ∘ PV.str))]⟩)
    (fun (i,M)=>i ≤ h.length ∧ MemoOk h M) (fun (i,_)=>h.length - i) (0,M) ⟨by simp,k2⟩ ?_ (he:=by simp [namesV]) (hh:=by simp [namesV,eHist])
   clear k2
   rintro ⟨i,M⟩ ⟨q1,q2⟩
   dsimp only at q1 q2 ⊢
   have hw:=wi1 (i:=i) (by omega)
   have hnl:=names_lt h (fun v=>wholeS h v.name && !isPar h v.name) i
   by_cases hi:i < h.length
   · have hiz:(i:Int) < (h.length:Int):=by omega
     have hE:=eVer_eq h[i]
     have hns:=names_take h (fun v=>wholeS h v.name && !isPar h v.name) hi
     have hI:=g_wholeS ok q2 h[i].name
     generalize namesV ((h.take i).filter fun v=>wholeS h v.name && !isPar h v.name) = L at *
     simp [hiz,hi,hE]
     refine cf hI [3,2] ?_
     cases hwh:wholeS h h[i].name with
     | false =>
      simp [hwh] at hns
      simp [sig,hw]
      exact rd (i + 1,knowW h M h[i].name) ⟨hi,(knowW_ok ok q2).1⟩ (h1:=by dsimp only; omega) (he:=by simp [hns]) (hh:=by simp [hns]) (hr:=by simp [hns]) (hr2:=by simp [hns])
     | true =>
      have hq:=k4 h[i].name
      rcases memo_cases Q h[i].name with ⟨hcs,hg⟩ | ⟨hg,hg'⟩
      · rw [hg] at hq
        simp [hwh,← hq] at hns
        rcases hcs with hcs | hcs
        all_goals
         simp [sig,look_memo,hcs,hw]
         refine ⟨by simp only [maxL]; omega,?_⟩
         exact rd (i + 1,knowW h M h[i].name) ⟨hi,(knowW_ok ok q2).1⟩ (h1:=by dsimp only; omega) (he:=by simp [hns]) (hh:=by simp [hns]) (hr:=by simp [hns]) (hr2:=by simp [hns])
      · rw [hg'] at hq
        simp [hwh,← hq] at hns
        simp [sig,look_memo,hg,hw]
        exact rd (i + 1,knowW h M h[i].name) ⟨hi,(knowW_ok ok q2).1⟩ (h1:=by dsimp only; omega) (he:=by simp [hns]) (hh:=by simp [hns]) (hr:=by simp [hns]) (hr2:=by simp [hns])
   · have:i = h.length:=by omega
     subst this
     simp [headsL,hz]
end Go.Abs
