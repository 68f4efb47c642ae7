import Derived.Test.YthckccalfpnmaaaGreatDoorPC
import Derived.Test.YthckccalfpnmaaaGreatDoorThD
import Derived.Test.YthckccalfpnmaaaGreatDoorThE
import Derived.Test.YthckccalfpnmaaaGreatDoorPB
import Derived.Shelf.Slices.CompactS
import Derived.Shelf.SlSortCmp.WholeK
import Derived.Shelf.SlSortCmp.NoneTotal
import Derived.Test.YthckccalfpnmaaaGreatDoorProg
import Derived.WalkLawsBesides
import Derived.Test.YthckccalfpnmaaaGreatDoorPA
/- Parts of a proof. -/
set_option linter.unusedSimpArgs false
set_option linter.unusedVariables false
set_option linter.unusedSectionVars false
namespace Go.Abs
open Go.Proofs
set_option maxHeartbeats 4000000
set_option maxRecDepth 100000
def atV (h:List VerD) (k:List Nat):Int:=idxFrom (nameIs k) h 0
theorem idx_find (k:List Nat):∀ (h:List VerD) (n:Nat),(verAt h k = none ∧ idxFrom (nameIs k) h n = -1) ∨ ∃ (j:Nat) (hj:j < h.length),idxFrom (nameIs k) h n = ((n + j:Nat):Int) ∧ verAt h k = some h[j]
 | [],n=>.inl ⟨rfl,rfl⟩
 | v :: r,n=>by
  by_cases hv:nameIs k v = true
  · exact .inr ⟨0,by simp,by simp [idxFrom,hv],by simp [verAt,List.find?_cons,hv]⟩
  · have hv:nameIs k v = false:=by simpa using hv
    have e:verAt (v :: r) k = verAt r k:=by simp [verAt,List.find?_cons,hv]
    have e2:idxFrom (nameIs k) (v :: r) n = idxFrom (nameIs k) r (n + 1):=by simp [idxFrom,hv]
    rcases idx_find k r (n + 1) with ⟨h1,h2⟩ | ⟨j,hj,h1,h2⟩
    · exact .inl ⟨by rw [e,h1],by rw [e2,h2]⟩
    · exact .inr ⟨j + 1,by simpa using hj,by rw [e2,h1]; congr 1; omega,by rw [e,h2]; simp⟩
theorem at_find (h:List VerD) (k:List Nat):(verAt h k = none ∧ atV h k = -1) ∨ ∃ (j:Nat) (hj:j < h.length),atV h k = (j:Int) ∧ verAt h k = some h[j]:=by
 rcases idx_find k h 0 with h1 | ⟨j,hj,h1,h2⟩
 · exact .inl h1
 · exact .inr ⟨j,hj,by rw [atV,h1]; congr 1; omega,h2⟩
theorem c_at (h:List VerD) (k:List Nat) (hl:h.length ≤ 1048576):GoodC Tryz.prog 86 [.seq (h.map rVer),.str k] (.int .i64 (atV h k)):=by
 refine good_fn nf isF86 mix (by simp [Tryz.f86]) ?_
 simp [Tryz.f86]
 refine lp (α:=Nat) (fun i=>⟨[(5,.p (.int .i64 i)),(1,.p (.str k)),(0,.p (.seq (h.map rVer)))],[]⟩) (fun i=>i ≤ h.length ∧ atV h k = idxFrom (nameIs k) (h.drop i) i) (fun i=>h.length - i) 0 (by simp [atV]) ?_
 rintro i ⟨k1,k2⟩
 by_cases hi:i < h.length
 · rw [List.drop_eq_getElem_cons hi,idxFrom] at k2
   have hw:=wi1 (i:=i) (by omega)
   have hE:=rVer_eq h[i]
   by_cases hk:h[i].name = k
   · have e:nameIs k h[i] = true:=by simp [nameIs,hk]
     rw [e,if_pos rfl] at k2
     rw [k2]
     simp [hi,hE,hk]
   · have e:nameIs k h[i] = false:=by simp [nameIs,hk]
     rw [e] at k2
     simp [hi,hE,hk,hw]
     exact rd (i + 1) ⟨hi,by simpa using k2⟩
 · have:i = h.length:=by omega
   subst this
   rw [List.drop_length,idxFrom] at k2
   rw [k2]
   simp
theorem c_levels (h:List VerD) (hb:histB h):GoodC Tryz.prog 134 [.seq (h.map rVer)] (.int .i64 (whenE (lvlBad h) 11)):=by
 refine good_fn nf isF134 mix (by simp [Tryz.f134]) ?_
 obtain ⟨b1,b2⟩:=hb
 simp [Tryz.f134]
 refine lp (α:=Nat) (fun i=>⟨[(3,.p (.int .i64 i)),(0,.p (.seq (h.map rVer)))],[]⟩) (fun i=>i ≤ h.length ∧ lvlBad h = (h.drop i).any (badV h)) (fun i=>h.length - i) 0 (by simp [lvlBad_eq]) ?_
 rintro i ⟨k1,k2⟩
 by_cases hi:i < h.length
 · have hE:=rVer_eq h[i]
   have hw:=wi1 (i:=i) (by omega)
   have hpb:=(b2 _ (List.getElem_mem hi)).2.1
   rw [any_dropV _ hi] at k2
   simp [hi]
   refine lp (α:=Nat) (fun j=>⟨[(4,.p (.int .i64 j)),(3,.p (.int .i64 i)),(0,.p (.seq (h.map rVer)))],[]⟩) (fun j=>j ≤ h[i].parents.length ∧ badV h h[i] = (h[i].parents.drop j).any (badP h h[i].level)) (fun j=>h[i].parents.length - j) 0 (by simp [badV]) ?_
   rintro j ⟨q1,q2⟩
   by_cases hj:j < h[i].parents.length
   · have hw2:=wi1 (i:=j) (by omega)
     rw [any_dropV _ hj] at q2
     simp [hi,hj,hE]
     refine c2 (c_at h h[i].parents[j] b1) ?_
     rw [badP] at q2
     rcases at_find h h[i].parents[j] with ⟨hx,ha⟩ | ⟨x,hx,ha,hv⟩
     · rw [hx] at q2
       simp at q2
       simp [ha,hw2]
       exact rd (j + 1) ⟨hj,q2⟩
     · rw [hv] at q2
       by_cases hb:h[i].level ≤ h[x].level
       · simp [hb] at q2
         rw [q2] at k2
         simp at k2
         have hEx:=rVer_eq h[x]
         have hxz:(0:Int) ≤ (x:Int):=by omega
         simp [ha,hi,hx,hE,hEx,hb,k2,whenE,hxz]
       · simp [hb] at q2
         have hEx:=rVer_eq h[x]
         have hxz:(0:Int) ≤ (x:Int):=by omega
         simp [ha,hi,hx,hE,hEx,hb,hw2,hxz]
         exact rd (j + 1) ⟨hj,q2⟩
   · have:j = h[i].parents.length:=by omega
     subst this
     simp at q2
     rw [q2] at k2
     simp [hi,hE,hw]
     exact rd (i + 1) ⟨hi,by simpa using k2⟩
 · have:i = h.length:=by omega
   subst this
   simp at k2
   simp [k2,whenE]
def chkVerR (v:VerD):Int:=firstE [withinE v.level 1 256,whenE (decide (2 < v.parents.length)) 5,chkNames v.parents,whenE (twiceP v.parents) 9,chkBook v.book]
theorem c_checkVersionR (v:VerD) (hv:verB v):GoodC Tryz.prog 133 [rVer v] (.int .i64 (chkVerR v)):=by
 refine good_fn nf isF133 mix (by simp [Tryz.f133]) ?_
 obtain ⟨nm,lv,ps,bk⟩:=v
 obtain ⟨b1,b2,b3,b4⟩:=hv
 dsimp only at b1 b2 b3 b4
 simp [Tryz.f133,rVer_mk]
 refine c3 (c_out lv 1 256) ?_
 rw [chkVerR]
 dsimp only
 by_cases h1:(decide (lv < 1) || decide (lv > 256)) = true
 · have e:withinE lv 1 256 = 3:=by rw [withinE,h1]; rfl
   simp only [h1,e]
   simp [firstE,e]
 have h1:(decide (lv < 1) || decide (lv > 256)) = false:=by simpa using h1
 have e:withinE lv 1 256 = 0:=by rw [withinE,h1]; rfl
 simp only [h1,e]
 by_cases h2:2 < ps.length
 · have h2':(2:Int) < (ps.length:Int):=by omega
   simp [h2,h2',firstE,whenE,e]
 have h2':¬ (2:Int) < (ps.length:Int):=by omega
 simp [h2']
 refine lp (α:=Nat) (fun i=>⟨[(3,.p (.int .i64 i)),(1,.ptr 0 [])],[.box false (.p (rVer ⟨nm,lv,ps,bk⟩))]⟩) (fun i=>i ≤ ps.length ∧ chkNames ps = chkNames (ps.drop i)) (fun i=>ps.length - i) 0 (by simp) ?_ (hh:=by simp [rVer_mk])
 rintro i ⟨k1,k2⟩
 have hw:=wi1 (i:=i) (by omega)
 by_cases hi:i < ps.length
 · rw [List.drop_eq_getElem_cons hi,chkNames] at k2
   have hs:=b3 _ (List.getElem_mem hi)
   simp [hi,rVer_mk]
   refine c1 (c_refIsName ps[i] (by omega)) ?_
   by_cases hn:isName ps[i] = true
   · rw [if_pos hn] at k2
     simp [hn,hw]
     exact rd (i + 1) ⟨hi,k2⟩ (hh:=by simp [rVer_mk])
   · rw [if_neg hn] at k2
     simp [hn,h2,whenE,k2,firstE,e]
 · have:i = ps.length:=by omega
   subst this
   rw [List.drop_length,chkNames] at k2
   by_cases h3:ps.length = 2
   · match ps,h3 with
     | [a,b],_ =>
      have hb:(a == b) = decide (a = b):=by by_cases h:a = b <;> simp [h]
      by_cases hab:a = b
      · simp [rVer_mk,hab] at k2 ⊢
        simp [k2,twiceP,whenE,firstE,e]
      · simp [rVer_mk,hab]
        refine c1 (c_checkBookR bk b4) ?_
        simp [k2,twiceP,hab,whenE,firstE,e]
        try exact fun h=>h.symm
   · have h3':¬ (ps.length:Int) = 2:=by omega
     rw [twiceP_not h3]
     simp [rVer_mk,h3']
     refine c1 (c_checkBookR bk b4) ?_
     simp [k2,h2,whenE,firstE,e]
     try exact fun h=>h.symm
theorem chkVer_R (pre:Option (List Nat)) (v:VerD):chkVer pre v = if isName v.name = true then (if ordBad pre v.name = true then 11 else chkVerR v) else 8:=by
 rw [chkVer,chkVerR]
 cases h1:isName v.name <;> cases h2:ordBad pre v.name <;> simp [firstE,whenE]
theorem c_checkHistoryR (h:List VerD) (hb:histB h):GoodC Tryz.prog 47 [.seq (h.map rVer)] (.int .i64 (chkHist h)):=by
 refine good_fn nf isF47 mix (by simp [Tryz.f47]) ?_
 have hb0:=hb
 obtain ⟨b1,b2⟩:=hb
 by_cases hl:256 < h.length
 · have hl':(256:Int) < h.length:=by omega
   simp [Tryz.f47,hl',chkHist,hl]
 have hl':¬ (256:Int) < h.length:=by omega
 rw [chkHist,if_neg hl]
 simp [Tryz.f47,hl']
 refine lp (α:=Nat) (fun i=>⟨[(3,.p (.int .i64 i)),(0,.p (.seq (h.map rVer)))],[]⟩) (fun i=>i ≤ h.length ∧ chkVersFrom none h = chkVersFrom (lastN (h.take i)) (h.drop i)) (fun i=>h.length - i) 0 (by simp [lastN]) ?_
 rintro i ⟨k1,k2⟩
 by_cases hi:i < h.length
 · have hw:=wi1 (i:=i) (by omega)
   have hE:=rVer_eq h[i]
   have hvb:=b2 _ (List.getElem_mem hi)
   rw [List.drop_eq_getElem_cons hi,chkVersFrom,chkVer_R] at k2
   simp [hi,hE]
   refine c1 (c_refIsName h[i].name hvb.1) ?_
   cases hn:isName h[i].name with
   | false =>
    rw [hn] at k2
    simp at k2
    simp [k2,firstE]
   | true =>
    simp only [hn,if_true] at k2
    have hob:(decide (0 < i) && ordBad (lastN (h.take i)) h[i].name) = ordBad (lastN (h.take i)) h[i].name:=by
     cases i with
     | zero=>simp [lastN,ordBad]
     | succ i=>simp
    cases ho:ordBad (lastN (h.take i)) h[i].name with
    | true =>
     simp only [ho,if_true] at k2
     simp at k2
     cases i with
     | zero=>simp [lastN,ordBad] at ho
     | succ j =>
      rw [getLast_take (by omega)] at ho
      have hEj:=rVer_eq (h[j]'(by omega))
      have hwj:IntKind.i64.wrap (((j + 1:Nat):Int) - 1) = (j:Int):=by rw [wi64] <;> omega
      have hjl:j < h.length:=by omega
      simp [ordBad] at ho
      simp at hwj
      have hp:(0:Int) < (j:Int) + 1:=by omega
      have hp':(0:Int) ≤ (j:Int) + 1:=by omega
      simp [hi,hE,hEj,hwj,hjl,sLess_eq,sLess_leq,ho,k2,firstE,hp,hp']
    | false =>
     simp only [ho,if_false,Bool.false_eq_true] at k2
     have hstep:∀ (K:Prop),(GoodC Tryz.prog 133 [rVer h[i]] (.int .i64 (chkVerR h[i])) → K) → K:=fun K hK=>hK (c_checkVersionR h[i] hvb)
     cases i with
     | zero =>
      simp [hi,hE]
      refine c1 (c_checkVersionR h[0] hvb) ?_ (h1:=by rw [hE]; simp)
      by_cases hz:chkVerR h[0] = 0
      · rw [if_pos hz,← getLast_take hi] at k2
        simp [hz]
        exact rd 1 ⟨hi,k2⟩ (he:=by simp; decide)
      · rw [if_neg hz] at k2
        simp [hz,k2,firstE]
     | succ j =>
      rw [getLast_take (by omega)] at ho
      have hEj:=rVer_eq (h[j]'(by omega))
      have hwj:IntKind.i64.wrap (((j + 1:Nat):Int) - 1) = (j:Int):=by rw [wi64] <;> omega
      have hjl:j < h.length:=by omega
      simp [ordBad] at ho
      simp at hwj
      have hp:(0:Int) < (j:Int) + 1:=by omega
      have hp':(0:Int) ≤ (j:Int) + 1:=by omega
      simp [hi,hE,hEj,hwj,hjl,sLess_eq,sLess_leq,ho,hp,hp']
      refine c1 (c_checkVersionR h[j + 1] hvb) ?_ (h1:=by rw [hE]; first | exact Wk.refl _ | simp)
      simp at hw
      by_cases hz:chkVerR h[j + 1] = 0
      · rw [if_pos hz,← getLast_take hi] at k2
        simp [hz,hw]
        exact rd (j + 1 + 1) ⟨hi,k2⟩
      · rw [if_neg hz] at k2
        simp [hz,k2,firstE]
 · have:i = h.length:=by omega
   subst this
   simp [chkVersFrom] at k2
   simp
   have hz:chkVersFrom none h = 0:=k2
   refine c1 (c_levels h hb0) ?_
   simp [hz,firstE]
   try exact fun h=>h.symm
end Go.Abs
namespace Go.Abs
theorem asc_ext {l m:List (List Nat)} (hl:Asc l) (hm:Asc m) (nl:l.Nodup) (nm:m.Nodup) (h:∀ a,a ∈ l ↔ a ∈ m):l = m :=
 asc_unique hl hm ((List.perm_ext_iff_of_nodup nl nm).2 h)
theorem insS_nodup {l:List (List Nat)} {k:List Nat} (h:l.Nodup) (hk:k ∉ l):(insS l k).Nodup:=(insS_perm (l:=l) (k:=k)).nodup_iff.2 (List.nodup_cons.2 ⟨hk,h⟩)
theorem sortS_nodup {l:List (List Nat)} (h:l.Nodup):(sortS l).Nodup:=(sortS_perm l).nodup_iff.2 h
theorem sortS_mem {l:List (List Nat)} {a:List Nat}:a ∈ sortS l ↔ a ∈ l:=(sortS_perm l).mem_iff
theorem filt_names {h:List VerD} (ok:AscV h) (p:VerD → Bool):Asc (namesV (h.filter p)) ∧ (namesV (h.filter p)).Nodup :=
 have:AscV (h.filter p):=List.Pairwise.filter p ok
 ⟨this.asc,this.names⟩
def wholeL (h:List VerD):List (List Nat):=namesV (h.filter fun v=>wholeS h v.name)
theorem wholeL_mem {h:List VerD} (ok:HistOk h) {a:List Nat}:a ∈ wholeL h ↔ wholeS h a = true:=by
 simp only [wholeL,namesV,List.mem_map,List.mem_filter]
 constructor
 · rintro ⟨v,⟨_,h2⟩,rfl⟩; exact h2
 · intro ha
   obtain ⟨v,hv,_⟩:=whole_at ok ha
   obtain ⟨h1,rfl⟩:=verAt_mem hv
   exact ⟨v,⟨h1,ha⟩,rfl⟩
def rndWStep (l:List (List Nat)) (v:VerD):List (List Nat):=if (!decide (v.name ∈ l) && v.parents.all fun p=>decide (p ∈ l)) = true then insS l v.name else l
def rndW (h:List VerD) (l:List (List Nat)):List (List Nat):=h.foldl rndWStep l
def rndsW (h:List VerD):Nat → List (List Nat)
 | 0=>[]
 | n + 1=>rndW h (rndsW h n)
structure WInv (h:List VerD) (l:List (List Nat)):Prop where
 asc:Asc l
 nod:l.Nodup
 whl:∀ a ∈ l,wholeS h a = true
theorem rndWStep_inv {h:List VerD} (ok:HistOk h) {l:List (List Nat)} (hi:WInv h l) {v:VerD} (hv:v ∈ h):WInv h (rndWStep l v):=by
 rw [rndWStep]; split
 · rename_i hc
   simp only [Bool.and_eq_true,Bool.not_eq_true',decide_eq_false_iff_not,List.all_eq_true,decide_eq_true_eq] at hc
   refine ⟨insS_asc hi.asc,insS_nodup hi.nod hc.1,fun a ha=>?_⟩
   rcases insS_mem.1 ha with rfl | ha
   · rw [whole_of ok hv,List.all_eq_true]
     exact fun p hp=>hi.whl p (hc.2 p hp)
   · exact hi.whl a ha
 · exact hi
theorem rndWStep_mono {l:List (List Nat)} {v:VerD} {a:List Nat} (ha:a ∈ l):a ∈ rndWStep l v:=by
 rw [rndWStep]; split
 · exact insS_mem.2 (.inr ha)
 · exact ha
theorem rnd_mono {a:List Nat}:∀ {h:List VerD} {l:List (List Nat)},a ∈ l → a ∈ rndW h l
 | [],_,h=>h
 | v :: r,l,h=>by rw [rndW,List.foldl_cons]; exact rnd_mono (h:=r) (rndWStep_mono h)
theorem rnd_inv {h:List VerD} (ok:HistOk h):∀ {r:List VerD} {l:List (List Nat)},(∀ v ∈ r,v ∈ h) → WInv h l → WInv h (rndW r l)
 | [],_,_,hi=>hi
 | v :: r,l,hr,hi=>by
  rw [rndW,List.foldl_cons]
  exact rnd_inv ok (r:=r) (fun u hu=>hr u (List.mem_cons_of_mem _ hu)) (rndWStep_inv ok hi (hr v List.mem_cons_self))
theorem rnd_get {v:VerD}:∀ {r:List VerD} {l:List (List Nat)},v ∈ r → (∀ p ∈ v.parents,p ∈ l) → v.name ∈ rndW r l
 | [],_,h,_=>by cases h
 | u :: r,l,h,hp=>by
  rw [rndW,List.foldl_cons]
  rcases List.mem_cons.1 h with rfl | h
  · refine rnd_mono ?_
    rw [rndWStep]
    by_cases hv:v.name ∈ l
    · split
      · exact insS_mem.2 (.inl rfl)
      · exact hv
    · rw [if_pos (by simpa [hv] using hp)]
      exact insS_mem.2 (.inl rfl)
  · exact rnd_get (r:=r) h fun p hq=>rndWStep_mono (hp p hq)
def rkW (h:List VerD) (n:Int):Nat:=h.countP fun v=>decide (v.level ≤ n)
theorem rk_lt:∀ {h:List VerD} {v:VerD} {m:Int},v ∈ h → m < v.level → rkW h m < rkW h v.level
 | [],_,_,h,_=>by cases h
 | u :: r,v,m,h,hm=>by
  have mono:∀ r:List VerD,rkW r m ≤ rkW r v.level:=fun r=>List.countP_mono_left fun x _ hx=>by
   simp only [decide_eq_true_eq] at hx ⊢; omega
  simp only [rkW,List.countP_cons]
  rcases List.mem_cons.1 h with rfl | h
  · have:=mono r
    simp only [rkW] at this
    have h1:¬ v.level ≤ m:=by omega
    simp [h1]; omega
  · have:=rk_lt (h:=r) h hm
    simp only [rkW] at this
    by_cases h1:u.level ≤ m
    · have h2:u.level ≤ v.level:=by omega
      simp [h1,h2]; omega
    · simp [h1]; split <;> omega
theorem rnds_inv {h:List VerD} (ok:HistOk h):∀ n,WInv h (rndsW h n)
 | 0=>⟨by simp [rndsW,Asc],by simp [rndsW],by simp [rndsW]⟩
 | n + 1=>rnd_inv ok (fun _ h=>h) (rnds_inv ok n)
theorem rnds_get {h:List VerD} (ok:HistOk h):∀ (n:Nat) (v:VerD),v ∈ h → wholeS h v.name = true → rkW h v.level ≤ n → v.name ∈ rndsW h n
 | 0,v,hv,_,hr=>by
  have:0 < rkW h v.level:=List.countP_pos_iff.2 ⟨v,hv,by simp⟩
  omega
 | n + 1,v,hv,hw,hr=>by
  refine rnd_get hv fun p hp=>?_
  rw [whole_of ok hv,List.all_eq_true] at hw
  have hwp:=hw p hp
  obtain ⟨x,hx,_⟩:=whole_at ok hwp
  obtain ⟨hxm,rfl⟩:=verAt_mem hx
  have hlt:=lvlBad_false ok.up hv hp hx
  have:=rk_lt hv hlt
  exact rnds_get ok n x hxm hwp (by omega)
theorem rnds_whole {h:List VerD} (ok:HistOk h):rndsW h h.length = wholeL h:=by
 have hi:=rnds_inv ok h.length
 have hf:=filt_names ok.asc fun v=>wholeS h v.name
 refine asc_ext hi.asc hf.1 hi.nod hf.2 fun a=>⟨fun ha=>(wholeL_mem ok).2 (hi.whl a ha),fun ha=>?_⟩
 have hw:=(wholeL_mem ok).1 ha
 obtain ⟨v,hv,_⟩:=whole_at ok hw
 obtain ⟨h1,rfl⟩:=verAt_mem hv
 exact rnds_get ok _ v h1 hw (by rw [rkW]; exact List.countP_le_length)
def ancL (h:List VerD) (k:List Nat):List (List Nat):=namesV (h.filter fun v=>ancS h k v.name)
theorem ancL_mem {h:List VerD} (ok:HistOk h) {k a:List Nat} (hk:wholeS h k = true):a ∈ ancL h k ↔ ancS h k a = true:=by
 simp only [ancL,namesV,List.mem_map,List.mem_filter]
 constructor
 · rintro ⟨v,⟨_,h2⟩,rfl⟩; exact h2
 · intro ha
   obtain ⟨v,hv,_⟩:=whole_at ok (anc_whole ok hk ha)
   obtain ⟨h1,rfl⟩:=verAt_mem hv
   exact ⟨v,⟨h1,ha⟩,rfl⟩
theorem anc_sorted {h : List VerD} (ok : HistOk h) {k : List Nat} (hk : wholeS h k = true) {l : List (List Nat)} (nl : l.Nodup) (h0 : k ∈ l) (hs : ∀ a ∈ l, ancS h k a = true)
    (hc:∀ a ∈ l,∀ v,verAt h a = some v → ∀ p ∈ v.parents,p ∈ l):sortS l = ancL h k:=by
 have hf:=filt_names ok.asc fun v=>ancS h k v.name
 refine asc_ext (sortS_asc l) hf.1 (sortS_nodup nl) hf.2 fun a=>?_
 rw [sortS_mem]
 refine ⟨fun ha=>(ancL_mem ok hk).2 (hs a ha),fun ha=>?_⟩
 exact anc_closed ok (S:=fun x=>x ∈ l) (fun x v p hx hv hp=>hc x hx v hv p hp) 257 k a ((ancL_mem ok hk).1 ha) h0
def bestF:List VerD → Option VerD → Option VerD
 | [],b=>b
 | v :: r,b=>bestF r (match b with
  | none=>some v
  | some x=>if x.level ≤ v.level then some v else some x)
def bestR:List VerD → Option VerD → Option VerD
 | [],b=>b
 | v :: r,b=>bestR r (match b with
  | none=>some v
  | some x=>if v.level ≤ x.level then some x else some v)
theorem bestR_some : ∀ (l : List VerD) (x : VerD), bestR l (some x) = match bestR l none with
    | some y=>if y.level ≤ x.level then some x else some y
    | none=>some x
 | [],x=>rfl
 | v :: r,x=>by
  simp only [bestR]
  have h1:=bestR_some r v
  by_cases h:v.level ≤ x.level
  · rw [if_pos h,bestR_some r x,h1]
    cases bestR r none with
    | none=>simp [h]
    | some y =>
     by_cases h2:y.level ≤ x.level <;> by_cases h3:y.level ≤ v.level <;> first | (exfalso; omega) | simp [h,h2,h3]
  · rw [if_neg h,h1]
    cases bestR r none with
    | none=>simp [h]
    | some y =>
     by_cases h2:y.level ≤ x.level <;> by_cases h3:y.level ≤ v.level <;> first | (exfalso; omega) | simp [h,h2,h3]
theorem bestF_snoc : ∀ (l : List VerD) (b : Option VerD) (v : VerD), bestF (l ++ [v]) b = match bestF l b with
    | none=>some v
    | some x=>if x.level ≤ v.level then some v else some x
 | [],b,v=>rfl
 | u :: r,b,v=>by simp only [List.cons_append,bestF]; exact bestF_snoc r _ v
theorem best_rev (l:List VerD):bestR l.reverse none = bestF l none:=by
 have key:∀ (n:Nat) (l:List VerD),l.length = n → bestR l.reverse none = bestF l none:=by
  intro n
  induction n with
  | zero=>intro l hl; rw [List.length_eq_zero_iff.1 hl]; rfl
  | succ n ih =>
   intro l hl
   rcases List.eq_nil_or_concat l with rfl | ⟨t,v,rfl⟩
   · simp at hl
   · rw [List.concat_eq_append,List.reverse_append,List.reverse_singleton,List.singleton_append,bestR,bestF_snoc]
     rw [bestR_some,ih t (by simpa using hl)]
     cases bestF t none with
     | none=>rfl
     | some y=>dsimp only
 exact key _ l rfl
def baseS (h:List VerD) (a b:List Nat):Option VerD:=bestF (h.filter fun v=>ancS h a v.name && ancS h b v.name) none
def insVr:List VerD → VerD → List VerD
 | [],v=>[v]
 | x :: l,v=>if sLess x.name v.name then x :: insVr l v else v :: x :: l
theorem insVr_names:∀ (l:List VerD) (v:VerD),namesV (insVr l v) = insS (namesV l) v.name
 | [],_=>rfl
 | x :: l,v=>by
  have ih:=insVr_names l v
  simp only [namesV] at ih
  simp only [insVr,namesV,List.map_cons,insS]
  split
  · rw [List.map_cons,ih]
  · rfl
theorem insVr_perm {v:VerD}:∀ {l:List VerD},(insVr l v).Perm (v :: l)
 | []=>by simp [insVr]
 | x :: l=>by
  simp only [insVr]; split
  · exact (List.Perm.cons x insVr_perm).trans (.swap v x l)
  · exact .refl _
def sortV (l:List VerD):List VerD:=l.foldl insVr []
theorem foldl_insVr_perm:∀ (l acc:List VerD),(l.foldl insVr acc).Perm (acc ++ l)
 | [],_=>by simp
 | _ :: l,_=>by
  rw [List.foldl_cons]
  refine (foldl_insVr_perm l _).trans ?_
  refine (List.Perm.append_right l insVr_perm).trans ?_
  exact List.perm_middle.symm
theorem foldl_insVr_names:∀ (l acc:List VerD),namesV (l.foldl insVr acc) = (namesV l).foldl insS (namesV acc)
 | [],_=>rfl
 | v :: l,acc=>by
  rw [List.foldl_cons,foldl_insVr_names l,insVr_names]; rfl
theorem sortV_names (l:List VerD):namesV (sortV l) = sortS (namesV l):=foldl_insVr_names l []
theorem ascV_unique {l m:List VerD} (hl:AscV l) (hm:AscV m) (h:l.Perm m):l = m:=by
 induction l generalizing m with
 | nil=>simpa using h.length_eq.symm
 | cons x l ih =>
  cases m with
  | nil=>simpa using h.length_eq
  | cons y m =>
   have hxy:x = y:=by
    have hl':=List.pairwise_cons.1 hl
    have hm':=List.pairwise_cons.1 hm
    have h1:y ∈ x :: l:=h.mem_iff.2 List.mem_cons_self
    have h2:x ∈ y :: m:=h.mem_iff.1 List.mem_cons_self
    rcases List.mem_cons.1 h1 with e | h1
    · exact e.symm
    rcases List.mem_cons.1 h2 with e | h2
    · exact e
    have:=sLess_asym (hl'.1 y h1)
    rw [hm'.1 x h2] at this; cases this
   subst hxy
   rw [ih (List.pairwise_cons.1 hl).2 (List.pairwise_cons.1 hm).2 (List.Perm.cons_inv h)]
theorem ascV_of {l:List VerD} (hn:(namesV l).Nodup) (ha:Asc (namesV l)):AscV l:=by
 induction l with
 | nil=>exact List.Pairwise.nil
 | cons x l ih =>
  simp only [namesV,List.map_cons,List.nodup_cons] at hn
  simp only [namesV,List.map_cons,Asc,List.pairwise_cons] at ha
  refine List.pairwise_cons.2 ⟨fun y hy=>?_,ih hn.2 ha.2⟩
  cases hs:sLess x.name y.name with
  | true=>rfl
  | false =>
   have:=sLess_tri hs (ha.1 _ (List.mem_map_of_mem hy))
   exact (hn.1 (by rw [this]; exact List.mem_map_of_mem hy)).elim
theorem sortV_asc {l:List VerD} (hn:(namesV l).Nodup):AscV (sortV l) :=
 ascV_of (by rw [sortV_names]; exact sortS_nodup hn) (by rw [sortV_names]; exact sortS_asc _)
theorem sortV_of {l m:List VerD} (hn:(namesV l).Nodup) (h:m.Perm l) (hm:AscV m):m = sortV l :=
 ascV_unique hm (sortV_asc hn) (h.trans (foldl_insVr_perm l []).symm)
theorem sortV_self {h:List VerD} (ha:AscV h):sortV h = h:=(sortV_of ha.names (.refl _) ha).symm
end Go.Abs
namespace Go.Abs
theorem put_all {a n:List VerD} (ha:AscV a):n.foldl insVr a = sortV (a ++ n):=by
 rw [sortV,List.foldl_append]
 have:a.foldl insVr [] = a:=sortV_self ha
 rw [this]
end Go.Abs
namespace Go.Abs
def joinV (a b name:List Nat) (x y:VerD) (bk:BookD):VerD:=⟨name,max x.level y.level + 1,[a,b],bk⟩
def joinE (h:List VerD) (a b name:List Nat) (x y:VerD):Int :=
 firstE [whenE (!isName name) 8,whenE (verAt h name).isSome 9,whenE (ancS h a b || ancS h b a) 19,whenE (decide (256 ≤ h.length)) 5,withinE (max x.level y.level + 1) 1 256]
def baseB (h:List VerD) (a b:List Nat) (x:VerD):BookD:=match baseS h a b with
 | some v=>v.book
 | none=>⟨x.book.name,[]⟩
def joinH (h:List VerD) (a b name:List Nat) (x y:VerD):List VerD × List (List Nat) × Int :=
 if joinE h a b name x y ≠ 0 then ([],[],joinE h a b name x y)
 else if (mergeC (baseB h a b x) x.book y.book).2.2 ≠ 0 then ([],[],(mergeC (baseB h a b x) x.book y.book).2.2)
 else if lvlBad (sortV (h ++ [joinV a b name x y (mergeC (baseB h a b x) x.book y.book).1])) = true then ([],[],29)
 else (sortV (h ++ [joinV a b name x y (mergeC (baseB h a b x) x.book y.book).1]),(mergeC (baseB h a b x) x.book y.book).2.1,0)
theorem ins_nodup {h:List VerD} (ok:AscV h) {v:VerD} (hn:verAt h v.name = none):(namesV (h ++ [v])).Nodup:=by
 rw [namesV,List.map_append,List.nodup_append]
 refine ⟨ok.names,by simp,fun x hx y hy e=>?_⟩
 rw [verAt_none] at hn
 simp at hy
 subst e; subst hy
 exact hn hx
theorem sortV_mem {l:List VerD} {v:VerD}:v ∈ sortV l ↔ v ∈ l:=by rw [sortV,(foldl_insVr_perm _ []).mem_iff,List.nil_append]
end Go.Abs
namespace Go.Abs
open Go.Proofs
set_option maxHeartbeats 4000000
set_option maxRecDepth 100000
@[simp] def rowsX (l:List RowD):Obj:=.arr .exact 0 2 (l.map (AV.p ∘ eRow))
end Go.Abs
namespace Go.Abs
open Go.Proofs
set_option maxHeartbeats 4000000
set_option maxRecDepth 100000
theorem c_cloneS (l:List (List Nat)) (h:l.length ≤ 1048576):GoodC Tryz.prog 157 [.seq (l.map .str)] (.seq (l.map .str)):=by
 cases l with
 | nil =>
  refine .inl (goodP_seq_nil (pre:=[]) (post:=[]) ?_ ?_)
  · refine goodP_fn nf isF157 mix (by simp [Tryz.f157]) ?_
    simp [Tryz.f157]
  · refine goodP_fn nf isF157 mix (by simp [Tryz.f157]) ?_
    simp [Tryz.f157,maxL]
 | cons a r =>
  refine good_fn nf isF157 mix (by simp [Tryz.f157]) ?_
  simp at h
  simp [Tryz.f157]
  simp only [maxL]; omega
end Go.Abs
namespace Go.Abs
open Go.Proofs
set_option maxHeartbeats 4000000
set_option maxRecDepth 100000
theorem cx {f:FuncId} {args:List AV} {H:Heap} {K:AV → Heap → Prop} {hin:List (Nat × Obj)} {v:PV} (h:GoodXE Tryz.prog f args hin v) (hi:∀ p ∈ hin,H[p.1]? = some p.2) (hk:K (.p v) H):CallS Tryz.prog false f K args H:=.inr ⟨rfl,.inr (.inr (.inr ⟨hin,v,h,hi,hk⟩))⟩
end Go.Abs
namespace Go.Abs
open Go.Proofs
set_option maxHeartbeats 4000000
set_option maxRecDepth 100000
@[simp] theorem renL_app {σ:Nat → Nat}:∀ {a b:List AV},renL σ (a ++ b) = renL σ a ++ renL σ b
 | [],b=>by simp [renL]
 | x :: a,b=>by simp [renL,renL_app (a:=a)]
end Go.Abs
namespace Go.Abs
def EventD.at (e:EventD) (n:Int):EventD:=⟨n,e.kind,e.names,e.vals,e.text⟩
end Go.Abs
namespace Go.Abs
open Go.Proofs
set_option maxHeartbeats 4000000
set_option maxRecDepth 100000
theorem c_mappedRR (l:List RowD) (h:rowsB l):GoodC Tryz.prog 139 [.seq (l.map eRow),.func 141 [] []] (.seq (l.map eRow)):=by
 refine good_fn nf isF139 mix (by simp [Tryz.f139]) ?_
 have hl:=h.1
 simp [Tryz.f139]
 refine lp (α:=Nat) (fun i=>⟨[(10,.p (.int .i64 i)),(9,.p (.int .i64 l.length)),(8,.p (.seq (l.map eRow))),(5,.sl 0 i 2 0 i),(1,.p (.func 141 [] []))],[.arr .grow i 2 ((l.map fun r=>.p (eRow r)).take i)]⟩) (fun i=>i ≤ l.length) (fun i=>l.length - i) 0 (by simp) ?_
 rintro i k1
 by_cases hi:i < l.length
 · have hw:=wi1 (i:=i) (by omega)
   have ht:=take_next (fun r=>AV.p (eRow r)) hi
   simp [hi]
   refine c1 (c_copied l[i] (h.2 _ (List.getElem_mem hi))) ?_
   simp
   refine ⟨⟨by omega,by simp only [maxL]; omega⟩,?_⟩
   exact rd (i + 1) hi (he:=by simp [hw]) (hh:=by simp [ht]) (hr2:=by simp [ht])
 · have:i = l.length:=by omega
   subst this
   simp
end Go.Abs
namespace Go.Abs
open Go.Proofs
set_option maxHeartbeats 4000000
set_option maxRecDepth 100000
theorem shpVerR (l:List VerD):allShp Tryz.prog 5 (l.map (AV.p ∘ rVer)):=by
 rw [allShp_iff]
 intro v hv
 obtain ⟨x,_,rfl⟩:=List.mem_map.1 hv
 exact ⟨by simp [shpA],by simp [shpA,shpSize]⟩
def histW (h:List VerD):Prop:=h.length ≤ 1048576 ∧ ∀ v ∈ h,v.book.rows.length ≤ 1048576
theorem histB.w {h:List VerD} (hb:histB h):histW h:=⟨hb.1,fun v hv=>(hb.2 v hv).2.2.2.2.1⟩
theorem c_versions (h:List VerD) (hb:histW h):GoodC Tryz.prog 42 [eHist h] (.seq (h.map rVer)):=by
 refine good_fn nf isF42 mix (by simp [Tryz.f42]) ?_
 have hl:=hb.1
 simp [Tryz.f42,eHist]
 refine lp (α:=Nat) (fun i=>⟨[(9,.p (.int .i64 i)),(8,.p (.int .i64 h.length)),(7,.p (.seq (h.map eVer))),(3,.sl 1 i 5 0 i)],[.hole,.arr .grow i 5 ((h.map fun r=>.p (rVer r)).take i)]⟩) (fun i=>i ≤ h.length) (fun i=>h.length - i) 0 (by simp) ?_
 rintro i k1
 by_cases hi:i < h.length
 · have hw:=wi1 (i:=i) (by omega)
   have ht:=take_next (fun r=>AV.p (rVer r)) hi
   have hE:=eVer_eq h[i]
   have hR:=rVer_eq h[i]
   simp [hi,hE]
   refine e1 (c_book h[i].book (hb.2 _ (List.getElem_mem hi))) ?_
   simp [← hR]
   refine ⟨⟨by omega,by simp only [maxL]; omega⟩,rfl,?_⟩
   exact rd (i + 1) hi (he:=by simp [hw]) (hh:=by simp [ht]) (hr2:=by simp [ht])
 · have:i = h.length:=by omega
   subst this
   simp
def shortVer (v:VerD):Bool:=decide (v.name.length ≤ 60) && decide (v.parents.length ≤ 4) && shortBook v.book 8 && v.parents.all fun p=>decide (p.length ≤ 60)
def shortHist (h:List VerD) (n:Nat):Bool:=decide (h.length ≤ n) && h.all shortVer
theorem all_dropV {α:Type} (f:α → Bool) {l:List α} {i:Nat} (hi:i < l.length):(l.drop i).all f = (f l[i] && (l.drop (i + 1)).all f):=by
 rw [List.drop_eq_getElem_cons hi,List.all_cons]
theorem c_shortHist (h:List VerD) (n:Nat) (hb:histW h) (hn:n ≤ 100):GoodC Tryz.prog 43 [.seq (h.map rVer),.int .i64 n] (.bool (shortHist h n)):=by
 refine good_fn nf isF43 mix (by simp [Tryz.f43]) ?_
 by_cases hl:n < h.length
 · have hl':(n:Int) < h.length:=by omega
   have hs:¬ h.length ≤ n:=by omega
   simp [Tryz.f43,hl',shortHist,hs]
 have hl':¬ (n:Int) < h.length:=by omega
 have e0:shortHist h n = h.all shortVer:=by rw [shortHist,decide_eq_true (by omega)]; simp
 rw [e0]
 simp [Tryz.f43,hl']
 refine lp (α:=Nat) (fun i=>⟨[(5,.p (.int .i64 i)),(0,.p (.seq (h.map rVer)))],[]⟩) (fun i=>i ≤ h.length ∧ h.all shortVer = (h.drop i).all shortVer) (fun i=>h.length - i) 0 (by simp) ?_
 rintro i ⟨k1,k2⟩
 by_cases hi:i < h.length
 · have hw:=wi1 (i:=i) (by omega)
   have hE:=rVer_eq h[i]
   have hvb:=hb.2 _ (List.getElem_mem hi)
   rw [all_dropV _ hi] at k2
   by_cases h1:60 < h[i].name.length
   · have h1':(60:Int) < (h[i].name.length:Int):=by omega
     have e:shortVer h[i] = false:=by simp [shortVer]; intro h; omega
     rw [e,Bool.false_and] at k2
     rw [k2]
     simp [hi,hE,h1']
   have h1':¬ (60:Int) < (h[i].name.length:Int):=by omega
   by_cases h2:4 < h[i].parents.length
   · have h2':(4:Int) < (h[i].parents.length:Int):=by omega
     have e:shortVer h[i] = false:=by simp [shortVer]; intro _ h; omega
     rw [e,Bool.false_and] at k2
     rw [k2]
     simp [hi,hE,h1',h2']
   have h2':¬ (4:Int) < (h[i].parents.length:Int):=by omega
   have e1:shortVer h[i] = (shortBook h[i].book 8 && h[i].parents.all fun p=>decide (p.length ≤ 60)):=by
    simp [shortVer,show h[i].name.length ≤ 60 by omega,show h[i].parents.length ≤ 4 by omega]
   simp [hi,hE,h1',h2']
   refine c2 (c_shortBook h[i].book 8 hvb (by omega)) ?_
   cases hsb:shortBook h[i].book 8 with
   | false =>
    rw [e1,hsb,Bool.false_and,Bool.false_and] at k2
    rw [k2]
    simp
   | true =>
    rw [e1,hsb,Bool.true_and] at k2
    simp
    refine lp (α:=Nat) (fun j=>⟨[(6,.p (.int .i64 j)),(5,.p (.int .i64 i)),(0,.p (.seq (h.map rVer)))],[]⟩) (fun j=>j ≤ h[i].parents.length ∧ (h[i].parents.all fun p=>decide (p.length ≤ 60)) = (h[i].parents.drop j).all fun p=>decide (p.length ≤ 60)) (fun j=>h[i].parents.length - j) 0 (by simp) ?_
    rintro j ⟨q1,q2⟩
    by_cases hj:j < h[i].parents.length
    · have hw2:=wi1 (i:=j) (by omega)
      rw [all_dropV _ hj] at q2
      by_cases h3:60 < h[i].parents[j].length
      · have h3':(60:Int) < (h[i].parents[j].length:Int):=by omega
        have h3'':¬ h[i].parents[j].length ≤ 60:=by omega
        rw [decide_eq_false h3'',Bool.false_and] at q2
        rw [q2,Bool.false_and] at k2
        rw [k2]
        simp [hi,hj,hE,h3']
      · have h3':¬ (60:Int) < (h[i].parents[j].length:Int):=by omega
        rw [decide_eq_true (by omega),Bool.true_and] at q2
        simp [hi,hj,hE,h3',hw2]
        exact rd (j + 1) ⟨hj,q2⟩
    · have:j = h[i].parents.length:=by omega
      subst this
      rw [List.drop_length] at q2
      rw [q2] at k2
      simp [hi,hE,hw]
      exact rd (i + 1) ⟨hi,by simpa using k2⟩
 · have:i = h.length:=by omega
   subst this
   rw [List.drop_length] at k2
   rw [k2]
   simp
theorem short_histB {h:List VerD} {n:Nat} (hn:n ≤ 100) (hs:shortHist h n = true):histB h ∧ h.length ≤ n:=by
 simp only [shortHist,Bool.and_eq_true,decide_eq_true_eq,List.all_eq_true] at hs
 refine ⟨⟨by omega,fun v hv=>?_⟩,hs.1⟩
 have h1:=hs.2 v hv
 simp only [shortVer,Bool.and_eq_true,decide_eq_true_eq,List.all_eq_true] at h1
 exact ⟨by omega,by omega,fun p hp=>by have:=h1.2 p hp; omega,(short_bookB h1.1.2).1⟩
theorem c_sameVer (a b:VerD) (ha:verB a) (hb:verB b):GoodC Tryz.prog 137 [rVer a,rVer b] (.bool (decide (a = b))):=by
 refine good_fn nf isF137 mix (by simp [Tryz.f137]) ?_
 obtain ⟨n1,l1,p1,m1⟩:=a
 obtain ⟨n2,l2,p2,m2⟩:=b
 have hE:(decide ((⟨n1,l1,p1,m1⟩:VerD) = ⟨n2,l2,p2,m2⟩)) = (decide (n1 = n2) && decide (l1 = l2) && decide (p1 = p2) && decide (m1 = m2)):=by
  rw [Bool.eq_iff_iff]; simp [and_assoc]
 rw [hE]
 by_cases h1:n1 = n2
 · by_cases h2:l1 = l2
   · simp [Tryz.f137,rVer_mk,h1,h2]
     refine c2 (c_sameWords p1 p2 ha.2.1 hb.2.1) ?_
     by_cases h3:p1 = p2
     · simp [h3]
       refine c2 (c_sameBook m1 m2 ha.2.2.2 hb.2.2.2) ?_
       simp [h1,h2,h3]
     · simp [h3]
   · simp [Tryz.f137,rVer_mk,h1,h2]
 · simp [Tryz.f137,rVer_mk,h1]
theorem c_sameVers (a b:List VerD) (ha:histB a) (hb:histB b):GoodC Tryz.prog 52 [.seq (a.map rVer),.seq (b.map rVer)] (.bool (decide (a = b))):=by
 refine good_fn nf isF52 mix (by simp [Tryz.f52]) ?_
 obtain ⟨ha,ha'⟩:=ha
 obtain ⟨hb,hb'⟩:=hb
 by_cases hl:a.length = b.length
 · have hl':(a.length:Int) = b.length:=by omega
   simp [Tryz.f52,hl']
   refine lp (α:=Nat) (fun i=>⟨[(5,.p (.int .i64 i)),(1,.p (.seq (b.map rVer))),(0,.p (.seq (a.map rVer)))],[]⟩) (fun i=>i ≤ a.length ∧ decide (a = b) = decide (a.drop i = b.drop i)) (fun i=>a.length - i) 0 (by simp) ?_
   rintro i ⟨k1,k2⟩
   by_cases hi:i < a.length
   · have hi':i < b.length:=by omega
     rw [beq_drop hi hi'] at k2
     have hw:=wi1 (i:=i) (by omega)
     simp [hi,hi']
     refine e2 (c_sameVer a[i] b[i] (ha' _ (List.getElem_mem hi)) (hb' _ (List.getElem_mem hi'))) ?_
     by_cases he:a[i] = b[i]
     · rw [decide_eq_true he,Bool.true_and] at k2
       simp [he,hw]
       exact rd (i + 1) ⟨hi,k2⟩
     · rw [decide_eq_false he,Bool.false_and] at k2
       rw [k2]
       simp [he]
   · have:i = a.length:=by omega
     subst this
     have k3:decide (a = b) = true:=by rw [k2,List.drop_length,hl,List.drop_length]; rfl
     rw [k3]
     simp
 · have hl':¬ (a.length:Int) = b.length:=by omega
   rw [decide_eq_false (len_ne hl)]
   simp [Tryz.f52,hl']
end Go.Abs
namespace Go.Abs
open Go.Proofs Go.Proofs.YthckccalfpnmaaaGreatDoor
set_option maxRecDepth 100000
section
variable {H:Type} {W:World} {Imm:Nat → Prop}
theorem four_of {P : Program} {n : Nat} {t : TypeId} {f0 f1 f2 f3 : Field} {k0 k1 k2 k3 : Nat} (ht : P.underlying t = some (.struct #[f0, f1, f2, f3])) (hs : szs P (P.underlyingId t) = some [k0, k1, k2, k3])
    {d:DataW H} {cs:List Value} (h:PVC P W Imm (toPV P (n + 1) t d) cs) :
    ∃ (a b c e:DataW H) (r:List (DataW H)) (c0 c1 c2 c3:List Value),d = .agg (a :: b :: c :: e :: r) ∧ toPV P (n + 1) t d = .st (P.underlyingId t) [toPV P n f0.type a,toPV P n f1.type b,toPV P n f2.type c,toPV P n f3.type e] ∧
     PVC P W Imm (toPV P n f0.type a) c0 ∧ PVC P W Imm (toPV P n f1.type b) c1 ∧ PVC P W Imm (toPV P n f2.type c) c2 ∧ PVC P W Imm (toPV P n f3.type e) c3:=by
 cases d with
 | agg l =>
  simp only [toPV,ht,PVC] at h ⊢
  obtain ⟨l',css,h1,h2,_⟩:=h
  rw [hs] at h1; cases h1
  match l,h2 with
  | [],h2=>simp [PVCl] at h2
  | [_],h2=>simp [PVCl] at h2
  | [_,_],h2=>simp [PVCl] at h2
  | [_,_,_],h2=>simp [PVCl] at h2
  | a :: b :: c :: e :: r,h2 =>
   simp only [List.zip_cons_cons,List.map_cons,PVCl,List.zip_nil_left,List.map_nil] at h2 ⊢
   obtain ⟨c0,_,_,g0,_,c1,_,_,g1,_,c2,_,_,g2,_,c3,_,_,g3,_⟩:=h2
   exact ⟨a,b,c,e,r,c0,c1,c2,c3,rfl,rfl,g0,g1,g2,g3⟩
 | _=>simp only [toPV,ht,PVC] at h
theorem unVer:∃ f0 f1 f2 f3:Field,Tryz.prog.underlying 148 = some (.struct #[f0,f1,f2,f3]) ∧ f0.type = 9 ∧ f1.type = 3 ∧ f2.type = 44 ∧ f3.type = 24:=⟨_,_,_,_,Tryz.underlying148,rfl,rfl,rfl,rfl⟩
theorem uidVer:Tryz.prog.underlyingId 148 = 147:=by kernel_rfl
theorem bulk_part {d:DataW H} {l:List (DataW H)} {n:Nat} (hd:d ∈ l) (h:Rows.uptoBulk (.agg l) ≤ n):Rows.uptoBulk d ≤ n:=by
 have:=bulks.part_le hd
 rw [Rows.uptoBulk] at h
 omega
theorem seq_ofB {α : Type} {n N : Nat} {t e : TypeId} {F : α → PV} (Q : α → Prop) (ht : Tryz.prog.underlying t = some (.slice e)) (hF : ∀ (d : DataW H) c, PVC Tryz.prog W Imm (toPV Tryz.prog n e d) c → Rows.uptoBulk d ≤ N → ∃ a, toPV Tryz.prog n e d = F a ∧ Q a)
    {d:DataW H} {cs:List Value} (h:PVC Tryz.prog W Imm (toPV Tryz.prog (n + 1) t d) cs) (hb:Rows.uptoBulk d ≤ N):∃ l:List α,toPV Tryz.prog (n + 1) t d = .seq (l.map F) ∧ (∀ a ∈ l,Q a) ∧ l.length ≤ N:=by
 cases d with
 | nil=>exact ⟨[],by simp [toPV,ht],by simp,by simp⟩
 | slice ds sp =>
  have hlen:=bulks.slice_le ds sp
  have hel:∀ x ∈ ds,Rows.uptoBulk x ≤ N:=fun x hx=>by
   have:=bulks.part_le hx
   simp only [Rows.uptoBulk] at hb
   omega
  simp only [toPV,ht,PVC] at h ⊢
  have hm:∀ e' ∈ ds.map (toPV Tryz.prog n e),∃ c,PVC Tryz.prog W Imm e' c:=by
   rcases h with ⟨h,_⟩ | ⟨_,_,_,_,css,h,_⟩
   · rw [h]; intro _ h; cases h
   · exact pvcl_mem h
  have key:∀ ds:List (DataW H),(∀ x ∈ ds,Rows.uptoBulk x ≤ N) → (∀ e' ∈ ds.map (toPV Tryz.prog n e),∃ c,PVC Tryz.prog W Imm e' c) → ∃ l:List α,ds.map (toPV Tryz.prog n e) = l.map F ∧ (∀ a ∈ l,Q a) ∧ l.length = ds.length:=by
   intro ds
   induction ds with
   | nil=>intro _ _; exact ⟨[],rfl,by simp,rfl⟩
   | cons d r ih =>
    intro hx hm
    obtain ⟨c,hc⟩:=hm _ List.mem_cons_self
    obtain ⟨a,ha,hq⟩:=hF d c hc (hx d List.mem_cons_self)
    obtain ⟨l,h1,h3,h2⟩:=ih (fun x h=>hx x (List.mem_cons_of_mem _ h)) fun e' he=>hm e' (List.mem_cons_of_mem _ he)
    refine ⟨a :: l,by simp only [List.map_cons]; rw [ha,h1],?_,by simp [h2]⟩
    intro x hx
    rcases List.mem_cons.1 hx with rfl | hx
    · exact hq
    · exact h3 x hx
  obtain ⟨l,h1,h3,h2⟩:=key ds hel hm
  exact ⟨l,by rw [h1],h3,by omega⟩
 | lit l=>simp only [toPV,ht,PVC] at h
 | ptr d=>simp only [toPV,ht,PVC] at h
 | agg l=>simp only [toPV,ht,PVC] at h
 | iface a b=>simp only [toPV,ht,PVC] at h
 | map l=>simp only [toPV,ht,PVC] at h
 | held a=>simp only [toPV,ht,PVC] at h
theorem book_arg5 {d:DataW H} (h:∃ cs,PVC Tryz.prog W Imm (toPV Tryz.prog 5 24 d) cs) (hb:Rows.uptoBulk d ≤ 1048576):∃ b:BookD,toPV Tryz.prog 5 24 d = eBook b ∧ b.rows.length ≤ 1048576:=by
 obtain ⟨cs,h⟩:=h
 obtain ⟨f0,f1,hu,t0,t1⟩:=unBook
 obtain ⟨x,y,r,c0,c1,hd,h1,h2,h3⟩:=two_of2 (n:=4) hu (by rw [uidBook]; exact sz23) h
 rw [t0] at h1 h2; rw [t1] at h1 h3
 obtain ⟨s,hs⟩:=str_of x c0 h2
 have hy:Rows.uptoBulk y ≤ 1048576:=bulk_part (d:=y) (l:=x :: y :: r) (by simp) (by rw [← hd]; exact hb)
 obtain ⟨l,hl,hll⟩:=list_arg (n:=3) un22 (fun d c hc=>row_of (n:=0) d c hc) ⟨c1,h3⟩ hy
 exact ⟨⟨s,l⟩,by rw [h1,hs,hl,uidBook]; rfl,hll⟩
theorem ver_of (d:DataW H) (c) (h:PVC Tryz.prog W Imm (toPV Tryz.prog 6 148 d) c) (hb:Rows.uptoBulk d ≤ 1048576):∃ v:VerD,toPV Tryz.prog 6 148 d = eVer v ∧ v.book.rows.length ≤ 1048576:=by
 obtain ⟨f0,f1,f2,f3,hu,t0,t1,t2,t3⟩:=unVer
 obtain ⟨x,y,z,u,r,c0,c1,c2,c3,hd,h1,g0,g1,g2,g3⟩:=four_of (n:=5) hu (by rw [uidVer]; exact sz147) h
 rw [t0] at h1 g0; rw [t1] at h1 g1; rw [t2] at h1 g2; rw [t3] at h1 g3
 obtain ⟨nm,e0⟩:=str_of x c0 g0
 obtain ⟨lv,e1⟩:=int_of y c1 g1
 obtain ⟨ps,e2,_⟩:=seq_of un44 (fun d c hh=>str_of d c hh) g2
 have hub:Rows.uptoBulk u ≤ 1048576:=bulk_part (d:=u) (l:=x :: y :: z :: u :: r) (by simp) (by rw [← hd]; exact hb)
 obtain ⟨bk,e3,e4⟩:=book_arg5 ⟨c3,g3⟩ hub
 exact ⟨⟨nm,lv,ps,bk⟩,by rw [h1,e0,e1,e2,e3,uidVer]; rfl,e4⟩
theorem one_ofS {P : Program} {n : Nat} {t : TypeId} {f0 : Field} {k0 : Nat} (ht : P.underlying t = some (.struct #[f0])) (hs : szs P (P.underlyingId t) = some [k0])
    {d:DataW H} {cs:List Value} (h:PVC P W Imm (toPV P (n + 1) t d) cs) :
    ∃ (a:DataW H) (r:List (DataW H)) (c0:List Value),d = .agg (a :: r) ∧ toPV P (n + 1) t d = .st (P.underlyingId t) [toPV P n f0.type a] ∧ PVC P W Imm (toPV P n f0.type a) c0:=by
 cases d with
 | agg l =>
  simp only [toPV,ht,PVC] at h ⊢
  obtain ⟨l',css,h1,h2,_⟩:=h
  rw [hs] at h1; cases h1
  match l,h2 with
  | [],h2=>simp [PVCl] at h2
  | a :: r,h2 =>
   simp only [List.zip_cons_cons,List.map_cons,PVCl,List.zip_nil_left,List.map_nil] at h2 ⊢
   obtain ⟨c0,_,_,g0,_⟩:=h2
   exact ⟨a,r,c0,rfl,rfl,g0⟩
 | _=>simp only [toPV,ht,PVC] at h
theorem unHist:∃ f0:Field,Tryz.prog.underlying 76 = some (.struct #[f0]) ∧ f0.type = 74:=⟨_,Tryz.underlying76,rfl⟩
theorem uidHist:Tryz.prog.underlyingId 76 = 75:=by kernel_rfl
theorem hist_arg {d:DataW H} (h:∃ cs,PVC Tryz.prog W Imm (toPV Tryz.prog 8 76 d) cs) (hb:Rows.uptoBulk d ≤ 1048576):∃ h:List VerD,toPV Tryz.prog 8 76 d = eHist h ∧ histW h:=by
 obtain ⟨cs,h⟩:=h
 obtain ⟨f0,hu,t0⟩:=unHist
 obtain ⟨x,r,c0,hd,h1,h2⟩:=one_ofS (n:=7) hu (by rw [uidHist]; exact sz75) h
 rw [t0] at h1 h2
 have hx:Rows.uptoBulk x ≤ 1048576:=bulk_part (d:=x) (l:=x :: r) (by simp) (by rw [← hd]; exact hb)
 obtain ⟨l,e1,e2,e3⟩:=seq_ofB (n:=6) (fun v:VerD=>v.book.rows.length ≤ 1048576) un74 (fun d c hc hb=>ver_of d c hc hb) h2 hx
 exact ⟨l,by rw [h1,e1,uidHist]; rfl,e3,e2⟩
end
end Go.Abs
namespace Go.Proofs
open Go.Shelf
def Tryz.sortF_ren:Go.Shelf.Ren:=⟨fun | 6=>203 | 15=>222 | 14=>248 | 28=>270 | 29=>271 | 20=>284 | 21=>285 | 22=>286 | 23=>287 | 24=>288 | 25=>289 | 26=>290 | 27=>291 | 46=>317 | 47=>301 | 48=>302 | 49=>318 | 50=>319 | 57=>331 | n=>n,fun | 22=>74 | 24=>148 | 25=>303 | 3=>3 | 39=>261 | 0=>0 | 53=>317 | 55=>320 | 4=>4 | 46=>351 | 45=>350 | 50=>286 | 5=>5 | 9=>9 | 66=>378 | 70=>382 | 76=>397 | 77=>398 | n=>n,fun | n=>n⟩
theorem Tryz.sortF:Go.Proofs.SlLaysF0.n6 Tryz.prog Tryz.sortF_ren:={
 mixed:=by kernel_rfl
 f6:=⟨Tryz.f203.name,by decide,Tryz.func203.trans (congrArg some (by kernel_rfl))⟩
 f14:=⟨Tryz.f248.name,by decide,Tryz.func248.trans (congrArg some (by kernel_rfl))⟩
 f15:=Tryz.func222.trans (congrArg some (by kernel_rfl))
 f20:=⟨Tryz.f284.name,by decide,Tryz.func284.trans (congrArg some (by kernel_rfl))⟩
 f21:=⟨Tryz.f285.name,by decide,Tryz.func285.trans (congrArg some (by kernel_rfl))⟩
 f22:=⟨Tryz.f286.name,by decide,Tryz.func286.trans (congrArg some (by kernel_rfl))⟩
 f23:=⟨Tryz.f287.name,by decide,Tryz.func287.trans (congrArg some (by kernel_rfl))⟩
 f24:=⟨Tryz.f288.name,by decide,Tryz.func288.trans (congrArg some (by kernel_rfl))⟩
 f25:=⟨Tryz.f289.name,by decide,Tryz.func289.trans (congrArg some (by kernel_rfl))⟩
 f26:=⟨Tryz.f290.name,by decide,Tryz.func290.trans (congrArg some (by kernel_rfl))⟩
 f27:=⟨Tryz.f291.name,by decide,Tryz.func291.trans (congrArg some (by kernel_rfl))⟩
 f28:=Tryz.func270.trans (congrArg some (by kernel_rfl))
 f29:=Tryz.func271.trans (congrArg some (by kernel_rfl))
 f46:=⟨Tryz.f317.name,by decide,Tryz.func317.trans (congrArg some (by kernel_rfl))⟩
 f47:=Tryz.func301.trans (congrArg some (by kernel_rfl))
 f48:=Tryz.func302.trans (congrArg some (by kernel_rfl))
 f49:=⟨Tryz.f318.name,by decide,Tryz.func318.trans (congrArg some (by kernel_rfl))⟩
 f50:=⟨Tryz.f319.name,by decide,Tryz.func319.trans (congrArg some (by kernel_rfl))⟩
 f57:=⟨Tryz.f331.name,by decide,Tryz.func331.trans (congrArg some (by kernel_rfl))⟩
 t0:=Tryz.underlying0
 a0:=Tryz.isAgg0
 z0:=Tryz.sizeOf0
 v0:=Tryz.zeroValue0
 t3:=Tryz.underlying3
 a3:=Tryz.isAgg3
 z3:=Tryz.sizeOf3
 v3:=Tryz.zeroValue3
 t4:=Tryz.underlying4
 a4:=Tryz.isAgg4
 z4:=Tryz.sizeOf4
 v4:=Tryz.zeroValue4
 t5:=Tryz.underlying5
 a5:=Tryz.isAgg5
 z5:=Tryz.sizeOf5
 v5:=Tryz.zeroValue5
 t9:=Tryz.underlying9
 a9:=Tryz.isAgg9
 z9:=Tryz.sizeOf9
 v9:=Tryz.zeroValue9
 t22:=Tryz.underlying74
 a22:=Tryz.isAgg74
 z22:=Tryz.sizeOf74
 v22:=Tryz.zeroValue74
 t25:=Tryz.underlying303
 a25:=Tryz.isAgg303
 z25:=Tryz.sizeOf303
 v25:=Tryz.zeroValue303
 t39:=Tryz.underlying261
 a39:=Tryz.isAgg261
 z39:=Tryz.sizeOf261
 v39:=Tryz.zeroValue261
 t45:=Tryz.underlying350
 a45:=Tryz.isAgg350
 z45:=Tryz.sizeOf350
 v45:=Tryz.zeroValue350
 t46:=Tryz.underlying351
 a46:=Tryz.isAgg351
 z46:=Tryz.sizeOf351
 v46:=Tryz.zeroValue351
 t50:=Tryz.underlying286
 a50:=Tryz.isAgg286
 z50:=Tryz.sizeOf286
 v50:=Tryz.zeroValue286
 t53:=Tryz.underlying317
 a53:=Tryz.isAgg317
 z53:=Tryz.sizeOf317
 v53:=Tryz.zeroValue317
 t55:=Tryz.underlying320
 a55:=Tryz.isAgg320
 z55:=Tryz.sizeOf320
 v55:=Tryz.zeroValue320
 t66:=Tryz.underlying378
 a66:=Tryz.isAgg378
 z66:=Tryz.sizeOf378
 v66:=Tryz.zeroValue378
 t70:=Tryz.underlying382
 a70:=Tryz.isAgg382
 z70:=Tryz.sizeOf382
 v70:=Tryz.zeroValue382
 t76:=Tryz.underlying397
 a76:=Tryz.isAgg397
 z76:=Tryz.sizeOf397
 v76:=Tryz.zeroValue397
 t77:=Tryz.underlying398
 a77:=Tryz.isAgg398
 z77:=Tryz.sizeOf398
 v77:=Tryz.zeroValue398 }
end Go.Proofs
namespace Go.Proofs
open Go.Shelf Go.RowKit Go.Lib Go.Sort
set_option maxHeartbeats 1000000 in
theorem Tryz.isNaN247 (a:ByteArray) (W:World):Calls Tryz.prog 247 #[.string a] W fun e w'=>e = .returned (.bool false) ∧ w' = W:=by
 go_enter Tryz.func247,Tryz.ntmps247
 go_wp2
 go_ret
 exact ⟨rfl,rfl⟩
def cmpBy (a b:ByteArray):Int:=if Op.bytesLess a.toList b.toList = true then -1 else if (!a.toList == b.toList) = true then 1 else 0
set_option maxHeartbeats 1000000 in
theorem Tryz.compare202 (a b:ByteArray) (W:World):Calls Tryz.prog 202 #[.string a,.string b] W fun e w'=>e = .returned (.int .i64 (cmpBy a b)) ∧ w' = W:=by
 go_enter Tryz.func202,Tryz.ntmps202
 go_wp2_with (go_at_call 247; refine (Tryz.isNaN247 _ _).mono ?_; rintro e w' ⟨rfl,hw⟩; rw [hw])
 all_goals go_ret
 · refine ⟨?_,rfl⟩
   rw [cmpBy,if_pos (by assumption)]
   rfl
 · refine ⟨?_,rfl⟩
   rw [cmpBy,if_neg (by simp [*]),if_pos (by assumption)]
   rfl
 · refine ⟨?_,rfl⟩
   rw [cmpBy,if_neg (by simp [*]),if_neg (by simp [*])]
   rfl
structure VC where
 name:ByteArray
 c1:Value
 c2:Value
 c3:Value
 c4:Value
 o1:c1.oneCell' = true
 o2:c2.oneCell' = true
 o3:c3.oneCell' = true
 o4:c4.oneCell' = true
instance:Inhabited VC:=⟨⟨⟨#[]⟩,.bool false,.bool false,.bool false,.bool false,rfl,rfl,rfl,rfl⟩⟩
def VC.enc (x:VC):List Value:=[.string x.name,x.c1,x.c2,x.c3,x.c4]
set_option maxHeartbeats 1000000 in
theorem Tryz.closure204 (x y:VC) (W:World):Calls Tryz.prog 204 #[.agg x.enc.toArray,.agg y.enc.toArray] W fun e w'=>e = .returned (.int .i64 (cmpBy x.name y.name)) ∧ ∃ q os',w' = grow (W.drewN q) os':=by
 have hcon:=fun W'=>Tryz.compare202 x.name y.name W'
 generalize cmpBy x.name y.name = r at hcon ⊢
 obtain ⟨a,x1,x2,x3,x4,p1,p2,p3,p4⟩:=x
 obtain ⟨b,y1,y2,y3,y4,q1,q2,q3,q4⟩:=y
 simp only [VC.enc] at hcon ⊢
 go_enter Tryz.func204,Tryz.ntmps204
 go_wp2_with (go_at_call 202; refine (hcon _).mono ?_; rintro e w' ⟨rfl,rfl⟩)
 go_ret
 exact ⟨rfl,0,_,by rw [alloc_eq_grow,alloc_eq_grow,grow_grow]; rfl⟩
end Go.Proofs
namespace Go.Abs
open Go.Proofs
set_option maxRecDepth 100000
theorem sz_book:szs Tryz.prog 23 = some [1,1]:=by kernel_rfl
theorem sz_ver:szs Tryz.prog 147 = some [1,1,1,2]:=by kernel_rfl
section
variable {w:World} {Imm:Nat → Prop}
theorem seq_cell {es:List PV} {c:List Value} (h:PVC Tryz.prog w Imm (.seq es) c):∃ x:Value,c = [x] ∧ x.oneCell' = true:=by
 simp only [PVC] at h
 rcases h with ⟨_,h⟩ | ⟨_,_,_,_,_,_,_,_,_,_,_,h⟩
 · exact ⟨_,h,rfl⟩
 · exact ⟨_,h,rfl⟩
theorem str_cell {s:List Nat} {c:List Value} (h:PVC Tryz.prog w Imm (.str s) c):∃ x:ByteArray,c = [.string x] ∧ s = natsB x.data.toList:=by
 simp only [PVC] at h
 obtain ⟨b,h1,h2⟩:=h
 exact ⟨b,h1,h2⟩
theorem ver_cells {v:VerD} {c:List Value} (h:PVC Tryz.prog w Imm (eVer v) c):∃ x:VC,c = x.enc ∧ v.name = natsB x.name.data.toList:=by
 simp only [eVer,PVC,sz_ver] at h
 obtain ⟨l,css,h1,h2,h3⟩:=h
 cases h1
 simp only [PVCl] at h2
 obtain ⟨c0,r0,rfl,k0,_,c1,r1,rfl,k1,_,c2,r2,rfl,k2,_,c3,r3,rfl,k3,_,rfl⟩:=h2
 simp only [eBook,PVC,sz_book] at k3
 obtain ⟨l,css,h1,h2,rfl⟩:=k3
 cases h1
 simp only [PVCl] at h2
 obtain ⟨d0,s0,rfl,m0,_,d1,s1,rfl,m1,_,rfl⟩:=h2
 obtain ⟨x0,rfl,e0⟩:=str_cell k0
 simp only [PVC] at k1
 subst k1
 obtain ⟨x2,rfl,o2⟩:=seq_cell k2
 obtain ⟨x3,rfl,_⟩:=str_cell m0
 obtain ⟨x4,rfl,o4⟩:=seq_cell m1
 exact ⟨⟨x0,.int .i64 v.level,x2,.string x3,x4,rfl,o2,rfl,o4⟩,by rw [h3]; rfl,e0⟩
theorem vers_of : ∀ {l : List VerD} {css : List (List Value)}, PVCl Tryz.prog w Imm (List.replicate l.length 5) (l.map eVer) css →
    ∃ xs:List (VerD × VC),xs.map (·.1) = l ∧ css = xs.map (fun p=>p.2.enc) ∧ ∀ p ∈ xs,PVC Tryz.prog w Imm (eVer p.1) p.2.enc ∧ p.1.name = natsB p.2.name.data.toList
 | [],css,h=>⟨[],rfl,by simpa [PVCl] using h,by simp⟩
 | v :: l,css,h=>by
  simp only [List.length_cons,List.replicate_succ,List.map_cons,PVCl] at h
  obtain ⟨c,cs,rfl,h1,_,h2⟩:=h
  obtain ⟨x,rfl,hn⟩:=ver_cells h1
  obtain ⟨xs,g1,g2,g3⟩:=vers_of h2
  refine ⟨(v,x) :: xs,by simp [g1],by simp [g2],?_⟩
  intro p hp
  rcases List.mem_cons.1 hp with rfl | hp
  · exact ⟨h1,hn⟩
  · exact g3 p hp
theorem vers_to:∀ {xs:List (VerD × VC)},(∀ p ∈ xs,PVC Tryz.prog w Imm (eVer p.1) p.2.enc) → PVCl Tryz.prog w Imm (List.replicate xs.length 5) ((xs.map (·.1)).map eVer) (xs.map fun p=>p.2.enc)
 | [],_=>by simp [PVCl]
 | p :: r,h=>by
  simp only [List.length_cons,List.replicate_succ,List.map_cons,PVCl]
  exact ⟨_,_,rfl,h p List.mem_cons_self,rfl,vers_to fun q hq=>h q (List.mem_cons_of_mem _ hq)⟩
end
theorem perm_lift {α β:Type} (f:α → β) {l l':List β} (h:l'.Perm l):∀ zs:List α,zs.map f = l → ∃ zs':List α,zs'.Perm zs ∧ zs'.map f = l':=by
 induction h with
 | nil=>intro zs hz; exact ⟨[],by simpa using hz,rfl⟩
 | cons x _ ih =>
  intro zs hz
  cases zs with
  | nil=>simp at hz
  | cons z zs =>
   simp only [List.map_cons,List.cons.injEq] at hz
   obtain ⟨zs',p1,p2⟩:=ih zs hz.2
   exact ⟨z :: zs',p1.cons z,by simp [p2,hz.1]⟩
 | swap x y l =>
  intro zs hz
  match zs,hz with
  | a :: b :: r,hz =>
   simp only [List.map_cons,List.cons.injEq] at hz
   exact ⟨b :: a :: r,.swap a b r,by simp [hz]⟩
 | trans _ _ ih1 ih2 =>
  intro zs hz
  obtain ⟨z1,p1,p2⟩:=ih2 zs hz
  obtain ⟨z2,q1,q2⟩:=ih1 z1 p2
  exact ⟨z2,q1.trans p1,q2⟩
theorem flat_get {α:Type} (enc:α → List Value) (k:Nat) (hk:∀ x,(enc x).length = k) (k0:0 < k):∀ (l:List α) (t:Nat),t < l.length * k → (l.map enc).flatten[t]? = (l[t / k]?).bind fun x=>(enc x)[t % k]?
 | [],t,h=>by simp at h
 | x :: r,t,h=>by
  simp only [List.map_cons,List.flatten_cons]
  by_cases ht:t < k
  · rw [List.getElem?_append_left (by rw [hk]; exact ht),Nat.div_eq_of_lt ht,Nat.mod_eq_of_lt ht]; rfl
  · have h1:t / k = (t - k) / k + 1:=by rw [← Nat.add_div_right (t - k) k0,Nat.sub_add_cancel (by omega)]
    have h2:t % k = (t - k) % k:=by rw [← Nat.add_mod_right (t - k) k,Nat.sub_add_cancel (by omega)]
    rw [List.getElem?_append_right (by rw [hk]; omega),hk,flat_get enc k hk k0 r (t - k) (by simp only [List.length_cons,Nat.add_mul] at h; omega),h1,h2,List.getElem?_cons_succ]
theorem flatK_list (ds:List VC):(Go.Sort.flatK VC.enc 5 ds.toArray).toList = (ds.map VC.enc).flatten:=by
 apply List.ext_getElem?
 intro t
 by_cases ht:t < ds.length * 5
 · rw [flat_get VC.enc 5 (fun _=>rfl) (by omega) ds t ht]
   have hq:t / 5 < ds.length:=by omega
   have hm:t % 5 < (VC.enc ds[t / 5]).length:=by rw [show (VC.enc ds[t / 5]).length = 5 from rfl]; omega
   rw [List.getElem?_eq_getElem hq]
   simp only [Option.bind_some]
   rw [List.getElem?_eq_getElem hm,Array.getElem?_toList]
   have h3:t < (Go.Sort.flatK VC.enc 5 ds.toArray).size:=by simpa using ht
   rw [Array.getElem?_eq_getElem h3]
   have h4:=Go.Sort.get_flatK VC.enc 5 ds.toArray t (by simpa using ht)
   rw [getElem!_pos (Go.Sort.flatK VC.enc 5 ds.toArray) t h3] at h4
   rw [h4]
   simp [hq,hm]
 · have h1:(Go.Sort.flatK VC.enc 5 ds.toArray).toList.length ≤ t:=by simp; omega
   have h2:(ds.map VC.enc).flatten.length ≤ t:=by
    rw [List.length_flatten]
    have:((ds.map VC.enc).map List.length) = List.replicate ds.length 5:=by
     rw [List.map_map,List.eq_replicate_iff]
     exact ⟨by simp,fun b hb=>by obtain ⟨x,_,rfl⟩:=List.mem_map.1 hb; rfl⟩
    rw [this]; simp; omega
   rw [List.getElem?_eq_none h1,List.getElem?_eq_none h2]
theorem cmpBy_lt (a b:ByteArray):(cmpBy a b < 0) = (sLess (natsB a.data.toList) (natsB b.data.toList) = true):=by
 have h:Op.bytesLess a.toList b.toList = sLess (natsB a.data.toList) (natsB b.data.toList):=by
  rw [bytesLess_eq,sLess_eq,ByteArray.toList_eq,ByteArray.toList_eq]; rfl
 rw [cmpBy,h]
 cases sLess (natsB a.data.toList) (natsB b.data.toList) with
 | true=>simp
 | false =>
  simp
  split <;> omega
def cfV (x y:VC):Int:=cmpBy x.name y.name
theorem ltV (x y:VC):Go.Proofs.ltOf cfV x y = sLess (natsB x.name.data.toList) (natsB y.name.data.toList):=by
 simp only [Go.Proofs.ltOf,cfV,cmpBy_lt,Bool.decide_eq_true]
theorem swoV:Go.Sort.SWO (Go.Proofs.ltOf cfV) where
 irrefl x:=by rw [ltV,sLess_irr]
 trans x y z h1 h2:=by rw [ltV] at *; exact sLess_trans h1 h2
 ntrans x y z h1 h2:=by rw [ltV] at *; exact sLess_neg_trans h2 h1
theorem putCells_id {F:List Value} {l rest:List Value} {cs:Array Value} (h:cs.toList = l ++ rest) (hl:l.length = F.length):(Go.Sort.putCells id 0 F.toArray cs).toList = F ++ rest:=by
 have hsz:cs.size = l.length + rest.length:=by rw [← Array.length_toList,h]; simp
 apply List.ext_getElem
 · simp [Go.Sort.putCells,hsz,hl]
 · intro i h1 h2
   simp only [Go.Sort.putCells,Array.getElem_toList,Array.getElem_mapIdx,List.size_toArray,Nat.zero_le,Nat.zero_add,true_and,Nat.sub_zero]
   split
   · rename_i hi
     rw [List.getElem_append_left (by simpa using hi)]
     simp [hi]
   · rename_i hi
     rw [List.getElem_append_right (by simpa using hi)]
     have e:cs[i]'(by simpa [Go.Sort.putCells] using h1) = cs.toList[i]'(by simpa [Go.Sort.putCells] using h1):=by simp
     rw [e]
     simp only [h]
     rw [List.getElem_append_right (by omega)]
     simp [hl]
theorem sorted_asc {zs : List (VerD × VC)} (hz : ∀ p ∈ zs, p.1.name = natsB p.2.name.data.toList) (hn : (namesV (zs.map (·.1))).Nodup)
    (hs:Go.Sort.SortedIn (Go.Proofs.ltOf cfV) 0 zs.length (zs.map (·.2)).toArray):AscV (zs.map (·.1)):=by
 rw [AscV,List.pairwise_iff_getElem]
 intro i j hi hj hij
 simp only [List.length_map] at hi hj
 have h1:=hs i j (Nat.zero_le _) hij hj
 rw [ltV] at h1
 have gi:((zs.map (·.2)).toArray)[i]! = zs[i].2:=by simp [hi]
 have gj:((zs.map (·.2)).toArray)[j]! = zs[j].2:=by simp [hj]
 rw [gi,gj,← hz _ (List.getElem_mem hi),← hz _ (List.getElem_mem hj)] at h1
 simp only [List.getElem_map]
 cases h2:sLess zs[i].1.name zs[j].1.name with
 | true=>rfl
 | false =>
  have h3:=sLess_tri h2 h1
  rw [namesV,List.map_map,List.nodup_iff_pairwise_ne,List.pairwise_iff_getElem] at hn
  have h4:=hn i j (by simpa using hi) (by simpa using hj) hij
  simp at h4
  exact absurd h3 h4
theorem g_sortV {H : Heap} {b ver : Nat} {xs : List VerD} (hb : H[b]? = some (.arr .grow ver 5 (xs.map (AV.p ∘ eVer)))) (hne : xs ≠ []) (hlen : xs.length ≤ 1048576) (hnd : (namesV xs).Nodup) :
    GoodI Tryz.prog 203 H [.sl b ver 5 0 xs.length,.p (.func 204 [] [])] (H.set b (.arr .grow ver 5 ((sortV xs).map (AV.p ∘ eVer)))) (.p (.tup [])):=by
 refine ⟨isF203.enters,fun w Imm Prot β cargs hr ha hre=>?_⟩
 simp only [AVVl,AVV] at ha
 obtain ⟨v,vs,rfl,⟨_,hp⟩,v2,vs2,rfl,hf,rfl⟩:=ha
 simp only [PVV,PVVl] at hf
 obtain ⟨fv,cv,rfl,rfl,rfl⟩:=hf
 obtain ⟨_,_,hv⟩:=hp .grow _ hb
 have hnil:¬ isNilArr .grow (xs.map (AV.p ∘ eVer)):=fun h=>hne (by simpa using h.2)
 have hv:=hv hnil
 simp only [Nat.zero_mul,Nat.sub_zero] at hv
 subst hv
 rcases hr.objs b _ hb with h | ⟨cs,T,css,rest,k1,k2,k3,k4,k5,k6,k7,k8,k9⟩
 · exact (hnil h).elim
 have k2':PVCl Tryz.prog w Imm (List.replicate xs.length 5) (xs.map eVer) css:=by
  have:PVCl Tryz.prog w Imm (List.replicate (xs.map (AV.p ∘ eVer)).length 5) (xs.map eVer) css:=by
   rw [← AVCl_map (β:=β) (H:=H)]; simpa [Function.comp_def] using k2
  simpa using this
 obtain ⟨zs,g1,g2,g3⟩:=vers_of k2'
 have k7':¬ Imm (β.blk b) ∧ ¬ Prot (β.blk b):=by simpa [Held] using k7
 have hxl:xs.length = zs.length:=by rw [← g1]; simp
 have hfl:css.flatten = (Go.Sort.flatK VC.enc 5 (zs.map (·.2)).toArray).toList:=by rw [flatK_list,g2,List.map_map]; rfl
 have hblk:β.blk b < w.heap.size:=(Array.getElem?_eq_some_iff.1 k1).1
 have hH:Go.Sort.HoldsK VC.enc 5 w (β.blk b) 0 (zs.map (·.2)).toArray:=by
  intro j hj
  refine ⟨?_,by simp [World.frozen?,k1]⟩
  have e1:cs[j]? = some (Go.Sort.flatK VC.enc 5 (zs.map (·.2)).toArray)[j]!:=by
   rw [← Array.getElem?_toList,k3,hfl,List.getElem?_append_left (by simpa using hj),Array.getElem?_toList,Array.getElem?_eq_getElem hj,getElem!_pos (Go.Sort.flatK VC.enc 5 (zs.map (·.2)).toArray) j hj]
  simp [World.cell?,k1,e1]
 have hc := AnyQ.slices_SortFunc Tryz.sortF 5 Tryz.isAgg148 Tryz.sizeOf148 VC.enc (fun _ => rfl) (fun x v hv => by
     simp only [VC.enc,List.mem_cons,List.not_mem_nil,or_false] at hv
     rcases hv with rfl | rfl | rfl | rfl | rfl
     · rfl
     · exact x.o1
     · exact x.o2
     · exact x.o3
     · exact x.o4) cfV swoV 204 #[] (β.blk b) 0 (β.cap b) (zs.map (·.2)).toArray w isF204.enters (fun _ _ _ _ x y=>by simpa [cfV] using Tryz.closure204 x y _) hH hblk (by simp; omega)
 change Calls Tryz.prog 203 _ _ _ at hc
 simp only [List.size_toArray,List.length_map,← hxl] at hc
 refine hc.mono ?_
 rintro e w' ⟨rfl,d',n,os,hpm,hso,rfl⟩
 have hds:d'.size = zs.length:=by rw [hpm.1]; simp
 have hpl:d'.toList.Perm (zs.map (·.2)):=by
  have:=hpm.2.2
  rw [hxl] at this
  have e1:d'.extract 0 zs.length = d':=by rw [← hds]; simp
  have e2:((zs.map (·.2)).toArray).extract 0 zs.length = (zs.map (·.2)).toArray:=by
   have:zs.length = ((zs.map (·.2)).toArray).size:=by simp
   rw [this]; simp
  rw [e1,e2] at this
  exact this
 obtain ⟨ys,y1,y2⟩:=perm_lift (fun p:VerD × VC=>p.2) hpl zs rfl
 have hyl:ys.length = zs.length:=y1.length_eq
 have hd':d' = (ys.map (·.2)).toArray:=by rw [y2]
 have hyp:(ys.map (·.1)).Perm xs:=by rw [← g1]; exact y1.map _
 have hy3:∀ p ∈ ys,PVC Tryz.prog w Imm (eVer p.1) p.2.enc ∧ p.1.name = natsB p.2.name.data.toList:=fun p hp=>g3 p (y1.mem_iff.1 hp)
 have hasc:AscV (ys.map (·.1)):=by
  refine sorted_asc (fun p hp=>(hy3 p hp).2) ?_ ?_
  · exact ((hyp.map VerD.name).nodup_iff).2 hnd
  · rw [hyl,← hxl,← hd']; exact hso
 have hsv:ys.map (·.1) = sortV xs:=sortV_of hnd hyp hasc
 have hsl:(sortV xs).length = xs.length:=by rw [← hsv,hyp.length_eq]
 generalize hF:Go.Sort.flatK VC.enc 5 d' = F
 have hFl:F.toList = (ys.map fun p=>p.2.enc).flatten:=by rw [← hF,hd',flatK_list,List.map_map]; rfl
 have hFa:F = F.toList.toArray:=by simp
 have hcl:css.flatten.length = F.toList.length:=by
  rw [hfl,← hF]; simp [hds]
 have hnew:=putCells_id (F:=F.toList) k3 hcl
 rw [← hFa] at hnew
 generalize hcs:Go.Sort.putCells id 0 F cs = new at hnew
 have hst:HStep β H β (H.set b (.arr .grow ver 5 ((sortV xs).map (AV.p ∘ eVer)))):=set_step hb (.inr (.inl ⟨_,_,_,_,_,rfl,rfl,by simp [hsl]⟩))
 have hp1 := write_post hr hb hnil (o' := .arr .grow ver 5 ((sortV xs).map (AV.p ∘ eVer))) (fun h => hne (by
     have h0:sortV xs = []:=by simpa using h.2
     rw [h0] at hsl
     exact List.length_eq_zero_iff.1 hsl.symm)) (fun _ h=>h) k1 (new:=new) k7' hst
  (.inr ⟨new,T,ys.map fun p=>p.2.enc,rest,setRow_heap w _ _ _ T _ k1,by
   have:=vers_to (w:=w.setRow (β.blk b) new) (Imm:=Imm) (xs:=ys) (fun p hp=>PVC.mono (fun _ h=>h) (fun k hk=>setRow_other w (β.blk b) k new (fun e=>k7'.1 (by rw [← e]; exact hk))) _ _ (hy3 p hp).1)
   rw [hsv] at this
   have e:ys.length = ((sortV xs).map (AV.p ∘ eVer)).length:=by rw [List.length_map,hsl,hyl,hxl]
   rw [e] at this
   rw [← AVCl_map (β:=β) (H:=H.set b (.arr .grow ver 5 ((sortV xs).map (AV.p ∘ eVer))))] at this
   simpa [Function.comp_def] using this,by rw [hnew,hFl],by rw [← k4,← hcs]; simp [Go.Sort.putCells],by simpa [hsl] using k5,by simp,k7,by simp,k9⟩)
  (by simp only [Obj.refs]; rw [refsLtl_mem]; intro v hv; simp only [List.mem_map] at hv; obtain ⟨x,_,rfl⟩:=hv; trivial)
 have hp2:Post Tryz.prog Prot Imm (w.setRow (β.blk b) new) β _ Imm (sortWorldK VC.enc 5 w (β.blk b) 0 n d' os) β _ :=
  HRel.later hp1.rel (fun _ h => h) (fun _ h => .inl h) (fun k hk => by
      have:=hr.imm k hk
      simp only [Go.Proofs.sortWorldK,Go.Sort.putRowK,Go.Sort.grow,Array.size_append,Go.Sort.size_putRow]
      show k < (Go.Sort.ahead w n).heap.size + _
      simp only [Go.Sort.ahead]; omega)
   (by rw [setRow_size]; simp only [Go.Proofs.sortWorldK,Go.Sort.putRowK,Go.Sort.grow,Array.size_append,Go.Sort.size_putRow,Go.Sort.ahead]; omega)
   (fun k hk=>by
    rw [setRow_size] at hk
    simp only [Go.Proofs.sortWorldK,Go.Sort.putRowK,hF]
    have h1:(Go.Sort.grow (Go.Sort.putRow id (Go.Sort.ahead w n) (β.blk b) 0 F) os).heap[k]? = (Go.Sort.putRow id (Go.Sort.ahead w n) (β.blk b) 0 F).heap[k]?:=by
     simp only [Go.Sort.grow]
     rw [Array.getElem?_append_left (by simpa [Go.Sort.ahead] using hk)]
    rw [h1]
    by_cases hkb:k = β.blk b
    · subst hkb
      rw [setRow_heap w _ _ _ T _ k1]
      simp [Go.Sort.putRow,Go.Sort.mapBlock,Go.Sort.ahead,Go.Sort.onCells,Array.getElem?_modify,k1,hcs]
    · rw [setRow_other w _ k _ hkb]
      simp [Go.Sort.putRow,Go.Sort.mapBlock,Go.Sort.ahead,Array.getElem?_modify,Ne.symm hkb])
 exact ⟨_,β,Imm,rfl,hp1.trans hp2,by simp [AVV,PVV,PVVl],by simp [refsLt]⟩
end Go.Abs
namespace Go.Abs
abbrev Memo:=List (List Nat × Bool)
def memoGet:Memo → List Nat → Option Bool
 | [],_=>none
 | (a,b) :: r,k=>if a = k then some b else memoGet r k
def memoSet:Memo → List Nat → Bool → Memo
 | [],k,b=>[(k,b)]
 | (a,c) :: r,k,b=>if a = k then (a,b) :: r else (a,c) :: memoSet r k b
theorem memoGet_set (k j:List Nat) (b:Bool):∀ m:Memo,memoGet (memoSet m k b) j = if k = j then some b else memoGet m j
 | []=>by simp [memoSet,memoGet]
 | (a,c) :: r=>by
  have ih:=memoGet_set k j b r
  by_cases h:a = k
  · subst h
    by_cases h2:a = j <;> simp [memoSet,memoGet,h2]
  · by_cases h2:a = j
    · subst h2
      have h3:¬ k = a:=fun e=>h e.symm
      simp [memoSet,memoGet,h,h3]
    · simp [memoSet,memoGet,h,h2,ih]
def parsOf (h:List VerD) (k:List Nat):List (List Nat):=((verAt h k).map (·.parents)).getD []
def lev (h:List VerD) (k:List Nat):Int:=((verAt h k).map (·.level)).getD 0
def memoF (h:List VerD):Nat → Memo → List Nat → Memo × Bool
 | 0,m,_=>(m,false)
 | f + 1,m,k=>match memoGet m k with
  | some b=>(m,b)
  | none =>
   let r:=(parsOf h k).foldl (fun (s:Memo × Bool) p=>if s.2 = true then memoF h f s.1 p else s) (m,(verAt h k).isSome)
   (memoSet r.1 k r.2,r.2)
def MemoOk (h:List VerD) (m:Memo):Prop:=∀ k b,memoGet m k = some b → b = wholeS h k
theorem memoOk_nil {h:List VerD}:MemoOk h []:=fun k b hb=>by simp [memoGet] at hb
theorem memoOk_set {h:List VerD} {m:Memo} {k:List Nat} {b:Bool} (hm:MemoOk h m) (hb:b = wholeS h k):MemoOk h (memoSet m k b):=by
 intro j c hj
 rw [memoGet_set] at hj
 by_cases h1:k = j
 · subst h1; rw [if_pos rfl] at hj; cases hj; exact hb
 · rw [if_neg h1] at hj; exact hm j c hj
theorem par_level {h:List VerD} (ok:HistOk h) {k p:List Nat} {v x:VerD} (hv:verAt h k = some v) (hp:p ∈ v.parents) (hx:verAt h p = some x):x.level < v.level :=
 lvlBad_false ok.up (verAt_mem hv).1 hp hx
theorem memoF_ok {h:List VerD} (ok:HistOk h):∀ (f:Nat) (m:Memo) (k:List Nat),MemoOk h m → (∀ v,verAt h k = some v → v.level ≤ f) → MemoOk h (memoF h (f + 1) m k).1 ∧ (memoF h (f + 1) m k).2 = wholeS h k:=by
 intro f
 induction f with
 | zero =>
  intro m k hm hl
  have hn:verAt h k = none:=by
   cases hv:verAt h k with
   | none=>rfl
   | some v =>
    have h1:=hl v hv
    have h2:=(ok.lev v (verAt_mem hv).1).1
    simp at h1
    omega
  have hw:wholeS h k = false:=by rw [whole_eq ok,hn]; rfl
  rw [memoF]
  cases hg:memoGet m k with
  | some b=>exact ⟨hm,hm k b hg⟩
  | none =>
   simp only [parsOf,hn,Option.map_none,Option.getD_none,List.foldl_nil,Option.isSome_none]
   exact ⟨memoOk_set hm hw.symm,hw.symm⟩
 | succ f ih =>
  intro m k hm hl
  rw [memoF]
  cases hg:memoGet m k with
  | some b=>exact ⟨hm,hm k b hg⟩
  | none =>
   simp only []
   have key : ∀ (ps : List (List Nat)) (m : Memo) (b : Bool), MemoOk h m → (∀ p ∈ ps, ∀ x, verAt h p = some x → x.level ≤ f) →
       MemoOk h (ps.foldl (fun (s:Memo × Bool) p=>if s.2 = true then memoF h (f + 1) s.1 p else s) (m,b)).1 ∧ (ps.foldl (fun (s:Memo × Bool) p=>if s.2 = true then memoF h (f + 1) s.1 p else s) (m,b)).2 = (b && ps.all (wholeS h)):=by
    intro ps
    induction ps with
    | nil=>intro m b hm _; simpa using hm
    | cons p ps ih2 =>
     intro m b hm hp
     cases b with
     | false =>
      rw [List.foldl_cons]
      have:=ih2 m false hm (fun q hq=>hp q (List.mem_cons_of_mem _ hq))
      simpa using this
     | true =>
      rw [List.foldl_cons]
      obtain ⟨a1,a2⟩:=ih m p hm (hp p List.mem_cons_self)
      have:=ih2 (memoF h (f + 1) m p).1 (memoF h (f + 1) m p).2 a1 (fun q hq=>hp q (List.mem_cons_of_mem _ hq))
      simp only [if_true]
      rw [List.all_cons,← a2]
      simpa using this
   have hk:MemoOk h ((parsOf h k).foldl (fun (s:Memo × Bool) p=>if s.2 = true then memoF h (f + 1) s.1 p else s) (m,(verAt h k).isSome)).1 ∧ ((parsOf h k).foldl (fun (s:Memo × Bool) p=>if s.2 = true then memoF h (f + 1) s.1 p else s) (m,(verAt h k).isSome)).2 = wholeS h k:=by
    cases hv:verAt h k with
    | none =>
     have:=key [] m false hm (fun p hp=>by simp at hp)
     simp only [parsOf,hv,Option.map_none,Option.getD_none,Option.isSome_none]
     rw [whole_eq ok,hv]
     simpa using this
    | some v =>
     have:=key v.parents m true hm (fun p hp x hx=>by
      have h1:=par_level ok hv hp hx
      have h2:=hl v hv
      push_cast at h2
      omega)
     simp only [parsOf,hv,Option.map_some,Option.getD_some,Option.isSome_some]
     rw [whole_eq ok,hv]
     simpa using this
   exact ⟨memoOk_set hk.1 hk.2,hk.2⟩
def visM (h:List VerD):Nat → List (List Nat) → List Nat → List (List Nat)
 | 0,m,_=>m
 | f + 1,m,k=>if k ∈ m then m else (parsOf h k).foldl (visM h f) (m ++ [k])
theorem anc_iff {h:List VerD} (ok:HistOk h) (k a:List Nat):ancS h k a = true ↔ k = a ∨ ∃ p ∈ parsOf h k,ancS h p a = true:=by
 rw [anc_eq ok]
 cases hv:verAt h k with
 | none=>simp [parsOf,hv]
 | some v=>simp [parsOf,hv]
theorem lev_par {h:List VerD} (ok:HistOk h) {k p:List Nat} (hp:p ∈ parsOf h k):lev h p < lev h k:=by
 cases hv:verAt h k with
 | none=>simp [parsOf,hv] at hp
 | some v =>
  simp only [parsOf,hv,Option.map_some,Option.getD_some] at hp
  have h1:=(ok.lev v (verAt_mem hv).1).1
  cases hx:verAt h p with
  | none=>simp [lev,hv,hx]; omega
  | some x =>
   have:=par_level ok hv hp hx
   simpa [lev,hv,hx] using this
theorem visM_mem {h : List VerD} (ok : HistOk h) : ∀ (f : Nat) (m : List (List Nat)) (k : List Nat), lev h k ≤ f →
    (∀ x ∈ m,(∀ a,ancS h x a = true → a ∈ m) ∨ lev h k < lev h x) → ∀ a,a ∈ visM h (f + 1) m k ↔ a ∈ m ∨ ancS h k a = true:=by
 intro f
 induction f with
 | zero =>
  intro m k hl hc a
  have hn:parsOf h k = []:=by
   cases hp:parsOf h k with
   | nil=>rfl
   | cons p r =>
    have h1:=lev_par ok (k:=k) (p:=p) (by rw [hp]; exact List.mem_cons_self)
    have h2:0 ≤ lev h p:=by
     cases hx:verAt h p with
     | none=>simp [lev,hx]
     | some x=>have:=(ok.lev x (verAt_mem hx).1).1; simp [lev,hx]; omega
    simp at hl; omega
  rw [visM,hn,anc_iff ok,hn]
  by_cases hk:k ∈ m
  · rw [if_pos hk]
    constructor
    · exact .inl
    · rintro (h1 | h1 | ⟨p,hp,_⟩)
      · exact h1
      · exact h1 ▸ hk
      · simp at hp
  · rw [if_neg hk]
    simp only [List.foldl_nil,List.mem_append,List.mem_singleton,List.not_mem_nil,false_and,exists_false,or_false]
    constructor
    · rintro (h1 | h1)
      · exact .inl h1
      · exact .inr h1.symm
    · rintro (h1 | h1)
      · exact .inl h1
      · exact .inr h1.symm
 | succ f ih =>
  intro m k hl hc a
  rw [visM]
  by_cases hk:k ∈ m
  · rw [if_pos hk]
    refine ⟨.inl,?_⟩
    rintro (h1 | h1)
    · exact h1
    · rcases hc k hk with h2 | h2
      · exact h2 a h1
      · omega
  · rw [if_neg hk]
    have key : ∀ (ps : List (List Nat)) (m' : List (List Nat)), (∀ p ∈ ps, lev h p < lev h k) → (∀ x ∈ m', (∀ a, ancS h x a = true → a ∈ m') ∨ lev h k ≤ lev h x) →
        ∀ a,a ∈ ps.foldl (visM h (f + 1)) m' ↔ a ∈ m' ∨ ∃ p ∈ ps,ancS h p a = true:=by
     intro ps
     induction ps with
     | nil=>intro m' _ _ a; simp
     | cons p ps ih2 =>
      intro m' hp hm' a
      have hlp:=hp p List.mem_cons_self
      have hv:=ih m' p (by push_cast at hl; omega) (fun x hx=>by
       rcases hm' x hx with h1 | h1
       · exact .inl h1
       · exact .inr (by omega))
      rw [List.foldl_cons,ih2 (visM h (f + 1) m' p) (fun q hq=>hp q (List.mem_cons_of_mem _ hq)) (fun x hx=>by
       rcases (hv x).1 hx with h1 | h1
       · rcases hm' x h1 with h2 | h2
         · exact .inl fun b hb=>(hv b).2 (.inl (h2 b hb))
         · exact .inr h2
       · exact .inl fun b hb=>(hv b).2 (.inr (anc_trans ok h1 hb))),hv]
      simp only [List.mem_cons,exists_eq_or_imp,or_assoc]
    rw [key (parsOf h k) (m ++ [k]) (fun p hp=>lev_par ok hp) (fun x hx=>by
     rcases List.mem_append.1 hx with h1 | h1
     · rcases hc x h1 with h2 | h2
       · exact .inl fun b hb=>List.mem_append_left _ (h2 b hb)
       · exact .inr (by omega)
     · rw [List.mem_singleton] at h1; subst h1; exact .inr (Int.le_refl _)),anc_iff ok,List.mem_append,List.mem_singleton,or_assoc]
    constructor
    · rintro (h1 | h1 | h1)
      · exact .inl h1
      · exact .inr (.inl h1.symm)
      · exact .inr (.inr h1)
    · rintro (h1 | h1 | h1)
      · exact .inl h1
      · exact .inr (.inl h1.symm)
      · exact .inr (.inr h1)
theorem lev_le {h:List VerD} (ok:HistOk h) (k:List Nat):lev h k ≤ 256:=by
 cases hx:verAt h k with
 | none=>simp [lev,hx]
 | some x=>have:=(ok.lev x (verAt_mem hx).1).2; simp [lev,hx]; omega
def ancM (h:List VerD) (k:List Nat):List (List Nat):=visM h 257 [] k
theorem ancM_mem {h:List VerD} (ok:HistOk h) (k a:List Nat):a ∈ ancM h k ↔ ancS h k a = true:=by
 rw [ancM,visM_mem ok 256 [] k (lev_le ok k) (fun x hx=>by simp at hx)]
 simp
end Go.Abs
namespace Go.Abs
open Go.Proofs
set_option maxHeartbeats 4000000
set_option maxRecDepth 100000
def memoE (m:Memo):List (PV × PV):=m.map fun p=>(.str p.1,.bool p.2)
theorem look_memo (k:List Nat):∀ m:Memo,lookupM (memoE m) (.str k) = some ((memoGet m k).map .bool)
 | []=>by simp [memoE,lookupM,memoGet]
 | (a,b) :: r=>by
  have ih:=look_memo k r
  simp only [memoE,List.map_cons,lookupM,eqP,memoGet] at ih ⊢
  by_cases h:k = a
  · subst h; simp
  · have hb:(k == a) = false:=by simpa using h
    have h':¬ a = k:=fun e=>h e.symm
    rw [hb,if_neg h']
    simp only [ih]
theorem upd_memo (k:List Nat) (b:Bool):∀ m:Memo,updateM (memoE m) (.str k) (.bool b) = memoE (memoSet m k b)
 | []=>by simp [memoE,updateM,memoSet]
 | (a,c) :: r=>by
  have ih:=upd_memo k b r
  by_cases h:k = a
  · subst h; simp [memoE,updateM,eqP,memoSet]
  · have hb:(k == a) = false:=by simpa using h
    have h':¬ a = k:=fun e=>h e.symm
    simp only [memoE,List.map_cons,updateM,eqP,memoSet,hb,h',if_false] at ih ⊢
    simp [ih]
def gBox (h:List VerD):Obj:=.box false (.st 297 [.p (eHist h),.map 1])
def gHeap (h:List VerD) (m:Memo):Heap:=[gBox h,.map false (memoE m)]
theorem parsOf_get (h:List VerD) (k:List Nat):((verAt h k).getD zVer).parents = parsOf h k:=by
 cases hv:verAt h k <;> simp [parsOf,hv,zVer]
def foldW (h:List VerD) (f:Nat) (s:Memo × Bool) (p:List Nat):Memo × Bool:=if s.2 = true then memoF h f s.1 p else s
theorem foldl_take {α β:Type} (f:α → β → α) (a:α) {l:List β} {i:Nat} (hi:i < l.length):(l.take (i + 1)).foldl f a = f ((l.take i).foldl f a) l[i]:=by
 rw [List.take_succ_eq_append_getElem hi,List.foldl_append]; rfl
theorem memoF_some {h:List VerD} {f:Nat} {m:Memo} {k:List Nat} {b:Bool} (hg:memoGet m k = some b):memoF h (f + 1) m k = (m,b):=by
 rw [memoF,hg]
theorem memoF_none {h : List VerD} {f : Nat} {m : Memo} {k : List Nat} (hg : memoGet m k = none) :
    memoF h (f + 1) m k = (memoSet ((parsOf h k).foldl (foldW h f) (m,(verAt h k).isSome)).1 k ((parsOf h k).foldl (foldW h f) (m,(verAt h k).isSome)).2,((parsOf h k).foldl (foldW h f) (m,(verAt h k).isSome)).2):=by
 rw [memoF,hg]; rfl
theorem lev_nonneg {h:List VerD} (ok:HistOk h) (k:List Nat):0 ≤ lev h k:=by
 cases hx:verAt h k with
 | none=>simp [lev,hx]
 | some x=>have:=(ok.lev x (verAt_mem hx).1).1; simp [lev,hx]; omega
theorem pars_len {h:List VerD} (ok:HistOk h) (k:List Nat):(parsOf h k).length ≤ 2:=by
 cases hv:verAt h k with
 | none=>simp [parsOf,hv]
 | some v=>have:=ok.par v (verAt_mem hv).1; simpa [parsOf,hv] using this
theorem g_whole (h : List VerD) (ok : HistOk h) : ∀ (f : Nat) (m : Memo) (k : List Nat), lev h k ≤ f →
    GoodI Tryz.prog 165 (gHeap h m) [.ptr 0 [],.p (.str k)] (gHeap h (memoF h (f + 1) m k).1) (.p (.bool (memoF h (f + 1) m k).2)):=by
 intro f
 induction f using Nat.strongRecOn with
 | _ f ih =>
  intro m k hl
  refine goodI_fn nf isF165 mix (by simp [Tryz.f165]) ?_
  have hlen:h.length ≤ 1048576:=by have:=ok.len; omega
  cases hg:memoGet m k with
  | some b =>
   rw [memoF_some hg]
   simp [Tryz.f165,gHeap,gBox,look_memo,hg]
  | none =>
   rw [memoF_none hg]
   have hpl:=pars_len ok k
   have hV:=parsOf_get h k
   simp [Tryz.f165,gHeap,gBox,look_memo,hg]
   refine c2 (c_findV h k ok.asc hlen) ?_
   generalize (verAt h k).getD zVer = V at *
   have hE:=eVer_eq V
   rw [hV] at hE
   generalize (verAt h k).isSome = is0 at *
   simp [hE]
   refine lp (α:=Nat) (fun i=>⟨[(37,.p (.int .i64 i)),(36,.p (.int .i64 (parsOf h k).length)),(35,.p (.seq ((parsOf h k).map .str))),(9,.func 165 [.ptr 0 []] []),(8,.p (.bool (((parsOf h k).take i).foldl (foldW h f) (m,is0)).2)),(0,.ptr 0 []),(1,.p (.str k))],
    [.box false (.st 297 [.p (eHist h),.map 1]),.map false (memoE (((parsOf h k).take i).foldl (foldW h f) (m,is0)).1),.box false (.p (eVer V))]⟩) (fun i=>i ≤ (parsOf h k).length) (fun i=>(parsOf h k).length - i) 0 (by simp) ?_ (he:=by simp) (hh:=by simp [hE]) (hr:=by simp) (hr2:=by simp)
   rintro i k1
   have hw:=wi1 (i:=i) (by omega)
   by_cases hi:i < (parsOf h k).length
   · have hf:=foldl_take (foldW h f) (m,is0) hi
     have hlp:=lev_par ok (List.getElem_mem hi)
     have hnn:=lev_nonneg ok (parsOf h k)[i]
     obtain ⟨g,rfl⟩:∃ g,f = g + 1:=⟨f - 1,by omega⟩
     generalize ((parsOf h k).take i).foldl (foldW h (g + 1)) (m,is0) = S at *
     obtain ⟨M,b⟩:=S
     have hI:=ih g (by omega) M (parsOf h k)[i] (by push_cast at hl; omega)
     rw [foldW] at hf
     cases b with
     | false =>
      simp at hf
      simp [hi,hw]
      exact rd (i + 1) hi (hn:=by simp [hf]) (he:=by simp [hf]) (hh:=by simp [hf])
     | true =>
      simp only [if_true] at hf
      simp [hi]
      simp only [gHeap,gBox] at hI
      refine cf hI [0,1] ?_
      simp [hw,sig]
      exact rd (i + 1) hi (hn:=by simp [hf]) (he:=by simp [hf]) (hh:=by simp [hf])
   · have:i = (parsOf h k).length:=by omega
     subst this
     simp [upd_memo,look_memo]
     refine ForgetN.og (by simp) (by simp) (by simp) (by simp) (by simp)
def knowW (h:List VerD) (m:Memo) (k:List Nat):Memo:=(memoF h 257 m k).1
theorem knowW_ok {h:List VerD} (ok:HistOk h) {m:Memo} {k:List Nat} (hm:MemoOk h m):MemoOk h (knowW h m k) ∧ (memoF h 257 m k).2 = wholeS h k :=
 memoF_ok ok 256 m k hm fun v hv=>by have:=(ok.lev v (verAt_mem hv).1).2; omega
theorem g_wholeS {h : List VerD} (ok : HistOk h) {m : Memo} (hm : MemoOk h m) (k : List Nat) :
    GoodI Tryz.prog 165 [.box false (.st 297 [.p (eHist h),.map 1]),.map false (memoE m)] [.ptr 0 [],.p (.str k)] [.box false (.st 297 [.p (eHist h),.map 1]),.map false (memoE (knowW h m k))] (.p (.bool (wholeS h k))):=by
 have:=g_whole h ok 256 m k (lev_le ok k)
 rw [(knowW_ok ok hm).2] at this
 exact this
end Go.Abs
namespace Go.Abs
open Go.Proofs
set_option maxHeartbeats 4000000
set_option maxRecDepth 100000
def visH (h:List VerD) (m:Memo) (l:List (List Nat)):Heap :=
 [.box false (.st 297 [.p (eHist h),.map 1]),.map false (memoE m),.box false (.ptr 0 []),.map false (seenE l),.box false (.map 3),.box false (.func 199 [] [.ptr 4 [],.ptr 2 [],.ptr 5 []])]
theorem visM_in {h:List VerD} {f:Nat} {l:List (List Nat)} {k:List Nat} (hk:k ∈ l):visM h (f + 1) l k = l:=by rw [visM,if_pos hk]
theorem visM_out {h:List VerD} {f:Nat} {l:List (List Nat)} {k:List Nat} (hk:k ∉ l):visM h (f + 1) l k = (parsOf h k).foldl (visM h f) (l ++ [k]):=by rw [visM,if_neg hk]
theorem g_visit (h : List VerD) (ok : HistOk h) (m : Memo) : ∀ (f : Nat) (l : List (List Nat)) (k : List Nat), lev h k ≤ f →
    GoodI Tryz.prog 199 (visH h m l) [.p (.str k),.ptr 4 [],.ptr 2 [],.ptr 5 []] (visH h m (visM h (f + 1) l k)) (.p (.tup [])):=by
 intro f
 induction f using Nat.strongRecOn with
 | _ f ih =>
  intro l k hl
  refine goodI_fn nf isF199 mix (by simp [Tryz.f199]) ?_
  have hlen:h.length ≤ 1048576:=by have:=ok.len; omega
  by_cases hk:k ∈ l
  · rw [visM_in hk]
    simp [Tryz.f199,visH,look_seen,hk]
  · rw [visM_out hk]
    have hu:=upd_seen k l (by simpa using hk)
    have hpl:=pars_len ok k
    have hV:=parsOf_get h k
    simp [Tryz.f199,visH,look_seen,hk,hu]
    refine c2 (c_findV h k ok.asc hlen) ?_
    generalize (verAt h k).getD zVer = V at *
    have hE:=eVer_eq V
    rw [hV] at hE
    generalize (verAt h k).isSome = is0 at *
    simp [hE]
    refine lp (α:=Nat) (fun i=>⟨[(26,.p (.int .i64 i)),(25,.p (.int .i64 (parsOf h k).length)),(24,.p (.seq ((parsOf h k).map .str))),(3,.ptr 5 [])],
     visH h m (((parsOf h k).take i).foldl (visM h f) (l ++ [k])) ++ [.box false (.p (eVer V))]⟩) (fun i=>i ≤ (parsOf h k).length) (fun i=>(parsOf h k).length - i) 0 (by simp) ?_ (hn:=by simp [visH]) (he:=by simp) (hh:=by simp [hE,visH]) (hr:=by simp [visH]) (hr2:=by simp [visH])
    rintro i k1
    have hw:=wi1 (i:=i) (by omega)
    by_cases hi:i < (parsOf h k).length
    · have hf:=foldl_take (visM h f) (l ++ [k]) hi
      have hlp:=lev_par ok (List.getElem_mem hi)
      have hnn:=lev_nonneg ok (parsOf h k)[i]
      obtain ⟨g,rfl⟩:∃ g,f = g + 1:=⟨f - 1,by omega⟩
      generalize ((parsOf h k).take i).foldl (visM h (g + 1)) (l ++ [k]) = S at *
      have hI:=ih g (by omega) S (parsOf h k)[i] (by push_cast at hl; omega)
      simp only [visH] at hI
      simp [hi,visH]
      refine cf hI [0,1,2,3,4,5] ?_
      simp [hw,sig]
      exact rd (i + 1) hi (hn:=by simp [hf,visH]) (he:=by simp [hf]) (hh:=by simp [hf,visH]) (hr:=by simp [visH]) (hr2:=by simp [visH])
    · have:i = (parsOf h k).length:=by omega
      subst this
      simp [visH]
      refine ForgetN.og (by simp) (by simp) (by simp) (by simp) (by simp)
theorem g_ancestors {h : List VerD} (ok : HistOk h) (m : Memo) (k : List Nat) :
    GoodI Tryz.prog 125 [.box false (.st 297 [.p (eHist h),.map 1]),.map false (memoE m)] [.ptr 0 [],.p (.str k)] [.box false (.st 297 [.p (eHist h),.map 1]),.map false (memoE m),.hole,.map false (seenE (ancM h k))] (.map 3):=by
 refine goodI_fn nf isF125 mix (by simp [Tryz.f125]) ?_
 have hI:=g_visit h ok m 256 [] k (lev_le ok k)
 simp only [visH] at hI
 simp [Tryz.f125]
 refine cf hI [0,1,2,3,4,5] ?_ (hin:=by simp [sig,seenE])
 simp [sig]
 refine ForgetN.og (by simp) (by simp) (by simp [ancM]) (by simp) (by simp)
end Go.Abs
namespace Go.Abs
open Go.Proofs
set_option maxHeartbeats 4000000
set_option maxRecDepth 100000
def nameE (h:List VerD) (k:List Nat):Int:=firstE [whenE (!(verAt h k).isSome) 10,whenE (!wholeS h k) 24]
def namesE (h:List VerD):List (List Nat) → Int
 | []=>0
 | k :: r=>if nameE h k = 0 then namesE h r else nameE h k
def openE (h:List VerD) (l:List (List Nat)):Int:=firstE [chkHist h,namesE h l]
def memoL (h:List VerD) (l:List (List Nat)):Memo:=l.foldl (knowW h) []
theorem memoL_ok {h:List VerD} (ok:HistOk h) (l:List (List Nat)):MemoOk h (memoL h l):=by
 have:∀ (l:List (List Nat)) (m:Memo),MemoOk h m → MemoOk h (l.foldl (knowW h) m):=by
  intro l
  induction l with
  | nil=>intro m hm; exact hm
  | cons k r ih=>intro m hm; exact ih _ (knowW_ok ok hm).1
 exact this l [] memoOk_nil
theorem namesE_drop {h:List VerD} {l:List (List Nat)} {i:Nat} (hi:i < l.length):namesE h (l.drop i) = if nameE h l[i] = 0 then namesE h (l.drop (i + 1)) else nameE h l[i]:=by
 rw [List.drop_eq_getElem_cons hi,namesE]
theorem c_openErr (h : List VerD) (hb : histB h) (l : List (List Nat)) (hl : l.length ≤ 1000) (he : openE h l ≠ 0) :
    GoodC Tryz.prog 124 [eHist h,.seq (l.map .str)] (.tup [.nptr,.int .i64 (openE h l)]):=by
 refine good_fn nf isF124 mix (by simp [Tryz.f124]) ?_
 simp [Tryz.f124]
 refine c1 (c_checkHistory h hb) ?_
 by_cases hz:chkHist h = 0
 · have ok:=histOk hz
   have hlen:h.length ≤ 1048576:=by have:=ok.len; omega
   have e0:openE h l = namesE h l:=by rw [openE,hz]; simp [firstE]; exact fun h=>h.symm
   rw [e0] at he ⊢
   simp [hz]
   refine lp (α:=Nat) (fun i=>⟨[(24,.p (.int .i64 i)),(23,.p (.int .i64 l.length)),(22,.p (.seq (l.map .str))),(7,.ptr 2 []),(2,.ptr 0 [])],[.box false (.p (eHist h)),.map false (memoE (memoL h (l.take i))),.box false (.st 297 [.p (eHist h),.map 1])]⟩) (fun i=>i ≤ l.length ∧ namesE h l = namesE h (l.drop i)) (fun i=>l.length - i) 0 (by simp) ?_ (hh:=by simp [memoL,memoE])
   rintro i ⟨k1,k2⟩
   have hw:=wi1 (i:=i) (by omega)
   by_cases hi:i < l.length
   · have hf:memoL h (l.take (i + 1)) = knowW h (memoL h (l.take i)) l[i]:=foldl_take (knowW h) [] hi
     have hmo:=memoL_ok ok (l.take i)
     rw [namesE_drop hi] at k2
     have hI:=g_wholeS ok hmo l[i]
     simp [hi]
     refine c2 (c_findV h l[i] ok.asc hlen) ?_
     simp
     refine c2 (c_when (!(verAt h l[i]).isSome) 10) ?_
     simp
     refine cf hI [2,1] ?_
     simp [sig]
     refine c2 (c_when (!wholeS h l[i]) 24) ?_
     simp
     refine cp (h1:=?g1) (c_first [whenE (!(verAt h l[i]).isSome) 10,whenE (!wholeS h l[i]) 24] (by simp)) (by simp; exact ⟨rfl,rfl⟩) ?_
     case g1=>simp
     rw [← nameE]
     by_cases hn:nameE h l[i] = 0
     · rw [if_pos hn] at k2
       simp [hn,hw]
       exact rd (i + 1) ⟨hi,k2⟩ (hh:=by simp [hf])
     · rw [if_neg hn] at k2
       simp [hn,k2]
   · have:i = l.length:=by omega
     subst this
     rw [List.drop_length] at k2
     exact absurd k2 (by simpa [namesE] using he)
 · have e0:openE h l = chkHist h:=by rw [openE]; simp [firstE,hz]
   rw [e0]
   simp [hz]
theorem g_openN (h : List VerD) (hb : histB h) (l : List (List Nat)) (hl : l.length ≤ 1000) (v : Nat) (he : openE h l = 0) :
    GoodI Tryz.prog 124 [.arr .exact v 1 (l.map (AV.p ∘ PV.str))] [.p (eHist h),.sl 0 v 1 0 l.length] [.arr .exact v 1 (l.map (AV.p ∘ PV.str)),.hole,.map false (memoE (memoL h l)),.box false (.st 297 [.p (eHist h),.map 2])] (.tup [.ptr 3 [],.p (.int .i64 0)]):=by
 refine goodI_fn nf isF124 mix (by simp [Tryz.f124]) ?_
 rw [openE,firstE_zero] at he
 have hz:=he _ List.mem_cons_self
 have he2:=he _ (List.mem_cons_of_mem _ List.mem_cons_self)
 have ok:=histOk hz
 have hlen:h.length ≤ 1048576:=by have:=ok.len; omega
 simp [Tryz.f124]
 refine c1 (c_checkHistory h hb) ?_
 simp [hz]
 refine lp (α:=Nat) (fun i=>⟨[(24,.p (.int .i64 i)),(23,.p (.int .i64 l.length)),(22,.sl 0 v 1 0 l.length),(7,.ptr 3 []),(2,.ptr 1 [])],[.arr .exact v 1 (l.map (AV.p ∘ PV.str)),.box false (.p (eHist h)),.map false (memoE (memoL h (l.take i))),.box false (.st 297 [.p (eHist h),.map 2])]⟩) (fun i=>i ≤ l.length ∧ namesE h (l.drop i) = 0) (fun i=>l.length - i) 0 (by simpa using he2) ?_ (hh:=by simp [memoL,memoE])
 rintro i ⟨k1,k2⟩
 have hw:=wi1 (i:=i) (by omega)
 by_cases hi:i < l.length
 · have hf:memoL h (l.take (i + 1)) = knowW h (memoL h (l.take i)) l[i]:=foldl_take (knowW h) [] hi
   have hmo:=memoL_ok ok (l.take i)
   rw [namesE_drop hi] at k2
   have hn:nameE h l[i] = 0:=by
    by_cases hn:nameE h l[i] = 0
    · exact hn
    · rw [if_neg hn] at k2; exact k2
   rw [if_pos hn] at k2
   have hI:=g_wholeS ok hmo l[i]
   simp [hi]
   refine c2 (c_findV h l[i] ok.asc hlen) ?_
   simp
   refine c2 (c_when (!(verAt h l[i]).isSome) 10) ?_
   simp
   refine cf hI [3,2] ?_
   simp [sig]
   refine c2 (c_when (!wholeS h l[i]) 24) ?_
   simp
   refine cp (h1:=?g1) (c_first [whenE (!(verAt h l[i]).isSome) 10,whenE (!wholeS h l[i]) 24] (by simp)) (by simp; exact ⟨rfl,rfl⟩) ?_
   case g1=>simp
   rw [← nameE]
   simp [hn,hw]
   exact rd (i + 1) ⟨hi,k2⟩ (hh:=by simp [hf])
 · have:i = l.length:=by omega
   subst this
   simp
   refine ForgetN.og (by simp) (by simp) (by simp) (by simp) (by simp)
end Go.Abs
namespace Go.Abs
open Go.Proofs
set_option maxHeartbeats 4000000
set_option maxRecDepth 100000
theorem names_take (h:List VerD) (p:VerD → Bool) {i:Nat} (hi:i < h.length):namesV ((h.take (i + 1)).filter p) = namesV ((h.take i).filter p) ++ (if p h[i] = true then [h[i].name] else []):=by
 rw [List.take_succ_eq_append_getElem hi,List.filter_append,namesV,List.map_append]
 cases hp:p h[i] <;> simp [hp,namesV]
theorem names_lt (h:List VerD) (p:VerD → Bool) (i:Nat):(namesV ((h.take i).filter p)).length ≤ i:=by
 have:=List.length_filter_le p (h.take i)
 simp only [namesV,List.length_map,List.length_take] at *
 omega
end Go.Abs
namespace Go.Abs
open Go.Proofs
set_option maxHeartbeats 4000000
set_option maxRecDepth 100000
def zV:PV:=.st 147 [.str [],.int .i64 0,.nsl,.st 23 [.str [],.nsl]]
def oV:Option VerD → PV
 | some v=>eVer v
 | none=>zV
@[simp] theorem shp_zV:shp zV = .agg 147:=rfl
@[simp] theorem shp_oV {o:Option VerD}:shp (oV o) = .agg 147:=by cases o <;> rfl
def bestStep (c:Option VerD) (v:VerD):Option VerD:=match c with
 | none=>some v
 | some x=>if v.level ≤ x.level then some x else some v
theorem bestR_cons (v:VerD) (r:List VerD) (c:Option VerD):bestR (v :: r) c = bestR r (bestStep c v):=by
 cases c <;> rfl
theorem base_all (h:List VerD) (a b:List Nat):bestR (h.reverse.filter fun v=>ancS h a v.name && ancS h b v.name) none = baseS h a b:=by
 rw [List.filter_reverse,best_rev,baseS]
theorem g_base {h : List VerD} (ok : HistOk h) (M : Memo) (a b : List Nat) :
    GoodI Tryz.prog 126 [.box false (.st 297 [.p (eHist h),.map 1]),.map false (memoE M)] [.ptr 0 [],.p (.str a),.p (.str b)] [.box false (.st 297 [.p (eHist h),.map 1]),.map false (memoE M)] (.p (.tup [oV (baseS h a b),.bool (baseS h a b).isSome])):=by
 refine goodI_fn nf isF126 mix (by simp [Tryz.f126]) ?_
 have hlen:h.length ≤ 256:=ok.len
 have hA:=g_ancestors ok M a
 have hB:=g_ancestors ok M b
 simp [Tryz.f126]
 refine cf hA [0,1] ?_
 simp [sig]
 refine cf hB [0,1] ?_
 simp [sig,eHist]
 refine lp (α:=Nat × Option VerD) (fun (i,c)=>⟨[(26,.p (.int .i64 i)),(25,.p (.int .i64 h.length)),(11,.p (.bool c.isSome)),(10,.ptr 7 []),(9,.map 6),(8,.map 4),(6,.ptr 2 []),(0,.ptr 0 [])],[.box false (.st 297 [.p (eHist h),.map 1]),.map false (memoE M),.box false (.p zV),.hole,.map false (seenE (ancM h a)),.hole,.map false (seenE (ancM h b)),.box false (.p (oV c))]⟩)
  (fun (i,c)=>i ≤ h.length ∧ bestR ((h.reverse.drop i).filter fun v=>ancS h a v.name && ancS h b v.name) c = baseS h a b) (fun (i,_)=>h.length - i) (0,none) ⟨by simp,by simpa using base_all h a b⟩ ?_ (hn:=by simp [eHist]) (he:=by simp) (hh:=by simp [eHist,oV,zV]) (hr:=by simp) (hr2:=by simp)
 rintro ⟨i,c⟩ ⟨k1,k2⟩
 dsimp only at k1 k2 ⊢
 have hw:=wi1 (i:=i) (by omega)
 by_cases hi:i < h.length
 · have hiz:(i:Int) < (h.length:Int):=by omega
   have hw1:IntKind.i64.wrap ((h.length:Int) - 1) = (h.length:Int) - 1:=by rw [wi64] <;> omega
   have hw2:IntKind.i64.wrap ((h.length:Int) - 1 - (i:Int)) = ((h.length - 1 - i:Nat):Int):=by rw [wi64] <;> omega
   have hx:h.length - 1 - i < h.length:=by omega
   have hrv:h.reverse[i]'(by simpa using hi) = h[h.length - 1 - i]:=by rw [List.getElem_reverse]
   rw [List.drop_eq_getElem_cons (by simpa using hi),hrv] at k2
   generalize hX:h.length - 1 - i = x at *
   have hE:=eVer_eq h[x]
   have a1:=ancM_mem ok a h[x].name
   have a2:=ancM_mem ok b h[x].name
   have hEH:eHist h = .st 75 [.seq (h.map eVer)]:=rfl
   cases hq1:ancS h a h[x].name with
   | false =>
    simp only [hq1,iff_true,iff_false,Bool.false_eq_true] at a1
    rw [List.filter_cons_of_neg (by simp [hq1])] at k2
    simp [hiz,hw1,hw2,hx,hEH,hE,look_seen,a1]
    refine ⟨rfl,?_⟩
    simp [hw]
    exact rd (i + 1,c) ⟨hi,k2⟩ (h1:=by dsimp only; omega) (hn:=by simp [hEH]) (hh:=by simp [hEH])
   | true =>
    simp only [hq1,iff_true,iff_false,Bool.false_eq_true] at a1
    cases hq2:ancS h b h[x].name with
    | false =>
     simp only [hq2,iff_true,iff_false,Bool.false_eq_true] at a2
     rw [List.filter_cons_of_neg (by simp [hq2])] at k2
     simp [hiz,hw1,hw2,hx,hEH,hE,look_seen,a1,a2]
     refine ⟨rfl,?_⟩
     simp [hw]
     exact rd (i + 1,c) ⟨hi,k2⟩ (h1:=by dsimp only; omega) (hn:=by simp [hEH]) (hh:=by simp [hEH])
    | true =>
     simp only [hq2,iff_true,iff_false,Bool.false_eq_true] at a2
     rw [List.filter_cons_of_pos (by simp [hq1,hq2]),bestR_cons] at k2
     cases c with
     | none =>
      simp [hiz,hw1,hw2,hx,hEH,hE,look_seen,a1,a2]
      refine ⟨rfl,?_⟩
      simp [hw]
      exact rd (i + 1,some h[x]) ⟨hi,k2⟩ (h1:=by dsimp only; omega) (hn:=by simp [hEH]) (hh:=by simp [hEH,oV,hE])
     | some y =>
      by_cases hl:h[x].level ≤ y.level
      · simp only [bestStep,hl,if_true] at k2
        simp [hiz,hw1,hw2,hx,hEH,hE,look_seen,a1,a2,oV,eVer_eq y,hl]
        refine ⟨rfl,?_⟩
        simp [hw]
        exact rd (i + 1,some y) ⟨hi,k2⟩ (h1:=by dsimp only; omega) (hn:=by simp [hEH]) (hh:=by simp [hEH,oV,eVer_eq y])
      · simp only [bestStep,hl,if_false] at k2
        simp [hiz,hw1,hw2,hx,hEH,hE,look_seen,a1,a2,oV,eVer_eq y,hl]
        refine ⟨rfl,?_⟩
        simp [hw]
        exact rd (i + 1,some h[x]) ⟨hi,k2⟩ (h1:=by dsimp only; omega) (hn:=by simp [hEH]) (hh:=by simp [hEH,oV,hE])
 · have:i = h.length:=by omega
   subst this
   rw [List.drop_of_length_le (by simp),List.filter_nil] at k2
   change c = _ at k2
   subst k2
   simp [eHist]
   refine ForgetN.og (by simp [eHist]) (by simp) (by simp [eHist]) (by simp) (by simp)
def ancE (h:List VerD) (k:List Nat):List (List Nat):=if openE h [k] ≠ 0 then [] else ancL h k
theorem c_ancestors (h:List VerD) (hb:histB h) (k:List Nat):GoodC Tryz.prog 44 [eHist h,.str k] (.tup [.seq ((ancE h k).map .str),.int .i64 (openE h [k])]):=by
 refine good_fn nf isF44 mix (by simp [Tryz.f44]) ?_
 by_cases hz:¬ openE h [k] = 0
 · have hc:=c_openErr h hb [k] (by simp) hz
   simp [Tryz.f44]
   refine cp (h1:=?g1) hc (by simp; exact ⟨rfl,rfl⟩) ?_
   case g1=>simp
   simp [hz,ancE]
   try rfl
 replace hz:openE h [k] = 0:=by simpa using hz
 have hz1:chkHist h = 0:=by
  rw [openE,firstE_zero] at hz
  exact hz _ List.mem_cons_self
 have ok:=histOk hz1
 have hlen:h.length ≤ 256:=ok.len
 have hO:=g_openN h hb [k] (by simp) 0 hz
 simp at hO
 simp [Tryz.f44]
 refine cf hO [1] ?_
 simp [sig]
 have hA:=g_ancestors ok (memoL h [k]) k
 refine cf hA [4,3] ?_
 simp [sig,eHist]
 have hmem:∀ v:VerD,v.name ∈ ancM h k ↔ ancS h k v.name = true:=fun v=>ancM_mem ok k v.name
 refine lp (α:=Nat) (fun i=>⟨[(28,.p (.int .i64 i)),(27,.p (.int .i64 h.length)),(26,.p (.seq (h.map eVer))),(9,.sl 7 (namesV ((h.take i).filter fun v=>ancS h k v.name)).length 1 0 (namesV ((h.take i).filter fun v=>ancS h k v.name)).length),(8,.map 6)],[.hole,.hole,.hole,.hole,.hole,.hole,.map false (seenE (ancM h k)),.arr .grow (namesV ((h.take i).filter fun v=>ancS h k v.name)).length 1 ((namesV ((h.take i).filter fun v=>ancS h k v.name)).map (AV.p ∘ PV.str))]⟩)
  (fun i=>i ≤ h.length) (fun i=>h.length - i) 0 (by simp) ?_ (he:=by simp [namesV]) (hh:=by simp [namesV])
 rintro i k1
 have hw:=wi1 (i:=i) (by omega)
 have hnl:=names_lt h (fun v=>ancS h k v.name) i
 by_cases hi:i < h.length
 · have hiz:(i:Int) < (h.length:Int):=by omega
   have hE:=eVer_eq h[i]
   have hns:=names_take h (fun v=>ancS h k v.name) hi
   have hm:=hmem h[i]
   generalize namesV ((h.take i).filter fun v=>ancS h k v.name) = L at *
   cases hq:ancS h k h[i].name with
   | false =>
    simp only [hq,iff_false,Bool.false_eq_true] at hm
    simp [hq] at hns
    simp [hiz,hi,hE,look_seen,hm,hw]
    exact rd (i + 1) hi (he:=by simp [hns]) (hh:=by simp [hns]) (hr:=by simp [hns]) (hr2:=by simp [hns])
   | true =>
    simp only [hq,iff_true] at hm
    simp [hq] at hns
    simp [hiz,hi,hE,look_seen,hm,hw]
    refine ⟨by simp only [maxL]; omega,?_⟩
    exact rd (i + 1) hi (he:=by simp [hns]) (hh:=by simp [hns]) (hr:=by simp [hns]) (hr2:=by simp [hns])
 · have:i = h.length:=by omega
   subst this
   simp [ancE,ancL,hz]
def baseN (h:List VerD) (a b:List Nat):List Nat:=if openE h [a,b] ≠ 0 then [] else match baseS h a b with
 | some v=>v.name
 | none=>[]
def baseE (h:List VerD) (a b:List Nat):Int:=if openE h [a,b] ≠ 0 then openE h [a,b] else whenE (!(baseS h a b).isSome) 7
theorem c_base (h:List VerD) (hb:histB h) (a b:List Nat):GoodC Tryz.prog 45 [eHist h,.str a,.str b] (.tup [.str (baseN h a b),.int .i64 (baseE h a b)]):=by
 refine good_fn nf isF45 mix (by simp [Tryz.f45]) ?_
 by_cases hz:¬ openE h [a,b] = 0
 · have hc:=c_openErr h hb [a,b] (by simp) hz
   simp [Tryz.f45]
   refine cp (h1:=?g1) hc (by simp; exact ⟨rfl,rfl⟩) ?_
   case g1=>simp
   simp [hz,baseN,baseE]
   try rfl
 replace hz:openE h [a,b] = 0:=by simpa using hz
 have hz1:chkHist h = 0:=by
  rw [openE,firstE_zero] at hz
  exact hz _ List.mem_cons_self
 have ok:=histOk hz1
 have hO:=g_openN h hb [a,b] (by simp) 0 hz
 simp at hO
 simp [Tryz.f45]
 refine cf hO [1] ?_
 simp [sig]
 have hA:=g_base ok (memoL h [a,b]) a b
 refine cf hA [4,3] ?_
 simp only [baseN,baseE,hz]
 cases hq:baseS h a b with
 | none =>
  simp [sig,oV,zV]
  refine e2 (c_when true 7) ?_
  simp [hz]
 | some v =>
  simp [sig,oV,eVer_eq v]
  refine e2 (c_when false 7) ?_
  simp [hz]
end Go.Abs
namespace Go.Abs
open Go.Proofs
set_option maxHeartbeats 4000000
set_option maxRecDepth 100000
theorem compact_len {l xs:List (List Nat)} (hn:l.Nodup) (hs:∀ a ∈ l,a ∈ xs):l.length ≤ xs.length:=by
 induction l generalizing xs with
 | nil=>simp
 | cons a r ih =>
  rw [List.nodup_cons] at hn
  have ha:=hs a List.mem_cons_self
  have h1:=ih (xs:=xs.erase a) hn.2 (fun b hb=>(List.mem_erase_of_ne (fun e=>hn.1 (by rw [← e]; exact hb))).2 (hs b (List.mem_cons_of_mem _ hb)))
  rw [List.length_erase_of_mem ha] at h1
  have:0 < xs.length:=List.length_pos_of_mem ha
  simp only [List.length_cons]; omega
end Go.Abs
namespace Go.Abs
open Go.Proofs
set_option maxHeartbeats 4000000
set_option maxRecDepth 100000
theorem insVr_pos (v:VerD):∀ h:List VerD,insVr h v = h.take (posV h v.name) ++ v :: h.drop (posV h v.name)
 | []=>by simp [insVr,posV]
 | x :: r=>by
  have ih:=insVr_pos v r
  by_cases hx:sLess x.name v.name = true
  · have e:posV (x :: r) v.name = posV r v.name + 1:=by simp [posV,List.takeWhile_cons,hx]
    rw [e]
    simp [insVr,hx,ih]
  · have e:posV (x :: r) v.name = 0:=by simp [posV,List.takeWhile_cons,hx]
    rw [e]
    simp [insVr,hx]
theorem pos_get (k:List Nat):∀ (h:List VerD) (i:Nat),i ≤ posV h k → (posV h k = i ↔ ∀ hi:i < h.length,sLess h[i].name k = false)
 | [],i,h=>by simp [posV] at h; simp [h,posV]
 | x :: r,i,h=>by
  by_cases hx:sLess x.name k = true
  · have e:posV (x :: r) k = posV r k + 1:=by simp [posV,List.takeWhile_cons,hx]
    rw [e] at h ⊢
    cases i with
    | zero=>simp [hx]
    | succ i=>have:=pos_get k r i (by omega); simpa using this
  · have e:posV (x :: r) k = 0:=by simp [posV,List.takeWhile_cons,hx]
    rw [e] at h ⊢
    have:i = 0:=by omega
    subst this
    simp [hx]
theorem purl_vers {H:Heap} {n m:Nat} {l:List VerD} (hm:l.length ≤ m):Purl H n (List.take m (l.map (AV.p ∘ rVer))) (l.map rVer):=by
 rw [List.take_of_length_le (by simpa using hm)]
 have:=purl_map (H:=H) (n:=n) (g:=fun s=>AV.p (rVer s)) (f:=rVer) (l:=l)
 simp only [Function.comp_def]
 rw [this]; intro x _; simp
theorem c_put (h:List VerD) (v:VerD) (hl:h.length ≤ 1000000):GoodC Tryz.prog 136 [.seq (h.map rVer),rVer v] (.seq ((insVr h v).map rVer)):=by
 refine good_fn nf isF136 mix (by simp [Tryz.f136]) ?_
 have hVE:=rVer_eq v
 have hle:=pos_le h v.name
 simp [Tryz.f136]
 refine lp (α:=Nat) (fun i=>⟨[(5,.p (.int .i64 i)),(3,.ptr 0 []),(0,.p (.seq (h.map rVer)))],[.box false (.p (rVer v))]⟩) (fun i=>i ≤ posV h v.name) (fun i=>h.length - i) 0 (by simp) ?_
 rintro i h1
 have hg:=pos_get v.name h i h1
 by_cases hi:i < h.length
 · have hw:=wi1 (i:=i) (by omega)
   have hE:=rVer_eq h[i]
   cases hs:sLess h[i].name v.name
   · have he:posV h v.name = i:=hg.2 fun _=>hs
     have hfin:=insVr_pos v h
     rw [he] at hfin
     have hl0:h ≠ []:=by intro e; subst e; simp at hi
     have hmin:min i h.length = i:=by omega
     have hA:(List.take i (h.map (AV.p ∘ rVer)) ++ [.p (rVer v)]) ++ List.drop i (h.map (AV.p ∘ rVer)) = (insVr h v).map (AV.p ∘ rVer):=by
      rw [hfin]; simp [List.map_take,List.map_drop]
     have hT:List.take (i + 1) (List.take i (h.map (AV.p ∘ rVer)) ++ [.p (rVer v)]) = List.take i (h.map (AV.p ∘ rVer)) ++ [.p (rVer v)]:=List.take_of_length_le (by simp; omega)
     have hL:(insVr h v).length = h.length + 1:=by rw [hfin]; simp; omega
     have hil:¬ h.length ≤ i:=by omega
     by_cases h0:i = 0
     · subst h0
       simp at hA
       simp [hi,hE,hVE,sLess_eq,hs,hl0]
       simp only [← hVE,hA]
       exact ⟨shpVerR h,by simp only [maxL]; omega,shpVerR h,⟨shpVerR h,by simp only [maxL]; omega⟩,⟨rfl,rfl⟩,by omega,purl_vers (by omega)⟩
     · simp [hi,hE,hVE,sLess_eq,hs,h0,hl0,hmin,hil]
       simp only [← hVE,hT,hA]
       have s1:allShp Tryz.prog 5 (List.take i (h.map (AV.p ∘ rVer))):=by rw [← List.map_take]; exact shpVerR _
       have s2:allShp Tryz.prog 5 (List.drop i (h.map (AV.p ∘ rVer))):=by rw [← List.map_drop]; exact shpVerR _
       exact ⟨⟨by omega,shpVerR h⟩,⟨s1,by simp only [maxL]; omega⟩,by simp only [maxL]; omega,⟨by omega,shpVerR h⟩,⟨s2,by simp only [maxL]; omega⟩,⟨rfl,rfl⟩,purl_vers (by omega)⟩
   · have hne:posV h v.name ≠ i:=fun e=>by have:=hg.1 e hi; rw [hs] at this; cases this
     simp [hi,hE,hVE,sLess_eq,hs,hw]
     exact rd (i + 1) (by omega) (hh:=by simp [hVE])
 · have:i = h.length:=by omega
   subst this
   have he:posV h v.name = h.length:=by omega
   have hfin:=insVr_pos v h
   rw [he] at hfin
   have hA:List.take (h.length + 1) (h.map (AV.p ∘ rVer) ++ [.p (rVer v)]) = (insVr h v).map (AV.p ∘ rVer):=by
    rw [hfin,List.take_of_length_le (by simp)]; simp
   have hL:(insVr h v).length = h.length + 1:=by rw [hfin]; simp
   by_cases hl0:h = []
   · subst hl0
     simp [insVr,hVE]
     exact ⟨by simp only [maxL]; omega,rfl,rfl⟩
   · simp [hl0,hA]
     have s2:allShp Tryz.prog 5 (List.drop h.length (h.map (AV.p ∘ rVer))):=by rw [← List.map_drop]; exact shpVerR _
     exact ⟨shpVerR h,⟨shpVerR h,by simp only [maxL]; omega⟩,by simp only [maxL]; omega,shpVerR h,⟨s2,by simp only [maxL]; omega⟩,rfl,rfl⟩
end Go.Abs
