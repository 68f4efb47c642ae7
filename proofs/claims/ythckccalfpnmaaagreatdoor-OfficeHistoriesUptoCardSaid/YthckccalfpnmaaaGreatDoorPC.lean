import Derived.Test.YthckccalfpnmaaaGreatDoorPB
import Derived.Test.YthckccalfpnmaaaGreatDoorPA
import Derived.Test.YthckccalfpnmaaaGreatDoorThD
import Derived.Test.YthckccalfpnmaaaGreatDoorThE
/- Parts of a proof. -/
set_option linter.unusedSimpArgs false
set_option linter.unusedVariables false
set_option linter.unusedSectionVars false
namespace Go.Abs
structure VerD where
 name:List Nat
 level:Int
 parents:List (List Nat)
 book:BookD
 deriving DecidableEq
def nameIs (k:List Nat) (v:VerD):Bool:=decide (v.name = k)
def verAt (h:List VerD) (k:List Nat):Option VerD:=h.find? (nameIs k)
def twiceP:List (List Nat) → Bool
 | [a,b]=>decide (a = b)
 | _=>false
def ordBad:Option (List Nat) → List Nat → Bool
 | none,_=>false
 | some q,k=>!sLess q k
def chkVer (pre:Option (List Nat)) (v:VerD):Int :=
 firstE [whenE (!isName v.name) 8,whenE (ordBad pre v.name) 11,withinE v.level 1 256,whenE (decide (2 < v.parents.length)) 5,chkNames v.parents,whenE (twiceP v.parents) 9,chkBook v.book]
def chkVersFrom:Option (List Nat) → List VerD → Int
 | _,[]=>0
 | pre,v :: r=>if chkVer pre v = 0 then chkVersFrom (some v.name) r else chkVer pre v
def lvlBad (h:List VerD):Bool:=h.any fun v=>v.parents.any fun p=>(verAt h p).any fun x=>decide (v.level ≤ x.level)
def chkHist (h:List VerD):Int:=if 256 < h.length then 5 else firstE [chkVersFrom none h,whenE (lvlBad h) 11]
def namesV (h:List VerD):List (List Nat):=h.map (·.name)
def AscV (h:List VerD):Prop:=h.Pairwise fun x y=>sLess x.name y.name = true
structure HistOk (h:List VerD):Prop where
 asc:AscV h
 lev:∀ v ∈ h,1 ≤ v.level ∧ v.level ≤ 256
 par:∀ v ∈ h,v.parents.length ≤ 2
 up:lvlBad h = false
 len:h.length ≤ 256
 nam:∀ v ∈ h,isName v.name = true
 pnam:∀ v ∈ h,chkNames v.parents = 0
 bok:∀ v ∈ h,chkBook v.book = 0
theorem firstE_zero:∀ {l:List Int},firstE l = 0 ↔ ∀ e ∈ l,e = 0
 | []=>by simp [firstE]
 | e :: r=>by
  rw [firstE]
  by_cases h:e = 0
  · simp [h,firstE_zero (l:=r)]
  · simp [h]
theorem whenE_zero {b:Bool} {e:Int} (he:e ≠ 0):whenE b e = 0 ↔ b = false:=by cases b <;> simp [whenE,he]
theorem chkVer_zero {pre:Option (List Nat)} {v:VerD} (h:chkVer pre v = 0):isName v.name = true ∧ ordBad pre v.name = false ∧ (1 ≤ v.level ∧ v.level ≤ 256) ∧ v.parents.length ≤ 2 ∧ chkNames v.parents = 0 ∧ twiceP v.parents = false ∧ chkBook v.book = 0:=by
 rw [chkVer,firstE_zero] at h
 simp only [List.mem_cons,List.not_mem_nil,or_false,forall_eq_or_imp,forall_eq] at h
 obtain ⟨h1,h2,h3,h4,h5,h6,h7⟩:=h
 rw [whenE_zero (by omega)] at h1 h2 h4 h6
 rw [withinE,whenE_zero (by omega)] at h3
 simp at h1 h3 h4
 exact ⟨h1,h2,by omega,by omega,h5,h6,h7⟩
theorem chkVersFrom_zero:∀ {h:List VerD} {pre:Option (List Nat)},chkVersFrom pre h = 0 → (∀ v ∈ h,∃ pre',chkVer pre' v = 0) ∧ AscV h ∧ ∀ q,pre = some q → ∀ v ∈ h,sLess q v.name = true
 | [],_,_=>by simp [AscV]
 | v :: r,pre,hz=>by
  rw [chkVersFrom] at hz
  by_cases hv:chkVer pre v = 0
  · rw [if_pos hv] at hz
    obtain ⟨h1,h2,h3⟩:=chkVersFrom_zero hz
    have h3:=h3 _ rfl
    refine ⟨?_,List.pairwise_cons.2 ⟨h3,h2⟩,?_⟩
    · intro u hu
      rcases List.mem_cons.1 hu with rfl | hu
      · exact ⟨_,hv⟩
      · exact h1 u hu
    · rintro q rfl u hu
      have hq:sLess q v.name = true:=by
       have:=(chkVer_zero hv).2.1
       simpa [ordBad] using this
      rcases List.mem_cons.1 hu with rfl | hu
      · exact hq
      · exact sLess_trans hq (h3 u hu)
  · rw [if_neg hv] at hz; exact (hv hz).elim
theorem histOk {h:List VerD} (hz:chkHist h = 0):HistOk h:=by
 rw [chkHist] at hz
 split at hz
 · omega
 · rename_i hl
   rw [firstE_zero] at hz
   simp only [List.mem_cons,List.not_mem_nil,or_false,forall_eq_or_imp,forall_eq] at hz
   obtain ⟨h1,h2⟩:=hz
   rw [whenE_zero (by omega)] at h2
   obtain ⟨k1,k2,_⟩:=chkVersFrom_zero h1
   have key:∀ v ∈ h,isName v.name = true ∧ (1 ≤ v.level ∧ v.level ≤ 256) ∧ v.parents.length ≤ 2 ∧ chkNames v.parents = 0 ∧ chkBook v.book = 0:=fun v hv=>by
    obtain ⟨_,hp⟩:=k1 v hv
    obtain ⟨a,_,c,d,e,_,g⟩:=chkVer_zero hp
    exact ⟨a,c,d,e,g⟩
   exact ⟨k2,fun v hv=>(key v hv).2.1,fun v hv=>(key v hv).2.2.1,h2,by omega,fun v hv=>(key v hv).1,fun v hv=>(key v hv).2.2.2.1,fun v hv=>(key v hv).2.2.2.2⟩
theorem AscV.names {h:List VerD} (ha:AscV h):(namesV h).Nodup:=by
 rw [namesV,List.Nodup,List.pairwise_map]
 refine ha.imp ?_
 intro a b hab e
 rw [e,sLess_irr] at hab; cases hab
theorem AscV.asc {h:List VerD} (ha:AscV h):Asc (namesV h):=by
 rw [namesV,Asc,List.pairwise_map]
 exact ha.imp fun hab=>sLess_asym hab
theorem verAt_mem {h:List VerD} {k:List Nat} {v:VerD} (hv:verAt h k = some v):v ∈ h ∧ v.name = k :=
 ⟨List.mem_of_find?_eq_some hv,by simpa [nameIs] using List.find?_some hv⟩
theorem verAt_of {h:List VerD} (hn:(namesV h).Nodup) {v:VerD} (hv:v ∈ h):verAt h v.name = some v:=by
 induction h with
 | nil=>cases hv
 | cons x r ih =>
  simp only [namesV,List.map_cons,List.nodup_cons] at hn
  rw [verAt,List.find?_cons]
  rcases List.mem_cons.1 hv with rfl | hv
  · simp [nameIs]
  · have:x.name ≠ v.name:=fun e=>hn.1 (by rw [e]; exact List.mem_map_of_mem hv)
    simp only [nameIs,this,decide_false]
    exact ih hn.2 hv
theorem verAt_none {h:List VerD} {k:List Nat}:verAt h k = none ↔ k ∉ namesV h:=by
 simp [verAt,nameIs,namesV]
theorem lvlBad_false {h:List VerD} (hu:lvlBad h = false) {v x:VerD} (hv:v ∈ h) {p:List Nat} (hp:p ∈ v.parents) (hx:verAt h p = some x):x.level < v.level:=by
 rw [lvlBad,List.any_eq_false] at hu
 have h1:=hu v hv
 rw [Bool.not_eq_true,List.any_eq_false] at h1
 have h2:=h1 p hp
 simp [hx] at h2
 exact h2
def wholeF (h:List VerD):Nat → List Nat → Bool
 | 0,_=>false
 | f + 1,k=>(verAt h k).any fun v=>v.parents.all (wholeF h f)
def wholeS (h:List VerD) (k:List Nat):Bool:=wholeF h 256 k
theorem wholeF_eq {h:List VerD} (ok:HistOk h):∀ (f g:Nat) (k:List Nat),(∀ v,verAt h k = some v → v.level ≤ f ∧ v.level ≤ g) → wholeF h f k = wholeF h g k
 | 0,0,_,_=>rfl
 | 0,g + 1,k,hk=>by
  cases hv:verAt h k with
  | none=>simp [wholeF,hv]
  | some v =>
   have:=ok.lev v (verAt_mem hv).1
   have:=hk v hv
   omega
 | f + 1,0,k,hk=>by
  cases hv:verAt h k with
  | none=>simp [wholeF,hv]
  | some v =>
   have:=ok.lev v (verAt_mem hv).1
   have:=hk v hv
   omega
 | f + 1,g + 1,k,hk=>by
  cases hv:verAt h k with
  | none=>simp [wholeF,hv]
  | some v =>
   have h1:=hk v hv
   simp only [wholeF,hv,Option.any_some]
   rw [Bool.eq_iff_iff,List.all_eq_true,List.all_eq_true]
   have key:∀ p ∈ v.parents,wholeF h f p = wholeF h g p:=fun p hp=>wholeF_eq ok f g p fun x hx=>by
    have:=lvlBad_false ok.up (verAt_mem hv).1 hp hx
    omega
   exact ⟨fun q p hp=>by rw [← key p hp]; exact q p hp,fun q p hp=>by rw [key p hp]; exact q p hp⟩
theorem whole_eq {h:List VerD} (ok:HistOk h) (k:List Nat):wholeS h k = (verAt h k).any fun v=>v.parents.all (wholeS h):=by
 have:wholeS h k = wholeF h 257 k:=wholeF_eq ok 256 257 k fun v hv=>by have:=(ok.lev v (verAt_mem hv).1).2; omega
 rw [this]; rfl
theorem whole_of {h:List VerD} (ok:HistOk h) {v:VerD} (hv:v ∈ h):wholeS h v.name = v.parents.all (wholeS h):=by
 rw [whole_eq ok,verAt_of ok.asc.names hv]; rfl
theorem whole_at {h:List VerD} (ok:HistOk h) {k:List Nat} (hk:wholeS h k = true):∃ v,verAt h k = some v ∧ ∀ p ∈ v.parents,wholeS h p = true:=by
 rw [whole_eq ok] at hk
 cases hv:verAt h k with
 | none=>simp [hv] at hk
 | some v =>
  simp only [hv,Option.any_some,List.all_eq_true] at hk
  exact ⟨v,rfl,hk⟩
end Go.Abs
namespace Go.Abs
open Go.Proofs
set_option maxHeartbeats 4000000
set_option maxRecDepth 100000
theorem c_within (n lo hi:Int):GoodC Tryz.prog 128 [.int .i64 n,.int .i64 lo,.int .i64 hi] (.int .i64 (withinE n lo hi)):=by
 refine good_fn nf isF128 mix (by simp [Tryz.f128]) ?_
 by_cases h1:n < lo
 · simp [Tryz.f128,h1]
   refine c2 (c_when true 3) ?_
   simp [withinE,h1]
 · by_cases h2:hi < n
   · simp [Tryz.f128,h1,h2]
     refine c2 (c_when true 3) ?_
     simp [withinE,h1,h2]
   · simp [Tryz.f128,h1,h2]
     refine c2 (c_when false 3) ?_
     simp [withinE,h1,h2]
end Go.Abs
namespace Go.Abs
open Go.Proofs
set_option maxHeartbeats 4000000
set_option maxRecDepth 100000
def eVer (v:VerD):PV:=.st 147 [.str v.name,.int .i64 v.level,.seq (v.parents.map .str),eBook v.book]
def rVer (v:VerD):PV:=.st 196 [.str v.name,.int .i64 v.level,.seq (v.parents.map .str),rBook v.book]
def eHist (h:List VerD):PV:=.st 75 [.seq (h.map eVer)]
def zVer:VerD:=⟨[],0,[],⟨[],[]⟩⟩
@[simp] theorem shp_eVer {v:VerD}:shp (eVer v) = .agg 147:=rfl
@[simp] theorem shp_rVer {v:VerD}:shp (rVer v) = .agg 196:=rfl
@[simp] theorem shp_eHist {h:List VerD}:shp (eHist h) = .agg 75:=rfl
def verB (v:VerD):Prop:=v.name.length ≤ 1048576 ∧ v.parents.length ≤ 1048576 ∧ (∀ p ∈ v.parents,p.length ≤ 1048576) ∧ bookB v.book
def histB (h:List VerD):Prop:=h.length ≤ 1048576 ∧ ∀ v ∈ h,verB v
theorem eVer_mk (n:List Nat) (l:Int) (p:List (List Nat)) (b:BookD):eVer ⟨n,l,p,b⟩ = .st 147 [.str n,.int .i64 l,.seq (p.map .str),eBook b]:=rfl
theorem rVer_mk (n:List Nat) (l:Int) (p:List (List Nat)) (b:BookD):rVer ⟨n,l,p,b⟩ = .st 196 [.str n,.int .i64 l,.seq (p.map .str),rBook b]:=rfl
theorem eVer_eq (v:VerD):eVer v = .st 147 [.str v.name,.int .i64 v.level,.seq (v.parents.map .str),eBook v.book]:=rfl
theorem rVer_eq (v:VerD):rVer v = .st 196 [.str v.name,.int .i64 v.level,.seq (v.parents.map .str),rBook v.book]:=rfl
theorem firstE_app:∀ (l m:List Int),firstE (l ++ m) = firstE [firstE l,firstE m]
 | [],m=>by simp [firstE]
 | e :: r,m=>by
  have ih:=firstE_app r m
  by_cases h:e = 0
  · subst h
    simpa [firstE] using ih
  · simp [firstE,h]
theorem firstE_one (e:Int):firstE [e] = e:=by simp [firstE]; exact fun h=>h.symm
theorem firstE_in (a b c:Int):firstE [a,firstE [b,c]] = firstE [a,b,c]:=by
 by_cases ha:a = 0 <;> by_cases hb:b = 0 <;> by_cases hc:c = 0 <;> simp [firstE,ha,hb,hc]
theorem firstE_as (a b c:Int):firstE [firstE [a,b],c] = firstE [a,firstE [b,c]]:=by
 by_cases ha:a = 0 <;> by_cases hb:b = 0 <;> by_cases hc:c = 0 <;> simp [firstE,ha,hb,hc]
theorem chkNames_snoc (p:List Nat):∀ l:List (List Nat),chkNames (l ++ [p]) = firstE [chkNames l,whenE (!isName p) 8]
 | []=>by cases h:isName p <;> simp [chkNames,firstE,whenE,h]
 | s :: r=>by
  have ih:=chkNames_snoc p r
  by_cases h:isName s = true
  · simp [chkNames,h,ih]
  · simp [chkNames,h,firstE]
theorem chkNames_take {l:List (List Nat)} {i:Nat} (hi:i < l.length):chkNames (l.take (i + 1)) = firstE [chkNames (l.take i),whenE (!isName l[i]) 8]:=by
 rw [List.take_succ_eq_append_getElem hi,chkNames_snoc]
theorem sLess_leq (a b:List Nat):(sLess a b || a == b) = !sLess b a:=by
 cases h1:sLess b a with
 | true =>
  have h2:=sLess_asym h1
  have h3:¬ a = b:=fun e=>by rw [e,sLess_irr] at h1; simp at h1
  have h4:(a == b) = false:=by simpa using h3
  simp [h2,h4]
 | false =>
  cases h2:sLess a b with
  | true=>simp
  | false =>
   have h3:(a == b) = true:=by simpa using sLess_tri h2 h1
   simp [h3]
def lastN (l:List VerD):Option (List Nat):=l.getLast?.map (·.name)
theorem twiceP_not {l:List (List Nat)} (h:l.length ≠ 2):twiceP l = false:=by
 match l,h with
 | [],_=>rfl
 | [_],_=>rfl
 | [_,_],h=>simp at h
 | _ :: _ :: _ :: _,_=>rfl
theorem c_checkVersion (v:VerD) (l:List VerD) (hv:verB v) (hl:l.length ≤ 1048576):GoodC Tryz.prog 161 [eVer v,.seq (l.map eVer)] (.int .i64 (chkVer (lastN l) v)):=by
 refine good_fn nf isF161 mix (by simp [Tryz.f161]) ?_
 obtain ⟨nm,lv,ps,bk⟩:=v
 obtain ⟨b1,b2,b3,b4⟩:=hv
 dsimp only at b1 b2 b3 b4
 simp [Tryz.f161,eVer_mk,-w_seq']
 rw [w_seq']; simp [-w_seq']
 generalize hV:PV.st 147 [.str nm,.int .i64 lv,.seq (ps.map .str),eBook bk] = V
 refine join (fun s=>getE s.env 2 = .ptr 0 [] ∧ getE s.env 5 = .p (.bool (ordBad (lastN l) nm)) ∧ s.heap = [.box false (.p V)]) ?_ ?_
 · subst hV
   rcases List.eq_nil_or_concat l with rfl | ⟨l',q,hl0⟩
   · simp [lastN,ordBad]
   · rw [List.concat_eq_append] at hl0
     subst hl0
     have hw:IntKind.i64.wrap (l'.length:Int) = (l'.length:Int):=by rw [wi64] <;> simp at hl <;> omega
     have hp:(0:Int) < (l'.length:Int) + 1:=by omega
     have e:(!sLess q.name nm) = ordBad (lastN (l' ++ [q])) nm:=by simp [lastN,ordBad]
     rw [← e]
     simp [hw,hp,eVer_eq,sLess_eq,sLess_leq]
 rintro ⟨env,heap⟩ ⟨g2,g5,hp⟩
 dsimp only at g2 g5 hp
 subst hp
 have e0:chkVer (lastN l) ⟨nm,lv,ps,bk⟩ = firstE [firstE [firstE [whenE (!isName nm) 8,whenE (ordBad (lastN l) nm) 11,withinE lv 1 256,whenE (decide (2 < ps.length)) 5],chkNames ps],whenE (twiceP ps) 9,chkBook bk]:=by
  rw [chkVer,show [whenE (!isName nm) 8,whenE (ordBad (lastN l) nm) 11,withinE lv 1 256,whenE (decide (2 < ps.length)) 5,chkNames ps,whenE (twiceP ps) 9,chkBook bk] = ([whenE (!isName nm) 8,whenE (ordBad (lastN l) nm) 11,withinE lv 1 256,whenE (decide (2 < ps.length)) 5] ++ [chkNames ps]) ++ [whenE (twiceP ps) 9,chkBook bk] from rfl,firstE_app,firstE_app _ [chkNames ps],firstE_one (chkNames ps)]
  rw [firstE_in]
 rw [e0]
 generalize ordBad (lastN l) nm = ob at *
 refine join (fun s=>getE s.env 2 = .ptr 0 [] ∧ getE s.env 6 = .p (.int .i64 (firstE [whenE (!isName nm) 8,whenE ob 11,withinE lv 1 256,whenE (decide (2 < ps.length)) 5])) ∧ s.heap = [.box false (.p V),.arr .frozen 0 1 [.p (.int .i64 (whenE (!isName nm) 8)),.p (.int .i64 (whenE ob 11)),.p (.int .i64 (withinE lv 1 256)),.p (.int .i64 (whenE (decide (2 < ps.length)) 5))]]) ?_ ?_
 · subst hV
   simp [g2,g5]
   refine e1 (c_named nm (by omega)) ?_
   simp [g2,g5]
   refine e2 (c_when ob 11) ?_
   simp [g2,g5]
   refine e3 (c_within lv 1 256) ?_
   simp [g2,g5]
   refine e2 (c_when (decide (2 < ps.length)) 5) ?_ (h1:=by simp; omega)
   simp [g2,g5]
   refine ep (h1:=?g1) (c_first [whenE (!isName nm) 8,whenE ob 11,withinE lv 1 256,whenE (decide (2 < ps.length)) 5] (by simp)) (by simp; exact ⟨rfl,rfl⟩) (by simp; exact ⟨rfl,rfl⟩) ?_
   case g1=>simp
   simp [g2]
   rfl
 rintro ⟨env,heap⟩ ⟨g2,g6,hp⟩
 dsimp only at g2 g6 hp
 subst hp
 generalize firstE [whenE (!isName nm) 8,whenE ob 11,withinE lv 1 256,whenE (decide (2 < ps.length)) 5] = E0 at *
 generalize (Obj.arr .frozen 0 1 [.p (.int .i64 (whenE (!isName nm) 8)),.p (.int .i64 (whenE ob 11)),.p (.int .i64 (withinE lv 1 256)),.p (.int .i64 (whenE (decide (2 < ps.length)) 5))]) = oo at *
 refine join (fun s=>getE s.env 2 = .ptr 0 [] ∧ getE s.env 6 = .p (.int .i64 (firstE [E0,chkNames ps])) ∧ s.heap = [.box false (.p V)]) ?_ ?_
 · subst hV
   simp [g2,g6]
   refine lp (α:=Nat) (fun i=>⟨[(42,.p (.int .i64 i)),(41,.p (.int .i64 ps.length)),(40,.p (.seq (ps.map .str))),(2,.ptr 0 []),(6,.p (.int .i64 (firstE [E0,chkNames (ps.take i)])))],[.box false (.p (.st 147 [.str nm,.int .i64 lv,.seq (ps.map .str),eBook bk]))]⟩) (fun i=>i ≤ ps.length) (fun i=>ps.length - i) 0 (by simp) ?_ (he:=by simp [g2,g6,chkNames,firstE_one,firstE])
   rintro i k1
   have hw:=wi1 (i:=i) (by omega)
   by_cases hi:i < ps.length
   · have hs:=b3 _ (List.getElem_mem hi)
     have ht:firstE [firstE [E0,chkNames (ps.take i)],whenE (!isName ps[i]) 8] = firstE [E0,chkNames (ps.take (i + 1))]:=by
      rw [chkNames_take hi,firstE_as]
     simp [hi]
     refine c1 (c_named ps[i] (by omega)) ?_
     simp
     refine cp (h1:=?g1) (c_first [firstE [E0,chkNames (ps.take i)],whenE (!isName ps[i]) 8] (by simp)) (by simp; exact ⟨rfl,rfl⟩) ?_
     case g1=>simp
     rw [ht]
     simp [hw]
     exact rd (i + 1) hi
   · have:i = ps.length:=by omega
     subst this
     simp
 rintro ⟨env,heap⟩ ⟨g2,g6,hp⟩
 dsimp only at g2 g6 hp
 subst hp
 generalize firstE [E0,chkNames ps] = E1 at *
 subst hV
 by_cases h2:ps.length = 2
 · match ps,h2 with
   | [a,b],_ =>
    have hw1:IntKind.i64.wrap 1 = 1:=by decide
    have hb:(a == b) = decide (a = b):=by by_cases h:a = b <;> simp [h]
    simp [g2,g6,hw1,hb]
    refine e2 (c_when (decide (a = b)) 9) ?_
    simp [g2,g6]
    refine e1 (c_checkBook bk b4) ?_
    simp [g2,g6]
    refine ep (h1:=?g1) (c_first [E1,whenE (decide (a = b)) 9,chkBook bk] (by simp)) (by simp; exact ⟨rfl,rfl⟩) (by simp; exact ⟨rfl,rfl⟩) ?_
    case g1=>simp
    simp [twiceP]
    try rfl
 · have hi:¬ (ps.length:Int) = 2:=by omega
   rw [twiceP_not h2]
   simp [g2,g6,hi]
   refine e2 (c_when false 9) ?_
   simp [g2,g6]
   refine e1 (c_checkBook bk b4) ?_
   simp [g2,g6]
   refine ep (h1:=?g1) (c_first [E1,whenE false 9,chkBook bk] (by simp)) (by simp; exact ⟨rfl,rfl⟩) (by simp; exact ⟨rfl,rfl⟩) ?_
   case g1=>simp
   simp
   try rfl
end Go.Abs
namespace Go.Abs
open Go.Proofs
set_option maxHeartbeats 4000000
set_option maxRecDepth 100000
def cmpS (a b:List Nat):Int:=if sLess a b = true then -1 else if sLess b a = true then 1 else 0
theorem c_isNaN (a:List Nat):GoodC Tryz.prog 247 [.str a] (.bool false):=by
 refine good_fn nf isF247 mix (by simp [Tryz.f247]) ?_
 simp [Tryz.f247]
theorem c_compare (a b:List Nat):GoodC Tryz.prog 202 [.str a,.str b] (.int .i64 (cmpS a b)):=by
 refine good_fn nf isF202 mix (by simp [Tryz.f202]) ?_
 simp [Tryz.f202]
 refine c1 (c_isNaN a) ?_
 simp
 refine c1 (c_isNaN b) ?_
 have hq:=sLess_leq a b
 cases h1:sLess a b <;> cases h2:sLess b a <;> simp only [h1,h2,Bool.true_or,Bool.false_or,Bool.not_true,Bool.not_false] at hq <;> simp_all [sLess_eq,cmpS]
theorem cmpS_neg (a b:List Nat):cmpS a b < 0 ↔ sLess a b = true:=by
 rw [cmpS]
 cases h1:sLess a b <;> cases h2:sLess b a <;> simp
theorem cmpS_zero (a b:List Nat):cmpS a b = 0 ↔ a = b:=by
 rw [cmpS]
 cases h1:sLess a b <;> cases h2:sLess b a <;> simp
 · exact sLess_tri h1 h2
 · intro e; rw [e,sLess_irr] at h2; simp at h2
 · intro e; rw [e,sLess_irr] at h1; simp at h1
 · intro e; rw [e,sLess_irr] at h1; simp at h1
theorem c_find1 (v:VerD) (k:List Nat):GoodC Tryz.prog 201 [eVer v,.str k] (.int .i64 (cmpS v.name k)):=by
 refine good_fn nf isF201 mix (by simp [Tryz.f201]) ?_
 simp [Tryz.f201,eVer_eq]
 refine c2 (c_compare v.name k) ?_
 simp
def posV (h:List VerD) (k:List Nat):Nat:=(h.takeWhile fun v=>sLess v.name k).length
theorem pos_le (h:List VerD) (k:List Nat):posV h k ≤ h.length:=(List.takeWhile_sublist _).length_le
theorem pos_lt {k:List Nat}:∀ {h:List VerD},AscV h → ∀ {m:Nat} (hm:m < h.length),sLess h[m].name k = decide (m < posV h k)
 | [],_,m,hm=>by simp at hm
 | v :: r,ha,m,hm=>by
  rw [AscV,List.pairwise_cons] at ha
  by_cases hv:sLess v.name k = true
  · have e:posV (v :: r) k = posV r k + 1:=by simp [posV,List.takeWhile_cons,hv]
    cases m with
    | zero=>simp [e,hv]
    | succ m =>
     have:=pos_lt (k:=k) ha.2 (m:=m) (by simpa using hm)
     simp [this,e]
  · have e:posV (v :: r) k = 0:=by simp [posV,List.takeWhile_cons,hv]
    cases m with
    | zero=>simp [e,hv]
    | succ m =>
     have hm':m < r.length:=by simpa using hm
     have hq:=ha.1 r[m] (List.getElem_mem hm')
     rw [e]
     simp only [List.getElem_cons_succ,Nat.not_lt_zero,decide_false]
     cases hs:(sLess r[m].name k:Bool) with
     | false=>rfl
     | true=>exact absurd (sLess_trans hq hs) hv
theorem verAt_pos {k:List Nat}:∀ {h:List VerD},AscV h → verAt h k = (h[posV h k]?).bind fun v=>if v.name = k then some v else none
 | [],_=>by simp [verAt,posV]
 | v :: r,ha=>by
  rw [AscV,List.pairwise_cons] at ha
  by_cases hv:sLess v.name k = true
  · have e:posV (v :: r) k = posV r k + 1:=by simp [posV,List.takeWhile_cons,hv]
    have hn:v.name ≠ k:=fun h=>by rw [h,sLess_irr] at hv; simp at hv
    have:=verAt_pos (k:=k) ha.2
    rw [e,List.getElem?_cons_succ,← this]
    simp [verAt,List.find?_cons,nameIs,hn]
  · have e:posV (v :: r) k = 0:=by simp [posV,List.takeWhile_cons,hv]
    rw [e]
    by_cases hn:v.name = k
    · simp [verAt,List.find?_cons,nameIs,hn]
    · have:verAt r k = none:=by
       rw [verAt_none,namesV]
       intro hm
       obtain ⟨x,hx,rfl⟩:=List.mem_map.1 hm
       exact hv (ha.1 x hx)
      simp only [verAt] at this
      simp [verAt,List.find?_cons,nameIs,hn]
      simpa [nameIs] using this
theorem c_search (h:List VerD) (k:List Nat) (ha:AscV h) (hl:h.length ≤ 1048576):GoodC Tryz.prog 200 [.seq (h.map eVer),.str k,.func 201 [] []] (.tup [.int .i64 (posV h k),.bool (verAt h k).isSome]):=by
 refine good_fn nf isF200 mix (by simp [Tryz.f200]) ?_
 have hple:=pos_le h k
 simp [Tryz.f200]
 refine lp (α:=Nat × Nat) (fun (i,j)=>⟨[(0,.p (.seq (h.map eVer))),(1,.p (.str k)),(2,.p (.func 201 [] [])),(8,.p (.int .i64 h.length)),(9,.p (.int .i64 i)),(10,.p (.int .i64 j))],[]⟩) (fun (i,j)=>i ≤ posV h k ∧ posV h k ≤ j ∧ j ≤ h.length) (fun (i,j)=>j - i) (0,h.length) (by simp [hple]) ?_
 rintro ⟨i,j⟩ ⟨k1,k2,k3⟩
 dsimp only at k1 k2 k3 ⊢
 by_cases hi:i < j
 · have hij:(i:Int) < (j:Int):=by omega
   obtain ⟨m,hm⟩:∃ m,m = (i + j) / 2:=⟨_,rfl⟩
   have hA:IntKind.i64.wrap ((i:Int) + (j:Int)) = (i:Int) + (j:Int):=by rw [wi64] <;> omega
   have hB:IntKind.u64.wrap ((i:Int) + (j:Int)) = (i:Int) + (j:Int):=by
    rw [IntWalk.u64_in]; omega
   have hC:((i:Int) + (j:Int)).fdiv (2 ^ min 1 IntKind.u64.bits) = (m:Int):=by
    have:min 1 IntKind.u64.bits = 1:=by decide
    rw [this,hm,Int.fdiv_eq_ediv_of_nonneg _ (by omega)]
    omega
   have hD:IntKind.i64.wrap (m:Int) = (m:Int):=by rw [wi64] <;> omega
   have hmi:i ≤ m:=by omega
   have hmj:m < j:=by omega
   have hmh:m < h.length:=by omega
   have hw:=wi1 (i:=m) (by omega)
   have hs:=pos_lt (k:=k) ha hmh
   clear hm
   simp [hij,hA,hB,hC,hD,hmh]
   refine c2 (c_find1 h[m] k) ?_
   by_cases hlt:m < posV h k
   · have hc:cmpS h[m].name k < 0:=by rw [cmpS_neg,hs]; simpa using hlt
     simp [hc,hw]
     exact rd (m + 1,j) ⟨by omega,k2,k3⟩ (h1:=by dsimp only; omega)
   · have hc:¬ cmpS h[m].name k < 0:=by rw [cmpS_neg,hs]; simpa using hlt
     simp [hc]
     exact rd (i,m) ⟨by omega,by omega,by omega⟩ (h1:=by dsimp only; omega)
 · have hij:¬ (i:Int) < (j:Int):=by omega
   have hp:i = posV h k:=by omega
   have hj:j = posV h k:=by omega
   subst hp
   have hv:=verAt_pos (k:=k) ha
   by_cases hlt:posV h k < h.length
   · have hlt':(posV h k:Int) < (h.length:Int):=by omega
     rw [List.getElem?_eq_getElem hlt] at hv
     simp [hij,hlt',hlt]
     refine c2 (c_find1 h[posV h k] k) ?_
     have hs:=pos_lt (k:=k) ha hlt
     simp at hs
     rw [hv]
     by_cases hn:h[posV h k].name = k
     · have h2:=(cmpS_zero h[posV h k].name k).2 hn
       simp [h2,hn]
       exact (cmpS_zero k k).2 rfl
     · have h2:¬ cmpS h[posV h k].name k = 0:=fun e=>hn ((cmpS_zero _ _).1 e)
       simp [hn,h2]
   · have hlt':¬ (posV h k:Int) < (h.length:Int):=by omega
     rw [List.getElem?_eq_none (by omega)] at hv
     simp [hij,hlt',hlt,hv]
theorem c_findV (h:List VerD) (k:List Nat) (ha:AscV h) (hl:h.length ≤ 1048576):GoodC Tryz.prog 127 [eHist h,.str k] (.tup [eVer ((verAt h k).getD zVer),.bool (verAt h k).isSome]):=by
 refine good_fn nf isF127 mix (by simp [Tryz.f127]) ?_
 simp [Tryz.f127,eHist]
 refine c3 (c_search h k ha hl) ?_
 have hv:=verAt_pos (k:=k) ha
 cases hs:verAt h k with
 | none =>
  simp [zVer,eVer,eBook]
  try rfl
 | some v =>
  have hlt:posV h k < h.length:=by
   by_cases hlt:posV h k < h.length
   · exact hlt
   · rw [List.getElem?_eq_none (by omega),hs] at hv; simp at hv
  have he:h[posV h k] = v:=by
   rw [List.getElem?_eq_getElem hlt,hs] at hv
   simp at hv
   exact hv.2.symm
  have hw:((posV h k:Int) < (h.length:Int)):=by omega
  simp [hlt,hw,he]
end Go.Abs
namespace Go.Abs
open Go.Proofs
set_option maxHeartbeats 4000000
set_option maxRecDepth 100000
def badP (h:List VerD) (l:Int) (p:List Nat):Bool:=(verAt h p).any fun x=>decide (l ≤ x.level)
def badV (h:List VerD) (v:VerD):Bool:=v.parents.any (badP h v.level)
theorem lvlBad_eq (h:List VerD):lvlBad h = h.any (badV h):=rfl
theorem any_dropV {α:Type} (f:α → Bool) {l:List α} {i:Nat} (hi:i < l.length):(l.drop i).any f = (f l[i] || (l.drop (i + 1)).any f):=by
 rw [List.drop_eq_getElem_cons hi,List.any_cons]
theorem c_checkLevels (h:List VerD) (ha:AscV h) (hb:histB h):GoodC Tryz.prog 132 [eHist h] (.int .i64 (whenE (lvlBad h) 11)):=by
 refine good_fn nf isF132 mix (by simp [Tryz.f132]) ?_
 obtain ⟨b1,b2⟩:=hb
 simp [Tryz.f132,eHist]
 refine lp (α:=Nat) (fun i=>⟨[(12,.p (.int .i64 i)),(11,.p (.int .i64 h.length)),(10,.p (.seq (h.map eVer))),(1,.ptr 0 [])],[.box false (.p (eHist h))]⟩) (fun i=>i ≤ h.length ∧ lvlBad h = (h.drop i).any (badV h)) (fun i=>h.length - i) 0 (by simp [lvlBad_eq]) ?_ (hh:=by simp [eHist])
 rintro i ⟨k1,k2⟩
 by_cases hi:i < h.length
 · have hE:=eVer_eq h[i]
   have hw:=wi1 (i:=i) (by omega)
   have hpb:=(b2 _ (List.getElem_mem hi)).2.1
   rw [any_dropV _ hi] at k2
   simp [hi,hE,eHist]
   refine lp (α:=Nat) (fun j=>⟨[(19,.p (.int .i64 j)),(18,.p (.int .i64 h[i].parents.length)),(17,.p (.seq (h[i].parents.map .str))),(12,.p (.int .i64 i)),(11,.p (.int .i64 h.length)),(10,.p (.seq (h.map eVer))),(4,.ptr 1 []),(1,.ptr 0 [])],[.box false (.p (eHist h)),.box false (.p (eVer h[i]))]⟩) (fun j=>j ≤ h[i].parents.length ∧ badV h h[i] = (h[i].parents.drop j).any (badP h h[i].level)) (fun j=>h[i].parents.length - j) 0 (by simp [badV]) ?_ (hh:=by simp [eHist,hE])
   rintro j ⟨q1,q2⟩
   by_cases hj:j < h[i].parents.length
   · have hw2:=wi1 (i:=j) (by omega)
     rw [any_dropV _ hj] at q2
     simp [hj,eHist]
     refine c2 (c_findV h h[i].parents[j] ha b1) ?_
     rw [badP] at q2
     cases hx:verAt h h[i].parents[j] with
     | none =>
      rw [hx] at q2
      simp at q2
      simp [hx,eVer_eq,zVer,eBook,hw2]
      exact rd (j + 1) ⟨hj,q2⟩ (hh:=by simp [eHist,hE])
     | some x =>
      rw [hx] at q2
      by_cases hb:h[i].level ≤ x.level
      · simp [hb] at q2
        rw [q2] at k2
        simp at k2
        simp [hx,eVer_eq,hb,k2,whenE]
      · simp [hb] at q2
        simp [hx,eVer_eq,hb,hw2]
        exact rd (j + 1) ⟨hj,q2⟩ (hh:=by simp [eHist,hE])
   · have:j = h[i].parents.length:=by omega
     subst this
     simp at q2
     rw [q2] at k2
     simp [hw]
     exact rd (i + 1) ⟨hi,by simpa using k2⟩ (hh:=by simp [eHist])
 · have:i = h.length:=by omega
   subst this
   simp at k2
   simp [k2,whenE]
theorem shpVer (l:List VerD):allShp Tryz.prog 5 (l.map (AV.p ∘ eVer)):=by
 rw [allShp_iff]
 intro v hv
 obtain ⟨x,_,rfl⟩:=List.mem_map.1 hv
 exact ⟨by simp [shpA],by simp [shpA,shpSize]⟩
theorem getLast_take {h:List VerD} {i:Nat} (hi:i < h.length):lastN (h.take (i + 1)) = some h[i].name:=by
 rw [List.take_succ_eq_append_getElem hi,lastN,List.getLast?_append]; simp
theorem c_checkHistory (h:List VerD) (hb:histB h):GoodC Tryz.prog 64 [eHist h] (.int .i64 (chkHist h)):=by
 refine good_fn nf isF64 mix (by simp [Tryz.f64]) ?_
 obtain ⟨b1,b2⟩:=hb
 by_cases hl:256 < h.length
 · have hl':(256:Int) < h.length:=by omega
   simp [Tryz.f64,eHist,hl',chkHist,hl]
 have hl':¬ (256:Int) < h.length:=by omega
 rw [chkHist,if_neg hl]
 simp [Tryz.f64,eHist,hl']
 refine lp (α:=Nat) (fun i=>⟨[(13,.p (.int .i64 i)),(12,.p (.int .i64 h.length)),(11,.p (.seq (h.map eVer))),(1,.ptr 0 [])],[.box false (.p (eHist h))]⟩) (fun i=>i ≤ h.length ∧ chkVersFrom none h = chkVersFrom (lastN (h.take i)) (h.drop i)) (fun i=>h.length - i) 0 (by simp [lastN]) ?_ (hh:=by simp [eHist])
 rintro i ⟨k1,k2⟩
 by_cases hi:i < h.length
 · have hw:=wi1 (i:=i) (by omega)
   have hc:=c_checkVersion h[i] (h.take i) (b2 _ (List.getElem_mem hi)) (by simp; omega)
   rw [List.drop_eq_getElem_cons hi,chkVersFrom] at k2
   simp [hi,eHist]
   rw [List.map_take] at hc
   refine ⟨⟨by omega,shpVer h⟩,?_⟩
   refine e2 hc ?_
   by_cases hz:chkVer (lastN (h.take i)) h[i] = 0
   · rw [if_pos hz,← getLast_take hi] at k2
     simp [hz,hw]
     exact rd (i + 1) ⟨hi,k2⟩ (hh:=by simp [eHist])
   · rw [if_neg hz] at k2
     simp [hz,k2,firstE]
     try rfl
 · have:i = h.length:=by omega
   subst this
   simp [chkVersFrom] at k2
   simp
   have hz:chkVersFrom none h = 0:=k2
   refine c1 (c_checkLevels h (chkVersFrom_zero hz).2.1 ⟨b1,b2⟩) ?_
   simp [hz,firstE]
   try exact fun h=>h.symm
   try rfl
end Go.Abs
namespace Go.Abs
open Go.Proofs
set_option maxHeartbeats 4000000
set_option maxRecDepth 100000
def atV (h:List VerD) (k:List Nat):Int:=idxFrom (nameIs k) h 0
theorem idx_find (k:List Nat):∀ (h:List VerD) (n:Nat),(verAt h k = none ∧ idxFrom (nameIs k) h n = -1) ∨ ∃ (j:Nat) (hj:j < h.length),idxFrom (nameIs k) h n = ((n + j:Nat):Int) ∧ verAt h k = some h[j]
 | [],n=>.inl ⟨rfl,rfl⟩
 | v :: r,n=>by
  by_cases hv:nameIs k v = true
  · exact .inr ⟨0,by simp,by simp [idxFrom,hv],by simp [verAt,List.find?_cons,hv]⟩
  · have hv:nameIs k v = false:=by simpa using hv
    have e:verAt (v :: r) k = verAt r k:=by simp [verAt,List.find?_cons,hv]
    have e2:idxFrom (nameIs k) (v :: r) n = idxFrom (nameIs k) r (n + 1):=by simp [idxFrom,hv]
    rcases idx_find k r (n + 1) with ⟨h1,h2⟩ | ⟨j,hj,h1,h2⟩
    · exact .inl ⟨by rw [e,h1],by rw [e2,h2]⟩
    · exact .inr ⟨j + 1,by simpa using hj,by rw [e2,h1]; congr 1; omega,by rw [e,h2]; simp⟩
theorem at_find (h:List VerD) (k:List Nat):(verAt h k = none ∧ atV h k = -1) ∨ ∃ (j:Nat) (hj:j < h.length),atV h k = (j:Int) ∧ verAt h k = some h[j]:=by
 rcases idx_find k h 0 with h1 | ⟨j,hj,h1,h2⟩
 · exact .inl h1
 · exact .inr ⟨j,hj,by rw [atV,h1]; congr 1; omega,h2⟩
theorem c_at (h:List VerD) (k:List Nat) (hl:h.length ≤ 1048576):GoodC Tryz.prog 86 [.seq (h.map rVer),.str k] (.int .i64 (atV h k)):=by
 refine good_fn nf isF86 mix (by simp [Tryz.f86]) ?_
 simp [Tryz.f86]
 refine lp (α:=Nat) (fun i=>⟨[(5,.p (.int .i64 i)),(1,.p (.str k)),(0,.p (.seq (h.map rVer)))],[]⟩) (fun i=>i ≤ h.length ∧ atV h k = idxFrom (nameIs k) (h.drop i) i) (fun i=>h.length - i) 0 (by simp [atV]) ?_
 rintro i ⟨k1,k2⟩
 by_cases hi:i < h.length
 · rw [List.drop_eq_getElem_cons hi,idxFrom] at k2
   have hw:=wi1 (i:=i) (by omega)
   have hE:=rVer_eq h[i]
   by_cases hk:h[i].name = k
   · have e:nameIs k h[i] = true:=by simp [nameIs,hk]
     rw [e,if_pos rfl] at k2
     rw [k2]
     simp [hi,hE,hk]
   · have e:nameIs k h[i] = false:=by simp [nameIs,hk]
     rw [e] at k2
     simp [hi,hE,hk,hw]
     exact rd (i + 1) ⟨hi,by simpa using k2⟩
 · have:i = h.length:=by omega
   subst this
   rw [List.drop_length,idxFrom] at k2
   rw [k2]
   simp
theorem c_levels (h:List VerD) (hb:histB h):GoodC Tryz.prog 134 [.seq (h.map rVer)] (.int .i64 (whenE (lvlBad h) 11)):=by
 refine good_fn nf isF134 mix (by simp [Tryz.f134]) ?_
 obtain ⟨b1,b2⟩:=hb
 simp [Tryz.f134]
 refine lp (α:=Nat) (fun i=>⟨[(3,.p (.int .i64 i)),(0,.p (.seq (h.map rVer)))],[]⟩) (fun i=>i ≤ h.length ∧ lvlBad h = (h.drop i).any (badV h)) (fun i=>h.length - i) 0 (by simp [lvlBad_eq]) ?_
 rintro i ⟨k1,k2⟩
 by_cases hi:i < h.length
 · have hE:=rVer_eq h[i]
   have hw:=wi1 (i:=i) (by omega)
   have hpb:=(b2 _ (List.getElem_mem hi)).2.1
   rw [any_dropV _ hi] at k2
   simp [hi]
   refine lp (α:=Nat) (fun j=>⟨[(4,.p (.int .i64 j)),(3,.p (.int .i64 i)),(0,.p (.seq (h.map rVer)))],[]⟩) (fun j=>j ≤ h[i].parents.length ∧ badV h h[i] = (h[i].parents.drop j).any (badP h h[i].level)) (fun j=>h[i].parents.length - j) 0 (by simp [badV]) ?_
   rintro j ⟨q1,q2⟩
   by_cases hj:j < h[i].parents.length
   · have hw2:=wi1 (i:=j) (by omega)
     rw [any_dropV _ hj] at q2
     simp [hi,hj,hE]
     refine c2 (c_at h h[i].parents[j] b1) ?_
     rw [badP] at q2
     rcases at_find h h[i].parents[j] with ⟨hx,ha⟩ | ⟨x,hx,ha,hv⟩
     · rw [hx] at q2
       simp at q2
       simp [ha,hw2]
       exact rd (j + 1) ⟨hj,q2⟩
     · rw [hv] at q2
       by_cases hb:h[i].level ≤ h[x].level
       · simp [hb] at q2
         rw [q2] at k2
         simp at k2
         have hEx:=rVer_eq h[x]
         have hxz:(0:Int) ≤ (x:Int):=by omega
         simp [ha,hi,hx,hE,hEx,hb,k2,whenE,hxz]
       · simp [hb] at q2
         have hEx:=rVer_eq h[x]
         have hxz:(0:Int) ≤ (x:Int):=by omega
         simp [ha,hi,hx,hE,hEx,hb,hw2,hxz]
         exact rd (j + 1) ⟨hj,q2⟩
   · have:j = h[i].parents.length:=by omega
     subst this
     simp at q2
     rw [q2] at k2
     simp [hi,hE,hw]
     exact rd (i + 1) ⟨hi,by simpa using k2⟩
 · have:i = h.length:=by omega
   subst this
   simp at k2
   simp [k2,whenE]
def chkVerR (v:VerD):Int:=firstE [withinE v.level 1 256,whenE (decide (2 < v.parents.length)) 5,chkNames v.parents,whenE (twiceP v.parents) 9,chkBook v.book]
theorem c_checkVersionR (v:VerD) (hv:verB v):GoodC Tryz.prog 133 [rVer v] (.int .i64 (chkVerR v)):=by
 refine good_fn nf isF133 mix (by simp [Tryz.f133]) ?_
 obtain ⟨nm,lv,ps,bk⟩:=v
 obtain ⟨b1,b2,b3,b4⟩:=hv
 dsimp only at b1 b2 b3 b4
 simp [Tryz.f133,rVer_mk]
 refine c3 (c_out lv 1 256) ?_
 rw [chkVerR]
 dsimp only
 by_cases h1:(decide (lv < 1) || decide (lv > 256)) = true
 · have e:withinE lv 1 256 = 3:=by rw [withinE,h1]; rfl
   simp only [h1,e]
   simp [firstE,e]
 have h1:(decide (lv < 1) || decide (lv > 256)) = false:=by simpa using h1
 have e:withinE lv 1 256 = 0:=by rw [withinE,h1]; rfl
 simp only [h1,e]
 by_cases h2:2 < ps.length
 · have h2':(2:Int) < (ps.length:Int):=by omega
   simp [h2,h2',firstE,whenE,e]
 have h2':¬ (2:Int) < (ps.length:Int):=by omega
 simp [h2']
 refine lp (α:=Nat) (fun i=>⟨[(3,.p (.int .i64 i)),(1,.ptr 0 [])],[.box false (.p (rVer ⟨nm,lv,ps,bk⟩))]⟩) (fun i=>i ≤ ps.length ∧ chkNames ps = chkNames (ps.drop i)) (fun i=>ps.length - i) 0 (by simp) ?_ (hh:=by simp [rVer_mk])
 rintro i ⟨k1,k2⟩
 have hw:=wi1 (i:=i) (by omega)
 by_cases hi:i < ps.length
 · rw [List.drop_eq_getElem_cons hi,chkNames] at k2
   have hs:=b3 _ (List.getElem_mem hi)
   simp [hi,rVer_mk]
   refine c1 (c_refIsName ps[i] (by omega)) ?_
   by_cases hn:isName ps[i] = true
   · rw [if_pos hn] at k2
     simp [hn,hw]
     exact rd (i + 1) ⟨hi,k2⟩ (hh:=by simp [rVer_mk])
   · rw [if_neg hn] at k2
     simp [hn,h2,whenE,k2,firstE,e]
 · have:i = ps.length:=by omega
   subst this
   rw [List.drop_length,chkNames] at k2
   by_cases h3:ps.length = 2
   · match ps,h3 with
     | [a,b],_ =>
      have hb:(a == b) = decide (a = b):=by by_cases h:a = b <;> simp [h]
      by_cases hab:a = b
      · simp [rVer_mk,hab] at k2 ⊢
        simp [k2,twiceP,whenE,firstE,e]
      · simp [rVer_mk,hab]
        refine c1 (c_checkBookR bk b4) ?_
        simp [k2,twiceP,hab,whenE,firstE,e]
        try exact fun h=>h.symm
   · have h3':¬ (ps.length:Int) = 2:=by omega
     rw [twiceP_not h3]
     simp [rVer_mk,h3']
     refine c1 (c_checkBookR bk b4) ?_
     simp [k2,h2,whenE,firstE,e]
     try exact fun h=>h.symm
theorem chkVer_R (pre:Option (List Nat)) (v:VerD):chkVer pre v = if isName v.name = true then (if ordBad pre v.name = true then 11 else chkVerR v) else 8:=by
 rw [chkVer,chkVerR]
 cases h1:isName v.name <;> cases h2:ordBad pre v.name <;> simp [firstE,whenE]
theorem c_checkHistoryR (h:List VerD) (hb:histB h):GoodC Tryz.prog 47 [.seq (h.map rVer)] (.int .i64 (chkHist h)):=by
 refine good_fn nf isF47 mix (by simp [Tryz.f47]) ?_
 have hb0:=hb
 obtain ⟨b1,b2⟩:=hb
 by_cases hl:256 < h.length
 · have hl':(256:Int) < h.length:=by omega
   simp [Tryz.f47,hl',chkHist,hl]
 have hl':¬ (256:Int) < h.length:=by omega
 rw [chkHist,if_neg hl]
 simp [Tryz.f47,hl']
 refine lp (α:=Nat) (fun i=>⟨[(3,.p (.int .i64 i)),(0,.p (.seq (h.map rVer)))],[]⟩) (fun i=>i ≤ h.length ∧ chkVersFrom none h = chkVersFrom (lastN (h.take i)) (h.drop i)) (fun i=>h.length - i) 0 (by simp [lastN]) ?_
 rintro i ⟨k1,k2⟩
 by_cases hi:i < h.length
 · have hw:=wi1 (i:=i) (by omega)
   have hE:=rVer_eq h[i]
   have hvb:=b2 _ (List.getElem_mem hi)
   rw [List.drop_eq_getElem_cons hi,chkVersFrom,chkVer_R] at k2
   simp [hi,hE]
   refine c1 (c_refIsName h[i].name hvb.1) ?_
   cases hn:isName h[i].name with
   | false =>
    rw [hn] at k2
    simp at k2
    simp [k2,firstE]
   | true =>
    simp only [hn,if_true] at k2
    have hob:(decide (0 < i) && ordBad (lastN (h.take i)) h[i].name) = ordBad (lastN (h.take i)) h[i].name:=by
     cases i with
     | zero=>simp [lastN,ordBad]
     | succ i=>simp
    cases ho:ordBad (lastN (h.take i)) h[i].name with
    | true =>
     simp only [ho,if_true] at k2
     simp at k2
     cases i with
     | zero=>simp [lastN,ordBad] at ho
     | succ j =>
      rw [getLast_take (by omega)] at ho
      have hEj:=rVer_eq (h[j]'(by omega))
      have hwj:IntKind.i64.wrap (((j + 1:Nat):Int) - 1) = (j:Int):=by rw [wi64] <;> omega
      have hjl:j < h.length:=by omega
      simp [ordBad] at ho
      simp at hwj
      have hp:(0:Int) < (j:Int) + 1:=by omega
      have hp':(0:Int) ≤ (j:Int) + 1:=by omega
      simp [hi,hE,hEj,hwj,hjl,sLess_eq,sLess_leq,ho,k2,firstE,hp,hp']
    | false =>
     simp only [ho,if_false,Bool.false_eq_true] at k2
     have hstep:∀ (K:Prop),(GoodC Tryz.prog 133 [rVer h[i]] (.int .i64 (chkVerR h[i])) → K) → K:=fun K hK=>hK (c_checkVersionR h[i] hvb)
     cases i with
     | zero =>
      simp [hi,hE]
      refine c1 (c_checkVersionR h[0] hvb) ?_ (h1:=by rw [hE]; simp)
      by_cases hz:chkVerR h[0] = 0
      · rw [if_pos hz,← getLast_take hi] at k2
        simp [hz]
        exact rd 1 ⟨hi,k2⟩ (he:=by simp; decide)
      · rw [if_neg hz] at k2
        simp [hz,k2,firstE]
     | succ j =>
      rw [getLast_take (by omega)] at ho
      have hEj:=rVer_eq (h[j]'(by omega))
      have hwj:IntKind.i64.wrap (((j + 1:Nat):Int) - 1) = (j:Int):=by rw [wi64] <;> omega
      have hjl:j < h.length:=by omega
      simp [ordBad] at ho
      simp at hwj
      have hp:(0:Int) < (j:Int) + 1:=by omega
      have hp':(0:Int) ≤ (j:Int) + 1:=by omega
      simp [hi,hE,hEj,hwj,hjl,sLess_eq,sLess_leq,ho,hp,hp']
      refine c1 (c_checkVersionR h[j + 1] hvb) ?_ (h1:=by rw [hE]; first | exact Wk.refl _ | simp)
      simp at hw
      by_cases hz:chkVerR h[j + 1] = 0
      · rw [if_pos hz,← getLast_take hi] at k2
        simp [hz,hw]
        exact rd (j + 1 + 1) ⟨hi,k2⟩
      · rw [if_neg hz] at k2
        simp [hz,k2,firstE]
 · have:i = h.length:=by omega
   subst this
   simp [chkVersFrom] at k2
   simp
   have hz:chkVersFrom none h = 0:=k2
   refine c1 (c_levels h hb0) ?_
   simp [hz,firstE]
   try exact fun h=>h.symm
end Go.Abs
namespace Go.Abs
theorem asc_ext {l m:List (List Nat)} (hl:Asc l) (hm:Asc m) (nl:l.Nodup) (nm:m.Nodup) (h:∀ a,a ∈ l ↔ a ∈ m):l = m :=
 asc_unique hl hm ((List.perm_ext_iff_of_nodup nl nm).2 h)
theorem insS_nodup {l:List (List Nat)} {k:List Nat} (h:l.Nodup) (hk:k ∉ l):(insS l k).Nodup:=(insS_perm (l:=l) (k:=k)).nodup_iff.2 (List.nodup_cons.2 ⟨hk,h⟩)
theorem sortS_nodup {l:List (List Nat)} (h:l.Nodup):(sortS l).Nodup:=(sortS_perm l).nodup_iff.2 h
theorem filt_names {h:List VerD} (ok:AscV h) (p:VerD → Bool):Asc (namesV (h.filter p)) ∧ (namesV (h.filter p)).Nodup :=
 have:AscV (h.filter p):=List.Pairwise.filter p ok
 ⟨this.asc,this.names⟩
def wholeL (h:List VerD):List (List Nat):=namesV (h.filter fun v=>wholeS h v.name)
theorem wholeL_mem {h:List VerD} (ok:HistOk h) {a:List Nat}:a ∈ wholeL h ↔ wholeS h a = true:=by
 simp only [wholeL,namesV,List.mem_map,List.mem_filter]
 constructor
 · rintro ⟨v,⟨_,h2⟩,rfl⟩; exact h2
 · intro ha
   obtain ⟨v,hv,_⟩:=whole_at ok ha
   obtain ⟨h1,rfl⟩:=verAt_mem hv
   exact ⟨v,⟨h1,ha⟩,rfl⟩
def rndWStep (l:List (List Nat)) (v:VerD):List (List Nat):=if (!decide (v.name ∈ l) && v.parents.all fun p=>decide (p ∈ l)) = true then insS l v.name else l
def rndW (h:List VerD) (l:List (List Nat)):List (List Nat):=h.foldl rndWStep l
def rndsW (h:List VerD):Nat → List (List Nat)
 | 0=>[]
 | n + 1=>rndW h (rndsW h n)
structure WInv (h:List VerD) (l:List (List Nat)):Prop where
 asc:Asc l
 nod:l.Nodup
 whl:∀ a ∈ l,wholeS h a = true
theorem rndWStep_inv {h:List VerD} (ok:HistOk h) {l:List (List Nat)} (hi:WInv h l) {v:VerD} (hv:v ∈ h):WInv h (rndWStep l v):=by
 rw [rndWStep]; split
 · rename_i hc
   simp only [Bool.and_eq_true,Bool.not_eq_true',decide_eq_false_iff_not,List.all_eq_true,decide_eq_true_eq] at hc
   refine ⟨insS_asc hi.asc,insS_nodup hi.nod hc.1,fun a ha=>?_⟩
   rcases insS_mem.1 ha with rfl | ha
   · rw [whole_of ok hv,List.all_eq_true]
     exact fun p hp=>hi.whl p (hc.2 p hp)
   · exact hi.whl a ha
 · exact hi
theorem rndWStep_mono {l:List (List Nat)} {v:VerD} {a:List Nat} (ha:a ∈ l):a ∈ rndWStep l v:=by
 rw [rndWStep]; split
 · exact insS_mem.2 (.inr ha)
 · exact ha
theorem rnd_mono {a:List Nat}:∀ {h:List VerD} {l:List (List Nat)},a ∈ l → a ∈ rndW h l
 | [],_,h=>h
 | v :: r,l,h=>by rw [rndW,List.foldl_cons]; exact rnd_mono (h:=r) (rndWStep_mono h)
theorem rnd_inv {h:List VerD} (ok:HistOk h):∀ {r:List VerD} {l:List (List Nat)},(∀ v ∈ r,v ∈ h) → WInv h l → WInv h (rndW r l)
 | [],_,_,hi=>hi
 | v :: r,l,hr,hi=>by
  rw [rndW,List.foldl_cons]
  exact rnd_inv ok (r:=r) (fun u hu=>hr u (List.mem_cons_of_mem _ hu)) (rndWStep_inv ok hi (hr v List.mem_cons_self))
theorem rnd_get {v:VerD}:∀ {r:List VerD} {l:List (List Nat)},v ∈ r → (∀ p ∈ v.parents,p ∈ l) → v.name ∈ rndW r l
 | [],_,h,_=>by cases h
 | u :: r,l,h,hp=>by
  rw [rndW,List.foldl_cons]
  rcases List.mem_cons.1 h with rfl | h
  · refine rnd_mono ?_
    rw [rndWStep]
    by_cases hv:v.name ∈ l
    · split
      · exact insS_mem.2 (.inl rfl)
      · exact hv
    · rw [if_pos (by simpa [hv] using hp)]
      exact insS_mem.2 (.inl rfl)
  · exact rnd_get (r:=r) h fun p hq=>rndWStep_mono (hp p hq)
def rkW (h:List VerD) (n:Int):Nat:=h.countP fun v=>decide (v.level ≤ n)
theorem rk_lt:∀ {h:List VerD} {v:VerD} {m:Int},v ∈ h → m < v.level → rkW h m < rkW h v.level
 | [],_,_,h,_=>by cases h
 | u :: r,v,m,h,hm=>by
  have mono:∀ r:List VerD,rkW r m ≤ rkW r v.level:=fun r=>List.countP_mono_left fun x _ hx=>by
   simp only [decide_eq_true_eq] at hx ⊢; omega
  simp only [rkW,List.countP_cons]
  rcases List.mem_cons.1 h with rfl | h
  · have:=mono r
    simp only [rkW] at this
    have h1:¬ v.level ≤ m:=by omega
    simp [h1]; omega
  · have:=rk_lt (h:=r) h hm
    simp only [rkW] at this
    by_cases h1:u.level ≤ m
    · have h2:u.level ≤ v.level:=by omega
      simp [h1,h2]; omega
    · simp [h1]; split <;> omega
theorem rnds_inv {h:List VerD} (ok:HistOk h):∀ n,WInv h (rndsW h n)
 | 0=>⟨by simp [rndsW,Asc],by simp [rndsW],by simp [rndsW]⟩
 | n + 1=>rnd_inv ok (fun _ h=>h) (rnds_inv ok n)
theorem rnds_get {h:List VerD} (ok:HistOk h):∀ (n:Nat) (v:VerD),v ∈ h → wholeS h v.name = true → rkW h v.level ≤ n → v.name ∈ rndsW h n
 | 0,v,hv,_,hr=>by
  have:0 < rkW h v.level:=List.countP_pos_iff.2 ⟨v,hv,by simp⟩
  omega
 | n + 1,v,hv,hw,hr=>by
  refine rnd_get hv fun p hp=>?_
  rw [whole_of ok hv,List.all_eq_true] at hw
  have hwp:=hw p hp
  obtain ⟨x,hx,_⟩:=whole_at ok hwp
  obtain ⟨hxm,rfl⟩:=verAt_mem hx
  have hlt:=lvlBad_false ok.up hv hp hx
  have:=rk_lt hv hlt
  exact rnds_get ok n x hxm hwp (by omega)
theorem rnds_whole {h:List VerD} (ok:HistOk h):rndsW h h.length = wholeL h:=by
 have hi:=rnds_inv ok h.length
 have hf:=filt_names ok.asc fun v=>wholeS h v.name
 refine asc_ext hi.asc hf.1 hi.nod hf.2 fun a=>⟨fun ha=>(wholeL_mem ok).2 (hi.whl a ha),fun ha=>?_⟩
 have hw:=(wholeL_mem ok).1 ha
 obtain ⟨v,hv,_⟩:=whole_at ok hw
 obtain ⟨h1,rfl⟩:=verAt_mem hv
 exact rnds_get ok _ v h1 hw (by rw [rkW]; exact List.countP_le_length)
def isPar (h:List VerD) (k:List Nat):Bool:=h.any fun u=>wholeS h u.name && decide (k ∈ u.parents)
def headsL (h:List VerD):List (List Nat):=namesV (h.filter fun v=>wholeS h v.name && !isPar h v.name)
theorem headsL_eq (h:List VerD):headsL h = (wholeL h).filter fun k=>!isPar h k:=by
 simp only [headsL,wholeL,namesV,List.filter_map,List.filter_filter,Function.comp_def]
 congr 1
 apply List.filter_congr
 intro v _
 rw [Bool.and_comm]
def insVr:List VerD → VerD → List VerD
 | [],v=>[v]
 | x :: l,v=>if sLess x.name v.name then x :: insVr l v else v :: x :: l
theorem insVr_names:∀ (l:List VerD) (v:VerD),namesV (insVr l v) = insS (namesV l) v.name
 | [],_=>rfl
 | x :: l,v=>by
  have ih:=insVr_names l v
  simp only [namesV] at ih
  simp only [insVr,namesV,List.map_cons,insS]
  split
  · rw [List.map_cons,ih]
  · rfl
theorem insVr_perm {v:VerD}:∀ {l:List VerD},(insVr l v).Perm (v :: l)
 | []=>by simp [insVr]
 | x :: l=>by
  simp only [insVr]; split
  · exact (List.Perm.cons x insVr_perm).trans (.swap v x l)
  · exact .refl _
def sortV (l:List VerD):List VerD:=l.foldl insVr []
theorem foldl_insVr_perm:∀ (l acc:List VerD),(l.foldl insVr acc).Perm (acc ++ l)
 | [],_=>by simp
 | _ :: l,_=>by
  rw [List.foldl_cons]
  refine (foldl_insVr_perm l _).trans ?_
  refine (List.Perm.append_right l insVr_perm).trans ?_
  exact List.perm_middle.symm
theorem foldl_insVr_names:∀ (l acc:List VerD),namesV (l.foldl insVr acc) = (namesV l).foldl insS (namesV acc)
 | [],_=>rfl
 | v :: l,acc=>by
  rw [List.foldl_cons,foldl_insVr_names l,insVr_names]; rfl
theorem sortV_names (l:List VerD):namesV (sortV l) = sortS (namesV l):=foldl_insVr_names l []
theorem ascV_unique {l m:List VerD} (hl:AscV l) (hm:AscV m) (h:l.Perm m):l = m:=by
 induction l generalizing m with
 | nil=>simpa using h.length_eq.symm
 | cons x l ih =>
  cases m with
  | nil=>simpa using h.length_eq
  | cons y m =>
   have hxy:x = y:=by
    have hl':=List.pairwise_cons.1 hl
    have hm':=List.pairwise_cons.1 hm
    have h1:y ∈ x :: l:=h.mem_iff.2 List.mem_cons_self
    have h2:x ∈ y :: m:=h.mem_iff.1 List.mem_cons_self
    rcases List.mem_cons.1 h1 with e | h1
    · exact e.symm
    rcases List.mem_cons.1 h2 with e | h2
    · exact e
    have:=sLess_asym (hl'.1 y h1)
    rw [hm'.1 x h2] at this; cases this
   subst hxy
   rw [ih (List.pairwise_cons.1 hl).2 (List.pairwise_cons.1 hm).2 (List.Perm.cons_inv h)]
theorem ascV_of {l:List VerD} (hn:(namesV l).Nodup) (ha:Asc (namesV l)):AscV l:=by
 induction l with
 | nil=>exact List.Pairwise.nil
 | cons x l ih =>
  simp only [namesV,List.map_cons,List.nodup_cons] at hn
  simp only [namesV,List.map_cons,Asc,List.pairwise_cons] at ha
  refine List.pairwise_cons.2 ⟨fun y hy=>?_,ih hn.2 ha.2⟩
  cases hs:sLess x.name y.name with
  | true=>rfl
  | false =>
   have:=sLess_tri hs (ha.1 _ (List.mem_map_of_mem hy))
   exact (hn.1 (by rw [this]; exact List.mem_map_of_mem hy)).elim
theorem sortV_asc {l:List VerD} (hn:(namesV l).Nodup):AscV (sortV l) :=
 ascV_of (by rw [sortV_names]; exact sortS_nodup hn) (by rw [sortV_names]; exact sortS_asc _)
theorem sortV_of {l m:List VerD} (hn:(namesV l).Nodup) (h:m.Perm l) (hm:AscV m):m = sortV l :=
 ascV_unique hm (sortV_asc hn) (h.trans (foldl_insVr_perm l []).symm)
theorem sortV_self {h:List VerD} (ha:AscV h):sortV h = h:=(sortV_of ha.names (.refl _) ha).symm
end Go.Abs
namespace Go.Abs
def confG (a b:List VerD):Bool:=b.any fun v=>(verAt a v.name).any fun o=>!decide (o = v)
def newG (a b:List VerD):List VerD:=b.filter fun v=>(verAt a v.name).isNone
def gatherS (a b:List VerD):List VerD × Int :=
 if confG a b = true then ([],29) else if 256 < (a ++ newG a b).length then ([],5)
 else if lvlBad (sortV (a ++ newG a b)) = true then ([],29) else (sortV (a ++ newG a b),0)
def gatherV (a b:List VerD):List VerD × Int:=if firstE [chkHist a,chkHist b] ≠ 0 then ([],firstE [chkHist a,chkHist b]) else gatherS a b
theorem put_all {a n:List VerD} (ha:AscV a):n.foldl insVr a = sortV (a ++ n):=by
 rw [sortV,List.foldl_append]
 have:a.foldl insVr [] = a:=sortV_self ha
 rw [this]
def lackL (h:List VerD):List (List Nat):=(h.flatMap (·.parents)).filter fun p=>(verAt h p).isNone
def addO (l:List (List Nat)) (p:List Nat):List (List Nat):=if p ∈ l then l else insS l p
def missS (h:List VerD):List (List Nat):=(lackL h).foldl addO []
theorem addO_all:∀ (n l:List (List Nat)),Asc l → l.Nodup → Asc (n.foldl addO l) ∧ (n.foldl addO l).Nodup ∧ ∀ a,a ∈ n.foldl addO l ↔ a ∈ l ∨ a ∈ n
 | [],l,h1,h2=>⟨h1,h2,by simp⟩
 | p :: n,l,h1,h2=>by
  rw [List.foldl_cons]
  by_cases hp:p ∈ l
  · have e:addO l p = l:=by rw [addO,if_pos hp]
    rw [e]
    obtain ⟨k1,k2,k3⟩:=addO_all n l h1 h2
    refine ⟨k1,k2,fun a=>?_⟩
    rw [k3,List.mem_cons]
    constructor
    · rintro (h | h)
      · exact .inl h
      · exact .inr (.inr h)
    · rintro (h | rfl | h)
      · exact .inl h
      · exact .inl hp
      · exact .inr h
  · have e:addO l p = insS l p:=by rw [addO,if_neg hp]
    rw [e]
    obtain ⟨k1,k2,k3⟩:=addO_all n (insS l p) (insS_asc h1) (insS_nodup h2 hp)
    refine ⟨k1,k2,fun a=>?_⟩
    rw [k3,insS_mem,List.mem_cons]
    constructor
    · rintro ((h | h) | h)
      · exact .inr (.inl h)
      · exact .inl h
      · exact .inr (.inr h)
    · rintro (h | h | h)
      · exact .inl (.inr h)
      · exact .inl (.inl h)
      · exact .inr h
theorem missS_ok (h:List VerD):Asc (missS h) ∧ (missS h).Nodup ∧ ∀ a,a ∈ missS h ↔ a ∈ lackL h:=by
 obtain ⟨h1,h2,h3⟩:=addO_all (lackL h) [] (by simp [Asc]) (by simp)
 exact ⟨h1,h2,fun a=>by rw [missS,h3]; simp⟩
end Go.Abs
namespace Go.Abs
theorem sortV_mem {l:List VerD} {v:VerD}:v ∈ sortV l ↔ v ∈ l:=by rw [sortV,(foldl_insVr_perm _ []).mem_iff,List.nil_append]
end Go.Abs
namespace Go.Abs
open Go.Proofs
set_option maxHeartbeats 4000000
set_option maxRecDepth 100000
@[simp] def rowsX (l:List RowD):Obj:=.arr .exact 0 2 (l.map (AV.p ∘ eRow))
end Go.Abs
namespace Go.Abs
open Go.Proofs
set_option maxHeartbeats 4000000
set_option maxRecDepth 100000
theorem c_cloneS (l:List (List Nat)) (h:l.length ≤ 1048576):GoodC Tryz.prog 157 [.seq (l.map .str)] (.seq (l.map .str)):=by
 cases l with
 | nil =>
  refine .inl (goodP_seq_nil (pre:=[]) (post:=[]) ?_ ?_)
  · refine goodP_fn nf isF157 mix (by simp [Tryz.f157]) ?_
    simp [Tryz.f157]
  · refine goodP_fn nf isF157 mix (by simp [Tryz.f157]) ?_
    simp [Tryz.f157,maxL]
 | cons a r =>
  refine good_fn nf isF157 mix (by simp [Tryz.f157]) ?_
  simp at h
  simp [Tryz.f157]
  simp only [maxL]; omega
end Go.Abs
namespace Go.Abs
def EventD.at (e:EventD) (n:Int):EventD:=⟨n,e.kind,e.names,e.vals,e.text⟩
end Go.Abs
namespace Go.Abs
open Go.Proofs
set_option maxHeartbeats 4000000
set_option maxRecDepth 100000
theorem c_mappedRR (l:List RowD) (h:rowsB l):GoodC Tryz.prog 139 [.seq (l.map eRow),.func 141 [] []] (.seq (l.map eRow)):=by
 refine good_fn nf isF139 mix (by simp [Tryz.f139]) ?_
 have hl:=h.1
 simp [Tryz.f139]
 refine lp (α:=Nat) (fun i=>⟨[(10,.p (.int .i64 i)),(9,.p (.int .i64 l.length)),(8,.p (.seq (l.map eRow))),(5,.sl 0 i 2 0 i),(1,.p (.func 141 [] []))],[.arr .grow i 2 ((l.map fun r=>.p (eRow r)).take i)]⟩) (fun i=>i ≤ l.length) (fun i=>l.length - i) 0 (by simp) ?_
 rintro i k1
 by_cases hi:i < l.length
 · have hw:=wi1 (i:=i) (by omega)
   have ht:=take_next (fun r=>AV.p (eRow r)) hi
   simp [hi]
   refine c1 (c_copied l[i] (h.2 _ (List.getElem_mem hi))) ?_
   simp
   refine ⟨⟨by omega,by simp only [maxL]; omega⟩,?_⟩
   exact rd (i + 1) hi (he:=by simp [hw]) (hh:=by simp [ht]) (hr2:=by simp [ht])
 · have:i = l.length:=by omega
   subst this
   simp
end Go.Abs
namespace Go.Abs
open Go.Proofs
set_option maxHeartbeats 4000000
set_option maxRecDepth 100000
theorem shpVerR (l:List VerD):allShp Tryz.prog 5 (l.map (AV.p ∘ rVer)):=by
 rw [allShp_iff]
 intro v hv
 obtain ⟨x,_,rfl⟩:=List.mem_map.1 hv
 exact ⟨by simp [shpA],by simp [shpA,shpSize]⟩
def histW (h:List VerD):Prop:=h.length ≤ 1048576 ∧ ∀ v ∈ h,v.book.rows.length ≤ 1048576
theorem histB.w {h:List VerD} (hb:histB h):histW h:=⟨hb.1,fun v hv=>(hb.2 v hv).2.2.2.2.1⟩
theorem c_versions (h:List VerD) (hb:histW h):GoodC Tryz.prog 42 [eHist h] (.seq (h.map rVer)):=by
 refine good_fn nf isF42 mix (by simp [Tryz.f42]) ?_
 have hl:=hb.1
 simp [Tryz.f42,eHist]
 refine lp (α:=Nat) (fun i=>⟨[(9,.p (.int .i64 i)),(8,.p (.int .i64 h.length)),(7,.p (.seq (h.map eVer))),(3,.sl 1 i 5 0 i)],[.hole,.arr .grow i 5 ((h.map fun r=>.p (rVer r)).take i)]⟩) (fun i=>i ≤ h.length) (fun i=>h.length - i) 0 (by simp) ?_
 rintro i k1
 by_cases hi:i < h.length
 · have hw:=wi1 (i:=i) (by omega)
   have ht:=take_next (fun r=>AV.p (rVer r)) hi
   have hE:=eVer_eq h[i]
   have hR:=rVer_eq h[i]
   simp [hi,hE]
   refine e1 (c_book h[i].book (hb.2 _ (List.getElem_mem hi))) ?_
   simp [← hR]
   refine ⟨⟨by omega,by simp only [maxL]; omega⟩,rfl,?_⟩
   exact rd (i + 1) hi (he:=by simp [hw]) (hh:=by simp [ht]) (hr2:=by simp [ht])
 · have:i = h.length:=by omega
   subst this
   simp
def shortVer (v:VerD):Bool:=decide (v.name.length ≤ 60) && decide (v.parents.length ≤ 4) && shortBook v.book 8 && v.parents.all fun p=>decide (p.length ≤ 60)
def shortHist (h:List VerD) (n:Nat):Bool:=decide (h.length ≤ n) && h.all shortVer
theorem all_dropV {α:Type} (f:α → Bool) {l:List α} {i:Nat} (hi:i < l.length):(l.drop i).all f = (f l[i] && (l.drop (i + 1)).all f):=by
 rw [List.drop_eq_getElem_cons hi,List.all_cons]
theorem c_shortHist (h:List VerD) (n:Nat) (hb:histW h) (hn:n ≤ 100):GoodC Tryz.prog 43 [.seq (h.map rVer),.int .i64 n] (.bool (shortHist h n)):=by
 refine good_fn nf isF43 mix (by simp [Tryz.f43]) ?_
 by_cases hl:n < h.length
 · have hl':(n:Int) < h.length:=by omega
   have hs:¬ h.length ≤ n:=by omega
   simp [Tryz.f43,hl',shortHist,hs]
 have hl':¬ (n:Int) < h.length:=by omega
 have e0:shortHist h n = h.all shortVer:=by rw [shortHist,decide_eq_true (by omega)]; simp
 rw [e0]
 simp [Tryz.f43,hl']
 refine lp (α:=Nat) (fun i=>⟨[(5,.p (.int .i64 i)),(0,.p (.seq (h.map rVer)))],[]⟩) (fun i=>i ≤ h.length ∧ h.all shortVer = (h.drop i).all shortVer) (fun i=>h.length - i) 0 (by simp) ?_
 rintro i ⟨k1,k2⟩
 by_cases hi:i < h.length
 · have hw:=wi1 (i:=i) (by omega)
   have hE:=rVer_eq h[i]
   have hvb:=hb.2 _ (List.getElem_mem hi)
   rw [all_dropV _ hi] at k2
   by_cases h1:60 < h[i].name.length
   · have h1':(60:Int) < (h[i].name.length:Int):=by omega
     have e:shortVer h[i] = false:=by simp [shortVer]; intro h; omega
     rw [e,Bool.false_and] at k2
     rw [k2]
     simp [hi,hE,h1']
   have h1':¬ (60:Int) < (h[i].name.length:Int):=by omega
   by_cases h2:4 < h[i].parents.length
   · have h2':(4:Int) < (h[i].parents.length:Int):=by omega
     have e:shortVer h[i] = false:=by simp [shortVer]; intro _ h; omega
     rw [e,Bool.false_and] at k2
     rw [k2]
     simp [hi,hE,h1',h2']
   have h2':¬ (4:Int) < (h[i].parents.length:Int):=by omega
   have e1:shortVer h[i] = (shortBook h[i].book 8 && h[i].parents.all fun p=>decide (p.length ≤ 60)):=by
    simp [shortVer,show h[i].name.length ≤ 60 by omega,show h[i].parents.length ≤ 4 by omega]
   simp [hi,hE,h1',h2']
   refine c2 (c_shortBook h[i].book 8 hvb (by omega)) ?_
   cases hsb:shortBook h[i].book 8 with
   | false =>
    rw [e1,hsb,Bool.false_and,Bool.false_and] at k2
    rw [k2]
    simp
   | true =>
    rw [e1,hsb,Bool.true_and] at k2
    simp
    refine lp (α:=Nat) (fun j=>⟨[(6,.p (.int .i64 j)),(5,.p (.int .i64 i)),(0,.p (.seq (h.map rVer)))],[]⟩) (fun j=>j ≤ h[i].parents.length ∧ (h[i].parents.all fun p=>decide (p.length ≤ 60)) = (h[i].parents.drop j).all fun p=>decide (p.length ≤ 60)) (fun j=>h[i].parents.length - j) 0 (by simp) ?_
    rintro j ⟨q1,q2⟩
    by_cases hj:j < h[i].parents.length
    · have hw2:=wi1 (i:=j) (by omega)
      rw [all_dropV _ hj] at q2
      by_cases h3:60 < h[i].parents[j].length
      · have h3':(60:Int) < (h[i].parents[j].length:Int):=by omega
        have h3'':¬ h[i].parents[j].length ≤ 60:=by omega
        rw [decide_eq_false h3'',Bool.false_and] at q2
        rw [q2,Bool.false_and] at k2
        rw [k2]
        simp [hi,hj,hE,h3']
      · have h3':¬ (60:Int) < (h[i].parents[j].length:Int):=by omega
        rw [decide_eq_true (by omega),Bool.true_and] at q2
        simp [hi,hj,hE,h3',hw2]
        exact rd (j + 1) ⟨hj,q2⟩
    · have:j = h[i].parents.length:=by omega
      subst this
      rw [List.drop_length] at q2
      rw [q2] at k2
      simp [hi,hE,hw]
      exact rd (i + 1) ⟨hi,by simpa using k2⟩
 · have:i = h.length:=by omega
   subst this
   rw [List.drop_length] at k2
   rw [k2]
   simp
theorem short_histB {h:List VerD} {n:Nat} (hn:n ≤ 100) (hs:shortHist h n = true):histB h ∧ h.length ≤ n:=by
 simp only [shortHist,Bool.and_eq_true,decide_eq_true_eq,List.all_eq_true] at hs
 refine ⟨⟨by omega,fun v hv=>?_⟩,hs.1⟩
 have h1:=hs.2 v hv
 simp only [shortVer,Bool.and_eq_true,decide_eq_true_eq,List.all_eq_true] at h1
 exact ⟨by omega,by omega,fun p hp=>by have:=h1.2 p hp; omega,(short_bookB h1.1.2).1⟩
theorem c_sameVer (a b:VerD) (ha:verB a) (hb:verB b):GoodC Tryz.prog 137 [rVer a,rVer b] (.bool (decide (a = b))):=by
 refine good_fn nf isF137 mix (by simp [Tryz.f137]) ?_
 obtain ⟨n1,l1,p1,m1⟩:=a
 obtain ⟨n2,l2,p2,m2⟩:=b
 have hE:(decide ((⟨n1,l1,p1,m1⟩:VerD) = ⟨n2,l2,p2,m2⟩)) = (decide (n1 = n2) && decide (l1 = l2) && decide (p1 = p2) && decide (m1 = m2)):=by
  rw [Bool.eq_iff_iff]; simp [and_assoc]
 rw [hE]
 by_cases h1:n1 = n2
 · by_cases h2:l1 = l2
   · simp [Tryz.f137,rVer_mk,h1,h2]
     refine c2 (c_sameWords p1 p2 ha.2.1 hb.2.1) ?_
     by_cases h3:p1 = p2
     · simp [h3]
       refine c2 (c_sameBook m1 m2 ha.2.2.2 hb.2.2.2) ?_
       simp [h1,h2,h3]
     · simp [h3]
   · simp [Tryz.f137,rVer_mk,h1,h2]
 · simp [Tryz.f137,rVer_mk,h1]
theorem c_sameVers (a b:List VerD) (ha:histB a) (hb:histB b):GoodC Tryz.prog 52 [.seq (a.map rVer),.seq (b.map rVer)] (.bool (decide (a = b))):=by
 refine good_fn nf isF52 mix (by simp [Tryz.f52]) ?_
 obtain ⟨ha,ha'⟩:=ha
 obtain ⟨hb,hb'⟩:=hb
 by_cases hl:a.length = b.length
 · have hl':(a.length:Int) = b.length:=by omega
   simp [Tryz.f52,hl']
   refine lp (α:=Nat) (fun i=>⟨[(5,.p (.int .i64 i)),(1,.p (.seq (b.map rVer))),(0,.p (.seq (a.map rVer)))],[]⟩) (fun i=>i ≤ a.length ∧ decide (a = b) = decide (a.drop i = b.drop i)) (fun i=>a.length - i) 0 (by simp) ?_
   rintro i ⟨k1,k2⟩
   by_cases hi:i < a.length
   · have hi':i < b.length:=by omega
     rw [beq_drop hi hi'] at k2
     have hw:=wi1 (i:=i) (by omega)
     simp [hi,hi']
     refine e2 (c_sameVer a[i] b[i] (ha' _ (List.getElem_mem hi)) (hb' _ (List.getElem_mem hi'))) ?_
     by_cases he:a[i] = b[i]
     · rw [decide_eq_true he,Bool.true_and] at k2
       simp [he,hw]
       exact rd (i + 1) ⟨hi,k2⟩
     · rw [decide_eq_false he,Bool.false_and] at k2
       rw [k2]
       simp [he]
   · have:i = a.length:=by omega
     subst this
     have k3:decide (a = b) = true:=by rw [k2,List.drop_length,hl,List.drop_length]; rfl
     rw [k3]
     simp
 · have hl':¬ (a.length:Int) = b.length:=by omega
   rw [decide_eq_false (len_ne hl)]
   simp [Tryz.f52,hl']
end Go.Abs
namespace Go.Abs
open Go.Proofs Go.Proofs.YthckccalfpnmaaaGreatDoor
set_option maxRecDepth 100000
section
variable {H:Type} {W:World} {Imm:Nat → Prop}
theorem four_of {P : Program} {n : Nat} {t : TypeId} {f0 f1 f2 f3 : Field} {k0 k1 k2 k3 : Nat} (ht : P.underlying t = some (.struct #[f0, f1, f2, f3])) (hs : szs P (P.underlyingId t) = some [k0, k1, k2, k3])
    {d:DataW H} {cs:List Value} (h:PVC P W Imm (toPV P (n + 1) t d) cs) :
    ∃ (a b c e:DataW H) (r:List (DataW H)) (c0 c1 c2 c3:List Value),d = .agg (a :: b :: c :: e :: r) ∧ toPV P (n + 1) t d = .st (P.underlyingId t) [toPV P n f0.type a,toPV P n f1.type b,toPV P n f2.type c,toPV P n f3.type e] ∧
     PVC P W Imm (toPV P n f0.type a) c0 ∧ PVC P W Imm (toPV P n f1.type b) c1 ∧ PVC P W Imm (toPV P n f2.type c) c2 ∧ PVC P W Imm (toPV P n f3.type e) c3:=by
 cases d with
 | agg l =>
  simp only [toPV,ht,PVC] at h ⊢
  obtain ⟨l',css,h1,h2,_⟩:=h
  rw [hs] at h1; cases h1
  match l,h2 with
  | [],h2=>simp [PVCl] at h2
  | [_],h2=>simp [PVCl] at h2
  | [_,_],h2=>simp [PVCl] at h2
  | [_,_,_],h2=>simp [PVCl] at h2
  | a :: b :: c :: e :: r,h2 =>
   simp only [List.zip_cons_cons,List.map_cons,PVCl,List.zip_nil_left,List.map_nil] at h2 ⊢
   obtain ⟨c0,_,_,g0,_,c1,_,_,g1,_,c2,_,_,g2,_,c3,_,_,g3,_⟩:=h2
   exact ⟨a,b,c,e,r,c0,c1,c2,c3,rfl,rfl,g0,g1,g2,g3⟩
 | _=>simp only [toPV,ht,PVC] at h
theorem unVer:∃ f0 f1 f2 f3:Field,Tryz.prog.underlying 148 = some (.struct #[f0,f1,f2,f3]) ∧ f0.type = 9 ∧ f1.type = 3 ∧ f2.type = 44 ∧ f3.type = 24:=⟨_,_,_,_,Tryz.underlying148,rfl,rfl,rfl,rfl⟩
theorem uidVer:Tryz.prog.underlyingId 148 = 147:=by kernel_rfl
theorem bulk_part {d:DataW H} {l:List (DataW H)} {n:Nat} (hd:d ∈ l) (h:Rows.uptoBulk (.agg l) ≤ n):Rows.uptoBulk d ≤ n:=by
 have:=bulks.part_le hd
 rw [Rows.uptoBulk] at h
 omega
theorem seq_ofB {α : Type} {n N : Nat} {t e : TypeId} {F : α → PV} (Q : α → Prop) (ht : Tryz.prog.underlying t = some (.slice e)) (hF : ∀ (d : DataW H) c, PVC Tryz.prog W Imm (toPV Tryz.prog n e d) c → Rows.uptoBulk d ≤ N → ∃ a, toPV Tryz.prog n e d = F a ∧ Q a)
    {d:DataW H} {cs:List Value} (h:PVC Tryz.prog W Imm (toPV Tryz.prog (n + 1) t d) cs) (hb:Rows.uptoBulk d ≤ N):∃ l:List α,toPV Tryz.prog (n + 1) t d = .seq (l.map F) ∧ (∀ a ∈ l,Q a) ∧ l.length ≤ N:=by
 cases d with
 | nil=>exact ⟨[],by simp [toPV,ht],by simp,by simp⟩
 | slice ds sp =>
  have hlen:=bulks.slice_le ds sp
  have hel:∀ x ∈ ds,Rows.uptoBulk x ≤ N:=fun x hx=>by
   have:=bulks.part_le hx
   simp only [Rows.uptoBulk] at hb
   omega
  simp only [toPV,ht,PVC] at h ⊢
  have hm:∀ e' ∈ ds.map (toPV Tryz.prog n e),∃ c,PVC Tryz.prog W Imm e' c:=by
   rcases h with ⟨h,_⟩ | ⟨_,_,_,_,css,h,_⟩
   · rw [h]; intro _ h; cases h
   · exact pvcl_mem h
  have key:∀ ds:List (DataW H),(∀ x ∈ ds,Rows.uptoBulk x ≤ N) → (∀ e' ∈ ds.map (toPV Tryz.prog n e),∃ c,PVC Tryz.prog W Imm e' c) → ∃ l:List α,ds.map (toPV Tryz.prog n e) = l.map F ∧ (∀ a ∈ l,Q a) ∧ l.length = ds.length:=by
   intro ds
   induction ds with
   | nil=>intro _ _; exact ⟨[],rfl,by simp,rfl⟩
   | cons d r ih =>
    intro hx hm
    obtain ⟨c,hc⟩:=hm _ List.mem_cons_self
    obtain ⟨a,ha,hq⟩:=hF d c hc (hx d List.mem_cons_self)
    obtain ⟨l,h1,h3,h2⟩:=ih (fun x h=>hx x (List.mem_cons_of_mem _ h)) fun e' he=>hm e' (List.mem_cons_of_mem _ he)
    refine ⟨a :: l,by simp only [List.map_cons]; rw [ha,h1],?_,by simp [h2]⟩
    intro x hx
    rcases List.mem_cons.1 hx with rfl | hx
    · exact hq
    · exact h3 x hx
  obtain ⟨l,h1,h3,h2⟩:=key ds hel hm
  exact ⟨l,by rw [h1],h3,by omega⟩
 | lit l=>simp only [toPV,ht,PVC] at h
 | ptr d=>simp only [toPV,ht,PVC] at h
 | agg l=>simp only [toPV,ht,PVC] at h
 | iface a b=>simp only [toPV,ht,PVC] at h
 | map l=>simp only [toPV,ht,PVC] at h
 | held a=>simp only [toPV,ht,PVC] at h
theorem book_arg5 {d:DataW H} (h:∃ cs,PVC Tryz.prog W Imm (toPV Tryz.prog 5 24 d) cs) (hb:Rows.uptoBulk d ≤ 1048576):∃ b:BookD,toPV Tryz.prog 5 24 d = eBook b ∧ b.rows.length ≤ 1048576:=by
 obtain ⟨cs,h⟩:=h
 obtain ⟨f0,f1,hu,t0,t1⟩:=unBook
 obtain ⟨x,y,r,c0,c1,hd,h1,h2,h3⟩:=two_of2 (n:=4) hu (by rw [uidBook]; exact sz23) h
 rw [t0] at h1 h2; rw [t1] at h1 h3
 obtain ⟨s,hs⟩:=str_of x c0 h2
 have hy:Rows.uptoBulk y ≤ 1048576:=bulk_part (d:=y) (l:=x :: y :: r) (by simp) (by rw [← hd]; exact hb)
 obtain ⟨l,hl,hll⟩:=list_arg (n:=3) un22 (fun d c hc=>row_of (n:=0) d c hc) ⟨c1,h3⟩ hy
 exact ⟨⟨s,l⟩,by rw [h1,hs,hl,uidBook]; rfl,hll⟩
theorem ver_of (d:DataW H) (c) (h:PVC Tryz.prog W Imm (toPV Tryz.prog 6 148 d) c) (hb:Rows.uptoBulk d ≤ 1048576):∃ v:VerD,toPV Tryz.prog 6 148 d = eVer v ∧ v.book.rows.length ≤ 1048576:=by
 obtain ⟨f0,f1,f2,f3,hu,t0,t1,t2,t3⟩:=unVer
 obtain ⟨x,y,z,u,r,c0,c1,c2,c3,hd,h1,g0,g1,g2,g3⟩:=four_of (n:=5) hu (by rw [uidVer]; exact sz147) h
 rw [t0] at h1 g0; rw [t1] at h1 g1; rw [t2] at h1 g2; rw [t3] at h1 g3
 obtain ⟨nm,e0⟩:=str_of x c0 g0
 obtain ⟨lv,e1⟩:=int_of y c1 g1
 obtain ⟨ps,e2,_⟩:=seq_of un44 (fun d c hh=>str_of d c hh) g2
 have hub:Rows.uptoBulk u ≤ 1048576:=bulk_part (d:=u) (l:=x :: y :: z :: u :: r) (by simp) (by rw [← hd]; exact hb)
 obtain ⟨bk,e3,e4⟩:=book_arg5 ⟨c3,g3⟩ hub
 exact ⟨⟨nm,lv,ps,bk⟩,by rw [h1,e0,e1,e2,e3,uidVer]; rfl,e4⟩
theorem one_ofS {P : Program} {n : Nat} {t : TypeId} {f0 : Field} {k0 : Nat} (ht : P.underlying t = some (.struct #[f0])) (hs : szs P (P.underlyingId t) = some [k0])
    {d:DataW H} {cs:List Value} (h:PVC P W Imm (toPV P (n + 1) t d) cs) :
    ∃ (a:DataW H) (r:List (DataW H)) (c0:List Value),d = .agg (a :: r) ∧ toPV P (n + 1) t d = .st (P.underlyingId t) [toPV P n f0.type a] ∧ PVC P W Imm (toPV P n f0.type a) c0:=by
 cases d with
 | agg l =>
  simp only [toPV,ht,PVC] at h ⊢
  obtain ⟨l',css,h1,h2,_⟩:=h
  rw [hs] at h1; cases h1
  match l,h2 with
  | [],h2=>simp [PVCl] at h2
  | a :: r,h2 =>
   simp only [List.zip_cons_cons,List.map_cons,PVCl,List.zip_nil_left,List.map_nil] at h2 ⊢
   obtain ⟨c0,_,_,g0,_⟩:=h2
   exact ⟨a,r,c0,rfl,rfl,g0⟩
 | _=>simp only [toPV,ht,PVC] at h
theorem unHist:∃ f0:Field,Tryz.prog.underlying 76 = some (.struct #[f0]) ∧ f0.type = 74:=⟨_,Tryz.underlying76,rfl⟩
theorem uidHist:Tryz.prog.underlyingId 76 = 75:=by kernel_rfl
theorem hist_arg {d:DataW H} (h:∃ cs,PVC Tryz.prog W Imm (toPV Tryz.prog 8 76 d) cs) (hb:Rows.uptoBulk d ≤ 1048576):∃ h:List VerD,toPV Tryz.prog 8 76 d = eHist h ∧ histW h:=by
 obtain ⟨cs,h⟩:=h
 obtain ⟨f0,hu,t0⟩:=unHist
 obtain ⟨x,r,c0,hd,h1,h2⟩:=one_ofS (n:=7) hu (by rw [uidHist]; exact sz75) h
 rw [t0] at h1 h2
 have hx:Rows.uptoBulk x ≤ 1048576:=bulk_part (d:=x) (l:=x :: r) (by simp) (by rw [← hd]; exact hb)
 obtain ⟨l,e1,e2,e3⟩:=seq_ofB (n:=6) (fun v:VerD=>v.book.rows.length ≤ 1048576) un74 (fun d c hc hb=>ver_of d c hc hb) h2 hx
 exact ⟨l,by rw [h1,e1,uidHist]; rfl,e3,e2⟩
end
end Go.Abs
