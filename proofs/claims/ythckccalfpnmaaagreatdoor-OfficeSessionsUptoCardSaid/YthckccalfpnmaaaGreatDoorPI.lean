import Derived.Test.YthckccalfpnmaaaGreatDoorPH
import Derived.Test.YthckccalfpnmaaaGreatDoorThE
/- Parts of a proof. -/
set_option linter.unusedSimpArgs false
set_option linter.unusedVariables false
set_option linter.unusedSectionVars false
namespace Go.Abs
open Go.Proofs
set_option maxHeartbeats 4000000
set_option maxRecDepth 100000
section
variable {P:Program} {frz:FuncId → Bool} {dst:Option Tmp} {ty:Nat} {pos:String} {af:Array Edge} {g:Option (Nat × Bool)} {env:Env} {heap:Heap} {K:Eff → Prop}
theorem d_sdata0 {x:Operand} {aT:Array TypeId} (hx:ev env x = .p .nsl) (hk:K { v:=.p .nptr }):drawnS P frz ⟨dst,.call { callee:=.builtin .unsafeSliceData,args:=#[x],argTypes:=aT },ty,pos,af,g⟩ ⟨env,heap⟩ K ():=by
 have h:opEff P frz ⟨dst,.call { callee:=.builtin .unsafeSliceData,args:=#[x],argTypes:=aT },ty,pos,af,g⟩ (ev env) heap K:=by
  unfold opEff
  simp only [List.map_cons,List.map_nil,hx]
  exact hk
 exact h
theorem d_ustr0 {x y:Operand} {aT:Array TypeId} (hx:ev env x = .p .nptr) (hy:ev env y = .p (.int .i64 0)) (ha:aT.size = 2) (hk:K { v:=.p (.str []) }):drawnS P frz ⟨dst,.call { callee:=.builtin .unsafeString,args:=#[x,y],argTypes:=aT },ty,pos,af,g⟩ ⟨env,heap⟩ K ():=by
 have h:opEff P frz ⟨dst,.call { callee:=.builtin .unsafeString,args:=#[x,y],argTypes:=aT },ty,pos,af,g⟩ (ev env) heap K:=by
  unfold opEff
  simp only [List.map_cons,List.map_nil,hx,hy]
  exact ⟨trivial,ha,hk⟩
 exact h
end
theorem g_wb1 (c : Nat) (hc : c < 256) : GoodI Tryz.prog 260 [.box false (.p (.st 161 [.nptr, .nsl]))] [.ptr 0 [], .p (.int .u8 c)]
    [.box false (.st 161 [.ptr 0 [],.sl 2 0 1 0 1]),.hole,.arr .bytes 0 1 (u8s [c])] (.p .nif):=by
 refine goodI_fn nf isF260 mix (by simp [Tryz.f260]) ?_
 simp [Tryz.f260]
 refine ci (g180f (b:=0) (t:=.p (.st 161 [.nptr,.nsl])) (x:=.p .nsl) rfl (.inl rfl)) ?_
 simp
 refine ⟨by decide,ForgetN.og (by simp) (by simp) (by simp [u8s]) (by simp) (by simp [u8s])⟩
theorem g_wb2 (a : List Nat) (v n c : Nat) (hn : n = a.length) (hc : c < 256) (ha : a.length ≤ 1048576) : GoodI Tryz.prog 260 [.box false (.st 161 [.ptr 0 [], .sl 1 v 1 0 n]), .arr .bytes v 1 (u8s a)] [.ptr 0 [], .p (.int .u8 c)]
    [.box false (.st 161 [.ptr 0 [],.sl 1 (v + 1) 1 0 (n + 1)]),.arr .bytes (v + 1) 1 (u8s (a ++ [c]))] (.p .nif):=by
 refine goodI_fn nf isF260 mix (by simp [Tryz.f260]) ?_
 simp [Tryz.f260]
 refine ci (g180u (b:=0) (x:=.sl 1 v 1 0 n) rfl) ?_
 simp
 have htk:List.take n (u8s a) = u8s a:=List.take_of_length_le (by rw [u8s_len]; omega)
 refine ⟨⟨by rw [u8s_len]; omega,by rw [u8s_len]; simp only [maxL]; omega⟩,?_⟩
 rw [htk,u8s_app]
 refine ForgetN.og (by simp [u8s]) (by simp) (by simp [u8s]) (by simp) (by simp [u8s])
theorem g_str0 : GoodI Tryz.prog 101 [.box false (.p (.st 161 [.nptr, .nsl]))] [.ptr 0 []]
    [.box false (.p (.st 161 [.nptr,.nsl]))] (.p (.str [])):=by
 refine goodI_fn nf isF101 mix (by simp [Tryz.f101]) ?_
 simp [Tryz.f101]
 refine d_sdata0 rfl ?_
 simp
 refine d_ustr0 rfl rfl rfl ?_
 simp
end Go.Abs
namespace Go.Abs
open Go.Proofs
set_option maxHeartbeats 4000000
set_option maxRecDepth 100000
def st1 (d:StoryD) (ve vs:Nat) (J:List PV):Heap:=[.box false (.st 237 [.sl 2 ve 5 0 d.evs.length,.sl 3 vs 1 0 d.sts.length]),.arr .grow ve 5 (d.evs.map (AV.p ∘ eEvent)),.arr .grow vs 1 (d.sts.map (AV.p ∘ eRows) ++ J.map AV.p)]
theorem g_replayH (l : List EventD) (v0 n : Nat) (hl : l.length ≤ 1000) (hn : n ≤ l.length) (he : ∀ e ∈ l, evB e) (h0 : (playS (l.take n)).2.2 = 0) :
    ∃ ve vs J,StoryB (playS (l.take n)).1 J ∧ GoodI Tryz.prog 138 [.arr .grow v0 5 (l.map (AV.p ∘ eEvent))] [.sl 0 v0 5 0 n] (.arr .grow v0 5 (l.map (AV.p ∘ eEvent)) :: st1 (playS (l.take n)).1 ve vs J) (.tup [.ptr 1 [],.p (.int .i64 0),.p (.int .i64 0)]):=by
 have key:=goodX_fn (P:=Tryz.prog) nf isF138 mix (args:=[.sl 0 v0 5 0 n]) (H:=[.arr .grow v0 5 (l.map (AV.p ∘ eEvent))])
  (fun v H'=>∃ ve vs J,StoryB (playS (l.take n)).1 J ∧ H' = .arr .grow v0 5 (l.map (AV.p ∘ eEvent)) :: st1 (playS (l.take n)).1 ve vs J ∧ v = .tup [.ptr 1 [],.p (.int .i64 0),.p (.int .i64 0)]) (by simp [Tryz.f138]) ?_
 · obtain ⟨v,H',⟨ve,vs,J,hB,rfl,rfl⟩,hg⟩:=key
   exact ⟨ve,vs,J,hB,hg⟩
 have h1':¬ (1000:Int) < n:=by omega
 have hp:playS (l.take n) = playL (l.take n) 0 ⟨[],[]⟩:=by rw [playS,if_neg (by simp; omega)]
 rw [hp] at h0 ⊢
 generalize hR:playL (l.take n) 0 ⟨[],[]⟩ = R at *
 simp [Tryz.f138,h1']
 refine lp (α:=Nat × StoryD × Nat × Nat × List PV) (fun (i,d,ve,vs,J)=>⟨[(16,.p (.int .i64 i)),(15,.p (.int .i64 n)),(14,.sl 0 v0 5 0 n),(5,.ptr 1 [])],.arr .grow v0 5 (l.map (AV.p ∘ eEvent)) :: st1 d ve vs J⟩)
  (fun (i,d,ve,vs,J)=>i ≤ n ∧ R = playL ((l.take n).drop i) i d ∧ d.evs.length = i ∧ StoryB d J) (fun (i,_)=>n - i) (0,⟨[],[]⟩,0,0,[]) ⟨by simp,by simp [hR],rfl,⟨by simp,by simp,by simp⟩⟩ ?_ (hh:=by simp [st1]) (hr:=by simp [st1]) (hr2:=by simp [st1])
 rintro ⟨i,d,ve,vs,J⟩ ⟨k1,k2,k3,k4⟩
 dsimp only at k1 k2 k3 k4 ⊢
 have hw:=wi1 (i:=i) (by omega)
 by_cases hi:i < n
 · have hil:i < l.length:=by omega
   rw [List.drop_eq_getElem_cons (by simp; omega),playL,List.getElem_take] at k2
   have hei:=he _ (List.getElem_mem hil)
   obtain ⟨ve',vs',J',g1,g2⟩:=g_add d ve vs J l[i] hei k4
   have hB:=next_B k4 hei (by omega) g2
   have ha:addE d l[i] = 0:=by
    by_cases ha:addE d l[i] = 0
    · exact ha
    · rw [if_pos ha] at k2
      rw [k2] at h0; exact (ha h0).elim
   rw [if_neg (by simpa using ha)] at k2
   have hN:nextD d l[i] = acceptD d l[i]:=by rw [nextD,if_pos ha]
   rw [hN] at hB g1
   rw [ha] at g1
   simp only [stH,storyV] at g1
   have hne:l ≠ []:=by rintro rfl; simp at hil
   simp [hi,hil,hne,st1]
   refine cf g1 [1,2,3] ?_
   simp [setAll,sig,hw]
   refine rd (i + 1,acceptD d l[i],ve',vs',J') ⟨hi,k2,by simp [acceptD,k3],hB⟩ (h1:=by dsimp only; omega) (hh:=by simp [st1]) (hr:=by simp [st1]) (hr2:=by simp [st1])
 · have:i = n:=by omega
   subst this
   rw [List.drop_of_length_le (by simp; omega),playL] at k2
   simp
   rw [k2]
   exact ⟨_,⟨ve,vs,J,k4,rfl⟩,.inl rfl⟩
end Go.Abs
namespace Go.Abs
open Go.Proofs
set_option maxHeartbeats 4000000
set_option maxRecDepth 100000
@[simp] theorem renL_u8s {σ:Nat → Nat}:∀ {t:List Nat},renL σ (u8s t) = u8s t
 | []=>rfl
 | c :: t=>by
  show renL σ (AV.p (.int .u8 (c:Int)) :: u8s t) = AV.p (.int .u8 (c:Int)) :: u8s t
  simp only [renL,renL_u8s (t:=t),ren]
@[simp] theorem rl_u8s {N:Nat × Nat → Prop} {t:List Nat}:refsLtl N (u8s t) = True:=by
 rw [refsLtl_mem,eq_iff_iff,iff_true]; intro v hv; simp only [u8s,List.mem_map] at hv; obtain ⟨x,_,rfl⟩:=hv; trivial
def diffV (d:StoryD) (w:List Nat):List Nat × Int :=
 if (intR w).2 = false then ([],25)
 else if (d.evs.length:Int) < (intR w).1 then ([],3)
 else (lettersD (playS (d.evs.take (intR w).1.toNat)).1.now d.now,0)
theorem intR_nonneg (w:List Nat):0 ≤ (intR w).1:=by
 rw [intR]
 split <;> simp
theorem letters_len (a b:List RowD):(lettersD a b).length ≤ a.length + b.length:=by
 have key:∀ (a b:List RowD),(diffS a b).length ≤ a.length + b.length:=by
  intro a b
  induction a,b using diffS.induct with
  | case1=>simp [diffS]
  | case2 y b ih=>rw [diffS]; simp at ih ⊢; omega
  | case3 x a ih=>rw [diffS]; simp at ih ⊢; omega
  | case4 x a y b h ih=>rw [diffS,if_pos h]; simp at ih ⊢; omega
  | case5 x a y b h h2 ih=>rw [diffS,if_neg h,if_pos h2]; simp at ih ⊢; omega
  | case6 x a y b h h2 ih=>rw [diffS,if_neg h,if_neg h2]; simp at ih ⊢; omega
 simpa [lettersD] using key a b
theorem letters_byte (a b:List RowD):∀ c ∈ lettersD a b,c < 256:=by
 intro c hc
 obtain ⟨e,he,rfl⟩:=List.mem_map.1 hc
 rcases diff_kind a b e he with h | h | h <;> rw [h] <;> decide
def bldH (L:List Nat):Nat → Heap
 | 0=>[.box false (.p (.st 161 [.nptr,.nsl]))]
 | j + 1=>[.box false (.st 161 [.ptr 7 [],.sl 10 j 1 0 (j + 1)]),.hole,.hole,.arr .bytes j 1 (u8s (L.take (j + 1)))]
theorem bldH0 (L:List Nat):bldH L 0 = [.box false (.p (.st 161 [.nptr,.nsl]))]:=rfl
theorem bldHs (L:List Nat) (j:Nat):bldH L (j + 1) = [.box false (.st 161 [.ptr 7 [],.sl 10 j 1 0 (j + 1)]),.hole,.hole,.arr .bytes j 1 (u8s (L.take (j + 1)))]:=rfl
theorem bldHp (L:List Nat) {i:Nat} (h:0 < i):bldH L i = [.box false (.st 161 [.ptr 7 [],.sl 10 (i - 1) 1 0 i]),.hole,.hole,.arr .bytes (i - 1) 1 (u8s (L.take i))]:=by
 cases i with
 | zero=>omega
 | succ j=>rfl
theorem g_diff1 (l : List EventD) (ve vs : Nat) (J : List PV) (w : List Nat) (hl : l.length ≤ 1000) (he : ∀ e ∈ l, evB e) (h0 : (playS l).2.2 = 0) (hB : StoryB (playS l).1 J) (h0l : l ≠ [])
    (hw:w.length ≤ 1000) (hb:∀ c ∈ w,c < 256) :
    GoodI Tryz.prog 217 (ssH (playS l).1 ve vs J) [.ptr 0 [],.p (.seq [.str w])] (ssH (playS l).1 ve vs J)
     (.p (.tup [.str (diffV (playS l).1 w).1,.int .i64 (diffV (playS l).1 w).2])):=by
 have hI:=c_integer w false (by omega) hb
 have eI:intP false w = intR w:=rfl
 rw [eI] at hI
 have hpl:playS l = playL l 0 ⟨[],[]⟩:=by rw [playS,if_neg (by omega)]
 have hEv:(playS l).1.evs = l:=by
  rw [hpl] at h0 ⊢
  rw [play_ok _ _ _ h0,play_evs]; simp
 have hR:=g_rowsS (playS l).1 ve vs J (by have:=hB.sj; have:=hB.ev; omega)
 have hnB:=now_B hB
 have hnn:=intR_nonneg w
 have hV : diffV (playS l).1 w = if (intR w).2 = false then ([], 25) else if (l.length : Int) < (intR w).1 then ([], 3)
     else (lettersD (playS (l.take (intR w).1.toNat)).1.now (playS l).1.now,0):=by rw [diffV,hEv]
 rw [hV]
 have hS:ssH (playS l).1 ve vs J = [.box false (.st 239 [.st 237 [.sl 1 ve 5 0 l.length,.sl 2 vs 1 0 (playS l).1.sts.length]]),.arr .grow ve 5 (l.map (AV.p ∘ eEvent)),.arr .grow vs 1 ((playS l).1.sts.map (AV.p ∘ eRows) ++ J.map AV.p)]:=by
  simp [ssH,storyV,hEv]
 rw [hS] at hR ⊢
 refine goodI_fn nf isF217 mix (by simp [Tryz.f217]) ?_
 have hlt:=intR_lt w
 generalize intR w = I at *
 obtain ⟨n,is⟩:=I
 dsimp only at hnn hV hlt hI ⊢
 obtain ⟨k,rfl⟩:∃ k:Nat,n = k:=⟨n.toNat,by omega⟩
 by_cases his:is = true
 case neg =>
  have his:is = false:=by simpa using his
  subst his
  simp [Tryz.f217]
  refine c2 hI ?_
  simp
  refine e2 (c_when true 25) ?_
  simp
  refine e3 (c_within k 0 l.length) ?_
  simp
  refine ep (h1:=?g1) (c_first [whenE true 25,withinE k 0 l.length] (by simp)) (by simp; exact ⟨rfl,rfl⟩) (by simp; exact ⟨rfl,rfl⟩) ?_
  case g1=>simp
  have h25:firstE [whenE true 25,withinE k 0 l.length] = 25:=by simp [firstE,whenE]
  rw [h25]
  simp
  refine ⟨rfl,ForgetN.og (by simp) (by simp) (by simp) (by simp) (by simp)⟩
 subst his
 by_cases hkl:l.length < k
 · have h3:firstE [whenE false 25,withinE k 0 l.length] = 3:=by
    rw [withinE]
    simp [firstE,whenE,hkl]
   simp [Tryz.f217,hkl]
   refine c2 hI ?_
   simp
   refine e2 (c_when false 25) ?_
   simp
   refine e3 (c_within k 0 l.length) ?_
   simp
   refine ep (h1:=?g1) (c_first [whenE false 25,withinE k 0 l.length] (by simp)) (by simp; exact ⟨rfl,rfl⟩) (by simp; exact ⟨rfl,rfl⟩) ?_
   case g1=>simp
   rw [h3]
   simp [hkl]
   refine ⟨rfl,ForgetN.og (by simp) (by simp) (by simp) (by simp) (by simp)⟩
 have h3:firstE [whenE false 25,withinE k 0 l.length] = 0:=by
  rw [withinE]
  have:¬ (l.length:Int) < k:=by omega
  simp [firstE,whenE,this]
 have h0k:(playS (l.take k)).2.2 = 0:=by
  have hp2:playS (l.take k) = playL (l.take k) 0 ⟨[],[]⟩:=by rw [playS,if_neg (by simp; omega)]
  rw [hpl] at h0
  rw [hp2,play_take h0]
 obtain ⟨ve',vs',J',hB',hRp⟩:=g_replayH l ve k hl (by omega) he h0k
 have hR2:=g_rows (playS (l.take k)).1 ve' vs' J' (by have:=hB'.sj; have:=hB'.ev; omega)
 have hnB':=now_B hB'
 have hSc:=c_script (playS (l.take k)).1.now (playS l).1.now ⟨by omega,hnB'.2⟩ ⟨by omega,hnB.2⟩ (by omega) (by omega)
 have hdk:=diff_kind (playS (l.take k)).1.now (playS l).1.now
 have hLn:=letters_len (playS (l.take k)).1.now (playS l).1.now
 have hLb:=letters_byte (playS (l.take k)).1.now (playS l).1.now
 have hLe:lettersD (playS (l.take k)).1.now (playS l).1.now = (diffS (playS (l.take k)).1.now (playS l).1.now).map fun e=>e.kind.headD 0:=rfl
 simp only [Int.toNat_natCast]
 generalize (playS (l.take k)).1 = d' at *
 generalize (playS l).1 = d at *
 generalize lettersD d'.now d.now = L at *
 generalize diffS d'.now d.now = D at *
 simp only [st1,storyV] at hRp
 simp only [stH,storyV] at hR2
 have hkl':¬ (l.length:Int) < k:=by omega
 have hkl2:¬ l.length < k:=by omega
 have hDl:D.length = L.length:=by rw [hLe]; simp
 have hne:l ≠ []:=h0l
 rw [if_neg hkl']
 simp [Tryz.f217,hkl',hkl2]
 refine c2 hI ?_
 simp
 refine e2 (c_when false 25) ?_
 simp
 refine e3 (c_within k 0 l.length) ?_
 simp
 refine ep (h1:=?g1) (c_first [whenE false 25,withinE k 0 l.length] (by simp)) (by simp; exact ⟨rfl,rfl⟩) (by simp; exact ⟨rfl,rfl⟩) ?_
 case g1=>simp
 rw [h3]
 simp
 refine ⟨rfl,⟨hne,by omega⟩,?_⟩
 refine cf hRp [1] ?_
 simp [setAll,sig]
 refine ef hR2 [4,5,6] ?_
 simp [setAll,sig]
 refine ef hR [0,1,2] ?_
 simp [setAll,sig]
 refine e4 hSc ?_
 simp
 refine lp (α:=Nat) (fun i=>⟨[(61,.p (.int .i64 i)),(60,.p (.int .i64 D.length)),(59,.p (.seq (D.map eEdit))),(12,.ptr 7 [])],[.box false (.st 239 [.st 237 [.sl 1 ve 5 0 l.length,.sl 2 vs 1 0 d.sts.length]]),.arr .grow ve 5 (l.map (AV.p ∘ eEvent)),.arr .grow vs 1 (d.sts.map (AV.p ∘ eRows) ++ J.map AV.p),.hole,.hole,.hole,.hole] ++ bldH L i⟩)
  (fun i=>i ≤ D.length) (fun i=>D.length - i) 0 (by simp) ?_ (hh:=by simp [bldH0]) (hr:=by simp [bldH0]) (hr2:=by simp [bldH0])
 intro i k1
 have hw:=wi1 (i:=i) (by omega)
 by_cases hi:i < D.length
 · obtain ⟨c,r,hcr⟩:∃ c r,D[i].kind = c :: r:=by
    have h:=kind_head (hdk D[i] (List.getElem_mem hi))
    cases hq:D[i].kind with
    | nil=>rw [hq] at h; simp at h
    | cons c r=>exact ⟨c,r,rfl⟩
   have hLi:L[i]? = some c:=by rw [hLe,List.getElem?_map,List.getElem?_eq_getElem hi]; simp [hcr]
   have hiL:i < L.length:=by omega
   have hc:c < 256:=hLb c (List.mem_of_getElem? hLi)
   have ht:L.take (i + 1) = L.take i ++ [c]:=by rw [List.take_add_one,hLi]; rfl
   generalize hDi:D[i] = x at *
   obtain ⟨kind,row⟩:=x
   dsimp only at hcr
   subst hcr
   by_cases hi0:i = 0
   · subst hi0
     have hw1:IntKind.i64.wrap 1 = 1:=by decide
     simp [bldH0,hi,hDi,eEdit]
     refine cf (g_wb1 c hc) [7] ?_
     simp [setAll,sig]
     refine rd 1 (by omega) (he:=by simp [hw1]) (hh:=by simp [bldHs,ht]) (hr:=by simp [bldHs]) (hr2:=by simp [bldHs])
   · have hb2:=bldHp L (i:=i) (by omega)
     have hb3:=bldHs L i
     generalize bldH L = B at *
     simp [hb2,hi,hDi,eEdit]
     refine cf (g_wb2 (L.take i) (i - 1) i c (by simp; omega) hc (by simp; omega)) [7,10] ?_ (hin:=by simp [sig]) (hset:=by simp [sig]) (hr:=by simp)
     have hi1:i - 1 + 1 = i:=by omega
     simp [setAll,sig,hi1]
     refine rd (i + 1) (by omega) (he:=by simp [hw]) (hh:=by simp [hb3,ht,u8s_app]) (hr:=by simp [hb3]) (hr2:=by simp [hb3])
 · have:i = D.length:=by omega
   subst this
   rcases hDn:D.length with _ | j
   · have hL0:L = []:=List.length_eq_zero_iff.1 (by omega)
     simp [bldH0]
     refine cf g_str0 [7] ?_
     simp [setAll,sig,hL0]
     refine ForgetN.og (by simp) (by simp) (by simp) (by simp) (by simp)
   · have hL0:L ≠ []:=by intro h; rw [h] at hDl; simp at hDl; rw [hDl] at hDn; simp at hDn
     have htl:L.take (j + 1) = L:=List.take_of_length_le (by omega)
     simp [bldHs,htl]
     refine cf (g_str L j (j + 1) (by omega) hL0 (by omega) hLb) [7,10] ?_ (hin:=by simp [sig]) (hset:=by simp [sig]) (hr:=by simp)
     simp [setAll,sig]
     refine ForgetN.og (by simp) (by simp) (by simp) (by simp) (by simp)
end Go.Abs
namespace Go.Abs
open Go.Proofs
set_option maxHeartbeats 4000000
set_option maxRecDepth 100000
theorem g_replay0:GoodI Tryz.prog 138 [] [.p .nsl] (stH ⟨[],[]⟩ 0 0 []) (.tup [.ptr 0 [],.p (.int .i64 0),.p (.int .i64 0)]):=by
 refine goodI_fn nf isF138 mix (by simp [Tryz.f138]) ?_
 simp [Tryz.f138]
 refine lp (α:=Nat) (fun i=>⟨[(16,.p (.int .i64 0)),(15,.p (.int .i64 0)),(14,.p .nsl),(5,.ptr 0 [])],stH ⟨[],[]⟩ 0 0 []⟩) (fun i=>True) (fun i=>0) 0 (by simp) ?_ (hh:=by simp [stH,storyV]) (hr:=by simp [stH]) (hr2:=by simp [stH,storyV])
 intro i _
 simp [stH,storyV]
section
variable {w:World} {Imm:Nat → Prop} {β:Bd}
def s0V (vs:Nat):AV:=.st 239 [.st 237 [.p .nsl,.sl 2 vs 1 0 0]]
def s1V (ve vs:Nat):AV:=.st 239 [.st 237 [.sl 1 ve 5 0 0,.sl 2 vs 1 0 0]]
def s0H (ve vs:Nat):Heap:=[.arr .grow ve 5 [],.arr .grow vs 1 []]
theorem s_fwd (ve vs:Nat) (cs:List Value) (h:AVC Tryz.prog w Imm β (.box false (s1V ve vs) :: s0H ve vs) (s1V ve vs) cs):AVC Tryz.prog w Imm β (.box false (s1V ve vs) :: s0H ve vs) (s0V vs) cs:=by
 rw [s1V] at h
 rw [s0V]
 simp only [AVC,szS,szT,Option.some.injEq,PVC] at h ⊢
 obtain ⟨l,css,rfl,h1,rfl⟩:=h
 simp only [AVCl] at h1
 obtain ⟨c,d,rfl,h2,h3,rfl⟩:=h1
 simp only [AVC,szT,Option.some.injEq] at h2
 obtain ⟨l2,css2,rfl,h4,rfl⟩:=h2
 simp only [AVCl,AVC] at h4
 obtain ⟨c1,d1,rfl,⟨v1,rfl,h5⟩,h6,c2,d2,rfl,h7,h8,rfl⟩:=h4
 have hv:=(h5.2 .grow [] rfl).2.1 ⟨rfl,rfl⟩
 refine ⟨[2],[[[v1],c2].flatten],rfl,?_,rfl⟩
 simp only [AVCl]
 refine ⟨_,[],rfl,?_,by simpa using h3,rfl⟩
 simp only [AVC,szT,Option.some.injEq]
 refine ⟨[1,1],[[v1],c2],rfl,?_,rfl⟩
 simp only [AVCl,AVC,PVC]
 exact ⟨_,_,rfl,by rw [hv],rfl,_,_,rfl,h7,h8,rfl⟩
theorem s_back (ve vs:Nat) (cs:List Value) (h:AVC Tryz.prog w Imm β (.box false (s0V vs) :: s0H ve vs) (s0V vs) cs):AVC Tryz.prog w Imm β (.box false (s0V vs) :: s0H ve vs) (s1V ve vs) cs:=by
 rw [s1V]
 have h':=h
 rw [s0V] at h'
 simp only [AVC,szS,szT,Option.some.injEq,PVC] at h' ⊢
 obtain ⟨l,css,rfl,h1,rfl⟩:=h'
 simp only [AVCl] at h1
 obtain ⟨c,d,rfl,h2,h3,rfl⟩:=h1
 simp only [AVC,szT,Option.some.injEq] at h2
 obtain ⟨l2,css2,rfl,h4,rfl⟩:=h2
 simp only [AVCl,AVC,PVC] at h4
 obtain ⟨c1,d1,rfl,rfl,h6,c2,d2,rfl,h7,h8,rfl⟩:=h4
 refine ⟨[2],[[[.slice none 0 0],c2].flatten],rfl,?_,rfl⟩
 simp only [AVCl]
 refine ⟨_,[],rfl,?_,by simpa using h3,rfl⟩
 simp only [AVC,szT,Option.some.injEq]
 refine ⟨[1,1],[[.slice none 0 0],c2],rfl,?_,rfl⟩
 simp only [AVCl,AVC]
 refine ⟨_,_,rfl,⟨_,rfl,rfl,?_⟩,rfl,_,_,rfl,h7,h8,rfl⟩
 intro k es hL
 simp [LiveArr,s0H] at hL
 obtain ⟨rfl,rfl⟩:=hL
 exact ⟨by simp,fun _=>rfl,fun hn=>(hn ⟨rfl,rfl⟩).elim⟩
end
theorem s_swap {f:FuncId} {args:List AV} {v:AV} (ve vs:Nat) (h:GoodI Tryz.prog f (.box false (s0V vs) :: s0H ve vs) args (.box false (s0V vs) :: s0H ve vs) v):GoodI Tryz.prog f (.box false (s1V ve vs) :: s0H ve vs) args (.box false (s1V ve vs) :: s0H ve vs) v:=by
 refine h.swap (fun T=>rfl) (fun T=>rfl) (fun w Imm β cs h=>s_fwd ve vs cs h) (fun w Imm β cs h=>s_back ve vs cs h) ?_ ?_
 · simp [s1V,s0H,refsLt,InH,Obj.has]
 · simp [s0V,s0H,refsLt,InH,Obj.has]
theorem s_swap' {f:FuncId} {args:List AV} {v:AV} (ve vs:Nat) (h:GoodI Tryz.prog f (.box false (s1V ve vs) :: s0H ve vs) args (.box false (s1V ve vs) :: s0H ve vs) v):GoodI Tryz.prog f (.box false (s0V vs) :: s0H ve vs) args (.box false (s0V vs) :: s0H ve vs) v:=by
 refine h.swap (fun T=>rfl) (fun T=>rfl) (fun w Imm β cs h=>s_back ve vs cs h) (fun w Imm β cs h=>s_fwd ve vs cs h) ?_ ?_
 · simp [s0V,s0H,refsLt,InH,Obj.has]
 · simp [s1V,s0H,refsLt,InH,Obj.has]
theorem ssH_nil (ve vs:Nat):ssH ⟨[],[]⟩ ve vs [] = .box false (s1V ve vs) :: s0H ve vs:=rfl
theorem g_diff0 (ve vs : Nat) (w : List Nat) (hw : w.length ≤ 1000) (hb : ∀ c ∈ w, c < 256) :
    GoodI Tryz.prog 217 (.box false (s0V vs) :: s0H ve vs) [.ptr 0 [],.p (.seq [.str w])] (.box false (s0V vs) :: s0H ve vs)
     (.p (.tup [.str (diffV ⟨[],[]⟩ w).1,.int .i64 (diffV ⟨[],[]⟩ w).2])):=by
 have hI:=c_integer w false (by omega) hb
 have eI:intP false w = intR w:=rfl
 rw [eI] at hI
 have hR:GoodI Tryz.prog 140 (.box false (s0V vs) :: s0H ve vs) [.ptr 0 [(239,0)]] (.box false (s0V vs) :: s0H ve vs) (.p (.seq [])):=s_swap' ve vs (g_rowsS ⟨[],[]⟩ ve vs [] (by simp))
 have hnn:=intR_nonneg w
 have hL:lettersD [] [] = []:=by rw [letters_nil]; rfl
 have hpl:playS [] = (⟨[],[]⟩,0,0):=by rw [playS,if_neg (by simp)]; rfl
 have hV:diffV ⟨[],[]⟩ w = if (intR w).2 = false then ([],25) else if (0:Int) < (intR w).1 then ([],3) else ([],0):=by
  rw [diffV]
  simp only [List.take_nil,hpl]
  rw [show StoryD.now ⟨[],[]⟩ = [] from rfl,hL]; rfl
 rw [hV]
 generalize intR w = I at *
 obtain ⟨n,is⟩:=I
 dsimp only at hnn hV hI ⊢
 have hR2:=g_rows ⟨[],[]⟩ 0 0 [] (by simp)
 have hSc:=c_script [] [] ⟨by simp,by simp⟩ ⟨by simp,by simp⟩ (by simp) (by simp)
 have hD:diffS [] [] = []:=by simp [diffS]
 have hn0:StoryD.now ⟨[],[]⟩ = []:=rfl
 rw [hn0] at hR2
 rw [hD] at hSc
 have hRp:=g_replay0
 simp only [stH,storyV] at hR2 hRp
 simp only [s0V,s0H] at hR ⊢
 simp at hR2 hSc hRp
 refine goodI_fn nf isF217 mix (by simp [Tryz.f217]) ?_
 by_cases his:is = true
 case neg =>
  have his:is = false:=by simpa using his
  subst his
  simp [Tryz.f217]
  refine c2 hI ?_
  simp
  refine e2 (c_when true 25) ?_
  simp
  refine e3 (c_within n 0 0) ?_
  simp
  refine ep (h1:=?g1) (c_first [whenE true 25,withinE n 0 0] (by simp)) (by simp; exact ⟨rfl,rfl⟩) (by simp; exact ⟨rfl,rfl⟩) ?_
  case g1=>simp
  have h25:firstE [whenE true 25,withinE n 0 0] = 25:=by simp [firstE,whenE]
  rw [h25]
  simp
  refine ⟨rfl,ForgetN.og (by simp) (by simp) (by simp) (by simp) (by simp)⟩
 subst his
 by_cases hkl:0 < n
 · have h3:firstE [whenE false 25,withinE n 0 0] = 3:=by
    rw [withinE]
    simp [firstE,whenE,hkl]
   simp [Tryz.f217,hkl]
   refine c2 hI ?_
   simp
   refine e2 (c_when false 25) ?_
   simp
   refine e3 (c_within n 0 0) ?_
   simp
   refine ep (h1:=?g1) (c_first [whenE false 25,withinE n 0 0] (by simp)) (by simp; exact ⟨rfl,rfl⟩) (by simp; exact ⟨rfl,rfl⟩) ?_
   case g1=>simp
   rw [h3]
   simp [hkl]
   refine ⟨rfl,ForgetN.og (by simp) (by simp) (by simp) (by simp) (by simp)⟩
 obtain rfl:n = 0:=by omega
 have h3:firstE [whenE false 25,withinE 0 0 0] = 0:=by rw [withinE]; simp [firstE,whenE]
 simp [Tryz.f217]
 refine c2 hI ?_
 simp
 refine e2 (c_when false 25) ?_
 simp
 refine e3 (c_within 0 0 0) ?_
 simp
 refine ep (h1:=?g1) (c_first [whenE false 25,withinE 0 0 0] (by simp)) (by simp; exact ⟨rfl,rfl⟩) (by simp; exact ⟨rfl,rfl⟩) ?_
 case g1=>simp
 rw [h3]
 simp
 refine ⟨rfl,?_⟩
 refine cn1 hRp ?_
 simp
 refine ef hR2 [4,5,6] ?_
 simp [setAll,sig]
 refine ef hR [0,1,2] ?_
 simp [setAll,sig]
 refine e4 hSc ?_
 simp
 refine lp (α:=Nat) (fun i=>⟨[(61,.p (.int .i64 0)),(60,.p (.int .i64 0)),(59,.p (.seq [])),(12,.ptr 7 [])],[.box false (.st 239 [.st 237 [.p .nsl,.sl 2 vs 1 0 0]]),.arr .grow ve 5 [],.arr .grow vs 1 [],.hole,.hole,.hole,.hole] ++ bldH [] 0⟩)
  (fun i=>True) (fun i=>0) 0 (by simp) ?_ (hh:=by simp [bldH0]) (hr:=by simp [bldH0]) (hr2:=by simp [bldH0])
 intro i _
 simp [bldH0]
 refine cf g_str0 [7] ?_
 simp [setAll,sig]
 refine ForgetN.og (by simp) (by simp) (by simp) (by simp) (by simp)
theorem g_diff (l : List EventD) (ve vs : Nat) (J : List PV) (w : List Nat) (hl : l.length ≤ 1000) (he : ∀ e ∈ l, evB e) (h0 : (playS l).2.2 = 0) (hB : StoryB (playS l).1 J)
    (hw:w.length ≤ 1000) (hb:∀ c ∈ w,c < 256) :
    GoodI Tryz.prog 217 (ssH (playS l).1 ve vs J) [.ptr 0 [],.p (.seq [.str w])] (ssH (playS l).1 ve vs J)
     (.p (.tup [.str (diffV (playS l).1 w).1,.int .i64 (diffV (playS l).1 w).2])):=by
 by_cases h0l:l = []
 · subst h0l
   have hpl:playS [] = (⟨[],[]⟩,0,0):=by rw [playS,if_neg (by simp)]; rfl
   rw [hpl] at hB ⊢
   obtain rfl:J = []:=by
    have:=hB.sj; simpa using this
   dsimp only
   rw [ssH_nil]
   exact s_swap ve vs (g_diff0 ve vs w hw hb)
 · exact g_diff1 l ve vs J w hl he h0 hB h0l hw hb
end Go.Abs
namespace Go.Abs
open Go.Proofs
set_option maxHeartbeats 4000000
set_option maxRecDepth 100000
theorem c_indexStr (l:List (List Nat)) (k:List Nat) (h:l.length ≤ 1048576):GoodC Tryz.prog 218 [.seq (l.map .str),.str k] (.int .i64 (idxFrom (fun x=>decide (k = x)) l 0)):=by
 refine good_fn nf isF218 mix (by simp [Tryz.f218]) ?_
 simp [Tryz.f218]
 refine lp (α:=Nat) (fun i=>⟨[(8,.p (.int .i64 i)),(7,.p (.int .i64 l.length)),(1,.p (.str k)),(0,.p (.seq (l.map .str)))],[]⟩) (fun i=>i ≤ l.length ∧ idxFrom (fun x=>decide (k = x)) l 0 = idxFrom (fun x=>decide (k = x)) (l.drop i) i) (fun i=>l.length - i) 0 (by simp) ?_
 rintro i ⟨k1,k2⟩
 have hw:=wi1 (i:=i) (by omega)
 by_cases hi:i < l.length
 · rw [List.drop_eq_getElem_cons hi,idxFrom] at k2
   by_cases hk:k = l[i]
   · rw [if_pos (by simpa using hk)] at k2
     simp [hi,← hk,k2]
   · rw [if_neg (by simpa using hk)] at k2
     simp [hi,hk,hw]
     exact rd (i + 1) ⟨hi,k2⟩
 · have:i = l.length:=by omega
   subst this
   simp [idxFrom] at k2
   simp [k2]
theorem c_containsStr (l:List (List Nat)) (k:List Nat) (h:l.length ≤ 1048576):GoodC Tryz.prog 154 [.seq (l.map .str),.str k] (.bool (decide (k ∈ l))):=by
 refine good_fn nf isF154 mix (by simp [Tryz.f154]) ?_
 have hm:decide (0 ≤ idxFrom (fun x=>decide (k = x)) l 0) = decide (k ∈ l):=by
  rw [idxFrom_any,Bool.eq_iff_iff]
  simp
 simp [Tryz.f154]
 refine c2 (c_indexStr l k h) ?_
 simp [hm]
theorem c_evCopy (e:EventD) (he:evB e):GoodC Tryz.prog 156 [eEvent e] (eEvent e):=by
 have hcl1:=c_cloneS e.names (by have:=he.2.1; omega)
 have hcl2:=c_clone e.vals (by have:=he.2.2.2.1; omega)
 obtain ⟨num,kind,names,vals,text⟩:=e
 dsimp only at hcl1 hcl2
 refine good_fn nf isF156 mix (by simp [Tryz.f156]) ?_
 simp [Tryz.f156,eEvent]
 refine e1 hcl1 ?_
 simp
 refine e1 hcl2 ?_
 simp
 (repeat' (refine And.intro ?_ ?_)) <;> rfl
@[simp] theorem rl_takec {α:Type} {N:Nat × Nat → Prop} {f:α → PV} {l:List α} {i:Nat}:refsLtl N ((l.map (AV.p ∘ f)).take i) = True:=rl_take (f:=f)
theorem GoodI.pureW {P : Program} {f : FuncId} {H H' : Heap} {args : List AV} {v : AV} {p : PV} (K : Nat → Bool) (h : GoodI P f H args H' v) (hp : Pur (killH (fun i => !K i) H') 9 v p) (hl : ∀ (b : Nat) (L : LoopA), K b = true → H[b]? ≠ some (.loop L)) :
    GoodI P f H args (killH K H') (.p p):=by
 obtain ⟨v',h3,h4⟩:=pur_ok _ _ _ hp
 exact (h.pure K (n:=9) h3 hl).weak h4
theorem g_mapEE1 (l : List EventD) (v : Nat) (h : l.length ≤ 1048576) (he : ∀ e ∈ l, evB e) :
    GoodI Tryz.prog 155 [.arr .grow v 5 (l.map (AV.p ∘ eEvent))] [.sl 0 v 5 0 l.length,.p (.func 156 [] [])]
     [.arr .grow v 5 (l.map (AV.p ∘ eEvent)),.arr .grow l.length 5 (l.map (AV.p ∘ eEvent))] (.sl 1 l.length 5 0 l.length):=by
 refine goodI_fn nf isF155 mix (by simp [Tryz.f155]) ?_
 simp [Tryz.f155]
 refine lp (α:=Nat) (fun i=>⟨[(10,.p (.int .i64 i)),(9,.p (.int .i64 l.length)),(8,.sl 0 v 5 0 l.length),(5,.sl 1 i 5 0 i),(1,.p (.func 156 [] []))],[.arr .grow v 5 (l.map (AV.p ∘ eEvent)),.arr .grow i 5 ((l.map (AV.p ∘ eEvent)).take i)]⟩) (fun i=>i ≤ l.length) (fun i=>l.length - i) 0 (by simp) ?_
 rintro i k1
 by_cases hi:i < l.length
 · have hw:=wi1 (i:=i) (by omega)
   have ht:=take_next (AV.p ∘ eEvent) hi
   have hse:shp (eEvent l[i]) = .agg 60:=rfl
   have h0:l ≠ []:=by rintro rfl; simp at hi
   simp [hi,h0,hse]
   refine c1 (c_evCopy l[i] (he _ (List.getElem_mem hi))) ?_
   simp [hse]
   refine ⟨⟨by omega,by simp only [maxL]; omega⟩,?_⟩
   exact rd (i + 1) hi (he:=by simp [hw]) (hh:=by simp [ht]) (hr2:=by simp [ht])
 · have:i = l.length:=by omega
   subst this
   simp
theorem g_mapEE (l : List EventD) (v : Nat) (h : l.length ≤ 1048576) (he : ∀ e ∈ l, evB e) :
    GoodI Tryz.prog 155 [.arr .grow v 5 (l.map (AV.p ∘ eEvent))] [.sl 0 v 5 0 l.length,.p (.func 156 [] [])]
     [.arr .grow v 5 (l.map (AV.p ∘ eEvent)),.dead] (.p (.seq (l.map eEvent))):=by
 have h1:=(g_mapEE1 l v h he).pureW (p:=.seq (l.map eEvent)) (fun i=>i == 1) (by simp [killH]) (by intro b L hb; rcases b with _ | b <;> simp at hb ⊢)
 simpa [killH] using h1
theorem g_mapES1 (l : List EventD) (v : Nat) (h : l.length ≤ 1048576) (he : ∀ e ∈ l, EvT e) :
    GoodI Tryz.prog 160 [.arr .grow v 5 (l.map (AV.p ∘ eEvent))] [.sl 0 v 5 0 l.length,.p (.func 117 [] [])]
     [.arr .grow v 5 (l.map (AV.p ∘ eEvent)),.arr .grow l.length 1 (l.map (AV.p ∘ (PV.str ∘ recT)))] (.sl 1 l.length 1 0 l.length):=by
 refine goodI_fn nf isF160 mix (by simp [Tryz.f160]) ?_
 simp [Tryz.f160]
 refine lp (α:=Nat) (fun i=>⟨[(10,.p (.int .i64 i)),(9,.p (.int .i64 l.length)),(8,.sl 0 v 5 0 l.length),(5,.sl 1 i 1 0 i),(1,.p (.func 117 [] []))],[.arr .grow v 5 (l.map (AV.p ∘ eEvent)),.arr .grow i 1 ((l.map (AV.p ∘ (PV.str ∘ recT))).take i)]⟩) (fun i=>i ≤ l.length) (fun i=>l.length - i) 0 (by simp) ?_
 rintro i k1
 by_cases hi:i < l.length
 · have hw:=wi1 (i:=i) (by omega)
   have ht:=take_next (AV.p ∘ (PV.str ∘ recT)) hi
   have hse:shp (eEvent l[i]) = .agg 60:=rfl
   have h0:l ≠ []:=by rintro rfl; simp at hi
   simp [hi,h0,hse]
   refine c1 (c_record l[i] (he _ (List.getElem_mem hi))) ?_
   simp
   refine ⟨⟨by omega,by simp only [maxL]; omega⟩,?_⟩
   exact rd (i + 1) hi (he:=by simp [hw]) (hh:=by simp [ht]) (hr2:=by simp [ht])
 · have:i = l.length:=by omega
   subst this
   simp
theorem g_mapES (l : List EventD) (v : Nat) (h : l.length ≤ 1048576) (he : ∀ e ∈ l, EvT e) :
    GoodI Tryz.prog 160 [.arr .grow v 5 (l.map (AV.p ∘ eEvent))] [.sl 0 v 5 0 l.length,.p (.func 117 [] [])]
     [.arr .grow v 5 (l.map (AV.p ∘ eEvent)),.dead] (.p (.seq ((l.map recT).map .str))):=by
 have h1:=(g_mapES1 l v h he).pureW (p:=.seq ((l.map recT).map .str)) (fun i=>i == 1) (by simp [killH]) (by intro b L hb; rcases b with _ | b <;> simp at hb ⊢)
 simpa [killH] using h1
end Go.Abs
namespace Go.Abs
open Go.Proofs
set_option maxHeartbeats 4000000
set_option maxRecDepth 100000
theorem doD_play {l:List EventD} {e:EventD} (hl:l.length < 1000) (h0:(playS l).2.2 = 0) (ha:addE (playS l).1 e = 0):playS (l ++ [e]) = (acceptD (playS l).1 e,0,0):=by
 have hp:playS l = playL l 0 ⟨[],[]⟩:=by rw [playS,if_neg (by omega)]
 have hp2:playS (l ++ [e]) = playL (l ++ [e]) 0 ⟨[],[]⟩:=by rw [playS,if_neg (by simp; omega)]
 rw [hp] at h0 ha
 rw [hp2,play_app _ _ _ _ h0,playL,if_neg (by simpa using ha),playL,hp]
theorem g_enter (l : List EventD) (ve vs : Nat) (J : List PV) (s : List Nat) (hl : l.length < 1000) (he : ∀ e ∈ l, evB e) (h0 : (playS l).2.2 = 0) (hB : StoryB (playS l).1 J)
    (hs:s.length ≤ 1000) (hb:∀ c ∈ s,c < 256) :
    ∃ ve' vs' J',StoryB (if enterE (playS l).1 s = 0 then acceptD (playS l).1 (lineEv (playS l).1 s) else (playS l).1) J' ∧
     GoodI Tryz.prog 152 (ssH (playS l).1 ve vs J) [.ptr 0 [],.p (.str s)]
      (ssH (if enterE (playS l).1 s = 0 then acceptD (playS l).1 (lineEv (playS l).1 s) else (playS l).1) ve' vs' J')
      (.p (if enterE (playS l).1 s = 0 then .tup [.str (tDone ++ itoaN (l.length + 1)),.int .i64 0] else .tup [.str [],.int .i64 (enterE (playS l).1 s)])):=by
 have hEv:(playS l).1.evs = l:=by
  have hp:playS l = playL l 0 ⟨[],[]⟩:=by rw [playS,if_neg (by omega)]
  rw [hp] at h0 ⊢
  rw [play_ok _ _ _ h0,play_evs]; simp
 have hS:∀ d:StoryD,d.evs = l → ssH d ve vs J = [.box false (.st 239 [.st 237 [.sl 1 ve 5 0 l.length,.sl 2 vs 1 0 d.sts.length]]),.arr .grow ve 5 (l.map (AV.p ∘ eEvent)),.arr .grow vs 1 (d.sts.map (AV.p ∘ eRows) ++ J.map AV.p)]:=by
  intro d hd
  simp [ssH,storyV,hd]
 have hR:=c_readLine s (by omega) hb
 have hPB:=parsed_B (s:=s) (by omega) hb
 have hent:enterE (playS l).1 s = firstE [whenE (!(parsedS s).2) 25,whenE (decide (1000 ≤ (playS l).1.evs.length)) 5,addE (playS l).1 (lineEv (playS l).1 s)]:=rfl
 have hlv:lineEv (playS l).1 s = (parsedS s).1.at ((playS l).1.evs.length + 1):=rfl
 have hwl:IntKind.i64.wrap ((l.length:Int) + 1) = l.length + 1:=wi1 (by omega)
 have d1:decide (1000 ≤ (playS l).1.evs.length) = false:=by rw [hEv]; simpa using hl
 have d2:¬ (1000:Int) ≤ (l.length:Int):=by omega
 obtain ⟨ve',vs',J',g1,g2⟩:=g_add (playS l).1 ve vs J (lineEv (playS l).1 s) (by rw [hlv]; exact at_B hPB _) hB
 have hB':=next_B hB (by rw [hlv]; exact at_B hPB _) (by rw [hEv]; exact hl) g2
 have hTx:=h182 ((l.length:Int) + 1) (by omega) (by omega)
 generalize hQ:parsedS s = Q at *
 obtain ⟨⟨num,kind,names,vals,text⟩,is⟩:=Q
 simp only [EventD.at] at hlv
 rw [hEv] at hlv
 dsimp only at hR hent
 simp only [eEvent] at hR
 by_cases hp:is = true
 case neg =>
  have hp:is = false:=by simpa using hp
  subst hp
  have e25:enterE (playS l).1 s = 25:=by rw [hent]; simp [firstE,whenE]
  rw [e25,if_neg (by decide),if_neg (by decide)]
  refine ⟨ve,vs,J,hB,?_⟩
  generalize (playS l).1 = d at *
  rw [hS d hEv]
  refine goodI_fn nf isF152 mix (by simp [Tryz.f152]) ?_
  simp [Tryz.f152,d2]
  refine c1 hR ?_
  simp
  refine e2 (c_when true 25) ?_
  simp
  refine e2 (c_when false 5) ?_ (h1:=by simp; omega)
  simp
  refine ep (h1:=?g1) (c_first [whenE true 25,whenE false 5] (by simp)) (by simp; exact ⟨rfl,rfl⟩) (by simp; exact ⟨rfl,rfl⟩) ?_
  case g1=>simp
  have h25:firstE [whenE true 25,whenE false 5] = 25:=by simp [firstE,whenE]
  rw [h25]
  simp
  refine ⟨rfl,ForgetN.og (by simp) (by simp) (by simp) (by simp) (by simp)⟩
 subst hp
 have hE:enterE (playS l).1 s = addE (playS l).1 (lineEv (playS l).1 s):=by
  rw [hent,d1]
  generalize addE _ _ = x
  by_cases hx:x = 0 <;> simp [firstE,whenE,hx]
 rw [hE]
 rw [nextD] at g1 hB'
 rw [hlv] at g1 hB' hE ⊢
 have g1:=wrapS g1
 refine ⟨ve',vs',J',hB',?_⟩
 generalize addE _ _ = X at *
 have hD:(if X = 0 then acceptD (playS l).1 ⟨(l.length:Int) + 1,kind,names,vals,text⟩ else (playS l).1).evs.length = (if X = 0 then l.length + 1 else l.length):=by
  split
  · simp [acceptD,hEv]
  · rw [hEv]
 generalize (if X = 0 then acceptD (playS l).1 ⟨(l.length:Int) + 1,kind,names,vals,text⟩ else (playS l).1) = d' at *
 generalize (playS l).1 = d at *
 rw [hS d hEv] at g1 ⊢
 simp only [ssH,storyV] at g1 ⊢
 refine goodI_fn nf isF152 mix (by simp [Tryz.f152]) ?_
 simp [Tryz.f152,d2]
 refine c1 hR ?_
 simp
 refine e2 (c_when false 25) ?_
 simp
 refine e2 (c_when false 5) ?_ (h1:=by simp; omega)
 simp
 refine ep (h1:=?g1) (c_first [whenE false 25,whenE false 5] (by simp)) (by simp; exact ⟨rfl,rfl⟩) (by simp; exact ⟨rfl,rfl⟩) ?_
 case g1=>simp
 have h25:firstE [whenE false 25,whenE false 5] = 0:=by simp [firstE,whenE]
 rw [h25]
 simp
 refine ⟨rfl,?_⟩
 simp only [eEvent] at g1
 simp [hwl]
 refine ef g1 [0,1,2] ?_
 simp [setAll,sig]
 by_cases hX:X = 0
 · subst hX
   simp at hD
   have hIl:(itoaN ((l.length:Int) + 1)).length ≤ 9:=by
    have:=(itoa_B (n:=l.length + 1) (by omega)).1
    simpa using this
   have hJ:=c_joinW [[100,111,110,101],itoaN ((l.length:Int) + 1)] (by simp) (by simp [joinN]; omega)
   simp
   refine c1 hTx ?_ (h1:=by simp [hwl])
   simp
   refine cp (h1:=?g2) hJ (by simp; exact ⟨rfl,rfl⟩) ?_
   case g2=>simp
   simp [joinN,tDone]
   refine ForgetN.og (by simp) (by simp) (by simp) (by simp) (by simp)
 · simp [hX]
   refine ForgetN.og (by simp) (by simp) (by simp) (by simp) (by simp)
def questE:List (PV × PV):=[(.str kRow,.st 247 [.int .i64 1,.func 215 [] []]),(.str kRows,.st 247 [.int .i64 0,.func 216 [] []]),(.str kDiff,.st 247 [.int .i64 1,.func 217 [] []])]
theorem c_questions:GoodC Tryz.prog 153 [] (.fmap questE):=by
 refine good_fn nf isF153 mix (by simp [Tryz.f153]) ?_
 simp [Tryz.f153,questE,kRow,kRows,kDiff]
theorem quest_look (k:List Nat):lookupM questE (.str k) = some (if k = kRow then some (.st 247 [.int .i64 1,.func 215 [] []]) else if k = kRows then some (.st 247 [.int .i64 0,.func 216 [] []]) else if k = kDiff then some (.st 247 [.int .i64 1,.func 217 [] []]) else none):=by
 have e:∀ a b:List Nat,eqP (.str a) (.str b) = some (decide (a = b)):=fun a b=>by simp [eqP]; rw [Bool.eq_iff_iff]; simp
 by_cases h1:k = kRow
 · subst h1; rfl
 by_cases h2:k = kRows
 · subst h2; rfl
 by_cases h3:k = kDiff
 · subst h3; rfl
 simp only [questE,lookupM,e,h1,h2,h3,decide_false,Bool.false_eq_true,if_false]
end Go.Abs
namespace Go.Abs
open Go.Proofs
set_option maxHeartbeats 4000000
set_option maxRecDepth 100000
theorem c_doNil (s:List Nat):GoodC Tryz.prog 61 [.nptr,.str s] (.tup [.str [],.int .i64 19]):=by
 refine good_fn nf isF61 mix (by simp [Tryz.f61]) ?_
 simp [Tryz.f61]
theorem c_eventsNil:GoodC Tryz.prog 62 [.nptr] .nsl:=by
 refine good_fn nf isF62 mix (by simp [Tryz.f62]) ?_
 simp [Tryz.f62]
theorem c_logNil:GoodC Tryz.prog 63 [.nptr] (.str []):=by
 refine good_fn nf isF63 mix (by simp [Tryz.f63]) ?_
 simp [Tryz.f63]
theorem askD_cons (d : StoryD) (w0 : List Nat) (ws : List (List Nat)) : askD d (w0 :: ws) = if askN w0 = 0 then ([], 13) else if (w0 :: ws).length ≠ askN w0 ∨ (w0 :: ws).getLastD [] = [] then ([], 25)
    else if w0 = kRow then (if atK d.now ((w0 :: ws).getLastD []) < 0 then ([],10) else (noneT (valsT ((d.now[(atK d.now ((w0 :: ws).getLastD [])).toNat]?.map (·.vals)).getD [])),0))
    else if w0 = kRows then (noneT (joinN [32] (d.now.map (·.key))),0)
    else if (intR ((w0 :: ws).getLastD [])).2 = false then ([],25)
    else if (d.evs.length:Int) < (intR ((w0 :: ws).getLastD [])).1 then ([],3)
    else (noneT (lettersD (playS (d.evs.take (intR ((w0 :: ws).getLastD [])).1.toNat)).1.now d.now),0):=rfl
theorem g_Do (l : List EventD) (ve vs : Nat) (J : List PV) (s : List Nat) (hl : l.length < 1000) (he : ∀ e ∈ l, evB e) (h0 : (playS l).2.2 = 0) (hB : StoryB (playS l).1 J)
    (hs:s.length ≤ 1000) (hb:∀ c ∈ s,c < 256) :
    ∃ ve' vs' J',StoryB (doD (playS l).1 s) J' ∧
     GoodI Tryz.prog 61 (ssH (playS l).1 ve vs J) [.ptr 0 [],.p (.str s)] (ssH (doD (playS l).1 s) ve' vs' J')
      (.p (.tup [.str (doS (playS l).1 s).1,.int .i64 (doS (playS l).1 s).2])):=by
 have hsl:¬ (8192:Int) < s.length:=by omega
 have hSp:=c_split s 32 (by omega)
 by_cases hz:s = []
 · subst hz
   have h1:doS (playS l).1 [] = ([],25):=by rw [doS,if_pos rfl]
   have h2:doD (playS l).1 [] = (playS l).1:=by rw [doD,if_neg (by simp)]
   rw [h1,h2]
   refine ⟨ve,vs,J,hB,?_⟩
   simp only [ssH,storyV]
   refine goodI_fn nf isF61 mix (by simp [Tryz.f61]) ?_
   simp [Tryz.f61]
   refine c2 (c_when false 26) ?_
   simp
   refine c2 (c_when true 25) ?_
   simp
   refine cp (h1:=?g1) (c_first [whenE false 26,whenE true 25] (by simp)) (by simp; exact ⟨rfl,rfl⟩) ?_
   case g1=>simp
   have h25:firstE [whenE false 26,whenE true 25] = 25:=by simp [firstE,whenE]
   rw [h25]
   simp
   refine ForgetN.og (by simp) (by simp) (by simp) (by simp) (by simp)
 obtain ⟨w0,ws,hw⟩:∃ a r,spl 32 s = a :: r:=by
  have hpos:0 < (spl 32 s).length:=by rw [spl_cnt]; omega
  cases hq:spl 32 s with
  | nil=>rw [hq] at hpos; simp at hpos
  | cons a r=>exact ⟨a,r,rfl⟩
 have hwm:∀ p ∈ w0 :: ws,p.length ≤ s.length ∧ ∀ c ∈ p,c < 256:=by
  intro p hp
  rw [← hw] at hp
  exact ⟨(spl_mem hp).1,fun c hc=>hb c ((spl_mem hp).2 c hc)⟩
 have hwl:(w0 :: ws).length ≤ s.length + 1:=by
  have:=spl_len 32 s
  rw [hw] at this; exact this
 have hhd:(cutN 32 s).1 = w0:=by
  have h:=hw
  rw [spl_cut] at h
  injection h
 have hE:isEnter s = (formS w0).2.2.2:=by rw [isEnter,hhd]
 rw [hw] at hSp
 have hzb:(s == []) = false:=by simpa using hz
 have hf0:firstE [whenE false 26,whenE false 25] = 0:=by simp [firstE,whenE]
 have hlk:=kinds_look w0
 by_cases hen:(formS w0).2.2.2 = true
 · have hdo:doS (playS l).1 s = if enterE (playS l).1 s ≠ 0 then ([],enterE (playS l).1 s) else (tDone ++ itoaN ((playS l).1.evs.length + 1),0):=by rw [doS,if_neg hz,if_pos (by rw [hE]; exact hen)]
   have hdD:doD (playS l).1 s = if enterE (playS l).1 s = 0 then acceptD (playS l).1 (lineEv (playS l).1 s) else (playS l).1:=by
    rw [doD]
    by_cases q:enterE (playS l).1 s = 0
    · rw [if_pos ⟨hz,by rw [hE]; exact hen,q⟩,if_pos q]
    · rw [if_neg (by simp [q]),if_neg q]
   have hEv:(playS l).1.evs = l:=by
    have hp:playS l = playL l 0 ⟨[],[]⟩:=by rw [playS,if_neg (by omega)]
    rw [hp] at h0 ⊢
    rw [play_ok _ _ _ h0,play_evs]; simp
   obtain ⟨ve',vs',J',hB',g1⟩:=g_enter l ve vs J s hl he h0 hB hs hb
   rw [hdD]
   refine ⟨ve',vs',J',hB',?_⟩
   rw [hdo,hEv]
   rw [if_pos hen] at hlk
   generalize (if enterE (playS l).1 s = 0 then acceptD (playS l).1 (lineEv (playS l).1 s) else (playS l).1) = d' at *
   generalize enterE (playS l).1 s = X at *
   generalize (playS l).1 = d at *
   generalize kindF w0 = kf at *
   generalize formS w0 = fs at *
   simp only [ssH,storyV,kindV] at g1 hlk ⊢
   refine goodI_fn nf isF61 mix (by simp [Tryz.f61]) ?_
   simp [Tryz.f61,hsl,hz]
   refine c2 (c_when false 26) ?_
   simp
   refine c2 (c_when false 25) ?_ (h1:=by simp [hz])
   simp
   refine cp (h1:=?g1) (c_first [whenE false 26,whenE false 25] (by simp)) (by simp; exact ⟨rfl,rfl⟩) ?_
   case g1=>simp
   rw [hf0]
   simp
   refine c2 hSp ?_
   simp
   refine e0 c_kinds ?_
   simp [hlk]
   refine ⟨rfl,?_⟩
   refine cf g1 [0,1,2] ?_
   by_cases hX:X = 0
   · subst hX
     simp [setAll,sig]
     refine ForgetN.og (by simp) (by simp) (by simp) (by simp) (by simp)
   · simp [setAll,sig,hX]
     refine ForgetN.og (by simp) (by simp) (by simp) (by simp) (by simp)
 have h1:doS (playS l).1 s = askD (playS l).1 (w0 :: ws):=by rw [doS,if_neg hz,if_neg (by rw [hE]; exact hen),hw]
 have h2:doD (playS l).1 s = (playS l).1:=by rw [doD,if_neg (by rw [hE]; simp [hen])]
 rw [h1,h2]
 refine ⟨ve,vs,J,hB,?_⟩
 rw [if_neg hen] at hlk
 have hql:=quest_look w0
 have hq:True:=trivial
 by_cases r0:askN w0 = 0
 · have hn1:w0 ≠ kRow:=by rintro rfl; simp [askN] at r0
   have hn2:w0 ≠ kRows:=by rintro rfl; simp [askN] at r0; revert r0; decide
   have hn3:w0 ≠ kDiff:=by rintro rfl; revert r0; decide
   rw [if_neg hn1,if_neg hn2,if_neg hn3] at hql
   have hA:askD (playS l).1 (w0 :: ws) = ([],13):=by rw [askD]; exact if_pos r0
   rw [hA]
   simp only [ssH,storyV] at hq ⊢
   refine goodI_fn nf isF61 mix (by simp [Tryz.f61]) ?_
   simp [Tryz.f61,hsl,hz]
   refine c2 (c_when false 26) ?_
   simp
   refine c2 (c_when false 25) ?_ (h1:=by simp [hz])
   simp
   refine cp (h1:=?g1) (c_first [whenE false 26,whenE false 25] (by simp)) (by simp; exact ⟨rfl,rfl⟩) ?_
   case g1=>simp
   rw [hf0]
   simp
   refine c2 hSp ?_
   simp
   refine e0 c_kinds ?_
   simp [hlk]
   refine ⟨rfl,?_⟩
   refine e0 c_questions ?_
   simp [hql]
   refine ⟨rfl,?_⟩
   refine ForgetN.og (by simp) (by simp) (by simp) (by simp) (by simp)
 have hwr:IntKind.i64.wrap 2 = 2:=by decide
 have hwz:IntKind.i64.wrap 1 = 1:=by decide
 have hsts:(playS l).1.sts.length ≤ 1000:=by have:=hB.sj; have:=hB.ev; omega
 have hnB:=now_B hB
 by_cases rrow:w0 = kRow
 · subst rrow
   have hql:lookupM questE (.str kRow) = some (some (.st 247 [.int .i64 1,.func 215 [] []])):=by rw [hql]; rfl
   rcases ws with _ | ⟨w1,_ | ⟨w2,r⟩⟩
   · have hA:askD (playS l).1 [kRow] = ([],25):=by rw [askD_cons,if_neg r0,if_pos (.inl (by decide))]
     rw [hA]
     simp only [ssH,storyV] at hq ⊢
     refine goodI_fn nf isF61 mix (by simp [Tryz.f61]) ?_
     simp [Tryz.f61,hsl,hz]
     refine c2 (c_when false 26) ?_
     simp
     refine c2 (c_when false 25) ?_ (h1:=by simp [hz])
     simp
     refine cp (h1:=?g1) (c_first [whenE false 26,whenE false 25] (by simp)) (by simp; exact ⟨rfl,rfl⟩) ?_
     case g1=>simp
     rw [hf0]
     simp
     refine c2 hSp ?_
     simp
     refine e0 c_kinds ?_
     simp [hlk]
     refine ⟨rfl,?_⟩
     refine e0 c_questions ?_
     simp [hql,hwr]
     refine ⟨rfl,?_⟩
     refine ForgetN.og (by simp) (by simp) (by simp) (by simp) (by simp)
   · have hw1:=hwm w1 (by simp)
     have hcs:=c_containsStr [w1] [] (by simp)
     by_cases hw0:w1 = []
     · subst hw0
       have hA:askD (playS l).1 [kRow,[]] = ([],25):=by rw [askD_cons,if_neg r0,if_pos (.inr rfl)]
       rw [hA]
       simp only [ssH,storyV] at hq ⊢
       refine goodI_fn nf isF61 mix (by simp [Tryz.f61]) ?_
       simp [Tryz.f61,hsl,hz]
       refine c2 (c_when false 26) ?_
       simp
       refine c2 (c_when false 25) ?_ (h1:=by simp [hz])
       simp
       refine cp (h1:=?g1) (c_first [whenE false 26,whenE false 25] (by simp)) (by simp; exact ⟨rfl,rfl⟩) ?_
       case g1=>simp
       rw [hf0]
       simp
       refine c2 hSp ?_
       simp
       refine e0 c_kinds ?_
       simp [hlk]
       refine ⟨rfl,?_⟩
       refine e0 c_questions ?_
       simp [hql,hwr]
       refine ⟨rfl,?_⟩
       simp at hcs
       refine c2 hcs ?_
       simp
       refine ForgetN.og (by simp) (by simp) (by simp) (by simp) (by simp)
     have hg:=g_row (playS l).1 ve vs J w1 hsts hnB (now_K (playS_K l))
     have hA:askD (playS l).1 [kRow,w1] = if atK (playS l).1.now w1 < 0 then ([],10) else (noneT (valsT (((playS l).1.now[(atK (playS l).1.now w1).toNat]?.map (·.vals)).getD [])),0):=by
      rw [askD_cons,if_neg r0,if_neg (by simp [hw0]; decide),if_pos rfl]; rfl
     rw [hA]
     generalize (playS l).1 = d at *
     generalize valsT ((d.now[(atK d.now w1).toNat]?.map (·.vals)).getD []) = V at *
     have hw0':¬ [] = w1:=fun h=>hw0 h.symm
     simp only [ssH,storyV] at hg ⊢
     refine goodI_fn nf isF61 mix (by simp [Tryz.f61]) ?_
     simp [Tryz.f61,hsl,hz]
     refine c2 (c_when false 26) ?_
     simp
     refine c2 (c_when false 25) ?_ (h1:=by simp [hz])
     simp
     refine cp (h1:=?g1) (c_first [whenE false 26,whenE false 25] (by simp)) (by simp; exact ⟨rfl,rfl⟩) ?_
     case g1=>simp
     rw [hf0]
     simp
     refine c2 hSp ?_
     simp
     refine e0 c_kinds ?_
     simp [hlk]
     refine ⟨rfl,?_⟩
     refine e0 c_questions ?_
     simp [hql,hwr]
     refine ⟨rfl,?_⟩
     simp [hw0'] at hcs
     refine c2 hcs ?_
     simp
     refine ef hg [0,1,2] ?_
     by_cases hat:atK d.now w1 < 0
     · simp [setAll,sig,hat]
       refine ForgetN.og (by simp) (by simp) (by simp) (by simp) (by simp)
     · by_cases hV:V = []
       · simp [setAll,sig,hat,hV,noneT,tNone]
         refine ForgetN.og (by simp) (by simp) (by simp) (by simp) (by simp)
       · simp [setAll,sig,hat,hV,noneT]
         refine ForgetN.og (by simp) (by simp) (by simp) (by simp) (by simp)
   · have hA:askD (playS l).1 (kRow :: w1 :: w2 :: r) = ([],25):=by rw [askD_cons,if_neg r0,if_pos (.inl (by rw [show askN kRow = 2 from rfl]; simp))]
     have hn3:¬ (r.length:Int) + 1 + 1 + 1 = 2:=by omega
     rw [hA]
     simp only [ssH,storyV] at hq ⊢
     refine goodI_fn nf isF61 mix (by simp [Tryz.f61]) ?_
     simp [Tryz.f61,hsl,hz]
     refine c2 (c_when false 26) ?_
     simp
     refine c2 (c_when false 25) ?_ (h1:=by simp [hz])
     simp
     refine cp (h1:=?g1) (c_first [whenE false 26,whenE false 25] (by simp)) (by simp; exact ⟨rfl,rfl⟩) ?_
     case g1=>simp
     rw [hf0]
     simp
     refine c2 hSp ?_
     simp
     refine e0 c_kinds ?_
     simp [hlk]
     refine ⟨rfl,?_⟩
     refine e0 c_questions ?_
     simp [hql,hwr,hn3]
     refine ⟨rfl,?_⟩
     refine ForgetN.og (by simp) (by simp) (by simp) (by simp) (by simp)
 by_cases rdiff:w0 = kDiff
 · subst rdiff
   have hql:lookupM questE (.str kDiff) = some (some (.st 247 [.int .i64 1,.func 217 [] []])):=by rw [hql]; rfl
   rcases ws with _ | ⟨w1,_ | ⟨w2,r⟩⟩
   · have hA:askD (playS l).1 [kDiff] = ([],25):=by rw [askD_cons,if_neg r0,if_pos (.inl (by decide))]
     rw [hA]
     simp only [ssH,storyV] at hq ⊢
     refine goodI_fn nf isF61 mix (by simp [Tryz.f61]) ?_
     simp [Tryz.f61,hsl,hz]
     refine c2 (c_when false 26) ?_
     simp
     refine c2 (c_when false 25) ?_ (h1:=by simp [hz])
     simp
     refine cp (h1:=?g1) (c_first [whenE false 26,whenE false 25] (by simp)) (by simp; exact ⟨rfl,rfl⟩) ?_
     case g1=>simp
     rw [hf0]
     simp
     refine c2 hSp ?_
     simp
     refine e0 c_kinds ?_
     simp [hlk]
     refine ⟨rfl,?_⟩
     refine e0 c_questions ?_
     simp [hql,hwr]
     refine ⟨rfl,?_⟩
     refine ForgetN.og (by simp) (by simp) (by simp) (by simp) (by simp)
   · have hw1:=hwm w1 (by simp)
     have hcs:=c_containsStr [w1] [] (by simp)
     by_cases hw0:w1 = []
     · subst hw0
       have hA:askD (playS l).1 [kDiff,[]] = ([],25):=by rw [askD_cons,if_neg r0,if_pos (.inr rfl)]
       rw [hA]
       simp only [ssH,storyV] at hq ⊢
       refine goodI_fn nf isF61 mix (by simp [Tryz.f61]) ?_
       simp [Tryz.f61,hsl,hz]
       refine c2 (c_when false 26) ?_
       simp
       refine c2 (c_when false 25) ?_ (h1:=by simp [hz])
       simp
       refine cp (h1:=?g1) (c_first [whenE false 26,whenE false 25] (by simp)) (by simp; exact ⟨rfl,rfl⟩) ?_
       case g1=>simp
       rw [hf0]
       simp
       refine c2 hSp ?_
       simp
       refine e0 c_kinds ?_
       simp [hlk]
       refine ⟨rfl,?_⟩
       refine e0 c_questions ?_
       simp [hql,hwr]
       refine ⟨rfl,?_⟩
       simp at hcs
       refine c2 hcs ?_
       simp
       refine ForgetN.og (by simp) (by simp) (by simp) (by simp) (by simp)
     have hg:=g_diff l ve vs J w1 (by omega) he h0 hB (by omega) hw1.2
     have hA:askD (playS l).1 [kDiff,w1] = (if (diffV (playS l).1 w1).2 = 0 then noneT (diffV (playS l).1 w1).1 else [],(diffV (playS l).1 w1).2):=by
      rw [askD_cons,if_neg r0,if_neg (by simp [hw0]; decide),if_neg (by decide),if_neg (by decide),diffV]
      show (if (intR w1).2 = false then _ else if _ < (intR w1).1 then _ else _) = _
      by_cases h1:(intR w1).2 = false
      · simp only [h1,if_true]; rfl
      · simp only [h1,if_false]
        by_cases h2:((playS l).1.evs.length:Int) < (intR w1).1
        · simp only [h2,if_true]; rfl
        · simp only [h2,if_false,if_true]; rfl
     have hz0:(diffV (playS l).1 w1).2 ≠ 0 → (diffV (playS l).1 w1).1 = []:=by
      rw [diffV]; split
      · simp
      · split <;> simp
     rw [hA]
     generalize diffV (playS l).1 w1 = V at *
     obtain ⟨V,no⟩:=V
     dsimp only at *
     generalize (playS l).1 = d at *
     have hw0':¬ [] = w1:=fun h=>hw0 h.symm
     simp only [ssH,storyV] at hg ⊢
     refine goodI_fn nf isF61 mix (by simp [Tryz.f61]) ?_
     simp [Tryz.f61,hsl,hz]
     refine c2 (c_when false 26) ?_
     simp
     refine c2 (c_when false 25) ?_ (h1:=by simp [hz])
     simp
     refine cp (h1:=?g1) (c_first [whenE false 26,whenE false 25] (by simp)) (by simp; exact ⟨rfl,rfl⟩) ?_
     case g1=>simp
     rw [hf0]
     simp
     refine c2 hSp ?_
     simp
     refine e0 c_kinds ?_
     simp [hlk]
     refine ⟨rfl,?_⟩
     refine e0 c_questions ?_
     simp [hql,hwr]
     refine ⟨rfl,?_⟩
     simp [hw0'] at hcs
     refine c2 hcs ?_
     simp
     refine ef hg [0,1,2] ?_
     by_cases hat:no = 0
     · subst hat
       by_cases hV:V = []
       · simp [setAll,sig,hV,noneT,tNone]
         refine ForgetN.og (by simp) (by simp) (by simp) (by simp) (by simp)
       · simp [setAll,sig,hV,noneT]
         refine ForgetN.og (by simp) (by simp) (by simp) (by simp) (by simp)
     · simp [setAll,sig,hat]
       refine ForgetN.og (by simp) (by simp) (by simp) (by simp) (by simp)
   · have hA:askD (playS l).1 (kDiff :: w1 :: w2 :: r) = ([],25):=by rw [askD_cons,if_neg r0,if_pos (.inl (by rw [show askN kDiff = 2 from by decide]; simp))]
     have hn3:¬ (r.length:Int) + 1 + 1 + 1 = 2:=by omega
     rw [hA]
     simp only [ssH,storyV] at hq ⊢
     refine goodI_fn nf isF61 mix (by simp [Tryz.f61]) ?_
     simp [Tryz.f61,hsl,hz]
     refine c2 (c_when false 26) ?_
     simp
     refine c2 (c_when false 25) ?_ (h1:=by simp [hz])
     simp
     refine cp (h1:=?g1) (c_first [whenE false 26,whenE false 25] (by simp)) (by simp; exact ⟨rfl,rfl⟩) ?_
     case g1=>simp
     rw [hf0]
     simp
     refine c2 hSp ?_
     simp
     refine e0 c_kinds ?_
     simp [hlk]
     refine ⟨rfl,?_⟩
     refine e0 c_questions ?_
     simp [hql,hwr,hn3]
     refine ⟨rfl,?_⟩
     refine ForgetN.og (by simp) (by simp) (by simp) (by simp) (by simp)
 have rrows:w0 = kRows:=by
  by_cases h:w0 = kRows
  · exact h
  · exfalso; apply r0; rw [askN,if_neg rrow,if_neg h,if_neg rdiff]
 subst rrows
 have hql:lookupM questE (.str kRows) = some (some (.st 247 [.int .i64 0,.func 216 [] []])):=by rw [hql]; rfl
 rcases ws with _ | ⟨w1,r⟩
 · have hcs:=c_containsStr [] [] (by simp)
   have hg:=g_keys (playS l).1 ve vs J (.seq []) hsts hnB.1 (now_K (playS_K l))
   have hA:askD (playS l).1 [kRows] = (noneT (joinN [32] ((playS l).1.now.map (·.key))),0):=by
    rw [askD_cons,if_neg r0,if_neg (by decide),if_neg (by decide),if_pos rfl]
   rw [hA]
   generalize (playS l).1 = d at *
   generalize joinN [32] (d.now.map (·.key)) = V at *
   simp only [ssH,storyV] at hg ⊢
   refine goodI_fn nf isF61 mix (by simp [Tryz.f61]) ?_
   simp [Tryz.f61,hsl,hz]
   refine c2 (c_when false 26) ?_
   simp
   refine c2 (c_when false 25) ?_ (h1:=by simp [hz])
   simp
   refine cp (h1:=?g1) (c_first [whenE false 26,whenE false 25] (by simp)) (by simp; exact ⟨rfl,rfl⟩) ?_
   case g1=>simp
   rw [hf0]
   simp
   refine c2 hSp ?_
   simp
   refine e0 c_kinds ?_
   simp [hlk]
   refine ⟨rfl,?_⟩
   refine e0 c_questions ?_
   simp [hql,hwz]
   refine ⟨rfl,?_⟩
   simp at hcs
   refine c2 hcs ?_
   simp
   refine ef hg [0,1,2] ?_
   by_cases hV:V = []
   · simp [setAll,sig,hV,noneT,tNone]
     refine ForgetN.og (by simp) (by simp) (by simp) (by simp) (by simp)
   · simp [setAll,sig,hV,noneT]
     refine ForgetN.og (by simp) (by simp) (by simp) (by simp) (by simp)
 · have hA:askD (playS l).1 (kRows :: w1 :: r) = ([],25):=by rw [askD_cons,if_neg r0,if_pos (.inl (by simp [askN,kRows,kRow]))]
   have hn3:¬ (r.length:Int) + 1 + 1 = 1:=by omega
   rw [hA]
   simp only [ssH,storyV] at hq ⊢
   refine goodI_fn nf isF61 mix (by simp [Tryz.f61]) ?_
   simp [Tryz.f61,hsl,hz]
   refine c2 (c_when false 26) ?_
   simp
   refine c2 (c_when false 25) ?_ (h1:=by simp [hz])
   simp
   refine cp (h1:=?g1) (c_first [whenE false 26,whenE false 25] (by simp)) (by simp; exact ⟨rfl,rfl⟩) ?_
   case g1=>simp
   rw [hf0]
   simp
   refine c2 hSp ?_
   simp
   refine e0 c_kinds ?_
   simp [hlk]
   refine ⟨rfl,?_⟩
   refine e0 c_questions ?_
   simp [hql,hwz,hn3]
   refine ⟨rfl,?_⟩
   refine ForgetN.og (by simp) (by simp) (by simp) (by simp) (by simp)
end Go.Abs
namespace Go.Abs
open Go.Proofs
set_option maxHeartbeats 4000000
set_option maxRecDepth 100000
theorem joinN_nil:∀ l:List (List Nat),joinN [] l = l.flatten
 | []=>rfl
 | [x]=>by simp [joinN]
 | x :: y :: r=>by rw [joinN,joinN_nil (y :: r)]; simp; simp
theorem logT_flat (l:List EventD):(l.map recT).flatten = logT l:=by simp [logT,List.flatMap]
theorem logT_le {l:List EventD} (h:∀ e ∈ l,EvT e):(logT l).length ≤ l.length * 5008:=by
 induction l with
 | nil=>simp [logT]
 | cons e l ih =>
  have h1:=(h e (by simp)).bl
  have h2:=ih fun x hx=>h x (by simp [hx])
  have h3:(recT e).length = (bodyT e).length + 8:=by simp [recT,recN,sumT_len]; omega
  simp only [logT,List.flatMap_cons,List.length_append,List.length_cons] at h2 ⊢
  omega
theorem g_events (d : StoryD) (ve vs : Nat) (J : List PV) (hl : d.evs.length ≤ 1000) (he : ∀ e ∈ d.evs, evB e) :
    GoodI Tryz.prog 62 (ssH d ve vs J) [.ptr 0 []] (ssH d ve vs J) (.p (.seq (d.evs.map eEvent))):=by
 have hM:=g_mapEE d.evs ve (by omega) he
 simp only [ssH,storyV]
 refine goodI_fn nf isF62 mix (by simp [Tryz.f62]) ?_
 simp [Tryz.f62]
 refine cf hM [1] ?_
 simp [setAll,sig]
 refine ForgetN.og (by simp) (by simp) (by simp) (by simp) (by simp)
theorem g_log (d : StoryD) (ve vs : Nat) (J : List PV) (hl : d.evs.length ≤ 1000) (he : ∀ e ∈ d.evs, EvT e) :
    GoodI Tryz.prog 63 (ssH d ve vs J) [.ptr 0 []] (ssH d ve vs J) (.p (.str (logT d.evs))):=by
 have hM:=g_mapES d.evs ve (by omega) he
 have hlog:=logT_le he
 have hJ:=c_join (d.evs.map recT) [] (by simp; omega) (by rw [joinN_nil,logT_flat]; omega)
 rw [joinN_nil,logT_flat] at hJ
 simp only [ssH,storyV]
 refine goodI_fn nf isF63 mix (by simp [Tryz.f63]) ?_
 simp [Tryz.f63]
 refine cf hM [1] ?_
 simp [setAll,sig]
 simp at hJ
 refine c2 hJ ?_
 simp
 refine ForgetN.og (by simp) (by simp) (by simp) (by simp) (by simp)
def loadQ (s:List Nat) (v:AV) (H':Heap):Prop :=
 if (recoverS s).2.2 ≠ 0 ∧ (recoverS s).2.2 ≠ 28 then H' = [] ∧ v = .p (.tup [.nptr,.int .i64 (recoverS s).2.2])
 else if (playS (recoverS s).1).2.2 ≠ 0 then H' = [] ∧ v = .p (.tup [.nptr,.int .i64 (playS (recoverS s).1).2.2])
 else ∃ ve vs J,StoryB (playS (recoverS s).1).1 J ∧ v = .tup [.ptr 3 [],.p (.int .i64 0)] ∧
  H' = [.hole,.arr .grow ve 5 ((playS (recoverS s).1).1.evs.map (AV.p ∘ eEvent)),.arr .grow vs 1 ((playS (recoverS s).1).1.sts.map (AV.p ∘ eRows) ++ J.map AV.p),
   .box false (.st 239 [.st 237 [.sl 1 ve 5 0 (playS (recoverS s).1).1.evs.length,.sl 2 vs 1 0 (playS (recoverS s).1).1.sts.length]])]
theorem g_load (s:List Nat) (hs:s.length ≤ 1000000) (hb:∀ c ∈ s,c < 256) (he:∀ e ∈ (recoverS s).1,evB e):∃ v H',loadQ s v H' ∧ GoodI Tryz.prog 59 [] [.p (.str s)] H' v:=by
 have hR:=c_recover s hb (by omega)
 have hRB:=recover_B hs hb
 obtain ⟨v,H',hq,hg⟩:=g_replay (recoverS s).1 (by omega) he
 by_cases hno:(recoverS s).2.2 ≠ 0 ∧ (recoverS s).2.2 ≠ 28
 · refine ⟨_,_,by rw [loadQ,if_pos hno]; exact ⟨rfl,rfl⟩,?_⟩
   clear hq hg
   generalize recoverS s = R at *
   obtain ⟨l,pl,no⟩:=R
   dsimp only at *
   refine goodI_fn nf isF59 mix (by simp [Tryz.f59]) ?_
   obtain ⟨n1,n2⟩:=hno
   simp [Tryz.f59]
   refine c1 hR ?_
   simp [n1,n2]
 have hn2:(recoverS s).2.2 = 0 ∨ (recoverS s).2.2 = 28:=by omega
 simp only [replayQ] at hq
 by_cases hz:(playS (recoverS s).1).2.2 = 0
 case neg =>
  refine ⟨_,_,by rw [loadQ,if_neg hno,if_pos hz]; exact ⟨rfl,rfl⟩,?_⟩
  rw [if_neg hz] at hq
  obtain ⟨rfl,rfl⟩:=hq
  generalize playS (recoverS s).1 = Q at *
  generalize recoverS s = R at *
  obtain ⟨l,pl,no⟩:=R
  obtain ⟨d,pl2,err⟩:=Q
  dsimp only at *
  refine goodI_fn nf isF59 mix (by simp [Tryz.f59]) ?_
  simp [Tryz.f59]
  refine c1 hR ?_
  rcases hn2 with rfl | rfl
  all_goals
   simp
   refine cn1 hg ?_
   simp [hz]
 rw [if_pos hz] at hq
 obtain ⟨ve,vs,J,hB,rfl,rfl⟩:=hq
 refine ⟨_,_,by rw [loadQ,if_neg hno,if_neg (by simpa using hz)]; exact ⟨ve,vs,J,hB,rfl,rfl⟩,?_⟩
 generalize playS (recoverS s).1 = Q at *
 generalize recoverS s = R at *
 obtain ⟨l,pl,no⟩:=R
 obtain ⟨d,pl2,err⟩:=Q
 dsimp only at *
 simp only [stH,storyV] at hg
 refine goodI_fn nf isF59 mix (by simp [Tryz.f59]) ?_
 simp [Tryz.f59]
 refine c1 hR ?_
 rcases hn2 with rfl | rfl
 all_goals
  simp
  refine cn1 hg ?_
  simp
  refine ForgetN.og (by simp) (by simp) (by simp) (by simp) (by simp)
end Go.Abs
namespace Go.Abs
open Go.Proofs
set_option maxHeartbeats 4000000
set_option maxRecDepth 100000
structure LiveL (l:List EventD) (n:Nat):Prop where
 len:l.length ≤ n
 eb:∀ e ∈ l,evB e
 et:∀ e ∈ l,EvT e
 ok:(playS l).2.2 = 0
theorem LiveL.evs {l:List EventD} {n:Nat} (h:LiveL l n) (hn:n ≤ 1000):(playS l).1.evs = l:=by
 have h0:=h.ok
 have hp:playS l = playL l 0 ⟨[],[]⟩:=by rw [playS,if_neg (by have:=h.len; omega)]
 rw [hp] at h0 ⊢
 rw [play_ok _ _ _ h0,play_evs]; simp
theorem parsed_W {s:List Nat} {n:Int} (hp:(parsedS s).2 = true) (hc:chkEvent ((parsedS s).1.at n) = 0) (hb:∀ c ∈ s,c < 256):∀ c ∈ ((parsedS s).1.at n).text,c < 256:=by
 intro c hc'
 have h1:=text_body hc c hc'
 have hl:lineT ((parsedS s).1.at n) = s:=parsed_inv hp
 obtain ⟨_,k1,k2,_⟩:=evK hc
 obtain ⟨m,hm⟩:∃ m:Nat,((parsedS s).1.at n).num = m:=⟨((parsedS s).1.at n).num.toNat,by omega⟩
 rw [bodyT,hl,hm] at h1
 rcases List.mem_append.1 h1 with h | h
 · exact (itoa_B (n:=m) (by omega)).2 c h
 · rcases List.mem_cons.1 h with rfl | h
   · omega
   · exact hb c h
theorem live_next {l : List EventD} {n : Nat} {s : List Nat} (h : LiveL l n) (hn : n < 1000) (hs : s.length ≤ 1000) (hb : ∀ c ∈ s, c < 256) :
    LiveL (doD (playS l).1 s).evs (n + 1) ∧ (playS (doD (playS l).1 s).evs).1 = doD (playS l).1 s:=by
 have hev:=h.evs (by omega)
 have hlen:=h.len
 by_cases hd:s ≠ [] ∧ isEnter s = true ∧ enterE (playS l).1 s = 0
 · have hD:doD (playS l).1 s = acceptD (playS l).1 (lineEv (playS l).1 s):=by rw [doD,if_pos hd]
   have hE:=hd.2.2
   rw [enterE,first3z] at hE
   obtain ⟨e1,e2,e3⟩:=hE
   have hp:(parsedS s).2 = true:=by
    cases hq:(parsedS s).2 with
    | true=>rfl
    | false=>rw [hq] at e1; simp [whenE] at e1
   have hlv:lineEv (playS l).1 s = (parsedS s).1.at ((playS l).1.evs.length + 1):=rfl
   have hP:=doD_play (by omega) h.ok e3
   have hevs:(doD (playS l).1 s).evs = l ++ [lineEv (playS l).1 s]:=by rw [hD]; show (playS l).1.evs ++ _ = _; rw [hev]
   rw [addE,first2z] at e3
   have hB:evB (lineEv (playS l).1 s):=by rw [hlv]; exact at_B (parsed_B (by omega) hb) _
   have hT:EvT (lineEv (playS l).1 s):=evT_of e3.1 (by rw [hlv] at e3 ⊢; exact parsed_W hp e3.1 hb)
   rw [hevs,hP,hD]
   refine ⟨⟨by simp; omega,?_,?_,by rw [hP]⟩,rfl⟩
   · intro e he
     rcases List.mem_append.1 he with he | he
     · exact h.eb e he
     · rw [List.mem_singleton.1 he]; exact hB
   · intro e he
     rcases List.mem_append.1 he with he | he
     · exact h.et e he
     · rw [List.mem_singleton.1 he]; exact hT
 · have hD:doD (playS l).1 s = (playS l).1:=by rw [doD,if_neg hd]
   rw [hD,hev]
   exact ⟨⟨by omega,h.eb,h.et,h.ok⟩,rfl⟩
theorem recover_W {s:List Nat} (hs:s.length ≤ 1000000) (hb:∀ c ∈ s,c < 256):∀ e ∈ (recoverS s).1,evW e:=by
 obtain ⟨u,h1,_,h3,_⟩:=recover_gen s hs
 intro e he c hc
 refine hb c ?_
 rw [h3]
 exact List.mem_append_left _ (log_mem he c (text_body (h1.mem e he) c hc))
def sesH (m:List EventD) (d:StoryD) (ve vs:Nat) (J:List PV):Heap:=[.hole,.arr .grow ve 5 (m.map (AV.p ∘ eEvent)),.arr .grow vs 1 (d.sts.map (AV.p ∘ eRows) ++ J.map AV.p),.box false (.st 239 [.st 237 [.sl 1 ve 5 0 m.length,.sl 2 vs 1 0 d.sts.length]])]
theorem c_law9 (hw : GoodC Tryz.prog 17 [] (.bool true)) (s : List Nat) (l : List (List Nat)) (hs : s.length ≤ 1048576) (hl : l.length ≤ 1048576) (hb : ∀ c ∈ s, c < 256) (hlb : ∀ x ∈ l, ∀ c ∈ x, c < 256) :
    GoodC Tryz.prog 9 [.str s,.seq (l.map .str)] (.bool true):=by
 refine good_fn nf isF9 mix (by simp [Tryz.f9]) ?_
 by_cases s1:1500 < s.length ∨ 8 < l.length
 · have s1':(1500:Int) < s.length ∨ (8:Int) < l.length:=by omega
   by_cases s2:(1500:Int) < s.length
   · simp [Tryz.f9,s2]
     refine c0 hw ?_
     simp
   · have s3:(8:Int) < l.length:=by omega
     simp [Tryz.f9,s2,s3]
     refine c0 hw ?_
     simp
 have s2:¬ (1500:Int) < s.length:=by omega
 have s3:¬ (8:Int) < l.length:=by omega
 have hRR:=c_recoverR s hb hs
 have hRB:=recover_B (s:=s) (by omega) hb
 have hRW:=recover_W (s:=s) (by omega) hb
 have hH:=c_heard (recoverS s).1 (by omega) hRW
 by_cases s4:heardS (recoverS s).1 = true
 case neg =>
  simp [Tryz.f9,s2,s3]
  refine c1 hRR ?_
  simp
  refine c1 hH ?_
  simp [s4]
  refine c0 hw ?_
  simp
 have hE:=heardS_B s4 hRW
 obtain ⟨v,H',hq,hg⟩:=g_load s (by omega) hb hE
 have h24:(recoverS s).1.length ≤ 24:=by
  rw [heardS,Bool.and_eq_true,decide_eq_true_eq] at s4; exact s4.2
 have hRp:=c_ReplayR (recoverS s).1 (by omega) hE
 have hrS:replayS (recoverS s).1 = if (playS (recoverS s).1).2.2 ≠ 0 then ([],(playS (recoverS s).1).2.1,(playS (recoverS s).1).2.2) else ((playS (recoverS s).1).1.now,0,0):=rfl
 simp only [loadQ] at hq
 have hLv:(playS (recoverS s).1).2.2 = 0 → LiveL (recoverS s).1 24:=fun h=>⟨h24,hE,hRB.2,h⟩
 generalize hRe:recoverS s = R at *
 obtain ⟨ev,pl,no⟩:=R
 dsimp only at *
 rw [s4] at hH
 have hnon:True:=trivial
 by_cases hno:no ≠ 0 ∧ no ≠ 28
 · rw [if_pos hno] at hq
   obtain ⟨rfl,rfl⟩:=hq
   obtain ⟨n1,n2⟩:=hno
   simp [Tryz.f9,s2,s3]
   refine c1 hRR ?_
   simp
   refine c1 hH ?_
   simp
   refine cn1 hg ?_
   simp [n1,n2]
   refine c0 hw ?_
   simp
 have hn2:no = 0 ∨ no = 28:=by omega
 rw [if_neg hno] at hq
 by_cases hz:(playS ev).2.2 = 0
 case neg =>
  rw [if_pos hz] at hq
  obtain ⟨rfl,rfl⟩:=hq
  rw [if_pos hz] at hrS
  rw [hrS] at hRp
  generalize playS ev = Q at *
  obtain ⟨d,pl2,err⟩:=Q
  dsimp only at *
  rcases hn2 with rfl | rfl
  all_goals
   simp [Tryz.f9,s2,s3]
   refine c1 hRR ?_
   simp
   refine c1 hH ?_
   simp
   refine cn1 hg ?_
   simp
   refine c1 hRp ?_
   simp [hz]
   refine c0 hw ?_
   simp
 rw [if_neg (by simpa using hz)] at hq
 rw [if_neg (by simpa using hz)] at hrS
 rw [hrS] at hRp
 obtain ⟨ve,vs,J,hB,rfl,rfl⟩:=hq
 have hL:=hLv hz
 have hev:=hL.evs (by omega)
 have key:∀ (P:Prop),P → P:=fun _ h=>h
 rw [hev] at hg
 rcases hn2 with rfl | rfl
 all_goals
  simp [Tryz.f9,s2,s3]
  refine c1 hRR ?_
  simp
  refine c1 hH ?_
  simp
  refine cn1 hg ?_
  simp
  refine c1 hRp ?_
  simp
  refine lp (α:=Nat × List EventD × Nat × Nat × List PV) (fun (i,m,ve,vs,J)=>⟨[(74,.p (.int .i64 i)),(73,.p (.int .i64 l.length)),(72,.p (.seq (l.map .str))),(8,.ptr 3 []),(5,.p (.seq (m.map eEvent)))],sesH m (playS m).1 ve vs J⟩)
   (fun (i,m,ve,vs,J)=>i ≤ l.length ∧ LiveL m (24 + i) ∧ StoryB (playS m).1 J) (fun (i,_)=>l.length - i) (0,ev,ve,vs,J) ⟨by simp,hL,hB⟩ ?_ (hh:=by simp [sesH]) (hr:=by simp [sesH]) (hr2:=by simp [sesH])
  rintro ⟨i,m,ve,vs,J⟩ ⟨k1,k2,k3⟩
  dsimp only at k1 k2 k3 ⊢
  have hev:=k2.evs (by omega)
  have hml:=k2.len
  have hwi:=wi1 (i:=i) (by omega)
  by_cases hi:i < l.length
  · have hlm:=List.getElem_mem hi
    have hlb:=hlb _ hlm
    by_cases h300:300 < l[i].length
    · have h300':(300:Int) < l[i].length:=by omega
      simp [sesH,hi,h300']
      refine c0 hw ?_
      simp
    · have h300':¬ (300:Int) < l[i].length:=by omega
      have hDid:=c_did m l[i] (by omega) k2.eb k2.ok (by omega) hlb
      obtain ⟨ve',vs',J',hB',hDo⟩:=g_Do m ve vs J l[i] (by omega) k2.eb k2.ok k3 (by omega) hlb
      obtain ⟨hL',hP'⟩:=live_next (s:=l[i]) k2 (by omega) (by omega) hlb
      have hrd:∀ {N:Nat} {Q:(Nat × List EventD × Nat × Nat × List PV) → St} ,True:=trivial
      have hevs:(doD (playS m).1 l[i]).evs = (doD (playS m).1 l[i]).evs:=rfl
      simp only [ssH,storyV] at hDo
      rw [hev] at hDo
      generalize doS (playS m).1 l[i] = A at *
      generalize hx:doD (playS m).1 l[i] = d' at *
      obtain ⟨ans,no⟩:=A
      simp [sesH,hi,h300']
      refine c2 hDid ?_
      simp
      refine cf hDo [3,1,2] ?_
      simp [setAll,sig]
      refine rd (i + 1,d'.evs,ve',vs',J') ⟨hi,hL',by rw [hP']; exact hB'⟩ (h1:=by dsimp only; omega) (he:=by simp [hwi]) (hh:=by simp [sesH,hP']) (hr:=by simp [sesH]) (hr2:=by simp [sesH])
  · have:i = l.length:=by omega
    subst this
    have hSm:=c_sameEvents m (by omega) (fun x hx=>⟨by have:=(k2.et x hx).nl; omega,by have:=(k2.et x hx).vl; omega⟩)
    have hLe:=logT_le k2.et
    have hLog:=c_logR m (by omega) k2.et (by omega)
    have hE1:=g_events (playS m).1 ve vs J (by rw [hev]; omega) (by rw [hev]; exact k2.eb)
    have hL1:=g_log (playS m).1 ve vs J (by rw [hev]; omega) (by rw [hev]; exact k2.et)
    simp only [ssH,storyV] at hE1 hL1
    rw [hev] at hE1 hL1
    generalize (playS m).1 = d at *
    simp [sesH]
    refine c2 (c_doNil _) ?_
    simp
    refine cf hE1 [3,1,2] ?_
    simp [setAll,sig]
    refine c2 hSm ?_
    simp
    refine cf hL1 [3,1,2] ?_
    simp [setAll,sig]
    refine c1 hLog ?_
    simp
    refine c1 c_eventsNil ?_
    simp
    refine c1 c_logNil ?_
    simp
    refine c0 hw ?_
    simp
end Go.Abs
