import Derived.Test.YthckccalfpnmaaaGreatDoorVE
import Derived.Test.YthckccalfpnmaaaGreatDoorThE
import Derived.Test.YthckccalfpnmaaaGreatDoorVD
/- Parts of a proof. -/
set_option linter.unusedSimpArgs false
set_option linter.unusedVariables false
set_option linter.unusedSectionVars false
namespace Go.Abs
open Go.Proofs
set_option maxHeartbeats 4000000
set_option maxRecDepth 100000
theorem g_replay0:GoodI Tryz.prog 138 [] [.p .nsl] (stH ⟨[],[]⟩ 0 0 []) (.tup [.ptr 0 [],.p (.int .i64 0),.p (.int .i64 0)]):=by
 refine goodI_fn nf isF138 mix (by simp [Tryz.f138]) ?_
 simp [Tryz.f138]
 refine lp (α:=Nat) (fun i=>⟨[(16,.p (.int .i64 0)),(15,.p (.int .i64 0)),(14,.p .nsl),(5,.ptr 0 [])],stH ⟨[],[]⟩ 0 0 []⟩) (fun i=>True) (fun i=>0) 0 (by simp) ?_ (hh:=by simp [stH,storyV]) (hr:=by simp [stH]) (hr2:=by simp [stH,storyV])
 intro i _
 simp [stH,storyV]
section
variable {w:World} {Imm:Nat → Prop} {β:Bd}
def s0V (vs:Nat):AV:=.st 239 [.st 237 [.p .nsl,.sl 2 vs 1 0 0]]
def s1V (ve vs:Nat):AV:=.st 239 [.st 237 [.sl 1 ve 5 0 0,.sl 2 vs 1 0 0]]
def s0H (ve vs:Nat):Heap:=[.arr .grow ve 5 [],.arr .grow vs 1 []]
theorem s_fwd (ve vs:Nat) (cs:List Value) (h:AVC Tryz.prog w Imm β (.box false (s1V ve vs) :: s0H ve vs) (s1V ve vs) cs):AVC Tryz.prog w Imm β (.box false (s1V ve vs) :: s0H ve vs) (s0V vs) cs:=by
 rw [s1V] at h
 rw [s0V]
 simp only [AVC,szS,szT,Option.some.injEq,PVC] at h ⊢
 obtain ⟨l,css,rfl,h1,rfl⟩:=h
 simp only [AVCl] at h1
 obtain ⟨c,d,rfl,h2,h3,rfl⟩:=h1
 simp only [AVC,szT,Option.some.injEq] at h2
 obtain ⟨l2,css2,rfl,h4,rfl⟩:=h2
 simp only [AVCl,AVC] at h4
 obtain ⟨c1,d1,rfl,⟨v1,rfl,h5⟩,h6,c2,d2,rfl,h7,h8,rfl⟩:=h4
 have hv:=(h5.2 .grow [] rfl).2.1 ⟨rfl,rfl⟩
 refine ⟨[2],[[[v1],c2].flatten],rfl,?_,rfl⟩
 simp only [AVCl]
 refine ⟨_,[],rfl,?_,by simpa using h3,rfl⟩
 simp only [AVC,szT,Option.some.injEq]
 refine ⟨[1,1],[[v1],c2],rfl,?_,rfl⟩
 simp only [AVCl,AVC,PVC]
 exact ⟨_,_,rfl,by rw [hv],rfl,_,_,rfl,h7,h8,rfl⟩
theorem s_back (ve vs:Nat) (cs:List Value) (h:AVC Tryz.prog w Imm β (.box false (s0V vs) :: s0H ve vs) (s0V vs) cs):AVC Tryz.prog w Imm β (.box false (s0V vs) :: s0H ve vs) (s1V ve vs) cs:=by
 rw [s1V]
 have h':=h
 rw [s0V] at h'
 simp only [AVC,szS,szT,Option.some.injEq,PVC] at h' ⊢
 obtain ⟨l,css,rfl,h1,rfl⟩:=h'
 simp only [AVCl] at h1
 obtain ⟨c,d,rfl,h2,h3,rfl⟩:=h1
 simp only [AVC,szT,Option.some.injEq] at h2
 obtain ⟨l2,css2,rfl,h4,rfl⟩:=h2
 simp only [AVCl,AVC,PVC] at h4
 obtain ⟨c1,d1,rfl,rfl,h6,c2,d2,rfl,h7,h8,rfl⟩:=h4
 refine ⟨[2],[[[.slice none 0 0],c2].flatten],rfl,?_,rfl⟩
 simp only [AVCl]
 refine ⟨_,[],rfl,?_,by simpa using h3,rfl⟩
 simp only [AVC,szT,Option.some.injEq]
 refine ⟨[1,1],[[.slice none 0 0],c2],rfl,?_,rfl⟩
 simp only [AVCl,AVC]
 refine ⟨_,_,rfl,⟨_,rfl,rfl,?_⟩,rfl,_,_,rfl,h7,h8,rfl⟩
 intro k es hL
 simp [LiveArr,s0H] at hL
 obtain ⟨rfl,rfl⟩:=hL
 exact ⟨by simp,fun _=>rfl,fun hn=>(hn ⟨rfl,rfl⟩).elim⟩
end
theorem s_swap {f:FuncId} {args:List AV} {v:AV} (ve vs:Nat) (h:GoodI Tryz.prog f (.box false (s0V vs) :: s0H ve vs) args (.box false (s0V vs) :: s0H ve vs) v):GoodI Tryz.prog f (.box false (s1V ve vs) :: s0H ve vs) args (.box false (s1V ve vs) :: s0H ve vs) v:=by
 refine h.swap (fun T=>rfl) (fun T=>rfl) (fun w Imm β cs h=>s_fwd ve vs cs h) (fun w Imm β cs h=>s_back ve vs cs h) ?_ ?_
 · simp [s1V,s0H,refsLt,InH,Obj.has]
 · simp [s0V,s0H,refsLt,InH,Obj.has]
theorem s_swap' {f:FuncId} {args:List AV} {v:AV} (ve vs:Nat) (h:GoodI Tryz.prog f (.box false (s1V ve vs) :: s0H ve vs) args (.box false (s1V ve vs) :: s0H ve vs) v):GoodI Tryz.prog f (.box false (s0V vs) :: s0H ve vs) args (.box false (s0V vs) :: s0H ve vs) v:=by
 refine h.swap (fun T=>rfl) (fun T=>rfl) (fun w Imm β cs h=>s_back ve vs cs h) (fun w Imm β cs h=>s_fwd ve vs cs h) ?_ ?_
 · simp [s0V,s0H,refsLt,InH,Obj.has]
 · simp [s1V,s0H,refsLt,InH,Obj.has]
theorem ssH_nil (ve vs:Nat):ssH ⟨[],[]⟩ ve vs [] = .box false (s1V ve vs) :: s0H ve vs:=rfl
theorem g_diff0 (ve vs : Nat) (w : List Nat) (hw : w.length ≤ 1000) (hb : ∀ c ∈ w, c < 256) :
    GoodI Tryz.prog 217 (.box false (s0V vs) :: s0H ve vs) [.ptr 0 [],.p (.seq [.str w])] (.box false (s0V vs) :: s0H ve vs)
     (.p (.tup [.str (diffV ⟨[],[]⟩ w).1,.int .i64 (diffV ⟨[],[]⟩ w).2])):=by
 have hI:=c_integer w false (by omega) hb
 have eI:intP false w = intR w:=rfl
 rw [eI] at hI
 have hR:GoodI Tryz.prog 140 (.box false (s0V vs) :: s0H ve vs) [.ptr 0 [(239,0)]] (.box false (s0V vs) :: s0H ve vs) (.p (.seq [])):=s_swap' ve vs (g_rowsS ⟨[],[]⟩ ve vs [] (by simp))
 have hnn:=intR_nonneg w
 have hL:lettersD [] [] = []:=by rw [letters_nil]; rfl
 have hpl:playS [] = (⟨[],[]⟩,0,0):=by rw [playS,if_neg (by simp)]; rfl
 have hV:diffV ⟨[],[]⟩ w = if (intR w).2 = false then ([],25) else if (0:Int) < (intR w).1 then ([],3) else ([],0):=by
  rw [diffV]
  simp only [List.take_nil,hpl]
  rw [show StoryD.now ⟨[],[]⟩ = [] from rfl,hL]; rfl
 rw [hV]
 generalize intR w = I at *
 obtain ⟨n,is⟩:=I
 dsimp only at hnn hV hI ⊢
 have hR2:=g_rows ⟨[],[]⟩ 0 0 [] (by simp)
 have hSc:=c_script [] [] ⟨by simp,by simp⟩ ⟨by simp,by simp⟩ (by simp) (by simp)
 have hD:diffS [] [] = []:=by simp [diffS]
 have hn0:StoryD.now ⟨[],[]⟩ = []:=rfl
 rw [hn0] at hR2
 rw [hD] at hSc
 have hRp:=g_replay0
 simp only [stH,storyV] at hR2 hRp
 simp only [s0V,s0H] at hR ⊢
 simp at hR2 hSc hRp
 refine goodI_fn nf isF217 mix (by simp [Tryz.f217]) ?_
 by_cases his:is = true
 case neg =>
  have his:is = false:=by simpa using his
  subst his
  simp [Tryz.f217]
  refine c2 hI ?_
  simp
  refine e2 (c_when true 25) ?_
  simp
  refine e3 (c_within n 0 0) ?_
  simp
  refine ep (h1:=?g1) (c_first [whenE true 25,withinE n 0 0] (by simp)) (by simp; exact ⟨rfl,rfl⟩) (by simp; exact ⟨rfl,rfl⟩) ?_
  case g1=>simp
  have h25:firstE [whenE true 25,withinE n 0 0] = 25:=by simp [firstE,whenE]
  rw [h25]
  simp
  refine ⟨rfl,ForgetN.og (by simp) (by simp) (by simp) (by simp) (by simp)⟩
 subst his
 by_cases hkl:0 < n
 · have h3:firstE [whenE false 25,withinE n 0 0] = 3:=by
    rw [withinE]
    simp [firstE,whenE,hkl]
   simp [Tryz.f217,hkl]
   refine c2 hI ?_
   simp
   refine e2 (c_when false 25) ?_
   simp
   refine e3 (c_within n 0 0) ?_
   simp
   refine ep (h1:=?g1) (c_first [whenE false 25,withinE n 0 0] (by simp)) (by simp; exact ⟨rfl,rfl⟩) (by simp; exact ⟨rfl,rfl⟩) ?_
   case g1=>simp
   rw [h3]
   simp [hkl]
   refine ⟨rfl,ForgetN.og (by simp) (by simp) (by simp) (by simp) (by simp)⟩
 obtain rfl:n = 0:=by omega
 have h3:firstE [whenE false 25,withinE 0 0 0] = 0:=by rw [withinE]; simp [firstE,whenE]
 simp [Tryz.f217]
 refine c2 hI ?_
 simp
 refine e2 (c_when false 25) ?_
 simp
 refine e3 (c_within 0 0 0) ?_
 simp
 refine ep (h1:=?g1) (c_first [whenE false 25,withinE 0 0 0] (by simp)) (by simp; exact ⟨rfl,rfl⟩) (by simp; exact ⟨rfl,rfl⟩) ?_
 case g1=>simp
 rw [h3]
 simp
 refine ⟨rfl,?_⟩
 refine cn1 hRp ?_
 simp
 refine ef hR2 [4,5,6] ?_
 simp [setAll,sig]
 refine ef hR [0,1,2] ?_
 simp [setAll,sig]
 refine e4 hSc ?_
 simp
 refine lp (α:=Nat) (fun i=>⟨[(61,.p (.int .i64 0)),(60,.p (.int .i64 0)),(59,.p (.seq [])),(12,.ptr 7 [])],[.box false (.st 239 [.st 237 [.p .nsl,.sl 2 vs 1 0 0]]),.arr .grow ve 5 [],.arr .grow vs 1 [],.hole,.hole,.hole,.hole] ++ bldH [] 0⟩)
  (fun i=>True) (fun i=>0) 0 (by simp) ?_ (hh:=by simp [bldH0]) (hr:=by simp [bldH0]) (hr2:=by simp [bldH0])
 intro i _
 simp [bldH0]
 refine cf g_str0 [7] ?_
 simp [setAll,sig]
 refine ForgetN.og (by simp) (by simp) (by simp) (by simp) (by simp)
theorem g_diff (l : List EventD) (ve vs : Nat) (J : List PV) (w : List Nat) (hl : l.length ≤ 1000) (he : ∀ e ∈ l, evB e) (h0 : (playS l).2.2 = 0) (hB : StoryB (playS l).1 J)
    (hw:w.length ≤ 1000) (hb:∀ c ∈ w,c < 256) :
    GoodI Tryz.prog 217 (ssH (playS l).1 ve vs J) [.ptr 0 [],.p (.seq [.str w])] (ssH (playS l).1 ve vs J)
     (.p (.tup [.str (diffV (playS l).1 w).1,.int .i64 (diffV (playS l).1 w).2])):=by
 by_cases h0l:l = []
 · subst h0l
   have hpl:playS [] = (⟨[],[]⟩,0,0):=by rw [playS,if_neg (by simp)]; rfl
   rw [hpl] at hB ⊢
   obtain rfl:J = []:=by
    have:=hB.sj; simpa using this
   dsimp only
   rw [ssH_nil]
   exact s_swap ve vs (g_diff0 ve vs w hw hb)
 · exact g_diff1 l ve vs J w hl he h0 hB h0l hw hb
end Go.Abs
namespace Go.Abs
open Go.Proofs
set_option maxHeartbeats 4000000
set_option maxRecDepth 100000
theorem c_indexStr (l:List (List Nat)) (k:List Nat) (h:l.length ≤ 1048576):GoodC Tryz.prog 218 [.seq (l.map .str),.str k] (.int .i64 (idxFrom (fun x=>decide (k = x)) l 0)):=by
 refine good_fn nf isF218 mix (by simp [Tryz.f218]) ?_
 simp [Tryz.f218]
 refine lp (α:=Nat) (fun i=>⟨[(8,.p (.int .i64 i)),(7,.p (.int .i64 l.length)),(1,.p (.str k)),(0,.p (.seq (l.map .str)))],[]⟩) (fun i=>i ≤ l.length ∧ idxFrom (fun x=>decide (k = x)) l 0 = idxFrom (fun x=>decide (k = x)) (l.drop i) i) (fun i=>l.length - i) 0 (by simp) ?_
 rintro i ⟨k1,k2⟩
 have hw:=wi1 (i:=i) (by omega)
 by_cases hi:i < l.length
 · rw [List.drop_eq_getElem_cons hi,idxFrom] at k2
   by_cases hk:k = l[i]
   · rw [if_pos (by simpa using hk)] at k2
     simp [hi,← hk,k2]
   · rw [if_neg (by simpa using hk)] at k2
     simp [hi,hk,hw]
     exact rd (i + 1) ⟨hi,k2⟩
 · have:i = l.length:=by omega
   subst this
   simp [idxFrom] at k2
   simp [k2]
theorem c_containsStr (l:List (List Nat)) (k:List Nat) (h:l.length ≤ 1048576):GoodC Tryz.prog 154 [.seq (l.map .str),.str k] (.bool (decide (k ∈ l))):=by
 refine good_fn nf isF154 mix (by simp [Tryz.f154]) ?_
 have hm:decide (0 ≤ idxFrom (fun x=>decide (k = x)) l 0) = decide (k ∈ l):=by
  rw [idxFrom_any,Bool.eq_iff_iff]
  simp
 simp [Tryz.f154]
 refine c2 (c_indexStr l k h) ?_
 simp [hm]
theorem c_evCopy (e:EventD) (he:evB e):GoodC Tryz.prog 156 [eEvent e] (eEvent e):=by
 have hcl1:=c_cloneS e.names (by have:=he.2.1; omega)
 have hcl2:=c_clone e.vals (by have:=he.2.2.2.1; omega)
 obtain ⟨num,kind,names,vals,text⟩:=e
 dsimp only at hcl1 hcl2
 refine good_fn nf isF156 mix (by simp [Tryz.f156]) ?_
 simp [Tryz.f156,eEvent]
 refine e1 hcl1 ?_
 simp
 refine e1 hcl2 ?_
 simp
 (repeat' (refine And.intro ?_ ?_)) <;> rfl
@[simp] theorem rl_takec {α:Type} {N:Nat × Nat → Prop} {f:α → PV} {l:List α} {i:Nat}:refsLtl N ((l.map (AV.p ∘ f)).take i) = True:=rl_take (f:=f)
theorem GoodI.pureW {P : Program} {f : FuncId} {H H' : Heap} {args : List AV} {v : AV} {p : PV} (K : Nat → Bool) (h : GoodI P f H args H' v) (hp : Pur (killH (fun i => !K i) H') 9 v p) (hl : ∀ (b : Nat) (L : LoopA), K b = true → H[b]? ≠ some (.loop L)) :
    GoodI P f H args (killH K H') (.p p):=by
 obtain ⟨v',h3,h4⟩:=pur_ok _ _ _ hp
 exact (h.pure K (n:=9) h3 hl).weak h4
theorem g_mapEE1 (l : List EventD) (v : Nat) (h : l.length ≤ 1048576) (he : ∀ e ∈ l, evB e) :
    GoodI Tryz.prog 155 [.arr .grow v 5 (l.map (AV.p ∘ eEvent))] [.sl 0 v 5 0 l.length,.p (.func 156 [] [])]
     [.arr .grow v 5 (l.map (AV.p ∘ eEvent)),.arr .grow l.length 5 (l.map (AV.p ∘ eEvent))] (.sl 1 l.length 5 0 l.length):=by
 refine goodI_fn nf isF155 mix (by simp [Tryz.f155]) ?_
 simp [Tryz.f155]
 refine lp (α:=Nat) (fun i=>⟨[(10,.p (.int .i64 i)),(9,.p (.int .i64 l.length)),(8,.sl 0 v 5 0 l.length),(5,.sl 1 i 5 0 i),(1,.p (.func 156 [] []))],[.arr .grow v 5 (l.map (AV.p ∘ eEvent)),.arr .grow i 5 ((l.map (AV.p ∘ eEvent)).take i)]⟩) (fun i=>i ≤ l.length) (fun i=>l.length - i) 0 (by simp) ?_
 rintro i k1
 by_cases hi:i < l.length
 · have hw:=wi1 (i:=i) (by omega)
   have ht:=take_next (AV.p ∘ eEvent) hi
   have hse:shp (eEvent l[i]) = .agg 60:=rfl
   have h0:l ≠ []:=by rintro rfl; simp at hi
   simp [hi,h0,hse]
   refine c1 (c_evCopy l[i] (he _ (List.getElem_mem hi))) ?_
   simp [hse]
   refine ⟨⟨by omega,by simp only [maxL]; omega⟩,?_⟩
   exact rd (i + 1) hi (he:=by simp [hw]) (hh:=by simp [ht]) (hr2:=by simp [ht])
 · have:i = l.length:=by omega
   subst this
   simp
theorem g_mapEE (l : List EventD) (v : Nat) (h : l.length ≤ 1048576) (he : ∀ e ∈ l, evB e) :
    GoodI Tryz.prog 155 [.arr .grow v 5 (l.map (AV.p ∘ eEvent))] [.sl 0 v 5 0 l.length,.p (.func 156 [] [])]
     [.arr .grow v 5 (l.map (AV.p ∘ eEvent)),.dead] (.p (.seq (l.map eEvent))):=by
 have h1:=(g_mapEE1 l v h he).pureW (p:=.seq (l.map eEvent)) (fun i=>i == 1) (by simp [killH]) (by intro b L hb; rcases b with _ | b <;> simp at hb ⊢)
 simpa [killH] using h1
theorem g_mapES1 (l : List EventD) (v : Nat) (h : l.length ≤ 1048576) (he : ∀ e ∈ l, EvT e) :
    GoodI Tryz.prog 160 [.arr .grow v 5 (l.map (AV.p ∘ eEvent))] [.sl 0 v 5 0 l.length,.p (.func 117 [] [])]
     [.arr .grow v 5 (l.map (AV.p ∘ eEvent)),.arr .grow l.length 1 (l.map (AV.p ∘ (PV.str ∘ recT)))] (.sl 1 l.length 1 0 l.length):=by
 refine goodI_fn nf isF160 mix (by simp [Tryz.f160]) ?_
 simp [Tryz.f160]
 refine lp (α:=Nat) (fun i=>⟨[(10,.p (.int .i64 i)),(9,.p (.int .i64 l.length)),(8,.sl 0 v 5 0 l.length),(5,.sl 1 i 1 0 i),(1,.p (.func 117 [] []))],[.arr .grow v 5 (l.map (AV.p ∘ eEvent)),.arr .grow i 1 ((l.map (AV.p ∘ (PV.str ∘ recT))).take i)]⟩) (fun i=>i ≤ l.length) (fun i=>l.length - i) 0 (by simp) ?_
 rintro i k1
 by_cases hi:i < l.length
 · have hw:=wi1 (i:=i) (by omega)
   have ht:=take_next (AV.p ∘ (PV.str ∘ recT)) hi
   have hse:shp (eEvent l[i]) = .agg 60:=rfl
   have h0:l ≠ []:=by rintro rfl; simp at hi
   simp [hi,h0,hse]
   refine c1 (c_record l[i] (he _ (List.getElem_mem hi))) ?_
   simp
   refine ⟨⟨by omega,by simp only [maxL]; omega⟩,?_⟩
   exact rd (i + 1) hi (he:=by simp [hw]) (hh:=by simp [ht]) (hr2:=by simp [ht])
 · have:i = l.length:=by omega
   subst this
   simp
theorem g_mapES (l : List EventD) (v : Nat) (h : l.length ≤ 1048576) (he : ∀ e ∈ l, EvT e) :
    GoodI Tryz.prog 160 [.arr .grow v 5 (l.map (AV.p ∘ eEvent))] [.sl 0 v 5 0 l.length,.p (.func 117 [] [])]
     [.arr .grow v 5 (l.map (AV.p ∘ eEvent)),.dead] (.p (.seq ((l.map recT).map .str))):=by
 have h1:=(g_mapES1 l v h he).pureW (p:=.seq ((l.map recT).map .str)) (fun i=>i == 1) (by simp [killH]) (by intro b L hb; rcases b with _ | b <;> simp at hb ⊢)
 simpa [killH] using h1
end Go.Abs
namespace Go.Abs
open Go.Proofs
set_option maxHeartbeats 4000000
set_option maxRecDepth 100000
theorem doD_play {l:List EventD} {e:EventD} (hl:l.length < 1000) (h0:(playS l).2.2 = 0) (ha:addE (playS l).1 e = 0):playS (l ++ [e]) = (acceptD (playS l).1 e,0,0):=by
 have hp:playS l = playL l 0 ⟨[],[]⟩:=by rw [playS,if_neg (by omega)]
 have hp2:playS (l ++ [e]) = playL (l ++ [e]) 0 ⟨[],[]⟩:=by rw [playS,if_neg (by simp; omega)]
 rw [hp] at h0 ha
 rw [hp2,play_app _ _ _ _ h0,playL,if_neg (by simpa using ha),playL,hp]
theorem g_enter (l : List EventD) (ve vs : Nat) (J : List PV) (s : List Nat) (hl : l.length < 1000) (he : ∀ e ∈ l, evB e) (h0 : (playS l).2.2 = 0) (hB : StoryB (playS l).1 J)
    (hs:s.length ≤ 1000) (hb:∀ c ∈ s,c < 256) :
    ∃ ve' vs' J',StoryB (if enterE (playS l).1 s = 0 then acceptD (playS l).1 (lineEv (playS l).1 s) else (playS l).1) J' ∧
     GoodI Tryz.prog 152 (ssH (playS l).1 ve vs J) [.ptr 0 [],.p (.str s)]
      (ssH (if enterE (playS l).1 s = 0 then acceptD (playS l).1 (lineEv (playS l).1 s) else (playS l).1) ve' vs' J')
      (.p (if enterE (playS l).1 s = 0 then .tup [.str (tDone ++ itoaN (l.length + 1)),.int .i64 0] else .tup [.str [],.int .i64 (enterE (playS l).1 s)])):=by
 have hEv:(playS l).1.evs = l:=by
  have hp:playS l = playL l 0 ⟨[],[]⟩:=by rw [playS,if_neg (by omega)]
  rw [hp] at h0 ⊢
  rw [play_ok _ _ _ h0,play_evs]; simp
 have hS:∀ d:StoryD,d.evs = l → ssH d ve vs J = [.box false (.st 239 [.st 237 [.sl 1 ve 5 0 l.length,.sl 2 vs 1 0 d.sts.length]]),.arr .grow ve 5 (l.map (AV.p ∘ eEvent)),.arr .grow vs 1 (d.sts.map (AV.p ∘ eRows) ++ J.map AV.p)]:=by
  intro d hd
  simp [ssH,storyV,hd]
 have hR:=c_readLine s (by omega) hb
 have hPB:=parsed_B (s:=s) (by omega) hb
 have hent:enterE (playS l).1 s = firstE [whenE (!(parsedS s).2) 25,whenE (decide (1000 ≤ (playS l).1.evs.length)) 5,addE (playS l).1 (lineEv (playS l).1 s)]:=rfl
 have hlv:lineEv (playS l).1 s = (parsedS s).1.at ((playS l).1.evs.length + 1):=rfl
 have hwl:IntKind.i64.wrap ((l.length:Int) + 1) = l.length + 1:=wi1 (by omega)
 have d1:decide (1000 ≤ (playS l).1.evs.length) = false:=by rw [hEv]; simpa using hl
 have d2:¬ (1000:Int) ≤ (l.length:Int):=by omega
 obtain ⟨ve',vs',J',g1,g2⟩:=g_add (playS l).1 ve vs J (lineEv (playS l).1 s) (by rw [hlv]; exact at_B hPB _) hB
 have hB':=next_B hB (by rw [hlv]; exact at_B hPB _) (by rw [hEv]; exact hl) g2
 have hTx:=h182 ((l.length:Int) + 1) (by omega) (by omega)
 generalize hQ:parsedS s = Q at *
 obtain ⟨⟨num,kind,names,vals,text⟩,is⟩:=Q
 simp only [EventD.at] at hlv
 rw [hEv] at hlv
 dsimp only at hR hent
 simp only [eEvent] at hR
 by_cases hp:is = true
 case neg =>
  have hp:is = false:=by simpa using hp
  subst hp
  have e25:enterE (playS l).1 s = 25:=by rw [hent]; simp [firstE,whenE]
  rw [e25,if_neg (by decide),if_neg (by decide)]
  refine ⟨ve,vs,J,hB,?_⟩
  generalize (playS l).1 = d at *
  rw [hS d hEv]
  refine goodI_fn nf isF152 mix (by simp [Tryz.f152]) ?_
  simp [Tryz.f152,d2]
  refine c1 hR ?_
  simp
  refine e2 (c_when true 25) ?_
  simp
  refine e2 (c_when false 5) ?_ (h1:=by simp; omega)
  simp
  refine ep (h1:=?g1) (c_first [whenE true 25,whenE false 5] (by simp)) (by simp; exact ⟨rfl,rfl⟩) (by simp; exact ⟨rfl,rfl⟩) ?_
  case g1=>simp
  have h25:firstE [whenE true 25,whenE false 5] = 25:=by simp [firstE,whenE]
  rw [h25]
  simp
  refine ⟨rfl,ForgetN.og (by simp) (by simp) (by simp) (by simp) (by simp)⟩
 subst hp
 have hE:enterE (playS l).1 s = addE (playS l).1 (lineEv (playS l).1 s):=by
  rw [hent,d1]
  generalize addE _ _ = x
  by_cases hx:x = 0 <;> simp [firstE,whenE,hx]
 rw [hE]
 rw [nextD] at g1 hB'
 rw [hlv] at g1 hB' hE ⊢
 have g1:=wrapS g1
 refine ⟨ve',vs',J',hB',?_⟩
 generalize addE _ _ = X at *
 have hD:(if X = 0 then acceptD (playS l).1 ⟨(l.length:Int) + 1,kind,names,vals,text⟩ else (playS l).1).evs.length = (if X = 0 then l.length + 1 else l.length):=by
  split
  · simp [acceptD,hEv]
  · rw [hEv]
 generalize (if X = 0 then acceptD (playS l).1 ⟨(l.length:Int) + 1,kind,names,vals,text⟩ else (playS l).1) = d' at *
 generalize (playS l).1 = d at *
 rw [hS d hEv] at g1 ⊢
 simp only [ssH,storyV] at g1 ⊢
 refine goodI_fn nf isF152 mix (by simp [Tryz.f152]) ?_
 simp [Tryz.f152,d2]
 refine c1 hR ?_
 simp
 refine e2 (c_when false 25) ?_
 simp
 refine e2 (c_when false 5) ?_ (h1:=by simp; omega)
 simp
 refine ep (h1:=?g1) (c_first [whenE false 25,whenE false 5] (by simp)) (by simp; exact ⟨rfl,rfl⟩) (by simp; exact ⟨rfl,rfl⟩) ?_
 case g1=>simp
 have h25:firstE [whenE false 25,whenE false 5] = 0:=by simp [firstE,whenE]
 rw [h25]
 simp
 refine ⟨rfl,?_⟩
 simp only [eEvent] at g1
 simp [hwl]
 refine ef g1 [0,1,2] ?_
 simp [setAll,sig]
 by_cases hX:X = 0
 · subst hX
   simp at hD
   have hIl:(itoaN ((l.length:Int) + 1)).length ≤ 9:=by
    have:=(itoa_B (n:=l.length + 1) (by omega)).1
    simpa using this
   have hJ:=c_joinW [[100,111,110,101],itoaN ((l.length:Int) + 1)] (by simp) (by simp [joinN]; omega)
   simp
   refine c1 hTx ?_ (h1:=by simp [hwl])
   simp
   refine cp (h1:=?g2) hJ (by simp; exact ⟨rfl,rfl⟩) ?_
   case g2=>simp
   simp [joinN,tDone]
   refine ForgetN.og (by simp) (by simp) (by simp) (by simp) (by simp)
 · simp [hX]
   refine ForgetN.og (by simp) (by simp) (by simp) (by simp) (by simp)
def questE:List (PV × PV):=[(.str kRow,.st 247 [.int .i64 1,.func 215 [] []]),(.str kRows,.st 247 [.int .i64 0,.func 216 [] []]),(.str kDiff,.st 247 [.int .i64 1,.func 217 [] []])]
theorem c_questions:GoodC Tryz.prog 153 [] (.fmap questE):=by
 refine good_fn nf isF153 mix (by simp [Tryz.f153]) ?_
 simp [Tryz.f153,questE,kRow,kRows,kDiff]
theorem quest_look (k:List Nat):lookupM questE (.str k) = some (if k = kRow then some (.st 247 [.int .i64 1,.func 215 [] []]) else if k = kRows then some (.st 247 [.int .i64 0,.func 216 [] []]) else if k = kDiff then some (.st 247 [.int .i64 1,.func 217 [] []]) else none):=by
 have e:∀ a b:List Nat,eqP (.str a) (.str b) = some (decide (a = b)):=fun a b=>by simp [eqP]; rw [Bool.eq_iff_iff]; simp
 by_cases h1:k = kRow
 · subst h1; rfl
 by_cases h2:k = kRows
 · subst h2; rfl
 by_cases h3:k = kDiff
 · subst h3; rfl
 simp only [questE,lookupM,e,h1,h2,h3,decide_false,Bool.false_eq_true,if_false]
end Go.Abs
namespace Go.Abs
open Go.Proofs
set_option maxHeartbeats 4000000
set_option maxRecDepth 100000
theorem askD_cons (d : StoryD) (w0 : List Nat) (ws : List (List Nat)) : askD d (w0 :: ws) = if askN w0 = 0 then ([], 13) else if (w0 :: ws).length ≠ askN w0 ∨ (w0 :: ws).getLastD [] = [] then ([], 25)
    else if w0 = kRow then (if atK d.now ((w0 :: ws).getLastD []) < 0 then ([],10) else (noneT (valsT ((d.now[(atK d.now ((w0 :: ws).getLastD [])).toNat]?.map (·.vals)).getD [])),0))
    else if w0 = kRows then (noneT (joinN [32] (d.now.map (·.key))),0)
    else if (intR ((w0 :: ws).getLastD [])).2 = false then ([],25)
    else if (d.evs.length:Int) < (intR ((w0 :: ws).getLastD [])).1 then ([],3)
    else (noneT (lettersD (playS (d.evs.take (intR ((w0 :: ws).getLastD [])).1.toNat)).1.now d.now),0):=rfl
theorem g_Do (l : List EventD) (ve vs : Nat) (J : List PV) (s : List Nat) (hl : l.length < 1000) (he : ∀ e ∈ l, evB e) (h0 : (playS l).2.2 = 0) (hB : StoryB (playS l).1 J)
    (hs:s.length ≤ 1000) (hb:∀ c ∈ s,c < 256) :
    ∃ ve' vs' J',StoryB (doD (playS l).1 s) J' ∧
     GoodI Tryz.prog 61 (ssH (playS l).1 ve vs J) [.ptr 0 [],.p (.str s)] (ssH (doD (playS l).1 s) ve' vs' J')
      (.p (.tup [.str (doS (playS l).1 s).1,.int .i64 (doS (playS l).1 s).2])):=by
 have hsl:¬ (8192:Int) < s.length:=by omega
 have hSp:=c_split s 32 (by omega)
 by_cases hz:s = []
 · subst hz
   have h1:doS (playS l).1 [] = ([],25):=by rw [doS,if_pos rfl]
   have h2:doD (playS l).1 [] = (playS l).1:=by rw [doD,if_neg (by simp)]
   rw [h1,h2]
   refine ⟨ve,vs,J,hB,?_⟩
   simp only [ssH,storyV]
   refine goodI_fn nf isF61 mix (by simp [Tryz.f61]) ?_
   simp [Tryz.f61]
   refine c2 (c_when false 26) ?_
   simp
   refine c2 (c_when true 25) ?_
   simp
   refine cp (h1:=?g1) (c_first [whenE false 26,whenE true 25] (by simp)) (by simp; exact ⟨rfl,rfl⟩) ?_
   case g1=>simp
   have h25:firstE [whenE false 26,whenE true 25] = 25:=by simp [firstE,whenE]
   rw [h25]
   simp
   refine ForgetN.og (by simp) (by simp) (by simp) (by simp) (by simp)
 obtain ⟨w0,ws,hw⟩:∃ a r,spl 32 s = a :: r:=by
  have hpos:0 < (spl 32 s).length:=by rw [spl_cnt]; omega
  cases hq:spl 32 s with
  | nil=>rw [hq] at hpos; simp at hpos
  | cons a r=>exact ⟨a,r,rfl⟩
 have hwm:∀ p ∈ w0 :: ws,p.length ≤ s.length ∧ ∀ c ∈ p,c < 256:=by
  intro p hp
  rw [← hw] at hp
  exact ⟨(spl_mem hp).1,fun c hc=>hb c ((spl_mem hp).2 c hc)⟩
 have hwl:(w0 :: ws).length ≤ s.length + 1:=by
  have:=spl_len 32 s
  rw [hw] at this; exact this
 have hhd:(cutN 32 s).1 = w0:=by
  have h:=hw
  rw [spl_cut] at h
  injection h
 have hE:isEnter s = (formS w0).2.2.2:=by rw [isEnter,hhd]
 rw [hw] at hSp
 have hzb:(s == []) = false:=by simpa using hz
 have hf0:firstE [whenE false 26,whenE false 25] = 0:=by simp [firstE,whenE]
 have hlk:=kinds_look w0
 by_cases hen:(formS w0).2.2.2 = true
 · have hdo:doS (playS l).1 s = if enterE (playS l).1 s ≠ 0 then ([],enterE (playS l).1 s) else (tDone ++ itoaN ((playS l).1.evs.length + 1),0):=by rw [doS,if_neg hz,if_pos (by rw [hE]; exact hen)]
   have hdD:doD (playS l).1 s = if enterE (playS l).1 s = 0 then acceptD (playS l).1 (lineEv (playS l).1 s) else (playS l).1:=by
    rw [doD]
    by_cases q:enterE (playS l).1 s = 0
    · rw [if_pos ⟨hz,by rw [hE]; exact hen,q⟩,if_pos q]
    · rw [if_neg (by simp [q]),if_neg q]
   have hEv:(playS l).1.evs = l:=by
    have hp:playS l = playL l 0 ⟨[],[]⟩:=by rw [playS,if_neg (by omega)]
    rw [hp] at h0 ⊢
    rw [play_ok _ _ _ h0,play_evs]; simp
   obtain ⟨ve',vs',J',hB',g1⟩:=g_enter l ve vs J s hl he h0 hB hs hb
   rw [hdD]
   refine ⟨ve',vs',J',hB',?_⟩
   rw [hdo,hEv]
   rw [if_pos hen] at hlk
   generalize (if enterE (playS l).1 s = 0 then acceptD (playS l).1 (lineEv (playS l).1 s) else (playS l).1) = d' at *
   generalize enterE (playS l).1 s = X at *
   generalize (playS l).1 = d at *
   generalize kindF w0 = kf at *
   generalize formS w0 = fs at *
   simp only [ssH,storyV,kindV] at g1 hlk ⊢
   refine goodI_fn nf isF61 mix (by simp [Tryz.f61]) ?_
   simp [Tryz.f61,hsl,hz]
   refine c2 (c_when false 26) ?_
   simp
   refine c2 (c_when false 25) ?_ (h1:=by simp [hz])
   simp
   refine cp (h1:=?g1) (c_first [whenE false 26,whenE false 25] (by simp)) (by simp; exact ⟨rfl,rfl⟩) ?_
   case g1=>simp
   rw [hf0]
   simp
   refine c2 hSp ?_
   simp
   refine e0 c_kinds ?_
   simp [hlk]
   refine ⟨rfl,?_⟩
   refine cf g1 [0,1,2] ?_
   by_cases hX:X = 0
   · subst hX
     simp [setAll,sig]
     refine ForgetN.og (by simp) (by simp) (by simp) (by simp) (by simp)
   · simp [setAll,sig,hX]
     refine ForgetN.og (by simp) (by simp) (by simp) (by simp) (by simp)
 have h1:doS (playS l).1 s = askD (playS l).1 (w0 :: ws):=by rw [doS,if_neg hz,if_neg (by rw [hE]; exact hen),hw]
 have h2:doD (playS l).1 s = (playS l).1:=by rw [doD,if_neg (by rw [hE]; simp [hen])]
 rw [h1,h2]
 refine ⟨ve,vs,J,hB,?_⟩
 rw [if_neg hen] at hlk
 have hql:=quest_look w0
 have hq:True:=trivial
 by_cases r0:askN w0 = 0
 · have hn1:w0 ≠ kRow:=by rintro rfl; simp [askN] at r0
   have hn2:w0 ≠ kRows:=by rintro rfl; simp [askN] at r0; revert r0; decide
   have hn3:w0 ≠ kDiff:=by rintro rfl; revert r0; decide
   rw [if_neg hn1,if_neg hn2,if_neg hn3] at hql
   have hA:askD (playS l).1 (w0 :: ws) = ([],13):=by rw [askD]; exact if_pos r0
   rw [hA]
   simp only [ssH,storyV] at hq ⊢
   refine goodI_fn nf isF61 mix (by simp [Tryz.f61]) ?_
   simp [Tryz.f61,hsl,hz]
   refine c2 (c_when false 26) ?_
   simp
   refine c2 (c_when false 25) ?_ (h1:=by simp [hz])
   simp
   refine cp (h1:=?g1) (c_first [whenE false 26,whenE false 25] (by simp)) (by simp; exact ⟨rfl,rfl⟩) ?_
   case g1=>simp
   rw [hf0]
   simp
   refine c2 hSp ?_
   simp
   refine e0 c_kinds ?_
   simp [hlk]
   refine ⟨rfl,?_⟩
   refine e0 c_questions ?_
   simp [hql]
   refine ⟨rfl,?_⟩
   refine ForgetN.og (by simp) (by simp) (by simp) (by simp) (by simp)
 have hwr:IntKind.i64.wrap 2 = 2:=by decide
 have hwz:IntKind.i64.wrap 1 = 1:=by decide
 have hsts:(playS l).1.sts.length ≤ 1000:=by have:=hB.sj; have:=hB.ev; omega
 have hnB:=now_B hB
 by_cases rrow:w0 = kRow
 · subst rrow
   have hql:lookupM questE (.str kRow) = some (some (.st 247 [.int .i64 1,.func 215 [] []])):=by rw [hql]; rfl
   rcases ws with _ | ⟨w1,_ | ⟨w2,r⟩⟩
   · have hA:askD (playS l).1 [kRow] = ([],25):=by rw [askD_cons,if_neg r0,if_pos (.inl (by decide))]
     rw [hA]
     simp only [ssH,storyV] at hq ⊢
     refine goodI_fn nf isF61 mix (by simp [Tryz.f61]) ?_
     simp [Tryz.f61,hsl,hz]
     refine c2 (c_when false 26) ?_
     simp
     refine c2 (c_when false 25) ?_ (h1:=by simp [hz])
     simp
     refine cp (h1:=?g1) (c_first [whenE false 26,whenE false 25] (by simp)) (by simp; exact ⟨rfl,rfl⟩) ?_
     case g1=>simp
     rw [hf0]
     simp
     refine c2 hSp ?_
     simp
     refine e0 c_kinds ?_
     simp [hlk]
     refine ⟨rfl,?_⟩
     refine e0 c_questions ?_
     simp [hql,hwr]
     refine ⟨rfl,?_⟩
     refine ForgetN.og (by simp) (by simp) (by simp) (by simp) (by simp)
   · have hw1:=hwm w1 (by simp)
     have hcs:=c_containsStr [w1] [] (by simp)
     by_cases hw0:w1 = []
     · subst hw0
       have hA:askD (playS l).1 [kRow,[]] = ([],25):=by rw [askD_cons,if_neg r0,if_pos (.inr rfl)]
       rw [hA]
       simp only [ssH,storyV] at hq ⊢
       refine goodI_fn nf isF61 mix (by simp [Tryz.f61]) ?_
       simp [Tryz.f61,hsl,hz]
       refine c2 (c_when false 26) ?_
       simp
       refine c2 (c_when false 25) ?_ (h1:=by simp [hz])
       simp
       refine cp (h1:=?g1) (c_first [whenE false 26,whenE false 25] (by simp)) (by simp; exact ⟨rfl,rfl⟩) ?_
       case g1=>simp
       rw [hf0]
       simp
       refine c2 hSp ?_
       simp
       refine e0 c_kinds ?_
       simp [hlk]
       refine ⟨rfl,?_⟩
       refine e0 c_questions ?_
       simp [hql,hwr]
       refine ⟨rfl,?_⟩
       simp at hcs
       refine c2 hcs ?_
       simp
       refine ForgetN.og (by simp) (by simp) (by simp) (by simp) (by simp)
     have hg:=g_row (playS l).1 ve vs J w1 hsts hnB (now_K (playS_K l))
     have hA:askD (playS l).1 [kRow,w1] = if atK (playS l).1.now w1 < 0 then ([],10) else (noneT (valsT (((playS l).1.now[(atK (playS l).1.now w1).toNat]?.map (·.vals)).getD [])),0):=by
      rw [askD_cons,if_neg r0,if_neg (by simp [hw0]; decide),if_pos rfl]; rfl
     rw [hA]
     generalize (playS l).1 = d at *
     generalize valsT ((d.now[(atK d.now w1).toNat]?.map (·.vals)).getD []) = V at *
     have hw0':¬ [] = w1:=fun h=>hw0 h.symm
     simp only [ssH,storyV] at hg ⊢
     refine goodI_fn nf isF61 mix (by simp [Tryz.f61]) ?_
     simp [Tryz.f61,hsl,hz]
     refine c2 (c_when false 26) ?_
     simp
     refine c2 (c_when false 25) ?_ (h1:=by simp [hz])
     simp
     refine cp (h1:=?g1) (c_first [whenE false 26,whenE false 25] (by simp)) (by simp; exact ⟨rfl,rfl⟩) ?_
     case g1=>simp
     rw [hf0]
     simp
     refine c2 hSp ?_
     simp
     refine e0 c_kinds ?_
     simp [hlk]
     refine ⟨rfl,?_⟩
     refine e0 c_questions ?_
     simp [hql,hwr]
     refine ⟨rfl,?_⟩
     simp [hw0'] at hcs
     refine c2 hcs ?_
     simp
     refine ef hg [0,1,2] ?_
     by_cases hat:atK d.now w1 < 0
     · simp [setAll,sig,hat]
       refine ForgetN.og (by simp) (by simp) (by simp) (by simp) (by simp)
     · by_cases hV:V = []
       · simp [setAll,sig,hat,hV,noneT,tNone]
         refine ForgetN.og (by simp) (by simp) (by simp) (by simp) (by simp)
       · simp [setAll,sig,hat,hV,noneT]
         refine ForgetN.og (by simp) (by simp) (by simp) (by simp) (by simp)
   · have hA:askD (playS l).1 (kRow :: w1 :: w2 :: r) = ([],25):=by rw [askD_cons,if_neg r0,if_pos (.inl (by rw [show askN kRow = 2 from rfl]; simp))]
     have hn3:¬ (r.length:Int) + 1 + 1 + 1 = 2:=by omega
     rw [hA]
     simp only [ssH,storyV] at hq ⊢
     refine goodI_fn nf isF61 mix (by simp [Tryz.f61]) ?_
     simp [Tryz.f61,hsl,hz]
     refine c2 (c_when false 26) ?_
     simp
     refine c2 (c_when false 25) ?_ (h1:=by simp [hz])
     simp
     refine cp (h1:=?g1) (c_first [whenE false 26,whenE false 25] (by simp)) (by simp; exact ⟨rfl,rfl⟩) ?_
     case g1=>simp
     rw [hf0]
     simp
     refine c2 hSp ?_
     simp
     refine e0 c_kinds ?_
     simp [hlk]
     refine ⟨rfl,?_⟩
     refine e0 c_questions ?_
     simp [hql,hwr,hn3]
     refine ⟨rfl,?_⟩
     refine ForgetN.og (by simp) (by simp) (by simp) (by simp) (by simp)
 by_cases rdiff:w0 = kDiff
 · subst rdiff
   have hql:lookupM questE (.str kDiff) = some (some (.st 247 [.int .i64 1,.func 217 [] []])):=by rw [hql]; rfl
   rcases ws with _ | ⟨w1,_ | ⟨w2,r⟩⟩
   · have hA:askD (playS l).1 [kDiff] = ([],25):=by rw [askD_cons,if_neg r0,if_pos (.inl (by decide))]
     rw [hA]
     simp only [ssH,storyV] at hq ⊢
     refine goodI_fn nf isF61 mix (by simp [Tryz.f61]) ?_
     simp [Tryz.f61,hsl,hz]
     refine c2 (c_when false 26) ?_
     simp
     refine c2 (c_when false 25) ?_ (h1:=by simp [hz])
     simp
     refine cp (h1:=?g1) (c_first [whenE false 26,whenE false 25] (by simp)) (by simp; exact ⟨rfl,rfl⟩) ?_
     case g1=>simp
     rw [hf0]
     simp
     refine c2 hSp ?_
     simp
     refine e0 c_kinds ?_
     simp [hlk]
     refine ⟨rfl,?_⟩
     refine e0 c_questions ?_
     simp [hql,hwr]
     refine ⟨rfl,?_⟩
     refine ForgetN.og (by simp) (by simp) (by simp) (by simp) (by simp)
   · have hw1:=hwm w1 (by simp)
     have hcs:=c_containsStr [w1] [] (by simp)
     by_cases hw0:w1 = []
     · subst hw0
       have hA:askD (playS l).1 [kDiff,[]] = ([],25):=by rw [askD_cons,if_neg r0,if_pos (.inr rfl)]
       rw [hA]
       simp only [ssH,storyV] at hq ⊢
       refine goodI_fn nf isF61 mix (by simp [Tryz.f61]) ?_
       simp [Tryz.f61,hsl,hz]
       refine c2 (c_when false 26) ?_
       simp
       refine c2 (c_when false 25) ?_ (h1:=by simp [hz])
       simp
       refine cp (h1:=?g1) (c_first [whenE false 26,whenE false 25] (by simp)) (by simp; exact ⟨rfl,rfl⟩) ?_
       case g1=>simp
       rw [hf0]
       simp
       refine c2 hSp ?_
       simp
       refine e0 c_kinds ?_
       simp [hlk]
       refine ⟨rfl,?_⟩
       refine e0 c_questions ?_
       simp [hql,hwr]
       refine ⟨rfl,?_⟩
       simp at hcs
       refine c2 hcs ?_
       simp
       refine ForgetN.og (by simp) (by simp) (by simp) (by simp) (by simp)
     have hg:=g_diff l ve vs J w1 (by omega) he h0 hB (by omega) hw1.2
     have hA:askD (playS l).1 [kDiff,w1] = (if (diffV (playS l).1 w1).2 = 0 then noneT (diffV (playS l).1 w1).1 else [],(diffV (playS l).1 w1).2):=by
      rw [askD_cons,if_neg r0,if_neg (by simp [hw0]; decide),if_neg (by decide),if_neg (by decide),diffV]
      show (if (intR w1).2 = false then _ else if _ < (intR w1).1 then _ else _) = _
      by_cases h1:(intR w1).2 = false
      · simp only [h1,if_true]; rfl
      · simp only [h1,if_false]
        by_cases h2:((playS l).1.evs.length:Int) < (intR w1).1
        · simp only [h2,if_true]; rfl
        · simp only [h2,if_false,if_true]; rfl
     have hz0:(diffV (playS l).1 w1).2 ≠ 0 → (diffV (playS l).1 w1).1 = []:=by
      rw [diffV]; split
      · simp
      · split <;> simp
     rw [hA]
     generalize diffV (playS l).1 w1 = V at *
     obtain ⟨V,no⟩:=V
     dsimp only at *
     generalize (playS l).1 = d at *
     have hw0':¬ [] = w1:=fun h=>hw0 h.symm
     simp only [ssH,storyV] at hg ⊢
     refine goodI_fn nf isF61 mix (by simp [Tryz.f61]) ?_
     simp [Tryz.f61,hsl,hz]
     refine c2 (c_when false 26) ?_
     simp
     refine c2 (c_when false 25) ?_ (h1:=by simp [hz])
     simp
     refine cp (h1:=?g1) (c_first [whenE false 26,whenE false 25] (by simp)) (by simp; exact ⟨rfl,rfl⟩) ?_
     case g1=>simp
     rw [hf0]
     simp
     refine c2 hSp ?_
     simp
     refine e0 c_kinds ?_
     simp [hlk]
     refine ⟨rfl,?_⟩
     refine e0 c_questions ?_
     simp [hql,hwr]
     refine ⟨rfl,?_⟩
     simp [hw0'] at hcs
     refine c2 hcs ?_
     simp
     refine ef hg [0,1,2] ?_
     by_cases hat:no = 0
     · subst hat
       by_cases hV:V = []
       · simp [setAll,sig,hV,noneT,tNone]
         refine ForgetN.og (by simp) (by simp) (by simp) (by simp) (by simp)
       · simp [setAll,sig,hV,noneT]
         refine ForgetN.og (by simp) (by simp) (by simp) (by simp) (by simp)
     · simp [setAll,sig,hat]
       refine ForgetN.og (by simp) (by simp) (by simp) (by simp) (by simp)
   · have hA:askD (playS l).1 (kDiff :: w1 :: w2 :: r) = ([],25):=by rw [askD_cons,if_neg r0,if_pos (.inl (by rw [show askN kDiff = 2 from by decide]; simp))]
     have hn3:¬ (r.length:Int) + 1 + 1 + 1 = 2:=by omega
     rw [hA]
     simp only [ssH,storyV] at hq ⊢
     refine goodI_fn nf isF61 mix (by simp [Tryz.f61]) ?_
     simp [Tryz.f61,hsl,hz]
     refine c2 (c_when false 26) ?_
     simp
     refine c2 (c_when false 25) ?_ (h1:=by simp [hz])
     simp
     refine cp (h1:=?g1) (c_first [whenE false 26,whenE false 25] (by simp)) (by simp; exact ⟨rfl,rfl⟩) ?_
     case g1=>simp
     rw [hf0]
     simp
     refine c2 hSp ?_
     simp
     refine e0 c_kinds ?_
     simp [hlk]
     refine ⟨rfl,?_⟩
     refine e0 c_questions ?_
     simp [hql,hwr,hn3]
     refine ⟨rfl,?_⟩
     refine ForgetN.og (by simp) (by simp) (by simp) (by simp) (by simp)
 have rrows:w0 = kRows:=by
  by_cases h:w0 = kRows
  · exact h
  · exfalso; apply r0; rw [askN,if_neg rrow,if_neg h,if_neg rdiff]
 subst rrows
 have hql:lookupM questE (.str kRows) = some (some (.st 247 [.int .i64 0,.func 216 [] []])):=by rw [hql]; rfl
 rcases ws with _ | ⟨w1,r⟩
 · have hcs:=c_containsStr [] [] (by simp)
   have hg:=g_keys (playS l).1 ve vs J (.seq []) hsts hnB.1 (now_K (playS_K l))
   have hA:askD (playS l).1 [kRows] = (noneT (joinN [32] ((playS l).1.now.map (·.key))),0):=by
    rw [askD_cons,if_neg r0,if_neg (by decide),if_neg (by decide),if_pos rfl]
   rw [hA]
   generalize (playS l).1 = d at *
   generalize joinN [32] (d.now.map (·.key)) = V at *
   simp only [ssH,storyV] at hg ⊢
   refine goodI_fn nf isF61 mix (by simp [Tryz.f61]) ?_
   simp [Tryz.f61,hsl,hz]
   refine c2 (c_when false 26) ?_
   simp
   refine c2 (c_when false 25) ?_ (h1:=by simp [hz])
   simp
   refine cp (h1:=?g1) (c_first [whenE false 26,whenE false 25] (by simp)) (by simp; exact ⟨rfl,rfl⟩) ?_
   case g1=>simp
   rw [hf0]
   simp
   refine c2 hSp ?_
   simp
   refine e0 c_kinds ?_
   simp [hlk]
   refine ⟨rfl,?_⟩
   refine e0 c_questions ?_
   simp [hql,hwz]
   refine ⟨rfl,?_⟩
   simp at hcs
   refine c2 hcs ?_
   simp
   refine ef hg [0,1,2] ?_
   by_cases hV:V = []
   · simp [setAll,sig,hV,noneT,tNone]
     refine ForgetN.og (by simp) (by simp) (by simp) (by simp) (by simp)
   · simp [setAll,sig,hV,noneT]
     refine ForgetN.og (by simp) (by simp) (by simp) (by simp) (by simp)
 · have hA:askD (playS l).1 (kRows :: w1 :: r) = ([],25):=by rw [askD_cons,if_neg r0,if_pos (.inl (by simp [askN,kRows,kRow]))]
   have hn3:¬ (r.length:Int) + 1 + 1 = 1:=by omega
   rw [hA]
   simp only [ssH,storyV] at hq ⊢
   refine goodI_fn nf isF61 mix (by simp [Tryz.f61]) ?_
   simp [Tryz.f61,hsl,hz]
   refine c2 (c_when false 26) ?_
   simp
   refine c2 (c_when false 25) ?_ (h1:=by simp [hz])
   simp
   refine cp (h1:=?g1) (c_first [whenE false 26,whenE false 25] (by simp)) (by simp; exact ⟨rfl,rfl⟩) ?_
   case g1=>simp
   rw [hf0]
   simp
   refine c2 hSp ?_
   simp
   refine e0 c_kinds ?_
   simp [hlk]
   refine ⟨rfl,?_⟩
   refine e0 c_questions ?_
   simp [hql,hwz,hn3]
   refine ⟨rfl,?_⟩
   refine ForgetN.og (by simp) (by simp) (by simp) (by simp) (by simp)
end Go.Abs
namespace Go.Abs
open Go.Proofs
set_option maxHeartbeats 4000000
set_option maxRecDepth 100000
theorem joinN_nil:∀ l:List (List Nat),joinN [] l = l.flatten
 | []=>rfl
 | [x]=>by simp [joinN]
 | x :: y :: r=>by rw [joinN,joinN_nil (y :: r)]; simp; simp
theorem logT_flat (l:List EventD):(l.map recT).flatten = logT l:=by simp [logT,List.flatMap]
theorem logT_le {l:List EventD} (h:∀ e ∈ l,EvT e):(logT l).length ≤ l.length * 5008:=by
 induction l with
 | nil=>simp [logT]
 | cons e l ih =>
  have h1:=(h e (by simp)).bl
  have h2:=ih fun x hx=>h x (by simp [hx])
  have h3:(recT e).length = (bodyT e).length + 8:=by simp [recT,recN,sumT_len]; omega
  simp only [logT,List.flatMap_cons,List.length_append,List.length_cons] at h2 ⊢
  omega
theorem g_events (d : StoryD) (ve vs : Nat) (J : List PV) (hl : d.evs.length ≤ 1000) (he : ∀ e ∈ d.evs, evB e) :
    GoodI Tryz.prog 62 (ssH d ve vs J) [.ptr 0 []] (ssH d ve vs J) (.p (.seq (d.evs.map eEvent))):=by
 have hM:=g_mapEE d.evs ve (by omega) he
 simp only [ssH,storyV]
 refine goodI_fn nf isF62 mix (by simp [Tryz.f62]) ?_
 simp [Tryz.f62]
 refine cf hM [1] ?_
 simp [setAll,sig]
 refine ForgetN.og (by simp) (by simp) (by simp) (by simp) (by simp)
theorem g_log (d : StoryD) (ve vs : Nat) (J : List PV) (hl : d.evs.length ≤ 1000) (he : ∀ e ∈ d.evs, EvT e) :
    GoodI Tryz.prog 63 (ssH d ve vs J) [.ptr 0 []] (ssH d ve vs J) (.p (.str (logT d.evs))):=by
 have hM:=g_mapES d.evs ve (by omega) he
 have hlog:=logT_le he
 have hJ:=c_join (d.evs.map recT) [] (by simp; omega) (by rw [joinN_nil,logT_flat]; omega)
 rw [joinN_nil,logT_flat] at hJ
 simp only [ssH,storyV]
 refine goodI_fn nf isF63 mix (by simp [Tryz.f63]) ?_
 simp [Tryz.f63]
 refine cf hM [1] ?_
 simp [setAll,sig]
 simp at hJ
 refine c2 hJ ?_
 simp
 refine ForgetN.og (by simp) (by simp) (by simp) (by simp) (by simp)
def loadQ (s:List Nat) (v:AV) (H':Heap):Prop :=
 if (recoverS s).2.2 ≠ 0 ∧ (recoverS s).2.2 ≠ 28 then H' = [] ∧ v = .p (.tup [.nptr,.int .i64 (recoverS s).2.2])
 else if (playS (recoverS s).1).2.2 ≠ 0 then H' = [] ∧ v = .p (.tup [.nptr,.int .i64 (playS (recoverS s).1).2.2])
 else ∃ ve vs J,StoryB (playS (recoverS s).1).1 J ∧ v = .tup [.ptr 3 [],.p (.int .i64 0)] ∧
  H' = [.hole,.arr .grow ve 5 ((playS (recoverS s).1).1.evs.map (AV.p ∘ eEvent)),.arr .grow vs 1 ((playS (recoverS s).1).1.sts.map (AV.p ∘ eRows) ++ J.map AV.p),
   .box false (.st 239 [.st 237 [.sl 1 ve 5 0 (playS (recoverS s).1).1.evs.length,.sl 2 vs 1 0 (playS (recoverS s).1).1.sts.length]])]
theorem g_load (s:List Nat) (hs:s.length ≤ 1000000) (hb:∀ c ∈ s,c < 256) (he:∀ e ∈ (recoverS s).1,evB e):∃ v H',loadQ s v H' ∧ GoodI Tryz.prog 59 [] [.p (.str s)] H' v:=by
 have hR:=c_recover s hb (by omega)
 have hRB:=recover_B hs hb
 obtain ⟨v,H',hq,hg⟩:=g_replay (recoverS s).1 (by omega) he
 by_cases hno:(recoverS s).2.2 ≠ 0 ∧ (recoverS s).2.2 ≠ 28
 · refine ⟨_,_,by rw [loadQ,if_pos hno]; exact ⟨rfl,rfl⟩,?_⟩
   clear hq hg
   generalize recoverS s = R at *
   obtain ⟨l,pl,no⟩:=R
   dsimp only at *
   refine goodI_fn nf isF59 mix (by simp [Tryz.f59]) ?_
   obtain ⟨n1,n2⟩:=hno
   simp [Tryz.f59]
   refine c1 hR ?_
   simp [n1,n2]
 have hn2:(recoverS s).2.2 = 0 ∨ (recoverS s).2.2 = 28:=by omega
 simp only [replayQ] at hq
 by_cases hz:(playS (recoverS s).1).2.2 = 0
 case neg =>
  refine ⟨_,_,by rw [loadQ,if_neg hno,if_pos hz]; exact ⟨rfl,rfl⟩,?_⟩
  rw [if_neg hz] at hq
  obtain ⟨rfl,rfl⟩:=hq
  generalize playS (recoverS s).1 = Q at *
  generalize recoverS s = R at *
  obtain ⟨l,pl,no⟩:=R
  obtain ⟨d,pl2,err⟩:=Q
  dsimp only at *
  refine goodI_fn nf isF59 mix (by simp [Tryz.f59]) ?_
  simp [Tryz.f59]
  refine c1 hR ?_
  rcases hn2 with rfl | rfl
  all_goals
   simp
   refine cn1 hg ?_
   simp [hz]
 rw [if_pos hz] at hq
 obtain ⟨ve,vs,J,hB,rfl,rfl⟩:=hq
 refine ⟨_,_,by rw [loadQ,if_neg hno,if_neg (by simpa using hz)]; exact ⟨ve,vs,J,hB,rfl,rfl⟩,?_⟩
 generalize playS (recoverS s).1 = Q at *
 generalize recoverS s = R at *
 obtain ⟨l,pl,no⟩:=R
 obtain ⟨d,pl2,err⟩:=Q
 dsimp only at *
 simp only [stH,storyV] at hg
 refine goodI_fn nf isF59 mix (by simp [Tryz.f59]) ?_
 simp [Tryz.f59]
 refine c1 hR ?_
 rcases hn2 with rfl | rfl
 all_goals
  simp
  refine cn1 hg ?_
  simp
  refine ForgetN.og (by simp) (by simp) (by simp) (by simp) (by simp)
end Go.Abs
namespace Go.Abs
open Go.Proofs
set_option maxHeartbeats 4000000
set_option maxRecDepth 100000
structure LiveL (l:List EventD) (n:Nat):Prop where
 len:l.length ≤ n
 eb:∀ e ∈ l,evB e
 et:∀ e ∈ l,EvT e
 ok:(playS l).2.2 = 0
theorem LiveL.evs {l:List EventD} {n:Nat} (h:LiveL l n) (hn:n ≤ 1000):(playS l).1.evs = l:=by
 have h0:=h.ok
 have hp:playS l = playL l 0 ⟨[],[]⟩:=by rw [playS,if_neg (by have:=h.len; omega)]
 rw [hp] at h0 ⊢
 rw [play_ok _ _ _ h0,play_evs]; simp
theorem parsed_W {s:List Nat} {n:Int} (hp:(parsedS s).2 = true) (hc:chkEvent ((parsedS s).1.at n) = 0) (hb:∀ c ∈ s,c < 256):∀ c ∈ ((parsedS s).1.at n).text,c < 256:=by
 intro c hc'
 have h1:=text_body hc c hc'
 have hl:lineT ((parsedS s).1.at n) = s:=parsed_inv hp
 obtain ⟨_,k1,k2,_⟩:=evK hc
 obtain ⟨m,hm⟩:∃ m:Nat,((parsedS s).1.at n).num = m:=⟨((parsedS s).1.at n).num.toNat,by omega⟩
 rw [bodyT,hl,hm] at h1
 rcases List.mem_append.1 h1 with h | h
 · exact (itoa_B (n:=m) (by omega)).2 c h
 · rcases List.mem_cons.1 h with rfl | h
   · omega
   · exact hb c h
theorem live_next {l : List EventD} {n : Nat} {s : List Nat} (h : LiveL l n) (hn : n < 1000) (hs : s.length ≤ 1000) (hb : ∀ c ∈ s, c < 256) :
    LiveL (doD (playS l).1 s).evs (n + 1) ∧ (playS (doD (playS l).1 s).evs).1 = doD (playS l).1 s:=by
 have hev:=h.evs (by omega)
 have hlen:=h.len
 by_cases hd:s ≠ [] ∧ isEnter s = true ∧ enterE (playS l).1 s = 0
 · have hD:doD (playS l).1 s = acceptD (playS l).1 (lineEv (playS l).1 s):=by rw [doD,if_pos hd]
   have hE:=hd.2.2
   rw [enterE,first3z] at hE
   obtain ⟨e1,e2,e3⟩:=hE
   have hp:(parsedS s).2 = true:=by
    cases hq:(parsedS s).2 with
    | true=>rfl
    | false=>rw [hq] at e1; simp [whenE] at e1
   have hlv:lineEv (playS l).1 s = (parsedS s).1.at ((playS l).1.evs.length + 1):=rfl
   have hP:=doD_play (by omega) h.ok e3
   have hevs:(doD (playS l).1 s).evs = l ++ [lineEv (playS l).1 s]:=by rw [hD]; show (playS l).1.evs ++ _ = _; rw [hev]
   rw [addE,first2z] at e3
   have hB:evB (lineEv (playS l).1 s):=by rw [hlv]; exact at_B (parsed_B (by omega) hb) _
   have hT:EvT (lineEv (playS l).1 s):=evT_of e3.1 (by rw [hlv] at e3 ⊢; exact parsed_W hp e3.1 hb)
   rw [hevs,hP,hD]
   refine ⟨⟨by simp; omega,?_,?_,by rw [hP]⟩,rfl⟩
   · intro e he
     rcases List.mem_append.1 he with he | he
     · exact h.eb e he
     · rw [List.mem_singleton.1 he]; exact hB
   · intro e he
     rcases List.mem_append.1 he with he | he
     · exact h.et e he
     · rw [List.mem_singleton.1 he]; exact hT
 · have hD:doD (playS l).1 s = (playS l).1:=by rw [doD,if_neg hd]
   rw [hD,hev]
   exact ⟨⟨by omega,h.eb,h.et,h.ok⟩,rfl⟩
end Go.Abs
namespace Go.Abs
open Go.Proofs
set_option maxHeartbeats 4000000
set_option maxRecDepth 100000
theorem body_len {e:EventD} (h:chkEvent e = 0):(bodyT e).length ≤ e.text.length + 60:=by
 obtain ⟨hK,n1,n2,tl⟩:=evK h
 obtain ⟨num,kind,names,vals,text⟩:=e
 dsimp only at *
 obtain ⟨m,rfl⟩:∃ m:Nat,num = m:=⟨num.toNat,by omega⟩
 have hm:=itoa_B (n:=m) (by omega)
 have hB:=body_sp ⟨(m:Int),kind,names,vals,text⟩
 dsimp only at hB
 have hTl:(spT (textW ⟨(m:Int),kind,names,vals,text⟩)).length ≤ text.length + 1:=by
  rw [textW]
  split
  · simp [spT]
  · simp
 have hNl:(spT names).length ≤ 25:=by
  have hN:names = [] ∨ ∃ k,names = [k] ∧ isName k = true:=by
   cases hK with
   | row k _ hn _ _ hi=>exact .inr ⟨k,hn,hi⟩
   | drop k _ hn _ _ hi=>exact .inr ⟨k,hn,hi⟩
   | move k n _ hn _ _ hi _=>exact .inr ⟨k,hn,hi⟩
   | undo _ hn _ _=>exact .inl hn
  rcases hN with rfl | ⟨k,rfl,hi⟩
  · simp
  · have:=name_len hi
    simp [spT]; omega
 have hVl:(spT (vals.map itoaN)).length ≤ 10:=by
  have hV:vals = [] ∨ ∃ n:Nat,vals = [(n:Int)] ∧ n < 10 ^ 9:=by
   cases hK with
   | row k _ hn hv _ hi=>exact .inl hv
   | drop k _ hn hv _ hi=>exact .inl hv
   | move k n _ hn hv _ hi hl=>exact .inr ⟨n,hv,hl⟩
   | undo _ hn hv _=>exact .inl hv
  rcases hV with rfl | ⟨n,rfl,hl⟩
  · simp
  · have:=itoa_B hl
    simp [spT]; omega
 have hk:kind ∈ [kAdd,kSet,kDrop,kMove,kUndo]:=by
  cases hK with
  | row k hk=>rcases hk with rfl | rfl <;> simp
  | drop k hk=>dsimp only at hk; subst hk; simp
  | move k n hk=>dsimp only at hk; subst hk; simp
  | undo hk=>dsimp only at hk; subst hk; simp
 have k1:=(kinds_B kind hk).1
 rw [hB]; simp only [List.length_append,List.length_cons]; omega
theorem c_strIndex (s:List Nat) (c:Nat):GoodC Tryz.prog 72 [.str s,.str [c]] (.int .i64 (idxB c s 0)):=by
 refine good_fn nf isF72 mix (by simp [Tryz.f72]) ?_
 simp [Tryz.f72]
 refine c2 (h166 s c) ?_
 simp
theorem idxB_app (c:Nat):∀ (a b:List Nat) (i:Nat),c ∉ a → idxB c (a ++ c :: b) i = ((i + a.length:Nat):Int)
 | [],b,i,_=>by simp [idxB]
 | x :: a,b,i,h=>by
  have h1:x ≠ c:=fun e=>h (by simp [e])
  have h2:c ∉ a:=fun e=>h (by simp [e])
  have h3:Nat.beq x c = false:=by
   cases hq:Nat.beq x c with
   | false=>rfl
   | true=>exact (h1 (Nat.eq_of_beq_eq_true hq)).elim
  rw [List.cons_append,idxB,h3,cond_false,idxB_app c a b (i + 1) h2,List.length_cons]
  congr 1; omega
theorem body_line {e:EventD} (h:chkEvent e = 0):idxB 32 (bodyT e) 0 = (itoaN e.num).length ∧ (bodyT e).drop ((itoaN e.num).length + 1) = lineT e ∧ (itoaN e.num).length + 1 ≤ (bodyT e).length:=by
 obtain ⟨_,k1,k2,_⟩:=evK h
 obtain ⟨m,hm⟩:∃ m:Nat,e.num = m:=⟨e.num.toNat,by omega⟩
 have h32:32 ∉ itoaN e.num:=by rw [hm]; exact itoa_32 (by omega)
 refine ⟨?_,?_,?_⟩
 · rw [bodyT,idxB_app 32 _ _ 0 h32]; simp
 · rw [bodyT,← List.drop_drop,List.drop_left]; rfl
 · rw [bodyT]; simp
theorem repN_rep (n:Nat):repN [97] n = List.replicate n 97:=by
 induction n with
 | zero=>rfl
 | succ n ih=>rw [repN,ih]; rfl
theorem play_pre {l:List EventD} (hl:l.length ≤ 1000) (h0:(playS l).2.2 = 0) (i:Nat):playS (l.take i) = ((l.take i).foldl acceptD ⟨[],[]⟩,0,0):=by
 have hp:playS l = playL l 0 ⟨[],[]⟩:=by rw [playS,if_neg (by omega)]
 have hp2:playS (l.take i) = playL (l.take i) 0 ⟨[],[]⟩:=by rw [playS,if_neg (by simp; omega)]
 rw [hp] at h0
 rw [hp2,play_take h0]
theorem play_Num {l:List EventD} (hl:l.length ≤ 1000) (h0:(playS l).2.2 = 0):Num 0 l:=by
 have hp:playS l = playL l 0 ⟨[],[]⟩:=by rw [playS,if_neg (by omega)]
 rw [hp] at h0
 exact play_num l 0 ⟨[],[]⟩ h0
theorem play_next {l : List EventD} (hl : l.length ≤ 1000) (h0 : (playS l).2.2 = 0) {i : Nat} (hi : i < l.length) :
    addE (playS (l.take i)).1 l[i] = 0 ∧ acceptD (playS (l.take i)).1 l[i] = (playS (l.take (i + 1))).1:=by
 have h1:=play_pre hl h0 i
 have h2:=play_pre hl h0 (i + 1)
 have hp:playS l = playL l 0 ⟨[],[]⟩:=by rw [playS,if_neg (by omega)]
 have ht:l.take (i + 1) = l.take i ++ [l[i]]:=List.take_succ_eq_append_getElem hi
 have hl2:l = l.take i ++ l[i] :: l.drop (i + 1):=by rw [← List.drop_eq_getElem_cons hi,List.take_append_drop]
 refine ⟨?_,by rw [h1,h2,ht,List.foldl_append]; rfl⟩
 have hp1:playS (l.take i) = playL (l.take i) 0 ⟨[],[]⟩:=by rw [playS,if_neg (by simp; omega)]
 rw [hp1] at h1 ⊢
 have hpl:playL l 0 ⟨[],[]⟩ = playL (l[i] :: l.drop (i + 1)) (0 + (l.take i).length) (playL (l.take i) 0 ⟨[],[]⟩).1:=by
  have:=play_app (l.take i) (l[i] :: l.drop (i + 1)) 0 ⟨[],[]⟩ (by rw [h1])
  rwa [← hl2] at this
 by_cases ha:addE (playL (l.take i) 0 ⟨[],[]⟩).1 l[i] = 0
 · exact ha
 · rw [hp,hpl,playL,if_pos ha] at h0
   exact (ha h0).elim
end Go.Abs
namespace Go.Abs
open Go.Proofs
set_option maxHeartbeats 4000000
set_option maxRecDepth 100000
theorem num_get:∀ {l:List EventD} {n i:Nat} (h:Num n l) (hi:i < l.length),l[i].num = n + i + 1 ∧ chkEvent l[i] = 0
 | e :: l,n,0,h,_=>⟨by simpa using h.2.1,h.1⟩
 | e :: l,n,i + 1,h,hi=>by
  have:=num_get (l:=l) (i:=i) h.2.2 (by simpa using hi)
  refine ⟨?_,this.2⟩
  rw [List.getElem_cons_succ,this.1]
  simp; omega
theorem logT_take_le (l:List EventD) (i:Nat):(logT (l.take i)).length ≤ (logT l).length:=by
 have:logT l = logT (l.take i) ++ logT (l.drop i):=by rw [logT,logT,logT,← List.flatMap_append,List.take_append_drop]
 rw [this]; simp
theorem append_next {l:List EventD} (hN:Num 0 l) (hs:(logT l).length ≤ 900000) {i:Nat} (hi:i < l.length):appendS (logT (l.take i)) l[i] = (logT (l.take (i + 1)),0):=by
 have ht:l.take (i + 1) = l.take i ++ [l[i]]:=List.take_succ_eq_append_getElem hi
 have hl:logT (l.take (i + 1)) = logT (l.take i) ++ recT l[i]:=by rw [ht,logT,logT,List.flatMap_append]; simp
 have hNt:Num 0 (l.take i):=by
  have:l = l.take i ++ l.drop i:=(List.take_append_drop i l).symm
  rw [this] at hN
  exact (Num.app.1 hN).1
 obtain ⟨n1,n2⟩:=num_get hN hi
 have h1:=logT_take_le l i
 have h2:=logT_take_le l (i + 1)
 have hr:=recover_log name_ok (by omega) hNt
 have hE:appendE (logT (l.take i)) l[i] = 0:=by
  rw [appendE,hr,first3z]
  refine ⟨rfl,n2,?_⟩
  rw [when_zero (by omega),n1,List.length_take]
  simp; omega
 rw [appendS,if_neg (by simp [hE]),if_neg (by rw [← hl]; omega),hl]
theorem logT_byte {l:List EventD} (h:∀ e ∈ l,EvT e):∀ c ∈ logT l,c < 256:=by
 intro c hc
 rw [logT,List.mem_flatMap] at hc
 obtain ⟨e,he,hc⟩:=hc
 rw [recT,recN] at hc
 simp only [List.mem_append,List.mem_cons,List.not_mem_nil,or_false] at hc
 have hd:∀ x ∈ sumT (bodyT e),x < 256:=by
  intro x hx
  have:=List.all_eq_true.1 (sumT_dig (bodyT e)) x hx
  simp only [isD,Bool.and_eq_true,decide_eq_true_eq] at this
  omega
 rcases hc with (hc | rfl | hc) | rfl
 · exact hd c hc
 · omega
 · exact (h e he).byt c hc
 · omega
theorem do_next {l : List EventD} (hl : l.length < 1000) (h0 : (playS l).2.2 = 0) {j : Nat} (hj : j < l.length) :
    ∃ t,doS (playS (l.take j)).1 (lineT l[j]) = (t,0) ∧ doD (playS (l.take j)).1 (lineT l[j]) = (playS (l.take (j + 1))).1:=by
 obtain ⟨h1,h2⟩:=play_next (by omega) h0 hj
 have hp:=play_pre (by omega) h0 j
 have hev:(playS (l.take j)).1.evs = l.take j:=by rw [hp,play_evs]; rfl
 obtain ⟨k1,k2,k3,k4⟩:=do_line name_ok h1 (by rw [hev,List.length_take]; omega)
 refine ⟨_,by rw [doS,if_neg k2,if_pos k1,if_neg (by rw [k3]; simp)],?_⟩
 rw [doD,if_pos ⟨k2,k1,k3⟩,k4,h2]
theorem heard_text {l:List EventD} (h:heardS l = true):∀ e ∈ l,e.text.length ≤ 300:=by
 intro e he
 rw [heardS,Bool.and_eq_true,List.all_eq_true] at h
 have:=h.1 e he
 rw [heardE] at this
 simp only [Bool.and_eq_true,decide_eq_true_eq] at this
 omega
def kDiff0:List Nat:=[100,105,102,102,32,48]
theorem do_rows (d:StoryD):doD d kRows = d ∧ ∃ t,doS d kRows = (t,0):=by
 have h1:isEnter kRows = false:=by decide
 have hs:spl 32 kRows = [kRows]:=by decide
 refine ⟨by rw [doD,if_neg (by simp [h1])],?_⟩
 rw [doS,if_neg (by decide),if_neg (by simp [h1]),hs,askD_cons,if_neg (by decide),if_neg (by decide),if_neg (by decide),if_pos rfl]
 exact ⟨_,rfl⟩
theorem do_diff (d:StoryD):doD d kDiff0 = d ∧ doS d kDiff0 = (noneT (List.replicate d.now.length 97),0):=by
 have h1:isEnter kDiff0 = false:=by decide
 have hs:spl 32 kDiff0 = [kDiff,[48]]:=by decide
 have hi:intR [48] = (0,true):=by decide
 refine ⟨by rw [doD,if_neg (by simp [h1])],?_⟩
 have hpl:playS [] = (⟨[],[]⟩,0,0):=by rw [playS,if_neg (by simp)]; rfl
 have hgl:[kDiff,[48]].getLastD [] = [48]:=rfl
 rw [doS,if_neg (by decide),if_neg (by simp [h1]),hs,askD_cons,if_neg (by decide),if_neg (by decide),if_neg (by decide),if_neg (by decide),hgl,hi]
 rw [if_neg (by simp),if_neg (by simp)]
 simp only [Int.toNat_zero,List.take_zero,hpl]
 rw [show StoryD.now ⟨[],[]⟩ = [] from rfl,letters_nil]
theorem do_undo {d:StoryD} (hl:d.evs.length < 1000):∃ t,doS d kUndo = (t,if d.sts = [] then 12 else 0) ∧ doD d kUndo = if d.sts = [] then d else acceptD d ⟨d.evs.length + 1,kUndo,[],[],[]⟩:=by
 obtain ⟨h1,h2,h3⟩:=undo_do name_ok hl
 by_cases hs:d.sts = []
 · rw [if_pos hs] at h2 ⊢
   rw [if_pos hs]
   exact ⟨_,by rw [doS,if_neg (by decide),if_pos h1,if_pos (by rw [h2]; decide),h2],by rw [doD,if_neg (by rw [h2]; simp)]⟩
 · rw [if_neg hs] at h2 ⊢
   rw [if_neg hs]
   exact ⟨_,by rw [doS,if_neg (by decide),if_pos h1,if_neg (by rw [h2]; simp)],by rw [doD,if_pos ⟨by decide,h1,h2⟩,h3]⟩
theorem log_change {l : List EventD} (hN : Num 0 l) (hT : ∀ e ∈ l, EvT e) (ht : ∀ e ∈ l, e.text.length ≤ 300) (hs : (logT l).length ≤ 900000) {k c : Nat} (hk : k < (logT l).length) (h10 : (logT l)[k] ≠ 10) (hc : (logT l)[k] ≠ c) (c0 : c ≠ 10) (c1 : c < 256) :
    (recoverS ((logT l).set k c)).2.2 ≠ 0 ∧ (recoverS ((logT l).set k c)).2.1 ≠ (logT l).length:=by
 obtain ⟨u,u1,u2,u3,u4⟩:=recover_gen ((logT l).set k c) (by simp; omega)
 have key:u ≠ []:=by
  rintro rfl
  rw [List.append_nil] at u3
  refine hc (log_chg l (recoverS ((logT l).set k c)).1 k c (fun e he=>⟨rec_10 name_ok (hN.mem e he),?_,(hT e he).byt⟩) (fun e he=>rec_10 name_ok (u1.mem e he)) hk h10 c0 c1 u3.symm).symm
  have:=body_len (hN.mem e he)
  have:=ht e he
  omega
 refine ⟨fun h=>key (u4 h),fun h=>key ?_⟩
 have hl:=congrArg List.length u3
 rw [List.length_append,← u2,h,List.length_set] at hl
 exact List.length_eq_zero_iff.1 (by omega)
theorem log_lack {l : List EventD} (hN : Num 0 l) (hs : (logT l).length ≤ 400000) {r : Nat} (hr : r + 1 < l.length) :
    recoverS ((logT l).take (logT (l.take r)).length ++ (logT l).drop (logT (l.take (r + 1))).length) = (l.take r,(logT (l.take r)).length,11):=by
 have cutT:∀ i,(logT l).take (logT (l.take i)).length = logT (l.take i) ∧ (logT l).drop (logT (l.take i)).length = logT (l.drop i):=fun i=>by
  have:logT l = logT (l.take i) ++ logT (l.drop i):=by rw [logT,logT,logT,← List.flatMap_append,List.take_append_drop]
  rw [this,List.take_left,List.drop_left]
  exact ⟨rfl,rfl⟩
 rw [(cutT r).1,(cutT (r + 1)).2]
 have h1:l.drop r = l[r] :: l.drop (r + 1):=List.drop_eq_getElem_cons (by omega)
 have h2:l.drop (r + 1) = l[r + 1] :: l.drop (r + 1 + 1):=List.drop_eq_getElem_cons hr
 have hl:l = l.take r ++ l[r] :: l[r + 1] :: l.drop (r + 1 + 1):=by rw [← h2,← h1,List.take_append_drop]
 have h3:(logT (l.take r) ++ logT (l.drop (r + 1))).length ≤ 1000000:=by
  have e1:=logT_take_le l r
  have e2:=congrArg List.length (cutT (r + 1)).2
  rw [List.length_drop] at e2
  rw [List.length_append]; omega
 rw [h2] at h3 ⊢
 exact log_less name_ok h3 (x:=l[r]) (by rw [← hl]; exact hN)
theorem undo_sts {d:StoryD} {n:Int}:(acceptD d ⟨n,kUndo,[],[],[]⟩).sts = d.sts.dropLast:=by simp [acceptD]
def undoH (m:List EventD) (d:StoryD) (ve vs:Nat) (J:List PV):Heap :=
 [.hole,.hole,.hole,.arr .grow ve 5 (m.map (AV.p ∘ eEvent)),.arr .grow vs 1 (d.sts.map (AV.p ∘ eRows) ++ J.map AV.p),.box false (.st 239 [.st 237 [.sl 3 ve 5 0 m.length,.sl 4 vs 1 0 d.sts.length]])]
def tornH (B:PV) (Z:List AV) (n:Nat) (m:List EventD) (d:StoryD) (ve vs:Nat) (J:List PV) (l:List EventD) (d2:StoryD) (ve2 vs2:Nat) (J2:List PV):Heap :=
 [.box false (.p B),.arr .grow n 1 Z,.hole,.arr .grow ve 5 (m.map (AV.p ∘ eEvent)),.arr .grow vs 1 (d.sts.map (AV.p ∘ eRows) ++ J.map AV.p),.box false (.st 239 [.st 237 [.sl 3 ve 5 0 m.length,.sl 4 vs 1 0 d.sts.length]]),
  .hole,.arr .grow ve2 5 (l.map (AV.p ∘ eEvent)),.arr .grow vs2 1 (d2.sts.map (AV.p ∘ eRows) ++ J2.map AV.p),.box false (.st 239 [.st 237 [.sl 7 ve2 5 0 l.length,.sl 8 vs2 1 0 d2.sts.length]])]
def arr3 (a b c:Int):PV:=.st 122 [.int .u16 a,.int .u16 b,.int .u16 c]
theorem c_torn (hw : GoodC Tryz.prog 17 [] (.bool true)) (l : List EventD) (a0 a1 a2 : Nat) (hl : l.length ≤ 1048576) (hW : ∀ e ∈ l, evW e) (h0 : a0 < 65536) (h1 : a1 < 65536) (h2 : a2 < 65536) :
    GoodC Tryz.prog 11 [.seq (l.map eEvent),arr3 a0 a1 a2] (.bool true):=by
 refine good_fn nf isF11 mix (by simp [Tryz.f11]) ?_
 have hH:=c_heard l hl hW
 by_cases s1:heardS l = true
 case neg =>
  simp [Tryz.f11,arr3]
  refine c1 hH ?_
  simp [s1]
  refine c0 hw ?_
  simp
 rw [s1] at hH
 by_cases s2:20 < l.length
 · have s2':(20:Int) < l.length:=by omega
   simp [Tryz.f11,arr3]
   refine c1 hH ?_
   simp [s2']
   refine c0 hw ?_
   simp
 have s2':¬ (20:Int) < l.length:=by omega
 have hE:=heardS_B s1 hW
 have hRp:=c_ReplayR l (by omega) hE
 have hrS:replayS l = if (playS l).2.2 ≠ 0 then ([],(playS l).2.1,(playS l).2.2) else ((playS l).1.now,0,0):=rfl
 by_cases s3:(playS l).2.2 = 0
 case neg =>
  rw [if_pos s3] at hrS
  rw [hrS] at hRp
  generalize playS l = Q at *
  obtain ⟨d,pl2,err⟩:=Q
  dsimp only at *
  simp [Tryz.f11,arr3]
  refine c1 hH ?_
  simp [s2']
  refine c1 hRp ?_
  simp [s3]
  refine c0 hw ?_
  simp
 rw [if_neg (by simpa using s3)] at hrS
 rw [hrS] at hRp
 by_cases s4:l = []
 · subst s4
   simp [Tryz.f11,arr3]
   simp at hH hRp
   refine c1 hH ?_
   simp
   refine c1 hRp ?_
   simp
   refine c0 hw ?_
   simp
 have hpos:0 < l.length:=List.length_pos_iff.2 s4
 simp [Tryz.f11,arr3]
 refine c1 hH ?_
 simp [s2']
 refine c1 hRp ?_
 simp [s4]
 have hNm:=play_Num (by omega) s3
 have hEvT:∀ e ∈ l,EvT e:=fun e he=>evT_of (hNm.mem e he) (hW e he)
 have hlogle:=logT_le hEvT
 have hbyte:∀ i,∀ c ∈ logT (l.take i),c < 256:=fun i=>logT_byte fun e he=>hEvT e (List.mem_of_mem_take he)
 refine lp (α := Nat) (fun i => ⟨[(81, .p (.int .i64 i)), (80, .p (.int .i64 l.length)), (79, .p (.seq (l.map eEvent))), (9, .sl 1 i 1 0 i), (8, .p (.str (logT (l.take i)))), (3, .ptr 0 []), (0, .p (.seq (l.map eEvent)))],
     [.box false (.p (.st 122 [.int .u16 a0,.int .u16 a1,.int .u16 a2])),.arr .grow i 1 (((endsL 0 l).map fun n:Nat=>AV.p (.int .i64 n)).take i)]⟩) (fun i=>i ≤ l.length) (fun i=>l.length - i) 0 (by simp) ?_
  (he:=by simp [logT])
 intro i k1
 have hwi:=wi1 (i:=i) (by omega)
 by_cases hi:i < l.length
 · have hA:=append_next hNm (by omega) hi
   have hc:=c_append (logT (l.take i)) l[i] (by have:=logT_take_le l i; omega) (hbyte i) (hE _ (List.getElem_mem hi))
   rw [hA] at hc
   have hse:shp (eEvent l[i]) = .agg 60:=rfl
   have hlt:(logT (l.take i)).length < (logT (l.take (i + 1))).length:=by
    have:l.take (i + 1) = l.take i ++ [l[i]]:=List.take_succ_eq_append_getElem hi
    rw [this,logT,logT,List.flatMap_append]
    simp [recT_len]
   have hlt':¬ ((logT (l.take (i + 1))).length:Int) ≤ (logT (l.take i)).length:=by omega
   have hend:(endsL 0 l)[i]? = some (logT (l.take (i + 1))).length:=by rw [endsL_get l 0 i hi]; simp
   have hel:(endsL 0 l).length = l.length:=endsL_len l 0
   have ht:((endsL 0 l).map fun n:Nat=>AV.p (.int .i64 n)).take (i + 1) = ((endsL 0 l).map fun n:Nat=>AV.p (.int .i64 n)).take i ++ [.p (.int .i64 (logT (l.take (i + 1))).length)]:=by
    rw [List.take_add_one,List.getElem?_map,hend]; rfl
   have hZl:((endsL 0 l).map fun n:Nat=>AV.p (.int .i64 n)).length = l.length:=by simp [hel]
   have hmin:min i l.length = i:=by omega
   have hZr:∀ N,refsLtl N (((endsL 0 l).map fun n:Nat=>AV.p (.int .i64 n)).take i) = True:=fun N=>rl_take
   generalize ((endsL 0 l).map fun n:Nat=>AV.p (.int .i64 n)) = Z at *
   simp [hi,s4,hse]
   refine c2 hc ?_
   simp [hlt',hZl,hmin]
   refine ⟨by simp only [maxL]; omega,?_⟩
   exact rd (i + 1) hi (he:=by simp [hwi]) (hh:=by simp [ht]) (hr2:=by simp [ht,hZr])
 have:i = l.length:=by omega
 subst this
 have hel:(endsL 0 l).length = l.length:=endsL_len l 0
 have hene:endsL 0 l ≠ []:=by intro h; rw [h] at hel; simp at hel; omega
 have hZt:((endsL 0 l).map fun n:Nat=>AV.p (.int .i64 n)).take l.length = (endsL 0 l).map fun n:Nat=>AV.p (.int .i64 n):=List.take_of_length_le (by simp [hel])
 have hLt:l.take l.length = l:=List.take_length
 rw [hZt,hLt]
 have hlen:=log_len l
 have hw1:IntKind.i64.wrap (((logT l).length:Int) + 1) = (logT l).length + 1:=wi1 (by omega)
 have hwa0:IntKind.i64.wrap (a0:Int) = a0:=wi64 _ (by omega) (by omega)
 obtain ⟨p,hpe⟩:∃ p,p = a0 % ((logT l).length + 1):=⟨_,rfl⟩
 have hm1:(a0:Int) % (((logT l).length:Int) + 1) = p:=by rw [hpe]; push_cast; rfl
 have hm0:Int.tmod (a0:Int) (((logT l).length:Int) + 1) = p:=by
  rw [Int.tmod_eq_emod_of_nonneg (by omega),hm1]
 have hp:p ≤ (logT l).length:=by have:=Nat.mod_lt a0 (show 0 < (logT l).length + 1 by omega); omega
 simp [s4,hw1,hwa0,hm0,hm1]
 refine ⟨by omega,?_⟩
 have hcnt:(endsL 0 l).countP (fun x=>decide (x ≤ p)) = wholeN l p:=by simpa using ends_count l 0 p (by omega)
 have hZr:∀ N,refsLtl N ((endsL 0 l).map fun n:Nat=>AV.p (.int .i64 n)) = True:=fun N=>rl_p
 refine lp (α := Nat) (fun i => ⟨[(116, .p (.int .i64 i)), (115, .p (.int .i64 l.length)), (114, .sl 1 l.length 1 0 l.length), (15, .p (.int .i64 (((endsL 0 l).take i).countP (fun x => decide (x ≤ p)) : Nat))), (14, .p (.int .i64 p)), (9, .sl 1 l.length 1 0 l.length), (8, .p (.str (logT l))), (3, .ptr 0 []), (0, .p (.seq (l.map eEvent)))],
     [.box false (.p (.st 122 [.int .u16 a0,.int .u16 a1,.int .u16 a2])),.arr .grow l.length 1 ((endsL 0 l).map fun n:Nat=>AV.p (.int .i64 n))]⟩) (fun i=>i ≤ l.length) (fun i=>l.length - i) 0 (by simp) ?_
 intro i k1
 have hwi:=wi1 (i:=i) (by omega)
 by_cases hi:i < l.length
 · have hg:(endsL 0 l)[i]? = some (endsL 0 l)[i]:=List.getElem?_eq_getElem (by omega)
   have hct:((endsL 0 l).take (i + 1)).countP (fun x=>decide (x ≤ p)) = ((endsL 0 l).take i).countP (fun x=>decide (x ≤ p)) + (if (endsL 0 l)[i] ≤ p then 1 else 0):=by
    rw [List.take_add_one,hg,List.countP_append]
    by_cases q:(endsL 0 l)[i] ≤ p <;> simp [q]
   have hcl:((endsL 0 l).take i).countP (fun x=>decide (x ≤ p)) ≤ i:=by
    have:=List.countP_le_length (p:=fun x=>decide (x ≤ p)) (l:=(endsL 0 l).take i)
    rw [List.length_take] at this; omega
   generalize (endsL 0 l)[i] = x at *
   generalize ((endsL 0 l).take i).countP (fun x=>decide (x ≤ p)) = c at *
   have hwc:=wi1 (i:=c) (by omega)
   by_cases q:x ≤ p
   · have q':(x:Int) ≤ p:=by omega
     rw [if_pos q] at hct
     simp [hi,s4,hg,q',hene]
     exact rd (i + 1) hi (he:=by simp [hwi,hct,hwc]) (hr2:=by simp [hZr])
   · have q':¬ (x:Int) ≤ p:=by omega
     rw [if_neg q] at hct
     simp [hi,s4,hg,q',hene]
     exact rd (i + 1) hi (he:=by simp [hwi,hct]) (hr2:=by simp [hZr])
 have:i = l.length:=by omega
 subst this
 rw [List.take_of_length_le (by omega),hcnt]
 have hwle:=wholeN_le l p
 obtain ⟨part,hcut,h10⟩:=log_cut l p (fun e he=>rec_10 name_ok (hNm.mem e he)) hp
 have hNw:Num 0 (l.take (wholeN l p)):=by
  have:l = l.take (wholeN l p) ++ l.drop (wholeN l p):=(List.take_append_drop _ l).symm
  rw [this] at hNm
  exact (Num.app.1 hNm).1
 have hpart:=recover_part name_ok (by rw [← hcut,List.length_take]; omega) hNw h10
 rw [← hcut] at hpart
 generalize wholeN l p = k at *
 have hcp:=c_recover ((logT l).take p) (fun c hc=>by have:=hbyte l.length c; rw [hLt] at this; exact this (List.mem_of_mem_take hc)) (by simp; omega)
 obtain ⟨v,H',hq,hg⟩:=g_load ((logT l).take p) (by simp; omega) (fun c hc=>by have:=hbyte l.length c; rw [hLt] at this; exact this (List.mem_of_mem_take hc)) (by rw [hpart]; exact fun e he=>hE e (List.mem_of_mem_take he))
 have hpk:=play_pre (by omega) s3 k
 have hLk:LiveL (l.take k) 20:=⟨by simp; omega,fun e he=>hE e (List.mem_of_mem_take he),fun e he=>hEvT e (List.mem_of_mem_take he),by rw [hpk]⟩
 have hevk:=hLk.evs (by omega)
 simp only [loadQ] at hq
 rw [hpart] at hcp hq
 have hno:(if part = [] then (0:Int) else 28) = 0 ∨ (if part = [] then (0:Int) else 28) = 28:=by split <;> simp
 dsimp only at hcp hq
 generalize (if part = [] then (0:Int) else 28) = no at *
 rw [if_neg (by omega),if_neg (by rw [hpk]; simp),hevk] at hq
 obtain ⟨ve,vs,J,hB,rfl,rfl⟩:=hq
 have hL20:LiveL l 20:=⟨by omega,hE,hEvT,s3⟩
 have hev:=hL20.evs (by omega)
 have hrl:=recover_log name_ok (by omega) hNm
 obtain ⟨v,H',hq,hg2⟩:=g_load (logT l) (by omega) (fun c hc=>by have:=hbyte l.length c; rw [hLt] at this; exact this hc) (by rw [hrl]; exact hE)
 simp only [loadQ] at hq
 rw [hrl] at hq
 dsimp only at hq
 rw [if_neg (by omega),if_neg (by rw [s3]; simp),hev] at hq
 obtain ⟨ve2,vs2,J2,hB2,rfl,rfl⟩:=hq
 have hSm:=c_sameEvents (l.take k) (by simp; omega) (fun x hx=>⟨by have:=(hLk.et x hx).nl; omega,by have:=(hLk.et x hx).vl; omega⟩)
 have hmE:(l.map eEvent).take k = (l.take k).map eEvent:=by simp
 have hml:(l.take k).length = k:=by simp; omega
 have hdE:(l.map eEvent).drop k = (l.drop k).map eEvent:=by simp
 have hdl:(l.drop k).length = l.length - k:=by simp
 obtain ⟨M,hM⟩:∃ M:Nat → List EventD,∀ i,M i = l.take (k + i):=⟨_,fun _=>rfl⟩
 have hM0:l.take k = M 0:=by rw [hM]; rfl
 have hr:∀ (i:Nat) (hi:i < (l.drop k).length),(l.drop k)[i] = l[k + i]'(by omega):=fun i hi=>List.getElem_drop
 have hLM:∀ i,LiveL (M i) 20:=fun i=>by rw [hM]; exact ⟨by simp; omega,fun e he=>hE e (List.mem_of_mem_take he),fun e he=>hEvT e (List.mem_of_mem_take he),by rw [play_pre (by omega) s3]⟩
 have hMl:∀ i,i ≤ l.length - k → (M i).length = k + i:=fun i hi=>by rw [hM]; simp; omega
 have hMe:M (l.length - k) = l:=by rw [hM,show k + (l.length - k) = l.length by omega,hLt]
 have hMn:∀ (i:Nat) (hi:i < (l.drop k).length),∃ t,doS (playS (M i)).1 (lineT (l.drop k)[i]) = (t,0) ∧ doD (playS (M i)).1 (lineT (l.drop k)[i]) = (playS (M (i + 1))).1:=fun i hi=>by
  rw [hr i hi,hM,hM]
  exact do_next (by omega) s3 (by omega)
 have hrE:∀ e ∈ l.drop k,chkEvent e = 0 ∧ EvT e ∧ evB e:=fun e he=>⟨hNm.mem e (List.mem_of_mem_drop he),hEvT e (List.mem_of_mem_drop he),hE e (List.mem_of_mem_drop he)⟩
 rw [hM0] at hcp hg hSm hB hmE hml
 clear hr
 have htx:∀ e ∈ l,e.text.length ≤ 300:=fun e he=>heard_text s1 e he
 generalize hrm:l.drop k = r at *
 simp [-List.map_take]
 refine ⟨hp,?_⟩
 refine c1 hcp ?_
 simp [-List.map_take]
 refine ⟨hp,?_⟩
 refine cn1 hg ?_
 simp [-List.map_take]
 refine cn1 hg2 ?_
 simp [-List.map_take,-w_seq']
 refine join (fun s=>getE s.env 0 = .p (.seq (l.map eEvent)) ∧ getE s.env 3 = .ptr 0 [] ∧ getE s.env 8 = .p (.str (logT l)) ∧ getE s.env 9 = .sl 1 l.length 1 0 l.length ∧ getE s.env 15 = .p (.int .i64 k) ∧ getE s.env 21 = .ptr 5 [] ∧ getE s.env 23 = .ptr 9 [] ∧
  s.heap = tornH (arr3 a0 a1 a2) ((endsL 0 l).map fun n:Nat=>AV.p (.int .i64 n)) l.length (M 0) (playS (M 0)).1 ve vs J l (playS l).1 ve2 vs2 J2) ?_ ?_
 · rcases hno with rfl | rfl
   all_goals
    simp [-List.map_take,hwle,hmE]
    refine ⟨shpE l,?_⟩
    refine c2 hSm ?_
    simp [tornH,arr3]
 rintro ⟨env',heap'⟩ ⟨f0,f3,f8,f9,f15,f21,f23,hp'⟩
 dsimp only at f0 f3 f8 f9 f15 f21 f23 hp'
 subst hp'
 simp [-List.map_take,-List.map_drop,f0,f3,f8,f9,f15,f21,f23,hwle,hdE]
 refine ⟨shpE l,?_⟩
 refine lp (α:=Nat × Nat × Nat × List PV) (fun (i,ve,vs,J)=>⟨[(180,.p (.int .i64 i)),(179,.p (.int .i64 r.length)),(178,.p (.seq (r.map eEvent))),(23,.ptr 9 []),(21,.ptr 5 []),(9,.sl 1 l.length 1 0 l.length),(8,.p (.str (logT l))),(3,.ptr 0 []),(0,.p (.seq (l.map eEvent)))],
  tornH (arr3 a0 a1 a2) ((endsL 0 l).map fun n:Nat=>AV.p (.int .i64 n)) l.length (M i) (playS (M i)).1 ve vs J l (playS l).1 ve2 vs2 J2⟩) (fun (i,ve,vs,J)=>i ≤ r.length ∧ StoryB (playS (M i)).1 J) (fun (i,_)=>r.length - i) (0,ve,vs,J) ⟨by simp,hB⟩ ?_
  (he:=by simp [f0,f3,f8,f9,f21,f23]) (hh:=by simp [tornH,arr3]) (hr:=by simp [tornH,arr3]) (hr2:=by simp [tornH,arr3,hZr])
 rintro ⟨i,ve,vs,J⟩ ⟨k1,k2⟩
 dsimp only at k1 k2 ⊢
 have hwi:=wi1 (i:=i) (by omega)
 by_cases hi:i < r.length
 · obtain ⟨tx,n1,n2⟩:=hMn i hi
   have hLi:=hLM i
   have hevi:=hLi.evs (by omega)
   have hlen:=hMl i (by omega)
   obtain ⟨r1,r2,r3⟩:=hrE _ (List.getElem_mem hi)
   have hbd:=c_bodyR r[i] r2
   obtain ⟨b1,b2,b3⟩:=body_line r1
   have hbl:=r2.bl
   have hbb:=r2.byt
   have hll:(lineT r[i]).length ≤ 1000:=by
    have h1:=body_len r1
    have h2:(r[i]).text.length ≤ 300:=htx _ (List.mem_of_mem_drop (by rw [hrm]; exact List.getElem_mem hi))
    rw [← b2]; simp; omega
   have hlb:∀ c ∈ lineT r[i],c < 256:=fun c hc=>hbb c (List.mem_of_mem_drop (by rw [b2]; exact hc))
   obtain ⟨ve',vs',J',hB',hDo⟩:=g_Do (M i) ve vs J (lineT r[i]) (by omega) hLi.eb hLi.ok k2 hll hlb
   rw [n1,n2] at hDo
   rw [n2] at hB'
   have hI:=c_strIndex (bodyT r[i]) 32
   rw [b1] at hI
   have hwn:IntKind.i64.wrap (((itoaN r[i].num).length:Int) + 1) = (itoaN r[i].num).length + 1:=wi1 (by omega)
   have hevn:=(hLM (i + 1)).evs (by omega)
   simp only [ssH,storyV] at hDo
   rw [hevi,hevn] at hDo
   have hse:shp (eEvent r[i]) = .agg 60:=rfl
   generalize lineT r[i] = L at *
   generalize bodyT r[i] = Bd at *
   generalize (itoaN r[i].num).length = nn at *
   simp [tornH,arr3,hi,hse]
   refine c1 hbd ?_
   simp
   refine c2 hI ?_
   simp [hwn,b2]
   refine ⟨⟨by omega,by omega⟩,?_⟩
   refine cf hDo [5,3,4] ?_
   simp [setAll,sig]
   refine rd (i + 1,ve',vs',J') ⟨hi,hB'⟩ (h1:=by dsimp only; omega) (he:=by simp [hwi]) (hh:=by simp [tornH,arr3]) (hr:=by simp [tornH,arr3]) (hr2:=by simp [tornH,arr3,hZr])
 have:i = r.length:=by omega
 subst this
 rw [hdl,hMe] at k2 ⊢
 obtain ⟨x1,tx,x2⟩:=do_rows (playS l).1
 obtain ⟨x3,x4⟩:=do_diff (playS l).1
 obtain ⟨ve3,vs3,J3,hB3,hD1⟩:=g_Do l ve vs J kRows (by omega) hE s3 k2 (by decide) (by decide)
 rw [x1] at hB3
 obtain ⟨ve4,vs4,J4,hB4,hD2⟩:=g_Do l ve2 vs2 J2 kRows (by omega) hE s3 hB2 (by decide) (by decide)
 obtain ⟨ve5,vs5,J5,hB5,hD3⟩:=g_Do l ve3 vs3 J3 kDiff0 (by omega) hE s3 hB3 (by decide) (by decide)
 rw [x1,x2] at hD1 hD2
 rw [x3,x4] at hD3
 rw [x3] at hB5
 have hE1:=g_events (playS l).1 ve5 vs5 J5 (by rw [hev]; omega) (by rw [hev]; exact hE)
 have hL1:=g_log (playS l).1 ve5 vs5 J5 (by rw [hev]; omega) (by rw [hev]; exact hEvT)
 have hRep:=c_Replay l (by omega) hE
 rw [hrS] at hRep
 have hnB:=now_B hB2
 have hRpt:=h73 [97] (playS l).1.now.length (by omega) (by simp; omega)
 rw [repN_rep] at hRpt
 simp only [ssH,storyV,kRows,kDiff0] at hD1 hD2 hD3 hE1 hL1
 rw [hev] at hD1 hD2 hD3 hE1 hL1
 simp at hRep
 simp [tornH,arr3]
 refine cf hD1 [5,3,4] ?_
 simp [setAll,sig]
 refine cf hD2 [9,7,8] ?_
 simp [setAll,sig]
 refine cf hD3 [5,3,4] ?_
 simp [setAll,sig]
 refine cf hE1 [5,3,4] ?_
 simp [setAll,sig]
 refine c1 hRep ?_
 simp [-w_seq']
 refine join (fun s=>getE s.env 0 = .p (.seq (l.map eEvent)) ∧ getE s.env 3 = .ptr 0 [] ∧ getE s.env 8 = .p (.str (logT l)) ∧ getE s.env 9 = .sl 1 l.length 1 0 l.length ∧ getE s.env 21 = .ptr 5 [] ∧
  s.heap = tornH (arr3 a0 a1 a2) ((endsL 0 l).map fun n:Nat=>AV.p (.int .i64 n)) l.length l (playS l).1 ve5 vs5 J5 l (playS l).1 ve4 vs4 J4) ?_ ?_
 · simp
   refine cf hL1 [5,3,4] ?_
   simp [setAll,sig]
   refine c2 hRpt ?_
   have hw2:IntKind.i64.wrap ((l.length:Int) - 1) = l.length - 1:=wi64 _ (by omega) (by omega)
   have hrow:∀ n:Nat,(n = 0 ∧ noneT (List.replicate n 97) = [110,111,110,101]) ∨ (0 < n ∧ noneT (List.replicate n 97) = List.replicate n 97):=by
    intro n
    cases n with
    | zero=>exact .inl ⟨rfl,rfl⟩
    | succ n=>exact .inr ⟨by omega,by rw [noneT,if_neg (by simp)]⟩
   have hrow:=hrow (playS l).1.now.length
   generalize (playS l).1.now = now at *
   generalize noneT (List.replicate now.length 97) = V at *
   rcases hrow with ⟨q1,rfl⟩ | ⟨q1,rfl⟩
   · have q2:now = []:=List.length_eq_zero_iff.1 q1
     simp [q2]
     rfl
   · have q2:¬ (now.length:Int) ≤ 0:=by omega
     have q3:now ≠ []:=by rintro rfl; simp at q1
     simp [q3]
     rfl
 rintro ⟨env',heap'⟩ ⟨f0,f3,f8,f9,f21,hp'⟩
 dsimp only at f0 f3 f8 f9 f21 hp'
 subst hp'
 have hwa1:IntKind.i64.wrap (a1:Int) = a1:=wi64 _ (by omega) (by omega)
 obtain ⟨kk,hke⟩:∃ kk,kk = a1 % (logT l).length:=⟨_,rfl⟩
 have hkk:kk < (logT l).length:=by rw [hke]; exact Nat.mod_lt _ (by omega)
 have hk1:(a1:Int) % ((logT l).length:Int) = kk:=by rw [hke]; push_cast; rfl
 have hk0:Int.tmod (a1:Int) ((logT l).length:Int) = kk:=by rw [Int.tmod_eq_emod_of_nonneg (by omega),hk1]
 obtain ⟨c,hce⟩:∃ c,c = 32 + a2 % 200:=⟨_,rfl⟩
 have hc:c < 256:=by omega
 have hc0:Int.tmod (a2:Int) 200 = (c:Int) - 32:=by rw [Int.tmod_eq_emod_of_nonneg (by omega),hce]; omega
 have hc1:IntKind.u16.wrap (32 + ((c:Int) - 32)) = c:=by rw [IntWalk.u16_in _ (by omega)]; omega
 have hc2:IntKind.u8.wrap (c:Int) = c:=IntWalk.u8_in _ (by omega)
 have hln:logT l ≠ []:=by intro h; rw [h] at hkk; simp at hkk
 rw [w_seq']
 simp [-w_seq',f0,f3,f8,f9,f21,tornH,arr3,hwa1,hk0,hk1,hln]
 rw [w_seq']
 simp [-w_seq',f0,f3,f8,f9,f21,hc0,hc1,hc2]
 refine join (fun s=>getE s.env 0 = .p (.seq (l.map eEvent)) ∧ getE s.env 3 = .ptr 0 [] ∧ getE s.env 8 = .p (.str (logT l)) ∧ getE s.env 9 = .sl 1 l.length 1 0 l.length ∧ getE s.env 21 = .ptr 5 [] ∧
  ∃ T,s.heap = tornH (arr3 a0 a1 a2) ((endsL 0 l).map fun n:Nat=>AV.p (.int .i64 n)) l.length l (playS l).1 ve5 vs5 J5 l (playS l).1 ve4 vs4 J4 ++ T) ?_ ?_
 · have hset:(logT l).take kk ++ c :: (logT l).drop (kk + 1) = (logT l).set kk c:=by rw [List.set_eq_take_append_cons_drop,if_pos hkk]
   have hget:(logT l)[kk]? = some (logT l)[kk]:=List.getElem?_eq_getElem hkk
   have hchg:=log_change (k:=kk) (c:=c) hNm hEvT htx (by omega) hkk
   have hwk:=wi1 (i:=kk) (by omega)
   have hcr:=c_recover ((logT l).set kk c) (fun x hx=>by
    rcases List.mem_or_eq_of_mem_set hx with hx | rfl
    · have:=hbyte l.length x; rw [hLt] at this; exact this hx
    · exact hc) (by simp; omega)
   generalize hge:(logT l)[kk] = lk at *
   by_cases q1:lk = 10
   · subst q1
     simp [f0,f3,f8,f9,f21,hkk,hget,hge]
     exact ⟨[],rfl⟩
   · by_cases q2:lk = c
     · subst q2
       by_cases q1':(lk:Int) = 10
       · simp [f0,f3,f8,f9,f21,hkk,hget,hge,q1']
         exact ⟨[],rfl⟩
       · simp [f0,f3,f8,f9,f21,hkk,hget,hge,q1']
         exact ⟨[],rfl⟩
     · obtain ⟨z1,z2⟩:=hchg q1 q2 (by omega) hc
       generalize recoverS ((logT l).set kk c) = R at *
       obtain ⟨ev',pl',no'⟩:=R
       dsimp only at z1 z2 hcr
       have q1':¬ (lk:Int) = 10:=by omega
       have q2':¬ (c:Int) = lk:=by omega
       have z2':¬ (pl':Int) = (logT l).length:=by omega
       have hbo:bytesOf [AV.p (.int .u8 (c:Int))] = some [c]:=by simp [bytesOf]; omega
       simp [f0,f3,f8,f9,f21,hkk,hget,hge,q1',q2',hbo]
       refine ⟨by omega,?_⟩
       have hwn:((kk:Int) + 1).toNat = kk + 1:=by omega
       simp [f8,hwk,hset,hwn]
       refine ⟨by omega,⟨by omega,by omega⟩,by omega,?_⟩
       refine e1 hcr ?_
       simp [f8,z1,z2']
       exact ⟨rfl,f0,f3,f9,f21,[_],rfl⟩
 rintro ⟨env',heap'⟩ ⟨f0,f3,f8,f9,f21,T,hp'⟩
 dsimp only at f0 f3 f8 f9 f21 hp'
 subst hp'
 refine join (fun s=>getE s.env 0 = .p (.seq (l.map eEvent)) ∧ getE s.env 21 = .ptr 5 [] ∧
  ∃ T,s.heap = tornH (arr3 a0 a1 a2) ((endsL 0 l).map fun n:Nat=>AV.p (.int .i64 n)) l.length l (playS l).1 ve5 vs5 J5 l (playS l).1 ve4 vs4 J4 ++ T) ?_ ?_
 · by_cases hl1:1 < l.length
   case neg =>
    have hl1':¬ (1:Int) < l.length:=by omega
    simp [f0,f21,hl1']
   have hl1':(1:Int) < l.length:=by omega
   have hwa2:IntKind.i64.wrap (a2:Int) = a2:=wi64 _ (by omega) (by omega)
   have hwl1:IntKind.i64.wrap ((l.length:Int) - 1) = l.length - 1:=wi64 _ (by omega) (by omega)
   obtain ⟨rr,hre⟩:∃ rr,rr = a2 % (l.length - 1):=⟨_,rfl⟩
   have hrr:rr < l.length - 1:=by rw [hre]; exact Nat.mod_lt _ (by omega)
   have hr1:(a2:Int) % ((l.length:Int) - 1) = rr:=by rw [hre]; push_cast; rw [Int.natCast_sub (by omega)]; rfl
   have hr0:Int.tmod (a2:Int) ((l.length:Int) - 1) = rr:=by rw [Int.tmod_eq_emod_of_nonneg (by omega),hr1]
   have hnz:¬ (l.length:Int) - 1 = 0:=by omega
   have hge2:(endsL 0 l)[rr]? = some (logT (l.take (rr + 1))).length:=by rw [endsL_get l 0 rr (by omega)]; simp
   simp [f0,f3,f8,f9,f21,hl1',hwl1,tornH,arr3,hwa2,hr0,hr1,hnz]
   have hlk:=log_lack hNm (by omega) (r:=rr) (by omega)
   have hbt:∀ c ∈ (logT l).take (logT (l.take rr)).length ++ (logT l).drop (logT (l.take (rr + 1))).length,c < 256:=fun c hc=>by
    have hb:=hbyte l.length c
    rw [hLt] at hb
    rcases List.mem_append.1 hc with hc | hc
    · exact hb (List.mem_of_mem_take hc)
    · exact hb (List.mem_of_mem_drop hc)
   have hcr:=c_recover _ hbt (by simp; omega)
   rw [hlk] at hcr
   have ht1:=logT_take_le l rr
   have ht2:=logT_take_le l (rr + 1)
   by_cases hr2:0 < rr
   · have hwr:IntKind.i64.wrap ((rr:Int) - 1) = ((rr - 1:Nat):Int):=by rw [wi64 _ (by omega) (by omega)]; omega
     have hge1:(endsL 0 l)[rr - 1]? = some (logT (l.take rr)).length:=by rw [endsL_get l 0 (rr - 1) (by omega),show rr - 1 + 1 = rr by omega]; simp
     have hlt1:rr - 1 < l.length:=by omega
     have hlt2:rr < l.length:=by omega
     simp [f0,f3,f8,f9,f21,hr2,hwr,hge1,hge2,hlt1,hlt2,hene]
     refine ⟨by omega,by omega,by omega,?_⟩
     refine e1 hcr ?_
     simp [f0,f21]
   · obtain rfl:rr = 0:=by omega
     rw [List.take_zero,show logT [] = [] from rfl,List.length_nil,List.take_zero,List.nil_append] at hcr
     simp at hcr
     simp [f0,f3,f8,f9,f21,hge2,hene]
     refine ⟨by omega,by omega,by omega,?_⟩
     refine e1 hcr ?_
     simp [f0,f21]
 rintro ⟨env',heap'⟩ ⟨f0,f21,T,hp'⟩
 dsimp only at f0 f21 hp'
 subst hp'
 have hst0:(playS l).1.sts.length ≤ l.length:=by
  have:=hB5.sj
  rw [hev] at this; omega
 simp [f0,f21]
 refine lp (α:=Nat × List EventD × Nat × Nat × List PV) (fun (j,m,ve,vs,J)=>⟨[(345,.p (.int .i64 j)),(344,.p (.int .i64 l.length)),(21,.ptr 5 [])],undoH m (playS m).1 ve vs J⟩)
  (fun (j,m,ve,vs,J)=>j ≤ l.length ∧ LiveL m (20 + j) ∧ StoryB (playS m).1 J ∧ (playS m).1.sts.length ≤ l.length - j) (fun (j,_)=>l.length - j) (0,l,ve5,vs5,J5) ⟨by simp,hL20,hB5,by simpa using hst0⟩ ?_
  (he:=by simp [f0,f21]) (hh:=by simp [tornH,undoH]) (hr:=by simp [undoH]) (hr2:=by simp [undoH])
 rintro ⟨j,m,ve,vs,J⟩ ⟨k1,k2,k3,k4⟩
 dsimp only at k1 k2 k3 k4 ⊢
 have hwj:=wi1 (i:=j) (by omega)
 have hevm:=k2.evs (by omega)
 have hml:=k2.len
 obtain ⟨tx,u1,u2⟩:=do_undo (d:=(playS m).1) (by rw [hevm]; omega)
 obtain ⟨ve',vs',J',hB',hDo⟩:=g_Do m ve vs J kUndo (by omega) k2.eb k2.ok k3 (by decide) (by decide)
 obtain ⟨hL',hP'⟩:=live_next (s:=kUndo) k2 (by omega) (by decide) (by decide)
 simp only [ssH,storyV] at hDo
 rw [hevm,u1] at hDo
 by_cases hj:j < l.length
 · have hlen':(doD (playS m).1 kUndo).sts.length ≤ l.length - (j + 1):=by
    rw [u2]
    by_cases hs:(playS m).1.sts = []
    · rw [if_pos hs,hs]; simp
    · rw [if_neg hs,undo_sts,List.length_dropLast]; omega
   simp only [kUndo] at hDo
   have hno:(if (playS m).1.sts = [] then (12:Int) else 0) = 12 ∨ (if (playS m).1.sts = [] then (12:Int) else 0) = 0:=by split <;> simp
   generalize (if (playS m).1.sts = [] then (12:Int) else 0) = no at *
   have hPd:playS (doD (playS m).1 kUndo).evs = playS (doD (playS m).1 kUndo).evs:=rfl
   generalize hx:doD (playS m).1 kUndo = d' at *
   simp only [kUndo] at hx
   rw [hx] at hDo
   simp [undoH,hj]
   refine cf hDo [5,3,4] ?_
   rcases hno with rfl | rfl
   all_goals
    simp [setAll,sig]
    refine rd (j + 1,d'.evs,ve',vs',J') ⟨hj,hL',by rw [hP']; exact hB',by rw [hP']; exact hlen'⟩ (h1:=by dsimp only; omega) (he:=by simp [hwj]) (hh:=by simp [undoH,hP']) (hr:=by simp [undoH]) (hr2:=by simp [undoH])
 have:j = l.length:=by omega
 subst this
 have hs0:(playS m).1.sts = []:=List.length_eq_zero_iff.1 (by omega)
 have hn0:(playS m).1.now = []:=by rw [StoryD.now,hs0]; rfl
 have hE1:=g_events (playS m).1 ve vs J (by rw [hevm]; omega) (by rw [hevm]; exact k2.eb)
 have hRep:=c_Replay m (by omega) k2.eb
 have hrm:replayS m = ([],0,0):=by rw [replayS,if_neg (by rw [k2.ok]; simp),hn0]
 rw [hrm] at hRep
 rw [if_pos hs0] at hDo
 simp only [ssH,storyV] at hE1
 rw [hevm] at hE1
 simp only [kUndo] at hDo
 simp at hRep
 simp [undoH]
 refine cf hE1 [5,3,4] ?_
 simp [setAll,sig]
 refine c1 hRep ?_
 simp
 refine cf hDo [5,3,4] ?_
 simp [setAll,sig]
 refine c0 hw ?_
 simp
theorem c_law11 (hw : GoodC Tryz.prog 17 [] (.bool true)) (l : List EventD) (a : Nat × Nat × Nat) (hl : l.length ≤ 1048576) (_ : True) (hW : ∀ e ∈ l, evW e) (h : a.1 < 65536 ∧ a.2.1 < 65536 ∧ a.2.2 < 65536) :
    GoodC Tryz.prog 11 [.seq (l.map eEvent),arr3 a.1 a.2.1 a.2.2] (.bool true):=c_torn hw l a.1 a.2.1 a.2.2 hl hW h.1 h.2.1 h.2.2
end Go.Abs
namespace Go.Abs
open Go.Proofs Go.Proofs.YthckccalfpnmaaaGreatDoor
set_option maxRecDepth 100000
section
variable {H:Type} {W:World} {Imm:Nat → Prop}
theorem u16_of {n:Nat} (d:DataW H) (c) (h:PVC Tryz.prog W Imm (toPV Tryz.prog (n + 1) 121 d) c):∃ a:Nat,toPV Tryz.prog (n + 1) 121 d = .int .u16 a ∧ a < 65536:=by
 cases d with
 | lit l =>
  cases l with
  | int k z =>
   simp only [toPV,un121] at h ⊢
   split at h
   · rename_i hz
     rw [if_pos hz]
     simp only [Lit.wf,Bool.and_eq_true,decide_eq_true_eq] at hz
     have h1:(0:Int) ≤ z:=hz.1
     have h2:z ≤ 65535:=hz.2
     exact ⟨z.toNat,by rw [Int.toNat_of_nonneg h1],by omega⟩
   · simp only [PVC] at h
  | _=>simp only [toPV,un121,PVC] at h
 | _=>simp only [toPV,un121,PVC] at h
theorem uidA:Tryz.prog.underlyingId 122 = 122:=by kernel_rfl
theorem arr_of {n:Nat} (l:List (DataW H)):toPV Tryz.prog (n + 1) 122 (.agg l) = .st 122 (l.map (toPV Tryz.prog n 121)):=by
 simp only [toPV,un122,uidA]
theorem arr3_of {n:Nat} {d:DataW H} (h:∃ cs,PVC Tryz.prog W Imm (toPV Tryz.prog (n + 2) 122 d) cs):∃ a:Nat × Nat × Nat,toPV Tryz.prog (n + 2) 122 d = arr3 a.1 a.2.1 a.2.2 ∧ a.1 < 65536 ∧ a.2.1 < 65536 ∧ a.2.2 < 65536:=by
 obtain ⟨cs,h⟩:=h
 cases d with
 | agg l =>
  rw [arr_of] at h ⊢
  simp only [PVC,sz122] at h
  obtain ⟨l',css,h1,h2,_⟩:=h
  cases h1
  match l,h2 with
  | [],h2=>simp [PVCl] at h2
  | [_],h2=>simp [PVCl] at h2
  | [_,_],h2=>simp [PVCl] at h2
  | _ :: _ :: _ :: _ :: _,h2=>simp [PVCl] at h2
  | [a,b,c],h2 =>
   simp only [List.map_cons,List.map_nil,PVCl] at h2 ⊢
   obtain ⟨c0,_,_,g0,_,c1,_,_,g1,_,c2,_,_,g2,_⟩:=h2
   obtain ⟨x,ex,hx⟩:=u16_of a c0 g0
   obtain ⟨y,ey,hy⟩:=u16_of b c1 g1
   obtain ⟨z,ez,hz⟩:=u16_of c c2 g2
   exact ⟨(x,y,z),by rw [ex,ey,ez]; rfl,hx,hy,hz⟩
 | _=>simp only [toPV,un122,PVC] at h
theorem arr3_arg {d:DataW H} (h:∃ cs,PVC Tryz.prog W Imm (toPV Tryz.prog 8 122 d) cs) (_hb:Rows.uptoBulk d ≤ 1048576):∃ a:Nat × Nat × Nat,toPV Tryz.prog 8 122 d = arr3 a.1 a.2.1 a.2.2 ∧ True ∧ a.1 < 65536 ∧ a.2.1 < 65536 ∧ a.2.2 < 65536:=by
 obtain ⟨a,e,h1,h2,h3⟩:=arr3_of (n:=6) h
 exact ⟨a,e,trivial,h1,h2,h3⟩
end
end Go.Abs
