import Derived.Test.YthckccalfpnmaaaGreatDoorVC
import Derived.Test.YthckccalfpnmaaaGreatDoorThE
import Derived.Test.YthckccalfpnmaaaGreatDoorVA
/- Parts of a proof. -/
set_option linter.unusedSimpArgs false
set_option linter.unusedVariables false
set_option linter.unusedSectionVars false
namespace Go.Abs
open Go.Proofs
set_option maxHeartbeats 4000000
set_option maxRecDepth 100000
theorem c_cloneS (l:List (List Nat)) (h:l.length ≤ 1048576):GoodC Tryz.prog 157 [.seq (l.map .str)] (.seq (l.map .str)):=by
 cases l with
 | nil =>
  refine .inl (goodP_seq_nil (pre:=[]) (post:=[]) ?_ ?_)
  · refine goodP_fn nf isF157 mix (by simp [Tryz.f157]) ?_
    simp [Tryz.f157]
  · refine goodP_fn nf isF157 mix (by simp [Tryz.f157]) ?_
    simp [Tryz.f157,maxL]
 | cons a r =>
  refine good_fn nf isF157 mix (by simp [Tryz.f157]) ?_
  simp at h
  simp [Tryz.f157]
  simp only [maxL]; omega
theorem one_of' {α:Type} {l:List α} (h:l.length = 1):∃ x,l = [x]:=by
 cases l with
 | nil=>simp at h
 | cons a r =>
  have:r = []:=List.length_eq_zero_iff.1 (by simpa using h)
  exact ⟨a,by rw [this]⟩
def zRow:AV:=.p (.st 54 [.str [],.nsl])
theorem g_delete (l : List RowD) (i : Nat) (hi : i < l.length) (h : l.length ≤ 1048576) :
    GoodI Tryz.prog 251 [rowsX l] [.sl 0 0 2 0 l.length,.p (.int .i64 i),.p (.int .i64 (i + 1))] [.arr .exact 0 2 (((l.eraseIdx i).map (AV.p ∘ eRow)) ++ [zRow])] (.sl 0 0 2 0 (l.length - 1)):=by
 have hE:(l.eraseIdx i).map (AV.p ∘ eRow) = (l.map (AV.p ∘ eRow)).take i ++ (l.map (AV.p ∘ eRow)).drop (i + 1):=by
  rw [List.eraseIdx_eq_take_drop_succ,List.map_append,List.map_take,List.map_drop]
 have hsh:allShp Tryz.prog 2 (l.map (AV.p ∘ eRow)):=shp_map fun r=>⟨by simp [shpA],by simp [shpA]⟩
 have hml:(l.map (AV.p ∘ eRow)).length = l.length:=by simp
 have hshB:allShp Tryz.prog 2 ((l.map (AV.p ∘ eRow)).drop (i + 1)):=by rw [← List.map_drop]; exact shp_map fun r=>⟨by simp [shpA],by simp [shpA]⟩
 have hrf:∀ N,refsLtl N (l.map (AV.p ∘ eRow)):=fun N=>by rw [rl_pc]; trivial
 rw [hE,rowsX]
 generalize l.map (AV.p ∘ eRow) = M at *
 generalize hn:l.length = n at *
 clear hE hn l
 refine goodI_fn nf isF251 mix (by simp [Tryz.f251]) ?_
 have hw:=wi1 (i:=i) (by omega)
 have hM0:M ≠ []:=by intro e; subst e; simp at hml; omega
 have hm:n ≤ maxL:=by simp only [maxL]; omega
 simp [Tryz.f251,-w_seq']
 rw [w_seq']
 simp [-w_seq']
 rw [w_seq']
 simp [-w_seq']
 refine p_slice3 (b:=0) (ver:=0) (esz:=2) (off:=0) (len:=n) (l:=i) (h:=i + 1) (n:=n) (es:=M) rfl rfl (by simp) (by simp [hml]) (by simp) (by simp) (by simp) (by simp [hml]) (by omega) (by omega) ?_
 have hz:elemType Tryz.prog 22 = 168:=by simp
 by_cases hn:i + 1 = n
 · have hnz:(i:Int) + 1 = n:=by omega
   have q1:¬ (i:Int) = n:=by omega
   have q2:¬ i = n:=by omega
   have q3:i ≤ n:=by omega
   have q6:n - i = 1:=by omega
   have q7:n - 1 = i:=by omega
   have hA:M.take i ++ M.drop (i + 1) = M.take i:=by rw [List.drop_eq_nil_of_le (by omega),List.append_nil]
   by_cases h0:i = 0
   · subst h0
     simp at hn
     subst hn
     obtain ⟨x,rfl⟩:=one_of' hml
     simp
     refine ⟨by simp only [maxL]; omega,?_⟩
     refine p_clear (b:=0) (ver:=0) (esz:=2) (off:=0) (len:=1) (k:=.exact) (es:=[x]) (z:=.st 54 [.str [],.nsl]) (by rfl) (by rfl) (by simp) (by simp) (by simp [shp]) (by rfl) (by simp) (by omega) ?_
     simp [zRow]
   · have n0:¬ n = 0:=by omega
     simp [hnz,hn,q1,q2,q3,hm,q6,q7,h0,n0,hml,hM0]
     try refine ⟨by simp only [maxL]; omega,?_⟩
     refine p_clear (b:=0) (ver:=0) (esz:=2) (off:=i) (len:=1) (k:=.exact) (es:=M) (z:=.st 54 [.str [],.nsl]) (by rfl) (by rfl) (by simp) (by simp) (by simp [shp]) (by rfl) (by omega) (by omega) ?_
     simp [zRow,hn,hA,hml]
     refine ⟨by omega,.inl ?_⟩
     rw [List.drop_eq_nil_of_le (by omega)]; rfl
 · have hnz:¬ (i:Int) + 1 = n:=by omega
   have q1:((i:Int) == i + 1) = false:=by rw [beq_eq_false_iff_ne]; omega
   have q3:i ≤ n:=by omega
   have q4:0 ≤ (i:Int) + 1:=by omega
   have q5:i + 1 ≤ n:=by omega
   have hB0:M.drop (i + 1) ≠ []:=by rw [ne_eq,List.drop_eq_nil_iff,hml]; omega
   have hBl:(M.drop (i + 1)).length = n - (i + 1):=by simp [hml]
   have hAl:(M.take i).length = i:=by simp; omega
   have t1:(M.drop (i + 1)).take (n - (i + 1)) = M.drop (i + 1):=List.take_of_length_le (by rw [hBl]; omega)
   have q8:n + (n - (i + 1)) ≤ maxL:=by simp only [maxL]; omega
   have q9:i + (n - (i + 1)) = n - 1:=by omega
   have q10:n - 1 ≤ n:=by omega
   obtain ⟨z,hD⟩:=one_of' (l:=M.drop (n - 1)) (by simp [hml]; omega)
   simp [hnz,hn,q1,q3,q4,q5,hm,q8,q9,q10,hml,hM0,hshB,hB0,hBl,hAl,t1,hD]
   refine ⟨⟨rfl,rfl⟩,⟨by omega,by omega⟩,?_⟩
   rw [if_neg (by omega),if_neg (by omega),show n - (n - 1) = 1 by omega]
   simp
   refine p_clear (b:=0) (ver:=0) (esz:=2) (off:=n - 1) (len:=1) (k:=.exact) (es:=M.take i ++ (M.drop (i + 1) ++ [z])) (z:=.st 54 [.str [],.nsl]) (by rfl) (by rfl) (by simp) (by simp) (by simp [shp]) (by rfl) (by simp [hml]; omega) (by omega) ?_
   have e1:(M.take i ++ (M.drop (i + 1) ++ [z])).take (n - 1) = M.take i ++ M.drop (i + 1):=by
    rw [← List.append_assoc,List.take_append_of_le_length (by simp [hml]; omega),List.take_of_length_le (by simp [hml]; omega)]
   have e2:(M.take i ++ (M.drop (i + 1) ++ [z])).drop (n - 1 + 1) = []:=List.drop_eq_nil_of_le (by simp [hml]; omega)
   rw [e1,e2]
   simp [zRow]
end Go.Abs
namespace Go.Abs
open Go.Proofs
set_option maxHeartbeats 4000000
set_option maxRecDepth 100000
theorem cx {f:FuncId} {args:List AV} {H:Heap} {K:AV → Heap → Prop} {hin:List (Nat × Obj)} {v:PV} (h:GoodXE Tryz.prog f args hin v) (hi:∀ p ∈ hin,H[p.1]? = some p.2) (hk:K (.p v) H):CallS Tryz.prog false f K args H:=.inr ⟨rfl,.inr (.inr (.inr ⟨hin,v,h,hi,hk⟩))⟩
theorem g_insert (M : List AV) (r : AV) (m tt : Nat) (hM : M.length = m + 1) (hto : tt ≤ m) (hm : m ≤ 1048576) (hs : allShp Tryz.prog 2 M) (hr : shpA r = .agg 54) (hrf : ∀ N, refsLtl N M) (hrr : ∀ N, refsLt N r) :
    GoodI Tryz.prog 252 [.arr .exact 0 2 M,.arr .exact 0 2 [r]] [.sl 0 0 2 0 m,.p (.int .i64 tt),.sl 1 0 2 0 1] [.arr .exact 0 2 (M.take tt ++ (r :: (M.drop tt).take (m - tt))),.arr .exact 0 2 [r]] (.sl 0 0 2 0 (m + 1)):=by
 refine goodI_fn nf isF252 mix (by simp [Tryz.f252]) ?_
 have hw:=wi1 (i:=m) (by omega)
 have hwt:=wi1 (i:=tt) (by omega)
 have hM0:M ≠ []:=by intro e; subst e; simp at hM
 have hml:m + 1 + 1 ≤ maxL:=by simp only [maxL]; omega
 by_cases he:tt = m
 · subst he
   have e1:M.drop (tt + 1) = []:=List.drop_eq_nil_of_le (by omega)
   by_cases h0:tt = 0
   · subst h0
     simp [Tryz.f252,hM,hw,hM0,hml,hr,e1]
   · simp [Tryz.f252,hM,hw,hM0,hml,hr,e1,h0]
 · have hez:¬ (tt:Int) = m:=by omega
   have hlt:tt < m:=by omega
   simp [Tryz.f252,-w_seq',hM,hw,hM0,hml,hr,he,hez]
   rw [w_seq']
   simp [-w_seq']
   rw [w_seq']
   simp [-w_seq',hM,hw,hM0,hml,hr,he,hez,hto]
   obtain ⟨X,hX⟩:∃ X:AV,(if tt = 0 then ({ v:=.sl 0 0 2 0 m,hin:=[(0,.arr .exact 0 2 M)] }:Eff) else { v:=.sl 0 0 2 tt (m - tt),hin:=[(0,.arr .exact 0 2 M)] }) = { v:=X,hin:=[(0,.arr .exact 0 2 M)] }:=by
    split
    · exact ⟨_,rfl⟩
    · exact ⟨_,rfl⟩
   rw [hX]
   clear hX
   simp [-w_seq']
   rw [w_seq']
   simp [-w_seq']
   rw [w_seq',w_seq']
   simp [-w_seq']
   rw [w_seq']
   simp [-w_seq']
   rw [w_seq',w_seq']
   simp [-w_seq',hez]
   rw [w_seq',w_seq']
   simp [-w_seq',hez,hw]
   refine p_cap (b:=0) (ver:=0) (esz:=2) (off:=0) (len:=m) (es:=M) (by rfl) (by rfl) (by simp) (by omega) ?_
   have hwt1:IntKind.i64.wrap ((tt:Int) + 1) = tt + 1:=hwt
   have q1:¬ m < tt + 1:=by omega
   have q2:¬ tt = m + 1:=by omega
   have q3:tt + 1 ≤ m + 1:=by omega
   have q4:tt ≤ m + 1:=by omega
   have q5:m + 1 - (tt + 1) = m - tt:=by omega
   have q6:¬ tt + 1 = m + 1:=by omega
   have q7:0 ≤ (tt:Int) + 1:=by omega
   have q8:0 ≤ (m:Int) + 1:=by omega
   simp [-w_seq',hez,hw,hM]
   rw [w_seq']
   simp [-w_seq',hw,hM]
   rw [w_seq']
   simp [-w_seq',hw,hwt,hM,q2,q3,q4,q5,he,q7,q8]
   rw [w_seq']
   simp [-w_seq',hw,hwt,hM,q2,q3,q4,q5,he,q7,q8]
   refine cx (x294 (b:=1) (ver:=0) (esz:=2) (off:=0) (len:=1) (b':=0) (ver':=0) (esz':=2) (off':=tt + 1) (len':=m - tt) (o:=.arr .exact 0 2 [r]) (o':=.arr .exact 0 2 M) (by omega) rfl ?_) (by simp) ?_
   · cases M with
     | nil=>exact (hM0 rfl).elim
     | cons a b=>rfl
   have hsd:allShp Tryz.prog 2 ((M.drop tt).take (m + 1 - tt)):=by
    have key:∀ {l:List AV},allShp Tryz.prog 2 l ↔ ∀ v ∈ l,shpA v ≠ .bad ∧ shpSize Tryz.prog (shpA v) = 2:=by
     intro l
     induction l with
     | nil=>simp [allShp]
     | cons a b ih=>simp only [allShp,ih,List.mem_cons,forall_eq_or_imp]
    rw [key] at hs ⊢
    exact fun v hv=>hs v (List.mem_of_mem_drop (List.mem_of_mem_take hv))
   have t1:(M.drop tt).take (m + 1 - tt) = M.drop tt:=List.take_of_length_le (by simp; omega)
   rw [t1] at hsd
   have q9:tt ≠ m + 1:=by omega
   have q10:m - tt ≤ m + 1 - tt:=by omega
   have q11:min (m + 1 - tt) (m - tt) = m - tt:=by omega
   have q12:tt + 1 + (m - tt) = m + 1:=by omega
   have d1:M.drop (m + 1) = []:=List.drop_eq_nil_of_le (by omega)
   have q13:min 1 (m + 1 - tt) = 1:=by omega
   have l1:(M.take (tt + 1)).length = tt + 1:=by simp; omega
   have kA:∀ Y:List AV,(M.take (tt + 1) ++ Y).take tt = M.take tt:=fun Y=>by
    rw [List.take_append_of_le_length (by omega),List.take_take,show min tt (tt + 1) = tt by omega]
   have kB:∀ Y:List AV,(M.take (tt + 1) ++ Y).drop (tt + 1) = Y:=fun Y=>by
    rw [List.drop_append_of_le_length (by omega),List.drop_eq_nil_of_le (by omega),List.nil_append]
   by_cases h0:tt = 0
   · subst h0
     have w1:IntKind.i64.wrap 1 = 1:=by decide
     have m0:¬ 0 = m:=by omega
     have m1:¬ m = 0:=by omega
     have q14:min (m + 1) m = m:=by omega
     have kB0:=kB (M.take m)
     simp at d1 t1 hsd kB0
     simp [hw,hM,d1,t1,hsd,hM0,hr,w1,m0,m1,Nat.add_comm 1 m,he,q14,kB0]
     exact ⟨rfl,rfl⟩
   · simp [hw,hwt,hM,q2,q3,q4,q5,he,q7,q8,h0,hM0,t1,hsd,q9,q10,q11,q12,q13,d1,hr,kA,kB]
     exact ⟨rfl,rfl⟩
end Go.Abs
namespace Go.Abs
open Go.Proofs
set_option maxHeartbeats 4000000
set_option maxRecDepth 100000
@[simp] theorem renL_app {σ:Nat → Nat}:∀ {a b:List AV},renL σ (a ++ b) = renL σ a ++ renL σ b
 | [],b=>by simp [renL]
 | x :: a,b=>by simp [renL,renL_app (a:=a)]
def pairP (r:List RowD × Int):PV:=.tup [.seq (r.1.map eRow),.int .i64 r.2]
theorem noLoop1 {l:List RowD}:∀ (b:Nat) (L:LoopA),([rowsX l]:Heap)[b]? ≠ some (.loop L):=by
 intro b L
 cases b <;> simp
theorem g_added (l:List RowD) (e:EventD) (he:evB e) (h0:e.names ≠ []) (h:l.length ≤ 1000):GoodI Tryz.prog 207 [rowsX l] [.sl 0 0 2 0 l.length,.p (eEvent e)] [.dead] (.p (pairP (addS l e))):=by
 refine goodD_fn nf isF207 mix (by simp [Tryz.f207]) noLoop1 ?_
 have hT:=c_told e he
 obtain ⟨num,kind,names,vals,text⟩:=e
 obtain ⟨k,ns,rfl⟩:∃ k ns,names = k :: ns:=by
  cases names with
  | nil=>exact (h0 rfl).elim
  | cons k ns=>exact ⟨k,ns,rfl⟩
 have hK:keyN ⟨num,kind,k :: ns,vals,text⟩ = k:=rfl
 simp [Tryz.f207,eEvent]
 refine cf (g_at l k (by omega)) [0] ?_
 by_cases q1:0 ≤ atK l k
 · simp [q1,pairP,addS,hK]
 simp [q1,setAll]
 simp only [eEvent] at hT
 refine c1 hT ?_
 simp
 refine c2 (c_when (decide (256 ≤ l.length)) 5) ?_ (h1:=by simp; omega)
 simp
 refine cp (h1:=?g1) (c_first [toldE text,whenE (decide (256 ≤ l.length)) 5] (by simp)) (by simp; exact ⟨rfl,rfl⟩) ?_
 case g1=>simp
 by_cases q2:firstE [toldE text,whenE (decide (256 ≤ l.length)) 5] = 0
 · simp [q2]
   refine ⟨by simp only [maxL]; omega,?_⟩
   rw [if_neg (by omega)]
   have hS:addS l ⟨num,kind,k :: ns,vals,text⟩ = (l ++ [⟨k,(readV text).1⟩],0):=by
    simp only [addS,hK]
    rw [if_neg q1,if_neg (by simpa using q2)]
   have hE:AV.p (PV.st 54 [PV.str k,PV.seq (List.map (PV.int IntKind.i64) (readV text).fst)]) = (AV.p ∘ eRow) ⟨k,(readV text).1⟩:=rfl
   have hm:List.map (AV.p ∘ eRow) l ++ [(AV.p ∘ eRow) ⟨k,(readV text).1⟩] = List.map (AV.p ∘ eRow) (l ++ [⟨k,(readV text).1⟩]):=by simp
   simp only [hE,hm,hS,pairP]
   simp [-List.map_append,hS]
   rw [List.take_of_length_le (by simp)]
   rw [purl_map]
   intro x _
   simp
 · simp [q2,pairP,addS,hK,q1]
theorem g_changed (l:List RowD) (e:EventD) (he:evB e) (h0:e.names ≠ []) (h:l.length ≤ 1000) (hl:∀ r ∈ l,rowB r):GoodI Tryz.prog 208 [rowsX l] [.sl 0 0 2 0 l.length,.p (eEvent e)] [.dead] (.p (pairP (setS l e))):=by
 refine goodD_fn nf isF208 mix (by simp [Tryz.f208]) noLoop1 ?_
 have hT:=c_told e he
 have hrl:=readV_len e.text
 have htx:=he.2.2.2.2.1
 obtain ⟨num,kind,names,vals,text⟩:=e
 obtain ⟨k,ns,rfl⟩:∃ k ns,names = k :: ns:=by
  cases names with
  | nil=>exact (h0 rfl).elim
  | cons k ns=>exact ⟨k,ns,rfl⟩
 have hK:keyN ⟨num,kind,k :: ns,vals,text⟩ = k:=rfl
 simp [Tryz.f208,eEvent]
 refine cf (g_at l k (by omega)) [0] ?_
 rcases idx_look k l 0 with ⟨p1,p2⟩ | ⟨i,hi,p1,p2,p3⟩
 · have e1:atK l k = -1:=p2
   simp [e1,pairP,setS,hK]
 rw [Int.natCast_zero,Int.zero_add] at p1
 have e1:atK l k = i:=p1
 have e2:¬ (i:Int) < 0:=by omega
 have hE:eRow l[i] = .st 54 [.str l[i].key,.seq (l[i].vals.map (.int .i64))]:=rfl
 have hB:=hl _ (List.getElem_mem hi)
 simp [e1,e2,setAll]
 simp only [eEvent] at hT
 refine c1 hT ?_
 simp [hi,hE]
 refine c2 (c_equalInts (readV text).1 l[i].vals (by dsimp only at *; omega) hB.2) ?_
 simp
 refine c2 (c_when (decide ((readV text).1 = l[i].vals)) 9) ?_
 simp
 refine cp (h1:=?g1) (c_first [toldE text,whenE (decide ((readV text).1 = l[i].vals)) 9] (by simp)) (by simp; exact ⟨rfl,rfl⟩) ?_
 case g1=>simp
 have hd:decide ((l[i]?.map (·.vals)) = some (readV text).1) = decide ((readV text).1 = l[i].vals):=by
  rw [List.getElem?_eq_getElem hi]; simp; exact eq_comm
 by_cases q2:firstE [toldE text,whenE (decide ((readV text).1 = l[i].vals)) 9] = 0
 · simp [q2,hi,hE]
   have hS:setS l ⟨num,kind,k :: ns,vals,text⟩ = (l.set i ⟨k,(readV text).1⟩,0):=by
    simp only [setS,hK,e1,Int.toNat_natCast,hd]
    rw [if_neg e2,if_neg (by simpa using q2)]
   have hE2:AV.p (PV.st 54 [PV.str l[i].key,PV.seq (List.map (PV.int IntKind.i64) (readV text).fst)]) = (AV.p ∘ eRow) ⟨k,(readV text).1⟩:=by rw [p3]; rfl
   have hm:(List.map (AV.p ∘ eRow) l).set i ((AV.p ∘ eRow) ⟨k,(readV text).1⟩) = List.map (AV.p ∘ eRow) (l.set i ⟨k,(readV text).1⟩):=by rw [List.map_set]
   simp only [hE2,hm,hS,pairP]
   simp [-List.map_set,hS]
   rw [List.take_of_length_le (by simp)]
   rw [purl_map]
   intro x _
   simp
 · have hS:setS l ⟨num,kind,k :: ns,vals,text⟩ = ([],firstE [toldE text,whenE (decide ((readV text).1 = l[i].vals)) 9]):=by
    simp only [setS,hK,e1,Int.toNat_natCast,hd]
    rw [if_neg e2,if_pos q2]
   simp [q2,pairP,hS]
theorem g_dropped (l:List RowD) (e:EventD) (he:evB e) (h0:e.names ≠ []) (h:l.length ≤ 1000):GoodI Tryz.prog 209 [rowsX l] [.sl 0 0 2 0 l.length,.p (eEvent e)] [.dead] (.p (pairP (dropS l e))):=by
 refine goodD_fn nf isF209 mix (by simp [Tryz.f209]) noLoop1 ?_
 obtain ⟨num,kind,names,vals,text⟩:=e
 obtain ⟨k,ns,rfl⟩:∃ k ns,names = k :: ns:=by
  cases names with
  | nil=>exact (h0 rfl).elim
  | cons k ns=>exact ⟨k,ns,rfl⟩
 have hK:keyN ⟨num,kind,k :: ns,vals,text⟩ = k:=rfl
 simp [Tryz.f209,eEvent]
 refine cf (g_at l k (by omega)) [0] ?_
 rcases idx_look k l 0 with ⟨p1,p2⟩ | ⟨i,hi,p1,p2,p3⟩
 · have e1:atK l k = -1:=p2
   simp [e1,pairP,dropS,hK]
 rw [Int.natCast_zero,Int.zero_add] at p1
 have e1:atK l k = i:=p1
 have e2:¬ (i:Int) < 0:=by omega
 have hw:=wi1 (i:=i) (by omega)
 simp [e1,e2,setAll,hw]
 refine cf (g_delete l i hi (by omega)) [0] ?_
 have hS:dropS l ⟨num,kind,k :: ns,vals,text⟩ = (l.eraseIdx i,0):=by
  simp only [dropS,hK,e1,Int.toNat_natCast]
  rw [if_neg e2]
 have hl:(l.eraseIdx i).length = l.length - 1:=by rw [List.length_eraseIdx,if_pos hi]
 simp [setAll,hS,pairP,sig,renL_app,zRow]
 have ht:(List.map (AV.p ∘ eRow) (l.eraseIdx i) ++ [AV.p (.st 54 [.str [],.nsl])]).take (l.length - 1) = List.map (AV.p ∘ eRow) (l.eraseIdx i):=by
  rw [List.take_append_of_le_length (by simp [hl]),List.take_of_length_le (by simp [hl])]
 refine ⟨by omega,?_⟩
 rw [ht,purl_map]
 intro x _
 simp
end Go.Abs
namespace Go.Abs
open Go.Proofs
set_option maxHeartbeats 4000000
set_option maxRecDepth 100000
theorem ins_eq {α:Type} (a:α):∀ (n:Nat) (l:List α),n ≤ l.length → l.insertIdx n a = l.take n ++ a :: l.drop n
 | 0,l,_=>by simp
 | n + 1,[],h=>by simp at h
 | n + 1,x :: l,h=>by
  rw [List.insertIdx_succ_cons,ins_eq a n l (by simpa using h)]; simp
@[simp] theorem renL_pp {σ:Nat → Nat} {Q:List PV}:renL σ (Q.map AV.p) = Q.map AV.p:=by
 induction Q with
 | nil=>simp [renL]
 | cons x Q ih=>simp [renL,ren,ih]
@[simp] theorem refsL_pp {N:Nat × Nat → Prop} {Q:List PV}:refsLtl N (Q.map AV.p) = True:=by
 rw [refsLtl_mem,eq_iff_iff,iff_true]; intro v hv; obtain ⟨x,_,rfl⟩:=List.mem_map.1 hv; trivial
theorem g_insertP (Q : List PV) (r : PV) (m tt : Nat) (hM : Q.length = m + 1) (hto : tt ≤ m) (hm : m ≤ 1048576) (hs : ∀ q ∈ Q, shp q = .agg 54) (hr : shp r = .agg 54) :
    GoodI Tryz.prog 252 [.arr .exact 0 2 (Q.map AV.p),.arr .exact 0 2 [.p r]] [.sl 0 0 2 0 m,.p (.int .i64 tt),.sl 1 0 2 0 1] [.arr .exact 0 2 ((Q.take tt ++ (r :: (Q.drop tt).take (m - tt))).map AV.p),.arr .exact 0 2 [.p r]] (.sl 0 0 2 0 (m + 1)):=by
 have h:=g_insert (Q.map AV.p) (.p r) m tt (by simpa using hM) hto hm ?_ hr (fun N=>by rw [refsL_pp]; trivial) (fun _=>trivial)
 · simpa [List.map_take,List.map_drop] using h
 · clear hM
   induction Q with
   | nil=>trivial
   | cons q Q ih =>
    have hq:=hs q (by simp)
    exact ⟨by simp [shpA,hq],ih fun x hx=>hs x (by simp [hx])⟩
theorem g_moved (l:List RowD) (e:EventD) (he:evB e) (h0:e.names ≠ []) (hv:e.vals ≠ []) (hn:∀ n ∈ e.vals,0 ≤ n ∧ n ≤ 999999999) (h:l.length ≤ 1000):GoodI Tryz.prog 210 [rowsX l] [.sl 0 0 2 0 l.length,.p (eEvent e)] [.dead] (.p (pairP (moveS l e))):=by
 refine goodD_fn nf isF210 mix (by simp [Tryz.f210]) noLoop1 ?_
 obtain ⟨num,kind,names,vals,text⟩:=e
 obtain ⟨k,ns,rfl⟩:∃ k ns,names = k :: ns:=by
  cases names with
  | nil=>exact (h0 rfl).elim
  | cons k ns=>exact ⟨k,ns,rfl⟩
 obtain ⟨n,vs,rfl⟩:∃ n vs,vals = n :: vs:=by
  cases vals with
  | nil=>exact (hv rfl).elim
  | cons k ns=>exact ⟨k,ns,rfl⟩
 have hn:=hn n (by simp)
 have hK:keyN ⟨num,kind,k :: ns,n :: vs,text⟩ = k:=rfl
 have hP:placeN ⟨num,kind,k :: ns,n :: vs,text⟩ = n - 1:=rfl
 have hwn:IntKind.i64.wrap (n - 1) = n - 1:=wi64 _ (by omega) (by omega)
 have hwl:IntKind.i64.wrap ((l.length:Int) - 1) = (l.length:Int) - 1:=wi64 _ (by omega) (by omega)
 have hE:moveE l ⟨num,kind,k :: ns,n :: vs,text⟩ = firstE [whenE (decide (atK l k < 0)) 10,withinE (n - 1) 0 (l.length - 1),whenE (decide (atK l k = n - 1)) 9]:=rfl
 simp [Tryz.f210,eEvent]
 refine ef (g_at l k (by omega)) [0] ?_
 simp [setAll,hwn]
 refine c2 (c_when (decide (atK l k < 0)) 10) ?_
 simp [hwl]
 refine c3 (c_within (n - 1) 0 (l.length - 1)) ?_
 simp
 refine c2 (c_when (decide (atK l k = n - 1)) 9) ?_ (h1:=by simp; try (rw [Bool.eq_iff_iff]; simp))
 simp
 refine cp (h1:=?g1) (c_first [whenE (decide (atK l k < 0)) 10,withinE (n - 1) 0 (l.length - 1),whenE (decide (atK l k = n - 1)) 9] (by simp)) (by simp; exact ⟨rfl,rfl⟩) ?_
 case g1=>simp
 rw [← hE]
 by_cases q2:moveE l ⟨num,kind,k :: ns,n :: vs,text⟩ = 0
 · have q3:=q2
   rw [hE,first3,when0 (by omega),when0 (by omega),withinE,when0 (by omega)] at q3
   simp only [decide_eq_false_iff_not,Bool.or_eq_false_iff] at q3
   rcases idx_look k l 0 with ⟨p1,p2⟩ | ⟨i,hi,p1,p2,p3⟩
   · have e1:atK l k = -1:=p2
     rw [e1] at q3; exact (q3.1 (by omega)).elim
   rw [Int.natCast_zero,Int.zero_add] at p1
   have e1:atK l k = i:=p1
   obtain ⟨tt,ht⟩:∃ tt:Nat,n - 1 = tt:=⟨(n - 1).toNat,by omega⟩
   have hw:=wi1 (i:=i) (by omega)
   simp [q2,e1,hi,hw,ht]
   have hel:(l.eraseIdx i).length = l.length - 1:=by rw [List.length_eraseIdx,if_pos hi]
   refine ef (g_delete l i hi (by omega)) [0] ?_
   simp [sig,renL_app,zRow,hw,ht]
   have hR:eRow l[i] = .st 54 [.str l[i].key,.seq (l[i].vals.map (.int .i64))]:=rfl
   have hQ:List.map (AV.p ∘ eRow) (l.eraseIdx i) ++ [AV.p (.st 54 [.str [],.nsl])] = ((l.eraseIdx i).map eRow ++ [PV.st 54 [.str [],.nsl]]).map AV.p:=by simp
   have hQl:((l.eraseIdx i).map eRow ++ [PV.st 54 [.str [],.nsl]]).length = l.length - 1 + 1:=by simp [hel]
   have hQs:∀ q ∈ (l.eraseIdx i).map eRow ++ [PV.st 54 [.str [],.nsl]],shp q = .agg 54:=by
    intro q hq
    simp only [List.mem_append,List.mem_map,List.mem_singleton] at hq
    rcases hq with ⟨x,_,rfl⟩ | rfl <;> rfl
   have hres:((l.eraseIdx i).map eRow ++ [PV.st 54 [.str [],.nsl]]).take tt ++ (eRow l[i] :: (((l.eraseIdx i).map eRow ++ [PV.st 54 [.str [],.nsl]]).drop tt).take (l.length - 1 - tt)) = ((l.eraseIdx i).insertIdx tt l[i]).map eRow:=by
    rw [ins_eq _ _ _ (by omega),List.map_append,List.map_cons,List.map_take,List.map_drop]
    rw [List.take_append_of_le_length (by simp [hel]; omega),List.drop_append_of_le_length (by simp [hel]; omega),List.take_append_of_le_length (by simp [hel]),List.take_of_length_le (l:=((l.eraseIdx i).map eRow).drop tt) (by simp [hel])]
   rw [hQ]
   generalize (l.eraseIdx i).map eRow ++ [PV.st 54 [.str [],.nsl]] = Q at *
   have hI:=g_insertP Q (eRow l[i]) (l.length - 1) tt hQl (by omega) (by omega) hQs rfl
   rw [hres] at hI
   have hS:moveS l ⟨num,kind,k :: ns,n :: vs,text⟩ = ((l.eraseIdx i).insertIdx tt l[i],0):=by
    rw [moveS,if_neg (by simpa using q2)]
    simp [hK,hP,e1,ht,hi]
   have hil:((l.eraseIdx i).insertIdx tt l[i]).length = l.length:=by
    rw [ins_eq _ _ _ (by omega)]; simp [hel]; omega
   generalize (l.eraseIdx i).insertIdx tt l[i] = R at *
   refine ef hI [0,4] ?_
   simp [sig,renL_app,renL_pp,hS,pairP]
   refine ⟨⟨rfl,rfl⟩,by omega,?_⟩
   rw [List.take_of_length_le (by simp; omega),purl_map]
   intro x _
   simp
 · simp [q2,pairP,moveS]
end Go.Abs
namespace Go.Abs
def sumS:List Nat → Nat → Nat → Nat
 | [],_,n=>n
 | c :: r,i,n=>sumS r (i + 1) ((n + c * (i + 1)) % 999983)
def sumT (s:List Nat):List Nat:=low 6 (sumS s 0 0)
def textW (e:EventD):List (List Nat):=if (formS e.kind).2.2.1 = true then [e.text] else []
def bodyW (e:EventD):List (List Nat):=e.kind :: (e.names ++ (e.vals.map itoaN ++ textW e))
def lineT (e:EventD):List Nat:=joinN [32] (bodyW e)
def bodyT (e:EventD):List Nat:=itoaN e.num ++ 32 :: lineT e
def recN (e:EventD):List Nat:=sumT (bodyT e) ++ 58 :: bodyT e
def recT (e:EventD):List Nat:=recN e ++ [10]
def logT (l:List EventD):List Nat:=l.flatMap recT
def noEv:EventD:=⟨0,[],[],[],[]⟩
def fldS:Nat → Nat → List Nat → Bool → Option (List (List Nat) × List Int × List Nat × Bool)
 | 0,0,s,m=>some ([],[],s,m)
 | 0,v + 1,s,m=>if m = false then none else if (cutN 32 s).1 = [] then none else if (intR (cutN 32 s).1).2 = false then none
  else (fldS 0 v (cutN 32 s).2.1 (cutN 32 s).2.2).map fun x=>(x.1,(intR (cutN 32 s).1).1 :: x.2.1,x.2.2)
 | n + 1,v,s,m=>if m = false then none else if (cutN 32 s).1 = [] then none
  else (fldS n v (cutN 32 s).2.1 (cutN 32 s).2.2).map fun x=>((cutN 32 s).1 :: x.1,x.2)
def parsedS (s:List Nat):EventD × Bool :=
 if (formS (cutN 32 s).1).2.2.2 = false then (noEv,false)
 else match fldS (formS (cutN 32 s).1).1 (formS (cutN 32 s).1).2.1 (cutN 32 s).2.1 (cutN 32 s).2.2 with
  | none=>(noEv,false)
  | some x=>(⟨0,(cutN 32 s).1,x.1,x.2.1,if (formS (cutN 32 s).1).2.2.1 = true then x.2.2.1 else []⟩,x.2.2.2 == (formS (cutN 32 s).1).2.2.1)
def EventD.at (e:EventD) (n:Int):EventD:=⟨n,e.kind,e.names,e.vals,e.text⟩
def bodyRd (s:List Nat):EventD × Bool :=
 if (cutN 32 s).2.2 = false ∨ (intR (cutN 32 s).1).2 = false then (noEv,false)
 else ((parsedS (cutN 32 s).2.1).1.at (intR (cutN 32 s).1).1,(parsedS (cutN 32 s).2.1).2 && decide (chkEvent ((parsedS (cutN 32 s).2.1).1.at (intR (cutN 32 s).1).1) = 0))
def recR (s:List Nat) (number:Int):EventD × Int :=
 if s.length ≤ 6 ∨ s[6]? ≠ some 58 ∨ (s.take 6).all isD = false then (noEv,25)
 else if s.take 6 ≠ sumT (s.drop 7) then (noEv,27)
 else ((bodyRd (s.drop 7)).1,firstE [whenE (!(bodyRd (s.drop 7)).2) 25,whenE (decide ((bodyRd (s.drop 7)).1.num ≠ number)) 11])
def recL:List (Nat × List Nat) → List EventD → Nat → List EventD × Nat × Int
 | [],out,n=>(out,n,0)
 | x :: r,out,n=>if x.2.getLast? ≠ some 10 then (out,n,28) else if (recR x.2.dropLast (out.length + 1)).2 ≠ 0 then (out,n,(recR x.2.dropLast (out.length + 1)).2)
  else recL r (out ++ [(recR x.2.dropLast (out.length + 1)).1]) x.1
def recoverS (s:List Nat):List EventD × Nat × Int:=if 1000000 < s.length then ([],0,26) else recL (lns s) [] 0
def appendE (s:List Nat) (e:EventD):Int:=firstE [(recoverS s).2.2,chkEvent e,whenE (decide (e.num ≠ (recoverS s).1.length + 1)) 11]
def appendS (s:List Nat) (e:EventD):List Nat × Int :=
 if appendE s e ≠ 0 then ([],appendE s e) else if 1000000 < (s ++ recT e).length then ([],26) else (s ++ recT e,0)
theorem cutN_app (c:Nat):∀ (a b:List Nat),c ∉ a → cutN c (a ++ c :: b) = (a,b,true)
 | [],b,_=>by simp [cutN]
 | x :: a,b,h=>by
  have hx:x ≠ c:=fun e=>h (by rw [e]; exact List.mem_cons_self)
  simp only [List.cons_append,cutN,if_neg hx,cutN_app c a b fun hm=>h (List.mem_cons_of_mem _ hm)]
theorem cutN_none (c:Nat):∀ (a:List Nat),c ∉ a → cutN c a = (a,[],false)
 | [],_=>rfl
 | x :: a,h=>by
  have hx:x ≠ c:=fun e=>h (by rw [e]; exact List.mem_cons_self)
  simp only [cutN,if_neg hx,cutN_none c a fun hm=>h (List.mem_cons_of_mem _ hm)]
theorem cutN_eq (c:Nat):∀ (s:List Nat),((cutN c s).2.2 = true ∧ s = (cutN c s).1 ++ c :: (cutN c s).2.1) ∨ ((cutN c s).2.2 = false ∧ (cutN c s).1 = s ∧ (cutN c s).2.1 = [])
 | []=>by simp [cutN]
 | x :: r=>by
  rw [cutN]
  by_cases h:x = c
  · simp [h]
  · rw [if_neg h]
    rcases cutN_eq c r with ⟨h1,h2⟩ | ⟨h1,h2,h3⟩
    · left; refine ⟨h1,?_⟩
      dsimp only
      rw [List.cons_append,← h2]
    · right; exact ⟨h1,by simp only [h2],h3⟩
theorem cutN_not (c:Nat):∀ (s:List Nat),c ∉ (cutN c s).1
 | []=>by simp [cutN]
 | x :: r=>by
  rw [cutN]
  by_cases h:x = c
  · simp [h]
  · rw [if_neg h]
    have:=cutN_not c r
    simp only [List.mem_cons,not_or]
    exact ⟨fun e=>h e.symm,this⟩
theorem form_cases (k:List Nat):k = kAdd ∨ k = kSet ∨ k = kDrop ∨ k = kMove ∨ k = kUndo ∨ (formS k = (0,0,false,false)):=by
 by_cases h1:k = kAdd
 · exact .inl h1
 by_cases h2:k = kSet
 · exact .inr (.inl h2)
 by_cases h3:k = kDrop
 · exact .inr (.inr (.inl h3))
 by_cases h4:k = kMove
 · exact .inr (.inr (.inr (.inl h4)))
 by_cases h5:k = kUndo
 · exact .inr (.inr (.inr (.inr (.inl h5))))
 · exact .inr (.inr (.inr (.inr (.inr (by simp [formS,h1,h2,h3,h4,h5])))))
theorem form_add:formS kAdd = (1,0,true,true):=rfl
theorem form_set:formS kSet = (1,0,true,true):=rfl
theorem form_drop:formS kDrop = (1,0,false,true):=rfl
theorem form_move:formS kMove = (1,1,false,true):=rfl
theorem form_undo:formS kUndo = (0,0,false,true):=rfl
theorem low_succ' (i n:Nat):low (i + 1) n = low i (n / 10) ++ [48 + n % 10]:=by
 have:=low_app 1 n i
 rw [Nat.pow_one] at this
 rw [this]; simp [low]
theorem low_digN:∀ (i n:Nat),(low i n).all digN = true
 | 0,_=>rfl
 | i + 1,n=>by
  have ih:=low_digN i n
  have:n / 10 ^ i % 10 < 10:=Nat.mod_lt _ (by omega)
  simp only [low,List.all_cons,ih,Bool.and_true,digN,Bool.and_eq_true,decide_eq_true_eq]
  omega
theorem numT_low:∀ (i n:Nat),numT (low i n) = n % 10 ^ i
 | 0,n=>by simp [low,numT,Nat.mod_one]
 | i + 1,n=>by
  rw [low_succ',numT_snoc,numT_low i,Nat.pow_succ,Nat.mul_comm (10 ^ i) 10,Nat.mod_mul,Nat.add_sub_cancel_left]; omega
theorem nd_bound' (n:Nat):n < 10 ^ nd n:=by
 have h:=nd_lt (nd n) n
 have:¬ nd n < nd n:=Nat.lt_irrefl _
 rw [h] at this; omega
theorem low_numT:∀ (k:Nat) (s:List Nat),s.length = k → s.all digN = true → low k (numT s) = s
 | 0,s,h,_=>by rw [List.length_eq_zero_iff.1 h]; rfl
 | k + 1,s,h,ha=>by
  have hne:s ≠ []:=by intro e; subst e; simp at h
  obtain ⟨t,c,rfl⟩:∃ t c,s = t ++ [c]:=⟨s.dropLast,s.getLast hne,(List.dropLast_concat_getLast hne).symm⟩
  simp only [List.all_append,List.all_cons,List.all_nil,Bool.and_true,Bool.and_eq_true] at ha
  have hc:=ha.2
  simp only [digN,Bool.and_eq_true,decide_eq_true_eq] at hc
  have e1:(numT t * 10 + (c - 48)) / 10 = numT t:=by omega
  have e2:48 + (numT t * 10 + (c - 48)) % 10 = c:=by omega
  rw [numT_snoc,low_succ',e1,e2,low_numT k t (by simpa using h) ha.1]
theorem numT_ge:∀ (k:Nat) (c:Nat) (s:List Nat),s.length = k → 49 ≤ c → 10 ^ k ≤ numT (c :: s)
 | 0,c,s,h,hc=>by
  rw [List.length_eq_zero_iff.1 h]; simp [numT,decV]; omega
 | k + 1,c,s,h,hc=>by
  have hne:s ≠ []:=by intro e; subst e; simp at h
  obtain ⟨t,d,rfl⟩:∃ t d,s = t ++ [d]:=⟨s.dropLast,s.getLast hne,(List.dropLast_concat_getLast hne).symm⟩
  have ih:=numT_ge k c t (by simpa using h) hc
  rw [← List.cons_append,numT_snoc,Nat.pow_succ]; omega
theorem itoa_plain {s:List Nat} (h:plainN s = true):itoaN (numT s:Int) = s:=by
 simp only [plainN,Bool.and_eq_true,Bool.not_eq_true',decide_eq_false_iff_not] at h
 obtain ⟨⟨⟨h0,h9⟩,hz⟩,hd⟩:=h
 have hlt:=numT_lt s.length s rfl hd
 have h20:numT s < 10 ^ 20:=Nat.lt_of_lt_of_le hlt (Nat.pow_le_pow_right (by omega) (by omega))
 rw [itoaN_nat h20]
 have hnd:max 1 (nd (numT s)) = s.length:=by
  have h1:=nd_le hlt
  cases s with
  | nil=>simp at h0
  | cons c t =>
   by_cases hc:c = 48
   · subst hc
     have:t = []:=by
      cases t with
      | nil=>rfl
      | cons a b=>simp at hz
     subst this
     simp only [List.length_cons,List.length_nil] at h1 ⊢; omega
   · have hc2:49 ≤ c:=by
      simp only [List.all_cons,Bool.and_eq_true,digN,decide_eq_true_eq] at hd; omega
     have hge:=numT_ge t.length c t rfl hc2
     have:=(nd_lt t.length (numT (c :: t))).2 hge
     simp only [List.length_cons] at h1 ⊢; omega
 rw [hnd,low_numT _ s rfl hd]
theorem low_head:∀ {n:Nat},0 < n → (low (nd n) n).head? = some (48 + n / 10 ^ (nd n - 1)) ∧ 0 < n / 10 ^ (nd n - 1) ∧ n / 10 ^ (nd n - 1) < 10:=by
 intro n h
 have hp:=nd_pos h
 obtain ⟨m,hm⟩:∃ m,nd n = m + 1:=⟨nd n - 1,by omega⟩
 have h1:=nd_bound' n
 have h2:=(nd_lt m n).1 (by omega)
 rw [hm] at h1 ⊢
 have h3:n / 10 ^ m < 10:=by rw [Nat.div_lt_iff_lt_mul (Nat.pow_pos (by omega)),Nat.mul_comm,← Nat.pow_succ]; exact h1
 have h4:0 < n / 10 ^ m:=Nat.div_pos h2 (Nat.pow_pos (by omega))
 refine ⟨?_,by simpa using h4,by simpa using h3⟩
 simp [low,Nat.mod_eq_of_lt h3]
theorem low_length (n:Nat):∀ i,(low i n).length = i
 | 0=>rfl
 | i + 1=>by simp [low,low_length n i]
theorem plain_itoa {n:Nat} (h:n < 10 ^ 9):plainN (itoaN (n:Int)) = true ∧ numT (itoaN (n:Int)) = n:=by
 rw [itoaN_nat (by omega)]
 have h1:=nd_le h
 refine ⟨?_,?_⟩
 · simp only [plainN,low_length,low_digN,Bool.and_true,Bool.and_eq_true,Bool.not_eq_true',decide_eq_false_iff_not,Bool.and_eq_false_iff]
   refine ⟨⟨by omega,by omega⟩,?_⟩
   by_cases hn:1 < max 1 (nd n)
   · right
     have hn0:0 < n:=by
      rcases Nat.eq_zero_or_pos n with rfl | h
      · simp [nd] at hn
      · exact h
     have e:max 1 (nd n) = nd n:=by omega
     obtain ⟨k1,k2,k3⟩:=low_head hn0
     rw [e,k1]
     intro e2
     injection e2 with e2
     omega
   · left; exact hn
 · rw [numT_low]
   have:=nd_bound' n
   have h2:10 ^ nd n ≤ 10 ^ max 1 (nd n):=Nat.pow_le_pow_right (by omega) (by omega)
   exact Nat.mod_eq_of_lt (by omega)
theorem intR_itoa {n:Nat} (h:n < 10 ^ 9):intR (itoaN (n:Int)) = ((n:Int),true):=by
 obtain ⟨h1,h2⟩:=plain_itoa h
 rw [intR,if_pos h1,h2]
theorem digN_32 {s:List Nat} (h:s.all digN = true):32 ∉ s:=by
 intro hm
 have:=List.all_eq_true.1 h 32 hm
 simp [digN] at this
theorem itoa_32 {n:Nat} (h:n < 10 ^ 9):32 ∉ itoaN (n:Int):=by
 have:=(plain_itoa h).1
 simp only [plainN,Bool.and_eq_true] at this
 exact digN_32 this.2
theorem intR_plain {s:List Nat} (h:(intR s).2 = true):itoaN (intR s).1 = s ∧ 0 ≤ (intR s).1 ∧ (intR s).1 < 10 ^ 9:=by
 refine ⟨?_,intR_lt s⟩
 rw [intR] at h ⊢
 by_cases hp:plainN s = true
 · rw [if_pos hp]; exact itoa_plain hp
 · rw [if_neg hp] at h; cases h
end Go.Abs
namespace Go.Abs
theorem first4 {a b c d:Int}:firstE [a,b,c,d] = 0 ↔ a = 0 ∧ b = 0 ∧ c = 0 ∧ d = 0:=by
 simp only [firstE]
 by_cases h1:a = 0 <;> by_cases h2:b = 0 <;> by_cases h3:c = 0 <;> by_cases h4:d = 0 <;> simp [h1,h2,h3,h4]
theorem first3z {a b c:Int}:firstE [a,b,c] = 0 ↔ a = 0 ∧ b = 0 ∧ c = 0:=by
 simp only [firstE]
 by_cases h1:a = 0 <;> by_cases h2:b = 0 <;> by_cases h3:c = 0 <;> simp [h1,h2,h3]
theorem first2z {a b:Int}:firstE [a,b] = 0 ↔ a = 0 ∧ b = 0:=by
 simp only [firstE]
 by_cases h1:a = 0 <;> by_cases h2:b = 0 <;> simp [h1,h2]
theorem when_zero {b:Bool} {e:Int} (he:e ≠ 0):whenE b e = 0 ↔ b = false:=by cases b <;> simp [whenE,he]
theorem chkNames_all:∀ {l:List (List Nat)},chkNames l = 0 ↔ ∀ s ∈ l,isName s = true
 | []=>by simp [chkNames]
 | s :: r=>by
  rw [chkNames]
  by_cases h:isName s = true
  · rw [if_pos h,chkNames_all (l:=r)]; simp [h]
  · rw [if_neg h]; simp [h]
theorem chkNums_all:∀ {l:List Int},chkNums l = 0 ↔ ∀ n ∈ l,0 ≤ n ∧ n ≤ 999999999
 | []=>by simp [chkNums]
 | n :: r=>by
  rw [chkNums]
  by_cases h:n < 0 ∨ n > 999999999
  · rw [if_pos h]; simp; intro h1; omega
  · rw [if_neg h,chkNums_all (l:=r)]; simp; intro _; omega
inductive EvK (e:EventD):Prop
 | row (k:List Nat) (hk:e.kind = kAdd ∨ e.kind = kSet) (hn:e.names = [k]) (hv:e.vals = []) (ht:10 ∉ e.text) (hi:isName k = true)
 | drop (k:List Nat) (hk:e.kind = kDrop) (hn:e.names = [k]) (hv:e.vals = []) (ht:e.text = []) (hi:isName k = true)
 | move (k:List Nat) (n:Nat) (hk:e.kind = kMove) (hn:e.names = [k]) (hv:e.vals = [(n:Int)]) (ht:e.text = []) (hi:isName k = true) (hl:n < 10 ^ 9)
 | undo (hk:e.kind = kUndo) (hn:e.names = []) (hv:e.vals = []) (ht:e.text = [])
theorem oneL {α:Type} {l:List α} (h:l.length = 1):∃ x,l = [x]:=by
 cases l with
 | nil=>simp at h
 | cons a r =>
  have:r = []:=List.length_eq_zero_iff.1 (by simpa using h)
  exact ⟨a,by rw [this]⟩
theorem evK {e:EventD} (h:chkEvent e = 0):EvK e ∧ 1 ≤ e.num ∧ e.num ≤ 1000 ∧ e.text.length ≤ 4096:=by
 rw [chkEvent,first4] at h
 obtain ⟨h1,h2,h3,h4⟩:=h
 rw [chkShape,first3z] at h1
 obtain ⟨g1,g2,g3⟩:=h1
 rw [withinE,when_zero (by omega)] at g1
 rw [when_zero (by omega)] at g2 g3
 simp only [Bool.or_eq_false_iff,decide_eq_false_iff_not] at g1
 simp only [Bool.not_eq_false'] at g2
 simp only [Bool.or_eq_false_iff,decide_eq_false_iff_not,ne_eq,Decidable.not_not] at g3
 rw [chkNames_all] at h2
 rw [chkNums_all] at h3
 rw [chkText,first2z] at h4
 obtain ⟨g4,g5⟩:=h4
 rw [when_zero (by omega)] at g4 g5
 simp only [Bool.or_eq_false_iff,decide_eq_false_iff_not] at g4 g5
 refine ⟨?_,by omega,by omega,by omega⟩
 rcases form_cases e.kind with k | k | k | k | k | k
 · rw [k,form_add] at g3
   obtain ⟨s,hs⟩:=oneL g3.1
   exact .row s (.inl k) hs (List.length_eq_zero_iff.1 g3.2) g4.2 (h2 s (by rw [hs]; simp))
 · rw [k,form_set] at g3
   obtain ⟨s,hs⟩:=oneL g3.1
   exact .row s (.inr k) hs (List.length_eq_zero_iff.1 g3.2) g4.2 (h2 s (by rw [hs]; simp))
 · rw [k,form_drop] at g3 g4
   obtain ⟨s,hs⟩:=oneL g3.1
   exact .drop s k hs (List.length_eq_zero_iff.1 g3.2) (by simpa using g4.1) (h2 s (by rw [hs]; simp))
 · rw [k,form_move] at g3 g4
   obtain ⟨s,hs⟩:=oneL g3.1
   obtain ⟨n,hn⟩:=oneL g3.2
   have hb:=h3 n (by rw [hn]; simp)
   exact .move s n.toNat k hs (by rw [hn]; congr 1; omega) (by simpa using g4.1) (h2 s (by rw [hs]; simp)) (by omega)
 · rw [k,form_undo] at g3 g4
   exact .undo k (List.length_eq_zero_iff.1 g3.1) (List.length_eq_zero_iff.1 g3.2) (by simpa using g4.1)
 · rw [k] at g2; cases g2
theorem parsed_line {e:EventD} (h:EvK e) (hname:∀ k,isName k = true → 32 ∉ k ∧ k ≠ []):parsedS (lineT e) = (e.at 0,true):=by
 obtain ⟨num,kind,names,vals,text⟩:=e
 cases h with
 | row k hk hn hv ht hi =>
  obtain ⟨b1,b2⟩:=hname k hi
  dsimp only at hk hn hv ht
  subst hn; subst hv
  have c2:cutN 32 (k ++ 32 :: text) = (k,text,true):=cutN_app 32 k text b1
  rcases hk with rfl | rfl
  · have c1:cutN 32 (lineT ⟨num,kAdd,[k],[],text⟩) = (kAdd,k ++ 32 :: text,true):=by
     have:lineT ⟨num,kAdd,[k],[],text⟩ = kAdd ++ 32 :: (k ++ 32 :: text):=by simp [lineT,bodyW,textW,form_add,joinN]
     rw [this]; exact cutN_app 32 _ _ (by decide)
    simp [parsedS,c1,form_add,fldS,c2,b2,EventD.at]
  · have c1:cutN 32 (lineT ⟨num,kSet,[k],[],text⟩) = (kSet,k ++ 32 :: text,true):=by
     have:lineT ⟨num,kSet,[k],[],text⟩ = kSet ++ 32 :: (k ++ 32 :: text):=by simp [lineT,bodyW,textW,form_set,joinN]
     rw [this]; exact cutN_app 32 _ _ (by decide)
    simp [parsedS,c1,form_set,fldS,c2,b2,EventD.at]
 | drop k hk hn hv ht hi =>
  obtain ⟨b1,b2⟩:=hname k hi
  dsimp only at hk hn hv ht
  subst hn; subst hv; subst ht; subst hk
  have c2:cutN 32 k = (k,[],false):=cutN_none 32 k b1
  have c1:cutN 32 (lineT ⟨num,kDrop,[k],[],[]⟩) = (kDrop,k,true):=by
   have:lineT ⟨num,kDrop,[k],[],[]⟩ = kDrop ++ 32 :: k:=by simp [lineT,bodyW,textW,form_drop,joinN]
   rw [this]; exact cutN_app 32 _ _ (by decide)
  simp [parsedS,c1,form_drop,fldS,c2,b2,EventD.at]
 | move k n hk hn hv ht hi hl =>
  obtain ⟨b1,b2⟩:=hname k hi
  dsimp only at hk hn hv ht
  subst hn; subst hv; subst ht; subst hk
  have c3:cutN 32 (itoaN (n:Int)) = (itoaN (n:Int),[],false):=cutN_none 32 _ (itoa_32 hl)
  have c2:cutN 32 (k ++ 32 :: itoaN (n:Int)) = (k,itoaN (n:Int),true):=cutN_app 32 k _ b1
  have c1:cutN 32 (lineT ⟨num,kMove,[k],[(n:Int)],[]⟩) = (kMove,k ++ 32 :: itoaN (n:Int),true):=by
   have:lineT ⟨num,kMove,[k],[(n:Int)],[]⟩ = kMove ++ 32 :: (k ++ 32 :: itoaN (n:Int)):=by simp [lineT,bodyW,textW,form_move,joinN]
   rw [this]; exact cutN_app 32 _ _ (by decide)
  have hne:itoaN (n:Int) ≠ []:=by
   intro h
   have:=(plain_itoa hl).1
   rw [h] at this; simp [plainN] at this
  simp [parsedS,c1,form_move,fldS,c2,c3,b2,hne,intR_itoa hl,EventD.at]
 | undo hk hn hv ht =>
  dsimp only at hk hn hv ht
  subst hn; subst hv; subst ht; subst hk
  have c1:cutN 32 (lineT ⟨num,kUndo,[],[],[]⟩) = (kUndo,[],false):=by
   have:lineT ⟨num,kUndo,[],[],[]⟩ = kUndo:=by simp [lineT,bodyW,textW,form_undo,joinN]
   rw [this]; exact cutN_none 32 _ (by decide)
  simp [parsedS,c1,form_undo,fldS,EventD.at]
theorem body_read {e:EventD} (h:chkEvent e = 0) (hname:∀ k,isName k = true → 32 ∉ k ∧ k ≠ []):bodyRd (bodyT e) = (e,true):=by
 obtain ⟨hk,h1,h2,_⟩:=evK h
 obtain ⟨n,hn⟩:∃ n:Nat,e.num = n:=⟨e.num.toNat,by omega⟩
 have hl:n < 10 ^ 9:=by omega
 have c1:cutN 32 (bodyT e) = (itoaN (n:Int),lineT e,true):=by
  rw [bodyT,hn]; exact cutN_app 32 _ _ (itoa_32 hl)
 have h0:(e.at 0).at (n:Int) = e:=by rw [← hn]; rfl
 simp [bodyRd,c1,intR_itoa hl,parsed_line hk hname,h0,h]
theorem parsed_inv {s:List Nat} (h:(parsedS s).2 = true):lineT (parsedS s).1 = s:=by
 have q1:=cutN_eq 32 s
 rw [parsedS] at h ⊢
 generalize hc:cutN 32 s = c at *
 obtain ⟨k,r,m⟩:=c
 dsimp only at *
 have q2:=cutN_eq 32 r
 have q3:=cutN_eq 32 (cutN 32 r).2.1
 generalize hd:cutN 32 r = d at *
 obtain ⟨k2,r2,m2⟩:=d
 dsimp only at *
 have q4:=@intR_plain (cutN 32 r2).1
 generalize hf:cutN 32 r2 = f at *
 obtain ⟨k3,r3,m3⟩:=f
 dsimp only at *
 have row : ∀ K, formS K = (1, 0, true, true) → k = K → lineT (if (formS k).2.2.2 = false then (noEv, false) else match fldS (formS k).1 (formS k).2.1 r m with
     | none=>(noEv,false)
     | some x=>(⟨0,k,x.1,x.2.1,if (formS k).2.2.1 = true then x.2.2.1 else []⟩,x.2.2.2 == (formS k).2.2.1)).1 = s:=by
  rintro K hK rfl
  simp only [hK] at h ⊢
  cases m with
  | false=>simp [fldS] at h
  | true =>
   by_cases hk2:k2 = []
   · simp [fldS,hd,hk2] at h
   · simp [fldS,hd,hk2] at h
     subst h
     rcases q1 with ⟨_,e1⟩ | ⟨e1,_⟩
     · rcases q2 with ⟨_,e2⟩ | ⟨e2,_⟩
       · simp [fldS,hd,hk2,lineT,bodyW,textW,hK,joinN]
         rw [e1,e2]
       · cases e2
     · cases e1
 rcases form_cases k with hk | hk | hk | hk | hk | hk
 · exact row kAdd form_add hk
 · exact row kSet form_set hk
 · subst hk
   simp only [form_drop] at h ⊢
   cases m with
   | false=>simp [fldS] at h
   | true =>
    by_cases hk2:k2 = []
    · simp [fldS,hd,hk2] at h
    · simp [fldS,hd,hk2] at h
      subst h
      rcases q1 with ⟨_,e1⟩ | ⟨e1,_⟩
      · rcases q2 with ⟨e2,_⟩ | ⟨_,e2,e3⟩
        · cases e2
        · simp [fldS,hd,hk2,lineT,bodyW,textW,form_drop,joinN]
          rw [e1,e2]
      · cases e1
 · subst hk
   simp only [form_move] at h ⊢
   cases m with
   | false=>simp [fldS] at h
   | true =>
    by_cases hk2:k2 = []
    · simp [fldS,hd,hk2] at h
    · cases m2 with
      | false=>simp [fldS,hd,hk2] at h
      | true =>
       by_cases hk3:k3 = []
       · simp [fldS,hd,hf,hk2,hk3] at h
       · cases hi:(intR k3).2 with
         | false=>simp [fldS,hd,hf,hk2,hk3,hi] at h
         | true =>
          simp [fldS,hd,hf,hk2,hk3,hi] at h
          subst h
          rcases q1 with ⟨_,e1⟩ | ⟨e1,_⟩
          · rcases q2 with ⟨_,e2⟩ | ⟨e2,_⟩
            · rcases q3 with ⟨e3,_⟩ | ⟨_,e3,_⟩
              · cases e3
              · simp [fldS,hd,hf,hk2,hk3,hi,lineT,bodyW,textW,form_move,joinN]
                rw [(q4 hi).1,e1,e2,e3]
            · cases e2
          · cases e1
 · subst hk
   simp only [form_undo] at h ⊢
   simp [fldS] at h
   subst h
   rcases q1 with ⟨e1,_⟩ | ⟨_,e1,_⟩
   · cases e1
   · simp [fldS,lineT,bodyW,textW,form_undo,joinN]
     exact e1
 · simp [hk] at h
theorem body_inv {s:List Nat} (h:(bodyRd s).2 = true):bodyT (bodyRd s).1 = s ∧ chkEvent (bodyRd s).1 = 0:=by
 have q1:=cutN_eq 32 s
 rw [bodyRd] at h ⊢
 by_cases hc:(cutN 32 s).2.2 = false ∨ (intR (cutN 32 s).1).2 = false
 · rw [if_pos hc] at h; cases h
 · rw [if_neg hc] at h ⊢
   simp only [not_or,Bool.not_eq_false] at hc
   simp only [Bool.and_eq_true,decide_eq_true_eq] at h
   refine ⟨?_,h.2⟩
   have h1:=parsed_inv h.1
   rcases q1 with ⟨_,e1⟩ | ⟨e1,_⟩
   · have e2:lineT ((parsedS (cutN 32 s).2.1).1.at (intR (cutN 32 s).1).1) = lineT (parsedS (cutN 32 s).2.1).1:=rfl
     rw [bodyT,e2,h1]
     show itoaN (intR (cutN 32 s).1).1 ++ _ = _
     rw [(intR_plain hc.2).1,← e1]
   · rw [e1] at hc; cases hc.1
theorem sumT_len (s:List Nat):(sumT s).length = 6:=low_length _ _
theorem sumT_dig (s:List Nat):(sumT s).all isD = true:=low_digN _ _
theorem rec_read {e:EventD} (h:chkEvent e = 0) (hname:∀ k,isName k = true → 32 ∉ k ∧ k ≠ []) (number:Int):recR (recN e) number = (e,if e.num = number then 0 else 11):=by
 have hl:(recN e).length = 7 + (bodyT e).length:=by simp [recN,sumT_len]; omega
 have h6:(recN e)[6]? = some 58:=by
  rw [recN,List.getElem?_append_right (by rw [sumT_len]; omega),sumT_len]; rfl
 have ht:(recN e).take 6 = sumT (bodyT e):=by
  rw [recN,List.take_append_of_le_length (by rw [sumT_len]; omega),List.take_of_length_le (by rw [sumT_len]; omega)]
 have hd:(recN e).drop 7 = bodyT e:=by
  rw [recN,List.drop_append,List.drop_eq_nil_of_le (by rw [sumT_len]; omega),sumT_len]; rfl
 rw [recR,if_neg (by rw [h6,ht,sumT_dig]; simp; omega),ht,hd,if_neg (by simp),body_read h hname]
 by_cases hn:e.num = number <;> simp [firstE,whenE,hn]
theorem rec_inv {s:List Nat} {number:Int} (h:(recR s number).2 = 0):recN (recR s number).1 = s ∧ chkEvent (recR s number).1 = 0 ∧ (recR s number).1.num = number:=by
 rw [recR] at h ⊢
 split at h
 · cases h
 rename_i h1
 rw [if_neg h1]
 split at h
 · cases h
 rename_i h2
 rw [if_neg h2]
 simp only [not_or,Bool.not_eq_false,ne_eq,Decidable.not_not] at h1 h2
 obtain ⟨g1,g2,g3⟩:=h1
 dsimp only at h ⊢
 have h3:(bodyRd (s.drop 7)).2 = true ∧ (bodyRd (s.drop 7)).1.num = number:=by
  simp only [firstE] at h
  cases hb:(bodyRd (s.drop 7)).2
  · simp [hb,whenE] at h
  · by_cases hn:(bodyRd (s.drop 7)).1.num = number
    · exact ⟨rfl,hn⟩
    · simp [hb,hn,whenE] at h
 obtain ⟨k1,k2⟩:=body_inv h3.1
 refine ⟨?_,k2,h3.2⟩
 rw [recN,k1,← h2]
 have e7:s.drop 6 = 58 :: s.drop 7:=by
  have hlt:6 < s.length:=by omega
  rw [List.drop_eq_getElem_cons hlt]
  congr 1
  rw [List.getElem?_eq_getElem hlt] at g2
  injection g2
 rw [← e7,List.take_append_drop]
end Go.Abs
namespace Go.Abs
open Go.Proofs
set_option maxHeartbeats 4000000
set_option maxRecDepth 100000
def storyV (ve ne vs ns:Nat):AV:=.st 237 [.sl 1 ve 5 0 ne,.sl 2 vs 1 0 ns]
def stH (d:StoryD) (ve vs:Nat) (J:List PV):Heap:=[.box false (storyV ve d.evs.length vs d.sts.length),.arr .grow ve 5 (d.evs.map (AV.p ∘ eEvent)),.arr .grow vs 1 (d.sts.map (AV.p ∘ eRows) ++ J.map AV.p)]
theorem g_rows (d:StoryD) (ve vs:Nat) (J:List PV) (hb:d.sts.length ≤ 1000):GoodI Tryz.prog 140 (stH d ve vs J) [.ptr 0 []] (stH d ve vs J) (.p (.seq (d.now.map eRow))):=by
 obtain ⟨evs,sts⟩:=d
 rcases List.eq_nil_or_concat sts with rfl | ⟨t,x,rfl⟩
 · refine GoodI.weak (v:=.nsl) ?_ (by simp [StoryD.now])
   refine goodI_fn nf isF140 mix (by simp [Tryz.f140]) ?_
   simp [Tryz.f140,stH,storyV]
 · simp only [List.concat_eq_append] at hb ⊢
   refine goodI_fn nf isF140 mix (by simp [Tryz.f140]) ?_
   have hl:IntKind.i64.wrap (t.length:Int) = t.length:=wi64 _ (by omega) (by simp at hb; omega)
   have hz:¬ (t.length:Int) + 1 = 0:=by omega
   simp [Tryz.f140,stH,storyV,hl,hz,StoryD.now,eRows]
theorem do_of (l : List RowD) (e : EventD) (he : evB e) (hc : chkEvent e = 0) (hu : e.kind ≠ kUndo) (h : l.length ≤ 1000) (hl : ∀ r ∈ l, rowB r) :
    ∃ f,kindF e.kind = .func f [] [] ∧ (formS e.kind).2.2.2 = true ∧ GoodI Tryz.prog f [rowsX l] [.sl 0 0 2 0 l.length,.p (eEvent e)] [.dead] (.p (pairP (stepS l e))):=by
 have sd:¬ kDrop = kAdd ∧ ¬ kDrop = kSet:=by decide
 have sm:¬ kMove = kAdd ∧ ¬ kMove = kSet ∧ ¬ kMove = kDrop:=by decide
 have ss:¬ kSet = kAdd:=by decide
 rcases (evK hc).1 with ⟨k,hk,hn,hv,ht,hi⟩ | ⟨k,hk,hn,hv,ht,hi⟩ | ⟨k,n,hk,hn,hv,ht,hi,hl9⟩ | ⟨hk,_⟩
 · have h0:e.names ≠ []:=by rw [hn]; simp
   rcases hk with hk | hk
   · refine ⟨207,by simp [kindF,hk],by rw [hk]; rfl,?_⟩
     have:stepS l e = addS l e:=by rw [stepS,if_pos hk]
     rw [this]; exact g_added l e he h0 h
   · refine ⟨208,by simp [kindF,hk,ss],by rw [hk]; rfl,?_⟩
     have:stepS l e = setS l e:=by rw [stepS,if_neg (by rw [hk]; exact ss),if_pos hk]
     rw [this]; exact g_changed l e he h0 h hl
 · have h0:e.names ≠ []:=by rw [hn]; simp
   refine ⟨209,by simp [kindF,hk,sd],by rw [hk]; rfl,?_⟩
   have:stepS l e = dropS l e:=by rw [stepS,if_neg (by rw [hk]; exact sd.1),if_neg (by rw [hk]; exact sd.2),if_pos hk]
   rw [this]; exact g_dropped l e he h0 h
 · have h0:e.names ≠ []:=by rw [hn]; simp
   refine ⟨210,by simp [kindF,hk,sm],by rw [hk]; rfl,?_⟩
   have:stepS l e = moveS l e:=by rw [stepS,if_neg (by rw [hk]; exact sm.1),if_neg (by rw [hk]; exact sm.2.1),if_neg (by rw [hk]; exact sm.2.2)]
   rw [this]; exact g_moved l e he h0 (by rw [hv]; simp) (by rw [hv]; simp; omega) h
 · exact (hu hk).elim
theorem keyN_B {e:EventD} (he:evB e):(keyN e).length ≤ 1000000:=by
 rw [keyN]
 cases h:e.names with
 | nil=>simp
 | cons k ns=>exact he.2.2.1 k (by rw [h]; simp)
theorem step_B {l:List RowD} {e:EventD} (he:evB e) (h:l.length ≤ 1000) (hl:∀ r ∈ l,rowB r):(stepS l e).1.length ≤ 1000 ∧ ∀ r ∈ (stepS l e).1,rowB r:=by
 have hk:=keyN_B he
 have hv:=readV_len e.text
 have ht:=he.2.2.2.2.1
 have hrow:rowB ⟨keyN e,(readV e.text).1⟩:=⟨by dsimp only; omega,by dsimp only; omega⟩
 have nil:([]:List RowD).length ≤ 1000 ∧ ∀ r ∈ ([]:List RowD),rowB r:=⟨by simp,by simp⟩
 rw [stepS]
 split
 · rw [addS]
   split
   · exact nil
   · split
     · exact nil
     · rename_i q
       rw [ne_eq,Decidable.not_not,first2,when0 (by omega),decide_eq_false_iff_not] at q
       refine ⟨by simp; omega,fun r hr=>?_⟩
       rcases List.mem_append.1 hr with hr | hr
       · exact hl r hr
       · rw [List.mem_singleton.1 hr]; exact hrow
 split
 · rw [setS]
   split
   · exact nil
   · split
     · exact nil
     · refine ⟨by simpa using h,fun r hr=>?_⟩
       rcases List.mem_or_eq_of_mem_set hr with hr | rfl
       · exact hl r hr
       · exact hrow
 split
 · rw [dropS]
   split
   · exact nil
   · refine ⟨?_,fun r hr=>hl r (List.mem_of_mem_eraseIdx hr)⟩
     have:=List.length_eraseIdx_le l (atK l (keyN e)).toNat
     exact Nat.le_trans this h
 · rw [moveS]
   split
   · exact nil
   · rename_i q
     rw [ne_eq,Decidable.not_not,moveE,first3,when0 (by omega),when0 (by omega),withinE,when0 (by omega)] at q
     simp only [decide_eq_false_iff_not,Bool.or_eq_false_iff] at q
     rcases idx_look (keyN e) l 0 with ⟨p1,p2⟩ | ⟨i,hi,p1,p2,p3⟩
     · have e1:atK l (keyN e) = -1:=p2
       rw [e1] at q; exact (q.1 (by omega)).elim
     rw [Int.natCast_zero,Int.zero_add] at p1
     have e1:atK l (keyN e) = i:=p1
     have hel:(l.eraseIdx i).length = l.length - 1:=by rw [List.length_eraseIdx,if_pos hi]
     rw [e1,Int.toNat_natCast,List.getElem?_eq_getElem hi,Option.getD_some,ins_eq _ _ _ (by omega)]
     refine ⟨by simp [hel]; omega,fun r hr=>?_⟩
     rcases List.mem_append.1 hr with hr | hr
     · exact hl r (List.mem_of_mem_eraseIdx (List.mem_of_mem_take hr))
     rcases List.mem_cons.1 hr with rfl | hr
     · exact hl _ (List.getElem_mem hi)
     · exact hl r (List.mem_of_mem_eraseIdx (List.mem_of_mem_drop hr))
@[simp] theorem ft_do {u : TypeId} {fs : List PV} : fieldV Tryz.prog 230 3 (.p (.st u fs)) = (match fs[3]? with
    | some g=>some (u = 229 ∧ Shp.leaf = shp g,({ v:=.p g }:Eff))
    | none=>none):=fieldV_st (show fieldT Tryz.prog 230 3 = some (229,.leaf) by kernel_rfl)
theorem g_accept (d : StoryD) (ve vs : Nat) (J : List PV) (e : EventD) (he : evB e) (hc : chkEvent e = 0) (hb : d.evs.length ≤ 1000) (hj : d.sts.length + J.length ≤ d.evs.length) (hr : ∀ l ∈ d.sts, l.length ≤ 1000 ∧ ∀ r ∈ l, rowB r) :
    ∃ ve' vs' J',GoodI Tryz.prog 146 (stH d ve vs J) [.ptr 0 [],.p (eEvent e)] (stH (if acceptE d e = 0 then acceptD d e else d) ve' vs' J') (.p (.int .i64 (acceptE d e))) ∧
     (if acceptE d e = 0 then acceptD d e else d).sts.length + J'.length ≤ (if acceptE d e = 0 then acceptD d e else d).evs.length:=by
 have hnow:d.now.length ≤ 1000 ∧ ∀ r ∈ d.now,rowB r:=by
  rw [StoryD.now]
  cases hg:d.sts.getLast? with
  | none=>simp
  | some l=>exact hr l (List.mem_of_getLast? hg)
 have hdo:=fun hu=>do_of d.now e he hc hu hnow.1 hnow.2
 have hrows:=g_rows d ve vs J (by omega)
 have hnl:=hnow.1
 have hcl1:=c_cloneS e.names (by have:=he.2.1; omega)
 have hcl2:=c_clone e.vals (by have:=he.2.2.2.1; omega)
 obtain ⟨num,kind,names,vals,text⟩:=e
 dsimp only at hcl1 hcl2 hdo
 have hwn:IntKind.i64.wrap ((d.evs.length:Int) + 1) = d.evs.length + 1:=wi1 (by omega)
 by_cases q1:num = d.evs.length + 1
 case neg =>
  have hA:acceptE d ⟨num,kind,names,vals,text⟩ = 11:=by simp [acceptE,q1]
  refine ⟨ve,vs,J,?_,by simpa [hA] using hj⟩
  rw [hA,if_neg (by omega)]
  refine goodI_fn nf isF146 mix (by simp [Tryz.f146]) ?_
  simp [Tryz.f146,stH,storyV,eEvent,hwn,q1]
  refine ForgetN.og (by simp) (by simp) (by simp) (by simp) (by simp)
 by_cases q2:kind = kUndo
 · subst q2
   rcases List.eq_nil_or_concat d.sts with hs | ⟨t,x,hs⟩
   · have hA:acceptE d ⟨num,kUndo,names,vals,text⟩ = 12:=by simp [acceptE,q1,hs]
     refine ⟨ve,vs,J,?_,by simpa [hA] using hj⟩
     rw [hA,if_neg (by omega)]
     refine goodI_fn nf isF146 mix (by simp [Tryz.f146]) ?_
     simp [Tryz.f146,stH,storyV,eEvent,hwn,q1,hs,kUndo]
     refine ForgetN.og (by simp) (by simp) (by simp) (by simp) (by simp)
   · have hA:acceptE d ⟨num,kUndo,names,vals,text⟩ = 0:=by simp [acceptE,q1,hs]
     have hD:acceptD d ⟨num,kUndo,names,vals,text⟩ = ⟨d.evs ++ [⟨num,kUndo,names,vals,text⟩],t⟩:=by simp [acceptD,hs]
     rw [hs] at hj
     simp at hj
     refine ⟨ve + 1,vs,eRows x :: J,?_,by rw [if_pos hA,hD]; simp; omega⟩
     rw [if_pos hA,hD,hA]
     refine goodI_fn nf isF146 mix (by simp [Tryz.f146]) ?_
     have hw1:IntKind.i64.wrap (t.length:Int) = t.length:=wi64 _ (by omega) (by omega)
     have hz:¬ (t.length:Int) + 1 = 0:=by omega
     have hm:d.evs.length + 1 ≤ maxL:=by simp only [maxL]; omega
     simp [Tryz.f146,stH,storyV,eEvent,hwn,q1,hs,kUndo,hw1,hz]
     refine ⟨⟨rfl,rfl⟩,?_⟩
     refine e1 hcl1 ?_
     simp
     refine e1 hcl2 ?_
     simp [hm]
     refine ⟨⟨⟨rfl,rfl,rfl⟩,rfl,rfl⟩,⟨rfl,rfl⟩,ForgetN.og (by simp [eEvent,q1]) (by simp) (by simp [eEvent,q1]) (by simp) (by simp)⟩
 · obtain ⟨f,f1,f2,f3⟩:=hdo q2
   have hA:acceptE d ⟨num,kind,names,vals,text⟩ = (stepS d.now ⟨num,kind,names,vals,text⟩).2:=by simp [acceptE,q1,q2]
   have hD:acceptD d ⟨num,kind,names,vals,text⟩ = ⟨d.evs ++ [⟨num,kind,names,vals,text⟩],d.sts ++ [(stepS d.now ⟨num,kind,names,vals,text⟩).1]⟩:=by simp [acceptD,q2]
   have hlk:=kinds_look kind
   rw [if_pos f2] at hlk
   rw [f1] at hlk
   have q2':¬ kind = [117,110,100,111]:=q2
   rw [hA,hD]
   generalize stepS d.now ⟨num,kind,names,vals,text⟩ = S at *
   obtain ⟨S,err⟩:=S
   dsimp only at hA hD ⊢
   by_cases q3:err = 0
   · subst q3
     refine ⟨ve + 1,vs + 1,[],?_,by simp; omega⟩
     rw [if_pos rfl]
     refine goodI_fn nf isF146 mix (by simp [Tryz.f146]) ?_
     have hm:d.evs.length + 1 ≤ maxL:=by simp only [maxL]; omega
     have hm2:d.sts.length + J.length + 1 ≤ maxL:=by simp only [maxL]; omega
     have hm3:d.now.length ≤ maxL:=by simp only [maxL]; omega
     simp only [stH,storyV] at hrows
     simp [Tryz.f146,stH,storyV,eEvent,hwn,q1,q2']
     refine cf hrows [0,1,2] ?_
     simp [setAll,hm3,sig]
     refine cf hrows [0,1,2] ?_
     simp [setAll,hm3,sig]
     refine ⟨shp_map fun r=>⟨by simp [shpA],by simp [shpA]⟩,?_⟩
     refine e0 c_kinds ?_
     simp [hlk,kindV]
     simp only [eEvent,q1] at f3
     refine ef f3 [4] ?_
     simp [sig,setAll,pairP,hm2]
     refine e1 hcl1 ?_
     simp
     refine e1 hcl2 ?_
     simp [hm]
     refine ⟨⟨⟨rfl,rfl,rfl⟩,rfl,rfl⟩,⟨rfl,rfl⟩,ForgetN.og (by simp [eEvent,q1,eRows]) (by simp) (by simp [eEvent,q1,eRows]) (by simp) (by simp)⟩
   · refine ⟨ve,vs,J,?_,by rw [if_neg q3]; exact hj⟩
     rw [if_neg q3]
     refine goodI_fn nf isF146 mix (by simp [Tryz.f146]) ?_
     have hm3:d.now.length ≤ maxL:=by simp only [maxL]; omega
     simp only [stH,storyV] at hrows
     simp [Tryz.f146,stH,storyV,eEvent,hwn,q1,q2']
     refine cf hrows [0,1,2] ?_
     simp [setAll,hm3,sig]
     refine cf hrows [0,1,2] ?_
     simp [setAll,hm3,sig]
     refine ⟨shp_map fun r=>⟨by simp [shpA],by simp [shpA]⟩,?_⟩
     refine e0 c_kinds ?_
     simp [hlk,kindV]
     simp only [eEvent,q1] at f3
     refine ef f3 [4] ?_
     simp [sig,setAll,pairP,q3]
     refine ForgetN.og (by simp) (by simp) (by simp) (by simp) (by simp)
end Go.Abs
namespace Go.Abs
open Go.Proofs
set_option maxHeartbeats 4000000
set_option maxRecDepth 100000
def nextD (d:StoryD) (e:EventD):StoryD:=if addE d e = 0 then acceptD d e else d
structure StoryB (d:StoryD) (J:List PV):Prop where
 ev:d.evs.length ≤ 1000
 sj:d.sts.length + J.length ≤ d.evs.length
 rw:∀ l ∈ d.sts,l.length ≤ 1000 ∧ ∀ r ∈ l,rowB r
theorem now_B {d:StoryD} {J:List PV} (h:StoryB d J):d.now.length ≤ 1000 ∧ ∀ r ∈ d.now,rowB r:=by
 rw [StoryD.now]
 cases hg:d.sts.getLast? with
 | none=>simp
 | some l=>exact h.rw l (List.mem_of_getLast? hg)
theorem accept_rw {d:StoryD} {J:List PV} {e:EventD} (h:StoryB d J) (he:evB e):∀ l ∈ (acceptD d e).sts,l.length ≤ 1000 ∧ ∀ r ∈ l,rowB r:=by
 intro l hl
 have hn:=now_B h
 rw [acceptD] at hl
 split at hl
 · exact h.rw l (List.dropLast_subset _ hl)
 · rcases List.mem_append.1 hl with hl | hl
   · exact h.rw l hl
   · rw [List.mem_singleton.1 hl]; exact step_B he hn.1 hn.2
theorem g_add (d : StoryD) (ve vs : Nat) (J : List PV) (e : EventD) (he : evB e) (hb : StoryB d J) :
    ∃ ve' vs' J',GoodI Tryz.prog 206 (stH d ve vs J) [.ptr 0 [],.p (eEvent e)] (stH (nextD d e) ve' vs' J') (.p (.int .i64 (addE d e))) ∧ (nextD d e).sts.length + J'.length ≤ (nextD d e).evs.length:=by
 have hC:=c_checkEvent e he
 have hA:addE d e = firstE [chkEvent e,acceptE d e]:=rfl
 by_cases hc:chkEvent e = 0
 · have hA2:addE d e = acceptE d e:=by
    rw [hA,firstE,if_pos hc]; simp only [firstE]; split <;> simp_all
   obtain ⟨ve',vs',J',g1,g2⟩:=g_accept d ve vs J e he hc hb.ev hb.sj hb.rw
   refine ⟨ve',vs',J',?_,by rw [nextD,hA2]; exact g2⟩
   rw [nextD,hA2]
   generalize (if acceptE d e = 0 then acceptD d e else d) = d' at *
   refine goodI_fn nf isF206 mix (by simp [Tryz.f206]) ?_
   simp [Tryz.f206,stH,storyV]
   refine c1 hC ?_
   simp only [stH,storyV] at g1
   simp [hc]
   refine cf g1 [0,1,2] ?_
   simp [setAll,sig]
   refine ForgetN.og (by simp) (by simp) (by simp) (by simp) (by simp)
 · have hA2:addE d e = chkEvent e:=by rw [hA,firstE,if_neg hc]
   have hN:nextD d e = d:=by rw [nextD,hA2,if_neg hc]
   refine ⟨ve,vs,J,?_,by rw [hN]; exact hb.sj⟩
   rw [hN,hA2]
   refine goodI_fn nf isF206 mix (by simp [Tryz.f206]) ?_
   simp [Tryz.f206,stH,storyV]
   refine c1 hC ?_
   simp [hc]
   refine ForgetN.og (by simp) (by simp) (by simp) (by simp) (by simp)
theorem next_B {d:StoryD} {J J':List PV} {e:EventD} (h:StoryB d J) (he:evB e) (hl:d.evs.length < 1000) (hj:(nextD d e).sts.length + J'.length ≤ (nextD d e).evs.length):StoryB (nextD d e) J':=by
 refine ⟨?_,hj,?_⟩
 · rw [nextD]; split
   · simp [acceptD]; omega
   · exact h.ev
 · rw [nextD]; split
   · exact accept_rw h he
   · exact h.rw
end Go.Abs
namespace Go.Abs
open Go.Proofs
set_option maxHeartbeats 4000000
set_option maxRecDepth 100000
def replayQ (R:StoryD × Int × Int) (v:AV) (H':Heap):Prop :=
 if R.2.2 = 0 then ∃ ve vs J,StoryB R.1 J ∧ H' = stH R.1 ve vs J ∧ v = .tup [.ptr 0 [],.p (.int .i64 0),.p (.int .i64 0)]
 else H' = [] ∧ v = .p (.tup [.nptr,.int .i64 R.2.1,.int .i64 R.2.2])
theorem g_replay (l:List EventD) (hl:l.length ≤ 1048576) (he:∀ e ∈ l,evB e):∃ v H',replayQ (playS l) v H' ∧ GoodI Tryz.prog 138 [] [.p (.seq (l.map eEvent))] H' v:=by
 refine goodX_fn nf isF138 mix (replayQ (playS l)) (by simp [Tryz.f138]) ?_
 by_cases h1:1000 < l.length
 · have h1':(1000:Int) < l.length:=by omega
   have hp:playS l = (⟨[],[]⟩,0,5):=by rw [playS,if_pos h1]
   rw [hp]
   simp [Tryz.f138,h1']
   refine ⟨[],by simp [replayQ],.inr (ForgetN.og (by simp) (by simp) (by simp) (by simp) (by simp))⟩
 have h1':¬ (1000:Int) < l.length:=by omega
 have hp:playS l = playL l 0 ⟨[],[]⟩:=by rw [playS,if_neg h1]
 rw [hp]
 generalize hR:playL l 0 ⟨[],[]⟩ = R
 simp [Tryz.f138,h1']
 refine lp (α:=Nat × StoryD × Nat × Nat × List PV) (fun (i,d,ve,vs,J)=>⟨[(16,.p (.int .i64 i)),(15,.p (.int .i64 l.length)),(14,.p (.seq (l.map eEvent))),(5,.ptr 0 [])],stH d ve vs J⟩)
  (fun (i,d,ve,vs,J)=>i ≤ l.length ∧ R = playL (l.drop i) i d ∧ d.evs.length = i ∧ StoryB d J) (fun (i,_)=>l.length - i) (0,⟨[],[]⟩,0,0,[]) ⟨by simp,by simp [hR],rfl,⟨by simp,by simp,by simp⟩⟩ ?_ (hh:=by simp [stH,storyV]) (hr:=by simp [stH]) (hr2:=by simp [stH,storyV])
 rintro ⟨i,d,ve,vs,J⟩ ⟨k1,k2,k3,k4⟩
 dsimp only at k1 k2 k3 k4 ⊢
 have hw:=wi1 (i:=i) (by omega)
 by_cases hi:i < l.length
 · rw [List.drop_eq_getElem_cons hi,playL] at k2
   have hei:=he _ (List.getElem_mem hi)
   obtain ⟨ve',vs',J',g1,g2⟩:=g_add d ve vs J l[i] hei k4
   have hB:=next_B k4 hei (by omega) g2
   simp only [stH,storyV] at g1
   simp [hi,stH,storyV]
   refine cf g1 [0,1,2] ?_
   by_cases ha:addE d l[i] = 0
   · rw [if_neg (by simpa using ha)] at k2
     have hN:nextD d l[i] = acceptD d l[i]:=by rw [nextD,if_pos ha]
     rw [hN] at hB ⊢
     simp [setAll,sig,ha,hw]
     refine rd (i + 1,acceptD d l[i],ve',vs',J') ⟨hi,k2,by simp [acceptD,k3],hB⟩ (h1:=by dsimp only; omega) (hh:=by simp [stH,storyV]) (hr:=by simp [stH]) (hr2:=by simp [stH,storyV])
   · rw [if_pos ha] at k2
     simp [setAll,sig,ha,hw]
     refine ⟨[],by rw [k2]; simp [replayQ,ha],.inr (ForgetN.og (by simp) (by simp) (by simp) (by simp) (by simp))⟩
 · have:i = l.length:=by omega
   subst this
   rw [List.drop_length,playL] at k2
   simp
   refine ⟨stH d ve vs J,by rw [k2]; simp [replayQ]; exact ⟨ve,vs,J,k4,rfl⟩,.inl rfl⟩
theorem c_mappedRR (l:List RowD) (h:rowsB l):GoodC Tryz.prog 139 [.seq (l.map eRow),.func 141 [] []] (.seq (l.map eRow)):=by
 refine good_fn nf isF139 mix (by simp [Tryz.f139]) ?_
 have hl:=h.1
 simp [Tryz.f139]
 refine lp (α:=Nat) (fun i=>⟨[(10,.p (.int .i64 i)),(9,.p (.int .i64 l.length)),(8,.p (.seq (l.map eRow))),(5,.sl 0 i 2 0 i),(1,.p (.func 141 [] []))],[.arr .grow i 2 ((l.map fun r=>.p (eRow r)).take i)]⟩) (fun i=>i ≤ l.length) (fun i=>l.length - i) 0 (by simp) ?_
 rintro i k1
 by_cases hi:i < l.length
 · have hw:=wi1 (i:=i) (by omega)
   have ht:=take_next (fun r=>AV.p (eRow r)) hi
   simp [hi]
   refine c1 (c_copied l[i] (h.2 _ (List.getElem_mem hi))) ?_
   simp
   refine ⟨⟨by omega,by simp only [maxL]; omega⟩,?_⟩
   exact rd (i + 1) hi (he:=by simp [hw]) (hh:=by simp [ht]) (hr2:=by simp [ht])
 · have:i = l.length:=by omega
   subst this
   simp
theorem c_Replay (l:List EventD) (hl:l.length ≤ 1048576) (he:∀ e ∈ l,evB e):GoodC Tryz.prog 53 [.seq (l.map eEvent)] (.tup [.seq ((replayS l).1.map eRow),.int .i64 (replayS l).2.1,.int .i64 (replayS l).2.2]):=by
 refine good_fn nf isF53 mix (by simp [Tryz.f53]) ?_
 obtain ⟨v,H',hq,hg⟩:=g_replay l hl he
 have hS:replayS l = if (playS l).2.2 ≠ 0 then ([],(playS l).2.1,(playS l).2.2) else ((playS l).1.now,0,0):=rfl
 rw [hS]
 generalize playS l = R at *
 obtain ⟨d,pl,err⟩:=R
 simp only [replayQ] at hq
 dsimp only at hq ⊢
 simp [Tryz.f53]
 refine cn1 hg ?_
 by_cases hz:err = 0
 · subst hz
   rw [if_pos rfl] at hq
   obtain ⟨ve,vs,J,hB,rfl,rfl⟩:=hq
   have hr:=g_rows d ve vs J (by have:=hB.sj; have:=hB.ev; omega)
   have hn:=now_B hB
   have hM:=c_mappedRR d.now ⟨by omega,hn.2⟩
   simp only [stH,storyV] at hr
   simp [stH,storyV,ren,sig]
   refine cf hr [0,1,2] ?_
   simp [setAll,sig]
   refine c2 hM ?_
   simp
 · rw [if_neg hz] at hq
   obtain ⟨rfl,rfl⟩:=hq
   simp [ren,hz]
end Go.Abs
namespace Go.Abs
open Go.Proofs
set_option maxHeartbeats 4000000
set_option maxRecDepth 100000
theorem shpR (l:List RowD):allShp Tryz.prog 2 (l.map (AV.p ∘ eRow)):=shp_map fun r=>⟨by simp [shpA],by simp [shpA]⟩
theorem purl_of {H:Heap} {n:Nat}:∀ {X:List AV} {Y:List PV},X = Y.map AV.p → Purl H n X Y
 | X,[],h=>by rw [h]; simp
 | X,y :: Y,h=>by
  rw [h,List.map_cons]
  simp only [purl_cons,pur_p]
  exact ⟨Wk.refl _,purl_of rfl⟩
theorem c_without (l:List RowD) (i:Nat) (hi:i < l.length) (h:l.length ≤ 1048576):GoodC Tryz.prog 254 [.seq (l.map eRow),.int .i64 i] (.seq ((l.eraseIdx i).map eRow)):=by
 refine good_fn nf isF254 mix (by simp [Tryz.f254]) ?_
 have hw:=wi1 (i:=i) (by omega)
 have hl0:l ≠ []:=by intro e; subst e; simp at hi
 rw [List.eraseIdx_eq_take_drop_succ]
 have q1:i ≤ l.length:=by omega
 have q2:0 ≤ (i:Int) + 1:=by omega
 have q3:i + 1 ≤ l.length:=by omega
 have s1:=shpR (l.take i)
 have s2:=shpR (l.drop (i + 1))
 have s3:=shpR l
 rw [List.map_take] at s1
 rw [List.map_drop] at s2
 have m1:i ≤ maxL:=by simp only [maxL]; omega
 have m2:l.length - (i + 1) ≤ maxL:=by simp only [maxL]; omega
 have m3:i + (l.length - (i + 1)) ≤ maxL:=by simp only [maxL]; omega
 have hA:(l.take i).map (AV.p ∘ eRow) ++ (l.drop (i + 1)).map (AV.p ∘ eRow) = (l.take i ++ l.drop (i + 1)).map (AV.p ∘ eRow):=by simp
 have w1:IntKind.i64.wrap 1 = 1:=by decide
 by_cases h0:i = 0
 · subst h0
   cases l with
   | nil=>exact (hl0 rfl).elim
   | cons x r =>
    by_cases hr:r = []
    · subst hr
      simp [Tryz.f254,w1]
      exact ⟨rfl,rfl⟩
    · have sr:=shpR r
      have mr:r.length ≤ maxL:=by simp only [maxL]; simp at h; omega
      have hrl:¬ r.length = 0:=by simpa using hr
      simp [Tryz.f254,w1,hr,sr,mr,hrl]
      exact ⟨rfl,rfl⟩
 · by_cases hn:l.length ≤ i + 1
   · simp [Tryz.f254,hw,hl0,q1,q2,q3,s1,s2,s3,hn,m1,m2,m3,h0]
     refine ⟨⟨rfl,rfl⟩,purl_of ?_⟩
     rw [List.drop_eq_nil_of_le (by simp; omega)]
     simp
   · simp [Tryz.f254,hw,hl0,q1,q2,q3,s1,s2,s3,hn,m1,m2,m3,h0]
     refine ⟨⟨rfl,rfl⟩,purl_of ?_⟩
     rw [List.take_of_length_le (by simp; omega)]
     simp
def retR (l:List RowD) (S:List RowD × Int):List RowD × Int:=if S.2 = 0 then S else (l,S.2)
theorem c_changedR (l : List RowD) (a : Int) (e : EventD) (he : evB e) (h0 : e.names ≠ []) (h : l.length ≤ 1000) (hl : ∀ r ∈ l, rowB r) (ha : a = atK l (keyN e)) :
    GoodC Tryz.prog 253 [.seq (l.map eRow),.int .i64 a,eEvent e] (pairP (retR l (if a < 0 then addS l e else setS l e))):=by
 refine good_fn nf isF253 mix (by simp [Tryz.f253]) ?_
 have hrl:=readV_len e.text
 have htx:=he.2.2.2.2.1
 have hV:=c_readValuesR e.text (by have:=he.2.2.2.2.1; omega) he.2.2.2.2.2
 obtain ⟨num,kind,names,vals,text⟩:=e
 obtain ⟨k,ns,rfl⟩:∃ k ns,names = k :: ns:=by
  cases names with
  | nil=>exact (h0 rfl).elim
  | cons k ns=>exact ⟨k,ns,rfl⟩
 have hK:keyN ⟨num,kind,k :: ns,vals,text⟩ = k:=rfl
 dsimp only at hV hrl htx
 rw [hK] at ha
 simp [Tryz.f253,eEvent]
 refine c1 hV ?_
 have hT:∀ X,toldE text ≠ 0 → retR l (if a < 0 then addS l ⟨num,kind,k :: ns,vals,text⟩ else setS l ⟨num,kind,k :: ns,vals,text⟩) = X → X = (l,toldE text):=by
  rintro X ht rfl
  have f1:∀ x,firstE [toldE text,x] = toldE text:=fun x=>by rw [firstE,if_neg ht]
  by_cases q:a < 0
  · rw [if_pos q,addS,hK,← ha,if_neg (by omega),f1,if_pos ht,retR,if_neg ht]
  · rw [if_neg q,setS,hK,← ha,if_neg (by omega),f1,if_pos ht,retR,if_neg ht]
 generalize hX:retR l (if a < 0 then addS l ⟨num,kind,k :: ns,vals,text⟩ else setS l ⟨num,kind,k :: ns,vals,text⟩) = X at *
 have hT:=hT X
 cases hr:(readV text).2
 · have ht:toldE text = 25:=by simp [toldE,hr,firstE,whenE]
   rw [hT (by rw [ht]; omega) rfl,ht]
   simp [pairP]
 by_cases h16:16 < (readV text).1.length
 · have h16':(16:Int) < (readV text).1.length:=by omega
   have ht:toldE text = 5:=by simp [toldE,hr,firstE,whenE,h16]
   rw [hT (by rw [ht]; omega) rfl,ht]
   simp [pairP,h16']
 have h16':¬ (16:Int) < (readV text).1.length:=by omega
 have ht:toldE text = 0:=by simp [toldE,hr,firstE,whenE,h16]
 clear hT
 have sl:=shpR l
 have hm:l.length + 1 ≤ maxL:=by simp only [maxL]; omega
 have hm1:l.length ≤ maxL:=by simp only [maxL]; omega
 by_cases q:a < 0
 · have hX2:X = if 256 ≤ l.length then (l,5) else (l ++ [⟨k,(readV text).1⟩],0):=by
    rw [← hX,if_pos q,addS,hK,← ha,if_neg (by omega),ht]
    by_cases q2:256 ≤ l.length <;> simp [firstE,whenE,q2,retR]
   by_cases q2:256 ≤ l.length
   · have q2':(256:Int) ≤ l.length:=by omega
     rw [hX2,if_pos q2]
     simp [pairP,h16',q,q2']
   · have q2':¬ (256:Int) ≤ l.length:=by omega
     rw [hX2,if_neg q2]
     by_cases hl0:l = []
     · subst hl0
       simp [pairP,h16',q,eRow]
       exact ⟨by decide,⟨rfl,rfl⟩,rfl⟩
     · simp [pairP,h16',q,q2',hl0,sl,hm,hm1]
       refine ⟨?_,purl_of ?_⟩
       · exact ⟨⟨rfl,rfl⟩,rfl⟩
       · rw [List.take_of_length_le (by simp)]
         simp [eRow]
 · rcases idx_look k l 0 with ⟨p1,p2⟩ | ⟨i,hi,p1,p2,p3⟩
   · have e1:atK l k = -1:=p2
     omega
   rw [Int.natCast_zero,Int.zero_add] at p1
   have e1:atK l k = i:=p1
   rw [e1] at ha
   subst ha
   have hl0:l ≠ []:=by intro e; subst e; simp at hi
   have hB:=hl _ (List.getElem_mem hi)
   have hnB:rowB ⟨k,(readV text).1⟩:=⟨by have:=he.2.2.1 k (by simp); dsimp only; omega,by dsimp only; omega⟩
   have hd:decide ((l[i]?.map (·.vals)) = some (readV text).1) = decide (l[i] = ⟨k,(readV text).1⟩):=by
    rw [List.getElem?_eq_getElem hi,Option.map_some]
    have:l[i] = ⟨l[i].key,l[i].vals⟩:=rfl
    rw [this,p3]
    simp
   have hX2:X = if l[i] = ⟨k,(readV text).1⟩ then (l,9) else (l.set i ⟨k,(readV text).1⟩,0):=by
    rw [← hX,if_neg q,setS,hK,e1,if_neg (by omega),ht,Int.toNat_natCast,hd]
    by_cases q2:l[i] = ⟨k,(readV text).1⟩ <;> simp [firstE,whenE,q2,retR]
   have hSR:=c_sameRow l[i] ⟨k,(readV text).1⟩ hB hnB
   have hE:eRow ⟨k,(readV text).1⟩ = .st 54 [.str k,.seq ((readV text).1.map (.int .i64))]:=rfl
   rw [hE] at hSR
   simp [h16',q,hi]
   refine e2 hSR ?_
   by_cases q2:l[i] = ⟨k,(readV text).1⟩
   · rw [hX2,if_pos q2]
     simp [q2,pairP]
   · rw [hX2,if_neg q2]
     simp [q2,pairP,hl0,sl,hm,hm1,hi]
     refine purl_of ?_
     rw [List.take_of_length_le (by simp),List.map_set,hE]
     simp
theorem ret_add {l:List RowD} {e:EventD} (h:0 ≤ atK l (keyN e)):retR l (addS l e) = (l,9):=by rw [addS,if_pos h,retR]; simp
theorem c_follow (l : List RowD) (e : EventD) (he : evB e) (hc : chkEvent e = 0) (hu : e.kind ≠ kUndo) (h : l.length ≤ 1000) (hl : ∀ r ∈ l, rowB r) :
    GoodC Tryz.prog 211 [.seq (l.map eRow),eEvent e] (pairP (retR l (stepS l e))):=by
 have hev:=(evK hc).1
 have hA:=fun h0=>c_changedR l (atK l (keyN e)) e he h0 h hl rfl
 refine good_fn nf isF211 mix (by simp [Tryz.f211]) ?_
 obtain ⟨num,kind,names,vals,text⟩:=e
 obtain ⟨k,ns,rfl⟩:∃ k ns,names = k :: ns:=by
  rcases hev with ⟨k,hk,hn,hv,ht,hi⟩ | ⟨k,hk,hn,hv,ht,hi⟩ | ⟨k,n,hk,hn,hv,ht,hi,hl9⟩ | ⟨hk,_⟩
  · exact ⟨k,[],hn⟩
  · exact ⟨k,[],hn⟩
  · exact ⟨k,[],hn⟩
  · exact (hu hk).elim
 have hK:keyN ⟨num,kind,k :: ns,vals,text⟩ = k:=rfl
 have hA:=hA (by simp)
 rw [hK] at hA
 simp [Tryz.f211,eEvent]
 simp only [eEvent,List.map_cons] at hA
 refine c2 (c_find l k (by omega)) ?_
 have hat:idxFrom (keyIs k) l 0 = atK l k:=rfl
 rw [hat]
 by_cases k1:kind = kAdd
 · subst k1
   have hS:stepS l ⟨num,kAdd,k :: ns,vals,text⟩ = addS l ⟨num,kAdd,k :: ns,vals,text⟩:=by rw [stepS,if_pos rfl]
   rw [hS]
   by_cases q:0 ≤ atK l k
   · rw [ret_add (by rw [hK]; exact q)]
     simp [kAdd,q,pairP]
   · rw [if_pos (by omega)] at hA
     simp [kAdd,q]
     simp only [kAdd] at hA
     refine c3 hA ?_
     simp [pairP]
 have k1':¬ kind = [97,100,100]:=k1
 rcases idx_look k l 0 with ⟨p1,p2⟩ | ⟨i,hi,p1,p2,p3⟩
 · have e1:atK l k = -1:=p2
   have hX:retR l (stepS l ⟨num,kind,k :: ns,vals,text⟩) = (l,10):=by
    rw [stepS,if_neg k1]
    split
    · rw [setS,hK,e1]; simp [retR]
    · split
      · rw [dropS,hK,e1]; simp [retR]
      · have:moveE l ⟨num,kind,k :: ns,vals,text⟩ = 10:=by
         rw [moveE,hK,e1]; simp [firstE,whenE]
        rw [moveS,this]; simp [retR]
   rw [hX]
   simp [k1',e1,pairP]
 rw [Int.natCast_zero,Int.zero_add] at p1
 have e1:atK l k = i:=p1
 have e2:¬ (i:Int) < 0:=by omega
 rw [e1,if_neg e2] at hA
 by_cases k2:kind = kSet
 · subst k2
   have hS:stepS l ⟨num,kSet,k :: ns,vals,text⟩ = setS l ⟨num,kSet,k :: ns,vals,text⟩:=by rw [stepS,if_neg k1,if_pos rfl]
   rw [hS]
   simp [kSet,e1,e2]
   simp only [kSet] at hA
   refine c3 hA ?_
   simp [pairP]
 have k2':¬ kind = [115,101,116]:=k2
 have hW:=c_without l i hi (by omega)
 have hel:(l.eraseIdx i).length = l.length - 1:=by rw [List.length_eraseIdx,if_pos hi]
 by_cases k3:kind = kDrop
 · subst k3
   have hS:stepS l ⟨num,kDrop,k :: ns,vals,text⟩ = (l.eraseIdx i,0):=by
    rw [stepS,if_neg k1,if_neg k2,if_pos rfl,dropS,hK,e1,if_neg e2,Int.toNat_natCast]
   rw [hS]
   simp [kDrop,e1,e2]
   refine c2 hW ?_
   simp [pairP,retR]
 have k3':¬ kind = [100,114,111,112]:=k3
 obtain ⟨n,rfl,hn9⟩:∃ n:Nat,vals = [(n:Int)] ∧ n < 10 ^ 9:=by
  rcases hev with ⟨k,hk,hn,hv,ht,hi⟩ | ⟨k,hk,hn,hv,ht,hi⟩ | ⟨k,n,hk,hn,hv,ht,hi,hl9⟩ | ⟨hk,_⟩
  · rcases hk with hk | hk
    · exact (k1 hk).elim
    · exact (k2 hk).elim
  · exact (k3 hk).elim
  · exact ⟨n,hv,hl9⟩
  · exact (hu hk).elim
 have hwn:IntKind.i64.wrap ((n:Int) - 1) = n - 1:=wi64 _ (by omega) (by omega)
 have hS:stepS l ⟨num,kind,k :: ns,[(n:Int)],text⟩ = moveS l ⟨num,kind,k :: ns,[(n:Int)],text⟩:=by
  rw [stepS,if_neg k1,if_neg k2,if_neg k3]
 have hM:moveE l ⟨num,kind,k :: ns,[(n:Int)],text⟩ = firstE [withinE (n - 1) 0 (l.length - 1),whenE (decide ((i:Int) = n - 1)) 9]:=by
  rw [moveE,hK,e1]
  simp [firstE,whenE,e2,placeN]
 rw [hS]
 simp [k1',k2',k3',e1,e2]
 refine c2 hW ?_
 simp [hwn,hel,k3']
 refine c3 (c_out _ _ _) ?_
 by_cases q4:(n:Int) - 1 < 0 ∨ (n:Int) - 1 > (l.length - 1:Nat)
 · have hM2:moveE l ⟨num,kind,k :: ns,[(n:Int)],text⟩ = 3:=by
    rw [hM,withinE]
    have:(decide ((n:Int) - 1 < 0) || decide ((n:Int) - 1 > (l.length:Int) - 1)) = true:=by
     simp; omega
    rw [this]; simp [firstE,whenE]
   have q4':(decide ((n:Int) - 1 < 0) || decide (((l.length - 1:Nat):Int) < (n:Int) - 1)) = true:=by simpa using q4
   have hX:retR l (moveS l ⟨num,kind,k :: ns,[(n:Int)],text⟩) = (l,3):=by rw [moveS,hM2]; simp [retR]
   rw [hX]
   simp [pairP,q4']
 have q4':(decide ((n:Int) - 1 < 0) || decide (((l.length - 1:Nat):Int) < (n:Int) - 1)) = false:=by
  simp at q4 ⊢; omega
 have hWi:withinE ((n:Int) - 1) 0 ((l.length:Int) - 1) = 0:=by
  rw [withinE]
  have:(decide ((n:Int) - 1 < 0) || decide ((n:Int) - 1 > (l.length:Int) - 1)) = false:=by
   simp at q4 ⊢; omega
  rw [this]; rfl
 rw [hWi] at hM
 obtain ⟨tt,ht⟩:∃ tt:Nat,(n:Int) - 1 = tt:=⟨n - 1,by simp at q4; omega⟩
 rw [ht] at hM q4'
 by_cases q5:i = tt
 · subst q5
   have hM2:moveE l ⟨num,kind,k :: ns,[(n:Int)],text⟩ = 9:=by rw [hM]; simp [firstE,whenE]
   have hX:retR l (moveS l ⟨num,kind,k :: ns,[(n:Int)],text⟩) = (l,9):=by rw [moveS,hM2]; simp [retR]
   rw [hX]
   simp [pairP,ht,q4']
   omega
 · have q5':¬ (tt:Int) = i:=by omega
   have q5'':¬ (i:Int) = tt:=by omega
   have hM2:moveE l ⟨num,kind,k :: ns,[(n:Int)],text⟩ = 0:=by rw [hM]; simp [firstE,whenE,q5'']
   have hX:retR l (moveS l ⟨num,kind,k :: ns,[(n:Int)],text⟩) = ((l.eraseIdx i).insertIdx tt l[i],0):=by
    have hP:placeN ⟨num,kind,k :: ns,[(n:Int)],text⟩ = tt:=ht
    rw [moveS,hM2]; simp [retR,hK,hP,e1,hi]
   have htl:tt ≤ (l.eraseIdx i).length:=by simp at q4'; omega
   rw [hX,ins_eq _ _ _ htl]
   have sE:=shpR (l.eraseIdx i)
   generalize hQ:l.eraseIdx i = E at *
   have s1:=shpR (E.take tt)
   have s2:=shpR (E.drop tt)
   rw [List.map_take] at s1
   rw [List.map_drop] at s2
   have m1:tt + 1 ≤ maxL:=by simp only [maxL]; omega
   have m2:E.length - tt ≤ maxL:=by simp only [maxL]; omega
   have m3:tt + 1 + (E.length - tt) ≤ maxL:=by simp only [maxL]; omega
   have m4:tt ≤ maxL:=by simp only [maxL]; omega
   have hR:shp (eRow l[i]) = .agg 54:=rfl
   have ql:tt ≤ l.length - 1:=by omega
   by_cases h0:tt = 0
   · subst h0
     by_cases hn:E = []
     · subst hn
       simp [pairP,ht,q4',q5',hi,hR,m1]
       exact ⟨by omega,⟨rfl,rfl⟩,rfl⟩
     · simp [pairP,ht,q4',q5',hi,hn,hR,m1,m2,m3,s1,s2]
       refine ⟨by omega,sE,⟨⟨rfl,rfl⟩,rfl⟩,sE,⟨sE,by simp only [maxL]; omega⟩,by omega,purl_of ?_⟩
       rw [List.take_of_length_le (by simp; omega)]
       simp
   · have h0E:E ≠ []:=by intro e; subst e; simp at htl; omega
     by_cases hn:E.length ≤ tt
     · simp [pairP,ht,q4',q5',hi,hn,hR,m1,m2,m3,m4,s1,s2,h0,h0E,htl,ql]
       refine ⟨sE,⟨⟨rfl,rfl⟩,rfl⟩,sE,purl_of ?_⟩
       rw [List.take_of_length_le (by simp; omega),List.drop_eq_nil_of_le (by simpa using hn)]
       simp
     · simp [pairP,ht,q4',q5',hi,hn,hR,m1,m2,m3,m4,s1,s2,h0,h0E,htl,ql]
       refine ⟨sE,⟨⟨rfl,rfl⟩,rfl⟩,sE,purl_of ?_⟩
       rw [List.take_of_length_le (by simp; omega),List.take_of_length_le (by simp; omega)]
       simp
end Go.Abs
namespace Go.Abs
open Go.Proofs
set_option maxHeartbeats 4000000
set_option maxRecDepth 100000
def diaryV (d:StoryD):PV:=.st 223 [.seq (d.evs.map eEvent),.seq (.seq [] :: d.sts.map eRows)]
theorem c_now (d:StoryD) (h:d.sts.length ≤ 1000):GoodC Tryz.prog 143 [diaryV d] (.seq (d.now.map eRow)):=by
 refine good_fn nf isF143 mix (by simp [Tryz.f143]) ?_
 obtain ⟨evs,sts⟩:=d
 dsimp only at h
 rcases List.eq_nil_or_concat sts with rfl | ⟨t,x,rfl⟩
 · have hw:IntKind.i64.wrap 0 = 0:=by decide
   simp [Tryz.f143,diaryV,StoryD.now,hw]
 · simp only [List.concat_eq_append] at h ⊢
   simp at h
   have hl:IntKind.i64.wrap ((t.length:Int) + 1) = t.length + 1:=wi1 (by omega)
   have hz:0 ≤ (t.length:Int) + 1:=by omega
   simp [Tryz.f143,diaryV,StoryD.now,hl,hz,eRows]
theorem shpE (l:List EventD):allShp Tryz.prog 5 (l.map (AV.p ∘ eEvent)):=shp_map fun r=>⟨by simp [shpA],by simp [shpA]⟩
theorem shpS (l:List (List RowD)):allShp Tryz.prog 1 (l.map (AV.p ∘ eRows)):=shp_map fun r=>⟨by simp [shpA,eRows,shp],by simp [shpA,eRows,shp,shpSize]⟩
theorem c_acceptR (d : StoryD) (J : List PV) (e : EventD) (he : evB e) (hc : chkEvent e = 0) (hb : StoryB d J) :
    GoodC Tryz.prog 147 [diaryV d,eEvent e] (.tup [diaryV (if acceptE d e = 0 then acceptD d e else d),.int .i64 (acceptE d e)]):=by
 have hn:=now_B hb
 have hF:=fun hu=>c_follow d.now e he hc hu hn.1 hn.2
 have hN:=c_now d (by have:=hb.sj; have:=hb.ev; omega)
 refine good_fn nf isF147 mix (by simp [Tryz.f147]) ?_
 have hev:=hb.ev
 have hst:d.sts.length ≤ 1000:=by have:=hb.sj; omega
 obtain ⟨evs,sts⟩:=d
 obtain ⟨num,kind,names,vals,text⟩:=e
 dsimp only at hev hst
 have hwn:IntKind.i64.wrap ((evs.length:Int) + 1) = evs.length + 1:=wi1 (by omega)
 by_cases q1:num = evs.length + 1
 case neg =>
  have hA:acceptE ⟨evs,sts⟩ ⟨num,kind,names,vals,text⟩ = 11:=by simp [acceptE,q1]
  rw [hA]
  simp [Tryz.f147,diaryV,eEvent,hwn,q1]
 subst q1
 have s1:=shpE evs
 have s2:=shpS sts
 have m1:evs.length + 1 ≤ maxL:=by simp only [maxL]; omega
 have m2:sts.length + 1 ≤ maxL:=by simp only [maxL]; omega
 have m3:evs.length ≤ maxL:=by simp only [maxL]; omega
 by_cases q2:kind = kUndo
 · subst q2
   rcases List.eq_nil_or_concat sts with rfl | ⟨t,x,rfl⟩
   · have hA:acceptE ⟨evs,[]⟩ ⟨evs.length + 1,kUndo,names,vals,text⟩ = 12:=by simp [acceptE]
     rw [hA]
     by_cases h0:evs = []
     · subst h0
       simp [Tryz.f147,diaryV,eEvent,hwn,kUndo]
       refine ⟨rfl,by decide,rfl,rfl,⟨rfl,rfl⟩,rfl⟩
     · simp [Tryz.f147,diaryV,eEvent,hwn,kUndo,h0,s1,s2,m1,m2,m3]
       refine ⟨by decide,rfl,rfl,⟨rfl,rfl⟩,rfl⟩
   · rw [List.concat_eq_append] at *
     have hA:acceptE ⟨evs,t ++ [x]⟩ ⟨evs.length + 1,kUndo,names,vals,text⟩ = 0:=by simp [acceptE]
     have hD:acceptD ⟨evs,t ++ [x]⟩ ⟨evs.length + 1,kUndo,names,vals,text⟩ = ⟨evs ++ [⟨evs.length + 1,kUndo,names,vals,text⟩],t⟩:=by simp [acceptD]
     rw [hA,hD]
     simp at hst
     have st:=shpS t
     have stx:allShp Tryz.prog 1 (t.map (AV.p ∘ eRows) ++ [AV.p (eRows x)]):=by simpa using shpS (t ++ [x])
     have hw1:IntKind.i64.wrap 1 = 1:=by decide
     have m5:1 ≤ maxL:=by decide
     have sx:shpA (AV.p (eRows x)) = .leaf:=rfl
     have w1:IntKind.i64.wrap ((t.length:Int) + 1) = t.length + 1:=wi1 (by omega)
     have z1:¬ (t.length:Int) + 1 = 0:=by omega
     have z2:0 ≤ (t.length:Int) + 1:=by omega
     have m4:t.length + 1 + 1 ≤ maxL:=by simp only [maxL]; omega
     by_cases h0:evs = []
     · subst h0
       simp [Tryz.f147,diaryV,eEvent,hwn,kUndo,w1,z1,z2,st,m4,stx,hw1,m5]
       refine ⟨⟨rfl,rfl,⟨rfl,rfl⟩,rfl⟩,?_⟩
       omega
     · simp [Tryz.f147,diaryV,eEvent,hwn,kUndo,h0,s1,st,m1,m2,m3,w1,z1,z2,m4,stx]
       refine ⟨⟨rfl,rfl,⟨rfl,rfl⟩,rfl⟩,by omega,?_⟩
       refine purl_of ?_
       rw [List.take_of_length_le (by simp)]
       simp [eEvent]
 · have hA:acceptE ⟨evs,sts⟩ ⟨evs.length + 1,kind,names,vals,text⟩ = (stepS (StoryD.now ⟨evs,sts⟩) ⟨evs.length + 1,kind,names,vals,text⟩).2:=by simp [acceptE,q2]
   have hD:acceptD ⟨evs,sts⟩ ⟨evs.length + 1,kind,names,vals,text⟩ = ⟨evs ++ [⟨evs.length + 1,kind,names,vals,text⟩],sts ++ [(stepS (StoryD.now ⟨evs,sts⟩) ⟨evs.length + 1,kind,names,vals,text⟩).1]⟩:=by simp [acceptD,q2]
   have hF:=hF q2
   have q2':¬ kind = [117,110,100,111]:=q2
   rw [hA,hD]
   generalize stepS (StoryD.now ⟨evs,sts⟩) ⟨evs.length + 1,kind,names,vals,text⟩ = S at *
   obtain ⟨S,err⟩:=S
   simp only [diaryV] at hN
   simp only [eEvent,pairP] at hF
   have m4:sts.length + 1 + 1 ≤ maxL:=by simp only [maxL]; omega
   have hw1:IntKind.i64.wrap 1 = 1:=by decide
   have m5:1 ≤ maxL:=by decide
   by_cases h0:evs = []
   · subst h0
     simp [Tryz.f147,diaryV,eEvent,hwn,q2',s2,m2,m4,hw1,m5]
     refine ⟨⟨rfl,rfl,⟨rfl,rfl⟩,rfl⟩,?_⟩
     refine e1 hN ?_
     simp
     refine e2 hF ?_
     by_cases hz:err = 0
     · simp [hz,retR,eEvent,m4]
       first
       | refine ⟨purl_of ?_,purl_of ?_⟩ <;> rw [List.take_of_length_le (by simp)] <;> simp [eEvent,eRows]
       | refine purl_of ?_; rw [List.take_of_length_le (by simp)]; simp [eRows]
     · simp [hz,retR]
   · simp [Tryz.f147,diaryV,eEvent,hwn,q2',h0,s1,s2,m1,m2,m3,m4,hw1,m5]
     refine ⟨⟨rfl,rfl,⟨rfl,rfl⟩,rfl⟩,?_⟩
     refine e1 hN ?_
     simp
     refine e2 hF ?_
     by_cases hz:err = 0
     · simp [hz,retR,eEvent,m4]
       first
       | refine ⟨purl_of ?_,purl_of ?_⟩ <;> rw [List.take_of_length_le (by simp)] <;> simp [eEvent,eRows]
       | refine purl_of ?_; rw [List.take_of_length_le (by simp)]; simp [eRows]
     · simp [hz,retR]
end Go.Abs
namespace Go.Abs
open Go.Proofs
set_option maxHeartbeats 4000000
set_option maxRecDepth 100000
theorem next_B0 {d:StoryD} {e:EventD} (h:StoryB d []) (he:evB e) (hl:d.evs.length < 1000) (ha:addE d e = 0):StoryB (acceptD d e) []:=by
 have hN:nextD d e = acceptD d e:=by rw [nextD,if_pos ha]
 rw [← hN]
 refine next_B h he hl ?_
 rw [hN]
 have:=h.sj
 simp [acceptD] at this ⊢
 split <;> simp <;> omega
@[simp] theorem shp_diary (d:StoryD):shp (diaryV d) = .agg 223:=rfl
def rawD (i:Nat) (d:StoryD):AV:=if i = 0 then .st 223 [.p .nsl,.sl 1 0 1 0 1] else .p (diaryV d)
theorem c_played (l:List EventD) (hl:l.length ≤ 1048576) (he:∀ e ∈ l,evB e):GoodC Tryz.prog 142 [.seq (l.map eEvent)] (.tup [diaryV (playS l).1,.int .i64 (playS l).2.1,.int .i64 (playS l).2.2]):=by
 refine good_fn nf isF142 mix (by simp [Tryz.f142]) ?_
 by_cases h1:1000 < l.length
 · have h1':(1000:Int) < l.length:=by omega
   have hp:playS l = (⟨[],[]⟩,0,5):=by rw [playS,if_pos h1]
   rw [hp]
   simp [Tryz.f142,h1',diaryV]
 have h1':¬ (1000:Int) < l.length:=by omega
 have hp:playS l = playL l 0 ⟨[],[]⟩:=by rw [playS,if_neg h1]
 rw [hp]
 generalize hR:playL l 0 ⟨[],[]⟩ = R
 simp [Tryz.f142,h1']
 refine lp (α:=Nat × StoryD) (fun (i,d)=>⟨[(6,.p (.int .i64 i)),(5,.ptr 2 []),(2,.ptr 0 []),(0,.p (.seq (l.map eEvent)))],[.box false (.p (.st 223 [.nsl,.nsl])),if i = 0 then .arr .exact 0 1 [.p .nsl] else .dead,.box false (rawD i d)]⟩)
  (fun (i,d)=>i ≤ l.length ∧ R = playL (l.drop i) i d ∧ d.evs.length = i ∧ StoryB d [] ∧ (i = 0 → d = ⟨[],[]⟩)) (fun (i,_)=>l.length - i) (0,⟨[],[]⟩) ⟨by simp,by simp [hR],rfl,⟨by simp,by simp,by simp⟩,fun _=>rfl⟩ ?_ (hh:=by simp [rawD]) (hr2:=by simp [rawD])
 rintro ⟨i,d⟩ ⟨k1,k2,k3,k4,k5⟩
 dsimp only at k1 k2 k3 k4 k5 ⊢
 have hw:=wi1 (i:=i) (by omega)
 by_cases hi:i < l.length
 · rw [List.drop_eq_getElem_cons hi,playL] at k2
   have hei:=he _ (List.getElem_mem hi)
   have hge:l[i]? = some l[i]:=List.getElem?_eq_getElem hi
   have hgm:(l.map eEvent)[i]? = some (eEvent l[i]):=by rw [List.getElem?_map,hge]; rfl
   have hse:shp (eEvent l[i]) = .agg 60:=rfl
   have hC:=c_checkEventR l[i] hei
   have hA:addE d l[i] = firstE [chkEvent l[i],acceptE d l[i]]:=rfl
   simp [hi]
   refine c1 hC ?_
   by_cases hc:chkEvent l[i] = 0
   · have hA2:addE d l[i] = acceptE d l[i]:=by
      rw [hA,firstE,if_pos hc]; simp only [firstE]; split <;> simp_all
     have hG:=c_acceptR d [] l[i] hei hc k4
     by_cases h0:i = 0
     · have hd:=k5 h0
       subst h0
       have hw1:IntKind.i64.wrap 1 = 1:=by decide
       simp [hc,rawD,hge,hse]
       have hI:GoodI Tryz.prog 147 [.arr .exact 0 1 [.p .nsl]] [.st 223 [.p .nsl,.sl 0 0 1 0 1],.p (eEvent l[0])] [.dead] (.p (.tup [diaryV (if acceptE d l[0] = 0 then acceptD d l[0] else d),.int .i64 (acceptE d l[0])])) :=
        GoodC.eat 9 hG isF147.enters (by subst hd; simp [diaryV]) (by intro b L h; rcases b with _ | b <;> simp at h)
       refine ef hI [1] ?_
       by_cases ha:acceptE d l[0] = 0
       · rw [if_neg (by rw [hA2]; simpa using ha)] at k2
         have hN:=next_B0 k4 hei (by omega) (by rw [hA2]; exact ha)
         simp [ha,hw,setAll,sig]
         refine ⟨rfl,?_⟩
         exact rd (1,acceptD d l[0]) ⟨hi,k2,by simp [acceptD,k3],hN,by omega⟩ (h1:=by dsimp only; omega) (he:=by simp [hw1]) (hh:=by simp [rawD]) (hr2:=by simp [rawD])
       · rw [if_pos (by rw [hA2]; exact ha)] at k2
         simp [ha,k2,hA2,hw1,setAll,sig]
         rfl
     · simp [hc,rawD,h0,hge,hse]
       refine e2 hG ?_
       by_cases ha:acceptE d l[i] = 0
       · rw [if_neg (by rw [hA2]; simpa using ha)] at k2
         have hN:=next_B0 k4 hei (by omega) (by rw [hA2]; exact ha)
         simp [ha,hw,setAll,sig]
         refine ⟨rfl,?_⟩
         exact rd (i + 1,acceptD d l[i]) ⟨hi,k2,by simp [acceptD,k3],hN,by omega⟩ (h1:=by dsimp only; omega) (hh:=by simp [rawD]) (hr2:=by simp [rawD])
       · rw [if_pos (by rw [hA2]; exact ha)] at k2
         simp [ha,k2,hA2,hw,setAll,sig]
         rfl
   · have hA2:addE d l[i] = chkEvent l[i]:=by rw [hA,firstE,if_neg hc]
     rw [if_pos (by rw [hA2]; exact hc)] at k2
     simp [hc,hw,k2,hA2]
     by_cases h0:i = 0
     · have hd:=k5 h0
       subst h0
       subst hd
       simp [rawD,diaryV]
     · simp [rawD,h0]
 · have:i = l.length:=by omega
   subst this
   rw [List.drop_length,playL] at k2
   simp [k2]
   by_cases h0:l.length = 0
   · have hd:=k5 h0
     subst hd
     have hl0:l = []:=List.eq_nil_of_length_eq_zero h0
     simp [rawD,diaryV,hl0]
   · simp [rawD,h0]
end Go.Abs
namespace Go.Abs
open Go.Proofs
set_option maxHeartbeats 4000000
set_option maxRecDepth 100000
theorem playL_B {l:List EventD}:∀ {i:Nat} {d:StoryD},StoryB d [] → (∀ e ∈ l,evB e) → d.evs.length + l.length ≤ 1000 → StoryB (playL l i d).1 []:=by
 induction l with
 | nil=>intro i d h _ _; exact h
 | cons a r ih =>
  intro i d h he hn
  rw [playL]
  simp only [List.length_cons] at hn
  split
  · exact h
  · rename_i ha
    have ha:=Classical.not_not.1 ha
    exact ih (next_B0 h (he a (by simp)) (by omega) ha) (fun e h=>he e (List.mem_cons_of_mem _ h)) (by simp [acceptD]; omega)
theorem playS_B {l:List EventD} (he:∀ e ∈ l,evB e):StoryB (playS l).1 []:=by
 have h0:StoryB ⟨[],[]⟩ []:=⟨by simp,by simp,by simp⟩
 rw [playS]
 split
 · exact h0
 · exact playL_B h0 he (by simp; omega)
theorem c_ReplayR (l:List EventD) (hl:l.length ≤ 1048576) (he:∀ e ∈ l,evB e):GoodC Tryz.prog 54 [.seq (l.map eEvent)] (.tup [.seq ((replayS l).1.map eRow),.int .i64 (replayS l).2.1,.int .i64 (replayS l).2.2]):=by
 refine good_fn nf isF54 mix (by simp [Tryz.f54]) ?_
 have hP:=c_played l hl he
 have hB:=playS_B he
 have hS:replayS l = if (playS l).2.2 ≠ 0 then ([],(playS l).2.1,(playS l).2.2) else ((playS l).1.now,0,0):=rfl
 rw [hS]
 generalize playS l = R at *
 obtain ⟨d,pl,err⟩:=R
 dsimp only at hP hB ⊢
 have hN:=c_now d (by have:=hB.sj; have:=hB.ev; simp at *; omega)
 simp [Tryz.f54]
 refine c1 hP ?_
 by_cases hz:err = 0
 · subst hz
   simp
   refine c1 hN ?_
   simp
 · simp [hz]
def evW (e:EventD):Prop:=∀ c ∈ e.text,c < 256
theorem c_heard (l:List EventD) (hl:l.length ≤ 1048576) (he:∀ e ∈ l,evW e):GoodC Tryz.prog 34 [.seq (l.map eEvent)] (.bool (heardS l)):=by
 refine good_fn nf isF34 mix (by simp [Tryz.f34]) ?_
 have hS:heardS l = (l.all heardE && decide (l.length ≤ 24)):=rfl
 rw [hS]
 simp [Tryz.f34]
 refine lp (α:=Nat) (fun i=>⟨[(9,.p (.int .i64 i)),(8,.p (.int .i64 l.length)),(7,.p (.seq (l.map eEvent))),(0,.p (.seq (l.map eEvent)))],[]⟩)
  (fun i=>i ≤ l.length ∧ (l.take i).all heardE = true) (fun i=>l.length - i) 0 (by simp) ?_
 rintro i ⟨k1,k2⟩
 have hw:=wi1 (i:=i) (by omega)
 by_cases hi:i < l.length
 · have hei:=he _ (List.getElem_mem hi)
   have hge:l[i]? = some l[i]:=List.getElem?_eq_getElem hi
   have hall:heardE l[i] = false → (∀ x ∈ l,heardE x = true) → 24 < l.length:=fun h h'=>by
    rw [h' _ (List.getElem_mem hi)] at h; cases h
   have hnext:heardE l[i] = true → (l.take (i + 1)).all heardE = true:=fun h=>by
    rw [List.take_succ_eq_append_getElem hi,List.all_append,k2]; simpa using h
   generalize hl1:l[i] = e at *
   obtain ⟨num,kind,names,vals,text⟩:=e
   have hH:heardE ⟨num,kind,names,vals,text⟩ = (decide (kind.length ≤ 60) && decide (names.length ≤ 5) && decide (vals.length ≤ 5) && decide (text.length ≤ 300) && names.all fun s=>decide (s.length ≤ 60)):=rfl
   by_cases c1:kind.length ≤ 60
   case neg =>
    have c1':¬ (kind.length:Int) ≤ 60:=by omega
    have d1:(60:Int) < kind.length:=by omega
    simp [hi,hl1,eEvent,c1',d1]
    exact hall (by simp [hH,c1])
   have c1':(kind.length:Int) ≤ 60:=by omega
   have d1:¬ (60:Int) < kind.length:=by omega
   by_cases c2:names.length ≤ 5
   case neg =>
    have c2':¬ (names.length:Int) ≤ 5:=by omega
    have d2:(5:Int) < names.length:=by omega
    simp [hi,hl1,eEvent,c1',d1,c2',d2]
    exact hall (by simp [hH,c2])
   have c2':(names.length:Int) ≤ 5:=by omega
   have d2:¬ (5:Int) < names.length:=by omega
   by_cases c3:vals.length ≤ 5
   case neg =>
    have c3':¬ (vals.length:Int) ≤ 5:=by omega
    have d3:(5:Int) < vals.length:=by omega
    simp [hi,hl1,eEvent,c1',d1,c2',d2,c3',d3]
    exact hall (by simp [hH,c3])
   have c3':(vals.length:Int) ≤ 5:=by omega
   have d3:¬ (5:Int) < vals.length:=by omega
   by_cases c4:text.length ≤ 300
   case neg =>
    have c4':¬ (text.length:Int) ≤ 300:=by omega
    have d4:(300:Int) < text.length:=by omega
    simp [hi,hl1,eEvent,c1',d1,c2',d2,c3',d3,c4',d4]
    exact hall (by simp [hH,c4])
   have c4':(text.length:Int) ≤ 300:=by omega
   have d4:¬ (300:Int) < text.length:=by omega
   simp [hi,hl1,eEvent,c1',d1,c2',d2,c3',d3,c4',d4]
   refine lp (α:=Nat) (fun k=>⟨[(38,.p (.int .i64 k)),(37,.p (.int .i64 names.length)),(36,.p (.seq (names.map .str))),(9,.p (.int .i64 i)),(8,.p (.int .i64 l.length)),(7,.p (.seq (l.map eEvent))),(0,.p (.seq (l.map eEvent)))],[]⟩)
    (fun k=>k ≤ names.length ∧ (names.take k).all (fun s=>decide (s.length ≤ 60)) = true) (fun k=>names.length - k) 0 (by simp) ?_
   rintro k ⟨q1,q2⟩
   by_cases hk:k < names.length
   · have hwk:=wi1 (i:=k) (by omega)
     by_cases c5:names[k].length ≤ 60
     · have c5':¬ (60:Int) < names[k].length:=by omega
       simp [hk,c5']
       refine rd (k + 1) ⟨hk,?_⟩ (he:=by simp [hwk])
       rw [List.take_succ_eq_append_getElem hk,List.all_append,q2]
       simpa using c5
     · have c5':(60:Int) < names[k].length:=by omega
       simp [hk,c5']
       refine hall ?_
       have:(names.all fun s=>decide (s.length ≤ 60)) = false:=by
        rw [List.all_eq_false]; exact ⟨names[k],List.getElem_mem hk,by simpa using c5⟩
       rw [hH,this,Bool.and_false]
   · have:k = names.length:=by omega
     subst this
     rw [List.take_length] at q2
     simp
     refine rd (i + 1) ⟨hi,hnext ?_⟩ (he:=by simp [hw])
     rw [hH,q2]
     simp [c1,c2,c3,c4]
 · have:i = l.length:=by omega
   subst this
   rw [List.take_length] at k2
   simp [k2]
   omega
theorem heard_B {e:EventD} (h:heardE e = true) (hw:evW e):evB e:=by
 simp only [heardE,Bool.and_eq_true,decide_eq_true_eq,List.all_eq_true] at h
 obtain ⟨⟨⟨⟨h1,h2⟩,h3⟩,h4⟩,h5⟩:=h
 exact ⟨by omega,by omega,fun s hs=>by have:=h5 s hs; omega,by omega,by omega,hw⟩
theorem heardS_B {l:List EventD} (h:heardS l = true) (hw:∀ e ∈ l,evW e):∀ e ∈ l,evB e:=by
 simp only [heardS,Bool.and_eq_true,List.all_eq_true] at h
 exact fun e he=>heard_B (h.1 e he) (hw e he)
end Go.Abs
namespace Go.Abs
open Go.Proofs Go.Proofs.YthckccalfpnmaaaGreatDoor
set_option maxRecDepth 100000
section
variable {H:Type} {W:World} {Imm:Nat → Prop}
theorem five_of {P : Program} {n : Nat} {t : TypeId} {f0 f1 f2 f3 f4 : Field} {k0 k1 k2 k3 k4 : Nat} (ht : P.underlying t = some (.struct #[f0, f1, f2, f3, f4])) (hs : szs P (P.underlyingId t) = some [k0, k1, k2, k3, k4])
    {d:DataW H} {cs:List Value} (h:PVC P W Imm (toPV P (n + 1) t d) cs) :
    ∃ (a b c d' e:DataW H) (c0 c1 c2 c3 c4:List Value),toPV P (n + 1) t d = .st (P.underlyingId t) [toPV P n f0.type a,toPV P n f1.type b,toPV P n f2.type c,toPV P n f3.type d',toPV P n f4.type e] ∧
     PVC P W Imm (toPV P n f0.type a) c0 ∧ PVC P W Imm (toPV P n f1.type b) c1 ∧ PVC P W Imm (toPV P n f2.type c) c2 ∧ PVC P W Imm (toPV P n f3.type d') c3 ∧ PVC P W Imm (toPV P n f4.type e) c4:=by
 cases d with
 | agg l =>
  simp only [toPV,ht,PVC] at h ⊢
  obtain ⟨l',css,h1,h2,_⟩:=h
  rw [hs] at h1; cases h1
  match l,h2 with
  | [],h2=>simp [PVCl] at h2
  | [_],h2=>simp [PVCl] at h2
  | [_,_],h2=>simp [PVCl] at h2
  | [_,_,_],h2=>simp [PVCl] at h2
  | [_,_,_,_],h2=>simp [PVCl] at h2
  | a :: b :: c :: d' :: e :: r,h2 =>
   simp only [List.zip_cons_cons,List.map_cons,PVCl,List.zip_nil_left,List.map_nil] at h2 ⊢
   obtain ⟨c0,_,_,g0,_,c1,_,_,g1,_,c2,_,_,g2,_,c3,_,_,g3,_,c4,_,_,g4,_⟩:=h2
   exact ⟨a,b,c,d',e,c0,c1,c2,c3,c4,rfl,g0,g1,g2,g3,g4⟩
 | _=>simp only [toPV,ht,PVC] at h
theorem un61':∃ f0 f1 f2 f3 f4:Field,Tryz.prog.underlying 61 = some (.struct #[f0,f1,f2,f3,f4]) ∧ f0.type = 3 ∧ f1.type = 9 ∧ f2.type = 44 ∧ f3.type = 53 ∧ f4.type = 9:=⟨_,_,_,_,_,Tryz.underlying61,rfl,rfl,rfl,rfl,rfl⟩
theorem uid61:Tryz.prog.underlyingId 61 = 60:=by kernel_rfl
theorem strB_of {n:Nat} (d:DataW H) (c) (h:PVC Tryz.prog W Imm (toPV Tryz.prog (n + 1) 9 d) c):∃ s:List Nat,toPV Tryz.prog (n + 1) 9 d = .str s ∧ ∀ c ∈ s,c < 256:=by
 cases d with
 | lit l =>
  cases l with
  | string bytes =>
   refine ⟨bytes.map (·.toNat),by simp only [toPV,un9],?_⟩
   intro c hc
   obtain ⟨u,_,rfl⟩:=List.mem_map.1 hc
   exact u.toNat_lt
  | _=>simp only [toPV,un9,PVC] at h
 | _=>simp only [toPV,un9,PVC] at h
theorem event_of {n:Nat} (d:DataW H) (c) (h:PVC Tryz.prog W Imm (toPV Tryz.prog (n + 3) 61 d) c):∃ e:{ e:EventD // evW e },toPV Tryz.prog (n + 3) 61 d = eEvent e.1:=by
 obtain ⟨f0,f1,f2,f3,f4,hu,t0,t1,t2,t3,t4⟩:=un61'
 obtain ⟨a,b,x,y,z,c0,c1,c2,c3,c4,h1,g0,g1,g2,g3,g4⟩:=five_of hu (by rw [uid61]; exact sz60) h
 rw [t0] at h1 g0; rw [t1] at h1 g1; rw [t2] at h1 g2; rw [t3] at h1 g3; rw [t4] at h1 g4
 obtain ⟨num,e0⟩:=int_of a c0 g0
 obtain ⟨kind,e1⟩:=str_of b c1 g1
 obtain ⟨names,e2,_⟩:=seq_of un44 (fun d c hh=>str_of d c hh) g2
 obtain ⟨vals,e3,_⟩:=seq_of un53 (fun d c hh=>int_of d c hh) g3
 obtain ⟨text,e4,hb⟩:=strB_of z c4 g4
 exact ⟨⟨⟨num,kind,names,vals,text⟩,hb⟩,by rw [h1,e0,e1,e2,e3,e4,uid61]; rfl⟩
theorem events_arg {d:DataW H} (h:∃ cs,PVC Tryz.prog W Imm (toPV Tryz.prog 8 63 d) cs) (hb:Rows.uptoBulk d ≤ 1048576):∃ l:List EventD,toPV Tryz.prog 8 63 d = .seq (l.map eEvent) ∧ l.length ≤ 1048576 ∧ ∀ e ∈ l,evW e:=by
 obtain ⟨l,h1,h2⟩:=list_arg (n:=7) un63 (fun d c hc=>event_of (n:=4) d c hc) h hb
 refine ⟨l.map (·.1),by rw [h1,List.map_map]; rfl,by simpa using h2,?_⟩
 intro e he
 obtain ⟨x,_,rfl⟩:=List.mem_map.1 he
 exact x.2
end
end Go.Abs
