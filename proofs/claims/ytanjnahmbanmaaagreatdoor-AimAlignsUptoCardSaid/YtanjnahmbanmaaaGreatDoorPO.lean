import Derived.Test.YtanjnahmbanmaaaGreatDoorPH
/- Parts of a proof. -/
set_option linter.unusedSimpArgs false
set_option linter.unusedVariables false
set_option linter.unusedSectionVars false
namespace Go.Abs
open Go.Proofs
set_option maxHeartbeats 4000000
set_option maxRecDepth 100000
def bT:Nat:=1000000000
theorem bT2:2≤bT:=by decide
def iP (l:List Nat):List PV:=l.map fun x:Nat=>.int .i64 x
theorem shpI (w:List Nat):abj Tryz.prog 1 (w.map (AV.p∘fun x:Nat=>PV.int .i64 x)):=by
 rw [aeL];intro v hv;obtain ⟨x,_,rfl⟩:=List.mem_map.1 hv;simp [shpA,shp,aah]
def eT (n:Nat):PV:=.seq ((dig bT n).map fun x:Nat=>.int .i64 x)
theorem awc:dig bT 0=[]:=by simp [dig,digs]
theorem acA {n:Nat} (h0:0<n) (h:n<bT):dig bT n=[n]:=by
 have h1:=abl bT2 (m:=1) (n:=n) (by rw [Nat.pow_one]; exact h);rw [← h1,row,List.range_one,List.map_cons,List.map_nil,plc,Nat.pow_zero,Nat.div_one,Nat.mod_eq_of_lt h];have:=adm [] n (by omega)
 rwa [List.nil_append] at this
theorem afI {n:Nat}:dig bT n=[]↔n=0:=by
 constructor
 · intro h;have:=aaf bT2 n;rw [h,List.length_nil,Nat.pow_zero] at this; omega
 · rintro rfl; exact awc
theorem agr (w:List Nat) (h:w.length≤1048576):aab Tryz.prog 296 [.seq (iP w)] (.seq (iP (aby w))):=by
 refine aad nf axP mix (by simp [Tryz.f296]) ?_;simp only [iP];simp [Tryz.f296];refine lp (α:=Nat) (fun i=>⟨[(0,.p (.seq ((w.take i).map fun x:Nat=>.int .i64 x)))],[]⟩) (fun i=>i≤w.length∧aby w=aby (w.take i)) (fun i=>i) w.length (by simp) ?_;rintro i ⟨k1,k2⟩;have hl:(w.take i).length=i:=by rw [List.length_take]; omega
 by_cases hi:0<i
 · obtain ⟨j,rfl⟩:∃ j,i=j+1:=⟨i - 1,by omega⟩
   have hw1:IntKind.i64.wrap (j:Int)=j:=wi64 _ (by omega) (by omega);have hj:j<w.length:=by omega
   have hp:(0:Int)<(j:Int)+1:=by omega
   have k3:=k2;rw [List.take_succ_eq_append_getElem hj] at k2;have hmin:min (j+1) w.length=j+1:=by omega
   have hmin':min ((j:Int)+1) (w.length:Int)=j+1:=by omega
   have hwne:¬ w=[]:=by rintro rfl; simp at hj
   by_cases hz:w[j]=0
   · rw [hz,af1] at k2;simp [hp,hw1,hj,hz,hmin,hmin',hwne];refine ⟨by rw [← List.map_take]; exact shpI _,?_⟩;refine rd j ⟨by omega,k2⟩ (he:=?_);rw [← List.map_take,← List.map_take,List.take_take,Nat.min_eq_left (by omega)];simp
   · rw [adm _ _ hz,← List.take_succ_eq_append_getElem hj] at k2;simp [hp,hw1,hj,hz,hmin,hmin',hwne];rw [k2,List.map_take];exact Wkl.refl _
 · obtain rfl:i=0:=by omega
   simp [aby] at k2;simp [k2]
def eG (z:Int):PV:=.st 222 [.bool (decide (z<0)),eT z.natAbs]
@[simp] theorem shp_eG (z:Int):shp (eG z)=.agg 222:=rfl
@[simp] theorem flds_eG (z:Int):flds (eG z)=[.bool (decide (z<0)),eT z.natAbs]:=rfl
@[simp] theorem shp_eT (n:Nat):shp (eT n)=.leaf:=rfl
theorem akL (neg:Bool) (w:List Nat) (n:Nat) (hn:aby w=dig bT n) (h:w.length≤1048576):aab Tryz.prog 239 [.bool neg,.seq (iP w)] (eG (if neg=true then -(n:Int) else n)):=by
 have hT:=agr w h;rw [hn] at hT;refine aad nf ax8 mix (by simp [Tryz.f239]) ?_;have hab:(if neg=true then -(n:Int) else n).natAbs=n:=by cases neg <;> simp
 rw [eG,hab,eT];have hnil:=afI (n:=n);have hsg:decide ((if neg=true then -(n:Int) else n)<0)=(neg && decide (0<(dig bT n).length)):=by
  cases neg
  · simp
  · simp;rw [List.length_pos_iff,Ne,hnil];omega
 rw [hsg];simp only [iP] at hT ⊢;generalize dig bT n=x at *;cases neg
 · simp [Tryz.f239];refine c1 hT ?_;simp [shpA]
 · simp [Tryz.f239];refine c1 hT ?_;simp [shpA]
   done
theorem aiw {a b:Nat} (h:(dig bT a).length<(dig bT b).length):a<b:=by
 have h1:=aaf bT2 a;rcases Nat.lt_or_ge a b with h' | h'
 · exact h'
 · have:=aak bT2 (dig bT a).length b (Nat.lt_of_le_of_lt h' h1);omega
theorem ajG {a b i:Nat} (h:a / bT ^ (i+1)=b / bT ^ (i+1)) (hp:plc bT a i<plc bT b i):a<b:=by
 rw [Nat.pow_succ,← Nat.div_div_eq_div_mul,← Nat.div_div_eq_div_mul] at h;have e1:=Nat.div_add_mod (a / bT ^ i) bT;have e2:=Nat.div_add_mod (b / bT ^ i) bT;rw [plc,plc] at hp;rw [h] at e1;rcases Nat.lt_or_ge a b with h' | h'
 · exact h'
 · have:=Nat.div_le_div_right (c:=bT ^ i) h';omega
theorem aua {a b i:Nat} (h:a / bT ^ (i+1)=b / bT ^ (i+1)) (hp:plc bT a i=plc bT b i):a / bT ^ i=b / bT ^ i:=by
 rw [Nat.pow_succ,← Nat.div_div_eq_div_mul,← Nat.div_div_eq_div_mul] at h;have e1:=Nat.div_add_mod (a / bT ^ i) bT;have e2:=Nat.div_add_mod (b / bT ^ i) bT;rw [plc,plc] at hp;rw [h] at e1;omega
theorem ajM (a b:Nat) (ha:(dig bT a).length≤1048576) (hb:(dig bT b).length≤1048576):aab Tryz.prog 293 [eT a,eT b] (.int .i64 (cmpN a b)):=by
 refine aad nf axS mix (by simp [Tryz.f293]) ?_
 by_cases hl:(dig bT a).length=(dig bT b).length
 case neg =>
  have hl':¬ ((dig bT a).length:Int)=(dig bT b).length:=by omega
  by_cases hl2:(dig bT a).length<(dig bT b).length
  · have hl3:((dig bT a).length:Int)<(dig bT b).length:=by omega
    have:=aiw hl2;have hc:cmpN a b = -1:=if_pos this;simp [Tryz.f293,eT,hl',hl3,hc]
  · have hl3:¬ ((dig bT a).length:Int)<(dig bT b).length:=by omega
    have:=aiw (a:=b) (b:=a) (by omega);have hc:cmpN a b=1:=by rw [cmpN,if_neg (by omega),if_pos this]
    simp [Tryz.f293,eT,hl',hl3,hc]
 have hga:∀ i (h:i<(dig bT a).length),(dig bT a)[i]?=some (plc bT a i):=fun i h=>by rw [List.getElem?_eq_getElem h,aal bT2 h]
 have hgb:∀ i (h:i<(dig bT b).length),(dig bT b)[i]?=some (plc bT b i):=fun i h=>by rw [List.getElem?_eq_getElem h,aal bT2 h]
 have hga':∀ i (h:i<(dig bT a).length),(dig bT a)[i]=plc bT a i:=fun i h=>aal bT2 h;have hgb':∀ i (h:i<(dig bT b).length),(dig bT b)[i]=plc bT b i:=fun i h=>aal bT2 h;have h1:=aaf bT2 a;have h2:=aaf bT2 b;rw [← hl] at h2;have hinit:a / bT ^ (dig bT a).length=b / bT ^ (dig bT a).length:=by rw [Nat.div_eq_of_lt h1,Nat.div_eq_of_lt h2]
 simp only [eT];generalize dig bT a=x at *;generalize dig bT b=y at *;have hwl:IntKind.i64.wrap ((y.length:Int) - 1)=y.length - 1:=wi64 _ (by omega) (by omega);simp [Tryz.f293,hl,hwl];refine lp (α:=Nat) (fun i=>⟨[(5,.p (.int .i64 ((i:Int) - 1))),(1,.p (.seq (y.map fun x:Nat=>.int .i64 x))),(0,.p (.seq (x.map fun x:Nat=>.int .i64 x)))],[]⟩) (fun i=>i≤y.length∧a / bT ^ i=b / bT ^ i) (fun i=>i) y.length ⟨Nat.le_refl _,by rw [← hl]; exact hinit⟩ ?_;rintro i ⟨k1,k2⟩
 by_cases hi:0<i
 · obtain ⟨j,rfl⟩:∃ j,i=j+1:=⟨i - 1,by omega⟩
   have hjx:j<x.length:=by omega
   have hjy:j<y.length:=by omega
   have hwj:IntKind.i64.wrap ((j:Int) - 1)=j - 1:=wi64 _ (by omega) (by omega);have gx:=hga j hjx;have gy:=hgb j hjy;have gx':=hga' j hjx;have gy':=hgb' j hjy
   by_cases hq:plc bT a j=plc bT b j
   · simp [hjx,hjy,gx,gy,gx',gy',hq,hwj];exact rd j ⟨by omega,aua k2 hq⟩
   · have hqI:¬ (plc bT a j:Int)=plc bT b j:=by omega
     by_cases hq2:plc bT a j<plc bT b j
     · have:=ajG k2 hq2;have hc:cmpN a b = -1:=if_pos this;simp [hjx,hjy,gx,gy,gx',gy',hqI,hq2,hc]
     · have:=ajG k2.symm (show plc bT b j<plc bT a j by omega);have hq3:plc bT b j<plc bT a j:=by omega
       have hc:cmpN a b=1:=by rw [cmpN,if_neg (by omega),if_pos this]
       simp [hjx,hjy,gx,gy,gx',gy',hqI,hq2,hq3,hc]
 · obtain rfl:i=0:=by omega
   rw [Nat.pow_zero,Nat.div_one,Nat.div_one] at k2;have hc:cmpN a b=0:=by rw [cmpN,if_neg (by omega),if_neg (by omega)]
   simp [hc]
theorem avn {n i:Nat} (h:(dig bT n).length≤i):plc bT n i=0:=aat (Nat.lt_of_lt_of_le (aaf bT2 n) (Nat.pow_le_pow_right (by decide) h))
theorem aoe (a i:Nat):aab Tryz.prog 330 [eT a,.int .i64 i] (.int .i64 (plc bT a i:Nat)):=by
 refine aad nf axx mix (by simp [Tryz.f330]) ?_
 by_cases h:i<(dig bT a).length
 · have g1:(dig bT a)[i]=plc bT a i:=aal bT2 h;rw [eT,← g1];generalize dig bT a=x at *;simp [Tryz.f330,h]
 · rw [avn (by omega),eT];generalize dig bT a=x at *;simp [Tryz.f330,h]
def rwT (i n:Nat):List AV:=(List.range i).map fun j=>.p (.int .i64 (plc bT n j:Nat))
theorem adH (i n:Nat):rwT (i+1) n=rwT i n ++ [.p (.int .i64 (plc bT n i:Nat))]:=by
 rw [rwT,List.range_succ,List.map_append]; rfl
theorem abk (i n:Nat):(rwT i n).length=i:=by simp [rwT]
@[simp] theorem rwT_refs {N:Nat×Nat→Prop} {n i:Nat}:aac N (rwT i n)=True:=by
 rw [aag,eq_iff_iff,iff_true]; intro v hv; simp only [rwT,List.mem_map] at hv; obtain ⟨x,_,rfl⟩:=hv; trivial
theorem ar5 (i n:Nat):allP (rwT i n)=some ((row bT i n).map fun x:Nat=>.int .i64 x):=by
 have:rwT i n=(row bT i n).map (AV.p∘fun x:Nat=>PV.int .i64 x):=by
  rw [rwT,row,List.map_map]; rfl
 rw [this]; exact amL
theorem aw6 (i n:Nat):rwT i n=(row bT i n).map (AV.p∘fun x:Nat=>PV.int .i64 x):=by
 rw [rwT,row,List.map_map]; rfl
theorem awb {n i:Nat} (h:n<bT ^ i) (h2:i=0∨bT ^ (i - 1)≤n):row bT i n=dig bT n:=by
 have hl:(dig bT n).length=i:=by
  have h3:=aak bT2 i n h;rcases h2 with rfl | h2
  · omega
  · have:=ajz bT2 h2; omega
 have:=dig_row bT2 n;rw [hl] at this; exact this.symm
theorem c_addD (a b:Nat) (ha:(dig bT a).length≤1000000) (hb:(dig bT b).length≤1000000):aab Tryz.prog 292 [eT a,eT b] (eT (a+b)):=by
 refine aad nf axT mix (by simp [Tryz.f292]) ?_;have hla:=aaf bT2 a;have hlb:=aaf bT2 b;have hga:∀ i,i<(dig bT a).length→bT ^ i≤a:=fun i h=>by
  rcases Nat.lt_or_ge a (bT ^ i) with h1 | h1
  · have:=aak bT2 i a h1; omega
  · exact h1
 have hgb:∀ i,i<(dig bT b).length→bT ^ i≤b:=fun i h=>by
  rcases Nat.lt_or_ge b (bT ^ i) with h1 | h1
  · have:=aak bT2 i b h1; omega
  · exact h1
 have hca:∀ i,0<aaz bT a b i→bT ^ i≤a+b:=fun i h=>by
  rw [aaz] at h;have h1:bT ^ i≤a % bT ^ i+b % bT ^ i:=by
   rcases Nat.lt_or_ge (a % bT ^ i+b % bT ^ i) (bT ^ i) with h2 | h2
   · rw [Nat.div_eq_of_lt h2] at h; omega
   · exact h2
  have:=Nat.mod_le a (bT ^ i);have:=Nat.mod_le b (bT ^ i);omega
 have hdg:=fun i=>aoe a i;have hdg2:=fun i=>aoe b i;have hend:∀ i,(dig bT a).length≤i→(dig bT b).length≤i→aaz bT a b i=0→a+b<bT ^ i:=fun i h1 h2 h3=>by
  have g1:=Nat.lt_of_lt_of_le hla (Nat.pow_le_pow_right (show 0<bT by decide) h1);have g2:=Nat.lt_of_lt_of_le hlb (Nat.pow_le_pow_right (show 0<bT by decide) h2);rw [aaz,Nat.mod_eq_of_lt g1,Nat.mod_eq_of_lt g2] at h3;rcases Nat.lt_or_ge (a+b) (bT ^ i) with h4 | h4
  · exact h4
  · have:=Nat.div_pos h4 (Nat.pow_pos (show 0<bT by decide)); omega
 have hm:∃ M,M=max (dig bT a).length (dig bT b).length:=⟨_,rfl⟩
 obtain ⟨M,hM⟩:=hm;simp only [eT] at hdg hdg2 ⊢;have hrow:=fun i h h2=>awb (n:=a+b) (i:=i) h h2;generalize dig bT (a+b)=z at *;generalize dig bT a=x at *;generalize dig bT b=y at *;simp [Tryz.f292];refine lp (α:=Nat) (fun i=>⟨[(7,.p (.int .i64 i)),(6,.p (.int .i64 (aaz bT a b i:Nat))),(5,.sl 0 i 1 0 i),(1,.p (.seq (y.map fun x:Nat=>.int .i64 x))),(0,.p (.seq (x.map fun x:Nat=>.int .i64 x)))],[.arr .grow i 1 (rwT i (a+b))]⟩)
  (fun i=>i≤M+1∧(i=0∨bT ^ (i - 1)≤a+b)) (fun i=>M+1 - i) 0 ⟨by omega,.inl rfl⟩ ?_ (he:=by simp [adZ,rwT]) (hh:=by simp [rwT])
 rintro i ⟨k1,k2⟩;have hwi:=wi1 (i:=i) (by omega);have hc1:=abx bT2 a b i;obtain ⟨g1,g2⟩:=ad2 bT2 a b i;have p1:=aaq bT2 a i;have p2:=aaq bT2 b i;have hb0:bT=1000000000:=rfl;have w1:IntKind.i64.wrap ((plc bT a i:Int)+plc bT b i)=plc bT a i+plc bT b i:=wi64 _ (by omega) (by omega);have w2:IntKind.i64.wrap ((plc bT a i:Int)+plc bT b i+aaz bT a b i)=plc bT a i+plc bT b i+aaz bT a b i:=wi64 _ (by omega) (by omega);have d1:((plc bT a i:Int)+plc bT b i+aaz bT a b i).tmod 1000000000=(plc bT (a+b) i:Nat):=by
  rw [Int.tmod_eq_emod_of_nonneg (by omega),← g1,hb0]; omega
 have d2:((plc bT a i:Int)+plc bT b i+aaz bT a b i).tdiv 1000000000=(aaz bT a b (i+1):Nat):=by
  rw [Int.tdiv_eq_ediv_of_nonneg (by omega),← g2,hb0]; omega
 have d3:IntKind.i64.wrap (aaz bT a b (i+1):Nat)=(aaz bT a b (i+1):Nat):=by have:=abx bT2 a b (i+1); exact wi64 _ (by omega) (by omega)
 have htk:List.take i (rwT i (a+b))=rwT i (a+b):=List.take_of_length_le (by rw [abk]; exact Nat.le_refl _)
 by_cases hx:i<x.length
 · simp [hx];refine c2 (hdg i) ?_;simp;refine c2 (hdg2 i) ?_;simp [w1,w2,d1,d2,d3,abk,htk,← adH];refine ⟨by simp only [maxL]; omega,?_⟩;refine rd (i+1) ⟨by omega,.inr (by rw [Nat.add_sub_cancel]; exact Nat.le_trans (hga i hx) (by omega))⟩ (by omega) (he:=by simp [hwi])
 by_cases hy:i<y.length
 · simp [hx,hy];refine c2 (hdg i) ?_;simp;refine c2 (hdg2 i) ?_;simp [w1,w2,d1,d2,d3,abk,htk,← adH];refine ⟨by simp only [maxL]; omega,?_⟩;refine rd (i+1) ⟨by omega,.inr (by rw [Nat.add_sub_cancel]; exact Nat.le_trans (hgb i hy) (by omega))⟩ (by omega) (he:=by simp [hwi])
 by_cases hc:0<aaz bT a b i
 · have hiM:i=M:=by
    rcases Nat.lt_or_ge M i with h | h
    · have e0:=ad2 bT2 a b M;have h1:plc bT a M=0:=aat (Nat.lt_of_lt_of_le hla (Nat.pow_le_pow_right (by decide) (by omega)));have h2:plc bT b M=0:=aat (Nat.lt_of_lt_of_le hlb (Nat.pow_le_pow_right (by decide) (by omega)));have h3:=abx bT2 a b M;have h4:i=M+1:=by omega
      subst h4;rw [h1,h2] at e0;rw [← e0.2,Nat.div_eq_of_lt (by omega)] at hc;omega
    · omega
   simp [hx,hy,hc];refine c2 (hdg i) ?_;simp;refine c2 (hdg2 i) ?_;simp [w1,w2,d1,d2,d3,abk,htk,← adH];refine ⟨by simp only [maxL]; omega,?_⟩;refine rd (i+1) ⟨by omega,.inr (by rw [Nat.add_sub_cancel]; exact hca i hc)⟩ (by omega) (he:=by simp [hwi])
 · have hc0:aaz bT a b i=0:=by omega
   have hz:=hrow i (hend i (by omega) (by omega) hc0) k2;rw [← hz];simp [hx,hy,hc0];refine ⟨by rw [abk]; exact Nat.le_refl _,?_⟩;rw [htk,aw6];simp
theorem aui (a b:Nat) (hab:b≤a) (ha:(dig bT a).length≤1000000):aab Tryz.prog 294 [eT a,eT b] (eT (a - b)):=by
 refine aad nf axR mix (by simp [Tryz.f294]) ?_;have hla:=aaf bT2 a;have hdg2:=fun i=>aoe b i;have hga:∀ i (h:i<(dig bT a).length),(dig bT a)[i]?=some (plc bT a i):=fun i h=>by rw [List.getElem?_eq_getElem h,aal bT2 h]
 have hga':∀ i (h:i<(dig bT a).length),(dig bT a)[i]=plc bT a i:=fun i h=>aal bT2 h;have htr:aby (row bT (dig bT a).length (a - b))=dig bT (a - b):=abl bT2 (Nat.lt_of_le_of_lt (Nat.sub_le a b) hla);have hT:=agr (row bT (dig bT a).length (a - b)) (by rw [asd]; omega);rw [htr] at hT;simp only [eT] at hdg2 ⊢;simp only [iP] at hT;generalize dig bT (a - b)=z at *;generalize dig bT a=x at *;generalize dig bT b=y at *;simp [Tryz.f294];refine lp (α:=Nat) (fun i=>⟨[(7,.p (.int .i64 i)),(6,.p (.int .i64 (aaF bT a b i:Nat))),(5,.sl 0 i 1 0 i),(1,.p (.seq (y.map fun x:Nat=>.int .i64 x))),(0,.p (.seq (x.map fun x:Nat=>.int .i64 x)))],[.arr .grow i 1 (rwT i (a - b))]⟩)
  (fun i=>i≤x.length) (fun i=>x.length - i) 0 (by simp) ?_ (he:=by simp [aev,rwT]) (hh:=by simp [rwT])
 intro i k1;have hwi:=wi1 (i:=i) (by omega);have htk:List.take i (rwT i (a - b))=rwT i (a - b):=List.take_of_length_le (by rw [abk]; exact Nat.le_refl _);have hb0:bT=1000000000:=rfl;have p1:=aaq bT2 a i;have p2:=aaq bT2 b i;have p3:=aaq bT2 (a - b) i;have p4:aaF bT a b i≤1:=by rw [aaF]; split <;> omega
 have w1:IntKind.i64.wrap ((plc bT a i:Int) - plc bT b i)=plc bT a i - plc bT b i:=wi64 _ (by omega) (by omega);have w2:IntKind.i64.wrap ((plc bT a i:Int) - plc bT b i - aaF bT a b i)=plc bT a i - plc bT b i - aaF bT a b i:=wi64 _ (by omega) (by omega)
 by_cases hx:i<x.length
 · have gx:=hga i hx;have gx':=hga' i hx;rcases aoN bT2 hab i with ⟨b1,b2,b3⟩ | ⟨b1,b2,b3⟩
   · have t1:(plc bT a i:Int) - plc bT b i - aaF bT a b i<0:=by omega
     have t2:IntKind.i64.wrap ((plc bT a i:Int) - plc bT b i - aaF bT a b i+1000000000)=(plc bT (a - b) i:Nat):=by rw [wi64 _ (by omega) (by omega)]; omega
     simp [hx,gx,gx'];refine e2 (hdg2 i) ?_;simp [w1,w2,t1,t2,abk,htk,← adH];refine ⟨by simp only [maxL]; omega,?_⟩;refine rd (i+1) hx (he:=by simp [hwi,b2])
   · have t1:¬ (plc bT a i:Int) - plc bT b i - aaF bT a b i<0:=by omega
     have t2:(plc bT a i:Int) - plc bT b i - aaF bT a b i=(plc bT (a - b) i:Nat):=by omega
     rw [t2] at t1 w2;simp [hx,gx,gx'];refine e2 (hdg2 i) ?_;simp [w1,w2,t2,abk,htk,← adH];refine ⟨by simp only [maxL]; omega,?_⟩;refine rd (i+1) hx (he:=by simp [hwi,b2])
 · have:i=x.length:=by omega
   subst this;have hfull:=aw6 x.length (a - b);have hll:(row bT x.length (a - b)).length=x.length:=asd;generalize row bT x.length (a - b)=l at hT hfull hll;have hlt:List.take x.length l=l:=List.take_of_length_le (by omega);rcases l with _ | ⟨c,t⟩
   · simp at hll;simp [hfull];refine cp hT (by simp [← hll]; exact ⟨rfl,rfl⟩) ?_;simp
   · have hlt2:List.take x.length (PV.int .i64 c::List.map (fun x:Nat=>PV.int .i64 x) t)=PV.int .i64 c::List.map (fun x:Nat=>PV.int .i64 x) t:=List.take_of_length_le (by simp at hll ⊢; omega);simp at hll;simp [hfull];refine cp hT (by simp [← hll]; exact ⟨rfl,rfl⟩) ?_;simp
def rwF (n:Nat) (f:Nat→Nat):List AV:=(List.range n).map fun j=>.p (.int .i64 (f j:Nat))
theorem ahA (n:Nat) (f:Nat→Nat):(rwF n f).length=n:=by simp [rwF]
theorem aoW (n:Nat):List.replicate n (AV.p (.int .i64 0))=rwF n fun _=>0:=by
 apply List.ext_getElem (by simp [rwF]);intro i h1 h2;simp [rwF]
theorem af6 {n j:Nat} (f:Nat→Nat) (h:j<n):(rwF n f)[j]?=some (.p (.int .i64 (f j:Nat))):=by
 rw [rwF,List.getElem?_map,List.getElem?_range h]; rfl
theorem am8 {n i:Nat} (f g:Nat→Nat) (h:∀ j,j<n→j≠i→g j=f j):(rwF n f).set i (.p (.int .i64 (g i:Nat)))=rwF n g:=by
 apply List.ext_getElem (by simp [rwF]);intro j h1 h2;rw [ahA] at h2;rw [List.getElem_set];simp only [rwF,List.getElem_map,List.getElem_range]
 by_cases hj:i=j
 · subst hj; rw [if_pos rfl]
 · rw [if_neg hj,h j h2 (fun e=>hj e.symm)]
@[simp] theorem rwF_refs {N:Nat×Nat→Prop} {n:Nat} {f:Nat→Nat}:aac N (rwF n f)=True:=by
 rw [aag,eq_iff_iff,iff_true]; intro v hv; simp only [rwF,List.mem_map] at hv; obtain ⟨x,_,rfl⟩:=hv; trivial
theorem aj1 {n:Nat} {f g:Nat→Nat} (h:∀ j,j<n→f j=g j):rwF n f=rwF n g:=by
 rw [rwF,rwF];apply List.map_congr_left;intro j hj;rw [h j (List.mem_range.1 hj)]
theorem aj0 (n:Nat) (f:Nat→Nat):rwF n f=((List.range n).map f).map (AV.p∘fun x:Nat=>PV.int .i64 x):=by
 rw [rwF,List.map_map]; rfl
theorem ar6 {n:Nat} {f:Nat→Nat} (h:∀ j,f j=0):List.replicate n (AV.p (.int .i64 0))=rwF n f:=by
 rw [aoW]; exact aj1 fun j _=>(h j).symm
theorem auk (a b:Nat) (hab:(dig bT a).length+(dig bT b).length≤1000000):aab Tryz.prog 240 [eT a,eT b] (eT (a*b)):=by
 refine aad nf ax7 mix (by simp [Tryz.f240]) ?_;have hda:∀ i (h:i<(dig bT a).length),(dig bT a)[i]=plc bT a i:=fun i h=>aal bT2 h;have hdb:∀ i (h:i<(dig bT b).length),(dig bT b)[i]=plc bT b i:=fun i h=>aal bT2 h;have hla:=aaf bT2 a;have hlb:=aaf bT2 b;have htr:aby ((List.range ((dig bT a).length+(dig bT b).length)).map (plc bT (a*b)))=dig bT (a*b):=abl bT2 (by
  rw [Nat.pow_add]; exact Nat.mul_lt_mul'' hla hlb)
 have hT:=agr ((List.range ((dig bT a).length+(dig bT b).length)).map (plc bT (a*b))) (by simp; omega);rw [htr] at hT;have hb0:bT=1000000000:=rfl;simp only [eT];simp only [iP] at hT;generalize dig bT (a*b)=z at *;generalize dig bT a=x at *;generalize dig bT b=y at *;obtain ⟨n,hn⟩:∃ n,x.length=n:=⟨_,rfl⟩
 obtain ⟨m,hm⟩:∃ m,y.length=m:=⟨_,rfl⟩
 rw [hn] at hla hT hab;rw [hm] at hlb hT hab;have hfull:=aj0 (n+m) (plc bT (a*b));have hll:((List.range (n+m)).map (plc bT (a*b))).length=n+m:=by simp
 generalize (List.range (n+m)).map (plc bT (a*b))=l at hT hfull hll;have ht1:((n:Int)+m).toNat=n+m:=by omega
 have hp1:0≤(n:Int)+m:=by omega
 have hwn':IntKind.i64.wrap ((n:Int)+m)=(n:Int)+m:=wi64 _ (by omega) (by omega);simp [Tryz.f240,hn,hm,hwn',ht1,hp1];refine ⟨by simp only [maxL]; omega,?_⟩;rw [ar6 (f:=mulP bT a b 0 0) (by intro j; simp [acq,Nat.mod_one,plc])];refine lp (α:=Nat) (fun i=>⟨[(6,.p (.int .i64 i)),(5,.sl 0 0 1 0 (n+m)),(1,.p (.seq (y.map fun x:Nat=>.int .i64 x))),(0,.p (.seq (x.map fun x:Nat=>.int .i64 x)))],[.arr .exact 0 1 (rwF (n+m) (mulP bT a b i 0))]⟩)
  (fun i=>i≤n) (fun i=>n - i) 0 (by simp) ?_ (he:=by simp)
 intro i k1;have hwi:=wi1 (i:=i) (by omega)
 by_cases hi:i<n
 · have hix:i<x.length:=by rw [hn]; exact hi
   have hx:=hda i hix;have hx':x[i]?=some (plc bT a i):=by rw [List.getElem?_eq_getElem hix,hx]
   simp [hn,hi];refine lp (α:=Nat) (fun j=>⟨[(8,.p (.int .i64 j)),(7,.p (.int .i64 (mulC bT a b i j:Nat))),(6,.p (.int .i64 i)),(5,.sl 0 0 1 0 (n+m)),(1,.p (.seq (y.map fun x:Nat=>.int .i64 x))),(0,.p (.seq (x.map fun x:Nat=>.int .i64 x)))],[.arr .exact 0 1 (rwF (n+m) (mulP bT a b i j))]⟩)
    (fun j=>j≤m) (fun j=>m - j) 0 (by simp) ?_ (he:=by simp [ah1])
   intro j k2;have hwj:=wi1 (i:=j) (by omega);have ht2:((i:Int)+j).toNat=i+j:=by omega
   have hp2:0≤(i:Int)+j:=by omega
   have hwij:IntKind.i64.wrap ((i:Int)+j)=(i:Int)+j:=wi64 _ (by omega) (by omega)
   by_cases hj:j<m
   · have hjy:j<y.length:=by rw [hm]; exact hj
     have hy:=hdb j hjy;have hy':y[j]?=some (plc bT b j):=by rw [List.getElem?_eq_getElem hjy,hy]
     have hij:i+j<n+m:=by omega
     have hg:=af6 (mulP bT a b i j) hij;have h0:=akm bT2 a b i j;have h1:=agb bT2 a b i j;have h2:=agb bT2 a b i (j+1);have h3:mulP bT a b i j (i+j) < bT:=by rw [mulP]; split <;> exact aaq bT2 _ _
     have p1:=aaq bT2 a i;have p2:=aaq bT2 b j;have hs:=am8 (n:=n+m) (i:=i+j) (mulP bT a b i j) (mulP bT a b i (j+1)) (fun k _ hk=>alU bT2 hk);rw [apg] at hs;rw [← h0.1] at hs;have hP:plc bT a i*plc bT b j≤999999999*999999999:=Nat.mul_le_mul (by omega) (by omega);rw [← h0.2] at h2;have h02:=h0.2;clear h0;have hPc:((plc bT a i:Int)*(plc bT b j:Int))=((plc bT a i*plc bT b j:Nat):Int):=by push_cast; rfl
     generalize plc bT a i*plc bT b j=P at *;generalize mulP bT a b i j (i+j)=O at *;generalize hMC:mulC bT a b i j=C at *;have w1:IntKind.i64.wrap ((plc bT a i:Int)*(plc bT b j:Int))=P:=by rw [hPc]; exact wi64 _ (by omega) (by omega)
     have w2:IntKind.i64.wrap ((O:Int)+P)=O+P:=wi64 _ (by omega) (by omega);have w3:IntKind.i64.wrap ((O:Int)+P+C)=O+P+C:=wi64 _ (by omega) (by omega);have d1:((O:Int)+P+C).tmod 1000000000=((P+O+C) % bT:Nat):=by
      rw [Int.tmod_eq_emod_of_nonneg (by omega),hb0]; omega
     generalize (P+O+C) % bT=D at *;have d2:((O:Int)+P+C).tdiv 1000000000=(mulC bT a b i (j+1):Nat):=by
      rw [Int.tdiv_eq_ediv_of_nonneg (by omega),← h02,hb0]; omega
     have d3:IntKind.i64.wrap ((mulC bT a b i (j+1):Nat):Int)=(mulC bT a b i (j+1):Nat):=wi64 _ (by omega) (by omega);simp [hn,hm,hj,hwij,ht2,hp2,hij,hg,hx,hx',hy,hy',hix,hjy,w1,w2,w3,d1,d2,d3,hs,shpA];exact rd (j+1) (show j+1≤m by omega) (he:=by simp [hwj])
   have:j=m:=by omega
   subst this;have hwy:IntKind.i64.wrap ((i:Int)+j)=(i:Int)+j:=wi64 _ (by omega) (by omega);have hin:i+j<n+j:=by omega
   have hz:mulP bT a b i j (i+j)=0:=by
    rw [mulP,if_neg (by omega)];exact aat (ahK bT2 a i hlb)
   have hg:=af6 (mulP bT a b i j) hin;rw [hz] at hg;have hs:=am8 (n:=n+j) (i:=i+j) (mulP bT a b i j) (mulP bT a b (i+1) 0) (fun k _ hk=>by rw [acq,aph bT2 hlb hk]);rw [acq,← ahZ bT2 hlb] at hs;have h2:=agb bT2 a b i j;have w4:IntKind.i64.wrap ((mulC bT a b i j:Nat):Int)=(mulC bT a b i j:Nat):=wi64 _ (by omega) (by omega);simp [hm,hwy,ht2,hp2,hi,hin,hg,hs,w4,shpA];exact rd (i+1) (show i+1≤n by omega) (he:=by simp [hwi])
 have:i=n:=by omega
 subst this;have hfin:rwF (i+m) (mulP bT a b i 0)=rwF (i+m) (plc bT (a*b)):=aj1 fun k _=>by rw [acq,Nat.mod_eq_of_lt hla]
 simp [hn,hfin,hfull];refine cp hT (by simp [hll]; exact ⟨rfl,rfl⟩) ?_ (h1:=by simp [List.take_of_length_le,hll]);simp
theorem asQ {a b i:Nat} (hb:0<b):(a / bT ^ (i+1) % b*bT+plc bT a i) / b=plc bT (a / b) i∧(a / bT ^ (i+1) % b*bT+plc bT a i) % b=a / bT ^ i % b:=by
 have e:=abG (B:=bT) a i;have h1:=Nat.div_add_mod (a / bT ^ (i+1)) b;have h2:a / bT ^ i=(a / bT ^ (i+1) % b*bT+plc bT a i)+a / bT ^ (i+1) / b*bT*b:=by
  rw [e];generalize plc bT a i=d;generalize a / bT ^ (i+1) / b=Q at *;generalize a / bT ^ (i+1) % b=R at *;rw [← h1,Nat.add_mul,Nat.mul_comm b,Nat.mul_right_comm Q b bT];omega
 have hlt:(a / bT ^ (i+1) % b*bT+plc bT a i) / b<bT:=by
  rw [Nat.div_lt_iff_lt_mul hb];have h3:=aaq bT2 a i;have h4:=Nat.mul_le_mul_right bT (show a / bT ^ (i+1) % b+1≤b from Nat.mod_lt _ hb);rw [Nat.add_mul,Nat.one_mul] at h4;rw [Nat.mul_comm bT]; omega
 constructor
 · conv=>rhs; rw [plc,Nat.div_div_eq_div_mul,Nat.mul_comm b,← Nat.div_div_eq_div_mul,h2,Nat.add_mul_div_right _ _ hb,Nat.add_mul_mod_self_right,Nat.mod_eq_of_lt hlt]
 · rw [h2,Nat.add_mul_mod_self_right]
theorem awm (r x:Nat):(r:Int)*1000000000+x=((r*bT+x:Nat):Int):=by
 rw [Int.natCast_add,Int.natCast_mul]; rfl
def qT (Q i k:Nat):Nat:=if i≤k then plc bT Q k else 0
theorem aso {m Q i:Nat}:(rwF m (qT Q (i+1))).set i (.p (.int .i64 (plc bT Q i:Nat)))=rwF m (qT Q i):=by
 have:=am8 (n:=m) (i:=i) (qT Q (i+1)) (qT Q i) (fun k _ hk=>by
  rw [qT,qT]
  by_cases h:i≤k
  · rw [if_pos h,if_pos (by omega)]
  · rw [if_neg h,if_neg (by omega)])
 rw [← this,qT,if_pos (Nat.le_refl _)]
theorem asn {m Q:Nat}:rwF m (qT Q 0)=rwF m (plc bT Q):=aj1 fun k _=>by rw [qT,if_pos (Nat.zero_le _)]
theorem asq {m Q:Nat}:List.replicate m (AV.p (.int .i64 0))=rwF m (qT Q m):=by
 rw [aoW];exact aj1 fun k hk=>by rw [qT,if_neg (by omega)]
theorem auh {m N:Nat} (h:N<bT ^ m) (hm:m≤1048576):∃ l:List Nat,l.length=m∧rwF m (plc bT N)=l.map (AV.p∘fun x:Nat=>PV.int .i64 x)∧aab Tryz.prog 296 [.seq (iP l)] (eT N):=by
 refine ⟨(List.range m).map (plc bT N),by simp,aj0 m _,?_⟩;have hT:=agr ((List.range m).map (plc bT N)) (by simp; omega);rw [show aby ((List.range m).map (plc bT N))=dig bT N from abl bT2 h] at hT;exact hT
theorem ajL (a d:Nat) (hd:0<d) (hd2:d<bT) (hl:(dig bT a).length≤1000000):aab Tryz.prog 295 [eT a,.int .i64 d] (.tup [eT (a / d),.int .i64 (a % d:Nat)]):=by
 refine aad nf axQ mix (by simp [Tryz.f295]) ?_;have hda:∀ i (h:i<(dig bT a).length),(dig bT a)[i]=plc bT a i:=fun i h=>aal bT2 h;have hla:=aaf bT2 a;obtain ⟨l,hll,hlm,hT⟩:=auh (m:=(dig bT a).length) (N:=a / d) (Nat.lt_of_le_of_lt (Nat.div_le_self _ _) hla) (by omega);have hend:a / bT ^ (dig bT a).length % d=0:=by rw [Nat.div_eq_of_lt hla,Nat.zero_mod]
 have hz0:a / bT ^ 0 % d=a % d:=by rw [Nat.pow_zero,Nat.div_one]
 have hb0:bT=1000000000:=rfl;simp only [eT] at hT ⊢;simp only [iP] at hT;generalize dig bT (a / d)=zq at *;generalize dig bT a=x at *;obtain ⟨n,hn⟩:∃ n,x.length=n:=⟨_,rfl⟩
 rw [hn] at hll hlm hend hl;generalize hrem:a % d=rem at *;obtain ⟨f,hf⟩:∃ f:Nat→Nat,∀ i,a / bT ^ i % d=f i:=⟨_,fun _=>rfl⟩
 have ho1:=fun i=>asQ (a:=a) (b:=d) (i:=i) hd;have hfl:∀ i,f i<d:=fun i=>by rw [← hf]; exact Nat.mod_lt _ hd
 simp only [hf] at hend hz0 ho1;have e1':IntKind.i64.wrap ((n:Int) - 1)=n - 1:=wi64 _ (by omega) (by omega);simp [Tryz.f295,hn,e1'];refine ⟨by simp only [maxL]; omega,?_⟩;rw [asq (Q:=a / d)];refine lp (α:=Nat) (fun i=>⟨[(8,.p (.int .i64 ((i:Int) - 1))),(7,.p (.int .i64 (f i:Nat))),(6,.sl 0 0 1 0 n),(1,.p (.int .i64 d)),(0,.p (.seq (x.map fun x:Nat=>.int .i64 x)))],[.arr .exact 0 1 (rwF n (qT (a / d) i))]⟩)
  (fun i=>i≤n) (fun i=>i) n (Nat.le_refl _) ?_ (he:=by simp [hend])
 intro i k1
 by_cases hi:0<i
 · obtain ⟨k,rfl⟩:∃ k,i=k+1:=⟨i - 1,by omega⟩
   have e2':IntKind.i64.wrap ((k:Int) - 1)=k - 1:=wi64 _ (by omega) (by omega);have ik:k<x.length:=by omega
   have hx:=hda k ik;have hx':x[k]?=some (plc bT a k):=by rw [List.getElem?_eq_getElem ik,hx]
   obtain ⟨r1,r2⟩:=ho1 k;have hst:=aso (m:=n) (Q:=a / d) (i:=k);have gk:=af6 (qT (a / d) (k+1)) (show k<n by omega);have hkn:k<n:=by omega
   have hR:=hfl (k+1);have hp:=aaq bT2 a k;have hq:=aaq bT2 (a / d) k;have hR2:=hfl k;generalize f (k+1)=R1 at *;generalize hR2e:f k=R2 at *;generalize plc bT a k=dk at *;generalize plc bT (a / d) k=qk at *;have w1:IntKind.i64.wrap ((R1:Int)*1000000000)=R1*1000000000:=wi64 _ (by omega) (by omega);have w2:IntKind.i64.wrap ((R1:Int)*1000000000+dk)=R1*1000000000+dk:=wi64 _ (by omega) (by omega);have hcast:(R1:Int)*1000000000+dk=((R1*bT+dk:Nat):Int):=awm R1 dk;have d1:((R1:Int)*1000000000+dk).tdiv d=qk:=by
    rw [hcast,Int.tdiv_eq_ediv_of_nonneg (Int.natCast_nonneg _),← Int.natCast_ediv,r1]
   have d2:((R1:Int)*1000000000+dk).tmod d=R2:=by
    rw [hcast,Int.tmod_eq_emod_of_nonneg (Int.natCast_nonneg _),← Int.natCast_emod,r2]
   have d3:IntKind.i64.wrap (qk:Int)=qk:=wi64 _ (by omega) (by omega);have hd0:¬ (d:Int)=0:=by omega
   have hd0':¬ d=0:=by omega
   simp [hn,e2',hx,hx',hkn,ik,w1,w2,d1,d2,d3,hd0,hd0',gk,hst,shpA];exact rd k (show k≤n by omega) (he:=by simp [hR2e])
 · obtain rfl:i=0:=by omega
   simp [asn,hlm,hz0];refine cp hT (by simp [hll]; exact ⟨rfl,rfl⟩) ?_ (h1:=by simp [List.take_of_length_le,hll]);simp
def gsL (v1 v2 w2:Nat):Nat→Nat→Nat
 | 0,_=>0
 | t+1,r=>if bT≤t+1∨r*bT+w2<(t+1)*v2 then (if bT≤r+v1 then t else gsL v1 v2 w2 t (r+v1)) else t+1
theorem gsL_pos {v1 v2 w2 t r:Nat} (h:0<t):gsL v1 v2 w2 t r=if bT≤t∨r*bT+w2<t*v2 then (if bT≤r+v1 then t - 1 else gsL v1 v2 w2 (t - 1) (r+v1)) else t:=by
 cases t with
 | zero=>exact absurd h (Nat.lt_irrefl 0)
 | succ t=>rw [gsL,Nat.add_sub_cancel]
theorem alS {a b:Nat} (ha:a<bT) (hb:b<bT):IntKind.i64.wrap ((a:Int)*b)=(a:Int)*b:=by
 have hP:a*b≤999999999*999999999:=Nat.mul_le_mul (by simp only [bT] at ha; omega) (by simp only [bT] at hb; omega);rw [← Int.natCast_mul];generalize a*b=P at *;exact wi64 _ (by omega) (by omega)
theorem tstT {a b r w:Nat}:(r:Int)*1000000000+w<(a:Int)*b↔r*bT+w<a*b:=by
 rw [awm,← Int.natCast_mul]; exact Int.ofNat_lt
theorem geT {r v:Nat}:(1000000000:Int)≤(r:Int)+v↔bT≤r+v:=by simp only [bT]; omega
theorem geT1 {t:Nat}:(1000000000:Int)≤(t:Int)↔bT≤t:=by simp only [bT]; omega
theorem subT {t:Nat} (h:0<t) (h2:t≤bT+1):IntKind.i64.wrap ((t:Int) - 1)=((t - 1:Nat):Int):=by
 simp only [bT] at h2;rw [wi64 _ (by omega) (by omega)]; omega
theorem ayQ {v1 v2 w0 w1 w2 Q : Nat} (hv : bT ≤ 2 * v1) (hv1 : v1 < bT) (hw0 : w0 ≤ v1) (hw1 : w1 < bT) (hQ : Q < bT)
    (hok:∀ q r,q*v1+r=w0*bT+w1→q<bT→q*v2≤r*bT+w2→q≤Q+1) (hdec:∀ q r,q*v1+r=w0*bT+w1→r*bT+w2<q*v2→Q<q)
    (hov:∀ q r,bT≤r→q<bT→q*v2≤r*bT+w2):∀ t r,t*v1+r=w0*bT+w1→Q≤t→r<bT→t≤bT+1→Q≤gsL v1 v2 w2 t r∧gsL v1 v2 w2 t r≤Q+1∧gsL v1 v2 w2 t r<bT
 | 0,r,h1,h2,h3,h4=>by
  rw [gsL]; exact ⟨h2,by omega,by omega⟩
 | t+1,r,h1,h2,h3,h4=>by
  rw [gsL]
  by_cases hc:bT≤t+1∨r*bT+w2<(t+1)*v2
  · rw [if_pos hc];have hq:Q≤t:=by
     rcases hc with h | h
     · omega
     · have:=hdec _ _ h1 h; omega
    have h5:t*v1+(r+v1)=w0*bT+w1:=by rw [Nat.add_mul,Nat.one_mul] at h1; omega
    by_cases hr:bT≤r+v1
    · rw [if_pos hr];have ht:t<bT:=by
       rcases Nat.lt_or_ge t bT with h | h
       · exact h
       · have e:t=bT:=by omega
         subst e;have:=Nat.mul_le_mul_right bT hw0;rw [Nat.mul_comm v1] at this;omega
      exact ⟨hq,hok _ _ h5 ht (hov _ _ hr ht),ht⟩
    · rw [if_neg hr];exact ayQ hv hv1 hw0 hw1 hQ hok hdec hov t (r+v1) h5 hq (by omega) (by omega)
  · rw [if_neg hc];have h6:t+1<bT:=by
     rcases Nat.lt_or_ge (t+1) bT with h | h
     · exact h
     · exact (hc (.inl h)).elim
    have h7:(t+1)*v2≤r*bT+w2:=by
     rcases Nat.lt_or_ge (r*bT+w2) ((t+1)*v2) with h | h
     · exact (hc (.inr h)).elim
     · exact h
    exact ⟨h2,hok _ _ h1 h6 h7,h6⟩
theorem g_guess (W V N j n : Nat) (k : AK) (ver : Nat) (f : Nat → Nat) (hn : 2 ≤ n) (hVn : (dig bT V).length = n) (hV2 : bT ≤ 2 * plc bT V (n - 1)) (hW : W < V * bT) (hN : N ≤ 1000000) (hj : j + n < N)
    (hf:∀ i,i≤n→f (j+i)=plc bT W i):∃ t,W / V≤t∧t≤W / V+1∧t<bT ∧
    abp Tryz.prog 297 [.arr k ver 1 (rwF N f)] [.sl 0 ver 1 0 N,.p (eT V),.p (.int .i64 j)] [.arr k ver 1 (rwF N f)] (.p (.int .i64 t)):=by
 have hb0:bT=1000000000:=rfl;have hVlt:V<bT ^ n:=by rw [← hVn]; exact aaf bT2 V
 have hVge:bT ^ (n - 1)≤V:=by
  rcases Nat.lt_or_ge V (bT ^ (n - 1)) with h | h
  · have:=aak bT2 (n - 1) V h; omega
  · exact h
 obtain ⟨hd1,hd2⟩:=anT bT2 (show 1≤n by omega) hVlt hW;have htop:W / bT ^ n=plc bT W n:=by
  rw [plc,Nat.mod_eq_of_lt];have:=aaq bT2 V (n - 1); omega
 have hT:W / bT ^ (n - 1)=plc bT W n*bT+plc bT W (n - 1):=by
  rw [abG,show n - 1+1=n by omega,htop]
 have hgi:=atw bT2 hn hVge hVlt (W:=W);have hgok:=fun q r=>gs_ok bT2 hn hVge hVlt (W:=W) (q:=q) (r:=r);have hgdec:=fun q r=>ayP bT2 hn hVge hVlt (W:=W) (q:=q) (r:=r);have hgov:=fun q r=>atv bT2 (V:=V) (W:=W) (n:=n) (q:=q) (r:=r);rw [hT] at hgi hgok hgdec;have q1:=aaq bT2 W n;have q2:=aaq bT2 W (n - 1);have q3:=aaq bT2 W (n - 2);have q4:=aaq bT2 V (n - 1);have q5:=aaq bT2 V (n - 2);have f1:=hf n (Nat.le_refl _);have f2:=hf (n - 1) (by omega);have f3:=hf (n - 2) (by omega);rw [htop] at hd1;have hdv1:(dig bT V)[n - 1]?=some (plc bT V (n - 1)):=by rw [List.getElem?_eq_getElem (by omega),aal bT2 (by omega)]
 have hdv2:(dig bT V)[n - 2]?=some (plc bT V (n - 2)):=by rw [List.getElem?_eq_getElem (by omega),aal bT2 (by omega)]
 have hdv1':∀ h:n - 1<(dig bT V).length,(dig bT V)[n - 1]=plc bT V (n - 1):=fun h=>aal bT2 h;have hdv2':∀ h:n - 2<(dig bT V).length,(dig bT V)[n - 2]=plc bT V (n - 2):=fun h=>aal bT2 h;simp only [eT];generalize dig bT V=y at *;generalize hQ:W / V=Q at *;generalize hw0:plc bT W n=w0 at *;generalize hw1:plc bT W (n - 1)=w1 at *;generalize hw2:plc bT W (n - 2)=w2 at *;generalize hv1:plc bT V (n - 1)=v1 at *;generalize hv2:plc bT V (n - 2)=v2 at *;clear hT htop hVlt hVge hW hf;have g1:=af6 f (show j+n<N by omega);have g2:=af6 f (show j+(n - 1)<N by omega);have g3:=af6 f (show j+(n - 2)<N by omega);rw [f1] at g1;rw [f2] at g2;rw [f3] at g3;have hlen:=ahA N f;have hur:∀ NN:Nat×Nat→Prop,aac NN (rwF N f):=fun NN=>by simp
 generalize rwF N f=u at *;obtain ⟨tp,htp⟩:∃ tp,tp=w0*bT+w1:=⟨_,rfl⟩
 obtain ⟨t0,ht0⟩:∃ t0,t0=tp / v1:=⟨_,rfl⟩
 obtain ⟨r0,hr0⟩:∃ r0,r0=tp % v1:=⟨_,rfl⟩
 have hv0:0<v1:=by omega
 have htr:t0*v1+r0=tp:=by rw [ht0,hr0,Nat.mul_comm]; exact Nat.div_add_mod _ _
 have hr0l:r0<bT:=Nat.lt_trans (by rw [hr0]; exact Nat.mod_lt _ hv0) q4;have ht0l:t0≤bT+1:=by
  have h1:=Nat.mul_le_mul_right bT hd1;rw [Nat.mul_comm v1] at h1;rcases Nat.lt_or_ge (bT+1) t0 with h | h
  · have h2:=Nat.mul_le_mul_right v1 (show bT+2≤t0 from h);rw [Nat.add_mul] at h2;omega
  · exact h
 rw [← htp] at hgi hgok hgdec;rw [← ht0] at hgi;have hall:=ayQ (v2:=v2) (w2:=w2) hV2 q4 hd1 q2 hd2 (by rw [← htp]; exact hgok) (by rw [← htp]; exact hgdec) hgov t0 r0 (by rw [← htp]; exact htr) hgi hr0l ht0l;refine ⟨gsL v1 v2 w2 t0 r0,hall.1,hall.2.1,hall.2.2,?_⟩;obtain ⟨T,hT⟩:∃ T,T=gsL v1 v2 w2 t0 r0:=⟨_,rfl⟩
 rw [← hT];clear hall hgi hgok hgdec hgov;have hyl:y.length=n:=hVn;have wa:IntKind.i64.wrap ((j:Int)+n)=(j+n:Nat):=by rw [wi64 _ (by omega) (by omega)]; omega
 have wa':IntKind.i64.wrap ((j:Int)+n)=(j:Int)+n:=wi64 _ (by omega) (by omega);have wb:IntKind.i64.wrap ((j:Int)+n - 1)=(j:Int)+n - 1:=wi64 _ (by omega) (by omega);have wc:IntKind.i64.wrap ((n:Int) - 1)=(n:Int) - 1:=wi64 _ (by omega) (by omega);have wd:IntKind.i64.wrap ((n:Int) - 2)=(n:Int) - 2:=wi64 _ (by omega) (by omega);have we:IntKind.i64.wrap ((j:Int)+n - 2)=(j:Int)+n - 2:=wi64 _ (by omega) (by omega);have ta:((j:Int)+n).toNat=j+n:=by omega
 have tb:((j:Int)+n - 1).toNat=j+(n - 1):=by omega
 have tc:((n:Int) - 1).toNat=n - 1:=by omega
 have td:((n:Int) - 2).toNat=n - 2:=by omega
 have te:((j:Int)+n - 2).toNat=j+(n - 2):=by omega
 have wf:IntKind.i64.wrap ((w0:Int)*1000000000)=(w0:Int)*1000000000:=wi64 _ (by omega) (by omega);have hcast:(w0:Int)*1000000000+w1=(tp:Nat):=by rw [htp]; exact awm w0 w1
 have htpl:tp<1000000000000000000:=by rw [htp,hb0]; omega
 have wg:IntKind.i64.wrap ((w0:Int)*1000000000+w1)=(tp:Nat):=by rw [hcast]; exact wi64 _ (by omega) (by omega)
 have dq:((tp:Nat):Int).tdiv v1=t0:=by rw [Int.tdiv_eq_ediv_of_nonneg (Int.natCast_nonneg _),← Int.natCast_ediv,← ht0]
 have dr:((tp:Nat):Int).tmod v1=r0:=by rw [Int.tmod_eq_emod_of_nonneg (Int.natCast_nonneg _),← Int.natCast_emod,← hr0]
 have hv0':¬ (v1:Int)=0:=by omega
 have hv0'':¬ v1=0:=by omega
 have wh:IntKind.i64.wrap (t0:Int)=t0:=wi64 _ (by omega) (by omega);have in1:n - 1<y.length:=by omega
 have in2:n - 2<y.length:=by omega
 have hv1x:=hdv1' in1;have hv2x:=hdv2' in2;have i1:j+n<u.length:=by omega
 have i2:j+(n - 1)<u.length:=by omega
 have i3:j+(n - 2)<u.length:=by omega
 have j2:j+(n - 1)<N:=by omega
 have j3:j+(n - 2)<N:=by omega
 have g1':u[j+n]=.p (.int .i64 w0):=by rw [List.getElem?_eq_getElem i1] at g1; exact Option.some.inj g1
 have g2':u[j+(n - 1)]=.p (.int .i64 w1):=by rw [List.getElem?_eq_getElem i2] at g2; exact Option.some.inj g2
 have g3':u[j+(n - 2)]=.p (.int .i64 w2):=by rw [List.getElem?_eq_getElem i3] at g3; exact Option.some.inj g3
 have une:¬ u=[]:=by rintro rfl; simp at i1
 have p1:0≤(j:Int)+n:=by omega
 have p2:0≤(j:Int)+n - 1:=by omega
 have p3:0≤(j:Int)+n - 2:=by omega
 have p4:0≤(n:Int) - 1:=by omega
 have p5:0≤(n:Int) - 2:=by omega
 have p2':1≤(j:Int)+n:=by omega
 have p3':2≤(j:Int)+n:=by omega
 have p4':1≤(n:Int):=by omega
 have p5':2≤(n:Int):=by omega
 refine adT nf axO mix (by simp [Tryz.f297]) ?_;simp [Tryz.f297,hyl,wa',wb,wc,ta,tb,tc,g1,g2,hdv1,hv1x,wf,wg,dq,dr,hv0',hv0'',wh,hlen,hj,in1,g1',g2',une,p1,p2,p4,p2',p4',j2,shpA];refine lp (α:=Nat×Nat) (fun x=>⟨[(10,.p (.int .i64 x.2)),(9,.p (.int .i64 x.1)),(7,.p (.int .i64 n)),(2,.p (.int .i64 j)),(1,.p (.seq (y.map fun x:Nat=>.int .i64 x))),(0,.sl 0 ver 1 0 N)],[.arr k ver 1 u]⟩)
  (fun x=>T=gsL v1 v2 w2 x.1 x.2∧x.2<bT∧x.1≤bT+1) (fun x=>x.1) (t0,r0) ⟨hT,hr0l,ht0l⟩ ?_ (hr2:=by simp [hur])
 clear htp htr ht0 hr0 hcast wg dq dr hT wf hr0l ht0l wh hdv1' hdv2' f1 f2 f3;rintro ⟨t,r⟩ ⟨k1,k2,k3⟩;dsimp only at k1 k2 k3;have xr:IntKind.i64.wrap ((r:Int)*1000000000)=(r:Int)*1000000000:=wi64 _ (by omega) (by omega);have xr2:IntKind.i64.wrap ((r:Int)*1000000000+w2)=(r:Int)*1000000000+w2:=wi64 _ (by omega) (by omega);have xrv:IntKind.i64.wrap ((r:Int)+v1)=(r:Int)+v1:=wi64 _ (by omega) (by omega);rcases Nat.eq_zero_or_pos t with h0 | h0
 · subst h0;rw [gsL] at k1;have c1:¬ (r:Int)*1000000000+w2<0:=by rw [awm]; exact Int.not_lt.2 (Int.natCast_nonneg _)
   have xz:IntKind.i64.wrap 0=0:=rfl;simp [hyl,xz,wd,td,xr,xr2,xrv,we,te,hdv2,hv2x,in2,g3,g3',i3,j3,hlen,une,p3',p5',wa',c1,k1,shpA]
 rw [gsL_pos h0] at k1;have hsub:=subT h0 k3;have k4:∀ x,x≤bT+1→x - 1≤bT+1:=fun x h=>Nat.le_trans (Nat.sub_le _ _) h;have k5:t - 1<t:=Nat.sub_lt h0 (by decide)
 by_cases c0:bT≤t
 · have c0':=geT1.2 c0;rw [if_pos (.inl c0)] at k1
   by_cases c2:bT≤r+v1
   · have c2':=geT.2 c2;rw [if_pos c2] at k1;simp [c0',hsub,hyl,wc,tc,hdv1,hv1x,in1,p4',xrv,c2',k1]
   · have c2':=mt geT.1 c2;rw [if_neg c2] at k1;simp [c0',hsub,hyl,wc,tc,hdv1,hv1x,in1,p4',xrv,c2'];exact rd (t - 1,r+v1) ⟨k1,Nat.lt_of_not_le c2,k4 _ k3⟩ k5 (he:=by simp) (hr2:=by simp [hur])
 have c0':=mt geT1.1 c0;have xtv:=alS (Nat.lt_of_not_le c0) q5
 by_cases c1:r*bT+w2<t*v2
 · have c1':=tstT.2 c1;rw [if_pos (.inr c1)] at k1
   by_cases c2:bT≤r+v1
   · have c2':=geT.2 c2;rw [if_pos c2] at k1;simp [c0',hsub,hyl,wc,tc,hdv1,hv1x,in1,p4',xrv,c2',k1,wd,td,xr,xr2,xtv,we,te,hdv2,hv2x,in2,g3,g3',i3,j3,hlen,une,p3',p5',wa',c1',shpA]
     done
   · have c2':=mt geT.1 c2;rw [if_neg c2] at k1;simp [c0',hsub,hyl,wc,tc,hdv1,hv1x,in1,p4',xrv,c2',wd,td,xr,xr2,xtv,we,te,hdv2,hv2x,in2,g3,g3',i3,j3,hlen,une,p3',p5',wa',c1',shpA];exact rd (t - 1,r+v1) ⟨k1,Nat.lt_of_not_le c2,k4 _ k3⟩ k5 (he:=by simp) (hr2:=by simp [hur])
 · have c1':=mt tstT.1 c1;rw [if_neg (fun h=>h.elim c0 c1)] at k1;simp [c0',hyl,wc,tc,wd,td,xr,xr2,xtv,we,te,hdv2,hv2x,in2,g3,g3',i3,j3,hlen,une,p3',p5',wa',c1',k1,shpA]
theorem av6 {b k f d:Nat} (hb:b<bT ^ (k+1)) (hd:d=b / bT ^ k) (hd0:0<d) (hf:f=bT / (d+1)):0<f∧f<bT∧b*f<bT ^ (k+1)∧bT ^ k≤b*f∧bT≤2*plc bT (b*f) k:=by
 have hp:0<bT ^ k:=Nat.pow_pos (by decide);have hdB:d<bT:=by
  rw [hd,Nat.div_lt_iff_lt_mul hp,Nat.mul_comm,← Nat.pow_succ]; exact hb
 have hB:bT=1000000000:=rfl;have h1:=Nat.div_mul_le_self bT (d+1);have h2:=Nat.lt_div_mul_add (a:=bT) (show 0<d+1 by omega);rw [← hf] at h1 h2;have hf0:0<f:=by rw [hf]; exact Nat.div_pos (by omega) (by omega)
 have hfB:f<bT:=by
  rw [hf]; exact Nat.div_lt_self (by decide) (by omega)
 have hb1:b<(d+1)*bT ^ k:=by
  rw [← Nat.div_lt_iff_lt_mul hp,← hd]; omega
 have hb2:d*bT ^ k≤b:=by rw [hd]; exact Nat.div_mul_le_self _ _
 have hbf:b*f<bT ^ (k+1):=by
  rw [Nat.pow_succ];have e1:b*f<(d+1)*bT ^ k*f:=Nat.mul_lt_mul_of_pos_right hb1 hf0;have e2:(d+1)*bT ^ k*f=f*(d+1)*bT ^ k:=by rw [Nat.mul_comm,← Nat.mul_assoc]
  have e3:=Nat.mul_le_mul_right (bT ^ k) h1;rw [Nat.mul_comm (bT ^ k) bT];omega
 refine ⟨hf0,hfB,hbf,?_,?_⟩
 · have e1:1*bT ^ k≤d*bT ^ k:=Nat.mul_le_mul_right _ hd0;rw [Nat.one_mul] at e1;exact Nat.le_trans (Nat.le_trans e1 hb2) (Nat.le_mul_of_pos_right _ hf0)
 · have e1:b*f / bT ^ k=plc bT (b*f) k:=by
    rw [plc,Nat.mod_eq_of_lt];rw [Nat.div_lt_iff_lt_mul hp,Nat.mul_comm bT,← Nat.pow_succ]; exact hbf
   have e2:d*f≤b*f / bT ^ k:=by
    rw [Nat.le_div_iff_mul_le hp,Nat.mul_right_comm];exact Nat.mul_le_mul_right _ hb2
   rw [e1] at e2;have e3:d+f≤d*f+1:=by
    obtain ⟨d',rfl⟩:∃ d',d=d'+1:=⟨d - 1,by omega⟩
    obtain ⟨f',rfl⟩:∃ f',f=f'+1:=⟨f - 1,by omega⟩
    have:(d'+1)*(f'+1)=d'*f'+d'+f'+1:=by rw [Nat.add_mul,Nat.mul_add,Nat.one_mul,Nat.mul_one]; omega
    omega
   have e4:f*(d+1)=d*f+f:=by rw [Nat.mul_add,Nat.mul_one,Nat.mul_comm]
   rw [e4] at h1 h2;generalize d*f=P at *;generalize plc bT (b*f) k=Z at *;omega
def boT (V R t i:Nat):Nat:=(t*(V % bT ^ i)+R % bT ^ i) / bT ^ i
theorem awJ {V R t:Nat}:boT V R t 0=0:=by simp [boT,Nat.mod_one]
theorem ap8 {W V R t n i:Nat} (h:R+t*V=W+bT ^ (n+1)) (hi:i≤n):plc bT R i+t*plc bT V i+boT V R t i=plc bT W i+boT V R t (i+1)*bT:=by
 have hp:0<bT ^ i:=Nat.pow_pos (by decide);have hp1:0<bT ^ (i+1):=Nat.pow_pos (by decide);have hmod:(t*(V % bT ^ (i+1))+R % bT ^ (i+1)) % bT ^ (i+1)=W % bT ^ (i+1):=by
  have e1:(t*V+R) % bT ^ (i+1)=(t*(V % bT ^ (i+1))+R % bT ^ (i+1)) % bT ^ (i+1):=by
   have a1:=Nat.div_add_mod V (bT ^ (i+1));have a2:=Nat.div_add_mod R (bT ^ (i+1));have a3:t*V+R=t*(V % bT ^ (i+1))+R % bT ^ (i+1)+bT ^ (i+1)*(t*(V / bT ^ (i+1))+R / bT ^ (i+1)):=by
    have a4:t*V=t*(V % bT ^ (i+1))+bT ^ (i+1)*(t*(V / bT ^ (i+1))):=by
     conv=>lhs; rw [← a1]
     rw [Nat.mul_add,← Nat.mul_assoc,Nat.mul_comm t (bT ^ (i+1)),Nat.mul_assoc]; omega
    rw [a4,Nat.mul_add]
    conv=>lhs; rw [← a2]
    omega
   rw [a3,Nat.add_mul_mod_self_left]
  rw [← e1,Nat.add_comm (t*V),h];have:bT ^ (i+1) ∣ bT ^ (n+1):=Nat.pow_dvd_pow _ (by omega);obtain ⟨c,hc⟩:=this;rw [hc,Nat.add_mul_mod_self_left]
 have e2:=Nat.div_add_mod (t*(V % bT ^ (i+1))+R % bT ^ (i+1)) (bT ^ (i+1));have e3:=Nat.div_add_mod (t*(V % bT ^ i)+R % bT ^ i) (bT ^ i);rw [hmod] at e2;rw [show (t*(V % bT ^ (i+1))+R % bT ^ (i+1)) / bT ^ (i+1)=boT V R t (i+1) from rfl] at e2;rw [show (t*(V % bT ^ i)+R % bT ^ i) / bT ^ i=boT V R t i from rfl] at e3;have hlow:(t*(V % bT ^ i)+R % bT ^ i) % bT ^ i=W % bT ^ i:=by
  have:=congrArg (· % bT ^ i) hmod
  have hdv:bT ^ i ∣ bT ^ (i+1):=Nat.pow_dvd_pow _ (by omega);rw [Nat.mod_mod_of_dvd _ hdv,Nat.mod_mod_of_dvd _ hdv] at this;rw [← this,mod_pow_succ,mod_pow_succ];rw [Nat.mul_add];have:t*(V % bT ^ i)+t*(bT ^ i*plc bT V i)+(R % bT ^ i+bT ^ i*plc bT R i)=t*(V % bT ^ i)+R % bT ^ i+bT ^ i*(t*plc bT V i+plc bT R i):=by
   rw [Nat.mul_add,← Nat.mul_assoc t,Nat.mul_comm t (bT ^ i),Nat.mul_assoc]; omega
  rw [this,Nat.add_mul_mod_self_left]
 rw [hlow] at e3;rw [mod_pow_succ,mod_pow_succ,mod_pow_succ,Nat.pow_succ] at e2;have e4:bT ^ i*(plc bT R i+t*plc bT V i+boT V R t i)=bT ^ i*(plc bT W i+boT V R t (i+1)*bT):=by
  have a1:t*(V % bT ^ i+bT ^ i*plc bT V i)=t*(V % bT ^ i)+bT ^ i*(t*plc bT V i):=by
   rw [Nat.mul_add,← Nat.mul_assoc t,Nat.mul_comm t (bT ^ i),Nat.mul_assoc]
  rw [a1] at e2;rw [Nat.mul_add,Nat.mul_add,Nat.mul_add];rw [Nat.mul_assoc (bT ^ i),Nat.mul_comm bT] at e2;generalize bT ^ i*plc bT R i=x1 at *;generalize bT ^ i*(t*plc bT V i)=x2 at *;generalize bT ^ i*boT V R t i=x3 at *;generalize bT ^ i*plc bT W i=x4 at *;generalize bT ^ i*(boT V R t (i+1)*bT)=x5 at *;generalize t*(V % bT ^ i)=x6 at *;omega
 exact Nat.eq_of_mul_eq_mul_left hp e4
theorem awI {r p w b':Nat} (h:r+p=w+b'*bT) (hr:r<bT) (hw:w<bT):(w<p % bT∧r+p % bT=w+bT∧b'=p / bT+1)∨(p % bT≤w∧r+p % bT=w∧b'=p / bT):=by
 have e:=Nat.div_add_mod p bT;have hm:=Nat.mod_lt p (show 0<bT by decide);generalize p / bT=q at *;generalize p % bT=m at *;have h2:r+m+bT*q=w+b'*bT:=by omega
 rw [Nat.mul_comm bT] at h2;rcases Nat.lt_trichotomy b' q with h3 | h3 | h3
 · have:=Nat.mul_le_mul_right bT (show b'+1≤q from h3);rw [Nat.add_mul,Nat.one_mul] at this;omega
 · subst h3; right; omega
 · have h4:=Nat.mul_le_mul_right bT (show q+1≤b' from h3);rw [Nat.add_mul,Nat.one_mul] at h4;have h5:b'=q+1:=by
    rcases Nat.lt_or_ge (q+1) b' with h6 | h6
    · have h7:=Nat.mul_le_mul_right bT (show q+2≤b' from h6);rw [Nat.add_mul] at h7;omega
    · omega
   subst h5;rw [Nat.add_mul,Nat.one_mul] at h2;left; omega
theorem bo_end {W V t n : Nat} (hV0 : 0 < V) (hV : V < bT ^ n) (hW : W < bT ^ (n + 1)) (h1 : W / V ≤ t) (h2 : t ≤ W / V + 1) :
    ∃ R,R+t*V=W+bT ^ (n+1) ∧
    ((t=W / V∧boT V R t n=plc bT W n∧∀ i,i≤n→plc bT R i=plc bT (W % V) i) ∨
     (t=W / V+1∧boT V R t n=plc bT W n+1∧aaz bT R V n=1∧∀ i,i≤n→plc bT (R+V) i=plc bT (W % V) i)):=by
 have hp:0<bT ^ n:=Nat.pow_pos (by decide);have hp1:0<bT ^ (n+1):=Nat.pow_pos (by decide);have hVp:V<bT ^ (n+1):=Nat.lt_of_lt_of_le hV (Nat.pow_le_pow_right (by decide) (by omega));have hdm:=Nat.div_add_mod W V;have hml:=Nat.mod_lt W hV0;have hpn:bT ^ (n+1)=bT ^ n*bT:=Nat.pow_succ _ _;have hB:bT=1000000000:=rfl;have hmlt:W % V<bT ^ n:=Nat.lt_trans hml hV;have hz:plc bT (W % V) n=0:=aat hmlt;have hpv:plc bT V n=0:=aat hV;have hboS:∀ R,R+t*V=W+bT ^ (n+1)→plc bT R n+boT V R t n=plc bT W n+boT V R t (n+1)*bT:=fun R hR=>by
  have:=ap8 hR (Nat.le_refl n);rw [hpv,Nat.mul_zero,Nat.add_zero] at this;exact this
 rcases Nat.lt_or_ge t (W / V+1) with h3 | h3
 · have ht:t=W / V:=by omega
   have htV:t*V+W % V=W:=by rw [ht,Nat.mul_comm]; exact hdm
   refine ⟨W % V+bT ^ (n+1),by omega,.inl ⟨ht,?_,fun i hi=>?_⟩⟩
   · have h4:=hboS (W % V+bT ^ (n+1)) (by omega);have h5:boT V (W % V+bT ^ (n+1)) t (n+1)=0:=by
      rw [boT,Nat.mod_eq_of_lt hVp,Nat.add_mod_right,Nat.mod_eq_of_lt (Nat.lt_trans hml hVp),htV,Nat.div_eq_of_lt hW]
     have h6:plc bT (W % V+bT ^ (n+1)) n=0:=by
      rw [← hz]; exact afw (by omega)
     rw [h5,h6] at h4;omega
   · exact afw (by omega)
 · have ht:t=W / V+1:=by omega
   have htV:t*V+W % V=W+V:=by rw [ht,Nat.add_mul,Nat.one_mul,Nat.mul_comm]; omega
   have hle:V≤bT ^ (n+1)+W % V:=by omega
   refine ⟨bT ^ (n+1)+W % V - V,by omega,.inr ⟨ht,?_,?_⟩⟩
   · have h4:=hboS (bT ^ (n+1)+W % V - V) (by omega);have hRl:bT ^ (n+1)+W % V - V<bT ^ (n+1):=by omega
     have h5:boT V (bT ^ (n+1)+W % V - V) t (n+1)=1:=by
      rw [boT,Nat.mod_eq_of_lt hVp,Nat.mod_eq_of_lt hRl];have:t*V+(bT ^ (n+1)+W % V - V)=W+bT ^ (n+1):=by omega
      rw [this,Nat.add_div_right _ hp1,Nat.div_eq_of_lt hW]
     have h6:plc bT (bT ^ (n+1)+W % V - V) n=bT - 1:=by
      have h7:(bT ^ (n+1)+W % V - V) / bT ^ n=bT - 1:=by
       refine Nat.div_eq_of_lt_le ?_ ?_
       · rw [Nat.sub_mul,Nat.one_mul,Nat.mul_comm bT,← hpn]; omega
       · rw [show bT - 1+1=bT by decide,Nat.mul_comm bT,← hpn]; omega
      rw [plc,h7]; decide
     rw [h5,h6] at h4;omega
   · have hS:bT ^ (n+1)+W % V - V+V=W % V+bT ^ (n+1):=by omega
     have hpl:∀ i,i≤n→plc bT (bT ^ (n+1)+W % V - V+V) i=plc bT (W % V) i:=fun i hi=>by
      rw [hS]; exact afw (by omega)
     refine ⟨?_,hpl⟩;have h8:=(ad2 bT2 (bT ^ (n+1)+W % V - V) V n).1;have h9:=abx bT2 (bT ^ (n+1)+W % V - V) V n;rw [hpl n (Nat.le_refl _),hz,hpv] at h8;have h6:plc bT (bT ^ (n+1)+W % V - V) n=bT - 1:=by
      have h7:(bT ^ (n+1)+W % V - V) / bT ^ n=bT - 1:=by
       refine Nat.div_eq_of_lt_le ?_ ?_
       · rw [Nat.sub_mul,Nat.one_mul,Nat.mul_comm bT,← hpn]; omega
       · rw [show bT - 1+1=bT by decide,Nat.mul_comm bT,← hpn]; omega
      rw [plc,h7]; decide
     rw [h6] at h8;generalize aaz bT (bT ^ (n+1)+W % V - V) V n=c at *;rcases Nat.lt_or_ge 0 c with hc | hc
     · omega
     · have:c=0:=by omega
       subst this;simp only [bT] at h8;omega
theorem boT_le {V R t i:Nat}:boT V R t i≤t:=by
 have hp:0<bT ^ i:=Nat.pow_pos (by decide);have h1:=Nat.mod_lt V hp;have h2:=Nat.mod_lt R hp;rw [boT];refine Nat.le_of_lt_succ ?_;rw [Nat.div_lt_iff_lt_mul hp];have h3:=Nat.mul_le_mul_left t (Nat.le_of_lt h1);rw [Nat.succ_mul];omega
theorem sub_dig {t v bo w r b' : Nat} (h : r + (t * v + bo) = w + b' * bT) (hr : r < bT) (hw : w < bT) (ht : t < bT) (hv : v < bT) (hbo : bo ≤ t) :
    ∃ (p q m:Nat),IntKind.i64.wrap ((t:Int)*v)=(t:Int)*v∧IntKind.i64.wrap ((t:Int)*v+bo)=p∧(p:Int).tmod 1000000000=m∧(p:Int).tdiv 1000000000=q∧q<bT∧m<bT ∧
    (((w:Int) - m<0∧(w:Int) - m+1000000000=r∧b'=q+1)∨(¬ (w:Int) - m<0∧(w:Int) - m=r∧b'=q)):=by
 have hP:t*v≤999999999*999999999:=Nat.mul_le_mul (by simp only [bT] at ht; omega) (by simp only [bT] at hv; omega);have hd:=awI h hr hw;have hm:=Nat.mod_lt (t*v+bo) (show 0<bT by decide);have hq:(t*v+bo) / bT<bT:=by
  rw [Nat.div_lt_iff_lt_mul (by decide)]; simp only [bT] at ht ⊢; omega
 refine ⟨t*v+bo,(t*v+bo) / bT,(t*v+bo) % bT,alS ht hv,?_,?_,?_,hq,hm,?_⟩
 · rw [← Int.natCast_mul,← Int.natCast_add];generalize t*v=P at *;simp only [bT] at ht;exact wi64 _ (by omega) (by omega)
 · rw [Int.tmod_eq_emod_of_nonneg (Int.natCast_nonneg _),Int.natCast_emod]; rfl
 · rw [Int.tdiv_eq_ediv_of_nonneg (Int.natCast_nonneg _),Int.natCast_ediv]; rfl
 · generalize (t*v+bo) / bT=q at *;generalize (t*v+bo) % bT=m at *;clear h hP;simp only [bT] at *;omega
def rwZ (n:Nat) (f:Nat→Int):List AV:=(List.range n).map fun j=>.p (.int .i64 (f j))
theorem acK (n:Nat) (f:Nat→Int):(rwZ n f).length=n:=by simp [rwZ]
theorem rwZ_F (n:Nat) (f:Nat→Nat):rwF n f=rwZ n (fun k=>(f k:Nat)):=rfl
theorem rwZ_get {n j:Nat} (f:Nat→Int) (h:j<n):(rwZ n f)[j]?=some (.p (.int .i64 (f j))):=by
 rw [rwZ,List.getElem?_map,List.getElem?_range h]; rfl
theorem ahz {n i:Nat} {v:Int} (f g:Nat→Int) (hv:g i=v) (h:∀ j,j<n→j≠i→g j=f j):(rwZ n f).set i (.p (.int .i64 v))=rwZ n g:=by
 apply List.ext_getElem (by simp [rwZ]);intro j h1 h2;rw [acK] at h2;rw [List.getElem_set];simp only [rwZ,List.getElem_map,List.getElem_range]
 by_cases hj:i=j
 · subst hj; rw [if_pos rfl,hv]
 · rw [if_neg hj,h j h2 (fun e=>hj e.symm)]
@[simp] theorem rwZ_refs {N:Nat×Nat→Prop} {n:Nat} {f:Nat→Int}:aac N (rwZ n f)=True:=by
 rw [aag,eq_iff_iff,iff_true]; intro v hv; simp only [rwZ,List.mem_map] at hv; obtain ⟨x,_,rfl⟩:=hv; trivial
theorem ar4 {n:Nat} {f g:Nat→Int} (h:∀ j,j<n→f j=g j):rwZ n f=rwZ n g:=by
 rw [rwZ,rwZ];apply List.map_congr_left;intro j hj;rw [h j (List.mem_range.1 hj)]
def winT (X R j i k:Nat):Int:=if j≤k∧k<j+i then (plc bT R (k - j):Nat) else (plc bT X k:Nat)
theorem win_zero {X R j k:Nat}:winT X R j 0 k=(plc bT X k:Nat):=by rw [winT,if_neg (by omega)]
theorem aro {X R j i:Nat}:winT X R j i (j+i)=(plc bT X (j+i):Nat):=by rw [winT,if_neg (by omega)]
theorem win_new {X R j i:Nat}:winT X R j (i+1) (j+i)=(plc bT R i:Nat):=by
 rw [winT,if_pos (by omega),Nat.add_sub_cancel_left]
theorem win_old {X R j i k:Nat} (h:k≠j+i):winT X R j (i+1) k=winT X R j i k:=by
 rw [winT,winT]
 by_cases h1:j≤k∧k<j+i
 · rw [if_pos h1,if_pos (by omega)]
 · rw [if_neg h1,if_neg (by omega)]
def wi2T (X R S j n i k:Nat):Int:=if k=j+n then -1 else if j≤k∧k<j+i then (plc bT S (k - j):Nat) else winT X R j n k
theorem wi2_at {X R S j n i:Nat} (h:i<n):wi2T X R S j n i (j+i)=(plc bT R i:Nat):=by
 rw [wi2T,if_neg (by omega),if_neg (by omega),winT,if_pos (by omega),Nat.add_sub_cancel_left]
theorem wi2_new {X R S j n i:Nat} (h:i<n):wi2T X R S j n (i+1) (j+i)=(plc bT S i:Nat):=by
 rw [wi2T,if_neg (by omega),if_pos (by omega),Nat.add_sub_cancel_left]
theorem wi2_old {X R S j n i k:Nat} (h:k≠j+i):wi2T X R S j n (i+1) k=wi2T X R S j n i k:=by
 rw [wi2T,wi2T]
 by_cases h0:k=j+n
 · rw [if_pos h0,if_pos h0]
 · rw [if_neg h0,if_neg h0]
   by_cases h1:j≤k∧k<j+i
   · rw [if_pos h1,if_pos (by omega)]
   · rw [if_neg h1,if_neg (by omega)]
theorem ave {X V j n N : Nat} (hV0 : 0 < V) (hV : V < bT ^ n) (hX : X < V * bT ^ (j + 1)) {g : Nat → Int} (hg : ∀ k, k < N → g k = if k = j + n then 0 else if j ≤ k ∧ k < j + n then (plc bT (X / bT ^ j % V) (k - j) : Nat) else (plc bT X k : Nat)) :
    rwZ N g=rwZ N fun k=>(plc bT (X % (V*bT ^ j)) k:Nat):=by
 refine ar4 fun k hk=>?_;rw [hg k hk,(afH (B:=bT) (R:=X) (V:=V) (j:=j)).1,alb bT2];have hm:=Nat.mod_lt (X / bT ^ j) hV0;have hXl:X<bT ^ (n+(j+1)):=by
  rw [Nat.pow_add];exact Nat.lt_trans hX (Nat.mul_lt_mul_of_pos_right hV (Nat.pow_pos (by decide)))
 by_cases h1:k<j
 · rw [if_pos h1,if_neg (by omega),if_neg (by omega)]
 · rw [if_neg h1]
   by_cases h2:k<j+n
   · rw [if_neg (by omega),if_pos (by omega)]
   · have hz:plc bT (X / bT ^ j % V) (k - j)=0:=aat (Nat.lt_of_lt_of_le (Nat.lt_trans hm hV) (Nat.pow_le_pow_right (by decide) (by omega)));rw [hz]
     by_cases h3:k=j+n
     · rw [if_pos h3]
     · rw [if_neg h3,if_neg (by omega)];have:plc bT X k=0:=aat (Nat.lt_of_lt_of_le hXl (Nat.pow_le_pow_right (by decide) (by omega)));rw [this]
theorem atI {f:Nat} (h0:0<f) (h:f<bT):eT f=.seq [.int .i64 f]:=by rw [eT,acA h0 h]; rfl
theorem auX {r:Nat} (h:r<bT):aby [r]=dig bT r:=by
 have:=abl bT2 (m:=1) (n:=r) (by rw [Nat.pow_one]; exact h);rw [← this,row,List.range_one,List.map_cons,List.map_nil,plc,Nat.pow_zero,Nat.div_one,Nat.mod_eq_of_lt h]
@[simp] theorem renL_rwZ {σ:Nat→Nat} {n:Nat} {f:Nat→Int}:renL σ (rwZ n f)=rwZ n f:=by
 have:∀ l:List Nat,renL σ (l.map fun j=>AV.p (.int .i64 (f j)))=l.map fun j=>AV.p (.int .i64 (f j)):=by
  intro l
  induction l with
  | nil=>rfl
  | cons a r ih=>simp only [List.map_cons,renL,ih]; rfl
 exact this _
@[simp] theorem rwZ_getElem {n j:Nat} {f:Nat→Int} (h:j<(rwZ n f).length):(rwZ n f)[j]=.p (.int .i64 (f j)):=by
 simp only [rwZ,List.getElem_map,List.getElem_range]
@[simp] theorem rwF_getElem {n j:Nat} {f:Nat→Nat} (h:j<(rwF n f).length):(rwF n f)[j]=.p (.int .i64 (f j:Nat)):=by
 simp only [rwF,List.getElem_map,List.getElem_range]
@[simp] theorem rwZ_ne {n:Nat} {f:Nat→Int}:(rwZ (n+1) f=[])=False:=by
 rw [eq_iff_iff,iff_false]; intro h;have:=congrArg List.length h;rw [acK] at this; simp at this
theorem aus (a b:Nat) (hb:0<b) (hla:(dig bT a).length≤400000) (hlb:(dig bT b).length≤400000):aab Tryz.prog 238 [eT a,eT b] (.tup [eT (a / b),eT (a % b)]):=by
 have hcmp:=ajM a b (by omega) (by omega);refine aad nf ax9 mix (by simp [Tryz.f238]) ?_;simp [Tryz.f238];refine c2 hcmp ?_
 by_cases hab:a<b
 · have h1:=aeu.2 hab;simp [h1,Nat.div_eq_of_lt hab,Nat.mod_eq_of_lt hab,eT,awc]
 have h1:¬ cmpN a b<0:=fun h=>hab (aeu.1 h);have hdb:∀ i (h:i<(dig bT b).length),(dig bT b)[i]=plc bT b i:=fun i h=>aal bT2 h;have hlb0:=aaf bT2 b
 by_cases hl1:(dig bT b).length=1
 · rw [hl1,Nat.pow_one] at hlb0;have hdd:=ajL a b hb hlb0 (by omega);have hr:=Nat.mod_lt a hb;have htr:=auX (Nat.lt_trans hr hlb0);have hT:=agr [a % b] (by simp);rw [htr] at hT;have hbd:=acA hb hlb0;rw [atI hb hlb0];simp only [eT,iP] at hdd hT ⊢;generalize dig bT (a / b)=zq at *;generalize dig bT (a % b)=zr at *;generalize dig bT a=x at *;generalize a % b=rm at *;simp [h1];refine c2 hdd ?_;simp;refine cp hT (by simp; exact ⟨rfl,rfl⟩) ?_;simp
 have hl2:2≤(dig bT b).length:=by
  rcases Nat.lt_or_ge (dig bT b).length 1 with h | h
  · have e:(dig bT b).length=0:=by omega
    rw [e,Nat.pow_zero] at hlb0; omega
  · omega
 obtain ⟨k,hk⟩:∃ k,(dig bT b).length=k+1:=⟨(dig bT b).length - 1,by omega⟩
 obtain ⟨n,hn⟩:∃ n,n=k+1:=⟨_,rfl⟩
 rw [hk] at hlb0;obtain ⟨d,hd⟩:∃ d,d=b / bT ^ k:=⟨_,rfl⟩
 have hbge:bT ^ k≤b:=by
  rcases Nat.lt_or_ge b (bT ^ k) with h | h
  · have:=aak bT2 k b h; omega
  · exact h
 have hpk:0<bT ^ k:=Nat.pow_pos (by decide);have hd0:0<d:=by rw [hd]; exact Nat.div_pos hbge hpk
 have hdl:d<bT:=by rw [hd,Nat.div_lt_iff_lt_mul hpk,Nat.mul_comm,← Nat.pow_succ]; exact hlb0
 have hdp:plc bT b k=d:=by rw [plc,← hd,Nat.mod_eq_of_lt hdl]
 obtain ⟨f,hf⟩:∃ f,f=bT / (d+1):=⟨_,rfl⟩
 obtain ⟨f0,f1,f2,f3,f4⟩:=av6 hlb0 hd hd0 hf;obtain ⟨V,hV⟩:∃ V,V=b*f:=⟨_,rfl⟩
 rw [← hV] at f2 f3 f4;have hVn:(dig bT V).length=n:=by
  have h3:=aak bT2 (k+1) V f2;have h4:=ajz bT2 f3;omega
 have hm1:=auk b f (by rw [acA f0 f1]; simp; omega);have hm2:=auk a f (by rw [acA f0 f1]; simp; omega);rw [atI f0 f1,← hV] at hm1;rw [atI f0 f1] at hm2;have hdbk:(dig bT b)[k]?=some d:=by rw [List.getElem?_eq_getElem (by omega),hdb k (by omega),hdp]
 have hdbk':∀ h:k<(dig bT b).length,(dig bT b)[k]=d:=fun h=>by rw [hdb k h,hdp]
 have hlb2:(dig bT b).length≤400000:=hlb;have hb0:bT=1000000000:=rfl;have wd:IntKind.i64.wrap ((d:Int)+1)=(d:Int)+1:=wi64 _ (by omega) (by omega);have hfd:(1000000000:Int).tdiv ((d:Int)+1)=(f:Nat):=by
  rw [Int.tdiv_eq_ediv_of_nonneg (by decide),hf,Int.natCast_ediv]; rfl
 have hd1:¬ (d:Int)+1=0:=by omega
 have wk:IntKind.i64.wrap (k:Int)=k:=wi64 _ (by omega) (by omega);have wf:IntKind.i64.wrap (f:Int)=f:=wi64 _ (by omega) (by omega);have hl3:¬ (k:Int)+1=1:=by omega
 have hk0:¬ k=0:=by omega
 have kin:k<(dig bT b).length:=by omega
 have hkb:=hdbk' kin;simp only [eT] at hm1 hm2 ⊢;generalize hzq:dig bT (a / b)=zq at *;generalize hzr:dig bT (a % b)=zr at *;generalize hya:dig bT a=x at *;generalize hyb:dig bT b=y at *;generalize hyv:dig bT V=vv at *;simp [h1,hk,hl3,hk0,wk,hdbk,hkb,kin,wd,hfd,hd1,wf];refine cp hm1 (by simp; exact ⟨rfl,rfl⟩) ?_;simp [hVn];refine cp hm2 (by simp; exact ⟨rfl,rfl⟩) ?_;obtain ⟨u,hu⟩:∃ u,dig bT (a*f)=u:=⟨_,rfl⟩
 obtain ⟨la,hla'⟩:∃ la,x.length=la:=⟨_,rfl⟩
 have hul:u.length≤la+1:=by
  rw [← hu,← hla',← hya];refine aak bT2 _ _ ?_;rw [Nat.pow_succ];exact Nat.mul_lt_mul'' (aaf bT2 a) f1
 have hux:∀ i (h:i<u.length),u[i]=plc bT (a*f) i:=fun i h=>by
  have:=aal bT2 (n:=a*f) (i:=i) (by rw [hu]; exact h);simp only [hu] at this;exact this
 rw [hu];have hafb:b≤a*f:=Nat.le_trans (Nat.le_of_not_lt hab) (Nat.le_mul_of_pos_right _ f0);have hune:¬ u=[]:=by
  intro h;rw [h] at hu;have:=afI.1 hu;omega
 have hafl:a*f<bT ^ u.length:=by rw [← hu]; exact aaf bT2 _
 have humap:List.map (AV.p∘fun x:Nat=>PV.int IntKind.i64 x) u=rwZ u.length fun k=>(plc bT (a*f) k:Nat):=by
  apply List.ext_getElem (by simp [rwZ]);intro i h1 h2;simp only [List.getElem_map,Function.comp,rwZ,List.getElem_range];rw [hux i (by simpa using h1)]
 have hula:u.length≤400001:=by omega
 obtain ⟨ul,hul'⟩:∃ ul,u.length=ul:=⟨_,rfl⟩
 rw [hul'] at hafl humap hul hula;clear hm1 hm2;have hune2:¬ (rwZ ul fun k=>(plc bT (a*f) k:Nat))=[]:=by rw [← humap]; simpa using hune
 have hul0:¬ ul=0:=by rw [← hul']; exact fun h=>hune (List.length_eq_zero_iff.1 h)
 simp [hla',humap,hune2,hul0,acK];refine ⟨⟨by rw [← humap]; exact shpI u,by simp only [maxL]; omega⟩,?_⟩;have hlaX:la≤400000:=by omega
 have wla:IntKind.i64.wrap ((la:Int)+1)=la+1:=wi64 _ (by omega) (by omega);refine cutL (fun s'=>∃ ve o,getE s'.env 8=.sl 0 0 1 0 1∧getE s'.env 9=.p (.seq (vv.map fun x:Nat=>.int .i64 x))∧getE s'.env 10=.p (.int .i64 n)∧getE s'.env 11=.sl 2 ve 1 0 (la+1)∧s'.heap=[.arr .frozen 0 1 [.p (.int .i64 f)],o,.arr .grow ve 1 (rwZ (la+1) fun k=>(plc bT (a*f) k:Nat))]) ?_ ?_
 · refine lp (α:=Nat) (fun i=>⟨[(11,.sl 2 (i - ul) 1 0 i),(10,.p (.int .i64 n)),(9,.p (.seq (vv.map fun x:Nat=>.int .i64 x))),(8,.sl 0 0 1 0 1),(0,.p (.seq (x.map fun x:Nat=>.int .i64 x)))],[.arr .frozen 0 1 [.p (.int .i64 f)],.hole,.arr .grow (i - ul) 1 (rwZ i fun k=>(plc bT (a*f) k:Nat))]⟩)
    (fun i=>ul≤i∧i≤la+1) (fun i=>la+1 - i) ul ⟨Nat.le_refl _,hul⟩ ?_ (he:=by simp) (hh:=by simp)
   rintro i ⟨k1,k2⟩
   by_cases hi:i<la+1
   · have hi':(i:Int)<la+1:=by omega
     have hz:plc bT (a*f) i=0:=aat (Nat.lt_of_lt_of_le hafl (Nat.pow_le_pow_right (by decide) k1));have hsucc:rwZ (i+1) (fun k=>(plc bT (a*f) k:Nat))=rwZ i (fun k=>(plc bT (a*f) k:Nat)) ++ [.p (.int .i64 0)]:=by
      rw [rwZ,List.range_succ,List.map_append];simp [hz,rwZ]
     have hsub:i+1 - ul=i - ul+1:=by omega
     have htk:List.take i (rwZ i fun k=>(plc bT (a*f) k:Nat))=rwZ i fun k=>(plc bT (a*f) k:Nat):=List.take_of_length_le (by rw [acK]; exact Nat.le_refl _);simp [hla',wla,hi',acK,htk];refine ⟨by simp only [maxL]; omega,?_⟩;exact rd (i+1) ⟨by omega,hi⟩ (he:=by simp [hsub]) (hh:=by simp [hsub,hsucc]) (hr2:=by simp)
   · have hil:i=la+1:=by omega
     subst hil;simp [hla',wla]
 rintro ⟨env',heap'⟩ ⟨ve,o,x1,x2,x3,x4,hpp⟩;dsimp only at x1 x2 x3 x4 hpp;subst hpp;have hnla:n≤la:=by
  rw [hn];rcases Nat.lt_or_ge la (k+1) with h | h
  · have h3:=aaf bT2 a;rw [hya,hla'] at h3;have h4:=Nat.lt_of_lt_of_le h3 (Nat.pow_le_pow_right (show 0<bT by decide) (show la≤k by omega));omega
  · exact h
 obtain ⟨m,hm⟩:∃ m,m=la - n:=⟨_,rfl⟩
 have wm:IntKind.i64.wrap ((la:Int)+1 - n)=(m:Int)+1:=by rw [wi64 _ (by omega) (by omega)]; omega
 have wm2:((m:Int)+1).toNat=m+1:=by omega
 have wm3:IntKind.i64.wrap (m:Int)=m:=wi64 _ (by omega) (by omega);have hmx:(m:Int)+1≤maxL:=by simp only [maxL]; omega
 simp [x1,x2,x3,x4,wm,wm2,wm3];refine ⟨⟨by omega,hmx⟩,?_⟩;have hV0:0<V:=by rw [hV]; exact Nat.mul_pos hb f0
 have hVlt:V<bT ^ n:=by rw [hn]; exact f2
 have hal:a<bT ^ la:=by rw [← hla',← hya]; exact aaf bT2 a
 have hX0:a*f % (V*bT ^ (m+1))=a*f:=by
  refine Nat.mod_eq_of_lt ?_;rw [hV,Nat.mul_right_comm];refine Nat.mul_lt_mul_of_pos_right ?_ f0;refine Nat.lt_of_lt_of_le hal ?_;rw [show la=k+(m+1) by omega,Nat.pow_add];exact Nat.mul_le_mul_right _ hbge
 obtain ⟨X,hX⟩:∃ X:Nat→Nat,∀ j,X j=a*f % (V*bT ^ j):=⟨_,fun _=>rfl⟩
 have hXlt:∀ j,X j<V*bT ^ j:=fun j=>by rw [hX]; exact Nat.mod_lt _ (Nat.mul_pos hV0 (Nat.pow_pos (by decide)))
 have hXs:∀ j,X (j+1) % (V*bT ^ j)=X j:=fun j=>by
  rw [hX,hX,Nat.mod_mod_of_dvd];exact Nat.mul_dvd_mul_left _ (Nat.pow_dvd_pow _ (by omega))
 have hXq:∀ j,X (j+1) / bT ^ j / V=plc bT (a / b) j:=fun j=>by
  rw [hX,← (afH (B:=bT) (R:=a*f % (V*bT ^ (j+1))) (V:=V) (j:=j)).2,Nat.pow_succ,← Nat.mul_assoc,Nat.mod_mul_right_div_self,← Nat.div_div_eq_div_mul,hV,Nat.mul_div_mul_right _ _ f0,plc]
 have hgs:=fun j (h:j≤m)=>g_guess (X (j+1) / bT ^ j) V (la+1) j n .grow ve (plc bT (X (j+1))) (by omega) (by rw [hyv]; exact hVn) (by rw [hn,Nat.add_sub_cancel]; exact f4) (by rw [Nat.div_lt_iff_lt_mul (Nat.pow_pos (by decide)),Nat.mul_assoc,Nat.mul_comm bT,← Nat.pow_succ]; exact hXlt (j+1)) (by omega) (by omega) (fun i hi=>(ae6 (B:=bT) _ _ _).symm);simp only [eT,rwZ_F,hyv] at hgs;rw [show (List.replicate (m+1) (AV.p (PV.int IntKind.i64 0)))=rwF (m+1) (qT (a / b) (m+1)) from asq];rw [show (rwZ (la+1) fun k=>(plc bT (a*f) k:Nat))=rwZ (la+1) fun k=>(plc bT (X (m+1)) k:Nat) by rw [hX,hX0]];refine cutL (fun s'=>∃ o1,getE s'.env 8=.sl 0 0 1 0 1∧getE s'.env 10=.p (.int .i64 n)∧getE s'.env 11=.sl 2 ve 1 0 (la+1)∧getE s'.env 12=.sl 3 0 1 0 (m+1)∧s'.heap=[.arr .frozen 0 1 [.p (.int .i64 f)],o1,.arr .grow ve 1 (rwZ (la+1) fun k=>(plc bT (X 0) k:Nat)),.arr .exact 0 1 (rwF (m+1) (plc bT (a / b)))]) ?_ ?_
 · refine lp (α:=Nat) (fun j=>⟨[(13,.p (.int .i64 ((j:Int) - 1))),(12,.sl 3 0 1 0 (m+1)),(11,.sl 2 ve 1 0 (la+1)),(10,.p (.int .i64 n)),(9,.p (.seq (vv.map fun x:Nat=>.int .i64 x))),(8,.sl 0 0 1 0 1)],[.arr .frozen 0 1 [.p (.int .i64 f)],.hole,.arr .grow ve 1 (rwZ (la+1) fun k=>(plc bT (X j) k:Nat)),.arr .exact 0 1 (rwF (m+1) (qT (a / b) j))]⟩)
    (fun j=>j≤m+1) (fun j=>j) (m+1) (Nat.le_refl _) ?_ (he:=by simp [x1,x2,x3,x4])
   intro j hj;rcases j with _ | j
   · simp [asn]
   · obtain ⟨t,t1,t2,t3,hG⟩:=hgs j (by omega);have hj2:¬ (j:Int)<0:=by omega
     have hWlt:X (j+1) / bT ^ j<bT ^ (n+1):=by
      rw [Nat.div_lt_iff_lt_mul (Nat.pow_pos (by decide)),← Nat.pow_add];refine Nat.lt_of_lt_of_le (hXlt (j+1)) ?_;rw [show n+1+j=n+(j+1) by omega,Nat.pow_add bT n (j+1)];exact Nat.mul_le_mul_right _ (Nat.le_of_lt hVlt)
     obtain ⟨R,hR,hRR⟩:=bo_end hV0 hVlt hWlt t1 t2;have ade:=fun i (hi:i≤n)=>ap8 (i:=i) hR hi;have hWp:∀ i,plc bT (X (j+1) / bT ^ j) i=plc bT (X (j+1)) (j+i):=fun i=>ae6 _ _ _;have tn:((n:Nat):Int).toNat=n:=by omega
     simp [-aai];rw [aai,aai];simp [-aai,hj2];rw [aai,aoy,aai];simp [-aai];refine cf hG [2] ?_;simp [-aai,sig,aaj];rw [aai];simp [-aai];rw [aai,aai];simp [-aai];have hVd:∀ i (h:i<vv.length),vv[i]=plc bT V i:=fun i h=>by
      have:=aal bT2 (n:=V) (i:=i) (by rw [hyv]; exact h);simp only [hyv] at this;exact this
     have hEnd:X (j+1) / bT ^ j / V=plc bT (a / b) j:=hXq j;have hjl:(j:Int)≤400000:=by omega
     have hnl:(n:Int)≤400001:=by omega
     have hfin:∀ g:Nat→Int,(∀ k,k<la+1→g k=if k=j+n then 0 else if j≤k∧k<j+n then (plc bT (X (j+1) / bT ^ j % V) (k - j):Nat) else (plc bT (X (j+1)) k:Nat))→rwZ (la+1) g=rwZ (la+1) fun k=>(plc bT (X j) k:Nat):=fun g hg=>by
      rw [ave hV0 hVlt (hXlt (j+1)) hg,hXs]
     have hw0:rwZ (la+1) (winT (X (j+1)) R j 0)=rwZ (la+1) fun k=>(plc bT (X (j+1)) k:Nat):=ar4 fun k _=>win_zero;refine lp (α:=Nat) (fun i=>⟨[(16,.p (.int .i64 i)),(15,.p (.int .i64 (boT V R t i:Nat))),(14,.p (.int .i64 t)),(13,.p (.int .i64 j)),(12,.sl 3 0 1 0 (m+1)),(11,.sl 2 ve 1 0 (la+1)),(10,.p (.int .i64 n)),(9,.p (.seq (vv.map fun x:Nat=>.int .i64 x))),(8,.sl 0 0 1 0 1)],[.arr .frozen 0 1 [.p (.int .i64 f)],.hole,.arr .grow ve 1 (rwZ (la+1) (winT (X (j+1)) R j i)),.arr .exact 0 1 (rwF (m+1) (qT (a / b) (j+1)))]⟩)
      (fun i=>i≤n) (fun i=>n - i) 0 (Nat.zero_le _) ?_ (he:=by simp [awJ]) (hh:=by simp [hw0])
     intro i hi;have wij:IntKind.i64.wrap ((i:Int)+j)=(i:Int)+j:=wi64 _ (by omega) (by omega);have tij:((i:Int)+j).toNat=i+j:=by omega
     have nij:¬ ((i:Int)+j<0):=by omega
     have wi1':IntKind.i64.wrap ((i:Int)+1)=(i:Int)+1:=wi64 _ (by omega) (by omega)
     by_cases hin:i<n
     · have hinI:(i:Int)<n:=by omega
       have hiv:i<vv.length:=by omega
       have hvi:=hVd i hiv;have hst:=ade i hi;rw [hWp] at hst;have pw:=aaq bT2 (X (j+1)) (j+i);have pr:=aaq bT2 R i;have pv:=aaq bT2 V i;obtain ⟨p,q,mm,s1,s2,s3,s4,s5,s6,s7⟩:=sub_dig (by rw [← Nat.add_assoc]; exact hst) pr pw t3 pv boT_le;have hwv:winT (X (j+1)) R j i (i+j)=(plc bT (X (j+1)) (j+i):Nat):=by rw [Nat.add_comm i j,aro]
       have hij:0≤(i:Int)+j:=by omega
       have get:(rwZ (la+1) (winT (X (j+1)) R j i))[i+j]?=some (.p (.int .i64 (plc bT (X (j+1)) (j+i):Nat))):=by
        rw [rwZ_get _ (by omega),Nat.add_comm i j,aro]
       have set:(rwZ (la+1) (winT (X (j+1)) R j i)).set (i+j) (.p (.int .i64 (plc bT R i:Nat)))=rwZ (la+1) (winT (X (j+1)) R j (i+1)):=by
        rw [Nat.add_comm i j];exact ahz _ _ win_new fun k _ hk=>win_old hk
       have hil:i+j<la+1:=by omega
       have hvi':vv[i]?=some (plc bT V i):=by rw [List.getElem?_eq_getElem hiv,hvi]
       generalize plc bT (X (j+1)) (j+i)=w at *;generalize plc bT V i=v at *;generalize plc bT R i=r at *;generalize boT V R t i=bo at *;generalize hbo':boT V R t (i+1)=bo' at *;have hr0:¬ (r:Int)<0:=by omega
       have ww:IntKind.i64.wrap ((w:Int) - mm)=(w:Int) - mm:=wi64 _ (by omega) (by omega);have wq0:IntKind.i64.wrap (q:Int)=q:=wi64 _ (by omega) (by omega);have wq:IntKind.i64.wrap ((q:Int)+1)=(q:Int)+1:=wi64 _ (by omega) (by omega);rcases s7 with ⟨c1,c2,c3⟩ | ⟨c1,c2,c3⟩
       · have wr:IntKind.i64.wrap ((w:Int) - mm+1000000000)=r:=by rw [c2]; exact wi64 _ (by omega) (by omega)
         simp [hinI,wij,tij,nij,hiv,hvi,hvi',s1,s2,s3,s4,hil,get,hwv,hij,acK,ww,c1,wr,wq,set,wi1',shpA,shp,aah];exact rd (i+1) (show i+1≤n by omega) (he:=by simp [hbo',c3,wq0,wq])
       · have wr:IntKind.i64.wrap ((w:Int) - mm)=r:=by rw [ww,c2]
         simp [hinI,wij,tij,nij,hiv,hvi,hvi',s1,s2,s3,s4,hil,get,hwv,hij,acK,c1,wr,hr0,set,wi1',shpA,shp,aah];exact rd (i+1) (show i+1≤n by omega) (he:=by simp [hbo',c3,wq0,wq])
     · have hi2:i=n:=by omega
       subst hi2;have wji:IntKind.i64.wrap ((j:Int)+i)=(j:Int)+i:=wi64 _ (by omega) (by omega);have tji:((j:Int)+i).toNat=j+i:=by omega
       have nji:0≤(j:Int)+i:=by omega
       have hjil:j+i<la+1:=by omega
       have hwn:winT (X (j+1)) R j i (j+i)=(plc bT (X (j+1)) (j+i):Nat):=aro;have pw:=aaq bT2 (X (j+1)) (j+i);have wj1:IntKind.i64.wrap ((j:Int) - 1)=(j:Int) - 1:=wi64 _ (by omega) (by omega);rcases hRR with ⟨r1,r2,r3⟩ | ⟨r1,r2,r3,r4⟩
       · rw [hWp] at r2;rw [r2];generalize plc bT (X (j+1)) (j+i)=w at *;have w00:IntKind.i64.wrap 0=0:=rfl;have sw:IntKind.i64.wrap ((w:Int) - w)=0:=by rw [Int.sub_self]; rfl
         have htq:t=plc bT (a / b) j:=by rw [r1,hEnd]
         have qs:(rwF (m+1) (qT (a / b) (j+1))).set j (.p (.int .i64 t))=rwF (m+1) (qT (a / b) j):=by rw [htq]; exact aso
         have fs:(rwZ (la+1) (winT (X (j+1)) R j i)).set (j+i) (.p (.int .i64 0))=rwZ (la+1) fun k=>(plc bT (X j) k:Nat):=by
          rw [ahz _ (fun k=>if k=j+i then 0 else winT (X (j+1)) R j i k) (if_pos rfl) (fun k _ hk=>if_neg hk)];refine hfin _ fun k _=>?_
          by_cases hk:k=j+i
          · rw [if_pos hk,if_pos hk]; rfl
          · rw [if_neg hk,if_neg hk,winT]
            by_cases hk2:j≤k∧k<j+i
            · rw [if_pos hk2,if_pos hk2,r3 (k - j) (by omega)]
            · rw [if_neg hk2,if_neg hk2]
         have hjm:j<m+1:=by omega
         have hpn:¬ ((plc bT (X j) (j+i):Nat):Int)<0:=by omega
         simp [wji,tji,nji,hjil,hwn,acK,ahA,sw,w00,wj1,hjm,hpn,fs,qs,shpA,shp,aah];exact rd j (show j≤m+1 by omega)
       · rw [hWp] at r2;rw [r2];generalize plc bT (X (j+1)) (j+i)=w at *;have w00:IntKind.i64.wrap 0=0:=rfl;have sw:IntKind.i64.wrap ((w:Int) - ((w+1:Nat):Int)) = -1:=by rw [show (w:Int) - ((w+1:Nat):Int) = -1 by omega]; rfl
         have w01:IntKind.i64.wrap (-1) = -1:=rfl;have fs:(rwZ (la+1) (winT (X (j+1)) R j i)).set (j+i) (.p (.int .i64 (-1)))=rwZ (la+1) (wi2T (X (j+1)) R (R+V) j i 0):=by
          refine ahz _ _ (by rw [wi2T,if_pos rfl]) fun k _ hk=>?_;rw [wi2T,if_neg hk,if_neg (by omega)]
         have htq:(t:Int) - 1=plc bT (a / b) j:=by rw [r1,hEnd]; omega
         have wt:IntKind.i64.wrap ((t:Int) - 1)=plc bT (a / b) j:=by rw [htq]; have:=aaq bT2 (a / b) j; exact wi64 _ (by omega) (by omega)
         have hjm:j<m+1:=by omega
         have hw2:wi2T (X (j+1)) R (R+V) j i 0 (j+i) = -1:=by rw [wi2T,if_pos rfl]
         push_cast at sw;simp [wji,tji,nji,hjil,hwn,acK,ahA,sw,w00,w01,wt,wj1,hjm,fs,hw2,shpA,shp,aah];refine lp (α:=Nat) (fun k=>⟨[(20,.p (.int .i64 k)),(19,.p (.int .i64 (aaz bT R V k:Nat))),(14,.p (.int .i64 (plc bT (a / b) j:Nat))),(13,.p (.int .i64 j)),(12,.sl 3 0 1 0 (m+1)),(11,.sl 2 ve 1 0 (la+1)),(10,.p (.int .i64 i)),(9,.p (.seq (vv.map fun x:Nat=>.int .i64 x))),(8,.sl 0 0 1 0 1)],[.arr .frozen 0 1 [.p (.int .i64 f)],.hole,.arr .grow ve 1 (rwZ (la+1) (wi2T (X (j+1)) R (R+V) j i k)),.arr .exact 0 1 (rwF (m+1) (qT (a / b) (j+1)))]⟩)
          (fun k=>k≤i) (fun k=>i - k) 0 (Nat.zero_le _) ?_ (he:=by simp [adZ])
         intro k hk;have wkj:IntKind.i64.wrap ((k:Int)+j)=(k:Int)+j:=wi64 _ (by omega) (by omega);have tkj:((k:Int)+j).toNat=k+j:=by omega
         have nkj:0≤(k:Int)+j:=by omega
         have wk1:IntKind.i64.wrap ((k:Int)+1)=(k:Int)+1:=wi64 _ (by omega) (by omega);obtain ⟨q1,q2⟩:=ad2 bT2 R V k;have q3:=abx bT2 R V k;have q4:=abx bT2 R V (k+1);have q5:=aaq bT2 R k;have q6:=aaq bT2 V k
         by_cases hkn:k<i
         · have hkI:(k:Int)<i:=by omega
           have hkv:k<vv.length:=by omega
           have hvk:=hVd k hkv;have hvk':vv[k]?=some (plc bT V k):=by rw [List.getElem?_eq_getElem hkv,hvk]
           have hkl:k+j<la+1:=by omega
           have hg:wi2T (X (j+1)) R (R+V) j i k (k+j)=(plc bT R k:Nat):=by rw [Nat.add_comm k j,wi2_at hkn]
           have hst:(rwZ (la+1) (wi2T (X (j+1)) R (R+V) j i k)).set (k+j) (.p (.int .i64 (plc bT (R+V) k:Nat)))=rwZ (la+1) (wi2T (X (j+1)) R (R+V) j i (k+1)):=by
            rw [Nat.add_comm k j];exact ahz _ _ (wi2_new hkn) fun x _ hx=>wi2_old hx
           have t1:((plc bT R k:Nat):Int)+(plc bT V k:Nat)+(aaz bT R V k:Nat)=((plc bT R k+plc bT V k+aaz bT R V k:Nat):Int):=by omega
           have t2:((plc bT R k+plc bT V k+aaz bT R V k:Nat):Int).tmod 1000000000=(plc bT (R+V) k:Nat):=by
            rw [← q1,Int.tmod_eq_emod_of_nonneg (Int.natCast_nonneg _),Int.natCast_emod]; rfl
           have t3:((plc bT R k+plc bT V k+aaz bT R V k:Nat):Int).tdiv 1000000000=(aaz bT R V (k+1):Nat):=by
            rw [← q2,Int.tdiv_eq_ediv_of_nonneg (Int.natCast_nonneg _),Int.natCast_ediv]; rfl
           rw [← t1] at t2 t3;have w1:IntKind.i64.wrap ((plc bT R k:Nat)+(plc bT V k:Nat))=(plc bT R k:Nat)+(plc bT V k:Nat):=wi64 _ (by omega) (by omega);have w2:IntKind.i64.wrap ((plc bT R k:Nat)+(plc bT V k:Nat)+(aaz bT R V k:Nat))=(plc bT R k:Nat)+(plc bT V k:Nat)+(aaz bT R V k:Nat):=wi64 _ (by omega) (by omega);have w3:IntKind.i64.wrap (plc bT (R+V) k:Nat)=(plc bT (R+V) k:Nat):=by have:=aaq bT2 (R+V) k; exact wi64 _ (by omega) (by omega)
           have w4:IntKind.i64.wrap (aaz bT R V (k+1):Nat)=(aaz bT R V (k+1):Nat):=wi64 _ (by omega) (by omega);simp [hkI,hkv,hvk,hvk',wkj,tkj,nkj,hkl,hg,hst,acK,w1,w2,w3,w4,t2,t3,wk1,shpA,shp,aah];exact rd (k+1) (show k+1≤i by omega)
         · have hki:k=i:=by omega
           subst hki;have hw3:wi2T (X (j+1)) R (R+V) j k k (j+k) = -1:=by rw [wi2T,if_pos rfl]
           have sw2:IntKind.i64.wrap (-1+1)=0:=rfl;have qs:(rwF (m+1) (qT (a / b) (j+1))).set j (.p (.int .i64 (plc bT (a / b) j:Nat)))=rwF (m+1) (qT (a / b) j):=aso;have fs2:(rwZ (la+1) (wi2T (X (j+1)) R (R+V) j k k)).set (j+k) (.p (.int .i64 0))=rwZ (la+1) fun k=>(plc bT (X j) k:Nat):=by
            rw [ahz _ (fun x=>if x=j+k then 0 else wi2T (X (j+1)) R (R+V) j k k x) (if_pos rfl) (fun x _ hx=>if_neg hx)];refine hfin _ fun x _=>?_
            by_cases hk:x=j+k
            · rw [if_pos hk,if_pos hk]; rfl
            · rw [if_neg hk,if_neg hk,wi2T,if_neg hk]
              by_cases hk2:j≤x∧x<j+k
              · rw [if_pos hk2,if_pos hk2,r4 (x - j) (by omega)]
              · rw [if_neg hk2,if_neg hk2,winT,if_neg hk2]
           rw [r3];simp [wji,tji,nji,hjil,hw3,acK,ahA,sw2,w00,wj1,hjm,fs2,qs,shpA,shp,aah];exact rd j (show j≤m+1 by omega)
 rintro ⟨env',heap'⟩ ⟨o1,x1,x2,x3,x4,hpp⟩;dsimp only at x1 x2 x3 x4 hpp;subst hpp;have hX00:X 0=a % b*f:=by rw [hX,Nat.pow_zero,Nat.mul_one,hV,Nat.mul_mod_mul_right]
 have hQ:a / b<bT ^ (m+1):=by
  rw [Nat.div_lt_iff_lt_mul hb];refine Nat.lt_of_lt_of_le hal ?_;rw [show la=m+1+k by omega,Nat.pow_add];exact Nat.mul_le_mul_left _ hbge
 obtain ⟨lq,hlq1,hlq2,hTq⟩:=auh (m:=m+1) (N:=a / b) hQ (by omega);have hX0l:X 0<bT ^ n:=Nat.lt_of_lt_of_le (by have:=hXlt 0; rwa [Nat.pow_zero,Nat.mul_one] at this) (Nat.le_of_lt hVlt);obtain ⟨lu,hlu0,hlu1,hlu2,hTu⟩:∃ lu:List Nat,lu=(List.range (la+1)).map (plc bT (X 0))∧lu.length=la+1∧rwF (la+1) (plc bT (X 0))=lu.map (AV.p∘fun x:Nat=>PV.int .i64 x)∧aab Tryz.prog 296 [.seq (iP (lu.take n))] (eT (X 0)):=by
  refine ⟨_,rfl,by simp,aj0 _ _,?_⟩;have e:((List.range (la+1)).map (plc bT (X 0))).take n=(List.range n).map (plc bT (X 0)):=as3 (by omega) fun k hk=>rfl;rw [e];have h3:=agr ((List.range n).map (plc bT (X 0))) (by simp; omega);rw [show aby ((List.range n).map (plc bT (X 0)))=dig bT (X 0) from abl bT2 hX0l] at h3;exact h3
 have hdd:=ajL (X 0) f f0 f1 (by
  have:=aak bT2 n (X 0) hX0l;omega)
 rw [hX00,Nat.mul_div_cancel _ f0] at hdd;rw [hX00] at hTu;rw [← rwZ_F,hlu2,hlq2] at *;simp only [eT,hzq,hzr,iP] at hTq hTu hdd ⊢;have hlune:¬ lu=[]:=by intro h; rw [h] at hlu1; simp at hlu1
 have hnla1:n≤la+1:=by omega
 simp [x1,x2,x3,x4,hlu1,hlune,hnla1];refine ep hTu (by simp [hlu1,hnla1,hlune]; first | exact ⟨rfl,rfl⟩ | rfl) (by simp [hlune]; first | exact ⟨rfl,rfl⟩ | rfl) ?_ (h1:=by simp [List.map_take]);simp [x1,shpA,shp,aah];refine e2 hdd ?_;simp [x4];refine ⟨by repeat' first | rfl | apply And.intro,?_⟩;refine cp hTq (by simp [hlq1]; first | exact ⟨rfl,rfl⟩ | rfl) ?_ (h1:=by simp [List.take_of_length_le,hlq1]);simp
theorem arI (n:Nat):aby (dig bT n)=dig bT n:=by
 have h:=anZ bT2 (l:=dig bT n) (fun d hd=>by
  obtain ⟨i,hi,rfl⟩:=List.getElem_of_mem hd;rw [aal bT2 hi]; exact aaq bT2 _ _)
 rw [← h,aoD bT2]
theorem acQ (neg:Bool) (n:Nat) (h:(dig bT n).length≤1048576):aab Tryz.prog 239 [.bool neg,eT n] (eG (if neg=true then -(n:Int) else n)):=akL neg (dig bT n) n (arI n) h
theorem ap0 (a b:Nat) (ha:(dig bT a).length≤400000) (hb:(dig bT b).length≤400000):aab Tryz.prog 237 [eT a,eT b] (eT (Nat.gcd a b)):=by
 refine aad nf aya mix (by simp [Tryz.f237]) ?_;simp [Tryz.f237];refine lp (α:=Nat×Nat) (fun x=>⟨[(1,.p (eT x.2)),(0,.p (eT x.1))],[]⟩)
  (fun x=>(dig bT x.1).length≤400000∧(dig bT x.2).length≤400000∧Nat.gcd x.1 x.2=Nat.gcd a b) (fun x=>x.2) (a,b) ⟨ha,hb,rfl⟩ ?_
 rintro ⟨x,y⟩ ⟨h1,h2,h3⟩;dsimp only at h1 h2 h3
 by_cases hy:y=0
 · subst hy;rw [Nat.gcd_zero_right] at h3;rw [← h3];simp [eT,awc]
 · have hl:0<(dig bT y).length:=by
    rw [List.length_pos_iff,Ne,afI]; exact hy
   have hD:=aus x y (by omega) h1 h2;have hm:=Nat.mod_lt x (show 0<y by omega);simp [eT,hl];refine c2 hD ?_;simp;exact rd (y,x % y) ⟨h2,by have:=aak bT2 _ _ (Nat.lt_trans hm (aaf bT2 y)); dsimp only; omega,by rw [← h3,Nat.gcd_comm y,← Nat.gcd_rec,Nat.gcd_comm]⟩ (by dsimp only; omega) (he:=by simp [eT])
theorem c_gcd (a b:Nat) (ha:a<9223372036854775808) (hb:b<9223372036854775808):aab Tryz.prog 172 [.int .i64 a,.int .i64 b] (.int .i64 (Nat.gcd a b:Nat)):=by
 refine aad nf ayp mix (by simp [Tryz.f172]) ?_;simp [Tryz.f172];refine lp (α:=Nat×Nat) (fun x=>⟨[(1,.p (.int .i64 x.2)),(0,.p (.int .i64 x.1))],[]⟩)
  (fun x=>x.1<9223372036854775808∧x.2<9223372036854775808∧Nat.gcd x.1 x.2=Nat.gcd a b) (fun x=>x.2) (a,b) ⟨ha,hb,rfl⟩ ?_
 rintro ⟨x,y⟩ ⟨h1,h2,h3⟩;dsimp only at h1 h2 h3
 by_cases hy:y=0
 · subst hy;rw [Nat.gcd_zero_right] at h3;rw [← h3];simp
 · have hl:(0:Int)<y:=by omega
   have hl2:0<y:=by omega
   have hy0:¬ (y:Int)=0:=by omega
   have hm:=Nat.mod_lt x hl2;have ht:(x:Int).tmod y=(x % y:Nat):=by rw [Int.tmod_eq_emod_of_nonneg (Int.natCast_nonneg _),Int.natCast_emod]
   have hw:IntKind.i64.wrap ((x % y:Nat):Int)=(x % y:Nat):=wi64 _ (by omega) (by omega);generalize hr:x % y=r at *;simp [hl2,hy,ht,hw];exact rd (y,r) ⟨h2,by dsimp only; omega,by rw [← h3,← hr,Nat.gcd_comm y,← Nat.gcd_rec,Nat.gcd_comm]⟩ (by dsimp only; omega)
theorem azf {B a b x y K:Nat} (hB:2≤B) (h1:a<B ^ x) (h2:b<B ^ y) (h3:B ^ x≤B ^ K) (h4:B ^ y≤B ^ K):a+b<B ^ (K+1):=by
 rw [Nat.pow_succ];have:=Nat.mul_le_mul_left (B ^ K) hB;omega
theorem aze {a b K:Nat} (ha:(dig bT a).length≤K) (hb:(dig bT b).length≤K):(dig bT (a+b)).length≤K+1:=by
 have h1:=aaf bT2 a;have h2:=aaf bT2 b;have h3:=Nat.pow_le_pow_right (show 0<bT by decide) ha;have h4:=Nat.pow_le_pow_right (show 0<bT by decide) hb;exact aak bT2 (K+1) (a+b) (azf bT2 h1 h2 h3 h4)
theorem c_plus (a b:Int) (ha:(dig bT a.natAbs).length≤400000) (hb:(dig bT b.natAbs).length≤400000):aab Tryz.prog 232 [eG a,eG b] (eG (a+b)):=by
 have hadd:=c_addD a.natAbs b.natAbs (by omega) (by omega);have hcmp:=ajM a.natAbs b.natAbs (by omega) (by omega);have hls:(dig bT (a.natAbs+b.natAbs)).length≤1048576:=by
  have h5:=aze ha hb;omega
 refine aad nf ayf mix (by simp [Tryz.f232]) ?_
 by_cases hs:(a<0↔b<0)
 · have hsd:(decide (a<0) == decide (b<0))=true:=by simp [hs]
   have hS:=acQ (decide (a<0)) (a.natAbs+b.natAbs) hls;have he:(if decide (a<0)=true then -((a.natAbs+b.natAbs:Nat):Int) else ((a.natAbs+b.natAbs:Nat):Int))=a+b:=by
    by_cases h:a<0
    · have:=hs.1 h; simp [h]; omega
    · have:¬ b<0:=fun h2=>h (hs.2 h2);simp [h]; omega
   rw [he] at hS;generalize a+b=s at *;generalize a.natAbs+b.natAbs=n at *;have hsT:(a<0↔b<0)=True:=eq_true hs;simp only [eG] at hS ⊢;simp [Tryz.f232,hsT,shpA];refine e2 hadd ?_;simp [shpA];refine e2 hS ?_;simp [shpA]
 · have hsT:(a<0↔b<0)=False:=eq_false hs
   by_cases hge:b.natAbs≤a.natAbs
   · have hc0:0≤cmpN a.natAbs b.natAbs:=by
      have:=aeu (a:=a.natAbs) (b:=b.natAbs); omega
     have hsub:=aui a.natAbs b.natAbs hge (by omega);have hS:=acQ (decide (a<0)) (a.natAbs - b.natAbs) (by
      have:=aak bT2 _ _ (Nat.lt_of_le_of_lt (Nat.sub_le a.natAbs b.natAbs) (aaf bT2 a.natAbs)); omega)
     have he:(if decide (a<0)=true then -((a.natAbs - b.natAbs:Nat):Int) else ((a.natAbs - b.natAbs:Nat):Int))=a+b:=by
      by_cases h:a<0
      · have:¬ b<0:=fun h2=>hs ⟨fun _=>h2,fun _=>h⟩;simp [h]; omega
      · have:b<0:=by
         rcases Int.lt_or_le b 0 with h2 | h2
         · exact h2
         · exact (hs ⟨fun h3=>(h h3).elim,fun h3=>by omega⟩).elim
        simp [h]; omega
     rw [he] at hS;generalize a+b=s at *;generalize a.natAbs - b.natAbs=n at *;simp only [eG] at hS ⊢;simp [Tryz.f232,hsT,shpA];refine c2 hcmp ?_;simp [hc0,shpA];refine e2 hsub ?_;simp [shpA];refine e2 hS ?_;simp [shpA]
   · have hc0:¬ 0≤cmpN a.natAbs b.natAbs:=by
      have:=aeu (a:=a.natAbs) (b:=b.natAbs); omega
     have hsub:=aui b.natAbs a.natAbs (by omega) (by omega);have hS:=acQ (decide (b<0)) (b.natAbs - a.natAbs) (by
      have:=aak bT2 _ _ (Nat.lt_of_le_of_lt (Nat.sub_le b.natAbs a.natAbs) (aaf bT2 b.natAbs)); omega)
     have he:(if decide (b<0)=true then -((b.natAbs - a.natAbs:Nat):Int) else ((b.natAbs - a.natAbs:Nat):Int))=a+b:=by
      by_cases h:b<0
      · have:¬ a<0:=fun h2=>hs ⟨fun _=>h,fun _=>h2⟩;simp [h]; omega
      · have:a<0:=by
         rcases Int.lt_or_le a 0 with h2 | h2
         · exact h2
         · exact (hs ⟨fun h3=>by omega,fun h3=>(h h3).elim⟩).elim
        simp [h]; omega
     rw [he] at hS;generalize a+b=s at *;generalize b.natAbs - a.natAbs=n at *;simp only [eG] at hS ⊢;simp [Tryz.f232,hsT,shpA];refine c2 hcmp ?_;simp [hc0,shpA];refine e2 hsub ?_;simp [shpA];refine e2 hS ?_;simp [shpA]
theorem aul (a:Int) (ha:(dig bT a.natAbs).length≤400000):aab Tryz.prog 236 [eG a] (eG (-a)):=by
 have hS:=acQ (!decide (a<0)) a.natAbs (by omega);have he:(if (!decide (a<0))=true then -((a.natAbs:Nat):Int) else (a.natAbs:Nat)) = -a:=by
  by_cases h:a<0
  · simp [h]; omega
  · simp [h]; omega
 rw [he] at hS;refine aad nf ayb mix (by simp [Tryz.f236]) ?_;generalize -a=s at *;simp only [eG] at hS ⊢;simp [Tryz.f236,shpA];refine c2 hS ?_;simp [shpA]
theorem aiJ (a b:Int) (hab:(dig bT a.natAbs).length+(dig bT b.natAbs).length≤1000000):aab Tryz.prog 150 [eG a,eG b] (eG (a*b)):=by
 have hM:=auk a.natAbs b.natAbs hab;have hlen:(dig bT (a.natAbs*b.natAbs)).length≤1000000:=by
  have h1:=aaf bT2 a.natAbs;have h2:=aaf bT2 b.natAbs;have h3:=aak bT2 ((dig bT a.natAbs).length+(dig bT b.natAbs).length) (a.natAbs*b.natAbs) (by rw [Nat.pow_add]; exact Nat.mul_lt_mul'' h1 h2);omega
 have hS:=acQ ((!(decide (a<0) == decide (b<0)))) (a.natAbs*b.natAbs) (by omega);have he:(if (!(decide (a<0) == decide (b<0)))=true then -((a.natAbs*b.natAbs:Nat):Int) else ((a.natAbs*b.natAbs:Nat):Int))=a*b:=by
  by_cases h1:a < 0 <;> by_cases h2:b < 0
  · simp [h1,h2];rw [Int.ofNat_natAbs_of_nonpos (Int.le_of_lt h1),Int.ofNat_natAbs_of_nonpos (Int.le_of_lt h2),Int.neg_mul_neg]
  · simp [h1,h2];rw [Int.ofNat_natAbs_of_nonpos (Int.le_of_lt h1),Int.natAbs_of_nonneg (by omega),Int.neg_mul,Int.neg_neg]
  · simp [h1,h2];rw [Int.ofNat_natAbs_of_nonpos (Int.le_of_lt h2),Int.natAbs_of_nonneg (by omega),Int.mul_neg,Int.neg_neg]
  · simp [h1,h2];rw [Int.natAbs_of_nonneg (by omega),Int.natAbs_of_nonneg (by omega)]
 rw [he] at hS;refine aad nf ayC mix (by simp [Tryz.f150]) ?_;generalize a*b=s at *;generalize a.natAbs*b.natAbs=n at *;generalize hx:(!(decide (a<0) == decide (b<0)))=x at *;simp only [eG] at hS ⊢;simp [Tryz.f150,shpA];refine e2 hM ?_;simp [hx,shpA];refine e2 hS ?_;simp [shpA]
end Go.Abs
