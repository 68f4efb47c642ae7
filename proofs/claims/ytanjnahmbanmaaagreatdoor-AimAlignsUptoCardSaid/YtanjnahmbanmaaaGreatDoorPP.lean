import Derived.Test.YtanjnahmbanmaaaGreatDoorPO
import Derived.Test.YtanjnahmbanmaaaGreatDoorPG
import Derived.Test.YtanjnahmbanmaaaGreatDoorPH
/- Parts of a proof. -/
set_option linter.unusedSimpArgs false
set_option linter.unusedVariables false
set_option linter.unusedSectionVars false
namespace Go.Abs
open Go.Proofs
set_option maxHeartbeats 4000000
set_option maxRecDepth 100000
theorem atL:∀ d:Nat,d<10→List.drop d (List.take (d+1) [48,49,50,51,52,53,54,55,56,57])=[48+d]:=by decide
theorem afN (n least:Nat) (hn:n<9223372036854775808) (hl:least≤1000):aab Tryz.prog 173 [.int .i64 n,.int .i64 least] (.str (low (max least (nd n)) n)):=by
 have hnd:nd n≤19:=anv (Nat.lt_trans hn (by decide));refine aad nf ayo mix (by simp [Tryz.f173]) ?_;obtain ⟨L,hL⟩:∃ L,L=max least (nd n):=⟨_,rfl⟩
 rw [← hL];obtain ⟨g,hg⟩:∃ g:Nat→Nat,∀ i,n / 10 ^ i=g i:=⟨_,fun _=>rfl⟩
 have hg0:g 0=n:=by rw [← hg,Nat.pow_zero,Nat.div_one]
 simp [Tryz.f173];refine lp (α:=Nat) (fun i=>⟨[(0,.p (.int .i64 (g i:Nat))),(5,.p (.str (low i n))),(1,.p (.int .i64 least))],[]⟩)
  (fun i=>i≤L) (fun i=>L - i) 0 (Nat.zero_le _) ?_ (he:=by simp [low,hg0])
 intro i hi;have hlow:low (i+1) n=(48+g i % 10)::low i n:=by
  rw [Nat.add_comm,afd,hg,aeH];rfl
 have hq:g (i+1)=g i / 10:=by rw [← hg,← hg,Nat.pow_succ,Nat.div_div_eq_div_mul]
 have hql:g i≤n:=by rw [← hg]; exact Nat.div_le_self _ _
 have hpos:0<g i↔i<nd n:=by
  rw [← hg,akk,Nat.div_pos_iff]; have:=Nat.pow_pos (n:=i) (show 0<10 by decide); omega
 have hlen:=afc n i;have hd:=atL (g i % 10) (Nat.mod_lt _ (by decide));have hcn:i<L↔0<g i∨i<least:=by rw [hpos,hL]; omega
 have h9:=Nat.mod_lt (g i) (show 0<10 by decide);have ht:(g i:Int).tmod 10=(g i % 10:Nat):=by rw [Int.tmod_eq_emod_of_nonneg (Int.natCast_nonneg _),Int.natCast_emod]; rfl
 have ht2:(g i:Int).tdiv 10=(g (i+1):Nat):=by rw [hq,Int.tdiv_eq_ediv_of_nonneg (Int.natCast_nonneg _),Int.natCast_ediv (g i)]; rfl
 have hL2:L≤1000:=by rw [hL]; omega
 generalize g i % 10=d at *;have hd2:List.drop d (48::List.take d [49,50,51,52,53,54,55,56,57])=[48+d]:=hd;generalize hz:g i=z at *;generalize hz2:g (i+1)=z2 at *;generalize hs:low i n=s at *;have hwz:IntKind.i64.wrap (z2:Int)=z2:=wi64 _ (by omega) (by omega);have hwd:IntKind.i64.wrap (d:Int)=d:=wi64 _ (by omega) (by omega);have hwd1:IntKind.i64.wrap ((d:Int)+1)=d+1:=wi64 _ (by omega) (by omega);have htn:((d:Int)+1).toNat=d+1:=by omega
 have hmn:min (d+1) 10 - d+i<9223372036854775808:=by omega
 have hd0:(0:Int)≤d+1∧(d:Int)+1≤10∧(d:Int)≤max (d+1) 0:=by omega
 by_cases hiL:i<L
 · by_cases hz0:0<z
   · simp [hz0,ht,ht2,hwz,hwd,hwd1,htn,hd,hlen];refine ⟨by omega,by omega,?_⟩;exact rd (i+1) (show i+1≤L by omega) (he:=by simp [hz2,hlow,hd2])
   · have hil:i<least:=by rcases hcn.1 hiL with h | h; exact (hz0 h).elim; exact h
     simp [hz0,hil,ht,ht2,hwz,hwd,hwd1,htn,hd,hlen];refine ⟨by omega,by omega,?_⟩;exact rd (i+1) (show i+1≤L by omega) (he:=by simp [hz2,hlow,hd2])
 · have hz0:¬ 0<z:=fun h=>hiL (hcn.2 (.inl h));have hil:¬ i<least:=fun h=>hiL (hcn.2 (.inr h));have hiL2:s=low L n:=by rw [← hs]; congr 1; omega
   have hil3:¬ L<least:=by omega
   simp [hz0,hil3,hlen,hiL2,afc]
theorem auU {n i:Nat} (h:bT ^ (i+1)≤n):txN (n / bT ^ i)=txN (n / bT ^ (i+1)) ++ low 9 (plc bT n i):=by
 have hp:0<bT ^ i:=Nat.pow_pos (by decide);have hM:10 ^ 9≤n / bT ^ i:=by
  rw [Nat.le_div_iff_mul_le hp,Nat.mul_comm];rw [Nat.pow_succ] at h; exact h
 have h1:=avM hM;have e1:n / bT ^ i / 10 ^ 9=n / bT ^ (i+1):=by rw [Nat.div_div_eq_div_mul,Nat.pow_succ]; rfl
 have e2:n / bT ^ i % 10 ^ 9=plc bT n i:=rfl;rw [e1,e2] at h1;have n1:0<n / bT ^ i:=Nat.lt_of_lt_of_le (by decide) hM;have n2:0<n / bT ^ (i+1):=Nat.div_pos h (Nat.pow_pos (by decide));rw [txN,txN,show max 1 (nd (n / bT ^ i))=nd (n / bT ^ i) by have:=ape n1; omega,show max 1 (nd (n / bT ^ (i+1)))=nd (n / bT ^ (i+1)) by have:=ape n2; omega,h1]
theorem aoc (z:Int) (hl:(dig bT z.natAbs).length≤1000000):aab Tryz.prog 151 [eG z] (.str (txI z)):=by
 refine aad nf ayB mix (by simp [Tryz.f151]) ?_
 by_cases hz:z=0
 · subst hz;have h0:txI 0=[48]:=by rw [show (0:Int)=((0:Nat):Int) from rfl,adl,adA]
   simp [Tryz.f151,eG,eT,awc,shpA,h0]
 obtain ⟨n,hn⟩:∃ n,z.natAbs=n:=⟨_,rfl⟩
 have hn0:0<n:=by omega
 have hlen:0<(dig bT n).length:=by
  rw [List.length_pos_iff,Ne,afI]; omega
 obtain ⟨k,hk⟩:∃ k,(dig bT n).length=k+1:=⟨(dig bT n).length - 1,by omega⟩
 have hnl:=aaf bT2 n;rw [hk] at hnl;have hng:bT ^ k≤n:=by
  rcases Nat.lt_or_ge n (bT ^ k) with h | h
  · have:=aak bT2 k n h; omega
  · exact h
 have hdx:∀ i (h:i<(dig bT n).length),(dig bT n)[i]=plc bT n i:=fun i h=>aal bT2 h;have htop:n / bT ^ k=plc bT n k:=by
  rw [plc,Nat.mod_eq_of_lt];rw [Nat.div_lt_iff_lt_mul (Nat.pow_pos (by decide)),Nat.mul_comm,← Nat.pow_succ]; exact hnl
 have htop0:0<plc bT n k:=by rw [← htop]; exact Nat.div_pos hng (Nat.pow_pos (by decide))
 have hdt:=afN (plc bT n k) 1 (Nat.lt_trans (aaq bT2 n k) (by decide)) (by decide);rw [show low (max 1 (nd (plc bT n k))) (plc bT n k)=txN (n / bT ^ k) by rw [htop]; rfl] at hdt;have hd9:∀ i,aab Tryz.prog 173 [.int .i64 (plc bT n i:Nat),.int .i64 (9:Nat)] (.str (low 9 (plc bT n i))):=fun i=>by
  have h:=afN (plc bT n i) 9 (Nat.lt_trans (aaq bT2 n i) (by decide)) (by decide);have h2:nd (plc bT n i)≤9:=anv (aaq bT2 n i)
  rwa [show max 9 (nd (plc bT n i))=9 by omega] at h
 have htz:txN (n / bT ^ 0)=txN n:=by rw [Nat.pow_zero,Nat.div_one]
 have ade:∀ i,i+1≤k→txN (n / bT ^ i)=txN (n / bT ^ (i+1)) ++ low 9 (plc bT n i):=fun i hi=>auU (Nat.le_trans (Nat.pow_le_pow_right (by decide) hi) hng);have hkl:k≤1000000:=by rw [hn] at hl; omega
 have hres:txI z=if z<0 then 45::txN n else txN n:=by rw [txI,hn]
 have hp0:plc bT n k<bT:=aaq bT2 n k;have hpi:∀ i,plc bT n i<bT:=fun i=>aaq bT2 n i;obtain ⟨T,hT⟩:∃ T:Nat→List Nat,∀ i,txN (n / bT ^ i)=T i:=⟨_,fun _=>rfl⟩
 have hTl:∀ i,(T i).length≤9000000+9:=fun i=>by
  rw [← hT];refine Nat.le_trans (adk (k:=9*(k+1)) ?_ (by omega)) (by omega);rw [Nat.pow_mul];exact Nat.lt_of_le_of_lt (Nat.div_le_self _ _) hnl
 simp only [hT] at hdt htz ade;rw [hres];simp only [eG,hn,eT,← htz];generalize hx:dig bT n=x at *;have w1:IntKind.i64.wrap ((k:Int)+1 - 1)=k:=by rw [Int.add_sub_cancel]; exact wi64 _ (by omega) (by omega)
 have w1':IntKind.i64.wrap (k:Int)=k:=wi64 _ (by omega) (by omega);have w2:IntKind.i64.wrap ((k:Int)+1 - 2)=(k:Int) - 1:=by rw [wi64 _ (by omega) (by omega)]; omega
 have hk0:¬ (k:Int)+1=0:=by omega
 have hkx:k<x.length:=by omega
 have hxk:=hdx k hkx;have hxk':x[k]?=some (plc bT n k):=by rw [List.getElem?_eq_getElem hkx,hxk]
 simp [Tryz.f151,shpA,hk,hk0,w1,w1',w2,hkx,hxk,hxk'];refine c2 hdt ?_;simp [shpA,hk,w2];refine lp (α:=Nat) (fun i=>⟨[(4,.p (.int .i64 ((i:Int) - 1))),(3,.p (.str (T i))),(1,.ptr 0 [])],[.box false (.p (.st 222 [.bool (decide (z<0)),.seq (x.map fun x:Nat=>.int .i64 x)]))]⟩)
  (fun i=>i≤k) (fun i=>i) k (Nat.le_refl _) ?_
 rintro i hi;have hz0:=hpi i;rcases i with _ | i
 · by_cases hneg:z<0
   · have hlt:=Nat.lt_of_le_of_lt (Nat.add_le_add_right (hTl 0) 1) (show 9000000+9+1<9223372036854775808 by decide);rw [htz,Nat.add_comm] at hlt;simp [hneg,shpA,htz,hlt]
   · simp [hneg,shpA,htz]
 · have hix:i<x.length:=by omega
   have hxi:=hdx i hix;have hxi':x[i]?=some (plc bT n i):=by rw [List.getElem?_eq_getElem hix,hxi]
   have hi0:¬ (i:Int)<0:=by omega
   have wi:IntKind.i64.wrap ((i:Int) - 1)=(i:Int) - 1:=wi64 _ (by omega) (by omega);have hlt:=Nat.lt_of_le_of_lt (Nat.add_le_add_right (hTl (i+1)) 9) (show 9000000+9+9<9223372036854775808 by decide);have hst:=ade i hi;simp [hi0,shpA,hix,hxi,hxi'];refine c2 (hd9 i) ?_;simp [wi,afc];refine ⟨hlt,?_⟩;exact rd i (show i≤k by omega) (he:=by simp [hst])
theorem ary {s:List Nat} {i:Nat} (h:i<s.length):valT (s.take (i+1))=valT (s.take i)*10+(s[i] - 48):=by
 rw [List.take_succ_eq_append_getElem h,afj]
theorem afV {s:List Nat} {p:Nat→Bool} (h:s.all p=true) (i:Nat):(s.take i).all p=true:=by
 rw [List.all_eq_true] at h ⊢;intro x hx; exact h x (List.mem_of_mem_take hx)
theorem aqc {s:List Nat} {p:Nat→Bool} (h:s.all p=true) (i:Nat):(s.drop i).all p=true:=by
 rw [List.all_eq_true] at h ⊢;intro x hx; exact h x (List.mem_of_mem_drop hx)
theorem akr {c:Nat} (h:isD c=true):48≤c∧c≤57:=by
 simpa [isD] using h
theorem akK (s:List Nat) (hd:s.all isD=true) (hl:s.length≤18):aab Tryz.prog 234 [.str s] (.int .i64 (valT s:Nat)):=by
 refine aad nf ayd mix (by simp [Tryz.f234]) ?_;obtain ⟨L,hL⟩:∃ L,L=s.length:=⟨_,rfl⟩
 have hfull:valT (s.take L)=valT s:=by rw [hL,List.take_length]
 rw [← hfull];obtain ⟨v,hv⟩:∃ v:Nat→Nat,∀ i,valT (s.take i)=v i:=⟨_,fun _=>rfl⟩
 have hv0:v 0=0:=by rw [← hv]; rfl
 have hvs:∀ i (h:i<s.length),v (i+1)=v i*10+(s[i] - 48):=fun i h=>by rw [← hv,← hv,ary h]
 have hvb:∀ i,i≤L→v i<10 ^ i:=fun i hi=>by
  rw [← hv];exact aaJ i _ (by rw [List.length_take]; omega) (afV hd i)
 rw [hv];simp [Tryz.f234];refine lp (α:=Nat) (fun i=>⟨[(4,.p (.int .i64 i)),(3,.p (.int .i64 (v i:Nat))),(0,.p (.str s))],[]⟩)
  (fun i=>i≤L) (fun i=>L - i) 0 (Nat.zero_le _) ?_ (he:=by simp [hv0])
 intro i hi
 by_cases hiL:i<L
 · have his:i<s.length:=by omega
   have hb:=hvb i hi;have hb1:=hvb (i+1) hiL;have hc:=akr (List.all_eq_true.1 hd s[i] (List.getElem_mem his));have hs:=hvs i his;have hp:10 ^ i≤10 ^ 17:=Nat.pow_le_pow_right (by decide) (by omega);have hb':v i<100000000000000000:=Nat.lt_of_lt_of_le hb (by exact hp);generalize hci:s[i]=c at *;generalize hvi:v i=x at *;have w1:IntKind.i64.wrap (10*(x:Int))=10*(x:Int):=wi64 _ (by omega) (by omega);have w2:IntKind.i64.wrap (10*(x:Int)+c)=10*(x:Int)+c:=wi64 _ (by omega) (by omega);have w3:IntKind.i64.wrap (10*(x:Int)+c - 48)=(v (i+1):Nat):=by rw [hs,wi64 _ (by omega) (by omega)]; omega
   have w4:IntKind.i64.wrap ((i:Int)+1)=(i:Int)+1:=wi64 _ (by omega) (by omega);have w5:IntKind.i64.wrap (c:Int)=c:=wi64 _ (by omega) (by omega);have hget:s[i]?=some c:=by rw [List.getElem?_eq_getElem his,hci]
   simp [his,hci,hget,w1,w2,w3,w4,w5];exact rd (i+1) (show i+1≤L by omega)
 · have his:¬ i<s.length:=by omega
   have:i=L:=by omega
   subst this;simp [his]
theorem at1 (c:Nat):∀ s:List Nat,c ∉ (cutN c s).1
 | []=>by simp [cutN]
 | x::r=>by
  rw [cutN]
  split
  · simp
  · rename_i h;simp only [List.mem_cons,not_or];exact ⟨fun e=>h e.symm,at1 c r⟩
theorem aiK (s:List Nat) (hl:s.length≤1048576):aab Tryz.prog 233 [.str s] (.int .i64 ((cutN 47 s).1.length:Nat)):=by
 refine aad nf aye mix (by simp [Tryz.f233]) ?_;obtain ⟨k,hk⟩:∃ k,(cutN 47 s).1.length=k:=⟨_,rfl⟩
 have hm:=at1 47 s;have hkl:k≤s.length:=by rw [← hk]; exact (aeJ 47 s).1
 have h1:∀ j (h:j<s.length),j<k→¬ s[j]=47:=by
  intro j h hj e;apply hm;rcases aet 47 s with ⟨_,h2⟩ | ⟨_,h2,_⟩
  · have:s[j]=(cutN 47 s).1[j]'(by omega):=by
     conv=>lhs; rw [List.getElem_of_eq h2]
     rw [List.getElem_append_left]
    have hmem:(cutN 47 s).1[j]'(by omega)∈(cutN 47 s).1:=List.getElem_mem _;rw [← this,e] at hmem; exact hmem
  · rw [h2];have hmem:s[j]∈s:=List.getElem_mem _
    rwa [e] at hmem
 have h2:∀ (h:k<s.length),s[k]=47:=by
  intro h;rcases aet 47 s with ⟨_,h3⟩ | ⟨_,h3,_⟩
  · rw [List.getElem_of_eq h3,List.getElem_append_right (by omega)];simp [hk]
  · rw [h3] at hk; omega
 rw [hk];simp [Tryz.f233];refine lp (α:=Nat) (fun i=>⟨[(3,.p (.int .i64 i)),(0,.p (.str s))],[]⟩)
  (fun i=>i≤k) (fun i=>k - i) 0 (Nat.zero_le _) ?_
 intro i hi;have w4:IntKind.i64.wrap ((i:Int)+1)=(i:Int)+1:=wi64 _ (by omega) (by omega)
 by_cases hik:i<k
 · have his:i<s.length:=by omega
   have hn:=h1 i his hik;generalize hci:s[i]=c at *;have hget:s[i]?=some c:=by rw [List.getElem?_eq_getElem his,hci]
   have hcI:¬ (c:Int)=47:=by omega
   simp [his,hci,hget,hcI,hn,w4];exact rd (i+1) (show i+1≤k by omega)
 · have hik2:i=k:=by omega
   subst hik2
   by_cases his:i<s.length
   · have hn:=h2 his;have hget:s[i]?=some 47:=by rw [List.getElem?_eq_getElem his,hn]
     simp [his,hn,hget]
   · have:i=s.length:=by omega
     simp [his,this]
theorem auf (n:Int) (h0:-9223372036854775808≤n) (h1:n≤9223372036854775807):aab Tryz.prog 152 [.int .i64 n] (eG n):=by
 refine aad nf ayA mix (by simp [Tryz.f152]) ?_;obtain ⟨N,hN⟩:∃ N,n.natAbs=N:=⟨_,rfl⟩
 have hNb : N < bT ^ 3 := by have : bT ^ 3 = 1000000000000000000000000000 := by decide
                             omega
 obtain ⟨g,hg⟩:∃ g:Nat→Nat,∀ i,N / bT ^ i=g i:=⟨_,fun _=>rfl⟩
 have hg0:g 0=N:=by rw [← hg,Nat.pow_zero,Nat.div_one]
 have hgs:∀ i,g (i+1)=g i / bT:=fun i=>by rw [← hg,← hg,Nat.div_div_eq_div_mul,Nat.pow_succ]
 have hgp:∀ i,plc bT N i=g i % bT:=fun i=>by rw [← hg]; rfl
 have hg3:g 3=0:=by rw [← hg,Nat.div_eq_of_lt hNb]
 have hgl:∀ i,g i≤N:=fun i=>by rw [← hg]; exact Nat.div_le_self _ _
 have hS:∀ i,i≤3→g i=0→aab Tryz.prog 239 [.bool (decide (n<0)),.seq (iP (row bT i N))] (eG n):=fun i hi3 hi=>by
  have h:=akL (decide (n<0)) (row bT i N) N (abl bT2 (by
   rw [← hg] at hi;rcases Nat.lt_or_ge N (bT ^ i) with h | h
   · exact h
   · have:=Nat.div_pos h (Nat.pow_pos (show 0<bT by decide)); omega)) (by simp [row]; omega)
  have e:(if decide (n<0)=true then -(N:Int) else N)=n:=by
   by_cases hn:n<0
   · simp [hn]; omega
   · simp [hn]; omega
  rwa [e] at h
 obtain ⟨m,hm⟩:∃ m:Nat→Int,∀ i,(if n<0 then -(g i:Int) else g i)=m i:=⟨_,fun _=>rfl⟩
 have hm0:m 0=n:=by rw [← hm,hg0]; split <;> omega
 simp only [eG] at hS ⊢;simp [Tryz.f152];refine lp (α:=Nat) (fun i=>⟨[(0,.p (.int .i64 (m i))),(2,.ptr 0 []),(3,.sl 1 i 1 0 i),(4,.p (.bool (decide (n<0))))],[.box false (.p (.st 222 [.bool false,.nsl])),.arr .grow i 1 (rwT i N)]⟩)
  (fun i=>i≤3) (fun i=>3 - i) 0 (Nat.zero_le _) ?_ (he:=by simp [hm0,rwT]) (hh:=by simp [rwT])
 intro i hi;have hb0:bT=1000000000:=rfl;have hr:=Nat.mod_lt (g i) (show 0<bT by decide);have hgi:=hgl i;have hdm:=Nat.div_add_mod (g i) bT;have hpn':g i % bT=plc bT N i:=(hgp i).symm
 by_cases hz:g i=0
 · have hmi:m i=0:=by rw [← hm,hz]; split <;> rfl
   have hs:=hS i hi hz;rcases i with _ | i
   · simp [hmi];refine cp hs (by simp [rwT]; first | exact ⟨rfl,rfl⟩ | rfl) ?_ (h1:=by simp [iP,row]);simp [shpA]
   · have hne:¬ rwT (i+1) N=[]:=by intro h; have:=congrArg List.length h; rw [abk] at this; simp at this
     simp [hmi];refine cp hs (by simp [abk,ar5,hne]; first | exact ⟨rfl,rfl⟩ | rfl) ?_ (h1:=by simp [iP,row,List.map_take,List.take_of_length_le]);simp [shpA]
 · have hi3:i<3:=by
    rcases Nat.lt_or_ge i 3 with h | h
    · exact h
    · rw [show i=3 by omega] at hz; exact (hz hg3).elim
   have hgn:=hgs i;have hpn:=hgp i;have hsucc:=adH i N;have htk:List.take i (rwT i N)=rwT i N:=List.take_of_length_le (by rw [abk]; exact Nat.le_refl _);rw [hpn] at hsucc;obtain ⟨r,hrr⟩:∃ r,g i % bT=r:=⟨_,rfl⟩
   rw [hrr] at hsucc hr hdm;have hpn':=hrr.symm
   by_cases hn:n<0
   · have hmi:m i = -(g i:Int):=by rw [← hm,if_pos hn]
     have hmn:m (i+1) = -(g (i+1):Int):=by rw [← hm,if_pos hn]
     have hne:¬ (g i:Int)=0:=by omega
     have tm:((g i:Nat):Int).tmod 1000000000=r:=by rw [hpn',Int.tmod_eq_emod_of_nonneg (Int.natCast_nonneg _),Int.natCast_emod]; rfl
     have td:((g i:Nat):Int).tdiv 1000000000=(g (i+1):Nat):=by rw [hgn,Int.tdiv_eq_ediv_of_nonneg (Int.natCast_nonneg _),Int.natCast_ediv (g i)]; rfl
     have wr:IntKind.i64.wrap (r:Int)=r:=wi64 _ (by omega) (by omega);have wnr:IntKind.i64.wrap (-(r:Int)) = -r:=wi64 _ (by omega) (by omega);have wg:IntKind.i64.wrap (-(g (i+1):Int)) = -(g (i+1):Nat):=wi64 _ (by have:=hgl (i+1); omega) (by have:=hgl (i+1); omega)
     by_cases hr0:r=0
     · simp [hmi,hz,hne,tm,td,wr,wnr,wg,hr0,htk,abk];refine ⟨by simp only [maxL]; omega,?_⟩;exact rd (i+1) (show i+1≤3 by omega) (he:=by simp [hmn]) (hh:=by simp [hsucc,hr0])
     · have hr1:0<r:=by omega
       simp [hmi,hz,hne,tm,td,wr,wnr,wg,hr0,hr1,htk,abk];refine ⟨by simp only [maxL]; omega,?_⟩;exact rd (i+1) (show i+1≤3 by omega) (he:=by simp [hmn]) (hh:=by simp [hsucc])
   · have hmi:m i=(g i:Int):=by rw [← hm,if_neg hn]
     have hmn:m (i+1)=(g (i+1):Int):=by rw [← hm,if_neg hn]
     have hne:¬ (g i:Int)=0:=by omega
     have tm:((g i:Nat):Int).tmod 1000000000=r:=by rw [hpn',Int.tmod_eq_emod_of_nonneg (Int.natCast_nonneg _),Int.natCast_emod]; rfl
     have td:((g i:Nat):Int).tdiv 1000000000=(g (i+1):Nat):=by rw [hgn,Int.tdiv_eq_ediv_of_nonneg (Int.natCast_nonneg _),Int.natCast_ediv (g i)]; rfl
     have wr:IntKind.i64.wrap (r:Int)=r:=wi64 _ (by omega) (by omega);have wg:IntKind.i64.wrap (g (i+1):Int)=(g (i+1):Nat):=wi64 _ (by have:=hgl (i+1); omega) (by have:=hgl (i+1); omega);have hr1:¬ (r:Int)<0:=by omega
     simp [hmi,hz,hne,tm,td,wr,wg,hr1,htk,abk];refine ⟨by simp only [maxL]; omega,?_⟩;exact rd (i+1) (show i+1≤3 by omega) (he:=by simp [hmn]) (hh:=by simp [hsucc])
theorem aje {d : List Nat} (hd : d.all isD = true) {L i : Nat} (hL : L = d.length) (h : 9 * (i + 1) ≤ L) :
    valT (d.take (L - 9*(i+1)))=valT (d.take (L - 9*i)) / 10 ^ 9∧valT ((d.take (L - 9*i)).drop (L - 9*(i+1)))=valT (d.take (L - 9*i)) % 10 ^ 9:=by
 have e:=List.take_append_drop (L - 9*(i+1)) (d.take (L - 9*i));rw [List.take_take,Nat.min_eq_left (by omega)] at e;have h2:=aoB (d.take (L - 9*(i+1))) ((d.take (L - 9*i)).drop (L - 9*(i+1)));rw [e] at h2;have hl:((d.take (L - 9*i)).drop (L - 9*(i+1))).length=9:=by rw [List.length_drop,List.length_take]; omega
 rw [hl] at h2;have hb:=aaJ 9 _ hl (aqc (afV hd _) _);generalize valT ((d.take (L - 9*i)).drop (L - 9*(i+1)))=y at *;generalize valT (d.take (L - 9*(i+1)))=x at *;rw [h2];omega
theorem akM (s:List Nat) (hd:(absT s).all isD=true) (hl:s.length≤1000000):aab Tryz.prog 235 [.str s] (eG (if negT s=true then -(valT (absT s):Int) else valT (absT s))):=by
 refine aad nf ayc mix (by simp [Tryz.f235]) ?_;obtain ⟨d,hdd⟩:∃ d,absT s=d:=⟨_,rfl⟩
 obtain ⟨neg,hneg⟩:∃ neg,negT s=neg:=⟨_,rfl⟩
 obtain ⟨N,hN⟩:∃ N,valT d=N:=⟨_,rfl⟩
 have hdl:d.length≤1000000:=by rw [← hdd]; exact Nat.le_trans (ac4 s).1 hl
 rw [hdd] at hd ⊢;rw [hneg,hN];have hsl:=hl;simp [Tryz.f235,-aai];rw [aai];simp [-aai];refine join (fun st=>getE st.env 0=.p (.str s)∧getE st.env 2=.ptr 0 []∧getE st.env 3=.p (.bool neg)∧st.heap=[.box false (.p (.st 222 [.bool false,.nsl]))]) ?_ ?_
 · cases s with
   | nil=>simp [← hneg,negT]
   | cons c r =>
    by_cases hc:c=45
    · simp [← hneg,negT,hc]
    · have hcI:¬ (c:Int)=45:=by omega
      simp [← hneg,negT,hc,hcI]
 rintro ⟨env',heap'⟩ ⟨x0,x2,x3,hpp⟩;dsimp only at x0 x2 x3 hpp;subst hpp;refine join (fun st=>getE st.env 0=.p (.str d)∧getE st.env 2=.ptr 0 []∧getE st.env 3=.p (.bool neg)∧st.heap=[.box false (.p (.st 222 [.bool false,.nsl]))]) ?_ ?_
 · cases neg with
   | false =>
    have hsd:s=d:=by rw [← hdd,absT,hneg]; rfl
    simp [x0,x2,x3,hsd]
   | true =>
    cases s with
    | nil=>simp [negT] at hneg
    | cons c r =>
     have hsd:r=d:=by rw [← hdd,absT,hneg]; rfl
     simp [x0,x2,x3,hsd]
 clear x0 x2 x3;rintro ⟨env',heap'⟩ ⟨x0,x2,x3,hpp⟩;dsimp only at x0 x2 x3 hpp;subst hpp;obtain ⟨L,hL⟩:∃ L,L=d.length:=⟨_,rfl⟩
 obtain ⟨g,hg⟩:∃ g:Nat→Nat,∀ i,N / bT ^ i=g i:=⟨_,fun _=>rfl⟩
 have hgv:∀ i,9*i≤L→valT (d.take (L - 9*i))=g i:=by
  intro i
  induction i with
  | zero=>intro _; rw [Nat.mul_zero,Nat.sub_zero,hL,List.take_length,hN,← hg,Nat.pow_zero,Nat.div_one]
  | succ i ih =>
   intro h;rw [(aje hd hL h).1,ih (by omega),← hg,← hg,Nat.div_div_eq_div_mul,Nat.pow_succ]; rfl
 have hgm:∀ i,9*(i+1)≤L→valT ((d.take (L - 9*i)).drop (L - 9*(i+1)))=plc bT N i:=fun i h=>by
  rw [(aje hd hL h).2,hgv i (by omega),← hg]; rfl
 have hval:∀ i,9*(i+1)≤L→aab Tryz.prog 234 [.str ((d.take (L - 9*i)).drop (L - 9*(i+1)))] (.int .i64 (plc bT N i:Nat)):=fun i h=>by
  rw [← hgm i h];exact akK _ (aqc (afV hd _) _) (by rw [List.length_drop,List.length_take]; omega)
 have hend:∀ i,9*i≤L→L≤9*i+9→g i=plc bT N i∧N<bT ^ (i+1):=fun i h1 h2=>by
  have hb:=aaJ _ (d.take (L - 9*i)) rfl (afV hd _);rw [hgv i h1] at hb;have h3:g i<bT:=Nat.lt_of_lt_of_le hb (by
   rw [show bT=10 ^ 9 from rfl];exact Nat.pow_le_pow_right (by decide) (by rw [List.length_take]; omega))
  refine ⟨by rw [plc,hg,Nat.mod_eq_of_lt h3],?_⟩;rw [← hg,Nat.div_lt_iff_lt_mul (Nat.pow_pos (by decide))] at h3;rw [Nat.pow_succ,Nat.mul_comm]; exact h3
 have hlast:∀ i,9*i≤L→L≤9*i+9→aab Tryz.prog 234 [.str (d.take (L - 9*i))] (.int .i64 (plc bT N i:Nat)):=fun i h1 h2=>by
  rw [← (hend i h1 h2).1,← hgv i h1];exact akK _ (afV hd _) (by rw [List.length_take]; omega)
 have hS:∀ i,9*i≤L→L≤9*i+9→aab Tryz.prog 239 [.bool neg,.seq (iP (row bT (i+1) N))] (eG (if neg=true then -(N:Int) else N)):=fun i h1 h2 =>
  akL neg (row bT (i+1) N) N (abl bT2 (hend i h1 h2).2) (by simp [row]; omega)
 generalize (if neg=true then -(N:Int) else N)=z at *;simp only [eG] at hS ⊢;rw [aai];simp [x0,x2,x3,-aai];rw [aai];simp [x0,x2,x3];refine lp (α:=Nat) (fun i=>⟨[(0,.p (.str (d.take (L - 9*i)))),(2,.ptr 0 []),(3,.p (.bool neg)),(4,.sl 1 i 1 0 i)],[.box false (.p (.st 222 [.bool false,.nsl])),.arr .grow i 1 (rwT i N)]⟩)
  (fun i=>9*i≤L) (fun i=>L - i) 0 (Nat.zero_le _) ?_ (he:=by simp [x0,x2,x3,rwT,hL]) (hh:=by simp [rwT])
 intro i hi;have htl:(d.take (L - 9*i)).length=L - 9*i:=by rw [List.length_take]; omega
 have hv:=hval i;have hla:=hlast i hi;have htt:(d.take (L - 9*i)).take (L - 9*(i+1))=d.take (L - 9*(i+1)):=by rw [List.take_take,Nat.min_eq_left (by omega)]
 rw [show L - 9*(i+1)=L - 9*i - 9 by omega] at hv htt;obtain ⟨m,hm⟩:∃ m,m=L - 9*i:=⟨_,rfl⟩
 rw [← hm] at htl hv hla htt;have hsucc:=adH i N;have htk:List.take i (rwT i N)=rwT i N:=List.take_of_length_le (by rw [abk]; exact Nat.le_refl _);have hmx:i+1≤maxL:=by simp only [maxL]; omega
 by_cases h9:9<m
 · have hv:=hv (by omega);have wm:IntKind.i64.wrap ((m:Int) - 9)=(m:Int) - 9:=wi64 _ (by omega) (by omega);have wmt:((m:Int) - 9).toNat=m - 9:=by omega
   have hs0:(9:Int)≤m:=by omega
   have hsr:9*(i+1)≤L:=by omega
   rw [← hm];generalize hT:List.take m d=t at *;have htm:List.take m t=t:=List.take_of_length_le (by omega);have h9I:(9:Int)<m:=by omega
   have hm1:m - 9=L - 9*(i+1):=by omega
   simp [htl,h9I,wm,wmt,hs0,htm];refine c1 hv ?_;simp [htk,abk,hmx,← hsucc,htl,wm,wmt,hs0,htt];exact rd (i+1) hsr (he:=by simp [hm1])
 · have hla:=hla (by omega);have hs:=hS i hi (by omega);rw [← hm];generalize List.take m d=t at *;have h9I:¬ (9:Int)<m:=by omega
   simp [htl,h9I];refine c1 hla ?_;simp [htk,abk,hmx,← hsucc];have hne:¬ rwT (i+1) N=[]:=by intro h; have:=congrArg List.length h; rw [abk] at this; simp at this
   refine cp hs (by simp [abk,ar5,hne]; first | exact ⟨rfl,rfl⟩ | rfl) ?_ (h1:=by simp [iP,row,List.map_take,List.take_of_length_le]);simp [shpA]
def numZ (s:List Nat):Int:=if negT s=true then -(valT (numP s):Int) else valT (numP s)
def denZ (s:List Nat):Nat:=if frT s=true then valT (denP s) else 1
theorem apX (s:List Nat) (h1:(numP s).all isD=true) (h2:(denP s).all isD=true) (hl:s.length≤1000000):aab Tryz.prog 148 [.str s] (.tup [eG (numZ s),eG (denZ s:Nat)]):=by
 refine aad nf ayE mix (by simp [Tryz.f148]) ?_;have hsl:=aiK s (by omega);obtain ⟨p1,p2,p3,p4⟩:=amy s;have hcl:=aeJ 47 s;have hw:=auf 1 (by decide) (by decide);rcases aet 47 s with ⟨q1,q2⟩ | ⟨q1,q2,q3⟩
 · have hA:=akM (cutN 47 s).1 (by rw [p2]; exact h1) (by omega);rw [p1,p2] at hA;have hB:=akM (cutN 47 s).2.1 (by
    rw [p3];rw [List.all_eq_true] at h2 ⊢;intro x hx; exact h2 x ((ac4 _).2 x hx)) (by omega)
   have hng:negT (denP s)=false:=by
    rw [negT];cases hd:denP s with
    | nil=>simp
    | cons c r =>
     have:=akr (List.all_eq_true.1 h2 c (by rw [hd]; simp));simp; omega
   rw [p3,absT,hng] at hB;have hfr:frT s=true:=by rw [← p4]; exact q1
   have eq1:numZ s=if negT s=true then -(valT (numP s):Int) else valT (numP s):=rfl
   have eq2:denZ s=valT (denP s):=by rw [denZ,if_pos hfr]
   rw [← eq1] at hA;simp only [Bool.false_eq_true,if_false] at hB;rw [← eq2] at hB;generalize hz:numZ s=z at *;generalize denZ s=dn at *;obtain ⟨sa,hsa⟩:∃ sa,(cutN 47 s).1=sa:=⟨_,rfl⟩
   obtain ⟨sb,hsb⟩:∃ sb,(cutN 47 s).2.1=sb:=⟨_,rfl⟩
   rw [hsa,hsb] at q2;rw [hsa] at hsl hA;rw [hsb] at p3;obtain ⟨k,hkk⟩:∃ k,sa.length=k:=⟨_,rfl⟩
   rw [hkk] at hsl;have hk:k<s.length:=by rw [q2]; simp; omega
   have ht:s.take k=sa:=by rw [q2,← hkk]; simp
   have hd:s.drop (k+1)=denP s:=by
    rw [← p3]
    conv=>lhs; rw [q2,← hkk]
    simp
   clear hcl q2 hsa hsb;have wk:IntKind.i64.wrap ((k:Int)+1)=(k:Int)+1:=wi64 _ (by omega) (by omega);have tk:((k:Int)+1).toNat=k+1:=by omega
   have hne:¬ (k:Int)=s.length:=by omega
   have hk1:k+1≤s.length:=hk;have hkl:k≤s.length:=by omega
   have hk0:(0:Int)≤k+1:=by omega
   have hk2:(k:Int)+1≤s.length:=by omega
   simp only [eG] at hA hB ⊢;simp [Tryz.f148];refine c1 hsl ?_;simp [hne,wk,tk,ht,hd,hk1,hkl,hk0,hk2];refine e1 hA ?_;simp [hne,wk,tk,ht,hd,hk1,hkl,hk0,hk2];refine e1 hB ?_;simp [shpA]
 · have hA:=akM s (by
    have hp:=p2;rw [q2] at hp;rw [hp]; exact h1) hl
   have hfr:frT s=false:=by rw [← p4]; exact q1
   have hab:absT s=numP s:=by rw [q2] at p2; exact p2
   have eq1:numZ s=if negT s=true then -(valT (numP s):Int) else valT (numP s):=rfl
   have eq2:denZ s=1:=by rw [denZ,hfr]; rfl
   rw [hab,← eq1] at hA;rw [eq2];rw [q2] at hsl;generalize numZ s=z at *;simp only [eG] at hA hw ⊢;simp [Tryz.f148];refine c1 hsl ?_;simp;refine c1 hA ?_;simp;refine c1 hw ?_;simp [shpA]
theorem ajf (n:Nat):(txN n).length≤9*(dig bT n).length+1:=by
 rcases Nat.eq_zero_or_pos n with h | h
 · subst h; rw [adA]; simp
 · have hl:0<(dig bT n).length:=by rw [List.length_pos_iff,Ne,afI]; omega
   have h1:=aaf bT2 n;rw [show bT ^ (dig bT n).length=10 ^ (9*(dig bT n).length) by rw [Nat.pow_mul]; rfl] at h1;exact Nat.le_trans (adk h1 (by omega)) (by omega)
def dvI (n d:Int):Rat:=Rat.divInt n d
theorem ajB (n g:Nat):(dig bT (n / g)).length≤(dig bT n).length :=
 aak bT2 _ _ (Nat.lt_of_le_of_lt (Nat.div_le_self n g) (aaf bT2 n))
theorem aqY (n d:Nat) (hd:0<d):(dig bT (Nat.gcd n d)).length≤(dig bT d).length :=
 aak bT2 _ _ (Nat.lt_of_le_of_lt (Nat.gcd_le_right n hd) (aaf bT2 d))
theorem ags (n d:Int) (hd:d≠0) (hn:(dig bT n.natAbs).length≤400000) (hdl:(dig bT d.natAbs).length≤400000):aab Tryz.prog 149 [eG n,eG d] (.str (txQ (dvI n d))):=by
 refine aad nf ayD mix (by simp [Tryz.f149]) ?_;simp [Tryz.f149,-aai,shpA];rw [aai];simp [-aai,shpA];refine join (fun st=>∃ (n':Int) (d':Nat),0<d'∧(dig bT n'.natAbs).length≤400000∧(dig bT d').length≤400000∧dvI n' d'=dvI n d∧getE st.env 2=.ptr 0 []∧getE st.env 3=.ptr 1 []∧st.heap=[.box false (.p (eG n')),.box false (.p (eG (d':Nat)))]) ?_ ?_
 · have hmn:=aul n hn;have hmd:=aul d hdl
   by_cases h:d<0
   · simp [h,shpA];refine e1 hmn ?_;simp [shpA];refine e1 hmd ?_;simp [shpA];refine ⟨by repeat' first | rfl | apply And.intro,?_⟩;refine ⟨-n,d.natAbs,by omega,by rw [Int.natAbs_neg]; exact hn,hdl,?_,rfl,?_⟩
     · rw [Int.ofNat_natAbs_of_nonpos (by omega)]; exact Rat.neg_divInt_neg _ _
     · rw [Int.ofNat_natAbs_of_nonpos (by omega)]
   · have hdn:((d.natAbs:Nat):Int)=d:=Int.natAbs_of_nonneg (by omega);simp [h,shpA];exact ⟨n,d.natAbs,by omega,hn,hdl,by rw [hdn],rfl,by rw [hdn]⟩
 rintro ⟨env',heap'⟩ ⟨n',d',k1,k2,k3,k4,x2,x3,hpp⟩;dsimp only at x2 x3 hpp;subst hpp;rw [← k4,show dvI n' d'=Rat.divInt n' d' from rfl];clear k4 hn hdl hd;obtain ⟨e1',e2'⟩:=abf (n:=n') (show d'≠0 by omega);obtain ⟨g,hg⟩:∃ g,Nat.gcd n'.natAbs d'=g:=⟨_,rfl⟩
 have hg0:0<g:=by rw [← hg]; exact Nat.gcd_pos_of_pos_right _ k1
 have hgl:(dig bT g).length≤400000:=by rw [← hg]; exact Nat.le_trans (aqY _ _ k1) k3
 rw [hg] at e1' e2';have hC:=ap0 n'.natAbs d' k2 k3;rw [hg] at hC;have hD1:=aus n'.natAbs g hg0 k2 hgl;have hD2:=aus d' g hg0 k3 hgl;have hpl:(dig bT (n'.natAbs / g)).length≤400000:=Nat.le_trans (ajB _ _) k2;have hql:(dig bT (d' / g)).length≤400000:=Nat.le_trans (ajB _ _) k3;have hS1:=acQ (decide (n'<0)) (n'.natAbs / g) (by omega);have hS2:=acQ false (d' / g) (by omega);have hnum:(if decide (n'<0)=true then -((n'.natAbs / g:Nat):Int) else ((n'.natAbs / g:Nat):Int))=(Rat.divInt n' d').num:=by
  rw [e1'];have hdv:(g:Int) ∣ n':=by rw [← hg]; exact Int.ofNat_dvd_left.2 (Nat.gcd_dvd_left _ _)
  obtain ⟨c,hc⟩:=hdv;have hgz:(g:Int)≠0:=by omega
  rw [hc,Int.mul_ediv_cancel_left _ hgz,Int.natAbs_mul,Int.natAbs_natCast,Nat.mul_div_cancel_left _ hg0]
  by_cases hc0:c<0
  · have:(g:Int)*c<0:=Int.mul_neg_of_pos_of_neg (by omega) hc0;simp [this]; omega
  · have:¬ (g:Int)*c<0:=by
     have:=Int.mul_nonneg (a:=(g:Int)) (b:=c) (by omega) (by omega); omega
    simp [this]; omega
 rw [hnum] at hS1;simp only [Bool.false_eq_true,if_false] at hS2;have hT1:=aoc (Rat.divInt n' d').num (by
  rw [← hnum]; split
  · rw [Int.natAbs_neg,Int.natAbs_natCast]; omega
  · rw [Int.natAbs_natCast]; omega)
 have hT2:=aoc ((d' / g:Nat):Int) (by rw [Int.natAbs_natCast]; omega);rw [adl] at hT2;have hq0:0<d' / g:=by
  refine Nat.div_pos ?_ hg0;rw [← hg]; exact Nat.gcd_le_right _ k1
 have hl1:(txI (Rat.divInt n' d').num).length≤3600002:=by
  refine Nat.le_trans (amT _) ?_;have h:=ajf (Rat.divInt n' d').num.natAbs;have:(Rat.divInt n' d').num.natAbs=n'.natAbs / g:=by
   rw [← hnum]; split
   · rw [Int.natAbs_neg,Int.natAbs_natCast]
   · rw [Int.natAbs_natCast]
  rw [this] at h ⊢;omega
 have hl2:(txN (d' / g)).length≤3600001:=by
  have h:=ajf (d' / g); omega
 have hres:txQ (Rat.divInt n' d')=if d' / g=1 then txI (Rat.divInt n' d').num else txI (Rat.divInt n' d').num ++ 47::txN (d' / g):=by rw [txQ,e2']
 rw [hres];clear hres hnum e1' e2';generalize (Rat.divInt n' d').num=nn at *;generalize hqq:d' / g=q at *;simp only [eG,Int.natAbs_natCast] at hS1 hS2 hT1 hT2 ⊢;simp [x2,x3,shpA];refine c2 hC ?_;simp [x2,x3,shpA];refine c2 hD1 ?_;simp [x2,x3,shpA];refine c2 hD2 ?_;simp [x2,x3,shpA];refine c2 hS1 ?_;simp [x2,x3,shpA];refine c1 hT1 ?_;have hq1:∀ h:q=1,dig bT q=[1]:=fun h=>by rw [h]; exact acA (by decide) (by decide)
 by_cases h1:q=1
 · have hdq:=hq1 h1;simp [h1,eT,acA (show 0<1 by decide) (show 1<bT by decide)]
 · have hlt:(txI nn).length+1<9223372036854775808:=by omega
   have hlt2:(txI nn).length+((txN q).length+1)<9223372036854775808:=by omega
   by_cases hqb:q<bT
   · have hdq:=acA hq0 hqb;have hqI:¬ (q:Int)=1:=by omega
     simp [h1,eT,hdq,hqI];refine ⟨hlt,?_⟩;simp only [eT,hdq,List.map_cons,List.map_nil] at hS2 hT2;refine c2 hS2 ?_;simp;refine c1 hT2 ?_;simp;omega
   · have hdl:¬ ((dig bT q).length:Int)=1:=by
      intro h;have h2:(dig bT q).length=1:=by omega
      have:=aaf bT2 q;rw [h2,Nat.pow_one] at this; exact hqb this
     simp [h1,eT,hdl];refine ⟨hlt,?_⟩;simp only [eT] at hS2 hT2;refine c2 hS2 ?_;simp;refine c1 hT2 ?_;simp;omega
theorem aqo {n:Int} {g:Nat} (hg:0<g) (h:g ∣ n.natAbs):n.tdiv g=n / g:=by
 obtain ⟨c,hc⟩:=Int.ofNat_dvd_left.2 h;subst hc;rw [Int.mul_tdiv_cancel_left _ (by omega),Int.mul_ediv_cancel_left _ (by omega)]
theorem c_OfR (n d:Int) (hd:d≠0) (hn:n.natAbs≤4000000000000000000) (hdl:d.natAbs≤4000000000000000000):aab Tryz.prog 87 [.int .i64 n,.int .i64 d] (.str (txQ (dvI n d))):=by
 refine aad nf isF87 mix (by simp [Tryz.f87]) ?_;have a1:¬ n < -4000000000000000000:=by omega
 have a2:¬ 4000000000000000000<n:=by omega
 have a3:¬ d < -4000000000000000000:=by omega
 have a4:¬ 4000000000000000000<d:=by omega
 simp [Tryz.f87,a1,a2,a3,a4,-aai];rw [aai];simp [a1,a2,a3,a4,-aai];rw [aai,aai];simp [a1,a2,a3,a4,-aai];refine join (fun st=>∃ (n':Int) (d':Nat),0<d'∧n'.natAbs≤4000000000000000000∧d'≤4000000000000000000∧dvI n' d'=dvI n d∧getE st.env 0=.p (.int .i64 n')∧getE st.env 1=.p (.int .i64 (d':Nat))∧st.heap=[]) ?_ ?_
 · have w1:IntKind.i64.wrap (-n) = -n:=wi64 _ (by omega) (by omega);have w2:IntKind.i64.wrap (-d) = -d:=wi64 _ (by omega) (by omega)
   by_cases h:d<0
   · simp [h,w1,w2,a1,a2,a3,a4];refine ⟨-n,d.natAbs,by omega,by omega,by omega,?_,rfl,?_⟩
     · rw [Int.ofNat_natAbs_of_nonpos (by omega)]; exact Rat.neg_divInt_neg _ _
     · rw [Int.ofNat_natAbs_of_nonpos (by omega)]
   · have hdn:((d.natAbs:Nat):Int)=d:=Int.natAbs_of_nonneg (by omega);simp [h,a1,a2,a3,a4];exact ⟨n,d.natAbs,by omega,by omega,by omega,by rw [hdn],rfl,by rw [hdn]⟩
 rintro ⟨env',heap'⟩ ⟨n',d',k1,k2,k3,k4,x0,x1,hpp⟩;dsimp only at x0 x1 hpp;subst hpp;rw [← k4,show dvI n' d'=Rat.divInt n' d' from rfl];clear k4 hn hdl hd a1 a2 a3 a4;obtain ⟨e1',e2'⟩:=abf (n:=n') (show d'≠0 by omega);obtain ⟨g,hg⟩:∃ g,Nat.gcd n'.natAbs d'=g:=⟨_,rfl⟩
 have hg0:0<g:=by rw [← hg]; exact Nat.gcd_pos_of_pos_right _ k1
 rw [hg] at e1' e2';have hC:=c_gcd n'.natAbs d' (by omega) (by omega);rw [hg] at hC;have hmax:(if n' < -n' then -n' else n')=(n'.natAbs:Nat):=by split <;> omega
 have w1:IntKind.i64.wrap (-n') = -n':=wi64 _ (by omega) (by omega);have td1:n'.tdiv g=(Rat.divInt n' d').num:=by rw [e1',aqo hg0 (by rw [← hg]; exact Nat.gcd_dvd_left _ _)]
 have td2:(d':Int).tdiv g=(d' / g:Nat):=by rw [Int.tdiv_eq_ediv_of_nonneg (Int.natCast_nonneg _),Int.natCast_ediv]
 have hnl:(Rat.divInt n' d').num.natAbs≤4000000000000000000:=by
  have hdv:(g:Int) ∣ n':=by rw [← hg]; exact Int.ofNat_dvd_left.2 (Nat.gcd_dvd_left _ _)
  obtain ⟨c,hc⟩:=hdv;have hgz:(g:Int)≠0:=by omega
  rw [e1',hc,Int.mul_ediv_cancel_left _ hgz];rw [hc,Int.natAbs_mul,Int.natAbs_natCast] at k2;exact Nat.le_trans (Nat.le_mul_of_pos_left _ hg0) k2
 have hdl':d' / g≤4000000000000000000:=Nat.le_trans (Nat.div_le_self _ _) k3;have hq0:0<d' / g:=by
  refine Nat.div_pos ?_ hg0;rw [← hg]; exact Nat.gcd_le_right _ k1
 have hres:txQ (Rat.divInt n' d')=if d' / g=1 then txI (Rat.divInt n' d').num else txI (Rat.divInt n' d').num ++ 47::txN (d' / g):=by rw [txQ,e2']
 rw [hres];clear hres e1' e2';generalize (Rat.divInt n' d').num=nn at *;generalize hqq:d' / g=q at *;have hgn:¬ g=0:=by omega
 have hT1:=afN nn.natAbs 1 (by omega) (by decide);have hT2:=afN q 1 (by omega) (by decide);have hl1:(txN nn.natAbs).length≤19:=adk (Nat.lt_of_le_of_lt hnl (by decide)) (by decide);have hl2:(txN q).length≤19:=adk (Nat.lt_of_le_of_lt hdl' (by decide)) (by decide);rw [show low (max 1 (nd nn.natAbs)) nn.natAbs=txN nn.natAbs from rfl] at hT1;rw [show low (max 1 (nd q)) q=txN q from rfl] at hT2;have hmax2:(if nn < -nn then -nn else nn)=(nn.natAbs:Nat):=by split <;> omega
 have w2:IntKind.i64.wrap (-nn) = -nn:=wi64 _ (by omega) (by omega);have w3:IntKind.i64.wrap nn=nn:=wi64 _ (by omega) (by omega);have w4:IntKind.i64.wrap (q:Int)=q:=wi64 _ (by omega) (by omega);simp [x0,x1,w1,hmax];refine c2 hC ?_;have hq1:(1:Int)<q↔¬ q=1:=by omega
 have hw1:IntKind.i64.wrap 1=1:=rfl;have hlt0:(txN nn.natAbs).length<9223372036854775808:=by omega
 by_cases hneg:nn<0
 · have hti:txI nn=45::txN nn.natAbs:=by rw [txI,if_pos hneg]
   rw [hti];have hmn:nn < -nn:=by omega
   have hab:-nn=(nn.natAbs:Nat):=by omega
   by_cases h1:q=1
   · simp [x0,x1,hgn,td1,td2,w3,w4,hneg,w2,hmn,h1];rw [hab];refine c2 hT1 ?_;simp [h1,hw1];omega
   · have h1I:=hq1.2 h1;simp [x0,x1,hgn,td1,td2,w3,w4,hneg,w2,hmn,h1,h1I];rw [hab];refine c2 hT1 ?_;simp [h1,h1I];refine ⟨by omega,by omega,?_⟩;refine c2 hT2 ?_;simp;omega
 · have hti:txI nn=txN nn.natAbs:=by rw [txI,if_neg hneg]
   rw [hti];have hab:nn=(nn.natAbs:Nat):=by omega
   have hmn:¬ nn < -nn:=by omega
   by_cases h1:q=1
   · simp [x0,x1,hgn,td1,td2,w3,w4,hneg,w2,hmn,h1];rw [show PV.int .i64 nn=.int .i64 (nn.natAbs:Nat) by rw [← hab]];refine c2 hT1 ?_;simp [h1,hw1];omega
   · have h1I:=hq1.2 h1;simp [x0,x1,hgn,td1,td2,w3,w4,hneg,w2,hmn,h1,h1I];rw [show PV.int .i64 nn=.int .i64 (nn.natAbs:Nat) by rw [← hab]];refine c2 hT1 ?_;simp [h1,h1I];refine ⟨by omega,by omega,?_⟩;refine c2 hT2 ?_;simp;omega
theorem aq9 (n:Int) (h0:-9223372036854775808≤n) (h1:n≤9223372036854775807):aab Tryz.prog 51 [.int .i64 n] (.str (txQ (n:Rat))):=by
 have hw:=auf n h0 h1;have ht:=aoc n (by
  have h2 : n.natAbs < bT ^ 3 := by have : bT ^ 3 = 1000000000000000000000000000 := by decide
                                    omega
  have:=aak bT2 3 _ h2;omega)
 have hq:txQ (n:Rat)=txI n:=by rw [txQ,if_pos (Rat.den_intCast n),Rat.num_intCast]
 rw [hq];refine aad nf isF51 mix (by simp [Tryz.f51]) ?_;simp [Tryz.f51];refine c1 hw ?_;simp;refine c1 ht ?_;simp
theorem c_quick (s : List Nat) (h1 : (numP s).all isD = true) (h2 : (denP s).all isD = true) (hl : s.length ≤ 1000000) :
    ∃ (n d:Int) (b:Bool),aab Tryz.prog 147 [.str s] (.tup [.int .i64 n,.int .i64 d,.bool b])∧(b=true→n=numZ s∧d=(denZ s:Nat)∧n.natAbs<1000000000∧denZ s<1000000000):=by
 by_cases h20:20<s.length
 · refine ⟨0,0,false,?_,fun h=>by cases h⟩;refine aad nf atl mix (by simp [Tryz.f147]) ?_;have h20I:(20:Int)<s.length:=by omega
   simp [Tryz.f147,h20I]
 obtain ⟨d,hdd⟩:∃ d,absT s=d:=⟨_,rfl⟩
 obtain ⟨neg,hneg⟩:∃ neg,negT s=neg:=⟨_,rfl⟩
 have hdl:d.length≤s.length:=by rw [← hdd]; exact (ac4 s).1
 have hsl:=aiK d (by omega);have hnum:(cutN 47 d).1=numP s:=by rw [← hdd]; rfl
 have hden:(cutN 47 d).2.1=denP s:=by rw [← hdd]; rfl
 have hfr:(cutN 47 d).2.2=frT s:=by rw [← hdd]; rfl
 have hcut:=aet 47 d;rw [hnum,hden,hfr] at hcut;rw [hnum] at hsl;obtain ⟨k,hk⟩:∃ k,(numP s).length=k:=⟨_,rfl⟩
 rw [hk] at hsl;have hkd:k≤d.length:=by rw [← hk,← hnum]; exact (aeJ 47 d).1
 have h20I:¬ (20:Int)<s.length:=by omega
 obtain ⟨b,hb⟩:∃ b:Bool,b=(decide (k≤9) && decide (d.length - k≤10)):=⟨_,rfl⟩
 have hbnd:b=true→(numZ s).natAbs<1000000000∧denZ s<1000000000:=fun h=>by
  rw [hb] at h;simp only [Bool.and_eq_true,decide_eq_true_eq] at h;have hvb:=aaJ _ (numP s) rfl h1;rw [hk] at hvb;have hvb2:valT (numP s) < 1000000000:=Nat.lt_of_lt_of_le hvb (Nat.pow_le_pow_right (n:=10) (by decide) h.1);refine ⟨by rw [numZ]; split <;> omega,?_⟩;rcases hcut with ⟨q1,q2⟩ | ⟨q1,q2,q3⟩
  · have h3:(denP s).length≤9:=by
     have:=congrArg List.length q2;simp at this; omega
    have h4:=aaJ _ (denP s) rfl h2;rw [denZ,if_pos q1];exact Nat.lt_of_lt_of_le h4 (Nat.pow_le_pow_right (n:=10) (by decide) h3)
  · rw [denZ,q1,if_neg (by decide)]; decide
 refine ⟨if b=true then numZ s else 0,if b=true then (denZ s:Nat) else 0,b,?_,fun h=>⟨if_pos h,if_pos h,by rw [if_pos h]; exact (hbnd h).1,(hbnd h).2⟩⟩;refine aad nf atl mix (by simp [Tryz.f147]) ?_;simp [Tryz.f147,-aai];rw [aai];simp [-aai];rw [aai];simp [-aai];rw [aai,aai];simp [h20I,-aai];refine join (fun st=>getE st.env 5=.p (.str s)∧getE st.env 6=.p (.bool neg)∧st.heap=[]) ?_ ?_
 · clear h20 h20I;cases s with
   | nil=>simp [← hneg,negT]
   | cons c r =>
    by_cases hc:c=45
    · simp [← hneg,negT,hc]
    · have hcI:¬ (c:Int)=45:=by omega
      simp [← hneg,negT,hc,hcI]
 rintro ⟨env',heap'⟩ ⟨x5,x6,hpp⟩;dsimp only at x5 x6 hpp;subst hpp;refine join (fun st=>getE st.env 5=.p (.str d)∧getE st.env 6=.p (.bool neg)∧st.heap=[]) ?_ ?_
 · cases hn:neg with
   | false =>
    have hsd:s=d:=by rw [← hdd,absT,hneg,hn]; rfl
    simp [x5,x6,hn,hsd]
   | true =>
    clear hsl hcut hk hden hnum hfr h20 h20I hb;cases s with
    | nil=>simp [negT] at hneg; rw [hn] at hneg; cases hneg
    | cons c r =>
     have hsd:r=d:=by rw [← hdd,absT,hneg,hn]; rfl
     simp [x5,x6,hn,hsd]
 clear x5 x6;rintro ⟨env',heap'⟩ ⟨x5,x6,hpp⟩;dsimp only at x5 x6 hpp;subst hpp;have wk:IntKind.i64.wrap ((k:Int)+1)=(k:Int)+1:=wi64 _ (by omega) (by omega);have wdk:IntKind.i64.wrap ((d.length:Int) - k)=(d.length:Int) - k:=wi64 _ (by omega) (by omega);have tk:((k:Int)+1).toNat=k+1:=by omega
 have nz:numZ s=if neg=true then -(valT (numP s):Int) else valT (numP s):=by rw [numZ,hneg]
 rw [nz];rcases Nat.lt_or_ge 9 k with h9 | h9
 · have h9':¬ k≤9:=by omega
   have h9I:(9:Int)<k:=by omega
   have hbf:b=false:=by rw [hb]; simp [h9']
   simp [x5,x6];refine c1 hsl ?_;simp [x5,x6,h9I,hbf]
 rcases Nat.lt_or_ge 10 (d.length - k) with h10 | h10
 · have h10':¬ d.length - k≤10:=by omega
   have h9I:¬ (9:Int)<k:=by omega
   have h10I:(10:Int)<(d.length:Int) - k:=by omega
   have hbf:b=false:=by rw [hb]; simp [h10']
   simp [x5,x6];refine c1 hsl ?_;simp [x5,x6,h9I,h10I,wdk,hbf]
 have h9I:¬ (9:Int)<k:=by omega
 have h10I:¬ (10:Int)<(d.length:Int) - k:=by omega
 have hbt:b=true:=by rw [hb]; simp [h9,h10]
 have ht:d.take k=numP s:=by
  rcases hcut with ⟨_,q2⟩ | ⟨_,q2,_⟩
  · rw [q2,← hk]; simp
  · rw [← q2,← hk]; simp
 have hV1:=akK (numP s) h1 (by omega);have hvb:=aaJ _ (numP s) rfl h1;rw [hk] at hvb;have hvb2:valT (numP s)<1000000000:=Nat.lt_of_lt_of_le hvb (Nat.pow_le_pow_right (n:=10) (by decide) h9);rcases hcut with ⟨q1,q2⟩ | ⟨q1,q2,q3⟩
 · have hkd2:k<d.length:=by rw [q2]; simp; omega
   have hdr:d.drop (k+1)=denP s:=by
    conv=>lhs; rw [q2,← hk]
    simp
   have hdpl:(denP s).length≤9:=by rw [← hdr,List.length_drop]; omega
   have hV2:=akK (denP s) h2 (by omega);have dz:denZ s=valT (denP s):=by rw [denZ,if_pos q1]
   rw [dz];generalize valT (denP s)=vd at *;generalize valT (numP s)=vn at *;have wvn:IntKind.i64.wrap (-(vn:Int)) = -(vn:Int):=wi64 _ (by omega) (by omega);clear q2;simp [x5,x6];refine c1 hsl ?_;have a1:(0:Int)≤k+1:=by omega
   have hk1:k+1≤d.length:=hkd2;have a2:(k:Int)+1≤d.length:=by omega
   simp [x5,x6,h9I,h10I,wdk,hbt,hkd,ht];refine c1 hV1 ?_;cases neg <;>
   · simp [x5,x6,hkd2,hk1,wk,tk,hdr,a1,a2];refine c1 hV2 ?_;simp [x6,wvn,hbt]
 · have hkd2:¬ k<d.length:=by rw [← q2,hk]; omega
   have dz:denZ s=1:=by rw [denZ,q1]; rfl
   rw [dz];generalize valT (numP s)=vn at *;have wvn:IntKind.i64.wrap (-(vn:Int)) = -(vn:Int):=wi64 _ (by omega) (by omega);simp [x5,x6];refine c1 hsl ?_;simp [x5,x6,h9I,h10I,wdk,hbt,hkd,ht];refine c1 hV1 ?_;cases neg <;> simp [x5,x6,hkd2,wvn,hbt]
theorem ah7 {n k:Nat} (h:n<2 ^ k):(dig bT n).length≤k / 29+1:=by
 refine aak bT2 _ _ (Nat.lt_of_lt_of_le h ?_);have h1:2 ^ 29≤bT:=by decide
 refine Nat.le_trans ?_ (Nat.pow_le_pow_left h1 _);rw [← Nat.pow_mul];exact Nat.pow_le_pow_right (by decide) (by omega)
theorem asX (q:Rat):numZ (txQ q)=q.num:=by
 obtain ⟨h1,h2,_,_⟩:=afk q;rw [numZ,h1,h2,agW]
 by_cases h:q.num<0
 · rw [if_pos (by simpa using h)]; omega
 · rw [if_neg (by simpa using h)]; omega
theorem atM (q:Rat):denZ (txQ q)=q.den:=by
 obtain ⟨_,_,h3,h4⟩:=afk q;rw [denZ,h3,h4]
 by_cases h:q.den=1
 · rw [if_neg (by simpa using h),h]
 · rw [if_pos (by simpa using h),if_neg h,agW]
theorem tx_D (q:Rat):(numP (txQ q)).all isD=true∧(denP (txQ q)).all isD=true:=by
 obtain ⟨_,h2,_,h4⟩:=afk q;refine ⟨by rw [h2]; exact amS _,?_⟩;rw [h4]; split
 · rfl
 · exact amS _
theorem adz {q:Rat} (h:okR kB q):(txQ q).length≤1000000:=by
 have h1:(txN q.num.natAbs).length≤33334:=azg (K:=kB) (k:=33334) h.1 (by decide) (by decide);have h2:(txN q.den).length≤33334:=azg (K:=kB) (k:=33334) h.2 (by decide) (by decide);have:=aAj q;omega
theorem ahb (q:Rat) (h:okR kB q):∃ (n d:Int) (b:Bool),aab Tryz.prog 147 [.str (txQ q)] (.tup [.int .i64 n,.int .i64 d,.bool b])∧(b=true→n=q.num∧d=(q.den:Nat)∧n.natAbs<1000000000∧q.den<1000000000):=by
 have:=c_quick (txQ q) (tx_D q).1 (tx_D q).2 (adz h)
 rwa [asX,atM] at this
theorem afM (q:Rat) (h:okR kB q):aab Tryz.prog 148 [.str (txQ q)] (.tup [eG q.num,eG (q.den:Nat)]):=by
 have:=apX (txQ q) (tx_D q).1 (tx_D q).2 (adz h)
 rwa [asX,atM] at this
theorem dvI_add (a b:Rat):dvI (a.num*b.den+b.num*a.den) (a.den*b.den)=a+b:=by
 rw [Rat.add_def']; rfl
theorem dvI_mul (a b:Rat):dvI (a.num*b.num) (a.den*b.den)=a*b:=by
 rw [Rat.mul_def,Rat.normalize_eq_mkRat]; rfl
theorem ayW (a b:Rat):((a.den:Nat):Int)*(b.den:Nat)≠0:=by
 have h1:=a.den_pos;have h2:=b.den_pos;exact Int.ne_of_gt (Int.mul_pos (by omega) (by omega))
theorem as1 {x y:Int} (hx:x.natAbs<1000000000) (hy:y.natAbs<1000000000):(x*y).natAbs≤999999998000000001:=by
 rw [Int.natAbs_mul];exact Nat.mul_le_mul (show x.natAbs≤999999999 by omega) (show y.natAbs≤999999999 by omega)
theorem afA {x y:Int} (hx:x.natAbs<2 ^ kB) (hy:y.natAbs<2 ^ kB):(dig bT (x*y).natAbs).length≤10000:=by
 have h:=ah7 (n:=(x*y).natAbs) (k:=kB+kB) (by rw [Int.natAbs_mul,Nat.pow_add]; exact Nat.mul_lt_mul'' hx hy);exact Nat.le_trans h (by decide)
theorem ad8 {x:Nat} (hx:x<2 ^ kB):(dig bT x).length≤10000:=Nat.le_trans (ah7 hx) (by decide)
theorem azc (a b:Rat) (ha:okR kB a) (hb:okR kB b):aab Tryz.prog 146 [.str (txQ a),.str (txQ b)] (.str (txQ (a+b))):=by
 obtain ⟨n,d,p,hq1,hp1⟩:=ahb a ha;obtain ⟨m,e,r,hq2,hp2⟩:=ahb b hb;have hP1:=afM a ha;have hP2:=afM b hb;refine aad nf ayF mix (by simp [Tryz.f146]) ?_;rw [← dvI_add];have hdn:=ayW a b
 by_cases hpr:p=true∧r=true
 · obtain ⟨rfl,rfl,k1,k2⟩:=hp1 hpr.1;obtain ⟨rfl,rfl,k3,k4⟩:=hp2 hpr.2;have m1:=as1 k1 (show ((b.den:Nat):Int).natAbs<1000000000 by rw [Int.natAbs_natCast]; exact k4);have m2:=as1 k3 (show ((a.den:Nat):Int).natAbs<1000000000 by rw [Int.natAbs_natCast]; exact k2);have m3:=as1 (show ((a.den:Nat):Int).natAbs<1000000000 by rw [Int.natAbs_natCast]; exact k2) (show ((b.den:Nat):Int).natAbs<1000000000 by rw [Int.natAbs_natCast]; exact k4);have hO:=c_OfR (a.num*b.den+b.num*a.den) (a.den*b.den) hdn (by omega) (by omega);have w1:IntKind.i64.wrap (a.num*(b.den:Nat))=a.num*(b.den:Nat):=wi64 _ (by omega) (by omega);have w2:IntKind.i64.wrap (b.num*(a.den:Nat))=b.num*(a.den:Nat):=wi64 _ (by omega) (by omega);have w3:IntKind.i64.wrap (a.num*(b.den:Nat)+b.num*(a.den:Nat))=a.num*(b.den:Nat)+b.num*(a.den:Nat):=wi64 _ (by omega) (by omega);have w4:IntKind.i64.wrap (((a.den:Nat):Int)*(b.den:Nat))=((a.den:Nat):Int)*(b.den:Nat):=wi64 _ (by omega) (by omega);have hp:p=true:=hpr.1;have hr:r=true:=hpr.2;simp [Tryz.f146];refine c1 hq1 ?_;simp;refine c1 hq2 ?_;simp [hp,hr,w1,w2,w3,w4];refine c2 hO ?_;simp
 · have hA:a.num.natAbs<2 ^ kB:=ha.1;have hB:b.num.natAbs<2 ^ kB:=hb.1;have hAd:((a.den:Nat):Int).natAbs<2 ^ kB:=by rw [Int.natAbs_natCast]; exact ha.2
   have hBd:((b.den:Nat):Int).natAbs<2 ^ kB:=by rw [Int.natAbs_natCast]; exact hb.2
   have hT1:=aiJ a.num (b.den:Nat) (by have:=ad8 hA; have:=ad8 hBd; omega);have hT2:=aiJ b.num (a.den:Nat) (by have:=ad8 hB; have:=ad8 hAd; omega);have hT3:=aiJ (a.den:Nat) (b.den:Nat) (by have:=ad8 hAd; have:=ad8 hBd; omega);have l1:=afA hA hBd;have l2:=afA hB hAd;have l3:=afA hAd hBd;have hS:=c_plus (a.num*(b.den:Nat)) (b.num*(a.den:Nat)) (by omega) (by omega);have l4:(dig bT (a.num*(b.den:Nat)+b.num*(a.den:Nat)).natAbs).length≤400000:=by
    refine Nat.le_trans (ah7 (k:=kB+kB+1) ?_) (by decide);have q1:(a.num*(b.den:Nat)).natAbs<2 ^ (kB+kB):=by rw [Int.natAbs_mul,Nat.pow_add]; exact Nat.mul_lt_mul'' hA hBd
    have q2:(b.num*(a.den:Nat)).natAbs<2 ^ (kB+kB):=by rw [Int.natAbs_mul,Nat.pow_add]; exact Nat.mul_lt_mul'' hB hAd
    rw [Nat.pow_succ];omega
   have hF:=ags (a.num*(b.den:Nat)+b.num*(a.den:Nat)) ((a.den:Nat)*(b.den:Nat)) hdn l4 (by omega);simp [Tryz.f146];refine c1 hq1 ?_;simp;refine c1 hq2 ?_;have hcs:(p=false)∨(p=true∧r=false):=by cases p <;> cases r <;> simp_all
   rcases hcs with hp | ⟨hp,hr⟩
   · simp [hp];refine c1 hP1 ?_;simp [shpA];refine c1 hP2 ?_;simp [shpA];refine e2 hT1 ?_;simp [shpA];refine e2 hT2 ?_;simp [shpA];refine e2 hS ?_;simp [shpA];refine e2 hT3 ?_;simp [shpA];refine e2 hF ?_;simp
   · simp [hp,hr];refine c1 hP1 ?_;simp [shpA];refine c1 hP2 ?_;simp [shpA];refine e2 hT1 ?_;simp [shpA];refine e2 hT2 ?_;simp [shpA];refine e2 hS ?_;simp [shpA];refine e2 hT3 ?_;simp [shpA];refine e2 hF ?_;simp
theorem amG (a b:Rat) (ha:okR kB a) (hb:okR kB b):aab Tryz.prog 50 [.str (txQ a),.str (txQ b)] (.str (txQ (a*b))):=by
 obtain ⟨n,d,p,hq1,hp1⟩:=ahb a ha;obtain ⟨m,e,r,hq2,hp2⟩:=ahb b hb;have hP1:=afM a ha;have hP2:=afM b hb;refine aad nf isF50 mix (by simp [Tryz.f50]) ?_;rw [← dvI_mul];have hdn:=ayW a b
 by_cases hpr:p=true∧r=true
 · obtain ⟨rfl,rfl,k1,k2⟩:=hp1 hpr.1;obtain ⟨rfl,rfl,k3,k4⟩:=hp2 hpr.2;have m1:=as1 k1 k3;have m3:=as1 (show ((a.den:Nat):Int).natAbs<1000000000 by rw [Int.natAbs_natCast]; exact k2) (show ((b.den:Nat):Int).natAbs<1000000000 by rw [Int.natAbs_natCast]; exact k4);have hO:=c_OfR (a.num*b.num) (a.den*b.den) hdn (by omega) (by omega);have w1:IntKind.i64.wrap (a.num*b.num)=a.num*b.num:=wi64 _ (by omega) (by omega);have w4:IntKind.i64.wrap (((a.den:Nat):Int)*(b.den:Nat))=((a.den:Nat):Int)*(b.den:Nat):=wi64 _ (by omega) (by omega);have hp:p=true:=hpr.1;have hr:r=true:=hpr.2;simp [Tryz.f50];refine c1 hq1 ?_;simp;refine c1 hq2 ?_;simp [hp,hr,w1,w4];refine c2 hO ?_;simp
 · have hA:a.num.natAbs<2 ^ kB:=ha.1;have hB:b.num.natAbs<2 ^ kB:=hb.1;have hAd:((a.den:Nat):Int).natAbs<2 ^ kB:=by rw [Int.natAbs_natCast]; exact ha.2
   have hBd:((b.den:Nat):Int).natAbs<2 ^ kB:=by rw [Int.natAbs_natCast]; exact hb.2
   have hT1:=aiJ a.num b.num (by have:=ad8 hA; have:=ad8 hB; omega);have hT3:=aiJ (a.den:Nat) (b.den:Nat) (by have:=ad8 hAd; have:=ad8 hBd; omega);have l1:=afA hA hB;have l3:=afA hAd hBd;have hF:=ags (a.num*b.num) ((a.den:Nat)*(b.den:Nat)) hdn (by omega) (by omega);simp [Tryz.f50];refine c1 hq1 ?_;simp;refine c1 hq2 ?_;have hcs:(p=false)∨(p=true∧r=false):=by cases p <;> cases r <;> simp_all
   rcases hcs with hp | ⟨hp,hr⟩
   · simp [hp];refine c1 hP1 ?_;simp [shpA];refine c1 hP2 ?_;simp [shpA];refine e2 hT1 ?_;simp [shpA];refine e2 hT3 ?_;simp [shpA];refine e2 hF ?_;simp
   · simp [hp,hr];refine c1 hP1 ?_;simp [shpA];refine c1 hP2 ?_;simp [shpA];refine e2 hT1 ?_;simp [shpA];refine e2 hT3 ?_;simp [shpA];refine e2 hF ?_;simp
theorem inv_dvI {a:Rat} (h:a≠0):dvI (a.den:Nat) a.num=a⁻¹:=by
 rw [Rat.inv_def]; rfl
theorem axk {a:Rat} (h:a≠0):a.num≠0:=fun e=>h (Rat.num_eq_zero.1 e)
theorem afQ (a:Rat) (ha:okR kB a) (h0:a≠0):aab Tryz.prog 96 [.str (txQ a)] (.str (txQ a⁻¹)):=by
 have hP1:=afM a ha;have hA:a.num.natAbs<2 ^ kB:=ha.1;have hAd:((a.den:Nat):Int).natAbs<2 ^ kB:=by rw [Int.natAbs_natCast]; exact ha.2
 have hF:=ags ((a.den:Nat):Int) a.num (axk h0) (by have:=ad8 hAd; omega) (by have:=ad8 hA; omega);rw [inv_dvI h0] at hF;refine aad nf isF96 mix (by simp [Tryz.f96]) ?_;simp [Tryz.f96];refine c1 hP1 ?_;simp [shpA];refine c2 hF ?_;simp
theorem c_DivR (a b:Rat) (ha:okR kB a) (hb:okR kB b) (h0:b≠0):aab Tryz.prog 94 [.str (txQ a),.str (txQ b)] (.str (txQ (a / b))):=by
 have hR:=afQ b hb h0;have hM:=amG a b⁻¹ ha (ae9 hb);rw [← Rat.div_def] at hM;refine aad nf isF94 mix (by simp [Tryz.f94]) ?_;simp [Tryz.f94];refine c1 hR ?_;simp;refine c2 hM ?_;simp
theorem auw (s:List Nat) (hl:s.length≤1048576):aab Tryz.prog 115 [.str s] (.int .i64 (if s=[48] then 0 else if negT s=true then -1 else 1)):=by
 refine aad nf ayK mix (by simp [Tryz.f115]) ?_
 by_cases h0:s=[48]
 · simp [Tryz.f115,h0]
 · cases s with
   | nil=>simp [Tryz.f115,negT]
   | cons c r =>
    by_cases hc:c=45
    · simp [Tryz.f115,negT,hc]
    · have hcI:¬ (c:Int)=45:=by omega
      have h0':¬ (c=48∧r=[]):=fun h=>h0 (by rw [h.1,h.2])
      by_cases h48:c=48
      · have hr:¬ r=[]:=fun h=>h0' ⟨h48,h⟩;simp [Tryz.f115,negT,h48,hr]
      · simp [Tryz.f115,negT,hc,hcI,h48]
theorem ag0 (q:Rat):q.num<0↔q<0:=by
 have h:=asW q
 by_cases h1:q<0
 · rw [if_pos h1] at h;refine ⟨fun _=>h1,fun _=>?_⟩
   by_cases h2:q.num<0
   · exact h2
   · rw [if_neg h2] at h; split at h <;> omega
 · refine ⟨fun h2=>?_,fun h2=>(h1 h2).elim⟩;rw [if_neg h1,if_pos h2] at h
   split at h <;> omega
def sgQ (q:Rat):Int:=if q<0 then -1 else if q=0 then 0 else 1
theorem ahl:txQ 0=[48]:=by
 have h:txI 0=[48]:=by rw [show (0:Int)=((0:Nat):Int) from rfl,adl,adA]
 rw [txQ,if_pos (show (0:Rat).den=1 from rfl)]; exact h
theorem ahk (q:Rat):txQ q=[48]↔q=0:=by
 rw [← ahl];exact ⟨fun h=>aAa h,fun h=>by rw [h]⟩
theorem sg_tx (q:Rat):(if txQ q=[48] then (0:Int) else if negT (txQ q)=true then -1 else 1)=sgQ q:=by
 have h1:=(afk q).1;have h2:=ahk q;have h3:q<0↔q.num<0:=(ag0 q).symm;rw [h1,sgQ]
 by_cases hz:q=0
 · subst hz;rw [if_pos (h2.2 rfl),if_neg (by decide),if_pos rfl]
 · rw [if_neg (fun h=>hz (h2.1 h))]
   by_cases hn:q<0
   · rw [if_pos (by simpa using h3.1 hn),if_pos hn]
   · rw [if_neg (by simpa using fun h=>hn (h3.2 h)),if_neg hn,if_neg hz]
theorem akQ (q:Rat) (h:okR kB q):aab Tryz.prog 115 [.str (txQ q)] (.int .i64 (sgQ q)):=by
 have:=auw (txQ q) (by have:=adz h; omega)
 rwa [sg_tx] at this
theorem aw1 {q:Rat} (h:q<0):txQ q=45::txQ (-q):=by
 have h3:q.num<0:=(ag0 q).2 h;have e1:txI q.num=45::txN q.num.natAbs:=by rw [txI,if_pos h3]
 have e2:txI (-q).num=txN q.num.natAbs:=by rw [Rat.neg_num,txI,if_neg (by omega),Int.natAbs_neg]
 rw [txQ,txQ,Rat.neg_den,e1,e2]
 split <;> rfl
theorem auy (q:Rat) (h:okR kB q):aab Tryz.prog 56 [.str (txQ q)] (.str (txQ (-q))):=by
 have hS:=akQ q h;have hsh:=adz h;refine aad nf isF56 mix (by simp [Tryz.f56]) ?_
 by_cases hn:q<0
 · have hs:sgQ q = -1:=by rw [sgQ,if_pos hn]
   rw [hs] at hS;have ht:=aw1 hn;rw [ht] at hS hsh ⊢;simp [Tryz.f56];refine c1 hS ?_;simp
 · by_cases hz:q=0
   · have hs:sgQ q=0:=by rw [sgQ,if_neg hn,if_pos hz]
     rw [hs] at hS;have hq:-q=q:=by rw [hz]; rfl
     rw [hq];simp [Tryz.f56];refine c1 hS ?_;simp;refine c1 hS ?_;simp
   · have hs:sgQ q=1:=by rw [sgQ,if_neg hn,if_neg hz]
     rw [hs] at hS;have hpos:-q<0:=by
      rw [← ag0,Rat.neg_num];have h1:¬ q.num<0:=fun h=>hn ((ag0 q).1 h);have h2:=axk hz;omega
     have ht:=aw1 hpos;rw [Rat.neg_neg] at ht;rw [ht];have hlt:(txQ q).length+1<9223372036854775808:=by omega
     simp [Tryz.f56];refine c1 hS ?_;simp;refine c1 hS ?_;simp;omega
theorem amF (a b:Rat) (ha:okR kB a) (hb:okR kB b):aab Tryz.prog 53 [.str (txQ a),.str (txQ b)] (.str (txQ (a - b))):=by
 have hN:=auy b hb;have hA:=azc a (-b) ha (ahV hb);rw [← Rat.sub_eq_add_neg] at hA;refine aad nf isF53 mix (by simp [Tryz.f53]) ?_;simp [Tryz.f53];refine c1 hN ?_;simp;refine c2 hA ?_;simp
theorem sg_sub (a b:Rat):sgQ (a - b)=ordQ a b:=by
 have h1:a - b<0↔a<b:=by
  rw [← Rat.not_le,← Rat.not_le,← Rat.le_iff_sub_nonneg]
 have h2:a - b=0↔a=b:=by
  constructor
  · intro h;have h5:a - b+b=0+b:=by rw [h]
    rwa [Rat.sub_add_cancel,Rat.zero_add] at h5
  · rintro rfl; exact Rat.sub_self
 rw [sgQ,ordQ]
 by_cases h:a<b
 · rw [if_pos (h1.2 h),if_pos h]
 · rw [if_neg (fun x=>h (h1.1 x)),if_neg h]
   by_cases hz:a=b
   · rw [if_pos (h2.2 hz),if_pos hz]
   · rw [if_neg (fun x=>hz (h2.1 x)),if_neg hz]
theorem c_CmpR (a b:Rat) (ha:okR (kB / 3) a) (hb:okR (kB / 3) b):aab Tryz.prog 90 [.str (txQ a),.str (txQ b)] (.int .i64 (ordQ a b)):=by
 have hS:=amF a b (ha.mono (by decide)) (hb.mono (by decide));have hG:=akQ (a - b) ((adL ha hb).mono (by decide));rw [sg_sub] at hG;refine aad nf isF90 mix (by simp [Tryz.f90]) ?_;simp [Tryz.f90];refine c2 hS ?_;simp;refine c1 hG ?_;simp
theorem azi {a b:Nat} (h:a≤b):10 ^ a≤10 ^ b:=Nat.pow_le_pow_right (by decide) h
theorem azh {s:List Nat} {k:Nat} (h:s.length≤k) (hd:s.all isD=true):valT s<10 ^ k:=Nat.lt_of_lt_of_le (aaJ _ s rfl hd) (azi h)
theorem p10_len {x a b:Nat} (hx:x<10 ^ a) (h:a≤9*b):(dig bT x).length≤b:=aak bT2 b x (Nat.lt_of_lt_of_le hx (by
 rw [show bT ^ b=10 ^ (9*b) by rw [Nat.pow_mul]; rfl];exact azi h))
theorem awG (s:List Nat) (hl:s.length≤1048576):aab Tryz.prog 314 [.str s] (.bool (s.all isD)):=by
 refine aad nf axE mix (by simp [Tryz.f314]) ?_;obtain ⟨k,hk,hall,hend⟩:=aim (fun j=>isD (s[j]?.getD 0)) s.length;have hget:∀ j (h:j<s.length),s[j]?.getD 0=s[j]:=fun j h=>by rw [List.getElem?_eq_getElem h]; rfl
 have hres:s.all isD=decide (k=s.length):=by
  rcases hend with h | ⟨h1,h2⟩
  · rw [h,decide_eq_true rfl,List.all_eq_true];intro x hx;obtain ⟨j,hj,rfl⟩:=List.getElem_of_mem hx;have:=hall j (by omega)
    rwa [hget j hj] at this
  · rw [decide_eq_false (by omega)];rw [hget k h1] at h2
    by_cases ha:s.all isD=true
    · have:=List.all_eq_true.1 ha _ (List.getElem_mem h1);rw [this] at h2; cases h2
    · simpa using ha
 rw [hres];simp [Tryz.f314];refine lp (α:=Nat) (fun i=>⟨[(3,.p (.int .i64 i)),(0,.p (.str s))],[]⟩)
  (fun i=>i≤k) (fun i=>k - i) 0 (Nat.zero_le _) ?_
 intro i hi;have w4:IntKind.i64.wrap ((i:Int)+1)=(i:Int)+1:=wi64 _ (by omega) (by omega)
 by_cases hik:i<k
 · have his:i<s.length:=by omega
   have hn:=hall i hik;rw [hget i his] at hn;have hr:=akr hn;generalize hci:s[i]=c at *;have hget2:s[i]?=some c:=by rw [List.getElem?_eq_getElem his,hci]
   have h1:¬ (c:Int)<48:=by omega
   have h2:¬ (57:Int)<c:=by omega
   have h1':¬ c<48:=by omega
   have h2':¬ 57<c:=by omega
   simp [his,hci,hget2,h1,h2,h1',h2',w4];exact rd (i+1) (show i+1≤k by omega)
 · have hik2:i=k:=by omega
   subst hik2;rcases hend with h | ⟨h1,h2⟩
   · simp [h]
   · rw [hget i h1] at h2;have hne:¬ i=s.length:=by omega
     generalize hci:s[i]=c at *;have hget2:s[i]?=some c:=by rw [List.getElem?_eq_getElem h1,hci]
     by_cases hc:c<48
     · have hcI:(c:Int)<48:=by omega
       simp [h1,hci,hget2,hc,hcI,hne]
     · have hc2:57<c:=by
        simp only [isD,Bool.and_eq_false_iff,decide_eq_false_iff_not] at h2;omega
       have hcI:¬ (c:Int)<48:=by omega
       have hc2I:(57:Int)<c:=by omega
       simp [h1,hci,hget2,hc,hcI,hc2,hc2I,hne]
theorem amE (s:List Nat) (hl:s.length≤1048576):aab Tryz.prog 259 [.str s] (.bool (abc s)):=by
 have hD:=awG s hl;refine aad nf axW mix (by simp [Tryz.f259]) ?_;cases s with
 | nil=>simp [Tryz.f259,abc]
 | cons c r =>
  have hcc:(c:Int)=48↔c=48:=by omega
  by_cases hr:r=[]
  · subst hr;have e:abc [c]=[c].all isD:=by
     rw [abc]
     by_cases h:c=48
     · subst h; rfl
     · simp [h]
    rw [e];simp [Tryz.f259];refine c1 hD ?_;simp
  · have hl0:0<r.length:=List.length_pos_iff.2 hr;have hz:¬ (r.length:Int)+1=0:=by omega
    have hz1:(1:Int)<r.length+1:=by omega
    by_cases hc:c=48
    · have e:abc (c::r)=false:=by rw [abc,hc]; simp [hr]
      rw [e];simp [Tryz.f259,hr,hc,hl0,hz,hz1]
    · have hcI:¬ (c:Int)=48:=by omega
      have e:abc (c::r)=(c::r).all isD:=by rw [abc]; simp [hc]
      rw [e];simp [Tryz.f259,hr,hc,hcI,hl0,hz,hz1];refine c1 hD ?_;simp
theorem ap4 (s:List Nat) (hs:okS s):aab Tryz.prog 174 [.str s] (.int .i64 (chk s)):=by
 refine aad nf ayn mix (by simp [Tryz.f174]) ?_;obtain ⟨hl,hb⟩:=hs;obtain ⟨d,hdd⟩:∃ d,absT s=d:=⟨_,rfl⟩
 obtain ⟨neg,hneg⟩:∃ neg,negT s=neg:=⟨_,rfl⟩
 have hdl:d.length≤s.length:=by rw [← hdd]; exact (ac4 s).1
 have hsl:=aiK d (by omega);have hnum:(cutN 47 d).1=numP s:=by rw [← hdd]; rfl
 have hden:(cutN 47 d).2.1=denP s:=by rw [← hdd]; rfl
 have hfr:(cutN 47 d).2.2=frT s:=by rw [← hdd]; rfl
 have hcut:=aet 47 d;have hcl:=aeJ 47 d;rw [hnum,hden,hfr] at hcut;rw [hnum] at hsl hcl;rw [hden] at hcl;obtain ⟨k,hk⟩:∃ k,(numP s).length=k:=⟨_,rfl⟩
 rw [hk] at hsl;have hkd:k≤d.length:=by rw [← hk]; exact hcl.1
 have ht:d.take k=numP s:=by
  rcases hcut with ⟨_,q2⟩ | ⟨_,q2,_⟩
  · rw [q2,← hk]; simp
  · rw [← q2,← hk]; simp
 have hF1:=amE (numP s) (by omega);have hF2:=amE (denP s) (by omega);simp [Tryz.f174,-aai];rw [aai];simp [-aai];rw [aai];simp [-aai];refine join (fun st=>getE st.env 0=.p (.str s)∧getE st.env 3=.p (.str d)∧st.heap=[]) ?_ ?_
 · cases hn:neg with
   | false =>
    have hsd:s=d:=by rw [← hdd,absT,hneg,hn]; rfl
    clear hsl hcut hk hden hnum hfr ht hF1 hF2 hcl hkd;subst hsd;cases s with
    | nil=>simp
    | cons c r =>
     rw [hn] at hneg;have hc:¬ c=45:=fun h=>by rw [h] at hneg; simp [negT] at hneg
     have hcI:¬ (c:Int)=45:=by omega
     simp [hc,hcI]
   | true =>
    clear hsl hcut hk hden hnum hfr ht hF1 hF2 hcl hkd;cases s with
    | nil=>simp [negT] at hneg; rw [hn] at hneg; cases hneg
    | cons c r =>
     have hsd:r=d:=by rw [← hdd,absT,hneg,hn]; rfl
     rw [hn] at hneg;have hc:c=45:=by simpa [negT] using hneg
     simp [hc,hsd]
 rintro ⟨env',heap'⟩ ⟨x0,x3,hpp⟩;dsimp only at x0 x3 hpp;subst hpp;have hform:ai7 s=(abc (numP s) && !(neg && decide (numP s=[48])) && (!frT s || (abc (denP s) && decide (denP s≠[48]) && decide (denP s≠[49])))):=by rw [ai7,hneg]
 have hd48:d.length≤1048576:=by omega
 have hPD:(numP s).all isD=true→(denP s).all isD=true→frT s=true→0<k→d.length≤1000000→aab Tryz.prog 148 [.str d] (.tup [eG (valT (numP s):Nat),eG (valT (denP s):Nat)]):=fun h1 h2 h3 hk0 hl9=>by
  have hdh:negT d=false∧absT d=d:=by
   have hng:negT d=false:=by
    rcases hcut with ⟨_,q2⟩ | ⟨q1,_⟩
    · cases hnp:numP s with
      | nil=>rw [hnp] at hk; simp at hk; omega
      | cons c r =>
       rw [hnp] at q2 h1;have:=akr (List.all_eq_true.1 h1 c (by simp));rw [q2,negT]; simp; omega
    · rw [h3] at q1; cases q1
   exact ⟨hng,by rw [absT,hng]; rfl⟩
  have e1:numP d=numP s:=by rw [numP,hdh.2,hnum]
  have e2:denP d=denP s:=by rw [denP,hdh.2,hden]
  have e3:frT d=true:=by rw [frT,hdh.2,hfr]; exact h3
  have:=apX d (by rw [e1]; exact h1) (by rw [e2]; exact h2) hl9;rw [numZ,denZ,e1,e2,hdh.1,if_pos e3] at this;exact this
 rw [chk];generalize ai7 s=fm at *;generalize numP s=np at *;generalize denP s=dp at *;generalize frT s=fr at *;have htk:List.take k d=np:=ht
 by_cases hA:abc np=true
 · have hk0:0<k:=by
    rw [← hk,List.length_pos_iff]; intro h; rw [h] at hA; cases hA
   obtain ⟨c,r,hs⟩:∃ c r,s=c::r:=by
    cases s with
    | nil => have : d.length ≤ 0 := by simpa using hdl
             omega
    | cons c r=>exact ⟨c,r,rfl⟩
   have hcn:c=45↔neg=true:=by rw [← hneg,hs]; simp [negT]
   have hcI:(c:Int)=45↔c=45:=by omega
   rw [hA] at hF1;clear hb hl hdd hneg hnum hden hfr
   by_cases hB:neg=true∧np=[48]
   · have hf:fm=false:=by rw [hform,hB.1,hB.2]; simp
     have hc45:=hcn.2 hB.1;rw [if_pos hf];clear hcut hcl hF2 hPD hcn hcI;subst hs hc45;have hnp:=hB.2;simp [x0,x3];refine c1 hsl ?_;simp [x0,x3,hkd,htk];refine c1 hF1 ?_;simp [x0,x3,hkd,htk,hnp]
   · subst hs;rw [aai];simp [x0,x3,-aai];refine c1 hsl ?_;simp [x0,x3,-aai];refine join (fun st=>getE st.env 3=.p (.str d)∧getE st.env 4=.p (.int .i64 k)∧st.heap=[]) ?_ ?_
     · by_cases h1:c=45
       · have hnp:¬ np=[48]:=fun h=>hB ⟨hcn.1 h1,h⟩;subst h1;clear hcut hcl hF2 hPD;simp [x0,x3,hkd,htk];refine c1 hF1 ?_;simp [x0,x3,hkd,htk,hnp]
       · have h1I:¬ (c:Int)=45:=by omega
         clear hcut hcl hF2 hPD;simp [x0,x3,hkd,htk];refine c1 hF1 ?_;simp [x0,x3,hkd,htk,h1,h1I]
     clear x0 x3;rintro ⟨env',heap'⟩ ⟨x3,x4,hpp⟩;dsimp only at x3 x4 hpp;subst hpp;cases hfr2:fr with
     | false =>
      have hkl:k=d.length:=by
       rcases hcut with ⟨q1,_⟩ | ⟨_,q2,_⟩
       · rw [hfr2] at q1; cases q1
       · rw [← hk,q2]
      have hkl2:¬ k<d.length:=by omega
      have hdp:dp=[]:=by
       rcases hcut with ⟨q1,_⟩ | ⟨_,_,q3⟩
       · rw [hfr2] at q1; cases q1
       · exact q3
      have hf:fm=true:=by
       rw [hform,hA,hfr2];simp
       by_cases h1:neg=true
       · exact .inr fun h2=>hB ⟨h1,h2⟩
       · exact .inl (by simpa using h1)
      have wm:IntKind.i64.wrap ((d.length:Int) - k)=0:=by rw [hkl,Int.sub_self]; rfl
      have wm2:IntKind.i64.wrap (-1) = -1:=rfl;rw [hf,hk,hdp];clear hcut hcl hF2 hPD
      by_cases h6:600<k
      · have h6I:¬ (k:Int)≤600:=by omega
        have h6J:¬ k≤600:=by omega
        have h6K:(600:Int)<k:=by omega
        simp [x3,x4,hkl2,h6,h6I,h6J,h6K]
      · have h6I:(k:Int)≤600:=by omega
        have h6J:k≤600:=by omega
        have h6K:¬ (600:Int)<k:=by omega
        simp [x3,x4,hkl2,h6,h6I,h6J,h6K,wm,wm2]
     | true =>
      rw [hfr2] at hform hPD;have hq2:d=np ++ 47::dp:=by
       rcases hcut with ⟨_,q2⟩ | ⟨q1,_⟩
       · exact q2
       · rw [hfr2] at q1; cases q1
      have hkl:k<d.length:=by rw [hq2]; simp; omega
      have hdr:d.drop (k+1)=dp:=by
       conv=>lhs; rw [hq2,← hk]
       simp
      have hdl2:d.length=k+1+dp.length:=by rw [hq2]; simp; omega
      have wk:IntKind.i64.wrap ((k:Int)+1)=(k:Int)+1:=wi64 _ (by omega) (by omega);have tk:((k:Int)+1).toNat=k+1:=by omega
      have a1:(0:Int)≤k+1:=by omega
      have a2:(k:Int)+1≤d.length:=by omega
      have a3:k+1≤d.length:=hkl;clear hcut hcl;have hf0:fm=(abc dp && decide (dp≠[48]) && decide (dp≠[49])):=by
       rw [hform,hA];have:(neg && decide (np=[48]))=false:=by
        by_cases h1:neg=true
        · have:¬ np=[48]:=fun h2=>hB ⟨h1,h2⟩;simp [this]
        · have:neg=false:=by simpa using h1
          rw [this]; rfl
       rw [this]; simp
      by_cases hfm:fm=true
      · rw [hfm] at hf0;have hfm0:¬ fm=false:=by rw [hfm]; decide
        rw [if_neg hfm0];have hF3:abc dp=true∧¬ dp=[48]∧¬ dp=[49]:=by
         have:=hf0.symm;simp only [Bool.and_eq_true,decide_eq_true_eq] at this;exact ⟨this.1.1,this.1.2,this.2⟩
        obtain ⟨hF,h48,h49⟩:=hF3;rw [hF] at hF2;rw [hk];have wm:IntKind.i64.wrap ((d.length:Int) - k)=(d.length:Int) - k:=wi64 _ (by omega) (by omega);have wm2:IntKind.i64.wrap ((d.length:Int) - k - 1)=dp.length:=by rw [wi64 _ (by omega) (by omega)]; omega
        by_cases h6:600<k
        · have h6I:¬ (k:Int)≤600:=by omega
          have h6J:¬ k≤600:=by omega
          have h6K:(600:Int)<k:=by omega
          simp [x3,x4,hkl,wk,tk,a1,a2,a3,hdr];refine c1 hF2 ?_;simp [x3,x4,hkl,wk,tk,a1,a2,a3,hdr,h48,h49,h6,h6I,h6J,h6K]
        by_cases h7:600<dp.length
        · have h6I:(k:Int)≤600:=by omega
          have h6J:k≤600:=by omega
          have h6K:¬ (600:Int)<k:=by omega
          have h7I:(600:Int)<dp.length:=by omega
          simp [x3,x4,hkl,wk,tk,a1,a2,a3,hdr];refine c1 hF2 ?_;simp [x3,x4,hkl,wk,tk,a1,a2,a3,hdr,h48,h49,h6,h6I,h6J,h6K,wm,wm2,h7,h7I]
        have h6I:(k:Int)≤600:=by omega
        have h6J:k≤600:=by omega
        have h6K:¬ (600:Int)<k:=by omega
        have h7I:¬ (600:Int)<dp.length:=by omega
        have hP:=hPD (afJ hA) (afJ hF) rfl hk0 (by omega);have hdp0:=agX hF h48;have l1:np.length≤700:=by omega
        have l2:dp.length≤700:=by omega
        have hb1:valT np<10 ^ 700:=azh (s:=np) (k:=700) l1 (afJ hA);have hb2:valT dp<10 ^ 700:=azh (s:=dp) (k:=700) l2 (afJ hF);have hlen:∀ x:Nat,x<10 ^ 700→(dig bT x).length≤400000:=fun x hx=>Nat.le_trans (p10_len (a:=700) (b:=78) hx (by decide)) (by decide);have hC:=ap0 (valT np) (valT dp) (hlen _ hb1) (hlen _ hb2);have hg0:0<Nat.gcd (valT np) (valT dp):=Nat.gcd_pos_of_pos_right _ hdp0;generalize valT np=vn at *;generalize valT dp=vd at *;obtain ⟨g,hgg⟩:∃ g,Nat.gcd vn vd=g:=⟨_,rfl⟩
        simp only [hgg] at hC hg0 ⊢;have hor:¬ (600<k∨600<dp.length):=fun h=>by rcases h with h | h; exact h6 h; exact h7 h
        rw [if_neg hor];simp only [eG,Int.natAbs_natCast] at hP
        by_cases hg1:g=1
        · subst hg1;have hd1:dig bT 1=[1]:=acA (by decide) (by decide);simp only [eT,hd1] at hC hP;simp [x3,x4,hkl,wk,tk,a1,a2,a3,hdr];refine c1 hF2 ?_;simp [x3,x4,hkl,wk,tk,a1,a2,a3,hdr,h48,h49,h6,h6I,h6J,h6K,wm,wm2,h7,h7I];refine c1 hP ?_;simp [shpA];refine c2 hC ?_;simp [hgg]
        · by_cases hgb:g<bT
          · have hd1:dig bT g=[g]:=acA hg0 hgb;have hgI:¬ (g:Int)=1:=by omega
            simp only [eT,hd1] at hC hP;simp [x3,x4,hkl,wk,tk,a1,a2,a3,hdr];refine c1 hF2 ?_;simp [x3,x4,hkl,wk,tk,a1,a2,a3,hdr,h48,h49,h6,h6I,h6J,h6K,wm,wm2,h7,h7I];refine c1 hP ?_;simp [shpA];refine c2 hC ?_;simp [hg1,hgI,hgg]
          · have hd1:¬ ((dig bT g).length:Int)=1:=by
             intro h;have h2:(dig bT g).length=1:=by omega
             have:=aaf bT2 g;rw [h2,Nat.pow_one] at this; exact hgb this
            simp only [eT] at hC hP;simp [x3,x4,hkl,wk,tk,a1,a2,a3,hdr];refine c1 hF2 ?_;simp [x3,x4,hkl,wk,tk,a1,a2,a3,hdr,h48,h49,h6,h6I,h6J,h6K,wm,wm2,h7,h7I];refine c1 hP ?_;simp [shpA];refine c2 hC ?_;simp [hg1,hd1,hgg]
      · have hfm':fm=false:=by simpa using hfm
        rw [if_pos hfm']
        by_cases hF:abc dp=true
        · rw [hF] at hF2
          by_cases h48:dp=[48]
          · simp [x3,x4,hkl,wk,tk,a1,a2,a3,hdr];refine c1 hF2 ?_;simp [x3,x4,hkl,wk,tk,a1,a2,a3,hdr,h48]
          · have h49:dp=[49]:=by
             rw [hF] at hf0
             by_cases h49:dp=[49]
             · exact h49
             · rw [hfm'] at hf0; simp [h48,h49] at hf0
            simp [x3,x4,hkl,wk,tk,a1,a2,a3,hdr];refine c1 hF2 ?_;simp [x3,x4,hkl,wk,tk,a1,a2,a3,hdr,h49]
        · have hF':abc dp=false:=by simpa using hF
          rw [hF'] at hF2;simp [x3,x4,hkl,wk,tk,a1,a2,a3,hdr];refine c1 hF2 ?_;simp [x3,x4,hkl,wk,tk,a1,a2,a3,hdr]
 · have hA':abc np=false:=by simpa using hA
   have hf:fm=false:=by rw [hform,hA']; rfl
   rw [if_pos hf];rw [hA'] at hF1;simp [x0,x3];refine c1 hsl ?_;simp [x0,x3,hkd,htk];refine c1 hF1 ?_;simp [x0,x3]
theorem aoj (l:List (List Nat)) (hl:l.length≤1000000) (hs:∀ s∈l,okS s):aab Tryz.prog 88 [.seq (l.map .str)] (.int .i64 (aaw (l.map chk))):=by
 refine aad nf isF88 mix (by simp [Tryz.f88]) ?_;simp [Tryz.f88];refine lp (α:=Nat) (fun i=>⟨[(3,.p (.int .i64 i)),(0,.p (.seq (l.map .str)))],[]⟩) (fun i=>i≤l.length∧aaw ((l.drop i).map chk)=aaw (l.map chk)) (fun i=>l.length - i) 0 (by simp) ?_;rintro i ⟨h1,h2⟩
 by_cases hi:i<l.length
 · rw [List.drop_eq_getElem_cons hi] at h2;have hw:=wi1 (i:=i) (by omega);have hc:=ap4 l[i] (hs _ (List.getElem_mem hi));obtain ⟨s,hsl⟩:∃ s,l[i]=s:=⟨_,rfl⟩
   have hget:l[i]?=some s:=by rw [List.getElem?_eq_getElem hi,hsl]
   rw [hsl] at hc h2;simp [hi,hget,hsl];refine c1 hc ?_
   by_cases he:chk s=0
   · simp [aaw,he] at h2;simp [he,hw];exact rd (i+1) ⟨hi,by simpa using h2⟩
   · simp [aaw,he] at h2;simp [he,← h2]
 · have:i=l.length:=by omega
   subst this;simp [aaw] at h2;simp [← h2]
theorem acB (p:PlD) (hp:okP p):aab Tryz.prog 17 [ePl p] (.int .i64 (chkP p)):=by
 have hc:=aoj [p.x,p.y] (by simp) (by intro s hs; simp at hs; rcases hs with rfl | rfl; exact hp.1; exact hp.2);refine aad nf isF17 mix (by simp [Tryz.f17]) ?_;simp [Tryz.f17,shpA];refine cp hc (by simp; exact ⟨rfl,rfl⟩) ?_;simp [chkP]
theorem ahm (z:Int):47 ∉ txI z:=by
 rw [txI]; split
 · simp only [List.mem_cons,not_or]; exact ⟨by decide,D_ne (amS _) rfl⟩
 · exact D_ne (amS _) rfl
theorem at0 (q:Rat):(cutN 47 (txQ q)).1=txI q.num∧(q.den≠1→txQ q=txI q.num ++ 47::txN q.den)∧(q.den=1→txQ q=txI q.num):=by
 by_cases h:q.den=1
 · have e:txQ q=txI q.num:=by rw [txQ,if_pos h]
   refine ⟨?_,fun h2=>(h2 h).elim,fun _=>e⟩;rw [e,aiC 47 _ (ahm _)]
 · have e:txQ q=txI q.num ++ 47::txN q.den:=by rw [txQ,if_neg h]
   refine ⟨?_,fun _=>e,fun h2=>(h h2).elim⟩;rw [e,akG 47 _ _ (ahm _)]
theorem c_NumR (q:Rat) (h:okR kB q):aab Tryz.prog 230 [.str (txQ q)] (.str (txI q.num)):=by
 have hsh:=adz h;obtain ⟨h1,h2,h3⟩:=at0 q;have hs:=aiK (txQ q) (by omega);rw [h1] at hs;have ht:(txQ q).take (txI q.num).length=txI q.num:=by
  by_cases hd:q.den=1
  · rw [h3 hd]; simp
  · rw [h2 hd]; simp
 have hle:(txI q.num).length≤(txQ q).length:=by
  by_cases hd:q.den=1
  · rw [h3 hd]; exact Nat.le_refl _
  · rw [h2 hd]; simp
 refine aad nf ayh mix (by simp [Tryz.f230]) ?_;generalize txI q.num=a at *;generalize txQ q=s at *;simp [Tryz.f230];refine c1 hs ?_;simp [ht,hle]
theorem c_DenR (q:Rat) (h:okR kB q):aab Tryz.prog 231 [.str (txQ q)] (.str (txN q.den)):=by
 have hsh:=adz h;obtain ⟨h1,h2,h3⟩:=at0 q;have hs:=aiK (txQ q) (by omega);rw [h1] at hs;refine aad nf ayg mix (by simp [Tryz.f231]) ?_
 by_cases hd:q.den=1
 · have e:=h3 hd;rw [hd,aAk];rw [e] at hs ⊢;generalize txI q.num=a at *;simp [Tryz.f231];refine c1 hs ?_;simp
 · have e:=h2 hd;rw [e] at hs hsh ⊢;generalize txI q.num=a at *;generalize txN q.den=b at *;simp only [List.length_append,List.length_cons] at hsh;have hne:¬ (a.length:Int)=(a.length:Int)+(b.length+1):=by omega
   have wk:IntKind.i64.wrap ((a.length:Int)+1)=(a.length:Int)+1:=wi64 _ (by omega) (by omega);have tk:((a.length:Int)+1).toNat=a.length+1:=by omega
   have a1:(0:Int)≤(a.length:Int)+1:=by omega
   have a2:(a.length:Int)+1≤(a.length:Int)+(b.length+1):=by omega
   have hdr:List.drop (a.length+1) (a ++ 47::b)=b:=by simp
   have htk:List.take (a.length+(b.length+1)) (a ++ 47::b)=a ++ 47::b:=List.take_of_length_le (by simp);simp [Tryz.f231];refine c1 hs ?_;simp [hne,wk,tk,a1,a2,hdr,htk]
theorem c_AbsI (z:Int) (h:(txI z).length≤1000000):aab Tryz.prog 229 [.str (txI z)] (.str (txN z.natAbs)):=by
 have hS:=auw (txI z) (by omega);have hng:negT (txI z)=decide (z<0):=by
  have:=(afl z []).1; rwa [List.append_nil] at this
 have h0:txI z=[48]↔z=0:=by
  have e:txI z=txQ (z:Rat):=by rw [txQ,if_pos (Rat.den_intCast z),Rat.num_intCast]
  rw [e,ahk]
  exact_mod_cast Iff.rfl
 refine aad nf ayi mix (by simp [Tryz.f229]) ?_;rw [hng] at hS
 by_cases hz:z<0
 · have e:txI z=45::txN z.natAbs:=by rw [txI,if_pos hz]
   rw [if_neg (fun x=>by have:=h0.1 x; omega),if_pos (by simpa using hz)] at hS;rw [e] at hS ⊢;simp [Tryz.f229];refine c1 hS ?_;simp
 · have e:txI z=txN z.natAbs:=by rw [txI,if_neg hz]
   have hS2:∃ v:Int,¬ v<0∧aab Tryz.prog 115 [.str (txI z)] (.int .i64 v):=by
    by_cases hz0:txI z=[48]
    · rw [if_pos hz0] at hS; exact ⟨0,by omega,hS⟩
    · rw [if_neg hz0,if_neg (by simpa using hz)] at hS; exact ⟨1,by omega,hS⟩
   obtain ⟨v,hv,hS2⟩:=hS2;rw [e] at hS2 ⊢;simp [Tryz.f229];refine c1 hS2 ?_;simp [hv]
def fewB (s:List Nat) (D:Nat):Bool:=decide (s.length≤2*D+2) && decide (chk s=0) && decide ((txN (valQ s).num.natAbs).length≤D) && decide ((txN (valQ s).den).length≤D)
theorem chk_okR {s:List Nat} (h:chk s=0):okR kB (valQ s):=by
 obtain ⟨h1,h2⟩:=chk_lt h;have h3:(10:Nat) ^ mD≤2 ^ kB:=Nat.le_trans (arK mD) (Nat.pow_le_pow_right (by decide) (by decide));exact ⟨Nat.lt_of_lt_of_le h1 h3,Nat.lt_of_lt_of_le h2 h3⟩
theorem azb (s:List Nat) (D:Nat) (hs:okS s) (hD:D≤100000):aab Tryz.prog 145 [.str s,.int .i64 D] (.bool (fewB s D)):=by
 have hC:=ap4 s hs;have hl:=hs.1;refine aad nf ayG mix (by simp [Tryz.f145]) ?_;have w1:IntKind.i64.wrap (2*(D:Int))=2*(D:Int):=wi64 _ (by omega) (by omega);have w2:IntKind.i64.wrap (2*(D:Int)+2)=2*(D:Int)+2:=wi64 _ (by omega) (by omega)
 by_cases h1:s.length≤2*D+2
 · have h1I:(s.length:Int)≤2*(D:Int)+2:=by omega
   by_cases h2:chk s=0
   · have hok:=chk_okR h2;have e:=(aeY h2).1;rw [h2] at hC;have hN:=c_NumR (valQ s) hok;have hDn:=c_DenR (valQ s) hok;have hil:(txI (valQ s).num).length≤1000000:=by
      have:=adz hok;obtain ⟨_,q2,q3⟩:=at0 (valQ s)
      by_cases hd:(valQ s).den=1
      · rw [q3 hd] at this; exact this
      · rw [q2 hd] at this; simp at this; omega
     have hA:=c_AbsI (valQ s).num hil;rw [e] at hN hDn;have hf:fewB s D=(decide ((txN (valQ s).num.natAbs).length≤D) && decide ((txN (valQ s).den).length≤D)):=by
      rw [fewB,decide_eq_true h1,decide_eq_true h2]; simp
     rw [hf];generalize txN (valQ s).num.natAbs=a at *;generalize txN (valQ s).den=b at *;generalize txI (valQ s).num=c at *
     by_cases h3:a.length≤D
     · have h3I:(a.length:Int)≤D:=by omega
       simp [Tryz.f145,w1,w2,h1I];refine c1 hC ?_;simp;refine c1 hN ?_;simp;refine c1 hA ?_;simp [h3,h3I];refine c1 hDn ?_;simp [h3]
     · have h3I:¬ (a.length:Int)≤D:=by omega
       simp [Tryz.f145,w1,w2,h1I];refine c1 hC ?_;simp;refine c1 hN ?_;simp;refine c1 hA ?_;simp [h3,h3I]
   · have hf:fewB s D=false:=by rw [fewB,decide_eq_false h2]; simp
     rw [hf];simp [Tryz.f145,w1,w2,h1I];refine c1 hC ?_;simp [h2]
 · have h1I:¬ (s.length:Int)≤2*(D:Int)+2:=by omega
   have hf:fewB s D=false:=by rw [fewB,decide_eq_false h1]; simp
   rw [hf];simp [Tryz.f145,w1,w2,h1I]
structure V2 where
 x:Rat
 y:Rat
def eV (v:V2):PV:=ePl ⟨txQ v.x,txQ v.y⟩
@[simp] theorem shp_eV (v:V2):shp (eV v)=.agg 23:=rfl
@[simp] theorem flds_eV (v:V2):flds (eV v)=[.str (txQ v.x),.str (txQ v.y)]:=rfl
theorem eV_mk (x y:Rat):eV ⟨x,y⟩=.st 23 [.str (txQ x),.str (txQ y)]:=rfl
def okU (k:Nat) (v:V2):Prop:=okR k v.x∧okR k v.y
theorem okU.mono {k l:Nat} {v:V2} (h:okU k v) (hl:k≤l):okU l v:=⟨h.1.mono hl,h.2.mono hl⟩
def V2.sub (v w:V2):V2:=⟨v.x - w.x,v.y - w.y⟩
def V2.add (v w:V2):V2:=⟨v.x+w.x,v.y+w.y⟩
def V2.mul (v:V2) (k:Rat):V2:=⟨v.x*k,v.y*k⟩
def V2.dot (v w:V2):Rat:=v.x*w.x+v.y*w.y
theorem anq {k l:Nat} {v w:V2} (h:okU k v) (h':okU l w):okU (k+l+1) (v.sub w):=⟨adL h.1 h'.1,adL h.2 h'.2⟩
theorem aAd {k l:Nat} {v w:V2} (h:okU k v) (h':okU l w):okU (k+l+1) (v.add w):=⟨asU h.1 h'.1,asU h.2 h'.2⟩
theorem aba {k l:Nat} {v w:V2} (h:okU k v) (h':okU l w):okR (k+l+(k+l)+1) (v.dot w):=asU (abP h.1 h'.1) (abP h.2 h'.2)
theorem aAp {k l:Nat} {v:V2} {a:Rat} (h:okU k v) (h':okR l a):okU (k+l) (v.mul a):=⟨abP h.1 h',abP h.2 h'⟩
def kQ:Nat:=20000
theorem okQ {q:Rat} (h:okR kQ q):okR kB q:=h.mono (by decide)
theorem azN (v w:V2) (hv:okU kQ v) (hw:okU kQ w):aab Tryz.prog 20 [eV v,eV w] (eV (v.sub w)):=by
 have h1:=amF v.x w.x (okQ hv.1) (okQ hw.1);have h2:=amF v.y w.y (okQ hv.2) (okQ hw.2);refine aad nf isF20 mix (by simp [Tryz.f20]) ?_;rw [V2.sub,eV_mk];simp [Tryz.f20,shpA];refine e2 h1 ?_;simp [shpA];refine e2 h2 ?_;simp [shpA]
theorem c_DotR (v w:V2) (hv:okU kQ v) (hw:okU kQ w):aab Tryz.prog 95 [eV v,eV w] (.str (txQ (v.dot w))):=by
 have h1:=amG v.x w.x (okQ hv.1) (okQ hw.1);have h2:=amG v.y w.y (okQ hv.2) (okQ hw.2);have h3:=azc (v.x*w.x) (v.y*w.y) ((abP hv.1 hw.1).mono (by decide)) ((abP hv.2 hw.2).mono (by decide));refine aad nf isF95 mix (by simp [Tryz.f95]) ?_;rw [V2.dot];simp [Tryz.f95,shpA];refine e2 h1 ?_;simp [shpA];refine e2 h2 ?_;simp [shpA];refine e2 h3 ?_;simp
theorem afP (v:V2) (hv:okU kQ v):aab Tryz.prog 91 [eV v] (.str (txQ (v.dot v))):=by
 refine aad nf isF91 mix (by simp [Tryz.f91]) ?_;simp [Tryz.f91,shpA];refine c2 (c_DotR v v hv hv) ?_;simp
theorem aAw (v w:V2) (hv:okU kQ v) (hw:okU kQ w):aab Tryz.prog 48 [eV v,eV w] (eV (v.add w)):=by
 have h1:=azc v.x w.x (okQ hv.1) (okQ hw.1);have h2:=azc v.y w.y (okQ hv.2) (okQ hw.2);refine aad nf isF48 mix (by simp [Tryz.f48]) ?_;rw [V2.add,eV_mk];simp [Tryz.f48,shpA];refine e2 h1 ?_;simp [shpA];refine e2 h2 ?_;simp [shpA]
theorem aAv (v:V2) (a:Rat) (hv:okU kQ v) (ha:okR kQ a):aab Tryz.prog 49 [eV v,.str (txQ a)] (eV (v.mul a)):=by
 have h1:=amG v.x a (okQ hv.1) (okQ ha);have h2:=amG v.y a (okQ hv.2) (okQ ha);refine aad nf isF49 mix (by simp [Tryz.f49]) ?_;rw [V2.mul,eV_mk];simp [Tryz.f49,shpA];refine e2 h1 ?_;simp [shpA];refine e2 h2 ?_;simp [shpA]
def afF (r:Int):Rat:=((4*r*r:Int):Rat)
theorem akw {r:Int} (h0:0≤r) (h1:r≤1000000):0≤4*r*r∧4*r*r≤4000000000000:=by
 have h2:=Int.mul_nonneg h0 h0;have h3:=Int.mul_le_mul h1 h1 h0 (by decide);rw [Int.mul_assoc];omega
theorem aeF {r:Int} (h0:0≤r) (h1:r≤1000000):okR 42 (afF r):=by
 have:=akw h0 h1;exact akh (by omega) (by decide)
structure S3 where
 a:Rat
 b:Rat
 d:Rat
def eS (s:S3):PV:=.st 31 [.str (txQ s.a),.str (txQ s.b),.str (txQ s.d)]
@[simp] theorem shp_eS (s:S3):shp (eS s)=.agg 31:=rfl
@[simp] theorem flds_eS (s:S3):flds (eS s)=[.str (txQ s.a),.str (txQ s.b),.str (txQ s.d)]:=rfl
theorem azu (a b d:Rat):eS ⟨a,b,d⟩=.st 31 [.str (txQ a),.str (txQ b),.str (txQ d)]:=rfl
theorem au2:Tryz.prog.stoodInHeld 24=false:=by kernel_rfl
@[simp] theorem eo_place:eqOk Tryz.prog 24=true:=by kernel_rfl
def aej (a b c d:List Nat):Bool:=decide (a=c∧b=d)
@[simp] theorem eq_place {a b c d:List Nat}:eqT Tryz.prog 9 24 (.st 23 [.str a,.str b]) (.st 23 [.str c,.str d])=some (aej a b c d):=by
 have hu:=Tryz.underlying24;have:((a == c) && ((b == d) && true))=aej a b c d:=by
  rw [aej,Bool.eq_iff_iff]; simp
 rw [← this];simp [eqT,hu,au2,eqTs,shp]
theorem aoi (p:PlD) (D:Nat) (hp:okP p) (hD:D≤100000):aab Tryz.prog 47 [ePl p,.int .i64 D] (.bool (fewB p.x D && fewB p.y D)):=by
 have h1:=azb p.x D hp.1 hD;have h2:=azb p.y D hp.2 hD;refine aad nf isF47 mix (by simp [Tryz.f47]) ?_;obtain ⟨x,y⟩:=p;dsimp only at h1 h2 ⊢;simp only [ePl];cases hx:fewB x D
 · rw [hx] at h1;simp [Tryz.f47,shpA];refine c2 h1 ?_;simp
 · rw [hx] at h1;simp [Tryz.f47,shpA];refine c2 h1 ?_;simp [shpA];refine c2 h2 ?_;simp
structure NV where
 x:NF
 y:NF
noncomputable def eNV (v:NV):PV:=.st 132 [eF v.x,eF v.y]
@[simp] theorem shp_eNV (v:NV):shp (eNV v)=.agg 132:=rfl
@[simp] theorem flds_eNV (v:NV):flds (eNV v)=[eF v.x,eF v.y]:=rfl
@[simp] theorem ceNV:Tryz.prog.cellsOf 132=8:=by kernel_rfl
theorem air (x y:NF):eNV ⟨x,y⟩=.st 132 [eF x,eF y]:=rfl
def NV.q (v:NV):V2:=⟨v.x.q,v.y.q⟩
def NV.add (v w:NV):NV:=⟨v.x.add w.x,v.y.add w.y⟩
def NV.sub (v w:NV):NV:=⟨v.x.sub w.x,v.y.sub w.y⟩
def NV.times (v:NV) (k:NF):NV:=⟨v.x.mul k,v.y.mul k⟩
def NV.dot (v w:NV):NF:=(v.x.mul w.x).add (v.y.mul w.y)
theorem NV.ajW (v w:NV):(v.sub w).q=v.q.sub w.q:=by simp only [NV.sub,NV.q,V2.sub,NF.ajW]
theorem NV.add_q (v w:NV):(v.add w).q=v.q.add w.q:=rfl
theorem NV.dot_q (v w:NV):(v.dot w).q=v.q.dot w.q:=rfl
theorem ay5 (v w:NV) (hv:okU kQ v.q) (hw:okU kQ w.q):aab Tryz.prog 78 [eNV v,eNV w] (eNV (v.sub w)):=by
 have h1:=amD v.x w.x (okQ hv.1) (okQ hw.1);have h2:=amD v.y w.y (okQ hv.2) (okQ hw.2);refine aad nf isF78 mix (by simp [Tryz.f78]) ?_;rw [NV.sub,air];simp [Tryz.f78,shpA];refine e2 h1 ?_;simp [shpA];refine e2 h2 ?_;simp [shpA]
theorem awt (v:NV) (k:NF) (hv:okU kQ v.q) (hk:okR kQ k.q):aab Tryz.prog 104 [eNV v,eF k] (eNV (v.times k)):=by
 have h1:=agO v.x k (okQ hv.1) (okQ hk);have h2:=agO v.y k (okQ hv.2) (okQ hk);refine aad nf ayM mix (by simp [Tryz.f104]) ?_;rw [NV.times,air];simp [Tryz.f104,shpA];refine e2 h1 ?_;simp [shpA];refine e2 h2 ?_;simp [shpA]
theorem aug (v w:NV) (hv:okU kQ v.q) (hw:okU kQ w.q):aab Tryz.prog 119 [eNV v,eNV w] (eF (v.dot w)):=by
 have h1:=agO v.x w.x (okQ hv.1) (okQ hw.1);have h2:=agO v.y w.y (okQ hv.2) (okQ hw.2);have h3:=aur (v.x.mul w.x) (v.y.mul w.y) ((abP hv.1 hw.1).mono (by decide)) ((abP hv.2 hw.2).mono (by decide));refine aad nf ayH mix (by simp [Tryz.f119]) ?_;rw [NV.dot];simp [Tryz.f119,shpA];refine e2 h1 ?_;simp [shpA];refine e2 h2 ?_;simp [shpA];refine e2 h3 ?_;simp [shpA]
theorem afL (v:NV) (hv:okU kQ v.q):aab Tryz.prog 79 [eNV v] (eF (v.dot v)):=by
 refine aad nf isF79 mix (by simp [Tryz.f79]) ?_;simp [Tryz.f79,shpA];refine c2 (aug v v hv hv) ?_;simp [shpA]
def NV.from (p:PlD):NV:=⟨⟨valQ p.x,false⟩,⟨valQ p.y,false⟩⟩
theorem auo (p:PlD) (h1:chk p.x=0) (h2:chk p.y=0) (hp:okP p):aab Tryz.prog 77 [ePl p] (eNV (.from p)):=by
 have a1:=auA p.x h1 hp.1.1;have a2:=auA p.y h2 hp.2.1;refine aad nf isF77 mix (by simp [Tryz.f77]) ?_;rw [NV.from,air];simp [Tryz.f77,shpA];refine e1 a1 ?_;simp [shpA];refine e1 a2 ?_;simp [shpA]
structure NS where
 a:NF
 b:NF
 d:NF
noncomputable def eNS (s:NS):PV:=.st 149 [eF s.a,eF s.b,eF s.d]
@[simp] theorem shp_eNS (s:NS):shp (eNS s)=.agg 149:=rfl
@[simp] theorem flds_eNS (s:NS):flds (eNS s)=[eF s.a,eF s.b,eF s.d]:=rfl
theorem azI (a b d:NF):eNS ⟨a,b,d⟩=.st 149 [eF a,eF b,eF d]:=rfl
def NS.q (s:NS):S3:=⟨s.a.q,s.b.q,s.d.q⟩
def okN (k:Nat) (s:NS):Prop:=okR k s.a.q∧okR k s.b.q∧okR k s.d.q
def lgS (s:S3):Bool:=lgQ s.a || lgQ s.b || lgQ s.d
theorem aww (s:NS) (h:okN kB s):aab Tryz.prog 85 [eNS s] (.bool (lgS s.q)):=by
 have h1:=akR s.a h.1;have h2:=akR s.b h.2.1;have h3:=akR s.d h.2.2;refine aad nf isF85 mix (by simp [Tryz.f85]) ?_;rw [lgS,NS.q];dsimp only;generalize lgQ s.a.q=x at *;generalize lgQ s.b.q=y at *;generalize lgQ s.d.q=z at *;cases x
 · cases y
   · simp [Tryz.f85,shpA];refine c1 h1 ?_;simp [shpA];refine c1 h2 ?_;simp [shpA];refine c1 h3 ?_;simp
   · simp [Tryz.f85,shpA];refine c1 h1 ?_;simp [shpA];refine c1 h2 ?_;simp [shpA]
 · simp [Tryz.f85,shpA];refine c1 h1 ?_;simp [shpA]
theorem azJ (s:NS) (h:okN kB s):aab Tryz.prog 86 [eNS s] (eS s.q):=by
 have h1:=ajN s.a h.1;have h2:=ajN s.b h.2.1;have h3:=ajN s.d h.2.2;refine aad nf isF86 mix (by simp [Tryz.f86]) ?_;rw [NS.q,azu];simp [Tryz.f86,shpA];refine e1 h1 ?_;simp [shpA];refine e1 h2 ?_;simp [shpA];refine e1 h3 ?_;simp [shpA]
theorem azG {q:Rat} (h:okR 1800 q):lgQ q=false:=by
 have h1:(txN q.num.natAbs).length≤600:=azg (K:=1800) (k:=600) h.1 (by decide) (by decide);have h2:(txN q.den).length≤600:=azg (K:=1800) (k:=600) h.2 (by decide) (by decide);rw [lgQ,lgN,lgN,decide_eq_false (by omega),decide_eq_false (by omega)]; rfl
def NF.width (r:Int):NF:=.int (4*r*r)
structure NM where
 w:NV
 d:NV
 root:NF
noncomputable def eNM (m:NM):PV:=.st 144 [eNV m.w,eNV m.d,eF m.root]
@[simp] theorem shp_eNM (m:NM):shp (eNM m)=.agg 144:=rfl
@[simp] theorem flds_eNM (m:NM):flds (eNM m)=[eNV m.w,eNV m.d,eF m.root]:=rfl
def NM.of (width:NF) (p d b:NV):NM:=⟨b.sub p,d,(((b.sub p).dot d).mul ((b.sub p).dot d)).sub ((d.dot d).mul (((b.sub p).dot (b.sub p)).sub width))⟩
def abw (r:Int):Int:=if r<1∨1000<r then 3 else 0
theorem afO (r:Int):aab Tryz.prog 74 [.int .i64 r] (.int .i64 (abw r)):=by
 refine aad nf isF74 mix (by simp [Tryz.f74]) ?_;rw [abw]
 by_cases h1:r<1
 · have hw:=ad1 true 3;simp [Tryz.f74,h1];refine c2 hw ?_;simp [ack];omega
 · by_cases h2:1000<r
   · have hw:=ad1 true 3;simp [Tryz.f74,h1,h2];refine c2 hw ?_;simp [ack]
     try omega
   · have hw:=ad1 false 3;simp [Tryz.f74,h1,h2];refine c2 hw ?_;simp [ack];omega
theorem adU:∀ l:List Int,aaw l=0↔∀ e∈l,e=0
 | []=>by simp [aaw]
 | e::r=>by
  rw [aaw]
  by_cases h:e=0
  · rw [if_pos h,adU r]; simp [h]
  · rw [if_neg h]; simp [h]
theorem acr {p:PlD} (h:chkP p=0):chk p.x=0∧chk p.y=0:=by
 have:=(adU _).1 h;exact ⟨this _ (by simp),this _ (by simp)⟩
def vP (p:PlD):V2:=⟨valQ p.x,valQ p.y⟩
theorem sq_nonneg (a:Rat):0≤a*a:=by
 rcases Rat.le_total (a:=0) (b:=a) with h | h
 · exact Rat.mul_nonneg h h
 · have h2:0≤-a:=by
    have:=Rat.neg_le_neg h
    rwa [Rat.neg_zero] at this
   have:=Rat.mul_nonneg h2 h2
   rwa [Rat.neg_mul,Rat.mul_neg,Rat.neg_neg] at this
theorem sq_zero {a b:Rat} (h:a*a+b*b=0):a=0∧b=0:=by
 have key:∀ x y:Rat,x*x+y*y=0→x=0:=fun x y h=>by
  have h1:=sq_nonneg x;have h2:=sq_nonneg y;have h3:x*x≤0:=by
   have h4:x*x+0≤x*x+y*y:=(Rat.add_le_add_left).2 h2
   rwa [Rat.add_zero,h] at h4
  have h5:x*x=0:=Rat.le_antisymm h3 h1;rcases Rat.mul_eq_zero.1 h5 with h | h <;> exact h
 exact ⟨key a b h,key b a (by rw [Rat.add_comm]; exact h)⟩
def auN:PV:=.st 31 [.str [],.str [],.str []]
theorem acX {k:Nat} {p:PlD} (h:okU k (vP p)):okU k (NV.from p).q:=h
def ari:PV:=.st 128 [.int .i64 0,.nsl]
def zeroV:PV:=.st 132 [.st 130 [ari,ari],.st 130 [ari,ari]]
@[simp] theorem shp_zeroV:shp zeroV=.agg 132:=rfl
def aht (p:PlD):Bool:=decide (p.x.length≤40) && decide (p.y.length≤40) && (decide (chkP p≠0) || (fewB p.x 9 && fewB p.y 9))
theorem aob (p:PlD) (hp:okP p):aab Tryz.prog 9 [ePl p] (.bool (aht p)):=by
 have hC:=acB p hp;have hF:=aoi p 9 hp (by decide);refine aad nf isF9 mix (by simp [Tryz.f9]) ?_;rw [aht];obtain ⟨x,y⟩:=p;simp only [ePl] at *;generalize chkP ⟨x,y⟩=c at *;generalize (fewB x 9 && fewB y 9)=f at *
 by_cases h1:x.length≤40
 · have h1I:(x.length:Int)≤40:=by omega
   by_cases h2:y.length≤40
   · have h2I:(y.length:Int)≤40:=by omega
     by_cases h3:c=0
     · simp [Tryz.f9,h1I,h2I,shpA];refine c1 hC ?_;simp [h3,shpA];refine c2 hF ?_;simp [h1,h2,h3]
     · simp [Tryz.f9,h1I,h2I,shpA];refine c1 hC ?_;simp [h1,h2,h3,shpA]
   · have h2I:¬ (y.length:Int)≤40:=by omega
     simp [Tryz.f9,h1I,h2I,h2,shpA]
 · have h1I:¬ (x.length:Int)≤40:=by omega
   simp [Tryz.f9,h1I,h1,shpA]
theorem ayT {s:List Nat} (h:fewB s 9=true):okR 30 (valQ s):=by
 simp only [fewB,Bool.and_eq_true,decide_eq_true_eq] at h;have h1:=aw2 h.1.2;have h2:=aw2 h.2;exact ⟨Nat.lt_trans h1 (by decide),Nat.lt_trans h2 (by decide)⟩
theorem ajY {p:PlD} (h:aht p=true) (h0:chkP p=0):okU 30 (vP p):=by
 simp only [aht,h0,ne_eq,not_true_eq_false,decide_false,Bool.false_or,Bool.and_eq_true] at h;exact ⟨ayT h.2.1,ayT h.2.2⟩
theorem aja (r:Int):aab Tryz.prog 16 [.int .i64 r] (.int .i64 (abw r)):=by
 refine aad nf isF16 mix (by simp [Tryz.f16]) ?_;rw [abw]
 by_cases h1:r<1
 · simp [Tryz.f16,h1]
   try omega
 · by_cases h2:1000<r
   · simp [Tryz.f16,h1,h2]
     try omega
   · simp [Tryz.f16,h1,h2]
     try omega
theorem so_surd:Tryz.prog.stoodInHeld 32=false:=by kernel_rfl
def amY (a b c d e f:List Nat):Bool:=decide (a=d∧b=e∧c=f)
end Go.Abs
