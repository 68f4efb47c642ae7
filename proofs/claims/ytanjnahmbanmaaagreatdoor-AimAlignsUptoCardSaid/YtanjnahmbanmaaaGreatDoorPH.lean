import Derived.Test.YtanjnahmbanmaaaGreatDoorPG
import Derived.Test.YtanjnahmbanmaaaGreatDoorThE
import Derived.Test.YtanjnahmbanmaaaGreatDoorPE
import Derived.Lib.AtoiAll
import Derived.Test.YtanjnahmbanmaaaGreatDoorThD
import Derived.Test.YtanjnahmbanmaaaGreatDoorPC
/- Parts of a proof. -/
set_option linter.unusedSimpArgs false
set_option linter.unusedVariables false
set_option linter.unusedSectionVars false
namespace Go.Abs
open Go.Proofs
set_option linter.unusedSectionVars false
theorem arN:szs Tryz.prog 359=some [1,1]:=by kernel_rfl
section
variable {w:World} {Imm Prot:Nat→Prop} {β:Bd} {H:Heap}
theorem am5 {blk:Nat} {c0 c1 v:Value} {T:TypeId} (h:w.heap[blk]?=some (.cells #[c0,c1] T (0,0))):w.setCell ⟨blk,0,none⟩ v=w.setRow blk #[v,c1]:=by
 obtain ⟨hb,he⟩:=Array.getElem?_eq_some_iff.1 h;unfold World.setCell World.setRow;congr 1;apply Array.ext
 · simp
 · intro i h1 h2;simp only [Array.getElem_modify]
   by_cases hi:blk=i
   · subst hi; simp [he]
   · simp [hi]
theorem akS {t x:AV} {cs:Array Value} (ht:t=mkSt 359 [.p .nptr,x]∨t=.st 359 [.p .nptr,x]) (h:AVC Tryz.prog w Imm β H t cs.toList):∃ y,cs=#[.pointer none,y]∧AVC Tryz.prog w Imm β H x [y]:=by
 have h':AVC Tryz.prog w Imm β H (.st 359 [.p .nptr,x]) cs.toList:=by
  rcases ht with rfl | rfl
  · exact aqi.1 h
  · exact h
 simp only [AVC,arN,Option.some.injEq] at h';obtain ⟨l,css,rfl,h1,h2⟩:=h';simp only [AVCl,AVC,PVC] at h1;obtain ⟨c,cs1,rfl,rfl,_,c2,cs2,rfl,h3,h4,rfl⟩:=h1
 match c2,h4 with
 | [y],_=>exact ⟨y,Array.ext' (by simpa using h2),h3⟩
theorem ajc {b:Nat} {x:AV} {cs:Array Value} (h:AVC Tryz.prog w Imm β H (.st 359 [.ptr b [],x]) cs.toList):∃ v y,cs=#[v,y]∧RefV Tryz.prog β H (.ptr b []) v:=by
 simp only [AVC,arN,Option.some.injEq] at h;obtain ⟨l,css,rfl,h1,h2⟩:=h;simp only [AVCl,AVC] at h1;obtain ⟨c,cs1,rfl,⟨v,rfl,hv⟩,_,c2,cs2,rfl,h3,h4,rfl⟩:=h1
 match c2,h4 with
 | [y],_=>exact ⟨v,y,Array.ext' (by simpa using h2),hv⟩
end
theorem g_ccf {H : Heap} {b : Nat} {t x : AV} (hb : H[b]? = some (.box false t)) (ht : t = mkSt 359 [.p .nptr, x] ∨ t = .st 359 [.p .nptr, x]) :
    abp Tryz.prog 342 H [.ptr b []] (H.set b (.box false (.st 359 [.ptr b [],x]))) (.p (.tup [])):=by
 refine ⟨abe Tryz.func342 (by kernel_rfl),fun w Imm Prot β cargs hr ha hre=>?_⟩;simp only [AVVl,AVV] at ha;obtain ⟨v,vs,rfl,⟨_,blk0,off0,oo,rfl,ho,hp⟩,rfl⟩:=ha;simp only [aaW,Option.some.injEq] at ho;subst ho;obtain ⟨rfl,rfl⟩:=hp (.inl ⟨false,t,hb⟩);obtain ⟨cs,T,k1,k2,k3,_,k5⟩:=hr.objs b _ hb;have hsh:shpA t=.agg 359:=by
  rcases ht with rfl | rfl
  · exact ahu _ _
  · rfl
 have hT:T=360:=by
  rw [hsh] at k5;exact beq2 (by simpa [bxB,Gl.bx,glOff] using k5)
 subst hT;obtain ⟨y,rfl,hy⟩:=akS ht k2;have k3':¬ Imm (β.blk b)∧¬ Prot (β.blk b):=by simpa [Held] using k3
 refine (Tryz.aiD (β.blk b) w (by simp [World.cell?,k1]) (by simp [World.shape?,k1]) (by simp [World.frozen?,k1])).mono ?_;rintro e w' ⟨rfl,rfl⟩;rw [am5 k1];have hst:aaG β H β (H.set b (.box false (.st 359 [.ptr b [],x]))):=acW hb (.inl ⟨_,_,_,_,rfl,rfl⟩);have hin:∀ z,InH H z→InH (H.set b (.box false (.st 359 [.ptr b [],x]))) z:=acU hb (fun _ h=>h);have hbl:b<H.length:=(List.getElem?_eq_some_iff.1 hb).1;have hg:(H.set b (.box false (.st 359 [.ptr b [],x])))[b]?=some (.box false (.st 359 [.ptr b [],x])):=List.getElem?_set_self hbl;have hrx:aaa (InH H) x:=by
  have:=hr.refs b _ hb;rcases ht with rfl | rfl
  · simp only [Obj.refs] at this;unfold mkSt at this
    split at this
    · rename_i l hl;have hl:=acR hl
      match l,hl with
      | [a,c],hl=>simp at hl; rw [hl.2]; simp [aaa]
      | [],hl=>simp at hl
      | [_],hl=>simp at hl
      | _::_::_::_,hl=>simp at hl
    · simp only [aaa,aac] at this; exact this.2.1
  · simp only [Obj.refs,aaa,aac] at this; exact this.2.1
 have hsame:∀ k,Imm k→(w.setRow (β.blk b) #[.pointer (some ⟨β.blk b,0,none⟩),y]).heap[k]?=w.heap[k]?:=fun k hki=>setRow_other w _ k _ (fun he=>k3'.1 (he▸hki));have href:Obj.refs (InH (H.set b (.box false (.st 359 [.ptr b [],x])))) (.box false (.st 359 [.ptr b [],x])):=by
  simp only [Obj.refs,aaa,aac,and_true];exact ⟨⟨_,hg,trivial⟩,aaa.mono hin _ hrx⟩
 have hpost:=ab4 hr hb trivial (o':=.box false (.st 359 [.ptr b [],x])) trivial (fun _ h=>h) k1 (new:=#[.pointer (some ⟨β.blk b,0,none⟩),y]) k3' hst
  ⟨_,360,setRow_heap w _ _ _ 360 _ k1,by
   simp only [AVC,arN,Option.some.injEq];refine ⟨_,[[.pointer (some ⟨β.blk b,0,none⟩)],[y]],rfl,?_,rfl⟩;simp only [AVCl,AVC];exact ⟨_,_,rfl,⟨_,rfl,⟨rfl,_,_,0,rfl,rfl,fun _=>⟨rfl,rfl⟩⟩⟩,rfl,_,_,rfl,AVC.mono (fun _ x=>x) hsame hst _ _ hrx hy,rfl,rfl⟩,k3,by simp,by simp [shpA,bxB,Gl.bx]⟩ href
 exact ⟨_,β,Imm,rfl,hpost,by simp [AVV,PVV,PVVl],by simp [aaa]⟩
theorem g_ccu {H:Heap} {b:Nat} {x:AV} (hb:H[b]?=some (.box false (.st 359 [.ptr b [],x]))):abp Tryz.prog 342 H [.ptr b []] H (.p (.tup [])):=by
 refine ⟨abe Tryz.func342 (by kernel_rfl),fun w Imm Prot β cargs hr ha hre=>?_⟩;simp only [AVVl,AVV] at ha;obtain ⟨v,vs,rfl,⟨_,blk0,off0,oo,rfl,ho,hp⟩,rfl⟩:=ha;simp only [aaW,Option.some.injEq] at ho;subst ho;obtain ⟨rfl,rfl⟩:=hp (.inl ⟨false,_,hb⟩);obtain ⟨cs,T,k1,k2,k3,_,k5⟩:=hr.objs b _ hb;obtain ⟨v,y,rfl,hv⟩:=ajc k2;simp only [RefV,RefC] at hv;obtain ⟨_,blk1,off1,oo,rfl,ho,hp⟩:=hv;simp only [aaW,Option.some.injEq] at ho;subst ho;obtain ⟨rfl,rfl⟩:=hp (.inl ⟨false,_,hb⟩);refine (Tryz.ai9 (β.blk b) w (by simp [World.cell?,k1])).mono ?_;rintro e w' ⟨rfl,rfl⟩;exact ⟨_,β,Imm,rfl,Post.refl hr,by simp [AVV,PVV,PVVl],by simp [aaa]⟩
set_option maxHeartbeats 4000000
set_option maxRecDepth 100000
@[simp] theorem gu8:(Gl.u8:TypeId)=5:=(rfl)
def u8s (t:List Nat):List AV:=t.map fun (c:Nat)=>AV.p (.int .u8 (c:Int))
theorem ahj (t:List Nat):(u8s t).length=t.length:=by simp [u8s]
theorem u8s_app (a t:List Nat):u8s (a ++ t)=u8s a ++ u8s t:=by simp [u8s]
theorem amR:∀ t:List Nat,abj Tryz.prog 1 (u8s t)
 | []=>by simp [u8s,abj]
 | c::t=>by
  have:=amR t;simp only [u8s,List.map_cons] at this ⊢;simp [abj];exact this
theorem ak4:∀ (t:List Nat),(∀ c∈t,c<256)→bytesOf (u8s t)=some t
 | [],_=>rfl
 | c::t,hb=>by
  have h1:=hb c (by simp);have:=ak4 t fun c hc=>hb c (by simp [hc]);show bytesOf (.p (.int .u8 (c:Int))::u8s t)=some (c::t);rw [bytesOf,if_pos ⟨by omega,by omega⟩,this];simp
theorem g_ws1 (t : List Nat) (h0 : t ≠ []) (h : t.length ≤ 1048576) : abp Tryz.prog 305 [.box false (.p (.st 359 [.nptr, .nsl]))] [.ptr 0 [], .p (.str t)]
    [.box false (.st 359 [.ptr 0 [],.sl 1 0 1 0 t.length]),.arr .bytes 0 1 (u8s t)] (.p (.tup [.int .i64 t.length,.nif])):=by
 refine adT nf ati mix (by simp [Tryz.f305]) ?_;simp [Tryz.f305];refine ci (g_ccf (b:=0) (t:=.p (.st 359 [.nptr,.nsl])) (x:=.p .nsl) rfl (.inl rfl)) ?_;simp;refine ⟨⟨amR t,by simp only [maxL]; omega⟩,?_⟩;simp [h0,u8s]
theorem g_ws2 (a t : List Nat) (v n : Nat) (hn : n = a.length) (h0 : t ≠ []) (h : t.length ≤ 1048576) (ha : a.length ≤ 1048576) : abp Tryz.prog 305 [.box false (.st 359 [.ptr 0 [], .sl 1 v 1 0 n]), .arr .bytes v 1 (u8s a)] [.ptr 0 [], .p (.str t)]
    [.box false (.st 359 [.ptr 0 [],.sl 1 (v+1) 1 0 (n+t.length)]),.arr .bytes (v+1) 1 (u8s (a ++ t))] (.p (.tup [.int .i64 t.length,.nif])):=by
 refine adT nf ati mix (by simp [Tryz.f305]) ?_;simp [Tryz.f305];refine ci (g_ccu (b:=0) (x:=.sl 1 v 1 0 n) rfl) ?_;simp;refine ⟨⟨amR t,by rw [ahj]; omega,by rw [ahj]; simp only [maxL]; omega⟩,?_⟩;have htk:List.take n (u8s a)=u8s a:=List.take_of_length_le (by rw [ahj]; omega);simp [h0,htk,u8s_app];exact .inl rfl
theorem g_str (a : List Nat) (v n : Nat) (hn : n = a.length) (h0 : a ≠ []) (ha : a.length ≤ 1048576) (hb : ∀ c ∈ a, c < 256) : abp Tryz.prog 306 [.box false (.st 359 [.ptr 0 [], .sl 1 v 1 0 n]), .arr .bytes v 1 (u8s a)] [.ptr 0 []]
    [.box false (.st 359 [.ptr 0 [],.sl 1 v 1 0 n]),.dead] (.p (.str a)):=by
 refine adT nf axJ mix (by simp [Tryz.f306]) ?_;have hp:0<a.length:=List.length_pos_iff.2 h0;simp [Tryz.f306];refine d_sdata (ver:=v) (es:=u8s a) rfl rfl (by rw [hn]; exact hp) (by simp [u8s,hn]) ?_;simp;refine d_ustr (ver:=v) (es:=u8s a) (l:=a) rfl rfl rfl (by omega) (by simp [ahj,hn]) (by omega) rfl ?_ ?_ ?_ ?_
 · kernel_rfl
 · kernel_rfl
 · rw [List.take_of_length_le (by rw [ahj]; simp [hn])];exact ak4 a hb
 simp
 repeat' with_reducible refine And.intro ?_ ?_
 all_goals rfl
theorem aj6 {σ:Nat→Nat}:∀ {a b:List AV},renL σ (a ++ b)=renL σ a ++ renL σ b
 | [],b=>by simp [renL]
 | x::a,b=>by simp [renL,aj6 (a:=a)]
theorem apN:dig wB tB=[tB]:=agp (by decide) (by decide)
theorem auv (a:NI) (hs:a.sm=true):aab Tryz.prog 248 [eI a] (.str (txI a.v)):=by
 refine aad nf atk mix (by simp [Tryz.f248]) ?_;have r1:=NI.agE hs;simp [Tryz.f248,shpA,ahf hs,ai4 hs,aa3,aaQ];refine c1 (c_itoa a.v r1.1 r1.2) ?_;simp
theorem atc {m k A L:Nat} (hm:0<m) (h:m*tB ^ k≤A) (hA:A<wB ^ L):k<64*L:=by
 have h1:2 ^ k≤tB ^ k:=Nat.pow_le_pow_left (by decide) k;have h2:tB ^ k≤m*tB ^ k:=Nat.le_mul_of_pos_left _ hm;rw [show wB=2 ^ 64 from rfl,← Nat.pow_mul] at hA;have h4:2 ^ k<2 ^ (64*L):=Nat.lt_of_le_of_lt (Nat.le_trans h1 (Nat.le_trans h2 h)) hA
 rwa [Nat.pow_lt_pow_iff_right (by decide)] at h4
theorem auu (a:NI) (hs:a.sm=false) (hl:okW a.v) (hd:(txN a.v.natAbs).length≤1000000):aab Tryz.prog 248 [eI a] (.str (txI a.v)):=by
 have hp:=ad0 (eI a) a.v (aic a);have hbig:=NI.aoP (a:=a) (by rw [hs]; decide);have hA:=Nat.lt_of_lt_of_le (aaf wB2 a.v.natAbs) (Nat.pow_le_pow_right (show 0<wB by decide) (acx hl));obtain ⟨c,cs,w1⟩:=afi hs;refine aad nf atk mix (by simp [Tryz.f248]) ?_;simp [Tryz.f248,shpA,w1,aa3,aaQ];refine c1 hp ?_;simp;refine cutL (fun s'=>∃ ps:List (List Nat),txG 0 ps=txG a.v.natAbs []∧(∀ p∈ps,p≠[]∧p.length≤18)∧ps≠[]∧ps.length≤57600000∧getE s'.env 3=.p (.bool (decide (a.v<0)))∧getE s'.env 6=.sl 2 ps.length 1 0 ps.length∧∃ o,s'.heap=[.hole,o,.arr .grow ps.length 1 (ps.map fun p=>.p (.str p))]) ?_ ?_
 · refine lp (α:=Nat×List (List Nat)×Bool) (fun x=>⟨[(6,.sl 2 x.2.1.length 1 0 x.2.1.length),(5,.sl 1 0 1 0 1),(4,.p (eN x.1)),(3,.p (.bool (decide (a.v<0))))],[.hole,.arr (if x.2.2=true then .frozen else .exact) 0 1 [.p (.int .u64 1000000000000000000)],.arr .grow x.2.1.length 1 (x.2.1.map fun p=>.p (.str p))]⟩)
    (fun x=>x.1≤a.v.natAbs∧txG x.1 x.2.1=txG a.v.natAbs []∧(∀ p∈x.2.1,p≠[]∧p.length≤18)∧x.2.1.length≤57600000∧x.1*tB ^ x.2.1.length≤a.v.natAbs) (fun x=>x.1) (a.v.natAbs,[],false) ⟨Nat.le_refl _,rfl,by simp,by simp,by simp⟩ ?_
   rintro ⟨m,ps,f⟩ ⟨k1,k2,k3,k5,k4⟩;dsimp only at k1 k2 k3 k5 k4;rcases f with _ | _
   · simp only [Bool.false_eq_true,if_false];have hml:(dig wB m).length≤900000:=by
      have:=aak wB2 _ _ (Nat.lt_of_le_of_lt k1 (aaf wB2 a.v.natAbs)); have:=acx hl; omega
     by_cases hm:m=0
     · subst hm;have hne:ps≠[]:=by
        rintro rfl;rw [txG,txG,if_pos rfl,if_neg (by omega)] at k2;have:=ajT a.v.natAbs;rw [List.reverse_nil,List.flatten_nil,List.append_nil,List.append_nil] at k2;rw [← k2] at this; simp at this
       simp [eN,agV];refine ⟨ps,k2,k3,hne,k5,?_⟩;simp
     · have hD:=akO m tB (by decide) (by omega) (by rw [apN]; decide);have hmn:dig wB m≠[]:=mt ace.1 hm;have hpos:0<(dig wB m).length:=List.length_pos_iff.2 hmn;have hst:=aoF hm ps;have hnx:∀ p∈ps ++ [abK m],p≠[]∧p.length≤18:=by
        intro p hp;rcases List.mem_append.1 hp with h | h
        · exact k3 p h
        · rw [List.mem_singleton.1 h]; exact ⟨alO m,alP m⟩
       have hmd:m / tB<m:=Nat.div_lt_self (by omega) (by decide);have hpl:=atc (show 0<m by omega) k4 hA;have hk4:m / tB*tB ^ (ps ++ [abK m]).length≤a.v.natAbs:=by
        rw [List.length_append,List.length_singleton,Nat.pow_succ,Nat.mul_comm (tB ^ ps.length),← Nat.mul_assoc];exact Nat.le_trans (Nat.mul_le_mul_right _ (Nat.div_mul_le_self _ _)) k4
       have hk5:(ps ++ [abK m]).length≤57600000:=by rw [List.length_append,List.length_singleton]; omega
       have hr:m % tB<tB:=Nat.mod_lt _ (by decide);have hz0:m / tB=0→m % tB=m:=fun h=>by have:=Nat.div_add_mod m tB; rw [h] at this; omega
       simp only [eN] at hD ⊢;rw [apN] at hD;have hqn:=ace (n:=m / tB);have hfu:=c_fu (m % tB) (Nat.lt_trans hr (by decide));have hrep:=c_rep [48] (18 - (txN (m % tB)).length) (by omega) (by simp; omega);have hpl2:=ang hr;have hpad:=pad18 hr;rw [aj5] at hrep;have hnext:abK m=if m / tB=0 then txN (m % tB) else List.replicate (18 - (txN (m % tB)).length) 48 ++ txN (m % tB):=by
        rw [abK,hpad]; split
        · rename_i h; rw [hz0 h]
        · rfl
       have hw:IntKind.i64.wrap (18 - ((txN (m % tB)).length:Int))=(18 - (txN (m % tB)).length:Nat):=by rw [wi64 _ (by omega) (by omega)]; omega
       have hw2:((18 - (txN (m % tB)).length:Nat):Int)=18 - ((txN (m % tB)).length:Int):=by omega
       have fin:∀ t,t=abK m→(ps.map fun p=>AV.p (.str p)) ++ [AV.p (.str t)]=(ps ++ [abK m]).map fun p=>AV.p (.str p):=fun t ht=>by rw [ht]; simp
       by_cases hr0:m % tB=0
       · have hq0:¬ m / tB=0:=fun h=>hm (by rw [← hz0 h]; exact hr0);have hqp:0<(dig wB (m / tB)).length:=List.length_pos_iff.2 (mt hqn.1 hq0);have ht:List.replicate (18 - (txN (m % tB)).length) 48 ++ txN (m % tB)=abK m:=by rw [hnext,if_neg hq0]
         rw [hr0,adA] at ht hrep hw;rw [hr0,agV] at hD;simp only [List.length_singleton] at ht hrep hw;have hf:=fin _ ht;generalize hqd:dig wB (m / tB)=zq at *;simp [hpos];refine cp hD (by simp; exact ⟨rfl,rfl⟩) ?_ (h1:=by simp [tB]);simp [hqp,hw];refine c2 hrep ?_;simp;refine ⟨by simp only [maxL]; omega,?_⟩;refine rd (m / tB,ps ++ [abK m],true) ⟨by omega,by rw [hst]; exact k2,by simpa using hnx,hk5,hk4⟩ hmd (he:=by simp [hqd]) (hh:=by simp only [← hf]; simp) (hr2:=by simp only [← hf]; simp)
       · have hrd:dig wB (m % tB)=[m % tB]:=agp (by omega) (Nat.lt_trans hr (by decide));rw [hrd] at hD
         by_cases hq0:m / tB=0
         · have ht:txN (m % tB)=abK m:=by rw [hnext,if_pos hq0]
           have hf:=fin _ ht;rw [hq0,agV] at hD;simp [hpos];refine cp hD (by simp; exact ⟨rfl,rfl⟩) ?_ (h1:=by simp [tB]);simp;refine c2 hfu ?_;simp;refine ⟨by simp only [maxL]; omega,?_⟩;refine rd (m / tB,ps ++ [abK m],true) ⟨by omega,by rw [hst]; exact k2,by simpa using hnx,hk5,hk4⟩ hmd (he:=by simp [hq0,agV]) (hh:=by simp only [← hf]; simp) (hr2:=by simp only [← hf]; simp)
         · have hqp:0<(dig wB (m / tB)).length:=List.length_pos_iff.2 (mt hqn.1 hq0);have ht:List.replicate (18 - (txN (m % tB)).length) 48 ++ txN (m % tB)=abK m:=by rw [hnext,if_neg hq0]
           have hf:=fin _ ht;generalize hqd:dig wB (m / tB)=zq at *;simp [hpos];refine cp hD (by simp; exact ⟨rfl,rfl⟩) ?_ (h1:=by simp [tB]);simp;refine c2 hfu ?_;simp [hqp,hw];refine c2 hrep ?_;simp;refine ⟨by omega,by simp only [maxL]; omega,?_⟩;refine rd (m / tB,ps ++ [abK m],true) ⟨by omega,by rw [hst]; exact k2,by simpa using hnx,hk5,hk4⟩ hmd (he:=by simp [hqd]) (hh:=by simp only [← hf]; simp) (hr2:=by simp only [← hf]; simp)
   · simp only [if_true];have hml:(dig wB m).length≤900000:=by
      have:=aak wB2 _ _ (Nat.lt_of_le_of_lt k1 (aaf wB2 a.v.natAbs)); have:=acx hl; omega
     by_cases hm:m=0
     · subst hm;have hne:ps≠[]:=by
        rintro rfl;rw [txG,txG,if_pos rfl,if_neg (by omega)] at k2;have:=ajT a.v.natAbs;rw [List.reverse_nil,List.flatten_nil,List.append_nil,List.append_nil] at k2;rw [← k2] at this; simp at this
       simp [eN,agV];refine ⟨ps,k2,k3,hne,k5,?_⟩;simp
     · have hD:=akO m tB (by decide) (by omega) (by rw [apN]; decide);have hmn:dig wB m≠[]:=mt ace.1 hm;have hpos:0<(dig wB m).length:=List.length_pos_iff.2 hmn;have hst:=aoF hm ps;have hnx:∀ p∈ps ++ [abK m],p≠[]∧p.length≤18:=by
        intro p hp;rcases List.mem_append.1 hp with h | h
        · exact k3 p h
        · rw [List.mem_singleton.1 h]; exact ⟨alO m,alP m⟩
       have hmd:m / tB<m:=Nat.div_lt_self (by omega) (by decide);have hpl:=atc (show 0<m by omega) k4 hA;have hk4:m / tB*tB ^ (ps ++ [abK m]).length≤a.v.natAbs:=by
        rw [List.length_append,List.length_singleton,Nat.pow_succ,Nat.mul_comm (tB ^ ps.length),← Nat.mul_assoc];exact Nat.le_trans (Nat.mul_le_mul_right _ (Nat.div_mul_le_self _ _)) k4
       have hk5:(ps ++ [abK m]).length≤57600000:=by rw [List.length_append,List.length_singleton]; omega
       have hr:m % tB<tB:=Nat.mod_lt _ (by decide);have hz0:m / tB=0→m % tB=m:=fun h=>by have:=Nat.div_add_mod m tB; rw [h] at this; omega
       simp only [eN] at hD ⊢;rw [apN] at hD;have hqn:=ace (n:=m / tB);have hfu:=c_fu (m % tB) (Nat.lt_trans hr (by decide));have hrep:=c_rep [48] (18 - (txN (m % tB)).length) (by omega) (by simp; omega);have hpl2:=ang hr;have hpad:=pad18 hr;rw [aj5] at hrep;have hnext:abK m=if m / tB=0 then txN (m % tB) else List.replicate (18 - (txN (m % tB)).length) 48 ++ txN (m % tB):=by
        rw [abK,hpad]; split
        · rename_i h; rw [hz0 h]
        · rfl
       have hw:IntKind.i64.wrap (18 - ((txN (m % tB)).length:Int))=(18 - (txN (m % tB)).length:Nat):=by rw [wi64 _ (by omega) (by omega)]; omega
       have hw2:((18 - (txN (m % tB)).length:Nat):Int)=18 - ((txN (m % tB)).length:Int):=by omega
       have fin:∀ t,t=abK m→(ps.map fun p=>AV.p (.str p)) ++ [AV.p (.str t)]=(ps ++ [abK m]).map fun p=>AV.p (.str p):=fun t ht=>by rw [ht]; simp
       by_cases hr0:m % tB=0
       · have hq0:¬ m / tB=0:=fun h=>hm (by rw [← hz0 h]; exact hr0);have hqp:0<(dig wB (m / tB)).length:=List.length_pos_iff.2 (mt hqn.1 hq0);have ht:List.replicate (18 - (txN (m % tB)).length) 48 ++ txN (m % tB)=abK m:=by rw [hnext,if_neg hq0]
         rw [hr0,adA] at ht hrep hw;rw [hr0,agV] at hD;simp only [List.length_singleton] at ht hrep hw;have hf:=fin _ ht;generalize hqd:dig wB (m / tB)=zq at *;simp [hpos];refine cp hD (by simp; exact ⟨rfl,rfl⟩) ?_ (h1:=by simp [tB]);simp [hqp,hw];refine c2 hrep ?_;simp;refine ⟨by simp only [maxL]; omega,?_⟩;refine rd (m / tB,ps ++ [abK m],true) ⟨by omega,by rw [hst]; exact k2,by simpa using hnx,hk5,hk4⟩ hmd (he:=by simp [hqd]) (hh:=by simp only [← hf]; simp) (hr2:=by simp only [← hf]; simp)
       · have hrd:dig wB (m % tB)=[m % tB]:=agp (by omega) (Nat.lt_trans hr (by decide));rw [hrd] at hD
         by_cases hq0:m / tB=0
         · have ht:txN (m % tB)=abK m:=by rw [hnext,if_pos hq0]
           have hf:=fin _ ht;rw [hq0,agV] at hD;simp [hpos];refine cp hD (by simp; exact ⟨rfl,rfl⟩) ?_ (h1:=by simp [tB]);simp;refine c2 hfu ?_;simp;refine ⟨by simp only [maxL]; omega,?_⟩;refine rd (m / tB,ps ++ [abK m],true) ⟨by omega,by rw [hst]; exact k2,by simpa using hnx,hk5,hk4⟩ hmd (he:=by simp [hq0,agV]) (hh:=by simp only [← hf]; simp) (hr2:=by simp only [← hf]; simp)
         · have hqp:0<(dig wB (m / tB)).length:=List.length_pos_iff.2 (mt hqn.1 hq0);have ht:List.replicate (18 - (txN (m % tB)).length) 48 ++ txN (m % tB)=abK m:=by rw [hnext,if_neg hq0]
           have hf:=fin _ ht;generalize hqd:dig wB (m / tB)=zq at *;simp [hpos];refine cp hD (by simp; exact ⟨rfl,rfl⟩) ?_ (h1:=by simp [tB]);simp;refine c2 hfu ?_;simp [hqp,hw];refine c2 hrep ?_;simp;refine ⟨by omega,by simp only [maxL]; omega,?_⟩;refine rd (m / tB,ps ++ [abK m],true) ⟨by omega,by rw [hst]; exact k2,by simpa using hnx,hk5,hk4⟩ hmd (he:=by simp [hqd]) (hh:=by simp only [← hf]; simp) (hr2:=by simp only [← hf]; simp)
 · rintro ⟨env',heap'⟩ ⟨ps,q1,q2,q3,q4,x1,x2,o,hpp⟩;dsimp only at x1 x2 hpp;subst hpp;have hps:0<ps.length:=List.length_pos_iff.2 q3;have hpd:txN a.v.natAbs=ps.reverse.flatten:=by rw [← auV,q1,txG,if_neg (by omega)]; simp
   obtain ⟨neg,hneg⟩:∃ neg:Bool,neg=decide (a.v<0):=⟨_,rfl⟩
   obtain ⟨pre,hpre⟩:∃ pre:List Nat,pre=if neg=true then [45] else []:=⟨_,rfl⟩
   have htx:txI a.v=pre ++ ps.reverse.flatten:=by
    rw [txI,← hpd,hpre,hneg]
    by_cases h:a.v<0
    · simp [h]
    · simp [h]
   obtain ⟨acc,hacc⟩:∃ acc:Nat→List Nat,acc=fun k=>pre ++ (ps.reverse.take k).flatten:=⟨_,rfl⟩
   have hend:acc ps.length=txI a.v:=by rw [hacc,htx]; dsimp only; rw [List.take_of_length_le (by simp)]
   have hsub:∀ k,(ps.reverse.take k).flatten.length≤1000000:=fun k=>by
    have h1:ps.reverse.flatten=(ps.reverse.take k).flatten ++ (ps.reverse.drop k).flatten:=by rw [← List.flatten_append,List.take_append_drop]
    rw [hpd,h1,List.length_append] at hd;omega
   have hprel:pre.length≤1:=by rw [hpre]; split <;> simp
   have hal:∀ k,(acc k).length≤1000001:=fun k=>by rw [hacc]; dsimp only; rw [List.length_append]; have:=hsub k; omega
   have hnext:∀ k (h:k<ps.length),acc (k+1)=acc k ++ ps[ps.length - 1 - k]'(by omega):=fun k h=>by
    rw [hacc];dsimp only;rw [List.take_succ_eq_append_getElem (by simpa using h),List.flatten_append,List.getElem_reverse,← List.append_assoc];simp
   have hbyte:∀ c∈txI a.v,c<256:=by
    intro c hc;rw [txI] at hc;have hD:=amS a.v.natAbs;rw [List.all_eq_true] at hD
    split at hc
    · rcases List.mem_cons.1 hc with h | h
      · omega
      · exact apu (hD c h)
    · exact apu (hD c hc)
   have hw1:IntKind.i64.wrap ((ps.length:Int) - 1)=ps.length - 1:=wi64 _ (by omega) (by omega);have hin:∀ i (h:i<ps.length),ps[i]≠[]∧ps[i].length≤18:=fun i h=>q2 _ (List.getElem_mem h);have hfin:=g_str (acc ps.length) (if neg=true then ps.length else ps.length - 1) (acc ps.length).length rfl (by rw [hend,htx]; intro h; rw [List.append_eq_nil_iff,← hpd] at h; have:=ajT a.v.natAbs; rw [h.2] at this; simp at this) (by have:=hal ps.length; omega) (by rw [hend]; exact hbyte);simp [x1,x2,hw1]
   by_cases hn:a.v<0
   · rw [decide_eq_true hn] at hneg;subst hneg;have hp0:acc 0=[45]:=by rw [hacc,hpre]; simp
     simp only [if_true] at hfin;simp [hn];refine cf (g_ws1 [45] (by simp) (by simp)) [3] ?_;simp [aaj,sig,x2,hw1];refine lp (α:=Nat) (fun k=>⟨[(11,.p (.int .i64 ((ps.length:Int) - 1 - k))),(10,.ptr 3 []),(6,.sl 2 ps.length 1 0 ps.length)],[.hole,.hole,.arr .grow ps.length 1 (ps.map fun p=>.p (.str p)),.box false (.st 359 [.ptr 3 [],.sl 4 k 1 0 (acc k).length]),.arr .bytes k 1 (u8s (acc k))]⟩)
      (fun k=>k≤ps.length) (fun k=>ps.length - k) 0 (by simp) ?_ (he:=by simp [x2]) (hh:=by simp [hp0,u8s]) (hr2:=by simp [u8s])
     intro k hk
     by_cases hkl:k<ps.length
     · have w1:IntKind.i64.wrap ((ps.length:Int) - 1 - k - 1)=ps.length - 1 - (k+1:Nat):=by rw [wi64 _ (by omega) (by omega)]; omega
       have e1:((ps.length:Int) - 1 - k).toNat=ps.length - 1 - k:=by omega
       have g1:(k:Int)≤(ps.length:Int) - 1:=by omega
       have i1:ps.length - 1 - k<ps.length:=by omega
       have hx:=hin _ i1;have hws:=g_ws2 (acc k) (ps[ps.length - 1 - k]) k (acc k).length rfl hx.1 (by omega) (by have:=hal k; omega);simp [g1,e1,i1,q3];refine cf hws [3,4] ?_ (hin:=by simp [sig,u8s]) (hset:=by simp [sig]) (hr:=by simp [u8s]);simp [sig,u8s,aaj,w1,aj6];refine rd (k+1) hkl (he:=by simp [hnext k hkl]) (hh:=by simp [hnext k hkl,u8s]) (hr2:=by simp [u8s])
     · have hke:k=ps.length:=by omega
       subst hke;have g2:¬ (ps.length:Int)≤(ps.length:Int) - 1:=by omega
       simp [g2];refine cf hfin [3,4] ?_ (hin:=by simp [sig,u8s]) (hset:=by simp [sig]) (hr:=by simp [u8s]);simp [sig,aaj,hend]
   · rw [decide_eq_false hn] at hneg;subst hneg;simp only [Bool.false_eq_true,if_false] at hfin hpre;have hp1:acc 1=ps[ps.length - 1]:=by rw [hnext 0 hps,hacc]; simp [hpre]
     have i0:ps.length - 1<ps.length:=by omega
     have hx0:=hin _ i0;have hws0:=g_ws1 (ps[ps.length - 1]) hx0.1 (by omega);rw [← hp1] at hws0 hx0;simp [hn,hw1]
     refine lp (α := Option Nat) (fun st => match st with
         | none=>⟨[(11,.p (.int .i64 ((ps.length:Int) - 1))),(10,.ptr 3 []),(6,.sl 2 ps.length 1 0 ps.length)],[.hole,.hole,.arr .grow ps.length 1 (ps.map fun p=>.p (.str p)),.box false (.p (.st 359 [.nptr,.nsl]))]⟩
         | some k=>⟨[(11,.p (.int .i64 ((ps.length:Int) - 1 - (k+1)))),(10,.ptr 3 []),(6,.sl 2 ps.length 1 0 ps.length)],[.hole,.hole,.arr .grow ps.length 1 (ps.map fun p=>.p (.str p)),.box false (.st 359 [.ptr 3 [],.sl 4 k 1 0 (acc (k+1)).length]),.arr .bytes k 1 (u8s (acc (k+1)))]⟩)
      (fun st=>match st with
       | none=>True
       | some k=>k+1≤ps.length) (fun st=>match st with
       | none=>ps.length+1
       | some k=>ps.length - (k+1)) none trivial ?_ (he:=by simp [x2])
     intro st hk;cases st with
     | none =>
      have w1:IntKind.i64.wrap ((ps.length:Int) - 1 - 1)=ps.length - 1 - (0+1):=by rw [wi64 _ (by omega) (by omega)]; omega
      have e1:((ps.length:Int) - 1).toNat=ps.length - 1:=by omega
      have g1:(1:Int)≤(ps.length:Int):=by omega
      simp [g1,e1,i0,q3,← hp1];refine cf hws0 [3] ?_;simp [aaj,sig,w1];refine rd (some 0) (by show 0+1≤ps.length; omega) (by show ps.length - (0+1)<ps.length+1; omega) (he:=by simp) (hh:=by simp [u8s]) (hr2:=by simp [u8s])
     | some k =>
      have hk:k+1≤ps.length:=hk
      by_cases hkl:k+1<ps.length
      · have w1:IntKind.i64.wrap ((ps.length:Int) - 1 - (k+1) - 1)=ps.length - 1 - (k+1+1):=by rw [wi64 _ (by omega) (by omega)]; omega
        have e1:((ps.length:Int) - 1 - (k+1)).toNat=ps.length - 1 - (k+1):=by omega
        have g1:(k:Int)+1≤(ps.length:Int) - 1:=by omega
        have i1:ps.length - 1 - (k+1)<ps.length:=by omega
        have hx:=hin _ i1;have hws:=g_ws2 (acc (k+1)) (ps[ps.length - 1 - (k+1)]) k (acc (k+1)).length rfl hx.1 (by omega) (by have:=hal (k+1); omega);simp [g1,e1,i1,q3];refine cf hws [3,4] ?_ (hin:=by simp [sig,u8s]) (hset:=by simp [sig]) (hr:=by simp [u8s]);simp [sig,u8s,aaj,w1,aj6];refine rd (some (k+1)) hkl (by show ps.length - (k+1+1)<ps.length - (k+1); omega) (he:=by simp [hnext (k+1) hkl]) (hh:=by simp [hnext (k+1) hkl,u8s]) (hr2:=by simp [u8s])
      · have hke:ps.length=k+1:=by omega
        have g2:¬ (k:Int)+1≤(ps.length:Int) - 1:=by omega
        rw [hke] at hfin hend;rw [Nat.add_sub_cancel] at hfin;simp [g2];refine cf hfin [3,4] ?_ (hin:=by simp [sig,u8s]) (hset:=by simp [sig]) (hr:=by simp [u8s]);simp [sig,aaj,hend]
theorem akP (a:NI) (hl:okW a.v) (hd:(txN a.v.natAbs).length≤1000000):aab Tryz.prog 248 [eI a] (.str (txI a.v)):=by
 rcases h:a.sm with _ | _
 · exact auu a h hl hd
 · exact auv a h
open Go
theorem amm:∀ (r:List Nat) (a:Nat),a≤r.foldl (fun n c=>n*10+(c - 48)) a
 | [],a=>Nat.le_refl _
 | x::r,a=>Nat.le_trans (show a≤a*10+(x - 48) by omega) (amm r _)
theorem alu:∀ (d:List Nat) (acc:Nat),d.all isD=true→d.foldl (fun n c=>n*10+(c - 48)) acc<1000000000000000000→Lib.parseUint10 acc (d.map UInt8.ofNat)=.ok (d.foldl (fun n c=>n*10+(c - 48)) acc)
 | [],acc,_,_=>rfl
 | c::r,acc,h,hl=>by
  simp only [List.all_cons,Bool.and_eq_true] at h;have hc:=h.1;simp only [isD,Bool.and_eq_true,decide_eq_true_eq] at hc;have h2:=amm r (acc*10+(c - 48));rw [List.foldl_cons] at hl ⊢;have e:(UInt8.ofNat c).toNat=c:=by simp; omega
  rw [List.map_cons,Lib.parseUint10,e,if_pos hc,if_neg (by omega),if_neg (by omega)];exact alu r _ h.2 hl
theorem awK {d:List Nat} (h:d.all isD=true) (h0:d≠[]) (h9:d.length≤18):Lib.atoiAll (d.map UInt8.ofNat)=.ok (valT d):=by
 have hl:=aaJ _ d rfl h;have hp:10 ^ d.length≤10 ^ 18:=Nat.pow_le_pow_right (by omega) h9;cases d with
 | nil=>exact (h0 rfl).elim
 | cons c r =>
  have hc:=(Bool.and_eq_true ..▸(List.all_cons▸h):isD c=true∧r.all isD=true).1;simp only [isD,Bool.and_eq_true,decide_eq_true_eq] at hc;have e:(UInt8.ofNat c).toNat=c:=by simp; omega
  have hl9:valT (c::r)<1000000000000000000:=by omega
  have hpar:=alu (c::r) 0 h hl9;rw [← valT] at hpar;rw [List.map_cons] at hpar;rw [List.map_cons,Lib.atoiAll];simp only [e];rw [if_neg (by omega),Lib.parseMag,if_neg (by simp),hpar];dsimp only;rw [if_neg (by omega),if_neg (by omega),if_neg (by omega)]
theorem ahg:∀ (b:List Nat) (x:Nat),b.foldl (fun n c=>n*10+(c - 48)) x=x*10 ^ b.length+valT b
 | [],x=>by simp [valT]
 | c::b,x=>by
  rw [valT,List.foldl_cons,List.foldl_cons,ahg b,ahg b (0*10+(c - 48)),List.length_cons,Nat.pow_succ,Nat.add_mul,Nat.mul_assoc,Nat.mul_comm 10];simp [Nat.add_assoc]
theorem aoB (a b:List Nat):valT (a ++ b)=valT a*10 ^ b.length+valT b:=by
 rw [valT,List.foldl_append,ahg]; rfl
theorem arK (k:Nat):10 ^ k≤2 ^ (4*k):=by
 rw [Nat.pow_mul]; exact Nat.pow_le_pow_left (by decide) k
theorem aoM {a K:Nat} (h:4*a≤K):10 ^ a≤2 ^ K:=Nat.le_trans (arK a) (Nat.pow_le_pow_right (by decide) h)
theorem ak5 {n k:Nat} (h:n<2 ^ k) (hk:k≤3*1000000):(txN n).length≤1000000 :=
 azg h hk (by decide)
theorem ajN (a:NF) (h:okR kB a.q):aab Tryz.prog 164 [eF a] (.str (txQ a.q)):=by
 have hb:kB=100000:=rfl;have w:=aiM a;have t1:=akP a.num (aaS h.1 kB_3) (ak5 h.1 (by omega));have t2:=akP a.den (aaS (by rw [aaU]; exact h.2) kB_3) (ak5 (by rw [aaU]; exact h.2) (by omega));rw [agT] at t1;rw [afg,adl] at t2;have l1:=ak5 h.1 (show kB≤3*1000000 by omega);have l2:=ak5 h.2 (show kB≤3*1000000 by omega);have l3:=amT a.q.num;refine aad nf ayx mix (by simp [Tryz.f164]) ?_;rw [txQ]
 by_cases hd:a.q.den=1
 · have e:a.isW=true:=by simp [NF.isW,hd]
   rw [e] at w;rw [if_pos hd];simp [Tryz.f164];refine c1 w ?_;simp [shpA];refine c1 t1 ?_;simp
 · have e:a.isW=false:=by simp [NF.isW,hd]
   rw [e] at w;rw [if_neg hd];simp [Tryz.f164];refine c1 w ?_;simp [shpA];refine e1 t1 ?_;simp [shpA];refine ⟨by omega,?_⟩;refine e1 t2 ?_;simp;omega
def kR:Nat:=2800
theorem ap1 (s:List Nat) (hd:(absT s).all isD=true) (hl:(absT s).length≤700):aab Tryz.prog 251 [.str s] (eI (.mk' (if negT s=true then -(valT (absT s):Int) else valT (absT s)))):=by
 refine aad nf ax2 mix (by simp [Tryz.f251]) ?_;simp [Tryz.f251];refine c2 (awz s) ?_;simp;refine c2 (amB s) ?_;simp;generalize absT s=d at *;generalize negT s=neg at *;have h10:smI 0=eI (.mk' 0):=(akD (by decide) (by decide)).symm;rw [show PV.st 128 [.int .i64 0,.nsl]=eI (.mk' 0) from h10];refine lp (α:=List Nat×NI) (fun x=>⟨[(4,.ptr 1 []),(3,.p (.bool neg)),(2,.ptr 0 []),(0,.p (.str x.1))],[.box false (.p (eI (.mk' 0))),.box false (.p (eI x.2))]⟩)
  (fun x=>∃ m:Nat,x.2.v=m∧m*10 ^ x.1.length+valT x.1=valT d∧x.1.all isD=true∧x.1.length≤700∧m<2 ^ kR) (fun x=>x.1.length) (d,.mk' 0) ⟨0,rfl,by simp,hd,hl,Nat.pow_pos (by decide)⟩ ?_
 rintro ⟨r,o⟩ ⟨m,k1,k2,k3,k4,k5⟩;dsimp only at k1 k2 k3 k4 k5;have hkR:kR=2800:=rfl;have hob:o.v.natAbs<2 ^ kR:=by rw [k1,Int.natAbs_natCast]; exact k5
 have hoW:okW o.v:=aaS hob (by have:kB=100000:=rfl; omega)
 by_cases hr:r=[]
 · subst hr;have hv:o.v=valT d:=by rw [k1]; simp [valT] at k2 ⊢; omega
   cases neg
   · have e:eI (.mk' (valT d:Nat))=eI o:=ai8 (by rw [NI.mk_v,hv]) (fun h=>by rw [NI.mk_v] at h; omega);simp;rw [e];simp [shpA]
   · have e:eI (.mk' (-(valT d:Nat)))=eI o.neg:=by rw [NI.neg,hv]
     simp;rw [e];refine c1 (aq8 o hoW) ?_;simp [shpA]
 · have hrl:0<r.length:=List.length_pos_iff.2 hr;obtain ⟨n,hn⟩:∃ n,n=min 18 r.length:=⟨_,rfl⟩
   have hnl:n≤r.length:=by omega
   have hn0:0<n:=by omega
   have hn18:n≤18:=by omega
   have hni:(if (r.length:Int) < 18 then (r.length:Int) else 18)=n:=by split <;> omega
   have htk:(r.take n).length=n:=by rw [List.length_take]; omega
   have hda:=k3;rw [← List.take_append_drop n r,List.all_append,Bool.and_eq_true] at hda;have hvl:=aaJ _ (r.take n) rfl hda.1;have hat:=c_atoi (r.take n) (valT (r.take n)) (awK hda.1 (by intro e; rw [e] at htk; simp at htk; omega) (by omega)) (by omega);rw [htk] at hvl;have hp18:10 ^ n≤10 ^ 18:=Nat.pow_le_pow_right (by decide) hn18;have hT:10 ^ n<wB ^ 1:=by rw [Nat.pow_one]; exact Nat.lt_of_le_of_lt hp18 (by decide)
   have hT64:((10 ^ n:Nat):Int).natAbs<2 ^ 64:=by rw [Int.natAbs_natCast]; exact Nat.lt_of_le_of_lt hp18 (by decide)
   have hTl:=aak wB2 1 _ hT;have hol:=ag8 hob;have hb:kB=100000:=rfl;have hvd:=aaJ _ d rfl hd;have hd7:10 ^ d.length≤2 ^ kR:=aoM (by have:kR=2800:=rfl; omega);have hpw:=c_Pow (.of 10) n (10 ^ n) (by decide) rfl (by omega) (by decide) (by omega);have hmul:=awF o (.mk' (10 ^ n:Nat)) (by rw [NI.mk_v,Int.natAbs_natCast]; omega);have hadd:=auC (o.mul (.mk' (10 ^ n:Nat))) (.of (valT (r.take n):Nat)) (aaS (ac2 (x:=o.v) (y:=((10 ^ n:Nat):Int)) hob hT64) (by omega)) (aaS (k:=64) (show ((valT (r.take n):Nat):Int).natAbs<2 ^ 64 by rw [Int.natAbs_natCast]; omega) (by omega));have hof:=c_Of (valT (r.take n):Nat);rw [← aqX (by omega) (by omega)] at hof;have hten:=c_Of 10;rw [← aqX (by decide) (by decide)] at hten;have hsp:valT r=valT (r.take n)*10 ^ (r.drop n).length+valT (r.drop n):=by rw [← aoB,List.take_append_drop]
   have hrd:r.length=n+(r.drop n).length:=by rw [List.length_drop]; omega
   have hinv:(m*10 ^ n+valT (r.take n))*10 ^ (r.drop n).length+valT (r.drop n)=valT d:=by
    rw [← k2,hsp,hrd,Nat.pow_add,Nat.add_mul,Nat.mul_assoc,Nat.add_assoc]
   generalize 10 ^ n=T at *;generalize hvv:valT (r.take n)=vv at *;have hfin:m*T+vv≤valT d:=by
    have:=Nat.le_mul_of_pos_right (m*T+vv) (show 0<10 ^ (r.drop n).length from Nat.pow_pos (by decide));omega
   simp [hr,hrl,hni];refine ⟨hnl,?_⟩;refine c1 hat ?_;simp;refine e1 hten ?_;simp;refine e2 hpw ?_;simp [shpA];refine e2 hmul ?_;simp;refine e1 hof ?_;simp;refine e2 hadd ?_;simp [shpA];refine ⟨rfl,hnl,?_⟩;refine rd (r.drop n,(o.mul (.mk' T)).add (.of vv)) ⟨m*T+vv,by rw [NI.aop,NI.ahY,NI.mk_v,k1]; rfl,hinv,hda.2,by dsimp only; omega,by omega⟩ (by dsimp only; omega)
theorem akE {s:List Nat} (h:abc s=true):negT s=false∧absT s=s:=by
 have hD:=afJ h;have:negT s=false:=by
  rw [negT,decide_eq_false_iff_not];intro h2;cases s with
  | nil=>simp at h2
  | cons c r =>
   simp at h2;subst h2;rw [List.all_cons,Bool.and_eq_true] at hD;simp [isD] at hD
 exact ⟨this,by rw [absT,this]; rfl⟩
theorem amy (s:List Nat):negT (cutN 47 s).1=negT s∧absT (cutN 47 s).1=numP s∧(cutN 47 s).2.1=denP s∧(cutN 47 s).2.2=frT s:=by
 cases s with
 | nil=>exact ⟨rfl,rfl,rfl,rfl⟩
 | cons c r =>
  by_cases h:c=45
  · subst h;have e:cutN 47 (45::r)=(45::(cutN 47 r).1,(cutN 47 r).2.1,(cutN 47 r).2.2):=by rw [cutN,if_neg (by decide)]
    rw [e];exact ⟨rfl,rfl,rfl,rfl⟩
  · have hn:negT (c::r)=false:=by rw [negT,decide_eq_false_iff_not]; simpa using h
    have ha:absT (c::r)=c::r:=by rw [absT,hn]; rfl
    have hn2:negT (cutN 47 (c::r)).1=false:=by
     rw [negT,decide_eq_false_iff_not,cutN]
     split
     · simp
     · simpa using h
    refine ⟨by rw [hn,hn2],?_,?_,?_⟩
    · rw [absT,hn2,numP,ha]; rfl
    · rw [denP,ha]
    · rw [frT,ha]
theorem awl {s:List Nat} (h:chk s=0):abc (numP s)=true∧(numP s).length≤600∧(denP s).length≤600∧(frT s=true→abc (denP s)=true):=by
 unfold chk at h
 split at h
 · cases h
 rename_i h1
 split at h
 · cases h
 rename_i h2;have h1:ai7 s=true:=by simpa using h1
 simp only [ai7,Bool.and_eq_true,Bool.or_eq_true,Bool.not_eq_true'] at h1;refine ⟨h1.1.1,by omega,by omega,fun h3=>?_⟩;rcases h1.2 with h4 | h4
 · rw [h3] at h4; cases h4
 · exact h4.1.1
theorem absT_tx (z:Int):absT (txI z)=txN z.natAbs:=by
 have:=(afl z []).2;simpa using this
theorem aeJ (c:Nat):∀ s:List Nat,(cutN c s).1.length≤s.length∧(cutN c s).2.1.length≤s.length∧(∀ x∈(cutN c s).1,x∈s)∧(∀ x∈(cutN c s).2.1,x∈s)
 | []=>by simp [cutN]
 | y::r=>by
  have ih:=aeJ c r;rw [cutN]
  split
  · simp;intro x hx; exact .inr hx
  · simp only [List.length_cons,List.mem_cons];refine ⟨by omega,by omega,?_,fun x hx=>.inr (ih.2.2.2 x hx)⟩;rintro x (rfl | hx)
    · exact .inl rfl
    · exact .inr (ih.2.2.1 x hx)
theorem ac4 (s:List Nat):(absT s).length≤s.length∧∀ x∈absT s,x∈s:=by
 rw [absT]
 split
 · exact ⟨by simp,fun x hx=>List.mem_of_mem_tail hx⟩
 · exact ⟨Nat.le_refl _,fun _ h=>h⟩
theorem auA (s:List Nat) (h:chk s=0) (hl:s.length≤1048576):aab Tryz.prog 166 [.str s] (eF ⟨valQ s,false⟩):=by
 obtain ⟨h1,h2,h3,h4⟩:=awl h;obtain ⟨p1,p2,p3,p4⟩:=amy s;obtain ⟨q1,q2,q3⟩:=aeY h;have hcut:=c_cut s 47 hl;rw [p3,p4] at hcut;have hr1:=ap1 (cutN 47 s).1 (by rw [p2]; exact afJ h1) (by rw [p2]; omega);rw [p1,p2] at hr1;have en:eI (NF.mk (valQ s) false).num=eI (.mk' (if negT s=true then -(valT (numP s):Int) else valT (numP s))):=by
  show eI ⟨(valQ s).num,false⟩=_;rw [q2]; rfl
 rw [← en] at hr1;refine aad nf ayv mix (by simp [Tryz.f166]) ?_;cases hf:frT s
 · rw [hf] at hcut q3;simp only [Bool.false_eq_true,if_false] at q3;have ed:(NF.mk (valQ s) false).den=.mk' 1:=by
    show NI.mk' ((valQ s).den:Int)=_;rw [q3]; rfl
   have hw:=aoh (NF.mk (valQ s) false).num;have ew:eF (.whole (NF.mk (valQ s) false).num)=eF ⟨valQ s,false⟩:=by
    rw [eF,eF,ed]; rfl
   rw [ew] at hw;simp [Tryz.f166];refine c2 hcut ?_;simp;refine c1 hr1 ?_;simp;refine c1 hw ?_;simp [shpA]
 · rw [hf] at hcut q3;simp only [if_true] at q3;have hd:=h4 hf;obtain ⟨d1,d2⟩:=akE hd;have hr2:=ap1 (denP s) (by rw [d2]; exact afJ hd) (by rw [d2]; omega);rw [d1,d2] at hr2;simp only [Bool.false_eq_true,if_false] at hr2;have ed:eI (NF.mk (valQ s) false).den=eI (.mk' (valT (denP s):Nat)):=by
    show eI (NI.mk' ((valQ s).den:Int))=_;rw [q3]
   rw [← ed] at hr2;rw [eF];simp [Tryz.f166];refine c2 hcut ?_;simp;refine c1 hr1 ?_;simp;refine c1 hr2 ?_;simp [shpA]
def lgN (n:Nat):Bool:=decide (600<(txN n).length)
theorem ay9 (a:NI) (h:a.v.natAbs<2 ^ kB):aab Tryz.prog 192 [eI a] (.bool (lgN a.v.natAbs)):=by
 have hb:kB=100000:=rfl;have hoW:=aaS h kB_3;have hB:=c_Bits a hoW;have hS:=akP a hoW (ak5 h (by omega));have hT:=amB (txI a.v);rw [absT_tx] at hT;refine aad nf ayl mix (by simp [Tryz.f192]) ?_;simp [Tryz.f192];refine c1 hB ?_
 by_cases h1:1800<akV a.v.natAbs
 · have h1':(1800:Int)<(akV a.v.natAbs:Nat):=by omega
   have e:decide ((600:Int)<((txN a.v.natAbs).length:Nat))=lgN a.v.natAbs:=by rw [lgN,decide_eq_decide]; omega
   simp [h1'];refine c1 hS ?_;simp;refine c2 hT ?_;simp [lgN];omega
 · have h2:=Nat.lt_of_lt_of_le (ap9 a.v.natAbs) (Nat.pow_le_pow_right (show 0<2 by decide) (show akV a.v.natAbs≤3*600 by omega));have h3:=ajg h2 (by decide);have e:lgN a.v.natAbs=false:=by rw [lgN,decide_eq_false_iff_not]; omega
   have h1':¬ (1800:Int)<(akV a.v.natAbs:Nat):=by omega
   simp [h1',e]
def lgQ (q:Rat):Bool:=lgN q.num.natAbs || lgN q.den
theorem akR (a:NF) (h:okR kB a.q):aab Tryz.prog 106 [eF a] (.bool (lgQ a.q)):=by
 have l1:=ay9 a.num h.1;have l2:=ay9 a.den (by rw [aaU]; exact h.2);rw [agT] at l1;rw [aaU] at l2;refine aad nf ayL mix (by simp [Tryz.f106]) ?_;rw [lgQ];cases hc:lgN a.q.num.natAbs
 · rw [hc] at l1;simp [Tryz.f106,shpA];refine c1 l1 ?_;simp [shpA];refine c1 l2 ?_;simp
 · rw [hc] at l1;simp [Tryz.f106,shpA];refine c1 l1 ?_;simp
def ata:List (Nat×Func)→FuncId→Option Func
 | [],_=>none
 | (i,g)::r,f=>bif Nat.beq i f then some g else ata r f
def AllFn (P:Program):List (Nat×Func)→Prop
 | []=>True
 | p::r=>IsFn P p.1 p.2∧AllFn P r
theorem apo {P:Program}:∀ {l:List (Nat×Func)},AllFn P l→∀ {f:Nat} {fn:Func},ata l f=some fn→IsFn P f fn
 | [],_,f,fn,h=>by simp [ata] at h
 | (i,g)::r,ha,f,fn,h=>by
  simp only [ata,Bool.cond_eq_ite] at h
  split at h
  · rename_i hf;simp only [Option.some.injEq] at h;subst h;rw [← Nat.eq_of_beq_eq_true hf]; exact ha.1
  · exact apo ha.2 h
noncomputable def tabL:List (Nat×Func):=[(2,Tryz.f2),(3,Tryz.f3),(4,Tryz.f4),(5,Tryz.f5),(6,Tryz.f6),(7,Tryz.f7),(8,Tryz.f8),(9,Tryz.f9),(10,Tryz.f10),(11,Tryz.f11),(12,Tryz.f12),(13,Tryz.f13),(14,Tryz.f14),(15,Tryz.f15),(16,Tryz.f16),(17,Tryz.f17),(18,Tryz.f18),(19,Tryz.f19),(20,Tryz.f20),(21,Tryz.f21),(22,Tryz.f22),(23,Tryz.f23),(24,Tryz.f24),(25,Tryz.f25),(26,Tryz.f26),(27,Tryz.f27),(28,Tryz.f28),(29,Tryz.f29),(30,Tryz.f30),(31,Tryz.f31),(32,Tryz.f32),(33,Tryz.f33),(34,Tryz.f34),(35,Tryz.f35),(36,Tryz.f36),(37,Tryz.f37),(38,Tryz.f38),(39,Tryz.f39),(40,Tryz.f40),(41,Tryz.f41),(42,Tryz.f42),(43,Tryz.f43),(44,Tryz.f44),(45,Tryz.f45),(46,Tryz.f46),(47,Tryz.f47),(48,Tryz.f48),(49,Tryz.f49),(50,Tryz.f50),(51,Tryz.f51),(52,Tryz.f52),(53,Tryz.f53),(54,Tryz.f54),(55,Tryz.f55),(56,Tryz.f56),(57,Tryz.f57),(58,Tryz.f58),(59,Tryz.f59),(60,Tryz.f60),(61,Tryz.f61),(62,Tryz.f62),(63,Tryz.f63),(64,Tryz.f64),(65,Tryz.f65),(66,Tryz.f66),(67,Tryz.f67),(68,Tryz.f68),(69,Tryz.f69),(70,Tryz.f70),(71,Tryz.f71),(72,Tryz.f72),(73,Tryz.f73),(74,Tryz.f74),(75,Tryz.f75),(76,Tryz.f76),(77,Tryz.f77),(78,Tryz.f78),(79,Tryz.f79),(80,Tryz.f80),(81,Tryz.f81),(82,Tryz.f82),(83,Tryz.f83),(84,Tryz.f84),(85,Tryz.f85),(86,Tryz.f86),(87,Tryz.f87),(88,Tryz.f88),(89,Tryz.f89),(90,Tryz.f90),(91,Tryz.f91),(92,Tryz.f92),(93,Tryz.f93),(94,Tryz.f94),(95,Tryz.f95),(96,Tryz.f96),(97,Tryz.f97),(98,Tryz.f98),(99,Tryz.f99),(100,Tryz.f100),(101,Tryz.f101),(102,Tryz.f102),(103,Tryz.f103),(104,Tryz.f104),(105,Tryz.f105),(106,Tryz.f106),(107,Tryz.f107),(108,Tryz.f108),(109,Tryz.f109),(110,Tryz.f110),(111,Tryz.f111),(112,Tryz.f112),(113,Tryz.f113),(114,Tryz.f114),(115,Tryz.f115),(116,Tryz.f116),(117,Tryz.f117),(118,Tryz.f118),(119,Tryz.f119),(120,Tryz.f120),(121,Tryz.f121),(122,Tryz.f122),(123,Tryz.f123),(124,Tryz.f124),(125,Tryz.f125),(126,Tryz.f126),(127,Tryz.f127),(128,Tryz.f128),(129,Tryz.f129),(130,Tryz.f130),(131,Tryz.f131),(132,Tryz.f132),(133,Tryz.f133),(134,Tryz.f134),(135,Tryz.f135),(136,Tryz.f136),(137,Tryz.f137),(138,Tryz.f138),(139,Tryz.f139),(140,Tryz.f140),(141,Tryz.f141),(142,Tryz.f142),(143,Tryz.f143),(144,Tryz.f144),(145,Tryz.f145),(146,Tryz.f146),(147,Tryz.f147),(148,Tryz.f148),(149,Tryz.f149),(150,Tryz.f150),(151,Tryz.f151),(152,Tryz.f152),(153,Tryz.f153),(154,Tryz.f154),(155,Tryz.f155),(156,Tryz.f156),(157,Tryz.f157),(158,Tryz.f158),(159,Tryz.f159),(160,Tryz.f160),(161,Tryz.f161),(162,Tryz.f162),(163,Tryz.f163),(164,Tryz.f164),(165,Tryz.f165),(166,Tryz.f166),(167,Tryz.f167),(168,Tryz.f168),(169,Tryz.f169),(170,Tryz.f170),(171,Tryz.f171),(172,Tryz.f172),(173,Tryz.f173),(174,Tryz.f174),(175,Tryz.f175),(176,Tryz.f176),(177,Tryz.f177),(178,Tryz.f178),(179,Tryz.f179),(180,Tryz.f180),(181,Tryz.f181),(182,Tryz.f182),(183,Tryz.f183),(184,Tryz.f184),(185,Tryz.f185),(186,Tryz.f186),(187,Tryz.f187),(188,Tryz.f188),(189,Tryz.f189),(190,Tryz.f190),(191,Tryz.f191),(192,Tryz.f192),(193,Tryz.f193),(194,Tryz.f194),(195,Tryz.f195),(196,Tryz.f196),(197,Tryz.f197),(198,Tryz.f198),(199,Tryz.f199),(200,Tryz.f200),(201,Tryz.f201),(202,Tryz.f202),(203,Tryz.f203),(204,Tryz.f204),(205,Tryz.f205),(206,Tryz.f206),(207,Tryz.f207),(208,Tryz.f208),(209,Tryz.f209),(210,Tryz.f210),(211,Tryz.f211),(212,Tryz.f212),(213,Tryz.f213),(214,Tryz.f214),(215,Tryz.f215),(216,Tryz.f216),(217,Tryz.f217),(218,Tryz.f218),(219,Tryz.f219),(220,Tryz.f220),(221,Tryz.f221),(222,Tryz.f222),(223,Tryz.f223),(224,Tryz.f224),(225,Tryz.f225),(226,Tryz.f226),(227,Tryz.f227),(228,Tryz.f228),(229,Tryz.f229),(230,Tryz.f230),(231,Tryz.f231),(232,Tryz.f232),(233,Tryz.f233),(234,Tryz.f234),(235,Tryz.f235),(236,Tryz.f236),(237,Tryz.f237),(238,Tryz.f238),(239,Tryz.f239),(240,Tryz.f240),(241,Tryz.f241),(242,Tryz.f242),(243,Tryz.f243),(244,Tryz.f244),(245,Tryz.f245),(246,Tryz.f246),(247,Tryz.f247),(248,Tryz.f248),(249,Tryz.f249),(250,Tryz.f250),(251,Tryz.f251),(252,Tryz.f252),(253,Tryz.f253),(254,Tryz.f254),(255,Tryz.f255),(256,Tryz.f256),(257,Tryz.f257),(258,Tryz.f258),(259,Tryz.f259),(260,Tryz.f260),(261,Tryz.f261),(262,Tryz.f262),(263,Tryz.f263),(264,Tryz.f264),(265,Tryz.f265),(266,Tryz.f266),(267,Tryz.f267),(268,Tryz.f268),(269,Tryz.f269),(270,Tryz.f270),(271,Tryz.f271),(272,Tryz.f272),(273,Tryz.f273),(274,Tryz.f274),(275,Tryz.f275),(276,Tryz.f276),(277,Tryz.f277),(278,Tryz.f278),(279,Tryz.f279),(280,Tryz.f280),(281,Tryz.f281),(282,Tryz.f282),(283,Tryz.f283),(284,Tryz.f284),(285,Tryz.f285),(286,Tryz.f286),(287,Tryz.f287),(288,Tryz.f288),(289,Tryz.f289),(290,Tryz.f290),(291,Tryz.f291),(292,Tryz.f292),(293,Tryz.f293),(294,Tryz.f294),(295,Tryz.f295),(296,Tryz.f296),(297,Tryz.f297),(298,Tryz.f298),(299,Tryz.f299),(300,Tryz.f300),(301,Tryz.f301),(302,Tryz.f302),(303,Tryz.f303),(304,Tryz.f304),(305,Tryz.f305),(306,Tryz.f306),(307,Tryz.f307),(308,Tryz.f308),(309,Tryz.f309),(310,Tryz.f310),(311,Tryz.f311),(313,Tryz.f313),(314,Tryz.f314),(315,Tryz.f315),(316,Tryz.f316),(317,Tryz.f317),(318,Tryz.f318),(319,Tryz.f319),(320,Tryz.f320),(321,Tryz.f321),(322,Tryz.f322),(323,Tryz.f323),(324,Tryz.f324),(325,Tryz.f325),(326,Tryz.f326),(327,Tryz.f327),(328,Tryz.f328),(329,Tryz.f329),(330,Tryz.f330),(331,Tryz.f331),(332,Tryz.f332),(333,Tryz.f333),(334,Tryz.f334),(335,Tryz.f335),(336,Tryz.f336),(337,Tryz.f337),(338,Tryz.f338),(339,Tryz.f339),(340,Tryz.f340),(341,Tryz.f341),(342,Tryz.f342),(343,Tryz.f343),(344,Tryz.f344),(345,Tryz.f345),(346,Tryz.f346),(347,Tryz.f347),(348,Tryz.f348),(349,Tryz.f349),(351,Tryz.f351),(352,Tryz.f352),(353,Tryz.f353),(354,Tryz.f354),(355,Tryz.f355),(356,Tryz.f356),(357,Tryz.f357),(358,Tryz.f358),(360,Tryz.f360),(362,Tryz.f362),(363,Tryz.f363),(364,Tryz.f364),(365,Tryz.f365),(366,Tryz.f366),(367,Tryz.f367),(368,Tryz.f368),(369,Tryz.f369),(370,Tryz.f370),(371,Tryz.f371),(372,Tryz.f372),(373,Tryz.f373),(374,Tryz.f374),(375,Tryz.f375),(376,Tryz.f376),(377,Tryz.f377),(378,Tryz.f378),(379,Tryz.f379),(382,Tryz.f382),(383,Tryz.f383),(384,Tryz.f384),(385,Tryz.f385),(386,Tryz.f386),(387,Tryz.f387),(388,Tryz.f388),(389,Tryz.f389),(390,Tryz.f390),(391,Tryz.f391),(392,Tryz.f392),(393,Tryz.f393),(394,Tryz.f394),(395,Tryz.f395),(396,Tryz.f396),(397,Tryz.f397),(398,Tryz.f398),(432,Tryz.f432)]
theorem tab_ok:AllFn Tryz.prog tabL:=⟨isF2,isF3,isF4,isF5,isF6,isF7,isF8,isF9,isF10,isF11,isF12,isF13,isF14,isF15,isF16,isF17,isF18,isF19,isF20,isF21,isF22,isF23,isF24,isF25,isF26,isF27,isF28,isF29,isF30,isF31,isF32,isF33,isF34,isF35,isF36,isF37,isF38,isF39,isF40,isF41,isF42,isF43,isF44,isF45,isF46,isF47,isF48,isF49,isF50,isF51,isF52,isF53,isF54,isF55,isF56,isF57,isF58,isF59,isF60,isF61,isF62,isF63,isF64,isF65,isF66,isF67,isF68,isF69,isF70,isF71,isF72,isF73,isF74,isF75,isF76,isF77,isF78,isF79,isF80,isF81,isF82,isF83,isF84,isF85,isF86,isF87,isF88,isF89,isF90,isF91,isF92,isF93,isF94,isF95,isF96,isF97,isF98,isF99,isF100,isF101,isF102,isF103,ayM,isF105,ayL,isF107,isF108,isF109,isF110,isF111,isF112,isF113,isF114,ayK,ayJ,ayI,azU,ayH,azT,azS,isF122,isF123,isF124,isF125,isF126,isF127,isF128,isF129,isF130,isF131,isF132,isF133,isF134,isF135,isF136,isF137,isF138,isF139,isF140,isF141,isF142,isF143,isF144,ayG,ayF,atl,ayE,ayD,ayC,ayB,ayA,aAI,aAH,aAG,azR,isF157,isF158,isF159,isF160,isF161,ayz,ayy,ayx,ayw,ayv,ayu,ayt,ays,ayr,ayq,ayp,ayo,ayn,isF175,isF176,isF177,isF178,isF179,isF180,isF181,isF182,isF183,isF184,isF185,isF186,isF187,isF188,isF189,aym,isF191,ayl,isF193,isF194,isF195,isF196,ayk,ayj,isF199,isF200,isF201,isF202,isF203,isF204,isF205,isF206,isF207,isF208,isF209,isF210,isF211,isF212,isF213,isF214,isF215,isF216,isF217,isF218,isF219,isF220,isF221,isF222,isF223,isF224,isF225,isF226,isF227,isF228,ayi,ayh,ayg,ayf,aye,ayd,ayc,ayb,aya,ax9,ax8,ax7,isF241,isF242,isF243,isF244,ax6,apt,ax5,atk,ax4,ax3,ax2,isF252,ax1,ax0,al6,axZ,axY,axX,axW,isF260,isF261,isF262,axV,isF264,isF265,isF266,isF267,isF268,isF269,isF270,atj,isF272,axU,isF274,isF275,isF276,isF277,isF278,isF279,isF280,isF281,isF282,isF283,isF284,isF285,isF286,isF287,isF288,isF289,isF290,isF291,axT,axS,axR,axQ,axP,axO,isF298,axN,axM,isF301,axL,axK,isF304,ati,axJ,axI,axH,isF309,isF310,axG,axF,axE,isF315,axD,axC,axB,isF319,axA,axz,axy,isF323,isF324,isF325,isF326,isF327,isF328,isF329,axx,axw,axv,isF333,axu,isF335,axt,axs,isF338,isF339,isF340,isF341,isF342,axr,isF344,isF345,isF346,isF347,isF348,axq,isF351,isF352,isF353,isF354,isF355,isF356,isF357,isF358,isF360,isF362,isF363,isF364,isF365,isF366,isF367,isF368,isF369,isF370,isF371,axp,axo,isF374,isF375,isF376,isF377,isF378,isF379,isF382,isF383,isF384,isF385,axn,isF387,isF388,isF389,isF390,isF391,isF392,isF393,isF394,isF395,isF396,isF397,isF398,isF432,trivial⟩
noncomputable def plan (facts:FuncId→List PV→Option PV) (pol:FuncId→FuncId→Nat):Plan:=⟨ata tabL,facts,fun _ _ _=>none,pol,fun _ _ _=>none⟩
theorem plan_ok {facts:FuncId→List PV→Option PV} {pol:FuncId→FuncId→Nat} (h:∀ f vs v,facts f vs=some v→aab Tryz.prog f vs v):afW Tryz.prog (plan facts pol):=by
 refine ⟨mix,fun f fn hf=>apo tab_ok hf,fun f vs v hk=>h f vs v hk,fun f args H v H' hk=>?_,fun f args H hin v hk=>?_⟩
 · simp only [plan] at hk; cases hk
 · simp only [plan] at hk; cases hk
noncomputable def run0 (facts:FuncId→List PV→Option PV) (pol:FuncId→FuncId→Nat) (f:FuncId) (vs:List PV):Option PV:=runP Tryz.prog nf (plan facts pol) (adu Tryz.prog nf (plan facts pol) 20) f vs
theorem asb {facts:FuncId→List PV→Option PV} {pol:FuncId→FuncId→Nat} (h:∀ f vs v,facts f vs=some v→aab Tryz.prog f vs v) {f:FuncId} {vs:List PV} {v:PV} (hr:run0 facts pol f vs=some v):aab Tryz.prog f vs v:=reckon 20 (plan_ok h) hr
def noF:FuncId→List PV→Option PV:=fun _ _=>none
def setD:PV:=.st 410 ((List.range 256).map fun i=>.bool (isD i))
theorem apW (c:Nat) (hc:c<256):aab Tryz.prog 386 [.fptr setD,.int .u8 c] (.bool (isD c)):=by
 refine aad nf axn mix (by simp [Tryz.f386]) ?_;have hg:(List.range 256)[c]?=some c:=List.getElem?_range hc;simp [Tryz.f386,setD,hg,hc]
theorem an9 (s:List Nat) (h:s.length≤1048576) (hb:∀ c∈s,c<256):aab Tryz.prog 372 [.str s,.fptr setD] (.str (agS s)):=by
 refine aad nf axp mix (by simp [Tryz.f372]) ?_;simp [Tryz.f372];refine lp (α:=List Nat) (fun r=>⟨[(1,.p (.fptr setD)),(0,.p (.str r))],[]⟩) (fun r=>agS r=agS s∧r.length≤s.length∧∀ c∈r,c<256) (fun r=>r.length) s (by exact ⟨rfl,Nat.le_refl _,hb⟩) ?_;rintro r ⟨h1,h2,h3⟩;cases r with
 | nil =>
  have e:agS s=[]:=by rw [← h1]; rfl
  simp [e]
 | cons x r =>
  have hx:=h3 x (by simp);have hr:agS (x::r)=if isD x=true then agS r else x::r:=by
   rw [agS,List.dropWhile_cons]; split <;> rfl
  rw [hr] at h1;have q2:(0:Int)<(r.length:Int)+1:=by omega
  simp [q2];refine c2 (apW x hx) ?_;cases hd:isD x
  · rw [hd] at h1;simp [← h1]
  · rw [hd] at h1;simp;exact rd r ⟨by simpa using h1,by simp at h2; omega,fun c hc=>h3 c (by simp [hc])⟩ (h1:=by simp)
theorem amA (s:List Nat) (h:s.length≤1048576) (hb:∀ c∈s,c<256):aab Tryz.prog 373 [.str s,.fptr setD] (.str (aed s)):=by
 refine aad nf axo mix (by simp [Tryz.f373]) ?_;simp [Tryz.f373];refine lp (α:=List Nat) (fun r=>⟨[(1,.p (.fptr setD)),(0,.p (.str r))],[]⟩) (fun r=>aed r=aed s∧r.length≤s.length∧∀ c∈r,c<256) (fun r=>r.length) s (by exact ⟨rfl,Nat.le_refl _,hb⟩) ?_;rintro r ⟨h1,h2,h3⟩;rcases List.eq_nil_or_concat r with rfl | ⟨t,x,rfl⟩
 · have e:aed s=[]:=by rw [← h1]; rfl
   simp [e]
 · simp only [List.concat_eq_append] at h1 h2 h3 ⊢;have hx:=h3 x (by simp);have hr:aed (t ++ [x])=if isD x=true then aed t else t ++ [x]:=by
    rw [aed,List.reverse_append,List.reverse_cons,List.reverse_nil,List.nil_append,List.singleton_append,List.dropWhile_cons]
    split
    · rfl
    · simp
   rw [hr] at h1;have q2:(0:Int)<(t.length:Int)+1:=by omega
   have w1:IntKind.i64.wrap (t.length:Int)=t.length:=wi64 _ (by omega) (by simp at h2; omega);simp [q2,w1];refine c2 (apW x hx) ?_;cases hd:isD x
   · rw [hd] at h1;simp [← h1]
   · rw [hd] at h1;simp [w1];exact rd t ⟨by simpa using h1,by simp at h2; omega,fun c hc=>h3 c (by simp [hc])⟩ (h1:=by simp)
def digS:List Nat:=[48,49,50,51,52,53,54,55,56,57]
theorem aum:aab Tryz.prog 371 [.str digS] (.tup [setD,.bool true]):=asb (facts:=noF) (pol:=fun _ _=>0) (fun _ _ _ h=>by cases h) (by kernel_rfl)
theorem tzSet:aaT Tryz.prog 411=some (.st 410 (List.replicate 256 (.bool false))):=by kernel_rfl
theorem awv (s:List Nat) (h:s.length≤1048576) (hb:∀ c∈s,c<256):aab Tryz.prog 349 [.str s,.str digS] (.str (agS (aed s))):=by
 refine aad nf axq mix (by simp [Tryz.f349]) ?_
 by_cases h0:s=[]
 · subst h0;simp [Tryz.f349,digS,agS,aed]
 simp [Tryz.f349,digS,h0];refine c1 aum ?_;have hr:(aed s).length≤s.length:=by
  rw [aed,List.length_reverse];have:=(List.dropWhile_sublist isD (l:=s.reverse)).length_le;simpa using this
 have hm:∀ c∈aed s,c<256:=by
  intro c hc;rw [aed,List.mem_reverse] at hc;exact hb c (by simpa using (List.dropWhile_sublist isD (l:=s.reverse)).subset hc)
 simp [tzSet];have hsh:shp setD=.agg 410:=rfl;refine ⟨⟨⟨hsh.symm,by rw [hsh]; intro e; cases e⟩,hsh.symm⟩,?_⟩;refine cp (amA s h hb) (by simp; exact ⟨rfl,rfl⟩) ?_;simp;refine cp (an9 (aed s) (by omega) hm) (by simp; exact ⟨rfl,rfl⟩) ?_;simp
def aaw:List Int→Int
 | []=>0
 | e::r=>if e=0 then aaw r else e
def ack (b:Bool) (e:Int):Int:=if b=true then e else 0
theorem awx (es:List Int) (h:es.length≤1048576):aab Tryz.prog 317 [.seq (es.map (.int .i64))] (.int .i64 (aaw es)):=by
 refine aad nf axC mix (by simp [Tryz.f317]) ?_;simp [Tryz.f317];refine lp (α:=Nat) (fun i=>⟨[(7,.p (.int .i64 i)),(6,.p (.int .i64 es.length)),(5,.p (.seq (es.map (.int .i64))))],[]⟩) (fun i=>i≤es.length∧aaw (es.drop i)=aaw es) (fun i=>es.length - i) 0 (by simp) ?_;rintro i ⟨h1,h2⟩;simp
 by_cases hi:i<es.length
 · rw [List.drop_eq_getElem_cons hi] at h2;have hw:=wi1 (i:=i) (by omega);simp [hi]
   by_cases he:es[i]=0
   · simp [aaw,he] at h2;simp [he,hw];exact rd (i+1) ⟨hi,h2⟩
   · simp [aaw,he] at h2;simp [he,← h2]
 · have:i=es.length:=by omega
   subst this;simp [aaw] at h2;simp [← h2]
theorem aeK (es:List Int) (h:es.length≤1048576):aab Tryz.prog 73 [.seq (es.map (.int .i64))] (.int .i64 (aaw es)):=by
 refine aad nf isF73 mix (by simp [Tryz.f73]) ?_;simp [Tryz.f73];refine lp (α:=Nat) (fun i=>⟨[(7,.p (.int .i64 i)),(6,.p (.int .i64 es.length)),(5,.p (.seq (es.map (.int .i64))))],[]⟩) (fun i=>i≤es.length∧aaw (es.drop i)=aaw es) (fun i=>es.length - i) 0 (by simp) ?_;rintro i ⟨h1,h2⟩;simp
 by_cases hi:i<es.length
 · rw [List.drop_eq_getElem_cons hi] at h2;have hw:=wi1 (i:=i) (by omega);simp [hi]
   by_cases he:es[i]=0
   · simp [aaw,he] at h2;simp [he,hw];exact rd (i+1) ⟨hi,h2⟩
   · simp [aaw,he] at h2;simp [he,← h2]
 · have:i=es.length:=by omega
   subst this;simp [aaw] at h2;simp [← h2]
theorem awy (es:List Int) (h:es.length≤1048576):aab Tryz.prog 15 [.seq (es.map (.int .i64))] (.int .i64 (aaw es)):=by
 refine aad nf isF15 mix (by simp [Tryz.f15]) ?_;simp [Tryz.f15];refine lp (α:=Nat) (fun i=>⟨[(7,.p (.int .i64 i)),(6,.p (.int .i64 es.length)),(5,.p (.seq (es.map (.int .i64))))],[]⟩) (fun i=>i≤es.length∧aaw (es.drop i)=aaw es) (fun i=>es.length - i) 0 (by simp) ?_;rintro i ⟨h1,h2⟩;simp
 by_cases hi:i<es.length
 · rw [List.drop_eq_getElem_cons hi] at h2;have hw:=wi1 (i:=i) (by omega);simp [hi]
   by_cases he:es[i]=0
   · simp [aaw,he] at h2;simp [he,hw];exact rd (i+1) ⟨hi,h2⟩
   · simp [aaw,he] at h2;simp [he,← h2]
 · have:i=es.length:=by omega
   subst this;simp [aaw] at h2;simp [← h2]
theorem aiL (b:Bool) (e:Int):aab Tryz.prog 318 [.bool b,.int .i64 e] (.int .i64 (ack b e)):=by
 refine aad nf axB mix (by simp [Tryz.f318]) ?_;cases b <;> simp [Tryz.f318,ack]
theorem ad1 (b:Bool) (e:Int):aab Tryz.prog 83 [.bool b,.int .i64 e] (.int .i64 (ack b e)):=by
 refine aad nf isF83 mix (by simp [Tryz.f83]) ?_;cases b <;> simp [Tryz.f83,ack]
theorem aun (s:List Nat) (h:s.length≤1048576) (hb:∀ c∈s,c<256):aab Tryz.prog 316 [.str s] (.bool (abc s)):=by
 have ht:=awv s h hb;have hn:=aql s;rw [show digS=[48,49,50,51,52,53,54,55,56,57] from rfl] at ht;refine aad nf axD mix (by simp [Tryz.f316]) ?_;generalize agS (aed s)=t at *;cases s with
 | nil=>simp [Tryz.f316,abc]
 | cons c r =>
  have hc:=hb c (by simp)
  by_cases h1:t=[]
  · have h2:=hn.1 h1;have e:abc (c::r)=(decide (¬ c=48) || decide (r=[])):=by
     rw [abc,h2]
     by_cases h3:c=48
     · subst h3; simp
     · simp [h3]
    rw [e];clear e h2 hn
    by_cases h3:c=48
    · cases r with
      | nil =>
       simp [Tryz.f316];refine c2 ht ?_;simp [h1,h3]
      | cons x r =>
       simp [Tryz.f316];refine c2 ht ?_;simp [h1,h3]
    · have h4:¬ (c:Int)=48:=by omega
      simp [Tryz.f316];refine c2 ht ?_;simp [h1,h3,h4]
  · have h2:¬ (c::r).all isD=true:=mt hn.2 h1;have h3:(c::r).all isD=false:=by simpa using h2
    have e:abc (c::r)=false:=by rw [abc,h3]; simp
    rw [e];clear e h2 h3 hn;simp [Tryz.f316];refine c2 ht ?_;simp [h1]
theorem gcd_cmp {a b:Nat}:(decide (ordI (gcdI a b) 1≠0))=decide (Nat.gcd a b≠1):=by
 rw [decide_eq_decide,ordI,gcdI,Int.natAbs_natCast,Int.natAbs_natCast]
 split
 · simp; omega
 · split
   · simp; omega
   · simp; omega
theorem okV {s:List Nat} (h:s.all isD=true) (hl:s.length≤700):okW (valT s:Nat):=by
 have h1:=aaJ _ s rfl h;have h2:valT s<2 ^ kR:=Nat.lt_of_lt_of_le h1 (aoM (by have:kR=2800:=rfl; omega));exact aaS (k:=kR) (by rw [Int.natAbs_natCast]; exact h2) (by have:kB=100000:=rfl; have:kR=2800:=rfl; omega)
theorem auB (s:List Nat) (h:s.length≤1048576) (hb:∀ c∈s,c<256):aab Tryz.prog 263 [.str s] (.int .i64 (chk s)):=by
 have hcp:=awB s;have hcut:=c_cut (absT s) 47 (Nat.le_trans (ac4 s).1 h);rw [show (cutN 47 (absT s)).1=numP s from rfl,show (cutN 47 (absT s)).2.1=denP s from rfl,show (cutN 47 (absT s)).2.2=frT s from rfl] at hcut;refine aad nf axV mix (by simp [Tryz.f263]) ?_;simp [Tryz.f263,-aai];rw [aai];simp [-aai];rw [aai];simp [-aai];refine c2 hcp ?_;simp [-aai];rw [aai];simp [-aai];refine c2 hcut ?_;simp [-aai];have hlA:=(ac4 s).1;have hcl:=aeJ 47 (absT s);have hlN:(numP s).length≤1048576:=by have:=hcl.1; rw [numP]; omega
 have hlD:(denP s).length≤1048576:=by have:=hcl.2.1; rw [denP]; omega
 have hbN:∀ c∈numP s,c<256:=fun c hc=>hb c ((ac4 s).2 c (hcl.2.2.1 c hc));have hbD:∀ c∈denP s,c<256:=fun c hc=>hb c ((ac4 s).2 c (hcl.2.2.2 c hc));clear hcl hlA;have hdN:=aun (numP s) hlN hbN;have hdD:=aun (denP s) hlD hbD;obtain ⟨f1,hf1⟩:∃ f1,f1=(abc (numP s) && !(negT s && decide (numP s=[48]))):=⟨_,rfl⟩
 obtain ⟨f2,hf2⟩:∃ f2,f2=(f1 && (!frT s || (abc (denP s) && decide (denP s≠[48]) && decide (denP s≠[49])))):=⟨_,rfl⟩
 have hchk:chk s=if f2=false then 1 else if 600<(numP s).length∨600<(denP s).length then 4 else if frT s=true∧Nat.gcd (valT (numP s)) (valT (denP s))≠1 then 1 else 0:=by rw [hf2,hf1]; rfl
 rw [hchk];clear hchk hcut;generalize frT s=fr at *;refine join (fun s'=>getE s'.env 8=.p (.bool f1)∧getE s'.env 7=.p (.bool fr)∧getE s'.env 6=.p (.str (denP s))∧getE s'.env 5=.p (.str (numP s))∧s'.heap=[]) ?_ ?_
 · simp;refine c1 hdN ?_;rw [hf1];cases abc (numP s)
   · simp
   · cases negT s
     · simp
     · by_cases hn:numP s=[48]
       · simp [hn]
       · simp [hn]
 rintro ⟨env',heap'⟩ ⟨x1,x2,x3,x4,hpp⟩;dsimp only at x1 x2 x3 x4 hpp;subst hpp;refine join (fun s'=>getE s'.env 8=.p (.bool f2)∧getE s'.env 7=.p (.bool fr)∧getE s'.env 6=.p (.str (denP s))∧getE s'.env 5=.p (.str (numP s))∧s'.heap=[]) ?_ ?_
 · rw [hf2];cases fr
   · simp [x1,x2,x3,x4]
   · cases f1
     · simp [x1,x2,x3,x4]
     · simp [x1,x2,x3,x4];refine c1 hdD ?_;cases abc (denP s)
       · simp [x1,x2,x3,x4]
       · by_cases hn:denP s=[48]
         · simp [x1,x2,x3,x4,hn]
         · by_cases hn1:denP s=[49]
           · simp [x1,x2,x3,x4,hn1]
           · simp [x1,x2,x3,x4,hn,hn1]
 clear x1 x2 x3 x4 env';rintro ⟨env',heap'⟩ ⟨x1,x2,x3,x4,hpp⟩;dsimp only at x1 x2 x3 x4 hpp;subst hpp;have head:∀ (fb lb:Bool),aab Tryz.prog 317 [.seq [.int .i64 (ack fb 1),.int .i64 (ack lb 4)]] (.int .i64 (if fb=true then 1 else if lb=true then 4 else 0)):=fun fb lb=>by
  have:=awx [ack fb 1,ack lb 4] (by simp);cases fb <;> cases lb <;> exact this
 have w0:=aiL (!f2) 1;have wt:=aiL true 4;have wf:=aiL false 4;have hT:=head (!f2) true;have hF:=head (!f2) false;have i1:(600<(numP s).length)↔(600:Int)<((numP s).length:Nat):=by omega
 have i2:(600<(denP s).length)↔(600:Int)<((denP s).length:Nat):=by omega
 by_cases l1:(600:Int)<((numP s).length:Nat)
 · simp [x1,x2,x3,x4];refine c2 w0 ?_;simp [x1,x2,x3,x4,l1];refine c2 wt ?_;simp;refine cp hT (by simp; exact ⟨rfl,rfl⟩) ?_;cases f2
   · simp
   · simp [i1.2 l1]
 by_cases l2:(600:Int)<((denP s).length:Nat)
 · simp [x1,x2,x3,x4];refine c2 w0 ?_;simp [x1,x2,x3,x4,l1,l2];refine c2 wt ?_;simp;refine cp hT (by simp; exact ⟨rfl,rfl⟩) ?_;cases f2
   · simp
   · simp [i2.2 l2]
 have l1':¬ 600<(numP s).length:=mt i1.1 l1;have l2':¬ 600<(denP s).length:=mt i2.1 l2;have v0:=aiL false 1;have v1:=aiL true 1;simp [x1,x2,x3,x4];refine c2 w0 ?_;simp [x1,x2,x3,x4,l1,l2];refine c2 wf ?_;simp;refine cp hF (by simp; exact ⟨rfl,rfl⟩) ?_;cases f2
 · simp
 cases fr
 · simp [x1,x2,x3,x4,l1',l2'];refine c2 v0 ?_;simp [ack];exact ⟨by omega,by omega⟩
 have hdec:abc (numP s)=true∧abc (denP s)=true:=by
  cases hA:abc (numP s)
  · rw [hf1,hA] at hf2; simp at hf2
  cases hB:abc (denP s)
  · rw [hB] at hf2; simp at hf2
  exact ⟨rfl,rfl⟩
 obtain ⟨n1,n2⟩:=akE hdec.1;obtain ⟨n3,n4⟩:=akE hdec.2;have r1:=ap1 (numP s) (by rw [n2]; exact afJ hdec.1) (by rw [n2]; omega);have r2:=ap1 (denP s) (by rw [n4]; exact afJ hdec.2) (by rw [n4]; omega);rw [n1,n2] at r1;rw [n3,n4] at r2;simp only [Bool.false_eq_true,if_false] at r1 r2;have hg:=c_Gcd (.mk' (valT (numP s):Nat)) (.mk' (valT (denP s):Nat)) (okV (afJ hdec.1) (by omega)) (okV (afJ hdec.2) (by omega));rw [NI.mk_v,NI.mk_v] at hg;have ho:=c_Of 1;rw [arU] at ho;have hc:=c_Cmp (.mk' (gcdI (valT (numP s):Nat) (valT (denP s):Nat))) (.mk' 1) (ae8 (okV (afJ hdec.2) (by omega)) (by rw [NI.mk_v,gcdI,Int.natAbs_natCast,Int.natAbs_natCast,Int.natAbs_natCast]; exact Nat.gcd_le_right _ (agX hdec.2 (fun e=>by rw [e] at hf2; simp at hf2)))) (by rw [okW]; decide);rw [NI.mk_v,NI.mk_v] at hc;have hgc:=gcd_cmp (a:=valT (numP s)) (b:=valT (denP s));generalize ordI (gcdI (valT (numP s):Nat) (valT (denP s):Nat)) 1=o at *
 by_cases h1:Nat.gcd (valT (numP s)) (valT (denP s))=1
 · have ho0:o=0:=by simpa [h1] using hgc
   simp [x1,x2,x3,x4,l1',l2',h1];refine c1 r1 ?_;simp [x1,x2,x3,x4];refine c1 r2 ?_;simp;refine c2 hg ?_;simp;refine c1 ho ?_;simp;refine c2 hc ?_;simp [ho0];refine c2 v0 ?_;simp [ack];rw [if_neg (by omega),if_pos h1]
 · have ho0:¬ o=0:=by simpa [h1] using hgc
   simp [x1,x2,x3,x4,l1',l2',h1];refine c1 r1 ?_;simp [x1,x2,x3,x4];refine c1 r2 ?_;simp;refine c2 hg ?_;simp;refine c1 ho ?_;simp;refine c2 hc ?_;simp [ho0];refine c2 v1 ?_ (h1:=by simp [ho0]);simp [ack];rw [if_neg (by omega),if_neg h1]
def okS (s:List Nat):Prop:=s.length≤1048576∧∀ c∈s,c<256
theorem awA (l:List (List Nat)):aab Tryz.prog 307 [.seq (l.map .str)] (.func 343 [] [.fptr (.seq (l.map .str))]):=by
 refine aad nf axI mix (by simp [Tryz.f307]) ?_;simp [Tryz.f307];exact Wkl.refl _
def itemC (s:List Nat):List PV:=[.int .i64 (chk s)]
theorem ava (l:List (List Nat)) (hl:l.length≤1000000) (hs:∀ s∈l,okS s):Stream Tryz.prog 343 [] [.fptr (.seq (l.map .str))] (l.map itemC):=by
 intro b k Hs H' hk hR hy he;refine adT nf axr mix (by simp [Tryz.f343]) ?_;rw [List.length_map] at hk;have hit:∀ i (h:i<l.length),(l.map itemC)[i]?=some (itemC l[i]):=fun i h=>by rw [List.getElem?_map,List.getElem?_eq_getElem h]; rfl
 simp [Tryz.f343];refine lp (α:=Nat) (fun i=>⟨[(7,.p (.int .i64 i)),(6,.p (.int .i64 l.length)),(5,.p (.seq (l.map .str))),(0,.map b)],Hs i⟩) (fun i=>i≤k) (fun i=>l.length - i) 0 (by simp) ?_ (hr:=by simp; exact (hR 0 (by omega)).2) (hr2:=(hR 0 (by omega)).1);intro i hi;have hw:=wi1 (i:=i) (by omega)
 by_cases hil:i<l.length
 · have hc:=auB l[i] (hs _ (List.getElem_mem hil)).1 (hs _ (List.getElem_mem hil)).2;have ade:(i<k∧ad5 Tryz.prog b (Hs i) [.p (.int .i64 (chk l[i]))] (Hs (i+1)) (.p (.bool true)))∨ad5 Tryz.prog b (Hs i) [.p (.int .i64 (chk l[i]))] H' (.p (.bool false)):=by
    by_cases hik:i<k
    · exact .inl ⟨hik,hy i _ hik (hit i hil)⟩
    · have:i=k:=by omega
      subst this;rcases he with ⟨e1,_⟩ | ⟨y,e1,e2⟩
      · rw [List.length_map] at e1; omega
      · rw [hit i hil] at e1; injection e1 with e1; subst e1; exact .inr e2
   simp [hil];refine c1 hc ?_;simp;rcases ade with ⟨hik,hY⟩ | hY
   · refine ⟨Hs (i+1),_,hY,?_⟩;simp [hw];exact rd (i+1) hik (h1:=by omega) (hr:=by simp; exact (hR (i+1) (by omega)).2) (hr2:=(hR (i+1) (by omega)).1)
   · refine ⟨H',_,hY,?_⟩;simp
 · have hii:i=l.length:=by omega
   have hkl:k=l.length:=by omega
   rcases he with ⟨e1,e2⟩ | ⟨y,e1,e2⟩
   · simp [hil,e2,hii,hkl]
   · rw [hkl,List.getElem?_eq_none (by simp)] at e1; cases e1
theorem aim (p:Nat→Bool):∀ n,∃ k,k≤n∧(∀ j,j<k→p j=true)∧(k=n∨(k<n∧p k=false))
 | 0=>⟨0,Nat.le_refl _,fun j h=>by omega,.inl rfl⟩
 | n+1=>by
  obtain ⟨k,h1,h2,h3⟩:=aim p n;rcases h3 with h3 | ⟨h3,h4⟩
  · subst h3;cases hp:p k
    · exact ⟨k,by omega,h2,.inr ⟨by omega,hp⟩⟩
    · refine ⟨k+1,Nat.le_refl _,fun j hj=>?_,.inl rfl⟩
      by_cases e:j=k
      · subst e; exact hp
      · exact h2 j (by omega)
  · exact ⟨k,by omega,h2,.inr ⟨by omega,h4⟩⟩
def aiF (l:List (List Nat)) (i:Nat):Int:=match l[i]? with
 | some s=>chk s
 | none=>0
theorem ajy:∀ (l:List (List Nat)) (k:Nat),(∀ j,j<k→aiF l j=0)→aaw (l.map chk)=aaw ((l.drop k).map chk)
 | [],k,_=>by simp
 | s::l,0,_=>rfl
 | s::l,k+1,h=>by
  have h0:=h 0 (by omega);have h1:chk s=0:=h0;rw [List.map_cons,aaw,if_pos h1,List.drop_succ_cons];exact ajy l k fun j hj=>h (j+1) (by omega)
theorem aq6 (l:List (List Nat)) (hl:l.length≤1000000) (hs:∀ s∈l,okS s):aab Tryz.prog 249 [.seq (l.map .str)] (.int .i64 (aaw (l.map chk))):=by
 refine aad nf ax4 mix (by simp [Tryz.f249]) ?_;simp [Tryz.f249];refine c1 (awA l) ?_;simp;have hst:=ava l hl hs;obtain ⟨k,hk,hok,hbad⟩:=aim (fun i=>decide (aiF l i=0)) l.length;have hok':∀ j,j<k→aiF l j=0:=fun j hj=>by simpa using hok j hj
 have hfe:=ajy l k hok';refine rf2 hst rfl (by simp) (fun L _=>[.box false (.p (.int .i64 0)),.loop L]) (fun L i=>[.box false (.p (.int .i64 (aiF l (i - 1)))),.loop (L.dn .ret)]) (fun i=>decide (aiF l i=0)) .ret k (by simpa using hk) hok (by simpa using hbad) (fun L=>rfl) ?_ ?_ (fun L=>rfl) ?_ ?_
 · intro L hL i hi;clear hL;refine ⟨rfl,by simp,fun _ hl=>?_⟩;simp at hl ⊢;exact hl
 · intro L hL i x hi hx;have hx2:x=[.int .i64 (aiF l i)]:=by
    rw [List.getElem?_map] at hx;unfold aiF;cases h:l[i]? with
    | none=>rw [h] at hx; cases hx
    | some s=>rw [h] at hx; injection hx with hx; rw [← hx]; rfl
   subst hx2;rw [Nat.add_sub_cancel];refine y_round nf mix hL rfl rfl (by kernel_rfl) ?_;have hLe:=congrArg acs.env hL;dsimp only at hLe;clear hL;generalize aiF l i=e
   by_cases he:e=0
   · subst he;simp;exact .inl rfl
   · simp [he];exact .inl rfl
 · intro hkl L;have hkl:k=l.length:=by simpa using hkl
   rw [hfe,hkl];simp [aaw]
 · intro hkl L;have hkl:k<l.length:=by simpa using hkl
   have hbk:¬ aiF l k=0:=by
    rcases hbad with hb | ⟨_,hb2⟩
    · omega
    · simpa using hb2
   have e1:aiF l k=chk l[k]:=by unfold aiF; rw [List.getElem?_eq_getElem hkl]
   rw [hfe,List.drop_eq_getElem_cons hkl,List.map_cons,aaw,← e1,if_neg hbk];simp [agj]
structure PlD where
 x:List Nat
 y:List Nat
def ePl (p:PlD):PV:=.st 23 [.str p.x,.str p.y]
def okP (p:PlD):Prop:=okS p.x∧okS p.y
def chkP (p:PlD):Int:=aaw [chk p.x,chk p.y]
@[simp] theorem shp_ePl (p:PlD):shp (ePl p)=.agg 23:=rfl
@[simp] theorem flds_ePl (p:PlD):flds (ePl p)=[.str p.x,.str p.y]:=rfl
@[simp] theorem ce23':Tryz.prog.cellsOf 23=2:=by kernel_rfl
theorem ajb (p:PlD) (hp:okP p):aab Tryz.prog 165 [.seq [ePl p]] (.int .i64 (chkP p)):=by
 have hc:=aq6 [p.x,p.y] (by simp) (by intro s hs; simp at hs; rcases hs with rfl | rfl; exact hp.1; exact hp.2);refine aad nf ayw mix (by simp [Tryz.f165]) ?_;simp [Tryz.f165];refine lp (α:=Nat) (fun i=>⟨[(8,.p (.int .i64 i)),(7,.p (.int .i64 1)),(6,.p (.seq [ePl p])),(0,.p (.seq [ePl p]))],[]⟩) (fun i=>i=0∨(i=1∧chkP p=0)) (fun i=>1 - i) 0 (.inl rfl) ?_;rintro i h;rcases h with rfl | ⟨rfl,h⟩
 · simp [shpA];refine cp hc (by simp; exact ⟨rfl,rfl⟩) ?_;have hw:IntKind.i64.wrap 1=1:=rfl;rw [show aaw (List.map chk [p.x,p.y])=chkP p from rfl]
   by_cases h:chkP p=0
   · simp [h,hw];exact rd 1 (.inr ⟨rfl,h⟩)
   · simp [h]
 · simp [h]
theorem abV (p:PlD) (hp:okP p):aab Tryz.prog 75 [ePl p] (.int .i64 (chkP p)):=by
 refine aad nf isF75 mix (by simp [Tryz.f75]) ?_;simp [Tryz.f75,shpA];refine cp (ajb p hp) (by simp; exact ⟨rfl,rfl⟩) ?_;simp
open Go.Proofs Go.Proofs.YtanjnahmbanmaaaGreatDoor
section
variable {H:Type} {W:World} {Imm:Nat→Prop}
theorem ato {d:DataW H} (h:∃ cs,PVC Tryz.prog W Imm (toPV Tryz.prog 8 3 d) cs) (_hb:Rows.uptoBulk d≤1048576):∃ z:Int,toPV Tryz.prog 8 3 d=.int .i64 z∧True:=by
 obtain ⟨cs,h⟩:=h;obtain ⟨z,hz⟩:=int_of (n:=7) d cs h;exact ⟨z,hz,trivial⟩
theorem aw7 {n:Nat} {d:DataW H} (h:∃ cs,PVC Tryz.prog W Imm (toPV Tryz.prog (n+1) 22 d) cs) (hb:Rows.uptoBulk d≤1048576):∃ s:List Nat,toPV Tryz.prog (n+1) 22 d=.str s∧okS s:=by
 obtain ⟨cs,h⟩:=h;cases d with
 | lit l =>
  cases l with
  | string bytes =>
   refine ⟨bytes.map (·.toNat),by simp only [toPV,un22],?_,?_⟩
   · rw [Rows.uptoBulk] at hb;rw [List.length_map]; omega
   · intro c hc;obtain ⟨u,_,rfl⟩:=List.mem_map.1 hc;exact u.toNat_lt
  | _=>simp only [toPV,un22,PVC] at h
 | _=>simp only [toPV,un22,PVC] at h
theorem unPl':∃ f0 f1:Field,Tryz.prog.underlying 24=some (.struct #[f0,f1])∧f0.type=22∧f1.type=22:=⟨_,_,Tryz.underlying24,rfl,rfl⟩
theorem uidPl:Tryz.prog.underlyingId 24=23:=by kernel_rfl
theorem asx {m n:Nat} (hmn:m=n+1) {d:DataW H} (h:∃ cs,PVC Tryz.prog W Imm (toPV Tryz.prog (m+1) 24 d) cs) (hb:Rows.uptoBulk d≤1048576):∃ p:PlD,toPV Tryz.prog (m+1) 24 d=ePl p∧okP p:=by
 obtain ⟨cs,h⟩:=h;obtain ⟨f0,f1,hu,t0,t1⟩:=unPl';cases d with
 | agg l =>
  have hm:∀ x∈l,Rows.uptoBulk x≤1048576:=fun x hx=>by
   have:=bulks.asy hx;rw [Rows.uptoBulk] at hb;omega
  simp only [toPV,hu,PVC] at h ⊢;obtain ⟨l',css,h1,h2,_⟩:=h;rw [uidPl,sz23] at h1; cases h1
  match l,h2 with
  | [],h2=>simp [PVCl] at h2
  | [x],h2=>simp [PVCl] at h2
  | x::y::r,h2 =>
   simp only [List.zip_cons_cons,List.map_cons,PVCl,List.zip_nil_left,List.map_nil,t0,t1] at h2 ⊢;obtain ⟨c0,_,_,g1,_,c1,_,_,g2,_⟩:=h2;subst hmn;obtain ⟨a,ea,ha⟩:=aw7 ⟨c0,g1⟩ (hm x (by simp));obtain ⟨b,eb,hb⟩:=aw7 ⟨c1,g2⟩ (hm y (by simp));exact ⟨⟨a,b⟩,by rw [ea,eb,uidPl]; rfl,ha,hb⟩
 | _=>simp only [toPV,hu,PVC] at h
theorem aka {n:Nat} {d:DataW H} (h:∃ cs,PVC Tryz.prog W Imm (toPV Tryz.prog (n+2) 24 d) cs) (hb:Rows.uptoBulk d≤1048576):∃ p:PlD,toPV Tryz.prog (n+2) 24 d=ePl p∧okP p:=asx rfl h hb
theorem az6 {d:DataW H} (h:∃ cs,PVC Tryz.prog W Imm (toPV Tryz.prog 8 24 d) cs) (hb:Rows.uptoBulk d≤1048576):∃ p:PlD,toPV Tryz.prog 8 24 d=ePl p∧True∧okP p:=by
 obtain ⟨p,e,h1⟩:=aka (n:=6) h hb;exact ⟨p,e,trivial,h1⟩
end
end Go.Abs
