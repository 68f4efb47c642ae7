import Derived.Test.YtgpphcmkjhklgaaGreatDoorPK
import Derived.Test.YtgpphcmkjhklgaaGreatDoorPH
import Derived.Test.YtgpphcmkjhklgaaGreatDoorThE
/- Parts of a proof. -/
set_option linter.unusedSimpArgs false
set_option linter.unusedVariables false
set_option linter.unusedSectionVars false
open Go.Proofs.Tryz
open And renaming intro->an
open Bool renaming and_eq_true->ao, cond_eq_ite->ap, eq_iff_iff->av, true_and->ax
open Go renaming FuncId->ay
open Go.Builtin renaming zeroCells->aT
open Go.IntKind renaming i64->a0
open Go.Lib renaming countByte->a1, compareBytes->a4, join->a5
open Int renaming tmod_eq_emod_of_nonneg->a6, natCast_emod->a7
open List renaming replicate->a8, mem_of_getElem?->a9, drop_eq_getElem_cons->bb, map_cons->be, getElem?_eq_some_iff->bi, take_length->bk, length_take->bl, length_eq_zero_iff->bo, mem_iff_getElem->bv, take_add_one->b0, getElem_take->b1, map_take->b2, range->b3
open Nat renaming eq_of_beq_eq_true->b4, beq->b5, le_of_ble_eq_true->cb, le_refl->cc, lt_trichotomy->ce, blt->ck, ble->cv, le_trans->cx, blt_eq->cy
open Option renaming ite_none_right_eq_some->c6
open Option.some renaming injEq->c9
open Prod.mk renaming injEq->da
namespace Go.ag
open Go.Proofs
set_option maxHeartbeats 4000000
set_option maxRecDepth 100000
def lV(a:List Nat):List (List Nat)->List Nat
 |[]=>[]
 |[s]=>s
 |s::r=>s++a++lV a r
theorem HN(b:List UInt8):∀(c:List (List UInt8)),lV (cX b) (c.map cX)=cX (a5 c b)
 |[]=>by simp[lV,Lib.join_nil,cX]
 |[x]=>by simp[lV,Lib.join_one]
 |x::y::r=>by
  have a:=HN b (y::r);rw[Lib.join_cons]at a⊢;simp only[be]at a⊢;rw[lV,a]
  ·simp[cX,Lib.joinTail]
  ·simp
theorem HV{w:World}{ad:Nat->Prop}:∀{l:List (List Nat)}{e:List Nat}{a:List (List Value)},bd prog w ad e (l.map .str) a->
 ∃d:List ByteArray,a.flatten=d.map .string/\l=d.map (fun b=>cX b.data.toList)
 |[],e,a,h=>by
  have:=wA h;subst this;exact⟨[],by simp,by simp⟩
 |s::l,[],a,h=>by simp[bd]at h
 |s::l,n::e,a,h=>by
  simp only[be,bd,aS]at h;obtain⟨c,cs,rfl,⟨bs,rfl,f⟩,_,g⟩:=h;obtain⟨d,g1,g2⟩:=HV g;exact⟨bs::d,by simp[g1],by simp[g2,f,cX]⟩
theorem Zh(full:Bool)(l:List (List Nat))(d:List Nat)(F:l.length<=140737488355328)(k:(lV d l).length<=140737488355328):aA prog 226 [.bP full (l.map .str),.str d] (.str (lV d l)):=by
 refine jH (iO func226 (by kernel_rfl)) fun w ad B t E s=>?_;obtain⟨x,y,rfl,f,g⟩:=mS s;simp only[aC]at f g;obtain⟨sp,rfl,rfl⟩:=g;obtain⟨al,off,cap,aj,C,p,q,h,D,i,o,A,rfl⟩:=f;obtain⟨xs,g1,g2⟩:=HV p;have b:(l.map PV.str).length=xs.length:=by rw[g2];simp
 cases c:xs with
 |nil=>
  subst c;have v:l=[]:=by simpa using g2
  subst v;refine(strings_Join_none (some ⟨al,off,o⟩) cap sp w).mono ?_;rintro e w' ⟨rfl,rfl⟩;exact⟨_,rfl,⟨cc _,fun _ _=>rfl,rfl,rfl⟩,fun w ad=>by simpa[lV,cX]using uJ (P:=prog) (w:=w) (ad:=ad) []⟩
 |cons G r=>
  have z:l.map PV.str≠[]:=by rw[g2,c];simp
  obtain rfl:o=none:=A.resolve_right (by rw[b,c]at i;simp at i;omega);have m:=HN sp.data.toList (xs.map (·.data.toList))
  have e2:(xs.map (·.data.toList)).map cX=l:=by rw[g2];simp
  rw[e2]at m;have n:lV (sp.data.toList.map (·.toNat)) l=cX (a5 (xs.map (·.data.toList)) sp.data.toList):=m
  rw[b];refine(strings_Join al off cap xs sp w (fun j x hx=>?_) (t _ (q z)) (by simp at b;omega) (by omega) ?_).mono ?_
  ·have u:j<xs.length:=(bi.1 hx).1;rw[g1]at h;have:=h j (by simpa using u);rw[this];simp[(bi.1 hx).2]
  ·rw[n]at k;simpa[cX]using k
  ·rintro e w' ⟨rfl,a⟩;exact⟨_,rfl,⟨a.size,a.block,a.os,a.output⟩,fun w ad=>by rw[n];exact uJ _⟩
def sT(c:Nat):List Nat->Nat->Nat
 |[],n=>n
 |x::r,n=>bif b5 x c then sT c r (n+1)else sT c r n
theorem HT(c:UInt8):∀(l:List UInt8)(n:Nat),sT c.toNat (cX l) n=n+a1 l c
 |[],n=>by simp[sT,cX,a1]
 |x::r,n=>by
  have a:=HT c r;simp only[cX]at a;simp only[cX,be,sT,a1,List.count_cons]
  by_cases hx:x=c
  ·subst hx;simp[a,a1];omega
  ·have d:b5 x.toNat c.toNat=false:=by
    cases b:b5 x.toNat c.toNat
    ·rfl
    ·exact(hx (UInt8.toNat_inj.1 (b4 b))).elim
   simp[d,a,a1,hx]
theorem Zc(s:List Nat)(c:Nat):aA prog 328 [.str s,.str [c]] (.int .i64 (sT c s 0:Nat)):=by
 refine jH (iO func328 (by kernel_rfl)) fun w ad g _ _ f=>?_;obtain⟨x,y,rfl,a,d⟩:=mS f;obtain⟨b,rfl,rfl⟩:=one_byte d;obtain⟨bs,rfl,rfl⟩:=nj a;refine(strings_Count_one bs b w).mono ?_;rintro e w' ⟨rfl,rfl⟩;refine⟨_,rfl,⟨cc _,fun _ _=>rfl,rfl,rfl⟩,fun w ad=>?_⟩;have e1:=HT b bs.data.toList 0;simp only[aC]at e1⊢;rw[e1];simp
def yn:List Nat->List Nat->Int
 |[],[]=>0
 |[],_::_=>-1
 |_::_,[]=>1
 |a::r,b::t=>bif ck a b then -1 else bif ck b a then 1 else yn r t
theorem HU:∀a b:List UInt8,yn (cX a) (cX b)=a4 a b
 |[],[]=>rfl
 |[],_::_=>rfl
 |_::_,[]=>rfl
 |a::r,b::t=>by
  have e:=HU r t;simp only[cX,be,yn,a4]at e⊢;have e1:ck a.toNat b.toNat=decide (a<b):=by
   rw[av,cy,decide_eq_true_eq,UInt8.lt_iff_toNat_lt]
  have e2:ck b.toNat a.toNat=decide (b<a):=by
   rw[av,cy,decide_eq_true_eq,UInt8.lt_iff_toNat_lt]
  rw[e1,e2,e]
  by_cases c:a<b
  ·simp[c]
  ·by_cases d:b<a
   ·simp[c,d]
   ·simp[c,d]
theorem Zb(a b:List Nat):aA prog 224 [.str a,.str b] (.int .i64 (yn a b)):=by
 refine jH (iO func224 (by kernel_rfl)) fun w ad g _ _ f=>?_;obtain⟨x,y,rfl,c,d⟩:=mS f;obtain⟨bs,rfl,rfl⟩:=nj c;obtain⟨cs,rfl,rfl⟩:=nj d;refine(strings_Compare bs cs w).mono ?_;rintro e w' ⟨rfl,rfl⟩;exact⟨_,rfl,⟨cc _,fun _ _=>rfl,rfl,rfl⟩,fun w ad=>by rw[HU];simp only[aC]⟩
def tt:PV:=.st 107 [.int .i64 0,.int .i64 0]
theorem apb{H:Heap}(n:Nat)(N:1<=n)(O:n<=1000000):cB prog 272 H [.p .aW,.p (.int .i64 n)] (H++[.arr .grow 0 2 (a8 n (.p tt))]) (.sl H.length 0 2 0 0):=by
 refine⟨iO func272 (by kernel_rfl),fun w ad ai β K l g Q=>?_⟩;simp only[bB,az,aC]at g;obtain⟨_,_,rfl,rfl,_,_,rfl,rfl,rfl⟩:=g;obtain⟨i,c,hi,G,q,_⟩:=pQ (P:=prog) (T:=108) (z:=tt) (by kernel_rfl);have hs:i.size=2:=by
  have:(prog.info? 108).map (·.size)=some 2:=by kernel_rfl
  rw[hi]at this;simpa using this
 have y:i.bytes=16:=by
  have:(prog.info? 108).map (·.bytes)=some 16:=by kernel_rfl
  rw[hi]at this;simpa using this
 have r:c.cells.size=2:=by
  have:=(nV (q w ad)).1;have e:bJ prog (aM tt)=2:=by kernel_rfl
  rw[e]at this;simpa using this
 have j:=Any8.slices_Grow_grow arX i c hi G (by omega) none 0 0 n [] w (cc _) (by omega) (by rw[y];omega) (by omega) (by simp) (fun _=>rfl) (fun a h=>by cases h);rw[show HO.t 25=108 from rfl,Nat.zero_add]at j;refine j.mono ?_;rintro e w' ⟨rfl,rfl⟩;have D:=l.nw 1;have E:bU prog w.drew ad β (H++a8 1 .hole) ai:=bU.xa (w:=w) (w':=w.drew) rfl D;have u:(H++a8 1 Obj.hole)[H.length]?=some .hole:=by simp
 have A:n<=grownCap w n 0 108:=by simp[grownCap,Question.cut]
 have o:=wG (β:=β) (H:=H++a8 1 .hole) (q w.drew ad) n;rw[show c.cells.toList.length=2 by simpa using r]at o;have I:∀m,(aT c.cells m).toList=(a8 m c.cells.toList).flatten:=fun m=>zu c.cells m (by omega);obtain⟨q1,s⟩:=zC (T:=108) (k:=.grow) (aj:=2) (cap:=grownCap w n 0 108) E u
  (cells:=([]:List Value).toArray++aT c.cells (n-0)++aT c.cells (grownCap w n 0 108-n))
  (rest:=(aT c.cells (grownCap w n 0 108-n)).toList)
  (by simp) (fun h=>by have:=h.2;rw[<-bo]at this;simp at this;omega) o
  (by rw[cJ];intro v F;rw[List.eq_of_mem_replicate F];simp[aD])
  (by simp[I]) (by simp only[Array.size_append,Jv,r];simp;omega) (by simpa using A) (fun h=>by cases h) (fun h=>by cases h)
 rw[D8]at q1 s;have aK:=pP β H 1;have J:bY prog ai ad w β H ad w β (H++a8 1 .hole):=⟨fun _ x=>x,fun _ x=>.inl x,Ext.refl _ _ _,aK,l.nw _,mR _ _,fun b⟨L,f⟩=>⟨L,by rw[kf,if_pos (bi.1 f).1];exact f⟩⟩
 refine⟨_,_,ad,rfl,J.trans (bY.drew (w1:=w.drew) rfl ⟨rfl,rfl⟩ q1),?_,?_⟩
 ·simp only[az,bN,bR]at s⊢;refine⟨rfl,fun k M d=>?_⟩;have B:(H++[Obj.arr .grow 0 2 (a8 n (.p tt))])[H.length]?=some (.arr .grow 0 2 (a8 n (.p tt))):=by simp
  unfold eS at d;rw[B]at d;cases d;exact⟨by omega,fun C=>by have:=C.2;rw[<-bo]at this;simp at this;omega,fun _=>by simp[Bd.at]⟩
 ·simp only[aD];exact⟨.arr .grow 0 2 (a8 n (.p tt)),by simp,cc _⟩
namespace fZ
def vW:List PV->Option (List (List Nat))
 |[]=>some []
 | .str s::r=>match vW r with
  |some l=>some (s::l)
  |none=>none
 |_=>none
theorem HR:∀{l:List PV}{a:List (List Nat)},vW l=some a->l=a.map .str
 |[],a,h=>by simp[vW]at h;subst h;rfl
 |v::r,a,h=>by
  cases v<;>simp only[vW]at h<;>try (cases h;done)
  split at h
  ·rename_i l b;simp only[c9]at h;subst h;rw[HR b];rfl
  ·cases h
def Fg(f:ay)(vs:List PV):Option PV:=
 bif b5 f 226 then match vs with
  |[.bP _ l,.str sep]=>match vW l with
   |some d=>bif cv d.length 1000&&cv (lV sep d).length 100000 then some (.str (lV sep d))else none
   |none=>none
  |_=>none
 else bif b5 f 328 then match vs with
  |[.str s,.str [c]]=>some (.int .i64 (sT c s 0:Nat))
  |_=>none
 else bif b5 f 296 then match vs with
  |[.str s,.str [c]]=>some (.int .i64 (nC c s 0))
  |_=>none
 else bif b5 f 224 then match vs with
  |[.str a,.str b]=>some (.int .i64 (yn a b))
  |_=>none
 else bif b5 f 153 then match vs with
  |[.int .i64 n]=>bif Hk.pC n then some (.str (bL n))else none
  |_=>none
 else none
theorem asT{f:ay}{vs:List PV}{v:PV}(h:Fg f vs=some v):aA prog f vs v:=by
 unfold Fg at h;simp only[ap]at h
 split at h
 ·rename_i hf;rw[b4 hf]
  split at h
  ·split at h
   ·rename_i a hs;simp only[c6,c9,ao]at h;obtain⟨⟨g1,g2⟩,rfl⟩:=h;rw[HR hs];exact Zh _ _ _ (cx (cb g1) (by decide)) (cx (cb g2) (by decide))
   ·cases h
  ·cases h
 split at h
 ·rename_i hf;rw[b4 hf]
  split at h
  ·simp only[c9]at h;subst h;exact Zc _ _
  ·cases h
 split at h
 ·rename_i hf;rw[b4 hf]
  split at h
  ·simp only[c9]at h;subst h;exact Iq _ _
  ·cases h
 split at h
 ·rename_i hf;rw[b4 hf]
  split at h
  ·simp only[c9]at h;subst h;exact Zb _ _
  ·cases h
 split at h
 ·rename_i hf;rw[b4 hf]
  split at h
  ·simp only[c6,c9]at h;obtain⟨g1,rfl⟩:=h;have:=Hk.Av.1 g1;exact Ip _ (by omega) (by omega)
  ·cases h
 ·cases h
def yv(f:ay)(args:List AV)(H:Heap):Option (AV×Heap):=
 bif b5 f 225 then match args with
  |[.ptr b []]=>match H[b]? with
   |some (.box false (.p (.st u [.dJ,x])))=>bif b5 u 224 then some (.p (.aE []),H.set b (.box false (.st 224 [.ptr b [],.p x])))else none
   |some (.box false (.st u [.p .dJ,x]))=>bif b5 u 224 then some (.p (.aE []),H.set b (.box false (.st 224 [.ptr b [],x])))else none
   |some (.box false (.st u [.ptr b' [],_]))=>bif b5 u 224&&b5 b' b then some (.p (.aE []),H)else none
   |_=>none
  |_=>none
 else bif b5 f 272 then match args with
  |[.p .aW,.p (.int .i64 (.ofNat n))]=>bif cv 1 n&&cv n 1000000 then some (.sl H.length 0 2 0 0,H++[.arr .grow 0 2 (a8 n (.p tt))])else none
  |_=>none
 else none
theorem asS{f:ay}{args:List AV}{H H':Heap}{v:AV}(h:yv f args H=some (v,H')):cB prog f H args H' v:=by
 unfold yv at h;simp only[ap]at h
 split at h
 ·rename_i hf;rw[b4 hf]
  split at h
  case h_2=>cases h
  split at h
  ·rename_i a;simp only[c6,c9,da]at h;obtain⟨b,rfl,rfl⟩:=h;rw[b4 b]at a;exact Fc a (.inl rfl)
  ·rename_i a;simp only[c6,c9,da]at h;obtain⟨b,rfl,rfl⟩:=h;rw[b4 b]at a;exact Fc a (.inr rfl)
  ·rename_i a;simp only[c6,c9,da,ao]at h;obtain⟨⟨b,c⟩,rfl,rfl⟩:=h;rw[b4 b,b4 c]at a;exact P0 a
  ·cases h
 split at h
 ·rename_i hf;rw[b4 hf]
  split at h
  ·simp only[c6,c9,da,ao]at h;obtain⟨⟨b,c⟩,rfl,rfl⟩:=h;exact apb _ (cb b) (cb c)
  ·cases h
 ·cases h
def jV(_ f:ay):Nat:=
 bif b5 f 152 then 2
 else bif b5 f 234 then 3
 else bif b5 f 235 then 3
 else bif b5 f 236 then 3
 else bif b5 f 237 then 3
 else bif b5 f 272 then 1 else 0
def facts(l:List (ay×List PV×PV))(f:ay)(vs:List PV):Option PV:=match Fg f vs with
 |some v=>some v
 |none=>Hk.uR l f vs
noncomputable def vX(fs:ay->List PV->Option PV):mI:=⟨u4 FQ,fs,yv,jV,fun _ _ _=>none⟩
theorem S5{l:List (ay×List PV×PV)}(a:Hk.lT l):mZ prog (vX (facts l)):=by
 refine⟨mix,fun f fn hf=>Eh HH hf,fun f vs v hk=>?_,fun f args H v H' hk=>asS hk,fun f args H ak v hk=>by simp only[vX]at hk;cases hk⟩;simp only[vX,facts]at hk
 split at hk
 ·rename_i h;simp only[c9]at hk;subst hk;exact asT h
 ·exact Hk.zU a f vs v hk
noncomputable def runT(l:List (ay×List PV×PV))(f:ay)(vs:List PV):Option PV:=pB prog nf (vX (facts l)) (jL prog nf (vX (facts l)) 20) f vs
theorem gf(l:List (ay×List PV×PV))(a:Hk.lT l){f:ay}{vs:List PV}{v:PV}(h:Hk.Fs v (runT l f vs)=true):aA prog f vs v:=reckon 20 (S5 a) (Hk.HI h)
end fZ
namespace BL
def T:PV:=.st 35 [.bP true [.st 107 [.int .i64 0,.int .i64 0],.st 107 [.int .i64 2000,.int .i64 0],.st 107 [.int .i64 2000,.int .i64 1000],.st 107 [.int .i64 0,.int .i64 1000]],.int .i64 30,.bP true [.st 52 [.str [97],.int .i64 0,.str [48],.str [49,47,50,48]],.st 52 [.str [98],.int .i64 2,.str [49,57,47,50,48],.str [49]]],.bP true [.st 74 [.str [102,111,111,116],.st 41 [.str [49,53,48,48],.str [53,48,48]]],.st 74 [.str [104,101,97,100],.st 41 [.str [53,48,48],.str [53,48,48]]]]]
def B:PV:=.bP true [.st 74 [.str [99,117,101],.st 41 [.str [53,48,48],.str [53,48,48]]],.st 74 [.str [111,110,101],.st 41 [.str [49,53,48,48],.str [53,48,48]]],.st 74 [.str [116,119,111],.st 41 [.str [49,53,54,48],.str [53,48,48]]]]
def B1:PV:=.bP false [.st 74 [.str [99,117,101],.st 41 [.str [53,48,48],.str [53,48,48]]]]
def M:PV:=.st 35 [.bP false [.st 107 [.int .i64 0,.int .i64 0],.st 107 [.int .i64 0,.int .i64 1000],.st 107 [.int .i64 (-2000),.int .i64 1000],.st 107 [.int .i64 (-2000),.int .i64 0]],.int .i64 30,.bP false [.st 52 [.str [97],.int .i64 3,.str [49,57,47,50,48],.str [49]],.st 52 [.str [98],.int .i64 1,.str [48],.str [49,47,50,48]]],.bP false [.st 74 [.str [102,111,111,116],.st 41 [.str [45,49,53,48,48],.str [53,48,48]]],.st 74 [.str [104,101,97,100],.st 41 [.str [45,53,48,48],.str [53,48,48]]]]]
def k0:List (ay×List PV×PV):=[(260,[.str [51,48]],.aE [.int .i64 30,.fV])]
theorem vT:Hk.lT k0:=⟨Ir [51,48] 30 (by decide+kernel) (by decide),trivial⟩
theorem c0:aA prog 16 [T] (.int .i64 0):=fZ.gf k0 vT (by kernel_rfl)
theorem c1:aA prog 51 [T,B] (.int .i64 0):=fZ.gf k0 vT (by kernel_rfl)
theorem c2:aA prog 51 [T,B1] (.int .i64 0):=fZ.gf k0 vT (by kernel_rfl)
theorem c3:aA prog 16 [M] (.int .i64 0):=fZ.gf k0 vT (by kernel_rfl)
def k1:List (ay×List PV×PV):=[(16,[T],.int .i64 0),(51,[T,B],.int .i64 0),(51,[T,B1],.int .i64 0),(16,[M],.int .i64 0)]++k0
theorem iB:Hk.lT k1:=Hk.CE (l:=[(16,[T],.int .i64 0),(51,[T,B],.int .i64 0),(51,[T,B1],.int .i64 0),(16,[M],.int .i64 0)]) ⟨c0,c1,c2,c3,trivial⟩ vT
theorem d0:aA prog 13 [T] (.aE [.str [50,48,48,48,48,48,48],.int .i64 0]):=fZ.gf k1 iB (by kernel_rfl)
theorem d1:aA prog 18 [T,.int .i64 0,.str [49,47,52]] (.aE [.st 41 [.str [53,48,48],.str [48]],.int .i64 0]):=fZ.gf k1 iB (by kernel_rfl)
theorem d2:aA prog 28 [T,.st 41 [.str [50,48,48,48],.str [48]]] (.aE [.int .i64 0,.str [49],.int .i64 0]):=fZ.gf k1 iB (by kernel_rfl)
theorem d3:aA prog 19 [T,.int .i64 0,.str [49,47,50,48]] (.aE [.str [97],.int .i64 0]):=fZ.gf k1 iB (by kernel_rfl)
theorem d4:aA prog 19 [T,.int .i64 0,.str [49,47,49,48]] (.aE [.str [],.int .i64 7]):=fZ.gf k1 iB (by kernel_rfl)
theorem d5:aA prog 50 [T,B,.st 41 [.str [49,52,52,48],.str [53,48,48]]] (.aE [.bool true,.int .i64 0]):=fZ.gf k1 iB (by kernel_rfl)
theorem d6:aA prog 50 [T,B,.st 41 [.str [49,52,53,48],.str [53,48,48]]] (.aE [.bool false,.int .i64 0]):=fZ.gf k1 iB (by kernel_rfl)
theorem d7:aA prog 34 [T,B,.str [102,111,111,116],.st 41 [.str [49,48],.str [48]]] (.aE [.st 41 [.str [49,54,50,48],.str [53,48,48]],.int .i64 0]):=fZ.gf k1 iB (by kernel_rfl)
theorem d8:aA prog 44 [T,B] (.aE [.st 78 [.int .i64 1,.int .i64 2],.str [51,54,48,48],.int .i64 0]):=fZ.gf k1 iB (by kernel_rfl)
theorem d9:aA prog 45 [T,B] (.aE [.bP false [.st 78 [.int .i64 1,.int .i64 2]],.int .i64 0]):=fZ.gf k1 iB (by kernel_rfl)
theorem d10:aA prog 39 [T,.str [102,111,111,116],.str [116,114,105,97,110,103,108,101],.st 78 [.int .i64 2,.int .i64 0]] (.aE [.bP false [.st 41 [.str [49,53,48,48],.str [53,48,48]],.st 41 [.str [51,49,48,53,47,50],.str [52,55,48]],.st 41 [.str [51,49,48,53,47,50],.str [53,51,48]]],.int .i64 0]):=fZ.gf k1 iB (by kernel_rfl)
theorem d11:aA prog 62 [T,.st 118 [.bool true,.int .i64 0,.st 107 [.int .i64 0,.int .i64 0]]] (.aE [.st 35 [.bP false [.st 107 [.int .i64 0,.int .i64 0],.st 107 [.int .i64 0,.int .i64 1000],.st 107 [.int .i64 (-2000),.int .i64 1000],.st 107 [.int .i64 (-2000),.int .i64 0]],.int .i64 30,.bP false [.st 52 [.str [97],.int .i64 3,.str [49,57,47,50,48],.str [49]],.st 52 [.str [98],.int .i64 1,.str [48],.str [49,47,50,48]]],.bP false [.st 74 [.str [102,111,111,116],.st 41 [.str [45,49,53,48,48],.str [53,48,48]]],.st 74 [.str [104,101,97,100],.st 41 [.str [45,53,48,48],.str [53,48,48]]]]],.int .i64 0]):=fZ.gf k1 iB (by kernel_rfl)
theorem d12:aA prog 63 [M] (.aE [.st 35 [.bP false [.st 107 [.int .i64 (-2000),.int .i64 0],.st 107 [.int .i64 0,.int .i64 0],.st 107 [.int .i64 0,.int .i64 1000],.st 107 [.int .i64 (-2000),.int .i64 1000]],.int .i64 30,.bP false [.st 52 [.str [97],.int .i64 0,.str [49,57,47,50,48],.str [49]],.st 52 [.str [98],.int .i64 2,.str [48],.str [49,47,50,48]]],.bP false [.st 74 [.str [102,111,111,116],.st 41 [.str [45,49,53,48,48],.str [53,48,48]]],.st 74 [.str [104,101,97,100],.st 41 [.str [45,53,48,48],.str [53,48,48]]]]],.int .i64 0]):=fZ.gf k1 iB (by kernel_rfl)
theorem d13:aA prog 64 [T,B,.st 118 [.bool false,.int .i64 1,.st 107 [.int .i64 0,.int .i64 0]]] (.aE [.bP false [.st 74 [.str [99,117,101],.st 41 [.str [45,53,48,48],.str [53,48,48]]],.st 74 [.str [111,110,101],.st 41 [.str [45,53,48,48],.str [49,53,48,48]]],.st 74 [.str [116,119,111],.st 41 [.str [45,53,48,48],.str [49,53,54,48]]]],.int .i64 0]):=fZ.gf k1 iB (by kernel_rfl)
theorem d14:aA prog 65 [T] (.aE [.str [114,97,100,105,117,115,32,51,48,10,99,111,114,110,101,114,32,48,32,48,10,99,111,114,110,101,114,32,50,48,48,48,32,48,10,99,111,114,110,101,114,32,50,48,48,48,32,49,48,48,48,10,99,111,114,110,101,114,32,48,32,49,48,48,48,10,112,111,99,107,101,116,32,97,32,48,32,48,32,49,47,50,48,10,112,111,99,107,101,116,32,98,32,50,32,49,57,47,50,48,32,49,10,115,112,111,116,32,102,111,111,116,32,49,53,48,48,32,53,48,48,10,115,112,111,116,32,104,101,97,100,32,53,48,48,32,53,48,48,10],.int .i64 0]):=fZ.gf k1 iB (by kernel_rfl)
theorem d15:aA prog 66 [.str [114,97,100,105,117,115,32,51,48,10,115,112,111,116,32,97,32,48,10]] (.aE [.st 35 [.aW,.int .i64 0,.aW,.aW],.int .i64 2,.int .i64 25]):=fZ.gf k1 iB (by kernel_rfl)
theorem d16:aA prog 67 [T,B1] (.aE [.str [98,97,108,108,32,99,117,101,32,53,48,48,32,53,48,48,10],.int .i64 0]):=fZ.gf k1 iB (by kernel_rfl)
def k2:List (ay×List PV×PV):=[(13,[T],.aE [.str [50,48,48,48,48,48,48],.int .i64 0]),(18,[T,.int .i64 0,.str [49,47,52]],.aE [.st 41 [.str [53,48,48],.str [48]],.int .i64 0]),(28,[T,.st 41 [.str [50,48,48,48],.str [48]]],.aE [.int .i64 0,.str [49],.int .i64 0]),(19,[T,.int .i64 0,.str [49,47,50,48]],.aE [.str [97],.int .i64 0]),(19,[T,.int .i64 0,.str [49,47,49,48]],.aE [.str [],.int .i64 7]),(50,[T,B,.st 41 [.str [49,52,52,48],.str [53,48,48]]],.aE [.bool true,.int .i64 0]),(50,[T,B,.st 41 [.str [49,52,53,48],.str [53,48,48]]],.aE [.bool false,.int .i64 0]),(34,[T,B,.str [102,111,111,116],.st 41 [.str [49,48],.str [48]]],.aE [.st 41 [.str [49,54,50,48],.str [53,48,48]],.int .i64 0]),(44,[T,B],.aE [.st 78 [.int .i64 1,.int .i64 2],.str [51,54,48,48],.int .i64 0]),(45,[T,B],.aE [.bP false [.st 78 [.int .i64 1,.int .i64 2]],.int .i64 0]),(39,[T,.str [102,111,111,116],.str [116,114,105,97,110,103,108,101],.st 78 [.int .i64 2,.int .i64 0]],.aE [.bP false [.st 41 [.str [49,53,48,48],.str [53,48,48]],.st 41 [.str [51,49,48,53,47,50],.str [52,55,48]],.st 41 [.str [51,49,48,53,47,50],.str [53,51,48]]],.int .i64 0]),(62,[T,.st 118 [.bool true,.int .i64 0,.st 107 [.int .i64 0,.int .i64 0]]],.aE [.st 35 [.bP false [.st 107 [.int .i64 0,.int .i64 0],.st 107 [.int .i64 0,.int .i64 1000],.st 107 [.int .i64 (-2000),.int .i64 1000],.st 107 [.int .i64 (-2000),.int .i64 0]],.int .i64 30,.bP false [.st 52 [.str [97],.int .i64 3,.str [49,57,47,50,48],.str [49]],.st 52 [.str [98],.int .i64 1,.str [48],.str [49,47,50,48]]],.bP false [.st 74 [.str [102,111,111,116],.st 41 [.str [45,49,53,48,48],.str [53,48,48]]],.st 74 [.str [104,101,97,100],.st 41 [.str [45,53,48,48],.str [53,48,48]]]]],.int .i64 0]),(63,[M],.aE [.st 35 [.bP false [.st 107 [.int .i64 (-2000),.int .i64 0],.st 107 [.int .i64 0,.int .i64 0],.st 107 [.int .i64 0,.int .i64 1000],.st 107 [.int .i64 (-2000),.int .i64 1000]],.int .i64 30,.bP false [.st 52 [.str [97],.int .i64 0,.str [49,57,47,50,48],.str [49]],.st 52 [.str [98],.int .i64 2,.str [48],.str [49,47,50,48]]],.bP false [.st 74 [.str [102,111,111,116],.st 41 [.str [45,49,53,48,48],.str [53,48,48]]],.st 74 [.str [104,101,97,100],.st 41 [.str [45,53,48,48],.str [53,48,48]]]]],.int .i64 0]),(64,[T,B,.st 118 [.bool false,.int .i64 1,.st 107 [.int .i64 0,.int .i64 0]]],.aE [.bP false [.st 74 [.str [99,117,101],.st 41 [.str [45,53,48,48],.str [53,48,48]]],.st 74 [.str [111,110,101],.st 41 [.str [45,53,48,48],.str [49,53,48,48]]],.st 74 [.str [116,119,111],.st 41 [.str [45,53,48,48],.str [49,53,54,48]]]],.int .i64 0]),(65,[T],.aE [.str [114,97,100,105,117,115,32,51,48,10,99,111,114,110,101,114,32,48,32,48,10,99,111,114,110,101,114,32,50,48,48,48,32,48,10,99,111,114,110,101,114,32,50,48,48,48,32,49,48,48,48,10,99,111,114,110,101,114,32,48,32,49,48,48,48,10,112,111,99,107,101,116,32,97,32,48,32,48,32,49,47,50,48,10,112,111,99,107,101,116,32,98,32,50,32,49,57,47,50,48,32,49,10,115,112,111,116,32,102,111,111,116,32,49,53,48,48,32,53,48,48,10,115,112,111,116,32,104,101,97,100,32,53,48,48,32,53,48,48,10],.int .i64 0]),(66,[.str [114,97,100,105,117,115,32,51,48,10,115,112,111,116,32,97,32,48,10]],.aE [.st 35 [.aW,.int .i64 0,.aW,.aW],.int .i64 2,.int .i64 25]),(67,[T,B1],.aE [.str [98,97,108,108,32,99,117,101,32,53,48,48,32,53,48,48,10],.int .i64 0])]++k1
theorem aDs:Hk.lT k2:=Hk.CE (l:=[(13,[T],.aE [.str [50,48,48,48,48,48,48],.int .i64 0]),(18,[T,.int .i64 0,.str [49,47,52]],.aE [.st 41 [.str [53,48,48],.str [48]],.int .i64 0]),(28,[T,.st 41 [.str [50,48,48,48],.str [48]]],.aE [.int .i64 0,.str [49],.int .i64 0]),(19,[T,.int .i64 0,.str [49,47,50,48]],.aE [.str [97],.int .i64 0]),(19,[T,.int .i64 0,.str [49,47,49,48]],.aE [.str [],.int .i64 7]),(50,[T,B,.st 41 [.str [49,52,52,48],.str [53,48,48]]],.aE [.bool true,.int .i64 0]),(50,[T,B,.st 41 [.str [49,52,53,48],.str [53,48,48]]],.aE [.bool false,.int .i64 0]),(34,[T,B,.str [102,111,111,116],.st 41 [.str [49,48],.str [48]]],.aE [.st 41 [.str [49,54,50,48],.str [53,48,48]],.int .i64 0]),(44,[T,B],.aE [.st 78 [.int .i64 1,.int .i64 2],.str [51,54,48,48],.int .i64 0]),(45,[T,B],.aE [.bP false [.st 78 [.int .i64 1,.int .i64 2]],.int .i64 0]),(39,[T,.str [102,111,111,116],.str [116,114,105,97,110,103,108,101],.st 78 [.int .i64 2,.int .i64 0]],.aE [.bP false [.st 41 [.str [49,53,48,48],.str [53,48,48]],.st 41 [.str [51,49,48,53,47,50],.str [52,55,48]],.st 41 [.str [51,49,48,53,47,50],.str [53,51,48]]],.int .i64 0]),(62,[T,.st 118 [.bool true,.int .i64 0,.st 107 [.int .i64 0,.int .i64 0]]],.aE [.st 35 [.bP false [.st 107 [.int .i64 0,.int .i64 0],.st 107 [.int .i64 0,.int .i64 1000],.st 107 [.int .i64 (-2000),.int .i64 1000],.st 107 [.int .i64 (-2000),.int .i64 0]],.int .i64 30,.bP false [.st 52 [.str [97],.int .i64 3,.str [49,57,47,50,48],.str [49]],.st 52 [.str [98],.int .i64 1,.str [48],.str [49,47,50,48]]],.bP false [.st 74 [.str [102,111,111,116],.st 41 [.str [45,49,53,48,48],.str [53,48,48]]],.st 74 [.str [104,101,97,100],.st 41 [.str [45,53,48,48],.str [53,48,48]]]]],.int .i64 0]),(63,[M],.aE [.st 35 [.bP false [.st 107 [.int .i64 (-2000),.int .i64 0],.st 107 [.int .i64 0,.int .i64 0],.st 107 [.int .i64 0,.int .i64 1000],.st 107 [.int .i64 (-2000),.int .i64 1000]],.int .i64 30,.bP false [.st 52 [.str [97],.int .i64 0,.str [49,57,47,50,48],.str [49]],.st 52 [.str [98],.int .i64 2,.str [48],.str [49,47,50,48]]],.bP false [.st 74 [.str [102,111,111,116],.st 41 [.str [45,49,53,48,48],.str [53,48,48]]],.st 74 [.str [104,101,97,100],.st 41 [.str [45,53,48,48],.str [53,48,48]]]]],.int .i64 0]),(64,[T,B,.st 118 [.bool false,.int .i64 1,.st 107 [.int .i64 0,.int .i64 0]]],.aE [.bP false [.st 74 [.str [99,117,101],.st 41 [.str [45,53,48,48],.str [53,48,48]]],.st 74 [.str [111,110,101],.st 41 [.str [45,53,48,48],.str [49,53,48,48]]],.st 74 [.str [116,119,111],.st 41 [.str [45,53,48,48],.str [49,53,54,48]]]],.int .i64 0]),(65,[T],.aE [.str [114,97,100,105,117,115,32,51,48,10,99,111,114,110,101,114,32,48,32,48,10,99,111,114,110,101,114,32,50,48,48,48,32,48,10,99,111,114,110,101,114,32,50,48,48,48,32,49,48,48,48,10,99,111,114,110,101,114,32,48,32,49,48,48,48,10,112,111,99,107,101,116,32,97,32,48,32,48,32,49,47,50,48,10,112,111,99,107,101,116,32,98,32,50,32,49,57,47,50,48,32,49,10,115,112,111,116,32,102,111,111,116,32,49,53,48,48,32,53,48,48,10,115,112,111,116,32,104,101,97,100,32,53,48,48,32,53,48,48,10],.int .i64 0]),(66,[.str [114,97,100,105,117,115,32,51,48,10,115,112,111,116,32,97,32,48,10]],.aE [.st 35 [.aW,.int .i64 0,.aW,.aW],.int .i64 2,.int .i64 25]),(67,[T,B1],.aE [.str [98,97,108,108,32,99,117,101,32,53,48,48,32,53,48,48,10],.int .i64 0])]) ⟨d0,d1,d2,d3,d4,d5,d6,d7,d8,d9,d10,d11,d12,d13,d14,d15,d16,trivial⟩ iB
end BL
theorem vU:aA prog 12 [] (.bool true):=fZ.gf BL.k2 BL.aDs (by kernel_rfl)
def er(p:dc):PV:=.st 52 [.str p.name,.int .i64 p.dI,.str p.a,.str p.b]
def fP(p:cF):PV:=.st 74 [.str p.name,du p.pt]
def b6(t:ar):PV:=.st 35 [.seq (t.cs.map cQ),.int .i64 t.br,.seq (t.aP.map er),.seq (t.aB.map fP)]
@[simp] theorem aL7(p:dc):aM (er p)=.agg 52:=rfl
@[simp] theorem aKZ(p:dc):cH (er p)=[.str p.name,.int .i64 p.dI,.str p.a,.str p.b]:=rfl
@[simp] theorem aMb(p:cF):aM (fP p)=.agg 74:=rfl
@[simp] theorem aK3(p:cF):cH (fP p)=[.str p.name,du p.pt]:=rfl
@[simp] theorem aMe(t:ar):aM (b6 t)=.agg 35:=rfl
@[simp] theorem aK5(t:ar):cH (b6 t)=[.seq (t.cs.map cQ),.int .i64 t.br,.seq (t.aP.map er),.seq (t.aB.map fP)]:=rfl
theorem Zv(p:dR):aA prog 81 [cQ p] (.bool (fM p)):=by
 obtain⟨x,y⟩:=p;refine aG nf QV mix (by simp[f81]) ?_;have e1:max x y=if x<y then y else x:=by split<;>omega
 have e2:min x y=if y<x then y else x:=by split<;>omega
 rw[fM,e1,e2]
 by_cases h:(if x<y then y else x)<=10000
 ·have a:¬10000<(if x<y then y else x):=by omega
  by_cases b:(if y<x then y else x)< -10000
  ·simp[f81,aa,h,a,b]
  ·simp[f81,aa,h,a,b]
 ·have a:10000<(if x<y then y else x):=by omega
  simp[f81,aa,h,a]
def idxFrom{α:Type}(p:α->Bool):List α->Nat->Int
 |[],_=>-1
 |x::r,i=>if p x then(i:Int)else idxFrom p r (i+1)
theorem rj{α:Type}(p:α->Bool):∀(l:List α)(i:Nat),decide (0<=idxFrom p l i)=l.any p
 |[],i=>by simp[idxFrom]
 |x::r,i=>by
  by_cases h:p x
  ·simp[idxFrom,h]
  ·simp[idxFrom,h,rj p r]
theorem Su(l:List dR)(h:l.length<=1000000):
 aA prog 171 [.seq (l.map cQ),.func 81 [] []] (.int .i64 (idxFrom fM l 0)):=by
 refine aG nf Pj mix (by simp[f171]) ?_;simp[f171];refine lp (α:=Nat) (fun i=>⟨[(8,.p (.int .i64 i)),(7,.p (.int .i64 l.length)),(1,.p (.func 81 [] [])),(0,.p (.seq (l.map cQ)))],[]⟩) (fun i=>i<=l.length/\idxFrom fM l 0=idxFrom fM (l.drop i) i) (fun i=>l.length-i) 0 (by simp) ?_;rintro i ⟨k1,k2⟩
 by_cases hi:i<l.length
 ·rw[bb hi]at k2;have b:=ct (i:=i) (by omega);simp[hi];refine c1 (Zv l[i]) ?_
  by_cases a:fM l[i]
  ·simp[idxFrom,a]at k2;simp[a,k2]
  ·simp[idxFrom,a]at k2;simp[a,b];exact rd (i+1) ⟨hi,k2⟩
 ·have:i=l.length:=by omega
  subst this;simp[idxFrom]at k2;simp[k2]
theorem Sk(l:List dR)(h:l.length<=1000000):
 aA prog 80 [.seq (l.map cQ),.func 81 [] []] (.bool (l.any fM)):=by
 refine aG nf QU mix (by simp[f80]) ?_;simp[f80];refine c2 (Su l h) ?_;simp[<-rj fM l 0]
def mM(l:List dR):List (PV×PV):=l.map (fun p=>(cQ p,PV.bool true))
theorem GJ{p q:dR}(h:¬p=q):¬(p.x=q.x/\p.y=q.y):=fun⟨a,b⟩=>h (by cases p;cases q;simp_all)
theorem ak3(a b c d:Int):ic prog 9 108 (.st 107 [.int .i64 a,.int .i64 b]) (.st 107 [.int .i64 c,.int .i64 d])=some ((a==c)&&((b==d)&&true)):=by kernel_rfl
@[simp] theorem BX(p q:dR):ic prog 9 108 (cQ p) (cQ q)=some (decide (p=q)):=by
 rw[cQ,cQ,ak3]
 by_cases h:p=q
 ·subst h;simp
 ·rw[decide_eq_false h];have:=GJ h
  by_cases a:p.x=q.x
  ·have b:¬p.y=q.y:=fun b=>this ⟨a,b⟩;simp[a,b]
  ·simp[a]
theorem GI(p q:dR):kJ (cQ p) (cQ q)=some (decide (p=q)):=by
 by_cases h:p=q
 ·subst h;simp[cQ,kJ,yu]
 ·rw[decide_eq_false h];have:=GJ h
  by_cases a:p.x=q.x
  ·have b:¬p.y=q.y:=fun b=>this ⟨a,b⟩;simp[cQ,kJ,yu,a,beq_false_of_ne b]
  ·simp[cQ,kJ,yu,beq_false_of_ne a]
theorem ajY(p q:dR):qU prog 108 (cQ p) (cQ q)=some (decide (p=q)):=by
 have e1:=BX p q;have e2:=GI p q;rw[cQ]at e1 e2⊢;rw[qU,e1,e2];simp
@[simp] theorem Gf(q:dR):∀l:List dR,fT prog 108 (mM l) (cQ q)=some (if q∈l then some (.bool true)else none)
 |[]=>rfl
 |p::r=>by
  rw[mM,be,fT,ajY]
  by_cases h:q=p
  ·simp[h]
  ·have:=Gf q r;rw[mM]at this;simp[h,this]
theorem Sr{q:dR}{l:List dR}(h:¬q∈l):mj prog 108 (mM l) (cQ q)=some none:=by
 have:=Gf q l;rw[if_neg h]at this;rw[cQ]at this⊢;rw[mj,this]
theorem Gg{q:dR}:∀{l:List dR},¬q∈l->gz (mM l) (cQ q) (.bool true)=mM (l++[q])
 |[],_=>rfl
 |p::r,h=>by
  have a:¬q=p:=fun e=>h (e▸List.mem_cons_self);have b:¬q∈r:=fun e=>h (List.mem_cons_of_mem _ e);have:=Gg b;rw[mM]at this⊢;rw[be,gz,GI,this];simp[a,mM]
theorem aET:sV prog 108=true:=by kernel_rfl
@[simp high] theorem aKh(c:Bool)(H:Heap)(p q:dR):jh prog .neq 108 c H (.p (cQ p)) (.p (cQ q))=some (True,{v:=.p (.bool !(decide (p=q)))}):=by
 have e:=BX p q;rw[cQ,cQ]at*;simp[jh,e,aET]
@[simp high] theorem aKU(q:dR):fA prog 108 (cQ q)=true:=by
 have e1:=BX q q;rw[cQ]at e1⊢;rw[fA];simp[e1]
theorem SH(a c:dR):lh a a c=0:=by simp[lh]
theorem Ss(a b:dR):lh a b a=0:=by simp[lh]
theorem SE{t:ar}(e:3<=t.cs.length){j k:Nat}(c:j<t.cs.length)(hk:k<t.cs.length)(d:j≠k)(b:t.at j=t.at k):t.fD=false:=by
 rw[ar.fD,decide_eq_false_iff_not];intro h
 by_cases hx:k=t.nx j
 ·obtain⟨m,m1,m2,m3⟩:∃m,m<t.cs.length/\m≠j/\m≠k:=by
   rcases ce j k with a|a|a
   ·by_cases e0:j=0
    ·by_cases e1:k=1
     ·exact⟨2,by omega,by omega,by omega⟩
     ·exact⟨1,by omega,by omega,by omega⟩
    ·exact⟨0,by omega,by omega,by omega⟩
   ·exact(d a).elim
   ·by_cases e0:k=0
    ·by_cases e1:j=1
     ·exact⟨2,by omega,by omega,by omega⟩
     ·exact⟨1,by omega,by omega,by omega⟩
    ·exact⟨0,by omega,by omega,by omega⟩
  have:=h j c m m1 m2 (hx▸m3);rw[<-hx,<-b,SH]at this;omega
 ·have:=h j c k hk (Ne.symm d) hx;rw[<-b,Ss]at this;omega
theorem SK(t:ar)(aj:3<=t.cs.length)(ak:t.cs.length<=1000000)(F:∀p∈t.cs,dL p):aA prog 82 [b6 t] (.bool t.fD):=by
 refine aG nf QW mix (by simp[f82]) ?_;generalize q:t.cs.length=n at*;simp[f82,aa,q];refine lp (α:=Nat) (fun i=>⟨[(16,.p (.int .i64 i)),(15,.p (.int .i64 n)),(14,.p (.seq (t.cs.map cQ))),(3,.map 1),(1,.ptr 0 [])],[.box false (.p (b6 t)),.map false (mM (t.cs.take i))]⟩) (fun i=>i<=n/\∀j k,j<k->k<i->t.at j≠t.at k) (fun i=>n-i) 0 (by simp) ?_ (hh:=by simp[mM]);rintro i ⟨ai,E⟩
 by_cases hi:i<n
 ·have H:=ar.get (t:=t) (i:=i) (by omega);have z:=ct (i:=i) (by omega);have W:t.cs.take (i+1)=t.cs.take i++[t.at i]:=by rw[b0,H];rfl
  simp[-fA,hi,q,H,aa]
  by_cases f:t.at i∈t.cs.take i
  ·obtain⟨j,s,r⟩:=bv.1 f;rw[bl]at s;rw[b1,ar.aN (by omega)]at r;have Q:=SE (by omega) (j:=j) (k:=i) (by omega) (by omega) (by omega) r;simp[f,Q]
  ·have hI:=Sr f;have I:=Gg f;rw[<-W]at I;simp[-fA,-mj,f,hI,I,z];exact rd (i+1) ⟨hi,fun j k w hk=>by
    by_cases T:k=i
    ·subst T;intro r;exact f (r▸a9 (i:=j) (by rw[List.getElem?_take,if_pos w];exact ar.get (by omega)))
    ·exact E j k w (by omega)⟩
 have R:i=n:=by omega
 subst R;have inj:∀j k,j<i->k<i->t.at j=t.at k->j=k:=fun j k s hk r=>by
  rcases ce j k with h|h|h
  ·exact(E j k h hk r).elim
  ·exact h
  ·exact(E k j h s r.symm).elim
 simp[q,aa];refine lp (α:=Nat) (fun m=>⟨[(32,.p (.int .i64 m)),(31,.p (.int .i64 i)),(30,.p (.seq (t.cs.map cQ))),(6,.p (.int .i64 i)),(1,.ptr 0 [])],[.box false (.p (b6 t))]⟩) (fun m=>m<=i/\∀j,j<m->t.nI j i) (fun m=>i-m) 0 (by simp) ?_;rintro m ⟨g1,g2⟩;have U:¬i=0:=by omega
 by_cases f:m<i
 ·have M:=ar.get (t:=t) (i:=m) (by omega);have z:=ct (i:=m) (by omega);have V:t.nx m<i:=by rw[<-q];exact t.iJ (by omega) m
  have N:=ar.get (t:=t) (i:=t.nx m) (by omega);have e1:((m:Int)+1).tmod (i:Int)=((t.nx m:Nat):Int):=by
   rw[ar.nx,q,a7,a6 (by omega)];rfl
  simp[f,q,M,N,z,e1,U,aa];refine⟨by repeat' first|rfl|apply an,?_⟩;refine lp (α:=Nat) (fun k=>⟨[(48,.p (.int .i64 k)),(47,.p (.int .i64 i)),(46,.p (.seq (t.cs.map cQ))),(9,.ptr 2 []),(8,.ptr 1 []),(32,.p (.int .i64 m)),(31,.p (.int .i64 i)),(30,.p (.seq (t.cs.map cQ))),(6,.p (.int .i64 i)),(1,.ptr 0 [])],[.box false (.p (b6 t)),.box false (.p (cQ (t.at m))),.box false (.p (cQ (t.at (t.nx m))))]⟩) (fun k=>k<=i/\t.nI m k) (fun k=>i-k) 0 (by simp[ar.nI]) ?_;rintro k ⟨q1,D⟩
  by_cases hk:k<i
  ·have gk:=ar.get (t:=t) (i:=k) (by omega);have G:=ct (i:=k) (by omega)
   by_cases c1:t.at k=t.at m
   ·have:=inj _ _ hk f c1;subst this;simp[-jh,jh.eq_1,hk,gk,G,aa];exact rd (k+1) ⟨hk,fun j s=>by
     by_cases w:j=k
     ·intro h;exact(h w).elim
     ·exact D j (by omega)⟩
   ·by_cases c2:t.at k=t.at (t.nx m)
    ·have:=inj _ _ hk V c2;have c3:¬t.at (t.nx m)=t.at m:=by rw[<-c2];exact c1
     simp[-jh,jh.eq_1,hk,gk,G,c2,c3,aa];exact rd (k+1) ⟨hk,fun j s=>by
      by_cases w:j=k
      ·intro _ h;exact(h (by omega)).elim
      ·exact D j (by omega)⟩
    ·have L:k≠m:=fun e=>c1 (by rw[e]);have nx:k≠t.nx m:=fun e=>c2 (by rw[e]);have P:lh (t.at m) (t.at (t.nx m)) (t.at k)=((t.at (t.nx m)).x-(t.at m).x)*((t.at k).y-(t.at m).y)-((t.at (t.nx m)).y-(t.at m).y)*((t.at k).x-(t.at m).x):=rfl;have X:=ar.dY F (i:=m) (by omega);have Y:=ar.dY F (i:=t.nx m) (by omega);have Z:=ar.dY F (i:=k) (by omega);have K:t.nI m (k+1)↔0<lh (t.at m) (t.at (t.nx m)) (t.at k):=⟨fun h=>h k (by omega) L nx,fun h j s u v=>by
      by_cases w:j=k
      ·subst w;exact h
      ·exact D j (by omega) u v⟩
     have J:¬0<lh (t.at m) (t.at (t.nx m)) (t.at k)->t.fD=false:=fun h=>by
      rw[ar.fD,decide_eq_false_iff_not];intro O;exact h (O m (by omega) k (by omega) L nx)
     rw[P]at K J;simp[-jh,jh.eq_1,hk,gk,G,c1,c2,aa];simp only[dL]at X Y Z;generalize t.at m=A at*;generalize t.at (t.nx m)=B at*;generalize t.at k=C at*;obtain⟨c,d⟩:=A;obtain⟨bx,g⟩:=B;obtain⟨l,o⟩:=C;dsimp only at*;have ab:a0.wrap (bx-c)=bx-c:=aO _ (by omega) (by omega);have ac:a0.wrap (o-d)=o-d:=aO _ (by omega) (by omega);have ad:a0.wrap (g-d)=g-d:=aO _ (by omega) (by omega)
     have ae:a0.wrap (l-c)=l-c:=aO _ (by omega) (by omega);have al:=tv (a:=bx-c) (b:=o-d) (A:=20000) (B:=20000) (by omega) (by omega) (by omega) (by omega);have am:=tv (a:=g-d) (b:=l-c) (A:=20000) (B:=20000) (by omega) (by omega) (by omega) (by omega);have af:a0.wrap ((bx-c)*(o-d))=(bx-c)*(o-d):=aO _ (by omega) (by omega);have ag:a0.wrap ((g-d)*(l-c))=(g-d)*(l-c):=aO _ (by omega) (by omega);have ah:a0.wrap ((bx-c)*(o-d)-(g-d)*(l-c))=(bx-c)*(o-d)-(g-d)*(l-c):=aO _ (by omega) (by omega);simp[ab,ac,ad,ae,af,ag,ah]
     by_cases hc:(bx-c)*(o-d)-(g-d)*(l-c)<=0
     ·have:=J (by omega);simp[hc,this]
     ·simp[hc];exact rd (k+1) ⟨hk,K.2 (by omega)⟩
  ·have:k=i:=by omega
   subst this;simp[z];exact rd (m+1) ⟨f,fun j s=>by
    by_cases S:j=m
    ·subst S;exact D
    ·exact g2 j (by omega)⟩
 ·have:m=i:=by omega
  subst this;have:t.fD=true:=by
   rw[ar.fD,decide_eq_true_eq,q];exact g2
  simp[this]
noncomputable def cM(v:NV):PV:=.st 138 [eF v.x,eF v.y]
@[simp] theorem aMd(v:NV):aM (cM v)=.agg 138:=rfl
@[simp] theorem aK4(v:NV):cH (cM v)=[eF v.x,eF v.y]:=rfl
@[simp] theorem aKr:prog.cellsOf 138=8:=by kernel_rfl
theorem tI(x y:NF):cM ⟨x,y⟩=.st 138 [eF x,eF y]:=rfl
noncomputable def nA(a b:NV):PV:=.st 140 [cM a,cM b]
@[simp] theorem aL2(a b:NV):aM (nA a b)=.agg 140:=rfl
@[simp] theorem aKV(a b:NV):cH (nA a b)=[cM a,cM b]:=rfl
theorem pL(p:dU)(d:bK p.x=0)(e:bK p.y=0)(a:jk p):aA prog 107 [du p] (cM (.from p)):=by
 have b:=jP p.x d a.1.1;have c:=jP p.y e a.2.1;refine aG nf GB mix (by simp[f107]) ?_;rw[NV.from,tI];simp[f107,aa];refine e1 b ?_;simp[aa];refine e1 c ?_;simp[aa]
def b8(p:dR):NV:=⟨.int p.x,.int p.y⟩
theorem yW(p:dR):(b8 p).q=eO p:=rfl
theorem F8(p:dR)(h:dL p):aA prog 183 [cQ p] (cM (b8 p)):=by
 simp only[dL]at h;have a:=qO p.x (by omega) (by omega);have b:=qO p.y (by omega) (by omega);refine aG nf GY mix (by simp[f183]) ?_;rw[b8,tI];simp[f183,aa];refine e1 a ?_;simp[aa];refine e1 b ?_;simp[aa]
theorem tJ(v w:NV)(a:bS kQ v.q)(b:bS kQ w.q):aA prog 91 [cM v,cM w] (cM (v.sub w)):=by
 have c:=As v.x w.x (dN a.1) (dN b.1);have d:=As v.y w.y (dN a.2) (dN b.2);refine aG nf Q6 mix (by simp[f91]) ?_;rw[NV.sub,tI];simp[f91,aa];refine e2 c ?_;simp[aa];refine e2 d ?_;simp[aa]
theorem BW(v w:NV)(a:bS kQ v.q)(b:bS kQ w.q):aA prog 71 [cM v,cM w] (eF (v.fw w)):=by
 have c:=qA v.x w.y (dN a.1) (dN b.2);have d:=qA v.y w.x (dN a.2) (dN b.1);have e:=As (v.x.mul w.y) (v.y.mul w.x) ((ju a.1 b.2).mono (by decide)) ((ju a.2 b.1).mono (by decide));refine aG nf QL mix (by simp[f71]) ?_;rw[NV.fw];simp[f71,aa];refine e2 c ?_;simp[aa];refine e2 d ?_;simp[aa];refine e2 e ?_;simp[aa]
theorem Ib(t:ar)(i:Nat)(hi:i<t.cs.length)(l:t.cs.length<=1000000)(h:∀p∈t.cs,dL p):aA prog 89 [b6 t,.int .i64 i] (nA (b8 (t.at i)) (b8 (t.at (t.nx i)))):=by
 have a:=t.iJ (by omega) i;have j:=F8 (t.at i) (ar.dY h hi);have k:=F8 (t.at (t.nx i)) (ar.dY h a);have g:=ct (i:=i) (by omega);have e1:((i:Int)+1).tmod (t.cs.length:Int)=((t.nx i:Nat):Int):=by
  rw[ar.nx,a7,a6 (by omega)];rfl
 have f:¬t.cs.length=0:=by omega
 have d:¬t.cs=[]:=by intro e;rw[e]at hi;simp at hi
 have b:=ar.get hi;have c:=ar.get a;refine aG nf Q3 mix (by simp[f89]) ?_;rw[nA];simp[f89,aa,g,e1,f,d,b,c,hi,a];refine Go.ag.e1 j ?_;simp[aa,g,e1,f,d,b,c,hi,a];refine Go.ag.e1 k ?_;simp[aa,g,e1,f,d,b,c,hi,a]
theorem Cg(t:ar):aA prog 69 [b6 t] (.func 160 [] [.cw (b6 t)]):=by
 refine aG nf QJ mix (by simp[f69]) ?_;simp[f69];show gv [.box false (.p (b6 t))] 7 (.p (b6 t)) (b6 t);rw[FL];exact Wk.refl _
noncomputable def pI(t:ar)(i:Nat):List PV:=[.int .i64 i,nA (b8 (t.at i)) (b8 (t.at (t.nx i)))]
theorem tx{t:ar}{i:Nat}(h:i<t.cs.length):((b3 t.cs.length).map (pI t))[i]?=some (pI t i):=by
 rw[List.getElem?_map,List.getElem?_range h];rfl
theorem Ch(t:ar)(g:t.cs.length<=1000000)(h:∀p∈t.cs,dL p):Stream prog 160 [] [.cw (b6 t)] ((b3 t.cs.length).map (pI t)):=by
 intro b k e H' hk a l d;rw[List.length_map,List.length_range]at hk d;refine fJ nf Hm mix (by simp[f160]) ?_;simp[f160,aa];refine lp (α:=Nat) (fun i=>⟨[(7,.p (.int .i64 i)),(6,.p (.int .i64 t.cs.length)),(1,.p (.cw (b6 t))),(0,.map b)],e i⟩) (fun i=>i<=k) (fun i=>k-i) 0 (by simp) ?_ (hr:=by simp;exact(a 0 (by omega)).2) (hr2:=(a 0 (by omega)).1);rintro i m
 by_cases hi:i<t.cs.length
 ·have f:=Ib t i hi g h;have j:=ct (i:=i) (by omega);simp[hi];refine c2 f ?_;simp
  by_cases c:i<k
  ·refine⟨e (i+1),_,l i _ c (tx hi),?_⟩;simp[j];exact rd (i+1) c (hr:=by simp;exact(a (i+1) c).2) (hr2:=(a (i+1) c).1)
  ·have:i=k:=by omega
   subst this;rcases d with⟨e1,_⟩|⟨y,e1,e2⟩
   ·omega
   ·rw[tx hi]at e1;injection e1 with e1
    subst e1;refine⟨H',_,e2,?_⟩;simp
 ·have:i=t.cs.length:=by omega
  subst this;rcases d with⟨e1,e2⟩|⟨y,e1,e2⟩
  ·have:t.cs.length=k:=by omega
   subst this;simp[e2]
  ·rw[List.getElem?_eq_none (by simp;omega)]at e1;cases e1
noncomputable def yB(t:ar)(v:NV)(L:ek)(i:Nat):Heap:=[.box false (.p (b6 t)),.box false (.p (cM v)),.box false (.p (.int .i64 (t.qX v.q i))),.loop L]
theorem wx(t:ar)(v:NV)(m:t.cs.length<=1000000)(c:∀p∈t.cs,dL p)(g:bS 3000 v.q):aA prog 118 [b6 t,cM v] (.int .i64 (t.on v.q)):=by
 refine aG nf Pv mix (by simp[f118]) ?_;simp[f118,aa];refine c1 (Cg t) ?_;simp;refine rf (Ch t m c) rfl (by simp) (yB t v) t.cs.length (by simp) (fun L=>rfl) ?_ ?_ ?_
 ·intro L a i hi;refine⟨rfl,by simp[yB],fun _ hx=>?_⟩;simp[yB]at hx⊢;exact hx
 ·intro L a i x hi hx;rw[tx hi]at hx;injection hx with hx
  subst hx;have b:=iy (ar.dY c hi);have h:=iy (ar.dY c (t.iJ (by omega) i));have q1:bS 29 ((b8 (t.at (t.nx i))).sub (b8 (t.at i))).q:=by rw[NV.kz];exact mz h b
  have n:bS 3015 (v.sub (b8 (t.at i))).q:=by rw[NV.kz];exact mz g b
  have j:=tJ (b8 (t.at (t.nx i))) (b8 (t.at i)) (h.mono (by decide)) (b.mono (by decide));have k:=tJ v (b8 (t.at i)) (g.mono (by decide)) (b.mono (by decide));have l:=BW ((b8 (t.at (t.nx i))).sub (b8 (t.at i))) (v.sub (b8 (t.at i))) (q1.mono (by decide)) (n.mono (by decide));have e:=xV (((b8 (t.at (t.nx i))).sub (b8 (t.at i))).fw (v.sub (b8 (t.at i))));have d:eg (((b8 (t.at (t.nx i))).sub (b8 (t.at i))).fw (v.sub (b8 (t.at i)))).q=t.side i v.q:=by
   rw[NV.yM,NV.kz,NV.kz];rfl
  rw[eg]at d;rw[d]at e;have hs:=ar.Ga t v.q i;rw[Gu]at hs;refine vK nf mix a rfl rfl (by kernel_rfl) ?_;have f:=congrArg ek.env a;dsimp only at f;clear a d;generalize (b8 (t.at (t.nx i))).sub (b8 (t.at i))=W at*;generalize v.sub (b8 (t.at i))=U at*;generalize W.fw U=C at*;simp[yB,pI,nA,aa];refine e2 j ?_;simp[aa];refine e2 k ?_;simp[aa];refine e2 l ?_;simp[aa];refine e1 e ?_;simp[aa];refine⟨by repeat' first|rfl|apply an,?_⟩;rw[<-hs];refine cV.og (by simp) (by simp) (by simp) (by simp) ?_;simp;exact tH f (by simp)
 ·intro L a;refine .inl ⟨by simp,?_⟩;simp[yB,ar.on]
theorem BR(s:List Nat)(hs:fW s)(h:bK s=0):aA prog 176 [.str s] (.int .i64 (dH (aL s))):=by
 have o:=dW h;have d:=jP s h hs.1;have c:=xV ⟨aL s,false⟩;have g:=qO 1 (by decide) (by decide);have e:=oI ⟨aL s,false⟩ (.int 1) (o.mono (by decide)) ((show bI 1 (NF.int 1).q from⟨by decide,by decide⟩).mono (by decide));have e2:(if(⟨aL s,false⟩:NF).q<0 then(-1:Int)else if(⟨aL s,false⟩:NF).q=0 then 0 else 1)=eg (aL s):=rfl;have e4:cT (⟨aL s,false⟩:NF).q (NF.int 1).q=cT (aL s) 1:=rfl;rw[e2]at c;rw[e4]at e;have f:=fun b=>gH b 3;refine aG nf G5 mix (by simp[f176]) ?_;rw[dH];clear e2 e4 o;generalize eg (aL s)=x at*;generalize cT (aL s) 1=y at*;generalize (⟨aL s,false⟩:NF)=v at*
 by_cases a:x<0
 ·simp[f176,aa];refine c1 d ?_;simp[aa];refine Go.ag.e1 c ?_;simp[a,aa];refine Go.ag.e2 (f true) ?_;simp[aX];omega
 ·by_cases b:0<y
  ·simp[f176,aa];refine c1 d ?_;simp[aa];refine Go.ag.e1 c ?_;simp[a,aa];refine Go.ag.e1 g ?_;simp[a,aa];refine Go.ag.e2 e ?_;simp[a,b,aa];refine Go.ag.e2 (f true) ?_;simp[aX];omega
  ·simp[f176,aa];refine c1 d ?_;simp[aa];refine Go.ag.e1 c ?_;simp[a,aa];refine Go.ag.e1 g ?_;simp[a,aa];refine Go.ag.e2 e ?_;simp[a,b,aa];refine Go.ag.e2 (f false) ?_;simp[aX];omega
def ln(p:dc):Prop:=s8 p/\bK p.a=0/\bK p.b=0
theorem Zx(p o:dc)(r:ln p)(q:ln o):aA prog 175 [er p,er o] (.bool (gI o p)):=by
 obtain⟨⟨_,u,v⟩,l,m⟩:=r;obtain⟨⟨_,s,t⟩,j,k⟩:=q;have d:=jP p.a l u.1;have e:=jP o.b k t.1;have c:=oI ⟨aL p.a,false⟩ ⟨aL o.b,false⟩ ((dW l).mono (by decide)) ((dW k).mono (by decide));have g:=jP o.a j s.1;have i:=jP p.b m v.1;have f:=oI ⟨aL o.a,false⟩ ⟨aL p.b,false⟩ ((dW j).mono (by decide)) ((dW m).mono (by decide));dsimp only at c f;refine aG nf G6 mix (by simp[f175]) ?_;rw[gI];generalize cT (aL p.a) (aL o.b)=x at*;generalize cT (aL o.a) (aL p.b)=y at*;generalize (⟨aL p.a,false⟩:NF)=v1 at*;generalize (⟨aL p.b,false⟩:NF)=v2 at*;generalize (⟨aL o.a,false⟩:NF)=v3 at*;generalize (⟨aL o.b,false⟩:NF)=v4 at*
 by_cases c1:o.dI=p.dI
 case neg=>
  have n:¬p.dI=o.dI:=fun h=>c1 h.symm;simp[f175,aa,c1,n]
 by_cases c2:x<=0
 ·by_cases c3:y<=0
  ·simp[f175,aa,c1];refine Go.ag.e1 d ?_;simp[aa,c1];refine Go.ag.e1 e ?_;simp[aa,c1];refine Go.ag.e2 c ?_;simp[aa,c1,c2];refine Go.ag.e1 g ?_;simp[aa,c1,c2];refine Go.ag.e1 i ?_;simp[aa,c1,c2];refine Go.ag.e2 f ?_;simp[aa,c1,c2,c3]
  ·simp[f175,aa,c1];refine Go.ag.e1 d ?_;simp[aa,c1];refine Go.ag.e1 e ?_;simp[aa,c1];refine Go.ag.e2 c ?_;simp[aa,c1,c2];refine Go.ag.e1 g ?_;simp[aa,c1,c2];refine Go.ag.e1 i ?_;simp[aa,c1,c2];refine Go.ag.e2 f ?_;simp[aa,c1,c2,c3]
 ·simp[f175,aa,c1];refine Go.ag.e1 d ?_;simp[aa,c1];refine Go.ag.e1 e ?_;simp[aa,c1];refine Go.ag.e2 c ?_;simp[aa,c1,c2]
theorem SD(p o:dc):cB prog 173 [.box false (.p (er p))] [.p (er o),.ptr 0 []] [.box false (.p (er p))] (.p (.bool (decide (o.name=p.name)))):=by
 refine fJ nf Ph mix (by simp[f173]) ?_
 by_cases h:o.name=p.name
 ·simp[f173,aa,h];exact cV.og (by simp) (by simp) (by simp) (by simp) (by simp)
 ·simp[f173,aa,h];exact cV.og (by simp) (by simp) (by simp) (by simp) (by simp)
theorem SG(p:dc)(l:List dc)(h:l.length<=1000000):
 cB prog 95 [.box false (.p (er p))] [.p (.seq (l.map er)),.func 173 [] [.ptr 0 []]] [.box false (.p (er p))] (.p (.int .i64 (idxFrom (fun o=>decide (o.name=p.name)) l 0))):=by
 refine fJ nf y7 mix (by simp[f95]) ?_;simp[f95];refine lp (α:=Nat) (fun i=>⟨[(8,.p (.int .i64 i)),(7,.p (.int .i64 l.length)),(1,.func 173 [] [.ptr 0 []]),(0,.p (.seq (l.map er)))],[.box false (.p (er p))]⟩) (fun i=>i<=l.length/\idxFrom (fun o=>decide (o.name=p.name)) l 0=idxFrom (fun o=>decide (o.name=p.name)) (l.drop i) i) (fun i=>l.length-i) 0 (by simp) ?_;rintro i ⟨k1,k2⟩;have a:=ct (i:=i) (by omega)
 by_cases hi:i<l.length
 ·rw[bb hi,idxFrom]at k2;simp[hi];refine cf (SD p l[i]) [0] ?_
  by_cases hk:l[i].name=p.name
  ·simp[hk]at k2;simp[hk,k2,bf]
  ·simp[hk]at k2;simp[hk,a,bf];exact rd (i+1) ⟨hi,k2⟩
 ·have:i=l.length:=by omega
  subst this;simp[idxFrom]at k2;simp[k2]
theorem Sz(p:dc)(l:List dc)(h:l.length<=1000000):
 cB prog 172 [.box false (.p (er p))] [.p (.seq (l.map er)),.func 173 [] [.ptr 0 []]] [.box false (.p (er p))] (.p (.bool (l.any (fun o=>decide (o.name=p.name))))):=by
 refine fJ nf ES mix (by simp[f172]) ?_;simp[f172];refine cf (SG p l h) [0] ?_;have:=rj (fun o=>decide (o.name=p.name)) l 0;simp[bf,<-this]
theorem SC(p o:cF):cB prog 178 [.box false (.p (fP p))] [.p (fP o),.ptr 0 []] [.box false (.p (fP p))] (.p (.bool (decide (o.name=p.name)))):=by
 refine fJ nf G3 mix (by simp[f178]) ?_
 by_cases h:o.name=p.name
 ·simp[f178,aa,h];exact cV.og (by simp) (by simp) (by simp) (by simp) (by simp)
 ·simp[f178,aa,h];exact cV.og (by simp) (by simp) (by simp) (by simp) (by simp)
theorem Sp(p:cF)(l:List cF)(h:l.length<=1000000):
 cB prog 198 [.box false (.p (fP p))] [.p (.seq (l.map fP)),.func 178 [] [.ptr 0 []]] [.box false (.p (fP p))] (.p (.int .i64 (idxFrom (fun o=>decide (o.name=p.name)) l 0))):=by
 refine fJ nf ER mix (by simp[f198]) ?_;simp[f198];refine lp (α:=Nat) (fun i=>⟨[(8,.p (.int .i64 i)),(7,.p (.int .i64 l.length)),(1,.func 178 [] [.ptr 0 []]),(0,.p (.seq (l.map fP)))],[.box false (.p (fP p))]⟩) (fun i=>i<=l.length/\idxFrom (fun o=>decide (o.name=p.name)) l 0=idxFrom (fun o=>decide (o.name=p.name)) (l.drop i) i) (fun i=>l.length-i) 0 (by simp) ?_;rintro i ⟨k1,k2⟩;have a:=ct (i:=i) (by omega)
 by_cases hi:i<l.length
 ·rw[bb hi,idxFrom]at k2;simp[hi];refine cf (SC p l[i]) [0] ?_
  by_cases hk:l[i].name=p.name
  ·simp[hk]at k2;simp[hk,k2,bf]
  ·simp[hk]at k2;simp[hk,a,bf];exact rd (i+1) ⟨hi,k2⟩
 ·have:i=l.length:=by omega
  subst this;simp[idxFrom]at k2;simp[k2]
theorem Sy(p:cF)(l:List cF)(h:l.length<=1000000):
 cB prog 177 [.box false (.p (fP p))] [.p (.seq (l.map fP)),.func 178 [] [.ptr 0 []]] [.box false (.p (fP p))] (.p (.bool (l.any (fun o=>decide (o.name=p.name))))):=by
 refine fJ nf G4 mix (by simp[f177]) ?_;simp[f177];refine cf (Sp p l h) [0] ?_;have:=rj (fun o=>decide (o.name=p.name)) l 0;simp[bf,<-this]
theorem SB(p:dc)(c:ln p)(l:List dc)(h:l.length<=1000000)(b:∀o∈l,ln o):
 aA prog 95 [.seq (l.map er),.func 175 [er p] []] (.int .i64 (idxFrom (fun o=>gI o p) l 0)):=by
 refine aG nf y7 mix (by simp[f95]) ?_;simp[f95];refine lp (α:=Nat) (fun i=>⟨[(8,.p (.int .i64 i)),(7,.p (.int .i64 l.length)),(1,.p (.func 175 [er p] [])),(0,.p (.seq (l.map er)))],[]⟩) (fun i=>i<=l.length/\idxFrom (fun o=>gI o p) l 0=idxFrom (fun o=>gI o p) (l.drop i) i) (fun i=>l.length-i) 0 (by simp) ?_;rintro i ⟨k1,k2⟩;have d:=ct (i:=i) (by omega)
 by_cases hi:i<l.length
 ·rw[bb hi,idxFrom]at k2;have a:=Zx p l[i] c (b _ (List.getElem_mem hi));simp[hi];refine c2 a ?_;cases hk:gI l[i] p
  ·simp[hk]at k2;simp[d];exact rd (i+1) ⟨hi,k2⟩
  ·simp[hk]at k2;simp[k2]
 ·have:i=l.length:=by omega
  subst this;simp[idxFrom]at k2;simp[k2]
theorem Sn(p:dc)(b:ln p)(l:List dc)(h:l.length<=1000000)(a:∀o∈l,ln o):
 aA prog 172 [.seq (l.map er),.func 175 [er p] []] (.bool (l.any (fun o=>gI o p))):=by
 refine aG nf ES mix (by simp[f172]) ?_;simp[f172];refine c2 (SB p b l h a) ?_;have:=rj (fun o=>gI o p) l 0;simp[<-this]
def kV(n:Nat)(c:List dc)(p:dc):Int:=bt [aX (!isName p.name) 8,aX (c.any fun o=>decide (o.name=p.name)) 9,aX (decide (p.dI<0\/(n:Int)<=p.dI)) 10,bK p.a,bK p.b]
def Bz(c:List dc)(p:dc):Int:=bt [dH (aL p.a),dH (aL p.b),aX (decide (0<cT (aL p.a) (aL p.b))) 11,aX (c.any fun o=>gI o p) 17]
theorem yL(q:Rat):dH q=0\/dH q=3:=by
 rw[dH];split
 ·exact .inr rfl
 ·exact .inl rfl
theorem Sx(n:Nat)(e:List dc)(p:dc):fS n e p=if kV n e p=0 then Bz e p else kV n e p:=by
 rw[fS,kV,Bz];generalize bK p.a=ca;generalize bK p.b=i;have j:=yL (aL p.a);have h:=yL (aL p.b);generalize dH (aL p.a)=r at*;generalize dH (aL p.b)=s at*;generalize cT (aL p.a) (aL p.b)=y;generalize (e.any fun o=>gI o p)=m;generalize (e.any fun o=>decide (o.name=p.name))=a;have k:max (0:Int) 3=3:=rfl;have l:max (3:Int) 0=3:=rfl;cases q:isName p.name
 ·simp[bt,aX]
 cases a
 case true=>simp[bt,aX]
 by_cases c:p.dI<0\/(n:Int)<=p.dI
 ·simp[bt,aX,c]
 by_cases d:ca=0
 case neg=>simp[bt,aX,c,d]
 by_cases f:i=0
 case neg=>simp[bt,aX,c,d,f]
 rcases j with rfl|rfl
 ·rcases h with rfl|rfl
  ·by_cases g:0<y
   ·simp[bt,aX,c,d,f,g]
   ·cases m<;>simp[bt,aX,c,d,f,g]
  ·simp[bt,aX,c,d,f,k]
 ·rcases h with rfl|rfl
  ·simp[bt,aX,c,d,f,l]
  ·simp[bt,aX,c,d,f]
theorem Sq{n:Nat}{bef:List dc}{p:dc}(h:kV n bef p=0):bK p.a=0/\bK p.b=0:=by
 rw[kV,jK]at h;exact⟨h _ (by simp),h _ (by simp)⟩
theorem Sm(t:ar)(p:dc)(d:List dc)(L:t.cs.length<=1000000)(G:s8 p)(m:d.length<=1000000)(F:∀o∈d,ln o):
 aA prog 84 [b6 t,er p,.seq (d.map er)] (.int .i64 (fS t.cs.length d p)):=by
 obtain⟨C,j,k⟩:=G;have k1:=Sz p d m;have k2:=BU p.name C.1;have k3:=gH (!isName p.name) 8;have k4:=gH (d.any fun o=>decide (o.name=p.name)) 9;have k5:=fun b=>gH b 10;have k6:=yg p.a j.1 j.2;have k7:=yg p.b k.1 k.2;have k8:=lj [aX (!isName p.name) 8,aX (d.any fun o=>decide (o.name=p.name)) 9,aX (decide (p.dI<0\/(t.cs.length:Int)<=p.dI)) 10,bK p.a,bK p.b] (by simp);have g:=Sq (n:=t.cs.length) (bef:=d) (p:=p);rw[Sx];have s:=fun h:kV t.cs.length d p=0=>Sn p ⟨⟨C,j,k⟩,(g h).1,(g h).2⟩ d m F;have u:=fun h:kV t.cs.length d p=0=>BR p.a j (g h).1;have v:=fun h:kV t.cs.length d p=0=>BR p.b k (g h).2;have w:=fun h:kV t.cs.length d p=0=>jP p.a (g h).1 j.1;have x:=fun h:kV t.cs.length d p=0=>jP p.b (g h).2 k.1;have q:=fun h:kV t.cs.length d p=0=>oI ⟨aL p.a,false⟩ ⟨aL p.b,false⟩ ((dW (g h).1).mono (by decide)) ((dW (g h).2).mono (by decide));dsimp only at q;have B:=gH (decide (0<cT (aL p.a) (aL p.b))) 11;have z:=gH (d.any fun o=>gI o p) 17;have i:=lj [dH (aL p.a),dH (aL p.b),aX (decide (0<cT (aL p.a) (aL p.b))) 11,aX (d.any fun o=>gI o p) 17] (by simp);have d1:kV t.cs.length d p=bt [aX (!isName p.name) 8,aX (d.any fun o=>decide (o.name=p.name)) 9,aX (decide (p.dI<0\/(t.cs.length:Int)<=p.dI)) 10,bK p.a,bK p.b]:=rfl;have d2:Bz d p=bt [dH (aL p.a),dH (aL p.b),aX (decide (0<cT (aL p.a) (aL p.b))) 11,aX (d.any fun o=>gI o p) 17]:=rfl;rw[<-d1]at k8;rw[<-d2]at i;clear d1 d2 g;generalize kV t.cs.length d p=l at*;generalize Bz d p=K at*;generalize bK p.a=H at*;generalize bK p.b=I at*;generalize dH (aL p.a)=U at*;generalize dH (aL p.b)=V at*;generalize cT (aL p.a) (aL p.b)=A at*;generalize (d.any fun o=>decide (o.name=p.name))=D at*;generalize (d.any fun o=>gI o p)=J at*;generalize isName p.name=E at*;generalize (⟨aL p.a,false⟩:NF)=v1 at*;generalize (⟨aL p.b,false⟩:NF)=v2 at*;refine aG nf QY mix (by simp[f84]) ?_;have r:∀b:Bool,decide (p.dI<0\/(t.cs.length:Int)<=p.dI)=b->aA prog 79 [.bool b,.int .i64 10] (.int .i64 (aX b 10))/\aA prog 78 [.seq [.int .i64 (aX (!E) 8),.int .i64 (aX D 9),.int .i64 (aX b 10),.int .i64 H,.int .i64 I]] (.int .i64 l):=fun b m=>by
  rw[m]at k8;exact⟨k5 b,by simpa using k8⟩
 simp at i;have y:aA prog 79 [.bool (decide (0<A)),.int .i64 11] (.int .i64 (aX (decide (0<A)) 11)):=B;clear k5 k8 B;generalize M:aX (!E) 8=Q at*;generalize N:aX D 9=R at*;generalize O:aX (decide (0<A)) 11=S at*;generalize P:aX J 17=T at*;simp[f84,-bm,aa];rw[bm];simp[-bm,aa];rw[bm];simp[-bm,aa];refine cf k1 [1] ?_;simp[-bm,aa,bf,sig]
 by_cases e:p.dI<0
 ·obtain⟨f1,f2⟩:=r true (by simp[e]);rw[bm,bm];simp[-bm,aa];refine Go.ag.e1 k2 ?_;simp[-bm,aa];refine Go.ag.e2 k3 ?_;simp[-bm,aa];refine Go.ag.e2 k4 ?_;simp[-bm,aa,e];refine Go.ag.e2 f1 ?_;simp[-bm,aa,e];refine Go.ag.e1 k6 ?_;simp[-bm,aa,e];refine Go.ag.e1 k7 ?_;simp[-bm,aa,e];refine ep f2 (by simp;first|exact⟨rfl,rfl⟩|rfl) (by simp;first|exact⟨rfl,rfl⟩|rfl) ?_;simp[-bm,aa,e];refine⟨by repeat' first|rfl|apply an,?_⟩
  by_cases c:l=0
  case neg=>simp[c,aa]
  simp[c,aa];refine Go.ag.c2 (s c) ?_;simp[aa];refine Go.ag.e1 (u c) ?_;simp[aa];refine Go.ag.e1 (v c) ?_;simp[aa];refine Go.ag.e1 (w c) ?_;simp[aa];refine Go.ag.e1 (x c) ?_;simp[aa];refine Go.ag.e2 (q c) ?_;simp[aa];refine Go.ag.e2 y ?_;simp[aa];refine Go.ag.e2 z ?_;simp[aa];refine ep i (by simp;first|exact⟨rfl,rfl⟩|rfl) (by simp;first|exact⟨rfl,rfl⟩|rfl) ?_;simp[aa];exact⟨by repeat' first|rfl|apply an,fun h=>(h c).elim⟩
 by_cases f:(t.cs.length:Int)<=p.dI
 ·obtain⟨f1,f2⟩:=r true (by simp[e,f]);rw[bm,bm];simp[-bm,aa];refine Go.ag.e1 k2 ?_;simp[-bm,aa];refine Go.ag.e2 k3 ?_;simp[-bm,aa];refine Go.ag.e2 k4 ?_;simp[-bm,aa,e,f];refine Go.ag.e2 f1 ?_;simp[-bm,aa,e,f];refine Go.ag.e1 k6 ?_;simp[-bm,aa,e,f];refine Go.ag.e1 k7 ?_;simp[-bm,aa,e,f];refine ep f2 (by simp;first|exact⟨rfl,rfl⟩|rfl) (by simp;first|exact⟨rfl,rfl⟩|rfl) ?_;simp[-bm,aa,e,f];refine⟨by repeat' first|rfl|apply an,?_⟩
  by_cases c:l=0
  case neg=>simp[c,aa]
  simp[c,aa];refine Go.ag.c2 (s c) ?_;simp[aa];refine Go.ag.e1 (u c) ?_;simp[aa];refine Go.ag.e1 (v c) ?_;simp[aa];refine Go.ag.e1 (w c) ?_;simp[aa];refine Go.ag.e1 (x c) ?_;simp[aa];refine Go.ag.e2 (q c) ?_;simp[aa];refine Go.ag.e2 y ?_;simp[aa];refine Go.ag.e2 z ?_;simp[aa];refine ep i (by simp;first|exact⟨rfl,rfl⟩|rfl) (by simp;first|exact⟨rfl,rfl⟩|rfl) ?_;simp[aa];exact⟨by repeat' first|rfl|apply an,fun h=>(h c).elim⟩
 ·obtain⟨f1,f2⟩:=r false (by simp[e,f]);rw[bm,bm];simp[-bm,aa];refine Go.ag.e1 k2 ?_;simp[-bm,aa];refine Go.ag.e2 k3 ?_;simp[-bm,aa];refine Go.ag.e2 k4 ?_;simp[-bm,aa,e,f];refine Go.ag.e2 f1 ?_;simp[-bm,aa,e,f];refine Go.ag.e1 k6 ?_;simp[-bm,aa,e,f];refine Go.ag.e1 k7 ?_;simp[-bm,aa,e,f];refine ep f2 (by simp;first|exact⟨rfl,rfl⟩|rfl) (by simp;first|exact⟨rfl,rfl⟩|rfl) ?_;simp[-bm,aa,e,f];refine⟨by repeat' first|rfl|apply an,?_⟩
  by_cases c:l=0
  case neg=>simp[c,aa]
  simp[c,aa];refine Go.ag.c2 (s c) ?_;simp[aa];refine Go.ag.e1 (u c) ?_;simp[aa];refine Go.ag.e1 (v c) ?_;simp[aa];refine Go.ag.e1 (w c) ?_;simp[aa];refine Go.ag.e1 (x c) ?_;simp[aa];refine Go.ag.e2 (q c) ?_;simp[aa];refine Go.ag.e2 y ?_;simp[aa];refine Go.ag.e2 z ?_;simp[aa];refine ep i (by simp;first|exact⟨rfl,rfl⟩|rfl) (by simp;first|exact⟨rfl,rfl⟩|rfl) ?_;simp[aa];exact⟨by repeat' first|rfl|apply an,fun h=>(h c).elim⟩
def iZ(a:List cF)(s:cF):Int:=bt [aX (!isName s.name) 8,aX (a.any fun o=>decide (o.name=s.name)) 9,bX s.pt]
theorem Sv(t:ar)(b:List cF)(s:cF):iA t b s=if iZ b s=0 then aX (decide (t.on (vP s.pt)<0)) 16 else iZ b s:=by
 rw[iA,iZ];generalize bX s.pt=c;generalize (b.any fun o=>decide (o.name=s.name))=a;cases e:isName s.name
 ·simp[bt,aX]
 cases a
 case true=>simp[bt,aX]
 by_cases d:c=0
 case neg=>simp[bt,aX,d]
 simp[bt,aX,d]
theorem Gd{bef:List cF}{s:cF}(h:iZ bef s=0):bX s.pt=0:=by
 rw[iZ,jK]at h;exact h _ (by simp)
theorem SA(t:ar)(s:cF)(a:List cF)(k:t.cs.length<=1000000)(l:∀p∈t.cs,dL p)(hs:kT s)(j:a.length<=1000000):
 aA prog 86 [b6 t,fP s,.seq (a.map fP)] (.int .i64 (iA t a s)):=by
 obtain⟨r,f⟩:=hs;have k1:=Sy s a j;have k2:=BU s.name r.1;have k3:=gH (!isName s.name) 8;have k4:=gH (a.any fun o=>decide (o.name=s.name)) 9;have k6:=ru s.pt f;have k8:=lj [aX (!isName s.name) 8,aX (a.any fun o=>decide (o.name=s.name)) 9,bX s.pt] (by simp);have c:=Gd (bef:=a) (s:=s);rw[Sv];have m:=fun h:iZ a s=0=>pL s.pt (gB (c h)).1 (gB (c h)).2 f;have e:=fun h:iZ a s=0=>wx t (.from s.pt) k l (rB ⟨(dW (gB (c h)).1).mono (by decide),(dW (gB (c h)).2).mono (by decide)⟩);have n:=gH (decide (t.on (vP s.pt)<0)) 16;rw[mA]at e;have d1:iZ a s=bt [aX (!isName s.name) 8,aX (a.any fun o=>decide (o.name=s.name)) 9,bX s.pt]:=rfl;rw[<-d1]at k8;clear d1 c;generalize iZ a s=d at*;generalize t.on (vP s.pt)=y at*;generalize bX s.pt=u at*;generalize (a.any fun o=>decide (o.name=s.name))=g at*;generalize isName s.name=i at*;generalize NV.from s.pt=v1 at*;refine aG nf Q0 mix (by simp[f86]) ?_;have q:aA prog 78 [.seq [.int .i64 (aX (!i) 8),.int .i64 (aX g 9),.int .i64 u]] (.int .i64 d):=by simpa using k8
 clear k8;generalize v:aX (!i) 8=z at*;generalize w:aX g 9=A at*;generalize x:aX (decide (y<0)) 16=B at*;simp[f86,aa];refine cf k1 [1] ?_;simp[aa,bf,sig];refine Go.ag.e1 k2 ?_;simp[aa];refine Go.ag.e2 k3 ?_;simp[aa];refine Go.ag.e2 k4 ?_;simp[aa];refine Go.ag.e1 k6 ?_;simp[aa];refine ep q (by simp;first|exact⟨rfl,rfl⟩|rfl) (by simp;first|exact⟨rfl,rfl⟩|rfl) ?_;simp[aa];refine⟨by repeat' first|rfl|apply an,?_⟩
 by_cases b:d=0
 case neg=>simp[b,aa]
 simp[b,aa];refine Go.ag.e1 (m b) ?_;simp[aa];refine Go.ag.e2 (e b) ?_;simp[aa];refine Go.ag.e2 n ?_;simp[aa];exact fun h=>(h b).elim
def jn{α:Type}(b:Nat)(a:List α->α->Int)(l:List α):Int:=if b<l.length then 5 else j0 a l
theorem Ar{α:Type}{n:Nat}{f:α->PV}(h:∀a,aa (.p (f a))≠.bad/\bJ prog (aa (.p (f a)))=n)(l:List α):fe prog n (l.map (AV.p∘f)):=wO.2 fun v b=>by
 obtain⟨a,_,rfl⟩:=List.mem_map.1 b;exact h a
theorem KH(l:List dc):fe prog 4 (l.map (AV.p∘er)):=Ar (fun r=>⟨by simp[aa],by simp[aa]⟩) l
theorem KI(l:List cF):fe prog 3 (l.map (AV.p∘fP)):=Ar (fun r=>⟨by simp[aa],by simp[aa]⟩) l
theorem SJ(t:ar)(a:Nat)(h:t.cs.length<=1000000)(m:t.aP.length<=1000000)(c:∀p∈t.aP,s8 p):
 aA prog 83 [.seq (t.aP.map er),.int .i64 a,.func 84 [b6 t] []] (.int .i64 (jn a (fS t.cs.length) t.aP)):=by
 refine aG nf QX mix (by simp[f83]) ?_;rw[jn]
 by_cases c1:a<t.aP.length
 ·have cI:(a:Int)<t.aP.length:=by omega
  rw[if_pos c1];simp[f83,cI]
 have d:¬(a:Int)<t.aP.length:=by omega
 rw[if_neg c1];simp[f83,d];refine lp (α:=Nat) (fun i=>⟨[(16,.p (.int .i64 i)),(15,.p (.int .i64 t.aP.length)),(14,.p (.seq (t.aP.map er))),(0,.p (.seq (t.aP.map er))),(2,.p (.func 84 [b6 t] []))],[]⟩) (fun i=>i<=t.aP.length/\∀j,j<i->ga (fS t.cs.length) t.aP j=0) (fun i=>t.aP.length-i) 0 (by simp) ?_;rintro i ⟨k1,k2⟩
 by_cases hk:i<t.aP.length
 ·have gk:=ar.iY hk;have l:=ct (i:=i) (by omega);have b:=Sm t (t.pk i) (t.aP.take i) h (c _ (a9 gk)) (by rw[bl];omega) (fun o k=>by
   obtain⟨j,f,rfl⟩:=bv.1 k;rw[bl]at f;rw[b1];have:=k2 j (by omega);have g:=ar.iY (t:=t) (i:=j) (by omega);rw[ga,g]at this;rw[ar.FK (by omega)];exact⟨c _ (a9 g),BT this⟩)
  rw[b2]at b
  by_cases he:fS t.cs.length (t.aP.take i) (t.pk i)=0
  ·rw[he]at b;have:=tC k2 gk he;simp[hk,gk,aa];refine⟨⟨k1,KH _⟩,?_⟩;refine Go.ag.e3 b ?_;simp[l,aa];exact rd (i+1) ⟨hk,this⟩
  ·have e:=tD k2 gk he;rw[e];simp[hk,gk,aa];refine⟨⟨k1,KH _⟩,?_⟩;refine Go.ag.e3 b ?_;simp[he,aa]
 ·have:i=t.aP.length:=by omega
  subst this;rw[nJ.2 k2];simp
theorem SI(t:ar)(a:Nat)(e:t.cs.length<=1000000)(f:∀p∈t.cs,dL p)(k:t.aB.length<=1000000)(g:∀p∈t.aB,kT p):
 aA prog 85 [.seq (t.aB.map fP),.int .i64 a,.func 86 [b6 t] []] (.int .i64 (jn a (iA t) t.aB)):=by
 refine aG nf QZ mix (by simp[f85]) ?_;rw[jn]
 by_cases c1:a<t.aB.length
 ·have cI:(a:Int)<t.aB.length:=by omega
  rw[if_pos c1];simp[f85,cI]
 have c:¬(a:Int)<t.aB.length:=by omega
 rw[if_neg c1];simp[f85,c];refine lp (α:=Nat) (fun i=>⟨[(16,.p (.int .i64 i)),(15,.p (.int .i64 t.aB.length)),(14,.p (.seq (t.aB.map fP))),(0,.p (.seq (t.aB.map fP))),(2,.p (.func 86 [b6 t] []))],[]⟩) (fun i=>i<=t.aB.length/\∀j,j<i->ga (iA t) t.aB j=0) (fun i=>t.aB.length-i) 0 (by simp) ?_;rintro i ⟨k1,k2⟩
 by_cases hk:i<t.aB.length
 ·have gk:=ar.ft hk;have h:=ct (i:=i) (by omega);have b:=SA t (t.sp i) (t.aB.take i) e f (g _ (a9 gk)) (by rw[bl];omega);rw[b2]at b
  by_cases he:iA t (t.aB.take i) (t.sp i)=0
  ·rw[he]at b;have:=tC k2 gk he;simp[hk,gk,aa];refine⟨⟨k1,KI _⟩,?_⟩;refine Go.ag.e3 b ?_;simp[h,aa];exact rd (i+1) ⟨hk,this⟩
  ·have d:=tD k2 gk he;rw[d];simp[hk,gk,aa];refine⟨⟨k1,KI _⟩,?_⟩;refine Go.ag.e3 b ?_;simp[he,aa]
 ·have:i=t.aB.length:=by omega
  subst this;rw[nJ.2 k2];simp
def mL(t:ar):Int:=bt [aX (decide ((t.cs.length:Int)<3)) 2,aX (decide (12<(t.cs.length:Int))) 5,aX (t.cs.any fM) 3]
def pH(t:ar):Int:=bt [aX (!t.fD) 15,aX (decide (t.br<1\/1000<t.br)) 3,jn 12 (fS t.cs.length) t.aP]
theorem F7{t:ar}(h:mL t=0):3<=t.cs.length/\t.cs.length<=12/\∀p∈t.cs,dL p:=by
 rw[mL,jK]at h;have b:=h (aX (decide ((t.cs.length:Int)<3)) 2) (by simp);have d:=h (aX (decide (12<(t.cs.length:Int))) 5) (by simp);have a:=h (aX (t.cs.any fM) 3) (by simp);refine⟨?_,?_,fun p e=>Gb ?_⟩
 ·by_cases c:(t.cs.length:Int)<3
  ·simp[aX,c]at b
  ·omega
 ·by_cases c:12<(t.cs.length:Int)
  ·simp[aX,c]at d
  ·omega
 ·cases hf:fM p
  ·rfl
  ·have:t.cs.any fM=true:=List.any_eq_true.2 ⟨p,e,hf⟩;rw[this]at a;simp[aX]at a
theorem yO(t:ar):cG t=if mL t=0 then(if pH t=0 then jn 256 (iA t) t.aB else pH t)else mL t:=by
 rw[cG,mL,pH,jn,jn]
 by_cases c1:t.cs.length<3
 ·have:(t.cs.length:Int)<3:=by omega
  simp[bt,aX,c1,this]
 have b:¬(t.cs.length:Int)<3:=by omega
 by_cases c2:12<t.cs.length
 ·have:(12:Int)<t.cs.length:=by omega
  simp[bt,aX,c1,c2,b,this]
 have c:¬(12:Int)<t.cs.length:=by omega
 generalize t.cs.any fM=a;cases a
 case true=>simp[bt,aX,c1,c2,b,c]
 cases t.fD
 ·simp[bt,aX,c1,c2,b,c]
 by_cases c3:t.br<1\/1000<t.br
 ·simp[bt,aX,c1,c2,b,c,c3]
 by_cases c4:12<t.aP.length
 ·simp[bt,aX,c1,c2,b,c,c3,c4]
 generalize j0 (fS t.cs.length) t.aP=e
 by_cases c5:e=0
 ·simp[bt,aX,c1,c2,b,c,c3,c4,c5]
 ·simp[bt,aX,c1,c2,b,c,c3,c4,c5]
theorem tz(t:ar)(v:gJ t):aA prog 16 [b6 t] (.int .i64 (cG t)):=by
 obtain⟨k,z,A,s,u⟩:=v;have k1:=gH (decide ((t.cs.length:Int)<3)) 2;have k2:=gH (decide (12<(t.cs.length:Int))) 5;have k3:=Sk t.cs k;have k4:=gH (t.cs.any fM) 3;have k5:=lj [aX (decide ((t.cs.length:Int)<3)) 2,aX (decide (12<(t.cs.length:Int))) 5,aX (t.cs.any fM) 3] (by simp);have l:=F7 (t:=t);rw[yO];have w:=fun h:mL t=0=>SK t (l h).1 k (l h).2.2;have x:=gH (!t.fD) 15;have q:=fun b=>gH b 3;have n:=SJ t 12 k z s;have j:=lj [aX (!t.fD) 15,aX (decide (t.br<1\/1000<t.br)) 3,jn 12 (fS t.cs.length) t.aP] (by simp);have o:=fun h:mL t=0=>SI t 256 k (l h).2.2 A u;have d1:mL t=bt [aX (decide ((t.cs.length:Int)<3)) 2,aX (decide (12<(t.cs.length:Int))) 5,aX (t.cs.any fM) 3]:=rfl;have d2:pH t=bt [aX (!t.fD) 15,aX (decide (t.br<1\/1000<t.br)) 3,jn 12 (fS t.cs.length) t.aP]:=rfl;rw[<-d1]at k5;rw[<-d2]at j;clear d1 d2 l;generalize mL t=p at*;generalize pH t=i at*;generalize jn 12 (fS t.cs.length) t.aP=F at*;generalize jn 256 (iA t) t.aB=M at*;generalize t.cs.any fM=G at*;generalize t.fD=H at*;generalize I:aX (decide ((t.cs.length:Int)<3)) 2=B at*;generalize J:aX (decide (12<(t.cs.length:Int))) 5=C at*;generalize K:aX G 3=D at*;generalize L:aX (!H) 15=E at*;have m:∀b:Bool,decide (t.br<1\/1000<t.br)=b->aA prog 79 [.bool b,.int .i64 3] (.int .i64 (aX b 3))/\aA prog 78 [.seq [.int .i64 E,.int .i64 (aX b 3),.int .i64 F]] (.int .i64 i):=fun b r=>by
  rw[r]at j;exact⟨q b,by simpa using j⟩
 have y:aA prog 78 [.seq [.int .i64 B,.int .i64 C,.int .i64 D]] (.int .i64 p):=by simpa using k5
 clear j q k5;refine aG nf Qf mix (by simp[f16]) ?_;simp[f16,aa];refine Go.ag.e2 k1 ?_;simp[aa];refine Go.ag.e2 k2 ?_;simp[aa];refine Go.ag.e2 k3 ?_;simp[aa];refine Go.ag.e2 k4 ?_;simp[aa];refine ep y (by simp;first|exact⟨rfl,rfl⟩|rfl) (by simp;first|exact⟨rfl,rfl⟩|rfl) ?_;simp[aa];refine⟨by repeat' first|rfl|apply an,?_⟩
 by_cases a:p=0
 case neg=>simp[a,aa]
 simp[a,aa];refine Go.ag.e1 (w a) ?_;simp[aa];refine Go.ag.e2 x ?_;simp[aa]
 by_cases c:t.br<1
 ·have d:¬1<=t.br:=by omega
  obtain⟨f1,f2⟩:=m true (by simp[c]);simp[c,d,aa];refine Go.ag.e2 f1 ?_;simp[c,d,aa];refine Go.ag.e3 n ?_;simp[c,d,aa];refine ep f2 (by simp;first|exact⟨rfl,rfl⟩|rfl) (by simp;first|exact⟨rfl,rfl⟩|rfl) ?_;simp[c,d,aa];refine⟨by repeat' first|rfl|apply an,?_⟩
  by_cases e:i=0
  case neg=>simp[a,e,aa]
  simp[a,e,aa];refine Go.ag.c3 (o a) ?_;simp[a,e,aa]
 have d:1<=t.br:=by omega
 by_cases f:1000<t.br
 ·have g:¬t.br<=1000:=by omega
  obtain⟨f1,f2⟩:=m true (by simp[c,f]);simp[c,d,f,g,aa];refine Go.ag.e2 f1 ?_;simp[c,d,f,g,aa];refine Go.ag.e3 n ?_;simp[c,d,f,g,aa];refine ep f2 (by simp;first|exact⟨rfl,rfl⟩|rfl) (by simp;first|exact⟨rfl,rfl⟩|rfl) ?_;simp[c,d,f,g,aa];refine⟨by repeat' first|rfl|apply an,?_⟩
  by_cases e:i=0
  case neg=>simp[a,e,aa]
  simp[a,e,aa];refine Go.ag.c3 (o a) ?_;simp[a,e,aa]
 ·have g:t.br<=1000:=by omega
  obtain⟨f1,f2⟩:=m false (by simp[c,f]);simp[c,d,f,g,aa];refine Go.ag.e2 f1 ?_;simp[c,d,f,g,aa];refine Go.ag.e3 n ?_;simp[c,d,f,g,aa];refine ep f2 (by simp;first|exact⟨rfl,rfl⟩|rfl) (by simp;first|exact⟨rfl,rfl⟩|rfl) ?_;simp[c,d,f,g,aa];refine⟨by repeat' first|rfl|apply an,?_⟩
  by_cases e:i=0
  case neg=>simp[a,e,aa]
  simp[a,e,aa];refine Go.ag.c3 (o a) ?_;simp[a,e,aa]
def ar.dB(t:ar)(i:Nat):NV:=(b8 (t.at (t.nx i))).sub (b8 (t.at i))
theorem ar.tG(t:ar)(i:Nat):(t.dB i).q=t.eP i:=by rw[ar.dB,NV.kz];rfl
def NS.add(s t:NS):NS:=⟨s.a.add t.a,s.b.add t.b,s.d⟩
def NS.neg(s:NS):NS:=⟨s.a.neg,s.b.neg,s.d⟩
def NS.times(s:NS)(k:NF):NS:=⟨s.a.mul k,s.b.mul k,s.d⟩
def NB.fw(n:NB)(e:NV):NS:=⟨e.fw n.a,e.fw n.b,n.d⟩
def NS.plain(a d:NF):NS:=⟨a,.int 0,d⟩
def NS.norm(s:NS):NF:=(s.a.mul s.a).sub ((s.b.mul s.b).mul s.d)
open Classical in
noncomputable def NS.under(s:NS)(k:NF):NS:=if s.norm.q=0 then .plain (k.div (s.a.add s.a)) s.d else⟨(k.mul s.a).div s.norm,(k.mul s.b).neg.div s.norm,s.d⟩
theorem FB.mono{k l:Nat}{s:NS}(h:FB k s)(a:k<=l):FB l s:=⟨h.1.mono a,h.2.1.mono a,h.2.2.mono a⟩
def ar.pos(t:ar)(n:NB)(i:Nat):Bool:=decide (0<sgS ((n.fw (t.dB i)).neg).q)
def iG(t:ar)(p:dU):Int:=bt [cG t,bX p]
theorem jD{t:ar}(h:cG t=0):3<=t.cs.length/\t.cs.length<=12/\(∀p∈t.cs,dL p)/\t.fD=true:=by
 rw[yO]at h
 by_cases d:mL t=0
 ·rw[if_pos d]at h
  by_cases e:pH t=0
  ·obtain⟨a,b,c⟩:=F7 d;refine⟨a,b,c,?_⟩;rw[pH,jK]at e;have f:=e (aX (!t.fD) 15) (by simp);cases hc:t.fD
   ·rw[hc]at f;simp[aX]at f
   ·rfl
  ·rw[if_neg e]at h;exact(e h).elim
 ·rw[if_neg d]at h;exact(d h).elim
theorem yN{t:ar}{p:dU}(h:iG t p=0):cG t=0/\bX p=0:=by
 rw[iG,jK]at h;exact⟨h _ (by simp),h _ (by simp)⟩
def fo:PV:=.st 41 [.str [],.str []]
theorem mK(s:List Nat)(n:Int):aA prog 59 [.str s,.int .i64 n] (.bool (decide ((s.length:Int)<=n))):=by
 refine aG nf QH mix (by simp[f59]) ?_;simp[f59]
def jB(p:dc):Bool:=decide (p.name.length<=40)&&(decide (p.a.length<=40)&&decide (p.b.length<=40))
def gF(s:cF):Bool:=decide (s.name.length<=40)&&(decide (s.pt.x.length<=40)&&decide (s.pt.y.length<=40))
def jm(t:ar):Bool:=!(decide (14<t.cs.length)||(decide (14<t.aP.length)||((decide (8<t.aB.length)&&decide (t.aB.length<=256))||decide (258<t.aB.length))))&&(t.aP.all jB&&t.aB.all gF)
theorem vL{α:Type}{f:α->Bool}{l:List α}{i:Nat}{x:α}(h:l[i]?=some x):(l.take (i+1)).all f=((l.take i).all f&&f x):=by
 rw[b0,h];simp
theorem jZ{α:Type}{f:α->Bool}{l:List α}{i:Nat}{x:α}(h:l[i]?=some x)(hf:f x=false):l.all f=false:=by
 cases a:l.all f
 ·rfl
 ·rw[List.all_eq_true]at a;rw[a x (a9 h)]at hf;cases hf
theorem vO(t:ar)(B:t.cs.length<=1000000)(C:t.aP.length<=1000000)(D:t.aB.length<=1000000):aA prog 11 [ch t] (.bool (jm t)):=by
 refine aG nf Qc mix (by simp[f11]) ?_;have s:jm t=(!(decide (14<t.cs.length)||(decide (14<t.aP.length)||((decide (8<t.aB.length)&&decide (t.aB.length<=256))||decide (258<t.aB.length))))&&(t.aP.all jB&&t.aB.all gF)):=rfl
 by_cases c1:14<t.cs.length
 ·have q:(14:Int)<t.cs.length:=by omega
  have o:jm t=false:=by rw[s];simp[c1]
  simp[f11,aa,q,o]
 have q:¬(14:Int)<t.cs.length:=by omega
 by_cases c2:14<t.aP.length
 ·have r:(14:Int)<t.aP.length:=by omega
  have o:jm t=false:=by rw[s];simp[c2]
  simp[f11,aa,q,r,o]
 have r:¬(14:Int)<t.aP.length:=by omega
 have tail:(8<t.aB.length->¬t.aB.length<=256)->¬258<t.aB.length->jm t=(t.aP.all jB&&t.aB.all gF):=fun A z=>by
  rw[s]
  by_cases h:8<t.aB.length
  ·have:=A h;simp[c1,c2,h,this,z]
  ·simp[c1,c2,h,z]
 by_cases c3:8<t.aB.length
 ·have u:(8:Int)<t.aB.length:=by omega
  by_cases c4:t.aB.length<=256
  ·have w:(t.aB.length:Int)<=256:=by omega
   have o:jm t=false:=by rw[s];simp[c3,c4]
   simp[f11,aa,q,r,u,w,o]
  ·have w:¬(t.aB.length:Int)<=256:=by omega
   by_cases c5:258<t.aB.length
   ·have v:(258:Int)<t.aB.length:=by omega
    have o:jm t=false:=by rw[s];simp[c5]
    simp[f11,aa,q,r,u,w,v,o]
   ·have v:¬(258:Int)<t.aB.length:=by omega
    rw[tail (fun _=>c4) c5];simp[f11,aa,q,r,u,w,v];refine lp (α:=Nat) (fun i=>⟨[(3,.p (.int .i64 i)),(1,.ptr 0 [])],[.box false (.p (ch t))]⟩) (fun i=>i<=t.aP.length/\(t.aP.take i).all jB=true) (fun i=>t.aP.length-i) 0 (by simp) ?_;rintro i ⟨k1,k2⟩
    by_cases hi:i<t.aP.length
    ·have c:=ar.iY hi;have n:=ct (i:=i) (by omega);have f:=mK (t.pk i).a 40;have j:=mK (t.pk i).b 40;have g:jB (t.pk i)=(decide ((t.pk i).name.length<=40)&&(decide ((t.pk i).a.length<=40)&&decide ((t.pk i).b.length<=40))):=rfl
     by_cases m:(t.pk i).name.length<=40
     ·have d:¬(40:Int)<(t.pk i).name.length:=by omega
      by_cases a2:(t.pk i).a.length<=40
      ·have k:((t.pk i).a.length:Int)<=40:=by omega
       rw[decide_eq_true k]at f
       by_cases a3:(t.pk i).b.length<=40
       ·have l:((t.pk i).b.length:Int)<=40:=by omega
        rw[decide_eq_true l]at j;have e:jB (t.pk i)=true:=by rw[g];simp[m,a2,a3]
        simp[hi,c,d,aa];refine Go.ag.c2 f ?_;simp[hi,c,d,aa];refine Go.ag.c2 j ?_;simp[hi,c,d,n,aa];exact rd (i+1) ⟨hi,by rw[vL c,k2,e];rfl⟩
       ·have l:¬((t.pk i).b.length:Int)<=40:=by omega
        rw[decide_eq_false l]at j;have e:jB (t.pk i)=false:=by rw[g];simp[a3]
        rw[jZ c e];simp[hi,c,d,aa];refine Go.ag.c2 f ?_;simp[hi,c,d,aa];refine Go.ag.c2 j ?_;simp[hi,c,d,n,aa]
      ·have k:¬((t.pk i).a.length:Int)<=40:=by omega
       rw[decide_eq_false k]at f;have e:jB (t.pk i)=false:=by rw[g];simp[a2]
       rw[jZ c e];simp[hi,c,d,aa];refine Go.ag.c2 f ?_;simp[hi,c,d,aa]
     ·have d:(40:Int)<(t.pk i).name.length:=by omega
      have e:jB (t.pk i)=false:=by rw[g];simp[m]
      rw[jZ c e];simp[hi,c,d,aa]
    have:i=t.aP.length:=by omega
    subst this;rw[bk]at k2;rw[k2,ax];simp[aa];refine lp (α:=Nat) (fun i=>⟨[(4,.p (.int .i64 i)),(1,.ptr 0 [])],[.box false (.p (ch t))]⟩) (fun i=>i<=t.aB.length/\(t.aB.take i).all gF=true) (fun i=>t.aB.length-i) 0 (by simp) ?_;rintro i ⟨k1,k2⟩
    by_cases hi:i<t.aB.length
    ·have c:=ar.ft hi;have n:=ct (i:=i) (by omega);have f:=mK (t.sp i).pt.x 40;have j:=mK (t.sp i).pt.y 40;have g:gF (t.sp i)=(decide ((t.sp i).name.length<=40)&&(decide ((t.sp i).pt.x.length<=40)&&decide ((t.sp i).pt.y.length<=40))):=rfl
     by_cases m:(t.sp i).name.length<=40
     ·have d:¬(40:Int)<(t.sp i).name.length:=by omega
      by_cases a2:(t.sp i).pt.x.length<=40
      ·have k:((t.sp i).pt.x.length:Int)<=40:=by omega
       rw[decide_eq_true k]at f
       by_cases a3:(t.sp i).pt.y.length<=40
       ·have l:((t.sp i).pt.y.length:Int)<=40:=by omega
        rw[decide_eq_true l]at j;have e:gF (t.sp i)=true:=by rw[g];simp[m,a2,a3]
        simp[hi,c,d,aa];refine Go.ag.c2 f ?_;simp[hi,c,d,aa];refine Go.ag.c2 j ?_;simp[hi,c,d,n,aa];exact rd (i+1) ⟨hi,by rw[vL c,k2,e];rfl⟩
       ·have l:¬((t.sp i).pt.y.length:Int)<=40:=by omega
        rw[decide_eq_false l]at j;have e:gF (t.sp i)=false:=by rw[g];simp[a3]
        rw[jZ c e];simp[hi,c,d,aa];refine Go.ag.c2 f ?_;simp[hi,c,d,aa];refine Go.ag.c2 j ?_;simp[hi,c,d,n,aa]
      ·have k:¬((t.sp i).pt.x.length:Int)<=40:=by omega
       rw[decide_eq_false k]at f;have e:gF (t.sp i)=false:=by rw[g];simp[a2]
       rw[jZ c e];simp[hi,c,d,aa];refine Go.ag.c2 f ?_;simp[hi,c,d,aa]
     ·have d:(40:Int)<(t.sp i).name.length:=by omega
      have e:gF (t.sp i)=false:=by rw[g];simp[m]
      rw[jZ c e];simp[hi,c,d,aa]
    have:i=t.aB.length:=by omega
    subst this;rw[bk]at k2;rw[k2];simp[aa]
 ·have u:¬(8:Int)<t.aB.length:=by omega
  have v:¬(258:Int)<t.aB.length:=by omega
  rw[tail (fun h=>absurd h c3) (by omega)];simp[f11,aa,q,r,u,v];refine lp (α:=Nat) (fun i=>⟨[(3,.p (.int .i64 i)),(1,.ptr 0 [])],[.box false (.p (ch t))]⟩) (fun i=>i<=t.aP.length/\(t.aP.take i).all jB=true) (fun i=>t.aP.length-i) 0 (by simp) ?_;rintro i ⟨k1,k2⟩
  by_cases hi:i<t.aP.length
  ·have c:=ar.iY hi;have n:=ct (i:=i) (by omega);have f:=mK (t.pk i).a 40;have j:=mK (t.pk i).b 40;have g:jB (t.pk i)=(decide ((t.pk i).name.length<=40)&&(decide ((t.pk i).a.length<=40)&&decide ((t.pk i).b.length<=40))):=rfl
   by_cases m:(t.pk i).name.length<=40
   ·have d:¬(40:Int)<(t.pk i).name.length:=by omega
    by_cases a2:(t.pk i).a.length<=40
    ·have k:((t.pk i).a.length:Int)<=40:=by omega
     rw[decide_eq_true k]at f
     by_cases a3:(t.pk i).b.length<=40
     ·have l:((t.pk i).b.length:Int)<=40:=by omega
      rw[decide_eq_true l]at j;have e:jB (t.pk i)=true:=by rw[g];simp[m,a2,a3]
      simp[hi,c,d,aa];refine Go.ag.c2 f ?_;simp[hi,c,d,aa];refine Go.ag.c2 j ?_;simp[hi,c,d,n,aa];exact rd (i+1) ⟨hi,by rw[vL c,k2,e];rfl⟩
     ·have l:¬((t.pk i).b.length:Int)<=40:=by omega
      rw[decide_eq_false l]at j;have e:jB (t.pk i)=false:=by rw[g];simp[a3]
      rw[jZ c e];simp[hi,c,d,aa];refine Go.ag.c2 f ?_;simp[hi,c,d,aa];refine Go.ag.c2 j ?_;simp[hi,c,d,n,aa]
    ·have k:¬((t.pk i).a.length:Int)<=40:=by omega
     rw[decide_eq_false k]at f;have e:jB (t.pk i)=false:=by rw[g];simp[a2]
     rw[jZ c e];simp[hi,c,d,aa];refine Go.ag.c2 f ?_;simp[hi,c,d,aa]
   ·have d:(40:Int)<(t.pk i).name.length:=by omega
    have e:jB (t.pk i)=false:=by rw[g];simp[m]
    rw[jZ c e];simp[hi,c,d,aa]
  have:i=t.aP.length:=by omega
  subst this;rw[bk]at k2;rw[k2,ax];simp[aa];refine lp (α:=Nat) (fun i=>⟨[(4,.p (.int .i64 i)),(1,.ptr 0 [])],[.box false (.p (ch t))]⟩) (fun i=>i<=t.aB.length/\(t.aB.take i).all gF=true) (fun i=>t.aB.length-i) 0 (by simp) ?_;rintro i ⟨k1,k2⟩
  by_cases hi:i<t.aB.length
  ·have c:=ar.ft hi;have n:=ct (i:=i) (by omega);have f:=mK (t.sp i).pt.x 40;have j:=mK (t.sp i).pt.y 40;have g:gF (t.sp i)=(decide ((t.sp i).name.length<=40)&&(decide ((t.sp i).pt.x.length<=40)&&decide ((t.sp i).pt.y.length<=40))):=rfl
   by_cases m:(t.sp i).name.length<=40
   ·have d:¬(40:Int)<(t.sp i).name.length:=by omega
    by_cases a2:(t.sp i).pt.x.length<=40
    ·have k:((t.sp i).pt.x.length:Int)<=40:=by omega
     rw[decide_eq_true k]at f
     by_cases a3:(t.sp i).pt.y.length<=40
     ·have l:((t.sp i).pt.y.length:Int)<=40:=by omega
      rw[decide_eq_true l]at j;have e:gF (t.sp i)=true:=by rw[g];simp[m,a2,a3]
      simp[hi,c,d,aa];refine Go.ag.c2 f ?_;simp[hi,c,d,aa];refine Go.ag.c2 j ?_;simp[hi,c,d,n,aa];exact rd (i+1) ⟨hi,by rw[vL c,k2,e];rfl⟩
     ·have l:¬((t.sp i).pt.y.length:Int)<=40:=by omega
      rw[decide_eq_false l]at j;have e:gF (t.sp i)=false:=by rw[g];simp[a3]
      rw[jZ c e];simp[hi,c,d,aa];refine Go.ag.c2 f ?_;simp[hi,c,d,aa];refine Go.ag.c2 j ?_;simp[hi,c,d,n,aa]
    ·have k:¬((t.sp i).pt.x.length:Int)<=40:=by omega
     rw[decide_eq_false k]at f;have e:gF (t.sp i)=false:=by rw[g];simp[a2]
     rw[jZ c e];simp[hi,c,d,aa];refine Go.ag.c2 f ?_;simp[hi,c,d,aa]
   ·have d:(40:Int)<(t.sp i).name.length:=by omega
    have e:gF (t.sp i)=false:=by rw[g];simp[m]
    rw[jZ c e];simp[hi,c,d,aa]
  have:i=t.aB.length:=by omega
  subst this;rw[bk]at k2;rw[k2];simp[aa]
end Go.ag
