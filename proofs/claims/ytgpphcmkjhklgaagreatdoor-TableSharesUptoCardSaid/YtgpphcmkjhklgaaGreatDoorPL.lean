import Derived.Test.YtgpphcmkjhklgaaGreatDoorPK
import Derived.Test.YtgpphcmkjhklgaaGreatDoorPH
import Derived.Test.YtgpphcmkjhklgaaGreatDoorThE
/- Parts of a proof. -/
set_option linter.unusedSimpArgs false
set_option linter.unusedVariables false
set_option linter.unusedSectionVars false
open Go.Proofs.Tryz
open And renaming intro->ao
open Bool renaming and_eq_true->ap, cond_eq_ite->av, eq_iff_iff->ax, true_and->ay
open Go renaming FuncId->aT
open Go.Builtin renaming zeroCells->a0
open Go.IntKind renaming i64->a1
open Go.Lib renaming countByte->a4, compareBytes->a5, join->a6
open Int renaming tmod_eq_emod_of_nonneg->a7, natCast_emod->a8
open List renaming replicate->a9, mem_of_getElem?->bb, drop_eq_getElem_cons->be, map_cons->bi, getElem?_eq_some_iff->bk, take_length->bl, length_take->bo, length_eq_zero_iff->bv, mem_iff_getElem->b0, take_add_one->b1, getElem_take->b2, map_take->b3, range->b4
open Nat renaming eq_of_beq_eq_true->b5, beq->cb, le_of_ble_eq_true->cc, le_refl->ce, lt_trichotomy->ck, blt->cv, ble->cx, le_trans->cy, blt_eq->c6
open Option renaming ite_none_right_eq_some->c9
open Option.some renaming injEq->da
open Prod.mk renaming injEq->db
namespace Go.al
open Go.Proofs
set_option maxHeartbeats 4000000
set_option maxRecDepth 100000
def kI(a:List Nat):List (List Nat)->List Nat
 |[]=>[]
 |[s]=>s
 |s::r=>s++a++kI a r
theorem Fw(b:List UInt8):∀(c:List (List UInt8)),kI (cJ b) (c.map cJ)=cJ (a6 c b)
 |[]=>by simp[kI,Lib.join_nil,cJ]
 |[x]=>by simp[kI,Lib.join_one]
 |x::y::r=>by
  have a:=Fw b (y::r);rw[Lib.join_cons]at a⊢;simp only[bi]at a⊢;rw[kI,a]
  ·simp[cJ,Lib.joinTail]
  ·simp
theorem FD{w:World}{aa:Nat->Prop}:∀{l:List (List Nat)}{e:List Nat}{a:List (List Value)},aY prog w aa e (l.map .str) a->
 ∃d:List ByteArray,a.flatten=d.map .string/\l=d.map (fun b=>cJ b.data.toList)
 |[],e,a,h=>by
  have:=tV h;subst this;exact⟨[],by simp,by simp⟩
 |s::l,[],a,h=>by simp[aY]at h
 |s::l,n::e,a,h=>by
  simp only[bi,aY,aU]at h;obtain⟨c,cs,rfl,⟨bs,rfl,f⟩,_,g⟩:=h;obtain⟨d,g1,g2⟩:=FD g;exact⟨bs::d,by simp[g1],by simp[g2,f,cJ]⟩
theorem WG(full:Bool)(l:List (List Nat))(d:List Nat)(F:l.length<=140737488355328)(k:(kI d l).length<=140737488355328):az prog 226 [.bH full (l.map .str),.str d] (.str (kI d l)):=by
 refine jg (il func226 (by kernel_rfl)) fun w aa B t E s=>?_;obtain⟨x,y,rfl,f,g⟩:=lV s;simp only[aA]at f g;obtain⟨sp,rfl,rfl⟩:=g;obtain⟨ak,off,cap,ai,C,p,q,h,D,i,o,A,rfl⟩:=f;obtain⟨xs,g1,g2⟩:=FD p;have b:(l.map PV.str).length=xs.length:=by rw[g2];simp
 cases c:xs with
 |nil=>
  subst c;have v:l=[]:=by simpa using g2
  subst v;refine(strings_Join_none (some ⟨ak,off,o⟩) cap sp w).mono ?_;rintro e w' ⟨rfl,rfl⟩;exact⟨_,rfl,⟨ce _,fun _ _=>rfl,rfl,rfl⟩,fun w aa=>by simpa[kI,cJ]using sy (P:=prog) (w:=w) (aa:=aa) []⟩
 |cons G r=>
  have z:l.map PV.str≠[]:=by rw[g2,c];simp
  obtain rfl:o=none:=A.resolve_right (by rw[b,c]at i;simp at i;omega);have m:=Fw sp.data.toList (xs.map (·.data.toList))
  have e2:(xs.map (·.data.toList)).map cJ=l:=by rw[g2];simp
  rw[e2]at m;have n:kI (sp.data.toList.map (·.toNat)) l=cJ (a6 (xs.map (·.data.toList)) sp.data.toList):=m
  rw[b];refine(strings_Join ak off cap xs sp w (fun j x hx=>?_) (t _ (q z)) (by simp at b;omega) (by omega) ?_).mono ?_
  ·have u:j<xs.length:=(bk.1 hx).1;rw[g1]at h;have:=h j (by simpa using u);rw[this];simp[(bk.1 hx).2]
  ·rw[n]at k;simpa[cJ]using k
  ·rintro e w' ⟨rfl,a⟩;exact⟨_,rfl,⟨a.size,a.block,a.os,a.output⟩,fun w aa=>by rw[n];exact sy _⟩
def qN(c:Nat):List Nat->Nat->Nat
 |[],n=>n
 |x::r,n=>bif cb x c then qN c r (n+1)else qN c r n
theorem FB(c:UInt8):∀(l:List UInt8)(n:Nat),qN c.toNat (cJ l) n=n+a4 l c
 |[],n=>by simp[qN,cJ,a4]
 |x::r,n=>by
  have a:=FB c r;simp only[cJ]at a;simp only[cJ,bi,qN,a4,List.count_cons]
  by_cases hx:x=c
  ·subst hx;simp[a,a4];omega
  ·have d:cb x.toNat c.toNat=false:=by
    cases b:cb x.toNat c.toNat
    ·rfl
    ·exact(hx (UInt8.toNat_inj.1 (b5 b))).elim
   simp[d,a,a4,hx]
theorem WA(s:List Nat)(c:Nat):az prog 328 [.str s,.str [c]] (.int .i64 (qN c s 0:Nat)):=by
 refine jg (il func328 (by kernel_rfl)) fun w aa g _ _ f=>?_;obtain⟨x,y,rfl,a,d⟩:=lV f;obtain⟨b,rfl,rfl⟩:=one_byte d;obtain⟨bs,rfl,rfl⟩:=mb a;refine(strings_Count_one bs b w).mono ?_;rintro e w' ⟨rfl,rfl⟩;refine⟨_,rfl,⟨ce _,fun _ _=>rfl,rfl,rfl⟩,fun w aa=>?_⟩;have e1:=FB b bs.data.toList 0;simp only[aA]at e1⊢;rw[e1];simp
def vB:List Nat->List Nat->Int
 |[],[]=>0
 |[],_::_=>-1
 |_::_,[]=>1
 |a::r,b::t=>bif cv a b then -1 else bif cv b a then 1 else vB r t
theorem FC:∀a b:List UInt8,vB (cJ a) (cJ b)=a5 a b
 |[],[]=>rfl
 |[],_::_=>rfl
 |_::_,[]=>rfl
 |a::r,b::t=>by
  have e:=FC r t;simp only[cJ,bi,vB,a5]at e⊢;have e1:cv a.toNat b.toNat=decide (a<b):=by
   rw[ax,c6,decide_eq_true_eq,UInt8.lt_iff_toNat_lt]
  have e2:cv b.toNat a.toNat=decide (b<a):=by
   rw[ax,c6,decide_eq_true_eq,UInt8.lt_iff_toNat_lt]
  rw[e1,e2,e]
  by_cases c:a<b
  ·simp[c]
  ·by_cases d:b<a
   ·simp[c,d]
   ·simp[c,d]
theorem Wz(a b:List Nat):az prog 224 [.str a,.str b] (.int .i64 (vB a b)):=by
 refine jg (il func224 (by kernel_rfl)) fun w aa g _ _ f=>?_;obtain⟨x,y,rfl,c,d⟩:=lV f;obtain⟨bs,rfl,rfl⟩:=mb c;obtain⟨cs,rfl,rfl⟩:=mb d;refine(strings_Compare bs cs w).mono ?_;rintro e w' ⟨rfl,rfl⟩;exact⟨_,rfl,⟨ce _,fun _ _=>rfl,rfl,rfl⟩,fun w aa=>by rw[FC];simp only[aA]⟩
def rj:PV:=.st 107 [.int .i64 0,.int .i64 0]
theorem XY{H:Heap}(n:Nat)(N:1<=n)(O:n<=1000000):cX prog 272 H [.p .aR,.p (.int .i64 n)] (H++[.arr .grow 0 2 (a9 n (.p rj))]) (.sl H.length 0 2 0 0):=by
 refine⟨il func272 (by kernel_rfl),fun w aa ah β K l g Q=>?_⟩;simp only[bp,au,aA]at g;obtain⟨_,_,rfl,rfl,_,_,rfl,rfl,rfl⟩:=g;obtain⟨i,c,hi,G,q,_⟩:=nN (P:=prog) (T:=108) (z:=rj) (by kernel_rfl);have hs:i.size=2:=by
  have:(prog.info? 108).map (·.size)=some 2:=by kernel_rfl
  rw[hi]at this;simpa using this
 have y:i.bytes=16:=by
  have:(prog.info? 108).map (·.bytes)=some 16:=by kernel_rfl
  rw[hi]at this;simpa using this
 have r:c.cells.size=2:=by
  have:=(mL (q w aa)).1;have e:bB prog (aJ rj)=2:=by kernel_rfl
  rw[e]at this;simpa using this
 have j:=Any8.slices_Grow_grow X6 i c hi G (by omega) none 0 0 n [] w (ce _) (by omega) (by rw[y];omega) (by omega) (by simp) (fun _=>rfl) (fun a h=>by cases h);rw[show Fx.t 25=108 from rfl,Nat.zero_add]at j;refine j.mono ?_;rintro e w' ⟨rfl,rfl⟩;have D:=l.mj 1;have E:bL prog w.drew aa β (H++a9 1 .hole) ah:=bL.uw (w:=w) (w':=w.drew) rfl D;have u:(H++a9 1 Obj.hole)[H.length]?=some .hole:=by simp
 have A:n<=grownCap w n 0 108:=by simp[grownCap,Question.cut]
 have o:=tZ (β:=β) (H:=H++a9 1 .hole) (q w.drew aa) n;rw[show c.cells.toList.length=2 by simpa using r]at o;have I:∀m,(a0 c.cells m).toList=(a9 m c.cells.toList).flatten:=fun m=>wV c.cells m (by omega);obtain⟨q1,s⟩:=xd (T:=108) (k:=.grow) (ai:=2) (cap:=grownCap w n 0 108) E u
  (cells:=([]:List Value).toArray++a0 c.cells (n-0)++a0 c.cells (grownCap w n 0 108-n))
  (rest:=(a0 c.cells (grownCap w n 0 108-n)).toList)
  (by simp) (fun h=>by have:=h.2;rw[<-bv]at this;simp at this;omega) o
  (by rw[cq];intro v F;rw[List.eq_of_mem_replicate F];simp[aB])
  (by simp[I]) (by simp only[Array.size_append,GR,r];simp;omega) (by simpa using A) (fun h=>by cases h) (fun h=>by cases h)
 rw[B0]at q1 s;have aH:=nM β H 1;have J:bO prog ah aa w β H aa w β (H++a9 1 .hole):=⟨fun _ x=>x,fun _ x=>.inl x,Ext.refl _ _ _,aH,l.mj _,lU _ _,fun b⟨L,f⟩=>⟨L,by rw[jB,if_pos (bk.1 f).1];exact f⟩⟩
 refine⟨_,_,aa,rfl,J.trans (bO.drew (w1:=w.drew) rfl ⟨rfl,rfl⟩ q1),?_,?_⟩
 ·simp only[au,bG,bK]at s⊢;refine⟨rfl,fun k M d=>?_⟩;have B:(H++[Obj.arr .grow 0 2 (a9 n (.p rj))])[H.length]?=some (.arr .grow 0 2 (a9 n (.p rj))):=by simp
  unfold et at d;rw[B]at d;cases d;exact⟨by omega,fun C=>by have:=C.2;rw[<-bv]at this;simp at this;omega,fun _=>by simp[Bd.at]⟩
 ·simp only[aB];exact⟨.arr .grow 0 2 (a9 n (.p rj)),by simp,ce _⟩
namespace fJ
def tQ:List PV->Option (List (List Nat))
 |[]=>some []
 | .str s::r=>match tQ r with
  |some l=>some (s::l)
  |none=>none
 |_=>none
theorem FA:∀{l:List PV}{a:List (List Nat)},tQ l=some a->l=a.map .str
 |[],a,h=>by simp[tQ]at h;subst h;rfl
 |v::r,a,h=>by
  cases v<;>simp only[tQ]at h<;>try (cases h;done)
  split at h
  ·rename_i l b;simp only[da]at h;subst h;rw[FA b];rfl
  ·cases h
def C4(f:aT)(vs:List PV):Option PV:=
 bif cb f 226 then match vs with
  |[.bH _ l,.str sep]=>match tQ l with
   |some d=>bif cx d.length 1000&&cx (kI sep d).length 100000 then some (.str (kI sep d))else none
   |none=>none
  |_=>none
 else bif cb f 328 then match vs with
  |[.str s,.str [c]]=>some (.int .i64 (qN c s 0:Nat))
  |_=>none
 else bif cb f 296 then match vs with
  |[.str s,.str [c]]=>some (.int .i64 (mr c s 0))
  |_=>none
 else bif cb f 224 then match vs with
  |[.str a,.str b]=>some (.int .i64 (vB a b))
  |_=>none
 else bif cb f 153 then match vs with
  |[.int .i64 n]=>bif Hk.nC n then some (.str (bD n))else none
  |_=>none
 else none
theorem X9{f:aT}{vs:List PV}{v:PV}(h:C4 f vs=some v):az prog f vs v:=by
 unfold C4 at h;simp only[av]at h
 split at h
 ·rename_i hf;rw[b5 hf]
  split at h
  ·split at h
   ·rename_i a hs;simp only[c9,da,ap]at h;obtain⟨⟨g1,g2⟩,rfl⟩:=h;rw[FA hs];exact WG _ _ _ (cy (cc g1) (by decide)) (cy (cc g2) (by decide))
   ·cases h
  ·cases h
 split at h
 ·rename_i hf;rw[b5 hf]
  split at h
  ·simp only[da]at h;subst h;exact WA _ _
  ·cases h
 split at h
 ·rename_i hf;rw[b5 hf]
  split at h
  ·simp only[da]at h;subst h;exact FT _ _
  ·cases h
 split at h
 ·rename_i hf;rw[b5 hf]
  split at h
  ·simp only[da]at h;subst h;exact Wz _ _
  ·cases h
 split at h
 ·rename_i hf;rw[b5 hf]
  split at h
  ·simp only[c9,da]at h;obtain⟨g1,rfl⟩:=h;have:=Hk.yb.1 g1;exact FR _ (by omega) (by omega)
  ·cases h
 ·cases h
def vH(f:aT)(args:List AV)(H:Heap):Option (AV×Heap):=
 bif cb f 225 then match args with
  |[.ptr b []]=>match H[b]? with
   |some (.box false (.p (.st u [.dw,x])))=>bif cb u 224 then some (.p (.aE []),H.set b (.box false (.st 224 [.ptr b [],.p x])))else none
   |some (.box false (.st u [.p .dw,x]))=>bif cb u 224 then some (.p (.aE []),H.set b (.box false (.st 224 [.ptr b [],x])))else none
   |some (.box false (.st u [.ptr b' [],_]))=>bif cb u 224&&cb b' b then some (.p (.aE []),H)else none
   |_=>none
  |_=>none
 else bif cb f 272 then match args with
  |[.p .aR,.p (.int .i64 (.ofNat n))]=>bif cx 1 n&&cx n 1000000 then some (.sl H.length 0 2 0 0,H++[.arr .grow 0 2 (a9 n (.p rj))])else none
  |_=>none
 else none
theorem X8{f:aT}{args:List AV}{H H':Heap}{v:AV}(h:vH f args H=some (v,H')):cX prog f H args H' v:=by
 unfold vH at h;simp only[av]at h
 split at h
 ·rename_i hf;rw[b5 hf]
  split at h
  case h_2=>cases h
  split at h
  ·rename_i a;simp only[c9,da,db]at h;obtain⟨b,rfl,rfl⟩:=h;rw[b5 b]at a;exact C1 a (.inl rfl)
  ·rename_i a;simp only[c9,da,db]at h;obtain⟨b,rfl,rfl⟩:=h;rw[b5 b]at a;exact C1 a (.inr rfl)
  ·rename_i a;simp only[c9,da,db,ap]at h;obtain⟨⟨b,c⟩,rfl,rfl⟩:=h;rw[b5 b,b5 c]at a;exact Nr a
  ·cases h
 split at h
 ·rename_i hf;rw[b5 hf]
  split at h
  ·simp only[c9,da,db,ap]at h;obtain⟨⟨b,c⟩,rfl,rfl⟩:=h;exact XY _ (cc b) (cc c)
  ·cases h
 ·cases h
def ju(_ f:aT):Nat:=
 bif cb f 152 then 2
 else bif cb f 234 then 3
 else bif cb f 235 then 3
 else bif cb f 236 then 3
 else bif cb f 237 then 3
 else bif cb f 272 then 1 else 0
def facts(l:List (aT×List PV×PV))(f:aT)(vs:List PV):Option PV:=match C4 f vs with
 |some v=>some v
 |none=>Hk.sJ l f vs
noncomputable def tR(fs:aT->List PV->Option PV):lL:=⟨sS Dz,fs,vH,ju,fun _ _ _=>none⟩
theorem Ql{l:List (aT×List PV×PV)}(a:Hk.kG l):l9 prog (tR (facts l)):=by
 refine⟨mix,fun f fn hf=>Ca Fp hf,fun f vs v hk=>?_,fun f args H v H' hk=>X8 hk,fun f args H aj v hk=>by simp only[tR]at hk;cases hk⟩;simp only[tR,facts]at hk
 split at hk
 ·rename_i h;simp only[da]at hk;subst hk;exact X9 h
 ·exact Hk.xB a f vs v hk
noncomputable def runT(l:List (aT×List PV×PV))(f:aT)(vs:List PV):Option PV:=nB prog nf (tR (facts l)) (jk prog nf (tR (facts l)) 20) f vs
theorem fL(l:List (aT×List PV×PV))(a:Hk.kG l){f:aT}{vs:List PV}{v:PV}(h:Hk.Db v (runT l f vs)=true):az prog f vs v:=reckon 20 (Ql a) (Hk.Fq h)
end fJ
namespace zp
def T:PV:=.st 35 [.bH true [.st 107 [.int .i64 0,.int .i64 0],.st 107 [.int .i64 2000,.int .i64 0],.st 107 [.int .i64 2000,.int .i64 1000],.st 107 [.int .i64 0,.int .i64 1000]],.int .i64 30,.bH true [.st 52 [.str [97],.int .i64 0,.str [48],.str [49,47,50,48]],.st 52 [.str [98],.int .i64 2,.str [49,57,47,50,48],.str [49]]],.bH true [.st 74 [.str [102,111,111,116],.st 41 [.str [49,53,48,48],.str [53,48,48]]],.st 74 [.str [104,101,97,100],.st 41 [.str [53,48,48],.str [53,48,48]]]]]
def B:PV:=.bH true [.st 74 [.str [99,117,101],.st 41 [.str [53,48,48],.str [53,48,48]]],.st 74 [.str [111,110,101],.st 41 [.str [49,53,48,48],.str [53,48,48]]],.st 74 [.str [116,119,111],.st 41 [.str [49,53,54,48],.str [53,48,48]]]]
def B1:PV:=.bH false [.st 74 [.str [99,117,101],.st 41 [.str [53,48,48],.str [53,48,48]]]]
def M:PV:=.st 35 [.bH false [.st 107 [.int .i64 0,.int .i64 0],.st 107 [.int .i64 0,.int .i64 1000],.st 107 [.int .i64 (-2000),.int .i64 1000],.st 107 [.int .i64 (-2000),.int .i64 0]],.int .i64 30,.bH false [.st 52 [.str [97],.int .i64 3,.str [49,57,47,50,48],.str [49]],.st 52 [.str [98],.int .i64 1,.str [48],.str [49,47,50,48]]],.bH false [.st 74 [.str [102,111,111,116],.st 41 [.str [45,49,53,48,48],.str [53,48,48]]],.st 74 [.str [104,101,97,100],.st 41 [.str [45,53,48,48],.str [53,48,48]]]]]
def k0:List (aT×List PV×PV):=[(260,[.str [51,48]],.aE [.int .i64 30,.fG])]
theorem tO:Hk.kG k0:=⟨FU [51,48] 30 (by decide+kernel) (by decide),trivial⟩
theorem c0:az prog 16 [T] (.int .i64 0):=fJ.fL k0 tO (by kernel_rfl)
theorem c1:az prog 51 [T,B] (.int .i64 0):=fJ.fL k0 tO (by kernel_rfl)
theorem c2:az prog 51 [T,B1] (.int .i64 0):=fJ.fL k0 tO (by kernel_rfl)
theorem c3:az prog 16 [M] (.int .i64 0):=fJ.fL k0 tO (by kernel_rfl)
def k1:List (aT×List PV×PV):=[(16,[T],.int .i64 0),(51,[T,B],.int .i64 0),(51,[T,B1],.int .i64 0),(16,[M],.int .i64 0)]++k0
theorem ia:Hk.kG k1:=Hk.Ak (l:=[(16,[T],.int .i64 0),(51,[T,B],.int .i64 0),(51,[T,B1],.int .i64 0),(16,[M],.int .i64 0)]) ⟨c0,c1,c2,c3,trivial⟩ tO
theorem d0:az prog 13 [T] (.aE [.str [50,48,48,48,48,48,48],.int .i64 0]):=fJ.fL k1 ia (by kernel_rfl)
theorem d1:az prog 18 [T,.int .i64 0,.str [49,47,52]] (.aE [.st 41 [.str [53,48,48],.str [48]],.int .i64 0]):=fJ.fL k1 ia (by kernel_rfl)
theorem d2:az prog 28 [T,.st 41 [.str [50,48,48,48],.str [48]]] (.aE [.int .i64 0,.str [49],.int .i64 0]):=fJ.fL k1 ia (by kernel_rfl)
theorem d3:az prog 19 [T,.int .i64 0,.str [49,47,50,48]] (.aE [.str [97],.int .i64 0]):=fJ.fL k1 ia (by kernel_rfl)
theorem d4:az prog 19 [T,.int .i64 0,.str [49,47,49,48]] (.aE [.str [],.int .i64 7]):=fJ.fL k1 ia (by kernel_rfl)
theorem d5:az prog 50 [T,B,.st 41 [.str [49,52,52,48],.str [53,48,48]]] (.aE [.bool true,.int .i64 0]):=fJ.fL k1 ia (by kernel_rfl)
theorem d6:az prog 50 [T,B,.st 41 [.str [49,52,53,48],.str [53,48,48]]] (.aE [.bool false,.int .i64 0]):=fJ.fL k1 ia (by kernel_rfl)
theorem d7:az prog 34 [T,B,.str [102,111,111,116],.st 41 [.str [49,48],.str [48]]] (.aE [.st 41 [.str [49,54,50,48],.str [53,48,48]],.int .i64 0]):=fJ.fL k1 ia (by kernel_rfl)
theorem d8:az prog 44 [T,B] (.aE [.st 78 [.int .i64 1,.int .i64 2],.str [51,54,48,48],.int .i64 0]):=fJ.fL k1 ia (by kernel_rfl)
theorem d9:az prog 45 [T,B] (.aE [.bH false [.st 78 [.int .i64 1,.int .i64 2]],.int .i64 0]):=fJ.fL k1 ia (by kernel_rfl)
theorem d10:az prog 39 [T,.str [102,111,111,116],.str [116,114,105,97,110,103,108,101],.st 78 [.int .i64 2,.int .i64 0]] (.aE [.bH false [.st 41 [.str [49,53,48,48],.str [53,48,48]],.st 41 [.str [51,49,48,53,47,50],.str [52,55,48]],.st 41 [.str [51,49,48,53,47,50],.str [53,51,48]]],.int .i64 0]):=fJ.fL k1 ia (by kernel_rfl)
theorem d11:az prog 62 [T,.st 118 [.bool true,.int .i64 0,.st 107 [.int .i64 0,.int .i64 0]]] (.aE [.st 35 [.bH false [.st 107 [.int .i64 0,.int .i64 0],.st 107 [.int .i64 0,.int .i64 1000],.st 107 [.int .i64 (-2000),.int .i64 1000],.st 107 [.int .i64 (-2000),.int .i64 0]],.int .i64 30,.bH false [.st 52 [.str [97],.int .i64 3,.str [49,57,47,50,48],.str [49]],.st 52 [.str [98],.int .i64 1,.str [48],.str [49,47,50,48]]],.bH false [.st 74 [.str [102,111,111,116],.st 41 [.str [45,49,53,48,48],.str [53,48,48]]],.st 74 [.str [104,101,97,100],.st 41 [.str [45,53,48,48],.str [53,48,48]]]]],.int .i64 0]):=fJ.fL k1 ia (by kernel_rfl)
theorem d12:az prog 63 [M] (.aE [.st 35 [.bH false [.st 107 [.int .i64 (-2000),.int .i64 0],.st 107 [.int .i64 0,.int .i64 0],.st 107 [.int .i64 0,.int .i64 1000],.st 107 [.int .i64 (-2000),.int .i64 1000]],.int .i64 30,.bH false [.st 52 [.str [97],.int .i64 0,.str [49,57,47,50,48],.str [49]],.st 52 [.str [98],.int .i64 2,.str [48],.str [49,47,50,48]]],.bH false [.st 74 [.str [102,111,111,116],.st 41 [.str [45,49,53,48,48],.str [53,48,48]]],.st 74 [.str [104,101,97,100],.st 41 [.str [45,53,48,48],.str [53,48,48]]]]],.int .i64 0]):=fJ.fL k1 ia (by kernel_rfl)
theorem d13:az prog 64 [T,B,.st 118 [.bool false,.int .i64 1,.st 107 [.int .i64 0,.int .i64 0]]] (.aE [.bH false [.st 74 [.str [99,117,101],.st 41 [.str [45,53,48,48],.str [53,48,48]]],.st 74 [.str [111,110,101],.st 41 [.str [45,53,48,48],.str [49,53,48,48]]],.st 74 [.str [116,119,111],.st 41 [.str [45,53,48,48],.str [49,53,54,48]]]],.int .i64 0]):=fJ.fL k1 ia (by kernel_rfl)
theorem d14:az prog 65 [T] (.aE [.str [114,97,100,105,117,115,32,51,48,10,99,111,114,110,101,114,32,48,32,48,10,99,111,114,110,101,114,32,50,48,48,48,32,48,10,99,111,114,110,101,114,32,50,48,48,48,32,49,48,48,48,10,99,111,114,110,101,114,32,48,32,49,48,48,48,10,112,111,99,107,101,116,32,97,32,48,32,48,32,49,47,50,48,10,112,111,99,107,101,116,32,98,32,50,32,49,57,47,50,48,32,49,10,115,112,111,116,32,102,111,111,116,32,49,53,48,48,32,53,48,48,10,115,112,111,116,32,104,101,97,100,32,53,48,48,32,53,48,48,10],.int .i64 0]):=fJ.fL k1 ia (by kernel_rfl)
theorem d15:az prog 66 [.str [114,97,100,105,117,115,32,51,48,10,115,112,111,116,32,97,32,48,10]] (.aE [.st 35 [.aR,.int .i64 0,.aR,.aR],.int .i64 2,.int .i64 25]):=fJ.fL k1 ia (by kernel_rfl)
theorem d16:az prog 67 [T,B1] (.aE [.str [98,97,108,108,32,99,117,101,32,53,48,48,32,53,48,48,10],.int .i64 0]):=fJ.fL k1 ia (by kernel_rfl)
def k2:List (aT×List PV×PV):=[(13,[T],.aE [.str [50,48,48,48,48,48,48],.int .i64 0]),(18,[T,.int .i64 0,.str [49,47,52]],.aE [.st 41 [.str [53,48,48],.str [48]],.int .i64 0]),(28,[T,.st 41 [.str [50,48,48,48],.str [48]]],.aE [.int .i64 0,.str [49],.int .i64 0]),(19,[T,.int .i64 0,.str [49,47,50,48]],.aE [.str [97],.int .i64 0]),(19,[T,.int .i64 0,.str [49,47,49,48]],.aE [.str [],.int .i64 7]),(50,[T,B,.st 41 [.str [49,52,52,48],.str [53,48,48]]],.aE [.bool true,.int .i64 0]),(50,[T,B,.st 41 [.str [49,52,53,48],.str [53,48,48]]],.aE [.bool false,.int .i64 0]),(34,[T,B,.str [102,111,111,116],.st 41 [.str [49,48],.str [48]]],.aE [.st 41 [.str [49,54,50,48],.str [53,48,48]],.int .i64 0]),(44,[T,B],.aE [.st 78 [.int .i64 1,.int .i64 2],.str [51,54,48,48],.int .i64 0]),(45,[T,B],.aE [.bH false [.st 78 [.int .i64 1,.int .i64 2]],.int .i64 0]),(39,[T,.str [102,111,111,116],.str [116,114,105,97,110,103,108,101],.st 78 [.int .i64 2,.int .i64 0]],.aE [.bH false [.st 41 [.str [49,53,48,48],.str [53,48,48]],.st 41 [.str [51,49,48,53,47,50],.str [52,55,48]],.st 41 [.str [51,49,48,53,47,50],.str [53,51,48]]],.int .i64 0]),(62,[T,.st 118 [.bool true,.int .i64 0,.st 107 [.int .i64 0,.int .i64 0]]],.aE [.st 35 [.bH false [.st 107 [.int .i64 0,.int .i64 0],.st 107 [.int .i64 0,.int .i64 1000],.st 107 [.int .i64 (-2000),.int .i64 1000],.st 107 [.int .i64 (-2000),.int .i64 0]],.int .i64 30,.bH false [.st 52 [.str [97],.int .i64 3,.str [49,57,47,50,48],.str [49]],.st 52 [.str [98],.int .i64 1,.str [48],.str [49,47,50,48]]],.bH false [.st 74 [.str [102,111,111,116],.st 41 [.str [45,49,53,48,48],.str [53,48,48]]],.st 74 [.str [104,101,97,100],.st 41 [.str [45,53,48,48],.str [53,48,48]]]]],.int .i64 0]),(63,[M],.aE [.st 35 [.bH false [.st 107 [.int .i64 (-2000),.int .i64 0],.st 107 [.int .i64 0,.int .i64 0],.st 107 [.int .i64 0,.int .i64 1000],.st 107 [.int .i64 (-2000),.int .i64 1000]],.int .i64 30,.bH false [.st 52 [.str [97],.int .i64 0,.str [49,57,47,50,48],.str [49]],.st 52 [.str [98],.int .i64 2,.str [48],.str [49,47,50,48]]],.bH false [.st 74 [.str [102,111,111,116],.st 41 [.str [45,49,53,48,48],.str [53,48,48]]],.st 74 [.str [104,101,97,100],.st 41 [.str [45,53,48,48],.str [53,48,48]]]]],.int .i64 0]),(64,[T,B,.st 118 [.bool false,.int .i64 1,.st 107 [.int .i64 0,.int .i64 0]]],.aE [.bH false [.st 74 [.str [99,117,101],.st 41 [.str [45,53,48,48],.str [53,48,48]]],.st 74 [.str [111,110,101],.st 41 [.str [45,53,48,48],.str [49,53,48,48]]],.st 74 [.str [116,119,111],.st 41 [.str [45,53,48,48],.str [49,53,54,48]]]],.int .i64 0]),(65,[T],.aE [.str [114,97,100,105,117,115,32,51,48,10,99,111,114,110,101,114,32,48,32,48,10,99,111,114,110,101,114,32,50,48,48,48,32,48,10,99,111,114,110,101,114,32,50,48,48,48,32,49,48,48,48,10,99,111,114,110,101,114,32,48,32,49,48,48,48,10,112,111,99,107,101,116,32,97,32,48,32,48,32,49,47,50,48,10,112,111,99,107,101,116,32,98,32,50,32,49,57,47,50,48,32,49,10,115,112,111,116,32,102,111,111,116,32,49,53,48,48,32,53,48,48,10,115,112,111,116,32,104,101,97,100,32,53,48,48,32,53,48,48,10],.int .i64 0]),(66,[.str [114,97,100,105,117,115,32,51,48,10,115,112,111,116,32,97,32,48,10]],.aE [.st 35 [.aR,.int .i64 0,.aR,.aR],.int .i64 2,.int .i64 25]),(67,[T,B1],.aE [.str [98,97,108,108,32,99,117,101,32,53,48,48,32,53,48,48,10],.int .i64 0])]++k1
theorem azo:Hk.kG k2:=Hk.Ak (l:=[(13,[T],.aE [.str [50,48,48,48,48,48,48],.int .i64 0]),(18,[T,.int .i64 0,.str [49,47,52]],.aE [.st 41 [.str [53,48,48],.str [48]],.int .i64 0]),(28,[T,.st 41 [.str [50,48,48,48],.str [48]]],.aE [.int .i64 0,.str [49],.int .i64 0]),(19,[T,.int .i64 0,.str [49,47,50,48]],.aE [.str [97],.int .i64 0]),(19,[T,.int .i64 0,.str [49,47,49,48]],.aE [.str [],.int .i64 7]),(50,[T,B,.st 41 [.str [49,52,52,48],.str [53,48,48]]],.aE [.bool true,.int .i64 0]),(50,[T,B,.st 41 [.str [49,52,53,48],.str [53,48,48]]],.aE [.bool false,.int .i64 0]),(34,[T,B,.str [102,111,111,116],.st 41 [.str [49,48],.str [48]]],.aE [.st 41 [.str [49,54,50,48],.str [53,48,48]],.int .i64 0]),(44,[T,B],.aE [.st 78 [.int .i64 1,.int .i64 2],.str [51,54,48,48],.int .i64 0]),(45,[T,B],.aE [.bH false [.st 78 [.int .i64 1,.int .i64 2]],.int .i64 0]),(39,[T,.str [102,111,111,116],.str [116,114,105,97,110,103,108,101],.st 78 [.int .i64 2,.int .i64 0]],.aE [.bH false [.st 41 [.str [49,53,48,48],.str [53,48,48]],.st 41 [.str [51,49,48,53,47,50],.str [52,55,48]],.st 41 [.str [51,49,48,53,47,50],.str [53,51,48]]],.int .i64 0]),(62,[T,.st 118 [.bool true,.int .i64 0,.st 107 [.int .i64 0,.int .i64 0]]],.aE [.st 35 [.bH false [.st 107 [.int .i64 0,.int .i64 0],.st 107 [.int .i64 0,.int .i64 1000],.st 107 [.int .i64 (-2000),.int .i64 1000],.st 107 [.int .i64 (-2000),.int .i64 0]],.int .i64 30,.bH false [.st 52 [.str [97],.int .i64 3,.str [49,57,47,50,48],.str [49]],.st 52 [.str [98],.int .i64 1,.str [48],.str [49,47,50,48]]],.bH false [.st 74 [.str [102,111,111,116],.st 41 [.str [45,49,53,48,48],.str [53,48,48]]],.st 74 [.str [104,101,97,100],.st 41 [.str [45,53,48,48],.str [53,48,48]]]]],.int .i64 0]),(63,[M],.aE [.st 35 [.bH false [.st 107 [.int .i64 (-2000),.int .i64 0],.st 107 [.int .i64 0,.int .i64 0],.st 107 [.int .i64 0,.int .i64 1000],.st 107 [.int .i64 (-2000),.int .i64 1000]],.int .i64 30,.bH false [.st 52 [.str [97],.int .i64 0,.str [49,57,47,50,48],.str [49]],.st 52 [.str [98],.int .i64 2,.str [48],.str [49,47,50,48]]],.bH false [.st 74 [.str [102,111,111,116],.st 41 [.str [45,49,53,48,48],.str [53,48,48]]],.st 74 [.str [104,101,97,100],.st 41 [.str [45,53,48,48],.str [53,48,48]]]]],.int .i64 0]),(64,[T,B,.st 118 [.bool false,.int .i64 1,.st 107 [.int .i64 0,.int .i64 0]]],.aE [.bH false [.st 74 [.str [99,117,101],.st 41 [.str [45,53,48,48],.str [53,48,48]]],.st 74 [.str [111,110,101],.st 41 [.str [45,53,48,48],.str [49,53,48,48]]],.st 74 [.str [116,119,111],.st 41 [.str [45,53,48,48],.str [49,53,54,48]]]],.int .i64 0]),(65,[T],.aE [.str [114,97,100,105,117,115,32,51,48,10,99,111,114,110,101,114,32,48,32,48,10,99,111,114,110,101,114,32,50,48,48,48,32,48,10,99,111,114,110,101,114,32,50,48,48,48,32,49,48,48,48,10,99,111,114,110,101,114,32,48,32,49,48,48,48,10,112,111,99,107,101,116,32,97,32,48,32,48,32,49,47,50,48,10,112,111,99,107,101,116,32,98,32,50,32,49,57,47,50,48,32,49,10,115,112,111,116,32,102,111,111,116,32,49,53,48,48,32,53,48,48,10,115,112,111,116,32,104,101,97,100,32,53,48,48,32,53,48,48,10],.int .i64 0]),(66,[.str [114,97,100,105,117,115,32,51,48,10,115,112,111,116,32,97,32,48,10]],.aE [.st 35 [.aR,.int .i64 0,.aR,.aR],.int .i64 2,.int .i64 25]),(67,[T,B1],.aE [.str [98,97,108,108,32,99,117,101,32,53,48,48,32,53,48,48,10],.int .i64 0])]) ⟨d0,d1,d2,d3,d4,d5,d6,d7,d8,d9,d10,d11,d12,d13,d14,d15,d16,trivial⟩ ia
end zp
theorem Qm:az prog 12 [] (.bool true):=fJ.fL zp.k2 zp.azo (by kernel_rfl)
def eX(p:dG):PV:=.st 52 [.str p.name,.int .i64 p.eC,.str p.a,.str p.b]
def fZ(p:dN):PV:=.st 74 [.str p.name,ff p.pt]
def dH(t:aw):PV:=.st 35 [.seq (t.cs.map cB),.int .i64 t.b7,.seq (t.ba.map eX),.seq (t.aC.map fZ)]
@[simp] theorem aHv(p:dG):aJ (eX p)=.agg 52:=rfl
@[simp] theorem aFV(p:dG):cj (eX p)=[.str p.name,.int .i64 p.eC,.str p.a,.str p.b]:=rfl
@[simp] theorem aIg(p:dN):aJ (fZ p)=.agg 74:=rfl
@[simp] theorem aF0(p:dN):cj (fZ p)=[.str p.name,ff p.pt]:=rfl
@[simp] theorem aIj(t:aw):aJ (dH t)=.agg 35:=rfl
@[simp] theorem aF3(t:aw):cj (dH t)=[.seq (t.cs.map cB),.int .i64 t.b7,.seq (t.ba.map eX),.seq (t.aC.map fZ)]:=rfl
theorem WR(p:dK):az prog 81 [cB p] (.bool (fw p)):=by
 obtain⟨x,y⟩:=p;refine aM nf Oj mix (by simp[f81]) ?_;have e1:max x y=if x<y then y else x:=by split<;>omega
 have e2:min x y=if y<x then y else x:=by split<;>omega
 rw[fw,e1,e2]
 by_cases h:(if x<y then y else x)<=10000
 ·have a:¬10000<(if x<y then y else x):=by omega
  by_cases b:(if y<x then y else x)< -10000
  ·simp[f81,ad,h,a,b]
  ·simp[f81,ad,h,a,b]
 ·have a:10000<(if x<y then y else x):=by omega
  simp[f81,ad,h,a]
def idxFrom{α:Type}(p:α->Bool):List α->Nat->Int
 |[],_=>-1
 |x::r,i=>if p x then(i:Int)else idxFrom p r (i+1)
theorem tD{α:Type}(p:α->Bool):∀(l:List α)(i:Nat),decide (0<=idxFrom p l i)=l.any p
 |[],i=>by simp[idxFrom]
 |x::r,i=>by
  by_cases h:p x
  ·simp[idxFrom,h]
  ·simp[idxFrom,h,tD p r]
theorem PN(l:List dK)(h:l.length<=1000000):
 az prog 171 [.seq (l.map cB),.func 81 [] []] (.int .i64 (idxFrom fw l 0)):=by
 refine aM nf MB mix (by simp[f171]) ?_;simp[f171];refine lp (α:=Nat) (fun i=>⟨[(8,.p (.int .i64 i)),(7,.p (.int .i64 l.length)),(1,.p (.func 81 [] [])),(0,.p (.seq (l.map cB)))],[]⟩) (fun i=>i<=l.length/\idxFrom fw l 0=idxFrom fw (l.drop i) i) (fun i=>l.length-i) 0 (by simp) ?_;rintro i ⟨k1,k2⟩
 by_cases hi:i<l.length
 ·rw[be hi]at k2;have b:=cH (i:=i) (by omega);simp[hi];refine c1 (WR l[i]) ?_
  by_cases a:fw l[i]
  ·simp[idxFrom,a]at k2;simp[a,k2]
  ·simp[idxFrom,a]at k2;simp[a,b];exact rd (i+1) ⟨hi,k2⟩
 ·have:i=l.length:=by omega
  subst this;simp[idxFrom]at k2;simp[k2]
theorem PD(l:List dK)(h:l.length<=1000000):
 az prog 80 [.seq (l.map cB),.func 81 [] []] (.bool (l.any fw)):=by
 refine aM nf Oi mix (by simp[f80]) ?_;simp[f80];refine c2 (PN l h) ?_;simp[<-tD fw l 0]
def lP(l:List dK):List (PV×PV):=l.map (fun p=>(cB p,PV.bool true))
theorem Ew{p q:dK}(h:¬p=q):¬(p.x=q.x/\p.y=q.y):=fun⟨a,b⟩=>h (by cases p;cases q;simp_all)
theorem XS(a b c d:Int):ie prog 9 108 (.st 107 [.int .i64 a,.int .i64 b]) (.st 107 [.int .i64 c,.int .i64 d])=some ((a==c)&&((b==d)&&true)):=by kernel_rfl
@[simp] theorem zG(p q:dK):ie prog 9 108 (cB p) (cB q)=some (decide (p=q)):=by
 rw[cB,cB,XS]
 by_cases h:p=q
 ·subst h;simp
 ·rw[decide_eq_false h];have:=Ew h
  by_cases a:p.x=q.x
  ·have b:¬p.y=q.y:=fun b=>this ⟨a,b⟩;simp[a,b]
  ·simp[a]
theorem Ev(p q:dK):jQ (cB p) (cB q)=some (decide (p=q)):=by
 by_cases h:p=q
 ·subst h;simp[cB,jQ,vG]
 ·rw[decide_eq_false h];have:=Ew h
  by_cases a:p.x=q.x
  ·have b:¬p.y=q.y:=fun b=>this ⟨a,b⟩;simp[cB,jQ,vG,a,beq_false_of_ne b]
  ·simp[cB,jQ,vG,beq_false_of_ne a]
theorem XR(p q:dK):oR prog 108 (cB p) (cB q)=some (decide (p=q)):=by
 have e1:=zG p q;have e2:=Ev p q;rw[cB]at e1 e2⊢;rw[oR,e1,e2];simp
@[simp] theorem D7(q:dK):∀l:List dK,fF prog 108 (lP l) (cB q)=some (if q∈l then some (.bool true)else none)
 |[]=>rfl
 |p::r=>by
  rw[lP,bi,fF,XR]
  by_cases h:q=p
  ·simp[h]
  ·have:=D7 q r;rw[lP]at this;simp[h,this]
theorem PM{q:dK}{l:List dK}(h:¬q∈l):lg prog 108 (lP l) (cB q)=some none:=by
 have:=D7 q l;rw[if_neg h]at this;rw[cB]at this⊢;rw[lg,this]
theorem D8{q:dK}:∀{l:List dK},¬q∈l->fV (lP l) (cB q) (.bool true)=lP (l++[q])
 |[],_=>rfl
 |p::r,h=>by
  have a:¬q=p:=fun e=>h (e▸List.mem_cons_self);have b:¬q∈r:=fun e=>h (List.mem_cons_of_mem _ e);have:=D8 b;rw[lP]at this⊢;rw[bi,fV,Ev,this];simp[a,lP]
theorem azR:sZ prog 108=true:=by kernel_rfl
@[simp high] theorem aFe(c:Bool)(H:Heap)(p q:dK):iJ prog .neq 108 c H (.p (cB p)) (.p (cB q))=some (True,{v:=.p (.bool !(decide (p=q)))}):=by
 have e:=zG p q;rw[cB,cB]at*;simp[iJ,e,azR]
@[simp high] theorem aFQ(q:dK):fe prog 108 (cB q)=true:=by
 have e1:=zG q q;rw[cB]at e1⊢;rw[fe];simp[e1]
theorem P3(a c:dK):hJ a a c=0:=by simp[hJ]
theorem zD(a b:dK):hJ a b a=0:=by simp[hJ]
theorem PZ{t:aw}(e:3<=t.cs.length){j k:Nat}(c:j<t.cs.length)(hk:k<t.cs.length)(d:j≠k)(b:t.at j=t.at k):t.dS=false:=by
 rw[aw.dS,decide_eq_false_iff_not];intro h
 by_cases hx:k=t.nx j
 ·obtain⟨m,m1,m2,m3⟩:∃m,m<t.cs.length/\m≠j/\m≠k:=by
   rcases ck j k with a|a|a
   ·by_cases e0:j=0
    ·by_cases e1:k=1
     ·exact⟨2,by omega,by omega,by omega⟩
     ·exact⟨1,by omega,by omega,by omega⟩
    ·exact⟨0,by omega,by omega,by omega⟩
   ·exact(d a).elim
   ·by_cases e0:k=0
    ·by_cases e1:j=1
     ·exact⟨2,by omega,by omega,by omega⟩
     ·exact⟨1,by omega,by omega,by omega⟩
    ·exact⟨0,by omega,by omega,by omega⟩
  have:=h j c m m1 m2 (hx▸m3);rw[<-hx,<-b,P3]at this;omega
 ·have:=h j c k hk (Ne.symm d) hx;rw[<-b,zD]at this;omega
theorem P7(t:aw)(aj:3<=t.cs.length)(ak:t.cs.length<=1000000)(F:∀p∈t.cs,eH p):az prog 82 [dH t] (.bool t.dS):=by
 refine aM nf Ok mix (by simp[f82]) ?_;generalize q:t.cs.length=n at*;simp[f82,ad,q];refine lp (α:=Nat) (fun i=>⟨[(16,.p (.int .i64 i)),(15,.p (.int .i64 n)),(14,.p (.seq (t.cs.map cB))),(3,.map 1),(1,.ptr 0 [])],[.box false (.p (dH t)),.map false (lP (t.cs.take i))]⟩) (fun i=>i<=n/\∀j k,j<k->k<i->t.at j≠t.at k) (fun i=>n-i) 0 (by simp) ?_ (hh:=by simp[lP]);rintro i ⟨ai,E⟩
 by_cases hi:i<n
 ·have H:=aw.get (t:=t) (i:=i) (by omega);have z:=cH (i:=i) (by omega);have W:t.cs.take (i+1)=t.cs.take i++[t.at i]:=by rw[b1,H];rfl
  simp[-fe,hi,q,H,ad]
  by_cases f:t.at i∈t.cs.take i
  ·obtain⟨j,s,r⟩:=b0.1 f;rw[bo]at s;rw[b2,aw.aK (by omega)]at r;have Q:=PZ (by omega) (j:=j) (k:=i) (by omega) (by omega) (by omega) r;simp[f,Q]
  ·have hI:=PM f;have I:=D8 f;rw[<-W]at I;simp[-fe,-lg,f,hI,I,z];exact rd (i+1) ⟨hi,fun j k w hk=>by
    by_cases T:k=i
    ·subst T;intro r;exact f (r▸bb (i:=j) (by rw[List.getElem?_take,if_pos w];exact aw.get (by omega)))
    ·exact E j k w (by omega)⟩
 have R:i=n:=by omega
 subst R;have inj:∀j k,j<i->k<i->t.at j=t.at k->j=k:=fun j k s hk r=>by
  rcases ck j k with h|h|h
  ·exact(E j k h hk r).elim
  ·exact h
  ·exact(E k j h s r.symm).elim
 simp[q,ad];refine lp (α:=Nat) (fun m=>⟨[(32,.p (.int .i64 m)),(31,.p (.int .i64 i)),(30,.p (.seq (t.cs.map cB))),(6,.p (.int .i64 i)),(1,.ptr 0 [])],[.box false (.p (dH t))]⟩) (fun m=>m<=i/\∀j,j<m->t.mz j i) (fun m=>i-m) 0 (by simp) ?_;rintro m ⟨g1,g2⟩;have U:¬i=0:=by omega
 by_cases f:m<i
 ·have M:=aw.get (t:=t) (i:=m) (by omega);have z:=cH (i:=m) (by omega);have V:t.nx m<i:=by rw[<-q];exact t.jz (by omega) m
  have N:=aw.get (t:=t) (i:=t.nx m) (by omega);have e1:((m:Int)+1).tmod (i:Int)=((t.nx m:Nat):Int):=by
   rw[aw.nx,q,a8,a7 (by omega)];rfl
  simp[f,q,M,N,z,e1,U,ad];refine⟨by repeat' first|rfl|apply ao,?_⟩;refine lp (α:=Nat) (fun k=>⟨[(48,.p (.int .i64 k)),(47,.p (.int .i64 i)),(46,.p (.seq (t.cs.map cB))),(9,.ptr 2 []),(8,.ptr 1 []),(32,.p (.int .i64 m)),(31,.p (.int .i64 i)),(30,.p (.seq (t.cs.map cB))),(6,.p (.int .i64 i)),(1,.ptr 0 [])],[.box false (.p (dH t)),.box false (.p (cB (t.at m))),.box false (.p (cB (t.at (t.nx m))))]⟩) (fun k=>k<=i/\t.mz m k) (fun k=>i-k) 0 (by simp[aw.mz]) ?_;rintro k ⟨q1,D⟩
  by_cases hk:k<i
  ·have gk:=aw.get (t:=t) (i:=k) (by omega);have G:=cH (i:=k) (by omega)
   by_cases c1:t.at k=t.at m
   ·have:=inj _ _ hk f c1;subst this;simp[-iJ,iJ.eq_1,hk,gk,G,ad];exact rd (k+1) ⟨hk,fun j s=>by
     by_cases w:j=k
     ·intro h;exact(h w).elim
     ·exact D j (by omega)⟩
   ·by_cases c2:t.at k=t.at (t.nx m)
    ·have:=inj _ _ hk V c2;have c3:¬t.at (t.nx m)=t.at m:=by rw[<-c2];exact c1
     simp[-iJ,iJ.eq_1,hk,gk,G,c2,c3,ad];exact rd (k+1) ⟨hk,fun j s=>by
      by_cases w:j=k
      ·intro _ h;exact(h (by omega)).elim
      ·exact D j (by omega)⟩
    ·have L:k≠m:=fun e=>c1 (by rw[e]);have nx:k≠t.nx m:=fun e=>c2 (by rw[e]);have P:hJ (t.at m) (t.at (t.nx m)) (t.at k)=((t.at (t.nx m)).x-(t.at m).x)*((t.at k).y-(t.at m).y)-((t.at (t.nx m)).y-(t.at m).y)*((t.at k).x-(t.at m).x):=rfl;have X:=aw.fx F (i:=m) (by omega);have Y:=aw.fx F (i:=t.nx m) (by omega);have Z:=aw.fx F (i:=k) (by omega);have K:t.mz m (k+1)↔0<hJ (t.at m) (t.at (t.nx m)) (t.at k):=⟨fun h=>h k (by omega) L nx,fun h j s u v=>by
      by_cases w:j=k
      ·subst w;exact h
      ·exact D j (by omega) u v⟩
     have J:¬0<hJ (t.at m) (t.at (t.nx m)) (t.at k)->t.dS=false:=fun h=>by
      rw[aw.dS,decide_eq_false_iff_not];intro O;exact h (O m (by omega) k (by omega) L nx)
     rw[P]at K J;simp[-iJ,iJ.eq_1,hk,gk,G,c1,c2,ad];simp only[eH]at X Y Z;generalize t.at m=A at*;generalize t.at (t.nx m)=B at*;generalize t.at k=C at*;obtain⟨c,d⟩:=A;obtain⟨bx,g⟩:=B;obtain⟨l,o⟩:=C;dsimp only at*;have aa:a1.wrap (bx-c)=bx-c:=aN _ (by omega) (by omega);have ab:a1.wrap (o-d)=o-d:=aN _ (by omega) (by omega);have ac:a1.wrap (g-d)=g-d:=aN _ (by omega) (by omega)
     have ae:a1.wrap (l-c)=l-c:=aN _ (by omega) (by omega);have al:=vW (a:=bx-c) (b:=o-d) (A:=20000) (B:=20000) (by omega) (by omega) (by omega) (by omega);have am:=vW (a:=g-d) (b:=l-c) (A:=20000) (B:=20000) (by omega) (by omega) (by omega) (by omega);have af:a1.wrap ((bx-c)*(o-d))=(bx-c)*(o-d):=aN _ (by omega) (by omega);have ag:a1.wrap ((g-d)*(l-c))=(g-d)*(l-c):=aN _ (by omega) (by omega);have ah:a1.wrap ((bx-c)*(o-d)-(g-d)*(l-c))=(bx-c)*(o-d)-(g-d)*(l-c):=aN _ (by omega) (by omega);simp[aa,ab,ac,ae,af,ag,ah]
     by_cases hc:(bx-c)*(o-d)-(g-d)*(l-c)<=0
     ·have:=J (by omega);simp[hc,this]
     ·simp[hc];exact rd (k+1) ⟨hk,K.2 (by omega)⟩
  ·have:k=i:=by omega
   subst this;simp[z];exact rd (m+1) ⟨f,fun j s=>by
    by_cases S:j=m
    ·subst S;exact D
    ·exact g2 j (by omega)⟩
 ·have:m=i:=by omega
  subst this;have:t.dS=true:=by
   rw[aw.dS,decide_eq_true_eq,q];exact g2
  simp[this]
noncomputable def dF(v:NV):PV:=.st 138 [eF v.x,eF v.y]
@[simp] theorem aIi(v:NV):aJ (dF v)=.agg 138:=rfl
@[simp] theorem aF1(v:NV):cj (dF v)=[eF v.x,eF v.y]:=rfl
@[simp] theorem aFo:prog.cellsOf 138=8:=by kernel_rfl
theorem rr(x y:NF):dF ⟨x,y⟩=.st 138 [eF x,eF y]:=rfl
noncomputable def nu(a b:NV):PV:=.st 140 [dF a,dF b]
@[simp] theorem aHl(a b:NV):aJ (nu a b)=.agg 140:=rfl
@[simp] theorem aFR(a b:NV):cj (nu a b)=[dF a,dF b]:=rfl
theorem CO(p:fy)(d:bI p.x=0)(e:bI p.y=0)(a:lI p):az prog 107 [ff p] (dF (.from p)):=by
 have b:=lE p.x d a.1.1;have c:=lE p.y e a.2.1;refine aM nf Er mix (by simp[f107]) ?_;rw[NV.from,rr];simp[f107,ad];refine e1 b ?_;simp[ad];refine e1 c ?_;simp[ad]
def cm(p:dK):NV:=⟨.int p.x,.int p.y⟩
theorem OX(p:dK):(cm p).q=c8 p:=rfl
theorem DT(p:dK)(h:eH p):az prog 183 [cB p] (dF (cm p)):=by
 simp only[eH]at h;have a:=vA p.x (by omega) (by omega);have b:=vA p.y (by omega) (by omega);refine aM nf EJ mix (by simp[f183]) ?_;rw[cm,rr];simp[f183,ad];refine e1 a ?_;simp[ad];refine e1 b ?_;simp[ad]
theorem tM(v w:NV)(a:cr kQ v.q)(b:cr kQ w.q):az prog 91 [dF v,dF w] (dF (v.sub w)):=by
 have c:=xZ v.x w.x (eD a.1) (eD b.1);have d:=xZ v.y w.y (eD a.2) (eD b.2);refine aM nf Ow mix (by simp[f91]) ?_;rw[NV.sub,rr];simp[f91,ad];refine e2 c ?_;simp[ad];refine e2 d ?_;simp[ad]
theorem Ej(v w:NV)(a:cr kQ v.q)(b:cr kQ w.q):az prog 71 [dF v,dF w] (eF (v.fj w)):=by
 have c:=oC v.x w.y (eD a.1) (eD b.2);have d:=oC v.y w.x (eD a.2) (eD b.1);have e:=xZ (v.x.mul w.y) (v.y.mul w.x) ((iU a.1 b.2).mono (by decide)) ((iU a.2 b.1).mono (by decide));refine aM nf N9 mix (by simp[f71]) ?_;rw[NV.fj];simp[f71,ad];refine e2 c ?_;simp[ad];refine e2 d ?_;simp[ad];refine e2 e ?_;simp[ad]
theorem FL(t:aw)(i:Nat)(hi:i<t.cs.length)(l:t.cs.length<=1000000)(h:∀p∈t.cs,eH p):az prog 89 [dH t,.int .i64 i] (nu (cm (t.at i)) (cm (t.at (t.nx i)))):=by
 have a:=t.jz (by omega) i;have j:=DT (t.at i) (aw.fx h hi);have k:=DT (t.at (t.nx i)) (aw.fx h a);have g:=cH (i:=i) (by omega);have e1:((i:Int)+1).tmod (t.cs.length:Int)=((t.nx i:Nat):Int):=by
  rw[aw.nx,a8,a7 (by omega)];rfl
 have f:¬t.cs.length=0:=by omega
 have d:¬t.cs=[]:=by intro e;rw[e]at hi;simp at hi
 have b:=aw.get hi;have c:=aw.get a;refine aM nf Ou mix (by simp[f89]) ?_;rw[nu];simp[f89,ad,g,e1,f,d,b,c,hi,a];refine Go.al.e1 j ?_;simp[ad,g,e1,f,d,b,c,hi,a];refine Go.al.e1 k ?_;simp[ad,g,e1,f,d,b,c,hi,a]
theorem FV(t:aw):az prog 69 [dH t] (.func 160 [] [.b6 (dH t)]):=by
 refine aM nf N7 mix (by simp[f69]) ?_;simp[f69];show fU [.box false (.p (dH t))] 7 (.p (dH t)) (dH t);rw[Dt];exact Wk.refl _
noncomputable def o9(t:aw)(i:Nat):List PV:=[.int .i64 i,nu (cm (t.at i)) (cm (t.at (t.nx i)))]
theorem tH{t:aw}{i:Nat}(h:i<t.cs.length):((b4 t.cs.length).map (o9 t))[i]?=some (o9 t i):=by
 rw[List.getElem?_map,List.getElem?_range h];rfl
theorem FW(t:aw)(g:t.cs.length<=1000000)(h:∀p∈t.cs,eH p):Stream prog 160 [] [.b6 (dH t)] ((b4 t.cs.length).map (o9 t)):=by
 intro b k e H' hk a l d;rw[List.length_map,List.length_range]at hk d;refine jj nf E4 mix (by simp[f160]) ?_;simp[f160,ad];refine lp (α:=Nat) (fun i=>⟨[(7,.p (.int .i64 i)),(6,.p (.int .i64 t.cs.length)),(1,.p (.b6 (dH t))),(0,.map b)],e i⟩) (fun i=>i<=k) (fun i=>k-i) 0 (by simp) ?_ (hr:=by simp;exact(a 0 (by omega)).2) (hr2:=(a 0 (by omega)).1);rintro i m
 by_cases hi:i<t.cs.length
 ·have f:=FL t i hi g h;have j:=cH (i:=i) (by omega);simp[hi];refine c2 f ?_;simp
  by_cases c:i<k
  ·refine⟨e (i+1),_,l i _ c (tH hi),?_⟩;simp[j];exact rd (i+1) c (hr:=by simp;exact(a (i+1) c).2) (hr2:=(a (i+1) c).1)
  ·have:i=k:=by omega
   subst this;rcases d with⟨e1,_⟩|⟨y,e1,e2⟩
   ·omega
   ·rw[tH hi]at e1;injection e1 with e1
    subst e1;refine⟨H',_,e2,?_⟩;simp
 ·have:i=t.cs.length:=by omega
  subst this;rcases d with⟨e1,e2⟩|⟨y,e1,e2⟩
  ·have:t.cs.length=k:=by omega
   subst this;simp[e2]
  ·rw[List.getElem?_eq_none (by simp;omega)]at e1;cases e1
noncomputable def vN(t:aw)(v:NV)(L:ef)(i:Nat):Heap:=[.box false (.p (dH t)),.box false (.p (dF v)),.box false (.p (.int .i64 (t.jr v.q i))),.loop L]
theorem M7(t:aw)(v:NV)(m:t.cs.length<=1000000)(c:∀p∈t.cs,eH p)(g:cr 3000 v.q):az prog 118 [dH t,dF v] (.int .i64 (t.on v.q)):=by
 refine aM nf MM mix (by simp[f118]) ?_;simp[f118,ad];refine c1 (FV t) ?_;simp;refine rf (FW t m c) rfl (by simp) (vN t v) t.cs.length (by simp) (fun L=>rfl) ?_ ?_ ?_
 ·intro L a i hi;refine⟨rfl,by simp[vN],fun _ hx=>?_⟩;simp[vN]at hx⊢;exact hx
 ·intro L a i x hi hx;rw[tH hi]at hx;injection hx with hx
  subst hx;have b:=jd (aw.fx c hi);have h:=jd (aw.fx c (t.jz (by omega) i));have q1:cr 29 ((cm (t.at (t.nx i))).sub (cm (t.at i))).q:=by rw[NV.lD];exact kx h b
  have n:cr 3015 (v.sub (cm (t.at i))).q:=by rw[NV.lD];exact kx g b
  have j:=tM (cm (t.at (t.nx i))) (cm (t.at i)) (h.mono (by decide)) (b.mono (by decide));have k:=tM v (cm (t.at i)) (g.mono (by decide)) (b.mono (by decide));have l:=Ej ((cm (t.at (t.nx i))).sub (cm (t.at i))) (v.sub (cm (t.at i))) (q1.mono (by decide)) (n.mono (by decide));have e:=vc (((cm (t.at (t.nx i))).sub (cm (t.at i))).fj (v.sub (cm (t.at i))));have d:dx (((cm (t.at (t.nx i))).sub (cm (t.at i))).fj (v.sub (cm (t.at i)))).q=t.side i v.q:=by
   rw[NV.DV,NV.lD,NV.lD];rfl
  rw[dx]at d;rw[d]at e;have hs:=aw.tG t v.q i;rw[Ek]at hs;refine vY nf mix a rfl rfl (by kernel_rfl) ?_;have f:=congrArg ef.env a;dsimp only at f;clear a d;generalize (cm (t.at (t.nx i))).sub (cm (t.at i))=W at*;generalize v.sub (cm (t.at i))=U at*;generalize W.fj U=C at*;simp[vN,o9,nu,ad];refine e2 j ?_;simp[ad];refine e2 k ?_;simp[ad];refine e2 l ?_;simp[ad];refine e1 e ?_;simp[ad];refine⟨by repeat' first|rfl|apply ao,?_⟩;rw[<-hs];refine dj.og (by simp) (by simp) (by simp) (by simp) ?_;simp;exact tL f (by simp)
 ·intro L a;refine .inl ⟨by simp,?_⟩;simp[vN,aw.on]
theorem zC(s:List Nat)(hs:fB s)(h:bI s=0):az prog 176 [.str s] (.int .i64 (dB (aL s))):=by
 have o:=gn h;have d:=lE s h hs.1;have c:=vc ⟨aL s,false⟩;have g:=vA 1 (by decide) (by decide);have e:=sT ⟨aL s,false⟩ (.int 1) (o.mono (by decide)) ((show bE 1 (NF.int 1).q from⟨by decide,by decide⟩).mono (by decide));have e2:(if(⟨aL s,false⟩:NF).q<0 then(-1:Int)else if(⟨aL s,false⟩:NF).q=0 then 0 else 1)=dx (aL s):=rfl;have e4:du (⟨aL s,false⟩:NF).q (NF.int 1).q=du (aL s) 1:=rfl;rw[e2]at c;rw[e4]at e;have f:=fun b=>iO b 3;refine aM nf ER mix (by simp[f176]) ?_;rw[dB];clear e2 e4 o;generalize dx (aL s)=x at*;generalize du (aL s) 1=y at*;generalize (⟨aL s,false⟩:NF)=v at*
 by_cases a:x<0
 ·simp[f176,ad];refine c1 d ?_;simp[ad];refine Go.al.e1 c ?_;simp[a,ad];refine Go.al.e2 (f true) ?_;simp[bt];omega
 ·by_cases b:0<y
  ·simp[f176,ad];refine c1 d ?_;simp[ad];refine Go.al.e1 c ?_;simp[a,ad];refine Go.al.e1 g ?_;simp[a,ad];refine Go.al.e2 e ?_;simp[a,b,ad];refine Go.al.e2 (f true) ?_;simp[bt];omega
  ·simp[f176,ad];refine c1 d ?_;simp[ad];refine Go.al.e1 c ?_;simp[a,ad];refine Go.al.e1 g ?_;simp[a,ad];refine Go.al.e2 e ?_;simp[a,b,ad];refine Go.al.e2 (f false) ?_;simp[bt];omega
def o8(p:dG):Prop:=qS p/\bI p.a=0/\bI p.b=0
theorem WS(p o:dG)(r:o8 p)(q:o8 o):az prog 175 [eX p,eX o] (.bool (gp o p)):=by
 obtain⟨⟨_,u,v⟩,l,m⟩:=r;obtain⟨⟨_,s,t⟩,j,k⟩:=q;have d:=lE p.a l u.1;have e:=lE o.b k t.1;have c:=sT ⟨aL p.a,false⟩ ⟨aL o.b,false⟩ ((gn l).mono (by decide)) ((gn k).mono (by decide));have g:=lE o.a j s.1;have i:=lE p.b m v.1;have f:=sT ⟨aL o.a,false⟩ ⟨aL p.b,false⟩ ((gn j).mono (by decide)) ((gn m).mono (by decide));dsimp only at c f;refine aM nf ES mix (by simp[f175]) ?_;rw[gp];generalize du (aL p.a) (aL o.b)=x at*;generalize du (aL o.a) (aL p.b)=y at*;generalize (⟨aL p.a,false⟩:NF)=v1 at*;generalize (⟨aL p.b,false⟩:NF)=v2 at*;generalize (⟨aL o.a,false⟩:NF)=v3 at*;generalize (⟨aL o.b,false⟩:NF)=v4 at*
 by_cases c1:o.eC=p.eC
 case neg=>
  have n:¬p.eC=o.eC:=fun h=>c1 h.symm;simp[f175,ad,c1,n]
 by_cases c2:x<=0
 ·by_cases c3:y<=0
  ·simp[f175,ad,c1];refine Go.al.e1 d ?_;simp[ad,c1];refine Go.al.e1 e ?_;simp[ad,c1];refine Go.al.e2 c ?_;simp[ad,c1,c2];refine Go.al.e1 g ?_;simp[ad,c1,c2];refine Go.al.e1 i ?_;simp[ad,c1,c2];refine Go.al.e2 f ?_;simp[ad,c1,c2,c3]
  ·simp[f175,ad,c1];refine Go.al.e1 d ?_;simp[ad,c1];refine Go.al.e1 e ?_;simp[ad,c1];refine Go.al.e2 c ?_;simp[ad,c1,c2];refine Go.al.e1 g ?_;simp[ad,c1,c2];refine Go.al.e1 i ?_;simp[ad,c1,c2];refine Go.al.e2 f ?_;simp[ad,c1,c2,c3]
 ·simp[f175,ad,c1];refine Go.al.e1 d ?_;simp[ad,c1];refine Go.al.e1 e ?_;simp[ad,c1];refine Go.al.e2 c ?_;simp[ad,c1,c2]
theorem PY(p o:dG):cX prog 173 [.box false (.p (eX p))] [.p (eX o),.ptr 0 []] [.box false (.p (eX p))] (.p (.bool (decide (o.name=p.name)))):=by
 refine jj nf MA mix (by simp[f173]) ?_
 by_cases h:o.name=p.name
 ·simp[f173,ad,h];exact dj.og (by simp) (by simp) (by simp) (by simp) (by simp)
 ·simp[f173,ad,h];exact dj.og (by simp) (by simp) (by simp) (by simp) (by simp)
theorem P2(p:dG)(l:List dG)(h:l.length<=1000000):
 cX prog 95 [.box false (.p (eX p))] [.p (.seq (l.map eX)),.func 173 [] [.ptr 0 []]] [.box false (.p (eX p))] (.p (.int .i64 (idxFrom (fun o=>decide (o.name=p.name)) l 0))):=by
 refine jj nf C9 mix (by simp[f95]) ?_;simp[f95];refine lp (α:=Nat) (fun i=>⟨[(8,.p (.int .i64 i)),(7,.p (.int .i64 l.length)),(1,.func 173 [] [.ptr 0 []]),(0,.p (.seq (l.map eX)))],[.box false (.p (eX p))]⟩) (fun i=>i<=l.length/\idxFrom (fun o=>decide (o.name=p.name)) l 0=idxFrom (fun o=>decide (o.name=p.name)) (l.drop i) i) (fun i=>l.length-i) 0 (by simp) ?_;rintro i ⟨k1,k2⟩;have a:=cH (i:=i) (by omega)
 by_cases hi:i<l.length
 ·rw[be hi,idxFrom]at k2;simp[hi];refine cf (PY p l[i]) [0] ?_
  by_cases hk:l[i].name=p.name
  ·simp[hk]at k2;simp[hk,k2,br]
  ·simp[hk]at k2;simp[hk,a,br];exact rd (i+1) ⟨hi,k2⟩
 ·have:i=l.length:=by omega
  subst this;simp[idxFrom]at k2;simp[k2]
theorem PT(p:dG)(l:List dG)(h:l.length<=1000000):
 cX prog 172 [.box false (.p (eX p))] [.p (.seq (l.map eX)),.func 173 [] [.ptr 0 []]] [.box false (.p (eX p))] (.p (.bool (l.any (fun o=>decide (o.name=p.name))))):=by
 refine jj nf CJ mix (by simp[f172]) ?_;simp[f172];refine cf (P2 p l h) [0] ?_;have:=tD (fun o=>decide (o.name=p.name)) l 0;simp[br,<-this]
theorem PX(p o:dN):cX prog 178 [.box false (.p (fZ p))] [.p (fZ o),.ptr 0 []] [.box false (.p (fZ p))] (.p (.bool (decide (o.name=p.name)))):=by
 refine jj nf EO mix (by simp[f178]) ?_
 by_cases h:o.name=p.name
 ·simp[f178,ad,h];exact dj.og (by simp) (by simp) (by simp) (by simp) (by simp)
 ·simp[f178,ad,h];exact dj.og (by simp) (by simp) (by simp) (by simp) (by simp)
theorem PJ(p:dN)(l:List dN)(h:l.length<=1000000):
 cX prog 198 [.box false (.p (fZ p))] [.p (.seq (l.map fZ)),.func 178 [] [.ptr 0 []]] [.box false (.p (fZ p))] (.p (.int .i64 (idxFrom (fun o=>decide (o.name=p.name)) l 0))):=by
 refine jj nf Mv mix (by simp[f198]) ?_;simp[f198];refine lp (α:=Nat) (fun i=>⟨[(8,.p (.int .i64 i)),(7,.p (.int .i64 l.length)),(1,.func 178 [] [.ptr 0 []]),(0,.p (.seq (l.map fZ)))],[.box false (.p (fZ p))]⟩) (fun i=>i<=l.length/\idxFrom (fun o=>decide (o.name=p.name)) l 0=idxFrom (fun o=>decide (o.name=p.name)) (l.drop i) i) (fun i=>l.length-i) 0 (by simp) ?_;rintro i ⟨k1,k2⟩;have a:=cH (i:=i) (by omega)
 by_cases hi:i<l.length
 ·rw[be hi,idxFrom]at k2;simp[hi];refine cf (PX p l[i]) [0] ?_
  by_cases hk:l[i].name=p.name
  ·simp[hk]at k2;simp[hk,k2,br]
  ·simp[hk]at k2;simp[hk,a,br];exact rd (i+1) ⟨hi,k2⟩
 ·have:i=l.length:=by omega
  subst this;simp[idxFrom]at k2;simp[k2]
theorem PS(p:dN)(l:List dN)(h:l.length<=1000000):
 cX prog 177 [.box false (.p (fZ p))] [.p (.seq (l.map fZ)),.func 178 [] [.ptr 0 []]] [.box false (.p (fZ p))] (.p (.bool (l.any (fun o=>decide (o.name=p.name))))):=by
 refine jj nf EP mix (by simp[f177]) ?_;simp[f177];refine cf (PJ p l h) [0] ?_;have:=tD (fun o=>decide (o.name=p.name)) l 0;simp[br,<-this]
theorem PW(p:dG)(c:o8 p)(l:List dG)(h:l.length<=1000000)(b:∀o∈l,o8 o):
 az prog 95 [.seq (l.map eX),.func 175 [eX p] []] (.int .i64 (idxFrom (fun o=>gp o p) l 0)):=by
 refine aM nf C9 mix (by simp[f95]) ?_;simp[f95];refine lp (α:=Nat) (fun i=>⟨[(8,.p (.int .i64 i)),(7,.p (.int .i64 l.length)),(1,.p (.func 175 [eX p] [])),(0,.p (.seq (l.map eX)))],[]⟩) (fun i=>i<=l.length/\idxFrom (fun o=>gp o p) l 0=idxFrom (fun o=>gp o p) (l.drop i) i) (fun i=>l.length-i) 0 (by simp) ?_;rintro i ⟨k1,k2⟩;have d:=cH (i:=i) (by omega)
 by_cases hi:i<l.length
 ·rw[be hi,idxFrom]at k2;have a:=WS p l[i] c (b _ (List.getElem_mem hi));simp[hi];refine c2 a ?_;cases hk:gp l[i] p
  ·simp[hk]at k2;simp[d];exact rd (i+1) ⟨hi,k2⟩
  ·simp[hk]at k2;simp[k2]
 ·have:i=l.length:=by omega
  subst this;simp[idxFrom]at k2;simp[k2]
theorem PH(p:dG)(b:o8 p)(l:List dG)(h:l.length<=1000000)(a:∀o∈l,o8 o):
 az prog 172 [.seq (l.map eX),.func 175 [eX p] []] (.bool (l.any (fun o=>gp o p))):=by
 refine aM nf CJ mix (by simp[f172]) ?_;simp[f172];refine c2 (PW p b l h a) ?_;have:=tD (fun o=>gp o p) l 0;simp[<-this]
def jW(n:Nat)(c:List dG)(p:dG):Int:=bN [bt (!isName p.name) 8,bt (c.any fun o=>decide (o.name=p.name)) 9,bt (decide (p.eC<0\/(n:Int)<=p.eC)) 10,bI p.a,bI p.b]
def zd(c:List dG)(p:dG):Int:=bN [dB (aL p.a),dB (aL p.b),bt (decide (0<du (aL p.a) (aL p.b))) 11,bt (c.any fun o=>gp o p) 17]
theorem DP(q:Rat):dB q=0\/dB q=3:=by
 rw[dB];split
 ·exact .inr rfl
 ·exact .inl rfl
theorem PR(n:Nat)(e:List dG)(p:dG):gQ n e p=if jW n e p=0 then zd e p else jW n e p:=by
 rw[gQ,jW,zd];generalize bI p.a=ca;generalize bI p.b=i;have j:=DP (aL p.a);have h:=DP (aL p.b);generalize dB (aL p.a)=r at*;generalize dB (aL p.b)=s at*;generalize du (aL p.a) (aL p.b)=y;generalize (e.any fun o=>gp o p)=m;generalize (e.any fun o=>decide (o.name=p.name))=a;have k:max (0:Int) 3=3:=rfl;have l:max (3:Int) 0=3:=rfl;cases q:isName p.name
 ·simp[bN,bt]
 cases a
 case true=>simp[bN,bt]
 by_cases c:p.eC<0\/(n:Int)<=p.eC
 ·simp[bN,bt,c]
 by_cases d:ca=0
 case neg=>simp[bN,bt,c,d]
 by_cases f:i=0
 case neg=>simp[bN,bt,c,d,f]
 rcases j with rfl|rfl
 ·rcases h with rfl|rfl
  ·by_cases g:0<y
   ·simp[bN,bt,c,d,f,g]
   ·cases m<;>simp[bN,bt,c,d,f,g]
  ·simp[bN,bt,c,d,f,k]
 ·rcases h with rfl|rfl
  ·simp[bN,bt,c,d,f,l]
  ·simp[bN,bt,c,d,f]
theorem PL{n:Nat}{bef:List dG}{p:dG}(h:jW n bef p=0):bI p.a=0/\bI p.b=0:=by
 rw[jW,kY]at h;exact⟨h _ (by simp),h _ (by simp)⟩
theorem PG(t:aw)(p:dG)(d:List dG)(L:t.cs.length<=1000000)(G:qS p)(m:d.length<=1000000)(F:∀o∈d,o8 o):
 az prog 84 [dH t,eX p,.seq (d.map eX)] (.int .i64 (gQ t.cs.length d p)):=by
 obtain⟨C,j,k⟩:=G;have k1:=PT p d m;have k2:=D4 p.name C.1;have k3:=iO (!isName p.name) 8;have k4:=iO (d.any fun o=>decide (o.name=p.name)) 9;have k5:=fun b=>iO b 10;have k6:=vt p.a j.1 j.2;have k7:=vt p.b k.1 k.2;have k8:=nE [bt (!isName p.name) 8,bt (d.any fun o=>decide (o.name=p.name)) 9,bt (decide (p.eC<0\/(t.cs.length:Int)<=p.eC)) 10,bI p.a,bI p.b] (by simp);have g:=PL (n:=t.cs.length) (bef:=d) (p:=p);rw[PR];have s:=fun h:jW t.cs.length d p=0=>PH p ⟨⟨C,j,k⟩,(g h).1,(g h).2⟩ d m F;have u:=fun h:jW t.cs.length d p=0=>zC p.a j (g h).1;have v:=fun h:jW t.cs.length d p=0=>zC p.b k (g h).2;have w:=fun h:jW t.cs.length d p=0=>lE p.a (g h).1 j.1;have x:=fun h:jW t.cs.length d p=0=>lE p.b (g h).2 k.1;have q:=fun h:jW t.cs.length d p=0=>sT ⟨aL p.a,false⟩ ⟨aL p.b,false⟩ ((gn (g h).1).mono (by decide)) ((gn (g h).2).mono (by decide));dsimp only at q;have B:=iO (decide (0<du (aL p.a) (aL p.b))) 11;have z:=iO (d.any fun o=>gp o p) 17;have i:=nE [dB (aL p.a),dB (aL p.b),bt (decide (0<du (aL p.a) (aL p.b))) 11,bt (d.any fun o=>gp o p) 17] (by simp);have d1:jW t.cs.length d p=bN [bt (!isName p.name) 8,bt (d.any fun o=>decide (o.name=p.name)) 9,bt (decide (p.eC<0\/(t.cs.length:Int)<=p.eC)) 10,bI p.a,bI p.b]:=rfl;have d2:zd d p=bN [dB (aL p.a),dB (aL p.b),bt (decide (0<du (aL p.a) (aL p.b))) 11,bt (d.any fun o=>gp o p) 17]:=rfl;rw[<-d1]at k8;rw[<-d2]at i;clear d1 d2 g;generalize jW t.cs.length d p=l at*;generalize zd d p=K at*;generalize bI p.a=H at*;generalize bI p.b=I at*;generalize dB (aL p.a)=U at*;generalize dB (aL p.b)=V at*;generalize du (aL p.a) (aL p.b)=A at*;generalize (d.any fun o=>decide (o.name=p.name))=D at*;generalize (d.any fun o=>gp o p)=J at*;generalize isName p.name=E at*;generalize (⟨aL p.a,false⟩:NF)=v1 at*;generalize (⟨aL p.b,false⟩:NF)=v2 at*;refine aM nf Om mix (by simp[f84]) ?_;have r:∀b:Bool,decide (p.eC<0\/(t.cs.length:Int)<=p.eC)=b->az prog 79 [.bool b,.int .i64 10] (.int .i64 (bt b 10))/\az prog 78 [.seq [.int .i64 (bt (!E) 8),.int .i64 (bt D 9),.int .i64 (bt b 10),.int .i64 H,.int .i64 I]] (.int .i64 l):=fun b m=>by
  rw[m]at k8;exact⟨k5 b,by simpa using k8⟩
 simp at i;have y:az prog 79 [.bool (decide (0<A)),.int .i64 11] (.int .i64 (bt (decide (0<A)) 11)):=B;clear k5 k8 B;generalize M:bt (!E) 8=Q at*;generalize N:bt D 9=R at*;generalize O:bt (decide (0<A)) 11=S at*;generalize P:bt J 17=T at*;simp[f84,-bh,ad];rw[bh];simp[-bh,ad];rw[bh];simp[-bh,ad];refine cf k1 [1] ?_;simp[-bh,ad,br,sig]
 by_cases e:p.eC<0
 ·obtain⟨f1,f2⟩:=r true (by simp[e]);rw[bh,bh];simp[-bh,ad];refine Go.al.e1 k2 ?_;simp[-bh,ad];refine Go.al.e2 k3 ?_;simp[-bh,ad];refine Go.al.e2 k4 ?_;simp[-bh,ad,e];refine Go.al.e2 f1 ?_;simp[-bh,ad,e];refine Go.al.e1 k6 ?_;simp[-bh,ad,e];refine Go.al.e1 k7 ?_;simp[-bh,ad,e];refine ep f2 (by simp;first|exact⟨rfl,rfl⟩|rfl) (by simp;first|exact⟨rfl,rfl⟩|rfl) ?_;simp[-bh,ad,e];refine⟨by repeat' first|rfl|apply ao,?_⟩
  by_cases c:l=0
  case neg=>simp[c,ad]
  simp[c,ad];refine Go.al.c2 (s c) ?_;simp[ad];refine Go.al.e1 (u c) ?_;simp[ad];refine Go.al.e1 (v c) ?_;simp[ad];refine Go.al.e1 (w c) ?_;simp[ad];refine Go.al.e1 (x c) ?_;simp[ad];refine Go.al.e2 (q c) ?_;simp[ad];refine Go.al.e2 y ?_;simp[ad];refine Go.al.e2 z ?_;simp[ad];refine ep i (by simp;first|exact⟨rfl,rfl⟩|rfl) (by simp;first|exact⟨rfl,rfl⟩|rfl) ?_;simp[ad];exact⟨by repeat' first|rfl|apply ao,fun h=>(h c).elim⟩
 by_cases f:(t.cs.length:Int)<=p.eC
 ·obtain⟨f1,f2⟩:=r true (by simp[e,f]);rw[bh,bh];simp[-bh,ad];refine Go.al.e1 k2 ?_;simp[-bh,ad];refine Go.al.e2 k3 ?_;simp[-bh,ad];refine Go.al.e2 k4 ?_;simp[-bh,ad,e,f];refine Go.al.e2 f1 ?_;simp[-bh,ad,e,f];refine Go.al.e1 k6 ?_;simp[-bh,ad,e,f];refine Go.al.e1 k7 ?_;simp[-bh,ad,e,f];refine ep f2 (by simp;first|exact⟨rfl,rfl⟩|rfl) (by simp;first|exact⟨rfl,rfl⟩|rfl) ?_;simp[-bh,ad,e,f];refine⟨by repeat' first|rfl|apply ao,?_⟩
  by_cases c:l=0
  case neg=>simp[c,ad]
  simp[c,ad];refine Go.al.c2 (s c) ?_;simp[ad];refine Go.al.e1 (u c) ?_;simp[ad];refine Go.al.e1 (v c) ?_;simp[ad];refine Go.al.e1 (w c) ?_;simp[ad];refine Go.al.e1 (x c) ?_;simp[ad];refine Go.al.e2 (q c) ?_;simp[ad];refine Go.al.e2 y ?_;simp[ad];refine Go.al.e2 z ?_;simp[ad];refine ep i (by simp;first|exact⟨rfl,rfl⟩|rfl) (by simp;first|exact⟨rfl,rfl⟩|rfl) ?_;simp[ad];exact⟨by repeat' first|rfl|apply ao,fun h=>(h c).elim⟩
 ·obtain⟨f1,f2⟩:=r false (by simp[e,f]);rw[bh,bh];simp[-bh,ad];refine Go.al.e1 k2 ?_;simp[-bh,ad];refine Go.al.e2 k3 ?_;simp[-bh,ad];refine Go.al.e2 k4 ?_;simp[-bh,ad,e,f];refine Go.al.e2 f1 ?_;simp[-bh,ad,e,f];refine Go.al.e1 k6 ?_;simp[-bh,ad,e,f];refine Go.al.e1 k7 ?_;simp[-bh,ad,e,f];refine ep f2 (by simp;first|exact⟨rfl,rfl⟩|rfl) (by simp;first|exact⟨rfl,rfl⟩|rfl) ?_;simp[-bh,ad,e,f];refine⟨by repeat' first|rfl|apply ao,?_⟩
  by_cases c:l=0
  case neg=>simp[c,ad]
  simp[c,ad];refine Go.al.c2 (s c) ?_;simp[ad];refine Go.al.e1 (u c) ?_;simp[ad];refine Go.al.e1 (v c) ?_;simp[ad];refine Go.al.e1 (w c) ?_;simp[ad];refine Go.al.e1 (x c) ?_;simp[ad];refine Go.al.e2 (q c) ?_;simp[ad];refine Go.al.e2 y ?_;simp[ad];refine Go.al.e2 z ?_;simp[ad];refine ep i (by simp;first|exact⟨rfl,rfl⟩|rfl) (by simp;first|exact⟨rfl,rfl⟩|rfl) ?_;simp[ad];exact⟨by repeat' first|rfl|apply ao,fun h=>(h c).elim⟩
def nD(a:List dN)(s:dN):Int:=bN [bt (!isName s.name) 8,bt (a.any fun o=>decide (o.name=s.name)) 9,dA s.pt]
theorem PO(t:aw)(b:List dN)(s:dN):iB t b s=if nD b s=0 then bt (decide (t.on (vP s.pt)<0)) 16 else nD b s:=by
 rw[iB,nD];generalize dA s.pt=c;generalize (b.any fun o=>decide (o.name=s.name))=a;cases e:isName s.name
 ·simp[bN,bt]
 cases a
 case true=>simp[bN,bt]
 by_cases d:c=0
 case neg=>simp[bN,bt,d]
 simp[bN,bt,d]
theorem PK{bef:List dN}{s:dN}(h:nD bef s=0):dA s.pt=0:=by
 rw[nD,kY]at h;exact h _ (by simp)
theorem PU(t:aw)(s:dN)(a:List dN)(k:t.cs.length<=1000000)(l:∀p∈t.cs,eH p)(hs:qU s)(j:a.length<=1000000):
 az prog 86 [dH t,fZ s,.seq (a.map fZ)] (.int .i64 (iB t a s)):=by
 obtain⟨r,f⟩:=hs;have k1:=PS s a j;have k2:=D4 s.name r.1;have k3:=iO (!isName s.name) 8;have k4:=iO (a.any fun o=>decide (o.name=s.name)) 9;have k6:=wz s.pt f;have k8:=nE [bt (!isName s.name) 8,bt (a.any fun o=>decide (o.name=s.name)) 9,dA s.pt] (by simp);have c:=PK (bef:=a) (s:=s);rw[PO];have m:=fun h:nD a s=0=>CO s.pt (nY (c h)).1 (nY (c h)).2 f;have e:=fun h:nD a s=0=>M7 t (.from s.pt) k l (zV ⟨(gn (nY (c h)).1).mono (by decide),(gn (nY (c h)).2).mono (by decide)⟩);have n:=iO (decide (t.on (vP s.pt)<0)) 16;rw[Cw]at e;have d1:nD a s=bN [bt (!isName s.name) 8,bt (a.any fun o=>decide (o.name=s.name)) 9,dA s.pt]:=rfl;rw[<-d1]at k8;clear d1 c;generalize nD a s=d at*;generalize t.on (vP s.pt)=y at*;generalize dA s.pt=u at*;generalize (a.any fun o=>decide (o.name=s.name))=g at*;generalize isName s.name=i at*;generalize NV.from s.pt=v1 at*;refine aM nf Oo mix (by simp[f86]) ?_;have q:az prog 78 [.seq [.int .i64 (bt (!i) 8),.int .i64 (bt g 9),.int .i64 u]] (.int .i64 d):=by simpa using k8
 clear k8;generalize v:bt (!i) 8=z at*;generalize w:bt g 9=A at*;generalize x:bt (decide (y<0)) 16=B at*;simp[f86,ad];refine cf k1 [1] ?_;simp[ad,br,sig];refine Go.al.e1 k2 ?_;simp[ad];refine Go.al.e2 k3 ?_;simp[ad];refine Go.al.e2 k4 ?_;simp[ad];refine Go.al.e1 k6 ?_;simp[ad];refine ep q (by simp;first|exact⟨rfl,rfl⟩|rfl) (by simp;first|exact⟨rfl,rfl⟩|rfl) ?_;simp[ad];refine⟨by repeat' first|rfl|apply ao,?_⟩
 by_cases b:d=0
 case neg=>simp[b,ad]
 simp[b,ad];refine Go.al.e1 (m b) ?_;simp[ad];refine Go.al.e2 (e b) ?_;simp[ad];refine Go.al.e2 n ?_;simp[ad];exact fun h=>(h b).elim
def kf{α:Type}(b:Nat)(a:List α->α->Int)(l:List α):Int:=if b<l.length then 5 else jy a l
theorem Bz{α:Type}{n:Nat}{f:α->PV}(h:∀a,ad (.p (f a))≠.bad/\bB prog (ad (.p (f a)))=n)(l:List α):eS prog n (l.map (AV.p∘f)):=uf.2 fun v b=>by
 obtain⟨a,_,rfl⟩:=List.mem_map.1 b;exact h a
theorem Ig(l:List dG):eS prog 4 (l.map (AV.p∘eX)):=Bz (fun r=>⟨by simp[ad],by simp[ad]⟩) l
theorem Ih(l:List dN):eS prog 3 (l.map (AV.p∘fZ)):=Bz (fun r=>⟨by simp[ad],by simp[ad]⟩) l
theorem P6(t:aw)(a:Nat)(h:t.cs.length<=1000000)(m:t.ba.length<=1000000)(c:∀p∈t.ba,qS p):
 az prog 83 [.seq (t.ba.map eX),.int .i64 a,.func 84 [dH t] []] (.int .i64 (kf a (gQ t.cs.length) t.ba)):=by
 refine aM nf Ol mix (by simp[f83]) ?_;rw[kf]
 by_cases c1:a<t.ba.length
 ·have cI:(a:Int)<t.ba.length:=by omega
  rw[if_pos c1];simp[f83,cI]
 have d:¬(a:Int)<t.ba.length:=by omega
 rw[if_neg c1];simp[f83,d];refine lp (α:=Nat) (fun i=>⟨[(16,.p (.int .i64 i)),(15,.p (.int .i64 t.ba.length)),(14,.p (.seq (t.ba.map eX))),(0,.p (.seq (t.ba.map eX))),(2,.p (.func 84 [dH t] []))],[]⟩) (fun i=>i<=t.ba.length/\∀j,j<i->gR (gQ t.cs.length) t.ba j=0) (fun i=>t.ba.length-i) 0 (by simp) ?_;rintro i ⟨k1,k2⟩
 by_cases hk:i<t.ba.length
 ·have gk:=aw.kz hk;have l:=cH (i:=i) (by omega);have b:=PG t (t.pk i) (t.ba.take i) h (c _ (bb gk)) (by rw[bo];omega) (fun o k=>by
   obtain⟨j,f,rfl⟩:=b0.1 k;rw[bo]at f;rw[b2];have:=k2 j (by omega);have g:=aw.kz (t:=t) (i:=j) (by omega);rw[gR,g]at this;rw[aw.OW (by omega)];exact⟨c _ (bb g),D3 this⟩)
  rw[b3]at b
  by_cases he:gQ t.cs.length (t.ba.take i) (t.pk i)=0
  ·rw[he]at b;have:=tI k2 gk he;simp[hk,gk,ad];refine⟨⟨k1,Ig _⟩,?_⟩;refine Go.al.e3 b ?_;simp[l,ad];exact rd (i+1) ⟨hk,this⟩
  ·have e:=tJ k2 gk he;rw[e];simp[hk,gk,ad];refine⟨⟨k1,Ig _⟩,?_⟩;refine Go.al.e3 b ?_;simp[he,ad]
 ·have:i=t.ba.length:=by omega
  subst this;rw[rk.2 k2];simp
theorem P5(t:aw)(a:Nat)(e:t.cs.length<=1000000)(f:∀p∈t.cs,eH p)(k:t.aC.length<=1000000)(g:∀p∈t.aC,qU p):
 az prog 85 [.seq (t.aC.map fZ),.int .i64 a,.func 86 [dH t] []] (.int .i64 (kf a (iB t) t.aC)):=by
 refine aM nf On mix (by simp[f85]) ?_;rw[kf]
 by_cases c1:a<t.aC.length
 ·have cI:(a:Int)<t.aC.length:=by omega
  rw[if_pos c1];simp[f85,cI]
 have c:¬(a:Int)<t.aC.length:=by omega
 rw[if_neg c1];simp[f85,c];refine lp (α:=Nat) (fun i=>⟨[(16,.p (.int .i64 i)),(15,.p (.int .i64 t.aC.length)),(14,.p (.seq (t.aC.map fZ))),(0,.p (.seq (t.aC.map fZ))),(2,.p (.func 86 [dH t] []))],[]⟩) (fun i=>i<=t.aC.length/\∀j,j<i->gR (iB t) t.aC j=0) (fun i=>t.aC.length-i) 0 (by simp) ?_;rintro i ⟨k1,k2⟩
 by_cases hk:i<t.aC.length
 ·have gk:=aw.gH hk;have h:=cH (i:=i) (by omega);have b:=PU t (t.sp i) (t.aC.take i) e f (g _ (bb gk)) (by rw[bo];omega);rw[b3]at b
  by_cases he:iB t (t.aC.take i) (t.sp i)=0
  ·rw[he]at b;have:=tI k2 gk he;simp[hk,gk,ad];refine⟨⟨k1,Ih _⟩,?_⟩;refine Go.al.e3 b ?_;simp[h,ad];exact rd (i+1) ⟨hk,this⟩
  ·have d:=tJ k2 gk he;rw[d];simp[hk,gk,ad];refine⟨⟨k1,Ih _⟩,?_⟩;refine Go.al.e3 b ?_;simp[he,ad]
 ·have:i=t.aC.length:=by omega
  subst this;rw[rk.2 k2];simp
def lO(t:aw):Int:=bN [bt (decide ((t.cs.length:Int)<3)) 2,bt (decide (12<(t.cs.length:Int))) 5,bt (t.cs.any fw) 3]
def o7(t:aw):Int:=bN [bt (!t.dS) 15,bt (decide (t.b7<1\/1000<t.b7)) 3,kf 12 (gQ t.cs.length) t.ba]
theorem DS{t:aw}(h:lO t=0):3<=t.cs.length/\t.cs.length<=12/\∀p∈t.cs,eH p:=by
 rw[lO,kY]at h;have b:=h (bt (decide ((t.cs.length:Int)<3)) 2) (by simp);have d:=h (bt (decide (12<(t.cs.length:Int))) 5) (by simp);have a:=h (bt (t.cs.any fw) 3) (by simp);refine⟨?_,?_,fun p e=>DZ ?_⟩
 ·by_cases c:(t.cs.length:Int)<3
  ·simp[bt,c]at b
  ·omega
 ·by_cases c:12<(t.cs.length:Int)
  ·simp[bt,c]at d
  ·omega
 ·cases hf:fw p
  ·rfl
  ·have:t.cs.any fw=true:=List.any_eq_true.2 ⟨p,e,hf⟩;rw[this]at a;simp[bt]at a
theorem DY(t:aw):er t=if lO t=0 then(if o7 t=0 then kf 256 (iB t) t.aC else o7 t)else lO t:=by
 rw[er,lO,o7,kf,kf]
 by_cases c1:t.cs.length<3
 ·have:(t.cs.length:Int)<3:=by omega
  simp[bN,bt,c1,this]
 have b:¬(t.cs.length:Int)<3:=by omega
 by_cases c2:12<t.cs.length
 ·have:(12:Int)<t.cs.length:=by omega
  simp[bN,bt,c1,c2,b,this]
 have c:¬(12:Int)<t.cs.length:=by omega
 generalize t.cs.any fw=a;cases a
 case true=>simp[bN,bt,c1,c2,b,c]
 cases t.dS
 ·simp[bN,bt,c1,c2,b,c]
 by_cases c3:t.b7<1\/1000<t.b7
 ·simp[bN,bt,c1,c2,b,c,c3]
 by_cases c4:12<t.ba.length
 ·simp[bN,bt,c1,c2,b,c,c3,c4]
 generalize jy (gQ t.cs.length) t.ba=e
 by_cases c5:e=0
 ·simp[bN,bt,c1,c2,b,c,c3,c4,c5]
 ·simp[bN,bt,c1,c2,b,c,c3,c4,c5]
theorem zB(t:aw)(v:kH t):az prog 16 [dH t] (.int .i64 (er t)):=by
 obtain⟨k,z,A,s,u⟩:=v;have k1:=iO (decide ((t.cs.length:Int)<3)) 2;have k2:=iO (decide (12<(t.cs.length:Int))) 5;have k3:=PD t.cs k;have k4:=iO (t.cs.any fw) 3;have k5:=nE [bt (decide ((t.cs.length:Int)<3)) 2,bt (decide (12<(t.cs.length:Int))) 5,bt (t.cs.any fw) 3] (by simp);have l:=DS (t:=t);rw[DY];have w:=fun h:lO t=0=>P7 t (l h).1 k (l h).2.2;have x:=iO (!t.dS) 15;have q:=fun b=>iO b 3;have n:=P6 t 12 k z s;have j:=nE [bt (!t.dS) 15,bt (decide (t.b7<1\/1000<t.b7)) 3,kf 12 (gQ t.cs.length) t.ba] (by simp);have o:=fun h:lO t=0=>P5 t 256 k (l h).2.2 A u;have d1:lO t=bN [bt (decide ((t.cs.length:Int)<3)) 2,bt (decide (12<(t.cs.length:Int))) 5,bt (t.cs.any fw) 3]:=rfl;have d2:o7 t=bN [bt (!t.dS) 15,bt (decide (t.b7<1\/1000<t.b7)) 3,kf 12 (gQ t.cs.length) t.ba]:=rfl;rw[<-d1]at k5;rw[<-d2]at j;clear d1 d2 l;generalize lO t=p at*;generalize o7 t=i at*;generalize kf 12 (gQ t.cs.length) t.ba=F at*;generalize kf 256 (iB t) t.aC=M at*;generalize t.cs.any fw=G at*;generalize t.dS=H at*;generalize I:bt (decide ((t.cs.length:Int)<3)) 2=B at*;generalize J:bt (decide (12<(t.cs.length:Int))) 5=C at*;generalize K:bt G 3=D at*;generalize L:bt (!H) 15=E at*;have m:∀b:Bool,decide (t.b7<1\/1000<t.b7)=b->az prog 79 [.bool b,.int .i64 3] (.int .i64 (bt b 3))/\az prog 78 [.seq [.int .i64 E,.int .i64 (bt b 3),.int .i64 F]] (.int .i64 i):=fun b r=>by
  rw[r]at j;exact⟨q b,by simpa using j⟩
 have y:az prog 78 [.seq [.int .i64 B,.int .i64 C,.int .i64 D]] (.int .i64 p):=by simpa using k5
 clear j q k5;refine aM nf NJ mix (by simp[f16]) ?_;simp[f16,ad];refine Go.al.e2 k1 ?_;simp[ad];refine Go.al.e2 k2 ?_;simp[ad];refine Go.al.e2 k3 ?_;simp[ad];refine Go.al.e2 k4 ?_;simp[ad];refine ep y (by simp;first|exact⟨rfl,rfl⟩|rfl) (by simp;first|exact⟨rfl,rfl⟩|rfl) ?_;simp[ad];refine⟨by repeat' first|rfl|apply ao,?_⟩
 by_cases a:p=0
 case neg=>simp[a,ad]
 simp[a,ad];refine Go.al.e1 (w a) ?_;simp[ad];refine Go.al.e2 x ?_;simp[ad]
 by_cases c:t.b7<1
 ·have d:¬1<=t.b7:=by omega
  obtain⟨f1,f2⟩:=m true (by simp[c]);simp[c,d,ad];refine Go.al.e2 f1 ?_;simp[c,d,ad];refine Go.al.e3 n ?_;simp[c,d,ad];refine ep f2 (by simp;first|exact⟨rfl,rfl⟩|rfl) (by simp;first|exact⟨rfl,rfl⟩|rfl) ?_;simp[c,d,ad];refine⟨by repeat' first|rfl|apply ao,?_⟩
  by_cases e:i=0
  case neg=>simp[a,e,ad]
  simp[a,e,ad];refine Go.al.c3 (o a) ?_;simp[a,e,ad]
 have d:1<=t.b7:=by omega
 by_cases f:1000<t.b7
 ·have g:¬t.b7<=1000:=by omega
  obtain⟨f1,f2⟩:=m true (by simp[c,f]);simp[c,d,f,g,ad];refine Go.al.e2 f1 ?_;simp[c,d,f,g,ad];refine Go.al.e3 n ?_;simp[c,d,f,g,ad];refine ep f2 (by simp;first|exact⟨rfl,rfl⟩|rfl) (by simp;first|exact⟨rfl,rfl⟩|rfl) ?_;simp[c,d,f,g,ad];refine⟨by repeat' first|rfl|apply ao,?_⟩
  by_cases e:i=0
  case neg=>simp[a,e,ad]
  simp[a,e,ad];refine Go.al.c3 (o a) ?_;simp[a,e,ad]
 ·have g:t.b7<=1000:=by omega
  obtain⟨f1,f2⟩:=m false (by simp[c,f]);simp[c,d,f,g,ad];refine Go.al.e2 f1 ?_;simp[c,d,f,g,ad];refine Go.al.e3 n ?_;simp[c,d,f,g,ad];refine ep f2 (by simp;first|exact⟨rfl,rfl⟩|rfl) (by simp;first|exact⟨rfl,rfl⟩|rfl) ?_;simp[c,d,f,g,ad];refine⟨by repeat' first|rfl|apply ao,?_⟩
  by_cases e:i=0
  case neg=>simp[a,e,ad]
  simp[a,e,ad];refine Go.al.c3 (o a) ?_;simp[a,e,ad]
def aw.de(t:aw)(i:Nat):NV:=(cm (t.at (t.nx i))).sub (cm (t.at i))
theorem aw.rq(t:aw)(i:Nat):(t.de i).q=t.dW i:=by rw[aw.de,NV.lD];rfl
def NS.add(s t:NS):NS:=⟨s.a.add t.a,s.b.add t.b,s.d⟩
def NS.neg(s:NS):NS:=⟨s.a.neg,s.b.neg,s.d⟩
def NS.times(s:NS)(k:NF):NS:=⟨s.a.mul k,s.b.mul k,s.d⟩
def NB.fj(n:NB)(e:NV):NS:=⟨e.fj n.a,e.fj n.b,n.d⟩
def NS.plain(a d:NF):NS:=⟨a,.int 0,d⟩
def NS.norm(s:NS):NF:=(s.a.mul s.a).sub ((s.b.mul s.b).mul s.d)
open Classical in
noncomputable def NS.under(s:NS)(k:NF):NS:=if s.norm.q=0 then .plain (k.div (s.a.add s.a)) s.d else⟨(k.mul s.a).div s.norm,(k.mul s.b).neg.div s.norm,s.d⟩
theorem Dk.mono{k l:Nat}{s:NS}(h:Dk k s)(a:k<=l):Dk l s:=⟨h.1.mono a,h.2.1.mono a,h.2.2.mono a⟩
def aw.pos(t:aw)(n:NB)(i:Nat):Bool:=decide (0<sgS ((n.fj (t.de i)).neg).q)
def iZ(t:aw)(p:fy):Int:=bN [er t,dA p]
theorem tE{t:aw}(h:er t=0):3<=t.cs.length/\t.cs.length<=12/\(∀p∈t.cs,eH p)/\t.dS=true:=by
 rw[DY]at h
 by_cases d:lO t=0
 ·rw[if_pos d]at h
  by_cases e:o7 t=0
  ·obtain⟨a,b,c⟩:=DS d;refine⟨a,b,c,?_⟩;rw[o7,kY]at e;have f:=e (bt (!t.dS) 15) (by simp);cases hc:t.dS
   ·rw[hc]at f;simp[bt]at f
   ·rfl
  ·rw[if_neg e]at h;exact(e h).elim
 ·rw[if_neg d]at h;exact(d h).elim
theorem DW{t:aw}{p:fy}(h:iZ t p=0):er t=0/\dA p=0:=by
 rw[iZ,kY]at h;exact⟨h _ (by simp),h _ (by simp)⟩
def zF:PV:=.st 41 [.str [],.str []]
theorem lN(s:List Nat)(n:Int):az prog 59 [.str s,.int .i64 n] (.bool (decide ((s.length:Int)<=n))):=by
 refine aM nf N5 mix (by simp[f59]) ?_;simp[f59]
def jb(p:dG):Bool:=decide (p.name.length<=40)&&(decide (p.a.length<=40)&&decide (p.b.length<=40))
def gI(s:dN):Bool:=decide (s.name.length<=40)&&(decide (s.pt.x.length<=40)&&decide (s.pt.y.length<=40))
def mA(t:aw):Bool:=!(decide (14<t.cs.length)||(decide (14<t.ba.length)||((decide (8<t.aC.length)&&decide (t.aC.length<=256))||decide (258<t.aC.length))))&&(t.ba.all jb&&t.aC.all gI)
theorem nF{α:Type}{f:α->Bool}{l:List α}{i:Nat}{x:α}(h:l[i]?=some x):(l.take (i+1)).all f=((l.take i).all f&&f x):=by
 rw[b1,h];simp
theorem iA{α:Type}{f:α->Bool}{l:List α}{i:Nat}{x:α}(h:l[i]?=some x)(hf:f x=false):l.all f=false:=by
 cases a:l.all f
 ·rfl
 ·rw[List.all_eq_true]at a;rw[a x (bb h)]at hf;cases hf
theorem P1(t:aw)(B:t.cs.length<=1000000)(C:t.ba.length<=1000000)(D:t.aC.length<=1000000):az prog 11 [cN t] (.bool (mA t)):=by
 refine aM nf ND mix (by simp[f11]) ?_;have s:mA t=(!(decide (14<t.cs.length)||(decide (14<t.ba.length)||((decide (8<t.aC.length)&&decide (t.aC.length<=256))||decide (258<t.aC.length))))&&(t.ba.all jb&&t.aC.all gI)):=rfl
 by_cases c1:14<t.cs.length
 ·have q:(14:Int)<t.cs.length:=by omega
  have o:mA t=false:=by rw[s];simp[c1]
  simp[f11,ad,q,o]
 have q:¬(14:Int)<t.cs.length:=by omega
 by_cases c2:14<t.ba.length
 ·have r:(14:Int)<t.ba.length:=by omega
  have o:mA t=false:=by rw[s];simp[c2]
  simp[f11,ad,q,r,o]
 have r:¬(14:Int)<t.ba.length:=by omega
 have tail:(8<t.aC.length->¬t.aC.length<=256)->¬258<t.aC.length->mA t=(t.ba.all jb&&t.aC.all gI):=fun A z=>by
  rw[s]
  by_cases h:8<t.aC.length
  ·have:=A h;simp[c1,c2,h,this,z]
  ·simp[c1,c2,h,z]
 by_cases c3:8<t.aC.length
 ·have u:(8:Int)<t.aC.length:=by omega
  by_cases c4:t.aC.length<=256
  ·have w:(t.aC.length:Int)<=256:=by omega
   have o:mA t=false:=by rw[s];simp[c3,c4]
   simp[f11,ad,q,r,u,w,o]
  ·have w:¬(t.aC.length:Int)<=256:=by omega
   by_cases c5:258<t.aC.length
   ·have v:(258:Int)<t.aC.length:=by omega
    have o:mA t=false:=by rw[s];simp[c5]
    simp[f11,ad,q,r,u,w,v,o]
   ·have v:¬(258:Int)<t.aC.length:=by omega
    rw[tail (fun _=>c4) c5];simp[f11,ad,q,r,u,w,v];refine lp (α:=Nat) (fun i=>⟨[(3,.p (.int .i64 i)),(1,.ptr 0 [])],[.box false (.p (cN t))]⟩) (fun i=>i<=t.ba.length/\(t.ba.take i).all jb=true) (fun i=>t.ba.length-i) 0 (by simp) ?_;rintro i ⟨k1,k2⟩
    by_cases hi:i<t.ba.length
    ·have c:=aw.kz hi;have n:=cH (i:=i) (by omega);have f:=lN (t.pk i).a 40;have j:=lN (t.pk i).b 40;have g:jb (t.pk i)=(decide ((t.pk i).name.length<=40)&&(decide ((t.pk i).a.length<=40)&&decide ((t.pk i).b.length<=40))):=rfl
     by_cases m:(t.pk i).name.length<=40
     ·have d:¬(40:Int)<(t.pk i).name.length:=by omega
      by_cases a2:(t.pk i).a.length<=40
      ·have k:((t.pk i).a.length:Int)<=40:=by omega
       rw[decide_eq_true k]at f
       by_cases a3:(t.pk i).b.length<=40
       ·have l:((t.pk i).b.length:Int)<=40:=by omega
        rw[decide_eq_true l]at j;have e:jb (t.pk i)=true:=by rw[g];simp[m,a2,a3]
        simp[hi,c,d,ad];refine Go.al.c2 f ?_;simp[hi,c,d,ad];refine Go.al.c2 j ?_;simp[hi,c,d,n,ad];exact rd (i+1) ⟨hi,by rw[nF c,k2,e];rfl⟩
       ·have l:¬((t.pk i).b.length:Int)<=40:=by omega
        rw[decide_eq_false l]at j;have e:jb (t.pk i)=false:=by rw[g];simp[a3]
        rw[iA c e];simp[hi,c,d,ad];refine Go.al.c2 f ?_;simp[hi,c,d,ad];refine Go.al.c2 j ?_;simp[hi,c,d,n,ad]
      ·have k:¬((t.pk i).a.length:Int)<=40:=by omega
       rw[decide_eq_false k]at f;have e:jb (t.pk i)=false:=by rw[g];simp[a2]
       rw[iA c e];simp[hi,c,d,ad];refine Go.al.c2 f ?_;simp[hi,c,d,ad]
     ·have d:(40:Int)<(t.pk i).name.length:=by omega
      have e:jb (t.pk i)=false:=by rw[g];simp[m]
      rw[iA c e];simp[hi,c,d,ad]
    have:i=t.ba.length:=by omega
    subst this;rw[bl]at k2;rw[k2,ay];simp[ad];refine lp (α:=Nat) (fun i=>⟨[(4,.p (.int .i64 i)),(1,.ptr 0 [])],[.box false (.p (cN t))]⟩) (fun i=>i<=t.aC.length/\(t.aC.take i).all gI=true) (fun i=>t.aC.length-i) 0 (by simp) ?_;rintro i ⟨k1,k2⟩
    by_cases hi:i<t.aC.length
    ·have c:=aw.gH hi;have n:=cH (i:=i) (by omega);have f:=lN (t.sp i).pt.x 40;have j:=lN (t.sp i).pt.y 40;have g:gI (t.sp i)=(decide ((t.sp i).name.length<=40)&&(decide ((t.sp i).pt.x.length<=40)&&decide ((t.sp i).pt.y.length<=40))):=rfl
     by_cases m:(t.sp i).name.length<=40
     ·have d:¬(40:Int)<(t.sp i).name.length:=by omega
      by_cases a2:(t.sp i).pt.x.length<=40
      ·have k:((t.sp i).pt.x.length:Int)<=40:=by omega
       rw[decide_eq_true k]at f
       by_cases a3:(t.sp i).pt.y.length<=40
       ·have l:((t.sp i).pt.y.length:Int)<=40:=by omega
        rw[decide_eq_true l]at j;have e:gI (t.sp i)=true:=by rw[g];simp[m,a2,a3]
        simp[hi,c,d,ad];refine Go.al.c2 f ?_;simp[hi,c,d,ad];refine Go.al.c2 j ?_;simp[hi,c,d,n,ad];exact rd (i+1) ⟨hi,by rw[nF c,k2,e];rfl⟩
       ·have l:¬((t.sp i).pt.y.length:Int)<=40:=by omega
        rw[decide_eq_false l]at j;have e:gI (t.sp i)=false:=by rw[g];simp[a3]
        rw[iA c e];simp[hi,c,d,ad];refine Go.al.c2 f ?_;simp[hi,c,d,ad];refine Go.al.c2 j ?_;simp[hi,c,d,n,ad]
      ·have k:¬((t.sp i).pt.x.length:Int)<=40:=by omega
       rw[decide_eq_false k]at f;have e:gI (t.sp i)=false:=by rw[g];simp[a2]
       rw[iA c e];simp[hi,c,d,ad];refine Go.al.c2 f ?_;simp[hi,c,d,ad]
     ·have d:(40:Int)<(t.sp i).name.length:=by omega
      have e:gI (t.sp i)=false:=by rw[g];simp[m]
      rw[iA c e];simp[hi,c,d,ad]
    have:i=t.aC.length:=by omega
    subst this;rw[bl]at k2;rw[k2];simp[ad]
 ·have u:¬(8:Int)<t.aC.length:=by omega
  have v:¬(258:Int)<t.aC.length:=by omega
  rw[tail (fun h=>absurd h c3) (by omega)];simp[f11,ad,q,r,u,v];refine lp (α:=Nat) (fun i=>⟨[(3,.p (.int .i64 i)),(1,.ptr 0 [])],[.box false (.p (cN t))]⟩) (fun i=>i<=t.ba.length/\(t.ba.take i).all jb=true) (fun i=>t.ba.length-i) 0 (by simp) ?_;rintro i ⟨k1,k2⟩
  by_cases hi:i<t.ba.length
  ·have c:=aw.kz hi;have n:=cH (i:=i) (by omega);have f:=lN (t.pk i).a 40;have j:=lN (t.pk i).b 40;have g:jb (t.pk i)=(decide ((t.pk i).name.length<=40)&&(decide ((t.pk i).a.length<=40)&&decide ((t.pk i).b.length<=40))):=rfl
   by_cases m:(t.pk i).name.length<=40
   ·have d:¬(40:Int)<(t.pk i).name.length:=by omega
    by_cases a2:(t.pk i).a.length<=40
    ·have k:((t.pk i).a.length:Int)<=40:=by omega
     rw[decide_eq_true k]at f
     by_cases a3:(t.pk i).b.length<=40
     ·have l:((t.pk i).b.length:Int)<=40:=by omega
      rw[decide_eq_true l]at j;have e:jb (t.pk i)=true:=by rw[g];simp[m,a2,a3]
      simp[hi,c,d,ad];refine Go.al.c2 f ?_;simp[hi,c,d,ad];refine Go.al.c2 j ?_;simp[hi,c,d,n,ad];exact rd (i+1) ⟨hi,by rw[nF c,k2,e];rfl⟩
     ·have l:¬((t.pk i).b.length:Int)<=40:=by omega
      rw[decide_eq_false l]at j;have e:jb (t.pk i)=false:=by rw[g];simp[a3]
      rw[iA c e];simp[hi,c,d,ad];refine Go.al.c2 f ?_;simp[hi,c,d,ad];refine Go.al.c2 j ?_;simp[hi,c,d,n,ad]
    ·have k:¬((t.pk i).a.length:Int)<=40:=by omega
     rw[decide_eq_false k]at f;have e:jb (t.pk i)=false:=by rw[g];simp[a2]
     rw[iA c e];simp[hi,c,d,ad];refine Go.al.c2 f ?_;simp[hi,c,d,ad]
   ·have d:(40:Int)<(t.pk i).name.length:=by omega
    have e:jb (t.pk i)=false:=by rw[g];simp[m]
    rw[iA c e];simp[hi,c,d,ad]
  have:i=t.ba.length:=by omega
  subst this;rw[bl]at k2;rw[k2,ay];simp[ad];refine lp (α:=Nat) (fun i=>⟨[(4,.p (.int .i64 i)),(1,.ptr 0 [])],[.box false (.p (cN t))]⟩) (fun i=>i<=t.aC.length/\(t.aC.take i).all gI=true) (fun i=>t.aC.length-i) 0 (by simp) ?_;rintro i ⟨k1,k2⟩
  by_cases hi:i<t.aC.length
  ·have c:=aw.gH hi;have n:=cH (i:=i) (by omega);have f:=lN (t.sp i).pt.x 40;have j:=lN (t.sp i).pt.y 40;have g:gI (t.sp i)=(decide ((t.sp i).name.length<=40)&&(decide ((t.sp i).pt.x.length<=40)&&decide ((t.sp i).pt.y.length<=40))):=rfl
   by_cases m:(t.sp i).name.length<=40
   ·have d:¬(40:Int)<(t.sp i).name.length:=by omega
    by_cases a2:(t.sp i).pt.x.length<=40
    ·have k:((t.sp i).pt.x.length:Int)<=40:=by omega
     rw[decide_eq_true k]at f
     by_cases a3:(t.sp i).pt.y.length<=40
     ·have l:((t.sp i).pt.y.length:Int)<=40:=by omega
      rw[decide_eq_true l]at j;have e:gI (t.sp i)=true:=by rw[g];simp[m,a2,a3]
      simp[hi,c,d,ad];refine Go.al.c2 f ?_;simp[hi,c,d,ad];refine Go.al.c2 j ?_;simp[hi,c,d,n,ad];exact rd (i+1) ⟨hi,by rw[nF c,k2,e];rfl⟩
     ·have l:¬((t.sp i).pt.y.length:Int)<=40:=by omega
      rw[decide_eq_false l]at j;have e:gI (t.sp i)=false:=by rw[g];simp[a3]
      rw[iA c e];simp[hi,c,d,ad];refine Go.al.c2 f ?_;simp[hi,c,d,ad];refine Go.al.c2 j ?_;simp[hi,c,d,n,ad]
    ·have k:¬((t.sp i).pt.x.length:Int)<=40:=by omega
     rw[decide_eq_false k]at f;have e:gI (t.sp i)=false:=by rw[g];simp[a2]
     rw[iA c e];simp[hi,c,d,ad];refine Go.al.c2 f ?_;simp[hi,c,d,ad]
   ·have d:(40:Int)<(t.sp i).name.length:=by omega
    have e:gI (t.sp i)=false:=by rw[g];simp[m]
    rw[iA c e];simp[hi,c,d,ad]
  have:i=t.aC.length:=by omega
  subst this;rw[bl]at k2;rw[k2];simp[ad]
end Go.al
