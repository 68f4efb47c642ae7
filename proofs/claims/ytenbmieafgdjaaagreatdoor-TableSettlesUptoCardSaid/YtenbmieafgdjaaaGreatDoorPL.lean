import Derived.Test.YtenbmieafgdjaaaGreatDoorPK
import Derived.Test.YtenbmieafgdjaaaGreatDoorPH
import Derived.Test.YtenbmieafgdjaaaGreatDoorThE
/- Parts of a proof. -/
set_option linter.unusedSimpArgs false
set_option linter.unusedVariables false
set_option linter.unusedSectionVars false
open Go.Proofs.Tryz
open And renaming intro->an
open Bool renaming and_eq_true->ao, cond_eq_ite->ap, eq_iff_iff->ar, true_and->av
open Go renaming FuncId->ax
open Go.Builtin renaming zeroCells->ay
open Go.IntKind renaming i64->aT
open Go.Lib renaming countByte->a0, compareBytes->a1, join->a4
open Int renaming tmod_eq_emod_of_nonneg->a5, natCast_emod->a6
open List renaming replicate->a7, mem_of_getElem?->a8, drop_eq_getElem_cons->a9, map_cons->bb, getElem?_eq_some_iff->be, take_length->bi, length_take->bk, length_eq_zero_iff->bl, mem_iff_getElem->bo, take_add_one->bv, getElem_take->b0, map_take->b1, range->b2
open Nat renaming eq_of_beq_eq_true->b3, beq->b4, le_of_ble_eq_true->b5, le_refl->cb, lt_trichotomy->cc, blt->ce, ble->ck, le_trans->cv, blt_eq->cx
open Option renaming ite_none_right_eq_some->cy
open Option.some renaming injEq->cA
open Prod.mk renaming injEq->cB
namespace Go.au
open Go.Proofs
set_option maxHeartbeats 4000000
set_option maxRecDepth 100000
def lT(a:List Nat):List (List Nat)->List Nat
 |[]=>[]
 |[s]=>s
 |s::r=>s++a++lT a r
theorem G9(b:List UInt8):∀(c:List (List UInt8)),lT (c7 b) (c.map c7)=c7 (a4 c b)
 |[]=>by simp[lT,Lib.join_nil,c7]
 |[x]=>by simp[lT,Lib.join_one]
 |x::y::r=>by
  have a:=G9 b (y::r);rw[Lib.join_cons]at a⊢;simp only[bb]at a⊢;rw[lT,a]
  ·simp[c7,Lib.joinTail]
  ·simp
theorem HB{w:World}{aa:Nat->Prop}:∀{l:List (List Nat)}{e:List Nat}{a:List (List Value)},bg prog w aa e (l.map .str) a->
 ∃d:List ByteArray,a.flatten=d.map .string/\l=d.map (fun b=>c7 b.data.toList)
 |[],e,a,h=>by
  have:=vC h;subst this;exact⟨[],by simp,by simp⟩
 |s::l,[],a,h=>by simp[bg]at h
 |s::l,n::e,a,h=>by
  simp only[bb,bg,aR]at h;obtain⟨c,cs,rfl,⟨bs,rfl,f⟩,_,g⟩:=h;obtain⟨d,g1,g2⟩:=HB g;exact⟨bs::d,by simp[g1],by simp[g2,f,c7]⟩
theorem Zw(full:Bool)(l:List (List Nat))(d:List Nat)(F:l.length<=140737488355328)(k:(lT d l).length<=140737488355328):aC prog 227 [.bP full (l.map .str),.str d] (.str (lT d l)):=by
 refine jN (iX func227 (by kernel_rfl)) fun w aa B t E s=>?_;obtain⟨x,y,rfl,f,g⟩:=mN s;simp only[aD]at f g;obtain⟨sp,rfl,rfl⟩:=g;obtain⟨al,off,cap,ai,C,p,q,h,D,i,o,A,rfl⟩:=f;obtain⟨xs,g1,g2⟩:=HB p;have b:(l.map PV.str).length=xs.length:=by rw[g2];simp
 cases c:xs with
 |nil=>
  subst c;have v:l=[]:=by simpa using g2
  subst v;refine(strings_Join_none (some ⟨al,off,o⟩) cap sp w).mono ?_;rintro e w' ⟨rfl,rfl⟩;exact⟨_,rfl,⟨cb _,fun _ _=>rfl,rfl,rfl⟩,fun w aa=>by simpa[lT,c7]using uh (P:=prog) (w:=w) (aa:=aa) []⟩
 |cons G r=>
  have z:l.map PV.str≠[]:=by rw[g2,c];simp
  obtain rfl:o=none:=A.resolve_right (by rw[b,c]at i;simp at i;omega);have m:=G9 sp.data.toList (xs.map (·.data.toList))
  have e2:(xs.map (·.data.toList)).map c7=l:=by rw[g2];simp
  rw[e2]at m;have n:lT (sp.data.toList.map (·.toNat)) l=c7 (a4 (xs.map (·.data.toList)) sp.data.toList):=m
  rw[b];refine(strings_Join al off cap xs sp w (fun j x hx=>?_) (t _ (q z)) (by simp at b;omega) (by omega) ?_).mono ?_
  ·have u:j<xs.length:=(be.1 hx).1;rw[g1]at h;have:=h j (by simpa using u);rw[this];simp[(be.1 hx).2]
  ·rw[n]at k;simpa[c7]using k
  ·rintro e w' ⟨rfl,a⟩;exact⟨_,rfl,⟨a.size,a.block,a.os,a.output⟩,fun w aa=>by rw[n];exact uh _⟩
def sn(c:Nat):List Nat->Nat->Nat
 |[],n=>n
 |x::r,n=>bif b4 x c then sn c r (n+1)else sn c r n
theorem Hx(c:UInt8):∀(l:List UInt8)(n:Nat),sn c.toNat (c7 l) n=n+a0 l c
 |[],n=>by simp[sn,c7,a0]
 |x::r,n=>by
  have a:=Hx c r;simp only[c7]at a;simp only[c7,bb,sn,a0,List.count_cons]
  by_cases hx:x=c
  ·subst hx;simp[a,a0];omega
  ·have d:b4 x.toNat c.toNat=false:=by
    cases b:b4 x.toNat c.toNat
    ·rfl
    ·exact(hx (UInt8.toNat_inj.1 (b3 b))).elim
   simp[d,a,a0,hx]
theorem Zr(s:List Nat)(c:Nat):aC prog 328 [.str s,.str [c]] (.int .i64 (sn c s 0:Nat)):=by
 refine jN (iX func328 (by kernel_rfl)) fun w aa g _ _ f=>?_;obtain⟨x,y,rfl,a,d⟩:=mN f;obtain⟨b,rfl,rfl⟩:=one_byte d;obtain⟨bs,rfl,rfl⟩:=mY a;refine(strings_Count_one bs b w).mono ?_;rintro e w' ⟨rfl,rfl⟩;refine⟨_,rfl,⟨cb _,fun _ _=>rfl,rfl,rfl⟩,fun w aa=>?_⟩;have e1:=Hx b bs.data.toList 0;simp only[aD]at e1⊢;rw[e1];simp
def xq:List Nat->List Nat->Int
 |[],[]=>0
 |[],_::_=>-1
 |_::_,[]=>1
 |a::r,b::t=>bif ce a b then -1 else bif ce b a then 1 else xq r t
theorem Hy:∀a b:List UInt8,xq (c7 a) (c7 b)=a1 a b
 |[],[]=>rfl
 |[],_::_=>rfl
 |_::_,[]=>rfl
 |a::r,b::t=>by
  have e:=Hy r t;simp only[c7,bb,xq,a1]at e⊢;have e1:ce a.toNat b.toNat=decide (a<b):=by
   rw[ar,cx,decide_eq_true_eq,UInt8.lt_iff_toNat_lt]
  have e2:ce b.toNat a.toNat=decide (b<a):=by
   rw[ar,cx,decide_eq_true_eq,UInt8.lt_iff_toNat_lt]
  rw[e1,e2,e]
  by_cases c:a<b
  ·simp[c]
  ·by_cases d:b<a
   ·simp[c,d]
   ·simp[c,d]
theorem Zq(a b:List Nat):aC prog 218 [.str a,.str b] (.int .i64 (xq a b)):=by
 refine jN (iX func218 (by kernel_rfl)) fun w aa g _ _ f=>?_;obtain⟨x,y,rfl,c,d⟩:=mN f;obtain⟨bs,rfl,rfl⟩:=mY c;obtain⟨cs,rfl,rfl⟩:=mY d;refine(strings_Compare bs cs w).mono ?_;rintro e w' ⟨rfl,rfl⟩;exact⟨_,rfl,⟨cb _,fun _ _=>rfl,rfl,rfl⟩,fun w aa=>by rw[Hy];simp only[aD]⟩
def sR:PV:=.st 60 [.int .i64 0,.int .i64 0]
theorem asS{H:Heap}(n:Nat)(N:1<=n)(O:n<=1000000):cw prog 263 H [.p .aP,.p (.int .i64 n)] (H++[.arr .grow 0 2 (a7 n (.p sR))]) (.sl H.length 0 2 0 0):=by
 refine⟨iX func263 (by kernel_rfl),fun w aa ah β K l g Q=>?_⟩;simp only[bB,aB,aD]at g;obtain⟨_,_,rfl,rfl,_,_,rfl,rfl,rfl⟩:=g;obtain⟨i,c,hi,G,q,_⟩:=pf (P:=prog) (T:=61) (z:=sR) (by kernel_rfl);have hs:i.size=2:=by
  have:(prog.info? 61).map (·.size)=some 2:=by kernel_rfl
  rw[hi]at this;simpa using this
 have y:i.bytes=16:=by
  have:(prog.info? 61).map (·.bytes)=some 16:=by kernel_rfl
  rw[hi]at this;simpa using this
 have r:c.cells.size=2:=by
  have:=(nO (q w aa)).1;have e:bI prog (aL sR)=2:=by kernel_rfl
  rw[e]at this;simpa using this
 have j:=Any8.slices_Grow_grow aup i c hi G (by omega) none 0 0 n [] w (cb _) (by omega) (by rw[y];omega) (by omega) (by simp) (fun _=>rfl) (fun a h=>by cases h);rw[show Hc.t 25=61 from rfl,Nat.zero_add]at j;refine j.mono ?_;rintro e w' ⟨rfl,rfl⟩;have D:=l.nr 1;have E:bS prog w.drew aa β (H++a7 1 .hole) ah:=bS.v7 (w:=w) (w':=w.drew) rfl D;have u:(H++a7 1 Obj.hole)[H.length]?=some .hole:=by simp
 have A:n<=grownCap w n 0 61:=by simp[grownCap,Question.cut]
 have o:=vH (β:=β) (H:=H++a7 1 .hole) (q w.drew aa) n;rw[show c.cells.toList.length=2 by simpa using r]at o;have I:∀m,(ay c.cells m).toList=(a7 m c.cells.toList).flatten:=fun m=>yH c.cells m (by omega);obtain⟨q1,s⟩:=yP (T:=61) (k:=.grow) (ai:=2) (cap:=grownCap w n 0 61) E u
  (cells:=([]:List Value).toArray++ay c.cells (n-0)++ay c.cells (grownCap w n 0 61-n))
  (rest:=(ay c.cells (grownCap w n 0 61-n)).toList)
  (by simp) (fun h=>by have:=h.2;rw[<-bl]at this;simp at this;omega) o
  (by rw[cL];intro v F;rw[List.eq_of_mem_replicate F];simp[aE])
  (by simp[I]) (by simp only[Array.size_append,JC,r];simp;omega) (by simpa using A) (fun h=>by cases h) (fun h=>by cases h)
 rw[DE]at q1 s;have aH:=pc β H 1;have J:bY prog ah aa w β H aa w β (H++a7 1 .hole):=⟨fun _ x=>x,fun _ x=>.inl x,Ext.refl _ _ _,aH,l.nr _,mM _ _,fun b⟨L,f⟩=>⟨L,by rw[ka,if_pos (be.1 f).1];exact f⟩⟩
 refine⟨_,_,aa,rfl,J.trans (bY.drew (w1:=w.drew) rfl ⟨rfl,rfl⟩ q1),?_,?_⟩
 ·simp only[aB,bO,bU]at s⊢;refine⟨rfl,fun k M d=>?_⟩;have B:(H++[Obj.arr .grow 0 2 (a7 n (.p sR))])[H.length]?=some (.arr .grow 0 2 (a7 n (.p sR))):=by simp
  unfold eX at d;rw[B]at d;cases d;exact⟨by omega,fun C=>by have:=C.2;rw[<-bl]at this;simp at this;omega,fun _=>by simp[Bd.at]⟩
 ·simp only[aE];exact⟨.arr .grow 0 2 (a7 n (.p sR)),by simp,cb _⟩
namespace gl
def vw:List PV->Option (List (List Nat))
 |[]=>some []
 | .str s::r=>match vw r with
  |some l=>some (s::l)
  |none=>none
 |_=>none
theorem HI:∀{l:List PV}{a:List (List Nat)},vw l=some a->l=a.map .str
 |[],a,h=>by simp[vw]at h;subst h;rfl
 |v::r,a,h=>by
  cases v<;>simp only[vw]at h<;>try (cases h;done)
  split at h
  ·rename_i l b;simp only[cA]at h;subst h;rw[HI b];rfl
  ·cases h
def EJ(f:ax)(vs:List PV):Option PV:=
 bif b4 f 227 then match vs with
  |[.bP _ l,.str sep]=>match vw l with
   |some d=>bif ck d.length 1000&&ck (lT sep d).length 100000 then some (.str (lT sep d))else none
   |none=>none
  |_=>none
 else bif b4 f 328 then match vs with
  |[.str s,.str [c]]=>some (.int .i64 (sn c s 0:Nat))
  |_=>none
 else bif b4 f 317 then match vs with
  |[.str s,.str [c]]=>some (.int .i64 (nw c s 0))
  |_=>none
 else bif b4 f 218 then match vs with
  |[.str a,.str b]=>some (.int .i64 (xq a b))
  |_=>none
 else bif b4 f 152 then match vs with
  |[.int .i64 n]=>bif Hk.oQ n then some (.str (bL n))else none
  |_=>none
 else none
theorem avK{f:ax}{vs:List PV}{v:PV}(h:EJ f vs=some v):aC prog f vs v:=by
 unfold EJ at h;simp only[ap]at h
 split at h
 ·rename_i hf;rw[b3 hf]
  split at h
  ·split at h
   ·rename_i a hs;simp only[cy,cA,ao]at h;obtain⟨⟨g1,g2⟩,rfl⟩:=h;rw[HI hs];exact Zw _ _ _ (cv (b5 g1) (by decide)) (cv (b5 g2) (by decide))
   ·cases h
  ·cases h
 split at h
 ·rename_i hf;rw[b3 hf]
  split at h
  ·simp only[cA]at h;subst h;exact Zr _ _
  ·cases h
 split at h
 ·rename_i hf;rw[b3 hf]
  split at h
  ·simp only[cA]at h;subst h;exact Ig _ _
  ·cases h
 split at h
 ·rename_i hf;rw[b3 hf]
  split at h
  ·simp only[cA]at h;subst h;exact Zq _ _
  ·cases h
 split at h
 ·rename_i hf;rw[b3 hf]
  split at h
  ·simp only[cy,cA]at h;obtain⟨g1,rfl⟩:=h;have:=Hk.zO.1 g1;exact Ie _ (by omega) (by omega)
  ·cases h
 ·cases h
def xB(f:ax)(args:List AV)(H:Heap):Option (AV×Heap):=
 bif b4 f 226 then match args with
  |[.ptr b []]=>match H[b]? with
   |some (.box false (.p (.st u [.dM,x])))=>bif b4 u 226 then some (.p (.aG []),H.set b (.box false (.st 226 [.ptr b [],.p x])))else none
   |some (.box false (.st u [.p .dM,x]))=>bif b4 u 226 then some (.p (.aG []),H.set b (.box false (.st 226 [.ptr b [],x])))else none
   |some (.box false (.st u [.ptr b' [],_]))=>bif b4 u 226&&b4 b' b then some (.p (.aG []),H)else none
   |_=>none
  |_=>none
 else bif b4 f 263 then match args with
  |[.p .aP,.p (.int .i64 (.ofNat n))]=>bif ck 1 n&&ck n 1000000 then some (.sl H.length 0 2 0 0,H++[.arr .grow 0 2 (a7 n (.p sR))])else none
  |_=>none
 else none
theorem auN{f:ax}{args:List AV}{H H':Heap}{v:AV}(h:xB f args H=some (v,H')):cw prog f H args H' v:=by
 unfold xB at h;simp only[ap]at h
 split at h
 ·rename_i hf;rw[b3 hf]
  split at h
  case h_2=>cases h
  split at h
  ·rename_i a;simp only[cy,cA,cB]at h;obtain⟨b,rfl,rfl⟩:=h;rw[b3 b]at a;exact EG a (.inl rfl)
  ·rename_i a;simp only[cy,cA,cB]at h;obtain⟨b,rfl,rfl⟩:=h;rw[b3 b]at a;exact EG a (.inr rfl)
  ·rename_i a;simp only[cy,cA,cB,ao]at h;obtain⟨⟨b,c⟩,rfl,rfl⟩:=h;rw[b3 b,b3 c]at a;exact Qf a
  ·cases h
 split at h
 ·rename_i hf;rw[b3 hf]
  split at h
  ·simp only[cy,cA,cB,ao]at h;obtain⟨⟨b,c⟩,rfl,rfl⟩:=h;exact asS _ (b5 b) (b5 c)
  ·cases h
 ·cases h
def jW(_ f:ax):Nat:=
 bif b4 f 151 then 2
 else bif b4 f 235 then 3
 else bif b4 f 236 then 3
 else bif b4 f 237 then 3
 else bif b4 f 238 then 3
 else bif b4 f 263 then 1 else 0
def facts(l:List (ax×List PV×PV))(f:ax)(vs:List PV):Option PV:=match EJ f vs with
 |some v=>some v
 |none=>Hk.uu l f vs
noncomputable def vt(fs:ax->List PV->Option PV):mC:=⟨uG FF,fs,xB,jW,fun _ _ _=>none⟩
theorem Tt{l:List (ax×List PV×PV)}(a:Hk.lN l):mV prog (vt (facts l)):=by
 refine⟨mix,fun f fn hf=>DO HX hf,fun f vs v hk=>?_,fun f args H v H' hk=>auN hk,fun f args H ak v hk=>by simp only[vt]at hk;cases hk⟩;simp only[vt,facts]at hk
 split at hk
 ·rename_i h;simp only[cA]at hk;subst hk;exact avK h
 ·exact Hk.za a f vs v hk
noncomputable def runT(l:List (ax×List PV×PV))(f:ax)(vs:List PV):Option PV:=oO prog nf (vt (facts l)) (jQ prog nf (vt (facts l)) 20) f vs
theorem gp(l:List (ax×List PV×PV))(a:Hk.lN l){f:ax}{vs:List PV}{v:PV}(h:Hk.EP v (runT l f vs)=true):aC prog f vs v:=reckon 20 (Tt a) (Hk.HK h)
end gl
namespace Bg
def T:PV:=.st 37 [.bP true [.st 60 [.int .i64 0,.int .i64 0],.st 60 [.int .i64 2000,.int .i64 0],.st 60 [.int .i64 2000,.int .i64 1000],.st 60 [.int .i64 0,.int .i64 1000]],.int .i64 30,.bP true [.st 109 [.str [97],.int .i64 0,.str [48],.str [49,47,50,48]],.st 109 [.str [98],.int .i64 2,.str [49,57,47,50,48],.str [49]]],.bP true [.st 48 [.str [102,111,111,116],.st 46 [.str [49,53,48,48],.str [53,48,48]]],.st 48 [.str [104,101,97,100],.st 46 [.str [53,48,48],.str [53,48,48]]]]]
def B:PV:=.bP true [.st 48 [.str [99,117,101],.st 46 [.str [53,48,48],.str [53,48,48]]],.st 48 [.str [111,110,101],.st 46 [.str [49,53,48,48],.str [53,48,48]]],.st 48 [.str [116,119,111],.st 46 [.str [49,53,54,48],.str [53,48,48]]]]
def B1:PV:=.bP false [.st 48 [.str [99,117,101],.st 46 [.str [53,48,48],.str [53,48,48]]]]
def M:PV:=.st 37 [.bP false [.st 60 [.int .i64 0,.int .i64 0],.st 60 [.int .i64 0,.int .i64 1000],.st 60 [.int .i64 (-2000),.int .i64 1000],.st 60 [.int .i64 (-2000),.int .i64 0]],.int .i64 30,.bP false [.st 109 [.str [97],.int .i64 3,.str [49,57,47,50,48],.str [49]],.st 109 [.str [98],.int .i64 1,.str [48],.str [49,47,50,48]]],.bP false [.st 48 [.str [102,111,111,116],.st 46 [.str [45,49,53,48,48],.str [53,48,48]]],.st 48 [.str [104,101,97,100],.st 46 [.str [45,53,48,48],.str [53,48,48]]]]]
def k0:List (ax×List PV×PV):=[(277,[.str [51,48]],.aG [.int .i64 30,.ga])]
theorem vy:Hk.lN k0:=⟨Ih [51,48] 30 (by decide+kernel) (by decide),trivial⟩
theorem c0:aC prog 68 [T] (.int .i64 0):=gl.gp k0 vy (by kernel_rfl)
theorem c1:aC prog 36 [T,B] (.int .i64 0):=gl.gp k0 vy (by kernel_rfl)
theorem c2:aC prog 36 [T,B1] (.int .i64 0):=gl.gp k0 vy (by kernel_rfl)
theorem c3:aC prog 68 [M] (.int .i64 0):=gl.gp k0 vy (by kernel_rfl)
def k1:List (ax×List PV×PV):=[(68,[T],.int .i64 0),(36,[T,B],.int .i64 0),(36,[T,B1],.int .i64 0),(68,[M],.int .i64 0)]++k0
theorem iN:Hk.lN k1:=Hk.Cd (l:=[(68,[T],.int .i64 0),(36,[T,B],.int .i64 0),(36,[T,B1],.int .i64 0),(68,[M],.int .i64 0)]) ⟨c0,c1,c2,c3,trivial⟩ vy
theorem d0:aC prog 23 [T] (.aG [.str [50,48,48,48,48,48,48],.int .i64 0]):=gl.gp k1 iN (by kernel_rfl)
theorem d1:aC prog 57 [T,.int .i64 0,.str [49,47,52]] (.aG [.st 46 [.str [53,48,48],.str [48]],.int .i64 0]):=gl.gp k1 iN (by kernel_rfl)
theorem d2:aC prog 62 [T,.st 46 [.str [50,48,48,48],.str [48]]] (.aG [.int .i64 0,.str [49],.int .i64 0]):=gl.gp k1 iN (by kernel_rfl)
theorem d3:aC prog 63 [T,.int .i64 0,.str [49,47,50,48]] (.aG [.str [97],.int .i64 0]):=gl.gp k1 iN (by kernel_rfl)
theorem d4:aC prog 63 [T,.int .i64 0,.str [49,47,49,48]] (.aG [.str [],.int .i64 7]):=gl.gp k1 iN (by kernel_rfl)
theorem d5:aC prog 34 [T,B,.st 46 [.str [49,52,52,48],.str [53,48,48]]] (.aG [.bool true,.int .i64 0]):=gl.gp k1 iN (by kernel_rfl)
theorem d6:aC prog 34 [T,B,.st 46 [.str [49,52,53,48],.str [53,48,48]]] (.aG [.bool false,.int .i64 0]):=gl.gp k1 iN (by kernel_rfl)
theorem d7:aC prog 29 [T,B,.str [102,111,111,116],.st 46 [.str [49,48],.str [48]]] (.aG [.st 46 [.str [49,54,50,48],.str [53,48,48]],.int .i64 0]):=gl.gp k1 iN (by kernel_rfl)
theorem d8:aC prog 64 [T,B] (.aG [.st 28 [.int .i64 1,.int .i64 2],.str [51,54,48,48],.int .i64 0]):=gl.gp k1 iN (by kernel_rfl)
theorem d9:aC prog 54 [T,B] (.aG [.bP false [.st 28 [.int .i64 1,.int .i64 2]],.int .i64 0]):=gl.gp k1 iN (by kernel_rfl)
theorem d10:aC prog 12 [T,.str [102,111,111,116],.str [116,114,105,97,110,103,108,101],.st 28 [.int .i64 2,.int .i64 0]] (.aG [.bP false [.st 46 [.str [49,53,48,48],.str [53,48,48]],.st 46 [.str [51,49,48,53,47,50],.str [52,55,48]],.st 46 [.str [51,49,48,53,47,50],.str [53,51,48]]],.int .i64 0]):=gl.gp k1 iN (by kernel_rfl)
theorem d11:aC prog 42 [T,.st 86 [.bool true,.int .i64 0,.st 60 [.int .i64 0,.int .i64 0]]] (.aG [.st 37 [.bP false [.st 60 [.int .i64 0,.int .i64 0],.st 60 [.int .i64 0,.int .i64 1000],.st 60 [.int .i64 (-2000),.int .i64 1000],.st 60 [.int .i64 (-2000),.int .i64 0]],.int .i64 30,.bP false [.st 109 [.str [97],.int .i64 3,.str [49,57,47,50,48],.str [49]],.st 109 [.str [98],.int .i64 1,.str [48],.str [49,47,50,48]]],.bP false [.st 48 [.str [102,111,111,116],.st 46 [.str [45,49,53,48,48],.str [53,48,48]]],.st 48 [.str [104,101,97,100],.st 46 [.str [45,53,48,48],.str [53,48,48]]]]],.int .i64 0]):=gl.gp k1 iN (by kernel_rfl)
theorem d12:aC prog 51 [M] (.aG [.st 37 [.bP false [.st 60 [.int .i64 (-2000),.int .i64 0],.st 60 [.int .i64 0,.int .i64 0],.st 60 [.int .i64 0,.int .i64 1000],.st 60 [.int .i64 (-2000),.int .i64 1000]],.int .i64 30,.bP false [.st 109 [.str [97],.int .i64 0,.str [49,57,47,50,48],.str [49]],.st 109 [.str [98],.int .i64 2,.str [48],.str [49,47,50,48]]],.bP false [.st 48 [.str [102,111,111,116],.st 46 [.str [45,49,53,48,48],.str [53,48,48]]],.st 48 [.str [104,101,97,100],.st 46 [.str [45,53,48,48],.str [53,48,48]]]]],.int .i64 0]):=gl.gp k1 iN (by kernel_rfl)
theorem d13:aC prog 43 [T,B,.st 86 [.bool false,.int .i64 1,.st 60 [.int .i64 0,.int .i64 0]]] (.aG [.bP false [.st 48 [.str [99,117,101],.st 46 [.str [45,53,48,48],.str [53,48,48]]],.st 48 [.str [111,110,101],.st 46 [.str [45,53,48,48],.str [49,53,48,48]]],.st 48 [.str [116,119,111],.st 46 [.str [45,53,48,48],.str [49,53,54,48]]]],.int .i64 0]):=gl.gp k1 iN (by kernel_rfl)
theorem d14:aC prog 65 [T] (.aG [.str [114,97,100,105,117,115,32,51,48,10,99,111,114,110,101,114,32,48,32,48,10,99,111,114,110,101,114,32,50,48,48,48,32,48,10,99,111,114,110,101,114,32,50,48,48,48,32,49,48,48,48,10,99,111,114,110,101,114,32,48,32,49,48,48,48,10,112,111,99,107,101,116,32,97,32,48,32,48,32,49,47,50,48,10,112,111,99,107,101,116,32,98,32,50,32,49,57,47,50,48,32,49,10,115,112,111,116,32,102,111,111,116,32,49,53,48,48,32,53,48,48,10,115,112,111,116,32,104,101,97,100,32,53,48,48,32,53,48,48,10],.int .i64 0]):=gl.gp k1 iN (by kernel_rfl)
theorem d15:aC prog 66 [.str [114,97,100,105,117,115,32,51,48,10,115,112,111,116,32,97,32,48,10]] (.aG [.st 37 [.aP,.int .i64 0,.aP,.aP],.int .i64 2,.int .i64 25]):=gl.gp k1 iN (by kernel_rfl)
theorem d16:aC prog 67 [T,B1] (.aG [.str [98,97,108,108,32,99,117,101,32,53,48,48,32,53,48,48,10],.int .i64 0]):=gl.gp k1 iN (by kernel_rfl)
def k2:List (ax×List PV×PV):=[(23,[T],.aG [.str [50,48,48,48,48,48,48],.int .i64 0]),(57,[T,.int .i64 0,.str [49,47,52]],.aG [.st 46 [.str [53,48,48],.str [48]],.int .i64 0]),(62,[T,.st 46 [.str [50,48,48,48],.str [48]]],.aG [.int .i64 0,.str [49],.int .i64 0]),(63,[T,.int .i64 0,.str [49,47,50,48]],.aG [.str [97],.int .i64 0]),(63,[T,.int .i64 0,.str [49,47,49,48]],.aG [.str [],.int .i64 7]),(34,[T,B,.st 46 [.str [49,52,52,48],.str [53,48,48]]],.aG [.bool true,.int .i64 0]),(34,[T,B,.st 46 [.str [49,52,53,48],.str [53,48,48]]],.aG [.bool false,.int .i64 0]),(29,[T,B,.str [102,111,111,116],.st 46 [.str [49,48],.str [48]]],.aG [.st 46 [.str [49,54,50,48],.str [53,48,48]],.int .i64 0]),(64,[T,B],.aG [.st 28 [.int .i64 1,.int .i64 2],.str [51,54,48,48],.int .i64 0]),(54,[T,B],.aG [.bP false [.st 28 [.int .i64 1,.int .i64 2]],.int .i64 0]),(12,[T,.str [102,111,111,116],.str [116,114,105,97,110,103,108,101],.st 28 [.int .i64 2,.int .i64 0]],.aG [.bP false [.st 46 [.str [49,53,48,48],.str [53,48,48]],.st 46 [.str [51,49,48,53,47,50],.str [52,55,48]],.st 46 [.str [51,49,48,53,47,50],.str [53,51,48]]],.int .i64 0]),(42,[T,.st 86 [.bool true,.int .i64 0,.st 60 [.int .i64 0,.int .i64 0]]],.aG [.st 37 [.bP false [.st 60 [.int .i64 0,.int .i64 0],.st 60 [.int .i64 0,.int .i64 1000],.st 60 [.int .i64 (-2000),.int .i64 1000],.st 60 [.int .i64 (-2000),.int .i64 0]],.int .i64 30,.bP false [.st 109 [.str [97],.int .i64 3,.str [49,57,47,50,48],.str [49]],.st 109 [.str [98],.int .i64 1,.str [48],.str [49,47,50,48]]],.bP false [.st 48 [.str [102,111,111,116],.st 46 [.str [45,49,53,48,48],.str [53,48,48]]],.st 48 [.str [104,101,97,100],.st 46 [.str [45,53,48,48],.str [53,48,48]]]]],.int .i64 0]),(51,[M],.aG [.st 37 [.bP false [.st 60 [.int .i64 (-2000),.int .i64 0],.st 60 [.int .i64 0,.int .i64 0],.st 60 [.int .i64 0,.int .i64 1000],.st 60 [.int .i64 (-2000),.int .i64 1000]],.int .i64 30,.bP false [.st 109 [.str [97],.int .i64 0,.str [49,57,47,50,48],.str [49]],.st 109 [.str [98],.int .i64 2,.str [48],.str [49,47,50,48]]],.bP false [.st 48 [.str [102,111,111,116],.st 46 [.str [45,49,53,48,48],.str [53,48,48]]],.st 48 [.str [104,101,97,100],.st 46 [.str [45,53,48,48],.str [53,48,48]]]]],.int .i64 0]),(43,[T,B,.st 86 [.bool false,.int .i64 1,.st 60 [.int .i64 0,.int .i64 0]]],.aG [.bP false [.st 48 [.str [99,117,101],.st 46 [.str [45,53,48,48],.str [53,48,48]]],.st 48 [.str [111,110,101],.st 46 [.str [45,53,48,48],.str [49,53,48,48]]],.st 48 [.str [116,119,111],.st 46 [.str [45,53,48,48],.str [49,53,54,48]]]],.int .i64 0]),(65,[T],.aG [.str [114,97,100,105,117,115,32,51,48,10,99,111,114,110,101,114,32,48,32,48,10,99,111,114,110,101,114,32,50,48,48,48,32,48,10,99,111,114,110,101,114,32,50,48,48,48,32,49,48,48,48,10,99,111,114,110,101,114,32,48,32,49,48,48,48,10,112,111,99,107,101,116,32,97,32,48,32,48,32,49,47,50,48,10,112,111,99,107,101,116,32,98,32,50,32,49,57,47,50,48,32,49,10,115,112,111,116,32,102,111,111,116,32,49,53,48,48,32,53,48,48,10,115,112,111,116,32,104,101,97,100,32,53,48,48,32,53,48,48,10],.int .i64 0]),(66,[.str [114,97,100,105,117,115,32,51,48,10,115,112,111,116,32,97,32,48,10]],.aG [.st 37 [.aP,.int .i64 0,.aP,.aP],.int .i64 2,.int .i64 25]),(67,[T,B1],.aG [.str [98,97,108,108,32,99,117,101,32,53,48,48,32,53,48,48,10],.int .i64 0])]++k1
theorem aEu:Hk.lN k2:=Hk.Cd (l:=[(23,[T],.aG [.str [50,48,48,48,48,48,48],.int .i64 0]),(57,[T,.int .i64 0,.str [49,47,52]],.aG [.st 46 [.str [53,48,48],.str [48]],.int .i64 0]),(62,[T,.st 46 [.str [50,48,48,48],.str [48]]],.aG [.int .i64 0,.str [49],.int .i64 0]),(63,[T,.int .i64 0,.str [49,47,50,48]],.aG [.str [97],.int .i64 0]),(63,[T,.int .i64 0,.str [49,47,49,48]],.aG [.str [],.int .i64 7]),(34,[T,B,.st 46 [.str [49,52,52,48],.str [53,48,48]]],.aG [.bool true,.int .i64 0]),(34,[T,B,.st 46 [.str [49,52,53,48],.str [53,48,48]]],.aG [.bool false,.int .i64 0]),(29,[T,B,.str [102,111,111,116],.st 46 [.str [49,48],.str [48]]],.aG [.st 46 [.str [49,54,50,48],.str [53,48,48]],.int .i64 0]),(64,[T,B],.aG [.st 28 [.int .i64 1,.int .i64 2],.str [51,54,48,48],.int .i64 0]),(54,[T,B],.aG [.bP false [.st 28 [.int .i64 1,.int .i64 2]],.int .i64 0]),(12,[T,.str [102,111,111,116],.str [116,114,105,97,110,103,108,101],.st 28 [.int .i64 2,.int .i64 0]],.aG [.bP false [.st 46 [.str [49,53,48,48],.str [53,48,48]],.st 46 [.str [51,49,48,53,47,50],.str [52,55,48]],.st 46 [.str [51,49,48,53,47,50],.str [53,51,48]]],.int .i64 0]),(42,[T,.st 86 [.bool true,.int .i64 0,.st 60 [.int .i64 0,.int .i64 0]]],.aG [.st 37 [.bP false [.st 60 [.int .i64 0,.int .i64 0],.st 60 [.int .i64 0,.int .i64 1000],.st 60 [.int .i64 (-2000),.int .i64 1000],.st 60 [.int .i64 (-2000),.int .i64 0]],.int .i64 30,.bP false [.st 109 [.str [97],.int .i64 3,.str [49,57,47,50,48],.str [49]],.st 109 [.str [98],.int .i64 1,.str [48],.str [49,47,50,48]]],.bP false [.st 48 [.str [102,111,111,116],.st 46 [.str [45,49,53,48,48],.str [53,48,48]]],.st 48 [.str [104,101,97,100],.st 46 [.str [45,53,48,48],.str [53,48,48]]]]],.int .i64 0]),(51,[M],.aG [.st 37 [.bP false [.st 60 [.int .i64 (-2000),.int .i64 0],.st 60 [.int .i64 0,.int .i64 0],.st 60 [.int .i64 0,.int .i64 1000],.st 60 [.int .i64 (-2000),.int .i64 1000]],.int .i64 30,.bP false [.st 109 [.str [97],.int .i64 0,.str [49,57,47,50,48],.str [49]],.st 109 [.str [98],.int .i64 2,.str [48],.str [49,47,50,48]]],.bP false [.st 48 [.str [102,111,111,116],.st 46 [.str [45,49,53,48,48],.str [53,48,48]]],.st 48 [.str [104,101,97,100],.st 46 [.str [45,53,48,48],.str [53,48,48]]]]],.int .i64 0]),(43,[T,B,.st 86 [.bool false,.int .i64 1,.st 60 [.int .i64 0,.int .i64 0]]],.aG [.bP false [.st 48 [.str [99,117,101],.st 46 [.str [45,53,48,48],.str [53,48,48]]],.st 48 [.str [111,110,101],.st 46 [.str [45,53,48,48],.str [49,53,48,48]]],.st 48 [.str [116,119,111],.st 46 [.str [45,53,48,48],.str [49,53,54,48]]]],.int .i64 0]),(65,[T],.aG [.str [114,97,100,105,117,115,32,51,48,10,99,111,114,110,101,114,32,48,32,48,10,99,111,114,110,101,114,32,50,48,48,48,32,48,10,99,111,114,110,101,114,32,50,48,48,48,32,49,48,48,48,10,99,111,114,110,101,114,32,48,32,49,48,48,48,10,112,111,99,107,101,116,32,97,32,48,32,48,32,49,47,50,48,10,112,111,99,107,101,116,32,98,32,50,32,49,57,47,50,48,32,49,10,115,112,111,116,32,102,111,111,116,32,49,53,48,48,32,53,48,48,10,115,112,111,116,32,104,101,97,100,32,53,48,48,32,53,48,48,10],.int .i64 0]),(66,[.str [114,97,100,105,117,115,32,51,48,10,115,112,111,116,32,97,32,48,10]],.aG [.st 37 [.aP,.int .i64 0,.aP,.aP],.int .i64 2,.int .i64 25]),(67,[T,B1],.aG [.str [98,97,108,108,32,99,117,101,32,53,48,48,32,53,48,48,10],.int .i64 0])]) ⟨d0,d1,d2,d3,d4,d5,d6,d7,d8,d9,d10,d11,d12,d13,d14,d15,d16,trivial⟩ iN
end Bg
theorem Hh:aC prog 11 [] (.bool true):=gl.gp Bg.k2 Bg.aEu (by kernel_rfl)
def fx(p:dV):PV:=.st 109 [.str p.name,.int .i64 p.eZ,.str p.a,.str p.b]
def fW(p:cQ):PV:=.st 48 [.str p.name,dB p.pt]
def b8(t:aq):PV:=.st 37 [.seq (t.cs.map bV),.int .i64 t.bm,.seq (t.bf.map fx),.seq (t.aj.map fW)]
@[simp] theorem aMR(p:dV):aL (fx p)=.agg 109:=rfl
@[simp] theorem aLJ(p:dV):cM (fx p)=[.str p.name,.int .i64 p.eZ,.str p.a,.str p.b]:=rfl
@[simp] theorem aMV(p:cQ):aL (fW p)=.agg 48:=rfl
@[simp] theorem aLN(p:cQ):cM (fW p)=[.str p.name,dB p.pt]:=rfl
@[simp] theorem aMY(t:aq):aL (b8 t)=.agg 37:=rfl
@[simp] theorem aLP(t:aq):cM (b8 t)=[.seq (t.cs.map bV),.int .i64 t.bm,.seq (t.bf.map fx),.seq (t.aj.map fW)]:=rfl
theorem ZJ(p:dG):aC prog 158 [bV p] (.bool (fk p)):=by
 obtain⟨x,y⟩:=p;refine aM nf IG mix (by simp[f158]) ?_;have e1:max x y=if x<y then y else x:=by split<;>omega
 have e2:min x y=if y<x then y else x:=by split<;>omega
 rw[fk,e1,e2]
 by_cases h:(if x<y then y else x)<=10000
 ·have a:¬10000<(if x<y then y else x):=by omega
  by_cases b:(if y<x then y else x)< -10000
  ·simp[f158,ad,h,a,b]
  ·simp[f158,ad,h,a,b]
 ·have a:10000<(if x<y then y else x):=by omega
  simp[f158,ad,h,a]
def idxFrom{α:Type}(p:α->Bool):List α->Nat->Int
 |[],_=>-1
 |x::r,i=>if p x then(i:Int)else idxFrom p r (i+1)
theorem qC{α:Type}(p:α->Bool):∀(l:List α)(i:Nat),decide (0<=idxFrom p l i)=l.any p
 |[],i=>by simp[idxFrom]
 |x::r,i=>by
  by_cases h:p x
  ·simp[idxFrom,h]
  ·simp[idxFrom,h,qC p r]
theorem SB(l:List dG)(h:l.length<=1000000):
 aC prog 239 [.seq (l.map bV),.func 158 [] []] (.int .i64 (idxFrom fk l 0)):=by
 refine aM nf OD mix (by simp[f239]) ?_;simp[f239];refine lp (α:=Nat) (fun i=>⟨[(8,.p (.int .i64 i)),(7,.p (.int .i64 l.length)),(1,.p (.func 158 [] [])),(0,.p (.seq (l.map bV)))],[]⟩) (fun i=>i<=l.length/\idxFrom fk l 0=idxFrom fk (l.drop i) i) (fun i=>l.length-i) 0 (by simp) ?_;rintro i ⟨k1,k2⟩
 by_cases hi:i<l.length
 ·rw[a9 hi]at k2;have b:=cr (i:=i) (by omega);simp[hi];refine c1 (ZJ l[i]) ?_
  by_cases a:fk l[i]
  ·simp[idxFrom,a]at k2;simp[a,k2]
  ·simp[idxFrom,a]at k2;simp[a,b];exact rd (i+1) ⟨hi,k2⟩
 ·have:i=l.length:=by omega
  subst this;simp[idxFrom]at k2;simp[k2]
theorem Sq(l:List dG)(h:l.length<=1000000):
 aC prog 157 [.seq (l.map bV),.func 158 [] []] (.bool (l.any fk)):=by
 refine aM nf IH mix (by simp[f157]) ?_;simp[f157];refine c2 (SB l h) ?_;simp[<-qC fk l 0]
def mF(l:List dG):List (PV×PV):=l.map (fun p=>(bV p,PV.bool true))
theorem GI{p q:dG}(h:¬p=q):¬(p.x=q.x/\p.y=q.y):=fun⟨a,b⟩=>h (by cases p;cases q;simp_all)
theorem aqk(a b c d:Int):ir prog 9 61 (.st 60 [.int .i64 a,.int .i64 b]) (.st 60 [.int .i64 c,.int .i64 d])=some ((a==c)&&((b==d)&&true)):=by kernel_rfl
@[simp] theorem Bs(p q:dG):ir prog 9 61 (bV p) (bV q)=some (decide (p=q)):=by
 rw[bV,bV,aqk]
 by_cases h:p=q
 ·subst h;simp
 ·rw[decide_eq_false h];have:=GI h
  by_cases a:p.x=q.x
  ·have b:¬p.y=q.y:=fun b=>this ⟨a,b⟩;simp[a,b]
  ·simp[a]
theorem GH(p q:dG):kG (bV p) (bV q)=some (decide (p=q)):=by
 by_cases h:p=q
 ·subst h;simp[bV,kG,xA]
 ·rw[decide_eq_false h];have:=GI h
  by_cases a:p.x=q.x
  ·have b:¬p.y=q.y:=fun b=>this ⟨a,b⟩;simp[bV,kG,xA,a,beq_false_of_ne b]
  ·simp[bV,kG,xA,beq_false_of_ne a]
theorem apV(p q:dG):qp prog 61 (bV p) (bV q)=some (decide (p=q)):=by
 have e1:=Bs p q;have e2:=GH p q;rw[bV]at e1 e2⊢;rw[qp,e1,e2];simp
@[simp] theorem Gj(q:dG):∀l:List dG,fZ prog 61 (mF l) (bV q)=some (if q∈l then some (.bool true)else none)
 |[]=>rfl
 |p::r=>by
  rw[mF,bb,fZ,apV]
  by_cases h:q=p
  ·simp[h]
  ·have:=Gj q r;rw[mF]at this;simp[h,this]
theorem SA{q:dG}{l:List dG}(h:¬q∈l):mf prog 61 (mF l) (bV q)=some none:=by
 have:=Gj q l;rw[if_neg h]at this;rw[bV]at this⊢;rw[mf,this]
theorem Gk{q:dG}:∀{l:List dG},¬q∈l->gF (mF l) (bV q) (.bool true)=mF (l++[q])
 |[],_=>rfl
 |p::r,h=>by
  have a:¬q=p:=fun e=>h (e▸List.mem_cons_self);have b:¬q∈r:=fun e=>h (List.mem_cons_of_mem _ e);have:=Gk b;rw[mF]at this⊢;rw[bb,gF,GH,this];simp[a,mF]
theorem aHp:su prog 61=true:=by kernel_rfl
@[simp high] theorem aK0(c:Bool)(H:Heap)(p q:dG):aU prog .neq 61 c H (.p (bV p)) (.p (bV q))=some (True,{v:=.p (.bool !(decide (p=q)))}):=by
 have e:=Bs p q;rw[bV,bV]at*;simp[aU,e,aHp]
@[simp high] theorem aLE(q:dG):fD prog 61 (bV q)=true:=by
 have e1:=Bs q q;rw[bV]at e1⊢;rw[fD];simp[e1]
theorem SP(a c:dG):fR a a c=0:=by simp[fR]
theorem Gi(a b:dG):fR a b a=0:=by simp[fR]
theorem SL{t:aq}(e:3<=t.cs.length){j k:Nat}(c:j<t.cs.length)(hk:k<t.cs.length)(d:j≠k)(b:t.at j=t.at k):t.dv=false:=by
 rw[aq.dv,decide_eq_false_iff_not];intro h
 by_cases hx:k=t.nx j
 ·obtain⟨m,m1,m2,m3⟩:∃m,m<t.cs.length/\m≠j/\m≠k:=by
   rcases cc j k with a|a|a
   ·by_cases e0:j=0
    ·by_cases e1:k=1
     ·exact⟨2,by omega,by omega,by omega⟩
     ·exact⟨1,by omega,by omega,by omega⟩
    ·exact⟨0,by omega,by omega,by omega⟩
   ·exact(d a).elim
   ·by_cases e0:k=0
    ·by_cases e1:j=1
     ·exact⟨2,by omega,by omega,by omega⟩
     ·exact⟨1,by omega,by omega,by omega⟩
    ·exact⟨0,by omega,by omega,by omega⟩
  have:=h j c m m1 m2 (hx▸m3);rw[<-hx,<-b,SP]at this;omega
 ·have:=h j c k hk (Ne.symm d) hx;rw[<-b,Gi]at this;omega
theorem SS(t:aq)(aj:3<=t.cs.length)(ak:t.cs.length<=1000000)(F:∀p∈t.cs,eU p):aC prog 159 [b8 t] (.bool t.dv):=by
 refine aM nf IF mix (by simp[f159]) ?_;generalize q:t.cs.length=n at*;simp[f159,ad,q];refine lp (α:=Nat) (fun i=>⟨[(16,.p (.int .i64 i)),(15,.p (.int .i64 n)),(14,.p (.seq (t.cs.map bV))),(3,.map 1),(1,.ptr 0 [])],[.box false (.p (b8 t)),.map false (mF (t.cs.take i))]⟩) (fun i=>i<=n/\∀j k,j<k->k<i->t.at j≠t.at k) (fun i=>n-i) 0 (by simp) ?_ (hh:=by simp[mF]);rintro i ⟨ai,E⟩
 by_cases hi:i<n
 ·have H:=aq.get (t:=t) (i:=i) (by omega);have z:=cr (i:=i) (by omega);have W:t.cs.take (i+1)=t.cs.take i++[t.at i]:=by rw[bv,H];rfl
  simp[-fD,hi,q,H,ad]
  by_cases f:t.at i∈t.cs.take i
  ·obtain⟨j,s,r⟩:=bo.1 f;rw[bk]at s;rw[b0,aq.aN (by omega)]at r;have Q:=SL (by omega) (j:=j) (k:=i) (by omega) (by omega) (by omega) r;simp[f,Q]
  ·have hI:=SA f;have I:=Gk f;rw[<-W]at I;simp[-fD,-mf,f,hI,I,z];exact rd (i+1) ⟨hi,fun j k w hk=>by
    by_cases T:k=i
    ·subst T;intro r;exact f (r▸a8 (i:=j) (by rw[List.getElem?_take,if_pos w];exact aq.get (by omega)))
    ·exact E j k w (by omega)⟩
 have R:i=n:=by omega
 subst R;have inj:∀j k,j<i->k<i->t.at j=t.at k->j=k:=fun j k s hk r=>by
  rcases cc j k with h|h|h
  ·exact(E j k h hk r).elim
  ·exact h
  ·exact(E k j h s r.symm).elim
 simp[q,ad];refine lp (α:=Nat) (fun m=>⟨[(32,.p (.int .i64 m)),(31,.p (.int .i64 i)),(30,.p (.seq (t.cs.map bV))),(6,.p (.int .i64 i)),(1,.ptr 0 [])],[.box false (.p (b8 t))]⟩) (fun m=>m<=i/\∀j,j<m->t.nE j i) (fun m=>i-m) 0 (by simp) ?_;rintro m ⟨g1,g2⟩;have U:¬i=0:=by omega
 by_cases f:m<i
 ·have M:=aq.get (t:=t) (i:=m) (by omega);have z:=cr (i:=m) (by omega);have V:t.nx m<i:=by rw[<-q];exact t.mG (by omega) m
  have N:=aq.get (t:=t) (i:=t.nx m) (by omega);have e1:((m:Int)+1).tmod (i:Int)=((t.nx m:Nat):Int):=by
   rw[aq.nx,q,a6,a5 (by omega)];rfl
  simp[f,q,M,N,z,e1,U,ad];refine⟨by repeat' first|rfl|apply an,?_⟩;refine lp (α:=Nat) (fun k=>⟨[(48,.p (.int .i64 k)),(47,.p (.int .i64 i)),(46,.p (.seq (t.cs.map bV))),(9,.ptr 2 []),(8,.ptr 1 []),(32,.p (.int .i64 m)),(31,.p (.int .i64 i)),(30,.p (.seq (t.cs.map bV))),(6,.p (.int .i64 i)),(1,.ptr 0 [])],[.box false (.p (b8 t)),.box false (.p (bV (t.at m))),.box false (.p (bV (t.at (t.nx m))))]⟩) (fun k=>k<=i/\t.nE m k) (fun k=>i-k) 0 (by simp[aq.nE]) ?_;rintro k ⟨q1,D⟩
  by_cases hk:k<i
  ·have gk:=aq.get (t:=t) (i:=k) (by omega);have G:=cr (i:=k) (by omega)
   by_cases c1:t.at k=t.at m
   ·have:=inj _ _ hk f c1;subst this;simp[-aU,aU.eq_1,hk,gk,G,ad];exact rd (k+1) ⟨hk,fun j s=>by
     by_cases w:j=k
     ·intro h;exact(h w).elim
     ·exact D j (by omega)⟩
   ·by_cases c2:t.at k=t.at (t.nx m)
    ·have:=inj _ _ hk V c2;have c3:¬t.at (t.nx m)=t.at m:=by rw[<-c2];exact c1
     simp[-aU,aU.eq_1,hk,gk,G,c2,c3,ad];exact rd (k+1) ⟨hk,fun j s=>by
      by_cases w:j=k
      ·intro _ h;exact(h (by omega)).elim
      ·exact D j (by omega)⟩
    ·have L:k≠m:=fun e=>c1 (by rw[e]);have nx:k≠t.nx m:=fun e=>c2 (by rw[e]);have P:fR (t.at m) (t.at (t.nx m)) (t.at k)=((t.at (t.nx m)).x-(t.at m).x)*((t.at k).y-(t.at m).y)-((t.at (t.nx m)).y-(t.at m).y)*((t.at k).x-(t.at m).x):=rfl;have X:=aq.iu F (i:=m) (by omega);have Y:=aq.iu F (i:=t.nx m) (by omega);have Z:=aq.iu F (i:=k) (by omega);have K:t.nE m (k+1)↔0<fR (t.at m) (t.at (t.nx m)) (t.at k):=⟨fun h=>h k (by omega) L nx,fun h j s u v=>by
      by_cases w:j=k
      ·subst w;exact h
      ·exact D j (by omega) u v⟩
     have J:¬0<fR (t.at m) (t.at (t.nx m)) (t.at k)->t.dv=false:=fun h=>by
      rw[aq.dv,decide_eq_false_iff_not];intro O;exact h (O m (by omega) k (by omega) L nx)
     rw[P]at K J;simp[-aU,aU.eq_1,hk,gk,G,c1,c2,ad];simp only[eU]at X Y Z;generalize t.at m=A at*;generalize t.at (t.nx m)=B at*;generalize t.at k=C at*;obtain⟨c,d⟩:=A;obtain⟨bx,g⟩:=B;obtain⟨l,o⟩:=C;dsimp only at*;have aa:aT.wrap (bx-c)=bx-c:=aO _ (by omega) (by omega);have ab:aT.wrap (o-d)=o-d:=aO _ (by omega) (by omega);have ac:aT.wrap (g-d)=g-d:=aO _ (by omega) (by omega)
     have ae:aT.wrap (l-c)=l-c:=aO _ (by omega) (by omega);have al:=sS (a:=bx-c) (b:=o-d) (A:=20000) (B:=20000) (by omega) (by omega) (by omega) (by omega);have am:=sS (a:=g-d) (b:=l-c) (A:=20000) (B:=20000) (by omega) (by omega) (by omega) (by omega);have af:aT.wrap ((bx-c)*(o-d))=(bx-c)*(o-d):=aO _ (by omega) (by omega);have ag:aT.wrap ((g-d)*(l-c))=(g-d)*(l-c):=aO _ (by omega) (by omega);have ah:aT.wrap ((bx-c)*(o-d)-(g-d)*(l-c))=(bx-c)*(o-d)-(g-d)*(l-c):=aO _ (by omega) (by omega);simp[aa,ab,ac,ae,af,ag,ah]
     by_cases hc:(bx-c)*(o-d)-(g-d)*(l-c)<=0
     ·have:=J (by omega);simp[hc,this]
     ·simp[hc];exact rd (k+1) ⟨hk,K.2 (by omega)⟩
  ·have:k=i:=by omega
   subst this;simp[z];exact rd (m+1) ⟨f,fun j s=>by
    by_cases S:j=m
    ·subst S;exact D
    ·exact g2 j (by omega)⟩
 ·have:m=i:=by omega
  subst this;have:t.dv=true:=by
   rw[aq.dv,decide_eq_true_eq,q];exact g2
  simp[this]
noncomputable def dL(v:NV):PV:=.st 133 [eF v.x,eF v.y]
@[simp] theorem aMX(v:NV):aL (dL v)=.agg 133:=rfl
@[simp] theorem aLO(v:NV):cM (dL v)=[eF v.x,eF v.y]:=rfl
@[simp] theorem aLa:prog.cellsOf 133=8:=by kernel_rfl
theorem vm(x y:NF):dL ⟨x,y⟩=.st 133 [eF x,eF y]:=rfl
noncomputable def sr(a b:NV):PV:=.st 164 [dL a,dL b]
@[simp] theorem aMM(a b:NV):aL (sr a b)=.agg 164:=rfl
@[simp] theorem aLF(a b:NV):cM (sr a b)=[dL a,dL b]:=rfl
theorem qH(p:ez)(d:bX p.x=0)(e:bX p.y=0)(a:jF p):aC prog 93 [dB p] (dL (.from p)):=by
 have b:=nt p.x d a.1.1;have c:=nt p.y e a.2.1;refine aM nf Ra mix (by simp[f93]) ?_;rw[NV.from,vm];simp[f93,ad];refine e1 b ?_;simp[ad];refine e1 c ?_;simp[ad]
def dU(p:dG):NV:=⟨.int p.x,.int p.y⟩
theorem RE(p:dG):(dU p).q=dP p:=rfl
theorem F8(p:dG)(h:eU p):aC prog 209 [bV p] (dL (dU p)):=by
 simp only[eU]at h;have a:=sf p.x (by omega) (by omega);have b:=sf p.y (by omega) (by omega);refine aM nf Gs mix (by simp[f209]) ?_;rw[dU,vm];simp[f209,ad];refine e1 a ?_;simp[ad];refine e1 b ?_;simp[ad]
theorem Bu(v w:NV)(a:b9 kQ v.q)(b:b9 kQ w.q):aC prog 140 [dL v,dL w] (dL (v.sub w)):=by
 have c:=zK v.x w.x (fa a.1) (fa b.1);have d:=zK v.y w.y (fa a.2) (fa b.2);refine aM nf IL mix (by simp[f140]) ?_;rw[NV.sub,vm];simp[f140,ad];refine e2 c ?_;simp[ad];refine e2 d ?_;simp[ad]
theorem Gt(v w:NV)(a:b9 kQ v.q)(b:b9 kQ w.q):aC prog 90 [dL v,dL w] (eF (v.bE w)):=by
 have c:=tY v.x w.y (fa a.1) (fa b.2);have d:=tY v.y w.x (fa a.2) (fa b.1);have e:=zK (v.x.mul w.y) (v.y.mul w.x) ((jx a.1 b.2).mono (by decide)) ((jx a.2 b.1).mono (by decide));refine aM nf Q7 mix (by simp[f90]) ?_;rw[NV.bE];simp[f90,ad];refine e2 c ?_;simp[ad];refine e2 d ?_;simp[ad];refine e2 e ?_;simp[ad]
theorem ZI(t:aq)(i:Nat)(hi:i<t.cs.length)(l:t.cs.length<=1000000)(h:∀p∈t.cs,eU p):aC prog 139 [b8 t,.int .i64 i] (sr (dU (t.at i)) (dU (t.at (t.nx i)))):=by
 have a:=t.mG (by omega) i;have j:=F8 (t.at i) (aq.iu h hi);have k:=F8 (t.at (t.nx i)) (aq.iu h a);have g:=cr (i:=i) (by omega);have e1:((i:Int)+1).tmod (t.cs.length:Int)=((t.nx i:Nat):Int):=by
  rw[aq.nx,a6,a5 (by omega)];rfl
 have f:¬t.cs.length=0:=by omega
 have d:¬t.cs=[]:=by intro e;rw[e]at hi;simp at hi
 have b:=aq.get hi;have c:=aq.get a;refine aM nf H8 mix (by simp[f139]) ?_;rw[sr];simp[f139,ad,g,e1,f,d,b,c,hi,a];refine Go.au.e1 j ?_;simp[ad,g,e1,f,d,b,c,hi,a];refine Go.au.e1 k ?_;simp[ad,g,e1,f,d,b,c,hi,a]
theorem H6(t:aq):aC prog 88 [b8 t] (.func 186 [] [.cE (b8 t)]):=by
 refine aM nf Q5 mix (by simp[f88]) ?_;simp[f88];show gC [.box false (.p (b8 t))] 7 (.p (b8 t)) (b8 t);rw[Fz];exact Wk.refl _
noncomputable def vk(t:aq)(i:Nat):List PV:=[.int .i64 i,sr (dU (t.at i)) (dU (t.at (t.nx i)))]
theorem xS{t:aq}{i:Nat}(h:i<t.cs.length):((b2 t.cs.length).map (vk t))[i]?=some (vk t i):=by
 rw[List.getElem?_map,List.getElem?_range h];rfl
theorem HY(t:aq)(g:t.cs.length<=1000000)(h:∀p∈t.cs,eU p):Stream prog 186 [] [.cE (b8 t)] ((b2 t.cs.length).map (vk t)):=by
 intro b k e H' hk a l d;rw[List.length_map,List.length_range]at hk d;refine fV nf GR mix (by simp[f186]) ?_;simp[f186,ad];refine lp (α:=Nat) (fun i=>⟨[(7,.p (.int .i64 i)),(6,.p (.int .i64 t.cs.length)),(1,.p (.cE (b8 t))),(0,.map b)],e i⟩) (fun i=>i<=k) (fun i=>k-i) 0 (by simp) ?_ (hr:=by simp;exact(a 0 (by omega)).2) (hr2:=(a 0 (by omega)).1);rintro i m
 by_cases hi:i<t.cs.length
 ·have f:=ZI t i hi g h;have j:=cr (i:=i) (by omega);simp[hi];refine c2 f ?_;simp
  by_cases c:i<k
  ·refine⟨e (i+1),_,l i _ c (xS hi),?_⟩;simp[j];exact rd (i+1) c (hr:=by simp;exact(a (i+1) c).2) (hr2:=(a (i+1) c).1)
  ·have:i=k:=by omega
   subst this;rcases d with⟨e1,_⟩|⟨y,e1,e2⟩
   ·omega
   ·rw[xS hi]at e1;injection e1 with e1
    subst e1;refine⟨H',_,e2,?_⟩;simp
 ·have:i=t.cs.length:=by omega
  subst this;rcases d with⟨e1,e2⟩|⟨y,e1,e2⟩
  ·have:t.cs.length=k:=by omega
   subst this;simp[e2]
  ·rw[List.getElem?_eq_none (by simp;omega)]at e1;cases e1
noncomputable def xH(t:aq)(v:NV)(L:fh)(i:Nat):Heap:=[.box false (.p (b8 t)),.box false (.p (dL v)),.box false (.p (.int .i64 (t.kL v.q i))),.loop L]
theorem vx(t:aq)(v:NV)(m:t.cs.length<=1000000)(c:∀p∈t.cs,eU p)(g:b9 3000 v.q):aC prog 77 [b8 t,dL v] (.int .i64 (t.on v.q)):=by
 refine aM nf QV mix (by simp[f77]) ?_;simp[f77,ad];refine c1 (H6 t) ?_;simp;refine rf (HY t m c) rfl (by simp) (xH t v) t.cs.length (by simp) (fun L=>rfl) ?_ ?_ ?_
 ·intro L a i hi;refine⟨rfl,by simp[xH],fun _ hx=>?_⟩;simp[xH]at hx⊢;exact hx
 ·intro L a i x hi hx;rw[xS hi]at hx;injection hx with hx
  subst hx;have b:=oR (aq.iu c hi);have h:=oR (aq.iu c (t.mG (by omega) i));have q1:b9 29 ((dU (t.at (t.nx i))).sub (dU (t.at i))).q:=by rw[NV.om];exact oD h b
  have n:b9 3015 (v.sub (dU (t.at i))).q:=by rw[NV.om];exact oD g b
  have j:=Bu (dU (t.at (t.nx i))) (dU (t.at i)) (h.mono (by decide)) (b.mono (by decide));have k:=Bu v (dU (t.at i)) (g.mono (by decide)) (b.mono (by decide));have l:=Gt ((dU (t.at (t.nx i))).sub (dU (t.at i))) (v.sub (dU (t.at i))) (q1.mono (by decide)) (n.mono (by decide));have e:=DH (((dU (t.at (t.nx i))).sub (dU (t.at i))).bE (v.sub (dU (t.at i))));have d:de (((dU (t.at (t.nx i))).sub (dU (t.at i))).bE (v.sub (dU (t.at i)))).q=t.side i v.q:=by
   rw[NV.Bp,NV.om,NV.om];rfl
  rw[de]at d;rw[d]at e;have hs:=aq.xR t v.q i;rw[Gu]at hs;refine Bq nf mix a rfl rfl (by kernel_rfl) ?_;have f:=congrArg fh.env a;dsimp only at f;clear a d;generalize (dU (t.at (t.nx i))).sub (dU (t.at i))=W at*;generalize v.sub (dU (t.at i))=U at*;generalize W.bE U=C at*;simp[xH,vk,sr,ad];refine e2 j ?_;simp[ad];refine e2 k ?_;simp[ad];refine e2 l ?_;simp[ad];refine e1 e ?_;simp[ad];refine⟨by repeat' first|rfl|apply an,?_⟩;rw[<-hs];refine dt.og (by simp) (by simp) (by simp) (by simp) ?_;simp;exact RI f (by simp)
 ·intro L a;refine .inl ⟨by simp,?_⟩;simp[xH,aq.on]
theorem Gb(s:List Nat)(hs:iI s)(h:bX s=0):aC prog 222 [.str s] (.int .i64 (fB (bh s))):=by
 have o:=fJ h;have d:=nt s h hs.1;have c:=DH ⟨bh s,false⟩;have g:=sf 1 (by decide) (by decide);have e:=uH ⟨bh s,false⟩ (.int 1) (o.mono (by decide)) ((show bK 1 (NF.int 1).q from⟨by decide,by decide⟩).mono (by decide));have e2:(if(⟨bh s,false⟩:NF).q<0 then(-1:Int)else if(⟨bh s,false⟩:NF).q=0 then 0 else 1)=de (bh s):=rfl;have e4:fc (⟨bh s,false⟩:NF).q (NF.int 1).q=fc (bh s) 1:=rfl;rw[e2]at c;rw[e4]at e;have f:=fun b=>ic b 3;refine aM nf Is mix (by simp[f222]) ?_;rw[fB];clear e2 e4 o;generalize de (bh s)=x at*;generalize fc (bh s) 1=y at*;generalize (⟨bh s,false⟩:NF)=v at*
 by_cases a:x<0
 ·simp[f222,ad];refine c1 d ?_;simp[ad];refine Go.au.e1 c ?_;simp[a,ad];refine Go.au.e2 (f true) ?_;simp[aY];omega
 ·by_cases b:0<y
  ·simp[f222,ad];refine c1 d ?_;simp[ad];refine Go.au.e1 c ?_;simp[a,ad];refine Go.au.e1 g ?_;simp[a,ad];refine Go.au.e2 e ?_;simp[a,b,ad];refine Go.au.e2 (f true) ?_;simp[aY];omega
  ·simp[f222,ad];refine c1 d ?_;simp[ad];refine Go.au.e1 c ?_;simp[a,ad];refine Go.au.e1 g ?_;simp[a,ad];refine Go.au.e2 e ?_;simp[a,b,ad];refine Go.au.e2 (f false) ?_;simp[aY];omega
def qD(p:dV):Prop:=sJ p/\bX p.a=0/\bX p.b=0
theorem ZK(p o:dV)(r:qD p)(q:qD o):aC prog 242 [fx p,fx o] (.bool (gM o p)):=by
 obtain⟨⟨_,u,v⟩,l,m⟩:=r;obtain⟨⟨_,s,t⟩,j,k⟩:=q;have d:=nt p.a l u.1;have e:=nt o.b k t.1;have c:=uH ⟨bh p.a,false⟩ ⟨bh o.b,false⟩ ((fJ l).mono (by decide)) ((fJ k).mono (by decide));have g:=nt o.a j s.1;have i:=nt p.b m v.1;have f:=uH ⟨bh o.a,false⟩ ⟨bh p.b,false⟩ ((fJ j).mono (by decide)) ((fJ m).mono (by decide));dsimp only at c f;refine aM nf Io mix (by simp[f242]) ?_;rw[gM];generalize fc (bh p.a) (bh o.b)=x at*;generalize fc (bh o.a) (bh p.b)=y at*;generalize (⟨bh p.a,false⟩:NF)=v1 at*;generalize (⟨bh p.b,false⟩:NF)=v2 at*;generalize (⟨bh o.a,false⟩:NF)=v3 at*;generalize (⟨bh o.b,false⟩:NF)=v4 at*
 by_cases c1:o.eZ=p.eZ
 case neg=>
  have n:¬p.eZ=o.eZ:=fun h=>c1 h.symm;simp[f242,ad,c1,n]
 by_cases c2:x<=0
 ·by_cases c3:y<=0
  ·simp[f242,ad,c1];refine Go.au.e1 d ?_;simp[ad,c1];refine Go.au.e1 e ?_;simp[ad,c1];refine Go.au.e2 c ?_;simp[ad,c1,c2];refine Go.au.e1 g ?_;simp[ad,c1,c2];refine Go.au.e1 i ?_;simp[ad,c1,c2];refine Go.au.e2 f ?_;simp[ad,c1,c2,c3]
  ·simp[f242,ad,c1];refine Go.au.e1 d ?_;simp[ad,c1];refine Go.au.e1 e ?_;simp[ad,c1];refine Go.au.e2 c ?_;simp[ad,c1,c2];refine Go.au.e1 g ?_;simp[ad,c1,c2];refine Go.au.e1 i ?_;simp[ad,c1,c2];refine Go.au.e2 f ?_;simp[ad,c1,c2,c3]
 ·simp[f242,ad,c1];refine Go.au.e1 d ?_;simp[ad,c1];refine Go.au.e1 e ?_;simp[ad,c1];refine Go.au.e2 c ?_;simp[ad,c1,c2]
theorem SK(p o:dV):cw prog 241 [.box false (.p (fx p))] [.p (fx o),.ptr 0 []] [.box false (.p (fx p))] (.p (.bool (decide (o.name=p.name)))):=by
 refine fV nf Gr mix (by simp[f241]) ?_
 by_cases h:o.name=p.name
 ·simp[f241,ad,h];exact dt.og (by simp) (by simp) (by simp) (by simp) (by simp)
 ·simp[f241,ad,h];exact dt.og (by simp) (by simp) (by simp) (by simp) (by simp)
theorem SO(p:dV)(l:List dV)(h:l.length<=1000000):
 cw prog 147 [.box false (.p (fx p))] [.p (.seq (l.map fx)),.func 241 [] [.ptr 0 []]] [.box false (.p (fx p))] (.p (.int .i64 (idxFrom (fun o=>decide (o.name=p.name)) l 0))):=by
 refine fV nf Ea mix (by simp[f147]) ?_;simp[f147];refine lp (α:=Nat) (fun i=>⟨[(8,.p (.int .i64 i)),(7,.p (.int .i64 l.length)),(1,.func 241 [] [.ptr 0 []]),(0,.p (.seq (l.map fx)))],[.box false (.p (fx p))]⟩) (fun i=>i<=l.length/\idxFrom (fun o=>decide (o.name=p.name)) l 0=idxFrom (fun o=>decide (o.name=p.name)) (l.drop i) i) (fun i=>l.length-i) 0 (by simp) ?_;rintro i ⟨k1,k2⟩;have a:=cr (i:=i) (by omega)
 by_cases hi:i<l.length
 ·rw[a9 hi,idxFrom]at k2;simp[hi];refine cf (SK p l[i]) [0] ?_
  by_cases hk:l[i].name=p.name
  ·simp[hk]at k2;simp[hk,k2,bd]
  ·simp[hk]at k2;simp[hk,a,bd];exact rd (i+1) ⟨hi,k2⟩
 ·have:i=l.length:=by omega
  subst this;simp[idxFrom]at k2;simp[k2]
theorem SG(p:dV)(l:List dV)(h:l.length<=1000000):
 cw prog 240 [.box false (.p (fx p))] [.p (.seq (l.map fx)),.func 241 [] [.ptr 0 []]] [.box false (.p (fx p))] (.p (.bool (l.any (fun o=>decide (o.name=p.name))))):=by
 refine fV nf En mix (by simp[f240]) ?_;simp[f240];refine cf (SO p l h) [0] ?_;have:=qC (fun o=>decide (o.name=p.name)) l 0;simp[bd,<-this]
theorem SJ(p o:cQ):cw prog 244 [.box false (.p (fW p))] [.p (fW o),.ptr 0 []] [.box false (.p (fW p))] (.p (.bool (decide (o.name=p.name)))):=by
 refine fV nf Il mix (by simp[f244]) ?_
 by_cases h:o.name=p.name
 ·simp[f244,ad,h];exact dt.og (by simp) (by simp) (by simp) (by simp) (by simp)
 ·simp[f244,ad,h];exact dt.og (by simp) (by simp) (by simp) (by simp) (by simp)
theorem Sy(p:cQ)(l:List cQ)(h:l.length<=1000000):
 cw prog 164 [.box false (.p (fW p))] [.p (.seq (l.map fW)),.func 244 [] [.ptr 0 []]] [.box false (.p (fW p))] (.p (.int .i64 (idxFrom (fun o=>decide (o.name=p.name)) l 0))):=by
 refine fV nf Ep mix (by simp[f164]) ?_;simp[f164];refine lp (α:=Nat) (fun i=>⟨[(8,.p (.int .i64 i)),(7,.p (.int .i64 l.length)),(1,.func 244 [] [.ptr 0 []]),(0,.p (.seq (l.map fW)))],[.box false (.p (fW p))]⟩) (fun i=>i<=l.length/\idxFrom (fun o=>decide (o.name=p.name)) l 0=idxFrom (fun o=>decide (o.name=p.name)) (l.drop i) i) (fun i=>l.length-i) 0 (by simp) ?_;rintro i ⟨k1,k2⟩;have a:=cr (i:=i) (by omega)
 by_cases hi:i<l.length
 ·rw[a9 hi,idxFrom]at k2;simp[hi];refine cf (SJ p l[i]) [0] ?_
  by_cases hk:l[i].name=p.name
  ·simp[hk]at k2;simp[hk,k2,bd]
  ·simp[hk]at k2;simp[hk,a,bd];exact rd (i+1) ⟨hi,k2⟩
 ·have:i=l.length:=by omega
  subst this;simp[idxFrom]at k2;simp[k2]
theorem SF(p:cQ)(l:List cQ)(h:l.length<=1000000):
 cw prog 243 [.box false (.p (fW p))] [.p (.seq (l.map fW)),.func 244 [] [.ptr 0 []]] [.box false (.p (fW p))] (.p (.bool (l.any (fun o=>decide (o.name=p.name))))):=by
 refine fV nf Im mix (by simp[f243]) ?_;simp[f243];refine cf (Sy p l h) [0] ?_;have:=qC (fun o=>decide (o.name=p.name)) l 0;simp[bd,<-this]
theorem SI(p:dV)(c:qD p)(l:List dV)(h:l.length<=1000000)(b:∀o∈l,qD o):
 aC prog 147 [.seq (l.map fx),.func 242 [fx p] []] (.int .i64 (idxFrom (fun o=>gM o p) l 0)):=by
 refine aM nf Ea mix (by simp[f147]) ?_;simp[f147];refine lp (α:=Nat) (fun i=>⟨[(8,.p (.int .i64 i)),(7,.p (.int .i64 l.length)),(1,.p (.func 242 [fx p] [])),(0,.p (.seq (l.map fx)))],[]⟩) (fun i=>i<=l.length/\idxFrom (fun o=>gM o p) l 0=idxFrom (fun o=>gM o p) (l.drop i) i) (fun i=>l.length-i) 0 (by simp) ?_;rintro i ⟨k1,k2⟩;have d:=cr (i:=i) (by omega)
 by_cases hi:i<l.length
 ·rw[a9 hi,idxFrom]at k2;have a:=ZK p l[i] c (b _ (List.getElem_mem hi));simp[hi];refine c2 a ?_;cases hk:gM l[i] p
  ·simp[hk]at k2;simp[d];exact rd (i+1) ⟨hi,k2⟩
  ·simp[hk]at k2;simp[k2]
 ·have:i=l.length:=by omega
  subst this;simp[idxFrom]at k2;simp[k2]
theorem Sv(p:dV)(b:qD p)(l:List dV)(h:l.length<=1000000)(a:∀o∈l,qD o):
 aC prog 240 [.seq (l.map fx),.func 242 [fx p] []] (.bool (l.any (fun o=>gM o p))):=by
 refine aM nf En mix (by simp[f240]) ?_;simp[f240];refine c2 (SI p b l h a) ?_;have:=qC (fun o=>gM o p) l 0;simp[<-this]
def kS(n:Nat)(c:List dV)(p:dV):Int:=bJ [aY (!isName p.name) 8,aY (c.any fun o=>decide (o.name=p.name)) 9,aY (decide (p.eZ<0\/(n:Int)<=p.eZ)) 10,bX p.a,bX p.b]
def A3(c:List dV)(p:dV):Int:=bJ [fB (bh p.a),fB (bh p.b),aY (decide (0<fc (bh p.a) (bh p.b))) 11,aY (c.any fun o=>gM o p) 17]
theorem F4(q:Rat):fB q=0\/fB q=3:=by
 rw[fB];split
 ·exact .inr rfl
 ·exact .inl rfl
theorem SE(n:Nat)(e:List dV)(p:dV):iw n e p=if kS n e p=0 then A3 e p else kS n e p:=by
 rw[iw,kS,A3];generalize bX p.a=ca;generalize bX p.b=i;have j:=F4 (bh p.a);have h:=F4 (bh p.b);generalize fB (bh p.a)=r at*;generalize fB (bh p.b)=s at*;generalize fc (bh p.a) (bh p.b)=y;generalize (e.any fun o=>gM o p)=m;generalize (e.any fun o=>decide (o.name=p.name))=a;have k:max (0:Int) 3=3:=rfl;have l:max (3:Int) 0=3:=rfl;cases q:isName p.name
 ·simp[bJ,aY]
 cases a
 case true=>simp[bJ,aY]
 by_cases c:p.eZ<0\/(n:Int)<=p.eZ
 ·simp[bJ,aY,c]
 by_cases d:ca=0
 case neg=>simp[bJ,aY,c,d]
 by_cases f:i=0
 case neg=>simp[bJ,aY,c,d,f]
 rcases j with rfl|rfl
 ·rcases h with rfl|rfl
  ·by_cases g:0<y
   ·simp[bJ,aY,c,d,f,g]
   ·cases m<;>simp[bJ,aY,c,d,f,g]
  ·simp[bJ,aY,c,d,f,k]
 ·rcases h with rfl|rfl
  ·simp[bJ,aY,c,d,f,l]
  ·simp[bJ,aY,c,d,f]
theorem Sz{n:Nat}{bef:List dV}{p:dV}(h:kS n bef p=0):bX p.a=0/\bX p.b=0:=by
 rw[kS,mb]at h;exact⟨h _ (by simp),h _ (by simp)⟩
theorem Su(t:aq)(p:dV)(d:List dV)(L:t.cs.length<=1000000)(G:sJ p)(m:d.length<=1000000)(F:∀o∈d,qD o):
 aC prog 161 [b8 t,fx p,.seq (d.map fx)] (.int .i64 (iw t.cs.length d p)):=by
 obtain⟨C,j,k⟩:=G;have k1:=SG p d m;have k2:=Br p.name C.1;have k3:=ic (!isName p.name) 8;have k4:=ic (d.any fun o=>decide (o.name=p.name)) 9;have k5:=fun b=>ic b 10;have k6:=Ai p.a j.1 j.2;have k7:=Ai p.b k.1 k.2;have k8:=mH [aY (!isName p.name) 8,aY (d.any fun o=>decide (o.name=p.name)) 9,aY (decide (p.eZ<0\/(t.cs.length:Int)<=p.eZ)) 10,bX p.a,bX p.b] (by simp);have g:=Sz (n:=t.cs.length) (bef:=d) (p:=p);rw[SE];have s:=fun h:kS t.cs.length d p=0=>Sv p ⟨⟨C,j,k⟩,(g h).1,(g h).2⟩ d m F;have u:=fun h:kS t.cs.length d p=0=>Gb p.a j (g h).1;have v:=fun h:kS t.cs.length d p=0=>Gb p.b k (g h).2;have w:=fun h:kS t.cs.length d p=0=>nt p.a (g h).1 j.1;have x:=fun h:kS t.cs.length d p=0=>nt p.b (g h).2 k.1;have q:=fun h:kS t.cs.length d p=0=>uH ⟨bh p.a,false⟩ ⟨bh p.b,false⟩ ((fJ (g h).1).mono (by decide)) ((fJ (g h).2).mono (by decide));dsimp only at q;have B:=ic (decide (0<fc (bh p.a) (bh p.b))) 11;have z:=ic (d.any fun o=>gM o p) 17;have i:=mH [fB (bh p.a),fB (bh p.b),aY (decide (0<fc (bh p.a) (bh p.b))) 11,aY (d.any fun o=>gM o p) 17] (by simp);have d1:kS t.cs.length d p=bJ [aY (!isName p.name) 8,aY (d.any fun o=>decide (o.name=p.name)) 9,aY (decide (p.eZ<0\/(t.cs.length:Int)<=p.eZ)) 10,bX p.a,bX p.b]:=rfl;have d2:A3 d p=bJ [fB (bh p.a),fB (bh p.b),aY (decide (0<fc (bh p.a) (bh p.b))) 11,aY (d.any fun o=>gM o p) 17]:=rfl;rw[<-d1]at k8;rw[<-d2]at i;clear d1 d2 g;generalize kS t.cs.length d p=l at*;generalize A3 d p=K at*;generalize bX p.a=H at*;generalize bX p.b=I at*;generalize fB (bh p.a)=U at*;generalize fB (bh p.b)=V at*;generalize fc (bh p.a) (bh p.b)=A at*;generalize (d.any fun o=>decide (o.name=p.name))=D at*;generalize (d.any fun o=>gM o p)=J at*;generalize isName p.name=E at*;generalize (⟨bh p.a,false⟩:NF)=v1 at*;generalize (⟨bh p.b,false⟩:NF)=v2 at*;refine aM nf ID mix (by simp[f161]) ?_;have r:∀b:Bool,decide (p.eZ<0\/(t.cs.length:Int)<=p.eZ)=b->aC prog 72 [.bool b,.int .i64 10] (.int .i64 (aY b 10))/\aC prog 71 [.seq [.int .i64 (aY (!E) 8),.int .i64 (aY D 9),.int .i64 (aY b 10),.int .i64 H,.int .i64 I]] (.int .i64 l):=fun b m=>by
  rw[m]at k8;exact⟨k5 b,by simpa using k8⟩
 simp at i;have y:aC prog 72 [.bool (decide (0<A)),.int .i64 11] (.int .i64 (aY (decide (0<A)) 11)):=B;clear k5 k8 B;generalize M:aY (!E) 8=Q at*;generalize N:aY D 9=R at*;generalize O:aY (decide (0<A)) 11=S at*;generalize P:aY J 17=T at*;simp[f161,-bA,ad];rw[bA];simp[-bA,ad];rw[bA];simp[-bA,ad];refine cf k1 [1] ?_;simp[-bA,ad,bd,sig]
 by_cases e:p.eZ<0
 ·obtain⟨f1,f2⟩:=r true (by simp[e]);rw[bA,bA];simp[-bA,ad];refine Go.au.e1 k2 ?_;simp[-bA,ad];refine Go.au.e2 k3 ?_;simp[-bA,ad];refine Go.au.e2 k4 ?_;simp[-bA,ad,e];refine Go.au.e2 f1 ?_;simp[-bA,ad,e];refine Go.au.e1 k6 ?_;simp[-bA,ad,e];refine Go.au.e1 k7 ?_;simp[-bA,ad,e];refine ep f2 (by simp;first|exact⟨rfl,rfl⟩|rfl) (by simp;first|exact⟨rfl,rfl⟩|rfl) ?_;simp[-bA,ad,e];refine⟨by repeat' first|rfl|apply an,?_⟩
  by_cases c:l=0
  case neg=>simp[c,ad]
  simp[c,ad];refine Go.au.c2 (s c) ?_;simp[ad];refine Go.au.e1 (u c) ?_;simp[ad];refine Go.au.e1 (v c) ?_;simp[ad];refine Go.au.e1 (w c) ?_;simp[ad];refine Go.au.e1 (x c) ?_;simp[ad];refine Go.au.e2 (q c) ?_;simp[ad];refine Go.au.e2 y ?_;simp[ad];refine Go.au.e2 z ?_;simp[ad];refine ep i (by simp;first|exact⟨rfl,rfl⟩|rfl) (by simp;first|exact⟨rfl,rfl⟩|rfl) ?_;simp[ad];exact⟨by repeat' first|rfl|apply an,fun h=>(h c).elim⟩
 by_cases f:(t.cs.length:Int)<=p.eZ
 ·obtain⟨f1,f2⟩:=r true (by simp[e,f]);rw[bA,bA];simp[-bA,ad];refine Go.au.e1 k2 ?_;simp[-bA,ad];refine Go.au.e2 k3 ?_;simp[-bA,ad];refine Go.au.e2 k4 ?_;simp[-bA,ad,e,f];refine Go.au.e2 f1 ?_;simp[-bA,ad,e,f];refine Go.au.e1 k6 ?_;simp[-bA,ad,e,f];refine Go.au.e1 k7 ?_;simp[-bA,ad,e,f];refine ep f2 (by simp;first|exact⟨rfl,rfl⟩|rfl) (by simp;first|exact⟨rfl,rfl⟩|rfl) ?_;simp[-bA,ad,e,f];refine⟨by repeat' first|rfl|apply an,?_⟩
  by_cases c:l=0
  case neg=>simp[c,ad]
  simp[c,ad];refine Go.au.c2 (s c) ?_;simp[ad];refine Go.au.e1 (u c) ?_;simp[ad];refine Go.au.e1 (v c) ?_;simp[ad];refine Go.au.e1 (w c) ?_;simp[ad];refine Go.au.e1 (x c) ?_;simp[ad];refine Go.au.e2 (q c) ?_;simp[ad];refine Go.au.e2 y ?_;simp[ad];refine Go.au.e2 z ?_;simp[ad];refine ep i (by simp;first|exact⟨rfl,rfl⟩|rfl) (by simp;first|exact⟨rfl,rfl⟩|rfl) ?_;simp[ad];exact⟨by repeat' first|rfl|apply an,fun h=>(h c).elim⟩
 ·obtain⟨f1,f2⟩:=r false (by simp[e,f]);rw[bA,bA];simp[-bA,ad];refine Go.au.e1 k2 ?_;simp[-bA,ad];refine Go.au.e2 k3 ?_;simp[-bA,ad];refine Go.au.e2 k4 ?_;simp[-bA,ad,e,f];refine Go.au.e2 f1 ?_;simp[-bA,ad,e,f];refine Go.au.e1 k6 ?_;simp[-bA,ad,e,f];refine Go.au.e1 k7 ?_;simp[-bA,ad,e,f];refine ep f2 (by simp;first|exact⟨rfl,rfl⟩|rfl) (by simp;first|exact⟨rfl,rfl⟩|rfl) ?_;simp[-bA,ad,e,f];refine⟨by repeat' first|rfl|apply an,?_⟩
  by_cases c:l=0
  case neg=>simp[c,ad]
  simp[c,ad];refine Go.au.c2 (s c) ?_;simp[ad];refine Go.au.e1 (u c) ?_;simp[ad];refine Go.au.e1 (v c) ?_;simp[ad];refine Go.au.e1 (w c) ?_;simp[ad];refine Go.au.e1 (x c) ?_;simp[ad];refine Go.au.e2 (q c) ?_;simp[ad];refine Go.au.e2 y ?_;simp[ad];refine Go.au.e2 z ?_;simp[ad];refine ep i (by simp;first|exact⟨rfl,rfl⟩|rfl) (by simp;first|exact⟨rfl,rfl⟩|rfl) ?_;simp[ad];exact⟨by repeat' first|rfl|apply an,fun h=>(h c).elim⟩
def jg(a:List cQ)(s:cQ):Int:=bJ [aY (!isName s.name) 8,aY (a.any fun o=>decide (o.name=s.name)) 9,cq s.pt]
theorem SC(t:aq)(b:List cQ)(s:cQ):iK t b s=if jg b s=0 then aY (decide (t.on (vP s.pt)<0)) 16 else jg b s:=by
 rw[iK,jg];generalize cq s.pt=c;generalize (b.any fun o=>decide (o.name=s.name))=a;cases e:isName s.name
 ·simp[bJ,aY]
 cases a
 case true=>simp[bJ,aY]
 by_cases d:c=0
 case neg=>simp[bJ,aY,d]
 simp[bJ,aY,d]
theorem Gg{bef:List cQ}{s:cQ}(h:jg bef s=0):cq s.pt=0:=by
 rw[jg,mb]at h;exact h _ (by simp)
theorem SH(t:aq)(s:cQ)(a:List cQ)(k:t.cs.length<=1000000)(l:∀p∈t.cs,eU p)(hs:jU s)(j:a.length<=1000000):
 aC prog 163 [b8 t,fW s,.seq (a.map fW)] (.int .i64 (iK t a s)):=by
 obtain⟨r,f⟩:=hs;have k1:=SF s a j;have k2:=Br s.name r.1;have k3:=ic (!isName s.name) 8;have k4:=ic (a.any fun o=>decide (o.name=s.name)) 9;have k6:=tu s.pt f;have k8:=mH [aY (!isName s.name) 8,aY (a.any fun o=>decide (o.name=s.name)) 9,cq s.pt] (by simp);have c:=Gg (bef:=a) (s:=s);rw[SC];have m:=fun h:jg a s=0=>qH s.pt (gV (c h)).1 (gV (c h)).2 f;have e:=fun h:jg a s=0=>vx t (.from s.pt) k l (vF ⟨(fJ (gV (c h)).1).mono (by decide),(fJ (gV (c h)).2).mono (by decide)⟩);have n:=ic (decide (t.on (vP s.pt)<0)) 16;rw[oF]at e;have d1:jg a s=bJ [aY (!isName s.name) 8,aY (a.any fun o=>decide (o.name=s.name)) 9,cq s.pt]:=rfl;rw[<-d1]at k8;clear d1 c;generalize jg a s=d at*;generalize t.on (vP s.pt)=y at*;generalize cq s.pt=u at*;generalize (a.any fun o=>decide (o.name=s.name))=g at*;generalize isName s.name=i at*;generalize NV.from s.pt=v1 at*;refine aM nf PF mix (by simp[f163]) ?_;have q:aC prog 71 [.seq [.int .i64 (aY (!i) 8),.int .i64 (aY g 9),.int .i64 u]] (.int .i64 d):=by simpa using k8
 clear k8;generalize v:aY (!i) 8=z at*;generalize w:aY g 9=A at*;generalize x:aY (decide (y<0)) 16=B at*;simp[f163,ad];refine cf k1 [1] ?_;simp[ad,bd,sig];refine Go.au.e1 k2 ?_;simp[ad];refine Go.au.e2 k3 ?_;simp[ad];refine Go.au.e2 k4 ?_;simp[ad];refine Go.au.e1 k6 ?_;simp[ad];refine ep q (by simp;first|exact⟨rfl,rfl⟩|rfl) (by simp;first|exact⟨rfl,rfl⟩|rfl) ?_;simp[ad];refine⟨by repeat' first|rfl|apply an,?_⟩
 by_cases b:d=0
 case neg=>simp[b,ad]
 simp[b,ad];refine Go.au.e1 (m b) ?_;simp[ad];refine Go.au.e2 (e b) ?_;simp[ad];refine Go.au.e2 n ?_;simp[ad];exact fun h=>(h b).elim
def jK{α:Type}(b:Nat)(a:List α->α->Int)(l:List α):Int:=if b<l.length then 5 else jJ a l
theorem zJ{α:Type}{n:Nat}{f:α->PV}(h:∀a,ad (.p (f a))≠.bad/\bI prog (ad (.p (f a)))=n)(l:List α):fg prog n (l.map (AV.p∘f)):=vO.2 fun v b=>by
 obtain⟨a,_,rfl⟩:=List.mem_map.1 b;exact h a
theorem KR(l:List dV):fg prog 4 (l.map (AV.p∘fx)):=zJ (fun r=>⟨by simp[ad],by simp[ad]⟩) l
theorem KS(l:List cQ):fg prog 3 (l.map (AV.p∘fW)):=zJ (fun r=>⟨by simp[ad],by simp[ad]⟩) l
theorem SR(t:aq)(a:Nat)(h:t.cs.length<=1000000)(m:t.bf.length<=1000000)(c:∀p∈t.bf,sJ p):
 aC prog 160 [.seq (t.bf.map fx),.int .i64 a,.func 161 [b8 t] []] (.int .i64 (jK a (iw t.cs.length) t.bf)):=by
 refine aM nf IE mix (by simp[f160]) ?_;rw[jK]
 by_cases c1:a<t.bf.length
 ·have cI:(a:Int)<t.bf.length:=by omega
  rw[if_pos c1];simp[f160,cI]
 have d:¬(a:Int)<t.bf.length:=by omega
 rw[if_neg c1];simp[f160,d];refine lp (α:=Nat) (fun i=>⟨[(16,.p (.int .i64 i)),(15,.p (.int .i64 t.bf.length)),(14,.p (.seq (t.bf.map fx))),(0,.p (.seq (t.bf.map fx))),(2,.p (.func 161 [b8 t] []))],[]⟩) (fun i=>i<=t.bf.length/\∀j,j<i->fS (iw t.cs.length) t.bf j=0) (fun i=>t.bf.length-i) 0 (by simp) ?_;rintro i ⟨k1,k2⟩
 by_cases hk:i<t.bf.length
 ·have gk:=aq.lJ hk;have l:=cr (i:=i) (by omega);have b:=Su t (t.pk i) (t.bf.take i) h (c _ (a8 gk)) (by rw[bk];omega) (fun o k=>by
   obtain⟨j,f,rfl⟩:=bo.1 k;rw[bk]at f;rw[b0];have:=k2 j (by omega);have g:=aq.lJ (t:=t) (i:=j) (by omega);rw[fS,g]at this;rw[aq.RD (by omega)];exact⟨c _ (a8 g),Gf this⟩)
  rw[b1]at b
  by_cases he:iw t.cs.length (t.bf.take i) (t.pk i)=0
  ·rw[he]at b;have:=sT k2 gk he;simp[hk,gk,ad];refine⟨⟨k1,KR _⟩,?_⟩;refine Go.au.e3 b ?_;simp[l,ad];exact rd (i+1) ⟨hk,this⟩
  ·have e:=sU k2 gk he;rw[e];simp[hk,gk,ad];refine⟨⟨k1,KR _⟩,?_⟩;refine Go.au.e3 b ?_;simp[he,ad]
 ·have:i=t.bf.length:=by omega
  subst this;rw[lR.2 k2];simp
theorem SQ(t:aq)(a:Nat)(e:t.cs.length<=1000000)(f:∀p∈t.cs,eU p)(k:t.aj.length<=1000000)(g:∀p∈t.aj,jU p):
 aC prog 162 [.seq (t.aj.map fW),.int .i64 a,.func 163 [b8 t] []] (.int .i64 (jK a (iK t) t.aj)):=by
 refine aM nf PG mix (by simp[f162]) ?_;rw[jK]
 by_cases c1:a<t.aj.length
 ·have cI:(a:Int)<t.aj.length:=by omega
  rw[if_pos c1];simp[f162,cI]
 have c:¬(a:Int)<t.aj.length:=by omega
 rw[if_neg c1];simp[f162,c];refine lp (α:=Nat) (fun i=>⟨[(16,.p (.int .i64 i)),(15,.p (.int .i64 t.aj.length)),(14,.p (.seq (t.aj.map fW))),(0,.p (.seq (t.aj.map fW))),(2,.p (.func 163 [b8 t] []))],[]⟩) (fun i=>i<=t.aj.length/\∀j,j<i->fS (iK t) t.aj j=0) (fun i=>t.aj.length-i) 0 (by simp) ?_;rintro i ⟨k1,k2⟩
 by_cases hk:i<t.aj.length
 ·have gk:=aq.dZ hk;have h:=cr (i:=i) (by omega);have b:=SH t (t.sp i) (t.aj.take i) e f (g _ (a8 gk)) (by rw[bk];omega);rw[b1]at b
  by_cases he:iK t (t.aj.take i) (t.sp i)=0
  ·rw[he]at b;have:=sT k2 gk he;simp[hk,gk,ad];refine⟨⟨k1,KS _⟩,?_⟩;refine Go.au.e3 b ?_;simp[h,ad];exact rd (i+1) ⟨hk,this⟩
  ·have d:=sU k2 gk he;rw[d];simp[hk,gk,ad];refine⟨⟨k1,KS _⟩,?_⟩;refine Go.au.e3 b ?_;simp[he,ad]
 ·have:i=t.aj.length:=by omega
  subst this;rw[lR.2 k2];simp
def lQ(t:aq):Int:=bJ [aY (decide ((t.cs.length:Int)<3)) 2,aY (decide (12<(t.cs.length:Int))) 5,aY (t.cs.any fk) 3]
def oW(t:aq):Int:=bJ [aY (!t.dv) 15,aY (decide (t.bm<1\/1000<t.bm)) 3,jK 12 (iw t.cs.length) t.bf]
theorem F7{t:aq}(h:lQ t=0):3<=t.cs.length/\t.cs.length<=12/\∀p∈t.cs,eU p:=by
 rw[lQ,mb]at h;have b:=h (aY (decide ((t.cs.length:Int)<3)) 2) (by simp);have d:=h (aY (decide (12<(t.cs.length:Int))) 5) (by simp);have a:=h (aY (t.cs.any fk) 3) (by simp);refine⟨?_,?_,fun p e=>Gd ?_⟩
 ·by_cases c:(t.cs.length:Int)<3
  ·simp[aY,c]at b
  ·omega
 ·by_cases c:12<(t.cs.length:Int)
  ·simp[aY,c]at d
  ·omega
 ·cases hf:fk p
  ·rfl
  ·have:t.cs.any fk=true:=List.any_eq_true.2 ⟨p,e,hf⟩;rw[this]at a;simp[aY]at a
theorem xT(t:aq):dH t=if lQ t=0 then(if oW t=0 then jK 256 (iK t) t.aj else oW t)else lQ t:=by
 rw[dH,lQ,oW,jK,jK]
 by_cases c1:t.cs.length<3
 ·have:(t.cs.length:Int)<3:=by omega
  simp[bJ,aY,c1,this]
 have b:¬(t.cs.length:Int)<3:=by omega
 by_cases c2:12<t.cs.length
 ·have:(12:Int)<t.cs.length:=by omega
  simp[bJ,aY,c1,c2,b,this]
 have c:¬(12:Int)<t.cs.length:=by omega
 generalize t.cs.any fk=a;cases a
 case true=>simp[bJ,aY,c1,c2,b,c]
 cases t.dv
 ·simp[bJ,aY,c1,c2,b,c]
 by_cases c3:t.bm<1\/1000<t.bm
 ·simp[bJ,aY,c1,c2,b,c,c3]
 by_cases c4:12<t.bf.length
 ·simp[bJ,aY,c1,c2,b,c,c3,c4]
 generalize jJ (iw t.cs.length) t.bf=e
 by_cases c5:e=0
 ·simp[bJ,aY,c1,c2,b,c,c3,c4,c5]
 ·simp[bJ,aY,c1,c2,b,c,c3,c4,c5]
theorem Bo(t:aq)(v:iM t):aC prog 68 [b8 t] (.int .i64 (dH t)):=by
 obtain⟨k,z,A,s,u⟩:=v;have k1:=ic (decide ((t.cs.length:Int)<3)) 2;have k2:=ic (decide (12<(t.cs.length:Int))) 5;have k3:=Sq t.cs k;have k4:=ic (t.cs.any fk) 3;have k5:=mH [aY (decide ((t.cs.length:Int)<3)) 2,aY (decide (12<(t.cs.length:Int))) 5,aY (t.cs.any fk) 3] (by simp);have l:=F7 (t:=t);rw[xT];have w:=fun h:lQ t=0=>SS t (l h).1 k (l h).2.2;have x:=ic (!t.dv) 15;have q:=fun b=>ic b 3;have n:=SR t 12 k z s;have j:=mH [aY (!t.dv) 15,aY (decide (t.bm<1\/1000<t.bm)) 3,jK 12 (iw t.cs.length) t.bf] (by simp);have o:=fun h:lQ t=0=>SQ t 256 k (l h).2.2 A u;have d1:lQ t=bJ [aY (decide ((t.cs.length:Int)<3)) 2,aY (decide (12<(t.cs.length:Int))) 5,aY (t.cs.any fk) 3]:=rfl;have d2:oW t=bJ [aY (!t.dv) 15,aY (decide (t.bm<1\/1000<t.bm)) 3,jK 12 (iw t.cs.length) t.bf]:=rfl;rw[<-d1]at k5;rw[<-d2]at j;clear d1 d2 l;generalize lQ t=p at*;generalize oW t=i at*;generalize jK 12 (iw t.cs.length) t.bf=F at*;generalize jK 256 (iK t) t.aj=M at*;generalize t.cs.any fk=G at*;generalize t.dv=H at*;generalize I:aY (decide ((t.cs.length:Int)<3)) 2=B at*;generalize J:aY (decide (12<(t.cs.length:Int))) 5=C at*;generalize K:aY G 3=D at*;generalize L:aY (!H) 15=E at*;have m:∀b:Bool,decide (t.bm<1\/1000<t.bm)=b->aC prog 72 [.bool b,.int .i64 3] (.int .i64 (aY b 3))/\aC prog 71 [.seq [.int .i64 E,.int .i64 (aY b 3),.int .i64 F]] (.int .i64 i):=fun b r=>by
  rw[r]at j;exact⟨q b,by simpa using j⟩
 have y:aC prog 71 [.seq [.int .i64 B,.int .i64 C,.int .i64 D]] (.int .i64 p):=by simpa using k5
 clear j q k5;refine aM nf QO mix (by simp[f68]) ?_;simp[f68,ad];refine Go.au.e2 k1 ?_;simp[ad];refine Go.au.e2 k2 ?_;simp[ad];refine Go.au.e2 k3 ?_;simp[ad];refine Go.au.e2 k4 ?_;simp[ad];refine ep y (by simp;first|exact⟨rfl,rfl⟩|rfl) (by simp;first|exact⟨rfl,rfl⟩|rfl) ?_;simp[ad];refine⟨by repeat' first|rfl|apply an,?_⟩
 by_cases a:p=0
 case neg=>simp[a,ad]
 simp[a,ad];refine Go.au.e1 (w a) ?_;simp[ad];refine Go.au.e2 x ?_;simp[ad]
 by_cases c:t.bm<1
 ·have d:¬1<=t.bm:=by omega
  obtain⟨f1,f2⟩:=m true (by simp[c]);simp[c,d,ad];refine Go.au.e2 f1 ?_;simp[c,d,ad];refine Go.au.e3 n ?_;simp[c,d,ad];refine ep f2 (by simp;first|exact⟨rfl,rfl⟩|rfl) (by simp;first|exact⟨rfl,rfl⟩|rfl) ?_;simp[c,d,ad];refine⟨by repeat' first|rfl|apply an,?_⟩
  by_cases e:i=0
  case neg=>simp[a,e,ad]
  simp[a,e,ad];refine Go.au.c3 (o a) ?_;simp[a,e,ad]
 have d:1<=t.bm:=by omega
 by_cases f:1000<t.bm
 ·have g:¬t.bm<=1000:=by omega
  obtain⟨f1,f2⟩:=m true (by simp[c,f]);simp[c,d,f,g,ad];refine Go.au.e2 f1 ?_;simp[c,d,f,g,ad];refine Go.au.e3 n ?_;simp[c,d,f,g,ad];refine ep f2 (by simp;first|exact⟨rfl,rfl⟩|rfl) (by simp;first|exact⟨rfl,rfl⟩|rfl) ?_;simp[c,d,f,g,ad];refine⟨by repeat' first|rfl|apply an,?_⟩
  by_cases e:i=0
  case neg=>simp[a,e,ad]
  simp[a,e,ad];refine Go.au.c3 (o a) ?_;simp[a,e,ad]
 ·have g:t.bm<=1000:=by omega
  obtain⟨f1,f2⟩:=m false (by simp[c,f]);simp[c,d,f,g,ad];refine Go.au.e2 f1 ?_;simp[c,d,f,g,ad];refine Go.au.e3 n ?_;simp[c,d,f,g,ad];refine ep f2 (by simp;first|exact⟨rfl,rfl⟩|rfl) (by simp;first|exact⟨rfl,rfl⟩|rfl) ?_;simp[c,d,f,g,ad];refine⟨by repeat' first|rfl|apply an,?_⟩
  by_cases e:i=0
  case neg=>simp[a,e,ad]
  simp[a,e,ad];refine Go.au.c3 (o a) ?_;simp[a,e,ad]
def aq.aKE(t:aq)(i:Nat):NV:=(dU (t.at (t.nx i))).sub (dU (t.at i))
def NS.add(s t:NS):NS:=⟨s.a.add t.a,s.b.add t.b,s.d⟩
def NS.neg(s:NS):NS:=⟨s.a.neg,s.b.neg,s.d⟩
def NS.times(s:NS)(k:NF):NS:=⟨s.a.mul k,s.b.mul k,s.d⟩
def NB.bE(n:NB)(e:NV):NS:=⟨e.bE n.a,e.bE n.b,n.d⟩
def NS.plain(a d:NF):NS:=⟨a,.int 0,d⟩
def NS.norm(s:NS):NF:=(s.a.mul s.a).sub ((s.b.mul s.b).mul s.d)
open Classical in
noncomputable def NS.under(s:NS)(k:NF):NS:=if s.norm.q=0 then .plain (k.div (s.a.add s.a)) s.d else⟨(k.mul s.a).div s.norm,(k.mul s.b).neg.div s.norm,s.d⟩
theorem Fq.mono{k l:Nat}{s:NS}(h:Fq k s)(a:k<=l):Fq l s:=⟨h.1.mono a,h.2.1.mono a,h.2.2.mono a⟩
def aq.pos(t:aq)(n:NB)(i:Nat):Bool:=decide (0<sgS ((n.bE (t.aKE i)).neg).q)
def oK(t:aq)(p:ez):Int:=bJ [dH t,cq p]
theorem lP{t:aq}(h:dH t=0):3<=t.cs.length/\t.cs.length<=12/\(∀p∈t.cs,eU p)/\t.dv=true:=by
 rw[xT]at h
 by_cases d:lQ t=0
 ·rw[if_pos d]at h
  by_cases e:oW t=0
  ·obtain⟨a,b,c⟩:=F7 d;refine⟨a,b,c,?_⟩;rw[oW,mb]at e;have f:=e (aY (!t.dv) 15) (by simp);cases hc:t.dv
   ·rw[hc]at f;simp[aY]at f
   ·rfl
  ·rw[if_neg e]at h;exact(e h).elim
 ·rw[if_neg d]at h;exact(d h).elim
theorem Sx{t:aq}{p:ez}(h:oK t p=0):dH t=0/\cq p=0:=by
 rw[oK,mb]at h;exact⟨h _ (by simp),h _ (by simp)⟩
def ie:PV:=.st 46 [.str [],.str []]
theorem mE(s:List Nat)(n:Int):aC prog 59 [.str s,.int .i64 n] (.bool (decide ((s.length:Int)<=n))):=by
 refine aM nf QN mix (by simp[f59]) ?_;simp[f59]
def jH(p:dV):Bool:=decide (p.name.length<=40)&&(decide (p.a.length<=40)&&decide (p.b.length<=40))
def gK(s:cQ):Bool:=decide (s.name.length<=40)&&(decide (s.pt.x.length<=40)&&decide (s.pt.y.length<=40))
def kZ(t:aq):Bool:=!(decide (14<t.cs.length)||(decide (14<t.bf.length)||((decide (8<t.aj.length)&&decide (t.aj.length<=256))||decide (258<t.aj.length))))&&(t.bf.all jH&&t.aj.all gK)
theorem oT{α:Type}{f:α->Bool}{l:List α}{i:Nat}{x:α}(h:l[i]?=some x):(l.take (i+1)).all f=((l.take i).all f&&f x):=by
 rw[bv,h];simp
theorem jh{α:Type}{f:α->Bool}{l:List α}{i:Nat}{x:α}(h:l[i]?=some x)(hf:f x=false):l.all f=false:=by
 cases a:l.all f
 ·rfl
 ·rw[List.all_eq_true]at a;rw[a x (a8 h)]at hf;cases hf
theorem SN(t:aq)(B:t.cs.length<=1000000)(C:t.bf.length<=1000000)(D:t.aj.length<=1000000):aC prog 10 [cV t] (.bool (kZ t)):=by
 refine aM nf Qq mix (by simp[f10]) ?_;have s:kZ t=(!(decide (14<t.cs.length)||(decide (14<t.bf.length)||((decide (8<t.aj.length)&&decide (t.aj.length<=256))||decide (258<t.aj.length))))&&(t.bf.all jH&&t.aj.all gK)):=rfl
 by_cases c1:14<t.cs.length
 ·have q:(14:Int)<t.cs.length:=by omega
  have o:kZ t=false:=by rw[s];simp[c1]
  simp[f10,ad,q,o]
 have q:¬(14:Int)<t.cs.length:=by omega
 by_cases c2:14<t.bf.length
 ·have r:(14:Int)<t.bf.length:=by omega
  have o:kZ t=false:=by rw[s];simp[c2]
  simp[f10,ad,q,r,o]
 have r:¬(14:Int)<t.bf.length:=by omega
 have tail:(8<t.aj.length->¬t.aj.length<=256)->¬258<t.aj.length->kZ t=(t.bf.all jH&&t.aj.all gK):=fun A z=>by
  rw[s]
  by_cases h:8<t.aj.length
  ·have:=A h;simp[c1,c2,h,this,z]
  ·simp[c1,c2,h,z]
 by_cases c3:8<t.aj.length
 ·have u:(8:Int)<t.aj.length:=by omega
  by_cases c4:t.aj.length<=256
  ·have w:(t.aj.length:Int)<=256:=by omega
   have o:kZ t=false:=by rw[s];simp[c3,c4]
   simp[f10,ad,q,r,u,w,o]
  ·have w:¬(t.aj.length:Int)<=256:=by omega
   by_cases c5:258<t.aj.length
   ·have v:(258:Int)<t.aj.length:=by omega
    have o:kZ t=false:=by rw[s];simp[c5]
    simp[f10,ad,q,r,u,w,v,o]
   ·have v:¬(258:Int)<t.aj.length:=by omega
    rw[tail (fun _=>c4) c5];simp[f10,ad,q,r,u,w,v];refine lp (α:=Nat) (fun i=>⟨[(3,.p (.int .i64 i)),(1,.ptr 0 [])],[.box false (.p (cV t))]⟩) (fun i=>i<=t.bf.length/\(t.bf.take i).all jH=true) (fun i=>t.bf.length-i) 0 (by simp) ?_;rintro i ⟨k1,k2⟩
    by_cases hi:i<t.bf.length
    ·have c:=aq.lJ hi;have n:=cr (i:=i) (by omega);have f:=mE (t.pk i).a 40;have j:=mE (t.pk i).b 40;have g:jH (t.pk i)=(decide ((t.pk i).name.length<=40)&&(decide ((t.pk i).a.length<=40)&&decide ((t.pk i).b.length<=40))):=rfl
     by_cases m:(t.pk i).name.length<=40
     ·have d:¬(40:Int)<(t.pk i).name.length:=by omega
      by_cases a2:(t.pk i).a.length<=40
      ·have k:((t.pk i).a.length:Int)<=40:=by omega
       rw[decide_eq_true k]at f
       by_cases a3:(t.pk i).b.length<=40
       ·have l:((t.pk i).b.length:Int)<=40:=by omega
        rw[decide_eq_true l]at j;have e:jH (t.pk i)=true:=by rw[g];simp[m,a2,a3]
        simp[hi,c,d,ad];refine Go.au.c2 f ?_;simp[hi,c,d,ad];refine Go.au.c2 j ?_;simp[hi,c,d,n,ad];exact rd (i+1) ⟨hi,by rw[oT c,k2,e];rfl⟩
       ·have l:¬((t.pk i).b.length:Int)<=40:=by omega
        rw[decide_eq_false l]at j;have e:jH (t.pk i)=false:=by rw[g];simp[a3]
        rw[jh c e];simp[hi,c,d,ad];refine Go.au.c2 f ?_;simp[hi,c,d,ad];refine Go.au.c2 j ?_;simp[hi,c,d,n,ad]
      ·have k:¬((t.pk i).a.length:Int)<=40:=by omega
       rw[decide_eq_false k]at f;have e:jH (t.pk i)=false:=by rw[g];simp[a2]
       rw[jh c e];simp[hi,c,d,ad];refine Go.au.c2 f ?_;simp[hi,c,d,ad]
     ·have d:(40:Int)<(t.pk i).name.length:=by omega
      have e:jH (t.pk i)=false:=by rw[g];simp[m]
      rw[jh c e];simp[hi,c,d,ad]
    have:i=t.bf.length:=by omega
    subst this;rw[bi]at k2;rw[k2,av];simp[ad];refine lp (α:=Nat) (fun i=>⟨[(4,.p (.int .i64 i)),(1,.ptr 0 [])],[.box false (.p (cV t))]⟩) (fun i=>i<=t.aj.length/\(t.aj.take i).all gK=true) (fun i=>t.aj.length-i) 0 (by simp) ?_;rintro i ⟨k1,k2⟩
    by_cases hi:i<t.aj.length
    ·have c:=aq.dZ hi;have n:=cr (i:=i) (by omega);have f:=mE (t.sp i).pt.x 40;have j:=mE (t.sp i).pt.y 40;have g:gK (t.sp i)=(decide ((t.sp i).name.length<=40)&&(decide ((t.sp i).pt.x.length<=40)&&decide ((t.sp i).pt.y.length<=40))):=rfl
     by_cases m:(t.sp i).name.length<=40
     ·have d:¬(40:Int)<(t.sp i).name.length:=by omega
      by_cases a2:(t.sp i).pt.x.length<=40
      ·have k:((t.sp i).pt.x.length:Int)<=40:=by omega
       rw[decide_eq_true k]at f
       by_cases a3:(t.sp i).pt.y.length<=40
       ·have l:((t.sp i).pt.y.length:Int)<=40:=by omega
        rw[decide_eq_true l]at j;have e:gK (t.sp i)=true:=by rw[g];simp[m,a2,a3]
        simp[hi,c,d,ad];refine Go.au.c2 f ?_;simp[hi,c,d,ad];refine Go.au.c2 j ?_;simp[hi,c,d,n,ad];exact rd (i+1) ⟨hi,by rw[oT c,k2,e];rfl⟩
       ·have l:¬((t.sp i).pt.y.length:Int)<=40:=by omega
        rw[decide_eq_false l]at j;have e:gK (t.sp i)=false:=by rw[g];simp[a3]
        rw[jh c e];simp[hi,c,d,ad];refine Go.au.c2 f ?_;simp[hi,c,d,ad];refine Go.au.c2 j ?_;simp[hi,c,d,n,ad]
      ·have k:¬((t.sp i).pt.x.length:Int)<=40:=by omega
       rw[decide_eq_false k]at f;have e:gK (t.sp i)=false:=by rw[g];simp[a2]
       rw[jh c e];simp[hi,c,d,ad];refine Go.au.c2 f ?_;simp[hi,c,d,ad]
     ·have d:(40:Int)<(t.sp i).name.length:=by omega
      have e:gK (t.sp i)=false:=by rw[g];simp[m]
      rw[jh c e];simp[hi,c,d,ad]
    have:i=t.aj.length:=by omega
    subst this;rw[bi]at k2;rw[k2];simp[ad]
 ·have u:¬(8:Int)<t.aj.length:=by omega
  have v:¬(258:Int)<t.aj.length:=by omega
  rw[tail (fun h=>absurd h c3) (by omega)];simp[f10,ad,q,r,u,v];refine lp (α:=Nat) (fun i=>⟨[(3,.p (.int .i64 i)),(1,.ptr 0 [])],[.box false (.p (cV t))]⟩) (fun i=>i<=t.bf.length/\(t.bf.take i).all jH=true) (fun i=>t.bf.length-i) 0 (by simp) ?_;rintro i ⟨k1,k2⟩
  by_cases hi:i<t.bf.length
  ·have c:=aq.lJ hi;have n:=cr (i:=i) (by omega);have f:=mE (t.pk i).a 40;have j:=mE (t.pk i).b 40;have g:jH (t.pk i)=(decide ((t.pk i).name.length<=40)&&(decide ((t.pk i).a.length<=40)&&decide ((t.pk i).b.length<=40))):=rfl
   by_cases m:(t.pk i).name.length<=40
   ·have d:¬(40:Int)<(t.pk i).name.length:=by omega
    by_cases a2:(t.pk i).a.length<=40
    ·have k:((t.pk i).a.length:Int)<=40:=by omega
     rw[decide_eq_true k]at f
     by_cases a3:(t.pk i).b.length<=40
     ·have l:((t.pk i).b.length:Int)<=40:=by omega
      rw[decide_eq_true l]at j;have e:jH (t.pk i)=true:=by rw[g];simp[m,a2,a3]
      simp[hi,c,d,ad];refine Go.au.c2 f ?_;simp[hi,c,d,ad];refine Go.au.c2 j ?_;simp[hi,c,d,n,ad];exact rd (i+1) ⟨hi,by rw[oT c,k2,e];rfl⟩
     ·have l:¬((t.pk i).b.length:Int)<=40:=by omega
      rw[decide_eq_false l]at j;have e:jH (t.pk i)=false:=by rw[g];simp[a3]
      rw[jh c e];simp[hi,c,d,ad];refine Go.au.c2 f ?_;simp[hi,c,d,ad];refine Go.au.c2 j ?_;simp[hi,c,d,n,ad]
    ·have k:¬((t.pk i).a.length:Int)<=40:=by omega
     rw[decide_eq_false k]at f;have e:jH (t.pk i)=false:=by rw[g];simp[a2]
     rw[jh c e];simp[hi,c,d,ad];refine Go.au.c2 f ?_;simp[hi,c,d,ad]
   ·have d:(40:Int)<(t.pk i).name.length:=by omega
    have e:jH (t.pk i)=false:=by rw[g];simp[m]
    rw[jh c e];simp[hi,c,d,ad]
  have:i=t.bf.length:=by omega
  subst this;rw[bi]at k2;rw[k2,av];simp[ad];refine lp (α:=Nat) (fun i=>⟨[(4,.p (.int .i64 i)),(1,.ptr 0 [])],[.box false (.p (cV t))]⟩) (fun i=>i<=t.aj.length/\(t.aj.take i).all gK=true) (fun i=>t.aj.length-i) 0 (by simp) ?_;rintro i ⟨k1,k2⟩
  by_cases hi:i<t.aj.length
  ·have c:=aq.dZ hi;have n:=cr (i:=i) (by omega);have f:=mE (t.sp i).pt.x 40;have j:=mE (t.sp i).pt.y 40;have g:gK (t.sp i)=(decide ((t.sp i).name.length<=40)&&(decide ((t.sp i).pt.x.length<=40)&&decide ((t.sp i).pt.y.length<=40))):=rfl
   by_cases m:(t.sp i).name.length<=40
   ·have d:¬(40:Int)<(t.sp i).name.length:=by omega
    by_cases a2:(t.sp i).pt.x.length<=40
    ·have k:((t.sp i).pt.x.length:Int)<=40:=by omega
     rw[decide_eq_true k]at f
     by_cases a3:(t.sp i).pt.y.length<=40
     ·have l:((t.sp i).pt.y.length:Int)<=40:=by omega
      rw[decide_eq_true l]at j;have e:gK (t.sp i)=true:=by rw[g];simp[m,a2,a3]
      simp[hi,c,d,ad];refine Go.au.c2 f ?_;simp[hi,c,d,ad];refine Go.au.c2 j ?_;simp[hi,c,d,n,ad];exact rd (i+1) ⟨hi,by rw[oT c,k2,e];rfl⟩
     ·have l:¬((t.sp i).pt.y.length:Int)<=40:=by omega
      rw[decide_eq_false l]at j;have e:gK (t.sp i)=false:=by rw[g];simp[a3]
      rw[jh c e];simp[hi,c,d,ad];refine Go.au.c2 f ?_;simp[hi,c,d,ad];refine Go.au.c2 j ?_;simp[hi,c,d,n,ad]
    ·have k:¬((t.sp i).pt.x.length:Int)<=40:=by omega
     rw[decide_eq_false k]at f;have e:gK (t.sp i)=false:=by rw[g];simp[a2]
     rw[jh c e];simp[hi,c,d,ad];refine Go.au.c2 f ?_;simp[hi,c,d,ad]
   ·have d:(40:Int)<(t.sp i).name.length:=by omega
    have e:gK (t.sp i)=false:=by rw[g];simp[m]
    rw[jh c e];simp[hi,c,d,ad]
  have:i=t.aj.length:=by omega
  subst this;rw[bi]at k2;rw[k2];simp[ad]
end Go.au
