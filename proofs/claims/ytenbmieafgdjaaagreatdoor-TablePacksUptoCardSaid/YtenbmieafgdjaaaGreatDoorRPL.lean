import Derived.Test.YtenbmieafgdjaaaGreatDoorRPK
import Derived.Test.YtenbmieafgdjaaaGreatDoorRPH
import Derived.Test.YtenbmieafgdjaaaGreatDoorRThE
/- Parts of a proof. -/
set_option linter.unusedSimpArgs false
set_option linter.unusedVariables false
set_option linter.unusedSectionVars false
open Go.Proofs.Tryz
open And renaming intro->ao
open Bool renaming and_eq_true->ap, cond_eq_ite->av, eq_iff_iff->ax, true_and->ay
open Go renaming FuncId->aT
open Go.Builtin renaming zeroCells->a0
open Go.IntKind renaming i64->a1
open Go.Lib renaming countByte->a4, compareBytes->a5, join->a6
open Int renaming tmod_eq_emod_of_nonneg->a7, natCast_emod->a8
open List renaming replicate->a9, mem_of_getElem?->bb, drop_eq_getElem_cons->be, map_cons->bi, getElem?_eq_some_iff->bk, take_length->bl, length_take->bo, length_eq_zero_iff->bv, mem_iff_getElem->b0, take_add_one->b1, getElem_take->b2, map_take->b3, range->b4
open Nat renaming eq_of_beq_eq_true->b5, beq->cb, le_of_ble_eq_true->cc, le_refl->ce, lt_trichotomy->ck, blt->cv, ble->cx, le_trans->cy, blt_eq->c6
open Option renaming ite_none_right_eq_some->c9
open Option.some renaming injEq->da
open Prod.mk renaming injEq->db
namespace Go.aj
open Go.Proofs
set_option maxHeartbeats 4000000
set_option maxRecDepth 100000
def lG(a:List Nat):List (List Nat)->List Nat
 |[]=>[]
 |[s]=>s
 |s::r=>s++a++lG a r
theorem Gk(b:List UInt8):∀(c:List (List UInt8)),lG (cT b) (c.map cT)=cT (a6 c b)
 |[]=>by simp[lG,Lib.join_nil,cT]
 |[x]=>by simp[lG,Lib.join_one]
 |x::y::r=>by
  have a:=Gk b (y::r);rw[Lib.join_cons]at a⊢;simp only[bi]at a⊢;rw[lG,a]
  ·simp[cT,Lib.joinTail]
  ·simp
theorem GC{w:World}{ad:Nat->Prop}:∀{l:List (List Nat)}{e:List Nat}{a:List (List Value)},aY prog w ad e (l.map .str) a->
 ∃d:List ByteArray,a.flatten=d.map .string/\l=d.map (fun b=>cT b.data.toList)
 |[],e,a,h=>by
  have:=uM h;subst this;exact⟨[],by simp,by simp⟩
 |s::l,[],a,h=>by simp[aY]at h
 |s::l,n::e,a,h=>by
  simp only[bi,aY,aP]at h;obtain⟨c,cs,rfl,⟨bs,rfl,f⟩,_,g⟩:=h;obtain⟨d,g1,g2⟩:=GC g;exact⟨bs::d,by simp[g1],by simp[g2,f,cT]⟩
theorem Yl(full:Bool)(l:List (List Nat))(d:List Nat)(F:l.length<=140737488355328)(k:(lG d l).length<=140737488355328):aw prog 227 [.bL full (l.map .str),.str d] (.str (lG d l)):=by
 refine jD (iN func227 (by kernel_rfl)) fun w ad B t E s=>?_;obtain⟨x,y,rfl,f,g⟩:=mA s;simp only[aA]at f g;obtain⟨sp,rfl,rfl⟩:=g;obtain⟨al,off,cap,ai,C,p,q,h,D,i,o,A,rfl⟩:=f;obtain⟨xs,g1,g2⟩:=GC p;have b:(l.map PV.str).length=xs.length:=by rw[g2];simp
 cases c:xs with
 |nil=>
  subst c;have v:l=[]:=by simpa using g2
  subst v;refine(strings_Join_none (some ⟨al,off,o⟩) cap sp w).mono ?_;rintro e w' ⟨rfl,rfl⟩;exact⟨_,rfl,⟨ce _,fun _ _=>rfl,rfl,rfl⟩,fun w ad=>by simpa[lG,cT]using tv (P:=prog) (w:=w) (ad:=ad) []⟩
 |cons G r=>
  have z:l.map PV.str≠[]:=by rw[g2,c];simp
  obtain rfl:o=none:=A.resolve_right (by rw[b,c]at i;simp at i;omega);have m:=Gk sp.data.toList (xs.map (·.data.toList))
  have e2:(xs.map (·.data.toList)).map cT=l:=by rw[g2];simp
  rw[e2]at m;have n:lG (sp.data.toList.map (·.toNat)) l=cT (a6 (xs.map (·.data.toList)) sp.data.toList):=m
  rw[b];refine(strings_Join al off cap xs sp w (fun j x hx=>?_) (t _ (q z)) (by simp at b;omega) (by omega) ?_).mono ?_
  ·have u:j<xs.length:=(bk.1 hx).1;rw[g1]at h;have:=h j (by simpa using u);rw[this];simp[(bk.1 hx).2]
  ·rw[n]at k;simpa[cT]using k
  ·rintro e w' ⟨rfl,a⟩;exact⟨_,rfl,⟨a.size,a.block,a.os,a.output⟩,fun w ad=>by rw[n];exact tv _⟩
def rK(c:Nat):List Nat->Nat->Nat
 |[],n=>n
 |x::r,n=>bif cb x c then rK c r (n+1)else rK c r n
theorem Gy(c:UInt8):∀(l:List UInt8)(n:Nat),rK c.toNat (cT l) n=n+a4 l c
 |[],n=>by simp[rK,cT,a4]
 |x::r,n=>by
  have a:=Gy c r;simp only[cT]at a;simp only[cT,bi,rK,a4,List.count_cons]
  by_cases hx:x=c
  ·subst hx;simp[a,a4];omega
  ·have d:cb x.toNat c.toNat=false:=by
    cases b:cb x.toNat c.toNat
    ·rfl
    ·exact(hx (UInt8.toNat_inj.1 (b5 b))).elim
   simp[d,a,a4,hx]
theorem Yg(s:List Nat)(c:Nat):aw prog 328 [.str s,.str [c]] (.int .i64 (rK c s 0:Nat)):=by
 refine jD (iN func328 (by kernel_rfl)) fun w ad g _ _ f=>?_;obtain⟨x,y,rfl,a,d⟩:=mA f;obtain⟨b,rfl,rfl⟩:=one_byte d;obtain⟨bs,rfl,rfl⟩:=mL a;refine(strings_Count_one bs b w).mono ?_;rintro e w' ⟨rfl,rfl⟩;refine⟨_,rfl,⟨ce _,fun _ _=>rfl,rfl,rfl⟩,fun w ad=>?_⟩;have e1:=Gy b bs.data.toList 0;simp only[aA]at e1⊢;rw[e1];simp
def wA:List Nat->List Nat->Int
 |[],[]=>0
 |[],_::_=>-1
 |_::_,[]=>1
 |a::r,b::t=>bif cv a b then -1 else bif cv b a then 1 else wA r t
theorem Gz:∀a b:List UInt8,wA (cT a) (cT b)=a5 a b
 |[],[]=>rfl
 |[],_::_=>rfl
 |_::_,[]=>rfl
 |a::r,b::t=>by
  have e:=Gz r t;simp only[cT,bi,wA,a5]at e⊢;have e1:cv a.toNat b.toNat=decide (a<b):=by
   rw[ax,c6,decide_eq_true_eq,UInt8.lt_iff_toNat_lt]
  have e2:cv b.toNat a.toNat=decide (b<a):=by
   rw[ax,c6,decide_eq_true_eq,UInt8.lt_iff_toNat_lt]
  rw[e1,e2,e]
  by_cases c:a<b
  ·simp[c]
  ·by_cases d:b<a
   ·simp[c,d]
   ·simp[c,d]
theorem Yf(a b:List Nat):aw prog 218 [.str a,.str b] (.int .i64 (wA a b)):=by
 refine jD (iN func218 (by kernel_rfl)) fun w ad g _ _ f=>?_;obtain⟨x,y,rfl,c,d⟩:=mA f;obtain⟨bs,rfl,rfl⟩:=mL c;obtain⟨cs,rfl,rfl⟩:=mL d;refine(strings_Compare bs cs w).mono ?_;rintro e w' ⟨rfl,rfl⟩;exact⟨_,rfl,⟨ce _,fun _ _=>rfl,rfl,rfl⟩,fun w ad=>by rw[Gz];simp only[aA]⟩
def sd:PV:=.st 60 [.int .i64 0,.int .i64 0]
theorem ZA{H:Heap}(n:Nat)(N:1<=n)(O:n<=1000000):c7 prog 263 H [.p .aN,.p (.int .i64 n)] (H++[.arr .grow 0 2 (a9 n (.p sd))]) (.sl H.length 0 2 0 0):=by
 refine⟨iN func263 (by kernel_rfl),fun w ad ah β K l g Q=>?_⟩;simp only[br,au,aA]at g;obtain⟨_,_,rfl,rfl,_,_,rfl,rfl,rfl⟩:=g;obtain⟨i,c,hi,G,q,_⟩:=oK (P:=prog) (T:=61) (z:=sd) (by kernel_rfl);have hs:i.size=2:=by
  have:(prog.info? 61).map (·.size)=some 2:=by kernel_rfl
  rw[hi]at this;simpa using this
 have y:i.bytes=16:=by
  have:(prog.info? 61).map (·.bytes)=some 16:=by kernel_rfl
  rw[hi]at this;simpa using this
 have r:c.cells.size=2:=by
  have:=(ny (q w ad)).1;have e:bD prog (aL sd)=2:=by kernel_rfl
  rw[e]at this;simpa using this
 have j:=Any8.slices_Grow_grow ZJ i c hi G (by omega) none 0 0 n [] w (ce _) (by omega) (by rw[y];omega) (by omega) (by simp) (fun _=>rfl) (fun a h=>by cases h);rw[show Gm.t 25=61 from rfl,Nat.zero_add]at j;refine j.mono ?_;rintro e w' ⟨rfl,rfl⟩;have D:=l.mS 1;have E:bP prog w.drew ad β (H++a9 1 .hole) ah:=bP.vg (w:=w) (w':=w.drew) rfl D;have u:(H++a9 1 Obj.hole)[H.length]?=some .hole:=by simp
 have A:n<=grownCap w n 0 61:=by simp[grownCap,Question.cut]
 have o:=uQ (β:=β) (H:=H++a9 1 .hole) (q w.drew ad) n;rw[show c.cells.toList.length=2 by simpa using r]at o;have I:∀m,(a0 c.cells m).toList=(a9 m c.cells.toList).flatten:=fun m=>xL c.cells m (by omega);obtain⟨q1,s⟩:=xT (T:=61) (k:=.grow) (ai:=2) (cap:=grownCap w n 0 61) E u
  (cells:=([]:List Value).toArray++a0 c.cells (n-0)++a0 c.cells (grownCap w n 0 61-n))
  (rest:=(a0 c.cells (grownCap w n 0 61-n)).toList)
  (by simp) (fun h=>by have:=h.2;rw[<-bv]at this;simp at this;omega) o
  (by rw[cG];intro v F;rw[List.eq_of_mem_replicate F];simp[aC])
  (by simp[I]) (by simp only[Array.size_append,Iv,r];simp;omega) (by simpa using A) (fun h=>by cases h) (fun h=>by cases h)
 rw[CR]at q1 s;have aB:=oJ β H 1;have J:bR prog ah ad w β H ad w β (H++a9 1 .hole):=⟨fun _ x=>x,fun _ x=>.inl x,Ext.refl _ _ _,aB,l.mS _,mz _ _,fun b⟨L,f⟩=>⟨L,by rw[jZ,if_pos (bk.1 f).1];exact f⟩⟩
 refine⟨_,_,ad,rfl,J.trans (bR.drew (w1:=w.drew) rfl ⟨rfl,rfl⟩ q1),?_,?_⟩
 ·simp only[au,bK,bO]at s⊢;refine⟨rfl,fun k M d=>?_⟩;have B:(H++[Obj.arr .grow 0 2 (a9 n (.p sd))])[H.length]?=some (.arr .grow 0 2 (a9 n (.p sd))):=by simp
  unfold eD at d;rw[B]at d;cases d;exact⟨by omega,fun C=>by have:=C.2;rw[<-bv]at this;simp at this;omega,fun _=>by simp[Bd.at]⟩
 ·simp only[aC];exact⟨.arr .grow 0 2 (a9 n (.p sd)),by simp,ce _⟩
namespace fV
def uH:List PV->Option (List (List Nat))
 |[]=>some []
 | .str s::r=>match uH r with
  |some l=>some (s::l)
  |none=>none
 |_=>none
theorem GJ:∀{l:List PV}{a:List (List Nat)},uH l=some a->l=a.map .str
 |[],a,h=>by simp[uH]at h;subst h;rfl
 |v::r,a,h=>by
  cases v<;>simp only[uH]at h<;>try (cases h;done)
  split at h
  ·rename_i l b;simp only[da]at h;subst h;rw[GJ b];rfl
  ·cases h
def D0(f:aT)(vs:List PV):Option PV:=
 bif cb f 227 then match vs with
  |[.bL _ l,.str sep]=>match uH l with
   |some d=>bif cx d.length 1000&&cx (lG sep d).length 100000 then some (.str (lG sep d))else none
   |none=>none
  |_=>none
 else bif cb f 328 then match vs with
  |[.str s,.str [c]]=>some (.int .i64 (rK c s 0:Nat))
  |_=>none
 else bif cb f 317 then match vs with
  |[.str s,.str [c]]=>some (.int .i64 (mX c s 0))
  |_=>none
 else bif cb f 218 then match vs with
  |[.str a,.str b]=>some (.int .i64 (wA a b))
  |_=>none
 else bif cb f 152 then match vs with
  |[.int .i64 n]=>bif Hk.om n then some (.str (bI n))else none
  |_=>none
 else none
theorem ZM{f:aT}{vs:List PV}{v:PV}(h:D0 f vs=some v):aw prog f vs v:=by
 unfold D0 at h;simp only[av]at h
 split at h
 ·rename_i hf;rw[b5 hf]
  split at h
  ·split at h
   ·rename_i a hs;simp only[c9,da,ap]at h;obtain⟨⟨g1,g2⟩,rfl⟩:=h;rw[GJ hs];exact Yl _ _ _ (cy (cc g1) (by decide)) (cy (cc g2) (by decide))
   ·cases h
  ·cases h
 split at h
 ·rename_i hf;rw[b5 hf]
  split at h
  ·simp only[da]at h;subst h;exact Yg _ _
  ·cases h
 split at h
 ·rename_i hf;rw[b5 hf]
  split at h
  ·simp only[da]at h;subst h;exact G7 _ _
  ·cases h
 split at h
 ·rename_i hf;rw[b5 hf]
  split at h
  ·simp only[da]at h;subst h;exact Yf _ _
  ·cases h
 split at h
 ·rename_i hf;rw[b5 hf]
  split at h
  ·simp only[c9,da]at h;obtain⟨g1,rfl⟩:=h;have:=Hk.yO.1 g1;exact G6 _ (by omega) (by omega)
  ·cases h
 ·cases h
def wK(f:aT)(args:List AV)(H:Heap):Option (AV×Heap):=
 bif cb f 226 then match args with
  |[.ptr b []]=>match H[b]? with
   |some (.box false (.p (.st u [.dC,x])))=>bif cb u 226 then some (.p (.aE []),H.set b (.box false (.st 226 [.ptr b [],.p x])))else none
   |some (.box false (.st u [.p .dC,x]))=>bif cb u 226 then some (.p (.aE []),H.set b (.box false (.st 226 [.ptr b [],x])))else none
   |some (.box false (.st u [.ptr b' [],_]))=>bif cb u 226&&cb b' b then some (.p (.aE []),H)else none
   |_=>none
  |_=>none
 else bif cb f 263 then match args with
  |[.p .aN,.p (.int .i64 (.ofNat n))]=>bif cx 1 n&&cx n 1000000 then some (.sl H.length 0 2 0 0,H++[.arr .grow 0 2 (a9 n (.p sd))])else none
  |_=>none
 else none
theorem ZL{f:aT}{args:List AV}{H H':Heap}{v:AV}(h:wK f args H=some (v,H')):c7 prog f H args H' v:=by
 unfold wK at h;simp only[av]at h
 split at h
 ·rename_i hf;rw[b5 hf]
  split at h
  case h_2=>cases h
  split at h
  ·rename_i a;simp only[c9,da,db]at h;obtain⟨b,rfl,rfl⟩:=h;rw[b5 b]at a;exact DX a (.inl rfl)
  ·rename_i a;simp only[c9,da,db]at h;obtain⟨b,rfl,rfl⟩:=h;rw[b5 b]at a;exact DX a (.inr rfl)
  ·rename_i a;simp only[c9,da,db,ap]at h;obtain⟨⟨b,c⟩,rfl,rfl⟩:=h;rw[b5 b,b5 c]at a;exact Pc a
  ·cases h
 split at h
 ·rename_i hf;rw[b5 hf]
  split at h
  ·simp only[c9,da,db,ap]at h;obtain⟨⟨b,c⟩,rfl,rfl⟩:=h;exact ZA _ (cc b) (cc c)
  ·cases h
 ·cases h
def jO(_ f:aT):Nat:=
 bif cb f 151 then 2
 else bif cb f 235 then 3
 else bif cb f 236 then 3
 else bif cb f 237 then 3
 else bif cb f 238 then 3
 else bif cb f 263 then 1 else 0
def facts(l:List (aT×List PV×PV))(f:aT)(vs:List PV):Option PV:=match D0 f vs with
 |some v=>some v
 |none=>Hk.tG l f vs
noncomputable def uG(fs:aT->List PV->Option PV):mj:=⟨tS EP,fs,wK,jO,fun _ _ _=>none⟩
theorem Sf{l:List (aT×List PV×PV)}(a:Hk.lE l):mJ prog (uG (facts l)):=by
 refine⟨mix,fun f fn hf=>C2 GV hf,fun f vs v hk=>?_,fun f args H v H' hk=>ZL hk,fun f args H ak v hk=>by simp only[uG]at hk;cases hk⟩;simp only[uG,facts]at hk
 split at hk
 ·rename_i h;simp only[da]at hk;subst hk;exact ZM h
 ·exact Hk.yl a f vs v hk
noncomputable def runT(l:List (aT×List PV×PV))(f:aT)(vs:List PV):Option PV:=oi prog nf (uG (facts l)) (jG prog nf (uG (facts l)) 20) f vs
theorem fZ(l:List (aT×List PV×PV))(a:Hk.lE l){f:aT}{vs:List PV}{v:PV}(h:Hk.D5 v (runT l f vs)=true):aw prog f vs v:=reckon 20 (Sf a) (Hk.GK h)
end fV
namespace Ai
def T:PV:=.st 37 [.bL true [.st 60 [.int .i64 0,.int .i64 0],.st 60 [.int .i64 2000,.int .i64 0],.st 60 [.int .i64 2000,.int .i64 1000],.st 60 [.int .i64 0,.int .i64 1000]],.int .i64 30,.bL true [.st 109 [.str [97],.int .i64 0,.str [48],.str [49,47,50,48]],.st 109 [.str [98],.int .i64 2,.str [49,57,47,50,48],.str [49]]],.bL true [.st 48 [.str [102,111,111,116],.st 46 [.str [49,53,48,48],.str [53,48,48]]],.st 48 [.str [104,101,97,100],.st 46 [.str [53,48,48],.str [53,48,48]]]]]
def B:PV:=.bL true [.st 48 [.str [99,117,101],.st 46 [.str [53,48,48],.str [53,48,48]]],.st 48 [.str [111,110,101],.st 46 [.str [49,53,48,48],.str [53,48,48]]],.st 48 [.str [116,119,111],.st 46 [.str [49,53,54,48],.str [53,48,48]]]]
def B1:PV:=.bL false [.st 48 [.str [99,117,101],.st 46 [.str [53,48,48],.str [53,48,48]]]]
def M:PV:=.st 37 [.bL false [.st 60 [.int .i64 0,.int .i64 0],.st 60 [.int .i64 0,.int .i64 1000],.st 60 [.int .i64 (-2000),.int .i64 1000],.st 60 [.int .i64 (-2000),.int .i64 0]],.int .i64 30,.bL false [.st 109 [.str [97],.int .i64 3,.str [49,57,47,50,48],.str [49]],.st 109 [.str [98],.int .i64 1,.str [48],.str [49,47,50,48]]],.bL false [.st 48 [.str [102,111,111,116],.st 46 [.str [45,49,53,48,48],.str [53,48,48]]],.st 48 [.str [104,101,97,100],.st 46 [.str [45,53,48,48],.str [53,48,48]]]]]
def k0:List (aT×List PV×PV):=[(277,[.str [51,48]],.aE [.int .i64 30,.fS])]
theorem uJ:Hk.lE k0:=⟨G8 [51,48] 30 (by decide+kernel) (by decide),trivial⟩
theorem c0:aw prog 68 [T] (.int .i64 0):=fV.fZ k0 uJ (by kernel_rfl)
theorem c1:aw prog 36 [T,B] (.int .i64 0):=fV.fZ k0 uJ (by kernel_rfl)
theorem c2:aw prog 36 [T,B1] (.int .i64 0):=fV.fZ k0 uJ (by kernel_rfl)
theorem c3:aw prog 68 [M] (.int .i64 0):=fV.fZ k0 uJ (by kernel_rfl)
def k1:List (aT×List PV×PV):=[(68,[T],.int .i64 0),(36,[T,B],.int .i64 0),(36,[T,B1],.int .i64 0),(68,[M],.int .i64 0)]++k0
theorem iC:Hk.lE k1:=Hk.Bm (l:=[(68,[T],.int .i64 0),(36,[T,B],.int .i64 0),(36,[T,B1],.int .i64 0),(68,[M],.int .i64 0)]) ⟨c0,c1,c2,c3,trivial⟩ uJ
theorem d0:aw prog 23 [T] (.aE [.str [50,48,48,48,48,48,48],.int .i64 0]):=fV.fZ k1 iC (by kernel_rfl)
theorem d1:aw prog 57 [T,.int .i64 0,.str [49,47,52]] (.aE [.st 46 [.str [53,48,48],.str [48]],.int .i64 0]):=fV.fZ k1 iC (by kernel_rfl)
theorem d2:aw prog 62 [T,.st 46 [.str [50,48,48,48],.str [48]]] (.aE [.int .i64 0,.str [49],.int .i64 0]):=fV.fZ k1 iC (by kernel_rfl)
theorem d3:aw prog 63 [T,.int .i64 0,.str [49,47,50,48]] (.aE [.str [97],.int .i64 0]):=fV.fZ k1 iC (by kernel_rfl)
theorem d4:aw prog 63 [T,.int .i64 0,.str [49,47,49,48]] (.aE [.str [],.int .i64 7]):=fV.fZ k1 iC (by kernel_rfl)
theorem d5:aw prog 34 [T,B,.st 46 [.str [49,52,52,48],.str [53,48,48]]] (.aE [.bool true,.int .i64 0]):=fV.fZ k1 iC (by kernel_rfl)
theorem d6:aw prog 34 [T,B,.st 46 [.str [49,52,53,48],.str [53,48,48]]] (.aE [.bool false,.int .i64 0]):=fV.fZ k1 iC (by kernel_rfl)
theorem d7:aw prog 29 [T,B,.str [102,111,111,116],.st 46 [.str [49,48],.str [48]]] (.aE [.st 46 [.str [49,54,50,48],.str [53,48,48]],.int .i64 0]):=fV.fZ k1 iC (by kernel_rfl)
theorem d8:aw prog 64 [T,B] (.aE [.st 28 [.int .i64 1,.int .i64 2],.str [51,54,48,48],.int .i64 0]):=fV.fZ k1 iC (by kernel_rfl)
theorem d9:aw prog 54 [T,B] (.aE [.bL false [.st 28 [.int .i64 1,.int .i64 2]],.int .i64 0]):=fV.fZ k1 iC (by kernel_rfl)
theorem d10:aw prog 12 [T,.str [102,111,111,116],.str [116,114,105,97,110,103,108,101],.st 28 [.int .i64 2,.int .i64 0]] (.aE [.bL false [.st 46 [.str [49,53,48,48],.str [53,48,48]],.st 46 [.str [51,49,48,53,47,50],.str [52,55,48]],.st 46 [.str [51,49,48,53,47,50],.str [53,51,48]]],.int .i64 0]):=fV.fZ k1 iC (by kernel_rfl)
theorem d11:aw prog 42 [T,.st 86 [.bool true,.int .i64 0,.st 60 [.int .i64 0,.int .i64 0]]] (.aE [.st 37 [.bL false [.st 60 [.int .i64 0,.int .i64 0],.st 60 [.int .i64 0,.int .i64 1000],.st 60 [.int .i64 (-2000),.int .i64 1000],.st 60 [.int .i64 (-2000),.int .i64 0]],.int .i64 30,.bL false [.st 109 [.str [97],.int .i64 3,.str [49,57,47,50,48],.str [49]],.st 109 [.str [98],.int .i64 1,.str [48],.str [49,47,50,48]]],.bL false [.st 48 [.str [102,111,111,116],.st 46 [.str [45,49,53,48,48],.str [53,48,48]]],.st 48 [.str [104,101,97,100],.st 46 [.str [45,53,48,48],.str [53,48,48]]]]],.int .i64 0]):=fV.fZ k1 iC (by kernel_rfl)
theorem d12:aw prog 51 [M] (.aE [.st 37 [.bL false [.st 60 [.int .i64 (-2000),.int .i64 0],.st 60 [.int .i64 0,.int .i64 0],.st 60 [.int .i64 0,.int .i64 1000],.st 60 [.int .i64 (-2000),.int .i64 1000]],.int .i64 30,.bL false [.st 109 [.str [97],.int .i64 0,.str [49,57,47,50,48],.str [49]],.st 109 [.str [98],.int .i64 2,.str [48],.str [49,47,50,48]]],.bL false [.st 48 [.str [102,111,111,116],.st 46 [.str [45,49,53,48,48],.str [53,48,48]]],.st 48 [.str [104,101,97,100],.st 46 [.str [45,53,48,48],.str [53,48,48]]]]],.int .i64 0]):=fV.fZ k1 iC (by kernel_rfl)
theorem d13:aw prog 43 [T,B,.st 86 [.bool false,.int .i64 1,.st 60 [.int .i64 0,.int .i64 0]]] (.aE [.bL false [.st 48 [.str [99,117,101],.st 46 [.str [45,53,48,48],.str [53,48,48]]],.st 48 [.str [111,110,101],.st 46 [.str [45,53,48,48],.str [49,53,48,48]]],.st 48 [.str [116,119,111],.st 46 [.str [45,53,48,48],.str [49,53,54,48]]]],.int .i64 0]):=fV.fZ k1 iC (by kernel_rfl)
theorem d14:aw prog 65 [T] (.aE [.str [114,97,100,105,117,115,32,51,48,10,99,111,114,110,101,114,32,48,32,48,10,99,111,114,110,101,114,32,50,48,48,48,32,48,10,99,111,114,110,101,114,32,50,48,48,48,32,49,48,48,48,10,99,111,114,110,101,114,32,48,32,49,48,48,48,10,112,111,99,107,101,116,32,97,32,48,32,48,32,49,47,50,48,10,112,111,99,107,101,116,32,98,32,50,32,49,57,47,50,48,32,49,10,115,112,111,116,32,102,111,111,116,32,49,53,48,48,32,53,48,48,10,115,112,111,116,32,104,101,97,100,32,53,48,48,32,53,48,48,10],.int .i64 0]):=fV.fZ k1 iC (by kernel_rfl)
theorem d15:aw prog 66 [.str [114,97,100,105,117,115,32,51,48,10,115,112,111,116,32,97,32,48,10]] (.aE [.st 37 [.aN,.int .i64 0,.aN,.aN],.int .i64 2,.int .i64 25]):=fV.fZ k1 iC (by kernel_rfl)
theorem d16:aw prog 67 [T,B1] (.aE [.str [98,97,108,108,32,99,117,101,32,53,48,48,32,53,48,48,10],.int .i64 0]):=fV.fZ k1 iC (by kernel_rfl)
def k2:List (aT×List PV×PV):=[(23,[T],.aE [.str [50,48,48,48,48,48,48],.int .i64 0]),(57,[T,.int .i64 0,.str [49,47,52]],.aE [.st 46 [.str [53,48,48],.str [48]],.int .i64 0]),(62,[T,.st 46 [.str [50,48,48,48],.str [48]]],.aE [.int .i64 0,.str [49],.int .i64 0]),(63,[T,.int .i64 0,.str [49,47,50,48]],.aE [.str [97],.int .i64 0]),(63,[T,.int .i64 0,.str [49,47,49,48]],.aE [.str [],.int .i64 7]),(34,[T,B,.st 46 [.str [49,52,52,48],.str [53,48,48]]],.aE [.bool true,.int .i64 0]),(34,[T,B,.st 46 [.str [49,52,53,48],.str [53,48,48]]],.aE [.bool false,.int .i64 0]),(29,[T,B,.str [102,111,111,116],.st 46 [.str [49,48],.str [48]]],.aE [.st 46 [.str [49,54,50,48],.str [53,48,48]],.int .i64 0]),(64,[T,B],.aE [.st 28 [.int .i64 1,.int .i64 2],.str [51,54,48,48],.int .i64 0]),(54,[T,B],.aE [.bL false [.st 28 [.int .i64 1,.int .i64 2]],.int .i64 0]),(12,[T,.str [102,111,111,116],.str [116,114,105,97,110,103,108,101],.st 28 [.int .i64 2,.int .i64 0]],.aE [.bL false [.st 46 [.str [49,53,48,48],.str [53,48,48]],.st 46 [.str [51,49,48,53,47,50],.str [52,55,48]],.st 46 [.str [51,49,48,53,47,50],.str [53,51,48]]],.int .i64 0]),(42,[T,.st 86 [.bool true,.int .i64 0,.st 60 [.int .i64 0,.int .i64 0]]],.aE [.st 37 [.bL false [.st 60 [.int .i64 0,.int .i64 0],.st 60 [.int .i64 0,.int .i64 1000],.st 60 [.int .i64 (-2000),.int .i64 1000],.st 60 [.int .i64 (-2000),.int .i64 0]],.int .i64 30,.bL false [.st 109 [.str [97],.int .i64 3,.str [49,57,47,50,48],.str [49]],.st 109 [.str [98],.int .i64 1,.str [48],.str [49,47,50,48]]],.bL false [.st 48 [.str [102,111,111,116],.st 46 [.str [45,49,53,48,48],.str [53,48,48]]],.st 48 [.str [104,101,97,100],.st 46 [.str [45,53,48,48],.str [53,48,48]]]]],.int .i64 0]),(51,[M],.aE [.st 37 [.bL false [.st 60 [.int .i64 (-2000),.int .i64 0],.st 60 [.int .i64 0,.int .i64 0],.st 60 [.int .i64 0,.int .i64 1000],.st 60 [.int .i64 (-2000),.int .i64 1000]],.int .i64 30,.bL false [.st 109 [.str [97],.int .i64 0,.str [49,57,47,50,48],.str [49]],.st 109 [.str [98],.int .i64 2,.str [48],.str [49,47,50,48]]],.bL false [.st 48 [.str [102,111,111,116],.st 46 [.str [45,49,53,48,48],.str [53,48,48]]],.st 48 [.str [104,101,97,100],.st 46 [.str [45,53,48,48],.str [53,48,48]]]]],.int .i64 0]),(43,[T,B,.st 86 [.bool false,.int .i64 1,.st 60 [.int .i64 0,.int .i64 0]]],.aE [.bL false [.st 48 [.str [99,117,101],.st 46 [.str [45,53,48,48],.str [53,48,48]]],.st 48 [.str [111,110,101],.st 46 [.str [45,53,48,48],.str [49,53,48,48]]],.st 48 [.str [116,119,111],.st 46 [.str [45,53,48,48],.str [49,53,54,48]]]],.int .i64 0]),(65,[T],.aE [.str [114,97,100,105,117,115,32,51,48,10,99,111,114,110,101,114,32,48,32,48,10,99,111,114,110,101,114,32,50,48,48,48,32,48,10,99,111,114,110,101,114,32,50,48,48,48,32,49,48,48,48,10,99,111,114,110,101,114,32,48,32,49,48,48,48,10,112,111,99,107,101,116,32,97,32,48,32,48,32,49,47,50,48,10,112,111,99,107,101,116,32,98,32,50,32,49,57,47,50,48,32,49,10,115,112,111,116,32,102,111,111,116,32,49,53,48,48,32,53,48,48,10,115,112,111,116,32,104,101,97,100,32,53,48,48,32,53,48,48,10],.int .i64 0]),(66,[.str [114,97,100,105,117,115,32,51,48,10,115,112,111,116,32,97,32,48,10]],.aE [.st 37 [.aN,.int .i64 0,.aN,.aN],.int .i64 2,.int .i64 25]),(67,[T,B1],.aE [.str [98,97,108,108,32,99,117,101,32,53,48,48,32,53,48,48,10],.int .i64 0])]++k1
theorem aBL:Hk.lE k2:=Hk.Bm (l:=[(23,[T],.aE [.str [50,48,48,48,48,48,48],.int .i64 0]),(57,[T,.int .i64 0,.str [49,47,52]],.aE [.st 46 [.str [53,48,48],.str [48]],.int .i64 0]),(62,[T,.st 46 [.str [50,48,48,48],.str [48]]],.aE [.int .i64 0,.str [49],.int .i64 0]),(63,[T,.int .i64 0,.str [49,47,50,48]],.aE [.str [97],.int .i64 0]),(63,[T,.int .i64 0,.str [49,47,49,48]],.aE [.str [],.int .i64 7]),(34,[T,B,.st 46 [.str [49,52,52,48],.str [53,48,48]]],.aE [.bool true,.int .i64 0]),(34,[T,B,.st 46 [.str [49,52,53,48],.str [53,48,48]]],.aE [.bool false,.int .i64 0]),(29,[T,B,.str [102,111,111,116],.st 46 [.str [49,48],.str [48]]],.aE [.st 46 [.str [49,54,50,48],.str [53,48,48]],.int .i64 0]),(64,[T,B],.aE [.st 28 [.int .i64 1,.int .i64 2],.str [51,54,48,48],.int .i64 0]),(54,[T,B],.aE [.bL false [.st 28 [.int .i64 1,.int .i64 2]],.int .i64 0]),(12,[T,.str [102,111,111,116],.str [116,114,105,97,110,103,108,101],.st 28 [.int .i64 2,.int .i64 0]],.aE [.bL false [.st 46 [.str [49,53,48,48],.str [53,48,48]],.st 46 [.str [51,49,48,53,47,50],.str [52,55,48]],.st 46 [.str [51,49,48,53,47,50],.str [53,51,48]]],.int .i64 0]),(42,[T,.st 86 [.bool true,.int .i64 0,.st 60 [.int .i64 0,.int .i64 0]]],.aE [.st 37 [.bL false [.st 60 [.int .i64 0,.int .i64 0],.st 60 [.int .i64 0,.int .i64 1000],.st 60 [.int .i64 (-2000),.int .i64 1000],.st 60 [.int .i64 (-2000),.int .i64 0]],.int .i64 30,.bL false [.st 109 [.str [97],.int .i64 3,.str [49,57,47,50,48],.str [49]],.st 109 [.str [98],.int .i64 1,.str [48],.str [49,47,50,48]]],.bL false [.st 48 [.str [102,111,111,116],.st 46 [.str [45,49,53,48,48],.str [53,48,48]]],.st 48 [.str [104,101,97,100],.st 46 [.str [45,53,48,48],.str [53,48,48]]]]],.int .i64 0]),(51,[M],.aE [.st 37 [.bL false [.st 60 [.int .i64 (-2000),.int .i64 0],.st 60 [.int .i64 0,.int .i64 0],.st 60 [.int .i64 0,.int .i64 1000],.st 60 [.int .i64 (-2000),.int .i64 1000]],.int .i64 30,.bL false [.st 109 [.str [97],.int .i64 0,.str [49,57,47,50,48],.str [49]],.st 109 [.str [98],.int .i64 2,.str [48],.str [49,47,50,48]]],.bL false [.st 48 [.str [102,111,111,116],.st 46 [.str [45,49,53,48,48],.str [53,48,48]]],.st 48 [.str [104,101,97,100],.st 46 [.str [45,53,48,48],.str [53,48,48]]]]],.int .i64 0]),(43,[T,B,.st 86 [.bool false,.int .i64 1,.st 60 [.int .i64 0,.int .i64 0]]],.aE [.bL false [.st 48 [.str [99,117,101],.st 46 [.str [45,53,48,48],.str [53,48,48]]],.st 48 [.str [111,110,101],.st 46 [.str [45,53,48,48],.str [49,53,48,48]]],.st 48 [.str [116,119,111],.st 46 [.str [45,53,48,48],.str [49,53,54,48]]]],.int .i64 0]),(65,[T],.aE [.str [114,97,100,105,117,115,32,51,48,10,99,111,114,110,101,114,32,48,32,48,10,99,111,114,110,101,114,32,50,48,48,48,32,48,10,99,111,114,110,101,114,32,50,48,48,48,32,49,48,48,48,10,99,111,114,110,101,114,32,48,32,49,48,48,48,10,112,111,99,107,101,116,32,97,32,48,32,48,32,49,47,50,48,10,112,111,99,107,101,116,32,98,32,50,32,49,57,47,50,48,32,49,10,115,112,111,116,32,102,111,111,116,32,49,53,48,48,32,53,48,48,10,115,112,111,116,32,104,101,97,100,32,53,48,48,32,53,48,48,10],.int .i64 0]),(66,[.str [114,97,100,105,117,115,32,51,48,10,115,112,111,116,32,97,32,48,10]],.aE [.st 37 [.aN,.int .i64 0,.aN,.aN],.int .i64 2,.int .i64 25]),(67,[T,B1],.aE [.str [98,97,108,108,32,99,117,101,32,53,48,48,32,53,48,48,10],.int .i64 0])]) ⟨d0,d1,d2,d3,d4,d5,d6,d7,d8,d9,d10,d11,d12,d13,d14,d15,d16,trivial⟩ iC
end Ai
theorem Gq:aw prog 11 [] (.bool true):=fV.fZ Ai.k2 Ai.aBL (by kernel_rfl)
def ff(p:dN):PV:=.st 109 [.str p.name,.int .i64 p.eH,.str p.a,.str p.b]
def fN(p:dQ):PV:=.st 48 [.str p.name,fM p.pt]
def dI(t:aF):PV:=.st 37 [.seq (t.cs.map cN),.int .i64 t.bF,.seq (t.bc.map ff),.seq (t.az.map fN)]
@[simp] theorem aKU(p:dN):aL (ff p)=.agg 109:=rfl
@[simp] theorem aJH(p:dN):cF (ff p)=[.str p.name,.int .i64 p.eH,.str p.a,.str p.b]:=rfl
@[simp] theorem aKY(p:dQ):aL (fN p)=.agg 48:=rfl
@[simp] theorem aJL(p:dQ):cF (fN p)=[.str p.name,fM p.pt]:=rfl
@[simp] theorem aK1(t:aF):aL (dI t)=.agg 37:=rfl
@[simp] theorem aJN(t:aF):cF (dI t)=[.seq (t.cs.map cN),.int .i64 t.bF,.seq (t.bc.map ff),.seq (t.az.map fN)]:=rfl
theorem Yy(p:dS):aw prog 158 [cN p] (.bool (fH p)):=by
 obtain⟨x,y⟩:=p;refine aI nf HA mix (by simp[f158]) ?_;have e1:max x y=if x<y then y else x:=by split<;>omega
 have e2:min x y=if y<x then y else x:=by split<;>omega
 rw[fH,e1,e2]
 by_cases h:(if x<y then y else x)<=10000
 ·have a:¬10000<(if x<y then y else x):=by omega
  by_cases b:(if y<x then y else x)< -10000
  ·simp[f158,aa,h,a,b]
  ·simp[f158,aa,h,a,b]
 ·have a:10000<(if x<y then y else x):=by omega
  simp[f158,aa,h,a]
def idxFrom{α:Type}(p:α->Bool):List α->Nat->Int
 |[],_=>-1
 |x::r,i=>if p x then(i:Int)else idxFrom p r (i+1)
theorem uu{α:Type}(p:α->Bool):∀(l:List α)(i:Nat),decide (0<=idxFrom p l i)=l.any p
 |[],i=>by simp[idxFrom]
 |x::r,i=>by
  by_cases h:p x
  ·simp[idxFrom,h]
  ·simp[idxFrom,h,uu p r]
theorem Rz(l:List dS)(h:l.length<=1000000):
 aw prog 239 [.seq (l.map cN),.func 158 [] []] (.int .i64 (idxFrom fH l 0)):=by
 refine aI nf Nr mix (by simp[f239]) ?_;simp[f239];refine lp (α:=Nat) (fun i=>⟨[(8,.p (.int .i64 i)),(7,.p (.int .i64 l.length)),(1,.p (.func 158 [] [])),(0,.p (.seq (l.map cN)))],[]⟩) (fun i=>i<=l.length/\idxFrom fH l 0=idxFrom fH (l.drop i) i) (fun i=>l.length-i) 0 (by simp) ?_;rintro i ⟨k1,k2⟩
 by_cases hi:i<l.length
 ·rw[be hi]at k2;have b:=bX (i:=i) (by omega);simp[hi];refine c1 (Yy l[i]) ?_
  by_cases a:fH l[i]
  ·simp[idxFrom,a]at k2;simp[a,k2]
  ·simp[idxFrom,a]at k2;simp[a,b];exact rd (i+1) ⟨hi,k2⟩
 ·have:i=l.length:=by omega
  subst this;simp[idxFrom]at k2;simp[k2]
theorem Rp(l:List dS)(h:l.length<=1000000):
 aw prog 157 [.seq (l.map cN),.func 158 [] []] (.bool (l.any fH)):=by
 refine aI nf HB mix (by simp[f157]) ?_;simp[f157];refine c2 (Rz l h) ?_;simp[<-uu fH l 0]
def mr(l:List dS):List (PV×PV):=l.map (fun p=>(cN p,PV.bool true))
theorem FR{p q:dS}(h:¬p=q):¬(p.x=q.x/\p.y=q.y):=fun⟨a,b⟩=>h (by cases p;cases q;simp_all)
theorem Zv(a b c d:Int):ie prog 9 61 (.st 60 [.int .i64 a,.int .i64 b]) (.st 60 [.int .i64 c,.int .i64 d])=some ((a==c)&&((b==d)&&true)):=by kernel_rfl
@[simp] theorem AB(p q:dS):ie prog 9 61 (cN p) (cN q)=some (decide (p=q)):=by
 rw[cN,cN,Zv]
 by_cases h:p=q
 ·subst h;simp
 ·rw[decide_eq_false h];have:=FR h
  by_cases a:p.x=q.x
  ·have b:¬p.y=q.y:=fun b=>this ⟨a,b⟩;simp[a,b]
  ·simp[a]
theorem FQ(p q:dS):fj (cN p) (cN q)=some (decide (p=q)):=by
 by_cases h:p=q
 ·subst h;simp[cN,fj,wG]
 ·rw[decide_eq_false h];have:=FR h
  by_cases a:p.x=q.x
  ·have b:¬p.y=q.y:=fun b=>this ⟨a,b⟩;simp[cN,fj,wG,a,beq_false_of_ne b]
  ·simp[cN,fj,wG,beq_false_of_ne a]
theorem Zu(p q:dS):fR prog 61 (cN p) (cN q)=some (decide (p=q)):=by
 have e1:=AB p q;have e2:=FQ p q;rw[cN]at e1 e2⊢;rw[fR,e1,e2];simp
@[simp] theorem Fw(q:dS):∀l:List dS,dH prog 61 (mr l) (cN q)=some (if q∈l then some (.bool true)else none)
 |[]=>rfl
 |p::r=>by
  rw[mr,bi,dH,Zu]
  by_cases h:q=p
  ·simp[h]
  ·have:=Fw q r;rw[mr]at this;simp[h,this]
theorem Rx{q:dS}{l:List dS}(h:¬q∈l):lW prog 61 (mr l) (cN q)=some none:=by
 have:=Fw q l;rw[if_neg h]at this;rw[cN]at this⊢;rw[lW,this]
theorem Fx{q:dS}:∀{l:List dS},¬q∈l->fX (mr l) (cN q) (.bool true)=mr (l++[q])
 |[],_=>rfl
 |p::r,h=>by
  have a:¬q=p:=fun e=>h (e▸List.mem_cons_self);have b:¬q∈r:=fun e=>h (List.mem_cons_of_mem _ e);have:=Fx b;rw[mr]at this⊢;rw[bi,fX,FQ,this];simp[a,mr]
theorem aCW:rM prog 61=true:=by kernel_rfl
@[simp high] theorem aHV(c:Bool)(H:Heap)(p q:dS):bG prog .neq 61 c H (.p (cN p)) (.p (cN q))=some (True,{v:=.p (.bool !(decide (p=q)))}):=by
 have e:=AB p q;rw[cN,cN]at*;simp[bG,e,aCW]
@[simp high] theorem aJC(q:dS):ft prog 61 (cN q)=true:=by
 have e1:=AB q q;rw[cN]at e1⊢;rw[ft];simp[e1]
theorem RQ(a c:dS):lF a a c=0:=by simp[lF]
theorem Ry(a b:dS):lF a b a=0:=by simp[lF]
theorem RL{t:aF}(e:3<=t.cs.length){j k:Nat}(c:j<t.cs.length)(hk:k<t.cs.length)(d:j≠k)(b:t.at j=t.at k):t.fW=false:=by
 rw[aF.fW,decide_eq_false_iff_not];intro h
 by_cases hx:k=t.nx j
 ·obtain⟨m,m1,m2,m3⟩:∃m,m<t.cs.length/\m≠j/\m≠k:=by
   rcases ck j k with a|a|a
   ·by_cases e0:j=0
    ·by_cases e1:k=1
     ·exact⟨2,by omega,by omega,by omega⟩
     ·exact⟨1,by omega,by omega,by omega⟩
    ·exact⟨0,by omega,by omega,by omega⟩
   ·exact(d a).elim
   ·by_cases e0:k=0
    ·by_cases e1:j=1
     ·exact⟨2,by omega,by omega,by omega⟩
     ·exact⟨1,by omega,by omega,by omega⟩
    ·exact⟨0,by omega,by omega,by omega⟩
  have:=h j c m m1 m2 (hx▸m3);rw[<-hx,<-b,RQ]at this;omega
 ·have:=h j c k hk (Ne.symm d) hx;rw[<-b,Ry]at this;omega
theorem RU(t:aF)(aj:3<=t.cs.length)(ak:t.cs.length<=1000000)(F:∀p∈t.cs,fq p):aw prog 159 [dI t] (.bool t.fW):=by
 refine aI nf Hz mix (by simp[f159]) ?_;generalize q:t.cs.length=n at*;simp[f159,aa,q];refine lp (α:=Nat) (fun i=>⟨[(16,.p (.int .i64 i)),(15,.p (.int .i64 n)),(14,.p (.seq (t.cs.map cN))),(3,.map 1),(1,.ptr 0 [])],[.box false (.p (dI t)),.map false (mr (t.cs.take i))]⟩) (fun i=>i<=n/\∀j k,j<k->k<i->t.at j≠t.at k) (fun i=>n-i) 0 (by simp) ?_ (hh:=by simp[mr]);rintro i ⟨ai,E⟩
 by_cases hi:i<n
 ·have H:=aF.get (t:=t) (i:=i) (by omega);have z:=bX (i:=i) (by omega);have W:t.cs.take (i+1)=t.cs.take i++[t.at i]:=by rw[b1,H];rfl
  simp[-ft,hi,q,H,aa]
  by_cases f:t.at i∈t.cs.take i
  ·obtain⟨j,s,r⟩:=b0.1 f;rw[bo]at s;rw[b2,aF.aM (by omega)]at r;have Q:=RL (by omega) (j:=j) (k:=i) (by omega) (by omega) (by omega) r;simp[f,Q]
  ·have hI:=Rx f;have I:=Fx f;rw[<-W]at I;simp[-ft,-lW,f,hI,I,z];exact rd (i+1) ⟨hi,fun j k w hk=>by
    by_cases T:k=i
    ·subst T;intro r;exact f (r▸bb (i:=j) (by rw[List.getElem?_take,if_pos w];exact aF.get (by omega)))
    ·exact E j k w (by omega)⟩
 have R:i=n:=by omega
 subst R;have inj:∀j k,j<i->k<i->t.at j=t.at k->j=k:=fun j k s hk r=>by
  rcases ck j k with h|h|h
  ·exact(E j k h hk r).elim
  ·exact h
  ·exact(E k j h s r.symm).elim
 simp[q,aa];refine lp (α:=Nat) (fun m=>⟨[(32,.p (.int .i64 m)),(31,.p (.int .i64 i)),(30,.p (.seq (t.cs.map cN))),(6,.p (.int .i64 i)),(1,.ptr 0 [])],[.box false (.p (dI t))]⟩) (fun m=>m<=i/\∀j,j<m->t.nh j i) (fun m=>i-m) 0 (by simp) ?_;rintro m ⟨g1,g2⟩;have U:¬i=0:=by omega
 by_cases f:m<i
 ·have M:=aF.get (t:=t) (i:=m) (by omega);have z:=bX (i:=m) (by omega);have V:t.nx m<i:=by rw[<-q];exact t.ow (by omega) m
  have N:=aF.get (t:=t) (i:=t.nx m) (by omega);have e1:((m:Int)+1).tmod (i:Int)=((t.nx m:Nat):Int):=by
   rw[aF.nx,q,a8,a7 (by omega)];rfl
  simp[f,q,M,N,z,e1,U,aa];refine⟨by repeat' first|rfl|apply ao,?_⟩;refine lp (α:=Nat) (fun k=>⟨[(48,.p (.int .i64 k)),(47,.p (.int .i64 i)),(46,.p (.seq (t.cs.map cN))),(9,.ptr 2 []),(8,.ptr 1 []),(32,.p (.int .i64 m)),(31,.p (.int .i64 i)),(30,.p (.seq (t.cs.map cN))),(6,.p (.int .i64 i)),(1,.ptr 0 [])],[.box false (.p (dI t)),.box false (.p (cN (t.at m))),.box false (.p (cN (t.at (t.nx m))))]⟩) (fun k=>k<=i/\t.nh m k) (fun k=>i-k) 0 (by simp[aF.nh]) ?_;rintro k ⟨q1,D⟩
  by_cases hk:k<i
  ·have gk:=aF.get (t:=t) (i:=k) (by omega);have G:=bX (i:=k) (by omega)
   by_cases c1:t.at k=t.at m
   ·have:=inj _ _ hk f c1;subst this;simp[-bG,bG.eq_1,hk,gk,G,aa];exact rd (k+1) ⟨hk,fun j s=>by
     by_cases w:j=k
     ·intro h;exact(h w).elim
     ·exact D j (by omega)⟩
   ·by_cases c2:t.at k=t.at (t.nx m)
    ·have:=inj _ _ hk V c2;have c3:¬t.at (t.nx m)=t.at m:=by rw[<-c2];exact c1
     simp[-bG,bG.eq_1,hk,gk,G,c2,c3,aa];exact rd (k+1) ⟨hk,fun j s=>by
      by_cases w:j=k
      ·intro _ h;exact(h (by omega)).elim
      ·exact D j (by omega)⟩
    ·have L:k≠m:=fun e=>c1 (by rw[e]);have nx:k≠t.nx m:=fun e=>c2 (by rw[e]);have P:lF (t.at m) (t.at (t.nx m)) (t.at k)=((t.at (t.nx m)).x-(t.at m).x)*((t.at k).y-(t.at m).y)-((t.at (t.nx m)).y-(t.at m).y)*((t.at k).x-(t.at m).x):=rfl;have X:=aF.ji F (i:=m) (by omega);have Y:=aF.ji F (i:=t.nx m) (by omega);have Z:=aF.ji F (i:=k) (by omega);have K:t.nh m (k+1)↔0<lF (t.at m) (t.at (t.nx m)) (t.at k):=⟨fun h=>h k (by omega) L nx,fun h j s u v=>by
      by_cases w:j=k
      ·subst w;exact h
      ·exact D j (by omega) u v⟩
     have J:¬0<lF (t.at m) (t.at (t.nx m)) (t.at k)->t.fW=false:=fun h=>by
      rw[aF.fW,decide_eq_false_iff_not];intro O;exact h (O m (by omega) k (by omega) L nx)
     rw[P]at K J;simp[-bG,bG.eq_1,hk,gk,G,c1,c2,aa];simp only[fq]at X Y Z;generalize t.at m=A at*;generalize t.at (t.nx m)=B at*;generalize t.at k=C at*;obtain⟨c,d⟩:=A;obtain⟨bx,g⟩:=B;obtain⟨l,o⟩:=C;dsimp only at*;have ab:a1.wrap (bx-c)=bx-c:=aK _ (by omega) (by omega);have ac:a1.wrap (o-d)=o-d:=aK _ (by omega) (by omega);have ad:a1.wrap (g-d)=g-d:=aK _ (by omega) (by omega)
     have ae:a1.wrap (l-c)=l-c:=aK _ (by omega) (by omega);have al:=kX (a:=bx-c) (b:=o-d) (A:=20000) (B:=20000) (by omega) (by omega) (by omega) (by omega);have am:=kX (a:=g-d) (b:=l-c) (A:=20000) (B:=20000) (by omega) (by omega) (by omega) (by omega);have af:a1.wrap ((bx-c)*(o-d))=(bx-c)*(o-d):=aK _ (by omega) (by omega);have ag:a1.wrap ((g-d)*(l-c))=(g-d)*(l-c):=aK _ (by omega) (by omega);have ah:a1.wrap ((bx-c)*(o-d)-(g-d)*(l-c))=(bx-c)*(o-d)-(g-d)*(l-c):=aK _ (by omega) (by omega);simp[ab,ac,ad,ae,af,ag,ah]
     by_cases hc:(bx-c)*(o-d)-(g-d)*(l-c)<=0
     ·have:=J (by omega);simp[hc,this]
     ·simp[hc];exact rd (k+1) ⟨hk,K.2 (by omega)⟩
  ·have:k=i:=by omega
   subst this;simp[z];exact rd (m+1) ⟨f,fun j s=>by
    by_cases S:j=m
    ·subst S;exact D
    ·exact g2 j (by omega)⟩
 ·have:m=i:=by omega
  subst this;have:t.fW=true:=by
   rw[aF.fW,decide_eq_true_eq,q];exact g2
  simp[this]
noncomputable def fC(v:NV):PV:=.st 133 [eF v.x,eF v.y]
@[simp] theorem aK0(v:NV):aL (fC v)=.agg 133:=rfl
@[simp] theorem aJM(v:NV):cF (fC v)=[eF v.x,eF v.y]:=rfl
@[simp] theorem aIK:prog.cellsOf 133=8:=by kernel_rfl
theorem qf(x y:NF):fC ⟨x,y⟩=.st 133 [eF x,eF y]:=rfl
noncomputable def tV(a b:NV):PV:=.st 164 [fC a,fC b]
@[simp] theorem aKP(a b:NV):aL (tV a b)=.agg 164:=rfl
@[simp] theorem aJD(a b:NV):cF (tV a b)=[fC a,fC b]:=rfl
theorem OU(p:gz)(d:bU p.x=0)(e:bU p.y=0)(a:od p):aw prog 93 [fM p] (fC (.from p)):=by
 have b:=mT p.x d a.1.1;have c:=mT p.y e a.2.1;refine aI nf Qf mix (by simp[f93]) ?_;rw[NV.from,qf];simp[f93,aa];refine e1 b ?_;simp[aa];refine e1 c ?_;simp[aa]
def fJ(p:dS):NV:=⟨.int p.x,.int p.y⟩
theorem Fj(p:dS)(h:fq p):aw prog 209 [cN p] (fC (fJ p)):=by
 simp only[fq]at h;have a:=mU p.x (by omega) (by omega);have b:=mU p.y (by omega) (by omega);refine aI nf FD mix (by simp[f209]) ?_;rw[fJ,qf];simp[f209,aa];refine e1 a ?_;simp[aa];refine e1 b ?_;simp[aa]
theorem FJ(v w:NV)(a:bW kQ v.q)(b:bW kQ w.q):aw prog 140 [fC v,fC w] (fC (v.sub w)):=by
 have c:=yM v.x w.x (eK a.1) (eK b.1);have d:=yM v.y w.y (eK a.2) (eK b.2);refine aI nf HG mix (by simp[f140]) ?_;rw[NV.sub,qf];simp[f140,aa];refine e2 c ?_;simp[aa];refine e2 d ?_;simp[aa]
theorem RM(v w:NV)(a:bW kQ v.q)(b:bW kQ w.q):aw prog 90 [fC v,fC w] (eF (v.gZ w)):=by
 have c:=yh v.x w.y (eK a.1) (eK b.2);have d:=yh v.y w.x (eK a.2) (eK b.1);have e:=yM (v.x.mul w.y) (v.y.mul w.x) ((lK a.1 b.2).mono (by decide)) ((lK a.2 b.1).mono (by decide));refine aI nf Qd mix (by simp[f90]) ?_;rw[NV.gZ];simp[f90,aa];refine e2 c ?_;simp[aa];refine e2 d ?_;simp[aa];refine e2 e ?_;simp[aa]
theorem Yx(t:aF)(i:Nat)(hi:i<t.cs.length)(l:t.cs.length<=1000000)(h:∀p∈t.cs,fq p):aw prog 139 [dI t,.int .i64 i] (tV (fJ (t.at i)) (fJ (t.at (t.nx i)))):=by
 have a:=t.ow (by omega) i;have j:=Fj (t.at i) (aF.ji h hi);have k:=Fj (t.at (t.nx i)) (aF.ji h a);have g:=bX (i:=i) (by omega);have e1:((i:Int)+1).tmod (t.cs.length:Int)=((t.nx i:Nat):Int):=by
  rw[aF.nx,a8,a7 (by omega)];rfl
 have f:¬t.cs.length=0:=by omega
 have d:¬t.cs=[]:=by intro e;rw[e]at hi;simp at hi
 have b:=aF.get hi;have c:=aF.get a;refine aI nf G3 mix (by simp[f139]) ?_;rw[tV];simp[f139,aa,g,e1,f,d,b,c,hi,a];refine Go.aj.e1 j ?_;simp[aa,g,e1,f,d,b,c,hi,a];refine Go.aj.e1 k ?_;simp[aa,g,e1,f,d,b,c,hi,a]
theorem YA(t:aF):aw prog 88 [dI t] (.func 186 [] [.ct (dI t)]):=by
 refine aI nf Qb mix (by simp[f88]) ?_;simp[f88];show gB [.box false (.p (dI t))] 7 (.p (dI t)) (dI t);rw[EI];exact Wk.refl _
noncomputable def xb(t:aF)(i:Nat):List PV:=[.int .i64 i,tV (fJ (t.at i)) (fJ (t.at (t.nx i)))]
theorem Aw{t:aF}{i:Nat}(h:i<t.cs.length):((b4 t.cs.length).map (xb t))[i]?=some (xb t i):=by
 rw[List.getElem?_map,List.getElem?_range h];rfl
theorem aFo(t:aF)(g:t.cs.length<=1000000)(h:∀p∈t.cs,fq p):Stream prog 186 [] [.ct (dI t)] ((b4 t.cs.length).map (xb t)):=by
 intro b k e H' hk a l d;rw[List.length_map,List.length_range]at hk d;refine jc nf F1 mix (by simp[f186]) ?_;simp[f186,aa];refine lp (α:=Nat) (fun i=>⟨[(7,.p (.int .i64 i)),(6,.p (.int .i64 t.cs.length)),(1,.p (.ct (dI t))),(0,.map b)],e i⟩) (fun i=>i<=k) (fun i=>k-i) 0 (by simp) ?_ (hr:=by simp;exact(a 0 (by omega)).2) (hr2:=(a 0 (by omega)).1);rintro i m
 by_cases hi:i<t.cs.length
 ·have f:=Yx t i hi g h;have j:=bX (i:=i) (by omega);simp[hi];refine c2 f ?_;simp
  by_cases c:i<k
  ·refine⟨e (i+1),_,l i _ c (Aw hi),?_⟩;simp[j];exact rd (i+1) c (hr:=by simp;exact(a (i+1) c).2) (hr2:=(a (i+1) c).1)
  ·have:i=k:=by omega
   subst this;rcases d with⟨e1,_⟩|⟨y,e1,e2⟩
   ·omega
   ·rw[Aw hi]at e1;injection e1 with e1
    subst e1;refine⟨H',_,e2,?_⟩;simp
 ·have:i=t.cs.length:=by omega
  subst this;rcases d with⟨e1,e2⟩|⟨y,e1,e2⟩
  ·have:t.cs.length=k:=by omega
   subst this;simp[e2]
  ·rw[List.getElem?_eq_none (by simp;omega)]at e1;cases e1
noncomputable def wQ(t:aF)(v:NV)(L:fg)(i:Nat):Heap:=[.box false (.p (dI t)),.box false (.p (fC v)),.box false (.p (.int .i64 (t.pV v.q i))),.loop L]
theorem DN(t:aF)(v:NV)(m:t.cs.length<=1000000)(c:∀p∈t.cs,fq p)(g:bW 3000 v.q):aw prog 77 [dI t,fC v] (.int .i64 (t.on v.q)):=by
 refine aI nf PZ mix (by simp[f77]) ?_;simp[f77,aa];refine c1 (YA t) ?_;simp;refine rf (aFo t m c) rfl (by simp) (wQ t v) t.cs.length (by simp) (fun L=>rfl) ?_ ?_ ?_
 ·intro L a i hi;refine⟨rfl,by simp[wQ],fun _ hx=>?_⟩;simp[wQ]at hx⊢;exact hx
 ·intro L a i x hi hx;rw[Aw hi]at hx;injection hx with hx
  subst hx;have b:=se (aF.ji c hi);have h:=se (aF.ji c (t.ow (by omega) i));have q1:bW 29 ((fJ (t.at (t.nx i))).sub (fJ (t.at i))).q:=by rw[NV.q9];exact tJ h b
  have n:bW 3015 (v.sub (fJ (t.at i))).q:=by rw[NV.q9];exact tJ g b
  have j:=FJ (fJ (t.at (t.nx i))) (fJ (t.at i)) (h.mono (by decide)) (b.mono (by decide));have k:=FJ v (fJ (t.at i)) (g.mono (by decide)) (b.mono (by decide));have l:=RM ((fJ (t.at (t.nx i))).sub (fJ (t.at i))) (v.sub (fJ (t.at i))) (q1.mono (by decide)) (n.mono (by decide));have e:=CU (((fJ (t.at (t.nx i))).sub (fJ (t.at i))).gZ (v.sub (fJ (t.at i))));have d:gY (((fJ (t.at (t.nx i))).sub (fJ (t.at i))).gZ (v.sub (fJ (t.at i)))).q=t.side i v.q:=by
   rw[NV.YN,NV.q9,NV.q9];rfl
  rw[gY]at d;rw[d]at e;have hs:=aF.Fl t v.q i;rw[FF]at hs;refine Fo nf mix a rfl rfl (by kernel_rfl) ?_;have f:=congrArg fg.env a;dsimp only at f;clear a d;generalize (fJ (t.at (t.nx i))).sub (fJ (t.at i))=W at*;generalize v.sub (fJ (t.at i))=U at*;generalize W.gZ U=C at*;simp[wQ,xb,tV,aa];refine e2 j ?_;simp[aa];refine e2 k ?_;simp[aa];refine e2 l ?_;simp[aa];refine e1 e ?_;simp[aa];refine⟨by repeat' first|rfl|apply ao,?_⟩;rw[<-hs];refine dE.og (by simp) (by simp) (by simp) (by simp) ?_;simp;exact aET f (by simp)
 ·intro L a;refine .inl ⟨by simp,?_⟩;simp[wQ,aF.on]
theorem Fp(s:List Nat)(hs:gX s)(h:bU s=0):aw prog 222 [.str s] (.int .i64 (fo (aZ s))):=by
 have o:=iA h;have d:=mT s h hs.1;have c:=CU ⟨aZ s,false⟩;have g:=mU 1 (by decide) (by decide);have e:=wy ⟨aZ s,false⟩ (.int 1) (o.mono (by decide)) ((show bE 1 (NF.int 1).q from⟨by decide,by decide⟩).mono (by decide));have e2:(if(⟨aZ s,false⟩:NF).q<0 then(-1:Int)else if(⟨aZ s,false⟩:NF).q=0 then 0 else 1)=gY (aZ s):=rfl;have e4:eS (⟨aZ s,false⟩:NF).q (NF.int 1).q=eS (aZ s) 1:=rfl;rw[e2]at c;rw[e4]at e;have f:=fun b=>fD b 3;refine aI nf Hn mix (by simp[f222]) ?_;rw[fo];clear e2 e4 o;generalize gY (aZ s)=x at*;generalize eS (aZ s) 1=y at*;generalize (⟨aZ s,false⟩:NF)=v at*
 by_cases a:x<0
 ·simp[f222,aa];refine c1 d ?_;simp[aa];refine Go.aj.e1 c ?_;simp[a,aa];refine Go.aj.e2 (f true) ?_;simp[bt];omega
 ·by_cases b:0<y
  ·simp[f222,aa];refine c1 d ?_;simp[aa];refine Go.aj.e1 c ?_;simp[a,aa];refine Go.aj.e1 g ?_;simp[a,aa];refine Go.aj.e2 e ?_;simp[a,b,aa];refine Go.aj.e2 (f true) ?_;simp[bt];omega
  ·simp[f222,aa];refine c1 d ?_;simp[aa];refine Go.aj.e1 c ?_;simp[a,aa];refine Go.aj.e1 g ?_;simp[a,aa];refine Go.aj.e2 e ?_;simp[a,b,aa];refine Go.aj.e2 (f false) ?_;simp[bt];omega
def qe(p:dN):Prop:=rR p/\bU p.a=0/\bU p.b=0
theorem Yz(p o:dN)(r:qe p)(q:qe o):aw prog 242 [ff p,ff o] (.bool (gJ o p)):=by
 obtain⟨⟨_,u,v⟩,l,m⟩:=r;obtain⟨⟨_,s,t⟩,j,k⟩:=q;have d:=mT p.a l u.1;have e:=mT o.b k t.1;have c:=wy ⟨aZ p.a,false⟩ ⟨aZ o.b,false⟩ ((iA l).mono (by decide)) ((iA k).mono (by decide));have g:=mT o.a j s.1;have i:=mT p.b m v.1;have f:=wy ⟨aZ o.a,false⟩ ⟨aZ p.b,false⟩ ((iA j).mono (by decide)) ((iA m).mono (by decide));dsimp only at c f;refine aI nf Hi mix (by simp[f242]) ?_;rw[gJ];generalize eS (aZ p.a) (aZ o.b)=x at*;generalize eS (aZ o.a) (aZ p.b)=y at*;generalize (⟨aZ p.a,false⟩:NF)=v1 at*;generalize (⟨aZ p.b,false⟩:NF)=v2 at*;generalize (⟨aZ o.a,false⟩:NF)=v3 at*;generalize (⟨aZ o.b,false⟩:NF)=v4 at*
 by_cases c1:o.eH=p.eH
 case neg=>
  have n:¬p.eH=o.eH:=fun h=>c1 h.symm;simp[f242,aa,c1,n]
 by_cases c2:x<=0
 ·by_cases c3:y<=0
  ·simp[f242,aa,c1];refine Go.aj.e1 d ?_;simp[aa,c1];refine Go.aj.e1 e ?_;simp[aa,c1];refine Go.aj.e2 c ?_;simp[aa,c1,c2];refine Go.aj.e1 g ?_;simp[aa,c1,c2];refine Go.aj.e1 i ?_;simp[aa,c1,c2];refine Go.aj.e2 f ?_;simp[aa,c1,c2,c3]
  ·simp[f242,aa,c1];refine Go.aj.e1 d ?_;simp[aa,c1];refine Go.aj.e1 e ?_;simp[aa,c1];refine Go.aj.e2 c ?_;simp[aa,c1,c2];refine Go.aj.e1 g ?_;simp[aa,c1,c2];refine Go.aj.e1 i ?_;simp[aa,c1,c2];refine Go.aj.e2 f ?_;simp[aa,c1,c2,c3]
 ·simp[f242,aa,c1];refine Go.aj.e1 d ?_;simp[aa,c1];refine Go.aj.e1 e ?_;simp[aa,c1];refine Go.aj.e2 c ?_;simp[aa,c1,c2]
theorem RJ(p o:dN):c7 prog 241 [.box false (.p (ff p))] [.p (ff o),.ptr 0 []] [.box false (.p (ff p))] (.p (.bool (decide (o.name=p.name)))):=by
 refine jc nf FC mix (by simp[f241]) ?_
 by_cases h:o.name=p.name
 ·simp[f241,aa,h];exact dE.og (by simp) (by simp) (by simp) (by simp) (by simp)
 ·simp[f241,aa,h];exact dE.og (by simp) (by simp) (by simp) (by simp) (by simp)
theorem RP(p:dN)(l:List dN)(h:l.length<=1000000):
 c7 prog 147 [.box false (.p (ff p))] [.p (.seq (l.map ff)),.func 241 [] [.ptr 0 []]] [.box false (.p (ff p))] (.p (.int .i64 (idxFrom (fun o=>decide (o.name=p.name)) l 0))):=by
 refine jc nf Dn mix (by simp[f147]) ?_;simp[f147];refine lp (α:=Nat) (fun i=>⟨[(8,.p (.int .i64 i)),(7,.p (.int .i64 l.length)),(1,.func 241 [] [.ptr 0 []]),(0,.p (.seq (l.map ff)))],[.box false (.p (ff p))]⟩) (fun i=>i<=l.length/\idxFrom (fun o=>decide (o.name=p.name)) l 0=idxFrom (fun o=>decide (o.name=p.name)) (l.drop i) i) (fun i=>l.length-i) 0 (by simp) ?_;rintro i ⟨k1,k2⟩;have a:=bX (i:=i) (by omega)
 by_cases hi:i<l.length
 ·rw[be hi,idxFrom]at k2;simp[hi];refine cf (RJ p l[i]) [0] ?_
  by_cases hk:l[i].name=p.name
  ·simp[hk]at k2;simp[hk,k2,bm]
  ·simp[hk]at k2;simp[hk,a,bm];exact rd (i+1) ⟨hi,k2⟩
 ·have:i=l.length:=by omega
  subst this;simp[idxFrom]at k2;simp[k2]
theorem RF(p:dN)(l:List dN)(h:l.length<=1000000):
 c7 prog 240 [.box false (.p (ff p))] [.p (.seq (l.map ff)),.func 241 [] [.ptr 0 []]] [.box false (.p (ff p))] (.p (.bool (l.any (fun o=>decide (o.name=p.name))))):=by
 refine jc nf DD mix (by simp[f240]) ?_;simp[f240];refine cf (RP p l h) [0] ?_;have:=uu (fun o=>decide (o.name=p.name)) l 0;simp[bm,<-this]
theorem RI(p o:dQ):c7 prog 244 [.box false (.p (fN p))] [.p (fN o),.ptr 0 []] [.box false (.p (fN p))] (.p (.bool (decide (o.name=p.name)))):=by
 refine jc nf Hg mix (by simp[f244]) ?_
 by_cases h:o.name=p.name
 ·simp[f244,aa,h];exact dE.og (by simp) (by simp) (by simp) (by simp) (by simp)
 ·simp[f244,aa,h];exact dE.og (by simp) (by simp) (by simp) (by simp) (by simp)
theorem Ru(p:dQ)(l:List dQ)(h:l.length<=1000000):
 c7 prog 164 [.box false (.p (fN p))] [.p (.seq (l.map fN)),.func 244 [] [.ptr 0 []]] [.box false (.p (fN p))] (.p (.int .i64 (idxFrom (fun o=>decide (o.name=p.name)) l 0))):=by
 refine jc nf DF mix (by simp[f164]) ?_;simp[f164];refine lp (α:=Nat) (fun i=>⟨[(8,.p (.int .i64 i)),(7,.p (.int .i64 l.length)),(1,.func 244 [] [.ptr 0 []]),(0,.p (.seq (l.map fN)))],[.box false (.p (fN p))]⟩) (fun i=>i<=l.length/\idxFrom (fun o=>decide (o.name=p.name)) l 0=idxFrom (fun o=>decide (o.name=p.name)) (l.drop i) i) (fun i=>l.length-i) 0 (by simp) ?_;rintro i ⟨k1,k2⟩;have a:=bX (i:=i) (by omega)
 by_cases hi:i<l.length
 ·rw[be hi,idxFrom]at k2;simp[hi];refine cf (RI p l[i]) [0] ?_
  by_cases hk:l[i].name=p.name
  ·simp[hk]at k2;simp[hk,k2,bm]
  ·simp[hk]at k2;simp[hk,a,bm];exact rd (i+1) ⟨hi,k2⟩
 ·have:i=l.length:=by omega
  subst this;simp[idxFrom]at k2;simp[k2]
theorem RE(p:dQ)(l:List dQ)(h:l.length<=1000000):
 c7 prog 243 [.box false (.p (fN p))] [.p (.seq (l.map fN)),.func 244 [] [.ptr 0 []]] [.box false (.p (fN p))] (.p (.bool (l.any (fun o=>decide (o.name=p.name))))):=by
 refine jc nf Hh mix (by simp[f243]) ?_;simp[f243];refine cf (Ru p l h) [0] ?_;have:=uu (fun o=>decide (o.name=p.name)) l 0;simp[bm,<-this]
theorem RH(p:dN)(c:qe p)(l:List dN)(h:l.length<=1000000)(b:∀o∈l,qe o):
 aw prog 147 [.seq (l.map ff),.func 242 [ff p] []] (.int .i64 (idxFrom (fun o=>gJ o p) l 0)):=by
 refine aI nf Dn mix (by simp[f147]) ?_;simp[f147];refine lp (α:=Nat) (fun i=>⟨[(8,.p (.int .i64 i)),(7,.p (.int .i64 l.length)),(1,.p (.func 242 [ff p] [])),(0,.p (.seq (l.map ff)))],[]⟩) (fun i=>i<=l.length/\idxFrom (fun o=>gJ o p) l 0=idxFrom (fun o=>gJ o p) (l.drop i) i) (fun i=>l.length-i) 0 (by simp) ?_;rintro i ⟨k1,k2⟩;have d:=bX (i:=i) (by omega)
 by_cases hi:i<l.length
 ·rw[be hi,idxFrom]at k2;have a:=Yz p l[i] c (b _ (List.getElem_mem hi));simp[hi];refine c2 a ?_;cases hk:gJ l[i] p
  ·simp[hk]at k2;simp[d];exact rd (i+1) ⟨hi,k2⟩
  ·simp[hk]at k2;simp[k2]
 ·have:i=l.length:=by omega
  subst this;simp[idxFrom]at k2;simp[k2]
theorem Rs(p:dN)(b:qe p)(l:List dN)(h:l.length<=1000000)(a:∀o∈l,qe o):
 aw prog 240 [.seq (l.map ff),.func 242 [ff p] []] (.bool (l.any (fun o=>gJ o p))):=by
 refine aI nf DD mix (by simp[f240]) ?_;simp[f240];refine c2 (RH p b l h a) ?_;have:=uu (fun o=>gJ o p) l 0;simp[<-this]
def kJ(n:Nat)(c:List dN)(p:dN):Int:=bH [bt (!isName p.name) 8,bt (c.any fun o=>decide (o.name=p.name)) 9,bt (decide (p.eH<0\/(n:Int)<=p.eH)) 10,bU p.a,bU p.b]
def zY(c:List dN)(p:dN):Int:=bH [fo (aZ p.a),fo (aZ p.b),bt (decide (0<eS (aZ p.a) (aZ p.b))) 11,bt (c.any fun o=>gJ o p) 17]
theorem Ff(q:Rat):fo q=0\/fo q=3:=by
 rw[fo];split
 ·exact .inr rfl
 ·exact .inl rfl
theorem RD(n:Nat)(e:List dN)(p:dN):ij n e p=if kJ n e p=0 then zY e p else kJ n e p:=by
 rw[ij,kJ,zY];generalize bU p.a=ca;generalize bU p.b=i;have j:=Ff (aZ p.a);have h:=Ff (aZ p.b);generalize fo (aZ p.a)=r at*;generalize fo (aZ p.b)=s at*;generalize eS (aZ p.a) (aZ p.b)=y;generalize (e.any fun o=>gJ o p)=m;generalize (e.any fun o=>decide (o.name=p.name))=a;have k:max (0:Int) 3=3:=rfl;have l:max (3:Int) 0=3:=rfl;cases q:isName p.name
 ·simp[bH,bt]
 cases a
 case true=>simp[bH,bt]
 by_cases c:p.eH<0\/(n:Int)<=p.eH
 ·simp[bH,bt,c]
 by_cases d:ca=0
 case neg=>simp[bH,bt,c,d]
 by_cases f:i=0
 case neg=>simp[bH,bt,c,d,f]
 rcases j with rfl|rfl
 ·rcases h with rfl|rfl
  ·by_cases g:0<y
   ·simp[bH,bt,c,d,f,g]
   ·cases m<;>simp[bH,bt,c,d,f,g]
  ·simp[bH,bt,c,d,f,k]
 ·rcases h with rfl|rfl
  ·simp[bH,bt,c,d,f,l]
  ·simp[bH,bt,c,d,f]
theorem Rw{n:Nat}{bef:List dN}{p:dN}(h:kJ n bef p=0):bU p.a=0/\bU p.b=0:=by
 rw[kJ,o6]at h;exact⟨h _ (by simp),h _ (by simp)⟩
theorem Rr(t:aF)(p:dN)(d:List dN)(L:t.cs.length<=1000000)(G:rR p)(m:d.length<=1000000)(F:∀o∈d,qe o):
 aw prog 161 [dI t,ff p,.seq (d.map ff)] (.int .i64 (ij t.cs.length d p)):=by
 obtain⟨C,j,k⟩:=G;have k1:=RF p d m;have k2:=Fv p.name C.1;have k3:=fD (!isName p.name) 8;have k4:=fD (d.any fun o=>decide (o.name=p.name)) 9;have k5:=fun b=>fD b 10;have k6:=zh p.a j.1 j.2;have k7:=zh p.b k.1 k.2;have k8:=jV [bt (!isName p.name) 8,bt (d.any fun o=>decide (o.name=p.name)) 9,bt (decide (p.eH<0\/(t.cs.length:Int)<=p.eH)) 10,bU p.a,bU p.b] (by simp);have g:=Rw (n:=t.cs.length) (bef:=d) (p:=p);rw[RD];have s:=fun h:kJ t.cs.length d p=0=>Rs p ⟨⟨C,j,k⟩,(g h).1,(g h).2⟩ d m F;have u:=fun h:kJ t.cs.length d p=0=>Fp p.a j (g h).1;have v:=fun h:kJ t.cs.length d p=0=>Fp p.b k (g h).2;have w:=fun h:kJ t.cs.length d p=0=>mT p.a (g h).1 j.1;have x:=fun h:kJ t.cs.length d p=0=>mT p.b (g h).2 k.1;have q:=fun h:kJ t.cs.length d p=0=>wy ⟨aZ p.a,false⟩ ⟨aZ p.b,false⟩ ((iA (g h).1).mono (by decide)) ((iA (g h).2).mono (by decide));dsimp only at q;have B:=fD (decide (0<eS (aZ p.a) (aZ p.b))) 11;have z:=fD (d.any fun o=>gJ o p) 17;have i:=jV [fo (aZ p.a),fo (aZ p.b),bt (decide (0<eS (aZ p.a) (aZ p.b))) 11,bt (d.any fun o=>gJ o p) 17] (by simp);have d1:kJ t.cs.length d p=bH [bt (!isName p.name) 8,bt (d.any fun o=>decide (o.name=p.name)) 9,bt (decide (p.eH<0\/(t.cs.length:Int)<=p.eH)) 10,bU p.a,bU p.b]:=rfl;have d2:zY d p=bH [fo (aZ p.a),fo (aZ p.b),bt (decide (0<eS (aZ p.a) (aZ p.b))) 11,bt (d.any fun o=>gJ o p) 17]:=rfl;rw[<-d1]at k8;rw[<-d2]at i;clear d1 d2 g;generalize kJ t.cs.length d p=l at*;generalize zY d p=K at*;generalize bU p.a=H at*;generalize bU p.b=I at*;generalize fo (aZ p.a)=U at*;generalize fo (aZ p.b)=V at*;generalize eS (aZ p.a) (aZ p.b)=A at*;generalize (d.any fun o=>decide (o.name=p.name))=D at*;generalize (d.any fun o=>gJ o p)=J at*;generalize isName p.name=E at*;generalize (⟨aZ p.a,false⟩:NF)=v1 at*;generalize (⟨aZ p.b,false⟩:NF)=v2 at*;refine aI nf Hx mix (by simp[f161]) ?_;have r:∀b:Bool,decide (p.eH<0\/(t.cs.length:Int)<=p.eH)=b->aw prog 72 [.bool b,.int .i64 10] (.int .i64 (bt b 10))/\aw prog 71 [.seq [.int .i64 (bt (!E) 8),.int .i64 (bt D 9),.int .i64 (bt b 10),.int .i64 H,.int .i64 I]] (.int .i64 l):=fun b m=>by
  rw[m]at k8;exact⟨k5 b,by simpa using k8⟩
 simp at i;have y:aw prog 72 [.bool (decide (0<A)),.int .i64 11] (.int .i64 (bt (decide (0<A)) 11)):=B;clear k5 k8 B;generalize M:bt (!E) 8=Q at*;generalize N:bt D 9=R at*;generalize O:bt (decide (0<A)) 11=S at*;generalize P:bt J 17=T at*;simp[f161,-bh,aa];rw[bh];simp[-bh,aa];rw[bh];simp[-bh,aa];refine cf k1 [1] ?_;simp[-bh,aa,bm,sig]
 by_cases e:p.eH<0
 ·obtain⟨f1,f2⟩:=r true (by simp[e]);rw[bh,bh];simp[-bh,aa];refine Go.aj.e1 k2 ?_;simp[-bh,aa];refine Go.aj.e2 k3 ?_;simp[-bh,aa];refine Go.aj.e2 k4 ?_;simp[-bh,aa,e];refine Go.aj.e2 f1 ?_;simp[-bh,aa,e];refine Go.aj.e1 k6 ?_;simp[-bh,aa,e];refine Go.aj.e1 k7 ?_;simp[-bh,aa,e];refine ep f2 (by simp;first|exact⟨rfl,rfl⟩|rfl) (by simp;first|exact⟨rfl,rfl⟩|rfl) ?_;simp[-bh,aa,e];refine⟨by repeat' first|rfl|apply ao,?_⟩
  by_cases c:l=0
  case neg=>simp[c,aa]
  simp[c,aa];refine Go.aj.c2 (s c) ?_;simp[aa];refine Go.aj.e1 (u c) ?_;simp[aa];refine Go.aj.e1 (v c) ?_;simp[aa];refine Go.aj.e1 (w c) ?_;simp[aa];refine Go.aj.e1 (x c) ?_;simp[aa];refine Go.aj.e2 (q c) ?_;simp[aa];refine Go.aj.e2 y ?_;simp[aa];refine Go.aj.e2 z ?_;simp[aa];refine ep i (by simp;first|exact⟨rfl,rfl⟩|rfl) (by simp;first|exact⟨rfl,rfl⟩|rfl) ?_;simp[aa];exact⟨by repeat' first|rfl|apply ao,fun h=>(h c).elim⟩
 by_cases f:(t.cs.length:Int)<=p.eH
 ·obtain⟨f1,f2⟩:=r true (by simp[e,f]);rw[bh,bh];simp[-bh,aa];refine Go.aj.e1 k2 ?_;simp[-bh,aa];refine Go.aj.e2 k3 ?_;simp[-bh,aa];refine Go.aj.e2 k4 ?_;simp[-bh,aa,e,f];refine Go.aj.e2 f1 ?_;simp[-bh,aa,e,f];refine Go.aj.e1 k6 ?_;simp[-bh,aa,e,f];refine Go.aj.e1 k7 ?_;simp[-bh,aa,e,f];refine ep f2 (by simp;first|exact⟨rfl,rfl⟩|rfl) (by simp;first|exact⟨rfl,rfl⟩|rfl) ?_;simp[-bh,aa,e,f];refine⟨by repeat' first|rfl|apply ao,?_⟩
  by_cases c:l=0
  case neg=>simp[c,aa]
  simp[c,aa];refine Go.aj.c2 (s c) ?_;simp[aa];refine Go.aj.e1 (u c) ?_;simp[aa];refine Go.aj.e1 (v c) ?_;simp[aa];refine Go.aj.e1 (w c) ?_;simp[aa];refine Go.aj.e1 (x c) ?_;simp[aa];refine Go.aj.e2 (q c) ?_;simp[aa];refine Go.aj.e2 y ?_;simp[aa];refine Go.aj.e2 z ?_;simp[aa];refine ep i (by simp;first|exact⟨rfl,rfl⟩|rfl) (by simp;first|exact⟨rfl,rfl⟩|rfl) ?_;simp[aa];exact⟨by repeat' first|rfl|apply ao,fun h=>(h c).elim⟩
 ·obtain⟨f1,f2⟩:=r false (by simp[e,f]);rw[bh,bh];simp[-bh,aa];refine Go.aj.e1 k2 ?_;simp[-bh,aa];refine Go.aj.e2 k3 ?_;simp[-bh,aa];refine Go.aj.e2 k4 ?_;simp[-bh,aa,e,f];refine Go.aj.e2 f1 ?_;simp[-bh,aa,e,f];refine Go.aj.e1 k6 ?_;simp[-bh,aa,e,f];refine Go.aj.e1 k7 ?_;simp[-bh,aa,e,f];refine ep f2 (by simp;first|exact⟨rfl,rfl⟩|rfl) (by simp;first|exact⟨rfl,rfl⟩|rfl) ?_;simp[-bh,aa,e,f];refine⟨by repeat' first|rfl|apply ao,?_⟩
  by_cases c:l=0
  case neg=>simp[c,aa]
  simp[c,aa];refine Go.aj.c2 (s c) ?_;simp[aa];refine Go.aj.e1 (u c) ?_;simp[aa];refine Go.aj.e1 (v c) ?_;simp[aa];refine Go.aj.e1 (w c) ?_;simp[aa];refine Go.aj.e1 (x c) ?_;simp[aa];refine Go.aj.e2 (q c) ?_;simp[aa];refine Go.aj.e2 y ?_;simp[aa];refine Go.aj.e2 z ?_;simp[aa];refine ep i (by simp;first|exact⟨rfl,rfl⟩|rfl) (by simp;first|exact⟨rfl,rfl⟩|rfl) ?_;simp[aa];exact⟨by repeat' first|rfl|apply ao,fun h=>(h c).elim⟩
def ou(a:List dQ)(s:dQ):Int:=bH [bt (!isName s.name) 8,bt (a.any fun o=>decide (o.name=s.name)) 9,dU s.pt]
theorem RA(t:aF)(b:List dQ)(s:dQ):iB t b s=if ou b s=0 then bt (decide (t.on (vP s.pt)<0)) 16 else ou b s:=by
 rw[iB,ou];generalize dU s.pt=c;generalize (b.any fun o=>decide (o.name=s.name))=a;cases e:isName s.name
 ·simp[bH,bt]
 cases a
 case true=>simp[bH,bt]
 by_cases d:c=0
 case neg=>simp[bH,bt,d]
 simp[bH,bt,d]
theorem Rv{bef:List dQ}{s:dQ}(h:ou bef s=0):dU s.pt=0:=by
 rw[ou,o6]at h;exact h _ (by simp)
theorem RG(t:aF)(s:dQ)(a:List dQ)(k:t.cs.length<=1000000)(l:∀p∈t.cs,fq p)(hs:rS s)(j:a.length<=1000000):
 aw prog 163 [dI t,fN s,.seq (a.map fN)] (.int .i64 (iB t a s)):=by
 obtain⟨r,f⟩:=hs;have k1:=RE s a j;have k2:=Fv s.name r.1;have k3:=fD (!isName s.name) 8;have k4:=fD (a.any fun o=>decide (o.name=s.name)) 9;have k6:=HI s.pt f;have k8:=jV [bt (!isName s.name) 8,bt (a.any fun o=>decide (o.name=s.name)) 9,dU s.pt] (by simp);have c:=Rv (bef:=a) (s:=s);rw[RA];have m:=fun h:ou a s=0=>OU s.pt (nE (c h)).1 (nE (c h)).2 f;have e:=fun h:ou a s=0=>DN t (.from s.pt) k l (A3 ⟨(iA (nE (c h)).1).mono (by decide),(iA (nE (c h)).2).mono (by decide)⟩);have n:=fD (decide (t.on (vP s.pt)<0)) 16;rw[Dr]at e;have d1:ou a s=bH [bt (!isName s.name) 8,bt (a.any fun o=>decide (o.name=s.name)) 9,dU s.pt]:=rfl;rw[<-d1]at k8;clear d1 c;generalize ou a s=d at*;generalize t.on (vP s.pt)=y at*;generalize dU s.pt=u at*;generalize (a.any fun o=>decide (o.name=s.name))=g at*;generalize isName s.name=i at*;generalize NV.from s.pt=v1 at*;refine aI nf OG mix (by simp[f163]) ?_;have q:aw prog 71 [.seq [.int .i64 (bt (!i) 8),.int .i64 (bt g 9),.int .i64 u]] (.int .i64 d):=by simpa using k8
 clear k8;generalize v:bt (!i) 8=z at*;generalize w:bt g 9=A at*;generalize x:bt (decide (y<0)) 16=B at*;simp[f163,aa];refine cf k1 [1] ?_;simp[aa,bm,sig];refine Go.aj.e1 k2 ?_;simp[aa];refine Go.aj.e2 k3 ?_;simp[aa];refine Go.aj.e2 k4 ?_;simp[aa];refine Go.aj.e1 k6 ?_;simp[aa];refine ep q (by simp;first|exact⟨rfl,rfl⟩|rfl) (by simp;first|exact⟨rfl,rfl⟩|rfl) ?_;simp[aa];refine⟨by repeat' first|rfl|apply ao,?_⟩
 by_cases b:d=0
 case neg=>simp[b,aa]
 simp[b,aa];refine Go.aj.e1 (m b) ?_;simp[aa];refine Go.aj.e2 (e b) ?_;simp[aa];refine Go.aj.e2 n ?_;simp[aa];exact fun h=>(h b).elim
def jX{α:Type}(b:Nat)(a:List α->α->Int)(l:List α):Int:=if b<l.length then 5 else jU a l
theorem Cq{α:Type}{n:Nat}{f:α->PV}(h:∀a,aa (.p (f a))≠.bad/\bD prog (aa (.p (f a)))=n)(l:List α):fc prog n (l.map (AV.p∘f)):=uW.2 fun v b=>by
 obtain⟨a,_,rfl⟩:=List.mem_map.1 b;exact h a
theorem JO(l:List dN):fc prog 4 (l.map (AV.p∘ff)):=Cq (fun r=>⟨by simp[aa],by simp[aa]⟩) l
theorem JP(l:List dQ):fc prog 3 (l.map (AV.p∘fN)):=Cq (fun r=>⟨by simp[aa],by simp[aa]⟩) l
theorem RS(t:aF)(a:Nat)(h:t.cs.length<=1000000)(m:t.bc.length<=1000000)(c:∀p∈t.bc,rR p):
 aw prog 160 [.seq (t.bc.map ff),.int .i64 a,.func 161 [dI t] []] (.int .i64 (jX a (ij t.cs.length) t.bc)):=by
 refine aI nf Hy mix (by simp[f160]) ?_;rw[jX]
 by_cases c1:a<t.bc.length
 ·have cI:(a:Int)<t.bc.length:=by omega
  rw[if_pos c1];simp[f160,cI]
 have d:¬(a:Int)<t.bc.length:=by omega
 rw[if_neg c1];simp[f160,d];refine lp (α:=Nat) (fun i=>⟨[(16,.p (.int .i64 i)),(15,.p (.int .i64 t.bc.length)),(14,.p (.seq (t.bc.map ff))),(0,.p (.seq (t.bc.map ff))),(2,.p (.func 161 [dI t] []))],[]⟩) (fun i=>i<=t.bc.length/\∀j,j<i->gK (ij t.cs.length) t.bc j=0) (fun i=>t.bc.length-i) 0 (by simp) ?_;rintro i ⟨k1,k2⟩
 by_cases hk:i<t.bc.length
 ·have gk:=aF.lB hk;have l:=bX (i:=i) (by omega);have b:=Rr t (t.pk i) (t.bc.take i) h (c _ (bb gk)) (by rw[bo];omega) (fun o k=>by
   obtain⟨j,f,rfl⟩:=b0.1 k;rw[bo]at f;rw[b2];have:=k2 j (by omega);have g:=aF.lB (t:=t) (i:=j) (by omega);rw[gK,g]at this;rw[aF.QH (by omega)];exact⟨c _ (bb g),Fu this⟩)
  rw[b3]at b
  by_cases he:ij t.cs.length (t.bc.take i) (t.pk i)=0
  ·rw[he]at b;have:=uw k2 gk he;simp[hk,gk,aa];refine⟨⟨k1,JO _⟩,?_⟩;refine Go.aj.e3 b ?_;simp[l,aa];exact rd (i+1) ⟨hk,this⟩
  ·have e:=ux k2 gk he;rw[e];simp[hk,gk,aa];refine⟨⟨k1,JO _⟩,?_⟩;refine Go.aj.e3 b ?_;simp[he,aa]
 ·have:i=t.bc.length:=by omega
  subst this;rw[oB.2 k2];simp
theorem RR(t:aF)(a:Nat)(e:t.cs.length<=1000000)(f:∀p∈t.cs,fq p)(k:t.az.length<=1000000)(g:∀p∈t.az,rS p):
 aw prog 162 [.seq (t.az.map fN),.int .i64 a,.func 163 [dI t] []] (.int .i64 (jX a (iB t) t.az)):=by
 refine aI nf OH mix (by simp[f162]) ?_;rw[jX]
 by_cases c1:a<t.az.length
 ·have cI:(a:Int)<t.az.length:=by omega
  rw[if_pos c1];simp[f162,cI]
 have c:¬(a:Int)<t.az.length:=by omega
 rw[if_neg c1];simp[f162,c];refine lp (α:=Nat) (fun i=>⟨[(16,.p (.int .i64 i)),(15,.p (.int .i64 t.az.length)),(14,.p (.seq (t.az.map fN))),(0,.p (.seq (t.az.map fN))),(2,.p (.func 163 [dI t] []))],[]⟩) (fun i=>i<=t.az.length/\∀j,j<i->gK (iB t) t.az j=0) (fun i=>t.az.length-i) 0 (by simp) ?_;rintro i ⟨k1,k2⟩
 by_cases hk:i<t.az.length
 ·have gk:=aF.fx hk;have h:=bX (i:=i) (by omega);have b:=RG t (t.sp i) (t.az.take i) e f (g _ (bb gk)) (by rw[bo];omega);rw[b3]at b
  by_cases he:iB t (t.az.take i) (t.sp i)=0
  ·rw[he]at b;have:=uw k2 gk he;simp[hk,gk,aa];refine⟨⟨k1,JP _⟩,?_⟩;refine Go.aj.e3 b ?_;simp[h,aa];exact rd (i+1) ⟨hk,this⟩
  ·have d:=ux k2 gk he;rw[d];simp[hk,gk,aa];refine⟨⟨k1,JP _⟩,?_⟩;refine Go.aj.e3 b ?_;simp[he,aa]
 ·have:i=t.az.length:=by omega
  subst this;rw[oB.2 k2];simp
def mq(t:aF):Int:=bH [bt (decide ((t.cs.length:Int)<3)) 2,bt (decide (12<(t.cs.length:Int))) 5,bt (t.cs.any fH) 3]
def qd(t:aF):Int:=bH [bt (!t.fW) 15,bt (decide (t.bF<1\/1000<t.bF)) 3,jX 12 (ij t.cs.length) t.bc]
theorem Fi{t:aF}(h:mq t=0):3<=t.cs.length/\t.cs.length<=12/\∀p∈t.cs,fq p:=by
 rw[mq,o6]at h;have b:=h (bt (decide ((t.cs.length:Int)<3)) 2) (by simp);have d:=h (bt (decide (12<(t.cs.length:Int))) 5) (by simp);have a:=h (bt (t.cs.any fH) 3) (by simp);refine⟨?_,?_,fun p e=>Fs ?_⟩
 ·by_cases c:(t.cs.length:Int)<3
  ·simp[bt,c]at b
  ·omega
 ·by_cases c:12<(t.cs.length:Int)
  ·simp[bt,c]at d
  ·omega
 ·cases hf:fH p
  ·rfl
  ·have:t.cs.any fH=true:=List.any_eq_true.2 ⟨p,e,hf⟩;rw[this]at a;simp[bt]at a
theorem Ay(t:aF):eO t=if mq t=0 then(if qd t=0 then jX 256 (iB t) t.az else qd t)else mq t:=by
 rw[eO,mq,qd,jX,jX]
 by_cases c1:t.cs.length<3
 ·have:(t.cs.length:Int)<3:=by omega
  simp[bH,bt,c1,this]
 have b:¬(t.cs.length:Int)<3:=by omega
 by_cases c2:12<t.cs.length
 ·have:(12:Int)<t.cs.length:=by omega
  simp[bH,bt,c1,c2,b,this]
 have c:¬(12:Int)<t.cs.length:=by omega
 generalize t.cs.any fH=a;cases a
 case true=>simp[bH,bt,c1,c2,b,c]
 cases t.fW
 ·simp[bH,bt,c1,c2,b,c]
 by_cases c3:t.bF<1\/1000<t.bF
 ·simp[bH,bt,c1,c2,b,c,c3]
 by_cases c4:12<t.bc.length
 ·simp[bH,bt,c1,c2,b,c,c3,c4]
 generalize jU (ij t.cs.length) t.bc=e
 by_cases c5:e=0
 ·simp[bH,bt,c1,c2,b,c,c3,c4,c5]
 ·simp[bH,bt,c1,c2,b,c,c3,c4,c5]
theorem Ax(t:aF)(v:kY t):aw prog 68 [dI t] (.int .i64 (eO t)):=by
 obtain⟨k,z,A,s,u⟩:=v;have k1:=fD (decide ((t.cs.length:Int)<3)) 2;have k2:=fD (decide (12<(t.cs.length:Int))) 5;have k3:=Rp t.cs k;have k4:=fD (t.cs.any fH) 3;have k5:=jV [bt (decide ((t.cs.length:Int)<3)) 2,bt (decide (12<(t.cs.length:Int))) 5,bt (t.cs.any fH) 3] (by simp);have l:=Fi (t:=t);rw[Ay];have w:=fun h:mq t=0=>RU t (l h).1 k (l h).2.2;have x:=fD (!t.fW) 15;have q:=fun b=>fD b 3;have n:=RS t 12 k z s;have j:=jV [bt (!t.fW) 15,bt (decide (t.bF<1\/1000<t.bF)) 3,jX 12 (ij t.cs.length) t.bc] (by simp);have o:=fun h:mq t=0=>RR t 256 k (l h).2.2 A u;have d1:mq t=bH [bt (decide ((t.cs.length:Int)<3)) 2,bt (decide (12<(t.cs.length:Int))) 5,bt (t.cs.any fH) 3]:=rfl;have d2:qd t=bH [bt (!t.fW) 15,bt (decide (t.bF<1\/1000<t.bF)) 3,jX 12 (ij t.cs.length) t.bc]:=rfl;rw[<-d1]at k5;rw[<-d2]at j;clear d1 d2 l;generalize mq t=p at*;generalize qd t=i at*;generalize jX 12 (ij t.cs.length) t.bc=F at*;generalize jX 256 (iB t) t.az=M at*;generalize t.cs.any fH=G at*;generalize t.fW=H at*;generalize I:bt (decide ((t.cs.length:Int)<3)) 2=B at*;generalize J:bt (decide (12<(t.cs.length:Int))) 5=C at*;generalize K:bt G 3=D at*;generalize L:bt (!H) 15=E at*;have m:∀b:Bool,decide (t.bF<1\/1000<t.bF)=b->aw prog 72 [.bool b,.int .i64 3] (.int .i64 (bt b 3))/\aw prog 71 [.seq [.int .i64 E,.int .i64 (bt b 3),.int .i64 F]] (.int .i64 i):=fun b r=>by
  rw[r]at j;exact⟨q b,by simpa using j⟩
 have y:aw prog 71 [.seq [.int .i64 B,.int .i64 C,.int .i64 D]] (.int .i64 p):=by simpa using k5
 clear j q k5;refine aI nf PO mix (by simp[f68]) ?_;simp[f68,aa];refine Go.aj.e2 k1 ?_;simp[aa];refine Go.aj.e2 k2 ?_;simp[aa];refine Go.aj.e2 k3 ?_;simp[aa];refine Go.aj.e2 k4 ?_;simp[aa];refine ep y (by simp;first|exact⟨rfl,rfl⟩|rfl) (by simp;first|exact⟨rfl,rfl⟩|rfl) ?_;simp[aa];refine⟨by repeat' first|rfl|apply ao,?_⟩
 by_cases a:p=0
 case neg=>simp[a,aa]
 simp[a,aa];refine Go.aj.e1 (w a) ?_;simp[aa];refine Go.aj.e2 x ?_;simp[aa]
 by_cases c:t.bF<1
 ·have d:¬1<=t.bF:=by omega
  obtain⟨f1,f2⟩:=m true (by simp[c]);simp[c,d,aa];refine Go.aj.e2 f1 ?_;simp[c,d,aa];refine Go.aj.e3 n ?_;simp[c,d,aa];refine ep f2 (by simp;first|exact⟨rfl,rfl⟩|rfl) (by simp;first|exact⟨rfl,rfl⟩|rfl) ?_;simp[c,d,aa];refine⟨by repeat' first|rfl|apply ao,?_⟩
  by_cases e:i=0
  case neg=>simp[a,e,aa]
  simp[a,e,aa];refine Go.aj.c3 (o a) ?_;simp[a,e,aa]
 have d:1<=t.bF:=by omega
 by_cases f:1000<t.bF
 ·have g:¬t.bF<=1000:=by omega
  obtain⟨f1,f2⟩:=m true (by simp[c,f]);simp[c,d,f,g,aa];refine Go.aj.e2 f1 ?_;simp[c,d,f,g,aa];refine Go.aj.e3 n ?_;simp[c,d,f,g,aa];refine ep f2 (by simp;first|exact⟨rfl,rfl⟩|rfl) (by simp;first|exact⟨rfl,rfl⟩|rfl) ?_;simp[c,d,f,g,aa];refine⟨by repeat' first|rfl|apply ao,?_⟩
  by_cases e:i=0
  case neg=>simp[a,e,aa]
  simp[a,e,aa];refine Go.aj.c3 (o a) ?_;simp[a,e,aa]
 ·have g:t.bF<=1000:=by omega
  obtain⟨f1,f2⟩:=m false (by simp[c,f]);simp[c,d,f,g,aa];refine Go.aj.e2 f1 ?_;simp[c,d,f,g,aa];refine Go.aj.e3 n ?_;simp[c,d,f,g,aa];refine ep f2 (by simp;first|exact⟨rfl,rfl⟩|rfl) (by simp;first|exact⟨rfl,rfl⟩|rfl) ?_;simp[c,d,f,g,aa];refine⟨by repeat' first|rfl|apply ao,?_⟩
  by_cases e:i=0
  case neg=>simp[a,e,aa]
  simp[a,e,aa];refine Go.aj.c3 (o a) ?_;simp[a,e,aa]
def aF.aHl(t:aF)(i:Nat):NV:=(fJ (t.at (t.nx i))).sub (fJ (t.at i))
def NS.add(s t:NS):NS:=⟨s.a.add t.a,s.b.add t.b,s.d⟩
def NS.neg(s:NS):NS:=⟨s.a.neg,s.b.neg,s.d⟩
def NS.times(s:NS)(k:NF):NS:=⟨s.a.mul k,s.b.mul k,s.d⟩
def NB.gZ(n:NB)(e:NV):NS:=⟨e.gZ n.a,e.gZ n.b,n.d⟩
def NS.plain(a d:NF):NS:=⟨a,.int 0,d⟩
def NS.norm(s:NS):NF:=(s.a.mul s.a).sub ((s.b.mul s.b).mul s.d)
open Classical in
noncomputable def NS.under(s:NS)(k:NF):NS:=if s.norm.q=0 then .plain (k.div (s.a.add s.a)) s.d else⟨(k.mul s.a).div s.norm,(k.mul s.b).neg.div s.norm,s.d⟩
theorem Ez.mono{k l:Nat}{s:NS}(h:Ez k s)(a:k<=l):Ez l s:=⟨h.1.mono a,h.2.1.mono a,h.2.2.mono a⟩
def aF.pos(t:aF)(n:NB)(i:Nat):Bool:=decide (0<sgS ((n.gZ (t.aHl i)).neg).q)
theorem wZ{t:aF}(h:eO t=0):3<=t.cs.length/\t.cs.length<=12/\(∀p∈t.cs,fq p)/\t.fW=true:=by
 rw[Ay]at h
 by_cases d:mq t=0
 ·rw[if_pos d]at h
  by_cases e:qd t=0
  ·obtain⟨a,b,c⟩:=Fi d;refine⟨a,b,c,?_⟩;rw[qd,o6]at e;have f:=e (bt (!t.fW) 15) (by simp);cases hc:t.fW
   ·rw[hc]at f;simp[bt]at f
   ·rfl
  ·rw[if_neg e]at h;exact(e h).elim
 ·rw[if_neg d]at h;exact(d h).elim
def AA:PV:=.st 46 [.str [],.str []]
theorem mn(s:List Nat)(n:Int):aw prog 59 [.str s,.int .i64 n] (.bool (decide ((s.length:Int)<=n))):=by
 refine aI nf PN mix (by simp[f59]) ?_;simp[f59]
def jx(p:dN):Bool:=decide (p.name.length<=40)&&(decide (p.a.length<=40)&&decide (p.b.length<=40))
def gH(s:dQ):Bool:=decide (s.name.length<=40)&&(decide (s.pt.x.length<=40)&&decide (s.pt.y.length<=40))
def jW(t:aF):Bool:=!(decide (14<t.cs.length)||(decide (14<t.bc.length)||((decide (8<t.az.length)&&decide (t.az.length<=256))||decide (258<t.az.length))))&&(t.bc.all jx&&t.az.all gH)
theorem oC{α:Type}{f:α->Bool}{l:List α}{i:Nat}{x:α}(h:l[i]?=some x):(l.take (i+1)).all f=((l.take i).all f&&f x):=by
 rw[b1,h];simp
theorem iW{α:Type}{f:α->Bool}{l:List α}{i:Nat}{x:α}(h:l[i]?=some x)(hf:f x=false):l.all f=false:=by
 cases a:l.all f
 ·rfl
 ·rw[List.all_eq_true]at a;rw[a x (bb h)]at hf;cases hf
theorem FE(t:aF)(B:t.cs.length<=1000000)(C:t.bc.length<=1000000)(D:t.az.length<=1000000):aw prog 10 [cA t] (.bool (jW t)):=by
 refine aI nf Pp mix (by simp[f10]) ?_;have s:jW t=(!(decide (14<t.cs.length)||(decide (14<t.bc.length)||((decide (8<t.az.length)&&decide (t.az.length<=256))||decide (258<t.az.length))))&&(t.bc.all jx&&t.az.all gH)):=rfl
 by_cases c1:14<t.cs.length
 ·have q:(14:Int)<t.cs.length:=by omega
  have o:jW t=false:=by rw[s];simp[c1]
  simp[f10,aa,q,o]
 have q:¬(14:Int)<t.cs.length:=by omega
 by_cases c2:14<t.bc.length
 ·have r:(14:Int)<t.bc.length:=by omega
  have o:jW t=false:=by rw[s];simp[c2]
  simp[f10,aa,q,r,o]
 have r:¬(14:Int)<t.bc.length:=by omega
 have tail:(8<t.az.length->¬t.az.length<=256)->¬258<t.az.length->jW t=(t.bc.all jx&&t.az.all gH):=fun A z=>by
  rw[s]
  by_cases h:8<t.az.length
  ·have:=A h;simp[c1,c2,h,this,z]
  ·simp[c1,c2,h,z]
 by_cases c3:8<t.az.length
 ·have u:(8:Int)<t.az.length:=by omega
  by_cases c4:t.az.length<=256
  ·have w:(t.az.length:Int)<=256:=by omega
   have o:jW t=false:=by rw[s];simp[c3,c4]
   simp[f10,aa,q,r,u,w,o]
  ·have w:¬(t.az.length:Int)<=256:=by omega
   by_cases c5:258<t.az.length
   ·have v:(258:Int)<t.az.length:=by omega
    have o:jW t=false:=by rw[s];simp[c5]
    simp[f10,aa,q,r,u,w,v,o]
   ·have v:¬(258:Int)<t.az.length:=by omega
    rw[tail (fun _=>c4) c5];simp[f10,aa,q,r,u,w,v];refine lp (α:=Nat) (fun i=>⟨[(3,.p (.int .i64 i)),(1,.ptr 0 [])],[.box false (.p (cA t))]⟩) (fun i=>i<=t.bc.length/\(t.bc.take i).all jx=true) (fun i=>t.bc.length-i) 0 (by simp) ?_;rintro i ⟨k1,k2⟩
    by_cases hi:i<t.bc.length
    ·have c:=aF.lB hi;have n:=bX (i:=i) (by omega);have f:=mn (t.pk i).a 40;have j:=mn (t.pk i).b 40;have g:jx (t.pk i)=(decide ((t.pk i).name.length<=40)&&(decide ((t.pk i).a.length<=40)&&decide ((t.pk i).b.length<=40))):=rfl
     by_cases m:(t.pk i).name.length<=40
     ·have d:¬(40:Int)<(t.pk i).name.length:=by omega
      by_cases a2:(t.pk i).a.length<=40
      ·have k:((t.pk i).a.length:Int)<=40:=by omega
       rw[decide_eq_true k]at f
       by_cases a3:(t.pk i).b.length<=40
       ·have l:((t.pk i).b.length:Int)<=40:=by omega
        rw[decide_eq_true l]at j;have e:jx (t.pk i)=true:=by rw[g];simp[m,a2,a3]
        simp[hi,c,d,aa];refine Go.aj.c2 f ?_;simp[hi,c,d,aa];refine Go.aj.c2 j ?_;simp[hi,c,d,n,aa];exact rd (i+1) ⟨hi,by rw[oC c,k2,e];rfl⟩
       ·have l:¬((t.pk i).b.length:Int)<=40:=by omega
        rw[decide_eq_false l]at j;have e:jx (t.pk i)=false:=by rw[g];simp[a3]
        rw[iW c e];simp[hi,c,d,aa];refine Go.aj.c2 f ?_;simp[hi,c,d,aa];refine Go.aj.c2 j ?_;simp[hi,c,d,n,aa]
      ·have k:¬((t.pk i).a.length:Int)<=40:=by omega
       rw[decide_eq_false k]at f;have e:jx (t.pk i)=false:=by rw[g];simp[a2]
       rw[iW c e];simp[hi,c,d,aa];refine Go.aj.c2 f ?_;simp[hi,c,d,aa]
     ·have d:(40:Int)<(t.pk i).name.length:=by omega
      have e:jx (t.pk i)=false:=by rw[g];simp[m]
      rw[iW c e];simp[hi,c,d,aa]
    have:i=t.bc.length:=by omega
    subst this;rw[bl]at k2;rw[k2,ay];simp[aa];refine lp (α:=Nat) (fun i=>⟨[(4,.p (.int .i64 i)),(1,.ptr 0 [])],[.box false (.p (cA t))]⟩) (fun i=>i<=t.az.length/\(t.az.take i).all gH=true) (fun i=>t.az.length-i) 0 (by simp) ?_;rintro i ⟨k1,k2⟩
    by_cases hi:i<t.az.length
    ·have c:=aF.fx hi;have n:=bX (i:=i) (by omega);have f:=mn (t.sp i).pt.x 40;have j:=mn (t.sp i).pt.y 40;have g:gH (t.sp i)=(decide ((t.sp i).name.length<=40)&&(decide ((t.sp i).pt.x.length<=40)&&decide ((t.sp i).pt.y.length<=40))):=rfl
     by_cases m:(t.sp i).name.length<=40
     ·have d:¬(40:Int)<(t.sp i).name.length:=by omega
      by_cases a2:(t.sp i).pt.x.length<=40
      ·have k:((t.sp i).pt.x.length:Int)<=40:=by omega
       rw[decide_eq_true k]at f
       by_cases a3:(t.sp i).pt.y.length<=40
       ·have l:((t.sp i).pt.y.length:Int)<=40:=by omega
        rw[decide_eq_true l]at j;have e:gH (t.sp i)=true:=by rw[g];simp[m,a2,a3]
        simp[hi,c,d,aa];refine Go.aj.c2 f ?_;simp[hi,c,d,aa];refine Go.aj.c2 j ?_;simp[hi,c,d,n,aa];exact rd (i+1) ⟨hi,by rw[oC c,k2,e];rfl⟩
       ·have l:¬((t.sp i).pt.y.length:Int)<=40:=by omega
        rw[decide_eq_false l]at j;have e:gH (t.sp i)=false:=by rw[g];simp[a3]
        rw[iW c e];simp[hi,c,d,aa];refine Go.aj.c2 f ?_;simp[hi,c,d,aa];refine Go.aj.c2 j ?_;simp[hi,c,d,n,aa]
      ·have k:¬((t.sp i).pt.x.length:Int)<=40:=by omega
       rw[decide_eq_false k]at f;have e:gH (t.sp i)=false:=by rw[g];simp[a2]
       rw[iW c e];simp[hi,c,d,aa];refine Go.aj.c2 f ?_;simp[hi,c,d,aa]
     ·have d:(40:Int)<(t.sp i).name.length:=by omega
      have e:gH (t.sp i)=false:=by rw[g];simp[m]
      rw[iW c e];simp[hi,c,d,aa]
    have:i=t.az.length:=by omega
    subst this;rw[bl]at k2;rw[k2];simp[aa]
 ·have u:¬(8:Int)<t.az.length:=by omega
  have v:¬(258:Int)<t.az.length:=by omega
  rw[tail (fun h=>absurd h c3) (by omega)];simp[f10,aa,q,r,u,v];refine lp (α:=Nat) (fun i=>⟨[(3,.p (.int .i64 i)),(1,.ptr 0 [])],[.box false (.p (cA t))]⟩) (fun i=>i<=t.bc.length/\(t.bc.take i).all jx=true) (fun i=>t.bc.length-i) 0 (by simp) ?_;rintro i ⟨k1,k2⟩
  by_cases hi:i<t.bc.length
  ·have c:=aF.lB hi;have n:=bX (i:=i) (by omega);have f:=mn (t.pk i).a 40;have j:=mn (t.pk i).b 40;have g:jx (t.pk i)=(decide ((t.pk i).name.length<=40)&&(decide ((t.pk i).a.length<=40)&&decide ((t.pk i).b.length<=40))):=rfl
   by_cases m:(t.pk i).name.length<=40
   ·have d:¬(40:Int)<(t.pk i).name.length:=by omega
    by_cases a2:(t.pk i).a.length<=40
    ·have k:((t.pk i).a.length:Int)<=40:=by omega
     rw[decide_eq_true k]at f
     by_cases a3:(t.pk i).b.length<=40
     ·have l:((t.pk i).b.length:Int)<=40:=by omega
      rw[decide_eq_true l]at j;have e:jx (t.pk i)=true:=by rw[g];simp[m,a2,a3]
      simp[hi,c,d,aa];refine Go.aj.c2 f ?_;simp[hi,c,d,aa];refine Go.aj.c2 j ?_;simp[hi,c,d,n,aa];exact rd (i+1) ⟨hi,by rw[oC c,k2,e];rfl⟩
     ·have l:¬((t.pk i).b.length:Int)<=40:=by omega
      rw[decide_eq_false l]at j;have e:jx (t.pk i)=false:=by rw[g];simp[a3]
      rw[iW c e];simp[hi,c,d,aa];refine Go.aj.c2 f ?_;simp[hi,c,d,aa];refine Go.aj.c2 j ?_;simp[hi,c,d,n,aa]
    ·have k:¬((t.pk i).a.length:Int)<=40:=by omega
     rw[decide_eq_false k]at f;have e:jx (t.pk i)=false:=by rw[g];simp[a2]
     rw[iW c e];simp[hi,c,d,aa];refine Go.aj.c2 f ?_;simp[hi,c,d,aa]
   ·have d:(40:Int)<(t.pk i).name.length:=by omega
    have e:jx (t.pk i)=false:=by rw[g];simp[m]
    rw[iW c e];simp[hi,c,d,aa]
  have:i=t.bc.length:=by omega
  subst this;rw[bl]at k2;rw[k2,ay];simp[aa];refine lp (α:=Nat) (fun i=>⟨[(4,.p (.int .i64 i)),(1,.ptr 0 [])],[.box false (.p (cA t))]⟩) (fun i=>i<=t.az.length/\(t.az.take i).all gH=true) (fun i=>t.az.length-i) 0 (by simp) ?_;rintro i ⟨k1,k2⟩
  by_cases hi:i<t.az.length
  ·have c:=aF.fx hi;have n:=bX (i:=i) (by omega);have f:=mn (t.sp i).pt.x 40;have j:=mn (t.sp i).pt.y 40;have g:gH (t.sp i)=(decide ((t.sp i).name.length<=40)&&(decide ((t.sp i).pt.x.length<=40)&&decide ((t.sp i).pt.y.length<=40))):=rfl
   by_cases m:(t.sp i).name.length<=40
   ·have d:¬(40:Int)<(t.sp i).name.length:=by omega
    by_cases a2:(t.sp i).pt.x.length<=40
    ·have k:((t.sp i).pt.x.length:Int)<=40:=by omega
     rw[decide_eq_true k]at f
     by_cases a3:(t.sp i).pt.y.length<=40
     ·have l:((t.sp i).pt.y.length:Int)<=40:=by omega
      rw[decide_eq_true l]at j;have e:gH (t.sp i)=true:=by rw[g];simp[m,a2,a3]
      simp[hi,c,d,aa];refine Go.aj.c2 f ?_;simp[hi,c,d,aa];refine Go.aj.c2 j ?_;simp[hi,c,d,n,aa];exact rd (i+1) ⟨hi,by rw[oC c,k2,e];rfl⟩
     ·have l:¬((t.sp i).pt.y.length:Int)<=40:=by omega
      rw[decide_eq_false l]at j;have e:gH (t.sp i)=false:=by rw[g];simp[a3]
      rw[iW c e];simp[hi,c,d,aa];refine Go.aj.c2 f ?_;simp[hi,c,d,aa];refine Go.aj.c2 j ?_;simp[hi,c,d,n,aa]
    ·have k:¬((t.sp i).pt.x.length:Int)<=40:=by omega
     rw[decide_eq_false k]at f;have e:gH (t.sp i)=false:=by rw[g];simp[a2]
     rw[iW c e];simp[hi,c,d,aa];refine Go.aj.c2 f ?_;simp[hi,c,d,aa]
   ·have d:(40:Int)<(t.sp i).name.length:=by omega
    have e:gH (t.sp i)=false:=by rw[g];simp[m]
    rw[iW c e];simp[hi,c,d,aa]
  have:i=t.az.length:=by omega
  subst this;rw[bl]at k2;rw[k2];simp[aa]
end Go.aj
