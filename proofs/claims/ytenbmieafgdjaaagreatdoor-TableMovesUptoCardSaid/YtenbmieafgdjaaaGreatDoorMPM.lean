import Derived.Test.YtenbmieafgdjaaaGreatDoorMPL
import Derived.Test.YtenbmieafgdjaaaGreatDoorMPH
import Derived.Test.YtenbmieafgdjaaaGreatDoorMPK
/- Parts of a proof. -/
set_option linter.unusedSimpArgs false
set_option linter.unusedVariables false
set_option linter.unusedSectionVars false
open Go.Proofs.Tryz
open And renaming intro->aT
open Bool renaming and_eq_true->a0, false_eq_true->a1, cond_eq_ite->a3, eq_iff_iff->a4
open Go renaming FuncId->a5
open Go.Builtin renaming zeroCells->a6
open Go.IntKind renaming i64->a7
open Go.Lib renaming countByte->a8, compareBytes->a9, join->bb
open List renaming take_of_length_le->be, mem_of_getElem?->bi, getElem?_eq_getElem->bk, length_eq_zero_iff->bl, getElem?_map->bo, replicate->bv, take_add_one->b0, getElem?_eq_some_iff->b1, map_cons->b2, take_length->b3, range->b4, mem_iff_getElem->b5, length_map->cb, getElem?_range->cc, ext_getElem->ce, any_eq_true->ck, all_eq_true->cv
open Nat renaming eq_of_beq_eq_true->cx, beq->cy, le_of_ble_eq_true->c6, le_refl->c9, blt->da, ble->db, le_trans->dg, blt_eq->dk
open Option renaming ite_none_right_eq_some->dl
open Option.some renaming injEq->dp
open Prod.mk renaming injEq->dq
namespace Go.al
open Go.Proofs
set_option maxHeartbeats 4000000
set_option maxRecDepth 100000
def kP(a:List Nat):List (List Nat)->List Nat
 |[]=>[]
 |[s]=>s
 |s::r=>s++a++kP a r
theorem ET(b:List UInt8):∀(c:List (List UInt8)),kP (cT b) (c.map cT)=cT (bb c b)
 |[]=>by simp[kP,Lib.join_nil,cT]
 |[x]=>by simp[kP,Lib.join_one]
 |x::y::r=>by
  have a:=ET b (y::r);rw[Lib.join_cons]at a⊢;simp only[b2]at a⊢;rw[kP,a]
  ·simp[cT,Lib.joinTail]
  ·simp
theorem E9{w:World}{aa:Nat->Prop}:∀{l:List (List Nat)}{e:List Nat}{a:List (List Value)},bc prog w aa e (l.map .str) a->
 ∃d:List ByteArray,a.flatten=d.map .string/\l=d.map (fun b=>cT b.data.toList)
 |[],e,a,h=>by
  have:=tS h;subst this;exact⟨[],by simp,by simp⟩
 |s::l,[],a,h=>by simp[bc]at h
 |s::l,n::e,a,h=>by
  simp only[b2,bc,aS]at h;obtain⟨c,cs,rfl,⟨bs,rfl,f⟩,_,g⟩:=h;obtain⟨d,g1,g2⟩:=E9 g;exact⟨bs::d,by simp[g1],by simp[g2,f,cT]⟩
theorem Xh(full:Bool)(l:List (List Nat))(d:List Nat)(F:l.length<=140737488355328)(k:(kP d l).length<=140737488355328):az prog 227 [.bI full (l.map .str),.str d] (.str (kP d l)):=by
 refine jr (iD func227 (by kernel_rfl)) fun w aa B t E s=>?_;obtain⟨x,y,rfl,f,g⟩:=lZ s;simp only[aA]at f g;obtain⟨sp,rfl,rfl⟩:=g;obtain⟨ak,off,cap,ai,C,p,q,h,D,i,o,A,rfl⟩:=f;obtain⟨xs,g1,g2⟩:=E9 p;have b:(l.map PV.str).length=xs.length:=by rw[g2];simp
 cases c:xs with
 |nil=>
  subst c;have v:l=[]:=by simpa using g2
  subst v;refine(strings_Join_none (some ⟨ak,off,o⟩) cap sp w).mono ?_;rintro e w' ⟨rfl,rfl⟩;exact⟨_,rfl,⟨c9 _,fun _ _=>rfl,rfl,rfl⟩,fun w aa=>by simpa[kP,cT]using sy (P:=prog) (w:=w) (aa:=aa) []⟩
 |cons G r=>
  have z:l.map PV.str≠[]:=by rw[g2,c];simp
  obtain rfl:o=none:=A.resolve_right (by rw[b,c]at i;simp at i;omega);have m:=ET sp.data.toList (xs.map (·.data.toList))
  have e2:(xs.map (·.data.toList)).map cT=l:=by rw[g2];simp
  rw[e2]at m;have n:kP (sp.data.toList.map (·.toNat)) l=cT (bb (xs.map (·.data.toList)) sp.data.toList):=m
  rw[b];refine(strings_Join ak off cap xs sp w (fun j x hx=>?_) (t _ (q z)) (by simp at b;omega) (by omega) ?_).mono ?_
  ·have u:j<xs.length:=(b1.1 hx).1;rw[g1]at h;have:=h j (by simpa using u);rw[this];simp[(b1.1 hx).2]
  ·rw[n]at k;simpa[cT]using k
  ·rintro e w' ⟨rfl,a⟩;exact⟨_,rfl,⟨a.size,a.block,a.os,a.output⟩,fun w aa=>by rw[n];exact sy _⟩
def qL(c:Nat):List Nat->Nat->Nat
 |[],n=>n
 |x::r,n=>bif cy x c then qL c r (n+1)else qL c r n
theorem E6(c:UInt8):∀(l:List UInt8)(n:Nat),qL c.toNat (cT l) n=n+a8 l c
 |[],n=>by simp[qL,cT,a8]
 |x::r,n=>by
  have a:=E6 c r;simp only[cT]at a;simp only[cT,b2,qL,a8,List.count_cons]
  by_cases hx:x=c
  ·subst hx;simp[a,a8];omega
  ·have d:cy x.toNat c.toNat=false:=by
    cases b:cy x.toNat c.toNat
    ·rfl
    ·exact(hx (UInt8.toNat_inj.1 (cx b))).elim
   simp[d,a,a8,hx]
theorem Xc(s:List Nat)(c:Nat):az prog 328 [.str s,.str [c]] (.int .i64 (qL c s 0:Nat)):=by
 refine jr (iD func328 (by kernel_rfl)) fun w aa g _ _ f=>?_;obtain⟨x,y,rfl,a,d⟩:=lZ f;obtain⟨b,rfl,rfl⟩:=one_byte d;obtain⟨bs,rfl,rfl⟩:=mg a;refine(strings_Count_one bs b w).mono ?_;rintro e w' ⟨rfl,rfl⟩;refine⟨_,rfl,⟨c9 _,fun _ _=>rfl,rfl,rfl⟩,fun w aa=>?_⟩;have e1:=E6 b bs.data.toList 0;simp only[aA]at e1⊢;rw[e1];simp
def vw:List Nat->List Nat->Int
 |[],[]=>0
 |[],_::_=>-1
 |_::_,[]=>1
 |a::r,b::t=>bif da a b then -1 else bif da b a then 1 else vw r t
theorem E7:∀a b:List UInt8,vw (cT a) (cT b)=a9 a b
 |[],[]=>rfl
 |[],_::_=>rfl
 |_::_,[]=>rfl
 |a::r,b::t=>by
  have e:=E7 r t;simp only[cT,b2,vw,a9]at e⊢;have e1:da a.toNat b.toNat=decide (a<b):=by
   rw[a4,dk,decide_eq_true_eq,UInt8.lt_iff_toNat_lt]
  have e2:da b.toNat a.toNat=decide (b<a):=by
   rw[a4,dk,decide_eq_true_eq,UInt8.lt_iff_toNat_lt]
  rw[e1,e2,e]
  by_cases c:a<b
  ·simp[c]
  ·by_cases d:b<a
   ·simp[c,d]
   ·simp[c,d]
theorem Xb(a b:List Nat):az prog 218 [.str a,.str b] (.int .i64 (vw a b)):=by
 refine jr (iD func218 (by kernel_rfl)) fun w aa g _ _ f=>?_;obtain⟨x,y,rfl,c,d⟩:=lZ f;obtain⟨bs,rfl,rfl⟩:=mg c;obtain⟨cs,rfl,rfl⟩:=mg d;refine(strings_Compare bs cs w).mono ?_;rintro e w' ⟨rfl,rfl⟩;exact⟨_,rfl,⟨c9 _,fun _ _=>rfl,rfl,rfl⟩,fun w aa=>by rw[E7];simp only[aA]⟩
def q9:PV:=.st 60 [.int .i64 0,.int .i64 0]
theorem YD{H:Heap}(n:Nat)(N:1<=n)(O:n<=1000000):b9 prog 263 H [.p .aF,.p (.int .i64 n)] (H++[.arr .grow 0 2 (bv n (.p q9))]) (.sl H.length 0 2 0 0):=by
 refine⟨iD func263 (by kernel_rfl),fun w aa ah β K l g Q=>?_⟩;simp only[bw,aw,aA]at g;obtain⟨_,_,rfl,rfl,_,_,rfl,rfl,rfl⟩:=g;obtain⟨i,c,hi,G,q,_⟩:=nZ (P:=prog) (T:=61) (z:=q9) (by kernel_rfl);have hs:i.size=2:=by
  have:(prog.info? 61).map (·.size)=some 2:=by kernel_rfl
  rw[hi]at this;simpa using this
 have y:i.bytes=16:=by
  have:(prog.info? 61).map (·.bytes)=some 16:=by kernel_rfl
  rw[hi]at this;simpa using this
 have r:c.cells.size=2:=by
  have:=(mW (q w aa)).1;have e:bF prog (aL q9)=2:=by kernel_rfl
  rw[e]at this;simpa using this
 have j:=Any8.slices_Grow_grow YQ i c hi G (by omega) none 0 0 n [] w (c9 _) (by omega) (by rw[y];omega) (by omega) (by simp) (fun _=>rfl) (fun a h=>by cases h);rw[show EU.t 25=61 from rfl,Nat.zero_add]at j;refine j.mono ?_;rintro e w' ⟨rfl,rfl⟩;have D:=l.mr 1;have E:bP prog w.drew aa β (H++bv 1 .hole) ah:=bP.uv (w:=w) (w':=w.drew) rfl D;have u:(H++bv 1 Obj.hole)[H.length]?=some .hole:=by simp
 have A:n<=grownCap w n 0 61:=by simp[grownCap,Question.cut]
 have o:=tW (β:=β) (H:=H++bv 1 .hole) (q w.drew aa) n;rw[show c.cells.toList.length=2 by simpa using r]at o;have I:∀m,(a6 c.cells m).toList=(bv m c.cells.toList).flatten:=fun m=>xa c.cells m (by omega);obtain⟨q1,s⟩:=xk (T:=61) (k:=.grow) (ai:=2) (cap:=grownCap w n 0 61) E u
  (cells:=([]:List Value).toArray++a6 c.cells (n-0)++a6 c.cells (grownCap w n 0 61-n))
  (rest:=(a6 c.cells (grownCap w n 0 61-n)).toList)
  (by simp) (fun h=>by have:=h.2;rw[<-bl]at this;simp at this;omega) o
  (by rw[cG];intro v F;rw[List.eq_of_mem_replicate F];simp[aB])
  (by simp[I]) (by simp only[Array.size_append,G7,r];simp;omega) (by simpa using A) (fun h=>by cases h) (fun h=>by cases h)
 rw[B9]at q1 s;have aK:=nY β H 1;have J:bV prog ah aa w β H aa w β (H++bv 1 .hole):=⟨fun _ x=>x,fun _ x=>.inl x,Ext.refl _ _ _,aK,l.mr _,lY _ _,fun b⟨L,f⟩=>⟨L,by rw[jI,if_pos (b1.1 f).1];exact f⟩⟩
 refine⟨_,_,aa,rfl,J.trans (bV.drew (w1:=w.drew) rfl ⟨rfl,rfl⟩ q1),?_,?_⟩
 ·simp only[aw,bK,bO]at s⊢;refine⟨rfl,fun k M d=>?_⟩;have B:(H++[Obj.arr .grow 0 2 (bv n (.p q9))])[H.length]?=some (.arr .grow 0 2 (bv n (.p q9))):=by simp
  unfold eA at d;rw[B]at d;cases d;exact⟨by omega,fun C=>by have:=C.2;rw[<-bl]at this;simp at this;omega,fun _=>by simp[Bd.at]⟩
 ·simp only[aB];exact⟨.arr .grow 0 2 (bv n (.p q9)),by simp,c9 _⟩
namespace fK
def tM:List PV->Option (List (List Nat))
 |[]=>some []
 | .str s::r=>match tM r with
  |some l=>some (s::l)
  |none=>none
 |_=>none
theorem Fc:∀{l:List PV}{a:List (List Nat)},tM l=some a->l=a.map .str
 |[],a,h=>by simp[tM]at h;subst h;rfl
 |v::r,a,h=>by
  cases v<;>simp only[tM]at h<;>try (cases h;done)
  split at h
  ·rename_i l b;simp only[dp]at h;subst h;rw[Fc b];rfl
  ·cases h
def Df(f:a5)(vs:List PV):Option PV:=
 bif cy f 227 then match vs with
  |[.bI _ l,.str sep]=>match tM l with
   |some d=>bif db d.length 1000&&db (kP sep d).length 100000 then some (.str (kP sep d))else none
   |none=>none
  |_=>none
 else bif cy f 328 then match vs with
  |[.str s,.str [c]]=>some (.int .i64 (qL c s 0:Nat))
  |_=>none
 else bif cy f 317 then match vs with
  |[.str s,.str [c]]=>some (.int .i64 (mB c s 0))
  |_=>none
 else bif cy f 218 then match vs with
  |[.str a,.str b]=>some (.int .i64 (vw a b))
  |_=>none
 else bif cy f 152 then match vs with
  |[.int .i64 n]=>bif Hk.nP n then some (.str (cR n))else none
  |_=>none
 else none
theorem YT{f:a5}{vs:List PV}{v:PV}(h:Df f vs=some v):az prog f vs v:=by
 unfold Df at h;simp only[a3]at h
 split at h
 ·rename_i hf;rw[cx hf]
  split at h
  ·split at h
   ·rename_i a hs;simp only[dl,dp,a0]at h;obtain⟨⟨g1,g2⟩,rfl⟩:=h;rw[Fc hs];exact Xh _ _ _ (dg (c6 g1) (by decide)) (dg (c6 g2) (by decide))
   ·cases h
  ·cases h
 split at h
 ·rename_i hf;rw[cx hf]
  split at h
  ·simp only[dp]at h;subst h;exact Xc _ _
  ·cases h
 split at h
 ·rename_i hf;rw[cx hf]
  split at h
  ·simp only[dp]at h;subst h;exact Fz _ _
  ·cases h
 split at h
 ·rename_i hf;rw[cx hf]
  split at h
  ·simp only[dp]at h;subst h;exact Xb _ _
  ·cases h
 split at h
 ·rename_i hf;rw[cx hf]
  split at h
  ·simp only[dl,dp]at h;obtain⟨g1,rfl⟩:=h;have:=Hk.yf.1 g1;exact Fy _ (by omega) (by omega)
  ·cases h
 ·cases h
def vE(f:a5)(args:List AV)(H:Heap):Option (AV×Heap):=
 bif cy f 226 then match args with
  |[.ptr b []]=>match H[b]? with
   |some (.box false (.p (.st u [.dD,x])))=>bif cy u 226 then some (.p (.aD []),H.set b (.box false (.st 226 [.ptr b [],.p x])))else none
   |some (.box false (.st u [.p .dD,x]))=>bif cy u 226 then some (.p (.aD []),H.set b (.box false (.st 226 [.ptr b [],x])))else none
   |some (.box false (.st u [.ptr b' [],_]))=>bif cy u 226&&cy b' b then some (.p (.aD []),H)else none
   |_=>none
  |_=>none
 else bif cy f 263 then match args with
  |[.p .aF,.p (.int .i64 (.ofNat n))]=>bif db 1 n&&db n 1000000 then some (.sl H.length 0 2 0 0,H++[.arr .grow 0 2 (bv n (.p q9))])else none
  |_=>none
 else none
theorem YS{f:a5}{args:List AV}{H H':Heap}{v:AV}(h:vE f args H=some (v,H')):b9 prog f H args H' v:=by
 unfold vE at h;simp only[a3]at h
 split at h
 ·rename_i hf;rw[cx hf]
  split at h
  case h_2=>cases h
  split at h
  ·rename_i a;simp only[dl,dp,dq]at h;obtain⟨b,rfl,rfl⟩:=h;rw[cx b]at a;exact Dc a (.inl rfl)
  ·rename_i a;simp only[dl,dp,dq]at h;obtain⟨b,rfl,rfl⟩:=h;rw[cx b]at a;exact Dc a (.inr rfl)
  ·rename_i a;simp only[dl,dp,dq,a0]at h;obtain⟨⟨b,c⟩,rfl,rfl⟩:=h;rw[cx b,cx c]at a;exact NL a
  ·cases h
 split at h
 ·rename_i hf;rw[cx hf]
  split at h
  ·simp only[dl,dp,dq,a0]at h;obtain⟨⟨b,c⟩,rfl,rfl⟩:=h;exact YD _ (c6 b) (c6 c)
  ·cases h
 ·cases h
def jC(_ f:a5):Nat:=
 bif cy f 151 then 2
 else bif cy f 235 then 3
 else bif cy f 236 then 3
 else bif cy f 237 then 3
 else bif cy f 238 then 3
 else bif cy f 263 then 1 else 0
def facts(l:List (a5×List PV×PV))(f:a5)(vs:List PV):Option PV:=match Df f vs with
 |some v=>some v
 |none=>Hk.sH l f vs
noncomputable def tK(fs:a5->List PV->Option PV):lP:=⟨sT DI,fs,vE,jC,fun _ _ _=>none⟩
theorem QM{l:List (a5×List PV×PV)}(a:Hk.kM l):mc prog (tK (facts l)):=by
 refine⟨mix,fun f fn hf=>Cj Fp hf,fun f vs v hk=>?_,fun f args H v H' hk=>YS hk,fun f args H aj v hk=>by simp only[tK]at hk;cases hk⟩;simp only[tK,facts]at hk
 split at hk
 ·rename_i h;simp only[dp]at hk;subst hk;exact YT h
 ·exact Hk.xG a f vs v hk
noncomputable def runT(l:List (a5×List PV×PV))(f:a5)(vs:List PV):Option PV:=nO prog nf (tK (facts l)) (jv prog nf (tK (facts l)) 20) f vs
theorem fO(l:List (a5×List PV×PV))(a:Hk.kM l){f:a5}{vs:List PV}{v:PV}(h:Hk.Dl v (runT l f vs)=true):az prog f vs v:=reckon 20 (QM a) (Hk.Fe h)
end fK
namespace zE
def T:PV:=.st 37 [.bI true [.st 60 [.int .i64 0,.int .i64 0],.st 60 [.int .i64 2000,.int .i64 0],.st 60 [.int .i64 2000,.int .i64 1000],.st 60 [.int .i64 0,.int .i64 1000]],.int .i64 30,.bI true [.st 109 [.str [97],.int .i64 0,.str [48],.str [49,47,50,48]],.st 109 [.str [98],.int .i64 2,.str [49,57,47,50,48],.str [49]]],.bI true [.st 48 [.str [102,111,111,116],.st 46 [.str [49,53,48,48],.str [53,48,48]]],.st 48 [.str [104,101,97,100],.st 46 [.str [53,48,48],.str [53,48,48]]]]]
def B:PV:=.bI true [.st 48 [.str [99,117,101],.st 46 [.str [53,48,48],.str [53,48,48]]],.st 48 [.str [111,110,101],.st 46 [.str [49,53,48,48],.str [53,48,48]]],.st 48 [.str [116,119,111],.st 46 [.str [49,53,54,48],.str [53,48,48]]]]
def B1:PV:=.bI false [.st 48 [.str [99,117,101],.st 46 [.str [53,48,48],.str [53,48,48]]]]
def M:PV:=.st 37 [.bI false [.st 60 [.int .i64 0,.int .i64 0],.st 60 [.int .i64 0,.int .i64 1000],.st 60 [.int .i64 (-2000),.int .i64 1000],.st 60 [.int .i64 (-2000),.int .i64 0]],.int .i64 30,.bI false [.st 109 [.str [97],.int .i64 3,.str [49,57,47,50,48],.str [49]],.st 109 [.str [98],.int .i64 1,.str [48],.str [49,47,50,48]]],.bI false [.st 48 [.str [102,111,111,116],.st 46 [.str [45,49,53,48,48],.str [53,48,48]]],.st 48 [.str [104,101,97,100],.st 46 [.str [45,53,48,48],.str [53,48,48]]]]]
def k0:List (a5×List PV×PV):=[(277,[.str [51,48]],.aD [.int .i64 30,.fG])]
theorem tP:Hk.kM k0:=⟨FA [51,48] 30 (by decide+kernel) (by decide),trivial⟩
theorem c0:az prog 68 [T] (.int .i64 0):=fK.fO k0 tP (by kernel_rfl)
theorem c1:az prog 36 [T,B] (.int .i64 0):=fK.fO k0 tP (by kernel_rfl)
theorem c2:az prog 36 [T,B1] (.int .i64 0):=fK.fO k0 tP (by kernel_rfl)
theorem c3:az prog 68 [M] (.int .i64 0):=fK.fO k0 tP (by kernel_rfl)
def k1:List (a5×List PV×PV):=[(68,[T],.int .i64 0),(36,[T,B],.int .i64 0),(36,[T,B1],.int .i64 0),(68,[M],.int .i64 0)]++k0
theorem ir:Hk.kM k1:=Hk.Az (l:=[(68,[T],.int .i64 0),(36,[T,B],.int .i64 0),(36,[T,B1],.int .i64 0),(68,[M],.int .i64 0)]) ⟨c0,c1,c2,c3,trivial⟩ tP
theorem d0:az prog 23 [T] (.aD [.str [50,48,48,48,48,48,48],.int .i64 0]):=fK.fO k1 ir (by kernel_rfl)
theorem d1:az prog 57 [T,.int .i64 0,.str [49,47,52]] (.aD [.st 46 [.str [53,48,48],.str [48]],.int .i64 0]):=fK.fO k1 ir (by kernel_rfl)
theorem d2:az prog 62 [T,.st 46 [.str [50,48,48,48],.str [48]]] (.aD [.int .i64 0,.str [49],.int .i64 0]):=fK.fO k1 ir (by kernel_rfl)
theorem d3:az prog 63 [T,.int .i64 0,.str [49,47,50,48]] (.aD [.str [97],.int .i64 0]):=fK.fO k1 ir (by kernel_rfl)
theorem d4:az prog 63 [T,.int .i64 0,.str [49,47,49,48]] (.aD [.str [],.int .i64 7]):=fK.fO k1 ir (by kernel_rfl)
theorem d5:az prog 34 [T,B,.st 46 [.str [49,52,52,48],.str [53,48,48]]] (.aD [.bool true,.int .i64 0]):=fK.fO k1 ir (by kernel_rfl)
theorem d6:az prog 34 [T,B,.st 46 [.str [49,52,53,48],.str [53,48,48]]] (.aD [.bool false,.int .i64 0]):=fK.fO k1 ir (by kernel_rfl)
theorem d7:az prog 29 [T,B,.str [102,111,111,116],.st 46 [.str [49,48],.str [48]]] (.aD [.st 46 [.str [49,54,50,48],.str [53,48,48]],.int .i64 0]):=fK.fO k1 ir (by kernel_rfl)
theorem d8:az prog 64 [T,B] (.aD [.st 28 [.int .i64 1,.int .i64 2],.str [51,54,48,48],.int .i64 0]):=fK.fO k1 ir (by kernel_rfl)
theorem d9:az prog 54 [T,B] (.aD [.bI false [.st 28 [.int .i64 1,.int .i64 2]],.int .i64 0]):=fK.fO k1 ir (by kernel_rfl)
theorem d10:az prog 12 [T,.str [102,111,111,116],.str [116,114,105,97,110,103,108,101],.st 28 [.int .i64 2,.int .i64 0]] (.aD [.bI false [.st 46 [.str [49,53,48,48],.str [53,48,48]],.st 46 [.str [51,49,48,53,47,50],.str [52,55,48]],.st 46 [.str [51,49,48,53,47,50],.str [53,51,48]]],.int .i64 0]):=fK.fO k1 ir (by kernel_rfl)
theorem d11:az prog 42 [T,.st 86 [.bool true,.int .i64 0,.st 60 [.int .i64 0,.int .i64 0]]] (.aD [.st 37 [.bI false [.st 60 [.int .i64 0,.int .i64 0],.st 60 [.int .i64 0,.int .i64 1000],.st 60 [.int .i64 (-2000),.int .i64 1000],.st 60 [.int .i64 (-2000),.int .i64 0]],.int .i64 30,.bI false [.st 109 [.str [97],.int .i64 3,.str [49,57,47,50,48],.str [49]],.st 109 [.str [98],.int .i64 1,.str [48],.str [49,47,50,48]]],.bI false [.st 48 [.str [102,111,111,116],.st 46 [.str [45,49,53,48,48],.str [53,48,48]]],.st 48 [.str [104,101,97,100],.st 46 [.str [45,53,48,48],.str [53,48,48]]]]],.int .i64 0]):=fK.fO k1 ir (by kernel_rfl)
theorem d12:az prog 51 [M] (.aD [.st 37 [.bI false [.st 60 [.int .i64 (-2000),.int .i64 0],.st 60 [.int .i64 0,.int .i64 0],.st 60 [.int .i64 0,.int .i64 1000],.st 60 [.int .i64 (-2000),.int .i64 1000]],.int .i64 30,.bI false [.st 109 [.str [97],.int .i64 0,.str [49,57,47,50,48],.str [49]],.st 109 [.str [98],.int .i64 2,.str [48],.str [49,47,50,48]]],.bI false [.st 48 [.str [102,111,111,116],.st 46 [.str [45,49,53,48,48],.str [53,48,48]]],.st 48 [.str [104,101,97,100],.st 46 [.str [45,53,48,48],.str [53,48,48]]]]],.int .i64 0]):=fK.fO k1 ir (by kernel_rfl)
theorem d13:az prog 43 [T,B,.st 86 [.bool false,.int .i64 1,.st 60 [.int .i64 0,.int .i64 0]]] (.aD [.bI false [.st 48 [.str [99,117,101],.st 46 [.str [45,53,48,48],.str [53,48,48]]],.st 48 [.str [111,110,101],.st 46 [.str [45,53,48,48],.str [49,53,48,48]]],.st 48 [.str [116,119,111],.st 46 [.str [45,53,48,48],.str [49,53,54,48]]]],.int .i64 0]):=fK.fO k1 ir (by kernel_rfl)
theorem d14:az prog 65 [T] (.aD [.str [114,97,100,105,117,115,32,51,48,10,99,111,114,110,101,114,32,48,32,48,10,99,111,114,110,101,114,32,50,48,48,48,32,48,10,99,111,114,110,101,114,32,50,48,48,48,32,49,48,48,48,10,99,111,114,110,101,114,32,48,32,49,48,48,48,10,112,111,99,107,101,116,32,97,32,48,32,48,32,49,47,50,48,10,112,111,99,107,101,116,32,98,32,50,32,49,57,47,50,48,32,49,10,115,112,111,116,32,102,111,111,116,32,49,53,48,48,32,53,48,48,10,115,112,111,116,32,104,101,97,100,32,53,48,48,32,53,48,48,10],.int .i64 0]):=fK.fO k1 ir (by kernel_rfl)
theorem d15:az prog 66 [.str [114,97,100,105,117,115,32,51,48,10,115,112,111,116,32,97,32,48,10]] (.aD [.st 37 [.aF,.int .i64 0,.aF,.aF],.int .i64 2,.int .i64 25]):=fK.fO k1 ir (by kernel_rfl)
theorem d16:az prog 67 [T,B1] (.aD [.str [98,97,108,108,32,99,117,101,32,53,48,48,32,53,48,48,10],.int .i64 0]):=fK.fO k1 ir (by kernel_rfl)
def k2:List (a5×List PV×PV):=[(23,[T],.aD [.str [50,48,48,48,48,48,48],.int .i64 0]),(57,[T,.int .i64 0,.str [49,47,52]],.aD [.st 46 [.str [53,48,48],.str [48]],.int .i64 0]),(62,[T,.st 46 [.str [50,48,48,48],.str [48]]],.aD [.int .i64 0,.str [49],.int .i64 0]),(63,[T,.int .i64 0,.str [49,47,50,48]],.aD [.str [97],.int .i64 0]),(63,[T,.int .i64 0,.str [49,47,49,48]],.aD [.str [],.int .i64 7]),(34,[T,B,.st 46 [.str [49,52,52,48],.str [53,48,48]]],.aD [.bool true,.int .i64 0]),(34,[T,B,.st 46 [.str [49,52,53,48],.str [53,48,48]]],.aD [.bool false,.int .i64 0]),(29,[T,B,.str [102,111,111,116],.st 46 [.str [49,48],.str [48]]],.aD [.st 46 [.str [49,54,50,48],.str [53,48,48]],.int .i64 0]),(64,[T,B],.aD [.st 28 [.int .i64 1,.int .i64 2],.str [51,54,48,48],.int .i64 0]),(54,[T,B],.aD [.bI false [.st 28 [.int .i64 1,.int .i64 2]],.int .i64 0]),(12,[T,.str [102,111,111,116],.str [116,114,105,97,110,103,108,101],.st 28 [.int .i64 2,.int .i64 0]],.aD [.bI false [.st 46 [.str [49,53,48,48],.str [53,48,48]],.st 46 [.str [51,49,48,53,47,50],.str [52,55,48]],.st 46 [.str [51,49,48,53,47,50],.str [53,51,48]]],.int .i64 0]),(42,[T,.st 86 [.bool true,.int .i64 0,.st 60 [.int .i64 0,.int .i64 0]]],.aD [.st 37 [.bI false [.st 60 [.int .i64 0,.int .i64 0],.st 60 [.int .i64 0,.int .i64 1000],.st 60 [.int .i64 (-2000),.int .i64 1000],.st 60 [.int .i64 (-2000),.int .i64 0]],.int .i64 30,.bI false [.st 109 [.str [97],.int .i64 3,.str [49,57,47,50,48],.str [49]],.st 109 [.str [98],.int .i64 1,.str [48],.str [49,47,50,48]]],.bI false [.st 48 [.str [102,111,111,116],.st 46 [.str [45,49,53,48,48],.str [53,48,48]]],.st 48 [.str [104,101,97,100],.st 46 [.str [45,53,48,48],.str [53,48,48]]]]],.int .i64 0]),(51,[M],.aD [.st 37 [.bI false [.st 60 [.int .i64 (-2000),.int .i64 0],.st 60 [.int .i64 0,.int .i64 0],.st 60 [.int .i64 0,.int .i64 1000],.st 60 [.int .i64 (-2000),.int .i64 1000]],.int .i64 30,.bI false [.st 109 [.str [97],.int .i64 0,.str [49,57,47,50,48],.str [49]],.st 109 [.str [98],.int .i64 2,.str [48],.str [49,47,50,48]]],.bI false [.st 48 [.str [102,111,111,116],.st 46 [.str [45,49,53,48,48],.str [53,48,48]]],.st 48 [.str [104,101,97,100],.st 46 [.str [45,53,48,48],.str [53,48,48]]]]],.int .i64 0]),(43,[T,B,.st 86 [.bool false,.int .i64 1,.st 60 [.int .i64 0,.int .i64 0]]],.aD [.bI false [.st 48 [.str [99,117,101],.st 46 [.str [45,53,48,48],.str [53,48,48]]],.st 48 [.str [111,110,101],.st 46 [.str [45,53,48,48],.str [49,53,48,48]]],.st 48 [.str [116,119,111],.st 46 [.str [45,53,48,48],.str [49,53,54,48]]]],.int .i64 0]),(65,[T],.aD [.str [114,97,100,105,117,115,32,51,48,10,99,111,114,110,101,114,32,48,32,48,10,99,111,114,110,101,114,32,50,48,48,48,32,48,10,99,111,114,110,101,114,32,50,48,48,48,32,49,48,48,48,10,99,111,114,110,101,114,32,48,32,49,48,48,48,10,112,111,99,107,101,116,32,97,32,48,32,48,32,49,47,50,48,10,112,111,99,107,101,116,32,98,32,50,32,49,57,47,50,48,32,49,10,115,112,111,116,32,102,111,111,116,32,49,53,48,48,32,53,48,48,10,115,112,111,116,32,104,101,97,100,32,53,48,48,32,53,48,48,10],.int .i64 0]),(66,[.str [114,97,100,105,117,115,32,51,48,10,115,112,111,116,32,97,32,48,10]],.aD [.st 37 [.aF,.int .i64 0,.aF,.aF],.int .i64 2,.int .i64 25]),(67,[T,B1],.aD [.str [98,97,108,108,32,99,117,101,32,53,48,48,32,53,48,48,10],.int .i64 0])]++k1
theorem azB:Hk.kM k2:=Hk.Az (l:=[(23,[T],.aD [.str [50,48,48,48,48,48,48],.int .i64 0]),(57,[T,.int .i64 0,.str [49,47,52]],.aD [.st 46 [.str [53,48,48],.str [48]],.int .i64 0]),(62,[T,.st 46 [.str [50,48,48,48],.str [48]]],.aD [.int .i64 0,.str [49],.int .i64 0]),(63,[T,.int .i64 0,.str [49,47,50,48]],.aD [.str [97],.int .i64 0]),(63,[T,.int .i64 0,.str [49,47,49,48]],.aD [.str [],.int .i64 7]),(34,[T,B,.st 46 [.str [49,52,52,48],.str [53,48,48]]],.aD [.bool true,.int .i64 0]),(34,[T,B,.st 46 [.str [49,52,53,48],.str [53,48,48]]],.aD [.bool false,.int .i64 0]),(29,[T,B,.str [102,111,111,116],.st 46 [.str [49,48],.str [48]]],.aD [.st 46 [.str [49,54,50,48],.str [53,48,48]],.int .i64 0]),(64,[T,B],.aD [.st 28 [.int .i64 1,.int .i64 2],.str [51,54,48,48],.int .i64 0]),(54,[T,B],.aD [.bI false [.st 28 [.int .i64 1,.int .i64 2]],.int .i64 0]),(12,[T,.str [102,111,111,116],.str [116,114,105,97,110,103,108,101],.st 28 [.int .i64 2,.int .i64 0]],.aD [.bI false [.st 46 [.str [49,53,48,48],.str [53,48,48]],.st 46 [.str [51,49,48,53,47,50],.str [52,55,48]],.st 46 [.str [51,49,48,53,47,50],.str [53,51,48]]],.int .i64 0]),(42,[T,.st 86 [.bool true,.int .i64 0,.st 60 [.int .i64 0,.int .i64 0]]],.aD [.st 37 [.bI false [.st 60 [.int .i64 0,.int .i64 0],.st 60 [.int .i64 0,.int .i64 1000],.st 60 [.int .i64 (-2000),.int .i64 1000],.st 60 [.int .i64 (-2000),.int .i64 0]],.int .i64 30,.bI false [.st 109 [.str [97],.int .i64 3,.str [49,57,47,50,48],.str [49]],.st 109 [.str [98],.int .i64 1,.str [48],.str [49,47,50,48]]],.bI false [.st 48 [.str [102,111,111,116],.st 46 [.str [45,49,53,48,48],.str [53,48,48]]],.st 48 [.str [104,101,97,100],.st 46 [.str [45,53,48,48],.str [53,48,48]]]]],.int .i64 0]),(51,[M],.aD [.st 37 [.bI false [.st 60 [.int .i64 (-2000),.int .i64 0],.st 60 [.int .i64 0,.int .i64 0],.st 60 [.int .i64 0,.int .i64 1000],.st 60 [.int .i64 (-2000),.int .i64 1000]],.int .i64 30,.bI false [.st 109 [.str [97],.int .i64 0,.str [49,57,47,50,48],.str [49]],.st 109 [.str [98],.int .i64 2,.str [48],.str [49,47,50,48]]],.bI false [.st 48 [.str [102,111,111,116],.st 46 [.str [45,49,53,48,48],.str [53,48,48]]],.st 48 [.str [104,101,97,100],.st 46 [.str [45,53,48,48],.str [53,48,48]]]]],.int .i64 0]),(43,[T,B,.st 86 [.bool false,.int .i64 1,.st 60 [.int .i64 0,.int .i64 0]]],.aD [.bI false [.st 48 [.str [99,117,101],.st 46 [.str [45,53,48,48],.str [53,48,48]]],.st 48 [.str [111,110,101],.st 46 [.str [45,53,48,48],.str [49,53,48,48]]],.st 48 [.str [116,119,111],.st 46 [.str [45,53,48,48],.str [49,53,54,48]]]],.int .i64 0]),(65,[T],.aD [.str [114,97,100,105,117,115,32,51,48,10,99,111,114,110,101,114,32,48,32,48,10,99,111,114,110,101,114,32,50,48,48,48,32,48,10,99,111,114,110,101,114,32,50,48,48,48,32,49,48,48,48,10,99,111,114,110,101,114,32,48,32,49,48,48,48,10,112,111,99,107,101,116,32,97,32,48,32,48,32,49,47,50,48,10,112,111,99,107,101,116,32,98,32,50,32,49,57,47,50,48,32,49,10,115,112,111,116,32,102,111,111,116,32,49,53,48,48,32,53,48,48,10,115,112,111,116,32,104,101,97,100,32,53,48,48,32,53,48,48,10],.int .i64 0]),(66,[.str [114,97,100,105,117,115,32,51,48,10,115,112,111,116,32,97,32,48,10]],.aD [.st 37 [.aF,.int .i64 0,.aF,.aF],.int .i64 2,.int .i64 25]),(67,[T,B1],.aD [.str [98,97,108,108,32,99,117,101,32,53,48,48,32,53,48,48,10],.int .i64 0])]) ⟨d0,d1,d2,d3,d4,d5,d6,d7,d8,d9,d10,d11,d12,d13,d14,d15,d16,trivial⟩ ir
end zE
theorem QD:az prog 11 [] (.bool true):=fK.fO zE.k2 zE.azB (by kernel_rfl)
theorem Q3(v:NV)(m:bH)(f:bN 1800 v.q):az prog 76 [dG v,.int .i64 m.qs] (dG (fC v m.n)):=by
 obtain⟨o,r,j,s⟩:=m.zw;have k:a7.wrap (m.qs.tmod 4+4)=m.qs.tmod 4+4:=aI _ (by omega) (by omega);generalize m.n=q at*;generalize m.qs=qs at*;refine aM nf OC mix (by simp[f76]) ?_;simp[f76,k,j,ad];refine lp (α:=Nat) (fun i=>⟨[(9,.p (.int .i64 i)),(8,.p (.int .i64 q)),(4,.ptr 1 []),(2,.ptr 0 [])],[.box false (.p (dG (fC v i))),.box false (.p DQ)]⟩) (fun i=>i<=q) (fun i=>q-i) 0 (by simp) ?_ (hh:=by simp[DQ,vR,fC]);intro i l
 by_cases hi:i<q
 ·have g:=bY (i:=i) (by omega);have h:=yz (fC v i).y ((zU f i).2.mono (by decide));have d:dG (fC v (i+1))=.st 133 [eF (fC v i).y.neg,eF (fC v i).x]:=rfl;have e:dG (fC v i)=.st 133 [eF (fC v i).x,eF (fC v i).y]:=rfl;generalize (fC v i).y.neg=a at*;generalize (fC v i).x=b at*;generalize (fC v i).y=c at*;rw[e];simp[hi,ad];refine Go.al.e1 h ?_;simp[g,ad];refine⟨by repeat' first|rfl|apply aT,?_⟩;exact rd (i+1) hi (hh:=by simp[d])
 ·obtain rfl:i=q:=by omega
  simp[ad]
theorem Rd(v:V2)(m:bH)(h:bN 1800 v):az prog 85 [eV v,.int .i64 m.qs] (eV (fI v m.n)):=by
 obtain⟨o,r,d,s⟩:=m.zw;have e:a7.wrap (m.qs.tmod 4+4)=m.qs.tmod 4+4:=aI _ (by omega) (by omega);generalize m.n=q at*;generalize m.qs=qs at*;refine aM nf OL mix (by simp[f85]) ?_;simp[f85,ad];refine lp (α:=Nat) (fun i=>⟨[(5,.p (.int .i64 i)),(4,.ptr 1 []),(2,.ptr 0 []),(1,.p (.int .i64 qs))],[.box false (.p (eV (fI v i))),.box false (.p zO)]⟩) (fun i=>i<=q) (fun i=>q-i) 0 (by simp) ?_ (hh:=by simp[zO,fI]);intro i l
 by_cases hi:i<q
 ·have j:=bY (i:=i) (by omega);have k:=CP (fI v i).y ((tJ h i).2.mono (by decide));have f:eV (fI v (i+1))=.st 46 [.str (bC (-(fI v i).y)),.str (bC (fI v i).x)]:=rfl;have g:eV (fI v i)=.st 46 [.str (bC (fI v i).x),.str (bC (fI v i).y)]:=rfl;generalize bC (-(fI v i).y)=a at*;generalize bC (fI v i).x=b at*;generalize bC (fI v i).y=c at*;rw[g];simp[hi,e,d,ad];refine Go.al.e1 k ?_;simp[j,ad];refine⟨by repeat' first|rfl|apply aT,?_⟩;exact rd (i+1) hi (hh:=by simp[f])
 ·obtain rfl:i=q:=by omega
  simp[e,d,ad]
def bH.lK(m:bH)(v:V2):V2:=if m.gW then⟨-v.x,v.y⟩else v
def bH.mC(m:bH)(v:NV):NV:=if m.gW then⟨v.x.neg,v.y⟩else v
def bH.pl(m:bH)(v:V2):V2:=(fI (m.lK v) m.n).add (il m.df)
def bH.vec(m:bH)(v:NV):NV:=(fC (m.mC v) m.n).add (eO m.df)
theorem F4(m:bH)(v:NV):(m.mC v).q=m.lK v.q:=by
 rw[bH.mC,bH.lK];split<;>rfl
theorem bH.wz(m:bH)(v:NV):(m.vec v).q=m.pl v.q:=by
 rw[bH.vec,bH.pl,<-aAV,<-F4,<-Fq];rfl
theorem wG{m:bH}{v:V2}{k:Nat}(h:bN k v):bN k (m.lK v):=by
 rw[bH.lK];split
 ·exact⟨sx h.1,h.2⟩
 ·exact h
theorem Ph{m:bH}{v:V2}{k:Nat}(h:bN k v)(a:bW m.df):bN (k+15) (m.pl v):=aAd (tJ (wG h) m.n) (mI a)
theorem Q5(m:bH)(v:V2)(b:bN 1500 v)(c:bW m.df):az prog 58 [cH m,eV v] (eV (m.pl v)):=by
 have k1:=CP v.x (b.1.mono (by decide));have k2:=Rd (m.lK v) m ((wG b).mono (by decide));have k3:=zK m.df c;have k4:=W5 (fI (m.lK v) m.n) (il m.df) ((tJ (wG b) m.n).mono (by decide)) ((mI c).mono (by decide));rw[show(fI (m.lK v) m.n).add (il m.df)=m.pl v from rfl]at k4;have a:m.lK v=if m.gW=true then⟨-v.x,v.y⟩else v:=rfl
 generalize m.pl v=Z at*;generalize fI (m.lK v) m.n=Y at*;generalize m.lK v=X at*;generalize il m.df=W at*;obtain⟨d,qs,df⟩:=m;obtain⟨e,f⟩:=v;refine aM nf Ou mix (by simp[f58]) ?_;cases d
 ·simp only[a1,if_false]at a;subst a;simp only[sK]at*;simp[f58,cH,ad];refine Go.al.e2 k2 ?_;simp[ad];refine Go.al.e1 k3 ?_;simp[ad];refine Go.al.e2 k4 ?_;simp[ad]
 ·simp only[if_true]at a;subst a;simp only[sK]at*;simp[f58,cH,ad];refine Go.al.c1 k1 ?_;simp[ad];refine Go.al.e2 k2 ?_;simp[ad];refine Go.al.e1 k3 ?_;simp[ad];refine Go.al.e2 k4 ?_;simp[ad]
theorem Gm(m:bH)(v:NV)(c:bN 1500 v.q)(d:bW m.df):az prog 125 [cH m,dG v] (dG (m.vec v)):=by
 have k1:=yz v.x (c.1.mono (by decide));have b:bN 1500 (m.mC v).q:=by rw[F4];exact wG c
 have k2:=Q3 (m.mC v) m (b.mono (by decide));have k3:=zH m.df d;have k4:=Xu (fC (m.mC v) m.n) (eO m.df) ((zU b m.n).mono (by decide)) ((mI d).mono (by decide));rw[show(fC (m.mC v) m.n).add (eO m.df)=m.vec v from rfl]at k4;have a:m.mC v=if m.gW=true then⟨v.x.neg,v.y⟩else v:=rfl
 generalize m.vec v=Z at*;generalize fC (m.mC v) m.n=Y at*;generalize m.mC v=X at*;generalize eO m.df=W at*;obtain⟨e,qs,df⟩:=m;obtain⟨f,g⟩:=v;refine aM nf Ga mix (by simp[f125]) ?_;cases e
 ·simp only[a1,if_false]at a;subst a;simp[f125,cH,ad];refine Go.al.e2 k2 ?_;simp[ad];refine Go.al.e1 k3 ?_;simp[ad];refine Go.al.e2 k4 ?_;simp[ad]
 ·simp only[if_true]at a;subst a;simp only[rk]at*;simp[f125,cH,ad];refine Go.al.c1 k1 ?_;simp[ad];refine Go.al.e2 k2 ?_;simp[ad];refine Go.al.e1 k3 ?_;simp[ad];refine Go.al.e2 k4 ?_;simp[ad]
theorem F2(s:List Nat)(h:bX s=0)(hs:gN s)(a:bL 133 (aY s)):az prog 122 [.str s] (.aD [.str (bC (1-aY s)),.int .i64 0]):=by
 have b:bL 1 (NF.int 1).q:=⟨by decide,by decide⟩
 have k1:=sX 1 (by decide) (by decide);have k2:=lH s h hs.1;have k3:=u3 (.int 1) ⟨aY s,false⟩ (b.mono (by decide)) (a.mono (by decide));have k4:=Xt ((NF.int 1).sub ⟨aY s,false⟩) ((aAa b (show bL 133 (⟨aY s,false⟩:NF).q from a)).mono (by decide));rw[NF.lG,show(NF.int 1).q-(⟨aY s,false⟩:NF).q=1-aY s from rfl]at k4;generalize (NF.int 1).sub ⟨aY s,false⟩=D at*;generalize NF.int 1=O at*;generalize (⟨aY s,false⟩:NF)=S at*;refine aM nf Gd mix (by simp[f122]) ?_;simp[f122,ad];refine Go.al.c1 k1 ?_;simp[ad];refine Go.al.c1 k2 ?_;simp[ad];refine Go.al.c2 k3 ?_;simp[ad];refine Go.al.c1 k4 ?_;simp[ad]
def gZ(t:aC)(m:bH):Int:=if du m.df=true then 3 else if t.cs.any (fun p=>du (m.pt p))=true then 3 else 0
theorem Rc(m:bH)(p:b7)(a:bW p)(c:bW m.df):b9 prog 208 [.box false (.p (cH m))] [.p (aX p),.ptr 0 []] [.box false (.p (cH m))] (.p (.bool (du (m.pt p)))):=by
 have k1:=Gj m p a c;have k2:=z8 (m.pt p);generalize du (m.pt p)=b at*;generalize m.pt p=q at*;refine dW nf F6 mix (by simp[f208]) ?_;simp[f208,ad];refine Go.al.c2 k1 ?_;simp[ad];refine Go.al.c1 k2 ?_;simp[ad];exact cX.og (by simp) (by simp) (by simp) (by simp) (by simp)
theorem Q2(m:bH)(l:List b7)(h:l.length<=1000000)(b:bW m.df)(a:∀p∈l,bW p):
 b9 prog 239 [.box false (.p (cH m))] [.p (.seq (l.map aX)),.func 208 [] [.ptr 0 []]] [.box false (.p (cH m))] (.p (.int .i64 (idxFrom (fun p=>du (m.pt p)) l 0))):=by
 refine dW nf CV mix (by simp[f239]) ?_;simp[f239];refine lp (α:=Nat) (fun i=>⟨[(8,.p (.int .i64 i)),(7,.p (.int .i64 l.length)),(1,.func 208 [] [.ptr 0 []]),(0,.p (.seq (l.map aX)))],[.box false (.p (cH m))]⟩) (fun i=>i<=l.length/\idxFrom (fun p=>du (m.pt p)) l 0=idxFrom (fun p=>du (m.pt p)) (l.drop i) i) (fun i=>l.length-i) 0 (by simp) ?_;rintro i ⟨k1,k2⟩;have c:=bY (i:=i) (by omega)
 by_cases hi:i<l.length
 ·rw[List.drop_eq_getElem_cons hi,idxFrom]at k2;simp[hi];refine cf (Rc m l[i] (a _ (List.getElem_mem hi)) b) [0] ?_
  by_cases hk:du (m.pt l[i])=true
  ·simp[hk]at k2;simp[hk,k2,ba]
  ·simp[hk]at k2;simp[hk,c,ba];exact rd (i+1) ⟨hi,k2⟩
 ·have:i=l.length:=by omega
  subst this;simp[idxFrom]at k2;simp[k2]
theorem Ra(m:bH)(l:List b7)(h:l.length<=1000000)(b:bW m.df)(a:∀p∈l,bW p):
 b9 prog 157 [.box false (.p (cH m))] [.p (.seq (l.map aX)),.func 208 [] [.ptr 0 []]] [.box false (.p (cH m))] (.p (.bool (l.any (fun p=>du (m.pt p))))):=by
 refine dW nf z7 mix (by simp[f157]) ?_;simp[f157];refine cf (Q2 m l h b a) [0] ?_;have:=nQ (fun p=>du (m.pt p)) l 0;simp[ba,<-this]
theorem Gk(t:aC)(m:bH)(c:t.cs.length<=1000000)(d:∀p∈t.cs,bW p):az prog 114 [cH m,cA t] (.int .i64 (gZ t m)):=by
 have k1:=z8 m.df;rw[gZ]
 by_cases hf:du m.df=true
 ·rw[hf]at k1;rw[if_pos hf];refine aM nf zT mix (by simp[f114]) ?_;simp[f114,ad];refine Go.al.c1 k1 ?_;simp[ad]
 have a:du m.df=false:=by simpa using hf
 rw[a]at k1;have k2:=Ra m t.cs c (rj a) d;have k3:=gY (t.cs.any (fun p=>du (m.pt p))) 3;rw[if_neg hf];rw[bg]at k3;generalize t.cs.any (fun p=>du (m.pt p))=b at*;refine aM nf zT mix (by simp[f114]) ?_;simp[f114,ad];refine Go.al.c1 k1 ?_;simp[ad];refine cf k2 [0] ?_;simp[ad,ba];refine Go.al.c2 k3 ?_;simp[ad]
theorem Rb(t:aC)(m:bH)(q:t.cs.length<=1000000)(k:∀p∈t.cs,bW p):az prog 45 [bU t,cH m] (.int .i64 (gZ t m)):=by
 have k1:=Aa m.df;rw[gZ]
 by_cases hf:du m.df=true
 ·rw[hf]at k1;rw[if_pos hf];refine aM nf Di mix (by simp[f45]) ?_;simp[f45,ad];refine Go.al.c1 k1 ?_;simp[ad]
 have g:du m.df=false:=by simpa using hf
 rw[g]at k1;rw[if_neg hf];have j:∀p∈t.cs,az prog 128 [cH m,aX p] (aX (m.pt p)):=fun p l=>Ge m p (k p l) (rj g);generalize c:(if t.cs.any (fun p=>du (m.pt p))=true then(3:Int)else 0)=R;refine aM nf Di mix (by simp[f45]) ?_;simp[f45,ad];refine Go.al.c1 k1 ?_;simp[ad];refine lp (α:=Nat) (fun i=>⟨[(5,.p (.int .i64 i)),(3,.ptr 1 []),(2,.ptr 0 [])],[.box false (.p (bU t)),.box false (.p (cH m))]⟩) (fun i=>i<=t.cs.length/\(t.cs.take i).any (fun p=>du (m.pt p))=false) (fun i=>t.cs.length-i) 0 (by simp) ?_;rintro i ⟨o,e⟩
 by_cases hi:i<t.cs.length
 ·have b:=aC.get hi;have h:=bi b;have f:=j _ h;have a:=Aa (m.pt (t.at i));have n:=bY (i:=i) (by omega);rcases d:du (m.pt (t.at i))with _|_
  ·rw[d]at a;simp[hi,b,ad];refine Go.al.e2 f ?_;simp[ad];refine Go.al.e1 a ?_;simp[n,ad];exact rd (i+1) ⟨hi,by rw[b0,b,List.any_append,e];simp[d]⟩
  ·rw[d]at a;have:t.cs.any (fun p=>du (m.pt p))=true:=ck.2 ⟨_,h,d⟩;rw[if_pos this]at c;subst c;simp[hi,b,ad];refine Go.al.e2 f ?_;simp[ad];refine Go.al.e1 a ?_;simp[ad]
 ·obtain rfl:i=t.cs.length:=by omega
  rw[b3]at e;rw[if_neg (by rw[e];simp)]at c;subst c;simp[ad]
theorem tQ{N:Nat×Nat->Prop}{α β:Type}{f:β->PV}{g:α->β}{k:Nat}{l:List α}:aQ N ((l.map ((AV.p∘f)∘g)).take k)=True:=by
 have:=dZ (N:=N) (f:=f∘g) (k:=k) (l:=l);exact this
def bH.sp(m:bH)(s:ct):ct:=⟨s.name,lM (m.pl (vP s.pt))⟩
def kJ(n:Nat)(p:dx):dx:=⟨p.name,n-1-p.dB,bC (1-aY p.b),bC (1-aY p.a)⟩
theorem Yx(m:bH)(p:b7)(a:bW p)(b:bW m.df):b9 prog 116 [.box false (.p (cH m))] [.p (aX p),.ptr 0 []] [.box false (.p (cH m))] (.p (.aD [aX (m.pt p),.int .i64 0])):=by
 have k1:=Gj m p a b;generalize m.pt p=q at*;refine dW nf MC mix (by simp[f116]) ?_;simp[f116,ad];refine Go.al.c2 k1 ?_;simp[ad];exact cX.og (by simp) (by simp) (by simp) (by simp) (by simp)
theorem Yz(m:bH)(s:ct)(hs:jA s)(hc:dw s.pt=0)(a:bN 133 (vP s.pt))(b:bW m.df):b9 prog 124 [.box false (.p (cH m))] [.p (aV s),.ptr 0 []] [.box false (.p (cH m))] (.p (.aD [aV (m.sp s),.int .i64 0])):=by
 have k1:=tO s.pt (iv hc).1 (iv hc).2 hs.2;have k2:=Gm m (.from s.pt) (show bN 1500 (NV.from s.pt).q from a.mono (by decide)) b;have c:bN 148 (m.vec (.from s.pt)).q:=by rw[bH.wz];exact Ph a b
 have k3:=EV (m.vec (.from s.pt)) (c.mono (by decide));rw[bH.wz,sU,C6]at k3;rw[bH.sp];generalize m.vec (.from s.pt)=V at*;generalize lM (m.pl (vP s.pt))=P at*;generalize NV.from s.pt=W at*;obtain⟨name,pt⟩:=s;refine dW nf Gb mix (by simp[f124]) ?_;simp[f124,aV,ad];refine Go.al.e1 k1 ?_;simp[ad];refine Go.al.e2 k2 ?_;simp[ad];refine Go.al.e1 k3 ?_;simp[ad];refine⟨by repeat' first|rfl|apply aT,?_⟩;exact cX.og (by simp) (by simp) (by simp) (by simp) (by simp)
theorem Yw(m:bH)(s:ct)(hs:jA s)(hc:dw s.pt=0)(a:bN 133 (vP s.pt))(b:bW m.df):b9 prog 127 [.box false (.p (cH m))] [.p (aV s),.ptr 0 []] [.box false (.p (cH m))] (.p (.aD [aV (m.sp s),.int .i64 0])):=by
 have k1:=tO s.pt (iv hc).1 (iv hc).2 hs.2;have k2:=Gm m (.from s.pt) (show bN 1500 (NV.from s.pt).q from a.mono (by decide)) b;have c:bN 148 (m.vec (.from s.pt)).q:=by rw[bH.wz];exact Ph a b
 have k3:=EV (m.vec (.from s.pt)) (c.mono (by decide));rw[bH.wz,sU,C6]at k3;rw[bH.sp];generalize m.vec (.from s.pt)=V at*;generalize lM (m.pl (vP s.pt))=P at*;generalize NV.from s.pt=W at*;obtain⟨name,pt⟩:=s;refine dW nf F8 mix (by simp[f127]) ?_;simp[f127,aV,ad];refine Go.al.e1 k1 ?_;simp[ad];refine Go.al.e2 k2 ?_;simp[ad];refine Go.al.e1 k3 ?_;simp[ad];refine⟨by repeat' first|rfl|apply aT,?_⟩;exact cX.og (by simp) (by simp) (by simp) (by simp) (by simp)
theorem Yy(n:Nat)(cs:List b7)(p:dx)(s:1<=n)(t:n<=1000)(j:0<=p.dB)(k:p.dB<n)(c:cs.length=n)(g:bX p.a=0)(i:bX p.b=0)(q:gN p.a)(r:gN p.b)(m:bL 133 (aY p.a))(o:bL 133 (aY p.b)):
 b9 prog 121 [.box false (.sl 1 n 2 0 n),.arr .grow n 2 (cs.map (AV.p∘aX))] [.p (bQ p),.ptr 0 []] [.box false (.sl 1 n 2 0 n),.arr .grow n 2 (cs.map (AV.p∘aX))] (.p (.aD [bQ (kJ n p),.int .i64 0])):=by
 have k1:=F2 p.b i r o;have k2:=F2 p.a g q m;obtain⟨name,e,a,b⟩:=p;have k3:=nS [0,0] (by simp);simp only[b2,List.map_nil]at k3;rw[show bG [0,0]=0 from rfl]at k3;simp only at j k;have d:a7.wrap ((n:Int)-1)=(n:Int)-1:=aI _ (by omega) (by omega);have f:a7.wrap ((n:Int)-1-e)=(n:Int)-1-e:=aI _ (by omega) (by omega);have l:cs≠[]:=by intro h;rw[h]at c;simp at c;omega
 rw[kJ];dsimp only at*;generalize bC (1-aY b)=v at*;generalize bC (1-aY a)=u at*;refine dW nf M7 mix (by simp[f121]) ?_;simp[f121,bQ,ad];refine Go.al.c1 k1 ?_;simp[ad];refine Go.al.c1 k2 ?_;simp[ad,l,c,d,f];refine ep k3 (by simp;first|exact⟨rfl,rfl⟩|rfl) (by simp;first|exact⟨rfl,rfl⟩|rfl) ?_;simp[ad,d,f];refine⟨by rfl,?_⟩;exact cX.og (by simp) (by simp) (by simp) (by simp) (by simp)
theorem YH(m:bH)(l:List b7)(h:l.length<=1000000)(g:bW m.df)(d:∀p∈l,bW p):b9 prog 115 [.box false (.p (cH m))] [.p (.seq (l.map aX)),.func 116 [] [.ptr 0 []]] [.box false (.p (cH m)),.arr .grow l.length 2 ((l.map m.pt).map (AV.p∘aX))] (.aD [.sl 1 l.length 2 0 l.length,.p (.int .i64 0)]):=by
 have j:(1000000:Nat)<cC:=by decide
 have k:a7.wrap 1=1:=by decide
 refine dW nf MD mix (by simp[f115]) ?_;simp[f115,ad];refine lp (α:=Nat) (fun i=>⟨[(13,.p (.int .i64 i)),(12,.p (.int .i64 l.length)),(11,.p (.seq (l.map aX))),(6,.sl 1 i 2 0 i),(1,.func 116 [] [.ptr 0 []])],[.box false (.p (cH m)),.arr .grow i 2 (((l.map m.pt).map (AV.p∘aX)).take i)]⟩) (fun i=>i<=l.length) (fun i=>l.length-i) 0 (by simp) ?_;rintro i i1
 by_cases hi:i<l.length
 ·obtain⟨x,a⟩:∃x,l[i]?=some x:=⟨_,bk hi⟩
  have hx:l[i]=x:=by rw[bk hi]at a;injection a
  have b:=Yx m x (d x (bi a)) g;have f:=bY (i:=i) (by omega);have e:(l.map ((AV.p∘aX)∘m.pt)).take (i+1)=(l.map ((AV.p∘aX)∘m.pt)).take i++[.p (aX (m.pt x))]:=by
   rw[b0,bo,a];rfl
  have c:min i l.length=i:=by omega
  generalize hy:m.pt x=y at*;simp[hi,a,hx,ad];refine cf b [0] ?_;simp[ba,sig,f,c,ad,nE];exact⟨by omega,rd (i+1) hi (hh:=by simp[e]) (hr2:=by simp[tQ])⟩
 ·have:i=l.length:=by omega
  subst this;simp[ad]
theorem YI(m:bH)(l:List ct)(h:l.length<=1000000)(g:bW m.df)(b:∀s∈l,jA s/\dw s.pt=0/\bN 133 (vP s.pt)):b9 prog 123 [.box false (.p (cH m))] [.p (.seq (l.map aV)),.func 124 [] [.ptr 0 []]] [.box false (.p (cH m)),.arr .grow l.length 3 ((l.map m.sp).map (AV.p∘aV))] (.aD [.sl 1 l.length 3 0 l.length,.p (.int .i64 0)]):=by
 have j:(1000000:Nat)<cC:=by decide
 have k:a7.wrap 1=1:=by decide
 refine dW nf Gc mix (by simp[f123]) ?_;simp[f123,ad];refine lp (α:=Nat) (fun i=>⟨[(13,.p (.int .i64 i)),(12,.p (.int .i64 l.length)),(11,.p (.seq (l.map aV))),(6,.sl 1 i 3 0 i),(1,.func 124 [] [.ptr 0 []])],[.box false (.p (cH m)),.arr .grow i 3 (((l.map m.sp).map (AV.p∘aV)).take i)]⟩) (fun i=>i<=l.length) (fun i=>l.length-i) 0 (by simp) ?_;rintro i i1
 by_cases hi:i<l.length
 ·obtain⟨x,a⟩:∃x,l[i]?=some x:=⟨_,bk hi⟩
  have hx:l[i]=x:=by rw[bk hi]at a;injection a
  have c:=Yz m x (b x (bi a)).1 (b x (bi a)).2.1 (b x (bi a)).2.2 g;have f:=bY (i:=i) (by omega);have e:(l.map ((AV.p∘aV)∘m.sp)).take (i+1)=(l.map ((AV.p∘aV)∘m.sp)).take i++[.p (aV (m.sp x))]:=by
   rw[b0,bo,a];rfl
  have d:min i l.length=i:=by omega
  generalize hy:m.sp x=y at*;simp[hi,a,hx,ad];refine cf c [0] ?_;simp[ba,sig,f,d,ad,nE];exact⟨by omega,rd (i+1) hi (hh:=by simp[e]) (hr2:=by simp[tQ])⟩
 ·have:i=l.length:=by omega
  subst this;simp[ad]
theorem YF(m:bH)(l:List ct)(h:l.length<=1000000)(g:bW m.df)(b:∀s∈l,jA s/\dw s.pt=0/\bN 133 (vP s.pt)):b9 prog 126 [.box false (.p (cH m))] [.p (.seq (l.map aV)),.func 127 [] [.ptr 0 []]] [.box false (.p (cH m)),.arr .grow l.length 3 ((l.map m.sp).map (AV.p∘aV))] (.aD [.sl 1 l.length 3 0 l.length,.p (.int .i64 0)]):=by
 have j:(1000000:Nat)<cC:=by decide
 have k:a7.wrap 1=1:=by decide
 refine dW nf F9 mix (by simp[f126]) ?_;simp[f126,ad];refine lp (α:=Nat) (fun i=>⟨[(13,.p (.int .i64 i)),(12,.p (.int .i64 l.length)),(11,.p (.seq (l.map aV))),(6,.sl 1 i 3 0 i),(1,.func 127 [] [.ptr 0 []])],[.box false (.p (cH m)),.arr .grow i 3 (((l.map m.sp).map (AV.p∘aV)).take i)]⟩) (fun i=>i<=l.length) (fun i=>l.length-i) 0 (by simp) ?_;rintro i i1
 by_cases hi:i<l.length
 ·obtain⟨x,a⟩:∃x,l[i]?=some x:=⟨_,bk hi⟩
  have hx:l[i]=x:=by rw[bk hi]at a;injection a
  have c:=Yw m x (b x (bi a)).1 (b x (bi a)).2.1 (b x (bi a)).2.2 g;have f:=bY (i:=i) (by omega);have e:(l.map ((AV.p∘aV)∘m.sp)).take (i+1)=(l.map ((AV.p∘aV)∘m.sp)).take i++[.p (aV (m.sp x))]:=by
   rw[b0,bo,a];rfl
  have d:min i l.length=i:=by omega
  generalize hy:m.sp x=y at*;simp[hi,a,hx,ad];refine cf c [0] ?_;simp[ba,sig,f,d,ad,nE];exact⟨by omega,rd (i+1) hi (hh:=by simp[e]) (hr2:=by simp[tQ])⟩
 ·have:i=l.length:=by omega
  subst this;simp[ad]
theorem YG(n:Nat)(cs:List b7)(l:List dx)(h:l.length<=1000000)(g:1<=n)(j:n<=1000)(e:cs.length=n)(k:∀p∈l,0<=p.dB/\p.dB<n/\bX p.a=0/\bX p.b=0/\gN p.a/\gN p.b/\bL 133 (aY p.a)/\bL 133 (aY p.b)):b9 prog 120 [.box false (.sl 1 n 2 0 n),.arr .grow n 2 (cs.map (AV.p∘aX))] [.p (.seq (l.map bQ)),.func 121 [] [.ptr 0 []]] [.box false (.sl 1 n 2 0 n),.arr .grow n 2 (cs.map (AV.p∘aX)),.arr .grow l.length 4 ((l.map (kJ n)).map (AV.p∘bQ))] (.aD [.sl 2 l.length 4 0 l.length,.p (.int .i64 0)]):=by
 have r:(1000000:Nat)<cC:=by decide
 have s:a7.wrap 1=1:=by decide
 refine dW nf M8 mix (by simp[f120]) ?_;simp[f120,ad];refine lp (α:=Nat) (fun i=>⟨[(13,.p (.int .i64 i)),(12,.p (.int .i64 l.length)),(11,.p (.seq (l.map bQ))),(6,.sl 2 i 4 0 i),(1,.func 121 [] [.ptr 0 []])],[.box false (.sl 1 n 2 0 n),.arr .grow n 2 (cs.map (AV.p∘aX)),.arr .grow i 4 (((l.map (kJ n)).map (AV.p∘bQ)).take i)]⟩) (fun i=>i<=l.length) (fun i=>l.length-i) 0 (by simp) ?_;rintro i i1
 by_cases hi:i<l.length
 ·obtain⟨x,c⟩:∃x,l[i]?=some x:=⟨_,bk hi⟩
  have hx:l[i]=x:=by rw[bk hi]at c;injection c
  have d:=(fun q=>Yy n cs x g j q.1 q.2.1 e q.2.2.1 q.2.2.2.1 q.2.2.2.2.1 q.2.2.2.2.2.1 q.2.2.2.2.2.2.1 q.2.2.2.2.2.2.2) (k x (bi c))
  have o:=bY (i:=i) (by omega);have m:(l.map ((AV.p∘bQ)∘(kJ n))).take (i+1)=(l.map ((AV.p∘bQ)∘(kJ n))).take i++[.p (bQ ((kJ n) x))]:=by
   rw[b0,bo,c];rfl
  have f:min i l.length=i:=by omega
  generalize hy:(kJ n) x=y at*;simp[hi,c,hx,ad];refine cf d [0,1] ?_;simp[ba,sig,o,f,ad,nE];exact⟨by omega,rd (i+1) hi (hh:=by simp[m]) (hr2:=by simp[tQ])⟩
 ·have:i=l.length:=by omega
  subst this;simp[ad]
theorem Q6(l:List dx)(h:l.length<=1000000):az prog 118 [.seq (l.map bQ)] (.seq (l.map bQ)):=by
 have b:(1000000:Nat)<cC:=by decide
 cases l with
 |nil=>
  refine .inl (Q9 (pre:=[]) (post:=[]) ?_ ?_)
  ·refine CR nf yZ mix (by simp[f118]) ?_;simp[f118,dh,cO]
  ·refine CR nf yZ mix (by simp[f118]) ?_;simp[f118,cC,dh,cO]
 |cons a r=>
  refine aM nf yZ mix (by simp[f118]) ?_;simp at h;simp[f118,dh,cO];exact⟨uX (fun r=>⟨by simp[ad],by simp[ad]⟩) r,by omega⟩
def nJ(t b:aC)(m:bH):Int:=if gv t b=0 then gZ t m else gv t b
theorem wE{t:aC}{m:bH}(h:gZ t m=0):bW m.df/\∀p∈t.cs,bW (m.pt p):=by
 rw[gZ]at h
 split at h
 ·cases h
 rename_i a
 split at h
 ·cases h
 rename_i b;refine⟨rj (by simpa using a),fun p c=>rj ?_⟩;cases hq:du (m.pt p)
 ·rfl
 ·exact absurd (ck.2 ⟨p,c,hq⟩) b
theorem Rf(t b:aC)(m:bH)(f:kt t)(d:mN b)(g:∀s∈b.au,dw s.pt=0->bN 133 (vP s.pt)):
 az prog 43 [cA t,.seq (b.au.map aV),cH m] (.aD [.seq (if nJ t b m=0 then(b.au.map m.sp).map aV else[]),.int .i64 (nJ t b m)]):=by
 have k1:=Qy t b f d;rw[nJ]
 by_cases a:gv t b=0
 case neg=>
  rw[if_neg a,if_neg a];generalize gv t b=L at*;refine aM nf wA mix (by simp[f43]) ?_;simp[f43,ad];refine Go.al.c2 k1 ?_;simp[a,ad]
 rw[if_pos a];rw[a]at k1;obtain⟨j,e⟩:=EX d a;obtain⟨k,l,h,_⟩:=re j;have k2:=Gk t m f.cl h
 by_cases c:gZ t m=0
 case neg=>
  rw[if_neg c];generalize gZ t m=M at*;refine aM nf wA mix (by simp[f43]) ?_;simp[f43,ad];refine Go.al.c2 k1 ?_;simp[ad];refine Go.al.c2 k2 ?_;simp[c,ad]
 rw[if_pos c,c];rw[c]at k2;obtain⟨i,_⟩:=wE c;have k3:=YF m b.au d.sl i (fun s hs=>⟨(e s hs).1,(e s hs).2,g s hs (e s hs).2⟩);refine aM nf wA mix (by simp[f43]) ?_;simp[f43,ad];refine Go.al.c2 k1 ?_;simp[ad];refine Go.al.c2 k2 ?_;simp[ad];refine cf k3 [1] ?_;simp[ba,sig,ad]
def fa(n:Nat)(f:Nat->b7):List AV:=(b4 n).map fun j=>.p (aX (f j))
theorem ru(n:Nat)(f:Nat->b7):(fa n f).length=n:=by simp[fa]
theorem Ad{n j:Nat}(f:Nat->b7)(h:j<n):(fa n f)[j]?=some (.p (aX (f j))):=by
 rw[fa,bo,cc h];rfl
theorem Q7{n j:Nat}{f:Nat->b7}(h:j<(fa n f).length):(fa n f)[j]'h=.p (aX (f j)):=(b1.1 (Ad f (by rw[ru]at h;exact h))).2
theorem F3{n i:Nat}{v:b7}{f g:Nat->b7}(c:g i=v)(b:∀k,k≠i->g k=f k):(fa n f).set i (.p (aX v))=fa n g:=by
 apply ce (by simp[fa]);intro k d a;simp only[fa,cb,List.length_range]at a;rw[List.getElem_set];simp only[fa,List.getElem_map,List.getElem_range]
 split
 ·rename_i h;rw[<-h,c]
 ·rename_i h;rw[b k (fun e=>h e.symm)]
theorem Gg{n:Nat}{f g:Nat->b7}(h:∀k,k<n->f k=g k):fa n f=fa n g:=by
 rw[fa,fa];exact List.map_congr_left fun k hk=>by rw[h k (List.mem_range.1 hk)]
theorem wF{N:Nat×Nat->Prop}{n:Nat}{f:Nat->b7}:aQ N (fa n f)=True:=by
 rw[cG,eq_iff_iff,iff_true];intro x hx;obtain⟨a,_,rfl⟩:=List.mem_map.1 hx;trivial
def iB(f:Nat->b7)(n k p:Nat):b7:=if p=0 then f 0 else if p<=k\/n-k<=p then f (n-p)else f p
theorem YJ(f:Nat->b7)(n ar:Nat)(E:2<=n)(h:n<=1000):
 b9 prog 119 [.arr .grow ar 2 (fa n f)] [.sl 0 ar 2 1 (n-1)] [.arr .grow ar 2 (fa n (fun p=>if p=0 then f 0 else f (n-p)))] (.p (.aD [])):=by
 have G:a7.wrap ((n:Int)-2)=(n:Int)-2:=aI _ (by omega) (by omega);have e1:a7.wrap (((n-1:Nat):Int)-1)=(n:Int)-2:=by
  rw[aI _ (by omega) (by omega)];omega
 have l:∀g,¬fa n g=[]:=fun g s=>by have:=ru n g;rw[s]at this;simp at this;omega
 have m:fa n (iB f n 0)=fa n f:=Gg fun p a=>by
  rw[iB]
  by_cases c:p=0
  ·rw[if_pos c,c]
  ·rw[if_neg c,if_neg (by omega)]
 refine dW nf MA mix (by simp[f119]) ?_;simp[f119,ad,e1,l,ru];refine lp (α:=Nat) (fun k=>⟨[(3,.p (.int .i64 ((n:Int)-2-k))),(2,.p (.int .i64 k)),(0,.sl 0 ar 2 1 (n-1))],[.arr .grow ar 2 (fa n (iB f n k))]⟩) (fun k=>2*k<=n-1) (fun k=>n-k) 0 (by simp) ?_ (hn:=by simp[m]) (hh:=by simp[m]) (hr2:=by simp[wF]);intro k hk
 by_cases hc:2*k<n-2
 ·obtain⟨j,F⟩:∃j,j+k+2=n:=⟨n-2-k,by omega⟩
  have t:(n:Int)-2-(k:Int)=(j:Int):=by omega
  have u:(k:Int)<j:=by omega
  have w:a7.wrap ((k:Int)+1)=(k:Int)+1:=aI _ (by omega) (by omega);have x:a7.wrap ((j:Int)-1)=(j:Int)-1:=aI _ (by omega) (by omega);have o:iB f n k (1+j)=f (1+j):=by rw[iB,if_neg (by omega),if_neg (by omega)]
  have q:iB f n k (1+k)=f (1+k):=by rw[iB,if_neg (by omega),if_neg (by omega)]
  have b:=Ad (n:=n) (iB f n k) (show 1+j<n by omega);have e:=Ad (n:=n) (iB f n k) (show 1+k<n by omega);rw[o]at b;rw[q]at e;have C:=F3 (n:=n) (i:=1+k) (v:=f (1+j)) (f:=iB f n k) (g:=fun p=>if p=1+k then f (1+j)else iB f n k p) (if_pos rfl) (fun p a=>if_neg a);have D:=F3 (n:=n) (i:=1+j) (v:=f (1+k)) (f:=fun p=>if p=1+k then f (1+j)else iB f n k p) (g:=iB f n (k+1)) (by rw[iB,if_neg (by omega),if_pos (by omega),show n-(1+j)=1+k by omega]) (fun p a=>by
   by_cases c:p=1+k
   ·rw[if_pos c,iB,if_neg (by omega),if_pos (by omega),show n-p=1+j by omega]
   ·rw[if_neg c,iB,iB]
    by_cases c0:p=0
    ·rw[if_pos c0,if_pos c0]
    ·rw[if_neg c0,if_neg c0]
     by_cases d:p<=k\/n-k<=p
     ·rw[if_pos d,if_pos (by omega)]
     ·rw[if_neg d,if_neg (by omega)])
  have y:j<n-1:=by omega
  have z:k<n-1:=by omega
  have A:1+j<n:=by omega
  have B:1+k<n:=by omega
  simp[t,u,l,ru,ad,b,e,Q7,o,q,y,z,A,B,C,D,w,x];refine⟨by repeat' first|rfl|apply aT,?_⟩;exact rd (k+1) (by omega) (he:=by simp;omega) (hr2:=by simp[wF])
 ·have r:¬(k:Int)<(n:Int)-2-k:=by omega
  simp[r,ad];refine .inl (Gg fun p a=>?_);rw[iB]
  by_cases c:p=0
  ·rw[if_pos c,if_pos c]
  ·rw[if_neg c,if_neg c]
   by_cases d:p<=k\/n-k<=p
   ·rw[if_pos d]
   ·rw[if_neg d,show n-p=p by omega]
theorem E5{p:gq}(hx:p.x.length<=40)(a:p.y.length<=40)(h:dw p=0):bN 133 (vP p):=by
 obtain⟨g1,g2⟩:=iv h;exact⟨wo g1 hx,wo g2 a⟩
theorem ES{t:aC}(h:jl t=true):∀s∈t.au,dw s.pt=0->bN 133 (vP s.pt):=by
 intro s hs a;simp only[jl,a0,cv]at h;have:=h.2.2 s hs;simp only[fS,a0,decide_eq_true_eq]at this;exact E5 this.2.1 this.2.2 a
theorem rr(n:Nat)(f:Nat->b7):fa n f=((b4 n).map f).map (AV.p∘aX):=by
 rw[fa,List.map_map];rfl
theorem rq{σ:Nat->Nat}{n:Nat}{f:Nat->b7}:cM σ (fa n f)=fa n f:=by rw[rr,nE]
def bH.src(m:bH)(n i:Nat):Nat:=if m.gW then(if i=0 then 0 else n-i)else i
def bH.cs(m:bH)(t:aC):List b7:=(b4 t.cs.length).map (fun i=>m.pt (t.at (m.src t.cs.length i)))
def bH.aO(m:bH)(t:aC):List dx:=if m.gW then t.aO.map (kJ t.cs.length)else t.aO
def jw(m:bH)(t:aC):aC:=⟨m.cs t,t.bd,m.aO t,t.au.map m.sp⟩
def vu(t:aC)(m:bH):Int:=if dU t=0 then gZ t m else dU t
def ij:aC:=⟨[],0,[],[]⟩
theorem F5(t:aC)(m:bH):t.cs.map m.pt=(b4 t.cs.length).map (fun i=>m.pt (t.at i)):=by
 apply ce (by simp);intro k a b;simp only[cb]at a;simp
theorem Pg{t:aC}(g:kt t)(h:dU t=0)(hs:jl t=true):∀p∈t.aO,0<=p.dB/\p.dB<t.cs.length/\bX p.a=0/\bX p.b=0/\gN p.a/\gN p.b/\bL 133 (aY p.a)/\bL 133 (aY p.b):=by
 intro p d;obtain⟨i,hi,rfl⟩:=b5.1 d;have c:=aAM h hi;rw[aC.DC hi]at d⊢;obtain⟨c1,c2⟩:=zL c;have f:0<=(t.pk i).dB/\(t.pk i).dB<t.cs.length:=by
  rw[fY]at c
  split at c
  ·cases c
  split at c
  ·cases c
  split at c
  ·cases c
  ·omega
 obtain⟨_,s1,s2⟩:=g.pk _ d;simp only[jl,a0,cv]at hs;have e:=hs.2.1 _ d;simp only[iY,a0,decide_eq_true_eq]at e;exact⟨f.1,f.2,c1,c2,s1,s2,wo c1 e.2.1,wo c2 e.2.2⟩
theorem Re(t:aC)(m:bH)(a:kt t)(hs:jl t=true):az prog 42 [cA t,cH m] (.aD [cA (if vu t m=0 then jw m t else ij),.int .i64 (vu t m)]):=by
 have k1:=D0 t a;rw[vu]
 by_cases b:dU t=0
 case neg=>
  rw[if_neg b,if_neg b];generalize dU t=L at*;refine aM nf wC mix (by simp[f42]) ?_;simp[f42,ad];refine Go.al.c1 k1 ?_;simp[b,ij,cA,ad]
 rw[if_pos b];have w:=Pg a b hs;have y:=ES hs;have k:∀s∈t.au,dw s.pt=0:=fun s h=>by
  obtain⟨i,hi,rfl⟩:=b5.1 h;have:=EY b hi
  rwa [show t.au[i]=t.sp i by simp]
 rw[b]at k1;obtain⟨D,E,l,_⟩:=re b;have k2:=Gk t m a.cl l
 by_cases d:gZ t m=0
 case neg=>
  rw[if_neg d];generalize gZ t m=M at*;refine aM nf wC mix (by simp[f42]) ?_;simp[f42,ad];refine Go.al.c1 k1 ?_;simp[ad];refine Go.al.c2 k2 ?_;simp[d,ij,cA,ad]
 rw[if_pos d,d];rw[d]at k2;obtain⟨q,_⟩:=wE d;have k3:=YH m t.cs a.cl q l;have k4:=Q6 t.aO a.pl;have k5:=YI m t.au a.sl q (fun s h=>⟨a.sp s h,k s h,y s h (k s h)⟩);have B:=a.cl;have C:(1000000:Nat)<cC:=by decide
 rw[F5]at k3;have e1:(t.cs.map m.pt).map (AV.p∘aX)=fa t.cs.length (fun i=>m.pt (t.at i)):=by rw[F5,rr]
 have e2:((b4 t.cs.length).map (fun i=>m.pt (t.at i))).map (AV.p∘aX)=fa t.cs.length (fun i=>m.pt (t.at i)):=(rr _ _).symm;rw[e2]at k3;obtain⟨n,g⟩:∃n,n=t.cs.length:=⟨_,rfl⟩
 have f:m.cs t=(b4 n).map (fun i=>m.pt (t.at (m.src n i))):=by rw[bH.cs,<-g]
 have o:m.aO t=if m.gW=true then t.aO.map (kJ n)else t.aO:=by rw[bH.aO,<-g]
 rw[<-g]at k3;have j:cA (jw m t)=.st 37 [.seq ((m.cs t).map aX),.int .i64 t.bd,.seq ((m.aO t).map bQ),.seq ((t.au.map m.sp).map aV)]:=rfl;refine aM nf wC mix (by simp[f42]) ?_;rcases e:m.gW with _|_
 ·simp[f42,ad];refine Go.al.c1 k1 ?_;simp[ad];refine Go.al.c2 k2 ?_;simp[ad];refine cf k3 [1] ?_;simp[ba,sig,ad,rq];refine Go.al.c1 k4 ?_;simp[ad,e];refine cf k5 [1] ?_ (hargs:=by simp[sig,lU]);simp[ba,sig,ad];rw[j,f,o,e];simp[rr,bH.src,e];rw[be (by simp),yh];intro x _;simp
 ·have q1:=YJ (fun i=>m.pt (t.at i)) n n (by omega) (by omega);have e3:(fun p=>if p=0 then m.pt (t.at 0)else m.pt (t.at (n-p)))=fun i=>m.pt (t.at (m.src n i)):=by
   funext i
   rw[bH.src,e,if_pos rfl]
   by_cases c:i=0
   ·rw[if_pos c,if_pos c]
   ·rw[if_neg c,if_neg c]
  rw[e3]at q1;have z:(m.cs t).length=n:=by rw[f];simp
  have e4:fa n (fun i=>m.pt (t.at (m.src n i)))=(m.cs t).map (AV.p∘aX):=by rw[f,rr]
  have k6:=YG n (m.cs t) t.aO a.pl (by omega) (by omega) z (fun p h=>by rw[g];exact w p h);rw[<-e4]at k6;have r:1<=n:=by omega
  have u:¬1=n:=by omega
  have v:¬fa n (fun i=>m.pt (t.at i))=[]:=fun A=>by have:=ru n (fun i=>m.pt (t.at i));rw[A]at this;simp at this;omega
  simp[f42,ad];refine Go.al.c1 k1 ?_;simp[ad];refine Go.al.c2 k2 ?_;simp[ad];refine cf k3 [1] ?_;simp[ba,sig,ad,rq];refine Go.al.c1 k4 ?_;simp[ad,e,r,u,v,ru];refine cf q1 [3] ?_ (aj:=by simp[sig,rq]) (hr:=by simp[wF]);simp[ba,sig,ad,rq];refine cf k6 [4,3] ?_ (aj:=by simp[sig,rq]) (hr:=by simp[wF]);simp[ba,sig,ad,rq];refine cf k5 [1] ?_ (hargs:=by simp[sig,lU]);simp[ba,sig,ad];rw[j,f,o,e];simp[rr];rw[be (by simp),yh];intro x _;simp
theorem C1(t:aC)(v:t.aO.length<=1000000)(w:t.au.length<=1000000):az prog 49 [cA t] (bU t):=by
 have u:(1000000:Nat)<cC:=by decide
 have o:a7.wrap 1=1:=by decide
 rw[show cA t=.st 37 [.seq (t.cs.map aX),.int .i64 t.bd,.seq (t.aO.map bQ),.seq (t.au.map aV)]from rfl];refine aM nf Oo mix (by simp[f49]) ?_;simp[f49,ad];refine lp (α:=Nat) (fun i=>match i with
  |0=>⟨[(16,.p (.int .i64 0)),(15,.p (.int .i64 t.aO.length)),(14,.p (.seq (t.aO.map bQ))),(3,.ptr 2 []),(2,.ptr 1 []),(1,.ptr 0 [])],[.box false (.p (.st 37 [.seq (t.cs.map aX),.int .i64 t.bd,.seq (t.aO.map bQ),.seq (t.au.map aV)])),.box false (.p (.st 25 [.aF,.int .i64 0,.aF,.aF])),.box false (.p (.st 25 [.seq (t.cs.map aX),.int .i64 t.bd,.aF,.aF]))]⟩
  |m+1=>⟨[(16,.p (.int .i64 ((m+1:Nat):Int))),(15,.p (.int .i64 t.aO.length)),(14,.p (.seq (t.aO.map bQ))),(3,.ptr 2 []),(2,.ptr 1 []),(1,.ptr 0 [])],[.box false (.p (.st 37 [.seq (t.cs.map aX),.int .i64 t.bd,.seq (t.aO.map bQ),.seq (t.au.map aV)])),.box false (.p (.st 25 [.aF,.int .i64 0,.aF,.aF])),.box false (.st 25 [.p (.seq (t.cs.map aX)),.p (.int .i64 t.bd),.sl 5 m 4 0 (m+1),.p .aF]),.hole,.hole,.arr .grow m 4 ((t.aO.take (m+1)).map (AV.p∘bQ))]⟩) (fun i=>i<=t.aO.length) (fun i=>t.aO.length-i) 0 (by simp) ?_
 rintro i r
 by_cases hi:i<t.aO.length
 ·have a:=aC.jj hi;rcases i with _|j
  ·have b:=jn a;simp[hi,a,o,ad];exact⟨by omega,rd 1 hi (hh:=by simp[b]) (hr2:=by simp[dZ])⟩
  ·have h:a7.wrap ((j:Int)+1+1)=(j:Int)+1+1:=aI _ (by omega) (by omega);have hI:(j:Int)+1<t.aO.length:=by omega
   have b:=jm (f:=AV.p∘bQ) a;simp[hi,hI,a,h,ad];exact⟨by omega,⟨by omega,by omega⟩,rd (j+2) hi (hh:=by simp at b;simp[b]) (hr2:=by simp[dZ])⟩
 have s:i=t.aO.length:=by omega
 rcases i with _|j
 ·have k:t.aO=[]:=bl.1 s.symm;simp[k,ad];refine lp (α:=Nat) (fun i=>match i with
    |0=>⟨[(30,.p (.int .i64 0)),(29,.p (.int .i64 t.au.length)),(28,.p (.seq (t.au.map aV))),(3,.ptr 2 []),(2,.ptr 1 [])],[.box false (.p (.st 37 [.seq (t.cs.map aX),.int .i64 t.bd,.seq (t.aO.map bQ),.seq (t.au.map aV)])),.box false (.p (.st 25 [.aF,.int .i64 0,.aF,.aF])),.box false (.p (.st 25 [.seq (t.cs.map aX),.int .i64 t.bd,.aF,.aF]))]⟩
    |m+1=>⟨[(30,.p (.int .i64 ((m+1:Nat):Int))),(29,.p (.int .i64 t.au.length)),(28,.p (.seq (t.au.map aV))),(3,.ptr 2 []),(2,.ptr 1 [])],[.box false (.p (.st 37 [.seq (t.cs.map aX),.int .i64 t.bd,.seq (t.aO.map bQ),.seq (t.au.map aV)])),.box false (.p (.st 25 [.aF,.int .i64 0,.aF,.aF])),.box false (.st 25 [.p (.seq (t.cs.map aX)),.p (.int .i64 t.bd),.p .aF,.sl 5 m 3 0 (m+1)]),.hole,.hole,.arr .grow m 3 ((t.au.take (m+1)).map (AV.p∘aV))]⟩) (fun i=>i<=t.au.length) (fun i=>t.au.length-i) 0 (by simp) ?_ (hh:=by simp[k])
  rintro i r
  by_cases hi:i<t.au.length
  ·have a:=aC.fg hi;rcases i with _|q
   ·have b:=jn a;simp[hi,a,o,ad];exact⟨by omega,rd 1 hi (hh:=by simp[b]) (hr2:=by simp[dZ])⟩
   ·have h:a7.wrap ((q:Int)+1+1)=(q:Int)+1+1:=aI _ (by omega) (by omega);have hI:(q:Int)+1<t.au.length:=by omega
    have b:=jm (f:=AV.p∘aV) a;simp[hi,hI,a,h,ad];exact⟨by omega,⟨by omega,by omega⟩,rd (q+2) hi (hh:=by simp at b;simp[b]) (hr2:=by simp[dZ])⟩
  have d:i=t.au.length:=by omega
  rcases i with _|c
  ·have e:t.au=[]:=bl.1 d.symm;simp[e,ad]
   skip
   simp[bU,k,e]
   skip
  ·have hI:¬((c:Int)+1<t.au.length):=by omega
   have g:t.au.take (c+1)=t.au:=by rw[d,b3]
   simp[hI,g,ad]
   skip
   have n:(t.au.map (AV.p∘aV)).take (c+1)=t.au.map (AV.p∘aV):=be (by simp;omega);simp[bU,k,n];omega
 ·have hI:¬((j:Int)+1<t.aO.length):=by omega
  have g:t.aO.take (j+1)=t.aO:=by rw[s,b3]
  simp[hI,g,ad];refine lp (α:=Nat) (fun i=>match i with
   |0=>⟨[(30,.p (.int .i64 0)),(29,.p (.int .i64 t.au.length)),(28,.p (.seq (t.au.map aV))),(3,.ptr 2 []),(2,.ptr 1 [])],[.box false (.p (.st 37 [.seq (t.cs.map aX),.int .i64 t.bd,.seq (t.aO.map bQ),.seq (t.au.map aV)])),.box false (.p (.st 25 [.aF,.int .i64 0,.aF,.aF])),.box false (.st 25 [.p (.seq (t.cs.map aX)),.p (.int .i64 t.bd),.sl 5 j 4 0 (j+1),.p .aF]),.hole,.hole,.arr .grow j 4 (t.aO.map (AV.p∘bQ))]⟩
   |m+1=>⟨[(30,.p (.int .i64 ((m+1:Nat):Int))),(29,.p (.int .i64 t.au.length)),(28,.p (.seq (t.au.map aV))),(3,.ptr 2 []),(2,.ptr 1 [])],[.box false (.p (.st 37 [.seq (t.cs.map aX),.int .i64 t.bd,.seq (t.aO.map bQ),.seq (t.au.map aV)])),.box false (.p (.st 25 [.aF,.int .i64 0,.aF,.aF])),.box false (.st 25 [.p (.seq (t.cs.map aX)),.p (.int .i64 t.bd),.sl 5 j 4 0 (j+1),.sl 8 m 3 0 (m+1)]),.hole,.hole,.arr .grow j 4 (t.aO.map (AV.p∘bQ)),.hole,.hole,.arr .grow m 3 ((t.au.take (m+1)).map (AV.p∘aV))]⟩) (fun i=>i<=t.au.length) (fun i=>t.au.length-i) 0 (by simp) ?_
  rintro i r
  by_cases hi:i<t.au.length
  ·have a:=aC.fg hi;rcases i with _|q
   ·have b:=jn a;simp[hi,a,o,ad];exact⟨by omega,rd 1 hi (hh:=by simp[b]) (hr2:=by simp[dZ])⟩
   ·have h:a7.wrap ((q:Int)+1+1)=(q:Int)+1+1:=aI _ (by omega) (by omega);have hI:(q:Int)+1<t.au.length:=by omega
    have b:=jm (f:=AV.p∘aV) a;simp[hi,hI,a,h,ad];exact⟨by omega,⟨by omega,by omega⟩,rd (q+2) hi (hh:=by simp at b;simp[b]) (hr2:=by simp[dZ])⟩
  have d:i=t.au.length:=by omega
  rcases i with _|c
  ·have e:t.au=[]:=bl.1 d.symm;simp[e,ad];have l:(t.aO.map (AV.p∘bQ)).take (j+1)=t.aO.map (AV.p∘bQ):=be (by simp;omega);simp[bU,l,e];omega
  ·have hI:¬((c:Int)+1<t.au.length):=by omega
   have g:t.au.take (c+1)=t.au:=by rw[d,b3]
   simp[hI,g,ad];have l:(t.aO.map (AV.p∘bQ)).take (j+1)=t.aO.map (AV.p∘bQ):=be (by simp;omega);have n:(t.au.map (AV.p∘aV)).take (c+1)=t.au.map (AV.p∘aV):=be (by simp;omega);simp[bU,l,n];omega
@[simp] theorem aGb:mA prog 110=true:=by kernel_rfl
@[simp] theorem aGg:mA prog 49=true:=by kernel_rfl
@[simp] theorem aF9:mA prog 75=true:=by kernel_rfl
@[simp] theorem aGc:mA prog 61=true:=by kernel_rfl
theorem aCK:prog.stoodInHeld 110=false:=by kernel_rfl
theorem aCP:prog.stoodInHeld 49=false:=by kernel_rfl
theorem aCG:prog.stoodInHeld 75=false:=by kernel_rfl
theorem aCO:prog.stoodInHeld 61=false:=by kernel_rfl
@[simp] theorem aGn{a b:Int}:eZ prog 9 61 (.st 60 [.int .i64 a,.int .i64 b]) (.st 60 [.int .i64 a,.int .i64 b])=some true:=by
 have c:=underlying61;simp[eZ,c,aCO,gL,aL]
@[simp] theorem aGm{a c d:List Nat}{b:Int}:eZ prog 9 110 (.st 109 [.str a,.int .i64 b,.str c,.str d]) (.st 109 [.str a,.int .i64 b,.str c,.str d])=some true:=by
 have e:=underlying110;simp[eZ,e,aCK,gL,aL]
theorem NJ{a b:List Nat}:eZ prog 8 47 (.st 46 [.str a,.str b]) (.st 46 [.str a,.str b])=some true:=by
 have c:=underlying47;simp[eZ,c,U7,gL,aL]
theorem NK{a:List Nat}:eZ prog 8 9 (.str a) (.str a)=some true:=by
 simp[eZ]
@[simp] theorem aGo{a b c:List Nat}:eZ prog 9 49 (.st 48 [.str a,.st 46 [.str b,.str c]]) (.st 48 [.str a,.st 46 [.str b,.str c]])=some true:=by
 have d:=underlying49;rw[eZ.eq_def];simp[d,aCP,gL,aL,NJ,NK]
@[simp] theorem aGh{a b c:List Nat}:eZ prog 9 75 (.st 48 [.str a,.st 46 [.str b,.str c]]) (.st 48 [.str a,.st 46 [.str b,.str c]])=some true:=by
 have d:=underlying75;rw[eZ.eq_def];simp[d,aCG,gL,aL,NJ,NK]
theorem wD(l:List ct)(f:l.length<=1000000):az prog 50 [.seq (l.map aV),.seq (l.map aV)] (.bool true):=by
 refine aM nf Oq mix (by simp[f50]) ?_;simp[f50,ad];refine lp (α:=Nat) (fun i=>⟨[(5,.p (.int .i64 i)),(1,.p (.seq (l.map aV))),(0,.p (.seq (l.map aV)))],[]⟩) (fun i=>i<=l.length) (fun i=>l.length-i) 0 (by simp) ?_;rintro i i1
 by_cases hi:i<l.length
 ·obtain⟨x,d⟩:∃x,l[i]?=some x:=⟨_,bk hi⟩
  have hx:l[i]=x:=by rw[bk hi]at d;injection d
  have e:=bY (i:=i) (by omega);obtain⟨a,b,c⟩:=x;simp[hi,d,hx,e,ad,aV,fe];exact rd (i+1) hi
 ·have:i=l.length:=by omega
  subst this;simp[ad]
theorem Ab(t:aC)(g:t.cs.length<=1000000)(h:t.aO.length<=1000000)(j:t.au.length<=1000000):az prog 48 [bU t,bU t] (.bool true):=by
 refine aM nf On mix (by simp[f48]) ?_;simp[f48,ad];refine lp (α:=Nat) (fun i=>⟨[(5,.p (.int .i64 i)),(3,.ptr 1 []),(2,.ptr 0 [])],[.box false (.p (bU t)),.box false (.p (bU t))]⟩) (fun i=>i<=t.cs.length) (fun i=>t.cs.length-i) 0 (by simp) ?_;rintro i i1
 by_cases hi:i<t.cs.length
 ·have e:=aC.get hi;have f:=bY (i:=i) (by omega);generalize t.at i=x at*;obtain⟨a,b⟩:=x;simp[hi,e,f,ad,aX];exact rd (i+1) hi
 obtain rfl:i=t.cs.length:=by omega
 simp[ad];refine lp (α:=Nat) (fun i=>⟨[(6,.p (.int .i64 i)),(3,.ptr 1 []),(2,.ptr 0 [])],[.box false (.p (bU t)),.box false (.p (bU t))]⟩) (fun i=>i<=t.aO.length) (fun i=>t.aO.length-i) 0 (by simp) ?_;rintro i i1
 by_cases hi:i<t.aO.length
 ·have e:=aC.jj hi;have f:=bY (i:=i) (by omega);generalize t.pk i=x at*;obtain⟨a,b,c,d⟩:=x;simp[hi,e,f,ad,bQ];exact rd (i+1) hi
 obtain rfl:i=t.aO.length:=by omega
 simp[ad];refine lp (α:=Nat) (fun i=>⟨[(7,.p (.int .i64 i)),(3,.ptr 1 []),(2,.ptr 0 [])],[.box false (.p (bU t)),.box false (.p (bU t))]⟩) (fun i=>i<=t.au.length) (fun i=>t.au.length-i) 0 (by simp) ?_;rintro i i1
 by_cases hi:i<t.au.length
 ·have e:=aC.fg hi;have f:=bY (i:=i) (by omega);generalize t.sp i=x at*;obtain⟨a,b,c⟩:=x;simp[hi,e,f,ad,aV,fe];exact rd (i+1) hi
 obtain rfl:i=t.au.length:=by omega
 simp[ad]
theorem Gf(m:bH)(p:gq)(hc:dw p=0)(a:bN 133 (vP p))(b:bW m.df):az prog 58 [cH m,fe p] (fe (lM (m.pl (vP p)))):=by
 have:=Q5 m (vP p) (a.mono (by decide)) b;rw[(tN hc).1,C6]at this;exact this
theorem Q1(m:bH)(l:List ct)(j:l.length<=1000000)(h:bW m.df)(b:∀s∈l,dw s.pt=0/\bN 133 (vP s.pt)):az prog 47 [.seq (l.map aV),cH m] (.seq ((l.map m.sp).map aV)):=by
 have k:(1000000:Nat)<cC:=by decide
 have o:a7.wrap 1=1:=by decide
 refine aM nf Om mix (by simp[f47]) ?_;simp[f47,ad];refine lp (α:=Nat) (fun i=>⟨[(6,.p (.int .i64 i)),(5,.sl 1 i 3 0 i),(3,.ptr 0 []),(0,.p (.seq (l.map aV)))],[.box false (.p (cH m)),.arr .grow i 3 (((l.map m.sp).map (AV.p∘aV)).take i)]⟩) (fun i=>i<=l.length) (fun i=>l.length-i) 0 (by simp) ?_;rintro i i1
 by_cases hi:i<l.length
 ·obtain⟨x,a⟩:∃x,l[i]?=some x:=⟨_,bk hi⟩
  have hx:l[i]=x:=by rw[bk hi]at a;injection a
  have c:=Gf m x.pt (b x (bi a)).1 (b x (bi a)).2 h;have g:=bY (i:=i) (by omega);have d:aV (m.sp x)=.st 48 [.str x.name,fe (lM (m.pl (vP x.pt)))]:=rfl;have f:(l.map ((AV.p∘aV)∘m.sp)).take (i+1)=(l.map ((AV.p∘aV)∘m.sp)).take i++[.p (.st 48 [.str x.name,fe (lM (m.pl (vP x.pt)))])]:=by
   rw[b0,bo,a,<-d];rfl
  have e:min i l.length=i:=by omega
  generalize lM (m.pl (vP x.pt))=Y at*;obtain⟨n,pt⟩:=x;simp[hi,a,hx,ad];refine Go.al.e2 c ?_;simp[g,e,ad];refine⟨by omega,by rfl,?_⟩;exact rd (i+1) hi (hh:=by simp[f]) (hr2:=by simp[tQ])
 ·have:i=l.length:=by omega
  subst this;simp[ad]
theorem Q0(t:aC)(m:bH)(L:kt t)(T:dU t=0)(ap:gZ t m=0)(hs:jl t=true):az prog 46 [bU t,cH m] (bU (jw m t)):=by
 have aJ:(1000000:Nat)<cC:=by decide
 have x:a7.wrap 1=1:=by decide
 obtain⟨aN,aO,av,_⟩:=re T;obtain⟨ah,_⟩:=wE ap;have ar:=ES hs;have ab:=Pg L T hs;have ac:∀s∈t.au,dw s.pt=0:=fun s h=>by
  obtain⟨i,hi,rfl⟩:=b5.1 h;have:=EY T hi
  rwa [show t.au[i]=t.sp i by simp]
 have aa:∀s∈t.au,az prog 58 [cH m,fe s.pt] (fe (lM (m.pl (vP s.pt)))):=fun s h=>Gf m s.pt (ac s h) (ar s h (ac s h)) ah;have aq:∀p∈t.aO,az prog 111 [.str [49],.str p.a] (.str (bC (1-aY p.a)))/\az prog 111 [.str [49],.str p.b] (.str (bC (1-aY p.b))):=fun p h=>by
  obtain⟨_,_,ca,am,_,_,aA,aB⟩:=ab p h;have ai:bL 1 (1:Rat):=⟨by decide,by decide⟩
  have ak:bC 1=[49]:=by decide+kernel
  have k1:=sJ 1 (aY p.a) (ai.mono (by decide)) (aA.mono (by decide));have k2:=sJ 1 (aY p.b) (ai.mono (by decide)) (aB.mono (by decide));rw[ak,(iR ca).1]at k1;rw[ak,(iR am).1]at k2;exact⟨k1,k2⟩
 have X:∀i,i<t.cs.length->m.src t.cs.length i<t.cs.length/\az prog 128 [cH m,aX (t.at (m.src t.cs.length i))] (aX (m.pt (t.at (m.src t.cs.length i)))):=fun i hi=>by
  have ag:m.src t.cs.length i<t.cs.length:=by
   rw[bH.src];split
   ·split<;>omega
   ·exact hi
  exact⟨ag,Ge m _ (av _ (bi (aC.get ag))) ah⟩
 have aH:=L.cl;have aK:=L.pl;have aL:=L.sl;obtain⟨n,w⟩:∃n,n=t.cs.length:=⟨_,rfl⟩
 obtain⟨C,P⟩:∃C,C=m.cs t:=⟨_,rfl⟩
 obtain⟨K,R⟩:∃K,K=m.aO t:=⟨_,rfl⟩
 obtain⟨S,v⟩:∃S,S=t.au.map m.sp:=⟨_,rfl⟩
 have I:bU (jw m t)=.st 25 [.seq (C.map aX),.int .i64 t.bd,.seq (K.map bQ),.seq (S.map aV)]:=by rw[P,R,v];rfl
 have H:C.length=n:=by rw[P,bH.cs,w];simp
 have ae:S.length=t.au.length:=by rw[v,cb]
 have J:K.length=t.aO.length:=by rw[R,bH.aO];split<;>simp
 have ao:∀i,i<n->C[i]?=some (m.pt (t.at (m.src n i))):=fun i hi=>by
  rw[P,bH.cs,<-w,bo,cc hi];rfl
 rw[<-w]at X;refine aM nf Ol mix (by simp[f46]) ?_;simp[f46,ad];rw[<-w];refine lp (α:=Nat) (fun i=>match i with
  |0=>⟨[(7,.p (.int .i64 0)),(6,.ptr 3 []),(5,.p (.int .i64 n)),(4,.ptr 2 []),(3,.ptr 1 []),(2,.ptr 0 [])],[.box false (.p (bU t)),.box false (.p (cH m)),.box false (.p (.st 25 [.aF,.int .i64 0,.aF,.aF])),.box false (.p (.st 25 [.aF,.int .i64 t.bd,.aF,.aF]))]⟩
  |c+1=>⟨[(7,.p (.int .i64 ((c+1:Nat):Int))),(6,.ptr 3 []),(5,.p (.int .i64 n)),(4,.ptr 2 []),(3,.ptr 1 []),(2,.ptr 0 [])],[.box false (.p (bU t)),.box false (.p (cH m)),.box false (.p (.st 25 [.aF,.int .i64 0,.aF,.aF])),.box false (.st 25 [.sl 5 c 2 0 (c+1),.p (.int .i64 t.bd),.p .aF,.p .aF]),.hole,.arr .grow c 2 ((C.take (c+1)).map (AV.p∘aX))]⟩) (fun i=>i<=n) (fun i=>n-i) 0 (by simp) ?_
 rintro i G
 by_cases hi:i<n
 ·obtain⟨s1,k⟩:=X i hi;have e:=aC.get (t:=t) (i:=m.src n i) (by rw[<-w];exact s1);have ci:=ao i hi;have A:m.src n i=if m.gW=true then(if i=0 then 0 else n-i)else i:=rfl
  have wr:a7.wrap ((n:Int)-i)=(n:Int)-i:=aI _ (by omega) (by omega);have E:m.gW=true->((n:Int)-i).tmod n=(m.src n i:Int):=fun au=>by
   rw[A,if_pos au]
   split
   ·rename_i an;rw[an];simp
   ·rw[Int.tmod_eq_emod_of_nonneg (by omega),Int.emod_eq_of_lt (by omega) (by omega)];omega
  generalize m.src n i=aj at*;generalize m.pt (t.at aj)=Y at*;rcases i with _|q
  ·have ax:aj=0:=by rw[A];split<;>simp
   subst ax;have d:=jn ci;have l:True:=trivial;have aF:a7.wrap (n:Int)=n:=aI _ (by omega) (by omega);clear E wr A;rcases g:m.gW with _|_
   ·skip
    simp[hi,e,g,ad];refine Go.al.e2 k ?_;simp[x,l,H,ad];refine⟨by omega,⟨by rfl,by rfl⟩,?_⟩;exact rd 1 hi (hh:=by simp[d]) (hr2:=by simp[dZ])
   ·skip
    simp[hi,e,g,aF,ad];refine⟨by omega,?_⟩;refine Go.al.e2 k ?_;simp[x,l,H,ad];refine⟨by omega,⟨by rfl,by rfl⟩,?_⟩;exact rd 1 hi (hh:=by simp[d]) (hr2:=by simp[dZ])
  ·have r:a7.wrap ((q:Int)+1+1)=(q:Int)+1+1:=aI _ (by omega) (by omega);have hI:(q:Int)+1<n:=by omega
   have d:=jm (f:=AV.p∘aX) ci;have l:min (q+1) n=q+1:=by omega
   rcases g:m.gW with _|_
   ·skip
    rw[if_neg (by rw[g];simp)]at A;subst A;simp[hI,hi,e,g,ad];refine⟨by omega,?_⟩;refine Go.al.e2 k ?_;simp[r,l,H,ad];refine⟨by omega,⟨by rfl,by rfl⟩,?_⟩;exact rd (q+2) hi (hh:=by simp at d;simp[d]) (hr2:=by simp[dZ])
   ·have E:=E g;simp at E wr;simp[hI,hi,e,g,wr,E,ad];refine⟨by omega,?_⟩;refine Go.al.e2 k ?_;simp[r,l,H,ad];refine⟨by omega,⟨by rfl,by rfl⟩,?_⟩;exact rd (q+2) hi (hh:=by simp at d;simp[d]) (hr2:=by simp[dZ])
 have af:i=n:=by omega
 obtain⟨c,rfl⟩:∃c,i=c+1:=⟨i-1,by omega⟩
 have Z:¬((c:Int)+1<n):=by omega
 have ay:C.take (c+1)=C:=be (by omega);have F:(C.map (AV.p∘aX)).take (c+1)=C.map (AV.p∘aX):=be (by simp;omega);simp[Z,ay,ad];clear G Z;refine lp (α:=Nat) (fun i=>match i with
  |0=>⟨[(9,.p (.int .i64 0)),(6,.ptr 3 []),(5,.p (.int .i64 n)),(4,.ptr 2 []),(3,.ptr 1 []),(2,.ptr 0 [])],[.box false (.p (bU t)),.box false (.p (cH m)),.box false (.p (.st 25 [.aF,.int .i64 0,.aF,.aF])),.box false (.st 25 [.sl 5 c 2 0 (c+1),.p (.int .i64 t.bd),.p .aF,.p .aF]),.hole,.arr .grow c 2 (C.map (AV.p∘aX))]⟩
  |q+1=>⟨[(9,.p (.int .i64 ((q+1:Nat):Int))),(6,.ptr 3 []),(5,.p (.int .i64 n)),(4,.ptr 2 []),(3,.ptr 1 []),(2,.ptr 0 [])],[.box false (.p (bU t)),.box false (.p (cH m)),.box false (.p (.st 25 [.aF,.int .i64 0,.aF,.aF])),.box false (.st 25 [.sl 5 c 2 0 (c+1),.p (.int .i64 t.bd),.sl 8 q 4 0 (q+1),.p .aF]),.hole,.arr .grow c 2 (C.map (AV.p∘aX)),.hole,.hole,.arr .grow q 4 ((K.take (q+1)).map (AV.p∘bQ))]⟩) (fun i=>i<=t.aO.length) (fun i=>t.aO.length-i) 0 (by simp) ?_
 rintro i G
 by_cases hi:i<t.aO.length
 ·have e:=aC.jj hi;have W:=bi e;obtain⟨k,a2⟩:=aq _ W;obtain⟨g1,g2,_⟩:=ab _ W;have o:K[i]?=some (if m.gW=true then kJ n (t.pk i)else t.pk i):=by
   rw[R,bH.aO,<-w]
   split
   ·rw[bo,e];rfl
   ·exact e
  have al:a7.wrap ((n:Int)-1)=(n:Int)-1:=aI _ (by omega) (by omega);have M:a7.wrap ((n:Int)-1-(t.pk i).dB)=(n:Int)-1-(t.pk i).dB:=aI _ (by omega) (by omega);simp only[kJ]at o;rcases z:t.pk i with⟨aP,aG,aD,aE⟩
  rw[z]at k a2 o M e;simp only at k a2 o M;generalize bC (1-aY aD)=aQ at*;generalize bC (1-aY aE)=aR at*;clear W g1 g2;rcases i with _|q
  ·have l:True:=trivial;rcases g:m.gW with _|_
   ·rw[if_neg (by rw[g];simp)]at o;have d:=jn o;simp[hi,e,z,g,ad,bQ,x,l,J];exact⟨by omega,rd 1 hi (hh:=by simp[d,bQ]) (hr2:=by simp[dZ])⟩
   ·rw[if_pos g]at o;have d:=jn o;simp[hi,e,z,g,ad,bQ,al,M];refine Go.al.e2 a2 ?_;simp[ad];refine Go.al.e2 k ?_;simp[x,l,J,ad];refine⟨by repeat' first|rfl|apply aT,?_⟩;refine⟨by omega,?_⟩;exact rd 1 hi (hh:=by simp[d,bQ]) (hr2:=by simp[dZ])
  ·have r:a7.wrap ((q:Int)+1+1)=(q:Int)+1+1:=aI _ (by omega) (by omega);have hI:(q:Int)+1<t.aO.length:=by omega
   have l:min (q+1) t.aO.length=q+1:=by omega
   rcases g:m.gW with _|_
   ·rw[if_neg (by rw[g];simp)]at o;have d:=jm (f:=AV.p∘bQ) o;simp[hI,hi,e,z,g,ad,bQ,r,l,J];exact⟨by omega,by omega,rd (q+2) hi (hh:=by simp at d;simp[d,bQ]) (hr2:=by simp[dZ])⟩
   ·rw[if_pos g]at o;have d:=jm (f:=AV.p∘bQ) o;simp[hI,hi,e,z,g,ad,bQ,al,M];refine⟨by omega,?_⟩;refine Go.al.e2 a2 ?_;simp[ad];refine Go.al.e2 k ?_;simp[r,l,J,ad];refine⟨by repeat' first|rfl|apply aT,?_⟩;refine⟨by omega,?_⟩;exact rd (q+2) hi (hh:=by simp at d;simp[d,bQ]) (hr2:=by simp[dZ])
 have af:i=t.aO.length:=by omega
 rcases i with _|j
 ·have aw:t.aO=[]:=bl.1 af.symm;have Q:K=[]:=bl.1 (by omega);simp[aw,ad];refine lp (α:=Nat) (fun i=>match i with
    |0=>⟨[(11,.p (.int .i64 0)),(6,.ptr 3 []),(4,.ptr 2 []),(3,.ptr 1 []),(2,.ptr 0 [])],[.box false (.p (bU t)),.box false (.p (cH m)),.box false (.p (.st 25 [.aF,.int .i64 0,.aF,.aF])),.box false (.st 25 [.sl 5 c 2 0 (c+1),.p (.int .i64 t.bd),.p .aF,.p .aF]),.hole,.arr .grow c 2 (C.map (AV.p∘aX))]⟩
    |q+1=>⟨[(11,.p (.int .i64 ((q+1:Nat):Int))),(6,.ptr 3 []),(4,.ptr 2 []),(3,.ptr 1 []),(2,.ptr 0 [])],[.box false (.p (bU t)),.box false (.p (cH m)),.box false (.p (.st 25 [.aF,.int .i64 0,.aF,.aF])),.box false (.st 25 [.sl 5 c 2 0 (c+1),.p (.int .i64 t.bd),.p .aF,.sl 7 q 3 0 (q+1)]),.hole,.arr .grow c 2 (C.map (AV.p∘aX)),.hole,.arr .grow q 3 ((S.take (q+1)).map (AV.p∘aV))]⟩) (fun i=>i<=t.au.length) (fun i=>t.au.length-i) 0 (by simp) ?_ (hh:=by simp[Q])
  rintro i G
  by_cases hi:i<t.au.length
  ·have e:=aC.fg hi;have k:=aa _ (bi e);have sE:(.st 48 [.str (t.sp i).name,fe (lM (m.pl (vP (t.sp i).pt)))]:PV)=aV (m.sp (t.sp i)):=rfl;have D:S[i]?=some (m.sp (t.sp i)):=by rw[v,bo,e];rfl
   rcases i with _|q
   ·have d:=jn D;simp[hi,e,ad];refine Go.al.e2 k ?_;simp[x,ad];refine⟨by omega,by repeat' first|rfl|apply aT,?_⟩;exact rd 1 hi (hh:=by simp[d,sE]) (hr2:=by simp[dZ])
   ·have r:a7.wrap ((q:Int)+1+1)=(q:Int)+1+1:=aI _ (by omega) (by omega);have hI:(q:Int)+1<t.au.length:=by omega
    have d:=jm (f:=AV.p∘aV) D;have l:min (q+1) t.au.length=q+1:=by omega
    simp[hi,hI,e,ad];refine⟨by omega,?_⟩;refine Go.al.e2 k ?_;simp[r,ad,ae,l];refine⟨by omega,by repeat' first|rfl|apply aT,?_⟩;exact rd (q+2) hi (hh:=by simp at d;simp[d,sE]) (hr2:=by simp[dZ])
  have V:i=t.au.length:=by omega
  rcases i with _|u
  ·have y:t.au=[]:=bl.1 V.symm;have U:S=[]:=by rw[v,y];rfl
   simp[y,ad];rw[I,U]
   skip
   simp[Q,F]
   all_goals omega
  ·have hI:¬((u:Int)+1<t.au.length):=by omega
   have B:S.take (u+1)=S:=be (by omega);simp[hI,B,ad];rw[I]
   skip
   have O:(S.map (AV.p∘aV)).take (u+1)=S.map (AV.p∘aV):=be (by simp;omega);simp[Q,F,O]
   all_goals omega
 ·have hI:¬((j:Int)+1<t.aO.length):=by omega
  have B:K.take (j+1)=K:=be (by omega);simp[hI,B,ad];refine lp (α:=Nat) (fun i=>match i with
   |0=>⟨[(11,.p (.int .i64 0)),(6,.ptr 3 []),(4,.ptr 2 []),(3,.ptr 1 []),(2,.ptr 0 [])],[.box false (.p (bU t)),.box false (.p (cH m)),.box false (.p (.st 25 [.aF,.int .i64 0,.aF,.aF])),.box false (.st 25 [.sl 5 c 2 0 (c+1),.p (.int .i64 t.bd),.sl 8 j 4 0 (j+1),.p .aF]),.hole,.arr .grow c 2 (C.map (AV.p∘aX)),.hole,.hole,.arr .grow j 4 (K.map (AV.p∘bQ))]⟩
   |q+1=>⟨[(11,.p (.int .i64 ((q+1:Nat):Int))),(6,.ptr 3 []),(4,.ptr 2 []),(3,.ptr 1 []),(2,.ptr 0 [])],[.box false (.p (bU t)),.box false (.p (cH m)),.box false (.p (.st 25 [.aF,.int .i64 0,.aF,.aF])),.box false (.st 25 [.sl 5 c 2 0 (c+1),.p (.int .i64 t.bd),.sl 8 j 4 0 (j+1),.sl 10 q 3 0 (q+1)]),.hole,.arr .grow c 2 (C.map (AV.p∘aX)),.hole,.hole,.arr .grow j 4 (K.map (AV.p∘bQ)),.hole,.arr .grow q 3 ((S.take (q+1)).map (AV.p∘aV))]⟩) (fun i=>i<=t.au.length) (fun i=>t.au.length-i) 0 (by simp) ?_
  rintro i G
  by_cases hi:i<t.au.length
  ·have e:=aC.fg hi;have k:=aa _ (bi e);have sE:(.st 48 [.str (t.sp i).name,fe (lM (m.pl (vP (t.sp i).pt)))]:PV)=aV (m.sp (t.sp i)):=rfl;have D:S[i]?=some (m.sp (t.sp i)):=by rw[v,bo,e];rfl
   rcases i with _|q
   ·have d:=jn D;simp[hi,e,ad];refine Go.al.e2 k ?_;simp[x,ad];refine⟨by omega,by repeat' first|rfl|apply aT,?_⟩;exact rd 1 hi (hh:=by simp[d,sE]) (hr2:=by simp[dZ])
   ·have r:a7.wrap ((q:Int)+1+1)=(q:Int)+1+1:=aI _ (by omega) (by omega);have hI:(q:Int)+1<t.au.length:=by omega
    have d:=jm (f:=AV.p∘aV) D;have l:min (q+1) t.au.length=q+1:=by omega
    simp[hi,hI,e,ad];refine⟨by omega,?_⟩;refine Go.al.e2 k ?_;simp[r,ad,ae,l];refine⟨by omega,by repeat' first|rfl|apply aT,?_⟩;exact rd (q+2) hi (hh:=by simp at d;simp[d,sE]) (hr2:=by simp[dZ])
  have V:i=t.au.length:=by omega
  rcases i with _|u
  ·have y:t.au=[]:=bl.1 V.symm;have U:S=[]:=by rw[v,y];rfl
   simp[y,ad];rw[I,U];have N:(K.map (AV.p∘bQ)).take (j+1)=K.map (AV.p∘bQ):=be (by simp;omega);simp[N,F]
   all_goals omega
  ·have hI:¬((u:Int)+1<t.au.length):=by omega
   have B:S.take (u+1)=S:=be (by omega);simp[hI,B,ad];rw[I];have N:(K.map (AV.p∘bQ)).take (j+1)=K.map (AV.p∘bQ):=be (by simp;omega);have O:(S.map (AV.p∘aV)).take (u+1)=S.map (AV.p∘aV):=be (by simp;omega);simp[N,F,O]
   all_goals omega
def aC.vc(t:aC)(j:Nat):V2:=(il (t.at j)).sub (il (t.at 0))
def aC.lf(t:aC)(u:V2)(i j:Nat):Rat:=(t.vc j).gP u-(t.vc i).gP u+(t.vc i).gP (t.vc j)
theorem wv(b:aC)(f:b.au.length<=1000000):az prog 33 [.seq (b.au.map aV)] (.seq (b.au.map aV)):=by
 have g:(1000000:Nat)<cC:=by decide
 have h:a7.wrap 1=1:=by decide
 refine aM nf Od mix (by simp[f33]) ?_;simp[f33,ad];refine lp (α:=Nat) (fun i=>⟨[(8,.p (.int .i64 i)),(7,.p (.int .i64 b.au.length)),(6,.p (.seq (b.au.map aV))),(3,.sl 0 i 3 0 i)],[.arr .grow i 3 ((b.au.map (AV.p∘aV)).take i)]⟩) (fun i=>i<=b.au.length) (fun i=>b.au.length-i) 0 (by simp) ?_;rintro i i1
 by_cases hi:i<b.au.length
 ·have a:=aC.fg hi;have e:=bY (i:=i) (by omega);have d:(b.au.map (AV.p∘aV)).take (i+1)=(b.au.map (AV.p∘aV)).take i++[.p (aV (b.sp i))]:=by
   rw[b0,bo,a];rfl
  have c:min i b.au.length=i:=by omega
  simp[hi,a,e,c,ad];exact⟨by omega,rd (i+1) hi (hh:=by simp[d]) (hr2:=by simp[dZ])⟩
 ·have:i=b.au.length:=by omega
  subst this;simp[ad]
end Go.al
