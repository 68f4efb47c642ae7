import Derived.Test.YthmfmhbicipdmaaGreatDoorPL
import Derived.Test.YthmfmhbicipdmaaGreatDoorPK
/- Parts of a proof. -/
set_option linter.unusedSimpArgs false
set_option linter.unusedVariables false
set_option linter.unusedSectionVars false
open Go.Proofs.Tryz
open And renaming intro->ab
open Bool renaming cond_eq_ite->ac, true_and->am
open Go renaming FuncId->ao
open Go.IntKind renaming i64->av
open List renaming take_length->ax, mem_of_getElem?->ay, take_of_length_le->aT, length_eq_zero_iff->a0, take_add_one->a1, mem_iff_getElem->a4, drop_eq_getElem_cons->a5, map_cons->a6, find?_eq_none->a7, findIdx?_eq_some_iff_getElem->a8, findIdx?_eq_none_iff->a9, zip_cons_cons->bb, zip_nil_left->be, length_take->bf, any_eq_true->bi, find?_cons->bl, map_take->bo, mem_map->bv, map_nil->bw
open Nat renaming eq_of_beq_eq_true->b0, beq->b1
open Rat renaming intCast_sub->b2, mul_eq_zero->b3, intCast_mul->b4, mul_assoc->b5, div_def->cb
namespace Go.ak
open Go.Proofs
set_option maxHeartbeats 4000000
set_option maxRecDepth 100000
theorem TC(x o:Int):lJ x 0 o=x:=by
 rw[lJ]
 by_cases h:x=0
 ·simp[h]
 ·simp;omega
theorem FR{s:S3}(c:s.b=0):gv s=bX s.a:=by
 rw[gv,c,show bX (0:Rat)=0 from rfl,Int.zero_mul,TC]
theorem Gc{a b:Rat}:dA a b<0↔a<b:=by
 rw[dA];constructor
 ·intro h
  split at h
  ·assumption
  ·split at h<;>omega
 ·intro h;rw[if_pos h];decide
theorem BU{a:Rat}:bX a<=0↔a<=0:=by
 rw[bX]
 split
 ·grind
 ·split<;>grind
theorem tE(t:aw)(d:cw)(i:Nat):((cF d).bL (t.cB i)).neg.q=⟨t.dP (vP d) i,0,0⟩:=by
 have c:((cF d).bL (t.cB i)).neg.a.q=t.dP (vP d) i:=by
  show -((t.cB i).bL (NV.from d)).q=_;rw[NV.nr,aw.BT,iI,aw.dP,V2.bL,V2.bL]
  grind
 have e:((cF d).bL (t.cB i)).neg.b.q=0:=by
  show -((t.cB i).bL ⟨.int 0,.int 0⟩).q=0;rw[NV.nr];show -((t.cB i).q.x*0-(t.cB i).q.y*0)=0
  grind
 rw[NS.q,c,e];rfl
theorem Gj(t:aw)(d:cw)(i:Nat):t.pos (cF d) i=decide (0<t.dP (vP d) i):=by
 rw[aw.pos,tE,FR rfl];dsimp only;have:=BU (a:=t.dP (vP d) i)
 by_cases h:0<t.dP (vP d) i
 ·have b:¬bX (t.dP (vP d) i)<=0:=fun e=>by have:=this.1 e;grind
  rw[decide_eq_true h,decide_eq_true (by omega)]
 ·have b:bX (t.dP (vP d) i)<=0:=this.2 (by grind);rw[decide_eq_false h,decide_eq_false (by omega)]
theorem QT(t:aw)(p:cw)(n:NB)(i:Nat):(t.dU (.from p) n i).g.q=(t.gF i).bL ((vP p).sub (fk (t.at i))):=by
 show((t.cB i).bL ((NV.from p).sub (cZ (t.at i)))).q=_;rw[NV.nr,NV.fu,aw.BT];rfl
theorem BX(t:aw)(p d:cw)(i:Nat):(t.dU (.from p) (cF d) i).s.norm.q=t.dP (vP d) i*t.dP (vP d) i:=by
 have h:=tE t d i;show(((((cF d).bL (t.cB i)).neg.a).mul (((cF d).bL (t.cB i)).neg.a)).sub (((((cF d).bL (t.cB i)).neg.b).mul (((cF d).bL (t.cB i)).neg.b)).mul (((cF d).bL (t.cB i)).neg.d))).q=_;rw[NF.fu];show(((cF d).bL (t.cB i)).neg.q.a)*(((cF d).bL (t.cB i)).neg.q.a)-(((cF d).bL (t.cB i)).neg.q.b)*(((cF d).bL (t.cB i)).neg.q.b)*(((cF d).bL (t.cB i)).neg.q.d)=_;rw[h]
 grind
theorem aAd(t:aw)(p d:cw)(i:Nat)(h:t.dP (vP d) i≠0):((t.dU (.from p) (cF d) i).s.under (t.dU (.from p) (cF d) i).g).a.q=t.ic (vP p) (vP d) i:=by
 have c:=BX t p d i;have j:=QT t p (cF d) i;have hs:(t.dU (.from p) (cF d) i).s.a.q=t.dP (vP d) i:=congrArg S3.a (tE t d i);have f:¬(t.dU (.from p) (cF d) i).s.norm.q=0:=by
  rw[c];intro e;rcases b3.1 e with e|e<;>exact h e
 generalize t.dU (.from p) (cF d) i=x at*;rw[NS.under,if_neg f];show x.g.q*x.s.a.q/x.s.norm.q=_;rw[c,j,hs,aw.ic];generalize t.dP (vP d) i=a at*;generalize (t.gF i).bL ((vP p).sub (fk (t.at i)))=b at*
 grind
theorem axD(t:aw)(p d:cw){i j:Nat}(w:j<i)(hi:0<t.dP (vP d) i)(u:0<t.dP (vP d) j):uY (t.dU (.from p) (cF d) i) (t.dU (.from p) (cF d) j)<0↔t.ic (vP p) (vP d) i<t.ic (vP p) (vP d) j:=by
 have e:∀a b:Nat,((t.dU (.from p) (cF d) b).s.times (t.dU (.from p) (cF d) a).g).q=⟨t.dP (vP d) b*(t.gF a).bL ((vP p).sub (fk (t.at a))),0,0⟩:=by
  intro a b;have r:=QT t p (cF d) a;have hs:(t.dU (.from p) (cF d) b).s.q=⟨t.dP (vP d) b,0,0⟩:=tE t d b;generalize t.dU (.from p) (cF d) a=x at*;generalize t.dU (.from p) (cF d) b=y at*;rw[NS.q]at hs⊢;injection hs with c f o
  show(⟨y.s.a.q*x.g.q,y.s.b.q*x.g.q,y.s.d.q⟩:S3)=_;rw[c,f,o,r,Rat.zero_mul]
 have hc:(((t.dU (.from p) (cF d) j).s.times (t.dU (.from p) (cF d) i).g).add ((t.dU (.from p) (cF d) i).s.times (t.dU (.from p) (cF d) j).g).neg).q=⟨t.dP (vP d) j*(t.gF i).bL ((vP p).sub (fk (t.at i)))+-(t.dP (vP d) i*(t.gF j).bL ((vP p).sub (fk (t.at j)))),0,0⟩:=by
  have c:=e i j;have f:=e j i;generalize (t.dU (.from p) (cF d) j).s.times (t.dU (.from p) (cF d) i).g=x at*;generalize (t.dU (.from p) (cF d) i).s.times (t.dU (.from p) (cF d) j).g=y at*;rw[NS.q]at c f⊢;injection c with l a2 a3
  injection f with m n v
  show(⟨x.a.q+-y.a.q,x.b.q+-y.b.q,x.d.q⟩:S3)=_;rw[l,a2,a3,m,n,show(0:Rat)+-0=0 by grind]
 rw[uY,hc,FR rfl];dsimp only;rw[aw.ic,aw.ic];show(if bX _=0 then(i:Int)-(j:Int)else bX _)<0↔_;generalize t.dP (vP d) i=a at*;generalize t.dP (vP d) j=b at*;generalize (t.gF i).bL ((vP p).sub (fk (t.at i)))=g at*;generalize (t.gF j).bL ((vP p).sub (fk (t.at j)))=k at*;have key:b*g+-(a*k)<0↔g/a<k/b:=by
  rw[Rat.div_lt_iff hi,cb,b5,Rat.mul_comm b⁻¹ a,<-b5,<-cb,Rat.lt_div_iff u];constructor<;>intro h<;>grind
 rw[bX]
 by_cases c1:b*g+-(a*k)<0
 ·rw[if_pos c1];exact⟨fun _=>key.1 c1,fun _=>by rw[if_neg (by decide)];decide⟩
 ·rw[if_neg c1];have:¬g/a<k/b:=fun h=>c1 (key.2 h)
  by_cases c2:b*g+-(a*k)=0
  ·rw[if_pos c2,if_pos rfl];exact⟨fun h=>by omega,fun h=>(this h).elim⟩
  ·rw[if_neg c2,if_neg (by decide)];exact⟨fun h=>by omega,fun h=>(this h).elim⟩
theorem GL(t:aw)(p d:cw):∀m:Nat,match t.ib (.from p) (cF d) m with
  |[]=>t.fQ (vP p) (vP d) m=(-1,0)
  |m0::l=>∃j,j<m/\0<t.dP (vP d) j/\lF m0 l=t.dU (.from p) (cF d) j/\t.fQ (vP p) (vP d) m=((j:Int),t.ic (vP p) (vP d) j)
 |0=>rfl
 |m+1=>by
  have b:=GL t p d m;have hs:t.fQ (vP p) (vP d) (m+1)=if bX (t.dP (vP d) m)<=0 then t.fQ (vP p) (vP d) m else if(t.fQ (vP p) (vP d) m).1<0\/dA (t.ic (vP p) (vP d) m) (t.fQ (vP p) (vP d) m).2<0 then((m:Int),t.ic (vP p) (vP d) m)else t.fQ (vP p) (vP d) m:=rfl
  rw[aw.Gd,Gj,hs]
  by_cases a:0<t.dP (vP d) m
  ·rw[decide_eq_true a,if_pos rfl,if_neg (fun h=>by have:=BU.1 h;grind)];generalize n:t.ib (.from p) (cF d) m=L at*;cases L with
   |nil=>
    dsimp only at b;rw[b,if_pos (.inl (by decide))];exact⟨m,by omega,a,F1 _,rfl⟩
   |cons m0 l=>
    obtain⟨j,i,e,f,g⟩:=b;rw[List.cons_append];dsimp only;have k:lF m0 (l++[t.dU (.from p) (cF d) m])=xY (lF m0 l) (t.dU (.from p) (cF d) m):=by
     rw[lF,List.foldl_append];rfl
    have hc:=axD t p d i a e;rw[k,f,g,xY];dsimp only
    by_cases c:t.ic (vP p) (vP d) m<t.ic (vP p) (vP d) j
    ·rw[if_pos (hc.2 c),if_pos (.inr (Gc.2 c))];exact⟨m,by omega,a,rfl,rfl⟩
    ·rw[if_neg (fun h=>c (hc.1 h)),if_neg (fun h=>by
      rcases h with h|h
      ·omega
      ·exact c (Gc.1 h))]
     exact⟨j,by omega,e,rfl,rfl⟩
  ·rw[decide_eq_false a,if_neg (by decide),if_pos (BU.2 (by grind))];generalize t.ib (.from p) (cF d) m=L at*;cases L with
   |nil=>exact b
   |cons m0 l=>
    obtain⟨j,i,e,f,g⟩:=b;exact⟨j,by omega,e,f,g⟩
theorem Tl{dx dy a b c d:Rat}(f:dx*b-dy*a=0)(g:dx*d-dy*c=0)(h:¬a*d-b*c=0):dx=0/\dy=0:=by
 have e1:dx*(a*d-b*c)=0:=by grind
 have e2:dy*(a*d-b*c)=0:=by grind
 constructor
 ·rcases b3.1 e1 with e|e
  ·exact e
  ·exact(h e).elim
 ·rcases b3.1 e2 with e|e
  ·exact e
  ·exact(h e).elim
theorem aAc(t:aw)(d:V2)(v:3<=t.cs.length)(hc:t.fX=true)(q:¬(d.x=0/\d.y=0)):∃i,i<t.cs.length/\0<t.dP d i:=by
 refine Decidable.by_contra fun r=>?_;have p:∀i,i<t.cs.length->t.dP d i<=0:=fun i hi=>by
  by_cases h:0<t.dP d i
  ·exact(r ⟨i,hi,h⟩).elim
  ·grind
 obtain⟨f,hf⟩:∃f:Nat->Rat,f=fun i=>d.bL (fk (t.at i)):=⟨_,rfl⟩
 have step:∀i,i<t.cs.length->f (t.nx i)<=f i:=fun i hi=>by
  have:=p i hi;rw[aw.dP,aw.gF,V2.bL,V2.sub]at this;rw[hf];dsimp only at this⊢;rw[V2.bL,V2.bL]
  grind
 have a:∀i,i+1<t.cs.length->t.nx i=i+1:=fun i hi=>Nat.mod_eq_of_lt hi;have u:t.nx (t.cs.length-1)=0:=by
  rw[aw.nx,Nat.sub_add_cancel (by omega)];exact Nat.mod_self _
 have o:∀k,2+k<t.cs.length->f (2+k)<=f 2:=fun k=>by
  induction k with
  |zero=>intro _;exact Rat.le_refl
  |succ k s=>
   intro h;have g:=step (2+k) (by omega);rw[a _ (by omega)]at g;exact Rat.le_trans g (s (by omega))
 have j:=step 0 (by omega);have l:=step 1 (by omega);have m:=o (t.cs.length-3) (by omega);have n:=step (t.cs.length-1) (by omega);rw[a 0 (by omega)]at j;rw[a 1 (by omega)]at l;rw[u]at n;rw[show 2+(t.cs.length-3)=t.cs.length-1 by omega]at m;have b:f 1=f 0:=by grind
 have c:f 2=f 0:=by grind
 rw[aw.fX,decide_eq_true_eq]at hc;have hx:=hc 0 (by omega) 2 (by omega) (by decide) (by rw[a 0 (by omega)];decide);rw[a 0 (by omega),lP]at hx;rw[hf]at b c;dsimp only at b c;rw[V2.bL,V2.bL,fk,fk]at b c;dsimp only at b c;generalize t.at 0=A at*;generalize t.at (0+1)=B at*;generalize t.at 2=C at*;have hq:¬(((B.x:Rat)-A.x)*((C.y:Rat)-A.y)-((B.y:Rat)-A.y)*((C.x:Rat)-A.x))=0:=by
  intro e;have e2:(((B.x-A.x)*(C.y-A.y)-(B.y-A.y)*(C.x-A.x):Int):Rat)=((0:Int):Rat):=by
   rw[b2,b4,b4,b2,b2,b2,b2];exact e
  have:=Rat.intCast_inj.1 e2;omega
 exact q (Tl (dx:=d.x) (dy:=d.y) (by grind) (by grind) hq)
theorem ni(s:List Nat)(n:Int):au prog 112 [.str s,.int .i64 n] (.bool (decide ((s.length:Int)<=n))):=by
 refine aG nf Hc mix (by simp[f112]) ?_;simp[f112]
def ki(p:dV):Bool:=decide (p.name.length<=40)&&(decide (p.a.length<=40)&&decide (p.b.length<=40))
def iL(s:cL):Bool:=decide (s.name.length<=40)&&(decide (s.pt.x.length<=40)&&decide (s.pt.y.length<=40))
def ml(t:aw):Bool:=!(decide (14<t.cs.length)||(decide (14<t.bn.length)||((decide (8<t.an.length)&&decide (t.an.length<=256))||decide (258<t.an.length))))&&(t.bn.all ki&&t.an.all iL)
theorem pD{α:Type}{f:α->Bool}{l:List α}{i:Nat}{x:α}(h:l[i]?=some x):(l.take (i+1)).all f=((l.take i).all f&&f x):=by
 rw[a1,h];simp
theorem jD{α:Type}{f:α->Bool}{l:List α}{i:Nat}{x:α}(h:l[i]?=some x)(hf:f x=false):l.all f=false:=by
 cases a:l.all f
 ·rfl
 ·rw[List.all_eq_true]at a;rw[a x (ay h)]at hf;cases hf
theorem Gz(t:aw)(B:t.cs.length<=1000000)(C:t.bn.length<=1000000)(D:t.an.length<=1000000):au prog 40 [cC t] (.bool (ml t)):=by
 refine aG nf Ra mix (by simp[f40]) ?_;have s:ml t=(!(decide (14<t.cs.length)||(decide (14<t.bn.length)||((decide (8<t.an.length)&&decide (t.an.length<=256))||decide (258<t.an.length))))&&(t.bn.all ki&&t.an.all iL)):=rfl
 by_cases c1:14<t.cs.length
 ·have q:(14:Int)<t.cs.length:=by omega
  have o:ml t=false:=by rw[s];simp[c1]
  simp[f40,aa,q,o]
 have q:¬(14:Int)<t.cs.length:=by omega
 by_cases c2:14<t.bn.length
 ·have r:(14:Int)<t.bn.length:=by omega
  have o:ml t=false:=by rw[s];simp[c2]
  simp[f40,aa,q,r,o]
 have r:¬(14:Int)<t.bn.length:=by omega
 have tail:(8<t.an.length->¬t.an.length<=256)->¬258<t.an.length->ml t=(t.bn.all ki&&t.an.all iL):=fun A z=>by
  rw[s]
  by_cases h:8<t.an.length
  ·have:=A h;simp[c1,c2,h,this,z]
  ·simp[c1,c2,h,z]
 by_cases c3:8<t.an.length
 ·have u:(8:Int)<t.an.length:=by omega
  by_cases c4:t.an.length<=256
  ·have w:(t.an.length:Int)<=256:=by omega
   have o:ml t=false:=by rw[s];simp[c3,c4]
   simp[f40,aa,q,r,u,w,o]
  ·have w:¬(t.an.length:Int)<=256:=by omega
   by_cases c5:258<t.an.length
   ·have v:(258:Int)<t.an.length:=by omega
    have o:ml t=false:=by rw[s];simp[c5]
    simp[f40,aa,q,r,u,w,v,o]
   ·have v:¬(258:Int)<t.an.length:=by omega
    rw[tail (fun _=>c4) c5];simp[f40,aa,q,r,u,w,v];refine lp (α:=Nat) (fun i=>⟨[(3,.p (.int .i64 i)),(1,.ptr 0 [])],[.box false (.p (cC t))]⟩) (fun i=>i<=t.bn.length/\(t.bn.take i).all ki=true) (fun i=>t.bn.length-i) 0 (by simp) ?_;rintro i ⟨k1,k2⟩
    by_cases hi:i<t.bn.length
    ·have c:=aw.mg hi;have n:=ct (i:=i) (by omega);have f:=ni (t.pk i).a 40;have j:=ni (t.pk i).b 40;have g:ki (t.pk i)=(decide ((t.pk i).name.length<=40)&&(decide ((t.pk i).a.length<=40)&&decide ((t.pk i).b.length<=40))):=rfl
     by_cases m:(t.pk i).name.length<=40
     ·have d:¬(40:Int)<(t.pk i).name.length:=by omega
      by_cases a2:(t.pk i).a.length<=40
      ·have k:((t.pk i).a.length:Int)<=40:=by omega
       rw[decide_eq_true k]at f
       by_cases a3:(t.pk i).b.length<=40
       ·have l:((t.pk i).b.length:Int)<=40:=by omega
        rw[decide_eq_true l]at j;have e:ki (t.pk i)=true:=by rw[g];simp[m,a2,a3]
        simp[hi,c,d,aa];refine Go.ak.c2 f ?_;simp[hi,c,d,aa];refine Go.ak.c2 j ?_;simp[hi,c,d,n,aa];exact rd (i+1) ⟨hi,by rw[pD c,k2,e];rfl⟩
       ·have l:¬((t.pk i).b.length:Int)<=40:=by omega
        rw[decide_eq_false l]at j;have e:ki (t.pk i)=false:=by rw[g];simp[a3]
        rw[jD c e];simp[hi,c,d,aa];refine Go.ak.c2 f ?_;simp[hi,c,d,aa];refine Go.ak.c2 j ?_;simp[hi,c,d,n,aa]
      ·have k:¬((t.pk i).a.length:Int)<=40:=by omega
       rw[decide_eq_false k]at f;have e:ki (t.pk i)=false:=by rw[g];simp[a2]
       rw[jD c e];simp[hi,c,d,aa];refine Go.ak.c2 f ?_;simp[hi,c,d,aa]
     ·have d:(40:Int)<(t.pk i).name.length:=by omega
      have e:ki (t.pk i)=false:=by rw[g];simp[m]
      rw[jD c e];simp[hi,c,d,aa]
    have:i=t.bn.length:=by omega
    subst this;rw[ax]at k2;rw[k2,am];simp[aa];refine lp (α:=Nat) (fun i=>⟨[(4,.p (.int .i64 i)),(1,.ptr 0 [])],[.box false (.p (cC t))]⟩) (fun i=>i<=t.an.length/\(t.an.take i).all iL=true) (fun i=>t.an.length-i) 0 (by simp) ?_;rintro i ⟨k1,k2⟩
    by_cases hi:i<t.an.length
    ·have c:=aw.et hi;have n:=ct (i:=i) (by omega);have f:=ni (t.sp i).pt.x 40;have j:=ni (t.sp i).pt.y 40;have g:iL (t.sp i)=(decide ((t.sp i).name.length<=40)&&(decide ((t.sp i).pt.x.length<=40)&&decide ((t.sp i).pt.y.length<=40))):=rfl
     by_cases m:(t.sp i).name.length<=40
     ·have d:¬(40:Int)<(t.sp i).name.length:=by omega
      by_cases a2:(t.sp i).pt.x.length<=40
      ·have k:((t.sp i).pt.x.length:Int)<=40:=by omega
       rw[decide_eq_true k]at f
       by_cases a3:(t.sp i).pt.y.length<=40
       ·have l:((t.sp i).pt.y.length:Int)<=40:=by omega
        rw[decide_eq_true l]at j;have e:iL (t.sp i)=true:=by rw[g];simp[m,a2,a3]
        simp[hi,c,d,aa];refine Go.ak.c2 f ?_;simp[hi,c,d,aa];refine Go.ak.c2 j ?_;simp[hi,c,d,n,aa];exact rd (i+1) ⟨hi,by rw[pD c,k2,e];rfl⟩
       ·have l:¬((t.sp i).pt.y.length:Int)<=40:=by omega
        rw[decide_eq_false l]at j;have e:iL (t.sp i)=false:=by rw[g];simp[a3]
        rw[jD c e];simp[hi,c,d,aa];refine Go.ak.c2 f ?_;simp[hi,c,d,aa];refine Go.ak.c2 j ?_;simp[hi,c,d,n,aa]
      ·have k:¬((t.sp i).pt.x.length:Int)<=40:=by omega
       rw[decide_eq_false k]at f;have e:iL (t.sp i)=false:=by rw[g];simp[a2]
       rw[jD c e];simp[hi,c,d,aa];refine Go.ak.c2 f ?_;simp[hi,c,d,aa]
     ·have d:(40:Int)<(t.sp i).name.length:=by omega
      have e:iL (t.sp i)=false:=by rw[g];simp[m]
      rw[jD c e];simp[hi,c,d,aa]
    have:i=t.an.length:=by omega
    subst this;rw[ax]at k2;rw[k2];simp[aa]
 ·have u:¬(8:Int)<t.an.length:=by omega
  have v:¬(258:Int)<t.an.length:=by omega
  rw[tail (fun h=>absurd h c3) (by omega)];simp[f40,aa,q,r,u,v];refine lp (α:=Nat) (fun i=>⟨[(3,.p (.int .i64 i)),(1,.ptr 0 [])],[.box false (.p (cC t))]⟩) (fun i=>i<=t.bn.length/\(t.bn.take i).all ki=true) (fun i=>t.bn.length-i) 0 (by simp) ?_;rintro i ⟨k1,k2⟩
  by_cases hi:i<t.bn.length
  ·have c:=aw.mg hi;have n:=ct (i:=i) (by omega);have f:=ni (t.pk i).a 40;have j:=ni (t.pk i).b 40;have g:ki (t.pk i)=(decide ((t.pk i).name.length<=40)&&(decide ((t.pk i).a.length<=40)&&decide ((t.pk i).b.length<=40))):=rfl
   by_cases m:(t.pk i).name.length<=40
   ·have d:¬(40:Int)<(t.pk i).name.length:=by omega
    by_cases a2:(t.pk i).a.length<=40
    ·have k:((t.pk i).a.length:Int)<=40:=by omega
     rw[decide_eq_true k]at f
     by_cases a3:(t.pk i).b.length<=40
     ·have l:((t.pk i).b.length:Int)<=40:=by omega
      rw[decide_eq_true l]at j;have e:ki (t.pk i)=true:=by rw[g];simp[m,a2,a3]
      simp[hi,c,d,aa];refine Go.ak.c2 f ?_;simp[hi,c,d,aa];refine Go.ak.c2 j ?_;simp[hi,c,d,n,aa];exact rd (i+1) ⟨hi,by rw[pD c,k2,e];rfl⟩
     ·have l:¬((t.pk i).b.length:Int)<=40:=by omega
      rw[decide_eq_false l]at j;have e:ki (t.pk i)=false:=by rw[g];simp[a3]
      rw[jD c e];simp[hi,c,d,aa];refine Go.ak.c2 f ?_;simp[hi,c,d,aa];refine Go.ak.c2 j ?_;simp[hi,c,d,n,aa]
    ·have k:¬((t.pk i).a.length:Int)<=40:=by omega
     rw[decide_eq_false k]at f;have e:ki (t.pk i)=false:=by rw[g];simp[a2]
     rw[jD c e];simp[hi,c,d,aa];refine Go.ak.c2 f ?_;simp[hi,c,d,aa]
   ·have d:(40:Int)<(t.pk i).name.length:=by omega
    have e:ki (t.pk i)=false:=by rw[g];simp[m]
    rw[jD c e];simp[hi,c,d,aa]
  have:i=t.bn.length:=by omega
  subst this;rw[ax]at k2;rw[k2,am];simp[aa];refine lp (α:=Nat) (fun i=>⟨[(4,.p (.int .i64 i)),(1,.ptr 0 [])],[.box false (.p (cC t))]⟩) (fun i=>i<=t.an.length/\(t.an.take i).all iL=true) (fun i=>t.an.length-i) 0 (by simp) ?_;rintro i ⟨k1,k2⟩
  by_cases hi:i<t.an.length
  ·have c:=aw.et hi;have n:=ct (i:=i) (by omega);have f:=ni (t.sp i).pt.x 40;have j:=ni (t.sp i).pt.y 40;have g:iL (t.sp i)=(decide ((t.sp i).name.length<=40)&&(decide ((t.sp i).pt.x.length<=40)&&decide ((t.sp i).pt.y.length<=40))):=rfl
   by_cases m:(t.sp i).name.length<=40
   ·have d:¬(40:Int)<(t.sp i).name.length:=by omega
    by_cases a2:(t.sp i).pt.x.length<=40
    ·have k:((t.sp i).pt.x.length:Int)<=40:=by omega
     rw[decide_eq_true k]at f
     by_cases a3:(t.sp i).pt.y.length<=40
     ·have l:((t.sp i).pt.y.length:Int)<=40:=by omega
      rw[decide_eq_true l]at j;have e:iL (t.sp i)=true:=by rw[g];simp[m,a2,a3]
      simp[hi,c,d,aa];refine Go.ak.c2 f ?_;simp[hi,c,d,aa];refine Go.ak.c2 j ?_;simp[hi,c,d,n,aa];exact rd (i+1) ⟨hi,by rw[pD c,k2,e];rfl⟩
     ·have l:¬((t.sp i).pt.y.length:Int)<=40:=by omega
      rw[decide_eq_false l]at j;have e:iL (t.sp i)=false:=by rw[g];simp[a3]
      rw[jD c e];simp[hi,c,d,aa];refine Go.ak.c2 f ?_;simp[hi,c,d,aa];refine Go.ak.c2 j ?_;simp[hi,c,d,n,aa]
    ·have k:¬((t.sp i).pt.x.length:Int)<=40:=by omega
     rw[decide_eq_false k]at f;have e:iL (t.sp i)=false:=by rw[g];simp[a2]
     rw[jD c e];simp[hi,c,d,aa];refine Go.ak.c2 f ?_;simp[hi,c,d,aa]
   ·have d:(40:Int)<(t.sp i).name.length:=by omega
    have e:iL (t.sp i)=false:=by rw[g];simp[m]
    rw[jD c e];simp[hi,c,d,aa]
  have:i=t.an.length:=by omega
  subst this;rw[ax]at k2;rw[k2];simp[aa]
theorem UX(l:List dZ):fq prog 2 (l.map (AV.p∘cE)):=Ah (fun r=>⟨by simp[aa],by simp[aa]⟩) l
theorem tI{α:Type}{f:α->AV}{l:List α}{j:Nat}{x:α}(h:l[j+1]?=some x):(l.take (j+1+1)).map f=(l.map f).take (j+1)++[f x]:=by
 rw[a1 (i:=j+1),h,List.map_append,bo];rfl
theorem kP{N:Nat×Nat->Prop}{α:Type}{f:α->PV}{k:Nat}{l:List α}:aS N ((l.map (AV.p∘f)).take k)=True:=by
 rw[c7,eq_iff_iff,iff_true];intro x hx;obtain⟨a,_,rfl⟩:=bv.1 (List.mem_of_mem_take hx);trivial
theorem pF:fE=fL:=rfl
theorem pE:gY=bC:=rfl
theorem tJ{α:Type}{l:List α}{x:α}(h:l[0]?=some x):l.take 1=[x]:=by
 rw[a1 (i:=0),h];rfl
theorem Tx(t:aw)(s:t.cs.length<=1000000)(u:t.bn.length<=1000000)(v:t.an.length<=1000000):au prog 11 [cC t] (bR t):=by
 have r:(1000000:Nat)<c8:=by decide
 have w1:av.wrap 1=1:=by decide
 refine aG nf Q2 mix (by simp[f11]) ?_;simp[f11,aa];refine⟨⟨UX _,by omega⟩,?_⟩
 by_cases hc:t.cs=[]
 ·simp[hc];refine⟨⟨by repeat' first|rfl|apply ab,by repeat' first|rfl|apply ab⟩,?_⟩;refine lp (α:=Nat) (fun i=>match i with
    |0=>⟨[(18,.p (.int .i64 0)),(17,.p (.int .i64 t.bn.length)),(16,.p (.seq (t.bn.map fL))),(3,.ptr 3 []),(2,.ptr 1 []),(1,.ptr 0 [])],[.box false (.p (cC t)),.box false (.p (.st 43 [.aH,.int .i64 0,.aH,.aH])),.arr .exact 0 2 [],.box false (.st 43 [.sl 2 0 2 0 0,.p (.int .i64 t.ba),.p .aH,.p .aH])]⟩
    |m+1=>⟨[(18,.p (.int .i64 ((m+1:Nat):Int))),(17,.p (.int .i64 t.bn.length)),(16,.p (.seq (t.bn.map fL))),(3,.ptr 3 []),(2,.ptr 1 []),(1,.ptr 0 [])],[.box false (.p (cC t)),.box false (.p (.st 43 [.aH,.int .i64 0,.aH,.aH])),.arr .exact 0 2 [],.box false (.st 43 [.sl 2 0 2 0 0,.p (.int .i64 t.ba),.sl 6 m 4 0 (m+1),.p .aH]),.hole,.hole,.arr .grow m 4 ((t.bn.take (m+1)).map (AV.p∘fL))]⟩) (fun i=>i<=t.bn.length) (fun i=>t.bn.length-i) 0 (by simp) ?_
  rintro i o
  by_cases hi:i<t.bn.length
  ·have a:=aw.mg hi;rcases i with _|j
   ·have b:=tJ a;simp[hi,a,w1,aa];exact⟨by omega,rd 1 hi (hh:=by simp[b]) (hr2:=by simp[kP])⟩
   ·have h:av.wrap ((j:Int)+1+1)=(j:Int)+1+1:=aO _ (by omega) (by omega);have hI:(j:Int)+1<t.bn.length:=by omega
    have b:=tI (f:=AV.p∘fL) a;simp[hi,hI,a,h,aa];exact⟨by omega,⟨by omega,by omega⟩,rd (j+2) hi (hh:=by simp at b;simp[b]) (hr2:=by simp[kP])⟩
  have q:i=t.bn.length:=by omega
  rcases i with _|j
  ·have n:t.bn=[]:=a0.1 q.symm;simp[n,aa];refine lp (α:=Nat) (fun i=>match i with
     |0=>⟨[(32,.p (.int .i64 0)),(31,.p (.int .i64 t.an.length)),(30,.p (.seq (t.an.map bC))),(3,.ptr 3 []),(2,.ptr 1 []),(1,.ptr 0 [])],[.box false (.p (cC t)),.box false (.p (.st 43 [.aH,.int .i64 0,.aH,.aH])),.arr .exact 0 2 [],.box false (.st 43 [.sl 2 0 2 0 0,.p (.int .i64 t.ba),.p .aH,.p .aH])]⟩
     |m+1=>⟨[(32,.p (.int .i64 ((m+1:Nat):Int))),(31,.p (.int .i64 t.an.length)),(30,.p (.seq (t.an.map bC))),(3,.ptr 3 []),(2,.ptr 1 []),(1,.ptr 0 [])],[.box false (.p (cC t)),.box false (.p (.st 43 [.aH,.int .i64 0,.aH,.aH])),.arr .exact 0 2 [],.box false (.st 43 [.sl 2 0 2 0 0,.p (.int .i64 t.ba),.p .aH,.sl 6 m 3 0 (m+1)]),.hole,.hole,.arr .grow m 3 ((t.an.take (m+1)).map (AV.p∘bC))]⟩) (fun i=>i<=t.an.length) (fun i=>t.an.length-i) 0 (by simp) ?_
   rintro i o
   by_cases hi:i<t.an.length
   ·have a:=aw.et hi;rcases i with _|j
    ·have b:=tJ a;simp[hi,a,w1,aa];exact⟨by omega,rd 1 hi (hh:=by simp[b]) (hr2:=by simp[kP])⟩
    ·have h:av.wrap ((j:Int)+1+1)=(j:Int)+1+1:=aO _ (by omega) (by omega);have hI:(j:Int)+1<t.an.length:=by omega
     have b:=tI (f:=AV.p∘bC) a;simp[hi,hI,a,h,aa];exact⟨by omega,⟨by omega,by omega⟩,rd (j+2) hi (hh:=by simp at b;simp[b]) (hr2:=by simp[kP])⟩
   have d:i=t.an.length:=by omega
   rcases i with _|c
   ·have e:t.an=[]:=a0.1 d.symm;simp[e,aa];simp[bR,hc,n,e,pF,pE]
   ·have hI:¬((c:Int)+1<t.an.length):=by omega
    have g:t.an.take (c+1)=t.an:=by rw[d,ax]
    simp[hI,g,aa];have l:(t.an.map (AV.p∘bC)).take (c+1)=t.an.map (AV.p∘bC):=aT (by simp;omega);simp[bR,hc,n,l,pF,pE];omega
  ·have hI:¬((j:Int)+1<t.bn.length):=by omega
   have g:t.bn.take (j+1)=t.bn:=by rw[q,ax]
   simp[hI,g,aa];refine lp (α:=Nat) (fun i=>match i with
    |0=>⟨[(32,.p (.int .i64 0)),(31,.p (.int .i64 t.an.length)),(30,.p (.seq (t.an.map bC))),(3,.ptr 3 []),(2,.ptr 1 []),(1,.ptr 0 [])],[.box false (.p (cC t)),.box false (.p (.st 43 [.aH,.int .i64 0,.aH,.aH])),.arr .exact 0 2 [],.box false (.st 43 [.sl 2 0 2 0 0,.p (.int .i64 t.ba),.sl 6 j 4 0 (j+1),.p .aH]),.hole,.hole,.arr .grow j 4 (t.bn.map (AV.p∘fL))]⟩
    |m+1=>⟨[(32,.p (.int .i64 ((m+1:Nat):Int))),(31,.p (.int .i64 t.an.length)),(30,.p (.seq (t.an.map bC))),(3,.ptr 3 []),(2,.ptr 1 []),(1,.ptr 0 [])],[.box false (.p (cC t)),.box false (.p (.st 43 [.aH,.int .i64 0,.aH,.aH])),.arr .exact 0 2 [],.box false (.st 43 [.sl 2 0 2 0 0,.p (.int .i64 t.ba),.sl 6 j 4 0 (j+1),.sl 9 m 3 0 (m+1)]),.hole,.hole,.arr .grow j 4 (t.bn.map (AV.p∘fL)),.hole,.hole,.arr .grow m 3 ((t.an.take (m+1)).map (AV.p∘bC))]⟩) (fun i=>i<=t.an.length) (fun i=>t.an.length-i) 0 (by simp) ?_
   rintro i o
   by_cases hi:i<t.an.length
   ·have a:=aw.et hi;rcases i with _|j
    ·have b:=tJ a;simp[hi,a,w1,aa];exact⟨by omega,rd 1 hi (hh:=by simp[b]) (hr2:=by simp[kP])⟩
    ·have h:av.wrap ((j:Int)+1+1)=(j:Int)+1+1:=aO _ (by omega) (by omega);have hI:(j:Int)+1<t.an.length:=by omega
     have b:=tI (f:=AV.p∘bC) a;simp[hi,hI,a,h,aa];exact⟨by omega,⟨by omega,by omega⟩,rd (j+2) hi (hh:=by simp at b;simp[b]) (hr2:=by simp[kP])⟩
   have d:i=t.an.length:=by omega
   rcases i with _|c
   ·have e:t.an=[]:=a0.1 d.symm;simp[e,aa];have k:(t.bn.map (AV.p∘fL)).take (j+1)=t.bn.map (AV.p∘fL):=aT (by simp;omega);simp[bR,hc,k,e,pF,pE];omega
   ·have hI:¬((c:Int)+1<t.an.length):=by omega
    have g:t.an.take (c+1)=t.an:=by rw[d,ax]
    simp[hI,g,aa];have k:(t.bn.map (AV.p∘fL)).take (j+1)=t.bn.map (AV.p∘fL):=aT (by simp;omega);have l:(t.an.map (AV.p∘bC)).take (c+1)=t.an.map (AV.p∘bC):=aT (by simp;omega);simp[bR,hc,k,l,pF,pE];omega
 ·simp[hc];refine⟨⟨by repeat' first|rfl|apply ab,by repeat' first|rfl|apply ab⟩,?_⟩;refine lp (α:=Nat) (fun i=>match i with
    |0=>⟨[(18,.p (.int .i64 0)),(17,.p (.int .i64 t.bn.length)),(16,.p (.seq (t.bn.map fL))),(3,.ptr 4 []),(2,.ptr 1 []),(1,.ptr 0 [])],[.box false (.p (cC t)),.box false (.p (.st 43 [.aH,.int .i64 0,.aH,.aH])),.arr .exact 0 2 [],.arr .grow 0 2 (t.cs.map (AV.p∘cE)),.box false (.st 43 [.sl 3 0 2 0 t.cs.length,.p (.int .i64 t.ba),.p .aH,.p .aH])]⟩
    |m+1=>⟨[(18,.p (.int .i64 ((m+1:Nat):Int))),(17,.p (.int .i64 t.bn.length)),(16,.p (.seq (t.bn.map fL))),(3,.ptr 4 []),(2,.ptr 1 []),(1,.ptr 0 [])],[.box false (.p (cC t)),.box false (.p (.st 43 [.aH,.int .i64 0,.aH,.aH])),.arr .exact 0 2 [],.arr .grow 0 2 (t.cs.map (AV.p∘cE)),.box false (.st 43 [.sl 3 0 2 0 t.cs.length,.p (.int .i64 t.ba),.sl 7 m 4 0 (m+1),.p .aH]),.hole,.hole,.arr .grow m 4 ((t.bn.take (m+1)).map (AV.p∘fL))]⟩) (fun i=>i<=t.bn.length) (fun i=>t.bn.length-i) 0 (by simp) ?_
  rintro i o
  by_cases hi:i<t.bn.length
  ·have a:=aw.mg hi;rcases i with _|j
   ·have b:=tJ a;simp[hi,a,w1,aa];exact⟨by omega,rd 1 hi (hh:=by simp[b]) (hr2:=by simp[kP])⟩
   ·have h:av.wrap ((j:Int)+1+1)=(j:Int)+1+1:=aO _ (by omega) (by omega);have hI:(j:Int)+1<t.bn.length:=by omega
    have b:=tI (f:=AV.p∘fL) a;simp[hi,hI,a,h,aa];exact⟨by omega,⟨by omega,by omega⟩,rd (j+2) hi (hh:=by simp at b;simp[b]) (hr2:=by simp[kP])⟩
  have q:i=t.bn.length:=by omega
  rcases i with _|j
  ·have n:t.bn=[]:=a0.1 q.symm;simp[n,aa];refine lp (α:=Nat) (fun i=>match i with
     |0=>⟨[(32,.p (.int .i64 0)),(31,.p (.int .i64 t.an.length)),(30,.p (.seq (t.an.map bC))),(3,.ptr 4 []),(2,.ptr 1 []),(1,.ptr 0 [])],[.box false (.p (cC t)),.box false (.p (.st 43 [.aH,.int .i64 0,.aH,.aH])),.arr .exact 0 2 [],.arr .grow 0 2 (t.cs.map (AV.p∘cE)),.box false (.st 43 [.sl 3 0 2 0 t.cs.length,.p (.int .i64 t.ba),.p .aH,.p .aH])]⟩
     |m+1=>⟨[(32,.p (.int .i64 ((m+1:Nat):Int))),(31,.p (.int .i64 t.an.length)),(30,.p (.seq (t.an.map bC))),(3,.ptr 4 []),(2,.ptr 1 []),(1,.ptr 0 [])],[.box false (.p (cC t)),.box false (.p (.st 43 [.aH,.int .i64 0,.aH,.aH])),.arr .exact 0 2 [],.arr .grow 0 2 (t.cs.map (AV.p∘cE)),.box false (.st 43 [.sl 3 0 2 0 t.cs.length,.p (.int .i64 t.ba),.p .aH,.sl 7 m 3 0 (m+1)]),.hole,.hole,.arr .grow m 3 ((t.an.take (m+1)).map (AV.p∘bC))]⟩) (fun i=>i<=t.an.length) (fun i=>t.an.length-i) 0 (by simp) ?_
   rintro i o
   by_cases hi:i<t.an.length
   ·have a:=aw.et hi;rcases i with _|j
    ·have b:=tJ a;simp[hi,a,w1,aa];exact⟨by omega,rd 1 hi (hh:=by simp[b]) (hr2:=by simp[kP])⟩
    ·have h:av.wrap ((j:Int)+1+1)=(j:Int)+1+1:=aO _ (by omega) (by omega);have hI:(j:Int)+1<t.an.length:=by omega
     have b:=tI (f:=AV.p∘bC) a;simp[hi,hI,a,h,aa];exact⟨by omega,⟨by omega,by omega⟩,rd (j+2) hi (hh:=by simp at b;simp[b]) (hr2:=by simp[kP])⟩
   have d:i=t.an.length:=by omega
   rcases i with _|c
   ·have e:t.an=[]:=a0.1 d.symm;simp[e,aa];simp[bR,hc,n,e,pF,pE]
   ·have hI:¬((c:Int)+1<t.an.length):=by omega
    have g:t.an.take (c+1)=t.an:=by rw[d,ax]
    simp[hI,g,aa];have l:(t.an.map (AV.p∘bC)).take (c+1)=t.an.map (AV.p∘bC):=aT (by simp;omega);simp[bR,hc,n,l,pF,pE];omega
  ·have hI:¬((j:Int)+1<t.bn.length):=by omega
   have g:t.bn.take (j+1)=t.bn:=by rw[q,ax]
   simp[hI,g,aa];refine lp (α:=Nat) (fun i=>match i with
    |0=>⟨[(32,.p (.int .i64 0)),(31,.p (.int .i64 t.an.length)),(30,.p (.seq (t.an.map bC))),(3,.ptr 4 []),(2,.ptr 1 []),(1,.ptr 0 [])],[.box false (.p (cC t)),.box false (.p (.st 43 [.aH,.int .i64 0,.aH,.aH])),.arr .exact 0 2 [],.arr .grow 0 2 (t.cs.map (AV.p∘cE)),.box false (.st 43 [.sl 3 0 2 0 t.cs.length,.p (.int .i64 t.ba),.sl 7 j 4 0 (j+1),.p .aH]),.hole,.hole,.arr .grow j 4 (t.bn.map (AV.p∘fL))]⟩
    |m+1=>⟨[(32,.p (.int .i64 ((m+1:Nat):Int))),(31,.p (.int .i64 t.an.length)),(30,.p (.seq (t.an.map bC))),(3,.ptr 4 []),(2,.ptr 1 []),(1,.ptr 0 [])],[.box false (.p (cC t)),.box false (.p (.st 43 [.aH,.int .i64 0,.aH,.aH])),.arr .exact 0 2 [],.arr .grow 0 2 (t.cs.map (AV.p∘cE)),.box false (.st 43 [.sl 3 0 2 0 t.cs.length,.p (.int .i64 t.ba),.sl 7 j 4 0 (j+1),.sl 10 m 3 0 (m+1)]),.hole,.hole,.arr .grow j 4 (t.bn.map (AV.p∘fL)),.hole,.hole,.arr .grow m 3 ((t.an.take (m+1)).map (AV.p∘bC))]⟩) (fun i=>i<=t.an.length) (fun i=>t.an.length-i) 0 (by simp) ?_
   rintro i o
   by_cases hi:i<t.an.length
   ·have a:=aw.et hi;rcases i with _|j
    ·have b:=tJ a;simp[hi,a,w1,aa];exact⟨by omega,rd 1 hi (hh:=by simp[b]) (hr2:=by simp[kP])⟩
    ·have h:av.wrap ((j:Int)+1+1)=(j:Int)+1+1:=aO _ (by omega) (by omega);have hI:(j:Int)+1<t.an.length:=by omega
     have b:=tI (f:=AV.p∘bC) a;simp[hi,hI,a,h,aa];exact⟨by omega,⟨by omega,by omega⟩,rd (j+2) hi (hh:=by simp at b;simp[b]) (hr2:=by simp[kP])⟩
   have d:i=t.an.length:=by omega
   rcases i with _|c
   ·have e:t.an=[]:=a0.1 d.symm;simp[e,aa];have k:(t.bn.map (AV.p∘fL)).take (j+1)=t.bn.map (AV.p∘fL):=aT (by simp;omega);simp[bR,hc,k,e,pF,pE];omega
   ·have hI:¬((c:Int)+1<t.an.length):=by omega
    have g:t.an.take (c+1)=t.an:=by rw[d,ax]
    simp[hI,g,aa];have k:(t.bn.map (AV.p∘fL)).take (j+1)=t.bn.map (AV.p∘fL):=aT (by simp;omega);have l:(t.an.map (AV.p∘bC)).take (c+1)=t.an.map (AV.p∘bC):=aT (by simp;omega);simp[bR,hc,k,l,pF,pE];omega
theorem aAb(t:aw)(p d:cw)(e:3<=t.cs.length)(hc:t.fX=true)(k:¬((vP d).x=0/\(vP d).y=0)):∃j,j<t.cs.length/\0<t.dP (vP d) j/\(∃a l,t.ib (.from p) (cF d) t.cs.length=a::l/\lF a l=t.dU (.from p) (cF d) j)/\t.fQ (vP p) (vP d) t.cs.length=((j:Int),t.ic (vP p) (vP d) j):=by
 obtain⟨i,hi,n⟩:=aAc t (vP d) e hc k;have h:=GL t p d t.cs.length;have m:t.dU (.from p) (cF d) i∈t.ib (.from p) (cF d) t.cs.length:=by
  rw[aw.ib];exact bv.2 ⟨i,List.mem_filter.2 ⟨List.mem_range.2 hi,by rw[Gj,decide_eq_true n]⟩,rfl⟩
 generalize o:t.ib (.from p) (cF d) t.cs.length=L at*;cases L with
 |nil=>cases m
 |cons a l=>
  obtain⟨j,b,c,f,g⟩:=h;exact⟨j,b,c,⟨a,l,rfl,f⟩,g⟩
theorem R9{x:cw}(hx:dL x=0):dm x=eV (vP x):=by
 obtain⟨g1,g2⟩:=jw hx;rw[eV,vP];dsimp only;rw[(jm g1).1,(jm g2).1]
def fK(r:Int)(a b:V2):Int:=dA ((a.sub b).dot (a.sub b)) (ld r)
def gW(t:aw)(bef:List cL)(s:cL):Int:=
 if isName s.name=false then 8
 else if bef.any (fun o=>decide (o.name=s.name))=true then 9
 else if dL s.pt≠0 then dL s.pt
 else if t.on (vP s.pt)<0 then 16
 else if bef.any (fun o=>decide (fK t.ba (vP o.pt) (vP s.pt)<0))=true then 17 else 0
def re(t b:aw):Int:=if 24<b.an.length then 5 else kO (gW t) b.an
def im(t b:aw):Int:=if ij t≠0 then ij t else re t b
structure jt(b:aw):Prop where
 sl:b.an.length<=1000000
 sp:∀s∈b.an,nT s
theorem pH{t:aw}(h:ij t=0):1<=t.ba/\t.ba<=1000:=by
 rw[ij]at h
 split at h
 ·omega
 split at h
 ·omega
 split at h
 ·omega
 split at h
 ·omega
 split at h
 ·omega
 omega
theorem vL{s:cw}(h:dL s=0):eV (vP s)=dm s/\bt 2000 (vP s):=by
 obtain⟨g1,g2⟩:=jw h;refine⟨?_,gU g1,gU g2⟩;rw[eV,vP];dsimp only;rw[(jm g1).1,(jm g2).1]
theorem TX(t:aw)(a:0<=t.ba)(b:t.ba<=1000000):au prog 266 [cC t] (.str (bc (ld t.ba))):=by
 have e:=xk a b;have c:=AA (4*t.ba*t.ba) (by omega) (by omega);have w1:av.wrap (4*t.ba)=4*t.ba:=aO _ (by omega) (by omega);have d:av.wrap (4*t.ba*t.ba)=4*t.ba*t.ba:=aO _ (by omega) (by omega);refine aG nf Gr mix (by simp[f266]) ?_;rw[ld];simp[f266,aa,w1,d];refine c1 c ?_;simp
theorem TI(t:aw)(a b:V2)(d:0<=t.ba)(e:t.ba<=1000000)(f:bt 2000 a)(g:bt 2000 b):au prog 206 [cC t,eV a,eV b] (.int .i64 (fK t.ba a b)):=by
 have c:=iH f g;have k1:=uU a b (f.mono (by decide)) (g.mono (by decide));have k2:=zg (a.sub b) (c.mono (by decide));have k3:=TX t d e;have k4:=qX ((a.sub b).dot (a.sub b)) (ld t.ba) ((gJ c c).mono (by decide)) ((rQ d e).mono (by decide));refine aG nf H9 mix (by simp[f206]) ?_;rw[fK];simp[f206,aa];refine e2 k1 ?_;simp[aa];refine e1 k2 ?_;simp[aa];refine e1 k3 ?_;simp[aa];refine e2 k4 ?_;simp[aa]
theorem GP{α:Type}{f:α->Bool}{l:List α}{i j:Nat}{x:α}(h:l[j]?=some x)(a:j<i)(hf:f x=true):(l.take i).any f=true:=by
 rw[bi];exact⟨x,ay (i:=j) (by rw[List.getElem?_take,if_pos a];exact h),hf⟩
theorem Ca{t:aw}{a:List cL}{s:cL}(h:gW t a s=0):dL s.pt=0:=by
 rw[gW]at h
 split at h
 ·omega
 split at h
 ·omega
 split at h
 ·contradiction
 ·rename_i g;exact Decidable.not_not.1 g
theorem TZ(t b:aw)(w:ij t=0)(A:jt b)(B:t.cs.length<=1000000):au prog 114 [cC t,.seq (b.an.map bC)] (.int .i64 (re t b)):=by
 obtain⟨Q,D⟩:=A;obtain⟨_,_,C,_⟩:=vB w;obtain⟨R,S⟩:=pH w;refine aG nf G8 mix (by simp[f114]) ?_;rw[re]
 by_cases c4:24<b.an.length
 ·have cI:(24:Int)<b.an.length:=by omega
  rw[if_pos c4];simp[f114,aa,cI]
 have y:¬(24:Int)<b.an.length:=by omega
 rw[if_neg c4];simp[f114,aa,y];refine lp (α:=Nat) (fun i=>⟨[(5,.p (.int .i64 i)),(2,.ptr 0 []),(1,.p (.seq (b.an.map bC)))],[.box false (.p (cC t))]⟩) (fun i=>i<=b.an.length/\∀j,j<i->gV (gW t) b.an j=0) (fun i=>b.an.length-i) 0 (by simp) ?_;rintro i ⟨s1,s2⟩
 by_cases hs:i<b.an.length
 case neg=>
  have:i=b.an.length:=by omega
  subst this;rw[pC.2 s2];simp[aa]
 have a:=aw.et hs;have F:=ct (i:=i) (by omega);obtain⟨J,K⟩:=D _ (ay a);have g:=BL (b.sp i).name J.1;have z:=yL (b.sp i).pt K;have e:gW t (b.an.take i) (b.sp i)≠0->kO (gW t) b.an=gW t (b.an.take i) (b.sp i):=tH s2 a;have I:gW t (b.an.take i) (b.sp i)=0->∀j,j<i+1->gV (gW t) b.an j=0:=tG s2 a;have N:∀j,j<i->dL (b.sp j).pt=0:=fun j c=>by
  have:=s2 j c;rw[gV,aw.et (by omega)]at this;exact Ca this
 have ev:gW t (b.an.take i) (b.sp i)=if isName (b.sp i).name=false then 8 else if(b.an.take i).any (fun o=>decide (o.name=(b.sp i).name))=true then 9 else if dL (b.sp i).pt≠0 then dL (b.sp i).pt else if t.on (vP (b.sp i).pt)<0 then 16 else if(b.an.take i).any (fun o=>decide (fK t.ba (vP o.pt) (vP (b.sp i).pt)<0))=true then 17 else 0:=rfl
 clear s2;generalize gW t (b.an.take i) (b.sp i)=E at*;generalize kO (gW t) b.an=O at*;cases m:isName (b.sp i).name
 ·rw[m]at g;rw[m,if_pos rfl]at ev;rw[e (by rw[ev];decide),ev];simp[hs,a,aa];refine Go.ak.c1 g ?_;simp[aa]
 rw[m]at g;rw[m,if_neg (by decide)]at ev;simp[hs,a,aa];refine Go.ak.c1 g ?_;simp[aa];refine lp (α:=Nat) (fun k=>⟨[(6,.p (.int .i64 k)),(5,.p (.int .i64 i)),(2,.ptr 0 []),(1,.p (.seq (b.an.map bC)))],[.box false (.p (cC t))]⟩) (fun k=>k<=i/\(b.an.take k).any (fun o=>decide (o.name=(b.sp i).name))=false) (fun k=>i-k) 0 (by simp) ?_;rintro k ⟨k1,k2⟩
 by_cases hk:k<i
 ·have s:k<b.an.length:=by omega
  have gk:=aw.et s;have H:=ct (i:=k) (by omega)
  by_cases l:(b.sp k).name=(b.sp i).name
  ·rw[if_pos (GP gk hk (by simp[l]))]at ev;rw[e (by rw[ev];decide),ev];simp[hs,hk,s,gk,a,l,aa]
  ·simp[hs,hk,s,gk,a,l,H,aa];exact rd (k+1) ⟨hk,by rw[vC gk,k2];simp[l]⟩
 have:k=i:=by omega
 subst this;rw[k2,if_neg (by decide)]at ev;clear k1 k2 hk;have u:¬k<k:=by omega
 simp[u,hs,a,aa];refine Go.ak.c1 z ?_
 by_cases d:dL (b.sp k).pt=0
 case neg=>
  rw[if_pos d]at ev;rw[e (by rw[ev];exact d),ev];simp[d,aa]
 rw[if_neg (by simp[d])]at ev;obtain⟨pl,ok⟩:=vL d;have v:=Qt t (vP (b.sp k).pt) B C (ok.mono (by decide));rw[pl]at v;simp[d,hs,a,aa];refine Go.ak.e2 v ?_
 by_cases n:t.on (vP (b.sp k).pt)<0
 ·rw[if_pos n]at ev;rw[e (by rw[ev];decide),ev];simp[n,aa]
 rw[if_neg n]at ev;simp[n,aa];refine lp (α:=Nat) (fun j=>⟨[(8,.p (.int .i64 j)),(5,.p (.int .i64 k)),(2,.ptr 0 []),(1,.p (.seq (b.an.map bC)))],[.box false (.p (cC t))]⟩) (fun j=>j<=k/\(b.an.take j).any (fun o=>decide (fK t.ba (vP o.pt) (vP (b.sp k).pt)<0))=false) (fun j=>k-j) 0 (by simp) ?_;rintro j ⟨P,x⟩
 by_cases c:j<k
 ·have r:j<b.an.length:=by omega
  have f:=aw.et r;have G:=ct (i:=j) (by omega);obtain⟨M,L⟩:=vL (N j c);have q:=TI t (vP (b.sp j).pt) (vP (b.sp k).pt) (by omega) (by omega) L ok;rw[pl,M]at q
  by_cases h:fK t.ba (vP (b.sp j).pt) (vP (b.sp k).pt)<0
  ·rw[if_pos (GP f c (by simp[h]))]at ev;rw[e (by rw[ev];decide),ev];simp[hs,c,r,f,a,aa];refine Go.ak.e3 q ?_;simp[h,aa]
  ·simp[hs,c,r,f,a,aa];refine Go.ak.e3 q ?_;simp[h,G,aa];exact rd (j+1) ⟨c,by rw[vC f,x];simp[h]⟩
 have:j=k:=by omega
 subst this;rw[x,if_neg (by decide)]at ev;simp[u,F,aa];exact rd (j+1) ⟨hs,I ev⟩
theorem yB(t b:aw)(a:jr t)(c:jt b):au prog 42 [cC t,.seq (b.an.map bC)] (.int .i64 (im t b)):=by
 have k1:=SR t a;refine aG nf Rc mix (by simp[f42]) ?_;rw[im]
 by_cases h:ij t=0
 ·rw[if_neg (by simp[h])];have k2:=TZ t b h c a.cl;rw[h]at k1;simp[f42,aa];refine Go.ak.c1 k1 ?_;simp[aa];refine Go.ak.c2 k2 ?_;simp[aa]
 ·rw[if_pos h];generalize ij t=e at*;simp[f42,aa];refine Go.ak.c1 k1 ?_;simp[h,aa]
theorem asT(v w:NV)(a:bt kQ v.q)(b:bt kQ w.q):au prog 325 [fM v,fM w] (eF (v.dot w)):=by
 have c:=ft v.x w.x (dM a.1) (dM b.1);have d:=ft v.y w.y (dM a.2) (dM b.2);have e:=mR (v.x.mul w.x) (v.y.mul w.y) ((cW a.1 b.1).mono (by decide)) ((cW a.2 b.2).mono (by decide));refine aG nf Im mix (by simp[f325]) ?_;rw[NV.dot];simp[f325,aa];refine e2 c ?_;simp[aa];refine e2 d ?_;simp[aa];refine e2 e ?_;simp[aa]
theorem TR(t:aw)(a:0<=t.ba)(b:t.ba<=1000000):au prog 326 [bR t] (eF (.width t.ba)):=by
 have e:=xk a b;have c:=ma (4*t.ba*t.ba) (by omega) (by omega);have w1:av.wrap (4*t.ba)=4*t.ba:=aO _ (by omega) (by omega);have d:av.wrap (4*t.ba*t.ba)=4*t.ba*t.ba:=aO _ (by omega) (by omega);refine aG nf GC mix (by simp[f326]) ?_;rw[NF.width];simp[f326,aa,w1,d];refine c1 c ?_;simp[aa]
theorem Hf(a b:V2):(b.sub a).dot (b.sub a)=(a.sub b).dot (a.sub b):=by
 simp only[V2.sub,V2.dot]
 grind
theorem TT(t:aw)(a b:NV)(d:0<=t.ba)(e:t.ba<=1000000)(f:bt 2000 a.q)(g:bt 2000 b.q):au prog 291 [bR t,fM a,fM b] (.int .i64 (fK t.ba a.q b.q)):=by
 have c:=iH g f;rw[<-NV.fu]at c;have k1:=B3 b a (g.mono (by decide)) (f.mono (by decide));have k2:=asT (b.sub a) (b.sub a) (c.mono (by decide)) (c.mono (by decide));have k3:=TR t d e;have k4:=qB ((b.sub a).dot (b.sub a)) (.width t.ba) (by rw[NV.o8];exact(gJ c c).mono (by decide)) ((rQ d e).mono (by decide));have hq:dA ((b.sub a).dot (b.sub a)).q (NF.width t.ba).q=fK t.ba a.q b.q:=by
  rw[fK,NV.o8,NV.fu,Hf];rfl
 rw[hq]at k4;refine aG nf Iw mix (by simp[f291]) ?_;simp[f291,aa];refine c2 k1 ?_;simp[aa];refine e2 k2 ?_;simp[aa];refine e1 k3 ?_;simp[aa];refine e2 k4 ?_;simp[aa]
def vk(p:cL):Prop:=nT p/\dL p.pt=0
theorem aAj(t:aw)(v:NV)(o:cL)(b:0<=t.ba)(c:t.ba<=1000000)(e:bt 2000 v.q)(d:vk o):
 cS prog 290 [.box false (.p (bR t)),.box false (.p (fM v))] [.p (bC o),.ptr 0 [],.ptr 1 []] [.box false (.p (bR t)),.box false (.p (fM v))] (.p (.bool (decide (fK t.ba (vP o.pt) v.q<0)))):=by
 obtain⟨⟨h,f⟩,a⟩:=d;obtain⟨g1,g2⟩:=jw a;obtain⟨_,ok⟩:=vL a;have k1:=EV o.pt g1 g2 f;have k2:=TT t (.from o.pt) v b c (by rw[iI];exact ok) e;rw[iI]at k2;generalize fK t.ba (vP o.pt) v.q=y at*;generalize NV.from o.pt=g at*;refine gM nf Ix mix (by simp[f290]) ?_;simp[f290,aa];refine Go.ak.e1 k1 ?_;simp[aa];refine Go.ak.e3 k2 ?_;simp[aa];exact de.og (by simp) (by simp) (by simp) (by simp) (by simp)
theorem TL(t:aw)(v:NV)(l:List cL)(h:l.length<=1000000)(a:0<=t.ba)(b:t.ba<=1000000)(d:bt 2000 v.q)(c:∀o∈l,vk o):
 cS prog 285 [.box false (.p (bR t)),.box false (.p (fM v))] [.p (.seq (l.map bC)),.func 290 [] [.ptr 0 [],.ptr 1 []]] [.box false (.p (bR t)),.box false (.p (fM v))] (.p (.int .i64 (idxFrom (fun o=>decide (fK t.ba (vP o.pt) v.q<0)) l 0))):=by
 refine gM nf B6 mix (by simp[f285]) ?_;simp[f285];refine lp (α:=Nat) (fun i=>⟨[(8,.p (.int .i64 i)),(7,.p (.int .i64 l.length)),(1,.func 290 [] [.ptr 0 [],.ptr 1 []]),(0,.p (.seq (l.map bC)))],[.box false (.p (bR t)),.box false (.p (fM v))]⟩) (fun i=>i<=l.length/\idxFrom (fun o=>decide (fK t.ba (vP o.pt) v.q<0)) l 0=idxFrom (fun o=>decide (fK t.ba (vP o.pt) v.q<0)) (l.drop i) i) (fun i=>l.length-i) 0 (by simp) ?_;rintro i ⟨k1,k2⟩;have e:=ct (i:=i) (by omega)
 by_cases hi:i<l.length
 ·rw[a5 hi,idxFrom]at k2;simp[hi];refine cf (aAj t v l[i] a b d (c _ (List.getElem_mem hi))) [0,1] ?_
  by_cases hk:fK t.ba (vP l[i].pt) v.q<0
  ·simp[hk]at k2;simp[hk,k2,bm]
  ·simp[hk]at k2;simp[hk,e,bm];exact rd (i+1) ⟨hi,k2⟩
 ·have:i=l.length:=by omega
  subst this;simp[idxFrom]at k2;simp[k2]
theorem T3(t:aw)(v:NV)(l:List cL)(h:l.length<=1000000)(a:0<=t.ba)(b:t.ba<=1000000)(d:bt 2000 v.q)(c:∀o∈l,vk o):
 cS prog 229 [.box false (.p (bR t)),.box false (.p (fM v))] [.p (.seq (l.map bC)),.func 290 [] [.ptr 0 [],.ptr 1 []]] [.box false (.p (bR t)),.box false (.p (fM v))] (.p (.bool (l.any (fun o=>decide (fK t.ba (vP o.pt) v.q<0))))):=by
 refine gM nf EM mix (by simp[f229]) ?_;simp[f229];refine cf (TL t v l h a b d c) [0,1] ?_;have:=qU (fun o=>decide (fK t.ba (vP o.pt) v.q<0)) l 0;simp[bm,<-this]
theorem TS(t:aw)(v:NV)(l:List cL)(h:l.length<=1000000)(a:0<=t.ba)(b:t.ba<=1000000)(d:bt 2000 v.q)(c:∀o∈l,vk o):
 au prog 234 [bR t,.seq (l.map bC),fM v] (.bool (!l.any (fun o=>decide (fK t.ba (vP o.pt) v.q<0)))):=by
 have k1:=T3 t v l h a b d c;generalize (l.any (fun o=>decide (fK t.ba (vP o.pt) v.q<0)))=y at*;refine aG nf PY mix (by simp[f234]) ?_;simp[f234,aa];refine cf k1 [0,1] ?_;simp[aa,bm]
theorem TP(p o:cL):cS prog 230 [.box false (.p (bC p))] [.p (bC o),.ptr 0 []] [.box false (.p (bC p))] (.p (.bool (decide (o.name=p.name)))):=by
 refine gM nf P2 mix (by simp[f230]) ?_
 by_cases h:o.name=p.name
 ·simp[f230,aa,h];exact de.og (by simp) (by simp) (by simp) (by simp) (by simp)
 ·simp[f230,aa,h];exact de.og (by simp) (by simp) (by simp) (by simp) (by simp)
theorem TK(p:cL)(l:List cL)(h:l.length<=1000000):
 cS prog 285 [.box false (.p (bC p))] [.p (.seq (l.map bC)),.func 230 [] [.ptr 0 []]] [.box false (.p (bC p))] (.p (.int .i64 (idxFrom (fun o=>decide (o.name=p.name)) l 0))):=by
 refine gM nf B6 mix (by simp[f285]) ?_;simp[f285];refine lp (α:=Nat) (fun i=>⟨[(8,.p (.int .i64 i)),(7,.p (.int .i64 l.length)),(1,.func 230 [] [.ptr 0 []]),(0,.p (.seq (l.map bC)))],[.box false (.p (bC p))]⟩) (fun i=>i<=l.length/\idxFrom (fun o=>decide (o.name=p.name)) l 0=idxFrom (fun o=>decide (o.name=p.name)) (l.drop i) i) (fun i=>l.length-i) 0 (by simp) ?_;rintro i ⟨k1,k2⟩;have a:=ct (i:=i) (by omega)
 by_cases hi:i<l.length
 ·rw[a5 hi,idxFrom]at k2;simp[hi];refine cf (TP p l[i]) [0] ?_
  by_cases hk:l[i].name=p.name
  ·simp[hk]at k2;simp[hk,k2,bm]
  ·simp[hk]at k2;simp[hk,a,bm];exact rd (i+1) ⟨hi,k2⟩
 ·have:i=l.length:=by omega
  subst this;simp[idxFrom]at k2;simp[k2]
theorem T0(p:cL)(l:List cL)(h:l.length<=1000000):
 cS prog 229 [.box false (.p (bC p))] [.p (.seq (l.map bC)),.func 230 [] [.ptr 0 []]] [.box false (.p (bC p))] (.p (.bool (l.any (fun o=>decide (o.name=p.name))))):=by
 refine gM nf EM mix (by simp[f229]) ?_;simp[f229];refine cf (TK p l h) [0] ?_;have:=qU (fun o=>decide (o.name=p.name)) l 0;simp[bm,<-this]
def vN(r:Int)(a:List cL)(v:V2):Bool:=a.any (fun o=>decide (fK r (vP o.pt) v<0))
def Ba(t:aw)(a:List cL)(s:cL):Int:=bF [aY (decide (t.on (vP s.pt)<0)) 16,aY (a.any (fun o=>decide (fK t.ba (vP o.pt) (vP s.pt)<0))) 17]
theorem TM(t:aw)(a:List cL)(s:cL):gW t a s=if jC a s=0 then Ba t a s else jC a s:=by
 rw[gW,jC,Ba];generalize t.on (vP s.pt)=y;generalize dL s.pt=d;generalize (a.any fun o=>decide (o.name=s.name))=e;generalize (a.any fun o=>decide (fK t.ba (vP o.pt) (vP s.pt)<0))=f;generalize isName s.name=g;cases g
 ·simp[bF,aY]
 cases e
 case true=>simp[bF,aY]
 by_cases b:d=0
 case neg=>simp[bF,aY,b]
 by_cases c:y<0
 ·simp[bF,aY,b,c]
 cases f
 ·simp[bF,aY,b,c]
 ·simp[bF,aY,b,c]
theorem aAn(t:aw)(s:cL)(a:List cL)(x:t.cs.length<=1000000)(j:ij t=0)(hs:nT s)(i:a.length<=1000000)(w:∀o∈a,vk o):
 cS prog 228 [.box false (.p (bR t))] [.p (bC s),.p (.seq (a.map bC)),.ptr 0 []] [.box false (.p (bR t))] (.p (.int .i64 (gW t a s))):=by
 obtain⟨_,_,z,_⟩:=vB j;obtain⟨L,M⟩:=pH j;obtain⟨F,m⟩:=hs;have k1:=T0 s a i;have k2:=BS s.name F.1;have k3:=ji (!isName s.name) 8;have k4:=ji (a.any fun o=>decide (o.name=s.name)) 9;have k6:=yG s.pt m;have k8:=qW [aY (!isName s.name) 8,aY (a.any fun o=>decide (o.name=s.name)) 9,dL s.pt] (by simp);have b:=Gg (bef:=a) (s:=s);rw[TM];have A:=fun h:jC a s=0=>EV s.pt (jw (b h)).1 (jw (b h)).2 m;have k:=fun h:jC a s=0=>Qy t (.from s.pt) x z (Cf ⟨(gU (jw (b h)).1).mono (by decide),(gU (jw (b h)).2).mono (by decide)⟩);have B:=ji (decide (t.on (vP s.pt)<0)) 16;have l:jC a s=0->au prog 234 [bR t,.seq (a.map bC),fM (.from s.pt)] (.bool (!vN t.ba a (NV.from s.pt).q)):=fun h=>TS t (.from s.pt) a i (by omega) (by omega) (Cf ⟨gU (jw (b h)).1,gU (jw (b h)).2⟩) w;have C:=ji (vN t.ba a (vP s.pt)) 17;have d:=qW [aY (decide (t.on (vP s.pt)<0)) 16,aY (vN t.ba a (vP s.pt)) 17] (by simp);simp only[iI]at k l;have f:jC a s=bF [aY (!isName s.name) 8,aY (a.any fun o=>decide (o.name=s.name)) 9,dL s.pt]:=rfl;have g:Ba t a s=bF [aY (decide (t.on (vP s.pt)<0)) 16,aY (vN t.ba a (vP s.pt)) 17]:=rfl;rw[<-f]at k8;rw[<-g]at d;clear f g b;generalize jC a s=e at*;generalize Ba t a s=v at*;generalize vN t.ba a (vP s.pt)=r at*;generalize t.on (vP s.pt)=y at*;generalize dL s.pt=G at*;generalize (a.any fun o=>decide (o.name=s.name))=n at*;generalize isName s.name=u at*;generalize NV.from s.pt=v1 at*;refine gM nf HN mix (by simp[f228]) ?_;have E:au prog 214 [.seq [.int .i64 (aY (!u) 8),.int .i64 (aY n 9),.int .i64 G]] (.int .i64 e):=by simpa using k8
 have D:au prog 214 [.seq [.int .i64 (aY (decide (y<0)) 16),.int .i64 (aY r 17)]] (.int .i64 v):=by simpa using d
 clear k8 d;generalize H:aY (!u) 8=w1 at*;generalize I:aY n 9=N at*;generalize J:aY (decide (y<0)) 16=O at*;generalize K:aY r 17=P at*;simp[f228,aa];refine cf k1 [1] ?_;simp[aa,bm,sig];refine Go.ak.e1 k2 ?_;simp[aa];refine Go.ak.e2 k3 ?_;simp[aa];refine Go.ak.e2 k4 ?_;simp[aa];refine Go.ak.e1 k6 ?_;simp[aa];refine ep E (by simp;first|exact⟨rfl,rfl⟩|rfl) (by simp;first|exact⟨rfl,rfl⟩|rfl) ?_;simp[aa];refine⟨by repeat' first|rfl|apply ab,?_⟩
 by_cases c:e=0
 case neg=>
  simp[c,aa];exact de.og (by simp) (by simp) (by simp) (by simp) (by simp)
 simp[c,aa];refine Go.ak.c1 (A c) ?_;simp[aa];refine Go.ak.e2 (k c) ?_;simp[aa];refine Go.ak.e2 B ?_;simp[aa];refine Go.ak.e3 (l c) ?_;simp[aa];refine Go.ak.e2 C ?_;simp[aa];refine ep D (by simp;first|exact⟨rfl,rfl⟩|rfl) (by simp;first|exact⟨rfl,rfl⟩|rfl) ?_;simp[aa];refine⟨by repeat' first|rfl|apply ab,?_⟩;exact⟨fun h=>(h c).elim,de.og (by simp) (by simp) (by simp) (by simp) (by simp)⟩
theorem KZ(l:List cL):fq prog 3 (l.map (AV.p∘bC)):=Ah (fun r=>⟨by simp[aa],by simp[aa]⟩) l
theorem aAo(t b:aw)(h:t.cs.length<=1000000)(l:ij t=0)(c:jt b):
 cS prog 227 [.box false (.p (bR t))] [.p (.seq (b.an.map bC)),.p (.int .i64 24),.func 228 [] [.ptr 0 []]] [.box false (.p (bR t))] (.p (.int .i64 (re t b))):=by
 obtain⟨n,d⟩:=c;refine gM nf HO mix (by simp[f227]) ?_;rw[re]
 by_cases c1:24<b.an.length
 ·have cI:(24:Int)<b.an.length:=by omega
  rw[if_pos c1];simp[f227,cI]
 have e:¬(24:Int)<b.an.length:=by omega
 rw[if_neg c1];simp[f227,e];refine lp (α:=Nat) (fun i=>⟨[(16,.p (.int .i64 i)),(15,.p (.int .i64 b.an.length)),(14,.p (.seq (b.an.map bC))),(2,.func 228 [] [.ptr 0 []]),(0,.p (.seq (b.an.map bC)))],[.box false (.p (bR t))]⟩) (fun i=>i<=b.an.length/\∀j,j<i->gV (gW t) b.an j=0) (fun i=>b.an.length-i) 0 (by simp) ?_;rintro i ⟨k1,k2⟩
 by_cases hk:i<b.an.length
 ·have gk:=aw.et hk;have m:=ct (i:=i) (by omega);have a:=aAn t (b.sp i) (b.an.take i) h l (d _ (ay gk)) (by rw[bf];omega) (fun o k=>by
   obtain⟨j,f,rfl⟩:=a4.1 k;rw[bf]at f;rw[List.getElem_take];have:=k2 j (by omega);have g:=aw.et (t:=b) (i:=j) (by omega);rw[gV,g]at this;rw[aw.lK (by omega)];exact⟨d _ (ay g),Ca this⟩)
  rw[bo]at a
  by_cases he:gW t (b.an.take i) (b.sp i)=0
  ·rw[he]at a;have:=tG k2 gk he;simp[hk,gk,aa];refine⟨⟨k1,KZ _⟩,?_⟩;refine ef a [0] ?_;simp[m,aa,bm,sig];exact rd (i+1) ⟨hk,this⟩
  ·have c:=tH k2 gk he;rw[c];simp[hk,gk,aa];refine⟨⟨k1,KZ _⟩,?_⟩;refine ef a [0] ?_;simp[he,aa,bm,sig];exact de.og (by simp) (by simp) (by simp) (by simp) (by simp)
 ·have:i=b.an.length:=by omega
  subst this;rw[pC.2 k2];simp
theorem GY(t b:aw)(a:jr t)(c:jt b):au prog 140 [bR t,.seq (b.an.map bC)] (.int .i64 (im t b)):=by
 have k1:=SW t a;refine aG nf HI mix (by simp[f140]) ?_;rw[im]
 by_cases h:ij t=0
 ·rw[if_neg (by simp[h])];have k2:=aAo t b a.cl h c;rw[h]at k1;simp[f140,aa];refine Go.ak.c1 k1 ?_;simp[aa];refine cf k2 [0] ?_;simp[aa,bm]
 ·rw[if_pos h];generalize ij t=e at*;simp[f140,aa];refine Go.ak.c1 k1 ?_;simp[h,aa]
noncomputable def mQ(l:List cL):List (PV×PV):=l.map (fun s=>(.str s.name,cO (.from s.pt)))
def gz(l:List cL)(n:List Nat):Option cL:=l.find? (fun s=>decide (s.name=n))
theorem Hm(a b:List Nat):j0 (.str a) (.str b)=some (decide (b=a)):=by
 rw[j0]
 by_cases h:b=a
 ·simp[h]
 ·simp[h];exact fun e=>h e.symm
@[simp] theorem Hx(T:TypeId)(q:List Nat):∀l:List cL,ga prog T (mQ l) (.str q)=some ((gz l q).map (fun s=>cO (.from s.pt)))
 |[]=>rfl
 |p::r=>by
  have:=Hx T q r;rw[mQ]at this;rw[mQ,a6,ga,qJ,Hm,gz,bl]
  ·by_cases h:p.name=q
   ·simp[h]
   ·simp[h,this,gz]
  ·intro u fs h;cases h
theorem Hd(q:cL):∀{l:List cL},gz l q.name=none->gA (mQ l) (.str q.name) (cO (.from q.pt))=mQ (l++[q])
 |[],_=>rfl
 |p::r,h=>by
  rw[gz,bl]at h
  by_cases e:p.name=q.name
  ·simp[e]at h
  ·simp[e]at h;have:=Hd q (l:=r) (by rw[gz,a7];simpa using h);rw[mQ]at this⊢;rw[a6,gA,Hm,this];simp[e,mQ]
noncomputable def nZ(t b:aw):PV:=.st 128 [bR t,.seq (b.an.map bC),.eB (mQ b.an),eF (.width t.ba)]
@[simp] theorem aPi(t b:aw):aI (nZ t b)=.agg 128:=rfl
@[simp] theorem aNJ(t b:aw):bW (nZ t b)=[bR t,.seq (b.an.map bC),.eB (mQ b.an),eF (.width t.ba)]:=rfl
structure x9(b:aw):Prop where
 sl:b.an.length<=24
 sp:∀s∈b.an,vk s
 ne:∀i,i<b.an.length->gz (b.an.take i) (b.sp i).name=none
theorem Hg{t b:aw}(l:jt b)(h:im t b=0):ij t=0/\x9 b/\(∀s∈b.an,0<=t.on (vP s.pt)):=by
 rw[im]at h
 by_cases c:ij t=0
 case neg=>rw[if_pos c]at h;exact absurd h c
 rw[if_neg (by simp[c]),re]at h
 by_cases f:24<b.an.length
 ·rw[if_pos f]at h;omega
 rw[if_neg f]at h;have k:=pC.1 h;have d:∀i,i<b.an.length->gW t (b.an.take i) (b.sp i)=0:=fun i hi=>by
  have:=k i hi
  rwa [gV,aw.et hi]at this
 refine⟨c,⟨by omega,fun s hs=>?_,fun i hi=>?_⟩,fun s hs=>?_⟩
 ·obtain⟨j,a,rfl⟩:=a4.1 hs;rw[aw.lK a];exact⟨l.sp _ (ay (aw.et a)),Ca (d j a)⟩
 ·have:=d i hi;rw[gW]at this
  split at this
  ·omega
  split at this
  ·omega
  rename_i g;rw[gz,a7];intro x hx e;exact g (bi.2 ⟨x,hx,e⟩)
 ·obtain⟨j,a,rfl⟩:=a4.1 hs;rw[aw.lK a];have:=d j a;rw[gW]at this
  split at this
  ·omega
  split at this
  ·omega
  split at this
  ·contradiction
  split at this
  ·omega
  omega
def q8:PV:=.st 128 [.st 43 [.aH,.int .i64 0,.aH,.aH],.aH,.fF,.st 126 [.st 124 [.int .i64 0,.aH],.st 124 [.int .i64 0,.aH]]]
@[simp] theorem aPQ:aI q8=.agg 128:=rfl
theorem Hr(t b:aw)(f:0<=t.ba)(g:t.ba<=1000000)(j:x9 b):au prog 141 [bR t,.seq (b.an.map bC)] (nZ t b):=by
 obtain⟨q,k,e⟩:=j;have k1:=awE t.ba f g;refine aG nf HG mix (by simp[f141]) ?_;rw[nZ];simp[f141,aa];refine e1 k1 ?_;simp[aa];refine⟨rfl,?_⟩;refine lp (α:=Nat) (fun i=>⟨[(17,.p (.int .i64 i)),(16,.p (.int .i64 b.an.length)),(15,.p (.seq (b.an.map bC))),(5,.ptr 3 []),(4,.ptr 1 [])],[.box false (.p (bR t)),.box false (.p q8),.map false (mQ (b.an.take i)),.box false (.st 128 [.p (bR t),.p (.seq (b.an.map bC)),.map 2,.p (eF (.width t.ba))])]⟩) (fun i=>i<=b.an.length) (fun i=>b.an.length-i) 0 (by simp) ?_ (hh:=by simp[q8,mQ]);rintro i i1
 by_cases hi:i<b.an.length
 ·have a:=aw.et hi;have m:=ct (i:=i) (by omega);obtain⟨⟨s,n⟩,o⟩:=k _ (ay a);obtain⟨g1,g2⟩:=jw o;have h:=EC (b.sp i).pt g1 g2 n;have d:=Hd (b.sp i) (e i hi);have l:b.an.take (i+1)=b.an.take i++[b.sp i]:=by rw[a1,a];rfl
  have c:=Hx 9 (b.sp i).name (b.an.take i);rw[e i hi]at c;rw[<-l]at d;generalize NV.from (b.sp i).pt=r at*;simp[hi,a,aa];refine e1 h ?_;simp[c,d,m,aa];exact rd (i+1) (by omega)
 ·have:i=b.an.length:=by omega
  subst this;simp[aa]
def QP(p q:V2):PV:=.st 121 [eV p,eV q]
@[simp] theorem aPI(p q:V2):aI (QP p q)=.agg 121:=rfl
@[simp] theorem aN8(p q:V2):bW (QP p q)=[eV p,eV q]:=rfl
theorem GQ{b:aw}(a:x9 b){i:Nat}(hi:i<b.an.length):gz b.an (b.sp i).name=some (b.sp i):=by
 have h:=a.ne i hi;rw[gz]at h⊢;have e:b.an=b.an.take i++(b.sp i::b.an.drop (i+1)):=by
  rw[<-aw.lK hi,<-a5 hi,List.take_append_drop]
 generalize b.sp i=x at*;rw[e,List.find?_append,h];simp
def q9(t b:aw)(aV dD:List Nat):PV:=.st 28 [cC t,.seq (b.an.map bC),.str aV,.str dD]
@[simp] theorem aPz(t b:aw)(aV dD:List Nat):aI (q9 t b aV dD)=.agg 28:=rfl
@[simp] theorem aN0(t b:aw)(aV dD:List Nat):bW (q9 t b aV dD)=[cC t,.seq (b.an.map bC),.str aV,.str dD]:=rfl
theorem yE(b:aw)(name:List Nat)(k:b.an.length<=1000000):au prog 16 [.seq (b.an.map bC),.str name] (.int .i64 (jk b name)):=by
 refine aG nf Q6 mix (by simp[f16]) ?_;simp[f16,aa];refine lp (α:=Nat) (fun i=>⟨[(5,.p (.int .i64 i)),(1,.p (.str name)),(0,.p (.seq (b.an.map bC)))],[]⟩) (fun i=>i<=b.an.length/\∀j,j<i->¬(b.sp j).name=name) (fun i=>b.an.length-i) 0 (by simp) ?_;rintro i ⟨h,d⟩
 by_cases hi:i<b.an.length
 ·have e:=aw.et hi;have g:=ct (i:=i) (by omega)
  by_cases a:(b.sp i).name=name
  ·have:jk b name=i:=by
    have:b.an.findIdx? (fun s=>decide (s.name=name))=some i:=by
     rw[a8];refine⟨hi,by rw[aw.lK];simp[a],fun j c=>?_⟩;rw[aw.lK];simp[d j c]
    rw[jk,this]
   simp[hi,e,a,this,aa]
  ·simp[hi,e,a,g,aa];exact rd (i+1) ⟨hi,fun j c=>by
    by_cases f:j=i
    ·subst f;exact a
    ·exact d j (by omega)⟩
 ·have:i=b.an.length:=by omega
  subst this;have:jk b name= -1:=by
   have:b.an.findIdx? (fun s=>decide (s.name=name))=none:=by
    rw[a9];intro s hs;obtain⟨j,c,rfl⟩:=a4.1 hs;rw[aw.lK];simp[d j c]
   rw[jk,this]
  simp[this,aa]
def hasB(b:aw)(name:List Nat)(i:Nat):Prop:=jk b name=i/\i<b.an.length/\gz b.an name=some (b.sp i)
theorem Hj(b:aw)(name:List Nat):(∃i,hasB b name i)\/(jk b name= -1/\gz b.an name=none):=by
 cases h:b.an.findIdx? (fun s=>decide (s.name=name))with
 |some i=>
  left;have c:=h;rw[a8]at c;obtain⟨a,d,e⟩:=c;refine⟨i,by rw[jk,h],a,?_⟩;rw[gz,List.find?_eq_some_iff_getElem];rw[aw.lK a]at d;exact⟨d,i,a,aw.lK a,fun j f=>by have:=e j f;simpa using this⟩
 |none=>
  right;refine⟨by rw[jk,h],?_⟩;rw[a9]at h;rw[gz,a7];intro s hs;have:=h s hs;simpa using this
structure RV(t b:aw)(aV dD:List Nat)(i j:Nat):Prop where
 jO:ij t=0
 tl:t.cs.length<=1000000
 L:x9 b
 ER:∀s∈b.an,bt 60 (vP s.pt)
 ci:hasB b aV i
 bj:hasB b dD j
theorem RV.at{t b:aw}{aV dD:List Nat}{i j:Nat}(h:RV t b aV dD i j){k:Nat}(hk:k<b.an.length):eV (vP (b.sp k).pt)=dm (b.sp k).pt/\bt 60 (vP (b.sp k).pt):=by
 have m:=ay (aw.et hk);exact⟨(vL (h.L.sp _ m).2).1,h.ER _ m⟩
def yC(t b:aw)(aV dD:List Nat):PV:=.st 65 [bR t,.seq (b.an.map bC),.str aV,.str dD]
@[simp] theorem aPy(t b:aw)(aV dD:List Nat):aI (yC t b aV dD)=.agg 65:=rfl
@[simp] theorem aNZ(t b:aw)(aV dD:List Nat):bW (yC t b aV dD)=[bR t,.seq (b.an.map bC),.str aV,.str dD]:=rfl
noncomputable def QO(t b:aw)(aV dD:List Nat):PV:=.st 156 [nZ t b,yC t b aV dD]
@[simp] theorem aPG(t b:aw)(aV dD:List Nat):aI (QO t b aV dD)=.agg 156:=rfl
@[simp] theorem aN6(t b:aw)(aV dD:List Nat):bW (QO t b aV dD)=[nZ t b,yC t b aV dD]:=rfl
def aMD:PV:=.st 43 [.aH,.int .i64 0,.aH,.aH]
def FG:PV:=.st 65 [aMD,.aH,.str [],.str []]
def SC:PV:=.st 156 [q8,FG]
@[simp] theorem aPS:aI FG=.agg 65:=rfl
@[simp] theorem aPT:aI SC=.agg 156:=rfl
@[simp] theorem aOb:bW SC=[q8,FG]:=rfl
def pA(n:Nat)(l:List cL):Bool:=!((decide (n<l.length)&&decide (l.length<=24))||decide (26<l.length))&&l.all iL
theorem GO(b:aw)(n:Nat)(v:b.an.length<=1000000)(w:n<=1000):au prog 41 [.seq (b.an.map bC),.int .i64 n] (.bool (pA n b.an)):=by
 refine aG nf Rb mix (by simp[f41]) ?_;have o:pA n b.an=(!((decide (n<b.an.length)&&decide (b.an.length<=24))||decide (26<b.an.length))&&b.an.all iL):=rfl;have tail:(n<b.an.length->¬b.an.length<=24)->¬26<b.an.length->pA n b.an=b.an.all iL:=fun d a=>by
  rw[o]
  by_cases h:n<b.an.length
  ·have:=d h;simp[h,this,a]
  ·simp[h,a]
 have loop:(n<b.an.length->¬b.an.length<=24)->¬26<b.an.length->∀i,i<b.an.length->(iL (b.sp i)=false->pA n b.an=false):=fun d a i hi h=>by
  rw[tail d a];exact jD (aw.et hi) h
 generalize pA n b.an=R at*
 by_cases c1:n<b.an.length/\b.an.length<=24
 ·have z:(n:Int)<b.an.length:=by omega
  have e:(b.an.length:Int)<=24:=by omega
  have l:R=false:=by rw[o];simp[c1]
  simp[f41,aa,c1.1,e,l]
 by_cases c2:26<b.an.length
 ·have g:(26:Int)<b.an.length:=by omega
  have e:¬(b.an.length:Int)<=24:=by omega
  have l:R=false:=by rw[o];simp[c2]
  by_cases c3:n<b.an.length
  ·simp[f41,aa,c3,e,g,l]
  ·simp[f41,aa,c3,g,l]
 have g:¬(26:Int)<b.an.length:=by omega
 have tl:=tail (fun d a=>c1 ⟨d,a⟩) c2;have j:=loop (fun d a=>c1 ⟨d,a⟩) c2;clear tail loop o
 by_cases c3:n<b.an.length
 all_goals
  have e:n<b.an.length->¬(b.an.length:Int)<=24:=fun h=>by omega
  first
  |(have e:=e c3;simp[f41,aa,c3,e,g])
  |simp[f41,aa,c3,g]
  refine lp (α:=Nat) (fun i=>⟨[(5,.p (.int .i64 i)),(0,.p (.seq (b.an.map bC)))],[]⟩) (fun i=>i<=b.an.length/\(b.an.take i).all iL=true) (fun i=>b.an.length-i) 0 (by simp) ?_;rintro i ⟨k1,k2⟩
  by_cases hi:i<b.an.length
  ·have c:=aw.et hi;have u:=ct (i:=i) (by omega);have k:=ni (b.sp i).pt.x 40;have q:=ni (b.sp i).pt.y 40;have m:iL (b.sp i)=(decide ((b.sp i).name.length<=40)&&(decide ((b.sp i).pt.x.length<=40)&&decide ((b.sp i).pt.y.length<=40))):=rfl;have j:=j i hi
   by_cases t:(b.sp i).name.length<=40
   case neg=>
    have f:(40:Int)<(b.sp i).name.length:=by omega
    have:=j (by rw[m];simp[t]);simp[hi,c,f,this,aa]
   have f:¬(40:Int)<(b.sp i).name.length:=by omega
   by_cases a2:(b.sp i).pt.x.length<=40
   case neg=>
    have r:¬((b.sp i).pt.x.length:Int)<=40:=by omega
    rw[decide_eq_false r]at k;have:=j (by rw[m];simp[a2]);simp[hi,c,f,aa];refine Go.ak.c2 k ?_;simp[this,aa]
   have r:((b.sp i).pt.x.length:Int)<=40:=by omega
   rw[decide_eq_true r]at k
   by_cases a3:(b.sp i).pt.y.length<=40
   case neg=>
    have s:¬((b.sp i).pt.y.length:Int)<=40:=by omega
    rw[decide_eq_false s]at q;have:=j (by rw[m];simp[a3]);simp[hi,c,f,aa];refine Go.ak.c2 k ?_;simp[hi,c,aa];refine Go.ak.c2 q ?_;simp[this,aa]
   have s:((b.sp i).pt.y.length:Int)<=40:=by omega
   rw[decide_eq_true s]at q;simp[hi,c,f,aa];refine Go.ak.c2 k ?_;simp[hi,c,aa];refine Go.ak.c2 q ?_;simp[u,aa];exact rd (i+1) ⟨hi,by rw[pD c,k2,m];simp[t,a2,a3]⟩
  ·have:i=b.an.length:=by omega
   subst this;rw[ax]at k2;rw[tl,k2];simp
def pj(p:cw)(D:Nat):Bool:=fh p.x D&&fh p.y D
def u7(t b:aw)(n D:Nat):Bool:=
 ml t&&(pA n b.an&&(decide (b.an.length<=n)&&(decide (im t b=0)&&(decide (t.an.length<=8)&&(t.bn.all (fun p=>fh p.a D&&fh p.b D)&&(t.an.all (fun s=>pj s.pt D)&&b.an.all (fun s=>pj s.pt D)))))))
theorem ZW(t b:aw)(n D:Nat)(J:jr t)(H:jt b)(I:n<=1000)(N:D<=1000):au prog 43 [cC t,.seq (b.an.map bC),.int .i64 n,.int .i64 D] (.bool (u7 t b n D)):=by
 obtain⟨C,E,F,A,B⟩:=J;obtain⟨G,z⟩:=H;have j:=Gz t C E F;have l:=GO b n G I;have M:=yB t b ⟨C,E,F,A,B⟩ ⟨G,z⟩;refine aG nf Rd mix (by simp[f43]) ?_;rw[u7];generalize im t b=e at*;cases v:ml t
 ·rw[v]at j;simp[f43,aa];refine Go.ak.c1 j ?_;simp[aa]
 rw[v]at j;cases w:pA n b.an
 ·rw[w]at l;simp[f43,aa];refine Go.ak.c1 j ?_;simp[aa];refine Go.ak.c2 l ?_;simp[aa]
 rw[w]at l;simp[f43,aa];refine Go.ak.c1 j ?_;simp[aa];refine Go.ak.c2 l ?_
 by_cases m:b.an.length<=n
 case neg=>
  have r:n<b.an.length:=by omega
  simp[m,r,aa]
 have r:¬n<b.an.length:=by omega
 simp[m,r,aa];refine Go.ak.c2 M ?_
 by_cases k:e=0
 case neg=>simp[k,aa]
 by_cases o:t.an.length<=8
 case neg=>
  have u:(8:Int)<t.an.length:=by omega
  simp[k,o,u,aa]
 have u:¬(8:Int)<t.an.length:=by omega
 simp[k,o,u,aa];refine lp (α:=Nat) (fun i=>⟨[(9,.p (.int .i64 i)),(4,.ptr 0 []),(3,.p (.int .i64 D)),(1,.p (.seq (b.an.map bC)))],[.box false (.p (cC t))]⟩) (fun i=>i<=t.bn.length/\(t.bn.take i).all (fun p=>fh p.a D&&fh p.b D)=true) (fun i=>t.bn.length-i) 0 (by simp) ?_;rintro i ⟨i1,i2⟩
 by_cases hi:i<t.bn.length
 ·have c:=aw.mg hi;have g:=ct (i:=i) (by omega);obtain⟨_,K,L⟩:=A _ (ay c);have d:=A8 (t.pk i).a D K (by omega);have f2:=A8 (t.pk i).b D L (by omega);have bad:(fh (t.pk i).a D&&fh (t.pk i).b D)=false->t.bn.all (fun p=>fh p.a D&&fh p.b D)=false:=fun h=>jD c h;cases f:fh (t.pk i).a D
  ·rw[f]at d;rw[bad (by rw[f];rfl)];simp[hi,c,aa];refine Go.ak.c2 d ?_;simp[aa]
  rw[f]at d;cases a2:fh (t.pk i).b D
  ·rw[a2]at f2;rw[bad (by rw[a2];simp)];simp[hi,c,aa];refine Go.ak.c2 d ?_;simp[hi,c,aa];refine Go.ak.c2 f2 ?_;simp[aa]
  rw[a2]at f2;simp[hi,c,aa];refine Go.ak.c2 d ?_;simp[hi,c,aa];refine Go.ak.c2 f2 ?_;simp[g,aa];exact rd (i+1) ⟨hi,by rw[pD c,i2,f,a2];rfl⟩
 have:i=t.bn.length:=by omega
 subst this;rw[ax]at i2;rw[i2];clear i1 i2 hi;simp[aa];refine lp (α:=Nat) (fun i=>⟨[(10,.p (.int .i64 i)),(4,.ptr 0 []),(3,.p (.int .i64 D)),(1,.p (.seq (b.an.map bC)))],[.box false (.p (cC t))]⟩) (fun i=>i<=t.an.length/\(t.an.take i).all (fun s=>pj s.pt D)=true) (fun i=>t.an.length-i) 0 (by simp) ?_;rintro i ⟨i1,i2⟩
 by_cases hi:i<t.an.length
 ·have c:=aw.et hi;have g:=ct (i:=i) (by omega);have d:=D6 (t.sp i).pt D (B _ (ay c)).2 (by omega);have q:pj (t.sp i).pt D=(fh (t.sp i).pt.x D&&fh (t.sp i).pt.y D):=rfl;rw[<-q]at d;cases f:pj (t.sp i).pt D
  ·rw[f]at d;rw[jD c f];simp[hi,c,aa];refine Go.ak.c2 d ?_;simp[aa]
  rw[f]at d;simp[hi,c,aa];refine Go.ak.c2 d ?_;simp[g,aa];exact rd (i+1) ⟨hi,by rw[pD c,i2,f];rfl⟩
 have:i=t.an.length:=by omega
 subst this;rw[ax]at i2;rw[i2];clear i1 i2 hi;simp[aa];refine lp (α:=Nat) (fun i=>⟨[(11,.p (.int .i64 i)),(3,.p (.int .i64 D)),(1,.p (.seq (b.an.map bC)))],[]⟩) (fun i=>i<=b.an.length/\(b.an.take i).all (fun s=>pj s.pt D)=true) (fun i=>b.an.length-i) 0 (by simp) ?_;rintro i ⟨i1,i2⟩
 by_cases hi:i<b.an.length
 ·have c:=aw.et hi;have g:=ct (i:=i) (by omega);have d:=D6 (b.sp i).pt D (z _ (ay c)).2 (by omega);have q:pj (b.sp i).pt D=(fh (b.sp i).pt.x D&&fh (b.sp i).pt.y D):=rfl;rw[<-q]at d;cases f:pj (b.sp i).pt D
  ·rw[f]at d;rw[jD c f];simp[hi,c,aa];refine Go.ak.c2 d ?_;simp[aa]
  rw[f]at d;simp[hi,c,aa];refine Go.ak.c2 d ?_;simp[g,aa];exact rd (i+1) ⟨hi,by rw[pD c,i2,f];rfl⟩
 have:i=b.an.length:=by omega
 subst this;rw[ax]at i2;rw[i2];simp[m,k,o,aa]
def vK(t b:aw)(aV dD:List Nat)(n:Nat):Bool:=
 decide (aV.length<=40)&&(decide (dD.length<=40)&&(ml t&&(pA n b.an&&(decide (im t b≠0)||u7 t b n 9))))
theorem TG(t b:aw)(aV dD:List Nat)(n:Nat)(a:jr t)(i:jt b)(k:n<=1000):au prog 7 [q9 t b aV dD,.int .i64 n] (.bool (vK t b aV dD n)):=by
 have g:=Gz t a.cl a.pl a.sl;have l:=GO b n i.sl k;have m:=yB t b a i;have o:=ZW t b n 9 a i k (by decide);refine aG nf Rp mix (by simp[f7]) ?_;rw[vK];generalize im t b=e at*;generalize u7 t b n 9=p at*
 by_cases d:aV.length<=40
 case neg=>
  have c:(40:Int)<aV.length:=by omega
  simp[f7,d,c,aa]
 have c:¬(40:Int)<aV.length:=by omega
 by_cases a2:dD.length<=40
 case neg=>
  have f:(40:Int)<dD.length:=by omega
  simp[f7,a2,c,f,aa]
 have f:¬(40:Int)<dD.length:=by omega
 cases j:ml t
 ·rw[j]at g;simp[f7,c,f,aa];refine Go.ak.c1 g ?_;simp[aa]
 rw[j]at g;simp[f7,d,a2,c,f,aa];refine Go.ak.c1 g ?_;simp[aa];refine Go.ak.c2 l ?_;cases q:pA n b.an
 ·simp[aa]
 simp[aa];refine Go.ak.c2 m ?_
 by_cases h:e=0
 case neg=>simp[d,a2,h,aa]
 simp[h,aa];refine Go.ak.c4 o ?_;simp[d,a2,h,aa]
theorem T4(b:aw)(f:b.an.length<=1000000):au prog 12 [.seq (b.an.map bC)] (.seq (b.an.map bC)):=by
 have g:(1000000:Nat)<c8:=by decide
 have w1:av.wrap 1=1:=by decide
 refine aG nf Q3 mix (by simp[f12]) ?_;simp[f12,aa];refine lp (α:=Nat) (fun i=>⟨[(8,.p (.int .i64 i)),(7,.p (.int .i64 b.an.length)),(6,.p (.seq (b.an.map bC))),(3,.sl 0 i 3 0 i)],[.arr .grow i 3 ((b.an.map (AV.p∘bC)).take i)]⟩) (fun i=>i<=b.an.length) (fun i=>b.an.length-i) 0 (by simp) ?_;rintro i i1
 by_cases hi:i<b.an.length
 ·have a:=aw.et hi;have e:=ct (i:=i) (by omega);have d:(b.an.map (AV.p∘bC)).take (i+1)=(b.an.map (AV.p∘bC)).take i++[.p (bC (b.sp i))]:=by
   rw[a1,List.getElem?_map,a];rfl
  have c:min i b.an.length=i:=by omega
  simp[hi,a,e,c,aa];exact⟨by omega,rd (i+1) hi (hh:=by simp[d]) (hr2:=by simp[kP])⟩
 ·have:i=b.an.length:=by omega
  subst this;simp[aa]
open Go.Proofs Go.Proofs.YthmfmhbicipdmaaGreatDoor
structure yj where
 t:aw
 b:aw
 aV:List Nat
 dD:List Nat
def QN(s:yj):PV:=q9 s.t s.b s.aV s.dD
structure RW(s:yj):Prop where
 t:jr s.t
 b:jt s.b
 aV:jB s.aV
 dD:jB s.dD
section
variable{H:Type}{W:World}{ad:Nat->Prop}
theorem aLS:∃a b:Field,prog.underlying 57=some (.struct #[a,b])/\a.type=9/\b.type=32:=⟨_,_,underlying57,rfl,rfl⟩
theorem Sq:prog.underlyingId 57=56:=by kernel_rfl
theorem TJ{m n:Nat}(s:m=n+2){d:DataW H}(h:∃cs,aU prog W ad (bJ prog (m+1) 57 d) cs)(o:Rows.uptoBulk d<=1048576):∃p:cL,bJ prog (m+1) 57 d=bC p/\nT p/\2<=Rows.uptoBulk d:=by
 obtain⟨cs,h⟩:=h;obtain⟨f0,f1,g,t0,t1⟩:=aLS;cases d with
 |agg l=>
  have f:∀x∈l,Rows.uptoBulk x<=1048576:=fun x hx=>by
   have:=qE.uT hx;rw[Rows.uptoBulk]at o;omega
  simp only[bJ,g,aU]at h⊢;obtain⟨u,t,e,c,_⟩:=h;rw[Sq,Sn]at e;cases e
  match l,c with
  |[],c=>simp[bk]at c
  |[x],c=>simp[bk]at c
  |x::y::r,c=>
   have:=yn x;simp only[bb,a6,bk,be,bw,t0,t1]at c⊢;obtain⟨c0,_,_,g1,_,c1,_,_,g2,_⟩:=c;subst s;obtain⟨a,i,k⟩:=vE (n:=n+1) ⟨c0,g1⟩ (f x (by simp));obtain⟨b,j,q⟩:=Dr (n:=n) ⟨c1,g2⟩ (f y (by simp));refine⟨⟨a,b⟩,by rw[i,j,Sq];rfl,⟨k,q⟩,?_⟩;rw[Rows.uptoBulk,Rows.uptoBulkAll];omega
 |_=>simp only[bJ,g,aU]at h
theorem aLW:∃a b f2 f3:Field,prog.underlying 29=some (.struct #[a,b,f2,f3])/\a.type=26/\b.type=27/\f2.type=9/\f3.type=9:=⟨_,_,_,_,underlying29,rfl,rfl,rfl,rfl⟩
theorem Sv:prog.underlyingId 29=28:=by kernel_rfl
theorem aK8{m n:Nat}(s:m=n+5){d:DataW H}(h:∃cs,aU prog W ad (bJ prog (m+1) 29 d) cs)(f:Rows.uptoBulk d<=1048576):∃t:yj,bJ prog (m+1) 29 d=QN t/\True/\RW t:=by
 obtain⟨cs,h⟩:=h;obtain⟨f0,f1,f2,f3,i,t0,t1,t2,t3⟩:=aLW;cases d with
 |agg l=>
  have e:∀x∈l,Rows.uptoBulk x<=1048576:=fun x hx=>by
   have:=qE.uT hx;rw[Rows.uptoBulk]at f;omega
  simp only[bJ,i,aU]at h⊢;obtain⟨E,D,g,c,_⟩:=h;rw[Sv,aLu]at g;cases g
  match l,c with
  |[],c=>simp[bk]at c
  |[x],c=>simp[bk]at c
  |[x,y],c=>simp[bk]at c
  |[x,y,z],c=>simp[bk]at c
  |x::y::z::w::r,c=>
   simp only[bb,a6,bk,be,bw,t0,t1,t2,t3]at c⊢;obtain⟨c0,_,_,g0,_,c1,_,_,g1,_,c2,_,_,g2,_,c3,_,_,g3,_⟩:=c;subst s;obtain⟨a,j,_,o⟩:=aLx (n:=n) rfl ⟨c0,g0⟩ (e x (by simp));obtain⟨b,k,p,C⟩:=yv (n:=n+4) aLR (F:=bC) (ok:=nT) (fun d q f=>TJ (n:=n+1) rfl q f) ⟨c1,g1⟩ (e y (by simp));obtain⟨u,eu,A⟩:=vE (n:=n+4) ⟨c2,g2⟩ (e z (by simp));obtain⟨v,ev,B⟩:=vE (n:=n+4) ⟨c3,g3⟩ (e w (by simp));exact⟨⟨a,⟨[],0,[],b⟩,u,v⟩,by rw[j,k,eu,ev,Sv];rfl,trivial,o,⟨C,p⟩,A,B⟩
 |_=>simp only[bJ,i,aU]at h
theorem TO{d:DataW H}(h:∃cs,aU prog W ad (bJ prog 8 29 d) cs)(a:Rows.uptoBulk d<=1048576):∃t:yj,bJ prog 8 29 d=QN t/\True/\RW t:=aK8 (n:=2) rfl h a
end
namespace Hk
mutual
def tC:PV->PV->Bool
 | .int .i64 a,.int .i64 b=>ph a b
 | .int .u64 a,.int .u64 b=>ph a b
 | .bool a,.bool b=>a==b
 | .str a,.str b=>tA a b
 | .aH,.aH=>true
 | .fF,.fF=>true
 | .cT f a,.cT g b=>bif f==g then mi a b else false
 | .seq a,.seq b=>mi a b
 | .eB a,.eB b=>vo a b
 | .st u a,.st v b=>bif b1 u v then mi a b else false
 | .aC a,.aC b=>mi a b
 | .func f a b,.func g c d=>bif b1 f g then(bif mi a c then mi b d else false)else false
 | .cm a,.cm b=>tC a b
 |_,_=>false
def mi:List PV->List PV->Bool
 |[],[]=>true
 |a::l,b::m=>bif tC a b then mi l m else false
 |_,_=>false
def vo:List (PV×PV)->List (PV×PV)->Bool
 |[],[]=>true
 |(a,c)::l,(b,d)::m=>bif tC a b then(bif tC c d then vo l m else false)else false
 |_,_=>false
end
mutual
theorem wV:∀{a b:PV},tC a b=true->a=b
 |a,b,h=>by
  unfold tC at h
  split at h
  ·rw[Aw h]
  ·rw[Aw h]
  ·rw[eq_of_beq h]
  ·rw[DH h]
  ·rfl
  ·rfl
  ·rename_i f a g b;cases hf:f==g
   ·rw[hf]at h;cases h
   ·rw[hf,cond_true]at h;rw[eq_of_beq hf,pX h]
  ·rw[pX h]
  ·rw[MX h]
  ·simp only[ac]at h
   split at h
   ·rename_i i;rw[b0 i,pX h]
   ·cases h
  ·rw[pX h]
  ·simp only[ac]at h
   split at h
   ·rename_i i
    split at h
    ·rename_i e;rw[b0 i,pX e,pX h]
    ·cases h
   ·cases h
  ·rw[wV h]
  ·cases h
theorem pX:∀{a b:List PV},mi a b=true->a=b
 |[],[],_=>rfl
 |[],_::_,h=>by simp[mi]at h
 |_::_,[],h=>by simp[mi]at h
 |a::l,b::m,h=>by
  simp only[mi,ac]at h
  split at h
  ·rename_i e;rw[wV e,pX h]
  ·cases h
theorem MX:∀{a b:List (PV×PV)},vo a b=true->a=b
 |[],[],_=>rfl
 |[],_::_,h=>by simp[vo]at h
 |_::_,[],h=>by simp[vo]at h
 |(a,c)::l,(b,d)::m,h=>by
  simp only[vo,ac]at h
  split at h
  ·rename_i e
   split at h
   ·rename_i j;rw[wV e,wV j,MX h]
   ·cases h
  ·cases h
end
def xl:List (ao×List PV×PV)->ao->List PV->Option PV
 |[],f,vs=>hk f vs
 |(g,us,v)::r,f,vs=>bif b1 g f then(bif mi us vs then some v else xl r f vs)else xl r f vs
def lM:List (ao×List PV×PV)->Prop
 |[]=>True
 |(g,us,v)::r=>au prog g us v/\lM r
theorem wD:∀{l m:List (ao×List PV×PV)},lM l->lM m->lM (l++m)
 |[],_,_,h=>h
 |_::_,_,h,a=>⟨h.1,wD h.2 a⟩
theorem CO:∀{l:List (ao×List PV×PV)},lM l->∀f vs v,xl l f vs=some v->au prog f vs v
 |[],_,f,vs,v,h=>aAy h
 |(g,us,w)::r,a,f,vs,v,h=>by
  simp only[xl,ac]at h
  split at h
  ·rename_i b
   split at h
   ·rename_i hs;simp only[Option.some.injEq]at h;subst h;rw[<-pX hs,<-b0 b];exact a.1
   ·exact CO a.2 f vs v h
  ·exact CO a.2 f vs v h
def RH(v:PV):Option PV->Bool
 |some w=>tC v w
 |none=>false
theorem aJh{v:PV}{o:Option PV}(h:RH v o=true):o=some v:=by
 cases o with
 |none=>cases h
 |some w=>rw[wV h]
def aKD:ao->ao->Nat:=fun _ _=>0
theorem cR(l:List (ao×List PV×PV))(a:lM l){f:ao}{vs:List PV}{v:PV}(h:RH v (Sg (xl l) aKD f vs)=true):au prog f vs v:=Nt (CO a) (aJh h)
end Hk
namespace jP
def T:PV:=.st 43 [.cT true [.st 201 [.int .i64 0,.int .i64 0],.st 201 [.int .i64 2000,.int .i64 0],.st 201 [.int .i64 2000,.int .i64 1000],.st 201 [.int .i64 0,.int .i64 1000]],.int .i64 30,.cT true [.st 90 [.str [97],.int .i64 0,.str [48],.str [49,47,50,48]],.st 90 [.str [99],.int .i64 1,.str [57,47,50,48],.str [49,49,47,50,48]]],.aH]
def B:PV:=.cT true [.st 56 [.str [99,117,101],.st 31 [.str [53,48,48],.str [53,48,48]]],.st 56 [.str [111,110,101],.st 31 [.str [49,48,48,48],.str [53,48,48]]],.st 56 [.str [116,119,111],.st 31 [.str [49,48,48,48],.str [55,48,48]]]]
def aV:PV:=.str [99,117,101]
def one:PV:=.str [111,110,101]
def X:PV:=.st 65 [T,B,aV,one]
def Y:PV:=.st 156 [.st 128 [T,B,.eB [(.str [99,117,101],.st 130 [.st 126 [.st 124 [.int .i64 500,.aH],.st 124 [.int .i64 1,.aH]],.st 126 [.st 124 [.int .i64 500,.aH],.st 124 [.int .i64 1,.aH]]]),(.str [111,110,101],.st 130 [.st 126 [.st 124 [.int .i64 1000,.aH],.st 124 [.int .i64 1,.aH]],.st 126 [.st 124 [.int .i64 500,.aH],.st 124 [.int .i64 1,.aH]]]),(.str [116,119,111],.st 130 [.st 126 [.st 124 [.int .i64 1000,.aH],.st 124 [.int .i64 1,.aH]],.st 126 [.st 124 [.int .i64 700,.aH],.st 124 [.int .i64 1,.aH]]])],.st 126 [.st 124 [.int .i64 3600,.aH],.st 124 [.int .i64 1,.aH]]],.st 65 [T,B,.str [99,117,101],.str [111,110,101]]]
def WR:PV:=.cT false (.int .i64 0::[.int .i64 1,.int .i64 2,.int .i64 3,.int .i64 4,.int .i64 5,.int .i64 6,.int .i64 7,.int .i64 8,.int .i64 9,.int .i64 10,.int .i64 11,.int .i64 12,.int .i64 13,.int .i64 14,.int .i64 15,.int .i64 16,.int .i64 17,.int .i64 18,.int .i64 19,.int .i64 20,.int .i64 21,.int .i64 22,.int .i64 23,.int .i64 24,.int .i64 25,.int .i64 26,.int .i64 27,.int .i64 28,.int .i64 29,.int .i64 30,.int .i64 31,.int .i64 32]++[.int .i64 33,.int .i64 34,.int .i64 35,.int .i64 36,.int .i64 37,.int .i64 38,.int .i64 39,.int .i64 40,.int .i64 41,.int .i64 42,.int .i64 43,.int .i64 44,.int .i64 45,.int .i64 46,.int .i64 47,.int .i64 48,.int .i64 49,.int .i64 50,.int .i64 51,.int .i64 52,.int .i64 53,.int .i64 54,.int .i64 55,.int .i64 56,.int .i64 57,.int .i64 58,.int .i64 59,.int .i64 60,.int .i64 61,.int .i64 62,.int .i64 63,.int .i64 64])
def k0:List (ao×List PV×PV):=[]
theorem RJ:Hk.lM k0:=trivial
theorem g1:au prog 127 [T] (.int .i64 0):=Hk.cR k0 RJ (by kernel_rfl)
theorem g2:au prog 140 [T,B] (.int .i64 0):=Hk.cR k0 RJ (by kernel_rfl)
def k1:List (ao×List PV×PV):=[(127,[T],.int .i64 0),(140,[T,B],.int .i64 0)]
theorem RL:Hk.lM k1:=⟨g1,g2,trivial⟩
theorem g3:au prog 77 [X] (.aC [Y,.int .i64 0]):=Hk.cR k1 RL (by kernel_rfl)
def k2:List (ao×List PV×PV):=[(77,[X],.aC [Y,.int .i64 0])]++k1
theorem ez:Hk.lM k2:=Hk.wD (l:=[(77,[X],.aC [Y,.int .i64 0])]) ⟨g3,trivial⟩ RL
end jP
end Go.ak
