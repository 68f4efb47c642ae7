import Derived.Test.YtanjnahmbanmaaaGreatDoorPQ
/- Parts of a proof. -/
set_option linter.unusedSimpArgs false
set_option linter.unusedVariables false
set_option linter.unusedSectionVars false
open Go.Proofs.Tryz
open And renaming intro->ab
open Go.IntKind renaming i64->ac
open List renaming take_of_length_le->am, take_length->ao, length_eq_zero_iff->ap, take_add_one->av, mem_map->ax
open Rat renaming intCast_sub->ay, mul_eq_zero->aT, intCast_mul->a0, mul_assoc->a1, div_def->a4
namespace Go.az
open Go.Proofs
set_option maxHeartbeats 4000000
set_option maxRecDepth 100000
theorem Qn(x o:Int):vD x 0 o=x:=by
 rw[vD]
 by_cases h:x=0
 ·simp[h]
 ·simp;omega
theorem Dz{s:S3}(c:s.b=0):jJ s=cV s.a:=by
 rw[jJ,c,show cV (0:Rat)=0 from rfl,Int.zero_mul,Qn]
theorem DR{a b:Rat}:dG a b<0↔a<b:=by
 rw[dG];constructor
 ·intro h
  split at h
  ·assumption
  ·split at h<;>omega
 ·intro h;rw[if_pos h];decide
theorem zK{a:Rat}:cV a<=0↔a<=0:=by
 rw[cV]
 split
 ·grind
 ·split<;>grind
theorem vJ(t:aC)(d:cW)(i:Nat):((cB d).bF (t.b9 i)).neg.q=⟨t.dI (vP d) i,0,0⟩:=by
 have c:((cB d).bF (t.b9 i)).neg.a.q=t.dI (vP d) i:=by
  show -((t.b9 i).bF (NV.from d)).q=_;rw[NV.lZ,aC.zJ,vc,aC.dI,V2.bF,V2.bF]
  grind
 have e:((cB d).bF (t.b9 i)).neg.b.q=0:=by
  show -((t.b9 i).bF ⟨.int 0,.int 0⟩).q=0;rw[NV.lZ];show -((t.b9 i).q.x*0-(t.b9 i).q.y*0)=0
  grind
 rw[NS.q,c,e];rfl
theorem DZ(t:aC)(d:cW)(i:Nat):t.pos (cB d) i=decide (0<t.dI (vP d) i):=by
 rw[aC.pos,vJ,Dz rfl];dsimp only;have:=zK (a:=t.dI (vP d) i)
 by_cases h:0<t.dI (vP d) i
 ·have b:¬cV (t.dI (vP d) i)<=0:=fun e=>by have:=this.1 e;grind
  rw[decide_eq_true h,decide_eq_true (by omega)]
 ·have b:cV (t.dI (vP d) i)<=0:=this.2 (by grind);rw[decide_eq_false h,decide_eq_false (by omega)]
theorem NO(t:aC)(p:cW)(n:NB)(i:Nat):(t.dX (.from p) n i).g.q=(t.fP i).bF ((vP p).sub (eK (t.at i))):=by
 show((t.b9 i).bF ((NV.from p).sub (cF (t.at i)))).q=_;rw[NV.lZ,NV.iK,aC.zJ];rfl
theorem Eg(t:aC)(p d:cW)(i:Nat):(t.dX (.from p) (cB d) i).s.norm.q=t.dI (vP d) i*t.dI (vP d) i:=by
 have h:=vJ t d i;show(((((cB d).bF (t.b9 i)).neg.a).mul (((cB d).bF (t.b9 i)).neg.a)).sub (((((cB d).bF (t.b9 i)).neg.b).mul (((cB d).bF (t.b9 i)).neg.b)).mul (((cB d).bF (t.b9 i)).neg.d))).q=_;rw[NF.iK];show(((cB d).bF (t.b9 i)).neg.q.a)*(((cB d).bF (t.b9 i)).neg.q.a)-(((cB d).bF (t.b9 i)).neg.q.b)*(((cB d).bF (t.b9 i)).neg.q.b)*(((cB d).bF (t.b9 i)).neg.q.d)=_;rw[h]
 grind
theorem X7(t:aC)(p d:cW)(i:Nat)(h:t.dI (vP d) i≠0):((t.dX (.from p) (cB d) i).s.under (t.dX (.from p) (cB d) i).g).a.q=t.gu (vP p) (vP d) i:=by
 have c:=Eg t p d i;have j:=NO t p (cB d) i;have hs:(t.dX (.from p) (cB d) i).s.a.q=t.dI (vP d) i:=congrArg S3.a (vJ t d i);have f:¬(t.dX (.from p) (cB d) i).s.norm.q=0:=by
  rw[c];intro e;rcases aT.1 e with e|e<;>exact h e
 generalize t.dX (.from p) (cB d) i=x at*;rw[NS.under,if_neg f];show x.g.q*x.s.a.q/x.s.norm.q=_;rw[c,j,hs,aC.gu];generalize t.dI (vP d) i=a at*;generalize (t.fP i).bF ((vP p).sub (eK (t.at i)))=b at*
 grind
theorem Xe(t:aC)(p d:cW){i j:Nat}(w:j<i)(hi:0<t.dI (vP d) i)(u:0<t.dI (vP d) j):qO (t.dX (.from p) (cB d) i) (t.dX (.from p) (cB d) j)<0↔t.gu (vP p) (vP d) i<t.gu (vP p) (vP d) j:=by
 have e:∀a b:Nat,((t.dX (.from p) (cB d) b).s.times (t.dX (.from p) (cB d) a).g).q=⟨t.dI (vP d) b*(t.fP a).bF ((vP p).sub (eK (t.at a))),0,0⟩:=by
  intro a b;have r:=NO t p (cB d) a;have hs:(t.dX (.from p) (cB d) b).s.q=⟨t.dI (vP d) b,0,0⟩:=vJ t d b;generalize t.dX (.from p) (cB d) a=x at*;generalize t.dX (.from p) (cB d) b=y at*;rw[NS.q]at hs⊢;injection hs with c f o
  show(⟨y.s.a.q*x.g.q,y.s.b.q*x.g.q,y.s.d.q⟩:S3)=_;rw[c,f,o,r,Rat.zero_mul]
 have hc:(((t.dX (.from p) (cB d) j).s.times (t.dX (.from p) (cB d) i).g).add ((t.dX (.from p) (cB d) i).s.times (t.dX (.from p) (cB d) j).g).neg).q=⟨t.dI (vP d) j*(t.fP i).bF ((vP p).sub (eK (t.at i)))+-(t.dI (vP d) i*(t.fP j).bF ((vP p).sub (eK (t.at j)))),0,0⟩:=by
  have c:=e i j;have f:=e j i;generalize (t.dX (.from p) (cB d) j).s.times (t.dX (.from p) (cB d) i).g=x at*;generalize (t.dX (.from p) (cB d) i).s.times (t.dX (.from p) (cB d) j).g=y at*;rw[NS.q]at c f⊢;injection c with l a2 a3
  injection f with m n v
  show(⟨x.a.q+-y.a.q,x.b.q+-y.b.q,x.d.q⟩:S3)=_;rw[l,a2,a3,m,n,show(0:Rat)+-0=0 by grind]
 rw[qO,hc,Dz rfl];dsimp only;rw[aC.gu,aC.gu];show(if cV _=0 then(i:Int)-(j:Int)else cV _)<0↔_;generalize t.dI (vP d) i=a at*;generalize t.dI (vP d) j=b at*;generalize (t.fP i).bF ((vP p).sub (eK (t.at i)))=g at*;generalize (t.fP j).bF ((vP p).sub (eK (t.at j)))=k at*;have key:b*g+-(a*k)<0↔g/a<k/b:=by
  rw[Rat.div_lt_iff hi,a4,a1,Rat.mul_comm b⁻¹ a,<-a1,<-a4,Rat.lt_div_iff u];constructor<;>intro h<;>grind
 rw[cV]
 by_cases c1:b*g+-(a*k)<0
 ·rw[if_pos c1];exact⟨fun _=>key.1 c1,fun _=>by rw[if_neg (by decide)];decide⟩
 ·rw[if_neg c1];have:¬g/a<k/b:=fun h=>c1 (key.2 h)
  by_cases c2:b*g+-(a*k)=0
  ·rw[if_pos c2,if_pos rfl];exact⟨fun h=>by omega,fun h=>(this h).elim⟩
  ·rw[if_neg c2,if_neg (by decide)];exact⟨fun h=>by omega,fun h=>(this h).elim⟩
theorem Ev(t:aC)(p d:cW):∀m:Nat,match t.fY (.from p) (cB d) m with
  |[]=>t.fF (vP p) (vP d) m=(-1,0)
  |m0::l=>∃j,j<m/\0<t.dI (vP d) j/\jE m0 l=t.dX (.from p) (cB d) j/\t.fF (vP p) (vP d) m=((j:Int),t.gu (vP p) (vP d) j)
 |0=>rfl
 |m+1=>by
  have b:=Ev t p d m;have hs:t.fF (vP p) (vP d) (m+1)=if cV (t.dI (vP d) m)<=0 then t.fF (vP p) (vP d) m else if(t.fF (vP p) (vP d) m).1<0\/dG (t.gu (vP p) (vP d) m) (t.fF (vP p) (vP d) m).2<0 then((m:Int),t.gu (vP p) (vP d) m)else t.fF (vP p) (vP d) m:=rfl
  rw[aC.DS,DZ,hs]
  by_cases a:0<t.dI (vP d) m
  ·rw[decide_eq_true a,if_pos rfl,if_neg (fun h=>by have:=zK.1 h;grind)];generalize n:t.fY (.from p) (cB d) m=L at*;cases L with
   |nil=>
    dsimp only at b;rw[b,if_pos (.inl (by decide))];exact⟨m,by omega,a,zz _,rfl⟩
   |cons m0 l=>
    obtain⟨j,i,e,f,g⟩:=b;rw[List.cons_append];dsimp only;have k:jE m0 (l++[t.dX (.from p) (cB d) m])=sW (jE m0 l) (t.dX (.from p) (cB d) m):=by
     rw[jE,List.foldl_append];rfl
    have hc:=Xe t p d i a e;rw[k,f,g,sW];dsimp only
    by_cases c:t.gu (vP p) (vP d) m<t.gu (vP p) (vP d) j
    ·rw[if_pos (hc.2 c),if_pos (.inr (DR.2 c))];exact⟨m,by omega,a,rfl,rfl⟩
    ·rw[if_neg (fun h=>c (hc.1 h)),if_neg (fun h=>by
      rcases h with h|h
      ·omega
      ·exact c (DR.1 h))]
     exact⟨j,by omega,e,rfl,rfl⟩
  ·rw[decide_eq_false a,if_neg (by decide),if_pos (zK.2 (by grind))];generalize t.fY (.from p) (cB d) m=L at*;cases L with
   |nil=>exact b
   |cons m0 l=>
    obtain⟨j,i,e,f,g⟩:=b;exact⟨j,by omega,e,f,g⟩
theorem P6{dx dy a b c d:Rat}(f:dx*b-dy*a=0)(g:dx*d-dy*c=0)(h:¬a*d-b*c=0):dx=0/\dy=0:=by
 have e1:dx*(a*d-b*c)=0:=by grind
 have e2:dy*(a*d-b*c)=0:=by grind
 constructor
 ·rcases aT.1 e1 with e|e
  ·exact e
  ·exact(h e).elim
 ·rcases aT.1 e2 with e|e
  ·exact e
  ·exact(h e).elim
theorem X6(t:aC)(d:V2)(v:3<=t.cs.length)(hc:t.fB=true)(q:¬(d.x=0/\d.y=0)):∃i,i<t.cs.length/\0<t.dI d i:=by
 refine Decidable.by_contra fun r=>?_;have p:∀i,i<t.cs.length->t.dI d i<=0:=fun i hi=>by
  by_cases h:0<t.dI d i
  ·exact(r ⟨i,hi,h⟩).elim
  ·grind
 obtain⟨f,hf⟩:∃f:Nat->Rat,f=fun i=>d.bF (eK (t.at i)):=⟨_,rfl⟩
 have step:∀i,i<t.cs.length->f (t.nx i)<=f i:=fun i hi=>by
  have:=p i hi;rw[aC.dI,aC.fP,V2.bF,V2.sub]at this;rw[hf];dsimp only at this⊢;rw[V2.bF,V2.bF]
  grind
 have a:∀i,i+1<t.cs.length->t.nx i=i+1:=fun i hi=>Nat.mod_eq_of_lt hi;have u:t.nx (t.cs.length-1)=0:=by
  rw[aC.nx,Nat.sub_add_cancel (by omega)];exact Nat.mod_self _
 have o:∀k,2+k<t.cs.length->f (2+k)<=f 2:=fun k=>by
  induction k with
  |zero=>intro _;exact Rat.le_refl
  |succ k s=>
   intro h;have g:=step (2+k) (by omega);rw[a _ (by omega)]at g;exact Rat.le_trans g (s (by omega))
 have j:=step 0 (by omega);have l:=step 1 (by omega);have m:=o (t.cs.length-3) (by omega);have n:=step (t.cs.length-1) (by omega);rw[a 0 (by omega)]at j;rw[a 1 (by omega)]at l;rw[u]at n;rw[show 2+(t.cs.length-3)=t.cs.length-1 by omega]at m;have b:f 1=f 0:=by grind
 have c:f 2=f 0:=by grind
 rw[aC.fB,decide_eq_true_eq]at hc;have hx:=hc 0 (by omega) 2 (by omega) (by decide) (by rw[a 0 (by omega)];decide);rw[a 0 (by omega),ku]at hx;rw[hf]at b c;dsimp only at b c;rw[V2.bF,V2.bF,eK,eK]at b c;dsimp only at b c;generalize t.at 0=A at*;generalize t.at (0+1)=B at*;generalize t.at 2=C at*;have hq:¬(((B.x:Rat)-A.x)*((C.y:Rat)-A.y)-((B.y:Rat)-A.y)*((C.x:Rat)-A.x))=0:=by
  intro e;have e2:(((B.x-A.x)*(C.y-A.y)-(B.y-A.y)*(C.x-A.x):Int):Rat)=((0:Int):Rat):=by
   rw[ay,a0,a0,ay,ay,ay,ay];exact e
  have:=Rat.intCast_inj.1 e2;omega
 exact q (P6 (dx:=d.x) (dy:=d.y) (by grind) (by grind) hq)
theorem nL(s:List Nat)(n:Int):au prog 98 [.str s,.int .i64 n] (.bool (decide ((s.length:Int)<=n))):=by
 refine aM nf OA mix (by simp[f98]) ?_;simp[f98]
def jr(p:dO):Bool:=decide (p.name.length<=40)&&(decide (p.a.length<=40)&&decide (p.b.length<=40))
def jt(s:ft):Bool:=decide (s.name.length<=40)&&(decide (s.pt.x.length<=40)&&decide (s.pt.y.length<=40))
def nO(t:aC):Bool:=!(decide (14<t.cs.length)||(decide (14<t.bj.length)||((decide (8<t.aP.length)&&decide (t.aP.length<=256))||decide (258<t.aP.length))))&&(t.bj.all jr&&t.aP.all jt)
theorem vS{α:Type}{f:α->Bool}{l:List α}{i:Nat}{x:α}(h:l[i]?=some x):(l.take (i+1)).all f=((l.take i).all f&&f x):=by
 rw[av,h];simp
theorem kt{α:Type}{f:α->Bool}{l:List α}{i:Nat}{x:α}(h:l[i]?=some x)(hf:f x=false):l.all f=false:=by
 cases a:l.all f
 ·rfl
 ·rw[List.all_eq_true]at a;rw[a x (List.mem_of_getElem? h)]at hf;cases hf
theorem Qa(t:aC)(B:t.cs.length<=1000000)(C:t.bj.length<=1000000)(D:t.aP.length<=1000000):au prog 22 [dj t] (.bool (nO t)):=by
 refine aM nf N5 mix (by simp[f22]) ?_;have s:nO t=(!(decide (14<t.cs.length)||(decide (14<t.bj.length)||((decide (8<t.aP.length)&&decide (t.aP.length<=256))||decide (258<t.aP.length))))&&(t.bj.all jr&&t.aP.all jt)):=rfl
 by_cases c1:14<t.cs.length
 ·have q:(14:Int)<t.cs.length:=by omega
  have o:nO t=false:=by rw[s];simp[c1]
  simp[f22,ad,q,o]
 have q:¬(14:Int)<t.cs.length:=by omega
 by_cases c2:14<t.bj.length
 ·have r:(14:Int)<t.bj.length:=by omega
  have o:nO t=false:=by rw[s];simp[c2]
  simp[f22,ad,q,r,o]
 have r:¬(14:Int)<t.bj.length:=by omega
 have tail:(8<t.aP.length->¬t.aP.length<=256)->¬258<t.aP.length->nO t=(t.bj.all jr&&t.aP.all jt):=fun A z=>by
  rw[s]
  by_cases h:8<t.aP.length
  ·have:=A h;simp[c1,c2,h,this,z]
  ·simp[c1,c2,h,z]
 by_cases c3:8<t.aP.length
 ·have u:(8:Int)<t.aP.length:=by omega
  by_cases c4:t.aP.length<=256
  ·have w:(t.aP.length:Int)<=256:=by omega
   have o:nO t=false:=by rw[s];simp[c3,c4]
   simp[f22,ad,q,r,u,w,o]
  ·have w:¬(t.aP.length:Int)<=256:=by omega
   by_cases c5:258<t.aP.length
   ·have v:(258:Int)<t.aP.length:=by omega
    have o:nO t=false:=by rw[s];simp[c5]
    simp[f22,ad,q,r,u,w,v,o]
   ·have v:¬(258:Int)<t.aP.length:=by omega
    rw[tail (fun _=>c4) c5];simp[f22,ad,q,r,u,w,v];refine lp (α:=Nat) (fun i=>⟨[(3,.p (.int .i64 i)),(1,.ptr 0 [])],[.box false (.p (dj t))]⟩) (fun i=>i<=t.bj.length/\(t.bj.take i).all jr=true) (fun i=>t.bj.length-i) 0 (by simp) ?_;rintro i ⟨k1,k2⟩
    by_cases hi:i<t.bj.length
    ·have c:=aC.lR hi;have n:=cQ (i:=i) (by omega);have f:=nL (t.pk i).a 40;have j:=nL (t.pk i).b 40;have g:jr (t.pk i)=(decide ((t.pk i).name.length<=40)&&(decide ((t.pk i).a.length<=40)&&decide ((t.pk i).b.length<=40))):=rfl
     by_cases m:(t.pk i).name.length<=40
     ·have d:¬(40:Int)<(t.pk i).name.length:=by omega
      by_cases a2:(t.pk i).a.length<=40
      ·have k:((t.pk i).a.length:Int)<=40:=by omega
       rw[decide_eq_true k]at f
       by_cases a3:(t.pk i).b.length<=40
       ·have l:((t.pk i).b.length:Int)<=40:=by omega
        rw[decide_eq_true l]at j;have e:jr (t.pk i)=true:=by rw[g];simp[m,a2,a3]
        simp[hi,c,d,ad];refine Go.az.c2 f ?_;simp[hi,c,d,ad];refine Go.az.c2 j ?_;simp[hi,c,d,n,ad];exact rd (i+1) ⟨hi,by rw[vS c,k2,e];rfl⟩
       ·have l:¬((t.pk i).b.length:Int)<=40:=by omega
        rw[decide_eq_false l]at j;have e:jr (t.pk i)=false:=by rw[g];simp[a3]
        rw[kt c e];simp[hi,c,d,ad];refine Go.az.c2 f ?_;simp[hi,c,d,ad];refine Go.az.c2 j ?_;simp[hi,c,d,n,ad]
      ·have k:¬((t.pk i).a.length:Int)<=40:=by omega
       rw[decide_eq_false k]at f;have e:jr (t.pk i)=false:=by rw[g];simp[a2]
       rw[kt c e];simp[hi,c,d,ad];refine Go.az.c2 f ?_;simp[hi,c,d,ad]
     ·have d:(40:Int)<(t.pk i).name.length:=by omega
      have e:jr (t.pk i)=false:=by rw[g];simp[m]
      rw[kt c e];simp[hi,c,d,ad]
    have:i=t.bj.length:=by omega
    subst this;rw[ao]at k2;rw[k2,Bool.true_and];simp[ad];refine lp (α:=Nat) (fun i=>⟨[(4,.p (.int .i64 i)),(1,.ptr 0 [])],[.box false (.p (dj t))]⟩) (fun i=>i<=t.aP.length/\(t.aP.take i).all jt=true) (fun i=>t.aP.length-i) 0 (by simp) ?_;rintro i ⟨k1,k2⟩
    by_cases hi:i<t.aP.length
    ·have c:=aC.mE hi;have n:=cQ (i:=i) (by omega);have f:=nL (t.sp i).pt.x 40;have j:=nL (t.sp i).pt.y 40;have g:jt (t.sp i)=(decide ((t.sp i).name.length<=40)&&(decide ((t.sp i).pt.x.length<=40)&&decide ((t.sp i).pt.y.length<=40))):=rfl
     by_cases m:(t.sp i).name.length<=40
     ·have d:¬(40:Int)<(t.sp i).name.length:=by omega
      by_cases a2:(t.sp i).pt.x.length<=40
      ·have k:((t.sp i).pt.x.length:Int)<=40:=by omega
       rw[decide_eq_true k]at f
       by_cases a3:(t.sp i).pt.y.length<=40
       ·have l:((t.sp i).pt.y.length:Int)<=40:=by omega
        rw[decide_eq_true l]at j;have e:jt (t.sp i)=true:=by rw[g];simp[m,a2,a3]
        simp[hi,c,d,ad];refine Go.az.c2 f ?_;simp[hi,c,d,ad];refine Go.az.c2 j ?_;simp[hi,c,d,n,ad];exact rd (i+1) ⟨hi,by rw[vS c,k2,e];rfl⟩
       ·have l:¬((t.sp i).pt.y.length:Int)<=40:=by omega
        rw[decide_eq_false l]at j;have e:jt (t.sp i)=false:=by rw[g];simp[a3]
        rw[kt c e];simp[hi,c,d,ad];refine Go.az.c2 f ?_;simp[hi,c,d,ad];refine Go.az.c2 j ?_;simp[hi,c,d,n,ad]
      ·have k:¬((t.sp i).pt.x.length:Int)<=40:=by omega
       rw[decide_eq_false k]at f;have e:jt (t.sp i)=false:=by rw[g];simp[a2]
       rw[kt c e];simp[hi,c,d,ad];refine Go.az.c2 f ?_;simp[hi,c,d,ad]
     ·have d:(40:Int)<(t.sp i).name.length:=by omega
      have e:jt (t.sp i)=false:=by rw[g];simp[m]
      rw[kt c e];simp[hi,c,d,ad]
    have:i=t.aP.length:=by omega
    subst this;rw[ao]at k2;rw[k2];simp[ad]
 ·have u:¬(8:Int)<t.aP.length:=by omega
  have v:¬(258:Int)<t.aP.length:=by omega
  rw[tail (fun h=>absurd h c3) (by omega)];simp[f22,ad,q,r,u,v];refine lp (α:=Nat) (fun i=>⟨[(3,.p (.int .i64 i)),(1,.ptr 0 [])],[.box false (.p (dj t))]⟩) (fun i=>i<=t.bj.length/\(t.bj.take i).all jr=true) (fun i=>t.bj.length-i) 0 (by simp) ?_;rintro i ⟨k1,k2⟩
  by_cases hi:i<t.bj.length
  ·have c:=aC.lR hi;have n:=cQ (i:=i) (by omega);have f:=nL (t.pk i).a 40;have j:=nL (t.pk i).b 40;have g:jr (t.pk i)=(decide ((t.pk i).name.length<=40)&&(decide ((t.pk i).a.length<=40)&&decide ((t.pk i).b.length<=40))):=rfl
   by_cases m:(t.pk i).name.length<=40
   ·have d:¬(40:Int)<(t.pk i).name.length:=by omega
    by_cases a2:(t.pk i).a.length<=40
    ·have k:((t.pk i).a.length:Int)<=40:=by omega
     rw[decide_eq_true k]at f
     by_cases a3:(t.pk i).b.length<=40
     ·have l:((t.pk i).b.length:Int)<=40:=by omega
      rw[decide_eq_true l]at j;have e:jr (t.pk i)=true:=by rw[g];simp[m,a2,a3]
      simp[hi,c,d,ad];refine Go.az.c2 f ?_;simp[hi,c,d,ad];refine Go.az.c2 j ?_;simp[hi,c,d,n,ad];exact rd (i+1) ⟨hi,by rw[vS c,k2,e];rfl⟩
     ·have l:¬((t.pk i).b.length:Int)<=40:=by omega
      rw[decide_eq_false l]at j;have e:jr (t.pk i)=false:=by rw[g];simp[a3]
      rw[kt c e];simp[hi,c,d,ad];refine Go.az.c2 f ?_;simp[hi,c,d,ad];refine Go.az.c2 j ?_;simp[hi,c,d,n,ad]
    ·have k:¬((t.pk i).a.length:Int)<=40:=by omega
     rw[decide_eq_false k]at f;have e:jr (t.pk i)=false:=by rw[g];simp[a2]
     rw[kt c e];simp[hi,c,d,ad];refine Go.az.c2 f ?_;simp[hi,c,d,ad]
   ·have d:(40:Int)<(t.pk i).name.length:=by omega
    have e:jr (t.pk i)=false:=by rw[g];simp[m]
    rw[kt c e];simp[hi,c,d,ad]
  have:i=t.bj.length:=by omega
  subst this;rw[ao]at k2;rw[k2,Bool.true_and];simp[ad];refine lp (α:=Nat) (fun i=>⟨[(4,.p (.int .i64 i)),(1,.ptr 0 [])],[.box false (.p (dj t))]⟩) (fun i=>i<=t.aP.length/\(t.aP.take i).all jt=true) (fun i=>t.aP.length-i) 0 (by simp) ?_;rintro i ⟨k1,k2⟩
  by_cases hi:i<t.aP.length
  ·have c:=aC.mE hi;have n:=cQ (i:=i) (by omega);have f:=nL (t.sp i).pt.x 40;have j:=nL (t.sp i).pt.y 40;have g:jt (t.sp i)=(decide ((t.sp i).name.length<=40)&&(decide ((t.sp i).pt.x.length<=40)&&decide ((t.sp i).pt.y.length<=40))):=rfl
   by_cases m:(t.sp i).name.length<=40
   ·have d:¬(40:Int)<(t.sp i).name.length:=by omega
    by_cases a2:(t.sp i).pt.x.length<=40
    ·have k:((t.sp i).pt.x.length:Int)<=40:=by omega
     rw[decide_eq_true k]at f
     by_cases a3:(t.sp i).pt.y.length<=40
     ·have l:((t.sp i).pt.y.length:Int)<=40:=by omega
      rw[decide_eq_true l]at j;have e:jt (t.sp i)=true:=by rw[g];simp[m,a2,a3]
      simp[hi,c,d,ad];refine Go.az.c2 f ?_;simp[hi,c,d,ad];refine Go.az.c2 j ?_;simp[hi,c,d,n,ad];exact rd (i+1) ⟨hi,by rw[vS c,k2,e];rfl⟩
     ·have l:¬((t.sp i).pt.y.length:Int)<=40:=by omega
      rw[decide_eq_false l]at j;have e:jt (t.sp i)=false:=by rw[g];simp[a3]
      rw[kt c e];simp[hi,c,d,ad];refine Go.az.c2 f ?_;simp[hi,c,d,ad];refine Go.az.c2 j ?_;simp[hi,c,d,n,ad]
    ·have k:¬((t.sp i).pt.x.length:Int)<=40:=by omega
     rw[decide_eq_false k]at f;have e:jt (t.sp i)=false:=by rw[g];simp[a2]
     rw[kt c e];simp[hi,c,d,ad];refine Go.az.c2 f ?_;simp[hi,c,d,ad]
   ·have d:(40:Int)<(t.sp i).name.length:=by omega
    have e:jt (t.sp i)=false:=by rw[g];simp[m]
    rw[kt c e];simp[hi,c,d,ad]
  have:i=t.aP.length:=by omega
  subst this;rw[ao]at k2;rw[k2];simp[ad]
theorem Rg(l:List dR):eZ prog 2 (l.map (AV.p∘cj)):=BF (fun r=>⟨by simp[ad],by simp[ad]⟩) l
theorem re{α:Type}{f:α->AV}{l:List α}{j:Nat}{x:α}(h:l[j+1]?=some x):(l.take (j+1+1)).map f=(l.map f).take (j+1)++[f x]:=by
 rw[av (i:=j+1),h,List.map_append,List.map_take];rfl
theorem kx{N:Nat×Nat->Prop}{α:Type}{f:α->PV}{k:Nat}{l:List α}:aU N ((l.map (AV.p∘f)).take k)=True:=by
 rw[cK,eq_iff_iff,iff_true];intro x hx;obtain⟨a,_,rfl⟩:=ax.1 (List.mem_of_mem_take hx);trivial
theorem nQ:fc=fj:=rfl
theorem nP:gn=eP:=rfl
theorem rh{α:Type}{l:List α}{x:α}(h:l[0]?=some x):l.take 1=[x]:=by
 rw[av (i:=0),h];rfl
theorem Qi(t:aC)(s:t.cs.length<=1000000)(u:t.bj.length<=1000000)(v:t.aP.length<=1000000):au prog 24 [dj t] (di t):=by
 have r:(1000000:Nat)<cN:=by decide
 have w1:ac.wrap 1=1:=by decide
 refine aM nf N6 mix (by simp[f24]) ?_;simp[f24,ad];refine⟨⟨Rg _,by omega⟩,?_⟩
 by_cases hc:t.cs=[]
 ·simp[hc];refine⟨⟨by repeat' first|rfl|apply ab,by repeat' first|rfl|apply ab⟩,?_⟩;refine lp (α:=Nat) (fun i=>match i with
    |0=>⟨[(18,.p (.int .i64 0)),(17,.p (.int .i64 t.bj.length)),(16,.p (.seq (t.bj.map fj))),(3,.ptr 3 []),(2,.ptr 1 []),(1,.ptr 0 [])],[.box false (.p (dj t)),.box false (.p (.st 54 [.aL,.int .i64 0,.aL,.aL])),.arr .exact 0 2 [],.box false (.st 54 [.sl 2 0 2 0 0,.p (.int .i64 t.dK),.p .aL,.p .aL])]⟩
    |m+1=>⟨[(18,.p (.int .i64 ((m+1:Nat):Int))),(17,.p (.int .i64 t.bj.length)),(16,.p (.seq (t.bj.map fj))),(3,.ptr 3 []),(2,.ptr 1 []),(1,.ptr 0 [])],[.box false (.p (dj t)),.box false (.p (.st 54 [.aL,.int .i64 0,.aL,.aL])),.arr .exact 0 2 [],.box false (.st 54 [.sl 2 0 2 0 0,.p (.int .i64 t.dK),.sl 6 m 4 0 (m+1),.p .aL]),.hole,.hole,.arr .grow m 4 ((t.bj.take (m+1)).map (AV.p∘fj))]⟩) (fun i=>i<=t.bj.length) (fun i=>t.bj.length-i) 0 (by simp) ?_
  rintro i o
  by_cases hi:i<t.bj.length
  ·have a:=aC.lR hi;rcases i with _|j
   ·have b:=rh a;simp[hi,a,w1,ad];exact⟨by omega,rd 1 hi (hh:=by simp[b]) (hr2:=by simp[kx])⟩
   ·have h:ac.wrap ((j:Int)+1+1)=(j:Int)+1+1:=aO _ (by omega) (by omega);have hI:(j:Int)+1<t.bj.length:=by omega
    have b:=re (f:=AV.p∘fj) a;simp[hi,hI,a,h,ad];exact⟨by omega,⟨by omega,by omega⟩,rd (j+2) hi (hh:=by simp at b;simp[b]) (hr2:=by simp[kx])⟩
  have q:i=t.bj.length:=by omega
  rcases i with _|j
  ·have n:t.bj=[]:=ap.1 q.symm;simp[n,ad];refine lp (α:=Nat) (fun i=>match i with
     |0=>⟨[(32,.p (.int .i64 0)),(31,.p (.int .i64 t.aP.length)),(30,.p (.seq (t.aP.map eP))),(3,.ptr 3 []),(2,.ptr 1 []),(1,.ptr 0 [])],[.box false (.p (dj t)),.box false (.p (.st 54 [.aL,.int .i64 0,.aL,.aL])),.arr .exact 0 2 [],.box false (.st 54 [.sl 2 0 2 0 0,.p (.int .i64 t.dK),.p .aL,.p .aL])]⟩
     |m+1=>⟨[(32,.p (.int .i64 ((m+1:Nat):Int))),(31,.p (.int .i64 t.aP.length)),(30,.p (.seq (t.aP.map eP))),(3,.ptr 3 []),(2,.ptr 1 []),(1,.ptr 0 [])],[.box false (.p (dj t)),.box false (.p (.st 54 [.aL,.int .i64 0,.aL,.aL])),.arr .exact 0 2 [],.box false (.st 54 [.sl 2 0 2 0 0,.p (.int .i64 t.dK),.p .aL,.sl 6 m 3 0 (m+1)]),.hole,.hole,.arr .grow m 3 ((t.aP.take (m+1)).map (AV.p∘eP))]⟩) (fun i=>i<=t.aP.length) (fun i=>t.aP.length-i) 0 (by simp) ?_
   rintro i o
   by_cases hi:i<t.aP.length
   ·have a:=aC.mE hi;rcases i with _|j
    ·have b:=rh a;simp[hi,a,w1,ad];exact⟨by omega,rd 1 hi (hh:=by simp[b]) (hr2:=by simp[kx])⟩
    ·have h:ac.wrap ((j:Int)+1+1)=(j:Int)+1+1:=aO _ (by omega) (by omega);have hI:(j:Int)+1<t.aP.length:=by omega
     have b:=re (f:=AV.p∘eP) a;simp[hi,hI,a,h,ad];exact⟨by omega,⟨by omega,by omega⟩,rd (j+2) hi (hh:=by simp at b;simp[b]) (hr2:=by simp[kx])⟩
   have d:i=t.aP.length:=by omega
   rcases i with _|c
   ·have e:t.aP=[]:=ap.1 d.symm;simp[e,ad];simp[di,hc,n,e,nQ,nP]
   ·have hI:¬((c:Int)+1<t.aP.length):=by omega
    have g:t.aP.take (c+1)=t.aP:=by rw[d,ao]
    simp[hI,g,ad];have l:(t.aP.map (AV.p∘eP)).take (c+1)=t.aP.map (AV.p∘eP):=am (by simp;omega);simp[di,hc,n,l,nQ,nP];omega
  ·have hI:¬((j:Int)+1<t.bj.length):=by omega
   have g:t.bj.take (j+1)=t.bj:=by rw[q,ao]
   simp[hI,g,ad];refine lp (α:=Nat) (fun i=>match i with
    |0=>⟨[(32,.p (.int .i64 0)),(31,.p (.int .i64 t.aP.length)),(30,.p (.seq (t.aP.map eP))),(3,.ptr 3 []),(2,.ptr 1 []),(1,.ptr 0 [])],[.box false (.p (dj t)),.box false (.p (.st 54 [.aL,.int .i64 0,.aL,.aL])),.arr .exact 0 2 [],.box false (.st 54 [.sl 2 0 2 0 0,.p (.int .i64 t.dK),.sl 6 j 4 0 (j+1),.p .aL]),.hole,.hole,.arr .grow j 4 (t.bj.map (AV.p∘fj))]⟩
    |m+1=>⟨[(32,.p (.int .i64 ((m+1:Nat):Int))),(31,.p (.int .i64 t.aP.length)),(30,.p (.seq (t.aP.map eP))),(3,.ptr 3 []),(2,.ptr 1 []),(1,.ptr 0 [])],[.box false (.p (dj t)),.box false (.p (.st 54 [.aL,.int .i64 0,.aL,.aL])),.arr .exact 0 2 [],.box false (.st 54 [.sl 2 0 2 0 0,.p (.int .i64 t.dK),.sl 6 j 4 0 (j+1),.sl 9 m 3 0 (m+1)]),.hole,.hole,.arr .grow j 4 (t.bj.map (AV.p∘fj)),.hole,.hole,.arr .grow m 3 ((t.aP.take (m+1)).map (AV.p∘eP))]⟩) (fun i=>i<=t.aP.length) (fun i=>t.aP.length-i) 0 (by simp) ?_
   rintro i o
   by_cases hi:i<t.aP.length
   ·have a:=aC.mE hi;rcases i with _|j
    ·have b:=rh a;simp[hi,a,w1,ad];exact⟨by omega,rd 1 hi (hh:=by simp[b]) (hr2:=by simp[kx])⟩
    ·have h:ac.wrap ((j:Int)+1+1)=(j:Int)+1+1:=aO _ (by omega) (by omega);have hI:(j:Int)+1<t.aP.length:=by omega
     have b:=re (f:=AV.p∘eP) a;simp[hi,hI,a,h,ad];exact⟨by omega,⟨by omega,by omega⟩,rd (j+2) hi (hh:=by simp at b;simp[b]) (hr2:=by simp[kx])⟩
   have d:i=t.aP.length:=by omega
   rcases i with _|c
   ·have e:t.aP=[]:=ap.1 d.symm;simp[e,ad];have k:(t.bj.map (AV.p∘fj)).take (j+1)=t.bj.map (AV.p∘fj):=am (by simp;omega);simp[di,hc,k,e,nQ,nP];omega
   ·have hI:¬((c:Int)+1<t.aP.length):=by omega
    have g:t.aP.take (c+1)=t.aP:=by rw[d,ao]
    simp[hI,g,ad];have k:(t.bj.map (AV.p∘fj)).take (j+1)=t.bj.map (AV.p∘fj):=am (by simp;omega);have l:(t.aP.map (AV.p∘eP)).take (c+1)=t.aP.map (AV.p∘eP):=am (by simp;omega);simp[di,hc,k,l,nQ,nP];omega
 ·simp[hc];refine⟨⟨by repeat' first|rfl|apply ab,by repeat' first|rfl|apply ab⟩,?_⟩;refine lp (α:=Nat) (fun i=>match i with
    |0=>⟨[(18,.p (.int .i64 0)),(17,.p (.int .i64 t.bj.length)),(16,.p (.seq (t.bj.map fj))),(3,.ptr 4 []),(2,.ptr 1 []),(1,.ptr 0 [])],[.box false (.p (dj t)),.box false (.p (.st 54 [.aL,.int .i64 0,.aL,.aL])),.arr .exact 0 2 [],.arr .grow 0 2 (t.cs.map (AV.p∘cj)),.box false (.st 54 [.sl 3 0 2 0 t.cs.length,.p (.int .i64 t.dK),.p .aL,.p .aL])]⟩
    |m+1=>⟨[(18,.p (.int .i64 ((m+1:Nat):Int))),(17,.p (.int .i64 t.bj.length)),(16,.p (.seq (t.bj.map fj))),(3,.ptr 4 []),(2,.ptr 1 []),(1,.ptr 0 [])],[.box false (.p (dj t)),.box false (.p (.st 54 [.aL,.int .i64 0,.aL,.aL])),.arr .exact 0 2 [],.arr .grow 0 2 (t.cs.map (AV.p∘cj)),.box false (.st 54 [.sl 3 0 2 0 t.cs.length,.p (.int .i64 t.dK),.sl 7 m 4 0 (m+1),.p .aL]),.hole,.hole,.arr .grow m 4 ((t.bj.take (m+1)).map (AV.p∘fj))]⟩) (fun i=>i<=t.bj.length) (fun i=>t.bj.length-i) 0 (by simp) ?_
  rintro i o
  by_cases hi:i<t.bj.length
  ·have a:=aC.lR hi;rcases i with _|j
   ·have b:=rh a;simp[hi,a,w1,ad];exact⟨by omega,rd 1 hi (hh:=by simp[b]) (hr2:=by simp[kx])⟩
   ·have h:ac.wrap ((j:Int)+1+1)=(j:Int)+1+1:=aO _ (by omega) (by omega);have hI:(j:Int)+1<t.bj.length:=by omega
    have b:=re (f:=AV.p∘fj) a;simp[hi,hI,a,h,ad];exact⟨by omega,⟨by omega,by omega⟩,rd (j+2) hi (hh:=by simp at b;simp[b]) (hr2:=by simp[kx])⟩
  have q:i=t.bj.length:=by omega
  rcases i with _|j
  ·have n:t.bj=[]:=ap.1 q.symm;simp[n,ad];refine lp (α:=Nat) (fun i=>match i with
     |0=>⟨[(32,.p (.int .i64 0)),(31,.p (.int .i64 t.aP.length)),(30,.p (.seq (t.aP.map eP))),(3,.ptr 4 []),(2,.ptr 1 []),(1,.ptr 0 [])],[.box false (.p (dj t)),.box false (.p (.st 54 [.aL,.int .i64 0,.aL,.aL])),.arr .exact 0 2 [],.arr .grow 0 2 (t.cs.map (AV.p∘cj)),.box false (.st 54 [.sl 3 0 2 0 t.cs.length,.p (.int .i64 t.dK),.p .aL,.p .aL])]⟩
     |m+1=>⟨[(32,.p (.int .i64 ((m+1:Nat):Int))),(31,.p (.int .i64 t.aP.length)),(30,.p (.seq (t.aP.map eP))),(3,.ptr 4 []),(2,.ptr 1 []),(1,.ptr 0 [])],[.box false (.p (dj t)),.box false (.p (.st 54 [.aL,.int .i64 0,.aL,.aL])),.arr .exact 0 2 [],.arr .grow 0 2 (t.cs.map (AV.p∘cj)),.box false (.st 54 [.sl 3 0 2 0 t.cs.length,.p (.int .i64 t.dK),.p .aL,.sl 7 m 3 0 (m+1)]),.hole,.hole,.arr .grow m 3 ((t.aP.take (m+1)).map (AV.p∘eP))]⟩) (fun i=>i<=t.aP.length) (fun i=>t.aP.length-i) 0 (by simp) ?_
   rintro i o
   by_cases hi:i<t.aP.length
   ·have a:=aC.mE hi;rcases i with _|j
    ·have b:=rh a;simp[hi,a,w1,ad];exact⟨by omega,rd 1 hi (hh:=by simp[b]) (hr2:=by simp[kx])⟩
    ·have h:ac.wrap ((j:Int)+1+1)=(j:Int)+1+1:=aO _ (by omega) (by omega);have hI:(j:Int)+1<t.aP.length:=by omega
     have b:=re (f:=AV.p∘eP) a;simp[hi,hI,a,h,ad];exact⟨by omega,⟨by omega,by omega⟩,rd (j+2) hi (hh:=by simp at b;simp[b]) (hr2:=by simp[kx])⟩
   have d:i=t.aP.length:=by omega
   rcases i with _|c
   ·have e:t.aP=[]:=ap.1 d.symm;simp[e,ad];simp[di,hc,n,e,nQ,nP]
   ·have hI:¬((c:Int)+1<t.aP.length):=by omega
    have g:t.aP.take (c+1)=t.aP:=by rw[d,ao]
    simp[hI,g,ad];have l:(t.aP.map (AV.p∘eP)).take (c+1)=t.aP.map (AV.p∘eP):=am (by simp;omega);simp[di,hc,n,l,nQ,nP];omega
  ·have hI:¬((j:Int)+1<t.bj.length):=by omega
   have g:t.bj.take (j+1)=t.bj:=by rw[q,ao]
   simp[hI,g,ad];refine lp (α:=Nat) (fun i=>match i with
    |0=>⟨[(32,.p (.int .i64 0)),(31,.p (.int .i64 t.aP.length)),(30,.p (.seq (t.aP.map eP))),(3,.ptr 4 []),(2,.ptr 1 []),(1,.ptr 0 [])],[.box false (.p (dj t)),.box false (.p (.st 54 [.aL,.int .i64 0,.aL,.aL])),.arr .exact 0 2 [],.arr .grow 0 2 (t.cs.map (AV.p∘cj)),.box false (.st 54 [.sl 3 0 2 0 t.cs.length,.p (.int .i64 t.dK),.sl 7 j 4 0 (j+1),.p .aL]),.hole,.hole,.arr .grow j 4 (t.bj.map (AV.p∘fj))]⟩
    |m+1=>⟨[(32,.p (.int .i64 ((m+1:Nat):Int))),(31,.p (.int .i64 t.aP.length)),(30,.p (.seq (t.aP.map eP))),(3,.ptr 4 []),(2,.ptr 1 []),(1,.ptr 0 [])],[.box false (.p (dj t)),.box false (.p (.st 54 [.aL,.int .i64 0,.aL,.aL])),.arr .exact 0 2 [],.arr .grow 0 2 (t.cs.map (AV.p∘cj)),.box false (.st 54 [.sl 3 0 2 0 t.cs.length,.p (.int .i64 t.dK),.sl 7 j 4 0 (j+1),.sl 10 m 3 0 (m+1)]),.hole,.hole,.arr .grow j 4 (t.bj.map (AV.p∘fj)),.hole,.hole,.arr .grow m 3 ((t.aP.take (m+1)).map (AV.p∘eP))]⟩) (fun i=>i<=t.aP.length) (fun i=>t.aP.length-i) 0 (by simp) ?_
   rintro i o
   by_cases hi:i<t.aP.length
   ·have a:=aC.mE hi;rcases i with _|j
    ·have b:=rh a;simp[hi,a,w1,ad];exact⟨by omega,rd 1 hi (hh:=by simp[b]) (hr2:=by simp[kx])⟩
    ·have h:ac.wrap ((j:Int)+1+1)=(j:Int)+1+1:=aO _ (by omega) (by omega);have hI:(j:Int)+1<t.aP.length:=by omega
     have b:=re (f:=AV.p∘eP) a;simp[hi,hI,a,h,ad];exact⟨by omega,⟨by omega,by omega⟩,rd (j+2) hi (hh:=by simp at b;simp[b]) (hr2:=by simp[kx])⟩
   have d:i=t.aP.length:=by omega
   rcases i with _|c
   ·have e:t.aP=[]:=ap.1 d.symm;simp[e,ad];have k:(t.bj.map (AV.p∘fj)).take (j+1)=t.bj.map (AV.p∘fj):=am (by simp;omega);simp[di,hc,k,e,nQ,nP];omega
   ·have hI:¬((c:Int)+1<t.aP.length):=by omega
    have g:t.aP.take (c+1)=t.aP:=by rw[d,ao]
    simp[hI,g,ad];have k:(t.bj.map (AV.p∘fj)).take (j+1)=t.bj.map (AV.p∘fj):=am (by simp;omega);have l:(t.aP.map (AV.p∘eP)).take (c+1)=t.aP.map (AV.p∘eP):=am (by simp;omega);simp[di,hc,k,l,nQ,nP];omega
theorem X4(t:aC)(p d:cW)(e:3<=t.cs.length)(hc:t.fB=true)(k:¬((vP d).x=0/\(vP d).y=0)):∃j,j<t.cs.length/\0<t.dI (vP d) j/\(∃a l,t.fY (.from p) (cB d) t.cs.length=a::l/\jE a l=t.dX (.from p) (cB d) j)/\t.fF (vP p) (vP d) t.cs.length=((j:Int),t.gu (vP p) (vP d) j):=by
 obtain⟨i,hi,n⟩:=X6 t (vP d) e hc k;have h:=Ev t p d t.cs.length;have m:t.dX (.from p) (cB d) i∈t.fY (.from p) (cB d) t.cs.length:=by
  rw[aC.fY];exact ax.2 ⟨i,List.mem_filter.2 ⟨List.mem_range.2 hi,by rw[DZ,decide_eq_true n]⟩,rfl⟩
 generalize o:t.fY (.from p) (cB d) t.cs.length=L at*;cases L with
 |nil=>cases m
 |cons a l=>
  obtain⟨j,b,c,f,g⟩:=h;exact⟨j,b,c,⟨a,l,rfl,f⟩,g⟩
theorem Dk{x:cW}(hx:dE x=0):dA x=eV (vP x):=by
 obtain⟨g1,g2⟩:=lA hx;rw[eV,vP];dsimp only;rw[(iV g1).1,(iV g2).1]
def sS(t:aC)(p:cW):Int:=if fX t p=0 then bf (decide (t.on (vP p)<0)) 16 else fX t p
def o8(t:aC)(p d:cW):Int:=bB [sS t p,ie d]
theorem zB(t:aC)(p d:cW):o8 t p d=if fX t p=0 then kO t p d else fX t p:=by
 rw[o8,sS,kO]
 by_cases h:fX t p=0
 ·rw[if_pos h,if_pos h]
 ·rw[if_neg h,if_neg h,bB,if_neg h]
theorem X5(t:aC)(p d:cW)(m:o6 t)(z:ir p)(w:ir d)(I:oF p=true)(J:oF d=true):
 ∃(k:Int)(n o:List Nat)(r:Int),au prog 23 [di t,dA p,dA d] (.aA [.int .i64 k,.st 23 [.str n,.str o],.int .i64 r])/\
  ((o8 t p d≠0/\k=0/\n=[]/\o=[]/\r=o8 t p d)\/(o8 t p d=0/\r=0/\∃s,au prog 27 [dj t,dA p,dA d] (.aA [.int .i64 k,.str s])/\au prog 28 [dA p,dA d,.str s] (.st 23 [.str n,.str o]))):=by
 by_cases c:fX t p=0
 case neg=>
  have f:=zR t p d m z w ⟨0,⟨.int 0,.int 0⟩,⟨.int 0,.int 0⟩,.int 0,⟨.int 0,.int 0,.int 0⟩⟩ (fun h=>absurd h c);rw[if_neg c]at f;rw[zB,if_neg c];exact⟨0,[],[],_,f,.inl ⟨c,rfl,rfl,rfl,rfl⟩⟩
 by_cases g:kO t p d=0
 case neg=>
  have f:=zR t p d m z w ⟨0,⟨.int 0,.int 0⟩,⟨.int 0,.int 0⟩,.int 0,⟨.int 0,.int 0,.int 0⟩⟩ (fun _ h=>absurd h g);rw[if_pos c,if_neg g]at f;rw[zB,if_pos c];exact⟨0,[],[],_,f,.inl ⟨g,rfl,rfl,rfl,rfl⟩⟩
 have u:ie d=0:=by
  have h:=g;rw[kO,lB]at h;exact h _ (by simp)
 obtain⟨z1,z2⟩:=vO c;obtain⟨N,O,C,hc⟩:=zw z1;have l:=(Gq I z2).mono (show 30<=90 by decide);have i:=(Gq J (xu u).1).mono (show 30<=90 by decide);have H:¬((vP d).x=0/\(vP d).y=0):=fun⟨a,b⟩=>XN u (by rw[V2.dot,a,b];decide+kernel);obtain⟨j,K,E,L,M⟩:=X4 t p d N hc H;have D:t.dI (vP d) j≠0:=fun e=>by rw[e]at E;exact absurd E (by decide)
 have B:=X7 t p d j D;have F:=(zN C l i K).2.2;have f:=zR t p d m z w (t.dX (.from p) (cB d) j) (fun _ _=>⟨l,i,L,fun e=>by
  rw[Eg]at e;rcases aT.1 e with e|e<;>exact absurd e D,by rw[B];exact F.mono (by decide)⟩)
 rw[if_pos c,if_pos g]at f;have G:(kN p d (t.dX (.from p) (cB d) j)).q=(vP p).add ((vP d).mul (t.gu (vP p) (vP d) j)):=by
  rw[kN,NV.Ac,NV.DW,B,vc,vc]
 have v:=Wn t (vP p) (vP d) m.cl C l i;have A:=Qb (vP p) (vP d) (t.gu (vP p) (vP d) j) l i F;rw[M]at v;rw[G]at f;rw[<-Dk z2,<-Dk (xu u).1]at v A;rw[zB,if_pos c];exact⟨j,_,_,0,f,.inr ⟨g,rfl,_,v,A⟩⟩
theorem WH(c:au prog 10 [] (.bool true))(t:aC)(p d:cW)(e:o6 t)(w:ir p)(v:ir d):
 au prog 4 [dj t,dA p,dA d] (.bool true):=by
 have s0:=Qa t e.cl e.pl e.sl;have l:=Il p w;have o:=Il d v;refine aM nf C4 mix (by simp[f4]) ?_;rcases x:nO t with _|_
 ·rw[x]at s0;simp[f4,ad];refine c1 s0 ?_;simp[ad];refine c0 c ?_;simp
 rw[x]at s0;rcases m:oF p with _|_
 ·rw[m]at l;simp[f4,ad];refine c1 s0 ?_;simp[ad];refine c1 l ?_;simp[ad];refine c0 c ?_;simp
 rw[m]at l;rcases n:oF d with _|_
 ·rw[n]at o;simp[f4,ad];refine c1 s0 ?_;simp[ad];refine c1 l ?_;simp[ad];refine c1 o ?_;simp[ad];refine c0 c ?_;simp
 rw[n]at o;obtain⟨k,C,D,N,H,r⟩:=X5 t p d e w v m n;have q0:=Qi t e.cl e.pl e.sl;have J:=PD t e;have K:=wv p w;have y:=KX [iM t,dE p] (by simp);have F:fX t p=0->au prog 26 [dj t,dA p] (.int .i64 (t.on (vP p))):=fun h=>by
  obtain⟨z1,z2⟩:=vO h;obtain⟨O,P,I,_⟩:=zw z1;have:=Ni t (vP p) e.cl I ⟨(gP (lA z2).1).mono (by decide),(gP (lA z2).2).mono (by decide)⟩
  rwa [<-Dk z2]at this
 have z:=Qw d v;have g:=KX [sS t p,ie d] (by simp);simp only[List.map_cons,List.map_nil]at y g;rw[show bB [iM t,dE p]=fX t p from rfl]at y;rw[show bB [sS t p,ie d]=o8 t p d from rfl]at g;have e1:sS t p=if fX t p=0 then bf (decide (t.on (vP p)<0)) 16 else fX t p:=rfl
 have q:=Ww [] [];have A:mj [] [] [] []=true:=by simp[mj]
 have B:mj C D C D=true:=by simp[mj]
 clear x m n;generalize o8 t p d=bad at*;generalize sS t p=E at*;generalize fX t p=G at*;generalize iM t=S at*;generalize dE p=T at*;generalize ie d=U at*;generalize t.on (vP p)=on at*;obtain⟨Q,R⟩:=p;obtain⟨L,M⟩:=d;simp only[dA]at*;simp[f4,ad,-aH];rw[aH];simp[-aH,ad];rw[aH,aH];simp[-aH,ad];refine c1 s0 ?_;simp[ad,-aH];refine c1 l ?_;simp[ad,-aH];refine c1 o ?_;simp[ad,-aH];rw[aH];simp[ad,-aH];refine Go.az.e1 q0 ?_;simp[ad,-aH];refine Go.az.e3 H ?_;simp[ad,-aH];refine⟨by repeat' first|rfl|apply ab,?_⟩;rw[aH];simp[ad,-aH];refine Go.az.e1 J ?_;simp[ad,-aH];refine Go.az.e1 K ?_;simp[ad,-aH];refine ep y (by simp;first|exact⟨rfl,rfl⟩|rfl) (by simp;first|exact⟨rfl,rfl⟩|rfl) ?_;simp[ad,-aH];refine⟨by repeat' first|rfl|apply ab,?_⟩
 by_cases f:G=0
 ·subst f;have f:(0:Int)=0:=rfl;rw[if_pos rfl]at e1
  by_cases b:on<0
  ·have u:E=16:=by rw[e1];simp[bf,b]
   rw[u]at g;rw[aH,aH];simp[ad,b,-aH];refine c2 (F f) ?_;simp[ad,b,-aH];rw[aH];simp[ad,b,-aH];refine Go.az.c1 z ?_;simp[ad,b,-aH];refine cp g (by simp[jH,iL];exact⟨rfl,rfl⟩) ?_;rcases r with⟨a,rfl,rfl,rfl,rfl⟩|⟨a,rfl,s,j,i⟩
   ·simp[ad,a];refine Go.az.e2 q ?_;simp[ad,a,A];refine e0 c ?_;simp[ad]
   ·simp[ad,a];refine c3 j ?_;simp[ad];refine Go.az.e3 i ?_;simp[ad,B];refine e0 c ?_;simp[ad]
  ·have u:E=0:=by rw[e1];simp[bf,b]
   rw[u]at g;rw[aH,aH];simp[ad,b,-aH];refine c2 (F f) ?_;simp[ad,b,-aH];rw[aH];simp[ad,b,-aH];refine Go.az.c1 z ?_;simp[ad,b,-aH];refine cp g (by simp[jH,iL];exact⟨rfl,rfl⟩) ?_;rcases r with⟨a,rfl,rfl,rfl,rfl⟩|⟨a,rfl,s,j,i⟩
   ·simp[ad,a];refine Go.az.e2 q ?_;simp[ad,a,A];refine e0 c ?_;simp[ad]
   ·simp[ad,a];refine c3 j ?_;simp[ad];refine Go.az.e3 i ?_;simp[ad,B];refine e0 c ?_;simp[ad]
 ·rw[if_neg f]at e1;rw[e1]at g;rw[aH,aH];simp[ad,f,-aH];rw[aH];simp[ad,f,-aH];refine Go.az.c1 z ?_;simp[ad,f,-aH];refine cp g (by simp[jH,iL];exact⟨rfl,rfl⟩) ?_;rcases r with⟨a,rfl,rfl,rfl,rfl⟩|⟨a,rfl,s,j,i⟩
  ·simp[ad,a];refine Go.az.e2 q ?_;simp[ad,a,A];refine e0 c ?_;simp[ad]
  ·simp[ad,a];refine c3 j ?_;simp[ad];refine Go.az.e3 i ?_;simp[ad,B];refine e0 c ?_;simp[ad]
end Go.az
