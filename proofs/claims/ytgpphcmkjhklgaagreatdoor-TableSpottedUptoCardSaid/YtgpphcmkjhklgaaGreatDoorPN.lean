import Derived.Test.YtgpphcmkjhklgaaGreatDoorPM
import Derived.Test.YtgpphcmkjhklgaaGreatDoorPK
/- Parts of a proof. -/
set_option linter.unusedSimpArgs false
set_option linter.unusedVariables false
set_option linter.unusedSectionVars false
open Go.Proofs.Tryz
open And renaming intro->am
open Bool renaming and_eq_true->an
open List renaming map_cons->ao, mem_of_getElem?->ap, map_nil->av, zip_cons_cons->ax, zip_nil_left->ay
open List.cons renaming injEq->aT
namespace Go.ag
open Go.Proofs
set_option maxHeartbeats 4000000
set_option maxRecDepth 100000
theorem aGX{n a b:Nat}(h:3<=n):∃k,k<n/\k≠a/\k≠b:=by
 by_cases c:0≠a/\0≠b
 ·exact⟨0,by omega,c.1,c.2⟩
 ·by_cases d:1≠a/\1≠b
  ·exact⟨1,by omega,d.1,d.2⟩
  ·exact⟨2,by omega,by omega,by omega⟩
theorem Cd{t:ar}(e:3<=t.cs.length)(hc:t.fD=true){i:Nat}(hi:i<t.cs.length):(t.eP i).dot (t.eP i)≠0:=by
 intro h;obtain⟨c,d⟩:=aGy h;obtain⟨k,k1,k2,k3⟩:=aGX (a:=i) (b:=t.nx i) e;rw[ar.fD,decide_eq_true_eq]at hc;have:=hc i hi k k1 k2 k3;simp only[ar.eP,V2.sub,eO]at c d;have e1:(t.at (t.nx i)).x=(t.at i).x:=by
  have:(((t.at (t.nx i)).x:Int):Rat)=(((t.at i).x:Int):Rat):=by grind
  exact Rat.intCast_inj.1 this
 have e2:(t.at (t.nx i)).y=(t.at i).y:=by
  have:(((t.at (t.nx i)).y:Int):Rat)=(((t.at i).y:Int):Rat):=by grind
  exact Rat.intCast_inj.1 this
 rw[lh,e1,e2]at this;simp at this
def fx(t:ar)(v:V2)(i:Nat):Bool:=decide (t.side i v=0)&&decide (dH (t.shr i v)=0)
theorem Ik{t:ar}{v:V2}{i:Nat}(b:∀p∈t.cs,dL p)(hi:i<t.cs.length)(c:bS 300 v):bI 1000 (t.shr i v):=by
 have a:=ar.okW b hi;exact(N1 (pU (mz c (iy (ar.dY b hi))) a) (pU a a)).mono (by decide)
theorem Y6(t:ar)(v:V2)(m:t.cs.length<=1000000)(d:∀p∈t.cs,dL p)(r:3<=t.cs.length)(hc:t.fD=true)(f:bS 300 v):aA prog 30 [ch t,eV v] (.int .i64 (dZ (dd (fx t v) t.cs.length) t.cs.length)):=by
 refine aG nf Qq mix (by simp[f30]) ?_;simp[f30,aa];refine lp (α:=Nat) (fun i=>⟨[(5,.p (.int .i64 i)),(3,.ptr 1 []),(2,.ptr 0 [])],[.box false (.p (ch t)),.box false (.p (eV v))]⟩) (fun i=>i<=t.cs.length/\i<=dd (fx t v) t.cs.length) (fun i=>t.cs.length-i) 0 (by simp) ?_;rintro i ⟨y,k⟩
 by_cases hi:i<t.cs.length
 ·have n:=ct (i:=i) (by omega);have kS:=Ic t i v m d hi (f.mono (by decide));have o:=Ii t i v m d hi (f.mono (by decide)) (Cd r hc hi);have q:=Ik d hi f;have s:bK (bn (t.shr i v))=0:=ZJ (q.mono (by decide));have g:=BS (bn (t.shr i v)) ⟨Nat.le_trans (qe (q.mono (by decide))) (by decide),fun c hc=>Nat.lt_trans (Sj _ c hc) (by decide)⟩;rw[vM,if_pos s,xU]at g;have l:fx t v i=true->dZ (dd (fx t v) t.cs.length) t.cs.length=(i:Int):=fun h=>by
   rw[tO k hi h,dZ,if_pos hi]
  have j:fx t v i=false->i+1<=t.cs.length/\i+1<=dd (fx t v) t.cs.length:=fun h=>⟨hi,tN k hi h⟩
  rw[fx]at l j;generalize dZ (dd (fx t v) t.cs.length) t.cs.length=x at*;generalize t.side i v=u at*;generalize dH (t.shr i v)=w at*
  by_cases a:u=0
  ·by_cases b:w=0
   ·have e:=l (by simp[a,b]);simp[hi,aa];refine Go.ag.c3 kS ?_;simp[a,aa];refine Go.ag.c3 o ?_;simp[aa];refine Go.ag.c1 g ?_;simp[b,e,aa]
   ·simp[hi,aa];refine Go.ag.c3 kS ?_;simp[a,aa];refine Go.ag.c3 o ?_;simp[aa];refine Go.ag.c1 g ?_;simp[b,n,aa];exact rd (i+1) (j (by simp[b]))
  ·simp[hi,aa];refine Go.ag.c3 kS ?_;simp[a,n,aa];exact rd (i+1) (j (by simp[a]))
 ·have:i=t.cs.length:=by omega
  subst this;have:=lX (fx t v) t.cs.length;have e:dZ (dd (fx t v) t.cs.length) t.cs.length= -1:=by rw[dZ,if_neg (by omega)]
  simp[e,aa]
noncomputable def ar.lR(t:ar)(i:Nat)(v:NV):NF:=((v.sub (b8 (t.at i))).dot (t.dB i)).div ((t.dB i).dot (t.dB i))
theorem NV.v7(v w:NV):(v.dot w).q=v.q.dot w.q:=rfl
theorem ar.yU(t:ar)(i:Nat)(v:NV):(t.lR i v).q=t.shr i v.q:=by
 show((v.sub (b8 (t.at i))).dot (t.dB i)).q/((t.dB i).dot (t.dB i)).q=_;rw[NV.v7,NV.v7,NV.kz,ar.tG,yW];rfl
theorem Tk{t:ar}{v:NV}{i:Nat}(a:∀p∈t.cs,dL p)(m:3<=t.cs.length)(hc:t.fD=true)(b:bS 300 v.q)(hi:i<t.cs.length):
 aA prog 91 [cM (b8 (t.at (t.nx i))),cM (b8 (t.at i))] (cM (t.dB i))/\
 aA prog 91 [cM v,cM (b8 (t.at i))] (cM (v.sub (b8 (t.at i))))/\
 aA prog 108 [cM (v.sub (b8 (t.at i))),cM (t.dB i)] (eF ((v.sub (b8 (t.at i))).dot (t.dB i)))/\
 aA prog 108 [cM (t.dB i),cM (t.dB i)] (eF ((t.dB i).dot (t.dB i)))/\
 aA prog 73 [eF ((v.sub (b8 (t.at i))).dot (t.dB i)),eF ((t.dB i).dot (t.dB i))] (eF (t.lR i v))/\
 aA prog 71 [cM (t.dB i),cM (v.sub (b8 (t.at i)))] (eF ((t.dB i).fw (v.sub (b8 (t.at i)))))/\
 aA prog 109 [eF ((t.dB i).fw (v.sub (b8 (t.at i))))] (.int .i64 (t.side i v.q))/\
 aA prog 109 [eF (t.lR i v)] (.int .i64 (eg (t.shr i v.q)))/\
 aA prog 110 [eF (t.lR i v),eF (.int 1)] (.int .i64 (cT (t.shr i v.q) 1))/\
 aA prog 72 [eF (t.lR i v)] (.aE [.str (bn (t.shr i v.q)),.int .i64 0]):=by
 have c:=iy (ar.dY a hi);have r:=iy (ar.dY a (t.iJ (by omega) i));have q1:bS 29 (t.dB i).q:=by rw[ar.tG];exact ar.okW a hi
 have d:bS 315 (v.sub (b8 (t.at i))).q:=by rw[NV.kz];exact mz b c
 have e:=xV ((t.dB i).fw (v.sub (b8 (t.at i))));have k:eg ((t.dB i).fw (v.sub (b8 (t.at i)))).q=t.side i v.q:=by rw[NV.yM,NV.kz,ar.tG];rfl
 rw[eg]at k;rw[k]at e;have f:=xV (t.lR i v);have j:eg (t.lR i v).q=eg (t.shr i v.q):=by rw[ar.yU]
 rw[eg]at j;rw[j]at f;have l:bI 1000 (t.lR i v).q:=by rw[ar.yU];exact Ik a hi b
 have g:=oI (t.lR i v) (.int 1) (l.mono (by decide)) (show bI kB 1 from⟨by decide+kernel,by decide+kernel⟩);rw[ar.yU,show(NF.int 1).q=1 from rfl]at g;have h:=IH (t.lR i v) (l.mono (by decide));rw[ar.yU]at h;have n:bI 700 ((v.sub (b8 (t.at i))).dot (t.dB i)).q:=by rw[NV.v7];exact(pU d q1).mono (by decide)
 have o:bI 700 ((t.dB i).dot (t.dB i)).q:=by rw[NV.v7];exact(pU q1 q1).mono (by decide)
 exact⟨tJ (b8 (t.at (t.nx i))) (b8 (t.at i)) (r.mono (by decide)) (c.mono (by decide)),tJ v (b8 (t.at i)) (b.mono (by decide)) (c.mono (by decide)),
  Cb _ _ (d.mono (by decide)) (q1.mono (by decide)),Cb _ _ (q1.mono (by decide)) (q1.mono (by decide)),
  EU _ _ (n.mono (by decide)) (o.mono (by decide)) (by rw[NV.v7,ar.tG];exact Cd m hc hi),
  BW _ _ (q1.mono (by decide)) (d.mono (by decide)),e,f,g,h⟩
def E6(t:ar)(v:V2):List PV:=if dd (fx t v) t.cs.length<t.cs.length then[.int .i64 (dd (fx t v) t.cs.length),.str (bn (t.shr (dd (fx t v) t.cs.length) v)),.int .i64 0]else[.int .i64 0,.str [],.int .i64 7]
noncomputable def qS(t:ar)(c d:List Nat)(b f2:Int)(v:NV)(a:Int)(s:List Nat)(L:ek):Heap:=[.box false (.p (b6 t)),.box false (.p (.st 41 [.str c,.str d])),.box false (.p (.int .i64 a)),.box false (.p (.str s)),.box false (.p (.int .i64 0)),.arr .frozen 0 1 [.p (.int .i64 b),.p (.int .i64 f2)],.box false (.p (cM v)),.loop L]
theorem yV{q:Rat}:dH q=0↔¬eg q<0/\¬0<cT q 1:=by
 rw[dH]
 by_cases h:eg q<0\/0<cT q 1
 ·rw[if_pos h];exact⟨fun h=>absurd h (by decide),fun⟨a,b⟩=>(h.elim a b).elim⟩
 ·rw[if_neg h];exact⟨fun _=>⟨fun a=>h (.inl a),fun b=>h (.inr b)⟩,fun _=>rfl⟩
theorem Zs(t:ar)(p:dU)(H:gJ t)(A:jk p)(hx:p.x.length<=40)(I:p.y.length<=40):aA prog 28 [b6 t,du p] (.aE (if iG t p=0 then E6 t (vP p)else[.int .i64 0,.str [],.int .i64 (iG t p)])):=by
 have k1:=tz t H;have k2:=ru p A;have k3:=lj [cG t,bX p] (by simp);simp only[ao,av]at k3;rw[show bt [cG t,bX p]=iG t p from rfl]at k3
 by_cases h:iG t p=0
 case neg=>
  rw[if_neg h];generalize iG t p=E at*;generalize cG t=B at*;generalize bX p=C at*;obtain⟨m,n⟩:=p;simp only[du]at*;refine aG nf Fm mix (by simp[f28]) ?_;simp[f28,aa];refine Go.ag.e1 k1 ?_;simp[aa];refine Go.ag.e1 k2 ?_;simp[aa];refine ep k3 (by simp;first|exact⟨rfl,rfl⟩|rfl) (by simp;first|exact⟨rfl,rfl⟩|rfl) ?_;simp[aa];refine⟨by repeat' first|rfl|apply am,?_⟩;simp[h,aa]
 rw[if_pos h];obtain⟨M,z2⟩:=yN h;obtain⟨T,X,G,hc⟩:=jD M;obtain⟨g1,g2⟩:=gB z2;have S:bS 300 (NV.from p).q:=rB ⟨(pM g1 hx).mono (by decide),(pM g2 I).mono (by decide)⟩;have k4:=pL p g1 g2 A;have J:=qO 1 (by decide) (by decide);have R:=H.cl;rw[h]at k3;rw[<-mA p];rw[E6];obtain⟨s1,s2,V⟩:=lX (fx t (NV.from p).q) t.cs.length;have D:=fun i(hi:i<t.cs.length)=>Tk G T hc S hi;generalize dd (fx t (NV.from p).q) t.cs.length=k at*;clear M z2 g1 g2 A hx I h;generalize cG t=B at*;generalize bX p=C at*;obtain⟨m,n⟩:=p;simp only[du]at*;generalize NV.from ⟨m,n⟩=v at*;refine aG nf Fm mix (by simp[f28]) ?_;simp[f28,aa];refine Go.ag.e1 k1 ?_;simp[aa];refine Go.ag.e1 k2 ?_;simp[aa];refine ep k3 (by simp;first|exact⟨rfl,rfl⟩|rfl) (by simp;first|exact⟨rfl,rfl⟩|rfl) ?_;simp[aa];refine⟨by repeat' first|rfl|apply am,?_⟩;refine Go.ag.c1 k4 ?_;simp[aa];refine c1 (Cg t) ?_;simp;refine rf (Ch t R G) rfl (by simp) (fun L _=>qS t m n B C v 0 [] L) k (by simpa using s1) (fun L=>rfl) ?_ ?_ ?_
 ·intro L g i hi;refine⟨rfl,by simp[qS],fun _ hx=>?_⟩;simp[qS]at hx⊢;exact hx
 ·intro L g i x hi hx;rw[tx (by omega)]at hx;injection hx with hx
  subst hx;have b:=s2 i hi;simp only[fx,Bool.and_eq_false_iff,decide_eq_false_iff_not,yV]at b;obtain⟨u,a2,a3,a4,a5,w,z,l,a9,F⟩:=D i (by omega);refine vK nf mix g rfl rfl (by kernel_rfl) ?_;have j:=congrArg ek.env g;dsimp only at j;clear g;generalize t.lR i v=Q at*;generalize (v.sub (b8 (t.at i))).dot (t.dB i)=O at*;generalize (t.dB i).dot (t.dB i)=P at*;generalize (t.dB i).fw (v.sub (b8 (t.at i)))=N at*;generalize v.sub (b8 (t.at i))=U at*;generalize t.dB i=W at*;generalize t.side i v.q=K at*;generalize t.shr i v.q=q at*;generalize eg q=r at*;generalize cT q 1=s at*;simp[qS,pI,nA,aa];refine e2 u ?_;simp[aa];refine e2 a2 ?_;simp[aa];refine⟨by repeat' first|rfl|apply am,?_⟩;refine e2 a3 ?_;simp[aa];refine e2 a4 ?_;simp[aa];refine e2 a5 ?_;simp[aa];refine⟨by repeat' first|rfl|apply am,?_⟩;refine e2 w ?_;simp[aa];refine e1 z ?_
  by_cases a:K=0
  case neg=>
   simp[a,aa];refine cV.og (by simp) (by simp) (by simp) (by simp) ?_;simp;exact tH j (by simp)
  have b:r<0\/0<s:=by
   rcases b with b|b
   ·exact absurd a b
   ·by_cases c:r<0
    ·exact .inl c
    ·by_cases d:0<s
     ·exact .inr d
     ·exact absurd ⟨c,d⟩ b
  by_cases f:r<0
  ·simp[a,aa];refine e1 l ?_;simp[a,f,aa];refine cV.og (by simp) (by simp) (by simp) (by simp) ?_;simp;exact tH j (by simp)
  ·have o:0<s:=b.elim (fun h=>absurd h f) id;simp[a,aa];refine e1 l ?_;simp[a,f,aa];refine e1 J ?_;simp[a,f,aa];refine e2 a9 ?_;simp[a,f,o,aa];refine cV.og (by simp) (by simp) (by simp) (by simp) ?_;simp;exact tH j (by simp)
 ·intro L g;rcases Nat.lt_or_ge k t.cs.length with hk|hk
  case inr=>
   have e:k=t.cs.length:=by omega
   refine .inl ⟨by simpa using e,?_⟩;rw[if_neg (by omega)];simp[qS,aa]
  refine .inr ⟨pI t k,.ret,qS t m n B C v k (bn (t.shr k v.q)) (L.dn .ret),tx hk,rfl,?_,?_⟩
  ·have b:=V hk;simp only[fx,an,decide_eq_true_eq,yV]at b;obtain⟨a,f,o⟩:=b;obtain⟨u,a2,a3,a4,a5,w,z,l,a9,F⟩:=D k (by omega);refine vK nf mix g rfl rfl (by kernel_rfl) ?_;have j:=congrArg ek.env g;dsimp only at j;clear g;generalize t.lR k v=Q at*;generalize (v.sub (b8 (t.at k))).dot (t.dB k)=O at*;generalize (t.dB k).dot (t.dB k)=P at*;generalize (t.dB k).fw (v.sub (b8 (t.at k)))=N at*;generalize v.sub (b8 (t.at k))=U at*;generalize t.dB k=W at*;generalize t.side k v.q=K at*;generalize t.shr k v.q=q at*;generalize eg q=r at*;generalize cT q 1=s at*;simp[qS,pI,nA,aa];refine e2 u ?_;simp[aa];refine e2 a2 ?_;simp[aa];refine⟨by repeat' first|rfl|apply am,?_⟩;refine e2 a3 ?_;simp[aa];refine e2 a4 ?_;simp[aa];refine e2 a5 ?_;simp[aa];refine⟨by repeat' first|rfl|apply am,?_⟩;refine e2 w ?_;simp[aa];refine e1 z ?_;simp[a,aa];refine e1 l ?_;simp[a,f,aa];refine e1 J ?_;simp[a,f,aa];refine e2 a9 ?_;simp[a,f,o,aa];refine c1 F ?_;simp[a,f,o,aa];refine cV.og (by simp) (by simp) (by simp) (by simp) ?_;simp;exact aF5 j (by simp)
  ·rw[if_pos hk];simp[qS,jM]
def dK(t:ar)(name:List Nat):Nat:=dd (fun i=>decide ((t.sp i).name=name)) t.aB.length
theorem To(t:ar)(name:List Nat):lg t name=dZ (dK t name) t.aB.length:=by
 obtain⟨e,a,b⟩:=lX (fun i=>decide ((t.sp i).name=name)) t.aB.length;change dK t name<=t.aB.length at e;change∀i,i<dK t name->_ at a;change dK t name<t.aB.length->decide ((t.sp (dK t name)).name=name)=true at b;rw[dZ]
 by_cases c:dK t name<t.aB.length
 ·rw[if_pos c];have:t.aB.findIdx? (fun s=>decide (s.name=name))=some (dK t name):=by
   rw[List.findIdx?_eq_some_iff_getElem];refine⟨c,by rw[ar.nG];exact b c,fun j d=>?_⟩;rw[ar.nG];simpa using a j d
  rw[lg,this]
 ·rw[if_neg c];have:t.aB.findIdx? (fun s=>decide (s.name=name))=none:=by
   rw[List.findIdx?_eq_none_iff];intro s hs;obtain⟨j,d,rfl⟩:=List.mem_iff_getElem.1 hs;rw[ar.nG];simpa using a j (by omega)
  rw[lg,this]
theorem aGw{t:ar}(h:cG t=0){j:Nat}(a:j<t.aB.length):iA t (t.aB.take j) (t.sp j)=0:=by
 rw[yO]at h
 split at h
 case isFalse=>contradiction
 split at h
 case isFalse=>contradiction
 rw[jn]at h
 split at h
 ·cases h
 have:=nJ.1 h j a
 rwa [ga,ar.ft a]at this
theorem y8{t:ar}(h:cG t=0){j:Nat}(a:j<t.aB.length):bX (t.sp j).pt=0:=by
 have:=aGw h a;rw[iA]at this
 split at this
 ·cases this
 split at this
 ·cases this
 split at this
 ·contradiction
 ·rename_i h;exact Decidable.not_not.1 h
theorem Ix(t b:ar)(v:V2)(q:t.cs.length<=1000000)(r:∀p∈t.cs,dL p)(l:0<=t.br)(m:t.br<=1000000)(z:b.aB.length<=1000000)(s:∀o∈b.aB,pz o)(g:bS 2000 v):aA prog 52 [ch t,.seq (b.aB.map bO),eV v] (.bool (nM t b v)):=by
 have k:=wy t v q r (g.mono (by decide));rw[nM];refine aG nf QC mix (by simp[f52]) ?_
 by_cases c:t.on v<0
 ·have c':¬0<=t.on v:=by omega
  simp[f52,aa];refine Go.ag.c2 k ?_;simp[c,c',aa]
 have c':0<=t.on v:=by omega
 rw[decide_eq_true c',Bool.true_and];simp[f52,aa];refine Go.ag.c2 k ?_;simp[c,aa];refine lp (α:=Nat) (fun i=>⟨[(7,.p (.int .i64 i)),(5,.ptr 1 []),(3,.ptr 0 []),(1,.p (.seq (b.aB.map bO)))],[.box false (.p (ch t)),.box false (.p (eV v))]⟩) (fun i=>i<=b.aB.length/\(b.aB.take i).any (fun o=>decide (eX t.br (vP o.pt) v<0))=false) (fun i=>b.aB.length-i) 0 (by simp) ?_;rintro i ⟨i1,i2⟩
 by_cases hi:i<b.aB.length
 ·have a:=ar.ft hi;have u:=ct (i:=i) (by omega);obtain⟨_,w⟩:=s _ (ap a);obtain⟨e,ok⟩:=lr w;have j:=Hf t (vP (b.sp i).pt) v l m ok g;rw[e]at j;have d:=tu (f:=fun o:cF=>decide (eX t.br (vP o.pt) v<0)) a;have n:eX t.br (vP (b.sp i).pt) v<0->b.aB.any (fun o=>decide (eX t.br (vP o.pt) v<0))=true:=fun h=>List.any_eq_true.2 ⟨b.sp i,ap a,by simpa using h⟩;rw[i2,Bool.false_or]at d;generalize b.aB.any (fun o=>decide (eX t.br (vP o.pt) v<0))=x at*;generalize eX t.br (vP (b.sp i).pt) v=y at*;simp[hi,a,aa];refine Go.ag.e3 j ?_
  by_cases hy:y<0
  ·simp[hy,n hy,aa]
  ·simp[hy,u,aa];exact rd (i+1) ⟨hi,by rw[d];simpa using hy⟩
 ·have:i=b.aB.length:=by omega
  subst this;rw[List.take_length]at i2;simp[i2,aa]
def fu(a s:V2):Nat->V2
 |0=>a
 |i+1=>(fu a s i).add s
theorem Iz(a s:V2):∀i:Nat,fu a s i=a.add (s.mul ((i:Int):Rat))
 |0=>by
  rw[fu];obtain⟨b,c⟩:=a;simp only[V2.add,V2.mul];congr 1<;>(rw[show(((0:Nat):Int):Rat)=0 from rfl];grind)
 |i+1=>by
  rw[fu,Iz a s i];obtain⟨b,c⟩:=a;have e:(((i+1:Nat):Int):Rat)=((i:Int):Rat)+1:=by
   rw[show((i+1:Nat):Int)=(i:Int)+1 from rfl,Rat.intCast_add];rfl
  simp only[V2.add,V2.mul,e];congr 1<;>grind
@[simp] theorem aMn:aM fo=.agg 41:=rfl
theorem Iu{a s:V2}(b:bS 133 a)(hs:bS 133 s){i:Nat}(hi:i<=200):bS 300 (fu a s i):=by
 rw[Iz];have h:bI 8 (((i:Int)):Rat):=xG (by omega) (by decide);exact(F0 b (yK hs h)).mono (by decide)
def rl(t b:ar)(v:V2):Bool:=decide (t.on v<0)||nM t b v
def pE(t b:ar)(a s:V2):Nat:=dd (fun i=>rl t b (fu a s i)) 200
def jo(t b:ar)(a s:V2):List PV:=if pE t b a s<200 then(if t.on (fu a s (pE t b a s))<0 then[fo,.int .i64 7]else[eV (fu a s (pE t b a s)),.int .i64 0])else[fo,.int .i64 22]
theorem Tw(t b:ar)(a s:V2)(l:t.cs.length<=1000000)(m:∀p∈t.cs,dL p)(u:0<=t.br)(v:t.br<=1000000)(x:b.aB.length<=1000000)(z:∀o∈b.aB,pz o)(w:bS 133 a)(hs:bS 133 s):
 aA prog 38 [ch t,.seq (b.aB.map bO),eV a,eV s] (.aE (jo t b a s)):=by
 refine aG nf Qx mix (by simp[f38]) ?_;simp[f38,aa];refine lp (α:=Nat) (fun i=>⟨[(10,.p (.int .i64 i)),(8,.ptr 3 []),(7,.ptr 2 []),(6,.ptr 1 []),(4,.ptr 0 []),(1,.p (.seq (b.aB.map bO)))],[.box false (.p (ch t)),.box false (.p (eV (fu a s i))),.box false (.p (eV s)),.box false (.p fo)]⟩) (fun i=>i<=200/\i<=pE t b a s) (fun i=>200-i) 0 (by simp) ?_ (hh:=by simp[fu,fo]);rintro i ⟨i1,i2⟩
 by_cases hi:i<200
 ·have B:=ct (i:=i) (by omega);have k:=Iu w hs (i:=i) (by omega);have j:=wy t (fu a s i) l m (k.mono (by decide));have n:=Ix t b (fu a s i) l m u v x z (k.mono (by decide));have q:=F3 (fu a s i) s (k.mono (by decide)) (hs.mono (by decide));rw[show(fu a s i).add s=fu a s (i+1)from rfl]at q;have g:rl t b (fu a s i)=true->jo t b a s=if t.on (fu a s i)<0 then[fo,.int .i64 7]else[eV (fu a s i),.int .i64 0]:=fun h=>by
   have e:pE t b a s=i:=tO i2 hi h;rw[jo,e,if_pos hi]
  have r:rl t b (fu a s i)=false->i+1<=200/\i+1<=pE t b a s:=fun h=>⟨hi,tN i2 hi h⟩
  rw[rl]at g r;have d:(i:Int)<200:=by omega
  generalize jo t b a s=C at*;generalize nM t b (fu a s i)=f at*;generalize t.on (fu a s i)=y at*
  by_cases c:y<0
  ·have:=g (by simp[c]);rw[if_pos c]at this;simp[d,aa];refine Go.ag.c2 j ?_;simp[c,this,fo,aa]
  cases f
  case true=>
   have:=g (by simp);rw[if_neg c]at this;simp[d,aa];refine Go.ag.c2 j ?_;simp[c,aa];refine Go.ag.c3 n ?_;simp[this,aa]
  ·simp[d,aa];refine Go.ag.c2 j ?_;simp[c,aa];refine Go.ag.c3 n ?_;simp[aa];refine Go.ag.c2 q ?_;simp[B,aa];exact rd (i+1) (r (by simp[c]))
 ·have e:i=200:=by omega
  subst e;have A:jo t b a s=[fo,.int .i64 22]:=by rw[jo,if_neg (by omega)]
  rw[A];simp[fo,aa]
theorem Ta(c:aA prog 12 [] (.bool true))(t:ar)(a:gJ t):aA prog 3 [ch t] (.bool true):=by
 have s0:=vO t a.cl a.pl a.sl;refine aG nf Fo mix (by simp[f3]) ?_;rcases b:jm t with _|_
 ·rw[b]at s0;simp[f3,aa];refine Go.ag.c1 s0 ?_;simp[aa];refine Go.ag.c0 c ?_;simp
 rw[b]at s0;have q0:=vQ t a.cl a.pl a.sl;have q1:=Zq t a;have d:=vI t a;have f:=tz t a
 by_cases h:cG t=0
 ·rw[if_pos h]at q1;rw[h]at d f;obtain⟨i,j,g,_⟩:=jD h;have q4:=Y1 t a.cl g;clear b h;generalize bn (iW (t.iM t.cs.length) 2)=A at*;simp[f3,aa];refine Go.ag.c1 s0 ?_;simp[aa];refine Go.ag.c1 q0 ?_;simp[aa];refine Go.ag.c1 q1 ?_;simp[aa];refine Go.ag.c1 d ?_;simp[aa];refine Go.ag.c1 q0 ?_;simp[aa];refine Go.ag.c1 f ?_;simp[aa];refine Go.ag.c1 q4 ?_;simp[aa];refine Go.ag.c0 c ?_;simp
 ·rw[if_neg h]at q1;clear b;generalize cG t=e at*;simp[f3,aa];refine Go.ag.c1 s0 ?_;simp[aa];refine Go.ag.c1 q0 ?_;simp[aa];refine Go.ag.c1 q1 ?_;simp[aa];refine Go.ag.c1 d ?_;simp[aa];refine Go.ag.c1 q0 ?_;simp[aa];refine Go.ag.c1 f ?_;simp[h,aa];refine Go.ag.c0 c ?_;simp
open Go.Proofs Go.Proofs.YtgpphcmkjhklgaaGreatDoor
section
variable{H:Type}{W:World}{ad:Nat->Prop}
theorem aHF:∃a b:Field,prog.underlying 182=some (.struct #[a,b])/\a.type=9/\b.type=42:=⟨_,_,underlying182,rfl,rfl⟩
theorem RO:prog.underlyingId 182=74:=by kernel_rfl
theorem SQ{m n:Nat}(s:m=n+2){d:DataW H}(h:∃cs,aS prog W ad (bF prog (m+1) 182 d) cs)(o:Rows.uptoBulk d<=1048576):∃p:cF,bF prog (m+1) 182 d=bO p/\kT p/\2<=Rows.uptoBulk d:=by
 obtain⟨cs,h⟩:=h;obtain⟨f0,f1,g,t0,t1⟩:=aHF;cases d with
 |agg l=>
  have f:∀x∈l,Rows.uptoBulk x<=1048576:=fun x hx=>by
   have:=lK.u3 hx;rw[Rows.uptoBulk]at o;omega
  simp only[bF,g,aS]at h⊢;obtain⟨u,t,e,c,_⟩:=h;rw[RO,RL]at e;cases e
  match l,c with
  |[],c=>simp[bd]at c
  |[x],c=>simp[bd]at c
  |x::y::r,c=>
   have:=vJ x;simp only[ax,ao,bd,ay,av,t0,t1]at c⊢;obtain⟨c0,_,_,g1,_,c1,_,_,g2,_⟩:=c;subst s;obtain⟨a,i,k⟩:=yP (n:=n+1) ⟨c0,g1⟩ (f x (by simp));obtain⟨b,j,q⟩:=Ak (n:=n) ⟨c1,g2⟩ (f y (by simp));refine⟨⟨a,b⟩,by rw[i,j,RO];rfl,⟨k,q⟩,?_⟩;rw[Rows.uptoBulk,Rows.uptoBulkAll];omega
 |_=>simp only[bF,g,aS]at h
theorem aFY{d:DataW H}(h:∃cs,aS prog W ad (bF prog 8 29 d) cs)(b:Rows.uptoBulk d<=1048576):∃s:List Nat,bF prog 8 29 d=.str s/\True/\fW s:=by
 obtain⟨s,e,a⟩:=yj (n:=7) h b;exact⟨s,e,trivial,a⟩
theorem Ie{d:DataW H}(h:∃cs,aS prog W ad (bF prog 8 62 d) cs)(a:Rows.uptoBulk d<=1048576):∃b:ar,bF prog 8 62 d=.seq (b.aB.map bO)/\True/\lU b:=by
 obtain⟨b,c,e,g⟩:=yQ (n:=7) aHv (F:=bO) (ok:=kT) (fun d f a=>SQ (n:=4) rfl f a) h a;exact⟨⟨[],0,[],b⟩,c,trivial,g,e⟩
end
def lW(p:dU):Bool:=decide (40<p.x.length)||decide (40<p.y.length)
theorem Ca(p:dU):aA prog 27 [du p] (.bool (lW p)):=by
 obtain⟨x,y⟩:=p;rw[lW];dsimp only;refine aG nf Qo mix (by simp[f27]) ?_;simp only[du]
 by_cases b:40<x.length
 ·have a:(40:Int)<x.length:=by omega
  simp[f27,aa,b,a]
 ·have a:¬(40:Int)<x.length:=by omega
  by_cases d:40<y.length
  ·have c:(40:Int)<y.length:=by omega
   simp[f27,aa,b,a,d,c]
  ·have c:¬(40:Int)<y.length:=by omega
   simp[f27,aa,b,a,d,c]
theorem IB{p:dU}(h:lW p=false):p.x.length<=40/\p.y.length<=40:=by
 simp only[lW,Bool.or_eq_false_iff,decide_eq_false_iff_not]at h;omega
theorem Tb(j:aA prog 12 [] (.bool true))(t b:ar)(p:dU)(d:gJ t)(k:lU b)(w:jk p):aA prog 9 [ch t,.seq (b.aB.map bO),du p] (.bool true):=by
 have s0:=vO t d.cl d.pl d.sl;have l:=Gy b 8 k.sl (by decide);rw[show(((8:Nat):Int))=8 from rfl]at l;have o:=Ca p;have q0:=vQ t d.cl d.pl d.sl;have q1:=Zu t p d w;have e:=Hi b k.sl;have f:=Zt t b p d k w;have q4:=B0 t b d k;have g:=GL t b d k;have r:=vI t d;have i:=wC p w;have m:=yk [cG t,bX p] (by simp);have n:=yk [gw t b,bX p] (by simp);simp only[ao,av]at m n;rw[show bt [cG t,bX p]=iG t p from rfl]at m;rw[show bt [gw t b,bX p]=mN t b p from rfl]at n;have H:iG t p=0->aA prog 42 [ch t,du p] (.int .i64 (t.on (vP p))):=fun h=>by
  obtain⟨s,q⟩:=yN h;obtain⟨F,G,v,_⟩:=jD s;have:=wy t (vP p) d.cl v ((lr q).2.mono (by decide))
  rwa [(lr q).1]at this
 have z:mN t b p=0->aA prog 52 [ch t,.seq (b.aB.map bO),du p] (.bool (nM t b (vP p))):=fun h=>by
  rw[mN,jK]at h;have I:=h (gw t b) (by simp);have q:=h (bX p) (by simp);obtain⟨s,E⟩:=yY k I;obtain⟨F,G,v,_⟩:=jD s;obtain⟨c1,c2⟩:=tK s;have:=Ix t b (vP p) d.cl v (by omega) (by omega) k.sl E (lr q).2
  rwa [(lr q).1]at this
 generalize iG t p=A at*;generalize mN t b p=x at*;generalize cG t=L at*;generalize bX p=M at*;generalize gw t b=N at*;generalize t.on (vP p)=O at*;generalize nM t b (vP p)=P at*;generalize jm t=B at*;generalize re 8 b.aB=C at*;generalize lW p=D at*;obtain⟨J,K⟩:=p;simp only[du]at*;refine aG nf Fp mix (by simp[f9]) ?_;cases B
 case false=>
  simp[f9,aa];refine Go.ag.c1 s0 ?_;simp[aa];refine Go.ag.c0 j ?_;simp[aa]
 cases C
 case false=>
  simp[f9,aa];refine Go.ag.c1 s0 ?_;simp[aa];refine Go.ag.c2 l ?_;simp[aa];refine Go.ag.c0 j ?_;simp[aa]
 cases D
 case true=>
  simp[f9,aa];refine Go.ag.c1 s0 ?_;simp[aa];refine Go.ag.c2 l ?_;simp[aa];refine Go.ag.c1 o ?_;simp[aa];refine Go.ag.c0 j ?_;simp[aa]
 by_cases c:A=0
 ·subst c;rw[if_pos rfl]at q1;have y:=H rfl
  by_cases a:x=0
  ·subst a;rw[if_pos rfl]at f;have u:=z rfl;simp[f9,aa];refine Go.ag.c1 s0 ?_;simp[aa];refine Go.ag.c2 l ?_;simp[aa];refine Go.ag.c1 o ?_;simp[aa];refine Go.ag.e1 q0 ?_;simp[aa];refine Go.ag.e2 q1 ?_;simp[aa];refine Go.ag.e1 q0 ?_;simp[aa];refine Go.ag.e1 e ?_;simp[aa];refine Go.ag.e3 f ?_;simp[aa];refine Go.ag.e1 q0 ?_;simp[aa];refine Go.ag.e1 e ?_;simp[aa];refine Go.ag.e2 q4 ?_;simp[aa];refine Go.ag.e2 g ?_;simp[aa];refine Go.ag.e1 r ?_;simp[aa];refine Go.ag.e1 i ?_;simp[aa];refine ep m (by simp;first|exact⟨rfl,rfl⟩|rfl) (by simp;first|exact⟨rfl,rfl⟩|rfl) ?_;simp[aa];refine⟨by repeat' first|rfl|apply am,?_⟩;refine Go.ag.e2 g ?_;simp[aa];refine Go.ag.e1 i ?_;simp[aa];refine ep n (by simp;first|exact⟨rfl,rfl⟩|rfl) (by simp;first|exact⟨rfl,rfl⟩|rfl) ?_;simp[aa];refine⟨by repeat' first|rfl|apply am,?_⟩;refine Go.ag.c2 y ?_;simp[aa];refine Go.ag.c3 u ?_;simp[aa];refine Go.ag.c0 j ?_;simp[aa]
  ·rw[if_neg a]at f;simp[f9,aa];refine Go.ag.c1 s0 ?_;simp[aa,a];refine Go.ag.c2 l ?_;simp[aa,a];refine Go.ag.c1 o ?_;simp[aa,a];refine Go.ag.e1 q0 ?_;simp[aa,a];refine Go.ag.e2 q1 ?_;simp[aa,a];refine Go.ag.e1 q0 ?_;simp[aa,a];refine Go.ag.e1 e ?_;simp[aa,a];refine Go.ag.e3 f ?_;simp[aa,a];refine Go.ag.e1 q0 ?_;simp[aa,a];refine Go.ag.e1 e ?_;simp[aa,a];refine Go.ag.e2 q4 ?_;simp[aa,a];refine Go.ag.e2 g ?_;simp[aa,a];refine Go.ag.e1 r ?_;simp[aa,a];refine Go.ag.e1 i ?_;simp[aa,a];refine ep m (by simp;first|exact⟨rfl,rfl⟩|rfl) (by simp;first|exact⟨rfl,rfl⟩|rfl) ?_;simp[aa,a];refine⟨by repeat' first|rfl|apply am,?_⟩;refine Go.ag.e2 g ?_;simp[aa,a];refine Go.ag.e1 i ?_;simp[aa,a];refine ep n (by simp;first|exact⟨rfl,rfl⟩|rfl) (by simp;first|exact⟨rfl,rfl⟩|rfl) ?_;simp[aa,a];refine⟨by repeat' first|rfl|apply am,?_⟩;refine Go.ag.c2 y ?_;simp[aa,a];refine Go.ag.c0 j ?_;simp[aa,a]
 ·rw[if_neg c]at q1
  by_cases a:x=0
  ·subst a;rw[if_pos rfl]at f;have u:=z rfl;simp[f9,aa];refine Go.ag.c1 s0 ?_;simp[aa,c];refine Go.ag.c2 l ?_;simp[aa,c];refine Go.ag.c1 o ?_;simp[aa,c];refine Go.ag.e1 q0 ?_;simp[aa,c];refine Go.ag.e2 q1 ?_;simp[aa,c];refine Go.ag.e1 q0 ?_;simp[aa,c];refine Go.ag.e1 e ?_;simp[aa,c];refine Go.ag.e3 f ?_;simp[aa,c];refine Go.ag.e1 q0 ?_;simp[aa,c];refine Go.ag.e1 e ?_;simp[aa,c];refine Go.ag.e2 q4 ?_;simp[aa,c];refine Go.ag.e2 g ?_;simp[aa,c];refine Go.ag.e1 r ?_;simp[aa,c];refine Go.ag.e1 i ?_;simp[aa,c];refine ep m (by simp;first|exact⟨rfl,rfl⟩|rfl) (by simp;first|exact⟨rfl,rfl⟩|rfl) ?_;simp[aa,c];refine⟨by repeat' first|rfl|apply am,?_⟩;refine Go.ag.e2 g ?_;simp[aa,c];refine Go.ag.e1 i ?_;simp[aa,c];refine ep n (by simp;first|exact⟨rfl,rfl⟩|rfl) (by simp;first|exact⟨rfl,rfl⟩|rfl) ?_;simp[aa,c];refine⟨by repeat' first|rfl|apply am,?_⟩;refine Go.ag.c3 u ?_;simp[aa,c];refine Go.ag.c0 j ?_;simp[aa,c]
  ·rw[if_neg a]at f;simp[f9,aa];refine Go.ag.c1 s0 ?_;simp[aa,c,a];refine Go.ag.c2 l ?_;simp[aa,c,a];refine Go.ag.c1 o ?_;simp[aa,c,a];refine Go.ag.e1 q0 ?_;simp[aa,c,a];refine Go.ag.e2 q1 ?_;simp[aa,c,a];refine Go.ag.e1 q0 ?_;simp[aa,c,a];refine Go.ag.e1 e ?_;simp[aa,c,a];refine Go.ag.e3 f ?_;simp[aa,c,a];refine Go.ag.e1 q0 ?_;simp[aa,c,a];refine Go.ag.e1 e ?_;simp[aa,c,a];refine Go.ag.e2 q4 ?_;simp[aa,c,a];refine Go.ag.e2 g ?_;simp[aa,c,a];refine Go.ag.e1 r ?_;simp[aa,c,a];refine Go.ag.e1 i ?_;simp[aa,c,a];refine ep m (by simp;first|exact⟨rfl,rfl⟩|rfl) (by simp;first|exact⟨rfl,rfl⟩|rfl) ?_;simp[aa,c,a];refine⟨by repeat' first|rfl|apply am,?_⟩;refine Go.ag.e2 g ?_;simp[aa,c,a];refine Go.ag.e1 i ?_;simp[aa,c,a];refine ep n (by simp;first|exact⟨rfl,rfl⟩|rfl) (by simp;first|exact⟨rfl,rfl⟩|rfl) ?_;simp[aa,c,a];refine⟨by repeat' first|rfl|apply am,?_⟩;refine Go.ag.c0 j ?_;simp[aa,c,a]
def qR(t:ar)(e:Int):Int:=if cG t=0/\(e<0\/(t.cs.length:Int)<=e)then 10 else cG t
theorem air(t:ar)(e:Int)(s:List Nat):bt [qR t e,bK s]=jE t e s:=by
 rw[qR,jE]
 by_cases h:cG t=0
 ·by_cases o:e<0\/(t.cs.length:Int)<=e
  ·simp[h,o,aX,bt]
  ·simp[h,o,aX,bt]
 ·simp[h,bt]
theorem Th(u:aA prog 12 [] (.bool true))(t:ar)(e:Int)(s:List Nat)(p:gJ t)(hs:fW s):aA prog 4 [ch t,.int .i64 e,.str s] (.bool true):=by
 have s0:=vO t p.cl p.pl p.sl;have z:=PF [] [];have q0:=vQ t p.cl p.pl p.sl;have q:=vI t p;have q4:=uS s hs;have l:=yk [qR t e,bK s] (by simp);simp only[ao,av]at l;rw[air]at l;have P:=hs.1;have G:=p.cl;have M:=p.pl
 by_cases O:40<s.length
 ·have a:(40:Int)<s.length:=by omega
  generalize jm t=K at*;clear q0 q q4 l;refine aG nf mE mix (by simp[f4]) ?_;cases K
  ·simp[f4,aa];refine Go.ag.c1 s0 ?_;simp[aa,bD];refine Go.ag.c0 u ?_;simp[aa,bD]
  ·simp[f4,aa];refine Go.ag.c1 s0 ?_;simp[aa,bD,a];refine Go.ag.c0 u ?_;simp[aa,bD,a]
 have a:¬(40:Int)<s.length:=by omega
 cases D:jm t
 ·rw[D]at s0;clear q0 q q4 l;refine aG nf mE mix (by simp[f4]) ?_;simp[f4,aa];refine Go.ag.c1 s0 ?_;simp[aa,bD,a];refine Go.ag.c0 u ?_;simp[aa,bD,a]
 rw[D]at s0;clear D;have q1:=Zr t e s p hs (by omega);have m:=Tc t e s p hs
 by_cases w:iN t e s=0
 case neg=>
  rw[if_neg w]at q1 m
  by_cases f:jE t e s=0
  ·obtain⟨x,z2,z3,z4⟩:=wj f;have o:=dW z4;have y:=uQ (aL s) (o.mono (by decide));rw[(fU z4).1]at y;have A:=nK (aL s) 1 (o.mono (by decide)) ((show bI 1 1 from⟨by decide,by decide⟩).mono (by decide));rw[(fU z4).1,show bn 1=[49]from by decide+kernel]at A;have v:iN t e s=dH (aL s):=by rw[iN,if_pos f]
   have B:qR t e=0:=by rw[qR,if_neg (by omega),x]
   rw[f,B]at l;rw[x]at q;rw[z4]at q4 l;rw[v]at w q1 m;have v:dH (aL s)=3:=by
    rw[dH]at w⊢
    split at w
    ·rename_i L;exact if_pos L
    ·exact absurd rfl w
   rw[v]at q1 m;rw[yV]at w;clear f v B hs o;generalize eg (aL s)=I at*;generalize cT (aL s) 1=J at*;simp only[fo]at*;have b:¬e<0:=by omega
   have c:¬(t.cs.length:Int)<=e:=by omega
   refine aG nf mE mix (by simp[f4]) ?_
   by_cases d:I<0
   ·simp[f4,aa];refine Go.ag.c1 s0 ?_;simp[aa,bD,a,b,c,d];refine Go.ag.c1 q0 ?_;simp[aa,bD,a,b,c,d];refine Go.ag.c3 q1 ?_;simp[aa,bD,a,b,c,d];refine Go.ag.c1 q0 ?_;simp[aa,bD,a,b,c,d];refine Go.ag.c3 m ?_;simp[aa,bD,a,b,c,d];refine Go.ag.c1 q ?_;simp[aa,bD,a,b,c,d];refine Go.ag.c1 q4 ?_;simp[aa,bD,a,b,c,d];refine cp l (by simp;first|exact⟨rfl,rfl⟩|rfl) ?_;simp[aa,bD,a,b,c,d];refine Go.ag.c1 y ?_;simp[aa,bD,a,b,c,d];refine Go.ag.e2 z ?_;simp[aa,bD,a,b,c,d];refine Go.ag.e0 u ?_;simp[aa,bD,a,b,c,d]
   have g:0<J:=by omega
   simp[f4,aa];refine Go.ag.c1 s0 ?_;simp[aa,bD,a,b,c,d,g];refine Go.ag.c1 q0 ?_;simp[aa,bD,a,b,c,d,g];refine Go.ag.c3 q1 ?_;simp[aa,bD,a,b,c,d,g];refine Go.ag.c1 q0 ?_;simp[aa,bD,a,b,c,d,g];refine Go.ag.c3 m ?_;simp[aa,bD,a,b,c,d,g];refine Go.ag.c1 q ?_;simp[aa,bD,a,b,c,d,g];refine Go.ag.c1 q4 ?_;simp[aa,bD,a,b,c,d,g];refine cp l (by simp;first|exact⟨rfl,rfl⟩|rfl) ?_;simp[aa,bD,a,b,c,d,g];refine Go.ag.c1 y ?_;simp[aa,bD,a,b,c,d,g];refine Go.ag.c2 A ?_;simp[aa,bD,a,b,c,d,g];refine Go.ag.e2 z ?_;simp[aa,bD,a,b,c,d,g];refine Go.ag.e0 u ?_;simp[aa,bD,a,b,c,d,g]
  ·have v:iN t e s=jE t e s:=by rw[iN,if_neg f]
   rw[v]at q1 m;clear v w hs;rw[qR]at l;simp only[fo]at*;generalize jE t e s=F at*;generalize cG t=N at*;generalize bK s=T at*
   by_cases hx:N=0
   ·subst hx
    by_cases b:e<0
    ·simp only[b,true_and,true_or,if_true]at l;refine aG nf mE mix (by simp[f4]) ?_;simp[f4,aa];refine Go.ag.c1 s0 ?_;simp[aa,bD,a,b,f];refine Go.ag.c1 q0 ?_;simp[aa,bD,a,b,f];refine Go.ag.c3 q1 ?_;simp[aa,bD,a,b,f];refine Go.ag.c1 q0 ?_;simp[aa,bD,a,b,f];refine Go.ag.c3 m ?_;simp[aa,bD,a,b,f];refine Go.ag.c1 q ?_;simp[aa,bD,a,b,f];refine Go.ag.c1 q4 ?_;simp[aa,bD,a,b,f];refine cp l (by simp;first|exact⟨rfl,rfl⟩|rfl) ?_;simp[aa,bD,a,b,f];refine Go.ag.e2 z ?_;simp[aa,bD,a,b,f];refine Go.ag.e0 u ?_;simp[aa,bD,a,b,f]
    ·by_cases c:(t.cs.length:Int)<=e
     ·simp only[c,true_and,or_true,if_true]at l;refine aG nf mE mix (by simp[f4]) ?_;simp[f4,aa];refine Go.ag.c1 s0 ?_;simp[aa,bD,a,b,c,f];refine Go.ag.c1 q0 ?_;simp[aa,bD,a,b,c,f];refine Go.ag.c3 q1 ?_;simp[aa,bD,a,b,c,f];refine Go.ag.c1 q0 ?_;simp[aa,bD,a,b,c,f];refine Go.ag.c3 m ?_;simp[aa,bD,a,b,c,f];refine Go.ag.c1 q ?_;simp[aa,bD,a,b,c,f];refine Go.ag.c1 q4 ?_;simp[aa,bD,a,b,c,f];refine cp l (by simp;first|exact⟨rfl,rfl⟩|rfl) ?_;simp[aa,bD,a,b,c,f];refine Go.ag.e2 z ?_;simp[aa,bD,a,b,c,f];refine Go.ag.e0 u ?_;simp[aa,bD,a,b,c,f]
     ·rw[if_neg (by omega)]at l;refine aG nf mE mix (by simp[f4]) ?_;simp[f4,aa];refine Go.ag.c1 s0 ?_;simp[aa,bD,a,b,c,f];refine Go.ag.c1 q0 ?_;simp[aa,bD,a,b,c,f];refine Go.ag.c3 q1 ?_;simp[aa,bD,a,b,c,f];refine Go.ag.c1 q0 ?_;simp[aa,bD,a,b,c,f];refine Go.ag.c3 m ?_;simp[aa,bD,a,b,c,f];refine Go.ag.c1 q ?_;simp[aa,bD,a,b,c,f];refine Go.ag.c1 q4 ?_;simp[aa,bD,a,b,c,f];refine cp l (by simp;first|exact⟨rfl,rfl⟩|rfl) ?_;simp[aa,bD,a,b,c,f];refine Go.ag.e2 z ?_;simp[aa,bD,a,b,c,f];refine Go.ag.e0 u ?_;simp[aa,bD,a,b,c,f]
   ·rw[if_neg (fun h=>hx h.1)]at l;refine aG nf mE mix (by simp[f4]) ?_;simp[f4,aa];refine Go.ag.c1 s0 ?_;simp[aa,bD,a,hx,f];refine Go.ag.c1 q0 ?_;simp[aa,bD,a,hx,f];refine Go.ag.c3 q1 ?_;simp[aa,bD,a,hx,f];refine Go.ag.c1 q0 ?_;simp[aa,bD,a,hx,f];refine Go.ag.c3 m ?_;simp[aa,bD,a,hx,f];refine Go.ag.c1 q ?_;simp[aa,bD,a,hx,f];refine Go.ag.c1 q4 ?_;simp[aa,bD,a,hx,f];refine cp l (by simp;first|exact⟨rfl,rfl⟩|rfl) ?_;simp[aa,bD,a,hx,f];refine Go.ag.e2 z ?_;simp[aa,bD,a,hx,f];refine Go.ag.e0 u ?_;simp[aa,bD,a,hx,f]
 rw[if_pos w]at q1 m;obtain⟨f,v⟩:=Ci w;obtain⟨x,z2,z3,z4⟩:=wj f;obtain⟨i,rfl⟩:∃i:Nat,e=i:=⟨e.toNat,by omega⟩
 have hi:i<t.cs.length:=by omega
 rw[show((i:Int)).toNat=i from by omega]at q1 m;obtain⟨Q,R,H,_⟩:=jD x;have o:=dW z4;have y:=uQ (aL s) (o.mono (by decide));rw[(fU z4).1]at y;have A:=nK (aL s) 1 (o.mono (by decide)) ((show bI 1 1 from⟨by decide,by decide⟩).mono (by decide));rw[(fU z4).1,show bn 1=[49]from by decide+kernel]at A;have C:=Td t i s G M hi (ID p x) z4;rw[Tj x hi]at C;have E:=Y2 t i (aL s) G H hi ((pM z4 (by omega)).mono (by decide));rw[(fU z4).1]at E;have B:qR t i=0:=by rw[qR,if_neg (by omega),x]
 rw[f,B]at l;rw[x]at q;rw[z4]at q4 l;obtain⟨d,g⟩:=yV.1 v;rw[FJ]at m;clear f v B hs o w H x z4;generalize eg (aL s)=I at*;generalize cT (aL s) 1=J at*;generalize t.qL i (aL s)=r at*;generalize dd (fun j=>iC t (t.pk j) i s) t.aP.length=k at*;obtain⟨rx,S⟩:=r;simp only[eV,du]at*;have b:¬(i:Int)<0:=by omega
 have c:¬(t.cs.length:Int)<=i:=by omega
 by_cases hk:k<t.aP.length
 ·rw[if_pos hk]at m;rw[dZ,if_pos hk]at C;have gk:=ar.iY hk;have n:¬(k:Int)<0:=by omega
  refine aG nf mE mix (by simp[f4]) ?_;simp[f4,aa];refine Go.ag.c1 s0 ?_;simp[aa,bD,a,b,c,d,g,hi,n,hk,gk];refine Go.ag.c1 q0 ?_;simp[aa,bD,a,b,c,d,g,hi,n,hk,gk];refine Go.ag.c3 q1 ?_;simp[aa,bD,a,b,c,d,g,hi,n,hk,gk];refine Go.ag.c1 q0 ?_;simp[aa,bD,a,b,c,d,g,hi,n,hk,gk];refine Go.ag.c3 m ?_;simp[aa,bD,a,b,c,d,g,hi,n,hk,gk];refine Go.ag.c1 q ?_;simp[aa,bD,a,b,c,d,g,hi,n,hk,gk];refine Go.ag.c1 q4 ?_;simp[aa,bD,a,b,c,d,g,hi,n,hk,gk];refine cp l (by simp;first|exact⟨rfl,rfl⟩|rfl) ?_;simp[aa,bD,a,b,c,d,g,hi,n,hk,gk];refine Go.ag.c1 y ?_;simp[aa,bD,a,b,c,d,g,hi,n,hk,gk];refine Go.ag.c2 A ?_;simp[aa,bD,a,b,c,d,g,hi,n,hk,gk];refine Go.ag.c3 C ?_;simp[aa,bD,a,b,c,d,g,hi,n,hk,gk];refine Go.ag.e3 E ?_;simp[aa,bD,a,b,c,d,g,hi,n,hk,gk];refine Go.ag.e0 u ?_;simp[aa,bD,a,b,c,d,g,hi,n,hk,gk]
 ·rw[if_neg hk]at m;rw[dZ,if_neg hk]at C;refine aG nf mE mix (by simp[f4]) ?_;simp[f4,aa];refine Go.ag.c1 s0 ?_;simp[aa,bD,a,b,c,d,g,hi];refine Go.ag.c1 q0 ?_;simp[aa,bD,a,b,c,d,g,hi];refine Go.ag.c3 q1 ?_;simp[aa,bD,a,b,c,d,g,hi];refine Go.ag.c1 q0 ?_;simp[aa,bD,a,b,c,d,g,hi];refine Go.ag.c3 m ?_;simp[aa,bD,a,b,c,d,g,hi];refine Go.ag.c1 q ?_;simp[aa,bD,a,b,c,d,g,hi];refine Go.ag.c1 q4 ?_;simp[aa,bD,a,b,c,d,g,hi];refine cp l (by simp;first|exact⟨rfl,rfl⟩|rfl) ?_;simp[aa,bD,a,b,c,d,g,hi];refine Go.ag.c1 y ?_;simp[aa,bD,a,b,c,d,g,hi];refine Go.ag.c2 A ?_;simp[aa,bD,a,b,c,d,g,hi];refine Go.ag.c3 C ?_;simp[aa,bD,a,b,c,d,g,hi];refine Go.ag.e3 E ?_;simp[aa,bD,a,b,c,d,g,hi];refine Go.ag.e0 u ?_;simp[aa,bD,a,b,c,d,g,hi]
theorem Tf(f:aA prog 12 [] (.bool true))(t:ar)(p:dU)(b:gJ t)(o:jk p):aA prog 5 [ch t,du p] (.bool true):=by
 have s0:=vO t b.cl b.pl b.sl;have e:=Ca p;rcases c:jm t with _|_
 ·rw[c]at s0;generalize lW p=C at*;refine aG nf sW mix (by simp[f5]) ?_;simp[f5,aa];refine Go.ag.c1 s0 ?_;simp[aa];refine Go.ag.c0 f ?_;simp[aa]
 rw[c]at s0;clear c;rcases c:lW p with _|_
 case true=>
  rw[c]at e;refine aG nf sW mix (by simp[f5]) ?_;simp[f5,aa];refine Go.ag.c1 s0 ?_;simp[aa];refine Go.ag.c1 e ?_;simp[aa];refine Go.ag.c0 f ?_;simp[aa]
 rw[c]at e;obtain⟨r,s⟩:=IB c;clear c;have q0:=vQ t b.cl b.pl b.sl;have q1:=Zs t p b o r s;have l:=vI t b;have m:=wC p o;have q4:=yk [cG t,bX p] (by simp);simp only[ao,av]at q4;rw[show bt [cG t,bX p]=iG t p from rfl]at q4;have n:=b.cl
 by_cases h:iG t p=0
 case neg=>
  rw[if_neg h]at q1;generalize iG t p=E at*;generalize cG t=z at*;generalize bX p=A at*;obtain⟨v,x⟩:=p;simp only[du]at*;refine aG nf sW mix (by simp[f5]) ?_;simp[f5,aa];refine Go.ag.c1 s0 ?_;simp[aa,h];refine Go.ag.c1 e ?_;simp[aa,h];refine Go.ag.e1 q0 ?_;simp[aa,h];refine Go.ag.e2 q1 ?_;simp[aa,h];refine Go.ag.e1 l ?_;simp[aa,h];refine Go.ag.e1 m ?_;simp[aa,h];refine ep q4 (by simp;first|exact⟨rfl,rfl⟩|rfl) (by simp;first|exact⟨rfl,rfl⟩|rfl) ?_;simp[aa,h];refine⟨by repeat' first|rfl|apply am,?_⟩;refine Go.ag.c0 f ?_;simp[aa,h]
 rw[if_pos h]at q1;obtain⟨B,z2⟩:=yN h;obtain⟨u,D,j,hc⟩:=jD B;obtain⟨g1,g2⟩:=gB z2;have g:bS 300 (NV.from p).q:=rB ⟨(pM g1 r).mono (by decide),(pM g2 s).mono (by decide)⟩;rw[mA p]at g;have d:=Y6 t (vP p) n j u hc g;rw[h]at q4;rw[E6]at q1;obtain⟨_,y,_⟩:=lX (fx t (vP p)) t.cs.length;have i:=fun hk:dd (fx t (vP p)) t.cs.length<t.cs.length=>Ii t _ (vP p) n j hk (g.mono (by decide)) (Cd u hc hk);rw[(lr z2).1]at d i;generalize dd (fx t (vP p)) t.cs.length=k at*;clear g y j hc h;generalize cG t=z at*;generalize bX p=A at*;generalize bn (t.shr k (vP p))=w at*;obtain⟨v,x⟩:=p;simp only[du]at*
 by_cases hk:k<t.cs.length
 ·rw[if_pos hk]at q1;rw[dZ,if_pos hk]at d;have i:=i hk;have a:¬(k:Int)<0:=by omega
  refine aG nf sW mix (by simp[f5]) ?_;simp[f5,aa];refine Go.ag.c1 s0 ?_;simp[aa,a];refine Go.ag.c1 e ?_;simp[aa,a];refine Go.ag.e1 q0 ?_;simp[aa,a];refine Go.ag.e2 q1 ?_;simp[aa,a];refine Go.ag.e1 l ?_;simp[aa,a];refine Go.ag.e1 m ?_;simp[aa,a];refine ep q4 (by simp;first|exact⟨rfl,rfl⟩|rfl) (by simp;first|exact⟨rfl,rfl⟩|rfl) ?_;simp[aa,a];refine⟨by repeat' first|rfl|apply am,?_⟩;refine Go.ag.c2 d ?_;simp[aa,a];refine Go.ag.c2 d ?_;simp[aa,a];refine Go.ag.c3 i ?_;simp[aa,a];refine Go.ag.c0 f ?_;simp[aa,a]
 ·rw[if_neg hk]at q1;rw[dZ,if_neg hk]at d;refine aG nf sW mix (by simp[f5]) ?_;simp[f5,aa];refine Go.ag.c1 s0 ?_;simp[aa];refine Go.ag.c1 e ?_;simp[aa];refine Go.ag.e1 q0 ?_;simp[aa];refine Go.ag.e2 q1 ?_;simp[aa];refine Go.ag.e1 l ?_;simp[aa];refine Go.ag.e1 m ?_;simp[aa];refine ep q4 (by simp;first|exact⟨rfl,rfl⟩|rfl) (by simp;first|exact⟨rfl,rfl⟩|rfl) ?_;simp[aa];refine⟨by repeat' first|rfl|apply am,?_⟩;refine Go.ag.c2 d ?_;simp[aa];refine Go.ag.c0 f ?_;simp[aa]
theorem aqk(name:List Nat)(s:cF):
 cB prog 199 [.box false (.p (.str name))] [.p (fP s),.ptr 0 []] [.box false (.p (.str name))] (.p (.bool (decide (s.name=name)))):=by
 refine fJ nf IA mix (by simp[f199]) ?_
 by_cases h:s.name=name
 ·simp[f199,aa,h];exact cV.og (by simp) (by simp) (by simp) (by simp) (by simp)
 ·simp[f199,aa,h];exact cV.og (by simp) (by simp) (by simp) (by simp) (by simp)
theorem Tu(t:ar)(name:List Nat)(f:t.aB.length<=1000000):
 cB prog 198 [.box false (.p (.str name))] [.p (.seq (t.aB.map fP)),.func 199 [] [.ptr 0 []]] [.box false (.p (.str name))] (.p (.int .i64 (dZ (dK t name) t.aB.length))):=by
 refine fJ nf ER mix (by simp[f198]) ?_;simp[f198];refine lp (α:=Nat) (fun j=>⟨[(8,.p (.int .i64 j)),(7,.p (.int .i64 t.aB.length)),(1,.func 199 [] [.ptr 0 []]),(0,.p (.seq (t.aB.map fP)))],[.box false (.p (.str name))]⟩) (fun j=>j<=t.aB.length/\j<=dK t name) (fun j=>t.aB.length-j) 0 (by simp) ?_;rintro j ⟨e,b⟩
 by_cases hi:j<t.aB.length
 ·have d:=ar.ft hi;have c:=ct (i:=j) (by omega);simp[hi];refine cf (aqk name (t.sp j)) [0] ?_
  by_cases hk:(t.sp j).name=name
  ·have a:dZ (dK t name) t.aB.length=(j:Int):=by rw[show dK t name=j from tO b hi (by simpa using hk),dZ,if_pos hi]
   simp[hk,a,bf]
  ·simp[hk,c,bf];exact rd (j+1) ⟨hi,tN b hi (by simpa using hk)⟩
 ·have:j=t.aB.length:=by omega
  subst this;have:=lX (fun i=>decide ((t.sp i).name=name)) t.aB.length;have a:dZ (dK t name) t.aB.length= -1:=by rw[dZ,if_neg (by omega)]
  simp[a]
def yH:PV:=.st 130 [.int .i64 0,.aW]
def R4:PV:=.st 138 [.st 132 [yH,yH],.st 132 [yH,yH]]
theorem Zy(t:ar)(name:List Nat)(b:gJ t)(a:cG t=0):aA prog 117 [b6 t,.str name] (.aE (if dK t name<t.aB.length then[cM (.from (t.sp (dK t name)).pt),.bool true]else[R4,.bool false])):=by
 have k1:=Tu t name b.sl;have k2:=fun(h:dK t name<t.aB.length)=>pL (t.sp (dK t name)).pt (gB (y8 a h)).1 (gB (y8 a h)).2 (b.sp _ (ap (ar.ft h))).2;generalize dK t name=k at*;refine aG nf OX mix (by simp[f117]) ?_
 by_cases hk:k<t.aB.length
 ·have c:=ar.ft hk;have k2:=k2 hk;rw[dZ,if_pos hk]at k1;rw[if_pos hk];have d:¬(k:Int)<0:=by omega
  simp[f117,aa];refine cf k1 [1] ?_;simp[bf,hk,aa];refine Go.ag.c1 k2 ?_;simp[aa]
 ·rw[dZ,if_neg hk]at k1;rw[if_neg hk];simp[f117,aa];refine cf k1 [1] ?_;simp[bf,R4,yH,aa]
noncomputable def lO(a s:NV):Nat->NV
 |0=>a
 |i+1=>(lO a s i).add s
theorem Fy(a s:NV):∀i:Nat,(lO a s i).q=fu a.q s.q i
 |0=>rfl
 |i+1=>by rw[lO,NV.Cp,Fy a s i,fu]
def pD(t:ar)(name:List Nat)(p:dU):Int:=bt [aX (!decide (dK t name<t.aB.length)) 10,bX p,aX (bD p.x p.y [48] [48]) 6]
theorem Tl{t:ar}{name:List Nat}{p:dU}(h:pD t name p=0):dK t name<t.aB.length/\bX p=0:=by
 rw[pD,jK]at h;refine⟨?_,h _ (by simp)⟩;have:=h (aX (!decide (dK t name<t.aB.length)) 10) (by simp)
 by_cases c:dK t name<t.aB.length
 ·exact c
 ·simp[aX,c]at this
def tP(t b:ar)(name:List Nat)(p:dU):List PV:=if gw t b=0 then(if pD t name p=0 then jo t b (vP (t.sp (dK t name)).pt) (vP p)else[fo,.int .i64 (pD t name p)])else[fo,.int .i64 (gw t b)]
theorem Tv(t b:ar)(name:List Nat)(p:dU)(u:gJ t)(m:lU b)(I:jk p)(F:∀s∈t.aB,bX s.pt=0->bS 133 (vP s.pt))(D:bX p=0->bS 133 (vP p)):
 aA prog 34 [b6 t,.seq (b.aB.map bO),.str name,du p] (.aE (tP t b name p)):=by
 have k1:=B0 t b u m
 by_cases h:gw t b=0
 case neg=>
  rw[tP,if_neg h];generalize gw t b=x at*;refine aG nf y6 mix (by simp[f34]) ?_;simp[f34,aa];refine Go.ag.c2 k1 ?_;simp[h,fo,aa]
 obtain⟨k,R⟩:=yY m h;obtain⟨ac,ad,U,_⟩:=jD k;obtain⟨ae,af⟩:=tK k;rw[tP,if_pos h];rw[h]at k1;have k2:=Zy t name u k;have k3:=gH (!decide (dK t name<t.aB.length)) 10;have k4:=ru p I;have k5:=gH (bD p.x p.y [48] [48]) 6;have k6:=lj [aX (!decide (dK t name<t.aB.length)) 10,bX p,aX (bD p.x p.y [48] [48]) 6] (by simp);simp only[ao,av]at k6;rw[show bt [aX (!decide (dK t name<t.aB.length)) 10,bX p,aX (bD p.x p.y [48] [48]) 6]=pD t name p from rfl]at k6;obtain⟨Z,G,d⟩:∃Z,aA prog 117 [b6 t,.str name] (.aE [Z,.bool (decide (dK t name<t.aB.length))])/\(dK t name<t.aB.length->Z=cM (.from (t.sp (dK t name)).pt))/\aM Z=.agg 138:=by
  by_cases hk:dK t name<t.aB.length
  ·rw[if_pos hk]at k2;exact⟨_,by rw[decide_eq_true hk];exact k2,fun _=>rfl,rfl⟩
  ·rw[if_neg hk]at k2;exact⟨_,by rw[decide_eq_false hk];exact k2,fun h=>absurd h hk,rfl⟩
 obtain⟨d,H⟩:=d
 by_cases a:pD t name p=0
 case neg=>
  rw[if_neg a];clear d k2;generalize pD t name p=E at*;generalize J:aX (bD p.x p.y [48] [48]) 6=O at*;generalize decide (dK t name<t.aB.length)=l at*;generalize aX (!l) 10=N at*;generalize bX p=P at*;obtain⟨z,B⟩:=p;simp only[du]at*;refine aG nf y6 mix (by simp[f34]) ?_;simp[f34,aa];refine Go.ag.c2 k1 ?_;simp[aa];refine Go.ag.c2 G ?_;simp[H,aa];refine Go.ag.e2 k3 ?_;simp[aa];refine Go.ag.e1 k4 ?_;simp[aa];refine Go.ag.e2 k5 ?_;simp[aa];refine ep k6 (by simp;first|exact⟨rfl,rfl⟩|rfl) (by simp;first|exact⟨rfl,rfl⟩|rfl) ?_;simp[aa];refine⟨by repeat' first|rfl|apply am,?_⟩;simp[a,fo,aa]
 rw[if_pos a];obtain⟨hk,f⟩:=Tl a;have d:=d hk;subst d;have C:=y8 k hk;have M:=F _ (ap (ar.ft hk)) C;have w:=D f;have k7:=pL p (gB f).1 (gB f).2 I;rw[a]at k6;rw[<-mA p,<-mA (t.sp (dK t name)).pt];rw[<-mA]at M w;have T:=u.cl;have X:=m.sl;generalize ab:aX (bD p.x p.y [48] [48]) 6=O at*;generalize NV.from (t.sp (dK t name)).pt=A at*;generalize decide (dK t name<t.aB.length)=l at*;generalize aX (!l) 10=N at*;generalize bX p=P at*;clear F D C hk k2 f a;obtain⟨z,B⟩:=p;generalize NV.from ⟨z,B⟩=S at*;simp only[du]at*;refine aG nf y6 mix (by simp[f34]) ?_;simp[f34,aa];refine Go.ag.c2 k1 ?_;simp[aa];refine Go.ag.c2 G ?_;simp[H,aa];refine Go.ag.e2 k3 ?_;simp[aa];refine Go.ag.e1 k4 ?_;simp[aa];refine Go.ag.e2 k5 ?_;simp[aa];refine ep k6 (by simp;first|exact⟨rfl,rfl⟩|rfl) (by simp;first|exact⟨rfl,rfl⟩|rfl) ?_;simp[aa];refine⟨by repeat' first|rfl|apply am,?_⟩;refine Go.ag.c1 k7 ?_;simp[aa];refine lp (α:=Nat) (fun i=>⟨[(45,.p (.int .i64 i)),(14,.ptr 5 []),(11,.ptr 3 []),(8,.ptr 2 []),(4,.ptr 0 []),(1,.p (.seq (b.aB.map bO)))],[.box false (.p (b6 t)),.box false (.p (.st 41 [.str z,.str B])),.box false (.p fo),.box false (.p (cM (lO A S i))),.arr .frozen 0 1 [.p (.int .i64 N),.p (.int .i64 P),.p (.int .i64 O)],.box false (.p (cM S))]⟩) (fun i=>i<=200/\i<=pE t b A.q S.q) (fun i=>200-i) 0 (by simp) ?_ (hh:=by simp[fo,lO]);rintro i ⟨i1,i2⟩
 by_cases hi:i<200
 ·have J:=ct (i:=i) (by omega);have j:bS 300 (lO A S i).q:=by rw[Fy];exact Iu M w (i:=i) (by omega)
  have g:=wx t (lO A S i) T U (j.mono (by decide));have v:=B2 t (lO A S i) b.aB X (by omega) (by omega) (j.mono (by decide)) R;have K:=Iv (lO A S i) S (j.mono (by decide)) (w.mono (by decide));have kR:=Ia (lO A S i) (j.mono (by decide));rw[show(lO A S i).add S=lO A S (i+1)from rfl]at K;rw[Fy]at g v kR;have r:rl t b (fu A.q S.q i)=true->jo t b A.q S.q=if t.on (fu A.q S.q i)<0 then[fo,.int .i64 7]else[eV (fu A.q S.q i),.int .i64 0]:=fun h=>by
   have e:pE t b A.q S.q=i:=tO i2 hi h;rw[jo,e,if_pos hi]
  have L:rl t b (fu A.q S.q i)=false->i+1<=200/\i+1<=pE t b A.q S.q:=fun h=>⟨hi,tN i2 hi h⟩
  rw[rl,nM]at r L;have n:(i:Int)<200:=by omega
  generalize jo t b A.q S.q=Y at*;generalize b.aB.any (fun o=>decide (eX t.br (vP o.pt) (fu A.q S.q i)<0))=Q at*;generalize t.on (fu A.q S.q i)=y at*;generalize fu A.q S.q i=V at*
  by_cases c:y<0
  ·have:=r (by simp[c]);rw[if_pos c]at this;simp[n,aa];refine Go.ag.c2 g ?_;simp[c,this,fo,aa]
  have c':0<=y:=by omega
  cases Q
  case false=>
   have:=r (by simp[c']);rw[if_neg c]at this;simp[n,aa];refine Go.ag.c2 g ?_;simp[c,aa];refine Go.ag.c3 v ?_;simp[aa];refine Go.ag.c1 kR ?_;simp[this,fo,aa]
  ·simp[n,aa];refine Go.ag.c2 g ?_;simp[c,aa];refine Go.ag.c3 v ?_;simp[aa];refine Go.ag.c2 K ?_;simp[J,aa];exact rd (i+1) (L (by simp[c]))
 ·have e:i=200:=by omega
  subst e;have W:jo t b A.q S.q=[fo,.int .i64 22]:=by rw[jo,if_neg (by omega)]
  rw[W];simp[fo,aa]
def qQ(p:cF):PV:=.st 63 [.str p.name,du p.pt]
theorem bC(a b:List Nat):bD a b a b=true:=by simp[bD]
theorem II(t b:ar)(a s:V2):∃X Y E,jo t b a s=[.st 41 [.str X,.str Y],.int .i64 E]:=by
 rw[jo]
 split
 ·split
  ·exact⟨_,_,_,rfl⟩
  ·exact⟨_,_,_,rfl⟩
 ·exact⟨_,_,_,rfl⟩
theorem IJ{p:dU}(hx:p.x.length<=40)(a:p.y.length<=40)(h:bX p=0):bS 133 (vP p):=by
 obtain⟨g1,g2⟩:=gB h;exact⟨pM g1 hx,pM g2 a⟩
theorem Tm{t:ar}(h:jm t=true):∀s∈t.aB,bX s.pt=0->bS 133 (vP s.pt):=by
 intro s hs a;simp only[jm,an,List.all_eq_true]at h;have:=h.2.2 s hs;simp only[gF,an,decide_eq_true_eq]at this;exact IJ this.2.1 this.2.2 a
theorem Tp{t:ar}{name:List Nat}{p:dU}:pD t name p=if dK t name<t.aB.length then(if bX p=0 then aX (bD p.x p.y [48] [48]) 6 else bX p)else 10:=by
 rw[pD]
 by_cases h:dK t name<t.aB.length
 ·by_cases a:bX p=0
  ·simp[h,a,aX,bt]
  ·simp[h,a,aX,bt]
 ·simp[h,aX,bt]
theorem Tt(n:aA prog 12 [] (.bool true))(t b:ar)(p:cF)(r:gJ t)(w:lU b)(s:kT p):aA prog 6 [ch t,.seq (b.aB.map bO),qQ p] (.bool true):=by
 have s0:=vO t r.cl r.pl r.sl;have m:=Gy b 8 w.sl (by decide);rw[show(((8:Nat):Int))=8 from rfl]at m;obtain⟨name,p⟩:=p;have A:fW name:=s.1;have s:jk p:=s.2;have q:=Ca p;rcases y:jm t with _|_
 ·rw[y]at s0;generalize re 8 b.aB=Z at*;generalize lW p=M at*;simp only[qQ]at*;refine aG nf jR mix (by simp[f6]) ?_;simp[f6,aa];refine Go.ag.c1 s0 ?_;simp[aa,bC];refine Go.ag.c0 n ?_;simp[aa,bC]
 rw[y]at s0;rcases D:re 8 b.aB with _|_
 ·rw[D]at m;generalize lW p=M at*;simp only[qQ]at*;refine aG nf jR mix (by simp[f6]) ?_;simp[f6,aa];refine Go.ag.c1 s0 ?_;simp[aa,bC];refine Go.ag.c2 m ?_;simp[aa,bC];refine Go.ag.c0 n ?_;simp[aa,bC]
 rw[D]at m;clear D;have T:=A.1
 by_cases ab:40<name.length
 ·have a:(40:Int)<name.length:=by omega
  generalize lW p=M at*;simp only[qQ]at*;refine aG nf jR mix (by simp[f6]) ?_;simp[f6,aa];refine Go.ag.c1 s0 ?_;simp[aa,bC,a];refine Go.ag.c2 m ?_;simp[aa,bC,a];refine Go.ag.c0 n ?_;simp[aa,bC,a]
 have a:¬(40:Int)<name.length:=by omega
 rcases z:lW p with _|_
 case true=>
  rw[z]at q;obtain⟨H,I⟩:=p;simp only[qQ,du]at*;refine aG nf jR mix (by simp[f6]) ?_;simp[f6,aa];refine Go.ag.c1 s0 ?_;simp[aa,bC,a];refine Go.ag.c2 m ?_;simp[aa,bC,a];refine Go.ag.c1 q ?_;simp[aa,bC,a];refine Go.ag.c0 n ?_;simp[aa,bC,a]
 rw[z]at q;obtain⟨P,Q⟩:=IB z;clear z;have j:=wC p s;have q4:=Ve p 9 s (by decide);rw[show(((9:Nat):Int))=9 from rfl]at q4;have q0:=vQ t r.cl r.pl r.sl;have q1:=Hi b w.sl;have G:=Tm y;have F:=IJ P Q;have u:=Tv t b name p r w s G F;have v:=GL t b r w;have o:=Iw t name r.sl;rw[To]at o;have K:=PF [48] [48];have g:=fun x=>yk [x,bX p] (by simp);simp only[ao,av]at g;clear y;have B:gw t b=0->dK t name<t.aB.length->bX p=0->aA prog 38 [ch t,.seq (b.aB.map bO),du (t.sp (dK t name)).pt,du p] (.aE (jo t b (vP (t.sp (dK t name)).pt) (vP p))):=fun h k N=>by
  obtain⟨J,R⟩:=yY w h;obtain⟨ad,ae,A,_⟩:=jD J;obtain⟨af,ag⟩:=tK J;have e:=y8 J k;have:=Tw t b (vP (t.sp (dK t name)).pt) (vP p) r.cl A (by omega) (by omega) w.sl R (G _ (ap (ar.ft k)) e) (F N)
  rwa [(lr e).1,(lr N).1]at this
 have f:∃X Y E,tP t b name p=[.st 41 [.str X,.str Y],.int .i64 E]:=by
  rw[tP]
  split
  ·split
   ·exact II _ _ _ _
   ·exact⟨_,_,_,rfl⟩
  ·exact⟨_,_,_,rfl⟩
 obtain⟨X,Y,E,f⟩:=f;rw[f]at u;rw[tP,Tp]at f;obtain⟨U,V,W,O⟩:=II t b (vP (t.sp (dK t name)).pt) (vP p);rw[O]at B f;clear G F O P Q A T;have S:=fun(h:dK t name<t.aB.length)=>ar.ft h;generalize dK t name=k at*;generalize gw t b=L at*;generalize bX p=C at*;have ac:=s;clear s;obtain⟨H,I⟩:=p;simp only[qQ,du]at*
 by_cases c:C=0
 ·subst c;rcases hf:lM H 9&&lM I 9 with _|_
  ·rw[hf]at q4;refine aG nf jR mix (by simp[f6]) ?_;simp[f6,aa];refine Go.ag.c1 s0 ?_;simp[aa,bC,a];refine Go.ag.c2 m ?_;simp[aa,bC,a];refine Go.ag.c1 q ?_;simp[aa,bC,a];refine Go.ag.c1 j ?_;simp[aa,bC,a];refine Go.ag.c2 q4 ?_;simp[aa,bC,a];refine Go.ag.c0 n ?_;simp[aa,bC,a]
  rw[hf]at q4
  by_cases l:L=0
  case neg=>
   rw[if_neg l]at f;simp only[fo,aT,PV.st.injEq,PV.str.injEq,PV.int.injEq,and_true,true_and]at f;obtain⟨⟨rfl,rfl⟩,rfl⟩:=f;have g:=g L;rw[show bt [L,0]=L from by rw[bt,if_neg l]]at g;refine aG nf jR mix (by simp[f6]) ?_;simp[f6,aa];refine Go.ag.c1 s0 ?_;simp[aa,bC,a,l];refine Go.ag.c2 m ?_;simp[aa,bC,a,l];refine Go.ag.c1 q ?_;simp[aa,bC,a,l];refine Go.ag.c1 j ?_;simp[aa,bC,a,l];refine Go.ag.c2 q4 ?_;simp[aa,bC,a,l];refine Go.ag.e1 q0 ?_;simp[aa,bC,a,l];refine Go.ag.e1 q1 ?_;simp[aa,bC,a,l];refine Go.ag.e4 u ?_;simp[aa,bC,a,l];refine⟨by repeat' first|rfl|apply am,?_⟩;refine Go.ag.c2 v ?_;simp[aa,bC,a,l];refine Go.ag.c1 j ?_;simp[aa,bC,a,l];refine cp g (by simp;first|exact⟨rfl,rfl⟩|rfl) ?_;simp[aa,bC,a,l];refine Go.ag.c0 n ?_;simp[aa,bC,a,l]
  subst l;rw[if_pos rfl]at f
  by_cases hk:k<t.aB.length
  case neg=>
   rw[if_neg hk]at f;simp only[fo,aT,PV.st.injEq,PV.str.injEq,PV.int.injEq,and_true,true_and]at f;obtain⟨⟨rfl,rfl⟩,rfl⟩:=f;rw[dZ,if_neg hk]at o;have g:=g 10;rw[show bt [10,0]=10 from by simp[bt]]at g;refine aG nf jR mix (by simp[f6]) ?_;simp[f6,aa];refine Go.ag.c1 s0 ?_;simp[aa,bC,a];refine Go.ag.c2 m ?_;simp[aa,bC,a];refine Go.ag.c1 q ?_;simp[aa,bC,a];refine Go.ag.c1 j ?_;simp[aa,bC,a];refine Go.ag.c2 q4 ?_;simp[aa,bC,a];refine Go.ag.e1 q0 ?_;simp[aa,bC,a];refine Go.ag.e1 q1 ?_;simp[aa,bC,a];refine Go.ag.e4 u ?_;simp[aa,bC,a];refine⟨by repeat' first|rfl|apply am,?_⟩;refine Go.ag.c2 v ?_;simp[aa,bC,a];refine Go.ag.c2 o ?_;simp[aa,bC,a];refine Go.ag.c1 j ?_;simp[aa,bC,a];refine cp g (by simp;first|exact⟨rfl,rfl⟩|rfl) ?_;simp[aa,bC,a];refine Go.ag.c0 n ?_;simp[aa,bC,a]
  rw[if_pos hk,if_pos rfl]at f;rw[dZ,if_pos hk]at o;have i:=S hk;have d:¬(k:Int)<0:=by omega
  have g:=g 0;rw[show bt [0,0]=0 from by simp[bt]]at g;have B:=B rfl hk rfl;rcases hc:bD H I [48] [48]with _|_
  ·rw[hc]at f;simp only[aX,Bool.false_eq_true,if_false,if_true,aT,PV.st.injEq,PV.str.injEq,PV.int.injEq,and_true,true_and]at f;obtain⟨⟨rfl,rfl⟩,rfl⟩:=f;refine aG nf jR mix (by simp[f6]) ?_;simp[f6,aa];refine Go.ag.c1 s0 ?_;simp[aa,bC,a,hc,d,i,hk];refine Go.ag.c2 m ?_;simp[aa,bC,a,hc,d,i,hk];refine Go.ag.c1 q ?_;simp[aa,bC,a,hc,d,i,hk];refine Go.ag.c1 j ?_;simp[aa,bC,a,hc,d,i,hk];refine Go.ag.c2 q4 ?_;simp[aa,bC,a,hc,d,i,hk];refine Go.ag.e1 q0 ?_;simp[aa,bC,a,hc,d,i,hk];refine Go.ag.e1 q1 ?_;simp[aa,bC,a,hc,d,i,hk];refine Go.ag.e4 u ?_;simp[aa,bC,a,hc,d,i,hk];refine⟨by repeat' first|rfl|apply am,?_⟩;refine Go.ag.c2 v ?_;simp[aa,bC,a,hc,d,i,hk];refine Go.ag.c2 o ?_;simp[aa,bC,a,hc,d,i,hk];refine Go.ag.c1 j ?_;simp[aa,bC,a,hc,d,i,hk];refine cp g (by simp;first|exact⟨rfl,rfl⟩|rfl) ?_;simp[aa,bC,a,hc,d,i,hk];refine Go.ag.e2 K ?_;simp[aa,bC,a,hc,d,i,hk];refine Go.ag.e2 o ?_;simp[aa,bC,a,hc,d,i,hk];refine Go.ag.e4 B ?_;simp[aa,bC,a,hc,d,i,hk];refine Go.ag.c0 n ?_;simp[aa,bC,a,hc,d,i,hk]
  ·rw[hc]at f;simp only[aX,fo,if_true,if_false,aT,PV.st.injEq,PV.str.injEq,PV.int.injEq,and_true,true_and,show¬((6:Int)=0)from by decide]at f;obtain⟨⟨rfl,rfl⟩,rfl⟩:=f;refine aG nf jR mix (by simp[f6]) ?_;simp[f6,aa];refine Go.ag.c1 s0 ?_;simp[aa,bC,a,hc,d];refine Go.ag.c2 m ?_;simp[aa,bC,a,hc,d];refine Go.ag.c1 q ?_;simp[aa,bC,a,hc,d];refine Go.ag.c1 j ?_;simp[aa,bC,a,hc,d];refine Go.ag.c2 q4 ?_;simp[aa,bC,a,hc,d];refine Go.ag.e1 q0 ?_;simp[aa,bC,a,hc,d];refine Go.ag.e1 q1 ?_;simp[aa,bC,a,hc,d];refine Go.ag.e4 u ?_;simp[aa,bC,a,hc,d];refine⟨by repeat' first|rfl|apply am,?_⟩;refine Go.ag.c2 v ?_;simp[aa,bC,a,hc,d];refine Go.ag.c2 o ?_;simp[aa,bC,a,hc,d];refine Go.ag.c1 j ?_;simp[aa,bC,a,hc,d];refine cp g (by simp;first|exact⟨rfl,rfl⟩|rfl) ?_;simp[aa,bC,a,hc,d];refine Go.ag.e2 K ?_;simp[aa,bC,a,hc,d];refine Go.ag.c0 n ?_;simp[aa,bC,a,hc,d]
 by_cases l:L=0
 case neg=>
  rw[if_neg l]at f;simp only[fo,aT,PV.st.injEq,PV.str.injEq,PV.int.injEq,and_true,true_and]at f;obtain⟨⟨rfl,rfl⟩,rfl⟩:=f;have g:=g L;rw[show bt [L,C]=L from by simp[bt,l]]at g;refine aG nf jR mix (by simp[f6]) ?_;simp[f6,aa];refine Go.ag.c1 s0 ?_;simp[aa,bC,a,l,c];refine Go.ag.c2 m ?_;simp[aa,bC,a,l,c];refine Go.ag.c1 q ?_;simp[aa,bC,a,l,c];refine Go.ag.c1 j ?_;simp[aa,bC,a,l,c];refine Go.ag.e1 q0 ?_;simp[aa,bC,a,l,c];refine Go.ag.e1 q1 ?_;simp[aa,bC,a,l,c];refine Go.ag.e4 u ?_;simp[aa,bC,a,l,c];refine⟨by repeat' first|rfl|apply am,?_⟩;refine Go.ag.c2 v ?_;simp[aa,bC,a,l,c];refine Go.ag.c1 j ?_;simp[aa,bC,a,l,c];refine cp g (by simp;first|exact⟨rfl,rfl⟩|rfl) ?_;simp[aa,bC,a,l,c];refine Go.ag.c0 n ?_;simp[aa,bC,a,l,c]
 subst l;rw[if_pos rfl]at f
 by_cases hk:k<t.aB.length
 case neg=>
  rw[if_neg hk]at f;simp only[fo,aT,PV.st.injEq,PV.str.injEq,PV.int.injEq,and_true,true_and]at f;obtain⟨⟨rfl,rfl⟩,rfl⟩:=f;rw[dZ,if_neg hk]at o;have g:=g 10;rw[show bt [10,C]=10 from by simp[bt]]at g;refine aG nf jR mix (by simp[f6]) ?_;simp[f6,aa];refine Go.ag.c1 s0 ?_;simp[aa,bC,a,c];refine Go.ag.c2 m ?_;simp[aa,bC,a,c];refine Go.ag.c1 q ?_;simp[aa,bC,a,c];refine Go.ag.c1 j ?_;simp[aa,bC,a,c];refine Go.ag.e1 q0 ?_;simp[aa,bC,a,c];refine Go.ag.e1 q1 ?_;simp[aa,bC,a,c];refine Go.ag.e4 u ?_;simp[aa,bC,a,c];refine⟨by repeat' first|rfl|apply am,?_⟩;refine Go.ag.c2 v ?_;simp[aa,bC,a,c];refine Go.ag.c2 o ?_;simp[aa,bC,a,c];refine Go.ag.c1 j ?_;simp[aa,bC,a,c];refine cp g (by simp;first|exact⟨rfl,rfl⟩|rfl) ?_;simp[aa,bC,a,c];refine Go.ag.c0 n ?_;simp[aa,bC,a,c]
 rw[if_pos hk,if_neg c]at f;simp only[fo,c,if_false,aT,PV.st.injEq,PV.str.injEq,PV.int.injEq,and_true,true_and]at f;obtain⟨⟨rfl,rfl⟩,rfl⟩:=f;rw[dZ,if_pos hk]at o;have d:¬(k:Int)<0:=by omega
 have g:=g 0;rw[show bt [0,C]=C from by rw[bt,if_pos rfl,bt,if_neg c]]at g;refine aG nf jR mix (by simp[f6]) ?_;simp[f6,aa];refine Go.ag.c1 s0 ?_;simp[aa,bC,a,c,d];refine Go.ag.c2 m ?_;simp[aa,bC,a,c,d];refine Go.ag.c1 q ?_;simp[aa,bC,a,c,d];refine Go.ag.c1 j ?_;simp[aa,bC,a,c,d];refine Go.ag.e1 q0 ?_;simp[aa,bC,a,c,d];refine Go.ag.e1 q1 ?_;simp[aa,bC,a,c,d];refine Go.ag.e4 u ?_;simp[aa,bC,a,c,d];refine⟨by repeat' first|rfl|apply am,?_⟩;refine Go.ag.c2 v ?_;simp[aa,bC,a,c,d];refine Go.ag.c2 o ?_;simp[aa,bC,a,c,d];refine Go.ag.c1 j ?_;simp[aa,bC,a,c,d];refine cp g (by simp;first|exact⟨rfl,rfl⟩|rfl) ?_;simp[aa,bC,a,c,d];refine Go.ag.c0 n ?_;simp[aa,bC,a,c,d]
section
variable{H:Type}{W:World}{ad:Nat->Prop}
theorem aJR:∃a b:Field,prog.underlying 64=some (.struct #[a,b])/\a.type=9/\b.type=42:=⟨_,_,underlying64,rfl,rfl⟩
theorem Iy:prog.underlyingId 64=63:=by kernel_rfl
theorem Tn{m n:Nat}(s:m=n+2){d:DataW H}(h:∃cs,aS prog W ad (bF prog (m+1) 64 d) cs)(o:Rows.uptoBulk d<=1048576):∃p:cF,bF prog (m+1) 64 d=qQ p/\kT p/\2<=Rows.uptoBulk d:=by
 obtain⟨cs,h⟩:=h;obtain⟨f0,f1,g,t0,t1⟩:=aJR;cases d with
 |agg l=>
  have f:∀x∈l,Rows.uptoBulk x<=1048576:=fun x hx=>by
   have:=lK.u3 hx;rw[Rows.uptoBulk]at o;omega
  simp only[bF,g,aS]at h⊢;obtain⟨u,t,e,c,_⟩:=h;rw[Iy,aGT]at e;cases e
  match l,c with
  |[],c=>simp[bd]at c
  |[x],c=>simp[bd]at c
  |x::y::r,c=>
   have:=vJ x;simp only[ax,ao,bd,ay,av,t0,t1]at c⊢;obtain⟨c0,_,_,g1,_,c1,_,_,g2,_⟩:=c;subst s;obtain⟨a,i,k⟩:=yP (n:=n+1) ⟨c0,g1⟩ (f x (by simp));obtain⟨b,j,q⟩:=Ak (n:=n) ⟨c1,g2⟩ (f y (by simp));refine⟨⟨a,b⟩,by rw[i,j,Iy];rfl,⟨k,q⟩,?_⟩;rw[Rows.uptoBulk,Rows.uptoBulkAll];omega
 |_=>simp only[bF,g,aS]at h
theorem Tx{d:DataW H}(h:∃cs,aS prog W ad (bF prog 8 64 d) cs)(b:Rows.uptoBulk d<=1048576):∃p:cF,bF prog 8 64 d=qQ p/\True/\kT p:=by
 obtain⟨p,e,a,_⟩:=Tn (n:=5) rfl h b;exact⟨p,e,trivial,a⟩
end
end Go.ag
