import Derived.Test.YthmfmhbicipdmaaGreatDoorPM
/- Parts of a proof. -/
set_option linter.unusedSimpArgs false
set_option linter.unusedVariables false
set_option linter.unusedSectionVars false
open Go.Proofs.Tryz
open And renaming intro->ao
open Bool renaming and_eq_true->av
open List renaming mem_of_getElem?->ax, getElem?_take->ay, map_cons->aT, map_nil->a0, find?_eq_none->a1
open Option.some renaming injEq->a6
namespace Go.ak
open Go.Proofs
set_option maxHeartbeats 4000000
set_option maxRecDepth 100000
def NS.mul(s t:NS):NS:=⟨(s.a.mul t.a).add ((s.b.mul t.b).mul s.d),(s.a.mul t.b).add (t.a.mul s.b),s.d⟩
theorem arX(s t:NS)(hs:fN 2000 s)(c:fN 2000 t):au prog 176 [fD s,fD t] (fD (s.mul t)):=by
 have k1:=ft s.a t.a (hs.1.mono (by decide)) (c.1.mono (by decide));have k2:=ft s.b t.b (hs.2.1.mono (by decide)) (c.2.1.mono (by decide));have k3:=ft (s.b.mul t.b) s.d ((eZ hs.2.1 c.2.1).mono (by decide)) (hs.2.2.mono (by decide));have k4:=mR (s.a.mul t.a) ((s.b.mul t.b).mul s.d) ((eZ hs.1 c.1).mono (by decide)) ((eZ (eZ hs.2.1 c.2.1) hs.2.2).mono (by decide));have k5:=ft s.a t.b (hs.1.mono (by decide)) (c.2.1.mono (by decide));have k6:=ft t.a s.b (c.1.mono (by decide)) (hs.2.1.mono (by decide));have k7:=mR (s.a.mul t.b) (t.a.mul s.b) ((eZ hs.1 c.2.1).mono (by decide)) ((eZ c.1 hs.2.1).mono (by decide));refine aG nf G6 mix (by simp[f176]) ?_;rw[NS.mul,fD];simp[f176,aa];refine e2 k1 ?_;simp[aa];refine e2 k2 ?_;simp[aa];refine e2 k3 ?_;simp[aa];refine e2 k4 ?_;simp[aa];refine e2 k5 ?_;simp[aa];refine e2 k6 ?_;simp[aa];refine e2 k7 ?_;simp[aa]
def Br(s:NS):Prop:=br 600 s.a.q/\br 600 s.b.q/\br 1200 s.d.q
theorem GR(s t:NS)(hs:Br s)(f:Br t):au prog 236 [fD s,fD t] (.int .i64 (gE s.q t.q)):=by
 have g:=BR hs.1 f.1;have e:fN 1300 ⟨s.a.sub t.a,s.b,s.d⟩:=⟨g.mono (by decide),hs.2.1.mono (by decide),hs.2.2.mono (by decide)⟩
 have k1:=mP s.a t.a (hs.1.mono (by decide)) (f.1.mono (by decide));have k2:=yy ⟨s.a.sub t.a,s.b,s.d⟩ ⟨e.1.mono (by decide),e.2.1.mono (by decide),e.2.2.mono (by decide)⟩;have k3:=l8 t.b;have k4:=l8 t.d;have k5:=arX ⟨s.a.sub t.a,s.b,s.d⟩ ⟨s.a.sub t.a,s.b,s.d⟩ ⟨e.1.mono (by decide),e.2.1.mono (by decide),e.2.2.mono (by decide)⟩ ⟨e.1.mono (by decide),e.2.1.mono (by decide),e.2.2.mono (by decide)⟩;have k6:=ft t.b t.b (f.2.1.mono (by decide)) (f.2.1.mono (by decide));have k7:=ft (t.b.mul t.b) t.d ((eZ f.2.1 f.2.1).mono (by decide)) (f.2.2.mono (by decide));have j:=eZ (eZ f.2.1 f.2.1) f.2.2;have k8:=sZ ((t.b.mul t.b).mul t.d) (j.mono (by decide));have k9:=Ho ((t.b.mul t.b).mul t.d).neg s.d;have h:fN 4900 (NS.mul ⟨s.a.sub t.a,s.b,s.d⟩ ⟨s.a.sub t.a,s.b,s.d⟩):=⟨(q7 (eZ g g) (eZ (eZ hs.2.1 hs.2.1) hs.2.2)).mono (by decide),(q7 (eZ g hs.2.1) (eZ g hs.2.1)).mono (by decide),hs.2.2.mono (by decide)⟩
 have i:fN 2500 (NS.plain ((t.b.mul t.b).mul t.d).neg s.d):=⟨(yw j).mono (by decide),br.mono (show br 20 (NF.int 0).q from Ac (by decide) (by decide)) (by decide),hs.2.2.mono (by decide)⟩
 have vh:=IZ (NS.mul ⟨s.a.sub t.a,s.b,s.d⟩ ⟨s.a.sub t.a,s.b,s.d⟩) (NS.plain ((t.b.mul t.b).mul t.d).neg s.d) ⟨h.1.mono (by decide),h.2.1.mono (by decide),h.2.2.mono (by decide)⟩ ⟨i.1.mono (by decide),i.2.1.mono (by decide),i.2.2.mono (by decide)⟩;have Bm:=yy ((NS.mul ⟨s.a.sub t.a,s.b,s.d⟩ ⟨s.a.sub t.a,s.b,s.d⟩).add (NS.plain ((t.b.mul t.b).mul t.d).neg s.d)) ⟨(q7 h.1 i.1).mono (by decide),(q7 h.2.1 i.2.1).mono (by decide),hs.2.2.mono (by decide)⟩;have q1:NS.q ⟨s.a.sub t.a,s.b,s.d⟩=⟨s.q.a-t.q.a,s.q.b,s.q.d⟩:=by simp only[NS.q,NF.fu]
 have p:((NS.mul ⟨s.a.sub t.a,s.b,s.d⟩ ⟨s.a.sub t.a,s.b,s.d⟩).add (NS.plain ((t.b.mul t.b).mul t.d).neg s.d)).q=⟨(s.q.a-t.q.a)*(s.q.a-t.q.a)+s.q.b*s.q.b*s.q.d-t.q.b*t.q.b*t.q.d,2*((s.q.a-t.q.a)*s.q.b),s.q.d⟩:=by
  have e1:(s.a.sub t.a).q=s.a.q-t.a.q:=NF.fu _ _;have hx:((NS.mul ⟨s.a.sub t.a,s.b,s.d⟩ ⟨s.a.sub t.a,s.b,s.d⟩).add (NS.plain ((t.b.mul t.b).mul t.d).neg s.d)).q=⟨(s.a.sub t.a).q*(s.a.sub t.a).q+s.b.q*s.b.q*s.d.q+-(t.b.q*t.b.q*t.d.q),((s.a.sub t.a).q*s.b.q+(s.a.sub t.a).q*s.b.q)+((0:Int):Rat),s.d.q⟩:=rfl;rw[hx,e1];have w:((0:Int):Rat)=0:=rfl;rw[w];show S3.mk _ _ _=S3.mk _ _ _;congr 1
  ·show _=(s.a.q-t.a.q)*(s.a.q-t.a.q)+s.b.q*s.b.q*s.d.q-t.b.q*t.b.q*t.d.q
   grind
  ·show _=2*((s.a.q-t.a.q)*s.b.q)
   grind
 rw[q1]at k2;rw[p]at Bm;rw[show(if t.b.q<0 then(-1:Int)else if t.b.q=0 then 0 else 1)=bX t.q.b from rfl]at k3;rw[show(if t.d.q<0 then(-1:Int)else if t.d.q=0 then 0 else 1)=bX t.q.d from rfl]at k4;have k:=A7 ⟨s.q.a-t.q.a,s.q.b,s.q.d⟩;have l:=ky (ym (kt t.q.b)) (kt t.q.d);have u:=A7 ⟨(s.q.a-t.q.a)*(s.q.a-t.q.a)+s.q.b*s.q.b*s.q.d-t.q.b*t.q.b*t.q.d,2*((s.q.a-t.q.a)*s.q.b),s.q.d⟩;have n:-(bX t.q.b*bX t.q.d)= -bX t.q.b*bX t.q.d:=by rw[Int.neg_mul]
 rw[gE,n];clear q1 p g j h i e n;generalize gv ⟨(s.q.a-t.q.a)*(s.q.a-t.q.a)+s.q.b*s.q.b*s.q.d-t.q.b*t.q.b*t.q.d,2*((s.q.a-t.q.a)*s.q.b),s.q.d⟩=o at*;generalize gv ⟨s.q.a-t.q.a,s.q.b,s.q.d⟩=x at*;have w0:=ku (ym (kt t.q.b));generalize bX t.q.b=y1 at*;generalize bX t.q.d=y2 at*;have w1:=ku l;have r:=ku (ky k l);have z:=ku (ky k u);generalize v:(NS.mul ⟨s.a.sub t.a,s.b,s.d⟩ ⟨s.a.sub t.a,s.b,s.d⟩).add (NS.plain ((t.b.mul t.b).mul t.d).neg s.d)=m1 at*;generalize NS.mul ⟨s.a.sub t.a,s.b,s.d⟩ ⟨s.a.sub t.a,s.b,s.d⟩=m2 at*;generalize NS.plain ((t.b.mul t.b).mul t.d).neg s.d=m3 at*;clear v;have m:fD ⟨s.a.sub t.a,s.b,s.d⟩=.st 136 [eF (s.a.sub t.a),eF s.b,eF s.d]:=rfl;rw[m]at k2 k5;clear m;generalize s.a.sub t.a=A at*;generalize ((t.b.mul t.b).mul t.d).neg=B at*;generalize (t.b.mul t.b).mul t.d=C at*;generalize t.b.mul t.b=D at*;refine aG nf PX mix (by simp[f236]) ?_;simp[f236,aa,-aW];rw[aW];simp[-aW,aa];rw[aW];simp[-aW,aa];refine e2 k1 ?_;simp[aa,-aW];refine⟨by repeat' first|rfl|apply ao,?_⟩;rw[aW];simp[aa,-aW];refine e1 k2 ?_;simp[aa,-aW];refine e1 k3 ?_;simp[aa,-aW,w0];refine e1 k4 ?_;simp[aa,w0,w1];generalize -y1*y2=y at*;rw[lJ]
 by_cases c2:x=0
 ·subst c2;simp[aa]
 by_cases c:0<=x*y
 ·rw[if_pos c,if_neg c2];simp[c,c2,r,aa]
 ·rw[if_neg c];simp[c,c2,r,aa];refine e2 k5 ?_;simp[aa];refine e2 k6 ?_;simp[aa];refine e2 k7 ?_;simp[aa];refine e1 k8 ?_;simp[aa];refine e2 k9 ?_;simp[aa];refine e2 vh ?_;simp[aa];refine e1 Bm ?_;simp[aa,z]
structure mc(t b:aw)(aV:List Nat)(i:Nat):Prop where
 jO:ij t=0
 tl:t.cs.length<=1000000
 L:x9 b
 ER:∀s∈b.an,bt 30 (vP s.pt)
 ci:hasB b aV i
 ap:∀k,k<b.an.length->k≠i->¬fK t.ba (vP (b.sp k).pt) (vP (b.sp i).pt)<0
 nn:∀k,k<b.an.length->(b.sp k).name≠[]
theorem mc.at{t b:aw}{aV:List Nat}{i:Nat}(h:mc t b aV i){k:Nat}(hk:k<b.an.length):eV (vP (b.sp k).pt)=dm (b.sp k).pt/\bt 30 (vP (b.sp k).pt):=by
 have m:=ax (aw.et hk);exact⟨(vL (h.L.sp _ m).2).1,h.ER _ m⟩
theorem mc.name{t b:aw}{aV:List Nat}{i k:Nat}(h:mc t b aV i)(hk:k<b.an.length):(b.sp k).name=aV↔k=i:=by
 obtain⟨_,d,f⟩:=h.ci;have j:=GQ h.L hk;have c:(b.sp i).name=aV:=by
  have:=List.find?_some (by rw[gz]at f;exact f);simpa using this
 constructor
 ·intro e;rcases Nat.lt_trichotomy k i with g|g|g
  ·have:=h.L.ne i d;rw[gz,a1]at this;have a:=this (b.sp k) (ax (i:=k) (by rw[ay,if_pos g];exact aw.et hk));simp[e,c]at a
  ·exact g
  ·have:=h.L.ne k hk;rw[gz,a1]at this;have a:=this (b.sp i) (ax (i:=i) (by rw[ay,if_pos g];exact aw.et d));simp[e,c]at a
 ·intro e;rw[e];exact c
def gn(b:aw)(i k:Nat):V2:=(vP (b.sp k).pt).sub (vP (b.sp i).pt)
def fS(t b:aw)(i:Nat)(d:V2)(k:Nat):S3:=tT t.ba (gn b i k) d
def iX(t b:aw)(i:Nat)(d:V2)(e:Rat)(k:Nat):Bool:=decide (k≠i)&&(sM t.ba (gn b i k) d&&decide (gE (fS t b i d k) ⟨e,0,0⟩<0))
def vM(t b:aw)(i:Nat)(d:V2)(e:Rat)(o:Option Nat)(k:Nat):Option Nat:=
 if iX t b i d e k then(match o with
  |none=>some k
  |some j=>if gE (fS t b i d k) (fS t b i d j)<0 then some k else some j)else o
def fH(t b:aw)(i:Nat)(d:V2)(e:Rat)(m:Nat):Option Nat:=(List.range m).foldl (vM t b i d e) none
theorem B5(t b:aw)(i:Nat)(d:V2)(e:Rat)(m:Nat):fH t b i d e (m+1)=vM t b i d e (fH t b i d e m) m:=by
 rw[fH,List.range_succ,List.foldl_append];rfl
theorem rh(t b:aw)(i:Nat)(d:V2)(e:Rat):∀m j,fH t b i d e m=some j->j<m/\iX t b i d e j=true
 |0,j,h=>by simp[fH]at h
 |m+1,j,h=>by
  rw[B5,vM.eq_def]at h;have c:=rh t b i d e m
  by_cases hc:iX t b i d e m=true
  ·rw[if_pos hc]at h;cases a:fH t b i d e m with
   |none=>rw[a]at h;simp only[a6]at h;subst h;exact⟨by omega,hc⟩
   |some f=>
    rw[a]at h;have:=c f a;dsimp only at h
    split at h
    ·simp only[a6]at h;subst h;exact⟨by omega,hc⟩
    ·simp only[a6]at h;subst h;exact⟨by omega,this.2⟩
  ·rw[if_neg hc]at h;have:=c j h;exact⟨by omega,this.2⟩
def dF(t b:aw)(i:Nat)(d:cw)(k:Nat):NM:=.of (.width t.ba) (.from (b.sp i).pt) (.from d) (.from (b.sp k).pt)
theorem vH(t b:aw)(i:Nat)(d:cw)(k:Nat):(dF t b i d k).far.q=fS t b i (vP d) k:=by
 have a:((NV.from (b.sp k).pt).sub (.from (b.sp i).pt)).q=gn b i k:=by rw[NV.fu];rfl
 rw[NM.far,NS.q,fS,tT];show S3.mk ((((NV.from (b.sp k).pt).sub (.from (b.sp i).pt)).dot (.from d)).q/((NV.from d).dot (.from d)).q) (-(((NV.from d).dot (.from d)).q)⁻¹) (NM.of (.width t.ba) (.from (b.sp i).pt) (.from d) (.from (b.sp k).pt)).root.q=_;rw[NV.o8,NV.o8,a,NM.of];congr 1;dsimp only;rw[NF.fu];show((((NV.from (b.sp k).pt).sub (.from (b.sp i).pt)).dot (.from d)).q*(((NV.from (b.sp k).pt).sub (.from (b.sp i).pt)).dot (.from d)).q)-(((NV.from d).dot (.from d)).q*(NF.sub (((NV.from (b.sp k).pt).sub (.from (b.sp i).pt)).dot ((NV.from (b.sp k).pt).sub (.from (b.sp i).pt))) (.width t.ba)).q)=_;rw[NF.fu,NV.o8,NV.o8,NV.o8,a];rfl
theorem T6{t b:aw}{aV:List Nat}{i k:Nat}{d:cw}(h:mc t b aV i)(hk:k<b.an.length)(f:k≠i):xL (.width t.ba) (.from (b.sp i).pt) (.from d) (.from (b.sp k).pt)=sM t.ba (gn b i k) (vP d):=by
 have a:((NV.from (b.sp k).pt).sub (.from (b.sp i).pt)).q=gn b i k:=by rw[NV.fu];rfl
 have c:=h.ap k hk f;have g:(NM.of (.width t.ba) (.from (b.sp i).pt) (.from d) (.from (b.sp k).pt)).root.q=pU t.ba (gn b i k) (vP d):=by
  have:=vH t b i d k;rw[NS.q,fS,tT]at this;injection this
 rw[xL,g,NV.o8,NV.o8,a,sM];have:0<=dA ((gn b i k).dot (gn b i k)) (NF.width t.ba).q:=by
  have e:fK t.ba (vP (b.sp k).pt) (vP (b.sp i).pt)=dA ((gn b i k).dot (gn b i k)) (ld t.ba):=rfl;rw[e]at c;rw[aL9];omega
 rw[decide_eq_true this,Bool.true_and];rfl
def BG:PV:=.st 126 [.st 124 [.int .i64 0,.aH],.st 124 [.int .i64 0,.aH]]
def FH:PV:=.st 130 [BG,BG]
def zM:PV:=.st 132 [FH,FH,BG]
@[simp] theorem aLb:aI zM=.agg 132:=rfl
@[simp high] theorem gQ:b9 prog 133=some zM:=by kernel_rfl
def ke(b:aw):Option Nat->List Nat
 |none=>[]
 |some j=>(b.sp j).name
noncomputable def lD(t b:aw)(i:Nat)(d:cw):Option Nat->PV
 |none=>zM
 |some j=>nP (dF t b i d j)
@[simp] theorem aK9(t b:aw)(i:Nat)(d:cw)(o:Option Nat):aI (lD t b i d o)=.agg 132:=by
 cases o
 ·exact aLb
 ·exact Hw _
structure RS(t b:aw)(i:Nat)(d:cw)(x:XD)(e:Rat):Prop where
 ex:∃m0 l,t.ib (.from (b.sp i).pt) (cF d) t.cs.length=m0::l/\lF m0 l=x
 nz:x.s.norm.q=0->x.s.a.q≠0
 ok:pq x
 far:(x.s.under x.g).q=⟨e,0,0⟩
 sz:br 600 e
theorem yD{s:NS}{a b c:Rat}(h:s.q=⟨a,b,c⟩)(g:br 600 a)(i:br 600 b)(hc:br 1200 c):Br s:=by
 rw[NS.q]at h;injection h with d e f
 exact⟨by rw[d];exact g,by rw[e];exact i,by rw[f];exact hc⟩
theorem nt{k:Nat}(h:1<=k):br k (0:Rat):=(show br 1 (0:Rat)from⟨by decide,by decide⟩).mono h
theorem vJ{t b:aw}{aV:List Nat}{i k:Nat}{d:cw}(h:mc t b aV i)(hk:k<b.an.length)(c:bt 30 (vP d))(m:(vP d).dot (vP d)≠0):br 600 (fS t b i (vP d) k).a/\br 600 (fS t b i (vP d) k).b/\br 1200 (fS t b i (vP d) k).d:=by
 obtain⟨n,o⟩:=pH h.jO;have e:bt 61 (gn b i k):=iH (h.at hk).2 (h.at h.ci.2.1).2;have f:=gJ e c;have g:=gJ c c;have j:=gJ e e;have l:=rQ (r:=t.ba) (by omega) (by omega);exact⟨(EG f g).mono (by decide),(qp (rP g)).mono (by decide),(jW (cW f f) (cW g (jW j l))).mono (by decide)⟩
theorem afO(t b:aw)(aV:List Nat)(i:Nat)(d:cw)(x:XD)(e:Rat)(h:mc t b aV i)(v:bt 30 (vP d))(G:(vP d).dot (vP d)≠0)(u:RS t b i d x e):
 au prog 143 [nZ t b,.str aV,cO (.from d)] (.aC [.str (ke b (fH t b i (vP d) e b.an.length)),lD t b i d (fH t b i (vP d) e b.an.length),.bool (fH t b i (vP d) e b.an.length).isSome]):=by
 obtain⟨ak,al⟩:=pH h.jO;obtain⟨_,_,X,_⟩:=vB h.jO;have ah:=h.L.sl;have M:=(h.at h.ci.2.1).2;have U:=h.ci.2.2;obtain⟨m0,l,ad,ae⟩:=u.ex;have k1:=S6 (.from d);have k2:=abw t (.from (b.sp i).pt) (cF d) h.tl X (by rw[iI];exact M.mono (by decide)) ⟨by show bt 900 (NV.from d).q;rw[iI];exact v.mono (by decide),⟨nt (by decide),nt (by decide)⟩,nt (by decide)⟩ m0 l ad;rw[ae]at k2;have k3:=aw0 x u.ok u.nz;have N:Br (x.s.under x.g):=yD u.far u.sz (nt (by decide)) (nt (by decide));have O:=u.far;have Q:cF d=⟨.from d,⟨.int 0,.int 0⟩,.int 0⟩:=rfl;rw[<-Q]at k1;have a:=fun k(hk:k<b.an.length)=>ak3 (.width t.ba) (.from (b.sp i).pt) (.from d) (.from (b.sp k).pt) ((rQ (by omega) (by omega)).mono (by decide)) (by rw[iI];exact M.mono (by decide)) (by rw[iI];exact v.mono (by decide)) (by rw[iI];exact(h.at hk).2.mono (by decide));have R:=fun k(hk:k<b.an.length)=>EU (dF t b i d k) (by
  have ag:bt 61 (gn b i k):=iH (h.at hk).2 M;have T:(dF t b i d k).w.q=gn b i k:=by show((NV.from (b.sp k).pt).sub (.from (b.sp i).pt)).q=_;rw[NV.fu];rfl
  rw[T];exact ag.mono (by decide)) (by show bt 500 (NV.from d).q;rw[iI];exact v.mono (by decide)) G
 have K:=fun k(hk:k<b.an.length)=>yD (s:=(dF t b i d k).far) (vH t b i d k) (vJ h hk v G).1 (vJ h hk v G).2.1 (vJ h hk v G).2.2;have n:=fun k(hk:k<b.an.length)=>GR (dF t b i d k).far (x.s.under x.g) (K k hk) N;have E:=fun k j(hk:k<b.an.length)(I:j<b.an.length)=>GR (dF t b i d k).far (dF t b i d j).far (K k hk) (K j I);simp only[vH,O]at n E;have W:=fun k(hk:k<b.an.length)(Y:k≠i)=>T6 (d:=d) h hk Y;have ab:∀k,NM.of (.width t.ba) (.from (b.sp i).pt) (.from d) (.from (b.sp k).pt)=dF t b i d k:=fun _=>rfl;simp only[ab]at a;clear N O Q;generalize x.s.under x.g=af at*;generalize cF d=am at*;refine aG nf HF mix (by simp[f143]) ?_;simp[f143,U,aa];refine Go.ak.e1 k1 ?_;simp[aa];refine Go.ak.e3 k2 ?_;simp[aa];refine⟨by repeat' first|rfl|apply ao,?_⟩;refine Go.ak.c1 k3 ?_;simp[aa];refine lp (α:=Nat) (fun m=>⟨[(33,.p (.int .i64 m)),(32,.p (.int .i64 b.an.length)),(31,.p (.seq (b.an.map bC))),(13,.ptr 6 []),(12,.p (.str (ke b (fH t b i (vP d) e m)))),(11,.ptr 5 []),(9,.ptr 3 []),(7,.ptr 2 []),(5,.ptr 1 []),(3,.ptr 0 []),(1,.p (.str aV))],
  [.box false (.p (nZ t b)),.box false (.p (cO (.from d))),.box false (.p zM),.box false (.p (cO (.from (b.sp i).pt))),.hole,.box false (.p (fD af)),.box false (.p (lD t b i d (fH t b i (vP d) e m)))]⟩) (fun m=>m<=b.an.length) (fun m=>b.an.length-m) 0 (by simp) ?_ (he:=by simp[fH,ke]) (hh:=by simp[fH,lD])
 rintro m m1
 by_cases hm:m<b.an.length
 case neg=>
  have:m=b.an.length:=by omega
  subst this;have Z:∀j,fH t b i (vP d) e b.an.length=some j->(b.sp j).name≠[]:=fun j I=>h.nn j (rh _ _ _ _ _ _ _ I).1;generalize fH t b i (vP d) e b.an.length=o at*;cases o with
  |none=>simp[ke,aa]
  |some j=>
   have:=Z j rfl;simp[ke,this,aa]
 have r:=aw.et hm;have A:=ct (i:=m) (by omega);have hs:=B5 t b i (vP d) e m;have V:=rh t b i (vP d) e m;have y:=GQ h.L hm;have P:=h.name hm;have a:=a m hm;have B:=R m hm;have n:=n m hm;rw[vM.eq_def]at hs
 by_cases hi:m=i
 ·have hc:iX t b i (vP d) e m=false:=by rw[iX,decide_eq_false (by simpa using hi)];rfl
  rw[hc,if_neg (by decide)]at hs;have f:(b.sp m).name=aV:=P.2 hi;generalize xL (.width t.ba) (.from (b.sp i).pt) (.from d) (.from (b.sp m).pt)=aj at*;simp[hm,r,y,aa];refine Go.ak.c4 a ?_;simp[f,A,aa];exact rd (m+1) hm (he:=by simp[hs]) (hh:=by simp[hs])
 have f:¬(b.sp m).name=aV:=fun h=>hi (P.1 h);rw[W m hm hi]at a;cases C:sM t.ba (gn b i m) (vP d)
 ·have hc:iX t b i (vP d) e m=false:=by rw[iX,C];simp
  rw[hc,if_neg (by decide)]at hs;rw[C]at a;simp[hm,r,y,aa];refine Go.ak.c4 a ?_;simp[f,A,aa];exact rd (m+1) hm (he:=by simp[hs]) (hh:=by simp[hs])
 rw[C]at a
 by_cases ac:gE (fS t b i (vP d) m) ⟨e,0,0⟩<0
 case neg=>
  have hc:iX t b i (vP d) e m=false:=by rw[iX,C];simp;intro _;omega
  have D:0<=gE (fS t b i (vP d) m) ⟨e,0,0⟩:=by omega
  rw[hc,if_neg (by decide)]at hs;generalize gE (fS t b i (vP d) m) ⟨e,0,0⟩=z at*;simp[hm,r,y,aa];refine Go.ak.c4 a ?_;simp[f,aa];refine Go.ak.e1 B ?_;simp[aa];refine Go.ak.e2 n ?_;simp[D,A,aa];exact rd (m+1) hm (he:=by simp[hs]) (hh:=by simp[hs])
 have hc:iX t b i (vP d) e m=true:=by rw[iX,C,decide_eq_true ac];simp[hi]
 have D:¬0<=gE (fS t b i (vP d) m) ⟨e,0,0⟩:=by omega
 rw[hc,if_pos rfl]at hs;cases H:fH t b i (vP d) e m with
 |none=>
  rw[H]at hs;dsimp only at hs;generalize gE (fS t b i (vP d) m) ⟨e,0,0⟩=z at*;simp[hm,r,y,ke,aa];refine Go.ak.c4 a ?_;simp[f,aa];refine Go.ak.e1 B ?_;simp[aa];refine Go.ak.e2 n ?_;simp[D,A,aa];exact rd (m+1) hm (he:=by simp[hs,ke]) (hh:=by simp[hs,lD])
 |some j=>
  obtain⟨ai,_⟩:=V j H;have J:j<b.an.length:=by omega
  have c:=h.nn j J;have S:=R j J;have E:=E m j hm J;rw[H]at hs;dsimp only at hs;generalize gE (fS t b i (vP d) m) ⟨e,0,0⟩=z at*
  by_cases F:gE (fS t b i (vP d) m) (fS t b i (vP d) j)<0
  ·rw[if_pos F]at hs;generalize gE (fS t b i (vP d) m) (fS t b i (vP d) j)=z2 at*;simp[hm,r,y,ke,lD,aa];refine Go.ak.c4 a ?_;simp[f,aa];refine Go.ak.e1 B ?_;simp[aa];refine Go.ak.e2 n ?_;simp[D,c,aa];refine Go.ak.e1 B ?_;simp[c,aa];refine Go.ak.e1 S ?_;simp[c,aa];refine Go.ak.e2 E ?_;simp[F,c,A,aa];exact rd (m+1) hm (he:=by simp[hs,ke]) (hh:=by simp[hs,lD])
  ·rw[if_neg F]at hs;generalize gE (fS t b i (vP d) m) (fS t b i (vP d) j)=z2 at*;simp[hm,r,y,ke,lD,aa];refine Go.ak.c4 a ?_;simp[f,aa];refine Go.ak.e1 B ?_;simp[aa];refine Go.ak.e2 n ?_;simp[D,c,aa];refine Go.ak.e1 B ?_;simp[c,aa];refine Go.ak.e1 S ?_;simp[c,aa];refine Go.ak.e2 E ?_;simp[F,c,A,aa];exact rd (m+1) hm (he:=by simp[hs,ke]) (hh:=by simp[hs,lD])
def kI(t b:aw)(aV:List Nat)(d:cw):Int:=if im t b≠0 then im t b else if gz b.an aV=none then 10 else jd d
theorem vI{t b:aw}{aV:List Nat}{d:cw}(h:kI t b aV d=0):im t b=0/\gz b.an aV≠none/\jd d=0:=by
 rw[kI]at h
 by_cases a:im t b=0
 case neg=>rw[if_pos a]at h;exact absurd h a
 rw[if_neg (by simp[a])]at h
 by_cases c:gz b.an aV=none
 ·rw[if_pos c]at h;omega
 rw[if_neg c]at h;exact⟨a,c,h⟩
structure xQ(t b:aw)(aV:List Nat)(d:cw)(i:Nat)(x:XD)(e:Rat):Prop where
 C:mc t b aV i
 dk:bt 30 (vP d)
 nz:(vP d).dot (vP d)≠0
 E:RS t b i d x e
 ef:∃k:Int,t.fQ (vP (b.sp i).pt) (vP d) t.cs.length=(k,e)
theorem TN(r:Int)(a b:V2):fK r a b=fK r b a:=by rw[fK,fK,Hf]
theorem aJ1{t b:aw}{aV:List Nat}(u:jr t)(n:jt b)(h:im t b=0)(hf:gz b.an aV≠none)(o:∀s∈b.an,bt 30 (vP s.pt)):∃i,mc t b aV i:=by
 obtain⟨c,m,_⟩:=Hg n h;rcases Hj b aV with⟨i,hi⟩|⟨_,e⟩
 case inr=>exact absurd e hf
 rw[im,if_neg (by simp[c]),re]at h
 by_cases d:24<b.an.length
 ·rw[if_pos d]at h;omega
 rw[if_neg d]at h;have f:=pC.1 h;have l:∀i,i<b.an.length->gW t (b.an.take i) (b.sp i)=0:=fun i hi=>by
  have:=f i hi
  rwa [gV,aw.et hi]at this
 have a:∀k,k<b.an.length->(b.sp k).name≠[]/\∀j,j<k->¬fK t.ba (vP (b.sp j).pt) (vP (b.sp k).pt)<0:=fun k hk=>by
  have:=l k hk;rw[gW]at this
  split at this
  ·omega
  rename_i g1
  split at this
  ·omega
  split at this
  ·contradiction
  split at this
  ·omega
  split at this
  ·omega
  rename_i g2;refine⟨fun e=>g1 (by rw[e];rfl),fun j p q=>g2 (List.any_eq_true.2 ⟨b.sp j,?_,decide_eq_true q⟩)⟩;exact ax (i:=j) (by rw[ay,if_pos p];exact aw.et (by omega))
 refine⟨i,c,u.cl,m,o,hi,fun k hk r=>?_,fun k hk=>(a k hk).1⟩;rcases Nat.lt_or_gt_of_ne r with g|g
 ·exact(a i hi.2.1).2 k g
 ·rw[TN];exact(a k hk).2 i g
theorem TQ(t:aw)(p d:cw)(i:Nat)(h:t.dP (vP d) i≠0):((t.dU (.from p) (cF d) i).s.under (t.dU (.from p) (cF d) i).g).q=⟨t.ic (vP p) (vP d) i,0,0⟩:=by
 have a:=aAd t p d i h;have j:=BX t p d i;have c:¬(t.dU (.from p) (cF d) i).s.norm.q=0:=by
  rw[j];intro e;rcases Rat.mul_eq_zero.1 e with e|e<;>exact h e
 have hs:(t.dU (.from p) (cF d) i).s.b.q=0:=congrArg S3.b (tE t d i);have f:(t.dU (.from p) (cF d) i).s.d.q=0:=congrArg S3.d (tE t d i);generalize t.dU (.from p) (cF d) i=x at*;rw[NS.under,if_neg c]at a⊢;rw[NS.q];dsimp only at a⊢;rw[a,f];congr 1;show -(x.g.q*x.s.b.q)/x.s.norm.q=0;rw[hs,Rat.mul_zero,Rat.neg_zero,Rat.div_def,Rat.zero_mul]
theorem ZL{t b:aw}{aV:List Nat}{d:cw}(k:jr t)(w:jt b)(h:kI t b aV d=0)(A:∀s∈b.an,bt 30 (vP s.pt))(f:bt 30 (vP d)):∃i x e,xQ t b aV d i x e:=by
 obtain⟨r,u,v⟩:=vI h;obtain⟨i,c⟩:=aJ1 k w r u A;obtain⟨D,F,g,hc⟩:=vB c.jO;have m:=azU v;have z:¬((vP d).x=0/\(vP d).y=0):=fun⟨a,b⟩=>m (by rw[V2.dot,a,b];decide+kernel);obtain⟨j,n,o,B,C⟩:=aAb t (b.sp i).pt d D hc z;have l:t.dP (vP d) j≠0:=fun e=>by rw[e]at o;exact absurd o (by decide)
 have p:=(c.at c.ci.2.1).2;have E:=(BV g (p.mono (show 30<=90 by decide)) (f.mono (show 30<=90 by decide)) n).2.2;refine⟨i,_,t.ic (vP (b.sp i).pt) (vP d) j,c,f,m,⟨B,fun e=>?_,?_,TQ t _ d j l,E.mono (by decide)⟩,⟨j,C⟩⟩
 ·rw[BX]at e;rcases Rat.mul_eq_zero.1 e with e|e<;>exact absurd e l
 ·exact BQ k.cl g (by rw[iI];exact p.mono (by decide)) ⟨by show bt 900 (NV.from d).q;rw[iI];exact f.mono (by decide),⟨nt (by decide),nt (by decide)⟩,nt (by decide)⟩ n
def tu(o:Option Nat):Int:=aY (!o.isSome) 7
theorem yA{d:cw}(h:jd d=0):b6 d.x=0/\b6 d.y=0:=jw (wX h).1
theorem Cb(t b:aw)(aV:List Nat)(d:cw)(i:Nat)(x:XD)(e:Rat)(p:jr t)(m:jt b)(c:iV d)(j:kI t b aV d=0)(h:xQ t b aV d i x e)(o:Option Nat)(n:o=fH t b i (vP d) e b.an.length):
 au prog 60 [bR t,.seq (b.an.map bC),.str aV,dm d] (.aC [nZ t b,.str (ke b o),lD t b i d o,.int .i64 (tu o)]):=by
 obtain⟨k,q,a⟩:=vI j;obtain⟨v,y⟩:=pH h.C.jO;have l:=h.C.ci.2.2;have k1:=GY t b p m;have k2:=Hr t b (by omega) (by omega) h.C.L;have k3:=vT false 10;have k4:=I3 d c;have k5:=za [0,0] (by simp);have k6:=EC d (yA a).1 (yA a).2 c;have k7:=afO t b aV i d x e h.C h.dk h.nz h.E;have k8:=vT (!o.isSome) 7;rw[k]at k1;rw[a]at k4;rw[<-n]at k7;have w0:aY false 10=0:=rfl;have g:bF [0,0]=0:=by decide
 rw[w0]at k3;rw[g]at k5;simp only[aT,a0]at k5;rw[tu];generalize aY (!o.isSome) 7=w at*;generalize ke b o=u at*;have f:=aK9 t b i d o;generalize lD t b i d o=r at*;generalize o.isSome=s at*;refine aG nf Fc mix (by simp[f60]) ?_;simp[f60,-gQ,aa];refine Go.ak.c2 k1 ?_;simp[-gQ,aa];refine Go.ak.c2 k2 ?_;simp[l,-gQ,aa];refine Go.ak.e2 k3 ?_;simp[-gQ,aa];refine Go.ak.e1 k4 ?_;simp[-gQ,aa];refine ep k5 (by simp;first|exact⟨rfl,rfl⟩|rfl) (by simp;first|exact⟨rfl,rfl⟩|rfl) ?_;simp[-gQ,aa];refine⟨by repeat' first|rfl|apply ao,?_⟩;refine Go.ak.e1 k6 ?_;simp[-gQ,aa];refine Go.ak.e3 k7 ?_;simp[f,-gQ,aa];refine⟨by repeat' first|rfl|apply ao,?_⟩;refine Go.ak.e2 k8 ?_;simp[f,-gQ,aa]
theorem TV(t b:aw)(aV:List Nat)(d:cw)(l:jr t)(g:jt b)(k:iV d)(a:¬kI t b aV d=0):
 au prog 60 [bR t,.seq (b.an.map bC),.str aV,dm d] (.aC [q8,.str [],zM,.int .i64 (kI t b aV d)]):=by
 have k1:=GY t b l g;refine aG nf Fc mix (by simp[f60]) ?_;rw[kI]at a⊢;rw[q8,zM,FH,BG]
 by_cases e:im t b=0
 case neg=>
  rw[if_pos e]at a⊢;generalize im t b=c at*;simp[f60,-gQ,aa];refine Go.ak.c2 k1 ?_;simp[a,-gQ,aa]
 rw[if_neg (by simp[e])]at a⊢;rw[e]at k1;obtain⟨m,j,_⟩:=Hg g e;obtain⟨n,o⟩:=pH m;have k2:=Hr t b (by omega) (by omega) j;have k4:=I3 d k
 by_cases f:gz b.an aV=none
 ·rw[if_pos f];have k3:=vT true 10;have k5:=za [10,jd d] (by simp);rw[show aY true 10=10 from rfl]at k3;rw[show bF [10,jd d]=10 by rw[bF,if_neg (by decide)]]at k5;simp only[aT,a0]at k5;generalize jd d=i at*;simp[f60,-gQ,aa];refine Go.ak.c2 k1 ?_;simp[-gQ,aa];refine Go.ak.c2 k2 ?_;simp[f,-gQ,aa];refine Go.ak.e2 k3 ?_;simp[-gQ,aa];refine Go.ak.e1 k4 ?_;simp[-gQ,aa];refine ep k5 (by simp;first|exact⟨rfl,rfl⟩|rfl) (by simp;first|exact⟨rfl,rfl⟩|rfl) ?_;simp[-gQ,aa];rfl
 ·rw[if_neg f]at a⊢;have k3:=vT false 10;have k5:=za [0,jd d] (by simp);rw[show aY false 10=0 from rfl]at k3;rw[show bF [0,jd d]=jd d by rw[bF,if_pos rfl,bF,if_neg a]]at k5;simp only[aT,a0]at k5;obtain⟨s,hs⟩:∃s,gz b.an aV=some s:=by
   cases h:gz b.an aV with
   |none=>exact absurd h f
   |some s=>exact⟨s,rfl⟩
  generalize jd d=i at*;simp[f60,-gQ,aa];refine Go.ak.c2 k1 ?_;simp[-gQ,aa];refine Go.ak.c2 k2 ?_;simp[hs,-gQ,aa];refine Go.ak.e2 k3 ?_;simp[-gQ,aa];refine Go.ak.e1 k4 ?_;simp[-gQ,aa];refine ep k5 (by simp;first|exact⟨rfl,rfl⟩|rfl) (by simp;first|exact⟨rfl,rfl⟩|rfl) ?_;simp[a,-gQ,aa];rfl
def mV:Option Nat->Int
 |none=>-1
 |some j=>j
def nW(t b:aw)(i:Nat)(d:V2):Option Nat->PV
 |none=>ln
 |some j=>eS (fS t b i d j)
@[simp] theorem aLa(t b:aw)(i:Nat)(d:V2)(o:Option Nat):aI (nW t b i d o)=.agg 36:=by
 cases o<;>rfl
@[simp] theorem aPU:aI ln=.agg 36:=rfl
theorem TU(a:Rat):au prog 73 [.str (bc a)] (eS ⟨a,0,0⟩):=by
 refine aG nf Rt mix (by simp[f73]) ?_;simp[f73,qD,se,aa]
theorem IY{t b:aw}{aV:List Nat}{i k:Nat}{d:V2}(h:mc t b aV i)(hk:k<b.an.length)(a:bt 30 d)(l:d.dot d≠0):Bs (fS t b i d k):=by
 obtain⟨m,n⟩:=pH h.jO;have c:bt 61 (gn b i k):=iH (h.at hk).2 (h.at h.ci.2.1).2;have e:=gJ c a;have f:=gJ a a;have g:=gJ c c;have j:=rQ (r:=t.ba) (by omega) (by omega);exact⟨(EG e f).mono (by decide),(qp (rP f)).mono (by decide),(jW (cW e e) (cW f (jW g j))).mono (by decide)⟩
theorem Ht(t b:aw)(aV:List Nat)(i:Nat)(d:V2)(Q:Int)(e:Rat)(h:mc t b aV i)(v:bt 30 d)(F:d.dot d≠0)(hx:t.fQ (vP (b.sp i).pt) d t.cs.length=(Q,e))(J:br 600 e):
 au prog 15 [cC t,.seq (b.an.map bC),.int .i64 i,eV d] (.aC [.int .i64 (mV (fH t b i d e b.an.length)),nW t b i d (fH t b i d e b.an.length)]):=by
 obtain⟨U,V⟩:=pH h.jO;obtain⟨_,_,O,_⟩:=vB h.jO;have R:=h.L.sl;have hi:=h.ci.2.1;have l:=aw.et hi;obtain⟨E,D⟩:=h.at hi;have k1:=ZV t (vP (b.sp i).pt) d h.tl O (D.mono (by decide)) (v.mono (by decide));rw[hx,E]at k1;have c:=fun k(hk:k<b.an.length)=>uU (vP (b.sp k).pt) (vP (b.sp i).pt) ((h.at hk).2.mono (by decide)) (D.mono (by decide));have I:∀k,(vP (b.sp k).pt).sub (vP (b.sp i).pt)=gn b i k:=fun _=>rfl;simp only[I]at c;have G:∀k,k<b.an.length->bt 61 (gn b i k):=fun k hk=>iH (h.at hk).2 D;have f:=fun k(hk:k<b.an.length)=>ZY t.ba (gn b i k) d (by omega) (by omega) ((G k hk).mono (by decide)) (v.mono (by decide));have g:=fun k(hk:k<b.an.length)=>WZ t.ba (gn b i k) d (by omega) (by omega) ((G k hk).mono (by decide)) (v.mono (by decide)) F;have H:∀k,tT t.ba (gn b i k) d=fS t b i d k:=fun _=>rfl;simp only[H]at g;have kE:=TU e;have C:=fun k(hk:k<b.an.length)=>IY h hk v F;have r:=fun k(hk:k<b.an.length)=>FN (fS t b i d k) ⟨e,0,0⟩ (C k hk) ⟨J,nt (by decide),nt (by decide)⟩;have y:=fun k j(hk:k<b.an.length)(K:j<b.an.length)=>FN (fS t b i d k) (fS t b i d j) (C k hk) (C j K);refine aG nf Q5 mix (by simp[f15]) ?_;simp[f15,hi,l,aa];refine e3 k1 ?_;simp[aa];refine lp (α:=Nat) (fun m=>⟨[(14,.p (.int .i64 m)),(13,.ptr 3 []),(12,.p (.int .i64 (mV (fH t b i d e m)))),(11,.p (.str (bc e))),(9,.ptr 2 []),(7,.ptr 1 []),(4,.ptr 0 []),(2,.p (.int .i64 i)),(1,.p (.seq (b.an.map bC)))],
  [.box false (.p (cC t)),.box false (.p (eV d)),.box false (.p ln),.box false (.p (nW t b i d (fH t b i d e m)))]⟩) (fun m=>m<=b.an.length) (fun m=>b.an.length-m) 0 (by simp) ?_ (he:=by simp[fH,mV]) (hh:=by simp[fH,nW,ln])
 rintro m m1
 by_cases hm:m<b.an.length
 case neg=>
  have:m=b.an.length:=by omega
  subst this;generalize fH t b i d e b.an.length=o at*;simp[aa]
 have n:=aw.et hm;obtain⟨em,T⟩:=h.at hm;have q:=ct (i:=m) (by omega);have hs:=B5 t b i d e m;have N:=rh t b i d e m;have c:=c m hm;have f:=f m hm;have g:=g m hm;have r:=r m hm;rw[em,E]at c;rw[vM.eq_def]at hs
 by_cases B:m=i
 ·have hc:iX t b i d e m=false:=by rw[iX,decide_eq_false (by simpa using B)];rfl
  rw[hc,if_neg (by decide)]at hs;subst B;generalize gn b m m=W at*;simp[hm,n,aa];refine e2 c ?_;simp[aa];refine⟨by repeat' first|rfl|apply ao,?_⟩;simp[q,aa];exact rd (m+1) hm (he:=by simp[hs]) (hh:=by simp[hs])
 have a:¬(m:Int)=i:=by omega
 cases s:sM t.ba (gn b i m) d
 ·have hc:iX t b i d e m=false:=by rw[iX,s];simp
  rw[hc,if_neg (by decide)]at hs;rw[s]at f;simp[hm,n,hi,l,aa];refine e2 c ?_;simp[a,aa];refine⟨by repeat' first|rfl|apply ao,?_⟩;refine Go.ak.c3 f ?_;simp[a,q,aa];exact rd (m+1) hm (he:=by simp[hs]) (hh:=by simp[hs])
 rw[s]at f
 by_cases P:gE (fS t b i d m) ⟨e,0,0⟩<0
 case neg=>
  have hc:iX t b i d e m=false:=by rw[iX,s];simp;intro _;omega
  have u:0<=gE (fS t b i d m) ⟨e,0,0⟩:=by omega
  rw[hc,if_neg (by decide)]at hs;generalize gE (fS t b i d m) ⟨e,0,0⟩=z at*;simp[hm,n,hi,l,aa];refine e2 c ?_;simp[a,aa];refine⟨by repeat' first|rfl|apply ao,?_⟩;refine Go.ak.c3 f ?_;simp[a,aa];refine Go.ak.c3 g ?_;simp[aa];refine Go.ak.e1 kE ?_;simp[aa];refine Go.ak.e2 r ?_;simp[u,q,aa];exact rd (m+1) hm (he:=by simp[hs]) (hh:=by simp[hs])
 have hc:iX t b i d e m=true:=by rw[iX,s,decide_eq_true P];simp[B]
 have u:¬0<=gE (fS t b i d m) ⟨e,0,0⟩:=by omega
 rw[hc,if_pos rfl]at hs;cases A:fH t b i d e m with
 |none=>
  rw[A]at hs;dsimp only at hs;generalize gE (fS t b i d m) ⟨e,0,0⟩=z at*;simp[hm,n,hi,l,mV,aa];refine e2 c ?_;simp[a,aa];refine⟨by repeat' first|rfl|apply ao,?_⟩;refine Go.ak.c3 f ?_;simp[a,aa];refine Go.ak.c3 g ?_;simp[aa];refine Go.ak.e1 kE ?_;simp[aa];refine Go.ak.e2 r ?_;simp[u,q,aa];exact rd (m+1) hm (he:=by simp[hs,mV]) (hh:=by simp[hs,nW])
 |some j=>
  obtain⟨S,_⟩:=N j A;have M:j<b.an.length:=by omega
  have w:¬(j:Int)<0:=by omega
  have y:=y m j hm M;rw[A]at hs;dsimp only at hs;generalize gE (fS t b i d m) ⟨e,0,0⟩=z at*
  by_cases x:gE (fS t b i d m) (fS t b i d j)<0
  ·rw[if_pos x]at hs;generalize gE (fS t b i d m) (fS t b i d j)=z2 at*;simp[hm,n,hi,l,mV,nW,aa];refine e2 c ?_;simp[a,aa];refine⟨by repeat' first|rfl|apply ao,?_⟩;refine Go.ak.c3 f ?_;simp[a,aa];refine Go.ak.c3 g ?_;simp[aa];refine Go.ak.e1 kE ?_;simp[aa];refine Go.ak.e2 r ?_;simp[u,w,aa];refine Go.ak.c2 y ?_;simp[x,w,q,aa];exact rd (m+1) hm (he:=by simp[hs,mV]) (hh:=by simp[hs,nW])
  ·rw[if_neg x]at hs;generalize gE (fS t b i d m) (fS t b i d j)=z2 at*;simp[hm,n,hi,l,mV,nW,aa];refine e2 c ?_;simp[a,aa];refine⟨by repeat' first|rfl|apply ao,?_⟩;refine Go.ak.c3 f ?_;simp[a,aa];refine Go.ak.c3 g ?_;simp[aa];refine Go.ak.e1 kE ?_;simp[aa];refine Go.ak.e2 r ?_;simp[u,w,aa];refine Go.ak.c2 y ?_;simp[x,w,q,aa];exact rd (m+1) hm (he:=by simp[hs,mV]) (hh:=by simp[hs,nW])
theorem TY(t b:aw)(aV:List Nat)(d:cw)(i:Nat)(x:XD)(e:Rat)(q:jr t)(c:jt b)(m:iV d)(k:kI t b aV d=0)(h:xQ t b aV d i x e)(o:Option Nat)(p:o=fH t b i (vP d) e b.an.length):
 au prog 14 [cC t,.seq (b.an.map bC),.str aV,dm d] (.int .i64 (tu o)):=by
 obtain⟨l,s,a⟩:=vI k;obtain⟨r,hx⟩:=h.ef;have k1:=yB t b q c;have k2:=yE b aV c.sl;have k3:=Ji d m;have k4:=Ht t b aV i (vP d) r e h.C h.dk h.nz hx h.E.sz;rw[l]at k1;rw[h.C.ci.1]at k2;rw[a]at k3;rw[<-p,<-R9 (wX a).1]at k4;have f:¬(i:Int)<0:=by omega
 refine aG nf Fb mix (by simp[f14]) ?_;have g:=aLa t b i (vP d) o;generalize nW t b i (vP d) o=u at*;cases o with
 |none=>
  simp only[mV]at k4;rw[show tu none=7 from rfl];simp[f14,aa];refine Go.ak.c2 k1 ?_;simp[aa];refine Go.ak.c2 k2 ?_;simp[f,aa];refine Go.ak.c1 k3 ?_;simp[aa];refine Go.ak.e2 k2 ?_;simp[aa];refine Go.ak.e4 k4 ?_;simp[g,aa];rfl
 |some j=>
  have n:¬(j:Int)<0:=by omega
  simp only[mV]at k4;rw[show tu (some j)=0 from rfl];simp[f14,aa];refine Go.ak.c2 k1 ?_;simp[aa];refine Go.ak.c2 k2 ?_;simp[f,aa];refine Go.ak.c1 k3 ?_;simp[aa];refine Go.ak.e2 k2 ?_;simp[aa];refine Go.ak.e4 k4 ?_;simp[g,n,aa];rfl
theorem TF(t b:aw)(aV:List Nat)(d:cw)(j:jr t)(f:jt b)(g:iV d)(a:¬kI t b aV d=0):
 au prog 14 [cC t,.seq (b.an.map bC),.str aV,dm d] (.int .i64 (kI t b aV d)):=by
 have k1:=yB t b j f;have k2:=yE b aV f.sl;have k3:=Ji d g;refine aG nf Fb mix (by simp[f14]) ?_;rw[kI]at a⊢
 by_cases c:im t b=0
 case neg=>
  rw[if_pos c];generalize im t b=e at*;simp[f14,aa];refine Go.ak.c2 k1 ?_;simp[c,aa]
 rw[if_neg (by simp[c])]at a⊢;rw[c]at k1;rcases Hj b aV with⟨i,i1,i2,i3⟩|⟨i1,i3⟩
 ·rw[i1]at k2;have h:¬(i:Int)<0:=by omega
  rw[if_neg (by rw[i3];simp)]at a⊢;generalize jd d=e at*;simp[f14,aa];refine Go.ak.c2 k1 ?_;simp[aa];refine Go.ak.c2 k2 ?_;simp[h,aa];refine Go.ak.c1 k3 ?_;simp[a,aa]
 ·rw[i1]at k2;rw[if_pos i3];simp[f14,aa];refine Go.ak.c2 k1 ?_;simp[aa];refine Go.ak.c2 k2 ?_;simp[aa]
def th(p d:V2)(s:S3):P4:=⟨⟨p.x+s.a*d.x,s.b*d.x,s.d⟩,⟨p.y+s.a*d.y,s.b*d.y,s.d⟩⟩
theorem ZX(p d:V2)(s:S3)(g:bt 30 p)(f:bt 30 d)(hs:Bs s):au prog 17 [eV p,eV d,eS s] (pf (th p d s)):=by
 have k1:=iG s.a d.x (hs.1.mono (by decide)) (f.1.mono (by decide));have k2:=xO p.x (s.a*d.x) (g.1.mono (by decide)) ((cW hs.1 f.1).mono (by decide));have k3:=iG s.b d.x (hs.2.1.mono (by decide)) (f.1.mono (by decide));have k4:=Qn (bc (p.x+s.a*d.x)) (bc (s.b*d.x)) (bc s.d);have k5:=iG s.a d.y (hs.1.mono (by decide)) (f.2.mono (by decide));have k6:=xO p.y (s.a*d.y) (g.2.mono (by decide)) ((cW hs.1 f.2).mono (by decide));have k7:=iG s.b d.y (hs.2.1.mono (by decide)) (f.2.mono (by decide));have k8:=Qn (bc (p.y+s.a*d.y)) (bc (s.b*d.y)) (bc s.d);obtain⟨j,k⟩:=p;obtain⟨h,i⟩:=d;obtain⟨a,c,e⟩:=s;refine aG nf Q7 mix (by simp[f17]) ?_;rw[th,Qf,qD,qD,qD,uL,uL];dsimp only at*;simp[f17,aa];refine e2 k1 ?_;simp[aa];refine e2 k2 ?_;simp[aa];refine e2 k3 ?_;simp[aa];refine e3 k4 ?_;simp[aa];refine e2 k5 ?_;simp[aa];refine e2 k6 ?_;simp[aa];refine e2 k7 ?_;simp[aa];refine e3 k8 ?_;simp[aa]
theorem TW(t b:aw)(aV:List Nat)(d:cw)(i j:Nat)(x:XD)(e:Rat)(o:jr t)(l:jt b)(m:iV d)(g:kI t b aV d=0)(h:xQ t b aV d i x e)(c:some j=fH t b i (vP d) e b.an.length):
 au prog 10 [bR t,.seq (b.an.map bC),.str aV,dm d] (.aC [.str (b.sp j).name,eS (fS t b i (vP d) j),.int .i64 0]):=by
 have a:=(rh _ _ _ _ _ _ _ c.symm).1;have k1:=Cb t b aV d i x e o l m g h _ c;have p:bt 61 (gn b i j):=iH (h.C.at a).2 (h.C.at h.C.ci.2.1).2;have k2:=EU (dF t b i d j) (by
  have k:(dF t b i d j).w.q=gn b i j:=by show((NV.from (b.sp j).pt).sub (.from (b.sp i).pt)).q=_;rw[NV.fu];rfl
  rw[k];exact p.mono (by decide)) (by show bt 500 (NV.from d).q;rw[iI];exact h.dk.mono (by decide)) h.nz
 obtain⟨f1,f2,f3⟩:=vJ h.C a h.dk h.nz;have hq:=vH t b i d j;have f:fN kB (dF t b i d j).far:=by
  have:=yD (s:=(dF t b i d j).far) hq f1 f2 f3;exact⟨this.1.mono (by decide),this.2.1.mono (by decide),this.2.2.mono (by decide)⟩
 have k3:=EI _ f;have k4:=EO _ f;rw[hq]at k3 k4;have n:nS (fS t b i (vP d) j)=false:=by
  rw[nS,qC (f1.mono (by decide)),qC (f2.mono (by decide)),qC (f3.mono (by decide))];rfl
 rw[n]at k3;rw[show tu (some j)=0 from rfl,ke,lD]at k1;generalize (dF t b i d j).far=s at*;refine aG nf E9 mix (by simp[f10]) ?_;simp[f10,aa];refine Go.ak.c4 k1 ?_;simp[aa];refine Go.ak.c1 k2 ?_;simp[aa];refine Go.ak.c1 k3 ?_;simp[aa];refine Go.ak.c1 k4 ?_;simp[aa]
theorem Hq(t b:aw)(aV:List Nat)(d:cw)(j:List Nat)(c e:PV)(a:Int)(f:aI c= .agg 128)(i:aI e= .agg 132)(h:au prog 60 [bR t,.seq (b.an.map bC),.str aV,dm d] (.aC [c,.str j,e,.int .i64 a]))(g:¬a=0):
 au prog 10 [bR t,.seq (b.an.map bC),.str aV,dm d] (.aC [.str [],ln,.int .i64 a]):=by
 refine aG nf E9 mix (by simp[f10]) ?_;rw[ln];simp[f10,aa];refine Go.ak.c4 h ?_;simp[f,i,g,aa]
theorem Hp(t b:aw)(aV:List Nat)(d:cw)(j:List Nat)(c e:PV)(a:Int)(f:aI c= .agg 128)(i:aI e= .agg 132)(h:au prog 60 [bR t,.seq (b.an.map bC),.str aV,dm d] (.aC [c,.str j,e,.int .i64 a]))(g:¬a=0):
 au prog 13 [bR t,.seq (b.an.map bC),.str aV,dm d] (.aC [uV,.int .i64 a]):=by
 refine aG nf Fa mix (by simp[f13]) ?_;rw[uV,ln];simp[f13,aa];refine Go.ak.c4 h ?_;simp[f,i,g,aa]
theorem Z4(t b:aw)(aV:List Nat)(d:cw)(i j:Nat)(x:XD)(e:Rat)(G:jr t)(E:jt b)(n:iV d)(k:kI t b aV d=0)(h:xQ t b aV d i x e)(v:some j=fH t b i (vP d) e b.an.length):
 au prog 13 [bR t,.seq (b.an.map bC),.str aV,dm d] (.aC [pf (th (vP (b.sp i).pt) (vP d) (fS t b i (vP d) j)),.int .i64 0]):=by
 obtain⟨l,K,m⟩:=vI k;have o:=(rh _ _ _ _ _ _ _ v.symm).1;have D:=h.C.ci.2.2;have g:=(h.C.at h.C.ci.2.1).2;have c:=h.dk;have k1:=Cb t b aV d i x e G E n k h _ v;have H:bt 61 (gn b i j):=iH (h.C.at o).2 g;have k2:=EU (dF t b i d j) (by
  have l:(dF t b i d j).w.q=gn b i j:=by show((NV.from (b.sp j).pt).sub (.from (b.sp i).pt)).q=_;rw[NV.fu];rfl
  rw[l];exact H.mono (by decide)) (by show bt 500 (NV.from d).q;rw[iI];exact c.mono (by decide)) h.nz
 obtain⟨f1,f2,f3⟩:=vJ h.C o h.dk h.nz;have hq:=vH t b i d j;have f:=yD (s:=(dF t b i d j).far) hq f1 f2 f3;have k3:=EC d (yA m).1 (yA m).2 n;have k4:=OI (.from d) (dF t b i d j).far.a (by rw[iI];exact c.mono (by decide)) (f.1.mono (by decide));have y:bt 630 ((NV.from d).times (dF t b i d j).far.a).q:=by rw[NV.Gi,iI];exact FO c f.1
 have k5:=awD (.from (b.sp i).pt) ((NV.from d).times (dF t b i d j).far.a) (by rw[iI];exact g.mono (by decide)) (y.mono (by decide));have k6:=OI (.from d) (dF t b i d j).far.b (by rw[iI];exact c.mono (by decide)) (f.2.1.mono (by decide));have I:bt 630 ((NV.from d).times (dF t b i d j).far.b).q:=by rw[NV.Gi,iI];exact FO c f.2.1
 have J:bt 661 ((NV.from (b.sp i).pt).add ((NV.from d).times (dF t b i d j).far.a)).q:=by rw[NV.I1,iI];exact aJ3 g y
 have u:(NB.mk ((NV.from (b.sp i).pt).add ((NV.from d).times (dF t b i d j).far.a)) ((NV.from d).times (dF t b i d j).far.b) (dF t b i d j).root).q=th (vP (b.sp i).pt) (vP d) (fS t b i (vP d) j):=by
  rw[<-hq];show P4.mk (S3.mk (_+_*_) (_*_) _) (S3.mk (_+_*_) (_*_) _)=P4.mk (S3.mk (_+_*_) (_*_) _) (S3.mk (_+_*_) (_*_) _);congr 2<;>rw[Rat.mul_comm]<;>rfl
 have k7:=ZI (NB.mk ((NV.from (b.sp i).pt).add ((NV.from d).times (dF t b i d j).far.a)) ((NV.from d).times (dF t b i d j).far.b) (dF t b i d j).root) ⟨J.mono (by decide),I.mono (by decide),f.2.2.mono (by decide)⟩;rw[u]at k7;have p:Bn (th (vP (b.sp i).pt) (vP d) (fS t b i (vP d) j))=false:=by
  have g1:=qA g.1 (cW f1 c.1);have g2:=cW f2 c.1;have g3:=qA g.2 (cW f1 c.2);have B:=cW f2 c.2;rw[Bn,nS,nS,th];dsimp only;rw[qC (g1.mono (by decide)),qC (g2.mono (by decide)),qC (g3.mono (by decide)),qC (B.mono (by decide)),qC (f3.mono (by decide))];rfl
 rw[if_neg (by rw[p];decide)]at k7;rw[show tu (some j)=0 from rfl,ke,lD]at k1;clear u p hq;generalize th (vP (b.sp i).pt) (vP d) (fS t b i (vP d) j)=P at*;have L:nP (dF t b i d j)=.st 132 [cO (dF t b i d j).w,cO (dF t b i d j).d,eF (dF t b i d j).root]:=rfl;have hs:fD (dF t b i d j).far=.st 136 [eF (dF t b i d j).far.a,eF (dF t b i d j).far.b,eF (dF t b i d j).far.d]:=rfl;rw[hs]at k2;generalize (dF t b i d j).far.a=z at*;generalize (dF t b i d j).far.b=A at*;generalize (dF t b i d j).far.d=fd at*;rw[xM]at k7;have r:aI (nP (dF t b i d j))=.agg 132:=Hw _;have F:bW (nP (dF t b i d j))=[cO (dF t b i d j).w,cO (dF t b i d j).d,eF (dF t b i d j).root]:=rfl;generalize nP (dF t b i d j)=M at*;generalize (dF t b i d j).root=rt at*;generalize (NV.from d).times z=v1 at*;generalize (NV.from d).times A=v2 at*;generalize (NV.from (b.sp i).pt).add v1=v3 at*;refine aG nf Fa mix (by simp[f13]) ?_;simp[f13,aa];refine Go.ak.c4 k1 ?_;simp[r,aa];refine Go.ak.e1 k2 ?_;simp[aa];refine Go.ak.e1 k3 ?_;simp[aa];refine⟨by repeat' first|rfl|apply ao,?_⟩;refine Go.ak.e2 k4 ?_;simp[D,aa];refine Go.ak.e2 k5 ?_;simp[aa];refine Go.ak.e2 k6 ?_;simp[r,F,aa];refine Go.ak.e1 k7 ?_;simp[aa]
theorem T8{t b:aw}{aV dD:List Nat}{n:Nat}(hs:vK t b aV dD n=true)(h:im t b=0):∀s∈b.an,bt 30 (vP s.pt):=by
 rw[vK,h]at hs;simp only[av,Bool.or_eq_true,decide_eq_true_eq]at hs;obtain⟨_,_,_,_,hs⟩:=hs;have hf:u7 t b n 9=true:=by
  rcases hs with hs|hs
  ·exact absurd rfl hs
  ·exact hs
 rw[u7]at hf;simp only[av,List.all_eq_true]at hf;obtain⟨_,_,_,_,_,_,_,hf⟩:=hf;intro s h;have:=hf s h;rw[pj,av]at this;exact⟨A6 this.1,A6 this.2⟩
theorem TH(t b:aw)(aV dD:List Nat)(i:Nat)(h:mc t b aV i):au prog 18 [q9 t b aV dD] (eV (vP (b.sp i).pt)):=by
 obtain⟨d,a,_⟩:=h.ci;have e:=h.L.sl;have k:=yE b aV (by omega);have c:=aw.et a;rw[d]at k;rw[(h.at a).1];refine aG nf Q8 mix (by simp[f18]) ?_;simp[f18,aa];refine Go.ak.e2 k ?_;simp[a,c,aa]
theorem aLf:prog.stoodInHeld 49=false:=by kernel_rfl
@[simp] theorem aNo:nR prog 49=true:=by kernel_rfl
@[simp] theorem aNs{a b c d e f a' b' c' d' e' g:List Nat}:gh prog 9 49 (.st 48 [.st 36 [.str a,.str b,.str c],.st 36 [.str d,.str e,.str f]]) (.st 48 [.st 36 [.str a',.str b',.str c'],.st 36 [.str d',.str e',.str g]])=some (jA a b c a' b' c'&&jA d e f d' e' g):=by
 have j:=underlying49;have h:=A9 (n:=6) (a:=a) (b:=b) (c:=c) (d:=a') (e:=b') (f:=c');have i:=A9 (n:=6) (a:=d) (b:=e) (c:=f) (d:=d') (e:=e') (f:=g);rw[show(6+2:Nat)=8 from rfl]at h i;rw[gh]
 case heq=>exact j
 simp[aLf,ka,h,i,aI]
theorem T5(q:au prog 9 [] (.bool true))(t b:aw)(aV dD:List Nat)(d:cw)(f:jr t)(g:jt b)(h:iV d):
 au prog 3 [q9 t b aV dD,dm d] (.bool true):=by
 have s0:=TG t b aV dD 6 f g (by decide);have p:=arN d h;have q0:=Tx t f.cl f.pl f.sl;have q1:=T4 b g.sl;rcases y:vK t b aV dD 6 with _|_
 ·rw[y]at s0;refine aG nf vg mix (by simp[f3]) ?_;simp[f3,aa];refine Go.ak.c2 s0 ?_;simp[aa];refine c0 q ?_;simp
 rw[y]at s0;rcases z:wU d with _|_
 ·rw[z]at p;refine aG nf vg mix (by simp[f3]) ?_;simp[f3,aa];refine Go.ak.c2 s0 ?_;simp[aa];refine Go.ak.c1 p ?_;simp[aa];refine c0 q ?_;simp
 rw[z]at p
 have N:(∃n:Int,¬n=0/\au prog 10 [bR t,.seq (b.an.map bC),.str aV,dm d] (.aC [.str [],ln,.int .i64 n])/\au prog 13 [bR t,.seq (b.an.map bC),.str aV,dm d] (.aC [uV,.int .i64 n])/\
  au prog 14 [cC t,.seq (b.an.map bC),.str aV,dm d] (.int .i64 n))\/
  (∃(i j:Nat)(s:S3)(P:P4),j<b.an.length/\jk b aV=i/\au prog 10 [bR t,.seq (b.an.map bC),.str aV,dm d] (.aC [.str (b.sp j).name,eS s,.int .i64 0])/\au prog 13 [bR t,.seq (b.an.map bC),.str aV,dm d] (.aC [pf P,.int .i64 0])/\
   au prog 14 [cC t,.seq (b.an.map bC),.str aV,dm d] (.int .i64 0)/\au prog 15 [cC t,.seq (b.an.map bC),.int .i64 i,dm d] (.aC [.int .i64 j,eS s])/\
   au prog 18 [q9 t b aV dD] (eV (vP (b.sp i).pt))/\au prog 17 [eV (vP (b.sp i).pt),dm d,eS s] (pf P)):=by
  by_cases c:kI t b aV d=0
  case neg=>
   have k:=TV t b aV d f g h c;exact .inl ⟨_,c,Hq t b aV d _ _ _ _ rfl rfl k c,Hp t b aV d _ _ _ _ rfl rfl k c,TF t b aV d f g h c⟩
  obtain⟨K,Y,F⟩:=vI c;obtain⟨i,x,e,a⟩:=ZL f g c (T8 y K) (Uo z (wX F).1);have k:=Cb t b aV d i x e f g h c a _ rfl;have r:=TY t b aV d i x e f g h c a _ rfl;cases o:fH t b i (vP d) e b.an.length with
  |none=>
   rw[o]at k r;exact .inl ⟨7,by decide,Hq t b aV d _ _ _ _ rfl rfl k (by decide),Hp t b aV d _ _ _ _ rfl rfl k (by decide),r⟩
  |some j=>
   have l:=(rh _ _ _ _ _ _ _ o).1;obtain⟨M,hx⟩:=a.ef;have A:=Ht t b aV i (vP d) M e a.C a.dk a.nz hx a.E.sz;have G:=ZX (vP (b.sp i).pt) (vP d) (fS t b i (vP d) j) (a.C.at a.C.ci.2.1).2 a.dk (IY a.C l a.dk a.nz);rw[o]at k r A;rw[<-R9 (wX F).1]at A G;exact .inr ⟨i,j,_,_,l,a.C.ci.1,TW t b aV d i j x e f g h c a o.symm,Z4 t b aV d i j x e f g h c a o.symm,r,A,TH t b aV dD i a.C,G⟩
 rcases N with⟨n,L,m,a2,a3⟩|⟨i,j,s,P,l,hi,m,a2,a3,a4,a5,B⟩
 ·rw[ln]at m;rw[uV,ln]at a2;refine aG nf vg mix (by simp[f3]) ?_;simp[f3,aa];refine Go.ak.c2 s0 ?_;simp[aa];refine Go.ak.c1 p ?_;simp[aa];refine Go.ak.e1 q0 ?_;simp[aa];refine Go.ak.e1 q1 ?_;simp[aa];refine Go.ak.e4 m ?_;simp[aa];refine⟨by repeat' first|rfl|apply ao,?_⟩;refine Go.ak.e1 q0 ?_;simp[aa];refine Go.ak.e1 q1 ?_;simp[aa];refine Go.ak.e4 a2 ?_;simp[aa];refine⟨by repeat' first|rfl|apply ao,?_⟩;refine Go.ak.c4 a3 ?_;simp[L,jA,aa];refine c0 q ?_;simp
 ·have D:=aw.et l;have H:=yE b aV g.sl;obtain⟨V,W,X⟩:=s;obtain⟨⟨O,Q,R⟩,⟨S,T,U⟩⟩:=P;simp only[qD,Qf]at m a2 a4 B;generalize bc V=u1 at*;generalize bc W=I at*;generalize bc X=J at*;generalize bc O=v1 at*;generalize bc Q=v2 at*;generalize bc R=v3 at*;generalize bc S=v4 at*;generalize bc T=v5 at*;generalize bc U=v6 at*;have u:jA u1 I J u1 I J=true:=by simp[jA]
  have v:jA v1 v2 v3 v1 v2 v3=true:=by simp[jA]
  have w:jA v4 v5 v6 v4 v5 v6=true:=by simp[jA]
  have w0:IntKind.i64.wrap 0=0:=rfl;rw[hi]at H;refine aG nf vg mix (by simp[f3]) ?_;simp[f3,aa];refine Go.ak.c2 s0 ?_;simp[aa];refine Go.ak.c1 p ?_;simp[aa];refine Go.ak.e1 q0 ?_;simp[aa];refine Go.ak.e1 q1 ?_;simp[aa];refine Go.ak.e4 m ?_;simp[aa];refine⟨by repeat' first|rfl|apply ao,?_⟩;refine Go.ak.e1 q0 ?_;simp[aa];refine Go.ak.e1 q1 ?_;simp[aa];refine Go.ak.e4 a2 ?_;simp[aa];refine⟨by repeat' first|rfl|apply ao,?_⟩;refine Go.ak.c4 a3 ?_;simp[aa];refine Go.ak.e2 H ?_;simp[aa];refine Go.ak.e4 a4 ?_;simp[l,D,w0,u,v,w,aa];refine⟨by repeat' first|rfl|apply ao,?_⟩;refine Go.ak.e1 a5 ?_;simp[l,D,w0,u,v,w,aa];refine Go.ak.e3 B ?_;simp[w0,u,v,w,aa];refine Go.ak.e0 q ?_;simp
end Go.ak
