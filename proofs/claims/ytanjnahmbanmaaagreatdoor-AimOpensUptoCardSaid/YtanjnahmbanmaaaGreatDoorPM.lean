import Derived.Test.YtanjnahmbanmaaaGreatDoorPL
import Derived.Test.YtanjnahmbanmaaaGreatDoorPK
/- Parts of a proof. -/
set_option linter.unusedSimpArgs false
set_option linter.unusedVariables false
set_option linter.unusedSectionVars false
open Go.Proofs.Tryz
open And renaming intro->ab
open Bool renaming cond_eq_ite->ac, and_eq_true->am
open Go renaming FuncId->ao
open Go.IntKind renaming i64->ap
open List renaming mem_of_getElem?->av, drop_eq_getElem_cons->ax, mem_iff_getElem->ay, take_length->aT, map_cons->a0, find?_eq_none->a1, findIdx?_eq_some_iff_getElem->a4, findIdx?_eq_none_iff->a5, zip_cons_cons->a6, zip_nil_left->a7, take_add_one->a8, length_take->a9, getElem_mem->bb, find?_cons->be, append_nil->bi, map_nil->bl, range->bo
open Nat renaming eq_of_beq_eq_true->bp, beq->bv
namespace Go.ak
open Go.Proofs
set_option maxHeartbeats 4000000
set_option maxRecDepth 100000
theorem YI(v w:NV)(a:bA kQ v.q)(b:bA kQ w.q):au prog 328 [fk v,fk w] (eF (v.dot w)):=by
 have c:=jI v.x w.x (cT a.1) (cT b.1);have d:=jI v.y w.y (cT a.2) (cT b.2);have e:=tA (v.x.mul w.x) (v.y.mul w.y) ((fK a.1 b.1).mono (by decide)) ((fK a.2 b.2).mono (by decide));refine aI nf FG mix (by simp[f328]) ?_;rw[NV.dot];simp[f328,aa];refine e2 c ?_;simp[aa];refine e2 d ?_;simp[aa];refine e2 e ?_;simp[aa]
theorem RO(t:aB)(a:0<=t.aR)(b:t.aR<=1000000):au prog 329 [cj t] (eF (.width t.aR)):=by
 have e:=vi a b;have c:=kY (4*t.aR*t.aR) (by omega) (by omega);have w1:ap.wrap (4*t.aR)=4*t.aR:=aP _ (by omega) (by omega);have d:ap.wrap (4*t.aR*t.aR)=4*t.aR*t.aR:=aP _ (by omega) (by omega);refine aI nf FF mix (by simp[f329]) ?_;rw[NF.width];simp[f329,aa,w1,d];refine c1 c ?_;simp[aa]
theorem aIF(a b:V2):(b.sub a).dot (b.sub a)=(a.sub b).dot (a.sub b):=by
 simp only[V2.sub,V2.dot]
 grind
theorem RQ(t:aB)(a b:NV)(d:0<=t.aR)(e:t.aR<=1000000)(f:bA 2000 a.q)(g:bA 2000 b.q):au prog 282 [cj t,fk a,fk b] (.int .i64 (gq t.aR a.q b.q)):=by
 have c:=gv g f;rw[<-NV.fQ]at c;have k1:=Aw b a (g.mono (by decide)) (f.mono (by decide));have k2:=YI (b.sub a) (b.sub a) (c.mono (by decide)) (c.mono (by decide));have k3:=RO t d e;have k4:=mK ((b.sub a).dot (b.sub a)) (.width t.aR) (by rw[NV.kj];exact(kN c c).mono (by decide)) ((xp d e).mono (by decide));have hq:dw ((b.sub a).dot (b.sub a)).q (NF.width t.aR).q=gq t.aR a.q b.q:=by
  rw[gq,NV.kj,NV.fQ,aIF];rfl
 rw[hq]at k4;refine aI nf FK mix (by simp[f282]) ?_;simp[f282,aa];refine c2 k1 ?_;simp[aa];refine e2 k2 ?_;simp[aa];refine e1 k3 ?_;simp[aa];refine e2 k4 ?_;simp[aa]
def tN(p:cB):Prop:=mN p/\ek p.pt=0
theorem ZR(t:aB)(v:NV)(o:cB)(b:0<=t.aR)(c:t.aR<=1000000)(e:bA 2000 v.q)(d:tN o):
 cE prog 281 [.box false (.p (cj t)),.box false (.p (fk v))] [.p (bH o),.ptr 0 [],.ptr 1 []] [.box false (.p (cj t)),.box false (.p (fk v))] (.p (.bool (decide (gq t.aR (vP o.pt) v.q<0)))):=by
 obtain⟨⟨h,f⟩,a⟩:=d;obtain⟨g1,g2⟩:=jF a;obtain⟨_,ok⟩:=ud a;have k1:=Dv o.pt g1 g2 f;have k2:=RQ t (.from o.pt) v b c (by rw[kl];exact ok) e;rw[kl]at k2;generalize gq t.aR (vP o.pt) v.q=y at*;generalize NV.from o.pt=g at*;refine fF nf FL mix (by simp[f281]) ?_;simp[f281,aa];refine Go.ak.e1 k1 ?_;simp[aa];refine Go.ak.e3 k2 ?_;simp[aa];exact dc.og (by simp) (by simp) (by simp) (by simp) (by simp)
theorem Sa(t:aB)(v:NV)(l:List cB)(h:l.length<=1000000)(a:0<=t.aR)(b:t.aR<=1000000)(d:bA 2000 v.q)(c:∀o∈l,tN o):
 cE prog 276 [.box false (.p (cj t)),.box false (.p (fk v))] [.p (.seq (l.map bH)),.func 281 [] [.ptr 0 [],.ptr 1 []]] [.box false (.p (cj t)),.box false (.p (fk v))] (.p (.int .i64 (idxFrom (fun o=>decide (gq t.aR (vP o.pt) v.q<0)) l 0))):=by
 refine fF nf AH mix (by simp[f276]) ?_;simp[f276];refine lp (α:=Nat) (fun i=>⟨[(8,.p (.int .i64 i)),(7,.p (.int .i64 l.length)),(1,.func 281 [] [.ptr 0 [],.ptr 1 []]),(0,.p (.seq (l.map bH)))],[.box false (.p (cj t)),.box false (.p (fk v))]⟩) (fun i=>i<=l.length/\idxFrom (fun o=>decide (gq t.aR (vP o.pt) v.q<0)) l 0=idxFrom (fun o=>decide (gq t.aR (vP o.pt) v.q<0)) (l.drop i) i) (fun i=>l.length-i) 0 (by simp) ?_;rintro i ⟨k1,k2⟩;have e:=b9 (i:=i) (by omega)
 by_cases hi:i<l.length
 ·rw[ax hi,idxFrom]at k2;simp[hi];refine cf (ZR t v l[i] a b d (c _ (bb hi))) [0,1] ?_
  by_cases hk:gq t.aR (vP l[i].pt) v.q<0
  ·simp[hk]at k2;simp[hk,k2,bc]
  ·simp[hk]at k2;simp[hk,e,bc];exact rd (i+1) ⟨hi,k2⟩
 ·have:i=l.length:=by omega
  subst this;simp[idxFrom]at k2;simp[k2]
theorem RZ(t:aB)(v:NV)(l:List cB)(h:l.length<=1000000)(a:0<=t.aR)(b:t.aR<=1000000)(d:bA 2000 v.q)(c:∀o∈l,tN o):
 cE prog 207 [.box false (.p (cj t)),.box false (.p (fk v))] [.p (.seq (l.map bH)),.func 281 [] [.ptr 0 [],.ptr 1 []]] [.box false (.p (cj t)),.box false (.p (fk v))] (.p (.bool (l.any (fun o=>decide (gq t.aR (vP o.pt) v.q<0))))):=by
 refine fF nf AJ mix (by simp[f207]) ?_;simp[f207];refine cf (Sa t v l h a b d c) [0,1] ?_;have:=oi (fun o=>decide (gq t.aR (vP o.pt) v.q<0)) l 0;simp[bc,<-this]
theorem RP(t:aB)(v:NV)(l:List cB)(h:l.length<=1000000)(a:0<=t.aR)(b:t.aR<=1000000)(d:bA 2000 v.q)(c:∀o∈l,tN o):
 au prog 212 [cj t,.seq (l.map bH),fk v] (.bool (!l.any (fun o=>decide (gq t.aR (vP o.pt) v.q<0)))):=by
 have k1:=RZ t v l h a b d c;generalize (l.any (fun o=>decide (gq t.aR (vP o.pt) v.q<0)))=y at*;refine aI nf F7 mix (by simp[f212]) ?_;simp[f212,aa];refine cf k1 [0,1] ?_;simp[aa,bc]
theorem RL(p o:cB):cE prog 208 [.box false (.p (bH p))] [.p (bH o),.ptr 0 []] [.box false (.p (bH p))] (.p (.bool (decide (o.name=p.name)))):=by
 refine fF nf F8 mix (by simp[f208]) ?_
 by_cases h:o.name=p.name
 ·simp[f208,aa,h];exact dc.og (by simp) (by simp) (by simp) (by simp) (by simp)
 ·simp[f208,aa,h];exact dc.og (by simp) (by simp) (by simp) (by simp) (by simp)
theorem R9(p:cB)(l:List cB)(h:l.length<=1000000):
 cE prog 276 [.box false (.p (bH p))] [.p (.seq (l.map bH)),.func 208 [] [.ptr 0 []]] [.box false (.p (bH p))] (.p (.int .i64 (idxFrom (fun o=>decide (o.name=p.name)) l 0))):=by
 refine fF nf AH mix (by simp[f276]) ?_;simp[f276];refine lp (α:=Nat) (fun i=>⟨[(8,.p (.int .i64 i)),(7,.p (.int .i64 l.length)),(1,.func 208 [] [.ptr 0 []]),(0,.p (.seq (l.map bH)))],[.box false (.p (bH p))]⟩) (fun i=>i<=l.length/\idxFrom (fun o=>decide (o.name=p.name)) l 0=idxFrom (fun o=>decide (o.name=p.name)) (l.drop i) i) (fun i=>l.length-i) 0 (by simp) ?_;rintro i ⟨k1,k2⟩;have a:=b9 (i:=i) (by omega)
 by_cases hi:i<l.length
 ·rw[ax hi,idxFrom]at k2;simp[hi];refine cf (RL p l[i]) [0] ?_
  by_cases hk:l[i].name=p.name
  ·simp[hk]at k2;simp[hk,k2,bc]
  ·simp[hk]at k2;simp[hk,a,bc];exact rd (i+1) ⟨hi,k2⟩
 ·have:i=l.length:=by omega
  subst this;simp[idxFrom]at k2;simp[k2]
theorem Ry(p:cB)(l:List cB)(h:l.length<=1000000):
 cE prog 207 [.box false (.p (bH p))] [.p (.seq (l.map bH)),.func 208 [] [.ptr 0 []]] [.box false (.p (bH p))] (.p (.bool (l.any (fun o=>decide (o.name=p.name))))):=by
 refine fF nf AJ mix (by simp[f207]) ?_;simp[f207];refine cf (R9 p l h) [0] ?_;have:=oi (fun o=>decide (o.name=p.name)) l 0;simp[bc,<-this]
def ue(r:Int)(a:List cB)(v:V2):Bool:=a.any (fun o=>decide (gq r (vP o.pt) v<0))
def zz(t:aB)(a:List cB)(s:cB):Int:=bK [aU (decide (t.on (vP s.pt)<0)) 16,aU (a.any (fun o=>decide (gq t.aR (vP o.pt) (vP s.pt)<0))) 17]
theorem RH(t:aB)(a:List cB)(s:cB):ie t a s=if iV a s=0 then zz t a s else iV a s:=by
 rw[ie,iV,zz];generalize t.on (vP s.pt)=y;generalize ek s.pt=d;generalize (a.any fun o=>decide (o.name=s.name))=e;generalize (a.any fun o=>decide (gq t.aR (vP o.pt) (vP s.pt)<0))=f;generalize isName s.name=g;cases g
 ·simp[bK,aU]
 cases e
 case true=>simp[bK,aU]
 by_cases b:d=0
 case neg=>simp[bK,aU,b]
 by_cases c:y<0
 ·simp[bK,aU,b,c]
 cases f
 ·simp[bK,aU,b,c]
 ·simp[bK,aU,b,c]
theorem ZU(t:aB)(s:cB)(a:List cB)(x:t.cs.length<=1000000)(j:ia t=0)(hs:mN s)(i:a.length<=1000000)(w:∀o∈a,tN o):
 cE prog 206 [.box false (.p (cj t))] [.p (bH s),.p (.seq (a.map bH)),.ptr 0 []] [.box false (.p (cj t))] (.p (.int .i64 (ie t a s))):=by
 obtain⟨_,_,z,_⟩:=wJ j;obtain⟨L,M⟩:=mU j;obtain⟨F,m⟩:=hs;have k1:=Ry s a i;have k2:=Ap s.name F.1;have k3:=iF (!isName s.name) 8;have k4:=iF (a.any fun o=>decide (o.name=s.name)) 9;have k6:=AM s.pt m;have k8:=pN [aU (!isName s.name) 8,aU (a.any fun o=>decide (o.name=s.name)) 9,ek s.pt] (by simp);have b:=EB (bef:=a) (s:=s);rw[RH];have A:=fun h:iV a s=0=>Dv s.pt (jF (b h)).1 (jF (b h)).2 m;have k:=fun h:iV a s=0=>OE t (.from s.pt) x z (AO ⟨(gp (jF (b h)).1).mono (by decide),(gp (jF (b h)).2).mono (by decide)⟩);have B:=iF (decide (t.on (vP s.pt)<0)) 16;have l:iV a s=0->au prog 212 [cj t,.seq (a.map bH),fk (.from s.pt)] (.bool (!ue t.aR a (NV.from s.pt).q)):=fun h=>RP t (.from s.pt) a i (by omega) (by omega) (AO ⟨gp (jF (b h)).1,gp (jF (b h)).2⟩) w;have C:=iF (ue t.aR a (vP s.pt)) 17;have d:=pN [aU (decide (t.on (vP s.pt)<0)) 16,aU (ue t.aR a (vP s.pt)) 17] (by simp);simp only[kl]at k l;have f:iV a s=bK [aU (!isName s.name) 8,aU (a.any fun o=>decide (o.name=s.name)) 9,ek s.pt]:=rfl;have g:zz t a s=bK [aU (decide (t.on (vP s.pt)<0)) 16,aU (ue t.aR a (vP s.pt)) 17]:=rfl;rw[<-f]at k8;rw[<-g]at d;clear f g b;generalize iV a s=e at*;generalize zz t a s=v at*;generalize ue t.aR a (vP s.pt)=r at*;generalize t.on (vP s.pt)=y at*;generalize ek s.pt=G at*;generalize (a.any fun o=>decide (o.name=s.name))=n at*;generalize isName s.name=u at*;generalize NV.from s.pt=v1 at*;refine fF nf F9 mix (by simp[f206]) ?_;have E:au prog 175 [.seq [.int .i64 (aU (!u) 8),.int .i64 (aU n 9),.int .i64 G]] (.int .i64 e):=by simpa using k8
 have D:au prog 175 [.seq [.int .i64 (aU (decide (y<0)) 16),.int .i64 (aU r 17)]] (.int .i64 v):=by simpa using d
 clear k8 d;generalize H:aU (!u) 8=w1 at*;generalize I:aU n 9=N at*;generalize J:aU (decide (y<0)) 16=O at*;generalize K:aU r 17=P at*;simp[f206,aa];refine cf k1 [1] ?_;simp[aa,bc,sig];refine Go.ak.e1 k2 ?_;simp[aa];refine Go.ak.e2 k3 ?_;simp[aa];refine Go.ak.e2 k4 ?_;simp[aa];refine Go.ak.e1 k6 ?_;simp[aa];refine ep E (by simp;first|exact⟨rfl,rfl⟩|rfl) (by simp;first|exact⟨rfl,rfl⟩|rfl) ?_;simp[aa];refine⟨by repeat' first|rfl|apply ab,?_⟩
 by_cases c:e=0
 case neg=>
  simp[c,aa];exact dc.og (by simp) (by simp) (by simp) (by simp) (by simp)
 simp[c,aa];refine Go.ak.c1 (A c) ?_;simp[aa];refine Go.ak.e2 (k c) ?_;simp[aa];refine Go.ak.e2 B ?_;simp[aa];refine Go.ak.e3 (l c) ?_;simp[aa];refine Go.ak.e2 C ?_;simp[aa];refine ep D (by simp;first|exact⟨rfl,rfl⟩|rfl) (by simp;first|exact⟨rfl,rfl⟩|rfl) ?_;simp[aa];refine⟨by repeat' first|rfl|apply ab,?_⟩;exact⟨fun h=>(h c).elim,dc.og (by simp) (by simp) (by simp) (by simp) (by simp)⟩
theorem IE(l:List cB):eM prog 3 (l.map (AV.p∘bH)):=yz (fun r=>⟨by simp[aa],by simp[aa]⟩) l
theorem ZV(t b:aB)(h:t.cs.length<=1000000)(l:ia t=0)(c:ic b):
 cE prog 205 [.box false (.p (cj t))] [.p (.seq (b.ar.map bH)),.p (.int .i64 24),.func 206 [] [.ptr 0 []]] [.box false (.p (cj t))] (.p (.int .i64 (rT t b))):=by
 obtain⟨n,d⟩:=c;refine fF nf Ga mix (by simp[f205]) ?_;rw[rT]
 by_cases c1:24<b.ar.length
 ·have cI:(24:Int)<b.ar.length:=by omega
  rw[if_pos c1];simp[f205,cI]
 have e:¬(24:Int)<b.ar.length:=by omega
 rw[if_neg c1];simp[f205,e];refine lp (α:=Nat) (fun i=>⟨[(16,.p (.int .i64 i)),(15,.p (.int .i64 b.ar.length)),(14,.p (.seq (b.ar.map bH))),(2,.func 206 [] [.ptr 0 []]),(0,.p (.seq (b.ar.map bH)))],[.box false (.p (cj t))]⟩) (fun i=>i<=b.ar.length/\∀j,j<i->gH (ie t) b.ar j=0) (fun i=>b.ar.length-i) 0 (by simp) ?_;rintro i ⟨k1,k2⟩
 by_cases hk:i<b.ar.length
 ·have gk:=aB.fe hk;have m:=b9 (i:=i) (by omega);have a:=ZU t (b.sp i) (b.ar.take i) h l (d _ (av gk)) (by rw[a9];omega) (fun o k=>by
   obtain⟨j,f,rfl⟩:=ay.1 k;rw[a9]at f;rw[List.getElem_take];have:=k2 j (by omega);have g:=aB.fe (t:=b) (i:=j) (by omega);rw[gH,g]at this;rw[aB.jz (by omega)];exact⟨d _ (av g),Ay this⟩)
  rw[List.map_take]at a
  by_cases he:ie t (b.ar.take i) (b.sp i)=0
  ·rw[he]at a;have:=rP k2 gk he;simp[hk,gk,aa];refine⟨⟨k1,IE _⟩,?_⟩;refine ef a [0] ?_;simp[m,aa,bc,sig];exact rd (i+1) ⟨hk,this⟩
  ·have c:=rQ k2 gk he;rw[c];simp[hk,gk,aa];refine⟨⟨k1,IE _⟩,?_⟩;refine ef a [0] ?_;simp[he,aa,bc,sig];exact dc.og (by simp) (by simp) (by simp) (by simp) (by simp)
 ·have:i=b.ar.length:=by omega
  subst this;rw[pM.2 k2];simp
theorem Rw(t b:aB)(a:ib t)(c:ic b):au prog 131 [cj t,.seq (b.ar.map bH)] (.int .i64 (gI t b)):=by
 have k1:=Q0 t a;refine aI nf Gr mix (by simp[f131]) ?_;rw[gI]
 by_cases h:ia t=0
 ·rw[if_neg (by simp[h])];have k2:=ZV t b a.cl h c;rw[h]at k1;simp[f131,aa];refine Go.ak.c1 k1 ?_;simp[aa];refine cf k2 [0] ?_;simp[aa,bc]
 ·rw[if_pos h];generalize ia t=e at*;simp[f131,aa];refine Go.ak.c1 k1 ?_;simp[h,aa]
theorem aB.AF(t:aB)(v:V2):∀m,t.l8 v m<=0↔∃i,i<m/\t.side i v<=0
 |0=>⟨fun h=>by have:t.l8 v 0=1:=rfl;omega,fun⟨i,h,_⟩=>by omega⟩
 |m+1=>by
  rw[aB.Ak];have c:=aB.AF t v m;constructor
  ·intro h;rcases Int.lt_or_le 0 (t.l8 v m)with b|b
   ·exact⟨m,by omega,by omega⟩
   ·obtain⟨i,d,a⟩:=c.1 b;exact⟨i,by omega,a⟩
  ·rintro⟨i,d,a⟩
   by_cases e:i=m
   ·subst e;omega
   ·have:=c.2 ⟨i,by omega,a⟩;omega
theorem RS(t:aB)(v:NV)(r:t.cs.length<=1000000)(e:∀p∈t.cs,dW p)(n:bA 3000 v.q):au prog 202 [cj t,b8 v] (.bool (decide (0<t.on v.q))):=by
 refine aI nf Gd mix (by simp[f202]) ?_;obtain⟨k,hk,m,o⟩:=yd (fun i=>decide (0<t.side i v.q)) t.cs.length;simp[f202,aa];refine c1 (Ym t) ?_;simp;refine rfd (aIh t r e) rfl (by simp) (fun L i=>jx t v false L) (fun L i=>jx t v false L++lr t i) k (by simpa using hk) (fun L=>rfl) ?_ ?_ ?_
 ·intro L a i hi;refine⟨rfl,by simp[jx],fun _ hx=>?_⟩;simp[jx]at hx⊢;exact hx
 ·intro L a i x hi hx;rw[wN (by omega)]at hx;injection hx with hx
  subst hx;refine⟨?_,by simp,fun j _ h=>h,rfl,by simp[jx,lr]⟩;obtain⟨d,a2,a3⟩:=Ev e n (show i<t.cs.length by omega);have hs:0<t.side i v.q:=by have:=m i hi;simp at this;omega
  have g:¬t.side i v.q<=0:=by omega
  refine wM nf mix a rfl rfl (by kernel_rfl) ?_;have b:=congrArg dP.env a;dsimp only at b;clear a;generalize v.sub (dy (t.at i))=U at*;generalize (t.jB i).cU U=C at*;simp[jx,rN,lr,aa];refine e2 d ?_;simp[aa];refine e2 a2 ?_;simp[aa];refine e1 a3 ?_;simp[aa,hs,g];refine dc.og (by simp) (by simp) (by simp) (by simp) ?_;simp;exact D1 b (by simp)
 ·intro L a;rcases o with c|⟨c,l⟩
  ·refine .inl ⟨by simpa using c,?_⟩;have f:0<t.on v.q:=by
    have:¬t.on v.q<=0:=by
     rw[aB.on,aB.AF];rintro⟨i,s,u⟩;have:=m i (by omega);simp at this;omega
    omega
   simp[jx,f]
  ·have hs:t.side k v.q<=0:=by simp at l;exact l
   have g:¬0<t.side k v.q:=by omega
   have f:¬0<t.on v.q:=by
    have:t.on v.q<=0:=by
     rw[aB.on,aB.AF];exact⟨k,c,hs⟩
    omega
   obtain⟨d,a2,a3⟩:=Ev e n c;refine .inr ⟨rN t k,.ret,jx t v false (L.dn .ret)++lr t k,jx t v false (L.dn .ret),wN c,rfl,?_,by simp[jx],fun j _ h=>?_,rfl,by simp[jx,lr],?_,?_⟩
   ·refine wM nf mix a rfl rfl (by kernel_rfl) ?_;have b:=congrArg dP.env a;dsimp only at b;clear a;generalize v.sub (dy (t.at k))=U at*;generalize (t.jB k).cU U=C at*;simp[jx,rN,lr,aa];refine e2 d ?_;simp[aa];refine e2 a2 ?_;simp[aa];refine e1 a3 ?_;simp[aa,hs,g];refine dc.og (by simp) (by simp) (by simp) (by simp) ?_;simp;exact ET b (by simp)
   ·have:=av h;simp[jx,lr]at this
   ·have b:=congrArg dP.env a;dsimp only at b;simp[jx];exact ET b (by simp)
   ·simp[jx,f,je]
noncomputable def lW(l:List cB):List (PV×PV):=l.map (fun s=>(.str s.name,b8 (.from s.pt)))
def dX(l:List cB)(n:List Nat):Option cB:=l.find? (fun s=>decide (s.name=n))
theorem FV(a b:List Nat):ju (.str a) (.str b)=some (decide (b=a)):=by
 rw[ju]
 by_cases h:b=a
 ·simp[h]
 ·simp[h];exact fun e=>h e.symm
@[simp] theorem FT(T:TypeId)(q:List Nat):∀l:List cB,fE prog T (lW l) (.str q)=some ((dX l q).map (fun s=>b8 (.from s.pt)))
 |[]=>rfl
 |p::r=>by
  have:=FT T q r;rw[lW]at this;rw[lW,a0,fE,pC,FV,dX,be]
  ·by_cases h:p.name=q
   ·simp[h]
   ·simp[h,this,dX]
  ·intro u fs h;cases h
theorem FE(q:cB):∀{l:List cB},dX l q.name=none->fN (lW l) (.str q.name) (b8 (.from q.pt))=lW (l++[q])
 |[],_=>rfl
 |p::r,h=>by
  rw[dX,be]at h
  by_cases e:p.name=q.name
  ·simp[e]at h
  ·simp[e]at h;have:=FE q (l:=r) (by rw[dX,a1];simpa using h);rw[lW]at this⊢;rw[a0,fN,FV,this];simp[e,lW]
noncomputable def mj(t b:aB):PV:=.st 194 [cj t,.seq (b.ar.map bH),.dT (lW b.ar),eF (.width t.aR)]
@[simp] theorem aMl(t b:aB):aL (mj t b)=.agg 194:=rfl
@[simp] theorem aKO(t b:aB):bW (mj t b)=[cj t,.seq (b.ar.map bH),.dT (lW b.ar),eF (.width t.aR)]:=rfl
@[simp] theorem aKb:prog.cellsOf 194=10:=by kernel_rfl
structure v8(b:aB):Prop where
 sl:b.ar.length<=24
 sp:∀s∈b.ar,tN s
 ne:∀i,i<b.ar.length->dX (b.ar.take i) (b.sp i).name=none
theorem AG{t b:aB}(l:ic b)(h:gI t b=0):ia t=0/\v8 b/\(∀s∈b.ar,0<=t.on (vP s.pt)):=by
 rw[gI]at h
 by_cases c:ia t=0
 case neg=>rw[if_pos c]at h;exact absurd h c
 rw[if_neg (by simp[c]),rT]at h
 by_cases f:24<b.ar.length
 ·rw[if_pos f]at h;omega
 rw[if_neg f]at h;have k:=pM.1 h;have d:∀i,i<b.ar.length->ie t (b.ar.take i) (b.sp i)=0:=fun i hi=>by
  have:=k i hi
  rwa [gH,aB.fe hi]at this
 refine⟨c,⟨by omega,fun s hs=>?_,fun i hi=>?_⟩,fun s hs=>?_⟩
 ·obtain⟨j,a,rfl⟩:=ay.1 hs;rw[aB.jz a];exact⟨l.sp _ (av (aB.fe a)),Ay (d j a)⟩
 ·have:=d i hi;rw[ie]at this
  split at this
  ·omega
  split at this
  ·omega
  rename_i g;rw[dX,a1];intro x hx e;exact g (List.any_eq_true.2 ⟨x,hx,e⟩)
 ·obtain⟨j,a,rfl⟩:=ay.1 hs;rw[aB.jz a];have:=d j a;rw[ie]at this
  split at this
  ·omega
  split at this
  ·omega
  split at this
  ·contradiction
  split at this
  ·omega
  omega
def ub:PV:=.st 194 [.st 54 [.aO,.int .i64 0,.aO,.aO],.aO,.fc,.st 130 [.st 128 [.int .i64 0,.aO],.st 128 [.int .i64 0,.aO]]]
@[simp] theorem aMV:aL ub=.agg 194:=rfl
theorem FP(t b:aB)(f:0<=t.aR)(g:t.aR<=1000000)(j:v8 b):au prog 132 [cj t,.seq (b.ar.map bH)] (mj t b):=by
 obtain⟨q,k,e⟩:=j;have k1:=YP t.aR f g;refine aI nf Gq mix (by simp[f132]) ?_;rw[mj];simp[f132,aa];refine e1 k1 ?_;simp[aa];refine⟨rfl,?_⟩;refine lp (α:=Nat) (fun i=>⟨[(17,.p (.int .i64 i)),(16,.p (.int .i64 b.ar.length)),(15,.p (.seq (b.ar.map bH))),(5,.ptr 3 []),(4,.ptr 1 [])],[.box false (.p (cj t)),.box false (.p ub),.map false (lW (b.ar.take i)),.box false (.st 194 [.p (cj t),.p (.seq (b.ar.map bH)),.map 2,.p (eF (.width t.aR))])]⟩) (fun i=>i<=b.ar.length) (fun i=>b.ar.length-i) 0 (by simp) ?_ (hh:=by simp[ub,lW]);rintro i i1
 by_cases hi:i<b.ar.length
 ·have a:=aB.fe hi;have m:=b9 (i:=i) (by omega);obtain⟨⟨s,n⟩,o⟩:=k _ (av a);obtain⟨g1,g2⟩:=jF o;have h:=Yq (b.sp i).pt g1 g2 n;have d:=FE (b.sp i) (e i hi);have l:b.ar.take (i+1)=b.ar.take i++[b.sp i]:=by rw[a8,a];rfl
  have c:=FT 9 (b.sp i).name (b.ar.take i);rw[e i hi]at c;rw[<-l]at d;generalize NV.from (b.sp i).pt=r at*;simp[hi,a,aa];refine e1 h ?_;simp[c,d,m,aa];exact rd (i+1) (by omega)
 ·have:i=b.ar.length:=by omega
  subst this;simp[aa]
theorem RE(l:List (List Nat))(s:List Nat)(h:l.length<=1000000):au prog 213 [.seq (l.map .str),.str s] (.bool (decide (s∈l))):=by
 refine aI nf F6 mix (by simp[f213]) ?_;simp[f213];refine lp (α:=Nat) (fun i=>⟨[(5,.p (.int .i64 i)),(1,.p (.str s)),(0,.p (.seq (l.map .str)))],[]⟩) (fun i=>i<=l.length/\∀j(h:j<l.length),j<i->¬l[j]=s) (fun i=>l.length-i) 0 (by simp) ?_;rintro i ⟨k1,k2⟩;have d:=b9 (i:=i) (by omega)
 by_cases hi:i<l.length
 ·by_cases a:l[i]=s
  ·have:s∈l:=a▸bb hi;simp[hi,a,this]
  ·simp[hi,a,d];exact rd (i+1) ⟨hi,fun j b f=>by
    by_cases e:j=i
    ·subst e;exact a
    ·exact k2 j b (by omega)⟩
 ·have c:¬s∈l:=fun h=>by
   obtain⟨j,b,e⟩:=ay.1 h;exact k2 j b (by omega) e
  simp[hi,c]
theorem RR(l:List (List Nat))(s:List Nat)(h:l.length<=1000000):au prog 298 [.seq (l.map .str),.str s] (.int .i64 (idxFrom (fun o=>decide (o=s)) l 0)):=by
 refine aI nf FI mix (by simp[f298]) ?_;simp[f298];refine lp (α:=Nat) (fun i=>⟨[(8,.p (.int .i64 i)),(7,.p (.int .i64 l.length)),(1,.p (.str s)),(0,.p (.seq (l.map .str)))],[]⟩) (fun i=>i<=l.length/\idxFrom (fun o=>decide (o=s)) l 0=idxFrom (fun o=>decide (o=s)) (l.drop i) i) (fun i=>l.length-i) 0 (by simp) ?_;rintro i ⟨k1,k2⟩;have b:=b9 (i:=i) (by omega)
 by_cases hi:i<l.length
 ·rw[ax hi,idxFrom]at k2
  by_cases hk:l[i]=s
  ·have a:s=l[i]:=hk.symm;simp[hk]at k2;simp[hi,<-a,k2]
  ·have a:¬s=l[i]:=fun e=>hk e.symm;simp[hk]at k2;simp[hi,a,b];exact rd (i+1) ⟨hi,k2⟩
 ·have:i=l.length:=by omega
  subst this;simp[idxFrom]at k2;simp[k2]
theorem R4(l:List (List Nat))(s:List Nat)(h:l.length<=1000000):au prog 243 [.seq (l.map .str),.str s] (.bool (decide (s∈l))):=by
 have k:=RR l s h;have e:=oi (fun o=>decide (o=s)) l 0;have e2:(l.any fun o=>decide (o=s))=decide (s∈l):=by
  rw[Bool.eq_iff_iff];simp
 rw[e2]at e;refine aI nf F4 mix (by simp[f243]) ?_;rw[<-e];generalize idxFrom (fun o=>decide (o=s)) l 0=y at*;simp[f243];refine c2 k ?_;simp
def py(r:Int)(a p q:V2):Bool:=
 if dF ((a.sub p).dot (q.sub p))<=0 then decide (dw ((a.sub p).dot (a.sub p)) (im r)<0)
 else if 0<=dw ((a.sub p).dot (q.sub p)) ((q.sub p).dot (q.sub p))then decide (dw ((a.sub q).dot (a.sub q)) (im r)<0)
 else decide (dw ((q.sub p).cU (a.sub p)*(q.sub p).cU (a.sub p)) (im r*(q.sub p).dot (q.sub p))<0)
theorem RU(t b:aB)(a p q:NV)(n:0<=t.aR)(o:t.aR<=1000000)(g:bA 300 a.q)(h:bA 300 p.q)(hq:bA 300 q.q):
 au prog 244 [mj t b,b8 a,b8 p,b8 q] (.bool (py t.aR a.q p.q q.q)):=by
 have c:=gv hq h;have d:=gv g h;have f:=gv g hq;rw[<-NV.fQ]at c d f;have of:=xp n o;have k:=kN d c;have i:=kN c c;have l:=kN d d;have m:=kN f f;have e:=wF c d;have k1:=rz q p (hq.mono (by decide)) (h.mono (by decide));have k2:=rz a p (g.mono (by decide)) (h.mono (by decide));have k3:=Dj (a.sub p) (q.sub p) (d.mono (by decide)) (c.mono (by decide));have k4:=tf ((a.sub p).dot (q.sub p));have k5:=A8 (a.sub p) (d.mono (by decide));have k6:=mK ((a.sub p).dot (a.sub p)) (.width t.aR) (by rw[NV.kj];exact l.mono (by decide)) (of.mono (by decide));have k7:=A8 (q.sub p) (c.mono (by decide));have k8:=mK ((a.sub p).dot (q.sub p)) ((q.sub p).dot (q.sub p)) (by rw[NV.kj];exact k.mono (by decide)) (by rw[NV.kj];exact i.mono (by decide));have k9:=rz a q (g.mono (by decide)) (hq.mono (by decide));have pE:=A8 (a.sub q) (f.mono (by decide));have zM:=mK ((a.sub q).dot (a.sub q)) (.width t.aR) (by rw[NV.kj];exact m.mono (by decide)) (of.mono (by decide));have vV:=Ep (q.sub p) (a.sub p) (c.mono (by decide)) (d.mono (by decide));have vW:=jI ((q.sub p).cU (a.sub p)) ((q.sub p).cU (a.sub p)) (by rw[NV.rO];exact e.mono (by decide)) (by rw[NV.rO];exact e.mono (by decide));have vX:=jI (.width t.aR) ((q.sub p).dot (q.sub p)) (of.mono (by decide)) (by rw[NV.kj];exact i.mono (by decide));have zN:=mK (((q.sub p).cU (a.sub p)).mul ((q.sub p).cU (a.sub p))) (NF.mul (.width t.aR) ((q.sub p).dot (q.sub p))) (by
  show bL kB (((q.sub p).cU (a.sub p)).q*((q.sub p).cU (a.sub p)).q);rw[NV.rO];exact(fK e e).mono (by decide)) (by
  show bL kB (im t.aR*((q.sub p).dot (q.sub p)).q);rw[NV.kj];exact(fK of i).mono (by decide))
 have e1:((a.sub p).dot (q.sub p)).q=(a.q.sub p.q).dot (q.q.sub p.q):=by rw[NV.kj,NV.fQ,NV.fQ]
 have e2:((a.sub p).dot (a.sub p)).q=(a.q.sub p.q).dot (a.q.sub p.q):=by rw[NV.kj,NV.fQ]
 have e3:((q.sub p).dot (q.sub p)).q=(q.q.sub p.q).dot (q.q.sub p.q):=by rw[NV.kj,NV.fQ]
 have e4:((a.sub q).dot (a.sub q)).q=(a.q.sub q.q).dot (a.q.sub q.q):=by rw[NV.kj,NV.fQ]
 have e5:(((q.sub p).cU (a.sub p)).mul ((q.sub p).cU (a.sub p))).q=(q.q.sub p.q).cU (a.q.sub p.q)*(q.q.sub p.q).cU (a.q.sub p.q):=by
  show((q.sub p).cU (a.sub p)).q*((q.sub p).cU (a.sub p)).q=_;rw[NV.rO,NV.fQ,NV.fQ]
 have j:(NF.mul (.width t.aR) ((q.sub p).dot (q.sub p))).q=im t.aR*(q.q.sub p.q).dot (q.q.sub p.q):=by
  show im t.aR*((q.sub p).dot (q.sub p)).q=_;rw[e3]
 rw[e1]at k4 k8;rw[e2,FR]at k6;rw[e3]at k8;rw[e4,FR]at zM;rw[e5,j]at zN;rw[<-dF]at k4;rw[py];clear e1 e2 e3 e4 e5 j c d f of k i l m e;generalize dF ((a.q.sub p.q).dot (q.q.sub p.q))=s1 at*;generalize dw ((a.q.sub p.q).dot (q.q.sub p.q)) ((q.q.sub p.q).dot (q.q.sub p.q))=s2 at*;generalize dw ((a.q.sub p.q).dot (a.q.sub p.q)) (im t.aR)=z at*;generalize dw ((a.q.sub q.q).dot (a.q.sub q.q)) (im t.aR)=A at*;generalize dw ((q.q.sub p.q).cU (a.q.sub p.q)*(q.q.sub p.q).cU (a.q.sub p.q)) (im t.aR*(q.q.sub p.q).dot (q.q.sub p.q))=B at*;generalize (NF.mul (.width t.aR) ((q.sub p).dot (q.sub p)))=r at*;generalize ((q.sub p).cU (a.sub p)).mul ((q.sub p).cU (a.sub p))=s at*;generalize (q.sub p).cU (a.sub p)=u at*;generalize (a.sub q).dot (a.sub q)=v at*;generalize (a.sub p).dot (a.sub p)=w at*;generalize (q.sub p).dot (q.sub p)=x at*;generalize (a.sub p).dot (q.sub p)=y at*;generalize a.sub p=v1 at*;generalize q.sub p=v2 at*;generalize a.sub q=v3 at*;refine aI nf F3 mix (by simp[f244]) ?_;simp[f244,aa];refine Go.ak.e2 k1 ?_;simp[aa];refine Go.ak.e2 k2 ?_;simp[aa];refine⟨by repeat' first|rfl|apply ab,?_⟩;refine Go.ak.c2 k3 ?_;simp[aa];refine Go.ak.c1 k4 ?_
 by_cases c1:s1<=0
 ·rw[if_pos c1];simp[c1,aa];refine Go.ak.e1 k5 ?_;simp[aa];refine Go.ak.e2 k6 ?_;simp[aa]
 rw[if_neg c1];simp[c1,aa];refine Go.ak.e1 k7 ?_;simp[aa];refine Go.ak.e2 k8 ?_
 by_cases c2:0<=s2
 ·rw[if_pos c2];simp[c2,aa];refine Go.ak.e2 k9 ?_;simp[aa];refine Go.ak.e1 pE ?_;simp[aa];refine Go.ak.e2 zM ?_;simp[aa]
 rw[if_neg c2];simp[c2,aa];refine Go.ak.c2 vV ?_;simp[aa];refine Go.ak.e2 vW ?_;simp[aa];refine Go.ak.e1 k7 ?_;simp[aa];refine Go.ak.e2 vX ?_;simp[aa];refine Go.ak.e2 zN ?_;simp[aa]
@[simp high] theorem aJ3(c:Bool)(H:aj)(v w:V2):gX prog .eql 24 c H (.p (eV v)) (.p (eV w))=some (True,{v:=.p (.bool (nE (bg v.x) (bg v.y) (bg w.x) (bg w.y)))}):=by
 rw[eV,eV,ga,ga];simp[gX]
def tG(p q:V2):PV:=.st 126 [eV p,eV q]
@[simp] theorem aMM(p q:V2):aL (tG p q)=.agg 126:=rfl
@[simp] theorem aLd(p q:V2):bW (tG p q)=[eV p,eV q]:=rfl
def mT(a p q:V2):Rat:=
 if dF ((q.sub p).dot (a.sub p))<=0 then(a.sub p).dot (a.sub p)
 else if 0<=dw ((q.sub p).dot (a.sub p)) ((q.sub p).dot (q.sub p))then(a.sub q).dot (a.sub q)
 else(q.sub p).cU (a.sub p)*(q.sub p).cU (a.sub p)/(q.sub p).dot (q.sub p)
theorem RM(w:V2):V2.dot ⟨0,0⟩ w=0:=by simp only[V2.dot];grind
theorem aIn{q:Rat}(h:¬dF q<=0):0<q:=by
 rw[dF]at h
 split at h
 ·omega
 split at h
 ·omega
 ·grind
theorem AD{v w:V2}(h:¬dF (v.dot w)<=0):0<v.dot v:=by
 have h:=aIn h;obtain⟨x,y⟩:=v;obtain⟨a,b⟩:=w;simp only[V2.dot]at h⊢;have c:∀z:Rat,0<=z*z:=fun z=>by
  rcases Rat.le_total (a:=0) (b:=z)with g|g
  ·exact Rat.mul_nonneg g g
  ·have:z*z=(-z)*(-z):=by grind
   rw[this];exact Rat.mul_nonneg (by grind) (by grind)
 have d:=c x;have f:=c y
 by_cases hx:x=0
 ·by_cases hy:y=0
  ·subst hx hy;grind
  ·have:y*y≠0:=fun e=>by rcases Rat.mul_eq_zero.1 e with e|e<;>exact hy e
   grind
 ·have:x*x≠0:=fun e=>by rcases Rat.mul_eq_zero.1 e with e|e<;>exact hx e
  grind
theorem X5(a p q:V2)(f:bA 300 a)(b:bA 300 p)(hq:bA 300 q):au prog 283 [tG p q,eV a] (.str (bg (mT a p q))):=by
 have c:=gv hq b;have d:=gv f b;have k:=gv f hq;have j:=kN c d;have i:=kN c c;have e:=wF c d;have k1:=px q p (hq.mono (by decide)) (b.mono (by decide));have k2:=px a p (f.mono (by decide)) (b.mono (by decide));have k3:=CM (q.sub p) (a.sub p) (c.mono (by decide)) (d.mono (by decide));have k4:=s9 ((q.sub p).dot (a.sub p)) (j.mono (by decide));have k5:=xB (a.sub p) (d.mono (by decide));have k7:=xB (q.sub p) (c.mono (by decide));have k8:=pO ((q.sub p).dot (a.sub p)) ((q.sub p).dot (q.sub p)) (j.mono (by decide)) (i.mono (by decide));have k9:=px a q (f.mono (by decide)) (hq.mono (by decide));have pE:=xB (a.sub q) (k.mono (by decide));have vV:=Ef (q.sub p) (a.sub p) (c.mono (by decide)) (d.mono (by decide));have vW:=pj ((q.sub p).cU (a.sub p)) ((q.sub p).cU (a.sub p)) (e.mono (by decide)) (e.mono (by decide));have vX:=fun l=>X0 ((q.sub p).cU (a.sub p)*(q.sub p).cU (a.sub p)) ((q.sub p).dot (q.sub p)) ((fK e e).mono (by decide)) (i.mono (by decide)) l;have n:(q.sub p)=⟨0,0⟩->dF ((q.sub p).dot (a.sub p))<=0:=fun h=>by rw[h,RM];decide
 have m:¬dF ((q.sub p).dot (a.sub p))<=0->(q.sub p).dot (q.sub p)≠0:=fun h=>by
  have:=AD h
  grind
 rw[mT];clear c d k j i e;generalize dF ((q.sub p).dot (a.sub p))=s1 at*;generalize dw ((q.sub p).dot (a.sub p)) ((q.sub p).dot (q.sub p))=s2 at*;generalize (q.sub p).dot (a.sub p)=r at*;generalize (a.sub p).dot (a.sub p)=s at*;generalize (a.sub q).dot (a.sub q)=u at*;generalize (q.sub p).dot (q.sub p)=v at*;generalize (q.sub p).cU (a.sub p)=w at*;generalize a.sub p=v1 at*;generalize q.sub p=v2 at*;generalize a.sub q=v3 at*;have o:=Yd;refine aI nf FJ mix (by simp[f283]) ?_;simp[f283,aa];refine Go.ak.e2 k1 ?_;simp[aa];refine Go.ak.e2 k2 ?_;simp[aa];refine⟨by repeat' first|rfl|apply ab,?_⟩;refine Go.ak.e0 o ?_
 by_cases g:v2=⟨0,0⟩
 ·have:=n g;have b:nE (bg v2.x) (bg v2.y) (bg 0) (bg 0)=true:=by rw[g];simp[nE]
  rw[if_pos this];simp[-gX,b,aa];refine Go.ak.c1 k5 ?_;simp[aa]
 have b:nE (bg v2.x) (bg v2.y) (bg 0) (bg 0)=false:=QT (t:=⟨0,0⟩) g
 by_cases c1:s1<=0
 ·rw[if_pos c1];simp[-gX,b,aa];refine Go.ak.e2 k3 ?_;simp[aa];refine Go.ak.e1 k4 ?_;simp[c1,aa];refine Go.ak.c1 k5 ?_;simp[aa]
 rw[if_neg c1];simp[-gX,b,aa];refine Go.ak.e2 k3 ?_;simp[aa];refine Go.ak.e1 k4 ?_;simp[c1,aa];refine Go.ak.e2 k3 ?_;simp[aa];refine Go.ak.e1 k7 ?_;simp[aa];refine Go.ak.e2 k8 ?_
 by_cases c2:0<=s2
 ·rw[if_pos c2];simp[c2,aa];refine Go.ak.c2 k9 ?_;simp[aa];refine Go.ak.c1 pE ?_;simp[aa]
 rw[if_neg c2];simp[c2,aa];refine Go.ak.c2 vV ?_;simp[aa];refine Go.ak.e2 vW ?_;simp[aa];refine Go.ak.e1 k7 ?_;simp[aa];refine Go.ak.e2 (vX (m c1)) ?_;simp[aa]
theorem RN(v w:V2):v.dot w=w.dot v:=by simp only[V2.dot];grind
theorem RG(r:Int)(a p q:V2):decide (dw (mT a p q) (im r)<0)=py r a p q:=by
 rw[mT,py,RN (a.sub p) (q.sub p)]
 by_cases c1:dF ((q.sub p).dot (a.sub p))<=0
 ·rw[if_pos c1,if_pos c1]
 rw[if_neg c1,if_neg c1];have b:=AD c1
 by_cases c2:0<=dw ((q.sub p).dot (a.sub p)) ((q.sub p).dot (q.sub p))
 ·rw[if_pos c2,if_pos c2]
 rw[if_neg c2,if_neg c2,decide_eq_decide,Ez,Ez];exact Rat.div_lt_iff b
theorem RJ(a p q:V2)(d:bA 300 a)(e:bA 300 p)(hq:bA 300 q):bL 8000 (mT a p q):=by
 have b:=gv hq e;have c:=gv d e;have g:=gv d hq;have f:=wF b c;rw[mT]
 split
 ·exact(kN c c).mono (by decide)
 split
 ·exact(kN g g).mono (by decide)
 ·rename_i i _;have h:=AD i;exact(WI (fK f f) (kN b b)).mono (by decide)
theorem RF(r:Int)(a p q:V2)(b:0<=r)(c:r<=1000000)(d:bA 300 a)(e:bA 300 p)(hq:bA 300 q):au prog 214 [.int .i64 r,tG p q,eV a] (.bool (py r a p q)):=by
 have k1:=X5 a p q d e hq;have k2:=Yp r b c;have k3:=pO (mT a p q) (im r) ((RJ a p q d e hq).mono (by decide)) ((xp b c).mono (by decide));refine aI nf F5 mix (by simp[f214]) ?_;rw[<-RG];generalize dw (mT a p q) (im r)=y at*;generalize mT a p q=n at*;simp[f214,aa];refine Go.ak.c2 k1 ?_;simp[aa];refine Go.ak.c1 k2 ?_;simp[aa];refine Go.ak.c2 k3 ?_;simp[aa]
def fZ(r:Int)(p q:V2)(ex:List (List Nat)):List cB->List Nat
 |[]=>[]
 |s::l=>if !decide (s.name∈ex)&&py r (vP s.pt) p q then s.name else fZ r p q ex l
theorem R6{b:aB}(a:v8 b){i:Nat}(hi:i<b.ar.length):dX b.ar (b.sp i).name=some (b.sp i):=by
 have h:=a.ne i hi;rw[dX]at h⊢;have e:b.ar=b.ar.take i++(b.sp i::b.ar.drop (i+1)):=by
  rw[<-aB.jz hi,<-ax hi,List.take_append_drop]
 generalize b.sp i=x at*;rw[e,List.find?_append,h];simp
theorem RD(t b:aB)(p q:NV)(ex:List (List Nat))(h:0<=t.aR)(j:t.aR<=1000000)(f:v8 b)(l:∀s∈b.ar,bA 300 (vP s.pt))(k:ex.length<=1000000)(m:bA 300 p.q)(hq:bA 300 q.q):
 au prog 161 [mj t b,b8 p,b8 q,.seq (ex.map .str)] (.str (fZ t.aR p.q q.q ex b.ar)):=by
 have n:=f.sl;refine aI nf Gi mix (by simp[f161]) ?_;simp[f161,aa];refine lp (α:=Nat) (fun i=>⟨[(14,.p (.int .i64 i)),(13,.p (.int .i64 b.ar.length)),(12,.p (.seq (b.ar.map bH))),(6,.ptr 2 []),(5,.ptr 1 []),(4,.ptr 0 []),(3,.p (.seq (ex.map .str)))],[.box false (.p (mj t b)),.box false (.p (b8 p)),.box false (.p (b8 q))]⟩) (fun i=>i<=b.ar.length/\fZ t.aR p.q q.q ex b.ar=fZ t.aR p.q q.q ex (b.ar.drop i)) (fun i=>b.ar.length-i) 0 (by simp) ?_;rintro i ⟨i1,i2⟩
 by_cases hi:i<b.ar.length
 ·have d:=aB.fe hi;have g:=b9 (i:=i) (by omega);rw[ax hi,fZ,aB.jz hi]at i2;have c:=R4 ex (b.sp i).name k;have a:=RU t b (.from (b.sp i).pt) p q h j (by rw[kl];exact l _ (av d)) m hq;rw[kl]at a;have e:=R6 f hi;generalize fZ t.aR p.q q.q ex b.ar=R at*
  by_cases hm:(b.sp i).name∈ex
  ·simp[hm]at c i2;simp[hi,d,aa];refine Go.ak.c2 c ?_;simp[g,aa];exact rd (i+1) ⟨by omega,i2⟩
  ·simp[hm]at c i2;cases hk:py t.aR (vP (b.sp i).pt) p.q q.q
   ·rw[hk]at a i2;simp[hi,d,aa];refine Go.ak.c2 c ?_;simp[e,aa];refine Go.ak.c4 a ?_;simp[g,aa];exact rd (i+1) ⟨by omega,by simpa using i2⟩
   ·rw[hk]at a i2;simp at i2;simp[hi,d,aa];refine Go.ak.c2 c ?_;simp[e,aa];refine Go.ak.c4 a ?_;simp[i2,aa]
 ·have:i=b.ar.length:=by omega
  subst this;simp[fZ]at i2;simp[i2,aa]
theorem RY(t b:aB)(p q:V2)(ex:List (List Nat))(f:0<=t.aR)(g:t.aR<=1000000)(m:b.ar.length<=1000000)(l:∀s∈b.ar,ek s.pt=0)(j:∀s∈b.ar,bA 300 (vP s.pt))(h:ex.length<=1000000)(k:bA 300 p)(hq:bA 300 q):
 au prog 136 [cR t,.seq (b.ar.map bH),tG p q,.seq (ex.map .str)] (.str (fZ t.aR p q ex b.ar)):=by
 refine aI nf Gk mix (by simp[f136]) ?_;simp[f136,aa];refine lp (α:=Nat) (fun i=>⟨[(9,.p (.int .i64 i)),(6,.ptr 1 []),(4,.ptr 0 []),(3,.p (.seq (ex.map .str))),(1,.p (.seq (b.ar.map bH)))],[.box false (.p (cR t)),.box false (.p (tG p q))]⟩) (fun i=>i<=b.ar.length/\fZ t.aR p q ex b.ar=fZ t.aR p q ex (b.ar.drop i)) (fun i=>b.ar.length-i) 0 (by simp) ?_;rintro i ⟨i1,i2⟩
 by_cases hi:i<b.ar.length
 ·have a:=aB.fe hi;have e:=b9 (i:=i) (by omega);rw[ax hi,fZ,aB.jz hi]at i2;have d:=RE ex (b.sp i).name h;have c:=RF t.aR (vP (b.sp i).pt) p q f g (j _ (av a)) k hq;rw[(ud (l _ (av a))).1]at c;generalize fZ t.aR p q ex b.ar=R at*
  by_cases hm:(b.sp i).name∈ex
  ·simp[hm]at d i2;simp[hi,a,aa];refine Go.ak.e2 d ?_;simp[e,aa];exact rd (i+1) ⟨by omega,i2⟩
  ·simp[hm]at d i2;cases hk:py t.aR (vP (b.sp i).pt) p q
   ·rw[hk]at c i2;simp[hi,a,aa];refine Go.ak.e2 d ?_;simp[hi,a,aa];refine Go.ak.e3 c ?_;simp[e,aa];exact rd (i+1) ⟨by omega,by simpa using i2⟩
   ·rw[hk]at c i2;simp at i2;simp[hi,a,aa];refine Go.ak.e2 d ?_;simp[hi,a,aa];refine Go.ak.e3 c ?_;simp[hi,a,i2,aa]
 ·have:i=b.ar.length:=by omega
  subst this;simp[fZ]at i2;simp[i2,aa]
def jj(t b:aB)(aG aH:List Nat):PV:=.st 73 [cR t,.seq (b.ar.map bH),.str aG,.str aH]
@[simp] theorem aMD(t b:aB)(aG aH:List Nat):aL (jj t b aG aH)=.agg 73:=rfl
@[simp] theorem aK5(t b:aB)(aG aH:List Nat):bW (jj t b aG aH)=[cR t,.seq (b.ar.map bH),.str aG,.str aH]:=rfl
theorem wU(b:aB)(name:List Nat)(k:b.ar.length<=1000000):au prog 125 [.seq (b.ar.map bH),.str name] (.int .i64 (iN b name)):=by
 refine aI nf FX mix (by simp[f125]) ?_;simp[f125,aa];refine lp (α:=Nat) (fun i=>⟨[(5,.p (.int .i64 i)),(1,.p (.str name)),(0,.p (.seq (b.ar.map bH)))],[]⟩) (fun i=>i<=b.ar.length/\∀j,j<i->¬(b.sp j).name=name) (fun i=>b.ar.length-i) 0 (by simp) ?_;rintro i ⟨h,d⟩
 by_cases hi:i<b.ar.length
 ·have e:=aB.fe hi;have g:=b9 (i:=i) (by omega)
  by_cases a:(b.sp i).name=name
  ·have:iN b name=i:=by
    have:b.ar.findIdx? (fun s=>decide (s.name=name))=some i:=by
     rw[a4];refine⟨hi,by rw[aB.jz];simp[a],fun j c=>?_⟩;rw[aB.jz];simp[d j c]
    rw[iN,this]
   simp[hi,e,a,this,aa]
  ·simp[hi,e,a,g,aa];exact rd (i+1) ⟨hi,fun j c=>by
    by_cases f:j=i
    ·subst f;exact a
    ·exact d j (by omega)⟩
 ·have:i=b.ar.length:=by omega
  subst this;have:iN b name= -1:=by
   have:b.ar.findIdx? (fun s=>decide (s.name=name))=none:=by
    rw[a5];intro s hs;obtain⟨j,c,rfl⟩:=ay.1 hs;rw[aB.jz];simp[d j c]
   rw[iN,this]
  simp[this,aa]
def hasB(b:aB)(name:List Nat)(i:Nat):Prop:=iN b name=i/\i<b.ar.length/\dX b.ar name=some (b.sp i)
theorem wS(b:aB)(name:List Nat):(∃i,hasB b name i)\/(iN b name= -1/\dX b.ar name=none):=by
 cases h:b.ar.findIdx? (fun s=>decide (s.name=name))with
 |some i=>
  left;have c:=h;rw[a4]at c;obtain⟨a,d,e⟩:=c;refine⟨i,by rw[iN,h],a,?_⟩;rw[dX,List.find?_eq_some_iff_getElem];rw[aB.jz a]at d;exact⟨d,i,a,aB.jz a,fun j f=>by have:=e j f;simpa using this⟩
 |none=>
  right;refine⟨by rw[iN,h],?_⟩;rw[a5]at h;rw[dX,a1];intro s hs;have:=h s hs;simpa using this
def rU(r:Int)(a:V2)(n:Nat):V2:=a.add ((ru n).mul ((2*r:Int):Rat))
structure jv(t b:aB)(aG aH:List Nat)(i j:Nat):Prop where
 jQ:ia t=0
 tl:t.cs.length<=1000000
 L:v8 b
 Dr:∀s∈b.ar,bA 60 (vP s.pt)
 ci:hasB b aG i
 bj:hasB b aH j
theorem jv.at{t b:aB}{aG aH:List Nat}{i j:Nat}(h:jv t b aG aH i j){k:Nat}(hk:k<b.ar.length):eV (vP (b.sp k).pt)=ga (b.sp k).pt/\bA 60 (vP (b.sp k).pt):=by
 have m:=av (aB.fe hk);exact⟨(ud (h.L.sp _ m).2).1,h.Dr _ m⟩
theorem AB{n:Nat}:bA 8 (ru n):=xO (Bv (Nat.mod_lt _ (by decide))) _
theorem FO{r:Int}{a:V2}{n:Nat}(d:0<=r)(e:r<=1000)(b:bA 60 a):bA 90 (rU r a n):=by
 have c:bL 12 ((2*r:Int):Rat):=nR (by omega) (by decide);exact(aHh b (Ee AB c)).mono (by decide)
theorem XY(t b:aB)(aG aH:List Nat)(i j:Nat)(h:jv t b aG aH i j):au prog 134 [jj t b aG aH] (eV (vP (b.sp i).pt)):=by
 obtain⟨d,a,_⟩:=h.ci;have e:=h.L.sl;have k:=wU b aG (by omega);have c:=aB.fe a;rw[d]at k;rw[(h.at a).1];refine aI nf Gn mix (by simp[f134]) ?_;simp[f134,aa];refine Go.ak.e2 k ?_;simp[a,c,aa]
theorem FQ(t b:aB)(aG aH:List Nat)(i j:Nat)(h:jv t b aG aH i j):au prog 135 [jj t b aG aH] (eV (vP (b.sp j).pt)):=by
 obtain⟨d,a,_⟩:=h.bj;have e:=h.L.sl;have k:=wU b aH (by omega);have c:=aB.fe a;rw[d]at k;rw[(h.at a).1];refine aI nf Gm mix (by simp[f135]) ?_;simp[f135,aa];refine Go.ak.e2 k ?_;simp[a,c,aa]
theorem Yk(t b:aB)(aG aH:List Nat):au prog 137 [jj t b aG aH] (.seq [.str aG,.str aH]):=by
 refine aI nf Gj mix (by simp[f137]) ?_;simp[f137,aa]
theorem R8(t b:aB)(aG aH:List Nat)(i j n:Nat)(h:jv t b aG aH i j)(a:n<32):au prog 133 [jj t b aG aH,.int .i64 n] (eV (rU t.aR (vP (b.sp j).pt) n)):=by
 obtain⟨d,e⟩:=mU h.jQ;have k1:=FQ t b aG aH i j h;have k2:=Yc n a;have k3:=vB (2*t.aR) (by omega) (by omega);have c:bL 12 ((2*t.aR:Int):Rat):=nR (by omega) (by decide);have k4:=Rl (vP (b.sp j).pt) (ru n) ((2*t.aR:Int):Rat) ((h.at h.bj.2.1).2.mono (by decide)) (AB.mono (by decide)) (c.mono (by decide));have w:ap.wrap (2*t.aR)=2*t.aR:=aP _ (by omega) (by omega);rw[rU];refine aI nf Gp mix (by simp[f133]) ?_;generalize (vP (b.sp j).pt).add ((ru n).mul ((2*t.aR:Int):Rat))=R at*;generalize ru n=u at*;generalize vP (b.sp j).pt=p at*;generalize bg ((2*t.aR:Int):Rat)=x at*;simp[f133,aa];refine Go.ak.e1 k1 ?_;simp[aa];refine Go.ak.e1 k2 ?_;simp[w,aa];refine Go.ak.e1 k3 ?_;simp[aa];refine Go.ak.e3 k4 ?_;simp[aa]
def Eb(t b:aB)(aG aH:List Nat)(cp c a:V2):List Nat×Int:=
 if t.on a<=0 then([],16)
 else if dF ((a.sub cp).dot (c.sub a))<=0 then([],18)
 else if fZ t.aR cp a [aG,aH] b.ar=[]then([],0)else(fZ t.aR cp a [aG,aH] b.ar,30)
def iu(t b:aB)(aG aH:List Nat)(i j n:Nat):List Nat×Int:=
 Eb t b aG aH (vP (b.sp i).pt) (vP (b.sp j).pt) (rU t.aR (vP (b.sp j).pt) n)
theorem F1(t b:aB)(aG aH:List Nat)(i j n:Nat)(h:jv t b aG aH i j)(l:n<32):
 au prog 39 [jj t b aG aH,.int .i64 n] (.aC [.str (iu t b aG aH i j n).1,.int .i64 (iu t b aG aH i j n).2]):=by
 obtain⟨u,v⟩:=mU h.jQ;obtain⟨_,_,m,_⟩:=wJ h.jQ;have p:=h.L.sl;have f:=(h.at h.ci.2.1).2;have e:=(h.at h.bj.2.1).2;have k1:=R8 t b aG aH i j n h l;have k2:=XY t b aG aH i j h;have k3:=FQ t b aG aH i j h;have k4:=Yk t b aG aH;have c:=FO (n:=n) (r:=t.aR) (by omega) (by omega) e;rw[iu];generalize rU t.aR (vP (b.sp j).pt) n=a at*;generalize vP (b.sp j).pt=d at*;generalize vP (b.sp i).pt=cp at*;have g:=gv c f;have k:=gv e c;have k5:=Dt t a h.tl m (c.mono (by decide));have k6:=px a cp (c.mono (by decide)) (f.mono (by decide));have k7:=px d a (e.mono (by decide)) (c.mono (by decide));have k8:=CM (a.sub cp) (d.sub a) (g.mono (by decide)) (k.mono (by decide));have k9:=s9 ((a.sub cp).dot (d.sub a)) ((kN g k).mono (by decide));have pE:=RY t b cp a [aG,aH] (by omega) (by omega) (by omega) (fun s hs=>(h.L.sp s hs).2) (fun s hs=>(h.Dr s hs).mono (by decide)) (by simp) (f.mono (by decide)) (c.mono (by decide));have o:au prog 136 [cR t,.seq (b.ar.map bH),.st 126 [eV cp,eV a],.seq [.str aG,.str aH]] (.str (fZ t.aR cp a [aG,aH] b.ar)):=pE;rw[Eb];clear pE g k c e f;generalize fZ t.aR cp a [aG,aH] b.ar=R at*;generalize dF ((a.sub cp).dot (d.sub a))=s1 at*;generalize (a.sub cp).dot (d.sub a)=q at*;generalize a.sub cp=v1 at*;generalize d.sub a=v2 at*;generalize t.on a=y at*;refine aI nf Pn mix (by simp[f39]) ?_;simp[f39,aa];refine Go.ak.c2 k1 ?_;simp[aa];refine Go.ak.c2 k5 ?_
 by_cases c1:y<=0
 ·rw[if_pos c1];simp[c1,aa]
 rw[if_neg c1];simp[c1,aa];refine Go.ak.e1 k2 ?_;simp[aa];refine Go.ak.e2 k6 ?_;simp[aa];refine Go.ak.e1 k3 ?_;simp[aa];refine Go.ak.e2 k7 ?_;simp[aa];refine Go.ak.e2 k8 ?_;simp[aa];refine Go.ak.e1 k9 ?_
 by_cases c2:s1<=0
 ·rw[if_pos c2];simp[c2,aa]
 rw[if_neg c2];simp[c2,aa];refine Go.ak.e1 k2 ?_;simp[aa];refine Go.ak.e1 k4 ?_;simp[aa];refine Go.ak.e4 o ?_
 by_cases c3:R=[]
 ·rw[if_pos c3];simp[c3,aa]
 ·rw[if_neg c3];simp[c3,aa]
def gf(t b:aB)(aG aH:List Nat)(i j m:Nat):List Nat:=(bo m).filter (fun n=>decide ((iu t b aG aH i j n).2=0))
theorem E8(t b:aB)(aG aH:List Nat)(i j m:Nat):gf t b aG aH i j (m+1)=gf t b aG aH i j m++(if(iu t b aG aH i j m).2=0 then[m]else[]):=by
 rw[gf,List.range_succ,List.filter_append,<-gf]
 by_cases h:(iu t b aG aH i j m).2=0
 ·simp[h]
 ·simp[h]
theorem Ax(t b:aB)(aG aH:List Nat)(i j m:Nat):(gf t b aG aH i j m).length<=m:=by
 have:=List.length_filter_le (fun n=>decide ((iu t b aG aH i j n).2=0)) (bo m);rw[List.length_range]at this;exact this
def kZ(n:Nat):PV:=.int .i64 n
theorem X7(t b:aB)(aG aH:List Nat)(i j:Nat)(h:jv t b aG aH i j):
 au prog 41 [jj t b aG aH] (.seq ((gf t b aG aH i j 32).map kZ)):=by
 have a:=fun n f=>F1 t b aG aH i j n h f;refine aI nf Pp mix (by simp[f41]) ?_;simp[f41,aa];refine lp (α:=Nat) (fun m=>⟨[(4,.p (.int .i64 m)),(3,.sl 1 (gf t b aG aH i j m).length 1 0 (gf t b aG aH i j m).length),(1,.ptr 0 [])],[.box false (.p (jj t b aG aH)),.arr .grow (gf t b aG aH i j m).length 1 ((gf t b aG aH i j m).map (AV.p∘kZ))]⟩) (fun m=>m<=32) (fun m=>32-m) 0 (by simp) ?_ (he:=by simp[gf]) (hh:=by simp[gf]);rintro m m1
 by_cases hm:m<32
 ·have d:=b9 (i:=m) (by omega);have hs:=E8 t b aG aH i j m;have g:=Ax t b aG aH i j m;have k:(1000:Nat)<cW:=by decide
  have a:=a m hm;generalize (iu t b aG aH i j m).2=e at*;generalize (iu t b aG aH i j m).1=l at*;have c:(m:Int)<32:=by omega
  by_cases he:e=0
  ·rw[if_pos he]at hs;simp[c,aa];refine Go.ak.c2 a ?_;simp[he,d,aa];exact⟨by omega,rd (m+1) (by omega) (he:=by simp[hs]) (hh:=by simp[hs,kZ])⟩
  ·rw[if_neg he,bi]at hs;simp[c,aa];refine Go.ak.c2 a ?_;simp[he,d,aa];exact rd (m+1) (by omega) (he:=by simp[hs]) (hh:=by simp[hs])
 ·have:m=32:=by omega
  subst this;simp[aa]
def jk(t b:aB)(aG aH:List Nat):PV:=.st 80 [cj t,.seq (b.ar.map bH),.str aG,.str aH]
@[simp] theorem aMC(t b:aB)(aG aH:List Nat):aL (jk t b aG aH)=.agg 80:=rfl
@[simp] theorem aK4(t b:aB)(aG aH:List Nat):bW (jk t b aG aH)=[cj t,.seq (b.ar.map bH),.str aG,.str aH]:=rfl
@[simp] theorem aKf:prog.cellsOf 80=7:=by kernel_rfl
def fA(t b:aB)(aG aH:List Nat):Int:=
 if gI t b≠0 then gI t b else if dX b.ar aG=none\/dX b.ar aH=none then 10 else if aG=aH then 9 else 0
theorem aIq(t b:aB)(aG aH:List Nat)(h:gI t b=0):fA t b aG aH=bK [aU (!(dX b.ar aG).isSome||!(dX b.ar aH).isSome) 10,aU (aG==aH) 9]:=by
 rw[fA,if_neg (by simp[h])];cases dX b.ar aG<;>cases dX b.ar aH<;>by_cases e:aG=aH<;>simp[bK,aU,e]
theorem R3(t b:aB)(aG aH:List Nat)(k:ib t)(c:ic b):au prog 34 [jj t b aG aH] (.int .i64 (fA t b aG aH)):=by
 have k1:=Az t b k c;have k2:=wU b aG c.sl;have k3:=wU b aH c.sl;have w1:ap.wrap (-1)= -1:=rfl;refine aI nf Pk mix (by simp[f34]) ?_;rw[fA]
 by_cases h:gI t b=0
 case neg=>
  rw[if_pos h];generalize gI t b=e at*;simp[f34,aa];refine Go.ak.c2 k1 ?_;simp[h,aa]
 rw[h]at k1;rw[if_neg (by simp[h])];rcases wS b aG with⟨i,i1,i2,i3⟩|⟨i1,i3⟩
 case inr=>
  rw[i1]at k2;rw[if_pos (.inl i3)];simp[f34,aa];refine Go.ak.c2 k1 ?_;simp[aa];refine Go.ak.c2 k2 ?_;simp[aa]
 have a:¬(i:Int)<0:=by omega
 rw[i1]at k2;rcases wS b aH with⟨j,d,l,f⟩|⟨d,f⟩
 case inr=>
  rw[d]at k3;rw[if_pos (.inr f)];simp[f34,aa];refine Go.ak.c2 k1 ?_;simp[aa];refine Go.ak.c2 k2 ?_;simp[a,aa];refine Go.ak.c2 k3 ?_;simp[aa]
 have g:¬(j:Int)<0:=by omega
 rw[d]at k3;rw[if_neg (by rw[i3,f];simp)]
 by_cases e:aG=aH
 ·rw[if_pos e];simp[f34,aa];refine Go.ak.c2 k1 ?_;simp[aa];refine Go.ak.c2 k2 ?_;simp[a,aa];refine Go.ak.c2 k3 ?_;simp[g,e,aa]
 ·rw[if_neg e];simp[f34,aa];refine Go.ak.c2 k1 ?_;simp[aa];refine Go.ak.c2 k2 ?_;simp[a,aa];refine Go.ak.c2 k3 ?_;simp[g,e,aa]
theorem AA(t b:aB)(aG aH:List Nat)(g:ib t)(a:ic b):au prog 38 [jk t b aG aH] (.int .i64 (fA t b aG aH)):=by
 have k1:=Rw t b g a
 by_cases h:gI t b=0
 case neg=>
  rw[fA,if_pos h];refine aI nf DI mix (by simp[f38]) ?_;generalize gI t b=e at*;simp[f38,aa];refine Go.ak.c2 k1 ?_;simp[h,aa]
 obtain⟨d,f,_⟩:=AG a h;obtain⟨l,m⟩:=mU d;have k2:=FP t b (by omega) (by omega) f;have k3:=oK (!(dX b.ar aG).isSome||!(dX b.ar aH).isSome) 10;have k4:=oK (aG==aH) 9;have k5:=xt [aU (!(dX b.ar aG).isSome||!(dX b.ar aH).isSome) 10,aU (aG==aH) 9] (by simp);rw[<-aIq t b aG aH h]at k5;rw[h]at k1;have i:au prog 73 [.seq [.int .i64 (aU (!(dX b.ar aG).isSome||!(dX b.ar aH).isSome) 10),.int .i64 (aU (aG==aH) 9)]] (.int .i64 (fA t b aG aH)):=by simpa using k5
 clear k5;refine aI nf DI mix (by simp[f38]) ?_;generalize fA t b aG aH=E at*;generalize j:aU (aG==aH) 9=w1 at*;generalize k:aU (!(dX b.ar aG).isSome||!(dX b.ar aH).isSome) 10=n at*;cases hc:dX b.ar aG<;>cases c:dX b.ar aH
 all_goals
  rw[hc,c]at k3;simp at k3;simp[f38,aa];refine Go.ak.c2 k1 ?_;simp[aa];refine Go.ak.c2 k2 ?_;simp[hc,c,aa];refine Go.ak.e2 k3 ?_;simp[aa];refine Go.ak.e2 k4 ?_;simp[aa];refine ep i (by simp;first|exact⟨rfl,rfl⟩|rfl) (by simp;first|exact⟨rfl,rfl⟩|rfl) ?_;simp[aa];rfl
noncomputable def jK(t b:aB)(aG aH:List Nat):PV:=.st 196 [mj t b,jk t b aG aH]
@[simp] theorem aMK(t b:aB)(aG aH:List Nat):aL (jK t b aG aH)=.agg 196:=rfl
@[simp] theorem aLb(t b:aB)(aG aH:List Nat):bW (jK t b aG aH)=[mj t b,jk t b aG aH]:=rfl
def vM(t b:aB)(j n:Nat):NV:=(NV.from (b.sp j).pt).add ((NV.eJ (n/8) (jJ (n% 8))).times (.int (2*t.aR)))
theorem Zt(t b:aB)(j n:Nat):(vM t b j n).q=rU t.aR (vP (b.sp j).pt) n:=by
 rw[vM,NV.Gw,NV.Aq,NV.yV,CQ];rfl
theorem YD(t b:aB)(aG aH:List Nat)(i j n:Nat)(h:jv t b aG aH i j)(g:n<32):
 au prog 200 [jK t b aG aH,.int .i64 n] (b8 (vM t b j n)):=by
 obtain⟨m,o⟩:=mU h.jQ;have e:=(h.at h.bj.2.1).2;have c:bA 8 (NV.eJ (n/8) (jJ (n% 8))).q:=by rw[NV.yV,CQ];exact AB
 have a:bL 12 (NF.int (2*t.aR)).q:=nR (by omega) (by decide);have k1:=YN n g;have k2:=kY (2*t.aR) (by omega) (by omega);have k3:=Ma (NV.eJ (n/8) (jJ (n% 8))) (.int (2*t.aR)) (c.mono (by decide)) (a.mono (by decide));have d:bA 20 ((NV.eJ (n/8) (jJ (n% 8))).times (.int (2*t.aR))).q:=by rw[NV.Aq];exact Ee c a
 have k4:=YO (.from (b.sp j).pt) ((NV.eJ (n/8) (jJ (n% 8))).times (.int (2*t.aR))) (by rw[kl];exact e.mono (by decide)) (d.mono (by decide));have w:ap.wrap (2*t.aR)=2*t.aR:=aP _ (by omega) (by omega);have f:=h.bj.2.2;rw[vM];clear c a d e;generalize (NV.eJ (n/8) (jJ (n% 8))).times (.int (2*t.aR))=v1 at*;generalize NV.eJ (n/8) (jJ (n% 8))=v2 at*;generalize k:NV.add (NV.from (b.sp j).pt) v1=v3 at*;generalize NF.int (2*t.aR)=l at*;refine aI nf Gf mix (by simp[f200]) ?_;simp[f200,f,aa];refine Go.ak.e1 k1 ?_;simp[w,aa];refine Go.ak.e1 k2 ?_;simp[aa];refine Go.ak.e2 k3 ?_;simp[aa];refine Go.ak.e2 k4 ?_;simp[aa]
theorem ZZ(t b:aB)(aG aH:List Nat)(a:NV)(d:t.cs.length<=1000000)(e:∀p∈t.cs,dW p)(c:bA 3000 a.q):
 cE prog 201 [.box false (.p (jK t b aG aH)),.box false (.p (b8 a))] [.ptr 0 [],.ptr 1 []] [.box false (.p (jK t b aG aH)),.box false (.p (b8 a))] (.p (.int .i64 (aU (!decide (0<t.on a.q)) 16))):=by
 have k1:=RS t a d e c;have k2:=oK (!decide (0<t.on a.q)) 16;generalize decide (0<t.on a.q)=y at*;generalize hw:aU (!y) 16=w at*;refine fF nf Ge mix (by simp[f201]) ?_;simp[f201,aa];refine Go.ak.c2 k1 ?_;simp[aa];refine Go.ak.c2 k2 ?_;simp[aa]
theorem Z0(a c d:NV)(b:bA 300 a.q)(hc:bA 300 c.q)(g:bA 300 d.q):
 cE prog 203 [.box false (.p (b8 a)),.box false (.p (b8 c)),.box false (.p (b8 d))] [.ptr 0 [],.ptr 1 [],.ptr 2 []] [.box false (.p (b8 a)),.box false (.p (b8 c)),.box false (.p (b8 d))] (.p (.int .i64 (aU (decide (dF ((a.q.sub c.q).dot (d.q.sub a.q))<=0)) 18))):=by
 have e:=gv b hc;have f:=gv g b;rw[<-NV.fQ]at e f;have k1:=rz a c (b.mono (by decide)) (hc.mono (by decide));have k2:=rz d a (g.mono (by decide)) (b.mono (by decide));have k3:=Dj (a.sub c) (d.sub a) (e.mono (by decide)) (f.mono (by decide));have k4:=tf ((a.sub c).dot (d.sub a));rw[NV.kj,NV.fQ,NV.fQ,<-dF]at k4;have k5:=oK (decide (dF ((a.q.sub c.q).dot (d.q.sub a.q))<=0)) 18;generalize dF ((a.q.sub c.q).dot (d.q.sub a.q))=y at*;generalize hw:aU (decide (y<=0)) 18=w at*;generalize (a.sub c).dot (d.sub a)=h at*;clear e f;generalize a.sub c=v1 at*;generalize d.sub a=v2 at*;refine fF nf Gc mix (by simp[f203]) ?_;simp[f203,aa];refine Go.ak.e2 k1 ?_;simp[aa];refine Go.ak.e2 k2 ?_;simp[aa];refine Go.ak.e2 k3 ?_;simp[aa];refine Go.ak.e1 k4 ?_;simp[aa];refine Go.ak.e2 k5 ?_;simp[aa]
theorem Z1(t b:aB)(aG aH:List Nat)(a c:NV)(i j:Nat)(h:jv t b aG aH i j)(d:bA 300 a.q)(hc:bA 300 c.q):
 cE prog 204 [.box false (.p (jK t b aG aH)),.box false (.p (b8 c)),.box false (.p (b8 a)),.box false (.p (.str []))] [.ptr 0 [],.ptr 1 [],.ptr 2 [],.ptr 3 []]
  [.box false (.p (jK t b aG aH)),.box false (.p (b8 c)),.box false (.p (b8 a)),.box false (.p (.str (fZ t.aR c.q a.q [aG,aH] b.ar)))] (.p (.int .i64 (aU (!(fZ t.aR c.q a.q [aG,aH] b.ar==[])) 30))):=by
 obtain⟨f,g⟩:=mU h.jQ;have k1:=RD t b c a [aG,aH] (by omega) (by omega) h.L (fun s hs=>(h.Dr s hs).mono (by decide)) (by simp) hc d;have e:au prog 161 [mj t b,b8 c,b8 a,.seq [.str aG,.str aH]] (.str (fZ t.aR c.q a.q [aG,aH] b.ar)):=k1;have k2:=oK (!(fZ t.aR c.q a.q [aG,aH] b.ar==[])) 30;clear k1;generalize fZ t.aR c.q a.q [aG,aH] b.ar=R at*;generalize hw:aU (!(R==[])) 30=w at*;refine fF nf Gb mix (by simp[f204]) ?_;simp[f204,aa];refine cp e (by simp;first|exact⟨rfl,rfl⟩|rfl) ?_;simp[aa];refine Go.ak.c2 k2 ?_;simp[aa];exact dc.og (by simp) (by simp) (by simp) (by simp) (by simp)
def aJP:PV:=.st 54 [.aO,.int .i64 0,.aO,.aO]
def Ec:PV:=.st 80 [aJP,.aO,.str [],.str []]
def wA:PV:=.st 196 [ub,Ec]
@[simp] theorem aMX:aL Ec=.agg 80:=rfl
@[simp] theorem aMY:aL wA=.agg 196:=rfl
@[simp] theorem aLg:bW wA=[ub,Ec]:=rfl
@[simp high] theorem aNY:ct prog 197=some wA:=by kernel_rfl
theorem AE(t b:aB)(aG aH:List Nat)(i:ib t)(c:ic b)(h:fA t b aG aH=0):au prog 126 [jk t b aG aH] (.aC [jK t b aG aH,.int .i64 0]):=by
 have k1:=AA t b aG aH i c;have a:=h;rw[fA]at a;have g:gI t b=0:=by
  by_cases e:gI t b=0
  ·exact e
  ·rw[if_pos e]at a;exact a
 obtain⟨d,f,_⟩:=AG c g;obtain⟨j,k⟩:=mU d;have k2:=FP t b (by omega) (by omega) f;rw[h]at k1;refine aI nf AL mix (by simp[f126]) ?_;rw[jK];simp[f126,aa];refine Go.ak.c1 k1 ?_;simp[aa];refine Go.ak.e2 k2 ?_;simp[aa]
theorem FN(t b:aB)(aG aH:List Nat)(c:ib t)(a:ic b)(h:¬fA t b aG aH=0):au prog 126 [jk t b aG aH] (.aC [wA,.int .i64 (fA t b aG aH)]):=by
 have k1:=AA t b aG aH c a;generalize fA t b aG aH=e at*;rw[wA];refine aI nf AL mix (by simp[f126]) ?_;simp[f126,aa];refine Go.ak.c1 k1 ?_;simp[h,aa]
theorem OG(t b:aB)(aG aH:List Nat)(i j n:Nat)(h:jv t b aG aH i j)(m:n<32):
 au prog 127 [jK t b aG aH,.int .i64 n] (.aC [.str (iu t b aG aH i j n).1,.int .i64 (iu t b aG aH i j n).2]):=by
 obtain⟨w,x⟩:=mU h.jQ;obtain⟨_,_,o,_⟩:=wJ h.jQ;have f:=(h.at h.ci.2.1).2;have e:=(h.at h.bj.2.1).2;have k1:=YD t b aG aH i j n h m;have g:=h.ci.2.2;have l:=h.bj.2.2;have d:=FO (n:=n) (r:=t.aR) (by omega) (by omega) e;rw[iu];rw[<-Zt]at d⊢;generalize vM t b j n=a at*;have g1:=ZZ t b aG aH a h.tl o (d.mono (by decide));have g2:=Z0 a (.from (b.sp i).pt) (.from (b.sp j).pt) (d.mono (by decide)) (by rw[kl];exact f.mono (by decide)) (by rw[kl];exact e.mono (by decide));have g3:=Z1 t b aG aH a (.from (b.sp i).pt) i j h (d.mono (by decide)) (by rw[kl];exact f.mono (by decide));rw[kl,kl]at g2;rw[kl]at g3;rw[Eb];generalize fZ t.aR (vP (b.sp i).pt) a.q [aG,aH] b.ar=R at*;generalize dF ((a.q.sub (vP (b.sp i).pt)).dot ((vP (b.sp j).pt).sub a.q))=s1 at*;generalize t.on a.q=y at*;have s:ap.wrap 1=1:=rfl;have u:ap.wrap 2=2:=rfl;have v:ap.wrap 3=3:=rfl;refine aI nf FW mix (by simp[f127]) ?_;simp[f127,aa];refine Go.ak.e2 k1 ?_;simp[g,l,aa];refine⟨by repeat' first|rfl|apply ab,?_⟩;refine lp (α:=Nat) (fun k=>⟨[(37,.p (.int .i64 k)),(36,.p (.int .i64 3)),(35,.sl 5 0 1 0 3),(11,.p (.int .i64 0)),(9,.ptr 4 [])],
  [.box false (.p (jK t b aG aH)),.box false (.p (b8 a)),.box false (.p (b8 (.from (b.sp i).pt))),.box false (.p (b8 (.from (b.sp j).pt))),.box false (.p (.str [])),
   .arr .exact 0 1 [.func 201 [] [.ptr 0 [],.ptr 1 []],.func 203 [] [.ptr 1 [],.ptr 2 [],.ptr 3 []],.func 204 [] [.ptr 0 [],.ptr 2 [],.ptr 1 [],.ptr 4 []]]]⟩)
  (fun k=>k<=3/\(0<k->0<y)/\(1<k->¬s1<=0)/\(2<k->R=[])) (fun k=>3-k) 0 (by simp) ?_
 rintro k ⟨k0,k1,k2,k3⟩;rcases k with _|_|_|k
 ·by_cases c1:0<y
  ·have c:¬y<=0:=by omega
   simp[aU,c1]at g1;simp;refine cf g1 [0,1] ?_;simp[bc,sig,s];exact rd 1 ⟨by omega,fun _=>c1,fun h=>by omega,fun h=>by omega⟩
  ·have c:y<=0:=by omega
   simp[aU,c1]at g1;rw[if_pos c];simp;refine cf g1 [0,1] ?_;simp[bc,sig]
 ·have c1:=k1 (by omega);have c:¬y<=0:=by omega
  rw[if_neg c]
  by_cases c2:s1<=0
  ·simp[aU,c2]at g2;rw[if_pos c2];simp;refine cf g2 [1,2,3] ?_;simp[bc,sig]
  ·simp[aU,c2]at g2;simp;refine cf g2 [1,2,3] ?_;simp[bc,sig,u];exact rd 2 ⟨by omega,fun _=>c1,fun _=>c2,fun h=>by omega⟩
 ·have c1:=k1 (by omega);have c:¬y<=0:=by omega
  have c2:=k2 (by omega);rw[if_neg c,if_neg c2]
  by_cases c3:R=[]
  ·simp[aU,c3]at g3;rw[if_pos c3];simp;refine cf g3 [0,2,1,4] ?_;simp[bc,sig,v];exact rd 3 ⟨by omega,fun _=>c1,fun _=>c2,fun _=>c3⟩
  ·simp[aU,c3]at g3;rw[if_neg c3];simp;refine cf g3 [0,2,1,4] ?_;simp[bc,sig]
 ·have hk:k=0:=by omega
  subst hk;have c1:=k1 (by omega);have c:¬y<=0:=by omega
  have c2:=k2 (by omega);have c3:=k3 (by omega);rw[if_neg c,if_neg c2,if_pos c3];simp
open Go.Proofs
theorem Yt(t b:aB)(aG aH:List Nat)(i j n:Nat)(h:jv t b aG aH i j)(a:n<32):
 au prog 130 [jK t b aG aH,.int .i64 n] (.bool (decide ((iu t b aG aH i j n).2=0))):=by
 have k:=OG t b aG aH i j n h a;generalize (iu t b aG aH i j n).2=e at*;generalize (iu t b aG aH i j n).1=c at*;refine aI nf Gs mix (by simp[f130]) ?_
 by_cases he:e=0
 ·simp[f130,aa];refine Go.ak.c2 k ?_;simp[he,aa]
 ·simp[f130,aa];refine Go.ak.c2 k ?_;simp[he,aa]
theorem RC(t b:aB)(aG aH:List Nat)(i j:Nat)(h:jv t b aG aH i j):
 au prog 129 [jK t b aG aH,.int .i64 32,.func 130 [] []] (.seq ((gf t b aG aH i j 32).map kZ)):=by
 have a:=fun n f=>Yt t b aG aH i j n h f;refine aI nf Gt mix (by simp[f129]) ?_;simp[f129,aa];refine lp (α:=Nat) (fun m=>⟨[(10,.p (.int .i64 m)),(9,.p (.int .i64 32)),(7,.sl 1 (gf t b aG aH i j m).length 1 0 (gf t b aG aH i j m).length),(3,.ptr 0 []),(2,.p (.func 130 [] []))],[.box false (.p (jK t b aG aH)),.arr .grow (gf t b aG aH i j m).length 1 ((gf t b aG aH i j m).map (AV.p∘kZ))]⟩) (fun m=>m<=32) (fun m=>32-m) 0 (by simp) ?_ (he:=by simp[gf]) (hh:=by simp[gf]);rintro m m1
 by_cases hm:m<32
 ·have d:=b9 (i:=m) (by omega);have hs:=E8 t b aG aH i j m;have g:=Ax t b aG aH i j m;have k:(1000:Nat)<cW:=by decide
  have a:=a m hm;generalize (iu t b aG aH i j m).2=e at*;have c:(m:Int)<32:=by omega
  by_cases he:e=0
  ·rw[if_pos he]at hs;simp[c,aa];refine Go.ak.c2 a ?_;simp[he,d,aa];exact⟨by omega,rd (m+1) (by omega) (he:=by simp[hs]) (hh:=by simp[hs,kZ])⟩
  ·rw[if_neg he,bi]at hs;simp[c,aa];refine Go.ak.c2 a ?_;simp[he,d,aa];exact rd (m+1) (by omega) (he:=by simp[hs]) (hh:=by simp[hs])
 ·have:m=32:=by omega
  subst this;simp[aa]
theorem Ye(t b:aB)(aG aH:List Nat)(i j:Nat)(d:ib t)(c:ic b)(h:fA t b aG aH=0)(a:jv t b aG aH i j):
 au prog 37 [jk t b aG aH] (.aC [.seq ((gf t b aG aH i j 32).map kZ),.int .i64 0]):=by
 have k1:=AE t b aG aH d c h;have k2:=RC t b aG aH i j a;generalize gf t b aG aH i j 32=L at*;refine aI nf DH mix (by simp[f37]) ?_;simp[f37,aa];refine Go.ak.c1 k1 ?_;simp[aa];refine Go.ak.c3 k2 ?_;simp[aa]
theorem RV(t b:aB)(aG aH:List Nat)(c:ib t)(a:ic b)(h:¬fA t b aG aH=0):
 au prog 37 [jk t b aG aH] (.aC [.seq [],.int .i64 (fA t b aG aH)]):=by
 have k1:=FN t b aG aH c a h;generalize fA t b aG aH=e at*;refine aI nf DH mix (by simp[f37]) ?_;simp[f37,aa];refine Go.ak.c1 k1 ?_;simp[h,aa]
theorem Yf(t b:aB)(aG aH:List Nat)(i j n:Nat)(k:ib t)(f:ic b)(h:fA t b aG aH=0)(d:jv t b aG aH i j)(g:n<32):
 au prog 35 [jk t b aG aH,.int .i64 n] (.aC [.str (iu t b aG aH i j n).1,.int .i64 (iu t b aG aH i j n).2]):=by
 have k1:=AE t b aG aH k f h;have k2:=oK false 10;have k3:=xt [0,aU false 10] (by simp);have l:au prog 73 [.seq [.int .i64 0,.int .i64 (aU false 10)]] (.int .i64 0):=by simpa[bK,aU]using k3
 have k4:=OG t b aG aH i j n d g;generalize (iu t b aG aH i j n).2=e at*;generalize (iu t b aG aH i j n).1=m at*;have a:¬(n:Int)<0:=by omega
 have c:¬(32:Int)<=n:=by omega
 generalize hw:aU false 10=w at*;refine aI nf wT mix (by simp[f35]) ?_;simp[f35,aa];refine Go.ak.c1 k1 ?_;simp[a,c,aa];refine Go.ak.c2 k2 ?_;simp[aa];refine cp l (by simp;first|exact⟨rfl,rfl⟩|rfl) ?_;simp[aa];refine Go.ak.c2 k4 ?_;simp[aa]
theorem Yh(t b:aB)(aG aH:List Nat)(n:Int)(e:ib t)(d:ic b)(h:fA t b aG aH=0)(f:n<0\/32<=n):
 au prog 35 [jk t b aG aH,.int .i64 n] (.aC [.str [],.int .i64 10]):=by
 have k1:=AE t b aG aH e d h;have k2:=oK true 10;have k3:=xt [0,aU true 10] (by simp);have a:au prog 73 [.seq [.int .i64 0,.int .i64 (aU true 10)]] (.int .i64 10):=by simpa[bK,aU]using k3
 generalize hw:aU true 10=w at*;refine aI nf wT mix (by simp[f35]) ?_
 by_cases d1:n<0
 ·simp[f35,aa];refine Go.ak.c1 k1 ?_;simp[d1,aa];refine Go.ak.c2 k2 ?_;simp[aa];refine cp a (by simp;first|exact⟨rfl,rfl⟩|rfl) ?_;simp[aa]
 ·have c:32<=n:=by omega
  simp[f35,aa];refine Go.ak.c1 k1 ?_;simp[d1,c,aa];refine Go.ak.c2 k2 ?_;simp[aa];refine cp a (by simp;first|exact⟨rfl,rfl⟩|rfl) ?_;simp[aa]
theorem Yg(t b:aB)(aG aH:List Nat)(n:Int)(d:ib t)(c:ic b)(h:¬fA t b aG aH=0):
 au prog 35 [jk t b aG aH,.int .i64 n] (.aC [.str [],.int .i64 (fA t b aG aH)]):=by
 have k1:=FN t b aG aH d c h;generalize fA t b aG aH=e at*;have k2:=fun x=>oK x 10;have k3:=fun x=>xt [e,aU x 10] (by simp);have a:∀x,au prog 73 [.seq [.int .i64 e,.int .i64 (aU x 10)]] (.int .i64 e):=fun x=>by
  have:=k3 x;simpa[bK,h]using this
 refine aI nf wT mix (by simp[f35]) ?_
 by_cases d1:n<0
 ·simp[f35,aa];refine Go.ak.c1 k1 ?_;simp[d1,aa];refine Go.ak.c2 (k2 true) ?_;simp[aa];refine cp (a true) (by simp;first|exact⟨rfl,rfl⟩|rfl) ?_;simp[h,aa]
 ·by_cases d2:32<=n
  ·simp[f35,aa];refine Go.ak.c1 k1 ?_;simp[d1,d2,aa];refine Go.ak.c2 (k2 true) ?_;simp[aa];refine cp (a true) (by simp;first|exact⟨rfl,rfl⟩|rfl) ?_;simp[h,aa]
  ·simp[f35,aa];refine Go.ak.c1 k1 ?_;simp[d1,d2,aa];refine Go.ak.c2 (k2 false) ?_;simp[aa];refine cp (a false) (by simp;first|exact⟨rfl,rfl⟩|rfl) ?_;simp[h,aa]
open Go.Proofs
def oh(n:Nat)(l:List cB):Bool:=!((decide (n<l.length)&&decide (l.length<=24))||decide (26<l.length))&&l.all gZ
theorem Fg(b:aB)(n:Nat)(v:b.ar.length<=1000000)(w:n<=1000):au prog 122 [.seq (b.ar.map bH),.int .i64 n] (.bool (oh n b.ar)):=by
 refine aI nf F0 mix (by simp[f122]) ?_;have o:oh n b.ar=(!((decide (n<b.ar.length)&&decide (b.ar.length<=24))||decide (26<b.ar.length))&&b.ar.all gZ):=rfl;have tail:(n<b.ar.length->¬b.ar.length<=24)->¬26<b.ar.length->oh n b.ar=b.ar.all gZ:=fun d a=>by
  rw[o]
  by_cases h:n<b.ar.length
  ·have:=d h;simp[h,this,a]
  ·simp[h,a]
 have loop:(n<b.ar.length->¬b.ar.length<=24)->¬26<b.ar.length->∀i,i<b.ar.length->(gZ (b.sp i)=false->oh n b.ar=false):=fun d a i hi h=>by
  rw[tail d a];exact iW (aB.fe hi) h
 generalize oh n b.ar=R at*
 by_cases c1:n<b.ar.length/\b.ar.length<=24
 ·have z:(n:Int)<b.ar.length:=by omega
  have e:(b.ar.length:Int)<=24:=by omega
  have l:R=false:=by rw[o];simp[c1]
  simp[f122,aa,c1.1,e,l]
 by_cases c2:26<b.ar.length
 ·have g:(26:Int)<b.ar.length:=by omega
  have e:¬(b.ar.length:Int)<=24:=by omega
  have l:R=false:=by rw[o];simp[c2]
  by_cases c3:n<b.ar.length
  ·simp[f122,aa,c3,e,g,l]
  ·simp[f122,aa,c3,g,l]
 have g:¬(26:Int)<b.ar.length:=by omega
 have tl:=tail (fun d a=>c1 ⟨d,a⟩) c2;have j:=loop (fun d a=>c1 ⟨d,a⟩) c2;clear tail loop o
 by_cases c3:n<b.ar.length
 all_goals
  have e:n<b.ar.length->¬(b.ar.length:Int)<=24:=fun h=>by omega
  first
  |(have e:=e c3;simp[f122,aa,c3,e,g])
  |simp[f122,aa,c3,g]
  refine lp (α:=Nat) (fun i=>⟨[(5,.p (.int .i64 i)),(0,.p (.seq (b.ar.map bH)))],[]⟩) (fun i=>i<=b.ar.length/\(b.ar.take i).all gZ=true) (fun i=>b.ar.length-i) 0 (by simp) ?_;rintro i ⟨k1,k2⟩
  by_cases hi:i<b.ar.length
  ·have c:=aB.fe hi;have u:=b9 (i:=i) (by omega);have k:=mf (b.sp i).pt.x 40;have q:=mf (b.sp i).pt.y 40;have m:gZ (b.sp i)=(decide ((b.sp i).name.length<=40)&&(decide ((b.sp i).pt.x.length<=40)&&decide ((b.sp i).pt.y.length<=40))):=rfl;have j:=j i hi
   by_cases t:(b.sp i).name.length<=40
   case neg=>
    have f:(40:Int)<(b.sp i).name.length:=by omega
    have:=j (by rw[m];simp[t]);simp[hi,c,f,this,aa]
   have f:¬(40:Int)<(b.sp i).name.length:=by omega
   by_cases a2:(b.sp i).pt.x.length<=40
   case neg=>
    have r:¬((b.sp i).pt.x.length:Int)<=40:=by omega
    rw[decide_eq_false r]at k;have:=j (by rw[m];simp[a2]);simp[hi,c,f,aa];refine Go.ak.c2 k ?_;simp[this,aa]
   have r:((b.sp i).pt.x.length:Int)<=40:=by omega
   rw[decide_eq_true r]at k
   by_cases a3:(b.sp i).pt.y.length<=40
   case neg=>
    have s:¬((b.sp i).pt.y.length:Int)<=40:=by omega
    rw[decide_eq_false s]at q;have:=j (by rw[m];simp[a3]);simp[hi,c,f,aa];refine Go.ak.c2 k ?_;simp[hi,c,aa];refine Go.ak.c2 q ?_;simp[this,aa]
   have s:((b.sp i).pt.y.length:Int)<=40:=by omega
   rw[decide_eq_true s]at q;simp[hi,c,f,aa];refine Go.ak.c2 k ?_;simp[hi,c,aa];refine Go.ak.c2 q ?_;simp[u,aa];exact rd (i+1) ⟨hi,by rw[om c,k2,m];simp[t,a2,a3]⟩
  ·have:i=b.ar.length:=by omega
   subst this;rw[aT]at k2;rw[tl,k2];simp
def nX(p:gF)(D:Nat):Bool:=fq p.x D&&fq p.y D
def tJ(t b:aB)(n D:Nat):Bool:=
 ly t&&(oh n b.ar&&(decide (b.ar.length<=n)&&(decide (gI t b=0)&&(decide (t.ar.length<=8)&&(t.bm.all (fun p=>fq p.a D&&fq p.b D)&&(t.ar.all (fun s=>nX s.pt D)&&b.ar.all (fun s=>nX s.pt D)))))))
theorem X1(t b:aB)(n D:Nat)(J:ib t)(H:ic b)(I:n<=1000)(N:D<=1000):au prog 124 [cR t,.seq (b.ar.map bH),.int .i64 n,.int .i64 D] (.bool (tJ t b n D)):=by
 obtain⟨C,E,F,A,B⟩:=J;obtain⟨G,z⟩:=H;have j:=ES t C E F;have l:=Fg b n G I;have M:=Az t b ⟨C,E,F,A,B⟩ ⟨G,z⟩;refine aI nf FY mix (by simp[f124]) ?_;rw[tJ];generalize gI t b=e at*;cases v:ly t
 ·rw[v]at j;simp[f124,aa];refine Go.ak.c1 j ?_;simp[aa]
 rw[v]at j;cases w:oh n b.ar
 ·rw[w]at l;simp[f124,aa];refine Go.ak.c1 j ?_;simp[aa];refine Go.ak.c2 l ?_;simp[aa]
 rw[w]at l;simp[f124,aa];refine Go.ak.c1 j ?_;simp[aa];refine Go.ak.c2 l ?_
 by_cases m:b.ar.length<=n
 case neg=>
  have r:n<b.ar.length:=by omega
  simp[m,r,aa]
 have r:¬n<b.ar.length:=by omega
 simp[m,r,aa];refine Go.ak.c2 M ?_
 by_cases k:e=0
 case neg=>simp[k,aa]
 by_cases o:t.ar.length<=8
 case neg=>
  have u:(8:Int)<t.ar.length:=by omega
  simp[k,o,u,aa]
 have u:¬(8:Int)<t.ar.length:=by omega
 simp[k,o,u,aa];refine lp (α:=Nat) (fun i=>⟨[(9,.p (.int .i64 i)),(4,.ptr 0 []),(3,.p (.int .i64 D)),(1,.p (.seq (b.ar.map bH)))],[.box false (.p (cR t))]⟩) (fun i=>i<=t.bm.length/\(t.bm.take i).all (fun p=>fq p.a D&&fq p.b D)=true) (fun i=>t.bm.length-i) 0 (by simp) ?_;rintro i ⟨i1,i2⟩
 by_cases hi:i<t.bm.length
 ·have c:=aB.lg hi;have g:=b9 (i:=i) (by omega);obtain⟨_,K,L⟩:=A _ (av c);have d:=zx (t.pk i).a D K (by omega);have f2:=zx (t.pk i).b D L (by omega);have bad:(fq (t.pk i).a D&&fq (t.pk i).b D)=false->t.bm.all (fun p=>fq p.a D&&fq p.b D)=false:=fun h=>iW c h;cases f:fq (t.pk i).a D
  ·rw[f]at d;rw[bad (by rw[f];rfl)];simp[hi,c,aa];refine Go.ak.c2 d ?_;simp[aa]
  rw[f]at d;cases a2:fq (t.pk i).b D
  ·rw[a2]at f2;rw[bad (by rw[a2];simp)];simp[hi,c,aa];refine Go.ak.c2 d ?_;simp[hi,c,aa];refine Go.ak.c2 f2 ?_;simp[aa]
  rw[a2]at f2;simp[hi,c,aa];refine Go.ak.c2 d ?_;simp[hi,c,aa];refine Go.ak.c2 f2 ?_;simp[g,aa];exact rd (i+1) ⟨hi,by rw[om c,i2,f,a2];rfl⟩
 have:i=t.bm.length:=by omega
 subst this;rw[aT]at i2;rw[i2];clear i1 i2 hi;simp[aa];refine lp (α:=Nat) (fun i=>⟨[(10,.p (.int .i64 i)),(4,.ptr 0 []),(3,.p (.int .i64 D)),(1,.p (.seq (b.ar.map bH)))],[.box false (.p (cR t))]⟩) (fun i=>i<=t.ar.length/\(t.ar.take i).all (fun s=>nX s.pt D)=true) (fun i=>t.ar.length-i) 0 (by simp) ?_;rintro i ⟨i1,i2⟩
 by_cases hi:i<t.ar.length
 ·have c:=aB.fe hi;have g:=b9 (i:=i) (by omega);have d:=JC (t.sp i).pt D (B _ (av c)).2 (by omega);have q:nX (t.sp i).pt D=(fq (t.sp i).pt.x D&&fq (t.sp i).pt.y D):=rfl;rw[<-q]at d;cases f:nX (t.sp i).pt D
  ·rw[f]at d;rw[iW c f];simp[hi,c,aa];refine Go.ak.c2 d ?_;simp[aa]
  rw[f]at d;simp[hi,c,aa];refine Go.ak.c2 d ?_;simp[g,aa];exact rd (i+1) ⟨hi,by rw[om c,i2,f];rfl⟩
 have:i=t.ar.length:=by omega
 subst this;rw[aT]at i2;rw[i2];clear i1 i2 hi;simp[aa];refine lp (α:=Nat) (fun i=>⟨[(11,.p (.int .i64 i)),(3,.p (.int .i64 D)),(1,.p (.seq (b.ar.map bH)))],[]⟩) (fun i=>i<=b.ar.length/\(b.ar.take i).all (fun s=>nX s.pt D)=true) (fun i=>b.ar.length-i) 0 (by simp) ?_;rintro i ⟨i1,i2⟩
 by_cases hi:i<b.ar.length
 ·have c:=aB.fe hi;have g:=b9 (i:=i) (by omega);have d:=JC (b.sp i).pt D (z _ (av c)).2 (by omega);have q:nX (b.sp i).pt D=(fq (b.sp i).pt.x D&&fq (b.sp i).pt.y D):=rfl;rw[<-q]at d;cases f:nX (b.sp i).pt D
  ·rw[f]at d;rw[iW c f];simp[hi,c,aa];refine Go.ak.c2 d ?_;simp[aa]
  rw[f]at d;simp[hi,c,aa];refine Go.ak.c2 d ?_;simp[g,aa];exact rd (i+1) ⟨hi,by rw[om c,i2,f];rfl⟩
 have:i=b.ar.length:=by omega
 subst this;rw[aT]at i2;rw[i2];simp[m,k,o,aa]
open Go.Proofs
def uc(t b:aB)(aG aH:List Nat)(n:Nat):Bool:=
 decide (aG.length<=40)&&(decide (aH.length<=40)&&(ly t&&(oh n b.ar&&(decide (gI t b≠0)||tJ t b n 9))))
theorem RX(t b:aB)(aG aH:List Nat)(n:Nat)(a:ib t)(i:ic b)(k:n<=1000):au prog 33 [jj t b aG aH,.int .i64 n] (.bool (uc t b aG aH n)):=by
 have g:=ES t a.cl a.pl a.sl;have l:=Fg b n i.sl k;have m:=Az t b a i;have o:=X1 t b n 9 a i k (by decide);refine aI nf Pj mix (by simp[f33]) ?_;rw[uc];generalize gI t b=e at*;generalize tJ t b n 9=p at*
 by_cases d:aG.length<=40
 case neg=>
  have c:(40:Int)<aG.length:=by omega
  simp[f33,d,c,aa]
 have c:¬(40:Int)<aG.length:=by omega
 by_cases a2:aH.length<=40
 case neg=>
  have f:(40:Int)<aH.length:=by omega
  simp[f33,a2,c,f,aa]
 have f:¬(40:Int)<aH.length:=by omega
 cases j:ly t
 ·rw[j]at g;simp[f33,c,f,aa];refine Go.ak.c1 g ?_;simp[aa]
 rw[j]at g;simp[f33,d,a2,c,f,aa];refine Go.ak.c1 g ?_;simp[aa];refine Go.ak.c2 l ?_;cases q:oh n b.ar
 ·simp[aa]
 simp[aa];refine Go.ak.c2 m ?_
 by_cases h:e=0
 case neg=>simp[d,a2,h,aa]
 simp[h,aa];refine Go.ak.c4 o ?_;simp[d,a2,h,aa]
theorem R5(b:aB)(f:b.ar.length<=1000000):au prog 128 [.seq (b.ar.map bH)] (.seq (b.ar.map bH)):=by
 have g:(1000000:Nat)<cW:=by decide
 have w1:ap.wrap 1=1:=by decide
 refine aI nf Gu mix (by simp[f128]) ?_;simp[f128,aa];refine lp (α:=Nat) (fun i=>⟨[(8,.p (.int .i64 i)),(7,.p (.int .i64 b.ar.length)),(6,.p (.seq (b.ar.map bH))),(3,.sl 0 i 3 0 i)],[.arr .grow i 3 ((b.ar.map (AV.p∘bH)).take i)]⟩) (fun i=>i<=b.ar.length) (fun i=>b.ar.length-i) 0 (by simp) ?_;rintro i i1
 by_cases hi:i<b.ar.length
 ·have a:=aB.fe hi;have e:=b9 (i:=i) (by omega);have d:(b.ar.map (AV.p∘bH)).take (i+1)=(b.ar.map (AV.p∘bH)).take i++[.p (bH (b.sp i))]:=by
   rw[a8,List.getElem?_map,a];rfl
  have c:min i b.ar.length=i:=by omega
  simp[hi,a,e,c,aa];exact⟨by omega,rd (i+1) hi (hh:=by simp[d]) (hr2:=by simp[jU])⟩
 ·have:i=b.ar.length:=by omega
  subst this;simp[aa]
theorem YG(t b:aB)(aG aH:List Nat)(a:ib t)(c:ic b):au prog 36 [jj t b aG aH] (jk t b aG aH):=by
 have k1:=Rr t a.cl a.pl a.sl;have k2:=R5 b c.sl;refine aI nf Pm mix (by simp[f36]) ?_;rw[jk];simp[f36,aa];refine Go.ak.e1 k1 ?_;simp[aa];refine Go.ak.e1 k2 ?_;simp[aa]
theorem R7(l:List Nat)(h:l.length<=1000000):au prog 40 [.seq (l.map kZ),.seq (l.map kZ)] (.bool true):=by
 refine aI nf Po mix (by simp[f40]) ?_;simp[f40];refine lp (α:=Nat) (fun i=>⟨[(5,.p (.int .i64 i)),(1,.p (.seq (l.map kZ))),(0,.p (.seq (l.map kZ)))],[]⟩) (fun i=>i<=l.length) (fun i=>l.length-i) 0 (by simp) ?_;rintro i i1;have a:=b9 (i:=i) (by omega)
 by_cases hi:i<l.length
 ·simp[hi,a,kZ];exact rd (i+1) hi
 ·simp[hi]
open Go.Proofs
theorem R0{t b:aB}{aG aH:List Nat}(h:fA t b aG aH=0):gI t b=0/\dX b.ar aG≠none/\dX b.ar aH≠none/\aG≠aH:=by
 rw[fA]at h
 by_cases a:gI t b=0
 case neg=>rw[if_pos a]at h;exact absurd h a
 rw[if_neg (by simp[a])]at h
 by_cases c:dX b.ar aG=none\/dX b.ar aH=none
 ·rw[if_pos c]at h;omega
 rw[if_neg c]at h
 by_cases d:aG=aH
 ·rw[if_pos d]at h;omega
 exact⟨a,fun e=>c (.inl e),fun e=>c (.inr e),d⟩
theorem aHg{t b:aB}{aG aH:List Nat}{n:Nat}(m:ib t)(k:ic b)(hs:uc t b aG aH n=true)(h:fA t b aG aH=0):∃i j,jv t b aG aH i j:=by
 obtain⟨a,c,d,_⟩:=R0 h;obtain⟨f,g,_⟩:=AG k a;rw[uc,a]at hs;simp only[am,Bool.or_eq_true,decide_eq_true_eq]at hs;obtain⟨_,_,_,_,hs⟩:=hs;have hf:tJ t b n 9=true:=by
  rcases hs with hs|hs
  ·exact absurd rfl hs
  ·exact hs
 rw[tJ]at hf;simp only[am,List.all_eq_true]at hf;obtain⟨_,_,_,_,_,_,_,hf⟩:=hf;rcases wS b aG with⟨i,hi⟩|⟨_,e⟩
 case inr=>exact absurd e c
 rcases wS b aH with⟨j,l⟩|⟨_,e⟩
 case inr=>exact absurd e d
 refine⟨i,j,f,m.cl,g,fun s hs=>?_,hi,l⟩;have:=hf s hs;rw[nX,am]at this;exact⟨(NQ this.1).mono (by decide),(NQ this.2).mono (by decide)⟩
theorem Yw(f:au prog 10 [] (.bool true))(t b:aB)(aG aH:List Nat)(n:Int)(c:ib t)(a:ic b):
 au prog 6 [jj t b aG aH,.int .i64 n] (.bool true):=by
 have s0:=RX t b aG aH 6 c a (by decide);have k1:=R3 t b aG aH c a;have k2:=YG t b aG aH c a;have k3:=AA t b aG aH c a;rcases l:uc t b aG aH 6 with _|_
 ·rw[l]at s0;refine aI nf vU mix (by simp[f6]) ?_;simp[f6,aa];refine Go.ak.c2 s0 ?_;simp[aa];refine c0 f ?_;simp
 rw[l]at s0
 by_cases d:fA t b aG aH=0
 case neg=>
  have k4:=Yg t b aG aH n c a d;have k5:=RV t b aG aH c a d;generalize fA t b aG aH=e at*;refine aI nf vU mix (by simp[f6]) ?_;simp[f6,aa];refine Go.ak.c2 s0 ?_;simp[aa];refine Go.ak.c1 k1 ?_;simp[aa];refine Go.ak.c1 k2 ?_;simp[aa];refine Go.ak.c2 k4 ?_;simp[aa];refine Go.ak.c1 k2 ?_;simp[aa];refine Go.ak.c1 k5 ?_;simp[aa];refine Go.ak.c1 k2 ?_;simp[aa];refine Go.ak.c1 k3 ?_;simp[d,aa];refine c0 f ?_;simp
 obtain⟨i,j,g⟩:=aHg c a l d;have k5:=Ye t b aG aH i j c a d g;have k6:=X7 t b aG aH i j g;have k7:=R7 (gf t b aG aH i j 32) (Nat.le_trans (Ax _ _ _ _ _ _ _) (by decide));have k4:∃k e,au prog 35 [jk t b aG aH,.int .i64 n] (.aC [.str k,.int .i64 e])/\((0<=n/\n<32/\au prog 39 [jj t b aG aH,.int .i64 n] (.aC [.str k,.int .i64 e]))\/(¬(0<=n/\n<32)/\k=[]/\e=10)):=by
  by_cases p:0<=n/\n<32
  ·obtain⟨m,rfl⟩:∃m:Nat,n=m:=⟨n.toNat,by omega⟩
   exact⟨_,_,Yf t b aG aH i j m c a d g (by omega),.inl ⟨by omega,by omega,F1 t b aG aH i j m g (by omega)⟩⟩
  ·exact⟨_,_,Yh t b aG aH n c a d (by omega),.inr ⟨p,rfl,rfl⟩⟩
 obtain⟨k,e,k4,k8⟩:=k4;rw[d]at k1 k3;generalize gf t b aG aH i j 32=L at*;refine aI nf vU mix (by simp[f6]) ?_;rcases k8 with⟨h,o,k8⟩|⟨p,rfl,rfl⟩
 ·have q:¬n<0:=by omega
  have r:¬32<=n:=by omega
  simp[f6,aa];refine Go.ak.c2 s0 ?_;simp[aa];refine Go.ak.c1 k1 ?_;simp[aa];refine Go.ak.c1 k2 ?_;simp[aa];refine Go.ak.c2 k4 ?_;simp[aa];refine Go.ak.c1 k2 ?_;simp[aa];refine Go.ak.c1 k5 ?_;simp[aa];refine Go.ak.c1 k2 ?_;simp[aa];refine Go.ak.c1 k3 ?_;simp[h,o,aa];refine Go.ak.c2 k8 ?_;simp[aa];refine Go.ak.c1 k6 ?_;simp[aa];refine Go.ak.c2 k7 ?_;simp[aa];refine c0 f ?_;simp
 ·by_cases h:0<=n
  ·have o:¬n<32:=by omega
   simp[f6,aa];refine Go.ak.c2 s0 ?_;simp[aa];refine Go.ak.c1 k1 ?_;simp[aa];refine Go.ak.c1 k2 ?_;simp[aa];refine Go.ak.c2 k4 ?_;simp[aa];refine Go.ak.c1 k2 ?_;simp[aa];refine Go.ak.c1 k5 ?_;simp[aa];refine Go.ak.c1 k2 ?_;simp[aa];refine Go.ak.c1 k3 ?_;simp[h,o,aa];refine Go.ak.c1 k6 ?_;simp[aa];refine Go.ak.c2 k7 ?_;simp[aa];refine c0 f ?_;simp
  ·simp[f6,aa];refine Go.ak.c2 s0 ?_;simp[aa];refine Go.ak.c1 k1 ?_;simp[aa];refine Go.ak.c1 k2 ?_;simp[aa];refine Go.ak.c2 k4 ?_;simp[aa];refine Go.ak.c1 k2 ?_;simp[aa];refine Go.ak.c1 k5 ?_;simp[aa];refine Go.ak.c1 k2 ?_;simp[aa];refine Go.ak.c1 k3 ?_;simp[h,aa];refine Go.ak.c1 k6 ?_;simp[aa];refine Go.ak.c2 k7 ?_;simp[aa];refine c0 f ?_;simp
open Go.Proofs Go.Proofs.YtanjnahmbanmaaaGreatDoor
structure wD where
 t:aB
 b:aB
 aG:List Nat
 aH:List Nat
def OZ(s:wD):PV:=jj s.t s.b s.aG s.aH
structure P3(s:wD):Prop where
 t:ib s.t
 b:ic s.b
 aG:iU s.aG
 aH:iU s.aH
section
variable{H:Type}{W:World}{ad:Nat->Prop}
theorem aI4:∃a b:Field,prog.underlying 216=some (.struct #[a,b])/\a.type=9/\b.type=24:=⟨_,_,underlying216,rfl,rfl⟩
theorem Qv:prog.underlyingId 216=123:=by kernel_rfl
theorem RA{m n:Nat}(s:m=n+2){d:DataW H}(h:∃cs,aY prog W ad (bG prog (m+1) 216 d) cs)(o:Rows.uptoBulk d<=1048576):∃p:cB,bG prog (m+1) 216 d=bH p/\mN p/\2<=Rows.uptoBulk d:=by
 obtain⟨cs,h⟩:=h;obtain⟨f0,f1,g,t0,t1⟩:=aI4;cases d with
 |agg l=>
  have f:∀x∈l,Rows.uptoBulk x<=1048576:=fun x hx=>by
   have:=pz.tz hx;rw[Rows.uptoBulk]at o;omega
  simp only[bG,g,aY]at h⊢;obtain⟨u,t,e,c,_⟩:=h;rw[Qv,Qs]at e;cases e
  match l,c with
  |[],c=>simp[bk]at c
  |[x],c=>simp[bk]at c
  |x::y::r,c=>
   have:=wG x;simp only[a6,a0,bk,a7,bl,t0,t1]at c⊢;obtain⟨c0,_,_,g1,_,c1,_,_,g2,_⟩:=c;subst s;obtain⟨a,i,k⟩:=ua (n:=n+1) ⟨c0,g1⟩ (f x (by simp));obtain⟨b,j,q⟩:=Ia (n:=n) ⟨c1,g2⟩ (f y (by simp));refine⟨⟨a,b⟩,by rw[i,j,Qv];rfl,⟨k,q⟩,?_⟩;rw[Rows.uptoBulk,Rows.uptoBulkAll];omega
 |_=>simp only[bG,g,aY]at h
theorem aI8:∃a b f2 f3:Field,prog.underlying 74=some (.struct #[a,b,f2,f3])/\a.type=48/\b.type=72/\f2.type=9/\f3.type=9:=⟨_,_,_,_,underlying74,rfl,rfl,rfl,rfl⟩
theorem Qz:prog.underlyingId 74=73:=by kernel_rfl
theorem aIr{m n:Nat}(s:m=n+5){d:DataW H}(h:∃cs,aY prog W ad (bG prog (m+1) 74 d) cs)(f:Rows.uptoBulk d<=1048576):∃t:wD,bG prog (m+1) 74 d=OZ t/\True/\P3 t:=by
 obtain⟨cs,h⟩:=h;obtain⟨f0,f1,f2,f3,i,t0,t1,t2,t3⟩:=aI8;cases d with
 |agg l=>
  have e:∀x∈l,Rows.uptoBulk x<=1048576:=fun x hx=>by
   have:=pz.tz hx;rw[Rows.uptoBulk]at f;omega
  simp only[bG,i,aY]at h⊢;obtain⟨E,D,g,c,_⟩:=h;rw[Qz,aIK]at g;cases g
  match l,c with
  |[],c=>simp[bk]at c
  |[x],c=>simp[bk]at c
  |[x,y],c=>simp[bk]at c
  |[x,y,z],c=>simp[bk]at c
  |x::y::z::w::r,c=>
   simp only[a6,a0,bk,a7,bl,t0,t1,t2,t3]at c⊢;obtain⟨c0,_,_,g0,_,c1,_,_,g1,_,c2,_,_,g2,_,c3,_,_,g3,_⟩:=c;subst s;obtain⟨a,j,_,o⟩:=aIL (n:=n) rfl ⟨c0,g0⟩ (e x (by simp));obtain⟨b,k,p,C⟩:=wP (n:=n+4) aI3 (F:=bH) (ok:=mN) (fun d q f=>RA (n:=n+1) rfl q f) ⟨c1,g1⟩ (e y (by simp));obtain⟨u,eu,A⟩:=ua (n:=n+4) ⟨c2,g2⟩ (e z (by simp));obtain⟨v,ev,B⟩:=ua (n:=n+4) ⟨c3,g3⟩ (e w (by simp));exact⟨⟨a,⟨[],0,[],b⟩,u,v⟩,by rw[j,k,eu,ev,Qz];rfl,trivial,o,⟨C,p⟩,A,B⟩
 |_=>simp only[bG,i,aY]at h
theorem RI{d:DataW H}(h:∃cs,aY prog W ad (bG prog 8 74 d) cs)(a:Rows.uptoBulk d<=1048576):∃t:wD,bG prog 8 74 d=OZ t/\True/\P3 t:=aIr (n:=2) rfl h a
end
open Go.Proofs
namespace Hk
mutual
def rL:PV->PV->Bool
 | .int .i64 a,.int .i64 b=>nW a b
 | .int .u64 a,.int .u64 b=>nW a b
 | .bool a,.bool b=>a==b
 | .str a,.str b=>rK a b
 | .aO,.aO=>true
 | .fc,.fc=>true
 | .cN f a,.cN g b=>bif f==g then lj a b else false
 | .seq a,.seq b=>lj a b
 | .dT a,.dT b=>tP a b
 | .st u a,.st v b=>bif bv u v then lj a b else false
 | .aC a,.aC b=>lj a b
 | .func f a b,.func g c d=>bif bv f g then(bif lj a c then lj b d else false)else false
 | .cm a,.cm b=>rL a b
 |_,_=>false
def lj:List PV->List PV->Bool
 |[],[]=>true
 |a::l,b::m=>bif rL a b then lj l m else false
 |_,_=>false
def tP:List (PV×PV)->List (PV×PV)->Bool
 |[],[]=>true
 |(a,c)::l,(b,d)::m=>bif rL a b then(bif rL c d then tP l m else false)else false
 |_,_=>false
end
mutual
theorem uW:∀{a b:PV},rL a b=true->a=b
 |a,b,h=>by
  unfold rL at h
  split at h
  ·rw[yN h]
  ·rw[yN h]
  ·rw[eq_of_beq h]
  ·rw[Cj h]
  ·rfl
  ·rfl
  ·rename_i f a g b;cases hf:f==g
   ·rw[hf]at h;cases h
   ·rw[hf,cond_true]at h;rw[eq_of_beq hf,oP h]
  ·rw[oP h]
  ·rw[KA h]
  ·simp only[ac]at h
   split at h
   ·rename_i i;rw[bp i,oP h]
   ·cases h
  ·rw[oP h]
  ·simp only[ac]at h
   split at h
   ·rename_i i
    split at h
    ·rename_i e;rw[bp i,oP e,oP h]
    ·cases h
   ·cases h
  ·rw[uW h]
  ·cases h
theorem oP:∀{a b:List PV},lj a b=true->a=b
 |[],[],_=>rfl
 |[],_::_,h=>by simp[lj]at h
 |_::_,[],h=>by simp[lj]at h
 |a::l,b::m,h=>by
  simp only[lj,ac]at h
  split at h
  ·rename_i e;rw[uW e,oP h]
  ·cases h
theorem KA:∀{a b:List (PV×PV)},tP a b=true->a=b
 |[],[],_=>rfl
 |[],_::_,h=>by simp[tP]at h
 |_::_,[],h=>by simp[tP]at h
 |(a,c)::l,(b,d)::m,h=>by
  simp only[tP,ac]at h
  split at h
  ·rename_i e
   split at h
   ·rename_i j;rw[uW e,uW j,KA h]
   ·cases h
  ·cases h
end
def vk:List (ao×List PV×PV)->ao->List PV->Option PV
 |[],f,vs=>hk f vs
 |(g,us,v)::r,f,vs=>bif bv g f then(bif lj us vs then some v else vk r f vs)else vk r f vs
def kF:List (ao×List PV×PV)->Prop
 |[]=>True
 |(g,us,v)::r=>au prog g us v/\kF r
theorem uH:∀{l m:List (ao×List PV×PV)},kF l->kF m->kF (l++m)
 |[],_,_,h=>h
 |_::_,_,h,a=>⟨h.1,uH h.2 a⟩
theorem Bq:∀{l:List (ao×List PV×PV)},kF l->∀f vs v,vk l f vs=some v->au prog f vs v
 |[],_,f,vs,v,h=>Z7 h
 |(g,us,w)::r,a,f,vs,v,h=>by
  simp only[vk,ac]at h
  split at h
  ·rename_i b
   split at h
   ·rename_i hs;simp only[Option.some.injEq]at h;subst h;rw[<-oP hs,<-bp b];exact a.1
   ·exact Bq a.2 f vs v h
  ·exact Bq a.2 f vs v h
def PS(v:PV):Option PV->Bool
 |some w=>rL v w
 |none=>false
theorem aEv{v:PV}{o:Option PV}(h:PS v o=true):o=some v:=by
 cases o with
 |none=>cases h
 |some w=>rw[uW h]
def aHS:ao->ao->Nat:=fun _ _=>0
theorem cM(l:List (ao×List PV×PV))(a:kF l){f:ao}{vs:List PV}{v:PV}(h:PS v (Ql (vk l) aHS f vs)=true):au prog f vs v:=K5 (Bq a) (aEv h)
end Hk
end Go.ak
