import Derived.Test.YthmfmhbicipdmaaGreatDoorPL
import Derived.Test.YthmfmhbicipdmaaGreatDoorPK
/- Parts of a proof. -/
set_option linter.unusedSimpArgs false
set_option linter.unusedVariables false
set_option linter.unusedSectionVars false
open Go.Proofs.Tryz
open And renaming intro->ab
open Bool renaming cond_eq_ite->ac, and_eq_true->am
open Go renaming FuncId->ao, DataW->ap
open Go.IntKind renaming i64->av
open List renaming mem_of_getElem?->ax, drop_eq_getElem_cons->ay, mem_iff_getElem->aT, map_cons->a4, take_length->a5, find?_eq_none->a6, findIdx?_eq_some_iff_getElem->a7, findIdx?_eq_none_iff->a8, zip_cons_cons->a9, zip_nil_left->bb, take_add_one->be, length_take->bi, getElem_mem->bl, find?_cons->bo, map_nil->bp, range->bv
open Nat renaming eq_of_beq_eq_true->bI, beq->bV
namespace Go.ah
open Go.Proofs
set_option maxHeartbeats 4000000
set_option maxRecDepth 100000
theorem ato(v w:NV)(a:bB kQ v.q)(b:bB kQ w.q):ar prog 325 [fy v,fy w] (eF (v.dot w)):=by
 have c:=jK v.x w.x (c7 a.1) (c7 b.1);have d:=jK v.y w.y (c7 a.2) (c7 b.2);have e:=sx (v.x.mul w.x) (v.y.mul w.y) ((fC a.1 b.1).mono (by decide)) ((fC a.2 b.2).mono (by decide));refine aI nf Hc mix (by simp[f325]) ?_;rw[NV.dot];simp[f325,aa];refine e2 c ?_;simp[aa];refine e2 d ?_;simp[aa];refine e2 e ?_;simp[aa]
theorem TW(t:aA)(a:0<=t.aN)(b:t.aN<=1000000):ar prog 326 [cg t] (eF (.width t.aN)):=by
 have e:=wG a b;have c:=ke (4*t.aN*t.aN) (by omega) (by omega);have w1:av.wrap (4*t.aN)=4*t.aN:=aQ _ (by omega) (by omega);have d:av.wrap (4*t.aN*t.aN)=4*t.aN*t.aN:=aQ _ (by omega) (by omega);refine aI nf Gz mix (by simp[f326]) ?_;rw[NF.width];simp[f326,aa,w1,d];refine c1 c ?_;simp[aa]
theorem aKY(a b:V2):(b.sub a).dot (b.sub a)=(a.sub b).dot (a.sub b):=by
 simp only[V2.sub,V2.dot]
 grind
theorem TY(t:aA)(a b:NV)(d:0<=t.aN)(e:t.aN<=1000000)(f:bB 2000 a.q)(g:bB 2000 b.q):ar prog 291 [cg t,fy a,fy b] (.int .i64 (gJ t.aN a.q b.q)):=by
 have c:=gL g f;rw[<-NV.fQ]at c;have k1:=Bu b a (g.mono (by decide)) (f.mono (by decide));have k2:=ato (b.sub a) (b.sub a) (c.mono (by decide)) (c.mono (by decide));have k3:=TW t d e;have k4:=nC ((b.sub a).dot (b.sub a)) (.width t.aN) (by rw[NV.kZ];exact(lM c c).mono (by decide)) ((yB d e).mono (by decide));have hq:dC ((b.sub a).dot (b.sub a)).q (NF.width t.aN).q=gJ t.aN a.q b.q:=by
  rw[gJ,NV.kZ,NV.fQ,aKY];rfl
 rw[hq]at k4;refine aI nf IG mix (by simp[f291]) ?_;simp[f291,aa];refine c2 k1 ?_;simp[aa];refine e2 k2 ?_;simp[aa];refine e1 k3 ?_;simp[aa];refine e2 k4 ?_;simp[aa]
def uO(p:cG):Prop:=nG p/\eA p.pt=0
theorem azU(t:aA)(v:NV)(o:cG)(b:0<=t.aN)(c:t.aN<=1000000)(e:bB 2000 v.q)(d:uO o):
 cA prog 290 [.box false (.p (cg t)),.box false (.p (fy v))] [.p (bK o),.ptr 0 [],.ptr 1 []] [.box false (.p (cg t)),.box false (.p (fy v))] (.p (.bool (decide (gJ t.aN (vP o.pt) v.q<0)))):=by
 obtain⟨⟨h,f⟩,a⟩:=d;obtain⟨g1,g2⟩:=jX a;obtain⟨_,ok⟩:=vg a;have k1:=Ew o.pt g1 g2 f;have k2:=TY t (.from o.pt) v b c (by rw[iZ];exact ok) e;rw[iZ]at k2;generalize gJ t.aN (vP o.pt) v.q=y at*;generalize NV.from o.pt=g at*;refine fh nf IH mix (by simp[f290]) ?_;simp[f290,aa];refine Go.ah.e1 k1 ?_;simp[aa];refine Go.ah.e3 k2 ?_;simp[aa];exact cV.og (by simp) (by simp) (by simp) (by simp) (by simp)
theorem Ua(t:aA)(v:NV)(l:List cG)(h:l.length<=1000000)(a:0<=t.aN)(b:t.aN<=1000000)(d:bB 2000 v.q)(c:∀o∈l,uO o):
 cA prog 285 [.box false (.p (cg t)),.box false (.p (fy v))] [.p (.seq (l.map bK)),.func 290 [] [.ptr 0 [],.ptr 1 []]] [.box false (.p (cg t)),.box false (.p (fy v))] (.p (.int .i64 (idxFrom (fun o=>decide (gJ t.aN (vP o.pt) v.q<0)) l 0))):=by
 refine fh nf BM mix (by simp[f285]) ?_;simp[f285];refine lp (α:=Nat) (fun i=>⟨[(8,.p (.int .i64 i)),(7,.p (.int .i64 l.length)),(1,.func 290 [] [.ptr 0 [],.ptr 1 []]),(0,.p (.seq (l.map bK)))],[.box false (.p (cg t)),.box false (.p (fy v))]⟩) (fun i=>i<=l.length/\idxFrom (fun o=>decide (gJ t.aN (vP o.pt) v.q<0)) l 0=idxFrom (fun o=>decide (gJ t.aN (vP o.pt) v.q<0)) (l.drop i) i) (fun i=>l.length-i) 0 (by simp) ?_;rintro i ⟨k1,k2⟩;have e:=bR (i:=i) (by omega)
 by_cases hi:i<l.length
 ·rw[ay hi,idxFrom]at k2;simp[hi];refine cf (azU t v l[i] a b d (c _ (bl hi))) [0,1] ?_
  by_cases hk:gJ t.aN (vP l[i].pt) v.q<0
  ·simp[hk]at k2;simp[hk,k2,bf]
  ·simp[hk]at k2;simp[hk,e,bf];exact rd (i+1) ⟨hi,k2⟩
 ·have:i=l.length:=by omega
  subst this;simp[idxFrom]at k2;simp[k2]
theorem T4(t:aA)(v:NV)(l:List cG)(h:l.length<=1000000)(a:0<=t.aN)(b:t.aN<=1000000)(d:bB 2000 v.q)(c:∀o∈l,uO o):
 cA prog 229 [.box false (.p (cg t)),.box false (.p (fy v))] [.p (.seq (l.map bK)),.func 290 [] [.ptr 0 [],.ptr 1 []]] [.box false (.p (cg t)),.box false (.p (fy v))] (.p (.bool (l.any (fun o=>decide (gJ t.aN (vP o.pt) v.q<0))))):=by
 refine fh nf Ep mix (by simp[f229]) ?_;simp[f229];refine cf (Ua t v l h a b d c) [0,1] ?_;have:=pf (fun o=>decide (gJ t.aN (vP o.pt) v.q<0)) l 0;simp[bf,<-this]
theorem TX(t:aA)(v:NV)(l:List cG)(h:l.length<=1000000)(a:0<=t.aN)(b:t.aN<=1000000)(d:bB 2000 v.q)(c:∀o∈l,uO o):
 ar prog 234 [cg t,.seq (l.map bK),fy v] (.bool (!l.any (fun o=>decide (gJ t.aN (vP o.pt) v.q<0)))):=by
 have k1:=T4 t v l h a b d c;generalize (l.any (fun o=>decide (gJ t.aN (vP o.pt) v.q<0)))=y at*;refine aI nf Qh mix (by simp[f234]) ?_;simp[f234,aa];refine cf k1 [0,1] ?_;simp[aa,bf]
theorem TT(p o:cG):cA prog 230 [.box false (.p (bK p))] [.p (bK o),.ptr 0 []] [.box false (.p (bK p))] (.p (.bool (decide (o.name=p.name)))):=by
 refine fh nf Ql mix (by simp[f230]) ?_
 by_cases h:o.name=p.name
 ·simp[f230,aa,h];exact cV.og (by simp) (by simp) (by simp) (by simp) (by simp)
 ·simp[f230,aa,h];exact cV.og (by simp) (by simp) (by simp) (by simp) (by simp)
theorem T9(p:cG)(l:List cG)(h:l.length<=1000000):
 cA prog 285 [.box false (.p (bK p))] [.p (.seq (l.map bK)),.func 230 [] [.ptr 0 []]] [.box false (.p (bK p))] (.p (.int .i64 (idxFrom (fun o=>decide (o.name=p.name)) l 0))):=by
 refine fh nf BM mix (by simp[f285]) ?_;simp[f285];refine lp (α:=Nat) (fun i=>⟨[(8,.p (.int .i64 i)),(7,.p (.int .i64 l.length)),(1,.func 230 [] [.ptr 0 []]),(0,.p (.seq (l.map bK)))],[.box false (.p (bK p))]⟩) (fun i=>i<=l.length/\idxFrom (fun o=>decide (o.name=p.name)) l 0=idxFrom (fun o=>decide (o.name=p.name)) (l.drop i) i) (fun i=>l.length-i) 0 (by simp) ?_;rintro i ⟨k1,k2⟩;have a:=bR (i:=i) (by omega)
 by_cases hi:i<l.length
 ·rw[ay hi,idxFrom]at k2;simp[hi];refine cf (TT p l[i]) [0] ?_
  by_cases hk:l[i].name=p.name
  ·simp[hk]at k2;simp[hk,k2,bf]
  ·simp[hk]at k2;simp[hk,a,bf];exact rd (i+1) ⟨hi,k2⟩
 ·have:i=l.length:=by omega
  subst this;simp[idxFrom]at k2;simp[k2]
theorem TN(p:cG)(l:List cG)(h:l.length<=1000000):
 cA prog 229 [.box false (.p (bK p))] [.p (.seq (l.map bK)),.func 230 [] [.ptr 0 []]] [.box false (.p (bK p))] (.p (.bool (l.any (fun o=>decide (o.name=p.name))))):=by
 refine fh nf Ep mix (by simp[f229]) ?_;simp[f229];refine cf (T9 p l h) [0] ?_;have:=pf (fun o=>decide (o.name=p.name)) l 0;simp[bf,<-this]
def vh(r:Int)(a:List cG)(v:V2):Bool:=a.any (fun o=>decide (gJ r (vP o.pt) v<0))
def AE(t:aA)(a:List cG)(s:cG):Int:=bG [aU (decide (t.on (vP s.pt)<0)) 16,aU (a.any (fun o=>decide (gJ t.aN (vP o.pt) (vP s.pt)<0))) 17]
theorem TR(t:aA)(a:List cG)(s:cG):iD t a s=if jm a s=0 then AE t a s else jm a s:=by
 rw[iD,jm,AE];generalize t.on (vP s.pt)=y;generalize eA s.pt=d;generalize (a.any fun o=>decide (o.name=s.name))=e;generalize (a.any fun o=>decide (gJ t.aN (vP o.pt) (vP s.pt)<0))=f;generalize isName s.name=g;cases g
 ·simp[bG,aU]
 cases e
 case true=>simp[bG,aU]
 by_cases b:d=0
 case neg=>simp[bG,aU,b]
 by_cases c:y<0
 ·simp[bG,aU,b,c]
 cases f
 ·simp[bG,aU,b,c]
 ·simp[bG,aU,b,c]
theorem azX(t:aA)(s:cG)(a:List cG)(x:t.cs.length<=1000000)(j:gT t=0)(hs:nG s)(i:a.length<=1000000)(w:∀o∈a,uO o):
 cA prog 228 [.box false (.p (cg t))] [.p (bK s),.p (.seq (a.map bK)),.ptr 0 []] [.box false (.p (cg t))] (.p (.int .i64 (iD t a s))):=by
 obtain⟨_,_,z,_⟩:=qG j;obtain⟨L,M⟩:=ky j;obtain⟨F,m⟩:=hs;have k1:=TN s a i;have k2:=Bo s.name F.1;have k3:=iU (!isName s.name) 8;have k4:=iU (a.any fun o=>decide (o.name=s.name)) 9;have k6:=BP s.pt m;have k8:=qH [aU (!isName s.name) 8,aU (a.any fun o=>decide (o.name=s.name)) 9,eA s.pt] (by simp);have b:=Ge (bef:=a) (s:=s);rw[TR];have A:=fun h:jm a s=0=>Ew s.pt (jX (b h)).1 (jX (b h)).2 m;have k:=fun h:jm a s=0=>QN t (.from s.pt) x z (BR ⟨(gH (jX (b h)).1).mono (by decide),(gH (jX (b h)).2).mono (by decide)⟩);have B:=iU (decide (t.on (vP s.pt)<0)) 16;have l:jm a s=0->ar prog 234 [cg t,.seq (a.map bK),fy (.from s.pt)] (.bool (!vh t.aN a (NV.from s.pt).q)):=fun h=>TX t (.from s.pt) a i (by omega) (by omega) (BR ⟨gH (jX (b h)).1,gH (jX (b h)).2⟩) w;have C:=iU (vh t.aN a (vP s.pt)) 17;have d:=qH [aU (decide (t.on (vP s.pt)<0)) 16,aU (vh t.aN a (vP s.pt)) 17] (by simp);simp only[iZ]at k l;have f:jm a s=bG [aU (!isName s.name) 8,aU (a.any fun o=>decide (o.name=s.name)) 9,eA s.pt]:=rfl;have g:AE t a s=bG [aU (decide (t.on (vP s.pt)<0)) 16,aU (vh t.aN a (vP s.pt)) 17]:=rfl;rw[<-f]at k8;rw[<-g]at d;clear f g b;generalize jm a s=e at*;generalize AE t a s=v at*;generalize vh t.aN a (vP s.pt)=r at*;generalize t.on (vP s.pt)=y at*;generalize eA s.pt=G at*;generalize (a.any fun o=>decide (o.name=s.name))=n at*;generalize isName s.name=u at*;generalize NV.from s.pt=v1 at*;refine fh nf IU mix (by simp[f228]) ?_;have E:ar prog 214 [.seq [.int .i64 (aU (!u) 8),.int .i64 (aU n 9),.int .i64 G]] (.int .i64 e):=by simpa using k8
 have D:ar prog 214 [.seq [.int .i64 (aU (decide (y<0)) 16),.int .i64 (aU r 17)]] (.int .i64 v):=by simpa using d
 clear k8 d;generalize H:aU (!u) 8=w1 at*;generalize I:aU n 9=N at*;generalize J:aU (decide (y<0)) 16=O at*;generalize K:aU r 17=P at*;simp[f228,aa];refine cf k1 [1] ?_;simp[aa,bf,sig];refine Go.ah.e1 k2 ?_;simp[aa];refine Go.ah.e2 k3 ?_;simp[aa];refine Go.ah.e2 k4 ?_;simp[aa];refine Go.ah.e1 k6 ?_;simp[aa];refine ep E (by simp;first|exact⟨rfl,rfl⟩|rfl) (by simp;first|exact⟨rfl,rfl⟩|rfl) ?_;simp[aa];refine⟨by repeat' first|rfl|apply ab,?_⟩
 by_cases c:e=0
 case neg=>
  simp[c,aa];exact cV.og (by simp) (by simp) (by simp) (by simp) (by simp)
 simp[c,aa];refine Go.ah.c1 (A c) ?_;simp[aa];refine Go.ah.e2 (k c) ?_;simp[aa];refine Go.ah.e2 B ?_;simp[aa];refine Go.ah.e3 (l c) ?_;simp[aa];refine Go.ah.e2 C ?_;simp[aa];refine ep D (by simp;first|exact⟨rfl,rfl⟩|rfl) (by simp;first|exact⟨rfl,rfl⟩|rfl) ?_;simp[aa];refine⟨by repeat' first|rfl|apply ab,?_⟩;exact⟨fun h=>(h c).elim,cV.og (by simp) (by simp) (by simp) (by simp) (by simp)⟩
theorem K9(l:List cG):eZ prog 3 (l.map (AV.p∘bK)):=wL (fun r=>⟨by simp[aa],by simp[aa]⟩) l
theorem azY(t b:aA)(h:t.cs.length<=1000000)(l:gT t=0)(c:fM b):
 cA prog 227 [.box false (.p (cg t))] [.p (.seq (b.aw.map bK)),.p (.int .i64 24),.func 228 [] [.ptr 0 []]] [.box false (.p (cg t))] (.p (.int .i64 (sZ t b))):=by
 obtain⟨n,d⟩:=c;refine fh nf IV mix (by simp[f227]) ?_;rw[sZ]
 by_cases c1:24<b.aw.length
 ·have cI:(24:Int)<b.aw.length:=by omega
  rw[if_pos c1];simp[f227,cI]
 have e:¬(24:Int)<b.aw.length:=by omega
 rw[if_neg c1];simp[f227,e];refine lp (α:=Nat) (fun i=>⟨[(16,.p (.int .i64 i)),(15,.p (.int .i64 b.aw.length)),(14,.p (.seq (b.aw.map bK))),(2,.func 228 [] [.ptr 0 []]),(0,.p (.seq (b.aw.map bK)))],[.box false (.p (cg t))]⟩) (fun i=>i<=b.aw.length/\∀j,j<i->gI (iD t) b.aw j=0) (fun i=>b.aw.length-i) 0 (by simp) ?_;rintro i ⟨k1,k2⟩
 by_cases hk:i<b.aw.length
 ·have gk:=aA.eK hk;have m:=bR (i:=i) (by omega);have a:=azX t (b.sp i) (b.aw.take i) h l (d _ (ax gk)) (by rw[bi];omega) (fun o k=>by
   obtain⟨j,f,rfl⟩:=aT.1 k;rw[bi]at f;rw[List.getElem_take];have:=k2 j (by omega);have g:=aA.eK (t:=b) (i:=j) (by omega);rw[gI,g]at this;rw[aA.jS (by omega)];exact⟨d _ (ax g),Bw this⟩)
  rw[List.map_take]at a
  by_cases he:iD t (b.aw.take i) (b.sp i)=0
  ·rw[he]at a;have:=sU k2 gk he;simp[hk,gk,aa];refine⟨⟨k1,K9 _⟩,?_⟩;refine ef a [0] ?_;simp[m,aa,bf,sig];exact rd (i+1) ⟨hk,this⟩
  ·have c:=sV k2 gk he;rw[c];simp[hk,gk,aa];refine⟨⟨k1,K9 _⟩,?_⟩;refine ef a [0] ?_;simp[he,aa,bf,sig];exact cV.og (by simp) (by simp) (by simp) (by simp) (by simp)
 ·have:i=b.aw.length:=by omega
  subst this;rw[pg.2 k2];simp
theorem TJ(t b:aA)(a:fL t)(c:fM b):ar prog 140 [cg t,.seq (b.aw.map bK)] (.int .i64 (gV t b)):=by
 have k1:=Ta t a;refine aI nf I9 mix (by simp[f140]) ?_;rw[gV]
 by_cases h:gT t=0
 ·rw[if_neg (by simp[h])];have k2:=azY t b a.cl h c;rw[h]at k1;simp[f140,aa];refine Go.ah.c1 k1 ?_;simp[aa];refine cf k2 [0] ?_;simp[aa,bf]
 ·rw[if_pos h];generalize gT t=e at*;simp[f140,aa];refine Go.ah.c1 k1 ?_;simp[h,aa]
theorem aA.BC(t:aA)(v:V2):∀m,t.mM v m<=0↔∃i,i<m/\t.side i v<=0
 |0=>⟨fun h=>by have:t.mM v 0=1:=rfl;omega,fun⟨i,h,_⟩=>by omega⟩
 |m+1=>by
  rw[aA.Bk];have c:=aA.BC t v m;constructor
  ·intro h;rcases Int.lt_or_le 0 (t.mM v m)with b|b
   ·exact⟨m,by omega,by omega⟩
   ·obtain⟨i,d,a⟩:=c.1 b;exact⟨i,by omega,a⟩
  ·rintro⟨i,d,a⟩
   by_cases e:i=m
   ·subst e;omega
   ·have:=c.2 ⟨i,by omega,a⟩;omega
theorem T0(t:aA)(v:NV)(o:t.cs.length<=1000000)(d:∀p∈t.cs,dU p)(m:bB 3000 v.q):ar prog 192 [cg t,bQ v] (.bool (decide (0<t.on v.q))):=by
 refine aI nf Qo mix (by simp[f192]) ?_;obtain⟨k,hk,l,n⟩:=zm (fun i=>decide (0<t.side i v.q)) t.cs.length;simp[f192,aa];refine c1 (aiE t) ?_;simp;refine rfd (aKz t o d) rfl (by simp) (fun L i=>jP t v false L) (fun L i=>jP t v false L++l6 t i) k (by simpa using hk) (fun L=>rfl) ?_ ?_ ?_
 ·intro L a i hi;refine⟨rfl,by simp[jP],fun _ hx=>?_⟩;simp[jP]at hx⊢;exact hx
 ·intro L a i x hi hx;rw[xT (by omega)]at hx;injection hx with hx
  subst hx;refine⟨?_,by simp,fun j _ h=>h,rfl,by simp[jP,l6]⟩;obtain⟨a1,a2,a3⟩:=F8 d m (show i<t.cs.length by omega);have hs:0<t.side i v.q:=by have:=l i hi;simp at this;omega
  have f:¬t.side i v.q<=0:=by omega
  refine xS nf mix a rfl rfl (by kernel_rfl) ?_;have b:=congrArg dW.env a;dsimp only at b;clear a;generalize v.sub (cB (t.at i))=U at*;generalize (t.fe i).c8 U=C at*;simp[jP,sS,l6,aa];refine e2 a1 ?_;simp[aa];refine e2 a2 ?_;simp[aa];refine e1 a3 ?_;simp[aa,hs,f];refine cV.og (by simp) (by simp) (by simp) (by simp) ?_;simp;exact Ft b (by simp)
 ·intro L a;rcases n with c|⟨c,g⟩
  ·refine .inl ⟨by simpa using c,?_⟩;have e:0<t.on v.q:=by
    have:¬t.on v.q<=0:=by
     rw[aA.on,aA.BC];rintro⟨i,r,s⟩;have:=l i (by omega);simp at this;omega
    omega
   simp[jP,e]
  ·have hs:t.side k v.q<=0:=by simp at g;exact g
   have f:¬0<t.side k v.q:=by omega
   have e:¬0<t.on v.q:=by
    have:t.on v.q<=0:=by
     rw[aA.on,aA.BC];exact⟨k,c,hs⟩
    omega
   obtain⟨a1,a2,a3⟩:=F8 d m c;refine .inr ⟨sS t k,.ret,jP t v false (L.dn .ret)++l6 t k,jP t v false (L.dn .ret),xT c,rfl,?_,by simp[jP],fun j _ h=>?_,rfl,by simp[jP,l6],?_,?_⟩
   ·refine xS nf mix a rfl rfl (by kernel_rfl) ?_;have b:=congrArg dW.env a;dsimp only at b;clear a;generalize v.sub (cB (t.at k))=U at*;generalize (t.fe k).c8 U=C at*;simp[jP,sS,l6,aa];refine e2 a1 ?_;simp[aa];refine e2 a2 ?_;simp[aa];refine e1 a3 ?_;simp[aa,hs,f];refine cV.og (by simp) (by simp) (by simp) (by simp) ?_;simp;exact Gw b (by simp)
   ·have:=ax h;simp[jP,l6]at this
   ·have b:=congrArg dW.env a;dsimp only at b;simp[jP];exact Gw b (by simp)
   ·simp[jP,e,jy]
noncomputable def mG(l:List cG):List (PV×PV):=l.map (fun s=>(.str s.name,bQ (.from s.pt)))
def dI(l:List cG)(n:List Nat):Option cG:=l.find? (fun s=>decide (s.name=n))
theorem Hy(a b:List Nat):jM (.str a) (.str b)=some (decide (b=a)):=by
 rw[jM]
 by_cases h:b=a
 ·simp[h]
 ·simp[h];exact fun e=>h e.symm
@[simp] theorem Hv(T:TypeId)(q:List Nat):∀l:List cG,fP prog T (mG l) (.str q)=some ((dI l q).map (fun s=>bQ (.from s.pt)))
 |[]=>rfl
 |p::r=>by
  have:=Hv T q r;rw[mG]at this;rw[mG,a4,fP,qq,Hy,dI,bo]
  ·by_cases h:p.name=q
   ·simp[h]
   ·simp[h,this,dI]
  ·intro u fs h;cases h
theorem G8(q:cG):∀{l:List cG},dI l q.name=none->fZ (mG l) (.str q.name) (bQ (.from q.pt))=mG (l++[q])
 |[],_=>rfl
 |p::r,h=>by
  rw[dI,bo]at h
  by_cases e:p.name=q.name
  ·simp[e]at h
  ·simp[e]at h;have:=G8 q (l:=r) (by rw[dI,a6];simpa using h);rw[mG]at this⊢;rw[a4,fZ,Hy,this];simp[e,mG]
noncomputable def l9(t b:aA):PV:=.st 128 [cg t,.seq (b.aw.map bK),.eg (mG b.aw),eF (.width t.aN)]
@[simp] theorem aOF(t b:aA):aL (l9 t b)=.agg 128:=rfl
@[simp] theorem aM7(t b:aA):bY (l9 t b)=[cg t,.seq (b.aw.map bK),.eg (mG b.aw),eF (.width t.aN)]:=rfl
@[simp] theorem aMu:prog.cellsOf 128=10:=by kernel_rfl
structure xB(b:aA):Prop where
 sl:b.aw.length<=24
 sp:∀s∈b.aw,uO s
 ne:∀i,i<b.aw.length->dI (b.aw.take i) (b.sp i).name=none
theorem yc{t b:aA}(l:fM b)(h:gV t b=0):gT t=0/\xB b/\(∀s∈b.aw,0<=t.on (vP s.pt)):=by
 rw[gV]at h
 by_cases c:gT t=0
 case neg=>rw[if_pos c]at h;exact absurd h c
 rw[if_neg (by simp[c]),sZ]at h
 by_cases f:24<b.aw.length
 ·rw[if_pos f]at h;omega
 rw[if_neg f]at h;have k:=pg.1 h;have d:∀i,i<b.aw.length->iD t (b.aw.take i) (b.sp i)=0:=fun i hi=>by
  have:=k i hi
  rwa [gI,aA.eK hi]at this
 refine⟨c,⟨by omega,fun s hs=>?_,fun i hi=>?_⟩,fun s hs=>?_⟩
 ·obtain⟨j,a,rfl⟩:=aT.1 hs;rw[aA.jS a];exact⟨l.sp _ (ax (aA.eK a)),Bw (d j a)⟩
 ·have:=d i hi;rw[iD]at this
  split at this
  ·omega
  split at this
  ·omega
  rename_i g;rw[dI,a6];intro x hx e;exact g (List.any_eq_true.2 ⟨x,hx,e⟩)
 ·obtain⟨j,a,rfl⟩:=aT.1 hs;rw[aA.jS a];have:=d j a;rw[iD]at this
  split at this
  ·omega
  split at this
  ·omega
  split at this
  ·contradiction
  split at this
  ·omega
  omega
def u9:PV:=.st 128 [.st 43 [.aP,.int .i64 0,.aP,.aP],.aP,.fk,.st 126 [.st 124 [.int .i64 0,.aP],.st 124 [.int .i64 0,.aP]]]
@[simp] theorem aPf:aL u9=.agg 128:=rfl
theorem Hr(t b:aA)(f:0<=t.aN)(g:t.aN<=1000000)(j:xB b):ar prog 141 [cg t,.seq (b.aw.map bK)] (l9 t b):=by
 obtain⟨q,k,e⟩:=j;have k1:=aww t.aN f g;refine aI nf I8 mix (by simp[f141]) ?_;rw[l9];simp[f141,aa];refine e1 k1 ?_;simp[aa];refine⟨rfl,?_⟩;refine lp (α:=Nat) (fun i=>⟨[(17,.p (.int .i64 i)),(16,.p (.int .i64 b.aw.length)),(15,.p (.seq (b.aw.map bK))),(5,.ptr 3 []),(4,.ptr 1 [])],[.box false (.p (cg t)),.box false (.p u9),.map false (mG (b.aw.take i)),.box false (.st 128 [.p (cg t),.p (.seq (b.aw.map bK)),.map 2,.p (eF (.width t.aN))])]⟩) (fun i=>i<=b.aw.length) (fun i=>b.aw.length-i) 0 (by simp) ?_ (hh:=by simp[u9,mG]);rintro i i1
 by_cases hi:i<b.aw.length
 ·have a:=aA.eK hi;have m:=bR (i:=i) (by omega);obtain⟨⟨s,n⟩,o⟩:=k _ (ax a);obtain⟨g1,g2⟩:=jX o;have h:=akR (b.sp i).pt g1 g2 n;have d:=G8 (b.sp i) (e i hi);have l:b.aw.take (i+1)=b.aw.take i++[b.sp i]:=by rw[be,a];rfl
  have c:=Hv 9 (b.sp i).name (b.aw.take i);rw[e i hi]at c;rw[<-l]at d;generalize NV.from (b.sp i).pt=r at*;simp[hi,a,aa];refine e1 h ?_;simp[c,d,m,aa];exact rd (i+1) (by omega)
 ·have:i=b.aw.length:=by omega
  subst this;simp[aa]
theorem Hi(l:List (List Nat))(s:List Nat)(h:l.length<=1000000):ar prog 109 [.seq (l.map .str),.str s] (.bool (decide (s∈l))):=by
 refine aI nf G7 mix (by simp[f109]) ?_;simp[f109];refine lp (α:=Nat) (fun i=>⟨[(5,.p (.int .i64 i)),(1,.p (.str s)),(0,.p (.seq (l.map .str)))],[]⟩) (fun i=>i<=l.length/\∀j(h:j<l.length),j<i->¬l[j]=s) (fun i=>l.length-i) 0 (by simp) ?_;rintro i ⟨k1,k2⟩;have d:=bR (i:=i) (by omega)
 by_cases hi:i<l.length
 ·by_cases a:l[i]=s
  ·have:s∈l:=a▸bl hi;simp[hi,a,this]
  ·simp[hi,a,d];exact rd (i+1) ⟨hi,fun j b f=>by
    by_cases e:j=i
    ·subst e;exact a
    ·exact k2 j b (by omega)⟩
 ·have c:¬s∈l:=fun h=>by
   obtain⟨j,b,e⟩:=aT.1 h;exact k2 j b (by omega) e
  simp[hi,c]
theorem TZ(l:List (List Nat))(s:List Nat)(h:l.length<=1000000):ar prog 292 [.seq (l.map .str),.str s] (.int .i64 (idxFrom (fun o=>decide (o=s)) l 0)):=by
 refine aI nf Pm mix (by simp[f292]) ?_;simp[f292];refine lp (α:=Nat) (fun i=>⟨[(8,.p (.int .i64 i)),(7,.p (.int .i64 l.length)),(1,.p (.str s)),(0,.p (.seq (l.map .str)))],[]⟩) (fun i=>i<=l.length/\idxFrom (fun o=>decide (o=s)) l 0=idxFrom (fun o=>decide (o=s)) (l.drop i) i) (fun i=>l.length-i) 0 (by simp) ?_;rintro i ⟨k1,k2⟩;have b:=bR (i:=i) (by omega)
 by_cases hi:i<l.length
 ·rw[ay hi,idxFrom]at k2
  by_cases hk:l[i]=s
  ·have a:s=l[i]:=hk.symm;simp[hk]at k2;simp[hi,<-a,k2]
  ·have a:¬s=l[i]:=fun e=>hk e.symm;simp[hk]at k2;simp[hi,a,b];exact rd (i+1) ⟨hi,k2⟩
 ·have:i=l.length:=by omega
  subst this;simp[idxFrom]at k2;simp[k2]
theorem T5(l:List (List Nat))(s:List Nat)(h:l.length<=1000000):ar prog 235 [.seq (l.map .str),.str s] (.bool (decide (s∈l))):=by
 have k:=TZ l s h;have e:=pf (fun o=>decide (o=s)) l 0;have e2:(l.any fun o=>decide (o=s))=decide (s∈l):=by
  rw[Bool.eq_iff_iff];simp
 rw[e2]at e;refine aI nf Qg mix (by simp[f235]) ?_;rw[<-e];generalize idxFrom (fun o=>decide (o=s)) l 0=y at*;simp[f235];refine c2 k ?_;simp
def jz(r:Int)(a p q:V2):Bool:=
 if dK ((a.sub p).dot (q.sub p))<=0 then decide (dC ((a.sub p).dot (a.sub p)) (iH r)<0)
 else if 0<=dC ((a.sub p).dot (q.sub p)) ((q.sub p).dot (q.sub p))then decide (dC ((a.sub q).dot (a.sub q)) (iH r)<0)
 else decide (dC ((q.sub p).c8 (a.sub p)*(q.sub p).c8 (a.sub p)) (iH r*(q.sub p).dot (q.sub p))<0)
theorem Hm(t b:aA)(a p q:NV)(n:0<=t.aN)(o:t.aN<=1000000)(g:bB 300 a.q)(h:bB 300 p.q)(hq:bB 300 q.q):
 ar prog 196 [l9 t b,bQ a,bQ p,bQ q] (.bool (jz t.aN a.q p.q q.q)):=by
 have c:=gL hq h;have d:=gL g h;have f:=gL g hq;rw[<-NV.fQ]at c d f;have of:=yB n o;have k:=lM d c;have i:=lM c c;have l:=lM d d;have m:=lM f f;have e:=xM c d;have k1:=qm q p (hq.mono (by decide)) (h.mono (by decide));have k2:=qm a p (g.mono (by decide)) (h.mono (by decide));have k3:=Eg (a.sub p) (q.sub p) (d.mono (by decide)) (c.mono (by decide));have k4:=ui ((a.sub p).dot (q.sub p));have k5:=Cc (a.sub p) (d.mono (by decide));have k6:=nC ((a.sub p).dot (a.sub p)) (.width t.aN) (by rw[NV.kZ];exact l.mono (by decide)) (of.mono (by decide));have k7:=Cc (q.sub p) (c.mono (by decide));have k8:=nC ((a.sub p).dot (q.sub p)) ((q.sub p).dot (q.sub p)) (by rw[NV.kZ];exact k.mono (by decide)) (by rw[NV.kZ];exact i.mono (by decide));have k9:=qm a q (g.mono (by decide)) (hq.mono (by decide));have nF:=Cc (a.sub q) (f.mono (by decide));have uM:=nC ((a.sub q).dot (a.sub q)) (.width t.aN) (by rw[NV.kZ];exact m.mono (by decide)) (of.mono (by decide));have sH:=F4 (q.sub p) (a.sub p) (c.mono (by decide)) (d.mono (by decide));have sJ:=jK ((q.sub p).c8 (a.sub p)) ((q.sub p).c8 (a.sub p)) (by rw[NV.sT];exact e.mono (by decide)) (by rw[NV.sT];exact e.mono (by decide));have sK:=jK (.width t.aN) ((q.sub p).dot (q.sub p)) (of.mono (by decide)) (by rw[NV.kZ];exact i.mono (by decide));have uN:=nC (((q.sub p).c8 (a.sub p)).mul ((q.sub p).c8 (a.sub p))) (NF.mul (.width t.aN) ((q.sub p).dot (q.sub p))) (by
  show bE kB (((q.sub p).c8 (a.sub p)).q*((q.sub p).c8 (a.sub p)).q);rw[NV.sT];exact(fC e e).mono (by decide)) (by
  show bE kB (iH t.aN*((q.sub p).dot (q.sub p)).q);rw[NV.kZ];exact(fC of i).mono (by decide))
 have e1:((a.sub p).dot (q.sub p)).q=(a.q.sub p.q).dot (q.q.sub p.q):=by rw[NV.kZ,NV.fQ,NV.fQ]
 have e2:((a.sub p).dot (a.sub p)).q=(a.q.sub p.q).dot (a.q.sub p.q):=by rw[NV.kZ,NV.fQ]
 have e3:((q.sub p).dot (q.sub p)).q=(q.q.sub p.q).dot (q.q.sub p.q):=by rw[NV.kZ,NV.fQ]
 have e4:((a.sub q).dot (a.sub q)).q=(a.q.sub q.q).dot (a.q.sub q.q):=by rw[NV.kZ,NV.fQ]
 have e5:(((q.sub p).c8 (a.sub p)).mul ((q.sub p).c8 (a.sub p))).q=(q.q.sub p.q).c8 (a.q.sub p.q)*(q.q.sub p.q).c8 (a.q.sub p.q):=by
  show((q.sub p).c8 (a.sub p)).q*((q.sub p).c8 (a.sub p)).q=_;rw[NV.sT,NV.fQ,NV.fQ]
 have j:(NF.mul (.width t.aN) ((q.sub p).dot (q.sub p))).q=iH t.aN*(q.q.sub p.q).dot (q.q.sub p.q):=by
  show iH t.aN*((q.sub p).dot (q.sub p)).q=_;rw[e3]
 rw[e1]at k4 k8;rw[e2,Hu]at k6;rw[e3]at k8;rw[e4,Hu]at uM;rw[e5,j]at uN;rw[<-dK]at k4;rw[jz];clear e1 e2 e3 e4 e5 j c d f of k i l m e;generalize dK ((a.q.sub p.q).dot (q.q.sub p.q))=s1 at*;generalize dC ((a.q.sub p.q).dot (q.q.sub p.q)) ((q.q.sub p.q).dot (q.q.sub p.q))=s2 at*;generalize dC ((a.q.sub p.q).dot (a.q.sub p.q)) (iH t.aN)=z at*;generalize dC ((a.q.sub q.q).dot (a.q.sub q.q)) (iH t.aN)=A at*;generalize dC ((q.q.sub p.q).c8 (a.q.sub p.q)*(q.q.sub p.q).c8 (a.q.sub p.q)) (iH t.aN*(q.q.sub p.q).dot (q.q.sub p.q))=B at*;generalize (NF.mul (.width t.aN) ((q.sub p).dot (q.sub p)))=r at*;generalize ((q.sub p).c8 (a.sub p)).mul ((q.sub p).c8 (a.sub p))=s at*;generalize (q.sub p).c8 (a.sub p)=u at*;generalize (a.sub q).dot (a.sub q)=v at*;generalize (a.sub p).dot (a.sub p)=w at*;generalize (q.sub p).dot (q.sub p)=x at*;generalize (a.sub p).dot (q.sub p)=y at*;generalize a.sub p=v1 at*;generalize q.sub p=v2 at*;generalize a.sub q=v3 at*;refine aI nf GU mix (by simp[f196]) ?_;simp[f196,aa];refine Go.ah.e2 k1 ?_;simp[aa];refine Go.ah.e2 k2 ?_;simp[aa];refine⟨by repeat' first|rfl|apply ab,?_⟩;refine Go.ah.c2 k3 ?_;simp[aa];refine Go.ah.c1 k4 ?_
 by_cases c1:s1<=0
 ·rw[if_pos c1];simp[c1,aa];refine Go.ah.e1 k5 ?_;simp[aa];refine Go.ah.e2 k6 ?_;simp[aa]
 rw[if_neg c1];simp[c1,aa];refine Go.ah.e1 k7 ?_;simp[aa];refine Go.ah.e2 k8 ?_
 by_cases c2:0<=s2
 ·rw[if_pos c2];simp[c2,aa];refine Go.ah.e2 k9 ?_;simp[aa];refine Go.ah.e1 nF ?_;simp[aa];refine Go.ah.e2 uM ?_;simp[aa]
 rw[if_neg c2];simp[c2,aa];refine Go.ah.c2 sH ?_;simp[aa];refine Go.ah.e2 sJ ?_;simp[aa];refine Go.ah.e1 k7 ?_;simp[aa];refine Go.ah.e2 sK ?_;simp[aa];refine Go.ah.e2 uN ?_;simp[aa]
@[simp high] theorem aMm(c:Bool)(H:an)(v w:V2):iu prog .eql 32 c H (.p (eV v)) (.p (eV w))=some (True,{v:=.p (.bool (oA (bg v.x) (bg v.y) (bg w.x) (bg w.y)))}):=by
 rw[eV,eV,gf,gf];simp[iu]
def uD(p q:V2):PV:=.st 121 [eV p,eV q]
@[simp] theorem aO6(p q:V2):aL (uD p q)=.agg 121:=rfl
@[simp] theorem aNw(p q:V2):bY (uD p q)=[eV p,eV q]:=rfl
def nM(a p q:V2):Rat:=
 if dK ((q.sub p).dot (a.sub p))<=0 then(a.sub p).dot (a.sub p)
 else if 0<=dC ((q.sub p).dot (a.sub p)) ((q.sub p).dot (q.sub p))then(a.sub q).dot (a.sub q)
 else(q.sub p).c8 (a.sub p)*(q.sub p).c8 (a.sub p)/(q.sub p).dot (q.sub p)
theorem TU(w:V2):V2.dot ⟨0,0⟩ w=0:=by simp only[V2.dot];grind
theorem aKF{q:Rat}(h:¬dK q<=0):0<q:=by
 rw[dK]at h
 split at h
 ·omega
 split at h
 ·omega
 ·grind
theorem BA{v w:V2}(h:¬dK (v.dot w)<=0):0<v.dot v:=by
 have h:=aKF h;obtain⟨x,y⟩:=v;obtain⟨a,b⟩:=w;simp only[V2.dot]at h⊢;have c:∀z:Rat,0<=z*z:=fun z=>by
  rcases Rat.le_total (a:=0) (b:=z)with g|g
  ·exact Rat.mul_nonneg g g
  ·have:z*z=(-z)*(-z):=by grind
   rw[this];exact Rat.mul_nonneg (by grind) (by grind)
 have d:=c x;have f:=c y
 by_cases hx:x=0
 ·by_cases hy:y=0
  ·subst hx hy;grind
  ·have:y*y≠0:=fun e=>by rcases Rat.mul_eq_zero.1 e with e|e<;>exact hy e
   grind
 ·have:x*x≠0:=fun e=>by rcases Rat.mul_eq_zero.1 e with e|e<;>exact hx e
  grind
theorem Z5(a p q:V2)(f:bB 300 a)(b:bB 300 p)(hq:bB 300 q):ar prog 198 [uD p q,eV a] (.str (bg (nM a p q))):=by
 have c:=gL hq b;have d:=gL f b;have k:=gL f hq;have j:=lM c d;have i:=lM c c;have e:=xM c d;have k1:=oU q p (hq.mono (by decide)) (b.mono (by decide));have k2:=oU a p (f.mono (by decide)) (b.mono (by decide));have k3:=DM (q.sub p) (a.sub p) (c.mono (by decide)) (d.mono (by decide));have k4:=uh ((q.sub p).dot (a.sub p)) (j.mono (by decide));have k5:=yG (a.sub p) (d.mono (by decide));have k7:=yG (q.sub p) (c.mono (by decide));have k8:=qI ((q.sub p).dot (a.sub p)) ((q.sub p).dot (q.sub p)) (j.mono (by decide)) (i.mono (by decide));have k9:=oU a q (f.mono (by decide)) (hq.mono (by decide));have nF:=yG (a.sub q) (k.mono (by decide));have sH:=FV (q.sub p) (a.sub p) (c.mono (by decide)) (d.mono (by decide));have sJ:=oP ((q.sub p).c8 (a.sub p)) ((q.sub p).c8 (a.sub p)) (e.mono (by decide)) (e.mono (by decide));have sK:=fun l=>Z2 ((q.sub p).c8 (a.sub p)*(q.sub p).c8 (a.sub p)) ((q.sub p).dot (q.sub p)) ((fC e e).mono (by decide)) (i.mono (by decide)) l;have n:(q.sub p)=⟨0,0⟩->dK ((q.sub p).dot (a.sub p))<=0:=fun h=>by rw[h,TU];decide
 have m:¬dK ((q.sub p).dot (a.sub p))<=0->(q.sub p).dot (q.sub p)≠0:=fun h=>by
  have:=BA h
  grind
 rw[nM];clear c d k j i e;generalize dK ((q.sub p).dot (a.sub p))=s1 at*;generalize dC ((q.sub p).dot (a.sub p)) ((q.sub p).dot (q.sub p))=s2 at*;generalize (q.sub p).dot (a.sub p)=r at*;generalize (a.sub p).dot (a.sub p)=s at*;generalize (a.sub q).dot (a.sub q)=u at*;generalize (q.sub p).dot (q.sub p)=v at*;generalize (q.sub p).c8 (a.sub p)=w at*;generalize a.sub p=v1 at*;generalize q.sub p=v2 at*;generalize a.sub q=v3 at*;have o:=aeT;refine aI nf Qm mix (by simp[f198]) ?_;simp[f198,aa];refine Go.ah.e2 k1 ?_;simp[aa];refine Go.ah.e2 k2 ?_;simp[aa];refine⟨by repeat' first|rfl|apply ab,?_⟩;refine Go.ah.e0 o ?_
 by_cases g:v2=⟨0,0⟩
 ·have:=n g;have b:oA (bg v2.x) (bg v2.y) (bg 0) (bg 0)=true:=by rw[g];simp[oA]
  rw[if_pos this];simp[-iu,b,aa];refine Go.ah.c1 k5 ?_;simp[aa]
 have b:oA (bg v2.x) (bg v2.y) (bg 0) (bg 0)=false:=S4 (t:=⟨0,0⟩) g
 by_cases c1:s1<=0
 ·rw[if_pos c1];simp[-iu,b,aa];refine Go.ah.e2 k3 ?_;simp[aa];refine Go.ah.e1 k4 ?_;simp[c1,aa];refine Go.ah.c1 k5 ?_;simp[aa]
 rw[if_neg c1];simp[-iu,b,aa];refine Go.ah.e2 k3 ?_;simp[aa];refine Go.ah.e1 k4 ?_;simp[c1,aa];refine Go.ah.e2 k3 ?_;simp[aa];refine Go.ah.e1 k7 ?_;simp[aa];refine Go.ah.e2 k8 ?_
 by_cases c2:0<=s2
 ·rw[if_pos c2];simp[c2,aa];refine Go.ah.c2 k9 ?_;simp[aa];refine Go.ah.c1 nF ?_;simp[aa]
 rw[if_neg c2];simp[c2,aa];refine Go.ah.c2 sH ?_;simp[aa];refine Go.ah.e2 sJ ?_;simp[aa];refine Go.ah.e1 k7 ?_;simp[aa];refine Go.ah.e2 (sK (m c1)) ?_;simp[aa]
theorem TV(v w:V2):v.dot w=w.dot v:=by simp only[V2.dot];grind
theorem TQ(r:Int)(a p q:V2):decide (dC (nM a p q) (iH r)<0)=jz r a p q:=by
 rw[nM,jz,TV (a.sub p) (q.sub p)]
 by_cases c1:dK ((q.sub p).dot (a.sub p))<=0
 ·rw[if_pos c1,if_pos c1]
 rw[if_neg c1,if_neg c1];have b:=BA c1
 by_cases c2:0<=dC ((q.sub p).dot (a.sub p)) ((q.sub p).dot (q.sub p))
 ·rw[if_pos c2,if_pos c2]
 rw[if_neg c2,if_neg c2,decide_eq_decide,Gd,Gd];exact Rat.div_lt_iff b
theorem TS(a p q:V2)(d:bB 300 a)(e:bB 300 p)(hq:bB 300 q):bE 8000 (nM a p q):=by
 have b:=gL hq e;have c:=gL d e;have g:=gL d hq;have f:=xM b c;rw[nM]
 split
 ·exact(lM c c).mono (by decide)
 split
 ·exact(lM g g).mono (by decide)
 ·rename_i i _;have h:=BA i;exact(OH (fC f f) (lM b b)).mono (by decide)
theorem Hj(r:Int)(a p q:V2)(b:0<=r)(c:r<=1000000)(d:bB 300 a)(e:bB 300 p)(hq:bB 300 q):ar prog 110 [.int .i64 r,uD p q,eV a] (.bool (jz r a p q)):=by
 have k1:=Z5 a p q d e hq;have k2:=ajY r b c;have k3:=qI (nM a p q) (iH r) ((TS a p q d e hq).mono (by decide)) ((yB b c).mono (by decide));refine aI nf G6 mix (by simp[f110]) ?_;rw[<-TQ];generalize dC (nM a p q) (iH r)=y at*;generalize nM a p q=n at*;simp[f110,aa];refine Go.ah.c2 k1 ?_;simp[aa];refine Go.ah.c1 k2 ?_;simp[aa];refine Go.ah.c2 k3 ?_;simp[aa]
def fu(r:Int)(p q:V2)(ex:List (List Nat)):List cG->List Nat
 |[]=>[]
 |s::l=>if !decide (s.name∈ex)&&jz r (vP s.pt) p q then s.name else fu r p q ex l
theorem T7{b:aA}(a:xB b){i:Nat}(hi:i<b.aw.length):dI b.aw (b.sp i).name=some (b.sp i):=by
 have h:=a.ne i hi;rw[dI]at h⊢;have e:b.aw=b.aw.take i++(b.sp i::b.aw.drop (i+1)):=by
  rw[<-aA.jS hi,<-ay hi,List.take_append_drop]
 generalize b.sp i=x at*;rw[e,List.find?_append,h];simp
theorem Hh(t b:aA)(p q:NV)(ex:List (List Nat))(h:0<=t.aN)(j:t.aN<=1000000)(f:xB b)(l:∀s∈b.aw,bB 300 (vP s.pt))(k:ex.length<=1000000)(m:bB 300 p.q)(hq:bB 300 q.q):
 ar prog 142 [l9 t b,bQ p,bQ q,.seq (ex.map .str)] (.str (fu t.aN p.q q.q ex b.aw)):=by
 have n:=f.sl;refine aI nf I7 mix (by simp[f142]) ?_;simp[f142,aa];refine lp (α:=Nat) (fun i=>⟨[(14,.p (.int .i64 i)),(13,.p (.int .i64 b.aw.length)),(12,.p (.seq (b.aw.map bK))),(6,.ptr 2 []),(5,.ptr 1 []),(4,.ptr 0 []),(3,.p (.seq (ex.map .str)))],[.box false (.p (l9 t b)),.box false (.p (bQ p)),.box false (.p (bQ q))]⟩) (fun i=>i<=b.aw.length/\fu t.aN p.q q.q ex b.aw=fu t.aN p.q q.q ex (b.aw.drop i)) (fun i=>b.aw.length-i) 0 (by simp) ?_;rintro i ⟨i1,i2⟩
 by_cases hi:i<b.aw.length
 ·have d:=aA.eK hi;have g:=bR (i:=i) (by omega);rw[ay hi,fu,aA.jS hi]at i2;have c:=T5 ex (b.sp i).name k;have a:=Hm t b (.from (b.sp i).pt) p q h j (by rw[iZ];exact l _ (ax d)) m hq;rw[iZ]at a;have e:=T7 f hi;generalize fu t.aN p.q q.q ex b.aw=R at*
  by_cases hm:(b.sp i).name∈ex
  ·simp[hm]at c i2;simp[hi,d,aa];refine Go.ah.c2 c ?_;simp[g,aa];exact rd (i+1) ⟨by omega,i2⟩
  ·simp[hm]at c i2;cases hk:jz t.aN (vP (b.sp i).pt) p.q q.q
   ·rw[hk]at a i2;simp[hi,d,aa];refine Go.ah.c2 c ?_;simp[e,aa];refine Go.ah.c4 a ?_;simp[g,aa];exact rd (i+1) ⟨by omega,by simpa using i2⟩
   ·rw[hk]at a i2;simp at i2;simp[hi,d,aa];refine Go.ah.c2 c ?_;simp[e,aa];refine Go.ah.c4 a ?_;simp[i2,aa]
 ·have:i=b.aw.length:=by omega
  subst this;simp[fu]at i2;simp[i2,aa]
theorem Ho(t b:aA)(p q:V2)(ex:List (List Nat))(f:0<=t.aN)(g:t.aN<=1000000)(m:b.aw.length<=1000000)(l:∀s∈b.aw,eA s.pt=0)(j:∀s∈b.aw,bB 300 (vP s.pt))(h:ex.length<=1000000)(k:bB 300 p)(hq:bB 300 q):
 ar prog 80 [cM t,.seq (b.aw.map bK),uD p q,.seq (ex.map .str)] (.str (fu t.aN p q ex b.aw)):=by
 refine aI nf RO mix (by simp[f80]) ?_;simp[f80,aa];refine lp (α:=Nat) (fun i=>⟨[(9,.p (.int .i64 i)),(6,.ptr 1 []),(4,.ptr 0 []),(3,.p (.seq (ex.map .str))),(1,.p (.seq (b.aw.map bK)))],[.box false (.p (cM t)),.box false (.p (uD p q))]⟩) (fun i=>i<=b.aw.length/\fu t.aN p q ex b.aw=fu t.aN p q ex (b.aw.drop i)) (fun i=>b.aw.length-i) 0 (by simp) ?_;rintro i ⟨i1,i2⟩
 by_cases hi:i<b.aw.length
 ·have a:=aA.eK hi;have e:=bR (i:=i) (by omega);rw[ay hi,fu,aA.jS hi]at i2;have d:=Hi ex (b.sp i).name h;have c:=Hj t.aN (vP (b.sp i).pt) p q f g (j _ (ax a)) k hq;rw[(vg (l _ (ax a))).1]at c;generalize fu t.aN p q ex b.aw=R at*
  by_cases hm:(b.sp i).name∈ex
  ·simp[hm]at d i2;simp[hi,a,aa];refine Go.ah.e2 d ?_;simp[e,aa];exact rd (i+1) ⟨by omega,i2⟩
  ·simp[hm]at d i2;cases hk:jz t.aN (vP (b.sp i).pt) p q
   ·rw[hk]at c i2;simp[hi,a,aa];refine Go.ah.e2 d ?_;simp[hi,a,aa];refine Go.ah.e3 c ?_;simp[e,aa];exact rd (i+1) ⟨by omega,by simpa using i2⟩
   ·rw[hk]at c i2;simp at i2;simp[hi,a,aa];refine Go.ah.e2 d ?_;simp[hi,a,aa];refine Go.ah.e3 c ?_;simp[hi,a,i2,aa]
 ·have:i=b.aw.length:=by omega
  subst this;simp[fu]at i2;simp[i2,aa]
def fp(t b:aA)(ak al:List Nat):PV:=.st 28 [cM t,.seq (b.aw.map bK),.str ak,.str al]
@[simp] theorem aOX(t b:aA)(ak al:List Nat):aL (fp t b ak al)=.agg 28:=rfl
@[simp] theorem aNo(t b:aA)(ak al:List Nat):bY (fp t b ak al)=[cM t,.seq (b.aw.map bK),.str ak,.str al]:=rfl
theorem vf(b:aA)(name:List Nat)(k:b.aw.length<=1000000):ar prog 16 [.seq (b.aw.map bK),.str name] (.int .i64 (jf b name)):=by
 refine aI nf Rm mix (by simp[f16]) ?_;simp[f16,aa];refine lp (α:=Nat) (fun i=>⟨[(5,.p (.int .i64 i)),(1,.p (.str name)),(0,.p (.seq (b.aw.map bK)))],[]⟩) (fun i=>i<=b.aw.length/\∀j,j<i->¬(b.sp j).name=name) (fun i=>b.aw.length-i) 0 (by simp) ?_;rintro i ⟨h,d⟩
 by_cases hi:i<b.aw.length
 ·have e:=aA.eK hi;have g:=bR (i:=i) (by omega)
  by_cases a:(b.sp i).name=name
  ·have:jf b name=i:=by
    have:b.aw.findIdx? (fun s=>decide (s.name=name))=some i:=by
     rw[a7];refine⟨hi,by rw[aA.jS];simp[a],fun j c=>?_⟩;rw[aA.jS];simp[d j c]
    rw[jf,this]
   simp[hi,e,a,this,aa]
  ·simp[hi,e,a,g,aa];exact rd (i+1) ⟨hi,fun j c=>by
    by_cases f:j=i
    ·subst f;exact a
    ·exact d j (by omega)⟩
 ·have:i=b.aw.length:=by omega
  subst this;have:jf b name= -1:=by
   have:b.aw.findIdx? (fun s=>decide (s.name=name))=none:=by
    rw[a8];intro s hs;obtain⟨j,c,rfl⟩:=aT.1 hs;rw[aA.jS];simp[d j c]
   rw[jf,this]
  simp[this,aa]
def hasB(b:aA)(name:List Nat)(i:Nat):Prop:=jf b name=i/\i<b.aw.length/\dI b.aw name=some (b.sp i)
theorem u7(b:aA)(name:List Nat):(∃i,hasB b name i)\/(jf b name= -1/\dI b.aw name=none):=by
 cases h:b.aw.findIdx? (fun s=>decide (s.name=name))with
 |some i=>
  left;have c:=h;rw[a7]at c;obtain⟨a,d,e⟩:=c;refine⟨i,by rw[jf,h],a,?_⟩;rw[dI,List.find?_eq_some_iff_getElem];rw[aA.jS a]at d;exact⟨d,i,a,aA.jS a,fun j f=>by have:=e j f;simpa using this⟩
 |none=>
  right;refine⟨by rw[jf,h],?_⟩;rw[a8]at h;rw[dI,a6];intro s hs;have:=h s hs;simpa using this
def lH(r:Int)(a:V2)(n:Nat):V2:=a.add ((sv n).mul ((2*r:Int):Rat))
structure gC(t b:aA)(ak al:List Nat)(i j:Nat):Prop where
 iB:gT t=0
 tl:t.cs.length<=1000000
 L:xB b
 ux:∀s∈b.aw,bB 60 (vP s.pt)
 ci:hasB b ak i
 bj:hasB b al j
theorem gC.at{t b:aA}{ak al:List Nat}{i j:Nat}(h:gC t b ak al i j){k:Nat}(hk:k<b.aw.length):eV (vP (b.sp k).pt)=gf (b.sp k).pt/\bB 60 (vP (b.sp k).pt):=by
 have m:=ax (aA.eK hk);exact⟨(vg (h.L.sp _ m).2).1,h.ux _ m⟩
theorem Bz{n:Nat}:bB 8 (sv n):=yT (Cz (Nat.mod_lt _ (by decide))) _
theorem yb{r:Int}{a:V2}{n:Nat}(d:0<=r)(e:r<=1000)(b:bB 60 a):bB 90 (lH r a n):=by
 have c:bE 12 ((2*r:Int):Rat):=mF (by omega) (by decide);exact(FR b (u3 Bz c)).mono (by decide)
theorem I1(t b:aA)(ak al:List Nat)(i j:Nat)(h:gC t b ak al i j):ar prog 18 [fp t b ak al] (eV (vP (b.sp i).pt)):=by
 obtain⟨d,a,_⟩:=h.ci;have e:=h.L.sl;have k:=vf b ak (by omega);have c:=aA.eK a;rw[d]at k;rw[(h.at a).1];refine aI nf Rn mix (by simp[f18]) ?_;simp[f18,aa];refine Go.ah.e2 k ?_;simp[a,c,aa]
theorem BB(t b:aA)(ak al:List Nat)(i j:Nat)(h:gC t b ak al i j):ar prog 81 [fp t b ak al] (eV (vP (b.sp j).pt)):=by
 obtain⟨d,a,_⟩:=h.bj;have e:=h.L.sl;have k:=vf b al (by omega);have c:=aA.eK a;rw[d]at k;rw[(h.at a).1];refine aI nf RP mix (by simp[f81]) ?_;simp[f81,aa];refine Go.ah.e2 k ?_;simp[a,c,aa]
theorem BO(t b:aA)(ak al:List Nat):ar prog 83 [fp t b ak al] (.seq [.str ak,.str al]):=by
 refine aI nf RR mix (by simp[f83]) ?_;simp[f83,aa]
theorem Ht(t b:aA)(ak al:List Nat)(i j n:Nat)(h:gC t b ak al i j)(a:n<32):ar prog 111 [fp t b ak al,.int .i64 n] (eV (lH t.aN (vP (b.sp j).pt) n)):=by
 obtain⟨d,e⟩:=ky h.iB;have k1:=BB t b ak al i j h;have k2:=aea n a;have k3:=wX (2*t.aN) (by omega) (by omega);have c:bE 12 ((2*t.aN:Int):Rat):=mF (by omega) (by decide);have k4:=Tx (vP (b.sp j).pt) (sv n) ((2*t.aN:Int):Rat) ((h.at h.bj.2.1).2.mono (by decide)) (Bz.mono (by decide)) (c.mono (by decide));have w:av.wrap (2*t.aN)=2*t.aN:=aQ _ (by omega) (by omega);rw[lH];refine aI nf G5 mix (by simp[f111]) ?_;generalize (vP (b.sp j).pt).add ((sv n).mul ((2*t.aN:Int):Rat))=R at*;generalize sv n=u at*;generalize vP (b.sp j).pt=p at*;generalize bg ((2*t.aN:Int):Rat)=x at*;simp[f111,aa];refine Go.ah.e1 k1 ?_;simp[aa];refine Go.ah.e1 k2 ?_;simp[w,aa];refine Go.ah.e1 k3 ?_;simp[aa];refine Go.ah.e3 k4 ?_;simp[aa]
def FC(t b:aA)(ak al:List Nat)(cp c a:V2):List Nat×Int:=
 if t.on a<=0 then([],16)
 else if dK ((a.sub cp).dot (c.sub a))<=0 then([],18)
 else if fu t.aN cp a [ak,al] b.aw=[]then([],0)else(fu t.aN cp a [ak,al] b.aw,30)
def fF(t b:aA)(ak al:List Nat)(i j n:Nat):List Nat×Int:=
 FC t b ak al (vP (b.sp i).pt) (vP (b.sp j).pt) (lH t.aN (vP (b.sp j).pt) n)
theorem BE(t b:aA)(ak al:List Nat)(i j n:Nat)(h:gC t b ak al i j)(l:n<32):
 ar prog 108 [fp t b ak al,.int .i64 n] (.aE [.str (fF t b ak al i j n).1,.int .i64 (fF t b ak al i j n).2]):=by
 obtain⟨u,v⟩:=ky h.iB;obtain⟨_,_,m,_⟩:=qG h.iB;have p:=h.L.sl;have f:=(h.at h.ci.2.1).2;have e:=(h.at h.bj.2.1).2;have k1:=Ht t b ak al i j n h l;have k2:=I1 t b ak al i j h;have k3:=BB t b ak al i j h;have k4:=BO t b ak al;have c:=yb (n:=n) (r:=t.aN) (by omega) (by omega) e;rw[fF];generalize lH t.aN (vP (b.sp j).pt) n=a at*;generalize vP (b.sp j).pt=d at*;generalize vP (b.sp i).pt=cp at*;have g:=gL c f;have k:=gL e c;have k5:=Eu t a h.tl m (c.mono (by decide));have k6:=oU a cp (c.mono (by decide)) (f.mono (by decide));have k7:=oU d a (e.mono (by decide)) (c.mono (by decide));have k8:=DM (a.sub cp) (d.sub a) (g.mono (by decide)) (k.mono (by decide));have k9:=uh ((a.sub cp).dot (d.sub a)) ((lM g k).mono (by decide));have nF:=Ho t b cp a [ak,al] (by omega) (by omega) (by omega) (fun s hs=>(h.L.sp s hs).2) (fun s hs=>(h.ux s hs).mono (by decide)) (by simp) (f.mono (by decide)) (c.mono (by decide));have o:ar prog 80 [cM t,.seq (b.aw.map bK),.st 121 [eV cp,eV a],.seq [.str ak,.str al]] (.str (fu t.aN cp a [ak,al] b.aw)):=nF;rw[FC];clear nF g k c e f;generalize fu t.aN cp a [ak,al] b.aw=R at*;generalize dK ((a.sub cp).dot (d.sub a))=s1 at*;generalize (a.sub cp).dot (d.sub a)=q at*;generalize a.sub cp=v1 at*;generalize d.sub a=v2 at*;generalize t.on a=y at*;refine aI nf GJ mix (by simp[f108]) ?_;simp[f108,aa];refine Go.ah.c2 k1 ?_;simp[aa];refine Go.ah.c2 k5 ?_
 by_cases c1:y<=0
 ·rw[if_pos c1];simp[c1,aa]
 rw[if_neg c1];simp[c1,aa];refine Go.ah.e1 k2 ?_;simp[aa];refine Go.ah.e2 k6 ?_;simp[aa];refine Go.ah.e1 k3 ?_;simp[aa];refine Go.ah.e2 k7 ?_;simp[aa];refine Go.ah.e2 k8 ?_;simp[aa];refine Go.ah.e1 k9 ?_
 by_cases c2:s1<=0
 ·rw[if_pos c2];simp[c2,aa]
 rw[if_neg c2];simp[c2,aa];refine Go.ah.e1 k2 ?_;simp[aa];refine Go.ah.e1 k4 ?_;simp[aa];refine Go.ah.e4 o ?_
 by_cases c3:R=[]
 ·rw[if_pos c3];simp[c3,aa]
 ·rw[if_neg c3];simp[c3,aa]
def jR(t b:aA)(ak al:List Nat)(i j m:Nat):List Nat:=(bv m).filter (fun n=>decide ((fF t b ak al i j n).2=0))
theorem TM(t b:aA)(ak al:List Nat)(i j m:Nat):jR t b ak al i j (m+1)=jR t b ak al i j m++(if(fF t b ak al i j m).2=0 then[m]else[]):=by
 rw[jR,List.range_succ,List.filter_append,<-jR]
 by_cases h:(fF t b ak al i j m).2=0
 ·simp[h]
 ·simp[h]
theorem TK(t b:aA)(ak al:List Nat)(i j m:Nat):(jR t b ak al i j m).length<=m:=by
 have:=List.length_filter_le (fun n=>decide ((fF t b ak al i j n).2=0)) (bv m);rw[List.length_range]at this;exact this
def iv(n:Nat):PV:=.int .i64 n
theorem Z7(t b:aA)(ak al:List Nat)(i j:Nat)(h:gC t b ak al i j):
 ar prog 38 [fp t b ak al] (.seq ((jR t b ak al i j 32).map iv)):=by
 have a:=fun n f=>BE t b ak al i j n h f;refine aI nf Rx mix (by simp[f38]) ?_;simp[f38,aa];refine lp (α:=Nat) (fun m=>⟨[(4,.p (.int .i64 m)),(3,.sl 1 (jR t b ak al i j m).length 1 0 (jR t b ak al i j m).length),(1,.ptr 0 [])],[.box false (.p (fp t b ak al)),.arr .grow (jR t b ak al i j m).length 1 ((jR t b ak al i j m).map (AV.p∘iv))]⟩) (fun m=>m<=32) (fun m=>32-m) 0 (by simp) ?_ (he:=by simp[jR]) (hh:=by simp[jR]);rintro m m1
 by_cases hm:m<32
 ·have d:=bR (i:=m) (by omega);have hs:=TM t b ak al i j m;have g:=TK t b ak al i j m;have k:(1000:Nat)<cN:=by decide
  have a:=a m hm;generalize (fF t b ak al i j m).2=e at*;generalize (fF t b ak al i j m).1=l at*;have c:(m:Int)<32:=by omega
  by_cases he:e=0
  ·rw[if_pos he]at hs;simp[c,aa];refine Go.ah.c2 a ?_;simp[he,d,aa];exact⟨by omega,rd (m+1) (by omega) (he:=by simp[hs]) (hh:=by simp[hs,iv])⟩
  ·rw[if_neg he,List.append_nil]at hs;simp[c,aa];refine Go.ah.c2 a ?_;simp[he,d,aa];exact rd (m+1) (by omega) (he:=by simp[hs]) (hh:=by simp[hs])
 ·have:m=32:=by omega
  subst this;simp[aa]
def fU(t b:aA)(ak al:List Nat):PV:=.st 65 [cg t,.seq (b.aw.map bK),.str ak,.str al]
@[simp] theorem aOW(t b:aA)(ak al:List Nat):aL (fU t b ak al)=.agg 65:=rfl
@[simp] theorem aNn(t b:aA)(ak al:List Nat):bY (fU t b ak al)=[cg t,.seq (b.aw.map bK),.str ak,.str al]:=rfl
@[simp] theorem aMy:prog.cellsOf 65=7:=by kernel_rfl
def dA(t b:aA)(ak al:List Nat):Int:=
 if gV t b≠0 then gV t b else if dI b.aw ak=none\/dI b.aw al=none then 10 else if ak=al then 9 else 0
theorem aKI(t b:aA)(ak al:List Nat)(h:gV t b=0):dA t b ak al=bG [aU (!(dI b.aw ak).isSome||!(dI b.aw al).isSome) 10,aU (ak==al) 9]:=by
 rw[dA,if_neg (by simp[h])];cases dI b.aw ak<;>cases dI b.aw al<;>by_cases e:ak=al<;>simp[bG,aU,e]
theorem Hq(t b:aA)(ak al:List Nat)(k:fL t)(c:fM b):ar prog 22 [fp t b ak al] (.int .i64 (dA t b ak al)):=by
 have k1:=Bx t b k c;have k2:=vf b ak c.sl;have k3:=vf b al c.sl;have w1:av.wrap (-1)= -1:=rfl;refine aI nf Rp mix (by simp[f22]) ?_;rw[dA]
 by_cases h:gV t b=0
 case neg=>
  rw[if_pos h];generalize gV t b=e at*;simp[f22,aa];refine Go.ah.c2 k1 ?_;simp[h,aa]
 rw[h]at k1;rw[if_neg (by simp[h])];rcases u7 b ak with⟨i,i1,i2,i3⟩|⟨i1,i3⟩
 case inr=>
  rw[i1]at k2;rw[if_pos (.inl i3)];simp[f22,aa];refine Go.ah.c2 k1 ?_;simp[aa];refine Go.ah.c2 k2 ?_;simp[aa]
 have a:¬(i:Int)<0:=by omega
 rw[i1]at k2;rcases u7 b al with⟨j,d,l,f⟩|⟨d,f⟩
 case inr=>
  rw[d]at k3;rw[if_pos (.inr f)];simp[f22,aa];refine Go.ah.c2 k1 ?_;simp[aa];refine Go.ah.c2 k2 ?_;simp[a,aa];refine Go.ah.c2 k3 ?_;simp[aa]
 have g:¬(j:Int)<0:=by omega
 rw[d]at k3;rw[if_neg (by rw[i3,f];simp)]
 by_cases e:ak=al
 ·rw[if_pos e];simp[f22,aa];refine Go.ah.c2 k1 ?_;simp[aa];refine Go.ah.c2 k2 ?_;simp[a,aa];refine Go.ah.c2 k3 ?_;simp[g,e,aa]
 ·rw[if_neg e];simp[f22,aa];refine Go.ah.c2 k1 ?_;simp[aa];refine Go.ah.c2 k2 ?_;simp[a,aa];refine Go.ah.c2 k3 ?_;simp[g,e,aa]
theorem GQ(t b:aA)(ak al:List Nat)(g:fL t)(a:fM b):ar prog 163 [fU t b ak al] (.int .i64 (dA t b ak al)):=by
 have k1:=TJ t b g a
 by_cases h:gV t b=0
 case neg=>
  rw[dA,if_pos h];refine aI nf Er mix (by simp[f163]) ?_;generalize gV t b=e at*;simp[f163,aa];refine Go.ah.c2 k1 ?_;simp[h,aa]
 obtain⟨d,f,_⟩:=yc a h;obtain⟨l,m⟩:=ky d;have k2:=Hr t b (by omega) (by omega) f;have k3:=pH (!(dI b.aw ak).isSome||!(dI b.aw al).isSome) 10;have k4:=pH (ak==al) 9;have k5:=B3 [aU (!(dI b.aw ak).isSome||!(dI b.aw al).isSome) 10,aU (ak==al) 9] (by simp);rw[<-aKI t b ak al h]at k5;rw[h]at k1;have i:ar prog 86 [.seq [.int .i64 (aU (!(dI b.aw ak).isSome||!(dI b.aw al).isSome) 10),.int .i64 (aU (ak==al) 9)]] (.int .i64 (dA t b ak al)):=by simpa using k5
 clear k5;refine aI nf Er mix (by simp[f163]) ?_;generalize dA t b ak al=E at*;generalize j:aU (ak==al) 9=w1 at*;generalize k:aU (!(dI b.aw ak).isSome||!(dI b.aw al).isSome) 10=n at*;cases hc:dI b.aw ak<;>cases c:dI b.aw al
 all_goals
  rw[hc,c]at k3;simp at k3;simp[f163,aa];refine Go.ah.c2 k1 ?_;simp[aa];refine Go.ah.c2 k2 ?_;simp[hc,c,aa];refine Go.ah.e2 k3 ?_;simp[aa];refine Go.ah.e2 k4 ?_;simp[aa];refine ep i (by simp;first|exact⟨rfl,rfl⟩|rfl) (by simp;first|exact⟨rfl,rfl⟩|rfl) ?_;simp[aa];rfl
noncomputable def iR(t b:aA)(ak al:List Nat):PV:=.st 156 [l9 t b,fU t b ak al]
@[simp] theorem aO4(t b:aA)(ak al:List Nat):aL (iR t b ak al)=.agg 156:=rfl
@[simp] theorem aNu(t b:aA)(ak al:List Nat):bY (iR t b ak al)=[l9 t b,fU t b ak al]:=rfl
def sD(t b:aA)(j n:Nat):NV:=(NV.from (b.sp j).pt).add ((NV.eQ (n/8) (jZ (n% 8))).times (.int (2*t.aN)))
theorem Ja(t b:aA)(j n:Nat):(sD t b j n).q=lH t.aN (vP (b.sp j).pt) n:=by
 rw[sD,NV.BW,NV.u5,NV.Ac,DR];rfl
theorem I0(t b:aA)(ak al:List Nat)(i j n:Nat)(h:gC t b ak al i j)(g:n<32):
 ar prog 190 [iR t b ak al,.int .i64 n] (bQ (sD t b j n)):=by
 obtain⟨m,o⟩:=ky h.iB;have e:=(h.at h.bj.2.1).2;have c:bB 8 (NV.eQ (n/8) (jZ (n% 8))).q:=by rw[NV.Ac,DR];exact Bz
 have a:bE 12 (NF.int (2*t.aN)).q:=mF (by omega) (by decide);have k1:=awu n g;have k2:=ke (2*t.aN) (by omega) (by omega);have k3:=Em (NV.eQ (n/8) (jZ (n% 8))) (.int (2*t.aN)) (c.mono (by decide)) (a.mono (by decide));have d:bB 20 ((NV.eQ (n/8) (jZ (n% 8))).times (.int (2*t.aN))).q:=by rw[NV.u5];exact u3 c a
 have k4:=HJ (.from (b.sp j).pt) ((NV.eQ (n/8) (jZ (n% 8))).times (.int (2*t.aN))) (by rw[iZ];exact e.mono (by decide)) (d.mono (by decide));have w:av.wrap (2*t.aN)=2*t.aN:=aQ _ (by omega) (by omega);have f:=h.bj.2.2;rw[sD];clear c a d e;generalize (NV.eQ (n/8) (jZ (n% 8))).times (.int (2*t.aN))=v1 at*;generalize NV.eQ (n/8) (jZ (n% 8))=v2 at*;generalize k:NV.add (NV.from (b.sp j).pt) v1=v3 at*;generalize NF.int (2*t.aN)=l at*;refine aI nf Qp mix (by simp[f190]) ?_;simp[f190,f,aa];refine Go.ah.e1 k1 ?_;simp[w,aa];refine Go.ah.e1 k2 ?_;simp[aa];refine Go.ah.e2 k3 ?_;simp[aa];refine Go.ah.e2 k4 ?_;simp[aa]
theorem az3(t b:aA)(ak al:List Nat)(a:NV)(d:t.cs.length<=1000000)(e:∀p∈t.cs,dU p)(c:bB 3000 a.q):
 cA prog 191 [.box false (.p (iR t b ak al)),.box false (.p (bQ a))] [.ptr 0 [],.ptr 1 []] [.box false (.p (iR t b ak al)),.box false (.p (bQ a))] (.p (.int .i64 (aU (!decide (0<t.on a.q)) 16))):=by
 have k1:=T0 t a d e c;have k2:=pH (!decide (0<t.on a.q)) 16;generalize decide (0<t.on a.q)=y at*;generalize hw:aU (!y) 16=w at*;refine fh nf GY mix (by simp[f191]) ?_;simp[f191,aa];refine Go.ah.c2 k1 ?_;simp[aa];refine Go.ah.c2 k2 ?_;simp[aa]
theorem az4(a c d:NV)(b:bB 300 a.q)(hc:bB 300 c.q)(g:bB 300 d.q):
 cA prog 193 [.box false (.p (bQ a)),.box false (.p (bQ c)),.box false (.p (bQ d))] [.ptr 0 [],.ptr 1 [],.ptr 2 []] [.box false (.p (bQ a)),.box false (.p (bQ c)),.box false (.p (bQ d))] (.p (.int .i64 (aU (decide (dK ((a.q.sub c.q).dot (d.q.sub a.q))<=0)) 18))):=by
 have e:=gL b hc;have f:=gL g b;rw[<-NV.fQ]at e f;have k1:=qm a c (b.mono (by decide)) (hc.mono (by decide));have k2:=qm d a (g.mono (by decide)) (b.mono (by decide));have k3:=Eg (a.sub c) (d.sub a) (e.mono (by decide)) (f.mono (by decide));have k4:=ui ((a.sub c).dot (d.sub a));rw[NV.kZ,NV.fQ,NV.fQ,<-dK]at k4;have k5:=pH (decide (dK ((a.q.sub c.q).dot (d.q.sub a.q))<=0)) 18;generalize dK ((a.q.sub c.q).dot (d.q.sub a.q))=y at*;generalize hw:aU (decide (y<=0)) 18=w at*;generalize (a.sub c).dot (d.sub a)=h at*;clear e f;generalize a.sub c=v1 at*;generalize d.sub a=v2 at*;refine fh nf GX mix (by simp[f193]) ?_;simp[f193,aa];refine Go.ah.e2 k1 ?_;simp[aa];refine Go.ah.e2 k2 ?_;simp[aa];refine Go.ah.e2 k3 ?_;simp[aa];refine Go.ah.e1 k4 ?_;simp[aa];refine Go.ah.e2 k5 ?_;simp[aa]
theorem az5(t b:aA)(ak al:List Nat)(a c:NV)(i j:Nat)(h:gC t b ak al i j)(d:bB 300 a.q)(hc:bB 300 c.q):
 cA prog 195 [.box false (.p (iR t b ak al)),.box false (.p (bQ c)),.box false (.p (bQ a)),.box false (.p (.str []))] [.ptr 0 [],.ptr 1 [],.ptr 2 [],.ptr 3 []]
  [.box false (.p (iR t b ak al)),.box false (.p (bQ c)),.box false (.p (bQ a)),.box false (.p (.str (fu t.aN c.q a.q [ak,al] b.aw)))] (.p (.int .i64 (aU (!(fu t.aN c.q a.q [ak,al] b.aw==[])) 30))):=by
 obtain⟨f,g⟩:=ky h.iB;have k1:=Hh t b c a [ak,al] (by omega) (by omega) h.L (fun s hs=>(h.ux s hs).mono (by decide)) (by simp) hc d;have e:ar prog 142 [l9 t b,bQ c,bQ a,.seq [.str ak,.str al]] (.str (fu t.aN c.q a.q [ak,al] b.aw)):=k1;have k2:=pH (!(fu t.aN c.q a.q [ak,al] b.aw==[])) 30;clear k1;generalize fu t.aN c.q a.q [ak,al] b.aw=R at*;generalize hw:aU (!(R==[])) 30=w at*;refine fh nf GV mix (by simp[f195]) ?_;simp[f195,aa];refine cp e (by simp;first|exact⟨rfl,rfl⟩|rfl) ?_;simp[aa];refine Go.ah.c2 k2 ?_;simp[aa];exact cV.og (by simp) (by simp) (by simp) (by simp) (by simp)
def aL8:PV:=.st 43 [.aP,.int .i64 0,.aP,.aP]
def FD:PV:=.st 65 [aL8,.aP,.str [],.str []]
def xI:PV:=.st 156 [u9,FD]
@[simp] theorem aPh:aL FD=.agg 65:=rfl
@[simp] theorem aPi:aL xI=.agg 156:=rfl
@[simp] theorem aNz:bY xI=[u9,FD]:=rfl
@[simp high] theorem aQj:cz prog 157=some xI:=by kernel_rfl
theorem vc(t b:aA)(ak al:List Nat)(i:fL t)(c:fM b)(h:dA t b ak al=0):ar prog 77 [fU t b ak al] (.aE [iR t b ak al,.int .i64 0]):=by
 have k1:=GQ t b ak al i c;have a:=h;rw[dA]at a;have g:gV t b=0:=by
  by_cases e:gV t b=0
  ·exact e
  ·rw[if_pos e]at a;exact a
 obtain⟨d,f,_⟩:=yc c g;obtain⟨j,k⟩:=ky d;have k2:=Hr t b (by omega) (by omega) f;rw[h]at k1;refine aI nf EM mix (by simp[f77]) ?_;rw[iR];simp[f77,aa];refine Go.ah.c1 k1 ?_;simp[aa];refine Go.ah.e2 k2 ?_;simp[aa]
theorem ya(t b:aA)(ak al:List Nat)(c:fL t)(a:fM b)(h:¬dA t b ak al=0):ar prog 77 [fU t b ak al] (.aE [xI,.int .i64 (dA t b ak al)]):=by
 have k1:=GQ t b ak al c a;generalize dA t b ak al=e at*;rw[xI];refine aI nf EM mix (by simp[f77]) ?_;simp[f77,aa];refine Go.ah.c1 k1 ?_;simp[h,aa]
theorem QO(t b:aA)(ak al:List Nat)(i j n:Nat)(h:gC t b ak al i j)(m:n<32):
 ar prog 105 [iR t b ak al,.int .i64 n] (.aE [.str (fF t b ak al i j n).1,.int .i64 (fF t b ak al i j n).2]):=by
 obtain⟨w,x⟩:=ky h.iB;obtain⟨_,_,o,_⟩:=qG h.iB;have f:=(h.at h.ci.2.1).2;have e:=(h.at h.bj.2.1).2;have k1:=I0 t b ak al i j n h m;have g:=h.ci.2.2;have l:=h.bj.2.2;have d:=yb (n:=n) (r:=t.aN) (by omega) (by omega) e;rw[fF];rw[<-Ja]at d⊢;generalize sD t b j n=a at*;have g1:=az3 t b ak al a h.tl o (d.mono (by decide));have g2:=az4 a (.from (b.sp i).pt) (.from (b.sp j).pt) (d.mono (by decide)) (by rw[iZ];exact f.mono (by decide)) (by rw[iZ];exact e.mono (by decide));have g3:=az5 t b ak al a (.from (b.sp i).pt) i j h (d.mono (by decide)) (by rw[iZ];exact f.mono (by decide));rw[iZ,iZ]at g2;rw[iZ]at g3;rw[FC];generalize fu t.aN (vP (b.sp i).pt) a.q [ak,al] b.aw=R at*;generalize dK ((a.q.sub (vP (b.sp i).pt)).dot ((vP (b.sp j).pt).sub a.q))=s1 at*;generalize t.on a.q=y at*;have s:av.wrap 1=1:=rfl;have u:av.wrap 2=2:=rfl;have v:av.wrap 3=3:=rfl;refine aI nf GL mix (by simp[f105]) ?_;simp[f105,aa];refine Go.ah.e2 k1 ?_;simp[g,l,aa];refine⟨by repeat' first|rfl|apply ab,?_⟩;refine lp (α:=Nat) (fun k=>⟨[(37,.p (.int .i64 k)),(36,.p (.int .i64 3)),(35,.sl 5 0 1 0 3),(11,.p (.int .i64 0)),(9,.ptr 4 [])],
  [.box false (.p (iR t b ak al)),.box false (.p (bQ a)),.box false (.p (bQ (.from (b.sp i).pt))),.box false (.p (bQ (.from (b.sp j).pt))),.box false (.p (.str [])),
   .arr .exact 0 1 [.func 191 [] [.ptr 0 [],.ptr 1 []],.func 193 [] [.ptr 1 [],.ptr 2 [],.ptr 3 []],.func 195 [] [.ptr 0 [],.ptr 2 [],.ptr 1 [],.ptr 4 []]]]⟩)
  (fun k=>k<=3/\(0<k->0<y)/\(1<k->¬s1<=0)/\(2<k->R=[])) (fun k=>3-k) 0 (by simp) ?_
 rintro k ⟨k0,k1,k2,k3⟩;rcases k with _|_|_|k
 ·by_cases c1:0<y
  ·have c:¬y<=0:=by omega
   simp[aU,c1]at g1;simp;refine cf g1 [0,1] ?_;simp[bf,sig,s];exact rd 1 ⟨by omega,fun _=>c1,fun h=>by omega,fun h=>by omega⟩
  ·have c:y<=0:=by omega
   simp[aU,c1]at g1;rw[if_pos c];simp;refine cf g1 [0,1] ?_;simp[bf,sig]
 ·have c1:=k1 (by omega);have c:¬y<=0:=by omega
  rw[if_neg c]
  by_cases c2:s1<=0
  ·simp[aU,c2]at g2;rw[if_pos c2];simp;refine cf g2 [1,2,3] ?_;simp[bf,sig]
  ·simp[aU,c2]at g2;simp;refine cf g2 [1,2,3] ?_;simp[bf,sig,u];exact rd 2 ⟨by omega,fun _=>c1,fun _=>c2,fun h=>by omega⟩
 ·have c1:=k1 (by omega);have c:¬y<=0:=by omega
  have c2:=k2 (by omega);rw[if_neg c,if_neg c2]
  by_cases c3:R=[]
  ·simp[aU,c3]at g3;rw[if_pos c3];simp;refine cf g3 [0,2,1,4] ?_;simp[bf,sig,v];exact rd 3 ⟨by omega,fun _=>c1,fun _=>c2,fun _=>c3⟩
  ·simp[aU,c3]at g3;rw[if_neg c3];simp;refine cf g3 [0,2,1,4] ?_;simp[bf,sig]
 ·have hk:k=0:=by omega
  subst hk;have c1:=k1 (by omega);have c:¬y<=0:=by omega
  have c2:=k2 (by omega);have c3:=k3 (by omega);rw[if_neg c,if_neg c2,if_pos c3];simp
def pc(n:Nat)(l:List cG):Bool:=!((decide (n<l.length)&&decide (l.length<=24))||decide (26<l.length))&&l.all iA
theorem GR(b:aA)(n:Nat)(t:b.aw.length<=1000000)(u:n<=1000):ar prog 41 [.seq (b.aw.map bK),.int .i64 n] (.bool (pc n b.aw)):=by
 refine aI nf RA mix (by simp[f41]) ?_;have m:pc n b.aw=(!((decide (n<b.aw.length)&&decide (b.aw.length<=24))||decide (26<b.aw.length))&&b.aw.all iA):=rfl;have tail:(n<b.aw.length->¬b.aw.length<=24)->¬26<b.aw.length->pc n b.aw=b.aw.all iA:=fun d a=>by
  rw[m]
  by_cases h:n<b.aw.length
  ·have:=d h;simp[h,this,a]
  ·simp[h,a]
 have loop:(n<b.aw.length->¬b.aw.length<=24)->¬26<b.aw.length->∀i,i<b.aw.length->(iA (b.sp i)=false->pc n b.aw=false):=fun d a i hi h=>by
  rw[tail d a];exact jo (aA.eK hi) h
 generalize pc n b.aw=R at*
 by_cases c1:n<b.aw.length/\b.aw.length<=24
 ·have v:(n:Int)<b.aw.length:=by omega
  have e:(b.aw.length:Int)<=24:=by omega
  have k:R=false:=by rw[m];simp[c1]
  simp[f41,aa,c1.1,e,k]
 by_cases c2:26<b.aw.length
 ·have f:(26:Int)<b.aw.length:=by omega
  have e:¬(b.aw.length:Int)<=24:=by omega
  have k:R=false:=by rw[m];simp[c2]
  by_cases c3:n<b.aw.length
  ·simp[f41,aa,c3,e,f,k]
  ·simp[f41,aa,c3,f,k]
 have f:¬(26:Int)<b.aw.length:=by omega
 have tl:=tail (fun d a=>c1 ⟨d,a⟩) c2;have g:=loop (fun d a=>c1 ⟨d,a⟩) c2;clear tail loop m
 by_cases c3:n<b.aw.length
 all_goals
  have e:n<b.aw.length->¬(b.aw.length:Int)<=24:=fun h=>by omega
  first
  |(have e:=e c3;simp[f41,aa,c3,e,f])
  |simp[f41,aa,c3,f]
  refine lp (α:=Nat) (fun i=>⟨[(5,.p (.int .i64 i)),(0,.p (.seq (b.aw.map bK)))],[]⟩) (fun i=>i<=b.aw.length/\(b.aw.take i).all iA=true) (fun i=>b.aw.length-i) 0 (by simp) ?_;rintro i ⟨k1,k2⟩
  by_cases hi:i<b.aw.length
  ·have c:=aA.eK hi;have s:=bR (i:=i) (by omega);have j:=mR (b.sp i).pt.x 40;have o:=mR (b.sp i).pt.y 40;have l:iA (b.sp i)=(decide ((b.sp i).name.length<=40)&&(decide ((b.sp i).pt.x.length<=40)&&decide ((b.sp i).pt.y.length<=40))):=rfl;have g:=g i hi
   by_cases a1:(b.sp i).name.length<=40
   case neg=>
    have b1:(40:Int)<(b.sp i).name.length:=by omega
    have:=g (by rw[l];simp[a1]);simp[hi,c,b1,this,aa]
   have b1:¬(40:Int)<(b.sp i).name.length:=by omega
   by_cases a2:(b.sp i).pt.x.length<=40
   case neg=>
    have q:¬((b.sp i).pt.x.length:Int)<=40:=by omega
    rw[decide_eq_false q]at j;have:=g (by rw[l];simp[a2]);simp[hi,c,b1,aa];refine Go.ah.c2 j ?_;simp[this,aa]
   have q:((b.sp i).pt.x.length:Int)<=40:=by omega
   rw[decide_eq_true q]at j
   by_cases a3:(b.sp i).pt.y.length<=40
   case neg=>
    have r:¬((b.sp i).pt.y.length:Int)<=40:=by omega
    rw[decide_eq_false r]at o;have:=g (by rw[l];simp[a3]);simp[hi,c,b1,aa];refine Go.ah.c2 j ?_;simp[hi,c,aa];refine Go.ah.c2 o ?_;simp[this,aa]
   have r:((b.sp i).pt.y.length:Int)<=40:=by omega
   rw[decide_eq_true r]at o;simp[hi,c,b1,aa];refine Go.ah.c2 j ?_;simp[hi,c,aa];refine Go.ah.c2 o ?_;simp[s,aa];exact rd (i+1) ⟨hi,by rw[ph c,k2,l];simp[a1,a2,a3]⟩
  ·have:i=b.aw.length:=by omega
   subst this;rw[a5]at k2;rw[tl,k2];simp
def oY(p:gS)(D:Nat):Bool:=fD p.x D&&fD p.y D
def qt(t b:aA)(n D:Nat):Bool:=
 l8 t&&(pc n b.aw&&(decide (b.aw.length<=n)&&(decide (gV t b=0)&&(decide (t.aw.length<=8)&&(t.aV.all (fun p=>fD p.a D&&fD p.b D)&&(t.aw.all (fun s=>oY s.pt D)&&b.aw.all (fun s=>oY s.pt D)))))))
theorem Z3(t b:aA)(n D:Nat)(I:fL t)(G:fM b)(H:n<=1000)(M:D<=1000):ar prog 43 [cM t,.seq (b.aw.map bK),.int .i64 n,.int .i64 D] (.bool (qt t b n D)):=by
 obtain⟨B,C,E,z,A⟩:=I;obtain⟨F,w⟩:=G;have g:=Gv t B C E;have k:=GR b n F H;have L:=Bx t b ⟨B,C,E,z,A⟩ ⟨F,w⟩;refine aI nf RD mix (by simp[f43]) ?_;rw[qt];generalize gV t b=e at*;cases u:l8 t
 ·rw[u]at g;simp[f43,aa];refine Go.ah.c1 g ?_;simp[aa]
 rw[u]at g;cases v:pc n b.aw
 ·rw[v]at k;simp[f43,aa];refine Go.ah.c1 g ?_;simp[aa];refine Go.ah.c2 k ?_;simp[aa]
 rw[v]at k;simp[f43,aa];refine Go.ah.c1 g ?_;simp[aa];refine Go.ah.c2 k ?_
 by_cases l:b.aw.length<=n
 case neg=>
  have q:n<b.aw.length:=by omega
  simp[l,q,aa]
 have q:¬n<b.aw.length:=by omega
 simp[l,q,aa];refine Go.ah.c2 L ?_
 by_cases j:e=0
 case neg=>simp[j,aa]
 by_cases m:t.aw.length<=8
 case neg=>
  have r:(8:Int)<t.aw.length:=by omega
  simp[j,m,r,aa]
 have r:¬(8:Int)<t.aw.length:=by omega
 simp[j,m,r,aa];refine lp (α:=Nat) (fun i=>⟨[(9,.p (.int .i64 i)),(4,.ptr 0 []),(3,.p (.int .i64 D)),(1,.p (.seq (b.aw.map bK)))],[.box false (.p (cM t))]⟩) (fun i=>i<=t.aV.length/\(t.aV.take i).all (fun p=>fD p.a D&&fD p.b D)=true) (fun i=>t.aV.length-i) 0 (by simp) ?_;rintro i ⟨i1,i2⟩
 by_cases hi:i<t.aV.length
 ·have c:=aA.jd hi;have f:=bR (i:=i) (by omega);obtain⟨_,J,K⟩:=z _ (ax c);have d:=AD (t.pk i).a D J (by omega);have f2:=AD (t.pk i).b D K (by omega);have bad:(fD (t.pk i).a D&&fD (t.pk i).b D)=false->t.aV.all (fun p=>fD p.a D&&fD p.b D)=false:=fun h=>jo c h;cases a1:fD (t.pk i).a D
  ·rw[a1]at d;rw[bad (by rw[a1];rfl)];simp[hi,c,aa];refine Go.ah.c2 d ?_;simp[aa]
  rw[a1]at d;cases a2:fD (t.pk i).b D
  ·rw[a2]at f2;rw[bad (by rw[a2];simp)];simp[hi,c,aa];refine Go.ah.c2 d ?_;simp[hi,c,aa];refine Go.ah.c2 f2 ?_;simp[aa]
  rw[a2]at f2;simp[hi,c,aa];refine Go.ah.c2 d ?_;simp[hi,c,aa];refine Go.ah.c2 f2 ?_;simp[f,aa];exact rd (i+1) ⟨hi,by rw[ph c,i2,a1,a2];rfl⟩
 have:i=t.aV.length:=by omega
 subst this;rw[a5]at i2;rw[i2];clear i1 i2 hi;simp[aa];refine lp (α:=Nat) (fun i=>⟨[(10,.p (.int .i64 i)),(4,.ptr 0 []),(3,.p (.int .i64 D)),(1,.p (.seq (b.aw.map bK)))],[.box false (.p (cM t))]⟩) (fun i=>i<=t.aw.length/\(t.aw.take i).all (fun s=>oY s.pt D)=true) (fun i=>t.aw.length-i) 0 (by simp) ?_;rintro i ⟨i1,i2⟩
 by_cases hi:i<t.aw.length
 ·have c:=aA.eK hi;have f:=bR (i:=i) (by omega);have d:=Mb (t.sp i).pt D (A _ (ax c)).2 (by omega);have o:oY (t.sp i).pt D=(fD (t.sp i).pt.x D&&fD (t.sp i).pt.y D):=rfl;rw[<-o]at d;cases a1:oY (t.sp i).pt D
  ·rw[a1]at d;rw[jo c a1];simp[hi,c,aa];refine Go.ah.c2 d ?_;simp[aa]
  rw[a1]at d;simp[hi,c,aa];refine Go.ah.c2 d ?_;simp[f,aa];exact rd (i+1) ⟨hi,by rw[ph c,i2,a1];rfl⟩
 have:i=t.aw.length:=by omega
 subst this;rw[a5]at i2;rw[i2];clear i1 i2 hi;simp[aa];refine lp (α:=Nat) (fun i=>⟨[(11,.p (.int .i64 i)),(3,.p (.int .i64 D)),(1,.p (.seq (b.aw.map bK)))],[]⟩) (fun i=>i<=b.aw.length/\(b.aw.take i).all (fun s=>oY s.pt D)=true) (fun i=>b.aw.length-i) 0 (by simp) ?_;rintro i ⟨i1,i2⟩
 by_cases hi:i<b.aw.length
 ·have c:=aA.eK hi;have f:=bR (i:=i) (by omega);have d:=Mb (b.sp i).pt D (w _ (ax c)).2 (by omega);have o:oY (b.sp i).pt D=(fD (b.sp i).pt.x D&&fD (b.sp i).pt.y D):=rfl;rw[<-o]at d;cases a1:oY (b.sp i).pt D
  ·rw[a1]at d;rw[jo c a1];simp[hi,c,aa];refine Go.ah.c2 d ?_;simp[aa]
  rw[a1]at d;simp[hi,c,aa];refine Go.ah.c2 d ?_;simp[f,aa];exact rd (i+1) ⟨hi,by rw[ph c,i2,a1];rfl⟩
 have:i=b.aw.length:=by omega
 subst this;rw[a5]at i2;rw[i2];simp[l,j,m,aa]
def po(t b:aA)(ak al:List Nat)(n:Nat):Bool:=
 decide (ak.length<=40)&&(decide (al.length<=40)&&(l8 t&&(pc n b.aw&&(decide (gV t b≠0)||qt t b n 9))))
theorem Hn(t b:aA)(ak al:List Nat)(n:Nat)(a:fL t)(h:fM b)(j:n<=1000):ar prog 7 [fp t b ak al,.int .i64 n] (.bool (po t b ak al n)):=by
 have f:=Gv t a.cl a.pl a.sl;have k:=GR b n h.sl j;have l:=Bx t b a h;have m:=Z3 t b n 9 a h j (by decide);refine aI nf RJ mix (by simp[f7]) ?_;rw[po];generalize gV t b=e at*;generalize qt t b n 9=o at*
 by_cases a1:ak.length<=40
 case neg=>
  have c:(40:Int)<ak.length:=by omega
  simp[f7,a1,c,aa]
 have c:¬(40:Int)<ak.length:=by omega
 by_cases a2:al.length<=40
 case neg=>
  have d:(40:Int)<al.length:=by omega
  simp[f7,a2,c,d,aa]
 have d:¬(40:Int)<al.length:=by omega
 cases i:l8 t
 ·rw[i]at f;simp[f7,c,d,aa];refine Go.ah.c1 f ?_;simp[aa]
 rw[i]at f;simp[f7,a1,a2,c,d,aa];refine Go.ah.c1 f ?_;simp[aa];refine Go.ah.c2 k ?_;cases p:pc n b.aw
 ·simp[aa]
 simp[aa];refine Go.ah.c2 l ?_
 by_cases g:e=0
 case neg=>simp[a1,a2,g,aa]
 simp[g,aa];refine Go.ah.c4 m ?_;simp[a1,a2,g,aa]
theorem T6(b:aA)(f:b.aw.length<=1000000):ar prog 12 [.seq (b.aw.map bK)] (.seq (b.aw.map bK)):=by
 have g:(1000000:Nat)<cN:=by decide
 have w1:av.wrap 1=1:=by decide
 refine aI nf Rl mix (by simp[f12]) ?_;simp[f12,aa];refine lp (α:=Nat) (fun i=>⟨[(8,.p (.int .i64 i)),(7,.p (.int .i64 b.aw.length)),(6,.p (.seq (b.aw.map bK))),(3,.sl 0 i 3 0 i)],[.arr .grow i 3 ((b.aw.map (AV.p∘bK)).take i)]⟩) (fun i=>i<=b.aw.length) (fun i=>b.aw.length-i) 0 (by simp) ?_;rintro i i1
 by_cases hi:i<b.aw.length
 ·have a:=aA.eK hi;have e:=bR (i:=i) (by omega);have d:(b.aw.map (AV.p∘bK)).take (i+1)=(b.aw.map (AV.p∘bK)).take i++[.p (bK (b.sp i))]:=by
   rw[be,List.getElem?_map,a];rfl
  have c:min i b.aw.length=i:=by omega
  simp[hi,a,e,c,aa];exact⟨by omega,rd (i+1) hi (hh:=by simp[d]) (hr2:=by simp[kx])⟩
 ·have:i=b.aw.length:=by omega
  subst this;simp[aa]
theorem Jb(t b:aA)(ak al:List Nat)(a:fL t)(c:fM b):ar prog 20 [fp t b ak al] (fU t b ak al):=by
 have k1:=TE t a.cl a.pl a.sl;have k2:=T6 b c.sl;refine aI nf Ro mix (by simp[f20]) ?_;rw[fU];simp[f20,aa];refine Go.ah.e1 k1 ?_;simp[aa];refine Go.ah.e1 k2 ?_;simp[aa]
theorem T8(l:List Nat)(h:l.length<=1000000):ar prog 26 [.seq (l.map iv),.seq (l.map iv)] (.bool true):=by
 refine aI nf Rt mix (by simp[f26]) ?_;simp[f26];refine lp (α:=Nat) (fun i=>⟨[(5,.p (.int .i64 i)),(1,.p (.seq (l.map iv))),(0,.p (.seq (l.map iv)))],[]⟩) (fun i=>i<=l.length) (fun i=>l.length-i) 0 (by simp) ?_;rintro i i1;have a:=bR (i:=i) (by omega)
 by_cases hi:i<l.length
 ·simp[hi,a,iv];exact rd (i+1) hi
 ·simp[hi]
theorem Hp{t b:aA}{ak al:List Nat}(h:dA t b ak al=0):gV t b=0/\dI b.aw ak≠none/\dI b.aw al≠none/\ak≠al:=by
 rw[dA]at h
 by_cases a:gV t b=0
 case neg=>rw[if_pos a]at h;exact absurd h a
 rw[if_neg (by simp[a])]at h
 by_cases c:dI b.aw ak=none\/dI b.aw al=none
 ·rw[if_pos c]at h;omega
 rw[if_neg c]at h
 by_cases d:ak=al
 ·rw[if_pos d]at h;omega
 exact⟨a,fun e=>c (.inl e),fun e=>c (.inr e),d⟩
theorem IY{t b:aA}{ak al:List Nat}{n:Nat}(m:fL t)(k:fM b)(hs:po t b ak al n=true)(h:dA t b ak al=0):∃i j,gC t b ak al i j:=by
 obtain⟨a,c,d,_⟩:=Hp h;obtain⟨f,g,_⟩:=yc k a;rw[po,a]at hs;simp only[am,Bool.or_eq_true,decide_eq_true_eq]at hs;obtain⟨_,_,_,_,hs⟩:=hs;have hf:qt t b n 9=true:=by
  rcases hs with hs|hs
  ·exact absurd rfl hs
  ·exact hs
 rw[qt]at hf;simp only[am,List.all_eq_true]at hf;obtain⟨_,_,_,_,_,_,_,hf⟩:=hf;rcases u7 b ak with⟨i,hi⟩|⟨_,e⟩
 case inr=>exact absurd e c
 rcases u7 b al with⟨j,l⟩|⟨_,e⟩
 case inr=>exact absurd e d
 refine⟨i,j,f,m.cl,g,fun s hs=>?_,hi,l⟩;have:=hf s hs;rw[oY,am]at this;exact⟨(AA this.1).mono (by decide),(AA this.2).mono (by decide)⟩
open Go.Proofs Go.Proofs.YthmfmhbicipdmaaGreatDoor
structure xK where
 t:aA
 b:aA
 ak:List Nat
 al:List Nat
def Q8(s:xK):PV:=fp s.t s.b s.ak s.al
structure Sb(s:xK):Prop where
 t:fL s.t
 b:fM s.b
 ak:jc s.ak
 al:jc s.al
section
variable{H:Type}{W:World}{ad:Nat->Prop}
theorem aLo:∃a b:Field,prog.underlying 57=some (.struct #[a,b])/\a.type=9/\b.type=32:=⟨_,_,underlying57,rfl,rfl⟩
theorem SE:prog.underlyingId 57=56:=by kernel_rfl
theorem TP{m n:Nat}(s:m=n+2){d:ap H}(h:∃cs,aW prog W ad (bu prog (m+1) 57 d) cs)(o:Rows.uptoBulk d<=1048576):∃p:cG,bu prog (m+1) 57 d=bK p/\nG p/\2<=Rows.uptoBulk d:=by
 obtain⟨cs,h⟩:=h;obtain⟨f0,f1,g,t0,t1⟩:=aLo;cases d with
 |agg l=>
  have f:∀x∈l,Rows.uptoBulk x<=1048576:=fun x hx=>by
   have:=oV.uv hx;rw[Rows.uptoBulk]at o;omega
  simp only[bu,g,aW]at h⊢;obtain⟨u,t,e,c,_⟩:=h;rw[SE,SB]at e;cases e
  match l,c with
  |[],c=>simp[bm]at c
  |[x],c=>simp[bm]at c
  |x::y::r,c=>
   have:=xN x;simp only[a9,a4,bm,bb,bp,t0,t1]at c⊢;obtain⟨c0,_,_,g1,_,c1,_,_,g2,_⟩:=c;subst s;obtain⟨a,i,k⟩:=sY (n:=n+1) ⟨c0,g1⟩ (f x (by simp));obtain⟨b,j,q⟩:=KC (n:=n) ⟨c1,g2⟩ (f y (by simp));refine⟨⟨a,b⟩,by rw[i,j,SE];rfl,⟨k,q⟩,?_⟩;rw[Rows.uptoBulk,Rows.uptoBulkAll];omega
 |_=>simp only[bu,g,aW]at h
theorem aLs:∃a b f2 f3:Field,prog.underlying 29=some (.struct #[a,b,f2,f3])/\a.type=26/\b.type=27/\f2.type=9/\f3.type=9:=⟨_,_,_,_,underlying29,rfl,rfl,rfl,rfl⟩
theorem SI:prog.underlyingId 29=28:=by kernel_rfl
theorem aKJ{m n:Nat}(s:m=n+5){d:ap H}(h:∃cs,aW prog W ad (bu prog (m+1) 29 d) cs)(f:Rows.uptoBulk d<=1048576):∃t:xK,bu prog (m+1) 29 d=Q8 t/\True/\Sb t:=by
 obtain⟨cs,h⟩:=h;obtain⟨f0,f1,f2,f3,i,t0,t1,t2,t3⟩:=aLs;cases d with
 |agg l=>
  have e:∀x∈l,Rows.uptoBulk x<=1048576:=fun x hx=>by
   have:=oV.uv hx;rw[Rows.uptoBulk]at f;omega
  simp only[bu,i,aW]at h⊢;obtain⟨E,D,g,c,_⟩:=h;rw[SI,aK1]at g;cases g
  match l,c with
  |[],c=>simp[bm]at c
  |[x],c=>simp[bm]at c
  |[x,y],c=>simp[bm]at c
  |[x,y,z],c=>simp[bm]at c
  |x::y::z::w::r,c=>
   simp only[a9,a4,bm,bb,bp,t0,t1,t2,t3]at c⊢;obtain⟨c0,_,_,g0,_,c1,_,_,g1,_,c2,_,_,g2,_,c3,_,_,g3,_⟩:=c;subst s;obtain⟨a,j,_,o⟩:=aK4 (n:=n) rfl ⟨c0,g0⟩ (e x (by simp));obtain⟨b,k,p,C⟩:=xY (n:=n+4) aLm (F:=bK) (ok:=nG) (fun d q f=>TP (n:=n+1) rfl q f) ⟨c1,g1⟩ (e y (by simp));obtain⟨u,eu,A⟩:=sY (n:=n+4) ⟨c2,g2⟩ (e z (by simp));obtain⟨v,ev,B⟩:=sY (n:=n+4) ⟨c3,g3⟩ (e w (by simp));exact⟨⟨a,⟨[],0,[],b⟩,u,v⟩,by rw[j,k,eu,ev,SI];rfl,trivial,o,⟨C,p⟩,A,B⟩
 |_=>simp only[bu,i,aW]at h
theorem Hl{d:ap H}(h:∃cs,aW prog W ad (bu prog 8 29 d) cs)(a:Rows.uptoBulk d<=1048576):∃t:xK,bu prog 8 29 d=Q8 t/\True/\Sb t:=aKJ (n:=2) rfl h a
end
section
variable{H:Type}{W:World}{ad:Nat->Prop}
theorem aKC{α:Type}{n:Nat}{t e:TypeId}{F:α->PV}{ok:α->Prop}(g:prog.underlying t=some (.slice e))
 (p:∀(d:ap H),(∃c,aW prog W ad (bu prog n e d) c)->Rows.uptoBulk d<=1048576->∃a,bu prog n e d=F a/\ok a)
 {d:ap H}(h:∃cs,aW prog W ad (bu prog (n+1) t d) cs)(k:Rows.uptoBulk d<=1048576):∃l:List α,bu prog (n+1) t d=.seq (l.map F)/\∀a∈l,ok a:=by
 obtain⟨cs,h⟩:=h;cases d with
 |nil=>exact⟨[],by simp[bu,g],(fun _ h=>nomatch h)⟩
 |slice f sp=>
  simp only[bu,g,aW]at h⊢;have i:∀e'∈f.map (bu prog n e),∃c,aW prog W ad e' c:=by
   rcases h with⟨h,_⟩|⟨_,_,_,_,w,h,_⟩
   ·rw[h];intro _ h;cases h
   ·exact Bq h
  have key:∀f:List (ap H),(∀e'∈f.map (bu prog n e),∃c,aW prog W ad e' c)->Rows.uptoBulkAll f<=1048576->∃l:List α,f.map (bu prog n e)=l.map F/\(∀a∈l,ok a):=by
   intro f
   induction f with
   |nil=>intro _ _;exact⟨[],rfl,(fun _ h=>nomatch h)⟩
   |cons d r v=>
    intro i k;rw[Rows.uptoBulkAll]at k;obtain⟨a,q,u⟩:=p d (i _ List.mem_cons_self) (by omega);obtain⟨l,j,o⟩:=v (fun e' s=>i e' (List.mem_cons_of_mem _ s)) (by omega);refine⟨a::l,by simp only[a4];rw[q,j],fun x hx=>?_⟩;rcases List.mem_cons.1 hx with rfl|hx
    ·exact u
    ·exact o x hx
  rw[Rows.uptoBulk]at k;obtain⟨l,j,m⟩:=key f i (by omega);exact⟨l,by rw[j],m⟩
 |lit l=>simp only[bu,g,aW]at h
 |ptr d=>simp only[bu,g,aW]at h
 |agg l=>simp only[bu,g,aW]at h
 |iface a b=>simp only[bu,g,aW]at h
 |map l=>simp only[bu,g,aW]at h
 |held a=>simp only[bu,g,aW]at h
theorem Uq{d:ap H}(h:∃cs,aW prog W ad (bu prog 8 68 d) cs)(a:Rows.uptoBulk d<=1048576):∃l:List (List Nat),bu prog 8 68 d=.seq (l.map .str)/\True:=by
 obtain⟨l,b,_⟩:=aKC (n:=7) aLn (F:=.str) (ok:=jc) (fun d c a=>sY (n:=6) c a) h a;exact⟨l,b,trivial⟩
end
namespace Hk
mutual
def sQ:PV->PV->Bool
 | .int .i64 a,.int .i64 b=>oX a b
 | .int .u64 a,.int .u64 b=>oX a b
 | .bool a,.bool b=>a==b
 | .str a,.str b=>sP a b
 | .aP,.aP=>true
 | .fk,.fk=>true
 | .cT f a,.cT g b=>bif f==g then lW a b else false
 | .seq a,.seq b=>lW a b
 | .eg a,.eg b=>uQ a b
 | .st u a,.st v b=>bif bV u v then lW a b else false
 | .aE a,.aE b=>lW a b
 | .func f a b,.func g c d=>bif bV f g then(bif lW a c then lW b d else false)else false
 | .cq a,.cq b=>sQ a b
 |_,_=>false
def lW:List PV->List PV->Bool
 |[],[]=>true
 |a::l,b::m=>bif sQ a b then lW l m else false
 |_,_=>false
def uQ:List (PV×PV)->List (PV×PV)->Bool
 |[],[]=>true
 |(a,c)::l,(b,d)::m=>bif sQ a b then(bif sQ c d then uQ l m else false)else false
 |_,_=>false
end
mutual
theorem vY:∀{a b:PV},sQ a b=true->a=b
 |a,b,h=>by
  unfold sQ at h
  split at h
  ·rw[zW h]
  ·rw[zW h]
  ·rw[eq_of_beq h]
  ·rw[Dj h]
  ·rfl
  ·rfl
  ·rename_i f a g b;cases hf:f==g
   ·rw[hf]at h;cases h
   ·rw[hf,cond_true]at h;rw[eq_of_beq hf,pM h]
  ·rw[pM h]
  ·rw[Nh h]
  ·simp only[ac]at h
   split at h
   ·rename_i i;rw[bI i,pM h]
   ·cases h
  ·rw[pM h]
  ·simp only[ac]at h
   split at h
   ·rename_i i
    split at h
    ·rename_i e;rw[bI i,pM e,pM h]
    ·cases h
   ·cases h
  ·rw[vY h]
  ·cases h
theorem pM:∀{a b:List PV},lW a b=true->a=b
 |[],[],_=>rfl
 |[],_::_,h=>by simp[lW]at h
 |_::_,[],h=>by simp[lW]at h
 |a::l,b::m,h=>by
  simp only[lW,ac]at h
  split at h
  ·rename_i e;rw[vY e,pM h]
  ·cases h
theorem Nh:∀{a b:List (PV×PV)},uQ a b=true->a=b
 |[],[],_=>rfl
 |[],_::_,h=>by simp[uQ]at h
 |_::_,[],h=>by simp[uQ]at h
 |(a,c)::l,(b,d)::m,h=>by
  simp only[uQ,ac]at h
  split at h
  ·rename_i e
   split at h
   ·rename_i j;rw[vY e,vY j,Nh h]
   ·cases h
  ·cases h
end
def wJ:List (ao×List PV×PV)->ao->List PV->Option PV
 |[],f,vs=>hk f vs
 |(g,us,v)::r,f,vs=>bif bV g f then(bif lW us vs then some v else wJ r f vs)else wJ r f vs
def lD:List (ao×List PV×PV)->Prop
 |[]=>True
 |(g,us,v)::r=>ar prog g us v/\lD r
theorem vI:∀{l m:List (ao×List PV×PV)},lD l->lD m->lD (l++m)
 |[],_,_,h=>h
 |_::_,_,h,a=>⟨h.1,vI h.2 a⟩
theorem Ct:∀{l:List (ao×List PV×PV)},lD l->∀f vs v,wJ l f vs=some v->ar prog f vs v
 |[],_,f,vs,v,h=>aAc h
 |(g,us,w)::r,a,f,vs,v,h=>by
  simp only[wJ,ac]at h
  split at h
  ·rename_i b
   split at h
   ·rename_i hs;simp only[Option.some.injEq]at h;subst h;rw[<-pM hs,<-bI b];exact a.1
   ·exact Ct a.2 f vs v h
  ·exact Ct a.2 f vs v h
def RY(v:PV):Option PV->Bool
 |some w=>sQ v w
 |none=>false
theorem aJg{v:PV}{o:Option PV}(h:RY v o=true):o=some v:=by
 cases o with
 |none=>cases h
 |some w=>rw[vY h]
def aKa:ao->ao->Nat:=fun _ _=>0
theorem cS(l:List (ao×List PV×PV))(a:lD l){f:ao}{vs:List PV}{v:PV}(h:RY v (Ss (wJ l) aKa f vs)=true):ar prog f vs v:=NO (Ct a) (aJg h)
end Hk
namespace jC
def T:PV:=.st 43 [.cT true [.st 201 [.int .i64 0,.int .i64 0],.st 201 [.int .i64 2000,.int .i64 0],.st 201 [.int .i64 2000,.int .i64 1000],.st 201 [.int .i64 0,.int .i64 1000]],.int .i64 30,.cT true [.st 90 [.str [97],.int .i64 0,.str [48],.str [49,47,50,48]],.st 90 [.str [99],.int .i64 1,.str [57,47,50,48],.str [49,49,47,50,48]]],.aP]
def B:PV:=.cT true [.st 56 [.str [99,117,101],.st 31 [.str [53,48,48],.str [53,48,48]]],.st 56 [.str [111,110,101],.st 31 [.str [49,48,48,48],.str [53,48,48]]],.st 56 [.str [116,119,111],.st 31 [.str [49,48,48,48],.str [55,48,48]]]]
def ak:PV:=.str [99,117,101]
def one:PV:=.str [111,110,101]
def X:PV:=.st 65 [T,B,ak,one]
def Y:PV:=.st 156 [.st 128 [T,B,.eg [(.str [99,117,101],.st 130 [.st 126 [.st 124 [.int .i64 500,.aP],.st 124 [.int .i64 1,.aP]],.st 126 [.st 124 [.int .i64 500,.aP],.st 124 [.int .i64 1,.aP]]]),(.str [111,110,101],.st 130 [.st 126 [.st 124 [.int .i64 1000,.aP],.st 124 [.int .i64 1,.aP]],.st 126 [.st 124 [.int .i64 500,.aP],.st 124 [.int .i64 1,.aP]]]),(.str [116,119,111],.st 130 [.st 126 [.st 124 [.int .i64 1000,.aP],.st 124 [.int .i64 1,.aP]],.st 126 [.st 124 [.int .i64 700,.aP],.st 124 [.int .i64 1,.aP]]])],.st 126 [.st 124 [.int .i64 3600,.aP],.st 124 [.int .i64 1,.aP]]],.st 65 [T,B,.str [99,117,101],.str [111,110,101]]]
def WR:PV:=.cT false (.int .i64 0::[.int .i64 1,.int .i64 2,.int .i64 3,.int .i64 4,.int .i64 5,.int .i64 6,.int .i64 7,.int .i64 8,.int .i64 9,.int .i64 10,.int .i64 11,.int .i64 12,.int .i64 13,.int .i64 14,.int .i64 15,.int .i64 16,.int .i64 17,.int .i64 18,.int .i64 19,.int .i64 20,.int .i64 21,.int .i64 22,.int .i64 23,.int .i64 24,.int .i64 25,.int .i64 26,.int .i64 27,.int .i64 28,.int .i64 29,.int .i64 30,.int .i64 31,.int .i64 32]++[.int .i64 33,.int .i64 34,.int .i64 35,.int .i64 36,.int .i64 37,.int .i64 38,.int .i64 39,.int .i64 40,.int .i64 41,.int .i64 42,.int .i64 43,.int .i64 44,.int .i64 45,.int .i64 46,.int .i64 47,.int .i64 48,.int .i64 49,.int .i64 50,.int .i64 51,.int .i64 52,.int .i64 53,.int .i64 54,.int .i64 55,.int .i64 56,.int .i64 57,.int .i64 58,.int .i64 59,.int .i64 60,.int .i64 61,.int .i64 62,.int .i64 63,.int .i64 64])
def k0:List (ao×List PV×PV):=[]
theorem R0:Hk.lD k0:=trivial
theorem g1:ar prog 127 [T] (.int .i64 0):=Hk.cS k0 R0 (by kernel_rfl)
theorem g2:ar prog 140 [T,B] (.int .i64 0):=Hk.cS k0 R0 (by kernel_rfl)
def k1:List (ao×List PV×PV):=[(127,[T],.int .i64 0),(140,[T,B],.int .i64 0)]
theorem R3:Hk.lD k1:=⟨g1,g2,trivial⟩
theorem g3:ar prog 77 [X] (.aE [Y,.int .i64 0]):=Hk.cS k1 R3 (by kernel_rfl)
def k2:List (ao×List PV×PV):=[(77,[X],.aE [Y,.int .i64 0])]++k1
theorem dZ:Hk.lD k2:=Hk.vI (l:=[(77,[X],.aE [Y,.int .i64 0])]) ⟨g3,trivial⟩ R3
end jC
end Go.ah
