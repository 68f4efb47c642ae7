import Derived.Test.YtenbmieafgdjaaaGreatDoorNPL
import Derived.Test.YtenbmieafgdjaaaGreatDoorNPK
/- Parts of a proof. -/
set_option linter.unusedSimpArgs false
set_option linter.unusedVariables false
set_option linter.unusedSectionVars false
open Go.Proofs.Tryz
open And renaming intro->b0
open Bool renaming eq_iff_iff->b1, and_eq_true->b2
open Classical renaming propDecidable->b3
open Go.IntKind renaming i64->b4, u64->b5
open Go.Lib renaming bitLen->cb
open List renaming getElem?_eq_getElem->cc, take_of_length_le->ce, length_map->ck, length_eq_zero_iff->cv, getElem?_eq_none->cx, take->cy, map->c6, length_drop->c9, length_append->da, mem_of_getElem?->db, mem_map->dg, getElem?_map->dk, length_take->dl, map_take->dp, map_append->dq, ext_getElem?->dz, map_drop->ea, replicate->eb, drop->ec, take_length->ed, cons_append->ee, length->ei, append_assoc->ej, length_nil->em, map_cons->en
open Nat renaming le_refl->eo, mod_eq_of_lt->eq
open Option.some renaming inj->ew
namespace Go.au
open Go.Proofs
set_option maxHeartbeats 4000000
set_option maxRecDepth 100000
theorem FP(a:Int):az prog 266 [.int .i64 a] (.bool false):=by
 refine aO nf DY mix (by simp[f266]) ?_;simp[f266,ad]
def qL(a b:Int):Int:=if a<b then -1 else if b<a then 1 else 0
theorem Qd(a b:Int):az prog 215 [.int .i64 a,.int .i64 b] (.int .i64 (qL a b)):=by
 have k1:=FP a;have k2:=FP b;refine aO nf DR mix (by simp[f215]) ?_;rw[qL]
 by_cases c:a<b
 ·simp[f215,ad];refine Go.au.c1 k1 ?_;simp[ad];refine Go.au.c1 k2 ?_;simp[ad,c]
 ·by_cases d:b<a
  ·simp[f215,ad];refine Go.au.c1 k1 ?_;simp[ad];refine Go.au.c1 k2 ?_;simp[ad,c,d]
  ·simp[f215,ad];refine Go.au.c1 k1 ?_;simp[ad];refine Go.au.c1 k2 ?_;simp[ad,c,d]
theorem Wp(a b:Int):az prog 214 [.seq [.int .i64 a,.int .i64 b]] (.int .i64 (if a≠0 then a else b)):=by
 have g:b4.wrap 1=1:=by decide
 have h:b4.wrap 2=2:=by decide
 refine aO nf FI mix (by simp[f214]) ?_;simp[f214,ad];refine lp (α:=Nat) (fun i=>⟨[(8,.p (.int .i64 i)),(7,.p (.int .i64 2)),(6,.p (.seq [.int .i64 a,.int .i64 b])),(3,.p (.int .i64 0))],[]⟩) (fun i=>i<=2/\(1<=i->a=0)/\(2<=i->b=0)) (fun i=>2-i) 0 ⟨by omega,by omega,by omega⟩ ?_;rintro i ⟨j,e,f⟩;rcases(show i=0\/i=1\/i=2 by omega)with rfl|rfl|rfl
 ·by_cases c:a=0
  ·simp[ad,c];exact rd 1 ⟨by omega,fun _=>c,by omega⟩ (he:=by simp[g,c])
  ·simp[ad,c]
 ·have c:=e (by omega)
  by_cases d:b=0
  ·simp[ad,c,d];exact rd 2 ⟨by omega,fun _=>c,fun _=>d⟩ (he:=by simp[h,c,d])
  ·simp[ad,c,d]
 ·have c:=e (by omega);have d:=f (by omega);simp[ad,c,d]
def vg(a b:cw):Int:=if qL a.bL b.bL≠0 then qL a.bL b.bL else dF (aX a.a) (aX b.a)
def dS(b a:cw):Bool:=decide (a.bL<b.bL)||(decide (a.bL=b.bL)&&decide (0<dF (aX b.a) (aX a.a)))
theorem Qf(x y:Rat):dF x y<0↔0<dF y x:=by
 rw[dF,dF]
 by_cases c:x<y
 ·have a:¬y<x:=by grind
  have b:¬y=x:=by grind
  simp[c,a,b]
 ·by_cases a:x=y
  ·subst a;simp
  ·have b:y<x:=by grind
   simp[c,a,b]
theorem Qm(a b:cw):vg a b<0↔dS b a=true:=by
 rw[vg,dS,qL,Bool.or_eq_true,b2,decide_eq_true_eq,decide_eq_true_eq,decide_eq_true_eq,<-Qf]
 by_cases d:a.bL<b.bL
 ·simp[d]
 ·by_cases e:b.bL<a.bL
  ·have c:¬a.bL=b.bL:=by omega
   simp[d,e,c]
  ·have c:a.bL=b.bL:=by omega
   simp[c]
def qZ(p:cw):Prop:=bY p.a=0/\iI p.a/\ch 133 (aX p.a)
theorem Wq(a b:cw)(c:qZ a)(d:qZ b):az prog 213 [bu a,bu b] (.int .i64 (vg a b)):=by
 have k1:=Qd a.bL b.bL;have k2:=kJ a.a c.1 c.2.1.1;have k3:=kJ b.a d.1 d.2.1.1;have k4:=sN ⟨aX a.a,false⟩ ⟨aX b.a,false⟩ (c.2.2.mono (by decide)) (d.2.2.mono (by decide));have e4:dF (⟨aX a.a,false⟩:NF).q (⟨aX b.a,false⟩:NF).q=dF (aX a.a) (aX b.a):=rfl;rw[e4]at k4;have k5:=Wp (qL a.bL b.bL) (dF (aX a.a) (aX b.a));rw[vg];generalize dF (aX a.a) (aX b.a)=O at*;generalize (⟨aX a.a,false⟩:NF)=A at*;generalize (⟨aX b.a,false⟩:NF)=B at*;obtain⟨i,e1,e,f⟩:=a;obtain⟨j,e2,a2,g⟩:=b;dsimp only at*;generalize qL e1 e2=Z at*;generalize h:(if Z≠0 then Z else O)=R at*;refine aO nf FJ mix (by simp[f213]) ?_;simp[f213,ad,bu];refine Go.au.e2 k1 ?_;simp[ad];refine Go.au.e1 k2 ?_;simp[ad];refine Go.au.e1 k3 ?_;simp[ad];refine Go.au.e2 k4 ?_;simp[ad];refine ep k5 (by simp;first|exact⟨rfl,rfl⟩|rfl) (by simp;first|exact⟨rfl,rfl⟩|rfl) ?_;simp[ad];rfl
def yS(a b:cU):Int:=jW a.name b.name
def eQ(b a:cU):Bool:=decide (jW a.name b.name<0)
theorem Wr(a b:cU):az prog 217 [bF a,bF b] (.int .i64 (yS a b)):=by
 have k1:=F6 a.name b.name;rw[yS];generalize jW a.name b.name=Z at*;obtain⟨c,e⟩:=a;obtain⟨d,f⟩:=b;refine aO nf FH mix (by simp[f217]) ?_;simp[f217,ad,bF];refine Go.au.c2 k1 ?_;simp[ad]
theorem vW(x:Nat)(hx:x<18446744073709551616):az prog 265 [.int .u64 x] (.int .i64 (cb x:Nat)):=by
 have k1:=FO x hx;generalize cb x=L at*;refine aO nf DZ mix (by simp[f265]) ?_;simp[f265,ad];refine Go.au.c1 k1 ?_;simp[ad]
theorem FZ(l:List cw)(n al:Nat)(d:l.length=n)(g:1<=n)(v:n<=12)(hs:∀p∈l,qZ p):
 cR prog 212 [.arr .grow al 4 (cd l)] [.sl 0 al 4 0 n,.p (.func 213 [] [])] [.arr .grow al 4 (cd (bP dS l n))] (.p (.aC [])):=by
 have k0:=XX vg dS l n al d g (by omega) (fun a i b j=>Wq a b (hs a i) (hs b j)) (fun a _ b _=>Qm a b);have e:∀(N:Nat×Nat->Prop)(q:List cw),aP N (cd q)=True:=fun N q=>by
  rw[b9,eq_iff_iff,iff_true];intro x hx;obtain⟨a,_,rfl⟩:=dg.1 hx;trivial
 have c:∀(σ:Nat->Nat)(q:List cw),cA σ (cd q)=cd q:=fun σ q=>ml;have m:¬cd l=[]:=fun h=>by have:=congrArg ei h;rw[cd,ck,d,em]at this;omega
 have k:(cd l).length=n:=by rw[cd,ck,d]
 have t:b4.wrap (n:Int)=n:=aN _ (by omega) (by omega);have o:(n:Int)<=12:=by omega
 have s:∀L:Int,cR prog 264 [.arr .grow al 4 (cd l)] [.sl 0 al 4 0 n,.p (.int .i64 0),.p (.int .i64 n),.p (.int .i64 L),.p (.func 213 [] [])] [.arr .grow al 4 (cd (bP dS l n))] (.p (.aC [])):=by
  intro L;refine gH nf zG mix (by simp[f264]) ?_;simp[f264,ad];refine lp (α:=Nat) (fun _=>⟨[(11,.p (.bool true)),(10,.p (.bool true)),(4,.p (.func 213 [] [])),(3,.p (.int .i64 L)),(2,.p (.int .i64 n)),(1,.p (.int .i64 0)),(0,.sl 0 al 4 0 n)],[.arr .grow al 4 (cd l)]⟩) (fun _=>True) (fun _=>0) 0 trivial ?_ (hr2:=by simp[e]);rintro _ _;simp[t,o,ad];refine cf k0 [0] ?_ (aj:=by simp[sig,c]) (hr:=by simp[e]);simp[bd,sig,c]
 have r:=vW n (by omega);have u:b5.wrap (n:Int)=n:=by
  exact eK _ (by omega) (by simp only[wB];omega)
 generalize cb n=f at*;refine gH nf zP mix (by simp[f212]) ?_;simp[f212,ad,m,k,u];refine Go.au.c1 r ?_;simp[ad];refine cf (s f) [0] ?_ (aj:=by simp[sig,c]) (hr:=by simp[e]);simp[bd,sig,c]
theorem Qc:az prog 296 [.seq [],.int .i64 0,.int .i64 0,.func 213 [] []] (.aC []):=by
 have a:b4.wrap 1=1:=by decide
 refine aO nf CI mix (by simp[f296]) ?_;simp[f296,ad,a];refine lp (α:=Nat) (fun _=>⟨[(8,.p (.int .i64 1)),(3,.p (.func 213 [] [])),(2,.p (.int .i64 0)),(1,.p (.int .i64 0)),(0,.p (.seq []))],[]⟩) (fun _=>True) (fun _=>0) 0 trivial ?_;rintro _ _;simp[ad]
theorem Qr(L:Int):az prog 264 [.seq [],.int .i64 0,.int .i64 0,.int .i64 L,.func 213 [] []] (.aC []):=by
 have a:b4.wrap 0=0:=by decide
 have k:=Qc;refine aO nf zG mix (by simp[f264]) ?_;simp[f264,ad];refine lp (α:=Nat) (fun _=>⟨[(11,.p (.bool true)),(10,.p (.bool true)),(4,.p (.func 213 [] [])),(3,.p (.int .i64 L)),(2,.p (.int .i64 0)),(1,.p (.int .i64 0)),(0,.p (.seq []))],[]⟩) (fun _=>True) (fun _=>0) 0 trivial ?_;rintro _ _;simp[a,ad];refine Go.au.c4 k ?_;simp[ad]
theorem FR:az prog 212 [.seq [],.func 213 [] []] (.aC []):=by
 have b:=vW 0 (by decide);have d:b5.wrap 0=0:=by decide
 have c:=Qr;generalize cb 0=a at*;refine aO nf zP mix (by simp[f212]) ?_;simp[f212,ad,d];refine Go.au.c1 b ?_;simp[ad];refine Go.au.c5 (c a) ?_;simp[ad]
theorem Qn(l:List cU)(n al:Nat)(d:l.length=n)(g:1<=n)(t:n<=12):
 cR prog 216 [.arr .grow al 3 (cg l)] [.sl 0 al 3 0 n,.p (.func 217 [] [])] [.arr .grow al 3 (cg (bP eQ l n))] (.p (.aC [])):=by
 have k0:=XY yS eQ l n al d g (by omega) (fun a _ b _=>Wr a b) (fun a _ b _=>by rw[yS,eQ,decide_eq_true_eq]);have e:∀(N:Nat×Nat->Prop)(q:List cU),aP N (cg q)=True:=fun N q=>by
  rw[b9,eq_iff_iff,iff_true];intro x hx;obtain⟨a,_,rfl⟩:=dg.1 hx;trivial
 have c:∀(σ:Nat->Nat)(q:List cU),cA σ (cg q)=cg q:=fun σ q=>ml;have j:¬cg l=[]:=fun h=>by have:=congrArg ei h;rw[cg,ck,d,em]at this;omega
 have i:(cg l).length=n:=by rw[cg,ck,d]
 have r:b4.wrap (n:Int)=n:=aN _ (by omega) (by omega);have k:(n:Int)<=12:=by omega
 have o:∀L:Int,cR prog 267 [.arr .grow al 3 (cg l)] [.sl 0 al 3 0 n,.p (.int .i64 0),.p (.int .i64 n),.p (.int .i64 L),.p (.func 217 [] [])] [.arr .grow al 3 (cg (bP eQ l n))] (.p (.aC [])):=by
  intro L;refine gH nf zF mix (by simp[f267]) ?_;simp[f267,ad];refine lp (α:=Nat) (fun _=>⟨[(11,.p (.bool true)),(10,.p (.bool true)),(4,.p (.func 217 [] [])),(3,.p (.int .i64 L)),(2,.p (.int .i64 n)),(1,.p (.int .i64 0)),(0,.sl 0 al 3 0 n)],[.arr .grow al 3 (cg l)]⟩) (fun _=>True) (fun _=>0) 0 trivial ?_ (hr2:=by simp[e]);rintro _ _;simp[r,k,ad];refine cf k0 [0] ?_ (aj:=by simp[sig,c]) (hr:=by simp[e]);simp[bd,sig,c]
 have m:=vW n (by omega);have s:b5.wrap (n:Int)=n:=by
  exact eK _ (by omega) (by simp only[wB];omega)
 generalize cb n=f at*;refine gH nf zO mix (by simp[f216]) ?_;simp[f216,ad,j,i,s];refine Go.au.c1 m ?_;simp[ad];refine cf (o f) [0] ?_ (aj:=by simp[sig,c]) (hr:=by simp[e]);simp[bd,sig,c]
theorem Qb:az prog 306 [.seq [],.int .i64 0,.int .i64 0,.func 217 [] []] (.aC []):=by
 have a:b4.wrap 1=1:=by decide
 refine aO nf CH mix (by simp[f306]) ?_;simp[f306,ad,a];refine lp (α:=Nat) (fun _=>⟨[(8,.p (.int .i64 1)),(3,.p (.func 217 [] [])),(2,.p (.int .i64 0)),(1,.p (.int .i64 0)),(0,.p (.seq []))],[]⟩) (fun _=>True) (fun _=>0) 0 trivial ?_;rintro _ _;simp[ad]
theorem Qq(L:Int):az prog 267 [.seq [],.int .i64 0,.int .i64 0,.int .i64 L,.func 217 [] []] (.aC []):=by
 have a:b4.wrap 0=0:=by decide
 have k:=Qb;refine aO nf zF mix (by simp[f267]) ?_;simp[f267,ad];refine lp (α:=Nat) (fun _=>⟨[(11,.p (.bool true)),(10,.p (.bool true)),(4,.p (.func 217 [] [])),(3,.p (.int .i64 L)),(2,.p (.int .i64 0)),(1,.p (.int .i64 0)),(0,.p (.seq []))],[]⟩) (fun _=>True) (fun _=>0) 0 trivial ?_;rintro _ _;simp[a,ad];refine Go.au.c4 k ?_;simp[ad]
theorem FQ:az prog 216 [.seq [],.func 217 [] []] (.aC []):=by
 have b:=vW 0 (by decide);have d:b5.wrap 0=0:=by decide
 have c:=Qq;generalize cb 0=a at*;refine aO nf zO mix (by simp[f216]) ?_;simp[f216,ad,d];refine Go.au.c1 b ?_;simp[ad];refine Go.au.c5 (c a) ?_;simp[ad]
theorem Qt:az prog 211 [.seq []] (.seq []):=by
 refine .inl (Qa (pre:=[]) (post:=[]) ?_ ?_)
 ·refine CD nf vK mix (by simp[f211]) ?_;simp[f211,di,cM]
 ·refine CD nf vK mix (by simp[f211]) ?_;simp[f211,cT,di,cM]
theorem Qg(l:List cU)(b:1<=l.length)(h:l.length<=1000):cR prog 211 [] [.p (.seq (l.map bF))] [.arr .exact 0 3 [],.arr .grow 0 3 (cg l)] (.sl 1 0 3 0 l.length):=by
 have c:(1000000:Nat)<cT:=by decide
 cases l with
 |nil=>simp at b
 |cons a r=>
  refine gH nf vK mix (by simp[f211]) ?_;simp at h;simp[f211,di,cM,cg];exact⟨xS (fun r=>⟨by simp[ad],by simp[ad]⟩) r,by omega⟩
theorem FV{σ:Nat->Nat}{z:PV}:∀n:Nat,cA σ (eb n (.p z))=eb n (.p z)
 |0=>rfl
 |n+1=>by rw[List.replicate_succ,cA,FV n];rfl
theorem Qj{N:Nat×Nat->Prop}{z:PV}{n:Nat}:aP N (eb n (.p z))=True:=by
 rw[b9,eq_iff_iff,iff_true];intro x hx;rw[(List.mem_replicate.1 hx).2];trivial
def ft(n:Nat)(a b:List df):Nat->St
 |0=>⟨[(27,.p (.int .i64 0)),(26,.p (.int .i64 2)),(25,.p (.seq [.seq (a.map aR),.seq (b.map aR)])),(6,.sl 0 0 2 0 0)],[.arr .grow 0 2 (eb n (.p pj))]⟩
 |1=>⟨[(27,.p (.int .i64 1)),(26,.p (.int .i64 2)),(25,.p (.seq [.seq (a.map aR),.seq (b.map aR)])),(6,.sl 0 1 2 0 a.length)],[.arr .grow 1 2 (a.map (AV.p∘aR))]⟩
 |_=>match b with
  |[]=>⟨[(27,.p (.int .i64 2)),(26,.p (.int .i64 2)),(25,.p (.seq [.seq (a.map aR),.seq (b.map aR)])),(6,.sl 0 1 2 0 a.length)],[.arr .grow 1 2 (a.map (AV.p∘aR))]⟩
  |_::_=>⟨[(27,.p (.int .i64 2)),(26,.p (.int .i64 2)),(25,.p (.seq [.seq (a.map aR),.seq (b.map aR)])),(6,.sl 0 2 2 0 (a.length+b.length))],[.arr .grow 2 2 (a.map (AV.p∘aR)++b.map (AV.p∘aR))]⟩
theorem Qe(a b:List df)(n:Nat)(m:a.length+b.length=n)(g:1<=a.length)(u:n<=1000):az prog 210 [.seq [.seq (a.map aR),.seq (b.map aR)]] (.seq ((a++b).map aR)):=by
 have v:(1000000:Nat)<cT:=by decide
 have j:b4.wrap 1=1:=by decide
 have f:b4.wrap 2=2:=by decide
 have w:b4.wrap 0=0:=by decide
 have s:b4.wrap (a.length:Int)=a.length:=aN _ (by omega) (by omega);have t:b4.wrap ((a.length:Int)+b.length)=n:=by rw[aN _ (by omega) (by omega)];omega
 have q:¬(a.length:Int)<0:=by omega
 have r:¬(n:Int)<0:=by omega
 have o:=F5 (H:=[]) n (by omega) (by omega);refine aO nf D3 mix (by simp[f210]) ?_;simp[f210,ad];refine lp (α:=Nat) (fun i=>⟨[(11,.p (.int .i64 i)),(10,.p (.int .i64 2)),(9,.p (.seq [.seq (a.map aR),.seq (b.map aR)])),(3,.p (.int .i64 (if i=0 then 0 else if i=1 then(a.length:Int)else(n:Int)))),(0,.p (.seq [.seq (a.map aR),.seq (b.map aR)]))],[]⟩) (fun i=>i<=2) (fun i=>2-i) 0 (by simp) ?_;intro i hi;rcases(show i=0\/i=1\/i=2 by omega)with rfl|rfl|rfl
 ·simp[ad,s,q];exact rd 1 (by omega) (he:=by simp[j])
 ·simp[ad,t,r];exact rd 2 (by omega) (he:=by simp[f])
 ·simp[ad];refine CQ o ?_;simp[sig,ad,FV];refine lp (α:=Nat) (ft n a b) (fun i=>i<=2) (fun i=>2-i) 0 (by simp) ?_ (hn:=by simp[ft]) (he:=by simp[ft]) (hh:=by simp[ft]) (hr:=by simp[ft]) (hr2:=by simp[ft,Qj]);intro i hi;have e:a≠[]:=by intro h;rw[h]at g;simp at g
  have k:=vR a;rcases(show i=0\/i=1\/i=2 by omega)with rfl|rfl|rfl
  ·simp[ft,ad,e,j];exact⟨⟨k,by omega⟩,rd 1 (by omega) (hn:=by simp[ft]) (he:=by simp[ft]) (hh:=by simp[ft]) (hr:=by simp[ft]) (hr2:=by simp[ft])⟩
  ·rcases b with _|⟨d,c⟩
   ·simp[ft,ad,e,f];exact⟨by omega,rd 2 (by omega) (hn:=by simp[ft]) (he:=by simp[ft]) (hh:=by simp[ft]) (hr:=by simp[ft]) (hr2:=by simp[ft])⟩
   ·have l:=vR c;simp only[List.length_cons]at m;simp[ft,ad,e,f];exact⟨⟨l,by omega⟩,rd 2 (by omega) (hn:=by simp[ft]) (he:=by simp[ft]) (hh:=by simp[ft]) (hr:=by simp[ft]) (hr2:=by simp[ft])⟩
  ·rcases b with _|⟨d,c⟩
   ·simp[ft,ad]
   ·have e1:c6 (AV.p∘aR) a++AV.p (aR d)::c6 (AV.p∘aR) c=c6 (AV.p∘aR) (a++d::c):=by rw[dq];rfl
    have e2:c6 aR a++aR d::c6 aR c=c6 aR (a++d::c):=by rw[dq];rfl
    simp[ft,ad];rw[e1,e2,ce (by simp),oW];intro x _;simp
def tH(a b:df):Bool:=decide (a.x<b.x)||(decide (a.x=b.x)&&decide (a.y<b.y))
def aE.bw(t:aE):Nat->Nat
 |0=>0
 |i+1=>if tH (t.at i) (t.at (t.bw i))=true then i else t.bw i
theorem aE.FG(t:aE):∀i,1<=i->t.bw i<i
 |1,_=>by
  rw[aE.bw,aE.bw];split<;>omega
 |i+2,_=>by
  have:=aE.FG t (i+1) (by omega);rw[aE.bw]
  split<;>omega
theorem aE.vV(t:aE){i:Nat}(h:i<=t.cs.length)(a:1<=t.cs.length):t.bw i<t.cs.length:=by
 rcases i with _|i
 ·exact a
 ·have:=t.FG (i+1) (by omega);omega
def aE.L(t:aE):Nat:=t.bw t.cs.length
def lP(n L:Nat)(p:cw):cw:=⟨p.name,(p.bL-L+n).tmod n,p.a,p.b⟩
def fa(t:aE):aE:=⟨t.cs.drop t.L++t.cs.take t.L,t.bJ,bP dS (t.aF.map (lP t.cs.length t.L)) t.aF.length,bP eQ t.aA t.aA.length⟩
theorem tM{t:aE}(h:dw t=0):t.aF.length<=12/\t.aA.length<=256:=by
 rw[dw]at h
 split at h
 ·cases h
 split at h
 ·cases h
 split at h
 ·cases h
 split at h
 ·cases h
 split at h
 ·cases h
 split at h
 ·cases h
 rename_i b
 split at h
 ·rename_i a;exact absurd h a
 split at h
 ·cases h
 ·omega
theorem aAR{t:aE}(h:dw t=0)(hs:il t=true):t.aA.length<=8:=by
 have:=(tM h).2;simp only[il,b2,Bool.not_eq_true',Bool.or_eq_false_iff,Bool.and_eq_false_iff,decide_eq_false_iff_not]at hs;omega
theorem zQ(t:aE)(ao:ku t)(V:dw t=0)(hs:il t=true):az prog 129 [dy t] (dy (fa t)):=by
 have aI:(1000000:Nat)<cT:=by decide
 have au:b4.wrap 1=1:=by decide
 obtain⟨ar,aM,aJ,_⟩:=vD V;have ag:=OH ao V hs;have aH:=ao.cl;obtain⟨aK,_⟩:=tM V;have aw:dy (fa t)=.st 37 [.seq ((t.cs.drop t.L++t.cs.take t.L).map aR),.int .i64 t.bJ,.seq ((bP dS (t.aF.map (lP t.cs.length t.L)) t.aF.length).map bu),.seq ((bP eQ t.aA t.aA.length).map bF)]:=rfl;rw[aw];rw[show dy t=.st 37 [.seq (t.cs.map aR),.int .i64 t.bJ,.seq (t.aF.map bu),.seq (t.aA.map bF)]from rfl];have aF:t.L<t.cs.length:=t.vV (eo _) (by omega);have aq:=Qe (t.cs.drop t.L) (t.cs.take t.L) t.cs.length (by rw[c9,dl];omega) (by rw[c9];omega) (by omega);generalize aG:t.cs.drop t.L++t.cs.take t.L=T at*;rw[ea,dp]at aq;have D:∀(N:Nat×Nat->Prop)(q:List cU),aP N (cg q)=True:=fun N q=>by
  rw[b9,eq_iff_iff,iff_true];intro x hx;obtain⟨a,_,rfl⟩:=dg.1 hx;trivial
 have F:∀(σ:Nat->Nat)(q:List cU),cA σ (cg q)=cg q:=fun σ q=>ml;have ac:∀(σ:Nat->Nat)(q:List cw),cA σ (cd q)=cd q:=fun σ q=>ml;obtain⟨Q,K⟩:∃Q,Q=t.aF.map (lP t.cs.length t.L):=⟨_,rfl⟩
 rw[<-K];have al:Q.length=t.aF.length:=by rw[K,ck]
 have am:∀p∈Q,qZ p:=fun p h=>by
  rw[K]at h;obtain⟨o,ax,rfl⟩:=dg.1 h;obtain⟨_,_,av,_,a2,_,a3,_⟩:=ag o ax;exact⟨av,a2,a3⟩
 generalize I:bP dS Q t.aF.length=s at*;generalize af:bP eQ t.aA t.aA.length=G at*;have aC:s.length=t.aF.length:=by rw[<-I,kW dS Q _ (by omega)]
 have aD:G.length=t.aA.length:=by rw[<-af,kW eQ t.aA _ (eo _)]
 have aa:∀(H:Heap)(n k:Nat),k=s.length->jb H n (cy k (cd s)) (c6 bu s):=fun H n k hk=>by
  rw[cd,ce (by rw[ck];omega),oW];intro x _;cases n<;>simp
 have ab:∀(H:Heap)(n k:Nat),k=G.length->jb H n (cy k (cg G)) (c6 bF G):=fun H n k hk=>by
  rw[cg,ce (by rw[ck];omega),oW];intro x _;cases n<;>simp
 have Z:¬t.cs=[]:=by intro h;rw[h]at ar;simp at ar
 refine aO nf F3 mix (by simp[f129]) ?_;simp[f129,ad];refine lp (α:=Nat) (fun i=>⟨[(14,.p (.int .i64 i)),(13,.p (.int .i64 t.cs.length)),(12,.p (.seq (t.cs.map aR))),(3,.p (.int .i64 (t.bw i))),(2,.ptr 1 []),(1,.ptr 0 [])],[.box false (.p (.st 37 [.seq (t.cs.map aR),.int .i64 t.bJ,.seq (t.aF.map bu),.seq (t.aA.map bF)])),.box false (.p (.st 37 [.aG,.int .i64 0,.aG,.aG]))]⟩) (fun i=>i<=t.cs.length) (fun i=>t.cs.length-i) 0 (by simp) ?_ (he:=by simp[aE.bw]);intro i ap
 by_cases hi:i<t.cs.length
 ·have b:=aE.get hi;have hl:=t.vV (i:=i) (by omega) (by omega);have U:=aE.get hl;have w:=cJ (i:=i) (by omega);have d:t.bw (i+1)=if tH (t.at i) (t.at (t.bw i))=true then i else t.bw i:=rfl
  rw[tH]at d;generalize t.bw i=q at*;generalize W:t.at i=A at*;generalize X:t.at q=B at*;obtain⟨x,y⟩:=A;obtain⟨u,v⟩:=B
  by_cases c1:x<u
  ·rw[if_pos (by simp[c1])]at d;simp[hi,hl,b,U,W,X,ad,aR,w,c1];exact rd (i+1) hi (he:=by simp[d]) (hh:=by simp[aR])
  ·by_cases c2:x=u
   ·by_cases c3:y<v
    ·rw[if_pos (by simp[c2,c3])]at d;simp[hi,hl,b,U,W,X,ad,aR,w,c1,c2,c3];exact rd (i+1) hi (he:=by simp[d]) (hh:=by simp[aR])
    ·rw[if_neg (by simp[c1,c2,c3])]at d;simp[hi,hl,b,U,W,X,ad,aR,w,c1,c2,c3];exact rd (i+1) hi (he:=by simp[d]) (hh:=by simp[aR])
   ·rw[if_neg (by simp[c1,c2])]at d;simp[hi,hl,b,U,W,X,ad,aR,w,c1,c2];exact rd (i+1) hi (he:=by simp[d]) (hh:=by simp[aR])
 obtain rfl:i=t.cs.length:=by omega
 rw[show t.bw t.cs.length=t.L from rfl];simp[ad];refine⟨⟨by omega,vR _⟩,?_⟩;refine ep aq (by simp;first|exact⟨rfl,rfl⟩|rfl) (by simp;first|exact⟨rfl,rfl⟩|rfl) ?_
 by_cases E:t.aA=[]
 ·have Y:G=[]:=by rw[<-af,E];rfl
  simp[E,ad];refine Go.au.e1 Qt ?_;simp[ad];refine⟨by repeat' first|rfl|apply b0,?_⟩;refine lp (α:=Nat) (fun i=>match i with
   |0=>⟨[(67,.p (.int .i64 0)),(66,.p (.int .i64 t.aF.length)),(65,.p (.seq (t.aF.map bu))),(8,.ptr 3 []),(7,.p (.int .i64 t.cs.length)),(3,.p (.int .i64 t.L)),(2,.ptr 1 [])],[.box false (.p (.st 37 [.seq (t.cs.map aR),.int .i64 t.bJ,.seq (t.aF.map bu),.seq (t.aA.map bF)])),.box false (.p (.st 37 [.aG,.int .i64 0,.aG,.aG])),.arr .frozen 0 1 [.p (.seq (ec t.L (c6 aR t.cs))),.p (.seq (cy t.L (c6 aR t.cs)))],.box false (.p (.st 37 [.seq (c6 aR T),.int .i64 t.bJ,.aG,.seq []]))]⟩
   |m+1=>⟨[(67,.p (.int .i64 ((m+1:Nat):Int))),(66,.p (.int .i64 t.aF.length)),(65,.p (.seq (t.aF.map bu))),(8,.ptr 3 []),(7,.p (.int .i64 t.cs.length)),(3,.p (.int .i64 t.L)),(2,.ptr 1 [])],[.box false (.p (.st 37 [.seq (t.cs.map aR),.int .i64 t.bJ,.seq (t.aF.map bu),.seq (t.aA.map bF)])),.box false (.p (.st 37 [.aG,.int .i64 0,.aG,.aG])),.arr .frozen 0 1 [.p (.seq (ec t.L (c6 aR t.cs))),.p (.seq (cy t.L (c6 aR t.cs)))],.box false (.st 37 [.p (.seq (c6 aR T)),.p (.int .i64 t.bJ),.sl 6 m 4 0 (m+1),.p (.seq [])]),.hole,.hole,.arr .grow m 4 ((Q.take (m+1)).map (AV.p∘bu))]⟩) (fun i=>i<=t.aF.length) (fun i=>t.aF.length-i) 0 (by simp) ?_ (hh:=by simp[E])
  intro i ap
  by_cases hi:i<t.aF.length
  ·have b:=aE.iw hi;obtain⟨g1,g2,_⟩:=ag _ (db b);have c:Q[i]?=some (lP t.cs.length t.L (t.pk i)):=by rw[K,dk,b];rfl
   have g:b4.wrap ((t.pk i).bL-t.L)=(t.pk i).bL-t.L:=aN _ (by omega) (by omega);have l:b4.wrap ((t.pk i).bL-t.L+t.cs.length)=(t.pk i).bL-t.L+t.cs.length:=aN _ (by omega) (by omega);rw[lP]at c;rcases C:t.pk i with⟨ay,ae,aA,aB⟩
   rw[C]at c g l b;simp only at c g l;have P:¬(t.cs.length:Int)=0:=by omega
   generalize R:(ae-(t.L:Int)+(t.cs.length:Int)).tmod (t.cs.length:Int)=z at*;rcases i with _|q
   ·have e:=kU c;simp[hi,b,C,g,l,R,P,au,ad,bu];exact⟨Z,by omega,rd 1 hi (hh:=by simp[e,bu,E]) (hr2:=by simp[fK,D])⟩
   ·have w:b4.wrap ((q:Int)+1+1)=(q:Int)+1+1:=aN _ (by omega) (by omega);have hI:(q:Int)+1<t.aF.length:=by omega
    have ah:min (q+1) t.aF.length=q+1:=by omega
    have e:=kT (f:=AV.p∘bu) c;simp[hI,hi,b,C,g,l,R,P,w,ah,al,ad,bu];exact⟨by omega,Z,by omega,rd (q+2) hi (hh:=by simp at e;simp[e,bu,E]) (hr2:=by simp[fK,D])⟩
  have M:i=t.aF.length:=by omega
  rcases i with _|j
  ·have O:t.aF=[]:=cv.1 M.symm;have J:s=[]:=by rw[<-I,O];rfl
   simp[O,ad];refine Go.au.c2 FR ?_;simp[ad];refine Go.au.c2 FQ ?_;simp[ad]
   repeat' apply b0
   all_goals first|exact J|exact Y|(rw[cd,ck];omega)|(rw[cg,ck];omega)|exact aa _ _ _ (by omega)|exact ab _ _ _ (by omega)
  ·have hI:¬((j:Int)+1<t.aF.length):=by omega
   have ai:Q.take (j+1)=Q:=ce (by omega);have S:=FZ Q (j+1) j (by omega) (by omega) (by omega) am;rw[show bP dS Q (j+1)=s from by rw[M];exact I,cd]at S;simp[hI,ai,ad];refine cf S [6] ?_ (aj:=by simp[sig,ml]) (hr:=by simp);simp[bd,sig,ac,ad];refine Go.au.c2 FQ ?_;simp[ad]
   repeat' apply b0
   all_goals first|exact J|exact Y|(rw[cd,ck];omega)|(rw[cg,ck];omega)|exact aa _ _ _ (by omega)|exact ab _ _ _ (by omega)
 ·have an:1<=t.aA.length:=by
   rcases hq:t.aA with _|⟨a,r⟩
   ·exact absurd hq E
   ·simp
  have aL:=aAR V hs;have kS:=Qg t.aA an (by omega);simp[ad];refine ef kS [] ?_;simp[sig,bd,ad,F];refine⟨by repeat' first|rfl|apply b0,?_⟩;have ak:=Qn t.aA t.aA.length 0 rfl an (by omega);rw[af]at ak;refine lp (α:=Nat) (fun i=>match i with
   |0=>⟨[(67,.p (.int .i64 0)),(66,.p (.int .i64 t.aF.length)),(65,.p (.seq (t.aF.map bu))),(8,.ptr 5 []),(7,.p (.int .i64 t.cs.length)),(3,.p (.int .i64 t.L)),(2,.ptr 1 [])],[.box false (.p (.st 37 [.seq (t.cs.map aR),.int .i64 t.bJ,.seq (t.aF.map bu),.seq (t.aA.map bF)])),.box false (.p (.st 37 [.aG,.int .i64 0,.aG,.aG])),.arr .frozen 0 1 [.p (.seq (ec t.L (c6 aR t.cs))),.p (.seq (cy t.L (c6 aR t.cs)))],.arr .exact 0 3 [],.arr .grow 0 3 (cg t.aA),.box false (.st 37 [.p (.seq (c6 aR T)),.p (.int .i64 t.bJ),.p .aG,.sl 4 0 3 0 t.aA.length])]⟩
   |m+1=>⟨[(67,.p (.int .i64 ((m+1:Nat):Int))),(66,.p (.int .i64 t.aF.length)),(65,.p (.seq (t.aF.map bu))),(8,.ptr 5 []),(7,.p (.int .i64 t.cs.length)),(3,.p (.int .i64 t.L)),(2,.ptr 1 [])],[.box false (.p (.st 37 [.seq (t.cs.map aR),.int .i64 t.bJ,.seq (t.aF.map bu),.seq (t.aA.map bF)])),.box false (.p (.st 37 [.aG,.int .i64 0,.aG,.aG])),.arr .frozen 0 1 [.p (.seq (ec t.L (c6 aR t.cs))),.p (.seq (cy t.L (c6 aR t.cs)))],.arr .exact 0 3 [],.arr .grow 0 3 (cg t.aA),.box false (.st 37 [.p (.seq (c6 aR T)),.p (.int .i64 t.bJ),.sl 8 m 4 0 (m+1),.sl 4 0 3 0 t.aA.length]),.hole,.hole,.arr .grow m 4 ((Q.take (m+1)).map (AV.p∘bu))]⟩) (fun i=>i<=t.aF.length) (fun i=>t.aF.length-i) 0 (by simp) ?_ (hh:=by simp[]) (hr2:=by simp[D])
  intro i ap
  by_cases hi:i<t.aF.length
  ·have b:=aE.iw hi;obtain⟨g1,g2,_⟩:=ag _ (db b);have c:Q[i]?=some (lP t.cs.length t.L (t.pk i)):=by rw[K,dk,b];rfl
   have g:b4.wrap ((t.pk i).bL-t.L)=(t.pk i).bL-t.L:=aN _ (by omega) (by omega);have l:b4.wrap ((t.pk i).bL-t.L+t.cs.length)=(t.pk i).bL-t.L+t.cs.length:=aN _ (by omega) (by omega);rw[lP]at c;rcases C:t.pk i with⟨ay,ae,aA,aB⟩
   rw[C]at c g l b;simp only at c g l;have P:¬(t.cs.length:Int)=0:=by omega
   generalize R:(ae-(t.L:Int)+(t.cs.length:Int)).tmod (t.cs.length:Int)=z at*;rcases i with _|q
   ·have e:=kU c;simp[hi,b,C,g,l,R,P,au,ad,bu];exact⟨Z,by omega,rd 1 hi (hh:=by simp[e,bu]) (hr2:=by simp[fK,D])⟩
   ·have w:b4.wrap ((q:Int)+1+1)=(q:Int)+1+1:=aN _ (by omega) (by omega);have hI:(q:Int)+1<t.aF.length:=by omega
    have ah:min (q+1) t.aF.length=q+1:=by omega
    have e:=kT (f:=AV.p∘bu) c;simp[hI,hi,b,C,g,l,R,P,w,ah,al,ad,bu];exact⟨by omega,Z,by omega,rd (q+2) hi (hh:=by simp at e;simp[e,bu]) (hr2:=by simp[fK,D])⟩
  have M:i=t.aF.length:=by omega
  rcases i with _|j
  ·have O:t.aF=[]:=cv.1 M.symm;have J:s=[]:=by rw[<-I,O];rfl
   simp[O,ad];refine Go.au.c2 FR ?_;simp[ad];refine cf ak [4] ?_ (aj:=by simp[sig,F]) (hr:=by simp[D]);simp[bd,sig,F,ac,ad]
   repeat' apply b0
   all_goals first|exact J|exact Y|(rw[cd,ck];omega)|(rw[cg,ck];omega)|exact aa _ _ _ (by omega)|exact ab _ _ _ (by omega)
  ·have hI:¬((j:Int)+1<t.aF.length):=by omega
   have ai:Q.take (j+1)=Q:=ce (by omega);have S:=FZ Q (j+1) j (by omega) (by omega) (by omega) am;rw[show bP dS Q (j+1)=s from by rw[M];exact I,cd]at S;simp[hI,ai,ad];refine cf S [8] ?_ (aj:=by simp[sig,ml]) (hr:=by simp);simp[bd,sig,ac,F,ad];refine cf ak [4] ?_ (aj:=by simp[sig,F]) (hr:=by simp[D]);simp[bd,sig,F,ac,ad]
   repeat' apply b0
   all_goals first|exact J|exact Y|(rw[cd,ck];omega)|(rw[cg,ck];omega)|exact aa _ _ _ (by omega)|exact ab _ _ _ (by omega)
theorem MX(t:aE)(v:t.aF.length<=1000000)(w:t.aA.length<=1000000):az prog 49 [dy t] (bW t):=by
 have u:(1000000:Nat)<cT:=by decide
 have o:b4.wrap 1=1:=by decide
 rw[show dy t=.st 37 [.seq (t.cs.map aR),.int .i64 t.bJ,.seq (t.aF.map bu),.seq (t.aA.map bF)]from rfl];refine aO nf NR mix (by simp[f49]) ?_;simp[f49,ad];refine lp (α:=Nat) (fun i=>match i with
  |0=>⟨[(16,.p (.int .i64 0)),(15,.p (.int .i64 t.aF.length)),(14,.p (.seq (t.aF.map bu))),(3,.ptr 2 []),(2,.ptr 1 []),(1,.ptr 0 [])],[.box false (.p (.st 37 [.seq (t.cs.map aR),.int .i64 t.bJ,.seq (t.aF.map bu),.seq (t.aA.map bF)])),.box false (.p (.st 25 [.aG,.int .i64 0,.aG,.aG])),.box false (.p (.st 25 [.seq (t.cs.map aR),.int .i64 t.bJ,.aG,.aG]))]⟩
  |m+1=>⟨[(16,.p (.int .i64 ((m+1:Nat):Int))),(15,.p (.int .i64 t.aF.length)),(14,.p (.seq (t.aF.map bu))),(3,.ptr 2 []),(2,.ptr 1 []),(1,.ptr 0 [])],[.box false (.p (.st 37 [.seq (t.cs.map aR),.int .i64 t.bJ,.seq (t.aF.map bu),.seq (t.aA.map bF)])),.box false (.p (.st 25 [.aG,.int .i64 0,.aG,.aG])),.box false (.st 25 [.p (.seq (t.cs.map aR)),.p (.int .i64 t.bJ),.sl 5 m 4 0 (m+1),.p .aG]),.hole,.hole,.arr .grow m 4 ((t.aF.take (m+1)).map (AV.p∘bu))]⟩) (fun i=>i<=t.aF.length) (fun i=>t.aF.length-i) 0 (by simp) ?_
 rintro i r
 by_cases hi:i<t.aF.length
 ·have a:=aE.iw hi;rcases i with _|j
  ·have b:=kU a;simp[hi,a,o,ad];exact⟨by omega,rd 1 hi (hh:=by simp[b]) (hr2:=by simp[fK])⟩
  ·have h:b4.wrap ((j:Int)+1+1)=(j:Int)+1+1:=aN _ (by omega) (by omega);have hI:(j:Int)+1<t.aF.length:=by omega
   have b:=kT (f:=AV.p∘bu) a;simp[hi,hI,a,h,ad];exact⟨by omega,⟨by omega,by omega⟩,rd (j+2) hi (hh:=by simp at b;simp[b]) (hr2:=by simp[fK])⟩
 have s:i=t.aF.length:=by omega
 rcases i with _|j
 ·have k:t.aF=[]:=cv.1 s.symm;simp[k,ad];refine lp (α:=Nat) (fun i=>match i with
    |0=>⟨[(30,.p (.int .i64 0)),(29,.p (.int .i64 t.aA.length)),(28,.p (.seq (t.aA.map bF))),(3,.ptr 2 []),(2,.ptr 1 [])],[.box false (.p (.st 37 [.seq (t.cs.map aR),.int .i64 t.bJ,.seq (t.aF.map bu),.seq (t.aA.map bF)])),.box false (.p (.st 25 [.aG,.int .i64 0,.aG,.aG])),.box false (.p (.st 25 [.seq (t.cs.map aR),.int .i64 t.bJ,.aG,.aG]))]⟩
    |m+1=>⟨[(30,.p (.int .i64 ((m+1:Nat):Int))),(29,.p (.int .i64 t.aA.length)),(28,.p (.seq (t.aA.map bF))),(3,.ptr 2 []),(2,.ptr 1 [])],[.box false (.p (.st 37 [.seq (t.cs.map aR),.int .i64 t.bJ,.seq (t.aF.map bu),.seq (t.aA.map bF)])),.box false (.p (.st 25 [.aG,.int .i64 0,.aG,.aG])),.box false (.st 25 [.p (.seq (t.cs.map aR)),.p (.int .i64 t.bJ),.p .aG,.sl 5 m 3 0 (m+1)]),.hole,.hole,.arr .grow m 3 ((t.aA.take (m+1)).map (AV.p∘bF))]⟩) (fun i=>i<=t.aA.length) (fun i=>t.aA.length-i) 0 (by simp) ?_ (hh:=by simp[k])
  rintro i r
  by_cases hi:i<t.aA.length
  ·have a:=aE.ja hi;rcases i with _|q
   ·have b:=kU a;simp[hi,a,o,ad];exact⟨by omega,rd 1 hi (hh:=by simp[b]) (hr2:=by simp[fK])⟩
   ·have h:b4.wrap ((q:Int)+1+1)=(q:Int)+1+1:=aN _ (by omega) (by omega);have hI:(q:Int)+1<t.aA.length:=by omega
    have b:=kT (f:=AV.p∘bF) a;simp[hi,hI,a,h,ad];exact⟨by omega,⟨by omega,by omega⟩,rd (q+2) hi (hh:=by simp at b;simp[b]) (hr2:=by simp[fK])⟩
  have d:i=t.aA.length:=by omega
  rcases i with _|c
  ·have e:t.aA=[]:=cv.1 d.symm;simp[e,ad]
   skip
   simp[bW,k,e]
   skip
  ·have hI:¬((c:Int)+1<t.aA.length):=by omega
   have g:t.aA.take (c+1)=t.aA:=by rw[d,ed]
   simp[hI,g,ad]
   skip
   have n:(t.aA.map (AV.p∘bF)).take (c+1)=t.aA.map (AV.p∘bF):=ce (by simp;omega);simp[bW,k,n];omega
 ·have hI:¬((j:Int)+1<t.aF.length):=by omega
  have g:t.aF.take (j+1)=t.aF:=by rw[s,ed]
  simp[hI,g,ad];refine lp (α:=Nat) (fun i=>match i with
   |0=>⟨[(30,.p (.int .i64 0)),(29,.p (.int .i64 t.aA.length)),(28,.p (.seq (t.aA.map bF))),(3,.ptr 2 []),(2,.ptr 1 [])],[.box false (.p (.st 37 [.seq (t.cs.map aR),.int .i64 t.bJ,.seq (t.aF.map bu),.seq (t.aA.map bF)])),.box false (.p (.st 25 [.aG,.int .i64 0,.aG,.aG])),.box false (.st 25 [.p (.seq (t.cs.map aR)),.p (.int .i64 t.bJ),.sl 5 j 4 0 (j+1),.p .aG]),.hole,.hole,.arr .grow j 4 (t.aF.map (AV.p∘bu))]⟩
   |m+1=>⟨[(30,.p (.int .i64 ((m+1:Nat):Int))),(29,.p (.int .i64 t.aA.length)),(28,.p (.seq (t.aA.map bF))),(3,.ptr 2 []),(2,.ptr 1 [])],[.box false (.p (.st 37 [.seq (t.cs.map aR),.int .i64 t.bJ,.seq (t.aF.map bu),.seq (t.aA.map bF)])),.box false (.p (.st 25 [.aG,.int .i64 0,.aG,.aG])),.box false (.st 25 [.p (.seq (t.cs.map aR)),.p (.int .i64 t.bJ),.sl 5 j 4 0 (j+1),.sl 8 m 3 0 (m+1)]),.hole,.hole,.arr .grow j 4 (t.aF.map (AV.p∘bu)),.hole,.hole,.arr .grow m 3 ((t.aA.take (m+1)).map (AV.p∘bF))]⟩) (fun i=>i<=t.aA.length) (fun i=>t.aA.length-i) 0 (by simp) ?_
  rintro i r
  by_cases hi:i<t.aA.length
  ·have a:=aE.ja hi;rcases i with _|q
   ·have b:=kU a;simp[hi,a,o,ad];exact⟨by omega,rd 1 hi (hh:=by simp[b]) (hr2:=by simp[fK])⟩
   ·have h:b4.wrap ((q:Int)+1+1)=(q:Int)+1+1:=aN _ (by omega) (by omega);have hI:(q:Int)+1<t.aA.length:=by omega
    have b:=kT (f:=AV.p∘bF) a;simp[hi,hI,a,h,ad];exact⟨by omega,⟨by omega,by omega⟩,rd (q+2) hi (hh:=by simp at b;simp[b]) (hr2:=by simp[fK])⟩
  have d:i=t.aA.length:=by omega
  rcases i with _|c
  ·have e:t.aA=[]:=cv.1 d.symm;simp[e,ad];have l:(t.aF.map (AV.p∘bu)).take (j+1)=t.aF.map (AV.p∘bu):=ce (by simp;omega);simp[bW,l,e];omega
  ·have hI:¬((c:Int)+1<t.aA.length):=by omega
   have g:t.aA.take (c+1)=t.aA:=by rw[d,ed]
   simp[hI,g,ad];have l:(t.aF.map (AV.p∘bu)).take (j+1)=t.aF.map (AV.p∘bu):=ce (by simp;omega);have n:(t.aA.map (AV.p∘bF)).take (c+1)=t.aA.map (AV.p∘bF):=ce (by simp;omega);simp[bW,l,n];omega
@[simp] theorem aEQ:lL prog 110=true:=by kernel_rfl
@[simp] theorem aEU:lL prog 49=true:=by kernel_rfl
@[simp] theorem aER:lL prog 61=true:=by kernel_rfl
theorem OU:prog.stoodInHeld 110=false:=by kernel_rfl
theorem OW:prog.stoodInHeld 49=false:=by kernel_rfl
theorem OV:prog.stoodInHeld 61=false:=by kernel_rfl
@[simp] theorem aEY{a b:Int}:dC prog 9 61 (.st 60 [.int .i64 a,.int .i64 b]) (.st 60 [.int .i64 a,.int .i64 b])=some true:=by
 have c:=underlying61;simp[dC,c,OV,fw,aL]
@[simp] theorem aEX{a c d:List Nat}{b:Int}:dC prog 9 110 (.st 109 [.str a,.int .i64 b,.str c,.str d]) (.st 109 [.str a,.int .i64 b,.str c,.str d])=some true:=by
 have e:=underlying110;simp[dC,e,OU,fw,aL]
theorem XL{a b:List Nat}:dC prog 8 47 (.st 46 [.str a,.str b]) (.st 46 [.str a,.str b])=some true:=by
 have c:=underlying47;simp[dC,c,Lb,fw,aL]
theorem XN{a:List Nat}:dC prog 8 9 (.str a) (.str a)=some true:=by
 simp[dC]
@[simp] theorem aE1{a b c:List Nat}:dC prog 9 49 (.st 48 [.str a,.st 46 [.str b,.str c]]) (.st 48 [.str a,.st 46 [.str b,.str c]])=some true:=by
 have d:=underlying49;rw[dC.eq_def];simp[d,OW,fw,aL,XL,XN]
noncomputable def gh{α:Type}(a b:α):Bool:=@decide (a=b) (b3 _)
theorem lY{α:Type}{a b:α}(h:a=b):gh a b=true:=@decide_eq_true _ (b3 _) h
theorem iB{α:Type}{a b:α}(h:¬a=b):gh a b=false:=@decide_eq_false _ (b3 _) h
theorem zU{α:Type}{l m:List α}(h:l.length=m.length)(a:∀j,j<l.length->l[j]?=m[j]?):gh l m=true:=lY (by
 apply dz;intro j
 by_cases c:j<l.length
 ·exact a j c
 ·rw[cx (by omega),cx (by omega)])
theorem CV{a b c d:Int}:dC prog 9 61 (.st 60 [.int .i64 a,.int .i64 b]) (.st 60 [.int .i64 c,.int .i64 d])=some (decide (a=c/\b=d)):=by
 have e:=underlying61;have:((a==c)&&((b==d)&&true))=decide (a=c/\b=d):=by rw[b1];simp
 rw[<-this];simp[dC,e,OV,fw,aL]
@[simp] theorem aEW:lL prog 112=true:=by kernel_rfl
theorem aAP:prog.stoodInHeld 112=false:=by kernel_rfl
theorem Nj{a c d a' c' d':List Nat}{b b':Int}:dC prog 9 112 (.st 109 [.str a,.int .i64 b,.str c,.str d]) (.st 109 [.str a',.int .i64 b',.str c',.str d'])=some (decide (a=a'/\b=b'/\c=c'/\d=d')):=by
 have e:=underlying112;have:((a==a')&&((b==b')&&((c==c')&&((d==d')&&true))))=decide (a=a'/\b=b'/\c=c'/\d=d'):=by rw[b1];simp
 rw[<-this];simp[dC,e,aAP,fw,aL]
theorem XK{a c d a' c' d':List Nat}{b b':Int}:dC prog 9 110 (.st 109 [.str a,.int .i64 b,.str c,.str d]) (.st 109 [.str a',.int .i64 b',.str c',.str d'])=some (decide (a=a'/\b=b'/\c=c'/\d=d')):=by
 have e:=underlying110;have:((a==a')&&((b==b')&&((c==c')&&((d==d')&&true))))=decide (a=a'/\b=b'/\c=c'/\d=d'):=by rw[b1];simp
 rw[<-this];simp[dC,e,OU,fw,aL]
theorem XM{a b a' b':List Nat}:dC prog 8 47 (.st 46 [.str a,.str b]) (.st 46 [.str a',.str b'])=some (decide (a=a'/\b=b')):=by
 have c:=underlying47;have:((a==a')&&((b==b')&&true))=decide (a=a'/\b=b'):=by rw[b1];simp
 rw[<-this];simp[dC,c,Lb,fw,aL]
theorem XO{a b:List Nat}:dC prog 8 9 (.str a) (.str b)=some (decide (a=b)):=by
 have:(a==b)=decide (a=b):=by rw[b1];simp
 rw[<-this];simp[dC]
theorem XP{a b c a' b' c':List Nat}:dC prog 9 49 (.st 48 [.str a,.st 46 [.str b,.str c]]) (.st 48 [.str a',.st 46 [.str b',.str c']])=some (decide (a=a'/\b=b'/\c=c')):=by
 have d:=underlying49;have:(decide (a=a')&&(decide (b=b'/\c=c')&&true))=decide (a=a'/\b=b'/\c=c'):=by rw[b1];simp
 rw[<-this];rw[dC.eq_def];simp[d,OW,fw,aL,XM,XO]
theorem Wv(l m:List df)(hl:l.length<=1000000)(s:m.length<=1000000):az prog 130 [.seq (l.map aR),.seq (m.map aR)] (.bool (gh l m)):=by
 refine aO nf F2 mix (by simp[f130]) ?_
 by_cases n:l.length=m.length
 case neg=>
  have hi:¬(l.length:Int)=m.length:=by omega
  rw[iB (fun h=>n (by rw[h]))];simp[f130,ad,hi]
 have hi:(m.length:Int)=l.length:=by omega
 generalize g:gh l m=R;simp[f130,ad,hi];refine lp (α:=Nat) (fun i=>⟨[(13,.p (.int .i64 i)),(12,.p (.int .i64 l.length)),(1,.p (.seq (m.map aR))),(0,.p (.seq (l.map aR)))],[]⟩) (fun i=>i<=l.length/\∀j,j<i->l[j]?=m[j]?) (fun i=>l.length-i) 0 (by simp) ?_;rintro i ⟨i1,i2⟩
 by_cases hi:i<l.length
 ·obtain⟨x,d⟩:∃x,l[i]?=some x:=⟨_,cc hi⟩
  obtain⟨y,f⟩:∃y,m[i]?=some y:=⟨_,cc (by omega)⟩
  have hx:l[i]=x:=by rw[cc hi]at d;injection d
  have o:=cJ (i:=i) (by omega);have q:¬x=y->R=false:=fun h=>by
   rw[<-g];exact iB (fun e=>h (by rw[e,f]at d;injection d with d;exact d.symm))
  have r:x=y->l[i]?=m[i]?:=fun h=>by rw[d,f,h]
  obtain⟨a,b⟩:=x;obtain⟨a',b'⟩:=y
  by_cases c:a=a'/\b=b'
  ·have c':(a=a'/\b=b')=True:=by simp[c]
   have:=r (by obtain⟨rfl,rfl⟩:=c;rfl);simp[hi,d,f,hx,o,ad,aR,CV,c];exact rd (i+1) ⟨hi,fun j k=>by
    by_cases e:j=i
    ·subst e;exact this
    ·exact i2 j (by omega)⟩
  ·have:=q (fun h=>c (by injection h;simp[*]));subst this;simp[hi,d,f,hx,o,ad,aR,CV,c]
 ·obtain rfl:i=l.length:=by omega
  rw[zU n (fun j k=>i2 j k)]at g;subst g;simp[ad]
theorem Wu(l m:List cw)(hl:l.length<=1000000)(u:m.length<=1000000):az prog 131 [.seq (l.map bu),.seq (m.map bu)] (.bool (gh l m)):=by
 refine aO nf F1 mix (by simp[f131]) ?_
 by_cases q:l.length=m.length
 case neg=>
  have hi:¬(l.length:Int)=m.length:=by omega
  rw[iB (fun h=>q (by rw[h]))];simp[f131,ad,hi]
 have hi:(m.length:Int)=l.length:=by omega
 generalize k:gh l m=R;simp[f131,ad,hi];refine lp (α:=Nat) (fun i=>⟨[(13,.p (.int .i64 i)),(12,.p (.int .i64 l.length)),(1,.p (.seq (m.map bu))),(0,.p (.seq (l.map bu)))],[]⟩) (fun i=>i<=l.length/\∀j,j<i->l[j]?=m[j]?) (fun i=>l.length-i) 0 (by simp) ?_;rintro i ⟨i1,i2⟩
 by_cases hi:i<l.length
 ·obtain⟨x,f⟩:∃x,l[i]?=some x:=⟨_,cc hi⟩
  obtain⟨y,g⟩:∃y,m[i]?=some y:=⟨_,cc (by omega)⟩
  have hx:l[i]=x:=by rw[cc hi]at f;injection f
  have r:=cJ (i:=i) (by omega);have s:¬x=y->R=false:=fun h=>by
   rw[<-k];exact iB (fun e=>h (by rw[e,g]at f;injection f with f;exact f.symm))
  have t:x=y->l[i]?=m[i]?:=fun h=>by rw[f,g,h]
  obtain⟨a,b,c1,d⟩:=x;obtain⟨a',b',n,d'⟩:=y
  by_cases c:a=a'/\b=b'/\c1=n/\d=d'
  ·have c':(a=a'/\b=b'/\c1=n/\d=d')=True:=by simp[c]
   have:=t (by obtain⟨rfl,rfl,rfl,rfl⟩:=c;rfl);simp[hi,f,g,hx,r,ad,bu,Nj,c];exact rd (i+1) ⟨hi,fun j o=>by
    by_cases e:j=i
    ·subst e;exact this
    ·exact i2 j (by omega)⟩
  ·have:=s (fun h=>c (by injection h;simp[*]));subst this;simp[hi,f,g,hx,r,ad,bu,Nj,c]
 ·obtain rfl:i=l.length:=by omega
  rw[zU q (fun j o=>i2 j o)]at k;subst k;simp[ad]
@[simp] theorem aET:lL prog 280=true:=by kernel_rfl
theorem Yl:(prog.info? 45).isSome=true:=by kernel_rfl
@[simp] theorem aEZ{a b c d:List Nat}:dC prog 9 280 (.st 280 [.str a,.str b]) (.st 280 [.str c,.str d])=some (decide (a=c/\b=d)):=by
 have:((a==c)&&((b==d)&&true))=decide (a=c/\b=d):=by rw[b1];simp
 rw[<-this];simp[dC,Yl,fw,aL]
theorem Qp(s o:cU):az prog 133 [bF s,bF o] (.bool (gh s o)):=by
 obtain⟨a,b,c⟩:=s;obtain⟨a',b',c'⟩:=o;refine aO nf FK mix (by simp[f133]) ?_
 by_cases h:a=a'
 ·subst h
  by_cases d:b=b'/\c=c'
  ·obtain⟨rfl,rfl⟩:=d;rw[lY rfl];simp[f133,ad,bF,fR]
  ·rw[iB (fun e=>d (by injection e with _ e;injection e with e1 e2;exact⟨e1,e2⟩))];simp[f133,ad,bF,fR,d]
 ·rw[iB (fun e=>h (by injection e))];simp[f133,ad,bF,fR,h]
theorem Ww(l m:List cU)(hl:l.length<=1000000)(n:m.length<=1000000):az prog 132 [.seq (l.map bF),.seq (m.map bF),.func 133 [] []] (.bool (gh l m)):=by
 refine aO nf FL mix (by simp[f132]) ?_
 by_cases k:l.length=m.length
 case neg=>
  have hi:¬(l.length:Int)=m.length:=by omega
  rw[iB (fun h=>k (by rw[h]))];simp[f132,ad,hi]
 have hi:(m.length:Int)=l.length:=by omega
 generalize d:gh l m=R;simp[f132,ad,hi];refine lp (α:=Nat) (fun i=>⟨[(17,.p (.int .i64 i)),(16,.p (.int .i64 l.length)),(15,.p (.seq (l.map bF))),(2,.p (.func 133 [] [])),(1,.p (.seq (m.map bF)))],[]⟩) (fun i=>i<=l.length/\∀j,j<i->l[j]?=m[j]?) (fun i=>l.length-i) 0 (by simp) ?_;rintro i ⟨i1,i2⟩
 by_cases hi:i<l.length
 ·obtain⟨x,a⟩:∃x,l[i]?=some x:=⟨_,cc hi⟩
  obtain⟨y,b⟩:∃y,m[i]?=some y:=⟨_,cc (by omega)⟩
  have hx:l[i]=x:=by rw[cc hi]at a;injection a
  have f:=cJ (i:=i) (by omega);have kS:=Qp x y
  by_cases c:x=y
  ·rw[lY c]at kS;simp[hi,a,b,hx,f,ad];refine Go.au.c2 kS ?_;simp[ad,f];exact rd (i+1) ⟨hi,fun j g=>by
    by_cases e:j=i
    ·subst e;rw[a,b,c]
    ·exact i2 j (by omega)⟩
  ·rw[iB c]at kS;rw[iB (fun e=>c (by rw[e,b]at a;injection a with a;exact a.symm))]at d;subst d;simp[hi,a,b,hx,f,ad];refine Go.au.c2 kS ?_;simp[ad]
 ·obtain rfl:i=l.length:=by omega
  rw[zU k (fun j g=>i2 j g)]at d;subst d;simp[ad]
theorem lX{t:aE}:(fa t).cs.length=t.cs.length/\(fa t).aF.length=t.aF.length/\(fa t).aA.length=t.aA.length:=by
 refine⟨?_,?_,?_⟩
 ·rw[fa,da,c9,dl];omega
 ·rw[fa,kW _ _ _ (by rw[ck];exact eo _)]
 ·rw[fa,kW _ _ _ (eo _)]
def zT:aE:=⟨[],0,[],[]⟩
theorem Qh(t:aE)(b:ku t)(hs:il t=true):az prog 51 [dy t] (.aC [dy (if dw t=0 then fa t else zT),.int .i64 (dw t)]):=by
 have k1:=zB t b;have c:dy zT=.st 37 [.seq [],.int .i64 0,.seq [],.seq []]:=rfl;refine aO nf NT mix (by simp[f51]) ?_
 by_cases a:dw t=0
 ·have k2:=zQ t b a hs;rw[a]at k1;rw[if_pos a,a];simp[f51,ad];refine Go.au.c1 k1 ?_;simp[ad];refine Go.au.c1 k2 ?_;simp[ad]
 ·rw[if_neg a];generalize dw t=e at*;simp[f51,ad];refine Go.au.c1 k1 ?_;simp[ad,a,c]
noncomputable def vT(a b:aE):Bool:=gh (fa a) (fa b)
theorem FU(a b:aE):(decide (a.bJ=b.bJ)&&(gh a.cs b.cs&&(gh a.aF b.aF&&gh a.aA b.aA)))=gh a b:=by
 obtain⟨c1,g,c,s1⟩:=a;obtain⟨c2,i,d,s2⟩:=b
 by_cases h:(⟨c1,g,c,s1⟩:aE)=⟨c2,i,d,s2⟩
 ·rw[lY h];injection h with j k l m
  simp only;rw[lY j,lY l,lY m,decide_eq_true k];rfl
 ·rw[iB h];simp only
  by_cases q1:c1=c2
  ·by_cases e:g=i
   ·by_cases f:c=d
    ·by_cases q4:s1=s2
     ·exact absurd (by rw[q1,e,f,q4]) h
     ·rw[iB q4];simp
    ·rw[iB f];simp
   ·rw[decide_eq_false e];simp
  ·rw[iB q1];simp
theorem Qo(t b:aE)(m:ku t)(l:ku b)(hs:il t=true)(p:il b=true):az prog 52 [dy t,dy b] (.aC [.bool (if bG [dw t,dw b]=0 then vT t b else false),.int .i64 (bG [dw t,dw b])]):=by
 have k1:=zB t m;have k2:=zB b l;have k3:=rk [dw t,dw b] (by simp);refine aO nf NU mix (by simp[f52]) ?_
 by_cases c:bG [dw t,dw b]=0
 ·obtain⟨e1,e2⟩:dw t=0/\dw b=0:=by
   by_cases h:dw t=0
   ·refine⟨h,?_⟩
    by_cases i:dw b=0
    ·exact i
    ·simp[bG,h,i]at c
   ·simp[bG,h]at c
  have q1:=zQ t m e1 hs;have n:=zQ b l e2 p;rw[if_pos c,c];rw[e1]at k1 k3;rw[e2]at k2 k3;have q:=lX (t:=t);have r:=lX (t:=b);obtain⟨E,F⟩:=tM e1;obtain⟨G,H⟩:=tM e2;obtain⟨C,D,_⟩:=vD e1;obtain⟨m1,m2,_⟩:=vD e2;have a:=FU (fa t) (fa b);rw[show gh (fa t) (fa b)=vT t b from rfl]at a;rw[show bG [(0:Int),0]=0 from rfl]at k3;have eT:∀x:aE,dy x=.st 37 [.seq (x.cs.map aR),.int .i64 x.bJ,.seq (x.aF.map bu),.seq (x.aA.map bF)]:=fun _=>rfl;rw[eT (fa t)]at q1;rw[eT (fa b)]at n;generalize fa t=x at*;generalize fa b=y at*;have d:=Wv x.cs y.cs (by omega) (by omega);have f:=Wu x.aF y.aF (by omega) (by omega);have g:=Ww x.aA y.aA (by omega) (by omega);simp[f52,ad];refine Go.au.e1 k1 ?_;simp[ad];refine Go.au.e1 k2 ?_;simp[ad];refine ep k3 (by simp;first|exact⟨rfl,rfl⟩|rfl) (by simp;first|exact⟨rfl,rfl⟩|rfl) ?_;simp[ad];refine⟨by repeat' first|rfl|apply b0,?_⟩;refine Go.au.e1 q1 ?_;simp[ad];refine Go.au.e1 n ?_;simp[ad];refine⟨by repeat' first|rfl|apply b0,?_⟩;obtain⟨s,v,u,xs⟩:=x;obtain⟨w,A,z,B⟩:=y;simp only at d f g a q r⊢
  by_cases c1:v=A
  case neg=>
   rw[decide_eq_false c1]at a;rw[<-a];simp[c1,ad]
  rw[decide_eq_true c1]at a;subst c1;simp[ad];rcases j:gh s w with _|_
  ·rw[j]at d a;rw[<-a];refine Go.au.c2 d ?_;simp[ad]
  rw[j]at d a;refine Go.au.c2 d ?_;simp[ad];rcases k:gh u z with _|_
  ·rw[k]at f a;rw[<-a];refine Go.au.c2 f ?_;simp[ad]
  rw[k]at f a;refine Go.au.c2 f ?_;simp[ad];rcases o:gh xs B with _|_<;>
  ·rw[o]at g a;rw[<-a];refine Go.au.c3 g ?_;simp[ad]
 ·rw[if_neg c];generalize a:bG [dw t,dw b]=e at*;simp[f52,ad];refine Go.au.e1 k1 ?_;simp[ad];refine Go.au.e1 k2 ?_;simp[ad];refine ep k3 (by simp;first|exact⟨rfl,rfl⟩|rfl) (by simp;first|exact⟨rfl,rfl⟩|rfl) ?_;simp[ad,c];rfl
theorem OX:∀a b:List Nat,(!(fN a b||a==b))=decide (jW b a<0)
 |[],[]=>by simp[fN,jW]
 |[],_::_=>by simp[fN,jW]
 |_::_,[]=>by simp[fN,jW]
 |a::r,b::t=>by
  have e:=OX r t;have d:∀x y:Nat,Nat.blt x y=decide (x<y):=fun x y=>by rw[b1,Nat.blt_eq,decide_eq_true_eq]
  rw[fN,jW,d,d];rcases Nat.lt_trichotomy a b with h|h|h
  ·have c:¬b<a:=by omega
   simp[h,c]
  ·subst h;simp at e⊢;exact e
  ·have c:¬a=b:=by omega
   have f:¬a<b:=by omega
   simp[h,c,f]
def hl(J:Heap):Nat:=J.length
def ct(J r:Heap):Heap:=J++r
@[simp] theorem aFH:hl []=0:=rfl
@[simp] theorem aFG{J r:Heap}:hl (ct J r)=hl J+r.length:=by rw[hl,ct,da];rfl
@[simp] theorem Yc{J r:Heap}:(ct J r).length=hl J+r.length:=by rw[ct,da];rfl
@[simp] theorem aFJ{J r s:Heap}:ct J r++s=ct J (r++s):=by rw[ct,ct,ej]
@[simp] theorem mM{J r s:Heap}:ct (ct J r) s=ct J (r++s):=by rw[ct,ct,ct,ej]
@[simp] theorem Ya{J r:Heap}{k:Nat}:(ct J r)[hl J+k]?=r[k]?:=by
 rw[ct,hl,List.getElem?_append_right (by omega)];congr 1;omega
theorem F4{J r:Heap}{k:Nat}(h:hl J+k<(ct J r).length):k<r.length:=by
 rw[Yc]at h;omega
@[simp] theorem Yb{J r:Heap}{k:Nat}(h:hl J+k<(ct J r).length):(ct J r)[hl J+k]'h=r[k]'(F4 h):=by
 apply ew;rw[<-cc,<-cc,Ya]
@[simp] theorem aFK{J r:Heap}(h:hl J<(ct J r).length):(ct J r)[hl J]'h=r[0]'(F4 (k:=0) h):=Yb (k:=0) h
@[simp] theorem Yd{J r:Heap}{k:Nat}{o:Obj}:(ct J r).set (hl J+k) o=ct J (r.set k o):=by
 rw[ct,hl,List.set_append_right _ _ (by omega),Nat.add_sub_cancel_left];rfl
@[simp] theorem aFN{J r:Heap}{o:Obj}:(ct J r).set (hl J) o=ct J (r.set 0 o):=Yd (k:=0)
@[simp] theorem aFL{T J r s:Heap}:gS T (ct J r) (ct J s)=gS T r s:=by
 induction J with
 |nil=>rfl
 |cons o J a=>
  rw[ct,ct,ee,ee,gS,Ct,true_and];exact a
@[simp] theorem aFM{T J r:Heap}:cr T (ct J r)=(cr T J/\cr T r):=by
 induction J with
 |nil=>simp[ct,cr]
 |cons o J a=>
  rw[ct]at a;rw[ct,ee,cr,cr,a,and_assoc]
@[simp] theorem tK{l:List cw}:(cd l).length=l.length:=ck ..
@[simp] theorem tG{l:List cU}:(cg l).length=l.length:=ck ..
@[simp] theorem aGC{N:Nat×Nat->Prop}{q:List cw}:aP N (cd q)=True:=by
 rw[b9,eq_iff_iff,iff_true];intro x hx;obtain⟨a,_,rfl⟩:=dg.1 hx;trivial
@[simp] theorem aGD{N:Nat×Nat->Prop}{q:List cU}:aP N (cg q)=True:=by
 rw[b9,eq_iff_iff,iff_true];intro x hx;obtain⟨a,_,rfl⟩:=dg.1 hx;trivial
def sZ(z:Nat):Nat->Heap->Nat->AV
 |0,_,_=>.p .aG
 |m+1,J,v=>.sl (hl J+4) v z 0 (m+1)
def rh(z:Nat)(f:Nat->List AV):Nat->Nat->Heap
 |0,_=>[]
 |m+1,v=>[.arr .grow v z (f (m+1))]
theorem mN{z v:Nat}{J:Heap}:sZ z 0 J v=.p .aG:=rfl
theorem vU{z v:Nat}{J:Heap}:sZ z 1 J v=.sl (hl J+4) v z 0 1:=rfl
theorem gz{z v m:Nat}{J:Heap}:sZ z (m+1) J v=.sl (hl J+4) v z 0 (m+1):=rfl
theorem nW{z v:Nat}{f:Nat->List AV}:rh z f 0 v=[]:=rfl
theorem vS{z v:Nat}{f:Nat->List AV}:rh z f 1 v=[.arr .grow v z (f 1)]:=rfl
theorem fW{z v m:Nat}{f:Nat->List AV}:rh z f (m+1) v=[.arr .grow v z (f (m+1))]:=rfl
theorem FN{r:Heap}:ct [] r=r:=rfl
theorem Po(t:aE){i:Nat}(hi:i<t.cs.length)(a:t.L<t.cs.length):(t.cs.drop t.L++t.cs.take t.L)[i]?=some (t.at ((t.L+i)% t.cs.length)):=by
 rw[List.getElem?_append]
 split
 ·rename_i h;rw[c9]at h;rw[List.getElem?_drop,eq (by omega)];exact aE.get (by omega)
 ·rename_i h;rw[c9]at h;rw[c9,List.getElem?_take,if_pos (by omega),Nat.mod_eq_sub_mod (by omega),eq (by omega),show i-(t.cs.length-t.L)=t.L+i-t.cs.length by omega];exact aE.get (by omega)
theorem FT(t:aE)(a8:ku t)(aJ:dw t=0)(hs:il t=true):az prog 53 [bW t] (bW (fa t)):=by
 have bC:(1000000:Nat)<cT:=by decide
 have aI:b4.wrap 1=1:=by decide
 obtain⟨bb,bH,bD,_⟩:=vD aJ;have a5:=OH a8 aJ hs;have bB:=a8.cl;obtain⟨bE,bG⟩:=tM aJ;have bg:bW (fa t)=.st 25 [.seq ((t.cs.drop t.L++t.cs.take t.L).map aR),.int .i64 t.bJ,.seq ((bP dS (t.aF.map (lP t.cs.length t.L)) t.aF.length).map bu),.seq ((bP eQ t.aA t.aA.length).map bF)]:=rfl;rw[bg];have bx:bW t=.st 25 [.seq (t.cs.map aR),.int .i64 t.bJ,.seq (t.aF.map bu),.seq (t.aA.map bF)]:=rfl;have bj:t.L<t.cs.length:=t.vV (eo _) (by omega);have bk:∀i,i<t.cs.length->(t.cs.drop t.L++t.cs.take t.L)[i]?=some (t.at ((t.L+i)% t.cs.length)):=fun i hi=>Po t hi bj;have aP:(t.cs.drop t.L++t.cs.take t.L).length=t.cs.length:=by rw[da,c9,dl];omega
 generalize t.cs.drop t.L++t.cs.take t.L=C at*;obtain⟨Q,aA⟩:∃Q,Q=t.aF.map (lP t.cs.length t.L):=⟨_,rfl⟩
 rw[<-aA];have bA:Q.length=t.aF.length:=by rw[aA,ck]
 have a6:∀p∈Q,qZ p:=fun p h=>by
  rw[aA]at h;obtain⟨o,br,rfl⟩:=dg.1 h;obtain⟨_,_,bd,_,a2,_,a3,_⟩:=a5 o br;exact⟨bd,a2,a3⟩
 have aQ:¬t.cs=[]:=by intro h;rw[h]at bb;simp at bb
 refine aO nf NW mix (by simp[f53]) ?_;simp[f53,ad];refine lp (α:=Nat) (fun i=>⟨[(5,.p (.int .i64 i)),(4,.p (.int .i64 (t.bw i))),(3,.p (.int .i64 t.cs.length)),(2,.ptr 1 []),(1,.ptr 0 [])],[.box false (.p (bW t)),.box false (.p (.st 25 [.aG,.int .i64 0,.aG,.aG]))]⟩) (fun i=>i<=t.cs.length) (fun i=>t.cs.length-i) 0 (by simp) ?_ (he:=by simp[aE.bw]);intro i av
 by_cases hi:i<t.cs.length
 ·have f:=aE.get hi;have hl:=t.vV (i:=i) (by omega) (by omega);have aw:=aE.get hl;have w:=cJ (i:=i) (by omega);have D:t.bw (i+1)=if tH (t.at i) (t.at (t.bw i))=true then i else t.bw i:=rfl
  rw[tH]at D;generalize t.bw i=q at*;generalize ax:t.at i=A at*;generalize ay:t.at q=B at*;obtain⟨x,y⟩:=A;obtain⟨u,v⟩:=B
  by_cases c1:x<u
  ·rw[if_pos (by simp[c1])]at D;simp[hi,hl,f,aw,ax,ay,ad,aR,w,c1];refine⟨by repeat' first|rfl|apply b0,?_⟩;exact rd (i+1) hi (he:=by simp[D]) (hh:=by simp[aR])
  ·by_cases c2:x=u
   ·by_cases c3:y<v
    ·rw[if_pos (by simp[c2,c3])]at D;simp[hi,hl,f,aw,ax,ay,ad,aR,w,c1,c2,c3];refine⟨by repeat' first|rfl|apply b0,?_⟩;exact rd (i+1) hi (he:=by simp[D]) (hh:=by simp[aR])
    ·rw[if_neg (by simp[c1,c2,c3])]at D;simp[hi,hl,f,aw,ax,ay,ad,aR,w,c1,c2,c3];refine⟨by repeat' first|rfl|apply b0,?_⟩;exact rd (i+1) hi (he:=by simp[D]) (hh:=by simp[aR])
   ·rw[if_neg (by simp[c1,c2])]at D;simp[hi,hl,f,aw,ax,ay,ad,aR,w,c1,c2];refine⟨by repeat' first|rfl|apply b0,?_⟩;exact rd (i+1) hi (he:=by simp[D]) (hh:=by simp[aR])
 obtain rfl:i=t.cs.length:=by omega
 rw[show t.bw t.cs.length=t.L from rfl];simp[ad];refine lp (α:=Nat) (fun i=>⟨[(9,.p (.int .i64 i)),(8,.ptr 2 []),(4,.p (.int .i64 t.L)),(3,.p (.int .i64 t.cs.length)),(2,.ptr 1 []),(1,.ptr 0 [])],[.box false (.p (bW t)),.box false (.p (.st 25 [.aG,.int .i64 0,.aG,.aG])),.box false (.st 25 [.sl 3 i 2 0 i,.p (.int .i64 t.bJ),.p .aG,.p .aG]),.arr .grow i 2 ((C.take i).map (AV.p∘aR))]⟩) (fun i=>i<=t.cs.length) (fun i=>t.cs.length-i) 0 (by simp) ?_;intro i av
 by_cases hi:i<t.cs.length
 ·have w:=cJ (i:=i) (by omega);have f:=aE.get (t:=t) (i:=(t.L+i)% t.cs.length) (Nat.mod_lt _ (by omega));have wl:b4.wrap ((t.L:Int)+i)=(t.L:Int)+i:=aN _ (by omega) (by omega);have bw:((t.L:Int)+i).tmod t.cs.length=(((t.L+i)% t.cs.length:Nat):Int):=by
   rw[Int.tmod_eq_emod_of_nonneg (by omega)];rfl
  have ci:=bk i hi;generalize (t.L+i)% t.cs.length=r at*;have bt:(C.take (i+1)).map (AV.p∘aR)=(C.map (AV.p∘aR)).take i++[AV.p (aR (t.at r))]:=by
   rw[List.take_add_one,ci,dq,dp];rfl
  have bq:min i t.cs.length=i:=by omega
  simp[hi,f,wl,bw,w,aQ,aP,bq,ad];exact⟨by omega,⟨by rfl,by rfl⟩,rd (i+1) hi (hh:=by simp[bt]) (hr2:=by simp[fK])⟩
 obtain rfl:i=t.cs.length:=by omega
 have ai:C.take t.cs.length=C:=ce (by omega);simp[ai,ad];refine lp (α:=Nat×Nat×Heap) (fun a=>⟨[(10,.p (.int .i64 a.1)),(8,.ptr 2 []),(4,.p (.int .i64 t.L)),(3,.p (.int .i64 t.cs.length)),(2,.ptr 1 []),(1,.ptr 0 [])],.box false (.p (bW t))::.box false (.p (.st 25 [.aG,.int .i64 0,.aG,.aG]))::.box false (.st 25 [.sl 3 t.cs.length 2 0 t.cs.length,.p (.int .i64 t.bJ),sZ 4 a.1 a.2.2 a.2.1,.p .aG])::.arr .grow t.cs.length 2 (C.map (AV.p∘aR))::ct a.2.2 (rh 4 (fun i=>cd (bP dS Q i)) a.1 a.2.1)⟩) (fun a=>a.1<=t.aF.length/\∀T,cr T a.2.2=True) (fun a=>t.aF.length-a.1) (0,0,[]) ⟨by simp,fun _=>by simp⟩ ?_ (hh:=by simp[mN,nW,FN]) (hr2:=by simp[mN,nW,FN]);rintro⟨i,v,J⟩ ⟨av,e⟩;simp only at av e⊢
 by_cases hi:i<t.aF.length
 ·have f:=aE.iw hi;obtain⟨g1,g2,_⟩:=a5 _ (db f);have aD:Q[i]?=some (lP t.cs.length t.L (t.pk i)):=by rw[aA,dk,f];rfl
  have aF:b4.wrap ((t.pk i).bL-t.L)=(t.pk i).bL-t.L:=aN _ (by omega) (by omega);have aG:b4.wrap ((t.pk i).bL-t.L+t.cs.length)=(t.pk i).bL-t.L+t.cs.length:=aN _ (by omega) (by omega);obtain⟨x,hx⟩:∃x,x=lP t.cs.length t.L (t.pk i):=⟨_,rfl⟩
  have a9:qZ x:=a6 x (db (by rw[hx];exact aD));rw[<-hx]at aD;have aC:bu x=.st 109 [.str (t.pk i).name,.int .i64 (((t.pk i).bL-t.L+t.cs.length).tmod t.cs.length),.str (t.pk i).a,.str (t.pk i).b]:=by rw[hx];rfl
  rcases aS:t.pk i with⟨bI,be,bJ,bK⟩
  rw[aS]at aF aG f aC;simp only at aF aG aC;have a7:¬(t.cs.length:Int)=0:=by omega
  generalize ba:(be-(t.L:Int)+(t.cs.length:Int)).tmod (t.cs.length:Int)=z at*;rcases i with _|q
  ·simp only[mN,nW];have aK:cd (bP dS Q 1)=[.p (bu x)]:=by rw[vX _ _ aD];rfl
   simp[hi,f,aS,aF,aG,ba,a7,aQ,aI,ad,bu];refine lp (α:=Nat) (fun _=>⟨[(12,.p (.int .i64 0)),(11,.ptr (hl J+4) []),(10,.p (.int .i64 0)),(8,.ptr 2 []),(4,.p (.int .i64 t.L)),(3,.p (.int .i64 t.cs.length)),(2,.ptr 1 []),(1,.ptr 0 [])],.box false (.p (bW t))::.box false (.p (.st 25 [.aG,.int .i64 0,.aG,.aG]))::.box false (.st 25 [.sl 3 t.cs.length 2 0 t.cs.length,.p (.int .i64 t.bJ),.p .aG,.p .aG])::.arr .grow t.cs.length 2 (C.map (AV.p∘aR))::ct J [.box false (.p (bu x))]⟩) (fun _=>True) (fun _=>0) 0 trivial ?_ (hh:=by simp[aC]) (hr2:=by simp[e]);rintro _ _;simp[ad,aI];exact⟨by omega,by repeat' first|rfl|apply b0,rd (1,0,ct J [.hole,.hole,.hole]) ⟨hi,fun _=>by simp[e,cr,Obj.refs]⟩ (hh:=by simp[aK,vU,vS]) (hr2:=by simp[e,cr,Obj.refs,vU,vS])⟩
  ·have hI:(q:Int)+1<t.aF.length:=by omega
   have w:b4.wrap ((q:Int)+1+1)=(q:Int)+2:=aN _ (by omega) (by omega);have D:bP dS Q (q+1+1)=jk dS (bP dS Q (q+1)) x:=by rw[bP,aD]
   have g:(bP dS Q (q+1)).length=q+1:=kW dS Q _ (by omega);have bf:∀p∈bP dS Q (q+1),qZ p:=fun p h=>a6 p (tL _ h);simp only[gz,fW];generalize bP dS Q (q+1)=A at*;have F:¬cd A=[]:=fun h=>by have:=congrArg ei h;rw[tK,g]at this;simp at this
   simp[hI,hi,f,aS,aF,aG,ba,a7,aQ,w,g,ad,bu];refine⟨by omega,?_⟩;refine lp (α:=Nat) (fun j=>⟨[(12,.p (.int .i64 j)),(11,.ptr (hl J+5) []),(10,.p (.int .i64 ((q+1:Nat):Int))),(8,.ptr 2 []),(4,.p (.int .i64 t.L)),(3,.p (.int .i64 t.cs.length)),(2,.ptr 1 []),(1,.ptr 0 [])],.box false (.p (bW t))::.box false (.p (.st 25 [.aG,.int .i64 0,.aG,.aG]))::.box false (.st 25 [.sl 3 t.cs.length 2 0 t.cs.length,.p (.int .i64 t.bJ),.sl (hl J+4) v 4 0 (q+1),.p .aG])::.arr .grow t.cs.length 2 (C.map (AV.p∘aR))::ct J [.arr .grow v 4 (cd A),.box false (.p (bu x))]⟩) (fun j=>j<=q+1/\fg (fun a=>dS a x) A (q+1)=fg (fun a=>dS a x) A j) (fun j=>j) (q+1) ⟨eo _,rfl⟩ ?_ (hh:=by simp[aC]) (hr2:=by simp[e]);rintro j ⟨bv,Y⟩;rcases j with _|k
   ·have l:cd (bP dS Q (q+1+1))=.p (bu x)::cd A:=by rw[D,jk,g,Y];rfl
    have ai:cy (q+1) (cd A)=cd A:=ce (by rw[tK];omega);have aT:1+(q+1)=q+1+1:=by omega
    simp[ad,g,F,w,ai];exact⟨by omega,⟨tJ _,by omega⟩,by repeat' first|rfl|apply b0,rd (q+2,1,ct J [.hole,.hole,.hole,.hole]) ⟨hi,fun _=>by simp[e,cr,Obj.refs]⟩ (hh:=by simp[l,aT,gz,fW]) (hr2:=by simp[e,cr,Obj.refs,gz,fW])⟩
   ·obtain⟨a,ap⟩:∃a,A[k]?=some a:=⟨_,cc (by omega)⟩
    have has:=bf a (db ap);have E:(cd A)[k]?=some (.p (bu a)):=by rw[cd,dk,ap];rfl
    have P:∀h,(cd A)[k]'h=.p (bu a):=fun h=>ew (by rw[<-cc,E]);have S:k<q+1:=by omega
    have ah:k<=q:=by omega
    have ag:k+1+(q-k)<=q+1:=by omega
    have U:b4.wrap (k:Int)=k:=aN _ (by omega) (by omega);have aU:=tA (aX a.a) (aX x.a) (has.2.2.mono (by decide)) (a9.2.2.mono (by decide));rw[(iQ has.1).1,(iQ a9.1).1]at aU;have I:fg (fun a=>dS a x) A (k+1)=if dS a x=true then fg (fun a=>dS a x) A k else k+1:=by rw[fg,ap]
    have af:dS a x=(decide (x.bL<a.bL)||(decide (x.bL=a.bL)&&decide (0<dF (aX a.a) (aX x.a)))):=rfl;generalize dF (aX a.a) (aX x.a)=O at*;obtain⟨n,t1⟩:∃T,cy (k+1) (cd A)=T:=⟨_,rfl⟩
    obtain⟨s,t2⟩:∃T,ec (k+1) (cd A)=T:=⟨_,rfl⟩
    have M:n.length=k+1:=by rw[<-t1,dl,tK];omega
    have N:s.length=q-k:=by rw[<-t2,c9,tK];omega
    have aj:¬n=[]:=fun h=>by rw[h]at M;simp at M
    have ak:cy (k+1) n=n:=ce (by omega);have al:cy (q-k) s=s:=ce (by omega);have am:dV prog 4 n:=by rw[<-t1,cd,<-dp];exact tJ _
    have an:dV prog 4 s:=by rw[<-t2,cd,<-ea];exact tJ _
    have aZ:n++ .p (bu x)::s=cd (A.take (k+1)++x::A.drop (k+1)):=by rw[<-t1,<-t2,cd,cd,dq,en,dp,ea];rfl
    have ao:cy (k+1+1) (n++[AV.p (bu x)])=n++[AV.p (bu x)]:=ce (by rw[da,M];simp);have l:fg (fun a=>dS a x) A (q+1)=k+1->cd (bP dS Q (q+1+1))=n++ .p (bu x)::s:=fun h=>by rw[D,jk,g,h,aZ]
    by_cases c1:x.bL<a.bL
    ·rw[if_pos (by rw[af];simp[c1])]at I;simp[ad,g,F,E,P,U,c1,S];exact rd k ⟨by omega,by rw[Y,I]⟩ (hr2:=by simp[e])
    ·by_cases c2:x.bL=a.bL
     ·by_cases c3:0<O
      ·rw[if_pos (by rw[af];simp[c2,c3])]at I;simp[ad,g,F,E,P,U,c1,c2,S];refine Go.au.e2 aU ?_;simp[ad,g,F,E,P,U,c3,S];exact rd k ⟨by omega,by rw[Y,I]⟩ (hr2:=by simp[e])
      ·rw[if_neg (by rw[af];simp[c2,c3])]at I;simp[ad,g,F,E,P,U,c1,c2,S];refine Go.au.e2 aU ?_;have l:=l (by rw[Y,I])
       by_cases V:k=q
       ·have Z:(k=q)=True:=eq_true V;have G:s=[]:=cv.1 (by omega);rw[G]at l;have aa:k+1+1=q+1+1:=by omega
        simp[ad,g,F,E,P,U,c3,S,ah,ag,w,t1,t2,aj,M,N,ak,al,am,an,ao,Z,G];exact⟨by omega,by omega,by omega,by omega,by omega,by repeat' first|rfl|apply b0,rd (q+2,1,ct J [.hole,.hole,.hole]) ⟨hi,fun _=>by simp[e,cr,Obj.refs]⟩ (hh:=by simp[l,Z,V,gz,fW]) (hr2:=by simp[e,cr,Obj.refs,gz,fW])⟩
       ·have G:¬s=[]:=fun h=>by rw[h]at N;simp at N;omega
        have aa:k+1+1+(q-k)=q+1+1:=by omega
        simp[ad,g,F,E,P,U,c3,S,ah,ag,w,t1,t2,aj,M,N,ak,al,am,an,ao,V,G];exact⟨by omega,by omega,by omega,by omega,by omega,by repeat' first|rfl|apply b0,rd (q+2,2,ct J [.hole,.hole,.hole]) ⟨hi,fun _=>by simp[e,cr,Obj.refs]⟩ (hh:=by simp[l,aa,gz,fW]) (hr2:=by simp[e,cr,Obj.refs,gz,fW])⟩
     ·rw[if_neg (by rw[af];simp[c1,c2])]at I;have a0:¬a.bL=x.bL:=fun h=>c2 h.symm;have l:=l (by rw[Y,I])
      by_cases V:k=q
      ·have Z:(k=q)=True:=eq_true V;have G:s=[]:=cv.1 (by omega);rw[G]at l;have aa:k+1+1=q+1+1:=by omega
       simp[ad,g,F,E,P,U,c1,a0,S,ah,ag,w,t1,t2,aj,M,N,ak,al,am,an,ao,Z,G];exact⟨by omega,by omega,by omega,by omega,by omega,by repeat' first|rfl|apply b0,rd (q+2,1,ct J [.hole,.hole,.hole]) ⟨hi,fun _=>by simp[e,cr,Obj.refs]⟩ (hh:=by simp[l,Z,V,gz,fW]) (hr2:=by simp[e,cr,Obj.refs,gz,fW])⟩
      ·have G:¬s=[]:=fun h=>by rw[h]at N;simp at N;omega
       have aa:k+1+1+(q-k)=q+1+1:=by omega
       simp[ad,g,F,E,P,U,c1,a0,S,ah,ag,w,t1,t2,aj,M,N,ak,al,am,an,ao,V,G];exact⟨by omega,by omega,by omega,by omega,by omega,by repeat' first|rfl|apply b0,rd (q+2,2,ct J [.hole,.hole,.hole]) ⟨hi,fun _=>by simp[e,cr,Obj.refs]⟩ (hh:=by simp[l,aa,gz,fW]) (hr2:=by simp[e,cr,Obj.refs,gz,fW])⟩
 obtain rfl:i=t.aF.length:=by omega
 obtain⟨X,au⟩:∃X,X=sZ 4 t.aF.length J v:=⟨_,rfl⟩
 obtain⟨aq,ar⟩:∃K,K=ct J (rh 4 (fun i=>cd (bP dS Q i)) t.aF.length v):=⟨_,rfl⟩
 have aV:∀T,cr T aq=True:=fun T=>by
  rw[ar];rcases t.aF.length with _|m
  ·simp[nW,e,cr]
  ·simp[fW,e,cr,Obj.refs]
 have aW:∀(a b c d:Obj)(r:Heap),aB (aH (a::b::c::d::ct aq r)) X=True:=fun a b c d r=>by
  rw[ar,au];rcases t.aF.length with _|m
  ·simp[mN]
  ·simp[gz,fW]
 obtain⟨W,aL⟩:∃K,K=bP dS Q t.aF.length:=⟨_,rfl⟩
 have bz:W.length=t.aF.length:=by rw[aL,kW dS Q _ (by omega)]
 have bc:∀(a b c d:Obj)(r:Heap),fD (a::b::c::d::ct aq r) 8 X (.seq (W.map bu)):=fun a b c d r=>by
  rw[ar,au];rcases hm:t.aF.length with _|m
  ·have:W=[]:=cv.1 (by omega);simp[mN,this]
  ·have hq:bP dS Q (m+1)=W:=by rw[aL,hm]
   have bs:jb (a::b::c::d::ct J (.arr .grow v 4 (cd W)::r)) 7 (cd W) (W.map bu):=by
    rw[cd,oW];intro x _;simp
   have ai:cy (m+1) (cd W)=cd W:=ce (by rw[tK];omega);simp[gz,fW,hq,ai,bs];omega
 have aY:ad X=.leaf:=by
  rw[au];rcases t.aF.length with _|m
  ·rfl
  ·rfl
 rw[<-aL];have e2:ct J (rh 4 (fun i=>cd (bP dS Q i)) t.aF.length v)=ct aq []:=by rw[ar,mM,List.append_nil]
 rw[e2,<-au];clear ar e2 au e;simp only[ad]at aY;simp[ad];refine lp (α:=Nat×Nat×Heap) (fun a=>⟨[(13,.p (.int .i64 a.1)),(8,.ptr 2 []),(2,.ptr 1 []),(1,.ptr 0 [])],.box false (.p (bW t))::.box false (.p (.st 25 [.aG,.int .i64 0,.aG,.aG]))::.box false (.st 25 [.sl 3 t.cs.length 2 0 t.cs.length,.p (.int .i64 t.bJ),X,sZ 3 a.1 a.2.2 a.2.1])::.arr .grow t.cs.length 2 (C.map (AV.p∘aR))::ct a.2.2 (rh 3 (fun i=>cg (bP eQ t.aA i)) a.1 a.2.1)⟩) (fun a=>a.1<=t.aA.length/\(∀T,cr T a.2.2=True)/\(∀(x b c d:Obj)(r:Heap),aB (aH (x::b::c::d::ct a.2.2 r)) X=True)/\(∀(x b c d:Obj)(r:Heap),fD (x::b::c::d::ct a.2.2 r) 8 X (.seq (W.map bu)))) (fun a=>t.aA.length-a.1) (0,0,aq) ⟨by simp,aV,aW,bc⟩ ?_ (hh:=by simp[mN,nW]) (hr2:=by simp[mN,nW,aV,aW]);clear aV aW bc;rintro⟨i,v,J⟩ ⟨av,e,R,ae⟩;simp only at av e R ae⊢
 by_cases hi:i<t.aA.length
 ·have f:=aE.ja hi;obtain⟨x,hx⟩:∃x,x=t.sp i:=⟨_,rfl⟩
  rw[<-hx]at f;have ac:∀h,t.aA[i]'h=x:=fun h=>ew (by rw[<-cc,f]);rcases i with _|q
  ·simp only[mN,nW];have aK:cg (bP eQ t.aA 1)=[.p (bF x)]:=by rw[vX _ _ f];rfl
   simp[hi,f,ac,aI,ad];refine lp (α:=Nat) (fun _=>⟨[(14,.p (.int .i64 0)),(13,.p (.int .i64 0)),(8,.ptr 2 []),(2,.ptr 1 []),(1,.ptr 0 [])],.box false (.p (bW t))::.box false (.p (.st 25 [.aG,.int .i64 0,.aG,.aG]))::.box false (.st 25 [.sl 3 t.cs.length 2 0 t.cs.length,.p (.int .i64 t.bJ),X,.p .aG])::.arr .grow t.cs.length 2 (C.map (AV.p∘aR))::ct J []⟩) (fun _=>True) (fun _=>0) 0 trivial ?_ (hr2:=by simp[e,R]);rintro _ _;simp[ad,aI,f,ac,hi];exact⟨by omega,by repeat' first|rfl|apply b0,rd (1,0,ct J [.hole,.hole]) ⟨hi,fun _=>by simp[e,cr,Obj.refs],fun a b c d r=>by rw[mM];exact R a b c d _,fun a b c d r=>by rw[mM];exact ae a b c d _⟩ (hh:=by simp[aK,vU,vS]) (hr2:=by simp[e,R,cr,Obj.refs,vU,vS])⟩
  ·have hI:(q:Int)+1<t.aA.length:=by omega
   have w:b4.wrap ((q:Int)+1+1)=(q:Int)+2:=aN _ (by omega) (by omega);have D:bP eQ t.aA (q+1+1)=jk eQ (bP eQ t.aA (q+1)) x:=by rw[bP,f]
   have g:(bP eQ t.aA (q+1)).length=q+1:=kW eQ t.aA _ (by omega);simp only[gz,fW];generalize bP eQ t.aA (q+1)=A at*;have F:¬cg A=[]:=fun h=>by have:=congrArg ei h;rw[tG,g]at this;simp at this
   simp[hI,hi,f,ac,g,ad];refine lp (α:=Nat) (fun j=>⟨[(14,.p (.int .i64 j)),(13,.p (.int .i64 ((q+1:Nat):Int))),(8,.ptr 2 []),(2,.ptr 1 []),(1,.ptr 0 [])],.box false (.p (bW t))::.box false (.p (.st 25 [.aG,.int .i64 0,.aG,.aG]))::.box false (.st 25 [.sl 3 t.cs.length 2 0 t.cs.length,.p (.int .i64 t.bJ),X,.sl (hl J+4) v 3 0 (q+1)])::.arr .grow t.cs.length 2 (C.map (AV.p∘aR))::ct J [.arr .grow v 3 (cg A)]⟩) (fun j=>j<=q+1/\fg (fun a=>eQ a x) A (q+1)=fg (fun a=>eQ a x) A j) (fun j=>j) (q+1) ⟨eo _,rfl⟩ ?_ (hr2:=by simp[e,R]);rintro j ⟨bv,Y⟩;rcases j with _|k
   ·have l:cg (bP eQ t.aA (q+1+1))=.p (bF x)::cg A:=by rw[D,jk,g,Y];rfl
    have ai:cy (q+1) (cg A)=cg A:=ce (by rw[tG];omega);have aT:1+(q+1)=q+1+1:=by omega
    simp[ad,g,F,w,ai,f,ac,hI,hi];exact⟨by omega,by omega,⟨tI _,by omega⟩,by repeat' first|rfl|apply b0,rd (q+2,1,ct J [.hole,.hole,.hole]) ⟨hi,fun _=>by simp[e,cr,Obj.refs],fun a b c d r=>by rw[mM];exact R a b c d _,fun a b c d r=>by rw[mM];exact ae a b c d _⟩ (hh:=by simp[l,aT,gz,fW]) (hr2:=by simp[e,R,cr,Obj.refs,gz,fW])⟩
   ·obtain⟨a,ap⟩:∃a,A[k]?=some a:=⟨_,cc (by omega)⟩
    have E:(cg A)[k]?=some (.p (bF a)):=by rw[cg,dk,ap];rfl
    have P:∀h,(cg A)[k]'h=.p (bF a):=fun h=>ew (by rw[<-cc,E]);have S:k<q+1:=by omega
    have ah:k<=q:=by omega
    have ag:k+1+(q-k)<=q+1:=by omega
    have U:b4.wrap (k:Int)=k:=aN _ (by omega) (by omega);have I:fg (fun a=>eQ a x) A (k+1)=if eQ a x=true then fg (fun a=>eQ a x) A k else k+1:=by rw[fg,ap]
    have af:eQ a x=!(fN a.name x.name||a.name==x.name):=(OX _ _).symm;obtain⟨n,t1⟩:∃T,cy (k+1) (cg A)=T:=⟨_,rfl⟩
    obtain⟨s,t2⟩:∃T,ec (k+1) (cg A)=T:=⟨_,rfl⟩
    have M:n.length=k+1:=by rw[<-t1,dl,tG];omega
    have N:s.length=q-k:=by rw[<-t2,c9,tG];omega
    have aj:¬n=[]:=fun h=>by rw[h]at M;simp at M
    have ak:cy (k+1) n=n:=ce (by omega);have al:cy (q-k) s=s:=ce (by omega);have am:dV prog 3 n:=by rw[<-t1,cg,<-dp];exact tI _
    have an:dV prog 3 s:=by rw[<-t2,cg,<-ea];exact tI _
    have aZ:n++ .p (bF x)::s=cg (A.take (k+1)++x::A.drop (k+1)):=by rw[<-t1,<-t2,cg,cg,dq,en,dp,ea];rfl
    have ao:cy (k+1+1) (n++[AV.p (bF x)])=n++[AV.p (bF x)]:=ce (by rw[da,M];simp);have l:fg (fun a=>eQ a x) A (q+1)=k+1->cg (bP eQ t.aA (q+1+1))=n++ .p (bF x)::s:=fun h=>by rw[D,jk,g,h,aZ]
    by_cases c1:eQ a x=true
    ·rw[if_pos c1]at I;rw[af]at c1;simp at c1;simp[ad,g,F,f,ac,E,P,U,c1,S,hI,hi];exact⟨by omega,rd k ⟨by omega,by rw[Y,I]⟩ (hr2:=by simp[e,R])⟩
    ·rw[if_neg c1]at I;rw[af]at c1;simp at c1;have hs:(fN a.name x.name=false/\¬a.name=x.name)=False:=by simp;exact c1
     have l:=l (by rw[Y,I])
     by_cases V:k=q
     ·have Z:(k=q)=True:=eq_true V;have G:s=[]:=cv.1 (by omega);rw[G]at l;have aa:k+1+1=q+1+1:=by omega
      simp[ad,g,F,f,ac,hI,hi,E,P,U,S,ah,ag,w,hs,t1,t2,aj,M,N,ak,al,am,an,ao,Z,G];exact⟨by omega,by omega,by omega,by omega,by omega,by omega,by omega,by repeat' first|rfl|apply b0,rd (q+2,1,ct J [.hole,.hole]) ⟨hi,fun _=>by simp[e,cr,Obj.refs],fun a b c d r=>by rw[mM];exact R a b c d _,fun a b c d r=>by rw[mM];exact ae a b c d _⟩ (hh:=by simp[l,Z,V,gz,fW]) (hr2:=by simp[e,R,cr,Obj.refs,gz,fW])⟩
     ·have G:¬s=[]:=fun h=>by rw[h]at N;simp at N;omega
      have aa:k+1+1+(q-k)=q+1+1:=by omega
      simp[ad,g,F,f,ac,hI,hi,E,P,U,S,ah,ag,w,hs,t1,t2,aj,M,N,ak,al,am,an,ao,V,G];exact⟨by omega,by omega,by omega,by omega,by omega,by omega,by omega,by repeat' first|rfl|apply b0,rd (q+2,2,ct J [.hole,.hole]) ⟨hi,fun _=>by simp[e,cr,Obj.refs],fun a b c d r=>by rw[mM];exact R a b c d _,fun a b c d r=>by rw[mM];exact ae a b c d _⟩ (hh:=by simp[l,aa,gz,fW]) (hr2:=by simp[e,R,cr,Obj.refs,gz,fW])⟩
 obtain rfl:i=t.aA.length:=by omega
 obtain⟨ab,aM⟩:∃K,K=bP eQ t.aA t.aA.length:=⟨_,rfl⟩
 have bl:ab.length=t.aA.length:=by rw[aM,kW eQ t.aA _ (eo _)]
 have a1:∀(H:Heap)(k:Nat),jb H k (C.map (AV.p∘aR)) (C.map aR):=fun H k=>by
  rw[oW];intro x _;cases k<;>simp
 have bm:∀(H:Heap)(k:Nat),jb H k (cg ab) (ab.map bF):=fun H k=>by
  rw[cg,oW];intro x _;cases k<;>simp
 have a4:cy t.cs.length (C.map (AV.p∘aR))=C.map (AV.p∘aR):=ce (by rw[ck];omega);rw[<-aM];rcases hm:t.aA.length with _|m
 ·simp only[mN,nW];have bh:ab=[]:=cv.1 (by omega);have bo:t.aA=[]:=cv.1 hm;simp[hm,bo,ad,aY,ae,a1,a4,aP,bh]
 ·simp only[gz,fW];have bp:(t.aA.length:Int)=m+1:=by omega
  have bi:bP eQ t.aA (m+1)=ab:=by rw[aM,hm]
  have bn:cy (m+1) (cg ab)=cg ab:=ce (by rw[tG];omega);simp[hm,bp,ad,aY,ae,a1,a4,aP,bi,bn,bm,bl]
theorem zV(a b:aE)(W:a.cs.length<=1000000)(X:a.aF.length<=1000000)(Y:a.aA.length<=1000000):az prog 48 [bW a,bW b] (.bool (gh a b)):=by
 have T:=FU a b;have U:∀t:aE,bW t=.st 25 [.seq (t.cs.map aR),.int .i64 t.bJ,.seq (t.aF.map bu),.seq (t.aA.map bF)]:=fun _=>rfl;generalize B:gh a b=R at*;have V:∀x:Bool,x=R->az prog 48 [bW a,bW b] (.bool x)->az prog 48 [bW a,bW b] (.bool R):=fun x h g=>h▸g;have G:¬(a.bJ=b.bJ/\a.cs.length=b.cs.length/\a.aF.length=b.aF.length/\a.aA.length=b.aA.length)->R=false:=fun h=>by
  rw[<-B];exact iB (fun e=>h (by rw[e];exact⟨rfl,rfl,rfl,rfl⟩))
 have P:¬a.cs=b.cs->R=false:=fun h=>by rw[<-B];exact iB (fun e=>h (by rw[e]))
 have Q:¬a.aF=b.aF->R=false:=fun h=>by rw[<-B];exact iB (fun e=>h (by rw[e]))
 have S:¬a.aA=b.aA->R=false:=fun h=>by rw[<-B];exact iB (fun e=>h (by rw[e]))
 by_cases k:a.bJ=b.bJ
 case neg=>
  rw[G (fun h=>k h.1)];refine aO nf rp mix (by simp[f48]) ?_;simp[f48,ad,k]
 by_cases M:a.cs.length=b.cs.length
 case neg=>
  have l:¬(a.cs.length:Int)=b.cs.length:=by omega
  rw[G (fun h=>M h.2.1)];refine aO nf rp mix (by simp[f48]) ?_;simp[f48,ad,k,l]
 by_cases N:a.aF.length=b.aF.length
 case neg=>
  have m:¬(a.aF.length:Int)=b.aF.length:=by omega
  have l:(a.cs.length:Int)=b.cs.length:=by omega
  rw[G (fun h=>N h.2.2.1)];refine aO nf rp mix (by simp[f48]) ?_;simp[f48,ad,k,l,m]
 by_cases O:a.aA.length=b.aA.length
 case neg=>
  have q:¬(a.aA.length:Int)=b.aA.length:=by omega
  have m:(a.aF.length:Int)=b.aF.length:=by omega
  have l:(a.cs.length:Int)=b.cs.length:=by omega
  rw[G (fun h=>O h.2.2.2)];refine aO nf rp mix (by simp[f48]) ?_;simp[f48,ad,k,l,m,q]
 have q:(a.aA.length:Int)=b.aA.length:=by omega
 have m:(a.aF.length:Int)=b.aF.length:=by omega
 have l:(a.cs.length:Int)=b.cs.length:=by omega
 refine aO nf rp mix (by simp[f48]) ?_;simp[f48,ad,k,l,m,q];refine lp (α:=Nat) (fun i=>⟨[(5,.p (.int .i64 i)),(3,.ptr 1 []),(2,.ptr 0 [])],[.box false (.p (bW a)),.box false (.p (bW b))]⟩) (fun i=>i<=a.cs.length/\∀j,j<i->a.cs[j]?=b.cs[j]?) (fun i=>a.cs.length-i) 0 (by simp) ?_;rintro i ⟨i1,i2⟩
 by_cases hi:i<a.cs.length
 ·have d:=aE.get hi;have f:=aE.get (t:=b) (i:=i) (by omega);have A:=cJ (i:=i) (by omega);have o:i<b.cs.length:=by omega
  have hI:(i:Int)<a.cs.length:=by omega
  have C:¬a.at i=b.at i->R=false:=fun h=>P (fun e=>h (by rw[e,f]at d;injection d with d;exact d.symm));have F:a.at i=b.at i->a.cs[i]?=b.cs[i]?:=fun h=>by rw[d,f,h]
  have r:∀h,a.cs[i]'h=a.at i:=fun h=>ew (by rw[<-cc,d]);have s:∀h,b.cs[i]'h=b.at i:=fun h=>ew (by rw[<-cc,f]);generalize a.at i=x at*;generalize b.at i=y at*
  by_cases c:x=y
  ·have E:=F c;obtain⟨u,v⟩:=x;obtain⟨u',v'⟩:=y;injection c with e1 e2;subst e1 e2
   simp[hi,o,hI,d,f,r,s,A,ad,aR,k,l,m,q,-aE.aM,-aE.nL,-aE.mI];exact rd (i+1) ⟨hi,fun j o=>by
    by_cases e:j=i
    ·subst e;exact E
    ·exact i2 j (by omega)⟩
  ·have D:=C c;subst D;obtain⟨u,v⟩:=x;obtain⟨u',v'⟩:=y;have c:¬(u=u'/\v=v'):=fun e=>c (by obtain⟨rfl,rfl⟩:=e;rfl);simp[hi,o,hI,d,f,r,s,A,ad,aR,CV,c,k,l,m,q,-aE.aM,-aE.nL,-aE.mI]
 obtain rfl:i=a.cs.length:=by omega
 have H:a.cs=b.cs:=by
  apply dz;intro j
  by_cases c:j<a.cs.length
  ·exact i2 j c
  ·rw[cx (by omega),cx (by omega)]
 clear i2 i1 hi;simp[ad];refine lp (α:=Nat) (fun i=>⟨[(6,.p (.int .i64 i)),(3,.ptr 1 []),(2,.ptr 0 [])],[.box false (.p (bW a)),.box false (.p (bW b))]⟩) (fun i=>i<=a.aF.length/\∀j,j<i->a.aF[j]?=b.aF[j]?) (fun i=>a.aF.length-i) 0 (by simp) ?_;rintro i ⟨i1,i2⟩
 by_cases hi:i<a.aF.length
 ·have d:=aE.iw hi;have f:=aE.iw (t:=b) (i:=i) (by omega);have A:=cJ (i:=i) (by omega);have o:i<b.aF.length:=by omega
  have hI:(i:Int)<a.aF.length:=by omega
  have C:¬a.pk i=b.pk i->R=false:=fun h=>Q (fun e=>h (by rw[e,f]at d;injection d with d;exact d.symm));have F:a.pk i=b.pk i->a.aF[i]?=b.aF[i]?:=fun h=>by rw[d,f,h]
  have r:∀h,a.aF[i]'h=a.pk i:=fun h=>ew (by rw[<-cc,d]);have s:∀h,b.aF[i]'h=b.pk i:=fun h=>ew (by rw[<-cc,f]);generalize a.pk i=x at*;generalize b.pk i=y at*
  by_cases c:x=y
  ·have E:=F c;obtain⟨u,v,w,z⟩:=x;obtain⟨u',v',w',L⟩:=y;injection c with e1 e2 e3 e4;subst e1 e2 e3 e4
   simp[hi,o,hI,d,f,r,s,A,ad,bu,k,l,m,q,-aE.aM,-aE.nL,-aE.mI];exact rd (i+1) ⟨hi,fun j o=>by
    by_cases e:j=i
    ·subst e;exact E
    ·exact i2 j (by omega)⟩
  ·have D:=C c;subst D;obtain⟨u,v,w,z⟩:=x;obtain⟨u',v',w',L⟩:=y;have c:¬(u=u'/\v=v'/\w=w'/\z=L):=fun e=>c (by obtain⟨rfl,rfl,rfl,rfl⟩:=e;rfl);simp[hi,o,hI,d,f,r,s,A,ad,bu,XK,c,k,l,m,q,-aE.aM,-aE.nL,-aE.mI]
 obtain rfl:i=a.aF.length:=by omega
 have I:a.aF=b.aF:=by
  apply dz;intro j
  by_cases c:j<a.aF.length
  ·exact i2 j c
  ·rw[cx (by omega),cx (by omega)]
 clear i2 i1 hi;simp[ad];refine lp (α:=Nat) (fun i=>⟨[(7,.p (.int .i64 i)),(3,.ptr 1 []),(2,.ptr 0 [])],[.box false (.p (bW a)),.box false (.p (bW b))]⟩) (fun i=>i<=a.aA.length/\∀j,j<i->a.aA[j]?=b.aA[j]?) (fun i=>a.aA.length-i) 0 (by simp) ?_;rintro i ⟨i1,i2⟩
 by_cases hi:i<a.aA.length
 ·have d:=aE.ja hi;have f:=aE.ja (t:=b) (i:=i) (by omega);have A:=cJ (i:=i) (by omega);have o:i<b.aA.length:=by omega
  have hI:(i:Int)<a.aA.length:=by omega
  have C:¬a.sp i=b.sp i->R=false:=fun h=>S (fun e=>h (by rw[e,f]at d;injection d with d;exact d.symm));have F:a.sp i=b.sp i->a.aA[i]?=b.aA[i]?:=fun h=>by rw[d,f,h]
  have r:∀h,a.aA[i]'h=a.sp i:=fun h=>ew (by rw[<-cc,d]);have s:∀h,b.aA[i]'h=b.sp i:=fun h=>ew (by rw[<-cc,f]);generalize a.sp i=x at*;generalize b.sp i=y at*
  by_cases c:x=y
  ·have E:=F c;obtain⟨n,⟨u,v⟩⟩:=x;obtain⟨K,⟨u',v'⟩⟩:=y;injection c with e1 e2;injection e2 with e2 e3;subst e1 e2 e3
   simp[hi,o,hI,d,f,r,s,A,ad,bF,fR,k,l,m,q,-aE.aM,-aE.nL,-aE.mI];exact rd (i+1) ⟨hi,fun j o=>by
    by_cases e:j=i
    ·subst e;exact E
    ·exact i2 j (by omega)⟩
  ·have D:=C c;subst D;obtain⟨n,⟨u,v⟩⟩:=x;obtain⟨K,⟨u',v'⟩⟩:=y;have c:¬(n=K/\u=u'/\v=v'):=fun e=>c (by obtain⟨rfl,rfl,rfl⟩:=e;rfl);simp[hi,o,hI,d,f,r,s,A,ad,bF,fR,XP,c,k,l,m,q,-aE.aM,-aE.nL,-aE.mI]
 obtain rfl:i=a.aA.length:=by omega
 have J:a.aA=b.aA:=by
  apply dz;intro j
  by_cases c:j<a.aA.length
  ·exact i2 j c
  ·rw[cx (by omega),cx (by omega)]
 clear i2 i1 hi;simp[ad];rw[<-B];exact lY (by
  obtain⟨c1,ab,Z,s1⟩:=a;obtain⟨c2,ac,aa,s2⟩:=b;simp only at k H I J;rw[k,H,I,J])
theorem Qi(a:List Int)(h:a.length<=1048576):az prog 16 [.seq (a.map (.int .i64))] (.int .i64 (bG a)):=by
 refine aO nf NG mix (by simp[f16]) ?_;simp[f16];refine lp (α:=Nat) (fun i=>⟨[(7,.p (.int .i64 i)),(6,.p (.int .i64 a.length)),(5,.p (.seq (a.map (.int .i64))))],[]⟩) (fun i=>i<=a.length/\bG (a.drop i)=bG a) (fun i=>a.length-i) 0 (by simp) ?_;rintro i ⟨d,b⟩;simp
 by_cases hi:i<a.length
 ·rw[List.drop_eq_getElem_cons hi]at b;have c:=cJ (i:=i) (by omega);simp[hi]
  by_cases he:a[i]=0
  ·simp[bG,he]at b;simp[he,c];exact rd (i+1) ⟨hi,b⟩
  ·simp[bG,he]at b;simp[he,<-b]
 ·have:i=a.length:=by omega
  subst this;simp[bG]at b;simp[<-b]
theorem Qs(i:az prog 11 [] (.bool true))(t b:aE)(a:ku t)(c:ku b):az prog 8 [bW t,bW b] (.bool true):=by
 have s0:=D5 t a.cl a.pl a.sl;have g:=D5 b c.cl c.pl c.sl;rcases h:il t with _|_
 ·rw[h]at s0;refine aO nf qO mix (by simp[f8]) ?_;simp[f8,ad];refine Go.au.c1 s0 ?_;simp[ad];refine Go.au.c0 i ?_;simp[ad]
 rw[h]at s0;rcases l:il b with _|_
 ·rw[l]at g;refine aO nf qO mix (by simp[f8]) ?_;simp[f8,ad];refine Go.au.c1 s0 ?_;simp[ad];refine Go.au.c1 g ?_;simp[ad];refine Go.au.c0 i ?_;simp[ad]
 rw[l]at g;have q0:=Eb t a.cl a.pl a.sl;have q1:=Eb b c.cl c.pl c.sl;have j:=Qh t a h;have d:=Qo t b a c h l;have q4:=DB t a;have m:=DB b c;have e:=Qi [dw t,dw b] (by simp);have n:bW zT=.st 25 [.seq [],.int .i64 0,.seq [],.seq []]:=rfl
 by_cases e0:dw t=0
 case neg=>
  have hf:bG [dw t,dw b]=dw t:=by simp[bG,e0]
  rw[if_neg e0]at j;rw[hf,if_neg e0]at d;rw[hf]at e;have k:=MX zT (by simp[zT]) (by simp[zT]);have f:=zV zT zT (by simp[zT]) (by simp[zT]) (by simp[zT]);rw[lY rfl,n]at f;rw[n]at k;generalize dw t=E at*;refine aO nf qO mix (by simp[f8]) ?_;simp[f8,ad];refine Go.au.c1 s0 ?_;simp[ad];refine Go.au.c1 g ?_;simp[ad];refine Go.au.c1 q0 ?_;simp[ad];refine Go.au.c1 j ?_;simp[ad];refine Go.au.e1 q0 ?_;simp[ad];refine Go.au.e1 q1 ?_;simp[ad];refine Go.au.e2 d ?_;simp[ad];refine Go.au.c1 q4 ?_;simp[ad];refine Go.au.c1 m ?_;simp[ad];refine cp e (by simp;first|exact⟨rfl,rfl⟩|rfl) ?_;simp[e0,ad];refine Go.au.e1 k ?_;simp[ad];refine Go.au.e2 f ?_;simp[e0,ad];refine Go.au.e0 i ?_;simp[ad]
  repeat' first|rfl|apply b0
 rw[if_pos e0,e0]at j;have k:=MX (fa t) (by rw[lX.2.1];exact a.pl) (by rw[lX.2.2];exact a.sl);have f:=zV (fa t) (fa t) (by rw[lX.1];exact a.cl) (by rw[lX.2.1];exact a.pl) (by rw[lX.2.2];exact a.sl);have p:=FT t a e0 h;rw[lY rfl]at f
 by_cases e1:dw b=0
 case neg=>
  have hf:bG [dw t,dw b]=dw b:=by simp[bG,e0,e1]
  rw[hf,if_neg e1]at d;rw[hf,e0]at e;rw[e0]at q4;generalize dw b=E at*;refine aO nf qO mix (by simp[f8]) ?_;simp[f8,ad];refine Go.au.c1 s0 ?_;simp[ad];refine Go.au.c1 g ?_;simp[ad];refine Go.au.c1 q0 ?_;simp[ad];refine Go.au.c1 j ?_;simp[ad];refine Go.au.e1 q0 ?_;simp[ad];refine Go.au.e1 q1 ?_;simp[ad];refine Go.au.e2 d ?_;simp[ad];refine Go.au.c1 q4 ?_;simp[ad];refine Go.au.c1 m ?_;simp[ad];refine cp e (by simp;first|exact⟨rfl,rfl⟩|rfl) ?_;simp[ad];refine Go.au.c1 p ?_;simp[ad];refine Go.au.e1 k ?_;simp[ad];refine Go.au.e2 f ?_;simp[e1,ad];refine Go.au.e0 i ?_;simp[ad]
  repeat' first|rfl|apply b0
 have hf:bG [dw t,dw b]=0:=by simp[bG,e0,e1]
 rw[hf,if_pos rfl]at d;rw[hf,e0,e1]at e;rw[e0]at q4;rw[e1]at m;have q:=FT b c e1 l;have o:=zV (fa t) (fa b) (by rw[lX.1];exact a.cl) (by rw[lX.2.1];exact a.pl) (by rw[lX.2.2];exact a.sl);rw[show gh (fa t) (fa b)=vT t b from rfl]at o;rcases vT t b with _|_<;>
 ·refine aO nf qO mix (by simp[f8]) ?_;simp[f8,ad];refine Go.au.c1 s0 ?_;simp[ad];refine Go.au.c1 g ?_;simp[ad];refine Go.au.c1 q0 ?_;simp[ad];refine Go.au.c1 j ?_;simp[ad];refine Go.au.e1 q0 ?_;simp[ad];refine Go.au.e1 q1 ?_;simp[ad];refine Go.au.e2 d ?_;simp[ad];refine Go.au.c1 q4 ?_;simp[ad];refine Go.au.c1 m ?_;simp[ad];refine cp e (by simp;first|exact⟨rfl,rfl⟩|rfl) ?_;simp[ad];refine Go.au.c1 p ?_;simp[ad];refine Go.au.e1 k ?_;simp[ad];refine Go.au.e2 f ?_;simp[ad,ad];refine Go.au.e1 q ?_;simp[ad];refine Go.au.e2 o ?_;simp[ad];refine Go.au.e0 i ?_;simp[ad]
  repeat' first|rfl|apply b0
end Go.au
