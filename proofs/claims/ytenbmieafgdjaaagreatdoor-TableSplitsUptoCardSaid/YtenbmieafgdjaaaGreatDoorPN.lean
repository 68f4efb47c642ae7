import Derived.Test.YtenbmieafgdjaaaGreatDoorPM
import Derived.Test.YtenbmieafgdjaaaGreatDoorThE
import Derived.Test.YtenbmieafgdjaaaGreatDoorPK
/- Parts of a proof. -/
set_option linter.unusedSimpArgs false
set_option linter.unusedVariables false
set_option linter.unusedSectionVars false
open Go.Proofs.Tryz
open And renaming intro->bo
open Bool renaming and_eq_true->bv, or_false->b0, not_eq_true'->b1, or_eq_true->b2
open Go.IntKind renaming i64->b3
open List renaming map->b4, map_take->b5, map_drop->cb, map_cons->cc, map_nil->ce, take->ck, drop->cv, take_add_one->cx, take_of_length_le->cy, mem_of_getElem?->cA, take_length->cB, length_cons->cC, any_eq_true->cN, take_append_of_le_length->c6, length_nil->c9, any_append->da, any_cons->db, any_nil->dg, zip_cons_cons->dk, mem_singleton->dl, length_append->dp, zip_nil_left->dq, getElem?_map->dz, any_eq_false->ea, length_take->eb, map_append->ec, length_map->ed
open Nat renaming le_refl->ee
open Rat renaming intCast_pos->ei, mul_eq_zero->ej, intCast_sub->em, mul_pos->en
namespace Go.au
open Go.Proofs
set_option maxHeartbeats 4000000
set_option maxRecDepth 100000
theorem BG{l:List dG}{r:Int}(h:l.length<=1000000):iM ⟨l,r,[],[]⟩:=⟨h,by simp,by simp,(fun _ h=>nomatch h),(fun _ h=>nomatch h)⟩
theorem H7(l:List dG):dO (l.map (AV.p∘bV))=some (l.map bV):=by
 induction l with
 |nil=>rfl
 |cons a r b=>simp only[cc,Function.comp,dO,b]
theorem RL{σ:Nat->Nat}{α:Type}{f:α->PV}(l:List α):cJ σ (l.map (AV.p∘f))=l.map (AV.p∘f):=by
 induction l with
 |nil=>rfl
 |cons a r b=>simp only[cc,cJ,b,Function.comp,cO]
theorem qz{σ:Nat->Nat}{α:Type}{f:α->PV}{k:Nat}{l:List α}:cJ σ ((l.map (AV.p∘f)).take k)=(l.map (AV.p∘f)).take k:=by rw[<-b5,RL]
theorem qy{σ:Nat->Nat}{α:Type}{f:α->PV}{k:Nat}{l:List α}:cJ σ ((l.map (AV.p∘f)).drop k)=(l.map (AV.p∘f)).drop k:=by rw[<-cb,RL]
theorem yl{N:Nat×Nat->Prop}{α:Type}{f:α->PV}{k:Nat}{l:List α}:aS N ((l.map (AV.p∘f)).drop k)=True:=by
 rw[cL,eq_iff_iff,iff_true];intro x hx;obtain⟨a,_,rfl⟩:=List.mem_map.1 (List.mem_of_mem_drop hx);trivial
theorem BF{n:Int}(b:-100000000000000<=n)(d:n<=100000000000000):bK 200 (fj n 2)/\bX (bc (fj n 2))=0/\iI (bc (fj n 2)):=by
 have o:bK 200 (fj n 2):=by
  rw[ui,<-Rat.div_def];exact(Of (show bK 60 ((n:Int):Rat)from rH (by omega) (by decide)) (show bK 3 (((2:Int)):Rat)from rH (by omega) (by decide))).mono (by decide)
 have a:b9 200 ⟨fj n 2,fj n 2⟩:=⟨o,o⟩
 obtain⟨p,c⟩:=xQ a (by decide);exact⟨o,(gV c).1,p.1⟩
theorem Tm(u:aC prog 11 [] (.bool true))(t:aq)(k:Nat)(p:ez)(am:iM t)(hk:k<256)(z:jF p):aC prog 4 [cV t,.int .u8 k,dB p] (.bool true):=by
 have s0:=Ii t ⟨[],0,[],[]⟩ 0 9 am ⟨by simp,fun s h=>nomatch h⟩ (by decide) (by decide);rw[show(((9:Nat):Int))=9 from rfl,show(((0:Nat):Int))=0 from rfl]at s0;simp only[ce]at s0;have G:=zY p 9 z (by decide);rw[show(((9:Nat):Int))=9 from rfl]at G;have aN:=am.cl;have a:b3.wrap 0=0:=by decide
 rcases hf:sv t ⟨[],0,[],[]⟩ 0 9 with _|_
 ·rw[hf]at s0;clear z;generalize (eE p.x 9&&eE p.y 9)=a1 at*;obtain⟨X,Y⟩:=p;simp only[dB]at*;refine aM nf uR mix (by simp[f4]) ?_;simp[f4,ad];refine Go.au.c4 s0 ?_;simp[ad,a];refine Go.au.c0 u ?_;simp[ad,a]
 rw[hf]at s0;rcases w:eE p.x 9&&eE p.y 9 with _|_
 ·rw[w]at G;clear z w;obtain⟨X,Y⟩:=p;simp only[dB]at*;refine aM nf uR mix (by simp[f4]) ?_;simp[f4,ad];refine Go.au.c4 s0 ?_;simp[ad,a];refine Go.au.c2 G ?_;simp[ad,a];refine Go.au.c0 u ?_;simp[ad,a]
 rw[w]at G;simp only[sv,bv,decide_eq_true_eq]at hf;obtain⟨R,_⟩:=yd (b:=⟨[],0,[],[]⟩) ⟨by simp,fun s h=>nomatch h⟩ hf.2.2.2.1;clear hf;obtain⟨W,a8,aP,hc⟩:=lP R;obtain⟨_,a9,_⟩:=yi R;rw[bv]at w;have V:cq p=0:=by rw[cq,bJ,if_pos (ye w.1).1,bJ,if_pos (ye w.2).1];rfl
 have v:∀s:aq,dH s=0->oK s p=0:=fun s h=>by rw[oK];simp only[bJ,h,V,if_true]
 have aa:=TD R;have ap:iM (lS t):=BG aN;have q1:=BO (lS t) ap;rw[if_pos aa]at q1;have F:=Eu (lS t) p ap z;rw[if_pos (v _ aa),v _ aa]at F;have aH:(lS t).eA (lS t).cs.length=t.eA t.cs.length:=by
  rw[sY (t:=lS t) (show 0<t.cs.length by omega),sY (t:=t) (by omega)];have:∀m,(lS t).fM m=t.fM m:=by
   intro m
   induction m with
   |zero=>rfl
   |succ m aT=>rw[aq.fM,aq.fM,aT];rfl
  rw[this];rfl
 have aV:(lS t).on (vP p)=t.on (vP p):=rfl;rw[aH]at q1;rw[aV]at F;have aS:=TF hc W;have ba:=aq.vp aP t.cs.length (ee _);obtain⟨aU,aI,aY⟩:=BF (n:=t.eA t.cs.length) (by omega) (by omega);have Z:=qg _ aY;rw[aI]at Z;have q4:=ur _ (aU.mono (by decide));have a4:0<de (fj (t.eA t.cs.length) 2):=by
  have aK:(0:Rat)<fj (t.eA t.cs.length) 2:=by
   rw[ui];exact en (ei.2 aS) (by decide+kernel)
  have aL:=FC.2 aK;omega
 have o:¬de (fj (t.eA t.cs.length) 2)<=0:=by omega
 generalize aj:bc (fj (t.eA t.cs.length) 2)=A at*
 by_cases aL:t.cs.length=3
 ·have l:(t.cs.length:Int)=3:=by omega
  clear v w V;generalize de (fj (t.eA t.cs.length) 2)=aZ at*;generalize t.on (vP p)=y at*;simp only[b8,lS,ce]at q1 F;obtain⟨X,Y⟩:=p;simp only[dB]at*;refine aM nf uR mix (by simp[f4]) ?_;simp[f4,ad];refine Go.au.c4 s0 ?_;simp[ad,a,l,o];refine Go.au.c2 G ?_;simp[ad,a,l,o];refine Go.au.c1 q1 ?_;simp[ad,a,l,o];refine Go.au.c2 F ?_;simp[ad,a,l,o];refine Go.au.c1 Z ?_;simp[ad,a,l,o];refine Go.au.c1 q4 ?_;simp[ad,a,l,o];refine Go.au.c0 u ?_;simp[ad,a,l,o]
 have l:¬(t.cs.length:Int)=3:=by omega
 have a7:k% (t.cs.length-3)<t.cs.length-3:=Nat.mod_lt _ (by omega);have E:(k:Int).tmod ((t.cs.length:Int)-3)=((k% (t.cs.length-3):Nat):Int):=by
  rw[Int.tmod_eq_emod_of_nonneg (by omega),show(t.cs.length:Int)-3=((t.cs.length-3:Nat):Int)by omega];exact(Int.natCast_emod _ _).symm
 generalize k% (t.cs.length-3)=c0 at*;have M:b3.wrap ((t.cs.length:Int)-3)=(t.cs.length:Int)-3:=aO _ (by omega) (by omega);have N:b3.wrap (2+(c0:Int))=2+(c0:Int):=aO _ (by omega) (by omega);have O:b3.wrap (2+(c0:Int)+1)=2+(c0:Int)+1:=aO _ (by omega) (by omega);have P:b3.wrap (k:Int)=k:=aO _ (by omega) (by omega);obtain⟨c,a2⟩:∃c:Nat,c=c0+2:=⟨_,rfl⟩
 have c2:2<=c:=by omega
 have cn:c+1<t.cs.length:=by omega
 have S:=aIN R c2 (show c<t.cs.length by omega);have T:=aKa R c2 cn;have k1:iM (fA t c):=BG (by rw[eb];omega);have k2:iM (eQ t c):=BG (by rw[cC,List.length_drop];omega);have ar:=BO (fA t c) k1;rw[if_pos S]at ar;have au:=BO (eQ t c) k2;rw[if_pos T]at au;have av:=Eu (fA t c) p k1 z;rw[if_pos (v _ S),v _ S]at av;have aw:=Eu (eQ t c) p k2 z;rw[if_pos (v _ T),v _ T]at aw;obtain⟨_,_,aQ,_⟩:=lP S;obtain⟨_,_,aR,_⟩:=lP T;have a5:=tf (t:=t) (c:=c) (by omega);have a6:=s9 t c;have aW:=aq.vp aQ _ (ee _);have aX:=aq.vp aR _ (ee _);obtain⟨an,ae,aA⟩:=BF (n:=(fA t c).eA (fA t c).cs.length) (by omega) (by omega);obtain⟨ao,af,aB⟩:=BF (n:=(eQ t c).eA (eQ t c).cs.length) (by omega) (by omega);have ax:=qg _ aA;rw[ae]at ax;have ay:=qg _ aB;rw[af]at ay;have az:=xp _ _ (an.mono (by decide)) (ao.mono (by decide));have al:fj ((fA t c).eA (fA t c).cs.length) 2+fj ((eQ t c).eA (eQ t c).cs.length) 2=fj (t.eA t.cs.length) 2:=by
  rw[<-Ta c2 cn,ui,ui,ui,Rat.intCast_add,Rat.add_mul]
 rw[al,aj]at az;obtain⟨g1,g2⟩:=Tp hc c2 cn (vP p);clear v w V an ao aA aB ae af aW aX al aj z;generalize bc (fj ((fA t c).eA (fA t c).cs.length) 2)=B at*;generalize bc (fj ((eQ t c).eA (eQ t c).cs.length) 2)=C at*;generalize de (fj (t.eA t.cs.length) 2)=aZ at*;generalize (fA t c).on (vP p)=q at*;generalize (eQ t c).on (vP p)=r at*;generalize t.on (vP p)=y at*;have u1:(2+(c0:Int)+1).toNat=c+1:=by omega
 have D:(2+(c0:Int)).toNat=c:=by omega
 have H:min (c+1) t.cs.length=c+1:=by omega
 have I:¬(2+(c0:Int)+1<=0):=by omega
 have J:t.cs≠[]:=by intro h;rw[h]at W;simp at W
 have L:¬(t.cs.length:Int)-3=0:=by omega
 have ag:ck (c+1) (b4 (AV.p∘bV) t.cs)≠[]:=by
  intro h;have:=congrArg List.length h;rw[eb,ed,c9]at this;omega
 have ab:dO (ck (c+1) (b4 (AV.p∘bV) t.cs))=some (ck (c+1) (b4 bV t.cs)):=by
  rw[<-b5,<-b5];exact H7 _
 have a0:¬t.cs.length<=c:=by omega
 have u8:¬1+(t.cs.length-c)<=1:=by omega
 have ah:(AV.p (bV (t.at 0))::cv c (b4 (AV.p∘bV) t.cs))≠[]:=by simp
 have ac:dO (AV.p (bV (t.at 0))::cv c (b4 (AV.p∘bV) t.cs))=some (bV (t.at 0)::cv c (b4 bV t.cs)):=by
  rw[<-cb,<-cb,dO,H7]
 have a3:(1000000:Nat)<cZ:=by decide
 have aD:∀K:AK,cw prog 23 [.arr K 0 2 (ck (c+1) (b4 (AV.p∘bV) t.cs))] [.st 37 [.sl 0 0 2 0 (c+1),.p (.int .i64 t.bm),.p .aP,.p .aP]] [.arr .frozen 0 2 (ck (c+1) (b4 (AV.p∘bV) t.cs))] (.p (.aG [.str B,.int .i64 0])):=fun K=>
  aC.AX 9 ar vo.enters ab (fun h=>ag h.2) (by
   simp[b8,fA];refine⟨by omega,?_⟩;rw[<-b5,<-b5,uv];intro x _;simp)
 have aE:∀K:AK,cw prog 23 [.arr K 0 2 (AV.p (bV (t.at 0))::cv c (b4 (AV.p∘bV) t.cs))] [.st 37 [.sl 0 0 2 0 (1+(t.cs.length-c)),.p (.int .i64 t.bm),.p .aP,.p .aP]] [.arr .frozen 0 2 (AV.p (bV (t.at 0))::cv c (b4 (AV.p∘bV) t.cs))] (.p (.aG [.str C,.int .i64 0])):=fun K=>
  aC.AX 9 au vo.enters ac (fun h=>ah h.2) (by
   simp[b8,eQ];refine⟨by omega,?_⟩;rw[cy (by simp;omega),<-cb,<-cb,wy,uv];refine⟨by simp,?_⟩;intro x _;simp)
 have aF:∀K:AK,cw prog 24 [.arr K 0 2 (ck (c+1) (b4 (AV.p∘bV) t.cs))] [.st 37 [.sl 0 0 2 0 (c+1),.p (.int .i64 t.bm),.p .aP,.p .aP],.p (dB p)] [.arr .frozen 0 2 (ck (c+1) (b4 (AV.p∘bV) t.cs))] (.p (.aG [.int .i64 q,.int .i64 0])):=fun K=>
  aC.AX 9 av yn.enters ab (fun h=>ag h.2) (by
   simp[b8,fA];refine⟨by omega,?_⟩;rw[<-b5,<-b5,uv];intro x _;simp)
 have aG:∀K:AK,cw prog 24 [.arr K 0 2 (AV.p (bV (t.at 0))::cv c (b4 (AV.p∘bV) t.cs))] [.st 37 [.sl 0 0 2 0 (1+(t.cs.length-c)),.p (.int .i64 t.bm),.p .aP,.p .aP],.p (dB p)] [.arr .frozen 0 2 (AV.p (bV (t.at 0))::cv c (b4 (AV.p∘bV) t.cs))] (.p (.aG [.int .i64 r,.int .i64 0])):=fun K=>
  aC.AX 9 aw yn.enters ac (fun h=>ah h.2) (by
   simp[b8,eQ];refine⟨by omega,?_⟩;rw[cy (by simp;omega),<-cb,<-cb,wy,uv];refine⟨by simp,?_⟩;intro x _;simp)
 simp only[b8,lS,ce]at q1 F;obtain⟨X,Y⟩:=p;simp only[dB]at*;refine aM nf uR mix (by simp[f4]) ?_;simp[f4,ad];refine Go.au.c4 s0 ?_;simp[ad,a,l,o,M,N,O,P,E,u1,D,H,I,J,L];refine Go.au.c2 G ?_;simp[ad,a,l,o,M,N,O,P,E,u1,D,H,I,J,L];refine Go.au.c1 q1 ?_;simp[ad,a,l,o,M,N,O,P,E,u1,D,H,I,J,L];refine Go.au.c2 F ?_;simp[ad,a,l,o,M,N,O,P,E,u1,D,H,I,J,L];refine Go.au.c1 Z ?_;simp[ad,a,l,o,M,N,O,P,E,u1,D,H,I,J,L];refine Go.au.c1 q4 ?_;simp[ad,a,l,o,M,N,O,P,E,u1,D,H,I,J,L];refine⟨⟨by omega,by omega,vA _⟩,?_⟩;refine⟨⟨by rw[<-b5];exact vA _,by omega⟩,⟨by rfl,by rfl⟩,?_⟩;have aJ:=aq.get (t:=t) (i:=0) (by omega);simp[aJ,ad,D,a0,u8];refine⟨⟨by omega,by omega,vA _⟩,⟨by rw[<-cb];exact vA _,by omega⟩,?_⟩;refine⟨by repeat' first|rfl|apply bo,?_⟩;refine cf (aD .grow) [4] ?_ (ak:=by simp[sig,qz,qy]) (hr:=by simp[iy,yl]);simp[ad,bd,sig,a,qz,qy];refine cf (aE .grow) [7] ?_ (ak:=by simp[sig,qz,qy]) (hr:=by simp[iy,yl]);simp[ad,bd,sig,a,qz,qy];refine cf (aF .frozen) [4] ?_ (ak:=by simp[sig,qz,qy]) (hr:=by simp[iy,yl]);simp[ad,bd,sig,a,qz,qy];refine cf (aG .frozen) [7] ?_ (ak:=by simp[sig,qz,qy]) (hr:=by simp[iy,yl]);simp[ad,bd,sig,a,qz,qy];refine Go.au.c1 ax ?_;simp[ad,a,a];refine Go.au.c1 ay ?_;simp[ad,a,a];refine Go.au.c2 az ?_;have ai:∀m:Int,(if q<r then r else q)=m->max q r=m:=by
  intro m h;rw[<-h]
  split<;>omega
 by_cases j:q<r
 ·have U:=ai r (if_pos j);rw[U]at g1 g2
  by_cases d:0<=r
  ·have g:=g1.2 d
   by_cases e:r<1
   ·have f:¬1<=r:=by omega
    simp[ad,a,j,d,g,e,f];refine Go.au.c0 u ?_;simp[ad,a,j,d,g,e,f]
   ·have f:1<=r:=by omega
    have Q:y=1:=g2.resolve_left e;simp[ad,a,j,d,g,e,f,Q];refine Go.au.c0 u ?_;simp[ad,a,j,d,g,e,f,Q]
  ·have g:¬0<=y:=fun h=>d (g1.1 h);have e:r<1:=by omega
   have f:¬1<=r:=by omega
   simp[ad,a,j,d,g,e,f];refine Go.au.c0 u ?_;simp[ad,a,j,d,g,e,f]
 ·have U:=ai q (if_neg j);rw[U]at g1 g2
  by_cases d:0<=q
  ·have g:=g1.2 d
   by_cases e:q<1
   ·have f:¬1<=q:=by omega
    simp[ad,a,j,d,g,e,f];refine Go.au.c0 u ?_;simp[ad,a,j,d,g,e,f]
   ·have f:1<=q:=by omega
    have Q:y=1:=g2.resolve_left e;simp[ad,a,j,d,g,e,f,Q];refine Go.au.c0 u ?_;simp[ad,a,j,d,g,e,f,Q]
  ·have g:¬0<=y:=fun h=>d (g1.1 h);have e:q<1:=by omega
   have f:¬1<=q:=by omega
   simp[ad,a,j,d,g,e,f];refine Go.au.c0 u ?_;simp[ad,a,j,d,g,e,f]
open Go.Proofs Go.Proofs.YtenbmieafgdjaaaGreatDoor
section
variable{H:Type}{W:World}{aa:Nat->Prop}
theorem aKq:∃a b:Field,prog.underlying 75=some (.struct #[a,b])/\a.type=9/\b.type=47:=⟨_,_,underlying75,rfl,rfl⟩
theorem RZ:prog.underlyingId 75=48:=by kernel_rfl
theorem TE{m n:Nat}(s:m=n+2){d:DataW H}(h:∃cs,aR prog W aa (bF prog (m+1) 75 d) cs)(o:Rows.uptoBulk d<=1048576):∃p:cQ,bF prog (m+1) 75 d=bu p/\jU p/\2<=Rows.uptoBulk d:=by
 obtain⟨cs,h⟩:=h;obtain⟨f0,f1,g,t0,t1⟩:=aKq;cases d with
 |agg l=>
  have f:∀x∈l,Rows.uptoBulk x<=1048576:=fun x hx=>by
   have:=oG.uF hx;rw[Rows.uptoBulk]at o;omega
  simp only[bF,g,aR]at h⊢;obtain⟨u,t,e,c,_⟩:=h;rw[RZ,RW]at e;cases e
  match l,c with
  |[],c=>simp[bg]at c
  |[x],c=>simp[bg]at c
  |x::y::r,c=>
   have:=vg x;simp only[dk,cc,bg,dq,ce,t0,t1]at c⊢;obtain⟨c0,_,_,g1,_,c1,_,_,g2,_⟩:=c;subst s;obtain⟨a,i,k⟩:=xW (n:=n+1) ⟨c0,g1⟩ (f x (by simp));obtain⟨b,j,q⟩:=zC (n:=n) ⟨c1,g2⟩ (f y (by simp));refine⟨⟨a,b⟩,by rw[i,j,RZ];rfl,⟨k,q⟩,?_⟩;rw[Rows.uptoBulk,Rows.uptoBulkAll];omega
 |_=>simp only[bF,g,aR]at h
theorem TM{d:DataW H}(h:∃cs,aR prog W aa (bF prog 8 64 d) cs)(a:Rows.uptoBulk d<=1048576):∃b:aq,bF prog 8 64 d=.seq (b.aj.map bu)/\True/\lh b:=by
 obtain⟨b,c,e,g⟩:=xX (n:=7) aKp (F:=bu) (ok:=jU) (fun d f a=>TE (n:=4) rfl f a) h a;exact⟨⟨[],0,[],b⟩,c,trivial,g,e⟩
end
theorem as0(name:List Nat)(s:cQ):
 cw prog 165 [.box false (.p (.str name))] [.p (fW s),.ptr 0 []] [.box false (.p (.str name))] (.p (.bool (decide (s.name=name)))):=by
 refine fV nf PE mix (by simp[f165]) ?_
 by_cases h:s.name=name
 ·simp[f165,ad,h];exact dt.og (by simp) (by simp) (by simp) (by simp) (by simp)
 ·simp[f165,ad,h];exact dt.og (by simp) (by simp) (by simp) (by simp) (by simp)
theorem Tl(t:aq)(name:List Nat)(f:t.aj.length<=1000000):
 cw prog 164 [.box false (.p (.str name))] [.p (.seq (t.aj.map fW)),.func 165 [] [.ptr 0 []]] [.box false (.p (.str name))] (.p (.int .i64 (my (dN t name) t.aj.length))):=by
 refine fV nf Ep mix (by simp[f164]) ?_;simp[f164];refine lp (α:=Nat) (fun j=>⟨[(8,.p (.int .i64 j)),(7,.p (.int .i64 t.aj.length)),(1,.func 165 [] [.ptr 0 []]),(0,.p (.seq (t.aj.map fW)))],[.box false (.p (.str name))]⟩) (fun j=>j<=t.aj.length/\j<=dN t name) (fun j=>t.aj.length-j) 0 (by simp) ?_;rintro j ⟨e,b⟩
 by_cases hi:j<t.aj.length
 ·have d:=aq.dZ hi;have c:=cr (i:=j) (by omega);simp[hi];refine cf (as0 name (t.sp j)) [0] ?_
  by_cases hk:(t.sp j).name=name
  ·have a:my (dN t name) t.aj.length=(j:Int):=by rw[show dN t name=j from Hd b hi (by simpa using hk),my,if_pos hi]
   simp[hk,a,bd]
  ·simp[hk,c,bd];exact rd (j+1) ⟨hi,Hm b hi (by simpa using hk)⟩
 ·have:j=t.aj.length:=by omega
  subst this;have:=oY (fun i=>decide ((t.sp i).name=name)) t.aj.length;have a:my (dN t name) t.aj.length= -1:=by rw[my,if_neg (by omega)]
  simp[a]
def xN:PV:=.st 129 [.int .i64 0,.aP]
def Sb:PV:=.st 133 [.st 131 [xN,xN],.st 131 [xN,xN]]
theorem ZN(t:aq)(name:List Nat)(b:iM t)(a:dH t=0):aC prog 69 [b8 t,.str name] (.aG (if dN t name<t.aj.length then[dL (.from (t.sp (dN t name)).pt),.bool true]else[Sb,.bool false])):=by
 have k1:=Tl t name b.sl;have k2:=fun(h:dN t name<t.aj.length)=>qH (t.sp (dN t name)).pt (gV (yf a h)).1 (gV (yf a h)).2 (b.sp _ (cA (aq.dZ h))).2;generalize dN t name=k at*;refine aM nf QP mix (by simp[f69]) ?_
 by_cases hk:k<t.aj.length
 ·have c:=aq.dZ hk;have k2:=k2 hk;rw[my,if_pos hk]at k1;rw[if_pos hk];have d:¬(k:Int)<0:=by omega
  simp[f69,ad];refine cf k1 [1] ?_;simp[bd,hk,ad];refine Go.au.c1 k2 ?_;simp[ad]
 ·rw[my,if_neg hk]at k1;rw[if_neg hk];simp[f69,ad];refine cf k1 [1] ?_;simp[bd,Sb,xN,ad]
noncomputable def lH(a s:NV):Nat->NV
 |0=>a
 |i+1=>(lH a s i).add s
theorem Fm(a s:NV):∀i:Nat,(lH a s i).q=bN a.q s.q i
 |0=>rfl
 |i+1=>by rw[lH,NV.IM,Fm a s i,bN]
def mA(t:aq)(name:List Nat)(p:ez):Int:=bJ [aY (!decide (dN t name<t.aj.length)) 10,cq p,aY (iE p.x p.y [48] [48]) 6]
theorem S8{t:aq}{name:List Nat}{p:ez}(h:mA t name p=0):dN t name<t.aj.length/\cq p=0:=by
 rw[mA,mb]at h;refine⟨?_,h _ (by simp)⟩;have:=h (aY (!decide (dN t name<t.aj.length)) 10) (by simp)
 by_cases c:dN t name<t.aj.length
 ·exact c
 ·simp[aY,c]at this
def vr(t b:aq)(name:List Nat)(p:ez):List PV:=if gD t b=0 then(if mA t name p=0 then mI t b (vP (t.sp (dN t name)).pt) (vP p)else[ie,.int .i64 (mA t name p)])else[ie,.int .i64 (gD t b)]
theorem Hg(t b:aq)(name:List Nat)(p:ez)(u:iM t)(m:lh b)(I:jF p)(F:∀s∈t.aj,cq s.pt=0->b9 133 (vP s.pt))(D:cq p=0->b9 133 (vP p)):
 aC prog 29 [b8 t,.seq (b.aj.map bu),.str name,dB p] (.aG (vr t b name p)):=by
 have k1:=Bw t b u m
 by_cases h:gD t b=0
 case neg=>
  rw[vr,if_neg h];generalize gD t b=x at*;refine aM nf ym mix (by simp[f29]) ?_;simp[f29,ad];refine Go.au.c2 k1 ?_;simp[h,ie,ad]
 obtain⟨k,R⟩:=yd m h;obtain⟨ab,ac,U,_⟩:=lP k;obtain⟨ae,af⟩:=sX k;rw[vr,if_pos h];rw[h]at k1;have k2:=ZN t name u k;have k3:=ic (!decide (dN t name<t.aj.length)) 10;have k4:=tu p I;have k5:=ic (iE p.x p.y [48] [48]) 6;have k6:=mH [aY (!decide (dN t name<t.aj.length)) 10,cq p,aY (iE p.x p.y [48] [48]) 6] (by simp);simp only[cc,ce]at k6;rw[show bJ [aY (!decide (dN t name<t.aj.length)) 10,cq p,aY (iE p.x p.y [48] [48]) 6]=mA t name p from rfl]at k6;obtain⟨Z,G,d⟩:∃Z,aC prog 69 [b8 t,.str name] (.aG [Z,.bool (decide (dN t name<t.aj.length))])/\(dN t name<t.aj.length->Z=dL (.from (t.sp (dN t name)).pt))/\aL Z=.agg 133:=by
  by_cases hk:dN t name<t.aj.length
  ·rw[if_pos hk]at k2;exact⟨_,by rw[decide_eq_true hk];exact k2,fun _=>rfl,rfl⟩
  ·rw[if_neg hk]at k2;exact⟨_,by rw[decide_eq_false hk];exact k2,fun h=>absurd h hk,rfl⟩
 obtain⟨d,H⟩:=d
 by_cases a:mA t name p=0
 case neg=>
  rw[if_neg a];clear d k2;generalize mA t name p=E at*;generalize J:aY (iE p.x p.y [48] [48]) 6=O at*;generalize decide (dN t name<t.aj.length)=l at*;generalize aY (!l) 10=N at*;generalize cq p=P at*;obtain⟨z,B⟩:=p;simp only[dB]at*;refine aM nf ym mix (by simp[f29]) ?_;simp[f29,ad];refine Go.au.c2 k1 ?_;simp[ad];refine Go.au.c2 G ?_;simp[H,ad];refine Go.au.e2 k3 ?_;simp[ad];refine Go.au.e1 k4 ?_;simp[ad];refine Go.au.e2 k5 ?_;simp[ad];refine ep k6 (by simp;first|exact⟨rfl,rfl⟩|rfl) (by simp;first|exact⟨rfl,rfl⟩|rfl) ?_;simp[ad];refine⟨by repeat' first|rfl|apply bo,?_⟩;simp[a,ie,ad]
 rw[if_pos a];obtain⟨hk,f⟩:=S8 a;have d:=d hk;subst d;have C:=yf k hk;have M:=F _ (cA (aq.dZ hk)) C;have w:=D f;have k7:=qH p (gV f).1 (gV f).2 I;rw[a]at k6;rw[<-oF p,<-oF (t.sp (dN t name)).pt];rw[<-oF]at M w;have T:=u.cl;have X:=m.sl;generalize aa:aY (iE p.x p.y [48] [48]) 6=O at*;generalize NV.from (t.sp (dN t name)).pt=A at*;generalize decide (dN t name<t.aj.length)=l at*;generalize aY (!l) 10=N at*;generalize cq p=P at*;clear F D C hk k2 f a;obtain⟨z,B⟩:=p;generalize NV.from ⟨z,B⟩=S at*;simp only[dB]at*;refine aM nf ym mix (by simp[f29]) ?_;simp[f29,ad];refine Go.au.c2 k1 ?_;simp[ad];refine Go.au.c2 G ?_;simp[H,ad];refine Go.au.e2 k3 ?_;simp[ad];refine Go.au.e1 k4 ?_;simp[ad];refine Go.au.e2 k5 ?_;simp[ad];refine ep k6 (by simp;first|exact⟨rfl,rfl⟩|rfl) (by simp;first|exact⟨rfl,rfl⟩|rfl) ?_;simp[ad];refine⟨by repeat' first|rfl|apply bo,?_⟩;refine Go.au.c1 k7 ?_;simp[ad];refine lp (α:=Nat) (fun i=>⟨[(45,.p (.int .i64 i)),(14,.ptr 5 []),(11,.ptr 3 []),(8,.ptr 2 []),(4,.ptr 0 []),(1,.p (.seq (b.aj.map bu)))],[.box false (.p (b8 t)),.box false (.p (.st 46 [.str z,.str B])),.box false (.p ie),.box false (.p (dL (lH A S i))),.arr .frozen 0 1 [.p (.int .i64 N),.p (.int .i64 P),.p (.int .i64 O)],.box false (.p (dL S))]⟩) (fun i=>i<=200/\i<=fQ t b A.q S.q) (fun i=>200-i) 0 (by simp) ?_ (hh:=by simp[ie,lH]);rintro i ⟨i1,i2⟩
 by_cases hi:i<200
 ·have J:=cr (i:=i) (by omega);have j:b9 300 (lH A S i).q:=by rw[Fm];exact Hq M w (i:=i) (by omega)
  have g:=vx t (lH A S i) T U (j.mono (by decide));have v:=BD t (lH A S i) b.aj X (by omega) (by omega) (j.mono (by decide)) R;have K:=ZM (lH A S i) S (j.mono (by decide)) (w.mono (by decide));have kR:=S4 (lH A S i) (j.mono (by decide));rw[show(lH A S i).add S=lH A S (i+1)from rfl]at K;rw[Fm]at g v kR;have r:lg t b (bN A.q S.q i)=true->mI t b A.q S.q=if t.on (bN A.q S.q i)<0 then[ie,.int .i64 7]else[eV (bN A.q S.q i),.int .i64 0]:=fun h=>by
   have e:fQ t b A.q S.q=i:=Hd i2 hi h;rw[mI,e,if_pos hi]
  have L:lg t b (bN A.q S.q i)=false->i+1<=200/\i+1<=fQ t b A.q S.q:=fun h=>⟨hi,Hm i2 hi h⟩
  rw[lg,ln]at r L;have n:(i:Int)<200:=by omega
  generalize mI t b A.q S.q=Y at*;generalize b.aj.any (fun o=>decide (eO t.bm (vP o.pt) (bN A.q S.q i)<0))=Q at*;generalize t.on (bN A.q S.q i)=y at*;generalize bN A.q S.q i=V at*
  by_cases c:y<0
  ·have:=r (by simp[c]);rw[if_pos c]at this;simp[n,ad];refine Go.au.c2 g ?_;simp[c,this,ie,ad]
  have c':0<=y:=by omega
  cases Q
  case false=>
   have:=r (by simp[c']);rw[if_neg c]at this;simp[n,ad];refine Go.au.c2 g ?_;simp[c,ad];refine Go.au.c3 v ?_;simp[ad];refine Go.au.c1 kR ?_;simp[this,ie,ad]
  ·simp[n,ad];refine Go.au.c2 g ?_;simp[c,ad];refine Go.au.c3 v ?_;simp[ad];refine Go.au.c2 K ?_;simp[J,ad];exact rd (i+1) (L (by simp[c]))
 ·have e:i=200:=by omega
  subst e;have W:mI t b A.q S.q=[ie,.int .i64 22]:=by rw[mI,if_neg (by omega)]
  rw[W];simp[ie,ad]
def oH(p:cQ):PV:=.st 65 [.str p.name,dB p.pt]
theorem dJ(a b:List Nat):iE a b a b=true:=by simp[iE]
theorem Hu{p:ez}(hx:p.x.length<=40)(a:p.y.length<=40)(h:cq p=0):b9 133 (vP p):=by
 obtain⟨g1,g2⟩:=gV h;exact⟨Hv g1 hx,Hv g2 a⟩
theorem SZ{t:aq}(h:kZ t=true):∀s∈t.aj,cq s.pt=0->b9 133 (vP s.pt):=by
 intro s hs a;simp only[kZ,bv,List.all_eq_true]at h;have:=h.2.2 s hs;simp only[gK,bv,decide_eq_true_eq]at this;exact Hu this.2.1 this.2.2 a
theorem Ht{t:aq}{name:List Nat}{p:ez}:mA t name p=if dN t name<t.aj.length then(if cq p=0 then aY (iE p.x p.y [48] [48]) 6 else cq p)else 10:=by
 rw[mA]
 by_cases h:dN t name<t.aj.length
 ·by_cases a:cq p=0
  ·simp[h,a,aY,bJ]
  ·simp[h,a,aY,bJ]
 ·simp[h,aY,bJ]
section
variable{H:Type}{W:World}{aa:Nat->Prop}
theorem aKv:∃a b:Field,prog.underlying 66=some (.struct #[a,b])/\a.type=9/\b.type=47:=⟨_,_,underlying66,rfl,rfl⟩
theorem HV:prog.underlyingId 66=65:=by kernel_rfl
theorem To{m n:Nat}(s:m=n+2){d:DataW H}(h:∃cs,aR prog W aa (bF prog (m+1) 66 d) cs)(o:Rows.uptoBulk d<=1048576):∃p:cQ,bF prog (m+1) 66 d=oH p/\jU p/\2<=Rows.uptoBulk d:=by
 obtain⟨cs,h⟩:=h;obtain⟨f0,f1,g,t0,t1⟩:=aKv;cases d with
 |agg l=>
  have f:∀x∈l,Rows.uptoBulk x<=1048576:=fun x hx=>by
   have:=oG.uF hx;rw[Rows.uptoBulk]at o;omega
  simp only[bF,g,aR]at h⊢;obtain⟨u,t,e,c,_⟩:=h;rw[HV,aJ6]at e;cases e
  match l,c with
  |[],c=>simp[bg]at c
  |[x],c=>simp[bg]at c
  |x::y::r,c=>
   have:=vg x;simp only[dk,cc,bg,dq,ce,t0,t1]at c⊢;obtain⟨c0,_,_,g1,_,c1,_,_,g2,_⟩:=c;subst s;obtain⟨a,i,k⟩:=xW (n:=n+1) ⟨c0,g1⟩ (f x (by simp));obtain⟨b,j,q⟩:=zC (n:=n) ⟨c1,g2⟩ (f y (by simp));refine⟨⟨a,b⟩,by rw[i,j,HV];rfl,⟨k,q⟩,?_⟩;rw[Rows.uptoBulk,Rows.uptoBulkAll];omega
 |_=>simp only[bF,g,aR]at h
theorem S6{d:DataW H}(h:∃cs,aR prog W aa (bF prog 8 66 d) cs)(b:Rows.uptoBulk d<=1048576):∃p:cQ,bF prog 8 66 d=oH p/\True/\jU p:=by
 obtain⟨p,e,a,_⟩:=To (n:=5) rfl h b;exact⟨p,e,trivial,a⟩
end
def ig(b:aq)(name:List Nat)(p:V2):aq:=⟨b.cs,b.bm,b.bf,b.aj++[⟨name,gf p⟩]⟩
theorem aJO{t b:aq}{a s:V2}(c:fQ t b a s<200)(d:¬t.on (bN a s (fQ t b a s))<0):ln t b (bN a s (fQ t b a s))=true:=by
 obtain⟨_,_,h⟩:=oY (fun i=>lg t b (bN a s i)) 200;have:=h c;change lg t b (bN a s (fQ t b a s))=true at this;rw[lg,b2,decide_eq_true_eq]at this;rcases this with h|h
 ·exact absurd h d
 ·exact h
theorem Hr{t b:aq}{a s:V2}{k:Nat}(hk:k<fQ t b a s):0<=t.on (bN a s k)/\ln t b (bN a s k)=false:=by
 obtain⟨_,h,_⟩:=oY (fun i=>lg t b (bN a s i)) 200;have:=h k hk;simp only[lg,Bool.or_eq_false_iff,decide_eq_false_iff_not]at this;exact⟨by omega,this.2⟩
theorem H3{t b:aq}{v:V2}(h:ln t b v=true):0<=t.on v/\∀o∈b.aj,¬eO t.bm (vP o.pt) v<0:=by
 simp only[ln,bv,decide_eq_true_eq,b1]at h;refine⟨h.1,fun o c a=>?_⟩;have:b.aj.any (fun o=>decide (eO t.bm (vP o.pt) v<0))=true:=cN.2 ⟨o,c,by simpa using a⟩;rw[h.2]at this;cases this
theorem TJ{t b:aq}{name:List Nat}{p v:V2}:ln t (ig b name p) v=(ln t b v&&!decide (eO t.bm p v<0)):=by
 simp only[ln,ig,da,db,dg,b0,ql,Bool.not_or,Bool.and_assoc]
theorem Tf{r:Int}(c:1<=r)(p:V2):eO r p p<0:=by
 have a:(p.sub p).dot (p.sub p)=0:=by simp only[V2.sub,V2.dot];grind
 have b:0<rj r:=by
  rw[rj];have:(0:Int)<4*r*r:=Int.mul_pos (by omega) (by omega);exact ei.2 (by first|exact this|grind)
 rw[eO,a,fc,if_pos b];decide
theorem aJP{a s:V2}(hs:s≠⟨0,0⟩){i k:Nat}(h:i<k):bN a s i≠bN a s k:=by
 intro e;rw[sZ,sZ]at e;obtain⟨g,j⟩:=a;obtain⟨sx,sy⟩:=s;simp only[V2.add,V2.mul,V2.mk.injEq]at e;have d:((((k:Nat):Int):Rat)-(((i:Nat):Int):Rat))≠0:=by
  rw[<-em];intro f;have:=Rat.intCast_inj.1 (show(((k:Int)-i:Int):Rat)=((0:Int):Rat)from f);omega
 have e1:sx*((((k:Nat):Int):Rat)-(((i:Nat):Int):Rat))=0:=by grind
 have e2:sy*((((k:Nat):Int):Rat)-(((i:Nat):Int):Rat))=0:=by grind
 apply hs;rcases ej.1 e1 with b|b
 ·rcases ej.1 e2 with c|c
  ·rw[b,c]
  ·exact absurd c d
 ·exact absurd b d
theorem Tu{t:aq}{name:List Nat}{p:V2}(b:isName name=true)(c:cq (gf p)=0)(d:0<=t.on p):j0 t ⟨[],0,[],[⟨name,gf p⟩]⟩=0:=by
 rw[j0,if_neg (by simp),lR];intro j a;simp only[cC,c9]at a;obtain rfl:j=0:=by omega
 have h:¬t.on p<0:=by omega
 simp[fS,gE,b,c,ql,h]
theorem Tc{t b:aq}{name:List Nat}{p:V2}(e:j0 t b=0)(r:b.aj.length<24)(l:isName name=true)(n:cq (gf p)=0)(hf:ln t b p=true)(m:∀o∈b.aj,o.name≠name):j0 t (ig b name p)=0:=by
 rw[j0,if_neg (by omega),lR]at e;rw[j0,ig,if_neg (by simp;omega),lR];intro j k;simp only[dp,cC,c9]at k
 by_cases c:j<b.aj.length
 ·have:=e j c;rw[fS]at this⊢;rw[List.getElem?_append_left c,c6 (by omega)];exact this
 ·obtain rfl:j=b.aj.length:=by omega
  obtain⟨q,i⟩:=H3 hf;rw[fS,List.getElem?_append_right (ee _),Nat.sub_self,c6 (ee _),cB];have f:b.aj.any (fun o=>decide (o.name=name))=false:=by
   cases hq:b.aj.any (fun o=>decide (o.name=name))
   ·rfl
   ·obtain⟨o,d,a⟩:=cN.1 hq;exact absurd (of_decide_eq_true a) (m o d)
  have g:b.aj.any (fun o=>decide (eO t.bm (vP o.pt) p<0))=false:=by
   cases hq:b.aj.any (fun o=>decide (eO t.bm (vP o.pt) p<0))
   ·rfl
   ·obtain⟨o,d,a⟩:=cN.1 hq;exact absurd (of_decide_eq_true a) (i o d)
  have h:¬t.on p<0:=by omega
  simp[gE,l,n,ql,f,g,h]
theorem Tb{t b:aq}{name:List Nat}{a s:V2}(l:1<=t.bm)(o:fQ t b a s<200)(j:¬t.on (bN a s (fQ t b a s))<0):
 fQ t b a s<fQ t (ig b name (bN a s (fQ t b a s))) a s:=by
 have hf:=fun k=>Hr (t:=t) (b:=b) (a:=a) (s:=s) (k:=k);generalize hk:fQ t b a s=N at*;obtain⟨g,n,f⟩:=oY (fun i=>lg t (ig b name (bN a s N)) (bN a s i)) 200;change fQ t (ig b name (bN a s N)) a s<=200 at g;change fQ t (ig b name (bN a s N)) a s<200->lg t (ig b name (bN a s N)) (bN a s (fQ t (ig b name (bN a s N)) a s))=true at f;generalize fQ t (ig b name (bN a s N)) a s=M at*
 by_cases c:N<M
 ·exact c
 have d:=f (by omega);simp only[lg,TJ,b2,decide_eq_true_eq,bv,b1,decide_eq_false_iff_not]at d
 by_cases e:M=N
 ·subst e;rcases d with h|h
  ·exact absurd h j
  ·exact absurd (Tf l _) h.2
 ·obtain⟨m,a2⟩:=hf M (by omega);rcases d with h|h
  ·omega
  ·rw[a2]at h;cases h.1
theorem Tq{a s:V2}(hs:s≠⟨0,0⟩){i k:Nat}(h:i<k):0<((bN a s k).sub (bN a s i)).dot s:=by
 rw[sZ,sZ];obtain⟨e,f⟩:=a;obtain⟨sx,sy⟩:=s;have b:0<((((k:Nat):Int):Rat)-(((i:Nat):Int):Rat)):=by
  rw[<-em];exact ei.2 (by omega)
 have d:0<sx*sx+sy*sy:=by
  have g:=sq_nonneg sx;have j:=sq_nonneg sy
  by_cases c:sx*sx+sy*sy=0
  ·obtain⟨e1,e2⟩:=aJR c;exact absurd (by rw[e1,e2]) hs
  ·grind
 have:=en b d;simp only[V2.add,V2.mul,V2.sub,V2.dot]
 grind
theorem Td(b:aq)(f:b.aj.length<=1000000):aC prog 33 [.seq (b.aj.map bu)] (.seq (b.aj.map bu)):=by
 have g:(1000000:Nat)<cZ:=by decide
 have h:b3.wrap 1=1:=by decide
 refine aM nf QD mix (by simp[f33]) ?_;simp[f33,ad];refine lp (α:=Nat) (fun i=>⟨[(8,.p (.int .i64 i)),(7,.p (.int .i64 b.aj.length)),(6,.p (.seq (b.aj.map bu))),(3,.sl 0 i 3 0 i)],[.arr .grow i 3 ((b.aj.map (AV.p∘bu)).take i)]⟩) (fun i=>i<=b.aj.length) (fun i=>b.aj.length-i) 0 (by simp) ?_;rintro i i1
 by_cases hi:i<b.aj.length
 ·have a:=aq.dZ hi;have e:=cr (i:=i) (by omega);have d:(b.aj.map (AV.p∘bu)).take (i+1)=(b.aj.map (AV.p∘bu)).take i++[.p (bu (b.sp i))]:=by
   rw[cx,dz,a];rfl
  have c:min i b.aj.length=i:=by omega
  simp[hi,a,e,c,ad];exact⟨by omega,rd (i+1) hi (hh:=by simp[d]) (hr2:=by simp[iy])⟩
 ·have:i=b.aj.length:=by omega
  subst this;simp[ad]
theorem Tw(b:aq)(f:b.aj.length<=1000000):cw prog 30 [] [.p (.seq (b.aj.map bu))] [.arr .grow b.aj.length 3 (b.aj.map (AV.p∘bu))] (.sl 0 b.aj.length 3 0 b.aj.length):=by
 have g:(1000000:Nat)<cZ:=by decide
 have h:b3.wrap 1=1:=by decide
 refine fV nf EM mix (by simp[f30]) ?_;simp[f30,ad];refine lp (α:=Nat) (fun i=>⟨[(8,.p (.int .i64 i)),(7,.p (.int .i64 b.aj.length)),(6,.p (.seq (b.aj.map bu))),(3,.sl 0 i 3 0 i)],[.arr .grow i 3 ((b.aj.map (AV.p∘bu)).take i)]⟩) (fun i=>i<=b.aj.length) (fun i=>b.aj.length-i) 0 (by simp) ?_;rintro i i1
 by_cases hi:i<b.aj.length
 ·have a:=aq.dZ hi;have e:=cr (i:=i) (by omega);have d:(b.aj.map (AV.p∘bu)).take (i+1)=(b.aj.map (AV.p∘bu)).take i++[.p (bu (b.sp i))]:=by
   rw[cx,dz,a];rfl
  have c:min i b.aj.length=i:=by omega
  simp[hi,a,e,c,ad];exact⟨by omega,rd (i+1) hi (hh:=by simp[d]) (hr2:=by simp[iy])⟩
 ·have:i=b.aj.length:=by omega
  subst this;simp[ad]
@[simp high] theorem aKZ(c:Bool)(H:Heap)(v w:V2):aU prog .neq 47 c H (.p (eV v)) (.p (eV w))=some (True,{v:=.p (.bool (!iE (bc v.x) (bc v.y) (bc w.x) (bc w.y)))}):=by
 rw[eV,eV,dB,dB];simp[aU]
def jE:List Nat:=[102,117,114,116,104,101,114]
theorem UD{α:Type}{f:α->PV}(l:List α):dO (l.map (AV.p∘f))=some (l.map f):=by
 induction l with
 |nil=>rfl
 |cons a r b=>simp only[cc,Function.comp,dO,b]
theorem S2(q:aC prog 11 [] (.bool true))(t b:aq)(p:cQ)(B:iM t)(E:lh b)(Q:jU p):aC prog 5 [cV t,.seq (b.aj.map bu),oH p] (.bool true):=by
 have s0:=Ii t b 6 6 B E (by decide) (by decide);rw[show(((6:Nat):Int))=6 from rfl]at s0;obtain⟨name,p⟩:=p;have bi:iI name:=Q.1;have Q:jF p:=Q.2;have H:=zY p 6 Q (by decide);rw[show(((6:Nat):Int))=6 from rfl]at H;have z:=HG t name B.sl;rw[S9]at z;have U:=Zp [48] [48];rcases hf:sv t b 6 6 with _|_
 ·rw[hf]at s0;simp only[oH]at*;refine aM nf ny mix (by simp[f5]) ?_;simp[f5,ad];refine Go.au.e4 s0 ?_;simp[ad,dJ];refine Go.au.c0 q ?_;simp[ad,dJ]
 rw[hf]at s0
 by_cases bb:40<name.length
 ·have c:(40:Int)<name.length:=by omega
  simp only[oH]at*;refine aM nf ny mix (by simp[f5]) ?_;simp[f5,ad];refine Go.au.e4 s0 ?_;simp[ad,dJ,c];refine Go.au.c0 q ?_;simp[ad,dJ,c]
 have c:¬(40:Int)<name.length:=by omega
 by_cases hk:dN t name<t.aj.length
 case neg=>
  rw[my,if_neg hk]at z;simp only[oH]at*;refine aM nf ny mix (by simp[f5]) ?_;simp[f5,ad];refine Go.au.e4 s0 ?_;simp[ad,dJ,c];refine Go.au.e2 z ?_;simp[ad,dJ,c];refine Go.au.c0 q ?_;simp[ad,dJ,c]
 rw[my,if_pos hk]at z;have f:¬(dN t name:Int)<0:=by omega
 rcases F:eE p.x 6&&eE p.y 6 with _|_
 ·rw[F]at H;clear F;generalize dN t name=k at*;obtain⟨a5,a6⟩:=p;simp only[oH,dB]at*;refine aM nf ny mix (by simp[f5]) ?_;simp[f5,ad];refine Go.au.e4 s0 ?_;simp[ad,dJ,c,f];refine Go.au.e2 z ?_;simp[ad,dJ,c,f];refine Go.au.e2 H ?_;simp[ad,dJ,c,f];refine Go.au.c0 q ?_;simp[ad,dJ,c,f]
 rw[F]at H;rcases d:iE p.x p.y [48] [48]with _|_
 case true=>
  clear F;generalize dN t name=k at*;obtain⟨a5,a6⟩:=p;simp only[oH,dB]at*;refine aM nf ny mix (by simp[f5]) ?_;simp[f5,ad];refine Go.au.e4 s0 ?_;simp[ad,dJ,c,f,d];refine Go.au.e2 z ?_;simp[ad,dJ,c,f,d];refine Go.au.e2 H ?_;simp[ad,dJ,c,f,d];refine Go.au.e2 U ?_;simp[ad,dJ,c,f,d];refine Go.au.c0 q ?_;simp[ad,dJ,c,f,d]
 rw[bv]at F;obtain⟨ac,aA⟩:=ye F.1;obtain⟨ae,aB⟩:=ye F.2;have J:cq p=0:=by rw[cq,bJ,if_pos ac,bJ,if_pos ae];rfl
 have aY:kZ t=true:=by
  simp only[sv,bv]at hf;exact hf.1
 simp only[sv,bv,decide_eq_true_eq]at hf;have a1:b.aj.length<=6:=hf.2.2.1;have T:gD t b=0:=hf.2.2.2.1;clear hf F;obtain⟨R,bf⟩:=yd E T;obtain⟨bk,bl,bj,_⟩:=lP R;obtain⟨aT,a7⟩:=sX R;have ar:=SZ aY;have e:=yf R hk;have ai:=ar _ (cA (aq.dZ hk)) e;have C:b9 133 (vP p):=Hu (by omega) (by omega) J;have a4:eV ⟨0,0⟩=.st 46 [.str [48],.str [48]]:=by
  rw[xd,show bc 0=[48]from by decide+kernel]
 obtain⟨S,X⟩:∃S,S=vP p:=⟨_,rfl⟩
 have aK:p=gf S:=by
  have n:=(th J).1;rw[<-X]at n;obtain⟨a,b⟩:=p;rw[Ez,gf,dB,dB]at n;simp only[PV.st.injEq,List.cons.injEq,PV.str.injEq,and_true,true_and]at n;rw[gf,<-n.1,<-n.2]
 have au:S≠⟨0,0⟩:=by
  intro h;rw[aK,h,gf]at d;rw[show bc 0=[48]from by decide+kernel,dJ]at d;cases d
 rw[<-X]at C;subst aK;have q0:=SU t B.cl B.pl B.sl;have q1:=Tn b E.sl;have D:=Hg t b name (gf S) B E Q ar (fun _=>by rw[ql];exact C);have ag:mA t name (gf S)=0:=by rw[Ht,if_pos hk,if_pos J,d];rfl
 rw[vr,if_pos T,if_pos ag,ql]at D;have aG:=(th e).1;generalize aX:vP (t.sp (dN t name)).pt=A at*;have L:∀i,i<=200->b9 300 (bN A S i):=fun i h=>Hq ai C h;rw[<-a4]at U;have a3:=d;have d:iE (bc S.x) (bc S.y) (bc 0) (bc 0)=false:=F2 (t:=⟨0,0⟩) au;simp only[oH,<-Ez]at*;have r:=aq.dZ hk;rw[mI]at D
 by_cases P:fQ t b A S<200
 case neg=>
  rw[if_neg P,ie]at D;clear X L ai C ag J ac ae aA aB;generalize dN t name=k at*;refine aM nf ny mix (by simp[f5]) ?_;simp[f5,ad];refine Go.au.e4 s0 ?_;simp[ad,dJ,-aU,aU.eq_1,c,f,d];refine Go.au.e2 z ?_;simp[ad,dJ,-aU,aU.eq_1,c,f,d];refine Go.au.e2 H ?_;simp[ad,dJ,-aU,aU.eq_1,c,f,d];refine Go.au.e2 U ?_;simp[ad,dJ,-aU,aU.eq_1,c,f,d];refine Go.au.e1 q0 ?_;simp[ad,dJ,-aU,aU.eq_1,c,f,d];refine Go.au.e1 q1 ?_;simp[ad,dJ,-aU,aU.eq_1,c,f,d];refine Go.au.e4 D ?_;simp[ad,dJ,-aU,aU.eq_1,c,f,d];refine⟨by repeat' first|rfl|apply bo,?_⟩;refine Go.au.c0 q ?_;simp[ad,dJ,-aU,aU.eq_1,c,f,d]
 rw[if_pos P]at D
 by_cases W:t.on (bN A S (fQ t b A S))<0
 case pos=>
  rw[if_pos W,ie]at D;clear X L ai C ag J ac ae aA aB;generalize dN t name=k at*;refine aM nf ny mix (by simp[f5]) ?_;simp[f5,ad];refine Go.au.e4 s0 ?_;simp[ad,dJ,-aU,aU.eq_1,c,f,d];refine Go.au.e2 z ?_;simp[ad,dJ,-aU,aU.eq_1,c,f,d];refine Go.au.e2 H ?_;simp[ad,dJ,-aU,aU.eq_1,c,f,d];refine Go.au.e2 U ?_;simp[ad,dJ,-aU,aU.eq_1,c,f,d];refine Go.au.e1 q0 ?_;simp[ad,dJ,-aU,aU.eq_1,c,f,d];refine Go.au.e1 q1 ?_;simp[ad,dJ,-aU,aU.eq_1,c,f,d];refine Go.au.e4 D ?_;simp[ad,dJ,-aU,aU.eq_1,c,f,d];refine⟨by repeat' first|rfl|apply bo,?_⟩;refine Go.au.c0 q ?_;simp[ad,dJ,-aU,aU.eq_1,c,f,d]
 rw[if_neg W]at D;have ao:=aJO P W;have aj:=L _ (Nat.le_of_lt P);obtain⟨aE,ab⟩:=xQ aj (by decide);have aS:=yt _ aE;rw[ab,<-Ez]at aS;have aW:=Tw b E.sl;have bg:=E.sl;clear ag ac ae aA aB;generalize ah:fQ t b A S=N at*;refine aM nf ny mix (by simp[f5]) ?_;simp[f5,ad];refine Go.au.e4 s0 ?_;simp[ad,dJ,-aU,aU.eq_1,c,f,d];refine Go.au.e2 z ?_;simp[ad,dJ,-aU,aU.eq_1,c,f,d];refine Go.au.e2 H ?_;simp[ad,dJ,-aU,aU.eq_1,c,f,d];refine Go.au.e2 U ?_;simp[ad,dJ,-aU,aU.eq_1,c,f,d];refine Go.au.e1 q0 ?_;simp[ad,dJ,-aU,aU.eq_1,c,f,d];refine Go.au.e1 q1 ?_;simp[ad,dJ,-aU,aU.eq_1,c,f,d];refine Go.au.e4 D ?_;simp[ad,dJ,-aU,aU.eq_1,c,f,d];refine⟨by repeat' first|rfl|apply bo,?_⟩;refine Go.au.c1 aS ?_;simp[ad,dJ,-aU,aU.eq_1,c,f,d];have bh:(1000000:Nat)<cZ:=by decide
 obtain⟨f0,f1⟩:=H3 ao;have av:jU ⟨jE,gf (bN A S N)⟩:=⟨(show iI jE from⟨by decide,by decide⟩),aE⟩
 have aD:isName jE=true:=by decide
 have aQ:=Td ⟨[],0,[],[⟨jE,gf (bN A S N)⟩]⟩ (by simp);have az:=Hi t ⟨[],0,[],[⟨jE,gf (bN A S N)⟩]⟩ R ⟨by simp,fun s h=>by rw[dl]at h;subst h;exact av⟩ B.cl;rw[Tu aD ab f0]at az;simp only[cc,ce]at aQ az;obtain⟨j,K⟩:∃j,j=(ig b jE (bN A S N)).aj:=⟨_,rfl⟩
 have aI:b4 (AV.p∘bu) b.aj++[AV.p (.st 48 [.str [102,117,114,116,104,101,114],eV (bN A S N)])]=b4 (AV.p∘bu) j:=by rw[K,ig,ec];rfl
 have v:j.length=b.aj.length+1:=by rw[K,ig,dp];rfl
 have l:dO (b4 (AV.p∘bu) j)=some (b4 bu j):=UD _;have m:j≠[]:=by intro h;rw[h]at v;simp at v
 have a0:ck 1 (cv b.aj.length (b4 bu j))=[bu ⟨jE,gf (bN A S N)⟩]:=by
  rw[K,ig,ec,List.drop_append_of_le_length (by simp),List.drop_of_length_le (by simp)];rfl
 have G:ck (b.aj.length+1) (b4 bu j)=b4 bu j:=cy (by rw[ed];omega)
 have aF:(∀o∈b.aj,o.name≠jE)->aC prog 36 [b8 t,.seq (j.map bu)] (.int .i64 0)/\
  aC prog 29 [b8 t,.seq (j.map bu),.str name,eV S] (.aG (mI t ⟨b.cs,b.bm,b.bf,j⟩ A S)):=by
  intro Y;have aZ:ig b jE (bN A S N)=⟨b.cs,b.bm,b.bf,j⟩:=by rw[K];rfl
  have a8:j0 t b=0:=by rw[gD,if_neg (by simp[R])]at T;exact T
  have a9:=Tc a8 (by omega) aD ab ao Y;have aV:gD t (ig b jE (bN A S N))=0:=by rw[gD,if_neg (by simp[R]),a9]
  have aR:lh (ig b jE (bN A S N)):=⟨by rw[<-K];omega,fun s h=>by
   rw[ig,List.mem_append,dl]at h;rcases h with h|rfl
   ·exact E.sp s h
   ·exact av⟩
  have e1:=Bw t _ B aR;rw[aV]at e1;have e2:=Hg t _ name (gf S) B aR Q ar (fun _=>by rw[ql];exact C);rw[vr,if_pos aV,if_pos (show mA t name (gf S)=0 by rw[Ht,if_pos hk,if_pos J,a3];rfl),ql,aX]at e2;rw[aZ]at e1 e2;exact⟨e1,e2⟩
 have ap:=Tb (t:=t) (b:=b) (name:=jE) (a:=A) (s:=S) aT (by rw[ah];exact P) (by rw[ah];exact W);rw[ah,show ig b jE (bN A S N)=⟨b.cs,b.bm,b.bf,j⟩by rw[K];rfl]at ap;have aN:∀i,i<N->aC prog 34 [b8 t,.seq (b.aj.map bu),eV (bN A S i)] (.aG [.bool false,.int .i64 0]):=fun i hi=>by
  obtain⟨pi,ci⟩:=xQ (L i (by omega)) (by decide);have:=ZG t b (gf (bN A S i)) B E pi;have aJ:o6 t b (gf (bN A S i))=0:=by rw[o6];simp only[bJ,T,ci,if_true]
  rw[if_pos aJ,aJ,ql,(Hr (t:=t) (b:=b) (a:=A) (s:=S) (by rw[ah];exact hi)).2]at this;exact this
 have aO:∀i,i<N->aC prog 35 [eV (bN A S i),eV S] (eV (bN A S (i+1))):=fun i hi=>Zj (bN A S i) S ((L i (by omega)).mono (by decide)) (C.mono (by decide));have aL:∀i,N<i->i<200->aC prog 31 [eV (bN A S i)] (.int .i64 0)/\aC prog 38 [eV (bN A S i),eV (bN A S N)] (eV ((bN A S i).sub (bN A S N)))/\aC prog 37 [eV ((bN A S i).sub (bN A S N)),eV S] (.str (bc (((bN A S i).sub (bN A S N)).dot S)))/\∃g:Int,0<g/\aC prog 26 [.str (bc (((bN A S i).sub (bN A S N)).dot S))] (.int .i64 g):=fun i n ba=>by
  have ak:=L i (by omega);obtain⟨pi,ci⟩:=xQ ak (by decide);have O:=yt _ pi;rw[ci]at O;refine⟨O,AE _ _ (ak.mono (by decide)) (aj.mono (by decide)),Ij _ _ ((oD ak aj).mono (by decide)) (C.mono (by decide)),_,?_,ur _ ((BT (oD ak aj) C).mono (by decide))⟩;have:=FC.2 (Tq (a:=A) (s:=S) au n);omega
 have aP:∀i,i<N->iE (bc (bN A S i).x) (bc (bN A S i).y) (bc (bN A S N).x) (bc (bN A S N).y)=false:=fun i hi=>F2 (aJP au hi);have be:N<200:=P;clear av aD ab ao f0 f1 K L ai C X D aE W T aT a7 J a1 e;refine ef aW [] ?_
 by_cases af:0<b.aj.length
 ·have a2:b.aj≠[]:=by intro h;rw[h]at af;simp at af
  simp[-aU,aU.eq_1,sig,bd,ad,tW,af,a2];refine⟨by omega,⟨by rfl,by rfl⟩,?_⟩;rw[aI];refine ep aQ (by simp[v,l,a0,m];first|exact⟨rfl,rfl⟩|rfl) (by simp[l,m];first|exact⟨rfl,rfl⟩|rfl) ?_;simp[-aU,aU.eq_1,ad];refine Go.au.e2 az ?_;simp[-aU,aU.eq_1,ad];refine⟨by rfl,?_⟩;refine lp (α:=Nat) (fun i=>⟨[(96,.p (.int .i64 i)),(95,.p (.int .i64 b.aj.length)),(94,.p (.seq (b.aj.map bu))),(10,.p (.bool ((b.aj.take i).any (fun o=>decide (o.name=[102,117,114,116,104,101,114]))))),(9,.sl 3 (b.aj.length+1) 3 0 (b.aj.length+1)),(7,.ptr 2 []),(5,.ptr 1 []),(3,.ptr 0 []),(1,.p (.seq (b.aj.map bu)))],[.box false (.p (cV t)),.box false (.p (.st 65 [.str name,eV S])),.box false (.p (eV (bN A S N))),.arr .frozen (b.aj.length+1) 3 (b4 (AV.p∘bu) j),.arr .exact 0 3 [.p (.st 48 [.str [102,117,114,116,104,101,114],eV (bN A S N)])]]⟩) (fun i=>i<=b.aj.length) (fun i=>b.aj.length-i) 0 (by simp) ?_;intro i n
  by_cases hi:i<b.aj.length
  ·obtain⟨o,r⟩:∃o,b.aj[i]?=some o:=⟨_,aq.dZ hi⟩
   have u:b.sp i=o:=by exact(Option.some.inj (r.symm.trans (aq.dZ hi))).symm
   have w:=cr (i:=i) (by omega);have aH:(b.aj.take (i+1)).any (fun o=>decide (o.name=[102,117,114,116,104,101,114]))=((b.aj.take i).any (fun o=>decide (o.name=[102,117,114,116,104,101,114]))||decide (o.name=[102,117,114,116,104,101,114])):=by
    rw[cx,r,da];simp only[Option.toList_some,db,dg,b0]
   generalize (b.aj.take i).any (fun o=>decide (o.name=[102,117,114,116,104,101,114]))=an at*;obtain⟨on,op⟩:=o;cases an
   ·by_cases hq:on=[102,117,114,116,104,101,114]
    ·simp[hi,r,u,w,hq,ad];exact rd (i+1) hi (he:=by simp only[aH];simp[hq,u])
    ·simp[hi,r,u,w,hq,ad];exact rd (i+1) hi (he:=by simp only[aH];simp[hq,u])
   ·simp[hi,r,u,w,ad];exact rd (i+1) hi (he:=by simp only[aH];simp[u])
  rw[show i=b.aj.length from by omega,cB];clear n hi i;simp[-aU,aU.eq_1,ad];refine Go.au.e2 z ?_;simp[-aU,aU.eq_1,ad,r,<-aG];refine⟨by repeat' first|rfl|apply bo,?_⟩;generalize Z:b.aj.any (fun o=>decide (o.name=[102,117,114,116,104,101,114]))=aa at*;refine lp (α:=Nat) (fun i=>⟨[(14,.p (.int .i64 i)),(13,.ptr 5 []),(10,.p (.bool aa)),(9,.sl 3 (b.aj.length+1) 3 0 (b.aj.length+1)),(7,.ptr 2 []),(5,.ptr 1 []),(3,.ptr 0 []),(1,.p (.seq (b.aj.map bu)))],[.box false (.p (cV t)),.box false (.p (.st 65 [.str name,eV S])),.box false (.p (eV (bN A S N))),.arr .frozen (b.aj.length+1) 3 (b4 (AV.p∘bu) j),.arr .exact 0 3 [.p (.st 48 [.str [102,117,114,116,104,101,114],eV (bN A S N)])],.box false (.p (eV (bN A S i)))]⟩) (fun i=>i<=N) (fun i=>N-i) 0 (by simp) ?_ (hh:=by simp[bN]);intro i n
  by_cases hi:i<N
  ·have O:=aN i hi;have al:=aO i hi;have am:=aP i hi;have w:=cr (i:=i) (by omega);have ay:¬(200:Int)<i:=by omega
   simp[-aU,aU.eq_1,am,ad];refine Go.au.e1 q0 ?_;simp[-aU,aU.eq_1,ad];refine Go.au.e1 q1 ?_;simp[-aU,aU.eq_1,ad];refine Go.au.e3 O ?_;simp[-aU,aU.eq_1,ay,ad];refine Go.au.c2 al ?_;simp[-aU,aU.eq_1,w,ad];exact rd (i+1) hi
  obtain rfl:i=N:=by omega
  clear n hi;simp[-aU,aU.eq_1,dJ,ad];cases aa
  case true=>
   simp[ad];refine Go.au.c0 q ?_;simp[ad]
  have Y:∀o∈b.aj,o.name≠jE:=by
   intro o ax aw;rw[ea]at Z;exact Z o ax (by rw[aw];rfl)
  obtain⟨g1,g2⟩:=aF Y;rw[mI]at g2;simp[-aU,aU.eq_1,ad];refine Go.au.c1 q0 ?_;simp[-aU,aU.eq_1,ad];refine cp g1 (by simp[v,l,G,m];first|exact⟨rfl,rfl⟩|rfl) ?_;simp[-aU,aU.eq_1,ad];refine Go.au.e1 q0 ?_;simp[-aU,aU.eq_1,ad];generalize fQ t ⟨b.cs,b.bm,b.bf,j⟩ A S=M at*
  by_cases I:M<200
  case neg=>
   rw[if_neg I,ie]at g2;refine ep g2 (by simp[v,l,G,m];first|exact⟨rfl,rfl⟩|rfl) (by simp[l,m];first|exact⟨rfl,rfl⟩|rfl) ?_;simp[-aU,aU.eq_1,ad];refine⟨by repeat' first|rfl|apply bo,?_⟩;refine Go.au.c0 q ?_;simp[ad]
  rw[if_pos I]at g2
  by_cases V:t.on (bN A S M)<0
  case pos=>
   rw[if_pos V,ie]at g2;refine ep g2 (by simp[v,l,G,m];first|exact⟨rfl,rfl⟩|rfl) (by simp[l,m];first|exact⟨rfl,rfl⟩|rfl) ?_;simp[-aU,aU.eq_1,ad];refine⟨by repeat' first|rfl|apply bo,?_⟩;refine Go.au.c0 q ?_;simp[ad]
  rw[if_neg V]at g2;obtain⟨d1,d2,d3,g,d4,d5⟩:=aL M ap I;refine ep g2 (by simp[v,l,G,m];first|exact⟨rfl,rfl⟩|rfl) (by simp[l,m];first|exact⟨rfl,rfl⟩|rfl) ?_;simp[-aU,aU.eq_1,ad];refine⟨by repeat' first|rfl|apply bo,?_⟩;refine Go.au.e1 d1 ?_;simp[-aU,aU.eq_1,ad];refine Go.au.e2 d2 ?_;simp[-aU,aU.eq_1,ad];refine Go.au.e2 d3 ?_;simp[-aU,aU.eq_1,ad];refine Go.au.e1 d5 ?_;simp[-aU,aU.eq_1,ad,d4];refine Go.au.e0 q ?_;simp[-aU,aU.eq_1,ad,d4]
 ·simp[-aU,aU.eq_1,sig,bd,ad,tW,af];refine⟨by omega,⟨by rfl,by rfl⟩,?_⟩;rw[aI];refine lp (α:=Nat) (fun i=>⟨[(96,.p (.int .i64 i)),(95,.p (.int .i64 b.aj.length)),(94,.p (.seq (b.aj.map bu))),(10,.p (.bool ((b.aj.take i).any (fun o=>decide (o.name=[102,117,114,116,104,101,114]))))),(9,.sl 3 (b.aj.length+1) 3 0 (b.aj.length+1)),(7,.ptr 2 []),(5,.ptr 1 []),(3,.ptr 0 []),(1,.p (.seq (b.aj.map bu)))],[.box false (.p (cV t)),.box false (.p (.st 65 [.str name,eV S])),.box false (.p (eV (bN A S N))),.arr .grow (b.aj.length+1) 3 (b4 (AV.p∘bu) j),.arr .exact 0 3 [.p (.st 48 [.str [102,117,114,116,104,101,114],eV (bN A S N)])]]⟩) (fun i=>i<=b.aj.length) (fun i=>b.aj.length-i) 0 (by simp) ?_;intro i n
  by_cases hi:i<b.aj.length
  ·obtain⟨o,r⟩:∃o,b.aj[i]?=some o:=⟨_,aq.dZ hi⟩
   have u:b.sp i=o:=by exact(Option.some.inj (r.symm.trans (aq.dZ hi))).symm
   have w:=cr (i:=i) (by omega);have aH:(b.aj.take (i+1)).any (fun o=>decide (o.name=[102,117,114,116,104,101,114]))=((b.aj.take i).any (fun o=>decide (o.name=[102,117,114,116,104,101,114]))||decide (o.name=[102,117,114,116,104,101,114])):=by
    rw[cx,r,da];simp only[Option.toList_some,db,dg,b0]
   generalize (b.aj.take i).any (fun o=>decide (o.name=[102,117,114,116,104,101,114]))=an at*;obtain⟨on,op⟩:=o;cases an
   ·by_cases hq:on=[102,117,114,116,104,101,114]
    ·simp[hi,r,u,w,hq,ad];exact rd (i+1) hi (he:=by simp only[aH];simp[hq,u])
    ·simp[hi,r,u,w,hq,ad];exact rd (i+1) hi (he:=by simp only[aH];simp[hq,u])
   ·simp[hi,r,u,w,ad];exact rd (i+1) hi (he:=by simp only[aH];simp[u])
  rw[show i=b.aj.length from by omega,cB];clear n hi i;simp[-aU,aU.eq_1,ad];refine Go.au.e2 z ?_;simp[-aU,aU.eq_1,ad,r,<-aG];refine⟨by repeat' first|rfl|apply bo,?_⟩;generalize Z:b.aj.any (fun o=>decide (o.name=[102,117,114,116,104,101,114]))=aa at*;refine lp (α:=Nat) (fun i=>⟨[(14,.p (.int .i64 i)),(13,.ptr 5 []),(10,.p (.bool aa)),(9,.sl 3 (b.aj.length+1) 3 0 (b.aj.length+1)),(7,.ptr 2 []),(5,.ptr 1 []),(3,.ptr 0 []),(1,.p (.seq (b.aj.map bu)))],[.box false (.p (cV t)),.box false (.p (.st 65 [.str name,eV S])),.box false (.p (eV (bN A S N))),.arr .grow (b.aj.length+1) 3 (b4 (AV.p∘bu) j),.arr .exact 0 3 [.p (.st 48 [.str [102,117,114,116,104,101,114],eV (bN A S N)])],.box false (.p (eV (bN A S i)))]⟩) (fun i=>i<=N) (fun i=>N-i) 0 (by simp) ?_ (hh:=by simp[bN]);intro i n
  by_cases hi:i<N
  ·have O:=aN i hi;have al:=aO i hi;have am:=aP i hi;have w:=cr (i:=i) (by omega);have ay:¬(200:Int)<i:=by omega
   simp[-aU,aU.eq_1,am,ad];refine Go.au.e1 q0 ?_;simp[-aU,aU.eq_1,ad];refine Go.au.e1 q1 ?_;simp[-aU,aU.eq_1,ad];refine Go.au.e3 O ?_;simp[-aU,aU.eq_1,ay,ad];refine Go.au.c2 al ?_;simp[-aU,aU.eq_1,w,ad];exact rd (i+1) hi
  obtain rfl:i=N:=by omega
  clear n hi;simp[-aU,aU.eq_1,dJ,ad];cases aa
  case true=>
   simp[ad];refine Go.au.c0 q ?_;simp[ad]
  have Y:∀o∈b.aj,o.name≠jE:=by
   intro o ax aw;rw[ea]at Z;exact Z o ax (by rw[aw];rfl)
  obtain⟨g1,g2⟩:=aF Y;rw[mI]at g2;simp[-aU,aU.eq_1,ad];refine Go.au.c1 q0 ?_;simp[-aU,aU.eq_1,ad];refine cp g1 (by simp[v,l,G,m];first|exact⟨rfl,rfl⟩|rfl) ?_;simp[-aU,aU.eq_1,ad];refine Go.au.e1 q0 ?_;simp[-aU,aU.eq_1,ad];generalize fQ t ⟨b.cs,b.bm,b.bf,j⟩ A S=M at*
  by_cases I:M<200
  case neg=>
   rw[if_neg I,ie]at g2;refine ep g2 (by simp[v,l,G,m];first|exact⟨rfl,rfl⟩|rfl) (by simp[l,m];first|exact⟨rfl,rfl⟩|rfl) ?_;simp[-aU,aU.eq_1,ad];refine⟨by repeat' first|rfl|apply bo,?_⟩;refine Go.au.c0 q ?_;simp[ad]
  rw[if_pos I]at g2
  by_cases V:t.on (bN A S M)<0
  case pos=>
   rw[if_pos V,ie]at g2;refine ep g2 (by simp[v,l,G,m];first|exact⟨rfl,rfl⟩|rfl) (by simp[l,m];first|exact⟨rfl,rfl⟩|rfl) ?_;simp[-aU,aU.eq_1,ad];refine⟨by repeat' first|rfl|apply bo,?_⟩;refine Go.au.c0 q ?_;simp[ad]
  rw[if_neg V]at g2;obtain⟨d1,d2,d3,g,d4,d5⟩:=aL M ap I;refine ep g2 (by simp[v,l,G,m];first|exact⟨rfl,rfl⟩|rfl) (by simp[l,m];first|exact⟨rfl,rfl⟩|rfl) ?_;simp[-aU,aU.eq_1,ad];refine⟨by repeat' first|rfl|apply bo,?_⟩;refine Go.au.e1 d1 ?_;simp[-aU,aU.eq_1,ad];refine Go.au.e2 d2 ?_;simp[-aU,aU.eq_1,ad];refine Go.au.e2 d3 ?_;simp[-aU,aU.eq_1,ad];refine Go.au.e1 d5 ?_;simp[-aU,aU.eq_1,ad,d4];refine Go.au.e0 q ?_;simp[-aU,aU.eq_1,ad,d4]
end Go.au
