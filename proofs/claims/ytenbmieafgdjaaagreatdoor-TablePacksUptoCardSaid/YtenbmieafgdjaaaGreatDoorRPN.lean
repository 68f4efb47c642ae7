import Derived.Test.YtenbmieafgdjaaaGreatDoorRPM
import Derived.Test.YtenbmieafgdjaaaGreatDoorRPK
/- Parts of a proof. -/
set_option linter.unusedSimpArgs false
set_option linter.unusedVariables false
set_option linter.unusedSectionVars false
open Go.Proofs.Tryz
open Go.IntKind renaming i64->bo
open Int renaming tmod_eq_emod_of_nonneg->bv, mul_nonneg->b0
open List renaming getElem?_eq_getElem->b1, mem_of_getElem?->b2, length_map->b3, getElem?_eq_some_iff->b4, getElem?_map->b5, map->cb, take_of_length_le->cc, range->ce, map_nil->ck, map_cons->cv, take_add_one->cx, mem_map->cy, getElem_mem->c6, mem_range->c9, getD_eq_getElem?_getD->da, pairwise_iff_getElem->db, take->dg, mem_iff_getElem->dk, getElem?_range->dl, length_range->dp, length_cons->dq, any_eq_true->dz
namespace Go.aj
open Go.Proofs
set_option maxHeartbeats 4000000
set_option maxRecDepth 100000
theorem aC2{c:Bool}{d:Nat}{R:Int}{A:NV}{q i j:Nat}(p:1<=R)(r:R<=1000)(e:bW 133 A.q)(hi:i<=6)(k:j<=7):bW 200 (fk c d R A q (i,j)).q:=by
 have l:dM c d i<=7:=by rw[dM];split<;>omega
 rw[EK];generalize dM c d i=n at*;have m:=kX (a:=R) (b:=(i:Int)) (A:=1000) (B:=6) (by omega) (by omega) (by omega) (by omega);have o:=kX (a:=2*(j:Int)-n+1) (b:=R) (A:=20) (B:=1000) (by omega) (by omega) (by omega) (by omega);have h:7*R*(i:Int)=7*(R*i):=by grind
 have f:bE 60 (fL (7*R*i) 4):=by
  rw[fL,Rat.divInt_eq_div];exact(zj (show bE 40 (((7*R*i:Int)):Rat)from ju (by omega) (by decide)) (show bE 3 (((4:Int)):Rat)from ju (by omega) (by decide))).mono (by decide)
 have g:bE 60 ((((2*j-n+1)*R:Int)):Rat):=(show bE 40 ((((2*j-n+1)*R:Int)):Rat)from ju (by omega) (by decide)).mono (by decide);exact(Aq e (uF (show bW 60 _ from⟨f,g⟩) q)).mono (by decide)
theorem Se{a:Bool}{c i:Nat}{p:Nat×Nat}(hi:i<=6)(h:p∈cC a c i):p.1<=6/\p.2<=7:=by
 rw[cC,List.mem_flatMap]at h;obtain⟨k,hk,b⟩:=h;rw[EL,cy]at b;obtain⟨d,e,rfl⟩:=b;rw[c9]at e hk;have:dM a c k<=7:=by rw[dM];split<;>omega
 simp only;omega
theorem uK{t:aF}{dia:Bool}{rows:Nat}{R:Int}{A:NV}{q:Nat}(g:1<=R)(h:R<=1000)(d:bW 133 A.q)(f:rows<=6):∀v∈bu dia rows R A q (cC dia rows rows),bW 200 v:=by
 intro v a;rw[bu,cy]at a;obtain⟨p,e,rfl⟩:=a;obtain⟨b,c⟩:=Se f e;exact aC2 g h d b c
theorem aE7{t:aF}{name kind:List Nat}{a q:Int}(h:mu t name kind a q=0):eO t=0/\ch t name<t.az.length/\1<=a/\a<=6/\0<=q/\q<=3/\∃c,kind=jY c/\jA c a.toNat=true:=by
 rw[mu]at h
 by_cases b:eO t=0
 ·rw[if_pos b]at h
  by_cases hk:ch t name<t.az.length
  ·rw[if_pos hk,iI]at h
   split at h
   ·cases h
   rename_i c1
   split at h
   ·cases h
   rename_i c2;refine⟨b,hk,by omega,by omega,by omega,by omega,?_⟩
   by_cases e1:kind=dF
   ·exact⟨false,e1,rfl⟩
   ·by_cases e2:kind=dB
    ·refine⟨true,e2,?_⟩;have e:¬a.tmod 2=0:=fun d=>c2 (.inr (.inr (.inl ⟨e2,d⟩)));rw[bv (by omega)]at e;simp only[jA,Bool.not_true,Bool.false_or,decide_eq_true_eq];omega
    ·exact absurd ⟨e1,e2⟩ c1
  ·rw[if_neg hk]at h;cases h
 ·rw[if_neg b]at h;exact absurd h b
theorem R6(u:aw prog 11 [] (.bool true))(t:aF)(c e:List Nat)(r q:Int)(g:kY t)(ag:c.length<=1048576)(ae:e.length<=1048576):aw prog 3 [cA t,.st 27 [.str c,.str e],.st 28 [.int .i64 r,.int .i64 q]] (.bool true):=by
 have s0:=FE t g.cl g.pl g.sl;rcases H:jW t with _|_
 ·rw[H]at s0;refine aI nf n8 mix (by simp[f3]) ?_;simp[f3,aa];refine Go.aj.c1 s0 ?_;simp[aa];refine Go.aj.c0 u ?_;simp[aa]
 rw[H]at s0;have G:=Gj H;clear H
 by_cases c1:40<c.length
 ·have a:(40:Int)<c.length:=by omega
  refine aI nf n8 mix (by simp[f3]) ?_;simp[f3,aa];refine Go.aj.c1 s0 ?_;simp[aa,a];refine Go.aj.c0 u ?_;simp[aa,a]
 have a:¬(40:Int)<c.length:=by omega
 by_cases c2:40<e.length
 ·have b:(40:Int)<e.length:=by omega
  refine aI nf n8 mix (by simp[f3]) ?_;simp[f3,aa];refine Go.aj.c1 s0 ?_;simp[aa,a,b];refine Go.aj.c0 u ?_;simp[aa,a,b]
 have b:¬(40:Int)<e.length:=by omega
 have q0:=FK t g.cl g.pl g.sl;have D:=Fc t g;have z:=AU t c g.sl;rw[Gw]at z;have q4:=GD e r q
 by_cases d:mu t c e r q=0
 case neg=>
  have q1:=GY t c e r q g d;rw[mu]at q1 d
  by_cases hc:eO t=0
  case neg=>
   rw[if_neg hc]at q1;have h:=zF [eO t,iI e r q] (by simp);simp only[cv,ck]at h;rw[bH,if_neg hc]at h;clear d G;generalize eO t=L at*;generalize iI e r q=C at*;refine aI nf n8 mix (by simp[f3]) ?_;simp[f3,aa];refine Go.aj.c1 s0 ?_;simp[aa,a,b,hc];refine Go.aj.e1 q0 ?_;simp[aa,a,b,hc];refine Go.aj.e4 q1 ?_;simp[aa,a,b,hc];refine Go.aj.c1 D ?_;simp[aa,a,b,hc];refine Go.aj.c2 q4 ?_;simp[aa,a,b,hc];refine cp h (by simp;first|exact⟨rfl,rfl⟩|rfl) ?_;simp[aa,a,b,hc];refine Go.aj.c0 u ?_;simp[aa,a,b,hc]
  rw[if_pos hc]at q1 d;rw[hc]at D
  by_cases hk:ch t c<t.az.length
  case neg=>
   rw[if_neg hk]at q1;rw[jM,if_neg hk]at z;have h:=zF [10,iI e r q] (by simp);simp only[cv,ck]at h;rw[bH,if_neg (by decide)]at h;clear d G;generalize iI e r q=C at*;refine aI nf n8 mix (by simp[f3]) ?_;simp[f3,aa];refine Go.aj.c1 s0 ?_;simp[aa,a,b];refine Go.aj.e1 q0 ?_;simp[aa,a,b];refine Go.aj.e4 q1 ?_;simp[aa,a,b];refine Go.aj.c1 D ?_;simp[aa,a,b];refine Go.aj.c2 z ?_;simp[aa,a,b];refine Go.aj.c2 q4 ?_;simp[aa,a,b];refine cp h (by simp;first|exact⟨rfl,rfl⟩|rfl) ?_;simp[aa,a,b];refine Go.aj.c0 u ?_;simp[aa,a,b]
  rw[if_pos hk]at q1 d;rw[jM,if_pos hk]at z;have f:¬(ch t c:Int)<0:=by omega
  have h:=zF [0,iI e r q] (by simp);simp only[cv,ck]at h;rw[bH,if_pos rfl,bH,if_neg d]at h;clear G;generalize iI e r q=C at*;generalize ch t c=k at*;refine aI nf n8 mix (by simp[f3]) ?_;simp[f3,aa];refine Go.aj.c1 s0 ?_;simp[aa,a,b,f,d];refine Go.aj.e1 q0 ?_;simp[aa,a,b,f,d];refine Go.aj.e4 q1 ?_;simp[aa,a,b,f,d];refine Go.aj.c1 D ?_;simp[aa,a,b,f,d];refine Go.aj.c2 z ?_;simp[aa,a,b,f,d];refine Go.aj.c2 q4 ?_;simp[aa,a,b,f,d];refine cp h (by simp;first|exact⟨rfl,rfl⟩|rfl) ?_;simp[aa,a,b,f,d];refine Go.aj.c0 u ?_;simp[aa,a,b,f,d]
 obtain⟨A,hk,aj,ak,ah,ai,o,V,J⟩:=aE7 d;have M:iI e r q=0:=by rw[mu,if_pos A,if_pos hk]at d;exact d
 obtain⟨n,rfl⟩:∃n:Nat,r=n:=⟨r.toNat,by omega⟩
 obtain⟨m,rfl⟩:∃m:Nat,q=m:=⟨q.toNat,by omega⟩
 subst V;obtain⟨al,am,W,_⟩:=wZ A;obtain⟨R,S⟩:=uC A;have I:=xg A hk;have F:bW 133 (NV.from (t.sp (ch t c)).pt).q:=A3 (G _ (b2 (aF.fx hk)) I);have q1:aw prog 12 [dI t,.str c,.str (jY o),.st 28 [.int .i64 n,.int .i64 m]] (.aE (if dL t (bu o n t.bF (.from (t.sp (ch t c)).pt) m (cC o n n))=true then[.aN,.int .i64 16]else[.seq ((bu o n t.bF (.from (t.sp (ch t c)).pt) m (cC o n n)).map eV),.int .i64 0])):=by
  cases o
  ·exact AW t c n m g A hk (by omega) (by omega) (by simpa using J) (by omega) F
  ·exact AX t c n m g A hk (by omega) (by omega) (by simpa using J) (by omega) F
 have Q:=Yc t.bF (.from (t.sp (ch t c)).pt) o n m R S (by omega) (by omega) (by omega) F;rw[Dr,(uI I).1]at Q;have Y:=uK (t:=t) (dia:=o) (rows:=n) (q:=m) R S F (by omega);have af:(bu o n t.bF (.from (t.sp (ch t c)).pt) m (cC o n n)).length<=100:=by
  have:=xi o n n 0 (by omega) (by omega);rw[bM,List.range_zero,ck,List.append_nil]at this;rw[bu,b3];exact this
 have h:=zF [0,0] (by simp);simp only[cv,ck]at h;rw[show bH [0,0]=0 from rfl]at h;rw[A]at D;rw[M]at q4;rw[jM,if_pos hk]at z;have s:=aF.fx hk;have f:¬(ch t c:Int)<0:=by omega
 have U:=g.cl;clear d M F G I J;generalize bu o n t.bF (.from (t.sp (ch t c)).pt) m (cC o n n)=l at*;generalize ch t c=k at*;generalize jY o=e at*;have Z:∀v∈l,aw prog 19 [cA t,eV v] (.int .i64 (t.on v)):=fun v x=>DL t v U W ((Y v x).mono (by decide));have ab:=R9 l (by omega);have P:∀(X:PV)(E:Int),(X=.aN/\E=16/\dL t l=true\/X=.seq (l.map eV)/\E=0/\dL t l=false)->aw prog 12 [dI t,.str c,.str e,.st 28 [.int .i64 n,.int .i64 m]] (.aE [X,.int .i64 E])->aw prog 3 [cA t,.st 27 [.str c,.str e],.st 28 [.int .i64 n,.int .i64 m]] (.bool true):=by
  intro X E T q1;refine aI nf n8 mix (by simp[f3]) ?_;simp[f3,aa];refine Go.aj.c1 s0 ?_;simp[aa,a,b,f,hk,s];refine Go.aj.e1 q0 ?_;simp[aa,a,b,f,hk,s];refine Go.aj.e4 q1 ?_;simp[aa,a,b,f,hk,s];refine Go.aj.c1 D ?_;simp[aa,a,b,f,hk,s];refine Go.aj.c2 z ?_;simp[aa,a,b,f,hk,s];refine Go.aj.c2 q4 ?_;simp[aa,a,b,f,hk,s];refine cp h (by simp;first|exact⟨rfl,rfl⟩|rfl) ?_;simp[aa,a,b,f,hk,s];refine Go.aj.e2 z ?_;simp[aa,a,b,f,hk,s];refine Go.aj.e4 Q ?_;simp[aa,a,b,f,hk,s];refine lp (α:=Nat) (fun k=>⟨[(77,.p (.int .i64 k)),(76,.p (.int .i64 l.length)),(75,.p (.seq (l.map eV))),(10,.p (.seq (l.map eV))),(9,.p (.int .i64 (if dL t (l.take k)=true then 16 else 0))),(8,.p (.int .i64 E)),(7,.p X),(3,.ptr 0 [])],[.box false (.p (cA t)),.box false (.p (.st 27 [.str c,.str e])),.box false (.p (.st 28 [.int .i64 n,.int .i64 m])),.arr .frozen 0 1 [.p (.int .i64 0),.p (.int .i64 0)]]⟩) (fun k=>k<=l.length) (fun k=>l.length-k) 0 (by simp) ?_ (he:=by simp[dL]);intro j ad
  by_cases B:j<l.length
  ·obtain⟨v,x⟩:∃v,l[j]?=some v:=⟨_,b1 B⟩
   have N:l[j]=v:=by rw[b1 B]at x;injection x
   have O:=bX (i:=j) (by omega);have K:=Z v (b2 x);have g:dL t (l.take (j+1))=(dL t (l.take j)||decide (t.on v<0)):=by
    rw[cx,x,dL,dL,List.any_append];simp
   generalize dL t (l.take j)=ac at*;generalize t.on v=y at*
   by_cases hy:y<0
   ·rw[decide_eq_true hy,Bool.or_true]at g;simp[B,x,N,aa];refine Go.aj.c2 K ?_;simp[hy,O,aa];exact rd (j+1) B (he:=by simp[g])
   ·rw[decide_eq_false hy,Bool.or_false]at g;simp[B,x,N,aa];refine Go.aj.c2 K ?_;simp[hy,O,aa];exact rd (j+1) B (he:=by simp[g])
  ·rw[show j=l.length from by omega,List.take_length];rcases T with⟨rfl,rfl,w⟩|⟨rfl,rfl,w⟩
   ·rw[w];simp[aa];refine Go.aj.c0 u ?_;simp[aa]
   ·rw[w];simp[aa];refine Go.aj.c2 ab ?_;simp[aa];refine Go.aj.c0 u ?_;simp[aa]
 by_cases w:dL t l=true
 ·rw[if_pos w]at q1;exact P _ _ (.inl ⟨rfl,rfl,w⟩) q1
 ·rw[if_neg w]at q1;exact P _ _ (.inr ⟨rfl,rfl,by simpa using w⟩) q1
def eU(a:Bool)(b:Nat)(R:Int)(p:Nat×Nat):V2:=⟨fL (7*R*(p.1:Int)) 4,(((2*(p.2:Int)-(dM a b p.1:Nat)+1)*R:Int):Rat)⟩
theorem ql(b:Bool)(c:Nat)(R:Int)(a:NV)(q:Nat)(p:Nat×Nat):(fk b c R a q p).q=a.q.add (de (eU b c R p) q):=by
 obtain⟨i,j⟩:=p;exact EK b c R a q i j
def jj(a:Bool)(b:Nat)(p:Nat×Nat):Int:=2*(p.2:Int)-(dM a b p.1:Nat)+1
def Aa(a:Bool)(b:Nat)(p o:Nat×Nat):Bool:=decide (64<=49*(((p.1:Int)-o.1)*((p.1:Int)-o.1))+16*((jj a b p-jj a b o)*(jj a b p-jj a b o)))
theorem G0:∀b:Bool,∀a:Nat,a<7->jA b a=true->(cC b a a).Pairwise (fun p o=>Aa b a p o=true):=by decide+kernel
theorem aE5:∀b:Bool,∀a:Nat,a<7->jA b a=true->(cC b a a).length=if b then(a+1)/2*((a+1)/2)else a*(a+1)/2:=by decide+kernel
theorem aE2:∀b:Bool,∀a:Nat,a<7->1<=a->(cC b a a)[0]?=some (0,0)/\dM b a 0=1:=by decide+kernel
theorem Sm:∀b:Bool,∀a:Nat,a<7->(cC b a a).length<=21:=by decide+kernel
theorem Sp(a:Bool)(b:Nat)(R:Int)(p o:Nat×Nat):16*(((eU a b R p).sub (eU a b R o)).dot ((eU a b R p).sub (eU a b R o)))=((R*R*(49*(((p.1:Int)-o.1)*((p.1:Int)-o.1))+16*((jj a b p-jj a b o)*(jj a b p-jj a b o))):Int):Rat):=by
 have hc:((4:Int):Rat)⁻¹*4=1:=by decide+kernel
 rw[eU,eU,show 2*(p.2:Int)-(dM a b p.1:Nat)+1=jj a b p from rfl,show 2*(o.2:Int)-(dM a b o.1:Nat)+1=jj a b o from rfl];simp only[V2.sub,V2.dot,Iz];generalize jj a b p=x;generalize jj a b o=y;generalize (p.1:Int)=i;generalize (o.1:Int)=j;generalize ((4:Int):Rat)⁻¹=c at*;simp only[Rat.intCast_mul,Rat.intCast_add,Rat.intCast_sub,show((7:Int):Rat)=7 from rfl,show((49:Int):Rat)=49 from rfl,show((16:Int):Rat)=16 from rfl];generalize (R:Rat)=r;generalize (x:Rat)=x;generalize (y:Rat)=y;generalize (i:Rat)=i;generalize (j:Rat)=j
 grind
theorem AZ(v:V2):∀k,(de v k).dot (de v k)=v.dot v
 |0=>rfl
 |k+1=>by
  rw[<-AZ v k,de];simp only[V2.dot]
  grind
theorem AY(v w:V2):∀k,(de v k).sub (de w k)=de (v.sub w) k
 |0=>rfl
 |k+1=>by
  rw[de,de,de,<-AY v w k];simp only[V2.sub,V2.mk.injEq];exact⟨by grind,trivial⟩
theorem yY(v:V2)(k:Nat):de v (k+2)=⟨-(de v k).x,-(de v k).y⟩:=by
 rw[de,de]
theorem G9(v:V2){q:Nat}(hq:q<=3):de v ((q+2)% 4)=⟨-(de v q).x,-(de v q).y⟩:=by
 rcases(show q=0\/q=1\/q=2\/q=3 by omega)with rfl|rfl|rfl|rfl
 ·exact yY v 0
 ·exact yY v 1
 ·rw[show(2+2)% 4=0 from rfl,yY v 0];simp only[Rat.neg_neg]
 ·rw[show(3+2)% 4=1 from rfl,yY v 1];simp only[Rat.neg_neg]
theorem A1{a:Bool}{b:Nat}{R:Int}{p o:Nat×Nat}(h:Aa a b p o=true):nN R<=((eU a b R p).sub (eU a b R o)).dot ((eU a b R p).sub (eU a b R o)):=by
 have e:=Sp a b R p o;rw[Aa,decide_eq_true_eq]at h;generalize 49*(((p.1:Int)-o.1)*((p.1:Int)-o.1))+16*((jj a b p-jj a b o)*(jj a b p-jj a b o))=z at*;generalize ((eU a b R p).sub (eU a b R o)).dot ((eU a b R p).sub (eU a b R o))=D at*;have d:0<=R*R:=by
  rcases Int.le_total 0 R with h|h
  ·exact b0 h h
  ·have:=b0 (show 0<=-R by omega) (show 0<=-R by omega)
   rwa [Int.neg_mul_neg]at this
 have c:R*R*64<=R*R*z:=Int.mul_le_mul_of_nonneg_left h d;have hq:((R*R*64:Int):Rat)<=((R*R*z:Int):Rat):=Rat.intCast_le_intCast.2 c;rw[<-e]at hq;rw[nN];simp only[Rat.intCast_mul,show((64:Int):Rat)=64 from rfl,show((4:Int):Rat)=4 from rfl]at hq⊢
 grind
theorem aE1(a:Bool)(b:Nat)(R:Int)(A:NV)(q:Nat)(p o:Nat×Nat):((fk a b R A q p).q.sub (fk a b R A q o).q)=de ((eU a b R p).sub (eU a b R o)) q:=by
 rw[ql,ql,<-AY];simp only[V2.sub,V2.add,V2.mk.injEq];exact⟨by grind,by grind⟩
theorem So{a:Bool}{b:Nat}{R:Int}{A:NV}{q:Nat}{p o:Nat×Nat}(h:Aa a b p o=true):¬mb R (fk a b R A q p).q (fk a b R A q o).q<0:=by
 have:=A1 (R:=R) h;rw[mb,aE1,AZ,eS]
 split
 ·rename_i c;grind
 ·split<;>decide
theorem Sq{R:Int}(a:1<=R):0<nN R:=by
 rw[nN];have:(0:Int)<4*R*R:=Int.mul_pos (by omega) (by omega);exact Rat.intCast_pos.2 (by first|exact this|grind)
theorem aE8{b:Bool}{a:Nat}{R:Int}{A:NV}{q:Nat}(m:1<=R)(hq:q<=3)(hf:jA b a=true)(l:a<7){i j:Nat}{p o:Nat×Nat}(hi:(cC b a a)[i]?=some p)(d:(cC b a a)[j]?=some o):
 (fk b a R A ((q+2)% 4) p).q.add (fk b a R A q o).q=A.q.mul 2↔i=j:=by
 have hs:=G0 b a l hf;rw[db]at hs;obtain⟨i1,i2⟩:=b4.1 hi;obtain⟨f,g⟩:=b4.1 d;constructor
 ·intro h;have e:((eU b a R o).sub (eU b a R p)).dot ((eU b a R o).sub (eU b a R p))=0:=by
   rw[<-AZ _ q,<-AY];rw[ql,ql,G9 _ hq]at h;simp only[V2.add,V2.mul,V2.mk.injEq]at h;have e1:(de (eU b a R o) q).x-(de (eU b a R p) q).x=0:=by grind
   have e2:(de (eU b a R o) q).y-(de (eU b a R p) q).y=0:=by grind
   simp only[V2.sub,V2.dot,e1,e2]
   grind
  have k:((eU b a R p).sub (eU b a R o)).dot ((eU b a R p).sub (eU b a R o))=0:=by
   rw[<-e];simp only[V2.sub,V2.dot]
   grind
  have n:=Sq m;rcases Nat.lt_trichotomy i j with c|c|c
  ·have:=A1 (R:=R) (hs i j i1 f c);rw[i2,g,k]at this
   grind
  ·exact c
  ·have:=A1 (R:=R) (hs j i f i1 c);rw[i2,g,e]at this
   grind
 ·rintro rfl;rw[hi]at d;injection d with d
  subst d;rw[ql,ql,G9 _ hq];simp only[V2.add,V2.mul,V2.mk.injEq];exact⟨by grind,by grind⟩
theorem Sn(a:Bool)(b:Nat)(R:Int)(A:NV)(q:Nat)(h:dM a b 0=1):(fk a b R A q (0,0)).q=A.q:=by
 have hx:eU a b R (0,0)=⟨0,0⟩:=by
  rw[eU,h];simp only[Iz,V2.mk.injEq];exact⟨by simp,by simp⟩
 have c:∀k,de ⟨0,0⟩ k=⟨0,0⟩:=by
  intro k
  induction k with
  |zero=>rfl
  |succ k d=>rw[de,d];rfl
 rw[ql,hx,c];simp only[V2.add,Rat.add_zero]
def jK(i:Nat):List Nat:=98::aX (((i:Nat):Int):Rat)
theorem aCP:∀i,i<21->isName (jK i)=true:=by decide+kernel
theorem aCO:∀i,i<21->∀j,j<21->jK i=jK j->i=j:=by decide+kernel
def ky(l:List V2)(i:Nat):dQ:=⟨jK i,mg (l.getD i ⟨0,0⟩)⟩
def ma(l:List V2)(m:Nat):aF:=⟨[],0,[],(ce m).map (ky l)⟩
theorem Sr{t:aF}{l:List V2}(q:l.length<=21)(p:∀v∈l,dU (mg v)=0)(c:∀v∈l,0<=t.on v)(d:l.Pairwise (fun v w=>¬mb t.bF v w<0)):qg t (ma l l.length)=0:=by
 rw[db]at d;rw[qg,ma,if_neg (by simp;omega),oB];intro j b;simp only[b3,dp]at b;have e:=c6 b;have e1:((ce l.length).map (ky l))[j]?=some (ky l j):=by
  rw[b5,dl b];rfl
 have e2:((ce l.length).map (ky l)).take j=(ce j).map (ky l):=by
  rw[<-List.map_take,List.take_range,Nat.min_eq_left (by omega)]
 have e3:∀i,i<l.length->ky l i=⟨jK i,mg (l[i]?.getD ⟨0,0⟩)⟩:=fun i _=>by rw[ky,da]
 have e4:∀i(h:i<l.length),ky l i=⟨jK i,mg l[i]⟩:=fun i h=>by rw[e3 i h,b1 h];rfl
 rw[gK,e1,e2];simp only[iY,e4 j b,Q3];have f:((ce j).map (ky l)).any (fun o=>decide (o.name=jK j))=false:=by
  cases hq:((ce j).map (ky l)).any (fun o=>decide (o.name=jK j))
  ·rfl
  ·obtain⟨o,c,a⟩:=dz.1 hq;obtain⟨i,hi,rfl⟩:=cy.1 c;rw[c9]at hi;have:=aCO i (by omega) j (by omega) (of_decide_eq_true a);omega
 have g:((ce j).map (ky l)).any (fun o=>decide (mb t.bF (vP o.pt) l[j]<0))=false:=by
  cases hq:((ce j).map (ky l)).any (fun o=>decide (mb t.bF (vP o.pt) l[j]<0))
  ·rfl
  ·obtain⟨o,c,a⟩:=dz.1 hq;obtain⟨i,hi,rfl⟩:=cy.1 c;rw[c9]at hi;rw[e4 i (by omega)]at a;simp only[Q3]at a;exact absurd (of_decide_eq_true a) (d i j (by omega) b hi)
 have k:¬t.on l[j]<0:=by have:=c _ e;omega
 have m:=p _ e;have n:=aCP j (by omega);simp[f,g,k,m,n]
theorem G2{b:Bool}{a:Nat}{R:Int}{A:NV}{q i:Nat}{v:V2}(h:(bu b a R A q (cC b a a))[i]?=some v):∃p,(cC b a a)[i]?=some p/\v=(fk b a R A q p).q:=by
 rw[bu,b5]at h;obtain⟨p,c,d⟩:=Option.map_eq_some_iff.1 h;exact⟨p,c,d.symm⟩
theorem G1{dia:Bool}{rows:Nat}{R:Int}{A:NV}{q:Nat}(e:1<=R)(hq:q<=3)(hf:jA dia rows=true)(c:rows<7){i j:Nat}{v w:V2}(hi:(bu dia rows R A ((q+2)% 4) (cC dia rows rows))[i]?=some v)(d:(bu dia rows R A q (cC dia rows rows))[j]?=some w):
 v.add w=A.q.mul 2↔i=j:=by
 obtain⟨p,a,rfl⟩:=G2 hi;obtain⟨o,b,rfl⟩:=G2 d;exact aE8 e hq hf c a b
theorem xn{dia:Bool}{rows:Nat}{R:Int}{A:NV}{q:Nat}(hf:jA dia rows=true)(a:rows<7):(bu dia rows R A q (cC dia rows rows)).length=if dia then(rows+1)/2*((rows+1)/2)else rows*(rows+1)/2:=by
 rw[bu,b3];exact aE5 dia rows a hf
theorem A0{dia:Bool}{rows:Nat}{R:Int}{A:NV}{q:Nat}(a:rows<7):(bu dia rows R A q (cC dia rows rows)).length<=21:=by
 rw[bu,b3];exact Sm dia rows a
theorem Hf{dia:Bool}{rows:Nat}{R:Int}{A:NV}{q:Nat}(a:1<=rows)(b:rows<7):(bu dia rows R A q (cC dia rows rows))[0]?=some A.q:=by
 obtain⟨e1,e2⟩:=aE2 dia rows b a;rw[bu,b5,e1,Option.map_some,Sn dia rows R A q e2]
theorem Hc{t:aF}{dia:Bool}{rows:Nat}{A:NV}{q:Nat}(hf:jA dia rows=true)(a:rows<7)(c:∀v∈bu dia rows t.bF A q (cC dia rows rows),dU (mg v)=0)(b:dL t (bu dia rows t.bF A q (cC dia rows rows))=false):
 qg t (ma (bu dia rows t.bF A q (cC dia rows rows)) (bu dia rows t.bF A q (cC dia rows rows)).length)=0:=by
 refine Sr (A0 a) c (fun v d=>?_) ?_
 ·rw[dL,List.any_eq_false]at b;have:=b v d;simp only[decide_eq_true_eq]at this;omega
 ·have hs:=G0 dia rows a hf;rw[bu,List.pairwise_map];exact hs.imp (fun h=>So h)
theorem He{l:List V2}{i:Nat}{v:V2}(h:l[i]?=some v):(ma l l.length).az[i]?=some ⟨jK i,mg v⟩:=by
 have hi:=(b4.1 h).1;rw[ma,b5,dl hi,Option.map_some,ky,da,h];rfl
theorem Hd(l:List V2):(ma l l.length).az.length=l.length:=by rw[ma,b3,dp]
def aF.vc(t:aF)(j:Nat):V2:=(jP (t.at j)).sub (jP (t.at 0))
def aF.lf(t:aF)(u:V2)(i j:Nat):Rat:=(t.vc j).gZ u-(t.vc i).gZ u+(t.vc i).gZ (t.vc j)
@[simp high] theorem aHS(c:Bool)(H:Heap)(v w:V2):bG prog .neq 47 c H (.p (eV v)) (.p (eV w))=some (True,{v:=.p (.bool (!ln (aX v.x) (aX v.y) (aX w.x) (aX w.y)))}):=by
 rw[eV,eV,fM,fM];simp[bG]
theorem GZ{α:Type}{f:α->PV}(l:List α):ef (l.map (AV.p∘f))=some (l.map f):=by
 induction l with
 |nil=>rfl
 |cons a r b=>simp only[cv,Function.comp,ef,b]
theorem xo:∀i,i<21->gX (jK i):=by
 have:∀i,i<21->(jK i).length<=1048576/\(jK i).all (fun c=>decide (c<256))=true:=by decide+kernel
 intro i hi;obtain⟨a,b⟩:=this i hi;exact⟨a,fun c hc=>by simpa using(List.all_eq_true.1 b) c hc⟩
theorem n6'{P:Nat->Prop}{n:Nat}(c:1<=n)(d:n<=6)(h:P 1/\P 2/\P 3/\P 4/\P 5/\P 6):P n:=by
 obtain⟨a,a2,a3,a4,a5,b⟩:=h;rcases(show n=1\/n=2\/n=3\/n=4\/n=5\/n=6 by omega)with rfl|rfl|rfl|rfl|rfl|rfl<;>assumption
theorem Ss(ak:aw prog 11 [] (.bool true))(t:aF)(name:List Nat)(V q:Int)(F:kY t)(bk:name.length<=1048576):aw prog 6 [cA t,.str name,.st 28 [.int .i64 V,.int .i64 q]] (.bool true):=by
 have s0:=X9 t ⟨[],0,[],[]⟩ 0 6 F ⟨by simp,fun s h=>nomatch h⟩ (by decide) (by decide);rw[show(((6:Nat):Int))=6 from rfl,show(((0:Nat):Int))=0 from rfl]at s0;simp only[ck]at s0;have ae:=AU t name F.sl;rw[Gw]at ae;have aP:=GD [116,114,105,97,110,103,108,101] V q;rcases hf:wJ t ⟨[],0,[],[]⟩ 0 6 with _|_
 ·rw[hf]at s0;refine aI nf rN mix (by simp[f6]) ?_;simp[f6,aa];refine Go.aj.c4 s0 ?_;simp[aa];refine Go.aj.c0 ak ?_;simp[aa]
 rw[hf]at s0
 by_cases bi:40<name.length
 ·have ar:(40:Int)<name.length:=by omega
  refine aI nf rN mix (by simp[f6]) ?_;simp[f6,aa];refine Go.aj.c4 s0 ?_;simp[aa,ar];refine Go.aj.c0 ak ?_;simp[aa]
 have ar:¬(40:Int)<name.length:=by omega
 by_cases hk:ch t name<t.az.length
 case neg=>
  rw[jM,if_neg hk]at ae;refine aI nf rN mix (by simp[f6]) ?_;simp[f6,aa];refine Go.aj.c4 s0 ?_;simp[aa,ar];refine Go.aj.c2 ae ?_;simp[aa];refine Go.aj.c0 ak ?_;simp[aa]
 rw[jM,if_pos hk]at ae;have a1:¬(ch t name:Int)<0:=by omega
 by_cases hc:iI dF V q=0
 case neg=>
  simp only[dF]at hc;generalize iI [116,114,105,97,110,103,108,101] V q=C at*;refine aI nf rN mix (by simp[f6]) ?_;simp[f6,aa];refine Go.aj.c4 s0 ?_;simp[aa,ar];refine Go.aj.c2 ae ?_;simp[aa,a1];refine Go.aj.c2 aP ?_;simp[aa,hc];refine Go.aj.c0 ak ?_;simp[aa]
 simp only[dF]at hc;rw[hc]at aP;have bc:1<=V/\V<=6/\0<=q/\q<=3:=by
  rw[iI]at hc
  split at hc
  ·cases hc
  split at hc
  ·cases hc
  ·omega
 clear hc;obtain⟨n,rfl⟩:∃n:Nat,V=n:=⟨V.toNat,by omega⟩
 obtain⟨m,rfl⟩:∃m:Nat,q=m:=⟨q.toNat,by omega⟩
 obtain⟨bm,bn,_,bl⟩:=bc;have a9:jW t=true:=by
  simp only[wJ,Bool.and_eq_true]at hf;exact hf.1
 simp only[wJ,Bool.and_eq_true,decide_eq_true_eq]at hf;obtain⟨H,_⟩:=aCX (b:=⟨[],0,[],[]⟩) ⟨by simp,fun s h=>nomatch h⟩ hf.2.2.2.1;clear hf;obtain⟨ag,aB⟩:=uC H;have aY:=xg H hk;have aW:=aF.fx hk;have K:bW 133 (NV.from (t.sp (ch t name)).pt).q:=A3 (Gj a9 _ (b2 aW) aY);have q0:=FK t F.cl F.pl F.sl;have aV:=(uI aY).1;have af:(NV.from (t.sp (ch t name)).pt).q=vP (t.sp (ch t name)).pt:=Dr _;obtain⟨A,a8⟩:∃A,A=vP (t.sp (ch t name)).pt:=⟨_,rfl⟩
 rw[<-a8]at aV af;have bd:bW 133 A:=by rw[<-af];exact K
 have az:bo.wrap 1=1:=by decide
 have ah:bo.wrap 2=2:=by decide
 have bj:(1000000:Nat)<cO:=by decide
 have bf:aX 2=[50]:=by decide+kernel
 have kS:=Rn A 2 (bd.mono (by decide)) ((show bE 3 (2:Rat)from⟨by decide+kernel,by decide+kernel⟩).mono (by decide));rw[bf]at kS;have U:∀(P:Nat->Prop),P 1/\P 2/\P 3/\P 4/\P 5/\P 6->P n:=fun P h=>n6' (by omega) (by omega) h;have a2:bo.wrap ((n:Int)+1)=(n:Int)+1:=aK _ (by omega) (by omega);have a3:bo.wrap ((n:Int)*((n:Int)+1))=(n:Int)*((n:Int)+1):=U (fun n=>bo.wrap ((n:Int)*((n:Int)+1))=(n:Int)*((n:Int)+1)) (by decide+kernel);have a4:bo.wrap ((m:Int)+2)=(m:Int)+2:=aK _ (by omega) (by omega);obtain⟨S,a0⟩:∃S,(m+2)% 4=S:=⟨_,rfl⟩
 have wr:((m:Int)+2).tmod 4=S:=by rw[bv (by omega)];omega
 have a6:((m:Int)+2)% 4=S:=by omega
 have a5:bo.wrap (S:Int)=S:=aK _ (by omega) (by omega);refine aI nf rN mix (by simp[f6]) ?_;simp[f6,aa];refine Go.aj.c4 s0 ?_;simp[aa,ar];refine Go.aj.c2 ae ?_;simp[aa,a1];refine Go.aj.c2 aP ?_;simp[aa];refine Go.aj.e2 ae ?_;simp[aa,aW,<-aV];refine⟨by repeat' first|rfl|apply And.intro,?_⟩;refine lp (α:=Nat) (fun i=>⟨[(53,.p (.int .i64 i)),(52,.p (.int .i64 2)),(51,.sl 3 0 1 0 2),(7,.ptr 2 []),(5,.ptr 1 []),(3,.ptr 0 []),(1,.p (.str name))],[.box false (.p (cA t)),.box false (.p (.st 28 [.int .i64 n,.int .i64 m])),.box false (.p (eV A)),.arr .exact 0 1 [.p (.str [116,114,105,97,110,103,108,101]),.p (.str [100,105,97,109,111,110,100])]]⟩) (fun i=>i<=2) (fun i=>2-i) 0 (by simp) ?_;intro i bh;rcases(show i=0\/i=1\/i=2 by omega)with rfl|rfl|rfl
 ·skip
  have Q:True:=trivial;have B:jA false n=true:=rfl;have z:=AW t name n m F H hk (by omega) (by omega) B (by omega) K;have E:=AW t name n ((m+2)% 4) F H hk (by omega) (by omega) B (by omega) K;rw[show jY false=[116,114,105,97,110,103,108,101]from rfl]at z E;have ab:=xn (dia:=false) (rows:=n) (R:=t.bF) (A:=.from (t.sp (ch t name)).pt) (q:=m) B (by omega);have ax:=xn (dia:=false) (rows:=n) (R:=t.bF) (A:=.from (t.sp (ch t name)).pt) (q:=(m+2)% 4) B (by omega);have ac:=Hf (dia:=false) (rows:=n) (R:=t.bF) (A:=.from (t.sp (ch t name)).pt) (q:=m) (by omega) (by omega);have ad:=fun i j v w=>G1 (dia:=false) (rows:=n) (R:=t.bF) (A:=.from (t.sp (ch t name)).pt) (q:=m) (i:=i) (j:=j) (v:=v) (w:=w) ag (by omega) B (by omega);have G:=uK (t:=t) (dia:=false) (rows:=n) (q:=m) ag aB K (by omega);have N:=uK (t:=t) (dia:=false) (rows:=n) (q:=(m+2)% 4) ag aB K (by omega);have be:=A0 (dia:=false) (rows:=n) (R:=t.bF) (A:=.from (t.sp (ch t name)).pt) (q:=m) (by omega);have O:=fun h=>Hc (t:=t) (dia:=false) (rows:=n) (A:=.from (t.sp (ch t name)).pt) (q:=m) B (by omega) (fun v d=>(ov (G v d) (by decide)).2) h;simp only[a0]at E ax ad N;rw[af]at ac;simp only[af]at ad;generalize bu false n t.bF (.from (t.sp (ch t name)).pt) m (cC false n n)=l at*;generalize bu false n t.bF (.from (t.sp (ch t name)).pt) S (cC false n n)=o at*
  by_cases Z:dL t l=true
  case pos=>
   rw[if_pos Z]at z;simp[aa];refine Go.aj.e1 q0 ?_;simp[aa];refine Go.aj.e4 z ?_;simp[aa,Q];exact rd 1 (by omega) (he:=by simp[az])
  rw[if_neg Z]at z;have O:=O (by simpa using Z);obtain⟨c,hc⟩:∃c:Nat,c=n*(n+1)/2:=⟨_,rfl⟩
  rw[if_neg (by simp),<-hc]at ab ax;have aQ:bo.wrap ((n:Int)*((n:Int)+1)/2)=c:=by rw[hc];exact U (fun n=>bo.wrap ((n:Int)*((n:Int)+1)/2)=(((n*(n+1)/2:Nat)):Int)) (by decide+kernel)
  have aR:bo.wrap (((n:Int)*((n:Int)+1)).tdiv 2)=c:=by rw[hc];exact U (fun n=>bo.wrap (((n:Int)*((n:Int)+1)).tdiv 2)=(((n*(n+1)/2:Nat)):Int)) (by decide+kernel)
  have aS:True:=trivial;have aT:True:=trivial;have aU:True:=trivial;have bg:True:=trivial;have ba:0<c:=by rw[<-ab];exact(b4.1 ac).1
  have g:=Hd l;have ay:=fun(i:Nat)(v:V2)=>He (l:=l) (i:=i) (v:=v);have kB:=AG t (ma l l.length) H ⟨by rw[g];omega,fun s hs=>by
   obtain⟨i,hi,rfl⟩:=dk.1 hs;have am:i<l.length:=by rw[g]at hi;exact hi
   have al:=ay i l[i] (b1 am);rw[b1 hi]at al;rw[Option.some.inj al];exact⟨xo i (by omega),(ov (G _ (c6 am)) (by decide)).1⟩⟩ F.cl
  rw[O]at kB;clear O;generalize (ma l l.length).az=e at*;rw[ab]at g;have au:(l.length:Int)=c:=by omega
  have av:(o.length:Int)=c:=by omega
  have aM:∀v∈l,aw prog 31 [eV v] (.int .i64 0):=fun v d=>by
   obtain⟨a,b⟩:=ov (G v d) (by decide);have:=sx _ a;rw[b]at this;exact this
  have aO:∀v∈o,aw prog 31 [eV v] (.int .i64 0):=fun v d=>by
   obtain⟨a,b⟩:=ov (N v d) (by decide);have:=sx _ a;rw[b]at this;exact this
  have aN:∀v∈o,∀w∈l,aw prog 35 [eV v,eV w] (eV (v.add w)):=fun v d w D=>Ar v w ((N v d).mono (by decide)) ((G w D).mono (by decide));clear G N;simp[aa];refine Go.aj.e1 q0 ?_;simp[aa];refine Go.aj.e4 z ?_;simp[-bG,bG.eq_1,bG.eq_2,bG.eq_3,aa,ze,Q,a2,a3,aQ,aS,aR,aT,aU,au,ac];refine lp (α:=Nat) (fun k=>⟨[(111,.p (.int .i64 k)),(110,.p (.int .i64 c)),(109,.p (.seq (l.map eV))),(13,.sl 4 k 3 0 k),(12,.p (.int .i64 c)),(10,.p (.seq (l.map eV))),(9,.p (.str [116,114,105,97,110,103,108,101])),(53,.p (.int .i64 0)),(52,.p (.int .i64 2)),(51,.sl 3 0 1 0 2),(7,.ptr 2 []),(5,.ptr 1 []),(3,.ptr 0 []),(1,.p (.str name))],[.box false (.p (cA t)),.box false (.p (.st 28 [.int .i64 n,.int .i64 m])),.box false (.p (eV A)),.arr .exact 0 1 [.p (.str [116,114,105,97,110,103,108,101]),.p (.str [100,105,97,109,111,110,100])],.arr .grow k 3 ((e.map (AV.p∘cr)).take k)]⟩) (fun k=>k<=c) (fun k=>c-k) 0 (by simp) ?_;intro k aj
  by_cases r:k<c
  ·obtain⟨v,d⟩:∃v,l[k]?=some v:=⟨_,b1 (by omega)⟩
   have aD:=ay k v d;have I:=aM v (b2 d);have J:=tM k (by omega) (by omega);have D:=bX (i:=k) (by omega);have ao:min k c=k:=by omega
   have aG:=(xo k (by omega)).1;rw[jK,dq]at aG;have aL:(e.map (AV.p∘cr)).take (k+1)=(e.map (AV.p∘cr)).take k++[.p (.st 48 [.str (98::aX (((k:Nat):Int):Rat)),eV v])]:=by
    rw[cx,b5,aD];rfl
   have Y:(k:Int)<c:=by omega
   simp[r,Y,d,g,ao,aa];refine Go.aj.c1 I ?_;simp[aa];refine Go.aj.e1 J ?_;simp[D,ao,g,aa];refine⟨by omega,by omega,by rfl,?_⟩;exact rd (k+1) r (hh:=by simp[aL]) (hr2:=by simp[jz])
  obtain rfl:c=k:=by omega
  clear aj r;have aH:dg c (cb (AV.p∘cr) e)=cb (AV.p∘cr) e:=cc (by rw[b3];omega);have aJ:dg c (cb cr e)=cb cr e:=cc (by rw[b3];omega);have aC:=GZ (f:=cr) e;have aE:e≠[]:=by intro h;rw[h]at g;simp at g;omega
  rw[aH];simp[aa];refine cp kB (by simp[aC,aE,g,aJ];first|exact⟨rfl,rfl⟩|rfl) ?_;simp[aa];refine Go.aj.e1 q0 ?_;simp[aa,a4,wr,a6,a5]
  by_cases ap:dL t o=true
  case pos=>
   rw[if_pos ap]at E;refine Go.aj.e4 E ?_;simp[aa];exact rd 1 (by omega) (he:=by simp[az])
  rw[if_neg ap]at E;refine Go.aj.e4 E ?_;simp[aa,av];refine lp (α:=Nat) (fun k=>⟨[(151,.p (.int .i64 k)),(150,.p (.int .i64 c)),(149,.p (.seq (o.map eV))),(18,.p (.int .i64 k)),(16,.p (.seq (o.map eV))),(12,.p (.int .i64 c)),(10,.p (.seq (l.map eV))),(53,.p (.int .i64 0)),(52,.p (.int .i64 2)),(51,.sl 3 0 1 0 2),(7,.ptr 2 []),(5,.ptr 1 []),(3,.ptr 0 []),(1,.p (.str name))],[.box false (.p (cA t)),.box false (.p (.st 28 [.int .i64 n,.int .i64 m])),.box false (.p (eV A)),.arr .exact 0 1 [.p (.str [116,114,105,97,110,103,108,101]),.p (.str [100,105,97,109,111,110,100])],.arr .frozen c 3 (cb (AV.p∘cr) e)]⟩) (fun k=>k<=c) (fun k=>c-k) 0 (by simp) ?_;intro k aj
  by_cases r:k<c
  ·obtain⟨v,d⟩:∃v,o[k]?=some v:=⟨_,b1 (by omega)⟩
   have I:=aO v (b2 d);have Y:(k:Int)<c:=by omega
   have D:=bX (i:=k) (by omega);simp[r,Y,d,au,aa];refine lp (α:=Nat) (fun j=>⟨[(157,.p (.int .i64 j)),(156,.p (.int .i64 c)),(155,.p (.seq (l.map eV))),(151,.p (.int .i64 k)),(150,.p (.int .i64 c)),(149,.p (.seq (o.map eV))),(20,.ptr 5 []),(18,.p (.int .i64 ((k:Int)+(if k<j then 1 else 0)))),(16,.p (.seq (o.map eV))),(12,.p (.int .i64 c)),(10,.p (.seq (l.map eV))),(53,.p (.int .i64 0)),(52,.p (.int .i64 2)),(51,.sl 3 0 1 0 2),(7,.ptr 2 []),(5,.ptr 1 []),(3,.ptr 0 []),(1,.p (.str name))],[.box false (.p (cA t)),.box false (.p (.st 28 [.int .i64 n,.int .i64 m])),.box false (.p (eV A)),.arr .exact 0 1 [.p (.str [116,114,105,97,110,103,108,101]),.p (.str [100,105,97,109,111,110,100])],.arr .frozen c 3 (cb (AV.p∘cr) e),.box false (.p (eV v))]⟩) (fun j=>j<=c) (fun j=>c-j) 0 (by simp) ?_;intro j a7
   by_cases L:j<c
   ·obtain⟨u,M⟩:∃u,l[j]?=some u:=⟨_,b1 (by omega)⟩
    have J:=aN v (b2 d) u (b2 M);have ai:=ad k j v u d M;have X:(j:Int)<c:=by omega
    have aq:=bX (i:=j) (by omega)
    by_cases an:k=j
    ·have W:=ai.2 an;have e1:¬k<j:=by omega
     have e2:k<j+1:=by omega
     simp[-bG,bG.eq_1,bG.eq_2,bG.eq_3,L,X,M,e1,aa];refine Go.aj.e1 I ?_;simp[-bG,bG.eq_1,bG.eq_2,bG.eq_3,aa];refine Go.aj.e2 J ?_;simp[-bG,bG.eq_1,bG.eq_2,bG.eq_3,aa];refine Go.aj.e2 kS ?_;simp[-bG,bG.eq_1,bG.eq_2,bG.eq_3,aa,W,ze,D,aq];exact rd (j+1) L (he:=by simp[e2])
    ·have W:ln (aX (v.add u).x) (aX (v.add u).y) (aX (A.mul 2).x) (aX (A.mul 2).y)=false:=Fb (fun h=>an (ai.1 h));have e1:(if k<j+1 then(1:Int)else 0)=(if k<j then 1 else 0):=by
      by_cases c1:k<j
      ·rw[if_pos c1,if_pos (by omega)]
      ·rw[if_neg c1,if_neg (by omega)]
     simp[-bG,bG.eq_1,bG.eq_2,bG.eq_3,L,X,M,aa];refine Go.aj.e1 I ?_;simp[-bG,bG.eq_1,bG.eq_2,bG.eq_3,aa];refine Go.aj.e2 J ?_;simp[-bG,bG.eq_1,bG.eq_2,bG.eq_3,aa];refine Go.aj.e2 kS ?_;simp[-bG,bG.eq_1,bG.eq_2,bG.eq_3,aa,W,aq];exact rd (j+1) L (he:=by simp only[e1];simp)
   obtain rfl:c=j:=by omega
   have X:¬(c:Int)<c:=by omega
   simp[r,D,aa];exact rd (k+1) r (he:=by simp)
  obtain rfl:c=k:=by omega
  simp[aa,av,az,ah];exact rd 1 (by omega) (he:=by simp[az])
 ·skip
  by_cases bb:n% 2=1
  case neg=>
   have Q:(n:Int).tmod 2=0:=by rw[bv (by omega)];omega
   have z:=GY t name dB n m F (by rw[mu,if_pos H,if_pos hk,iI,if_neg (by simp),if_pos (.inr (.inr (.inl ⟨rfl,Q⟩)))];decide);rw[mu,if_pos H,if_pos hk,iI,if_neg (by simp),if_pos (.inr (.inr (.inl ⟨rfl,Q⟩)))]at z;simp only[dB]at z;simp[aa];refine Go.aj.e1 q0 ?_;simp[aa];refine Go.aj.e4 z ?_;simp[aa,Q];exact rd 2 (by omega) (he:=by simp[ah])
  have Q:¬(n:Int).tmod 2=0:=by rw[bv (by omega)];omega
  have B:jA true n=true:=by simp[jA,bb]
  have z:=AX t name n m F H hk (by omega) (by omega) B (by omega) K;have E:=AX t name n ((m+2)% 4) F H hk (by omega) (by omega) B (by omega) K;rw[show jY true=[100,105,97,109,111,110,100]from rfl]at z E;have ab:=xn (dia:=true) (rows:=n) (R:=t.bF) (A:=.from (t.sp (ch t name)).pt) (q:=m) B (by omega);have ax:=xn (dia:=true) (rows:=n) (R:=t.bF) (A:=.from (t.sp (ch t name)).pt) (q:=(m+2)% 4) B (by omega);have ac:=Hf (dia:=true) (rows:=n) (R:=t.bF) (A:=.from (t.sp (ch t name)).pt) (q:=m) (by omega) (by omega);have ad:=fun i j v w=>G1 (dia:=true) (rows:=n) (R:=t.bF) (A:=.from (t.sp (ch t name)).pt) (q:=m) (i:=i) (j:=j) (v:=v) (w:=w) ag (by omega) B (by omega);have G:=uK (t:=t) (dia:=true) (rows:=n) (q:=m) ag aB K (by omega);have N:=uK (t:=t) (dia:=true) (rows:=n) (q:=(m+2)% 4) ag aB K (by omega);have be:=A0 (dia:=true) (rows:=n) (R:=t.bF) (A:=.from (t.sp (ch t name)).pt) (q:=m) (by omega);have O:=fun h=>Hc (t:=t) (dia:=true) (rows:=n) (A:=.from (t.sp (ch t name)).pt) (q:=m) B (by omega) (fun v d=>(ov (G v d) (by decide)).2) h;simp only[a0]at E ax ad N;rw[af]at ac;simp only[af]at ad;generalize bu true n t.bF (.from (t.sp (ch t name)).pt) m (cC true n n)=l at*;generalize bu true n t.bF (.from (t.sp (ch t name)).pt) S (cC true n n)=o at*
  by_cases Z:dL t l=true
  case pos=>
   rw[if_pos Z]at z;simp[aa];refine Go.aj.e1 q0 ?_;simp[aa];refine Go.aj.e4 z ?_;simp[aa,Q];exact rd 2 (by omega) (he:=by simp[ah])
  rw[if_neg Z]at z;have O:=O (by simpa using Z);obtain⟨h,aA⟩:∃h:Nat,h=(n+1)/2:=⟨_,rfl⟩
  obtain⟨T,aZ⟩:∃T:Nat,T=n*(n+1)/2:=⟨_,rfl⟩
  obtain⟨c,hc⟩:∃c:Nat,c=h*h:=⟨_,rfl⟩
  rw[if_pos (by simp),<-aA,<-hc]at ab ax;have aQ:bo.wrap ((n:Int)*((n:Int)+1)/2)=T:=by rw[aZ];exact U (fun n=>bo.wrap ((n:Int)*((n:Int)+1)/2)=(((n*(n+1)/2:Nat)):Int)) (by decide+kernel)
  have aR:bo.wrap (((n:Int)*((n:Int)+1)).tdiv 2)=T:=by rw[aZ];exact U (fun n=>bo.wrap (((n:Int)*((n:Int)+1)).tdiv 2)=(((n*(n+1)/2:Nat)):Int)) (by decide+kernel)
  have aS:bo.wrap (((n:Int)+1)/2)=h:=by rw[aA];exact U (fun n=>bo.wrap (((n:Int)+1)/2)=(((n+1)/2:Nat):Int)) (by decide+kernel)
  have aT:bo.wrap (((n:Int)+1).tdiv 2)=h:=by rw[aA];exact U (fun n=>bo.wrap (((n:Int)+1).tdiv 2)=(((n+1)/2:Nat):Int)) (by decide+kernel)
  have aU:bo.wrap ((h:Int)*(h:Int))=c:=by rw[hc,aA];exact U (fun n=>bo.wrap ((((n+1)/2:Nat):Int)*(((n+1)/2:Nat):Int))=(((n+1)/2*((n+1)/2):Nat):Int)) (by decide+kernel)
  have bg:True:=trivial;have ba:0<c:=by rw[<-ab];exact(b4.1 ac).1
  have g:=Hd l;have ay:=fun(i:Nat)(v:V2)=>He (l:=l) (i:=i) (v:=v);have kB:=AG t (ma l l.length) H ⟨by rw[g];omega,fun s hs=>by
   obtain⟨i,hi,rfl⟩:=dk.1 hs;have am:i<l.length:=by rw[g]at hi;exact hi
   have al:=ay i l[i] (b1 am);rw[b1 hi]at al;rw[Option.some.inj al];exact⟨xo i (by omega),(ov (G _ (c6 am)) (by decide)).1⟩⟩ F.cl
  rw[O]at kB;clear O;generalize (ma l l.length).az=e at*;rw[ab]at g;have au:(l.length:Int)=c:=by omega
  have av:(o.length:Int)=c:=by omega
  have aM:∀v∈l,aw prog 31 [eV v] (.int .i64 0):=fun v d=>by
   obtain⟨a,b⟩:=ov (G v d) (by decide);have:=sx _ a;rw[b]at this;exact this
  have aO:∀v∈o,aw prog 31 [eV v] (.int .i64 0):=fun v d=>by
   obtain⟨a,b⟩:=ov (N v d) (by decide);have:=sx _ a;rw[b]at this;exact this
  have aN:∀v∈o,∀w∈l,aw prog 35 [eV v,eV w] (eV (v.add w)):=fun v d w D=>Ar v w ((N v d).mono (by decide)) ((G w D).mono (by decide));clear G N;simp[aa];refine Go.aj.e1 q0 ?_;simp[aa];refine Go.aj.e4 z ?_;simp[-bG,bG.eq_1,bG.eq_2,bG.eq_3,aa,ze,Q,a2,a3,aQ,aS,aR,aT,aU,au,ac];refine lp (α:=Nat) (fun k=>⟨[(111,.p (.int .i64 k)),(110,.p (.int .i64 c)),(109,.p (.seq (l.map eV))),(13,.sl 4 k 3 0 k),(12,.p (.int .i64 c)),(10,.p (.seq (l.map eV))),(9,.p (.str [100,105,97,109,111,110,100])),(53,.p (.int .i64 1)),(52,.p (.int .i64 2)),(51,.sl 3 0 1 0 2),(7,.ptr 2 []),(5,.ptr 1 []),(3,.ptr 0 []),(1,.p (.str name))],[.box false (.p (cA t)),.box false (.p (.st 28 [.int .i64 n,.int .i64 m])),.box false (.p (eV A)),.arr .exact 0 1 [.p (.str [116,114,105,97,110,103,108,101]),.p (.str [100,105,97,109,111,110,100])],.arr .grow k 3 ((e.map (AV.p∘cr)).take k)]⟩) (fun k=>k<=c) (fun k=>c-k) 0 (by simp) ?_;intro k aj
  by_cases r:k<c
  ·obtain⟨v,d⟩:∃v,l[k]?=some v:=⟨_,b1 (by omega)⟩
   have aD:=ay k v d;have I:=aM v (b2 d);have J:=tM k (by omega) (by omega);have D:=bX (i:=k) (by omega);have ao:min k c=k:=by omega
   have aG:=(xo k (by omega)).1;rw[jK,dq]at aG;have aL:(e.map (AV.p∘cr)).take (k+1)=(e.map (AV.p∘cr)).take k++[.p (.st 48 [.str (98::aX (((k:Nat):Int):Rat)),eV v])]:=by
    rw[cx,b5,aD];rfl
   have Y:(k:Int)<c:=by omega
   simp[r,Y,d,g,ao,aa];refine Go.aj.c1 I ?_;simp[aa];refine Go.aj.e1 J ?_;simp[D,ao,g,aa];refine⟨by omega,by omega,by rfl,?_⟩;exact rd (k+1) r (hh:=by simp[aL]) (hr2:=by simp[jz])
  obtain rfl:c=k:=by omega
  clear aj r;have aH:dg c (cb (AV.p∘cr) e)=cb (AV.p∘cr) e:=cc (by rw[b3];omega);have aJ:dg c (cb cr e)=cb cr e:=cc (by rw[b3];omega);have aC:=GZ (f:=cr) e;have aE:e≠[]:=by intro h;rw[h]at g;simp at g;omega
  rw[aH];simp[aa];refine cp kB (by simp[aC,aE,g,aJ];first|exact⟨rfl,rfl⟩|rfl) ?_;simp[aa];refine Go.aj.e1 q0 ?_;simp[aa,a4,wr,a6,a5]
  by_cases ap:dL t o=true
  case pos=>
   rw[if_pos ap]at E;refine Go.aj.e4 E ?_;simp[aa];exact rd 2 (by omega) (he:=by simp[ah])
  rw[if_neg ap]at E;refine Go.aj.e4 E ?_;simp[aa,av];refine lp (α:=Nat) (fun k=>⟨[(151,.p (.int .i64 k)),(150,.p (.int .i64 c)),(149,.p (.seq (o.map eV))),(18,.p (.int .i64 k)),(16,.p (.seq (o.map eV))),(12,.p (.int .i64 c)),(10,.p (.seq (l.map eV))),(53,.p (.int .i64 1)),(52,.p (.int .i64 2)),(51,.sl 3 0 1 0 2),(7,.ptr 2 []),(5,.ptr 1 []),(3,.ptr 0 []),(1,.p (.str name))],[.box false (.p (cA t)),.box false (.p (.st 28 [.int .i64 n,.int .i64 m])),.box false (.p (eV A)),.arr .exact 0 1 [.p (.str [116,114,105,97,110,103,108,101]),.p (.str [100,105,97,109,111,110,100])],.arr .frozen c 3 (cb (AV.p∘cr) e)]⟩) (fun k=>k<=c) (fun k=>c-k) 0 (by simp) ?_;intro k aj
  by_cases r:k<c
  ·obtain⟨v,d⟩:∃v,o[k]?=some v:=⟨_,b1 (by omega)⟩
   have I:=aO v (b2 d);have Y:(k:Int)<c:=by omega
   have D:=bX (i:=k) (by omega);simp[r,Y,d,au,aa];refine lp (α:=Nat) (fun j=>⟨[(157,.p (.int .i64 j)),(156,.p (.int .i64 c)),(155,.p (.seq (l.map eV))),(151,.p (.int .i64 k)),(150,.p (.int .i64 c)),(149,.p (.seq (o.map eV))),(20,.ptr 5 []),(18,.p (.int .i64 ((k:Int)+(if k<j then 1 else 0)))),(16,.p (.seq (o.map eV))),(12,.p (.int .i64 c)),(10,.p (.seq (l.map eV))),(53,.p (.int .i64 1)),(52,.p (.int .i64 2)),(51,.sl 3 0 1 0 2),(7,.ptr 2 []),(5,.ptr 1 []),(3,.ptr 0 []),(1,.p (.str name))],[.box false (.p (cA t)),.box false (.p (.st 28 [.int .i64 n,.int .i64 m])),.box false (.p (eV A)),.arr .exact 0 1 [.p (.str [116,114,105,97,110,103,108,101]),.p (.str [100,105,97,109,111,110,100])],.arr .frozen c 3 (cb (AV.p∘cr) e),.box false (.p (eV v))]⟩) (fun j=>j<=c) (fun j=>c-j) 0 (by simp) ?_;intro j a7
   by_cases L:j<c
   ·obtain⟨u,M⟩:∃u,l[j]?=some u:=⟨_,b1 (by omega)⟩
    have J:=aN v (b2 d) u (b2 M);have ai:=ad k j v u d M;have X:(j:Int)<c:=by omega
    have aq:=bX (i:=j) (by omega)
    by_cases an:k=j
    ·have W:=ai.2 an;have e1:¬k<j:=by omega
     have e2:k<j+1:=by omega
     simp[-bG,bG.eq_1,bG.eq_2,bG.eq_3,L,X,M,e1,aa];refine Go.aj.e1 I ?_;simp[-bG,bG.eq_1,bG.eq_2,bG.eq_3,aa];refine Go.aj.e2 J ?_;simp[-bG,bG.eq_1,bG.eq_2,bG.eq_3,aa];refine Go.aj.e2 kS ?_;simp[-bG,bG.eq_1,bG.eq_2,bG.eq_3,aa,W,ze,D,aq];exact rd (j+1) L (he:=by simp[e2])
    ·have W:ln (aX (v.add u).x) (aX (v.add u).y) (aX (A.mul 2).x) (aX (A.mul 2).y)=false:=Fb (fun h=>an (ai.1 h));have e1:(if k<j+1 then(1:Int)else 0)=(if k<j then 1 else 0):=by
      by_cases c1:k<j
      ·rw[if_pos c1,if_pos (by omega)]
      ·rw[if_neg c1,if_neg (by omega)]
     simp[-bG,bG.eq_1,bG.eq_2,bG.eq_3,L,X,M,aa];refine Go.aj.e1 I ?_;simp[-bG,bG.eq_1,bG.eq_2,bG.eq_3,aa];refine Go.aj.e2 J ?_;simp[-bG,bG.eq_1,bG.eq_2,bG.eq_3,aa];refine Go.aj.e2 kS ?_;simp[-bG,bG.eq_1,bG.eq_2,bG.eq_3,aa,W,aq];exact rd (j+1) L (he:=by simp only[e1];simp)
   obtain rfl:c=j:=by omega
   have X:¬(c:Int)<c:=by omega
   simp[r,D,aa];exact rd (k+1) r (he:=by simp)
  obtain rfl:c=k:=by omega
  simp[aa,av,az,ah];exact rd 2 (by omega) (he:=by simp[ah])
 ·simp[aa];refine Go.aj.c0 ak ?_;simp[aa]
end Go.aj
