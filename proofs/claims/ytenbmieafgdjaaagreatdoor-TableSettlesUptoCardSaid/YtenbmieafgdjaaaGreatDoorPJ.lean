import Derived.Test.YtenbmieafgdjaaaGreatDoorPI
import Derived.Test.YtenbmieafgdjaaaGreatDoorPH
import Derived.Test.YtenbmieafgdjaaaGreatDoorPG
/- Parts of a proof. -/
set_option linter.unusedSimpArgs false
set_option linter.unusedVariables false
set_option linter.unusedSectionVars false
open Go.Proofs.Tryz
open Bool renaming false_eq_true->a9, and_eq_true->bb
open Go.IntKind renaming i64->be
open Int renaming natAbs_natCast->bi, ofNat_natAbs_of_nonpos->bk, natCast_nonneg->bl, natAbs_mul->bo, tdiv_eq_ediv_of_nonneg->bv, mul_ediv_cancel_left->b0, natAbs_neg->b1, ofNat_dvd_left->b2, natCast_ediv->b3, tmod_eq_emod_of_nonneg->b4, natAbs_of_nonneg->b5, natCast_emod->cb, mul_nonneg->cc
open List renaming getElem?_eq_getElem->ce, take_of_length_le->ck, all_eq_true->cv, length_take->cx, getElem_mem->cy, take->cA, length_pos_iff->cB, length_drop->cC, length->cN, getElem_of_eq->c6, take_length->c9, take_take->da, mem_cons->db, map_take->dg
open Nat renaming lt_of_lt_of_le->dk, le_trans->dl, pow_le_pow_right->dp, lt_of_le_of_lt->dq, gcd_pos_of_pos_right->dz, zero_le->ea, pow_succ->eb, lt_or_ge->ec, mul_lt_mul''->ed, gcd_le_right->ee, gcd_dvd_left->ei, div_le_self->ej, gcd->em, div_div_eq_div_mul->en, pow_mul->eo, pow_add->eq, le_refl->ew, div_pos->e6, min_eq_left->e7, pow_zero->e8, pow_pos->e9, pow_one->fb, div_one->fd
open Rat renaming divInt->fl, neg_divInt_neg->fm, num_intCast->fv, den_intCast->fN, neg_num->gb, not_le->gc
namespace Go.au
open Go.Proofs
set_option maxHeartbeats 4000000
set_option maxRecDepth 100000
theorem WD{s:List Nat}{i:Nat}(h:i<s.length):aX (s.take (i+1))=aX (s.take i)*10+(s[i]-48):=by
 rw[List.take_succ_eq_append_getElem h,yQ]
theorem vX{s:List Nat}{p:Nat->Bool}(h:s.all p=true)(i:Nat):(s.take i).all p=true:=by
 rw[cv]at h⊢;intro x hx;exact h x (List.mem_of_mem_take hx)
theorem MH{s:List Nat}{p:Nat->Bool}(h:s.all p=true)(i:Nat):(s.drop i).all p=true:=by
 rw[cv]at h⊢;intro x hx;exact h x (List.mem_of_mem_drop hx)
theorem zG{c:Nat}(h:cj c=true):48<=c/\c<=57:=by
 simpa[cj]using h
theorem zx(s:List Nat)(e:s.all cj=true)(B:s.length<=18):aC prog 196 [.str s] (.int .i64 (aX s:Nat)):=by
 refine aM nf GK mix (by simp[f196]) ?_;obtain⟨L,g⟩:∃L,L=s.length:=⟨_,rfl⟩
 have k:aX (s.take L)=aX s:=by rw[g,c9]
 rw[<-k];obtain⟨v,b⟩:∃v:Nat->Nat,∀i,aX (s.take i)=v i:=⟨_,fun _=>rfl⟩
 have o:v 0=0:=by rw[<-b];rfl
 have q:∀i(h:i<s.length),v (i+1)=v i*10+(s[i]-48):=fun i h=>by rw[<-b,<-b,WD h]
 have f:∀i,i<=L->v i<10^i:=fun i hi=>by
  rw[<-b];exact ju i _ (by rw[cx];omega) (vX e i)
 rw[b];simp[f196];refine lp (α:=Nat) (fun i=>⟨[(4,.p (.int .i64 i)),(3,.p (.int .i64 (v i:Nat))),(0,.p (.str s))],[]⟩)
  (fun i=>i<=L) (fun i=>L-i) 0 (ea _) ?_ (he:=by simp[o])
 intro i hi
 by_cases m:i<L
 ·have a:i<s.length:=by omega
  have j:=f i hi;have A:=f (i+1) m;have hc:=zG (cv.1 e s[i] (cy a));have hs:=q i a;have n:10^i<=10^17:=dp (by decide) (by omega);have z:v i<100000000000000000:=dk j (by exact n);generalize d:s[i]=c at*;generalize C:v i=x at*;have r:be.wrap (10*(x:Int))=10*(x:Int):=aO _ (by omega) (by omega);have t:be.wrap (10*(x:Int)+c)=10*(x:Int)+c:=aO _ (by omega) (by omega);have u:be.wrap (10*(x:Int)+c-48)=(v (i+1):Nat):=by rw[hs,aO _ (by omega) (by omega)];omega
  have w:be.wrap ((i:Int)+1)=(i:Int)+1:=aO _ (by omega) (by omega);have y:be.wrap (c:Int)=c:=aO _ (by omega) (by omega);have l:s[i]?=some c:=by rw[ce a,d]
  simp[a,d,l,r,t,u,w,y];exact rd (i+1) (show i+1<=L by omega)
 ·have a:¬i<s.length:=by omega
  have:i=L:=by omega
  subst this;simp[a]
theorem Ny(c:Nat):∀s:List Nat,c∉(b7 c s).1
 |[]=>by simp[b7]
 |x::r=>by
  rw[b7]
  split
  ·simp
  ·rename_i h;simp only[db,not_or];exact⟨fun e=>h e.symm,Ny c r⟩
theorem wJ(s:List Nat)(x:s.length<=1048576):aC prog 94 [.str s] (.int .i64 ((b7 47 s).1.length:Nat)):=by
 refine aM nf Rb mix (by simp[f94]) ?_;obtain⟨k,hk⟩:∃k,(b7 47 s).1.length=k:=⟨_,rfl⟩
 have t:=Ny 47 s;have w:k<=s.length:=by rw[<-hk];exact(pE 47 s).1
 have n:∀j(h:j<s.length),j<k->¬s[j]=47:=by
  intro j h v e;apply t;rcases pM 47 s with⟨_,b⟩|⟨_,b,_⟩
  ·have:s[j]=(b7 47 s).1[j]'(by omega):=by
    conv=>lhs;rw[c6 b]
    rw[List.getElem_append_left]
   have d:(b7 47 s).1[j]'(by omega)∈(b7 47 s).1:=cy _;rw[<-this,e]at d;exact d
  ·rw[b];have d:s[j]∈s:=cy _
   rwa [e]at d
 have b:∀(h:k<s.length),s[k]=47:=by
  intro h;rcases pM 47 s with⟨_,g⟩|⟨_,g,_⟩
  ·rw[c6 g,List.getElem_append_right (by omega)];simp[hk]
  ·rw[g]at hk;omega
 rw[hk];simp[f94];refine lp (α:=Nat) (fun i=>⟨[(3,.p (.int .i64 i)),(0,.p (.str s))],[]⟩)
  (fun i=>i<=k) (fun i=>k-i) 0 (ea _) ?_
 intro i hi;have u:be.wrap ((i:Int)+1)=(i:Int)+1:=aO _ (by omega) (by omega)
 by_cases q:i<k
 ·have a:i<s.length:=by omega
  have f:=n i a q;generalize m:s[i]=c at*;have l:s[i]?=some c:=by rw[ce a,m]
  have o:¬(c:Int)=47:=by omega
  simp[a,m,l,o,f,u];exact rd (i+1) (show i+1<=k by omega)
 ·have r:i=k:=by omega
  subst r
  by_cases a:i<s.length
  ·have f:=b a;have l:s[i]?=some 47:=by rw[ce a,f]
   simp[a,f,l]
  ·have:i=s.length:=by omega
   simp[a,this]
theorem N8(n:Int)(M:-9223372036854775808<=n)(O:n<=9223372036854775807):aC prog 113 [.int .i64 n] (eG n):=by
 refine aM nf G4 mix (by simp[f113]) ?_;obtain⟨N,P⟩:∃N,n.natAbs=N:=⟨_,rfl⟩
 have D:N<bT^3:=by
  have:bT^3=1000000000000000000000000000:=by decide
  omega
 obtain⟨g,a⟩:∃g:Nat->Nat,∀i,N/bT^i=g i:=⟨_,fun _=>rfl⟩
 have F:g 0=N:=by rw[<-a,e8,fd]
 have H:∀i,g (i+1)=g i/bT:=fun i=>by rw[<-a,<-a,en,eb]
 have A:∀i,ae bT N i=g i% bT:=fun i=>by rw[<-a];rfl
 have G:g 3=0:=by rw[<-a,Nat.div_eq_of_lt D]
 have k:∀i,g i<=N:=fun i=>by rw[<-a];exact ej _ _
 have y:∀i,i<=3->g i=0->aC prog 198 [.bool (decide (n<0)),.seq (iP (row bT i N))] (eG n):=fun i I hi=>by
  have h:=CW (decide (n<0)) (row bT i N) N (jy ba (by
   rw[<-a]at hi;rcases ec N (bT^i)with h|h
   ·exact h
   ·have:=e6 h (e9 (show 0<bT by decide));omega)) (by simp[row];omega)
  have e:(if decide (n<0)=true then -(N:Int)else N)=n:=by
   by_cases c:n<0
   ·simp[c];omega
   ·simp[c];omega
  rwa [e]at h
 obtain⟨m,f⟩:∃m:Nat->Int,∀i,(if n<0 then -(g i:Int)else g i)=m i:=⟨_,fun _=>rfl⟩
 have J:m 0=n:=by rw[<-f,F];split<;>omega
 simp only[eG]at y⊢;simp[f113];refine lp (α:=Nat) (fun i=>⟨[(0,.p (.int .i64 (m i))),(2,.ptr 0 []),(3,.sl 1 i 1 0 i),(4,.p (.bool (decide (n<0))))],[.box false (.p (.st 169 [.bool false,.aP])),.arr .grow i 1 (ey i N)]⟩)
  (fun i=>i<=3) (fun i=>3-i) 0 (ea _) ?_ (he:=by simp[J,ey]) (hh:=by simp[ey])
 intro i hi;have Q:bT=1000000000:=rfl;have L:=Nat.mod_lt (g i) (show 0<bT by decide);have R:=k i;have E:=Nat.div_add_mod (g i) bT;have u:g i% bT=ae bT N i:=(A i).symm
 by_cases d:g i=0
 ·have b:m i=0:=by rw[<-f,d];split<;>rfl
  have hs:=y i hi d;rcases i with _|i
  ·simp[b];refine cp hs (by simp[ey];first|exact⟨rfl,rfl⟩|rfl) ?_ (h1:=by simp[iP,row]);simp[ad]
  ·have j:¬ey (i+1) N=[]:=by intro h;have:=congrArg cN h;rw[iC]at this;simp at this
   simp[b];refine cp hs (by simp[iC,MR,j];first|exact⟨rfl,rfl⟩|rfl) ?_ (h1:=by simp[iP,row,dg,ck]);simp[ad]
 ·have I:i<3:=by
   rcases ec i 3 with h|h
   ·exact h
   ·rw[show i=3 by omega]at d;exact(d G).elim
  have z:=H i;have K:=A i;have l:=qU i N;have x:cA i (ey i N)=ey i N:=ck (by rw[iC];exact ew _);rw[K]at l;obtain⟨r,B⟩:∃r,g i% bT=r:=⟨_,rfl⟩
  rw[B]at l L E;have u:=B.symm
  by_cases c:n<0
  ·have b:m i= -(g i:Int):=by rw[<-f,if_pos c]
   have o:m (i+1)= -(g (i+1):Int):=by rw[<-f,if_pos c]
   have j:¬(g i:Int)=0:=by omega
   have s:((g i:Nat):Int).tmod 1000000000=r:=by rw[u,b4 (bl _),cb];rfl
   have q:((g i:Nat):Int).tdiv 1000000000=(g (i+1):Nat):=by rw[z,bv (bl _),b3 (g i)];rfl
   have wr:be.wrap (r:Int)=r:=aO _ (by omega) (by omega);have C:be.wrap (-(r:Int))= -r:=aO _ (by omega) (by omega);have t:be.wrap (-(g (i+1):Int))= -(g (i+1):Nat):=aO _ (by have:=k (i+1);omega) (by have:=k (i+1);omega)
   by_cases v:r=0
   ·simp[b,d,j,s,q,wr,C,t,v,x,iC];refine⟨by simp only[cZ];omega,?_⟩;exact rd (i+1) (show i+1<=3 by omega) (he:=by simp[o]) (hh:=by simp[l,v])
   ·have w:0<r:=by omega
    simp[b,d,j,s,q,wr,C,t,v,w,x,iC];refine⟨by simp only[cZ];omega,?_⟩;exact rd (i+1) (show i+1<=3 by omega) (he:=by simp[o]) (hh:=by simp[l])
  ·have b:m i=(g i:Int):=by rw[<-f,if_neg c]
   have o:m (i+1)=(g (i+1):Int):=by rw[<-f,if_neg c]
   have j:¬(g i:Int)=0:=by omega
   have s:((g i:Nat):Int).tmod 1000000000=r:=by rw[u,b4 (bl _),cb];rfl
   have q:((g i:Nat):Int).tdiv 1000000000=(g (i+1):Nat):=by rw[z,bv (bl _),b3 (g i)];rfl
   have wr:be.wrap (r:Int)=r:=aO _ (by omega) (by omega);have t:be.wrap (g (i+1):Int)=(g (i+1):Nat):=aO _ (by have:=k (i+1);omega) (by have:=k (i+1);omega);have w:¬(r:Int)<0:=by omega
   simp[b,d,j,s,q,wr,t,w,x,iC];refine⟨by simp only[cZ];omega,?_⟩;exact rd (i+1) (show i+1<=3 by omega) (he:=by simp[o]) (hh:=by simp[l])
theorem J1{d:List Nat}(c:d.all cj=true){L i:Nat}(f:L=d.length)(h:9*(i+1)<=L):
 aX (d.take (L-9*(i+1)))=aX (d.take (L-9*i))/10^9/\aX ((d.take (L-9*i)).drop (L-9*(i+1)))=aX (d.take (L-9*i))% 10^9:=by
 have e:=List.take_append_drop (L-9*(i+1)) (d.take (L-9*i));rw[da,e7 (by omega)]at e;have a:=Lw (d.take (L-9*(i+1))) ((d.take (L-9*i)).drop (L-9*(i+1)));rw[e]at a;have b:((d.take (L-9*i)).drop (L-9*(i+1))).length=9:=by rw[cC,cx];omega
 rw[b]at a;have g:=ju 9 _ b (MH (vX c _) _);generalize aX ((d.take (L-9*i)).drop (L-9*(i+1)))=y at*;generalize aX (d.take (L-9*(i+1)))=x at*;rw[a];omega
theorem CX(s:List Nat)(k:(cW s).all cj=true)(J:s.length<=1000000):aC prog 194 [.str s] (eG (if bZ s=true then -(aX (cW s):Int)else aX (cW s))):=by
 refine aM nf GM mix (by simp[f194]) ?_;obtain⟨d,v⟩:∃d,cW s=d:=⟨_,rfl⟩
 obtain⟨neg,f⟩:∃neg,bZ s=neg:=⟨_,rfl⟩
 obtain⟨N,F⟩:∃N,aX d=N:=⟨_,rfl⟩
 have ah:d.length<=1000000:=by rw[<-v];exact dl (pq s).1 J
 rw[v]at k⊢;rw[f,F];have ai:=J;simp[f194,-bA];rw[bA];simp[-bA];refine join (fun st=>aN st.env 0=.p (.str s)/\aN st.env 2=.ptr 0 []/\aN st.env 3=.p (.bool neg)/\st.heap=[.box false (.p (.st 169 [.bool false,.aP]))]) ?_ ?_
 ·cases s with
  |nil=>simp[<-f,bZ]
  |cons c r=>
   by_cases hc:c=45
   ·simp[<-f,bZ,hc]
   ·have T:¬(c:Int)=45:=by omega
    simp[<-f,bZ,hc,T]
 rintro⟨S,U⟩ ⟨a,b,e,n⟩;dsimp only at a b e n;subst n;refine join (fun st=>aN st.env 0=.p (.str d)/\aN st.env 2=.ptr 0 []/\aN st.env 3=.p (.bool neg)/\st.heap=[.box false (.p (.st 169 [.bool false,.aP]))]) ?_ ?_
 ·cases neg with
  |false=>
   have D:s=d:=by rw[<-v,cW,f];rfl
   simp[a,b,e,D]
  |true=>
   cases s with
   |nil=>simp[bZ]at f
   |cons c r=>
    have D:r=d:=by rw[<-v,cW,f];rfl
    simp[a,b,e,D]
 clear a b e;rintro⟨S,U⟩ ⟨a,b,e,n⟩;dsimp only at a b e n;subst n;obtain⟨L,u⟩:∃L,L=d.length:=⟨_,rfl⟩
 obtain⟨g,l⟩:∃g:Nat->Nat,∀i,N/bT^i=g i:=⟨_,fun _=>rfl⟩
 have B:∀i,9*i<=L->aX (d.take (L-9*i))=g i:=by
  intro i
  induction i with
  |zero=>intro _;rw[Nat.mul_zero,Nat.sub_zero,u,c9,F,<-l,e8,fd]
  |succ i ac=>
   intro h;rw[(J1 k u h).1,ac (by omega),<-l,<-l,en,eb];rfl
 have V:∀i,9*(i+1)<=L->aX ((d.take (L-9*i)).drop (L-9*(i+1)))=ae bT N i:=fun i h=>by
  rw[(J1 k u h).2,B i (by omega),<-l];rfl
 have ab:∀i,9*(i+1)<=L->aC prog 196 [.str ((d.take (L-9*i)).drop (L-9*(i+1)))] (.int .i64 (ae bT N i:Nat)):=fun i h=>by
  rw[<-V i h];exact zx _ (MH (vX k _) _) (by rw[cC,cx];omega)
 have I:∀i,9*i<=L->L<=9*i+9->g i=ae bT N i/\N<bT^(i+1):=fun i j q=>by
  have H:=ju _ (d.take (L-9*i)) rfl (vX k _);rw[B i j]at H;have y:g i<bT:=dk H (by
   rw[show bT=10^9 from rfl];exact dp (by decide) (by rw[cx];omega))
  refine⟨by rw[ae,l,Nat.mod_eq_of_lt y],?_⟩;rw[<-l,Nat.div_lt_iff_lt_mul (e9 (by decide))]at y;rw[eb,Nat.mul_comm];exact y
 have W:∀i,9*i<=L->L<=9*i+9->aC prog 196 [.str (d.take (L-9*i))] (.int .i64 (ae bT N i:Nat)):=fun i j q=>by
  rw[<-(I i j q).1,<-B i j];exact zx _ (vX k _) (by rw[cx];omega)
 have G:∀i,9*i<=L->L<=9*i+9->aC prog 198 [.bool neg,.seq (iP (row bT (i+1) N))] (eG (if neg=true then -(N:Int)else N)):=fun i j q=>
  CW neg (row bT (i+1) N) N (jy ba (I i j q).2) (by simp[row];omega)
 generalize (if neg=true then -(N:Int)else N)=z at*;simp only[eG]at G⊢;rw[bA];simp[a,b,e,-bA];rw[bA];simp[a,b,e];refine lp (α:=Nat) (fun i=>⟨[(0,.p (.str (d.take (L-9*i)))),(2,.ptr 0 []),(3,.p (.bool neg)),(4,.sl 1 i 1 0 i)],[.box false (.p (.st 169 [.bool false,.aP])),.arr .grow i 1 (ey i N)]⟩)
  (fun i=>9*i<=L) (fun i=>L-i) 0 (ea _) ?_ (he:=by simp[a,b,e,ey,u]) (hh:=by simp[ey])
 intro i hi;have x:(d.take (L-9*i)).length=L-9*i:=by rw[cx];omega
 have o:=ab i;have w:=W i hi;have E:(d.take (L-9*i)).take (L-9*(i+1))=d.take (L-9*(i+1)):=by rw[da,e7 (by omega)]
 rw[show L-9*(i+1)=L-9*i-9 by omega]at o E;obtain⟨m,C⟩:∃m,m=L-9*i:=⟨_,rfl⟩
 rw[<-C]at x o w E;have O:=qU i N;have P:cA i (ey i N)=ey i N:=ck (by rw[iC];exact ew _);have K:i+1<=cZ:=by simp only[cZ];omega
 by_cases af:9<m
 ·have o:=o (by omega);have Q:be.wrap ((m:Int)-9)=(m:Int)-9:=aO _ (by omega) (by omega);have R:((m:Int)-9).toNat=m-9:=by omega
  have M:(9:Int)<=m:=by omega
  have Z:9*(i+1)<=L:=by omega
  rw[<-C];generalize ag:cA m d=t at*;have aa:cA m t=t:=ck (by omega);have A:(9:Int)<m:=by omega
  have X:m-9=L-9*(i+1):=by omega
  simp[x,A,Q,R,M,aa];refine c1 o ?_;simp[P,iC,K,<-O,x,Q,R,M,E];exact rd (i+1) Z (he:=by simp[X])
 ·have w:=w (by omega);have hs:=G i hi (by omega);rw[<-C];generalize cA m d=t at*;have A:¬(9:Int)<m:=by omega
  simp[x,A];refine c1 w ?_;simp[P,iC,K,<-O];have Y:¬ey (i+1) N=[]:=by intro h;have:=congrArg cN h;rw[iC]at this;simp at this
  refine cp hs (by simp[iC,MR,Y];first|exact⟨rfl,rfl⟩|rfl) ?_ (h1:=by simp[iP,row,dg,ck]);simp[ad]
def jT(s:List Nat):Int:=if bZ s=true then -(aX (bH s):Int)else aX (bH s)
def iG(s:List Nat):Nat:=if ek s=true then aX (bQ s)else 1
theorem Mg(s:List Nat)(q:(bH s).all cj=true)(l:(bQ s).all cj=true)(J:s.length<=1000000):aC prog 96 [.str s] (.aG [eG (jT s),eG (iG s:Nat)]):=by
 refine aM nf Rd mix (by simp[f96]) ?_;have e:=wJ s (by omega);obtain⟨L,f,h,D⟩:=Li s;have I:=pE 47 s;have C:=N8 1 (by decide) (by decide);rcases pM 47 s with⟨q1,b⟩|⟨q1,b,N⟩
 ·have a:=CX (b7 47 s).1 (by rw[f];exact q) (by omega);rw[L,f]at a;have d:=CX (b7 47 s).2.1 (by
   rw[h];rw[cv]at l⊢;intro x hx;exact l x ((pq _).2 x hx)) (by omega)
  have K:bZ (bQ s)=false:=by
   rw[bZ];cases g:bQ s with
   |nil=>simp
   |cons c r=>
    have:=zG (cv.1 l c (by rw[g];simp));simp;omega
  rw[h,cW,K]at d;have m:ek s=true:=by rw[<-D];exact q1
  have oI:jT s=if bZ s=true then -(aX (bH s):Int)else aX (bH s):=rfl
  have j:iG s=aX (bQ s):=by rw[iG,if_pos m]
  rw[<-oI]at a;simp only[a9,if_false]at d;rw[<-j]at d;generalize M:jT s=z at*;generalize iG s=dn at*;obtain⟨i,o⟩:∃i,(b7 47 s).1=i:=⟨_,rfl⟩
  obtain⟨E,p⟩:∃E,(b7 47 s).2.1=E:=⟨_,rfl⟩
  rw[o,p]at b;rw[o]at e a;rw[p]at h;obtain⟨k,n⟩:∃k,i.length=k:=⟨_,rfl⟩
  rw[n]at e;have hk:k<s.length:=by rw[b];simp;omega
  have B:s.take k=i:=by rw[b,<-n];simp
  have g:s.drop (k+1)=bQ s:=by
   rw[<-h]
   conv=>lhs;rw[b,<-n]
   simp
  clear I b o p;have G:be.wrap ((k:Int)+1)=(k:Int)+1:=aO _ (by omega) (by omega);have F:((k:Int)+1).toNat=k+1:=by omega
  have y:¬(k:Int)=s.length:=by omega
  have u:k+1<=s.length:=hk;have w:k<=s.length:=by omega
  have t:(0:Int)<=k+1:=by omega
  have v:(k:Int)+1<=s.length:=by omega
  simp only[eG]at a d⊢;simp[f96];refine c1 e ?_;simp[y,G,F,B,g,u,w,t,v];refine e1 a ?_;simp[y,G,F,B,g,u,w,t,v];refine e1 d ?_;simp[ad]
 ·have a:=CX s (by
   have A:=f;rw[b]at A;rw[A];exact q) J
  have m:ek s=false:=by rw[<-D];exact q1
  have H:cW s=bH s:=by rw[b]at f;exact f
  have oI:jT s=if bZ s=true then -(aX (bH s):Int)else aX (bH s):=rfl
  have j:iG s=1:=by rw[iG,m];rfl
  rw[H,<-oI]at a;rw[j];rw[b]at e;generalize jT s=z at*;simp only[eG]at a C⊢;simp[f96];refine c1 e ?_;simp;refine c1 a ?_;simp;refine c1 C ?_;simp[ad]
theorem J2(n:Nat):(aZ n).length<=9*(az bT n).length+1:=by
 rcases Nat.eq_zero_or_pos n with h|h
 ·subst h;rw[mP];simp
 ·have b:0<(az bT n).length:=by rw[cB,Ne,vV];omega
  have a:=cm ba n;rw[show bT^(az bT n).length=10^(9*(az bT n).length)by rw[eo];rfl]at a;exact dl (vI a (by omega)) (by omega)
def fj(n d:Int):Rat:=fl n d
theorem JN(n g:Nat):(az bT (n/g)).length<=(az bT n).length:=
 dT ba _ _ (dq (ej n g) (cm ba n))
theorem VY(n d:Nat)(a:0<d):(az bT (em n d)).length<=(az bT d).length:=
 dT ba _ _ (dq (ee n a) (cm ba d))
theorem Jb(n d:Int)(L:d≠0)(s:(az bT n.natAbs).length<=400000)(j:(az bT d.natAbs).length<=400000):aC prog 99 [eG n,eG d] (.str (bc (fj n d))):=by
 refine aM nf Rf mix (by simp[f99]) ?_;simp[f99,-bA,ad];rw[bA];simp[-bA,ad];refine join (fun st=>∃(e:Int)(d':Nat),0<d'/\(az bT e.natAbs).length<=400000/\(az bT d').length<=400000/\fj e d'=fj n d/\aN st.env 2=.ptr 0 []/\aN st.env 3=.ptr 1 []/\st.heap=[.box false (.p (eG e)),.box false (.p (eG (d':Nat)))]) ?_ ?_
 ·have P:=Ob n s;have O:=Ob d j
  by_cases h:d<0
  ·simp[h,ad];refine e1 P ?_;simp[ad];refine e1 O ?_;simp[ad];refine⟨by repeat' first|rfl|apply And.intro,?_⟩;refine⟨-n,d.natAbs,by omega,by rw[b1];exact s,j,?_,rfl,?_⟩
   ·rw[bk (by omega)];exact fm _ _
   ·rw[bk (by omega)]
  ·have A:((d.natAbs:Nat):Int)=d:=b5 (by omega);simp[h,ad];exact⟨n,d.natAbs,by omega,s,j,by rw[A],rfl,by rw[A]⟩
 rintro⟨T,U⟩ ⟨e,d',k1,k2,k3,k4,l,m,D⟩;dsimp only at l m D;subst D;rw[<-k4,show fj e d'=fl e d' from rfl];clear k4 s j L;obtain⟨u,v⟩:=lX (n:=e) (show d'≠0 by omega);obtain⟨g,k⟩:∃g,em e.natAbs d'=g:=⟨_,rfl⟩
 have r:0<g:=by rw[<-k];exact dz _ k1
 have B:(az bT g).length<=400000:=by rw[<-k];exact dl (VY _ _ k1) k3
 rw[k]at u v;have y:=LQ e.natAbs d' k2 k3;rw[k]at y;have I:=Ej e.natAbs g r k2 B;have J:=Ej d' g r k3 B;have Y:(az bT (e.natAbs/g)).length<=400000:=dl (JN _ _) k2;have Z:(az bT (d'/g)).length<=400000:=dl (JN _ _) k3;have w:=qL (decide (e<0)) (e.natAbs/g) (by omega);have f:=qL false (d'/g) (by omega);have t:(if decide (e<0)=true then -((e.natAbs/g:Nat):Int)else((e.natAbs/g:Nat):Int))=(fl e d').num:=by
  rw[u];have M:(g:Int)∣e:=by rw[<-k];exact b2.2 (ei _ _)
  obtain⟨c,hc⟩:=M;have N:(g:Int)≠0:=by omega
  rw[hc,b0 _ N,bo,bi,Nat.mul_div_cancel_left _ r]
  by_cases K:c<0
  ·have:(g:Int)*c<0:=Int.mul_neg_of_pos_of_neg (by omega) K;simp[this];omega
  ·have:¬(g:Int)*c<0:=by
    have:=cc (a:=(g:Int)) (b:=c) (by omega) (by omega);omega
   simp[this];omega
 rw[t]at w;simp only[a9,if_false]at f;have z:=DG (fl e d').num (by
  rw[<-t];split
  ·rw[b1,bi];omega
  ·rw[bi];omega)
 have i:=DG ((d'/g:Nat):Int) (by rw[bi];omega);rw[vJ]at i;have Q:0<d'/g:=by
  refine e6 ?_ r;rw[<-k];exact ee _ k1
 have V:(bL (fl e d').num).length<=3600002:=by
  refine dl (Dk _) ?_;have h:=J2 (fl e d').num.natAbs;have:(fl e d').num.natAbs=e.natAbs/g:=by
   rw[<-t];split
   ·rw[b1,bi]
   ·rw[bi]
  rw[this]at h⊢;omega
 have W:(aZ (d'/g)).length<=3600001:=by
  have h:=J2 (d'/g);omega
 have F:bc (fl e d')=if d'/g=1 then bL (fl e d').num else bL (fl e d').num++47::aZ (d'/g):=by rw[bc,v]
 rw[F];clear F t u v;generalize (fl e d').num=G at*;generalize aa:d'/g=q at*;simp only[eG,bi]at w f z i⊢;simp[l,m,ad];refine c2 y ?_;simp[l,m,ad];refine c2 I ?_;simp[l,m,ad];refine c2 J ?_;simp[l,m,ad];refine c2 w ?_;simp[l,m,ad];refine c1 z ?_;have R:∀h:q=1,az bT q=[1]:=fun h=>by rw[h];exact nP (by decide) (by decide)
 by_cases o:q=1
 ·have x:=R o;simp[o,eT,nP (show 0<1 by decide) (show 1<bT by decide)]
 ·have C:(bL G).length+1<9223372036854775808:=by omega
  have X:(bL G).length+((aZ q).length+1)<9223372036854775808:=by omega
  by_cases E:q<bT
  ·have x:=nP Q E;have S:¬(q:Int)=1:=by omega
   simp[o,eT,x,S];refine⟨C,?_⟩;simp only[eT,x,List.map_cons,List.map_nil]at f i;refine c2 f ?_;simp;refine c1 i ?_;simp;omega
  ·have j:¬((az bT q).length:Int)=1:=by
    intro h;have H:(az bT q).length=1:=by omega
    have:=cm ba q;rw[H,fb]at this;exact E this
   simp[o,eT,j];refine⟨C,?_⟩;simp only[eT]at f i;refine c2 f ?_;simp;refine c1 i ?_;simp;omega
theorem V3{n:Int}{g:Nat}(a:0<g)(h:g∣n.natAbs):n.tdiv g=n/g:=by
 obtain⟨c,hc⟩:=b2.2 h;subst hc;rw[Int.mul_tdiv_cancel_left _ (by omega),b0 _ (by omega)]
theorem PR(n d:Int)(O:d≠0)(U:n.natAbs<=4000000000000000000)(P:d.natAbs<=4000000000000000000):aC prog 84 [.int .i64 n,.int .i64 d] (.str (bc (fj n d))):=by
 refine aM nf Q1 mix (by simp[f84]) ?_;have f:¬n< -4000000000000000000:=by omega
 have i:¬4000000000000000000<n:=by omega
 have j:¬d< -4000000000000000000:=by omega
 have k:¬4000000000000000000<d:=by omega
 simp[f84,f,i,j,k,-bA];rw[bA];simp[f,i,j,k,-bA];rw[bA,bA];simp[f,i,j,k,-bA];refine join (fun st=>∃(b:Int)(d':Nat),0<d'/\b.natAbs<=4000000000000000000/\d'<=4000000000000000000/\fj b d'=fj n d/\aN st.env 0=.p (.int .i64 b)/\aN st.env 1=.p (.int .i64 (d':Nat))/\st.heap=[]) ?_ ?_
 ·have H:be.wrap (-n)= -n:=aO _ (by omega) (by omega);have o:be.wrap (-d)= -d:=aO _ (by omega) (by omega)
  by_cases h:d<0
  ·simp[h,H,o,f,i,j,k];refine⟨-n,d.natAbs,by omega,by omega,by omega,?_,rfl,?_⟩
   ·rw[bk (by omega)];exact fm _ _
   ·rw[bk (by omega)]
  ·have J:((d.natAbs:Nat):Int)=d:=b5 (by omega);simp[h,f,i,j,k];exact⟨n,d.natAbs,by omega,by omega,by omega,by rw[J],rfl,by rw[J]⟩
 rintro⟨W,X⟩ ⟨b,d',k1,k2,k3,k4,r,s,K⟩;dsimp only at r s K;subst K;rw[<-k4,show fj b d'=fl b d' from rfl];clear k4 U P O f i j k;obtain⟨x,D⟩:=lX (n:=b) (show d'≠0 by omega);obtain⟨g,l⟩:∃g,em b.natAbs d'=g:=⟨_,rfl⟩
 have F:0<g:=by rw[<-l];exact dz _ k1
 rw[l]at x D;have I:=Zv b.natAbs d' (by omega) (by omega);rw[l]at I;have T:(if b< -b then -b else b)=(b.natAbs:Nat):=by split<;>omega
 have H:be.wrap (-b)= -b:=aO _ (by omega) (by omega);have z:b.tdiv g=(fl b d').num:=by rw[x,V3 F (by rw[<-l];exact ei _ _)]
 have A:(d':Int).tdiv g=(d'/g:Nat):=by rw[bv (bl _),b3]
 have V:(fl b d').num.natAbs<=4000000000000000000:=by
  have R:(g:Int)∣b:=by rw[<-l];exact b2.2 (ei _ _)
  obtain⟨c,hc⟩:=R;have S:(g:Int)≠0:=by omega
  rw[x,hc,b0 _ S];rw[hc,bo,bi]at k2;exact dl (Nat.le_mul_of_pos_left _ F) k2
 have Q:d'/g<=4000000000000000000:=dl (ej _ _) k3;have ac:0<d'/g:=by
  refine e6 ?_ F;rw[<-l];exact ee _ k1
 have M:bc (fl b d')=if d'/g=1 then bL (fl b d').num else bL (fl b d').num++47::aZ (d'/g):=by rw[bc,D]
 rw[M];clear M x D;generalize (fl b d').num=a at*;generalize ad:d'/g=q at*;have y:¬g=0:=by omega
 have u:=yM a.natAbs 1 (by omega) (by decide);have E:=yM q 1 (by omega) (by decide);have Y:(aZ a.natAbs).length<=19:=vI (dq V (by decide)) (by decide);have Z:(aZ q).length<=19:=vI (dq Q (by decide)) (by decide);rw[show low (max 1 (nd a.natAbs)) a.natAbs=aZ a.natAbs from rfl]at u;rw[show low (max 1 (nd q)) q=aZ q from rfl]at E;have ab:(if a< -a then -a else a)=(a.natAbs:Nat):=by split<;>omega
 have o:be.wrap (-a)= -a:=aO _ (by omega) (by omega);have B:be.wrap a=a:=aO _ (by omega) (by omega);have C:be.wrap (q:Int)=q:=aO _ (by omega) (by omega);simp[r,s,H,T];refine c2 I ?_;have L:(1:Int)<q↔¬q=1:=by omega
 have N:be.wrap 1=1:=rfl;have aa:(aZ a.natAbs).length<9223372036854775808:=by omega
 by_cases m:a<0
 ·have G:bL a=45::aZ a.natAbs:=by rw[bL,if_pos m]
  rw[G];have w:a< -a:=by omega
  have v:-a=(a.natAbs:Nat):=by omega
  by_cases e:q=1
  ·simp[r,s,y,z,A,B,C,m,o,w,e];rw[v];refine c2 u ?_;simp[e,N];omega
  ·have t:=L.2 e;simp[r,s,y,z,A,B,C,m,o,w,e,t];rw[v];refine c2 u ?_;simp[e,t];refine⟨by omega,by omega,?_⟩;refine c2 E ?_;simp;omega
 ·have G:bL a=aZ a.natAbs:=by rw[bL,if_neg m]
  rw[G];have v:a=(a.natAbs:Nat):=by omega
  have w:¬a< -a:=by omega
  by_cases e:q=1
  ·simp[r,s,y,z,A,B,C,m,o,w,e];rw[show PV.int .i64 a=.int .i64 (a.natAbs:Nat)by rw[<-v]];refine c2 u ?_;simp[e,N];omega
  ·have t:=L.2 e;simp[r,s,y,z,A,B,C,m,o,w,e,t];rw[show PV.int .i64 a=.int .i64 (a.natAbs:Nat)by rw[<-v]];refine c2 u ?_;simp[e,t];refine⟨by omega,by omega,?_⟩;refine c2 E ?_;simp;omega
theorem DP(n:Int)(a:-9223372036854775808<=n)(b:n<=9223372036854775807):aC prog 39 [.int .i64 n] (.str (bc (n:Rat))):=by
 have e:=N8 n a b;have d:=DG n (by
  have c:n.natAbs<bT^3:=by
   have:bT^3=1000000000000000000000000000:=by decide
   omega
  have:=dT ba 3 _ c;omega)
 have hq:bc (n:Rat)=bL n:=by rw[bc,if_pos (fN n),fv]
 rw[hq];refine aM nf QJ mix (by simp[f39]) ?_;simp[f39];refine c1 e ?_;simp;refine c1 d ?_;simp
theorem ZE(s:List Nat)(C:(bH s).all cj=true)(J:(bQ s).all cj=true)(ak:s.length<=1000000):
 ∃(n d:Int)(b:Bool),aC prog 98 [.str s] (.aG [.int .i64 n,.int .i64 d,.bool b])/\(b=true->n=jT s/\d=(iG s:Nat)/\n.natAbs<1000000000/\iG s<1000000000):=by
 by_cases K:20<s.length
 ·refine⟨0,0,false,?_,fun h=>by cases h⟩;refine aM nf EN mix (by simp[f98]) ?_;have m:(20:Int)<s.length:=by omega
  simp[f98,m]
 obtain⟨d,l⟩:∃d,cW s=d:=⟨_,rfl⟩
 obtain⟨neg,g⟩:∃neg,bZ s=neg:=⟨_,rfl⟩
 have ai:d.length<=s.length:=by rw[<-l];exact(pq s).1
 have i:=wJ d (by omega);have A:(b7 47 d).1=bH s:=by rw[<-l];rfl
 have N:(b7 47 d).2.1=bQ s:=by rw[<-l];rfl
 have P:(b7 47 d).2.2=ek s:=by rw[<-l];rfl
 have q:=pM 47 d;rw[A,N,P]at q;rw[A]at i;obtain⟨k,hk⟩:∃k,(bH s).length=k:=⟨_,rfl⟩
 rw[hk]at i;have Q:k<=d.length:=by rw[<-hk,<-A];exact(pE 47 d).1
 have m:¬(20:Int)<s.length:=by omega
 obtain⟨b,o⟩:∃b:Bool,b=(decide (k<=9)&&decide (d.length-k<=10)):=⟨_,rfl⟩
 have M:b=true->(jT s).natAbs<1000000000/\iG s<1000000000:=fun h=>by
  rw[o]at h;simp only[bb,decide_eq_true_eq]at h;have v:=ju _ (bH s) rfl C;rw[hk]at v;have ad:aX (bH s)<1000000000:=dk v (dp (n:=10) (by decide) h.1);refine⟨by rw[jT];split<;>omega,?_⟩;rcases q with⟨q1,f⟩|⟨q1,f,af⟩
  ·have W:(bQ s).length<=9:=by
    have:=congrArg cN f;simp at this;omega
   have X:=ju _ (bQ s) rfl J;rw[iG,if_pos q1];exact dk X (dp (n:=10) (by decide) W)
  ·rw[iG,q1,if_neg (by decide)];decide
 refine⟨if b=true then jT s else 0,if b=true then(iG s:Nat)else 0,b,?_,fun h=>⟨if_pos h,if_pos h,by rw[if_pos h];exact(M h).1,(M h).2⟩⟩;refine aM nf EN mix (by simp[f98]) ?_;simp[f98,-bA];rw[bA];simp[-bA];rw[bA];simp[-bA];rw[bA,bA];simp[m,-bA];refine join (fun st=>aN st.env 5=.p (.str s)/\aN st.env 6=.p (.bool neg)/\st.heap=[]) ?_ ?_
 ·clear K m;cases s with
  |nil=>simp[<-g,bZ]
  |cons c r=>
   by_cases hc:c=45
   ·simp[<-g,bZ,hc]
   ·have aa:¬(c:Int)=45:=by omega
    simp[<-g,bZ,hc,aa]
 rintro⟨U,ab⟩ ⟨e,a,u⟩;dsimp only at e a u;subst u;refine join (fun st=>aN st.env 5=.p (.str d)/\aN st.env 6=.p (.bool neg)/\st.heap=[]) ?_ ?_
 ·cases t:neg with
  |false=>
   have F:s=d:=by rw[<-l,cW,g,t];rfl
   simp[e,a,t,F]
  |true=>
   clear i q hk N A P K m o;cases s with
   |nil=>simp[bZ]at g;rw[t]at g;cases g
   |cons c r=>
    have F:r=d:=by rw[<-l,cW,g,t];rfl
    simp[e,a,t,F]
 clear e a;rintro⟨U,ab⟩ ⟨e,a,u⟩;dsimp only at e a u;subst u;have ah:be.wrap ((k:Int)+1)=(k:Int)+1:=aO _ (by omega) (by omega);have G:be.wrap ((d.length:Int)-k)=(d.length:Int)-k:=aO _ (by omega) (by omega);have ag:((k:Int)+1).toNat=k+1:=by omega
 have ae:jT s=if neg=true then -(aX (bH s):Int)else aX (bH s):=by rw[jT,g]
 rw[ae];rcases ec 9 k with D|D
 ·have Y:¬k<=9:=by omega
  have j:(9:Int)<k:=by omega
  have E:b=false:=by rw[o];simp[Y]
  simp[e,a];refine c1 i ?_;simp[e,a,j,E]
 rcases ec 10 (d.length-k)with I|I
 ·have V:¬d.length-k<=10:=by omega
  have j:¬(9:Int)<k:=by omega
  have x:(10:Int)<(d.length:Int)-k:=by omega
  have E:b=false:=by rw[o];simp[V]
  simp[e,a];refine c1 i ?_;simp[e,a,j,x,G,E]
 have j:¬(9:Int)<k:=by omega
 have x:¬(10:Int)<(d.length:Int)-k:=by omega
 have y:b=true:=by rw[o];simp[D,I]
 have R:d.take k=bH s:=by
  rcases q with⟨_,f⟩|⟨_,f,_⟩
  ·rw[f,<-hk];simp
  ·rw[<-f,<-hk];simp
 have L:=zx (bH s) C (by omega);have v:=ju _ (bH s) rfl C;rw[hk]at v;have ad:aX (bH s)<1000000000:=dk v (dp (n:=10) (by decide) D);rcases q with⟨q1,f⟩|⟨q1,f,af⟩
 ·have z:k<d.length:=by rw[f];simp;omega
  have O:d.drop (k+1)=bQ s:=by
   conv=>lhs;rw[f,<-hk]
   simp
  have aj:(bQ s).length<=9:=by rw[<-O,cC];omega
  have Z:=zx (bQ s) J (by omega);have B:iG s=aX (bQ s):=by rw[iG,if_pos q1]
  rw[B];generalize aX (bQ s)=al at*;generalize aX (bH s)=w at*;have H:be.wrap (-(w:Int))= -(w:Int):=aO _ (by omega) (by omega);clear f;simp[e,a];refine c1 i ?_;have S:(0:Int)<=k+1:=by omega
  have ac:k+1<=d.length:=z;have T:(k:Int)+1<=d.length:=by omega
  simp[e,a,j,x,G,y,Q,R];refine c1 L ?_;cases neg<;>
  ·simp[e,a,z,ac,ah,ag,O,S,T];refine c1 Z ?_;simp[a,H,y]
 ·have z:¬k<d.length:=by rw[<-f,hk];omega
  have B:iG s=1:=by rw[iG,q1];rfl
  rw[B];generalize aX (bH s)=w at*;have H:be.wrap (-(w:Int))= -(w:Int):=aO _ (by omega) (by omega);simp[e,a];refine c1 i ?_;simp[e,a,j,x,G,y,Q,R];refine c1 L ?_;cases neg<;>simp[e,a,z,H,y]
theorem Cr{n k:Nat}(h:n<2^k):(az bT n).length<=k/29+1:=by
 refine dT ba _ _ (dk h ?_);have a:2^29<=bT:=by decide
 refine dl ?_ (Nat.pow_le_pow_left a _);rw[<-eo];exact dp (by decide) (by omega)
theorem Nj(q:Rat):jT (bc q)=q.num:=by
 obtain⟨a,b,_,_⟩:=tV q;rw[jT,a,b,pW]
 by_cases h:q.num<0
 ·rw[if_pos (by simpa using h)];omega
 ·rw[if_neg (by simpa using h)];omega
theorem NC(q:Rat):iG (bc q)=q.den:=by
 obtain⟨_,_,a,b⟩:=tV q;rw[iG,a,b]
 by_cases h:q.den=1
 ·rw[if_neg (by simpa using h),h]
 ·rw[if_pos (by simpa using h),if_neg h,pW]
theorem Ba(q:Rat):(bH (bc q)).all cj=true/\(bQ (bc q)).all cj=true:=by
 obtain⟨_,a,_,b⟩:=tV q;refine⟨by rw[a];exact ov _,?_⟩;rw[b];split
 ·rfl
 ·exact ov _
theorem qX{q:Rat}(h:bK kB q):(bc q).length<=1000000:=by
 have a:(aZ q.num.natAbs).length<=33334:=se (K:=kB) (k:=33334) h.1 (by decide) (by decide);have b:(aZ q.den).length<=33334:=se (K:=kB) (k:=33334) h.2 (by decide) (by decide);have:=FZ q;omega
theorem zf(q:Rat)(h:bK kB q):∃(n d:Int)(b:Bool),aC prog 98 [.str (bc q)] (.aG [.int .i64 n,.int .i64 d,.bool b])/\(b=true->n=q.num/\d=(q.den:Nat)/\n.natAbs<1000000000/\q.den<1000000000):=by
 have:=ZE (bc q) (Ba q).1 (Ba q).2 (qX h)
 rwa [Nj,NC]at this
theorem yL(q:Rat)(h:bK kB q):aC prog 96 [.str (bc q)] (.aG [eG q.num,eG (q.den:Nat)]):=by
 have:=Mg (bc q) (Ba q).1 (Ba q).2 (qX h)
 rwa [Nj,NC]at this
theorem al6(a b:Rat):fj (a.num*b.den+b.num*a.den) (a.den*b.den)=a+b:=by
 rw[Rat.add_def'];rfl
theorem amY(a b:Rat):fj (a.num*b.num) (a.den*b.den)=a*b:=by
 rw[Rat.mul_def,Rat.normalize_eq_mkRat];rfl
theorem Pq(a b:Rat):((a.den:Nat):Int)*(b.den:Nat)≠0:=by
 have c:=a.den_pos;have d:=b.den_pos;exact Int.ne_of_gt (Int.mul_pos (by omega) (by omega))
theorem xg{x y:Int}(hx:x.natAbs<1000000000)(a:y.natAbs<1000000000):(x*y).natAbs<=999999998000000001:=by
 rw[bo];exact Nat.mul_le_mul (show x.natAbs<=999999999 by omega) (show y.natAbs<=999999999 by omega)
theorem vT{x y:Int}(hx:x.natAbs<2^kB)(a:y.natAbs<2^kB):(az bT (x*y).natAbs).length<=10000:=by
 have h:=Cr (n:=(x*y).natAbs) (k:=kB+kB) (by rw[bo,eq];exact ed hx a);exact dl h (by decide)
theorem mO{x:Nat}(hx:x<2^kB):(az bT x).length<=10000:=dl (Cr hx) (by decide)
theorem xp(a b:Rat)(h:bK kB a)(i:bK kB b):aC prog 27 [.str (bc a),.str (bc b)] (.str (bc (a+b))):=by
 obtain⟨n,d,p,A,E⟩:=zf a h;obtain⟨m,e,r,B,F⟩:=zf b i;have t:=yL a h;have u:=yL b i;refine aM nf Qz mix (by simp[f27]) ?_;rw[<-al6];have z:=Pq a b
 by_cases j:p=true/\r=true
 ·obtain⟨rfl,rfl,k1,k2⟩:=E j.1;obtain⟨rfl,rfl,k3,k4⟩:=F j.2;have O:=xg k1 (show((b.den:Nat):Int).natAbs<1000000000 by rw[bi];exact k4);have P:=xg k3 (show((a.den:Nat):Int).natAbs<1000000000 by rw[bi];exact k2);have Q:=xg (show((a.den:Nat):Int).natAbs<1000000000 by rw[bi];exact k2) (show((b.den:Nat):Int).natAbs<1000000000 by rw[bi];exact k4);have C:=PR (a.num*b.den+b.num*a.den) (a.den*b.den) z (by omega) (by omega);have H:be.wrap (a.num*(b.den:Nat))=a.num*(b.den:Nat):=aO _ (by omega) (by omega);have I:be.wrap (b.num*(a.den:Nat))=b.num*(a.den:Nat):=aO _ (by omega) (by omega);have J:be.wrap (a.num*(b.den:Nat)+b.num*(a.den:Nat))=a.num*(b.den:Nat)+b.num*(a.den:Nat):=aO _ (by omega) (by omega);have K:be.wrap (((a.den:Nat):Int)*(b.den:Nat))=((a.den:Nat):Int)*(b.den:Nat):=aO _ (by omega) (by omega);have g:p=true:=j.1;have q:r=true:=j.2;simp[f27];refine c1 A ?_;simp;refine c1 B ?_;simp[g,q,H,I,J,K];refine c2 C ?_;simp
 ·have l:a.num.natAbs<2^kB:=h.1;have o:b.num.natAbs<2^kB:=i.1;have c:((a.den:Nat):Int).natAbs<2^kB:=by rw[bi];exact h.2
  have f:((b.den:Nat):Int).natAbs<2^kB:=by rw[bi];exact i.2
  have w:=wG a.num (b.den:Nat) (by have:=mO l;have:=mO f;omega);have x:=wG b.num (a.den:Nat) (by have:=mO o;have:=mO c;omega);have y:=wG (a.den:Nat) (b.den:Nat) (by have:=mO c;have:=mO f;omega);have L:=vT l f;have M:=vT o c;have N:=vT c f;have v:=ZD (a.num*(b.den:Nat)) (b.num*(a.den:Nat)) (by omega) (by omega);have G:(az bT (a.num*(b.den:Nat)+b.num*(a.den:Nat)).natAbs).length<=400000:=by
   refine dl (Cr (k:=kB+kB+1) ?_) (by decide);have q1:(a.num*(b.den:Nat)).natAbs<2^(kB+kB):=by rw[bo,eq];exact ed l f
   have R:(b.num*(a.den:Nat)).natAbs<2^(kB+kB):=by rw[bo,eq];exact ed o c
   rw[eb];omega
  have s:=Jb (a.num*(b.den:Nat)+b.num*(a.den:Nat)) ((a.den:Nat)*(b.den:Nat)) z G (by omega);simp[f27];refine c1 A ?_;simp;refine c1 B ?_;have D:(p=false)\/(p=true/\r=false):=by cases p<;>cases r<;>simp_all
  rcases D with g|⟨g,q⟩
  ·simp[g];refine c1 t ?_;simp[ad];refine c1 u ?_;simp[ad];refine e2 w ?_;simp[ad];refine e2 x ?_;simp[ad];refine e2 v ?_;simp[ad];refine e2 y ?_;simp[ad];refine e2 s ?_;simp
  ·simp[g,q];refine c1 t ?_;simp[ad];refine c1 u ?_;simp[ad];refine e2 w ?_;simp[ad];refine e2 x ?_;simp[ad];refine e2 v ?_;simp[ad];refine e2 y ?_;simp[ad];refine e2 s ?_;simp
theorem zN(a b:Rat)(f:bK kB a)(g:bK kB b):aC prog 110 [.str (bc a),.str (bc b)] (.str (bc (a*b))):=by
 obtain⟨n,d,p,x,B⟩:=zf a f;obtain⟨m,e,r,y,C⟩:=zf b g;have s:=yL a f;have t:=yL b g;refine aM nf G7 mix (by simp[f110]) ?_;rw[<-amY];have w:=Pq a b
 by_cases h:p=true/\r=true
 ·obtain⟨rfl,rfl,k1,k2⟩:=B h.1;obtain⟨rfl,rfl,k3,k4⟩:=C h.2;have H:=xg k1 k3;have I:=xg (show((a.den:Nat):Int).natAbs<1000000000 by rw[bi];exact k2) (show((b.den:Nat):Int).natAbs<1000000000 by rw[bi];exact k4);have z:=PR (a.num*b.num) (a.den*b.den) w (by omega) (by omega);have D:be.wrap (a.num*b.num)=a.num*b.num:=aO _ (by omega) (by omega);have E:be.wrap (((a.den:Nat):Int)*(b.den:Nat))=((a.den:Nat):Int)*(b.den:Nat):=aO _ (by omega) (by omega);have c:p=true:=h.1;have i:r=true:=h.2;simp[f110];refine c1 x ?_;simp;refine c1 y ?_;simp[c,i,D,E];refine c2 z ?_;simp
 ·have j:a.num.natAbs<2^kB:=f.1;have l:b.num.natAbs<2^kB:=g.1;have k:((a.den:Nat):Int).natAbs<2^kB:=by rw[bi];exact f.2
  have o:((b.den:Nat):Int).natAbs<2^kB:=by rw[bi];exact g.2
  have u:=wG a.num b.num (by have:=mO j;have:=mO l;omega);have v:=wG (a.den:Nat) (b.den:Nat) (by have:=mO k;have:=mO o;omega);have F:=vT j l;have G:=vT k o;have q:=Jb (a.num*b.num) ((a.den:Nat)*(b.den:Nat)) w (by omega) (by omega);simp[f110];refine c1 x ?_;simp;refine c1 y ?_;have A:(p=false)\/(p=true/\r=false):=by cases p<;>cases r<;>simp_all
  rcases A with c|⟨c,i⟩
  ·simp[c];refine c1 s ?_;simp[ad];refine c1 t ?_;simp[ad];refine e2 u ?_;simp[ad];refine e2 v ?_;simp[ad];refine e2 q ?_;simp
  ·simp[c,i];refine c1 s ?_;simp[ad];refine c1 t ?_;simp[ad];refine e2 u ?_;simp[ad];refine e2 v ?_;simp[ad];refine e2 q ?_;simp
theorem aHo{a:Rat}(h:a≠0):a.num≠0:=fun e=>h (Rat.num_eq_zero.1 e)
theorem Oe(s:List Nat)(g:s.length<=1048576):aC prog 26 [.str s] (.int .i64 (if s=[48]then 0 else if bZ s=true then -1 else 1)):=by
 refine aM nf Qy mix (by simp[f26]) ?_
 by_cases b:s=[48]
 ·simp[f26,b]
 ·cases s with
  |nil=>simp[f26,bZ]
  |cons c r=>
   by_cases hc:c=45
   ·simp[f26,bZ,hc]
   ·have e:¬(c:Int)=45:=by omega
    have d:¬(c=48/\r=[]):=fun h=>b (by rw[h.1,h.2])
    by_cases a:c=48
    ·have f:¬r=[]:=fun h=>d ⟨a,h⟩;simp[f26,bZ,a,f]
    ·simp[f26,bZ,hc,e,a]
theorem yV(q:Rat):q.num<0↔q<0:=by
 have h:=D1 q
 by_cases b:q<0
 ·rw[if_pos b]at h;refine⟨fun _=>b,fun _=>?_⟩
  by_cases a:q.num<0
  ·exact a
  ·rw[if_neg a]at h;split at h<;>omega
 ·refine⟨fun a=>?_,fun a=>(b a).elim⟩;rw[if_neg b,if_pos a]at h
  split at h<;>omega
def de(q:Rat):Int:=if q<0 then -1 else if q=0 then 0 else 1
theorem aKh:bc 0=[48]:=by
 have h:bL 0=[48]:=by rw[show(0:Int)=((0:Nat):Int)from rfl,vJ,mP]
 rw[bc,if_pos (show(0:Rat).den=1 from rfl)];exact h
theorem Js(q:Rat):bc q=[48]↔q=0:=by
 rw[<-aKh];exact⟨fun h=>Bk h,fun h=>by rw[h]⟩
theorem aJJ(q:Rat):(if bc q=[48]then(0:Int)else if bZ (bc q)=true then -1 else 1)=de q:=by
 have e:=(tV q).1;have c:=Js q;have d:q<0↔q.num<0:=(yV q).symm;rw[e,de]
 by_cases b:q=0
 ·subst b;rw[if_pos (c.2 rfl),if_neg (by decide),if_pos rfl]
 ·rw[if_neg (fun h=>b (c.1 h))]
  by_cases a:q<0
  ·rw[if_pos (by simpa using d.1 a),if_pos a]
  ·rw[if_neg (by simpa using fun h=>a (d.2 h)),if_neg a,if_neg b]
theorem ur(q:Rat)(h:bK kB q):aC prog 26 [.str (bc q)] (.int .i64 (de q)):=by
 have:=Oe (bc q) (by have:=qX h;omega)
 rwa [aJJ]at this
theorem Oi{q:Rat}(h:q<0):bc q=45::bc (-q):=by
 have a:q.num<0:=(yV q).2 h;have e1:bL q.num=45::aZ q.num.natAbs:=by rw[bL,if_pos a]
 have e2:bL (-q).num=aZ q.num.natAbs:=by rw[gb,bL,if_neg (by omega),b1]
 rw[bc,bc,Rat.neg_den,e1,e2]
 split<;>rfl
theorem Zk(q:Rat)(h:bK kB q):aC prog 143 [.str (bc q)] (.str (bc (-q))):=by
 have a:=ur q h;have f:=qX h;refine aM nf IJ mix (by simp[f143]) ?_
 by_cases b:q<0
 ·have hs:de q= -1:=by rw[de,if_pos b]
  rw[hs]at a;have c:=Oi b;rw[c]at a f⊢;simp[f143];refine c1 a ?_;simp
 ·by_cases d:q=0
  ·have hs:de q=0:=by rw[de,if_neg b,if_pos d]
   rw[hs]at a;have hq:-q=q:=by rw[d];rfl
   rw[hq];simp[f143];refine c1 a ?_;simp;refine c1 a ?_;simp
  ·have hs:de q=1:=by rw[de,if_neg b,if_neg d]
   rw[hs]at a;have e:-q<0:=by
    rw[<-yV,gb];have g:¬q.num<0:=fun h=>b ((yV q).1 h);have i:=aHo d;omega
   have c:=Oi e;rw[Rat.neg_neg]at c;rw[c];have j:(bc q).length+1<9223372036854775808:=by omega
   simp[f143];refine c1 a ?_;simp;refine c1 a ?_;simp;omega
theorem zM(a b:Rat)(f:bK kB a)(d:bK kB b):aC prog 111 [.str (bc a),.str (bc b)] (.str (bc (a-b))):=by
 have e:=Zk b d;have c:=xp a (-b) f (Cv d);rw[<-Rat.sub_eq_add_neg]at c;refine aM nf G6 mix (by simp[f111]) ?_;simp[f111];refine c1 e ?_;simp;refine c2 c ?_;simp
theorem aJI(a b:Rat):de (a-b)=fc a b:=by
 have d:a-b<0↔a<b:=by
  rw[<-gc,<-gc,<-Rat.le_iff_sub_nonneg]
 have e:a-b=0↔a=b:=by
  constructor
  ·intro h;have f:a-b+b=0+b:=by rw[h]
   rwa [Rat.sub_add_cancel,Rat.zero_add]at f
  ·rintro rfl;exact Rat.sub_self
 rw[de,fc]
 by_cases h:a<b
 ·rw[if_pos (d.2 h),if_pos h]
 ·rw[if_neg (fun x=>h (d.1 x)),if_neg h]
  by_cases c:a=b
  ·rw[if_pos (e.2 c),if_pos c]
  ·rw[if_neg (fun x=>c (e.1 x)),if_neg c]
theorem vi(a b:Rat)(d:bK (kB/3) a)(e:bK (kB/3) b):aC prog 134 [.str (bc a),.str (bc b)] (.int .i64 (fc a b)):=by
 have f:=zM a b (d.mono (by decide)) (e.mono (by decide));have c:=ur (a-b) ((yA d e).mono (by decide));rw[aJI]at c;refine aM nf Ib mix (by simp[f134]) ?_;simp[f134];refine c2 f ?_;simp;refine c1 c ?_;simp
theorem PK{a b:Nat}(h:a<=b):10^a<=10^b:=dp (by decide) h
theorem AG{s:List Nat}{k:Nat}(h:s.length<=k)(a:s.all cj=true):aX s<10^k:=dk (ju _ s rfl a) (PK h)
theorem aI0{x a b:Nat}(hx:x<10^a)(h:a<=9*b):(az bT x).length<=b:=dT ba b x (dk hx (by
 rw[show bT^b=10^(9*b)by rw[eo];rfl];exact PK h))
theorem YH(s:List Nat)(D:s.length<=1048576):aC prog 193 [.str s] (.bool (s.all cj)):=by
 refine aM nf GN mix (by simp[f193]) ?_;obtain⟨k,hk,n,o⟩:=CI (fun j=>cj (s[j]?.getD 0)) s.length;have e:∀j(h:j<s.length),s[j]?.getD 0=s[j]:=fun j h=>by rw[ce h];rfl
 have B:s.all cj=decide (k=s.length):=by
  rcases o with h|⟨a,b⟩
  ·rw[h,decide_eq_true rfl,cv];intro x hx;obtain⟨j,A,rfl⟩:=List.getElem_of_mem hx;have:=n j (by omega)
   rwa [e j A]at this
  ·rw[decide_eq_false (by omega)];rw[e k a]at b
   by_cases m:s.all cj=true
   ·have:=cv.1 m _ (cy a);rw[this]at b;cases b
   ·simpa using m
 rw[B];simp[f193];refine lp (α:=Nat) (fun i=>⟨[(3,.p (.int .i64 i)),(0,.p (.str s))],[]⟩)
  (fun i=>i<=k) (fun i=>k-i) 0 (ea _) ?_
 intro i hi;have C:be.wrap ((i:Int)+1)=(i:Int)+1:=aO _ (by omega) (by omega)
 by_cases y:i<k
 ·have l:i<s.length:=by omega
  have q:=n i y;rw[e i l]at q;have E:=zG q;generalize d:s[i]=c at*;have f:s[i]?=some c:=by rw[ce l,d]
  have a:¬(c:Int)<48:=by omega
  have b:¬(57:Int)<c:=by omega
  have t:¬c<48:=by omega
  have u:¬57<c:=by omega
  simp[l,d,f,a,b,t,u,C];exact rd (i+1) (show i+1<=k by omega)
 ·have z:i=k:=by omega
  subst z;rcases o with h|⟨a,b⟩
  ·simp[h]
  ·rw[e i a]at b;have r:¬i=s.length:=by omega
   generalize d:s[i]=c at*;have f:s[i]?=some c:=by rw[ce a,d]
   by_cases hc:c<48
   ·have g:(c:Int)<48:=by omega
    simp[a,d,f,hc,g,r]
   ·have v:57<c:=by
     simp only[cj,Bool.and_eq_false_iff,decide_eq_false_iff_not]at b;omega
    have g:¬(c:Int)<48:=by omega
    have w:(57:Int)<c:=by omega
    simp[a,d,f,hc,g,v,w,r]
theorem K4(s:List Nat)(j:s.length<=1048576):aC prog 95 [.str s] (.bool (dI s)):=by
 have b:=YH s j;refine aM nf Rc mix (by simp[f95]) ?_;cases s with
 |nil=>simp[f95,dI]
 |cons c r=>
  have k:(c:Int)=48↔c=48:=by omega
  by_cases a:r=[]
  ·subst a;have e:dI [c]=[c].all cj:=by
    rw[dI]
    by_cases h:c=48
    ·subst h;rfl
    ·simp[h]
   rw[e];simp[f95];refine c1 b ?_;simp
  ·have d:0<r.length:=cB.2 a;have f:¬(r.length:Int)+1=0:=by omega
   have g:(1:Int)<r.length+1:=by omega
   by_cases hc:c=48
   ·have e:dI (c::r)=false:=by rw[dI,hc];simp[a]
    rw[e];simp[f95,a,hc,d,f,g]
   ·have i:¬(c:Int)=48:=by omega
    have e:dI (c::r)=(c::r).all cj:=by rw[dI];simp[hc]
    rw[e];simp[f95,a,hc,i,d,f,g];refine c1 b ?_;simp
theorem qg(s:List Nat)(hs:iI s):aC prog 25 [.str s] (.int .i64 (bX s)):=by
 refine aM nf Qx mix (by simp[f25]) ?_;obtain⟨aZ,aL⟩:=hs;obtain⟨d,S⟩:∃d,cW s=d:=⟨_,rfl⟩
 obtain⟨neg,A⟩:∃neg,bZ s=neg:=⟨_,rfl⟩
 have aS:d.length<=s.length:=by rw[<-S];exact(pq s).1
 have T:=wJ d (by omega);have Y:(b7 47 d).1=bH s:=by rw[<-S];rfl
 have W:(b7 47 d).2.1=bQ s:=by rw[<-S];rfl
 have ah:(b7 47 d).2.2=ek s:=by rw[<-S];rfl
 have z:=pM 47 d;have F:=pE 47 d;rw[Y,W,ah]at z;rw[Y]at T F;rw[W]at F;obtain⟨k,hk⟩:∃k,(bH s).length=k:=⟨_,rfl⟩
 rw[hk]at T;have J:k<=d.length:=by rw[<-hk];exact F.1
 have av:d.take k=bH s:=by
  rcases z with⟨_,G⟩|⟨_,G,_⟩
  ·rw[G,<-hk];simp
  ·rw[<-G,<-hk];simp
 have M:=K4 (bH s) (by omega);have l:=K4 (bQ s) (by omega);simp[f25,-bA];rw[bA];simp[-bA];rw[bA];simp[-bA];refine join (fun st=>aN st.env 0=.p (.str s)/\aN st.env 3=.p (.str d)/\st.heap=[]) ?_ ?_
 ·cases aj:neg with
  |false=>
   have au:s=d:=by rw[<-S,cW,A,aj];rfl
   clear T z hk W Y ah av M l F J;subst au;cases s with
   |nil=>simp
   |cons c r=>
    rw[aj]at A;have hc:¬c=45:=fun h=>by rw[h]at A;simp[bZ]at A
    have an:¬(c:Int)=45:=by omega
    simp[hc,an]
  |true=>
   clear T z hk W Y ah av M l F J;cases s with
   |nil=>simp[bZ]at A;rw[aj]at A;cases A
   |cons c r=>
    have au:r=d:=by rw[<-S,cW,A,aj];rfl
    rw[aj]at A;have hc:c=45:=by simpa[bZ]using A
    simp[hc,au]
 rintro⟨aH,aV⟩ ⟨w,e,ak⟩;dsimp only at w e ak;subst ak;have ag:jR s=(dI (bH s)&&!(neg&&decide (bH s=[48]))&&(!ek s||(dI (bQ s)&&decide (bQ s≠[48])&&decide (bQ s≠[49])))):=by rw[jR,A]
 have a7:d.length<=1048576:=by omega
 have V:(bH s).all cj=true->(bQ s).all cj=true->ek s=true->0<k->d.length<=1000000->aC prog 96 [.str d] (.aG [eG (aX (bH s):Nat),eG (aX (bQ s):Nat)]):=fun y O aw aD a0=>by
  have al:bZ d=false/\cW d=d:=by
   have aG:bZ d=false:=by
    rcases z with⟨_,G⟩|⟨q1,_⟩
    ·cases X:bH s with
     |nil=>rw[X]at hk;simp at hk;omega
     |cons c r=>
      rw[X]at G y;have:=zG (cv.1 y c (by simp));rw[G,bZ];simp;omega
    ·rw[aw]at q1;cases q1
   exact⟨aG,by rw[cW,aG];rfl⟩
  have e1:bH d=bH s:=by rw[bH,al.2,Y]
  have e2:bQ d=bQ s:=by rw[bQ,al.2,W]
  have e3:ek d=true:=by rw[ek,al.2,ah];exact aw
  have:=Mg d (by rw[e1];exact y) (by rw[e2];exact O) a0;rw[jT,iG,e1,e2,al.1,if_pos e3]at this;exact this
 rw[bX];generalize jR s=N at*;generalize bH s=v at*;generalize bQ s=f at*;generalize ek s=fr at*;have U:cA k d=v:=av
 by_cases K:dI v=true
 ·have aD:0<k:=by
   rw[<-hk,cB];intro h;rw[h]at K;cases K
  obtain⟨c,r,hs⟩:∃c r,s=c::r:=by
   cases s with
   |nil=>
    have:d.length<=0:=by simpa using aS
    omega
   |cons c r=>exact⟨c,r,rfl⟩
  have ao:c=45↔neg=true:=by rw[<-A,hs];simp[bZ]
  have an:(c:Int)=45↔c=45:=by omega
  rw[K]at M;clear aL aZ S A Y W ah
  by_cases P:neg=true/\v=[48]
  ·have hf:N=false:=by rw[ag,P.1,P.2];simp
   have aR:=ao.2 P.1;rw[if_pos hf];clear z F l V ao an;subst hs aR;have X:=P.2;simp[w,e];refine c1 T ?_;simp[w,e,J,U];refine c1 M ?_;simp[w,e,J,U,X]
  ·subst hs;rw[bA];simp[w,e,-bA];refine c1 T ?_;simp[w,e,-bA];refine join (fun st=>aN st.env 3=.p (.str d)/\aN st.env 4=.p (.int .i64 k)/\st.heap=[]) ?_ ?_
   ·by_cases y:c=45
    ·have X:¬v=[48]:=fun h=>P ⟨ao.1 y,h⟩;subst y;clear z F l V;simp[w,e,J,U];refine c1 M ?_;simp[w,e,J,U,X]
    ·have aI:¬(c:Int)=45:=by omega
     clear z F l V;simp[w,e,J,U];refine c1 M ?_;simp[w,e,J,U,y,aI]
   clear w e;rintro⟨aH,aV⟩ ⟨e,j,ak⟩;dsimp only at e j ak;subst ak;cases ai:fr with
   |false=>
    have i:k=d.length:=by
     rcases z with⟨q1,_⟩|⟨_,G,_⟩
     ·rw[ai]at q1;cases q1
     ·rw[<-hk,G]
    have aE:¬k<d.length:=by omega
    have aT:f=[]:=by
     rcases z with⟨q1,_⟩|⟨_,_,a4⟩
     ·rw[ai]at q1;cases q1
     ·exact a4
    have hf:N=true:=by
     rw[ag,K,ai];simp
     by_cases y:neg=true
     ·exact .inr fun O=>P ⟨y,O⟩
     ·exact .inl (by simpa using y)
    have Z:be.wrap ((d.length:Int)-k)=0:=by rw[i,Int.sub_self];rfl
    have aa:be.wrap (-1)= -1:=rfl;rw[hf,hk,aT];clear z F l V
    by_cases I:600<k
    ·have B:¬(k:Int)<=600:=by omega
     have C:¬k<=600:=by omega
     have D:(600:Int)<k:=by omega
     simp[e,j,aE,I,B,C,D]
    ·have B:(k:Int)<=600:=by omega
     have C:k<=600:=by omega
     have D:¬(600:Int)<k:=by omega
     simp[e,j,aE,I,B,C,D,Z,aa]
   |true=>
    rw[ai]at ag V;have ar:d=v++47::f:=by
     rcases z with⟨_,G⟩|⟨q1,_⟩
     ·exact G
     ·rw[ai]at q1;cases q1
    have i:k<d.length:=by rw[ar];simp;omega
    have q:d.drop (k+1)=f:=by
     conv=>lhs;rw[ar,<-hk]
     simp
    have a8:d.length=k+1+f.length:=by rw[ar];simp;omega
    have u:be.wrap ((k:Int)+1)=(k:Int)+1:=aO _ (by omega) (by omega);have t:((k:Int)+1).toNat=k+1:=by omega
    have m:(0:Int)<=k+1:=by omega
    have n:(k:Int)+1<=d.length:=by omega
    have o:k+1<=d.length:=i;clear z F;have af:N=(dI f&&decide (f≠[48])&&decide (f≠[49])):=by
     rw[ag,K];have:(neg&&decide (v=[48]))=false:=by
      by_cases y:neg=true
      ·have:¬v=[48]:=fun O=>P ⟨y,O⟩;simp[this]
      ·have:neg=false:=by simpa using y
       rw[this];rfl
     rw[this];simp
    by_cases ap:N=true
    ·rw[ap]at af;have aW:¬N=false:=by rw[ap];decide
     rw[if_neg aW];have aK:dI f=true/\¬f=[48]/\¬f=[49]:=by
      have:=af.symm;simp only[bb,decide_eq_true_eq]at this;exact⟨this.1.1,this.1.2,this.2⟩
     obtain⟨L,H,E⟩:=aK;rw[L]at l;rw[hk];have Z:be.wrap ((d.length:Int)-k)=(d.length:Int)-k:=aO _ (by omega) (by omega);have aa:be.wrap ((d.length:Int)-k-1)=f.length:=by rw[aO _ (by omega) (by omega)];omega
     by_cases I:600<k
     ·have B:¬(k:Int)<=600:=by omega
      have C:¬k<=600:=by omega
      have D:(600:Int)<k:=by omega
      simp[e,j,i,u,t,m,n,o,q];refine c1 l ?_;simp[e,j,i,u,t,m,n,o,q,H,E,I,B,C,D]
     by_cases ab:600<f.length
     ·have B:(k:Int)<=600:=by omega
      have C:k<=600:=by omega
      have D:¬(600:Int)<k:=by omega
      have ac:(600:Int)<f.length:=by omega
      simp[e,j,i,u,t,m,n,o,q];refine c1 l ?_;simp[e,j,i,u,t,m,n,o,q,H,E,I,B,C,D,Z,aa,ab,ac]
     have B:(k:Int)<=600:=by omega
     have C:k<=600:=by omega
     have D:¬(600:Int)<k:=by omega
     have ac:¬(600:Int)<f.length:=by omega
     have R:=V (jm K) (jm L) rfl aD (by omega);have aU:=y7 L H;have a2:v.length<=700:=by omega
     have a3:f.length<=700:=by omega
     have aP:aX v<10^700:=AG (s:=v) (k:=700) a2 (jm K);have aQ:aX f<10^700:=AG (s:=f) (k:=700) a3 (jm L);have aF:∀x:Nat,x<10^700->(az bT x).length<=400000:=fun x hx=>dl (aI0 (a:=700) (b:=78) hx (by decide)) (by decide);have Q:=LQ (aX v) (aX f) (aF _ aP) (aF _ aQ);have aA:0<em (aX v) (aX f):=dz _ aU;generalize aX v=a6 at*;generalize aX f=a5 at*;obtain⟨g,am⟩:∃g,em a6 a5=g:=⟨_,rfl⟩
     simp only[am]at Q aA⊢;have a1:¬(600<k\/600<f.length):=fun h=>by rcases h with h|h;exact I h;exact ab h
     rw[if_neg a1];simp only[eG,bi]at R
     by_cases aq:g=1
     ·subst aq;have ae:az bT 1=[1]:=nP (by decide) (by decide);simp only[eT,ae]at Q R;simp[e,j,i,u,t,m,n,o,q];refine c1 l ?_;simp[e,j,i,u,t,m,n,o,q,H,E,I,B,C,D,Z,aa,ab,ac];refine c1 R ?_;simp[ad];refine c2 Q ?_;simp[am]
     ·by_cases aB:g<bT
      ·have ae:az bT g=[g]:=nP aA aB;have aY:¬(g:Int)=1:=by omega
       simp only[eT,ae]at Q R;simp[e,j,i,u,t,m,n,o,q];refine c1 l ?_;simp[e,j,i,u,t,m,n,o,q,H,E,I,B,C,D,Z,aa,ab,ac];refine c1 R ?_;simp[ad];refine c2 Q ?_;simp[aq,aY,am]
      ·have ae:¬((az bT g).length:Int)=1:=by
        intro h;have O:(az bT g).length=1:=by omega
        have:=cm ba g;rw[O,fb]at this;exact aB this
       simp only[eT]at Q R;simp[e,j,i,u,t,m,n,o,q];refine c1 l ?_;simp[e,j,i,u,t,m,n,o,q,H,E,I,B,C,D,Z,aa,ab,ac];refine c1 R ?_;simp[ad];refine c2 Q ?_;simp[aq,ae,am]
    ·have ay:N=false:=by simpa using ap
     rw[if_pos ay]
     by_cases L:dI f=true
     ·rw[L]at l
      by_cases H:f=[48]
      ·simp[e,j,i,u,t,m,n,o,q];refine c1 l ?_;simp[e,j,i,u,t,m,n,o,q,H]
      ·have E:f=[49]:=by
        rw[L]at af
        by_cases E:f=[49]
        ·exact E
        ·rw[ay]at af;simp[H,E]at af
       simp[e,j,i,u,t,m,n,o,q];refine c1 l ?_;simp[e,j,i,u,t,m,n,o,q,E]
     ·have aJ:dI f=false:=by simpa using L
      rw[aJ]at l;simp[e,j,i,u,t,m,n,o,q];refine c1 l ?_;simp[e,j,i,u,t,m,n,o,q]
 ·have ax:dI v=false:=by simpa using K
  have hf:N=false:=by rw[ag,ax];rfl
  rw[if_pos hf];rw[ax]at M;simp[w,e];refine c1 T ?_;simp[w,e,J,U];refine c1 M ?_;simp[w,e]
theorem Vu(l:List (List Nat))(f:l.length<=1000000)(hs:∀s∈l,iI s):aC prog 103 [.seq (l.map .str)] (.int .i64 (bJ (l.map bX))):=by
 refine aM nf GC mix (by simp[f103]) ?_;simp[f103];refine lp (α:=Nat) (fun i=>⟨[(3,.p (.int .i64 i)),(0,.p (.seq (l.map .str)))],[]⟩) (fun i=>i<=l.length/\bJ ((l.drop i).map bX)=bJ (l.map bX)) (fun i=>l.length-i) 0 (by simp) ?_;rintro i ⟨e,a⟩
 by_cases hi:i<l.length
 ·rw[List.drop_eq_getElem_cons hi]at a;have d:=cr (i:=i) (by omega);have hc:=qg l[i] (hs _ (cy hi));obtain⟨s,b⟩:∃s,l[i]=s:=⟨_,rfl⟩
  have c:l[i]?=some s:=by rw[ce hi,b]
  rw[b]at hc a;simp[hi,c,b];refine c1 hc ?_
  by_cases he:bX s=0
  ·simp[bJ,he]at a;simp[he,d];exact rd (i+1) ⟨hi,by simpa using a⟩
  ·simp[bJ,he]at a;simp[he,<-a]
 ·have:i=l.length:=by omega
  subst this;simp[bJ]at a;simp[<-a]
theorem yt(p:ez)(a:jF p):aC prog 31 [dB p] (.int .i64 (cq p)):=by
 have hc:=Vu [p.x,p.y] (by simp) (by intro s hs;simp at hs;rcases hs with rfl|rfl;exact a.1;exact a.2);refine aM nf QB mix (by simp[f31]) ?_;simp[f31,ad];refine cp hc (by simp;exact⟨rfl,rfl⟩) ?_;simp[cq]
theorem Jt(z:Int):47∉bL z:=by
 rw[bL];split
 ·simp only[db,not_or];exact⟨by decide,Bh (ov _) rfl⟩
 ·exact Bh (ov _) rfl
theorem Bt(q:Rat):(b7 47 (bc q)).1=bL q.num/\(q.den≠1->bc q=bL q.num++47::aZ q.den)/\(q.den=1->bc q=bL q.num):=by
 by_cases h:q.den=1
 ·have e:bc q=bL q.num:=by rw[bc,if_pos h]
  refine⟨?_,fun a=>(a h).elim,fun _=>e⟩;rw[e,CC 47 _ (Jt _)]
 ·have e:bc q=bL q.num++47::aZ q.den:=by rw[bc,if_neg h]
  refine⟨?_,fun _=>e,fun a=>(h a).elim⟩;rw[e,CV 47 _ _ (Jt _)]
theorem Zl(q:Rat)(h:bK kB q):aC prog 184 [.str (bc q)] (.str (bL q.num)):=by
 have i:=qX h;obtain⟨e,c,d⟩:=Bt q;have hs:=wJ (bc q) (by omega);rw[e]at hs;have g:(bc q).take (bL q.num).length=bL q.num:=by
  by_cases b:q.den=1
  ·rw[d b];simp
  ·rw[c b];simp
 have f:(bL q.num).length<=(bc q).length:=by
  by_cases b:q.den=1
  ·rw[d b];exact ew _
  ·rw[c b];simp
 refine aM nf GU mix (by simp[f184]) ?_;generalize bL q.num=a at*;generalize bc q=s at*;simp[f184];refine c1 hs ?_;simp[g,f]
theorem Zi(q:Rat)(h:bK kB q):aC prog 185 [.str (bc q)] (.str (aZ q.den)):=by
 have d:=qX h;obtain⟨i,j,k⟩:=Bt q;have hs:=wJ (bc q) (by omega);rw[i]at hs;refine aM nf GS mix (by simp[f185]) ?_
 by_cases c:q.den=1
 ·have e:=k c;rw[c,F0];rw[e]at hs⊢;generalize bL q.num=a at*;simp[f185];refine c1 hs ?_;simp
 ·have e:=j c;rw[e]at hs d⊢;generalize bL q.num=a at*;generalize aZ q.den=b at*;simp only[List.length_append,List.length_cons]at d;have m:¬(a.length:Int)=(a.length:Int)+(b.length+1):=by omega
  have p:be.wrap ((a.length:Int)+1)=(a.length:Int)+1:=aO _ (by omega) (by omega);have o:((a.length:Int)+1).toNat=a.length+1:=by omega
  have f:(0:Int)<=(a.length:Int)+1:=by omega
  have g:(a.length:Int)+1<=(a.length:Int)+(b.length+1):=by omega
  have l:List.drop (a.length+1) (a++47::b)=b:=by simp
  have n:cA (a.length+(b.length+1)) (a++47::b)=a++47::b:=ck (by simp);simp[f185];refine c1 hs ?_;simp[m,p,o,f,g,l,n]
theorem Zg(z:Int)(h:(bL z).length<=1000000):aC prog 183 [.str (bL z)] (.str (aZ z.natAbs)):=by
 have a:=Oe (bL z) (by omega);have g:bZ (bL z)=decide (z<0):=by
  have:=(yR z []).1;rwa [List.append_nil]at this
 have f:bL z=[48]↔z=0:=by
  have e:bL z=bc (z:Rat):=by rw[bc,if_pos (fN z),fv]
  rw[e,Js]
  exact_mod_cast Iff.rfl
 refine aM nf GV mix (by simp[f183]) ?_;rw[g]at a
 by_cases c:z<0
 ·have e:bL z=45::aZ z.natAbs:=by rw[bL,if_pos c]
  rw[if_neg (fun x=>by have:=f.1 x;omega),if_pos (by simpa using c)]at a;rw[e]at a⊢;simp[f183];refine c1 a ?_;simp
 ·have e:bL z=aZ z.natAbs:=by rw[bL,if_neg c]
  have b:∃v:Int,¬v<0/\aC prog 26 [.str (bL z)] (.int .i64 v):=by
   by_cases d:bL z=[48]
   ·rw[if_pos d]at a;exact⟨0,by omega,a⟩
   ·rw[if_neg d,if_neg (by simpa using c)]at a;exact⟨1,by omega,a⟩
  obtain⟨v,i,b⟩:=b;rw[e]at b⊢;simp[f183];refine c1 b ?_;simp[i]
def eE(s:List Nat)(D:Nat):Bool:=decide (s.length<=2*D+2)&&decide (bX s=0)&&decide ((aZ (bh s).num.natAbs).length<=D)&&decide ((aZ (bh s).den).length<=D)
theorem ZX{s:List Nat}(h:bX s=0):bK kB (bh s):=by
 obtain⟨b,c⟩:=GJ h;have a:(10:Nat)^mD<=2^kB:=dl (MV mD) (dp (by decide) (by decide));exact⟨dk b a,dk c a⟩
theorem AF(s:List Nat)(D:Nat)(hs:iI s)(v:D<=100000):aC prog 87 [.str s,.int .i64 D] (.bool (eE s D)):=by
 have g:=qg s hs;have w:=hs.1;refine aM nf Q3 mix (by simp[f87]) ?_;have h:be.wrap (2*(D:Int))=2*(D:Int):=aO _ (by omega) (by omega);have i:be.wrap (2*(D:Int)+2)=2*(D:Int)+2:=aO _ (by omega) (by omega)
 by_cases n:s.length<=2*D+2
 ·have f:(s.length:Int)<=2*(D:Int)+2:=by omega
  by_cases d:bX s=0
  ·have m:=ZX d;have e:=(jA d).1;rw[d]at g;have l:=Zl (bh s) m;have p:=Zi (bh s) m;have r:(bL (bh s).num).length<=1000000:=by
    have:=qX m;obtain⟨_,t,u⟩:=Bt (bh s)
    by_cases q:(bh s).den=1
    ·rw[u q]at this;exact this
    ·rw[t q]at this;simp at this;omega
   have o:=Zg (bh s).num r;rw[e]at l p;have hf:eE s D=(decide ((aZ (bh s).num.natAbs).length<=D)&&decide ((aZ (bh s).den).length<=D)):=by
    rw[eE,decide_eq_true n,decide_eq_true d];simp
   rw[hf];generalize aZ (bh s).num.natAbs=a at*;generalize aZ (bh s).den=b at*;generalize bL (bh s).num=c at*
   by_cases j:a.length<=D
   ·have k:(a.length:Int)<=D:=by omega
    simp[f87,h,i,f];refine c1 g ?_;simp;refine c1 l ?_;simp;refine c1 o ?_;simp[j,k];refine c1 p ?_;simp[j]
   ·have k:¬(a.length:Int)<=D:=by omega
    simp[f87,h,i,f];refine c1 g ?_;simp;refine c1 l ?_;simp;refine c1 o ?_;simp[j,k]
  ·have hf:eE s D=false:=by rw[eE,decide_eq_false d];simp
   rw[hf];simp[f87,h,i,f];refine c1 g ?_;simp[d]
 ·have f:¬(s.length:Int)<=2*(D:Int)+2:=by omega
  have hf:eE s D=false:=by rw[eE,decide_eq_false n];simp
  rw[hf];simp[f87,h,i,f]
structure V2 where
 x:Rat
 y:Rat
def eV(v:V2):PV:=dB ⟨bc v.x,bc v.y⟩
@[simp] theorem aM0(v:V2):aL (eV v)=.agg 46:=rfl
@[simp] theorem aLR(v:V2):cM (eV v)=[.str (bc v.x),.str (bc v.y)]:=rfl
theorem xd(x y:Rat):eV ⟨x,y⟩=.st 46 [.str (bc x),.str (bc y)]:=rfl
def b9(k:Nat)(v:V2):Prop:=bK k v.x/\bK k v.y
theorem b9.mono{k l:Nat}{v:V2}(h:b9 k v)(a:k<=l):b9 l v:=⟨h.1.mono a,h.2.mono a⟩
def V2.sub(v w:V2):V2:=⟨v.x-w.x,v.y-w.y⟩
def V2.add(v w:V2):V2:=⟨v.x+w.x,v.y+w.y⟩
def V2.mul(v:V2)(k:Rat):V2:=⟨v.x*k,v.y*k⟩
def V2.dot(v w:V2):Rat:=v.x*w.x+v.y*w.y
def V2.bE(v w:V2):Rat:=v.x*w.y-v.y*w.x
theorem oD{k l:Nat}{v w:V2}(h:b9 k v)(a:b9 l w):b9 (k+l+1) (v.sub w):=⟨yA h.1 a.1,yA h.2 a.2⟩
theorem aHD{k l:Nat}{v w:V2}(h:b9 k v)(a:b9 l w):b9 (k+l+1) (v.add w):=⟨Af h.1 a.1,Af h.2 a.2⟩
theorem BT{k l:Nat}{v w:V2}(h:b9 k v)(a:b9 l w):bK (k+l+(k+l)+1) (v.dot w):=Af (jx h.1 a.1) (jx h.2 a.2)
theorem FO{k l:Nat}{v w:V2}(h:b9 k v)(a:b9 l w):bK (k+l+(k+l)+1) (v.bE w):=yA (jx h.1 a.2) (jx h.2 a.1)
theorem aHZ{k l:Nat}{v:V2}{a:Rat}(h:b9 k v)(b:bK l a):b9 (k+l) (v.mul a):=⟨jx h.1 b,jx h.2 b⟩
def kQ:Nat:=20000
theorem fa{q:Rat}(h:bK kQ q):bK kB q:=h.mono (by decide)
theorem AE(v w:V2)(a:b9 kQ v)(b:b9 kQ w):aC prog 38 [eV v,eV w] (eV (v.sub w)):=by
 have c:=zM v.x w.x (fa a.1) (fa b.1);have d:=zM v.y w.y (fa a.2) (fa b.2);refine aM nf QI mix (by simp[f38]) ?_;rw[V2.sub,xd];simp[f38,ad];refine e2 c ?_;simp[ad];refine e2 d ?_;simp[ad]
theorem Ij(v w:V2)(a:b9 kQ v)(b:b9 kQ w):aC prog 37 [eV v,eV w] (.str (bc (v.dot w))):=by
 have c:=zN v.x w.x (fa a.1) (fa b.1);have d:=zN v.y w.y (fa a.2) (fa b.2);have e:=xp (v.x*w.x) (v.y*w.y) ((jx a.1 b.1).mono (by decide)) ((jx a.2 b.2).mono (by decide));refine aM nf QH mix (by simp[f37]) ?_;rw[V2.dot];simp[f37,ad];refine e2 c ?_;simp[ad];refine e2 d ?_;simp[ad];refine e2 e ?_;simp
theorem Sr(v w:V2)(a:b9 kQ v)(b:b9 kQ w):aC prog 182 [eV v,eV w] (.str (bc (v.bE w))):=by
 have c:=zN v.x w.y (fa a.1) (fa b.2);have d:=zN v.y w.x (fa a.2) (fa b.1);have e:=zM (v.x*w.y) (v.y*w.x) ((jx a.1 b.2).mono (by decide)) ((jx a.2 b.1).mono (by decide));refine aM nf GW mix (by simp[f182]) ?_;rw[V2.bE];simp[f182,ad];refine e2 c ?_;simp[ad];refine e2 d ?_;simp[ad];refine e2 e ?_;simp
theorem TU(v:V2)(a:b9 kQ v):aC prog 56 [eV v] (.str (bc (v.dot v))):=by
 refine aM nf QM mix (by simp[f56]) ?_;simp[f56,ad];refine c2 (Ij v v a a) ?_;simp
theorem Zj(v w:V2)(a:b9 kQ v)(b:b9 kQ w):aC prog 35 [eV v,eV w] (eV (v.add w)):=by
 have c:=xp v.x w.x (fa a.1) (fa b.1);have d:=xp v.y w.y (fa a.2) (fa b.2);refine aM nf QF mix (by simp[f35]) ?_;rw[V2.add,xd];simp[f35,ad];refine e2 c ?_;simp[ad];refine e2 d ?_;simp[ad]
def rj(r:Int):Rat:=((4*r*r:Int):Rat)
theorem Da{r:Int}(a:0<=r)(b:r<=1000000):0<=4*r*r/\4*r*r<=4000000000000:=by
 have c:=cc a a;have d:=Int.mul_le_mul b b a (by decide);rw[Int.mul_assoc];omega
theorem IQ{r:Int}(a:0<=r)(b:r<=1000000):bK 42 (rj r):=by
 have:=Da a b;exact rH (by omega) (by decide)
structure S3 where
 a:Rat
 b:Rat
 d:Rat
theorem Xo:prog.stoodInHeld 47=false:=by kernel_rfl
@[simp] theorem aLq:su prog 47=true:=by kernel_rfl
def iE(a b c d:List Nat):Bool:=decide (a=c/\b=d)
@[simp] theorem aLr{a b c d:List Nat}:ir prog 9 47 (.st 46 [.str a,.str b]) (.st 46 [.str c,.str d])=some (iE a b c d):=by
 have e:=underlying47;have:((a==c)&&((b==d)&&true))=iE a b c d:=by
  rw[iE,Bool.eq_iff_iff];simp
 rw[<-this];simp[ir,e,Xo,je,aL]
theorem zY(p:ez)(D:Nat)(d:jF p)(c:D<=100000):aC prog 22 [dB p,.int .i64 D] (.bool (eE p.x D&&eE p.y D)):=by
 have a:=AF p.x D d.1 c;have b:=AF p.y D d.2 c;refine aM nf Qw mix (by simp[f22]) ?_;obtain⟨x,y⟩:=p;dsimp only at a b⊢;simp only[dB];cases hx:eE x D
 ·rw[hx]at a;simp[f22,ad];refine c2 a ?_;simp
 ·rw[hx]at a;simp[f22,ad];refine c2 a ?_;simp[ad];refine c2 b ?_;simp
def xG(k:Nat)(s:S3):Prop:=bK k s.a/\bK k s.b/\bK k s.d
theorem xG.mono{k l:Nat}{s:S3}(h:xG k s)(a:k<=l):xG l s:=⟨h.1.mono a,h.2.1.mono a,h.2.2.mono a⟩
def S3.add(s t:S3):S3:=⟨s.a+t.a,s.b+t.b,s.d⟩
def S3.mul(s t:S3):S3:=⟨s.a*t.a+s.b*t.b*s.d,s.a*t.b+t.a*s.b,s.d⟩
def S3.times(x:Rat)(s:S3):S3:=⟨x*s.a,x*s.b,s.d⟩
structure P4 where
 x:S3
 y:S3
def Fp(k:Nat)(p:P4):Prop:=xG k p.x/\xG k p.y
theorem Fp.mono{k l:Nat}{p:P4}(h:Fp k p)(a:k<=l):Fp l p:=⟨h.1.mono a,h.2.mono a⟩
def P4.dot(v:V2)(p:P4):S3:=(S3.times v.x p.x).add (S3.times v.y p.y)
theorem Y9(q:Rat):de q= -1\/de q=0\/de q=1:=by
 rw[de];split
 ·exact .inl rfl
 ·split
  ·exact .inr (.inl rfl)
  ·exact .inr (.inr rfl)
def sg3(a b o:Int):Int:=if 0<=a*b then(if a=0 then b else a)else a*o
def sgS(s:S3):Int:=sg3 (de s.a) (de s.b*de s.d) (fc (s.a*s.a) (s.b*s.b*s.d))
end Go.au
