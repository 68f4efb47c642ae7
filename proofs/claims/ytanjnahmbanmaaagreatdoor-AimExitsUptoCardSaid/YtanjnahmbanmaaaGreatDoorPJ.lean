import Derived.Test.YtanjnahmbanmaaaGreatDoorPI
import Derived.Test.YtanjnahmbanmaaaGreatDoorPH
import Derived.Test.YtanjnahmbanmaaaGreatDoorPG
/- Parts of a proof. -/
set_option linter.unusedSimpArgs false
set_option linter.unusedVariables false
set_option linter.unusedSectionVars false
open Go.Proofs.Tryz
open Bool renaming false_eq_true->bb, and_eq_true->bd
open Go.IntKind renaming i64->be
open Int renaming natAbs_natCast->bi, ofNat_natAbs_of_nonpos->bl, natCast_nonneg->bo, natAbs_mul->bp, tdiv_eq_ediv_of_nonneg->bv, mul_ediv_cancel_left->b0, natAbs_neg->b1, ofNat_dvd_left->b2, natCast_ediv->b3, tmod_eq_emod_of_nonneg->b4, natAbs_of_nonneg->b5, natCast_emod->cb
open List renaming getElem?_eq_getElem->cc, take_of_length_le->ce, all_eq_true->ck, length_take->cv, getElem_mem->cx, take->cy, length_pos_iff->c6, length_drop->c9, length->da, getElem_of_eq->db, take_length->dg, take_take->dk, mem_cons->dl, map_take->dp
open Nat renaming lt_of_lt_of_le->dq, le_trans->dx, pow_le_pow_right->dy, lt_of_le_of_lt->dz, gcd_pos_of_pos_right->ea, zero_le->eb, pow_succ->ec, lt_or_ge->ed, mul_lt_mul''->ee, gcd_le_right->ei, gcd_dvd_left->ej, div_le_self->em, gcd->en, div_div_eq_div_mul->eo, pow_mul->eq, pow_add->ew, le_refl->e6, div_pos->e7, min_eq_left->e8, pow_zero->e9, pow_pos->fb, pow_one->fd, div_one->fl
open Rat renaming divInt->fm, neg_divInt_neg->fv, num_intCast->gb, den_intCast->gc, neg_num->ge, not_le->gg
namespace Go.az
open Go.Proofs
set_option maxHeartbeats 4000000
set_option maxRecDepth 100000
theorem Tx{s:List Nat}{i:Nat}(h:i<s.length):aW (s.take (i+1))=aW (s.take i)*10+(s[i]-48):=by
 rw[List.take_succ_eq_append_getElem h,wU]
theorem tW{s:List Nat}{p:Nat->Bool}(h:s.all p=true)(i:Nat):(s.take i).all p=true:=by
 rw[ck]at h⊢;intro x hx;exact h x (List.mem_of_mem_take hx)
theorem Jk{s:List Nat}{p:Nat->Bool}(h:s.all p=true)(i:Nat):(s.drop i).all p=true:=by
 rw[ck]at h⊢;intro x hx;exact h x (List.mem_of_mem_drop hx)
theorem xM{c:Nat}(h:b6 c=true):48<=c/\c<=57:=by
 simpa[b6]using h
theorem xF(s:List Nat)(e:s.all b6=true)(A:s.length<=18):au prog 234 [.str s] (.int .i64 (aW s:Nat)):=by
 refine aM nf MD mix (by simp[f234]) ?_;obtain⟨L,g⟩:∃L,L=s.length:=⟨_,rfl⟩
 have k:aW (s.take L)=aW s:=by rw[g,dg]
 rw[<-k];obtain⟨v,b⟩:∃v:Nat->Nat,∀i,aW (s.take i)=v i:=⟨_,fun _=>rfl⟩
 have o:v 0=0:=by rw[<-b];rfl
 have q:∀i(h:i<s.length),v (i+1)=v i*10+(s[i]-48):=fun i h=>by rw[<-b,<-b,Tx h]
 have f:∀i,i<=L->v i<10^i:=fun i hi=>by
  rw[<-b];exact jf i _ (by rw[cv];omega) (tW e i)
 rw[b];simp[f234];refine lp (α:=Nat) (fun i=>⟨[(4,.p (.int .i64 i)),(3,.p (.int .i64 (v i:Nat))),(0,.p (.str s))],[]⟩)
  (fun i=>i<=L) (fun i=>L-i) 0 (eb _) ?_ (he:=by simp[o])
 intro i hi
 by_cases m:i<L
 ·have a:i<s.length:=by omega
  have j:=f i hi;have z:=f (i+1) m;have hc:=xM (ck.1 e s[i] (cx a));have hs:=q i a;have n:10^i<=10^17:=dy (by decide) (by omega);have y:v i<100000000000000000:=dq j (by exact n);generalize d:s[i]=c at*;generalize B:v i=x at*;have w1:be.wrap (10*(x:Int))=10*(x:Int):=aO _ (by omega) (by omega);have r:be.wrap (10*(x:Int)+c)=10*(x:Int)+c:=aO _ (by omega) (by omega);have t:be.wrap (10*(x:Int)+c-48)=(v (i+1):Nat):=by rw[hs,aO _ (by omega) (by omega)];omega
  have u:be.wrap ((i:Int)+1)=(i:Int)+1:=aO _ (by omega) (by omega);have w:be.wrap (c:Int)=c:=aO _ (by omega) (by omega);have l:s[i]?=some c:=by rw[cc a,d]
  simp[a,d,l,w1,r,t,u,w];exact rd (i+1) (show i+1<=L by omega)
 ·have a:¬i<s.length:=by omega
  have:i=L:=by omega
  subst this;simp[a]
theorem J5(c:Nat):∀s:List Nat,c∉(bS c s).1
 |[]=>by simp[bS]
 |x::r=>by
  rw[bS]
  split
  ·simp
  ·rename_i h;simp only[dl,not_or];exact⟨fun e=>h e.symm,J5 c r⟩
theorem uu(s:List Nat)(x:s.length<=1048576):au prog 233 [.str s] (.int .i64 ((bS 47 s).1.length:Nat)):=by
 refine aM nf ME mix (by simp[f233]) ?_;obtain⟨k,hk⟩:∃k,(bS 47 s).1.length=k:=⟨_,rfl⟩
 have t:=J5 47 s;have w:k<=s.length:=by rw[<-hk];exact(rJ 47 s).1
 have n:∀j(h:j<s.length),j<k->¬s[j]=47:=by
  intro j h v e;apply t;rcases ot 47 s with⟨_,b⟩|⟨_,b,_⟩
  ·have:s[j]=(bS 47 s).1[j]'(by omega):=by
    conv=>lhs;rw[db b]
    rw[List.getElem_append_left]
   have d:(bS 47 s).1[j]'(by omega)∈(bS 47 s).1:=cx _;rw[<-this,e]at d;exact d
  ·rw[b];have d:s[j]∈s:=cx _
   rwa [e]at d
 have b:∀(h:k<s.length),s[k]=47:=by
  intro h;rcases ot 47 s with⟨_,g⟩|⟨_,g,_⟩
  ·rw[db g,List.getElem_append_right (by omega)];simp[hk]
  ·rw[g]at hk;omega
 rw[hk];simp[f233];refine lp (α:=Nat) (fun i=>⟨[(3,.p (.int .i64 i)),(0,.p (.str s))],[]⟩)
  (fun i=>i<=k) (fun i=>k-i) 0 (eb _) ?_
 intro i hi;have u:be.wrap ((i:Int)+1)=(i:Int)+1:=aO _ (by omega) (by omega)
 by_cases q:i<k
 ·have a:i<s.length:=by omega
  have f:=n i a q;generalize m:s[i]=c at*;have l:s[i]?=some c:=by rw[cc a,m]
  have o:¬(c:Int)=47:=by omega
  simp[a,m,l,o,f,u];exact rd (i+1) (show i+1<=k by omega)
 ·have r:i=k:=by omega
  subst r
  by_cases a:i<s.length
  ·have f:=b a;have l:s[i]?=some 47:=by rw[cc a,f]
   simp[a,f,l]
  ·have:i=s.length:=by omega
   simp[a,this]
theorem Kv(n:Int)(M:-9223372036854775808<=n)(O:n<=9223372036854775807):au prog 152 [.int .i64 n] (eG n):=by
 refine aM nf Me mix (by simp[f152]) ?_;obtain⟨N,P⟩:∃N,n.natAbs=N:=⟨_,rfl⟩
 have D:N<bT^3:=by
  have:bT^3=1000000000000000000000000000:=by decide
  omega
 obtain⟨g,a⟩:∃g:Nat->Nat,∀i,N/bT^i=g i:=⟨_,fun _=>rfl⟩
 have F:g 0=N:=by rw[<-a,e9,fl]
 have H:∀i,g (i+1)=g i/bT:=fun i=>by rw[<-a,<-a,eo,ec]
 have A:∀i,ae bT N i=g i% bT:=fun i=>by rw[<-a];rfl
 have G:g 3=0:=by rw[<-a,Nat.div_eq_of_lt D]
 have k:∀i,g i<=N:=fun i=>by rw[<-a];exact em _ _
 have y:∀i,i<=3->g i=0->au prog 239 [.bool (decide (n<0)),.seq (iP (row bT i N))] (eG n):=fun i I hi=>by
  have h:=Bm (decide (n<0)) (row bT i N) N (ji aX (by
   rw[<-a]at hi;rcases ed N (bT^i)with h|h
   ·exact h
   ·have:=e7 h (fb (show 0<bT by decide));omega)) (by simp[row];omega)
  have e:(if decide (n<0)=true then -(N:Int)else N)=n:=by
   by_cases c:n<0
   ·simp[c];omega
   ·simp[c];omega
  rwa [e]at h
 obtain⟨m,f⟩:∃m:Nat->Int,∀i,(if n<0 then -(g i:Int)else g i)=m i:=⟨_,fun _=>rfl⟩
 have J:m 0=n:=by rw[<-f,F];split<;>omega
 simp only[eG]at y⊢;simp[f152];refine lp (α:=Nat) (fun i=>⟨[(0,.p (.int .i64 (m i))),(2,.ptr 0 []),(3,.sl 1 i 1 0 i),(4,.p (.bool (decide (n<0))))],[.box false (.p (.st 222 [.bool false,.aL])),.arr .grow i 1 (dZ i N)]⟩)
  (fun i=>i<=3) (fun i=>3-i) 0 (eb _) ?_ (he:=by simp[J,dZ]) (hh:=by simp[dZ])
 intro i hi;have Q:bT=1000000000:=rfl;have L:=Nat.mod_lt (g i) (show 0<bT by decide);have R:=k i;have E:=Nat.div_add_mod (g i) bT;have u:g i% bT=ae bT N i:=(A i).symm
 by_cases d:g i=0
 ·have b:m i=0:=by rw[<-f,d];split<;>rfl
  have hs:=y i hi d;rcases i with _|i
  ·simp[b];refine cp hs (by simp[dZ];first|exact⟨rfl,rfl⟩|rfl) ?_ (h1:=by simp[iP,row]);simp[ad]
  ·have j:¬dZ (i+1) N=[]:=by intro h;have:=congrArg da h;rw[ib]at this;simp at this
   simp[b];refine cp hs (by simp[ib,Jt,j];first|exact⟨rfl,rfl⟩|rfl) ?_ (h1:=by simp[iP,row,dp,ce]);simp[ad]
 ·have I:i<3:=by
   rcases ed i 3 with h|h
   ·exact h
   ·rw[show i=3 by omega]at d;exact(d G).elim
  have z:=H i;have K:=A i;have l:=pG i N;have x:cy i (dZ i N)=dZ i N:=ce (by rw[ib];exact e6 _);rw[K]at l;obtain⟨r,B⟩:∃r,g i% bT=r:=⟨_,rfl⟩
  rw[B]at l L E;have u:=B.symm
  by_cases c:n<0
  ·have b:m i= -(g i:Int):=by rw[<-f,if_pos c]
   have o:m (i+1)= -(g (i+1):Int):=by rw[<-f,if_pos c]
   have j:¬(g i:Int)=0:=by omega
   have s:((g i:Nat):Int).tmod 1000000000=r:=by rw[u,b4 (bo _),cb];rfl
   have q:((g i:Nat):Int).tdiv 1000000000=(g (i+1):Nat):=by rw[z,bv (bo _),b3 (g i)];rfl
   have wr:be.wrap (r:Int)=r:=aO _ (by omega) (by omega);have C:be.wrap (-(r:Int))= -r:=aO _ (by omega) (by omega);have t:be.wrap (-(g (i+1):Int))= -(g (i+1):Nat):=aO _ (by have:=k (i+1);omega) (by have:=k (i+1);omega)
   by_cases v:r=0
   ·simp[b,d,j,s,q,wr,C,t,v,x,ib];refine⟨by simp only[cN];omega,?_⟩;exact rd (i+1) (show i+1<=3 by omega) (he:=by simp[o]) (hh:=by simp[l,v])
   ·have w:0<r:=by omega
    simp[b,d,j,s,q,wr,C,t,v,w,x,ib];refine⟨by simp only[cN];omega,?_⟩;exact rd (i+1) (show i+1<=3 by omega) (he:=by simp[o]) (hh:=by simp[l])
  ·have b:m i=(g i:Int):=by rw[<-f,if_neg c]
   have o:m (i+1)=(g (i+1):Int):=by rw[<-f,if_neg c]
   have j:¬(g i:Int)=0:=by omega
   have s:((g i:Nat):Int).tmod 1000000000=r:=by rw[u,b4 (bo _),cb];rfl
   have q:((g i:Nat):Int).tdiv 1000000000=(g (i+1):Nat):=by rw[z,bv (bo _),b3 (g i)];rfl
   have wr:be.wrap (r:Int)=r:=aO _ (by omega) (by omega);have t:be.wrap (g (i+1):Int)=(g (i+1):Nat):=aO _ (by have:=k (i+1);omega) (by have:=k (i+1);omega);have w:¬(r:Int)<0:=by omega
   simp[b,d,j,s,q,wr,t,w,x,ib];refine⟨by simp only[cN];omega,?_⟩;exact rd (i+1) (show i+1<=3 by omega) (he:=by simp[o]) (hh:=by simp[l])
theorem Gr{d:List Nat}(c:d.all b6=true){L i:Nat}(f:L=d.length)(h:9*(i+1)<=L):
 aW (d.take (L-9*(i+1)))=aW (d.take (L-9*i))/10^9/\aW ((d.take (L-9*i)).drop (L-9*(i+1)))=aW (d.take (L-9*i))% 10^9:=by
 have e:=List.take_append_drop (L-9*(i+1)) (d.take (L-9*i));rw[dk,e8 (by omega)]at e;have a:=HY (d.take (L-9*(i+1))) ((d.take (L-9*i)).drop (L-9*(i+1)));rw[e]at a;have b:((d.take (L-9*i)).drop (L-9*(i+1))).length=9:=by rw[c9,cv];omega
 rw[b]at a;have g:=jf 9 _ b (Jk (tW c _) _);generalize aW ((d.take (L-9*i)).drop (L-9*(i+1)))=y at*;generalize aW (d.take (L-9*(i+1)))=x at*;rw[a];omega
theorem Bn(s:List Nat)(k:(cM s).all b6=true)(J:s.length<=1000000):au prog 235 [.str s] (eG (if bO s=true then -(aW (cM s):Int)else aW (cM s))):=by
 refine aM nf MC mix (by simp[f235]) ?_;obtain⟨d,v⟩:∃d,cM s=d:=⟨_,rfl⟩
 obtain⟨neg,f⟩:∃neg,bO s=neg:=⟨_,rfl⟩
 obtain⟨N,F⟩:∃N,aW d=N:=⟨_,rfl⟩
 have ah:d.length<=1000000:=by rw[<-v];exact dx (nW s).1 J
 rw[v]at k⊢;rw[f,F];have ai:=J;simp[f235,-aH];rw[aH];simp[-aH];refine join (fun st=>aN st.env 0=.p (.str s)/\aN st.env 2=.ptr 0 []/\aN st.env 3=.p (.bool neg)/\st.heap=[.box false (.p (.st 222 [.bool false,.aL]))]) ?_ ?_
 ·cases s with
  |nil=>simp[<-f,bO]
  |cons c r=>
   by_cases hc:c=45
   ·simp[<-f,bO,hc]
   ·have T:¬(c:Int)=45:=by omega
    simp[<-f,bO,hc,T]
 rintro⟨S,U⟩ ⟨a,b,e,n⟩;dsimp only at a b e n;subst n;refine join (fun st=>aN st.env 0=.p (.str d)/\aN st.env 2=.ptr 0 []/\aN st.env 3=.p (.bool neg)/\st.heap=[.box false (.p (.st 222 [.bool false,.aL]))]) ?_ ?_
 ·cases neg with
  |false=>
   have D:s=d:=by rw[<-v,cM,f];rfl
   simp[a,b,e,D]
  |true=>
   cases s with
   |nil=>simp[bO]at f
   |cons c r=>
    have D:r=d:=by rw[<-v,cM,f];rfl
    simp[a,b,e,D]
 clear a b e;rintro⟨S,U⟩ ⟨a,b,e,n⟩;dsimp only at a b e n;subst n;obtain⟨L,u⟩:∃L,L=d.length:=⟨_,rfl⟩
 obtain⟨g,l⟩:∃g:Nat->Nat,∀i,N/bT^i=g i:=⟨_,fun _=>rfl⟩
 have B:∀i,9*i<=L->aW (d.take (L-9*i))=g i:=by
  intro i
  induction i with
  |zero=>intro _;rw[Nat.mul_zero,Nat.sub_zero,u,dg,F,<-l,e9,fl]
  |succ i ac=>
   intro h;rw[(Gr k u h).1,ac (by omega),<-l,<-l,eo,ec];rfl
 have V:∀i,9*(i+1)<=L->aW ((d.take (L-9*i)).drop (L-9*(i+1)))=ae bT N i:=fun i h=>by
  rw[(Gr k u h).2,B i (by omega),<-l];rfl
 have ab:∀i,9*(i+1)<=L->au prog 234 [.str ((d.take (L-9*i)).drop (L-9*(i+1)))] (.int .i64 (ae bT N i:Nat)):=fun i h=>by
  rw[<-V i h];exact xF _ (Jk (tW k _) _) (by rw[c9,cv];omega)
 have I:∀i,9*i<=L->L<=9*i+9->g i=ae bT N i/\N<bT^(i+1):=fun i j q=>by
  have H:=jf _ (d.take (L-9*i)) rfl (tW k _);rw[B i j]at H;have y:g i<bT:=dq H (by
   rw[show bT=10^9 from rfl];exact dy (by decide) (by rw[cv];omega))
  refine⟨by rw[ae,l,Nat.mod_eq_of_lt y],?_⟩;rw[<-l,Nat.div_lt_iff_lt_mul (fb (by decide))]at y;rw[ec,Nat.mul_comm];exact y
 have W:∀i,9*i<=L->L<=9*i+9->au prog 234 [.str (d.take (L-9*i))] (.int .i64 (ae bT N i:Nat)):=fun i j q=>by
  rw[<-(I i j q).1,<-B i j];exact xF _ (tW k _) (by rw[cv];omega)
 have G:∀i,9*i<=L->L<=9*i+9->au prog 239 [.bool neg,.seq (iP (row bT (i+1) N))] (eG (if neg=true then -(N:Int)else N)):=fun i j q=>
  Bm neg (row bT (i+1) N) N (ji aX (I i j q).2) (by simp[row];omega)
 generalize (if neg=true then -(N:Int)else N)=z at*;simp only[eG]at G⊢;rw[aH];simp[a,b,e,-aH];rw[aH];simp[a,b,e];refine lp (α:=Nat) (fun i=>⟨[(0,.p (.str (d.take (L-9*i)))),(2,.ptr 0 []),(3,.p (.bool neg)),(4,.sl 1 i 1 0 i)],[.box false (.p (.st 222 [.bool false,.aL])),.arr .grow i 1 (dZ i N)]⟩)
  (fun i=>9*i<=L) (fun i=>L-i) 0 (eb _) ?_ (he:=by simp[a,b,e,dZ,u]) (hh:=by simp[dZ])
 intro i hi;have x:(d.take (L-9*i)).length=L-9*i:=by rw[cv];omega
 have o:=ab i;have w:=W i hi;have E:(d.take (L-9*i)).take (L-9*(i+1))=d.take (L-9*(i+1)):=by rw[dk,e8 (by omega)]
 rw[show L-9*(i+1)=L-9*i-9 by omega]at o E;obtain⟨m,C⟩:∃m,m=L-9*i:=⟨_,rfl⟩
 rw[<-C]at x o w E;have O:=pG i N;have P:cy i (dZ i N)=dZ i N:=ce (by rw[ib];exact e6 _);have K:i+1<=cN:=by simp only[cN];omega
 by_cases af:9<m
 ·have o:=o (by omega);have Q:be.wrap ((m:Int)-9)=(m:Int)-9:=aO _ (by omega) (by omega);have R:((m:Int)-9).toNat=m-9:=by omega
  have M:(9:Int)<=m:=by omega
  have Z:9*(i+1)<=L:=by omega
  rw[<-C];generalize ag:cy m d=t at*;have aa:cy m t=t:=ce (by omega);have A:(9:Int)<m:=by omega
  have X:m-9=L-9*(i+1):=by omega
  simp[x,A,Q,R,M,aa];refine c1 o ?_;simp[P,ib,K,<-O,x,Q,R,M,E];exact rd (i+1) Z (he:=by simp[X])
 ·have w:=w (by omega);have hs:=G i hi (by omega);rw[<-C];generalize cy m d=t at*;have A:¬(9:Int)<m:=by omega
  simp[x,A];refine c1 w ?_;simp[P,ib,K,<-O];have Y:¬dZ (i+1) N=[]:=by intro h;have:=congrArg da h;rw[ib]at this;simp at this
  refine cp hs (by simp[ib,Jt,Y];first|exact⟨rfl,rfl⟩|rfl) ?_ (h1:=by simp[iP,row,dp,ce]);simp[ad]
def jF(s:List Nat):Int:=if bO s=true then -(aW (bC s):Int)else aW (bC s)
def ig(s:List Nat):Nat:=if ek s=true then aW (bK s)else 1
theorem IQ(s:List Nat)(q:(bC s).all b6=true)(l:(bK s).all b6=true)(J:s.length<=1000000):au prog 148 [.str s] (.aA [eG (jF s),eG (ig s:Nat)]):=by
 refine aM nf Mi mix (by simp[f148]) ?_;have e:=uu s (by omega);obtain⟨L,f,h,D⟩:=HL s;have I:=rJ 47 s;have C:=Kv 1 (by decide) (by decide);rcases ot 47 s with⟨q1,b⟩|⟨q1,b,N⟩
 ·have a:=Bn (bS 47 s).1 (by rw[f];exact q) (by omega);rw[L,f]at a;have d:=Bn (bS 47 s).2.1 (by
   rw[h];rw[ck]at l⊢;intro x hx;exact l x ((nW _).2 x hx)) (by omega)
  have K:bO (bK s)=false:=by
   rw[bO];cases g:bK s with
   |nil=>simp
   |cons c r=>
    have:=xM (ck.1 l c (by rw[g];simp));simp;omega
  rw[h,cM,K]at d;have m:ek s=true:=by rw[<-D];exact q1
  have nE:jF s=if bO s=true then -(aW (bC s):Int)else aW (bC s):=rfl
  have j:ig s=aW (bK s):=by rw[ig,if_pos m]
  rw[<-nE]at a;simp only[bb,if_false]at d;rw[<-j]at d;generalize M:jF s=z at*;generalize ig s=dn at*;obtain⟨i,o⟩:∃i,(bS 47 s).1=i:=⟨_,rfl⟩
  obtain⟨E,p⟩:∃E,(bS 47 s).2.1=E:=⟨_,rfl⟩
  rw[o,p]at b;rw[o]at e a;rw[p]at h;obtain⟨k,n⟩:∃k,i.length=k:=⟨_,rfl⟩
  rw[n]at e;have hk:k<s.length:=by rw[b];simp;omega
  have B:s.take k=i:=by rw[b,<-n];simp
  have g:s.drop (k+1)=bK s:=by
   rw[<-h]
   conv=>lhs;rw[b,<-n]
   simp
  clear I b o p;have G:be.wrap ((k:Int)+1)=(k:Int)+1:=aO _ (by omega) (by omega);have F:((k:Int)+1).toNat=k+1:=by omega
  have y:¬(k:Int)=s.length:=by omega
  have u:k+1<=s.length:=hk;have w:k<=s.length:=by omega
  have t:(0:Int)<=k+1:=by omega
  have v:(k:Int)+1<=s.length:=by omega
  simp only[eG]at a d⊢;simp[f148];refine c1 e ?_;simp[y,G,F,B,g,u,w,t,v];refine e1 a ?_;simp[y,G,F,B,g,u,w,t,v];refine e1 d ?_;simp[ad]
 ·have a:=Bn s (by
   have A:=f;rw[b]at A;rw[A];exact q) J
  have m:ek s=false:=by rw[<-D];exact q1
  have H:cM s=bC s:=by rw[b]at f;exact f
  have nE:jF s=if bO s=true then -(aW (bC s):Int)else aW (bC s):=rfl
  have j:ig s=1:=by rw[ig,m];rfl
  rw[H,<-nE]at a;rw[j];rw[b]at e;generalize jF s=z at*;simp only[eG]at a C⊢;simp[f148];refine c1 e ?_;simp;refine c1 a ?_;simp;refine c1 C ?_;simp[ad]
theorem Gs(n:Nat):(aY n).length<=9*(aq bT n).length+1:=by
 rcases Nat.eq_zero_or_pos n with h|h
 ·subst h;rw[pD];simp
 ·have b:0<(aq bT n).length:=by rw[c6,Ne,tT];omega
  have a:=bY aX n;rw[show bT^(aq bT n).length=10^(9*(aq bT n).length)by rw[eq];rfl]at a;exact dx (tH a (by omega)) (by omega)
def lL(n d:Int):Rat:=fm n d
theorem F9(n g:Nat):(aq bT (n/g)).length<=(aq bT n).length:=
 dN aX _ _ (dz (em n g) (bY aX n))
theorem SM(n d:Nat)(a:0<d):(aq bT (en n d)).length<=(aq bT d).length:=
 dN aX _ _ (dz (ei n a) (bY aX d))
theorem AE(n d:Int)(L:d≠0)(s:(aq bT n.natAbs).length<=400000)(j:(aq bT d.natAbs).length<=400000):au prog 149 [eG n,eG d] (.str (br (lL n d))):=by
 refine aM nf Mh mix (by simp[f149]) ?_;simp[f149,-aH,ad];rw[aH];simp[-aH,ad];refine join (fun st=>∃(e:Int)(d':Nat),0<d'/\(aq bT e.natAbs).length<=400000/\(aq bT d').length<=400000/\lL e d'=lL n d/\aN st.env 2=.ptr 0 []/\aN st.env 3=.ptr 1 []/\st.heap=[.box false (.p (eG e)),.box false (.p (eG (d':Nat)))]) ?_ ?_
 ·have P:=Ky n s;have O:=Ky d j
  by_cases h:d<0
  ·simp[h,ad];refine e1 P ?_;simp[ad];refine e1 O ?_;simp[ad];refine⟨by repeat' first|rfl|apply And.intro,?_⟩;refine⟨-n,d.natAbs,by omega,by rw[b1];exact s,j,?_,rfl,?_⟩
   ·rw[bl (by omega)];exact fv _ _
   ·rw[bl (by omega)]
  ·have A:((d.natAbs:Nat):Int)=d:=b5 (by omega);simp[h,ad];exact⟨n,d.natAbs,by omega,s,j,by rw[A],rfl,by rw[A]⟩
 rintro⟨T,U⟩ ⟨e,d',k1,k2,k3,k4,l,m,D⟩;dsimp only at l m D;subst D;rw[<-k4,show lL e d'=fm e d' from rfl];clear k4 s j L;obtain⟨u,v⟩:=kZ (n:=e) (show d'≠0 by omega);obtain⟨g,k⟩:∃g,en e.natAbs d'=g:=⟨_,rfl⟩
 have r:0<g:=by rw[<-k];exact ea _ k1
 have B:(aq bT g).length<=400000:=by rw[<-k];exact dx (SM _ _ k1) k3
 rw[k]at u v;have y:=Ir e.natAbs d' k2 k3;rw[k]at y;have I:=CJ e.natAbs g r k2 B;have J:=CJ d' g r k3 B;have Y:(aq bT (e.natAbs/g)).length<=400000:=dx (F9 _ _) k2;have Z:(aq bT (d'/g)).length<=400000:=dx (F9 _ _) k3;have w:=po (decide (e<0)) (e.natAbs/g) (by omega);have f:=po false (d'/g) (by omega);have t:(if decide (e<0)=true then -((e.natAbs/g:Nat):Int)else((e.natAbs/g:Nat):Int))=(fm e d').num:=by
  rw[u];have M:(g:Int)∣e:=by rw[<-k];exact b2.2 (ej _ _)
  obtain⟨c,hc⟩:=M;have N:(g:Int)≠0:=by omega
  rw[hc,b0 _ N,bp,bi,Nat.mul_div_cancel_left _ r]
  by_cases K:c<0
  ·have:(g:Int)*c<0:=Int.mul_neg_of_pos_of_neg (by omega) K;simp[this];omega
  ·have:¬(g:Int)*c<0:=by
    have:=Int.mul_nonneg (a:=(g:Int)) (b:=c) (by omega) (by omega);omega
   simp[this];omega
 rw[t]at w;simp only[bb,if_false]at f;have z:=B7 (fm e d').num (by
  rw[<-t];split
  ·rw[b1,bi];omega
  ·rw[bi];omega)
 have i:=B7 ((d'/g:Nat):Int) (by rw[bi];omega);rw[tI]at i;have Q:0<d'/g:=by
  refine e7 ?_ r;rw[<-k];exact ei _ k1
 have V:(bI (fm e d').num).length<=3600002:=by
  refine dx (BM _) ?_;have h:=Gs (fm e d').num.natAbs;have:(fm e d').num.natAbs=e.natAbs/g:=by
   rw[<-t];split
   ·rw[b1,bi]
   ·rw[bi]
  rw[this]at h⊢;omega
 have W:(aY (d'/g)).length<=3600001:=by
  have h:=Gs (d'/g);omega
 have F:br (fm e d')=if d'/g=1 then bI (fm e d').num else bI (fm e d').num++47::aY (d'/g):=by rw[br,v]
 rw[F];clear F t u v;generalize (fm e d').num=G at*;generalize aa:d'/g=q at*;simp only[eG,bi]at w f z i⊢;simp[l,m,ad];refine c2 y ?_;simp[l,m,ad];refine c2 I ?_;simp[l,m,ad];refine c2 J ?_;simp[l,m,ad];refine c2 w ?_;simp[l,m,ad];refine c1 z ?_;have R:∀h:q=1,aq bT q=[1]:=fun h=>by rw[h];exact mP (by decide) (by decide)
 by_cases o:q=1
 ·have x:=R o;simp[o,eT,mP (show 0<1 by decide) (show 1<bT by decide)]
 ·have C:(bI G).length+1<9223372036854775808:=by omega
  have X:(bI G).length+((aY q).length+1)<9223372036854775808:=by omega
  by_cases E:q<bT
  ·have x:=mP Q E;have S:¬(q:Int)=1:=by omega
   simp[o,eT,x,S];refine⟨C,?_⟩;simp only[eT,x,List.map_cons,List.map_nil]at f i;refine c2 f ?_;simp;refine c1 i ?_;simp;omega
  ·have j:¬((aq bT q).length:Int)=1:=by
    intro h;have H:(aq bT q).length=1:=by omega
    have:=bY aX q;rw[H,fd]at this;exact E this
   simp[o,eT,j];refine⟨C,?_⟩;simp only[eT]at f i;refine c2 f ?_;simp;refine c1 i ?_;simp;omega
theorem SR{n:Int}{g:Nat}(a:0<g)(h:g∣n.natAbs):n.tdiv g=n/g:=by
 obtain⟨c,hc⟩:=b2.2 h;subst hc;rw[Int.mul_tdiv_cancel_left _ (by omega),b0 _ (by omega)]
theorem Nh(n d:Int)(N:d≠0)(T:n.natAbs<=4000000000000000000)(O:d.natAbs<=4000000000000000000):au prog 87 [.int .i64 n,.int .i64 d] (.str (br (lL n d))):=by
 refine aM nf Ot mix (by simp[f87]) ?_;have f:¬n< -4000000000000000000:=by omega
 have i:¬4000000000000000000<n:=by omega
 have j:¬d< -4000000000000000000:=by omega
 have k:¬4000000000000000000<d:=by omega
 simp[f87,f,i,j,k,-aH];rw[aH];simp[f,i,j,k,-aH];rw[aH,aH];simp[f,i,j,k,-aH];refine join (fun st=>∃(b:Int)(d':Nat),0<d'/\b.natAbs<=4000000000000000000/\d'<=4000000000000000000/\lL b d'=lL n d/\aN st.env 0=.p (.int .i64 b)/\aN st.env 1=.p (.int .i64 (d':Nat))/\st.heap=[]) ?_ ?_
 ·have w1:be.wrap (-n)= -n:=aO _ (by omega) (by omega);have o:be.wrap (-d)= -d:=aO _ (by omega) (by omega)
  by_cases h:d<0
  ·simp[h,w1,o,f,i,j,k];refine⟨-n,d.natAbs,by omega,by omega,by omega,?_,rfl,?_⟩
   ·rw[bl (by omega)];exact fv _ _
   ·rw[bl (by omega)]
  ·have I:((d.natAbs:Nat):Int)=d:=b5 (by omega);simp[h,f,i,j,k];exact⟨n,d.natAbs,by omega,by omega,by omega,by rw[I],rfl,by rw[I]⟩
 rintro⟨V,W⟩ ⟨b,d',k1,k2,k3,k4,r,s,J⟩;dsimp only at r s J;subst J;rw[<-k4,show lL b d'=fm b d' from rfl];clear k4 T O N f i j k;obtain⟨x,D⟩:=kZ (n:=b) (show d'≠0 by omega);obtain⟨g,l⟩:∃g,en b.natAbs d'=g:=⟨_,rfl⟩
 have F:0<g:=by rw[<-l];exact ea _ k1
 rw[l]at x D;have H:=WD b.natAbs d' (by omega) (by omega);rw[l]at H;have S:(if b< -b then -b else b)=(b.natAbs:Nat):=by split<;>omega
 have w1:be.wrap (-b)= -b:=aO _ (by omega) (by omega);have z:b.tdiv g=(fm b d').num:=by rw[x,SR F (by rw[<-l];exact ej _ _)]
 have A:(d':Int).tdiv g=(d'/g:Nat):=by rw[bv (bo _),b3]
 have U:(fm b d').num.natAbs<=4000000000000000000:=by
  have Q:(g:Int)∣b:=by rw[<-l];exact b2.2 (ej _ _)
  obtain⟨c,hc⟩:=Q;have R:(g:Int)≠0:=by omega
  rw[x,hc,b0 _ R];rw[hc,bp,bi]at k2;exact dx (Nat.le_mul_of_pos_left _ F) k2
 have P:d'/g<=4000000000000000000:=dx (em _ _) k3;have ab:0<d'/g:=by
  refine e7 ?_ F;rw[<-l];exact ei _ k1
 have L:br (fm b d')=if d'/g=1 then bI (fm b d').num else bI (fm b d').num++47::aY (d'/g):=by rw[br,D]
 rw[L];clear L x D;generalize (fm b d').num=a at*;generalize ac:d'/g=q at*;have y:¬g=0:=by omega
 have u:=wR a.natAbs 1 (by omega) (by decide);have E:=wR q 1 (by omega) (by decide);have X:(aY a.natAbs).length<=19:=tH (dz U (by decide)) (by decide);have Y:(aY q).length<=19:=tH (dz P (by decide)) (by decide);rw[show low (max 1 (nd a.natAbs)) a.natAbs=aY a.natAbs from rfl]at u;rw[show low (max 1 (nd q)) q=aY q from rfl]at E;have aa:(if a< -a then -a else a)=(a.natAbs:Nat):=by split<;>omega
 have o:be.wrap (-a)= -a:=aO _ (by omega) (by omega);have B:be.wrap a=a:=aO _ (by omega) (by omega);have C:be.wrap (q:Int)=q:=aO _ (by omega) (by omega);simp[r,s,w1,S];refine c2 H ?_;have K:(1:Int)<q↔¬q=1:=by omega
 have M:be.wrap 1=1:=rfl;have Z:(aY a.natAbs).length<9223372036854775808:=by omega
 by_cases m:a<0
 ·have G:bI a=45::aY a.natAbs:=by rw[bI,if_pos m]
  rw[G];have w:a< -a:=by omega
  have v:-a=(a.natAbs:Nat):=by omega
  by_cases e:q=1
  ·simp[r,s,y,z,A,B,C,m,o,w,e];rw[v];refine c2 u ?_;simp[e,M];omega
  ·have t:=K.2 e;simp[r,s,y,z,A,B,C,m,o,w,e,t];rw[v];refine c2 u ?_;simp[e,t];refine⟨by omega,by omega,?_⟩;refine c2 E ?_;simp;omega
 ·have G:bI a=aY a.natAbs:=by rw[bI,if_neg m]
  rw[G];have v:a=(a.natAbs:Nat):=by omega
  have w:¬a< -a:=by omega
  by_cases e:q=1
  ·simp[r,s,y,z,A,B,C,m,o,w,e];rw[show PV.int .i64 a=.int .i64 (a.natAbs:Nat)by rw[<-v]];refine c2 u ?_;simp[e,M];omega
  ·have t:=K.2 e;simp[r,s,y,z,A,B,C,m,o,w,e,t];rw[show PV.int .i64 a=.int .i64 (a.natAbs:Nat)by rw[<-v]];refine c2 u ?_;simp[e,t];refine⟨by omega,by omega,?_⟩;refine c2 E ?_;simp;omega
theorem Jh(n:Int)(a:-9223372036854775808<=n)(b:n<=9223372036854775807):au prog 51 [.int .i64 n] (.str (br (n:Rat))):=by
 have e:=Kv n a b;have d:=B7 n (by
  have c:n.natAbs<bT^3:=by
   have:bT^3=1000000000000000000000000000:=by decide
   omega
  have:=dN aX 3 _ c;omega)
 have hq:br (n:Rat)=bI n:=by rw[br,if_pos (gc n),gb]
 rw[hq];refine aM nf Of mix (by simp[f51]) ?_;simp[f51];refine c1 e ?_;simp;refine c1 d ?_;simp
theorem WQ(s:List Nat)(C:(bC s).all b6=true)(J:(bK s).all b6=true)(ak:s.length<=1000000):
 ∃(n d:Int)(b:Bool),au prog 147 [.str s] (.aA [.int .i64 n,.int .i64 d,.bool b])/\(b=true->n=jF s/\d=(ig s:Nat)/\n.natAbs<1000000000/\ig s<1000000000):=by
 by_cases K:20<s.length
 ·refine⟨0,0,false,?_,fun h=>by cases h⟩;refine aM nf CB mix (by simp[f147]) ?_;have m:(20:Int)<s.length:=by omega
  simp[f147,m]
 obtain⟨d,l⟩:∃d,cM s=d:=⟨_,rfl⟩
 obtain⟨neg,g⟩:∃neg,bO s=neg:=⟨_,rfl⟩
 have ai:d.length<=s.length:=by rw[<-l];exact(nW s).1
 have i:=uu d (by omega);have A:(bS 47 d).1=bC s:=by rw[<-l];rfl
 have N:(bS 47 d).2.1=bK s:=by rw[<-l];rfl
 have P:(bS 47 d).2.2=ek s:=by rw[<-l];rfl
 have q:=ot 47 d;rw[A,N,P]at q;rw[A]at i;obtain⟨k,hk⟩:∃k,(bC s).length=k:=⟨_,rfl⟩
 rw[hk]at i;have Q:k<=d.length:=by rw[<-hk,<-A];exact(rJ 47 d).1
 have m:¬(20:Int)<s.length:=by omega
 obtain⟨b,o⟩:∃b:Bool,b=(decide (k<=9)&&decide (d.length-k<=10)):=⟨_,rfl⟩
 have M:b=true->(jF s).natAbs<1000000000/\ig s<1000000000:=fun h=>by
  rw[o]at h;simp only[bd,decide_eq_true_eq]at h;have v:=jf _ (bC s) rfl C;rw[hk]at v;have ad:aW (bC s)<1000000000:=dq v (dy (n:=10) (by decide) h.1);refine⟨by rw[jF];split<;>omega,?_⟩;rcases q with⟨q1,f⟩|⟨q1,f,af⟩
  ·have W:(bK s).length<=9:=by
    have:=congrArg da f;simp at this;omega
   have X:=jf _ (bK s) rfl J;rw[ig,if_pos q1];exact dq X (dy (n:=10) (by decide) W)
  ·rw[ig,q1,if_neg (by decide)];decide
 refine⟨if b=true then jF s else 0,if b=true then(ig s:Nat)else 0,b,?_,fun h=>⟨if_pos h,if_pos h,by rw[if_pos h];exact(M h).1,(M h).2⟩⟩;refine aM nf CB mix (by simp[f147]) ?_;simp[f147,-aH];rw[aH];simp[-aH];rw[aH];simp[-aH];rw[aH,aH];simp[m,-aH];refine join (fun st=>aN st.env 5=.p (.str s)/\aN st.env 6=.p (.bool neg)/\st.heap=[]) ?_ ?_
 ·clear K m;cases s with
  |nil=>simp[<-g,bO]
  |cons c r=>
   by_cases hc:c=45
   ·simp[<-g,bO,hc]
   ·have aa:¬(c:Int)=45:=by omega
    simp[<-g,bO,hc,aa]
 rintro⟨U,ab⟩ ⟨e,a,u⟩;dsimp only at e a u;subst u;refine join (fun st=>aN st.env 5=.p (.str d)/\aN st.env 6=.p (.bool neg)/\st.heap=[]) ?_ ?_
 ·cases t:neg with
  |false=>
   have F:s=d:=by rw[<-l,cM,g,t];rfl
   simp[e,a,t,F]
  |true=>
   clear i q hk N A P K m o;cases s with
   |nil=>simp[bO]at g;rw[t]at g;cases g
   |cons c r=>
    have F:r=d:=by rw[<-l,cM,g,t];rfl
    simp[e,a,t,F]
 clear e a;rintro⟨U,ab⟩ ⟨e,a,u⟩;dsimp only at e a u;subst u;have ah:be.wrap ((k:Int)+1)=(k:Int)+1:=aO _ (by omega) (by omega);have G:be.wrap ((d.length:Int)-k)=(d.length:Int)-k:=aO _ (by omega) (by omega);have ag:((k:Int)+1).toNat=k+1:=by omega
 have ae:jF s=if neg=true then -(aW (bC s):Int)else aW (bC s):=by rw[jF,g]
 rw[ae];rcases ed 9 k with D|D
 ·have Y:¬k<=9:=by omega
  have j:(9:Int)<k:=by omega
  have E:b=false:=by rw[o];simp[Y]
  simp[e,a];refine c1 i ?_;simp[e,a,j,E]
 rcases ed 10 (d.length-k)with I|I
 ·have V:¬d.length-k<=10:=by omega
  have j:¬(9:Int)<k:=by omega
  have x:(10:Int)<(d.length:Int)-k:=by omega
  have E:b=false:=by rw[o];simp[V]
  simp[e,a];refine c1 i ?_;simp[e,a,j,x,G,E]
 have j:¬(9:Int)<k:=by omega
 have x:¬(10:Int)<(d.length:Int)-k:=by omega
 have y:b=true:=by rw[o];simp[D,I]
 have R:d.take k=bC s:=by
  rcases q with⟨_,f⟩|⟨_,f,_⟩
  ·rw[f,<-hk];simp
  ·rw[<-f,<-hk];simp
 have L:=xF (bC s) C (by omega);have v:=jf _ (bC s) rfl C;rw[hk]at v;have ad:aW (bC s)<1000000000:=dq v (dy (n:=10) (by decide) D);rcases q with⟨q1,f⟩|⟨q1,f,af⟩
 ·have z:k<d.length:=by rw[f];simp;omega
  have O:d.drop (k+1)=bK s:=by
   conv=>lhs;rw[f,<-hk]
   simp
  have aj:(bK s).length<=9:=by rw[<-O,c9];omega
  have Z:=xF (bK s) J (by omega);have B:ig s=aW (bK s):=by rw[ig,if_pos q1]
  rw[B];generalize aW (bK s)=al at*;generalize aW (bC s)=w at*;have H:be.wrap (-(w:Int))= -(w:Int):=aO _ (by omega) (by omega);clear f;simp[e,a];refine c1 i ?_;have S:(0:Int)<=k+1:=by omega
  have ac:k+1<=d.length:=z;have T:(k:Int)+1<=d.length:=by omega
  simp[e,a,j,x,G,y,Q,R];refine c1 L ?_;cases neg<;>
  ·simp[e,a,z,ac,ah,ag,O,S,T];refine c1 Z ?_;simp[a,H,y]
 ·have z:¬k<d.length:=by rw[<-f,hk];omega
  have B:ig s=1:=by rw[ig,q1];rfl
  rw[B];generalize aW (bC s)=w at*;have H:be.wrap (-(w:Int))= -(w:Int):=aO _ (by omega) (by omega);simp[e,a];refine c1 i ?_;simp[e,a,j,x,G,y,Q,R];refine c1 L ?_;cases neg<;>simp[e,a,z,H,y]
theorem AJ{n k:Nat}(h:n<2^k):(aq bT n).length<=k/29+1:=by
 refine dN aX _ _ (dq h ?_);have a:2^29<=bT:=by decide
 refine dx ?_ (Nat.pow_le_pow_left a _);rw[<-eq];exact dy (by decide) (by omega)
theorem JQ(q:Rat):jF (br q)=q.num:=by
 obtain⟨a,b,_,_⟩:=tY q;rw[jF,a,b,xj]
 by_cases h:q.num<0
 ·rw[if_pos (by simpa using h)];omega
 ·rw[if_neg (by simpa using h)];omega
theorem J9(q:Rat):ig (br q)=q.den:=by
 obtain⟨_,_,a,b⟩:=tY q;rw[ig,a,b]
 by_cases h:q.den=1
 ·rw[if_neg (by simpa using h),h]
 ·rw[if_pos (by simpa using h),if_neg h,xj]
theorem zj(q:Rat):(bC (br q)).all b6=true/\(bK (br q)).all b6=true:=by
 obtain⟨_,a,_,b⟩:=tY q;refine⟨by rw[a];exact qj _,?_⟩;rw[b];split
 ·rfl
 ·exact qj _
theorem pJ{q:Rat}(h:bt kB q):(br q).length<=1000000:=by
 have a:(aY q.num.natAbs).length<=33334:=vh (K:=kB) (k:=33334) h.1 (by decide) (by decide);have b:(aY q.den).length<=33334:=vh (K:=kB) (k:=33334) h.2 (by decide) (by decide);have:=aGH q;omega
theorem xo(q:Rat)(h:bt kB q):∃(n d:Int)(b:Bool),au prog 147 [.str (br q)] (.aA [.int .i64 n,.int .i64 d,.bool b])/\(b=true->n=q.num/\d=(q.den:Nat)/\n.natAbs<1000000000/\q.den<1000000000):=by
 have:=WQ (br q) (zj q).1 (zj q).2 (pJ h)
 rwa [JQ,J9]at this
theorem tU(q:Rat)(h:bt kB q):au prog 148 [.str (br q)] (.aA [eG q.num,eG (q.den:Nat)]):=by
 have:=IQ (br q) (zj q).1 (zj q).2 (pJ h)
 rwa [JQ,J9]at this
theorem XQ(a b:Rat):lL (a.num*b.den+b.num*a.den) (a.den*b.den)=a+b:=by
 rw[Rat.add_def'];rfl
theorem XR(a b:Rat):lL (a.num*b.num) (a.den*b.den)=a*b:=by
 rw[Rat.mul_def,Rat.normalize_eq_mkRat];rfl
theorem Mw(a b:Rat):((a.den:Nat):Int)*(b.den:Nat)≠0:=by
 have c:=a.den_pos;have d:=b.den_pos;exact Int.ne_of_gt (Int.mul_pos (by omega) (by omega))
theorem u3{x y:Int}(hx:x.natAbs<1000000000)(a:y.natAbs<1000000000):(x*y).natAbs<=999999998000000001:=by
 rw[bp];exact Nat.mul_le_mul (show x.natAbs<=999999999 by omega) (show y.natAbs<=999999999 by omega)
theorem tR{x y:Int}(hx:x.natAbs<2^kB)(a:y.natAbs<2^kB):(aq bT (x*y).natAbs).length<=10000:=by
 have h:=AJ (n:=(x*y).natAbs) (k:=kB+kB) (by rw[bp,ew];exact ee hx a);exact dx h (by decide)
theorem kF{x:Nat}(hx:x<2^kB):(aq bT x).length<=10000:=dx (AJ hx) (by decide)
theorem CN(a b:Rat)(h:bt kB a)(i:bt kB b):au prog 146 [.str (br a),.str (br b)] (.str (br (a+b))):=by
 obtain⟨n,d,p,A,E⟩:=xo a h;obtain⟨m,e,r,B,F⟩:=xo b i;have t:=tU a h;have u:=tU b i;refine aM nf Mj mix (by simp[f146]) ?_;rw[<-XQ];have z:=Mw a b
 by_cases j:p=true/\r=true
 ·obtain⟨rfl,rfl,k1,k2⟩:=E j.1;obtain⟨rfl,rfl,k3,k4⟩:=F j.2;have N:=u3 k1 (show((b.den:Nat):Int).natAbs<1000000000 by rw[bi];exact k4);have O:=u3 k3 (show((a.den:Nat):Int).natAbs<1000000000 by rw[bi];exact k2);have P:=u3 (show((a.den:Nat):Int).natAbs<1000000000 by rw[bi];exact k2) (show((b.den:Nat):Int).natAbs<1000000000 by rw[bi];exact k4);have C:=Nh (a.num*b.den+b.num*a.den) (a.den*b.den) z (by omega) (by omega);have w1:be.wrap (a.num*(b.den:Nat))=a.num*(b.den:Nat):=aO _ (by omega) (by omega);have H:be.wrap (b.num*(a.den:Nat))=b.num*(a.den:Nat):=aO _ (by omega) (by omega);have I:be.wrap (a.num*(b.den:Nat)+b.num*(a.den:Nat))=a.num*(b.den:Nat)+b.num*(a.den:Nat):=aO _ (by omega) (by omega);have J:be.wrap (((a.den:Nat):Int)*(b.den:Nat))=((a.den:Nat):Int)*(b.den:Nat):=aO _ (by omega) (by omega);have g:p=true:=j.1;have q:r=true:=j.2;simp[f146];refine c1 A ?_;simp;refine c1 B ?_;simp[g,q,w1,H,I,J];refine c2 C ?_;simp
 ·have l:a.num.natAbs<2^kB:=h.1;have o:b.num.natAbs<2^kB:=i.1;have c:((a.den:Nat):Int).natAbs<2^kB:=by rw[bi];exact h.2
  have f:((b.den:Nat):Int).natAbs<2^kB:=by rw[bi];exact i.2
  have w:=ur a.num (b.den:Nat) (by have:=kF l;have:=kF f;omega);have x:=ur b.num (a.den:Nat) (by have:=kF o;have:=kF c;omega);have y:=ur (a.den:Nat) (b.den:Nat) (by have:=kF c;have:=kF f;omega);have K:=tR l f;have L:=tR o c;have M:=tR c f;have v:=WO (a.num*(b.den:Nat)) (b.num*(a.den:Nat)) (by omega) (by omega);have G:(aq bT (a.num*(b.den:Nat)+b.num*(a.den:Nat)).natAbs).length<=400000:=by
   refine dx (AJ (k:=kB+kB+1) ?_) (by decide);have q1:(a.num*(b.den:Nat)).natAbs<2^(kB+kB):=by rw[bp,ew];exact ee l f
   have Q:(b.num*(a.den:Nat)).natAbs<2^(kB+kB):=by rw[bp,ew];exact ee o c
   rw[ec];omega
  have s:=AE (a.num*(b.den:Nat)+b.num*(a.den:Nat)) ((a.den:Nat)*(b.den:Nat)) z G (by omega);simp[f146];refine c1 A ?_;simp;refine c1 B ?_;have D:(p=false)\/(p=true/\r=false):=by cases p<;>cases r<;>simp_all
  rcases D with g|⟨g,q⟩
  ·simp[g];refine c1 t ?_;simp[ad];refine c1 u ?_;simp[ad];refine e2 w ?_;simp[ad];refine e2 x ?_;simp[ad];refine e2 v ?_;simp[ad];refine e2 y ?_;simp[ad];refine e2 s ?_;simp
  ·simp[g,q];refine c1 t ?_;simp[ad];refine c1 u ?_;simp[ad];refine e2 w ?_;simp[ad];refine e2 x ?_;simp[ad];refine e2 v ?_;simp[ad];refine e2 y ?_;simp[ad];refine e2 s ?_;simp
theorem uP(a b:Rat)(f:bt kB a)(g:bt kB b):au prog 50 [.str (br a),.str (br b)] (.str (br (a*b))):=by
 obtain⟨n,d,p,x,B⟩:=xo a f;obtain⟨m,e,r,y,C⟩:=xo b g;have s:=tU a f;have t:=tU b g;refine aM nf Oe mix (by simp[f50]) ?_;rw[<-XR];have w:=Mw a b
 by_cases h:p=true/\r=true
 ·obtain⟨rfl,rfl,k1,k2⟩:=B h.1;obtain⟨rfl,rfl,k3,k4⟩:=C h.2;have G:=u3 k1 k3;have H:=u3 (show((a.den:Nat):Int).natAbs<1000000000 by rw[bi];exact k2) (show((b.den:Nat):Int).natAbs<1000000000 by rw[bi];exact k4);have z:=Nh (a.num*b.num) (a.den*b.den) w (by omega) (by omega);have w1:be.wrap (a.num*b.num)=a.num*b.num:=aO _ (by omega) (by omega);have D:be.wrap (((a.den:Nat):Int)*(b.den:Nat))=((a.den:Nat):Int)*(b.den:Nat):=aO _ (by omega) (by omega);have c:p=true:=h.1;have i:r=true:=h.2;simp[f50];refine c1 x ?_;simp;refine c1 y ?_;simp[c,i,w1,D];refine c2 z ?_;simp
 ·have j:a.num.natAbs<2^kB:=f.1;have l:b.num.natAbs<2^kB:=g.1;have k:((a.den:Nat):Int).natAbs<2^kB:=by rw[bi];exact f.2
  have o:((b.den:Nat):Int).natAbs<2^kB:=by rw[bi];exact g.2
  have u:=ur a.num b.num (by have:=kF j;have:=kF l;omega);have v:=ur (a.den:Nat) (b.den:Nat) (by have:=kF k;have:=kF o;omega);have E:=tR j l;have F:=tR k o;have q:=AE (a.num*b.num) ((a.den:Nat)*(b.den:Nat)) w (by omega) (by omega);simp[f50];refine c1 x ?_;simp;refine c1 y ?_;have A:(p=false)\/(p=true/\r=false):=by cases p<;>cases r<;>simp_all
  rcases A with c|⟨c,i⟩
  ·simp[c];refine c1 s ?_;simp[ad];refine c1 t ?_;simp[ad];refine e2 u ?_;simp[ad];refine e2 v ?_;simp[ad];refine e2 q ?_;simp
  ·simp[c,i];refine c1 s ?_;simp[ad];refine c1 t ?_;simp[ad];refine e2 u ?_;simp[ad];refine e2 v ?_;simp[ad];refine e2 q ?_;simp
theorem Yx{a:Rat}(h:a≠0):lL (a.den:Nat) a.num=a⁻¹:=by
 rw[Rat.inv_def];rfl
theorem LK{a:Rat}(h:a≠0):a.num≠0:=fun e=>h (Rat.num_eq_zero.1 e)
theorem Qv(a:Rat)(b:bt kB a)(c:a≠0):au prog 96 [.str (br a)] (.str (br a⁻¹)):=by
 have g:=tU a b;have e:a.num.natAbs<2^kB:=b.1;have f:((a.den:Nat):Int).natAbs<2^kB:=by rw[bi];exact b.2
 have d:=AE ((a.den:Nat):Int) a.num (LK c) (by have:=kF f;omega) (by have:=kF e;omega);rw[Yx c]at d;refine aM nf Oz mix (by simp[f96]) ?_;simp[f96];refine c1 g ?_;simp[ad];refine c2 d ?_;simp
theorem Wm(a b:Rat)(g:bt kB a)(d:bt kB b)(e:b≠0):au prog 94 [.str (br a),.str (br b)] (.str (br (a/b))):=by
 have f:=Qv b d e;have c:=uP a b⁻¹ g (Ah d);rw[<-Rat.div_def]at c;refine aM nf Oy mix (by simp[f94]) ?_;simp[f94];refine c1 f ?_;simp;refine c2 c ?_;simp
theorem KC(s:List Nat)(g:s.length<=1048576):au prog 115 [.str s] (.int .i64 (if s=[48]then 0 else if bO s=true then -1 else 1)):=by
 refine aM nf Mn mix (by simp[f115]) ?_
 by_cases b:s=[48]
 ·simp[f115,b]
 ·cases s with
  |nil=>simp[f115,bO]
  |cons c r=>
   by_cases hc:c=45
   ·simp[f115,bO,hc]
   ·have e:¬(c:Int)=45:=by omega
    have d:¬(c=48/\r=[]):=fun h=>b (by rw[h.1,h.2])
    by_cases a:c=48
    ·have f:¬r=[]:=fun h=>d ⟨a,h⟩;simp[f115,bO,a,f]
    ·simp[f115,bO,hc,e,a]
theorem w8(q:Rat):q.num<0↔q<0:=by
 have h:=Cp q
 by_cases b:q<0
 ·rw[if_pos b]at h;refine⟨fun _=>b,fun _=>?_⟩
  by_cases a:q.num<0
  ·exact a
  ·rw[if_neg a]at h;split at h<;>omega
 ·refine⟨fun a=>?_,fun a=>(b a).elim⟩;rw[if_neg b,if_pos a]at h
  split at h<;>omega
def cV(q:Rat):Int:=if q<0 then -1 else if q=0 then 0 else 1
theorem se:br 0=[48]:=by
 have h:bI 0=[48]:=by rw[show(0:Int)=((0:Nat):Int)from rfl,tI,pD]
 rw[br,if_pos (show(0:Rat).den=1 from rfl)];exact h
theorem FO(q:Rat):br q=[48]↔q=0:=by
 rw[<-se];exact⟨fun h=>aGG h,fun h=>by rw[h]⟩
theorem aGc(q:Rat):(if br q=[48]then(0:Int)else if bO (br q)=true then -1 else 1)=cV q:=by
 have e:=(tY q).1;have c:=FO q;have d:q<0↔q.num<0:=(w8 q).symm;rw[e,cV]
 by_cases b:q=0
 ·subst b;rw[if_pos (c.2 rfl),if_neg (by decide),if_pos rfl]
 ·rw[if_neg (fun h=>b (c.1 h))]
  by_cases a:q<0
  ·rw[if_pos (by simpa using d.1 a),if_pos a]
  ·rw[if_neg (by simpa using fun h=>a (d.2 h)),if_neg a,if_neg b]
theorem uJ(q:Rat)(h:bt kB q):au prog 115 [.str (br q)] (.int .i64 (cV q)):=by
 have:=KC (br q) (by have:=pJ h;omega)
 rwa [aGc]at this
theorem KF{q:Rat}(h:q<0):br q=45::br (-q):=by
 have a:q.num<0:=(w8 q).2 h;have e1:bI q.num=45::aY q.num.natAbs:=by rw[bI,if_pos a]
 have e2:bI (-q).num=aY q.num.natAbs:=by rw[ge,bI,if_neg (by omega),b1]
 rw[br,br,Rat.neg_den,e1,e2]
 split<;>rfl
theorem Wp(q:Rat)(h:bt kB q):au prog 56 [.str (br q)] (.str (br (-q))):=by
 have a:=uJ q h;have f:=pJ h;refine aM nf Oh mix (by simp[f56]) ?_
 by_cases b:q<0
 ·have hs:cV q= -1:=by rw[cV,if_pos b]
  rw[hs]at a;have c:=KF b;rw[c]at a f⊢;simp[f56];refine c1 a ?_;simp
 ·by_cases d:q=0
  ·have hs:cV q=0:=by rw[cV,if_neg b,if_pos d]
   rw[hs]at a;have hq:-q=q:=by rw[d];rfl
   rw[hq];simp[f56];refine c1 a ?_;simp;refine c1 a ?_;simp
  ·have hs:cV q=1:=by rw[cV,if_neg b,if_neg d]
   rw[hs]at a;have e:-q<0:=by
    rw[<-w8,ge];have g:¬q.num<0:=fun h=>b ((w8 q).1 h);have i:=LK d;omega
   have c:=KF e;rw[Rat.neg_neg]at c;rw[c];have j:(br q).length+1<9223372036854775808:=by omega
   simp[f56];refine c1 a ?_;simp;refine c1 a ?_;simp;omega
theorem xP(a b:Rat)(f:bt kB a)(d:bt kB b):au prog 53 [.str (br a),.str (br b)] (.str (br (a-b))):=by
 have e:=Wp b d;have c:=CN a (-b) f (sc d);rw[<-Rat.sub_eq_add_neg]at c;refine aM nf Og mix (by simp[f53]) ?_;simp[f53];refine c1 e ?_;simp;refine c2 c ?_;simp
theorem aGb(a b:Rat):cV (a-b)=dG a b:=by
 have d:a-b<0↔a<b:=by
  rw[<-gg,<-gg,<-Rat.le_iff_sub_nonneg]
 have e:a-b=0↔a=b:=by
  constructor
  ·intro h;have f:a-b+b=0+b:=by rw[h]
   rwa [Rat.sub_add_cancel,Rat.zero_add]at f
  ·rintro rfl;exact Rat.sub_self
 rw[cV,dG]
 by_cases h:a<b
 ·rw[if_pos (d.2 h),if_pos h]
 ·rw[if_neg (fun x=>h (d.1 x)),if_neg h]
  by_cases c:a=b
  ·rw[if_pos (e.2 c),if_pos c]
  ·rw[if_neg (fun x=>c (e.1 x)),if_neg c]
theorem tz(a b:Rat)(d:bt (kB/3) a)(e:bt (kB/3) b):au prog 90 [.str (br a),.str (br b)] (.int .i64 (dG a b)):=by
 have f:=xP a b (d.mono (by decide)) (e.mono (by decide));have c:=uJ (a-b) ((tG d e).mono (by decide));rw[aGb]at c;refine aM nf Ox mix (by simp[f90]) ?_;simp[f90];refine c2 f ?_;simp;refine c1 c ?_;simp
theorem Na{a b:Nat}(h:a<=b):10^a<=10^b:=dy (by decide) h
theorem M9{s:List Nat}{k:Nat}(h:s.length<=k)(a:s.all b6=true):aW s<10^k:=dq (jf _ s rfl a) (Na h)
theorem aFo{x a b:Nat}(hx:x<10^a)(h:a<=9*b):(aq bT x).length<=b:=dN aX b x (dq hx (by
 rw[show bT^b=10^(9*b)by rw[eq];rfl];exact Na h))
theorem VH(s:List Nat)(D:s.length<=1048576):au prog 314 [.str s] (.bool (s.all b6)):=by
 refine aM nf Lc mix (by simp[f314]) ?_;obtain⟨k,hk,n,o⟩:=xw (fun j=>b6 (s[j]?.getD 0)) s.length;have e:∀j(h:j<s.length),s[j]?.getD 0=s[j]:=fun j h=>by rw[cc h];rfl
 have B:s.all b6=decide (k=s.length):=by
  rcases o with h|⟨a,b⟩
  ·rw[h,decide_eq_true rfl,ck];intro x hx;obtain⟨j,A,rfl⟩:=List.getElem_of_mem hx;have:=n j (by omega)
   rwa [e j A]at this
  ·rw[decide_eq_false (by omega)];rw[e k a]at b
   by_cases m:s.all b6=true
   ·have:=ck.1 m _ (cx a);rw[this]at b;cases b
   ·simpa using m
 rw[B];simp[f314];refine lp (α:=Nat) (fun i=>⟨[(3,.p (.int .i64 i)),(0,.p (.str s))],[]⟩)
  (fun i=>i<=k) (fun i=>k-i) 0 (eb _) ?_
 intro i hi;have C:be.wrap ((i:Int)+1)=(i:Int)+1:=aO _ (by omega) (by omega)
 by_cases y:i<k
 ·have l:i<s.length:=by omega
  have q:=n i y;rw[e i l]at q;have E:=xM q;generalize d:s[i]=c at*;have f:s[i]?=some c:=by rw[cc l,d]
  have a:¬(c:Int)<48:=by omega
  have b:¬(57:Int)<c:=by omega
  have t:¬c<48:=by omega
  have u:¬57<c:=by omega
  simp[l,d,f,a,b,t,u,C];exact rd (i+1) (show i+1<=k by omega)
 ·have z:i=k:=by omega
  subst z;rcases o with h|⟨a,b⟩
  ·simp[h]
  ·rw[e i a]at b;have r:¬i=s.length:=by omega
   generalize d:s[i]=c at*;have f:s[i]?=some c:=by rw[cc a,d]
   by_cases hc:c<48
   ·have g:(c:Int)<48:=by omega
    simp[a,d,f,hc,g,r]
   ·have v:57<c:=by
     simp only[b6,Bool.and_eq_false_iff,decide_eq_false_iff_not]at b;omega
    have g:¬(c:Int)<48:=by omega
    have w:(57:Int)<c:=by omega
    simp[a,d,f,hc,g,v,w,r]
theorem Hv(s:List Nat)(j:s.length<=1048576):au prog 259 [.str s] (.bool (dC s)):=by
 have b:=VH s j;refine aM nf Lv mix (by simp[f259]) ?_;cases s with
 |nil=>simp[f259,dC]
 |cons c r=>
  have k:(c:Int)=48↔c=48:=by omega
  by_cases a:r=[]
  ·subst a;have e:dC [c]=[c].all b6:=by
    rw[dC]
    by_cases h:c=48
    ·subst h;rfl
    ·simp[h]
   rw[e];simp[f259];refine c1 b ?_;simp
  ·have d:0<r.length:=c6.2 a;have f:¬(r.length:Int)+1=0:=by omega
   have g:(1:Int)<r.length+1:=by omega
   by_cases hc:c=48
   ·have e:dC (c::r)=false:=by rw[dC,hc];simp[a]
    rw[e];simp[f259,a,hc,d,f,g]
   ·have i:¬(c:Int)=48:=by omega
    have e:dC (c::r)=(c::r).all b6:=by rw[dC];simp[hc]
    rw[e];simp[f259,a,hc,i,d,f,g];refine c1 b ?_;simp
theorem uX(s:List Nat)(hs:jn s):au prog 174 [.str s] (.int .i64 (bU s)):=by
 refine aM nf MN mix (by simp[f174]) ?_;obtain⟨a1,aP⟩:=hs;obtain⟨d,S⟩:∃d,cM s=d:=⟨_,rfl⟩
 obtain⟨neg,A⟩:∃neg,bO s=neg:=⟨_,rfl⟩
 have aT:d.length<=s.length:=by rw[<-S];exact(nW s).1
 have T:=uu d (by omega);have Y:(bS 47 d).1=bC s:=by rw[<-S];rfl
 have W:(bS 47 d).2.1=bK s:=by rw[<-S];rfl
 have ah:(bS 47 d).2.2=ek s:=by rw[<-S];rfl
 have z:=ot 47 d;have F:=rJ 47 d;rw[Y,W,ah]at z;rw[Y]at T F;rw[W]at F;obtain⟨k,hk⟩:∃k,(bC s).length=k:=⟨_,rfl⟩
 rw[hk]at T;have J:k<=d.length:=by rw[<-hk];exact F.1
 have ax:d.take k=bC s:=by
  rcases z with⟨_,G⟩|⟨_,G,_⟩
  ·rw[G,<-hk];simp
  ·rw[<-G,<-hk];simp
 have M:=Hv (bC s) (by omega);have l:=Hv (bK s) (by omega);simp[f174,-aH];rw[aH];simp[-aH];rw[aH];simp[-aH];refine join (fun st=>aN st.env 0=.p (.str s)/\aN st.env 3=.p (.str d)/\st.heap=[]) ?_ ?_
 ·cases aj:neg with
  |false=>
   have aw:s=d:=by rw[<-S,cM,A,aj];rfl
   clear T z hk W Y ah ax M l F J;subst aw;cases s with
   |nil=>simp
   |cons c r=>
    rw[aj]at A;have hc:¬c=45:=fun h=>by rw[h]at A;simp[bO]at A
    have an:¬(c:Int)=45:=by omega
    simp[hc,an]
  |true=>
   clear T z hk W Y ah ax M l F J;cases s with
   |nil=>simp[bO]at A;rw[aj]at A;cases A
   |cons c r=>
    have aw:r=d:=by rw[<-S,cM,A,aj];rfl
    rw[aj]at A;have hc:c=45:=by simpa[bO]using A
    simp[hc,aw]
 rintro⟨aI,aY⟩ ⟨w,e,ak⟩;dsimp only at w e ak;subst ak;have ag:mr s=(dC (bC s)&&!(neg&&decide (bC s=[48]))&&(!ek s||(dC (bK s)&&decide (bK s≠[48])&&decide (bK s≠[49])))):=by rw[mr,A]
 have a9:d.length<=1048576:=by omega
 have V:(bC s).all b6=true->(bK s).all b6=true->ek s=true->0<k->d.length<=1000000->au prog 148 [.str d] (.aA [eG (aW (bC s):Nat),eG (aW (bK s):Nat)]):=fun y O ay aD a2=>by
  have al:bO d=false/\cM d=d:=by
   have aG:bO d=false:=by
    rcases z with⟨_,G⟩|⟨q1,_⟩
    ·cases X:bC s with
     |nil=>rw[X]at hk;simp at hk;omega
     |cons c r=>
      rw[X]at G y;have:=xM (ck.1 y c (by simp));rw[G,bO];simp;omega
    ·rw[ay]at q1;cases q1
   exact⟨aG,by rw[cM,aG];rfl⟩
  have e1:bC d=bC s:=by rw[bC,al.2,Y]
  have e2:bK d=bK s:=by rw[bK,al.2,W]
  have e3:ek d=true:=by rw[ek,al.2,ah];exact ay
  have:=IQ d (by rw[e1];exact y) (by rw[e2];exact O) a2;rw[jF,ig,e1,e2,al.1,if_pos e3]at this;exact this
 rw[bU];generalize mr s=N at*;generalize bC s=v at*;generalize bK s=f at*;generalize ek s=fr at*;have U:cy k d=v:=ax
 by_cases K:dC v=true
 ·have aD:0<k:=by
   rw[<-hk,c6];intro h;rw[h]at K;cases K
  obtain⟨c,r,hs⟩:∃c r,s=c::r:=by
   cases s with
   |nil=>
    have:d.length<=0:=by simpa using aT
    omega
   |cons c r=>exact⟨c,r,rfl⟩
  have ao:c=45↔neg=true:=by rw[<-A,hs];simp[bO]
  have an:(c:Int)=45↔c=45:=by omega
  rw[K]at M;clear aP a1 S A Y W ah
  by_cases P:neg=true/\v=[48]
  ·have hf:N=false:=by rw[ag,P.1,P.2];simp
   have aS:=ao.2 P.1;rw[if_pos hf];clear z F l V ao an;subst hs aS;have X:=P.2;simp[w,e];refine c1 T ?_;simp[w,e,J,U];refine c1 M ?_;simp[w,e,J,U,X]
  ·subst hs;rw[aH];simp[w,e,-aH];refine c1 T ?_;simp[w,e,-aH];refine join (fun st=>aN st.env 3=.p (.str d)/\aN st.env 4=.p (.int .i64 k)/\st.heap=[]) ?_ ?_
   ·by_cases y:c=45
    ·have X:¬v=[48]:=fun h=>P ⟨ao.1 y,h⟩;subst y;clear z F l V;simp[w,e,J,U];refine c1 M ?_;simp[w,e,J,U,X]
    ·have aJ:¬(c:Int)=45:=by omega
     clear z F l V;simp[w,e,J,U];refine c1 M ?_;simp[w,e,J,U,y,aJ]
   clear w e;rintro⟨aI,aY⟩ ⟨e,j,ak⟩;dsimp only at e j ak;subst ak;cases ai:fr with
   |false=>
    have i:k=d.length:=by
     rcases z with⟨q1,_⟩|⟨_,G,_⟩
     ·rw[ai]at q1;cases q1
     ·rw[<-hk,G]
    have aE:¬k<d.length:=by omega
    have aU:f=[]:=by
     rcases z with⟨q1,_⟩|⟨_,_,a6⟩
     ·rw[ai]at q1;cases q1
     ·exact a6
    have hf:N=true:=by
     rw[ag,K,ai];simp
     by_cases y:neg=true
     ·exact .inr fun O=>P ⟨y,O⟩
     ·exact .inl (by simpa using y)
    have Z:be.wrap ((d.length:Int)-k)=0:=by rw[i,Int.sub_self];rfl
    have aa:be.wrap (-1)= -1:=rfl;rw[hf,hk,aU];clear z F l V
    by_cases I:600<k
    ·have B:¬(k:Int)<=600:=by omega
     have C:¬k<=600:=by omega
     have D:(600:Int)<k:=by omega
     simp[e,j,aE,I,B,C,D]
    ·have B:(k:Int)<=600:=by omega
     have C:k<=600:=by omega
     have D:¬(600:Int)<k:=by omega
     simp[e,j,aE,I,B,C,D,Z,aa]
   |true=>
    rw[ai]at ag V;have av:d=v++47::f:=by
     rcases z with⟨_,G⟩|⟨q1,_⟩
     ·exact G
     ·rw[ai]at q1;cases q1
    have i:k<d.length:=by rw[av];simp;omega
    have q:d.drop (k+1)=f:=by
     conv=>lhs;rw[av,<-hk]
     simp
    have ba:d.length=k+1+f.length:=by rw[av];simp;omega
    have u:be.wrap ((k:Int)+1)=(k:Int)+1:=aO _ (by omega) (by omega);have t:((k:Int)+1).toNat=k+1:=by omega
    have m:(0:Int)<=k+1:=by omega
    have n:(k:Int)+1<=d.length:=by omega
    have o:k+1<=d.length:=i;clear z F;have af:N=(dC f&&decide (f≠[48])&&decide (f≠[49])):=by
     rw[ag,K];have:(neg&&decide (v=[48]))=false:=by
      by_cases y:neg=true
      ·have:¬v=[48]:=fun O=>P ⟨y,O⟩;simp[this]
      ·have:neg=false:=by simpa using y
       rw[this];rfl
     rw[this];simp
    by_cases ap:N=true
    ·rw[ap]at af;have aZ:¬N=false:=by rw[ap];decide
     rw[if_neg aZ];have aL:dC f=true/\¬f=[48]/\¬f=[49]:=by
      have:=af.symm;simp only[bd,decide_eq_true_eq]at this;exact⟨this.1.1,this.1.2,this.2⟩
     obtain⟨L,H,E⟩:=aL;rw[L]at l;rw[hk];have Z:be.wrap ((d.length:Int)-k)=(d.length:Int)-k:=aO _ (by omega) (by omega);have aa:be.wrap ((d.length:Int)-k-1)=f.length:=by rw[aO _ (by omega) (by omega)];omega
     by_cases I:600<k
     ·have B:¬(k:Int)<=600:=by omega
      have C:¬k<=600:=by omega
      have D:(600:Int)<k:=by omega
      simp[e,j,i,u,t,m,n,o,q];refine c1 l ?_;simp[e,j,i,u,t,m,n,o,q,H,E,I,B,C,D]
     by_cases ab:600<f.length
     ·have B:(k:Int)<=600:=by omega
      have C:k<=600:=by omega
      have D:¬(600:Int)<k:=by omega
      have ac:(600:Int)<f.length:=by omega
      simp[e,j,i,u,t,m,n,o,q];refine c1 l ?_;simp[e,j,i,u,t,m,n,o,q,H,E,I,B,C,D,Z,aa,ab,ac]
     have B:(k:Int)<=600:=by omega
     have C:k<=600:=by omega
     have D:¬(600:Int)<k:=by omega
     have ac:¬(600:Int)<f.length:=by omega
     have R:=V (jB K) (jB L) rfl aD (by omega);have aV:=xk L H;have a4:v.length<=700:=by omega
     have a5:f.length<=700:=by omega
     have aQ:aW v<10^700:=M9 (s:=v) (k:=700) a4 (jB K);have aR:aW f<10^700:=M9 (s:=f) (k:=700) a5 (jB L);have aF:∀x:Nat,x<10^700->(aq bT x).length<=400000:=fun x hx=>dx (aFo (a:=700) (b:=78) hx (by decide)) (by decide);have Q:=Ir (aW v) (aW f) (aF _ aQ) (aF _ aR);have aB:0<en (aW v) (aW f):=ea _ aV;generalize aW v=a8 at*;generalize aW f=a7 at*;obtain⟨g,am⟩:∃g,en a8 a7=g:=⟨_,rfl⟩
     simp only[am]at Q aB⊢;have a3:¬(600<k\/600<f.length):=fun h=>by rcases h with h|h;exact I h;exact ab h
     rw[if_neg a3];simp only[eG,bi]at R
     by_cases ar:g=1
     ·subst ar;have ae:aq bT 1=[1]:=mP (by decide) (by decide);simp only[eT,ae]at Q R;simp[e,j,i,u,t,m,n,o,q];refine c1 l ?_;simp[e,j,i,u,t,m,n,o,q,H,E,I,B,C,D,Z,aa,ab,ac];refine c1 R ?_;simp[ad];refine c2 Q ?_;simp[am]
     ·by_cases aC:g<bT
      ·have ae:aq bT g=[g]:=mP aB aC;have a0:¬(g:Int)=1:=by omega
       simp only[eT,ae]at Q R;simp[e,j,i,u,t,m,n,o,q];refine c1 l ?_;simp[e,j,i,u,t,m,n,o,q,H,E,I,B,C,D,Z,aa,ab,ac];refine c1 R ?_;simp[ad];refine c2 Q ?_;simp[ar,a0,am]
      ·have ae:¬((aq bT g).length:Int)=1:=by
        intro h;have O:(aq bT g).length=1:=by omega
        have:=bY aX g;rw[O,fd]at this;exact aC this
       simp only[eT]at Q R;simp[e,j,i,u,t,m,n,o,q];refine c1 l ?_;simp[e,j,i,u,t,m,n,o,q,H,E,I,B,C,D,Z,aa,ab,ac];refine c1 R ?_;simp[ad];refine c2 Q ?_;simp[ar,ae,am]
    ·have aA:N=false:=by simpa using ap
     rw[if_pos aA]
     by_cases L:dC f=true
     ·rw[L]at l
      by_cases H:f=[48]
      ·simp[e,j,i,u,t,m,n,o,q];refine c1 l ?_;simp[e,j,i,u,t,m,n,o,q,H]
      ·have E:f=[49]:=by
        rw[L]at af
        by_cases E:f=[49]
        ·exact E
        ·rw[aA]at af;simp[H,E]at af
       simp[e,j,i,u,t,m,n,o,q];refine c1 l ?_;simp[e,j,i,u,t,m,n,o,q,E]
     ·have aK:dC f=false:=by simpa using L
      rw[aK]at l;simp[e,j,i,u,t,m,n,o,q];refine c1 l ?_;simp[e,j,i,u,t,m,n,o,q]
 ·have az:dC v=false:=by simpa using K
  have hf:N=false:=by rw[ag,az];rfl
  rw[if_pos hf];rw[az]at M;simp[w,e];refine c1 T ?_;simp[w,e,J,U];refine c1 M ?_;simp[w,e]
theorem Sf(l:List (List Nat))(f:l.length<=1000000)(hs:∀s∈l,jn s):au prog 88 [.seq (l.map .str)] (.int .i64 (bB (l.map bU))):=by
 refine aM nf Ou mix (by simp[f88]) ?_;simp[f88];refine lp (α:=Nat) (fun i=>⟨[(3,.p (.int .i64 i)),(0,.p (.seq (l.map .str)))],[]⟩) (fun i=>i<=l.length/\bB ((l.drop i).map bU)=bB (l.map bU)) (fun i=>l.length-i) 0 (by simp) ?_;rintro i ⟨e,a⟩
 by_cases hi:i<l.length
 ·rw[List.drop_eq_getElem_cons hi]at a;have d:=cQ (i:=i) (by omega);have hc:=uX l[i] (hs _ (cx hi));obtain⟨s,b⟩:∃s,l[i]=s:=⟨_,rfl⟩
  have c:l[i]?=some s:=by rw[cc hi,b]
  rw[b]at hc a;simp[hi,c,b];refine c1 hc ?_
  by_cases he:bU s=0
  ·simp[bB,he]at a;simp[he,d];exact rd (i+1) ⟨hi,by simpa using a⟩
  ·simp[bB,he]at a;simp[he,<-a]
 ·have:i=l.length:=by omega
  subst this;simp[bB]at a;simp[<-a]
theorem wv(p:cW)(a:ir p):au prog 17 [dA p] (.int .i64 (dE p)):=by
 have hc:=Sf [p.x,p.y] (by simp) (by intro s hs;simp at hs;rcases hs with rfl|rfl;exact a.1;exact a.2);refine aM nf N2 mix (by simp[f17]) ?_;simp[f17,ad];refine cp hc (by simp;exact⟨rfl,rfl⟩) ?_;simp[dE]
theorem FP(z:Int):47∉bI z:=by
 rw[bI];split
 ·simp only[dl,not_or];exact⟨by decide,zo (qj _) rfl⟩
 ·exact zo (qj _) rfl
theorem zU(q:Rat):(bS 47 (br q)).1=bI q.num/\(q.den≠1->br q=bI q.num++47::aY q.den)/\(q.den=1->br q=bI q.num):=by
 by_cases h:q.den=1
 ·have e:br q=bI q.num:=by rw[br,if_pos h]
  refine⟨?_,fun a=>(a h).elim,fun _=>e⟩;rw[e,AY 47 _ (FP _)]
 ·have e:br q=bI q.num++47::aY q.den:=by rw[br,if_neg h]
  refine⟨?_,fun _=>e,fun a=>(h a).elim⟩;rw[e,Bk 47 _ _ (FP _)]
theorem Wq(q:Rat)(h:bt kB q):au prog 230 [.str (br q)] (.str (bI q.num)):=by
 have i:=pJ h;obtain⟨e,c,d⟩:=zU q;have hs:=uu (br q) (by omega);rw[e]at hs;have g:(br q).take (bI q.num).length=bI q.num:=by
  by_cases b:q.den=1
  ·rw[d b];simp
  ·rw[c b];simp
 have f:(bI q.num).length<=(br q).length:=by
  by_cases b:q.den=1
  ·rw[d b];exact e6 _
  ·rw[c b];simp
 refine aM nf MH mix (by simp[f230]) ?_;generalize bI q.num=a at*;generalize br q=s at*;simp[f230];refine c1 hs ?_;simp[g,f]
theorem Wl(q:Rat)(h:bt kB q):au prog 231 [.str (br q)] (.str (aY q.den)):=by
 have d:=pJ h;obtain⟨i,j,k⟩:=zU q;have hs:=uu (br q) (by omega);rw[i]at hs;refine aM nf MG mix (by simp[f231]) ?_
 by_cases c:q.den=1
 ·have e:=k c;rw[c,aGF];rw[e]at hs⊢;generalize bI q.num=a at*;simp[f231];refine c1 hs ?_;simp
 ·have e:=j c;rw[e]at hs d⊢;generalize bI q.num=a at*;generalize aY q.den=b at*;simp only[List.length_append,List.length_cons]at d;have m:¬(a.length:Int)=(a.length:Int)+(b.length+1):=by omega
  have p:be.wrap ((a.length:Int)+1)=(a.length:Int)+1:=aO _ (by omega) (by omega);have o:((a.length:Int)+1).toNat=a.length+1:=by omega
  have f:(0:Int)<=(a.length:Int)+1:=by omega
  have g:(a.length:Int)+1<=(a.length:Int)+(b.length+1):=by omega
  have l:List.drop (a.length+1) (a++47::b)=b:=by simp
  have n:cy (a.length+(b.length+1)) (a++47::b)=a++47::b:=ce (by simp);simp[f231];refine c1 hs ?_;simp[m,p,o,f,g,l,n]
theorem Wi(z:Int)(h:(bI z).length<=1000000):au prog 229 [.str (bI z)] (.str (aY z.natAbs)):=by
 have a:=KC (bI z) (by omega);have g:bO (bI z)=decide (z<0):=by
  have:=(wV z []).1;rwa [List.append_nil]at this
 have f:bI z=[48]↔z=0:=by
  have e:bI z=br (z:Rat):=by rw[br,if_pos (gc z),gb]
  rw[e,FO]
  exact_mod_cast Iff.rfl
 refine aM nf MI mix (by simp[f229]) ?_;rw[g]at a
 by_cases c:z<0
 ·have e:bI z=45::aY z.natAbs:=by rw[bI,if_pos c]
  rw[if_neg (fun x=>by have:=f.1 x;omega),if_pos (by simpa using c)]at a;rw[e]at a⊢;simp[f229];refine c1 a ?_;simp
 ·have e:bI z=aY z.natAbs:=by rw[bI,if_neg c]
  have b:∃v:Int,¬v<0/\au prog 115 [.str (bI z)] (.int .i64 v):=by
   by_cases d:bI z=[48]
   ·rw[if_pos d]at a;exact⟨0,by omega,a⟩
   ·rw[if_neg d,if_neg (by simpa using c)]at a;exact⟨1,by omega,a⟩
  obtain⟨v,i,b⟩:=b;rw[e]at b⊢;simp[f229];refine c1 b ?_;simp[i]
def jb(s:List Nat)(D:Nat):Bool:=decide (s.length<=2*D+2)&&decide (bU s=0)&&decide ((aY (aZ s).num.natAbs).length<=D)&&decide ((aY (aZ s).den).length<=D)
theorem Xd{s:List Nat}(h:bU s=0):bt kB (aZ s):=by
 obtain⟨b,c⟩:=EK h;have a:(10:Nat)^mD<=2^kB:=dx (Jw mD) (dy (by decide) (by decide));exact⟨dq b a,dq c a⟩
theorem M7(s:List Nat)(D:Nat)(hs:jn s)(u:D<=100000):au prog 145 [.str s,.int .i64 D] (.bool (jb s D)):=by
 have g:=uX s hs;have v:=hs.1;refine aM nf Mk mix (by simp[f145]) ?_;have w1:be.wrap (2*(D:Int))=2*(D:Int):=aO _ (by omega) (by omega);have h:be.wrap (2*(D:Int)+2)=2*(D:Int)+2:=aO _ (by omega) (by omega)
 by_cases m:s.length<=2*D+2
 ·have f:(s.length:Int)<=2*(D:Int)+2:=by omega
  by_cases d:bU s=0
  ·have l:=Xd d;have e:=(iV d).1;rw[d]at g;have k:=Wq (aZ s) l;have o:=Wl (aZ s) l;have q:(bI (aZ s).num).length<=1000000:=by
    have:=pJ l;obtain⟨_,r,t⟩:=zU (aZ s)
    by_cases p:(aZ s).den=1
    ·rw[t p]at this;exact this
    ·rw[r p]at this;simp at this;omega
   have n:=Wi (aZ s).num q;rw[e]at k o;have hf:jb s D=(decide ((aY (aZ s).num.natAbs).length<=D)&&decide ((aY (aZ s).den).length<=D)):=by
    rw[jb,decide_eq_true m,decide_eq_true d];simp
   rw[hf];generalize aY (aZ s).num.natAbs=a at*;generalize aY (aZ s).den=b at*;generalize bI (aZ s).num=c at*
   by_cases i:a.length<=D
   ·have j:(a.length:Int)<=D:=by omega
    simp[f145,w1,h,f];refine c1 g ?_;simp;refine c1 k ?_;simp;refine c1 n ?_;simp[i,j];refine c1 o ?_;simp[i]
   ·have j:¬(a.length:Int)<=D:=by omega
    simp[f145,w1,h,f];refine c1 g ?_;simp;refine c1 k ?_;simp;refine c1 n ?_;simp[i,j]
  ·have hf:jb s D=false:=by rw[jb,decide_eq_false d];simp
   rw[hf];simp[f145,w1,h,f];refine c1 g ?_;simp[d]
 ·have f:¬(s.length:Int)<=2*(D:Int)+2:=by omega
  have hf:jb s D=false:=by rw[jb,decide_eq_false m];simp
  rw[hf];simp[f145,w1,h,f]
structure V2 where
 x:Rat
 y:Rat
def eV(v:V2):PV:=dA ⟨br v.x,br v.y⟩
@[simp] theorem aJ9(v:V2):aJ (eV v)=.agg 23:=rfl
@[simp] theorem aIO(v:V2):bV (eV v)=[.str (br v.x),.str (br v.y)]:=rfl
theorem qw(x y:Rat):eV ⟨x,y⟩=.st 23 [.str (br x),.str (br y)]:=rfl
def b7(k:Nat)(v:V2):Prop:=bt k v.x/\bt k v.y
theorem b7.mono{k l:Nat}{v:V2}(h:b7 k v)(a:k<=l):b7 l v:=⟨h.1.mono a,h.2.mono a⟩
def V2.sub(v w:V2):V2:=⟨v.x-w.x,v.y-w.y⟩
def V2.add(v w:V2):V2:=⟨v.x+w.x,v.y+w.y⟩
def V2.mul(v:V2)(k:Rat):V2:=⟨v.x*k,v.y*k⟩
def V2.dot(v w:V2):Rat:=v.x*w.x+v.y*w.y
def V2.bF(v w:V2):Rat:=v.x*w.y-v.y*w.x
theorem kL{k l:Nat}{v w:V2}(h:b7 k v)(a:b7 l w):b7 (k+l+1) (v.sub w):=⟨tG h.1 a.1,tG h.2 a.2⟩
theorem aFa{k l:Nat}{v w:V2}(h:b7 k v)(a:b7 l w):b7 (k+l+1) (v.add w):=⟨yj h.1 a.1,yj h.2 a.2⟩
theorem nK{k l:Nat}{v w:V2}(h:b7 k v)(a:b7 l w):bt (k+l+(k+l)+1) (v.bF w):=tG (jz h.1 a.2) (jz h.2 a.1)
def kQ:Nat:=20000
theorem dB{q:Rat}(h:bt kQ q):bt kB q:=h.mono (by decide)
theorem yJ(v w:V2)(a:b7 kQ v)(b:b7 kQ w):au prog 20 [eV v,eV w] (eV (v.sub w)):=by
 have c:=xP v.x w.x (dB a.1) (dB b.1);have d:=xP v.y w.y (dB a.2) (dB b.2);refine aM nf N4 mix (by simp[f20]) ?_;rw[V2.sub,qw];simp[f20,ad];refine e2 c ?_;simp[ad];refine e2 d ?_;simp[ad]
theorem zt(v w:V2)(a:b7 kQ v)(b:b7 kQ w):au prog 114 [eV v,eV w] (.str (br (v.bF w))):=by
 have c:=uP v.x w.y (dB a.1) (dB b.2);have d:=uP v.y w.x (dB a.2) (dB b.1);have e:=xP (v.x*w.y) (v.y*w.x) ((jz a.1 b.2).mono (by decide)) ((jz a.2 b.1).mono (by decide));refine aM nf E9 mix (by simp[f114]) ?_;rw[V2.bF];simp[f114,ad];refine e2 c ?_;simp[ad];refine e2 d ?_;simp[ad];refine e2 e ?_;simp
theorem Wo(v w:V2)(a:b7 kQ v)(b:b7 kQ w):au prog 48 [eV v,eV w] (eV (v.add w)):=by
 have c:=CN v.x w.x (dB a.1) (dB b.1);have d:=CN v.y w.y (dB a.2) (dB b.2);refine aM nf Oc mix (by simp[f48]) ?_;rw[V2.add,qw];simp[f48,ad];refine e2 c ?_;simp[ad];refine e2 d ?_;simp[ad]
theorem PB(v:V2)(a:Rat)(c:b7 kQ v)(b:bt kQ a):au prog 49 [eV v,.str (br a)] (eV (v.mul a)):=by
 have d:=uP v.x a (dB c.1) (dB b);have e:=uP v.y a (dB c.2) (dB b);refine aM nf Od mix (by simp[f49]) ?_;rw[V2.mul,qw];simp[f49,ad];refine e2 d ?_;simp[ad];refine e2 e ?_;simp[ad]
structure S3 where
 a:Rat
 b:Rat
 d:Rat
def eS(s:S3):PV:=.st 31 [.str (br s.a),.str (br s.b),.str (br s.d)]
@[simp] theorem aJ2(s:S3):aJ (eS s)=.agg 31:=rfl
@[simp] theorem aII(s:S3):bV (eS s)=[.str (br s.a),.str (br s.b),.str (br s.d)]:=rfl
theorem Uk:prog.stoodInHeld 24=false:=by kernel_rfl
@[simp] theorem aIf:qS prog 24=true:=by kernel_rfl
def mj(a b c d:List Nat):Bool:=decide (a=c/\b=d)
@[simp] theorem aIg{a b c d:List Nat}:iC prog 9 24 (.st 23 [.str a,.str b]) (.st 23 [.str c,.str d])=some (mj a b c d):=by
 have e:=underlying24;have:((a==c)&&((b==d)&&true))=mj a b c d:=by
  rw[mj,Bool.eq_iff_iff];simp
 rw[<-this];simp[iC,e,Uk,lM,aJ]
theorem Wu:au prog 89 [] (eV ⟨0,0⟩):=by
 refine aM nf Ov mix (by simp[f89]) ?_;rw[qw,se];simp[f89,ad]
def ie(p:cW):Int:=if dE p=0/\p.x=[48]/\p.y=[48]then 6 else dE p
theorem Qw(p:cW)(e:ir p):au prog 18 [dA p] (.int .i64 (ie p)):=by
 have a:=wv p e;have b:=Wu;rw[qw,se]at b;refine aM nf N3 mix (by simp[f18]) ?_;rw[ie];obtain⟨x,y⟩:=p;simp only[dA]at*;generalize dE ⟨x,y⟩=c at*
 by_cases h:c=0
 ·by_cases hx:x=[48]
  ·by_cases d:y=[48]
   ·simp[f18,ad];refine c1 a ?_;simp[h,ad];refine e0 b ?_;simp[hx,d,mj,h]
   ·simp[f18,ad];refine c1 a ?_;simp[h,ad];refine e0 b ?_;simp[hx,d,mj,h]
  ·simp[f18,ad];refine c1 a ?_;simp[h,ad];refine e0 b ?_;simp[hx,mj,h]
 ·simp[f18,ad];refine c1 a ?_;simp[h,ad]
theorem Se(p:cW)(D:Nat)(d:ir p)(c:D<=100000):au prog 47 [dA p,.int .i64 D] (.bool (jb p.x D&&jb p.y D)):=by
 have a:=M7 p.x D d.1 c;have b:=M7 p.y D d.2 c;refine aM nf Ob mix (by simp[f47]) ?_;obtain⟨x,y⟩:=p;dsimp only at a b⊢;simp only[dA];cases hx:jb x D
 ·rw[hx]at a;simp[f47,ad];refine c2 a ?_;simp
 ·rw[hx]at a;simp[f47,ad];refine c2 a ?_;simp[ad];refine c2 b ?_;simp
def vu(k:Nat)(s:S3):Prop:=bt k s.a/\bt k s.b/\bt k s.d
theorem vu.mono{k l:Nat}{s:S3}(h:vu k s)(a:k<=l):vu l s:=⟨h.1.mono a,h.2.1.mono a,h.2.2.mono a⟩
def S3.add(s t:S3):S3:=⟨s.a+t.a,s.b+t.b,s.d⟩
def S3.mul(s t:S3):S3:=⟨s.a*t.a+s.b*t.b*s.d,s.a*t.b+t.a*s.b,s.d⟩
def S3.times(x:Rat)(s:S3):S3:=⟨x*s.a,x*s.b,s.d⟩
structure P4 where
 x:S3
 y:S3
def NH(p:P4):PV:=.st 62 [eS p.x,eS p.y]
@[simp] theorem aJX(p:P4):aJ (NH p)=.agg 62:=rfl
@[simp] theorem aID(p:P4):bV (NH p)=[eS p.x,eS p.y]:=rfl
def Dc(k:Nat)(p:P4):Prop:=vu k p.x/\vu k p.y
theorem Dc.mono{k l:Nat}{p:P4}(h:Dc k p)(a:k<=l):Dc l p:=⟨h.1.mono a,h.2.mono a⟩
def P4.dot(v:V2)(p:P4):S3:=(S3.times v.x p.x).add (S3.times v.y p.y)
theorem CO(q:Rat):cV q= -1\/cV q=0\/cV q=1:=by
 rw[cV];split
 ·exact .inl rfl
 ·split
  ·exact .inr (.inl rfl)
  ·exact .inr (.inr rfl)
theorem Wb(x y:Rat):dG x y= -1\/dG x y=0\/dG x y=1:=by
 rw[dG];split
 ·exact .inl rfl
 ·split
  ·exact .inr (.inl rfl)
  ·exact .inr (.inr rfl)
theorem CQ{a b:Int}(c:a= -1\/a=0\/a=1)(d:b= -1\/b=0\/b=1):a*b= -1\/a*b=0\/a*b=1:=by
 rcases c with rfl|rfl|rfl<;>rcases d with rfl|rfl|rfl<;>simp
theorem CP{a:Int}(b:a= -1\/a=0\/a=1):be.wrap a=a:=by
 rcases b with rfl|rfl|rfl<;>decide
def vD(a b o:Int):Int:=if 0<=a*b then(if a=0 then b else a)else a*o
def jJ(s:S3):Int:=vD (cV s.a) (cV s.b*cV s.d) (dG (s.a*s.a) (s.b*s.b*s.d))
end Go.az
