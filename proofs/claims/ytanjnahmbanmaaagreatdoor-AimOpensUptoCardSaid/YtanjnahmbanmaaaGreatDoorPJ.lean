import Derived.Test.YtanjnahmbanmaaaGreatDoorPI
import Derived.Test.YtanjnahmbanmaaaGreatDoorPH
import Derived.Test.YtanjnahmbanmaaaGreatDoorPG
/- Parts of a proof. -/
set_option linter.unusedSimpArgs false
set_option linter.unusedVariables false
set_option linter.unusedSectionVars false
open Go.Proofs.Tryz
open Bool renaming false_eq_true->a9, and_eq_true->bb
open Go.IntKind renaming i64->be
open Int renaming natAbs_natCast->bi, ofNat_natAbs_of_nonpos->bl, natCast_nonneg->bo, natAbs_mul->bp, tdiv_eq_ediv_of_nonneg->bv, mul_ediv_cancel_left->bI, natAbs_neg->bV, ofNat_dvd_left->b0, natCast_ediv->b1, tmod_eq_emod_of_nonneg->b2, natAbs_of_nonneg->b3, natCast_emod->b4, mul_nonneg->b5
open List renaming getElem?_eq_getElem->cb, take_of_length_le->cc, all_eq_true->ce, length_take->ck, getElem_mem->cv, take->cx, length_pos_iff->cy, length_drop->c6, length->c9, getElem_of_eq->da, take_length->db, take_take->dg, mem_cons->dk, map_take->dl
open Nat renaming lt_of_lt_of_le->dp, le_trans->dq, pow_le_pow_right->dz, lt_of_le_of_lt->ea, gcd_pos_of_pos_right->eb, zero_le->ec, pow_succ->ed, lt_or_ge->ee, mul_lt_mul''->ei, gcd_le_right->ej, gcd_dvd_left->em, div_le_self->en, gcd->eo, div_div_eq_div_mul->eq, pow_mul->ew, pow_add->e6, le_refl->e7, div_pos->e8, min_eq_left->e9, pow_zero->fb, pow_pos->fd, pow_one->fl, div_one->fm
open Rat renaming divInt->fv, neg_divInt_neg->fw, num_intCast->gb, den_intCast->gc, neg_num->ge, not_le->gg
namespace Go.ak
open Go.Proofs
set_option maxHeartbeats 4000000
set_option maxRecDepth 100000
theorem Vd{s:List Nat}{i:Nat}(h:i<s.length):aZ (s.take (i+1))=aZ (s.take i)*10+(s[i]-48):=by
 rw[List.take_succ_eq_append_getElem h,xE]
theorem uG{s:List Nat}{p:Nat->Bool}(h:s.all p=true)(i:Nat):(s.take i).all p=true:=by
 rw[ce]at h⊢;intro x hx;exact h x (List.mem_of_mem_take hx)
theorem Kt{s:List Nat}{p:Nat->Bool}(h:s.all p=true)(i:Nat):(s.drop i).all p=true:=by
 rw[ce]at h⊢;intro x hx;exact h x (List.mem_of_mem_drop hx)
theorem yw{c:Nat}(h:cq c=true):48<=c/\c<=57:=by
 simpa[cq]using h
theorem ym(s:List Nat)(e:s.all cq=true)(A:s.length<=18):au prog 234 [.str s] (.int .i64 (aZ s:Nat)):=by
 refine aI nf N1 mix (by simp[f234]) ?_;obtain⟨L,g⟩:∃L,L=s.length:=⟨_,rfl⟩
 have k:aZ (s.take L)=aZ s:=by rw[g,db]
 rw[<-k];obtain⟨v,b⟩:∃v:Nat->Nat,∀i,aZ (s.take i)=v i:=⟨_,fun _=>rfl⟩
 have o:v 0=0:=by rw[<-b];rfl
 have q:∀i(h:i<s.length),v (i+1)=v i*10+(s[i]-48):=fun i h=>by rw[<-b,<-b,Vd h]
 have f:∀i,i<=L->v i<10^i:=fun i hi=>by
  rw[<-b];exact jl i _ (by rw[ck];omega) (uG e i)
 rw[b];simp[f234];refine lp (α:=Nat) (fun i=>⟨[(4,.p (.int .i64 i)),(3,.p (.int .i64 (v i:Nat))),(0,.p (.str s))],[]⟩)
  (fun i=>i<=L) (fun i=>L-i) 0 (ec _) ?_ (he:=by simp[o])
 intro i hi
 by_cases m:i<L
 ·have a:i<s.length:=by omega
  have j:=f i hi;have z:=f (i+1) m;have hc:=yw (ce.1 e s[i] (cv a));have hs:=q i a;have n:10^i<=10^17:=dz (by decide) (by omega);have y:v i<100000000000000000:=dp j (by exact n);generalize d:s[i]=c at*;generalize B:v i=x at*;have w1:be.wrap (10*(x:Int))=10*(x:Int):=aP _ (by omega) (by omega);have r:be.wrap (10*(x:Int)+c)=10*(x:Int)+c:=aP _ (by omega) (by omega);have t:be.wrap (10*(x:Int)+c-48)=(v (i+1):Nat):=by rw[hs,aP _ (by omega) (by omega)];omega
  have u:be.wrap ((i:Int)+1)=(i:Int)+1:=aP _ (by omega) (by omega);have w:be.wrap (c:Int)=c:=aP _ (by omega) (by omega);have l:s[i]?=some c:=by rw[cb a,d]
  simp[a,d,l,w1,r,t,u,w];exact rd (i+1) (show i+1<=L by omega)
 ·have a:¬i<s.length:=by omega
  have:i=L:=by omega
  subst this;simp[a]
theorem Lh(c:Nat):∀s:List Nat,c∉(b6 c s).1
 |[]=>by simp[b6]
 |x::r=>by
  rw[b6]
  split
  ·simp
  ·rename_i h;simp only[dk,not_or];exact⟨fun e=>h e.symm,Lh c r⟩
theorem uZ(s:List Nat)(x:s.length<=1048576):au prog 233 [.str s] (.int .i64 ((b6 47 s).1.length:Nat)):=by
 refine aI nf N2 mix (by simp[f233]) ?_;obtain⟨k,hk⟩:∃k,(b6 47 s).1.length=k:=⟨_,rfl⟩
 have t:=Lh 47 s;have w:k<=s.length:=by rw[<-hk];exact(sC 47 s).1
 have n:∀j(h:j<s.length),j<k->¬s[j]=47:=by
  intro j h v e;apply t;rcases oU 47 s with⟨_,b⟩|⟨_,b,_⟩
  ·have:s[j]=(b6 47 s).1[j]'(by omega):=by
    conv=>lhs;rw[da b]
    rw[List.getElem_append_left]
   have d:(b6 47 s).1[j]'(by omega)∈(b6 47 s).1:=cv _;rw[<-this,e]at d;exact d
  ·rw[b];have d:s[j]∈s:=cv _
   rwa [e]at d
 have b:∀(h:k<s.length),s[k]=47:=by
  intro h;rcases oU 47 s with⟨_,g⟩|⟨_,g,_⟩
  ·rw[da g,List.getElem_append_right (by omega)];simp[hk]
  ·rw[g]at hk;omega
 rw[hk];simp[f233];refine lp (α:=Nat) (fun i=>⟨[(3,.p (.int .i64 i)),(0,.p (.str s))],[]⟩)
  (fun i=>i<=k) (fun i=>k-i) 0 (ec _) ?_
 intro i hi;have u:be.wrap ((i:Int)+1)=(i:Int)+1:=aP _ (by omega) (by omega)
 by_cases q:i<k
 ·have a:i<s.length:=by omega
  have f:=n i a q;generalize m:s[i]=c at*;have l:s[i]?=some c:=by rw[cb a,m]
  have o:¬(c:Int)=47:=by omega
  simp[a,m,l,o,f,u];exact rd (i+1) (show i+1<=k by omega)
 ·have r:i=k:=by omega
  subst r
  by_cases a:i<s.length
  ·have f:=b a;have l:s[i]?=some 47:=by rw[cb a,f]
   simp[a,f,l]
  ·have:i=s.length:=by omega
   simp[a,this]
theorem LI(n:Int)(M:-9223372036854775808<=n)(O:n<=9223372036854775807):au prog 152 [.int .i64 n] (eG n):=by
 refine aI nf Nr mix (by simp[f152]) ?_;obtain⟨N,P⟩:∃N,n.natAbs=N:=⟨_,rfl⟩
 have D:N<bT^3:=by
  have:bT^3=1000000000000000000000000000:=by decide
  omega
 obtain⟨g,a⟩:∃g:Nat->Nat,∀i,N/bT^i=g i:=⟨_,fun _=>rfl⟩
 have F:g 0=N:=by rw[<-a,fb,fm]
 have H:∀i,g (i+1)=g i/bT:=fun i=>by rw[<-a,<-a,eq,ed]
 have A:∀i,ae bT N i=g i% bT:=fun i=>by rw[<-a];rfl
 have G:g 3=0:=by rw[<-a,Nat.div_eq_of_lt D]
 have k:∀i,g i<=N:=fun i=>by rw[<-a];exact en _ _
 have y:∀i,i<=3->g i=0->au prog 239 [.bool (decide (n<0)),.seq (iP (row bT i N))] (eG n):=fun i I hi=>by
  have h:=BZ (decide (n<0)) (row bT i N) N (jo ba (by
   rw[<-a]at hi;rcases ee N (bT^i)with h|h
   ·exact h
   ·have:=e8 h (fd (show 0<bT by decide));omega)) (by simp[row];omega)
  have e:(if decide (n<0)=true then -(N:Int)else N)=n:=by
   by_cases c:n<0
   ·simp[c];omega
   ·simp[c];omega
  rwa [e]at h
 obtain⟨m,f⟩:∃m:Nat->Int,∀i,(if n<0 then -(g i:Int)else g i)=m i:=⟨_,fun _=>rfl⟩
 have J:m 0=n:=by rw[<-f,F];split<;>omega
 simp only[eG]at y⊢;simp[f152];refine lp (α:=Nat) (fun i=>⟨[(0,.p (.int .i64 (m i))),(2,.ptr 0 []),(3,.sl 1 i 1 0 i),(4,.p (.bool (decide (n<0))))],[.box false (.p (.st 222 [.bool false,.aO])),.arr .grow i 1 (dV i N)]⟩)
  (fun i=>i<=3) (fun i=>3-i) 0 (ec _) ?_ (he:=by simp[J,dV]) (hh:=by simp[dV])
 intro i hi;have Q:bT=1000000000:=rfl;have L:=Nat.mod_lt (g i) (show 0<bT by decide);have R:=k i;have E:=Nat.div_add_mod (g i) bT;have u:g i% bT=ae bT N i:=(A i).symm
 by_cases d:g i=0
 ·have b:m i=0:=by rw[<-f,d];split<;>rfl
  have hs:=y i hi d;rcases i with _|i
  ·simp[b];refine cp hs (by simp[dV];first|exact⟨rfl,rfl⟩|rfl) ?_ (h1:=by simp[iP,row]);simp[aa]
  ·have j:¬dV (i+1) N=[]:=by intro h;have:=congrArg c9 h;rw[iB]at this;simp at this
   simp[b];refine cp hs (by simp[iB,KC,j];first|exact⟨rfl,rfl⟩|rfl) ?_ (h1:=by simp[iP,row,dl,cc]);simp[aa]
 ·have I:i<3:=by
   rcases ee i 3 with h|h
   ·exact h
   ·rw[show i=3 by omega]at d;exact(d G).elim
  have z:=H i;have K:=A i;have l:=qj i N;have x:cx i (dV i N)=dV i N:=cc (by rw[iB];exact e7 _);rw[K]at l;obtain⟨r,B⟩:∃r,g i% bT=r:=⟨_,rfl⟩
  rw[B]at l L E;have u:=B.symm
  by_cases c:n<0
  ·have b:m i= -(g i:Int):=by rw[<-f,if_pos c]
   have o:m (i+1)= -(g (i+1):Int):=by rw[<-f,if_pos c]
   have j:¬(g i:Int)=0:=by omega
   have s:((g i:Nat):Int).tmod 1000000000=r:=by rw[u,b2 (bo _),b4];rfl
   have q:((g i:Nat):Int).tdiv 1000000000=(g (i+1):Nat):=by rw[z,bv (bo _),b1 (g i)];rfl
   have wr:be.wrap (r:Int)=r:=aP _ (by omega) (by omega);have C:be.wrap (-(r:Int))= -r:=aP _ (by omega) (by omega);have t:be.wrap (-(g (i+1):Int))= -(g (i+1):Nat):=aP _ (by have:=k (i+1);omega) (by have:=k (i+1);omega)
   by_cases v:r=0
   ·simp[b,d,j,s,q,wr,C,t,v,x,iB];refine⟨by simp only[cW];omega,?_⟩;exact rd (i+1) (show i+1<=3 by omega) (he:=by simp[o]) (hh:=by simp[l,v])
   ·have w:0<r:=by omega
    simp[b,d,j,s,q,wr,C,t,v,w,x,iB];refine⟨by simp only[cW];omega,?_⟩;exact rd (i+1) (show i+1<=3 by omega) (he:=by simp[o]) (hh:=by simp[l])
  ·have b:m i=(g i:Int):=by rw[<-f,if_neg c]
   have o:m (i+1)=(g (i+1):Int):=by rw[<-f,if_neg c]
   have j:¬(g i:Int)=0:=by omega
   have s:((g i:Nat):Int).tmod 1000000000=r:=by rw[u,b2 (bo _),b4];rfl
   have q:((g i:Nat):Int).tdiv 1000000000=(g (i+1):Nat):=by rw[z,bv (bo _),b1 (g i)];rfl
   have wr:be.wrap (r:Int)=r:=aP _ (by omega) (by omega);have t:be.wrap (g (i+1):Int)=(g (i+1):Nat):=aP _ (by have:=k (i+1);omega) (by have:=k (i+1);omega);have w:¬(r:Int)<0:=by omega
   simp[b,d,j,s,q,wr,t,w,x,iB];refine⟨by simp only[cW];omega,?_⟩;exact rd (i+1) (show i+1<=3 by omega) (he:=by simp[o]) (hh:=by simp[l])
theorem HK{d:List Nat}(c:d.all cq=true){L i:Nat}(f:L=d.length)(h:9*(i+1)<=L):
 aZ (d.take (L-9*(i+1)))=aZ (d.take (L-9*i))/10^9/\aZ ((d.take (L-9*i)).drop (L-9*(i+1)))=aZ (d.take (L-9*i))% 10^9:=by
 have e:=List.take_append_drop (L-9*(i+1)) (d.take (L-9*i));rw[dg,e9 (by omega)]at e;have a:=Jk (d.take (L-9*(i+1))) ((d.take (L-9*i)).drop (L-9*(i+1)));rw[e]at a;have b:((d.take (L-9*i)).drop (L-9*(i+1))).length=9:=by rw[c6,ck];omega
 rw[b]at a;have g:=jl 9 _ b (Kt (uG c _) _);generalize aZ ((d.take (L-9*i)).drop (L-9*(i+1)))=y at*;generalize aZ (d.take (L-9*(i+1)))=x at*;rw[a];omega
theorem B0(s:List Nat)(k:(c7 s).all cq=true)(J:s.length<=1000000):au prog 235 [.str s] (eG (if bX s=true then -(aZ (c7 s):Int)else aZ (c7 s))):=by
 refine aI nf NZ mix (by simp[f235]) ?_;obtain⟨d,v⟩:∃d,c7 s=d:=⟨_,rfl⟩
 obtain⟨neg,f⟩:∃neg,bX s=neg:=⟨_,rfl⟩
 obtain⟨N,F⟩:∃N,aZ d=N:=⟨_,rfl⟩
 have ah:d.length<=1000000:=by rw[<-v];exact dq (oF s).1 J
 rw[v]at k⊢;rw[f,F];have ai:=J;simp[f235,-bt];rw[bt];simp[-bt];refine join (fun st=>aQ st.env 0=.p (.str s)/\aQ st.env 2=.ptr 0 []/\aQ st.env 3=.p (.bool neg)/\st.heap=[.box false (.p (.st 222 [.bool false,.aO]))]) ?_ ?_
 ·cases s with
  |nil=>simp[<-f,bX]
  |cons c r=>
   by_cases hc:c=45
   ·simp[<-f,bX,hc]
   ·have T:¬(c:Int)=45:=by omega
    simp[<-f,bX,hc,T]
 rintro⟨S,U⟩ ⟨a,b,e,n⟩;dsimp only at a b e n;subst n;refine join (fun st=>aQ st.env 0=.p (.str d)/\aQ st.env 2=.ptr 0 []/\aQ st.env 3=.p (.bool neg)/\st.heap=[.box false (.p (.st 222 [.bool false,.aO]))]) ?_ ?_
 ·cases neg with
  |false=>
   have D:s=d:=by rw[<-v,c7,f];rfl
   simp[a,b,e,D]
  |true=>
   cases s with
   |nil=>simp[bX]at f
   |cons c r=>
    have D:r=d:=by rw[<-v,c7,f];rfl
    simp[a,b,e,D]
 clear a b e;rintro⟨S,U⟩ ⟨a,b,e,n⟩;dsimp only at a b e n;subst n;obtain⟨L,u⟩:∃L,L=d.length:=⟨_,rfl⟩
 obtain⟨g,l⟩:∃g:Nat->Nat,∀i,N/bT^i=g i:=⟨_,fun _=>rfl⟩
 have B:∀i,9*i<=L->aZ (d.take (L-9*i))=g i:=by
  intro i
  induction i with
  |zero=>intro _;rw[Nat.mul_zero,Nat.sub_zero,u,db,F,<-l,fb,fm]
  |succ i ad=>
   intro h;rw[(HK k u h).1,ad (by omega),<-l,<-l,eq,ed];rfl
 have V:∀i,9*(i+1)<=L->aZ ((d.take (L-9*i)).drop (L-9*(i+1)))=ae bT N i:=fun i h=>by
  rw[(HK k u h).2,B i (by omega),<-l];rfl
 have ac:∀i,9*(i+1)<=L->au prog 234 [.str ((d.take (L-9*i)).drop (L-9*(i+1)))] (.int .i64 (ae bT N i:Nat)):=fun i h=>by
  rw[<-V i h];exact ym _ (Kt (uG k _) _) (by rw[c6,ck];omega)
 have I:∀i,9*i<=L->L<=9*i+9->g i=ae bT N i/\N<bT^(i+1):=fun i j q=>by
  have H:=jl _ (d.take (L-9*i)) rfl (uG k _);rw[B i j]at H;have y:g i<bT:=dp H (by
   rw[show bT=10^9 from rfl];exact dz (by decide) (by rw[ck];omega))
  refine⟨by rw[ae,l,Nat.mod_eq_of_lt y],?_⟩;rw[<-l,Nat.div_lt_iff_lt_mul (fd (by decide))]at y;rw[ed,Nat.mul_comm];exact y
 have W:∀i,9*i<=L->L<=9*i+9->au prog 234 [.str (d.take (L-9*i))] (.int .i64 (ae bT N i:Nat)):=fun i j q=>by
  rw[<-(I i j q).1,<-B i j];exact ym _ (uG k _) (by rw[ck];omega)
 have G:∀i,9*i<=L->L<=9*i+9->au prog 239 [.bool neg,.seq (iP (row bT (i+1) N))] (eG (if neg=true then -(N:Int)else N)):=fun i j q=>
  BZ neg (row bT (i+1) N) N (jo ba (I i j q).2) (by simp[row];omega)
 generalize (if neg=true then -(N:Int)else N)=z at*;simp only[eG]at G⊢;rw[bt];simp[a,b,e,-bt];rw[bt];simp[a,b,e];refine lp (α:=Nat) (fun i=>⟨[(0,.p (.str (d.take (L-9*i)))),(2,.ptr 0 []),(3,.p (.bool neg)),(4,.sl 1 i 1 0 i)],[.box false (.p (.st 222 [.bool false,.aO])),.arr .grow i 1 (dV i N)]⟩)
  (fun i=>9*i<=L) (fun i=>L-i) 0 (ec _) ?_ (he:=by simp[a,b,e,dV,u]) (hh:=by simp[dV])
 intro i hi;have x:(d.take (L-9*i)).length=L-9*i:=by rw[ck];omega
 have o:=ac i;have w:=W i hi;have E:(d.take (L-9*i)).take (L-9*(i+1))=d.take (L-9*(i+1)):=by rw[dg,e9 (by omega)]
 rw[show L-9*(i+1)=L-9*i-9 by omega]at o E;obtain⟨m,C⟩:∃m,m=L-9*i:=⟨_,rfl⟩
 rw[<-C]at x o w E;have O:=qj i N;have P:cx i (dV i N)=dV i N:=cc (by rw[iB];exact e7 _);have K:i+1<=cW:=by simp only[cW];omega
 by_cases af:9<m
 ·have o:=o (by omega);have Q:be.wrap ((m:Int)-9)=(m:Int)-9:=aP _ (by omega) (by omega);have R:((m:Int)-9).toNat=m-9:=by omega
  have M:(9:Int)<=m:=by omega
  have Z:9*(i+1)<=L:=by omega
  rw[<-C];generalize ag:cx m d=t at*;have ab:cx m t=t:=cc (by omega);have A:(9:Int)<m:=by omega
  have X:m-9=L-9*(i+1):=by omega
  simp[x,A,Q,R,M,ab];refine c1 o ?_;simp[P,iB,K,<-O,x,Q,R,M,E];exact rd (i+1) Z (he:=by simp[X])
 ·have w:=w (by omega);have hs:=G i hi (by omega);rw[<-C];generalize cx m d=t at*;have A:¬(9:Int)<m:=by omega
  simp[x,A];refine c1 w ?_;simp[P,iB,K,<-O];have Y:¬dV (i+1) N=[]:=by intro h;have:=congrArg c9 h;rw[iB]at this;simp at this
  refine cp hs (by simp[iB,KC,Y];first|exact⟨rfl,rfl⟩|rfl) ?_ (h1:=by simp[iP,row,dl,cc]);simp[aa]
def jN(s:List Nat):Int:=if bX s=true then -(aZ (bE s):Int)else aZ (bE s)
def iC(s:List Nat):Nat:=if er s=true then aZ (bP s)else 1
theorem J4(s:List Nat)(q:(bE s).all cq=true)(l:(bP s).all cq=true)(J:s.length<=1000000):au prog 148 [.str s] (.aC [eG (jN s),eG (iC s:Nat)]):=by
 refine aI nf Nv mix (by simp[f148]) ?_;have e:=uZ s (by omega);obtain⟨L,f,h,D⟩:=I8 s;have I:=sC 47 s;have C:=LI 1 (by decide) (by decide);rcases oU 47 s with⟨q1,b⟩|⟨q1,b,N⟩
 ·have a:=B0 (b6 47 s).1 (by rw[f];exact q) (by omega);rw[L,f]at a;have d:=B0 (b6 47 s).2.1 (by
   rw[h];rw[ce]at l⊢;intro x hx;exact l x ((oF _).2 x hx)) (by omega)
  have K:bX (bP s)=false:=by
   rw[bX];cases g:bP s with
   |nil=>simp
   |cons c r=>
    have:=yw (ce.1 l c (by rw[g];simp));simp;omega
  rw[h,c7,K]at d;have m:er s=true:=by rw[<-D];exact q1
  have nV:jN s=if bX s=true then -(aZ (bE s):Int)else aZ (bE s):=rfl
  have j:iC s=aZ (bP s):=by rw[iC,if_pos m]
  rw[<-nV]at a;simp only[a9,if_false]at d;rw[<-j]at d;generalize M:jN s=z at*;generalize iC s=dn at*;obtain⟨i,o⟩:∃i,(b6 47 s).1=i:=⟨_,rfl⟩
  obtain⟨E,p⟩:∃E,(b6 47 s).2.1=E:=⟨_,rfl⟩
  rw[o,p]at b;rw[o]at e a;rw[p]at h;obtain⟨k,n⟩:∃k,i.length=k:=⟨_,rfl⟩
  rw[n]at e;have hk:k<s.length:=by rw[b];simp;omega
  have B:s.take k=i:=by rw[b,<-n];simp
  have g:s.drop (k+1)=bP s:=by
   rw[<-h]
   conv=>lhs;rw[b,<-n]
   simp
  clear I b o p;have G:be.wrap ((k:Int)+1)=(k:Int)+1:=aP _ (by omega) (by omega);have F:((k:Int)+1).toNat=k+1:=by omega
  have y:¬(k:Int)=s.length:=by omega
  have u:k+1<=s.length:=hk;have w:k<=s.length:=by omega
  have t:(0:Int)<=k+1:=by omega
  have v:(k:Int)+1<=s.length:=by omega
  simp only[eG]at a d⊢;simp[f148];refine c1 e ?_;simp[y,G,F,B,g,u,w,t,v];refine e1 a ?_;simp[y,G,F,B,g,u,w,t,v];refine e1 d ?_;simp[aa]
 ·have a:=B0 s (by
   have A:=f;rw[b]at A;rw[A];exact q) J
  have m:er s=false:=by rw[<-D];exact q1
  have H:c7 s=bE s:=by rw[b]at f;exact f
  have nV:jN s=if bX s=true then -(aZ (bE s):Int)else aZ (bE s):=rfl
  have j:iC s=1:=by rw[iC,m];rfl
  rw[H,<-nV]at a;rw[j];rw[b]at e;generalize jN s=z at*;simp only[eG]at a C⊢;simp[f148];refine c1 e ?_;simp;refine c1 a ?_;simp;refine c1 C ?_;simp[aa]
theorem HL(n:Nat):(bf n).length<=9*(aw bT n).length+1:=by
 rcases Nat.eq_zero_or_pos n with h|h
 ·subst h;rw[qf];simp
 ·have b:0<(aw bT n).length:=by rw[cy,Ne,uD];omega
  have a:=ch ba n;rw[show bT^(aw bT n).length=10^(9*(aw bT n).length)by rw[ew];rfl]at a;exact dq (uk a (by omega)) (by omega)
def iJ(n d:Int):Rat:=fv n d
theorem Hu(n g:Nat):(aw bT (n/g)).length<=(aw bT n).length:=
 dJ ba _ _ (ea (en n g) (ch ba n))
theorem Uw(n d:Nat)(a:0<d):(aw bT (eo n d)).length<=(aw bT d).length:=
 dJ ba _ _ (ea (ej n a) (ch ba d))
theorem Bl(n d:Int)(L:d≠0)(s:(aw bT n.natAbs).length<=400000)(j:(aw bT d.natAbs).length<=400000):au prog 149 [eG n,eG d] (.str (bg (iJ n d))):=by
 refine aI nf Nu mix (by simp[f149]) ?_;simp[f149,-bt,aa];rw[bt];simp[-bt,aa];refine join (fun st=>∃(e:Int)(d':Nat),0<d'/\(aw bT e.natAbs).length<=400000/\(aw bT d').length<=400000/\iJ e d'=iJ n d/\aQ st.env 2=.ptr 0 []/\aQ st.env 3=.ptr 1 []/\st.heap=[.box false (.p (eG e)),.box false (.p (eG (d':Nat)))]) ?_ ?_
 ·have P:=LL n s;have O:=LL d j
  by_cases h:d<0
  ·simp[h,aa];refine e1 P ?_;simp[aa];refine e1 O ?_;simp[aa];refine⟨by repeat' first|rfl|apply And.intro,?_⟩;refine⟨-n,d.natAbs,by omega,by rw[bV];exact s,j,?_,rfl,?_⟩
   ·rw[bl (by omega)];exact fw _ _
   ·rw[bl (by omega)]
  ·have A:((d.natAbs:Nat):Int)=d:=b3 (by omega);simp[h,aa];exact⟨n,d.natAbs,by omega,s,j,by rw[A],rfl,by rw[A]⟩
 rintro⟨T,U⟩ ⟨e,d',k1,k2,k3,k4,l,m,D⟩;dsimp only at l m D;subst D;rw[<-k4,show iJ e d'=fv e d' from rfl];clear k4 s j L;obtain⟨u,v⟩:=lE (n:=e) (show d'≠0 by omega);obtain⟨g,k⟩:∃g,eo e.natAbs d'=g:=⟨_,rfl⟩
 have r:0<g:=by rw[<-k];exact eb _ k1
 have B:(aw bT g).length<=400000:=by rw[<-k];exact dq (Uw _ _ k1) k3
 rw[k]at u v;have y:=JH e.natAbs d' k2 k3;rw[k]at y;have I:=Dm e.natAbs g r k2 B;have J:=Dm d' g r k3 B;have Y:(aw bT (e.natAbs/g)).length<=400000:=dq (Hu _ _) k2;have Z:(aw bT (d'/g)).length<=400000:=dq (Hu _ _) k3;have w:=pY (decide (e<0)) (e.natAbs/g) (by omega);have f:=pY false (d'/g) (by omega);have t:(if decide (e<0)=true then -((e.natAbs/g:Nat):Int)else((e.natAbs/g:Nat):Int))=(fv e d').num:=by
  rw[u];have M:(g:Int)∣e:=by rw[<-k];exact b0.2 (em _ _)
  obtain⟨c,hc⟩:=M;have N:(g:Int)≠0:=by omega
  rw[hc,bI _ N,bp,bi,Nat.mul_div_cancel_left _ r]
  by_cases K:c<0
  ·have:(g:Int)*c<0:=Int.mul_neg_of_pos_of_neg (by omega) K;simp[this];omega
  ·have:¬(g:Int)*c<0:=by
    have:=b5 (a:=(g:Int)) (b:=c) (by omega) (by omega);omega
   simp[this];omega
 rw[t]at w;simp only[a9,if_false]at f;have z:=CG (fv e d').num (by
  rw[<-t];split
  ·rw[bV,bi];omega
  ·rw[bi];omega)
 have i:=CG ((d'/g:Nat):Int) (by rw[bi];omega);rw[um]at i;have Q:0<d'/g:=by
  refine e8 ?_ r;rw[<-k];exact ej _ k1
 have V:(bN (fv e d').num).length<=3600002:=by
  refine dq (Cm _) ?_;have h:=HL (fv e d').num.natAbs;have:(fv e d').num.natAbs=e.natAbs/g:=by
   rw[<-t];split
   ·rw[bV,bi]
   ·rw[bi]
  rw[this]at h⊢;omega
 have W:(bf (d'/g)).length<=3600001:=by
  have h:=HL (d'/g);omega
 have F:bg (fv e d')=if d'/g=1 then bN (fv e d').num else bN (fv e d').num++47::bf (d'/g):=by rw[bg,v]
 rw[F];clear F t u v;generalize (fv e d').num=G at*;generalize ab:d'/g=q at*;simp only[eG,bi]at w f z i⊢;simp[l,m,aa];refine c2 y ?_;simp[l,m,aa];refine c2 I ?_;simp[l,m,aa];refine c2 J ?_;simp[l,m,aa];refine c2 w ?_;simp[l,m,aa];refine c1 z ?_;have R:∀h:q=1,aw bT q=[1]:=fun h=>by rw[h];exact nj (by decide) (by decide)
 by_cases o:q=1
 ·have x:=R o;simp[o,eT,nj (show 0<1 by decide) (show 1<bT by decide)]
 ·have C:(bN G).length+1<9223372036854775808:=by omega
  have X:(bN G).length+((bf q).length+1)<9223372036854775808:=by omega
  by_cases E:q<bT
  ·have x:=nj Q E;have S:¬(q:Int)=1:=by omega
   simp[o,eT,x,S];refine⟨C,?_⟩;simp only[eT,x,List.map_cons,List.map_nil]at f i;refine c2 f ?_;simp;refine c1 i ?_;simp;omega
  ·have j:¬((aw bT q).length:Int)=1:=by
    intro h;have H:(aw bT q).length=1:=by omega
    have:=ch ba q;rw[H,fl]at this;exact E this
   simp[o,eT,j];refine⟨C,?_⟩;simp only[eT]at f i;refine c2 f ?_;simp;refine c1 i ?_;simp;omega
theorem UB{n:Int}{g:Nat}(a:0<g)(h:g∣n.natAbs):n.tdiv g=n/g:=by
 obtain⟨c,hc⟩:=b0.2 h;subst hc;rw[Int.mul_tdiv_cancel_left _ (by omega),bI _ (by omega)]
theorem zh(n d:Int)(N:d≠0)(T:n.natAbs<=4000000000000000000)(O:d.natAbs<=4000000000000000000):au prog 87 [.int .i64 n,.int .i64 d] (.str (bg (iJ n d))):=by
 refine aI nf PG mix (by simp[f87]) ?_;have f:¬n< -4000000000000000000:=by omega
 have i:¬4000000000000000000<n:=by omega
 have j:¬d< -4000000000000000000:=by omega
 have k:¬4000000000000000000<d:=by omega
 simp[f87,f,i,j,k,-bt];rw[bt];simp[f,i,j,k,-bt];rw[bt,bt];simp[f,i,j,k,-bt];refine join (fun st=>∃(b:Int)(d':Nat),0<d'/\b.natAbs<=4000000000000000000/\d'<=4000000000000000000/\iJ b d'=iJ n d/\aQ st.env 0=.p (.int .i64 b)/\aQ st.env 1=.p (.int .i64 (d':Nat))/\st.heap=[]) ?_ ?_
 ·have w1:be.wrap (-n)= -n:=aP _ (by omega) (by omega);have o:be.wrap (-d)= -d:=aP _ (by omega) (by omega)
  by_cases h:d<0
  ·simp[h,w1,o,f,i,j,k];refine⟨-n,d.natAbs,by omega,by omega,by omega,?_,rfl,?_⟩
   ·rw[bl (by omega)];exact fw _ _
   ·rw[bl (by omega)]
  ·have I:((d.natAbs:Nat):Int)=d:=b3 (by omega);simp[h,f,i,j,k];exact⟨n,d.natAbs,by omega,by omega,by omega,by rw[I],rfl,by rw[I]⟩
 rintro⟨V,W⟩ ⟨b,d',k1,k2,k3,k4,r,s,J⟩;dsimp only at r s J;subst J;rw[<-k4,show iJ b d'=fv b d' from rfl];clear k4 T O N f i j k;obtain⟨x,D⟩:=lE (n:=b) (show d'≠0 by omega);obtain⟨g,l⟩:∃g,eo b.natAbs d'=g:=⟨_,rfl⟩
 have F:0<g:=by rw[<-l];exact eb _ k1
 rw[l]at x D;have H:=Ys b.natAbs d' (by omega) (by omega);rw[l]at H;have S:(if b< -b then -b else b)=(b.natAbs:Nat):=by split<;>omega
 have w1:be.wrap (-b)= -b:=aP _ (by omega) (by omega);have z:b.tdiv g=(fv b d').num:=by rw[x,UB F (by rw[<-l];exact em _ _)]
 have A:(d':Int).tdiv g=(d'/g:Nat):=by rw[bv (bo _),b1]
 have U:(fv b d').num.natAbs<=4000000000000000000:=by
  have Q:(g:Int)∣b:=by rw[<-l];exact b0.2 (em _ _)
  obtain⟨c,hc⟩:=Q;have R:(g:Int)≠0:=by omega
  rw[x,hc,bI _ R];rw[hc,bp,bi]at k2;exact dq (Nat.le_mul_of_pos_left _ F) k2
 have P:d'/g<=4000000000000000000:=dq (en _ _) k3;have ab:0<d'/g:=by
  refine e8 ?_ F;rw[<-l];exact ej _ k1
 have L:bg (fv b d')=if d'/g=1 then bN (fv b d').num else bN (fv b d').num++47::bf (d'/g):=by rw[bg,D]
 rw[L];clear L x D;generalize (fv b d').num=a at*;generalize ac:d'/g=q at*;have y:¬g=0:=by omega
 have u:=xA a.natAbs 1 (by omega) (by decide);have E:=xA q 1 (by omega) (by decide);have X:(bf a.natAbs).length<=19:=uk (ea U (by decide)) (by decide);have Y:(bf q).length<=19:=uk (ea P (by decide)) (by decide);rw[show low (max 1 (nd a.natAbs)) a.natAbs=bf a.natAbs from rfl]at u;rw[show low (max 1 (nd q)) q=bf q from rfl]at E;have aa:(if a< -a then -a else a)=(a.natAbs:Nat):=by split<;>omega
 have o:be.wrap (-a)= -a:=aP _ (by omega) (by omega);have B:be.wrap a=a:=aP _ (by omega) (by omega);have C:be.wrap (q:Int)=q:=aP _ (by omega) (by omega);simp[r,s,w1,S];refine c2 H ?_;have K:(1:Int)<q↔¬q=1:=by omega
 have M:be.wrap 1=1:=rfl;have Z:(bf a.natAbs).length<9223372036854775808:=by omega
 by_cases m:a<0
 ·have G:bN a=45::bf a.natAbs:=by rw[bN,if_pos m]
  rw[G];have w:a< -a:=by omega
  have v:-a=(a.natAbs:Nat):=by omega
  by_cases e:q=1
  ·simp[r,s,y,z,A,B,C,m,o,w,e];rw[v];refine c2 u ?_;simp[e,M];omega
  ·have t:=K.2 e;simp[r,s,y,z,A,B,C,m,o,w,e,t];rw[v];refine c2 u ?_;simp[e,t];refine⟨by omega,by omega,?_⟩;refine c2 E ?_;simp;omega
 ·have G:bN a=bf a.natAbs:=by rw[bN,if_neg m]
  rw[G];have v:a=(a.natAbs:Nat):=by omega
  have w:¬a< -a:=by omega
  by_cases e:q=1
  ·simp[r,s,y,z,A,B,C,m,o,w,e];rw[show PV.int .i64 a=.int .i64 (a.natAbs:Nat)by rw[<-v]];refine c2 u ?_;simp[e,M];omega
  ·have t:=K.2 e;simp[r,s,y,z,A,B,C,m,o,w,e,t];rw[show PV.int .i64 a=.int .i64 (a.natAbs:Nat)by rw[<-v]];refine c2 u ?_;simp[e,t];refine⟨by omega,by omega,?_⟩;refine c2 E ?_;simp;omega
theorem vB(n:Int)(a:-9223372036854775808<=n)(b:n<=9223372036854775807):au prog 51 [.int .i64 n] (.str (bg (n:Rat))):=by
 have e:=LI n a b;have d:=CG n (by
  have c:n.natAbs<bT^3:=by
   have:bT^3=1000000000000000000000000000:=by decide
   omega
  have:=dJ ba 3 _ c;omega)
 have hq:bg (n:Rat)=bN n:=by rw[bg,if_pos (gc n),gb]
 rw[hq];refine aI nf Pu mix (by simp[f51]) ?_;simp[f51];refine c1 e ?_;simp;refine c1 d ?_;simp
theorem YF(s:List Nat)(C:(bE s).all cq=true)(J:(bP s).all cq=true)(ak:s.length<=1000000):
 ∃(n d:Int)(b:Bool),au prog 147 [.str s] (.aC [.int .i64 n,.int .i64 d,.bool b])/\(b=true->n=jN s/\d=(iC s:Nat)/\n.natAbs<1000000000/\iC s<1000000000):=by
 by_cases K:20<s.length
 ·refine⟨0,0,false,?_,fun h=>by cases h⟩;refine aI nf Dd mix (by simp[f147]) ?_;have m:(20:Int)<s.length:=by omega
  simp[f147,m]
 obtain⟨d,l⟩:∃d,c7 s=d:=⟨_,rfl⟩
 obtain⟨neg,g⟩:∃neg,bX s=neg:=⟨_,rfl⟩
 have ai:d.length<=s.length:=by rw[<-l];exact(oF s).1
 have i:=uZ d (by omega);have A:(b6 47 d).1=bE s:=by rw[<-l];rfl
 have N:(b6 47 d).2.1=bP s:=by rw[<-l];rfl
 have P:(b6 47 d).2.2=er s:=by rw[<-l];rfl
 have q:=oU 47 d;rw[A,N,P]at q;rw[A]at i;obtain⟨k,hk⟩:∃k,(bE s).length=k:=⟨_,rfl⟩
 rw[hk]at i;have Q:k<=d.length:=by rw[<-hk,<-A];exact(sC 47 d).1
 have m:¬(20:Int)<s.length:=by omega
 obtain⟨b,o⟩:∃b:Bool,b=(decide (k<=9)&&decide (d.length-k<=10)):=⟨_,rfl⟩
 have M:b=true->(jN s).natAbs<1000000000/\iC s<1000000000:=fun h=>by
  rw[o]at h;simp only[bb,decide_eq_true_eq]at h;have v:=jl _ (bE s) rfl C;rw[hk]at v;have ad:aZ (bE s)<1000000000:=dp v (dz (n:=10) (by decide) h.1);refine⟨by rw[jN];split<;>omega,?_⟩;rcases q with⟨q1,f⟩|⟨q1,f,af⟩
  ·have W:(bP s).length<=9:=by
    have:=congrArg c9 f;simp at this;omega
   have X:=jl _ (bP s) rfl J;rw[iC,if_pos q1];exact dp X (dz (n:=10) (by decide) W)
  ·rw[iC,q1,if_neg (by decide)];decide
 refine⟨if b=true then jN s else 0,if b=true then(iC s:Nat)else 0,b,?_,fun h=>⟨if_pos h,if_pos h,by rw[if_pos h];exact(M h).1,(M h).2⟩⟩;refine aI nf Dd mix (by simp[f147]) ?_;simp[f147,-bt];rw[bt];simp[-bt];rw[bt];simp[-bt];rw[bt,bt];simp[m,-bt];refine join (fun st=>aQ st.env 5=.p (.str s)/\aQ st.env 6=.p (.bool neg)/\st.heap=[]) ?_ ?_
 ·clear K m;cases s with
  |nil=>simp[<-g,bX]
  |cons c r=>
   by_cases hc:c=45
   ·simp[<-g,bX,hc]
   ·have aa:¬(c:Int)=45:=by omega
    simp[<-g,bX,hc,aa]
 rintro⟨U,ab⟩ ⟨e,a,u⟩;dsimp only at e a u;subst u;refine join (fun st=>aQ st.env 5=.p (.str d)/\aQ st.env 6=.p (.bool neg)/\st.heap=[]) ?_ ?_
 ·cases t:neg with
  |false=>
   have F:s=d:=by rw[<-l,c7,g,t];rfl
   simp[e,a,t,F]
  |true=>
   clear i q hk N A P K m o;cases s with
   |nil=>simp[bX]at g;rw[t]at g;cases g
   |cons c r=>
    have F:r=d:=by rw[<-l,c7,g,t];rfl
    simp[e,a,t,F]
 clear e a;rintro⟨U,ab⟩ ⟨e,a,u⟩;dsimp only at e a u;subst u;have ah:be.wrap ((k:Int)+1)=(k:Int)+1:=aP _ (by omega) (by omega);have G:be.wrap ((d.length:Int)-k)=(d.length:Int)-k:=aP _ (by omega) (by omega);have ag:((k:Int)+1).toNat=k+1:=by omega
 have ae:jN s=if neg=true then -(aZ (bE s):Int)else aZ (bE s):=by rw[jN,g]
 rw[ae];rcases ee 9 k with D|D
 ·have Y:¬k<=9:=by omega
  have j:(9:Int)<k:=by omega
  have E:b=false:=by rw[o];simp[Y]
  simp[e,a];refine c1 i ?_;simp[e,a,j,E]
 rcases ee 10 (d.length-k)with I|I
 ·have V:¬d.length-k<=10:=by omega
  have j:¬(9:Int)<k:=by omega
  have x:(10:Int)<(d.length:Int)-k:=by omega
  have E:b=false:=by rw[o];simp[V]
  simp[e,a];refine c1 i ?_;simp[e,a,j,x,G,E]
 have j:¬(9:Int)<k:=by omega
 have x:¬(10:Int)<(d.length:Int)-k:=by omega
 have y:b=true:=by rw[o];simp[D,I]
 have R:d.take k=bE s:=by
  rcases q with⟨_,f⟩|⟨_,f,_⟩
  ·rw[f,<-hk];simp
  ·rw[<-f,<-hk];simp
 have L:=ym (bE s) C (by omega);have v:=jl _ (bE s) rfl C;rw[hk]at v;have ad:aZ (bE s)<1000000000:=dp v (dz (n:=10) (by decide) D);rcases q with⟨q1,f⟩|⟨q1,f,af⟩
 ·have z:k<d.length:=by rw[f];simp;omega
  have O:d.drop (k+1)=bP s:=by
   conv=>lhs;rw[f,<-hk]
   simp
  have aj:(bP s).length<=9:=by rw[<-O,c6];omega
  have Z:=ym (bP s) J (by omega);have B:iC s=aZ (bP s):=by rw[iC,if_pos q1]
  rw[B];generalize aZ (bP s)=al at*;generalize aZ (bE s)=w at*;have H:be.wrap (-(w:Int))= -(w:Int):=aP _ (by omega) (by omega);clear f;simp[e,a];refine c1 i ?_;have S:(0:Int)<=k+1:=by omega
  have ac:k+1<=d.length:=z;have T:(k:Int)+1<=d.length:=by omega
  simp[e,a,j,x,G,y,Q,R];refine c1 L ?_;cases neg<;>
  ·simp[e,a,z,ac,ah,ag,O,S,T];refine c1 Z ?_;simp[a,H,y]
 ·have z:¬k<d.length:=by rw[<-f,hk];omega
  have B:iC s=1:=by rw[iC,q1];rfl
  rw[B];generalize aZ (bE s)=w at*;have H:be.wrap (-(w:Int))= -(w:Int):=aP _ (by omega) (by omega);simp[e,a];refine c1 i ?_;simp[e,a,j,x,G,y,Q,R];refine c1 L ?_;cases neg<;>simp[e,a,z,H,y]
theorem Bp{n k:Nat}(h:n<2^k):(aw bT n).length<=k/29+1:=by
 refine dJ ba _ _ (dp h ?_);have a:2^29<=bT:=by decide
 refine dq ?_ (Nat.pow_le_pow_left a _);rw[<-ew];exact dz (by decide) (by omega)
theorem K4(q:Rat):jN (bg q)=q.num:=by
 obtain⟨a,b,_,_⟩:=uI q;rw[jN,a,b,xU]
 by_cases h:q.num<0
 ·rw[if_pos (by simpa using h)];omega
 ·rw[if_neg (by simpa using h)];omega
theorem FM(q:Rat):iC (bg q)=q.den:=by
 obtain⟨_,_,a,b⟩:=uI q;rw[iC,a,b]
 by_cases h:q.den=1
 ·rw[if_neg (by simpa using h),h]
 ·rw[if_pos (by simpa using h),if_neg h,xU]
theorem Ab(q:Rat):(bE (bg q)).all cq=true/\(bP (bg q)).all cq=true:=by
 obtain⟨_,a,_,b⟩:=uI q;refine⟨by rw[a];exact qR _,?_⟩;rw[b];split
 ·rfl
 ·exact qR _
theorem qo{q:Rat}(h:bL kB q):(bg q).length<=1000000:=by
 have a:(bf q.num.natAbs).length<=33334:=Dq (K:=kB) (k:=33334) h.1 (by decide) (by decide);have b:(bf q.den).length<=33334:=Dq (K:=kB) (k:=33334) h.2 (by decide) (by decide);have:=aIT q;omega
theorem x9(q:Rat)(h:bL kB q):∃(n d:Int)(b:Bool),au prog 147 [.str (bg q)] (.aC [.int .i64 n,.int .i64 d,.bool b])/\(b=true->n=q.num/\d=(q.den:Nat)/\n.natAbs<1000000000/\q.den<1000000000):=by
 have:=YF (bg q) (Ab q).1 (Ab q).2 (qo h)
 rwa [K4,FM]at this
theorem uE(q:Rat)(h:bL kB q):au prog 148 [.str (bg q)] (.aC [eG q.num,eG (q.den:Nat)]):=by
 have:=J4 (bg q) (Ab q).1 (Ab q).2 (qo h)
 rwa [K4,FM]at this
theorem ZA(a b:Rat):iJ (a.num*b.den+b.num*a.den) (a.den*b.den)=a+b:=by
 rw[Rat.add_def'];rfl
theorem ZC(a b:Rat):iJ (a.num*b.num) (a.den*b.den)=a*b:=by
 rw[Rat.mul_def,Rat.normalize_eq_mkRat];rfl
theorem NR(a b:Rat):((a.den:Nat):Int)*(b.den:Nat)≠0:=by
 have c:=a.den_pos;have d:=b.den_pos;exact Int.ne_of_gt (Int.mul_pos (by omega) (by omega))
theorem vE{x y:Int}(hx:x.natAbs<1000000000)(a:y.natAbs<1000000000):(x*y).natAbs<=999999998000000001:=by
 rw[bp];exact Nat.mul_le_mul (show x.natAbs<=999999999 by omega) (show y.natAbs<=999999999 by omega)
theorem uz{x y:Int}(hx:x.natAbs<2^kB)(a:y.natAbs<2^kB):(aw bT (x*y).natAbs).length<=10000:=by
 have h:=Bp (n:=(x*y).natAbs) (k:=kB+kB) (by rw[bp,e6];exact ei hx a);exact dq h (by decide)
theorem kO{x:Nat}(hx:x<2^kB):(aw bT x).length<=10000:=dq (Bp hx) (by decide)
theorem zy(a b:Rat)(h:bL kB a)(i:bL kB b):au prog 146 [.str (bg a),.str (bg b)] (.str (bg (a+b))):=by
 obtain⟨n,d,p,A,E⟩:=x9 a h;obtain⟨m,e,r,B,F⟩:=x9 b i;have t:=uE a h;have u:=uE b i;refine aI nf Nw mix (by simp[f146]) ?_;rw[<-ZA];have z:=NR a b
 by_cases j:p=true/\r=true
 ·obtain⟨rfl,rfl,k1,k2⟩:=E j.1;obtain⟨rfl,rfl,k3,k4⟩:=F j.2;have N:=vE k1 (show((b.den:Nat):Int).natAbs<1000000000 by rw[bi];exact k4);have O:=vE k3 (show((a.den:Nat):Int).natAbs<1000000000 by rw[bi];exact k2);have P:=vE (show((a.den:Nat):Int).natAbs<1000000000 by rw[bi];exact k2) (show((b.den:Nat):Int).natAbs<1000000000 by rw[bi];exact k4);have C:=zh (a.num*b.den+b.num*a.den) (a.den*b.den) z (by omega) (by omega);have w1:be.wrap (a.num*(b.den:Nat))=a.num*(b.den:Nat):=aP _ (by omega) (by omega);have H:be.wrap (b.num*(a.den:Nat))=b.num*(a.den:Nat):=aP _ (by omega) (by omega);have I:be.wrap (a.num*(b.den:Nat)+b.num*(a.den:Nat))=a.num*(b.den:Nat)+b.num*(a.den:Nat):=aP _ (by omega) (by omega);have J:be.wrap (((a.den:Nat):Int)*(b.den:Nat))=((a.den:Nat):Int)*(b.den:Nat):=aP _ (by omega) (by omega);have g:p=true:=j.1;have q:r=true:=j.2;simp[f146];refine c1 A ?_;simp;refine c1 B ?_;simp[g,q,w1,H,I,J];refine c2 C ?_;simp
 ·have l:a.num.natAbs<2^kB:=h.1;have o:b.num.natAbs<2^kB:=i.1;have c:((a.den:Nat):Int).natAbs<2^kB:=by rw[bi];exact h.2
  have f:((b.den:Nat):Int).natAbs<2^kB:=by rw[bi];exact i.2
  have w:=uY a.num (b.den:Nat) (by have:=kO l;have:=kO f;omega);have x:=uY b.num (a.den:Nat) (by have:=kO o;have:=kO c;omega);have y:=uY (a.den:Nat) (b.den:Nat) (by have:=kO c;have:=kO f;omega);have K:=uz l f;have L:=uz o c;have M:=uz c f;have v:=YE (a.num*(b.den:Nat)) (b.num*(a.den:Nat)) (by omega) (by omega);have G:(aw bT (a.num*(b.den:Nat)+b.num*(a.den:Nat)).natAbs).length<=400000:=by
   refine dq (Bp (k:=kB+kB+1) ?_) (by decide);have q1:(a.num*(b.den:Nat)).natAbs<2^(kB+kB):=by rw[bp,e6];exact ei l f
   have Q:(b.num*(a.den:Nat)).natAbs<2^(kB+kB):=by rw[bp,e6];exact ei o c
   rw[ed];omega
  have s:=Bl (a.num*(b.den:Nat)+b.num*(a.den:Nat)) ((a.den:Nat)*(b.den:Nat)) z G (by omega);simp[f146];refine c1 A ?_;simp;refine c1 B ?_;have D:(p=false)\/(p=true/\r=false):=by cases p<;>cases r<;>simp_all
  rcases D with g|⟨g,q⟩
  ·simp[g];refine c1 t ?_;simp[aa];refine c1 u ?_;simp[aa];refine e2 w ?_;simp[aa];refine e2 x ?_;simp[aa];refine e2 v ?_;simp[aa];refine e2 y ?_;simp[aa];refine e2 s ?_;simp
  ·simp[g,q];refine c1 t ?_;simp[aa];refine c1 u ?_;simp[aa];refine e2 w ?_;simp[aa];refine e2 x ?_;simp[aa];refine e2 v ?_;simp[aa];refine e2 y ?_;simp[aa];refine e2 s ?_;simp
theorem pj(a b:Rat)(f:bL kB a)(g:bL kB b):au prog 50 [.str (bg a),.str (bg b)] (.str (bg (a*b))):=by
 obtain⟨n,d,p,x,B⟩:=x9 a f;obtain⟨m,e,r,y,C⟩:=x9 b g;have s:=uE a f;have t:=uE b g;refine aI nf Pt mix (by simp[f50]) ?_;rw[<-ZC];have w:=NR a b
 by_cases h:p=true/\r=true
 ·obtain⟨rfl,rfl,k1,k2⟩:=B h.1;obtain⟨rfl,rfl,k3,k4⟩:=C h.2;have G:=vE k1 k3;have H:=vE (show((a.den:Nat):Int).natAbs<1000000000 by rw[bi];exact k2) (show((b.den:Nat):Int).natAbs<1000000000 by rw[bi];exact k4);have z:=zh (a.num*b.num) (a.den*b.den) w (by omega) (by omega);have w1:be.wrap (a.num*b.num)=a.num*b.num:=aP _ (by omega) (by omega);have D:be.wrap (((a.den:Nat):Int)*(b.den:Nat))=((a.den:Nat):Int)*(b.den:Nat):=aP _ (by omega) (by omega);have c:p=true:=h.1;have i:r=true:=h.2;simp[f50];refine c1 x ?_;simp;refine c1 y ?_;simp[c,i,w1,D];refine c2 z ?_;simp
 ·have j:a.num.natAbs<2^kB:=f.1;have l:b.num.natAbs<2^kB:=g.1;have k:((a.den:Nat):Int).natAbs<2^kB:=by rw[bi];exact f.2
  have o:((b.den:Nat):Int).natAbs<2^kB:=by rw[bi];exact g.2
  have u:=uY a.num b.num (by have:=kO j;have:=kO l;omega);have v:=uY (a.den:Nat) (b.den:Nat) (by have:=kO k;have:=kO o;omega);have E:=uz j l;have F:=uz k o;have q:=Bl (a.num*b.num) ((a.den:Nat)*(b.den:Nat)) w (by omega) (by omega);simp[f50];refine c1 x ?_;simp;refine c1 y ?_;have A:(p=false)\/(p=true/\r=false):=by cases p<;>cases r<;>simp_all
  rcases A with c|⟨c,i⟩
  ·simp[c];refine c1 s ?_;simp[aa];refine c1 t ?_;simp[aa];refine e2 u ?_;simp[aa];refine e2 v ?_;simp[aa];refine e2 q ?_;simp
  ·simp[c,i];refine c1 s ?_;simp[aa];refine c1 t ?_;simp[aa];refine e2 u ?_;simp[aa];refine e2 v ?_;simp[aa];refine e2 q ?_;simp
theorem aht{a:Rat}(h:a≠0):iJ (a.den:Nat) a.num=a⁻¹:=by
 rw[Rat.inv_def];rfl
theorem MV{a:Rat}(h:a≠0):a.num≠0:=fun e=>h (Rat.num_eq_zero.1 e)
theorem Sf(a:Rat)(b:bL kB a)(c:a≠0):au prog 96 [.str (bg a)] (.str (bg a⁻¹)):=by
 have g:=uE a b;have e:a.num.natAbs<2^kB:=b.1;have f:((a.den:Nat):Int).natAbs<2^kB:=by rw[bi];exact b.2
 have d:=Bl ((a.den:Nat):Int) a.num (MV c) (by have:=kO f;omega) (by have:=kO e;omega);rw[aht c]at d;refine aI nf PO mix (by simp[f96]) ?_;simp[f96];refine c1 g ?_;simp[aa];refine c2 d ?_;simp
theorem X0(a b:Rat)(g:bL kB a)(d:bL kB b)(e:b≠0):au prog 94 [.str (bg a),.str (bg b)] (.str (bg (a/b))):=by
 have f:=Sf b d e;have c:=pj a b⁻¹ g (xm d);rw[<-Rat.div_def]at c;refine aI nf PM mix (by simp[f94]) ?_;simp[f94];refine c1 f ?_;simp;refine c2 c ?_;simp
theorem LO(s:List Nat)(g:s.length<=1048576):au prog 115 [.str s] (.int .i64 (if s=[48]then 0 else if bX s=true then -1 else 1)):=by
 refine aI nf NC mix (by simp[f115]) ?_
 by_cases b:s=[48]
 ·simp[f115,b]
 ·cases s with
  |nil=>simp[f115,bX]
  |cons c r=>
   by_cases hc:c=45
   ·simp[f115,bX,hc]
   ·have e:¬(c:Int)=45:=by omega
    have d:¬(c=48/\r=[]):=fun h=>b (by rw[h.1,h.2])
    by_cases a:c=48
    ·have f:¬r=[]:=fun h=>d ⟨a,h⟩;simp[f115,bX,a,f]
    ·simp[f115,bX,hc,e,a]
theorem xK(q:Rat):q.num<0↔q<0:=by
 have h:=C2 q
 by_cases b:q<0
 ·rw[if_pos b]at h;refine⟨fun _=>b,fun _=>?_⟩
  by_cases a:q.num<0
  ·exact a
  ·rw[if_neg a]at h;split at h<;>omega
 ·refine⟨fun a=>?_,fun a=>(b a).elim⟩;rw[if_neg b,if_pos a]at h
  split at h<;>omega
def dF(q:Rat):Int:=if q<0 then -1 else if q=0 then 0 else 1
theorem G5:bg 0=[48]:=by
 have h:bN 0=[48]:=by rw[show(0:Int)=((0:Nat):Int)from rfl,um,qf]
 rw[bg,if_pos (show(0:Rat).den=1 from rfl)];exact h
theorem G4(q:Rat):bg q=[48]↔q=0:=by
 rw[<-G5];exact⟨fun h=>Ai h,fun h=>by rw[h]⟩
theorem aIp(q:Rat):(if bg q=[48]then(0:Int)else if bX (bg q)=true then -1 else 1)=dF q:=by
 have e:=(uI q).1;have c:=G4 q;have d:q<0↔q.num<0:=(xK q).symm;rw[e,dF]
 by_cases b:q=0
 ·subst b;rw[if_pos (c.2 rfl),if_neg (by decide),if_pos rfl]
 ·rw[if_neg (fun h=>b (c.1 h))]
  by_cases a:q<0
  ·rw[if_pos (by simpa using d.1 a),if_pos a]
  ·rw[if_neg (by simpa using fun h=>a (d.2 h)),if_neg a,if_neg b]
theorem s9(q:Rat)(h:bL kB q):au prog 115 [.str (bg q)] (.int .i64 (dF q)):=by
 have:=LO (bg q) (by have:=qo h;omega)
 rwa [aIp]at this
theorem LS{q:Rat}(h:q<0):bg q=45::bg (-q):=by
 have a:q.num<0:=(xK q).2 h;have e1:bN q.num=45::bf q.num.natAbs:=by rw[bN,if_pos a]
 have e2:bN (-q).num=bf q.num.natAbs:=by rw[ge,bN,if_neg (by omega),bV]
 rw[bg,bg,Rat.neg_den,e1,e2]
 split<;>rfl
theorem LP(q:Rat)(h:bL kB q):au prog 56 [.str (bg q)] (.str (bg (-q))):=by
 have a:=s9 q h;have f:=qo h;refine aI nf Pw mix (by simp[f56]) ?_
 by_cases b:q<0
 ·have hs:dF q= -1:=by rw[dF,if_pos b]
  rw[hs]at a;have c:=LS b;rw[c]at a f⊢;simp[f56];refine c1 a ?_;simp
 ·by_cases d:q=0
  ·have hs:dF q=0:=by rw[dF,if_neg b,if_pos d]
   rw[hs]at a;have hq:-q=q:=by rw[d];rfl
   rw[hq];simp[f56];refine c1 a ?_;simp;refine c1 a ?_;simp
  ·have hs:dF q=1:=by rw[dF,if_neg b,if_neg d]
   rw[hs]at a;have e:-q<0:=by
    rw[<-xK,ge];have g:¬q.num<0:=fun h=>b ((xK q).1 h);have i:=MV d;omega
   have c:=LS e;rw[Rat.neg_neg]at c;rw[c];have j:(bg q).length+1<9223372036854775808:=by omega
   simp[f56];refine c1 a ?_;simp;refine c1 a ?_;simp;omega
theorem yA(a b:Rat)(f:bL kB a)(d:bL kB b):au prog 53 [.str (bg a),.str (bg b)] (.str (bg (a-b))):=by
 have e:=LP b d;have c:=zy a (-b) f (xY d);rw[<-Rat.sub_eq_add_neg]at c;refine aI nf Pv mix (by simp[f53]) ?_;simp[f53];refine c1 e ?_;simp;refine c2 c ?_;simp
theorem aIo(a b:Rat):dF (a-b)=dw a b:=by
 have d:a-b<0↔a<b:=by
  rw[<-gg,<-gg,<-Rat.le_iff_sub_nonneg]
 have e:a-b=0↔a=b:=by
  constructor
  ·intro h;have f:a-b+b=0+b:=by rw[h]
   rwa [Rat.sub_add_cancel,Rat.zero_add]at f
  ·rintro rfl;exact Rat.sub_self
 rw[dF,dw]
 by_cases h:a<b
 ·rw[if_pos (d.2 h),if_pos h]
 ·rw[if_neg (fun x=>h (d.1 x)),if_neg h]
  by_cases c:a=b
  ·rw[if_pos (e.2 c),if_pos c]
  ·rw[if_neg (fun x=>c (e.1 x)),if_neg c]
theorem pO(a b:Rat)(d:bL (kB/3) a)(e:bL (kB/3) b):au prog 90 [.str (bg a),.str (bg b)] (.int .i64 (dw a b)):=by
 have f:=yA a b (d.mono (by decide)) (e.mono (by decide));have c:=s9 (a-b) ((xg d e).mono (by decide));rw[aIo]at c;refine aI nf PJ mix (by simp[f90]) ?_;simp[f90];refine c2 f ?_;simp;refine c1 c ?_;simp
theorem Ou{a b:Nat}(h:a<=b):10^a<=10^b:=dz (by decide) h
theorem Ot{s:List Nat}{k:Nat}(h:s.length<=k)(a:s.all cq=true):aZ s<10^k:=dp (jl _ s rfl a) (Ou h)
theorem aHw{x a b:Nat}(hx:x<10^a)(h:a<=9*b):(aw bT x).length<=b:=dJ ba b x (dp hx (by
 rw[show bT^b=10^(9*b)by rw[ew];rfl];exact Ou h))
theorem Xo(s:List Nat)(D:s.length<=1048576):au prog 314 [.str s] (.bool (s.all cq)):=by
 refine aI nf Mp mix (by simp[f314]) ?_;obtain⟨k,hk,n,o⟩:=yd (fun j=>cq (s[j]?.getD 0)) s.length;have e:∀j(h:j<s.length),s[j]?.getD 0=s[j]:=fun j h=>by rw[cb h];rfl
 have B:s.all cq=decide (k=s.length):=by
  rcases o with h|⟨a,b⟩
  ·rw[h,decide_eq_true rfl,ce];intro x hx;obtain⟨j,A,rfl⟩:=List.getElem_of_mem hx;have:=n j (by omega)
   rwa [e j A]at this
  ·rw[decide_eq_false (by omega)];rw[e k a]at b
   by_cases m:s.all cq=true
   ·have:=ce.1 m _ (cv a);rw[this]at b;cases b
   ·simpa using m
 rw[B];simp[f314];refine lp (α:=Nat) (fun i=>⟨[(3,.p (.int .i64 i)),(0,.p (.str s))],[]⟩)
  (fun i=>i<=k) (fun i=>k-i) 0 (ec _) ?_
 intro i hi;have C:be.wrap ((i:Int)+1)=(i:Int)+1:=aP _ (by omega) (by omega)
 by_cases y:i<k
 ·have l:i<s.length:=by omega
  have q:=n i y;rw[e i l]at q;have E:=yw q;generalize d:s[i]=c at*;have f:s[i]?=some c:=by rw[cb l,d]
  have a:¬(c:Int)<48:=by omega
  have b:¬(57:Int)<c:=by omega
  have t:¬c<48:=by omega
  have u:¬57<c:=by omega
  simp[l,d,f,a,b,t,u,C];exact rd (i+1) (show i+1<=k by omega)
 ·have z:i=k:=by omega
  subst z;rcases o with h|⟨a,b⟩
  ·simp[h]
  ·rw[e i a]at b;have r:¬i=s.length:=by omega
   generalize d:s[i]=c at*;have f:s[i]?=some c:=by rw[cb a,d]
   by_cases hc:c<48
   ·have g:(c:Int)<48:=by omega
    simp[a,d,f,hc,g,r]
   ·have v:57<c:=by
     simp only[cq,Bool.and_eq_false_iff,decide_eq_false_iff_not]at b;omega
    have g:¬(c:Int)<48:=by omega
    have w:(57:Int)<c:=by omega
    simp[a,d,f,hc,g,v,w,r]
theorem IU(s:List Nat)(j:s.length<=1048576):au prog 259 [.str s] (.bool (dE s)):=by
 have b:=Xo s j;refine aI nf MH mix (by simp[f259]) ?_;cases s with
 |nil=>simp[f259,dE]
 |cons c r=>
  have k:(c:Int)=48↔c=48:=by omega
  by_cases a:r=[]
  ·subst a;have e:dE [c]=[c].all cq:=by
    rw[dE]
    by_cases h:c=48
    ·subst h;rfl
    ·simp[h]
   rw[e];simp[f259];refine c1 b ?_;simp
  ·have d:0<r.length:=cy.2 a;have f:¬(r.length:Int)+1=0:=by omega
   have g:(1:Int)<r.length+1:=by omega
   by_cases hc:c=48
   ·have e:dE (c::r)=false:=by rw[dE,hc];simp[a]
    rw[e];simp[f259,a,hc,d,f,g]
   ·have i:¬(c:Int)=48:=by omega
    have e:dE (c::r)=(c::r).all cq:=by rw[dE];simp[hc]
    rw[e];simp[f259,a,hc,i,d,f,g];refine c1 b ?_;simp
theorem vA(s:List Nat)(hs:iU s):au prog 174 [.str s] (.int .i64 (b7 s)):=by
 refine aI nf Ob mix (by simp[f174]) ?_;obtain⟨aY,aM⟩:=hs;obtain⟨d,S⟩:∃d,c7 s=d:=⟨_,rfl⟩
 obtain⟨neg,A⟩:∃neg,bX s=neg:=⟨_,rfl⟩
 have aS:d.length<=s.length:=by rw[<-S];exact(oF s).1
 have T:=uZ d (by omega);have Y:(b6 47 d).1=bE s:=by rw[<-S];rfl
 have W:(b6 47 d).2.1=bP s:=by rw[<-S];rfl
 have ah:(b6 47 d).2.2=er s:=by rw[<-S];rfl
 have z:=oU 47 d;have F:=sC 47 d;rw[Y,W,ah]at z;rw[Y]at T F;rw[W]at F;obtain⟨k,hk⟩:∃k,(bE s).length=k:=⟨_,rfl⟩
 rw[hk]at T;have J:k<=d.length:=by rw[<-hk];exact F.1
 have ax:d.take k=bE s:=by
  rcases z with⟨_,G⟩|⟨_,G,_⟩
  ·rw[G,<-hk];simp
  ·rw[<-G,<-hk];simp
 have M:=IU (bE s) (by omega);have l:=IU (bP s) (by omega);simp[f174,-bt];rw[bt];simp[-bt];rw[bt];simp[-bt];refine join (fun st=>aQ st.env 0=.p (.str s)/\aQ st.env 3=.p (.str d)/\st.heap=[]) ?_ ?_
 ·cases aj:neg with
  |false=>
   have av:s=d:=by rw[<-S,c7,A,aj];rfl
   clear T z hk W Y ah ax M l F J;subst av;cases s with
   |nil=>simp
   |cons c r=>
    rw[aj]at A;have hc:¬c=45:=fun h=>by rw[h]at A;simp[bX]at A
    have an:¬(c:Int)=45:=by omega
    simp[hc,an]
  |true=>
   clear T z hk W Y ah ax M l F J;cases s with
   |nil=>simp[bX]at A;rw[aj]at A;cases A
   |cons c r=>
    have av:r=d:=by rw[<-S,c7,A,aj];rfl
    rw[aj]at A;have hc:c=45:=by simpa[bX]using A
    simp[hc,av]
 rintro⟨aH,aV⟩ ⟨w,e,ak⟩;dsimp only at w e ak;subst ak;have ag:mH s=(dE (bE s)&&!(neg&&decide (bE s=[48]))&&(!er s||(dE (bP s)&&decide (bP s≠[48])&&decide (bP s≠[49])))):=by rw[mH,A]
 have a7:d.length<=1048576:=by omega
 have V:(bE s).all cq=true->(bP s).all cq=true->er s=true->0<k->d.length<=1000000->au prog 148 [.str d] (.aC [eG (aZ (bE s):Nat),eG (aZ (bP s):Nat)]):=fun y O ay aD a0=>by
  have al:bX d=false/\c7 d=d:=by
   have aG:bX d=false:=by
    rcases z with⟨_,G⟩|⟨q1,_⟩
    ·cases X:bE s with
     |nil=>rw[X]at hk;simp at hk;omega
     |cons c r=>
      rw[X]at G y;have:=yw (ce.1 y c (by simp));rw[G,bX];simp;omega
    ·rw[ay]at q1;cases q1
   exact⟨aG,by rw[c7,aG];rfl⟩
  have e1:bE d=bE s:=by rw[bE,al.2,Y]
  have e2:bP d=bP s:=by rw[bP,al.2,W]
  have e3:er d=true:=by rw[er,al.2,ah];exact ay
  have:=J4 d (by rw[e1];exact y) (by rw[e2];exact O) a0;rw[jN,iC,e1,e2,al.1,if_pos e3]at this;exact this
 rw[b7];generalize mH s=N at*;generalize bE s=v at*;generalize bP s=f at*;generalize er s=fr at*;have U:cx k d=v:=ax
 by_cases K:dE v=true
 ·have aD:0<k:=by
   rw[<-hk,cy];intro h;rw[h]at K;cases K
  obtain⟨c,r,hs⟩:∃c r,s=c::r:=by
   cases s with
   |nil=>
    have:d.length<=0:=by simpa using aS
    omega
   |cons c r=>exact⟨c,r,rfl⟩
  have ao:c=45↔neg=true:=by rw[<-A,hs];simp[bX]
  have an:(c:Int)=45↔c=45:=by omega
  rw[K]at M;clear aM aY S A Y W ah
  by_cases P:neg=true/\v=[48]
  ·have hf:N=false:=by rw[ag,P.1,P.2];simp
   have aR:=ao.2 P.1;rw[if_pos hf];clear z F l V ao an;subst hs aR;have X:=P.2;simp[w,e];refine c1 T ?_;simp[w,e,J,U];refine c1 M ?_;simp[w,e,J,U,X]
  ·subst hs;rw[bt];simp[w,e,-bt];refine c1 T ?_;simp[w,e,-bt];refine join (fun st=>aQ st.env 3=.p (.str d)/\aQ st.env 4=.p (.int .i64 k)/\st.heap=[]) ?_ ?_
   ·by_cases y:c=45
    ·have X:¬v=[48]:=fun h=>P ⟨ao.1 y,h⟩;subst y;clear z F l V;simp[w,e,J,U];refine c1 M ?_;simp[w,e,J,U,X]
    ·have aJ:¬(c:Int)=45:=by omega
     clear z F l V;simp[w,e,J,U];refine c1 M ?_;simp[w,e,J,U,y,aJ]
   clear w e;rintro⟨aH,aV⟩ ⟨e,j,ak⟩;dsimp only at e j ak;subst ak;cases ai:fr with
   |false=>
    have i:k=d.length:=by
     rcases z with⟨q1,_⟩|⟨_,G,_⟩
     ·rw[ai]at q1;cases q1
     ·rw[<-hk,G]
    have aE:¬k<d.length:=by omega
    have aT:f=[]:=by
     rcases z with⟨q1,_⟩|⟨_,_,a4⟩
     ·rw[ai]at q1;cases q1
     ·exact a4
    have hf:N=true:=by
     rw[ag,K,ai];simp
     by_cases y:neg=true
     ·exact .inr fun O=>P ⟨y,O⟩
     ·exact .inl (by simpa using y)
    have Z:be.wrap ((d.length:Int)-k)=0:=by rw[i,Int.sub_self];rfl
    have ab:be.wrap (-1)= -1:=rfl;rw[hf,hk,aT];clear z F l V
    by_cases I:600<k
    ·have B:¬(k:Int)<=600:=by omega
     have C:¬k<=600:=by omega
     have D:(600:Int)<k:=by omega
     simp[e,j,aE,I,B,C,D]
    ·have B:(k:Int)<=600:=by omega
     have C:k<=600:=by omega
     have D:¬(600:Int)<k:=by omega
     simp[e,j,aE,I,B,C,D,Z,ab]
   |true=>
    rw[ai]at ag V;have ar:d=v++47::f:=by
     rcases z with⟨_,G⟩|⟨q1,_⟩
     ·exact G
     ·rw[ai]at q1;cases q1
    have i:k<d.length:=by rw[ar];simp;omega
    have q:d.drop (k+1)=f:=by
     conv=>lhs;rw[ar,<-hk]
     simp
    have a8:d.length=k+1+f.length:=by rw[ar];simp;omega
    have u:be.wrap ((k:Int)+1)=(k:Int)+1:=aP _ (by omega) (by omega);have t:((k:Int)+1).toNat=k+1:=by omega
    have m:(0:Int)<=k+1:=by omega
    have n:(k:Int)+1<=d.length:=by omega
    have o:k+1<=d.length:=i;clear z F;have af:N=(dE f&&decide (f≠[48])&&decide (f≠[49])):=by
     rw[ag,K];have:(neg&&decide (v=[48]))=false:=by
      by_cases y:neg=true
      ·have:¬v=[48]:=fun O=>P ⟨y,O⟩;simp[this]
      ·have:neg=false:=by simpa using y
       rw[this];rfl
     rw[this];simp
    by_cases ap:N=true
    ·rw[ap]at af;have aW:¬N=false:=by rw[ap];decide
     rw[if_neg aW];have aL:dE f=true/\¬f=[48]/\¬f=[49]:=by
      have:=af.symm;simp only[bb,decide_eq_true_eq]at this;exact⟨this.1.1,this.1.2,this.2⟩
     obtain⟨L,H,E⟩:=aL;rw[L]at l;rw[hk];have Z:be.wrap ((d.length:Int)-k)=(d.length:Int)-k:=aP _ (by omega) (by omega);have ab:be.wrap ((d.length:Int)-k-1)=f.length:=by rw[aP _ (by omega) (by omega)];omega
     by_cases I:600<k
     ·have B:¬(k:Int)<=600:=by omega
      have C:¬k<=600:=by omega
      have D:(600:Int)<k:=by omega
      simp[e,j,i,u,t,m,n,o,q];refine c1 l ?_;simp[e,j,i,u,t,m,n,o,q,H,E,I,B,C,D]
     by_cases ac:600<f.length
     ·have B:(k:Int)<=600:=by omega
      have C:k<=600:=by omega
      have D:¬(600:Int)<k:=by omega
      have ad:(600:Int)<f.length:=by omega
      simp[e,j,i,u,t,m,n,o,q];refine c1 l ?_;simp[e,j,i,u,t,m,n,o,q,H,E,I,B,C,D,Z,ab,ac,ad]
     have B:(k:Int)<=600:=by omega
     have C:k<=600:=by omega
     have D:¬(600:Int)<k:=by omega
     have ad:¬(600:Int)<f.length:=by omega
     have R:=V (jH K) (jH L) rfl aD (by omega);have aU:=xV L H;have a2:v.length<=700:=by omega
     have a3:f.length<=700:=by omega
     have aN:aZ v<10^700:=Ot (s:=v) (k:=700) a2 (jH K);have aO:aZ f<10^700:=Ot (s:=f) (k:=700) a3 (jH L);have aF:∀x:Nat,x<10^700->(aw bT x).length<=400000:=fun x hx=>dq (aHw (a:=700) (b:=78) hx (by decide)) (by decide);have Q:=JH (aZ v) (aZ f) (aF _ aN) (aF _ aO);have aB:0<eo (aZ v) (aZ f):=eb _ aU;generalize aZ v=a6 at*;generalize aZ f=a5 at*;obtain⟨g,am⟩:∃g,eo a6 a5=g:=⟨_,rfl⟩
     simp only[am]at Q aB⊢;have a1:¬(600<k\/600<f.length):=fun h=>by rcases h with h|h;exact I h;exact ac h
     rw[if_neg a1];simp only[eG,bi]at R
     by_cases aq:g=1
     ·subst aq;have ae:aw bT 1=[1]:=nj (by decide) (by decide);simp only[eT,ae]at Q R;simp[e,j,i,u,t,m,n,o,q];refine c1 l ?_;simp[e,j,i,u,t,m,n,o,q,H,E,I,B,C,D,Z,ab,ac,ad];refine c1 R ?_;simp[aa];refine c2 Q ?_;simp[am]
     ·by_cases aC:g<bT
      ·have ae:aw bT g=[g]:=nj aB aC;have aX:¬(g:Int)=1:=by omega
       simp only[eT,ae]at Q R;simp[e,j,i,u,t,m,n,o,q];refine c1 l ?_;simp[e,j,i,u,t,m,n,o,q,H,E,I,B,C,D,Z,ab,ac,ad];refine c1 R ?_;simp[aa];refine c2 Q ?_;simp[aq,aX,am]
      ·have ae:¬((aw bT g).length:Int)=1:=by
        intro h;have O:(aw bT g).length=1:=by omega
        have:=ch ba g;rw[O,fl]at this;exact aC this
       simp only[eT]at Q R;simp[e,j,i,u,t,m,n,o,q];refine c1 l ?_;simp[e,j,i,u,t,m,n,o,q,H,E,I,B,C,D,Z,ab,ac,ad];refine c1 R ?_;simp[aa];refine c2 Q ?_;simp[aq,ae,am]
    ·have aA:N=false:=by simpa using ap
     rw[if_pos aA]
     by_cases L:dE f=true
     ·rw[L]at l
      by_cases H:f=[48]
      ·simp[e,j,i,u,t,m,n,o,q];refine c1 l ?_;simp[e,j,i,u,t,m,n,o,q,H]
      ·have E:f=[49]:=by
        rw[L]at af
        by_cases E:f=[49]
        ·exact E
        ·rw[aA]at af;simp[H,E]at af
       simp[e,j,i,u,t,m,n,o,q];refine c1 l ?_;simp[e,j,i,u,t,m,n,o,q,E]
     ·have aK:dE f=false:=by simpa using L
      rw[aK]at l;simp[e,j,i,u,t,m,n,o,q];refine c1 l ?_;simp[e,j,i,u,t,m,n,o,q]
 ·have az:dE v=false:=by simpa using K
  have hf:N=false:=by rw[ag,az];rfl
  rw[if_pos hf];rw[az]at M;simp[w,e];refine c1 T ?_;simp[w,e,J,U];refine c1 M ?_;simp[w,e]
theorem TY(l:List (List Nat))(f:l.length<=1000000)(hs:∀s∈l,iU s):au prog 88 [.seq (l.map .str)] (.int .i64 (bK (l.map b7))):=by
 refine aI nf PH mix (by simp[f88]) ?_;simp[f88];refine lp (α:=Nat) (fun i=>⟨[(3,.p (.int .i64 i)),(0,.p (.seq (l.map .str)))],[]⟩) (fun i=>i<=l.length/\bK ((l.drop i).map b7)=bK (l.map b7)) (fun i=>l.length-i) 0 (by simp) ?_;rintro i ⟨e,a⟩
 by_cases hi:i<l.length
 ·rw[List.drop_eq_getElem_cons hi]at a;have d:=b9 (i:=i) (by omega);have hc:=vA l[i] (hs _ (cv hi));obtain⟨s,b⟩:∃s,l[i]=s:=⟨_,rfl⟩
  have c:l[i]?=some s:=by rw[cb hi,b]
  rw[b]at hc a;simp[hi,c,b];refine c1 hc ?_
  by_cases he:b7 s=0
  ·simp[bK,he]at a;simp[he,d];exact rd (i+1) ⟨hi,by simpa using a⟩
  ·simp[bK,he]at a;simp[he,<-a]
 ·have:i=l.length:=by omega
  subst this;simp[bK]at a;simp[<-a]
theorem Gv(p:gF)(a:n8 p):au prog 17 [ga p] (.int .i64 (ek p)):=by
 have hc:=TY [p.x,p.y] (by simp) (by intro s hs;simp at hs;rcases hs with rfl|rfl;exact a.1;exact a.2);refine aI nf Pb mix (by simp[f17]) ?_;simp[f17,aa];refine cp hc (by simp;exact⟨rfl,rfl⟩) ?_;simp[ek]
theorem G6(z:Int):47∉bN z:=by
 rw[bN];split
 ·simp only[dk,not_or];exact⟨by decide,Ag (qR _) rfl⟩
 ·exact Ag (qR _) rfl
theorem Av(q:Rat):(b6 47 (bg q)).1=bN q.num/\(q.den≠1->bg q=bN q.num++47::bf q.den)/\(q.den=1->bg q=bN q.num):=by
 by_cases h:q.den=1
 ·have e:bg q=bN q.num:=by rw[bg,if_pos h]
  refine⟨?_,fun a=>(a h).elim,fun _=>e⟩;rw[e,BC 47 _ (G6 _)]
 ·have e:bg q=bN q.num++47::bf q.den:=by rw[bg,if_neg h]
  refine⟨?_,fun _=>e,fun a=>(h a).elim⟩;rw[e,BW 47 _ _ (G6 _)]
theorem X6(q:Rat)(h:bL kB q):au prog 230 [.str (bg q)] (.str (bN q.num)):=by
 have i:=qo h;obtain⟨e,c,d⟩:=Av q;have hs:=uZ (bg q) (by omega);rw[e]at hs;have g:(bg q).take (bN q.num).length=bN q.num:=by
  by_cases b:q.den=1
  ·rw[d b];simp
  ·rw[c b];simp
 have f:(bN q.num).length<=(bg q).length:=by
  by_cases b:q.den=1
  ·rw[d b];exact e7 _
  ·rw[c b];simp
 refine aI nf N5 mix (by simp[f230]) ?_;generalize bN q.num=a at*;generalize bg q=s at*;simp[f230];refine c1 hs ?_;simp[g,f]
theorem XZ(q:Rat)(h:bL kB q):au prog 231 [.str (bg q)] (.str (bf q.den)):=by
 have d:=qo h;obtain⟨i,j,k⟩:=Av q;have hs:=uZ (bg q) (by omega);rw[i]at hs;refine aI nf N4 mix (by simp[f231]) ?_
 by_cases c:q.den=1
 ·have e:=k c;rw[c,aIS];rw[e]at hs⊢;generalize bN q.num=a at*;simp[f231];refine c1 hs ?_;simp
 ·have e:=j c;rw[e]at hs d⊢;generalize bN q.num=a at*;generalize bf q.den=b at*;simp only[List.length_append,List.length_cons]at d;have m:¬(a.length:Int)=(a.length:Int)+(b.length+1):=by omega
  have p:be.wrap ((a.length:Int)+1)=(a.length:Int)+1:=aP _ (by omega) (by omega);have o:((a.length:Int)+1).toNat=a.length+1:=by omega
  have f:(0:Int)<=(a.length:Int)+1:=by omega
  have g:(a.length:Int)+1<=(a.length:Int)+(b.length+1):=by omega
  have l:List.drop (a.length+1) (a++47::b)=b:=by simp
  have n:cx (a.length+(b.length+1)) (a++47::b)=a++47::b:=cc (by simp);simp[f231];refine c1 hs ?_;simp[m,p,o,f,g,l,n]
theorem XW(z:Int)(h:(bN z).length<=1000000):au prog 229 [.str (bN z)] (.str (bf z.natAbs)):=by
 have a:=LO (bN z) (by omega);have g:bX (bN z)=decide (z<0):=by
  have:=(xF z []).1;rwa [List.append_nil]at this
 have f:bN z=[48]↔z=0:=by
  have e:bN z=bg (z:Rat):=by rw[bg,if_pos (gc z),gb]
  rw[e,G4]
  exact_mod_cast Iff.rfl
 refine aI nf N6 mix (by simp[f229]) ?_;rw[g]at a
 by_cases c:z<0
 ·have e:bN z=45::bf z.natAbs:=by rw[bN,if_pos c]
  rw[if_neg (fun x=>by have:=f.1 x;omega),if_pos (by simpa using c)]at a;rw[e]at a⊢;simp[f229];refine c1 a ?_;simp
 ·have e:bN z=bf z.natAbs:=by rw[bN,if_neg c]
  have b:∃v:Int,¬v<0/\au prog 115 [.str (bN z)] (.int .i64 v):=by
   by_cases d:bN z=[48]
   ·rw[if_pos d]at a;exact⟨0,by omega,a⟩
   ·rw[if_neg d,if_neg (by simpa using c)]at a;exact⟨1,by omega,a⟩
  obtain⟨v,i,b⟩:=b;rw[e]at b⊢;simp[f229];refine c1 b ?_;simp[i]
def fq(s:List Nat)(D:Nat):Bool:=decide (s.length<=2*D+2)&&decide (b7 s=0)&&decide ((bf (bd s).num.natAbs).length<=D)&&decide ((bf (bd s).den).length<=D)
theorem Y0{s:List Nat}(h:b7 s=0):bL kB (bd s):=by
 obtain⟨b,c⟩:=Ff h;have a:(10:Nat)^mD<=2^kB:=dq (KF mD) (dz (by decide) (by decide));exact⟨dp b a,dp c a⟩
theorem zx(s:List Nat)(D:Nat)(hs:iU s)(u:D<=100000):au prog 145 [.str s,.int .i64 D] (.bool (fq s D)):=by
 have g:=vA s hs;have v:=hs.1;refine aI nf Nx mix (by simp[f145]) ?_;have w1:be.wrap (2*(D:Int))=2*(D:Int):=aP _ (by omega) (by omega);have h:be.wrap (2*(D:Int)+2)=2*(D:Int)+2:=aP _ (by omega) (by omega)
 by_cases m:s.length<=2*D+2
 ·have f:(s.length:Int)<=2*(D:Int)+2:=by omega
  by_cases d:b7 s=0
  ·have l:=Y0 d;have e:=(jG d).1;rw[d]at g;have k:=X6 (bd s) l;have o:=XZ (bd s) l;have q:(bN (bd s).num).length<=1000000:=by
    have:=qo l;obtain⟨_,r,t⟩:=Av (bd s)
    by_cases p:(bd s).den=1
    ·rw[t p]at this;exact this
    ·rw[r p]at this;simp at this;omega
   have n:=XW (bd s).num q;rw[e]at k o;have hf:fq s D=(decide ((bf (bd s).num.natAbs).length<=D)&&decide ((bf (bd s).den).length<=D)):=by
    rw[fq,decide_eq_true m,decide_eq_true d];simp
   rw[hf];generalize bf (bd s).num.natAbs=a at*;generalize bf (bd s).den=b at*;generalize bN (bd s).num=c at*
   by_cases i:a.length<=D
   ·have j:(a.length:Int)<=D:=by omega
    simp[f145,w1,h,f];refine c1 g ?_;simp;refine c1 k ?_;simp;refine c1 n ?_;simp[i,j];refine c1 o ?_;simp[i]
   ·have j:¬(a.length:Int)<=D:=by omega
    simp[f145,w1,h,f];refine c1 g ?_;simp;refine c1 k ?_;simp;refine c1 n ?_;simp[i,j]
  ·have hf:fq s D=false:=by rw[fq,decide_eq_false d];simp
   rw[hf];simp[f145,w1,h,f];refine c1 g ?_;simp[d]
 ·have f:¬(s.length:Int)<=2*(D:Int)+2:=by omega
  have hf:fq s D=false:=by rw[fq,decide_eq_false m];simp
  rw[hf];simp[f145,w1,h,f]
structure V2 where
 x:Rat
 y:Rat
def eV(v:V2):PV:=ga ⟨bg v.x,bg v.y⟩
@[simp] theorem aML(v:V2):aL (eV v)=.agg 23:=rfl
@[simp] theorem aLc(v:V2):bW (eV v)=[.str (bg v.x),.str (bg v.y)]:=rfl
theorem pq(x y:Rat):eV ⟨x,y⟩=.st 23 [.str (bg x),.str (bg y)]:=rfl
def bA(k:Nat)(v:V2):Prop:=bL k v.x/\bL k v.y
theorem bA.mono{k l:Nat}{v:V2}(h:bA k v)(a:k<=l):bA l v:=⟨h.1.mono a,h.2.mono a⟩
def V2.sub(v w:V2):V2:=⟨v.x-w.x,v.y-w.y⟩
def V2.add(v w:V2):V2:=⟨v.x+w.x,v.y+w.y⟩
def V2.mul(v:V2)(k:Rat):V2:=⟨v.x*k,v.y*k⟩
def V2.dot(v w:V2):Rat:=v.x*w.x+v.y*w.y
def V2.cU(v w:V2):Rat:=v.x*w.y-v.y*w.x
theorem gv{k l:Nat}{v w:V2}(h:bA k v)(a:bA l w):bA (k+l+1) (v.sub w):=⟨xg h.1 a.1,xg h.2 a.2⟩
theorem aHh{k l:Nat}{v w:V2}(h:bA k v)(a:bA l w):bA (k+l+1) (v.add w):=⟨yU h.1 a.1,yU h.2 a.2⟩
theorem kN{k l:Nat}{v w:V2}(h:bA k v)(a:bA l w):bL (k+l+(k+l)+1) (v.dot w):=yU (fK h.1 a.1) (fK h.2 a.2)
theorem wF{k l:Nat}{v w:V2}(h:bA k v)(a:bA l w):bL (k+l+(k+l)+1) (v.cU w):=xg (fK h.1 a.2) (fK h.2 a.1)
theorem Ee{k l:Nat}{v:V2}{a:Rat}(h:bA k v)(b:bL l a):bA (k+l) (v.mul a):=⟨fK h.1 b,fK h.2 b⟩
def kQ:Nat:=20000
theorem cT{q:Rat}(h:bL kQ q):bL kB q:=h.mono (by decide)
theorem px(v w:V2)(a:bA kQ v)(b:bA kQ w):au prog 20 [eV v,eV w] (eV (v.sub w)):=by
 have c:=yA v.x w.x (cT a.1) (cT b.1);have d:=yA v.y w.y (cT a.2) (cT b.2);refine aI nf Pc mix (by simp[f20]) ?_;rw[V2.sub,pq];simp[f20,aa];refine e2 c ?_;simp[aa];refine e2 d ?_;simp[aa]
theorem CM(v w:V2)(a:bA kQ v)(b:bA kQ w):au prog 95 [eV v,eV w] (.str (bg (v.dot w))):=by
 have c:=pj v.x w.x (cT a.1) (cT b.1);have d:=pj v.y w.y (cT a.2) (cT b.2);have e:=zy (v.x*w.x) (v.y*w.y) ((fK a.1 b.1).mono (by decide)) ((fK a.2 b.2).mono (by decide));refine aI nf PN mix (by simp[f95]) ?_;rw[V2.dot];simp[f95,aa];refine e2 c ?_;simp[aa];refine e2 d ?_;simp[aa];refine e2 e ?_;simp
theorem Ef(v w:V2)(a:bA kQ v)(b:bA kQ w):au prog 114 [eV v,eV w] (.str (bg (v.cU w))):=by
 have c:=pj v.x w.y (cT a.1) (cT b.2);have d:=pj v.y w.x (cT a.2) (cT b.1);have e:=yA (v.x*w.y) (v.y*w.x) ((fK a.1 b.2).mono (by decide)) ((fK a.2 b.1).mono (by decide));refine aI nf Fz mix (by simp[f114]) ?_;rw[V2.cU];simp[f114,aa];refine e2 c ?_;simp[aa];refine e2 d ?_;simp[aa];refine e2 e ?_;simp
theorem xB(v:V2)(a:bA kQ v):au prog 91 [eV v] (.str (bg (v.dot v))):=by
 refine aI nf PK mix (by simp[f91]) ?_;simp[f91,aa];refine c2 (CM v v a a) ?_;simp
theorem X4(v w:V2)(a:bA kQ v)(b:bA kQ w):au prog 48 [eV v,eV w] (eV (v.add w)):=by
 have c:=zy v.x w.x (cT a.1) (cT b.1);have d:=zy v.y w.y (cT a.2) (cT b.2);refine aI nf Pr mix (by simp[f48]) ?_;rw[V2.add,pq];simp[f48,aa];refine e2 c ?_;simp[aa];refine e2 d ?_;simp[aa]
theorem QU(v:V2)(a:Rat)(c:bA kQ v)(b:bL kQ a):au prog 49 [eV v,.str (bg a)] (eV (v.mul a)):=by
 have d:=pj v.x a (cT c.1) (cT b);have e:=pj v.y a (cT c.2) (cT b);refine aI nf Ps mix (by simp[f49]) ?_;rw[V2.mul,pq];simp[f49,aa];refine e2 d ?_;simp[aa];refine e2 e ?_;simp[aa]
def im(r:Int):Rat:=((4*r*r:Int):Rat)
theorem vi{r:Int}(a:0<=r)(b:r<=1000000):0<=4*r*r/\4*r*r<=4000000000000:=by
 have c:=b5 a a;have d:=Int.mul_le_mul b b a (by decide);rw[Int.mul_assoc];omega
theorem xp{r:Int}(a:0<=r)(b:r<=1000000):bL 42 (im r):=by
 have:=vi a b;exact nR (by omega) (by decide)
theorem Yp(r:Int)(a:0<=r)(b:r<=1000000):au prog 92 [.int .i64 r] (.str (bg (im r))):=by
 have e:=vi a b;have c:=vB (4*r*r) (by omega) (by omega);have w1:be.wrap (4*r)=4*r:=aP _ (by omega) (by omega);have d:be.wrap (4*r*r)=4*r*r:=aP _ (by omega) (by omega);refine aI nf PL mix (by simp[f92]) ?_;rw[im];simp[f92,w1,d];refine c1 c ?_;simp
structure S3 where
 a:Rat
 b:Rat
 d:Rat
def eS(s:S3):PV:=.st 31 [.str (bg s.a),.str (bg s.b),.str (bg s.d)]
@[simp] theorem aMB(s:S3):aL (eS s)=.agg 31:=rfl
@[simp] theorem aK3(s:S3):bW (eS s)=[.str (bg s.a),.str (bg s.b),.str (bg s.d)]:=rfl
theorem VX:prog.stoodInHeld 24=false:=by kernel_rfl
@[simp] theorem aKz:rD prog 24=true:=by kernel_rfl
def nE(a b c d:List Nat):Bool:=decide (a=c/\b=d)
@[simp] theorem aKA{a b c d:List Nat}:iK prog 9 24 (.st 23 [.str a,.str b]) (.st 23 [.str c,.str d])=some (nE a b c d):=by
 have e:=underlying24;have:((a==c)&&((b==d)&&true))=nE a b c d:=by
  rw[nE,Bool.eq_iff_iff];simp
 rw[<-this];simp[iK,e,VX,lX,aL]
theorem Yd:au prog 89 [] (eV ⟨0,0⟩):=by
 refine aI nf PI mix (by simp[f89]) ?_;rw[pq,G5];simp[f89,aa]
theorem JC(p:gF)(D:Nat)(d:n8 p)(c:D<=100000):au prog 47 [ga p,.int .i64 D] (.bool (fq p.x D&&fq p.y D)):=by
 have a:=zx p.x D d.1 c;have b:=zx p.y D d.2 c;refine aI nf Pq mix (by simp[f47]) ?_;obtain⟨x,y⟩:=p;dsimp only at a b⊢;simp only[ga];cases hx:fq x D
 ·rw[hx]at a;simp[f47,aa];refine c2 a ?_;simp
 ·rw[hx]at a;simp[f47,aa];refine c2 a ?_;simp[aa];refine c2 b ?_;simp
def v7(k:Nat)(s:S3):Prop:=bL k s.a/\bL k s.b/\bL k s.d
theorem v7.mono{k l:Nat}{s:S3}(h:v7 k s)(a:k<=l):v7 l s:=⟨h.1.mono a,h.2.1.mono a,h.2.2.mono a⟩
def S3.add(s t:S3):S3:=⟨s.a+t.a,s.b+t.b,s.d⟩
def S3.mul(s t:S3):S3:=⟨s.a*t.a+s.b*t.b*s.d,s.a*t.b+t.a*s.b,s.d⟩
def S3.times(x:Rat)(s:S3):S3:=⟨x*s.a,x*s.b,s.d⟩
structure P4 where
 x:S3
 y:S3
def OY(p:P4):PV:=.st 62 [eS p.x,eS p.y]
@[simp] theorem aMw(p:P4):aL (OY p)=.agg 62:=rfl
@[simp] theorem aKY(p:P4):bW (OY p)=[eS p.x,eS p.y]:=rfl
def DR(k:Nat)(p:P4):Prop:=v7 k p.x/\v7 k p.y
theorem DR.mono{k l:Nat}{p:P4}(h:DR k p)(a:k<=l):DR l p:=⟨h.1.mono a,h.2.mono a⟩
def P4.dot(v:V2)(p:P4):S3:=(S3.times v.x p.x).add (S3.times v.y p.y)
def sg3(a b o:Int):Int:=if 0<=a*b then(if a=0 then b else a)else a*o
def sgS(s:S3):Int:=sg3 (dF s.a) (dF s.b*dF s.d) (dw (s.a*s.a) (s.b*s.b*s.d))
end Go.ak
