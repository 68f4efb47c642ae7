import Derived.Test.YtgpphcmkjhklgaaGreatDoorPI
import Derived.Test.YtgpphcmkjhklgaaGreatDoorPH
import Derived.Test.YtgpphcmkjhklgaaGreatDoorPG
/- Parts of a proof. -/
set_option linter.unusedSimpArgs false
set_option linter.unusedVariables false
set_option linter.unusedSectionVars false
open Go.Proofs.Tryz
open Bool renaming false_eq_true->a9, and_eq_true->bb
open Go.IntKind renaming i64->be
open Int renaming natAbs_natCast->bi, ofNat_natAbs_of_nonpos->bk, natCast_nonneg->bl, natAbs_mul->bo, tdiv_eq_ediv_of_nonneg->bv, mul_ediv_cancel_left->b0, natAbs_neg->b1, ofNat_dvd_left->b2, natCast_ediv->b3, tmod_eq_emod_of_nonneg->b4, natAbs_of_nonneg->b5, natCast_emod->cb, mul_nonneg->cc
open List renaming getElem?_eq_getElem->ce, take_of_length_le->ck, all_eq_true->cv, length_take->cx, getElem_mem->cy, take->c6, length_pos_iff->c9, length_drop->da, length->db, getElem_of_eq->dg, take_length->dk, take_take->dl, mem_cons->dp, map_take->dq
open Nat renaming lt_of_lt_of_le->dz, le_trans->ea, pow_le_pow_right->eb, lt_of_le_of_lt->ec, gcd_pos_of_pos_right->ed, zero_le->ee, pow_succ->ei, lt_or_ge->ej, mul_lt_mul''->em, gcd_le_right->en, gcd_dvd_left->eo, div_le_self->eq, gcd->ew, div_div_eq_div_mul->e6, pow_mul->e7, pow_add->e8, le_refl->e9, div_pos->fa, min_eq_left->fb, pow_zero->fd, pow_pos->fl, pow_one->fm, div_one->fv
open Rat renaming divInt->fZ, neg_divInt_neg->gb, num_intCast->gc, den_intCast->ge, neg_num->gg, not_le->gi
namespace Go.ag
open Go.Proofs
set_option maxHeartbeats 4000000
set_option maxRecDepth 100000
theorem Wp{s:List Nat}{i:Nat}(h:i<s.length):aZ (s.take (i+1))=aZ (s.take i)*10+(s[i]-48):=by
 rw[List.take_succ_eq_append_getElem h,zD]
theorem wY{s:List Nat}{p:Nat->Bool}(h:s.all p=true)(i:Nat):(s.take i).all p=true:=by
 rw[cv]at h⊢;intro x hx;exact h x (List.mem_of_mem_take hx)
theorem Mw{s:List Nat}{p:Nat->Bool}(h:s.all p=true)(i:Nat):(s.drop i).all p=true:=by
 rw[cv]at h⊢;intro x hx;exact h x (List.mem_of_mem_drop hx)
theorem Ao{c:Nat}(h:cm c=true):48<=c/\c<=57:=by
 simpa[cm]using h
theorem Af(s:List Nat)(e:s.all cm=true)(B:s.length<=18):aA prog 262 [.str s] (.int .i64 (aZ s:Nat)):=by
 refine aG nf Gq mix (by simp[f262]) ?_;obtain⟨L,g⟩:∃L,L=s.length:=⟨_,rfl⟩
 have k:aZ (s.take L)=aZ s:=by rw[g,dk]
 rw[<-k];obtain⟨v,b⟩:∃v:Nat->Nat,∀i,aZ (s.take i)=v i:=⟨_,fun _=>rfl⟩
 have o:v 0=0:=by rw[<-b];rfl
 have q:∀i(h:i<s.length),v (i+1)=v i*10+(s[i]-48):=fun i h=>by rw[<-b,<-b,Wp h]
 have f:∀i,i<=L->v i<10^i:=fun i hi=>by
  rw[<-b];exact jq i _ (by rw[cx];omega) (wY e i)
 rw[b];simp[f262];refine lp (α:=Nat) (fun i=>⟨[(4,.p (.int .i64 i)),(3,.p (.int .i64 (v i:Nat))),(0,.p (.str s))],[]⟩)
  (fun i=>i<=L) (fun i=>L-i) 0 (ee _) ?_ (he:=by simp[o])
 intro i hi
 by_cases m:i<L
 ·have a:i<s.length:=by omega
  have j:=f i hi;have A:=f (i+1) m;have hc:=Ao (cv.1 e s[i] (cy a));have hs:=q i a;have n:10^i<=10^17:=eb (by decide) (by omega);have z:v i<100000000000000000:=dz j (by exact n);generalize d:s[i]=c at*;generalize C:v i=x at*;have r:be.wrap (10*(x:Int))=10*(x:Int):=aO _ (by omega) (by omega);have t:be.wrap (10*(x:Int)+c)=10*(x:Int)+c:=aO _ (by omega) (by omega);have u:be.wrap (10*(x:Int)+c-48)=(v (i+1):Nat):=by rw[hs,aO _ (by omega) (by omega)];omega
  have w:be.wrap ((i:Int)+1)=(i:Int)+1:=aO _ (by omega) (by omega);have y:be.wrap (c:Int)=c:=aO _ (by omega) (by omega);have l:s[i]?=some c:=by rw[ce a,d]
  simp[a,d,l,r,t,u,w,y];exact rd (i+1) (show i+1<=L by omega)
 ·have a:¬i<s.length:=by omega
  have:i=L:=by omega
  subst this;simp[a]
theorem Nk(c:Nat):∀s:List Nat,c∉(b9 c s).1
 |[]=>by simp[b9]
 |x::r=>by
  rw[b9]
  split
  ·simp
  ·rename_i h;simp only[dp,not_or];exact⟨fun e=>h e.symm,Nk c r⟩
theorem xp(s:List Nat)(x:s.length<=1048576):aA prog 98 [.str s] (.int .i64 ((b9 47 s).1.length:Nat)):=by
 refine aG nf Rc mix (by simp[f98]) ?_;obtain⟨k,hk⟩:∃k,(b9 47 s).1.length=k:=⟨_,rfl⟩
 have t:=Nk 47 s;have w:k<=s.length:=by rw[<-hk];exact(qf 47 s).1
 have n:∀j(h:j<s.length),j<k->¬s[j]=47:=by
  intro j h v e;apply t;rcases qq 47 s with⟨_,b⟩|⟨_,b,_⟩
  ·have:s[j]=(b9 47 s).1[j]'(by omega):=by
    conv=>lhs;rw[dg b]
    rw[List.getElem_append_left]
   have d:(b9 47 s).1[j]'(by omega)∈(b9 47 s).1:=cy _;rw[<-this,e]at d;exact d
  ·rw[b];have d:s[j]∈s:=cy _
   rwa [e]at d
 have b:∀(h:k<s.length),s[k]=47:=by
  intro h;rcases qq 47 s with⟨_,g⟩|⟨_,g,_⟩
  ·rw[dg g,List.getElem_append_right (by omega)];simp[hk]
  ·rw[g]at hk;omega
 rw[hk];simp[f98];refine lp (α:=Nat) (fun i=>⟨[(3,.p (.int .i64 i)),(0,.p (.str s))],[]⟩)
  (fun i=>i<=k) (fun i=>k-i) 0 (ee _) ?_
 intro i hi;have u:be.wrap ((i:Int)+1)=(i:Int)+1:=aO _ (by omega) (by omega)
 by_cases q:i<k
 ·have a:i<s.length:=by omega
  have f:=n i a q;generalize m:s[i]=c at*;have l:s[i]?=some c:=by rw[ce a,m]
  have o:¬(c:Int)=47:=by omega
  simp[a,m,l,o,f,u];exact rd (i+1) (show i+1<=k by omega)
 ·have r:i=k:=by omega
  subst r
  by_cases a:i<s.length
  ·have f:=b a;have l:s[i]?=some 47:=by rw[ce a,f]
   simp[a,f,l]
  ·have:i=s.length:=by omega
   simp[a,this]
theorem NR(n:Int)(M:-9223372036854775808<=n)(O:n<=9223372036854775807):aA prog 180 [.int .i64 n] (eG n):=by
 refine aG nf G1 mix (by simp[f180]) ?_;obtain⟨N,P⟩:∃N,n.natAbs=N:=⟨_,rfl⟩
 have D:N<bT^3:=by
  have:bT^3=1000000000000000000000000000:=by decide
  omega
 obtain⟨g,a⟩:∃g:Nat->Nat,∀i,N/bT^i=g i:=⟨_,fun _=>rfl⟩
 have F:g 0=N:=by rw[<-a,fd,fv]
 have H:∀i,g (i+1)=g i/bT:=fun i=>by rw[<-a,<-a,e6,ei]
 have A:∀i,ae bT N i=g i% bT:=fun i=>by rw[<-a];rfl
 have G:g 3=0:=by rw[<-a,Nat.div_eq_of_lt D]
 have k:∀i,g i<=N:=fun i=>by rw[<-a];exact eq _ _
 have y:∀i,i<=3->g i=0->aA prog 256 [.bool (decide (n<0)),.seq (iP (row bT i N))] (eG n):=fun i I hi=>by
  have h:=Dq (decide (n<0)) (row bT i N) N (jv ba (by
   rw[<-a]at hi;rcases ej N (bT^i)with h|h
   ·exact h
   ·have:=fa h (fl (show 0<bT by decide));omega)) (by simp[row];omega)
  have e:(if decide (n<0)=true then -(N:Int)else N)=n:=by
   by_cases c:n<0
   ·simp[c];omega
   ·simp[c];omega
  rwa [e]at h
 obtain⟨m,f⟩:∃m:Nat->Int,∀i,(if n<0 then -(g i:Int)else g i)=m i:=⟨_,fun _=>rfl⟩
 have J:m 0=n:=by rw[<-f,F];split<;>omega
 simp only[eG]at y⊢;simp[f180];refine lp (α:=Nat) (fun i=>⟨[(0,.p (.int .i64 (m i))),(2,.ptr 0 []),(3,.sl 1 i 1 0 i),(4,.p (.bool (decide (n<0))))],[.box false (.p (.st 166 [.bool false,.aW])),.arr .grow i 1 (ez i N)]⟩)
  (fun i=>i<=3) (fun i=>3-i) 0 (ee _) ?_ (he:=by simp[J,ez]) (hh:=by simp[ez])
 intro i hi;have Q:bT=1000000000:=rfl;have L:=Nat.mod_lt (g i) (show 0<bT by decide);have R:=k i;have E:=Nat.div_add_mod (g i) bT;have u:g i% bT=ae bT N i:=(A i).symm
 by_cases d:g i=0
 ·have b:m i=0:=by rw[<-f,d];split<;>rfl
  have hs:=y i hi d;rcases i with _|i
  ·simp[b];refine cp hs (by simp[ez];first|exact⟨rfl,rfl⟩|rfl) ?_ (h1:=by simp[iP,row]);simp[aa]
  ·have j:¬ez (i+1) N=[]:=by intro h;have:=congrArg db h;rw[im]at this;simp at this
   simp[b];refine cp hs (by simp[im,MF,j];first|exact⟨rfl,rfl⟩|rfl) ?_ (h1:=by simp[iP,row,dq,ck]);simp[aa]
 ·have I:i<3:=by
   rcases ej i 3 with h|h
   ·exact h
   ·rw[show i=3 by omega]at d;exact(d G).elim
  have z:=H i;have K:=A i;have l:=rH i N;have x:c6 i (ez i N)=ez i N:=ck (by rw[im];exact e9 _);rw[K]at l;obtain⟨r,B⟩:∃r,g i% bT=r:=⟨_,rfl⟩
  rw[B]at l L E;have u:=B.symm
  by_cases c:n<0
  ·have b:m i= -(g i:Int):=by rw[<-f,if_pos c]
   have o:m (i+1)= -(g (i+1):Int):=by rw[<-f,if_pos c]
   have j:¬(g i:Int)=0:=by omega
   have s:((g i:Nat):Int).tmod 1000000000=r:=by rw[u,b4 (bl _),cb];rfl
   have q:((g i:Nat):Int).tdiv 1000000000=(g (i+1):Nat):=by rw[z,bv (bl _),b3 (g i)];rfl
   have wr:be.wrap (r:Int)=r:=aO _ (by omega) (by omega);have C:be.wrap (-(r:Int))= -r:=aO _ (by omega) (by omega);have t:be.wrap (-(g (i+1):Int))= -(g (i+1):Nat):=aO _ (by have:=k (i+1);omega) (by have:=k (i+1);omega)
   by_cases v:r=0
   ·simp[b,d,j,s,q,wr,C,t,v,x,im];refine⟨by simp only[di];omega,?_⟩;exact rd (i+1) (show i+1<=3 by omega) (he:=by simp[o]) (hh:=by simp[l,v])
   ·have w:0<r:=by omega
    simp[b,d,j,s,q,wr,C,t,v,w,x,im];refine⟨by simp only[di];omega,?_⟩;exact rd (i+1) (show i+1<=3 by omega) (he:=by simp[o]) (hh:=by simp[l])
  ·have b:m i=(g i:Int):=by rw[<-f,if_neg c]
   have o:m (i+1)=(g (i+1):Int):=by rw[<-f,if_neg c]
   have j:¬(g i:Int)=0:=by omega
   have s:((g i:Nat):Int).tmod 1000000000=r:=by rw[u,b4 (bl _),cb];rfl
   have q:((g i:Nat):Int).tdiv 1000000000=(g (i+1):Nat):=by rw[z,bv (bl _),b3 (g i)];rfl
   have wr:be.wrap (r:Int)=r:=aO _ (by omega) (by omega);have t:be.wrap (g (i+1):Int)=(g (i+1):Nat):=aO _ (by have:=k (i+1);omega) (by have:=k (i+1);omega);have w:¬(r:Int)<0:=by omega
   simp[b,d,j,s,q,wr,t,w,x,im];refine⟨by simp only[di];omega,?_⟩;exact rd (i+1) (show i+1<=3 by omega) (he:=by simp[o]) (hh:=by simp[l])
theorem JU{d:List Nat}(c:d.all cm=true){L i:Nat}(f:L=d.length)(h:9*(i+1)<=L):
 aZ (d.take (L-9*(i+1)))=aZ (d.take (L-9*i))/10^9/\aZ ((d.take (L-9*i)).drop (L-9*(i+1)))=aZ (d.take (L-9*i))% 10^9:=by
 have e:=List.take_append_drop (L-9*(i+1)) (d.take (L-9*i));rw[dl,fb (by omega)]at e;have a:=Lm (d.take (L-9*(i+1))) ((d.take (L-9*i)).drop (L-9*(i+1)));rw[e]at a;have b:((d.take (L-9*i)).drop (L-9*(i+1))).length=9:=by rw[da,cx];omega
 rw[b]at a;have g:=jq 9 _ b (Mw (wY c _) _);generalize aZ ((d.take (L-9*i)).drop (L-9*(i+1)))=y at*;generalize aZ (d.take (L-9*(i+1)))=x at*;rw[a];omega
theorem Dr(s:List Nat)(k:(cU s).all cm=true)(J:s.length<=1000000):aA prog 187 [.str s] (eG (if bZ s=true then -(aZ (cU s):Int)else aZ (cU s))):=by
 refine aG nf GU mix (by simp[f187]) ?_;obtain⟨d,v⟩:∃d,cU s=d:=⟨_,rfl⟩
 obtain⟨neg,f⟩:∃neg,bZ s=neg:=⟨_,rfl⟩
 obtain⟨N,F⟩:∃N,aZ d=N:=⟨_,rfl⟩
 have ah:d.length<=1000000:=by rw[<-v];exact ea (pW s).1 J
 rw[v]at k⊢;rw[f,F];have ai:=J;simp[f187,-bm];rw[bm];simp[-bm];refine join (fun st=>aN st.env 0=.p (.str s)/\aN st.env 2=.ptr 0 []/\aN st.env 3=.p (.bool neg)/\st.heap=[.box false (.p (.st 166 [.bool false,.aW]))]) ?_ ?_
 ·cases s with
  |nil=>simp[<-f,bZ]
  |cons c r=>
   by_cases hc:c=45
   ·simp[<-f,bZ,hc]
   ·have T:¬(c:Int)=45:=by omega
    simp[<-f,bZ,hc,T]
 rintro⟨S,U⟩ ⟨a,b,e,n⟩;dsimp only at a b e n;subst n;refine join (fun st=>aN st.env 0=.p (.str d)/\aN st.env 2=.ptr 0 []/\aN st.env 3=.p (.bool neg)/\st.heap=[.box false (.p (.st 166 [.bool false,.aW]))]) ?_ ?_
 ·cases neg with
  |false=>
   have D:s=d:=by rw[<-v,cU,f];rfl
   simp[a,b,e,D]
  |true=>
   cases s with
   |nil=>simp[bZ]at f
   |cons c r=>
    have D:r=d:=by rw[<-v,cU,f];rfl
    simp[a,b,e,D]
 clear a b e;rintro⟨S,U⟩ ⟨a,b,e,n⟩;dsimp only at a b e n;subst n;obtain⟨L,u⟩:∃L,L=d.length:=⟨_,rfl⟩
 obtain⟨g,l⟩:∃g:Nat->Nat,∀i,N/bT^i=g i:=⟨_,fun _=>rfl⟩
 have B:∀i,9*i<=L->aZ (d.take (L-9*i))=g i:=by
  intro i
  induction i with
  |zero=>intro _;rw[Nat.mul_zero,Nat.sub_zero,u,dk,F,<-l,fd,fv]
  |succ i ad=>
   intro h;rw[(JU k u h).1,ad (by omega),<-l,<-l,e6,ei];rfl
 have V:∀i,9*(i+1)<=L->aZ ((d.take (L-9*i)).drop (L-9*(i+1)))=ae bT N i:=fun i h=>by
  rw[(JU k u h).2,B i (by omega),<-l];rfl
 have ac:∀i,9*(i+1)<=L->aA prog 262 [.str ((d.take (L-9*i)).drop (L-9*(i+1)))] (.int .i64 (ae bT N i:Nat)):=fun i h=>by
  rw[<-V i h];exact Af _ (Mw (wY k _) _) (by rw[da,cx];omega)
 have I:∀i,9*i<=L->L<=9*i+9->g i=ae bT N i/\N<bT^(i+1):=fun i j q=>by
  have H:=jq _ (d.take (L-9*i)) rfl (wY k _);rw[B i j]at H;have y:g i<bT:=dz H (by
   rw[show bT=10^9 from rfl];exact eb (by decide) (by rw[cx];omega))
  refine⟨by rw[ae,l,Nat.mod_eq_of_lt y],?_⟩;rw[<-l,Nat.div_lt_iff_lt_mul (fl (by decide))]at y;rw[ei,Nat.mul_comm];exact y
 have W:∀i,9*i<=L->L<=9*i+9->aA prog 262 [.str (d.take (L-9*i))] (.int .i64 (ae bT N i:Nat)):=fun i j q=>by
  rw[<-(I i j q).1,<-B i j];exact Af _ (wY k _) (by rw[cx];omega)
 have G:∀i,9*i<=L->L<=9*i+9->aA prog 256 [.bool neg,.seq (iP (row bT (i+1) N))] (eG (if neg=true then -(N:Int)else N)):=fun i j q=>
  Dq neg (row bT (i+1) N) N (jv ba (I i j q).2) (by simp[row];omega)
 generalize (if neg=true then -(N:Int)else N)=z at*;simp only[eG]at G⊢;rw[bm];simp[a,b,e,-bm];rw[bm];simp[a,b,e];refine lp (α:=Nat) (fun i=>⟨[(0,.p (.str (d.take (L-9*i)))),(2,.ptr 0 []),(3,.p (.bool neg)),(4,.sl 1 i 1 0 i)],[.box false (.p (.st 166 [.bool false,.aW])),.arr .grow i 1 (ez i N)]⟩)
  (fun i=>9*i<=L) (fun i=>L-i) 0 (ee _) ?_ (he:=by simp[a,b,e,ez,u]) (hh:=by simp[ez])
 intro i hi;have x:(d.take (L-9*i)).length=L-9*i:=by rw[cx];omega
 have o:=ac i;have w:=W i hi;have E:(d.take (L-9*i)).take (L-9*(i+1))=d.take (L-9*(i+1)):=by rw[dl,fb (by omega)]
 rw[show L-9*(i+1)=L-9*i-9 by omega]at o E;obtain⟨m,C⟩:∃m,m=L-9*i:=⟨_,rfl⟩
 rw[<-C]at x o w E;have O:=rH i N;have P:c6 i (ez i N)=ez i N:=ck (by rw[im];exact e9 _);have K:i+1<=di:=by simp only[di];omega
 by_cases af:9<m
 ·have o:=o (by omega);have Q:be.wrap ((m:Int)-9)=(m:Int)-9:=aO _ (by omega) (by omega);have R:((m:Int)-9).toNat=m-9:=by omega
  have M:(9:Int)<=m:=by omega
  have Z:9*(i+1)<=L:=by omega
  rw[<-C];generalize ag:c6 m d=t at*;have ab:c6 m t=t:=ck (by omega);have A:(9:Int)<m:=by omega
  have X:m-9=L-9*(i+1):=by omega
  simp[x,A,Q,R,M,ab];refine c1 o ?_;simp[P,im,K,<-O,x,Q,R,M,E];exact rd (i+1) Z (he:=by simp[X])
 ·have w:=w (by omega);have hs:=G i hi (by omega);rw[<-C];generalize c6 m d=t at*;have A:¬(9:Int)<m:=by omega
  simp[x,A];refine c1 w ?_;simp[P,im,K,<-O];have Y:¬ez (i+1) N=[]:=by intro h;have:=congrArg db h;rw[im]at this;simp at this
  refine cp hs (by simp[im,MF,Y];first|exact⟨rfl,rfl⟩|rfl) ?_ (h1:=by simp[iP,row,dq,ck]);simp[aa]
def jT(s:List Nat):Int:=if bZ s=true then -(aZ (bH s):Int)else aZ (bH s)
def iu(s:List Nat):Nat:=if et s=true then aZ (bQ s)else 1
theorem L7(s:List Nat)(q:(bH s).all cm=true)(l:(bQ s).all cm=true)(J:s.length<=1000000):aA prog 100 [.str s] (.aE [eG (jT s),eG (iu s:Nat)]):=by
 refine aG nf GH mix (by simp[f100]) ?_;have e:=xp s (by omega);obtain⟨L,f,h,D⟩:=K9 s;have I:=qf 47 s;have C:=NR 1 (by decide) (by decide);rcases qq 47 s with⟨q1,b⟩|⟨q1,b,N⟩
 ·have a:=Dr (b9 47 s).1 (by rw[f];exact q) (by omega);rw[L,f]at a;have d:=Dr (b9 47 s).2.1 (by
   rw[h];rw[cv]at l⊢;intro x hx;exact l x ((pW _).2 x hx)) (by omega)
  have K:bZ (bQ s)=false:=by
   rw[bZ];cases g:bQ s with
   |nil=>simp
   |cons c r=>
    have:=Ao (cv.1 l c (by rw[g];simp));simp;omega
  rw[h,cU,K]at d;have m:et s=true:=by rw[<-D];exact q1
  have oJ:jT s=if bZ s=true then -(aZ (bH s):Int)else aZ (bH s):=rfl
  have j:iu s=aZ (bQ s):=by rw[iu,if_pos m]
  rw[<-oJ]at a;simp only[a9,if_false]at d;rw[<-j]at d;generalize M:jT s=z at*;generalize iu s=dn at*;obtain⟨i,o⟩:∃i,(b9 47 s).1=i:=⟨_,rfl⟩
  obtain⟨E,p⟩:∃E,(b9 47 s).2.1=E:=⟨_,rfl⟩
  rw[o,p]at b;rw[o]at e a;rw[p]at h;obtain⟨k,n⟩:∃k,i.length=k:=⟨_,rfl⟩
  rw[n]at e;have hk:k<s.length:=by rw[b];simp;omega
  have B:s.take k=i:=by rw[b,<-n];simp
  have g:s.drop (k+1)=bQ s:=by
   rw[<-h]
   conv=>lhs;rw[b,<-n]
   simp
  clear I b o p;have G:be.wrap ((k:Int)+1)=(k:Int)+1:=aO _ (by omega) (by omega);have F:((k:Int)+1).toNat=k+1:=by omega
  have y:¬(k:Int)=s.length:=by omega
  have u:k+1<=s.length:=hk;have w:k<=s.length:=by omega
  have t:(0:Int)<=k+1:=by omega
  have v:(k:Int)+1<=s.length:=by omega
  simp only[eG]at a d⊢;simp[f100];refine c1 e ?_;simp[y,G,F,B,g,u,w,t,v];refine e1 a ?_;simp[y,G,F,B,g,u,w,t,v];refine e1 d ?_;simp[aa]
 ·have a:=Dr s (by
   have A:=f;rw[b]at A;rw[A];exact q) J
  have m:et s=false:=by rw[<-D];exact q1
  have H:cU s=bH s:=by rw[b]at f;exact f
  have oJ:jT s=if bZ s=true then -(aZ (bH s):Int)else aZ (bH s):=rfl
  have j:iu s=1:=by rw[iu,m];rfl
  rw[H,<-oJ]at a;rw[j];rw[b]at e;generalize jT s=z at*;simp only[eG]at a C⊢;simp[f100];refine c1 e ?_;simp;refine c1 a ?_;simp;refine c1 C ?_;simp[aa]
theorem JV(n:Nat):(bc n).length<=9*(au bT n).length+1:=by
 rcases Nat.eq_zero_or_pos n with h|h
 ·subst h;rw[mT];simp
 ·have b:0<(au bT n).length:=by rw[c9,Ne,wV];omega
  have a:=cq ba n;rw[show bT^(au bT n).length=10^(9*(au bT n).length)by rw[e7];rfl]at a;exact ea (wJ a (by omega)) (by omega)
def iW(n d:Int):Rat:=fZ n d
theorem JG(n g:Nat):(au bT (n/g)).length<=(au bT n).length:=
 dQ ba _ _ (ec (eq n g) (cq ba n))
theorem VJ(n d:Nat)(a:0<d):(au bT (ew n d)).length<=(au bT d).length:=
 dQ ba _ _ (ec (en n a) (cq ba d))
theorem CP(n d:Int)(L:d≠0)(s:(au bT n.natAbs).length<=400000)(j:(au bT d.natAbs).length<=400000):aA prog 179 [eG n,eG d] (.str (bn (iW n d))):=by
 refine aG nf G2 mix (by simp[f179]) ?_;simp[f179,-bm,aa];rw[bm];simp[-bm,aa];refine join (fun st=>∃(e:Int)(d':Nat),0<d'/\(au bT e.natAbs).length<=400000/\(au bT d').length<=400000/\iW e d'=iW n d/\aN st.env 2=.ptr 0 []/\aN st.env 3=.ptr 1 []/\st.heap=[.box false (.p (eG e)),.box false (.p (eG (d':Nat)))]) ?_ ?_
 ·have P:=NW n s;have O:=NW d j
  by_cases h:d<0
  ·simp[h,aa];refine e1 P ?_;simp[aa];refine e1 O ?_;simp[aa];refine⟨by repeat' first|rfl|apply And.intro,?_⟩;refine⟨-n,d.natAbs,by omega,by rw[b1];exact s,j,?_,rfl,?_⟩
   ·rw[bk (by omega)];exact gb _ _
   ·rw[bk (by omega)]
  ·have A:((d.natAbs:Nat):Int)=d:=b5 (by omega);simp[h,aa];exact⟨n,d.natAbs,by omega,s,j,by rw[A],rfl,by rw[A]⟩
 rintro⟨T,U⟩ ⟨e,d',k1,k2,k3,k4,l,m,D⟩;dsimp only at l m D;subst D;rw[<-k4,show iW e d'=fZ e d' from rfl];clear k4 s j L;obtain⟨u,v⟩:=l7 (n:=e) (show d'≠0 by omega);obtain⟨g,k⟩:∃g,ew e.natAbs d'=g:=⟨_,rfl⟩
 have r:0<g:=by rw[<-k];exact ed _ k1
 have B:(au bT g).length<=400000:=by rw[<-k];exact ea (VJ _ _ k1) k3
 rw[k]at u v;have y:=LG e.natAbs d' k2 k3;rw[k]at y;have I:=EL e.natAbs g r k2 B;have J:=EL d' g r k3 B;have Y:(au bT (e.natAbs/g)).length<=400000:=ea (JG _ _) k2;have Z:(au bT (d'/g)).length<=400000:=ea (JG _ _) k3;have w:=rz (decide (e<0)) (e.natAbs/g) (by omega);have f:=rz false (d'/g) (by omega);have t:(if decide (e<0)=true then -((e.natAbs/g:Nat):Int)else((e.natAbs/g:Nat):Int))=(fZ e d').num:=by
  rw[u];have M:(g:Int)∣e:=by rw[<-k];exact b2.2 (eo _ _)
  obtain⟨c,hc⟩:=M;have N:(g:Int)≠0:=by omega
  rw[hc,b0 _ N,bo,bi,Nat.mul_div_cancel_left _ r]
  by_cases K:c<0
  ·have:(g:Int)*c<0:=Int.mul_neg_of_pos_of_neg (by omega) K;simp[this];omega
  ·have:¬(g:Int)*c<0:=by
    have:=cc (a:=(g:Int)) (b:=c) (by omega) (by omega);omega
   simp[this];omega
 rw[t]at w;simp only[a9,if_false]at f;have z:=Ea (fZ e d').num (by
  rw[<-t];split
  ·rw[b1,bi];omega
  ·rw[bi];omega)
 have i:=Ea ((d'/g:Nat):Int) (by rw[bi];omega);rw[wK]at i;have Q:0<d'/g:=by
  refine fa ?_ r;rw[<-k];exact en _ k1
 have V:(bL (fZ e d').num).length<=3600002:=by
  refine ea (DO _) ?_;have h:=JV (fZ e d').num.natAbs;have:(fZ e d').num.natAbs=e.natAbs/g:=by
   rw[<-t];split
   ·rw[b1,bi]
   ·rw[bi]
  rw[this]at h⊢;omega
 have W:(bc (d'/g)).length<=3600001:=by
  have h:=JV (d'/g);omega
 have F:bn (fZ e d')=if d'/g=1 then bL (fZ e d').num else bL (fZ e d').num++47::bc (d'/g):=by rw[bn,v]
 rw[F];clear F t u v;generalize (fZ e d').num=G at*;generalize ab:d'/g=q at*;simp only[eG,bi]at w f z i⊢;simp[l,m,aa];refine c2 y ?_;simp[l,m,aa];refine c2 I ?_;simp[l,m,aa];refine c2 J ?_;simp[l,m,aa];refine c2 w ?_;simp[l,m,aa];refine c1 z ?_;have R:∀h:q=1,au bT q=[1]:=fun h=>by rw[h];exact nW (by decide) (by decide)
 by_cases o:q=1
 ·have x:=R o;simp[o,eT,nW (show 0<1 by decide) (show 1<bT by decide)]
 ·have C:(bL G).length+1<9223372036854775808:=by omega
  have X:(bL G).length+((bc q).length+1)<9223372036854775808:=by omega
  by_cases E:q<bT
  ·have x:=nW Q E;have S:¬(q:Int)=1:=by omega
   simp[o,eT,x,S];refine⟨C,?_⟩;simp only[eT,x,List.map_cons,List.map_nil]at f i;refine c2 f ?_;simp;refine c1 i ?_;simp;omega
  ·have j:¬((au bT q).length:Int)=1:=by
    intro h;have H:(au bT q).length=1:=by omega
    have:=cq ba q;rw[H,fm]at this;exact E this
   simp[o,eT,j];refine⟨C,?_⟩;simp only[eT]at f i;refine c2 f ?_;simp;refine c1 i ?_;simp;omega
theorem VN{n:Int}{g:Nat}(a:0<g)(h:g∣n.natAbs):n.tdiv g=n/g:=by
 obtain⟨c,hc⟩:=b2.2 h;subst hc;rw[Int.mul_tdiv_cancel_left _ (by omega),b0 _ (by omega)]
theorem EY(n d:Int)(O:d≠0)(U:n.natAbs<=4000000000000000000)(P:d.natAbs<=4000000000000000000):aA prog 87 [.int .i64 n,.int .i64 d] (.str (bn (iW n d))):=by
 refine aG nf Q1 mix (by simp[f87]) ?_;have f:¬n< -4000000000000000000:=by omega
 have i:¬4000000000000000000<n:=by omega
 have j:¬d< -4000000000000000000:=by omega
 have k:¬4000000000000000000<d:=by omega
 simp[f87,f,i,j,k,-bm];rw[bm];simp[f,i,j,k,-bm];rw[bm,bm];simp[f,i,j,k,-bm];refine join (fun st=>∃(b:Int)(d':Nat),0<d'/\b.natAbs<=4000000000000000000/\d'<=4000000000000000000/\iW b d'=iW n d/\aN st.env 0=.p (.int .i64 b)/\aN st.env 1=.p (.int .i64 (d':Nat))/\st.heap=[]) ?_ ?_
 ·have H:be.wrap (-n)= -n:=aO _ (by omega) (by omega);have o:be.wrap (-d)= -d:=aO _ (by omega) (by omega)
  by_cases h:d<0
  ·simp[h,H,o,f,i,j,k];refine⟨-n,d.natAbs,by omega,by omega,by omega,?_,rfl,?_⟩
   ·rw[bk (by omega)];exact gb _ _
   ·rw[bk (by omega)]
  ·have J:((d.natAbs:Nat):Int)=d:=b5 (by omega);simp[h,f,i,j,k];exact⟨n,d.natAbs,by omega,by omega,by omega,by rw[J],rfl,by rw[J]⟩
 rintro⟨W,X⟩ ⟨b,d',k1,k2,k3,k4,r,s,K⟩;dsimp only at r s K;subst K;rw[<-k4,show iW b d'=fZ b d' from rfl];clear k4 U P O f i j k;obtain⟨x,D⟩:=l7 (n:=b) (show d'≠0 by omega);obtain⟨g,l⟩:∃g,ew b.natAbs d'=g:=⟨_,rfl⟩
 have F:0<g:=by rw[<-l];exact ed _ k1
 rw[l]at x D;have I:=Zg b.natAbs d' (by omega) (by omega);rw[l]at I;have T:(if b< -b then -b else b)=(b.natAbs:Nat):=by split<;>omega
 have H:be.wrap (-b)= -b:=aO _ (by omega) (by omega);have z:b.tdiv g=(fZ b d').num:=by rw[x,VN F (by rw[<-l];exact eo _ _)]
 have A:(d':Int).tdiv g=(d'/g:Nat):=by rw[bv (bl _),b3]
 have V:(fZ b d').num.natAbs<=4000000000000000000:=by
  have R:(g:Int)∣b:=by rw[<-l];exact b2.2 (eo _ _)
  obtain⟨c,hc⟩:=R;have S:(g:Int)≠0:=by omega
  rw[x,hc,b0 _ S];rw[hc,bo,bi]at k2;exact ea (Nat.le_mul_of_pos_left _ F) k2
 have Q:d'/g<=4000000000000000000:=ea (eq _ _) k3;have ac:0<d'/g:=by
  refine fa ?_ F;rw[<-l];exact en _ k1
 have M:bn (fZ b d')=if d'/g=1 then bL (fZ b d').num else bL (fZ b d').num++47::bc (d'/g):=by rw[bn,D]
 rw[M];clear M x D;generalize (fZ b d').num=a at*;generalize ad:d'/g=q at*;have y:¬g=0:=by omega
 have u:=zz a.natAbs 1 (by omega) (by decide);have E:=zz q 1 (by omega) (by decide);have Y:(bc a.natAbs).length<=19:=wJ (ec V (by decide)) (by decide);have Z:(bc q).length<=19:=wJ (ec Q (by decide)) (by decide);rw[show low (max 1 (nd a.natAbs)) a.natAbs=bc a.natAbs from rfl]at u;rw[show low (max 1 (nd q)) q=bc q from rfl]at E;have ab:(if a< -a then -a else a)=(a.natAbs:Nat):=by split<;>omega
 have o:be.wrap (-a)= -a:=aO _ (by omega) (by omega);have B:be.wrap a=a:=aO _ (by omega) (by omega);have C:be.wrap (q:Int)=q:=aO _ (by omega) (by omega);simp[r,s,H,T];refine c2 I ?_;have L:(1:Int)<q↔¬q=1:=by omega
 have N:be.wrap 1=1:=rfl;have aa:(bc a.natAbs).length<9223372036854775808:=by omega
 by_cases m:a<0
 ·have G:bL a=45::bc a.natAbs:=by rw[bL,if_pos m]
  rw[G];have w:a< -a:=by omega
  have v:-a=(a.natAbs:Nat):=by omega
  by_cases e:q=1
  ·simp[r,s,y,z,A,B,C,m,o,w,e];rw[v];refine c2 u ?_;simp[e,N];omega
  ·have t:=L.2 e;simp[r,s,y,z,A,B,C,m,o,w,e,t];rw[v];refine c2 u ?_;simp[e,t];refine⟨by omega,by omega,?_⟩;refine c2 E ?_;simp;omega
 ·have G:bL a=bc a.natAbs:=by rw[bL,if_neg m]
  rw[G];have v:a=(a.natAbs:Nat):=by omega
  have w:¬a< -a:=by omega
  by_cases e:q=1
  ·simp[r,s,y,z,A,B,C,m,o,w,e];rw[show PV.int .i64 a=.int .i64 (a.natAbs:Nat)by rw[<-v]];refine c2 u ?_;simp[e,N];omega
  ·have t:=L.2 e;simp[r,s,y,z,A,B,C,m,o,w,e,t];rw[show PV.int .i64 a=.int .i64 (a.natAbs:Nat)by rw[<-v]];refine c2 u ?_;simp[e,t];refine⟨by omega,by omega,?_⟩;refine c2 E ?_;simp;omega
theorem Ei(n:Int)(a:-9223372036854775808<=n)(b:n<=9223372036854775807):aA prog 124 [.int .i64 n] (.str (bn (n:Rat))):=by
 have e:=NR n a b;have d:=Ea n (by
  have c:n.natAbs<bT^3:=by
   have:bT^3=1000000000000000000000000000:=by decide
   omega
  have:=dQ ba 3 _ c;omega)
 have hq:bn (n:Rat)=bL n:=by rw[bn,if_pos (ge n),gc]
 rw[hq];refine aG nf H7 mix (by simp[f124]) ?_;simp[f124];refine c1 e ?_;simp;refine c1 d ?_;simp
theorem Zo(s:List Nat)(C:(bH s).all cm=true)(J:(bQ s).all cm=true)(ak:s.length<=1000000):
 ∃(n d:Int)(b:Bool),aA prog 212 [.str s] (.aE [.int .i64 n,.int .i64 d,.bool b])/\(b=true->n=jT s/\d=(iu s:Nat)/\n.natAbs<1000000000/\iu s<1000000000):=by
 by_cases K:20<s.length
 ·refine⟨0,0,false,?_,fun h=>by cases h⟩;refine aG nf B4 mix (by simp[f212]) ?_;have m:(20:Int)<s.length:=by omega
  simp[f212,m]
 obtain⟨d,l⟩:∃d,cU s=d:=⟨_,rfl⟩
 obtain⟨neg,g⟩:∃neg,bZ s=neg:=⟨_,rfl⟩
 have ai:d.length<=s.length:=by rw[<-l];exact(pW s).1
 have i:=xp d (by omega);have A:(b9 47 d).1=bH s:=by rw[<-l];rfl
 have N:(b9 47 d).2.1=bQ s:=by rw[<-l];rfl
 have P:(b9 47 d).2.2=et s:=by rw[<-l];rfl
 have q:=qq 47 d;rw[A,N,P]at q;rw[A]at i;obtain⟨k,hk⟩:∃k,(bH s).length=k:=⟨_,rfl⟩
 rw[hk]at i;have Q:k<=d.length:=by rw[<-hk,<-A];exact(qf 47 d).1
 have m:¬(20:Int)<s.length:=by omega
 obtain⟨b,o⟩:∃b:Bool,b=(decide (k<=9)&&decide (d.length-k<=10)):=⟨_,rfl⟩
 have M:b=true->(jT s).natAbs<1000000000/\iu s<1000000000:=fun h=>by
  rw[o]at h;simp only[bb,decide_eq_true_eq]at h;have v:=jq _ (bH s) rfl C;rw[hk]at v;have ad:aZ (bH s)<1000000000:=dz v (eb (n:=10) (by decide) h.1);refine⟨by rw[jT];split<;>omega,?_⟩;rcases q with⟨q1,f⟩|⟨q1,f,af⟩
  ·have W:(bQ s).length<=9:=by
    have:=congrArg db f;simp at this;omega
   have X:=jq _ (bQ s) rfl J;rw[iu,if_pos q1];exact dz X (eb (n:=10) (by decide) W)
  ·rw[iu,q1,if_neg (by decide)];decide
 refine⟨if b=true then jT s else 0,if b=true then(iu s:Nat)else 0,b,?_,fun h=>⟨if_pos h,if_pos h,by rw[if_pos h];exact(M h).1,(M h).2⟩⟩;refine aG nf B4 mix (by simp[f212]) ?_;simp[f212,-bm];rw[bm];simp[-bm];rw[bm];simp[-bm];rw[bm,bm];simp[m,-bm];refine join (fun st=>aN st.env 5=.p (.str s)/\aN st.env 6=.p (.bool neg)/\st.heap=[]) ?_ ?_
 ·clear K m;cases s with
  |nil=>simp[<-g,bZ]
  |cons c r=>
   by_cases hc:c=45
   ·simp[<-g,bZ,hc]
   ·have aa:¬(c:Int)=45:=by omega
    simp[<-g,bZ,hc,aa]
 rintro⟨U,ab⟩ ⟨e,a,u⟩;dsimp only at e a u;subst u;refine join (fun st=>aN st.env 5=.p (.str d)/\aN st.env 6=.p (.bool neg)/\st.heap=[]) ?_ ?_
 ·cases t:neg with
  |false=>
   have F:s=d:=by rw[<-l,cU,g,t];rfl
   simp[e,a,t,F]
  |true=>
   clear i q hk N A P K m o;cases s with
   |nil=>simp[bZ]at g;rw[t]at g;cases g
   |cons c r=>
    have F:r=d:=by rw[<-l,cU,g,t];rfl
    simp[e,a,t,F]
 clear e a;rintro⟨U,ab⟩ ⟨e,a,u⟩;dsimp only at e a u;subst u;have ah:be.wrap ((k:Int)+1)=(k:Int)+1:=aO _ (by omega) (by omega);have G:be.wrap ((d.length:Int)-k)=(d.length:Int)-k:=aO _ (by omega) (by omega);have ag:((k:Int)+1).toNat=k+1:=by omega
 have ae:jT s=if neg=true then -(aZ (bH s):Int)else aZ (bH s):=by rw[jT,g]
 rw[ae];rcases ej 9 k with D|D
 ·have Y:¬k<=9:=by omega
  have j:(9:Int)<k:=by omega
  have E:b=false:=by rw[o];simp[Y]
  simp[e,a];refine c1 i ?_;simp[e,a,j,E]
 rcases ej 10 (d.length-k)with I|I
 ·have V:¬d.length-k<=10:=by omega
  have j:¬(9:Int)<k:=by omega
  have x:(10:Int)<(d.length:Int)-k:=by omega
  have E:b=false:=by rw[o];simp[V]
  simp[e,a];refine c1 i ?_;simp[e,a,j,x,G,E]
 have j:¬(9:Int)<k:=by omega
 have x:¬(10:Int)<(d.length:Int)-k:=by omega
 have y:b=true:=by rw[o];simp[D,I]
 have R:d.take k=bH s:=by
  rcases q with⟨_,f⟩|⟨_,f,_⟩
  ·rw[f,<-hk];simp
  ·rw[<-f,<-hk];simp
 have L:=Af (bH s) C (by omega);have v:=jq _ (bH s) rfl C;rw[hk]at v;have ad:aZ (bH s)<1000000000:=dz v (eb (n:=10) (by decide) D);rcases q with⟨q1,f⟩|⟨q1,f,af⟩
 ·have z:k<d.length:=by rw[f];simp;omega
  have O:d.drop (k+1)=bQ s:=by
   conv=>lhs;rw[f,<-hk]
   simp
  have aj:(bQ s).length<=9:=by rw[<-O,da];omega
  have Z:=Af (bQ s) J (by omega);have B:iu s=aZ (bQ s):=by rw[iu,if_pos q1]
  rw[B];generalize aZ (bQ s)=al at*;generalize aZ (bH s)=w at*;have H:be.wrap (-(w:Int))= -(w:Int):=aO _ (by omega) (by omega);clear f;simp[e,a];refine c1 i ?_;have S:(0:Int)<=k+1:=by omega
  have ac:k+1<=d.length:=z;have T:(k:Int)+1<=d.length:=by omega
  simp[e,a,j,x,G,y,Q,R];refine c1 L ?_;cases neg<;>
  ·simp[e,a,z,ac,ah,ag,O,S,T];refine c1 Z ?_;simp[a,H,y]
 ·have z:¬k<d.length:=by rw[<-f,hk];omega
  have B:iu s=1:=by rw[iu,q1];rfl
  rw[B];generalize aZ (bH s)=w at*;have H:be.wrap (-(w:Int))= -(w:Int):=aO _ (by omega) (by omega);simp[e,a];refine c1 i ?_;simp[e,a,j,x,G,y,Q,R];refine c1 L ?_;cases neg<;>simp[e,a,z,H,y]
theorem CU{n k:Nat}(h:n<2^k):(au bT n).length<=k/29+1:=by
 refine dQ ba _ _ (dz h ?_);have a:2^29<=bT:=by decide
 refine ea ?_ (Nat.pow_le_pow_left a _);rw[<-e7];exact eb (by decide) (by omega)
theorem M6(q:Rat):jT (bn q)=q.num:=by
 obtain⟨a,b,_,_⟩:=ux q;rw[jT,a,b,qD]
 by_cases h:q.num<0
 ·rw[if_pos (by simpa using h)];omega
 ·rw[if_neg (by simpa using h)];omega
theorem Hh(q:Rat):iu (bn q)=q.den:=by
 obtain⟨_,_,a,b⟩:=ux q;rw[iu,a,b]
 by_cases h:q.den=1
 ·rw[if_neg (by simpa using h),h]
 ·rw[if_pos (by simpa using h),if_neg h,qD]
theorem BG(q:Rat):(bH (bn q)).all cm=true/\(bQ (bn q)).all cm=true:=by
 obtain⟨_,a,_,b⟩:=ux q;refine⟨by rw[a];exact oF _,?_⟩;rw[b];split
 ·rfl
 ·exact oF _
theorem qe{q:Rat}(h:bI kB q):(bn q).length<=1000000:=by
 have a:(bc q.num.natAbs).length<=33334:=ym (K:=kB) (k:=33334) h.1 (by decide) (by decide);have b:(bc q.den).length<=33334:=ym (K:=kB) (k:=33334) h.2 (by decide) (by decide);have:=aG8 q;omega
theorem zW(q:Rat)(h:bI kB q):∃(n d:Int)(b:Bool),aA prog 212 [.str (bn q)] (.aE [.int .i64 n,.int .i64 d,.bool b])/\(b=true->n=q.num/\d=(q.den:Nat)/\n.natAbs<1000000000/\q.den<1000000000):=by
 have:=Zo (bn q) (BG q).1 (BG q).2 (qe h)
 rwa [M6,Hh]at this
theorem wW(q:Rat)(h:bI kB q):aA prog 100 [.str (bn q)] (.aE [eG q.num,eG (q.den:Nat)]):=by
 have:=L7 (bn q) (BG q).1 (BG q).2 (qe h)
 rwa [M6,Hh]at this
theorem afO(a b:Rat):iW (a.num*b.den+b.num*a.den) (a.den*b.den)=a+b:=by
 rw[Rat.add_def'];rfl
theorem agt(a b:Rat):iW (a.num*b.num) (a.den*b.den)=a*b:=by
 rw[Rat.mul_def,Rat.normalize_eq_mkRat];rfl
theorem O8(a b:Rat):((a.den:Nat):Int)*(b.den:Nat)≠0:=by
 have c:=a.den_pos;have d:=b.den_pos;exact Int.ne_of_gt (Int.mul_pos (by omega) (by omega))
theorem x9{x y:Int}(hx:x.natAbs<1000000000)(a:y.natAbs<1000000000):(x*y).natAbs<=999999998000000001:=by
 rw[bo];exact Nat.mul_le_mul (show x.natAbs<=999999999 by omega) (show y.natAbs<=999999999 by omega)
theorem wS{x y:Int}(hx:x.natAbs<2^kB)(a:y.natAbs<2^kB):(au bT (x*y).natAbs).length<=10000:=by
 have h:=CU (n:=(x*y).natAbs) (k:=kB+kB) (by rw[bo,e8];exact em hx a);exact ea h (by decide)
theorem lE{x:Nat}(hx:x<2^kB):(au bT x).length<=10000:=ea (CU hx) (by decide)
theorem Bh(a b:Rat)(h:bI kB a)(i:bI kB b):aA prog 134 [.str (bn a),.str (bn b)] (.str (bn (a+b))):=by
 obtain⟨n,d,p,A,E⟩:=zW a h;obtain⟨m,e,r,B,F⟩:=zW b i;have t:=wW a h;have u:=wW b i;refine aG nf HY mix (by simp[f134]) ?_;rw[<-afO];have z:=O8 a b
 by_cases j:p=true/\r=true
 ·obtain⟨rfl,rfl,k1,k2⟩:=E j.1;obtain⟨rfl,rfl,k3,k4⟩:=F j.2;have O:=x9 k1 (show((b.den:Nat):Int).natAbs<1000000000 by rw[bi];exact k4);have P:=x9 k3 (show((a.den:Nat):Int).natAbs<1000000000 by rw[bi];exact k2);have Q:=x9 (show((a.den:Nat):Int).natAbs<1000000000 by rw[bi];exact k2) (show((b.den:Nat):Int).natAbs<1000000000 by rw[bi];exact k4);have C:=EY (a.num*b.den+b.num*a.den) (a.den*b.den) z (by omega) (by omega);have H:be.wrap (a.num*(b.den:Nat))=a.num*(b.den:Nat):=aO _ (by omega) (by omega);have I:be.wrap (b.num*(a.den:Nat))=b.num*(a.den:Nat):=aO _ (by omega) (by omega);have J:be.wrap (a.num*(b.den:Nat)+b.num*(a.den:Nat))=a.num*(b.den:Nat)+b.num*(a.den:Nat):=aO _ (by omega) (by omega);have K:be.wrap (((a.den:Nat):Int)*(b.den:Nat))=((a.den:Nat):Int)*(b.den:Nat):=aO _ (by omega) (by omega);have g:p=true:=j.1;have q:r=true:=j.2;simp[f134];refine c1 A ?_;simp;refine c1 B ?_;simp[g,q,H,I,J,K];refine c2 C ?_;simp
 ·have l:a.num.natAbs<2^kB:=h.1;have o:b.num.natAbs<2^kB:=i.1;have c:((a.den:Nat):Int).natAbs<2^kB:=by rw[bi];exact h.2
  have f:((b.den:Nat):Int).natAbs<2^kB:=by rw[bi];exact i.2
  have w:=xo a.num (b.den:Nat) (by have:=lE l;have:=lE f;omega);have x:=xo b.num (a.den:Nat) (by have:=lE o;have:=lE c;omega);have y:=xo (a.den:Nat) (b.den:Nat) (by have:=lE c;have:=lE f;omega);have L:=wS l f;have M:=wS o c;have N:=wS c f;have v:=Zn (a.num*(b.den:Nat)) (b.num*(a.den:Nat)) (by omega) (by omega);have G:(au bT (a.num*(b.den:Nat)+b.num*(a.den:Nat)).natAbs).length<=400000:=by
   refine ea (CU (k:=kB+kB+1) ?_) (by decide);have q1:(a.num*(b.den:Nat)).natAbs<2^(kB+kB):=by rw[bo,e8];exact em l f
   have R:(b.num*(a.den:Nat)).natAbs<2^(kB+kB):=by rw[bo,e8];exact em o c
   rw[ei];omega
  have s:=CP (a.num*(b.den:Nat)+b.num*(a.den:Nat)) ((a.den:Nat)*(b.den:Nat)) z G (by omega);simp[f134];refine c1 A ?_;simp;refine c1 B ?_;have D:(p=false)\/(p=true/\r=false):=by cases p<;>cases r<;>simp_all
  rcases D with g|⟨g,q⟩
  ·simp[g];refine c1 t ?_;simp[aa];refine c1 u ?_;simp[aa];refine e2 w ?_;simp[aa];refine e2 x ?_;simp[aa];refine e2 v ?_;simp[aa];refine e2 y ?_;simp[aa];refine e2 s ?_;simp
  ·simp[g,q];refine c1 t ?_;simp[aa];refine c1 u ?_;simp[aa];refine e2 w ?_;simp[aa];refine e2 x ?_;simp[aa];refine e2 v ?_;simp[aa];refine e2 y ?_;simp[aa];refine e2 s ?_;simp
theorem su(a b:Rat)(f:bI kB a)(g:bI kB b):aA prog 135 [.str (bn a),.str (bn b)] (.str (bn (a*b))):=by
 obtain⟨n,d,p,x,B⟩:=zW a f;obtain⟨m,e,r,y,C⟩:=zW b g;have s:=wW a f;have t:=wW b g;refine aG nf Hp mix (by simp[f135]) ?_;rw[<-agt];have w:=O8 a b
 by_cases h:p=true/\r=true
 ·obtain⟨rfl,rfl,k1,k2⟩:=B h.1;obtain⟨rfl,rfl,k3,k4⟩:=C h.2;have H:=x9 k1 k3;have I:=x9 (show((a.den:Nat):Int).natAbs<1000000000 by rw[bi];exact k2) (show((b.den:Nat):Int).natAbs<1000000000 by rw[bi];exact k4);have z:=EY (a.num*b.num) (a.den*b.den) w (by omega) (by omega);have D:be.wrap (a.num*b.num)=a.num*b.num:=aO _ (by omega) (by omega);have E:be.wrap (((a.den:Nat):Int)*(b.den:Nat))=((a.den:Nat):Int)*(b.den:Nat):=aO _ (by omega) (by omega);have c:p=true:=h.1;have i:r=true:=h.2;simp[f135];refine c1 x ?_;simp;refine c1 y ?_;simp[c,i,D,E];refine c2 z ?_;simp
 ·have j:a.num.natAbs<2^kB:=f.1;have l:b.num.natAbs<2^kB:=g.1;have k:((a.den:Nat):Int).natAbs<2^kB:=by rw[bi];exact f.2
  have o:((b.den:Nat):Int).natAbs<2^kB:=by rw[bi];exact g.2
  have u:=xo a.num b.num (by have:=lE j;have:=lE l;omega);have v:=xo (a.den:Nat) (b.den:Nat) (by have:=lE k;have:=lE o;omega);have F:=wS j l;have G:=wS k o;have q:=CP (a.num*b.num) ((a.den:Nat)*(b.den:Nat)) w (by omega) (by omega);simp[f135];refine c1 x ?_;simp;refine c1 y ?_;have A:(p=false)\/(p=true/\r=false):=by cases p<;>cases r<;>simp_all
  rcases A with c|⟨c,i⟩
  ·simp[c];refine c1 s ?_;simp[aa];refine c1 t ?_;simp[aa];refine e2 u ?_;simp[aa];refine e2 v ?_;simp[aa];refine e2 q ?_;simp
  ·simp[c,i];refine c1 s ?_;simp[aa];refine c1 t ?_;simp[aa];refine e2 u ?_;simp[aa];refine e2 v ?_;simp[aa];refine e2 q ?_;simp
theorem awu{a:Rat}(h:a≠0):iW (a.den:Nat) a.num=a⁻¹:=by
 rw[Rat.inv_def];rfl
theorem OI{a:Rat}(h:a≠0):a.num≠0:=fun e=>h (Rat.num_eq_zero.1 e)
theorem TD(a:Rat)(b:bI kB a)(c:a≠0):aA prog 194 [.str (bn a)] (.str (bn a⁻¹)):=by
 have g:=wW a b;have e:a.num.natAbs<2^kB:=b.1;have f:((a.den:Nat):Int).natAbs<2^kB:=by rw[bi];exact b.2
 have d:=CP ((a.den:Nat):Int) a.num (OI c) (by have:=lE f;omega) (by have:=lE e;omega);rw[awu c]at d;refine aG nf GO mix (by simp[f194]) ?_;simp[f194];refine c1 g ?_;simp[aa];refine c2 d ?_;simp
theorem Y5(a b:Rat)(g:bI kB a)(d:bI kB b)(e:b≠0):aA prog 114 [.str (bn a),.str (bn b)] (.str (bn (a/b))):=by
 have f:=TD b d e;have c:=su a b⁻¹ g (Cu d);rw[<-Rat.div_def]at c;refine aG nf G7 mix (by simp[f114]) ?_;simp[f114];refine c1 f ?_;simp;refine c2 c ?_;simp
theorem NZ(s:List Nat)(g:s.length<=1048576):aA prog 22 [.str s] (.int .i64 (if s=[48]then 0 else if bZ s=true then -1 else 1)):=by
 refine aG nf Qj mix (by simp[f22]) ?_
 by_cases b:s=[48]
 ·simp[f22,b]
 ·cases s with
  |nil=>simp[f22,bZ]
  |cons c r=>
   by_cases hc:c=45
   ·simp[f22,bZ,hc]
   ·have e:¬(c:Int)=45:=by omega
    have d:¬(c=48/\r=[]):=fun h=>b (by rw[h.1,h.2])
    by_cases a:c=48
    ·have f:¬r=[]:=fun h=>d ⟨a,h⟩;simp[f22,bZ,a,f]
    ·simp[f22,bZ,hc,e,a]
theorem zI(q:Rat):q.num<0↔q<0:=by
 have h:=Eu q
 by_cases b:q<0
 ·rw[if_pos b]at h;refine⟨fun _=>b,fun _=>?_⟩
  by_cases a:q.num<0
  ·exact a
  ·rw[if_neg a]at h;split at h<;>omega
 ·refine⟨fun a=>?_,fun a=>(b a).elim⟩;rw[if_neg b,if_pos a]at h
  split at h<;>omega
def eg(q:Rat):Int:=if q<0 then -1 else if q=0 then 0 else 1
theorem Jl:bn 0=[48]:=by
 have h:bL 0=[48]:=by rw[show(0:Int)=((0:Nat):Int)from rfl,wK,mT]
 rw[bn,if_pos (show(0:Rat).den=1 from rfl)];exact h
theorem Jk(q:Rat):bn q=[48]↔q=0:=by
 rw[<-Jl];exact⟨fun h=>aG7 h,fun h=>by rw[h]⟩
theorem aGm(q:Rat):(if bn q=[48]then(0:Int)else if bZ (bn q)=true then -1 else 1)=eg q:=by
 have e:=(ux q).1;have c:=Jk q;have d:q<0↔q.num<0:=(zI q).symm;rw[e,eg]
 by_cases b:q=0
 ·subst b;rw[if_pos (c.2 rfl),if_neg (by decide),if_pos rfl]
 ·rw[if_neg (fun h=>b (c.1 h))]
  by_cases a:q<0
  ·rw[if_pos (by simpa using d.1 a),if_pos a]
  ·rw[if_neg (by simpa using fun h=>a (d.2 h)),if_neg a,if_neg b]
theorem uQ(q:Rat)(h:bI kB q):aA prog 22 [.str (bn q)] (.int .i64 (eg q)):=by
 have:=NZ (bn q) (by have:=qe h;omega)
 rwa [aGm]at this
theorem N3{q:Rat}(h:q<0):bn q=45::bn (-q):=by
 have a:q.num<0:=(zI q).2 h;have e1:bL q.num=45::bc q.num.natAbs:=by rw[bL,if_pos a]
 have e2:bL (-q).num=bc q.num.natAbs:=by rw[gg,bL,if_neg (by omega),b1]
 rw[bn,bn,Rat.neg_den,e1,e2]
 split<;>rfl
theorem Y7(q:Rat)(h:bI kB q):aA prog 189 [.str (bn q)] (.str (bn (-q))):=by
 have a:=uQ q h;have f:=qe h;refine aG nf GR mix (by simp[f189]) ?_
 by_cases b:q<0
 ·have hs:eg q= -1:=by rw[eg,if_pos b]
  rw[hs]at a;have c:=N3 b;rw[c]at a f⊢;simp[f189];refine c1 a ?_;simp
 ·by_cases d:q=0
  ·have hs:eg q=0:=by rw[eg,if_neg b,if_pos d]
   rw[hs]at a;have hq:-q=q:=by rw[d];rfl
   rw[hq];simp[f189];refine c1 a ?_;simp;refine c1 a ?_;simp
  ·have hs:eg q=1:=by rw[eg,if_neg b,if_neg d]
   rw[hs]at a;have e:-q<0:=by
    rw[<-zI,gg];have g:¬q.num<0:=fun h=>b ((zI q).1 h);have i:=OI d;omega
   have c:=N3 e;rw[Rat.neg_neg]at c;rw[c];have j:(bn q).length+1<9223372036854775808:=by omega
   simp[f189];refine c1 a ?_;simp;refine c1 a ?_;simp;omega
theorem Au(a b:Rat)(f:bI kB a)(d:bI kB b):aA prog 102 [.str (bn a),.str (bn b)] (.str (bn (a-b))):=by
 have e:=Y7 b d;have c:=Bh a (-b) f (CZ d);rw[<-Rat.sub_eq_add_neg]at c;refine aG nf GF mix (by simp[f102]) ?_;simp[f102];refine c1 e ?_;simp;refine c2 c ?_;simp
theorem aGl(a b:Rat):eg (a-b)=cT a b:=by
 have d:a-b<0↔a<b:=by
  rw[<-gi,<-gi,<-Rat.le_iff_sub_nonneg]
 have e:a-b=0↔a=b:=by
  constructor
  ·intro h;have f:a-b+b=0+b:=by rw[h]
   rwa [Rat.sub_add_cancel,Rat.zero_add]at f
  ·rintro rfl;exact Rat.sub_self
 rw[eg,cT]
 by_cases h:a<b
 ·rw[if_pos (d.2 h),if_pos h]
 ·rw[if_neg (fun x=>h (d.1 x)),if_neg h]
  by_cases c:a=b
  ·rw[if_pos (e.2 c),if_pos c]
  ·rw[if_neg (fun x=>c (e.1 x)),if_neg c]
theorem nK(a b:Rat)(d:bI (kB/3) a)(e:bI (kB/3) b):aA prog 23 [.str (bn a),.str (bn b)] (.int .i64 (cT a b)):=by
 have f:=Au a b (d.mono (by decide)) (e.mono (by decide));have c:=uQ (a-b) ((zj d e).mono (by decide));rw[aGl]at c;refine aG nf Qk mix (by simp[f23]) ?_;simp[f23];refine c2 f ?_;simp;refine c1 c ?_;simp
theorem Py{a b:Nat}(h:a<=b):10^a<=10^b:=eb (by decide) h
theorem Bi{s:List Nat}{k:Nat}(h:s.length<=k)(a:s.all cm=true):aZ s<10^k:=dz (jq _ s rfl a) (Py h)
theorem aFj{x a b:Nat}(hx:x<10^a)(h:a<=9*b):(au bT x).length<=b:=dQ ba b x (dz hx (by
 rw[show bT^b=10^(9*b)by rw[e7];rfl];exact Py h))
theorem Ys(s:List Nat)(D:s.length<=1048576):aA prog 186 [.str s] (.bool (s.all cm)):=by
 refine aG nf GV mix (by simp[f186]) ?_;obtain⟨k,hk,n,o⟩:=Db (fun j=>cm (s[j]?.getD 0)) s.length;have e:∀j(h:j<s.length),s[j]?.getD 0=s[j]:=fun j h=>by rw[ce h];rfl
 have B:s.all cm=decide (k=s.length):=by
  rcases o with h|⟨a,b⟩
  ·rw[h,decide_eq_true rfl,cv];intro x hx;obtain⟨j,A,rfl⟩:=List.getElem_of_mem hx;have:=n j (by omega)
   rwa [e j A]at this
  ·rw[decide_eq_false (by omega)];rw[e k a]at b
   by_cases m:s.all cm=true
   ·have:=cv.1 m _ (cy a);rw[this]at b;cases b
   ·simpa using m
 rw[B];simp[f186];refine lp (α:=Nat) (fun i=>⟨[(3,.p (.int .i64 i)),(0,.p (.str s))],[]⟩)
  (fun i=>i<=k) (fun i=>k-i) 0 (ee _) ?_
 intro i hi;have C:be.wrap ((i:Int)+1)=(i:Int)+1:=aO _ (by omega) (by omega)
 by_cases y:i<k
 ·have l:i<s.length:=by omega
  have q:=n i y;rw[e i l]at q;have E:=Ao q;generalize d:s[i]=c at*;have f:s[i]?=some c:=by rw[ce l,d]
  have a:¬(c:Int)<48:=by omega
  have b:¬(57:Int)<c:=by omega
  have t:¬c<48:=by omega
  have u:¬57<c:=by omega
  simp[l,d,f,a,b,t,u,C];exact rd (i+1) (show i+1<=k by omega)
 ·have z:i=k:=by omega
  subst z;rcases o with h|⟨a,b⟩
  ·simp[h]
  ·rw[e i a]at b;have r:¬i=s.length:=by omega
   generalize d:s[i]=c at*;have f:s[i]?=some c:=by rw[ce a,d]
   by_cases hc:c<48
   ·have g:(c:Int)<48:=by omega
    simp[a,d,f,hc,g,r]
   ·have v:57<c:=by
     simp only[cm,Bool.and_eq_false_iff,decide_eq_false_iff_not]at b;omega
    have g:¬(c:Int)<48:=by omega
    have w:(57:Int)<c:=by omega
    simp[a,d,f,hc,g,v,w,r]
theorem KU(s:List Nat)(j:s.length<=1048576):aA prog 99 [.str s] (.bool (dF s)):=by
 have b:=Ys s j;refine aG nf Rd mix (by simp[f99]) ?_;cases s with
 |nil=>simp[f99,dF]
 |cons c r=>
  have k:(c:Int)=48↔c=48:=by omega
  by_cases a:r=[]
  ·subst a;have e:dF [c]=[c].all cm:=by
    rw[dF]
    by_cases h:c=48
    ·subst h;rfl
    ·simp[h]
   rw[e];simp[f99];refine c1 b ?_;simp
  ·have d:0<r.length:=c9.2 a;have f:¬(r.length:Int)+1=0:=by omega
   have g:(1:Int)<r.length+1:=by omega
   by_cases hc:c=48
   ·have e:dF (c::r)=false:=by rw[dF,hc];simp[a]
    rw[e];simp[f99,a,hc,d,f,g]
   ·have i:¬(c:Int)=48:=by omega
    have e:dF (c::r)=(c::r).all cm:=by rw[dF];simp[hc]
    rw[e];simp[f99,a,hc,i,d,f,g];refine c1 b ?_;simp
theorem uS(s:List Nat)(hs:fW s):aA prog 21 [.str s] (.int .i64 (bK s)):=by
 refine aG nf Qi mix (by simp[f21]) ?_;obtain⟨aY,aM⟩:=hs;obtain⟨d,S⟩:∃d,cU s=d:=⟨_,rfl⟩
 obtain⟨neg,A⟩:∃neg,bZ s=neg:=⟨_,rfl⟩
 have aS:d.length<=s.length:=by rw[<-S];exact(pW s).1
 have T:=xp d (by omega);have Y:(b9 47 d).1=bH s:=by rw[<-S];rfl
 have W:(b9 47 d).2.1=bQ s:=by rw[<-S];rfl
 have ah:(b9 47 d).2.2=et s:=by rw[<-S];rfl
 have z:=qq 47 d;have F:=qf 47 d;rw[Y,W,ah]at z;rw[Y]at T F;rw[W]at F;obtain⟨k,hk⟩:∃k,(bH s).length=k:=⟨_,rfl⟩
 rw[hk]at T;have J:k<=d.length:=by rw[<-hk];exact F.1
 have aw:d.take k=bH s:=by
  rcases z with⟨_,G⟩|⟨_,G,_⟩
  ·rw[G,<-hk];simp
  ·rw[<-G,<-hk];simp
 have M:=KU (bH s) (by omega);have l:=KU (bQ s) (by omega);simp[f21,-bm];rw[bm];simp[-bm];rw[bm];simp[-bm];refine join (fun st=>aN st.env 0=.p (.str s)/\aN st.env 3=.p (.str d)/\st.heap=[]) ?_ ?_
 ·cases aj:neg with
  |false=>
   have av:s=d:=by rw[<-S,cU,A,aj];rfl
   clear T z hk W Y ah aw M l F J;subst av;cases s with
   |nil=>simp
   |cons c r=>
    rw[aj]at A;have hc:¬c=45:=fun h=>by rw[h]at A;simp[bZ]at A
    have an:¬(c:Int)=45:=by omega
    simp[hc,an]
  |true=>
   clear T z hk W Y ah aw M l F J;cases s with
   |nil=>simp[bZ]at A;rw[aj]at A;cases A
   |cons c r=>
    have av:r=d:=by rw[<-S,cU,A,aj];rfl
    rw[aj]at A;have hc:c=45:=by simpa[bZ]using A
    simp[hc,av]
 rintro⟨aI,aV⟩ ⟨w,e,ak⟩;dsimp only at w e ak;subst ak;have ag:jN s=(dF (bH s)&&!(neg&&decide (bH s=[48]))&&(!et s||(dF (bQ s)&&decide (bQ s≠[48])&&decide (bQ s≠[49])))):=by rw[jN,A]
 have a7:d.length<=1048576:=by omega
 have V:(bH s).all cm=true->(bQ s).all cm=true->et s=true->0<k->d.length<=1000000->aA prog 100 [.str d] (.aE [eG (aZ (bH s):Nat),eG (aZ (bQ s):Nat)]):=fun y O ax aD a0=>by
  have al:bZ d=false/\cU d=d:=by
   have aH:bZ d=false:=by
    rcases z with⟨_,G⟩|⟨q1,_⟩
    ·cases X:bH s with
     |nil=>rw[X]at hk;simp at hk;omega
     |cons c r=>
      rw[X]at G y;have:=Ao (cv.1 y c (by simp));rw[G,bZ];simp;omega
    ·rw[ax]at q1;cases q1
   exact⟨aH,by rw[cU,aH];rfl⟩
  have e1:bH d=bH s:=by rw[bH,al.2,Y]
  have e2:bQ d=bQ s:=by rw[bQ,al.2,W]
  have e3:et d=true:=by rw[et,al.2,ah];exact ax
  have:=L7 d (by rw[e1];exact y) (by rw[e2];exact O) a0;rw[jT,iu,e1,e2,al.1,if_pos e3]at this;exact this
 rw[bK];generalize jN s=N at*;generalize bH s=v at*;generalize bQ s=f at*;generalize et s=fr at*;have U:c6 k d=v:=aw
 by_cases K:dF v=true
 ·have aD:0<k:=by
   rw[<-hk,c9];intro h;rw[h]at K;cases K
  obtain⟨c,r,hs⟩:∃c r,s=c::r:=by
   cases s with
   |nil=>
    have:d.length<=0:=by simpa using aS
    omega
   |cons c r=>exact⟨c,r,rfl⟩
  have ao:c=45↔neg=true:=by rw[<-A,hs];simp[bZ]
  have an:(c:Int)=45↔c=45:=by omega
  rw[K]at M;clear aM aY S A Y W ah
  by_cases P:neg=true/\v=[48]
  ·have hf:N=false:=by rw[ag,P.1,P.2];simp
   have aR:=ao.2 P.1;rw[if_pos hf];clear z F l V ao an;subst hs aR;have X:=P.2;simp[w,e];refine c1 T ?_;simp[w,e,J,U];refine c1 M ?_;simp[w,e,J,U,X]
  ·subst hs;rw[bm];simp[w,e,-bm];refine c1 T ?_;simp[w,e,-bm];refine join (fun st=>aN st.env 3=.p (.str d)/\aN st.env 4=.p (.int .i64 k)/\st.heap=[]) ?_ ?_
   ·by_cases y:c=45
    ·have X:¬v=[48]:=fun h=>P ⟨ao.1 y,h⟩;subst y;clear z F l V;simp[w,e,J,U];refine c1 M ?_;simp[w,e,J,U,X]
    ·have aJ:¬(c:Int)=45:=by omega
     clear z F l V;simp[w,e,J,U];refine c1 M ?_;simp[w,e,J,U,y,aJ]
   clear w e;rintro⟨aI,aV⟩ ⟨e,j,ak⟩;dsimp only at e j ak;subst ak;cases ai:fr with
   |false=>
    have i:k=d.length:=by
     rcases z with⟨q1,_⟩|⟨_,G,_⟩
     ·rw[ai]at q1;cases q1
     ·rw[<-hk,G]
    have aE:¬k<d.length:=by omega
    have aT:f=[]:=by
     rcases z with⟨q1,_⟩|⟨_,_,a4⟩
     ·rw[ai]at q1;cases q1
     ·exact a4
    have hf:N=true:=by
     rw[ag,K,ai];simp
     by_cases y:neg=true
     ·exact .inr fun O=>P ⟨y,O⟩
     ·exact .inl (by simpa using y)
    have Z:be.wrap ((d.length:Int)-k)=0:=by rw[i,Int.sub_self];rfl
    have ab:be.wrap (-1)= -1:=rfl;rw[hf,hk,aT];clear z F l V
    by_cases I:600<k
    ·have B:¬(k:Int)<=600:=by omega
     have C:¬k<=600:=by omega
     have D:(600:Int)<k:=by omega
     simp[e,j,aE,I,B,C,D]
    ·have B:(k:Int)<=600:=by omega
     have C:k<=600:=by omega
     have D:¬(600:Int)<k:=by omega
     simp[e,j,aE,I,B,C,D,Z,ab]
   |true=>
    rw[ai]at ag V;have ar:d=v++47::f:=by
     rcases z with⟨_,G⟩|⟨q1,_⟩
     ·exact G
     ·rw[ai]at q1;cases q1
    have i:k<d.length:=by rw[ar];simp;omega
    have q:d.drop (k+1)=f:=by
     conv=>lhs;rw[ar,<-hk]
     simp
    have a8:d.length=k+1+f.length:=by rw[ar];simp;omega
    have u:be.wrap ((k:Int)+1)=(k:Int)+1:=aO _ (by omega) (by omega);have t:((k:Int)+1).toNat=k+1:=by omega
    have m:(0:Int)<=k+1:=by omega
    have n:(k:Int)+1<=d.length:=by omega
    have o:k+1<=d.length:=i;clear z F;have af:N=(dF f&&decide (f≠[48])&&decide (f≠[49])):=by
     rw[ag,K];have:(neg&&decide (v=[48]))=false:=by
      by_cases y:neg=true
      ·have:¬v=[48]:=fun O=>P ⟨y,O⟩;simp[this]
      ·have:neg=false:=by simpa using y
       rw[this];rfl
     rw[this];simp
    by_cases ap:N=true
    ·rw[ap]at af;have aW:¬N=false:=by rw[ap];decide
     rw[if_neg aW];have aL:dF f=true/\¬f=[48]/\¬f=[49]:=by
      have:=af.symm;simp only[bb,decide_eq_true_eq]at this;exact⟨this.1.1,this.1.2,this.2⟩
     obtain⟨L,H,E⟩:=aL;rw[L]at l;rw[hk];have Z:be.wrap ((d.length:Int)-k)=(d.length:Int)-k:=aO _ (by omega) (by omega);have ab:be.wrap ((d.length:Int)-k-1)=f.length:=by rw[aO _ (by omega) (by omega)];omega
     by_cases I:600<k
     ·have B:¬(k:Int)<=600:=by omega
      have C:¬k<=600:=by omega
      have D:(600:Int)<k:=by omega
      simp[e,j,i,u,t,m,n,o,q];refine c1 l ?_;simp[e,j,i,u,t,m,n,o,q,H,E,I,B,C,D]
     by_cases ac:600<f.length
     ·have B:(k:Int)<=600:=by omega
      have C:k<=600:=by omega
      have D:¬(600:Int)<k:=by omega
      have ad:(600:Int)<f.length:=by omega
      simp[e,j,i,u,t,m,n,o,q];refine c1 l ?_;simp[e,j,i,u,t,m,n,o,q,H,E,I,B,C,D,Z,ab,ac,ad]
     have B:(k:Int)<=600:=by omega
     have C:k<=600:=by omega
     have D:¬(600:Int)<k:=by omega
     have ad:¬(600:Int)<f.length:=by omega
     have R:=V (jf K) (jf L) rfl aD (by omega);have aU:=zR L H;have a2:v.length<=700:=by omega
     have a3:f.length<=700:=by omega
     have aP:aZ v<10^700:=Bi (s:=v) (k:=700) a2 (jf K);have aQ:aZ f<10^700:=Bi (s:=f) (k:=700) a3 (jf L);have aF:∀x:Nat,x<10^700->(au bT x).length<=400000:=fun x hx=>ea (aFj (a:=700) (b:=78) hx (by decide)) (by decide);have Q:=LG (aZ v) (aZ f) (aF _ aP) (aF _ aQ);have aB:0<ew (aZ v) (aZ f):=ed _ aU;generalize aZ v=a6 at*;generalize aZ f=a5 at*;obtain⟨g,am⟩:∃g,ew a6 a5=g:=⟨_,rfl⟩
     simp only[am]at Q aB⊢;have a1:¬(600<k\/600<f.length):=fun h=>by rcases h with h|h;exact I h;exact ac h
     rw[if_neg a1];simp only[eG,bi]at R
     by_cases aq:g=1
     ·subst aq;have ae:au bT 1=[1]:=nW (by decide) (by decide);simp only[eT,ae]at Q R;simp[e,j,i,u,t,m,n,o,q];refine c1 l ?_;simp[e,j,i,u,t,m,n,o,q,H,E,I,B,C,D,Z,ab,ac,ad];refine c1 R ?_;simp[aa];refine c2 Q ?_;simp[am]
     ·by_cases aC:g<bT
      ·have ae:au bT g=[g]:=nW aB aC;have aX:¬(g:Int)=1:=by omega
       simp only[eT,ae]at Q R;simp[e,j,i,u,t,m,n,o,q];refine c1 l ?_;simp[e,j,i,u,t,m,n,o,q,H,E,I,B,C,D,Z,ab,ac,ad];refine c1 R ?_;simp[aa];refine c2 Q ?_;simp[aq,aX,am]
      ·have ae:¬((au bT g).length:Int)=1:=by
        intro h;have O:(au bT g).length=1:=by omega
        have:=cq ba g;rw[O,fm]at this;exact aC this
       simp only[eT]at Q R;simp[e,j,i,u,t,m,n,o,q];refine c1 l ?_;simp[e,j,i,u,t,m,n,o,q,H,E,I,B,C,D,Z,ab,ac,ad];refine c1 R ?_;simp[aa];refine c2 Q ?_;simp[aq,ae,am]
    ·have az:N=false:=by simpa using ap
     rw[if_pos az]
     by_cases L:dF f=true
     ·rw[L]at l
      by_cases H:f=[48]
      ·simp[e,j,i,u,t,m,n,o,q];refine c1 l ?_;simp[e,j,i,u,t,m,n,o,q,H]
      ·have E:f=[49]:=by
        rw[L]at af
        by_cases E:f=[49]
        ·exact E
        ·rw[az]at af;simp[H,E]at af
       simp[e,j,i,u,t,m,n,o,q];refine c1 l ?_;simp[e,j,i,u,t,m,n,o,q,E]
     ·have aK:dF f=false:=by simpa using L
      rw[aK]at l;simp[e,j,i,u,t,m,n,o,q];refine c1 l ?_;simp[e,j,i,u,t,m,n,o,q]
 ·have ay:dF v=false:=by simpa using K
  have hf:N=false:=by rw[ag,ay];rfl
  rw[if_pos hf];rw[ay]at M;simp[w,e];refine c1 T ?_;simp[w,e,J,U];refine c1 M ?_;simp[w,e]
theorem Vf(l:List (List Nat))(f:l.length<=1000000)(hs:∀s∈l,fW s):aA prog 111 [.seq (l.map .str)] (.int .i64 (bt (l.map bK))):=by
 refine aG nf Hc mix (by simp[f111]) ?_;simp[f111];refine lp (α:=Nat) (fun i=>⟨[(3,.p (.int .i64 i)),(0,.p (.seq (l.map .str)))],[]⟩) (fun i=>i<=l.length/\bt ((l.drop i).map bK)=bt (l.map bK)) (fun i=>l.length-i) 0 (by simp) ?_;rintro i ⟨e,a⟩
 by_cases hi:i<l.length
 ·rw[List.drop_eq_getElem_cons hi]at a;have d:=ct (i:=i) (by omega);have hc:=uS l[i] (hs _ (cy hi));obtain⟨s,b⟩:∃s,l[i]=s:=⟨_,rfl⟩
  have c:l[i]?=some s:=by rw[ce hi,b]
  rw[b]at hc a;simp[hi,c,b];refine c1 hc ?_
  by_cases he:bK s=0
  ·simp[bt,he]at a;simp[he,d];exact rd (i+1) ⟨hi,by simpa using a⟩
  ·simp[bt,he]at a;simp[he,<-a]
 ·have:i=l.length:=by omega
  subst this;simp[bt]at a;simp[<-a]
theorem wC(p:dU)(a:jk p):aA prog 29 [du p] (.int .i64 (bX p)):=by
 have hc:=Vf [p.x,p.y] (by simp) (by intro s hs;simp at hs;rcases hs with rfl|rfl;exact a.1;exact a.2);refine aG nf Qp mix (by simp[f29]) ?_;simp[f29,aa];refine cp hc (by simp;exact⟨rfl,rfl⟩) ?_;simp[bX]
theorem Jm(z:Int):47∉bL z:=by
 rw[bL];split
 ·simp only[dp,not_or];exact⟨by decide,BM (oF _) rfl⟩
 ·exact BM (oF _) rfl
theorem BZ(q:Rat):(b9 47 (bn q)).1=bL q.num/\(q.den≠1->bn q=bL q.num++47::bc q.den)/\(q.den=1->bn q=bL q.num):=by
 by_cases h:q.den=1
 ·have e:bn q=bL q.num:=by rw[bn,if_pos h]
  refine⟨?_,fun a=>(a h).elim,fun _=>e⟩;rw[e,C5 47 _ (Jm _)]
 ·have e:bn q=bL q.num++47::bc q.den:=by rw[bn,if_neg h]
  refine⟨?_,fun _=>e,fun a=>(h a).elim⟩;rw[e,Dp 47 _ _ (Jm _)]
theorem Y8(q:Rat)(h:bI kB q):aA prog 196 [.str (bn q)] (.str (bL q.num)):=by
 have i:=qe h;obtain⟨e,c,d⟩:=BZ q;have hs:=xp (bn q) (by omega);rw[e]at hs;have g:(bn q).take (bL q.num).length=bL q.num:=by
  by_cases b:q.den=1
  ·rw[d b];simp
  ·rw[c b];simp
 have f:(bL q.num).length<=(bn q).length:=by
  by_cases b:q.den=1
  ·rw[d b];exact e9 _
  ·rw[c b];simp
 refine aG nf GM mix (by simp[f196]) ?_;generalize bL q.num=a at*;generalize bn q=s at*;simp[f196];refine c1 hs ?_;simp[g,f]
theorem Y4(q:Rat)(h:bI kB q):aA prog 197 [.str (bn q)] (.str (bc q.den)):=by
 have d:=qe h;obtain⟨i,j,k⟩:=BZ q;have hs:=xp (bn q) (by omega);rw[i]at hs;refine aG nf Pd mix (by simp[f197]) ?_
 by_cases c:q.den=1
 ·have e:=k c;rw[c,F1];rw[e]at hs⊢;generalize bL q.num=a at*;simp[f197];refine c1 hs ?_;simp
 ·have e:=j c;rw[e]at hs d⊢;generalize bL q.num=a at*;generalize bc q.den=b at*;simp only[List.length_append,List.length_cons]at d;have m:¬(a.length:Int)=(a.length:Int)+(b.length+1):=by omega
  have p:be.wrap ((a.length:Int)+1)=(a.length:Int)+1:=aO _ (by omega) (by omega);have o:((a.length:Int)+1).toNat=a.length+1:=by omega
  have f:(0:Int)<=(a.length:Int)+1:=by omega
  have g:(a.length:Int)+1<=(a.length:Int)+(b.length+1):=by omega
  have l:List.drop (a.length+1) (a++47::b)=b:=by simp
  have n:c6 (a.length+(b.length+1)) (a++47::b)=a++47::b:=ck (by simp);simp[f197];refine c1 hs ?_;simp[m,p,o,f,g,l,n]
theorem Y0(z:Int)(h:(bL z).length<=1000000):aA prog 195 [.str (bL z)] (.str (bc z.natAbs)):=by
 have a:=NZ (bL z) (by omega);have g:bZ (bL z)=decide (z<0):=by
  have:=(zE z []).1;rwa [List.append_nil]at this
 have f:bL z=[48]↔z=0:=by
  have e:bL z=bn (z:Rat):=by rw[bn,if_pos (ge z),gc]
  rw[e,Jk]
  exact_mod_cast Iff.rfl
 refine aG nf GN mix (by simp[f195]) ?_;rw[g]at a
 by_cases c:z<0
 ·have e:bL z=45::bc z.natAbs:=by rw[bL,if_pos c]
  rw[if_neg (fun x=>by have:=f.1 x;omega),if_pos (by simpa using c)]at a;rw[e]at a⊢;simp[f195];refine c1 a ?_;simp
 ·have e:bL z=bc z.natAbs:=by rw[bL,if_neg c]
  have b:∃v:Int,¬v<0/\aA prog 22 [.str (bL z)] (.int .i64 v):=by
   by_cases d:bL z=[48]
   ·rw[if_pos d]at a;exact⟨0,by omega,a⟩
   ·rw[if_neg d,if_neg (by simpa using c)]at a;exact⟨1,by omega,a⟩
  obtain⟨v,i,b⟩:=b;rw[e]at b⊢;simp[f195];refine c1 b ?_;simp[i]
def lM(s:List Nat)(D:Nat):Bool:=decide (s.length<=2*D+2)&&decide (bK s=0)&&decide ((bc (aL s).num.natAbs).length<=D)&&decide ((bc (aL s).den).length<=D)
theorem ZK{s:List Nat}(h:bK s=0):bI kB (aL s):=by
 obtain⟨b,c⟩:=GK h;have a:(10:Nat)^mD<=2^kB:=ea (MJ mD) (eb (by decide) (by decide));exact⟨dz b a,dz c a⟩
theorem Pw(s:List Nat)(D:Nat)(hs:fW s)(v:D<=100000):aA prog 116 [.str s,.int .i64 D] (.bool (lM s D)):=by
 have g:=uS s hs;have w:=hs.1;refine aG nf OY mix (by simp[f116]) ?_;have h:be.wrap (2*(D:Int))=2*(D:Int):=aO _ (by omega) (by omega);have i:be.wrap (2*(D:Int)+2)=2*(D:Int)+2:=aO _ (by omega) (by omega)
 by_cases n:s.length<=2*D+2
 ·have f:(s.length:Int)<=2*(D:Int)+2:=by omega
  by_cases d:bK s=0
  ·have m:=ZK d;have e:=(fU d).1;rw[d]at g;have l:=Y8 (aL s) m;have p:=Y4 (aL s) m;have r:(bL (aL s).num).length<=1000000:=by
    have:=qe m;obtain⟨_,t,u⟩:=BZ (aL s)
    by_cases q:(aL s).den=1
    ·rw[u q]at this;exact this
    ·rw[t q]at this;simp at this;omega
   have o:=Y0 (aL s).num r;rw[e]at l p;have hf:lM s D=(decide ((bc (aL s).num.natAbs).length<=D)&&decide ((bc (aL s).den).length<=D)):=by
    rw[lM,decide_eq_true n,decide_eq_true d];simp
   rw[hf];generalize bc (aL s).num.natAbs=a at*;generalize bc (aL s).den=b at*;generalize bL (aL s).num=c at*
   by_cases j:a.length<=D
   ·have k:(a.length:Int)<=D:=by omega
    simp[f116,h,i,f];refine c1 g ?_;simp;refine c1 l ?_;simp;refine c1 o ?_;simp[j,k];refine c1 p ?_;simp[j]
   ·have k:¬(a.length:Int)<=D:=by omega
    simp[f116,h,i,f];refine c1 g ?_;simp;refine c1 l ?_;simp;refine c1 o ?_;simp[j,k]
  ·have hf:lM s D=false:=by rw[lM,decide_eq_false d];simp
   rw[hf];simp[f116,h,i,f];refine c1 g ?_;simp[d]
 ·have f:¬(s.length:Int)<=2*(D:Int)+2:=by omega
  have hf:lM s D=false:=by rw[lM,decide_eq_false n];simp
  rw[hf];simp[f116,h,i,f]
structure V2 where
 x:Rat
 y:Rat
def eV(v:V2):PV:=du ⟨bn v.x,bn v.y⟩
@[simp] theorem aMg(v:V2):aM (eV v)=.agg 41:=rfl
@[simp] theorem aK7(v:V2):cH (eV v)=[.str (bn v.x),.str (bn v.y)]:=rfl
theorem xR(x y:Rat):eV ⟨x,y⟩=.st 41 [.str (bn x),.str (bn y)]:=rfl
def bS(k:Nat)(v:V2):Prop:=bI k v.x/\bI k v.y
theorem bS.mono{k l:Nat}{v:V2}(h:bS k v)(a:k<=l):bS l v:=⟨h.1.mono a,h.2.mono a⟩
def V2.sub(v w:V2):V2:=⟨v.x-w.x,v.y-w.y⟩
def V2.add(v w:V2):V2:=⟨v.x+w.x,v.y+w.y⟩
def V2.mul(v:V2)(k:Rat):V2:=⟨v.x*k,v.y*k⟩
def V2.dot(v w:V2):Rat:=v.x*w.x+v.y*w.y
def V2.fw(v w:V2):Rat:=v.x*w.y-v.y*w.x
theorem mz{k l:Nat}{v w:V2}(h:bS k v)(a:bS l w):bS (k+l+1) (v.sub w):=⟨zj h.1 a.1,zj h.2 a.2⟩
theorem F0{k l:Nat}{v w:V2}(h:bS k v)(a:bS l w):bS (k+l+1) (v.add w):=⟨AW h.1 a.1,AW h.2 a.2⟩
theorem pU{k l:Nat}{v w:V2}(h:bS k v)(a:bS l w):bI (k+l+(k+l)+1) (v.dot w):=AW (ju h.1 a.1) (ju h.2 a.2)
theorem FZ{k l:Nat}{v w:V2}(h:bS k v)(a:bS l w):bI (k+l+(k+l)+1) (v.fw w):=zj (ju h.1 a.2) (ju h.2 a.1)
theorem yK{k l:Nat}{v:V2}{a:Rat}(h:bS k v)(b:bI l a):bS (k+l) (v.mul a):=⟨ju h.1 b,ju h.2 b⟩
def kQ:Nat:=20000
theorem dN{q:Rat}(h:bI kQ q):bI kB q:=h.mono (by decide)
theorem u6(v w:V2)(a:bS kQ v)(b:bS kQ w):aA prog 58 [eV v,eV w] (eV (v.sub w)):=by
 have c:=Au v.x w.x (dN a.1) (dN b.1);have d:=Au v.y w.y (dN a.2) (dN b.2);refine aG nf QG mix (by simp[f58]) ?_;rw[V2.sub,xR];simp[f58,aa];refine e2 c ?_;simp[aa];refine e2 d ?_;simp[aa]
theorem LH(v w:V2)(a:bS kQ v)(b:bS kQ w):aA prog 57 [eV v,eV w] (.str (bn (v.dot w))):=by
 have c:=su v.x w.x (dN a.1) (dN b.1);have d:=su v.y w.y (dN a.2) (dN b.2);have e:=Bh (v.x*w.x) (v.y*w.y) ((ju a.1 b.1).mono (by decide)) ((ju a.2 b.2).mono (by decide));refine aG nf QF mix (by simp[f57]) ?_;rw[V2.dot];simp[f57,aa];refine e2 c ?_;simp[aa];refine e2 d ?_;simp[aa];refine e2 e ?_;simp
theorem Sl(v w:V2)(a:bS kQ v)(b:bS kQ w):aA prog 193 [eV v,eV w] (.str (bn (v.fw w))):=by
 have c:=su v.x w.y (dN a.1) (dN b.2);have d:=su v.y w.x (dN a.2) (dN b.1);have e:=Au (v.x*w.y) (v.y*w.x) ((ju a.1 b.2).mono (by decide)) ((ju a.2 b.1).mono (by decide));refine aG nf GP mix (by simp[f193]) ?_;rw[V2.fw];simp[f193,aa];refine e2 c ?_;simp[aa];refine e2 d ?_;simp[aa];refine e2 e ?_;simp
theorem IM(v:V2)(a:bS kQ v):aA prog 115 [eV v] (.str (bn (v.dot v))):=by
 refine aG nf OZ mix (by simp[f115]) ?_;simp[f115,aa];refine c2 (LH v v a a) ?_;simp
theorem F3(v w:V2)(a:bS kQ v)(b:bS kQ w):aA prog 104 [eV v,eV w] (eV (v.add w)):=by
 have c:=Bh v.x w.x (dN a.1) (dN b.1);have d:=Bh v.y w.y (dN a.2) (dN b.2);refine aG nf O1 mix (by simp[f104]) ?_;rw[V2.add,xR];simp[f104,aa];refine e2 c ?_;simp[aa];refine e2 d ?_;simp[aa]
theorem Si(v:V2)(a:Rat)(c:bS kQ v)(b:bI kQ a):aA prog 105 [eV v,.str (bn a)] (eV (v.mul a)):=by
 have d:=su v.x a (dN c.1) (dN b);have e:=su v.y a (dN c.2) (dN b);refine aG nf GC mix (by simp[f105]) ?_;rw[V2.mul,xR];simp[f105,aa];refine e2 d ?_;simp[aa];refine e2 e ?_;simp[aa]
def wU(r:Int):Rat:=((4*r*r:Int):Rat)
theorem DE{r:Int}(a:0<=r)(b:r<=1000000):0<=4*r*r/\4*r*r<=4000000000000:=by
 have c:=cc a a;have d:=Int.mul_le_mul b b a (by decide);rw[Int.mul_assoc];omega
theorem IK{r:Int}(a:0<=r)(b:r<=1000000):bI 42 (wU r):=by
 have:=DE a b;exact xG (by omega) (by decide)
structure S3 where
 a:Rat
 b:Rat
 d:Rat
theorem Xa:prog.stoodInHeld 42=false:=by kernel_rfl
@[simp] theorem aKH:sV prog 42=true:=by kernel_rfl
def bD(a b c d:List Nat):Bool:=decide (a=c/\b=d)
@[simp] theorem aKI{a b c d:List Nat}:ic prog 9 42 (.st 41 [.str a,.str b]) (.st 41 [.str c,.str d])=some (bD a b c d):=by
 have e:=underlying42;have:((a==c)&&((b==d)&&true))=bD a b c d:=by
  rw[bD,Bool.eq_iff_iff];simp
 rw[<-this];simp[ic,e,Xa,iX,aM]
theorem Ve(p:dU)(D:Nat)(d:jk p)(c:D<=100000):aA prog 33 [du p,.int .i64 D] (.bool (lM p.x D&&lM p.y D)):=by
 have a:=Pw p.x D d.1 c;have b:=Pw p.y D d.2 c;refine aG nf Qt mix (by simp[f33]) ?_;obtain⟨x,y⟩:=p;dsimp only at a b⊢;simp only[du];cases hx:lM x D
 ·rw[hx]at a;simp[f33,aa];refine c2 a ?_;simp
 ·rw[hx]at a;simp[f33,aa];refine c2 a ?_;simp[aa];refine c2 b ?_;simp
def yA(k:Nat)(s:S3):Prop:=bI k s.a/\bI k s.b/\bI k s.d
theorem yA.mono{k l:Nat}{s:S3}(h:yA k s)(a:k<=l):yA l s:=⟨h.1.mono a,h.2.1.mono a,h.2.2.mono a⟩
def S3.add(s t:S3):S3:=⟨s.a+t.a,s.b+t.b,s.d⟩
def S3.mul(s t:S3):S3:=⟨s.a*t.a+s.b*t.b*s.d,s.a*t.b+t.a*s.b,s.d⟩
def S3.times(x:Rat)(s:S3):S3:=⟨x*s.a,x*s.b,s.d⟩
def kS:Nat:=8000
structure P4 where
 x:S3
 y:S3
def FA(k:Nat)(p:P4):Prop:=yA k p.x/\yA k p.y
theorem FA.mono{k l:Nat}{p:P4}(h:FA k p)(a:k<=l):FA l p:=⟨h.1.mono a,h.2.mono a⟩
def P4.dot(v:V2)(p:P4):S3:=(S3.times v.x p.x).add (S3.times v.y p.y)
def sg3(a b o:Int):Int:=if 0<=a*b then(if a=0 then b else a)else a*o
def sgS(s:S3):Int:=sg3 (eg s.a) (eg s.b*eg s.d) (cT (s.a*s.a) (s.b*s.b*s.d))
end Go.ag
