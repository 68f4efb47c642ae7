import Derived.Test.YtenbmieafgdjaaaGreatDoorMPI
import Derived.Test.YtenbmieafgdjaaaGreatDoorMPH
import Derived.Test.YtenbmieafgdjaaaGreatDoorMPG
/- Parts of a proof. -/
set_option linter.unusedSimpArgs false
set_option linter.unusedVariables false
set_option linter.unusedSectionVars false
open Go.Proofs.Tryz
open Bool renaming cond_eq_ite->bb, and_eq_true->be, false_eq_true->bi, or_eq_true->bk
open Go.IntKind renaming i64->bl
open Int renaming natAbs_natCast->bo, ofNat_natAbs_of_nonpos->bv, mul_ediv_cancel_left->b0, natCast_mul->b1, natCast_nonneg->b2, natAbs_mul->b3, tdiv_eq_ediv_of_nonneg->b4, ofNat_dvd_left->b5, natAbs_neg->cb, natCast_ediv->cc, tmod_eq_emod_of_nonneg->ce, mul_nonneg->ck, mul_neg_of_pos_of_neg->cv, negSucc->cx, natAbs_of_nonneg->cy, natCast_emod->c6, natCast_one->c9, ediv_one->da
open List renaming getElem?_eq_getElem->db, all_eq_true->dg, take_of_length_le->dk, length_take->dl, getElem_mem->dp, take->dq, length_pos_iff->dz, length_drop->ea, length->eb, getElem_of_eq->ec, take_length->ed, take_take->ee, mem_cons->ei, map_take->ej
open Nat renaming eq_of_beq_eq_true->em, beq->en, le_trans->eo, lt_of_lt_of_le->eq, pow_le_pow_right->ew, gcd_pos_of_pos_right->e6, mul_ne_zero->e7, gcd->e8, blt->e9, lt_of_le_of_lt->fb, blt_eq->fd, zero_le->fl, gcd_dvd_left->fm, pow_succ->fv, lt_or_ge->fK, mul_lt_mul''->gb, gcd_le_right->gc, div_one->ge, div_le_self->gg, div_div_eq_div_mul->gi, div_lt_iff_lt_mul->gj, pow_mul->gm, pow_add->gt, div_pos->gx, min_eq_left->gy, pow_zero->g0, pow_pos->g1, pow_one->g2, le_refl->g3
open Option.some renaming injEq->g4
open Rat renaming divInt->g5, sub_add_cancel->g6, divInt_mul_divInt->g7, zero_add->g8, div_def->g9, divInt_add_divInt->ha, add_lt_add_right->hb, neg_divInt_neg->hd, neg_divInt->hg, inv_divInt->hj, sub_self->hl, neg_num->hm, not_le->hn
namespace Go.al
open Go.Proofs
set_option maxHeartbeats 4000000
set_option maxRecDepth 100000
theorem Um{s:List Nat}{i:Nat}(h:i<s.length):aW (s.take (i+1))=aW (s.take i)*10+(s[i]-48):=by
 rw[List.take_succ_eq_append_getElem h,xl]
theorem uo{s:List Nat}{p:Nat->Bool}(h:s.all p=true)(i:Nat):(s.take i).all p=true:=by
 rw[dg]at h⊢;intro x hx;exact h x (List.mem_of_mem_take hx)
theorem Kh{s:List Nat}{p:Nat->Bool}(h:s.all p=true)(i:Nat):(s.drop i).all p=true:=by
 rw[dg]at h⊢;intro x hx;exact h x (List.mem_of_mem_drop hx)
theorem yb{c:Nat}(h:cm c=true):48<=c/\c<=57:=by
 simpa[cm]using h
theorem xT(s:List Nat)(e:s.all cm=true)(B:s.length<=18):az prog 196 [.str s] (.int .i64 (aW s:Nat)):=by
 refine aM nf Ev mix (by simp[f196]) ?_;obtain⟨L,g⟩:∃L,L=s.length:=⟨_,rfl⟩
 have k:aW (s.take L)=aW s:=by rw[g,ed]
 rw[<-k];obtain⟨v,b⟩:∃v:Nat->Nat,∀i,aW (s.take i)=v i:=⟨_,fun _=>rfl⟩
 have o:v 0=0:=by rw[<-b];rfl
 have q:∀i(h:i<s.length),v (i+1)=v i*10+(s[i]-48):=fun i h=>by rw[<-b,<-b,Um h]
 have f:∀i,i<=L->v i<10^i:=fun i hi=>by
  rw[<-b];exact jb i _ (by rw[dl];omega) (uo e i)
 rw[b];simp[f196];refine lp (α:=Nat) (fun i=>⟨[(4,.p (.int .i64 i)),(3,.p (.int .i64 (v i:Nat))),(0,.p (.str s))],[]⟩)
  (fun i=>i<=L) (fun i=>L-i) 0 (fl _) ?_ (he:=by simp[o])
 intro i hi
 by_cases m:i<L
 ·have a:i<s.length:=by omega
  have j:=f i hi;have A:=f (i+1) m;have hc:=yb (dg.1 e s[i] (dp a));have hs:=q i a;have n:10^i<=10^17:=ew (by decide) (by omega);have z:v i<100000000000000000:=eq j (by exact n);generalize d:s[i]=c at*;generalize C:v i=x at*;have r:bl.wrap (10*(x:Int))=10*(x:Int):=aI _ (by omega) (by omega);have t:bl.wrap (10*(x:Int)+c)=10*(x:Int)+c:=aI _ (by omega) (by omega);have u:bl.wrap (10*(x:Int)+c-48)=(v (i+1):Nat):=by rw[hs,aI _ (by omega) (by omega)];omega
  have w:bl.wrap ((i:Int)+1)=(i:Int)+1:=aI _ (by omega) (by omega);have y:bl.wrap (c:Int)=c:=aI _ (by omega) (by omega);have l:s[i]?=some c:=by rw[db a,d]
  simp[a,d,l,r,t,u,w,y];exact rd (i+1) (show i+1<=L by omega)
 ·have a:¬i<s.length:=by omega
  have:i=L:=by omega
  subst this;simp[a]
theorem K3(c:Nat):∀s:List Nat,c∉(b8 c s).1
 |[]=>by simp[b8]
 |x::r=>by
  rw[b8]
  split
  ·simp
  ·rename_i h;simp only[ei,not_or];exact⟨fun e=>h e.symm,K3 c r⟩
theorem A5(s:List Nat)(x:s.length<=1048576):az prog 94 [.str s] (.int .i64 ((b8 47 s).1.length:Nat)):=by
 refine aM nf OT mix (by simp[f94]) ?_;obtain⟨k,hk⟩:∃k,(b8 47 s).1.length=k:=⟨_,rfl⟩
 have t:=K3 47 s;have w:k<=s.length:=by rw[<-hk];exact(ou 47 s).1
 have n:∀j(h:j<s.length),j<k->¬s[j]=47:=by
  intro j h v e;apply t;rcases oG 47 s with⟨_,b⟩|⟨_,b,_⟩
  ·have:s[j]=(b8 47 s).1[j]'(by omega):=by
    conv=>lhs;rw[ec b]
    rw[List.getElem_append_left]
   have d:(b8 47 s).1[j]'(by omega)∈(b8 47 s).1:=dp _;rw[<-this,e]at d;exact d
  ·rw[b];have d:s[j]∈s:=dp _
   rwa [e]at d
 have b:∀(h:k<s.length),s[k]=47:=by
  intro h;rcases oG 47 s with⟨_,g⟩|⟨_,g,_⟩
  ·rw[ec g,List.getElem_append_right (by omega)];simp[hk]
  ·rw[g]at hk;omega
 rw[hk];simp[f94];refine lp (α:=Nat) (fun i=>⟨[(3,.p (.int .i64 i)),(0,.p (.str s))],[]⟩)
  (fun i=>i<=k) (fun i=>k-i) 0 (fl _) ?_
 intro i hi;have u:bl.wrap ((i:Int)+1)=(i:Int)+1:=aI _ (by omega) (by omega)
 by_cases q:i<k
 ·have a:i<s.length:=by omega
  have f:=n i a q;generalize m:s[i]=c at*;have l:s[i]?=some c:=by rw[db a,m]
  have o:¬(c:Int)=47:=by omega
  simp[a,m,l,o,f,u];exact rd (i+1) (show i+1<=k by omega)
 ·have r:i=k:=by omega
  subst r
  by_cases a:i<s.length
  ·have f:=b a;have l:s[i]?=some 47:=by rw[db a,f]
   simp[a,f,l]
  ·have:i=s.length:=by omega
   simp[a,this]
theorem Lv(n:Int)(M:-9223372036854775808<=n)(O:n<=9223372036854775807):az prog 113 [.int .i64 n] (eG n):=by
 refine aM nf EM mix (by simp[f113]) ?_;obtain⟨N,P⟩:∃N,n.natAbs=N:=⟨_,rfl⟩
 have D:N<bT^3:=by
  have:bT^3=1000000000000000000000000000:=by decide
  omega
 obtain⟨g,a⟩:∃g:Nat->Nat,∀i,N/bT^i=g i:=⟨_,fun _=>rfl⟩
 have F:g 0=N:=by rw[<-a,g0,ge]
 have H:∀i,g (i+1)=g i/bT:=fun i=>by rw[<-a,<-a,gi,fv]
 have A:∀i,ae bT N i=g i% bT:=fun i=>by rw[<-a];rfl
 have G:g 3=0:=by rw[<-a,Nat.div_eq_of_lt D]
 have k:∀i,g i<=N:=fun i=>by rw[<-a];exact gg _ _
 have y:∀i,i<=3->g i=0->az prog 198 [.bool (decide (n<0)),.seq (iP (row bT i N))] (eG n):=fun i I hi=>by
  have h:=Bq (decide (n<0)) (row bT i N) N (je aZ (by
   rw[<-a]at hi;rcases fK N (bT^i)with h|h
   ·exact h
   ·have:=gx h (g1 (show 0<bT by decide));omega)) (by simp[row];omega)
  have e:(if decide (n<0)=true then -(N:Int)else N)=n:=by
   by_cases c:n<0
   ·simp[c];omega
   ·simp[c];omega
  rwa [e]at h
 obtain⟨m,f⟩:∃m:Nat->Int,∀i,(if n<0 then -(g i:Int)else g i)=m i:=⟨_,fun _=>rfl⟩
 have J:m 0=n:=by rw[<-f,F];split<;>omega
 simp only[eG]at y⊢;simp[f113];refine lp (α:=Nat) (fun i=>⟨[(0,.p (.int .i64 (m i))),(2,.ptr 0 []),(3,.sl 1 i 1 0 i),(4,.p (.bool (decide (n<0))))],[.box false (.p (.st 169 [.bool false,.aF])),.arr .grow i 1 (dT i N)]⟩)
  (fun i=>i<=3) (fun i=>3-i) 0 (fl _) ?_ (he:=by simp[J,dT]) (hh:=by simp[dT])
 intro i hi;have Q:bT=1000000000:=rfl;have L:=Nat.mod_lt (g i) (show 0<bT by decide);have R:=k i;have E:=Nat.div_add_mod (g i) bT;have u:g i% bT=ae bT N i:=(A i).symm
 by_cases d:g i=0
 ·have b:m i=0:=by rw[<-f,d];split<;>rfl
  have hs:=y i hi d;rcases i with _|i
  ·simp[b];refine cp hs (by simp[dT];first|exact⟨rfl,rfl⟩|rfl) ?_ (h1:=by simp[iP,row]);simp[ad]
  ·have j:¬dT (i+1) N=[]:=by intro h;have:=congrArg eb h;rw[ib]at this;simp at this
   simp[b];refine cp hs (by simp[ib,Kq,j];first|exact⟨rfl,rfl⟩|rfl) ?_ (h1:=by simp[iP,row,ej,dk]);simp[ad]
 ·have I:i<3:=by
   rcases fK i 3 with h|h
   ·exact h
   ·rw[show i=3 by omega]at d;exact(d G).elim
  have z:=H i;have K:=A i;have l:=pI i N;have x:dq i (dT i N)=dT i N:=dk (by rw[ib];exact g3 _);rw[K]at l;obtain⟨r,B⟩:∃r,g i% bT=r:=⟨_,rfl⟩
  rw[B]at l L E;have u:=B.symm
  by_cases c:n<0
  ·have b:m i= -(g i:Int):=by rw[<-f,if_pos c]
   have o:m (i+1)= -(g (i+1):Int):=by rw[<-f,if_pos c]
   have j:¬(g i:Int)=0:=by omega
   have s:((g i:Nat):Int).tmod 1000000000=r:=by rw[u,ce (b2 _),c6];rfl
   have q:((g i:Nat):Int).tdiv 1000000000=(g (i+1):Nat):=by rw[z,b4 (b2 _),cc (g i)];rfl
   have wr:bl.wrap (r:Int)=r:=aI _ (by omega) (by omega);have C:bl.wrap (-(r:Int))= -r:=aI _ (by omega) (by omega);have t:bl.wrap (-(g (i+1):Int))= -(g (i+1):Nat):=aI _ (by have:=k (i+1);omega) (by have:=k (i+1);omega)
   by_cases v:r=0
   ·simp[b,d,j,s,q,wr,C,t,v,x,ib];refine⟨by simp only[cC];omega,?_⟩;exact rd (i+1) (show i+1<=3 by omega) (he:=by simp[o]) (hh:=by simp[l,v])
   ·have w:0<r:=by omega
    simp[b,d,j,s,q,wr,C,t,v,w,x,ib];refine⟨by simp only[cC];omega,?_⟩;exact rd (i+1) (show i+1<=3 by omega) (he:=by simp[o]) (hh:=by simp[l])
  ·have b:m i=(g i:Int):=by rw[<-f,if_neg c]
   have o:m (i+1)=(g (i+1):Int):=by rw[<-f,if_neg c]
   have j:¬(g i:Int)=0:=by omega
   have s:((g i:Nat):Int).tmod 1000000000=r:=by rw[u,ce (b2 _),c6];rfl
   have q:((g i:Nat):Int).tdiv 1000000000=(g (i+1):Nat):=by rw[z,b4 (b2 _),cc (g i)];rfl
   have wr:bl.wrap (r:Int)=r:=aI _ (by omega) (by omega);have t:bl.wrap (g (i+1):Int)=(g (i+1):Nat):=aI _ (by have:=k (i+1);omega) (by have:=k (i+1);omega);have w:¬(r:Int)<0:=by omega
   simp[b,d,j,s,q,wr,t,w,x,ib];refine⟨by simp only[cC];omega,?_⟩;exact rd (i+1) (show i+1<=3 by omega) (he:=by simp[o]) (hh:=by simp[l])
theorem HA{d:List Nat}(c:d.all cm=true){L i:Nat}(f:L=d.length)(h:9*(i+1)<=L):
 aW (d.take (L-9*(i+1)))=aW (d.take (L-9*i))/10^9/\aW ((d.take (L-9*i)).drop (L-9*(i+1)))=aW (d.take (L-9*i))% 10^9:=by
 have e:=List.take_append_drop (L-9*(i+1)) (d.take (L-9*i));rw[ee,gy (by omega)]at e;have a:=Jc (d.take (L-9*(i+1))) ((d.take (L-9*i)).drop (L-9*(i+1)));rw[e]at a;have b:((d.take (L-9*i)).drop (L-9*(i+1))).length=9:=by rw[ea,dl];omega
 rw[b]at a;have g:=jb 9 _ b (Kh (uo c _) _);generalize aW ((d.take (L-9*i)).drop (L-9*(i+1)))=y at*;generalize aW (d.take (L-9*(i+1)))=x at*;rw[a];omega
theorem Br(s:List Nat)(k:(cS s).all cm=true)(J:s.length<=1000000):az prog 194 [.str s] (eG (if bZ s=true then -(aW (cS s):Int)else aW (cS s))):=by
 refine aM nf Ex mix (by simp[f194]) ?_;obtain⟨d,v⟩:∃d,cS s=d:=⟨_,rfl⟩
 obtain⟨neg,f⟩:∃neg,bZ s=neg:=⟨_,rfl⟩
 obtain⟨N,F⟩:∃N,aW d=N:=⟨_,rfl⟩
 have ah:d.length<=1000000:=by rw[<-v];exact eo (oc s).1 J
 rw[v]at k⊢;rw[f,F];have ai:=J;simp[f194,-br];rw[br];simp[-br];refine join (fun st=>aN st.env 0=.p (.str s)/\aN st.env 2=.ptr 0 []/\aN st.env 3=.p (.bool neg)/\st.heap=[.box false (.p (.st 169 [.bool false,.aF]))]) ?_ ?_
 ·cases s with
  |nil=>simp[<-f,bZ]
  |cons c r=>
   by_cases hc:c=45
   ·simp[<-f,bZ,hc]
   ·have T:¬(c:Int)=45:=by omega
    simp[<-f,bZ,hc,T]
 rintro⟨S,U⟩ ⟨a,b,e,n⟩;dsimp only at a b e n;subst n;refine join (fun st=>aN st.env 0=.p (.str d)/\aN st.env 2=.ptr 0 []/\aN st.env 3=.p (.bool neg)/\st.heap=[.box false (.p (.st 169 [.bool false,.aF]))]) ?_ ?_
 ·cases neg with
  |false=>
   have D:s=d:=by rw[<-v,cS,f];rfl
   simp[a,b,e,D]
  |true=>
   cases s with
   |nil=>simp[bZ]at f
   |cons c r=>
    have D:r=d:=by rw[<-v,cS,f];rfl
    simp[a,b,e,D]
 clear a b e;rintro⟨S,U⟩ ⟨a,b,e,n⟩;dsimp only at a b e n;subst n;obtain⟨L,u⟩:∃L,L=d.length:=⟨_,rfl⟩
 obtain⟨g,l⟩:∃g:Nat->Nat,∀i,N/bT^i=g i:=⟨_,fun _=>rfl⟩
 have B:∀i,9*i<=L->aW (d.take (L-9*i))=g i:=by
  intro i
  induction i with
  |zero=>intro _;rw[Nat.mul_zero,Nat.sub_zero,u,ed,F,<-l,g0,ge]
  |succ i ac=>
   intro h;rw[(HA k u h).1,ac (by omega),<-l,<-l,gi,fv];rfl
 have V:∀i,9*(i+1)<=L->aW ((d.take (L-9*i)).drop (L-9*(i+1)))=ae bT N i:=fun i h=>by
  rw[(HA k u h).2,B i (by omega),<-l];rfl
 have ab:∀i,9*(i+1)<=L->az prog 196 [.str ((d.take (L-9*i)).drop (L-9*(i+1)))] (.int .i64 (ae bT N i:Nat)):=fun i h=>by
  rw[<-V i h];exact xT _ (Kh (uo k _) _) (by rw[ea,dl];omega)
 have I:∀i,9*i<=L->L<=9*i+9->g i=ae bT N i/\N<bT^(i+1):=fun i j q=>by
  have H:=jb _ (d.take (L-9*i)) rfl (uo k _);rw[B i j]at H;have y:g i<bT:=eq H (by
   rw[show bT=10^9 from rfl];exact ew (by decide) (by rw[dl];omega))
  refine⟨by rw[ae,l,Nat.mod_eq_of_lt y],?_⟩;rw[<-l,gj (g1 (by decide))]at y;rw[fv,Nat.mul_comm];exact y
 have W:∀i,9*i<=L->L<=9*i+9->az prog 196 [.str (d.take (L-9*i))] (.int .i64 (ae bT N i:Nat)):=fun i j q=>by
  rw[<-(I i j q).1,<-B i j];exact xT _ (uo k _) (by rw[dl];omega)
 have G:∀i,9*i<=L->L<=9*i+9->az prog 198 [.bool neg,.seq (iP (row bT (i+1) N))] (eG (if neg=true then -(N:Int)else N)):=fun i j q=>
  Bq neg (row bT (i+1) N) N (je aZ (I i j q).2) (by simp[row];omega)
 generalize (if neg=true then -(N:Int)else N)=z at*;simp only[eG]at G⊢;rw[br];simp[a,b,e,-br];rw[br];simp[a,b,e];refine lp (α:=Nat) (fun i=>⟨[(0,.p (.str (d.take (L-9*i)))),(2,.ptr 0 []),(3,.p (.bool neg)),(4,.sl 1 i 1 0 i)],[.box false (.p (.st 169 [.bool false,.aF])),.arr .grow i 1 (dT i N)]⟩)
  (fun i=>9*i<=L) (fun i=>L-i) 0 (fl _) ?_ (he:=by simp[a,b,e,dT,u]) (hh:=by simp[dT])
 intro i hi;have x:(d.take (L-9*i)).length=L-9*i:=by rw[dl];omega
 have o:=ab i;have w:=W i hi;have E:(d.take (L-9*i)).take (L-9*(i+1))=d.take (L-9*(i+1)):=by rw[ee,gy (by omega)]
 rw[show L-9*(i+1)=L-9*i-9 by omega]at o E;obtain⟨m,C⟩:∃m,m=L-9*i:=⟨_,rfl⟩
 rw[<-C]at x o w E;have O:=pI i N;have P:dq i (dT i N)=dT i N:=dk (by rw[ib];exact g3 _);have K:i+1<=cC:=by simp only[cC];omega
 by_cases af:9<m
 ·have o:=o (by omega);have Q:bl.wrap ((m:Int)-9)=(m:Int)-9:=aI _ (by omega) (by omega);have R:((m:Int)-9).toNat=m-9:=by omega
  have M:(9:Int)<=m:=by omega
  have Z:9*(i+1)<=L:=by omega
  rw[<-C];generalize ag:dq m d=t at*;have aa:dq m t=t:=dk (by omega);have A:(9:Int)<m:=by omega
  have X:m-9=L-9*(i+1):=by omega
  simp[x,A,Q,R,M,aa];refine c1 o ?_;simp[P,ib,K,<-O,x,Q,R,M,E];exact rd (i+1) Z (he:=by simp[X])
 ·have w:=w (by omega);have hs:=G i hi (by omega);rw[<-C];generalize dq m d=t at*;have A:¬(9:Int)<m:=by omega
  simp[x,A];refine c1 w ?_;simp[P,ib,K,<-O];have Y:¬dT (i+1) N=[]:=by intro h;have:=congrArg eb h;rw[ib]at this;simp at this
  refine cp hs (by simp[ib,Kq,Y];first|exact⟨rfl,rfl⟩|rfl) ?_ (h1:=by simp[iP,row,ej,dk]);simp[ad]
def jz(s:List Nat):Int:=if bZ s=true then -(aW (bD s):Int)else aW (bD s)
def ie(s:List Nat):Nat:=if dR s=true then aW (bM s)else 1
theorem JS(s:List Nat)(q:(bD s).all cm=true)(l:(bM s).all cm=true)(J:s.length<=1000000):az prog 96 [.str s] (.aD [eG (jz s),eG (ie s:Nat)]):=by
 refine aM nf OV mix (by simp[f96]) ?_;have e:=A5 s (by omega);obtain⟨L,f,h,D⟩:=I1 s;have I:=ou 47 s;have C:=Lv 1 (by decide) (by decide);rcases oG 47 s with⟨q1,b⟩|⟨q1,b,N⟩
 ·have a:=Br (b8 47 s).1 (by rw[f];exact q) (by omega);rw[L,f]at a;have d:=Br (b8 47 s).2.1 (by
   rw[h];rw[dg]at l⊢;intro x hx;exact l x ((oc _).2 x hx)) (by omega)
  have K:bZ (bM s)=false:=by
   rw[bZ];cases g:bM s with
   |nil=>simp
   |cons c r=>
    have:=yb (dg.1 l c (by rw[g];simp));simp;omega
  rw[h,cS,K]at d;have m:dR s=true:=by rw[<-D];exact q1
  have nK:jz s=if bZ s=true then -(aW (bD s):Int)else aW (bD s):=rfl
  have j:ie s=aW (bM s):=by rw[ie,if_pos m]
  rw[<-nK]at a;simp only[bi,if_false]at d;rw[<-j]at d;generalize M:jz s=z at*;generalize ie s=dn at*;obtain⟨i,o⟩:∃i,(b8 47 s).1=i:=⟨_,rfl⟩
  obtain⟨E,p⟩:∃E,(b8 47 s).2.1=E:=⟨_,rfl⟩
  rw[o,p]at b;rw[o]at e a;rw[p]at h;obtain⟨k,n⟩:∃k,i.length=k:=⟨_,rfl⟩
  rw[n]at e;have hk:k<s.length:=by rw[b];simp;omega
  have B:s.take k=i:=by rw[b,<-n];simp
  have g:s.drop (k+1)=bM s:=by
   rw[<-h]
   conv=>lhs;rw[b,<-n]
   simp
  clear I b o p;have G:bl.wrap ((k:Int)+1)=(k:Int)+1:=aI _ (by omega) (by omega);have F:((k:Int)+1).toNat=k+1:=by omega
  have y:¬(k:Int)=s.length:=by omega
  have u:k+1<=s.length:=hk;have w:k<=s.length:=by omega
  have t:(0:Int)<=k+1:=by omega
  have v:(k:Int)+1<=s.length:=by omega
  simp only[eG]at a d⊢;simp[f96];refine c1 e ?_;simp[y,G,F,B,g,u,w,t,v];refine e1 a ?_;simp[y,G,F,B,g,u,w,t,v];refine e1 d ?_;simp[ad]
 ·have a:=Br s (by
   have A:=f;rw[b]at A;rw[A];exact q) J
  have m:dR s=false:=by rw[<-D];exact q1
  have H:cS s=bD s:=by rw[b]at f;exact f
  have nK:jz s=if bZ s=true then -(aW (bD s):Int)else aW (bD s):=rfl
  have j:ie s=1:=by rw[ie,m];rfl
  rw[H,<-nK]at a;rw[j];rw[b]at e;generalize jz s=z at*;simp only[eG]at a C⊢;simp[f96];refine c1 e ?_;simp;refine c1 a ?_;simp;refine c1 C ?_;simp[ad]
theorem HB(n:Nat):(bt n).length<=9*(aq bT n).length+1:=by
 rcases Nat.eq_zero_or_pos n with h|h
 ·subst h;rw[pF];simp
 ·have b:0<(aq bT n).length:=by rw[dz,Ne,uk];omega
  have a:=cj aZ n;rw[show bT^(aq bT n).length=10^(9*(aq bT n).length)by rw[gm];rfl]at a;exact eo (tY a (by omega)) (by omega)
def my(n d:Int):Rat:=g5 n d
theorem Hl(n g:Nat):(aq bT (n/g)).length<=(aq bT n).length:=
 dJ aZ _ _ (fb (gg n g) (cj aZ n))
theorem TG(n d:Nat)(a:0<d):(aq bT (e8 n d)).length<=(aq bT d).length:=
 dJ aZ _ _ (fb (gc n a) (cj aZ d))
theorem GF(n d:Int)(L:d≠0)(s:(aq bT n.natAbs).length<=400000)(j:(aq bT d.natAbs).length<=400000):az prog 99 [eG n,eG d] (.str (bC (my n d))):=by
 refine aM nf OX mix (by simp[f99]) ?_;simp[f99,-br,ad];rw[br];simp[-br,ad];refine join (fun st=>∃(e:Int)(d':Nat),0<d'/\(aq bT e.natAbs).length<=400000/\(aq bT d').length<=400000/\my e d'=my n d/\aN st.env 2=.ptr 0 []/\aN st.env 3=.ptr 1 []/\st.heap=[.box false (.p (eG e)),.box false (.p (eG (d':Nat)))]) ?_ ?_
 ·have P:=Ly n s;have O:=Ly d j
  by_cases h:d<0
  ·simp[h,ad];refine e1 P ?_;simp[ad];refine e1 O ?_;simp[ad];refine⟨by repeat' first|rfl|apply And.intro,?_⟩;refine⟨-n,d.natAbs,by omega,by rw[cb];exact s,j,?_,rfl,?_⟩
   ·rw[bv (by omega)];exact hd _ _
   ·rw[bv (by omega)]
  ·have A:((d.natAbs:Nat):Int)=d:=cy (by omega);simp[h,ad];exact⟨n,d.natAbs,by omega,s,j,by rw[A],rfl,by rw[A]⟩
 rintro⟨T,U⟩ ⟨e,d',k1,k2,k3,k4,l,m,D⟩;dsimp only at l m D;subst D;rw[<-k4,show my e d'=g5 e d' from rfl];clear k4 s j L;obtain⟨u,v⟩:=kV (n:=e) (show d'≠0 by omega);obtain⟨g,k⟩:∃g,e8 e.natAbs d'=g:=⟨_,rfl⟩
 have r:0<g:=by rw[<-k];exact e6 _ k1
 have B:(aq bT g).length<=400000:=by rw[<-k];exact eo (TG _ _ k1) k3
 rw[k]at u v;have y:=Jw e.natAbs d' k2 k3;rw[k]at y;have I:=CO e.natAbs g r k2 B;have J:=CO d' g r k3 B;have Y:(aq bT (e.natAbs/g)).length<=400000:=eo (Hl _ _) k2;have Z:(aq bT (d'/g)).length<=400000:=eo (Hl _ _) k3;have w:=pA (decide (e<0)) (e.natAbs/g) (by omega);have f:=pA false (d'/g) (by omega);have t:(if decide (e<0)=true then -((e.natAbs/g:Nat):Int)else((e.natAbs/g:Nat):Int))=(g5 e d').num:=by
  rw[u];have M:(g:Int)∣e:=by rw[<-k];exact b5.2 (fm _ _)
  obtain⟨c,hc⟩:=M;have N:(g:Int)≠0:=by omega
  rw[hc,b0 _ N,b3,bo,Nat.mul_div_cancel_left _ r]
  by_cases K:c<0
  ·have:(g:Int)*c<0:=cv (by omega) K;simp[this];omega
  ·have:¬(g:Int)*c<0:=by
    have:=ck (a:=(g:Int)) (b:=c) (by omega) (by omega);omega
   simp[this];omega
 rw[t]at w;simp only[bi,if_false]at f;have z:=Cb (g5 e d').num (by
  rw[<-t];split
  ·rw[cb,bo];omega
  ·rw[bo];omega)
 have i:=Cb ((d'/g:Nat):Int) (by rw[bo];omega);rw[tZ]at i;have Q:0<d'/g:=by
  refine gx ?_ r;rw[<-k];exact gc _ k1
 have V:(cR (g5 e d').num).length<=3600002:=by
  refine eo (BP _) ?_;have h:=HB (g5 e d').num.natAbs;have:(g5 e d').num.natAbs=e.natAbs/g:=by
   rw[<-t];split
   ·rw[cb,bo]
   ·rw[bo]
  rw[this]at h⊢;omega
 have W:(bt (d'/g)).length<=3600001:=by
  have h:=HB (d'/g);omega
 have F:bC (g5 e d')=if d'/g=1 then cR (g5 e d').num else cR (g5 e d').num++47::bt (d'/g):=by rw[bC,v]
 rw[F];clear F t u v;generalize (g5 e d').num=G at*;generalize aa:d'/g=q at*;simp only[eG,bo]at w f z i⊢;simp[l,m,ad];refine c2 y ?_;simp[l,m,ad];refine c2 I ?_;simp[l,m,ad];refine c2 J ?_;simp[l,m,ad];refine c2 w ?_;simp[l,m,ad];refine c1 z ?_;have R:∀h:q=1,aq bT q=[1]:=fun h=>by rw[h];exact mX (by decide) (by decide)
 by_cases o:q=1
 ·have x:=R o;simp[o,eT,mX (show 0<1 by decide) (show 1<bT by decide)]
 ·have C:(cR G).length+1<9223372036854775808:=by omega
  have X:(cR G).length+((bt q).length+1)<9223372036854775808:=by omega
  by_cases E:q<bT
  ·have x:=mX Q E;have S:¬(q:Int)=1:=by omega
   simp[o,eT,x,S];refine⟨C,?_⟩;simp only[eT,x,List.map_cons,List.map_nil]at f i;refine c2 f ?_;simp;refine c1 i ?_;simp;omega
  ·have j:¬((aq bT q).length:Int)=1:=by
    intro h;have H:(aq bT q).length=1:=by omega
    have:=cj aZ q;rw[H,g2]at this;exact E this
   simp[o,eT,j];refine⟨C,?_⟩;simp only[eT]at f i;refine c2 f ?_;simp;refine c1 i ?_;simp;omega
theorem TL{n:Int}{g:Nat}(a:0<g)(h:g∣n.natAbs):n.tdiv g=n/g:=by
 obtain⟨c,hc⟩:=b5.2 h;subst hc;rw[Int.mul_tdiv_cancel_left _ (by omega),b0 _ (by omega)]
theorem Nh(n d:Int)(O:d≠0)(U:n.natAbs<=4000000000000000000)(P:d.natAbs<=4000000000000000000):az prog 84 [.int .i64 n,.int .i64 d] (.str (bC (my n d))):=by
 refine aM nf OK mix (by simp[f84]) ?_;have f:¬n< -4000000000000000000:=by omega
 have i:¬4000000000000000000<n:=by omega
 have j:¬d< -4000000000000000000:=by omega
 have k:¬4000000000000000000<d:=by omega
 simp[f84,f,i,j,k,-br];rw[br];simp[f,i,j,k,-br];rw[br,br];simp[f,i,j,k,-br];refine join (fun st=>∃(b:Int)(d':Nat),0<d'/\b.natAbs<=4000000000000000000/\d'<=4000000000000000000/\my b d'=my n d/\aN st.env 0=.p (.int .i64 b)/\aN st.env 1=.p (.int .i64 (d':Nat))/\st.heap=[]) ?_ ?_
 ·have H:bl.wrap (-n)= -n:=aI _ (by omega) (by omega);have o:bl.wrap (-d)= -d:=aI _ (by omega) (by omega)
  by_cases h:d<0
  ·simp[h,H,o,f,i,j,k];refine⟨-n,d.natAbs,by omega,by omega,by omega,?_,rfl,?_⟩
   ·rw[bv (by omega)];exact hd _ _
   ·rw[bv (by omega)]
  ·have J:((d.natAbs:Nat):Int)=d:=cy (by omega);simp[h,f,i,j,k];exact⟨n,d.natAbs,by omega,by omega,by omega,by rw[J],rfl,by rw[J]⟩
 rintro⟨W,X⟩ ⟨b,d',k1,k2,k3,k4,r,s,K⟩;dsimp only at r s K;subst K;rw[<-k4,show my b d'=g5 b d' from rfl];clear k4 U P O f i j k;obtain⟨x,D⟩:=kV (n:=b) (show d'≠0 by omega);obtain⟨g,l⟩:∃g,e8 b.natAbs d'=g:=⟨_,rfl⟩
 have F:0<g:=by rw[<-l];exact e6 _ k1
 rw[l]at x D;have I:=Xg b.natAbs d' (by omega) (by omega);rw[l]at I;have T:(if b< -b then -b else b)=(b.natAbs:Nat):=by split<;>omega
 have H:bl.wrap (-b)= -b:=aI _ (by omega) (by omega);have z:b.tdiv g=(g5 b d').num:=by rw[x,TL F (by rw[<-l];exact fm _ _)]
 have A:(d':Int).tdiv g=(d'/g:Nat):=by rw[b4 (b2 _),cc]
 have V:(g5 b d').num.natAbs<=4000000000000000000:=by
  have R:(g:Int)∣b:=by rw[<-l];exact b5.2 (fm _ _)
  obtain⟨c,hc⟩:=R;have S:(g:Int)≠0:=by omega
  rw[x,hc,b0 _ S];rw[hc,b3,bo]at k2;exact eo (Nat.le_mul_of_pos_left _ F) k2
 have Q:d'/g<=4000000000000000000:=eo (gg _ _) k3;have ac:0<d'/g:=by
  refine gx ?_ F;rw[<-l];exact gc _ k1
 have M:bC (g5 b d')=if d'/g=1 then cR (g5 b d').num else cR (g5 b d').num++47::bt (d'/g):=by rw[bC,D]
 rw[M];clear M x D;generalize (g5 b d').num=a at*;generalize ad:d'/g=q at*;have y:¬g=0:=by omega
 have u:=xg a.natAbs 1 (by omega) (by decide);have E:=xg q 1 (by omega) (by decide);have Y:(bt a.natAbs).length<=19:=tY (fb V (by decide)) (by decide);have Z:(bt q).length<=19:=tY (fb Q (by decide)) (by decide);rw[show low (max 1 (nd a.natAbs)) a.natAbs=bt a.natAbs from rfl]at u;rw[show low (max 1 (nd q)) q=bt q from rfl]at E;have ab:(if a< -a then -a else a)=(a.natAbs:Nat):=by split<;>omega
 have o:bl.wrap (-a)= -a:=aI _ (by omega) (by omega);have B:bl.wrap a=a:=aI _ (by omega) (by omega);have C:bl.wrap (q:Int)=q:=aI _ (by omega) (by omega);simp[r,s,H,T];refine c2 I ?_;have L:(1:Int)<q↔¬q=1:=by omega
 have N:bl.wrap 1=1:=rfl;have aa:(bt a.natAbs).length<9223372036854775808:=by omega
 by_cases m:a<0
 ·have G:cR a=45::bt a.natAbs:=by rw[cR,if_pos m]
  rw[G];have w:a< -a:=by omega
  have v:-a=(a.natAbs:Nat):=by omega
  by_cases e:q=1
  ·simp[r,s,y,z,A,B,C,m,o,w,e];rw[v];refine c2 u ?_;simp[e,N];omega
  ·have t:=L.2 e;simp[r,s,y,z,A,B,C,m,o,w,e,t];rw[v];refine c2 u ?_;simp[e,t];refine⟨by omega,by omega,?_⟩;refine c2 E ?_;simp;omega
 ·have G:cR a=bt a.natAbs:=by rw[cR,if_neg m]
  rw[G];have v:a=(a.natAbs:Nat):=by omega
  have w:¬a< -a:=by omega
  by_cases e:q=1
  ·simp[r,s,y,z,A,B,C,m,o,w,e];rw[show PV.int .i64 a=.int .i64 (a.natAbs:Nat)by rw[<-v]];refine c2 u ?_;simp[e,N];omega
  ·have t:=L.2 e;simp[r,s,y,z,A,B,C,m,o,w,e,t];rw[show PV.int .i64 a=.int .i64 (a.natAbs:Nat)by rw[<-v]];refine c2 u ?_;simp[e,t];refine⟨by omega,by omega,?_⟩;refine c2 E ?_;simp;omega
theorem Ck(n:Int)(a:-9223372036854775808<=n)(b:n<=9223372036854775807):az prog 39 [.int .i64 n] (.str (bC (n:Rat))):=by
 have e:=Lv n a b;have d:=Cb n (by
  have c:n.natAbs<bT^3:=by
   have:bT^3=1000000000000000000000000000:=by decide
   omega
  have:=dJ aZ 3 _ c;omega)
 have hq:bC (n:Rat)=cR n:=by rw[bC,if_pos (Rat.den_intCast n),Rat.num_intCast]
 rw[hq];refine aM nf Oi mix (by simp[f39]) ?_;simp[f39];refine c1 e ?_;simp;refine c1 d ?_;simp
theorem Xo(s:List Nat)(C:(bD s).all cm=true)(J:(bM s).all cm=true)(ak:s.length<=1000000):
 ∃(n d:Int)(b:Bool),az prog 98 [.str s] (.aD [.int .i64 n,.int .i64 d,.bool b])/\(b=true->n=jz s/\d=(ie s:Nat)/\n.natAbs<1000000000/\ie s<1000000000):=by
 by_cases K:20<s.length
 ·refine⟨0,0,false,?_,fun h=>by cases h⟩;refine aM nf Dj mix (by simp[f98]) ?_;have m:(20:Int)<s.length:=by omega
  simp[f98,m]
 obtain⟨d,l⟩:∃d,cS s=d:=⟨_,rfl⟩
 obtain⟨neg,g⟩:∃neg,bZ s=neg:=⟨_,rfl⟩
 have ai:d.length<=s.length:=by rw[<-l];exact(oc s).1
 have i:=A5 d (by omega);have A:(b8 47 d).1=bD s:=by rw[<-l];rfl
 have N:(b8 47 d).2.1=bM s:=by rw[<-l];rfl
 have P:(b8 47 d).2.2=dR s:=by rw[<-l];rfl
 have q:=oG 47 d;rw[A,N,P]at q;rw[A]at i;obtain⟨k,hk⟩:∃k,(bD s).length=k:=⟨_,rfl⟩
 rw[hk]at i;have Q:k<=d.length:=by rw[<-hk,<-A];exact(ou 47 d).1
 have m:¬(20:Int)<s.length:=by omega
 obtain⟨b,o⟩:∃b:Bool,b=(decide (k<=9)&&decide (d.length-k<=10)):=⟨_,rfl⟩
 have M:b=true->(jz s).natAbs<1000000000/\ie s<1000000000:=fun h=>by
  rw[o]at h;simp only[be,decide_eq_true_eq]at h;have v:=jb _ (bD s) rfl C;rw[hk]at v;have ad:aW (bD s)<1000000000:=eq v (ew (n:=10) (by decide) h.1);refine⟨by rw[jz];split<;>omega,?_⟩;rcases q with⟨q1,f⟩|⟨q1,f,af⟩
  ·have W:(bM s).length<=9:=by
    have:=congrArg eb f;simp at this;omega
   have X:=jb _ (bM s) rfl J;rw[ie,if_pos q1];exact eq X (ew (n:=10) (by decide) W)
  ·rw[ie,q1,if_neg (by decide)];decide
 refine⟨if b=true then jz s else 0,if b=true then(ie s:Nat)else 0,b,?_,fun h=>⟨if_pos h,if_pos h,by rw[if_pos h];exact(M h).1,(M h).2⟩⟩;refine aM nf Dj mix (by simp[f98]) ?_;simp[f98,-br];rw[br];simp[-br];rw[br];simp[-br];rw[br,br];simp[m,-br];refine join (fun st=>aN st.env 5=.p (.str s)/\aN st.env 6=.p (.bool neg)/\st.heap=[]) ?_ ?_
 ·clear K m;cases s with
  |nil=>simp[<-g,bZ]
  |cons c r=>
   by_cases hc:c=45
   ·simp[<-g,bZ,hc]
   ·have aa:¬(c:Int)=45:=by omega
    simp[<-g,bZ,hc,aa]
 rintro⟨U,ab⟩ ⟨e,a,u⟩;dsimp only at e a u;subst u;refine join (fun st=>aN st.env 5=.p (.str d)/\aN st.env 6=.p (.bool neg)/\st.heap=[]) ?_ ?_
 ·cases t:neg with
  |false=>
   have F:s=d:=by rw[<-l,cS,g,t];rfl
   simp[e,a,t,F]
  |true=>
   clear i q hk N A P K m o;cases s with
   |nil=>simp[bZ]at g;rw[t]at g;cases g
   |cons c r=>
    have F:r=d:=by rw[<-l,cS,g,t];rfl
    simp[e,a,t,F]
 clear e a;rintro⟨U,ab⟩ ⟨e,a,u⟩;dsimp only at e a u;subst u;have ah:bl.wrap ((k:Int)+1)=(k:Int)+1:=aI _ (by omega) (by omega);have G:bl.wrap ((d.length:Int)-k)=(d.length:Int)-k:=aI _ (by omega) (by omega);have ag:((k:Int)+1).toNat=k+1:=by omega
 have ae:jz s=if neg=true then -(aW (bD s):Int)else aW (bD s):=by rw[jz,g]
 rw[ae];rcases fK 9 k with D|D
 ·have Y:¬k<=9:=by omega
  have j:(9:Int)<k:=by omega
  have E:b=false:=by rw[o];simp[Y]
  simp[e,a];refine c1 i ?_;simp[e,a,j,E]
 rcases fK 10 (d.length-k)with I|I
 ·have V:¬d.length-k<=10:=by omega
  have j:¬(9:Int)<k:=by omega
  have x:(10:Int)<(d.length:Int)-k:=by omega
  have E:b=false:=by rw[o];simp[V]
  simp[e,a];refine c1 i ?_;simp[e,a,j,x,G,E]
 have j:¬(9:Int)<k:=by omega
 have x:¬(10:Int)<(d.length:Int)-k:=by omega
 have y:b=true:=by rw[o];simp[D,I]
 have R:d.take k=bD s:=by
  rcases q with⟨_,f⟩|⟨_,f,_⟩
  ·rw[f,<-hk];simp
  ·rw[<-f,<-hk];simp
 have L:=xT (bD s) C (by omega);have v:=jb _ (bD s) rfl C;rw[hk]at v;have ad:aW (bD s)<1000000000:=eq v (ew (n:=10) (by decide) D);rcases q with⟨q1,f⟩|⟨q1,f,af⟩
 ·have z:k<d.length:=by rw[f];simp;omega
  have O:d.drop (k+1)=bM s:=by
   conv=>lhs;rw[f,<-hk]
   simp
  have aj:(bM s).length<=9:=by rw[<-O,ea];omega
  have Z:=xT (bM s) J (by omega);have B:ie s=aW (bM s):=by rw[ie,if_pos q1]
  rw[B];generalize aW (bM s)=al at*;generalize aW (bD s)=w at*;have H:bl.wrap (-(w:Int))= -(w:Int):=aI _ (by omega) (by omega);clear f;simp[e,a];refine c1 i ?_;have S:(0:Int)<=k+1:=by omega
  have ac:k+1<=d.length:=z;have T:(k:Int)+1<=d.length:=by omega
  simp[e,a,j,x,G,y,Q,R];refine c1 L ?_;cases neg<;>
  ·simp[e,a,z,ac,ah,ag,O,S,T];refine c1 Z ?_;simp[a,H,y]
 ·have z:¬k<d.length:=by rw[<-f,hk];omega
  have B:ie s=1:=by rw[ie,q1];rfl
  rw[B];generalize aW (bD s)=w at*;have H:bl.wrap (-(w:Int))= -(w:Int):=aI _ (by omega) (by omega);simp[e,a];refine c1 i ?_;simp[e,a,j,x,G,y,Q,R];refine c1 L ?_;cases neg<;>simp[e,a,z,H,y]
theorem AR{n k:Nat}(h:n<2^k):(aq bT n).length<=k/29+1:=by
 refine dJ aZ _ _ (eq h ?_);have a:2^29<=bT:=by decide
 refine eo ?_ (Nat.pow_le_pow_left a _);rw[<-gm];exact ew (by decide) (by omega)
theorem KM(q:Rat):jz (bC q)=q.num:=by
 obtain⟨a,b,_,_⟩:=uq q;rw[jz,a,b,xC]
 by_cases h:q.num<0
 ·rw[if_pos (by simpa using h)];omega
 ·rw[if_neg (by simpa using h)];omega
theorem K6(q:Rat):ie (bC q)=q.den:=by
 obtain⟨_,_,a,b⟩:=uq q;rw[ie,a,b]
 by_cases h:q.den=1
 ·rw[if_neg (by simpa using h),h]
 ·rw[if_pos (by simpa using h),if_neg h,xC]
theorem zz(q:Rat):(bD (bC q)).all cm=true/\(bM (bC q)).all cm=true:=by
 obtain⟨_,a,_,b⟩:=uq q;refine⟨by rw[a];exact u9 _,?_⟩;rw[b];split
 ·rfl
 ·exact u9 _
theorem wX{q:Rat}(h:bL kB q):(bC q).length<=1000000:=by
 have a:(bt q.num.natAbs).length<=33334:=vt (K:=kB) (k:=33334) h.1 (by decide) (by decide);have b:(bt q.den).length<=33334:=vt (K:=kB) (k:=33334) h.2 (by decide) (by decide);have:=aDH q;omega
theorem xI(q:Rat)(h:bL kB q):∃(n d:Int)(b:Bool),az prog 98 [.str (bC q)] (.aD [.int .i64 n,.int .i64 d,.bool b])/\(b=true->n=q.num/\d=(q.den:Nat)/\n.natAbs<1000000000/\q.den<1000000000):=by
 have:=Xo (bC q) (zz q).1 (zz q).2 (wX h)
 rwa [KM,K6]at this
theorem xf(q:Rat)(h:bL kB q):az prog 96 [.str (bC q)] (.aD [eG q.num,eG (q.den:Nat)]):=by
 have:=JS (bC q) (zz q).1 (zz q).2 (wX h)
 rwa [KM,K6]at this
theorem Yh(a b:Rat):my (a.num*b.den+b.num*a.den) (a.den*b.den)=a+b:=by
 rw[Rat.add_def'];rfl
theorem Yi(a b:Rat):my (a.num*b.num) (a.den*b.den)=a*b:=by
 rw[Rat.mul_def,Rat.normalize_eq_mkRat];rfl
theorem MM(a b:Rat):((a.den:Nat):Int)*(b.den:Nat)≠0:=by
 have c:=a.den_pos;have d:=b.den_pos;exact Int.ne_of_gt (Int.mul_pos (by omega) (by omega))
theorem vh{x y:Int}(hx:x.natAbs<1000000000)(a:y.natAbs<1000000000):(x*y).natAbs<=999999998000000001:=by
 rw[b3];exact Nat.mul_le_mul (show x.natAbs<=999999999 by omega) (show y.natAbs<=999999999 by omega)
theorem uh{x y:Int}(hx:x.natAbs<2^kB)(a:y.natAbs<2^kB):(aq bT (x*y).natAbs).length<=10000:=by
 have h:=AR (n:=(x*y).natAbs) (k:=kB+kB) (by rw[b3,gt];exact gb hx a);exact eo h (by decide)
theorem l6{x:Nat}(hx:x<2^kB):(aq bT x).length<=10000:=eo (AR hx) (by decide)
theorem y0(a b:Rat)(h:bL kB a)(i:bL kB b):az prog 27 [.str (bC a),.str (bC b)] (.str (bC (a+b))):=by
 obtain⟨n,d,p,A,E⟩:=xI a h;obtain⟨m,e,r,B,F⟩:=xI b i;have t:=xf a h;have u:=xf b i;refine aM nf N9 mix (by simp[f27]) ?_;rw[<-Yh];have z:=MM a b
 by_cases j:p=true/\r=true
 ·obtain⟨rfl,rfl,k1,k2⟩:=E j.1;obtain⟨rfl,rfl,k3,k4⟩:=F j.2;have O:=vh k1 (show((b.den:Nat):Int).natAbs<1000000000 by rw[bo];exact k4);have P:=vh k3 (show((a.den:Nat):Int).natAbs<1000000000 by rw[bo];exact k2);have Q:=vh (show((a.den:Nat):Int).natAbs<1000000000 by rw[bo];exact k2) (show((b.den:Nat):Int).natAbs<1000000000 by rw[bo];exact k4);have C:=Nh (a.num*b.den+b.num*a.den) (a.den*b.den) z (by omega) (by omega);have H:bl.wrap (a.num*(b.den:Nat))=a.num*(b.den:Nat):=aI _ (by omega) (by omega);have I:bl.wrap (b.num*(a.den:Nat))=b.num*(a.den:Nat):=aI _ (by omega) (by omega);have J:bl.wrap (a.num*(b.den:Nat)+b.num*(a.den:Nat))=a.num*(b.den:Nat)+b.num*(a.den:Nat):=aI _ (by omega) (by omega);have K:bl.wrap (((a.den:Nat):Int)*(b.den:Nat))=((a.den:Nat):Int)*(b.den:Nat):=aI _ (by omega) (by omega);have g:p=true:=j.1;have q:r=true:=j.2;simp[f27];refine c1 A ?_;simp;refine c1 B ?_;simp[g,q,H,I,J,K];refine c2 C ?_;simp
 ·have l:a.num.natAbs<2^kB:=h.1;have o:b.num.natAbs<2^kB:=i.1;have c:((a.den:Nat):Int).natAbs<2^kB:=by rw[bo];exact h.2
  have f:((b.den:Nat):Int).natAbs<2^kB:=by rw[bo];exact i.2
  have w:=uK a.num (b.den:Nat) (by have:=l6 l;have:=l6 f;omega);have x:=uK b.num (a.den:Nat) (by have:=l6 o;have:=l6 c;omega);have y:=uK (a.den:Nat) (b.den:Nat) (by have:=l6 c;have:=l6 f;omega);have L:=uh l f;have M:=uh o c;have N:=uh c f;have v:=Xn (a.num*(b.den:Nat)) (b.num*(a.den:Nat)) (by omega) (by omega);have G:(aq bT (a.num*(b.den:Nat)+b.num*(a.den:Nat)).natAbs).length<=400000:=by
   refine eo (AR (k:=kB+kB+1) ?_) (by decide);have q1:(a.num*(b.den:Nat)).natAbs<2^(kB+kB):=by rw[b3,gt];exact gb l f
   have R:(b.num*(a.den:Nat)).natAbs<2^(kB+kB):=by rw[b3,gt];exact gb o c
   rw[fv];omega
  have s:=GF (a.num*(b.den:Nat)+b.num*(a.den:Nat)) ((a.den:Nat)*(b.den:Nat)) z G (by omega);simp[f27];refine c1 A ?_;simp;refine c1 B ?_;have D:(p=false)\/(p=true/\r=false):=by cases p<;>cases r<;>simp_all
  rcases D with g|⟨g,q⟩
  ·simp[g];refine c1 t ?_;simp[ad];refine c1 u ?_;simp[ad];refine e2 w ?_;simp[ad];refine e2 x ?_;simp[ad];refine e2 v ?_;simp[ad];refine e2 y ?_;simp[ad];refine e2 s ?_;simp
  ·simp[g,q];refine c1 t ?_;simp[ad];refine c1 u ?_;simp[ad];refine e2 w ?_;simp[ad];refine e2 x ?_;simp[ad];refine e2 v ?_;simp[ad];refine e2 y ?_;simp[ad];refine e2 s ?_;simp
theorem ye(a b:Rat)(f:bL kB a)(g:bL kB b):az prog 110 [.str (bC a),.str (bC b)] (.str (bC (a*b))):=by
 obtain⟨n,d,p,x,B⟩:=xI a f;obtain⟨m,e,r,y,C⟩:=xI b g;have s:=xf a f;have t:=xf b g;refine aM nf EP mix (by simp[f110]) ?_;rw[<-Yi];have w:=MM a b
 by_cases h:p=true/\r=true
 ·obtain⟨rfl,rfl,k1,k2⟩:=B h.1;obtain⟨rfl,rfl,k3,k4⟩:=C h.2;have H:=vh k1 k3;have I:=vh (show((a.den:Nat):Int).natAbs<1000000000 by rw[bo];exact k2) (show((b.den:Nat):Int).natAbs<1000000000 by rw[bo];exact k4);have z:=Nh (a.num*b.num) (a.den*b.den) w (by omega) (by omega);have D:bl.wrap (a.num*b.num)=a.num*b.num:=aI _ (by omega) (by omega);have E:bl.wrap (((a.den:Nat):Int)*(b.den:Nat))=((a.den:Nat):Int)*(b.den:Nat):=aI _ (by omega) (by omega);have c:p=true:=h.1;have i:r=true:=h.2;simp[f110];refine c1 x ?_;simp;refine c1 y ?_;simp[c,i,D,E];refine c2 z ?_;simp
 ·have j:a.num.natAbs<2^kB:=f.1;have l:b.num.natAbs<2^kB:=g.1;have k:((a.den:Nat):Int).natAbs<2^kB:=by rw[bo];exact f.2
  have o:((b.den:Nat):Int).natAbs<2^kB:=by rw[bo];exact g.2
  have u:=uK a.num b.num (by have:=l6 j;have:=l6 l;omega);have v:=uK (a.den:Nat) (b.den:Nat) (by have:=l6 k;have:=l6 o;omega);have F:=uh j l;have G:=uh k o;have q:=GF (a.num*b.num) ((a.den:Nat)*(b.den:Nat)) w (by omega) (by omega);simp[f110];refine c1 x ?_;simp;refine c1 y ?_;have A:(p=false)\/(p=true/\r=false):=by cases p<;>cases r<;>simp_all
  rcases A with c|⟨c,i⟩
  ·simp[c];refine c1 s ?_;simp[ad];refine c1 t ?_;simp[ad];refine e2 u ?_;simp[ad];refine e2 v ?_;simp[ad];refine e2 q ?_;simp
  ·simp[c,i];refine c1 s ?_;simp[ad];refine c1 t ?_;simp[ad];refine e2 u ?_;simp[ad];refine e2 v ?_;simp[ad];refine e2 q ?_;simp
theorem az8{a:Rat}(h:a≠0):a.num≠0:=fun e=>h (Rat.num_eq_zero.1 e)
theorem W8(s:List Nat)(g:s.length<=1048576):az prog 26 [.str s] (.int .i64 (if s=[48]then 0 else if bZ s=true then -1 else 1)):=by
 refine aM nf N8 mix (by simp[f26]) ?_
 by_cases b:s=[48]
 ·simp[f26,b]
 ·cases s with
  |nil=>simp[f26,bZ]
  |cons c r=>
   by_cases hc:c=45
   ·simp[f26,bZ,hc]
   ·have e:¬(c:Int)=45:=by omega
    have d:¬(c=48/\r=[]):=fun h=>b (by rw[h.1,h.2])
    by_cases a:c=48
    ·have f:¬r=[]:=fun h=>d ⟨a,h⟩;simp[f26,bZ,a,f]
    ·simp[f26,bZ,hc,e,a]
theorem xp(q:Rat):q.num<0↔q<0:=by
 have h:=Cv q
 by_cases b:q<0
 ·rw[if_pos b]at h;refine⟨fun _=>b,fun _=>?_⟩
  by_cases a:q.num<0
  ·exact a
  ·rw[if_neg a]at h;split at h<;>omega
 ·refine⟨fun a=>?_,fun a=>(b a).elim⟩;rw[if_neg b,if_pos a]at h
  split at h<;>omega
def gO(q:Rat):Int:=if q<0 then -1 else if q=0 then 0 else 1
theorem aDO:bC 0=[48]:=by
 have h:cR 0=[48]:=by rw[show(0:Int)=((0:Nat):Int)from rfl,tZ,pF]
 rw[bC,if_pos (show(0:Rat).den=1 from rfl)];exact h
theorem Ro(q:Rat):bC q=[48]↔q=0:=by
 rw[<-aDO];exact⟨fun h=>aDE h,fun h=>by rw[h]⟩
theorem aCv(q:Rat):(if bC q=[48]then(0:Int)else if bZ (bC q)=true then -1 else 1)=gO q:=by
 have e:=(uq q).1;have c:=Ro q;have d:q<0↔q.num<0:=(xp q).symm;rw[e,gO]
 by_cases b:q=0
 ·subst b;rw[if_pos (c.2 rfl),if_neg (by decide),if_pos rfl]
 ·rw[if_neg (fun h=>b (c.1 h))]
  by_cases a:q<0
  ·rw[if_pos (by simpa using d.1 a),if_pos a]
  ·rw[if_neg (by simpa using fun h=>a (d.2 h)),if_neg a,if_neg b]
theorem xV(q:Rat)(h:bL kB q):az prog 26 [.str (bC q)] (.int .i64 (gO q)):=by
 have:=W8 (bC q) (by have:=wX h;omega)
 rwa [aCv]at this
theorem LC{q:Rat}(h:q<0):bC q=45::bC (-q):=by
 have a:q.num<0:=(xp q).2 h;have e1:cR q.num=45::bt q.num.natAbs:=by rw[cR,if_pos a]
 have e2:cR (-q).num=bt q.num.natAbs:=by rw[hm,cR,if_neg (by omega),cb]
 rw[bC,bC,Rat.neg_den,e1,e2]
 split<;>rfl
theorem CP(q:Rat)(h:bL kB q):az prog 143 [.str (bC q)] (.str (bC (-q))):=by
 have a:=xV q h;have f:=wX h;refine aM nf FY mix (by simp[f143]) ?_
 by_cases b:q<0
 ·have hs:gO q= -1:=by rw[gO,if_pos b]
  rw[hs]at a;have c:=LC b;rw[c]at a f⊢;simp[f143];refine c1 a ?_;simp
 ·by_cases d:q=0
  ·have hs:gO q=0:=by rw[gO,if_neg b,if_pos d]
   rw[hs]at a;have hq:-q=q:=by rw[d];rfl
   rw[hq];simp[f143];refine c1 a ?_;simp;refine c1 a ?_;simp
  ·have hs:gO q=1:=by rw[gO,if_neg b,if_neg d]
   rw[hs]at a;have e:-q<0:=by
    rw[<-xp,hm];have g:¬q.num<0:=fun h=>b ((xp q).1 h);have i:=az8 d;omega
   have c:=LC e;rw[Rat.neg_neg]at c;rw[c];have j:(bC q).length+1<9223372036854775808:=by omega
   simp[f143];refine c1 a ?_;simp;refine c1 a ?_;simp;omega
theorem sJ(a b:Rat)(f:bL kB a)(d:bL kB b):az prog 111 [.str (bC a),.str (bC b)] (.str (bC (a-b))):=by
 have e:=CP b d;have c:=y0 a (-b) f (sx d);rw[<-Rat.sub_eq_add_neg]at c;refine aM nf EO mix (by simp[f111]) ?_;simp[f111];refine c1 e ?_;simp;refine c2 c ?_;simp
theorem aCu(a b:Rat):gO (a-b)=eM a b:=by
 have d:a-b<0↔a<b:=by
  rw[<-hn,<-hn,<-Rat.le_iff_sub_nonneg]
 have e:a-b=0↔a=b:=by
  constructor
  ·intro h;have f:a-b+b=0+b:=by rw[h]
   rwa [g6,g8]at f
  ·rintro rfl;exact hl
 rw[gO,eM]
 by_cases h:a<b
 ·rw[if_pos (d.2 h),if_pos h]
 ·rw[if_neg (fun x=>h (d.1 x)),if_neg h]
  by_cases c:a=b
  ·rw[if_pos (e.2 c),if_pos c]
  ·rw[if_neg (fun x=>c (e.1 x)),if_neg c]
theorem tH(a b:Rat)(d:bL (kB/3) a)(e:bL (kB/3) b):az prog 134 [.str (bC a),.str (bC b)] (.int .i64 (eM a b)):=by
 have f:=sJ a b (d.mono (by decide)) (e.mono (by decide));have c:=xV (a-b) ((tX d e).mono (by decide));rw[aCu]at c;refine aM nf Fx mix (by simp[f134]) ?_;simp[f134];refine c2 f ?_;simp;refine c1 c ?_;simp
theorem Na{a b:Nat}(h:a<=b):10^a<=10^b:=ew (by decide) h
theorem y5{s:List Nat}{k:Nat}(h:s.length<=k)(a:s.all cm=true):aW s<10^k:=eq (jb _ s rfl a) (Na h)
theorem aAr{x a b:Nat}(hx:x<10^a)(h:a<=9*b):(aq bT x).length<=b:=dJ aZ b x (eq hx (by
 rw[show bT^b=10^(9*b)by rw[gm];rfl];exact Na h))
theorem Ws(s:List Nat)(D:s.length<=1048576):az prog 193 [.str s] (.bool (s.all cm)):=by
 refine aM nf Ey mix (by simp[f193]) ?_;obtain⟨k,hk,n,o⟩:=Bb (fun j=>cm (s[j]?.getD 0)) s.length;have e:∀j(h:j<s.length),s[j]?.getD 0=s[j]:=fun j h=>by rw[db h];rfl
 have B:s.all cm=decide (k=s.length):=by
  rcases o with h|⟨a,b⟩
  ·rw[h,decide_eq_true rfl,dg];intro x hx;obtain⟨j,A,rfl⟩:=List.getElem_of_mem hx;have:=n j (by omega)
   rwa [e j A]at this
  ·rw[decide_eq_false (by omega)];rw[e k a]at b
   by_cases m:s.all cm=true
   ·have:=dg.1 m _ (dp a);rw[this]at b;cases b
   ·simpa using m
 rw[B];simp[f193];refine lp (α:=Nat) (fun i=>⟨[(3,.p (.int .i64 i)),(0,.p (.str s))],[]⟩)
  (fun i=>i<=k) (fun i=>k-i) 0 (fl _) ?_
 intro i hi;have C:bl.wrap ((i:Int)+1)=(i:Int)+1:=aI _ (by omega) (by omega)
 by_cases y:i<k
 ·have l:i<s.length:=by omega
  have q:=n i y;rw[e i l]at q;have E:=yb q;generalize d:s[i]=c at*;have f:s[i]?=some c:=by rw[db l,d]
  have a:¬(c:Int)<48:=by omega
  have b:¬(57:Int)<c:=by omega
  have t:¬c<48:=by omega
  have u:¬57<c:=by omega
  simp[l,d,f,a,b,t,u,C];exact rd (i+1) (show i+1<=k by omega)
 ·have z:i=k:=by omega
  subst z;rcases o with h|⟨a,b⟩
  ·simp[h]
  ·rw[e i a]at b;have r:¬i=s.length:=by omega
   generalize d:s[i]=c at*;have f:s[i]?=some c:=by rw[db a,d]
   by_cases hc:c<48
   ·have g:(c:Int)<48:=by omega
    simp[a,d,f,hc,g,r]
   ·have v:57<c:=by
     simp only[cm,Bool.and_eq_false_iff,decide_eq_false_iff_not]at b;omega
    have g:¬(c:Int)<48:=by omega
    have w:(57:Int)<c:=by omega
    simp[a,d,f,hc,g,v,w,r]
theorem II(s:List Nat)(j:s.length<=1048576):az prog 95 [.str s] (.bool (dE s)):=by
 have b:=Ws s j;refine aM nf OU mix (by simp[f95]) ?_;cases s with
 |nil=>simp[f95,dE]
 |cons c r=>
  have k:(c:Int)=48↔c=48:=by omega
  by_cases a:r=[]
  ·subst a;have e:dE [c]=[c].all cm:=by
    rw[dE]
    by_cases h:c=48
    ·subst h;rfl
    ·simp[h]
   rw[e];simp[f95];refine c1 b ?_;simp
  ·have d:0<r.length:=dz.2 a;have f:¬(r.length:Int)+1=0:=by omega
   have g:(1:Int)<r.length+1:=by omega
   by_cases hc:c=48
   ·have e:dE (c::r)=false:=by rw[dE,hc];simp[a]
    rw[e];simp[f95,a,hc,d,f,g]
   ·have i:¬(c:Int)=48:=by omega
    have e:dE (c::r)=(c::r).all cm:=by rw[dE];simp[hc]
    rw[e];simp[f95,a,hc,i,d,f,g];refine c1 b ?_;simp
theorem yr(s:List Nat)(hs:gN s):az prog 25 [.str s] (.int .i64 (bX s)):=by
 refine aM nf N7 mix (by simp[f25]) ?_;obtain⟨a0,aO⟩:=hs;obtain⟨d,S⟩:∃d,cS s=d:=⟨_,rfl⟩
 obtain⟨neg,A⟩:∃neg,bZ s=neg:=⟨_,rfl⟩
 have aS:d.length<=s.length:=by rw[<-S];exact(oc s).1
 have T:=A5 d (by omega);have Y:(b8 47 d).1=bD s:=by rw[<-S];rfl
 have W:(b8 47 d).2.1=bM s:=by rw[<-S];rfl
 have ah:(b8 47 d).2.2=dR s:=by rw[<-S];rfl
 have z:=oG 47 d;have F:=ou 47 d;rw[Y,W,ah]at z;rw[Y]at T F;rw[W]at F;obtain⟨k,hk⟩:∃k,(bD s).length=k:=⟨_,rfl⟩
 rw[hk]at T;have J:k<=d.length:=by rw[<-hk];exact F.1
 have aw:d.take k=bD s:=by
  rcases z with⟨_,G⟩|⟨_,G,_⟩
  ·rw[G,<-hk];simp
  ·rw[<-G,<-hk];simp
 have M:=II (bD s) (by omega);have l:=II (bM s) (by omega);simp[f25,-br];rw[br];simp[-br];rw[br];simp[-br];refine join (fun st=>aN st.env 0=.p (.str s)/\aN st.env 3=.p (.str d)/\st.heap=[]) ?_ ?_
 ·cases aj:neg with
  |false=>
   have av:s=d:=by rw[<-S,cS,A,aj];rfl
   clear T z hk W Y ah aw M l F J;subst av;cases s with
   |nil=>simp
   |cons c r=>
    rw[aj]at A;have hc:¬c=45:=fun h=>by rw[h]at A;simp[bZ]at A
    have an:¬(c:Int)=45:=by omega
    simp[hc,an]
  |true=>
   clear T z hk W Y ah aw M l F J;cases s with
   |nil=>simp[bZ]at A;rw[aj]at A;cases A
   |cons c r=>
    have av:r=d:=by rw[<-S,cS,A,aj];rfl
    rw[aj]at A;have hc:c=45:=by simpa[bZ]using A
    simp[hc,av]
 rintro⟨aH,aV⟩ ⟨w,e,ak⟩;dsimp only at w e ak;subst ak;have ag:kH s=(dE (bD s)&&!(neg&&decide (bD s=[48]))&&(!dR s||(dE (bM s)&&decide (bM s≠[48])&&decide (bM s≠[49])))):=by rw[kH,A]
 have a8:d.length<=1048576:=by omega
 have V:(bD s).all cm=true->(bM s).all cm=true->dR s=true->0<k->d.length<=1000000->az prog 96 [.str d] (.aD [eG (aW (bD s):Nat),eG (aW (bM s):Nat)]):=fun y O ax aD a1=>by
  have al:bZ d=false/\cS d=d:=by
   have aG:bZ d=false:=by
    rcases z with⟨_,G⟩|⟨q1,_⟩
    ·cases X:bD s with
     |nil=>rw[X]at hk;simp at hk;omega
     |cons c r=>
      rw[X]at G y;have:=yb (dg.1 y c (by simp));rw[G,bZ];simp;omega
    ·rw[ax]at q1;cases q1
   exact⟨aG,by rw[cS,aG];rfl⟩
  have e1:bD d=bD s:=by rw[bD,al.2,Y]
  have e2:bM d=bM s:=by rw[bM,al.2,W]
  have e3:dR d=true:=by rw[dR,al.2,ah];exact ax
  have:=JS d (by rw[e1];exact y) (by rw[e2];exact O) a1;rw[jz,ie,e1,e2,al.1,if_pos e3]at this;exact this
 rw[bX];generalize kH s=N at*;generalize bD s=v at*;generalize bM s=f at*;generalize dR s=fr at*;have U:dq k d=v:=aw
 by_cases K:dE v=true
 ·have aD:0<k:=by
   rw[<-hk,dz];intro h;rw[h]at K;cases K
  obtain⟨c,r,hs⟩:∃c r,s=c::r:=by
   cases s with
   |nil=>
    have:d.length<=0:=by simpa using aS
    omega
   |cons c r=>exact⟨c,r,rfl⟩
  have ao:c=45↔neg=true:=by rw[<-A,hs];simp[bZ]
  have an:(c:Int)=45↔c=45:=by omega
  rw[K]at M;clear aO a0 S A Y W ah
  by_cases P:neg=true/\v=[48]
  ·have hf:N=false:=by rw[ag,P.1,P.2];simp
   have aR:=ao.2 P.1;rw[if_pos hf];clear z F l V ao an;subst hs aR;have X:=P.2;simp[w,e];refine c1 T ?_;simp[w,e,J,U];refine c1 M ?_;simp[w,e,J,U,X]
  ·subst hs;rw[br];simp[w,e,-br];refine c1 T ?_;simp[w,e,-br];refine join (fun st=>aN st.env 3=.p (.str d)/\aN st.env 4=.p (.int .i64 k)/\st.heap=[]) ?_ ?_
   ·by_cases y:c=45
    ·have X:¬v=[48]:=fun h=>P ⟨ao.1 y,h⟩;subst y;clear z F l V;simp[w,e,J,U];refine c1 M ?_;simp[w,e,J,U,X]
    ·have aJ:¬(c:Int)=45:=by omega
     clear z F l V;simp[w,e,J,U];refine c1 M ?_;simp[w,e,J,U,y,aJ]
   clear w e;rintro⟨aH,aV⟩ ⟨e,j,ak⟩;dsimp only at e j ak;subst ak;cases ai:fr with
   |false=>
    have i:k=d.length:=by
     rcases z with⟨q1,_⟩|⟨_,G,_⟩
     ·rw[ai]at q1;cases q1
     ·rw[<-hk,G]
    have aE:¬k<d.length:=by omega
    have aT:f=[]:=by
     rcases z with⟨q1,_⟩|⟨_,_,a5⟩
     ·rw[ai]at q1;cases q1
     ·exact a5
    have hf:N=true:=by
     rw[ag,K,ai];simp
     by_cases y:neg=true
     ·exact .inr fun O=>P ⟨y,O⟩
     ·exact .inl (by simpa using y)
    have Z:bl.wrap ((d.length:Int)-k)=0:=by rw[i,Int.sub_self];rfl
    have aa:bl.wrap (-1)= -1:=rfl;rw[hf,hk,aT];clear z F l V
    by_cases I:600<k
    ·have B:¬(k:Int)<=600:=by omega
     have C:¬k<=600:=by omega
     have D:(600:Int)<k:=by omega
     simp[e,j,aE,I,B,C,D]
    ·have B:(k:Int)<=600:=by omega
     have C:k<=600:=by omega
     have D:¬(600:Int)<k:=by omega
     simp[e,j,aE,I,B,C,D,Z,aa]
   |true=>
    rw[ai]at ag V;have au:d=v++47::f:=by
     rcases z with⟨_,G⟩|⟨q1,_⟩
     ·exact G
     ·rw[ai]at q1;cases q1
    have i:k<d.length:=by rw[au];simp;omega
    have q:d.drop (k+1)=f:=by
     conv=>lhs;rw[au,<-hk]
     simp
    have a9:d.length=k+1+f.length:=by rw[au];simp;omega
    have u:bl.wrap ((k:Int)+1)=(k:Int)+1:=aI _ (by omega) (by omega);have t:((k:Int)+1).toNat=k+1:=by omega
    have m:(0:Int)<=k+1:=by omega
    have n:(k:Int)+1<=d.length:=by omega
    have o:k+1<=d.length:=i;clear z F;have af:N=(dE f&&decide (f≠[48])&&decide (f≠[49])):=by
     rw[ag,K];have:(neg&&decide (v=[48]))=false:=by
      by_cases y:neg=true
      ·have:¬v=[48]:=fun O=>P ⟨y,O⟩;simp[this]
      ·have:neg=false:=by simpa using y
       rw[this];rfl
     rw[this];simp
    by_cases ap:N=true
    ·rw[ap]at af;have aX:¬N=false:=by rw[ap];decide
     rw[if_neg aX];have aL:dE f=true/\¬f=[48]/\¬f=[49]:=by
      have:=af.symm;simp only[be,decide_eq_true_eq]at this;exact⟨this.1.1,this.1.2,this.2⟩
     obtain⟨L,H,E⟩:=aL;rw[L]at l;rw[hk];have Z:bl.wrap ((d.length:Int)-k)=(d.length:Int)-k:=aI _ (by omega) (by omega);have aa:bl.wrap ((d.length:Int)-k-1)=f.length:=by rw[aI _ (by omega) (by omega)];omega
     by_cases I:600<k
     ·have B:¬(k:Int)<=600:=by omega
      have C:¬k<=600:=by omega
      have D:(600:Int)<k:=by omega
      simp[e,j,i,u,t,m,n,o,q];refine c1 l ?_;simp[e,j,i,u,t,m,n,o,q,H,E,I,B,C,D]
     by_cases ab:600<f.length
     ·have B:(k:Int)<=600:=by omega
      have C:k<=600:=by omega
      have D:¬(600:Int)<k:=by omega
      have ac:(600:Int)<f.length:=by omega
      simp[e,j,i,u,t,m,n,o,q];refine c1 l ?_;simp[e,j,i,u,t,m,n,o,q,H,E,I,B,C,D,Z,aa,ab,ac]
     have B:(k:Int)<=600:=by omega
     have C:k<=600:=by omega
     have D:¬(600:Int)<k:=by omega
     have ac:¬(600:Int)<f.length:=by omega
     have R:=V (iS K) (iS L) rfl aD (by omega);have aU:=xD L H;have a3:v.length<=700:=by omega
     have a4:f.length<=700:=by omega
     have aP:aW v<10^700:=y5 (s:=v) (k:=700) a3 (iS K);have aQ:aW f<10^700:=y5 (s:=f) (k:=700) a4 (iS L);have aF:∀x:Nat,x<10^700->(aq bT x).length<=400000:=fun x hx=>eo (aAr (a:=700) (b:=78) hx (by decide)) (by decide);have Q:=Jw (aW v) (aW f) (aF _ aP) (aF _ aQ);have aB:0<e8 (aW v) (aW f):=e6 _ aU;generalize aW v=a7 at*;generalize aW f=a6 at*;obtain⟨g,am⟩:∃g,e8 a7 a6=g:=⟨_,rfl⟩
     simp only[am]at Q aB⊢;have a2:¬(600<k\/600<f.length):=fun h=>by rcases h with h|h;exact I h;exact ab h
     rw[if_neg a2];simp only[eG,bo]at R
     by_cases ar:g=1
     ·subst ar;have ae:aq bT 1=[1]:=mX (by decide) (by decide);simp only[eT,ae]at Q R;simp[e,j,i,u,t,m,n,o,q];refine c1 l ?_;simp[e,j,i,u,t,m,n,o,q,H,E,I,B,C,D,Z,aa,ab,ac];refine c1 R ?_;simp[ad];refine c2 Q ?_;simp[am]
     ·by_cases aC:g<bT
      ·have ae:aq bT g=[g]:=mX aB aC;have aY:¬(g:Int)=1:=by omega
       simp only[eT,ae]at Q R;simp[e,j,i,u,t,m,n,o,q];refine c1 l ?_;simp[e,j,i,u,t,m,n,o,q,H,E,I,B,C,D,Z,aa,ab,ac];refine c1 R ?_;simp[ad];refine c2 Q ?_;simp[ar,aY,am]
      ·have ae:¬((aq bT g).length:Int)=1:=by
        intro h;have O:(aq bT g).length=1:=by omega
        have:=cj aZ g;rw[O,g2]at this;exact aC this
       simp only[eT]at Q R;simp[e,j,i,u,t,m,n,o,q];refine c1 l ?_;simp[e,j,i,u,t,m,n,o,q,H,E,I,B,C,D,Z,aa,ab,ac];refine c1 R ?_;simp[ad];refine c2 Q ?_;simp[ar,ae,am]
    ·have aA:N=false:=by simpa using ap
     rw[if_pos aA]
     by_cases L:dE f=true
     ·rw[L]at l
      by_cases H:f=[48]
      ·simp[e,j,i,u,t,m,n,o,q];refine c1 l ?_;simp[e,j,i,u,t,m,n,o,q,H]
      ·have E:f=[49]:=by
        rw[L]at af
        by_cases E:f=[49]
        ·exact E
        ·rw[aA]at af;simp[H,E]at af
       simp[e,j,i,u,t,m,n,o,q];refine c1 l ?_;simp[e,j,i,u,t,m,n,o,q,E]
     ·have aK:dE f=false:=by simpa using L
      rw[aK]at l;simp[e,j,i,u,t,m,n,o,q];refine c1 l ?_;simp[e,j,i,u,t,m,n,o,q]
 ·have ay:dE v=false:=by simpa using K
  have hf:N=false:=by rw[ag,ay];rfl
  rw[if_pos hf];rw[ay]at M;simp[w,e];refine c1 T ?_;simp[w,e,J,U];refine c1 M ?_;simp[w,e]
theorem S5(l:List (List Nat))(f:l.length<=1000000)(hs:∀s∈l,gN s):az prog 103 [.seq (l.map .str)] (.int .i64 (bG (l.map bX))):=by
 refine aM nf En mix (by simp[f103]) ?_;simp[f103];refine lp (α:=Nat) (fun i=>⟨[(3,.p (.int .i64 i)),(0,.p (.seq (l.map .str)))],[]⟩) (fun i=>i<=l.length/\bG ((l.drop i).map bX)=bG (l.map bX)) (fun i=>l.length-i) 0 (by simp) ?_;rintro i ⟨e,a⟩
 by_cases hi:i<l.length
 ·rw[List.drop_eq_getElem_cons hi]at a;have d:=bY (i:=i) (by omega);have hc:=yr l[i] (hs _ (dp hi));obtain⟨s,b⟩:∃s,l[i]=s:=⟨_,rfl⟩
  have c:l[i]?=some s:=by rw[db hi,b]
  rw[b]at hc a;simp[hi,c,b];refine c1 hc ?_
  by_cases he:bX s=0
  ·simp[bG,he]at a;simp[he,d];exact rd (i+1) ⟨hi,by simpa using a⟩
  ·simp[bG,he]at a;simp[he,<-a]
 ·have:i=l.length:=by omega
  subst this;simp[bG]at a;simp[<-a]
theorem Gp(p:gq)(a:qR p):az prog 31 [fe p] (.int .i64 (dw p)):=by
 have hc:=S5 [p.x,p.y] (by simp) (by intro s hs;simp at hs;rcases hs with rfl|rfl;exact a.1;exact a.2);refine aM nf Ob mix (by simp[f31]) ?_;simp[f31,ad];refine cp hc (by simp;exact⟨rfl,rfl⟩) ?_;simp[dw]
structure V2 where
 x:Rat
 y:Rat
def eV(v:V2):PV:=fe ⟨bC v.x,bC v.y⟩
@[simp] theorem aKc(v:V2):aL (eV v)=.agg 46:=rfl
@[simp] theorem aHf(v:V2):cB (eV v)=[.str (bC v.x),.str (bC v.y)]:=rfl
theorem sK(x y:Rat):eV ⟨x,y⟩=.st 46 [.str (bC x),.str (bC y)]:=rfl
def bN(k:Nat)(v:V2):Prop:=bL k v.x/\bL k v.y
theorem bN.mono{k l:Nat}{v:V2}(h:bN k v)(a:k<=l):bN l v:=⟨h.1.mono a,h.2.mono a⟩
def V2.sub(v w:V2):V2:=⟨v.x-w.x,v.y-w.y⟩
def V2.add(v w:V2):V2:=⟨v.x+w.x,v.y+w.y⟩
def V2.mul(v:V2)(k:Rat):V2:=⟨v.x*k,v.y*k⟩
def V2.dot(v w:V2):Rat:=v.x*w.x+v.y*w.y
def V2.gP(v w:V2):Rat:=v.x*w.y-v.y*w.x
theorem qz{k l:Nat}{v w:V2}(h:bN k v)(a:bN l w):bN (k+l+1) (v.sub w):=⟨tX h.1 a.1,tX h.2 a.2⟩
theorem aAd{k l:Nat}{v w:V2}(h:bN k v)(a:bN l w):bN (k+l+1) (v.add w):=⟨yE h.1 a.1,yE h.2 a.2⟩
theorem Gn{k l:Nat}{v w:V2}(h:bN k v)(a:bN l w):bL (k+l+(k+l)+1) (v.dot w):=yE (kA h.1 a.1) (kA h.2 a.2)
theorem P0{k l:Nat}{v w:V2}(h:bN k v)(a:bN l w):bL (k+l+(k+l)+1) (v.gP w):=tX (kA h.1 a.2) (kA h.2 a.1)
def kQ:Nat:=20000
theorem eC{q:Rat}(h:bL kQ q):bL kB q:=h.mono (by decide)
theorem CX(v w:V2)(a:bN kQ v)(b:bN kQ w):az prog 38 [eV v,eV w] (eV (v.sub w)):=by
 have c:=sJ v.x w.x (eC a.1) (eC b.1);have d:=sJ v.y w.y (eC a.2) (eC b.2);refine aM nf Oh mix (by simp[f38]) ?_;rw[V2.sub,sK];simp[f38,ad];refine e2 c ?_;simp[ad];refine e2 d ?_;simp[ad]
theorem W4(v w:V2)(a:bN kQ v)(b:bN kQ w):az prog 37 [eV v,eV w] (.str (bC (v.dot w))):=by
 have c:=ye v.x w.x (eC a.1) (eC b.1);have d:=ye v.y w.y (eC a.2) (eC b.2);have e:=y0 (v.x*w.x) (v.y*w.y) ((kA a.1 b.1).mono (by decide)) ((kA a.2 b.2).mono (by decide));refine aM nf Og mix (by simp[f37]) ?_;rw[V2.dot];simp[f37,ad];refine e2 c ?_;simp[ad];refine e2 d ?_;simp[ad];refine e2 e ?_;simp
theorem P2(v w:V2)(a:bN kQ v)(b:bN kQ w):az prog 182 [eV v,eV w] (.str (bC (v.gP w))):=by
 have c:=ye v.x w.y (eC a.1) (eC b.2);have d:=ye v.y w.x (eC a.2) (eC b.1);have e:=sJ (v.x*w.y) (v.y*w.x) ((kA a.1 b.2).mono (by decide)) ((kA a.2 b.1).mono (by decide));refine aM nf ED mix (by simp[f182]) ?_;rw[V2.gP];simp[f182,ad];refine e2 c ?_;simp[ad];refine e2 d ?_;simp[ad];refine e2 e ?_;simp
theorem Rl(v:V2)(a:bN kQ v):az prog 56 [eV v] (.str (bC (v.dot v))):=by
 refine aM nf Ot mix (by simp[f56]) ?_;simp[f56,ad];refine c2 (W4 v v a a) ?_;simp
theorem W5(v w:V2)(a:bN kQ v)(b:bN kQ w):az prog 35 [eV v,eV w] (eV (v.add w)):=by
 have c:=y0 v.x w.x (eC a.1) (eC b.1);have d:=y0 v.y w.y (eC a.2) (eC b.2);refine aM nf Oe mix (by simp[f35]) ?_;rw[V2.add,sK];simp[f35,ad];refine e2 c ?_;simp[ad];refine e2 d ?_;simp[ad]
def uj(r:Int):Rat:=((4*r*r:Int):Rat)
theorem BF{r:Int}(a:0<=r)(b:r<=1000000):0<=4*r*r/\4*r*r<=4000000000000:=by
 have c:=ck a a;have d:=Int.mul_le_mul b b a (by decide);rw[Int.mul_assoc];omega
theorem Gq{r:Int}(a:0<=r)(b:r<=1000000):bL 42 (uj r):=by
 have:=BF a b;exact Bw (by omega) (by decide)
structure S3 where
 a:Rat
 b:Rat
 d:Rat
theorem U7:prog.stoodInHeld 47=false:=by kernel_rfl
def vJ(k:Nat)(s:S3):Prop:=bL k s.a/\bL k s.b/\bL k s.d
theorem vJ.mono{k l:Nat}{s:S3}(h:vJ k s)(a:k<=l):vJ l s:=⟨h.1.mono a,h.2.1.mono a,h.2.2.mono a⟩
def S3.add(s t:S3):S3:=⟨s.a+t.a,s.b+t.b,s.d⟩
def S3.mul(s t:S3):S3:=⟨s.a*t.a+s.b*t.b*s.d,s.a*t.b+t.a*s.b,s.d⟩
def S3.times(x:Rat)(s:S3):S3:=⟨x*s.a,x*s.b,s.d⟩
structure P4 where
 x:S3
 y:S3
def Dt(k:Nat)(p:P4):Prop:=vJ k p.x/\vJ k p.y
theorem Dt.mono{k l:Nat}{p:P4}(h:Dt k p)(a:k<=l):Dt l p:=⟨h.1.mono a,h.2.mono a⟩
def P4.dot(v:V2)(p:P4):S3:=(S3.times v.x p.x).add (S3.times v.y p.y)
def sg3(a b o:Int):Int:=if 0<=a*b then(if a=0 then b else a)else a*o
def sgS(s:S3):Int:=sg3 (gO s.a) (gO s.b*gO s.d) (eM (s.a*s.a) (s.b*s.b*s.d))
namespace Hk
def jW:Nat:=9223372036854775808
def yk:Nat:=1606938044258990275541962092341162602522202993782792835301376
def o6{α:Type}(n:Nat)(f:Nat->α):α:=match n with
 |0=>f 0
 |k+1=>f (k+1)
theorem uR{α:Type}(n:Nat)(f:Nat->α):o6 n f=f n:=by cases n<;>rfl
def zb{α:Type}(z:Int)(f:Int->α):α:=match z with
 | .ofNat n=>o6 n fun n=>f (.ofNat n)
 | .negSucc n=>o6 n fun n=>f (.negSucc n)
theorem K4{α:Type}(z:Int)(f:Int->α):zb z f=f z:=by cases z<;>simp[zb,uR]
def nP:Int->Bool
 | .ofNat n=>e9 n jW
 | .negSucc n=>e9 (n+1) jW
theorem yf{z:Int}:nP z=true↔z.natAbs<9223372036854775808:=by
 cases z with
 |ofNat n=>simp only[nP,fd,jW];exact Iff.rfl
 |negSucc n=>simp only[nP,fd,jW];exact Iff.rfl
def nL:Int->Int->Bool
 | .ofNat a,.ofNat b=>en a b
 | .negSucc a,.negSucc b=>en a b
 |_,_=>false
theorem yx:∀{a b:Int},nL a b=true->a=b
 | .ofNat a,.ofNat b,h=>by simp only[nL]at h;rw[em h]
 | .negSucc a,.negSucc b,h=>by simp only[nL]at h;rw[em h]
 | .ofNat a,.negSucc b,h=>by simp[nL]at h
 | .negSucc a,.ofNat b,h=>by simp[nL]at h
def s8(z:Int):Option PV:=bif nP z then some (eP z)else bif en z.natAbs jW then none else some (jV z)
theorem xS{z:Int}{p:PV}(h:s8 z=some p)(m:Bool):eI ⟨z,m⟩=p:=by
 unfold s8 at h;rw[iO];rcases hs:nP z with _|_
 ·simp only[hs,cond_false]at h;rcases a:en z.natAbs jW with _|_
  case true=>rw[a]at h;cases h
  ·have c:¬en z.natAbs jW=true:=by rw[a];decide
   rw[a,cond_false]at h;simp only[g4]at h;have b:¬z.natAbs<9223372036854775808:=fun h=>by rw[yf.2 h]at hs;cases hs
   have d:z.natAbs≠9223372036854775808:=fun e=>c (by rw[e];rfl);rw[if_neg,h];simp only[NI.sm,bk,decide_eq_true_eq,be,not_or,not_and];exact⟨by omega,fun h=>by omega⟩
 ·simp only[hs,cond_true,g4]at h;have b:=yf.1 hs;rw[if_pos,h];simp only[NI.sm,bk,decide_eq_true_eq,be];exact .inl (by omega)
def vQ:List PV->Option (List Nat)
 |[]=>some []
 | .int .u64 (.ofNat x)::r=>match vQ r with
  |some l=>some (x::l)
  |none=>none
 |_=>none
theorem LL:∀{l:List PV}{a:List Nat},vQ l=some a->l=a.map fun x:Nat=>PV.int .u64 x
 |[],a,h=>by simp only[vQ,g4]at h;subst h;rfl
 |v::r,a,h=>by
  unfold vQ at h
  split at h
  ·rename_i e;cases e
  ·rename_i x c e;cases e
   split at h
   ·rename_i l b;simp only[g4]at h;subst h;rw[LL b];rfl
   ·cases h
  ·cases h
def qW:List Nat->List Nat->Bool
 |[],[]=>true
 |x::a,y::b=>bif en x y then qW a b else false
 |_,_=>false
theorem BM:∀{a b:List Nat},qW a b=true->a=b
 |[],[],_=>rfl
 |[],_::_,h=>by simp[qW]at h
 |_::_,[],h=>by simp[qW]at h
 |x::a,y::b,h=>by
  simp only[qW,bb]at h
  split at h
  ·rename_i hx;rw[em hx,BM h]
  ·cases h
def y9:PV->Option Int
 | .st u [.int .i64 z,.aF]=>bif en u 129 then(bif nP z then some z else none)else none
 | .st u [.int .i64 s,.seq l]=>match vQ l with
  |some a=>o6 (iC wB a) fun n=>bif en u 129&&(e9 jW n&&qW (aq wB n) a)then
   (bif nL s 1 then some (.ofNat n)else bif nL s (-1)then some (.negSucc (n-1))else none)else none
  |none=>none
 |_=>none
theorem K7{p:PV}{z:Int}(h:y9 p=some z):p=eI ⟨z,false⟩:=by
 unfold y9 at h
 split at h
 ·rename_i u y;simp only[bb]at h
  split at h
  ·rename_i g
   split at h
   ·rename_i hs;simp only[g4]at h;subst h;rw[em g];exact(xS (by rw[s8,hs];rfl) false).symm
   ·cases h
  ·cases h
 ·rename_i u s l
  split at h
  ·rename_i i f;rw[uR]at h;have e:=LL f;generalize iC wB i=n at h;simp only[bb]at h
   split at h
   ·rename_i hc;simp only[be,fd]at hc;obtain⟨b,j,c⟩:=hc;have d:=BM c;have k:jW=9223372036854775808:=rfl;rw[em b,e,<-d];have key:∀z:Int,z.natAbs=n->eI ⟨z,false⟩=jV z:=fun z m=>by
     refine xS ?_ false;have e1:nP z=false:=by
      rcases a:nP z with _|_
      ·rfl
      ·have:=yf.1 a;omega
     have e2:en z.natAbs jW=false:=by
      rcases a:en z.natAbs jW with _|_
      ·rfl
      ·have:=em a;omega
     rw[s8,e1,e2];rfl
    split at h
    ·rename_i hs;simp only[g4]at h;subst h;rw[yx hs,key _ rfl,jV,if_neg (by show¬((n:Int)<0);omega)];rfl
    ·split at h
     ·rename_i hs;simp only[g4]at h;subst h;rw[yx hs,key _ (by show n-1+1=n;omega),jV,if_pos (by omega)];have:(cx (n-1)).natAbs=n:=by show n-1+1=n;omega
      rw[this];rfl
     ·cases h
   ·cases h
  ·cases h
 ·cases h
def Dv(n:Int)(d:Nat):Bool:=e9 0 d&&(e9 n.natAbs yk&&(e9 d yk&&en (e8 n.natAbs d) 1))
def oZ:PV->Option (Int×Nat)
 | .st u [a,b]=>match y9 a,y9 b with
  |some n,some (.ofNat d)=>bif en u 131&&Dv n d then some (n,d)else none
  |_,_=>none
 |_=>none
def fr(n:Int)(d:Nat):NF:=⟨g5 n d,false⟩
theorem T6:yk=2^200:=by decide
theorem BQ{p:PV}{n:Int}{d:Nat}(h:oZ p=some (n,d)):p=eF (fr n d)/\d≠0/\bL kB (fr n d).q:=by
 unfold oZ at h
 split at h
 case h_2=>cases h
 rename_i u a b
 split at h
 case h_2=>cases h
 rename_i c d' j k;simp only[bb]at h
 split at h
 case isFalse=>cases h
 rename_i hc;simp only[g4,Prod.mk.injEq]at h;obtain⟨rfl,rfl⟩:=h;simp only[Dv,be,fd]at hc;obtain⟨c1,c2,c3,c4,c5⟩:=hc;have f:=em c5;have e:d'≠0:=by omega
 obtain⟨e1,e2⟩:=kV (n:=c) e;rw[f]at e1 e2;simp only[c9,da,ge]at e1 e2;rw[T6]at c3 c4;refine⟨?_,e,(Bx e c3 c4).mono (by decide)⟩;rw[em c1,K7 j,K7 k,eF];have g:(fr c d').num=⟨c,false⟩:=by rw[NF.num,fr,e1]
 have i:(fr c d').den=⟨(d':Int),false⟩:=by rw[NF.den,fr,e2];rfl
 rw[g,i];rfl
def mz(n:Int)(d:Nat):Option PV:=
 o6 (e8 n.natAbs d) fun g=>zb (n/g) fun n=>o6 (d/g) fun d=>match s8 n,s8 (.ofNat d)with
  |some a,some b=>some (.st 131 [a,b])
  |_,_=>none
theorem oF{n:Int}{d:Nat}{p:PV}(i:d≠0)(h:mz n d=some p)(m:Bool):p=eF ⟨g5 n d,m⟩:=by
 obtain⟨e1,e2⟩:=kV (n:=n) i;simp only[mz,uR,K4]at h
 split at h
 case h_2=>cases h
 rename_i a b f g;simp only[g4]at h;subst h;rw[eF];have c:(NF.num ⟨g5 n d,m⟩)=⟨n/(e8 n.natAbs d:Nat),m⟩:=by rw[NF.num,e1]
 have e:(NF.den ⟨g5 n d,m⟩)=⟨((d/e8 n.natAbs d:Nat):Int),false⟩:=by rw[NF.den,e2];rfl
 rw[c,e,xS f,<-xS g false];rfl
def two(op:Int->Nat->Int->Nat->Option PV)(a b:PV):Option PV:=match oZ a,oZ b with
 |some (n,d),some (m,e)=>op n d m e
 |_,_=>none
theorem uV{op:Int->Nat->Int->Nat->Option PV}{a b p:PV}(h:two op a b=some p):
 ∃n d m e,a=eF (fr n d)/\b=eF (fr m e)/\d≠0/\e≠0/\bL kB (fr n d).q/\bL kB (fr m e).q/\op n d m e=some p:=by
 unfold two at h
 split at h
 case h_2=>cases h
 rename_i n d m e j k;obtain⟨c,a2,a3⟩:=BQ j;obtain⟨f,g,i⟩:=BQ k;exact⟨n,d,m,e,c,f,a2,g,a3,i,h⟩
def O2(n:Int)(d:Nat)(m:Int)(e:Nat):Option PV:=mz (n*e+m*d) (d*e)
def O4(n:Int)(d:Nat)(m:Int)(e:Nat):Option PV:=mz (n*e-m*d) (d*e)
def O3(n:Int)(d:Nat)(m:Int)(e:Nat):Option PV:=mz (n*m) (d*e)
def zy:Int->Int
 | .ofNat n=>bif en n 0 then 0 else 1
 | .negSucc _=>-1
theorem Kn(z:Int):zy z=if z<0 then -1 else if z=0 then 0 else 1:=by
 cases z with
 |ofNat n=>
  rw[if_neg (by simp)];cases n with
  |zero=>rfl
  |succ n=>rw[if_neg (by simp;omega)];rfl
 |negSucc n=>rw[if_pos (by omega)];rfl
def Ds(n:Int)(d:Nat)(m:Int)(e:Nat):Option PV:=some (.int .i64 (zy (n*e-m*d)))
def zl(n:Int)(d:Nat)(m:Int)(e:Nat):Option PV:=match m with
 | .ofNat k=>bif en k 0 then none else mz (n*e) (d*k)
 | .negSucc k=>mz (-(n*e)) (d*(k+1))
theorem sY{d:Nat}(h:d≠0):(d:Int)≠0:=by omega
theorem Xj{n m:Int}{d e:Nat}{p:PV}(a:d≠0)(b:e≠0)(h:O2 n d m e=some p):p=eF ((fr n d).add (fr m e)):=by
 rw[NF.add,fr,fr];dsimp only;rw[ha _ _ (sY a) (sY b)];have:=oF (e7 a b) h;rw[b1]at this;exact this _
theorem Xm{n m:Int}{d e:Nat}{p:PV}(a:d≠0)(b:e≠0)(h:O4 n d m e=some p):p=eF ((fr n d).sub (fr m e)):=by
 rw[NF.sub,NF.add,NF.neg,fr,fr];dsimp only;rw[hg,ha _ _ (sY a) (sY b)];have:=oF (e7 a b) h;rw[b1]at this;rw[Int.neg_mul,<-Int.sub_eq_add_neg];exact this _
theorem Xl{n m:Int}{d e:Nat}{p:PV}(a:d≠0)(b:e≠0)(h:O3 n d m e=some p):p=eF ((fr n d).mul (fr m e)):=by
 rw[NF.mul,fr,fr];dsimp only;rw[g7];have:=oF (e7 a b) h;rw[b1]at this;exact this _
theorem Wo(x y:Rat):eM x y=if x-y<0 then -1 else if x-y=0 then 0 else 1:=by
 have b:x-y<0↔x<y:=by
  constructor
  ·intro h;have a:=(hb (c:=y)).2 h
   rwa [g6,g8]at a
  ·intro h;refine(hb (c:=y)).1 ?_
   rwa [g6,g8]
 have a:x-y=0↔x=y:=by
  constructor
  ·intro h;have d:=congrArg (·+y) h
   simpa[g6,g8]using d
  ·intro h;rw[h,hl]
 simp only[eM,b,a]
theorem A3(n:Int){d:Nat}(i:d≠0):(if g5 n d<0 then(-1:Int)else if g5 n d=0 then 0 else 1)=zy n:=by
 rw[Cv,Kn];obtain⟨e1,-⟩:=kV (n:=n) i;have k:0<e8 n.natAbs d:=e6 _ (by omega);have j:((e8 n.natAbs d:Nat):Int)∣n:=by
  rw[b5];exact fm _ _
 obtain⟨c,hc⟩:=j;rw[e1];generalize e8 n.natAbs d=g at*;have a:(0:Int)<g:=by omega
 subst hc;rw[b0 _ (by omega)];have b:(g:Int)*c<0↔c<0:=by
  constructor
  ·intro h;refine Int.not_le.1 fun f=>?_;have:=ck (Int.le_of_lt a) f;omega
  ·intro h;exact cv a h
 have e:(g:Int)*c=0↔c=0:=by
  rw[Int.mul_eq_zero];constructor
  ·rintro(h|h)
   ·omega
   ·exact h
  ·exact fun h=>.inr h
 simp only[b,e]
theorem Xk{n m:Int}{d e:Nat}{p:PV}(a:d≠0)(b:e≠0)(h:Ds n d m e=some p):p=.int .i64 (eM (fr n d).q (fr m e).q):=by
 simp only[Ds,g4]at h;rw[<-h,Wo,fr,fr];dsimp only;rw[Rat.divInt_sub_divInt _ _ (sY a) (sY b),<-b1,A3 _ (e7 a b)]
theorem Mv{n m:Int}{d e:Nat}{p:PV}(a:d≠0)(c:e≠0)(h:zl n d m e=some p):p=eF ((fr n d).div (fr m e))/\(fr m e).q≠0:=by
 have b:m≠0->(fr m e).q≠0:=fun g hq=>by
  rw[fr]at hq;dsimp only at hq;have:=A3 m c;rw[hq,if_neg (by decide),if_pos rfl,Kn]at this
  split at this
  ·omega
  ·first
     |omega
     |(rw[if_neg g]at this;omega)
 rw[NF.div,fr,fr];dsimp only;unfold zl at h;cases m with
 |ofNat k=>
  simp only[bb]at h
  split at h
  ·cases h
  ·rename_i hk;have f:k≠0:=fun e=>hk (by rw[e];rfl);have:=oF (e7 a f) h;refine⟨?_,b (by show(k:Int)≠0;omega)⟩;have e:(g5 n d:Rat)/g5 (Int.ofNat k) e=g5 (n*e) (d*k):=by
    rw[g9,hj,g7];rfl
   rw[e];rw[b1]at this;exact this _
 |negSucc k=>
  dsimp only at h;have:=oF (e7 a (Nat.succ_ne_zero k)) h;refine⟨?_,b (by omega)⟩;have e:(g5 n d:Rat)/g5 (cx k) e=g5 (-(n*e)) ((d:Int)*((k+1:Nat):Int)):=by
   rw[g9,hj,g7];rw[show cx k= -((k+1:Nat):Int)from rfl,Int.mul_neg];rw[Rat.divInt_neg']
  rw[e];rw[b1]at this;exact this _
def zk:Nat->Nat->Nat
 |0,_=>0
 |f+1,n=>bif en n 0 then 0 else zk f (n/10)+1
theorem WZ{a b:Nat}(h:a<b):e9 a b=true:=by rw[fd];exact h
theorem y7{a b:Nat}(h:e9 a b=true):a<b:=by rw[fd]at h;exact h
theorem Mi:∀(f n:Nat),n<10^f->zk f n=nd n
 |0,n,h=>by
  have:n=0:=by simpa using h
  subst this;rw[nd];rfl
 |f+1,n,h=>by
  rw[zk,nd]
  by_cases a:n=0
  ·subst a;rfl
  ·have b:en n 0=false:=by
    rcases c:en n 0 with _|_
    ·rfl
    ·exact(a (em c)).elim
   rw[b,cond_false,dif_neg a,Mi f (n/10) (by rw[gj (by omega)];rw[fv]at h;exact h)]
def tx(n:Nat):List Nat:=o6 (zk 80 n) fun k=>bif e9 1 k then low k n else low 1 n
theorem yD{n:Nat}(h:n<10^80):tx n=bt n:=by
 rw[tx,uR,Mi _ _ h,bt];rcases a:e9 1 (nd n)with _|_
 ·have:¬1<nd n:=fun b=>by rw[WZ b]at a;cases a
  rw[cond_false,Nat.max_eq_left (by omega)]
 ·have:1<nd n:=y7 a;rw[cond_true,Nat.max_eq_right (by omega)]
def DK:Int->List Nat
 | .ofNat n=>tx n
 | .negSucc n=>45::tx (n+1)
theorem aDK{z:Int}(h:z.natAbs<10^80):DK z=cR z:=by
 cases z with
 |ofNat n=>rw[cR,if_neg (by show¬((n:Int)<0);omega)];exact yD h
 |negSucc n=>rw[cR,if_pos (by omega)];exact congrArg (45::·) (yD h)
def DJ(n:Int)(d:Nat):List Nat:=bif en d 1 then DK n else DK n++47::tx d
theorem JF{n:Int}{d:Nat}(a:d≠0)(b:e8 n.natAbs d=1):(fr n d).q.num=n/\(fr n d).q.den=d:=by
 obtain⟨e1,e2⟩:=kV (n:=n) a;rw[b]at e1 e2;simp only[c9,da,ge]at e1 e2;exact⟨e1,e2⟩
theorem JK{p:PV}{n:Int}{d:Nat}(h:oZ p=some (n,d)):e8 n.natAbs d=1/\n.natAbs<10^80/\d<10^80:=by
 unfold oZ at h
 split at h
 case h_2=>cases h
 split at h
 case h_2=>cases h
 simp only[bb]at h
 split at h
 case isFalse=>cases h
 rename_i hc;simp only[g4,Prod.mk.injEq]at h;obtain⟨rfl,rfl⟩:=h;simp only[Dv,be,fd]at hc;obtain⟨c1,c2,c3,c4,c5⟩:=hc;have a:yk<10^80:=by decide
 exact⟨em c5,by omega,by omega⟩
theorem aDJ{p:PV}{n:Int}{d:Nat}(h:oZ p=some (n,d))(f:d≠0):DJ n d=bC (fr n d).q:=by
 obtain⟨g,b,c⟩:=JK h;obtain⟨e1,e2⟩:=JF f g;rw[DJ,bC,e1,e2,aDK b,yD c];rcases a:en d 1 with _|_
 ·rw[cond_false,if_neg (fun e=>by rw[e]at a;cases a)]
 ·rw[cond_true,if_pos (em a)]
def oY:List Nat->Nat->Bool
 |[],_=>true
 |c::r,f=>match f with
  |0=>false
  |f+1=>bif e9 c 256 then oY r f else false
theorem u4:∀{s:List Nat}{f:Nat},oY s f=true->s.length<=f/\∀c∈s,c<256
 |[],_,_=>⟨fl _,fun c hc=>by cases hc⟩
 |c::r,0,h=>by simp[oY]at h
 |c::r,f+1,h=>by
  simp only[oY,bb]at h
  split at h
  ·rename_i hc;obtain⟨b,a⟩:=u4 h;refine⟨by simp;omega,fun x hx=>?_⟩;rcases ei.1 hx with rfl|hx
   ·exact y7 hc
   ·exact a x hx
  ·cases h
def OY(z:Int):Bool:=match z with
 | .ofNat n=>en n 0
 |_=>false
theorem ayU{z:Int}(h:OY z=true):z=0:=by
 cases z with
 |ofNat n=>rw[em (show en n 0=true from h)];rfl
 |negSucc n=>cases h
def C7(n:Int)(d:Nat):Option PV:=bif en d 0 then none else mz n d
theorem Ym{n:Int}{d:Nat}{p:PV}(h:C7 n d=some p)(m:Bool):p=eF ⟨g5 n d,m⟩:=by
 unfold C7 at h;rcases a:en d 0 with _|_
 ·rw[a]at h;exact oF (fun e=>by rw[e]at a;cases a) h m
 ·rw[a]at h;cases h
def C8(s:List Nat):Option PV:=bif OY (bX s)&&oY s 1000 then
 zb (if bZ s=true then -(aW (bD s):Int)else aW (bD s)) fun n=>o6 (if dR s=true then aW (bM s)else 1) fun d=>C7 n d else none
theorem Yn{s:List Nat}{p:PV}(h:C8 s=some p):p=eF ⟨aY s,false⟩/\bX s=0/\s.length<=1048576:=by
 unfold C8 at h;simp only[bb,K4,uR]at h
 split at h
 case isFalse=>cases h
 rename_i hc;rw[be]at hc;obtain⟨c1,c2⟩:=hc;obtain⟨a,b⟩:=u4 c2;refine⟨?_,ayU c1,by omega⟩;rw[aY];exact Ym h false
def NX:Int->Bool
 | .ofNat n=>e9 n jW
 | .negSucc n=>e9 n jW
theorem YY{z:Int}(h:NX z=true):-9223372036854775808<=z/\z<=9223372036854775807:=by
 cases z with
 |ofNat n=>have:n<9223372036854775808:=y7 h;refine⟨?_,?_⟩<;>show _<=_<;>simp only[Int.ofNat_eq_natCast]<;>omega
 |negSucc n=>have:n<9223372036854775808:=y7 h;omega
def Dx(f:Nat)(a:PV):Option PV:=match a with
 | .int .i64 z=>bif en f 74&&NX z then mz z 1 else none
 | .str s=>bif en f 142 then C8 s else bif en f 221&&oY s 1000 then some (.int .i64 (bX s))else none
 | .st u [.str x,.str y]=>bif en f 92&&(en u 46&&(oY x 1000&&oY y 1000))then some (.int .i64 (dw ⟨x,y⟩))else none
 | .st u [c,e]=>match oZ (.st u [c,e])with
  |some (n,d)=>bif en f 174 then mz (-n) d else
   bif en f 146 then some (.int .i64 (zy n))else
   bif en f 173 then zl 1 1 n d else
   bif en f 176 then some (.str (DJ n d))else
   bif en f 175 then some (.bool false)else none
  |none=>none
 |_=>none
def tv(f:Nat)(a b:PV):Option PV:=
 bif en f 89 then two O2 a b else
 bif en f 191 then two O4 a b else
 bif en f 172 then two O3 a b else
 bif en f 75 then two zl a b else
 bif en f 136 then two Ds a b else none
def hk(f:Nat):List PV->Option PV
 |[a]=>Dx f a
 |[a,b]=>tv f a b
 |_=>none
theorem ND(z:Int):g5 z ((1:Nat):Int)=(z:Rat):=by
 rw[show((1:Nat):Int)=1 from rfl,Rat.divInt_eq_div];rw[show((1:Int):Rat)=1 from rfl,g9,show(1:Rat)⁻¹=1 from by decide+kernel,Rat.mul_one]
theorem bq{a b:Nat}(h:en a b=true):a=b:=em h
theorem aAe{f:Nat}{a v:PV}(h:Dx f a=some v):az prog f [a] v:=by
 unfold Dx at h
 split at h
 ·rename_i z;simp only[bb]at h
  split at h
  ·rename_i hc;rw[be]at hc;obtain⟨w,A⟩:=YY hc.2;rw[bq hc.1,oF (by decide) h true];have:=sX z w A;rw[NF.int]at this;rw[ND];exact this
  ·cases h
 ·rename_i s;simp only[bb]at h
  split at h
  ·rename_i hf;obtain⟨e1,e2,e3⟩:=Yn h;rw[bq hf,e1];exact lH s e2 e3
  ·split at h
   ·rename_i hc;rw[be]at hc;obtain⟨j,b⟩:=u4 hc.2;simp only[g4]at h;subst h;rw[bq hc.1];exact yH s (by omega) b
   ·cases h
 ·rename_i u x y;simp only[bb]at h
  split at h
  ·rename_i hc;simp only[be]at hc;obtain⟨c1,c2,c3,c4⟩:=hc;obtain⟨j,b⟩:=u4 c3;obtain⟨B,p⟩:=u4 c4;simp only[g4]at h;subst h;rw[bq c1,bq c2];exact Ae ⟨x,y⟩ ⟨⟨by show x.length<=_;omega,b⟩,⟨by show y.length<=_;omega,p⟩⟩
  ·cases h
 ·rename_i u c e _
  split at h
  case h_2=>cases h
  rename_i n d l;obtain⟨t,g,i⟩:=BQ l;rw[t];simp only[bb]at h
  split at h
  ·rename_i hf;rw[bq hf,oF g h false,<-hg];exact yz _ i
  split at h
  ·rename_i hf;simp only[g4]at h;subst h;rw[bq hf,<-A3 n g];exact Cc _
  split at h
  ·rename_i hf;obtain⟨e1,e2⟩:=Mv (by decide) g h;have e3:(fr 1 1).div (fr n d)=(fr n d).inv:=by
    rw[NF.div,NF.inv,fr,fr];dsimp only;rw[ND,g9];rw[show((1:Int):Rat)=1 from rfl,Rat.one_mul]
   rw[bq hf,e1,e3];exact JT _ i e2
  split at h
  ·rename_i hf;simp only[g4]at h;subst h;rw[bq hf,aDJ l g];exact xO _ i
  split at h
  ·rename_i hf;simp only[g4]at h;subst h;rw[bq hf];have m:=xW _ i;obtain⟨q,j,b⟩:=JK l;obtain⟨e1,e2⟩:=JF g q;have o:∀k,k<10^80->ka k=false:=fun k hk=>by
    rw[ka,decide_eq_false_iff_not];have C:nd k<=80:=Nat.not_lt.1 fun r=>by have:=(nI _ _).1 r;omega
    rw[rU];omega
   rw[vH,e1,e2,o _ j,o _ b]at m;exact m
  ·cases h
 ·cases h
theorem aDv{f:Nat}{a b v:PV}(h:tv f a b=some v):az prog f [a,b] v:=by
 unfold tv at h;simp only[bb]at h
 split at h
 ·rename_i hf;obtain⟨n,d,m,e,rfl,rfl,c,g,j,k,i⟩:=uV h;rw[bq hf,Xj c g i];exact vq _ _ j k
 split at h
 ·rename_i hf;obtain⟨n,d,m,e,rfl,rfl,c,g,j,k,i⟩:=uV h;rw[bq hf,Xm c g i];exact u3 _ _ j k
 split at h
 ·rename_i hf;obtain⟨n,d,m,e,rfl,rfl,c,g,j,k,i⟩:=uV h;rw[bq hf,Xl c g i];exact sd _ _ j k
 split at h
 ·rename_i hf;obtain⟨n,d,m,e,rfl,rfl,c,g,j,k,i⟩:=uV h;obtain⟨e1,e2⟩:=Mv c g i;rw[bq hf,e1];exact Xe _ _ j k e2
 split at h
 ·rename_i hf;obtain⟨n,d,m,e,rfl,rfl,c,g,j,k,i⟩:=uV h;rw[bq hf,Xk c g i];exact sV _ _ j k
 ·cases h
theorem YU{f:Nat}{vs:List PV}{v:PV}(h:hk f vs=some v):az prog f vs v:=by
 unfold hk at h
 split at h
 ·exact aAe h
 ·exact aDv h
 ·cases h
end Hk
theorem aDM{n:Nat}(h:n<10^80):bC ((n:Nat):Rat)=Hk.tx n:=by
 rw[Hk.yD h,bC,if_pos (by rfl),cR,if_neg (by show¬((n:Int)<0);omega)];rfl
end Go.al
