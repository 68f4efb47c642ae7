import Derived.Test.YthmfmhbicipdmaaGreatDoorPI
import Derived.Test.YthmfmhbicipdmaaGreatDoorPH
import Derived.Test.YthmfmhbicipdmaaGreatDoorPG
/- Parts of a proof. -/
set_option linter.unusedSimpArgs false
set_option linter.unusedVariables false
set_option linter.unusedSectionVars false
open Go.Proofs.Tryz
open Bool renaming false_eq_true->bb, and_eq_true->be
open Go.IntKind renaming i64->bf
open Int renaming natAbs_natCast->bi, ofNat_natAbs_of_nonpos->bl, natCast_nonneg->bo, natAbs_mul->bv, tdiv_eq_ediv_of_nonneg->bw, mul_ediv_cancel_left->b0, natAbs_neg->b1, ofNat_dvd_left->b2, natCast_ediv->b3, tmod_eq_emod_of_nonneg->b4, natAbs_of_nonneg->b5, natCast_emod->cb, mul_nonneg->cc
open List renaming getElem?_eq_getElem->cd, take_of_length_le->ce, all_eq_true->ck, length_take->cv, getElem_mem->cx, take->cy, length_pos_iff->c6, length_drop->c9, length->da, getElem_of_eq->db, take_length->dg, take_take->dl, mem_cons->dp, map_take->dq
open Nat renaming lt_of_lt_of_le->dx, le_trans->dy, pow_le_pow_right->dz, lt_of_le_of_lt->ea, gcd_pos_of_pos_right->eb, zero_le->ec, pow_succ->ed, lt_or_ge->ee, mul_lt_mul''->ei, gcd_le_right->ej, gcd_dvd_left->em, div_le_self->en, gcd->eo, div_div_eq_div_mul->eq, pow_mul->er, pow_add->ew, le_refl->eP, div_pos->e6, min_eq_left->e7, pow_zero->e8, pow_pos->e9, pow_one->fa, div_one->fb
open Rat renaming divInt->fd, neg_divInt_neg->fl, num_intCast->fm, den_intCast->fv, neg_num->fw, not_le->gb
namespace Go.ak
open Go.Proofs
set_option maxHeartbeats 4000000
set_option maxRecDepth 100000
theorem W8{s:List Nat}{i:Nat}(h:i<s.length):aX (s.take (i+1))=aX (s.take i)*10+(s[i]-48):=by
 rw[List.take_succ_eq_append_getElem h,zj]
theorem wC{s:List Nat}{p:Nat->Bool}(h:s.all p=true)(i:Nat):(s.take i).all p=true:=by
 rw[ck]at h⊢;intro x hx;exact h x (List.mem_of_mem_take hx)
theorem MQ{s:List Nat}{p:Nat->Bool}(h:s.all p=true)(i:Nat):(s.drop i).all p=true:=by
 rw[ck]at h⊢;intro x hx;exact h x (List.mem_of_mem_drop hx)
theorem Ae{c:Nat}(h:cq c=true):48<=c/\c<=57:=by
 simpa[cq]using h
theorem zU(s:List Nat)(e:s.all cq=true)(A:s.length<=18):au prog 245 [.str s] (.int .i64 (aX s:Nat)):=by
 refine aG nf OP mix (by simp[f245]) ?_;obtain⟨L,g⟩:∃L,L=s.length:=⟨_,rfl⟩
 have k:aX (s.take L)=aX s:=by rw[g,dg]
 rw[<-k];obtain⟨v,b⟩:∃v:Nat->Nat,∀i,aX (s.take i)=v i:=⟨_,fun _=>rfl⟩
 have o:v 0=0:=by rw[<-b];rfl
 have q:∀i(h:i<s.length),v (i+1)=v i*10+(s[i]-48):=fun i h=>by rw[<-b,<-b,W8 h]
 have f:∀i,i<=L->v i<10^i:=fun i hi=>by
  rw[<-b];exact jR i _ (by rw[cv];omega) (wC e i)
 rw[b];simp[f245];refine lp (α:=Nat) (fun i=>⟨[(4,.p (.int .i64 i)),(3,.p (.int .i64 (v i:Nat))),(0,.p (.str s))],[]⟩)
  (fun i=>i<=L) (fun i=>L-i) 0 (ec _) ?_ (he:=by simp[o])
 intro i hi
 by_cases m:i<L
 ·have a:i<s.length:=by omega
  have j:=f i hi;have z:=f (i+1) m;have hc:=Ae (ck.1 e s[i] (cx a));have hs:=q i a;have n:10^i<=10^17:=dz (by decide) (by omega);have y:v i<100000000000000000:=dx j (by exact n);generalize d:s[i]=c at*;generalize B:v i=x at*;have w1:bf.wrap (10*(x:Int))=10*(x:Int):=aO _ (by omega) (by omega);have r:bf.wrap (10*(x:Int)+c)=10*(x:Int)+c:=aO _ (by omega) (by omega);have t:bf.wrap (10*(x:Int)+c-48)=(v (i+1):Nat):=by rw[hs,aO _ (by omega) (by omega)];omega
  have u:bf.wrap ((i:Int)+1)=(i:Int)+1:=aO _ (by omega) (by omega);have w:bf.wrap (c:Int)=c:=aO _ (by omega) (by omega);have l:s[i]?=some c:=by rw[cd a,d]
  simp[a,d,l,w1,r,t,u,w];exact rd (i+1) (show i+1<=L by omega)
 ·have a:¬i<s.length:=by omega
  have:i=L:=by omega
  subst this;simp[a]
theorem NJ(c:Nat):∀s:List Nat,c∉(b8 c s).1
 |[]=>by simp[b8]
 |x::r=>by
  rw[b8]
  split
  ·simp
  ·rename_i h;simp only[dp,not_or];exact⟨fun e=>h e.symm,NJ c r⟩
theorem wZ(s:List Nat)(x:s.length<=1048576):au prog 244 [.str s] (.int .i64 ((b8 47 s).1.length:Nat)):=by
 refine aG nf HL mix (by simp[f244]) ?_;obtain⟨k,hk⟩:∃k,(b8 47 s).1.length=k:=⟨_,rfl⟩
 have t:=NJ 47 s;have w:k<=s.length:=by rw[<-hk];exact(ue 47 s).1
 have n:∀j(h:j<s.length),j<k->¬s[j]=47:=by
  intro j h v e;apply t;rcases qd 47 s with⟨_,b⟩|⟨_,b,_⟩
  ·have:s[j]=(b8 47 s).1[j]'(by omega):=by
    conv=>lhs;rw[db b]
    rw[List.getElem_append_left]
   have d:(b8 47 s).1[j]'(by omega)∈(b8 47 s).1:=cx _;rw[<-this,e]at d;exact d
  ·rw[b];have d:s[j]∈s:=cx _
   rwa [e]at d
 have b:∀(h:k<s.length),s[k]=47:=by
  intro h;rcases qd 47 s with⟨_,g⟩|⟨_,g,_⟩
  ·rw[db g,List.getElem_append_right (by omega)];simp[hk]
  ·rw[g]at hk;omega
 rw[hk];simp[f244];refine lp (α:=Nat) (fun i=>⟨[(3,.p (.int .i64 i)),(0,.p (.str s))],[]⟩)
  (fun i=>i<=k) (fun i=>k-i) 0 (ec _) ?_
 intro i hi;have u:bf.wrap ((i:Int)+1)=(i:Int)+1:=aO _ (by omega) (by omega)
 by_cases q:i<k
 ·have a:i<s.length:=by omega
  have f:=n i a q;generalize m:s[i]=c at*;have l:s[i]?=some c:=by rw[cd a,m]
  have o:¬(c:Int)=47:=by omega
  simp[a,m,l,o,f,u];exact rd (i+1) (show i+1<=k by omega)
 ·have r:i=k:=by omega
  subst r
  by_cases a:i<s.length
  ·have f:=b a;have l:s[i]?=some 47:=by rw[cd a,f]
   simp[a,f,l]
  ·have:i=s.length:=by omega
   simp[a,this]
theorem Oh(n:Int)(M:-9223372036854775808<=n)(O:n<=9223372036854775807):au prog 246 [.int .i64 n] (eG n):=by
 refine aG nf MH mix (by simp[f246]) ?_;obtain⟨N,P⟩:∃N,n.natAbs=N:=⟨_,rfl⟩
 have D:N<bT^3:=by
  have:bT^3=1000000000000000000000000000:=by decide
  omega
 obtain⟨g,a⟩:∃g:Nat->Nat,∀i,N/bT^i=g i:=⟨_,fun _=>rfl⟩
 have F:g 0=N:=by rw[<-a,e8,fb]
 have H:∀i,g (i+1)=g i/bT:=fun i=>by rw[<-a,<-a,eq,ed]
 have A:∀i,ae bT N i=g i% bT:=fun i=>by rw[<-a];rfl
 have G:g 3=0:=by rw[<-a,Nat.div_eq_of_lt D]
 have k:∀i,g i<=N:=fun i=>by rw[<-a];exact en _ _
 have y:∀i,i<=3->g i=0->au prog 254 [.bool (decide (n<0)),.seq (iP (row bT i N))] (eG n):=fun i I hi=>by
  have h:=Dl (decide (n<0)) (row bT i N) N (jU aZ (by
   rw[<-a]at hi;rcases ee N (bT^i)with h|h
   ·exact h
   ·have:=e6 h (e9 (show 0<bT by decide));omega)) (by simp[row];omega)
  have e:(if decide (n<0)=true then -(N:Int)else N)=n:=by
   by_cases c:n<0
   ·simp[c];omega
   ·simp[c];omega
  rwa [e]at h
 obtain⟨m,f⟩:∃m:Nat->Int,∀i,(if n<0 then -(g i:Int)else g i)=m i:=⟨_,fun _=>rfl⟩
 have J:m 0=n:=by rw[<-f,F];split<;>omega
 simp only[eG]at y⊢;simp[f246];refine lp (α:=Nat) (fun i=>⟨[(0,.p (.int .i64 (m i))),(2,.ptr 0 []),(3,.sl 1 i 1 0 i),(4,.p (.bool (decide (n<0))))],[.box false (.p (.st 235 [.bool false,.aH])),.arr .grow i 1 (eD i N)]⟩)
  (fun i=>i<=3) (fun i=>3-i) 0 (ec _) ?_ (he:=by simp[J,eD]) (hh:=by simp[eD])
 intro i hi;have Q:bT=1000000000:=rfl;have L:=Nat.mod_lt (g i) (show 0<bT by decide);have R:=k i;have E:=Nat.div_add_mod (g i) bT;have u:g i% bT=ae bT N i:=(A i).symm
 by_cases d:g i=0
 ·have b:m i=0:=by rw[<-f,d];split<;>rfl
  have hs:=y i hi d;rcases i with _|i
  ·simp[b];refine cp hs (by simp[eD];first|exact⟨rfl,rfl⟩|rfl) ?_ (h1:=by simp[iP,row]);simp[aa]
  ·have j:¬eD (i+1) N=[]:=by intro h;have:=congrArg da h;rw[jb]at this;simp at this
   simp[b];refine cp hs (by simp[jb,MZ,j];first|exact⟨rfl,rfl⟩|rfl) ?_ (h1:=by simp[iP,row,dq,ce]);simp[aa]
 ·have I:i<3:=by
   rcases ee i 3 with h|h
   ·exact h
   ·rw[show i=3 by omega]at d;exact(d G).elim
  have z:=H i;have K:=A i;have l:=rG i N;have x:cy i (eD i N)=eD i N:=ce (by rw[jb];exact eP _);rw[K]at l;obtain⟨r,B⟩:∃r,g i% bT=r:=⟨_,rfl⟩
  rw[B]at l L E;have u:=B.symm
  by_cases c:n<0
  ·have b:m i= -(g i:Int):=by rw[<-f,if_pos c]
   have o:m (i+1)= -(g (i+1):Int):=by rw[<-f,if_pos c]
   have j:¬(g i:Int)=0:=by omega
   have s:((g i:Nat):Int).tmod 1000000000=r:=by rw[u,b4 (bo _),cb];rfl
   have q:((g i:Nat):Int).tdiv 1000000000=(g (i+1):Nat):=by rw[z,bw (bo _),b3 (g i)];rfl
   have wr:bf.wrap (r:Int)=r:=aO _ (by omega) (by omega);have C:bf.wrap (-(r:Int))= -r:=aO _ (by omega) (by omega);have t:bf.wrap (-(g (i+1):Int))= -(g (i+1):Nat):=aO _ (by have:=k (i+1);omega) (by have:=k (i+1);omega)
   by_cases v:r=0
   ·simp[b,d,j,s,q,wr,C,t,v,x,jb];refine⟨by simp only[c8];omega,?_⟩;exact rd (i+1) (show i+1<=3 by omega) (he:=by simp[o]) (hh:=by simp[l,v])
   ·have w:0<r:=by omega
    simp[b,d,j,s,q,wr,C,t,v,w,x,jb];refine⟨by simp only[c8];omega,?_⟩;exact rd (i+1) (show i+1<=3 by omega) (he:=by simp[o]) (hh:=by simp[l])
  ·have b:m i=(g i:Int):=by rw[<-f,if_neg c]
   have o:m (i+1)=(g (i+1):Int):=by rw[<-f,if_neg c]
   have j:¬(g i:Int)=0:=by omega
   have s:((g i:Nat):Int).tmod 1000000000=r:=by rw[u,b4 (bo _),cb];rfl
   have q:((g i:Nat):Int).tdiv 1000000000=(g (i+1):Nat):=by rw[z,bw (bo _),b3 (g i)];rfl
   have wr:bf.wrap (r:Int)=r:=aO _ (by omega) (by omega);have t:bf.wrap (g (i+1):Int)=(g (i+1):Nat):=aO _ (by have:=k (i+1);omega) (by have:=k (i+1);omega);have w:¬(r:Int)<0:=by omega
   simp[b,d,j,s,q,wr,t,w,x,jb];refine⟨by simp only[c8];omega,?_⟩;exact rd (i+1) (show i+1<=3 by omega) (he:=by simp[o]) (hh:=by simp[l])
theorem J8{d:List Nat}(c:d.all cq=true){L i:Nat}(f:L=d.length)(h:9*(i+1)<=L):
 aX (d.take (L-9*(i+1)))=aX (d.take (L-9*i))/10^9/\aX ((d.take (L-9*i)).drop (L-9*(i+1)))=aX (d.take (L-9*i))% 10^9:=by
 have e:=List.take_append_drop (L-9*(i+1)) (d.take (L-9*i));rw[dl,e7 (by omega)]at e;have a:=LB (d.take (L-9*(i+1))) ((d.take (L-9*i)).drop (L-9*(i+1)));rw[e]at a;have b:((d.take (L-9*i)).drop (L-9*(i+1))).length=9:=by rw[c9,cv];omega
 rw[b]at a;have g:=jR 9 _ b (MQ (wC c _) _);generalize aX ((d.take (L-9*i)).drop (L-9*(i+1)))=y at*;generalize aX (d.take (L-9*(i+1)))=x at*;rw[a];omega
theorem Dm(s:List Nat)(k:(df s).all cq=true)(J:s.length<=1000000):au prog 249 [.str s] (eG (if bY s=true then -(aX (df s):Int)else aX (df s))):=by
 refine aG nf ON mix (by simp[f249]) ?_;obtain⟨d,v⟩:∃d,df s=d:=⟨_,rfl⟩
 obtain⟨neg,f⟩:∃neg,bY s=neg:=⟨_,rfl⟩
 obtain⟨N,F⟩:∃N,aX d=N:=⟨_,rfl⟩
 have ah:d.length<=1000000:=by rw[<-v];exact dy (pN s).1 J
 rw[v]at k⊢;rw[f,F];have ai:=J;simp[f249,-aW];rw[aW];simp[-aW];refine join (fun st=>aN st.env 0=.p (.str s)/\aN st.env 2=.ptr 0 []/\aN st.env 3=.p (.bool neg)/\st.heap=[.box false (.p (.st 235 [.bool false,.aH]))]) ?_ ?_
 ·cases s with
  |nil=>simp[<-f,bY]
  |cons c r=>
   by_cases hc:c=45
   ·simp[<-f,bY,hc]
   ·have T:¬(c:Int)=45:=by omega
    simp[<-f,bY,hc,T]
 rintro⟨S,U⟩ ⟨a,b,e,n⟩;dsimp only at a b e n;subst n;refine join (fun st=>aN st.env 0=.p (.str d)/\aN st.env 2=.ptr 0 []/\aN st.env 3=.p (.bool neg)/\st.heap=[.box false (.p (.st 235 [.bool false,.aH]))]) ?_ ?_
 ·cases neg with
  |false=>
   have D:s=d:=by rw[<-v,df,f];rfl
   simp[a,b,e,D]
  |true=>
   cases s with
   |nil=>simp[bY]at f
   |cons c r=>
    have D:r=d:=by rw[<-v,df,f];rfl
    simp[a,b,e,D]
 clear a b e;rintro⟨S,U⟩ ⟨a,b,e,n⟩;dsimp only at a b e n;subst n;obtain⟨L,u⟩:∃L,L=d.length:=⟨_,rfl⟩
 obtain⟨g,l⟩:∃g:Nat->Nat,∀i,N/bT^i=g i:=⟨_,fun _=>rfl⟩
 have B:∀i,9*i<=L->aX (d.take (L-9*i))=g i:=by
  intro i
  induction i with
  |zero=>intro _;rw[Nat.mul_zero,Nat.sub_zero,u,dg,F,<-l,e8,fb]
  |succ i ad=>
   intro h;rw[(J8 k u h).1,ad (by omega),<-l,<-l,eq,ed];rfl
 have V:∀i,9*(i+1)<=L->aX ((d.take (L-9*i)).drop (L-9*(i+1)))=ae bT N i:=fun i h=>by
  rw[(J8 k u h).2,B i (by omega),<-l];rfl
 have ac:∀i,9*(i+1)<=L->au prog 245 [.str ((d.take (L-9*i)).drop (L-9*(i+1)))] (.int .i64 (ae bT N i:Nat)):=fun i h=>by
  rw[<-V i h];exact zU _ (MQ (wC k _) _) (by rw[c9,cv];omega)
 have I:∀i,9*i<=L->L<=9*i+9->g i=ae bT N i/\N<bT^(i+1):=fun i j q=>by
  have H:=jR _ (d.take (L-9*i)) rfl (wC k _);rw[B i j]at H;have y:g i<bT:=dx H (by
   rw[show bT=10^9 from rfl];exact dz (by decide) (by rw[cv];omega))
  refine⟨by rw[ae,l,Nat.mod_eq_of_lt y],?_⟩;rw[<-l,Nat.div_lt_iff_lt_mul (e9 (by decide))]at y;rw[ed,Nat.mul_comm];exact y
 have W:∀i,9*i<=L->L<=9*i+9->au prog 245 [.str (d.take (L-9*i))] (.int .i64 (ae bT N i:Nat)):=fun i j q=>by
  rw[<-(I i j q).1,<-B i j];exact zU _ (wC k _) (by rw[cv];omega)
 have G:∀i,9*i<=L->L<=9*i+9->au prog 254 [.bool neg,.seq (iP (row bT (i+1) N))] (eG (if neg=true then -(N:Int)else N)):=fun i j q=>
  Dl neg (row bT (i+1) N) N (jU aZ (I i j q).2) (by simp[row];omega)
 generalize (if neg=true then -(N:Int)else N)=z at*;simp only[eG]at G⊢;rw[aW];simp[a,b,e,-aW];rw[aW];simp[a,b,e];refine lp (α:=Nat) (fun i=>⟨[(0,.p (.str (d.take (L-9*i)))),(2,.ptr 0 []),(3,.p (.bool neg)),(4,.sl 1 i 1 0 i)],[.box false (.p (.st 235 [.bool false,.aH])),.arr .grow i 1 (eD i N)]⟩)
  (fun i=>9*i<=L) (fun i=>L-i) 0 (ec _) ?_ (he:=by simp[a,b,e,eD,u]) (hh:=by simp[eD])
 intro i hi;have x:(d.take (L-9*i)).length=L-9*i:=by rw[cv];omega
 have o:=ac i;have w:=W i hi;have E:(d.take (L-9*i)).take (L-9*(i+1))=d.take (L-9*(i+1)):=by rw[dl,e7 (by omega)]
 rw[show L-9*(i+1)=L-9*i-9 by omega]at o E;obtain⟨m,C⟩:∃m,m=L-9*i:=⟨_,rfl⟩
 rw[<-C]at x o w E;have O:=rG i N;have P:cy i (eD i N)=eD i N:=ce (by rw[jb];exact eP _);have K:i+1<=c8:=by simp only[c8];omega
 by_cases af:9<m
 ·have o:=o (by omega);have Q:bf.wrap ((m:Int)-9)=(m:Int)-9:=aO _ (by omega) (by omega);have R:((m:Int)-9).toNat=m-9:=by omega
  have M:(9:Int)<=m:=by omega
  have Z:9*(i+1)<=L:=by omega
  rw[<-C];generalize ag:cy m d=t at*;have ab:cy m t=t:=ce (by omega);have A:(9:Int)<m:=by omega
  have X:m-9=L-9*(i+1):=by omega
  simp[x,A,Q,R,M,ab];refine c1 o ?_;simp[P,jb,K,<-O,x,Q,R,M,E];exact rd (i+1) Z (he:=by simp[X])
 ·have w:=w (by omega);have hs:=G i hi (by omega);rw[<-C];generalize cy m d=t at*;have A:¬(9:Int)<m:=by omega
  simp[x,A];refine c1 w ?_;simp[P,jb,K,<-O];have Y:¬eD (i+1) N=[]:=by intro h;have:=congrArg da h;rw[jb]at this;simp at this
  refine cp hs (by simp[jb,MZ,Y];first|exact⟨rfl,rfl⟩|rfl) ?_ (h1:=by simp[iP,row,dq,ce]);simp[aa]
def kD(s:List Nat):Int:=if bY s=true then -(aX (bH s):Int)else aX (bH s)
def je(s:List Nat):Nat:=if eL s=true then aX (bP s)else 1
theorem Mq(s:List Nat)(q:(bH s).all cq=true)(l:(bP s).all cq=true)(J:s.length<=1000000):au prog 159 [.str s] (.aC [eG (kD s),eG (je s:Nat)]):=by
 refine aG nf HB mix (by simp[f159]) ?_;have e:=wZ s (by omega);obtain⟨L,f,h,D⟩:=Lp s;have I:=ue 47 s;have C:=Oh 1 (by decide) (by decide);rcases qd 47 s with⟨q1,b⟩|⟨q1,b,N⟩
 ·have a:=Dm (b8 47 s).1 (by rw[f];exact q) (by omega);rw[L,f]at a;have d:=Dm (b8 47 s).2.1 (by
   rw[h];rw[ck]at l⊢;intro x hx;exact l x ((pN _).2 x hx)) (by omega)
  have K:bY (bP s)=false:=by
   rw[bY];cases g:bP s with
   |nil=>simp
   |cons c r=>
    have:=Ae (ck.1 l c (by rw[g];simp));simp;omega
  rw[h,df,K]at d;have m:eL s=true:=by rw[<-D];exact q1
  have pg:kD s=if bY s=true then -(aX (bH s):Int)else aX (bH s):=rfl
  have j:je s=aX (bP s):=by rw[je,if_pos m]
  rw[<-pg]at a;simp only[bb,if_false]at d;rw[<-j]at d;generalize M:kD s=z at*;generalize je s=dn at*;obtain⟨i,o⟩:∃i,(b8 47 s).1=i:=⟨_,rfl⟩
  obtain⟨E,p⟩:∃E,(b8 47 s).2.1=E:=⟨_,rfl⟩
  rw[o,p]at b;rw[o]at e a;rw[p]at h;obtain⟨k,n⟩:∃k,i.length=k:=⟨_,rfl⟩
  rw[n]at e;have hk:k<s.length:=by rw[b];simp;omega
  have B:s.take k=i:=by rw[b,<-n];simp
  have g:s.drop (k+1)=bP s:=by
   rw[<-h]
   conv=>lhs;rw[b,<-n]
   simp
  clear I b o p;have G:bf.wrap ((k:Int)+1)=(k:Int)+1:=aO _ (by omega) (by omega);have F:((k:Int)+1).toNat=k+1:=by omega
  have y:¬(k:Int)=s.length:=by omega
  have u:k+1<=s.length:=hk;have w:k<=s.length:=by omega
  have t:(0:Int)<=k+1:=by omega
  have v:(k:Int)+1<=s.length:=by omega
  simp only[eG]at a d⊢;simp[f159];refine c1 e ?_;simp[y,G,F,B,g,u,w,t,v];refine e1 a ?_;simp[y,G,F,B,g,u,w,t,v];refine e1 d ?_;simp[aa]
 ·have a:=Dm s (by
   have A:=f;rw[b]at A;rw[A];exact q) J
  have m:eL s=false:=by rw[<-D];exact q1
  have H:df s=bH s:=by rw[b]at f;exact f
  have pg:kD s=if bY s=true then -(aX (bH s):Int)else aX (bH s):=rfl
  have j:je s=1:=by rw[je,m];rfl
  rw[H,<-pg]at a;rw[j];rw[b]at e;generalize kD s=z at*;simp only[eG]at a C⊢;simp[f159];refine c1 e ?_;simp;refine c1 a ?_;simp;refine c1 C ?_;simp[aa]
theorem J9(n:Nat):(bd n).length<=9*(az bT n).length+1:=by
 rcases Nat.eq_zero_or_pos n with h|h
 ·subst h;rw[rD];simp
 ·have b:0<(az bT n).length:=by rw[c6,Ne,wy];omega
  have a:=cj aZ n;rw[show bT^(az bT n).length=10^(9*(az bT n).length)by rw[er];rfl]at a;exact dy (vV a (by omega)) (by omega)
def mS(n d:Int):Rat:=fd n d
theorem JU(n g:Nat):(az bT (n/g)).length<=(az bT n).length:=
 dT aZ _ _ (ea (en n g) (cj aZ n))
theorem Wo(n d:Nat)(a:0<d):(az bT (eo n d)).length<=(az bT d).length:=
 dT aZ _ _ (ea (ej n a) (cj aZ d))
theorem CJ(n d:Int)(K:d≠0)(s:(az bT n.natAbs).length<=400000)(j:(az bT d.natAbs).length<=400000):au prog 160 [eG n,eG d] (.str (bc (mS n d))):=by
 refine aG nf HA mix (by simp[f160]) ?_;simp[f160,-aW,aa];rw[aW];simp[-aW,aa];refine join (fun st=>∃(e:Int)(d':Nat),0<d'/\(az bT e.natAbs).length<=400000/\(az bT d').length<=400000/\mS e d'=mS n d/\aN st.env 2=.ptr 0 []/\aN st.env 3=.ptr 1 []/\st.heap=[.box false (.p (eG e)),.box false (.p (eG (d':Nat)))]) ?_ ?_
 ·have O:=Ok n s;have N:=Ok d j
  by_cases h:d<0
  ·simp[h,aa];refine e1 O ?_;simp[aa];refine e1 N ?_;simp[aa];refine⟨by repeat' first|rfl|apply And.intro,?_⟩;refine⟨-n,d.natAbs,by omega,by rw[b1];exact s,j,?_,rfl,?_⟩
   ·rw[bl (by omega)];exact fl _ _
   ·rw[bl (by omega)]
  ·have A:((d.natAbs:Nat):Int)=d:=b5 (by omega);simp[h,aa];exact⟨n,d.natAbs,by omega,s,j,by rw[A],rfl,by rw[A]⟩
 rintro⟨S,T⟩ ⟨e,d',k1,k2,k3,k4,l,m,D⟩;dsimp only at l m D;subst D;rw[<-k4,show mS e d'=fd e d' from rfl];clear k4 s j K;obtain⟨u,v⟩:=mv (n:=e) (show d'≠0 by omega);obtain⟨g,k⟩:∃g,eo e.natAbs d'=g:=⟨_,rfl⟩
 have r:0<g:=by rw[<-k];exact eb _ k1
 have B:(az bT g).length<=400000:=by rw[<-k];exact dy (Wo _ _ k1) k3
 rw[k]at u v;have y:=LZ e.natAbs d' k2 k3;rw[k]at y;have H:=ED e.natAbs g r k2 B;have I:=ED d' g r k3 B;have X:(az bT (e.natAbs/g)).length<=400000:=dy (JU _ _) k2;have Y:(az bT (d'/g)).length<=400000:=dy (JU _ _) k3;have w:=ru (decide (e<0)) (e.natAbs/g) (by omega);have f:=ru false (d'/g) (by omega);have t:(if decide (e<0)=true then -((e.natAbs/g:Nat):Int)else((e.natAbs/g:Nat):Int))=(fd e d').num:=by
  rw[u];have L:(g:Int)∣e:=by rw[<-k];exact b2.2 (em _ _)
  obtain⟨c,hc⟩:=L;have M:(g:Int)≠0:=by omega
  rw[hc,b0 _ M,bv,bi,Nat.mul_div_cancel_left _ r]
  by_cases J:c<0
  ·have:(g:Int)*c<0:=Int.mul_neg_of_pos_of_neg (by omega) J;simp[this];omega
  ·have:¬(g:Int)*c<0:=by
    have:=cc (a:=(g:Int)) (b:=c) (by omega) (by omega);omega
   simp[this];omega
 rw[t]at w;simp only[bb,if_false]at f;have z:=D3 (fd e d').num (by
  rw[<-t];split
  ·rw[b1,bi];omega
  ·rw[bi];omega)
 have i:=D3 ((d'/g:Nat):Int) (by rw[bi];omega);rw[vW]at i;have P:0<d'/g:=by
  refine e6 ?_ r;rw[<-k];exact ej _ k1
 have U:(bN (fd e d').num).length<=3600002:=by
  refine dy (DK _) ?_;have h:=J9 (fd e d').num.natAbs;have:(fd e d').num.natAbs=e.natAbs/g:=by
   rw[<-t];split
   ·rw[b1,bi]
   ·rw[bi]
  rw[this]at h⊢;omega
 have V:(bd (d'/g)).length<=3600001:=by
  have h:=J9 (d'/g);omega
 have F:bc (fd e d')=if d'/g=1 then bN (fd e d').num else bN (fd e d').num++47::bd (d'/g):=by rw[bc,v]
 rw[F];clear F t u v;generalize (fd e d').num=nn at*;generalize Z:d'/g=q at*;simp only[eG,bi]at w f z i⊢;simp[l,m,aa];refine c2 y ?_;simp[l,m,aa];refine c2 H ?_;simp[l,m,aa];refine c2 I ?_;simp[l,m,aa];refine c2 w ?_;simp[l,m,aa];refine c1 z ?_;have Q:∀h:q=1,az bT q=[1]:=fun h=>by rw[h];exact ov (by decide) (by decide)
 by_cases o:q=1
 ·have x:=Q o;simp[o,eT,ov (show 0<1 by decide) (show 1<bT by decide)]
 ·have C:(bN nn).length+1<9223372036854775808:=by omega
  have W:(bN nn).length+((bd q).length+1)<9223372036854775808:=by omega
  by_cases E:q<bT
  ·have x:=ov P E;have R:¬(q:Int)=1:=by omega
   simp[o,eT,x,R];refine⟨C,?_⟩;simp only[eT,x,List.map_cons,List.map_nil]at f i;refine c2 f ?_;simp;refine c1 i ?_;simp;omega
  ·have j:¬((az bT q).length:Int)=1:=by
    intro h;have G:(az bT q).length=1:=by omega
    have:=cj aZ q;rw[G,fa]at this;exact E this
   simp[o,eT,j];refine⟨C,?_⟩;simp only[eT]at f i;refine c2 f ?_;simp;refine c1 i ?_;simp;omega
theorem Wt{n:Int}{g:Nat}(a:0<g)(h:g∣n.natAbs):n.tdiv g=n/g:=by
 obtain⟨c,hc⟩:=b2.2 h;subst hc;rw[Int.mul_tdiv_cancel_left _ (by omega),b0 _ (by omega)]
theorem Qs(n d:Int)(M:d≠0)(S:n.natAbs<=4000000000000000000)(N:d.natAbs<=4000000000000000000):au prog 158 [.int .i64 n,.int .i64 d] (.str (bc (mS n d))):=by
 refine aG nf HC mix (by simp[f158]) ?_;have e:¬n< -4000000000000000000:=by omega
 have f:¬4000000000000000000<n:=by omega
 have i:¬d< -4000000000000000000:=by omega
 have j:¬4000000000000000000<d:=by omega
 simp[f158,e,f,i,j,-aW];rw[aW];simp[e,f,i,j,-aW];rw[aW,aW];simp[e,f,i,j,-aW];refine join (fun st=>∃(a:Int)(d':Nat),0<d'/\a.natAbs<=4000000000000000000/\d'<=4000000000000000000/\mS a d'=mS n d/\aN st.env 0=.p (.int .i64 a)/\aN st.env 1=.p (.int .i64 (d':Nat))/\st.heap=[]) ?_ ?_
 ·have w1:bf.wrap (-n)= -n:=aO _ (by omega) (by omega);have m:bf.wrap (-d)= -d:=aO _ (by omega) (by omega)
  by_cases h:d<0
  ·simp[h,w1,m,e,f,i,j];refine⟨-n,d.natAbs,by omega,by omega,by omega,?_,rfl,?_⟩
   ·rw[bl (by omega)];exact fl _ _
   ·rw[bl (by omega)]
  ·have H:((d.natAbs:Nat):Int)=d:=b5 (by omega);simp[h,e,f,i,j];exact⟨n,d.natAbs,by omega,by omega,by omega,by rw[H],rfl,by rw[H]⟩
 rintro⟨U,V⟩ ⟨a,d',k1,k2,k3,k4,o,r,I⟩;dsimp only at o r I;subst I;rw[<-k4,show mS a d'=fd a d' from rfl];clear k4 S N M e f i j;obtain⟨w,C⟩:=mv (n:=a) (show d'≠0 by omega);obtain⟨g,k⟩:∃g,eo a.natAbs d'=g:=⟨_,rfl⟩
 have E:0<g:=by rw[<-k];exact eb _ k1
 rw[k]at w C;have G:=ais a.natAbs d' (by omega) (by omega);rw[k]at G;have R:(if a< -a then -a else a)=(a.natAbs:Nat):=by split<;>omega
 have w1:bf.wrap (-a)= -a:=aO _ (by omega) (by omega);have y:a.tdiv g=(fd a d').num:=by rw[w,Wt E (by rw[<-k];exact em _ _)]
 have z:(d':Int).tdiv g=(d'/g:Nat):=by rw[bw (bo _),b3]
 have T:(fd a d').num.natAbs<=4000000000000000000:=by
  have P:(g:Int)∣a:=by rw[<-k];exact b2.2 (em _ _)
  obtain⟨c,hc⟩:=P;have Q:(g:Int)≠0:=by omega
  rw[w,hc,b0 _ Q];rw[hc,bv,bi]at k2;exact dy (Nat.le_mul_of_pos_left _ E) k2
 have O:d'/g<=4000000000000000000:=dy (en _ _) k3;have aa:0<d'/g:=by
  refine e6 ?_ E;rw[<-k];exact ej _ k1
 have K:bc (fd a d')=if d'/g=1 then bN (fd a d').num else bN (fd a d').num++47::bd (d'/g):=by rw[bc,C]
 rw[K];clear K w C;generalize (fd a d').num=nn at*;generalize ab:d'/g=q at*;have x:¬g=0:=by omega
 have t:=zf nn.natAbs 1 (by omega) (by decide);have D:=zf q 1 (by omega) (by decide);have W:(bd nn.natAbs).length<=19:=vV (ea T (by decide)) (by decide);have X:(bd q).length<=19:=vV (ea O (by decide)) (by decide);rw[show low (max 1 (nd nn.natAbs)) nn.natAbs=bd nn.natAbs from rfl]at t;rw[show low (max 1 (nd q)) q=bd q from rfl]at D;have Z:(if nn< -nn then -nn else nn)=(nn.natAbs:Nat):=by split<;>omega
 have m:bf.wrap (-nn)= -nn:=aO _ (by omega) (by omega);have A:bf.wrap nn=nn:=aO _ (by omega) (by omega);have B:bf.wrap (q:Int)=q:=aO _ (by omega) (by omega);simp[o,r,w1,R];refine c2 G ?_;have J:(1:Int)<q↔¬q=1:=by omega
 have L:bf.wrap 1=1:=rfl;have Y:(bd nn.natAbs).length<9223372036854775808:=by omega
 by_cases l:nn<0
 ·have F:bN nn=45::bd nn.natAbs:=by rw[bN,if_pos l]
  rw[F];have v:nn< -nn:=by omega
  have u:-nn=(nn.natAbs:Nat):=by omega
  by_cases b:q=1
  ·simp[o,r,x,y,z,A,B,l,m,v,b];rw[u];refine c2 t ?_;simp[b,L];omega
  ·have s:=J.2 b;simp[o,r,x,y,z,A,B,l,m,v,b,s];rw[u];refine c2 t ?_;simp[b,s];refine⟨by omega,by omega,?_⟩;refine c2 D ?_;simp;omega
 ·have F:bN nn=bd nn.natAbs:=by rw[bN,if_neg l]
  rw[F];have u:nn=(nn.natAbs:Nat):=by omega
  have v:¬nn< -nn:=by omega
  by_cases b:q=1
  ·simp[o,r,x,y,z,A,B,l,m,v,b];rw[show PV.int .i64 nn=.int .i64 (nn.natAbs:Nat)by rw[<-u]];refine c2 t ?_;simp[b,L];omega
  ·have s:=J.2 b;simp[o,r,x,y,z,A,B,l,m,v,b,s];rw[show PV.int .i64 nn=.int .i64 (nn.natAbs:Nat)by rw[<-u]];refine c2 t ?_;simp[b,s];refine⟨by omega,by omega,?_⟩;refine c2 D ?_;simp;omega
theorem AA(n:Int)(a:-9223372036854775808<=n)(b:n<=9223372036854775807):au prog 183 [.int .i64 n] (.str (bc (n:Rat))):=by
 have e:=Oh n a b;have d:=D3 n (by
  have c:n.natAbs<bT^3:=by
   have:bT^3=1000000000000000000000000000:=by decide
   omega
  have:=dT aZ 3 _ c;omega)
 have hq:bc (n:Rat)=bN n:=by rw[bc,if_pos (fv n),fm]
 rw[hq];refine aG nf G2 mix (by simp[f183]) ?_;simp[f183];refine c1 e ?_;simp;refine c1 d ?_;simp
theorem arE(s:List Nat)(C:(bH s).all cq=true)(J:(bP s).all cq=true)(aj:s.length<=1000000):
 ∃(n d:Int)(b:Bool),au prog 157 [.str s] (.aC [.int .i64 n,.int .i64 d,.bool b])/\(b=true->n=kD s/\d=(je s:Nat)/\n.natAbs<1000000000/\je s<1000000000):=by
 by_cases K:20<s.length
 ·refine⟨0,0,false,?_,fun h=>by cases h⟩;refine aG nf B9 mix (by simp[f157]) ?_;have m:(20:Int)<s.length:=by omega
  simp[f157,m]
 obtain⟨d,l⟩:∃d,df s=d:=⟨_,rfl⟩
 obtain⟨neg,g⟩:∃neg,bY s=neg:=⟨_,rfl⟩
 have ah:d.length<=s.length:=by rw[<-l];exact(pN s).1
 have i:=wZ d (by omega);have A:(b8 47 d).1=bH s:=by rw[<-l];rfl
 have N:(b8 47 d).2.1=bP s:=by rw[<-l];rfl
 have P:(b8 47 d).2.2=eL s:=by rw[<-l];rfl
 have q:=qd 47 d;rw[A,N,P]at q;rw[A]at i;obtain⟨k,hk⟩:∃k,(bH s).length=k:=⟨_,rfl⟩
 rw[hk]at i;have Q:k<=d.length:=by rw[<-hk,<-A];exact(ue 47 d).1
 have m:¬(20:Int)<s.length:=by omega
 obtain⟨b,o⟩:∃b:Bool,b=(decide (k<=9)&&decide (d.length-k<=10)):=⟨_,rfl⟩
 have M:b=true->(kD s).natAbs<1000000000/\je s<1000000000:=fun h=>by
  rw[o]at h;simp only[be,decide_eq_true_eq]at h;have v:=jR _ (bH s) rfl C;rw[hk]at v;have ad:aX (bH s)<1000000000:=dx v (dz (n:=10) (by decide) h.1);refine⟨by rw[kD];split<;>omega,?_⟩;rcases q with⟨q1,f⟩|⟨q1,f,ae⟩
  ·have W:(bP s).length<=9:=by
    have:=congrArg da f;simp at this;omega
   have X:=jR _ (bP s) rfl J;rw[je,if_pos q1];exact dx X (dz (n:=10) (by decide) W)
  ·rw[je,q1,if_neg (by decide)];decide
 refine⟨if b=true then kD s else 0,if b=true then(je s:Nat)else 0,b,?_,fun h=>⟨if_pos h,if_pos h,by rw[if_pos h];exact(M h).1,(M h).2⟩⟩;refine aG nf B9 mix (by simp[f157]) ?_;simp[f157,-aW];rw[aW];simp[-aW];rw[aW];simp[-aW];rw[aW,aW];simp[m,-aW];refine join (fun st=>aN st.env 5=.p (.str s)/\aN st.env 6=.p (.bool neg)/\st.heap=[]) ?_ ?_
 ·clear K m;cases s with
  |nil=>simp[<-g,bY]
  |cons c r=>
   by_cases hc:c=45
   ·simp[<-g,bY,hc]
   ·have aa:¬(c:Int)=45:=by omega
    simp[<-g,bY,hc,aa]
 rintro⟨U,ab⟩ ⟨e,a,u⟩;dsimp only at e a u;subst u;refine join (fun st=>aN st.env 5=.p (.str d)/\aN st.env 6=.p (.bool neg)/\st.heap=[]) ?_ ?_
 ·cases t:neg with
  |false=>
   have F:s=d:=by rw[<-l,df,g,t];rfl
   simp[e,a,t,F]
  |true=>
   clear i q hk N A P K m o;cases s with
   |nil=>simp[bY]at g;rw[t]at g;cases g
   |cons c r=>
    have F:r=d:=by rw[<-l,df,g,t];rfl
    simp[e,a,t,F]
 clear e a;rintro⟨U,ab⟩ ⟨e,a,u⟩;dsimp only at e a u;subst u;have ag:bf.wrap ((k:Int)+1)=(k:Int)+1:=aO _ (by omega) (by omega);have G:bf.wrap ((d.length:Int)-k)=(d.length:Int)-k:=aO _ (by omega) (by omega);have af:((k:Int)+1).toNat=k+1:=by omega
 have nz:kD s=if neg=true then -(aX (bH s):Int)else aX (bH s):=by rw[kD,g]
 rw[nz];rcases ee 9 k with D|D
 ·have Y:¬k<=9:=by omega
  have j:(9:Int)<k:=by omega
  have E:b=false:=by rw[o];simp[Y]
  simp[e,a];refine c1 i ?_;simp[e,a,j,E]
 rcases ee 10 (d.length-k)with I|I
 ·have V:¬d.length-k<=10:=by omega
  have j:¬(9:Int)<k:=by omega
  have x:(10:Int)<(d.length:Int)-k:=by omega
  have E:b=false:=by rw[o];simp[V]
  simp[e,a];refine c1 i ?_;simp[e,a,j,x,G,E]
 have j:¬(9:Int)<k:=by omega
 have x:¬(10:Int)<(d.length:Int)-k:=by omega
 have y:b=true:=by rw[o];simp[D,I]
 have R:d.take k=bH s:=by
  rcases q with⟨_,f⟩|⟨_,f,_⟩
  ·rw[f,<-hk];simp
  ·rw[<-f,<-hk];simp
 have L:=zU (bH s) C (by omega);have v:=jR _ (bH s) rfl C;rw[hk]at v;have ad:aX (bH s)<1000000000:=dx v (dz (n:=10) (by decide) D);rcases q with⟨q1,f⟩|⟨q1,f,ae⟩
 ·have z:k<d.length:=by rw[f];simp;omega
  have O:d.drop (k+1)=bP s:=by
   conv=>lhs;rw[f,<-hk]
   simp
  have ai:(bP s).length<=9:=by rw[<-O,c9];omega
  have Z:=zU (bP s) J (by omega);have B:je s=aX (bP s):=by rw[je,if_pos q1]
  rw[B];generalize aX (bP s)=ak at*;generalize aX (bH s)=w at*;have H:bf.wrap (-(w:Int))= -(w:Int):=aO _ (by omega) (by omega);clear f;simp[e,a];refine c1 i ?_;have S:(0:Int)<=k+1:=by omega
  have ac:k+1<=d.length:=z;have T:(k:Int)+1<=d.length:=by omega
  simp[e,a,j,x,G,y,Q,R];refine c1 L ?_;cases neg<;>
  ·simp[e,a,z,ac,ag,af,O,S,T];refine c1 Z ?_;simp[a,H,y]
 ·have z:¬k<d.length:=by rw[<-f,hk];omega
  have B:je s=1:=by rw[je,q1];rfl
  rw[B];generalize aX (bH s)=w at*;have H:bf.wrap (-(w:Int))= -(w:Int):=aO _ (by omega) (by omega);simp[e,a];refine c1 i ?_;simp[e,a,j,x,G,y,Q,R];refine c1 L ?_;cases neg<;>simp[e,a,z,H,y]
theorem CN{n k:Nat}(h:n<2^k):(az bT n).length<=k/29+1:=by
 refine dT aZ _ _ (dx h ?_);have a:2^29<=bT:=by decide
 refine dy ?_ (Nat.pow_le_pow_left a _);rw[<-er];exact dz (by decide) (by omega)
theorem Ns(q:Rat):kD (bc q)=q.num:=by
 obtain⟨a,b,_,_⟩:=wE q;rw[kD,a,b,zC]
 by_cases h:q.num<0
 ·rw[if_pos (by simpa using h)];omega
 ·rw[if_neg (by simpa using h)];omega
theorem Hn(q:Rat):je (bc q)=q.den:=by
 obtain⟨_,_,a,b⟩:=wE q;rw[je,a,b]
 by_cases h:q.den=1
 ·rw[if_neg (by simpa using h),h]
 ·rw[if_pos (by simpa using h),if_neg h,zC]
theorem BC(q:Rat):(bH (bc q)).all cq=true/\(bP (bc q)).all cq=true:=by
 obtain⟨_,a,_,b⟩:=wE q;refine⟨by rw[a];exact sC _,?_⟩;rw[b];split
 ·rfl
 ·exact sC _
theorem rJ{q:Rat}(h:br kB q):(bc q).length<=1000000:=by
 have a:(bd q.num.natAbs).length<=33334:=xP (K:=kB) (k:=33334) h.1 (by decide) (by decide);have b:(bd q.den).length<=33334:=xP (K:=kB) (k:=33334) h.2 (by decide) (by decide);have:=aLH q;omega
theorem zI(q:Rat)(h:br kB q):∃(n d:Int)(b:Bool),au prog 157 [.str (bc q)] (.aC [.int .i64 n,.int .i64 d,.bool b])/\(b=true->n=q.num/\d=(q.den:Nat)/\n.natAbs<1000000000/\q.den<1000000000):=by
 have:=arE (bc q) (BC q).1 (BC q).2 (rJ h)
 rwa [Ns,Hn]at this
theorem wz(q:Rat)(h:br kB q):au prog 159 [.str (bc q)] (.aC [eG q.num,eG (q.den:Nat)]):=by
 have:=Mq (bc q) (BC q).1 (BC q).2 (rJ h)
 rwa [Ns,Hn]at this
theorem azX(a b:Rat):mS (a.num*b.den+b.num*a.den) (a.den*b.den)=a+b:=by
 rw[Rat.add_def'];rfl
theorem azY(a b:Rat):mS (a.num*b.num) (a.den*b.den)=a*b:=by
 rw[Rat.mul_def,Rat.normalize_eq_mkRat];rfl
theorem PR(a b:Rat):((a.den:Nat):Int)*(b.den:Nat)≠0:=by
 have c:=a.den_pos;have d:=b.den_pos;exact Int.ne_of_gt (Int.mul_pos (by omega) (by omega))
theorem xD{x y:Int}(hx:x.natAbs<1000000000)(a:y.natAbs<1000000000):(x*y).natAbs<=999999998000000001:=by
 rw[bv];exact Nat.mul_le_mul (show x.natAbs<=999999999 by omega) (show y.natAbs<=999999999 by omega)
theorem wv{x y:Int}(hx:x.natAbs<2^kB)(a:y.natAbs<2^kB):(az bT (x*y).natAbs).length<=10000:=by
 have h:=CN (n:=(x*y).natAbs) (k:=kB+kB) (by rw[bv,ew];exact ei hx a);exact dy h (by decide)
theorem lV{x:Nat}(hx:x<2^kB):(az bT x).length<=10000:=dy (CN hx) (by decide)
theorem xO(a b:Rat)(h:br kB a)(i:br kB b):au prog 75 [.str (bc a),.str (bc b)] (.str (bc (a+b))):=by
 obtain⟨n,d,p,A,E⟩:=zI a h;obtain⟨m,e,r,B,F⟩:=zI b i;have t:=wz a h;have u:=wz b i;refine aG nf Rv mix (by simp[f75]) ?_;rw[<-azX];have z:=PR a b
 by_cases j:p=true/\r=true
 ·obtain⟨rfl,rfl,k1,k2⟩:=E j.1;obtain⟨rfl,rfl,k3,k4⟩:=F j.2;have N:=xD k1 (show((b.den:Nat):Int).natAbs<1000000000 by rw[bi];exact k4);have O:=xD k3 (show((a.den:Nat):Int).natAbs<1000000000 by rw[bi];exact k2);have P:=xD (show((a.den:Nat):Int).natAbs<1000000000 by rw[bi];exact k2) (show((b.den:Nat):Int).natAbs<1000000000 by rw[bi];exact k4);have C:=Qs (a.num*b.den+b.num*a.den) (a.den*b.den) z (by omega) (by omega);have w1:bf.wrap (a.num*(b.den:Nat))=a.num*(b.den:Nat):=aO _ (by omega) (by omega);have H:bf.wrap (b.num*(a.den:Nat))=b.num*(a.den:Nat):=aO _ (by omega) (by omega);have I:bf.wrap (a.num*(b.den:Nat)+b.num*(a.den:Nat))=a.num*(b.den:Nat)+b.num*(a.den:Nat):=aO _ (by omega) (by omega);have J:bf.wrap (((a.den:Nat):Int)*(b.den:Nat))=((a.den:Nat):Int)*(b.den:Nat):=aO _ (by omega) (by omega);have g:p=true:=j.1;have q:r=true:=j.2;simp[f75];refine c1 A ?_;simp;refine c1 B ?_;simp[g,q,w1,H,I,J];refine c2 C ?_;simp
 ·have l:a.num.natAbs<2^kB:=h.1;have o:b.num.natAbs<2^kB:=i.1;have c:((a.den:Nat):Int).natAbs<2^kB:=by rw[bi];exact h.2
  have f:((b.den:Nat):Int).natAbs<2^kB:=by rw[bi];exact i.2
  have w:=wY a.num (b.den:Nat) (by have:=lV l;have:=lV f;omega);have x:=wY b.num (a.den:Nat) (by have:=lV o;have:=lV c;omega);have y:=wY (a.den:Nat) (b.den:Nat) (by have:=lV c;have:=lV f;omega);have K:=wv l f;have L:=wv o c;have M:=wv c f;have v:=arD (a.num*(b.den:Nat)) (b.num*(a.den:Nat)) (by omega) (by omega);have G:(az bT (a.num*(b.den:Nat)+b.num*(a.den:Nat)).natAbs).length<=400000:=by
   refine dy (CN (k:=kB+kB+1) ?_) (by decide);have q1:(a.num*(b.den:Nat)).natAbs<2^(kB+kB):=by rw[bv,ew];exact ei l f
   have Q:(b.num*(a.den:Nat)).natAbs<2^(kB+kB):=by rw[bv,ew];exact ei o c
   rw[ed];omega
  have s:=CJ (a.num*(b.den:Nat)+b.num*(a.den:Nat)) ((a.den:Nat)*(b.den:Nat)) z G (by omega);simp[f75];refine c1 A ?_;simp;refine c1 B ?_;have D:(p=false)\/(p=true/\r=false):=by cases p<;>cases r<;>simp_all
  rcases D with g|⟨g,q⟩
  ·simp[g];refine c1 t ?_;simp[aa];refine c1 u ?_;simp[aa];refine e2 w ?_;simp[aa];refine e2 x ?_;simp[aa];refine e2 v ?_;simp[aa];refine e2 y ?_;simp[aa];refine e2 s ?_;simp
  ·simp[g,q];refine c1 t ?_;simp[aa];refine c1 u ?_;simp[aa];refine e2 w ?_;simp[aa];refine e2 x ?_;simp[aa];refine e2 v ?_;simp[aa];refine e2 y ?_;simp[aa];refine e2 s ?_;simp
theorem iG(a b:Rat)(f:br kB a)(g:br kB b):au prog 76 [.str (bc a),.str (bc b)] (.str (bc (a*b))):=by
 obtain⟨n,d,p,x,B⟩:=zI a f;obtain⟨m,e,r,y,C⟩:=zI b g;have s:=wz a f;have t:=wz b g;refine aG nf Rw mix (by simp[f76]) ?_;rw[<-azY];have w:=PR a b
 by_cases h:p=true/\r=true
 ·obtain⟨rfl,rfl,k1,k2⟩:=B h.1;obtain⟨rfl,rfl,k3,k4⟩:=C h.2;have G:=xD k1 k3;have H:=xD (show((a.den:Nat):Int).natAbs<1000000000 by rw[bi];exact k2) (show((b.den:Nat):Int).natAbs<1000000000 by rw[bi];exact k4);have z:=Qs (a.num*b.num) (a.den*b.den) w (by omega) (by omega);have w1:bf.wrap (a.num*b.num)=a.num*b.num:=aO _ (by omega) (by omega);have D:bf.wrap (((a.den:Nat):Int)*(b.den:Nat))=((a.den:Nat):Int)*(b.den:Nat):=aO _ (by omega) (by omega);have c:p=true:=h.1;have i:r=true:=h.2;simp[f76];refine c1 x ?_;simp;refine c1 y ?_;simp[c,i,w1,D];refine c2 z ?_;simp
 ·have j:a.num.natAbs<2^kB:=f.1;have l:b.num.natAbs<2^kB:=g.1;have k:((a.den:Nat):Int).natAbs<2^kB:=by rw[bi];exact f.2
  have o:((b.den:Nat):Int).natAbs<2^kB:=by rw[bi];exact g.2
  have u:=wY a.num b.num (by have:=lV j;have:=lV l;omega);have v:=wY (a.den:Nat) (b.den:Nat) (by have:=lV k;have:=lV o;omega);have E:=wv j l;have F:=wv k o;have q:=CJ (a.num*b.num) ((a.den:Nat)*(b.den:Nat)) w (by omega) (by omega);simp[f76];refine c1 x ?_;simp;refine c1 y ?_;have A:(p=false)\/(p=true/\r=false):=by cases p<;>cases r<;>simp_all
  rcases A with c|⟨c,i⟩
  ·simp[c];refine c1 s ?_;simp[aa];refine c1 t ?_;simp[aa];refine e2 u ?_;simp[aa];refine e2 v ?_;simp[aa];refine e2 q ?_;simp
  ·simp[c,i];refine c1 s ?_;simp[aa];refine c1 t ?_;simp[aa];refine e2 u ?_;simp[aa];refine e2 v ?_;simp[aa];refine e2 q ?_;simp
theorem aAM{a:Rat}(h:a≠0):mS (a.den:Nat) a.num=a⁻¹:=by
 rw[Rat.inv_def];rfl
theorem Pk{a:Rat}(h:a≠0):a.num≠0:=fun e=>h (Rat.num_eq_zero.1 e)
theorem I5(a:Rat)(b:br kB a)(c:a≠0):au prog 102 [.str (bc a)] (.str (bc a⁻¹)):=by
 have g:=wz a b;have e:a.num.natAbs<2^kB:=b.1;have f:((a.den:Nat):Int).natAbs<2^kB:=by rw[bi];exact b.2
 have d:=CJ ((a.den:Nat):Int) a.num (Pk c) (by have:=lV f;omega) (by have:=lV e;omega);rw[aAM c]at d;refine aG nf GS mix (by simp[f102]) ?_;simp[f102];refine c1 g ?_;simp[aa];refine c2 d ?_;simp
theorem I0(a b:Rat)(g:br kB a)(d:br kB b)(e:b≠0):au prog 153 [.str (bc a),.str (bc b)] (.str (bc (a/b))):=by
 have f:=I5 b d e;have c:=iG a b⁻¹ g (rP d);rw[<-Rat.div_def]at c;refine aG nf FM mix (by simp[f153]) ?_;simp[f153];refine c1 f ?_;simp;refine c2 c ?_;simp
theorem On(s:List Nat)(g:s.length<=1048576):au prog 152 [.str s] (.int .i64 (if s=[48]then 0 else if bY s=true then -1 else 1)):=by
 refine aG nf Pz mix (by simp[f152]) ?_
 by_cases b:s=[48]
 ·simp[f152,b]
 ·cases s with
  |nil=>simp[f152,bY]
  |cons c r=>
   by_cases hc:c=45
   ·simp[f152,bY,hc]
   ·have e:¬(c:Int)=45:=by omega
    have d:¬(c=48/\r=[]):=fun h=>b (by rw[h.1,h.2])
    by_cases a:c=48
    ·have f:¬r=[]:=fun h=>d ⟨a,h⟩;simp[f152,bY,a,f]
    ·simp[f152,bY,hc,e,a]
theorem zp(q:Rat):q.num<0↔q<0:=by
 have h:=El q
 by_cases b:q<0
 ·rw[if_pos b]at h;refine⟨fun _=>b,fun _=>?_⟩
  by_cases a:q.num<0
  ·exact a
  ·rw[if_neg a]at h;split at h<;>omega
 ·refine⟨fun a=>?_,fun a=>(b a).elim⟩;rw[if_neg b,if_pos a]at h
  split at h<;>omega
def bX(q:Rat):Int:=if q<0 then -1 else if q=0 then 0 else 1
theorem se:bc 0=[48]:=by
 have h:bN 0=[48]:=by rw[show(0:Int)=((0:Nat):Int)from rfl,vW,rD]
 rw[bc,if_pos (show(0:Rat).den=1 from rfl)];exact h
theorem JA(q:Rat):bc q=[48]↔q=0:=by
 rw[<-se];exact⟨fun h=>aLG h,fun h=>by rw[h]⟩
theorem aK7(q:Rat):(if bc q=[48]then(0:Int)else if bY (bc q)=true then -1 else 1)=bX q:=by
 have e:=(wE q).1;have c:=JA q;have d:q<0↔q.num<0:=(zp q).symm;rw[e,bX]
 by_cases b:q=0
 ·subst b;rw[if_pos (c.2 rfl),if_neg (by decide),if_pos rfl]
 ·rw[if_neg (fun h=>b (c.1 h))]
  by_cases a:q<0
  ·rw[if_pos (by simpa using d.1 a),if_pos a]
  ·rw[if_neg (by simpa using fun h=>a (d.2 h)),if_neg a,if_neg b]
theorem l7(q:Rat)(h:br kB q):au prog 152 [.str (bc q)] (.int .i64 (bX q)):=by
 have:=On (bc q) (by have:=rJ h;omega)
 rwa [aK7]at this
theorem Ot{q:Rat}(h:q<0):bc q=45::bc (-q):=by
 have a:q.num<0:=(zp q).2 h;have e1:bN q.num=45::bd q.num.natAbs:=by rw[bN,if_pos a]
 have e2:bN (-q).num=bd q.num.natAbs:=by rw[fw,bN,if_neg (by omega),b1]
 rw[bc,bc,Rat.neg_den,e1,e2]
 split<;>rfl
theorem Oo(q:Rat)(h:br kB q):au prog 155 [.str (bc q)] (.str (bc (-q))):=by
 have a:=l7 q h;have f:=rJ h;refine aG nf FK mix (by simp[f155]) ?_
 by_cases b:q<0
 ·have hs:bX q= -1:=by rw[bX,if_pos b]
  rw[hs]at a;have c:=Ot b;rw[c]at a f⊢;simp[f155];refine c1 a ?_;simp
 ·by_cases d:q=0
  ·have hs:bX q=0:=by rw[bX,if_neg b,if_pos d]
   rw[hs]at a;have hq:-q=q:=by rw[d];rfl
   rw[hq];simp[f155];refine c1 a ?_;simp;refine c1 a ?_;simp
  ·have hs:bX q=1:=by rw[bX,if_neg b,if_neg d]
   rw[hs]at a;have e:-q<0:=by
    rw[<-zp,fw];have g:¬q.num<0:=fun h=>b ((zp q).1 h);have i:=Pk d;omega
   have c:=Ot e;rw[Rat.neg_neg]at c;rw[c];have j:(bc q).length+1<9223372036854775808:=by omega
   simp[f155];refine c1 a ?_;simp;refine c1 a ?_;simp;omega
theorem qx(a b:Rat)(f:br kB a)(d:br kB b):au prog 96 [.str (bc a),.str (bc b)] (.str (bc (a-b))):=by
 have e:=Oo b d;have c:=xO a (-b) f (qp d);rw[<-Rat.sub_eq_add_neg]at c;refine aG nf RF mix (by simp[f96]) ?_;simp[f96];refine c1 e ?_;simp;refine c2 c ?_;simp
theorem aK6(a b:Rat):bX (a-b)=dA a b:=by
 have d:a-b<0↔a<b:=by
  rw[<-gb,<-gb,<-Rat.le_iff_sub_nonneg]
 have e:a-b=0↔a=b:=by
  constructor
  ·intro h;have f:a-b+b=0+b:=by rw[h]
   rwa [Rat.sub_add_cancel,Rat.zero_add]at f
  ·rintro rfl;exact Rat.sub_self
 rw[bX,dA]
 by_cases h:a<b
 ·rw[if_pos (d.2 h),if_pos h]
 ·rw[if_neg (fun x=>h (d.1 x)),if_neg h]
  by_cases c:a=b
  ·rw[if_pos (e.2 c),if_pos c]
  ·rw[if_neg (fun x=>c (e.1 x)),if_neg c]
theorem qX(a b:Rat)(d:br (kB/3) a)(e:br (kB/3) b):au prog 154 [.str (bc a),.str (bc b)] (.int .i64 (dA a b)):=by
 have f:=qx a b (d.mono (by decide)) (e.mono (by decide));have c:=l7 (a-b) ((jW d e).mono (by decide));rw[aK6]at c;refine aG nf FL mix (by simp[f154]) ?_;simp[f154];refine c2 f ?_;simp;refine c1 c ?_;simp
theorem Ql{a b:Nat}(h:a<=b):10^a<=10^b:=dz (by decide) h
theorem Qk{s:List Nat}{k:Nat}(h:s.length<=k)(a:s.all cq=true):aX s<10^k:=dx (jR _ s rfl a) (Ql h)
theorem aKh{x a b:Nat}(hx:x<10^a)(h:a<=9*b):(az bT x).length<=b:=dT aZ b x (dx hx (by
 rw[show bT^b=10^(9*b)by rw[er];rfl];exact Ql h))
theorem Zh(s:List Nat)(D:s.length<=1048576):au prog 312 [.str s] (.bool (s.all cq)):=by
 refine aG nf Ir mix (by simp[f312]) ?_;obtain⟨k,hk,n,o⟩:=C5 (fun j=>cq (s[j]?.getD 0)) s.length;have e:∀j(h:j<s.length),s[j]?.getD 0=s[j]:=fun j h=>by rw[cd h];rfl
 have B:s.all cq=decide (k=s.length):=by
  rcases o with h|⟨a,b⟩
  ·rw[h,decide_eq_true rfl,ck];intro x hx;obtain⟨j,A,rfl⟩:=List.getElem_of_mem hx;have:=n j (by omega)
   rwa [e j A]at this
  ·rw[decide_eq_false (by omega)];rw[e k a]at b
   by_cases m:s.all cq=true
   ·have:=ck.1 m _ (cx a);rw[this]at b;cases b
   ·simpa using m
 rw[B];simp[f312];refine lp (α:=Nat) (fun i=>⟨[(3,.p (.int .i64 i)),(0,.p (.str s))],[]⟩)
  (fun i=>i<=k) (fun i=>k-i) 0 (ec _) ?_
 intro i hi;have C:bf.wrap ((i:Int)+1)=(i:Int)+1:=aO _ (by omega) (by omega)
 by_cases y:i<k
 ·have l:i<s.length:=by omega
  have q:=n i y;rw[e i l]at q;have E:=Ae q;generalize d:s[i]=c at*;have f:s[i]?=some c:=by rw[cd l,d]
  have a:¬(c:Int)<48:=by omega
  have b:¬(57:Int)<c:=by omega
  have t:¬c<48:=by omega
  have u:¬57<c:=by omega
  simp[l,d,f,a,b,t,u,C];exact rd (i+1) (show i+1<=k by omega)
 ·have z:i=k:=by omega
  subst z;rcases o with h|⟨a,b⟩
  ·simp[h]
  ·rw[e i a]at b;have r:¬i=s.length:=by omega
   generalize d:s[i]=c at*;have f:s[i]?=some c:=by rw[cd a,d]
   by_cases hc:c<48
   ·have g:(c:Int)<48:=by omega
    simp[a,d,f,hc,g,r]
   ·have v:57<c:=by
     simp only[cq,Bool.and_eq_false_iff,decide_eq_false_iff_not]at b;omega
    have g:¬(c:Int)<48:=by omega
    have w:(57:Int)<c:=by omega
    simp[a,d,f,hc,g,v,w,r]
theorem La(s:List Nat)(j:s.length<=1048576):au prog 267 [.str s] (.bool (dO s)):=by
 have b:=Zh s j;refine aG nf Gq mix (by simp[f267]) ?_;cases s with
 |nil=>simp[f267,dO]
 |cons c r=>
  have k:(c:Int)=48↔c=48:=by omega
  by_cases a:r=[]
  ·subst a;have e:dO [c]=[c].all cq:=by
    rw[dO]
    by_cases h:c=48
    ·subst h;rfl
    ·simp[h]
   rw[e];simp[f267];refine c1 b ?_;simp
  ·have d:0<r.length:=c6.2 a;have f:¬(r.length:Int)+1=0:=by omega
   have g:(1:Int)<r.length+1:=by omega
   by_cases hc:c=48
   ·have e:dO (c::r)=false:=by rw[dO,hc];simp[a]
    rw[e];simp[f267,a,hc,d,f,g]
   ·have i:¬(c:Int)=48:=by omega
    have e:dO (c::r)=(c::r).all cq:=by rw[dO];simp[hc]
    rw[e];simp[f267,a,hc,i,d,f,g];refine c1 b ?_;simp
theorem xB(s:List Nat)(hs:jB s):au prog 207 [.str s] (.int .i64 (b6 s)):=by
 refine aG nf H8 mix (by simp[f207]) ?_;obtain⟨a1,aM⟩:=hs;obtain⟨d,S⟩:∃d,df s=d:=⟨_,rfl⟩
 obtain⟨neg,A⟩:∃neg,bY s=neg:=⟨_,rfl⟩
 have aS:d.length<=s.length:=by rw[<-S];exact(pN s).1
 have T:=wZ d (by omega);have Y:(b8 47 d).1=bH s:=by rw[<-S];rfl
 have W:(b8 47 d).2.1=bP s:=by rw[<-S];rfl
 have ah:(b8 47 d).2.2=eL s:=by rw[<-S];rfl
 have z:=qd 47 d;have F:=ue 47 d;rw[Y,W,ah]at z;rw[Y]at T F;rw[W]at F;obtain⟨k,hk⟩:∃k,(bH s).length=k:=⟨_,rfl⟩
 rw[hk]at T;have J:k<=d.length:=by rw[<-hk];exact F.1
 have aw:d.take k=bH s:=by
  rcases z with⟨_,G⟩|⟨_,G,_⟩
  ·rw[G,<-hk];simp
  ·rw[<-G,<-hk];simp
 have M:=La (bH s) (by omega);have l:=La (bP s) (by omega);simp[f207,-aW];rw[aW];simp[-aW];rw[aW];simp[-aW];refine join (fun st=>aN st.env 0=.p (.str s)/\aN st.env 3=.p (.str d)/\st.heap=[]) ?_ ?_
 ·cases aj:neg with
  |false=>
   have av:s=d:=by rw[<-S,df,A,aj];rfl
   clear T z hk W Y ah aw M l F J;subst av;cases s with
   |nil=>simp
   |cons c r=>
    rw[aj]at A;have hc:¬c=45:=fun h=>by rw[h]at A;simp[bY]at A
    have an:¬(c:Int)=45:=by omega
    simp[hc,an]
  |true=>
   clear T z hk W Y ah aw M l F J;cases s with
   |nil=>simp[bY]at A;rw[aj]at A;cases A
   |cons c r=>
    have av:r=d:=by rw[<-S,df,A,aj];rfl
    rw[aj]at A;have hc:c=45:=by simpa[bY]using A
    simp[hc,av]
 rintro⟨aI,aV⟩ ⟨w,e,ak⟩;dsimp only at w e ak;subst ak;have ag:nL s=(dO (bH s)&&!(neg&&decide (bH s=[48]))&&(!eL s||(dO (bP s)&&decide (bP s≠[48])&&decide (bP s≠[49])))):=by rw[nL,A]
 have a9:d.length<=1048576:=by omega
 have V:(bH s).all cq=true->(bP s).all cq=true->eL s=true->0<k->d.length<=1000000->au prog 159 [.str d] (.aC [eG (aX (bH s):Nat),eG (aX (bP s):Nat)]):=fun y O ax aD a2=>by
  have al:bY d=false/\df d=d:=by
   have aH:bY d=false:=by
    rcases z with⟨_,G⟩|⟨q1,_⟩
    ·cases X:bH s with
     |nil=>rw[X]at hk;simp at hk;omega
     |cons c r=>
      rw[X]at G y;have:=Ae (ck.1 y c (by simp));rw[G,bY];simp;omega
    ·rw[ax]at q1;cases q1
   exact⟨aH,by rw[df,aH];rfl⟩
  have e1:bH d=bH s:=by rw[bH,al.2,Y]
  have e2:bP d=bP s:=by rw[bP,al.2,W]
  have e3:eL d=true:=by rw[eL,al.2,ah];exact ax
  have:=Mq d (by rw[e1];exact y) (by rw[e2];exact O) a2;rw[kD,je,e1,e2,al.1,if_pos e3]at this;exact this
 rw[b6];generalize nL s=N at*;generalize bH s=v at*;generalize bP s=f at*;generalize eL s=fr at*;have U:cy k d=v:=aw
 by_cases K:dO v=true
 ·have aD:0<k:=by
   rw[<-hk,c6];intro h;rw[h]at K;cases K
  obtain⟨c,r,hs⟩:∃c r,s=c::r:=by
   cases s with
   |nil=>
    have:d.length<=0:=by simpa using aS
    omega
   |cons c r=>exact⟨c,r,rfl⟩
  have ao:c=45↔neg=true:=by rw[<-A,hs];simp[bY]
  have an:(c:Int)=45↔c=45:=by omega
  rw[K]at M;clear aM a1 S A Y W ah
  by_cases P:neg=true/\v=[48]
  ·have hf:N=false:=by rw[ag,P.1,P.2];simp
   have aR:=ao.2 P.1;rw[if_pos hf];clear z F l V ao an;subst hs aR;have X:=P.2;simp[w,e];refine c1 T ?_;simp[w,e,J,U];refine c1 M ?_;simp[w,e,J,U,X]
  ·subst hs;rw[aW];simp[w,e,-aW];refine c1 T ?_;simp[w,e,-aW];refine join (fun st=>aN st.env 3=.p (.str d)/\aN st.env 4=.p (.int .i64 k)/\st.heap=[]) ?_ ?_
   ·by_cases y:c=45
    ·have X:¬v=[48]:=fun h=>P ⟨ao.1 y,h⟩;subst y;clear z F l V;simp[w,e,J,U];refine c1 M ?_;simp[w,e,J,U,X]
    ·have aJ:¬(c:Int)=45:=by omega
     clear z F l V;simp[w,e,J,U];refine c1 M ?_;simp[w,e,J,U,y,aJ]
   clear w e;rintro⟨aI,aV⟩ ⟨e,j,ak⟩;dsimp only at e j ak;subst ak;cases ai:fr with
   |false=>
    have i:k=d.length:=by
     rcases z with⟨q1,_⟩|⟨_,G,_⟩
     ·rw[ai]at q1;cases q1
     ·rw[<-hk,G]
    have aE:¬k<d.length:=by omega
    have aT:f=[]:=by
     rcases z with⟨q1,_⟩|⟨_,_,a6⟩
     ·rw[ai]at q1;cases q1
     ·exact a6
    have hf:N=true:=by
     rw[ag,K,ai];simp
     by_cases y:neg=true
     ·exact .inr fun O=>P ⟨y,O⟩
     ·exact .inl (by simpa using y)
    have Z:bf.wrap ((d.length:Int)-k)=0:=by rw[i,Int.sub_self];rfl
    have ab:bf.wrap (-1)= -1:=rfl;rw[hf,hk,aT];clear z F l V
    by_cases I:600<k
    ·have B:¬(k:Int)<=600:=by omega
     have C:¬k<=600:=by omega
     have D:(600:Int)<k:=by omega
     simp[e,j,aE,I,B,C,D]
    ·have B:(k:Int)<=600:=by omega
     have C:k<=600:=by omega
     have D:¬(600:Int)<k:=by omega
     simp[e,j,aE,I,B,C,D,Z,ab]
   |true=>
    rw[ai]at ag V;have ar:d=v++47::f:=by
     rcases z with⟨_,G⟩|⟨q1,_⟩
     ·exact G
     ·rw[ai]at q1;cases q1
    have i:k<d.length:=by rw[ar];simp;omega
    have q:d.drop (k+1)=f:=by
     conv=>lhs;rw[ar,<-hk]
     simp
    have ba:d.length=k+1+f.length:=by rw[ar];simp;omega
    have u:bf.wrap ((k:Int)+1)=(k:Int)+1:=aO _ (by omega) (by omega);have t:((k:Int)+1).toNat=k+1:=by omega
    have m:(0:Int)<=k+1:=by omega
    have n:(k:Int)+1<=d.length:=by omega
    have o:k+1<=d.length:=i;clear z F;have af:N=(dO f&&decide (f≠[48])&&decide (f≠[49])):=by
     rw[ag,K];have:(neg&&decide (v=[48]))=false:=by
      by_cases y:neg=true
      ·have:¬v=[48]:=fun O=>P ⟨y,O⟩;simp[this]
      ·have:neg=false:=by simpa using y
       rw[this];rfl
     rw[this];simp
    by_cases ap:N=true
    ·rw[ap]at af;have aY:¬N=false:=by rw[ap];decide
     rw[if_neg aY];have aL:dO f=true/\¬f=[48]/\¬f=[49]:=by
      have:=af.symm;simp only[be,decide_eq_true_eq]at this;exact⟨this.1.1,this.1.2,this.2⟩
     obtain⟨L,H,E⟩:=aL;rw[L]at l;rw[hk];have Z:bf.wrap ((d.length:Int)-k)=(d.length:Int)-k:=aO _ (by omega) (by omega);have ab:bf.wrap ((d.length:Int)-k-1)=f.length:=by rw[aO _ (by omega) (by omega)];omega
     by_cases I:600<k
     ·have B:¬(k:Int)<=600:=by omega
      have C:¬k<=600:=by omega
      have D:(600:Int)<k:=by omega
      simp[e,j,i,u,t,m,n,o,q];refine c1 l ?_;simp[e,j,i,u,t,m,n,o,q,H,E,I,B,C,D]
     by_cases ac:600<f.length
     ·have B:(k:Int)<=600:=by omega
      have C:k<=600:=by omega
      have D:¬(600:Int)<k:=by omega
      have ad:(600:Int)<f.length:=by omega
      simp[e,j,i,u,t,m,n,o,q];refine c1 l ?_;simp[e,j,i,u,t,m,n,o,q,H,E,I,B,C,D,Z,ab,ac,ad]
     have B:(k:Int)<=600:=by omega
     have C:k<=600:=by omega
     have D:¬(600:Int)<k:=by omega
     have ad:¬(600:Int)<f.length:=by omega
     have R:=V (ks K) (ks L) rfl aD (by omega);have aU:=zD L H;have a4:v.length<=700:=by omega
     have a5:f.length<=700:=by omega
     have aP:aX v<10^700:=Qk (s:=v) (k:=700) a4 (ks K);have aQ:aX f<10^700:=Qk (s:=f) (k:=700) a5 (ks L);have aF:∀x:Nat,x<10^700->(az bT x).length<=400000:=fun x hx=>dy (aKh (a:=700) (b:=78) hx (by decide)) (by decide);have Q:=LZ (aX v) (aX f) (aF _ aP) (aF _ aQ);have aB:0<eo (aX v) (aX f):=eb _ aU;generalize aX v=a8 at*;generalize aX f=a7 at*;obtain⟨g,am⟩:∃g,eo a8 a7=g:=⟨_,rfl⟩
     simp only[am]at Q aB⊢;have a3:¬(600<k\/600<f.length):=fun h=>by rcases h with h|h;exact I h;exact ac h
     rw[if_neg a3];simp only[eG,bi]at R
     by_cases aq:g=1
     ·subst aq;have ae:az bT 1=[1]:=ov (by decide) (by decide);simp only[eT,ae]at Q R;simp[e,j,i,u,t,m,n,o,q];refine c1 l ?_;simp[e,j,i,u,t,m,n,o,q,H,E,I,B,C,D,Z,ab,ac,ad];refine c1 R ?_;simp[aa];refine c2 Q ?_;simp[am]
     ·by_cases aC:g<bT
      ·have ae:az bT g=[g]:=ov aB aC;have a0:¬(g:Int)=1:=by omega
       simp only[eT,ae]at Q R;simp[e,j,i,u,t,m,n,o,q];refine c1 l ?_;simp[e,j,i,u,t,m,n,o,q,H,E,I,B,C,D,Z,ab,ac,ad];refine c1 R ?_;simp[aa];refine c2 Q ?_;simp[aq,a0,am]
      ·have ae:¬((az bT g).length:Int)=1:=by
        intro h;have O:(az bT g).length=1:=by omega
        have:=cj aZ g;rw[O,fa]at this;exact aC this
       simp only[eT]at Q R;simp[e,j,i,u,t,m,n,o,q];refine c1 l ?_;simp[e,j,i,u,t,m,n,o,q,H,E,I,B,C,D,Z,ab,ac,ad];refine c1 R ?_;simp[aa];refine c2 Q ?_;simp[aq,ae,am]
    ·have aA:N=false:=by simpa using ap
     rw[if_pos aA]
     by_cases L:dO f=true
     ·rw[L]at l
      by_cases H:f=[48]
      ·simp[e,j,i,u,t,m,n,o,q];refine c1 l ?_;simp[e,j,i,u,t,m,n,o,q,H]
      ·have E:f=[49]:=by
        rw[L]at af
        by_cases E:f=[49]
        ·exact E
        ·rw[aA]at af;simp[H,E]at af
       simp[e,j,i,u,t,m,n,o,q];refine c1 l ?_;simp[e,j,i,u,t,m,n,o,q,E]
     ·have aK:dO f=false:=by simpa using L
      rw[aK]at l;simp[e,j,i,u,t,m,n,o,q];refine c1 l ?_;simp[e,j,i,u,t,m,n,o,q]
 ·have ay:dO v=false:=by simpa using K
  have hf:N=false:=by rw[ag,ay];rfl
  rw[if_pos hf];rw[ay]at M;simp[w,e];refine c1 T ?_;simp[w,e,J,U];refine c1 M ?_;simp[w,e]
theorem VQ(l:List (List Nat))(f:l.length<=1000000)(hs:∀s∈l,jB s):au prog 116 [.seq (l.map .str)] (.int .i64 (bF (l.map b6))):=by
 refine aG nf PG mix (by simp[f116]) ?_;simp[f116];refine lp (α:=Nat) (fun i=>⟨[(3,.p (.int .i64 i)),(0,.p (.seq (l.map .str)))],[]⟩) (fun i=>i<=l.length/\bF ((l.drop i).map b6)=bF (l.map b6)) (fun i=>l.length-i) 0 (by simp) ?_;rintro i ⟨e,a⟩
 by_cases hi:i<l.length
 ·rw[List.drop_eq_getElem_cons hi]at a;have d:=ct (i:=i) (by omega);have hc:=xB l[i] (hs _ (cx hi));obtain⟨s,b⟩:∃s,l[i]=s:=⟨_,rfl⟩
  have c:l[i]?=some s:=by rw[cd hi,b]
  rw[b]at hc a;simp[hi,c,b];refine c1 hc ?_
  by_cases he:b6 s=0
  ·simp[bF,he]at a;simp[he,d];exact rd (i+1) ⟨hi,by simpa using a⟩
  ·simp[bF,he]at a;simp[he,<-a]
 ·have:i=l.length:=by omega
  subst this;simp[bF]at a;simp[<-a]
theorem yL(p:cw)(a:iV p):au prog 44 [dm p] (.int .i64 (dL p)):=by
 have hc:=VQ [p.x,p.y] (by simp) (by intro s hs;simp at hs;rcases hs with rfl|rfl;exact a.1;exact a.2);refine aG nf Re mix (by simp[f44]) ?_;simp[f44,aa];refine cp hc (by simp;exact⟨rfl,rfl⟩) ?_;simp[dL]
theorem JB(z:Int):47∉bN z:=by
 rw[bN];split
 ·simp only[dp,not_or];exact⟨by decide,BI (sC _) rfl⟩
 ·exact BI (sC _) rfl
theorem B2(q:Rat):(b8 47 (bc q)).1=bN q.num/\(q.den≠1->bc q=bN q.num++47::bd q.den)/\(q.den=1->bc q=bN q.num):=by
 by_cases h:q.den=1
 ·have e:bc q=bN q.num:=by rw[bc,if_pos h]
  refine⟨?_,fun a=>(a h).elim,fun _=>e⟩;rw[e,CY 47 _ (JB _)]
 ·have e:bc q=bN q.num++47::bd q.den:=by rw[bc,if_neg h]
  refine⟨?_,fun _=>e,fun a=>(h a).elim⟩;rw[e,Dj 47 _ _ (JB _)]
theorem ZZ(q:Rat)(h:br kB q):au prog 209 [.str (bc q)] (.str (bN q.num)):=by
 have i:=rJ h;obtain⟨e,c,d⟩:=B2 q;have hs:=wZ (bc q) (by omega);rw[e]at hs;have g:(bc q).take (bN q.num).length=bN q.num:=by
  by_cases b:q.den=1
  ·rw[d b];simp
  ·rw[c b];simp
 have f:(bN q.num).length<=(bc q).length:=by
  by_cases b:q.den=1
  ·rw[d b];exact eP _
  ·rw[c b];simp
 refine aG nf Gy mix (by simp[f209]) ?_;generalize bN q.num=a at*;generalize bc q=s at*;simp[f209];refine c1 hs ?_;simp[g,f]
theorem ZU(q:Rat)(h:br kB q):au prog 210 [.str (bc q)] (.str (bd q.den)):=by
 have d:=rJ h;obtain⟨i,j,k⟩:=B2 q;have hs:=wZ (bc q) (by omega);rw[i]at hs;refine aG nf Gx mix (by simp[f210]) ?_
 by_cases c:q.den=1
 ·have e:=k c;rw[c,aLF];rw[e]at hs⊢;generalize bN q.num=a at*;simp[f210];refine c1 hs ?_;simp
 ·have e:=j c;rw[e]at hs d⊢;generalize bN q.num=a at*;generalize bd q.den=b at*;simp only[List.length_append,List.length_cons]at d;have m:¬(a.length:Int)=(a.length:Int)+(b.length+1):=by omega
  have p:bf.wrap ((a.length:Int)+1)=(a.length:Int)+1:=aO _ (by omega) (by omega);have o:((a.length:Int)+1).toNat=a.length+1:=by omega
  have f:(0:Int)<=(a.length:Int)+1:=by omega
  have g:(a.length:Int)+1<=(a.length:Int)+(b.length+1):=by omega
  have l:List.drop (a.length+1) (a++47::b)=b:=by simp
  have n:cy (a.length+(b.length+1)) (a++47::b)=a++47::b:=ce (by simp);simp[f210];refine c1 hs ?_;simp[m,p,o,f,g,l,n]
theorem ZS(z:Int)(h:(bN z).length<=1000000):au prog 208 [.str (bN z)] (.str (bd z.natAbs)):=by
 have a:=On (bN z) (by omega);have g:bY (bN z)=decide (z<0):=by
  have:=(zk z []).1;rwa [List.append_nil]at this
 have f:bN z=[48]↔z=0:=by
  have e:bN z=bc (z:Rat):=by rw[bc,if_pos (fv z),fm]
  rw[e,JA]
  exact_mod_cast Iff.rfl
 refine aG nf H7 mix (by simp[f208]) ?_;rw[g]at a
 by_cases c:z<0
 ·have e:bN z=45::bd z.natAbs:=by rw[bN,if_pos c]
  rw[if_neg (fun x=>by have:=f.1 x;omega),if_pos (by simpa using c)]at a;rw[e]at a⊢;simp[f208];refine c1 a ?_;simp
 ·have e:bN z=bd z.natAbs:=by rw[bN,if_neg c]
  have b:∃v:Int,¬v<0/\au prog 152 [.str (bN z)] (.int .i64 v):=by
   by_cases d:bN z=[48]
   ·rw[if_pos d]at a;exact⟨0,by omega,a⟩
   ·rw[if_neg d,if_neg (by simpa using c)]at a;exact⟨1,by omega,a⟩
  obtain⟨v,i,b⟩:=b;rw[e]at b⊢;simp[f208];refine c1 b ?_;simp[i]
def fh(s:List Nat)(D:Nat):Bool:=decide (s.length<=2*D+2)&&decide (b6 s=0)&&decide ((bd (bg s).num.natAbs).length<=D)&&decide ((bd (bg s).den).length<=D)
theorem axz{s:List Nat}(h:b6 s=0):br kB (bg s):=by
 obtain⟨b,c⟩:=GW h;have a:(10:Nat)^mD<=2^kB:=dy (M6 mD) (dz (by decide) (by decide));exact⟨dx b a,dx c a⟩
theorem A8(s:List Nat)(D:Nat)(hs:jB s)(u:D<=100000):au prog 115 [.str s,.int .i64 D] (.bool (fh s D)):=by
 have g:=xB s hs;have v:=hs.1;refine aG nf PH mix (by simp[f115]) ?_;have w1:bf.wrap (2*(D:Int))=2*(D:Int):=aO _ (by omega) (by omega);have h:bf.wrap (2*(D:Int)+2)=2*(D:Int)+2:=aO _ (by omega) (by omega)
 by_cases m:s.length<=2*D+2
 ·have f:(s.length:Int)<=2*(D:Int)+2:=by omega
  by_cases d:b6 s=0
  ·have l:=axz d;have e:=(jm d).1;rw[d]at g;have k:=ZZ (bg s) l;have o:=ZU (bg s) l;have q:(bN (bg s).num).length<=1000000:=by
    have:=rJ l;obtain⟨_,r,t⟩:=B2 (bg s)
    by_cases p:(bg s).den=1
    ·rw[t p]at this;exact this
    ·rw[r p]at this;simp at this;omega
   have n:=ZS (bg s).num q;rw[e]at k o;have hf:fh s D=(decide ((bd (bg s).num.natAbs).length<=D)&&decide ((bd (bg s).den).length<=D)):=by
    rw[fh,decide_eq_true m,decide_eq_true d];simp
   rw[hf];generalize bd (bg s).num.natAbs=a at*;generalize bd (bg s).den=b at*;generalize bN (bg s).num=c at*
   by_cases i:a.length<=D
   ·have j:(a.length:Int)<=D:=by omega
    simp[f115,w1,h,f];refine c1 g ?_;simp;refine c1 k ?_;simp;refine c1 n ?_;simp[i,j];refine c1 o ?_;simp[i]
   ·have j:¬(a.length:Int)<=D:=by omega
    simp[f115,w1,h,f];refine c1 g ?_;simp;refine c1 k ?_;simp;refine c1 n ?_;simp[i,j]
  ·have hf:fh s D=false:=by rw[fh,decide_eq_false d];simp
   rw[hf];simp[f115,w1,h,f];refine c1 g ?_;simp[d]
 ·have f:¬(s.length:Int)<=2*(D:Int)+2:=by omega
  have hf:fh s D=false:=by rw[fh,decide_eq_false m];simp
  rw[hf];simp[f115,w1,h,f]
structure V2 where
 x:Rat
 y:Rat
def eV(v:V2):PV:=dm ⟨bc v.x,bc v.y⟩
@[simp] theorem aPH(v:V2):aI (eV v)=.agg 31:=rfl
@[simp] theorem aN7(v:V2):bW (eV v)=[.str (bc v.x),.str (bc v.y)]:=rfl
theorem uL(x y:Rat):eV ⟨x,y⟩=.st 31 [.str (bc x),.str (bc y)]:=rfl
def bt(k:Nat)(v:V2):Prop:=br k v.x/\br k v.y
theorem bt.mono{k l:Nat}{v:V2}(h:bt k v)(a:k<=l):bt l v:=⟨h.1.mono a,h.2.mono a⟩
def V2.sub(v w:V2):V2:=⟨v.x-w.x,v.y-w.y⟩
def V2.add(v w:V2):V2:=⟨v.x+w.x,v.y+w.y⟩
def V2.mul(v:V2)(k:Rat):V2:=⟨v.x*k,v.y*k⟩
def V2.dot(v w:V2):Rat:=v.x*w.x+v.y*w.y
def V2.bL(v w:V2):Rat:=v.x*w.y-v.y*w.x
theorem iH{k l:Nat}{v w:V2}(h:bt k v)(a:bt l w):bt (k+l+1) (v.sub w):=⟨jW h.1 a.1,jW h.2 a.2⟩
theorem aJ3{k l:Nat}{v w:V2}(h:bt k v)(a:bt l w):bt (k+l+1) (v.add w):=⟨qA h.1 a.1,qA h.2 a.2⟩
theorem gJ{k l:Nat}{v w:V2}(h:bt k v)(a:bt l w):br (k+l+(k+l)+1) (v.dot w):=qA (cW h.1 a.1) (cW h.2 a.2)
theorem pB{k l:Nat}{v w:V2}(h:bt k v)(a:bt l w):br (k+l+(k+l)+1) (v.bL w):=jW (cW h.1 a.2) (cW h.2 a.1)
theorem FO{k l:Nat}{v:V2}{a:Rat}(h:bt k v)(b:br l a):bt (k+l) (v.mul a):=⟨cW h.1 b,cW h.2 b⟩
def kQ:Nat:=20000
theorem dM{q:Rat}(h:br kQ q):br kB q:=h.mono (by decide)
theorem uU(v w:V2)(a:bt kQ v)(b:bt kQ w):au prog 32 [eV v,eV w] (eV (v.sub w)):=by
 have c:=qx v.x w.x (dM a.1) (dM b.1);have d:=qx v.y w.y (dM a.2) (dM b.2);refine aG nf Q9 mix (by simp[f32]) ?_;rw[V2.sub,uL];simp[f32,aa];refine e2 c ?_;simp[aa];refine e2 d ?_;simp[aa]
theorem Aq(v w:V2)(a:bt kQ v)(b:bt kQ w):au prog 90 [eV v,eV w] (.str (bc (v.dot w))):=by
 have c:=iG v.x w.x (dM a.1) (dM b.1);have d:=iG v.y w.y (dM a.2) (dM b.2);have e:=xO (v.x*w.x) (v.y*w.y) ((cW a.1 b.1).mono (by decide)) ((cW a.2 b.2).mono (by decide));refine aG nf RA mix (by simp[f90]) ?_;rw[V2.dot];simp[f90,aa];refine e2 c ?_;simp[aa];refine e2 d ?_;simp[aa];refine e2 e ?_;simp
theorem BK(v w:V2)(a:bt kQ v)(b:bt kQ w):au prog 151 [eV v,eV w] (.str (bc (v.bL w))):=by
 have c:=iG v.x w.y (dM a.1) (dM b.2);have d:=iG v.y w.x (dM a.2) (dM b.1);have e:=qx (v.x*w.y) (v.y*w.x) ((cW a.1 b.2).mono (by decide)) ((cW a.2 b.1).mono (by decide));refine aG nf PA mix (by simp[f151]) ?_;rw[V2.bL];simp[f151,aa];refine e2 c ?_;simp[aa];refine e2 d ?_;simp[aa];refine e2 e ?_;simp
theorem zg(v:V2)(a:bt kQ v):au prog 91 [eV v] (.str (bc (v.dot v))):=by
 refine aG nf RC mix (by simp[f91]) ?_;simp[f91,aa];refine c2 (Aq v v a a) ?_;simp
def ld(r:Int):Rat:=((4*r*r:Int):Rat)
theorem xk{r:Int}(a:0<=r)(b:r<=1000000):0<=4*r*r/\4*r*r<=4000000000000:=by
 have c:=cc a a;have d:=Int.mul_le_mul b b a (by decide);rw[Int.mul_assoc];omega
theorem rQ{r:Int}(a:0<=r)(b:r<=1000000):br 42 (ld r):=by
 have:=xk a b;exact Ac (by omega) (by decide)
theorem ag4(r:Int)(a:0<=r)(b:r<=1000000):au prog 93 [.int .i64 r] (.str (bc (ld r))):=by
 have e:=xk a b;have c:=AA (4*r*r) (by omega) (by omega);have w1:bf.wrap (4*r)=4*r:=aO _ (by omega) (by omega);have d:bf.wrap (4*r*r)=4*r*r:=aO _ (by omega) (by omega);refine aG nf RE mix (by simp[f93]) ?_;rw[ld];simp[f93,w1,d];refine c1 c ?_;simp
def pU(r:Int)(w d:V2):Rat:=w.dot d*w.dot d-d.dot d*(w.dot w-ld r)
theorem Xn{r:Int}{w d:V2}(c:0<=r)(e:r<=1000000)(b:bt 500 w)(a:bt 500 d):br 12000 (pU r w d):=by
 refine(jW (cW (gJ b a) (gJ b a)) (cW (gJ a a) (jW (gJ b b) (rQ c e)))).mono (by decide)
theorem Mo(r:Int)(w d:V2)(i:0<=r)(j:r<=1000000)(c:bt 500 w)(b:bt 500 d):au prog 92 [.int .i64 r,eV w,eV d] (.str (bc (pU r w d))):=by
 have l:bt kQ w:=c.mono (by decide);have k:bt kQ d:=b.mono (by decide);have a:=gJ c b;have f:=gJ b b;have h:=gJ c c;have g:=rQ i j;have e:=jW h g;have o:=Aq w d l k;have q:=iG (w.dot d) (w.dot d) (a.mono (by decide)) (a.mono (by decide));have t:=zg d k;have u:=zg w l;have p:=ag4 r i j;have m:=qx (w.dot w) (ld r) (h.mono (by decide)) (g.mono (by decide));have s:=iG (d.dot d) (w.dot w-ld r) (f.mono (by decide)) (e.mono (by decide));have n:=qx (w.dot d*w.dot d) (d.dot d*(w.dot w-ld r)) ((cW a a).mono (by decide)) ((cW f e).mono (by decide));refine aG nf RD mix (by simp[f92]) ?_;rw[pU];simp[f92,aa];refine c2 o ?_;simp[aa];refine e2 q ?_;simp[aa];refine e1 t ?_;simp[aa];refine e1 u ?_;simp[aa];refine e1 p ?_;simp[aa];refine e2 m ?_;simp[aa];refine e2 s ?_;simp[aa];refine e2 n ?_;simp
def sM(r:Int)(w d:V2):Bool:=decide (0<bX (w.dot d))&&decide (0<bX (pU r w d))
theorem ZY(r:Int)(w d:V2)(c:0<=r)(e:r<=1000000)(b:bt 500 w)(a:bt 500 d):au prog 70 [.int .i64 r,eV w,eV d] (.bool (sM r w d)):=by
 have f:=Aq w d (b.mono (by decide)) (a.mono (by decide));have g:=l7 (w.dot d) ((gJ b a).mono (by decide));have j:=Mo r w d c e b a;have i:=l7 (pU r w d) ((Xn c e b a).mono (by decide));refine aG nf Rq mix (by simp[f70]) ?_;rw[sM];generalize bX (w.dot d)=s1 at*;generalize bX (pU r w d)=s2 at*
 by_cases h:0<s1
 ·simp[f70,aa];refine c2 f ?_;simp[aa];refine c1 g ?_;simp[aa,h];refine c3 j ?_;simp[aa];refine c1 i ?_;simp[h]
 ·simp[f70,aa];refine c2 f ?_;simp[aa];refine c1 g ?_;simp[aa,h]
structure S3 where
 a:Rat
 b:Rat
 d:Rat
def eS(s:S3):PV:=.st 36 [.str (bc s.a),.str (bc s.b),.str (bc s.d)]
@[simp] theorem aPx(s:S3):aI (eS s)=.agg 36:=rfl
@[simp] theorem aNY(s:S3):bW (eS s)=[.str (bc s.a),.str (bc s.b),.str (bc s.d)]:=rfl
theorem qD(a b d:Rat):eS ⟨a,b,d⟩=.st 36 [.str (bc a),.str (bc b),.str (bc d)]:=rfl
def tT(r:Int)(w d:V2):S3:=⟨w.dot d/d.dot d,-(d.dot d)⁻¹,pU r w d⟩
theorem WZ(r:Int)(w d:V2)(f:0<=r)(g:r<=1000000)(c:bt 500 w)(a:bt 500 d)(e:d.dot d≠0):au prog 71 [.int .i64 r,eV w,eV d] (eS (tT r w d)):=by
 have b:=gJ a a;have j:=zg d (a.mono (by decide));have h:=Aq w d (c.mono (by decide)) (a.mono (by decide));have m:=I0 (w.dot d) (d.dot d) ((gJ c a).mono (by decide)) (b.mono (by decide)) e;have k:=I5 (d.dot d) (b.mono (by decide)) e;have i:=Oo (d.dot d)⁻¹ ((rP b).mono (by decide));have l:=Mo r w d f g c a;refine aG nf Rr mix (by simp[f71]) ?_;rw[tT,qD];simp[f71,aa];refine c1 j ?_;simp[aa];refine e2 h ?_;simp[aa];refine e2 m ?_;simp[aa];refine e1 k ?_;simp[aa];refine e1 i ?_;simp[aa];refine e3 l ?_;simp[aa]
theorem XU:prog.stoodInHeld 32=false:=by kernel_rfl
@[simp] theorem aNq:nR prog 32=true:=by kernel_rfl
def ui(a b c d:List Nat):Bool:=decide (a=c/\b=d)
@[simp] theorem aNu{a b c d:List Nat}:gh prog 9 32 (.st 31 [.str a,.str b]) (.st 31 [.str c,.str d])=some (ui a b c d):=by
 have e:=underlying32;have:((a==c)&&((b==d)&&true))=ui a b c d:=by
  rw[ui,Bool.eq_iff_iff];simp
 rw[<-this];simp[gh,e,XU,ka,aI]
theorem Z3:au prog 150 [] (eV ⟨0,0⟩):=by
 refine aG nf PB mix (by simp[f150]) ?_;rw[uL,se];simp[f150,aa]
def jd(p:cw):Int:=if dL p=0/\p.x=[48]/\p.y=[48]then 6 else dL p
theorem Ji(p:cw)(e:iV p):au prog 68 [dm p] (.int .i64 (jd p)):=by
 have a:=yL p e;have b:=Z3;rw[uL,se]at b;refine aG nf Rn mix (by simp[f68]) ?_;rw[jd];obtain⟨x,y⟩:=p;simp only[dm]at*;generalize dL ⟨x,y⟩=c at*
 by_cases h:c=0
 ·by_cases hx:x=[48]
  ·by_cases d:y=[48]
   ·simp[f68,aa];refine c1 a ?_;simp[h,aa];refine e0 b ?_;simp[hx,d,ui,h]
   ·simp[f68,aa];refine c1 a ?_;simp[h,aa];refine e0 b ?_;simp[hx,d,ui,h]
  ·simp[f68,aa];refine c1 a ?_;simp[h,aa];refine e0 b ?_;simp[hx,ui,h]
 ·simp[f68,aa];refine c1 a ?_;simp[h,aa]
theorem D6(p:cw)(D:Nat)(d:iV p)(c:D<=100000):au prog 45 [dm p,.int .i64 D] (.bool (fh p.x D&&fh p.y D)):=by
 have a:=A8 p.x D d.1 c;have b:=A8 p.y D d.2 c;refine aG nf Rf mix (by simp[f45]) ?_;obtain⟨x,y⟩:=p;dsimp only at a b⊢;simp only[dm];cases hx:fh x D
 ·rw[hx]at a;simp[f45,aa];refine c2 a ?_;simp
 ·rw[hx]at a;simp[f45,aa];refine c2 a ?_;simp[aa];refine c2 b ?_;simp
def vi(k:Nat)(s:S3):Prop:=br k s.a/\br k s.b/\br k s.d
theorem vi.mono{k l:Nat}{s:S3}(h:vi k s)(a:k<=l):vi l s:=⟨h.1.mono a,h.2.1.mono a,h.2.2.mono a⟩
def S3.add(s t:S3):S3:=⟨s.a+t.a,s.b+t.b,s.d⟩
def S3.mul(s t:S3):S3:=⟨s.a*t.a+s.b*t.b*s.d,s.a*t.b+t.a*s.b,s.d⟩
def S3.times(x:Rat)(s:S3):S3:=⟨x*s.a,x*s.b,s.d⟩
theorem Qn(a b d:List Nat):au prog 74 [.str a,.str b,.str d] (.st 36 [.str a,.str b,.str d]):=by
 refine aG nf Ru mix (by simp[f74]) ?_;simp[f74,aa]
structure P4 where
 x:S3
 y:S3
def pf(p:P4):PV:=.st 48 [eS p.x,eS p.y]
@[simp] theorem aPs(p:P4):aI (pf p)=.agg 48:=rfl
@[simp] theorem aNT(p:P4):bW (pf p)=[eS p.x,eS p.y]:=rfl
theorem Qf(x y:S3):pf ⟨x,y⟩=.st 48 [eS x,eS y]:=rfl
@[simp] theorem ceS:prog.cellsOf 36=3:=by kernel_rfl
def Fm(k:Nat)(p:P4):Prop:=vi k p.x/\vi k p.y
theorem Fm.mono{k l:Nat}{p:P4}(h:Fm k p)(a:k<=l):Fm l p:=⟨h.1.mono a,h.2.mono a⟩
def P4.dot(v:V2)(p:P4):S3:=(S3.times v.x p.x).add (S3.times v.y p.y)
theorem kt(q:Rat):bX q= -1\/bX q=0\/bX q=1:=by
 rw[bX];split
 ·exact .inl rfl
 ·split
  ·exact .inr (.inl rfl)
  ·exact .inr (.inr rfl)
theorem EP(x y:Rat):dA x y= -1\/dA x y=0\/dA x y=1:=by
 rw[dA];split
 ·exact .inl rfl
 ·split
  ·exact .inr (.inl rfl)
  ·exact .inr (.inr rfl)
theorem ky{a b:Int}(c:a= -1\/a=0\/a=1)(d:b= -1\/b=0\/b=1):a*b= -1\/a*b=0\/a*b=1:=by
 rcases c with rfl|rfl|rfl<;>rcases d with rfl|rfl|rfl<;>simp
theorem ku{a:Int}(b:a= -1\/a=0\/a=1):bf.wrap a=a:=by
 rcases b with rfl|rfl|rfl<;>decide
def lJ(a b o:Int):Int:=if 0<=a*b then(if a=0 then b else a)else a*o
def gv(s:S3):Int:=lJ (bX s.a) (bX s.b*bX s.d) (dA (s.a*s.a) (s.b*s.b*s.d))
theorem SP{a b o:Int}(c:a= -1\/a=0\/a=1)(d:b= -1\/b=0\/b=1)(e:o= -1\/o=0\/o=1):lJ a b o= -1\/lJ a b o=0\/lJ a b o=1:=by
 rw[lJ]
 split
 ·split
  ·exact d
  ·exact c
 ·exact ky c e
theorem A7(s:S3):gv s= -1\/gv s=0\/gv s=1:=SP (kt _) (ky (kt _) (kt _)) (EP _ _)
theorem Qd(s:S3)(hs:vi 8000 s):au prog 156 [eS s] (.int .i64 (gv s)):=by
 have i:=l7 s.a (hs.1.mono (by decide));have j:=l7 s.b (hs.2.1.mono (by decide));have k:=l7 s.d (hs.2.2.mono (by decide));have l:=iG s.a s.a (hs.1.mono (by decide)) (hs.1.mono (by decide));have m:=iG s.b s.b (hs.2.1.mono (by decide)) (hs.2.1.mono (by decide));have n:=iG (s.b*s.b) s.d ((cW hs.2.1 hs.2.1).mono (by decide)) (hs.2.2.mono (by decide));have p:=qX (s.a*s.a) (s.b*s.b*s.d) ((cW hs.1 hs.1).mono (by decide)) ((cW (cW hs.2.1 hs.2.1) hs.2.2).mono (by decide));have e:=kt s.a;have f:=ky (kt s.b) (kt s.d);have h:=EP (s.a*s.a) (s.b*s.b*s.d);have w1:=ku f;refine aG nf Qg mix (by simp[f156]) ?_;rw[gv];generalize dA (s.a*s.a) (s.b*s.b*s.d)=o at*;generalize bX s.a=x at*;generalize bX s.b=y1 at*;generalize bX s.d=y2 at*;have g:=ku (ky e f);have r:=ku (ky e h);simp[f156,aa,-aW];rw[aW];simp[-aW,aa];rw[aW];simp[-aW,aa];refine e1 i ?_;simp[aa];refine e1 j ?_;simp[aa];refine e1 k ?_;simp[aa,w1];generalize y1*y2=y at*;rw[lJ]
 by_cases c:0<=x*y
 ·rw[if_pos c]
  by_cases c2:x=0
  ·subst c2;have q:bf.wrap 0=0:=by decide
   simp[q,aa]
  ·rw[if_neg c2];simp[c,c2,g,aa]
 ·rw[if_neg c];simp[c,g,aa];refine e2 l ?_;simp[aa];refine e2 m ?_;simp[aa];refine e2 n ?_;simp[aa];refine e2 p ?_;simp[aa,r]
end Go.ak
