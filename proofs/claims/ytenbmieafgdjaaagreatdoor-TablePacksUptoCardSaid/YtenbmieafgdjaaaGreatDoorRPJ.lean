import Derived.Test.YtenbmieafgdjaaaGreatDoorRPI
import Derived.Test.YtenbmieafgdjaaaGreatDoorRPH
import Derived.Test.YtenbmieafgdjaaaGreatDoorRPG
/- Parts of a proof. -/
set_option linter.unusedSimpArgs false
set_option linter.unusedVariables false
set_option linter.unusedSectionVars false
open Go.Proofs.Tryz
open Bool renaming false_eq_true->bb, and_eq_true->be
open Go.IntKind renaming i64->bi
open Int renaming natAbs_natCast->bk, ofNat_natAbs_of_nonpos->bl, natCast_nonneg->bo, natAbs_mul->bv, tdiv_eq_ediv_of_nonneg->b0, mul_ediv_cancel_left->b1, natAbs_neg->b2, ofNat_dvd_left->b3, natCast_ediv->b4, tmod_eq_emod_of_nonneg->b5, natAbs_of_nonneg->cb, natCast_emod->cc, mul_nonneg->ce
open List renaming getElem?_eq_getElem->ck, take_of_length_le->cv, all_eq_true->cx, length_take->cy, getElem_mem->c6, take->c9, length_pos_iff->da, length_drop->db, length->dg, getElem_of_eq->dk, take_length->dl, take_take->dp, mem_cons->dq, map_take->dz
open Nat renaming lt_of_lt_of_le->ea, le_trans->eb, pow_le_pow_right->ec, lt_of_le_of_lt->ed, gcd_pos_of_pos_right->ee, zero_le->ei, pow_succ->ej, lt_or_ge->em, mul_lt_mul''->en, gcd_le_right->eo, gcd_dvd_left->eq, div_le_self->ew, gcd->ey, div_div_eq_div_mul->e6, pow_mul->e7, pow_add->e8, le_refl->e9, div_pos->fb, min_eq_left->fd, pow_zero->fl, pow_pos->fm, pow_one->fv, div_one->fV
open Rat renaming divInt->gb, neg_divInt_neg->gc, num_intCast->ge, den_intCast->gg, neg_num->gi, not_le->gj
namespace Go.aj
open Go.Proofs
set_option maxHeartbeats 4000000
set_option maxRecDepth 100000
theorem Vn{s:List Nat}{i:Nat}(h:i<s.length):aU (s.take (i+1))=aU (s.take i)*10+(s[i]-48):=by
 rw[List.take_succ_eq_append_getElem h,xU]
theorem u7{s:List Nat}{p:Nat->Bool}(h:s.all p=true)(i:Nat):(s.take i).all p=true:=by
 rw[cx]at h⊢;intro x hx;exact h x (List.mem_of_mem_take hx)
theorem LC{s:List Nat}{p:Nat->Bool}(h:s.all p=true)(i:Nat):(s.drop i).all p=true:=by
 rw[cx]at h⊢;intro x hx;exact h x (List.mem_of_mem_drop hx)
theorem yJ{c:Nat}(h:cd c=true):48<=c/\c<=57:=by
 simpa[cd]using h
theorem yB(s:List Nat)(e:s.all cd=true)(B:s.length<=18):aw prog 196 [.str s] (.int .i64 (aU s:Nat)):=by
 refine aI nf FU mix (by simp[f196]) ?_;obtain⟨L,g⟩:∃L,L=s.length:=⟨_,rfl⟩
 have k:aU (s.take L)=aU s:=by rw[g,dl]
 rw[<-k];obtain⟨v,b⟩:∃v:Nat->Nat,∀i,aU (s.take i)=v i:=⟨_,fun _=>rfl⟩
 have o:v 0=0:=by rw[<-b];rfl
 have q:∀i(h:i<s.length),v (i+1)=v i*10+(s[i]-48):=fun i h=>by rw[<-b,<-b,Vn h]
 have f:∀i,i<=L->v i<10^i:=fun i hi=>by
  rw[<-b];exact jl i _ (by rw[cy];omega) (u7 e i)
 rw[b];simp[f196];refine lp (α:=Nat) (fun i=>⟨[(4,.p (.int .i64 i)),(3,.p (.int .i64 (v i:Nat))),(0,.p (.str s))],[]⟩)
  (fun i=>i<=L) (fun i=>L-i) 0 (ei _) ?_ (he:=by simp[o])
 intro i hi
 by_cases m:i<L
 ·have a:i<s.length:=by omega
  have j:=f i hi;have A:=f (i+1) m;have hc:=yJ (cx.1 e s[i] (c6 a));have hs:=q i a;have n:10^i<=10^17:=ec (by decide) (by omega);have z:v i<100000000000000000:=ea j (by exact n);generalize d:s[i]=c at*;generalize C:v i=x at*;have r:bi.wrap (10*(x:Int))=10*(x:Int):=aK _ (by omega) (by omega);have t:bi.wrap (10*(x:Int)+c)=10*(x:Int)+c:=aK _ (by omega) (by omega);have u:bi.wrap (10*(x:Int)+c-48)=(v (i+1):Nat):=by rw[hs,aK _ (by omega) (by omega)];omega
  have w:bi.wrap ((i:Int)+1)=(i:Int)+1:=aK _ (by omega) (by omega);have y:bi.wrap (c:Int)=c:=aK _ (by omega) (by omega);have l:s[i]?=some c:=by rw[ck a,d]
  simp[a,d,l,r,t,u,w,y];exact rd (i+1) (show i+1<=L by omega)
 ·have a:¬i<s.length:=by omega
  have:i=L:=by omega
  subst this;simp[a]
theorem Mr(c:Nat):∀s:List Nat,c∉(bZ c s).1
 |[]=>by simp[bZ]
 |x::r=>by
  rw[bZ]
  split
  ·simp
  ·rename_i h;simp only[dq,not_or];exact⟨fun e=>h e.symm,Mr c r⟩
theorem vA(s:List Nat)(x:s.length<=1048576):aw prog 94 [.str s] (.int .i64 ((bZ 47 s).1.length:Nat)):=by
 refine aI nf Qg mix (by simp[f94]) ?_;obtain⟨k,hk⟩:∃k,(bZ 47 s).1.length=k:=⟨_,rfl⟩
 have t:=Mr 47 s;have w:k<=s.length:=by rw[<-hk];exact(o7 47 s).1
 have n:∀j(h:j<s.length),j<k->¬s[j]=47:=by
  intro j h v e;apply t;rcases po 47 s with⟨_,b⟩|⟨_,b,_⟩
  ·have:s[j]=(bZ 47 s).1[j]'(by omega):=by
    conv=>lhs;rw[dk b]
    rw[List.getElem_append_left]
   have d:(bZ 47 s).1[j]'(by omega)∈(bZ 47 s).1:=c6 _;rw[<-this,e]at d;exact d
  ·rw[b];have d:s[j]∈s:=c6 _
   rwa [e]at d
 have b:∀(h:k<s.length),s[k]=47:=by
  intro h;rcases po 47 s with⟨_,g⟩|⟨_,g,_⟩
  ·rw[dk g,List.getElem_append_right (by omega)];simp[hk]
  ·rw[g]at hk;omega
 rw[hk];simp[f94];refine lp (α:=Nat) (fun i=>⟨[(3,.p (.int .i64 i)),(0,.p (.str s))],[]⟩)
  (fun i=>i<=k) (fun i=>k-i) 0 (ei _) ?_
 intro i hi;have u:bi.wrap ((i:Int)+1)=(i:Int)+1:=aK _ (by omega) (by omega)
 by_cases q:i<k
 ·have a:i<s.length:=by omega
  have f:=n i a q;generalize m:s[i]=c at*;have l:s[i]?=some c:=by rw[ck a,m]
  have o:¬(c:Int)=47:=by omega
  simp[a,m,l,o,f,u];exact rd (i+1) (show i+1<=k by omega)
 ·have r:i=k:=by omega
  subst r
  by_cases a:i<s.length
  ·have f:=b a;have l:s[i]?=some 47:=by rw[ck a,f]
   simp[a,f,l]
  ·have:i=s.length:=by omega
   simp[a,this]
theorem MS(n:Int)(M:-9223372036854775808<=n)(O:n<=9223372036854775807):aw prog 113 [.int .i64 n] (eG n):=by
 refine aI nf Gd mix (by simp[f113]) ?_;obtain⟨N,P⟩:∃N,n.natAbs=N:=⟨_,rfl⟩
 have D:N<bT^3:=by
  have:bT^3=1000000000000000000000000000:=by decide
  omega
 obtain⟨g,a⟩:∃g:Nat->Nat,∀i,N/bT^i=g i:=⟨_,fun _=>rfl⟩
 have F:g 0=N:=by rw[<-a,fl,fV]
 have H:∀i,g (i+1)=g i/bT:=fun i=>by rw[<-a,<-a,e6,ej]
 have A:∀i,ae bT N i=g i% bT:=fun i=>by rw[<-a];rfl
 have G:g 3=0:=by rw[<-a,Nat.div_eq_of_lt D]
 have k:∀i,g i<=N:=fun i=>by rw[<-a];exact ew _ _
 have y:∀i,i<=3->g i=0->aw prog 198 [.bool (decide (n<0)),.seq (iP (row bT i N))] (eG n):=fun i I hi=>by
  have h:=B8 (decide (n<0)) (row bT i N) N (jo aW (by
   rw[<-a]at hi;rcases em N (bT^i)with h|h
   ·exact h
   ·have:=fb h (fm (show 0<bT by decide));omega)) (by simp[row];omega)
  have e:(if decide (n<0)=true then -(N:Int)else N)=n:=by
   by_cases c:n<0
   ·simp[c];omega
   ·simp[c];omega
  rwa [e]at h
 obtain⟨m,f⟩:∃m:Nat->Int,∀i,(if n<0 then -(g i:Int)else g i)=m i:=⟨_,fun _=>rfl⟩
 have J:m 0=n:=by rw[<-f,F];split<;>omega
 simp only[eG]at y⊢;simp[f113];refine lp (α:=Nat) (fun i=>⟨[(0,.p (.int .i64 (m i))),(2,.ptr 0 []),(3,.sl 1 i 1 0 i),(4,.p (.bool (decide (n<0))))],[.box false (.p (.st 169 [.bool false,.aN])),.arr .grow i 1 (dY i N)]⟩)
  (fun i=>i<=3) (fun i=>3-i) 0 (ei _) ?_ (he:=by simp[J,dY]) (hh:=by simp[dY])
 intro i hi;have Q:bT=1000000000:=rfl;have L:=Nat.mod_lt (g i) (show 0<bT by decide);have R:=k i;have E:=Nat.div_add_mod (g i) bT;have u:g i% bT=ae bT N i:=(A i).symm
 by_cases d:g i=0
 ·have b:m i=0:=by rw[<-f,d];split<;>rfl
  have hs:=y i hi d;rcases i with _|i
  ·simp[b];refine cp hs (by simp[dY];first|exact⟨rfl,rfl⟩|rfl) ?_ (h1:=by simp[iP,row]);simp[aa]
  ·have j:¬dY (i+1) N=[]:=by intro h;have:=congrArg dg h;rw[iq]at this;simp at this
   simp[b];refine cp hs (by simp[iq,LN,j];first|exact⟨rfl,rfl⟩|rfl) ?_ (h1:=by simp[iP,row,dz,cv]);simp[aa]
 ·have I:i<3:=by
   rcases em i 3 with h|h
   ·exact h
   ·rw[show i=3 by omega]at d;exact(d G).elim
  have z:=H i;have K:=A i;have l:=qz i N;have x:c9 i (dY i N)=dY i N:=cv (by rw[iq];exact e9 _);rw[K]at l;obtain⟨r,B⟩:∃r,g i% bT=r:=⟨_,rfl⟩
  rw[B]at l L E;have u:=B.symm
  by_cases c:n<0
  ·have b:m i= -(g i:Int):=by rw[<-f,if_pos c]
   have o:m (i+1)= -(g (i+1):Int):=by rw[<-f,if_pos c]
   have j:¬(g i:Int)=0:=by omega
   have s:((g i:Nat):Int).tmod 1000000000=r:=by rw[u,b5 (bo _),cc];rfl
   have q:((g i:Nat):Int).tdiv 1000000000=(g (i+1):Nat):=by rw[z,b0 (bo _),b4 (g i)];rfl
   have wr:bi.wrap (r:Int)=r:=aK _ (by omega) (by omega);have C:bi.wrap (-(r:Int))= -r:=aK _ (by omega) (by omega);have t:bi.wrap (-(g (i+1):Int))= -(g (i+1):Nat):=aK _ (by have:=k (i+1);omega) (by have:=k (i+1);omega)
   by_cases v:r=0
   ·simp[b,d,j,s,q,wr,C,t,v,x,iq];refine⟨by simp only[cO];omega,?_⟩;exact rd (i+1) (show i+1<=3 by omega) (he:=by simp[o]) (hh:=by simp[l,v])
   ·have w:0<r:=by omega
    simp[b,d,j,s,q,wr,C,t,v,w,x,iq];refine⟨by simp only[cO];omega,?_⟩;exact rd (i+1) (show i+1<=3 by omega) (he:=by simp[o]) (hh:=by simp[l])
  ·have b:m i=(g i:Int):=by rw[<-f,if_neg c]
   have o:m (i+1)=(g (i+1):Int):=by rw[<-f,if_neg c]
   have j:¬(g i:Int)=0:=by omega
   have s:((g i:Nat):Int).tmod 1000000000=r:=by rw[u,b5 (bo _),cc];rfl
   have q:((g i:Nat):Int).tdiv 1000000000=(g (i+1):Nat):=by rw[z,b0 (bo _),b4 (g i)];rfl
   have wr:bi.wrap (r:Int)=r:=aK _ (by omega) (by omega);have t:bi.wrap (g (i+1):Int)=(g (i+1):Nat):=aK _ (by have:=k (i+1);omega) (by have:=k (i+1);omega);have w:¬(r:Int)<0:=by omega
   simp[b,d,j,s,q,wr,t,w,x,iq];refine⟨by simp only[cO];omega,?_⟩;exact rd (i+1) (show i+1<=3 by omega) (he:=by simp[o]) (hh:=by simp[l])
theorem I0{d:List Nat}(c:d.all cd=true){L i:Nat}(f:L=d.length)(h:9*(i+1)<=L):
 aU (d.take (L-9*(i+1)))=aU (d.take (L-9*i))/10^9/\aU ((d.take (L-9*i)).drop (L-9*(i+1)))=aU (d.take (L-9*i))% 10^9:=by
 have e:=List.take_append_drop (L-9*(i+1)) (d.take (L-9*i));rw[dp,fd (by omega)]at e;have a:=Kr (d.take (L-9*(i+1))) ((d.take (L-9*i)).drop (L-9*(i+1)));rw[e]at a;have b:((d.take (L-9*i)).drop (L-9*(i+1))).length=9:=by rw[db,cy];omega
 rw[b]at a;have g:=jl 9 _ b (LC (u7 c _) _);generalize aU ((d.take (L-9*i)).drop (L-9*(i+1)))=y at*;generalize aU (d.take (L-9*(i+1)))=x at*;rw[a];omega
theorem B9(s:List Nat)(k:(cR s).all cd=true)(J:s.length<=1000000):aw prog 194 [.str s] (eG (if bS s=true then -(aU (cR s):Int)else aU (cR s))):=by
 refine aI nf FW mix (by simp[f194]) ?_;obtain⟨d,v⟩:∃d,cR s=d:=⟨_,rfl⟩
 obtain⟨neg,f⟩:∃neg,bS s=neg:=⟨_,rfl⟩
 obtain⟨N,F⟩:∃N,aU d=N:=⟨_,rfl⟩
 have ah:d.length<=1000000:=by rw[<-v];exact eb (oR s).1 J
 rw[v]at k⊢;rw[f,F];have ai:=J;simp[f194,-bh];rw[bh];simp[-bh];refine join (fun st=>aM st.env 0=.p (.str s)/\aM st.env 2=.ptr 0 []/\aM st.env 3=.p (.bool neg)/\st.heap=[.box false (.p (.st 169 [.bool false,.aN]))]) ?_ ?_
 ·cases s with
  |nil=>simp[<-f,bS]
  |cons c r=>
   by_cases hc:c=45
   ·simp[<-f,bS,hc]
   ·have T:¬(c:Int)=45:=by omega
    simp[<-f,bS,hc,T]
 rintro⟨S,U⟩ ⟨a,b,e,n⟩;dsimp only at a b e n;subst n;refine join (fun st=>aM st.env 0=.p (.str d)/\aM st.env 2=.ptr 0 []/\aM st.env 3=.p (.bool neg)/\st.heap=[.box false (.p (.st 169 [.bool false,.aN]))]) ?_ ?_
 ·cases neg with
  |false=>
   have D:s=d:=by rw[<-v,cR,f];rfl
   simp[a,b,e,D]
  |true=>
   cases s with
   |nil=>simp[bS]at f
   |cons c r=>
    have D:r=d:=by rw[<-v,cR,f];rfl
    simp[a,b,e,D]
 clear a b e;rintro⟨S,U⟩ ⟨a,b,e,n⟩;dsimp only at a b e n;subst n;obtain⟨L,u⟩:∃L,L=d.length:=⟨_,rfl⟩
 obtain⟨g,l⟩:∃g:Nat->Nat,∀i,N/bT^i=g i:=⟨_,fun _=>rfl⟩
 have B:∀i,9*i<=L->aU (d.take (L-9*i))=g i:=by
  intro i
  induction i with
  |zero=>intro _;rw[Nat.mul_zero,Nat.sub_zero,u,dl,F,<-l,fl,fV]
  |succ i ad=>
   intro h;rw[(I0 k u h).1,ad (by omega),<-l,<-l,e6,ej];rfl
 have V:∀i,9*(i+1)<=L->aU ((d.take (L-9*i)).drop (L-9*(i+1)))=ae bT N i:=fun i h=>by
  rw[(I0 k u h).2,B i (by omega),<-l];rfl
 have ac:∀i,9*(i+1)<=L->aw prog 196 [.str ((d.take (L-9*i)).drop (L-9*(i+1)))] (.int .i64 (ae bT N i:Nat)):=fun i h=>by
  rw[<-V i h];exact yB _ (LC (u7 k _) _) (by rw[db,cy];omega)
 have I:∀i,9*i<=L->L<=9*i+9->g i=ae bT N i/\N<bT^(i+1):=fun i j q=>by
  have H:=jl _ (d.take (L-9*i)) rfl (u7 k _);rw[B i j]at H;have y:g i<bT:=ea H (by
   rw[show bT=10^9 from rfl];exact ec (by decide) (by rw[cy];omega))
  refine⟨by rw[ae,l,Nat.mod_eq_of_lt y],?_⟩;rw[<-l,Nat.div_lt_iff_lt_mul (fm (by decide))]at y;rw[ej,Nat.mul_comm];exact y
 have W:∀i,9*i<=L->L<=9*i+9->aw prog 196 [.str (d.take (L-9*i))] (.int .i64 (ae bT N i:Nat)):=fun i j q=>by
  rw[<-(I i j q).1,<-B i j];exact yB _ (u7 k _) (by rw[cy];omega)
 have G:∀i,9*i<=L->L<=9*i+9->aw prog 198 [.bool neg,.seq (iP (row bT (i+1) N))] (eG (if neg=true then -(N:Int)else N)):=fun i j q=>
  B8 neg (row bT (i+1) N) N (jo aW (I i j q).2) (by simp[row];omega)
 generalize (if neg=true then -(N:Int)else N)=z at*;simp only[eG]at G⊢;rw[bh];simp[a,b,e,-bh];rw[bh];simp[a,b,e];refine lp (α:=Nat) (fun i=>⟨[(0,.p (.str (d.take (L-9*i)))),(2,.ptr 0 []),(3,.p (.bool neg)),(4,.sl 1 i 1 0 i)],[.box false (.p (.st 169 [.bool false,.aN])),.arr .grow i 1 (dY i N)]⟩)
  (fun i=>9*i<=L) (fun i=>L-i) 0 (ei _) ?_ (he:=by simp[a,b,e,dY,u]) (hh:=by simp[dY])
 intro i hi;have x:(d.take (L-9*i)).length=L-9*i:=by rw[cy];omega
 have o:=ac i;have w:=W i hi;have E:(d.take (L-9*i)).take (L-9*(i+1))=d.take (L-9*(i+1)):=by rw[dp,fd (by omega)]
 rw[show L-9*(i+1)=L-9*i-9 by omega]at o E;obtain⟨m,C⟩:∃m,m=L-9*i:=⟨_,rfl⟩
 rw[<-C]at x o w E;have O:=qz i N;have P:c9 i (dY i N)=dY i N:=cv (by rw[iq];exact e9 _);have K:i+1<=cO:=by simp only[cO];omega
 by_cases af:9<m
 ·have o:=o (by omega);have Q:bi.wrap ((m:Int)-9)=(m:Int)-9:=aK _ (by omega) (by omega);have R:((m:Int)-9).toNat=m-9:=by omega
  have M:(9:Int)<=m:=by omega
  have Z:9*(i+1)<=L:=by omega
  rw[<-C];generalize ag:c9 m d=t at*;have ab:c9 m t=t:=cv (by omega);have A:(9:Int)<m:=by omega
  have X:m-9=L-9*(i+1):=by omega
  simp[x,A,Q,R,M,ab];refine c1 o ?_;simp[P,iq,K,<-O,x,Q,R,M,E];exact rd (i+1) Z (he:=by simp[X])
 ·have w:=w (by omega);have hs:=G i hi (by omega);rw[<-C];generalize c9 m d=t at*;have A:¬(9:Int)<m:=by omega
  simp[x,A];refine c1 w ?_;simp[P,iq,K,<-O];have Y:¬dY (i+1) N=[]:=by intro h;have:=congrArg dg h;rw[iq]at this;simp at this
  refine cp hs (by simp[iq,LN,Y];first|exact⟨rfl,rfl⟩|rfl) ?_ (h1:=by simp[iP,row,dz,cv]);simp[aa]
def jL(s:List Nat):Int:=if bS s=true then -(aU (bC s):Int)else aU (bC s)
def iv(s:List Nat):Nat:=if dW s=true then aU (bN s)else 1
theorem Lb(s:List Nat)(q:(bC s).all cd=true)(l:(bN s).all cd=true)(J:s.length<=1000000):aw prog 96 [.str s] (.aE [eG (jL s),eG (iv s:Nat)]):=by
 refine aI nf Qi mix (by simp[f96]) ?_;have e:=vA s (by omega);obtain⟨L,f,h,D⟩:=Kd s;have I:=o7 47 s;have C:=MS 1 (by decide) (by decide);rcases po 47 s with⟨q1,b⟩|⟨q1,b,N⟩
 ·have a:=B9 (bZ 47 s).1 (by rw[f];exact q) (by omega);rw[L,f]at a;have d:=B9 (bZ 47 s).2.1 (by
   rw[h];rw[cx]at l⊢;intro x hx;exact l x ((oR _).2 x hx)) (by omega)
  have K:bS (bN s)=false:=by
   rw[bS];cases g:bN s with
   |nil=>simp
   |cons c r=>
    have:=yJ (cx.1 l c (by rw[g];simp));simp;omega
  rw[h,cR,K]at d;have m:dW s=true:=by rw[<-D];exact q1
  have nZ:jL s=if bS s=true then -(aU (bC s):Int)else aU (bC s):=rfl
  have j:iv s=aU (bN s):=by rw[iv,if_pos m]
  rw[<-nZ]at a;simp only[bb,if_false]at d;rw[<-j]at d;generalize M:jL s=z at*;generalize iv s=dn at*;obtain⟨i,o⟩:∃i,(bZ 47 s).1=i:=⟨_,rfl⟩
  obtain⟨E,p⟩:∃E,(bZ 47 s).2.1=E:=⟨_,rfl⟩
  rw[o,p]at b;rw[o]at e a;rw[p]at h;obtain⟨k,n⟩:∃k,i.length=k:=⟨_,rfl⟩
  rw[n]at e;have hk:k<s.length:=by rw[b];simp;omega
  have B:s.take k=i:=by rw[b,<-n];simp
  have g:s.drop (k+1)=bN s:=by
   rw[<-h]
   conv=>lhs;rw[b,<-n]
   simp
  clear I b o p;have G:bi.wrap ((k:Int)+1)=(k:Int)+1:=aK _ (by omega) (by omega);have F:((k:Int)+1).toNat=k+1:=by omega
  have y:¬(k:Int)=s.length:=by omega
  have u:k+1<=s.length:=hk;have w:k<=s.length:=by omega
  have t:(0:Int)<=k+1:=by omega
  have v:(k:Int)+1<=s.length:=by omega
  simp only[eG]at a d⊢;simp[f96];refine c1 e ?_;simp[y,G,F,B,g,u,w,t,v];refine e1 a ?_;simp[y,G,F,B,g,u,w,t,v];refine e1 d ?_;simp[aa]
 ·have a:=B9 s (by
   have A:=f;rw[b]at A;rw[A];exact q) J
  have m:dW s=false:=by rw[<-D];exact q1
  have H:cR s=bC s:=by rw[b]at f;exact f
  have nZ:jL s=if bS s=true then -(aU (bC s):Int)else aU (bC s):=rfl
  have j:iv s=1:=by rw[iv,m];rfl
  rw[H,<-nZ]at a;rw[j];rw[b]at e;generalize jL s=z at*;simp only[eG]at a C⊢;simp[f96];refine c1 e ?_;simp;refine c1 a ?_;simp;refine c1 C ?_;simp[aa]
theorem I1(n:Nat):(aV n).length<=9*(aq bT n).length+1:=by
 rcases Nat.eq_zero_or_pos n with h|h
 ·subst h;rw[mC];simp
 ·have b:0<(aq bT n).length:=by rw[da,Ne,u5];omega
  have a:=cj aW n;rw[show bT^(aq bT n).length=10^(9*(aq bT n).length)by rw[e7];rfl]at a;exact eb (uR a (by omega)) (by omega)
def fL(n d:Int):Rat:=gb n d
theorem IH(n g:Nat):(aq bT (n/g)).length<=(aq bT n).length:=
 dK aW _ _ (ed (ew n g) (cj aW n))
theorem UJ(n d:Nat)(a:0<d):(aq bT (ey n d)).length<=(aq bT d).length:=
 dK aW _ _ (ed (eo n a) (cj aW d))
theorem HY(n d:Int)(L:d≠0)(s:(aq bT n.natAbs).length<=400000)(j:(aq bT d.natAbs).length<=400000):aw prog 99 [eG n,eG d] (.str (aX (fL n d))):=by
 refine aI nf Qk mix (by simp[f99]) ?_;simp[f99,-bh,aa];rw[bh];simp[-bh,aa];refine join (fun st=>∃(e:Int)(d':Nat),0<d'/\(aq bT e.natAbs).length<=400000/\(aq bT d').length<=400000/\fL e d'=fL n d/\aM st.env 2=.ptr 0 []/\aM st.env 3=.ptr 1 []/\st.heap=[.box false (.p (eG e)),.box false (.p (eG (d':Nat)))]) ?_ ?_
 ·have P:=MV n s;have O:=MV d j
  by_cases h:d<0
  ·simp[h,aa];refine e1 P ?_;simp[aa];refine e1 O ?_;simp[aa];refine⟨by repeat' first|rfl|apply And.intro,?_⟩;refine⟨-n,d.natAbs,by omega,by rw[b2];exact s,j,?_,rfl,?_⟩
   ·rw[bl (by omega)];exact gc _ _
   ·rw[bl (by omega)]
  ·have A:((d.natAbs:Nat):Int)=d:=cb (by omega);simp[h,aa];exact⟨n,d.natAbs,by omega,s,j,by rw[A],rfl,by rw[A]⟩
 rintro⟨T,U⟩ ⟨e,d',k1,k2,k3,k4,l,m,D⟩;dsimp only at l m D;subst D;rw[<-k4,show fL e d'=gb e d' from rfl];clear k4 s j L;obtain⟨u,v⟩:=lL (n:=e) (show d'≠0 by omega);obtain⟨g,k⟩:∃g,ey e.natAbs d'=g:=⟨_,rfl⟩
 have r:0<g:=by rw[<-k];exact ee _ k1
 have B:(aq bT g).length<=400000:=by rw[<-k];exact eb (UJ _ _ k1) k3
 rw[k]at u v;have y:=KL e.natAbs d' k2 k3;rw[k]at y;have I:=Dz e.natAbs g r k2 B;have J:=Dz d' g r k3 B;have Y:(aq bT (e.natAbs/g)).length<=400000:=eb (IH _ _) k2;have Z:(aq bT (d'/g)).length<=400000:=eb (IH _ _) k3;have w:=qp (decide (e<0)) (e.natAbs/g) (by omega);have f:=qp false (d'/g) (by omega);have t:(if decide (e<0)=true then -((e.natAbs/g:Nat):Int)else((e.natAbs/g:Nat):Int))=(gb e d').num:=by
  rw[u];have M:(g:Int)∣e:=by rw[<-k];exact b3.2 (eq _ _)
  obtain⟨c,hc⟩:=M;have N:(g:Int)≠0:=by omega
  rw[hc,b1 _ N,bv,bk,Nat.mul_div_cancel_left _ r]
  by_cases K:c<0
  ·have:(g:Int)*c<0:=Int.mul_neg_of_pos_of_neg (by omega) K;simp[this];omega
  ·have:¬(g:Int)*c<0:=by
    have:=ce (a:=(g:Int)) (b:=c) (by omega) (by omega);omega
   simp[this];omega
 rw[t]at w;simp only[bb,if_false]at f;have z:=CT (gb e d').num (by
  rw[<-t];split
  ·rw[b2,bk];omega
  ·rw[bk];omega)
 have i:=CT ((d'/g:Nat):Int) (by rw[bk];omega);rw[uS]at i;have Q:0<d'/g:=by
  refine fb ?_ r;rw[<-k];exact eo _ k1
 have V:(bI (gb e d').num).length<=3600002:=by
  refine eb (Cy _) ?_;have h:=I1 (gb e d').num.natAbs;have:(gb e d').num.natAbs=e.natAbs/g:=by
   rw[<-t];split
   ·rw[b2,bk]
   ·rw[bk]
  rw[this]at h⊢;omega
 have W:(aV (d'/g)).length<=3600001:=by
  have h:=I1 (d'/g);omega
 have F:aX (gb e d')=if d'/g=1 then bI (gb e d').num else bI (gb e d').num++47::aV (d'/g):=by rw[aX,v]
 rw[F];clear F t u v;generalize (gb e d').num=G at*;generalize ab:d'/g=q at*;simp only[eG,bk]at w f z i⊢;simp[l,m,aa];refine c2 y ?_;simp[l,m,aa];refine c2 I ?_;simp[l,m,aa];refine c2 J ?_;simp[l,m,aa];refine c2 w ?_;simp[l,m,aa];refine c1 z ?_;have R:∀h:q=1,aq bT q=[1]:=fun h=>by rw[h];exact nA (by decide) (by decide)
 by_cases o:q=1
 ·have x:=R o;simp[o,eT,nA (show 0<1 by decide) (show 1<bT by decide)]
 ·have C:(bI G).length+1<9223372036854775808:=by omega
  have X:(bI G).length+((aV q).length+1)<9223372036854775808:=by omega
  by_cases E:q<bT
  ·have x:=nA Q E;have S:¬(q:Int)=1:=by omega
   simp[o,eT,x,S];refine⟨C,?_⟩;simp only[eT,x,List.map_cons,List.map_nil]at f i;refine c2 f ?_;simp;refine c1 i ?_;simp;omega
  ·have j:¬((aq bT q).length:Int)=1:=by
    intro h;have H:(aq bT q).length=1:=by omega
    have:=cj aW q;rw[H,fv]at this;exact E this
   simp[o,eT,j];refine⟨C,?_⟩;simp only[eT]at f i;refine c2 f ?_;simp;refine c1 i ?_;simp;omega
theorem UN{n:Int}{g:Nat}(a:0<g)(h:g∣n.natAbs):n.tdiv g=n/g:=by
 obtain⟨c,hc⟩:=b3.2 h;subst hc;rw[Int.mul_tdiv_cancel_left _ (by omega),b1 _ (by omega)]
theorem DK(n d:Int)(O:d≠0)(U:n.natAbs<=4000000000000000000)(P:d.natAbs<=4000000000000000000):aw prog 84 [.int .i64 n,.int .i64 d] (.str (aX (fL n d))):=by
 refine aI nf P7 mix (by simp[f84]) ?_;have f:¬n< -4000000000000000000:=by omega
 have i:¬4000000000000000000<n:=by omega
 have j:¬d< -4000000000000000000:=by omega
 have k:¬4000000000000000000<d:=by omega
 simp[f84,f,i,j,k,-bh];rw[bh];simp[f,i,j,k,-bh];rw[bh,bh];simp[f,i,j,k,-bh];refine join (fun st=>∃(b:Int)(d':Nat),0<d'/\b.natAbs<=4000000000000000000/\d'<=4000000000000000000/\fL b d'=fL n d/\aM st.env 0=.p (.int .i64 b)/\aM st.env 1=.p (.int .i64 (d':Nat))/\st.heap=[]) ?_ ?_
 ·have H:bi.wrap (-n)= -n:=aK _ (by omega) (by omega);have o:bi.wrap (-d)= -d:=aK _ (by omega) (by omega)
  by_cases h:d<0
  ·simp[h,H,o,f,i,j,k];refine⟨-n,d.natAbs,by omega,by omega,by omega,?_,rfl,?_⟩
   ·rw[bl (by omega)];exact gc _ _
   ·rw[bl (by omega)]
  ·have J:((d.natAbs:Nat):Int)=d:=cb (by omega);simp[h,f,i,j,k];exact⟨n,d.natAbs,by omega,by omega,by omega,by rw[J],rfl,by rw[J]⟩
 rintro⟨W,X⟩ ⟨b,d',k1,k2,k3,k4,r,s,K⟩;dsimp only at r s K;subst K;rw[<-k4,show fL b d'=gb b d' from rfl];clear k4 U P O f i j k;obtain⟨x,D⟩:=lL (n:=b) (show d'≠0 by omega);obtain⟨g,l⟩:∃g,ey b.natAbs d'=g:=⟨_,rfl⟩
 have F:0<g:=by rw[<-l];exact ee _ k1
 rw[l]at x D;have I:=Yk b.natAbs d' (by omega) (by omega);rw[l]at I;have T:(if b< -b then -b else b)=(b.natAbs:Nat):=by split<;>omega
 have H:bi.wrap (-b)= -b:=aK _ (by omega) (by omega);have z:b.tdiv g=(gb b d').num:=by rw[x,UN F (by rw[<-l];exact eq _ _)]
 have A:(d':Int).tdiv g=(d'/g:Nat):=by rw[b0 (bo _),b4]
 have V:(gb b d').num.natAbs<=4000000000000000000:=by
  have R:(g:Int)∣b:=by rw[<-l];exact b3.2 (eq _ _)
  obtain⟨c,hc⟩:=R;have S:(g:Int)≠0:=by omega
  rw[x,hc,b1 _ S];rw[hc,bv,bk]at k2;exact eb (Nat.le_mul_of_pos_left _ F) k2
 have Q:d'/g<=4000000000000000000:=eb (ew _ _) k3;have ac:0<d'/g:=by
  refine fb ?_ F;rw[<-l];exact eo _ k1
 have M:aX (gb b d')=if d'/g=1 then bI (gb b d').num else bI (gb b d').num++47::aV (d'/g):=by rw[aX,D]
 rw[M];clear M x D;generalize (gb b d').num=a at*;generalize ad:d'/g=q at*;have y:¬g=0:=by omega
 have u:=xQ a.natAbs 1 (by omega) (by decide);have E:=xQ q 1 (by omega) (by decide);have Y:(aV a.natAbs).length<=19:=uR (ed V (by decide)) (by decide);have Z:(aV q).length<=19:=uR (ed Q (by decide)) (by decide);rw[show low (max 1 (nd a.natAbs)) a.natAbs=aV a.natAbs from rfl]at u;rw[show low (max 1 (nd q)) q=aV q from rfl]at E;have ab:(if a< -a then -a else a)=(a.natAbs:Nat):=by split<;>omega
 have o:bi.wrap (-a)= -a:=aK _ (by omega) (by omega);have B:bi.wrap a=a:=aK _ (by omega) (by omega);have C:bi.wrap (q:Int)=q:=aK _ (by omega) (by omega);simp[r,s,H,T];refine c2 I ?_;have L:(1:Int)<q↔¬q=1:=by omega
 have N:bi.wrap 1=1:=rfl;have aa:(aV a.natAbs).length<9223372036854775808:=by omega
 by_cases m:a<0
 ·have G:bI a=45::aV a.natAbs:=by rw[bI,if_pos m]
  rw[G];have w:a< -a:=by omega
  have v:-a=(a.natAbs:Nat):=by omega
  by_cases e:q=1
  ·simp[r,s,y,z,A,B,C,m,o,w,e];rw[v];refine c2 u ?_;simp[e,N];omega
  ·have t:=L.2 e;simp[r,s,y,z,A,B,C,m,o,w,e,t];rw[v];refine c2 u ?_;simp[e,t];refine⟨by omega,by omega,?_⟩;refine c2 E ?_;simp;omega
 ·have G:bI a=aV a.natAbs:=by rw[bI,if_neg m]
  rw[G];have v:a=(a.natAbs:Nat):=by omega
  have w:¬a< -a:=by omega
  by_cases e:q=1
  ·simp[r,s,y,z,A,B,C,m,o,w,e];rw[show PV.int .i64 a=.int .i64 (a.natAbs:Nat)by rw[<-v]];refine c2 u ?_;simp[e,N];omega
  ·have t:=L.2 e;simp[r,s,y,z,A,B,C,m,o,w,e,t];rw[show PV.int .i64 a=.int .i64 (a.natAbs:Nat)by rw[<-v]];refine c2 u ?_;simp[e,t];refine⟨by omega,by omega,?_⟩;refine c2 E ?_;simp;omega
theorem tM(n:Int)(a:-9223372036854775808<=n)(b:n<=9223372036854775807):aw prog 39 [.int .i64 n] (.str (aX (n:Rat))):=by
 have e:=MS n a b;have d:=CT n (by
  have c:n.natAbs<bT^3:=by
   have:bT^3=1000000000000000000000000000:=by decide
   omega
  have:=dK aW 3 _ c;omega)
 have hq:aX (n:Rat)=bI n:=by rw[aX,if_pos (gg n),ge]
 rw[hq];refine aI nf PI mix (by simp[f39]) ?_;simp[f39];refine c1 e ?_;simp;refine c1 d ?_;simp
theorem Yu(s:List Nat)(C:(bC s).all cd=true)(J:(bN s).all cd=true)(ak:s.length<=1000000):
 ∃(n d:Int)(b:Bool),aw prog 98 [.str s] (.aE [.int .i64 n,.int .i64 d,.bool b])/\(b=true->n=jL s/\d=(iv s:Nat)/\n.natAbs<1000000000/\iv s<1000000000):=by
 by_cases K:20<s.length
 ·refine⟨0,0,false,?_,fun h=>by cases h⟩;refine aI nf D3 mix (by simp[f98]) ?_;have m:(20:Int)<s.length:=by omega
  simp[f98,m]
 obtain⟨d,l⟩:∃d,cR s=d:=⟨_,rfl⟩
 obtain⟨neg,g⟩:∃neg,bS s=neg:=⟨_,rfl⟩
 have ai:d.length<=s.length:=by rw[<-l];exact(oR s).1
 have i:=vA d (by omega);have A:(bZ 47 d).1=bC s:=by rw[<-l];rfl
 have N:(bZ 47 d).2.1=bN s:=by rw[<-l];rfl
 have P:(bZ 47 d).2.2=dW s:=by rw[<-l];rfl
 have q:=po 47 d;rw[A,N,P]at q;rw[A]at i;obtain⟨k,hk⟩:∃k,(bC s).length=k:=⟨_,rfl⟩
 rw[hk]at i;have Q:k<=d.length:=by rw[<-hk,<-A];exact(o7 47 d).1
 have m:¬(20:Int)<s.length:=by omega
 obtain⟨b,o⟩:∃b:Bool,b=(decide (k<=9)&&decide (d.length-k<=10)):=⟨_,rfl⟩
 have M:b=true->(jL s).natAbs<1000000000/\iv s<1000000000:=fun h=>by
  rw[o]at h;simp only[be,decide_eq_true_eq]at h;have v:=jl _ (bC s) rfl C;rw[hk]at v;have ad:aU (bC s)<1000000000:=ea v (ec (n:=10) (by decide) h.1);refine⟨by rw[jL];split<;>omega,?_⟩;rcases q with⟨q1,f⟩|⟨q1,f,af⟩
  ·have W:(bN s).length<=9:=by
    have:=congrArg dg f;simp at this;omega
   have X:=jl _ (bN s) rfl J;rw[iv,if_pos q1];exact ea X (ec (n:=10) (by decide) W)
  ·rw[iv,q1,if_neg (by decide)];decide
 refine⟨if b=true then jL s else 0,if b=true then(iv s:Nat)else 0,b,?_,fun h=>⟨if_pos h,if_pos h,by rw[if_pos h];exact(M h).1,(M h).2⟩⟩;refine aI nf D3 mix (by simp[f98]) ?_;simp[f98,-bh];rw[bh];simp[-bh];rw[bh];simp[-bh];rw[bh,bh];simp[m,-bh];refine join (fun st=>aM st.env 5=.p (.str s)/\aM st.env 6=.p (.bool neg)/\st.heap=[]) ?_ ?_
 ·clear K m;cases s with
  |nil=>simp[<-g,bS]
  |cons c r=>
   by_cases hc:c=45
   ·simp[<-g,bS,hc]
   ·have aa:¬(c:Int)=45:=by omega
    simp[<-g,bS,hc,aa]
 rintro⟨U,ab⟩ ⟨e,a,u⟩;dsimp only at e a u;subst u;refine join (fun st=>aM st.env 5=.p (.str d)/\aM st.env 6=.p (.bool neg)/\st.heap=[]) ?_ ?_
 ·cases t:neg with
  |false=>
   have F:s=d:=by rw[<-l,cR,g,t];rfl
   simp[e,a,t,F]
  |true=>
   clear i q hk N A P K m o;cases s with
   |nil=>simp[bS]at g;rw[t]at g;cases g
   |cons c r=>
    have F:r=d:=by rw[<-l,cR,g,t];rfl
    simp[e,a,t,F]
 clear e a;rintro⟨U,ab⟩ ⟨e,a,u⟩;dsimp only at e a u;subst u;have ah:bi.wrap ((k:Int)+1)=(k:Int)+1:=aK _ (by omega) (by omega);have G:bi.wrap ((d.length:Int)-k)=(d.length:Int)-k:=aK _ (by omega) (by omega);have ag:((k:Int)+1).toNat=k+1:=by omega
 have ae:jL s=if neg=true then -(aU (bC s):Int)else aU (bC s):=by rw[jL,g]
 rw[ae];rcases em 9 k with D|D
 ·have Y:¬k<=9:=by omega
  have j:(9:Int)<k:=by omega
  have E:b=false:=by rw[o];simp[Y]
  simp[e,a];refine c1 i ?_;simp[e,a,j,E]
 rcases em 10 (d.length-k)with I|I
 ·have V:¬d.length-k<=10:=by omega
  have j:¬(9:Int)<k:=by omega
  have x:(10:Int)<(d.length:Int)-k:=by omega
  have E:b=false:=by rw[o];simp[V]
  simp[e,a];refine c1 i ?_;simp[e,a,j,x,G,E]
 have j:¬(9:Int)<k:=by omega
 have x:¬(10:Int)<(d.length:Int)-k:=by omega
 have y:b=true:=by rw[o];simp[D,I]
 have R:d.take k=bC s:=by
  rcases q with⟨_,f⟩|⟨_,f,_⟩
  ·rw[f,<-hk];simp
  ·rw[<-f,<-hk];simp
 have L:=yB (bC s) C (by omega);have v:=jl _ (bC s) rfl C;rw[hk]at v;have ad:aU (bC s)<1000000000:=ea v (ec (n:=10) (by decide) D);rcases q with⟨q1,f⟩|⟨q1,f,af⟩
 ·have z:k<d.length:=by rw[f];simp;omega
  have O:d.drop (k+1)=bN s:=by
   conv=>lhs;rw[f,<-hk]
   simp
  have aj:(bN s).length<=9:=by rw[<-O,db];omega
  have Z:=yB (bN s) J (by omega);have B:iv s=aU (bN s):=by rw[iv,if_pos q1]
  rw[B];generalize aU (bN s)=al at*;generalize aU (bC s)=w at*;have H:bi.wrap (-(w:Int))= -(w:Int):=aK _ (by omega) (by omega);clear f;simp[e,a];refine c1 i ?_;have S:(0:Int)<=k+1:=by omega
  have ac:k+1<=d.length:=z;have T:(k:Int)+1<=d.length:=by omega
  simp[e,a,j,x,G,y,Q,R];refine c1 L ?_;cases neg<;>
  ·simp[e,a,z,ac,ah,ag,O,S,T];refine c1 Z ?_;simp[a,H,y]
 ·have z:¬k<d.length:=by rw[<-f,hk];omega
  have B:iv s=1:=by rw[iv,q1];rfl
  rw[B];generalize aU (bC s)=w at*;have H:bi.wrap (-(w:Int))= -(w:Int):=aK _ (by omega) (by omega);simp[e,a];refine c1 i ?_;simp[e,a,j,x,G,y,Q,R];refine c1 L ?_;cases neg<;>simp[e,a,z,H,y]
theorem BB{n k:Nat}(h:n<2^k):(aq bT n).length<=k/29+1:=by
 refine dK aW _ _ (ea h ?_);have a:2^29<=bT:=by decide
 refine eb ?_ (Nat.pow_le_pow_left a _);rw[<-e7];exact ec (by decide) (by omega)
theorem Me(q:Rat):jL (aX q)=q.num:=by
 obtain⟨a,b,_,_⟩:=sZ q;rw[jL,a,b,pG]
 by_cases h:q.num<0
 ·rw[if_pos (by simpa using h)];omega
 ·rw[if_neg (by simpa using h)];omega
theorem Mu(q:Rat):iv (aX q)=q.den:=by
 obtain⟨_,_,a,b⟩:=sZ q;rw[iv,a,b]
 by_cases h:q.den=1
 ·rw[if_neg (by simpa using h),h]
 ·rw[if_pos (by simpa using h),if_neg h,pG]
theorem Ad(q:Rat):(bC (aX q)).all cd=true/\(bN (aX q)).all cd=true:=by
 obtain⟨_,a,_,b⟩:=sZ q;refine⟨by rw[a];exact nX _,?_⟩;rw[b];split
 ·rfl
 ·exact nX _
theorem qC{q:Rat}(h:bE kB q):(aX q).length<=1000000:=by
 have a:(aV q.num.natAbs).length<=33334:=rI (K:=kB) (k:=33334) h.1 (by decide) (by decide);have b:(aV q.den).length<=33334:=rI (K:=kB) (k:=33334) h.2 (by decide) (by decide);have:=E8 q;omega
theorem yo(q:Rat)(h:bE kB q):∃(n d:Int)(b:Bool),aw prog 98 [.str (aX q)] (.aE [.int .i64 n,.int .i64 d,.bool b])/\(b=true->n=q.num/\d=(q.den:Nat)/\n.natAbs<1000000000/\q.den<1000000000):=by
 have:=Yu (aX q) (Ad q).1 (Ad q).2 (qC h)
 rwa [Me,Mu]at this
theorem xP(q:Rat)(h:bE kB q):aw prog 96 [.str (aX q)] (.aE [eG q.num,eG (q.den:Nat)]):=by
 have:=Lb (aX q) (Ad q).1 (Ad q).2 (qC h)
 rwa [Me,Mu]at this
theorem Zm(a b:Rat):fL (a.num*b.den+b.num*a.den) (a.den*b.den)=a+b:=by
 rw[Rat.add_def'];rfl
theorem Zn(a b:Rat):fL (a.num*b.num) (a.den*b.den)=a*b:=by
 rw[Rat.mul_def,Rat.normalize_eq_mkRat];rfl
theorem Oj(a b:Rat):((a.den:Nat):Int)*(b.den:Nat)≠0:=by
 have c:=a.den_pos;have d:=b.den_pos;exact Int.ne_of_gt (Int.mul_pos (by omega) (by omega))
theorem vZ{x y:Int}(hx:x.natAbs<1000000000)(a:y.natAbs<1000000000):(x*y).natAbs<=999999998000000001:=by
 rw[bv];exact Nat.mul_le_mul (show x.natAbs<=999999999 by omega) (show y.natAbs<=999999999 by omega)
theorem u3{x y:Int}(hx:x.natAbs<2^kB)(a:y.natAbs<2^kB):(aq bT (x*y).natAbs).length<=10000:=by
 have h:=BB (n:=(x*y).natAbs) (k:=kB+kB) (by rw[bv,e8];exact en hx a);exact eb h (by decide)
theorem mB{x:Nat}(hx:x<2^kB):(aq bT x).length<=10000:=eb (BB hx) (by decide)
theorem zI(a b:Rat)(h:bE kB a)(i:bE kB b):aw prog 27 [.str (aX a),.str (aX b)] (.str (aX (a+b))):=by
 obtain⟨n,d,p,A,E⟩:=yo a h;obtain⟨m,e,r,B,F⟩:=yo b i;have t:=xP a h;have u:=xP b i;refine aI nf PC mix (by simp[f27]) ?_;rw[<-Zm];have z:=Oj a b
 by_cases j:p=true/\r=true
 ·obtain⟨rfl,rfl,k1,k2⟩:=E j.1;obtain⟨rfl,rfl,k3,k4⟩:=F j.2;have O:=vZ k1 (show((b.den:Nat):Int).natAbs<1000000000 by rw[bk];exact k4);have P:=vZ k3 (show((a.den:Nat):Int).natAbs<1000000000 by rw[bk];exact k2);have Q:=vZ (show((a.den:Nat):Int).natAbs<1000000000 by rw[bk];exact k2) (show((b.den:Nat):Int).natAbs<1000000000 by rw[bk];exact k4);have C:=DK (a.num*b.den+b.num*a.den) (a.den*b.den) z (by omega) (by omega);have H:bi.wrap (a.num*(b.den:Nat))=a.num*(b.den:Nat):=aK _ (by omega) (by omega);have I:bi.wrap (b.num*(a.den:Nat))=b.num*(a.den:Nat):=aK _ (by omega) (by omega);have J:bi.wrap (a.num*(b.den:Nat)+b.num*(a.den:Nat))=a.num*(b.den:Nat)+b.num*(a.den:Nat):=aK _ (by omega) (by omega);have K:bi.wrap (((a.den:Nat):Int)*(b.den:Nat))=((a.den:Nat):Int)*(b.den:Nat):=aK _ (by omega) (by omega);have g:p=true:=j.1;have q:r=true:=j.2;simp[f27];refine c1 A ?_;simp;refine c1 B ?_;simp[g,q,H,I,J,K];refine c2 C ?_;simp
 ·have l:a.num.natAbs<2^kB:=h.1;have o:b.num.natAbs<2^kB:=i.1;have c:((a.den:Nat):Int).natAbs<2^kB:=by rw[bk];exact h.2
  have f:((b.den:Nat):Int).natAbs<2^kB:=by rw[bk];exact i.2
  have w:=vz a.num (b.den:Nat) (by have:=mB l;have:=mB f;omega);have x:=vz b.num (a.den:Nat) (by have:=mB o;have:=mB c;omega);have y:=vz (a.den:Nat) (b.den:Nat) (by have:=mB c;have:=mB f;omega);have L:=u3 l f;have M:=u3 o c;have N:=u3 c f;have v:=Yt (a.num*(b.den:Nat)) (b.num*(a.den:Nat)) (by omega) (by omega);have G:(aq bT (a.num*(b.den:Nat)+b.num*(a.den:Nat)).natAbs).length<=400000:=by
   refine eb (BB (k:=kB+kB+1) ?_) (by decide);have q1:(a.num*(b.den:Nat)).natAbs<2^(kB+kB):=by rw[bv,e8];exact en l f
   have R:(b.num*(a.den:Nat)).natAbs<2^(kB+kB):=by rw[bv,e8];exact en o c
   rw[ej];omega
  have s:=HY (a.num*(b.den:Nat)+b.num*(a.den:Nat)) ((a.den:Nat)*(b.den:Nat)) z G (by omega);simp[f27];refine c1 A ?_;simp;refine c1 B ?_;have D:(p=false)\/(p=true/\r=false):=by cases p<;>cases r<;>simp_all
  rcases D with g|⟨g,q⟩
  ·simp[g];refine c1 t ?_;simp[aa];refine c1 u ?_;simp[aa];refine e2 w ?_;simp[aa];refine e2 x ?_;simp[aa];refine e2 v ?_;simp[aa];refine e2 y ?_;simp[aa];refine e2 s ?_;simp
  ·simp[g,q];refine c1 t ?_;simp[aa];refine c1 u ?_;simp[aa];refine e2 w ?_;simp[aa];refine e2 x ?_;simp[aa];refine e2 v ?_;simp[aa];refine e2 y ?_;simp[aa];refine e2 s ?_;simp
theorem tH(a b:Rat)(f:bE kB a)(g:bE kB b):aw prog 110 [.str (aX a),.str (aX b)] (.str (aX (a*b))):=by
 obtain⟨n,d,p,x,B⟩:=yo a f;obtain⟨m,e,r,y,C⟩:=yo b g;have s:=xP a f;have t:=xP b g;refine aI nf Gg mix (by simp[f110]) ?_;rw[<-Zn];have w:=Oj a b
 by_cases h:p=true/\r=true
 ·obtain⟨rfl,rfl,k1,k2⟩:=B h.1;obtain⟨rfl,rfl,k3,k4⟩:=C h.2;have H:=vZ k1 k3;have I:=vZ (show((a.den:Nat):Int).natAbs<1000000000 by rw[bk];exact k2) (show((b.den:Nat):Int).natAbs<1000000000 by rw[bk];exact k4);have z:=DK (a.num*b.num) (a.den*b.den) w (by omega) (by omega);have D:bi.wrap (a.num*b.num)=a.num*b.num:=aK _ (by omega) (by omega);have E:bi.wrap (((a.den:Nat):Int)*(b.den:Nat))=((a.den:Nat):Int)*(b.den:Nat):=aK _ (by omega) (by omega);have c:p=true:=h.1;have i:r=true:=h.2;simp[f110];refine c1 x ?_;simp;refine c1 y ?_;simp[c,i,D,E];refine c2 z ?_;simp
 ·have j:a.num.natAbs<2^kB:=f.1;have l:b.num.natAbs<2^kB:=g.1;have k:((a.den:Nat):Int).natAbs<2^kB:=by rw[bk];exact f.2
  have o:((b.den:Nat):Int).natAbs<2^kB:=by rw[bk];exact g.2
  have u:=vz a.num b.num (by have:=mB j;have:=mB l;omega);have v:=vz (a.den:Nat) (b.den:Nat) (by have:=mB k;have:=mB o;omega);have F:=u3 j l;have G:=u3 k o;have q:=HY (a.num*b.num) ((a.den:Nat)*(b.den:Nat)) w (by omega) (by omega);simp[f110];refine c1 x ?_;simp;refine c1 y ?_;have A:(p=false)\/(p=true/\r=false):=by cases p<;>cases r<;>simp_all
  rcases A with c|⟨c,i⟩
  ·simp[c];refine c1 s ?_;simp[aa];refine c1 t ?_;simp[aa];refine e2 u ?_;simp[aa];refine e2 v ?_;simp[aa];refine e2 q ?_;simp
  ·simp[c,i];refine c1 s ?_;simp[aa];refine c1 t ?_;simp[aa];refine e2 u ?_;simp[aa];refine e2 v ?_;simp[aa];refine e2 q ?_;simp
theorem aCV{a:Rat}(h:a≠0):a.num≠0:=fun e=>h (Rat.num_eq_zero.1 e)
theorem MY(s:List Nat)(g:s.length<=1048576):aw prog 26 [.str s] (.int .i64 (if s=[48]then 0 else if bS s=true then -1 else 1)):=by
 refine aI nf PB mix (by simp[f26]) ?_
 by_cases b:s=[48]
 ·simp[f26,b]
 ·cases s with
  |nil=>simp[f26,bS]
  |cons c r=>
   by_cases hc:c=45
   ·simp[f26,bS,hc]
   ·have e:¬(c:Int)=45:=by omega
    have d:¬(c=48/\r=[]):=fun h=>b (by rw[h.1,h.2])
    by_cases a:c=48
    ·have f:¬r=[]:=fun h=>d ⟨a,h⟩;simp[f26,bS,a,f]
    ·simp[f26,bS,hc,e,a]
theorem xZ(q:Rat):q.num<0↔q<0:=by
 have h:=De q
 by_cases b:q<0
 ·rw[if_pos b]at h;refine⟨fun _=>b,fun _=>?_⟩
  by_cases a:q.num<0
  ·exact a
  ·rw[if_neg a]at h;split at h<;>omega
 ·refine⟨fun a=>?_,fun a=>(b a).elim⟩;rw[if_neg b,if_pos a]at h
  split at h<;>omega
def gY(q:Rat):Int:=if q<0 then -1 else if q=0 then 0 else 1
theorem aGQ:aX 0=[48]:=by
 have h:bI 0=[48]:=by rw[show(0:Int)=((0:Nat):Int)from rfl,uS,mC]
 rw[aX,if_pos (show(0:Rat).den=1 from rfl)];exact h
theorem Ik(q:Rat):aX q=[48]↔q=0:=by
 rw[<-aGQ];exact⟨fun h=>Ao h,fun h=>by rw[h]⟩
theorem aFG(q:Rat):(if aX q=[48]then(0:Int)else if bS (aX q)=true then -1 else 1)=gY q:=by
 have e:=(sZ q).1;have c:=Ik q;have d:q<0↔q.num<0:=(xZ q).symm;rw[e,gY]
 by_cases b:q=0
 ·subst b;rw[if_pos (c.2 rfl),if_neg (by decide),if_pos rfl]
 ·rw[if_neg (fun h=>b (c.1 h))]
  by_cases a:q<0
  ·rw[if_pos (by simpa using d.1 a),if_pos a]
  ·rw[if_neg (by simpa using fun h=>a (d.2 h)),if_neg a,if_neg b]
theorem yD(q:Rat)(h:bE kB q):aw prog 26 [.str (aX q)] (.int .i64 (gY q)):=by
 have:=MY (aX q) (by have:=qC h;omega)
 rwa [aFG]at this
theorem M6{q:Rat}(h:q<0):aX q=45::aX (-q):=by
 have a:q.num<0:=(xZ q).2 h;have e1:bI q.num=45::aV q.num.natAbs:=by rw[bI,if_pos a]
 have e2:bI (-q).num=aV q.num.natAbs:=by rw[gi,bI,if_neg (by omega),b2]
 rw[aX,aX,Rat.neg_den,e1,e2]
 split<;>rfl
theorem MZ(q:Rat)(h:bE kB q):aw prog 143 [.str (aX q)] (.str (aX (-q))):=by
 have a:=yD q h;have f:=qC h;refine aI nf HE mix (by simp[f143]) ?_
 by_cases b:q<0
 ·have hs:gY q= -1:=by rw[gY,if_pos b]
  rw[hs]at a;have c:=M6 b;rw[c]at a f⊢;simp[f143];refine c1 a ?_;simp
 ·by_cases d:q=0
  ·have hs:gY q=0:=by rw[gY,if_neg b,if_pos d]
   rw[hs]at a;have hq:-q=q:=by rw[d];rfl
   rw[hq];simp[f143];refine c1 a ?_;simp;refine c1 a ?_;simp
  ·have hs:gY q=1:=by rw[gY,if_neg b,if_neg d]
   rw[hs]at a;have e:-q<0:=by
    rw[<-xZ,gi];have g:¬q.num<0:=fun h=>b ((xZ q).1 h);have i:=aCV d;omega
   have c:=M6 e;rw[Rat.neg_neg]at c;rw[c];have j:(aX q).length+1<9223372036854775808:=by omega
   simp[f143];refine c1 a ?_;simp;refine c1 a ?_;simp;omega
theorem yN(a b:Rat)(f:bE kB a)(d:bE kB b):aw prog 111 [.str (aX a),.str (aX b)] (.str (aX (a-b))):=by
 have e:=MZ b d;have c:=zI a (-b) f (vr d);rw[<-Rat.sub_eq_add_neg]at c;refine aI nf Gf mix (by simp[f111]) ?_;simp[f111];refine c1 e ?_;simp;refine c2 c ?_;simp
theorem aFE(a b:Rat):gY (a-b)=eS a b:=by
 have d:a-b<0↔a<b:=by
  rw[<-gj,<-gj,<-Rat.le_iff_sub_nonneg]
 have e:a-b=0↔a=b:=by
  constructor
  ·intro h;have f:a-b+b=0+b:=by rw[h]
   rwa [Rat.sub_add_cancel,Rat.zero_add]at f
  ·rintro rfl;exact Rat.sub_self
 rw[gY,eS]
 by_cases h:a<b
 ·rw[if_pos (d.2 h),if_pos h]
 ·rw[if_neg (fun x=>h (d.1 x)),if_neg h]
  by_cases c:a=b
  ·rw[if_pos (e.2 c),if_pos c]
  ·rw[if_neg (fun x=>c (e.1 x)),if_neg c]
theorem uy(a b:Rat)(d:bE (kB/3) a)(e:bE (kB/3) b):aw prog 134 [.str (aX a),.str (aX b)] (.int .i64 (eS a b)):=by
 have f:=yN a b (d.mono (by decide)) (e.mono (by decide));have c:=yD (a-b) ((xD d e).mono (by decide));rw[aFE]at c;refine aI nf G5 mix (by simp[f134]) ?_;simp[f134];refine c2 f ?_;simp;refine c1 c ?_;simp
theorem OK{a b:Nat}(h:a<=b):10^a<=10^b:=ec (by decide) h
theorem zJ{s:List Nat}{k:Nat}(h:s.length<=k)(a:s.all cd=true):aU s<10^k:=ea (jl _ s rfl a) (OK h)
theorem aDw{x a b:Nat}(hx:x<10^a)(h:a<=9*b):(aq bT x).length<=b:=dK aW b x (ea hx (by
 rw[show bT^b=10^(9*b)by rw[e7];rfl];exact OK h))
theorem Xy(s:List Nat)(D:s.length<=1048576):aw prog 193 [.str s] (.bool (s.all cd)):=by
 refine aI nf FX mix (by simp[f193]) ?_;obtain⟨k,hk,n,o⟩:=BR (fun j=>cd (s[j]?.getD 0)) s.length;have e:∀j(h:j<s.length),s[j]?.getD 0=s[j]:=fun j h=>by rw[ck h];rfl
 have B:s.all cd=decide (k=s.length):=by
  rcases o with h|⟨a,b⟩
  ·rw[h,decide_eq_true rfl,cx];intro x hx;obtain⟨j,A,rfl⟩:=List.getElem_of_mem hx;have:=n j (by omega)
   rwa [e j A]at this
  ·rw[decide_eq_false (by omega)];rw[e k a]at b
   by_cases m:s.all cd=true
   ·have:=cx.1 m _ (c6 a);rw[this]at b;cases b
   ·simpa using m
 rw[B];simp[f193];refine lp (α:=Nat) (fun i=>⟨[(3,.p (.int .i64 i)),(0,.p (.str s))],[]⟩)
  (fun i=>i<=k) (fun i=>k-i) 0 (ei _) ?_
 intro i hi;have C:bi.wrap ((i:Int)+1)=(i:Int)+1:=aK _ (by omega) (by omega)
 by_cases y:i<k
 ·have l:i<s.length:=by omega
  have q:=n i y;rw[e i l]at q;have E:=yJ q;generalize d:s[i]=c at*;have f:s[i]?=some c:=by rw[ck l,d]
  have a:¬(c:Int)<48:=by omega
  have b:¬(57:Int)<c:=by omega
  have t:¬c<48:=by omega
  have u:¬57<c:=by omega
  simp[l,d,f,a,b,t,u,C];exact rd (i+1) (show i+1<=k by omega)
 ·have z:i=k:=by omega
  subst z;rcases o with h|⟨a,b⟩
  ·simp[h]
  ·rw[e i a]at b;have r:¬i=s.length:=by omega
   generalize d:s[i]=c at*;have f:s[i]?=some c:=by rw[ck a,d]
   by_cases hc:c<48
   ·have g:(c:Int)<48:=by omega
    simp[a,d,f,hc,g,r]
   ·have v:57<c:=by
     simp only[cd,Bool.and_eq_false_iff,decide_eq_false_iff_not]at b;omega
    have g:¬(c:Int)<48:=by omega
    have w:(57:Int)<c:=by omega
    simp[a,d,f,hc,g,v,w,r]
theorem JZ(s:List Nat)(j:s.length<=1048576):aw prog 95 [.str s] (.bool (dy s)):=by
 have b:=Xy s j;refine aI nf Qh mix (by simp[f95]) ?_;cases s with
 |nil=>simp[f95,dy]
 |cons c r=>
  have k:(c:Int)=48↔c=48:=by omega
  by_cases a:r=[]
  ·subst a;have e:dy [c]=[c].all cd:=by
    rw[dy]
    by_cases h:c=48
    ·subst h;rfl
    ·simp[h]
   rw[e];simp[f95];refine c1 b ?_;simp
  ·have d:0<r.length:=da.2 a;have f:¬(r.length:Int)+1=0:=by omega
   have g:(1:Int)<r.length+1:=by omega
   by_cases hc:c=48
   ·have e:dy (c::r)=false:=by rw[dy,hc];simp[a]
    rw[e];simp[f95,a,hc,d,f,g]
   ·have i:¬(c:Int)=48:=by omega
    have e:dy (c::r)=(c::r).all cd:=by rw[dy];simp[hc]
    rw[e];simp[f95,a,hc,i,d,f,g];refine c1 b ?_;simp
theorem vW(s:List Nat)(hs:gX s):aw prog 25 [.str s] (.int .i64 (bU s)):=by
 refine aI nf PA mix (by simp[f25]) ?_;obtain⟨a0,aO⟩:=hs;obtain⟨d,S⟩:∃d,cR s=d:=⟨_,rfl⟩
 obtain⟨neg,A⟩:∃neg,bS s=neg:=⟨_,rfl⟩
 have aS:d.length<=s.length:=by rw[<-S];exact(oR s).1
 have T:=vA d (by omega);have Y:(bZ 47 d).1=bC s:=by rw[<-S];rfl
 have W:(bZ 47 d).2.1=bN s:=by rw[<-S];rfl
 have ah:(bZ 47 d).2.2=dW s:=by rw[<-S];rfl
 have z:=po 47 d;have F:=o7 47 d;rw[Y,W,ah]at z;rw[Y]at T F;rw[W]at F;obtain⟨k,hk⟩:∃k,(bC s).length=k:=⟨_,rfl⟩
 rw[hk]at T;have J:k<=d.length:=by rw[<-hk];exact F.1
 have ax:d.take k=bC s:=by
  rcases z with⟨_,G⟩|⟨_,G,_⟩
  ·rw[G,<-hk];simp
  ·rw[<-G,<-hk];simp
 have M:=JZ (bC s) (by omega);have l:=JZ (bN s) (by omega);simp[f25,-bh];rw[bh];simp[-bh];rw[bh];simp[-bh];refine join (fun st=>aM st.env 0=.p (.str s)/\aM st.env 3=.p (.str d)/\st.heap=[]) ?_ ?_
 ·cases aj:neg with
  |false=>
   have av:s=d:=by rw[<-S,cR,A,aj];rfl
   clear T z hk W Y ah ax M l F J;subst av;cases s with
   |nil=>simp
   |cons c r=>
    rw[aj]at A;have hc:¬c=45:=fun h=>by rw[h]at A;simp[bS]at A
    have an:¬(c:Int)=45:=by omega
    simp[hc,an]
  |true=>
   clear T z hk W Y ah ax M l F J;cases s with
   |nil=>simp[bS]at A;rw[aj]at A;cases A
   |cons c r=>
    have av:r=d:=by rw[<-S,cR,A,aj];rfl
    rw[aj]at A;have hc:c=45:=by simpa[bS]using A
    simp[hc,av]
 rintro⟨aH,aX⟩ ⟨w,e,ak⟩;dsimp only at w e ak;subst ak;have ag:jH s=(dy (bC s)&&!(neg&&decide (bC s=[48]))&&(!dW s||(dy (bN s)&&decide (bN s≠[48])&&decide (bN s≠[49])))):=by rw[jH,A]
 have a8:d.length<=1048576:=by omega
 have V:(bC s).all cd=true->(bN s).all cd=true->dW s=true->0<k->d.length<=1000000->aw prog 96 [.str d] (.aE [eG (aU (bC s):Nat),eG (aU (bN s):Nat)]):=fun y O ay aD a1=>by
  have al:bS d=false/\cR d=d:=by
   have aG:bS d=false:=by
    rcases z with⟨_,G⟩|⟨q1,_⟩
    ·cases X:bC s with
     |nil=>rw[X]at hk;simp at hk;omega
     |cons c r=>
      rw[X]at G y;have:=yJ (cx.1 y c (by simp));rw[G,bS];simp;omega
    ·rw[ay]at q1;cases q1
   exact⟨aG,by rw[cR,aG];rfl⟩
  have e1:bC d=bC s:=by rw[bC,al.2,Y]
  have e2:bN d=bN s:=by rw[bN,al.2,W]
  have e3:dW d=true:=by rw[dW,al.2,ah];exact ay
  have:=Lb d (by rw[e1];exact y) (by rw[e2];exact O) a1;rw[jL,iv,e1,e2,al.1,if_pos e3]at this;exact this
 rw[bU];generalize jH s=N at*;generalize bC s=v at*;generalize bN s=f at*;generalize dW s=fr at*;have U:c9 k d=v:=ax
 by_cases K:dy v=true
 ·have aD:0<k:=by
   rw[<-hk,da];intro h;rw[h]at K;cases K
  obtain⟨c,r,hs⟩:∃c r,s=c::r:=by
   cases s with
   |nil=>
    have:d.length<=0:=by simpa using aS
    omega
   |cons c r=>exact⟨c,r,rfl⟩
  have ao:c=45↔neg=true:=by rw[<-A,hs];simp[bS]
  have an:(c:Int)=45↔c=45:=by omega
  rw[K]at M;clear aO a0 S A Y W ah
  by_cases P:neg=true/\v=[48]
  ·have hf:N=false:=by rw[ag,P.1,P.2];simp
   have aR:=ao.2 P.1;rw[if_pos hf];clear z F l V ao an;subst hs aR;have X:=P.2;simp[w,e];refine c1 T ?_;simp[w,e,J,U];refine c1 M ?_;simp[w,e,J,U,X]
  ·subst hs;rw[bh];simp[w,e,-bh];refine c1 T ?_;simp[w,e,-bh];refine join (fun st=>aM st.env 3=.p (.str d)/\aM st.env 4=.p (.int .i64 k)/\st.heap=[]) ?_ ?_
   ·by_cases y:c=45
    ·have X:¬v=[48]:=fun h=>P ⟨ao.1 y,h⟩;subst y;clear z F l V;simp[w,e,J,U];refine c1 M ?_;simp[w,e,J,U,X]
    ·have aJ:¬(c:Int)=45:=by omega
     clear z F l V;simp[w,e,J,U];refine c1 M ?_;simp[w,e,J,U,y,aJ]
   clear w e;rintro⟨aH,aX⟩ ⟨e,j,ak⟩;dsimp only at e j ak;subst ak;cases ai:fr with
   |false=>
    have i:k=d.length:=by
     rcases z with⟨q1,_⟩|⟨_,G,_⟩
     ·rw[ai]at q1;cases q1
     ·rw[<-hk,G]
    have aE:¬k<d.length:=by omega
    have aT:f=[]:=by
     rcases z with⟨q1,_⟩|⟨_,_,a5⟩
     ·rw[ai]at q1;cases q1
     ·exact a5
    have hf:N=true:=by
     rw[ag,K,ai];simp
     by_cases y:neg=true
     ·exact .inr fun O=>P ⟨y,O⟩
     ·exact .inl (by simpa using y)
    have Z:bi.wrap ((d.length:Int)-k)=0:=by rw[i,Int.sub_self];rfl
    have ab:bi.wrap (-1)= -1:=rfl;rw[hf,hk,aT];clear z F l V
    by_cases I:600<k
    ·have B:¬(k:Int)<=600:=by omega
     have C:¬k<=600:=by omega
     have D:(600:Int)<k:=by omega
     simp[e,j,aE,I,B,C,D]
    ·have B:(k:Int)<=600:=by omega
     have C:k<=600:=by omega
     have D:¬(600:Int)<k:=by omega
     simp[e,j,aE,I,B,C,D,Z,ab]
   |true=>
    rw[ai]at ag V;have au:d=v++47::f:=by
     rcases z with⟨_,G⟩|⟨q1,_⟩
     ·exact G
     ·rw[ai]at q1;cases q1
    have i:k<d.length:=by rw[au];simp;omega
    have q:d.drop (k+1)=f:=by
     conv=>lhs;rw[au,<-hk]
     simp
    have a9:d.length=k+1+f.length:=by rw[au];simp;omega
    have u:bi.wrap ((k:Int)+1)=(k:Int)+1:=aK _ (by omega) (by omega);have t:((k:Int)+1).toNat=k+1:=by omega
    have m:(0:Int)<=k+1:=by omega
    have n:(k:Int)+1<=d.length:=by omega
    have o:k+1<=d.length:=i;clear z F;have af:N=(dy f&&decide (f≠[48])&&decide (f≠[49])):=by
     rw[ag,K];have:(neg&&decide (v=[48]))=false:=by
      by_cases y:neg=true
      ·have:¬v=[48]:=fun O=>P ⟨y,O⟩;simp[this]
      ·have:neg=false:=by simpa using y
       rw[this];rfl
     rw[this];simp
    by_cases ap:N=true
    ·rw[ap]at af;have aY:¬N=false:=by rw[ap];decide
     rw[if_neg aY];have aN:dy f=true/\¬f=[48]/\¬f=[49]:=by
      have:=af.symm;simp only[be,decide_eq_true_eq]at this;exact⟨this.1.1,this.1.2,this.2⟩
     obtain⟨L,H,E⟩:=aN;rw[L]at l;rw[hk];have Z:bi.wrap ((d.length:Int)-k)=(d.length:Int)-k:=aK _ (by omega) (by omega);have ab:bi.wrap ((d.length:Int)-k-1)=f.length:=by rw[aK _ (by omega) (by omega)];omega
     by_cases I:600<k
     ·have B:¬(k:Int)<=600:=by omega
      have C:¬k<=600:=by omega
      have D:(600:Int)<k:=by omega
      simp[e,j,i,u,t,m,n,o,q];refine c1 l ?_;simp[e,j,i,u,t,m,n,o,q,H,E,I,B,C,D]
     by_cases ac:600<f.length
     ·have B:(k:Int)<=600:=by omega
      have C:k<=600:=by omega
      have D:¬(600:Int)<k:=by omega
      have ad:(600:Int)<f.length:=by omega
      simp[e,j,i,u,t,m,n,o,q];refine c1 l ?_;simp[e,j,i,u,t,m,n,o,q,H,E,I,B,C,D,Z,ab,ac,ad]
     have B:(k:Int)<=600:=by omega
     have C:k<=600:=by omega
     have D:¬(600:Int)<k:=by omega
     have ad:¬(600:Int)<f.length:=by omega
     have R:=V (je K) (je L) rfl aD (by omega);have aV:=yi L H;have a3:v.length<=700:=by omega
     have a4:f.length<=700:=by omega
     have aP:aU v<10^700:=zJ (s:=v) (k:=700) a3 (je K);have aQ:aU f<10^700:=zJ (s:=f) (k:=700) a4 (je L);have aF:∀x:Nat,x<10^700->(aq bT x).length<=400000:=fun x hx=>eb (aDw (a:=700) (b:=78) hx (by decide)) (by decide);have Q:=KL (aU v) (aU f) (aF _ aP) (aF _ aQ);have aB:0<ey (aU v) (aU f):=ee _ aV;generalize aU v=a7 at*;generalize aU f=a6 at*;obtain⟨g,am⟩:∃g,ey a7 a6=g:=⟨_,rfl⟩
     simp only[am]at Q aB⊢;have a2:¬(600<k\/600<f.length):=fun h=>by rcases h with h|h;exact I h;exact ac h
     rw[if_neg a2];simp only[eG,bk]at R
     by_cases ar:g=1
     ·subst ar;have ae:aq bT 1=[1]:=nA (by decide) (by decide);simp only[eT,ae]at Q R;simp[e,j,i,u,t,m,n,o,q];refine c1 l ?_;simp[e,j,i,u,t,m,n,o,q,H,E,I,B,C,D,Z,ab,ac,ad];refine c1 R ?_;simp[aa];refine c2 Q ?_;simp[am]
     ·by_cases aC:g<bT
      ·have ae:aq bT g=[g]:=nA aB aC;have aZ:¬(g:Int)=1:=by omega
       simp only[eT,ae]at Q R;simp[e,j,i,u,t,m,n,o,q];refine c1 l ?_;simp[e,j,i,u,t,m,n,o,q,H,E,I,B,C,D,Z,ab,ac,ad];refine c1 R ?_;simp[aa];refine c2 Q ?_;simp[ar,aZ,am]
      ·have ae:¬((aq bT g).length:Int)=1:=by
        intro h;have O:(aq bT g).length=1:=by omega
        have:=cj aW g;rw[O,fv]at this;exact aC this
       simp only[eT]at Q R;simp[e,j,i,u,t,m,n,o,q];refine c1 l ?_;simp[e,j,i,u,t,m,n,o,q,H,E,I,B,C,D,Z,ab,ac,ad];refine c1 R ?_;simp[aa];refine c2 Q ?_;simp[ar,ae,am]
    ·have aA:N=false:=by simpa using ap
     rw[if_pos aA]
     by_cases L:dy f=true
     ·rw[L]at l
      by_cases H:f=[48]
      ·simp[e,j,i,u,t,m,n,o,q];refine c1 l ?_;simp[e,j,i,u,t,m,n,o,q,H]
      ·have E:f=[49]:=by
        rw[L]at af
        by_cases E:f=[49]
        ·exact E
        ·rw[aA]at af;simp[H,E]at af
       simp[e,j,i,u,t,m,n,o,q];refine c1 l ?_;simp[e,j,i,u,t,m,n,o,q,E]
     ·have aL:dy f=false:=by simpa using L
      rw[aL]at l;simp[e,j,i,u,t,m,n,o,q];refine c1 l ?_;simp[e,j,i,u,t,m,n,o,q]
 ·have az:dy v=false:=by simpa using K
  have hf:N=false:=by rw[ag,az];rfl
  rw[if_pos hf];rw[az]at M;simp[w,e];refine c1 T ?_;simp[w,e,J,U];refine c1 M ?_;simp[w,e]
theorem Uf(l:List (List Nat))(f:l.length<=1000000)(hs:∀s∈l,gX s):aw prog 103 [.seq (l.map .str)] (.int .i64 (bH (l.map bU))):=by
 refine aI nf FN mix (by simp[f103]) ?_;simp[f103];refine lp (α:=Nat) (fun i=>⟨[(3,.p (.int .i64 i)),(0,.p (.seq (l.map .str)))],[]⟩) (fun i=>i<=l.length/\bH ((l.drop i).map bU)=bH (l.map bU)) (fun i=>l.length-i) 0 (by simp) ?_;rintro i ⟨e,a⟩
 by_cases hi:i<l.length
 ·rw[List.drop_eq_getElem_cons hi]at a;have d:=bX (i:=i) (by omega);have hc:=vW l[i] (hs _ (c6 hi));obtain⟨s,b⟩:∃s,l[i]=s:=⟨_,rfl⟩
  have c:l[i]?=some s:=by rw[ck hi,b]
  rw[b]at hc a;simp[hi,c,b];refine c1 hc ?_
  by_cases he:bU s=0
  ·simp[bH,he]at a;simp[he,d];exact rd (i+1) ⟨hi,by simpa using a⟩
  ·simp[bH,he]at a;simp[he,<-a]
 ·have:i=l.length:=by omega
  subst this;simp[bH]at a;simp[<-a]
theorem sx(p:gz)(a:od p):aw prog 31 [fM p] (.int .i64 (dU p)):=by
 have hc:=Uf [p.x,p.y] (by simp) (by intro s hs;simp at hs;rcases hs with rfl|rfl;exact a.1;exact a.2);refine aI nf PD mix (by simp[f31]) ?_;simp[f31,aa];refine cp hc (by simp;exact⟨rfl,rfl⟩) ?_;simp[dU]
theorem Il(z:Int):47∉bI z:=by
 rw[bI];split
 ·simp only[dq,not_or];exact⟨by decide,Aj (nX _) rfl⟩
 ·exact Aj (nX _) rfl
theorem AD(q:Rat):(bZ 47 (aX q)).1=bI q.num/\(q.den≠1->aX q=bI q.num++47::aV q.den)/\(q.den=1->aX q=bI q.num):=by
 by_cases h:q.den=1
 ·have e:aX q=bI q.num:=by rw[aX,if_pos h]
  refine⟨?_,fun a=>(a h).elim,fun _=>e⟩;rw[e,BL 47 _ (Il _)]
 ·have e:aX q=bI q.num++47::aV q.den:=by rw[aX,if_neg h]
  refine⟨?_,fun _=>e,fun a=>(h a).elim⟩;rw[e,B7 47 _ _ (Il _)]
theorem Ya(q:Rat)(h:bE kB q):aw prog 184 [.str (aX q)] (.str (bI q.num)):=by
 have i:=qC h;obtain⟨e,c,d⟩:=AD q;have hs:=vA (aX q) (by omega);rw[e]at hs;have g:(aX q).take (bI q.num).length=bI q.num:=by
  by_cases b:q.den=1
  ·rw[d b];simp
  ·rw[c b];simp
 have f:(bI q.num).length<=(aX q).length:=by
  by_cases b:q.den=1
  ·rw[d b];exact e9 _
  ·rw[c b];simp
 refine aI nf F3 mix (by simp[f184]) ?_;generalize bI q.num=a at*;generalize aX q=s at*;simp[f184];refine c1 hs ?_;simp[g,f]
theorem X7(q:Rat)(h:bE kB q):aw prog 185 [.str (aX q)] (.str (aV q.den)):=by
 have d:=qC h;obtain⟨i,j,k⟩:=AD q;have hs:=vA (aX q) (by omega);rw[i]at hs;refine aI nf F2 mix (by simp[f185]) ?_
 by_cases c:q.den=1
 ·have e:=k c;rw[c,E9];rw[e]at hs⊢;generalize bI q.num=a at*;simp[f185];refine c1 hs ?_;simp
 ·have e:=j c;rw[e]at hs d⊢;generalize bI q.num=a at*;generalize aV q.den=b at*;simp only[List.length_append,List.length_cons]at d;have m:¬(a.length:Int)=(a.length:Int)+(b.length+1):=by omega
  have p:bi.wrap ((a.length:Int)+1)=(a.length:Int)+1:=aK _ (by omega) (by omega);have o:((a.length:Int)+1).toNat=a.length+1:=by omega
  have f:(0:Int)<=(a.length:Int)+1:=by omega
  have g:(a.length:Int)+1<=(a.length:Int)+(b.length+1):=by omega
  have l:List.drop (a.length+1) (a++47::b)=b:=by simp
  have n:c9 (a.length+(b.length+1)) (a++47::b)=a++47::b:=cv (by simp);simp[f185];refine c1 hs ?_;simp[m,p,o,f,g,l,n]
theorem X5(z:Int)(h:(bI z).length<=1000000):aw prog 183 [.str (bI z)] (.str (aV z.natAbs)):=by
 have a:=MY (bI z) (by omega);have g:bS (bI z)=decide (z<0):=by
  have:=(xV z []).1;rwa [List.append_nil]at this
 have f:bI z=[48]↔z=0:=by
  have e:bI z=aX (z:Rat):=by rw[aX,if_pos (gg z),ge]
  rw[e,Ik]
  exact_mod_cast Iff.rfl
 refine aI nf F4 mix (by simp[f183]) ?_;rw[g]at a
 by_cases c:z<0
 ·have e:bI z=45::aV z.natAbs:=by rw[bI,if_pos c]
  rw[if_neg (fun x=>by have:=f.1 x;omega),if_pos (by simpa using c)]at a;rw[e]at a⊢;simp[f183];refine c1 a ?_;simp
 ·have e:bI z=aV z.natAbs:=by rw[bI,if_neg c]
  have b:∃v:Int,¬v<0/\aw prog 26 [.str (bI z)] (.int .i64 v):=by
   by_cases d:bI z=[48]
   ·rw[if_pos d]at a;exact⟨0,by omega,a⟩
   ·rw[if_neg d,if_neg (by simpa using c)]at a;exact⟨1,by omega,a⟩
  obtain⟨v,i,b⟩:=b;rw[e]at b⊢;simp[f183];refine c1 b ?_;simp[i]
def fI(s:List Nat)(D:Nat):Bool:=decide (s.length<=2*D+2)&&decide (bU s=0)&&decide ((aV (aZ s).num.natAbs).length<=D)&&decide ((aV (aZ s).den).length<=D)
theorem YL{s:List Nat}(h:bU s=0):bE kB (aZ s):=by
 obtain⟨b,c⟩:=FT h;have a:(10:Nat)^mD<=2^kB:=eb (LR mD) (ec (by decide) (by decide));exact⟨ea b a,ea c a⟩
theorem zH(s:List Nat)(D:Nat)(hs:gX s)(v:D<=100000):aw prog 87 [.str s,.int .i64 D] (.bool (fI s D)):=by
 have g:=vW s hs;have w:=hs.1;refine aI nf Qa mix (by simp[f87]) ?_;have h:bi.wrap (2*(D:Int))=2*(D:Int):=aK _ (by omega) (by omega);have i:bi.wrap (2*(D:Int)+2)=2*(D:Int)+2:=aK _ (by omega) (by omega)
 by_cases n:s.length<=2*D+2
 ·have f:(s.length:Int)<=2*(D:Int)+2:=by omega
  by_cases d:bU s=0
  ·have m:=YL d;have e:=(jr d).1;rw[d]at g;have l:=Ya (aZ s) m;have p:=X7 (aZ s) m;have r:(bI (aZ s).num).length<=1000000:=by
    have:=qC m;obtain⟨_,t,u⟩:=AD (aZ s)
    by_cases q:(aZ s).den=1
    ·rw[u q]at this;exact this
    ·rw[t q]at this;simp at this;omega
   have o:=X5 (aZ s).num r;rw[e]at l p;have hf:fI s D=(decide ((aV (aZ s).num.natAbs).length<=D)&&decide ((aV (aZ s).den).length<=D)):=by
    rw[fI,decide_eq_true n,decide_eq_true d];simp
   rw[hf];generalize aV (aZ s).num.natAbs=a at*;generalize aV (aZ s).den=b at*;generalize bI (aZ s).num=c at*
   by_cases j:a.length<=D
   ·have k:(a.length:Int)<=D:=by omega
    simp[f87,h,i,f];refine c1 g ?_;simp;refine c1 l ?_;simp;refine c1 o ?_;simp[j,k];refine c1 p ?_;simp[j]
   ·have k:¬(a.length:Int)<=D:=by omega
    simp[f87,h,i,f];refine c1 g ?_;simp;refine c1 l ?_;simp;refine c1 o ?_;simp[j,k]
  ·have hf:fI s D=false:=by rw[fI,decide_eq_false d];simp
   rw[hf];simp[f87,h,i,f];refine c1 g ?_;simp[d]
 ·have f:¬(s.length:Int)<=2*(D:Int)+2:=by omega
  have hf:fI s D=false:=by rw[fI,decide_eq_false n];simp
  rw[hf];simp[f87,h,i,f]
structure V2 where
 x:Rat
 y:Rat
def eV(v:V2):PV:=fM ⟨aX v.x,aX v.y⟩
@[simp] theorem aK3(v:V2):aL (eV v)=.agg 46:=rfl
@[simp] theorem aJP(v:V2):cF (eV v)=[.str (aX v.x),.str (aX v.y)]:=rfl
theorem tI(x y:Rat):eV ⟨x,y⟩=.st 46 [.str (aX x),.str (aX y)]:=rfl
def bW(k:Nat)(v:V2):Prop:=bE k v.x/\bE k v.y
theorem bW.mono{k l:Nat}{v:V2}(h:bW k v)(a:k<=l):bW l v:=⟨h.1.mono a,h.2.mono a⟩
def V2.sub(v w:V2):V2:=⟨v.x-w.x,v.y-w.y⟩
def V2.add(v w:V2):V2:=⟨v.x+w.x,v.y+w.y⟩
def V2.mul(v:V2)(k:Rat):V2:=⟨v.x*k,v.y*k⟩
def V2.dot(v w:V2):Rat:=v.x*w.x+v.y*w.y
def V2.gZ(v w:V2):Rat:=v.x*w.y-v.y*w.x
theorem tJ{k l:Nat}{v w:V2}(h:bW k v)(a:bW l w):bW (k+l+1) (v.sub w):=⟨xD h.1 a.1,xD h.2 a.2⟩
theorem Aq{k l:Nat}{v w:V2}(h:bW k v)(a:bW l w):bW (k+l+1) (v.add w):=⟨zd h.1 a.1,zd h.2 a.2⟩
theorem aC1{k l:Nat}{v w:V2}(h:bW k v)(a:bW l w):bE (k+l+(k+l)+1) (v.dot w):=zd (lK h.1 a.1) (lK h.2 a.2)
theorem Rl{k l:Nat}{v w:V2}(h:bW k v)(a:bW l w):bE (k+l+(k+l)+1) (v.gZ w):=xD (lK h.1 a.2) (lK h.2 a.1)
def kQ:Nat:=20000
theorem eK{q:Rat}(h:bE kQ q):bE kB q:=h.mono (by decide)
theorem DG(v w:V2)(a:bW kQ v)(b:bW kQ w):aw prog 38 [eV v,eV w] (eV (v.sub w)):=by
 have c:=yN v.x w.x (eK a.1) (eK b.1);have d:=yN v.y w.y (eK a.2) (eK b.2);refine aI nf PH mix (by simp[f38]) ?_;rw[V2.sub,tI];simp[f38,aa];refine e2 c ?_;simp[aa];refine e2 d ?_;simp[aa]
theorem X8(v w:V2)(a:bW kQ v)(b:bW kQ w):aw prog 37 [eV v,eV w] (.str (aX (v.dot w))):=by
 have c:=tH v.x w.x (eK a.1) (eK b.1);have d:=tH v.y w.y (eK a.2) (eK b.2);have e:=zI (v.x*w.x) (v.y*w.y) ((lK a.1 b.1).mono (by decide)) ((lK a.2 b.2).mono (by decide));refine aI nf PG mix (by simp[f37]) ?_;rw[V2.dot];simp[f37,aa];refine e2 c ?_;simp[aa];refine e2 d ?_;simp[aa];refine e2 e ?_;simp
theorem Rq(v w:V2)(a:bW kQ v)(b:bW kQ w):aw prog 182 [eV v,eV w] (.str (aX (v.gZ w))):=by
 have c:=tH v.x w.y (eK a.1) (eK b.2);have d:=tH v.y w.x (eK a.2) (eK b.1);have e:=yN (v.x*w.y) (v.y*w.x) ((lK a.1 b.2).mono (by decide)) ((lK a.2 b.1).mono (by decide));refine aI nf F5 mix (by simp[f182]) ?_;rw[V2.gZ];simp[f182,aa];refine e2 c ?_;simp[aa];refine e2 d ?_;simp[aa];refine e2 e ?_;simp
theorem Sz(v:V2)(a:bW kQ v):aw prog 56 [eV v] (.str (aX (v.dot v))):=by
 refine aI nf PM mix (by simp[f56]) ?_;simp[f56,aa];refine c2 (X8 v v a a) ?_;simp
theorem Ar(v w:V2)(a:bW kQ v)(b:bW kQ w):aw prog 35 [eV v,eV w] (eV (v.add w)):=by
 have c:=zI v.x w.x (eK a.1) (eK b.1);have d:=zI v.y w.y (eK a.2) (eK b.2);refine aI nf PF mix (by simp[f35]) ?_;rw[V2.add,tI];simp[f35,aa];refine e2 c ?_;simp[aa];refine e2 d ?_;simp[aa]
theorem Rn(v:V2)(a:Rat)(c:bW kQ v)(b:bE kQ a):aw prog 40 [eV v,.str (aX a)] (eV (v.mul a)):=by
 have d:=tH v.x a (eK c.1) (eK b);have e:=tH v.y a (eK c.2) (eK b);refine aI nf PJ mix (by simp[f40]) ?_;rw[V2.mul,tI];simp[f40,aa];refine e2 d ?_;simp[aa];refine e2 e ?_;simp[aa]
def nN(r:Int):Rat:=((4*r*r:Int):Rat)
theorem Jm{r:Int}(a:0<=r)(b:r<=1000000):0<=4*r*r/\4*r*r<=4000000000000:=by
 have c:=ce a a;have d:=Int.mul_le_mul b b a (by decide);rw[Int.mul_assoc];omega
theorem Sw{r:Int}(a:0<=r)(b:r<=1000000):bE 42 (nN r):=by
 have:=Jm a b;exact ju (by omega) (by decide)
structure S3 where
 a:Rat
 b:Rat
 d:Rat
theorem V7:prog.stoodInHeld 47=false:=by kernel_rfl
@[simp] theorem aJp:rM prog 47=true:=by kernel_rfl
def ln(a b c d:List Nat):Bool:=decide (a=c/\b=d)
@[simp] theorem aJq{a b c d:List Nat}:ie prog 9 47 (.st 46 [.str a,.str b]) (.st 46 [.str c,.str d])=some (ln a b c d):=by
 have e:=underlying47;have:((a==c)&&((b==d)&&true))=ln a b c d:=by
  rw[ln,Bool.eq_iff_iff];simp
 rw[<-this];simp[ie,e,V7,iV,aL]
theorem KG(p:gz)(D:Nat)(d:od p)(c:D<=100000):aw prog 22 [fM p,.int .i64 D] (.bool (fI p.x D&&fI p.y D)):=by
 have a:=zH p.x D d.1 c;have b:=zH p.y D d.2 c;refine aI nf Pz mix (by simp[f22]) ?_;obtain⟨x,y⟩:=p;dsimp only at a b⊢;simp only[fM];cases hx:fI x D
 ·rw[hx]at a;simp[f22,aa];refine c2 a ?_;simp
 ·rw[hx]at a;simp[f22,aa];refine c2 a ?_;simp[aa];refine c2 b ?_;simp
def wP(k:Nat)(s:S3):Prop:=bE k s.a/\bE k s.b/\bE k s.d
theorem wP.mono{k l:Nat}{s:S3}(h:wP k s)(a:k<=l):wP l s:=⟨h.1.mono a,h.2.1.mono a,h.2.2.mono a⟩
def S3.add(s t:S3):S3:=⟨s.a+t.a,s.b+t.b,s.d⟩
def S3.mul(s t:S3):S3:=⟨s.a*t.a+s.b*t.b*s.d,s.a*t.b+t.a*s.b,s.d⟩
def S3.times(x:Rat)(s:S3):S3:=⟨x*s.a,x*s.b,s.d⟩
def kS:Nat:=8000
structure P4 where
 x:S3
 y:S3
def Ey(k:Nat)(p:P4):Prop:=wP k p.x/\wP k p.y
theorem Ey.mono{k l:Nat}{p:P4}(h:Ey k p)(a:k<=l):Ey l p:=⟨h.1.mono a,h.2.mono a⟩
def P4.dot(v:V2)(p:P4):S3:=(S3.times v.x p.x).add (S3.times v.y p.y)
def sg3(a b o:Int):Int:=if 0<=a*b then(if a=0 then b else a)else a*o
def sgS(s:S3):Int:=sg3 (gY s.a) (gY s.b*gY s.d) (eS (s.a*s.a) (s.b*s.b*s.d))
end Go.aj
