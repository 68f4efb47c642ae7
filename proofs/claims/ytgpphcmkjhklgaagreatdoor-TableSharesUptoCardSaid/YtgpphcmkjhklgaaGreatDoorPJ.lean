import Derived.Test.YtgpphcmkjhklgaaGreatDoorPI
import Derived.Test.YtgpphcmkjhklgaaGreatDoorPH
import Derived.Test.YtgpphcmkjhklgaaGreatDoorPG
/- Parts of a proof. -/
set_option linter.unusedSimpArgs false
set_option linter.unusedVariables false
set_option linter.unusedSectionVars false
open Go.Proofs.Tryz
open Bool renaming false_eq_true->bb, and_eq_true->be
open Go.IntKind renaming i64->bi
open Int renaming natAbs_natCast->bk, ofNat_natAbs_of_nonpos->bl, natCast_nonneg->bo, natAbs_mul->bv, tdiv_eq_ediv_of_nonneg->b0, mul_ediv_cancel_left->b1, natAbs_neg->b2, ofNat_dvd_left->b3, natCast_ediv->b4, tmod_eq_emod_of_nonneg->b5, natAbs_of_nonneg->cb, natCast_emod->cc, mul_nonneg->ce
open List renaming getElem?_eq_getElem->ck, take_of_length_le->cv, all_eq_true->cx, length_take->cy, getElem_mem->c6, take->c9, length_pos_iff->da, length_drop->db, length->dg, getElem_of_eq->dk, take_length->dl, take_take->dp, mem_cons->dq, map_take->dz
open Nat renaming lt_of_lt_of_le->ea, le_trans->eb, pow_le_pow_right->ec, lt_of_le_of_lt->ed, gcd_pos_of_pos_right->ee, zero_le->ei, pow_succ->ej, lt_or_ge->em, mul_lt_mul''->en, gcd_le_right->eo, gcd_dvd_left->eq, div_le_self->ew, gcd->ey, div_div_eq_div_mul->e6, pow_mul->e7, pow_add->e8, le_refl->e9, div_pos->fb, min_eq_left->fd, pow_zero->fl, pow_pos->fm, pow_one->fv, div_one->fJ
open Rat renaming divInt->gb, neg_divInt_neg->gc, num_intCast->ge, den_intCast->gg, neg_num->gi, not_le->gj
namespace Go.al
open Go.Proofs
set_option maxHeartbeats 4000000
set_option maxRecDepth 100000
theorem TG{s:List Nat}{i:Nat}(h:i<s.length):aV (s.take (i+1))=aV (s.take i)*10+(s[i]-48):=by
 rw[List.take_succ_eq_append_getElem h,xe]
theorem ur{s:List Nat}{p:Nat->Bool}(h:s.all p=true)(i:Nat):(s.take i).all p=true:=by
 rw[cx]at h⊢;intro x hx;exact h x (List.mem_of_mem_take hx)
theorem J2{s:List Nat}{p:Nat->Bool}(h:s.all p=true)(i:Nat):(s.drop i).all p=true:=by
 rw[cx]at h⊢;intro x hx;exact h x (List.mem_of_mem_drop hx)
theorem xW{c:Nat}(h:bX c=true):48<=c/\c<=57:=by
 simpa[bX]using h
theorem xO(s:List Nat)(e:s.all bX=true)(B:s.length<=18):az prog 262 [.str s] (.int .i64 (aV s:Nat)):=by
 refine aM nf Ef mix (by simp[f262]) ?_;obtain⟨L,g⟩:∃L,L=s.length:=⟨_,rfl⟩
 have k:aV (s.take L)=aV s:=by rw[g,dl]
 rw[<-k];obtain⟨v,b⟩:∃v:Nat->Nat,∀i,aV (s.take i)=v i:=⟨_,fun _=>rfl⟩
 have o:v 0=0:=by rw[<-b];rfl
 have q:∀i(h:i<s.length),v (i+1)=v i*10+(s[i]-48):=fun i h=>by rw[<-b,<-b,TG h]
 have f:∀i,i<=L->v i<10^i:=fun i hi=>by
  rw[<-b];exact iR i _ (by rw[cy];omega) (ur e i)
 rw[b];simp[f262];refine lp (α:=Nat) (fun i=>⟨[(4,.p (.int .i64 i)),(3,.p (.int .i64 (v i:Nat))),(0,.p (.str s))],[]⟩)
  (fun i=>i<=L) (fun i=>L-i) 0 (ei _) ?_ (he:=by simp[o])
 intro i hi
 by_cases m:i<L
 ·have a:i<s.length:=by omega
  have j:=f i hi;have A:=f (i+1) m;have hc:=xW (cx.1 e s[i] (c6 a));have hs:=q i a;have n:10^i<=10^17:=ec (by decide) (by omega);have z:v i<100000000000000000:=ea j (by exact n);generalize d:s[i]=c at*;generalize C:v i=x at*;have r:bi.wrap (10*(x:Int))=10*(x:Int):=aN _ (by omega) (by omega);have t:bi.wrap (10*(x:Int)+c)=10*(x:Int)+c:=aN _ (by omega) (by omega);have u:bi.wrap (10*(x:Int)+c-48)=(v (i+1):Nat):=by rw[hs,aN _ (by omega) (by omega)];omega
  have w:bi.wrap ((i:Int)+1)=(i:Int)+1:=aN _ (by omega) (by omega);have y:bi.wrap (c:Int)=c:=aN _ (by omega) (by omega);have l:s[i]?=some c:=by rw[ck a,d]
  simp[a,d,l,r,t,u,w,y];exact rd (i+1) (show i+1<=L by omega)
 ·have a:¬i<s.length:=by omega
  have:i=L:=by omega
  subst this;simp[a]
theorem KL(c:Nat):∀s:List Nat,c∉(bS c s).1
 |[]=>by simp[bS]
 |x::r=>by
  rw[bS]
  split
  ·simp
  ·rename_i h;simp only[dq,not_or];exact⟨fun e=>h e.symm,KL c r⟩
theorem uM(s:List Nat)(x:s.length<=1048576):az prog 98 [.str s] (.int .i64 ((bS 47 s).1.length:Nat)):=by
 refine aM nf OA mix (by simp[f98]) ?_;obtain⟨k,hk⟩:∃k,(bS 47 s).1.length=k:=⟨_,rfl⟩
 have t:=KL 47 s;have w:k<=s.length:=by rw[<-hk];exact(nZ 47 s).1
 have n:∀j(h:j<s.length),j<k->¬s[j]=47:=by
  intro j h v e;apply t;rcases om 47 s with⟨_,b⟩|⟨_,b,_⟩
  ·have:s[j]=(bS 47 s).1[j]'(by omega):=by
    conv=>lhs;rw[dk b]
    rw[List.getElem_append_left]
   have d:(bS 47 s).1[j]'(by omega)∈(bS 47 s).1:=c6 _;rw[<-this,e]at d;exact d
  ·rw[b];have d:s[j]∈s:=c6 _
   rwa [e]at d
 have b:∀(h:k<s.length),s[k]=47:=by
  intro h;rcases om 47 s with⟨_,g⟩|⟨_,g,_⟩
  ·rw[dk g,List.getElem_append_right (by omega)];simp[hk]
  ·rw[g]at hk;omega
 rw[hk];simp[f98];refine lp (α:=Nat) (fun i=>⟨[(3,.p (.int .i64 i)),(0,.p (.str s))],[]⟩)
  (fun i=>i<=k) (fun i=>k-i) 0 (ei _) ?_
 intro i hi;have u:bi.wrap ((i:Int)+1)=(i:Int)+1:=aN _ (by omega) (by omega)
 by_cases q:i<k
 ·have a:i<s.length:=by omega
  have f:=n i a q;generalize m:s[i]=c at*;have l:s[i]?=some c:=by rw[ck a,m]
  have o:¬(c:Int)=47:=by omega
  simp[a,m,l,o,f,u];exact rd (i+1) (show i+1<=k by omega)
 ·have r:i=k:=by omega
  subst r
  by_cases a:i<s.length
  ·have f:=b a;have l:s[i]?=some 47:=by rw[ck a,f]
   simp[a,f,l]
  ·have:i=s.length:=by omega
   simp[a,this]
theorem Lf(n:Int)(M:-9223372036854775808<=n)(O:n<=9223372036854775807):az prog 180 [.int .i64 n] (eG n):=by
 refine aM nf EM mix (by simp[f180]) ?_;obtain⟨N,P⟩:∃N,n.natAbs=N:=⟨_,rfl⟩
 have D:N<bT^3:=by
  have:bT^3=1000000000000000000000000000:=by decide
  omega
 obtain⟨g,a⟩:∃g:Nat->Nat,∀i,N/bT^i=g i:=⟨_,fun _=>rfl⟩
 have F:g 0=N:=by rw[<-a,fl,fJ]
 have H:∀i,g (i+1)=g i/bT:=fun i=>by rw[<-a,<-a,e6,ej]
 have A:∀i,ae bT N i=g i% bT:=fun i=>by rw[<-a];rfl
 have G:g 3=0:=by rw[<-a,Nat.div_eq_of_lt D]
 have k:∀i,g i<=N:=fun i=>by rw[<-a];exact ew _ _
 have y:∀i,i<=3->g i=0->az prog 256 [.bool (decide (n<0)),.seq (iP (row bT i N))] (eG n):=fun i I hi=>by
  have h:=Bf (decide (n<0)) (row bT i N) N (iV aX (by
   rw[<-a]at hi;rcases em N (bT^i)with h|h
   ·exact h
   ·have:=fb h (fm (show 0<bT by decide));omega)) (by simp[row];omega)
  have e:(if decide (n<0)=true then -(N:Int)else N)=n:=by
   by_cases c:n<0
   ·simp[c];omega
   ·simp[c];omega
  rwa [e]at h
 obtain⟨m,f⟩:∃m:Nat->Int,∀i,(if n<0 then -(g i:Int)else g i)=m i:=⟨_,fun _=>rfl⟩
 have J:m 0=n:=by rw[<-f,F];split<;>omega
 simp only[eG]at y⊢;simp[f180];refine lp (α:=Nat) (fun i=>⟨[(0,.p (.int .i64 (m i))),(2,.ptr 0 []),(3,.sl 1 i 1 0 i),(4,.p (.bool (decide (n<0))))],[.box false (.p (.st 166 [.bool false,.aR])),.arr .grow i 1 (dR i N)]⟩)
  (fun i=>i<=3) (fun i=>3-i) 0 (ei _) ?_ (he:=by simp[J,dR]) (hh:=by simp[dR])
 intro i hi;have Q:bT=1000000000:=rfl;have L:=Nat.mod_lt (g i) (show 0<bT by decide);have R:=k i;have E:=Nat.div_add_mod (g i) bT;have u:g i% bT=ae bT N i:=(A i).symm
 by_cases d:g i=0
 ·have b:m i=0:=by rw[<-f,d];split<;>rfl
  have hs:=y i hi d;rcases i with _|i
  ·simp[b];refine cp hs (by simp[dR];first|exact⟨rfl,rfl⟩|rfl) ?_ (h1:=by simp[iP,row]);simp[ad]
  ·have j:¬dR (i+1) N=[]:=by intro h;have:=congrArg dg h;rw[gU]at this;simp at this
   simp[b];refine cp hs (by simp[gU,Kb,j];first|exact⟨rfl,rfl⟩|rfl) ?_ (h1:=by simp[iP,row,dz,cv]);simp[ad]
 ·have I:i<3:=by
   rcases em i 3 with h|h
   ·exact h
   ·rw[show i=3 by omega]at d;exact(d G).elim
  have z:=H i;have K:=A i;have l:=pD i N;have x:c9 i (dR i N)=dR i N:=cv (by rw[gU];exact e9 _);rw[K]at l;obtain⟨r,B⟩:∃r,g i% bT=r:=⟨_,rfl⟩
  rw[B]at l L E;have u:=B.symm
  by_cases c:n<0
  ·have b:m i= -(g i:Int):=by rw[<-f,if_pos c]
   have o:m (i+1)= -(g (i+1):Int):=by rw[<-f,if_pos c]
   have j:¬(g i:Int)=0:=by omega
   have s:((g i:Nat):Int).tmod 1000000000=r:=by rw[u,b5 (bo _),cc];rfl
   have q:((g i:Nat):Int).tdiv 1000000000=(g (i+1):Nat):=by rw[z,b0 (bo _),b4 (g i)];rfl
   have wr:bi.wrap (r:Int)=r:=aN _ (by omega) (by omega);have C:bi.wrap (-(r:Int))= -r:=aN _ (by omega) (by omega);have t:bi.wrap (-(g (i+1):Int))= -(g (i+1):Nat):=aN _ (by have:=k (i+1);omega) (by have:=k (i+1);omega)
   by_cases v:r=0
   ·simp[b,d,j,s,q,wr,C,t,v,x,gU];refine⟨by simp only[cU];omega,?_⟩;exact rd (i+1) (show i+1<=3 by omega) (he:=by simp[o]) (hh:=by simp[l,v])
   ·have w:0<r:=by omega
    simp[b,d,j,s,q,wr,C,t,v,w,x,gU];refine⟨by simp only[cU];omega,?_⟩;exact rd (i+1) (show i+1<=3 by omega) (he:=by simp[o]) (hh:=by simp[l])
  ·have b:m i=(g i:Int):=by rw[<-f,if_neg c]
   have o:m (i+1)=(g (i+1):Int):=by rw[<-f,if_neg c]
   have j:¬(g i:Int)=0:=by omega
   have s:((g i:Nat):Int).tmod 1000000000=r:=by rw[u,b5 (bo _),cc];rfl
   have q:((g i:Nat):Int).tdiv 1000000000=(g (i+1):Nat):=by rw[z,b0 (bo _),b4 (g i)];rfl
   have wr:bi.wrap (r:Int)=r:=aN _ (by omega) (by omega);have t:bi.wrap (g (i+1):Int)=(g (i+1):Nat):=aN _ (by have:=k (i+1);omega) (by have:=k (i+1);omega);have w:¬(r:Int)<0:=by omega
   simp[b,d,j,s,q,wr,t,w,x,gU];refine⟨by simp only[cU];omega,?_⟩;exact rd (i+1) (show i+1<=3 by omega) (he:=by simp[o]) (hh:=by simp[l])
theorem Hj{d:List Nat}(c:d.all bX=true){L i:Nat}(f:L=d.length)(h:9*(i+1)<=L):
 aV (d.take (L-9*(i+1)))=aV (d.take (L-9*i))/10^9/\aV ((d.take (L-9*i)).drop (L-9*(i+1)))=aV (d.take (L-9*i))% 10^9:=by
 have e:=List.take_append_drop (L-9*(i+1)) (d.take (L-9*i));rw[dp,fd (by omega)]at e;have a:=IW (d.take (L-9*(i+1))) ((d.take (L-9*i)).drop (L-9*(i+1)));rw[e]at a;have b:((d.take (L-9*i)).drop (L-9*(i+1))).length=9:=by rw[db,cy];omega
 rw[b]at a;have g:=iR 9 _ b (J2 (ur c _) _);generalize aV ((d.take (L-9*i)).drop (L-9*(i+1)))=y at*;generalize aV (d.take (L-9*(i+1)))=x at*;rw[a];omega
theorem Bg(s:List Nat)(k:(cF s).all bX=true)(J:s.length<=1000000):az prog 187 [.str s] (eG (if bP s=true then -(aV (cF s):Int)else aV (cF s))):=by
 refine aM nf EF mix (by simp[f187]) ?_;obtain⟨d,v⟩:∃d,cF s=d:=⟨_,rfl⟩
 obtain⟨neg,f⟩:∃neg,bP s=neg:=⟨_,rfl⟩
 obtain⟨N,F⟩:∃N,aV d=N:=⟨_,rfl⟩
 have ah:d.length<=1000000:=by rw[<-v];exact eb (nS s).1 J
 rw[v]at k⊢;rw[f,F];have ai:=J;simp[f187,-bh];rw[bh];simp[-bh];refine join (fun st=>aK st.env 0=.p (.str s)/\aK st.env 2=.ptr 0 []/\aK st.env 3=.p (.bool neg)/\st.heap=[.box false (.p (.st 166 [.bool false,.aR]))]) ?_ ?_
 ·cases s with
  |nil=>simp[<-f,bP]
  |cons c r=>
   by_cases hc:c=45
   ·simp[<-f,bP,hc]
   ·have T:¬(c:Int)=45:=by omega
    simp[<-f,bP,hc,T]
 rintro⟨S,U⟩ ⟨a,b,e,n⟩;dsimp only at a b e n;subst n;refine join (fun st=>aK st.env 0=.p (.str d)/\aK st.env 2=.ptr 0 []/\aK st.env 3=.p (.bool neg)/\st.heap=[.box false (.p (.st 166 [.bool false,.aR]))]) ?_ ?_
 ·cases neg with
  |false=>
   have D:s=d:=by rw[<-v,cF,f];rfl
   simp[a,b,e,D]
  |true=>
   cases s with
   |nil=>simp[bP]at f
   |cons c r=>
    have D:r=d:=by rw[<-v,cF,f];rfl
    simp[a,b,e,D]
 clear a b e;rintro⟨S,U⟩ ⟨a,b,e,n⟩;dsimp only at a b e n;subst n;obtain⟨L,u⟩:∃L,L=d.length:=⟨_,rfl⟩
 obtain⟨g,l⟩:∃g:Nat->Nat,∀i,N/bT^i=g i:=⟨_,fun _=>rfl⟩
 have B:∀i,9*i<=L->aV (d.take (L-9*i))=g i:=by
  intro i
  induction i with
  |zero=>intro _;rw[Nat.mul_zero,Nat.sub_zero,u,dl,F,<-l,fl,fJ]
  |succ i ac=>
   intro h;rw[(Hj k u h).1,ac (by omega),<-l,<-l,e6,ej];rfl
 have V:∀i,9*(i+1)<=L->aV ((d.take (L-9*i)).drop (L-9*(i+1)))=ae bT N i:=fun i h=>by
  rw[(Hj k u h).2,B i (by omega),<-l];rfl
 have ab:∀i,9*(i+1)<=L->az prog 262 [.str ((d.take (L-9*i)).drop (L-9*(i+1)))] (.int .i64 (ae bT N i:Nat)):=fun i h=>by
  rw[<-V i h];exact xO _ (J2 (ur k _) _) (by rw[db,cy];omega)
 have I:∀i,9*i<=L->L<=9*i+9->g i=ae bT N i/\N<bT^(i+1):=fun i j q=>by
  have H:=iR _ (d.take (L-9*i)) rfl (ur k _);rw[B i j]at H;have y:g i<bT:=ea H (by
   rw[show bT=10^9 from rfl];exact ec (by decide) (by rw[cy];omega))
  refine⟨by rw[ae,l,Nat.mod_eq_of_lt y],?_⟩;rw[<-l,Nat.div_lt_iff_lt_mul (fm (by decide))]at y;rw[ej,Nat.mul_comm];exact y
 have W:∀i,9*i<=L->L<=9*i+9->az prog 262 [.str (d.take (L-9*i))] (.int .i64 (ae bT N i:Nat)):=fun i j q=>by
  rw[<-(I i j q).1,<-B i j];exact xO _ (ur k _) (by rw[cy];omega)
 have G:∀i,9*i<=L->L<=9*i+9->az prog 256 [.bool neg,.seq (iP (row bT (i+1) N))] (eG (if neg=true then -(N:Int)else N)):=fun i j q=>
  Bf neg (row bT (i+1) N) N (iV aX (I i j q).2) (by simp[row];omega)
 generalize (if neg=true then -(N:Int)else N)=z at*;simp only[eG]at G⊢;rw[bh];simp[a,b,e,-bh];rw[bh];simp[a,b,e];refine lp (α:=Nat) (fun i=>⟨[(0,.p (.str (d.take (L-9*i)))),(2,.ptr 0 []),(3,.p (.bool neg)),(4,.sl 1 i 1 0 i)],[.box false (.p (.st 166 [.bool false,.aR])),.arr .grow i 1 (dR i N)]⟩)
  (fun i=>9*i<=L) (fun i=>L-i) 0 (ei _) ?_ (he:=by simp[a,b,e,dR,u]) (hh:=by simp[dR])
 intro i hi;have x:(d.take (L-9*i)).length=L-9*i:=by rw[cy];omega
 have o:=ab i;have w:=W i hi;have E:(d.take (L-9*i)).take (L-9*(i+1))=d.take (L-9*(i+1)):=by rw[dp,fd (by omega)]
 rw[show L-9*(i+1)=L-9*i-9 by omega]at o E;obtain⟨m,C⟩:∃m,m=L-9*i:=⟨_,rfl⟩
 rw[<-C]at x o w E;have O:=pD i N;have P:c9 i (dR i N)=dR i N:=cv (by rw[gU];exact e9 _);have K:i+1<=cU:=by simp only[cU];omega
 by_cases af:9<m
 ·have o:=o (by omega);have Q:bi.wrap ((m:Int)-9)=(m:Int)-9:=aN _ (by omega) (by omega);have R:((m:Int)-9).toNat=m-9:=by omega
  have M:(9:Int)<=m:=by omega
  have Z:9*(i+1)<=L:=by omega
  rw[<-C];generalize ag:c9 m d=t at*;have aa:c9 m t=t:=cv (by omega);have A:(9:Int)<m:=by omega
  have X:m-9=L-9*(i+1):=by omega
  simp[x,A,Q,R,M,aa];refine c1 o ?_;simp[P,gU,K,<-O,x,Q,R,M,E];exact rd (i+1) Z (he:=by simp[X])
 ·have w:=w (by omega);have hs:=G i hi (by omega);rw[<-C];generalize c9 m d=t at*;have A:¬(9:Int)<m:=by omega
  simp[x,A];refine c1 w ?_;simp[P,gU,K,<-O];have Y:¬dR (i+1) N=[]:=by intro h;have:=congrArg dg h;rw[gU]at this;simp at this
  refine cp hs (by simp[gU,Kb,Y];first|exact⟨rfl,rfl⟩|rfl) ?_ (h1:=by simp[iP,row,dz,cv]);simp[ad]
def jq(s:List Nat):Int:=if bP s=true then -(aV (bA s):Int)else aV (bA s)
def gX(s:List Nat):Nat:=if dP s=true then aV (bJ s)else 1
theorem JD(s:List Nat)(q:(bA s).all bX=true)(l:(bJ s).all bX=true)(J:s.length<=1000000):az prog 100 [.str s] (.aE [eG (jq s),eG (gX s:Nat)]):=by
 refine aM nf Eu mix (by simp[f100]) ?_;have e:=uM s (by omega);obtain⟨L,f,h,D⟩:=IF s;have I:=nZ 47 s;have C:=Lf 1 (by decide) (by decide);rcases om 47 s with⟨q1,b⟩|⟨q1,b,N⟩
 ·have a:=Bg (bS 47 s).1 (by rw[f];exact q) (by omega);rw[L,f]at a;have d:=Bg (bS 47 s).2.1 (by
   rw[h];rw[cx]at l⊢;intro x hx;exact l x ((nS _).2 x hx)) (by omega)
  have K:bP (bJ s)=false:=by
   rw[bP];cases g:bJ s with
   |nil=>simp
   |cons c r=>
    have:=xW (cx.1 l c (by rw[g];simp));simp;omega
  rw[h,cF,K]at d;have m:dP s=true:=by rw[<-D];exact q1
  have nv:jq s=if bP s=true then -(aV (bA s):Int)else aV (bA s):=rfl
  have j:gX s=aV (bJ s):=by rw[gX,if_pos m]
  rw[<-nv]at a;simp only[bb,if_false]at d;rw[<-j]at d;generalize M:jq s=z at*;generalize gX s=dn at*;obtain⟨i,o⟩:∃i,(bS 47 s).1=i:=⟨_,rfl⟩
  obtain⟨E,p⟩:∃E,(bS 47 s).2.1=E:=⟨_,rfl⟩
  rw[o,p]at b;rw[o]at e a;rw[p]at h;obtain⟨k,n⟩:∃k,i.length=k:=⟨_,rfl⟩
  rw[n]at e;have hk:k<s.length:=by rw[b];simp;omega
  have B:s.take k=i:=by rw[b,<-n];simp
  have g:s.drop (k+1)=bJ s:=by
   rw[<-h]
   conv=>lhs;rw[b,<-n]
   simp
  clear I b o p;have G:bi.wrap ((k:Int)+1)=(k:Int)+1:=aN _ (by omega) (by omega);have F:((k:Int)+1).toNat=k+1:=by omega
  have y:¬(k:Int)=s.length:=by omega
  have u:k+1<=s.length:=hk;have w:k<=s.length:=by omega
  have t:(0:Int)<=k+1:=by omega
  have v:(k:Int)+1<=s.length:=by omega
  simp only[eG]at a d⊢;simp[f100];refine c1 e ?_;simp[y,G,F,B,g,u,w,t,v];refine e1 a ?_;simp[y,G,F,B,g,u,w,t,v];refine e1 d ?_;simp[ad]
 ·have a:=Bg s (by
   have A:=f;rw[b]at A;rw[A];exact q) J
  have m:dP s=false:=by rw[<-D];exact q1
  have H:cF s=bA s:=by rw[b]at f;exact f
  have nv:jq s=if bP s=true then -(aV (bA s):Int)else aV (bA s):=rfl
  have j:gX s=1:=by rw[gX,m];rfl
  rw[H,<-nv]at a;rw[j];rw[b]at e;generalize jq s=z at*;simp only[eG]at a C⊢;simp[f100];refine c1 e ?_;simp;refine c1 a ?_;simp;refine c1 C ?_;simp[ad]
theorem Hl(n:Nat):(aW n).length<=9*(aq bT n).length+1:=by
 rcases Nat.eq_zero_or_pos n with h|h
 ·subst h;rw[lX];simp
 ·have b:0<(aq bT n).length:=by rw[da,Ne,uo];omega
  have a:=bY aX n;rw[show bT^(aq bT n).length=10^(9*(aq bT n).length)by rw[e7];rfl]at a;exact eb (ua a (by omega)) (by omega)
def mn(n d:Int):Rat:=gb n d
theorem G3(n g:Nat):(aq bT (n/g)).length<=(aq bT n).length:=
 dE aX _ _ (ed (ew n g) (bY aX n))
theorem SW(n d:Nat)(a:0<d):(aq bT (ey n d)).length<=(aq bT d).length:=
 dE aX _ _ (ed (eo n a) (bY aX d))
theorem Gn(n d:Int)(L:d≠0)(s:(aq bT n.natAbs).length<=400000)(j:(aq bT d.natAbs).length<=400000):az prog 179 [eG n,eG d] (.str (bf (mn n d))):=by
 refine aM nf EN mix (by simp[f179]) ?_;simp[f179,-bh,ad];rw[bh];simp[-bh,ad];refine join (fun st=>∃(e:Int)(d':Nat),0<d'/\(aq bT e.natAbs).length<=400000/\(aq bT d').length<=400000/\mn e d'=mn n d/\aK st.env 2=.ptr 0 []/\aK st.env 3=.ptr 1 []/\st.heap=[.box false (.p (eG e)),.box false (.p (eG (d':Nat)))]) ?_ ?_
 ·have P:=Li n s;have O:=Li d j
  by_cases h:d<0
  ·simp[h,ad];refine e1 P ?_;simp[ad];refine e1 O ?_;simp[ad];refine⟨by repeat' first|rfl|apply And.intro,?_⟩;refine⟨-n,d.natAbs,by omega,by rw[b2];exact s,j,?_,rfl,?_⟩
   ·rw[bl (by omega)];exact gc _ _
   ·rw[bl (by omega)]
  ·have A:((d.natAbs:Nat):Int)=d:=cb (by omega);simp[h,ad];exact⟨n,d.natAbs,by omega,s,j,by rw[A],rfl,by rw[A]⟩
 rintro⟨T,U⟩ ⟨e,d',k1,k2,k3,k4,l,m,D⟩;dsimp only at l m D;subst D;rw[<-k4,show mn e d'=gb e d' from rfl];clear k4 s j L;obtain⟨u,v⟩:=kN (n:=e) (show d'≠0 by omega);obtain⟨g,k⟩:∃g,ey e.natAbs d'=g:=⟨_,rfl⟩
 have r:0<g:=by rw[<-k];exact ee _ k1
 have B:(aq bT g).length<=400000:=by rw[<-k];exact eb (SW _ _ k1) k3
 rw[k]at u v;have y:=Jg e.natAbs d' k2 k3;rw[k]at y;have I:=CE e.natAbs g r k2 B;have J:=CE d' g r k3 B;have Y:(aq bT (e.natAbs/g)).length<=400000:=eb (G3 _ _) k2;have Z:(aq bT (d'/g)).length<=400000:=eb (G3 _ _) k3;have w:=pj (decide (e<0)) (e.natAbs/g) (by omega);have f:=pj false (d'/g) (by omega);have t:(if decide (e<0)=true then -((e.natAbs/g:Nat):Int)else((e.natAbs/g:Nat):Int))=(gb e d').num:=by
  rw[u];have M:(g:Int)∣e:=by rw[<-k];exact b3.2 (eq _ _)
  obtain⟨c,hc⟩:=M;have N:(g:Int)≠0:=by omega
  rw[hc,b1 _ N,bv,bk,Nat.mul_div_cancel_left _ r]
  by_cases K:c<0
  ·have:(g:Int)*c<0:=Int.mul_neg_of_pos_of_neg (by omega) K;simp[this];omega
  ·have:¬(g:Int)*c<0:=by
    have:=ce (a:=(g:Int)) (b:=c) (by omega) (by omega);omega
   simp[this];omega
 rw[t]at w;simp only[bb,if_false]at f;have z:=B3 (gb e d').num (by
  rw[<-t];split
  ·rw[b2,bk];omega
  ·rw[bk];omega)
 have i:=B3 ((d'/g:Nat):Int) (by rw[bk];omega);rw[ub]at i;have Q:0<d'/g:=by
  refine fb ?_ r;rw[<-k];exact eo _ k1
 have V:(bD (gb e d').num).length<=3600002:=by
  refine eb (BG _) ?_;have h:=Hl (gb e d').num.natAbs;have:(gb e d').num.natAbs=e.natAbs/g:=by
   rw[<-t];split
   ·rw[b2,bk]
   ·rw[bk]
  rw[this]at h⊢;omega
 have W:(aW (d'/g)).length<=3600001:=by
  have h:=Hl (d'/g);omega
 have F:bf (gb e d')=if d'/g=1 then bD (gb e d').num else bD (gb e d').num++47::aW (d'/g):=by rw[bf,v]
 rw[F];clear F t u v;generalize (gb e d').num=G at*;generalize aa:d'/g=q at*;simp only[eG,bk]at w f z i⊢;simp[l,m,ad];refine c2 y ?_;simp[l,m,ad];refine c2 I ?_;simp[l,m,ad];refine c2 J ?_;simp[l,m,ad];refine c2 w ?_;simp[l,m,ad];refine c1 z ?_;have R:∀h:q=1,aq bT q=[1]:=fun h=>by rw[h];exact mM (by decide) (by decide)
 by_cases o:q=1
 ·have x:=R o;simp[o,eT,mM (show 0<1 by decide) (show 1<bT by decide)]
 ·have C:(bD G).length+1<9223372036854775808:=by omega
  have X:(bD G).length+((aW q).length+1)<9223372036854775808:=by omega
  by_cases E:q<bT
  ·have x:=mM Q E;have S:¬(q:Int)=1:=by omega
   simp[o,eT,x,S];refine⟨C,?_⟩;simp only[eT,x,List.map_cons,List.map_nil]at f i;refine c2 f ?_;simp;refine c1 i ?_;simp;omega
  ·have j:¬((aq bT q).length:Int)=1:=by
    intro h;have H:(aq bT q).length=1:=by omega
    have:=bY aX q;rw[H,fv]at this;exact E this
   simp[o,eT,j];refine⟨C,?_⟩;simp only[eT]at f i;refine c2 f ?_;simp;refine c1 i ?_;simp;omega
theorem S1{n:Int}{g:Nat}(a:0<g)(h:g∣n.natAbs):n.tdiv g=n/g:=by
 obtain⟨c,hc⟩:=b3.2 h;subst hc;rw[Int.mul_tdiv_cancel_left _ (by omega),b1 _ (by omega)]
theorem MW(n d:Int)(O:d≠0)(U:n.natAbs<=4000000000000000000)(P:d.natAbs<=4000000000000000000):az prog 87 [.int .i64 n,.int .i64 d] (.str (bf (mn n d))):=by
 refine aM nf Oq mix (by simp[f87]) ?_;have f:¬n< -4000000000000000000:=by omega
 have i:¬4000000000000000000<n:=by omega
 have j:¬d< -4000000000000000000:=by omega
 have k:¬4000000000000000000<d:=by omega
 simp[f87,f,i,j,k,-bh];rw[bh];simp[f,i,j,k,-bh];rw[bh,bh];simp[f,i,j,k,-bh];refine join (fun st=>∃(b:Int)(d':Nat),0<d'/\b.natAbs<=4000000000000000000/\d'<=4000000000000000000/\mn b d'=mn n d/\aK st.env 0=.p (.int .i64 b)/\aK st.env 1=.p (.int .i64 (d':Nat))/\st.heap=[]) ?_ ?_
 ·have H:bi.wrap (-n)= -n:=aN _ (by omega) (by omega);have o:bi.wrap (-d)= -d:=aN _ (by omega) (by omega)
  by_cases h:d<0
  ·simp[h,H,o,f,i,j,k];refine⟨-n,d.natAbs,by omega,by omega,by omega,?_,rfl,?_⟩
   ·rw[bl (by omega)];exact gc _ _
   ·rw[bl (by omega)]
  ·have J:((d.natAbs:Nat):Int)=d:=cb (by omega);simp[h,f,i,j,k];exact⟨n,d.natAbs,by omega,by omega,by omega,by rw[J],rfl,by rw[J]⟩
 rintro⟨W,X⟩ ⟨b,d',k1,k2,k3,k4,r,s,K⟩;dsimp only at r s K;subst K;rw[<-k4,show mn b d'=gb b d' from rfl];clear k4 U P O f i j k;obtain⟨x,D⟩:=kN (n:=b) (show d'≠0 by omega);obtain⟨g,l⟩:∃g,ey b.natAbs d'=g:=⟨_,rfl⟩
 have F:0<g:=by rw[<-l];exact ee _ k1
 rw[l]at x D;have I:=WE b.natAbs d' (by omega) (by omega);rw[l]at I;have T:(if b< -b then -b else b)=(b.natAbs:Nat):=by split<;>omega
 have H:bi.wrap (-b)= -b:=aN _ (by omega) (by omega);have z:b.tdiv g=(gb b d').num:=by rw[x,S1 F (by rw[<-l];exact eq _ _)]
 have A:(d':Int).tdiv g=(d'/g:Nat):=by rw[b0 (bo _),b4]
 have V:(gb b d').num.natAbs<=4000000000000000000:=by
  have R:(g:Int)∣b:=by rw[<-l];exact b3.2 (eq _ _)
  obtain⟨c,hc⟩:=R;have S:(g:Int)≠0:=by omega
  rw[x,hc,b1 _ S];rw[hc,bv,bk]at k2;exact eb (Nat.le_mul_of_pos_left _ F) k2
 have Q:d'/g<=4000000000000000000:=eb (ew _ _) k3;have ac:0<d'/g:=by
  refine fb ?_ F;rw[<-l];exact eo _ k1
 have M:bf (gb b d')=if d'/g=1 then bD (gb b d').num else bD (gb b d').num++47::aW (d'/g):=by rw[bf,D]
 rw[M];clear M x D;generalize (gb b d').num=a at*;generalize ad:d'/g=q at*;have y:¬g=0:=by omega
 have u:=xa a.natAbs 1 (by omega) (by decide);have E:=xa q 1 (by omega) (by decide);have Y:(aW a.natAbs).length<=19:=ua (ed V (by decide)) (by decide);have Z:(aW q).length<=19:=ua (ed Q (by decide)) (by decide);rw[show low (max 1 (nd a.natAbs)) a.natAbs=aW a.natAbs from rfl]at u;rw[show low (max 1 (nd q)) q=aW q from rfl]at E;have ab:(if a< -a then -a else a)=(a.natAbs:Nat):=by split<;>omega
 have o:bi.wrap (-a)= -a:=aN _ (by omega) (by omega);have B:bi.wrap a=a:=aN _ (by omega) (by omega);have C:bi.wrap (q:Int)=q:=aN _ (by omega) (by omega);simp[r,s,H,T];refine c2 I ?_;have L:(1:Int)<q↔¬q=1:=by omega
 have N:bi.wrap 1=1:=rfl;have aa:(aW a.natAbs).length<9223372036854775808:=by omega
 by_cases m:a<0
 ·have G:bD a=45::aW a.natAbs:=by rw[bD,if_pos m]
  rw[G];have w:a< -a:=by omega
  have v:-a=(a.natAbs:Nat):=by omega
  by_cases e:q=1
  ·simp[r,s,y,z,A,B,C,m,o,w,e];rw[v];refine c2 u ?_;simp[e,N];omega
  ·have t:=L.2 e;simp[r,s,y,z,A,B,C,m,o,w,e,t];rw[v];refine c2 u ?_;simp[e,t];refine⟨by omega,by omega,?_⟩;refine c2 E ?_;simp;omega
 ·have G:bD a=aW a.natAbs:=by rw[bD,if_neg m]
  rw[G];have v:a=(a.natAbs:Nat):=by omega
  have w:¬a< -a:=by omega
  by_cases e:q=1
  ·simp[r,s,y,z,A,B,C,m,o,w,e];rw[show PV.int .i64 a=.int .i64 (a.natAbs:Nat)by rw[<-v]];refine c2 u ?_;simp[e,N];omega
  ·have t:=L.2 e;simp[r,s,y,z,A,B,C,m,o,w,e,t];rw[show PV.int .i64 a=.int .i64 (a.natAbs:Nat)by rw[<-v]];refine c2 u ?_;simp[e,t];refine⟨by omega,by omega,?_⟩;refine c2 E ?_;simp;omega
theorem Cb(n:Int)(a:-9223372036854775808<=n)(b:n<=9223372036854775807):az prog 124 [.int .i64 n] (.str (bf (n:Rat))):=by
 have e:=Lf n a b;have d:=B3 n (by
  have c:n.natAbs<bT^3:=by
   have:bT^3=1000000000000000000000000000:=by decide
   omega
  have:=dE aX 3 _ c;omega)
 have hq:bf (n:Rat)=bD n:=by rw[bf,if_pos (gg n),ge]
 rw[hq];refine aM nf FI mix (by simp[f124]) ?_;simp[f124];refine c1 e ?_;simp;refine c1 d ?_;simp
theorem WN(s:List Nat)(C:(bA s).all bX=true)(J:(bJ s).all bX=true)(ak:s.length<=1000000):
 ∃(n d:Int)(b:Bool),az prog 212 [.str s] (.aE [.int .i64 n,.int .i64 d,.bool b])/\(b=true->n=jq s/\d=(gX s:Nat)/\n.natAbs<1000000000/\gX s<1000000000):=by
 by_cases K:20<s.length
 ·refine⟨0,0,false,?_,fun h=>by cases h⟩;refine aM nf zJ mix (by simp[f212]) ?_;have m:(20:Int)<s.length:=by omega
  simp[f212,m]
 obtain⟨d,l⟩:∃d,cF s=d:=⟨_,rfl⟩
 obtain⟨neg,g⟩:∃neg,bP s=neg:=⟨_,rfl⟩
 have ai:d.length<=s.length:=by rw[<-l];exact(nS s).1
 have i:=uM d (by omega);have A:(bS 47 d).1=bA s:=by rw[<-l];rfl
 have N:(bS 47 d).2.1=bJ s:=by rw[<-l];rfl
 have P:(bS 47 d).2.2=dP s:=by rw[<-l];rfl
 have q:=om 47 d;rw[A,N,P]at q;rw[A]at i;obtain⟨k,hk⟩:∃k,(bA s).length=k:=⟨_,rfl⟩
 rw[hk]at i;have Q:k<=d.length:=by rw[<-hk,<-A];exact(nZ 47 d).1
 have m:¬(20:Int)<s.length:=by omega
 obtain⟨b,o⟩:∃b:Bool,b=(decide (k<=9)&&decide (d.length-k<=10)):=⟨_,rfl⟩
 have M:b=true->(jq s).natAbs<1000000000/\gX s<1000000000:=fun h=>by
  rw[o]at h;simp only[be,decide_eq_true_eq]at h;have v:=iR _ (bA s) rfl C;rw[hk]at v;have ad:aV (bA s)<1000000000:=ea v (ec (n:=10) (by decide) h.1);refine⟨by rw[jq];split<;>omega,?_⟩;rcases q with⟨q1,f⟩|⟨q1,f,af⟩
  ·have W:(bJ s).length<=9:=by
    have:=congrArg dg f;simp at this;omega
   have X:=iR _ (bJ s) rfl J;rw[gX,if_pos q1];exact ea X (ec (n:=10) (by decide) W)
  ·rw[gX,q1,if_neg (by decide)];decide
 refine⟨if b=true then jq s else 0,if b=true then(gX s:Nat)else 0,b,?_,fun h=>⟨if_pos h,if_pos h,by rw[if_pos h];exact(M h).1,(M h).2⟩⟩;refine aM nf zJ mix (by simp[f212]) ?_;simp[f212,-bh];rw[bh];simp[-bh];rw[bh];simp[-bh];rw[bh,bh];simp[m,-bh];refine join (fun st=>aK st.env 5=.p (.str s)/\aK st.env 6=.p (.bool neg)/\st.heap=[]) ?_ ?_
 ·clear K m;cases s with
  |nil=>simp[<-g,bP]
  |cons c r=>
   by_cases hc:c=45
   ·simp[<-g,bP,hc]
   ·have aa:¬(c:Int)=45:=by omega
    simp[<-g,bP,hc,aa]
 rintro⟨U,ab⟩ ⟨e,a,u⟩;dsimp only at e a u;subst u;refine join (fun st=>aK st.env 5=.p (.str d)/\aK st.env 6=.p (.bool neg)/\st.heap=[]) ?_ ?_
 ·cases t:neg with
  |false=>
   have F:s=d:=by rw[<-l,cF,g,t];rfl
   simp[e,a,t,F]
  |true=>
   clear i q hk N A P K m o;cases s with
   |nil=>simp[bP]at g;rw[t]at g;cases g
   |cons c r=>
    have F:r=d:=by rw[<-l,cF,g,t];rfl
    simp[e,a,t,F]
 clear e a;rintro⟨U,ab⟩ ⟨e,a,u⟩;dsimp only at e a u;subst u;have ah:bi.wrap ((k:Int)+1)=(k:Int)+1:=aN _ (by omega) (by omega);have G:bi.wrap ((d.length:Int)-k)=(d.length:Int)-k:=aN _ (by omega) (by omega);have ag:((k:Int)+1).toNat=k+1:=by omega
 have ae:jq s=if neg=true then -(aV (bA s):Int)else aV (bA s):=by rw[jq,g]
 rw[ae];rcases em 9 k with D|D
 ·have Y:¬k<=9:=by omega
  have j:(9:Int)<k:=by omega
  have E:b=false:=by rw[o];simp[Y]
  simp[e,a];refine c1 i ?_;simp[e,a,j,E]
 rcases em 10 (d.length-k)with I|I
 ·have V:¬d.length-k<=10:=by omega
  have j:¬(9:Int)<k:=by omega
  have x:(10:Int)<(d.length:Int)-k:=by omega
  have E:b=false:=by rw[o];simp[V]
  simp[e,a];refine c1 i ?_;simp[e,a,j,x,G,E]
 have j:¬(9:Int)<k:=by omega
 have x:¬(10:Int)<(d.length:Int)-k:=by omega
 have y:b=true:=by rw[o];simp[D,I]
 have R:d.take k=bA s:=by
  rcases q with⟨_,f⟩|⟨_,f,_⟩
  ·rw[f,<-hk];simp
  ·rw[<-f,<-hk];simp
 have L:=xO (bA s) C (by omega);have v:=iR _ (bA s) rfl C;rw[hk]at v;have ad:aV (bA s)<1000000000:=ea v (ec (n:=10) (by decide) D);rcases q with⟨q1,f⟩|⟨q1,f,af⟩
 ·have z:k<d.length:=by rw[f];simp;omega
  have O:d.drop (k+1)=bJ s:=by
   conv=>lhs;rw[f,<-hk]
   simp
  have aj:(bJ s).length<=9:=by rw[<-O,db];omega
  have Z:=xO (bJ s) J (by omega);have B:gX s=aV (bJ s):=by rw[gX,if_pos q1]
  rw[B];generalize aV (bJ s)=al at*;generalize aV (bA s)=w at*;have H:bi.wrap (-(w:Int))= -(w:Int):=aN _ (by omega) (by omega);clear f;simp[e,a];refine c1 i ?_;have S:(0:Int)<=k+1:=by omega
  have ac:k+1<=d.length:=z;have T:(k:Int)+1<=d.length:=by omega
  simp[e,a,j,x,G,y,Q,R];refine c1 L ?_;cases neg<;>
  ·simp[e,a,z,ac,ah,ag,O,S,T];refine c1 Z ?_;simp[a,H,y]
 ·have z:¬k<d.length:=by rw[<-f,hk];omega
  have B:gX s=1:=by rw[gX,q1];rfl
  rw[B];generalize aV (bA s)=w at*;have H:bi.wrap (-(w:Int))= -(w:Int):=aN _ (by omega) (by omega);simp[e,a];refine c1 i ?_;simp[e,a,j,x,G,y,Q,R];refine c1 L ?_;cases neg<;>simp[e,a,z,H,y]
theorem AB{n k:Nat}(h:n<2^k):(aq bT n).length<=k/29+1:=by
 refine dE aX _ _ (ea h ?_);have a:2^29<=bT:=by decide
 refine eb ?_ (Nat.pow_le_pow_left a _);rw[<-e7];exact ec (by decide) (by omega)
theorem Ky(q:Rat):jq (bf q)=q.num:=by
 obtain⟨a,b,_,_⟩:=sd q;rw[jq,a,b,oG]
 by_cases h:q.num<0
 ·rw[if_pos (by simpa using h)];omega
 ·rw[if_neg (by simpa using h)];omega
theorem EZ(q:Rat):gX (bf q)=q.den:=by
 obtain⟨_,_,a,b⟩:=sd q;rw[gX,a,b]
 by_cases h:q.den=1
 ·rw[if_neg (by simpa using h),h]
 ·rw[if_pos (by simpa using h),if_neg h,oG]
theorem zk(q:Rat):(bA (bf q)).all bX=true/\(bJ (bf q)).all bX=true:=by
 obtain⟨_,a,_,b⟩:=sd q;refine⟨by rw[a];exact nt _,?_⟩;rw[b];split
 ·rfl
 ·exact nt _
theorem pG{q:Rat}(h:bE kB q):(bf q).length<=1000000:=by
 have a:(aW q.num.natAbs).length<=33334:=qK (K:=kB) (k:=33334) h.1 (by decide) (by decide);have b:(aW q.den).length<=33334:=qK (K:=kB) (k:=33334) h.2 (by decide) (by decide);have:=DJ q;omega
theorem xD(q:Rat)(h:bE kB q):∃(n d:Int)(b:Bool),az prog 212 [.str (bf q)] (.aE [.int .i64 n,.int .i64 d,.bool b])/\(b=true->n=q.num/\d=(q.den:Nat)/\n.natAbs<1000000000/\q.den<1000000000):=by
 have:=WN (bf q) (zk q).1 (zk q).2 (pG h)
 rwa [Ky,EZ]at this
theorem w8(q:Rat)(h:bE kB q):az prog 100 [.str (bf q)] (.aE [eG q.num,eG (q.den:Nat)]):=by
 have:=JD (bf q) (zk q).1 (zk q).2 (pG h)
 rwa [Ky,EZ]at this
theorem XH(a b:Rat):mn (a.num*b.den+b.num*a.den) (a.den*b.den)=a+b:=by
 rw[Rat.add_def'];rfl
theorem XI(a b:Rat):mn (a.num*b.num) (a.den*b.den)=a*b:=by
 rw[Rat.mul_def,Rat.normalize_eq_mkRat];rfl
theorem Mq(a b:Rat):((a.den:Nat):Int)*(b.den:Nat)≠0:=by
 have c:=a.den_pos;have d:=b.den_pos;exact Int.ne_of_gt (Int.mul_pos (by omega) (by omega))
theorem vi{x y:Int}(hx:x.natAbs<1000000000)(a:y.natAbs<1000000000):(x*y).natAbs<=999999998000000001:=by
 rw[bv];exact Nat.mul_le_mul (show x.natAbs<=999999999 by omega) (show y.natAbs<=999999999 by omega)
theorem uj{x y:Int}(hx:x.natAbs<2^kB)(a:y.natAbs<2^kB):(aq bT (x*y).natAbs).length<=10000:=by
 have h:=AB (n:=(x*y).natAbs) (k:=kB+kB) (by rw[bv,e8];exact en hx a);exact eb h (by decide)
theorem lW{x:Nat}(hx:x<2^kB):(aq bT x).length<=10000:=eb (AB hx) (by decide)
theorem MO(a b:Rat)(h:bE kB a)(i:bE kB b):az prog 134 [.str (bf a),.str (bf b)] (.str (bf (a+b))):=by
 obtain⟨n,d,p,A,E⟩:=xD a h;obtain⟨m,e,r,B,F⟩:=xD b i;have t:=w8 a h;have u:=w8 b i;refine aM nf FG mix (by simp[f134]) ?_;rw[<-XH];have z:=Mq a b
 by_cases j:p=true/\r=true
 ·obtain⟨rfl,rfl,k1,k2⟩:=E j.1;obtain⟨rfl,rfl,k3,k4⟩:=F j.2;have O:=vi k1 (show((b.den:Nat):Int).natAbs<1000000000 by rw[bk];exact k4);have P:=vi k3 (show((a.den:Nat):Int).natAbs<1000000000 by rw[bk];exact k2);have Q:=vi (show((a.den:Nat):Int).natAbs<1000000000 by rw[bk];exact k2) (show((b.den:Nat):Int).natAbs<1000000000 by rw[bk];exact k4);have C:=MW (a.num*b.den+b.num*a.den) (a.den*b.den) z (by omega) (by omega);have H:bi.wrap (a.num*(b.den:Nat))=a.num*(b.den:Nat):=aN _ (by omega) (by omega);have I:bi.wrap (b.num*(a.den:Nat))=b.num*(a.den:Nat):=aN _ (by omega) (by omega);have J:bi.wrap (a.num*(b.den:Nat)+b.num*(a.den:Nat))=a.num*(b.den:Nat)+b.num*(a.den:Nat):=aN _ (by omega) (by omega);have K:bi.wrap (((a.den:Nat):Int)*(b.den:Nat))=((a.den:Nat):Int)*(b.den:Nat):=aN _ (by omega) (by omega);have g:p=true:=j.1;have q:r=true:=j.2;simp[f134];refine c1 A ?_;simp;refine c1 B ?_;simp[g,q,H,I,J,K];refine c2 C ?_;simp
 ·have l:a.num.natAbs<2^kB:=h.1;have o:b.num.natAbs<2^kB:=i.1;have c:((a.den:Nat):Int).natAbs<2^kB:=by rw[bk];exact h.2
  have f:((b.den:Nat):Int).natAbs<2^kB:=by rw[bk];exact i.2
  have w:=uL a.num (b.den:Nat) (by have:=lW l;have:=lW f;omega);have x:=uL b.num (a.den:Nat) (by have:=lW o;have:=lW c;omega);have y:=uL (a.den:Nat) (b.den:Nat) (by have:=lW c;have:=lW f;omega);have L:=uj l f;have M:=uj o c;have N:=uj c f;have v:=WM (a.num*(b.den:Nat)) (b.num*(a.den:Nat)) (by omega) (by omega);have G:(aq bT (a.num*(b.den:Nat)+b.num*(a.den:Nat)).natAbs).length<=400000:=by
   refine eb (AB (k:=kB+kB+1) ?_) (by decide);have q1:(a.num*(b.den:Nat)).natAbs<2^(kB+kB):=by rw[bv,e8];exact en l f
   have R:(b.num*(a.den:Nat)).natAbs<2^(kB+kB):=by rw[bv,e8];exact en o c
   rw[ej];omega
  have s:=Gn (a.num*(b.den:Nat)+b.num*(a.den:Nat)) ((a.den:Nat)*(b.den:Nat)) z G (by omega);simp[f134];refine c1 A ?_;simp;refine c1 B ?_;have D:(p=false)\/(p=true/\r=false):=by cases p<;>cases r<;>simp_all
  rcases D with g|⟨g,q⟩
  ·simp[g];refine c1 t ?_;simp[ad];refine c1 u ?_;simp[ad];refine e2 w ?_;simp[ad];refine e2 x ?_;simp[ad];refine e2 v ?_;simp[ad];refine e2 y ?_;simp[ad];refine e2 s ?_;simp
  ·simp[g,q];refine c1 t ?_;simp[ad];refine c1 u ?_;simp[ad];refine e2 w ?_;simp[ad];refine e2 x ?_;simp[ad];refine e2 v ?_;simp[ad];refine e2 y ?_;simp[ad];refine e2 s ?_;simp
theorem ya(a b:Rat)(f:bE kB a)(g:bE kB b):az prog 135 [.str (bf a),.str (bf b)] (.str (bf (a*b))):=by
 obtain⟨n,d,p,x,B⟩:=xD a f;obtain⟨m,e,r,y,C⟩:=xD b g;have s:=w8 a f;have t:=w8 b g;refine aM nf E7 mix (by simp[f135]) ?_;rw[<-XI];have w:=Mq a b
 by_cases h:p=true/\r=true
 ·obtain⟨rfl,rfl,k1,k2⟩:=B h.1;obtain⟨rfl,rfl,k3,k4⟩:=C h.2;have H:=vi k1 k3;have I:=vi (show((a.den:Nat):Int).natAbs<1000000000 by rw[bk];exact k2) (show((b.den:Nat):Int).natAbs<1000000000 by rw[bk];exact k4);have z:=MW (a.num*b.num) (a.den*b.den) w (by omega) (by omega);have D:bi.wrap (a.num*b.num)=a.num*b.num:=aN _ (by omega) (by omega);have E:bi.wrap (((a.den:Nat):Int)*(b.den:Nat))=((a.den:Nat):Int)*(b.den:Nat):=aN _ (by omega) (by omega);have c:p=true:=h.1;have i:r=true:=h.2;simp[f135];refine c1 x ?_;simp;refine c1 y ?_;simp[c,i,D,E];refine c2 z ?_;simp
 ·have j:a.num.natAbs<2^kB:=f.1;have l:b.num.natAbs<2^kB:=g.1;have k:((a.den:Nat):Int).natAbs<2^kB:=by rw[bk];exact f.2
  have o:((b.den:Nat):Int).natAbs<2^kB:=by rw[bk];exact g.2
  have u:=uL a.num b.num (by have:=lW j;have:=lW l;omega);have v:=uL (a.den:Nat) (b.den:Nat) (by have:=lW k;have:=lW o;omega);have F:=uj j l;have G:=uj k o;have q:=Gn (a.num*b.num) ((a.den:Nat)*(b.den:Nat)) w (by omega) (by omega);simp[f135];refine c1 x ?_;simp;refine c1 y ?_;have A:(p=false)\/(p=true/\r=false):=by cases p<;>cases r<;>simp_all
  rcases A with c|⟨c,i⟩
  ·simp[c];refine c1 s ?_;simp[ad];refine c1 t ?_;simp[ad];refine e2 u ?_;simp[ad];refine e2 v ?_;simp[ad];refine e2 q ?_;simp
  ·simp[c,i];refine c1 s ?_;simp[ad];refine c1 t ?_;simp[ad];refine e2 u ?_;simp[ad];refine e2 v ?_;simp[ad];refine e2 q ?_;simp
theorem azQ{a:Rat}(h:a≠0):a.num≠0:=fun e=>h (Rat.num_eq_zero.1 e)
theorem Lm(s:List Nat)(g:s.length<=1048576):az prog 22 [.str s] (.int .i64 (if s=[48]then 0 else if bP s=true then -1 else 1)):=by
 refine aM nf NL mix (by simp[f22]) ?_
 by_cases b:s=[48]
 ·simp[f22,b]
 ·cases s with
  |nil=>simp[f22,bP]
  |cons c r=>
   by_cases hc:c=45
   ·simp[f22,bP,hc]
   ·have e:¬(c:Int)=45:=by omega
    have d:¬(c=48/\r=[]):=fun h=>b (by rw[h.1,h.2])
    by_cases a:c=48
    ·have f:¬r=[]:=fun h=>d ⟨a,h⟩;simp[f22,bP,a,f]
    ·simp[f22,bP,hc,e,a]
theorem xk(q:Rat):q.num<0↔q<0:=by
 have h:=Cm q
 by_cases b:q<0
 ·rw[if_pos b]at h;refine⟨fun _=>b,fun _=>?_⟩
  by_cases a:q.num<0
  ·exact a
  ·rw[if_neg a]at h;split at h<;>omega
 ·refine⟨fun a=>?_,fun a=>(b a).elim⟩;rw[if_neg b,if_pos a]at h
  split at h<;>omega
def dx(q:Rat):Int:=if q<0 then -1 else if q=0 then 0 else 1
theorem aDL:bf 0=[48]:=by
 have h:bD 0=[48]:=by rw[show(0:Int)=((0:Nat):Int)from rfl,ub,lX]
 rw[bf,if_pos (show(0:Rat).den=1 from rfl)];exact h
theorem GH(q:Rat):bf q=[48]↔q=0:=by
 rw[<-aDL];exact⟨fun h=>aDy h,fun h=>by rw[h]⟩
theorem aCv(q:Rat):(if bf q=[48]then(0:Int)else if bP (bf q)=true then -1 else 1)=dx q:=by
 have e:=(sd q).1;have c:=GH q;have d:q<0↔q.num<0:=(xk q).symm;rw[e,dx]
 by_cases b:q=0
 ·subst b;rw[if_pos (c.2 rfl),if_neg (by decide),if_pos rfl]
 ·rw[if_neg (fun h=>b (c.1 h))]
  by_cases a:q<0
  ·rw[if_pos (by simpa using d.1 a),if_pos a]
  ·rw[if_neg (by simpa using fun h=>a (d.2 h)),if_neg a,if_neg b]
theorem sH(q:Rat)(h:bE kB q):az prog 22 [.str (bf q)] (.int .i64 (dx q)):=by
 have:=Lm (bf q) (by have:=pG h;omega)
 rwa [aCv]at this
theorem Lo{q:Rat}(h:q<0):bf q=45::bf (-q):=by
 have a:q.num<0:=(xk q).2 h;have e1:bD q.num=45::aW q.num.natAbs:=by rw[bD,if_pos a]
 have e2:bD (-q).num=aW q.num.natAbs:=by rw[gi,bD,if_neg (by omega),b2]
 rw[bf,bf,Rat.neg_den,e1,e2]
 split<;>rfl
theorem Wt(q:Rat)(h:bE kB q):az prog 189 [.str (bf q)] (.str (bf (-q))):=by
 have a:=sH q h;have f:=pG h;refine aM nf EC mix (by simp[f189]) ?_
 by_cases b:q<0
 ·have hs:dx q= -1:=by rw[dx,if_pos b]
  rw[hs]at a;have c:=Lo b;rw[c]at a f⊢;simp[f189];refine c1 a ?_;simp
 ·by_cases d:q=0
  ·have hs:dx q=0:=by rw[dx,if_neg b,if_pos d]
   rw[hs]at a;have hq:-q=q:=by rw[d];rfl
   rw[hq];simp[f189];refine c1 a ?_;simp;refine c1 a ?_;simp
  ·have hs:dx q=1:=by rw[dx,if_neg b,if_neg d]
   rw[hs]at a;have e:-q<0:=by
    rw[<-xk,gi];have g:¬q.num<0:=fun h=>b ((xk q).1 h);have i:=azQ d;omega
   have c:=Lo e;rw[Rat.neg_neg]at c;rw[c];have j:(bf q).length+1<9223372036854775808:=by omega
   simp[f189];refine c1 a ?_;simp;refine c1 a ?_;simp;omega
theorem x9(a b:Rat)(f:bE kB a)(d:bE kB b):az prog 102 [.str (bf a),.str (bf b)] (.str (bf (a-b))):=by
 have e:=Wt b d;have c:=MO a (-b) f (AH d);rw[<-Rat.sub_eq_add_neg]at c;refine aM nf Es mix (by simp[f102]) ?_;simp[f102];refine c1 e ?_;simp;refine c2 c ?_;simp
theorem aCu(a b:Rat):dx (a-b)=du a b:=by
 have d:a-b<0↔a<b:=by
  rw[<-gj,<-gj,<-Rat.le_iff_sub_nonneg]
 have e:a-b=0↔a=b:=by
  constructor
  ·intro h;have f:a-b+b=0+b:=by rw[h]
   rwa [Rat.sub_add_cancel,Rat.zero_add]at f
  ·rintro rfl;exact Rat.sub_self
 rw[dx,du]
 by_cases h:a<b
 ·rw[if_pos (d.2 h),if_pos h]
 ·rw[if_neg (fun x=>h (d.1 x)),if_neg h]
  by_cases c:a=b
  ·rw[if_pos (e.2 c),if_pos c]
  ·rw[if_neg (fun x=>c (e.1 x)),if_neg c]
theorem o6(a b:Rat)(d:bE (kB/3) a)(e:bE (kB/3) b):az prog 23 [.str (bf a),.str (bf b)] (.int .i64 (du a b)):=by
 have f:=x9 a b (d.mono (by decide)) (e.mono (by decide));have c:=sH (a-b) ((wN d e).mono (by decide));rw[aCu]at c;refine aM nf NO mix (by simp[f23]) ?_;simp[f23];refine c2 f ?_;simp;refine c1 c ?_;simp
theorem MQ{a b:Nat}(h:a<=b):10^a<=10^b:=ec (by decide) h
theorem yR{s:List Nat}{k:Nat}(h:s.length<=k)(a:s.all bX=true):aV s<10^k:=ea (iR _ s rfl a) (MQ h)
theorem aAg{x a b:Nat}(hx:x<10^a)(h:a<=9*b):(aq bT x).length<=b:=dE aX b x (ea hx (by
 rw[show bT^b=10^(9*b)by rw[e7];rfl];exact MQ h))
theorem VN(s:List Nat)(D:s.length<=1048576):az prog 186 [.str s] (.bool (s.all bX)):=by
 refine aM nf EG mix (by simp[f186]) ?_;obtain⟨k,hk,n,o⟩:=AZ (fun j=>bX (s[j]?.getD 0)) s.length;have e:∀j(h:j<s.length),s[j]?.getD 0=s[j]:=fun j h=>by rw[ck h];rfl
 have B:s.all bX=decide (k=s.length):=by
  rcases o with h|⟨a,b⟩
  ·rw[h,decide_eq_true rfl,cx];intro x hx;obtain⟨j,A,rfl⟩:=List.getElem_of_mem hx;have:=n j (by omega)
   rwa [e j A]at this
  ·rw[decide_eq_false (by omega)];rw[e k a]at b
   by_cases m:s.all bX=true
   ·have:=cx.1 m _ (c6 a);rw[this]at b;cases b
   ·simpa using m
 rw[B];simp[f186];refine lp (α:=Nat) (fun i=>⟨[(3,.p (.int .i64 i)),(0,.p (.str s))],[]⟩)
  (fun i=>i<=k) (fun i=>k-i) 0 (ei _) ?_
 intro i hi;have C:bi.wrap ((i:Int)+1)=(i:Int)+1:=aN _ (by omega) (by omega)
 by_cases y:i<k
 ·have l:i<s.length:=by omega
  have q:=n i y;rw[e i l]at q;have E:=xW q;generalize d:s[i]=c at*;have f:s[i]?=some c:=by rw[ck l,d]
  have a:¬(c:Int)<48:=by omega
  have b:¬(57:Int)<c:=by omega
  have t:¬c<48:=by omega
  have u:¬57<c:=by omega
  simp[l,d,f,a,b,t,u,C];exact rd (i+1) (show i+1<=k by omega)
 ·have z:i=k:=by omega
  subst z;rcases o with h|⟨a,b⟩
  ·simp[h]
  ·rw[e i a]at b;have r:¬i=s.length:=by omega
   generalize d:s[i]=c at*;have f:s[i]?=some c:=by rw[ck a,d]
   by_cases hc:c<48
   ·have g:(c:Int)<48:=by omega
    simp[a,d,f,hc,g,r]
   ·have v:57<c:=by
     simp only[bX,Bool.and_eq_false_iff,decide_eq_false_iff_not]at b;omega
    have g:¬(c:Int)<48:=by omega
    have w:(57:Int)<c:=by omega
    simp[a,d,f,hc,g,v,w,r]
theorem Ir(s:List Nat)(j:s.length<=1048576):az prog 99 [.str s] (.bool (dm s)):=by
 have b:=VN s j;refine aM nf OB mix (by simp[f99]) ?_;cases s with
 |nil=>simp[f99,dm]
 |cons c r=>
  have k:(c:Int)=48↔c=48:=by omega
  by_cases a:r=[]
  ·subst a;have e:dm [c]=[c].all bX:=by
    rw[dm]
    by_cases h:c=48
    ·subst h;rfl
    ·simp[h]
   rw[e];simp[f99];refine c1 b ?_;simp
  ·have d:0<r.length:=da.2 a;have f:¬(r.length:Int)+1=0:=by omega
   have g:(1:Int)<r.length+1:=by omega
   by_cases hc:c=48
   ·have e:dm (c::r)=false:=by rw[dm,hc];simp[a]
    rw[e];simp[f99,a,hc,d,f,g]
   ·have i:¬(c:Int)=48:=by omega
    have e:dm (c::r)=(c::r).all bX:=by rw[dm];simp[hc]
    rw[e];simp[f99,a,hc,i,d,f,g];refine c1 b ?_;simp
theorem vf(s:List Nat)(hs:fB s):az prog 21 [.str s] (.int .i64 (bI s)):=by
 refine aM nf NK mix (by simp[f21]) ?_;obtain⟨a0,aO⟩:=hs;obtain⟨d,S⟩:∃d,cF s=d:=⟨_,rfl⟩
 obtain⟨neg,A⟩:∃neg,bP s=neg:=⟨_,rfl⟩
 have aS:d.length<=s.length:=by rw[<-S];exact(nS s).1
 have T:=uM d (by omega);have Y:(bS 47 d).1=bA s:=by rw[<-S];rfl
 have W:(bS 47 d).2.1=bJ s:=by rw[<-S];rfl
 have ah:(bS 47 d).2.2=dP s:=by rw[<-S];rfl
 have z:=om 47 d;have F:=nZ 47 d;rw[Y,W,ah]at z;rw[Y]at T F;rw[W]at F;obtain⟨k,hk⟩:∃k,(bA s).length=k:=⟨_,rfl⟩
 rw[hk]at T;have J:k<=d.length:=by rw[<-hk];exact F.1
 have aw:d.take k=bA s:=by
  rcases z with⟨_,G⟩|⟨_,G,_⟩
  ·rw[G,<-hk];simp
  ·rw[<-G,<-hk];simp
 have M:=Ir (bA s) (by omega);have l:=Ir (bJ s) (by omega);simp[f21,-bh];rw[bh];simp[-bh];rw[bh];simp[-bh];refine join (fun st=>aK st.env 0=.p (.str s)/\aK st.env 3=.p (.str d)/\st.heap=[]) ?_ ?_
 ·cases aj:neg with
  |false=>
   have av:s=d:=by rw[<-S,cF,A,aj];rfl
   clear T z hk W Y ah aw M l F J;subst av;cases s with
   |nil=>simp
   |cons c r=>
    rw[aj]at A;have hc:¬c=45:=fun h=>by rw[h]at A;simp[bP]at A
    have an:¬(c:Int)=45:=by omega
    simp[hc,an]
  |true=>
   clear T z hk W Y ah aw M l F J;cases s with
   |nil=>simp[bP]at A;rw[aj]at A;cases A
   |cons c r=>
    have av:r=d:=by rw[<-S,cF,A,aj];rfl
    rw[aj]at A;have hc:c=45:=by simpa[bP]using A
    simp[hc,av]
 rintro⟨aH,aW⟩ ⟨w,e,ak⟩;dsimp only at w e ak;subst ak;have ag:jm s=(dm (bA s)&&!(neg&&decide (bA s=[48]))&&(!dP s||(dm (bJ s)&&decide (bJ s≠[48])&&decide (bJ s≠[49])))):=by rw[jm,A]
 have a8:d.length<=1048576:=by omega
 have V:(bA s).all bX=true->(bJ s).all bX=true->dP s=true->0<k->d.length<=1000000->az prog 100 [.str d] (.aE [eG (aV (bA s):Nat),eG (aV (bJ s):Nat)]):=fun y O ax aD a1=>by
  have al:bP d=false/\cF d=d:=by
   have aG:bP d=false:=by
    rcases z with⟨_,G⟩|⟨q1,_⟩
    ·cases X:bA s with
     |nil=>rw[X]at hk;simp at hk;omega
     |cons c r=>
      rw[X]at G y;have:=xW (cx.1 y c (by simp));rw[G,bP];simp;omega
    ·rw[ax]at q1;cases q1
   exact⟨aG,by rw[cF,aG];rfl⟩
  have e1:bA d=bA s:=by rw[bA,al.2,Y]
  have e2:bJ d=bJ s:=by rw[bJ,al.2,W]
  have e3:dP d=true:=by rw[dP,al.2,ah];exact ax
  have:=JD d (by rw[e1];exact y) (by rw[e2];exact O) a1;rw[jq,gX,e1,e2,al.1,if_pos e3]at this;exact this
 rw[bI];generalize jm s=N at*;generalize bA s=v at*;generalize bJ s=f at*;generalize dP s=fr at*;have U:c9 k d=v:=aw
 by_cases K:dm v=true
 ·have aD:0<k:=by
   rw[<-hk,da];intro h;rw[h]at K;cases K
  obtain⟨c,r,hs⟩:∃c r,s=c::r:=by
   cases s with
   |nil=>
    have:d.length<=0:=by simpa using aS
    omega
   |cons c r=>exact⟨c,r,rfl⟩
  have ao:c=45↔neg=true:=by rw[<-A,hs];simp[bP]
  have an:(c:Int)=45↔c=45:=by omega
  rw[K]at M;clear aO a0 S A Y W ah
  by_cases P:neg=true/\v=[48]
  ·have hf:N=false:=by rw[ag,P.1,P.2];simp
   have aR:=ao.2 P.1;rw[if_pos hf];clear z F l V ao an;subst hs aR;have X:=P.2;simp[w,e];refine c1 T ?_;simp[w,e,J,U];refine c1 M ?_;simp[w,e,J,U,X]
  ·subst hs;rw[bh];simp[w,e,-bh];refine c1 T ?_;simp[w,e,-bh];refine join (fun st=>aK st.env 3=.p (.str d)/\aK st.env 4=.p (.int .i64 k)/\st.heap=[]) ?_ ?_
   ·by_cases y:c=45
    ·have X:¬v=[48]:=fun h=>P ⟨ao.1 y,h⟩;subst y;clear z F l V;simp[w,e,J,U];refine c1 M ?_;simp[w,e,J,U,X]
    ·have aI:¬(c:Int)=45:=by omega
     clear z F l V;simp[w,e,J,U];refine c1 M ?_;simp[w,e,J,U,y,aI]
   clear w e;rintro⟨aH,aW⟩ ⟨e,j,ak⟩;dsimp only at e j ak;subst ak;cases ai:fr with
   |false=>
    have i:k=d.length:=by
     rcases z with⟨q1,_⟩|⟨_,G,_⟩
     ·rw[ai]at q1;cases q1
     ·rw[<-hk,G]
    have aE:¬k<d.length:=by omega
    have aT:f=[]:=by
     rcases z with⟨q1,_⟩|⟨_,_,a5⟩
     ·rw[ai]at q1;cases q1
     ·exact a5
    have hf:N=true:=by
     rw[ag,K,ai];simp
     by_cases y:neg=true
     ·exact .inr fun O=>P ⟨y,O⟩
     ·exact .inl (by simpa using y)
    have Z:bi.wrap ((d.length:Int)-k)=0:=by rw[i,Int.sub_self];rfl
    have aa:bi.wrap (-1)= -1:=rfl;rw[hf,hk,aT];clear z F l V
    by_cases I:600<k
    ·have B:¬(k:Int)<=600:=by omega
     have C:¬k<=600:=by omega
     have D:(600:Int)<k:=by omega
     simp[e,j,aE,I,B,C,D]
    ·have B:(k:Int)<=600:=by omega
     have C:k<=600:=by omega
     have D:¬(600:Int)<k:=by omega
     simp[e,j,aE,I,B,C,D,Z,aa]
   |true=>
    rw[ai]at ag V;have au:d=v++47::f:=by
     rcases z with⟨_,G⟩|⟨q1,_⟩
     ·exact G
     ·rw[ai]at q1;cases q1
    have i:k<d.length:=by rw[au];simp;omega
    have q:d.drop (k+1)=f:=by
     conv=>lhs;rw[au,<-hk]
     simp
    have a9:d.length=k+1+f.length:=by rw[au];simp;omega
    have u:bi.wrap ((k:Int)+1)=(k:Int)+1:=aN _ (by omega) (by omega);have t:((k:Int)+1).toNat=k+1:=by omega
    have m:(0:Int)<=k+1:=by omega
    have n:(k:Int)+1<=d.length:=by omega
    have o:k+1<=d.length:=i;clear z F;have af:N=(dm f&&decide (f≠[48])&&decide (f≠[49])):=by
     rw[ag,K];have:(neg&&decide (v=[48]))=false:=by
      by_cases y:neg=true
      ·have:¬v=[48]:=fun O=>P ⟨y,O⟩;simp[this]
      ·have:neg=false:=by simpa using y
       rw[this];rfl
     rw[this];simp
    by_cases ap:N=true
    ·rw[ap]at af;have aY:¬N=false:=by rw[ap];decide
     rw[if_neg aY];have aL:dm f=true/\¬f=[48]/\¬f=[49]:=by
      have:=af.symm;simp only[be,decide_eq_true_eq]at this;exact⟨this.1.1,this.1.2,this.2⟩
     obtain⟨L,H,E⟩:=aL;rw[L]at l;rw[hk];have Z:bi.wrap ((d.length:Int)-k)=(d.length:Int)-k:=aN _ (by omega) (by omega);have aa:bi.wrap ((d.length:Int)-k-1)=f.length:=by rw[aN _ (by omega) (by omega)];omega
     by_cases I:600<k
     ·have B:¬(k:Int)<=600:=by omega
      have C:¬k<=600:=by omega
      have D:(600:Int)<k:=by omega
      simp[e,j,i,u,t,m,n,o,q];refine c1 l ?_;simp[e,j,i,u,t,m,n,o,q,H,E,I,B,C,D]
     by_cases ab:600<f.length
     ·have B:(k:Int)<=600:=by omega
      have C:k<=600:=by omega
      have D:¬(600:Int)<k:=by omega
      have ac:(600:Int)<f.length:=by omega
      simp[e,j,i,u,t,m,n,o,q];refine c1 l ?_;simp[e,j,i,u,t,m,n,o,q,H,E,I,B,C,D,Z,aa,ab,ac]
     have B:(k:Int)<=600:=by omega
     have C:k<=600:=by omega
     have D:¬(600:Int)<k:=by omega
     have ac:¬(600:Int)<f.length:=by omega
     have R:=V (iH K) (iH L) rfl aD (by omega);have aU:=xw L H;have a3:v.length<=700:=by omega
     have a4:f.length<=700:=by omega
     have aP:aV v<10^700:=yR (s:=v) (k:=700) a3 (iH K);have aQ:aV f<10^700:=yR (s:=f) (k:=700) a4 (iH L);have aF:∀x:Nat,x<10^700->(aq bT x).length<=400000:=fun x hx=>eb (aAg (a:=700) (b:=78) hx (by decide)) (by decide);have Q:=Jg (aV v) (aV f) (aF _ aP) (aF _ aQ);have aB:0<ey (aV v) (aV f):=ee _ aU;generalize aV v=a7 at*;generalize aV f=a6 at*;obtain⟨g,am⟩:∃g,ey a7 a6=g:=⟨_,rfl⟩
     simp only[am]at Q aB⊢;have a2:¬(600<k\/600<f.length):=fun h=>by rcases h with h|h;exact I h;exact ab h
     rw[if_neg a2];simp only[eG,bk]at R
     by_cases ar:g=1
     ·subst ar;have ae:aq bT 1=[1]:=mM (by decide) (by decide);simp only[eT,ae]at Q R;simp[e,j,i,u,t,m,n,o,q];refine c1 l ?_;simp[e,j,i,u,t,m,n,o,q,H,E,I,B,C,D,Z,aa,ab,ac];refine c1 R ?_;simp[ad];refine c2 Q ?_;simp[am]
     ·by_cases aC:g<bT
      ·have ae:aq bT g=[g]:=mM aB aC;have aZ:¬(g:Int)=1:=by omega
       simp only[eT,ae]at Q R;simp[e,j,i,u,t,m,n,o,q];refine c1 l ?_;simp[e,j,i,u,t,m,n,o,q,H,E,I,B,C,D,Z,aa,ab,ac];refine c1 R ?_;simp[ad];refine c2 Q ?_;simp[ar,aZ,am]
      ·have ae:¬((aq bT g).length:Int)=1:=by
        intro h;have O:(aq bT g).length=1:=by omega
        have:=bY aX g;rw[O,fv]at this;exact aC this
       simp only[eT]at Q R;simp[e,j,i,u,t,m,n,o,q];refine c1 l ?_;simp[e,j,i,u,t,m,n,o,q,H,E,I,B,C,D,Z,aa,ab,ac];refine c1 R ?_;simp[ad];refine c2 Q ?_;simp[ar,ae,am]
    ·have aA:N=false:=by simpa using ap
     rw[if_pos aA]
     by_cases L:dm f=true
     ·rw[L]at l
      by_cases H:f=[48]
      ·simp[e,j,i,u,t,m,n,o,q];refine c1 l ?_;simp[e,j,i,u,t,m,n,o,q,H]
      ·have E:f=[49]:=by
        rw[L]at af
        by_cases E:f=[49]
        ·exact E
        ·rw[aA]at af;simp[H,E]at af
       simp[e,j,i,u,t,m,n,o,q];refine c1 l ?_;simp[e,j,i,u,t,m,n,o,q,E]
     ·have aJ:dm f=false:=by simpa using L
      rw[aJ]at l;simp[e,j,i,u,t,m,n,o,q];refine c1 l ?_;simp[e,j,i,u,t,m,n,o,q]
 ·have ay:dm v=false:=by simpa using K
  have hf:N=false:=by rw[ag,ay];rfl
  rw[if_pos hf];rw[ay]at M;simp[w,e];refine c1 T ?_;simp[w,e,J,U];refine c1 M ?_;simp[w,e]
theorem Sn(l:List (List Nat))(f:l.length<=1000000)(hs:∀s∈l,fB s):az prog 111 [.seq (l.map .str)] (.int .i64 (bN (l.map bI))):=by
 refine aM nf EV mix (by simp[f111]) ?_;simp[f111];refine lp (α:=Nat) (fun i=>⟨[(3,.p (.int .i64 i)),(0,.p (.seq (l.map .str)))],[]⟩) (fun i=>i<=l.length/\bN ((l.drop i).map bI)=bN (l.map bI)) (fun i=>l.length-i) 0 (by simp) ?_;rintro i ⟨e,a⟩
 by_cases hi:i<l.length
 ·rw[List.drop_eq_getElem_cons hi]at a;have d:=cH (i:=i) (by omega);have hc:=vf l[i] (hs _ (c6 hi));obtain⟨s,b⟩:∃s,l[i]=s:=⟨_,rfl⟩
  have c:l[i]?=some s:=by rw[ck hi,b]
  rw[b]at hc a;simp[hi,c,b];refine c1 hc ?_
  by_cases he:bI s=0
  ·simp[bN,he]at a;simp[he,d];exact rd (i+1) ⟨hi,by simpa using a⟩
  ·simp[bN,he]at a;simp[he,<-a]
 ·have:i=l.length:=by omega
  subst this;simp[bN]at a;simp[<-a]
theorem wE(p:fy)(a:lI p):az prog 29 [ff p] (.int .i64 (dA p)):=by
 have hc:=Sn [p.x,p.y] (by simp) (by intro s hs;simp at hs;rcases hs with rfl|rfl;exact a.1;exact a.2);refine aM nf NP mix (by simp[f29]) ?_;simp[f29,ad];refine cp hc (by simp;exact⟨rfl,rfl⟩) ?_;simp[dA]
theorem GI(z:Int):47∉bD z:=by
 rw[bD];split
 ·simp only[dq,not_or];exact⟨by decide,zt (nt _) rfl⟩
 ·exact zt (nt _) rfl
theorem zH(q:Rat):(bS 47 (bf q)).1=bD q.num/\(q.den≠1->bf q=bD q.num++47::aW q.den)/\(q.den=1->bf q=bD q.num):=by
 by_cases h:q.den=1
 ·have e:bf q=bD q.num:=by rw[bf,if_pos h]
  refine⟨?_,fun a=>(a h).elim,fun _=>e⟩;rw[e,AQ 47 _ (GI _)]
 ·have e:bf q=bD q.num++47::aW q.den:=by rw[bf,if_neg h]
  refine⟨?_,fun _=>e,fun a=>(h a).elim⟩;rw[e,Bc 47 _ _ (GI _)]
theorem Wu(q:Rat)(h:bE kB q):az prog 196 [.str (bf q)] (.str (bD q.num)):=by
 have i:=pG h;obtain⟨e,c,d⟩:=zH q;have hs:=uM (bf q) (by omega);rw[e]at hs;have g:(bf q).take (bD q.num).length=bD q.num:=by
  by_cases b:q.den=1
  ·rw[d b];simp
  ·rw[c b];simp
 have f:(bD q.num).length<=(bf q).length:=by
  by_cases b:q.den=1
  ·rw[d b];exact e9 _
  ·rw[c b];simp
 refine aM nf Ey mix (by simp[f196]) ?_;generalize bD q.num=a at*;generalize bf q=s at*;simp[f196];refine c1 hs ?_;simp[g,f]
theorem Wr(q:Rat)(h:bE kB q):az prog 197 [.str (bf q)] (.str (aW q.den)):=by
 have d:=pG h;obtain⟨i,j,k⟩:=zH q;have hs:=uM (bf q) (by omega);rw[i]at hs;refine aM nf Mw mix (by simp[f197]) ?_
 by_cases c:q.den=1
 ·have e:=k c;rw[c,DK];rw[e]at hs⊢;generalize bD q.num=a at*;simp[f197];refine c1 hs ?_;simp
 ·have e:=j c;rw[e]at hs d⊢;generalize bD q.num=a at*;generalize aW q.den=b at*;simp only[List.length_append,List.length_cons]at d;have m:¬(a.length:Int)=(a.length:Int)+(b.length+1):=by omega
  have p:bi.wrap ((a.length:Int)+1)=(a.length:Int)+1:=aN _ (by omega) (by omega);have o:((a.length:Int)+1).toNat=a.length+1:=by omega
  have f:(0:Int)<=(a.length:Int)+1:=by omega
  have g:(a.length:Int)+1<=(a.length:Int)+(b.length+1):=by omega
  have l:List.drop (a.length+1) (a++47::b)=b:=by simp
  have n:c9 (a.length+(b.length+1)) (a++47::b)=a++47::b:=cv (by simp);simp[f197];refine c1 hs ?_;simp[m,p,o,f,g,l,n]
theorem Wp(z:Int)(h:(bD z).length<=1000000):az prog 195 [.str (bD z)] (.str (aW z.natAbs)):=by
 have a:=Lm (bD z) (by omega);have g:bP (bD z)=decide (z<0):=by
  have:=(xf z []).1;rwa [List.append_nil]at this
 have f:bD z=[48]↔z=0:=by
  have e:bD z=bf (z:Rat):=by rw[bf,if_pos (gg z),ge]
  rw[e,GH]
  exact_mod_cast Iff.rfl
 refine aM nf Ez mix (by simp[f195]) ?_;rw[g]at a
 by_cases c:z<0
 ·have e:bD z=45::aW z.natAbs:=by rw[bD,if_pos c]
  rw[if_neg (fun x=>by have:=f.1 x;omega),if_pos (by simpa using c)]at a;rw[e]at a⊢;simp[f195];refine c1 a ?_;simp
 ·have e:bD z=aW z.natAbs:=by rw[bD,if_neg c]
  have b:∃v:Int,¬v<0/\az prog 22 [.str (bD z)] (.int .i64 v):=by
   by_cases d:bD z=[48]
   ·rw[if_pos d]at a;exact⟨0,by omega,a⟩
   ·rw[if_neg d,if_neg (by simpa using c)]at a;exact⟨1,by omega,a⟩
  obtain⟨v,i,b⟩:=b;rw[e]at b⊢;simp[f195];refine c1 b ?_;simp[i]
def eZ(s:List Nat)(D:Nat):Bool:=decide (s.length<=2*D+2)&&decide (bI s=0)&&decide ((aW (aL s).num.natAbs).length<=D)&&decide ((aW (aL s).den).length<=D)
theorem W7{s:List Nat}(h:bI s=0):bE kB (aL s):=by
 obtain⟨b,c⟩:=Ex h;have a:(10:Nat)^mD<=2^kB:=eb (Kf mD) (ec (by decide) (by decide));exact⟨ea b a,ea c a⟩
theorem vz(s:List Nat)(D:Nat)(hs:fB s)(v:D<=100000):az prog 116 [.str s,.int .i64 D] (.bool (eZ s D)):=by
 have g:=vf s hs;have w:=hs.1;refine aM nf Mh mix (by simp[f116]) ?_;have h:bi.wrap (2*(D:Int))=2*(D:Int):=aN _ (by omega) (by omega);have i:bi.wrap (2*(D:Int)+2)=2*(D:Int)+2:=aN _ (by omega) (by omega)
 by_cases n:s.length<=2*D+2
 ·have f:(s.length:Int)<=2*(D:Int)+2:=by omega
  by_cases d:bI s=0
  ·have m:=W7 d;have e:=(fX d).1;rw[d]at g;have l:=Wu (aL s) m;have p:=Wr (aL s) m;have r:(bD (aL s).num).length<=1000000:=by
    have:=pG m;obtain⟨_,t,u⟩:=zH (aL s)
    by_cases q:(aL s).den=1
    ·rw[u q]at this;exact this
    ·rw[t q]at this;simp at this;omega
   have o:=Wp (aL s).num r;rw[e]at l p;have hf:eZ s D=(decide ((aW (aL s).num.natAbs).length<=D)&&decide ((aW (aL s).den).length<=D)):=by
    rw[eZ,decide_eq_true n,decide_eq_true d];simp
   rw[hf];generalize aW (aL s).num.natAbs=a at*;generalize aW (aL s).den=b at*;generalize bD (aL s).num=c at*
   by_cases j:a.length<=D
   ·have k:(a.length:Int)<=D:=by omega
    simp[f116,h,i,f];refine c1 g ?_;simp;refine c1 l ?_;simp;refine c1 o ?_;simp[j,k];refine c1 p ?_;simp[j]
   ·have k:¬(a.length:Int)<=D:=by omega
    simp[f116,h,i,f];refine c1 g ?_;simp;refine c1 l ?_;simp;refine c1 o ?_;simp[j,k]
  ·have hf:eZ s D=false:=by rw[eZ,decide_eq_false d];simp
   rw[hf];simp[f116,h,i,f];refine c1 g ?_;simp[d]
 ·have f:¬(s.length:Int)<=2*(D:Int)+2:=by omega
  have hf:eZ s D=false:=by rw[eZ,decide_eq_false n];simp
  rw[hf];simp[f116,h,i,f]
structure V2 where
 x:Rat
 y:Rat
def eV(v:V2):PV:=ff ⟨bf v.x,bf v.y⟩
@[simp] theorem aIr(v:V2):aJ (eV v)=.agg 41:=rfl
@[simp] theorem aF5(v:V2):cj (eV v)=[.str (bf v.x),.str (bf v.y)]:=rfl
theorem CU(x y:Rat):eV ⟨x,y⟩=.st 41 [.str (bf x),.str (bf y)]:=rfl
def cr(k:Nat)(v:V2):Prop:=bE k v.x/\bE k v.y
theorem cr.mono{k l:Nat}{v:V2}(h:cr k v)(a:k<=l):cr l v:=⟨h.1.mono a,h.2.mono a⟩
def V2.sub(v w:V2):V2:=⟨v.x-w.x,v.y-w.y⟩
def V2.add(v w:V2):V2:=⟨v.x+w.x,v.y+w.y⟩
def V2.mul(v:V2)(k:Rat):V2:=⟨v.x*k,v.y*k⟩
def V2.dot(v w:V2):Rat:=v.x*w.x+v.y*w.y
def V2.fj(v w:V2):Rat:=v.x*w.y-v.y*w.x
theorem kx{k l:Nat}{v w:V2}(h:cr k v)(a:cr l w):cr (k+l+1) (v.sub w):=⟨wN h.1 a.1,wN h.2 a.2⟩
theorem azX{k l:Nat}{v w:V2}(h:cr k v)(a:cr l w):cr (k+l+1) (v.add w):=⟨yx h.1 a.1,yx h.2 a.2⟩
theorem rD{k l:Nat}{v w:V2}(h:cr k v)(a:cr l w):bE (k+l+(k+l)+1) (v.dot w):=yx (iU h.1 a.1) (iU h.2 a.2)
theorem PA{k l:Nat}{v w:V2}(h:cr k v)(a:cr l w):bE (k+l+(k+l)+1) (v.fj w):=wN (iU h.1 a.2) (iU h.2 a.1)
theorem DM{k l:Nat}{v:V2}{a:Rat}(h:cr k v)(b:bE l a):cr (k+l) (v.mul a):=⟨iU h.1 b,iU h.2 b⟩
def kQ:Nat:=20000
theorem eD{q:Rat}(h:bE kQ q):bE kB q:=h.mono (by decide)
theorem vy(v w:V2)(a:cr kQ v)(b:cr kQ w):az prog 58 [eV v,eV w] (eV (v.sub w)):=by
 have c:=x9 v.x w.x (eD a.1) (eD b.1);have d:=x9 v.y w.y (eD a.2) (eD b.2);refine aM nf N4 mix (by simp[f58]) ?_;rw[V2.sub,CU];simp[f58,ad];refine e2 c ?_;simp[ad];refine e2 d ?_;simp[ad]
theorem Jh(v w:V2)(a:cr kQ v)(b:cr kQ w):az prog 57 [eV v,eV w] (.str (bf (v.dot w))):=by
 have c:=ya v.x w.x (eD a.1) (eD b.1);have d:=ya v.y w.y (eD a.2) (eD b.2);have e:=MO (v.x*w.x) (v.y*w.y) ((iU a.1 b.1).mono (by decide)) ((iU a.2 b.2).mono (by decide));refine aM nf N3 mix (by simp[f57]) ?_;rw[V2.dot];simp[f57,ad];refine e2 c ?_;simp[ad];refine e2 d ?_;simp[ad];refine e2 e ?_;simp
theorem PE(v w:V2)(a:cr kQ v)(b:cr kQ w):az prog 193 [eV v,eV w] (.str (bf (v.fj w))):=by
 have c:=ya v.x w.y (eD a.1) (eD b.2);have d:=ya v.y w.x (eD a.2) (eD b.1);have e:=x9 (v.x*w.y) (v.y*w.x) ((iU a.1 b.2).mono (by decide)) ((iU a.2 b.1).mono (by decide));refine aM nf EA mix (by simp[f193]) ?_;rw[V2.fj];simp[f193,ad];refine e2 c ?_;simp[ad];refine e2 d ?_;simp[ad];refine e2 e ?_;simp
theorem QF(v:V2)(a:cr kQ v):az prog 115 [eV v] (.str (bf (v.dot v))):=by
 refine aM nf Mi mix (by simp[f115]) ?_;simp[f115,ad];refine c2 (Jh v v a a) ?_;simp
def um(r:Int):Rat:=((4*r*r:Int):Rat)
theorem HI{r:Int}(a:0<=r)(b:r<=1000000):0<=4*r*r/\4*r*r<=4000000000000:=by
 have c:=ce a a;have d:=Int.mul_le_mul b b a (by decide);rw[Int.mul_assoc];omega
theorem QC{r:Int}(a:0<=r)(b:r<=1000000):bE 42 (um r):=by
 have:=HI a b;exact Bl (by omega) (by decide)
structure S3 where
 a:Rat
 b:Rat
 d:Rat
theorem Jb(p:fy)(D:Nat)(d:lI p)(c:D<=100000):az prog 33 [ff p,.int .i64 D] (.bool (eZ p.x D&&eZ p.y D)):=by
 have a:=vz p.x D d.1 c;have b:=vz p.y D d.2 c;refine aM nf NR mix (by simp[f33]) ?_;obtain⟨x,y⟩:=p;dsimp only at a b⊢;simp only[ff];cases hx:eZ x D
 ·rw[hx]at a;simp[f33,ad];refine c2 a ?_;simp
 ·rw[hx]at a;simp[f33,ad];refine c2 a ?_;simp[ad];refine c2 b ?_;simp
def vM(k:Nat)(s:S3):Prop:=bE k s.a/\bE k s.b/\bE k s.d
theorem vM.mono{k l:Nat}{s:S3}(h:vM k s)(a:k<=l):vM l s:=⟨h.1.mono a,h.2.1.mono a,h.2.2.mono a⟩
def S3.add(s t:S3):S3:=⟨s.a+t.a,s.b+t.b,s.d⟩
def S3.mul(s t:S3):S3:=⟨s.a*t.a+s.b*t.b*s.d,s.a*t.b+t.a*s.b,s.d⟩
def S3.times(x:Rat)(s:S3):S3:=⟨x*s.a,x*s.b,s.d⟩
structure P4 where
 x:S3
 y:S3
def Dj(k:Nat)(p:P4):Prop:=vM k p.x/\vM k p.y
theorem Dj.mono{k l:Nat}{p:P4}(h:Dj k p)(a:k<=l):Dj l p:=⟨h.1.mono a,h.2.mono a⟩
def P4.dot(v:V2)(p:P4):S3:=(S3.times v.x p.x).add (S3.times v.y p.y)
def sg3(a b o:Int):Int:=if 0<=a*b then(if a=0 then b else a)else a*o
def sgS(s:S3):Int:=sg3 (dx s.a) (dx s.b*dx s.d) (du (s.a*s.a) (s.b*s.b*s.d))
end Go.al
