import Derived.Test.YthmfmhbicipdmaaGreatDoorPI
import Derived.Test.YthmfmhbicipdmaaGreatDoorPH
import Derived.Test.YthmfmhbicipdmaaGreatDoorPG
/- Parts of a proof. -/
set_option linter.unusedSimpArgs false
set_option linter.unusedVariables false
set_option linter.unusedSectionVars false
open Go.Proofs.Tryz
open Bool renaming false_eq_true->a7, and_eq_true->a8
open Go.IntKind renaming i64->a9
open Int renaming natAbs_natCast->bb, ofNat_natAbs_of_nonpos->be, natCast_nonneg->bi, natAbs_mul->bl, tdiv_eq_ediv_of_nonneg->bo, mul_ediv_cancel_left->bp, natAbs_neg->bv, ofNat_dvd_left->bI, natCast_ediv->bV, tmod_eq_emod_of_nonneg->b2, natAbs_of_nonneg->b3, natCast_emod->b4, mul_nonneg->b5
open List renaming getElem?_eq_getElem->cb, take_of_length_le->cc, all_eq_true->ce, length_take->ch, getElem_mem->ck, take->cv, length_pos_iff->cx, length_drop->cy, length->c6, getElem_of_eq->c9, take_length->da, take_take->db, mem_cons->dg, map_take->dk
open Nat renaming lt_of_lt_of_le->dl, le_trans->dp, pow_le_pow_right->dq, lt_of_le_of_lt->dz, gcd_pos_of_pos_right->ea, zero_le->eb, pow_succ->ec, lt_or_ge->ed, mul_lt_mul''->ee, gcd_le_right->ei, gcd_dvd_left->ej, div_le_self->em, gcd->en, div_div_eq_div_mul->eo, pow_mul->eq, pow_add->ew, le_refl->e6, div_pos->e7, min_eq_left->e8, pow_zero->e9, pow_pos->fb, pow_one->fd, div_one->fl
open Rat renaming divInt->fm, neg_divInt_neg->fv, num_intCast->fw, den_intCast->gb, neg_num->gc, not_le->ge
namespace Go.ah
open Go.Proofs
set_option maxHeartbeats 4000000
set_option maxRecDepth 100000
theorem Xn{s:List Nat}{i:Nat}(h:i<s.length):bc (s.take (i+1))=bc (s.take i)*10+(s[i]-48):=by
 rw[List.take_succ_eq_append_getElem h,yJ]
theorem vH{s:List Nat}{p:Nat->Bool}(h:s.all p=true)(i:Nat):(s.take i).all p=true:=by
 rw[ce]at h⊢;intro x hx;exact h x (List.mem_of_mem_take hx)
theorem M8{s:List Nat}{p:Nat->Bool}(h:s.all p=true)(i:Nat):(s.drop i).all p=true:=by
 rw[ce]at h⊢;intro x hx;exact h x (List.mem_of_mem_drop hx)
theorem zG{c:Nat}(h:cr c=true):48<=c/\c<=57:=by
 simpa[cr]using h
theorem zx(s:List Nat)(e:s.all cr=true)(A:s.length<=18):ar prog 245 [.str s] (.int .i64 (bc s:Nat)):=by
 refine aI nf O5 mix (by simp[f245]) ?_;obtain⟨L,g⟩:∃L,L=s.length:=⟨_,rfl⟩
 have k:bc (s.take L)=bc s:=by rw[g,da]
 rw[<-k];obtain⟨v,b⟩:∃v:Nat->Nat,∀i,bc (s.take i)=v i:=⟨_,fun _=>rfl⟩
 have o:v 0=0:=by rw[<-b];rfl
 have q:∀i(h:i<s.length),v (i+1)=v i*10+(s[i]-48):=fun i h=>by rw[<-b,<-b,Xn h]
 have f:∀i,i<=L->v i<10^i:=fun i hi=>by
  rw[<-b];exact jE i _ (by rw[ch];omega) (vH e i)
 rw[b];simp[f245];refine lp (α:=Nat) (fun i=>⟨[(4,.p (.int .i64 i)),(3,.p (.int .i64 (v i:Nat))),(0,.p (.str s))],[]⟩)
  (fun i=>i<=L) (fun i=>L-i) 0 (eb _) ?_ (he:=by simp[o])
 intro i hi
 by_cases m:i<L
 ·have a:i<s.length:=by omega
  have j:=f i hi;have z:=f (i+1) m;have hc:=zG (ce.1 e s[i] (ck a));have hs:=q i a;have n:10^i<=10^17:=dq (by decide) (by omega);have y:v i<100000000000000000:=dl j (by exact n);generalize d:s[i]=c at*;generalize B:v i=x at*;have w1:a9.wrap (10*(x:Int))=10*(x:Int):=aQ _ (by omega) (by omega);have r:a9.wrap (10*(x:Int)+c)=10*(x:Int)+c:=aQ _ (by omega) (by omega);have t:a9.wrap (10*(x:Int)+c-48)=(v (i+1):Nat):=by rw[hs,aQ _ (by omega) (by omega)];omega
  have u:a9.wrap ((i:Int)+1)=(i:Int)+1:=aQ _ (by omega) (by omega);have w:a9.wrap (c:Int)=c:=aQ _ (by omega) (by omega);have l:s[i]?=some c:=by rw[cb a,d]
  simp[a,d,l,w1,r,t,u,w];exact rd (i+1) (show i+1<=L by omega)
 ·have a:¬i<s.length:=by omega
  have:i=L:=by omega
  subst this;simp[a]
theorem N3(c:Nat):∀s:List Nat,c∉(b9 c s).1
 |[]=>by simp[b9]
 |x::r=>by
  rw[b9]
  split
  ·simp
  ·rename_i h;simp only[dg,not_or];exact⟨fun e=>h e.symm,N3 c r⟩
theorem v8(s:List Nat)(x:s.length<=1048576):ar prog 244 [.str s] (.int .i64 ((b9 47 s).1.length:Nat)):=by
 refine aI nf HR mix (by simp[f244]) ?_;obtain⟨k,hk⟩:∃k,(b9 47 s).1.length=k:=⟨_,rfl⟩
 have t:=N3 47 s;have w:k<=s.length:=by rw[<-hk];exact(tJ 47 s).1
 have n:∀j(h:j<s.length),j<k->¬s[j]=47:=by
  intro j h v e;apply t;rcases pR 47 s with⟨_,b⟩|⟨_,b,_⟩
  ·have:s[j]=(b9 47 s).1[j]'(by omega):=by
    conv=>lhs;rw[c9 b]
    rw[List.getElem_append_left]
   have d:(b9 47 s).1[j]'(by omega)∈(b9 47 s).1:=ck _;rw[<-this,e]at d;exact d
  ·rw[b];have d:s[j]∈s:=ck _
   rwa [e]at d
 have b:∀(h:k<s.length),s[k]=47:=by
  intro h;rcases pR 47 s with⟨_,g⟩|⟨_,g,_⟩
  ·rw[c9 g,List.getElem_append_right (by omega)];simp[hk]
  ·rw[g]at hk;omega
 rw[hk];simp[f244];refine lp (α:=Nat) (fun i=>⟨[(3,.p (.int .i64 i)),(0,.p (.str s))],[]⟩)
  (fun i=>i<=k) (fun i=>k-i) 0 (eb _) ?_
 intro i hi;have u:a9.wrap ((i:Int)+1)=(i:Int)+1:=aQ _ (by omega) (by omega)
 by_cases q:i<k
 ·have a:i<s.length:=by omega
  have f:=n i a q;generalize m:s[i]=c at*;have l:s[i]?=some c:=by rw[cb a,m]
  have o:¬(c:Int)=47:=by omega
  simp[a,m,l,o,f,u];exact rd (i+1) (show i+1<=k by omega)
 ·have r:i=k:=by omega
  subst r
  by_cases a:i<s.length
  ·have f:=b a;have l:s[i]?=some 47:=by rw[cb a,f]
   simp[a,f,l]
  ·have:i=s.length:=by omega
   simp[a,this]
theorem Oy(n:Int)(M:-9223372036854775808<=n)(O:n<=9223372036854775807):ar prog 246 [.int .i64 n] (eG n):=by
 refine aI nf MU mix (by simp[f246]) ?_;obtain⟨N,P⟩:∃N,n.natAbs=N:=⟨_,rfl⟩
 have D:N<bT^3:=by
  have:bT^3=1000000000000000000000000000:=by decide
  omega
 obtain⟨g,a⟩:∃g:Nat->Nat,∀i,N/bT^i=g i:=⟨_,fun _=>rfl⟩
 have F:g 0=N:=by rw[<-a,e9,fl]
 have H:∀i,g (i+1)=g i/bT:=fun i=>by rw[<-a,<-a,eo,ec]
 have A:∀i,ae bT N i=g i% bT:=fun i=>by rw[<-a];rfl
 have G:g 3=0:=by rw[<-a,Nat.div_eq_of_lt D]
 have k:∀i,g i<=N:=fun i=>by rw[<-a];exact em _ _
 have y:∀i,i<=3->g i=0->ar prog 254 [.bool (decide (n<0)),.seq (iP (row bT i N))] (eG n):=fun i I hi=>by
  have h:=C0 (decide (n<0)) (row bT i N) N (jH bd (by
   rw[<-a]at hi;rcases ed N (bT^i)with h|h
   ·exact h
   ·have:=e7 h (fb (show 0<bT by decide));omega)) (by simp[row];omega)
  have e:(if decide (n<0)=true then -(N:Int)else N)=n:=by
   by_cases c:n<0
   ·simp[c];omega
   ·simp[c];omega
  rwa [e]at h
 obtain⟨m,f⟩:∃m:Nat->Int,∀i,(if n<0 then -(g i:Int)else g i)=m i:=⟨_,fun _=>rfl⟩
 have J:m 0=n:=by rw[<-f,F];split<;>omega
 simp only[eG]at y⊢;simp[f246];refine lp (α:=Nat) (fun i=>⟨[(0,.p (.int .i64 (m i))),(2,.ptr 0 []),(3,.sl 1 i 1 0 i),(4,.p (.bool (decide (n<0))))],[.box false (.p (.st 235 [.bool false,.aP])),.arr .grow i 1 (ek i N)]⟩)
  (fun i=>i<=3) (fun i=>3-i) 0 (eb _) ?_ (he:=by simp[J,ek]) (hh:=by simp[ek])
 intro i hi;have Q:bT=1000000000:=rfl;have L:=Nat.mod_lt (g i) (show 0<bT by decide);have R:=k i;have E:=Nat.div_add_mod (g i) bT;have u:g i% bT=ae bT N i:=(A i).symm
 by_cases d:g i=0
 ·have b:m i=0:=by rw[<-f,d];split<;>rfl
  have hs:=y i hi d;rcases i with _|i
  ·simp[b];refine cp hs (by simp[ek];first|exact⟨rfl,rfl⟩|rfl) ?_ (h1:=by simp[iP,row]);simp[aa]
  ·have j:¬ek (i+1) N=[]:=by intro h;have:=congrArg c6 h;rw[iO]at this;simp at this
   simp[b];refine cp hs (by simp[iO,Nj,j];first|exact⟨rfl,rfl⟩|rfl) ?_ (h1:=by simp[iP,row,dk,cc]);simp[aa]
 ·have I:i<3:=by
   rcases ed i 3 with h|h
   ·exact h
   ·rw[show i=3 by omega]at d;exact(d G).elim
  have z:=H i;have K:=A i;have l:=rh i N;have x:cv i (ek i N)=ek i N:=cc (by rw[iO];exact e6 _);rw[K]at l;obtain⟨r,B⟩:∃r,g i% bT=r:=⟨_,rfl⟩
  rw[B]at l L E;have u:=B.symm
  by_cases c:n<0
  ·have b:m i= -(g i:Int):=by rw[<-f,if_pos c]
   have o:m (i+1)= -(g (i+1):Int):=by rw[<-f,if_pos c]
   have j:¬(g i:Int)=0:=by omega
   have s:((g i:Nat):Int).tmod 1000000000=r:=by rw[u,b2 (bi _),b4];rfl
   have q:((g i:Nat):Int).tdiv 1000000000=(g (i+1):Nat):=by rw[z,bo (bi _),bV (g i)];rfl
   have wr:a9.wrap (r:Int)=r:=aQ _ (by omega) (by omega);have C:a9.wrap (-(r:Int))= -r:=aQ _ (by omega) (by omega);have t:a9.wrap (-(g (i+1):Int))= -(g (i+1):Nat):=aQ _ (by have:=k (i+1);omega) (by have:=k (i+1);omega)
   by_cases v:r=0
   ·simp[b,d,j,s,q,wr,C,t,v,x,iO];refine⟨by simp only[cN];omega,?_⟩;exact rd (i+1) (show i+1<=3 by omega) (he:=by simp[o]) (hh:=by simp[l,v])
   ·have w:0<r:=by omega
    simp[b,d,j,s,q,wr,C,t,v,w,x,iO];refine⟨by simp only[cN];omega,?_⟩;exact rd (i+1) (show i+1<=3 by omega) (he:=by simp[o]) (hh:=by simp[l])
  ·have b:m i=(g i:Int):=by rw[<-f,if_neg c]
   have o:m (i+1)=(g (i+1):Int):=by rw[<-f,if_neg c]
   have j:¬(g i:Int)=0:=by omega
   have s:((g i:Nat):Int).tmod 1000000000=r:=by rw[u,b2 (bi _),b4];rfl
   have q:((g i:Nat):Int).tdiv 1000000000=(g (i+1):Nat):=by rw[z,bo (bi _),bV (g i)];rfl
   have wr:a9.wrap (r:Int)=r:=aQ _ (by omega) (by omega);have t:a9.wrap (g (i+1):Int)=(g (i+1):Nat):=aQ _ (by have:=k (i+1);omega) (by have:=k (i+1);omega);have w:¬(r:Int)<0:=by omega
   simp[b,d,j,s,q,wr,t,w,x,iO];refine⟨by simp only[cN];omega,?_⟩;exact rd (i+1) (show i+1<=3 by omega) (he:=by simp[o]) (hh:=by simp[l])
theorem Kg{d:List Nat}(c:d.all cr=true){L i:Nat}(f:L=d.length)(h:9*(i+1)<=L):
 bc (d.take (L-9*(i+1)))=bc (d.take (L-9*i))/10^9/\bc ((d.take (L-9*i)).drop (L-9*(i+1)))=bc (d.take (L-9*i))% 10^9:=by
 have e:=List.take_append_drop (L-9*(i+1)) (d.take (L-9*i));rw[db,e8 (by omega)]at e;have a:=LP (d.take (L-9*(i+1))) ((d.take (L-9*i)).drop (L-9*(i+1)));rw[e]at a;have b:((d.take (L-9*i)).drop (L-9*(i+1))).length=9:=by rw[cy,ch];omega
 rw[b]at a;have g:=jE 9 _ b (M8 (vH c _) _);generalize bc ((d.take (L-9*i)).drop (L-9*(i+1)))=y at*;generalize bc (d.take (L-9*(i+1)))=x at*;rw[a];omega
theorem C1(s:List Nat)(k:(df s).all cr=true)(J:s.length<=1000000):ar prog 249 [.str s] (eG (if bZ s=true then -(bc (df s):Int)else bc (df s))):=by
 refine aI nf O3 mix (by simp[f249]) ?_;obtain⟨d,v⟩:∃d,df s=d:=⟨_,rfl⟩
 obtain⟨neg,f⟩:∃neg,bZ s=neg:=⟨_,rfl⟩
 obtain⟨N,F⟩:∃N,bc d=N:=⟨_,rfl⟩
 have ah:d.length<=1000000:=by rw[<-v];exact dp (pC s).1 J
 rw[v]at k⊢;rw[f,F];have ai:=J;simp[f249,-bt];rw[bt];simp[-bt];refine join (fun st=>aS st.env 0=.p (.str s)/\aS st.env 2=.ptr 0 []/\aS st.env 3=.p (.bool neg)/\st.heap=[.box false (.p (.st 235 [.bool false,.aP]))]) ?_ ?_
 ·cases s with
  |nil=>simp[<-f,bZ]
  |cons c r=>
   by_cases hc:c=45
   ·simp[<-f,bZ,hc]
   ·have T:¬(c:Int)=45:=by omega
    simp[<-f,bZ,hc,T]
 rintro⟨S,U⟩ ⟨a,b,e,n⟩;dsimp only at a b e n;subst n;refine join (fun st=>aS st.env 0=.p (.str d)/\aS st.env 2=.ptr 0 []/\aS st.env 3=.p (.bool neg)/\st.heap=[.box false (.p (.st 235 [.bool false,.aP]))]) ?_ ?_
 ·cases neg with
  |false=>
   have D:s=d:=by rw[<-v,df,f];rfl
   simp[a,b,e,D]
  |true=>
   cases s with
   |nil=>simp[bZ]at f
   |cons c r=>
    have D:r=d:=by rw[<-v,df,f];rfl
    simp[a,b,e,D]
 clear a b e;rintro⟨S,U⟩ ⟨a,b,e,n⟩;dsimp only at a b e n;subst n;obtain⟨L,u⟩:∃L,L=d.length:=⟨_,rfl⟩
 obtain⟨g,l⟩:∃g:Nat->Nat,∀i,N/bT^i=g i:=⟨_,fun _=>rfl⟩
 have B:∀i,9*i<=L->bc (d.take (L-9*i))=g i:=by
  intro i
  induction i with
  |zero=>intro _;rw[Nat.mul_zero,Nat.sub_zero,u,da,F,<-l,e9,fl]
  |succ i ad=>
   intro h;rw[(Kg k u h).1,ad (by omega),<-l,<-l,eo,ec];rfl
 have V:∀i,9*(i+1)<=L->bc ((d.take (L-9*i)).drop (L-9*(i+1)))=ae bT N i:=fun i h=>by
  rw[(Kg k u h).2,B i (by omega),<-l];rfl
 have ac:∀i,9*(i+1)<=L->ar prog 245 [.str ((d.take (L-9*i)).drop (L-9*(i+1)))] (.int .i64 (ae bT N i:Nat)):=fun i h=>by
  rw[<-V i h];exact zx _ (M8 (vH k _) _) (by rw[cy,ch];omega)
 have I:∀i,9*i<=L->L<=9*i+9->g i=ae bT N i/\N<bT^(i+1):=fun i j q=>by
  have H:=jE _ (d.take (L-9*i)) rfl (vH k _);rw[B i j]at H;have y:g i<bT:=dl H (by
   rw[show bT=10^9 from rfl];exact dq (by decide) (by rw[ch];omega))
  refine⟨by rw[ae,l,Nat.mod_eq_of_lt y],?_⟩;rw[<-l,Nat.div_lt_iff_lt_mul (fb (by decide))]at y;rw[ec,Nat.mul_comm];exact y
 have W:∀i,9*i<=L->L<=9*i+9->ar prog 245 [.str (d.take (L-9*i))] (.int .i64 (ae bT N i:Nat)):=fun i j q=>by
  rw[<-(I i j q).1,<-B i j];exact zx _ (vH k _) (by rw[ch];omega)
 have G:∀i,9*i<=L->L<=9*i+9->ar prog 254 [.bool neg,.seq (iP (row bT (i+1) N))] (eG (if neg=true then -(N:Int)else N)):=fun i j q=>
  C0 neg (row bT (i+1) N) N (jH bd (I i j q).2) (by simp[row];omega)
 generalize (if neg=true then -(N:Int)else N)=z at*;simp only[eG]at G⊢;rw[bt];simp[a,b,e,-bt];rw[bt];simp[a,b,e];refine lp (α:=Nat) (fun i=>⟨[(0,.p (.str (d.take (L-9*i)))),(2,.ptr 0 []),(3,.p (.bool neg)),(4,.sl 1 i 1 0 i)],[.box false (.p (.st 235 [.bool false,.aP])),.arr .grow i 1 (ek i N)]⟩)
  (fun i=>9*i<=L) (fun i=>L-i) 0 (eb _) ?_ (he:=by simp[a,b,e,ek,u]) (hh:=by simp[ek])
 intro i hi;have x:(d.take (L-9*i)).length=L-9*i:=by rw[ch];omega
 have o:=ac i;have w:=W i hi;have E:(d.take (L-9*i)).take (L-9*(i+1))=d.take (L-9*(i+1)):=by rw[db,e8 (by omega)]
 rw[show L-9*(i+1)=L-9*i-9 by omega]at o E;obtain⟨m,C⟩:∃m,m=L-9*i:=⟨_,rfl⟩
 rw[<-C]at x o w E;have O:=rh i N;have P:cv i (ek i N)=ek i N:=cc (by rw[iO];exact e6 _);have K:i+1<=cN:=by simp only[cN];omega
 by_cases af:9<m
 ·have o:=o (by omega);have Q:a9.wrap ((m:Int)-9)=(m:Int)-9:=aQ _ (by omega) (by omega);have R:((m:Int)-9).toNat=m-9:=by omega
  have M:(9:Int)<=m:=by omega
  have Z:9*(i+1)<=L:=by omega
  rw[<-C];generalize ag:cv m d=t at*;have ab:cv m t=t:=cc (by omega);have A:(9:Int)<m:=by omega
  have X:m-9=L-9*(i+1):=by omega
  simp[x,A,Q,R,M,ab];refine c1 o ?_;simp[P,iO,K,<-O,x,Q,R,M,E];exact rd (i+1) Z (he:=by simp[X])
 ·have w:=w (by omega);have hs:=G i hi (by omega);rw[<-C];generalize cv m d=t at*;have A:¬(9:Int)<m:=by omega
  simp[x,A];refine c1 w ?_;simp[P,iO,K,<-O];have Y:¬ek (i+1) N=[]:=by intro h;have:=congrArg c6 h;rw[iO]at this;simp at this
  refine cp hs (by simp[iO,Nj,Y];first|exact⟨rfl,rfl⟩|rfl) ?_ (h1:=by simp[iP,row,dk,cc]);simp[aa]
def ki(s:List Nat):Int:=if bZ s=true then -(bc (bH s):Int)else bc (bH s)
def iQ(s:List Nat):Nat:=if eB s=true then bc (bP s)else 1
theorem MD(s:List Nat)(q:(bH s).all cr=true)(l:(bP s).all cr=true)(I:s.length<=1000000):ar prog 159 [.str s] (.aE [eG (ki s),eG (iQ s:Nat)]):=by
 refine aI nf I4 mix (by simp[f159]) ?_;have e:=v8 s (by omega);obtain⟨K,f,h,D⟩:=LA s;have H:=tJ 47 s;have C:=Oy 1 (by decide) (by decide);rcases pR 47 s with⟨q1,b⟩|⟨q1,b,M⟩
 ·have a:=C1 (b9 47 s).1 (by rw[f];exact q) (by omega);rw[K,f]at a;have d:=C1 (b9 47 s).2.1 (by
   rw[h];rw[ce]at l⊢;intro x hx;exact l x ((pC _).2 x hx)) (by omega)
  have J:bZ (bP s)=false:=by
   rw[bZ];cases g:bP s with
   |nil=>simp
   |cons c r=>
    have:=zG (ce.1 l c (by rw[g];simp));simp;omega
  rw[h,df,J]at d;have m:eB s=true:=by rw[<-D];exact q1
  have oW:ki s=if bZ s=true then -(bc (bH s):Int)else bc (bH s):=rfl
  have j:iQ s=bc (bP s):=by rw[iQ,if_pos m]
  rw[<-oW]at a;simp only[a7,if_false]at d;rw[<-j]at d;generalize L:ki s=z at*;generalize iQ s=dn at*;obtain⟨i,o⟩:∃i,(b9 47 s).1=i:=⟨_,rfl⟩
  obtain⟨E,p⟩:∃E,(b9 47 s).2.1=E:=⟨_,rfl⟩
  rw[o,p]at b;rw[o]at e a;rw[p]at h;obtain⟨k,n⟩:∃k,i.length=k:=⟨_,rfl⟩
  rw[n]at e;have hk:k<s.length:=by rw[b];simp;omega
  have B:s.take k=i:=by rw[b,<-n];simp
  have g:s.drop (k+1)=bP s:=by
   rw[<-h]
   conv=>lhs;rw[b,<-n]
   simp
  clear H b o p;have wk:a9.wrap ((k:Int)+1)=(k:Int)+1:=aQ _ (by omega) (by omega);have F:((k:Int)+1).toNat=k+1:=by omega
  have y:¬(k:Int)=s.length:=by omega
  have u:k+1<=s.length:=hk;have w:k<=s.length:=by omega
  have t:(0:Int)<=k+1:=by omega
  have v:(k:Int)+1<=s.length:=by omega
  simp only[eG]at a d⊢;simp[f159];refine c1 e ?_;simp[y,wk,F,B,g,u,w,t,v];refine e1 a ?_;simp[y,wk,F,B,g,u,w,t,v];refine e1 d ?_;simp[aa]
 ·have a:=C1 s (by
   have A:=f;rw[b]at A;rw[A];exact q) I
  have m:eB s=false:=by rw[<-D];exact q1
  have G:df s=bH s:=by rw[b]at f;exact f
  have oW:ki s=if bZ s=true then -(bc (bH s):Int)else bc (bH s):=rfl
  have j:iQ s=1:=by rw[iQ,m];rfl
  rw[G,<-oW]at a;rw[j];rw[b]at e;generalize ki s=z at*;simp only[eG]at a C⊢;simp[f159];refine c1 e ?_;simp;refine c1 a ?_;simp;refine c1 C ?_;simp[aa]
theorem Kh(n:Nat):(bh n).length<=9*(aB bT n).length+1:=by
 rcases Nat.eq_zero_or_pos n with h|h
 ·subst h;rw[q7];simp
 ·have b:0<(aB bT n).length:=by rw[cx,Ne,vE];omega
  have a:=cm bd n;rw[show bT^(aB bT n).length=10^(9*(aB bT n).length)by rw[eq];rfl]at a;exact dp (vq a (by omega)) (by omega)
def fW(n d:Int):Rat:=fm n d
theorem J2(n g:Nat):(aB bT (n/g)).length<=(aB bT n).length:=
 dO bd _ _ (dz (em n g) (cm bd n))
theorem WG(n d:Nat)(a:0<d):(aB bT (en n d)).length<=(aB bT d).length:=
 dO bd _ _ (dz (ei n a) (cm bd d))
theorem Co(n d:Int)(L:d≠0)(s:(aB bT n.natAbs).length<=400000)(j:(aB bT d.natAbs).length<=400000):ar prog 160 [eG n,eG d] (.str (bg (fW n d))):=by
 refine aI nf I3 mix (by simp[f160]) ?_;simp[f160,-bt,aa];rw[bt];simp[-bt,aa];refine join (fun st=>∃(e:Int)(d':Nat),0<d'/\(aB bT e.natAbs).length<=400000/\(aB bT d').length<=400000/\fW e d'=fW n d/\aS st.env 2=.ptr 0 []/\aS st.env 3=.ptr 1 []/\st.heap=[.box false (.p (eG e)),.box false (.p (eG (d':Nat)))]) ?_ ?_
 ·have P:=OB n s;have O:=OB d j
  by_cases h:d<0
  ·simp[h,aa];refine e1 P ?_;simp[aa];refine e1 O ?_;simp[aa];refine⟨by repeat' first|rfl|apply And.intro,?_⟩;refine⟨-n,d.natAbs,by omega,by rw[bv];exact s,j,?_,rfl,?_⟩
   ·rw[be (by omega)];exact fv _ _
   ·rw[be (by omega)]
  ·have A:((d.natAbs:Nat):Int)=d:=b3 (by omega);simp[h,aa];exact⟨n,d.natAbs,by omega,s,j,by rw[A],rfl,by rw[A]⟩
 rintro⟨T,U⟩ ⟨e,d',k1,k2,k3,k4,l,m,D⟩;dsimp only at l m D;subst D;rw[<-k4,show fW e d'=fm e d' from rfl];clear k4 s j L;obtain⟨u,v⟩:=mf (n:=e) (show d'≠0 by omega);obtain⟨g,k⟩:∃g,en e.natAbs d'=g:=⟨_,rfl⟩
 have r:0<g:=by rw[<-k];exact ea _ k1
 have B:(aB bT g).length<=400000:=by rw[<-k];exact dp (WG _ _ k1) k3
 rw[k]at u v;have y:=Mg e.natAbs d' k2 k3;rw[k]at y;have I:=Ej e.natAbs g r k2 B;have J:=Ej d' g r k3 B;have Y:(aB bT (e.natAbs/g)).length<=400000:=dp (J2 _ _) k2;have Z:(aB bT (d'/g)).length<=400000:=dp (J2 _ _) k3;have w:=qU (decide (e<0)) (e.natAbs/g) (by omega);have f:=qU false (d'/g) (by omega);have t:(if decide (e<0)=true then -((e.natAbs/g:Nat):Int)else((e.natAbs/g:Nat):Int))=(fm e d').num:=by
  rw[u];have M:(g:Int)∣e:=by rw[<-k];exact bI.2 (ej _ _)
  obtain⟨c,hc⟩:=M;have N:(g:Int)≠0:=by omega
  rw[hc,bp _ N,bl,bb,Nat.mul_div_cancel_left _ r]
  by_cases K:c<0
  ·have:(g:Int)*c<0:=Int.mul_neg_of_pos_of_neg (by omega) K;simp[this];omega
  ·have:¬(g:Int)*c<0:=by
    have:=b5 (a:=(g:Int)) (b:=c) (by omega) (by omega);omega
   simp[this];omega
 rw[t]at w;simp only[a7,if_false]at f;have z:=DG (fm e d').num (by
  rw[<-t];split
  ·rw[bv,bb];omega
  ·rw[bb];omega)
 have i:=DG ((d'/g:Nat):Int) (by rw[bb];omega);rw[vr]at i;have Q:0<d'/g:=by
  refine e7 ?_ r;rw[<-k];exact ei _ k1
 have V:(bN (fm e d').num).length<=3600002:=by
  refine dp (Dm _) ?_;have h:=Kh (fm e d').num.natAbs;have:(fm e d').num.natAbs=e.natAbs/g:=by
   rw[<-t];split
   ·rw[bv,bb]
   ·rw[bb]
  rw[this]at h⊢;omega
 have W:(bh (d'/g)).length<=3600001:=by
  have h:=Kh (d'/g);omega
 have F:bg (fm e d')=if d'/g=1 then bN (fm e d').num else bN (fm e d').num++47::bh (d'/g):=by rw[bg,v]
 rw[F];clear F t u v;generalize (fm e d').num=G at*;generalize ab:d'/g=q at*;simp only[eG,bb]at w f z i⊢;simp[l,m,aa];refine c2 y ?_;simp[l,m,aa];refine c2 I ?_;simp[l,m,aa];refine c2 J ?_;simp[l,m,aa];refine c2 w ?_;simp[l,m,aa];refine c1 z ?_;have R:∀h:q=1,aB bT q=[1]:=fun h=>by rw[h];exact nV (by decide) (by decide)
 by_cases o:q=1
 ·have x:=R o;simp[o,eT,nV (show 0<1 by decide) (show 1<bT by decide)]
 ·have C:(bN G).length+1<9223372036854775808:=by omega
  have X:(bN G).length+((bh q).length+1)<9223372036854775808:=by omega
  by_cases E:q<bT
  ·have x:=nV Q E;have S:¬(q:Int)=1:=by omega
   simp[o,eT,x,S];refine⟨C,?_⟩;simp only[eT,x,List.map_cons,List.map_nil]at f i;refine c2 f ?_;simp;refine c1 i ?_;simp;omega
  ·have j:¬((aB bT q).length:Int)=1:=by
    intro h;have H:(aB bT q).length=1:=by omega
    have:=cm bd q;rw[H,fd]at this;exact E this
   simp[o,eT,j];refine⟨C,?_⟩;simp only[eT]at f i;refine c2 f ?_;simp;refine c1 i ?_;simp;omega
theorem WK{n:Int}{g:Nat}(a:0<g)(h:g∣n.natAbs):n.tdiv g=n/g:=by
 obtain⟨c,hc⟩:=bI.2 h;subst hc;rw[Int.mul_tdiv_cancel_left _ (by omega),bp _ (by omega)]
theorem xk(n d:Int)(M:d≠0)(S:n.natAbs<=4000000000000000000)(N:d.natAbs<=4000000000000000000):ar prog 158 [.int .i64 n,.int .i64 d] (.str (bg (fW n d))):=by
 refine aI nf I5 mix (by simp[f158]) ?_;have a1:¬n< -4000000000000000000:=by omega
 have f:¬4000000000000000000<n:=by omega
 have i:¬d< -4000000000000000000:=by omega
 have j:¬4000000000000000000<d:=by omega
 simp[f158,a1,f,i,j,-bt];rw[bt];simp[a1,f,i,j,-bt];rw[bt,bt];simp[a1,f,i,j,-bt];refine join (fun st=>∃(b:Int)(d':Nat),0<d'/\b.natAbs<=4000000000000000000/\d'<=4000000000000000000/\fW b d'=fW n d/\aS st.env 0=.p (.int .i64 b)/\aS st.env 1=.p (.int .i64 (d':Nat))/\st.heap=[]) ?_ ?_
 ·have w1:a9.wrap (-n)= -n:=aQ _ (by omega) (by omega);have m:a9.wrap (-d)= -d:=aQ _ (by omega) (by omega)
  by_cases h:d<0
  ·simp[h,w1,m,a1,f,i,j];refine⟨-n,d.natAbs,by omega,by omega,by omega,?_,rfl,?_⟩
   ·rw[be (by omega)];exact fv _ _
   ·rw[be (by omega)]
  ·have H:((d.natAbs:Nat):Int)=d:=b3 (by omega);simp[h,a1,f,i,j];exact⟨n,d.natAbs,by omega,by omega,by omega,by rw[H],rfl,by rw[H]⟩
 rintro⟨U,V⟩ ⟨b,d',k1,k2,k3,k4,o,r,I⟩;dsimp only at o r I;subst I;rw[<-k4,show fW b d'=fm b d' from rfl];clear k4 S N M a1 f i j;obtain⟨w,C⟩:=mf (n:=b) (show d'≠0 by omega);obtain⟨g,k⟩:∃g,en b.natAbs d'=g:=⟨_,rfl⟩
 have E:0<g:=by rw[<-k];exact ea _ k1
 rw[k]at w C;have G:=anS b.natAbs d' (by omega) (by omega);rw[k]at G;have R:(if b< -b then -b else b)=(b.natAbs:Nat):=by split<;>omega
 have w1:a9.wrap (-b)= -b:=aQ _ (by omega) (by omega);have y:b.tdiv g=(fm b d').num:=by rw[w,WK E (by rw[<-k];exact ej _ _)]
 have z:(d':Int).tdiv g=(d'/g:Nat):=by rw[bo (bi _),bV]
 have T:(fm b d').num.natAbs<=4000000000000000000:=by
  have P:(g:Int)∣b:=by rw[<-k];exact bI.2 (ej _ _)
  obtain⟨c,hc⟩:=P;have Q:(g:Int)≠0:=by omega
  rw[w,hc,bp _ Q];rw[hc,bl,bb]at k2;exact dp (Nat.le_mul_of_pos_left _ E) k2
 have O:d'/g<=4000000000000000000:=dp (em _ _) k3;have aa:0<d'/g:=by
  refine e7 ?_ E;rw[<-k];exact ei _ k1
 have K:bg (fm b d')=if d'/g=1 then bN (fm b d').num else bN (fm b d').num++47::bh (d'/g):=by rw[bg,C]
 rw[K];clear K w C;generalize (fm b d').num=a at*;generalize ab:d'/g=q at*;have x:¬g=0:=by omega
 have t:=yF a.natAbs 1 (by omega) (by decide);have D:=yF q 1 (by omega) (by decide);have W:(bh a.natAbs).length<=19:=vq (dz T (by decide)) (by decide);have X:(bh q).length<=19:=vq (dz O (by decide)) (by decide);rw[show low (max 1 (nd a.natAbs)) a.natAbs=bh a.natAbs from rfl]at t;rw[show low (max 1 (nd q)) q=bh q from rfl]at D;have Z:(if a< -a then -a else a)=(a.natAbs:Nat):=by split<;>omega
 have m:a9.wrap (-a)= -a:=aQ _ (by omega) (by omega);have A:a9.wrap a=a:=aQ _ (by omega) (by omega);have B:a9.wrap (q:Int)=q:=aQ _ (by omega) (by omega);simp[o,r,w1,R];refine c2 G ?_;have J:(1:Int)<q↔¬q=1:=by omega
 have L:a9.wrap 1=1:=rfl;have Y:(bh a.natAbs).length<9223372036854775808:=by omega
 by_cases l:a<0
 ·have F:bN a=45::bh a.natAbs:=by rw[bN,if_pos l]
  rw[F];have v:a< -a:=by omega
  have u:-a=(a.natAbs:Nat):=by omega
  by_cases e:q=1
  ·simp[o,r,x,y,z,A,B,l,m,v,e];rw[u];refine c2 t ?_;simp[e,L];omega
  ·have s:=J.2 e;simp[o,r,x,y,z,A,B,l,m,v,e,s];rw[u];refine c2 t ?_;simp[e,s];refine⟨by omega,by omega,?_⟩;refine c2 D ?_;simp;omega
 ·have F:bN a=bh a.natAbs:=by rw[bN,if_neg l]
  rw[F];have u:a=(a.natAbs:Nat):=by omega
  have v:¬a< -a:=by omega
  by_cases e:q=1
  ·simp[o,r,x,y,z,A,B,l,m,v,e];rw[show PV.int .i64 a=.int .i64 (a.natAbs:Nat)by rw[<-u]];refine c2 t ?_;simp[e,L];omega
  ·have s:=J.2 e;simp[o,r,x,y,z,A,B,l,m,v,e,s];rw[show PV.int .i64 a=.int .i64 (a.natAbs:Nat)by rw[<-u]];refine c2 t ?_;simp[e,s];refine⟨by omega,by omega,?_⟩;refine c2 D ?_;simp;omega
theorem wX(n:Int)(a:-9223372036854775808<=n)(b:n<=9223372036854775807):ar prog 183 [.int .i64 n] (.str (bg (n:Rat))):=by
 have e:=Oy n a b;have d:=DG n (by
  have c:n.natAbs<bT^3:=by
   have:bT^3=1000000000000000000000000000:=by decide
   omega
  have:=dO bd 3 _ c;omega)
 have hq:bg (n:Rat)=bN n:=by rw[bg,if_pos (gb n),fw]
 rw[hq];refine aI nf G1 mix (by simp[f183]) ?_;simp[f183];refine c1 e ?_;simp;refine c1 d ?_;simp
theorem asS(s:List Nat)(C:(bH s).all cr=true)(J:(bP s).all cr=true)(ai:s.length<=1000000):
 ∃(n d:Int)(b:Bool),ar prog 157 [.str s] (.aE [.int .i64 n,.int .i64 d,.bool b])/\(b=true->n=ki s/\d=(iQ s:Nat)/\n.natAbs<1000000000/\iQ s<1000000000):=by
 by_cases K:20<s.length
 ·refine⟨0,0,false,?_,fun h=>by cases h⟩;refine aI nf BN mix (by simp[f157]) ?_;have m:(20:Int)<s.length:=by omega
  simp[f157,m]
 obtain⟨d,l⟩:∃d,df s=d:=⟨_,rfl⟩
 obtain⟨neg,g⟩:∃neg,bZ s=neg:=⟨_,rfl⟩
 have ag:d.length<=s.length:=by rw[<-l];exact(pC s).1
 have i:=v8 d (by omega);have A:(b9 47 d).1=bH s:=by rw[<-l];rfl
 have N:(b9 47 d).2.1=bP s:=by rw[<-l];rfl
 have P:(b9 47 d).2.2=eB s:=by rw[<-l];rfl
 have q:=pR 47 d;rw[A,N,P]at q;rw[A]at i;obtain⟨k,hk⟩:∃k,(bH s).length=k:=⟨_,rfl⟩
 rw[hk]at i;have Q:k<=d.length:=by rw[<-hk,<-A];exact(tJ 47 d).1
 have m:¬(20:Int)<s.length:=by omega
 obtain⟨b,o⟩:∃b:Bool,b=(decide (k<=9)&&decide (d.length-k<=10)):=⟨_,rfl⟩
 have M:b=true->(ki s).natAbs<1000000000/\iQ s<1000000000:=fun h=>by
  rw[o]at h;simp only[a8,decide_eq_true_eq]at h;have v:=jE _ (bH s) rfl C;rw[hk]at v;have ac:bc (bH s)<1000000000:=dl v (dq (n:=10) (by decide) h.1);refine⟨by rw[ki];split<;>omega,?_⟩;rcases q with⟨q1,f⟩|⟨q1,f,ae⟩
  ·have V:(bP s).length<=9:=by
    have:=congrArg c6 f;simp at this;omega
   have W:=jE _ (bP s) rfl J;rw[iQ,if_pos q1];exact dl W (dq (n:=10) (by decide) V)
  ·rw[iQ,q1,if_neg (by decide)];decide
 refine⟨if b=true then ki s else 0,if b=true then(iQ s:Nat)else 0,b,?_,fun h=>⟨if_pos h,if_pos h,by rw[if_pos h];exact(M h).1,(M h).2⟩⟩;refine aI nf BN mix (by simp[f157]) ?_;simp[f157,-bt];rw[bt];simp[-bt];rw[bt];simp[-bt];rw[bt,bt];simp[m,-bt];refine join (fun st=>aS st.env 5=.p (.str s)/\aS st.env 6=.p (.bool neg)/\st.heap=[]) ?_ ?_
 ·clear K m;cases s with
  |nil=>simp[<-g,bZ]
  |cons c r=>
   by_cases hc:c=45
   ·simp[<-g,bZ,hc]
   ·have Z:¬(c:Int)=45:=by omega
    simp[<-g,bZ,hc,Z]
 rintro⟨T,aa⟩ ⟨e,a,u⟩;dsimp only at e a u;subst u;refine join (fun st=>aS st.env 5=.p (.str d)/\aS st.env 6=.p (.bool neg)/\st.heap=[]) ?_ ?_
 ·cases t:neg with
  |false=>
   have F:s=d:=by rw[<-l,df,g,t];rfl
   simp[e,a,t,F]
  |true=>
   clear i q hk N A P K m o;cases s with
   |nil=>simp[bZ]at g;rw[t]at g;cases g
   |cons c r=>
    have F:r=d:=by rw[<-l,df,g,t];rfl
    simp[e,a,t,F]
 clear e a;rintro⟨T,aa⟩ ⟨e,a,u⟩;dsimp only at e a u;subst u;have wk:a9.wrap ((k:Int)+1)=(k:Int)+1:=aQ _ (by omega) (by omega);have G:a9.wrap ((d.length:Int)-k)=(d.length:Int)-k:=aQ _ (by omega) (by omega);have af:((k:Int)+1).toNat=k+1:=by omega
 have ad:ki s=if neg=true then -(bc (bH s):Int)else bc (bH s):=by rw[ki,g]
 rw[ad];rcases ed 9 k with D|D
 ·have X:¬k<=9:=by omega
  have j:(9:Int)<k:=by omega
  have E:b=false:=by rw[o];simp[X]
  simp[e,a];refine c1 i ?_;simp[e,a,j,E]
 rcases ed 10 (d.length-k)with I|I
 ·have U:¬d.length-k<=10:=by omega
  have j:¬(9:Int)<k:=by omega
  have x:(10:Int)<(d.length:Int)-k:=by omega
  have E:b=false:=by rw[o];simp[U]
  simp[e,a];refine c1 i ?_;simp[e,a,j,x,G,E]
 have j:¬(9:Int)<k:=by omega
 have x:¬(10:Int)<(d.length:Int)-k:=by omega
 have y:b=true:=by rw[o];simp[D,I]
 have R:d.take k=bH s:=by
  rcases q with⟨_,f⟩|⟨_,f,_⟩
  ·rw[f,<-hk];simp
  ·rw[<-f,<-hk];simp
 have L:=zx (bH s) C (by omega);have v:=jE _ (bH s) rfl C;rw[hk]at v;have ac:bc (bH s)<1000000000:=dl v (dq (n:=10) (by decide) D);rcases q with⟨q1,f⟩|⟨q1,f,ae⟩
 ·have z:k<d.length:=by rw[f];simp;omega
  have O:d.drop (k+1)=bP s:=by
   conv=>lhs;rw[f,<-hk]
   simp
  have ah:(bP s).length<=9:=by rw[<-O,cy];omega
  have Y:=zx (bP s) J (by omega);have B:iQ s=bc (bP s):=by rw[iQ,if_pos q1]
  rw[B];generalize bc (bP s)=aj at*;generalize bc (bH s)=w at*;have H:a9.wrap (-(w:Int))= -(w:Int):=aQ _ (by omega) (by omega);clear f;simp[e,a];refine c1 i ?_;have a1:(0:Int)<=k+1:=by omega
  have ab:k+1<=d.length:=z;have S:(k:Int)+1<=d.length:=by omega
  simp[e,a,j,x,G,y,Q,R];refine c1 L ?_;cases neg<;>
  ·simp[e,a,z,ab,wk,af,O,a1,S];refine c1 Y ?_;simp[a,H,y]
 ·have z:¬k<d.length:=by rw[<-f,hk];omega
  have B:iQ s=1:=by rw[iQ,q1];rfl
  rw[B];generalize bc (bH s)=w at*;have H:a9.wrap (-(w:Int))= -(w:Int):=aQ _ (by omega) (by omega);simp[e,a];refine c1 i ?_;simp[e,a,j,x,G,y,Q,R];refine c1 L ?_;cases neg<;>simp[e,a,z,H,y]
theorem Cs{n k:Nat}(h:n<2^k):(aB bT n).length<=k/29+1:=by
 refine dO bd _ _ (dl h ?_);have a:2^29<=bT:=by decide
 refine dp ?_ (Nat.pow_le_pow_left a _);rw[<-eq];exact dq (by decide) (by omega)
theorem NL(q:Rat):ki (bg q)=q.num:=by
 obtain⟨a,b,_,_⟩:=vJ q;rw[ki,a,b,yZ]
 by_cases h:q.num<0
 ·rw[if_pos (by simpa using h)];omega
 ·rw[if_neg (by simpa using h)];omega
theorem Hg(q:Rat):iQ (bg q)=q.den:=by
 obtain⟨_,_,a,b⟩:=vJ q;rw[iQ,a,b]
 by_cases h:q.den=1
 ·rw[if_neg (by simpa using h),h]
 ·rw[if_pos (by simpa using h),if_neg h,yZ]
theorem A8(q:Rat):(bH (bg q)).all cr=true/\(bP (bg q)).all cr=true:=by
 obtain⟨_,a,_,b⟩:=vJ q;refine⟨by rw[a];exact rQ _,?_⟩;rw[b];split
 ·rfl
 ·exact rQ _
theorem rk{q:Rat}(h:bE kB q):(bg q).length<=1000000:=by
 have a:(bh q.num.natAbs).length<=33334:=Es (K:=kB) (k:=33334) h.1 (by decide) (by decide);have b:(bh q.den).length<=33334:=Es (K:=kB) (k:=33334) h.2 (by decide) (by decide);have:=aLc q;omega
theorem zh(q:Rat)(h:bE kB q):∃(n d:Int)(b:Bool),ar prog 157 [.str (bg q)] (.aE [.int .i64 n,.int .i64 d,.bool b])/\(b=true->n=q.num/\d=(q.den:Nat)/\n.natAbs<1000000000/\q.den<1000000000):=by
 have:=asS (bg q) (A8 q).1 (A8 q).2 (rk h)
 rwa [NL,Hg]at this
theorem vF(q:Rat)(h:bE kB q):ar prog 159 [.str (bg q)] (.aE [eG q.num,eG (q.den:Nat)]):=by
 have:=MD (bg q) (A8 q).1 (A8 q).2 (rk h)
 rwa [NL,Hg]at this
theorem azC(a b:Rat):fW (a.num*b.den+b.num*a.den) (a.den*b.den)=a+b:=by
 rw[Rat.add_def'];rfl
theorem azD(a b:Rat):fW (a.num*b.num) (a.den*b.den)=a*b:=by
 rw[Rat.mul_def,Rat.normalize_eq_mkRat];rfl
theorem Qb(a b:Rat):((a.den:Nat):Int)*(b.den:Nat)≠0:=by
 have c:=a.den_pos;have d:=b.den_pos;exact Int.ne_of_gt (Int.mul_pos (by omega) (by omega))
theorem w8{x y:Int}(hx:x.natAbs<1000000000)(a:y.natAbs<1000000000):(x*y).natAbs<=999999998000000001:=by
 rw[bl];exact Nat.mul_le_mul (show x.natAbs<=999999999 by omega) (show y.natAbs<=999999999 by omega)
theorem vC{x y:Int}(hx:x.natAbs<2^kB)(a:y.natAbs<2^kB):(aB bT (x*y).natAbs).length<=10000:=by
 have h:=Cs (n:=(x*y).natAbs) (k:=kB+kB) (by rw[bl,ew];exact ee hx a);exact dp h (by decide)
theorem lN{x:Nat}(hx:x<2^kB):(aB bT x).length<=10000:=dp (Cs hx) (by decide)
theorem xl(a b:Rat)(h:bE kB a)(i:bE kB b):ar prog 75 [.str (bg a),.str (bg b)] (.str (bg (a+b))):=by
 obtain⟨n,d,p,A,E⟩:=zh a h;obtain⟨m,e,r,B,F⟩:=zh b i;have t:=vF a h;have u:=vF b i;refine aI nf RL mix (by simp[f75]) ?_;rw[<-azC];have z:=Qb a b
 by_cases j:p=true/\r=true
 ·obtain⟨rfl,rfl,k1,k2⟩:=E j.1;obtain⟨rfl,rfl,k3,k4⟩:=F j.2;have N:=w8 k1 (show((b.den:Nat):Int).natAbs<1000000000 by rw[bb];exact k4);have O:=w8 k3 (show((a.den:Nat):Int).natAbs<1000000000 by rw[bb];exact k2);have P:=w8 (show((a.den:Nat):Int).natAbs<1000000000 by rw[bb];exact k2) (show((b.den:Nat):Int).natAbs<1000000000 by rw[bb];exact k4);have C:=xk (a.num*b.den+b.num*a.den) (a.den*b.den) z (by omega) (by omega);have w1:a9.wrap (a.num*(b.den:Nat))=a.num*(b.den:Nat):=aQ _ (by omega) (by omega);have H:a9.wrap (b.num*(a.den:Nat))=b.num*(a.den:Nat):=aQ _ (by omega) (by omega);have I:a9.wrap (a.num*(b.den:Nat)+b.num*(a.den:Nat))=a.num*(b.den:Nat)+b.num*(a.den:Nat):=aQ _ (by omega) (by omega);have J:a9.wrap (((a.den:Nat):Int)*(b.den:Nat))=((a.den:Nat):Int)*(b.den:Nat):=aQ _ (by omega) (by omega);have g:p=true:=j.1;have q:r=true:=j.2;simp[f75];refine c1 A ?_;simp;refine c1 B ?_;simp[g,q,w1,H,I,J];refine c2 C ?_;simp
 ·have l:a.num.natAbs<2^kB:=h.1;have o:b.num.natAbs<2^kB:=i.1;have c:((a.den:Nat):Int).natAbs<2^kB:=by rw[bb];exact h.2
  have f:((b.den:Nat):Int).natAbs<2^kB:=by rw[bb];exact i.2
  have w:=v7 a.num (b.den:Nat) (by have:=lN l;have:=lN f;omega);have x:=v7 b.num (a.den:Nat) (by have:=lN o;have:=lN c;omega);have y:=v7 (a.den:Nat) (b.den:Nat) (by have:=lN c;have:=lN f;omega);have K:=vC l f;have L:=vC o c;have M:=vC c f;have v:=arX (a.num*(b.den:Nat)) (b.num*(a.den:Nat)) (by omega) (by omega);have G:(aB bT (a.num*(b.den:Nat)+b.num*(a.den:Nat)).natAbs).length<=400000:=by
   refine dp (Cs (k:=kB+kB+1) ?_) (by decide);have q1:(a.num*(b.den:Nat)).natAbs<2^(kB+kB):=by rw[bl,ew];exact ee l f
   have Q:(b.num*(a.den:Nat)).natAbs<2^(kB+kB):=by rw[bl,ew];exact ee o c
   rw[ec];omega
  have s:=Co (a.num*(b.den:Nat)+b.num*(a.den:Nat)) ((a.den:Nat)*(b.den:Nat)) z G (by omega);simp[f75];refine c1 A ?_;simp;refine c1 B ?_;have D:(p=false)\/(p=true/\r=false):=by cases p<;>cases r<;>simp_all
  rcases D with g|⟨g,q⟩
  ·simp[g];refine c1 t ?_;simp[aa];refine c1 u ?_;simp[aa];refine e2 w ?_;simp[aa];refine e2 x ?_;simp[aa];refine e2 v ?_;simp[aa];refine e2 y ?_;simp[aa];refine e2 s ?_;simp
  ·simp[g,q];refine c1 t ?_;simp[aa];refine c1 u ?_;simp[aa];refine e2 w ?_;simp[aa];refine e2 x ?_;simp[aa];refine e2 v ?_;simp[aa];refine e2 y ?_;simp[aa];refine e2 s ?_;simp
theorem oP(a b:Rat)(f:bE kB a)(g:bE kB b):ar prog 76 [.str (bg a),.str (bg b)] (.str (bg (a*b))):=by
 obtain⟨n,d,p,x,B⟩:=zh a f;obtain⟨m,e,r,y,C⟩:=zh b g;have s:=vF a f;have t:=vF b g;refine aI nf RM mix (by simp[f76]) ?_;rw[<-azD];have w:=Qb a b
 by_cases h:p=true/\r=true
 ·obtain⟨rfl,rfl,k1,k2⟩:=B h.1;obtain⟨rfl,rfl,k3,k4⟩:=C h.2;have G:=w8 k1 k3;have H:=w8 (show((a.den:Nat):Int).natAbs<1000000000 by rw[bb];exact k2) (show((b.den:Nat):Int).natAbs<1000000000 by rw[bb];exact k4);have z:=xk (a.num*b.num) (a.den*b.den) w (by omega) (by omega);have w1:a9.wrap (a.num*b.num)=a.num*b.num:=aQ _ (by omega) (by omega);have D:a9.wrap (((a.den:Nat):Int)*(b.den:Nat))=((a.den:Nat):Int)*(b.den:Nat):=aQ _ (by omega) (by omega);have c:p=true:=h.1;have i:r=true:=h.2;simp[f76];refine c1 x ?_;simp;refine c1 y ?_;simp[c,i,w1,D];refine c2 z ?_;simp
 ·have j:a.num.natAbs<2^kB:=f.1;have l:b.num.natAbs<2^kB:=g.1;have k:((a.den:Nat):Int).natAbs<2^kB:=by rw[bb];exact f.2
  have o:((b.den:Nat):Int).natAbs<2^kB:=by rw[bb];exact g.2
  have u:=v7 a.num b.num (by have:=lN j;have:=lN l;omega);have v:=v7 (a.den:Nat) (b.den:Nat) (by have:=lN k;have:=lN o;omega);have E:=vC j l;have F:=vC k o;have q:=Co (a.num*b.num) ((a.den:Nat)*(b.den:Nat)) w (by omega) (by omega);simp[f76];refine c1 x ?_;simp;refine c1 y ?_;have A:(p=false)\/(p=true/\r=false):=by cases p<;>cases r<;>simp_all
  rcases A with c|⟨c,i⟩
  ·simp[c];refine c1 s ?_;simp[aa];refine c1 t ?_;simp[aa];refine e2 u ?_;simp[aa];refine e2 v ?_;simp[aa];refine e2 q ?_;simp
  ·simp[c,i];refine c1 s ?_;simp[aa];refine c1 t ?_;simp[aa];refine e2 u ?_;simp[aa];refine e2 v ?_;simp[aa];refine e2 q ?_;simp
theorem aAm{a:Rat}(h:a≠0):fW (a.den:Nat) a.num=a⁻¹:=by
 rw[Rat.inv_def];rfl
theorem PD{a:Rat}(h:a≠0):a.num≠0:=fun e=>h (Rat.num_eq_zero.1 e)
theorem UA(a:Rat)(b:bE kB a)(c:a≠0):ar prog 102 [.str (bg a)] (.str (bg a⁻¹)):=by
 have g:=vF a b;have e:a.num.natAbs<2^kB:=b.1;have f:((a.den:Nat):Int).natAbs<2^kB:=by rw[bb];exact b.2
 have d:=Co ((a.den:Nat):Int) a.num (PD c) (by have:=lN f;omega) (by have:=lN e;omega);rw[aAm c]at d;refine aI nf GM mix (by simp[f102]) ?_;simp[f102];refine c1 g ?_;simp[aa];refine c2 d ?_;simp
theorem Z2(a b:Rat)(g:bE kB a)(d:bE kB b)(e:b≠0):ar prog 153 [.str (bg a),.str (bg b)] (.str (bg (a/b))):=by
 have f:=UA b d e;have c:=oP a b⁻¹ g (yy d);rw[<-Rat.div_def]at c;refine aI nf FH mix (by simp[f153]) ?_;simp[f153];refine c1 f ?_;simp;refine c2 c ?_;simp
theorem OE(s:List Nat)(g:s.length<=1048576):ar prog 152 [.str s] (.int .i64 (if s=[48]then 0 else if bZ s=true then -1 else 1)):=by
 refine aI nf PS mix (by simp[f152]) ?_
 by_cases b:s=[48]
 ·simp[f152,b]
 ·cases s with
  |nil=>simp[f152,bZ]
  |cons c r=>
   by_cases hc:c=45
   ·simp[f152,bZ,hc]
   ·have e:¬(c:Int)=45:=by omega
    have d:¬(c=48/\r=[]):=fun h=>b (by rw[h.1,h.2])
    by_cases a:c=48
    ·have f:¬r=[]:=fun h=>d ⟨a,h⟩;simp[f152,bZ,a,f]
    ·simp[f152,bZ,hc,e,a]
theorem yP(q:Rat):q.num<0↔q<0:=by
 have h:=D2 q
 by_cases b:q<0
 ·rw[if_pos b]at h;refine⟨fun _=>b,fun _=>?_⟩
  by_cases a:q.num<0
  ·exact a
  ·rw[if_neg a]at h;split at h<;>omega
 ·refine⟨fun a=>?_,fun a=>(b a).elim⟩;rw[if_neg b,if_pos a]at h
  split at h<;>omega
def dK(q:Rat):Int:=if q<0 then -1 else if q=0 then 0 else 1
theorem JI:bg 0=[48]:=by
 have h:bN 0=[48]:=by rw[show(0:Int)=((0:Nat):Int)from rfl,vr,q7]
 rw[bg,if_pos (show(0:Rat).den=1 from rfl)];exact h
theorem JH(q:Rat):bg q=[48]↔q=0:=by
 rw[<-JI];exact⟨fun h=>Bi h,fun h=>by rw[h]⟩
theorem aKH(q:Rat):(if bg q=[48]then(0:Int)else if bZ (bg q)=true then -1 else 1)=dK q:=by
 have e:=(vJ q).1;have c:=JH q;have d:q<0↔q.num<0:=(yP q).symm;rw[e,dK]
 by_cases b:q=0
 ·subst b;rw[if_pos (c.2 rfl),if_neg (by decide),if_pos rfl]
 ·rw[if_neg (fun h=>b (c.1 h))]
  by_cases a:q<0
  ·rw[if_pos (by simpa using d.1 a),if_pos a]
  ·rw[if_neg (by simpa using fun h=>a (d.2 h)),if_neg a,if_neg b]
theorem uh(q:Rat)(h:bE kB q):ar prog 152 [.str (bg q)] (.int .i64 (dK q)):=by
 have:=OE (bg q) (by have:=rk h;omega)
 rwa [aKH]at this
theorem OK{q:Rat}(h:q<0):bg q=45::bg (-q):=by
 have a:q.num<0:=(yP q).2 h;have e1:bN q.num=45::bh q.num.natAbs:=by rw[bN,if_pos a]
 have e2:bN (-q).num=bh q.num.natAbs:=by rw[gc,bN,if_neg (by omega),bv]
 rw[bg,bg,Rat.neg_den,e1,e2]
 split<;>rfl
theorem OG(q:Rat)(h:bE kB q):ar prog 155 [.str (bg q)] (.str (bg (-q))):=by
 have a:=uh q h;have f:=rk h;refine aI nf FF mix (by simp[f155]) ?_
 by_cases b:q<0
 ·have hs:dK q= -1:=by rw[dK,if_pos b]
  rw[hs]at a;have c:=OK b;rw[c]at a f⊢;simp[f155];refine c1 a ?_;simp
 ·by_cases d:q=0
  ·have hs:dK q=0:=by rw[dK,if_neg b,if_pos d]
   rw[hs]at a;have hq:-q=q:=by rw[d];rfl
   rw[hq];simp[f155];refine c1 a ?_;simp;refine c1 a ?_;simp
  ·have hs:dK q=1:=by rw[dK,if_neg b,if_neg d]
   rw[hs]at a;have e:-q<0:=by
    rw[<-yP,gc];have g:¬q.num<0:=fun h=>b ((yP q).1 h);have i:=PD d;omega
   have c:=OK e;rw[Rat.neg_neg]at c;rw[c];have j:(bg q).length+1<9223372036854775808:=by omega
   simp[f155];refine c1 a ?_;simp;refine c1 a ?_;simp;omega
theorem wO(a b:Rat)(f:bE kB a)(d:bE kB b):ar prog 96 [.str (bg a),.str (bg b)] (.str (bg (a-b))):=by
 have e:=OG b d;have c:=xl a (-b) f (zf d);rw[<-Rat.sub_eq_add_neg]at c;refine aI nf RX mix (by simp[f96]) ?_;simp[f96];refine c1 e ?_;simp;refine c2 c ?_;simp
theorem aKG(a b:Rat):dK (a-b)=dC a b:=by
 have d:a-b<0↔a<b:=by
  rw[<-ge,<-ge,<-Rat.le_iff_sub_nonneg]
 have e:a-b=0↔a=b:=by
  constructor
  ·intro h;have f:a-b+b=0+b:=by rw[h]
   rwa [Rat.sub_add_cancel,Rat.zero_add]at f
  ·rintro rfl;exact Rat.sub_self
 rw[dK,dC]
 by_cases h:a<b
 ·rw[if_pos (d.2 h),if_pos h]
 ·rw[if_neg (fun x=>h (d.1 x)),if_neg h]
  by_cases c:a=b
  ·rw[if_pos (e.2 c),if_pos c]
  ·rw[if_neg (fun x=>c (e.1 x)),if_neg c]
theorem qI(a b:Rat)(d:bE (kB/3) a)(e:bE (kB/3) b):ar prog 154 [.str (bg a),.str (bg b)] (.int .i64 (dC a b)):=by
 have f:=wO a b (d.mono (by decide)) (e.mono (by decide));have c:=uh (a-b) ((pI d e).mono (by decide));rw[aKG]at c;refine aI nf FG mix (by simp[f154]) ?_;simp[f154];refine c2 f ?_;simp;refine c1 c ?_;simp
theorem QD{a b:Nat}(h:a<=b):10^a<=10^b:=dq (by decide) h
theorem QC{s:List Nat}{k:Nat}(h:s.length<=k)(a:s.all cr=true):bc s<10^k:=dl (jE _ s rfl a) (QD h)
theorem aJV{x a b:Nat}(hx:x<10^a)(h:a<=9*b):(aB bT x).length<=b:=dO bd b x (dl hx (by
 rw[show bT^b=10^(9*b)by rw[eq];rfl];exact QD h))
theorem Zr(s:List Nat)(D:s.length<=1048576):ar prog 312 [.str s] (.bool (s.all cr)):=by
 refine aI nf IB mix (by simp[f312]) ?_;obtain⟨k,hk,n,o⟩:=zm (fun j=>cr (s[j]?.getD 0)) s.length;have e:∀j(h:j<s.length),s[j]?.getD 0=s[j]:=fun j h=>by rw[cb h];rfl
 have B:s.all cr=decide (k=s.length):=by
  rcases o with h|⟨a,b⟩
  ·rw[h,decide_eq_true rfl,ce];intro x hx;obtain⟨j,A,rfl⟩:=List.getElem_of_mem hx;have:=n j (by omega)
   rwa [e j A]at this
  ·rw[decide_eq_false (by omega)];rw[e k a]at b
   by_cases m:s.all cr=true
   ·have:=ce.1 m _ (ck a);rw[this]at b;cases b
   ·simpa using m
 rw[B];simp[f312];refine lp (α:=Nat) (fun i=>⟨[(3,.p (.int .i64 i)),(0,.p (.str s))],[]⟩)
  (fun i=>i<=k) (fun i=>k-i) 0 (eb _) ?_
 intro i hi;have C:a9.wrap ((i:Int)+1)=(i:Int)+1:=aQ _ (by omega) (by omega)
 by_cases y:i<k
 ·have l:i<s.length:=by omega
  have q:=n i y;rw[e i l]at q;have E:=zG q;generalize d:s[i]=c at*;have f:s[i]?=some c:=by rw[cb l,d]
  have a:¬(c:Int)<48:=by omega
  have b:¬(57:Int)<c:=by omega
  have t:¬c<48:=by omega
  have u:¬57<c:=by omega
  simp[l,d,f,a,b,t,u,C];exact rd (i+1) (show i+1<=k by omega)
 ·have z:i=k:=by omega
  subst z;rcases o with h|⟨a,b⟩
  ·simp[h]
  ·rw[e i a]at b;have r:¬i=s.length:=by omega
   generalize d:s[i]=c at*;have f:s[i]?=some c:=by rw[cb a,d]
   by_cases hc:c<48
   ·have g:(c:Int)<48:=by omega
    simp[a,d,f,hc,g,r]
   ·have v:57<c:=by
     simp only[cr,Bool.and_eq_false_iff,decide_eq_false_iff_not]at b;omega
    have g:¬(c:Int)<48:=by omega
    have w:(57:Int)<c:=by omega
    simp[a,d,f,hc,g,v,w,r]
theorem Lm(s:List Nat)(j:s.length<=1048576):ar prog 267 [.str s] (.bool (dJ s)):=by
 have b:=Zr s j;refine aI nf Gj mix (by simp[f267]) ?_;cases s with
 |nil=>simp[f267,dJ]
 |cons c r=>
  have k:(c:Int)=48↔c=48:=by omega
  by_cases a:r=[]
  ·subst a;have e:dJ [c]=[c].all cr:=by
    rw[dJ]
    by_cases h:c=48
    ·subst h;rfl
    ·simp[h]
   rw[e];simp[f267];refine c1 b ?_;simp
  ·have d:0<r.length:=cx.2 a;have f:¬(r.length:Int)+1=0:=by omega
   have g:(1:Int)<r.length+1:=by omega
   by_cases hc:c=48
   ·have e:dJ (c::r)=false:=by rw[dJ,hc];simp[a]
    rw[e];simp[f267,a,hc,d,f,g]
   ·have i:¬(c:Int)=48:=by omega
    have e:dJ (c::r)=(c::r).all cr:=by rw[dJ];simp[hc]
    rw[e];simp[f267,a,hc,i,d,f,g];refine c1 b ?_;simp
theorem wW(s:List Nat)(hs:jc s):ar prog 207 [.str s] (.int .i64 (b7 s)):=by
 refine aI nf Hw mix (by simp[f207]) ?_;obtain⟨aW,aK⟩:=hs;obtain⟨d,Q⟩:∃d,df s=d:=⟨_,rfl⟩
 obtain⟨neg,y⟩:∃neg,bZ s=neg:=⟨_,rfl⟩
 have aO:d.length<=s.length:=by rw[<-Q];exact(pC s).1
 have R:=v8 d (by omega);have W:(b9 47 d).1=bH s:=by rw[<-Q];rfl
 have U:(b9 47 d).2.1=bP s:=by rw[<-Q];rfl
 have af:(b9 47 d).2.2=eB s:=by rw[<-Q];rfl
 have w:=pR 47 d;have D:=tJ 47 d;rw[W,U,af]at w;rw[W]at R D;rw[U]at D;obtain⟨k,hk⟩:∃k,(bH s).length=k:=⟨_,rfl⟩
 rw[hk]at R;have H:k<=d.length:=by rw[<-hk];exact D.1
 have au:d.take k=bH s:=by
  rcases w with⟨_,E⟩|⟨_,E,_⟩
  ·rw[E,<-hk];simp
  ·rw[<-E,<-hk];simp
 have K:=Lm (bH s) (by omega);have l:=Lm (bP s) (by omega);simp[f207,-bt];rw[bt];simp[-bt];rw[bt];simp[-bt];refine join (fun st=>aS st.env 0=.p (.str s)/\aS st.env 3=.p (.str d)/\st.heap=[]) ?_ ?_
 ·cases ah:neg with
  |false=>
   have aq:s=d:=by rw[<-Q,df,y,ah];rfl
   clear R w hk U W af au K l D H;subst aq;cases s with
   |nil=>simp
   |cons c r=>
    rw[ah]at y;have hc:¬c=45:=fun h=>by rw[h]at y;simp[bZ]at y
    have al:¬(c:Int)=45:=by omega
    simp[hc,al]
  |true=>
   clear R w hk U W af au K l D H;cases s with
   |nil=>simp[bZ]at y;rw[ah]at y;cases y
   |cons c r=>
    have aq:r=d:=by rw[<-Q,df,y,ah];rfl
    rw[ah]at y;have hc:c=45:=by simpa[bZ]using y
    simp[hc,aq]
 rintro⟨aF,aT⟩ ⟨u,e,ai⟩;dsimp only at u e ai;subst ai;have ae:ny s=(dJ (bH s)&&!(neg&&decide (bH s=[48]))&&(!eB s||(dJ (bP s)&&decide (bP s≠[48])&&decide (bP s≠[49])))):=by rw[ny,y]
 have a5:d.length<=1048576:=by omega
 have T:(bH s).all cr=true->(bP s).all cr=true->eB s=true->0<k->d.length<=1000000->ar prog 159 [.str d] (.aE [eG (bc (bH s):Nat),eG (bc (bP s):Nat)]):=fun v M av aA aX=>by
  have aj:bZ d=false/\df d=d:=by
   have aE:bZ d=false:=by
    rcases w with⟨_,E⟩|⟨q1,_⟩
    ·cases V:bH s with
     |nil=>rw[V]at hk;simp at hk;omega
     |cons c r=>
      rw[V]at E v;have:=zG (ce.1 v c (by simp));rw[E,bZ];simp;omega
    ·rw[av]at q1;cases q1
   exact⟨aE,by rw[df,aE];rfl⟩
  have e1:bH d=bH s:=by rw[bH,aj.2,W]
  have e2:bP d=bP s:=by rw[bP,aj.2,U]
  have e3:eB d=true:=by rw[eB,aj.2,af];exact av
  have:=MD d (by rw[e1];exact v) (by rw[e2];exact M) aX;rw[ki,iQ,e1,e2,aj.1,if_pos e3]at this;exact this
 rw[b7];generalize ny s=L at*;generalize bH s=t at*;generalize bP s=f at*;generalize eB s=fr at*;have S:cv k d=t:=au
 by_cases I:dJ t=true
 ·have aA:0<k:=by
   rw[<-hk,cx];intro h;rw[h]at I;cases I
  obtain⟨c,r,hs⟩:∃c r,s=c::r:=by
   cases s with
   |nil=>
    have:d.length<=0:=by simpa using aO
    omega
   |cons c r=>exact⟨c,r,rfl⟩
  have am:c=45↔neg=true:=by rw[<-y,hs];simp[bZ]
  have al:(c:Int)=45↔c=45:=by omega
  rw[I]at K;clear aK aW Q y W U af
  by_cases N:neg=true/\t=[48]
  ·have hf:L=false:=by rw[ae,N.1,N.2];simp
   have aN:=am.2 N.1;rw[if_pos hf];clear w D l T am al;subst hs aN;have V:=N.2;simp[u,e];refine c1 R ?_;simp[u,e,H,S];refine c1 K ?_;simp[u,e,H,S,V]
  ·subst hs;rw[bt];simp[u,e,-bt];refine c1 R ?_;simp[u,e,-bt];refine join (fun st=>aS st.env 3=.p (.str d)/\aS st.env 4=.p (.int .i64 k)/\st.heap=[]) ?_ ?_
   ·by_cases v:c=45
    ·have V:¬t=[48]:=fun h=>N ⟨am.1 v,h⟩;subst v;clear w D l T;simp[u,e,H,S];refine c1 K ?_;simp[u,e,H,S,V]
    ·have aG:¬(c:Int)=45:=by omega
     clear w D l T;simp[u,e,H,S];refine c1 K ?_;simp[u,e,H,S,v,aG]
   clear u e;rintro⟨aF,aT⟩ ⟨e,j,ai⟩;dsimp only at e j ai;subst ai;cases ag:fr with
   |false=>
    have i:k=d.length:=by
     rcases w with⟨q1,_⟩|⟨_,E,_⟩
     ·rw[ag]at q1;cases q1
     ·rw[<-hk,E]
    have aC:¬k<d.length:=by omega
    have aP:f=[]:=by
     rcases w with⟨q1,_⟩|⟨_,_,a2⟩
     ·rw[ag]at q1;cases q1
     ·exact a2
    have hf:L=true:=by
     rw[ae,I,ag];simp
     by_cases v:neg=true
     ·exact .inr fun M=>N ⟨v,M⟩
     ·exact .inl (by simpa using v)
    have X:a9.wrap ((d.length:Int)-k)=0:=by rw[i,Int.sub_self];rfl
    have Y:a9.wrap (-1)= -1:=rfl;rw[hf,hk,aP];clear w D l T
    by_cases G:600<k
    ·have z:¬(k:Int)<=600:=by omega
     have A:¬k<=600:=by omega
     have B:(600:Int)<k:=by omega
     simp[e,j,aC,G,z,A,B]
    ·have z:(k:Int)<=600:=by omega
     have A:k<=600:=by omega
     have B:¬(600:Int)<k:=by omega
     simp[e,j,aC,G,z,A,B,X,Y]
   |true=>
    rw[ag]at ae T;have ap:d=t++47::f:=by
     rcases w with⟨_,E⟩|⟨q1,_⟩
     ·exact E
     ·rw[ag]at q1;cases q1
    have i:k<d.length:=by rw[ap];simp;omega
    have o:d.drop (k+1)=f:=by
     conv=>lhs;rw[ap,<-hk]
     simp
    have a6:d.length=k+1+f.length:=by rw[ap];simp;omega
    have wk:a9.wrap ((k:Int)+1)=(k:Int)+1:=aQ _ (by omega) (by omega);have q:((k:Int)+1).toNat=k+1:=by omega
    have a1:(0:Int)<=k+1:=by omega
    have m:(k:Int)+1<=d.length:=by omega
    have n:k+1<=d.length:=i;clear w D;have ad:L=(dJ f&&decide (f≠[48])&&decide (f≠[49])):=by
     rw[ae,I];have:(neg&&decide (t=[48]))=false:=by
      by_cases v:neg=true
      ·have:¬t=[48]:=fun M=>N ⟨v,M⟩;simp[this]
      ·have:neg=false:=by simpa using v
       rw[this];rfl
     rw[this];simp
    by_cases an:L=true
    ·rw[an]at ad;have aU:¬L=false:=by rw[an];decide
     rw[if_neg aU];have aJ:dJ f=true/\¬f=[48]/\¬f=[49]:=by
      have:=ad.symm;simp only[a8,decide_eq_true_eq]at this;exact⟨this.1.1,this.1.2,this.2⟩
     obtain⟨J,F,C⟩:=aJ;rw[J]at l;rw[hk];have X:a9.wrap ((d.length:Int)-k)=(d.length:Int)-k:=aQ _ (by omega) (by omega);have Y:a9.wrap ((d.length:Int)-k-1)=f.length:=by rw[aQ _ (by omega) (by omega)];omega
     by_cases G:600<k
     ·have z:¬(k:Int)<=600:=by omega
      have A:¬k<=600:=by omega
      have B:(600:Int)<k:=by omega
      simp[e,j,i,wk,q,a1,m,n,o];refine c1 l ?_;simp[e,j,i,wk,q,a1,m,n,o,F,C,G,z,A,B]
     by_cases Z:600<f.length
     ·have z:(k:Int)<=600:=by omega
      have A:k<=600:=by omega
      have B:¬(600:Int)<k:=by omega
      have ab:(600:Int)<f.length:=by omega
      simp[e,j,i,wk,q,a1,m,n,o];refine c1 l ?_;simp[e,j,i,wk,q,a1,m,n,o,F,C,G,z,A,B,X,Y,Z,ab]
     have z:(k:Int)<=600:=by omega
     have A:k<=600:=by omega
     have B:¬(600:Int)<k:=by omega
     have ab:¬(600:Int)<f.length:=by omega
     have P:=T (jY I) (jY J) rfl aA (by omega);have aR:=za J F;have aZ:t.length<=700:=by omega
     have a0:f.length<=700:=by omega
     have aL:bc t<10^700:=QC (s:=t) (k:=700) aZ (jY I);have aM:bc f<10^700:=QC (s:=f) (k:=700) a0 (jY J);have aD:∀x:Nat,x<10^700->(aB bT x).length<=400000:=fun x hx=>dp (aJV (a:=700) (b:=78) hx (by decide)) (by decide);have O:=Mg (bc t) (bc f) (aD _ aL) (aD _ aM);have ay:0<en (bc t) (bc f):=ea _ aR;generalize bc t=a4 at*;generalize bc f=a3 at*;obtain⟨g,ak⟩:∃g,en a4 a3=g:=⟨_,rfl⟩
     simp only[ak]at O ay⊢;have aY:¬(600<k\/600<f.length):=fun h=>by rcases h with h|h;exact G h;exact Z h
     rw[if_neg aY];simp only[eG,bb]at P
     by_cases ao:g=1
     ·subst ao;have ac:aB bT 1=[1]:=nV (by decide) (by decide);simp only[eT,ac]at O P;simp[e,j,i,wk,q,a1,m,n,o];refine c1 l ?_;simp[e,j,i,wk,q,a1,m,n,o,F,C,G,z,A,B,X,Y,Z,ab];refine c1 P ?_;simp[aa];refine c2 O ?_;simp[ak]
     ·by_cases az:g<bT
      ·have ac:aB bT g=[g]:=nV ay az;have aV:¬(g:Int)=1:=by omega
       simp only[eT,ac]at O P;simp[e,j,i,wk,q,a1,m,n,o];refine c1 l ?_;simp[e,j,i,wk,q,a1,m,n,o,F,C,G,z,A,B,X,Y,Z,ab];refine c1 P ?_;simp[aa];refine c2 O ?_;simp[ao,aV,ak]
      ·have ac:¬((aB bT g).length:Int)=1:=by
        intro h;have M:(aB bT g).length=1:=by omega
        have:=cm bd g;rw[M,fd]at this;exact az this
       simp only[eT]at O P;simp[e,j,i,wk,q,a1,m,n,o];refine c1 l ?_;simp[e,j,i,wk,q,a1,m,n,o,F,C,G,z,A,B,X,Y,Z,ab];refine c1 P ?_;simp[aa];refine c2 O ?_;simp[ao,ac,ak]
    ·have ax:L=false:=by simpa using an
     rw[if_pos ax]
     by_cases J:dJ f=true
     ·rw[J]at l
      by_cases F:f=[48]
      ·simp[e,j,i,wk,q,a1,m,n,o];refine c1 l ?_;simp[e,j,i,wk,q,a1,m,n,o,F]
      ·have C:f=[49]:=by
        rw[J]at ad
        by_cases C:f=[49]
        ·exact C
        ·rw[ax]at ad;simp[F,C]at ad
       simp[e,j,i,wk,q,a1,m,n,o];refine c1 l ?_;simp[e,j,i,wk,q,a1,m,n,o,C]
     ·have aH:dJ f=false:=by simpa using J
      rw[aH]at l;simp[e,j,i,wk,q,a1,m,n,o];refine c1 l ?_;simp[e,j,i,wk,q,a1,m,n,o]
 ·have aw:dJ t=false:=by simpa using I
  have hf:L=false:=by rw[ae,aw];rfl
  rw[if_pos hf];rw[aw]at K;simp[u,e];refine c1 R ?_;simp[u,e,H,S];refine c1 K ?_;simp[u,e]
theorem Wa(l:List (List Nat))(f:l.length<=1000000)(hs:∀s∈l,jc s):ar prog 116 [.seq (l.map .str)] (.int .i64 (bG (l.map b7))):=by
 refine aI nf P1 mix (by simp[f116]) ?_;simp[f116];refine lp (α:=Nat) (fun i=>⟨[(3,.p (.int .i64 i)),(0,.p (.seq (l.map .str)))],[]⟩) (fun i=>i<=l.length/\bG ((l.drop i).map b7)=bG (l.map b7)) (fun i=>l.length-i) 0 (by simp) ?_;rintro i ⟨e,a⟩
 by_cases hi:i<l.length
 ·rw[List.drop_eq_getElem_cons hi]at a;have d:=bR (i:=i) (by omega);have hc:=wW l[i] (hs _ (ck hi));obtain⟨s,b⟩:∃s,l[i]=s:=⟨_,rfl⟩
  have c:l[i]?=some s:=by rw[cb hi,b]
  rw[b]at hc a;simp[hi,c,b];refine c1 hc ?_
  by_cases he:b7 s=0
  ·simp[bG,he]at a;simp[he,d];exact rd (i+1) ⟨hi,by simpa using a⟩
  ·simp[bG,he]at a;simp[he,<-a]
 ·have:i=l.length:=by omega
  subst this;simp[bG]at a;simp[<-a]
theorem Jc(p:gS)(a:o7 p):ar prog 44 [gf p] (.int .i64 (eA p)):=by
 have hc:=Wa [p.x,p.y] (by simp) (by intro s hs;simp at hs;rcases hs with rfl|rfl;exact a.1;exact a.2);refine aI nf RE mix (by simp[f44]) ?_;simp[f44,aa];refine cp hc (by simp;exact⟨rfl,rfl⟩) ?_;simp[eA]
theorem JJ(z:Int):47∉bN z:=by
 rw[bN];split
 ·simp only[dg,not_or];exact⟨by decide,Be (rQ _) rfl⟩
 ·exact Be (rQ _) rfl
theorem Bt(q:Rat):(b9 47 (bg q)).1=bN q.num/\(q.den≠1->bg q=bN q.num++47::bh q.den)/\(q.den=1->bg q=bN q.num):=by
 by_cases h:q.den=1
 ·have e:bg q=bN q.num:=by rw[bg,if_pos h]
  refine⟨?_,fun a=>(a h).elim,fun _=>e⟩;rw[e,CE 47 _ (JJ _)]
 ·have e:bg q=bN q.num++47::bh q.den:=by rw[bg,if_neg h]
  refine⟨?_,fun _=>e,fun a=>(h a).elim⟩;rw[e,CZ 47 _ _ (JJ _)]
theorem Z6(q:Rat)(h:bE kB q):ar prog 209 [.str (bg q)] (.str (bN q.num)):=by
 have i:=rk h;obtain⟨e,c,d⟩:=Bt q;have hs:=v8 (bg q) (by omega);rw[e]at hs;have g:(bg q).take (bN q.num).length=bN q.num:=by
  by_cases b:q.den=1
  ·rw[d b];simp
  ·rw[c b];simp
 have f:(bN q.num).length<=(bg q).length:=by
  by_cases b:q.den=1
  ·rw[d b];exact e6 _
  ·rw[c b];simp
 refine aI nf Gu mix (by simp[f209]) ?_;generalize bN q.num=a at*;generalize bg q=s at*;simp[f209];refine c1 hs ?_;simp[g,f]
theorem Z1(q:Rat)(h:bE kB q):ar prog 210 [.str (bg q)] (.str (bh q.den)):=by
 have d:=rk h;obtain⟨g,i,j⟩:=Bt q;have hs:=v8 (bg q) (by omega);rw[g]at hs;refine aI nf Gt mix (by simp[f210]) ?_
 by_cases c:q.den=1
 ·have e:=j c;rw[c,aLb];rw[e]at hs⊢;generalize bN q.num=a at*;simp[f210];refine c1 hs ?_;simp
 ·have e:=i c;rw[e]at hs d⊢;generalize bN q.num=a at*;generalize bh q.den=b at*;simp only[List.length_append,List.length_cons]at d;have l:¬(a.length:Int)=(a.length:Int)+(b.length+1):=by omega
  have wk:a9.wrap ((a.length:Int)+1)=(a.length:Int)+1:=aQ _ (by omega) (by omega);have n:((a.length:Int)+1).toNat=a.length+1:=by omega
  have a1:(0:Int)<=(a.length:Int)+1:=by omega
  have f:(a.length:Int)+1<=(a.length:Int)+(b.length+1):=by omega
  have k:List.drop (a.length+1) (a++47::b)=b:=by simp
  have m:cv (a.length+(b.length+1)) (a++47::b)=a++47::b:=cc (by simp);simp[f210];refine c1 hs ?_;simp[l,wk,n,a1,f,k,m]
theorem ZY(z:Int)(h:(bN z).length<=1000000):ar prog 208 [.str (bN z)] (.str (bh z.natAbs)):=by
 have a:=OE (bN z) (by omega);have g:bZ (bN z)=decide (z<0):=by
  have:=(yK z []).1;rwa [List.append_nil]at this
 have f:bN z=[48]↔z=0:=by
  have e:bN z=bg (z:Rat):=by rw[bg,if_pos (gb z),fw]
  rw[e,JH]
  exact_mod_cast Iff.rfl
 refine aI nf HW mix (by simp[f208]) ?_;rw[g]at a
 by_cases c:z<0
 ·have e:bN z=45::bh z.natAbs:=by rw[bN,if_pos c]
  rw[if_neg (fun x=>by have:=f.1 x;omega),if_pos (by simpa using c)]at a;rw[e]at a⊢;simp[f208];refine c1 a ?_;simp
 ·have e:bN z=bh z.natAbs:=by rw[bN,if_neg c]
  have b:∃v:Int,¬v<0/\ar prog 152 [.str (bN z)] (.int .i64 v):=by
   by_cases d:bN z=[48]
   ·rw[if_pos d]at a;exact⟨0,by omega,a⟩
   ·rw[if_neg d,if_neg (by simpa using c)]at a;exact⟨1,by omega,a⟩
  obtain⟨v,i,b⟩:=b;rw[e]at b⊢;simp[f208];refine c1 b ?_;simp[i]
def fD(s:List Nat)(D:Nat):Bool:=decide (s.length<=2*D+2)&&decide (b7 s=0)&&decide ((bh (aR s).num.natAbs).length<=D)&&decide ((bh (aR s).den).length<=D)
theorem axt{s:List Nat}(h:b7 s=0):bE kB (aR s):=by
 obtain⟨b,c⟩:=GP h;have a:(10:Nat)^mD<=2^kB:=dp (Nn mD) (dq (by decide) (by decide));exact⟨dl b a,dl c a⟩
theorem AD(s:List Nat)(D:Nat)(hs:jc s)(u:D<=100000):ar prog 115 [.str s,.int .i64 D] (.bool (fD s D)):=by
 have g:=wW s hs;have v:=hs.1;refine aI nf P2 mix (by simp[f115]) ?_;have w1:a9.wrap (2*(D:Int))=2*(D:Int):=aQ _ (by omega) (by omega);have h:a9.wrap (2*(D:Int)+2)=2*(D:Int)+2:=aQ _ (by omega) (by omega)
 by_cases m:s.length<=2*D+2
 ·have f:(s.length:Int)<=2*(D:Int)+2:=by omega
  by_cases d:b7 s=0
  ·have l:=axt d;have e:=(ji d).1;rw[d]at g;have k:=Z6 (aR s) l;have o:=Z1 (aR s) l;have q:(bN (aR s).num).length<=1000000:=by
    have:=rk l;obtain⟨_,r,t⟩:=Bt (aR s)
    by_cases p:(aR s).den=1
    ·rw[t p]at this;exact this
    ·rw[r p]at this;simp at this;omega
   have n:=ZY (aR s).num q;rw[e]at k o;have hf:fD s D=(decide ((bh (aR s).num.natAbs).length<=D)&&decide ((bh (aR s).den).length<=D)):=by
    rw[fD,decide_eq_true m,decide_eq_true d];simp
   rw[hf];generalize bh (aR s).num.natAbs=a at*;generalize bh (aR s).den=b at*;generalize bN (aR s).num=c at*
   by_cases i:a.length<=D
   ·have j:(a.length:Int)<=D:=by omega
    simp[f115,w1,h,f];refine c1 g ?_;simp;refine c1 k ?_;simp;refine c1 n ?_;simp[i,j];refine c1 o ?_;simp[i]
   ·have j:¬(a.length:Int)<=D:=by omega
    simp[f115,w1,h,f];refine c1 g ?_;simp;refine c1 k ?_;simp;refine c1 n ?_;simp[i,j]
  ·have hf:fD s D=false:=by rw[fD,decide_eq_false d];simp
   rw[hf];simp[f115,w1,h,f];refine c1 g ?_;simp[d]
 ·have f:¬(s.length:Int)<=2*(D:Int)+2:=by omega
  have hf:fD s D=false:=by rw[fD,decide_eq_false m];simp
  rw[hf];simp[f115,w1,h,f]
structure V2 where
 x:Rat
 y:Rat
def eV(v:V2):PV:=gf ⟨bg v.x,bg v.y⟩
@[simp] theorem aO5(v:V2):aL (eV v)=.agg 31:=rfl
@[simp] theorem aNv(v:V2):bY (eV v)=[.str (bg v.x),.str (bg v.y)]:=rfl
theorem ql(x y:Rat):eV ⟨x,y⟩=.st 31 [.str (bg x),.str (bg y)]:=rfl
def bB(k:Nat)(v:V2):Prop:=bE k v.x/\bE k v.y
theorem bB.mono{k l:Nat}{v:V2}(h:bB k v)(a:k<=l):bB l v:=⟨h.1.mono a,h.2.mono a⟩
def V2.sub(v w:V2):V2:=⟨v.x-w.x,v.y-w.y⟩
def V2.add(v w:V2):V2:=⟨v.x+w.x,v.y+w.y⟩
def V2.mul(v:V2)(k:Rat):V2:=⟨v.x*k,v.y*k⟩
def V2.dot(v w:V2):Rat:=v.x*w.x+v.y*w.y
def V2.c8(v w:V2):Rat:=v.x*w.y-v.y*w.x
theorem gL{k l:Nat}{v w:V2}(h:bB k v)(a:bB l w):bB (k+l+1) (v.sub w):=⟨pI h.1 a.1,pI h.2 a.2⟩
theorem FR{k l:Nat}{v w:V2}(h:bB k v)(a:bB l w):bB (k+l+1) (v.add w):=⟨xb h.1 a.1,xb h.2 a.2⟩
theorem lM{k l:Nat}{v w:V2}(h:bB k v)(a:bB l w):bE (k+l+(k+l)+1) (v.dot w):=xb (fC h.1 a.1) (fC h.2 a.2)
theorem xM{k l:Nat}{v w:V2}(h:bB k v)(a:bB l w):bE (k+l+(k+l)+1) (v.c8 w):=pI (fC h.1 a.2) (fC h.2 a.1)
theorem u3{k l:Nat}{v:V2}{a:Rat}(h:bB k v)(b:bE l a):bB (k+l) (v.mul a):=⟨fC h.1 b,fC h.2 b⟩
def kQ:Nat:=20000
theorem c7{q:Rat}(h:bE kQ q):bE kB q:=h.mono (by decide)
theorem oU(v w:V2)(a:bB kQ v)(b:bB kQ w):ar prog 32 [eV v,eV w] (eV (v.sub w)):=by
 have c:=wO v.x w.x (c7 a.1) (c7 b.1);have d:=wO v.y w.y (c7 a.2) (c7 b.2);refine aI nf Rv mix (by simp[f32]) ?_;rw[V2.sub,ql];simp[f32,aa];refine e2 c ?_;simp[aa];refine e2 d ?_;simp[aa]
theorem DM(v w:V2)(a:bB kQ v)(b:bB kQ w):ar prog 90 [eV v,eV w] (.str (bg (v.dot w))):=by
 have c:=oP v.x w.x (c7 a.1) (c7 b.1);have d:=oP v.y w.y (c7 a.2) (c7 b.2);have e:=xl (v.x*w.x) (v.y*w.y) ((fC a.1 b.1).mono (by decide)) ((fC a.2 b.2).mono (by decide));refine aI nf RU mix (by simp[f90]) ?_;rw[V2.dot];simp[f90,aa];refine e2 c ?_;simp[aa];refine e2 d ?_;simp[aa];refine e2 e ?_;simp
theorem FV(v w:V2)(a:bB kQ v)(b:bB kQ w):ar prog 151 [eV v,eV w] (.str (bg (v.c8 w))):=by
 have c:=oP v.x w.y (c7 a.1) (c7 b.2);have d:=oP v.y w.x (c7 a.2) (c7 b.1);have e:=wO (v.x*w.y) (v.y*w.x) ((fC a.1 b.2).mono (by decide)) ((fC a.2 b.1).mono (by decide));refine aI nf PT mix (by simp[f151]) ?_;rw[V2.c8];simp[f151,aa];refine e2 c ?_;simp[aa];refine e2 d ?_;simp[aa];refine e2 e ?_;simp
theorem yG(v:V2)(a:bB kQ v):ar prog 91 [eV v] (.str (bg (v.dot v))):=by
 refine aI nf RV mix (by simp[f91]) ?_;simp[f91,aa];refine c2 (DM v v a a) ?_;simp
theorem FU(v w:V2)(a:bB kQ v)(b:bB kQ w):ar prog 259 [eV v,eV w] (eV (v.add w)):=by
 have c:=xl v.x w.x (c7 a.1) (c7 b.1);have d:=xl v.y w.y (c7 a.2) (c7 b.2);refine aI nf Pp mix (by simp[f259]) ?_;rw[V2.add,ql];simp[f259,aa];refine e2 c ?_;simp[aa];refine e2 d ?_;simp[aa]
theorem FT(v:V2)(a:Rat)(c:bB kQ v)(b:bE kQ a):ar prog 260 [eV v,.str (bg a)] (eV (v.mul a)):=by
 have d:=oP v.x a (c7 c.1) (c7 b);have e:=oP v.y a (c7 c.2) (c7 b);refine aI nf Gq mix (by simp[f260]) ?_;rw[V2.mul,ql];simp[f260,aa];refine e2 d ?_;simp[aa];refine e2 e ?_;simp[aa]
def iH(r:Int):Rat:=((4*r*r:Int):Rat)
theorem wG{r:Int}(a:0<=r)(b:r<=1000000):0<=4*r*r/\4*r*r<=4000000000000:=by
 have c:=b5 a a;have d:=Int.mul_le_mul b b a (by decide);rw[Int.mul_assoc];omega
theorem yB{r:Int}(a:0<=r)(b:r<=1000000):bE 42 (iH r):=by
 have:=wG a b;exact mF (by omega) (by decide)
theorem ajY(r:Int)(a:0<=r)(b:r<=1000000):ar prog 93 [.int .i64 r] (.str (bg (iH r))):=by
 have e:=wG a b;have c:=wX (4*r*r) (by omega) (by omega);have w1:a9.wrap (4*r)=4*r:=aQ _ (by omega) (by omega);have d:a9.wrap (4*r*r)=4*r*r:=aQ _ (by omega) (by omega);refine aI nf RW mix (by simp[f93]) ?_;rw[iH];simp[f93,w1,d];refine c1 c ?_;simp
structure S3 where
 a:Rat
 b:Rat
 d:Rat
def eS(s:S3):PV:=.st 36 [.str (bg s.a),.str (bg s.b),.str (bg s.d)]
@[simp] theorem aOV(s:S3):aL (eS s)=.agg 36:=rfl
@[simp] theorem aNm(s:S3):bY (eS s)=[.str (bg s.a),.str (bg s.b),.str (bg s.d)]:=rfl
theorem X8:prog.stoodInHeld 32=false:=by kernel_rfl
@[simp] theorem aMS:sF prog 32=true:=by kernel_rfl
def oA(a b c d:List Nat):Bool:=decide (a=c/\b=d)
@[simp] theorem aMT{a b c d:List Nat}:ja prog 9 32 (.st 31 [.str a,.str b]) (.st 31 [.str c,.str d])=some (oA a b c d):=by
 have e:=underlying32;have:((a==c)&&((b==d)&&true))=oA a b c d:=by
  rw[oA,Bool.eq_iff_iff];simp
 rw[<-this];simp[ja,e,X8,mH,aL]
theorem aeT:ar prog 150 [] (eV ⟨0,0⟩):=by
 refine aI nf PU mix (by simp[f150]) ?_;rw[ql,JI];simp[f150,aa]
theorem Mb(p:gS)(D:Nat)(d:o7 p)(c:D<=100000):ar prog 45 [gf p,.int .i64 D] (.bool (fD p.x D&&fD p.y D)):=by
 have a:=AD p.x D d.1 c;have b:=AD p.y D d.2 c;refine aI nf RF mix (by simp[f45]) ?_;obtain⟨x,y⟩:=p;dsimp only at a b⊢;simp only[gf];cases hx:fD x D
 ·rw[hx]at a;simp[f45,aa];refine c2 a ?_;simp
 ·rw[hx]at a;simp[f45,aa];refine c2 a ?_;simp[aa];refine c2 b ?_;simp
def xA(k:Nat)(s:S3):Prop:=bE k s.a/\bE k s.b/\bE k s.d
theorem xA.mono{k l:Nat}{s:S3}(h:xA k s)(a:k<=l):xA l s:=⟨h.1.mono a,h.2.1.mono a,h.2.2.mono a⟩
def S3.add(s t:S3):S3:=⟨s.a+t.a,s.b+t.b,s.d⟩
def S3.mul(s t:S3):S3:=⟨s.a*t.a+s.b*t.b*s.d,s.a*t.b+t.a*s.b,s.d⟩
def S3.times(x:Rat)(s:S3):S3:=⟨x*s.a,x*s.b,s.d⟩
def kS:Nat:=8000
structure P4 where
 x:S3
 y:S3
def Q7(p:P4):PV:=.st 48 [eS p.x,eS p.y]
@[simp] theorem aOQ(p:P4):aL (Q7 p)=.agg 48:=rfl
@[simp] theorem aNh(p:P4):bY (Q7 p)=[eS p.x,eS p.y]:=rfl
def Fg(k:Nat)(p:P4):Prop:=xA k p.x/\xA k p.y
theorem Fg.mono{k l:Nat}{p:P4}(h:Fg k p)(a:k<=l):Fg l p:=⟨h.1.mono a,h.2.mono a⟩
def P4.dot(v:V2)(p:P4):S3:=(S3.times v.x p.x).add (S3.times v.y p.y)
def sg3(a b o:Int):Int:=if 0<=a*b then(if a=0 then b else a)else a*o
def sgS(s:S3):Int:=sg3 (dK s.a) (dK s.b*dK s.d) (dC (s.a*s.a) (s.b*s.b*s.d))
end Go.ah
