import Derived.Test.YtgpphcmkjhklgaaGreatDoorPI
import Derived.Test.YtgpphcmkjhklgaaGreatDoorPH
import Derived.Test.YtgpphcmkjhklgaaGreatDoorPG
/- Parts of a proof. -/
set_option linter.unusedSimpArgs false
set_option linter.unusedVariables false
set_option linter.unusedSectionVars false
open Go.Proofs.Tryz
open Bool renaming cond_eq_ite->bb, and_eq_true->be, false_eq_true->bi, or_eq_true->bk
open Go.IntKind renaming i64->bl
open Int renaming natAbs_natCast->bo, ofNat_natAbs_of_nonpos->bv, mul_ediv_cancel_left->b0, natCast_mul->b1, natCast_nonneg->b2, natAbs_mul->b3, tdiv_eq_ediv_of_nonneg->b4, ofNat_dvd_left->b5, natAbs_neg->cb, natCast_ediv->cc, tmod_eq_emod_of_nonneg->ce, mul_nonneg->ck, mul_neg_of_pos_of_neg->cv, negSucc->cx, natAbs_of_nonneg->cy, natCast_emod->c6, natCast_one->c9, ediv_one->da
open List renaming getElem?_eq_getElem->db, all_eq_true->dg, take_of_length_le->dk, length_take->dl, getElem_mem->dp, take->dq, length_pos_iff->dz, length_drop->ea, length->eb, getElem_of_eq->ec, take_length->ed, take_take->ee, mem_cons->ei, map_take->ej
open Nat renaming eq_of_beq_eq_true->em, beq->en, le_trans->eo, lt_of_lt_of_le->eq, pow_le_pow_right->ew, gcd_pos_of_pos_right->e6, mul_ne_zero->e7, gcd->e8, blt->e9, lt_of_le_of_lt->fb, blt_eq->fd, zero_le->fl, gcd_dvd_left->fm, pow_succ->fv, lt_or_ge->fH, mul_lt_mul''->gb, gcd_le_right->gc, div_one->ge, div_le_self->gg, div_div_eq_div_mul->gi, div_lt_iff_lt_mul->gj, pow_mul->gm, pow_add->gt, div_pos->gx, min_eq_left->gy, pow_zero->g0, pow_pos->g1, pow_one->g2, le_refl->g3
open Option.some renaming injEq->g4
open Rat renaming divInt->g5, sub_add_cancel->g6, divInt_mul_divInt->g7, zero_add->g8, div_def->g9, divInt_add_divInt->ha, add_lt_add_right->hb, neg_divInt_neg->hd, neg_divInt->hg, inv_divInt->hj, sub_self->hl, neg_num->hm, not_le->hn
namespace Go.aw
open Go.Proofs
set_option maxHeartbeats 4000000
set_option maxRecDepth 100000
theorem Tz{s:List Nat}{i:Nat}(h:i<s.length):aU (s.take (i+1))=aU (s.take i)*10+(s[i]-48):=by
 rw[List.take_succ_eq_append_getElem h,wY]
theorem ui{s:List Nat}{p:Nat->Bool}(h:s.all p=true)(i:Nat):(s.take i).all p=true:=by
 rw[dg]at h⊢;intro x hx;exact h x (List.mem_of_mem_take hx)
theorem JR{s:List Nat}{p:Nat->Bool}(h:s.all p=true)(i:Nat):(s.drop i).all p=true:=by
 rw[dg]at h⊢;intro x hx;exact h x (List.mem_of_mem_drop hx)
theorem xR{c:Nat}(h:b6 c=true):48<=c/\c<=57:=by
 simpa[b6]using h
theorem xI(s:List Nat)(e:s.all b6=true)(B:s.length<=18):az prog 262 [.str s] (.int .i64 (aU s:Nat)):=by
 refine aL nf DS mix (by simp[f262]) ?_;obtain⟨L,g⟩:∃L,L=s.length:=⟨_,rfl⟩
 have k:aU (s.take L)=aU s:=by rw[g,ed]
 rw[<-k];obtain⟨v,b⟩:∃v:Nat->Nat,∀i,aU (s.take i)=v i:=⟨_,fun _=>rfl⟩
 have o:v 0=0:=by rw[<-b];rfl
 have q:∀i(h:i<s.length),v (i+1)=v i*10+(s[i]-48):=fun i h=>by rw[<-b,<-b,Tz h]
 have f:∀i,i<=L->v i<10^i:=fun i hi=>by
  rw[<-b];exact iX i _ (by rw[dl];omega) (ui e i)
 rw[b];simp[f262];refine lp (α:=Nat) (fun i=>⟨[(4,.p (.int .i64 i)),(3,.p (.int .i64 (v i:Nat))),(0,.p (.str s))],[]⟩)
  (fun i=>i<=L) (fun i=>L-i) 0 (fl _) ?_ (he:=by simp[o])
 intro i hi
 by_cases m:i<L
 ·have a:i<s.length:=by omega
  have j:=f i hi;have A:=f (i+1) m;have hc:=xR (dg.1 e s[i] (dp a));have hs:=q i a;have n:10^i<=10^17:=ew (by decide) (by omega);have z:v i<100000000000000000:=eq j (by exact n);generalize d:s[i]=c at*;generalize C:v i=x at*;have r:bl.wrap (10*(x:Int))=10*(x:Int):=aM _ (by omega) (by omega);have t:bl.wrap (10*(x:Int)+c)=10*(x:Int)+c:=aM _ (by omega) (by omega);have u:bl.wrap (10*(x:Int)+c-48)=(v (i+1):Nat):=by rw[hs,aM _ (by omega) (by omega)];omega
  have w:bl.wrap ((i:Int)+1)=(i:Int)+1:=aM _ (by omega) (by omega);have y:bl.wrap (c:Int)=c:=aM _ (by omega) (by omega);have l:s[i]?=some c:=by rw[db a,d]
  simp[a,d,l,r,t,u,w,y];exact rd (i+1) (show i+1<=L by omega)
 ·have a:¬i<s.length:=by omega
  have:i=L:=by omega
  subst this;simp[a]
theorem KA(c:Nat):∀s:List Nat,c∉(bS c s).1
 |[]=>by simp[bS]
 |x::r=>by
  rw[bS]
  split
  ·simp
  ·rename_i h;simp only[ei,not_or];exact⟨fun e=>h e.symm,KA c r⟩
theorem AO(s:List Nat)(x:s.length<=1048576):az prog 98 [.str s] (.int .i64 ((bS 47 s).1.length:Nat)):=by
 refine aL nf Od mix (by simp[f98]) ?_;obtain⟨k,hk⟩:∃k,(bS 47 s).1.length=k:=⟨_,rfl⟩
 have t:=KA 47 s;have w:k<=s.length:=by rw[<-hk];exact(oA 47 s).1
 have n:∀j(h:j<s.length),j<k->¬s[j]=47:=by
  intro j h v e;apply t;rcases oJ 47 s with⟨_,b⟩|⟨_,b,_⟩
  ·have:s[j]=(bS 47 s).1[j]'(by omega):=by
    conv=>lhs;rw[ec b]
    rw[List.getElem_append_left]
   have d:(bS 47 s).1[j]'(by omega)∈(bS 47 s).1:=dp _;rw[<-this,e]at d;exact d
  ·rw[b];have d:s[j]∈s:=dp _
   rwa [e]at d
 have b:∀(h:k<s.length),s[k]=47:=by
  intro h;rcases oJ 47 s with⟨_,g⟩|⟨_,g,_⟩
  ·rw[ec g,List.getElem_append_right (by omega)];simp[hk]
  ·rw[g]at hk;omega
 rw[hk];simp[f98];refine lp (α:=Nat) (fun i=>⟨[(3,.p (.int .i64 i)),(0,.p (.str s))],[]⟩)
  (fun i=>i<=k) (fun i=>k-i) 0 (fl _) ?_
 intro i hi;have u:bl.wrap ((i:Int)+1)=(i:Int)+1:=aM _ (by omega) (by omega)
 by_cases q:i<k
 ·have a:i<s.length:=by omega
  have f:=n i a q;generalize m:s[i]=c at*;have l:s[i]?=some c:=by rw[db a,m]
  have o:¬(c:Int)=47:=by omega
  simp[a,m,l,o,f,u];exact rd (i+1) (show i+1<=k by omega)
 ·have r:i=k:=by omega
  subst r
  by_cases a:i<s.length
  ·have f:=b a;have l:s[i]?=some 47:=by rw[db a,f]
   simp[a,f,l]
  ·have:i=s.length:=by omega
   simp[a,this]
theorem K3(n:Int)(M:-9223372036854775808<=n)(O:n<=9223372036854775807):az prog 180 [.int .i64 n] (eG n):=by
 refine aL nf Em mix (by simp[f180]) ?_;obtain⟨N,P⟩:∃N,n.natAbs=N:=⟨_,rfl⟩
 have D:N<bT^3:=by
  have:bT^3=1000000000000000000000000000:=by decide
  omega
 obtain⟨g,a⟩:∃g:Nat->Nat,∀i,N/bT^i=g i:=⟨_,fun _=>rfl⟩
 have F:g 0=N:=by rw[<-a,g0,ge]
 have H:∀i,g (i+1)=g i/bT:=fun i=>by rw[<-a,<-a,gi,fv]
 have A:∀i,ae bT N i=g i% bT:=fun i=>by rw[<-a];rfl
 have G:g 3=0:=by rw[<-a,Nat.div_eq_of_lt D]
 have k:∀i,g i<=N:=fun i=>by rw[<-a];exact gg _ _
 have y:∀i,i<=3->g i=0->az prog 256 [.bool (decide (n<0)),.seq (iP (row bT i N))] (eG n):=fun i I hi=>by
  have h:=Bb (decide (n<0)) (row bT i N) N (ja aV (by
   rw[<-a]at hi;rcases fH N (bT^i)with h|h
   ·exact h
   ·have:=gx h (g1 (show 0<bT by decide));omega)) (by simp[row];omega)
  have e:(if decide (n<0)=true then -(N:Int)else N)=n:=by
   by_cases c:n<0
   ·simp[c];omega
   ·simp[c];omega
  rwa [e]at h
 obtain⟨m,f⟩:∃m:Nat->Int,∀i,(if n<0 then -(g i:Int)else g i)=m i:=⟨_,fun _=>rfl⟩
 have J:m 0=n:=by rw[<-f,F];split<;>omega
 simp only[eG]at y⊢;simp[f180];refine lp (α:=Nat) (fun i=>⟨[(0,.p (.int .i64 (m i))),(2,.ptr 0 []),(3,.sl 1 i 1 0 i),(4,.p (.bool (decide (n<0))))],[.box false (.p (.st 166 [.bool false,.aO])),.arr .grow i 1 (dQ i N)]⟩)
  (fun i=>i<=3) (fun i=>3-i) 0 (fl _) ?_ (he:=by simp[J,dQ]) (hh:=by simp[dQ])
 intro i hi;have Q:bT=1000000000:=rfl;have L:=Nat.mod_lt (g i) (show 0<bT by decide);have R:=k i;have E:=Nat.div_add_mod (g i) bT;have u:g i% bT=ae bT N i:=(A i).symm
 by_cases d:g i=0
 ·have b:m i=0:=by rw[<-f,d];split<;>rfl
  have hs:=y i hi d;rcases i with _|i
  ·simp[b];refine cp hs (by simp[dQ];first|exact⟨rfl,rfl⟩|rfl) ?_ (h1:=by simp[iP,row]);simp[ad]
  ·have j:¬dQ (i+1) N=[]:=by intro h;have:=congrArg eb h;rw[ic]at this;simp at this
   simp[b];refine cp hs (by simp[ic,J0,j];first|exact⟨rfl,rfl⟩|rfl) ?_ (h1:=by simp[iP,row,ej,dk]);simp[ad]
 ·have I:i<3:=by
   rcases fH i 3 with h|h
   ·exact h
   ·rw[show i=3 by omega]at d;exact(d G).elim
  have z:=H i;have K:=A i;have l:=pM i N;have x:dq i (dQ i N)=dQ i N:=dk (by rw[ic];exact g3 _);rw[K]at l;obtain⟨r,B⟩:∃r,g i% bT=r:=⟨_,rfl⟩
  rw[B]at l L E;have u:=B.symm
  by_cases c:n<0
  ·have b:m i= -(g i:Int):=by rw[<-f,if_pos c]
   have o:m (i+1)= -(g (i+1):Int):=by rw[<-f,if_pos c]
   have j:¬(g i:Int)=0:=by omega
   have s:((g i:Nat):Int).tmod 1000000000=r:=by rw[u,ce (b2 _),c6];rfl
   have q:((g i:Nat):Int).tdiv 1000000000=(g (i+1):Nat):=by rw[z,b4 (b2 _),cc (g i)];rfl
   have wr:bl.wrap (r:Int)=r:=aM _ (by omega) (by omega);have C:bl.wrap (-(r:Int))= -r:=aM _ (by omega) (by omega);have t:bl.wrap (-(g (i+1):Int))= -(g (i+1):Nat):=aM _ (by have:=k (i+1);omega) (by have:=k (i+1);omega)
   by_cases v:r=0
   ·simp[b,d,j,s,q,wr,C,t,v,x,ic];refine⟨by simp only[cM];omega,?_⟩;exact rd (i+1) (show i+1<=3 by omega) (he:=by simp[o]) (hh:=by simp[l,v])
   ·have w:0<r:=by omega
    simp[b,d,j,s,q,wr,C,t,v,w,x,ic];refine⟨by simp only[cM];omega,?_⟩;exact rd (i+1) (show i+1<=3 by omega) (he:=by simp[o]) (hh:=by simp[l])
  ·have b:m i=(g i:Int):=by rw[<-f,if_neg c]
   have o:m (i+1)=(g (i+1):Int):=by rw[<-f,if_neg c]
   have j:¬(g i:Int)=0:=by omega
   have s:((g i:Nat):Int).tmod 1000000000=r:=by rw[u,ce (b2 _),c6];rfl
   have q:((g i:Nat):Int).tdiv 1000000000=(g (i+1):Nat):=by rw[z,b4 (b2 _),cc (g i)];rfl
   have wr:bl.wrap (r:Int)=r:=aM _ (by omega) (by omega);have t:bl.wrap (g (i+1):Int)=(g (i+1):Nat):=aM _ (by have:=k (i+1);omega) (by have:=k (i+1);omega);have w:¬(r:Int)<0:=by omega
   simp[b,d,j,s,q,wr,t,w,x,ic];refine⟨by simp only[cM];omega,?_⟩;exact rd (i+1) (show i+1<=3 by omega) (he:=by simp[o]) (hh:=by simp[l])
theorem G3{d:List Nat}(c:d.all b6=true){L i:Nat}(f:L=d.length)(h:9*(i+1)<=L):
 aU (d.take (L-9*(i+1)))=aU (d.take (L-9*i))/10^9/\aU ((d.take (L-9*i)).drop (L-9*(i+1)))=aU (d.take (L-9*i))% 10^9:=by
 have e:=List.take_append_drop (L-9*(i+1)) (d.take (L-9*i));rw[ee,gy (by omega)]at e;have a:=IH (d.take (L-9*(i+1))) ((d.take (L-9*i)).drop (L-9*(i+1)));rw[e]at a;have b:((d.take (L-9*i)).drop (L-9*(i+1))).length=9:=by rw[ea,dl];omega
 rw[b]at a;have g:=iX 9 _ b (JR (ui c _) _);generalize aU ((d.take (L-9*i)).drop (L-9*(i+1)))=y at*;generalize aU (d.take (L-9*(i+1)))=x at*;rw[a];omega
theorem Bc(s:List Nat)(k:(cG s).all b6=true)(J:s.length<=1000000):az prog 187 [.str s] (eG (if bQ s=true then -(aU (cG s):Int)else aU (cG s))):=by
 refine aL nf Ef mix (by simp[f187]) ?_;obtain⟨d,v⟩:∃d,cG s=d:=⟨_,rfl⟩
 obtain⟨neg,f⟩:∃neg,bQ s=neg:=⟨_,rfl⟩
 obtain⟨N,F⟩:∃N,aU d=N:=⟨_,rfl⟩
 have ah:d.length<=1000000:=by rw[<-v];exact eo (oh s).1 J
 rw[v]at k⊢;rw[f,F];have ai:=J;simp[f187,-bg];rw[bg];simp[-bg];refine join (fun st=>aK st.env 0=.p (.str s)/\aK st.env 2=.ptr 0 []/\aK st.env 3=.p (.bool neg)/\st.heap=[.box false (.p (.st 166 [.bool false,.aO]))]) ?_ ?_
 ·cases s with
  |nil=>simp[<-f,bQ]
  |cons c r=>
   by_cases hc:c=45
   ·simp[<-f,bQ,hc]
   ·have T:¬(c:Int)=45:=by omega
    simp[<-f,bQ,hc,T]
 rintro⟨S,U⟩ ⟨a,b,e,n⟩;dsimp only at a b e n;subst n;refine join (fun st=>aK st.env 0=.p (.str d)/\aK st.env 2=.ptr 0 []/\aK st.env 3=.p (.bool neg)/\st.heap=[.box false (.p (.st 166 [.bool false,.aO]))]) ?_ ?_
 ·cases neg with
  |false=>
   have D:s=d:=by rw[<-v,cG,f];rfl
   simp[a,b,e,D]
  |true=>
   cases s with
   |nil=>simp[bQ]at f
   |cons c r=>
    have D:r=d:=by rw[<-v,cG,f];rfl
    simp[a,b,e,D]
 clear a b e;rintro⟨S,U⟩ ⟨a,b,e,n⟩;dsimp only at a b e n;subst n;obtain⟨L,u⟩:∃L,L=d.length:=⟨_,rfl⟩
 obtain⟨g,l⟩:∃g:Nat->Nat,∀i,N/bT^i=g i:=⟨_,fun _=>rfl⟩
 have B:∀i,9*i<=L->aU (d.take (L-9*i))=g i:=by
  intro i
  induction i with
  |zero=>intro _;rw[Nat.mul_zero,Nat.sub_zero,u,ed,F,<-l,g0,ge]
  |succ i ac=>
   intro h;rw[(G3 k u h).1,ac (by omega),<-l,<-l,gi,fv];rfl
 have V:∀i,9*(i+1)<=L->aU ((d.take (L-9*i)).drop (L-9*(i+1)))=ae bT N i:=fun i h=>by
  rw[(G3 k u h).2,B i (by omega),<-l];rfl
 have ab:∀i,9*(i+1)<=L->az prog 262 [.str ((d.take (L-9*i)).drop (L-9*(i+1)))] (.int .i64 (ae bT N i:Nat)):=fun i h=>by
  rw[<-V i h];exact xI _ (JR (ui k _) _) (by rw[ea,dl];omega)
 have I:∀i,9*i<=L->L<=9*i+9->g i=ae bT N i/\N<bT^(i+1):=fun i j q=>by
  have H:=iX _ (d.take (L-9*i)) rfl (ui k _);rw[B i j]at H;have y:g i<bT:=eq H (by
   rw[show bT=10^9 from rfl];exact ew (by decide) (by rw[dl];omega))
  refine⟨by rw[ae,l,Nat.mod_eq_of_lt y],?_⟩;rw[<-l,gj (g1 (by decide))]at y;rw[fv,Nat.mul_comm];exact y
 have W:∀i,9*i<=L->L<=9*i+9->az prog 262 [.str (d.take (L-9*i))] (.int .i64 (ae bT N i:Nat)):=fun i j q=>by
  rw[<-(I i j q).1,<-B i j];exact xI _ (ui k _) (by rw[dl];omega)
 have G:∀i,9*i<=L->L<=9*i+9->az prog 256 [.bool neg,.seq (iP (row bT (i+1) N))] (eG (if neg=true then -(N:Int)else N)):=fun i j q=>
  Bb neg (row bT (i+1) N) N (ja aV (I i j q).2) (by simp[row];omega)
 generalize (if neg=true then -(N:Int)else N)=z at*;simp only[eG]at G⊢;rw[bg];simp[a,b,e,-bg];rw[bg];simp[a,b,e];refine lp (α:=Nat) (fun i=>⟨[(0,.p (.str (d.take (L-9*i)))),(2,.ptr 0 []),(3,.p (.bool neg)),(4,.sl 1 i 1 0 i)],[.box false (.p (.st 166 [.bool false,.aO])),.arr .grow i 1 (dQ i N)]⟩)
  (fun i=>9*i<=L) (fun i=>L-i) 0 (fl _) ?_ (he:=by simp[a,b,e,dQ,u]) (hh:=by simp[dQ])
 intro i hi;have x:(d.take (L-9*i)).length=L-9*i:=by rw[dl];omega
 have o:=ab i;have w:=W i hi;have E:(d.take (L-9*i)).take (L-9*(i+1))=d.take (L-9*(i+1)):=by rw[ee,gy (by omega)]
 rw[show L-9*(i+1)=L-9*i-9 by omega]at o E;obtain⟨m,C⟩:∃m,m=L-9*i:=⟨_,rfl⟩
 rw[<-C]at x o w E;have O:=pM i N;have P:dq i (dQ i N)=dQ i N:=dk (by rw[ic];exact g3 _);have K:i+1<=cM:=by simp only[cM];omega
 by_cases af:9<m
 ·have o:=o (by omega);have Q:bl.wrap ((m:Int)-9)=(m:Int)-9:=aM _ (by omega) (by omega);have R:((m:Int)-9).toNat=m-9:=by omega
  have M:(9:Int)<=m:=by omega
  have Z:9*(i+1)<=L:=by omega
  rw[<-C];generalize ag:dq m d=t at*;have aa:dq m t=t:=dk (by omega);have A:(9:Int)<m:=by omega
  have X:m-9=L-9*(i+1):=by omega
  simp[x,A,Q,R,M,aa];refine c1 o ?_;simp[P,ic,K,<-O,x,Q,R,M,E];exact rd (i+1) Z (he:=by simp[X])
 ·have w:=w (by omega);have hs:=G i hi (by omega);rw[<-C];generalize dq m d=t at*;have A:¬(9:Int)<m:=by omega
  simp[x,A];refine c1 w ?_;simp[P,ic,K,<-O];have Y:¬dQ (i+1) N=[]:=by intro h;have:=congrArg eb h;rw[ic]at this;simp at this
  refine cp hs (by simp[ic,J0,Y];first|exact⟨rfl,rfl⟩|rfl) ?_ (h1:=by simp[iP,row,ej,dk]);simp[ad]
def jr(s:List Nat):Int:=if bQ s=true then -(aU (bA s):Int)else aU (bA s)
def ig(s:List Nat):Nat:=if dO s=true then aU (bJ s)else 1
theorem Js(s:List Nat)(q:(bA s).all b6=true)(l:(bJ s).all b6=true)(J:s.length<=1000000):az prog 100 [.str s] (.aE [eG (jr s),eG (ig s:Nat)]):=by
 refine aL nf D7 mix (by simp[f100]) ?_;have e:=AO s (by omega);obtain⟨L,f,h,D⟩:=Iv s;have I:=oA 47 s;have C:=K3 1 (by decide) (by decide);rcases oJ 47 s with⟨q1,b⟩|⟨q1,b,N⟩
 ·have a:=Bc (bS 47 s).1 (by rw[f];exact q) (by omega);rw[L,f]at a;have d:=Bc (bS 47 s).2.1 (by
   rw[h];rw[dg]at l⊢;intro x hx;exact l x ((oh _).2 x hx)) (by omega)
  have K:bQ (bJ s)=false:=by
   rw[bQ];cases g:bJ s with
   |nil=>simp
   |cons c r=>
    have:=xR (dg.1 l c (by rw[g];simp));simp;omega
  rw[h,cG,K]at d;have m:dO s=true:=by rw[<-D];exact q1
  have nJ:jr s=if bQ s=true then -(aU (bA s):Int)else aU (bA s):=rfl
  have j:ig s=aU (bJ s):=by rw[ig,if_pos m]
  rw[<-nJ]at a;simp only[bi,if_false]at d;rw[<-j]at d;generalize M:jr s=z at*;generalize ig s=dn at*;obtain⟨i,o⟩:∃i,(bS 47 s).1=i:=⟨_,rfl⟩
  obtain⟨E,p⟩:∃E,(bS 47 s).2.1=E:=⟨_,rfl⟩
  rw[o,p]at b;rw[o]at e a;rw[p]at h;obtain⟨k,n⟩:∃k,i.length=k:=⟨_,rfl⟩
  rw[n]at e;have hk:k<s.length:=by rw[b];simp;omega
  have B:s.take k=i:=by rw[b,<-n];simp
  have g:s.drop (k+1)=bJ s:=by
   rw[<-h]
   conv=>lhs;rw[b,<-n]
   simp
  clear I b o p;have G:bl.wrap ((k:Int)+1)=(k:Int)+1:=aM _ (by omega) (by omega);have F:((k:Int)+1).toNat=k+1:=by omega
  have y:¬(k:Int)=s.length:=by omega
  have u:k+1<=s.length:=hk;have w:k<=s.length:=by omega
  have t:(0:Int)<=k+1:=by omega
  have v:(k:Int)+1<=s.length:=by omega
  simp only[eG]at a d⊢;simp[f100];refine c1 e ?_;simp[y,G,F,B,g,u,w,t,v];refine e1 a ?_;simp[y,G,F,B,g,u,w,t,v];refine e1 d ?_;simp[ad]
 ·have a:=Bc s (by
   have A:=f;rw[b]at A;rw[A];exact q) J
  have m:dO s=false:=by rw[<-D];exact q1
  have H:cG s=bA s:=by rw[b]at f;exact f
  have nJ:jr s=if bQ s=true then -(aU (bA s):Int)else aU (bA s):=rfl
  have j:ig s=1:=by rw[ig,m];rfl
  rw[H,<-nJ]at a;rw[j];rw[b]at e;generalize jr s=z at*;simp only[eG]at a C⊢;simp[f100];refine c1 e ?_;simp;refine c1 a ?_;simp;refine c1 C ?_;simp[ad]
theorem G4(n:Nat):(bm n).length<=9*(an bT n).length+1:=by
 rcases Nat.eq_zero_or_pos n with h|h
 ·subst h;rw[pJ];simp
 ·have b:0<(an bT n).length:=by rw[dz,Ne,ug];omega
  have a:=bZ aV n;rw[show bT^(an bT n).length=10^(9*(an bT n).length)by rw[gm];rfl]at a;exact eo (tV a (by omega)) (by omega)
def mG(n d:Int):Rat:=g5 n d
theorem GN(n g:Nat):(an bT (n/g)).length<=(an bT n).length:=
 dB aV _ _ (fb (gg n g) (bZ aV n))
theorem SP(n d:Nat)(a:0<d):(an bT (e8 n d)).length<=(an bT d).length:=
 dB aV _ _ (fb (gc n a) (bZ aV d))
theorem F7(n d:Int)(L:d≠0)(s:(an bT n.natAbs).length<=400000)(j:(an bT d.natAbs).length<=400000):az prog 179 [eG n,eG d] (.str (bH (mG n d))):=by
 refine aL nf En mix (by simp[f179]) ?_;simp[f179,-bg,ad];rw[bg];simp[-bg,ad];refine join (fun st=>∃(e:Int)(d':Nat),0<d'/\(an bT e.natAbs).length<=400000/\(an bT d').length<=400000/\mG e d'=mG n d/\aK st.env 2=.ptr 0 []/\aK st.env 3=.ptr 1 []/\st.heap=[.box false (.p (eG e)),.box false (.p (eG (d':Nat)))]) ?_ ?_
 ·have P:=K6 n s;have O:=K6 d j
  by_cases h:d<0
  ·simp[h,ad];refine e1 P ?_;simp[ad];refine e1 O ?_;simp[ad];refine⟨by repeat' first|rfl|apply And.intro,?_⟩;refine⟨-n,d.natAbs,by omega,by rw[cb];exact s,j,?_,rfl,?_⟩
   ·rw[bv (by omega)];exact hd _ _
   ·rw[bv (by omega)]
  ·have A:((d.natAbs:Nat):Int)=d:=cy (by omega);simp[h,ad];exact⟨n,d.natAbs,by omega,s,j,by rw[A],rfl,by rw[A]⟩
 rintro⟨T,U⟩ ⟨e,d',k1,k2,k3,k4,l,m,D⟩;dsimp only at l m D;subst D;rw[<-k4,show mG e d'=g5 e d' from rfl];clear k4 s j L;obtain⟨u,v⟩:=lj (n:=e) (show d'≠0 by omega);obtain⟨g,k⟩:∃g,e8 e.natAbs d'=g:=⟨_,rfl⟩
 have r:0<g:=by rw[<-k];exact e6 _ k1
 have B:(an bT g).length<=400000:=by rw[<-k];exact eo (SP _ _ k1) k3
 rw[k]at u v;have y:=I6 e.natAbs d' k2 k3;rw[k]at y;have I:=Cw e.natAbs g r k2 B;have J:=Cw d' g r k3 B;have Y:(an bT (e.natAbs/g)).length<=400000:=eo (GN _ _) k2;have Z:(an bT (d'/g)).length<=400000:=eo (GN _ _) k3;have w:=pE (decide (e<0)) (e.natAbs/g) (by omega);have f:=pE false (d'/g) (by omega);have t:(if decide (e<0)=true then -((e.natAbs/g:Nat):Int)else((e.natAbs/g:Nat):Int))=(g5 e d').num:=by
  rw[u];have M:(g:Int)∣e:=by rw[<-k];exact b5.2 (fm _ _)
  obtain⟨c,hc⟩:=M;have N:(g:Int)≠0:=by omega
  rw[hc,b0 _ N,b3,bo,Nat.mul_div_cancel_left _ r]
  by_cases K:c<0
  ·have:(g:Int)*c<0:=cv (by omega) K;simp[this];omega
  ·have:¬(g:Int)*c<0:=by
    have:=ck (a:=(g:Int)) (b:=c) (by omega) (by omega);omega
   simp[this];omega
 rw[t]at w;simp only[bi,if_false]at f;have z:=BT (g5 e d').num (by
  rw[<-t];split
  ·rw[cb,bo];omega
  ·rw[bo];omega)
 have i:=BT ((d'/g:Nat):Int) (by rw[bo];omega);rw[tW]at i;have Q:0<d'/g:=by
  refine gx ?_ r;rw[<-k];exact gc _ k1
 have V:(cE (g5 e d').num).length<=3600002:=by
  refine eo (Bz _) ?_;have h:=G4 (g5 e d').num.natAbs;have:(g5 e d').num.natAbs=e.natAbs/g:=by
   rw[<-t];split
   ·rw[cb,bo]
   ·rw[bo]
  rw[this]at h⊢;omega
 have W:(bm (d'/g)).length<=3600001:=by
  have h:=G4 (d'/g);omega
 have F:bH (g5 e d')=if d'/g=1 then cE (g5 e d').num else cE (g5 e d').num++47::bm (d'/g):=by rw[bH,v]
 rw[F];clear F t u v;generalize (g5 e d').num=G at*;generalize aa:d'/g=q at*;simp only[eG,bo]at w f z i⊢;simp[l,m,ad];refine c2 y ?_;simp[l,m,ad];refine c2 I ?_;simp[l,m,ad];refine c2 J ?_;simp[l,m,ad];refine c2 w ?_;simp[l,m,ad];refine c1 z ?_;have R:∀h:q=1,an bT q=[1]:=fun h=>by rw[h];exact mZ (by decide) (by decide)
 by_cases o:q=1
 ·have x:=R o;simp[o,eT,mZ (show 0<1 by decide) (show 1<bT by decide)]
 ·have C:(cE G).length+1<9223372036854775808:=by omega
  have X:(cE G).length+((bm q).length+1)<9223372036854775808:=by omega
  by_cases E:q<bT
  ·have x:=mZ Q E;have S:¬(q:Int)=1:=by omega
   simp[o,eT,x,S];refine⟨C,?_⟩;simp only[eT,x,List.map_cons,List.map_nil]at f i;refine c2 f ?_;simp;refine c1 i ?_;simp;omega
  ·have j:¬((an bT q).length:Int)=1:=by
    intro h;have H:(an bT q).length=1:=by omega
    have:=bZ aV q;rw[H,g2]at this;exact E this
   simp[o,eT,j];refine⟨C,?_⟩;simp only[eT]at f i;refine c2 f ?_;simp;refine c1 i ?_;simp;omega
theorem SV{n:Int}{g:Nat}(a:0<g)(h:g∣n.natAbs):n.tdiv g=n/g:=by
 obtain⟨c,hc⟩:=b5.2 h;subst hc;rw[Int.mul_tdiv_cancel_left _ (by omega),b0 _ (by omega)]
theorem MG(n d:Int)(O:d≠0)(U:n.natAbs<=4000000000000000000)(P:d.natAbs<=4000000000000000000):az prog 87 [.int .i64 n,.int .i64 d] (.str (bH (mG n d))):=by
 refine aL nf N9 mix (by simp[f87]) ?_;have f:¬n< -4000000000000000000:=by omega
 have i:¬4000000000000000000<n:=by omega
 have j:¬d< -4000000000000000000:=by omega
 have k:¬4000000000000000000<d:=by omega
 simp[f87,f,i,j,k,-bg];rw[bg];simp[f,i,j,k,-bg];rw[bg,bg];simp[f,i,j,k,-bg];refine join (fun st=>∃(b:Int)(d':Nat),0<d'/\b.natAbs<=4000000000000000000/\d'<=4000000000000000000/\mG b d'=mG n d/\aK st.env 0=.p (.int .i64 b)/\aK st.env 1=.p (.int .i64 (d':Nat))/\st.heap=[]) ?_ ?_
 ·have H:bl.wrap (-n)= -n:=aM _ (by omega) (by omega);have o:bl.wrap (-d)= -d:=aM _ (by omega) (by omega)
  by_cases h:d<0
  ·simp[h,H,o,f,i,j,k];refine⟨-n,d.natAbs,by omega,by omega,by omega,?_,rfl,?_⟩
   ·rw[bv (by omega)];exact hd _ _
   ·rw[bv (by omega)]
  ·have J:((d.natAbs:Nat):Int)=d:=cy (by omega);simp[h,f,i,j,k];exact⟨n,d.natAbs,by omega,by omega,by omega,by rw[J],rfl,by rw[J]⟩
 rintro⟨W,X⟩ ⟨b,d',k1,k2,k3,k4,r,s,K⟩;dsimp only at r s K;subst K;rw[<-k4,show mG b d'=g5 b d' from rfl];clear k4 U P O f i j k;obtain⟨x,D⟩:=lj (n:=b) (show d'≠0 by omega);obtain⟨g,l⟩:∃g,e8 b.natAbs d'=g:=⟨_,rfl⟩
 have F:0<g:=by rw[<-l];exact e6 _ k1
 rw[l]at x D;have I:=Ww b.natAbs d' (by omega) (by omega);rw[l]at I;have T:(if b< -b then -b else b)=(b.natAbs:Nat):=by split<;>omega
 have H:bl.wrap (-b)= -b:=aM _ (by omega) (by omega);have z:b.tdiv g=(g5 b d').num:=by rw[x,SV F (by rw[<-l];exact fm _ _)]
 have A:(d':Int).tdiv g=(d'/g:Nat):=by rw[b4 (b2 _),cc]
 have V:(g5 b d').num.natAbs<=4000000000000000000:=by
  have R:(g:Int)∣b:=by rw[<-l];exact b5.2 (fm _ _)
  obtain⟨c,hc⟩:=R;have S:(g:Int)≠0:=by omega
  rw[x,hc,b0 _ S];rw[hc,b3,bo]at k2;exact eo (Nat.le_mul_of_pos_left _ F) k2
 have Q:d'/g<=4000000000000000000:=eo (gg _ _) k3;have ac:0<d'/g:=by
  refine gx ?_ F;rw[<-l];exact gc _ k1
 have M:bH (g5 b d')=if d'/g=1 then cE (g5 b d').num else cE (g5 b d').num++47::bm (d'/g):=by rw[bH,D]
 rw[M];clear M x D;generalize (g5 b d').num=a at*;generalize ad:d'/g=q at*;have y:¬g=0:=by omega
 have u:=wU a.natAbs 1 (by omega) (by decide);have E:=wU q 1 (by omega) (by decide);have Y:(bm a.natAbs).length<=19:=tV (fb V (by decide)) (by decide);have Z:(bm q).length<=19:=tV (fb Q (by decide)) (by decide);rw[show low (max 1 (nd a.natAbs)) a.natAbs=bm a.natAbs from rfl]at u;rw[show low (max 1 (nd q)) q=bm q from rfl]at E;have ab:(if a< -a then -a else a)=(a.natAbs:Nat):=by split<;>omega
 have o:bl.wrap (-a)= -a:=aM _ (by omega) (by omega);have B:bl.wrap a=a:=aM _ (by omega) (by omega);have C:bl.wrap (q:Int)=q:=aM _ (by omega) (by omega);simp[r,s,H,T];refine c2 I ?_;have L:(1:Int)<q↔¬q=1:=by omega
 have N:bl.wrap 1=1:=rfl;have aa:(bm a.natAbs).length<9223372036854775808:=by omega
 by_cases m:a<0
 ·have G:cE a=45::bm a.natAbs:=by rw[cE,if_pos m]
  rw[G];have w:a< -a:=by omega
  have v:-a=(a.natAbs:Nat):=by omega
  by_cases e:q=1
  ·simp[r,s,y,z,A,B,C,m,o,w,e];rw[v];refine c2 u ?_;simp[e,N];omega
  ·have t:=L.2 e;simp[r,s,y,z,A,B,C,m,o,w,e,t];rw[v];refine c2 u ?_;simp[e,t];refine⟨by omega,by omega,?_⟩;refine c2 E ?_;simp;omega
 ·have G:cE a=bm a.natAbs:=by rw[cE,if_neg m]
  rw[G];have v:a=(a.natAbs:Nat):=by omega
  have w:¬a< -a:=by omega
  by_cases e:q=1
  ·simp[r,s,y,z,A,B,C,m,o,w,e];rw[show PV.int .i64 a=.int .i64 (a.natAbs:Nat)by rw[<-v]];refine c2 u ?_;simp[e,N];omega
  ·have t:=L.2 e;simp[r,s,y,z,A,B,C,m,o,w,e,t];rw[show PV.int .i64 a=.int .i64 (a.natAbs:Nat)by rw[<-v]];refine c2 u ?_;simp[e,t];refine⟨by omega,by omega,?_⟩;refine c2 E ?_;simp;omega
theorem B4(n:Int)(a:-9223372036854775808<=n)(b:n<=9223372036854775807):az prog 124 [.int .i64 n] (.str (bH (n:Rat))):=by
 have e:=K3 n a b;have d:=BT n (by
  have c:n.natAbs<bT^3:=by
   have:bT^3=1000000000000000000000000000:=by decide
   omega
  have:=dB aV 3 _ c;omega)
 have hq:bH (n:Rat)=cE n:=by rw[bH,if_pos (Rat.den_intCast n),Rat.num_intCast]
 rw[hq];refine aL nf Fs mix (by simp[f124]) ?_;simp[f124];refine c1 e ?_;simp;refine c1 d ?_;simp
theorem WE(s:List Nat)(C:(bA s).all b6=true)(J:(bJ s).all b6=true)(ak:s.length<=1000000):
 ∃(n d:Int)(b:Bool),az prog 212 [.str s] (.aE [.int .i64 n,.int .i64 d,.bool b])/\(b=true->n=jr s/\d=(ig s:Nat)/\n.natAbs<1000000000/\ig s<1000000000):=by
 by_cases K:20<s.length
 ·refine⟨0,0,false,?_,fun h=>by cases h⟩;refine aL nf zH mix (by simp[f212]) ?_;have m:(20:Int)<s.length:=by omega
  simp[f212,m]
 obtain⟨d,l⟩:∃d,cG s=d:=⟨_,rfl⟩
 obtain⟨neg,g⟩:∃neg,bQ s=neg:=⟨_,rfl⟩
 have ai:d.length<=s.length:=by rw[<-l];exact(oh s).1
 have i:=AO d (by omega);have A:(bS 47 d).1=bA s:=by rw[<-l];rfl
 have N:(bS 47 d).2.1=bJ s:=by rw[<-l];rfl
 have P:(bS 47 d).2.2=dO s:=by rw[<-l];rfl
 have q:=oJ 47 d;rw[A,N,P]at q;rw[A]at i;obtain⟨k,hk⟩:∃k,(bA s).length=k:=⟨_,rfl⟩
 rw[hk]at i;have Q:k<=d.length:=by rw[<-hk,<-A];exact(oA 47 d).1
 have m:¬(20:Int)<s.length:=by omega
 obtain⟨b,o⟩:∃b:Bool,b=(decide (k<=9)&&decide (d.length-k<=10)):=⟨_,rfl⟩
 have M:b=true->(jr s).natAbs<1000000000/\ig s<1000000000:=fun h=>by
  rw[o]at h;simp only[be,decide_eq_true_eq]at h;have v:=iX _ (bA s) rfl C;rw[hk]at v;have ad:aU (bA s)<1000000000:=eq v (ew (n:=10) (by decide) h.1);refine⟨by rw[jr];split<;>omega,?_⟩;rcases q with⟨q1,f⟩|⟨q1,f,af⟩
  ·have W:(bJ s).length<=9:=by
    have:=congrArg eb f;simp at this;omega
   have X:=iX _ (bJ s) rfl J;rw[ig,if_pos q1];exact eq X (ew (n:=10) (by decide) W)
  ·rw[ig,q1,if_neg (by decide)];decide
 refine⟨if b=true then jr s else 0,if b=true then(ig s:Nat)else 0,b,?_,fun h=>⟨if_pos h,if_pos h,by rw[if_pos h];exact(M h).1,(M h).2⟩⟩;refine aL nf zH mix (by simp[f212]) ?_;simp[f212,-bg];rw[bg];simp[-bg];rw[bg];simp[-bg];rw[bg,bg];simp[m,-bg];refine join (fun st=>aK st.env 5=.p (.str s)/\aK st.env 6=.p (.bool neg)/\st.heap=[]) ?_ ?_
 ·clear K m;cases s with
  |nil=>simp[<-g,bQ]
  |cons c r=>
   by_cases hc:c=45
   ·simp[<-g,bQ,hc]
   ·have aa:¬(c:Int)=45:=by omega
    simp[<-g,bQ,hc,aa]
 rintro⟨U,ab⟩ ⟨e,a,u⟩;dsimp only at e a u;subst u;refine join (fun st=>aK st.env 5=.p (.str d)/\aK st.env 6=.p (.bool neg)/\st.heap=[]) ?_ ?_
 ·cases t:neg with
  |false=>
   have F:s=d:=by rw[<-l,cG,g,t];rfl
   simp[e,a,t,F]
  |true=>
   clear i q hk N A P K m o;cases s with
   |nil=>simp[bQ]at g;rw[t]at g;cases g
   |cons c r=>
    have F:r=d:=by rw[<-l,cG,g,t];rfl
    simp[e,a,t,F]
 clear e a;rintro⟨U,ab⟩ ⟨e,a,u⟩;dsimp only at e a u;subst u;have ah:bl.wrap ((k:Int)+1)=(k:Int)+1:=aM _ (by omega) (by omega);have G:bl.wrap ((d.length:Int)-k)=(d.length:Int)-k:=aM _ (by omega) (by omega);have ag:((k:Int)+1).toNat=k+1:=by omega
 have ae:jr s=if neg=true then -(aU (bA s):Int)else aU (bA s):=by rw[jr,g]
 rw[ae];rcases fH 9 k with D|D
 ·have Y:¬k<=9:=by omega
  have j:(9:Int)<k:=by omega
  have E:b=false:=by rw[o];simp[Y]
  simp[e,a];refine c1 i ?_;simp[e,a,j,E]
 rcases fH 10 (d.length-k)with I|I
 ·have V:¬d.length-k<=10:=by omega
  have j:¬(9:Int)<k:=by omega
  have x:(10:Int)<(d.length:Int)-k:=by omega
  have E:b=false:=by rw[o];simp[V]
  simp[e,a];refine c1 i ?_;simp[e,a,j,x,G,E]
 have j:¬(9:Int)<k:=by omega
 have x:¬(10:Int)<(d.length:Int)-k:=by omega
 have y:b=true:=by rw[o];simp[D,I]
 have R:d.take k=bA s:=by
  rcases q with⟨_,f⟩|⟨_,f,_⟩
  ·rw[f,<-hk];simp
  ·rw[<-f,<-hk];simp
 have L:=xI (bA s) C (by omega);have v:=iX _ (bA s) rfl C;rw[hk]at v;have ad:aU (bA s)<1000000000:=eq v (ew (n:=10) (by decide) D);rcases q with⟨q1,f⟩|⟨q1,f,af⟩
 ·have z:k<d.length:=by rw[f];simp;omega
  have O:d.drop (k+1)=bJ s:=by
   conv=>lhs;rw[f,<-hk]
   simp
  have aj:(bJ s).length<=9:=by rw[<-O,ea];omega
  have Z:=xI (bJ s) J (by omega);have B:ig s=aU (bJ s):=by rw[ig,if_pos q1]
  rw[B];generalize aU (bJ s)=al at*;generalize aU (bA s)=w at*;have H:bl.wrap (-(w:Int))= -(w:Int):=aM _ (by omega) (by omega);clear f;simp[e,a];refine c1 i ?_;have S:(0:Int)<=k+1:=by omega
  have ac:k+1<=d.length:=z;have T:(k:Int)+1<=d.length:=by omega
  simp[e,a,j,x,G,y,Q,R];refine c1 L ?_;cases neg<;>
  ·simp[e,a,z,ac,ah,ag,O,S,T];refine c1 Z ?_;simp[a,H,y]
 ·have z:¬k<d.length:=by rw[<-f,hk];omega
  have B:ig s=1:=by rw[ig,q1];rfl
  rw[B];generalize aU (bA s)=w at*;have H:bl.wrap (-(w:Int))= -(w:Int):=aM _ (by omega) (by omega);simp[e,a];refine c1 i ?_;simp[e,a,j,x,G,y,Q,R];refine c1 L ?_;cases neg<;>simp[e,a,z,H,y]
theorem Az{n k:Nat}(h:n<2^k):(an bT n).length<=k/29+1:=by
 refine dB aV _ _ (eq h ?_);have a:2^29<=bT:=by decide
 refine eo ?_ (Nat.pow_le_pow_left a _);rw[<-gm];exact ew (by decide) (by omega)
theorem Kn(q:Rat):jr (bH q)=q.num:=by
 obtain⟨a,b,_,_⟩:=uj q;rw[jr,a,b,xn]
 by_cases h:q.num<0
 ·rw[if_pos (by simpa using h)];omega
 ·rw[if_neg (by simpa using h)];omega
theorem EA(q:Rat):ig (bH q)=q.den:=by
 obtain⟨_,_,a,b⟩:=uj q;rw[ig,a,b]
 by_cases h:q.den=1
 ·rw[if_neg (by simpa using h),h]
 ·rw[if_pos (by simpa using h),if_neg h,xn]
theorem zn(q:Rat):(bA (bH q)).all b6=true/\(bJ (bH q)).all b6=true:=by
 obtain⟨_,a,_,b⟩:=uj q;refine⟨by rw[a];exact uZ _,?_⟩;rw[b];split
 ·rfl
 ·exact uZ _
theorem wK{q:Rat}(h:bP kB q):(bH q).length<=1000000:=by
 have a:(bm q.num.natAbs).length<=33334:=vi (K:=kB) (k:=33334) h.1 (by decide) (by decide);have b:(bm q.den).length<=33334:=vi (K:=kB) (k:=33334) h.2 (by decide) (by decide);have:=aBV q;omega
theorem xw(q:Rat)(h:bP kB q):∃(n d:Int)(b:Bool),az prog 212 [.str (bH q)] (.aE [.int .i64 n,.int .i64 d,.bool b])/\(b=true->n=q.num/\d=(q.den:Nat)/\n.natAbs<1000000000/\q.den<1000000000):=by
 have:=WE (bH q) (zn q).1 (zn q).2 (wK h)
 rwa [Kn,EA]at this
theorem wT(q:Rat)(h:bP kB q):az prog 100 [.str (bH q)] (.aE [eG q.num,eG (q.den:Nat)]):=by
 have:=Js (bH q) (zn q).1 (zn q).2 (wK h)
 rwa [Kn,EA]at this
theorem Xy(a b:Rat):mG (a.num*b.den+b.num*a.den) (a.den*b.den)=a+b:=by
 rw[Rat.add_def'];rfl
theorem Xz(a b:Rat):mG (a.num*b.num) (a.den*b.den)=a*b:=by
 rw[Rat.mul_def,Rat.normalize_eq_mkRat];rfl
theorem Md(a b:Rat):((a.den:Nat):Int)*(b.den:Nat)≠0:=by
 have c:=a.den_pos;have d:=b.den_pos;exact Int.ne_of_gt (Int.mul_pos (by omega) (by omega))
theorem u5{x y:Int}(hx:x.natAbs<1000000000)(a:y.natAbs<1000000000):(x*y).natAbs<=999999998000000001:=by
 rw[b3];exact Nat.mul_le_mul (show x.natAbs<=999999999 by omega) (show y.natAbs<=999999999 by omega)
theorem ue{x y:Int}(hx:x.natAbs<2^kB)(a:y.natAbs<2^kB):(an bT (x*y).natAbs).length<=10000:=by
 have h:=Az (n:=(x*y).natAbs) (k:=kB+kB) (by rw[b3,gt];exact gb hx a);exact eo h (by decide)
theorem mg{x:Nat}(hx:x<2^kB):(an bT x).length<=10000:=eo (Az hx) (by decide)
theorem My(a b:Rat)(h:bP kB a)(i:bP kB b):az prog 134 [.str (bH a),.str (bH b)] (.str (bH (a+b))):=by
 obtain⟨n,d,p,A,E⟩:=xw a h;obtain⟨m,e,r,B,F⟩:=xw b i;have t:=wT a h;have u:=wT b i;refine aL nf Fj mix (by simp[f134]) ?_;rw[<-Xy];have z:=Md a b
 by_cases j:p=true/\r=true
 ·obtain⟨rfl,rfl,k1,k2⟩:=E j.1;obtain⟨rfl,rfl,k3,k4⟩:=F j.2;have O:=u5 k1 (show((b.den:Nat):Int).natAbs<1000000000 by rw[bo];exact k4);have P:=u5 k3 (show((a.den:Nat):Int).natAbs<1000000000 by rw[bo];exact k2);have Q:=u5 (show((a.den:Nat):Int).natAbs<1000000000 by rw[bo];exact k2) (show((b.den:Nat):Int).natAbs<1000000000 by rw[bo];exact k4);have C:=MG (a.num*b.den+b.num*a.den) (a.den*b.den) z (by omega) (by omega);have H:bl.wrap (a.num*(b.den:Nat))=a.num*(b.den:Nat):=aM _ (by omega) (by omega);have I:bl.wrap (b.num*(a.den:Nat))=b.num*(a.den:Nat):=aM _ (by omega) (by omega);have J:bl.wrap (a.num*(b.den:Nat)+b.num*(a.den:Nat))=a.num*(b.den:Nat)+b.num*(a.den:Nat):=aM _ (by omega) (by omega);have K:bl.wrap (((a.den:Nat):Int)*(b.den:Nat))=((a.den:Nat):Int)*(b.den:Nat):=aM _ (by omega) (by omega);have g:p=true:=j.1;have q:r=true:=j.2;simp[f134];refine c1 A ?_;simp;refine c1 B ?_;simp[g,q,H,I,J,K];refine c2 C ?_;simp
 ·have l:a.num.natAbs<2^kB:=h.1;have o:b.num.natAbs<2^kB:=i.1;have c:((a.den:Nat):Int).natAbs<2^kB:=by rw[bo];exact h.2
  have f:((b.den:Nat):Int).natAbs<2^kB:=by rw[bo];exact i.2
  have w:=uG a.num (b.den:Nat) (by have:=mg l;have:=mg f;omega);have x:=uG b.num (a.den:Nat) (by have:=mg o;have:=mg c;omega);have y:=uG (a.den:Nat) (b.den:Nat) (by have:=mg c;have:=mg f;omega);have L:=ue l f;have M:=ue o c;have N:=ue c f;have v:=WD (a.num*(b.den:Nat)) (b.num*(a.den:Nat)) (by omega) (by omega);have G:(an bT (a.num*(b.den:Nat)+b.num*(a.den:Nat)).natAbs).length<=400000:=by
   refine eo (Az (k:=kB+kB+1) ?_) (by decide);have q1:(a.num*(b.den:Nat)).natAbs<2^(kB+kB):=by rw[b3,gt];exact gb l f
   have R:(b.num*(a.den:Nat)).natAbs<2^(kB+kB):=by rw[b3,gt];exact gb o c
   rw[fv];omega
  have s:=F7 (a.num*(b.den:Nat)+b.num*(a.den:Nat)) ((a.den:Nat)*(b.den:Nat)) z G (by omega);simp[f134];refine c1 A ?_;simp;refine c1 B ?_;have D:(p=false)\/(p=true/\r=false):=by cases p<;>cases r<;>simp_all
  rcases D with g|⟨g,q⟩
  ·simp[g];refine c1 t ?_;simp[ad];refine c1 u ?_;simp[ad];refine e2 w ?_;simp[ad];refine e2 x ?_;simp[ad];refine e2 v ?_;simp[ad];refine e2 y ?_;simp[ad];refine e2 s ?_;simp
  ·simp[g,q];refine c1 t ?_;simp[ad];refine c1 u ?_;simp[ad];refine e2 w ?_;simp[ad];refine e2 x ?_;simp[ad];refine e2 v ?_;simp[ad];refine e2 y ?_;simp[ad];refine e2 s ?_;simp
theorem xY(a b:Rat)(f:bP kB a)(g:bP kB b):az prog 135 [.str (bH a),.str (bH b)] (.str (bH (a*b))):=by
 obtain⟨n,d,p,x,B⟩:=xw a f;obtain⟨m,e,r,y,C⟩:=xw b g;have s:=wT a f;have t:=wT b g;refine aL nf EI mix (by simp[f135]) ?_;rw[<-Xz];have w:=Md a b
 by_cases h:p=true/\r=true
 ·obtain⟨rfl,rfl,k1,k2⟩:=B h.1;obtain⟨rfl,rfl,k3,k4⟩:=C h.2;have H:=u5 k1 k3;have I:=u5 (show((a.den:Nat):Int).natAbs<1000000000 by rw[bo];exact k2) (show((b.den:Nat):Int).natAbs<1000000000 by rw[bo];exact k4);have z:=MG (a.num*b.num) (a.den*b.den) w (by omega) (by omega);have D:bl.wrap (a.num*b.num)=a.num*b.num:=aM _ (by omega) (by omega);have E:bl.wrap (((a.den:Nat):Int)*(b.den:Nat))=((a.den:Nat):Int)*(b.den:Nat):=aM _ (by omega) (by omega);have c:p=true:=h.1;have i:r=true:=h.2;simp[f135];refine c1 x ?_;simp;refine c1 y ?_;simp[c,i,D,E];refine c2 z ?_;simp
 ·have j:a.num.natAbs<2^kB:=f.1;have l:b.num.natAbs<2^kB:=g.1;have k:((a.den:Nat):Int).natAbs<2^kB:=by rw[bo];exact f.2
  have o:((b.den:Nat):Int).natAbs<2^kB:=by rw[bo];exact g.2
  have u:=uG a.num b.num (by have:=mg j;have:=mg l;omega);have v:=uG (a.den:Nat) (b.den:Nat) (by have:=mg k;have:=mg o;omega);have F:=ue j l;have G:=ue k o;have q:=F7 (a.num*b.num) ((a.den:Nat)*(b.den:Nat)) w (by omega) (by omega);simp[f135];refine c1 x ?_;simp;refine c1 y ?_;have A:(p=false)\/(p=true/\r=false):=by cases p<;>cases r<;>simp_all
  rcases A with c|⟨c,i⟩
  ·simp[c];refine c1 s ?_;simp[ad];refine c1 t ?_;simp[ad];refine e2 u ?_;simp[ad];refine e2 v ?_;simp[ad];refine e2 q ?_;simp
  ·simp[c,i];refine c1 s ?_;simp[ad];refine c1 t ?_;simp[ad];refine e2 u ?_;simp[ad];refine e2 v ?_;simp[ad];refine e2 q ?_;simp
theorem azu{a:Rat}(h:a≠0):a.num≠0:=fun e=>h (Rat.num_eq_zero.1 e)
theorem Wn(s:List Nat)(g:s.length<=1048576):az prog 22 [.str s] (.int .i64 (if s=[48]then 0 else if bQ s=true then -1 else 1)):=by
 refine aL nf Nq mix (by simp[f22]) ?_
 by_cases b:s=[48]
 ·simp[f22,b]
 ·cases s with
  |nil=>simp[f22,bQ]
  |cons c r=>
   by_cases hc:c=45
   ·simp[f22,bQ,hc]
   ·have e:¬(c:Int)=45:=by omega
    have d:¬(c=48/\r=[]):=fun h=>b (by rw[h.1,h.2])
    by_cases a:c=48
    ·have f:¬r=[]:=fun h=>d ⟨a,h⟩;simp[f22,bQ,a,f]
    ·simp[f22,bQ,hc,e,a]
theorem xb(q:Rat):q.num<0↔q<0:=by
 have h:=Cf q
 by_cases b:q<0
 ·rw[if_pos b]at h;refine⟨fun _=>b,fun _=>?_⟩
  by_cases a:q.num<0
  ·exact a
  ·rw[if_neg a]at h;split at h<;>omega
 ·refine⟨fun a=>?_,fun a=>(b a).elim⟩;rw[if_neg b,if_pos a]at h
  split at h<;>omega
def gL(q:Rat):Int:=if q<0 then -1 else if q=0 then 0 else 1
theorem aCa:bH 0=[48]:=by
 have h:cE 0=[48]:=by rw[show(0:Int)=((0:Nat):Int)from rfl,tW,pJ]
 rw[bH,if_pos (show(0:Rat).den=1 from rfl)];exact h
theorem QD(q:Rat):bH q=[48]↔q=0:=by
 rw[<-aCa];exact⟨fun h=>aBT h,fun h=>by rw[h]⟩
theorem aAG(q:Rat):(if bH q=[48]then(0:Int)else if bQ (bH q)=true then -1 else 1)=gL q:=by
 have e:=(uj q).1;have c:=QD q;have d:q<0↔q.num<0:=(xb q).symm;rw[e,gL]
 by_cases b:q=0
 ·subst b;rw[if_pos (c.2 rfl),if_neg (by decide),if_pos rfl]
 ·rw[if_neg (fun h=>b (c.1 h))]
  by_cases a:q<0
  ·rw[if_pos (by simpa using d.1 a),if_pos a]
  ·rw[if_neg (by simpa using fun h=>a (d.2 h)),if_neg a,if_neg b]
theorem xK(q:Rat)(h:bP kB q):az prog 22 [.str (bH q)] (.int .i64 (gL q)):=by
 have:=Wn (bH q) (by have:=wK h;omega)
 rwa [aAG]at this
theorem La{q:Rat}(h:q<0):bH q=45::bH (-q):=by
 have a:q.num<0:=(xb q).2 h;have e1:cE q.num=45::bm q.num.natAbs:=by rw[cE,if_pos a]
 have e2:cE (-q).num=bm q.num.natAbs:=by rw[hm,cE,if_neg (by omega),cb]
 rw[bH,bH,Rat.neg_den,e1,e2]
 split<;>rfl
theorem Wj(q:Rat)(h:bP kB q):az prog 189 [.str (bH q)] (.str (bH (-q))):=by
 have a:=xK q h;have f:=wK h;refine aL nf Ed mix (by simp[f189]) ?_
 by_cases b:q<0
 ·have hs:gL q= -1:=by rw[gL,if_pos b]
  rw[hs]at a;have c:=La b;rw[c]at a f⊢;simp[f189];refine c1 a ?_;simp
 ·by_cases d:q=0
  ·have hs:gL q=0:=by rw[gL,if_neg b,if_pos d]
   rw[hs]at a;have hq:-q=q:=by rw[d];rfl
   rw[hq];simp[f189];refine c1 a ?_;simp;refine c1 a ?_;simp
  ·have hs:gL q=1:=by rw[gL,if_neg b,if_neg d]
   rw[hs]at a;have e:-q<0:=by
    rw[<-xb,hm];have g:¬q.num<0:=fun h=>b ((xb q).1 h);have i:=azu d;omega
   have c:=La e;rw[Rat.neg_neg]at c;rw[c];have j:(bH q).length+1<9223372036854775808:=by omega
   simp[f189];refine c1 a ?_;simp;refine c1 a ?_;simp;omega
theorem xX(a b:Rat)(f:bP kB a)(d:bP kB b):az prog 102 [.str (bH a),.str (bH b)] (.str (bH (a-b))):=by
 have e:=Wj b d;have c:=My a (-b) f (AF d);rw[<-Rat.sub_eq_add_neg]at c;refine aL nf D5 mix (by simp[f102]) ?_;simp[f102];refine c1 e ?_;simp;refine c2 c ?_;simp
theorem aAF(a b:Rat):gL (a-b)=dJ a b:=by
 have d:a-b<0↔a<b:=by
  rw[<-hn,<-hn,<-Rat.le_iff_sub_nonneg]
 have e:a-b=0↔a=b:=by
  constructor
  ·intro h;have f:a-b+b=0+b:=by rw[h]
   rwa [g6,g8]at f
  ·rintro rfl;exact hl
 rw[gL,dJ]
 by_cases h:a<b
 ·rw[if_pos (d.2 h),if_pos h]
 ·rw[if_neg (fun x=>h (d.1 x)),if_neg h]
  by_cases c:a=b
  ·rw[if_pos (e.2 c),if_pos c]
  ·rw[if_neg (fun x=>c (e.1 x)),if_neg c]
theorem rB(a b:Rat)(d:bP (kB/3) a)(e:bP (kB/3) b):az prog 23 [.str (bH a),.str (bH b)] (.int .i64 (dJ a b)):=by
 have f:=xX a b (d.mono (by decide)) (e.mono (by decide));have c:=xK (a-b) ((wD d e).mono (by decide));rw[aAF]at c;refine aL nf Nr mix (by simp[f23]) ?_;simp[f23];refine c2 f ?_;simp;refine c1 c ?_;simp
theorem MA{a b:Nat}(h:a<=b):10^a<=10^b:=ew (by decide) h
theorem yU{s:List Nat}{k:Nat}(h:s.length<=k)(a:s.all b6=true):aU s<10^k:=eq (iX _ s rfl a) (MA h)
theorem azL{x a b:Nat}(hx:x<10^a)(h:a<=9*b):(an bT x).length<=b:=dB aV b x (eq hx (by
 rw[show bT^b=10^(9*b)by rw[gm];rfl];exact MA h))
theorem VH(s:List Nat)(D:s.length<=1048576):az prog 186 [.str s] (.bool (s.all b6)):=by
 refine aL nf Eg mix (by simp[f186]) ?_;obtain⟨k,hk,n,o⟩:=AX (fun j=>b6 (s[j]?.getD 0)) s.length;have e:∀j(h:j<s.length),s[j]?.getD 0=s[j]:=fun j h=>by rw[db h];rfl
 have B:s.all b6=decide (k=s.length):=by
  rcases o with h|⟨a,b⟩
  ·rw[h,decide_eq_true rfl,dg];intro x hx;obtain⟨j,A,rfl⟩:=List.getElem_of_mem hx;have:=n j (by omega)
   rwa [e j A]at this
  ·rw[decide_eq_false (by omega)];rw[e k a]at b
   by_cases m:s.all b6=true
   ·have:=dg.1 m _ (dp a);rw[this]at b;cases b
   ·simpa using m
 rw[B];simp[f186];refine lp (α:=Nat) (fun i=>⟨[(3,.p (.int .i64 i)),(0,.p (.str s))],[]⟩)
  (fun i=>i<=k) (fun i=>k-i) 0 (fl _) ?_
 intro i hi;have C:bl.wrap ((i:Int)+1)=(i:Int)+1:=aM _ (by omega) (by omega)
 by_cases y:i<k
 ·have l:i<s.length:=by omega
  have q:=n i y;rw[e i l]at q;have E:=xR q;generalize d:s[i]=c at*;have f:s[i]?=some c:=by rw[db l,d]
  have a:¬(c:Int)<48:=by omega
  have b:¬(57:Int)<c:=by omega
  have t:¬c<48:=by omega
  have u:¬57<c:=by omega
  simp[l,d,f,a,b,t,u,C];exact rd (i+1) (show i+1<=k by omega)
 ·have z:i=k:=by omega
  subst z;rcases o with h|⟨a,b⟩
  ·simp[h]
  ·rw[e i a]at b;have r:¬i=s.length:=by omega
   generalize d:s[i]=c at*;have f:s[i]?=some c:=by rw[db a,d]
   by_cases hc:c<48
   ·have g:(c:Int)<48:=by omega
    simp[a,d,f,hc,g,r]
   ·have v:57<c:=by
     simp only[b6,Bool.and_eq_false_iff,decide_eq_false_iff_not]at b;omega
    have g:¬(c:Int)<48:=by omega
    have w:(57:Int)<c:=by omega
    simp[a,d,f,hc,g,v,w,r]
theorem Ig(s:List Nat)(j:s.length<=1048576):az prog 99 [.str s] (.bool (dv s)):=by
 have b:=VH s j;refine aL nf Oe mix (by simp[f99]) ?_;cases s with
 |nil=>simp[f99,dv]
 |cons c r=>
  have k:(c:Int)=48↔c=48:=by omega
  by_cases a:r=[]
  ·subst a;have e:dv [c]=[c].all b6:=by
    rw[dv]
    by_cases h:c=48
    ·subst h;rfl
    ·simp[h]
   rw[e];simp[f99];refine c1 b ?_;simp
  ·have d:0<r.length:=dz.2 a;have f:¬(r.length:Int)+1=0:=by omega
   have g:(1:Int)<r.length+1:=by omega
   by_cases hc:c=48
   ·have e:dv (c::r)=false:=by rw[dv,hc];simp[a]
    rw[e];simp[f99,a,hc,d,f,g]
   ·have i:¬(c:Int)=48:=by omega
    have e:dv (c::r)=(c::r).all b6:=by rw[dv];simp[hc]
    rw[e];simp[f99,a,hc,i,d,f,g];refine c1 b ?_;simp
theorem yl(s:List Nat)(hs:jt s):az prog 21 [.str s] (.int .i64 (bU s)):=by
 refine aL nf Np mix (by simp[f21]) ?_;obtain⟨a0,aO⟩:=hs;obtain⟨d,S⟩:∃d,cG s=d:=⟨_,rfl⟩
 obtain⟨neg,A⟩:∃neg,bQ s=neg:=⟨_,rfl⟩
 have aS:d.length<=s.length:=by rw[<-S];exact(oh s).1
 have T:=AO d (by omega);have Y:(bS 47 d).1=bA s:=by rw[<-S];rfl
 have W:(bS 47 d).2.1=bJ s:=by rw[<-S];rfl
 have ah:(bS 47 d).2.2=dO s:=by rw[<-S];rfl
 have z:=oJ 47 d;have F:=oA 47 d;rw[Y,W,ah]at z;rw[Y]at T F;rw[W]at F;obtain⟨k,hk⟩:∃k,(bA s).length=k:=⟨_,rfl⟩
 rw[hk]at T;have J:k<=d.length:=by rw[<-hk];exact F.1
 have aw:d.take k=bA s:=by
  rcases z with⟨_,G⟩|⟨_,G,_⟩
  ·rw[G,<-hk];simp
  ·rw[<-G,<-hk];simp
 have M:=Ig (bA s) (by omega);have l:=Ig (bJ s) (by omega);simp[f21,-bg];rw[bg];simp[-bg];rw[bg];simp[-bg];refine join (fun st=>aK st.env 0=.p (.str s)/\aK st.env 3=.p (.str d)/\st.heap=[]) ?_ ?_
 ·cases aj:neg with
  |false=>
   have av:s=d:=by rw[<-S,cG,A,aj];rfl
   clear T z hk W Y ah aw M l F J;subst av;cases s with
   |nil=>simp
   |cons c r=>
    rw[aj]at A;have hc:¬c=45:=fun h=>by rw[h]at A;simp[bQ]at A
    have ao:¬(c:Int)=45:=by omega
    simp[hc,ao]
  |true=>
   clear T z hk W Y ah aw M l F J;cases s with
   |nil=>simp[bQ]at A;rw[aj]at A;cases A
   |cons c r=>
    have av:r=d:=by rw[<-S,cG,A,aj];rfl
    rw[aj]at A;have hc:c=45:=by simpa[bQ]using A
    simp[hc,av]
 rintro⟨aH,aX⟩ ⟨w,e,ak⟩;dsimp only at w e ak;subst ak;have ag:kG s=(dv (bA s)&&!(neg&&decide (bA s=[48]))&&(!dO s||(dv (bJ s)&&decide (bJ s≠[48])&&decide (bJ s≠[49])))):=by rw[kG,A]
 have a8:d.length<=1048576:=by omega
 have V:(bA s).all b6=true->(bJ s).all b6=true->dO s=true->0<k->d.length<=1000000->az prog 100 [.str d] (.aE [eG (aU (bA s):Nat),eG (aU (bJ s):Nat)]):=fun y O ax aD a1=>by
  have al:bQ d=false/\cG d=d:=by
   have aG:bQ d=false:=by
    rcases z with⟨_,G⟩|⟨q1,_⟩
    ·cases X:bA s with
     |nil=>rw[X]at hk;simp at hk;omega
     |cons c r=>
      rw[X]at G y;have:=xR (dg.1 y c (by simp));rw[G,bQ];simp;omega
    ·rw[ax]at q1;cases q1
   exact⟨aG,by rw[cG,aG];rfl⟩
  have e1:bA d=bA s:=by rw[bA,al.2,Y]
  have e2:bJ d=bJ s:=by rw[bJ,al.2,W]
  have e3:dO d=true:=by rw[dO,al.2,ah];exact ax
  have:=Js d (by rw[e1];exact y) (by rw[e2];exact O) a1;rw[jr,ig,e1,e2,al.1,if_pos e3]at this;exact this
 rw[bU];generalize kG s=N at*;generalize bA s=v at*;generalize bJ s=f at*;generalize dO s=fr at*;have U:dq k d=v:=aw
 by_cases K:dv v=true
 ·have aD:0<k:=by
   rw[<-hk,dz];intro h;rw[h]at K;cases K
  obtain⟨c,r,hs⟩:∃c r,s=c::r:=by
   cases s with
   |nil=>
    have:d.length<=0:=by simpa using aS
    omega
   |cons c r=>exact⟨c,r,rfl⟩
  have ap:c=45↔neg=true:=by rw[<-A,hs];simp[bQ]
  have ao:(c:Int)=45↔c=45:=by omega
  rw[K]at M;clear aO a0 S A Y W ah
  by_cases P:neg=true/\v=[48]
  ·have hf:N=false:=by rw[ag,P.1,P.2];simp
   have aR:=ap.2 P.1;rw[if_pos hf];clear z F l V ap ao;subst hs aR;have X:=P.2;simp[w,e];refine c1 T ?_;simp[w,e,J,U];refine c1 M ?_;simp[w,e,J,U,X]
  ·subst hs;rw[bg];simp[w,e,-bg];refine c1 T ?_;simp[w,e,-bg];refine join (fun st=>aK st.env 3=.p (.str d)/\aK st.env 4=.p (.int .i64 k)/\st.heap=[]) ?_ ?_
   ·by_cases y:c=45
    ·have X:¬v=[48]:=fun h=>P ⟨ap.1 y,h⟩;subst y;clear z F l V;simp[w,e,J,U];refine c1 M ?_;simp[w,e,J,U,X]
    ·have aI:¬(c:Int)=45:=by omega
     clear z F l V;simp[w,e,J,U];refine c1 M ?_;simp[w,e,J,U,y,aI]
   clear w e;rintro⟨aH,aX⟩ ⟨e,j,ak⟩;dsimp only at e j ak;subst ak;cases ai:fr with
   |false=>
    have i:k=d.length:=by
     rcases z with⟨q1,_⟩|⟨_,G,_⟩
     ·rw[ai]at q1;cases q1
     ·rw[<-hk,G]
    have aE:¬k<d.length:=by omega
    have aT:f=[]:=by
     rcases z with⟨q1,_⟩|⟨_,_,a5⟩
     ·rw[ai]at q1;cases q1
     ·exact a5
    have hf:N=true:=by
     rw[ag,K,ai];simp
     by_cases y:neg=true
     ·exact .inr fun O=>P ⟨y,O⟩
     ·exact .inl (by simpa using y)
    have Z:bl.wrap ((d.length:Int)-k)=0:=by rw[i,Int.sub_self];rfl
    have aa:bl.wrap (-1)= -1:=rfl;rw[hf,hk,aT];clear z F l V
    by_cases I:600<k
    ·have B:¬(k:Int)<=600:=by omega
     have C:¬k<=600:=by omega
     have D:(600:Int)<k:=by omega
     simp[e,j,aE,I,B,C,D]
    ·have B:(k:Int)<=600:=by omega
     have C:k<=600:=by omega
     have D:¬(600:Int)<k:=by omega
     simp[e,j,aE,I,B,C,D,Z,aa]
   |true=>
    rw[ai]at ag V;have au:d=v++47::f:=by
     rcases z with⟨_,G⟩|⟨q1,_⟩
     ·exact G
     ·rw[ai]at q1;cases q1
    have i:k<d.length:=by rw[au];simp;omega
    have q:d.drop (k+1)=f:=by
     conv=>lhs;rw[au,<-hk]
     simp
    have a9:d.length=k+1+f.length:=by rw[au];simp;omega
    have u:bl.wrap ((k:Int)+1)=(k:Int)+1:=aM _ (by omega) (by omega);have t:((k:Int)+1).toNat=k+1:=by omega
    have m:(0:Int)<=k+1:=by omega
    have n:(k:Int)+1<=d.length:=by omega
    have o:k+1<=d.length:=i;clear z F;have af:N=(dv f&&decide (f≠[48])&&decide (f≠[49])):=by
     rw[ag,K];have:(neg&&decide (v=[48]))=false:=by
      by_cases y:neg=true
      ·have:¬v=[48]:=fun O=>P ⟨y,O⟩;simp[this]
      ·have:neg=false:=by simpa using y
       rw[this];rfl
     rw[this];simp
    by_cases aq:N=true
    ·rw[aq]at af;have aY:¬N=false:=by rw[aq];decide
     rw[if_neg aY];have aN:dv f=true/\¬f=[48]/\¬f=[49]:=by
      have:=af.symm;simp only[be,decide_eq_true_eq]at this;exact⟨this.1.1,this.1.2,this.2⟩
     obtain⟨L,H,E⟩:=aN;rw[L]at l;rw[hk];have Z:bl.wrap ((d.length:Int)-k)=(d.length:Int)-k:=aM _ (by omega) (by omega);have aa:bl.wrap ((d.length:Int)-k-1)=f.length:=by rw[aM _ (by omega) (by omega)];omega
     by_cases I:600<k
     ·have B:¬(k:Int)<=600:=by omega
      have C:¬k<=600:=by omega
      have D:(600:Int)<k:=by omega
      simp[e,j,i,u,t,m,n,o,q];refine c1 l ?_;simp[e,j,i,u,t,m,n,o,q,H,E,I,B,C,D]
     by_cases ab:600<f.length
     ·have B:(k:Int)<=600:=by omega
      have C:k<=600:=by omega
      have D:¬(600:Int)<k:=by omega
      have ac:(600:Int)<f.length:=by omega
      simp[e,j,i,u,t,m,n,o,q];refine c1 l ?_;simp[e,j,i,u,t,m,n,o,q,H,E,I,B,C,D,Z,aa,ab,ac]
     have B:(k:Int)<=600:=by omega
     have C:k<=600:=by omega
     have D:¬(600:Int)<k:=by omega
     have ac:¬(600:Int)<f.length:=by omega
     have R:=V (iO K) (iO L) rfl aD (by omega);have aW:=xo L H;have a3:v.length<=700:=by omega
     have a4:f.length<=700:=by omega
     have aP:aU v<10^700:=yU (s:=v) (k:=700) a3 (iO K);have aQ:aU f<10^700:=yU (s:=f) (k:=700) a4 (iO L);have aF:∀x:Nat,x<10^700->(an bT x).length<=400000:=fun x hx=>eo (azL (a:=700) (b:=78) hx (by decide)) (by decide);have Q:=I6 (aU v) (aU f) (aF _ aP) (aF _ aQ);have aB:0<e8 (aU v) (aU f):=e6 _ aW;generalize aU v=a7 at*;generalize aU f=a6 at*;obtain⟨g,am⟩:∃g,e8 a7 a6=g:=⟨_,rfl⟩
     simp only[am]at Q aB⊢;have a2:¬(600<k\/600<f.length):=fun h=>by rcases h with h|h;exact I h;exact ab h
     rw[if_neg a2];simp only[eG,bo]at R
     by_cases ar:g=1
     ·subst ar;have ae:an bT 1=[1]:=mZ (by decide) (by decide);simp only[eT,ae]at Q R;simp[e,j,i,u,t,m,n,o,q];refine c1 l ?_;simp[e,j,i,u,t,m,n,o,q,H,E,I,B,C,D,Z,aa,ab,ac];refine c1 R ?_;simp[ad];refine c2 Q ?_;simp[am]
     ·by_cases aC:g<bT
      ·have ae:an bT g=[g]:=mZ aB aC;have aZ:¬(g:Int)=1:=by omega
       simp only[eT,ae]at Q R;simp[e,j,i,u,t,m,n,o,q];refine c1 l ?_;simp[e,j,i,u,t,m,n,o,q,H,E,I,B,C,D,Z,aa,ab,ac];refine c1 R ?_;simp[ad];refine c2 Q ?_;simp[ar,aZ,am]
      ·have ae:¬((an bT g).length:Int)=1:=by
        intro h;have O:(an bT g).length=1:=by omega
        have:=bZ aV g;rw[O,g2]at this;exact aC this
       simp only[eT]at Q R;simp[e,j,i,u,t,m,n,o,q];refine c1 l ?_;simp[e,j,i,u,t,m,n,o,q,H,E,I,B,C,D,Z,aa,ab,ac];refine c1 R ?_;simp[ad];refine c2 Q ?_;simp[ar,ae,am]
    ·have aA:N=false:=by simpa using aq
     rw[if_pos aA]
     by_cases L:dv f=true
     ·rw[L]at l
      by_cases H:f=[48]
      ·simp[e,j,i,u,t,m,n,o,q];refine c1 l ?_;simp[e,j,i,u,t,m,n,o,q,H]
      ·have E:f=[49]:=by
        rw[L]at af
        by_cases E:f=[49]
        ·exact E
        ·rw[aA]at af;simp[H,E]at af
       simp[e,j,i,u,t,m,n,o,q];refine c1 l ?_;simp[e,j,i,u,t,m,n,o,q,E]
     ·have aJ:dv f=false:=by simpa using L
      rw[aJ]at l;simp[e,j,i,u,t,m,n,o,q];refine c1 l ?_;simp[e,j,i,u,t,m,n,o,q]
 ·have ay:dv v=false:=by simpa using K
  have hf:N=false:=by rw[ag,ay];rfl
  rw[if_pos hf];rw[ay]at M;simp[w,e];refine c1 T ?_;simp[w,e,J,U];refine c1 M ?_;simp[w,e]
theorem Si(l:List (List Nat))(f:l.length<=1000000)(hs:∀s∈l,jt s):az prog 111 [.seq (l.map .str)] (.int .i64 (bE (l.map bU))):=by
 refine aL nf Ev mix (by simp[f111]) ?_;simp[f111];refine lp (α:=Nat) (fun i=>⟨[(3,.p (.int .i64 i)),(0,.p (.seq (l.map .str)))],[]⟩) (fun i=>i<=l.length/\bE ((l.drop i).map bU)=bE (l.map bU)) (fun i=>l.length-i) 0 (by simp) ?_;rintro i ⟨e,a⟩
 by_cases hi:i<l.length
 ·rw[List.drop_eq_getElem_cons hi]at a;have d:=b8 (i:=i) (by omega);have hc:=yl l[i] (hs _ (dp hi));obtain⟨s,b⟩:∃s,l[i]=s:=⟨_,rfl⟩
  have c:l[i]?=some s:=by rw[db hi,b]
  rw[b]at hc a;simp[hi,c,b];refine c1 hc ?_
  by_cases he:bU s=0
  ·simp[bE,he]at a;simp[he,d];exact rd (i+1) ⟨hi,by simpa using a⟩
  ·simp[bE,he]at a;simp[he,<-a]
 ·have:i=l.length:=by omega
  subst this;simp[bE]at a;simp[<-a]
theorem FQ(p:gX)(a:pc p):az prog 29 [fZ p] (.int .i64 (dU p)):=by
 have hc:=Si [p.x,p.y] (by simp) (by intro s hs;simp at hs;rcases hs with rfl|rfl;exact a.1;exact a.2);refine aL nf Ns mix (by simp[f29]) ?_;simp[f29,ad];refine cp hc (by simp;exact⟨rfl,rfl⟩) ?_;simp[dU]
structure V2 where
 x:Rat
 y:Rat
def eV(v:V2):PV:=fZ ⟨bH v.x,bH v.y⟩
@[simp] theorem aIf(v:V2):aJ (eV v)=.agg 41:=rfl
@[simp] theorem aFz(v:V2):cj (eV v)=[.str (bH v.x),.str (bH v.y)]:=rfl
theorem M6(x y:Rat):eV ⟨x,y⟩=.st 41 [.str (bH x),.str (bH y)]:=rfl
def cX(k:Nat)(v:V2):Prop:=bP k v.x/\bP k v.y
theorem cX.mono{k l:Nat}{v:V2}(h:cX k v)(a:k<=l):cX l v:=⟨h.1.mono a,h.2.mono a⟩
def V2.sub(v w:V2):V2:=⟨v.x-w.x,v.y-w.y⟩
def V2.add(v w:V2):V2:=⟨v.x+w.x,v.y+w.y⟩
def V2.mul(v:V2)(k:Rat):V2:=⟨v.x*k,v.y*k⟩
def V2.dot(v w:V2):Rat:=v.x*w.x+v.y*w.y
def V2.iw(v w:V2):Rat:=v.x*w.y-v.y*w.x
theorem lO{k l:Nat}{v w:V2}(h:cX k v)(a:cX l w):cX (k+l+1) (v.sub w):=⟨wD h.1 a.1,wD h.2 a.2⟩
theorem zU{k l:Nat}{v w:V2}(h:cX k v)(a:cX l w):bP (k+l+(k+l)+1) (v.dot w):=Km (ku h.1 a.1) (ku h.2 a.2)
theorem Ph{k l:Nat}{v w:V2}(h:cX k v)(a:cX l w):bP (k+l+(k+l)+1) (v.iw w):=wD (ku h.1 a.2) (ku h.2 a.1)
def kQ:Nat:=20000
theorem fE{q:Rat}(h:bP kQ q):bP kB q:=h.mono (by decide)
theorem yT(v w:V2)(a:cX kQ v)(b:cX kQ w):az prog 58 [eV v,eV w] (eV (v.sub w)):=by
 have c:=xX v.x w.x (fE a.1) (fE b.1);have d:=xX v.y w.y (fE a.2) (fE b.2);refine aL nf NJ mix (by simp[f58]) ?_;rw[V2.sub,M6];simp[f58,ad];refine e2 c ?_;simp[ad];refine e2 d ?_;simp[ad]
theorem Wi(v w:V2)(a:cX kQ v)(b:cX kQ w):az prog 57 [eV v,eV w] (.str (bH (v.dot w))):=by
 have c:=xY v.x w.x (fE a.1) (fE b.1);have d:=xY v.y w.y (fE a.2) (fE b.2);have e:=My (v.x*w.x) (v.y*w.y) ((ku a.1 b.1).mono (by decide)) ((ku a.2 b.2).mono (by decide));refine aL nf NH mix (by simp[f57]) ?_;rw[V2.dot];simp[f57,ad];refine e2 c ?_;simp[ad];refine e2 d ?_;simp[ad];refine e2 e ?_;simp
theorem Pk(v w:V2)(a:cX kQ v)(b:cX kQ w):az prog 193 [eV v,eV w] (.str (bH (v.iw w))):=by
 have c:=xY v.x w.y (fE a.1) (fE b.2);have d:=xY v.y w.x (fE a.2) (fE b.1);have e:=xX (v.x*w.y) (v.y*w.x) ((ku a.1 b.2).mono (by decide)) ((ku a.2 b.1).mono (by decide));refine aL nf Eb mix (by simp[f193]) ?_;rw[V2.iw];simp[f193,ad];refine e2 c ?_;simp[ad];refine e2 d ?_;simp[ad];refine e2 e ?_;simp
theorem FU(v:V2)(a:cX kQ v):az prog 115 [eV v] (.str (bH (v.dot v))):=by
 refine aL nf L5 mix (by simp[f115]) ?_;simp[f115,ad];refine c2 (Wi v v a a) ?_;simp
def pV(r:Int):Rat:=((4*r*r:Int):Rat)
theorem xT{r:Int}(a:0<=r)(b:r<=1000000):0<=4*r*r/\4*r*r<=4000000000000:=by
 have c:=ck a a;have d:=Int.mul_le_mul b b a (by decide);rw[Int.mul_assoc];omega
theorem FR{r:Int}(a:0<=r)(b:r<=1000000):bP 42 (pV r):=by
 have:=xT a b;exact xP (by omega) (by decide)
structure S3 where
 a:Rat
 b:Rat
 d:Rat
def vB(k:Nat)(s:S3):Prop:=bP k s.a/\bP k s.b/\bP k s.d
theorem vB.mono{k l:Nat}{s:S3}(h:vB k s)(a:k<=l):vB l s:=⟨h.1.mono a,h.2.1.mono a,h.2.2.mono a⟩
def S3.add(s t:S3):S3:=⟨s.a+t.a,s.b+t.b,s.d⟩
def S3.mul(s t:S3):S3:=⟨s.a*t.a+s.b*t.b*s.d,s.a*t.b+t.a*s.b,s.d⟩
def S3.times(x:Rat)(s:S3):S3:=⟨x*s.a,x*s.b,s.d⟩
def kS:Nat:=8000
structure P4 where
 x:S3
 y:S3
def C7(k:Nat)(p:P4):Prop:=vB k p.x/\vB k p.y
theorem C7.mono{k l:Nat}{p:P4}(h:C7 k p)(a:k<=l):C7 l p:=⟨h.1.mono a,h.2.mono a⟩
def P4.dot(v:V2)(p:P4):S3:=(S3.times v.x p.x).add (S3.times v.y p.y)
def sg3(a b o:Int):Int:=if 0<=a*b then(if a=0 then b else a)else a*o
def sgS(s:S3):Int:=sg3 (gL s.a) (gL s.b*gL s.d) (dJ (s.a*s.a) (s.b*s.b*s.d))
namespace Hk
def jQ:Nat:=9223372036854775808
def yc:Nat:=1606938044258990275541962092341162602522202993782792835301376
def o8{α:Type}(n:Nat)(f:Nat->α):α:=match n with
 |0=>f 0
 |k+1=>f (k+1)
theorem uN{α:Type}(n:Nat)(f:Nat->α):o8 n f=f n:=by cases n<;>rfl
def y0{α:Type}(z:Int)(f:Int->α):α:=match z with
 | .ofNat n=>o8 n fun n=>f (.ofNat n)
 | .negSucc n=>o8 n fun n=>f (.negSucc n)
theorem KB{α:Type}(z:Int)(f:Int->α):y0 z f=f z:=by cases z<;>simp[y0,uN]
def nP:Int->Bool
 | .ofNat n=>e9 n jQ
 | .negSucc n=>e9 (n+1) jQ
theorem xZ{z:Int}:nP z=true↔z.natAbs<9223372036854775808:=by
 cases z with
 |ofNat n=>simp only[nP,fd,jQ];exact Iff.rfl
 |negSucc n=>simp only[nP,fd,jQ];exact Iff.rfl
def nK:Int->Int->Bool
 | .ofNat a,.ofNat b=>en a b
 | .negSucc a,.negSucc b=>en a b
 |_,_=>false
theorem yr:∀{a b:Int},nK a b=true->a=b
 | .ofNat a,.ofNat b,h=>by simp only[nK]at h;rw[em h]
 | .negSucc a,.negSucc b,h=>by simp only[nK]at h;rw[em h]
 | .ofNat a,.negSucc b,h=>by simp[nK]at h
 | .negSucc a,.ofNat b,h=>by simp[nK]at h
def s8(z:Int):Option PV:=bif nP z then some (eJ z)else bif en z.natAbs jQ then none else some (jP z)
theorem xH{z:Int}{p:PV}(h:s8 z=some p)(m:Bool):eI ⟨z,m⟩=p:=by
 unfold s8 at h;rw[iM];rcases hs:nP z with _|_
 ·simp only[hs,cond_false]at h;rcases a:en z.natAbs jQ with _|_
  case true=>rw[a]at h;cases h
  ·have c:¬en z.natAbs jQ=true:=by rw[a];decide
   rw[a,cond_false]at h;simp only[g4]at h;have b:¬z.natAbs<9223372036854775808:=fun h=>by rw[xZ.2 h]at hs;cases hs
   have d:z.natAbs≠9223372036854775808:=fun e=>c (by rw[e];rfl);rw[if_neg,h];simp only[NI.sm,bk,decide_eq_true_eq,be,not_or,not_and];exact⟨by omega,fun h=>by omega⟩
 ·simp only[hs,cond_true,g4]at h;have b:=xZ.1 hs;rw[if_pos,h];simp only[NI.sm,bk,decide_eq_true_eq,be];exact .inl (by omega)
def vI:List PV->Option (List Nat)
 |[]=>some []
 | .int .u64 (.ofNat x)::r=>match vI r with
  |some l=>some (x::l)
  |none=>none
 |_=>none
theorem Li:∀{l:List PV}{a:List Nat},vI l=some a->l=a.map fun x:Nat=>PV.int .u64 x
 |[],a,h=>by simp only[vI,g4]at h;subst h;rfl
 |v::r,a,h=>by
  unfold vI at h
  split at h
  ·rename_i e;cases e
  ·rename_i x c e;cases e
   split at h
   ·rename_i l b;simp only[g4]at h;subst h;rw[Li b];rfl
   ·cases h
  ·cases h
def rh:List Nat->List Nat->Bool
 |[],[]=>true
 |x::a,y::b=>bif en x y then rh a b else false
 |_,_=>false
theorem Bv:∀{a b:List Nat},rh a b=true->a=b
 |[],[],_=>rfl
 |[],_::_,h=>by simp[rh]at h
 |_::_,[],h=>by simp[rh]at h
 |x::a,y::b,h=>by
  simp only[rh,bb]at h
  split at h
  ·rename_i hx;rw[em hx,Bv h]
  ·cases h
def yY:PV->Option Int
 | .st u [.int .i64 z,.aO]=>bif en u 130 then(bif nP z then some z else none)else none
 | .st u [.int .i64 s,.seq l]=>match vI l with
  |some a=>o8 (iv wB a) fun n=>bif en u 130&&(e9 jQ n&&rh (an wB n) a)then
   (bif nK s 1 then some (.ofNat n)else bif nK s (-1)then some (.negSucc (n-1))else none)else none
  |none=>none
 |_=>none
theorem KD{p:PV}{z:Int}(h:yY p=some z):p=eI ⟨z,false⟩:=by
 unfold yY at h
 split at h
 ·rename_i u y;simp only[bb]at h
  split at h
  ·rename_i g
   split at h
   ·rename_i hs;simp only[g4]at h;subst h;rw[em g];exact(xH (by rw[s8,hs];rfl) false).symm
   ·cases h
  ·cases h
 ·rename_i u s l
  split at h
  ·rename_i i f;rw[uN]at h;have e:=Li f;generalize iv wB i=n at h;simp only[bb]at h
   split at h
   ·rename_i hc;simp only[be,fd]at hc;obtain⟨b,j,c⟩:=hc;have d:=Bv c;have k:jQ=9223372036854775808:=rfl;rw[em b,e,<-d];have key:∀z:Int,z.natAbs=n->eI ⟨z,false⟩=jP z:=fun z m=>by
     refine xH ?_ false;have e1:nP z=false:=by
      rcases a:nP z with _|_
      ·rfl
      ·have:=xZ.1 a;omega
     have e2:en z.natAbs jQ=false:=by
      rcases a:en z.natAbs jQ with _|_
      ·rfl
      ·have:=em a;omega
     rw[s8,e1,e2];rfl
    split at h
    ·rename_i hs;simp only[g4]at h;subst h;rw[yr hs,key _ rfl,jP,if_neg (by show¬((n:Int)<0);omega)];rfl
    ·split at h
     ·rename_i hs;simp only[g4]at h;subst h;rw[yr hs,key _ (by show n-1+1=n;omega),jP,if_pos (by omega)];have:(cx (n-1)).natAbs=n:=by show n-1+1=n;omega
      rw[this];rfl
     ·cases h
   ·cases h
  ·cases h
 ·cases h
def C9(n:Int)(d:Nat):Bool:=e9 0 d&&(e9 n.natAbs yc&&(e9 d yc&&en (e8 n.natAbs d) 1))
def o6:PV->Option (Int×Nat)
 | .st u [a,b]=>match yY a,yY b with
  |some n,some (.ofNat d)=>bif en u 132&&C9 n d then some (n,d)else none
  |_,_=>none
 |_=>none
def fr(n:Int)(d:Nat):NF:=⟨g5 n d,false⟩
theorem Tf:yc=2^200:=by decide
theorem BA{p:PV}{n:Int}{d:Nat}(h:o6 p=some (n,d)):p=eF (fr n d)/\d≠0/\bP kB (fr n d).q:=by
 unfold o6 at h
 split at h
 case h_2=>cases h
 rename_i u a b
 split at h
 case h_2=>cases h
 rename_i c d' j k;simp only[bb]at h
 split at h
 case isFalse=>cases h
 rename_i hc;simp only[g4,Prod.mk.injEq]at h;obtain⟨rfl,rfl⟩:=h;simp only[C9,be,fd]at hc;obtain⟨c1,c2,c3,c4,c5⟩:=hc;have f:=em c5;have e:d'≠0:=by omega
 obtain⟨e1,e2⟩:=lj (n:=c) e;rw[f]at e1 e2;simp only[c9,da,ge]at e1 e2;rw[Tf]at c3 c4;refine⟨?_,e,(Bi e c3 c4).mono (by decide)⟩;rw[em c1,KD j,KD k,eF];have g:(fr c d').num=⟨c,false⟩:=by rw[NF.num,fr,e1]
 have i:(fr c d').den=⟨(d':Int),false⟩:=by rw[NF.den,fr,e2];rfl
 rw[g,i];rfl
def mH(n:Int)(d:Nat):Option PV:=
 o8 (e8 n.natAbs d) fun g=>y0 (n/g) fun n=>o8 (d/g) fun d=>match s8 n,s8 (.ofNat d)with
  |some a,some b=>some (.st 132 [a,b])
  |_,_=>none
theorem oI{n:Int}{d:Nat}{p:PV}(i:d≠0)(h:mH n d=some p)(m:Bool):p=eF ⟨g5 n d,m⟩:=by
 obtain⟨e1,e2⟩:=lj (n:=n) i;simp only[mH,uN,KB]at h
 split at h
 case h_2=>cases h
 rename_i a b f g;simp only[g4]at h;subst h;rw[eF];have c:(NF.num ⟨g5 n d,m⟩)=⟨n/(e8 n.natAbs d:Nat),m⟩:=by rw[NF.num,e1]
 have e:(NF.den ⟨g5 n d,m⟩)=⟨((d/e8 n.natAbs d:Nat):Int),false⟩:=by rw[NF.den,e2];rfl
 rw[c,e,xH f,<-xH g false];rfl
def two(op:Int->Nat->Int->Nat->Option PV)(a b:PV):Option PV:=match o6 a,o6 b with
 |some (n,d),some (m,e)=>op n d m e
 |_,_=>none
theorem uR{op:Int->Nat->Int->Nat->Option PV}{a b p:PV}(h:two op a b=some p):
 ∃n d m e,a=eF (fr n d)/\b=eF (fr m e)/\d≠0/\e≠0/\bP kB (fr n d).q/\bP kB (fr m e).q/\op n d m e=some p:=by
 unfold two at h
 split at h
 case h_2=>cases h
 rename_i n d m e j k;obtain⟨c,a2,a3⟩:=BA j;obtain⟨f,g,i⟩:=BA k;exact⟨n,d,m,e,c,f,a2,g,a3,i,h⟩
def Oj(n:Int)(d:Nat)(m:Int)(e:Nat):Option PV:=mH (n*e+m*d) (d*e)
def Ol(n:Int)(d:Nat)(m:Int)(e:Nat):Option PV:=mH (n*e-m*d) (d*e)
def Ok(n:Int)(d:Nat)(m:Int)(e:Nat):Option PV:=mH (n*m) (d*e)
def zm:Int->Int
 | .ofNat n=>bif en n 0 then 0 else 1
 | .negSucc _=>-1
theorem JX(z:Int):zm z=if z<0 then -1 else if z=0 then 0 else 1:=by
 cases z with
 |ofNat n=>
  rw[if_neg (by simp)];cases n with
  |zero=>rfl
  |succ n=>rw[if_neg (by simp;omega)];rfl
 |negSucc n=>rw[if_pos (by omega)];rfl
def C6(n:Int)(d:Nat)(m:Int)(e:Nat):Option PV:=some (.int .i64 (zm (n*e-m*d)))
def ze(n:Int)(d:Nat)(m:Int)(e:Nat):Option PV:=match m with
 | .ofNat k=>bif en k 0 then none else mH (n*e) (d*k)
 | .negSucc k=>mH (-(n*e)) (d*(k+1))
theorem sY{d:Nat}(h:d≠0):(d:Int)≠0:=by omega
theorem Wz{n m:Int}{d e:Nat}{p:PV}(a:d≠0)(b:e≠0)(h:Oj n d m e=some p):p=eF ((fr n d).add (fr m e)):=by
 rw[NF.add,fr,fr];dsimp only;rw[ha _ _ (sY a) (sY b)];have:=oI (e7 a b) h;rw[b1]at this;exact this _
theorem WC{n m:Int}{d e:Nat}{p:PV}(a:d≠0)(b:e≠0)(h:Ol n d m e=some p):p=eF ((fr n d).sub (fr m e)):=by
 rw[NF.sub,NF.add,NF.neg,fr,fr];dsimp only;rw[hg,ha _ _ (sY a) (sY b)];have:=oI (e7 a b) h;rw[b1]at this;rw[Int.neg_mul,<-Int.sub_eq_add_neg];exact this _
theorem WB{n m:Int}{d e:Nat}{p:PV}(a:d≠0)(b:e≠0)(h:Ok n d m e=some p):p=eF ((fr n d).mul (fr m e)):=by
 rw[NF.mul,fr,fr];dsimp only;rw[g7];have:=oI (e7 a b) h;rw[b1]at this;exact this _
theorem VD(x y:Rat):dJ x y=if x-y<0 then -1 else if x-y=0 then 0 else 1:=by
 have b:x-y<0↔x<y:=by
  constructor
  ·intro h;have a:=(hb (c:=y)).2 h
   rwa [g6,g8]at a
  ·intro h;refine(hb (c:=y)).1 ?_
   rwa [g6,g8]
 have a:x-y=0↔x=y:=by
  constructor
  ·intro h;have d:=congrArg (·+y) h
   simpa[g6,g8]using d
  ·intro h;rw[h,hl]
 simp only[dJ,b,a]
theorem AM(n:Int){d:Nat}(i:d≠0):(if g5 n d<0 then(-1:Int)else if g5 n d=0 then 0 else 1)=zm n:=by
 rw[Cf,JX];obtain⟨e1,-⟩:=lj (n:=n) i;have k:0<e8 n.natAbs d:=e6 _ (by omega);have j:((e8 n.natAbs d:Nat):Int)∣n:=by
  rw[b5];exact fm _ _
 obtain⟨c,hc⟩:=j;rw[e1];generalize e8 n.natAbs d=g at*;have a:(0:Int)<g:=by omega
 subst hc;rw[b0 _ (by omega)];have b:(g:Int)*c<0↔c<0:=by
  constructor
  ·intro h;refine Int.not_le.1 fun f=>?_;have:=ck (Int.le_of_lt a) f;omega
  ·intro h;exact cv a h
 have e:(g:Int)*c=0↔c=0:=by
  rw[Int.mul_eq_zero];constructor
  ·rintro(h|h)
   ·omega
   ·exact h
  ·exact fun h=>.inr h
 simp only[b,e]
theorem WA{n m:Int}{d e:Nat}{p:PV}(a:d≠0)(b:e≠0)(h:C6 n d m e=some p):p=.int .i64 (dJ (fr n d).q (fr m e).q):=by
 simp only[C6,g4]at h;rw[<-h,VD,fr,fr];dsimp only;rw[Rat.divInt_sub_divInt _ _ (sY a) (sY b),<-b1,AM _ (e7 a b)]
theorem LY{n m:Int}{d e:Nat}{p:PV}(a:d≠0)(c:e≠0)(h:ze n d m e=some p):p=eF ((fr n d).div (fr m e))/\(fr m e).q≠0:=by
 have b:m≠0->(fr m e).q≠0:=fun g hq=>by
  rw[fr]at hq;dsimp only at hq;have:=AM m c;rw[hq,if_neg (by decide),if_pos rfl,JX]at this
  split at this
  ·omega
  ·first
     |omega
     |(rw[if_neg g]at this;omega)
 rw[NF.div,fr,fr];dsimp only;unfold ze at h;cases m with
 |ofNat k=>
  simp only[bb]at h
  split at h
  ·cases h
  ·rename_i hk;have f:k≠0:=fun e=>hk (by rw[e];rfl);have:=oI (e7 a f) h;refine⟨?_,b (by show(k:Int)≠0;omega)⟩;have e:(g5 n d:Rat)/g5 (Int.ofNat k) e=g5 (n*e) (d*k):=by
    rw[g9,hj,g7];rfl
   rw[e];rw[b1]at this;exact this _
 |negSucc k=>
  dsimp only at h;have:=oI (e7 a (Nat.succ_ne_zero k)) h;refine⟨?_,b (by omega)⟩;have e:(g5 n d:Rat)/g5 (cx k) e=g5 (-(n*e)) ((d:Int)*((k+1:Nat):Int)):=by
   rw[g9,hj,g7];rw[show cx k= -((k+1:Nat):Int)from rfl,Int.mul_neg];rw[Rat.divInt_neg']
  rw[e];rw[b1]at this;exact this _
def zd:Nat->Nat->Nat
 |0,_=>0
 |f+1,n=>bif en n 0 then 0 else zd f (n/10)+1
theorem Wd{a b:Nat}(h:a<b):e9 a b=true:=by rw[fd];exact h
theorem yW{a b:Nat}(h:e9 a b=true):a<b:=by rw[fd]at h;exact h
theorem LN:∀(f n:Nat),n<10^f->zd f n=nd n
 |0,n,h=>by
  have:n=0:=by simpa using h
  subst this;rw[nd];rfl
 |f+1,n,h=>by
  rw[zd,nd]
  by_cases a:n=0
  ·subst a;rfl
  ·have b:en n 0=false:=by
    rcases c:en n 0 with _|_
    ·rfl
    ·exact(a (em c)).elim
   rw[b,cond_false,dif_neg a,LN f (n/10) (by rw[gj (by omega)];rw[fv]at h;exact h)]
def tx(n:Nat):List Nat:=o8 (zd 80 n) fun k=>bif e9 1 k then low k n else low 1 n
theorem yx{n:Nat}(h:n<10^80):tx n=bm n:=by
 rw[tx,uN,LN _ _ h,bm];rcases a:e9 1 (nd n)with _|_
 ·have:¬1<nd n:=fun b=>by rw[Wd b]at a;cases a
  rw[cond_false,Nat.max_eq_left (by omega)]
 ·have:1<nd n:=yW a;rw[cond_true,Nat.max_eq_right (by omega)]
def Dm:Int->List Nat
 | .ofNat n=>tx n
 | .negSucc n=>45::tx (n+1)
theorem aBY{z:Int}(h:z.natAbs<10^80):Dm z=cE z:=by
 cases z with
 |ofNat n=>rw[cE,if_neg (by show¬((n:Int)<0);omega)];exact yx h
 |negSucc n=>rw[cE,if_pos (by omega)];exact congrArg (45::·) (yx h)
def Dl(n:Int)(d:Nat):List Nat:=bif en d 1 then Dm n else Dm n++47::tx d
theorem Jf{n:Int}{d:Nat}(a:d≠0)(b:e8 n.natAbs d=1):(fr n d).q.num=n/\(fr n d).q.den=d:=by
 obtain⟨e1,e2⟩:=lj (n:=n) a;rw[b]at e1 e2;simp only[c9,da,ge]at e1 e2;exact⟨e1,e2⟩
theorem Jk{p:PV}{n:Int}{d:Nat}(h:o6 p=some (n,d)):e8 n.natAbs d=1/\n.natAbs<10^80/\d<10^80:=by
 unfold o6 at h
 split at h
 case h_2=>cases h
 split at h
 case h_2=>cases h
 simp only[bb]at h
 split at h
 case isFalse=>cases h
 rename_i hc;simp only[g4,Prod.mk.injEq]at h;obtain⟨rfl,rfl⟩:=h;simp only[C9,be,fd]at hc;obtain⟨c1,c2,c3,c4,c5⟩:=hc;have a:yc<10^80:=by decide
 exact⟨em c5,by omega,by omega⟩
theorem aBX{p:PV}{n:Int}{d:Nat}(h:o6 p=some (n,d))(f:d≠0):Dl n d=bH (fr n d).q:=by
 obtain⟨g,b,c⟩:=Jk h;obtain⟨e1,e2⟩:=Jf f g;rw[Dl,bH,e1,e2,aBY b,yx c];rcases a:en d 1 with _|_
 ·rw[cond_false,if_neg (fun e=>by rw[e]at a;cases a)]
 ·rw[cond_true,if_pos (em a)]
def o5:List Nat->Nat->Bool
 |[],_=>true
 |c::r,f=>match f with
  |0=>false
  |f+1=>bif e9 c 256 then o5 r f else false
theorem uV:∀{s:List Nat}{f:Nat},o5 s f=true->s.length<=f/\∀c∈s,c<256
 |[],_,_=>⟨fl _,fun c hc=>by cases hc⟩
 |c::r,0,h=>by simp[o5]at h
 |c::r,f+1,h=>by
  simp only[o5,bb]at h
  split at h
  ·rename_i hc;obtain⟨b,a⟩:=uV h;refine⟨by simp;omega,fun x hx=>?_⟩;rcases ei.1 hx with rfl|hx
   ·exact yW hc
   ·exact a x hx
  ·cases h
def Of(z:Int):Bool:=match z with
 | .ofNat n=>en n 0
 |_=>false
theorem axF{z:Int}(h:Of z=true):z=0:=by
 cases z with
 |ofNat n=>rw[em (show en n 0=true from h)];rfl
 |negSucc n=>cases h
def CM(n:Int)(d:Nat):Option PV:=bif en d 0 then none else mH n d
theorem XD{n:Int}{d:Nat}{p:PV}(h:CM n d=some p)(m:Bool):p=eF ⟨g5 n d,m⟩:=by
 unfold CM at h;rcases a:en d 0 with _|_
 ·rw[a]at h;exact oI (fun e=>by rw[e]at a;cases a) h m
 ·rw[a]at h;cases h
def CN(s:List Nat):Option PV:=bif Of (bU s)&&o5 s 1000 then
 y0 (if bQ s=true then -(aU (bA s):Int)else aU (bA s)) fun n=>o8 (if dO s=true then aU (bJ s)else 1) fun d=>CM n d else none
theorem XE{s:List Nat}{p:PV}(h:CN s=some p):p=eF ⟨bh s,false⟩/\bU s=0/\s.length<=1048576:=by
 unfold CN at h;simp only[bb,KB,uN]at h
 split at h
 case isFalse=>cases h
 rename_i hc;rw[be]at hc;obtain⟨c1,c2⟩:=hc;obtain⟨a,b⟩:=uV c2;refine⟨?_,axF c1,by omega⟩;rw[bh];exact XD h false
def Ng:Int->Bool
 | .ofNat n=>e9 n jQ
 | .negSucc n=>e9 n jQ
theorem X6{z:Int}(h:Ng z=true):-9223372036854775808<=z/\z<=9223372036854775807:=by
 cases z with
 |ofNat n=>have:n<9223372036854775808:=yW h;refine⟨?_,?_⟩<;>show _<=_<;>simp only[Int.ofNat_eq_natCast]<;>omega
 |negSucc n=>have:n<9223372036854775808:=yW h;omega
def Db(f:Nat)(a:PV):Option PV:=match a with
 | .int .i64 z=>bif en f 68&&Ng z then mH z 1 else none
 | .str s=>bif en f 93 then CN s else bif en f 174&&o5 s 1000 then some (.int .i64 (bU s))else none
 | .st u [.str x,.str y]=>bif en f 106&&(en u 41&&(o5 x 1000&&o5 y 1000))then some (.int .i64 (dU ⟨x,y⟩))else none
 | .st u [c,e]=>match o6 (.st u [c,e])with
  |some (n,d)=>bif en f 206 then mH (-n) d else
   bif en f 109 then some (.int .i64 (zm n))else
   bif en f 169 then ze 1 1 n d else
   bif en f 168 then some (.str (Dl n d))else
   bif en f 167 then some (.bool false)else none
  |none=>none
 |_=>none
def tv(f:Nat)(a b:PV):Option PV:=
 bif en f 70 then two Oj a b else
 bif en f 166 then two Ol a b else
 bif en f 165 then two Ok a b else
 bif en f 73 then two ze a b else
 bif en f 110 then two C6 a b else none
def hk(f:Nat):List PV->Option PV
 |[a]=>Db f a
 |[a,b]=>tv f a b
 |_=>none
theorem MZ(z:Int):g5 z ((1:Nat):Int)=(z:Rat):=by
 rw[show((1:Nat):Int)=1 from rfl,Rat.divInt_eq_div];rw[show((1:Int):Rat)=1 from rfl,g9,show(1:Rat)⁻¹=1 from by decide+kernel,Rat.mul_one]
theorem bq{a b:Nat}(h:en a b=true):a=b:=em h
theorem azy{f:Nat}{a v:PV}(h:Db f a=some v):az prog f [a] v:=by
 unfold Db at h
 split at h
 ·rename_i z;simp only[bb]at h
  split at h
  ·rename_i hc;rw[be]at hc;obtain⟨w,A⟩:=X6 hc.2;rw[bq hc.1,oI (by decide) h true];have:=sX z w A;rw[NF.int]at this;rw[MZ];exact this
  ·cases h
 ·rename_i s;simp only[bb]at h
  split at h
  ·rename_i hf;obtain⟨e1,e2,e3⟩:=XE h;rw[bq hf,e1];exact mE s e2 e3
  ·split at h
   ·rename_i hc;rw[be]at hc;obtain⟨j,b⟩:=uV hc.2;simp only[g4]at h;subst h;rw[bq hc.1];exact yB s (by omega) b
   ·cases h
 ·rename_i u x y;simp only[bb]at h
  split at h
  ·rename_i hc;simp only[be]at hc;obtain⟨c1,c2,c3,c4⟩:=hc;obtain⟨j,b⟩:=uV c3;obtain⟨B,p⟩:=uV c4;simp only[g4]at h;subst h;rw[bq c1,bq c2];exact zS ⟨x,y⟩ ⟨⟨by show x.length<=_;omega,b⟩,⟨by show y.length<=_;omega,p⟩⟩
  ·cases h
 ·rename_i u c e _
  split at h
  case h_2=>cases h
  rename_i n d l;obtain⟨t,g,i⟩:=BA l;rw[t];simp only[bb]at h
  split at h
  ·rename_i hf;rw[bq hf,oI g h false,<-hg];exact Jt _ i
  split at h
  ·rename_i hf;simp only[g4]at h;subst h;rw[bq hf,<-AM n g];exact BU _
  split at h
  ·rename_i hf;obtain⟨e1,e2⟩:=LY (by decide) g h;have e3:(fr 1 1).div (fr n d)=(fr n d).inv:=by
    rw[NF.div,NF.inv,fr,fr];dsimp only;rw[MZ,g9];rw[show((1:Int):Rat)=1 from rfl,Rat.one_mul]
   rw[bq hf,e1,e3];exact Ju _ i e2
  split at h
  ·rename_i hf;simp only[g4]at h;subst h;rw[bq hf,aBX l g];exact G0 _ i
  split at h
  ·rename_i hf;simp only[g4]at h;subst h;rw[bq hf];have m:=Hu _ i;obtain⟨q,j,b⟩:=Jk l;obtain⟨e1,e2⟩:=Jf g q;have o:∀k,k<10^80->jV k=false:=fun k hk=>by
    rw[jV,decide_eq_false_iff_not];have C:nd k<=80:=Nat.not_lt.1 fun r=>by have:=(nI _ _).1 r;omega
    rw[sc];omega
   rw[vx,e1,e2,o _ j,o _ b]at m;exact m
  ·cases h
 ·cases h
theorem aBF{f:Nat}{a b v:PV}(h:tv f a b=some v):az prog f [a,b] v:=by
 unfold tv at h;simp only[bb]at h
 split at h
 ·rename_i hf;obtain⟨n,d,m,e,rfl,rfl,c,g,j,k,i⟩:=uR h;rw[bq hf,Wz c g i];exact Cv _ _ j k
 split at h
 ·rename_i hf;obtain⟨n,d,m,e,rfl,rfl,c,g,j,k,i⟩:=uR h;rw[bq hf,WC c g i];exact xW _ _ j k
 split at h
 ·rename_i hf;obtain⟨n,d,m,e,rfl,rfl,c,g,j,k,i⟩:=uR h;rw[bq hf,WB c g i];exact sq _ _ j k
 split at h
 ·rename_i hf;obtain⟨n,d,m,e,rfl,rfl,c,g,j,k,i⟩:=uR h;obtain⟨e1,e2⟩:=LY c g i;rw[bq hf,e1];exact Wt _ _ j k e2
 split at h
 ·rename_i hf;obtain⟨n,d,m,e,rfl,rfl,c,g,j,k,i⟩:=uR h;rw[bq hf,WA c g i];exact oY _ _ j k
 ·cases h
theorem X1{f:Nat}{vs:List PV}{v:PV}(h:hk f vs=some v):az prog f vs v:=by
 unfold hk at h
 split at h
 ·exact azy h
 ·exact aBF h
 ·cases h
end Hk
theorem aB9{n:Nat}(h:n<10^80):bH ((n:Nat):Rat)=Hk.tx n:=by
 rw[Hk.yx h,bH,if_pos (by rfl),cE,if_neg (by show¬((n:Int)<0);omega)];rfl
end Go.aw
