import Derived.Test.YtgpphcmkjhklgaaGreatDoorPL
import Derived.Test.YtgpphcmkjhklgaaGreatDoorThE
import Derived.Test.YtgpphcmkjhklgaaGreatDoorPK
/- Parts of a proof. -/
set_option linter.unusedSimpArgs false
set_option linter.unusedVariables false
set_option linter.unusedSectionVars false
open Go.Proofs.Tryz
open Bool renaming and_eq_true->ab
open Go.IntKind renaming i64->ac
open List renaming mem_of_getElem?->am, foldl_cons->ao, getElem?_map->ap, length_filter_le->av, mem_cons_self->ax, take_add_one->ay, take_length->aT, append_nil->a0, getElem?_eq_getElem->a1, map_nil->a4, mem_cons_of_mem->a5, range->a6, prefix_append->a7, length_append->a8, foldl_append->a9, append_assoc->bb, prefix_refl->be, length_cons->bi, cons_append->bk, range_succ->bl, nil_append->bo, length_map->bv, map_cons->b0
open Nat renaming le_trans->b1, lt_of_lt_of_le->b2, sub_self->b3, le_refl->b4
namespace Go.aw
open Go.Proofs
set_option maxHeartbeats 4000000
set_option maxRecDepth 100000
def hasB(b:aB)(name:List Nat)(i:Nat):Prop:=mN b name=i/\i<b.aq.length/\CQ b.aq name=some (b.sp i)
structure On(t b:aB)(CK CE:List Nat)(i j:Nat):Prop where
 rk:gp t=0
 tl:t.cs.length<=1000000
 L:Om b
 Wa:∀s∈b.aq,cX 60 (vP s.pt)
 ci:hasB b CK i
 bj:hasB b CE j
theorem On.at{t b:aB}{CK CE:List Nat}{i j:Nat}(h:On t b CK CE i j){k:Nat}(hk:k<b.aq.length):eV (vP (b.sp k).pt)=fZ (b.sp k).pt/\cX 60 (vP (b.sp k).pt):=by
 have m:=am (aB.dE hk);exact⟨(kX (h.L.sp _ m).2).1,h.Wa _ m⟩
def nO(n:Nat)(l:List cH):Bool:=!((decide (n<l.length)&&decide (l.length<=24))||decide (26<l.length))&&l.all gl
theorem PU(b:aB)(n:Nat)(v:b.aq.length<=1000000)(w:n<=1000):az prog 32 [.seq (b.aq.map bC),.int .i64 n] (.bool (nO n b.aq)):=by
 refine aL nf Nt mix (by simp[f32]) ?_;have o:nO n b.aq=(!((decide (n<b.aq.length)&&decide (b.aq.length<=24))||decide (26<b.aq.length))&&b.aq.all gl):=rfl;have tail:(n<b.aq.length->¬b.aq.length<=24)->¬26<b.aq.length->nO n b.aq=b.aq.all gl:=fun d a=>by
  rw[o]
  by_cases h:n<b.aq.length
  ·have:=d h;simp[h,this,a]
  ·simp[h,a]
 have loop:(n<b.aq.length->¬b.aq.length<=24)->¬26<b.aq.length->∀i,i<b.aq.length->(gl (b.sp i)=false->nO n b.aq=false):=fun d a i hi h=>by
  rw[tail d a];exact jz (aB.dE hi) h
 generalize nO n b.aq=R at*
 by_cases c1:n<b.aq.length/\b.aq.length<=24
 ·have z:(n:Int)<b.aq.length:=by omega
  have e:(b.aq.length:Int)<=24:=by omega
  have l:R=false:=by rw[o];simp[c1]
  simp[f32,ad,c1.1,e,l]
 by_cases c2:26<b.aq.length
 ·have g:(26:Int)<b.aq.length:=by omega
  have e:¬(b.aq.length:Int)<=24:=by omega
  have l:R=false:=by rw[o];simp[c2]
  by_cases c3:n<b.aq.length
  ·simp[f32,ad,c3,e,g,l]
  ·simp[f32,ad,c3,g,l]
 have g:¬(26:Int)<b.aq.length:=by omega
 have tl:=tail (fun d a=>c1 ⟨d,a⟩) c2;have j:=loop (fun d a=>c1 ⟨d,a⟩) c2;clear tail loop o
 by_cases c3:n<b.aq.length
 all_goals
  have e:n<b.aq.length->¬(b.aq.length:Int)<=24:=fun h=>by omega
  first
  |(have e:=e c3;simp[f32,ad,c3,e,g])
  |simp[f32,ad,c3,g]
  refine lp (α:=Nat) (fun i=>⟨[(5,.p (.int .i64 i)),(0,.p (.seq (b.aq.map bC)))],[]⟩) (fun i=>i<=b.aq.length/\(b.aq.take i).all gl=true) (fun i=>b.aq.length-i) 0 (by simp) ?_;rintro i ⟨k1,k2⟩
  by_cases hi:i<b.aq.length
  ·have c:=aB.dE hi;have u:=b8 (i:=i) (by omega);have k:=lZ (b.sp i).pt.x 40;have q:=lZ (b.sp i).pt.y 40;have m:gl (b.sp i)=(decide ((b.sp i).name.length<=40)&&(decide ((b.sp i).pt.x.length<=40)&&decide ((b.sp i).pt.y.length<=40))):=rfl;have j:=j i hi
   by_cases t:(b.sp i).name.length<=40
   case neg=>
    have f:(40:Int)<(b.sp i).name.length:=by omega
    have:=j (by rw[m];simp[t]);simp[hi,c,f,this,ad]
   have f:¬(40:Int)<(b.sp i).name.length:=by omega
   by_cases a2:(b.sp i).pt.x.length<=40
   case neg=>
    have r:¬((b.sp i).pt.x.length:Int)<=40:=by omega
    rw[decide_eq_false r]at k;have:=j (by rw[m];simp[a2]);simp[hi,c,f,ad];refine Go.aw.c2 k ?_;simp[this,ad]
   have r:((b.sp i).pt.x.length:Int)<=40:=by omega
   rw[decide_eq_true r]at k
   by_cases a3:(b.sp i).pt.y.length<=40
   case neg=>
    have s:¬((b.sp i).pt.y.length:Int)<=40:=by omega
    rw[decide_eq_false s]at q;have:=j (by rw[m];simp[a3]);simp[hi,c,f,ad];refine Go.aw.c2 k ?_;simp[hi,c,ad];refine Go.aw.c2 q ?_;simp[this,ad]
   have s:((b.sp i).pt.y.length:Int)<=40:=by omega
   rw[decide_eq_true s]at q;simp[hi,c,f,ad];refine Go.aw.c2 k ?_;simp[hi,c,ad];refine Go.aw.c2 q ?_;simp[u,ad];exact rd (i+1) ⟨hi,by rw[tF c,k2,m];simp[t,a2,a3]⟩
  ·have:i=b.aq.length:=by omega
   subst this;rw[aT]at k2;rw[tl,k2];simp
theorem P9(b:aB)(f:b.aq.length<=1000000):az prog 35 [.seq (b.aq.map bC)] (.seq (b.aq.map bC)):=by
 have g:(1000000:Nat)<cM:=by decide
 have h:ac.wrap 1=1:=by decide
 refine aL nf Nu mix (by simp[f35]) ?_;simp[f35,ad];refine lp (α:=Nat) (fun i=>⟨[(8,.p (.int .i64 i)),(7,.p (.int .i64 b.aq.length)),(6,.p (.seq (b.aq.map bC))),(3,.sl 0 i 3 0 i)],[.arr .grow i 3 ((b.aq.map (AV.p∘bC)).take i)]⟩) (fun i=>i<=b.aq.length) (fun i=>b.aq.length-i) 0 (by simp) ?_;rintro i i1
 by_cases hi:i<b.aq.length
 ·have a:=aB.dE hi;have e:=b8 (i:=i) (by omega);have d:(b.aq.map (AV.p∘bC)).take (i+1)=(b.aq.map (AV.p∘bC)).take i++[.p (bC (b.sp i))]:=by
   rw[ay,ap,a];rfl
  have c:min i b.aq.length=i:=by omega
  simp[hi,a,e,c,ad];exact⟨by omega,rd (i+1) hi (hh:=by simp[d]) (hr2:=by simp[jB])⟩
 ·have:i=b.aq.length:=by omega
  subst this;simp[ad]
theorem Fw(s:List Nat):(cG s).length<=s.length:=by
 rw[cG];split<;>simp
theorem FD{s:List Nat}(h:bU s=0)(b:s.length<=40):bP 133 (bh s):=by
 obtain⟨l,g,i⟩:=jn h;have c:(10:Nat)^40<=2^133:=by decide
 unfold bU at h
 split at h
 ·cases h
 rename_i a;have a:kG s=true:=by simpa using a
 simp only[kG,ab,Bool.or_eq_true,decide_eq_true_eq]at a;obtain⟨⟨d,_⟩,a3⟩:=a;have j:(bA s).length<=40:=b1 (oA 47 (cG s)).1 (b1 (Fw s) b);have k:(bJ s).length<=40:=b1 (oA 47 (cG s)).2.1 (b1 (Fw s) b);have f:=b2 (yU j (iO d)) c;refine⟨?_,?_⟩
 ·rw[g];have e:(if bQ s=true then -(aU (bA s):Int)else aU (bA s)).natAbs=aU (bA s):=by split<;>omega
  rw[e];exact f
 ·rw[i]
  by_cases hf:dO s=true
  ·rw[if_pos hf];rcases a3 with a3|a3
   ·rw[hf]at a3;cases a3
   ·exact b2 (yU k (iO a3.1.1)) c
  ·rw[if_neg hf];decide
def aB.shr(t:aB)(i:Nat)(v:V2):Rat:=((v.sub (kM (t.at i))).dot (t.rp i))/((t.rp i).dot (t.rp i))
theorem WK(x:NF)(h:bP 1800 x.q):az prog 72 [eF x] (.aE [.str (bH x.q),.int .i64 0]):=by
 have a:=Hu x (h.mono (by decide));rw[azk h]at a;have b:=G0 x (h.mono (by decide));refine aL nf NR mix (by simp[f72]) ?_;simp[f72,ad];refine Go.aw.c1 a ?_;simp[ad];refine Go.aw.c1 b ?_;simp[ad]
theorem vZ{t b:aB}(d:kV b)(h:fu t b=0):gp t=0/\(∀o∈b.aq,jX o):=by
 obtain⟨a,c,_⟩:=azw d h;exact⟨a,c.sp⟩
def aB.pv(t:aB)(i:Nat):Nat:=(i+t.cs.length-1)% t.cs.length
theorem NV.Xx(v w:NV):(v.dot w).q=v.q.dot w.q:=rfl
@[simp] theorem aIm:aJ aC7=.agg 41:=rfl
def vF(n i:Nat):List (Nat×Nat):=(a6 (n-(i+1))).map (fun d=>(i,i+1+d))
def pre(n i:Nat):List (Nat×Nat):=(a6 i).flatMap (vF n)
def cz(n i j:Nat):List (Nat×Nat):=pre n i++(a6 (j-(i+1))).map (fun d=>(i,i+1+d))
def cZ(n:Nat):List (Nat×Nat):=pre n n
theorem zP(n i:Nat):pre n (i+1)=pre n i++vF n i:=by
 rw[pre,bl,List.flatMap_append,List.flatMap_cons,List.flatMap_nil,a0];rfl
theorem kI(n i:Nat):cz n i (i+1)=pre n i:=by
 rw[cz,b3,List.range_zero,a4,a0]
theorem rD{n i j:Nat}(h:i<j):cz n i (j+1)=cz n i j++[(i,j)]:=by
 rw[cz,cz,show j+1-(i+1)=(j-(i+1))+1 from by omega,bl,List.map_append,bb];simp only[b0,a4];rw[show i+1+(j-(i+1))=j from by omega]
theorem FM(n i:Nat):cz n i n=pre n (i+1):=by
 rw[zP,vF,cz]
theorem FG{n i:Nat}:∀d,pre n i<+:pre n (i+d)
 |0=>be _
 |d+1=>by
  refine(FG d).trans ?_;rw[show i+(d+1)=i+d+1 from rfl,zP];exact a7 _ _
theorem FP{n i j:Nat}:∀d,i<j->cz n i j<+:cz n i (j+d)
 |0,_=>be _
 |d+1,h=>by
  refine(FP d h).trans ?_;rw[show j+(d+1)=j+d+1 from rfl,rD (by omega)];exact a7 _ _
theorem tM{n i j:Nat}(hi:i<n)(c:i<j)(d:j<=n):cz n i j<+:cZ n:=by
 have a:=FP (n:=n) (n-j) c;rw[show j+(n-j)=n from by omega,FM]at a;have b:=FG (n:=n) (i:=i+1) (n-(i+1));rw[show i+1+(n-(i+1))=n from by omega]at b;exact a.trans b
theorem zR{n i j:Nat}(hi:i<n)(a:i<j)(b:j<n):(cZ n)[(cz n i j).length]?=some (i,j):=by
 obtain⟨r,hr⟩:=tM hi (show i<j+1 by omega) (show j+1<=n by omega);rw[<-hr,rD a,bb,List.getElem?_append_right (b4 _),b3];rfl
theorem Qv{n i j:Nat}(h:i<j):(cz n i (j+1)).length=(cz n i j).length+1:=by
 rw[rD h,a8];rfl
def aB.vN(b:aB)(i j:Nat):NV:=(NV.from (b.sp j).pt).sub (NV.from (b.sp i).pt)
def aB.dN(b:aB)(i j:Nat):NF:=(b.vN i j).dot (b.vN i j)
noncomputable def kn(b:aB)(p:Nat×Nat):List PV:=[.st 78 [.int .i64 p.1,.int .i64 p.2],eF (b.dN p.1 p.2)]
noncomputable def jC(b:aB)(m:Nat):Heap:=match(cZ b.aq.length)[m]? with
 |some p=>[.box false (.p (eg (b.vN p.1 p.2)))]
 |none=>[]
theorem Qk{b:aB}{i j:Nat}(hi:i<b.aq.length)(a:i<j)(c:j<b.aq.length):((cZ b.aq.length).map (kn b))[(cz b.aq.length i j).length]?=some (kn b (i,j)):=by
 rw[ap,zR hi a c];rfl
theorem FH{b:aB}{i:Nat}(d:∀s∈b.aq,jX s)(hi:i<b.aq.length):cX kQ (NV.from (b.sp i).pt).q/\bU (b.sp i).pt.x=0/\bU (b.sp i).pt.y=0/\pc (b.sp i).pt:=by
 obtain⟨c,a⟩:=d _ (am (aB.dE hi));exact⟨wu ((kX a).2.mono (by decide)),(iL a).1,(iL a).2,c.2⟩
theorem FN(b:aB):az prog 126 [.seq (b.aq.map bC)] (.func 208 [] [.bY (.seq (b.aq.map bC))]):=by
 refine aL nf Fq mix (by simp[f126]) ?_;simp[f126];show fI [.box false (.p (.seq (b.aq.map bC)))] 7 (.p (.seq (b.aq.map bC))) (.seq (b.aq.map bC));rw[vU];exact Wk.refl _
theorem zO(n i:Nat):cz n i n=cz n (i+1) (i+1+1):=by rw[FM,kI]
theorem tO(n:Nat):(cz n 0 (0+1)).length=0:=by rw[kI];rfl
theorem FK{b:aB}(a:∀s∈b.aq,jX s){i j:Nat}(hi:i<b.aq.length)(e:j<b.aq.length):cX kQ ((NV.from (b.sp j).pt).q.sub (NV.from (b.sp i).pt).q):=by
 have c:=(kX (a _ (am (aB.dE hi))).2).2;have d:=(kX (a _ (am (aB.dE e))).2).2;exact(lO d c).mono (by decide)
theorem FO(b:aB)(W:b.aq.length<=1000000)(f:∀s∈b.aq,jX s):D1 prog 208 [] [.bY (.seq (b.aq.map bC))] ((cZ b.aq.length).map (kn b)) (jC b):=by
 intro r k d U H' hk a M l;rw[bv]at hk l;have I:∀{i j:Nat},i<b.aq.length->i<j->j<b.aq.length->jC b (cz b.aq.length i j).length=[.box false (.p (eg (b.vN i j)))]:=fun hi H c=>by
  rw[jC,zR hi H c]
 generalize g:b.aq.length=n at*;refine fP nf EO mix (by simp[f208]) ?_;simp[f208,ad,g];refine lp (α:=Nat) (fun i=>⟨[(8,.p (.int .i64 i)),(7,.p (.int .i64 n)),(1,.p (.bY (.seq (b.aq.map bC)))),(0,.map r)],d (cz n i (i+1)).length⟩) (fun i=>i<=n/\(cz n i (i+1)).length<=k) (fun i=>n-i) 0 (by rw[tO];omega) ?_ (hn:=by simp[tO]) (hh:=by rw[tO];simp) (hr:=by rw[tO];simp;exact(a 0 (by omega)).2) (hr2:=by rw[tO];exact(a 0 (by omega)).1);rintro i ⟨V,e⟩
 by_cases hi:i<n
 ·have x:=b8 (i:=i) (by omega);have L:ac.wrap ((i:Int)+1)=((i+1:Nat):Int):=by rw[x];rfl
  simp[hi,L];refine lp (α:=Nat) (fun j=>⟨[(4,.p (.int .i64 j)),(3,.p (.int .i64 i)),(8,.p (.int .i64 i)),(7,.p (.int .i64 n)),(1,.p (.bY (.seq (b.aq.map bC)))),(0,.map r)],d (cz n i j).length⟩) (fun j=>i+1<=j/\j<=n/\(cz n i j).length<=k) (fun j=>n-j) (i+1) (by omega) ?_ (hr:=by simp;exact(a _ e).2) (hr2:=(a _ e).1);rintro j ⟨g1,g2,g3⟩
  by_cases c:j<n
  ·have z:=b8 (i:=j) (by omega);have u:=aB.dE (t:=b) (i:=i) (by omega);have v:=aB.dE (t:=b) (i:=j) (by omega);obtain⟨N,Q,S,pi⟩:=FH f (i:=i) (by omega);obtain⟨O,R,T,P⟩:=FH f (i:=j) (by omega);have B:=tL (b.sp j).pt R T P;have C:=tL (b.sp i).pt Q S pi;have o:=vT (NV.from (b.sp j).pt) (NV.from (b.sp i).pt) O N;rw[show(NV.from (b.sp j).pt).sub (NV.from (b.sp i).pt)=b.vN i j from rfl]at o;have q:=Fv (b.vN i j) (b.vN i j) (by rw[aB.vN,NV.kH];exact FK f (by omega) (by omega)) (by rw[aB.vN,NV.kH];exact FK f (by omega) (by omega));rw[show(b.vN i j).dot (b.vN i j)=b.dN i j from rfl]at q;have m:=Qk (b:=b) (i:=i) (j:=j) (by omega) (by omega) (by omega);have h:=I hi (show i<j by omega) c;rw[g]at m;simp[c,z,u,v,g,ad];refine Go.aw.e1 B ?_;simp[u,v,ad];refine Go.aw.e1 C ?_;simp[ad];refine Go.aw.e2 o ?_;simp[ad];refine⟨by repeat' first|rfl|apply And.intro,?_⟩;refine Go.aw.c2 q ?_;simp[ad];have G:dx (d (cz n i j).length++jC b (cz n i j).length) (d (cz n i j).length++jC b (cz n i j).length):=dx.app (a _ g3).1 (by rw[h];simp);have F:=Qv (n:=n) (show i<j by omega)
   by_cases K:(cz n i j).length<k
   ·obtain⟨m1,m2,m3,m4,m5⟩:=M _ _ K m;rw[h]at m1 m2 m3 G;rw[<-F]at m4 m5;refine⟨_,_,m1,?_⟩;simp[z];exact rd (j+1) ⟨by omega,c,by omega⟩ (hn:=m4) (hh:=m5) (hr:=by simp;exact(a _ (by omega)).2) (hr2:=(a _ (by omega)).1)
   ·have w:(cz n i j).length=k:=by omega
    rcases l with⟨e1,_⟩|⟨y,A,e1,e2,e3,e4,e5,D,E⟩
    ·have:=(tM (n:=n) (i:=i) (j:=j+1) (by omega) (by omega) (by omega)).length_le;omega
    ·rw[<-w,m]at e1;injection e1 with e1
     subst e1;rw[<-w,h]at e2;refine⟨_,_,e2,?_⟩;simp;exact .inr (cJ.og e5 trivial D trivial E)
  ·rw[show j=n from by omega]at g3⊢;rw[zO]at g3⊢;simp[g,x,ad];exact rd (i+1) ⟨hi,g3⟩ (hr:=by simp;exact(a _ g3).2) (hr2:=(a _ g3).1)
 ·rw[show i=n from by omega]at e⊢;have J:(cz n n (n+1)).length=(cZ n).length:=by rw[kI];rfl
  rw[J]at e⊢;rcases l with⟨e1,e2⟩|⟨y,A,e1,e2⟩
  ·have:(cZ n).length=k:=by omega
   rw[this];simp[e2]
  ·rw[List.getElem?_eq_none (by simp;omega)]at e1;cases e1
@[simp] theorem aEY:qU prog 78=true:=by kernel_rfl
theorem Ya:(prog.info? 3).isSome=true:=by kernel_rfl
@[simp] theorem aEZ{a b c d:Int}:gT prog 9 78 (.st 78 [.int .i64 a,.int .i64 b]) (.st 78 [.int .i64 c,.int .i64 d])=some (decide (a=c/\b=d)):=by
 have:((a==c)&&((b==d)&&true))=decide (a=c/\b=d):=by
  rw[Bool.eq_iff_iff];simp
 rw[<-this];simp[gT,Ya,iE,aJ]
def kl(b:aB)(a:Option (Nat×Nat))(p:Nat×Nat):Option (Nat×Nat):=match a with
 |none=>some p
 |some q=>if dJ (b.dN p.1 p.2).q (b.dN q.1 q.2).q<0 then some p else some q
def iW(b:aB)(l:List (Nat×Nat)):Option (Nat×Nat):=l.foldl (kl b) none
theorem FI(b:aB)(l:List (Nat×Nat))(p:Nat×Nat):iW b (l++[p])=kl b (iW b l) p:=by
 rw[iW,a9];rfl
theorem tN{n:Nat}{p:Nat×Nat}(h:p∈cZ n):p.1<p.2/\p.2<n:=by
 rw[cZ,pre,List.mem_flatMap]at h;obtain⟨i,hi,a⟩:=h;rw[vF,List.mem_map]at a;obtain⟨d,b,rfl⟩:=a;rw[List.mem_range]at b hi;simp only;omega
theorem FL{b:aB}{l:List (Nat×Nat)}{q:Nat×Nat}(h:iW b l=some q):q∈l:=by
 have:∀(l:List (Nat×Nat))(a:Option (Nat×Nat)),l.foldl (kl b) a=some q->q∈l\/a=some q:=by
  intro l
  induction l with
  |nil=>intro a h;exact .inr h
  |cons p r c=>
   intro a h;rw[ao]at h;rcases c _ h with h|h
   ·exact .inl (a5 _ h)
   ·cases a with
    |none=>
     simp only[kl,Option.some.injEq]at h;subst h;exact .inl ax
    |some a=>
     simp only[kl]at h
     split at h
     ·simp only[Option.some.injEq]at h;subst h;exact .inl ax
     ·exact .inr h
 rcases this l none h with h|h
 ·exact h
 ·cases h
noncomputable def qZ(a:Option (Nat×Nat)):PV:=match a with
 |none=>.st 78 [.int .i64 0,.int .i64 0]
 |some q=>.st 78 [.int .i64 q.1,.int .i64 q.2]
noncomputable def vz(b:aB)(a:Option (Nat×Nat)):PV:=match a with
 |none=>eF (.int 0)
 |some q=>eF (b.dN q.1 q.2)
noncomputable def lR(t b:aB)(c d:Int)(L:dC)(a:Option (Nat×Nat)):Heap:=[.box false (.p (cL t)),.box false (.p (.st 78 [.int .i64 0,.int .i64 0])),.arr .frozen 0 1 [.p (.int .i64 c),.p (.int .i64 d)],.box false (.p (qZ a)),.box false (.p (vz b a)),.loop L]
def kJ(t b:aB):Int:=bE [fu t b,aW (decide ((b.aq.length:Int)<2)) 7]
theorem Qp(t b:aB)(O:l8 t)(k:kV b)(D:fu t b=0->∀i j,i<j->j<b.aq.length->bP 1800 (b.dN i j).q):az prog 44 [cL t,.seq (b.aq.map bC)] (.aE (if kJ t b=0 then[qZ (iW b (cZ b.aq.length)),.str (match iW b (cZ b.aq.length)with|some q=>bH (b.dN q.1 q.2).q|none=>[]),.int .i64 0]else[.st 78 [.int .i64 0,.int .i64 0],.str [],.int .i64 (kJ t b)])):=by
 have k1:=Ea t b O k;have k2:=gY (decide ((b.aq.length:Int)<2)) 7;have k3:=nR [fu t b,aW (decide ((b.aq.length:Int)<2)) 7] (by simp);simp only[b0,a4]at k3;rw[show bE [fu t b,aW (decide ((b.aq.length:Int)<2)) 7]=kJ t b from rfl]at k3;have M:=k.sl
 by_cases h:kJ t b=0
 case neg=>
  rw[if_neg h];generalize kJ t b=E at*;generalize fu t b=o at*;generalize aW (decide ((b.aq.length:Int)<2)) 7=r at*;refine aL nf CX mix (by simp[f44]) ?_;simp[f44,ad];refine Go.aw.c2 k1 ?_;simp[ad];refine Go.aw.c2 k2 ?_;simp[ad];refine cp k3 (by simp;first|exact⟨rfl,rfl⟩|rfl) ?_;simp[h,ad]
 rw[if_pos h];rw[h]at k3;rw[kJ,nw]at h;have s:=h (fu t b) (by simp);have I:¬(b.aq.length:Int)<2:=by
  intro c;have:=h (aW (decide ((b.aq.length:Int)<2)) 7) (by simp);simp[aW,c]at this
 obtain⟨T,F⟩:=vZ k s;have kS:=D s;have P:=sX 0 (by decide) (by decide);have N:=FO b M F;have K:∃q,iW b (cZ b.aq.length)=some q:=by
  have B:(cZ b.aq.length)≠[]:=by
   intro e;have:=zR (n:=b.aq.length) (i:=0) (j:=1) (by omega) (by omega) (by omega);rw[e]at this;simp at this
  obtain⟨l,p,H⟩:∃l p,cZ b.aq.length=l++[p]:=⟨_,_,(List.dropLast_concat_getLast B).symm⟩
  rw[H,FI];cases iW b l with
  |none=>exact⟨_,rfl⟩
  |some q=>rw[kl];split<;>exact⟨_,rfl⟩
 obtain⟨q,hq⟩:=K;have v:=tN (FL hq);have Q:=WK (b.dN q.1 q.2) (kS _ _ v.1 v.2);rw[hq];clear h I;generalize fu t b=o at*;generalize aW (decide ((b.aq.length:Int)<2)) 7=r at*;refine aL nf CX mix (by simp[f44]) ?_;simp[f44,ad];refine Go.aw.c2 k1 ?_;simp[ad];refine Go.aw.c2 k2 ?_;simp[ad];refine cp k3 (by simp;first|exact⟨rfl,rfl⟩|rfl) ?_;simp[ad];refine Go.aw.c1 P ?_;simp[ad];refine c1 (FN b) ?_;simp;refine OG N rfl (by simp) (fun L m=>lR t b o r L (iW b ((cZ b.aq.length).take m))) (fun L m=>lR t b o r L (iW b ((cZ b.aq.length).take (m+1)))++jC b m) (cZ b.aq.length).length (by simp) (fun L=>rfl) ?_ ?_ ?_
 ·intro L f m J;generalize iW b ((cZ b.aq.length).take m)=a;refine⟨rfl,by simp[lR],fun _ hx=>?_⟩;simp[lR]at hx⊢;exact hx
 ·intro L f m x J hx;obtain⟨p,d,rfl⟩:∃p,(cZ b.aq.length)[m]?=some p/\kn b p=x:=by
   rw[ap]at hx;cases d:(cZ b.aq.length)[m]? with
   |none=>rw[d]at hx;cases hx
   |some p=>rw[d]at hx;injection hx with hx;exact⟨p,rfl,hx⟩
  have u:=tN (am d);have C:jC b m=[.box false (.p (eg (b.vN p.1 p.2)))]:=by rw[jC,d]
  rw[ay,d];simp only[Option.toList_some];rw[FI,C];have G:∀q,iW b ((cZ b.aq.length).take m)=some q->q.1<q.2/\q.2<b.aq.length:=fun q hq=>tN (List.mem_of_mem_take (FL hq));generalize iW b ((cZ b.aq.length).take m)=a at*;refine⟨?_,by simp[lR],fun j S h=>?_,rfl,by simp[lR]⟩
  ·refine px nf mix f rfl rfl (by kernel_rfl) ?_;have g:=congrArg dC.env f;dsimp only at g;clear f;cases a with
   |none=>
    simp[lR,qZ,vz,kn,kl,ad];refine cJ.og (by simp) (by simp) (by simp) (by simp) ?_;simp;exact nV g (by simp)
   |some q=>
    obtain⟨q1,R⟩:=G q rfl;have A:=oY (b.dN p.1 p.2) (b.dN q.1 q.2) ((kS _ _ u.1 u.2).mono (by decide)) ((kS _ _ q1 R).mono (by decide));have w:¬(q.1=0/\q.2=0):=by omega
    have z:¬q.2=0:=by omega
    generalize hy:dJ (b.dN p.1 p.2).q (b.dN q.1 q.2).q=y at*;rw[show kl b (some q) p=if y<0 then some p else some q from by rw[kl,hy]];clear hy
    by_cases c:y<0
    ·rw[if_pos c];simp[lR,qZ,vz,kn,c,w,z,ad];refine Go.aw.c2 A ?_;simp[c,ad];refine cJ.og (by simp) (by simp) (by simp) (by simp) ?_;simp;exact nV g (by simp)
    ·rw[if_neg c];simp[lR,qZ,vz,kn,c,w,z,ad];refine Go.aw.c2 A ?_;simp[c,ad];refine cJ.og (by simp) (by simp) (by simp) (by simp) ?_;simp;exact nV g (by simp)
  ·have:=am h;simp[lR]at this
 ·intro L f;refine .inl ⟨by simp,?_⟩;rw[aT,hq];simp[lR,qZ,vz,ad];refine Go.aw.c1 Q ?_;simp[ad]
def lU(t b:aB)(p:Nat×Nat):Int:=dJ (b.dN p.1 p.2).q (pV t.bt)
def ek(t b:aB)(l:List (Nat×Nat)):List (Nat×Nat):=l.filter (fun p=>decide (lU t b p=0))
theorem FJ(t b:aB)(l:List (Nat×Nat))(p:Nat×Nat):ek t b (l++[p])=if lU t b p=0 then ek t b l++[p]else ek t b l:=by
 rw[ek,List.filter_append]
 by_cases h:lU t b p=0
 ·rw[if_pos h,List.filter_cons_of_pos (by simpa using h)];rfl
 ·rw[if_neg h,List.filter_cons_of_neg (by simpa using h),List.filter_nil,a0];rfl
def fo(p:Nat×Nat):PV:=.st 78 [.int .i64 p.1,.int .i64 p.2]
@[simp] theorem aDR:prog.cellsOf 78=2:=by kernel_rfl
noncomputable def ft(t:aB)(s:AV)(L:dC):Heap:=[.box false (.p (cL t)),.box false s,.loop L]
noncomputable def fS(t:aB)(L:dC):List (Nat×Nat)->Heap
 |[]=>ft t (.p .aO) L
 |x::r=>ft t (.sl 7 r.length 2 0 (r.length+1)) L++[.hole,.hole,.hole,.hole,.arr .grow r.length 2 ((x::r).map fun x=>.p (fo x))]
noncomputable def OR(t b:aB)(L:dC)(l:List (Nat×Nat))(m:Nat)(p:Nat×Nat):Heap:=
 if lU t b p=0 then
  match l with
  |[]=>ft t (.sl 7 0 2 0 1) L++jC b m++[.hole,.hole,.hole,.arr .grow 0 2 [.p (fo p)]]
  |x::r=>ft t (.sl 7 (r.length+1) 2 0 (r.length+2)) L++[.hole,.hole,.hole,.hole,.arr .grow (r.length+1) 2 ((x::r++[p]).map fun x=>.p (fo x))]++jC b m
 else fS t L l++jC b m
noncomputable def OS(t b:aB)(L:dC)(m:Nat):Heap:=match(cZ b.aq.length)[m]? with
 |some p=>OR t b L (ek t b ((cZ b.aq.length).take m)) m p
 |none=>[]
theorem zQ(n:Nat)(h:n<=24):(cZ n).length<=600:=by
 have:∀i,i<=n->(pre n i).length<=25*i:=by
  intro i
  induction i with
  |zero=>intro _;simp[pre]
  |succ i a=>
   intro hi;have:=a (by omega);rw[zP,a8,vF,bv,List.length_range];omega
 have:=this n (b4 n);rw[cZ];omega
theorem Qm(t b:aB)(F:l8 t)(k:kV b)(v:fu t b=0->∀i j,i<j->j<b.aq.length->bP 1800 (b.dN i j).q):az prog 45 [cL t,.seq (b.aq.map bC)] (.aE (if fu t b=0 then[.seq ((ek t b (cZ b.aq.length)).map fo),.int .i64 0]else[.aO,.int .i64 (fu t b)])):=by
 have k1:=Ea t b F k;have C:=k.sl
 by_cases h:fu t b=0
 case neg=>
  rw[if_neg h];generalize fu t b=E at*;refine aL nf CY mix (by simp[f45]) ?_;simp[f45,ad];refine Go.aw.c2 k1 ?_;simp[h,ad]
 rw[if_pos h];obtain⟨s,w⟩:=vZ k h;obtain⟨I,J⟩:=vV s;have z:b.aq.length<=24:=by
  have:l9 t b=0:=by rw[fu,if_neg (by simp[s])]at h;exact h
  rw[l9]at this
  split at this
  ·cases this
  ·omega
 have kS:=v h;rw[h]at k1;have g:=EB t (by omega) (by omega);have D:=FO b C w;have G:=zQ _ z;refine aL nf CY mix (by simp[f45]) ?_;simp[f45,ad];refine Go.aw.c2 k1 ?_;simp[ad];refine c1 (FN b) ?_;simp;refine OG D rfl (by simp) (fun L m=>fS t L (ek t b ((cZ b.aq.length).take m))) (fun L m=>OS t b L m) (cZ b.aq.length).length (by simp) (fun L=>rfl) ?_ ?_ ?_
 ·intro L a m B;generalize ek t b ((cZ b.aq.length).take m)=c;cases c with
  |nil=>
   refine⟨rfl,by simp[fS,ft],fun _ hx=>?_⟩;simp[fS,ft]at hx⊢;exact hx
  |cons x r=>
   refine⟨rfl,by simp[fS,ft],fun _ hx=>?_⟩;simp[fS,ft]at hx⊢;exact hx
 ·intro L a m x B hx;obtain⟨p,d,rfl⟩:∃p,(cZ b.aq.length)[m]?=some p/\kn b p=x:=by
   rw[ap]at hx;cases d:(cZ b.aq.length)[m]? with
   |none=>rw[d]at hx;cases hx
   |some p=>rw[d]at hx;injection hx with hx;exact⟨p,rfl,hx⟩
  have o:=tN (am d);have u:jC b m=[.box false (.p (eg (b.vN p.1 p.2)))]:=by rw[jC,d]
  have A:(ek t b ((cZ b.aq.length).take m)).length<=600:=by
   refine b1 (av _ _) ?_;rw[List.length_take];omega
  rw[ay (l:=cZ b.aq.length),d,OS,d];simp only[Option.toList_some];rw[FJ,OR.eq_def,u];have f:=oY (b.dN p.1 p.2) (.width t.bt) ((kS _ _ o.1 o.2).mono (by decide)) ((show bP 60 (pV t.bt)from by have:=xT (r:=t.bt) (by omega) (by omega);exact xP (by omega) (by decide)).mono (by decide));rw[show dJ (b.dN p.1 p.2).q (NF.width t.bt).q=lU t b p from rfl]at f;have e:=congrArg dC.env a;dsimp only at e;generalize ek t b ((cZ b.aq.length).take m)=c at*;generalize lU t b p=y at*
  by_cases hy:y=0
  case neg=>
   rw[if_neg hy,if_neg hy];refine⟨?_,by simp,fun j _ h=>h,by cases c<;>rfl,?_⟩
   ·cases c with
    |nil=>
     refine px nf mix a rfl rfl (by kernel_rfl) ?_;clear a;simp[fS,ft,kn,ad];refine Go.aw.e1 g ?_;simp[ad];refine Go.aw.e2 f ?_;simp[hy,ad];refine cJ.og (by simp) (by simp) (by simp) (by simp) ?_;simp;exact nV e (by simp)
    |cons x r=>
     refine px nf mix a rfl rfl (by kernel_rfl) ?_;clear a;simp[fS,ft,kn,ad];refine Go.aw.e1 g ?_;simp[ad];refine Go.aw.e2 f ?_;simp[hy,ad];refine cJ.og (by simp) (by simp) (by simp) (by simp) ?_;simp;exact nV e (by simp)
   ·cases c with
    |nil=>simp[fS,ft]
    |cons x r=>simp[fS,ft]
  subst hy;rw[if_pos rfl,if_pos rfl];cases c with
  |nil=>
   rw[bo];refine⟨?_,by simp[fS,ft],fun j n h=>?_,rfl,?_⟩
   ·refine px nf mix a rfl rfl (by kernel_rfl) ?_;clear a;simp[fS,ft,kn,ad];refine Go.aw.e1 g ?_;simp[ad];refine Go.aw.e2 f ?_;simp[ad];refine⟨by decide,?_⟩;refine cJ.og (by simp[fo]) (by simp) (by simp[fo]) (by simp) ?_;simp;exact nV e (by simp)
   ·rcases j with _|_|_|_|j
    all_goals first|(simp[ft]at h;done)|(simp[fS,ft]at n;omega)
   ·simp[fS,ft]
  |cons x r=>
   have H:r.length+2<=cM:=by
    rw[bi]at A;simp only[cM];omega
   rw[bk];refine⟨?_,by simp[fS,ft],fun j n h=>?_,by simp[fS,ft],?_⟩
   ·refine px nf mix a rfl rfl (by kernel_rfl) ?_;clear a;simp[fS,ft,kn,ad];refine Go.aw.e1 g ?_;simp[ad];refine Go.aw.e2 f ?_;simp[ad];refine⟨by omega,?_⟩;refine cJ.og (by simp[fo]) (by simp) (by simp[fo]) (by simp) ?_;simp;exact nV e (by simp)
   ·rcases j with _|_|_|_|_|_|_|_|_|j
    all_goals first|(simp[fS,ft]at h;done)|(simp[fS,ft];done)|(simp[fS,ft]at n;omega)
   ·simp[fS,ft]
 ·intro L a;refine .inl ⟨by simp,?_⟩;rw[aT];generalize ek t b (cZ b.aq.length)=c;cases c with
  |nil=>simp[fS,ft,ad]
  |cons x r=>simp[fS,ft,ad]
@[simp] theorem aHl(p:Nat×Nat):aJ (fo p)=.agg 78:=rfl
theorem Qo(l:List (Nat×Nat))(e:l.length<=1000000):az prog 46 [.seq (l.map fo),.seq (l.map fo)] (.bool true):=by
 refine aL nf Ny mix (by simp[f46]) ?_;simp[f46,ad];refine lp (α:=Nat) (fun i=>⟨[(5,.p (.int .i64 i)),(1,.p (.seq (l.map fo))),(0,.p (.seq (l.map fo)))],[]⟩) (fun i=>i<=l.length) (fun i=>l.length-i) 0 (by simp) ?_;intro i d
 by_cases hi:i<l.length
 ·obtain⟨p,a⟩:∃p,l[i]?=some p:=⟨_,a1 hi⟩
  have b:l[i]=p:=by rw[a1 hi]at a;injection a
  have c:=b8 (i:=i) (by omega);simp[hi,a,b,fo,c,ad];exact rd (i+1) hi
 ·simp[hi,ad]
theorem CL(b:aB)(i j:Nat):((vP (b.sp i).pt).sub (vP (b.sp j).pt)).dot ((vP (b.sp i).pt).sub (vP (b.sp j).pt))=(b.dN i j).q:=by
 rw[aB.dN,NV.Xx,aB.vN,NV.kH,sV,sV];simp only[V2.sub,V2.dot]
 grind
def kZ(b:aB)(q p:Nat×Nat):Nat×Nat:=if dJ (b.dN p.1 p.2).q (b.dN q.1 q.2).q<0 then p else q
def fY(b:aB)(l:List (Nat×Nat)):Nat×Nat:=l.foldl (kZ b) (0,1)
theorem Qs(b:aB)(l:List (Nat×Nat))(p:Nat×Nat):fY b (l++[p])=kZ b (fY b l) p:=by
 rw[fY,a9];rfl
theorem V9{b:aB}{n:Nat}(h:2<=n):iW b (cZ n)=some (fY b (cZ n)):=by
 obtain⟨r,c⟩:∃r,cZ n=(0,1)::r:=by
  obtain⟨r,c⟩:=tM (n:=n) (i:=0) (j:=2) (by omega) (by omega) (by omega);refine⟨r,?_⟩;rw[<-c,rD (by omega),kI];rfl
 rw[c,iW,fY,ao,ao];have d:kl b none (0,1)=some (0,1):=rfl;have e:kZ b (0,1) (0,1)=(0,1):=by rw[kZ];split<;>rfl
 rw[d,e];clear c;generalize ((0,1):Nat×Nat)=a
 induction r generalizing a with
 |nil=>rfl
 |cons p r f=>
  rw[ao,ao,show kl b (some a) p=some (kZ b a p)from by rw[kl,kZ];split<;>rfl];exact f _
theorem Qt{b:aB}{n:Nat}(h:2<=n){l:List (Nat×Nat)}(e:∀p∈l,p.1<p.2/\p.2<n):(fY b l).1<(fY b l).2/\(fY b l).2<n:=by
 have:∀(l:List (Nat×Nat))(a:Nat×Nat),(∀p∈l,p.1<p.2/\p.2<n)->a.1<a.2/\a.2<n->(l.foldl (kZ b) a).1<(l.foldl (kZ b) a).2/\(l.foldl (kZ b) a).2<n:=by
  intro l
  induction l with
  |nil=>intro a _ h;exact h
  |cons p r f=>
   intro a c d;rw[ao];refine f _ (fun q hq=>c q (a5 _ hq)) ?_;rw[kZ]
   split
   ·exact c p ax
   ·exact d
 exact this l (0,1) e ⟨by decide,by simp only;omega⟩
noncomputable def vA(b:aB)(q:Nat×Nat):PV:=.str (bH (b.dN q.1 q.2).q)
theorem Qr(b:aB)(C:kV b)(k:∀s∈b.aq,jX s)(B:2<=b.aq.length)(h:∀i j,i<j->j<b.aq.length->bP 1800 (b.dN i j).q):az prog 48 [.seq (b.aq.map bC)] (.aE [fo (fY b (cZ b.aq.length)),vA b (fY b (cZ b.aq.length))]):=by
 have L:=C.sl;have u:∀i j,i<b.aq.length->j<b.aq.length->az prog 58 [fZ (b.sp i).pt,fZ (b.sp j).pt] (eV ((vP (b.sp i).pt).sub (vP (b.sp j).pt)))/\az prog 115 [eV ((vP (b.sp i).pt).sub (vP (b.sp j).pt))] (vA b (i,j)):=fun i j hi d=>by
  have a:=(kX (k _ (am (aB.dE hi))).2)
  have c:=(kX (k _ (am (aB.dE d))).2)
  have f:=yT (vP (b.sp i).pt) (vP (b.sp j).pt) (a.2.mono (by decide)) (c.2.mono (by decide));rw[a.1,c.1]at f;have g:=FU ((vP (b.sp i).pt).sub (vP (b.sp j).pt)) ((lO a.2 c.2).mono (by decide));rw[CL]at g;exact⟨f,g⟩
 generalize e:b.aq.length=n at*;have v:=aB.dE (t:=b) (i:=0) (by omega);have w:=aB.dE (t:=b) (i:=1) (by omega);obtain⟨I,J⟩:=u 0 1 (by omega) (by omega);have D:¬n=0:=by omega
 have A:1<n:=by omega
 refine aL nf NA mix (by simp[f48]) ?_;simp[f48,v,w,e,D,A,ad];refine Go.aw.e2 I ?_;simp[ad];refine Go.aw.e1 J ?_;simp[ad];refine lp (α:=Nat) (fun i=>⟨[(6,.p (.int .i64 i)),(5,.p (vA b (fY b (cz n i (i+1))))),(4,.ptr 1 []),(2,.ptr 0 []),(0,.p (.seq (b.aq.map bC)))],[.box false (.p (.st 78 [.int .i64 0,.int .i64 0])),.box false (.p (fo (fY b (cz n i (i+1)))))]⟩) (fun i=>i<=n) (fun i=>n-i) 0 (by omega) ?_ (he:=by rw[kI];simp[fY,pre]) (hh:=by rw[kI];simp[fY,pre,fo]);intro i K
 by_cases hi:i<n
 ·have o:=b8 (i:=i) (by omega);have F:ac.wrap ((i:Int)+1)=((i+1:Nat):Int):=by rw[o];rfl
  simp[hi,e,F,ad];refine lp (α:=Nat) (fun j=>⟨[(7,.p (.int .i64 j)),(6,.p (.int .i64 i)),(5,.p (vA b (fY b (cz n i j)))),(4,.ptr 1 []),(2,.ptr 0 []),(0,.p (.seq (b.aq.map bC)))],[.box false (.p (.st 78 [.int .i64 0,.int .i64 0])),.box false (.p (fo (fY b (cz n i j))))]⟩) (fun j=>i+1<=j/\j<=n) (fun j=>n-j) (i+1) (by omega) ?_;rintro j ⟨M,G⟩
  by_cases d:j<n
  ·have x:=aB.dE (t:=b) (i:=i) (by omega);have z:=aB.dE (t:=b) (i:=j) (by omega);have r:=b8 (i:=j) (by omega);obtain⟨f,g⟩:=u i j hi d;have m:=Qt (b:=b) B (l:=cz n i j) (fun p E=>tN ((tM hi (by omega) G).subset E));have H:=rB (b.dN i j).q (b.dN (fY b (cz n i j)).1 (fY b (cz n i j)).2).q ((h i j (by omega) d).mono (by decide)) ((h _ _ m.1 m.2).mono (by decide));have aF:=Qs b (cz n i j) (i,j);rw[<-rD (by omega),kZ]at aF;generalize hy:dJ (b.dN i j).q (b.dN (fY b (cz n i j)).1 (fY b (cz n i j)).2).q=y at*;generalize fY b (cz n i j)=Q at*;simp[d,e,x,z,ad];refine Go.aw.e2 f ?_;simp[ad];refine Go.aw.e1 g ?_;simp[ad];refine Go.aw.c2 H ?_
   by_cases c:y<0
   ·rw[if_pos c]at aF;simp[c,r,ad];exact rd (j+1) ⟨by omega,d⟩ (he:=by simp[aF]) (hh:=by simp[aF,fo])
   ·rw[if_neg c]at aF;simp[c,r,ad];exact rd (j+1) ⟨by omega,d⟩ (he:=by simp[aF]) (hh:=by simp[aF])
  ·rw[show j=n from by omega,zO];simp[e,o,ad];exact rd (i+1) hi
 ·rw[show i=n from by omega];rw[show cz n n (n+1)=cZ n from kI n n];simp[e,ad,fo]
theorem Ql(t b:aB)(i j:Nat):fC t.bt (vP (b.sp i).pt) (vP (b.sp j).pt)=lU t b (i,j):=by
 rw[fC,CL];rfl
noncomputable def gW(l:List (Nat×Nat)):AV:=match l with
 |[]=>.p .aO
 |_::r=>.sl 2 r.length 2 0 (r.length+1)
noncomputable def dF(t:aB)(l:List (Nat×Nat)):Heap:=match l with
 |[]=>[.box false (.p (cS t))]
 |x::r=>[.box false (.p (cS t)),.hole,.arr .grow r.length 2 ((x::r).map fun x=>.p (fo x))]
theorem Qu(t b:aB){n i j:Nat}(h:n<=24)(hi:i<n)(a:i<j)(c:j<=n):(ek t b (cz n i j)).length<=600:=by
 have d:=av (fun p=>decide (lU t b p=0)) (cz n i j);have e:=(tM hi a c).length_le;have f:=zQ n h;rw[ek];omega
theorem Qn(t b:aB)(D:l8 t)(u:0<=t.bt)(m:t.bt<=1000000)(o:∀s∈b.aq,jX s)(v:b.aq.length<=24):az prog 47 [cS t,.seq (b.aq.map bC)] (.seq ((ek t b (cZ b.aq.length)).map fo)):=by
 have B:∀i j,i<b.aq.length->j<b.aq.length->az prog 128 [cS t,fZ (b.sp i).pt,fZ (b.sp j).pt] (.int .i64 (lU t b (i,j))):=fun i j hi d=>by
  have a:=(kX (o _ (am (aB.dE hi))).2)
  have c:=(kX (o _ (am (aB.dE d))).2)
  have f:=Ey t (vP (b.sp i).pt) (vP (b.sp j).pt) u m a.2 c.2;rw[a.1,c.1,Ql]at f;exact f
 generalize e:b.aq.length=n at*;refine aL nf Nz mix (by simp[f47]) ?_;simp[f47,e,ad];refine lp (α:=Nat) (fun i=>⟨[(6,.p (.int .i64 i)),(5,gW (ek t b (cz n i (i+1)))),(2,.ptr 0 []),(1,.p (.seq (b.aq.map bC)))],dF t (ek t b (cz n i (i+1)))⟩) (fun i=>i<=n) (fun i=>n-i) 0 (by omega) ?_ (he:=by rw[kI];simp[ek,pre,gW,dF]) (hh:=by rw[kI];simp[ek,pre,dF]) (hr:=by rw[kI];simp[ek,pre,gW,dF]) (hr2:=by rw[kI];simp[ek,pre,dF]);intro i m
 by_cases hi:i<n
 ·have q:=b8 (i:=i) (by omega);have z:ac.wrap ((i:Int)+1)=((i+1:Nat):Int):=by rw[q];rfl
  simp[hi,e,z,ad];refine lp (α:=Nat) (fun j=>⟨[(7,.p (.int .i64 j)),(6,.p (.int .i64 i)),(5,gW (ek t b (cz n i j))),(2,.ptr 0 []),(1,.p (.seq (b.aq.map bC)))],dF t (ek t b (cz n i j))⟩) (fun j=>i+1<=j/\j<=n) (fun j=>n-j) (i+1) (by omega) ?_ (hh:=by generalize ek t b (cz n i (i+1))=l;cases l<;>simp[dF]) (hr:=by generalize ek t b (cz n i (i+1))=l;cases l<;>simp[gW,dF]) (hr2:=by generalize ek t b (cz n i (i+1))=l;cases l<;>simp[dF]);rintro j ⟨E,A⟩
  by_cases d:j<n
  ·have g:=aB.dE (t:=b) (i:=i) (by omega);have h:=aB.dE (t:=b) (i:=j) (by omega);have k:=b8 (i:=j) (by omega);have f:=B i j hi d;have aF:=FJ t b (cz n i j) (i,j);have w:=Qu t b v hi (show i<j by omega) A;rw[<-rD (by omega)]at aF;generalize lU t b (i,j)=y at*;generalize ek t b (cz n i j)=l at*
   by_cases c:y=0
   ·subst c;rw[if_pos rfl]at aF;cases l with
    |nil=>
     simp[gW,dF,d,e,g,h,ad];refine Go.aw.e3 f ?_;simp[k,ad];refine⟨by decide,?_⟩;rw[bo]at aF;exact rd (j+1) ⟨by omega,d⟩ (hn:=by simp[aF,dF]) (he:=by simp[aF,gW,dF]) (hh:=by simp[aF,dF,fo]) (hr:=by simp[aF,gW,dF]) (hr2:=by simp[aF,dF])
    |cons x r=>
     have C:r.length+2<=cM:=by
      rw[bi]at w;simp only[cM];omega
     rw[bk]at aF;simp[gW,dF,d,e,g,h,ad];refine Go.aw.e3 f ?_;simp[k,ad];refine⟨by omega,?_⟩;exact rd (j+1) ⟨by omega,d⟩ (hn:=by simp[aF,dF]) (he:=by simp[aF,gW,dF]) (hh:=by simp[aF,dF,fo]) (hr:=by simp[aF,gW,dF]) (hr2:=by simp[aF,dF])
   ·rw[if_neg c]at aF;cases l with
    |nil=>
     simp[gW,dF,d,e,g,h,ad];refine Go.aw.e3 f ?_;simp[c,k,ad];exact rd (j+1) ⟨by omega,d⟩ (hn:=by simp[aF,dF]) (he:=by simp[aF,gW,dF]) (hh:=by simp[aF,dF]) (hr:=by simp[aF,gW,dF]) (hr2:=by simp[aF,dF])
    |cons x r=>
     simp[gW,dF,d,e,g,h,ad];refine Go.aw.e3 f ?_;simp[c,k,ad];exact rd (j+1) ⟨by omega,d⟩ (hn:=by simp[aF,dF]) (he:=by simp[aF,gW,dF]) (hh:=by simp[aF,dF]) (hr:=by simp[aF,gW,dF]) (hr2:=by simp[aF,dF])
  ·rw[show j=n from by omega,zO];simp[e,q,ad];exact rd (i+1) hi (hn:=by simp) (he:=by simp) (hh:=by generalize ek t b (cz n (i+1) (i+1+1))=l;cases l<;>simp[dF]) (hr:=by generalize ek t b (cz n (i+1) (i+1+1))=l;cases l<;>simp[gW,dF]) (hr2:=by generalize ek t b (cz n (i+1) (i+1+1))=l;cases l<;>simp[dF])
 ·rw[show i=n from by omega];rw[show cz n n (n+1)=cZ n from kI n n];generalize ek t b (cZ n)=l;cases l with
  |nil=>simp[e,gW,dF,ad]
  |cons x r=>simp[e,gW,dF,ad]
theorem Qj{p:gX}(hx:p.x.length<=40)(a:p.y.length<=40)(h:dU p=0):cX 133 (vP p):=by
 obtain⟨g1,g2⟩:=iL h;exact⟨FD g1 hx,FD g2 a⟩
theorem aAC{b:aB}{n:Nat}(h:nO n b.aq=true)(e:∀s∈b.aq,jX s)(i j:Nat)(g:i<j)(f:j<b.aq.length):bP 1800 (b.dN i j).q:=by
 have key:∀k,k<b.aq.length->cX 133 (vP (b.sp k).pt):=fun k hk=>by
  have d:=am (aB.dE hk);simp only[nO,ab,List.all_eq_true]at h;have:=h.2 _ d;simp only[gl,ab,decide_eq_true_eq]at this;exact Qj this.2.1 this.2.2 (e _ d).2
 have a:=key i (by omega);have c:=key j f;rw[<-CL];exact(zU (lO a c) (lO a c)).mono (by decide)
theorem Qq(l:az prog 12 [] (.bool true))(t b:aB)(d:l8 t)(e:kV b):az prog 8 [cS t,.seq (b.aq.map bC)] (.bool true):=by
 have s0:=PI t d.cl d.pl d.sl;have g:=PU b 8 e.sl (by decide);rw[show(((8:Nat):Int))=8 from rfl]at g;rcases r:nS t with _|_
 ·rw[r]at s0;generalize nO 8 b.aq=A at*;refine aL nf qV mix (by simp[f8]) ?_;simp[f8,ad];refine Go.aw.c1 s0 ?_;simp[ad];refine Go.aw.c0 l ?_;simp[ad]
 rw[r]at s0;rcases n:nO 8 b.aq with _|_
 ·rw[n]at g;refine aL nf qV mix (by simp[f8]) ?_;simp[f8,ad];refine Go.aw.c1 s0 ?_;simp[ad];refine Go.aw.c2 g ?_;simp[ad];refine Go.aw.c0 l ?_;simp[ad]
 rw[n]at g;have q0:=PO t d.cl d.pl d.sl;have q1:=P9 b e.sl;have o:fu t b=0->∀i j,i<j->j<b.aq.length->bP 1800 (b.dN i j).q:=fun h=>aAC n (vZ e h).2;have f:=Qp t b d e o;have m:=Qm t b d e o;have q4:=PW t b d e;have C:=e.sl
 by_cases h:fu t b=0
 case neg=>
  have k:kJ t b=fu t b:=by rw[kJ,bE,if_neg h]
  rw[k,if_neg h]at f;rw[if_neg h]at m;generalize fu t b=L at*;refine aL nf qV mix (by simp[f8]) ?_;simp[f8,ad];refine Go.aw.c1 s0 ?_;simp[ad,h];refine Go.aw.c2 g ?_;simp[ad,h];refine Go.aw.c1 q0 ?_;simp[ad,h];refine Go.aw.c1 q1 ?_;simp[ad,h];refine Go.aw.c2 f ?_;simp[ad,h];refine Go.aw.c1 q0 ?_;simp[ad,h];refine Go.aw.c1 q1 ?_;simp[ad,h];refine Go.aw.c2 m ?_;simp[ad,h];refine Go.aw.c2 q4 ?_;simp[ad,h];refine Go.aw.c0 l ?_;simp[ad,h]
 obtain⟨y,s⟩:=vZ e h;obtain⟨E,F⟩:=vV y;have u:b.aq.length<=24:=by
  have:l9 t b=0:=by rw[fu,if_neg (by simp[y])]at h;exact h
  rw[l9]at this
  split at this
  ·cases this
  ·omega
 have v:=Qn t b d (by omega) (by omega) s u;have w:=Qo (ek t b (cZ b.aq.length)) (by
  have n:=av (fun p=>decide (lU t b p=0)) (cZ b.aq.length);have B:=zQ b.aq.length u;rw[ek];omega)
 rw[if_pos h]at m;rw[h]at q4;generalize (ek t b (cZ b.aq.length)).map fo=z at*
 by_cases c:b.aq.length<2
 ·have k:kJ t b=7:=by
   rw[kJ,bE,if_pos h,bE];have:(b.aq.length:Int)<2:=by omega
   simp[aW,this]
  have a:(b.aq.length:Int)<2:=by omega
  rw[k,if_neg (by decide)]at f;refine aL nf qV mix (by simp[f8]) ?_;simp[f8,ad];refine Go.aw.c1 s0 ?_;simp[ad,c,a];refine Go.aw.c2 g ?_;simp[ad,c,a];refine Go.aw.c1 q0 ?_;simp[ad,c,a];refine Go.aw.c1 q1 ?_;simp[ad,c,a];refine Go.aw.c2 f ?_;simp[ad,c,a];refine Go.aw.c1 q0 ?_;simp[ad,c,a];refine Go.aw.c1 q1 ?_;simp[ad,c,a];refine Go.aw.c2 m ?_;simp[ad,c,a];refine Go.aw.c2 q4 ?_;simp[ad,c,a];refine Go.aw.c2 v ?_;simp[ad,c,a];refine Go.aw.c2 w ?_;simp[ad,c,a];refine Go.aw.c0 l ?_;simp[ad,c,a]
 have k:kJ t b=0:=by
  rw[kJ,bE,if_pos h,bE];have:¬(b.aq.length:Int)<2:=by omega
  simp[aW,this,bE]
 have a:¬(b.aq.length:Int)<2:=by omega
 have x:=Qr b e s (by omega) (o h);rw[if_pos k,V9 (by omega)]at f;simp only[qZ,vA,fo]at f x;generalize fY b (cZ b.aq.length)=Q at*;generalize bH (b.dN Q.1 Q.2).q=D at*;refine aL nf qV mix (by simp[f8]) ?_;simp[f8,ad];refine Go.aw.c1 s0 ?_;simp[ad,c,a];refine Go.aw.c2 g ?_;simp[ad,c,a];refine Go.aw.c1 q0 ?_;simp[ad,c,a];refine Go.aw.c1 q1 ?_;simp[ad,c,a];refine Go.aw.c2 f ?_;simp[ad,c,a];refine Go.aw.c1 q0 ?_;simp[ad,c,a];refine Go.aw.c1 q1 ?_;simp[ad,c,a];refine Go.aw.c2 m ?_;simp[ad,c,a];refine Go.aw.c2 q4 ?_;simp[ad,c,a];refine Go.aw.c2 v ?_;simp[ad,c,a];refine Go.aw.c2 w ?_;simp[ad,c,a];refine Go.aw.c1 x ?_;simp[ad,c,a];refine Go.aw.c0 l ?_;simp[ad,c,a]
end Go.aw
