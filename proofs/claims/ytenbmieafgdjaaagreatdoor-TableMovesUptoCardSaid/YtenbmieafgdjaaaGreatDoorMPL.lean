import Derived.Test.YtenbmieafgdjaaaGreatDoorMPK
import Derived.Test.YtenbmieafgdjaaaGreatDoorMThE
import Derived.Test.YtenbmieafgdjaaaGreatDoorMPJ
import Derived.Test.YtenbmieafgdjaaaGreatDoorMPG
import Derived.Shelf.Strings.Builder1
import Derived.Shelf.Strings.Builder2
import Derived.Shelf.Strings.OnBuilder
import Derived.Shelf.Strings.Trim
import Derived.Shelf.Small.Utf8
import Derived.Shelf.Small.Bits
import Derived.Shelf.Small.Strs
import Derived.Shelf.Small.Wraps
import Derived.Shelf.Strings.BuilderF
import Derived.Shelf.Strconv.Atoi
import Derived.Shelf.Strconv.Itoa0
import Derived.Shelf.Strconv.Itoa1
import Derived.Shelf.LaysM
import Derived.Shelf.Strconv.Itoa2
import Derived.Shelf.Strconv.Itoa3
import Derived.Shelf.Strconv.AtoiErrFast
import Derived.Shelf.Strconv.ParseIntEmpty
import Derived.Shelf.Strconv.AtoiFail
import Derived.Shelf.Strconv.Clone
import Derived.Shelf.Strconv.SyntaxError
import Derived.Shelf.LaysC
import Derived.Shelf.Strconv.ToError
import Derived.Shelf.Strconv.Lower
import Derived.Shelf.Strconv.ParseUint10
import Derived.Shelf.Strconv.ParseUint10Empty
import Derived.Shelf.Strconv.ParseUint10Any
import Derived.Shelf.Strconv.ParseInt10
import Derived.Shelf.Strconv.AtoiLong
import Derived.Shelf.Strconv.AtoiInnerAll
import Derived.Shelf.Strconv.RangeError
import Derived.Shelf.Strconv.ToErrorRange
import Derived.Shelf.Strconv.AtoiAll
import Derived.Shelf.Strings.Search1
import Derived.Shelf.Strings.Search2
import Derived.Shelf.Strings.Search3
import Derived.Shelf.Strings.Cut
import Derived.Shelf.Strings.Count
import Derived.Shelf.Strings.Shaped
import Derived.Shelf.Strings.Prefix
import Derived.Shelf.Strings.Split
import Derived.Shelf.Strings.Runes
import Derived.Shelf.Strings.AsciiSet
import Derived.Shelf.Bits.Mul64
import Derived.Shelf.Strings.Repeat
import Derived.Shelf.Unicode.DecodeSlow
import Derived.Test.YtenbmieafgdjaaaGreatDoorProg
import Derived.Shelf.SlGeneric
import Derived.Shelf.Spec.SlicesGrow
/- Parts of a proof. -/
set_option linter.unusedSimpArgs false
set_option linter.unusedVariables false
set_option linter.unusedSectionVars false
open Go.Proofs.Tryz
open And renaming intro->ab
open Bool renaming cond_eq_ite->ac, false_eq_true->am, true_and->ao
open Go renaming FuncId->ap, World->av, DataW->ax, Calls->ay
open Go.IntKind renaming i64->aT
open Go.Shelf renaming Ren->a1
open Int renaming tmod_eq_emod_of_nonneg->a6
open List renaming mem_of_getElem?->a7, take_of_length_le->a8, take_length->bb, length_eq_zero_iff->be, length_take->bi, mem_iff_getElem->bl, take_add_one->bo, map_take->bv, any_eq_true->b0, drop_eq_getElem_cons->b1, zip_cons_cons->b2, zip_nil_left->b3, getElem_take->b4, map_cons->b5, mem_map->cb, map_nil->cc
open Nat renaming eq_of_beq_eq_true->ce, le_trans->ck, lt_of_lt_of_le->cv, beq->cx
namespace Go.al
open Go.Proofs
set_option maxHeartbeats 4000000
set_option maxRecDepth 100000
def ja{α:Type}(b:Nat)(a:List α->α->Int)(l:List α):Int:=if b<l.length then 5 else jH a l
theorem uX{α:Type}{n:Nat}{f:α->PV}(h:∀a,ad (.p (f a))≠.bad/\bF prog (ad (.p (f a)))=n)(l:List α):eH prog n (l.map (AV.p∘f)):=ud.2 fun v b=>by
 obtain⟨a,_,rfl⟩:=cb.1 b;exact h a
theorem Iy(l:List dx):eH prog 4 (l.map (AV.p∘eX)):=uX (fun r=>⟨by simp[ad],by simp[ad]⟩) l
theorem Iz(l:List ct):eH prog 3 (l.map (AV.p∘gf)):=uX (fun r=>⟨by simp[ad],by simp[ad]⟩) l
theorem Qs(t:aC)(a:Nat)(h:t.cs.length<=1000000)(m:t.aO.length<=1000000)(c:∀p∈t.aO,qS p):
 az prog 160 [.seq (t.aO.map eX),.int .i64 a,.func 161 [cA t] []] (.int .i64 (ja a (fY t.cs.length) t.aO)):=by
 refine aM nf FU mix (by simp[f160]) ?_;rw[ja]
 by_cases c1:a<t.aO.length
 ·have cI:(a:Int)<t.aO.length:=by omega
  rw[if_pos c1];simp[f160,cI]
 have d:¬(a:Int)<t.aO.length:=by omega
 rw[if_neg c1];simp[f160,d];refine lp (α:=Nat) (fun i=>⟨[(16,.p (.int .i64 i)),(15,.p (.int .i64 t.aO.length)),(14,.p (.seq (t.aO.map eX))),(0,.p (.seq (t.aO.map eX))),(2,.p (.func 161 [cA t] []))],[]⟩) (fun i=>i<=t.aO.length/\∀j,j<i->fM (fY t.cs.length) t.aO j=0) (fun i=>t.aO.length-i) 0 (by simp) ?_;rintro i ⟨k1,k2⟩
 by_cases hk:i<t.aO.length
 ·have gk:=aC.jj hk;have l:=bY (i:=i) (by omega);have b:=P3 t (t.pk i) (t.aO.take i) h (c _ (a7 gk)) (by rw[bi];omega) (fun o k=>by
   obtain⟨j,f,rfl⟩:=bl.1 k;rw[bi]at f;rw[b4];have:=k2 j (by omega);have g:=aC.jj (t:=t) (i:=j) (by omega);rw[fM,g]at this;rw[aC.DC (by omega)];exact⟨c _ (a7 g),zL this⟩)
  rw[bv]at b
  by_cases he:fY t.cs.length (t.aO.take i) (t.pk i)=0
  ·rw[he]at b;have:=rh k2 gk he;simp[hk,gk,ad];refine⟨⟨k1,Iy _⟩,?_⟩;refine Go.al.e3 b ?_;simp[l,ad];exact rd (i+1) ⟨hk,this⟩
  ·have e:=ri k2 gk he;rw[e];simp[hk,gk,ad];refine⟨⟨k1,Iy _⟩,?_⟩;refine Go.al.e3 b ?_;simp[he,ad]
 ·have:i=t.aO.length:=by omega
  subst this;rw[mL.2 k2];simp
theorem Qr(t:aC)(a:Nat)(e:t.cs.length<=1000000)(f:∀p∈t.cs,bW p)(k:t.au.length<=1000000)(g:∀p∈t.au,jA p):
 az prog 162 [.seq (t.au.map gf),.int .i64 a,.func 163 [cA t] []] (.int .i64 (ja a (iq t) t.au)):=by
 refine aM nf M6 mix (by simp[f162]) ?_;rw[ja]
 by_cases c1:a<t.au.length
 ·have cI:(a:Int)<t.au.length:=by omega
  rw[if_pos c1];simp[f162,cI]
 have c:¬(a:Int)<t.au.length:=by omega
 rw[if_neg c1];simp[f162,c];refine lp (α:=Nat) (fun i=>⟨[(16,.p (.int .i64 i)),(15,.p (.int .i64 t.au.length)),(14,.p (.seq (t.au.map gf))),(0,.p (.seq (t.au.map gf))),(2,.p (.func 163 [cA t] []))],[]⟩) (fun i=>i<=t.au.length/\∀j,j<i->fM (iq t) t.au j=0) (fun i=>t.au.length-i) 0 (by simp) ?_;rintro i ⟨k1,k2⟩
 by_cases hk:i<t.au.length
 ·have gk:=aC.fg hk;have h:=bY (i:=i) (by omega);have b:=Qh t (t.sp i) (t.au.take i) e f (g _ (a7 gk)) (by rw[bi];omega);rw[bv]at b
  by_cases he:iq t (t.au.take i) (t.sp i)=0
  ·rw[he]at b;have:=rh k2 gk he;simp[hk,gk,ad];refine⟨⟨k1,Iz _⟩,?_⟩;refine Go.al.e3 b ?_;simp[h,ad];exact rd (i+1) ⟨hk,this⟩
  ·have d:=ri k2 gk he;rw[d];simp[hk,gk,ad];refine⟨⟨k1,Iz _⟩,?_⟩;refine Go.al.e3 b ?_;simp[he,ad]
 ·have:i=t.au.length:=by omega
  subst this;rw[mL.2 k2];simp
def lS(t:aC):Int:=bG [bg (decide ((t.cs.length:Int)<3)) 2,bg (decide (12<(t.cs.length:Int))) 5,bg (t.cs.any du) 3]
def nU(t:aC):Int:=bG [bg (!t.fL) 15,bg (decide (t.bd<1\/1000<t.bd)) 3,ja 12 (fY t.cs.length) t.aO]
theorem DX{t:aC}(h:lS t=0):3<=t.cs.length/\t.cs.length<=12/\∀p∈t.cs,bW p:=by
 rw[lS,nv]at h;have b:=h (bg (decide ((t.cs.length:Int)<3)) 2) (by simp);have d:=h (bg (decide (12<(t.cs.length:Int))) 5) (by simp);have a:=h (bg (t.cs.any du) 3) (by simp);refine⟨?_,?_,fun p e=>rj ?_⟩
 ·by_cases c:(t.cs.length:Int)<3
  ·simp[bg,c]at b
  ·omega
 ·by_cases c:12<(t.cs.length:Int)
  ·simp[bg,c]at d
  ·omega
 ·cases hf:du p
  ·rfl
  ·have:t.cs.any du=true:=b0.2 ⟨p,e,hf⟩;rw[this]at a;simp[bg]at a
theorem vW(t:aC):dU t=if lS t=0 then(if nU t=0 then ja 256 (iq t) t.au else nU t)else lS t:=by
 rw[dU,lS,nU,ja,ja]
 by_cases c1:t.cs.length<3
 ·have:(t.cs.length:Int)<3:=by omega
  simp[bG,bg,c1,this]
 have b:¬(t.cs.length:Int)<3:=by omega
 by_cases c2:12<t.cs.length
 ·have:(12:Int)<t.cs.length:=by omega
  simp[bG,bg,c1,c2,b,this]
 have c:¬(12:Int)<t.cs.length:=by omega
 generalize t.cs.any du=a;cases a
 case true=>simp[bG,bg,c1,c2,b,c]
 cases t.fL
 ·simp[bG,bg,c1,c2,b,c]
 by_cases c3:t.bd<1\/1000<t.bd
 ·simp[bG,bg,c1,c2,b,c,c3]
 by_cases c4:12<t.aO.length
 ·simp[bG,bg,c1,c2,b,c,c3,c4]
 generalize jH (fY t.cs.length) t.aO=e
 by_cases c5:e=0
 ·simp[bG,bg,c1,c2,b,c,c3,c4,c5]
 ·simp[bG,bg,c1,c2,b,c,c3,c4,c5]
theorem D0(t:aC)(v:kt t):az prog 68 [cA t] (.int .i64 (dU t)):=by
 obtain⟨k,z,A,s,u⟩:=v;have k1:=gY (decide ((t.cs.length:Int)<3)) 2;have k2:=gY (decide (12<(t.cs.length:Int))) 5;have k3:=P1 t.cs k;have k4:=gY (t.cs.any du) 3;have k5:=nS [bg (decide ((t.cs.length:Int)<3)) 2,bg (decide (12<(t.cs.length:Int))) 5,bg (t.cs.any du) 3] (by simp);have l:=DX (t:=t);rw[vW];have w:=fun h:lS t=0=>Qt t (l h).1 k (l h).2.2;have x:=gY (!t.fL) 15;have q:=fun b=>gY b 3;have n:=Qs t 12 k z s;have j:=nS [bg (!t.fL) 15,bg (decide (t.bd<1\/1000<t.bd)) 3,ja 12 (fY t.cs.length) t.aO] (by simp);have o:=fun h:lS t=0=>Qr t 256 k (l h).2.2 A u;have d1:lS t=bG [bg (decide ((t.cs.length:Int)<3)) 2,bg (decide (12<(t.cs.length:Int))) 5,bg (t.cs.any du) 3]:=rfl;have d2:nU t=bG [bg (!t.fL) 15,bg (decide (t.bd<1\/1000<t.bd)) 3,ja 12 (fY t.cs.length) t.aO]:=rfl;rw[<-d1]at k5;rw[<-d2]at j;clear d1 d2 l;generalize lS t=p at*;generalize nU t=i at*;generalize ja 12 (fY t.cs.length) t.aO=F at*;generalize ja 256 (iq t) t.au=M at*;generalize t.cs.any du=G at*;generalize t.fL=H at*;generalize I:bg (decide ((t.cs.length:Int)<3)) 2=B at*;generalize J:bg (decide (12<(t.cs.length:Int))) 5=C at*;generalize K:bg G 3=D at*;generalize L:bg (!H) 15=E at*;have m:∀b:Bool,decide (t.bd<1\/1000<t.bd)=b->az prog 72 [.bool b,.int .i64 3] (.int .i64 (bg b 3))/\az prog 71 [.seq [.int .i64 E,.int .i64 (bg b 3),.int .i64 F]] (.int .i64 i):=fun b r=>by
  rw[r]at j;exact⟨q b,by simpa using j⟩
 have y:az prog 71 [.seq [.int .i64 B,.int .i64 C,.int .i64 D]] (.int .i64 p):=by simpa using k5
 clear j q k5;refine aM nf Ow mix (by simp[f68]) ?_;simp[f68,ad];refine Go.al.e2 k1 ?_;simp[ad];refine Go.al.e2 k2 ?_;simp[ad];refine Go.al.e2 k3 ?_;simp[ad];refine Go.al.e2 k4 ?_;simp[ad];refine ep y (by simp;first|exact⟨rfl,rfl⟩|rfl) (by simp;first|exact⟨rfl,rfl⟩|rfl) ?_;simp[ad];refine⟨by repeat' first|rfl|apply ab,?_⟩
 by_cases a:p=0
 case neg=>simp[a,ad]
 simp[a,ad];refine Go.al.e1 (w a) ?_;simp[ad];refine Go.al.e2 x ?_;simp[ad]
 by_cases c:t.bd<1
 ·have d:¬1<=t.bd:=by omega
  obtain⟨f1,f2⟩:=m true (by simp[c]);simp[c,d,ad];refine Go.al.e2 f1 ?_;simp[c,d,ad];refine Go.al.e3 n ?_;simp[c,d,ad];refine ep f2 (by simp;first|exact⟨rfl,rfl⟩|rfl) (by simp;first|exact⟨rfl,rfl⟩|rfl) ?_;simp[c,d,ad];refine⟨by repeat' first|rfl|apply ab,?_⟩
  by_cases e:i=0
  case neg=>simp[a,e,ad]
  simp[a,e,ad];refine Go.al.c3 (o a) ?_;simp[a,e,ad]
 have d:1<=t.bd:=by omega
 by_cases f:1000<t.bd
 ·have g:¬t.bd<=1000:=by omega
  obtain⟨f1,f2⟩:=m true (by simp[c,f]);simp[c,d,f,g,ad];refine Go.al.e2 f1 ?_;simp[c,d,f,g,ad];refine Go.al.e3 n ?_;simp[c,d,f,g,ad];refine ep f2 (by simp;first|exact⟨rfl,rfl⟩|rfl) (by simp;first|exact⟨rfl,rfl⟩|rfl) ?_;simp[c,d,f,g,ad];refine⟨by repeat' first|rfl|apply ab,?_⟩
  by_cases e:i=0
  case neg=>simp[a,e,ad]
  simp[a,e,ad];refine Go.al.c3 (o a) ?_;simp[a,e,ad]
 ·have g:t.bd<=1000:=by omega
  obtain⟨f1,f2⟩:=m false (by simp[c,f]);simp[c,d,f,g,ad];refine Go.al.e2 f1 ?_;simp[c,d,f,g,ad];refine Go.al.e3 n ?_;simp[c,d,f,g,ad];refine ep f2 (by simp;first|exact⟨rfl,rfl⟩|rfl) (by simp;first|exact⟨rfl,rfl⟩|rfl) ?_;simp[c,d,f,g,ad];refine⟨by repeat' first|rfl|apply ab,?_⟩
  by_cases e:i=0
  case neg=>simp[a,e,ad]
  simp[a,e,ad];refine Go.al.c3 (o a) ?_;simp[a,e,ad]
def aC.aEL(t:aC)(i:Nat):NV:=(eO (t.at (t.nx i))).sub (eO (t.at i))
def NS.add(s t:NS):NS:=⟨s.a.add t.a,s.b.add t.b,s.d⟩
def NS.neg(s:NS):NS:=⟨s.a.neg,s.b.neg,s.d⟩
def NS.times(s:NS)(k:NF):NS:=⟨s.a.mul k,s.b.mul k,s.d⟩
def NB.gP(n:NB)(e:NV):NS:=⟨e.gP n.a,e.gP n.b,n.d⟩
def NS.plain(a d:NF):NS:=⟨a,.int 0,d⟩
def NS.norm(s:NS):NF:=(s.a.mul s.a).sub ((s.b.mul s.b).mul s.d)
open Classical in
noncomputable def NS.under(s:NS)(k:NF):NS:=if s.norm.q=0 then .plain (k.div (s.a.add s.a)) s.d else⟨(k.mul s.a).div s.norm,(k.mul s.b).neg.div s.norm,s.d⟩
theorem Du.mono{k l:Nat}{s:NS}(h:Du k s)(a:k<=l):Du l s:=⟨h.1.mono a,h.2.1.mono a,h.2.2.mono a⟩
def aC.pos(t:aC)(n:NB)(i:Nat):Bool:=decide (0<sgS ((n.gP (t.aEL i)).neg).q)
theorem re{t:aC}(h:dU t=0):3<=t.cs.length/\t.cs.length<=12/\(∀p∈t.cs,bW p)/\t.fL=true:=by
 rw[vW]at h
 by_cases d:lS t=0
 ·rw[if_pos d]at h
  by_cases e:nU t=0
  ·obtain⟨a,b,c⟩:=DX d;refine⟨a,b,c,?_⟩;rw[nU,nv]at e;have f:=e (bg (!t.fL) 15) (by simp);cases hc:t.fL
   ·rw[hc]at f;simp[bg]at f
   ·rfl
  ·rw[if_neg e]at h;exact(e h).elim
 ·rw[if_neg d]at h;exact(d h).elim
def zO:PV:=.st 46 [.str [],.str []]
theorem lR(s:List Nat)(n:Int):az prog 59 [.str s,.int .i64 n] (.bool (decide ((s.length:Int)<=n))):=by
 refine aM nf Ov mix (by simp[f59]) ?_;simp[f59]
def iY(p:dx):Bool:=decide (p.name.length<=40)&&(decide (p.a.length<=40)&&decide (p.b.length<=40))
def fS(s:ct):Bool:=decide (s.name.length<=40)&&(decide (s.pt.x.length<=40)&&decide (s.pt.y.length<=40))
def jl(t:aC):Bool:=!(decide (14<t.cs.length)||(decide (14<t.aO.length)||((decide (8<t.au.length)&&decide (t.au.length<=256))||decide (258<t.au.length))))&&(t.aO.all iY&&t.au.all fS)
theorem tF{α:Type}{f:α->Bool}{l:List α}{i:Nat}{x:α}(h:l[i]?=some x):(l.take (i+1)).all f=((l.take i).all f&&f x):=by
 rw[bo,h];simp
theorem jG{α:Type}{f:α->Bool}{l:List α}{i:Nat}{x:α}(h:l[i]?=some x)(hf:f x=false):l.all f=false:=by
 cases a:l.all f
 ·rfl
 ·rw[List.all_eq_true]at a;rw[a x (a7 h)]at hf;cases hf
theorem Qo(t:aC)(B:t.cs.length<=1000000)(C:t.aO.length<=1000000)(D:t.au.length<=1000000):az prog 10 [bU t] (.bool (jl t)):=by
 refine aM nf N1 mix (by simp[f10]) ?_;have s:jl t=(!(decide (14<t.cs.length)||(decide (14<t.aO.length)||((decide (8<t.au.length)&&decide (t.au.length<=256))||decide (258<t.au.length))))&&(t.aO.all iY&&t.au.all fS)):=rfl
 by_cases c1:14<t.cs.length
 ·have q:(14:Int)<t.cs.length:=by omega
  have o:jl t=false:=by rw[s];simp[c1]
  simp[f10,ad,q,o]
 have q:¬(14:Int)<t.cs.length:=by omega
 by_cases c2:14<t.aO.length
 ·have r:(14:Int)<t.aO.length:=by omega
  have o:jl t=false:=by rw[s];simp[c2]
  simp[f10,ad,q,r,o]
 have r:¬(14:Int)<t.aO.length:=by omega
 have tail:(8<t.au.length->¬t.au.length<=256)->¬258<t.au.length->jl t=(t.aO.all iY&&t.au.all fS):=fun A z=>by
  rw[s]
  by_cases h:8<t.au.length
  ·have:=A h;simp[c1,c2,h,this,z]
  ·simp[c1,c2,h,z]
 by_cases c3:8<t.au.length
 ·have u:(8:Int)<t.au.length:=by omega
  by_cases c4:t.au.length<=256
  ·have w:(t.au.length:Int)<=256:=by omega
   have o:jl t=false:=by rw[s];simp[c3,c4]
   simp[f10,ad,q,r,u,w,o]
  ·have w:¬(t.au.length:Int)<=256:=by omega
   by_cases c5:258<t.au.length
   ·have v:(258:Int)<t.au.length:=by omega
    have o:jl t=false:=by rw[s];simp[c5]
    simp[f10,ad,q,r,u,w,v,o]
   ·have v:¬(258:Int)<t.au.length:=by omega
    rw[tail (fun _=>c4) c5];simp[f10,ad,q,r,u,w,v];refine lp (α:=Nat) (fun i=>⟨[(3,.p (.int .i64 i)),(1,.ptr 0 [])],[.box false (.p (bU t))]⟩) (fun i=>i<=t.aO.length/\(t.aO.take i).all iY=true) (fun i=>t.aO.length-i) 0 (by simp) ?_;rintro i ⟨k1,k2⟩
    by_cases hi:i<t.aO.length
    ·have c:=aC.jj hi;have n:=bY (i:=i) (by omega);have f:=lR (t.pk i).a 40;have j:=lR (t.pk i).b 40;have g:iY (t.pk i)=(decide ((t.pk i).name.length<=40)&&(decide ((t.pk i).a.length<=40)&&decide ((t.pk i).b.length<=40))):=rfl
     by_cases m:(t.pk i).name.length<=40
     ·have d:¬(40:Int)<(t.pk i).name.length:=by omega
      by_cases a2:(t.pk i).a.length<=40
      ·have k:((t.pk i).a.length:Int)<=40:=by omega
       rw[decide_eq_true k]at f
       by_cases a3:(t.pk i).b.length<=40
       ·have l:((t.pk i).b.length:Int)<=40:=by omega
        rw[decide_eq_true l]at j;have e:iY (t.pk i)=true:=by rw[g];simp[m,a2,a3]
        simp[hi,c,d,ad];refine Go.al.c2 f ?_;simp[hi,c,d,ad];refine Go.al.c2 j ?_;simp[hi,c,d,n,ad];exact rd (i+1) ⟨hi,by rw[tF c,k2,e];rfl⟩
       ·have l:¬((t.pk i).b.length:Int)<=40:=by omega
        rw[decide_eq_false l]at j;have e:iY (t.pk i)=false:=by rw[g];simp[a3]
        rw[jG c e];simp[hi,c,d,ad];refine Go.al.c2 f ?_;simp[hi,c,d,ad];refine Go.al.c2 j ?_;simp[hi,c,d,n,ad]
      ·have k:¬((t.pk i).a.length:Int)<=40:=by omega
       rw[decide_eq_false k]at f;have e:iY (t.pk i)=false:=by rw[g];simp[a2]
       rw[jG c e];simp[hi,c,d,ad];refine Go.al.c2 f ?_;simp[hi,c,d,ad]
     ·have d:(40:Int)<(t.pk i).name.length:=by omega
      have e:iY (t.pk i)=false:=by rw[g];simp[m]
      rw[jG c e];simp[hi,c,d,ad]
    have:i=t.aO.length:=by omega
    subst this;rw[bb]at k2;rw[k2,ao];simp[ad];refine lp (α:=Nat) (fun i=>⟨[(4,.p (.int .i64 i)),(1,.ptr 0 [])],[.box false (.p (bU t))]⟩) (fun i=>i<=t.au.length/\(t.au.take i).all fS=true) (fun i=>t.au.length-i) 0 (by simp) ?_;rintro i ⟨k1,k2⟩
    by_cases hi:i<t.au.length
    ·have c:=aC.fg hi;have n:=bY (i:=i) (by omega);have f:=lR (t.sp i).pt.x 40;have j:=lR (t.sp i).pt.y 40;have g:fS (t.sp i)=(decide ((t.sp i).name.length<=40)&&(decide ((t.sp i).pt.x.length<=40)&&decide ((t.sp i).pt.y.length<=40))):=rfl
     by_cases m:(t.sp i).name.length<=40
     ·have d:¬(40:Int)<(t.sp i).name.length:=by omega
      by_cases a2:(t.sp i).pt.x.length<=40
      ·have k:((t.sp i).pt.x.length:Int)<=40:=by omega
       rw[decide_eq_true k]at f
       by_cases a3:(t.sp i).pt.y.length<=40
       ·have l:((t.sp i).pt.y.length:Int)<=40:=by omega
        rw[decide_eq_true l]at j;have e:fS (t.sp i)=true:=by rw[g];simp[m,a2,a3]
        simp[hi,c,d,ad];refine Go.al.c2 f ?_;simp[hi,c,d,ad];refine Go.al.c2 j ?_;simp[hi,c,d,n,ad];exact rd (i+1) ⟨hi,by rw[tF c,k2,e];rfl⟩
       ·have l:¬((t.sp i).pt.y.length:Int)<=40:=by omega
        rw[decide_eq_false l]at j;have e:fS (t.sp i)=false:=by rw[g];simp[a3]
        rw[jG c e];simp[hi,c,d,ad];refine Go.al.c2 f ?_;simp[hi,c,d,ad];refine Go.al.c2 j ?_;simp[hi,c,d,n,ad]
      ·have k:¬((t.sp i).pt.x.length:Int)<=40:=by omega
       rw[decide_eq_false k]at f;have e:fS (t.sp i)=false:=by rw[g];simp[a2]
       rw[jG c e];simp[hi,c,d,ad];refine Go.al.c2 f ?_;simp[hi,c,d,ad]
     ·have d:(40:Int)<(t.sp i).name.length:=by omega
      have e:fS (t.sp i)=false:=by rw[g];simp[m]
      rw[jG c e];simp[hi,c,d,ad]
    have:i=t.au.length:=by omega
    subst this;rw[bb]at k2;rw[k2];simp[ad]
 ·have u:¬(8:Int)<t.au.length:=by omega
  have v:¬(258:Int)<t.au.length:=by omega
  rw[tail (fun h=>absurd h c3) (by omega)];simp[f10,ad,q,r,u,v];refine lp (α:=Nat) (fun i=>⟨[(3,.p (.int .i64 i)),(1,.ptr 0 [])],[.box false (.p (bU t))]⟩) (fun i=>i<=t.aO.length/\(t.aO.take i).all iY=true) (fun i=>t.aO.length-i) 0 (by simp) ?_;rintro i ⟨k1,k2⟩
  by_cases hi:i<t.aO.length
  ·have c:=aC.jj hi;have n:=bY (i:=i) (by omega);have f:=lR (t.pk i).a 40;have j:=lR (t.pk i).b 40;have g:iY (t.pk i)=(decide ((t.pk i).name.length<=40)&&(decide ((t.pk i).a.length<=40)&&decide ((t.pk i).b.length<=40))):=rfl
   by_cases m:(t.pk i).name.length<=40
   ·have d:¬(40:Int)<(t.pk i).name.length:=by omega
    by_cases a2:(t.pk i).a.length<=40
    ·have k:((t.pk i).a.length:Int)<=40:=by omega
     rw[decide_eq_true k]at f
     by_cases a3:(t.pk i).b.length<=40
     ·have l:((t.pk i).b.length:Int)<=40:=by omega
      rw[decide_eq_true l]at j;have e:iY (t.pk i)=true:=by rw[g];simp[m,a2,a3]
      simp[hi,c,d,ad];refine Go.al.c2 f ?_;simp[hi,c,d,ad];refine Go.al.c2 j ?_;simp[hi,c,d,n,ad];exact rd (i+1) ⟨hi,by rw[tF c,k2,e];rfl⟩
     ·have l:¬((t.pk i).b.length:Int)<=40:=by omega
      rw[decide_eq_false l]at j;have e:iY (t.pk i)=false:=by rw[g];simp[a3]
      rw[jG c e];simp[hi,c,d,ad];refine Go.al.c2 f ?_;simp[hi,c,d,ad];refine Go.al.c2 j ?_;simp[hi,c,d,n,ad]
    ·have k:¬((t.pk i).a.length:Int)<=40:=by omega
     rw[decide_eq_false k]at f;have e:iY (t.pk i)=false:=by rw[g];simp[a2]
     rw[jG c e];simp[hi,c,d,ad];refine Go.al.c2 f ?_;simp[hi,c,d,ad]
   ·have d:(40:Int)<(t.pk i).name.length:=by omega
    have e:iY (t.pk i)=false:=by rw[g];simp[m]
    rw[jG c e];simp[hi,c,d,ad]
  have:i=t.aO.length:=by omega
  subst this;rw[bb]at k2;rw[k2,ao];simp[ad];refine lp (α:=Nat) (fun i=>⟨[(4,.p (.int .i64 i)),(1,.ptr 0 [])],[.box false (.p (bU t))]⟩) (fun i=>i<=t.au.length/\(t.au.take i).all fS=true) (fun i=>t.au.length-i) 0 (by simp) ?_;rintro i ⟨k1,k2⟩
  by_cases hi:i<t.au.length
  ·have c:=aC.fg hi;have n:=bY (i:=i) (by omega);have f:=lR (t.sp i).pt.x 40;have j:=lR (t.sp i).pt.y 40;have g:fS (t.sp i)=(decide ((t.sp i).name.length<=40)&&(decide ((t.sp i).pt.x.length<=40)&&decide ((t.sp i).pt.y.length<=40))):=rfl
   by_cases m:(t.sp i).name.length<=40
   ·have d:¬(40:Int)<(t.sp i).name.length:=by omega
    by_cases a2:(t.sp i).pt.x.length<=40
    ·have k:((t.sp i).pt.x.length:Int)<=40:=by omega
     rw[decide_eq_true k]at f
     by_cases a3:(t.sp i).pt.y.length<=40
     ·have l:((t.sp i).pt.y.length:Int)<=40:=by omega
      rw[decide_eq_true l]at j;have e:fS (t.sp i)=true:=by rw[g];simp[m,a2,a3]
      simp[hi,c,d,ad];refine Go.al.c2 f ?_;simp[hi,c,d,ad];refine Go.al.c2 j ?_;simp[hi,c,d,n,ad];exact rd (i+1) ⟨hi,by rw[tF c,k2,e];rfl⟩
     ·have l:¬((t.sp i).pt.y.length:Int)<=40:=by omega
      rw[decide_eq_false l]at j;have e:fS (t.sp i)=false:=by rw[g];simp[a3]
      rw[jG c e];simp[hi,c,d,ad];refine Go.al.c2 f ?_;simp[hi,c,d,ad];refine Go.al.c2 j ?_;simp[hi,c,d,n,ad]
    ·have k:¬((t.sp i).pt.x.length:Int)<=40:=by omega
     rw[decide_eq_false k]at f;have e:fS (t.sp i)=false:=by rw[g];simp[a2]
     rw[jG c e];simp[hi,c,d,ad];refine Go.al.c2 f ?_;simp[hi,c,d,ad]
   ·have d:(40:Int)<(t.sp i).name.length:=by omega
    have e:fS (t.sp i)=false:=by rw[g];simp[m]
    rw[jG c e];simp[hi,c,d,ad]
  have:i=t.au.length:=by omega
  subst this;rw[bb]at k2;rw[k2];simp[ad]
theorem R9(l:List b7):eH prog 2 (l.map (AV.p∘aX)):=uX (fun r=>⟨by simp[ad],by simp[ad]⟩) l
theorem jm{α:Type}{f:α->AV}{l:List α}{j:Nat}{x:α}(h:l[j+1]?=some x):(l.take (j+1+1)).map f=(l.map f).take (j+1)++[f x]:=by
 rw[bo (i:=j+1),h,List.map_append,bv];rfl
theorem dZ{N:Nat×Nat->Prop}{α:Type}{f:α->PV}{k:Nat}{l:List α}:aQ N ((l.map (AV.p∘f)).take k)=True:=by
 rw[cG,eq_iff_iff,iff_true];intro x hx;obtain⟨a,_,rfl⟩:=cb.1 (List.mem_of_mem_take hx);trivial
theorem nT:eX=bQ:=rfl
theorem lU:gf=aV:=rfl
theorem jn{α:Type}{l:List α}{x:α}(h:l[0]?=some x):l.take 1=[x]:=by
 rw[bo (i:=0),h];rfl
theorem Qu(t:aC)(u:t.cs.length<=1000000)(v:t.aO.length<=1000000)(w:t.au.length<=1000000):az prog 13 [bU t] (cA t):=by
 have s:(1000000:Nat)<cC:=by decide
 have o:aT.wrap 1=1:=by decide
 refine aM nf N2 mix (by simp[f13]) ?_;simp[f13,ad];refine⟨⟨R9 _,by omega⟩,?_⟩
 by_cases hc:t.cs=[]
 ·simp[hc];refine⟨⟨by repeat' first|rfl|apply ab,by repeat' first|rfl|apply ab⟩,?_⟩;refine lp (α:=Nat) (fun i=>match i with
    |0=>⟨[(18,.p (.int .i64 0)),(17,.p (.int .i64 t.aO.length)),(16,.p (.seq (t.aO.map bQ))),(3,.ptr 3 []),(2,.ptr 1 []),(1,.ptr 0 [])],[.box false (.p (bU t)),.box false (.p (.st 37 [.aF,.int .i64 0,.aF,.aF])),.arr .exact 0 2 [],.box false (.st 37 [.sl 2 0 2 0 0,.p (.int .i64 t.bd),.p .aF,.p .aF])]⟩
    |m+1=>⟨[(18,.p (.int .i64 ((m+1:Nat):Int))),(17,.p (.int .i64 t.aO.length)),(16,.p (.seq (t.aO.map bQ))),(3,.ptr 3 []),(2,.ptr 1 []),(1,.ptr 0 [])],[.box false (.p (bU t)),.box false (.p (.st 37 [.aF,.int .i64 0,.aF,.aF])),.arr .exact 0 2 [],.box false (.st 37 [.sl 2 0 2 0 0,.p (.int .i64 t.bd),.sl 6 m 4 0 (m+1),.p .aF]),.hole,.hole,.arr .grow m 4 ((t.aO.take (m+1)).map (AV.p∘bQ))]⟩) (fun i=>i<=t.aO.length) (fun i=>t.aO.length-i) 0 (by simp) ?_
  rintro i q
  by_cases hi:i<t.aO.length
  ·have a:=aC.jj hi;rcases i with _|j
   ·have b:=jn a;simp[hi,a,o,ad];exact⟨by omega,rd 1 hi (hh:=by simp[b]) (hr2:=by simp[dZ])⟩
   ·have h:aT.wrap ((j:Int)+1+1)=(j:Int)+1+1:=aI _ (by omega) (by omega);have hI:(j:Int)+1<t.aO.length:=by omega
    have b:=jm (f:=AV.p∘bQ) a;simp[hi,hI,a,h,ad];exact⟨by omega,⟨by omega,by omega⟩,rd (j+2) hi (hh:=by simp at b;simp[b]) (hr2:=by simp[dZ])⟩
  have r:i=t.aO.length:=by omega
  rcases i with _|j
  ·have n:t.aO=[]:=be.1 r.symm;simp[n,ad];refine lp (α:=Nat) (fun i=>match i with
     |0=>⟨[(32,.p (.int .i64 0)),(31,.p (.int .i64 t.au.length)),(30,.p (.seq (t.au.map aV))),(3,.ptr 3 []),(2,.ptr 1 []),(1,.ptr 0 [])],[.box false (.p (bU t)),.box false (.p (.st 37 [.aF,.int .i64 0,.aF,.aF])),.arr .exact 0 2 [],.box false (.st 37 [.sl 2 0 2 0 0,.p (.int .i64 t.bd),.p .aF,.p .aF])]⟩
     |m+1=>⟨[(32,.p (.int .i64 ((m+1:Nat):Int))),(31,.p (.int .i64 t.au.length)),(30,.p (.seq (t.au.map aV))),(3,.ptr 3 []),(2,.ptr 1 []),(1,.ptr 0 [])],[.box false (.p (bU t)),.box false (.p (.st 37 [.aF,.int .i64 0,.aF,.aF])),.arr .exact 0 2 [],.box false (.st 37 [.sl 2 0 2 0 0,.p (.int .i64 t.bd),.p .aF,.sl 6 m 3 0 (m+1)]),.hole,.hole,.arr .grow m 3 ((t.au.take (m+1)).map (AV.p∘aV))]⟩) (fun i=>i<=t.au.length) (fun i=>t.au.length-i) 0 (by simp) ?_
   rintro i q
   by_cases hi:i<t.au.length
   ·have a:=aC.fg hi;rcases i with _|j
    ·have b:=jn a;simp[hi,a,o,ad];exact⟨by omega,rd 1 hi (hh:=by simp[b]) (hr2:=by simp[dZ])⟩
    ·have h:aT.wrap ((j:Int)+1+1)=(j:Int)+1+1:=aI _ (by omega) (by omega);have hI:(j:Int)+1<t.au.length:=by omega
     have b:=jm (f:=AV.p∘aV) a;simp[hi,hI,a,h,ad];exact⟨by omega,⟨by omega,by omega⟩,rd (j+2) hi (hh:=by simp at b;simp[b]) (hr2:=by simp[dZ])⟩
   have d:i=t.au.length:=by omega
   rcases i with _|c
   ·have e:t.au=[]:=be.1 d.symm;simp[e,ad];simp[cA,hc,n,e,nT,lU]
   ·have hI:¬((c:Int)+1<t.au.length):=by omega
    have g:t.au.take (c+1)=t.au:=by rw[d,bb]
    simp[hI,g,ad];have l:(t.au.map (AV.p∘aV)).take (c+1)=t.au.map (AV.p∘aV):=a8 (by simp;omega);simp[cA,hc,n,l,nT,lU];omega
  ·have hI:¬((j:Int)+1<t.aO.length):=by omega
   have g:t.aO.take (j+1)=t.aO:=by rw[r,bb]
   simp[hI,g,ad];refine lp (α:=Nat) (fun i=>match i with
    |0=>⟨[(32,.p (.int .i64 0)),(31,.p (.int .i64 t.au.length)),(30,.p (.seq (t.au.map aV))),(3,.ptr 3 []),(2,.ptr 1 []),(1,.ptr 0 [])],[.box false (.p (bU t)),.box false (.p (.st 37 [.aF,.int .i64 0,.aF,.aF])),.arr .exact 0 2 [],.box false (.st 37 [.sl 2 0 2 0 0,.p (.int .i64 t.bd),.sl 6 j 4 0 (j+1),.p .aF]),.hole,.hole,.arr .grow j 4 (t.aO.map (AV.p∘bQ))]⟩
    |m+1=>⟨[(32,.p (.int .i64 ((m+1:Nat):Int))),(31,.p (.int .i64 t.au.length)),(30,.p (.seq (t.au.map aV))),(3,.ptr 3 []),(2,.ptr 1 []),(1,.ptr 0 [])],[.box false (.p (bU t)),.box false (.p (.st 37 [.aF,.int .i64 0,.aF,.aF])),.arr .exact 0 2 [],.box false (.st 37 [.sl 2 0 2 0 0,.p (.int .i64 t.bd),.sl 6 j 4 0 (j+1),.sl 9 m 3 0 (m+1)]),.hole,.hole,.arr .grow j 4 (t.aO.map (AV.p∘bQ)),.hole,.hole,.arr .grow m 3 ((t.au.take (m+1)).map (AV.p∘aV))]⟩) (fun i=>i<=t.au.length) (fun i=>t.au.length-i) 0 (by simp) ?_
   rintro i q
   by_cases hi:i<t.au.length
   ·have a:=aC.fg hi;rcases i with _|j
    ·have b:=jn a;simp[hi,a,o,ad];exact⟨by omega,rd 1 hi (hh:=by simp[b]) (hr2:=by simp[dZ])⟩
    ·have h:aT.wrap ((j:Int)+1+1)=(j:Int)+1+1:=aI _ (by omega) (by omega);have hI:(j:Int)+1<t.au.length:=by omega
     have b:=jm (f:=AV.p∘aV) a;simp[hi,hI,a,h,ad];exact⟨by omega,⟨by omega,by omega⟩,rd (j+2) hi (hh:=by simp at b;simp[b]) (hr2:=by simp[dZ])⟩
   have d:i=t.au.length:=by omega
   rcases i with _|c
   ·have e:t.au=[]:=be.1 d.symm;simp[e,ad];have k:(t.aO.map (AV.p∘bQ)).take (j+1)=t.aO.map (AV.p∘bQ):=a8 (by simp;omega);simp[cA,hc,k,e,nT,lU];omega
   ·have hI:¬((c:Int)+1<t.au.length):=by omega
    have g:t.au.take (c+1)=t.au:=by rw[d,bb]
    simp[hI,g,ad];have k:(t.aO.map (AV.p∘bQ)).take (j+1)=t.aO.map (AV.p∘bQ):=a8 (by simp;omega);have l:(t.au.map (AV.p∘aV)).take (c+1)=t.au.map (AV.p∘aV):=a8 (by simp;omega);simp[cA,hc,k,l,nT,lU];omega
 ·simp[hc];refine⟨⟨by repeat' first|rfl|apply ab,by repeat' first|rfl|apply ab⟩,?_⟩;refine lp (α:=Nat) (fun i=>match i with
    |0=>⟨[(18,.p (.int .i64 0)),(17,.p (.int .i64 t.aO.length)),(16,.p (.seq (t.aO.map bQ))),(3,.ptr 4 []),(2,.ptr 1 []),(1,.ptr 0 [])],[.box false (.p (bU t)),.box false (.p (.st 37 [.aF,.int .i64 0,.aF,.aF])),.arr .exact 0 2 [],.arr .grow 0 2 (t.cs.map (AV.p∘aX)),.box false (.st 37 [.sl 3 0 2 0 t.cs.length,.p (.int .i64 t.bd),.p .aF,.p .aF])]⟩
    |m+1=>⟨[(18,.p (.int .i64 ((m+1:Nat):Int))),(17,.p (.int .i64 t.aO.length)),(16,.p (.seq (t.aO.map bQ))),(3,.ptr 4 []),(2,.ptr 1 []),(1,.ptr 0 [])],[.box false (.p (bU t)),.box false (.p (.st 37 [.aF,.int .i64 0,.aF,.aF])),.arr .exact 0 2 [],.arr .grow 0 2 (t.cs.map (AV.p∘aX)),.box false (.st 37 [.sl 3 0 2 0 t.cs.length,.p (.int .i64 t.bd),.sl 7 m 4 0 (m+1),.p .aF]),.hole,.hole,.arr .grow m 4 ((t.aO.take (m+1)).map (AV.p∘bQ))]⟩) (fun i=>i<=t.aO.length) (fun i=>t.aO.length-i) 0 (by simp) ?_
  rintro i q
  by_cases hi:i<t.aO.length
  ·have a:=aC.jj hi;rcases i with _|j
   ·have b:=jn a;simp[hi,a,o,ad];exact⟨by omega,rd 1 hi (hh:=by simp[b]) (hr2:=by simp[dZ])⟩
   ·have h:aT.wrap ((j:Int)+1+1)=(j:Int)+1+1:=aI _ (by omega) (by omega);have hI:(j:Int)+1<t.aO.length:=by omega
    have b:=jm (f:=AV.p∘bQ) a;simp[hi,hI,a,h,ad];exact⟨by omega,⟨by omega,by omega⟩,rd (j+2) hi (hh:=by simp at b;simp[b]) (hr2:=by simp[dZ])⟩
  have r:i=t.aO.length:=by omega
  rcases i with _|j
  ·have n:t.aO=[]:=be.1 r.symm;simp[n,ad];refine lp (α:=Nat) (fun i=>match i with
     |0=>⟨[(32,.p (.int .i64 0)),(31,.p (.int .i64 t.au.length)),(30,.p (.seq (t.au.map aV))),(3,.ptr 4 []),(2,.ptr 1 []),(1,.ptr 0 [])],[.box false (.p (bU t)),.box false (.p (.st 37 [.aF,.int .i64 0,.aF,.aF])),.arr .exact 0 2 [],.arr .grow 0 2 (t.cs.map (AV.p∘aX)),.box false (.st 37 [.sl 3 0 2 0 t.cs.length,.p (.int .i64 t.bd),.p .aF,.p .aF])]⟩
     |m+1=>⟨[(32,.p (.int .i64 ((m+1:Nat):Int))),(31,.p (.int .i64 t.au.length)),(30,.p (.seq (t.au.map aV))),(3,.ptr 4 []),(2,.ptr 1 []),(1,.ptr 0 [])],[.box false (.p (bU t)),.box false (.p (.st 37 [.aF,.int .i64 0,.aF,.aF])),.arr .exact 0 2 [],.arr .grow 0 2 (t.cs.map (AV.p∘aX)),.box false (.st 37 [.sl 3 0 2 0 t.cs.length,.p (.int .i64 t.bd),.p .aF,.sl 7 m 3 0 (m+1)]),.hole,.hole,.arr .grow m 3 ((t.au.take (m+1)).map (AV.p∘aV))]⟩) (fun i=>i<=t.au.length) (fun i=>t.au.length-i) 0 (by simp) ?_
   rintro i q
   by_cases hi:i<t.au.length
   ·have a:=aC.fg hi;rcases i with _|j
    ·have b:=jn a;simp[hi,a,o,ad];exact⟨by omega,rd 1 hi (hh:=by simp[b]) (hr2:=by simp[dZ])⟩
    ·have h:aT.wrap ((j:Int)+1+1)=(j:Int)+1+1:=aI _ (by omega) (by omega);have hI:(j:Int)+1<t.au.length:=by omega
     have b:=jm (f:=AV.p∘aV) a;simp[hi,hI,a,h,ad];exact⟨by omega,⟨by omega,by omega⟩,rd (j+2) hi (hh:=by simp at b;simp[b]) (hr2:=by simp[dZ])⟩
   have d:i=t.au.length:=by omega
   rcases i with _|c
   ·have e:t.au=[]:=be.1 d.symm;simp[e,ad];simp[cA,hc,n,e,nT,lU]
   ·have hI:¬((c:Int)+1<t.au.length):=by omega
    have g:t.au.take (c+1)=t.au:=by rw[d,bb]
    simp[hI,g,ad];have l:(t.au.map (AV.p∘aV)).take (c+1)=t.au.map (AV.p∘aV):=a8 (by simp;omega);simp[cA,hc,n,l,nT,lU];omega
  ·have hI:¬((j:Int)+1<t.aO.length):=by omega
   have g:t.aO.take (j+1)=t.aO:=by rw[r,bb]
   simp[hI,g,ad];refine lp (α:=Nat) (fun i=>match i with
    |0=>⟨[(32,.p (.int .i64 0)),(31,.p (.int .i64 t.au.length)),(30,.p (.seq (t.au.map aV))),(3,.ptr 4 []),(2,.ptr 1 []),(1,.ptr 0 [])],[.box false (.p (bU t)),.box false (.p (.st 37 [.aF,.int .i64 0,.aF,.aF])),.arr .exact 0 2 [],.arr .grow 0 2 (t.cs.map (AV.p∘aX)),.box false (.st 37 [.sl 3 0 2 0 t.cs.length,.p (.int .i64 t.bd),.sl 7 j 4 0 (j+1),.p .aF]),.hole,.hole,.arr .grow j 4 (t.aO.map (AV.p∘bQ))]⟩
    |m+1=>⟨[(32,.p (.int .i64 ((m+1:Nat):Int))),(31,.p (.int .i64 t.au.length)),(30,.p (.seq (t.au.map aV))),(3,.ptr 4 []),(2,.ptr 1 []),(1,.ptr 0 [])],[.box false (.p (bU t)),.box false (.p (.st 37 [.aF,.int .i64 0,.aF,.aF])),.arr .exact 0 2 [],.arr .grow 0 2 (t.cs.map (AV.p∘aX)),.box false (.st 37 [.sl 3 0 2 0 t.cs.length,.p (.int .i64 t.bd),.sl 7 j 4 0 (j+1),.sl 10 m 3 0 (m+1)]),.hole,.hole,.arr .grow j 4 (t.aO.map (AV.p∘bQ)),.hole,.hole,.arr .grow m 3 ((t.au.take (m+1)).map (AV.p∘aV))]⟩) (fun i=>i<=t.au.length) (fun i=>t.au.length-i) 0 (by simp) ?_
   rintro i q
   by_cases hi:i<t.au.length
   ·have a:=aC.fg hi;rcases i with _|j
    ·have b:=jn a;simp[hi,a,o,ad];exact⟨by omega,rd 1 hi (hh:=by simp[b]) (hr2:=by simp[dZ])⟩
    ·have h:aT.wrap ((j:Int)+1+1)=(j:Int)+1+1:=aI _ (by omega) (by omega);have hI:(j:Int)+1<t.au.length:=by omega
     have b:=jm (f:=AV.p∘aV) a;simp[hi,hI,a,h,ad];exact⟨by omega,⟨by omega,by omega⟩,rd (j+2) hi (hh:=by simp at b;simp[b]) (hr2:=by simp[dZ])⟩
   have d:i=t.au.length:=by omega
   rcases i with _|c
   ·have e:t.au=[]:=be.1 d.symm;simp[e,ad];have k:(t.aO.map (AV.p∘bQ)).take (j+1)=t.aO.map (AV.p∘bQ):=a8 (by simp;omega);simp[cA,hc,k,e,nT,lU];omega
   ·have hI:¬((c:Int)+1<t.au.length):=by omega
    have g:t.au.take (c+1)=t.au:=by rw[d,bb]
    simp[hI,g,ad];have k:(t.aO.map (AV.p∘bQ)).take (j+1)=t.aO.map (AV.p∘bQ):=a8 (by simp;omega);have l:(t.au.map (AV.p∘aV)).take (c+1)=t.au.map (AV.p∘aV):=a8 (by simp;omega);simp[cA,hc,k,l,nT,lU];omega
def gd(r:Int)(a b:V2):Int:=eM ((a.sub b).dot (a.sub b)) (uj r)
def gQ(t:aC)(bef:List ct)(s:ct):Int:=
 if isName s.name=false then 8
 else if bef.any (fun o=>decide (o.name=s.name))=true then 9
 else if dw s.pt≠0 then dw s.pt
 else if t.on (vP s.pt)<0 then 16
 else if bef.any (fun o=>decide (gd t.bd (vP o.pt) (vP s.pt)<0))=true then 17 else 0
def rl(t b:aC):Int:=if 24<b.au.length then 5 else jH (gQ t) b.au
def gv(t b:aC):Int:=if dU t≠0 then dU t else rl t b
structure mN(b:aC):Prop where
 sl:b.au.length<=1000000
 sp:∀s∈b.au,jA s
theorem Eu{t:aC}(h:dU t=0):1<=t.bd/\t.bd<=1000:=by
 rw[dU]at h
 split at h
 ·omega
 split at h
 ·omega
 split at h
 ·omega
 split at h
 ·omega
 split at h
 ·omega
 omega
theorem tN{s:gq}(h:dw s=0):eV (vP s)=fe s/\bN 2000 (vP s):=by
 obtain⟨g1,g2⟩:=iv h;refine⟨?_,fX g1,fX g2⟩;rw[eV,vP];dsimp only;rw[(iR g1).1,(iR g2).1]
theorem QQ(t:aC)(a:0<=t.bd)(b:t.bd<=1000000):az prog 205 [bU t] (.str (bC (uj t.bd))):=by
 have f:=BF a b;have c:=Ck (4*t.bd*t.bd) (by omega) (by omega);have d:aT.wrap (4*t.bd)=4*t.bd:=aI _ (by omega) (by omega);have e:aT.wrap (4*t.bd*t.bd)=4*t.bd*t.bd:=aI _ (by omega) (by omega);refine aM nf FL mix (by simp[f205]) ?_;rw[uj];simp[f205,ad,d,e];refine c1 c ?_;simp
theorem QR(t:aC)(a b:V2)(d:0<=t.bd)(e:t.bd<=1000000)(f:bN 2000 a)(g:bN 2000 b):az prog 104 [bU t,eV a,eV b] (.int .i64 (gd t.bd a b)):=by
 have c:=qz f g;have k1:=CX a b (f.mono (by decide)) (g.mono (by decide));have k2:=Rl (a.sub b) (c.mono (by decide));have k3:=QQ t d e;have k4:=tH ((a.sub b).dot (a.sub b)) (uj t.bd) ((Gn c c).mono (by decide)) ((Gq d e).mono (by decide));refine aM nf MF mix (by simp[f104]) ?_;rw[gd];simp[f104,ad];refine e2 k1 ?_;simp[ad];refine e1 k2 ?_;simp[ad];refine e1 k3 ?_;simp[ad];refine e2 k4 ?_;simp[ad]
theorem EZ{α:Type}{f:α->Bool}{l:List α}{i j:Nat}{x:α}(h:l[j]?=some x)(a:j<i)(hf:f x=true):(l.take i).any f=true:=by
 rw[b0];exact⟨x,a7 (i:=j) (by rw[List.getElem?_take,if_pos a];exact h),hf⟩
theorem zV{t:aC}{a:List ct}{s:ct}(h:gQ t a s=0):dw s.pt=0:=by
 rw[gQ]at h
 split at h
 ·omega
 split at h
 ·omega
 split at h
 ·contradiction
 ·rename_i g;exact Decidable.not_not.1 g
theorem QE(t b:aC)(v:dU t=0)(z:mN b)(A:t.cs.length<=1000000):az prog 32 [bU t,.seq (b.au.map aV)] (.int .i64 (rl t b)):=by
 obtain⟨P,C⟩:=z;obtain⟨_,_,B,_⟩:=re v;obtain⟨Q,R⟩:=Eu v;refine aM nf Oc mix (by simp[f32]) ?_;rw[rl]
 by_cases c4:24<b.au.length
 ·have cI:(24:Int)<b.au.length:=by omega
  rw[if_pos c4];simp[f32,ad,cI]
 have x:¬(24:Int)<b.au.length:=by omega
 rw[if_neg c4];simp[f32,ad,x];refine lp (α:=Nat) (fun i=>⟨[(5,.p (.int .i64 i)),(2,.ptr 0 []),(1,.p (.seq (b.au.map aV)))],[.box false (.p (bU t))]⟩) (fun i=>i<=b.au.length/\∀j,j<i->fM (gQ t) b.au j=0) (fun i=>b.au.length-i) 0 (by simp) ?_;rintro i ⟨s1,s2⟩
 by_cases hs:i<b.au.length
 case neg=>
  have:i=b.au.length:=by omega
  subst this;rw[mL.2 s2];simp[ad]
 have a:=aC.fg hs;have D:=bY (i:=i) (by omega);obtain⟨I,J⟩:=C _ (a7 a);have g:=zG (b.sp i).name I.1;have y:=Gp (b.sp i).pt J;have e:gQ t (b.au.take i) (b.sp i)≠0->jH (gQ t) b.au=gQ t (b.au.take i) (b.sp i):=ri s2 a;have H:gQ t (b.au.take i) (b.sp i)=0->∀j,j<i+1->fM (gQ t) b.au j=0:=rh s2 a;have M:∀j,j<i->dw (b.sp j).pt=0:=fun j c=>by
  have:=s2 j c;rw[fM,aC.fg (by omega)]at this;exact zV this
 have ev:gQ t (b.au.take i) (b.sp i)=if isName (b.sp i).name=false then 8 else if(b.au.take i).any (fun o=>decide (o.name=(b.sp i).name))=true then 9 else if dw (b.sp i).pt≠0 then dw (b.sp i).pt else if t.on (vP (b.sp i).pt)<0 then 16 else if(b.au.take i).any (fun o=>decide (gd t.bd (vP o.pt) (vP (b.sp i).pt)<0))=true then 17 else 0:=rfl
 clear s2;generalize gQ t (b.au.take i) (b.sp i)=E at*;generalize jH (gQ t) b.au=N at*;cases m:isName (b.sp i).name
 ·rw[m]at g;rw[m,if_pos rfl]at ev;rw[e (by rw[ev];decide),ev];simp[hs,a,ad];refine Go.al.c1 g ?_;simp[ad]
 rw[m]at g;rw[m,if_neg (by decide)]at ev;simp[hs,a,ad];refine Go.al.c1 g ?_;simp[ad];refine lp (α:=Nat) (fun k=>⟨[(6,.p (.int .i64 k)),(5,.p (.int .i64 i)),(2,.ptr 0 []),(1,.p (.seq (b.au.map aV)))],[.box false (.p (bU t))]⟩) (fun k=>k<=i/\(b.au.take k).any (fun o=>decide (o.name=(b.sp i).name))=false) (fun k=>i-k) 0 (by simp) ?_;rintro k ⟨k1,k2⟩
 by_cases hk:k<i
 ·have s:k<b.au.length:=by omega
  have gk:=aC.fg s;have G:=bY (i:=k) (by omega)
  by_cases l:(b.sp k).name=(b.sp i).name
  ·rw[if_pos (EZ gk hk (by simp[l]))]at ev;rw[e (by rw[ev];decide),ev];simp[hs,hk,s,gk,a,l,ad]
  ·simp[hs,hk,s,gk,a,l,G,ad];exact rd (k+1) ⟨hk,by rw[tE gk,k2];simp[l]⟩
 have:k=i:=by omega
 subst this;rw[k2,if_neg (by decide)]at ev;clear k1 k2 hk;have d0:¬k<k:=by omega
 simp[d0,hs,a,ad];refine Go.al.c1 y ?_
 by_cases d:dw (b.sp k).pt=0
 case neg=>
  rw[if_pos d]at ev;rw[e (by rw[ev];exact d),ev];simp[d,ad]
 rw[if_neg (by simp[d])]at ev;obtain⟨pl,ok⟩:=tN d;have u:=Ni t (vP (b.sp k).pt) A B (ok.mono (by decide));rw[pl]at u;simp[d,hs,a,ad];refine Go.al.e2 u ?_
 by_cases n:t.on (vP (b.sp k).pt)<0
 ·rw[if_pos n]at ev;rw[e (by rw[ev];decide),ev];simp[n,ad]
 rw[if_neg n]at ev;simp[n,ad];refine lp (α:=Nat) (fun j=>⟨[(8,.p (.int .i64 j)),(5,.p (.int .i64 k)),(2,.ptr 0 []),(1,.p (.seq (b.au.map aV)))],[.box false (.p (bU t))]⟩) (fun j=>j<=k/\(b.au.take j).any (fun o=>decide (gd t.bd (vP o.pt) (vP (b.sp k).pt)<0))=false) (fun j=>k-j) 0 (by simp) ?_;rintro j ⟨O,w⟩
 by_cases c:j<k
 ·have r:j<b.au.length:=by omega
  have f:=aC.fg r;have F:=bY (i:=j) (by omega);obtain⟨L,K⟩:=tN (M j c);have q:=QR t (vP (b.sp j).pt) (vP (b.sp k).pt) (by omega) (by omega) K ok;rw[pl,L]at q
  by_cases h:gd t.bd (vP (b.sp j).pt) (vP (b.sp k).pt)<0
  ·rw[if_pos (EZ f c (by simp[h]))]at ev;rw[e (by rw[ev];decide),ev];simp[hs,c,r,f,a,ad];refine Go.al.e3 q ?_;simp[h,ad]
  ·simp[hs,c,r,f,a,ad];refine Go.al.e3 q ?_;simp[h,F,ad];exact rd (j+1) ⟨c,by rw[tE f,w];simp[h]⟩
 have:j=k:=by omega
 subst this;rw[w,if_neg (by decide)]at ev;simp[d0,D,ad];exact rd (j+1) ⟨hs,H ev⟩
theorem QB(t b:aC)(a:kt t)(c:mN b):az prog 44 [bU t,.seq (b.au.map aV)] (.int .i64 (gv t b)):=by
 have k1:=DS t a;refine aM nf Ok mix (by simp[f44]) ?_;rw[gv]
 by_cases h:dU t=0
 ·rw[if_neg (by simp[h])];have k2:=QE t b h c a.cl;rw[h]at k1;simp[f44,ad];refine Go.al.c1 k1 ?_;simp[ad];refine Go.al.c2 k2 ?_;simp[ad]
 ·rw[if_pos h];generalize dU t=e at*;simp[f44,ad];refine Go.al.c1 k1 ?_;simp[h,ad]
open Go.Proofs Go.Proofs.YtenbmieafgdjaaaGreatDoor
section
variable{H:Type}{W:av}{aa:Nat->Prop}
theorem aDX:∃a b:Field,prog.underlying 75=some (.struct #[a,b])/\a.type=9/\b.type=47:=⟨_,_,underlying75,rfl,rfl⟩
theorem Pz:prog.underlyingId 75=48:=by kernel_rfl
theorem QS{m n:Nat}(s:m=n+2){d:ax H}(h:∃cs,aS prog W aa (bE prog (m+1) 75 d) cs)(o:Rows.uptoBulk d<=1048576):∃p:ct,bE prog (m+1) 75 d=aV p/\jA p/\2<=Rows.uptoBulk d:=by
 obtain⟨cs,h⟩:=h;obtain⟨f0,f1,g,t0,t1⟩:=aDX;cases d with
 |agg l=>
  have f:∀x∈l,Rows.uptoBulk x<=1048576:=fun x hx=>by
   have:=oX.sS hx;rw[Rows.uptoBulk]at o;omega
  simp only[bE,g,aS]at h⊢;obtain⟨u,t,e,c,_⟩:=h;rw[Pz,Px]at e;cases e
  match l,c with
  |[],c=>simp[bc]at c
  |[x],c=>simp[bc]at c
  |x::y::r,c=>
   have:=vU x;simp only[b2,b5,bc,b3,cc,t0,t1]at c⊢;obtain⟨c0,_,_,g1,_,c1,_,_,g2,_⟩:=c;subst s;obtain⟨a,i,k⟩:=zN (n:=n+1) ⟨c0,g1⟩ (f x (by simp));obtain⟨b,j,q⟩:=HZ (n:=n) ⟨c1,g2⟩ (f y (by simp));refine⟨⟨a,b⟩,by rw[i,j,Pz];rfl,⟨k,q⟩,?_⟩;rw[Rows.uptoBulk,Rows.uptoBulkAll];omega
 |_=>simp only[bE,g,aS]at h
theorem QX{d:ax H}(h:∃cs,aS prog W aa (bE prog 8 64 d) cs)(a:Rows.uptoBulk d<=1048576):∃b:aC,bE prog 8 64 d=.seq (b.au.map aV)/\True/\mN b:=by
 obtain⟨b,c,e,g⟩:=vY (n:=7) aDV (F:=aV) (ok:=jA) (fun d f a=>QS (n:=4) rfl f a) h a;exact⟨⟨[],0,[],b⟩,c,trivial,g,e⟩
end
theorem Xq(v w:NV)(a:bN kQ v.q)(b:bN kQ w.q):az prog 145 [dG v,dG w] (eF (v.dot w)):=by
 have c:=sd v.x w.x (eC a.1) (eC b.1);have d:=sd v.y w.y (eC a.2) (eC b.2);have e:=vq (v.x.mul w.x) (v.y.mul w.y) ((kA a.1 b.1).mono (by decide)) ((kA a.2 b.2).mono (by decide));refine aM nf Mz mix (by simp[f145]) ?_;rw[NV.dot];simp[f145,ad];refine e2 c ?_;simp[ad];refine e2 d ?_;simp[ad];refine e2 e ?_;simp[ad]
theorem QO(t:aC)(a:0<=t.bd)(b:t.bd<=1000000):az prog 137 [cA t] (eF (.width t.bd)):=by
 have f:=BF a b;have c:=sX (4*t.bd*t.bd) (by omega) (by omega);have d:aT.wrap (4*t.bd)=4*t.bd:=aI _ (by omega) (by omega);have e:aT.wrap (4*t.bd*t.bd)=4*t.bd*t.bd:=aI _ (by omega) (by omega);refine aM nf Fv mix (by simp[f137]) ?_;rw[NF.width];simp[f137,ad,d,e];refine c1 c ?_;simp[ad]
theorem aC8(a b:V2):(b.sub a).dot (b.sub a)=(a.sub b).dot (a.sub b):=by
 simp only[V2.sub,V2.dot]
 grind
theorem QP(t:aC)(a b:NV)(d:0<=t.bd)(e:t.bd<=1000000)(f:bN 2000 a.q)(g:bN 2000 b.q):az prog 204 [cA t,dG a,dG b] (.int .i64 (gd t.bd a.q b.q)):=by
 have c:=qz g f;rw[<-NV.lG]at c;have k1:=zQ b a (g.mono (by decide)) (f.mono (by decide));have k2:=Xq (b.sub a) (b.sub a) (c.mono (by decide)) (c.mono (by decide));have k3:=QO t d e;have k4:=sV ((b.sub a).dot (b.sub a)) (.width t.bd) (by rw[NV.NC];exact(Gn c c).mono (by decide)) ((Gq d e).mono (by decide));have hq:eM ((b.sub a).dot (b.sub a)).q (NF.width t.bd).q=gd t.bd a.q b.q:=by
  rw[gd,NV.NC,NV.lG,aC8];rfl
 rw[hq]at k4;refine aM nf FM mix (by simp[f204]) ?_;simp[f204,ad];refine c2 k1 ?_;simp[ad];refine e2 k2 ?_;simp[ad];refine e1 k3 ?_;simp[ad];refine e2 k4 ?_;simp[ad]
def qQ(p:ct):Prop:=jA p/\dw p.pt=0
theorem Yv(t:aC)(v:NV)(o:ct)(b:0<=t.bd)(c:t.bd<=1000000)(e:bN 2000 v.q)(d:qQ o):
 b9 prog 203 [.box false (.p (cA t)),.box false (.p (dG v))] [.p (aV o),.ptr 0 [],.ptr 1 []] [.box false (.p (cA t)),.box false (.p (dG v))] (.p (.bool (decide (gd t.bd (vP o.pt) v.q<0)))):=by
 obtain⟨⟨h,f⟩,a⟩:=d;obtain⟨g1,g2⟩:=iv a;obtain⟨_,ok⟩:=tN a;have k1:=tO o.pt g1 g2 f;have k2:=QP t (.from o.pt) v b c (by rw[sU];exact ok) e;rw[sU]at k2;generalize gd t.bd (vP o.pt) v.q=y at*;generalize NV.from o.pt=g at*;refine dW nf FN mix (by simp[f203]) ?_;simp[f203,ad];refine Go.al.e1 k1 ?_;simp[ad];refine Go.al.e3 k2 ?_;simp[ad];exact cX.og (by simp) (by simp) (by simp) (by simp) (by simp)
theorem QV(t:aC)(v:NV)(l:List ct)(h:l.length<=1000000)(a:0<=t.bd)(b:t.bd<=1000000)(d:bN 2000 v.q)(c:∀o∈l,qQ o):
 b9 prog 206 [.box false (.p (cA t)),.box false (.p (dG v))] [.p (.seq (l.map aV)),.func 203 [] [.ptr 0 [],.ptr 1 []]] [.box false (.p (cA t)),.box false (.p (dG v))] (.p (.int .i64 (idxFrom (fun o=>decide (gd t.bd (vP o.pt) v.q<0)) l 0))):=by
 refine dW nf z6 mix (by simp[f206]) ?_;simp[f206];refine lp (α:=Nat) (fun i=>⟨[(8,.p (.int .i64 i)),(7,.p (.int .i64 l.length)),(1,.func 203 [] [.ptr 0 [],.ptr 1 []]),(0,.p (.seq (l.map aV)))],[.box false (.p (cA t)),.box false (.p (dG v))]⟩) (fun i=>i<=l.length/\idxFrom (fun o=>decide (gd t.bd (vP o.pt) v.q<0)) l 0=idxFrom (fun o=>decide (gd t.bd (vP o.pt) v.q<0)) (l.drop i) i) (fun i=>l.length-i) 0 (by simp) ?_;rintro i ⟨k1,k2⟩;have e:=bY (i:=i) (by omega)
 by_cases hi:i<l.length
 ·rw[b1 hi,idxFrom]at k2;simp[hi];refine cf (Yv t v l[i] a b d (c _ (List.getElem_mem hi))) [0,1] ?_
  by_cases hk:gd t.bd (vP l[i].pt) v.q<0
  ·simp[hk]at k2;simp[hk,k2,ba]
  ·simp[hk]at k2;simp[hk,e,ba];exact rd (i+1) ⟨hi,k2⟩
 ·have:i=l.length:=by omega
  subst this;simp[idxFrom]at k2;simp[k2]
theorem QA(t:aC)(v:NV)(l:List ct)(h:l.length<=1000000)(a:0<=t.bd)(b:t.bd<=1000000)(d:bN 2000 v.q)(c:∀o∈l,qQ o):
 b9 prog 107 [.box false (.p (cA t)),.box false (.p (dG v))] [.p (.seq (l.map aV)),.func 203 [] [.ptr 0 [],.ptr 1 []]] [.box false (.p (cA t)),.box false (.p (dG v))] (.p (.bool (l.any (fun o=>decide (gd t.bd (vP o.pt) v.q<0))))):=by
 refine dW nf zR mix (by simp[f107]) ?_;simp[f107];refine cf (QV t v l h a b d c) [0,1] ?_;have:=nQ (fun o=>decide (gd t.bd (vP o.pt) v.q<0)) l 0;simp[ba,<-this]
theorem QC(t:aC)(v:NV)(l:List ct)(h:l.length<=1000000)(a:0<=t.bd)(b:t.bd<=1000000)(d:bN 2000 v.q)(c:∀o∈l,qQ o):
 az prog 102 [cA t,.seq (l.map aV),dG v] (.bool (!l.any (fun o=>decide (gd t.bd (vP o.pt) v.q<0)))):=by
 have k1:=QA t v l h a b d c;generalize (l.any (fun o=>decide (gd t.bd (vP o.pt) v.q<0)))=y at*;refine aM nf Eo mix (by simp[f102]) ?_;simp[f102,ad];refine cf k1 [0,1] ?_;simp[ad,ba]
theorem QN(p o:ct):b9 prog 108 [.box false (.p (aV p))] [.p (aV o),.ptr 0 []] [.box false (.p (aV p))] (.p (.bool (decide (o.name=p.name)))):=by
 refine dW nf El mix (by simp[f108]) ?_
 by_cases h:o.name=p.name
 ·simp[f108,ad,h];exact cX.og (by simp) (by simp) (by simp) (by simp) (by simp)
 ·simp[f108,ad,h];exact cX.og (by simp) (by simp) (by simp) (by simp) (by simp)
theorem QU(p:ct)(l:List ct)(h:l.length<=1000000):
 b9 prog 206 [.box false (.p (aV p))] [.p (.seq (l.map aV)),.func 108 [] [.ptr 0 []]] [.box false (.p (aV p))] (.p (.int .i64 (idxFrom (fun o=>decide (o.name=p.name)) l 0))):=by
 refine dW nf z6 mix (by simp[f206]) ?_;simp[f206];refine lp (α:=Nat) (fun i=>⟨[(8,.p (.int .i64 i)),(7,.p (.int .i64 l.length)),(1,.func 108 [] [.ptr 0 []]),(0,.p (.seq (l.map aV)))],[.box false (.p (aV p))]⟩) (fun i=>i<=l.length/\idxFrom (fun o=>decide (o.name=p.name)) l 0=idxFrom (fun o=>decide (o.name=p.name)) (l.drop i) i) (fun i=>l.length-i) 0 (by simp) ?_;rintro i ⟨k1,k2⟩;have a:=bY (i:=i) (by omega)
 by_cases hi:i<l.length
 ·rw[b1 hi,idxFrom]at k2;simp[hi];refine cf (QN p l[i]) [0] ?_
  by_cases hk:l[i].name=p.name
  ·simp[hk]at k2;simp[hk,k2,ba]
  ·simp[hk]at k2;simp[hk,a,ba];exact rd (i+1) ⟨hi,k2⟩
 ·have:i=l.length:=by omega
  subst this;simp[idxFrom]at k2;simp[k2]
theorem Qz(p:ct)(l:List ct)(h:l.length<=1000000):
 b9 prog 107 [.box false (.p (aV p))] [.p (.seq (l.map aV)),.func 108 [] [.ptr 0 []]] [.box false (.p (aV p))] (.p (.bool (l.any (fun o=>decide (o.name=p.name))))):=by
 refine dW nf zR mix (by simp[f107]) ?_;simp[f107];refine cf (QU p l h) [0] ?_;have:=nQ (fun o=>decide (o.name=p.name)) l 0;simp[ba,<-this]
def tL(r:Int)(a:List ct)(v:V2):Bool:=a.any (fun o=>decide (gd r (vP o.pt) v<0))
def y6(t:aC)(a:List ct)(s:ct):Int:=bG [bg (decide (t.on (vP s.pt)<0)) 16,bg (a.any (fun o=>decide (gd t.bd (vP o.pt) (vP s.pt)<0))) 17]
theorem QW(t:aC)(a:List ct)(s:ct):gQ t a s=if iK a s=0 then y6 t a s else iK a s:=by
 rw[gQ,iK,y6];generalize t.on (vP s.pt)=y;generalize dw s.pt=d;generalize (a.any fun o=>decide (o.name=s.name))=e;generalize (a.any fun o=>decide (gd t.bd (vP o.pt) (vP s.pt)<0))=f;generalize isName s.name=g;cases g
 ·simp[bG,bg]
 cases e
 case true=>simp[bG,bg]
 by_cases b:d=0
 case neg=>simp[bG,bg,b]
 by_cases c:y<0
 ·simp[bG,bg,b,c]
 cases f
 ·simp[bG,bg,b,c]
 ·simp[bG,bg,b,c]
theorem YA(t:aC)(s:ct)(a:List ct)(v:t.cs.length<=1000000)(g:dU t=0)(hs:jA s)(f:a.length<=1000000)(u:∀o∈a,qQ o):
 b9 prog 106 [.box false (.p (cA t))] [.p (aV s),.p (.seq (a.map aV)),.ptr 0 []] [.box false (.p (cA t))] (.p (.int .i64 (gQ t a s))):=by
 obtain⟨_,_,w,_⟩:=re g;obtain⟨J,K⟩:=Eu g;obtain⟨D,k⟩:=hs;have k1:=Qz s a f;have k2:=zM s.name D.1;have k3:=gY (!isName s.name) 8;have k4:=gY (a.any fun o=>decide (o.name=s.name)) 9;have k6:=Ae s.pt k;have k8:=nS [bg (!isName s.name) 8,bg (a.any fun o=>decide (o.name=s.name)) 9,dw s.pt] (by simp);have b:=D5 (bef:=a) (s:=s);rw[QW];have x:=fun h:iK a s=0=>tO s.pt (iv (b h)).1 (iv (b h)).2 k;have i:=fun h:iK a s=0=>Np t (.from s.pt) v w (Ag ⟨(fX (iv (b h)).1).mono (by decide),(fX (iv (b h)).2).mono (by decide)⟩);have z:=gY (decide (t.on (vP s.pt)<0)) 16;have j:iK a s=0->az prog 102 [cA t,.seq (a.map aV),dG (.from s.pt)] (.bool (!tL t.bd a (NV.from s.pt).q)):=fun h=>QC t (.from s.pt) a f (by omega) (by omega) (Ag ⟨fX (iv (b h)).1,fX (iv (b h)).2⟩) u;have A:=gY (tL t.bd a (vP s.pt)) 17;have d:=nS [bg (decide (t.on (vP s.pt)<0)) 16,bg (tL t.bd a (vP s.pt)) 17] (by simp);simp only[sU]at i j;have d1:iK a s=bG [bg (!isName s.name) 8,bg (a.any fun o=>decide (o.name=s.name)) 9,dw s.pt]:=rfl;have d2:y6 t a s=bG [bg (decide (t.on (vP s.pt)<0)) 16,bg (tL t.bd a (vP s.pt)) 17]:=rfl;rw[<-d1]at k8;rw[<-d2]at d;clear d1 d2 b;generalize iK a s=e at*;generalize y6 t a s=r at*;generalize tL t.bd a (vP s.pt)=m at*;generalize t.on (vP s.pt)=y at*;generalize dw s.pt=E at*;generalize (a.any fun o=>decide (o.name=s.name))=l at*;generalize isName s.name=n at*;generalize NV.from s.pt=v1 at*;refine dW nf ME mix (by simp[f106]) ?_;have C:az prog 71 [.seq [.int .i64 (bg (!n) 8),.int .i64 (bg l 9),.int .i64 E]] (.int .i64 e):=by simpa using k8
 have B:az prog 71 [.seq [.int .i64 (bg (decide (y<0)) 16),.int .i64 (bg m 17)]] (.int .i64 r):=by simpa using d
 clear k8 d;generalize F:bg (!n) 8=L at*;generalize G:bg l 9=M at*;generalize H:bg (decide (y<0)) 16=N at*;generalize I:bg m 17=O at*;simp[f106,ad];refine cf k1 [1] ?_;simp[ad,ba,sig];refine Go.al.e1 k2 ?_;simp[ad];refine Go.al.e2 k3 ?_;simp[ad];refine Go.al.e2 k4 ?_;simp[ad];refine Go.al.e1 k6 ?_;simp[ad];refine ep C (by simp;first|exact⟨rfl,rfl⟩|rfl) (by simp;first|exact⟨rfl,rfl⟩|rfl) ?_;simp[ad];refine⟨by repeat' first|rfl|apply ab,?_⟩
 by_cases c:e=0
 case neg=>
  simp[c,ad];exact cX.og (by simp) (by simp) (by simp) (by simp) (by simp)
 simp[c,ad];refine Go.al.c1 (x c) ?_;simp[ad];refine Go.al.e2 (i c) ?_;simp[ad];refine Go.al.e2 z ?_;simp[ad];refine Go.al.e3 (j c) ?_;simp[ad];refine Go.al.e2 A ?_;simp[ad];refine ep B (by simp;first|exact⟨rfl,rfl⟩|rfl) (by simp;first|exact⟨rfl,rfl⟩|rfl) ?_;simp[ad];refine⟨by repeat' first|rfl|apply ab,?_⟩;exact⟨fun h=>(h c).elim,cX.og (by simp) (by simp) (by simp) (by simp) (by simp)⟩
theorem Ix(l:List ct):eH prog 3 (l.map (AV.p∘aV)):=uX (fun r=>⟨by simp[ad],by simp[ad]⟩) l
theorem YC(t b:aC)(h:t.cs.length<=1000000)(l:dU t=0)(c:mN b):
 b9 prog 105 [.box false (.p (cA t))] [.p (.seq (b.au.map aV)),.p (.int .i64 24),.func 106 [] [.ptr 0 []]] [.box false (.p (cA t))] (.p (.int .i64 (rl t b))):=by
 obtain⟨n,d⟩:=c;refine dW nf Em mix (by simp[f105]) ?_;rw[rl]
 by_cases c1:24<b.au.length
 ·have cI:(24:Int)<b.au.length:=by omega
  rw[if_pos c1];simp[f105,cI]
 have e:¬(24:Int)<b.au.length:=by omega
 rw[if_neg c1];simp[f105,e];refine lp (α:=Nat) (fun i=>⟨[(16,.p (.int .i64 i)),(15,.p (.int .i64 b.au.length)),(14,.p (.seq (b.au.map aV))),(2,.func 106 [] [.ptr 0 []]),(0,.p (.seq (b.au.map aV)))],[.box false (.p (cA t))]⟩) (fun i=>i<=b.au.length/\∀j,j<i->fM (gQ t) b.au j=0) (fun i=>b.au.length-i) 0 (by simp) ?_;rintro i ⟨k1,k2⟩
 by_cases hk:i<b.au.length
 ·have gk:=aC.fg hk;have m:=bY (i:=i) (by omega);have a:=YA t (b.sp i) (b.au.take i) h l (d _ (a7 gk)) (by rw[bi];omega) (fun o k=>by
   obtain⟨j,f,rfl⟩:=bl.1 k;rw[bi]at f;rw[b4];have:=k2 j (by omega);have g:=aC.fg (t:=b) (i:=j) (by omega);rw[fM,g]at this;rw[aC.qY (by omega)];exact⟨d _ (a7 g),zV this⟩)
  rw[bv]at a
  by_cases he:gQ t (b.au.take i) (b.sp i)=0
  ·rw[he]at a;have:=rh k2 gk he;simp[hk,gk,ad];refine⟨⟨k1,Ix _⟩,?_⟩;refine ef a [0] ?_;simp[m,ad,ba,sig];exact rd (i+1) ⟨hk,this⟩
  ·have c:=ri k2 gk he;rw[c];simp[hk,gk,ad];refine⟨⟨k1,Ix _⟩,?_⟩;refine ef a [0] ?_;simp[he,ad,ba,sig];exact cX.og (by simp) (by simp) (by simp) (by simp) (by simp)
 ·have:i=b.au.length:=by omega
  subst this;rw[mL.2 k2];simp
theorem Qy(t b:aC)(a:kt t)(c:mN b):az prog 36 [cA t,.seq (b.au.map aV)] (.int .i64 (gv t b)):=by
 have k1:=D0 t a;refine aM nf Of mix (by simp[f36]) ?_;rw[gv]
 by_cases h:dU t=0
 ·rw[if_neg (by simp[h])];have k2:=YC t b a.cl h c;rw[h]at k1;simp[f36,ad];refine Go.al.c1 k1 ?_;simp[ad];refine cf k2 [0] ?_;simp[ad,ba]
 ·rw[if_pos h];generalize dU t=e at*;simp[f36,ad];refine Go.al.c1 k1 ?_;simp[h,ad]
def Db(l:List ct)(n:List Nat):Option ct:=l.find? (fun s=>decide (s.name=n))
structure O5(b:aC):Prop where
 sl:b.au.length<=24
 sp:∀s∈b.au,qQ s
 ne:∀i,i<b.au.length->Db (b.au.take i) (b.sp i).name=none
theorem aAb{t b:aC}(l:mN b)(h:gv t b=0):dU t=0/\O5 b/\(∀s∈b.au,0<=t.on (vP s.pt)):=by
 rw[gv]at h
 by_cases c:dU t=0
 case neg=>rw[if_pos c]at h;exact absurd h c
 rw[if_neg (by simp[c]),rl]at h
 by_cases f:24<b.au.length
 ·rw[if_pos f]at h;omega
 rw[if_neg f]at h;have k:=mL.1 h;have d:∀i,i<b.au.length->gQ t (b.au.take i) (b.sp i)=0:=fun i hi=>by
  have:=k i hi
  rwa [fM,aC.fg hi]at this
 refine⟨c,⟨by omega,fun s hs=>?_,fun i hi=>?_⟩,fun s hs=>?_⟩
 ·obtain⟨j,a,rfl⟩:=bl.1 hs;rw[aC.qY a];exact⟨l.sp _ (a7 (aC.fg a)),zV (d j a)⟩
 ·have:=d i hi;rw[gQ]at this
  split at this
  ·omega
  split at this
  ·omega
  rename_i g;rw[Db,List.find?_eq_none];intro x hx e;exact g (b0.2 ⟨x,hx,e⟩)
 ·obtain⟨j,a,rfl⟩:=bl.1 hs;rw[aC.qY a];have:=d j a;rw[gQ]at this
  split at this
  ·omega
  split at this
  ·omega
  split at this
  ·contradiction
  split at this
  ·omega
  omega
def hasB(b:aC)(name:List Nat)(i:Nat):Prop:=mJ b name=i/\i<b.au.length/\Db b.au name=some (b.sp i)
structure O6(t b:aC)(C5 CY:List Nat)(i j:Nat):Prop where
 qZ:dU t=0
 tl:t.cs.length<=1000000
 L:O5 b
 WW:∀s∈b.au,bN 60 (vP s.pt)
 ci:hasB b C5 i
 bj:hasB b CY j
theorem O6.at{t b:aC}{C5 CY:List Nat}{i j:Nat}(h:O6 t b C5 CY i j){k:Nat}(hk:k<b.au.length):eV (vP (b.sp k).pt)=fe (b.sp k).pt/\bN 60 (vP (b.sp k).pt):=by
 have m:=a7 (aC.fg hk);exact⟨(tN (h.L.sp _ m).2).1,h.WW _ m⟩
def pg(n:Nat)(l:List ct):Bool:=!((decide (n<l.length)&&decide (l.length<=24))||decide (26<l.length))&&l.all fS
theorem QH(b:aC)(n:Nat)(v:b.au.length<=1000000)(w:n<=1000):az prog 41 [.seq (b.au.map aV),.int .i64 n] (.bool (pg n b.au)):=by
 refine aM nf Oj mix (by simp[f41]) ?_;have o:pg n b.au=(!((decide (n<b.au.length)&&decide (b.au.length<=24))||decide (26<b.au.length))&&b.au.all fS):=rfl;have tail:(n<b.au.length->¬b.au.length<=24)->¬26<b.au.length->pg n b.au=b.au.all fS:=fun d a=>by
  rw[o]
  by_cases h:n<b.au.length
  ·have:=d h;simp[h,this,a]
  ·simp[h,a]
 have loop:(n<b.au.length->¬b.au.length<=24)->¬26<b.au.length->∀i,i<b.au.length->(fS (b.sp i)=false->pg n b.au=false):=fun d a i hi h=>by
  rw[tail d a];exact jG (aC.fg hi) h
 generalize pg n b.au=R at*
 by_cases c1:n<b.au.length/\b.au.length<=24
 ·have z:(n:Int)<b.au.length:=by omega
  have e:(b.au.length:Int)<=24:=by omega
  have l:R=false:=by rw[o];simp[c1]
  simp[f41,ad,c1.1,e,l]
 by_cases c2:26<b.au.length
 ·have g:(26:Int)<b.au.length:=by omega
  have e:¬(b.au.length:Int)<=24:=by omega
  have l:R=false:=by rw[o];simp[c2]
  by_cases c3:n<b.au.length
  ·simp[f41,ad,c3,e,g,l]
  ·simp[f41,ad,c3,g,l]
 have g:¬(26:Int)<b.au.length:=by omega
 have tl:=tail (fun d a=>c1 ⟨d,a⟩) c2;have j:=loop (fun d a=>c1 ⟨d,a⟩) c2;clear tail loop o
 by_cases c3:n<b.au.length
 all_goals
  have e:n<b.au.length->¬(b.au.length:Int)<=24:=fun h=>by omega
  first
  |(have e:=e c3;simp[f41,ad,c3,e,g])
  |simp[f41,ad,c3,g]
  refine lp (α:=Nat) (fun i=>⟨[(5,.p (.int .i64 i)),(0,.p (.seq (b.au.map aV)))],[]⟩) (fun i=>i<=b.au.length/\(b.au.take i).all fS=true) (fun i=>b.au.length-i) 0 (by simp) ?_;rintro i ⟨k1,k2⟩
  by_cases hi:i<b.au.length
  ·have c:=aC.fg hi;have u:=bY (i:=i) (by omega);have k:=lR (b.sp i).pt.x 40;have q:=lR (b.sp i).pt.y 40;have m:fS (b.sp i)=(decide ((b.sp i).name.length<=40)&&(decide ((b.sp i).pt.x.length<=40)&&decide ((b.sp i).pt.y.length<=40))):=rfl;have j:=j i hi
   by_cases t:(b.sp i).name.length<=40
   case neg=>
    have f:(40:Int)<(b.sp i).name.length:=by omega
    have:=j (by rw[m];simp[t]);simp[hi,c,f,this,ad]
   have f:¬(40:Int)<(b.sp i).name.length:=by omega
   by_cases a2:(b.sp i).pt.x.length<=40
   case neg=>
    have r:¬((b.sp i).pt.x.length:Int)<=40:=by omega
    rw[decide_eq_false r]at k;have:=j (by rw[m];simp[a2]);simp[hi,c,f,ad];refine Go.al.c2 k ?_;simp[this,ad]
   have r:((b.sp i).pt.x.length:Int)<=40:=by omega
   rw[decide_eq_true r]at k
   by_cases a3:(b.sp i).pt.y.length<=40
   case neg=>
    have s:¬((b.sp i).pt.y.length:Int)<=40:=by omega
    rw[decide_eq_false s]at q;have:=j (by rw[m];simp[a3]);simp[hi,c,f,ad];refine Go.al.c2 k ?_;simp[hi,c,ad];refine Go.al.c2 q ?_;simp[this,ad]
   have s:((b.sp i).pt.y.length:Int)<=40:=by omega
   rw[decide_eq_true s]at q;simp[hi,c,f,ad];refine Go.al.c2 k ?_;simp[hi,c,ad];refine Go.al.c2 q ?_;simp[u,ad];exact rd (i+1) ⟨hi,by rw[tF c,k2,m];simp[t,a2,a3]⟩
  ·have:i=b.au.length:=by omega
   subst this;rw[bb]at k2;rw[tl,k2];simp
theorem QL(b:aC)(f:b.au.length<=1000000):az prog 30 [.seq (b.au.map aV)] (.seq (b.au.map aV)):=by
 have g:(1000000:Nat)<cC:=by decide
 have h:aT.wrap 1=1:=by decide
 refine aM nf Oa mix (by simp[f30]) ?_;simp[f30,ad];refine lp (α:=Nat) (fun i=>⟨[(8,.p (.int .i64 i)),(7,.p (.int .i64 b.au.length)),(6,.p (.seq (b.au.map aV))),(3,.sl 0 i 3 0 i)],[.arr .grow i 3 ((b.au.map (AV.p∘aV)).take i)]⟩) (fun i=>i<=b.au.length) (fun i=>b.au.length-i) 0 (by simp) ?_;rintro i i1
 by_cases hi:i<b.au.length
 ·have a:=aC.fg hi;have e:=bY (i:=i) (by omega);have d:(b.au.map (AV.p∘aV)).take (i+1)=(b.au.map (AV.p∘aV)).take i++[.p (aV (b.sp i))]:=by
   rw[bo,List.getElem?_map,a];rfl
  have c:min i b.au.length=i:=by omega
  simp[hi,a,e,c,ad];exact⟨by omega,rd (i+1) hi (hh:=by simp[d]) (hr2:=by simp[dZ])⟩
 ·have:i=b.au.length:=by omega
  subst this;simp[ad]
theorem E8(s:List Nat):(cS s).length<=s.length:=by
 rw[cS];split<;>simp
theorem wo{s:List Nat}(h:bX s=0)(b:s.length<=40):bL 133 (aY s):=by
 obtain⟨l,g,i⟩:=iR h;have c:(10:Nat)^40<=2^133:=by decide
 unfold bX at h
 split at h
 ·cases h
 rename_i a;have a:kH s=true:=by simpa using a
 simp only[kH,Bool.and_eq_true,Bool.or_eq_true,decide_eq_true_eq]at a;obtain⟨⟨d,_⟩,a3⟩:=a;have j:(bD s).length<=40:=ck (ou 47 (cS s)).1 (ck (E8 s) b);have k:(bM s).length<=40:=ck (ou 47 (cS s)).2.1 (ck (E8 s) b);have f:=cv (y5 j (iS d)) c;refine⟨?_,?_⟩
 ·rw[g];have e:(if bZ s=true then -(aW (bD s):Int)else aW (bD s)).natAbs=aW (bD s):=by split<;>omega
  rw[e];exact f
 ·rw[i]
  by_cases hf:dR s=true
  ·rw[if_pos hf];rcases a3 with a3|a3
   ·rw[hf]at a3;cases a3
   ·exact cv (y5 k (iS a3.1.1)) c
  ·rw[if_neg hf];decide
def aC.shr(t:aC)(i:Nat)(v:V2):Rat:=((v.sub (il (t.at i))).dot (t.df i))/((t.df i).dot (t.df i))
theorem Xu(v w:NV)(a:bN kQ v.q)(b:bN kQ w.q):az prog 73 [dG v,dG w] (dG (v.add w)):=by
 have c:=vq v.x w.x (eC a.1) (eC b.1);have d:=vq v.y w.y (eC a.2) (eC b.2);refine aM nf Oz mix (by simp[f73]) ?_;rw[NV.add,rk];simp[f73,ad];refine e2 c ?_;simp[ad];refine e2 d ?_;simp[ad]
theorem EV(v:NV)(h:bN 1800 v.q):az prog 78 [dG v] (.aD [eV v.q,.int .i64 0]):=by
 have a:=xW v.x (h.1.mono (by decide));have b:=xW v.y (h.2.mono (by decide));rw[Dp (show bL 1800 v.x.q from h.1)]at a;rw[Dp (show bL 1800 v.y.q from h.2)]at b;have c:=xO v.x (h.1.mono (by decide));have d:=xO v.y (h.2.mono (by decide));obtain⟨x,y⟩:=v;refine aM nf OE mix (by simp[f78]) ?_;rw[rk,show eV (NV.q ⟨x,y⟩)=eV ⟨x.q,y.q⟩from rfl,sK];simp[f78,ad];refine Go.al.c1 a ?_;simp[ad];refine Go.al.c1 b ?_;simp[ad];refine Go.al.e1 c ?_;simp[ad];refine Go.al.e1 d ?_;simp[ad]
theorem Xt(x:NF)(h:bL 1800 x.q):az prog 91 [eF x] (.aD [.str (bC x.q),.int .i64 0]):=by
 have a:=xW x (h.mono (by decide));rw[Dp h]at a;have b:=xO x (h.mono (by decide));refine aM nf OQ mix (by simp[f91]) ?_;simp[f91,ad];refine Go.al.c1 a ?_;simp[ad];refine Go.al.c1 b ?_;simp[ad]
theorem EX{t b:aC}(d:mN b)(h:gv t b=0):dU t=0/\(∀o∈b.au,qQ o):=by
 obtain⟨a,c,_⟩:=aAb d h;exact⟨a,c.sp⟩
def aC.pv(t:aC)(i:Nat):Nat:=(i+t.cs.length-1)% t.cs.length
theorem aAM{t:aC}(h:dU t=0){j:Nat}(c:j<t.aO.length):fY t.cs.length (t.aO.take j) (t.pk j)=0:=by
 rw[vW]at h
 split at h
 case isFalse=>contradiction
 split at h
 case isFalse=>contradiction
 rename_i d b;rw[nU,nv]at b;have a:=b (ja 12 (fY t.cs.length) t.aO) (by simp);rw[ja]at a
 split at a
 ·cases a
 have:=mL.1 a j c
 rwa [fM,aC.jj c]at this
theorem aCR{t:aC}(h:dU t=0){j:Nat}(a:j<t.au.length):iq t (t.au.take j) (t.sp j)=0:=by
 rw[vW]at h
 split at h
 case isFalse=>contradiction
 split at h
 case isFalse=>contradiction
 rw[ja]at h
 split at h
 ·cases h
 have:=mL.1 h j a
 rwa [fM,aC.fg a]at this
theorem EY{t:aC}(h:dU t=0){j:Nat}(a:j<t.au.length):dw (t.sp j).pt=0:=by
 have:=aCR h a;rw[iq]at this
 split at this
 ·cases this
 split at this
 ·cases this
 split at this
 ·contradiction
 ·rename_i h;exact Decidable.not_not.1 h
@[simp] theorem aKk:aL zO=.agg 46:=rfl
def vR:PV:=.st 129 [.int .i64 0,.aF]
def DQ:PV:=.st 133 [.st 131 [vR,vR],.st 131 [vR,vR]]
def fC(v:NV):Nat->NV
 |0=>v
 |k+1=>⟨(fC v k).y.neg,(fC v k).x⟩
theorem zU{v:NV}{k:Nat}(h:bN k v.q):∀n,bN k (fC v n).q
 |0=>h
 |n+1=>by
  have:=zU h n;exact⟨by rw[show(fC v (n+1)).q.x= -(fC v n).q.y from rfl];exact sx this.2,this.1⟩
@[simp] theorem aKj:aL DQ=.agg 133:=rfl
def fI(v:V2):Nat->V2
 |0=>v
 |k+1=>⟨-(fI v k).y,(fI v k).x⟩
theorem Fq(v:NV):∀k,(fC v k).q=fI v.q k
 |0=>rfl
 |k+1=>by
  have h:=Fq v k;have a:(fI v.q k).x=(fC v k).x.q:=by rw[<-h];rfl
  have b:(fI v.q k).y=(fC v k).y.q:=by rw[<-h];rfl
  rw[fI,a,b];rfl
theorem tJ{v:V2}{k:Nat}(h:bN k v):∀n,bN k (fI v n)
 |0=>h
 |n+1=>⟨sx (tJ h n).2,(tJ h n).1⟩
structure bH where
 gW:Bool
 qs:Int
 df:b7
def cH(m:bH):PV:=.st 86 [.bool m.gW,.int .i64 m.qs,aX m.df]
@[simp] theorem aJa(m:bH):aL (cH m)=.agg 86:=rfl
@[simp] theorem aGQ(m:bH):cB (cH m)=[.bool m.gW,.int .i64 m.qs,aX m.df]:=rfl
def bH.n(m:bH):Nat:=((m.qs.tmod 4+4).tmod 4).toNat
theorem bH.zw(m:bH):-3<=m.qs.tmod 4/\m.qs.tmod 4<=3/\(m.qs.tmod 4+4).tmod 4=(m.n:Int)/\m.n<=3:=by
 have b:-3<=m.qs.tmod 4/\m.qs.tmod 4<=3:=by
  rcases Int.le_total 0 m.qs with h|h
  ·rw[a6 h];omega
  ·have:=Int.neg_tmod (-m.qs) 4;rw[Int.neg_neg]at this;rw[this,a6 (by omega)];omega
 rw[bH.n];rw[a6 (a:=m.qs.tmod 4+4) (by omega)];omega
def dP(p:b7):Nat->b7
 |0=>p
 |k+1=>⟨-(dP p k).y,(dP p k).x⟩
def bH.mE(m:bH)(p:b7):b7:=if m.gW then⟨-p.x,p.y⟩else p
def bH.pt(m:bH)(p:b7):b7:=⟨(dP (m.mE p) m.n).x+m.df.x,(dP (m.mE p) m.n).y+m.df.y⟩
theorem Ac{p:b7}(h:bW p):∀k,bW (dP p k)
 |0=>h
 |k+1=>by
  have:=Ac h k;simp only[bW,dP]at*;omega
theorem Gi{m:bH}{p:b7}(h:bW p):bW (m.mE p):=by
 rw[bH.mE]
 split
 ·simp only[bW]at*;omega
 ·exact h
theorem Gj(m:bH)(p:b7)(r:bW p)(j:bW m.df):az prog 117 [cH m,aX p] (aX (m.pt p)):=by
 obtain⟨v,w,d,z⟩:=m.zw;have e:aT.wrap (m.qs.tmod 4+4)=m.qs.tmod 4+4:=aI _ (by omega) (by omega);have s:=Gi (m:=m) r;have mv:∀i,bW (dP (m.mE p) i):=fun i=>Ac s i;obtain⟨a,b⟩:=p;refine aM nf MB mix (by simp[f117]) ?_;have hq:m.mE ⟨a,b⟩=if m.gW=true then⟨-a,b⟩else⟨a,b⟩:=rfl
 rw[bH.pt,F1];generalize m.mE ⟨a,b⟩=q at*;generalize m.n=N at*;obtain⟨u,qs,f,g⟩:=m;simp only[bW]at r j;cases u
 ·simp only[am,if_false]at hq;subst hq;have o:aT.wrap (-a)= -a:=aI _ (by omega) (by omega);simp[f117,cH,aX,ad,e,d,o];refine lp (α:=Nat) (fun i=>⟨[(16,.p (.int .i64 i)),(15,.p (.int .i64 N)),(4,.ptr 2 []),(3,.ptr 1 []),(2,.ptr 0 [])],[.box false (.p (.st 86 [.bool false,.int .i64 qs,.st 60 [.int .i64 f,.int .i64 g]])),.box false (.p (aX (dP ⟨a,b⟩ i))),.box false (.p (.st 60 [.int .i64 0,.int .i64 0]))]⟩) (fun i=>i<=N) (fun i=>N-i) 0 (by simp) ?_ (hh:=by simp[dP,aX]);intro i t;have h:=mv i;have k:dP ⟨a,b⟩ (i+1)=⟨-(dP ⟨a,b⟩ i).y,(dP ⟨a,b⟩ i).x⟩:=rfl
  by_cases hi:i<N
  ·have j:=bY (i:=i) (by omega);generalize dP ⟨a,b⟩ i=R at*;obtain⟨x,y⟩:=R;simp only[bW]at h;have c:aT.wrap (-y)= -y:=aI _ (by omega) (by omega);simp[hi,aX,ad,e,d,c];simp[j,ad];exact rd (i+1) hi (hh:=by simp[k,aX])
  ·obtain rfl:i=N:=by omega
   generalize dP ⟨a,b⟩ i=R at*;obtain⟨x,y⟩:=R;simp only[bW]at h;have c:aT.wrap (x+f)=x+f:=aI _ (by omega) (by omega);have l:aT.wrap (y+g)=y+g:=aI _ (by omega) (by omega);simp[aX,ad,e,d,c,l]
 ·simp only[if_true]at hq;subst hq;have o:aT.wrap (-a)= -a:=aI _ (by omega) (by omega);simp[f117,cH,aX,ad,e,d,o];refine lp (α:=Nat) (fun i=>⟨[(16,.p (.int .i64 i)),(15,.p (.int .i64 N)),(4,.ptr 2 []),(3,.ptr 1 []),(2,.ptr 0 [])],[.box false (.p (.st 86 [.bool true,.int .i64 qs,.st 60 [.int .i64 f,.int .i64 g]])),.box false (.p (aX (dP ⟨-a,b⟩ i))),.box false (.p (.st 60 [.int .i64 0,.int .i64 0]))]⟩) (fun i=>i<=N) (fun i=>N-i) 0 (by simp) ?_ (hh:=by simp[dP,aX]);intro i t;have h:=mv i;have k:dP ⟨-a,b⟩ (i+1)=⟨-(dP ⟨-a,b⟩ i).y,(dP ⟨-a,b⟩ i).x⟩:=rfl
  by_cases hi:i<N
  ·have j:=bY (i:=i) (by omega);generalize dP ⟨-a,b⟩ i=R at*;obtain⟨x,y⟩:=R;simp only[bW]at h;have c:aT.wrap (-y)= -y:=aI _ (by omega) (by omega);simp[hi,aX,ad,e,d,c];simp[j,ad];exact rd (i+1) hi (hh:=by simp[k,aX])
  ·obtain rfl:i=N:=by omega
   generalize dP ⟨-a,b⟩ i=R at*;obtain⟨x,y⟩:=R;simp only[bW]at h;have c:aT.wrap (x+f)=x+f:=aI _ (by omega) (by omega);have l:aT.wrap (y+g)=y+g:=aI _ (by omega) (by omega);simp[aX,ad,e,d,c,l]
theorem Ge(m:bH)(p:b7)(r:bW p)(j:bW m.df):az prog 128 [cH m,aX p] (aX (m.pt p)):=by
 obtain⟨v,w,d,z⟩:=m.zw;have e:aT.wrap (m.qs.tmod 4+4)=m.qs.tmod 4+4:=aI _ (by omega) (by omega);have s:=Gi (m:=m) r;have mv:∀i,bW (dP (m.mE p) i):=fun i=>Ac s i;obtain⟨a,b⟩:=p;refine aM nf F7 mix (by simp[f128]) ?_;have hq:m.mE ⟨a,b⟩=if m.gW=true then⟨-a,b⟩else⟨a,b⟩:=rfl
 rw[bH.pt,F1];generalize m.mE ⟨a,b⟩=q at*;generalize m.n=N at*;obtain⟨u,qs,f,g⟩:=m;simp only[bW]at r j;cases u
 ·simp only[am,if_false]at hq;subst hq;have o:aT.wrap (-a)= -a:=aI _ (by omega) (by omega);simp[f128,cH,aX,ad,e,d,o];refine lp (α:=Nat) (fun i=>⟨[(5,.p (.int .i64 i)),(4,.ptr 2 []),(3,.ptr 1 []),(2,.ptr 0 [])],[.box false (.p (.st 86 [.bool false,.int .i64 qs,.st 60 [.int .i64 f,.int .i64 g]])),.box false (.p (aX (dP ⟨a,b⟩ i))),.box false (.p (.st 60 [.int .i64 0,.int .i64 0]))]⟩) (fun i=>i<=N) (fun i=>N-i) 0 (by simp) ?_ (hh:=by simp[dP,aX]);intro i t;have h:=mv i;have k:dP ⟨a,b⟩ (i+1)=⟨-(dP ⟨a,b⟩ i).y,(dP ⟨a,b⟩ i).x⟩:=rfl
  by_cases hi:i<N
  ·have j:=bY (i:=i) (by omega);generalize dP ⟨a,b⟩ i=R at*;obtain⟨x,y⟩:=R;simp only[bW]at h;have c:aT.wrap (-y)= -y:=aI _ (by omega) (by omega);simp[hi,aX,ad,e,d,c];simp[j,ad];exact rd (i+1) hi (hh:=by simp[k,aX])
  ·obtain rfl:i=N:=by omega
   generalize dP ⟨a,b⟩ i=R at*;obtain⟨x,y⟩:=R;simp only[bW]at h;have c:aT.wrap (x+f)=x+f:=aI _ (by omega) (by omega);have l:aT.wrap (y+g)=y+g:=aI _ (by omega) (by omega);simp[aX,ad,e,d,c,l]
 ·simp only[if_true]at hq;subst hq;have o:aT.wrap (-a)= -a:=aI _ (by omega) (by omega);simp[f128,cH,aX,ad,e,d,o];refine lp (α:=Nat) (fun i=>⟨[(5,.p (.int .i64 i)),(4,.ptr 2 []),(3,.ptr 1 []),(2,.ptr 0 [])],[.box false (.p (.st 86 [.bool true,.int .i64 qs,.st 60 [.int .i64 f,.int .i64 g]])),.box false (.p (aX (dP ⟨-a,b⟩ i))),.box false (.p (.st 60 [.int .i64 0,.int .i64 0]))]⟩) (fun i=>i<=N) (fun i=>N-i) 0 (by simp) ?_ (hh:=by simp[dP,aX]);intro i t;have h:=mv i;have k:dP ⟨-a,b⟩ (i+1)=⟨-(dP ⟨-a,b⟩ i).y,(dP ⟨-a,b⟩ i).x⟩:=rfl
  by_cases hi:i<N
  ·have j:=bY (i:=i) (by omega);generalize dP ⟨-a,b⟩ i=R at*;obtain⟨x,y⟩:=R;simp only[bW]at h;have c:aT.wrap (-y)= -y:=aI _ (by omega) (by omega);simp[hi,aX,ad,e,d,c];simp[j,ad];exact rd (i+1) hi (hh:=by simp[k,aX])
  ·obtain rfl:i=N:=by omega
   generalize dP ⟨-a,b⟩ i=R at*;obtain⟨x,y⟩:=R;simp only[bW]at h;have c:aT.wrap (x+f)=x+f:=aI _ (by omega) (by omega);have l:aT.wrap (y+g)=y+g:=aI _ (by omega) (by omega);simp[aX,ad,e,d,c,l]
section
variable{H:Type}{W:av}{aa:Nat->Prop}
theorem Q8{n:Nat}(d:ax H)(c)(h:aS prog W aa (bE prog (n+1) 4 d) c):∃b:Bool,bE prog (n+1) 4 d=.bool b:=by
 cases d with
 |lit l=>
  cases l with
  |bool b=>exact⟨b,by simp only[bE,DM]⟩
  |_=>simp only[bE,DM,aS]at h
 |_=>simp only[bE,DM,aS]at h
theorem aDZ:∃a b f2:Field,prog.underlying 87=some (.struct #[a,b,f2])/\a.type=4/\b.type=3/\f2.type=61:=⟨_,_,_,underlying87,rfl,rfl,rfl⟩
theorem PA:prog.underlyingId 87=86:=by kernel_rfl
theorem az3{m n:Nat}(o:m=n+2){d:ax H}(h:∃cs,aS prog W aa (bE prog (m+1) 87 d) cs)(j:Rows.uptoBulk d<=1048576):∃p:bH,bE prog (m+1) 87 d=cH p:=by
 obtain⟨cs,h⟩:=h;obtain⟨f0,f1,f2,f,t0,t1,t2⟩:=aDZ;cases d with
 |agg l=>
  have k:∀x∈l,Rows.uptoBulk x<=1048576:=fun x hx=>by
   have:=oX.sS hx;rw[Rows.uptoBulk]at j;omega
  simp only[bE,f,aS]at h⊢;obtain⟨s,q,e,c,_⟩:=h;rw[PA,aDn]at e;cases e
  match l,c with
  |[],c=>simp[bc]at c
  |[x],c=>simp[bc]at c
  |[x,y],c=>simp[bc]at c
  |x::y::z::r,c=>
   simp only[b2,b5,bc,b3,cc,t0,t1,t2]at c⊢;obtain⟨c0,_,_,g1,_,c1,_,_,g2,_,c2,_,_,g3,_⟩:=c;subst o;obtain⟨a,g⟩:=Q8 (n:=n+1) x c0 g1;obtain⟨b,i⟩:=tG (n:=n+1) y c1 g2;obtain⟨p,ep,_⟩:=Ej (n:=n) rfl ⟨c2,g3⟩ (k z (by simp));exact⟨⟨a,b,p⟩,by rw[g,i,ep,PA];rfl⟩
 |_=>simp only[bE,f,aS]at h
theorem az2{d:ax H}(h:∃cs,aS prog W aa (bE prog 8 87 d) cs)(a:Rows.uptoBulk d<=1048576):∃p:bH,bE prog 8 87 d=cH p/\True:=by
 obtain⟨p,e⟩:=az3 (n:=5) rfl h a;exact⟨p,e,trivial⟩
end
namespace Hk
mutual
def qX:PV->PV->Bool
 | .int .i64 a,.int .i64 b=>nL a b
 | .int .u64 a,.int .u64 b=>nL a b
 | .bool a,.bool b=>a==b
 | .str a,.str b=>qW a b
 | .aF,.aF=>true
 | .fo,.fo=>true
 | .bI f a,.bI g b=>bif f==g then kK a b else false
 | .seq a,.seq b=>kK a b
 | .eK a,.eK b=>tq a b
 | .st u a,.st v b=>bif cx u v then kK a b else false
 | .aD a,.aD b=>kK a b
 | .func f a b,.func g c d=>bif cx f g then(bif kK a c then kK b d else false)else false
 | .cr a,.cr b=>qX a b
 |_,_=>false
def kK:List PV->List PV->Bool
 |[],[]=>true
 |a::l,b::m=>bif qX a b then kK l m else false
 |_,_=>false
def tq:List (PV×PV)->List (PV×PV)->Bool
 |[],[]=>true
 |(a,c)::l,(b,d)::m=>bif qX a b then(bif qX c d then tq l m else false)else false
 |_,_=>false
end
mutual
theorem uI:∀{a b:PV},qX a b=true->a=b
 |a,b,h=>by
  unfold qX at h
  split at h
  ·rw[yx h]
  ·rw[yx h]
  ·rw[eq_of_beq h]
  ·rw[BM h]
  ·rfl
  ·rfl
  ·rename_i f a g b;cases hf:f==g
   ·rw[hf]at h;cases h
   ·rw[hf,cond_true]at h;rw[eq_of_beq hf,oA h]
  ·rw[oA h]
  ·rw[Ko h]
  ·simp only[ac]at h
   split at h
   ·rename_i i;rw[ce i,oA h]
   ·cases h
  ·rw[oA h]
  ·simp only[ac]at h
   split at h
   ·rename_i i
    split at h
    ·rename_i e;rw[ce i,oA e,oA h]
    ·cases h
   ·cases h
  ·rw[uI h]
  ·cases h
theorem oA:∀{a b:List PV},kK a b=true->a=b
 |[],[],_=>rfl
 |[],_::_,h=>by simp[kK]at h
 |_::_,[],h=>by simp[kK]at h
 |a::l,b::m,h=>by
  simp only[kK,ac]at h
  split at h
  ·rename_i e;rw[uI e,oA h]
  ·cases h
theorem Ko:∀{a b:List (PV×PV)},tq a b=true->a=b
 |[],[],_=>rfl
 |[],_::_,h=>by simp[tq]at h
 |_::_,[],h=>by simp[tq]at h
 |(a,c)::l,(b,d)::m,h=>by
  simp only[tq,ac]at h
  split at h
  ·rename_i e
   split at h
   ·rename_i j;rw[uI e,uI j,Ko h]
   ·cases h
  ·cases h
end
def sH:List (ap×List PV×PV)->ap->List PV->Option PV
 |[],f,vs=>hk f vs
 |(g,us,v)::r,f,vs=>bif cx g f then(bif kK us vs then some v else sH r f vs)else sH r f vs
def kM:List (ap×List PV×PV)->Prop
 |[]=>True
 |(g,us,v)::r=>az prog g us v/\kM r
theorem Az:∀{l m:List (ap×List PV×PV)},kM l->kM m->kM (l++m)
 |[],_,_,h=>h
 |_::_,_,h,a=>⟨h.1,Az h.2 a⟩
theorem xG:∀{l:List (ap×List PV×PV)},kM l->∀f vs v,sH l f vs=some v->az prog f vs v
 |[],_,f,vs,v,h=>YU h
 |(g,us,w)::r,a,f,vs,v,h=>by
  simp only[sH,ac]at h
  split at h
  ·rename_i b
   split at h
   ·rename_i hs;simp only[Option.some.injEq]at h;subst h;rw[<-oA hs,<-ce b];exact a.1
   ·exact xG a.2 f vs v h
  ·exact xG a.2 f vs v h
def Dl(v:PV):Option PV->Bool
 |some w=>qX v w
 |none=>false
theorem Fe{v:PV}{o:Option PV}(h:Dl v o=true):o=some v:=by
 cases o with
 |none=>cases h
 |some w=>rw[uI h]
def aAO:ap->ap->Nat:=fun _ _=>0
theorem fO(l:List (ap×List PV×PV))(a:kM l){f:ap}{vs:List PV}{v:PV}(h:Dl v (Pq (sH l) aAO f vs)=true):az prog f vs v:=KP (xG a) (Fe h)
end Hk
end Go.al
namespace Go.Proofs
open Go.Shelf
def Tryz.E0:a1:=⟨fun|156=>227|165=>280|166=>150|169=>230|240=>226|241=>322|276=>279|277=>361|n=>n,fun|31=>82|9=>9|3=>3|4=>4|0=>0|20=>20|72=>227|76=>230|70=>224|37=>225|75=>229|127=>330|164=>326|5=>5|80=>288|n=>n,fun|n=>n⟩
theorem Tryz.Fs:Go.Proofs.Lays.n156 prog E0:={
 mixed:=by kernel_rfl
 f156:=func227.trans (congrArg some (by kernel_rfl))
 f165:=func280.trans (congrArg some (by kernel_rfl))
 f166:=func150.trans (congrArg some (by kernel_rfl))
 f169:=func230.trans (congrArg some (by kernel_rfl))
 f240:=func226.trans (congrArg some (by kernel_rfl))
 f241:=func322.trans (congrArg some (by kernel_rfl))
 f276:=func279.trans (congrArg some (by kernel_rfl))
 f277:=func361.trans (congrArg some (by kernel_rfl))
 t0:=underlying0
 a0:=isAgg0
 z0:=sizeOf0
 v0:=zeroValue0
 t3:=underlying3
 a3:=isAgg3
 z3:=sizeOf3
 v3:=zeroValue3
 t4:=underlying4
 a4:=isAgg4
 z4:=sizeOf4
 v4:=zeroValue4
 t9:=underlying9
 a9:=isAgg9
 z9:=sizeOf9
 v9:=zeroValue9
 t20:=underlying20
 a20:=isAgg20
 z20:=sizeOf20
 v20:=zeroValue20
 t31:=underlying82
 a31:=isAgg82
 z31:=sizeOf82
 v31:=zeroValue82
 t37:=underlying225
 a37:=isAgg225
 z37:=sizeOf225
 v37:=zeroValue225
 t70:=underlying224
 a70:=isAgg224
 z70:=sizeOf224
 v70:=zeroValue224
 t72:=underlying227
 a72:=isAgg227
 z72:=sizeOf227
 v72:=zeroValue227
 t75:=underlying229
 a75:=isAgg229
 z75:=sizeOf229
 v75:=zeroValue229
 t76:=underlying230
 a76:=isAgg230
 z76:=sizeOf230
 v76:=zeroValue230
 t127:=underlying330
 a127:=isAgg330
 z127:=sizeOf330
 v127:=zeroValue330
 t164:=underlying326
 a164:=isAgg326
 z164:=sizeOf326
 v164:=zeroValue326}
theorem Tryz.Ek:Builder.Extra prog E0:={
 sizeBuilder:=by kernel_rfl
 liesBuilder:=by kernel_rfl
 t5:=underlying5
 a5:=isAgg5
 z5:=sizeOf5
 v5:=zeroValue5
 infoByte:=by kernel_rfl
 cellsByte:=by kernel_rfl
 sizeByte:=by kernel_rfl
 neB5:=by decide}
open Go.RowKit in
theorem Tryz.strings_Join_none(a:Option Addr)(c:Nat)(sep:ByteArray)(w:av):
 ay prog 227 #[.slice a 0 c,.string sep] w fun e w'=>e=.returned (.string ⟨#[]⟩)/\w'=w:=Any.strings_Join_none Fs Ek a c sep w
open Go.RowKit in
theorem Tryz.strings_Join(bk o c:Nat)(xs:List ByteArray)(sep:ByteArray)(w:av)(hcells:∀(j:Nat) x,xs[j]?=some x->w.cell? ⟨bk,o+j,none⟩=some (.string x))(hbk:bk<w.heap.size)(hN:xs.length<=140737488355328)(hcap:xs.length<=c)(hlen:(Lib.join (xs.map (·.data.toList)) sep.data.toList).length<=140737488355328):
 ay prog 227 #[.slice (some ⟨bk,o,none⟩) xs.length c,.string sep] w fun e w'=>e=.returned (.string ⟨(Lib.join (xs.map (·.data.toList)) sep.data.toList).toArray⟩)/\Below w.heap.size w w':=Any.strings_Join Fs Ek bk o c xs sep w hcells hbk hN hcap hlen
def Tryz.QK:a1:=⟨fun|106=>218|213=>268|265=>314|n=>n,fun|9=>9|3=>3|n=>n,fun|n=>n⟩
theorem Tryz.azL:Go.Proofs.Lays.n106 prog QK:={
 mixed:=by kernel_rfl
 f106:=func218.trans (congrArg some (by kernel_rfl))
 f213:=func268.trans (congrArg some (by kernel_rfl))
 f265:=func314.trans (congrArg some (by kernel_rfl))
 t3:=underlying3
 a3:=isAgg3
 z3:=sizeOf3
 v3:=zeroValue3
 t9:=underlying9
 a9:=isAgg9
 z9:=sizeOf9
 v9:=zeroValue9}
open Go.RowKit in
theorem Tryz.strings_Compare(a b:ByteArray)(w:av):
 ay prog 218 #[.string a,.string b] w fun e w'=>e=.returned (.int .i64 (Lib.compareBytes a.data.toList b.data.toList))/\w'=w:=Any.strings_Compare azL a b w
def Tryz.QJ:a1:=⟨fun|138=>328|195=>366|218=>368|143=>329|219=>317|217=>352|225=>353|224=>354|267=>355|266=>375|314=>376|n=>n,fun|9=>9|3=>3|4=>4|5=>5|0=>0|46=>322|146=>400|51=>354|n=>n,fun|1=>0|n=>n⟩
theorem Tryz.azP:Go.Proofs.Lays.n138 prog QJ:={
 mixed:=by kernel_rfl
 f138:=func328.trans (congrArg some (by kernel_rfl))
 f143:=func329.trans (congrArg some (by kernel_rfl))
 f195:=func366.trans (congrArg some (by kernel_rfl))
 f217:=func352.trans (congrArg some (by kernel_rfl))
 f218:=func368.trans (congrArg some (by kernel_rfl))
 f219:=func317.trans (congrArg some (by kernel_rfl))
 f224:=func354.trans (congrArg some (by kernel_rfl))
 f225:=func353.trans (congrArg some (by kernel_rfl))
 f266:=func375.trans (congrArg some (by kernel_rfl))
 f267:=func355.trans (congrArg some (by kernel_rfl))
 f314:=func376.trans (congrArg some (by kernel_rfl))
 t0:=underlying0
 a0:=isAgg0
 z0:=sizeOf0
 v0:=zeroValue0
 t3:=underlying3
 a3:=isAgg3
 z3:=sizeOf3
 v3:=zeroValue3
 t4:=underlying4
 a4:=isAgg4
 z4:=sizeOf4
 v4:=zeroValue4
 t5:=underlying5
 a5:=isAgg5
 z5:=sizeOf5
 v5:=zeroValue5
 t9:=underlying9
 a9:=isAgg9
 z9:=sizeOf9
 v9:=zeroValue9
 t46:=underlying322
 a46:=isAgg322
 z46:=sizeOf322
 v46:=zeroValue322
 t51:=underlying354
 a51:=isAgg354
 z51:=sizeOf354
 v51:=zeroValue354
 t146:=underlying400
 a146:=isAgg400
 z146:=sizeOf400
 v146:=zeroValue400
 g1:=by kernel_rfl}
open Go.RowKit Go.Lib in
theorem Tryz.strings_Count_one(s:ByteArray)(c:UInt8)(w:av):
 ay prog 328 #[.string s,.string ⟨#[c]⟩] w fun e w'=>e=.returned (.int .i64 (Lib.countByte s.data.toList c))/\w'=w:=Any.strings_Count_one azP s c w
end Go.Proofs
namespace Go.Proofs
def Tryz.EU:a1:=⟨fun|4=>263|n=>n,fun|22=>22|25=>61|3=>3|4=>4|9=>9|20=>20|0=>0|2=>3|n=>n,fun|n=>n⟩
theorem Tryz.YQ:Go.Proofs.Lays8.n4 prog EU:={
 mixed:=by kernel_rfl
 f4:=⟨f263.name,by decide,func263.trans (congrArg some (by kernel_rfl))⟩
 t0:=underlying0
 a0:=isAgg0
 z0:=sizeOf0
 v0:=zeroValue0
 t3:=underlying3
 a3:=isAgg3
 z3:=sizeOf3
 v3:=zeroValue3
 t4:=underlying4
 a4:=isAgg4
 z4:=sizeOf4
 v4:=zeroValue4
 t9:=underlying9
 a9:=isAgg9
 z9:=sizeOf9
 v9:=zeroValue9
 t20:=underlying20
 a20:=isAgg20
 z20:=sizeOf20
 v20:=zeroValue20
 t22:=underlying22
 a22:=isAgg22
 z22:=sizeOf22
 v22:=zeroValue22}
end Go.Proofs
