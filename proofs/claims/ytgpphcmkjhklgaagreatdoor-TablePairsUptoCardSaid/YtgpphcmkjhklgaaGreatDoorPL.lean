import Derived.Test.YtgpphcmkjhklgaaGreatDoorPK
import Derived.Test.YtgpphcmkjhklgaaGreatDoorThE
import Derived.Test.YtgpphcmkjhklgaaGreatDoorPJ
import Derived.Test.YtgpphcmkjhklgaaGreatDoorPG
import Derived.Shelf.Strings.Builder1
import Derived.Shelf.Strings.Builder2
import Derived.Shelf.Strings.OnBuilder
import Derived.Shelf.Strings.Trim
import Derived.Shelf.Small.Utf8
import Derived.Shelf.Small.Bits
import Derived.Shelf.Small.Strs
import Derived.Shelf.Small.Wraps
import Derived.Shelf.Strings.BuilderF
import Derived.Shelf.Utf8.RuneCount
import Derived.Shelf.Strings.Builder2Cap
import Derived.Shelf.Strconv.Atoi
import Derived.Shelf.Strconv.Itoa0
import Derived.Shelf.Strconv.Itoa1
import Derived.Shelf.LaysM
import Derived.Shelf.Strconv.Itoa2
import Derived.Shelf.Strconv.Itoa3
import Derived.Shelf.Strconv.AtoiErrFast
import Derived.Shelf.Strconv.ParseIntEmpty
import Derived.Shelf.Strconv.AtoiFail
import Derived.Shelf.Strconv.Clone
import Derived.Shelf.Strconv.SyntaxError
import Derived.Shelf.LaysC
import Derived.Shelf.Strconv.ToError
import Derived.Shelf.Strconv.Lower
import Derived.Shelf.Strconv.ParseUint10
import Derived.Shelf.Strconv.ParseUint10Empty
import Derived.Shelf.Strconv.ParseUint10Any
import Derived.Shelf.Strconv.ParseInt10
import Derived.Shelf.Strconv.AtoiLong
import Derived.Shelf.Strconv.AtoiInnerAll
import Derived.Shelf.Strconv.RangeError
import Derived.Shelf.Strconv.ToErrorRange
import Derived.Shelf.Strconv.AtoiAll
import Derived.Shelf.Strconv.ParseUintEmpty
import Derived.Shelf.Strings.Search1
import Derived.Shelf.Strings.Search2
import Derived.Shelf.Strings.Search3
import Derived.Shelf.Strings.Cut
import Derived.Shelf.Strings.Count
import Derived.Shelf.Strings.Shaped
import Derived.Shelf.Strings.Prefix
import Derived.Shelf.Strings.Split
import Derived.Shelf.Strings.SplitShaped
import Derived.Shelf.Unicode.Decode
import Derived.Shelf.Strings.Runes
import Derived.Shelf.Strings.RuneCount
import Derived.Shelf.Strings.AsciiSet
import Derived.Shelf.Strings.Explode
import Derived.Shelf.Bits.Mul64
import Derived.Shelf.Strings.Repeat
import Derived.Shelf.Unicode.DecodeSlow
import Derived.Shelf.Unicode.DecodeAny
import Derived.Shelf.Unicode.DecodeLast
import Derived.Shelf.Slices.Turned
import Derived.Ground.Names2Prog
import Derived.Shelf.Slices.SearchI
import Derived.Test.YtgpphcmkjhklgaaGreatDoorProg
import Derived.Shelf.SlGeneric
import Derived.Shelf.Spec.SlicesGrow
import Derived.Test.YtgpphcmkjhklgaaGreatDoorPH
/- Parts of a proof. -/
set_option linter.unusedSimpArgs false
set_option linter.unusedVariables false
set_option linter.unusedSectionVars false
open Go.Proofs.Tryz
open And renaming intro->ab
open Bool renaming cond_eq_ite->ac, and_eq_true->am, eq_iff_iff->ao, true_and->ap
open Go renaming FuncId->av, World->ax, Calls->ay
open Go.Builtin renaming zeroCells->aT
open Go.IntKind renaming i64->a1
open Go.Lib renaming countByte->a6, compareBytes->a7, join->a8
open Go.Shelf renaming Ren->bb
open List renaming length_eq_zero_iff->be, take_of_length_le->bi, take_length->bl, replicate->bo, mem_of_getElem?->bv, getElem?_eq_some_iff->b0, map_cons->b1, mem_iff_getElem->b2, take_add_one->b3, any_eq_true->b4, drop_eq_getElem_cons->b5, length_take->cb, map_take->cc
open Nat renaming eq_of_beq_eq_true->ce, beq->ck, le_of_ble_eq_true->cv, le_refl->cx, blt->cy, ble->c6, le_trans->c9, blt_eq->da
open Option renaming ite_none_right_eq_some->db
open Option.some renaming injEq->dg
open Prod.mk renaming injEq->dk
namespace Go.aw
open Go.Proofs
set_option maxHeartbeats 4000000
set_option maxRecDepth 100000
def l6(t:aB):Int:=bE [aW (decide ((t.cs.length:Int)<3)) 2,aW (decide (12<(t.cs.length:Int))) 5,aW (t.cs.any fp) 3]
def pz(t:aB):Int:=bE [aW (!t.fJ) 15,aW (decide (t.bt<1\/1000<t.bt)) 3,ki 12 (gZ t.cs.length) t.bd]
theorem Dy{t:aB}(h:l6 t=0):3<=t.cs.length/\t.cs.length<=12/\∀p∈t.cs,eU p:=by
 rw[l6,nw]at h;have b:=h (aW (decide ((t.cs.length:Int)<3)) 2) (by simp);have d:=h (aW (decide (12<(t.cs.length:Int))) 5) (by simp);have a:=h (aW (t.cs.any fp) 3) (by simp);refine⟨?_,?_,fun p e=>DG ?_⟩
 ·by_cases c:(t.cs.length:Int)<3
  ·simp[aW,c]at b
  ·omega
 ·by_cases c:12<(t.cs.length:Int)
  ·simp[aW,c]at d
  ·omega
 ·cases hf:fp p
  ·rfl
  ·have:t.cs.any fp=true:=b4.2 ⟨p,e,hf⟩;rw[this]at a;simp[aW]at a
theorem DF(t:aB):gp t=if l6 t=0 then(if pz t=0 then ki 256 (iG t) t.aq else pz t)else l6 t:=by
 rw[gp,l6,pz,ki,ki]
 by_cases c1:t.cs.length<3
 ·have:(t.cs.length:Int)<3:=by omega
  simp[bE,aW,c1,this]
 have b:¬(t.cs.length:Int)<3:=by omega
 by_cases c2:12<t.cs.length
 ·have:(12:Int)<t.cs.length:=by omega
  simp[bE,aW,c1,c2,b,this]
 have c:¬(12:Int)<t.cs.length:=by omega
 generalize t.cs.any fp=a;cases a
 case true=>simp[bE,aW,c1,c2,b,c]
 cases t.fJ
 ·simp[bE,aW,c1,c2,b,c]
 by_cases c3:t.bt<1\/1000<t.bt
 ·simp[bE,aW,c1,c2,b,c,c3]
 by_cases c4:12<t.bd.length
 ·simp[bE,aW,c1,c2,b,c,c3,c4]
 generalize jA (gZ t.cs.length) t.bd=e
 by_cases c5:e=0
 ·simp[bE,aW,c1,c2,b,c,c3,c4,c5]
 ·simp[bE,aW,c1,c2,b,c,c3,c4,c5]
theorem Pq(t:aB)(v:l8 t):az prog 16 [cL t] (.int .i64 (gp t)):=by
 obtain⟨k,z,A,s,u⟩:=v;have k1:=gY (decide ((t.cs.length:Int)<3)) 2;have k2:=gY (decide (12<(t.cs.length:Int))) 5;have k3:=Pj t.cs k;have k4:=gY (t.cs.any fp) 3;have k5:=nR [aW (decide ((t.cs.length:Int)<3)) 2,aW (decide (12<(t.cs.length:Int))) 5,aW (t.cs.any fp) 3] (by simp);have l:=Dy (t:=t);rw[DF];have w:=fun h:l6 t=0=>PN t (l h).1 k (l h).2.2;have x:=gY (!t.fJ) 15;have q:=fun b=>gY b 3;have n:=PM t 12 k z s;have j:=nR [aW (!t.fJ) 15,aW (decide (t.bt<1\/1000<t.bt)) 3,ki 12 (gZ t.cs.length) t.bd] (by simp);have o:=fun h:l6 t=0=>PL t 256 k (l h).2.2 A u;have d1:l6 t=bE [aW (decide ((t.cs.length:Int)<3)) 2,aW (decide (12<(t.cs.length:Int))) 5,aW (t.cs.any fp) 3]:=rfl;have d2:pz t=bE [aW (!t.fJ) 15,aW (decide (t.bt<1\/1000<t.bt)) 3,ki 12 (gZ t.cs.length) t.bd]:=rfl;rw[<-d1]at k5;rw[<-d2]at j;clear d1 d2 l;generalize l6 t=p at*;generalize pz t=i at*;generalize ki 12 (gZ t.cs.length) t.bd=F at*;generalize ki 256 (iG t) t.aq=M at*;generalize t.cs.any fp=G at*;generalize t.fJ=H at*;generalize I:aW (decide ((t.cs.length:Int)<3)) 2=B at*;generalize J:aW (decide (12<(t.cs.length:Int))) 5=C at*;generalize K:aW G 3=D at*;generalize L:aW (!H) 15=E at*;have m:∀b:Bool,decide (t.bt<1\/1000<t.bt)=b->az prog 79 [.bool b,.int .i64 3] (.int .i64 (aW b 3))/\az prog 78 [.seq [.int .i64 E,.int .i64 (aW b 3),.int .i64 F]] (.int .i64 i):=fun b r=>by
  rw[r]at j;exact⟨q b,by simpa using j⟩
 have y:az prog 78 [.seq [.int .i64 B,.int .i64 C,.int .i64 D]] (.int .i64 p):=by simpa using k5
 clear j q k5;refine aL nf Nn mix (by simp[f16]) ?_;simp[f16,ad];refine Go.aw.e2 k1 ?_;simp[ad];refine Go.aw.e2 k2 ?_;simp[ad];refine Go.aw.e2 k3 ?_;simp[ad];refine Go.aw.e2 k4 ?_;simp[ad];refine ep y (by simp;first|exact⟨rfl,rfl⟩|rfl) (by simp;first|exact⟨rfl,rfl⟩|rfl) ?_;simp[ad];refine⟨by repeat' first|rfl|apply ab,?_⟩
 by_cases a:p=0
 case neg=>simp[a,ad]
 simp[a,ad];refine Go.aw.e1 (w a) ?_;simp[ad];refine Go.aw.e2 x ?_;simp[ad]
 by_cases c:t.bt<1
 ·have d:¬1<=t.bt:=by omega
  obtain⟨f1,f2⟩:=m true (by simp[c]);simp[c,d,ad];refine Go.aw.e2 f1 ?_;simp[c,d,ad];refine Go.aw.e3 n ?_;simp[c,d,ad];refine ep f2 (by simp;first|exact⟨rfl,rfl⟩|rfl) (by simp;first|exact⟨rfl,rfl⟩|rfl) ?_;simp[c,d,ad];refine⟨by repeat' first|rfl|apply ab,?_⟩
  by_cases e:i=0
  case neg=>simp[a,e,ad]
  simp[a,e,ad];refine Go.aw.c3 (o a) ?_;simp[a,e,ad]
 have d:1<=t.bt:=by omega
 by_cases f:1000<t.bt
 ·have g:¬t.bt<=1000:=by omega
  obtain⟨f1,f2⟩:=m true (by simp[c,f]);simp[c,d,f,g,ad];refine Go.aw.e2 f1 ?_;simp[c,d,f,g,ad];refine Go.aw.e3 n ?_;simp[c,d,f,g,ad];refine ep f2 (by simp;first|exact⟨rfl,rfl⟩|rfl) (by simp;first|exact⟨rfl,rfl⟩|rfl) ?_;simp[c,d,f,g,ad];refine⟨by repeat' first|rfl|apply ab,?_⟩
  by_cases e:i=0
  case neg=>simp[a,e,ad]
  simp[a,e,ad];refine Go.aw.c3 (o a) ?_;simp[a,e,ad]
 ·have g:t.bt<=1000:=by omega
  obtain⟨f1,f2⟩:=m false (by simp[c,f]);simp[c,d,f,g,ad];refine Go.aw.e2 f1 ?_;simp[c,d,f,g,ad];refine Go.aw.e3 n ?_;simp[c,d,f,g,ad];refine ep f2 (by simp;first|exact⟨rfl,rfl⟩|rfl) (by simp;first|exact⟨rfl,rfl⟩|rfl) ?_;simp[c,d,f,g,ad];refine⟨by repeat' first|rfl|apply ab,?_⟩
  by_cases e:i=0
  case neg=>simp[a,e,ad]
  simp[a,e,ad];refine Go.aw.c3 (o a) ?_;simp[a,e,ad]
def aB.aCV(t:aB)(i:Nat):NV:=(fq (t.at (t.nx i))).sub (fq (t.at i))
def NS.add(s t:NS):NS:=⟨s.a.add t.a,s.b.add t.b,s.d⟩
def NS.neg(s:NS):NS:=⟨s.a.neg,s.b.neg,s.d⟩
def NS.times(s:NS)(k:NF):NS:=⟨s.a.mul k,s.b.mul k,s.d⟩
def NB.iw(n:NB)(e:NV):NS:=⟨e.iw n.a,e.iw n.b,n.d⟩
def NS.plain(a d:NF):NS:=⟨a,.int 0,d⟩
def NS.norm(s:NS):NF:=(s.a.mul s.a).sub ((s.b.mul s.b).mul s.d)
open Classical in
noncomputable def NS.under(s:NS)(k:NF):NS:=if s.norm.q=0 then .plain (k.div (s.a.add s.a)) s.d else⟨(k.mul s.a).div s.norm,(k.mul s.b).neg.div s.norm,s.d⟩
theorem C8.mono{k l:Nat}{s:NS}(h:C8 k s)(a:k<=l):C8 l s:=⟨h.1.mono a,h.2.1.mono a,h.2.2.mono a⟩
def aB.pos(t:aB)(n:NB)(i:Nat):Bool:=decide (0<sgS ((n.iw (t.aCV i)).neg).q)
theorem Dx{t:aB}(h:gp t=0):3<=t.cs.length/\t.cs.length<=12/\(∀p∈t.cs,eU p)/\t.fJ=true:=by
 rw[DF]at h
 by_cases d:l6 t=0
 ·rw[if_pos d]at h
  by_cases e:pz t=0
  ·obtain⟨a,b,c⟩:=Dy d;refine⟨a,b,c,?_⟩;rw[pz,nw]at e;have f:=e (aW (!t.fJ) 15) (by simp);cases hc:t.fJ
   ·rw[hc]at f;simp[aW]at f
   ·rfl
  ·rw[if_neg e]at h;exact(e h).elim
 ·rw[if_neg d]at h;exact(d h).elim
def aC7:PV:=.st 41 [.str [],.str []]
theorem lZ(s:List Nat)(n:Int):az prog 59 [.str s,.int .i64 n] (.bool (decide ((s.length:Int)<=n))):=by
 refine aL nf NK mix (by simp[f59]) ?_;simp[f59]
def jg(p:dD):Bool:=decide (p.name.length<=40)&&(decide (p.a.length<=40)&&decide (p.b.length<=40))
def gl(s:cH):Bool:=decide (s.name.length<=40)&&(decide (s.pt.x.length<=40)&&decide (s.pt.y.length<=40))
def nS(t:aB):Bool:=!(decide (14<t.cs.length)||(decide (14<t.bd.length)||((decide (8<t.aq.length)&&decide (t.aq.length<=256))||decide (258<t.aq.length))))&&(t.bd.all jg&&t.aq.all gl)
theorem tF{α:Type}{f:α->Bool}{l:List α}{i:Nat}{x:α}(h:l[i]?=some x):(l.take (i+1)).all f=((l.take i).all f&&f x):=by
 rw[b3,h];simp
theorem jz{α:Type}{f:α->Bool}{l:List α}{i:Nat}{x:α}(h:l[i]?=some x)(hf:f x=false):l.all f=false:=by
 cases a:l.all f
 ·rfl
 ·rw[List.all_eq_true]at a;rw[a x (bv h)]at hf;cases hf
theorem PI(t:aB)(B:t.cs.length<=1000000)(C:t.bd.length<=1000000)(D:t.aq.length<=1000000):az prog 11 [cS t] (.bool (nS t)):=by
 refine aL nf Nj mix (by simp[f11]) ?_;have s:nS t=(!(decide (14<t.cs.length)||(decide (14<t.bd.length)||((decide (8<t.aq.length)&&decide (t.aq.length<=256))||decide (258<t.aq.length))))&&(t.bd.all jg&&t.aq.all gl)):=rfl
 by_cases c1:14<t.cs.length
 ·have q:(14:Int)<t.cs.length:=by omega
  have o:nS t=false:=by rw[s];simp[c1]
  simp[f11,ad,q,o]
 have q:¬(14:Int)<t.cs.length:=by omega
 by_cases c2:14<t.bd.length
 ·have r:(14:Int)<t.bd.length:=by omega
  have o:nS t=false:=by rw[s];simp[c2]
  simp[f11,ad,q,r,o]
 have r:¬(14:Int)<t.bd.length:=by omega
 have tail:(8<t.aq.length->¬t.aq.length<=256)->¬258<t.aq.length->nS t=(t.bd.all jg&&t.aq.all gl):=fun A z=>by
  rw[s]
  by_cases h:8<t.aq.length
  ·have:=A h;simp[c1,c2,h,this,z]
  ·simp[c1,c2,h,z]
 by_cases c3:8<t.aq.length
 ·have u:(8:Int)<t.aq.length:=by omega
  by_cases c4:t.aq.length<=256
  ·have w:(t.aq.length:Int)<=256:=by omega
   have o:nS t=false:=by rw[s];simp[c3,c4]
   simp[f11,ad,q,r,u,w,o]
  ·have w:¬(t.aq.length:Int)<=256:=by omega
   by_cases c5:258<t.aq.length
   ·have v:(258:Int)<t.aq.length:=by omega
    have o:nS t=false:=by rw[s];simp[c5]
    simp[f11,ad,q,r,u,w,v,o]
   ·have v:¬(258:Int)<t.aq.length:=by omega
    rw[tail (fun _=>c4) c5];simp[f11,ad,q,r,u,w,v];refine lp (α:=Nat) (fun i=>⟨[(3,.p (.int .i64 i)),(1,.ptr 0 [])],[.box false (.p (cS t))]⟩) (fun i=>i<=t.bd.length/\(t.bd.take i).all jg=true) (fun i=>t.bd.length-i) 0 (by simp) ?_;rintro i ⟨k1,k2⟩
    by_cases hi:i<t.bd.length
    ·have c:=aB.lT hi;have n:=b8 (i:=i) (by omega);have f:=lZ (t.pk i).a 40;have j:=lZ (t.pk i).b 40;have g:jg (t.pk i)=(decide ((t.pk i).name.length<=40)&&(decide ((t.pk i).a.length<=40)&&decide ((t.pk i).b.length<=40))):=rfl
     by_cases m:(t.pk i).name.length<=40
     ·have d:¬(40:Int)<(t.pk i).name.length:=by omega
      by_cases a2:(t.pk i).a.length<=40
      ·have k:((t.pk i).a.length:Int)<=40:=by omega
       rw[decide_eq_true k]at f
       by_cases a3:(t.pk i).b.length<=40
       ·have l:((t.pk i).b.length:Int)<=40:=by omega
        rw[decide_eq_true l]at j;have e:jg (t.pk i)=true:=by rw[g];simp[m,a2,a3]
        simp[hi,c,d,ad];refine Go.aw.c2 f ?_;simp[hi,c,d,ad];refine Go.aw.c2 j ?_;simp[hi,c,d,n,ad];exact rd (i+1) ⟨hi,by rw[tF c,k2,e];rfl⟩
       ·have l:¬((t.pk i).b.length:Int)<=40:=by omega
        rw[decide_eq_false l]at j;have e:jg (t.pk i)=false:=by rw[g];simp[a3]
        rw[jz c e];simp[hi,c,d,ad];refine Go.aw.c2 f ?_;simp[hi,c,d,ad];refine Go.aw.c2 j ?_;simp[hi,c,d,n,ad]
      ·have k:¬((t.pk i).a.length:Int)<=40:=by omega
       rw[decide_eq_false k]at f;have e:jg (t.pk i)=false:=by rw[g];simp[a2]
       rw[jz c e];simp[hi,c,d,ad];refine Go.aw.c2 f ?_;simp[hi,c,d,ad]
     ·have d:(40:Int)<(t.pk i).name.length:=by omega
      have e:jg (t.pk i)=false:=by rw[g];simp[m]
      rw[jz c e];simp[hi,c,d,ad]
    have:i=t.bd.length:=by omega
    subst this;rw[bl]at k2;rw[k2,ap];simp[ad];refine lp (α:=Nat) (fun i=>⟨[(4,.p (.int .i64 i)),(1,.ptr 0 [])],[.box false (.p (cS t))]⟩) (fun i=>i<=t.aq.length/\(t.aq.take i).all gl=true) (fun i=>t.aq.length-i) 0 (by simp) ?_;rintro i ⟨k1,k2⟩
    by_cases hi:i<t.aq.length
    ·have c:=aB.dE hi;have n:=b8 (i:=i) (by omega);have f:=lZ (t.sp i).pt.x 40;have j:=lZ (t.sp i).pt.y 40;have g:gl (t.sp i)=(decide ((t.sp i).name.length<=40)&&(decide ((t.sp i).pt.x.length<=40)&&decide ((t.sp i).pt.y.length<=40))):=rfl
     by_cases m:(t.sp i).name.length<=40
     ·have d:¬(40:Int)<(t.sp i).name.length:=by omega
      by_cases a2:(t.sp i).pt.x.length<=40
      ·have k:((t.sp i).pt.x.length:Int)<=40:=by omega
       rw[decide_eq_true k]at f
       by_cases a3:(t.sp i).pt.y.length<=40
       ·have l:((t.sp i).pt.y.length:Int)<=40:=by omega
        rw[decide_eq_true l]at j;have e:gl (t.sp i)=true:=by rw[g];simp[m,a2,a3]
        simp[hi,c,d,ad];refine Go.aw.c2 f ?_;simp[hi,c,d,ad];refine Go.aw.c2 j ?_;simp[hi,c,d,n,ad];exact rd (i+1) ⟨hi,by rw[tF c,k2,e];rfl⟩
       ·have l:¬((t.sp i).pt.y.length:Int)<=40:=by omega
        rw[decide_eq_false l]at j;have e:gl (t.sp i)=false:=by rw[g];simp[a3]
        rw[jz c e];simp[hi,c,d,ad];refine Go.aw.c2 f ?_;simp[hi,c,d,ad];refine Go.aw.c2 j ?_;simp[hi,c,d,n,ad]
      ·have k:¬((t.sp i).pt.x.length:Int)<=40:=by omega
       rw[decide_eq_false k]at f;have e:gl (t.sp i)=false:=by rw[g];simp[a2]
       rw[jz c e];simp[hi,c,d,ad];refine Go.aw.c2 f ?_;simp[hi,c,d,ad]
     ·have d:(40:Int)<(t.sp i).name.length:=by omega
      have e:gl (t.sp i)=false:=by rw[g];simp[m]
      rw[jz c e];simp[hi,c,d,ad]
    have:i=t.aq.length:=by omega
    subst this;rw[bl]at k2;rw[k2];simp[ad]
 ·have u:¬(8:Int)<t.aq.length:=by omega
  have v:¬(258:Int)<t.aq.length:=by omega
  rw[tail (fun h=>absurd h c3) (by omega)];simp[f11,ad,q,r,u,v];refine lp (α:=Nat) (fun i=>⟨[(3,.p (.int .i64 i)),(1,.ptr 0 [])],[.box false (.p (cS t))]⟩) (fun i=>i<=t.bd.length/\(t.bd.take i).all jg=true) (fun i=>t.bd.length-i) 0 (by simp) ?_;rintro i ⟨k1,k2⟩
  by_cases hi:i<t.bd.length
  ·have c:=aB.lT hi;have n:=b8 (i:=i) (by omega);have f:=lZ (t.pk i).a 40;have j:=lZ (t.pk i).b 40;have g:jg (t.pk i)=(decide ((t.pk i).name.length<=40)&&(decide ((t.pk i).a.length<=40)&&decide ((t.pk i).b.length<=40))):=rfl
   by_cases m:(t.pk i).name.length<=40
   ·have d:¬(40:Int)<(t.pk i).name.length:=by omega
    by_cases a2:(t.pk i).a.length<=40
    ·have k:((t.pk i).a.length:Int)<=40:=by omega
     rw[decide_eq_true k]at f
     by_cases a3:(t.pk i).b.length<=40
     ·have l:((t.pk i).b.length:Int)<=40:=by omega
      rw[decide_eq_true l]at j;have e:jg (t.pk i)=true:=by rw[g];simp[m,a2,a3]
      simp[hi,c,d,ad];refine Go.aw.c2 f ?_;simp[hi,c,d,ad];refine Go.aw.c2 j ?_;simp[hi,c,d,n,ad];exact rd (i+1) ⟨hi,by rw[tF c,k2,e];rfl⟩
     ·have l:¬((t.pk i).b.length:Int)<=40:=by omega
      rw[decide_eq_false l]at j;have e:jg (t.pk i)=false:=by rw[g];simp[a3]
      rw[jz c e];simp[hi,c,d,ad];refine Go.aw.c2 f ?_;simp[hi,c,d,ad];refine Go.aw.c2 j ?_;simp[hi,c,d,n,ad]
    ·have k:¬((t.pk i).a.length:Int)<=40:=by omega
     rw[decide_eq_false k]at f;have e:jg (t.pk i)=false:=by rw[g];simp[a2]
     rw[jz c e];simp[hi,c,d,ad];refine Go.aw.c2 f ?_;simp[hi,c,d,ad]
   ·have d:(40:Int)<(t.pk i).name.length:=by omega
    have e:jg (t.pk i)=false:=by rw[g];simp[m]
    rw[jz c e];simp[hi,c,d,ad]
  have:i=t.bd.length:=by omega
  subst this;rw[bl]at k2;rw[k2,ap];simp[ad];refine lp (α:=Nat) (fun i=>⟨[(4,.p (.int .i64 i)),(1,.ptr 0 [])],[.box false (.p (cS t))]⟩) (fun i=>i<=t.aq.length/\(t.aq.take i).all gl=true) (fun i=>t.aq.length-i) 0 (by simp) ?_;rintro i ⟨k1,k2⟩
  by_cases hi:i<t.aq.length
  ·have c:=aB.dE hi;have n:=b8 (i:=i) (by omega);have f:=lZ (t.sp i).pt.x 40;have j:=lZ (t.sp i).pt.y 40;have g:gl (t.sp i)=(decide ((t.sp i).name.length<=40)&&(decide ((t.sp i).pt.x.length<=40)&&decide ((t.sp i).pt.y.length<=40))):=rfl
   by_cases m:(t.sp i).name.length<=40
   ·have d:¬(40:Int)<(t.sp i).name.length:=by omega
    by_cases a2:(t.sp i).pt.x.length<=40
    ·have k:((t.sp i).pt.x.length:Int)<=40:=by omega
     rw[decide_eq_true k]at f
     by_cases a3:(t.sp i).pt.y.length<=40
     ·have l:((t.sp i).pt.y.length:Int)<=40:=by omega
      rw[decide_eq_true l]at j;have e:gl (t.sp i)=true:=by rw[g];simp[m,a2,a3]
      simp[hi,c,d,ad];refine Go.aw.c2 f ?_;simp[hi,c,d,ad];refine Go.aw.c2 j ?_;simp[hi,c,d,n,ad];exact rd (i+1) ⟨hi,by rw[tF c,k2,e];rfl⟩
     ·have l:¬((t.sp i).pt.y.length:Int)<=40:=by omega
      rw[decide_eq_false l]at j;have e:gl (t.sp i)=false:=by rw[g];simp[a3]
      rw[jz c e];simp[hi,c,d,ad];refine Go.aw.c2 f ?_;simp[hi,c,d,ad];refine Go.aw.c2 j ?_;simp[hi,c,d,n,ad]
    ·have k:¬((t.sp i).pt.x.length:Int)<=40:=by omega
     rw[decide_eq_false k]at f;have e:gl (t.sp i)=false:=by rw[g];simp[a2]
     rw[jz c e];simp[hi,c,d,ad];refine Go.aw.c2 f ?_;simp[hi,c,d,ad]
   ·have d:(40:Int)<(t.sp i).name.length:=by omega
    have e:gl (t.sp i)=false:=by rw[g];simp[m]
    rw[jz c e];simp[hi,c,d,ad]
  have:i=t.aq.length:=by omega
  subst this;rw[bl]at k2;rw[k2];simp[ad]
theorem Rk(l:List dK):eC prog 2 (l.map (AV.p∘cF)):=xV (fun r=>⟨by simp[ad],by simp[ad]⟩) l
theorem rz{α:Type}{f:α->AV}{l:List α}{j:Nat}{x:α}(h:l[j+1]?=some x):(l.take (j+1+1)).map f=(l.map f).take (j+1)++[f x]:=by
 rw[b3 (i:=j+1),h,List.map_append,cc];rfl
theorem jB{N:Nat×Nat->Prop}{α:Type}{f:α->PV}{k:Nat}{l:List α}:aQ N ((l.map (AV.p∘f)).take k)=True:=by
 rw[cq,eq_iff_iff,iff_true];intro x hx;obtain⟨a,_,rfl⟩:=List.mem_map.1 (List.mem_of_mem_take hx);trivial
theorem nU:eO=eP:=rfl
theorem nT:ga=bC:=rfl
theorem rA{α:Type}{l:List α}{x:α}(h:l[0]?=some x):l.take 1=[x]:=by
 rw[b3 (i:=0),h];rfl
theorem PO(t:aB)(u:t.cs.length<=1000000)(v:t.bd.length<=1000000)(w:t.aq.length<=1000000):az prog 14 [cS t] (cL t):=by
 have s:(1000000:Nat)<cM:=by decide
 have o:a1.wrap 1=1:=by decide
 refine aL nf Nk mix (by simp[f14]) ?_;simp[f14,ad];refine⟨⟨Rk _,by omega⟩,?_⟩
 by_cases hc:t.cs=[]
 ·simp[hc];refine⟨⟨by repeat' first|rfl|apply ab,by repeat' first|rfl|apply ab⟩,?_⟩;refine lp (α:=Nat) (fun i=>match i with
    |0=>⟨[(18,.p (.int .i64 0)),(17,.p (.int .i64 t.bd.length)),(16,.p (.seq (t.bd.map eP))),(3,.ptr 3 []),(2,.ptr 1 []),(1,.ptr 0 [])],[.box false (.p (cS t)),.box false (.p (.st 35 [.aO,.int .i64 0,.aO,.aO])),.arr .exact 0 2 [],.box false (.st 35 [.sl 2 0 2 0 0,.p (.int .i64 t.bt),.p .aO,.p .aO])]⟩
    |m+1=>⟨[(18,.p (.int .i64 ((m+1:Nat):Int))),(17,.p (.int .i64 t.bd.length)),(16,.p (.seq (t.bd.map eP))),(3,.ptr 3 []),(2,.ptr 1 []),(1,.ptr 0 [])],[.box false (.p (cS t)),.box false (.p (.st 35 [.aO,.int .i64 0,.aO,.aO])),.arr .exact 0 2 [],.box false (.st 35 [.sl 2 0 2 0 0,.p (.int .i64 t.bt),.sl 6 m 4 0 (m+1),.p .aO]),.hole,.hole,.arr .grow m 4 ((t.bd.take (m+1)).map (AV.p∘eP))]⟩) (fun i=>i<=t.bd.length) (fun i=>t.bd.length-i) 0 (by simp) ?_
  rintro i q
  by_cases hi:i<t.bd.length
  ·have a:=aB.lT hi;rcases i with _|j
   ·have b:=rA a;simp[hi,a,o,ad];exact⟨by omega,rd 1 hi (hh:=by simp[b]) (hr2:=by simp[jB])⟩
   ·have h:a1.wrap ((j:Int)+1+1)=(j:Int)+1+1:=aM _ (by omega) (by omega);have hI:(j:Int)+1<t.bd.length:=by omega
    have b:=rz (f:=AV.p∘eP) a;simp[hi,hI,a,h,ad];exact⟨by omega,⟨by omega,by omega⟩,rd (j+2) hi (hh:=by simp at b;simp[b]) (hr2:=by simp[jB])⟩
  have r:i=t.bd.length:=by omega
  rcases i with _|j
  ·have n:t.bd=[]:=be.1 r.symm;simp[n,ad];refine lp (α:=Nat) (fun i=>match i with
     |0=>⟨[(32,.p (.int .i64 0)),(31,.p (.int .i64 t.aq.length)),(30,.p (.seq (t.aq.map bC))),(3,.ptr 3 []),(2,.ptr 1 []),(1,.ptr 0 [])],[.box false (.p (cS t)),.box false (.p (.st 35 [.aO,.int .i64 0,.aO,.aO])),.arr .exact 0 2 [],.box false (.st 35 [.sl 2 0 2 0 0,.p (.int .i64 t.bt),.p .aO,.p .aO])]⟩
     |m+1=>⟨[(32,.p (.int .i64 ((m+1:Nat):Int))),(31,.p (.int .i64 t.aq.length)),(30,.p (.seq (t.aq.map bC))),(3,.ptr 3 []),(2,.ptr 1 []),(1,.ptr 0 [])],[.box false (.p (cS t)),.box false (.p (.st 35 [.aO,.int .i64 0,.aO,.aO])),.arr .exact 0 2 [],.box false (.st 35 [.sl 2 0 2 0 0,.p (.int .i64 t.bt),.p .aO,.sl 6 m 3 0 (m+1)]),.hole,.hole,.arr .grow m 3 ((t.aq.take (m+1)).map (AV.p∘bC))]⟩) (fun i=>i<=t.aq.length) (fun i=>t.aq.length-i) 0 (by simp) ?_
   rintro i q
   by_cases hi:i<t.aq.length
   ·have a:=aB.dE hi;rcases i with _|j
    ·have b:=rA a;simp[hi,a,o,ad];exact⟨by omega,rd 1 hi (hh:=by simp[b]) (hr2:=by simp[jB])⟩
    ·have h:a1.wrap ((j:Int)+1+1)=(j:Int)+1+1:=aM _ (by omega) (by omega);have hI:(j:Int)+1<t.aq.length:=by omega
     have b:=rz (f:=AV.p∘bC) a;simp[hi,hI,a,h,ad];exact⟨by omega,⟨by omega,by omega⟩,rd (j+2) hi (hh:=by simp at b;simp[b]) (hr2:=by simp[jB])⟩
   have d:i=t.aq.length:=by omega
   rcases i with _|c
   ·have e:t.aq=[]:=be.1 d.symm;simp[e,ad];simp[cL,hc,n,e,nU,nT]
   ·have hI:¬((c:Int)+1<t.aq.length):=by omega
    have g:t.aq.take (c+1)=t.aq:=by rw[d,bl]
    simp[hI,g,ad];have l:(t.aq.map (AV.p∘bC)).take (c+1)=t.aq.map (AV.p∘bC):=bi (by simp;omega);simp[cL,hc,n,l,nU,nT];omega
  ·have hI:¬((j:Int)+1<t.bd.length):=by omega
   have g:t.bd.take (j+1)=t.bd:=by rw[r,bl]
   simp[hI,g,ad];refine lp (α:=Nat) (fun i=>match i with
    |0=>⟨[(32,.p (.int .i64 0)),(31,.p (.int .i64 t.aq.length)),(30,.p (.seq (t.aq.map bC))),(3,.ptr 3 []),(2,.ptr 1 []),(1,.ptr 0 [])],[.box false (.p (cS t)),.box false (.p (.st 35 [.aO,.int .i64 0,.aO,.aO])),.arr .exact 0 2 [],.box false (.st 35 [.sl 2 0 2 0 0,.p (.int .i64 t.bt),.sl 6 j 4 0 (j+1),.p .aO]),.hole,.hole,.arr .grow j 4 (t.bd.map (AV.p∘eP))]⟩
    |m+1=>⟨[(32,.p (.int .i64 ((m+1:Nat):Int))),(31,.p (.int .i64 t.aq.length)),(30,.p (.seq (t.aq.map bC))),(3,.ptr 3 []),(2,.ptr 1 []),(1,.ptr 0 [])],[.box false (.p (cS t)),.box false (.p (.st 35 [.aO,.int .i64 0,.aO,.aO])),.arr .exact 0 2 [],.box false (.st 35 [.sl 2 0 2 0 0,.p (.int .i64 t.bt),.sl 6 j 4 0 (j+1),.sl 9 m 3 0 (m+1)]),.hole,.hole,.arr .grow j 4 (t.bd.map (AV.p∘eP)),.hole,.hole,.arr .grow m 3 ((t.aq.take (m+1)).map (AV.p∘bC))]⟩) (fun i=>i<=t.aq.length) (fun i=>t.aq.length-i) 0 (by simp) ?_
   rintro i q
   by_cases hi:i<t.aq.length
   ·have a:=aB.dE hi;rcases i with _|j
    ·have b:=rA a;simp[hi,a,o,ad];exact⟨by omega,rd 1 hi (hh:=by simp[b]) (hr2:=by simp[jB])⟩
    ·have h:a1.wrap ((j:Int)+1+1)=(j:Int)+1+1:=aM _ (by omega) (by omega);have hI:(j:Int)+1<t.aq.length:=by omega
     have b:=rz (f:=AV.p∘bC) a;simp[hi,hI,a,h,ad];exact⟨by omega,⟨by omega,by omega⟩,rd (j+2) hi (hh:=by simp at b;simp[b]) (hr2:=by simp[jB])⟩
   have d:i=t.aq.length:=by omega
   rcases i with _|c
   ·have e:t.aq=[]:=be.1 d.symm;simp[e,ad];have k:(t.bd.map (AV.p∘eP)).take (j+1)=t.bd.map (AV.p∘eP):=bi (by simp;omega);simp[cL,hc,k,e,nU,nT];omega
   ·have hI:¬((c:Int)+1<t.aq.length):=by omega
    have g:t.aq.take (c+1)=t.aq:=by rw[d,bl]
    simp[hI,g,ad];have k:(t.bd.map (AV.p∘eP)).take (j+1)=t.bd.map (AV.p∘eP):=bi (by simp;omega);have l:(t.aq.map (AV.p∘bC)).take (c+1)=t.aq.map (AV.p∘bC):=bi (by simp;omega);simp[cL,hc,k,l,nU,nT];omega
 ·simp[hc];refine⟨⟨by repeat' first|rfl|apply ab,by repeat' first|rfl|apply ab⟩,?_⟩;refine lp (α:=Nat) (fun i=>match i with
    |0=>⟨[(18,.p (.int .i64 0)),(17,.p (.int .i64 t.bd.length)),(16,.p (.seq (t.bd.map eP))),(3,.ptr 4 []),(2,.ptr 1 []),(1,.ptr 0 [])],[.box false (.p (cS t)),.box false (.p (.st 35 [.aO,.int .i64 0,.aO,.aO])),.arr .exact 0 2 [],.arr .grow 0 2 (t.cs.map (AV.p∘cF)),.box false (.st 35 [.sl 3 0 2 0 t.cs.length,.p (.int .i64 t.bt),.p .aO,.p .aO])]⟩
    |m+1=>⟨[(18,.p (.int .i64 ((m+1:Nat):Int))),(17,.p (.int .i64 t.bd.length)),(16,.p (.seq (t.bd.map eP))),(3,.ptr 4 []),(2,.ptr 1 []),(1,.ptr 0 [])],[.box false (.p (cS t)),.box false (.p (.st 35 [.aO,.int .i64 0,.aO,.aO])),.arr .exact 0 2 [],.arr .grow 0 2 (t.cs.map (AV.p∘cF)),.box false (.st 35 [.sl 3 0 2 0 t.cs.length,.p (.int .i64 t.bt),.sl 7 m 4 0 (m+1),.p .aO]),.hole,.hole,.arr .grow m 4 ((t.bd.take (m+1)).map (AV.p∘eP))]⟩) (fun i=>i<=t.bd.length) (fun i=>t.bd.length-i) 0 (by simp) ?_
  rintro i q
  by_cases hi:i<t.bd.length
  ·have a:=aB.lT hi;rcases i with _|j
   ·have b:=rA a;simp[hi,a,o,ad];exact⟨by omega,rd 1 hi (hh:=by simp[b]) (hr2:=by simp[jB])⟩
   ·have h:a1.wrap ((j:Int)+1+1)=(j:Int)+1+1:=aM _ (by omega) (by omega);have hI:(j:Int)+1<t.bd.length:=by omega
    have b:=rz (f:=AV.p∘eP) a;simp[hi,hI,a,h,ad];exact⟨by omega,⟨by omega,by omega⟩,rd (j+2) hi (hh:=by simp at b;simp[b]) (hr2:=by simp[jB])⟩
  have r:i=t.bd.length:=by omega
  rcases i with _|j
  ·have n:t.bd=[]:=be.1 r.symm;simp[n,ad];refine lp (α:=Nat) (fun i=>match i with
     |0=>⟨[(32,.p (.int .i64 0)),(31,.p (.int .i64 t.aq.length)),(30,.p (.seq (t.aq.map bC))),(3,.ptr 4 []),(2,.ptr 1 []),(1,.ptr 0 [])],[.box false (.p (cS t)),.box false (.p (.st 35 [.aO,.int .i64 0,.aO,.aO])),.arr .exact 0 2 [],.arr .grow 0 2 (t.cs.map (AV.p∘cF)),.box false (.st 35 [.sl 3 0 2 0 t.cs.length,.p (.int .i64 t.bt),.p .aO,.p .aO])]⟩
     |m+1=>⟨[(32,.p (.int .i64 ((m+1:Nat):Int))),(31,.p (.int .i64 t.aq.length)),(30,.p (.seq (t.aq.map bC))),(3,.ptr 4 []),(2,.ptr 1 []),(1,.ptr 0 [])],[.box false (.p (cS t)),.box false (.p (.st 35 [.aO,.int .i64 0,.aO,.aO])),.arr .exact 0 2 [],.arr .grow 0 2 (t.cs.map (AV.p∘cF)),.box false (.st 35 [.sl 3 0 2 0 t.cs.length,.p (.int .i64 t.bt),.p .aO,.sl 7 m 3 0 (m+1)]),.hole,.hole,.arr .grow m 3 ((t.aq.take (m+1)).map (AV.p∘bC))]⟩) (fun i=>i<=t.aq.length) (fun i=>t.aq.length-i) 0 (by simp) ?_
   rintro i q
   by_cases hi:i<t.aq.length
   ·have a:=aB.dE hi;rcases i with _|j
    ·have b:=rA a;simp[hi,a,o,ad];exact⟨by omega,rd 1 hi (hh:=by simp[b]) (hr2:=by simp[jB])⟩
    ·have h:a1.wrap ((j:Int)+1+1)=(j:Int)+1+1:=aM _ (by omega) (by omega);have hI:(j:Int)+1<t.aq.length:=by omega
     have b:=rz (f:=AV.p∘bC) a;simp[hi,hI,a,h,ad];exact⟨by omega,⟨by omega,by omega⟩,rd (j+2) hi (hh:=by simp at b;simp[b]) (hr2:=by simp[jB])⟩
   have d:i=t.aq.length:=by omega
   rcases i with _|c
   ·have e:t.aq=[]:=be.1 d.symm;simp[e,ad];simp[cL,hc,n,e,nU,nT]
   ·have hI:¬((c:Int)+1<t.aq.length):=by omega
    have g:t.aq.take (c+1)=t.aq:=by rw[d,bl]
    simp[hI,g,ad];have l:(t.aq.map (AV.p∘bC)).take (c+1)=t.aq.map (AV.p∘bC):=bi (by simp;omega);simp[cL,hc,n,l,nU,nT];omega
  ·have hI:¬((j:Int)+1<t.bd.length):=by omega
   have g:t.bd.take (j+1)=t.bd:=by rw[r,bl]
   simp[hI,g,ad];refine lp (α:=Nat) (fun i=>match i with
    |0=>⟨[(32,.p (.int .i64 0)),(31,.p (.int .i64 t.aq.length)),(30,.p (.seq (t.aq.map bC))),(3,.ptr 4 []),(2,.ptr 1 []),(1,.ptr 0 [])],[.box false (.p (cS t)),.box false (.p (.st 35 [.aO,.int .i64 0,.aO,.aO])),.arr .exact 0 2 [],.arr .grow 0 2 (t.cs.map (AV.p∘cF)),.box false (.st 35 [.sl 3 0 2 0 t.cs.length,.p (.int .i64 t.bt),.sl 7 j 4 0 (j+1),.p .aO]),.hole,.hole,.arr .grow j 4 (t.bd.map (AV.p∘eP))]⟩
    |m+1=>⟨[(32,.p (.int .i64 ((m+1:Nat):Int))),(31,.p (.int .i64 t.aq.length)),(30,.p (.seq (t.aq.map bC))),(3,.ptr 4 []),(2,.ptr 1 []),(1,.ptr 0 [])],[.box false (.p (cS t)),.box false (.p (.st 35 [.aO,.int .i64 0,.aO,.aO])),.arr .exact 0 2 [],.arr .grow 0 2 (t.cs.map (AV.p∘cF)),.box false (.st 35 [.sl 3 0 2 0 t.cs.length,.p (.int .i64 t.bt),.sl 7 j 4 0 (j+1),.sl 10 m 3 0 (m+1)]),.hole,.hole,.arr .grow j 4 (t.bd.map (AV.p∘eP)),.hole,.hole,.arr .grow m 3 ((t.aq.take (m+1)).map (AV.p∘bC))]⟩) (fun i=>i<=t.aq.length) (fun i=>t.aq.length-i) 0 (by simp) ?_
   rintro i q
   by_cases hi:i<t.aq.length
   ·have a:=aB.dE hi;rcases i with _|j
    ·have b:=rA a;simp[hi,a,o,ad];exact⟨by omega,rd 1 hi (hh:=by simp[b]) (hr2:=by simp[jB])⟩
    ·have h:a1.wrap ((j:Int)+1+1)=(j:Int)+1+1:=aM _ (by omega) (by omega);have hI:(j:Int)+1<t.aq.length:=by omega
     have b:=rz (f:=AV.p∘bC) a;simp[hi,hI,a,h,ad];exact⟨by omega,⟨by omega,by omega⟩,rd (j+2) hi (hh:=by simp at b;simp[b]) (hr2:=by simp[jB])⟩
   have d:i=t.aq.length:=by omega
   rcases i with _|c
   ·have e:t.aq=[]:=be.1 d.symm;simp[e,ad];have k:(t.bd.map (AV.p∘eP)).take (j+1)=t.bd.map (AV.p∘eP):=bi (by simp;omega);simp[cL,hc,k,e,nU,nT];omega
   ·have hI:¬((c:Int)+1<t.aq.length):=by omega
    have g:t.aq.take (c+1)=t.aq:=by rw[d,bl]
    simp[hI,g,ad];have k:(t.bd.map (AV.p∘eP)).take (j+1)=t.bd.map (AV.p∘eP):=bi (by simp;omega);have l:(t.aq.map (AV.p∘bC)).take (c+1)=t.aq.map (AV.p∘bC):=bi (by simp;omega);simp[cL,hc,k,l,nU,nT];omega
def fC(r:Int)(a b:V2):Int:=dJ ((a.sub b).dot (a.sub b)) (pV r)
def gM(t:aB)(bef:List cH)(s:cH):Int:=
 if isName s.name=false then 8
 else if bef.any (fun o=>decide (o.name=s.name))=true then 9
 else if dU s.pt≠0 then dU s.pt
 else if t.on (vP s.pt)<0 then 16
 else if bef.any (fun o=>decide (fC t.bt (vP o.pt) (vP s.pt)<0))=true then 17 else 0
def l9(t b:aB):Int:=if 24<b.aq.length then 5 else jA (gM t) b.aq
def fu(t b:aB):Int:=if gp t≠0 then gp t else l9 t b
structure kV(b:aB):Prop where
 sl:b.aq.length<=1000000
 sp:∀s∈b.aq,mJ s
theorem vV{t:aB}(h:gp t=0):1<=t.bt/\t.bt<=1000:=by
 rw[gp]at h
 split at h
 ·omega
 split at h
 ·omega
 split at h
 ·omega
 split at h
 ·omega
 split at h
 ·omega
 omega
theorem kX{s:gX}(h:dU s=0):eV (vP s)=fZ s/\cX 2000 (vP s):=by
 obtain⟨g1,g2⟩:=iL h;refine⟨?_,fV g1,fV g2⟩;rw[eV,vP];dsimp only;rw[(jn g1).1,(jn g2).1]
theorem P5(t:aB)(a:0<=t.bt)(b:t.bt<=1000000):az prog 209 [cS t] (.str (bH (pV t.bt))):=by
 have f:=xT a b;have c:=B4 (4*t.bt*t.bt) (by omega) (by omega);have d:a1.wrap (4*t.bt)=4*t.bt:=aM _ (by omega) (by omega);have e:a1.wrap (4*t.bt*t.bt)=4*t.bt*t.bt:=aM _ (by omega) (by omega);refine aL nf DV mix (by simp[f209]) ?_;rw[pV];simp[f209,ad,d,e];refine c1 c ?_;simp
theorem Ey(t:aB)(a b:V2)(d:0<=t.bt)(e:t.bt<=1000000)(f:cX 2000 a)(g:cX 2000 b):az prog 128 [cS t,eV a,eV b] (.int .i64 (fC t.bt a b)):=by
 have c:=lO f g;have k1:=yT a b (f.mono (by decide)) (g.mono (by decide));have k2:=FU (a.sub b) (c.mono (by decide));have k3:=P5 t d e;have k4:=rB ((a.sub b).dot (a.sub b)) (pV t.bt) ((zU c c).mono (by decide)) ((FR d e).mono (by decide));refine aL nf FF mix (by simp[f128]) ?_;rw[fC];simp[f128,ad];refine e2 k1 ?_;simp[ad];refine e1 k2 ?_;simp[ad];refine e1 k3 ?_;simp[ad];refine e2 k4 ?_;simp[ad]
theorem D2{α:Type}{f:α->Bool}{l:List α}{i j:Nat}{x:α}(h:l[j]?=some x)(a:j<i)(hf:f x=true):(l.take i).any f=true:=by
 rw[b4];exact⟨x,bv (i:=j) (by rw[List.getElem?_take,if_pos a];exact h),hf⟩
theorem zG{t:aB}{a:List cH}{s:cH}(h:gM t a s=0):dU s.pt=0:=by
 rw[gM]at h
 split at h
 ·omega
 split at h
 ·omega
 split at h
 ·contradiction
 ·rename_i g;exact Decidable.not_not.1 g
theorem P6(t b:aB)(v:gp t=0)(z:kV b)(A:t.cs.length<=1000000):az prog 120 [cS t,.seq (b.aq.map bC)] (.int .i64 (l9 t b)):=by
 obtain⟨P,C⟩:=z;obtain⟨_,_,B,_⟩:=Dx v;obtain⟨Q,R⟩:=vV v;refine aL nf Mw mix (by simp[f120]) ?_;rw[l9]
 by_cases c4:24<b.aq.length
 ·have cI:(24:Int)<b.aq.length:=by omega
  rw[if_pos c4];simp[f120,ad,cI]
 have x:¬(24:Int)<b.aq.length:=by omega
 rw[if_neg c4];simp[f120,ad,x];refine lp (α:=Nat) (fun i=>⟨[(5,.p (.int .i64 i)),(2,.ptr 0 []),(1,.p (.seq (b.aq.map bC)))],[.box false (.p (cS t))]⟩) (fun i=>i<=b.aq.length/\∀j,j<i->gu (gM t) b.aq j=0) (fun i=>b.aq.length-i) 0 (by simp) ?_;rintro i ⟨s1,s2⟩
 by_cases hs:i<b.aq.length
 case neg=>
  have:i=b.aq.length:=by omega
  subst this;rw[py.2 s2];simp[ad]
 have a:=aB.dE hs;have D:=b8 (i:=i) (by omega);obtain⟨I,J⟩:=C _ (bv a);have g:=zy (b.sp i).name I.1;have y:=FQ (b.sp i).pt J;have e:gM t (b.aq.take i) (b.sp i)≠0->jA (gM t) b.aq=gM t (b.aq.take i) (b.sp i):=ry s2 a;have H:gM t (b.aq.take i) (b.sp i)=0->∀j,j<i+1->gu (gM t) b.aq j=0:=ru s2 a;have M:∀j,j<i->dU (b.sp j).pt=0:=fun j c=>by
  have:=s2 j c;rw[gu,aB.dE (by omega)]at this;exact zG this
 have ev:gM t (b.aq.take i) (b.sp i)=if isName (b.sp i).name=false then 8 else if(b.aq.take i).any (fun o=>decide (o.name=(b.sp i).name))=true then 9 else if dU (b.sp i).pt≠0 then dU (b.sp i).pt else if t.on (vP (b.sp i).pt)<0 then 16 else if(b.aq.take i).any (fun o=>decide (fC t.bt (vP o.pt) (vP (b.sp i).pt)<0))=true then 17 else 0:=rfl
 clear s2;generalize gM t (b.aq.take i) (b.sp i)=E at*;generalize jA (gM t) b.aq=N at*;cases m:isName (b.sp i).name
 ·rw[m]at g;rw[m,if_pos rfl]at ev;rw[e (by rw[ev];decide),ev];simp[hs,a,ad];refine Go.aw.c1 g ?_;simp[ad]
 rw[m]at g;rw[m,if_neg (by decide)]at ev;simp[hs,a,ad];refine Go.aw.c1 g ?_;simp[ad];refine lp (α:=Nat) (fun k=>⟨[(6,.p (.int .i64 k)),(5,.p (.int .i64 i)),(2,.ptr 0 []),(1,.p (.seq (b.aq.map bC)))],[.box false (.p (cS t))]⟩) (fun k=>k<=i/\(b.aq.take k).any (fun o=>decide (o.name=(b.sp i).name))=false) (fun k=>i-k) 0 (by simp) ?_;rintro k ⟨k1,k2⟩
 by_cases hk:k<i
 ·have s:k<b.aq.length:=by omega
  have gk:=aB.dE s;have G:=b8 (i:=k) (by omega)
  by_cases l:(b.sp k).name=(b.sp i).name
  ·rw[if_pos (D2 gk hk (by simp[l]))]at ev;rw[e (by rw[ev];decide),ev];simp[hs,hk,s,gk,a,l,ad]
  ·simp[hs,hk,s,gk,a,l,G,ad];exact rd (k+1) ⟨hk,by rw[tE gk,k2];simp[l]⟩
 have:k=i:=by omega
 subst this;rw[k2,if_neg (by decide)]at ev;clear k1 k2 hk;have d0:¬k<k:=by omega
 simp[d0,hs,a,ad];refine Go.aw.c1 y ?_
 by_cases d:dU (b.sp k).pt=0
 case neg=>
  rw[if_pos d]at ev;rw[e (by rw[ev];exact d),ev];simp[d,ad]
 rw[if_neg (by simp[d])]at ev;obtain⟨pl,ok⟩:=kX d;have u:=MH t (vP (b.sp k).pt) A B (ok.mono (by decide));rw[pl]at u;simp[d,hs,a,ad];refine Go.aw.e2 u ?_
 by_cases n:t.on (vP (b.sp k).pt)<0
 ·rw[if_pos n]at ev;rw[e (by rw[ev];decide),ev];simp[n,ad]
 rw[if_neg n]at ev;simp[n,ad];refine lp (α:=Nat) (fun j=>⟨[(8,.p (.int .i64 j)),(5,.p (.int .i64 k)),(2,.ptr 0 []),(1,.p (.seq (b.aq.map bC)))],[.box false (.p (cS t))]⟩) (fun j=>j<=k/\(b.aq.take j).any (fun o=>decide (fC t.bt (vP o.pt) (vP (b.sp k).pt)<0))=false) (fun j=>k-j) 0 (by simp) ?_;rintro j ⟨O,w⟩
 by_cases c:j<k
 ·have r:j<b.aq.length:=by omega
  have f:=aB.dE r;have F:=b8 (i:=j) (by omega);obtain⟨L,K⟩:=kX (M j c);have q:=Ey t (vP (b.sp j).pt) (vP (b.sp k).pt) (by omega) (by omega) K ok;rw[pl,L]at q
  by_cases h:fC t.bt (vP (b.sp j).pt) (vP (b.sp k).pt)<0
  ·rw[if_pos (D2 f c (by simp[h]))]at ev;rw[e (by rw[ev];decide),ev];simp[hs,c,r,f,a,ad];refine Go.aw.e3 q ?_;simp[h,ad]
  ·simp[hs,c,r,f,a,ad];refine Go.aw.e3 q ?_;simp[h,F,ad];exact rd (j+1) ⟨c,by rw[tE f,w];simp[h]⟩
 have:j=k:=by omega
 subst this;rw[w,if_neg (by decide)]at ev;simp[d0,D,ad];exact rd (j+1) ⟨hs,H ev⟩
theorem PW(t b:aB)(a:l8 t)(c:kV b):az prog 36 [cS t,.seq (b.aq.map bC)] (.int .i64 (fu t b)):=by
 have k1:=Pm t a;refine aL nf Nv mix (by simp[f36]) ?_;rw[fu]
 by_cases h:gp t=0
 ·rw[if_neg (by simp[h])];have k2:=P6 t b h c a.cl;rw[h]at k1;simp[f36,ad];refine Go.aw.c1 k1 ?_;simp[ad];refine Go.aw.c2 k2 ?_;simp[ad]
 ·rw[if_pos h];generalize gp t=e at*;simp[f36,ad];refine Go.aw.c1 k1 ?_;simp[h,ad]
open Go.Proofs Go.Proofs.YtgpphcmkjhklgaaGreatDoor
section
variable{H:Type}{W:ax}{aa:Nat->Prop}
theorem aCu:∃a b:Field,prog.underlying 182=some (.struct #[a,b])/\a.type=9/\b.type=42:=⟨_,_,underlying182,rfl,rfl⟩
theorem OU:prog.underlyingId 182=74:=by kernel_rfl
theorem PX{m n:Nat}(s:m=n+2){d:DataW H}(h:∃cs,aS prog W aa (bD prog (m+1) 182 d) cs)(o:Rows.uptoBulk d<=1048576):∃p:cH,bD prog (m+1) 182 d=bC p/\mJ p/\2<=Rows.uptoBulk d:=by
 obtain⟨cs,h⟩:=h;obtain⟨f0,f1,g,t0,t1⟩:=aCu;cases d with
 |agg l=>
  have f:∀x∈l,Rows.uptoBulk x<=1048576:=fun x hx=>by
   have:=qP.vc hx;rw[Rows.uptoBulk]at o;omega
  simp only[bD,g,aS]at h⊢;obtain⟨u,t,e,c,_⟩:=h;rw[OU,OQ]at e;cases e
  match l,c with
  |[],c=>simp[aY]at c
  |[x],c=>simp[aY]at c
  |x::y::r,c=>
   have:=vL x;simp only[List.zip_cons_cons,b1,aY,List.zip_nil_left,List.map_nil,t0,t1]at c⊢;obtain⟨c0,_,_,g1,_,c1,_,_,g2,_⟩:=c;subst s;obtain⟨a,i,k⟩:=zC (n:=n+1) ⟨c0,g1⟩ (f x (by simp));obtain⟨b,j,q⟩:=Hv (n:=n) ⟨c1,g2⟩ (f y (by simp));refine⟨⟨a,b⟩,by rw[i,j,OU];rfl,⟨k,q⟩,?_⟩;rw[Rows.uptoBulk,Rows.uptoBulkAll];omega
 |_=>simp only[bD,g,aS]at h
theorem Qi{d:DataW H}(h:∃cs,aS prog W aa (bD prog 8 62 d) cs)(a:Rows.uptoBulk d<=1048576):∃b:aB,bD prog 8 62 d=.seq (b.aq.map bC)/\True/\kV b:=by
 obtain⟨b,c,e,g⟩:=vR (n:=7) aCs (F:=bC) (ok:=mJ) (fun d f a=>PX (n:=4) rfl f a) h a;exact⟨⟨[],0,[],b⟩,c,trivial,g,e⟩
end
namespace Hk
mutual
def ri:PV->PV->Bool
 | .int .i64 a,.int .i64 b=>nK a b
 | .int .u64 a,.int .u64 b=>nK a b
 | .bool a,.bool b=>a==b
 | .str a,.str b=>rh a b
 | .aO,.aO=>true
 | .fa,.fa=>true
 | .bI f a,.bI g b=>bif f==g then kN a b else false
 | .seq a,.seq b=>kN a b
 | .eE a,.eE b=>tq a b
 | .st u a,.st v b=>bif ck u v then kN a b else false
 | .aE a,.aE b=>kN a b
 | .func f a b,.func g c d=>bif ck f g then(bif kN a c then kN b d else false)else false
 | .bY a,.bY b=>ri a b
 |_,_=>false
def kN:List PV->List PV->Bool
 |[],[]=>true
 |a::l,b::m=>bif ri a b then kN l m else false
 |_,_=>false
def tq:List (PV×PV)->List (PV×PV)->Bool
 |[],[]=>true
 |(a,c)::l,(b,d)::m=>bif ri a b then(bif ri c d then tq l m else false)else false
 |_,_=>false
end
mutual
theorem uE:∀{a b:PV},ri a b=true->a=b
 |a,b,h=>by
  unfold ri at h
  split at h
  ·rw[yr h]
  ·rw[yr h]
  ·rw[eq_of_beq h]
  ·rw[Bv h]
  ·rfl
  ·rfl
  ·rename_i f a g b;cases hf:f==g
   ·rw[hf]at h;cases h
   ·rw[hf,cond_true]at h;rw[eq_of_beq hf,oD h]
  ·rw[oD h]
  ·rw[JY h]
  ·simp only[ac]at h
   split at h
   ·rename_i i;rw[ce i,oD h]
   ·cases h
  ·rw[oD h]
  ·simp only[ac]at h
   split at h
   ·rename_i i
    split at h
    ·rename_i e;rw[ce i,oD e,oD h]
    ·cases h
   ·cases h
  ·rw[uE h]
  ·cases h
theorem oD:∀{a b:List PV},kN a b=true->a=b
 |[],[],_=>rfl
 |[],_::_,h=>by simp[kN]at h
 |_::_,[],h=>by simp[kN]at h
 |a::l,b::m,h=>by
  simp only[kN,ac]at h
  split at h
  ·rename_i e;rw[uE e,oD h]
  ·cases h
theorem JY:∀{a b:List (PV×PV)},tq a b=true->a=b
 |[],[],_=>rfl
 |[],_::_,h=>by simp[tq]at h
 |_::_,[],h=>by simp[tq]at h
 |(a,c)::l,(b,d)::m,h=>by
  simp only[tq,ac]at h
  split at h
  ·rename_i e
   split at h
   ·rename_i j;rw[uE e,uE j,JY h]
   ·cases h
  ·cases h
end
def sM:List (av×List PV×PV)->av->List PV->Option PV
 |[],f,vs=>hk f vs
 |(g,us,v)::r,f,vs=>bif ck g f then(bif kN us vs then some v else sM r f vs)else sM r f vs
def kP:List (av×List PV×PV)->Prop
 |[]=>True
 |(g,us,v)::r=>az prog g us v/\kP r
theorem Aj:∀{l m:List (av×List PV×PV)},kP l->kP m->kP (l++m)
 |[],_,_,h=>h
 |_::_,_,h,a=>⟨h.1,Aj h.2 a⟩
theorem xt:∀{l:List (av×List PV×PV)},kP l->∀f vs v,sM l f vs=some v->az prog f vs v
 |[],_,f,vs,v,h=>X1 h
 |(g,us,w)::r,a,f,vs,v,h=>by
  simp only[sM,ac]at h
  split at h
  ·rename_i b
   split at h
   ·rename_i hs;simp only[dg]at h;subst h;rw[<-oD hs,<-ce b];exact a.1
   ·exact xt a.2 f vs v h
  ·exact xt a.2 f vs v h
def C1(v:PV):Option PV->Bool
 |some w=>ri v w
 |none=>false
theorem E3{v:PV}{o:Option PV}(h:C1 v o=true):o=some v:=by
 cases o with
 |none=>cases h
 |some w=>rw[uE h]
def aAa:av->av->Nat:=fun _ _=>0
theorem fL(l:List (av×List PV×PV))(a:kP l){f:av}{vs:List PV}{v:PV}(h:C1 v (OJ (sM l) aAa f vs)=true):az prog f vs v:=Ko (xt a) (E3 h)
end Hk
end Go.aw
namespace Go.Proofs
open Go.Shelf
def Tryz.Fu:bb:=⟨fun|156=>226|165=>279|166=>151|169=>229|240=>225|241=>322|276=>278|277=>361|n=>n,fun|31=>287|9=>9|3=>3|4=>4|0=>0|20=>20|72=>225|76=>228|70=>222|37=>223|75=>227|127=>329|164=>325|5=>5|80=>289|n=>n,fun|n=>n⟩
theorem Tryz.Fi:Go.Proofs.Lays.n156 prog Fu:={
 mixed:=by kernel_rfl
 f156:=func226.trans (congrArg some (by kernel_rfl))
 f165:=func279.trans (congrArg some (by kernel_rfl))
 f166:=func151.trans (congrArg some (by kernel_rfl))
 f169:=func229.trans (congrArg some (by kernel_rfl))
 f240:=func225.trans (congrArg some (by kernel_rfl))
 f241:=func322.trans (congrArg some (by kernel_rfl))
 f276:=func278.trans (congrArg some (by kernel_rfl))
 f277:=func361.trans (congrArg some (by kernel_rfl))
 t0:=underlying0
 a0:=isAgg0
 z0:=sizeOf0
 v0:=zeroValue0
 t3:=underlying3
 a3:=isAgg3
 z3:=sizeOf3
 v3:=zeroValue3
 t4:=underlying4
 a4:=isAgg4
 z4:=sizeOf4
 v4:=zeroValue4
 t9:=underlying9
 a9:=isAgg9
 z9:=sizeOf9
 v9:=zeroValue9
 t20:=underlying20
 a20:=isAgg20
 z20:=sizeOf20
 v20:=zeroValue20
 t31:=underlying287
 a31:=isAgg287
 z31:=sizeOf287
 v31:=zeroValue287
 t37:=underlying223
 a37:=isAgg223
 z37:=sizeOf223
 v37:=zeroValue223
 t70:=underlying222
 a70:=isAgg222
 z70:=sizeOf222
 v70:=zeroValue222
 t72:=underlying225
 a72:=isAgg225
 z72:=sizeOf225
 v72:=zeroValue225
 t75:=underlying227
 a75:=isAgg227
 z75:=sizeOf227
 v75:=zeroValue227
 t76:=underlying228
 a76:=isAgg228
 z76:=sizeOf228
 v76:=zeroValue228
 t127:=underlying329
 a127:=isAgg329
 z127:=sizeOf329
 v127:=zeroValue329
 t164:=underlying325
 a164:=isAgg325
 z164:=sizeOf325
 v164:=zeroValue325}
theorem Tryz.Ft:Builder.Extra prog Fu:={
 sizeBuilder:=by kernel_rfl
 liesBuilder:=by kernel_rfl
 t5:=underlying5
 a5:=isAgg5
 z5:=sizeOf5
 v5:=zeroValue5
 infoByte:=by kernel_rfl
 cellsByte:=by kernel_rfl
 sizeByte:=by kernel_rfl
 neB5:=by decide}
open Go.RowKit in
theorem Tryz.strings_Join_none(a:Option Addr)(c:Nat)(sep:ByteArray)(w:ax):
 ay prog 226 #[.slice a 0 c,.string sep] w fun e w'=>e=.returned (.string ⟨#[]⟩)/\w'=w:=Any.strings_Join_none Fi Ft a c sep w
open Go.RowKit in
theorem Tryz.strings_Join(bk o c:Nat)(xs:List ByteArray)(sep:ByteArray)(w:ax)(hcells:∀(j:Nat) x,xs[j]?=some x->w.cell? ⟨bk,o+j,none⟩=some (.string x))(hbk:bk<w.heap.size)(hN:xs.length<=140737488355328)(hcap:xs.length<=c)(hlen:(a8 (xs.map (·.data.toList)) sep.data.toList).length<=140737488355328):
 ay prog 226 #[.slice (some ⟨bk,o,none⟩) xs.length c,.string sep] w fun e w'=>e=.returned (.string ⟨(a8 (xs.map (·.data.toList)) sep.data.toList).toArray⟩)/\Below w.heap.size w w':=Any.strings_Join Fi Ft bk o c xs sep w hcells hbk hN hcap hlen
def Tryz.Qh:bb:=⟨fun|106=>224|213=>277|265=>321|n=>n,fun|9=>9|3=>3|n=>n,fun|n=>n⟩
theorem Tryz.ayJ:Go.Proofs.Lays.n106 prog Qh:={
 mixed:=by kernel_rfl
 f106:=func224.trans (congrArg some (by kernel_rfl))
 f213:=func277.trans (congrArg some (by kernel_rfl))
 f265:=func321.trans (congrArg some (by kernel_rfl))
 t3:=underlying3
 a3:=isAgg3
 z3:=sizeOf3
 v3:=zeroValue3
 t9:=underlying9
 a9:=isAgg9
 z9:=sizeOf9
 v9:=zeroValue9}
open Go.RowKit in
theorem Tryz.strings_Compare(a b:ByteArray)(w:ax):
 ay prog 224 #[.string a,.string b] w fun e w'=>e=.returned (.int .i64 (a7 a.data.toList b.data.toList))/\w'=w:=Any.strings_Compare ayJ a b w
def Tryz.Qg:bb:=⟨fun|138=>328|195=>366|218=>368|143=>329|219=>296|217=>343|225=>344|224=>345|267=>346|266=>373|314=>374|n=>n,fun|9=>9|3=>3|4=>4|5=>5|0=>0|46=>323|146=>400|51=>355|n=>n,fun|1=>0|n=>n⟩
theorem Tryz.ayU:Go.Proofs.Lays.n138 prog Qg:={
 mixed:=by kernel_rfl
 f138:=func328.trans (congrArg some (by kernel_rfl))
 f143:=func329.trans (congrArg some (by kernel_rfl))
 f195:=func366.trans (congrArg some (by kernel_rfl))
 f217:=func343.trans (congrArg some (by kernel_rfl))
 f218:=func368.trans (congrArg some (by kernel_rfl))
 f219:=func296.trans (congrArg some (by kernel_rfl))
 f224:=func345.trans (congrArg some (by kernel_rfl))
 f225:=func344.trans (congrArg some (by kernel_rfl))
 f266:=func373.trans (congrArg some (by kernel_rfl))
 f267:=func346.trans (congrArg some (by kernel_rfl))
 f314:=func374.trans (congrArg some (by kernel_rfl))
 t0:=underlying0
 a0:=isAgg0
 z0:=sizeOf0
 v0:=zeroValue0
 t3:=underlying3
 a3:=isAgg3
 z3:=sizeOf3
 v3:=zeroValue3
 t4:=underlying4
 a4:=isAgg4
 z4:=sizeOf4
 v4:=zeroValue4
 t5:=underlying5
 a5:=isAgg5
 z5:=sizeOf5
 v5:=zeroValue5
 t9:=underlying9
 a9:=isAgg9
 z9:=sizeOf9
 v9:=zeroValue9
 t46:=underlying323
 a46:=isAgg323
 z46:=sizeOf323
 v46:=zeroValue323
 t51:=underlying355
 a51:=isAgg355
 z51:=sizeOf355
 v51:=zeroValue355
 t146:=underlying400
 a146:=isAgg400
 z146:=sizeOf400
 v146:=zeroValue400
 g1:=by kernel_rfl}
open Go.RowKit Go.Lib in
theorem Tryz.strings_Count_one(s:ByteArray)(c:UInt8)(w:ax):
 ay prog 328 #[.string s,.string ⟨#[c]⟩] w fun e w'=>e=.returned (.int .i64 (a6 s.data.toList c))/\w'=w:=Any.strings_Count_one ayU s c w
end Go.Proofs
namespace Go.Proofs
def Tryz.E9:bb:=⟨fun|4=>272|n=>n,fun|22=>22|25=>108|3=>3|4=>4|9=>9|20=>20|0=>0|2=>3|n=>n,fun|n=>n⟩
theorem Tryz.XX:Go.Proofs.Lays8.n4 prog E9:={
 mixed:=by kernel_rfl
 f4:=⟨f272.name,by decide,func272.trans (congrArg some (by kernel_rfl))⟩
 t0:=underlying0
 a0:=isAgg0
 z0:=sizeOf0
 v0:=zeroValue0
 t3:=underlying3
 a3:=isAgg3
 z3:=sizeOf3
 v3:=zeroValue3
 t4:=underlying4
 a4:=isAgg4
 z4:=sizeOf4
 v4:=zeroValue4
 t9:=underlying9
 a9:=isAgg9
 z9:=sizeOf9
 v9:=zeroValue9
 t20:=underlying20
 a20:=isAgg20
 z20:=sizeOf20
 v20:=zeroValue20
 t22:=underlying22
 a22:=isAgg22
 z22:=sizeOf22
 v22:=zeroValue22}
end Go.Proofs
namespace Go.aw
open Go.Proofs
def kY(a:List Nat):List (List Nat)->List Nat
 |[]=>[]
 |[s]=>s
 |s::r=>s++a++kY a r
theorem E8(b:List UInt8):∀(c:List (List UInt8)),kY (cN b) (c.map cN)=cN (a8 c b)
 |[]=>by simp[kY,Lib.join_nil,cN]
 |[x]=>by simp[kY,Lib.join_one]
 |x::y::r=>by
  have a:=E8 b (y::r);rw[Lib.join_cons]at a⊢;simp only[b1]at a⊢;rw[kY,a]
  ·simp[cN,Lib.joinTail]
  ·simp
theorem Fg{w:ax}{aa:Nat->Prop}:∀{l:List (List Nat)}{e:List Nat}{a:List (List Value)},aY prog w aa e (l.map .str) a->
 ∃d:List ByteArray,a.flatten=d.map .string/\l=d.map (fun b=>cN b.data.toList)
 |[],e,a,h=>by
  have:=tQ h;subst this;exact⟨[],by simp,by simp⟩
 |s::l,[],a,h=>by simp[aY]at h
 |s::l,n::e,a,h=>by
  simp only[b1,aY,aS]at h;obtain⟨c,cs,rfl,⟨bs,rfl,f⟩,_,g⟩:=h;obtain⟨d,g1,g2⟩:=Fg g;exact⟨bs::d,by simp[g1],by simp[g2,f,cN]⟩
theorem Wx(full:Bool)(l:List (List Nat))(d:List Nat)(F:l.length<=140737488355328)(k:(kY d l).length<=140737488355328):az prog 226 [.bI full (l.map .str),.str d] (.str (kY d l)):=by
 refine jk (iy func226 (by kernel_rfl)) fun w aa B t E s=>?_;obtain⟨x,y,rfl,f,g⟩:=mf s;simp only[aA]at f g;obtain⟨sp,rfl,rfl⟩:=g;obtain⟨ak,off,cap,ai,C,p,q,h,D,i,o,A,rfl⟩:=f;obtain⟨xs,g1,g2⟩:=Fg p;have b:(l.map PV.str).length=xs.length:=by rw[g2];simp
 cases c:xs with
 |nil=>
  subst c;have v:l=[]:=by simpa using g2
  subst v;refine(strings_Join_none (some ⟨ak,off,o⟩) cap sp w).mono ?_;rintro e w' ⟨rfl,rfl⟩;exact⟨_,rfl,⟨cx _,fun _ _=>rfl,rfl,rfl⟩,fun w aa=>by simpa[kY,cN]using sD (P:=prog) (w:=w) (aa:=aa) []⟩
 |cons G r=>
  have z:l.map PV.str≠[]:=by rw[g2,c];simp
  obtain rfl:o=none:=A.resolve_right (by rw[b,c]at i;simp at i;omega);have m:=E8 sp.data.toList (xs.map (·.data.toList))
  have e2:(xs.map (·.data.toList)).map cN=l:=by rw[g2];simp
  rw[e2]at m;have n:kY (sp.data.toList.map (·.toNat)) l=cN (a8 (xs.map (·.data.toList)) sp.data.toList):=m
  rw[b];refine(strings_Join ak off cap xs sp w (fun j x hx=>?_) (t _ (q z)) (by simp at b;omega) (by omega) ?_).mono ?_
  ·have u:j<xs.length:=(b0.1 hx).1;rw[g1]at h;have:=h j (by simpa using u);rw[this];simp[(b0.1 hx).2]
  ·rw[n]at k;simpa[cN]using k
  ·rintro e w' ⟨rfl,a⟩;exact⟨_,rfl,⟨a.size,a.block,a.os,a.output⟩,fun w aa=>by rw[n];exact sD _⟩
def qR(c:Nat):List Nat->Nat->Nat
 |[],n=>n
 |x::r,n=>bif ck x c then qR c r (n+1)else qR c r n
theorem Fe(c:UInt8):∀(l:List UInt8)(n:Nat),qR c.toNat (cN l) n=n+a6 l c
 |[],n=>by simp[qR,cN,a6]
 |x::r,n=>by
  have a:=Fe c r;simp only[cN]at a;simp only[cN,b1,qR,a6,List.count_cons]
  by_cases hx:x=c
  ·subst hx;simp[a,a6];omega
  ·have d:ck x.toNat c.toNat=false:=by
    cases b:ck x.toNat c.toNat
    ·rfl
    ·exact(hx (UInt8.toNat_inj.1 (ce b))).elim
   simp[d,a,a6,hx]
theorem Wr(s:List Nat)(c:Nat):az prog 328 [.str s,.str [c]] (.int .i64 (qR c s 0:Nat)):=by
 refine jk (iy func328 (by kernel_rfl)) fun w aa g _ _ f=>?_;obtain⟨x,y,rfl,a,d⟩:=mf f;obtain⟨b,rfl,rfl⟩:=one_byte d;obtain⟨bs,rfl,rfl⟩:=mv a;refine(strings_Count_one bs b w).mono ?_;rintro e w' ⟨rfl,rfl⟩;refine⟨_,rfl,⟨cx _,fun _ _=>rfl,rfl,rfl⟩,fun w aa=>?_⟩;have e1:=Fe b bs.data.toList 0;simp only[aA]at e1⊢;rw[e1];simp
def vk:List Nat->List Nat->Int
 |[],[]=>0
 |[],_::_=>-1
 |_::_,[]=>1
 |a::r,b::t=>bif cy a b then -1 else bif cy b a then 1 else vk r t
theorem Ff:∀a b:List UInt8,vk (cN a) (cN b)=a7 a b
 |[],[]=>rfl
 |[],_::_=>rfl
 |_::_,[]=>rfl
 |a::r,b::t=>by
  have e:=Ff r t;simp only[cN,b1,vk,a7]at e⊢;have e1:cy a.toNat b.toNat=decide (a<b):=by
   rw[ao,da,decide_eq_true_eq,UInt8.lt_iff_toNat_lt]
  have e2:cy b.toNat a.toNat=decide (b<a):=by
   rw[ao,da,decide_eq_true_eq,UInt8.lt_iff_toNat_lt]
  rw[e1,e2,e]
  by_cases c:a<b
  ·simp[c]
  ·by_cases d:b<a
   ·simp[c,d]
   ·simp[c,d]
theorem Wq(a b:List Nat):az prog 224 [.str a,.str b] (.int .i64 (vk a b)):=by
 refine jk (iy func224 (by kernel_rfl)) fun w aa g _ _ f=>?_;obtain⟨x,y,rfl,c,d⟩:=mf f;obtain⟨bs,rfl,rfl⟩:=mv c;obtain⟨cs,rfl,rfl⟩:=mv d;refine(strings_Compare bs cs w).mono ?_;rintro e w' ⟨rfl,rfl⟩;exact⟨_,rfl,⟨cx _,fun _ _=>rfl,rfl,rfl⟩,fun w aa=>by rw[Ff];simp only[aA]⟩
def rq:PV:=.st 107 [.int .i64 0,.int .i64 0]
theorem XP{H:Heap}(n:Nat)(N:1<=n)(O:n<=1000000):cw prog 272 H [.p .aO,.p (.int .i64 n)] (H++[.arr .grow 0 2 (bo n (.p rq))]) (.sl H.length 0 2 0 0):=by
 refine⟨iy func272 (by kernel_rfl),fun w aa ah β K l g Q=>?_⟩;simp only[br,au,aA]at g;obtain⟨_,_,rfl,rfl,_,_,rfl,rfl,rfl⟩:=g;obtain⟨i,c,hi,G,q,_⟩:=n7 (P:=prog) (T:=108) (z:=rq) (by kernel_rfl);have hs:i.size=2:=by
  have:(prog.info? 108).map (·.size)=some 2:=by kernel_rfl
  rw[hi]at this;simpa using this
 have y:i.bytes=16:=by
  have:(prog.info? 108).map (·.bytes)=some 16:=by kernel_rfl
  rw[hi]at this;simpa using this
 have r:c.cells.size=2:=by
  have:=(mY (q w aa)).1;have e:bB prog (aJ rq)=2:=by kernel_rfl
  rw[e]at this;simpa using this
 have j:=Any8.slices_Grow_grow XX i c hi G (by omega) none 0 0 n [] w (cx _) (by omega) (by rw[y];omega) (by omega) (by simp) (fun _=>rfl) (fun a h=>by cases h);rw[show E9.t 25=108 from rfl,Nat.zero_add]at j;refine j.mono ?_;rintro e w' ⟨rfl,rfl⟩;have D:=l.mC 1;have E:bL prog w.drew aa β (H++bo 1 .hole) ah:=bL.uo (w:=w) (w':=w.drew) rfl D;have u:(H++bo 1 Obj.hole)[H.length]?=some .hole:=by simp
 have A:n<=grownCap w n 0 108:=by simp[grownCap,Question.cut]
 have o:=tU (β:=β) (H:=H++bo 1 .hole) (q w.drew aa) n;rw[show c.cells.toList.length=2 by simpa using r]at o;have I:∀m,(aT c.cells m).toList=(bo m c.cells.toList).flatten:=fun m=>wO c.cells m (by omega);obtain⟨q1,s⟩:=wX (T:=108) (k:=.grow) (ai:=2) (cap:=grownCap w n 0 108) E u
  (cells:=([]:List Value).toArray++aT c.cells (n-0)++aT c.cells (grownCap w n 0 108-n))
  (rest:=(aT c.cells (grownCap w n 0 108-n)).toList)
  (by simp) (fun h=>by have:=h.2;rw[<-be]at this;simp at this;omega) o
  (by rw[cq];intro v F;rw[List.eq_of_mem_replicate F];simp[aC])
  (by simp[I]) (by simp only[Array.size_append,GB,r];simp;omega) (by simpa using A) (fun h=>by cases h) (fun h=>by cases h)
 rw[BR]at q1 s;have aF:=n6 β H 1;have J:bO prog ah aa w β H aa w β (H++bo 1 .hole):=⟨fun _ x=>x,fun _ x=>.inl x,Ext.refl _ _ _,aF,l.mC _,me _ _,fun b⟨L,f⟩=>⟨L,by rw[jD,if_pos (b0.1 f).1];exact f⟩⟩
 refine⟨_,_,aa,rfl,J.trans (bO.drew (w1:=w.drew) rfl ⟨rfl,rfl⟩ q1),?_,?_⟩
 ·simp only[au,bG,bK]at s⊢;refine⟨rfl,fun k M d=>?_⟩;have B:(H++[Obj.arr .grow 0 2 (bo n (.p rq))])[H.length]?=some (.arr .grow 0 2 (bo n (.p rq))):=by simp
  unfold et at d;rw[B]at d;cases d;exact⟨by omega,fun C=>by have:=C.2;rw[<-be]at this;simp at this;omega,fun _=>by simp[Bd.at]⟩
 ·simp only[aC];exact⟨.arr .grow 0 2 (bo n (.p rq)),by simp,cx _⟩
namespace fH
def tJ:List PV->Option (List (List Nat))
 |[]=>some []
 | .str s::r=>match tJ r with
  |some l=>some (s::l)
  |none=>none
 |_=>none
theorem Fc:∀{l:List PV}{a:List (List Nat)},tJ l=some a->l=a.map .str
 |[],a,h=>by simp[tJ]at h;subst h;rfl
 |v::r,a,h=>by
  cases v<;>simp only[tJ]at h<;>try (cases h;done)
  split at h
  ·rename_i l b;simp only[dg]at h;subst h;rw[Fc b];rfl
  ·cases h
def CU(f:av)(vs:List PV):Option PV:=
 bif ck f 226 then match vs with
  |[.bI _ l,.str sep]=>match tJ l with
   |some d=>bif c6 d.length 1000&&c6 (kY sep d).length 100000 then some (.str (kY sep d))else none
   |none=>none
  |_=>none
 else bif ck f 328 then match vs with
  |[.str s,.str [c]]=>some (.int .i64 (qR c s 0:Nat))
  |_=>none
 else bif ck f 296 then match vs with
  |[.str s,.str [c]]=>some (.int .i64 (mI c s 0))
  |_=>none
 else bif ck f 224 then match vs with
  |[.str a,.str b]=>some (.int .i64 (vk a b))
  |_=>none
 else bif ck f 153 then match vs with
  |[.int .i64 n]=>bif Hk.nP n then some (.str (cE n))else none
  |_=>none
 else none
theorem X0{f:av}{vs:List PV}{v:PV}(h:CU f vs=some v):az prog f vs v:=by
 unfold CU at h;simp only[ac]at h
 split at h
 ·rename_i hf;rw[ce hf]
  split at h
  ·split at h
   ·rename_i a hs;simp only[db,dg,am]at h;obtain⟨⟨g1,g2⟩,rfl⟩:=h;rw[Fc hs];exact Wx _ _ _ (c9 (cv g1) (by decide)) (c9 (cv g2) (by decide))
   ·cases h
  ·cases h
 split at h
 ·rename_i hf;rw[ce hf]
  split at h
  ·simp only[dg]at h;subst h;exact Wr _ _
  ·cases h
 split at h
 ·rename_i hf;rw[ce hf]
  split at h
  ·simp only[dg]at h;subst h;exact FB _ _
  ·cases h
 split at h
 ·rename_i hf;rw[ce hf]
  split at h
  ·simp only[dg]at h;subst h;exact Wq _ _
  ·cases h
 split at h
 ·rename_i hf;rw[ce hf]
  split at h
  ·simp only[db,dg]at h;obtain⟨g1,rfl⟩:=h;have:=Hk.xZ.1 g1;exact FA _ (by omega) (by omega)
  ·cases h
 ·cases h
def vt(f:av)(args:List AV)(H:Heap):Option (AV×Heap):=
 bif ck f 225 then match args with
  |[.ptr b []]=>match H[b]? with
   |some (.box false (.p (.st u [.du,x])))=>bif ck u 224 then some (.p (.aE []),H.set b (.box false (.st 224 [.ptr b [],.p x])))else none
   |some (.box false (.st u [.p .du,x]))=>bif ck u 224 then some (.p (.aE []),H.set b (.box false (.st 224 [.ptr b [],x])))else none
   |some (.box false (.st u [.ptr b' [],_]))=>bif ck u 224&&ck b' b then some (.p (.aE []),H)else none
   |_=>none
  |_=>none
 else bif ck f 272 then match args with
  |[.p .aO,.p (.int .i64 (.ofNat n))]=>bif c6 1 n&&c6 n 1000000 then some (.sl H.length 0 2 0 0,H++[.arr .grow 0 2 (bo n (.p rq))])else none
  |_=>none
 else none
theorem XZ{f:av}{args:List AV}{H H':Heap}{v:AV}(h:vt f args H=some (v,H')):cw prog f H args H' v:=by
 unfold vt at h;simp only[ac]at h
 split at h
 ·rename_i hf;rw[ce hf]
  split at h
  case h_2=>cases h
  split at h
  ·rename_i a;simp only[db,dg,dk]at h;obtain⟨b,rfl,rfl⟩:=h;rw[ce b]at a;exact CR a (.inl rfl)
  ·rename_i a;simp only[db,dg,dk]at h;obtain⟨b,rfl,rfl⟩:=h;rw[ce b]at a;exact CR a (.inr rfl)
  ·rename_i a;simp only[db,dg,dk,am]at h;obtain⟨⟨b,c⟩,rfl,rfl⟩:=h;rw[ce b,ce c]at a;exact M7 a
  ·cases h
 split at h
 ·rename_i hf;rw[ce hf]
  split at h
  ·simp only[db,dg,dk,am]at h;obtain⟨⟨b,c⟩,rfl,rfl⟩:=h;exact XP _ (cv b) (cv c)
  ·cases h
 ·cases h
def jv(_ f:av):Nat:=
 bif ck f 152 then 2
 else bif ck f 234 then 3
 else bif ck f 235 then 3
 else bif ck f 236 then 3
 else bif ck f 237 then 3
 else bif ck f 272 then 1 else 0
def facts(l:List (av×List PV×PV))(f:av)(vs:List PV):Option PV:=match CU f vs with
 |some v=>some v
 |none=>Hk.sM l f vs
noncomputable def tK(fs:av->List PV->Option PV):lX:=⟨sU Dk,fs,vt,jv,fun _ _ _=>none⟩
theorem Qc{l:List (av×List PV×PV)}(a:Hk.kP l):mq prog (tK (facts l)):=by
 refine⟨mix,fun f fn hf=>B3 E0 hf,fun f vs v hk=>?_,fun f args H v H' hk=>XZ hk,fun f args H aj v hk=>by simp only[tK]at hk;cases hk⟩;simp only[tK,facts]at hk
 split at hk
 ·rename_i h;simp only[dg]at hk;subst hk;exact X0 h
 ·exact Hk.xt a f vs v hk
noncomputable def runT(l:List (av×List PV×PV))(f:av)(vs:List PV):Option PV:=nN prog nf (tK (facts l)) (jm prog nf (tK (facts l)) 20) f vs
theorem fL(l:List (av×List PV×PV))(a:Hk.kP l){f:av}{vs:List PV}{v:PV}(h:Hk.C1 v (runT l f vs)=true):az prog f vs v:=reckon 20 (Qc a) (Hk.E3 h)
end fH
namespace zw
def T:PV:=.st 35 [.bI true [.st 107 [.int .i64 0,.int .i64 0],.st 107 [.int .i64 2000,.int .i64 0],.st 107 [.int .i64 2000,.int .i64 1000],.st 107 [.int .i64 0,.int .i64 1000]],.int .i64 30,.bI true [.st 52 [.str [97],.int .i64 0,.str [48],.str [49,47,50,48]],.st 52 [.str [98],.int .i64 2,.str [49,57,47,50,48],.str [49]]],.bI true [.st 74 [.str [102,111,111,116],.st 41 [.str [49,53,48,48],.str [53,48,48]]],.st 74 [.str [104,101,97,100],.st 41 [.str [53,48,48],.str [53,48,48]]]]]
def B:PV:=.bI true [.st 74 [.str [99,117,101],.st 41 [.str [53,48,48],.str [53,48,48]]],.st 74 [.str [111,110,101],.st 41 [.str [49,53,48,48],.str [53,48,48]]],.st 74 [.str [116,119,111],.st 41 [.str [49,53,54,48],.str [53,48,48]]]]
def B1:PV:=.bI false [.st 74 [.str [99,117,101],.st 41 [.str [53,48,48],.str [53,48,48]]]]
def M:PV:=.st 35 [.bI false [.st 107 [.int .i64 0,.int .i64 0],.st 107 [.int .i64 0,.int .i64 1000],.st 107 [.int .i64 (-2000),.int .i64 1000],.st 107 [.int .i64 (-2000),.int .i64 0]],.int .i64 30,.bI false [.st 52 [.str [97],.int .i64 3,.str [49,57,47,50,48],.str [49]],.st 52 [.str [98],.int .i64 1,.str [48],.str [49,47,50,48]]],.bI false [.st 74 [.str [102,111,111,116],.st 41 [.str [45,49,53,48,48],.str [53,48,48]]],.st 74 [.str [104,101,97,100],.st 41 [.str [45,53,48,48],.str [53,48,48]]]]]
def k0:List (av×List PV×PV):=[(260,[.str [51,48]],.aE [.int .i64 30,.fD])]
theorem tH:Hk.kP k0:=⟨FC [51,48] 30 (by decide+kernel) (by decide),trivial⟩
theorem c0:az prog 16 [T] (.int .i64 0):=fH.fL k0 tH (by kernel_rfl)
theorem c1:az prog 51 [T,B] (.int .i64 0):=fH.fL k0 tH (by kernel_rfl)
theorem c2:az prog 51 [T,B1] (.int .i64 0):=fH.fL k0 tH (by kernel_rfl)
theorem c3:az prog 16 [M] (.int .i64 0):=fH.fL k0 tH (by kernel_rfl)
def k1:List (av×List PV×PV):=[(16,[T],.int .i64 0),(51,[T,B],.int .i64 0),(51,[T,B1],.int .i64 0),(16,[M],.int .i64 0)]++k0
theorem im:Hk.kP k1:=Hk.Aj (l:=[(16,[T],.int .i64 0),(51,[T,B],.int .i64 0),(51,[T,B1],.int .i64 0),(16,[M],.int .i64 0)]) ⟨c0,c1,c2,c3,trivial⟩ tH
theorem d0:az prog 13 [T] (.aE [.str [50,48,48,48,48,48,48],.int .i64 0]):=fH.fL k1 im (by kernel_rfl)
theorem d1:az prog 18 [T,.int .i64 0,.str [49,47,52]] (.aE [.st 41 [.str [53,48,48],.str [48]],.int .i64 0]):=fH.fL k1 im (by kernel_rfl)
theorem d2:az prog 28 [T,.st 41 [.str [50,48,48,48],.str [48]]] (.aE [.int .i64 0,.str [49],.int .i64 0]):=fH.fL k1 im (by kernel_rfl)
theorem d3:az prog 19 [T,.int .i64 0,.str [49,47,50,48]] (.aE [.str [97],.int .i64 0]):=fH.fL k1 im (by kernel_rfl)
theorem d4:az prog 19 [T,.int .i64 0,.str [49,47,49,48]] (.aE [.str [],.int .i64 7]):=fH.fL k1 im (by kernel_rfl)
theorem d5:az prog 50 [T,B,.st 41 [.str [49,52,52,48],.str [53,48,48]]] (.aE [.bool true,.int .i64 0]):=fH.fL k1 im (by kernel_rfl)
theorem d6:az prog 50 [T,B,.st 41 [.str [49,52,53,48],.str [53,48,48]]] (.aE [.bool false,.int .i64 0]):=fH.fL k1 im (by kernel_rfl)
theorem d7:az prog 34 [T,B,.str [102,111,111,116],.st 41 [.str [49,48],.str [48]]] (.aE [.st 41 [.str [49,54,50,48],.str [53,48,48]],.int .i64 0]):=fH.fL k1 im (by kernel_rfl)
theorem d8:az prog 44 [T,B] (.aE [.st 78 [.int .i64 1,.int .i64 2],.str [51,54,48,48],.int .i64 0]):=fH.fL k1 im (by kernel_rfl)
theorem d9:az prog 45 [T,B] (.aE [.bI false [.st 78 [.int .i64 1,.int .i64 2]],.int .i64 0]):=fH.fL k1 im (by kernel_rfl)
theorem d10:az prog 39 [T,.str [102,111,111,116],.str [116,114,105,97,110,103,108,101],.st 78 [.int .i64 2,.int .i64 0]] (.aE [.bI false [.st 41 [.str [49,53,48,48],.str [53,48,48]],.st 41 [.str [51,49,48,53,47,50],.str [52,55,48]],.st 41 [.str [51,49,48,53,47,50],.str [53,51,48]]],.int .i64 0]):=fH.fL k1 im (by kernel_rfl)
theorem d11:az prog 62 [T,.st 118 [.bool true,.int .i64 0,.st 107 [.int .i64 0,.int .i64 0]]] (.aE [.st 35 [.bI false [.st 107 [.int .i64 0,.int .i64 0],.st 107 [.int .i64 0,.int .i64 1000],.st 107 [.int .i64 (-2000),.int .i64 1000],.st 107 [.int .i64 (-2000),.int .i64 0]],.int .i64 30,.bI false [.st 52 [.str [97],.int .i64 3,.str [49,57,47,50,48],.str [49]],.st 52 [.str [98],.int .i64 1,.str [48],.str [49,47,50,48]]],.bI false [.st 74 [.str [102,111,111,116],.st 41 [.str [45,49,53,48,48],.str [53,48,48]]],.st 74 [.str [104,101,97,100],.st 41 [.str [45,53,48,48],.str [53,48,48]]]]],.int .i64 0]):=fH.fL k1 im (by kernel_rfl)
theorem d12:az prog 63 [M] (.aE [.st 35 [.bI false [.st 107 [.int .i64 (-2000),.int .i64 0],.st 107 [.int .i64 0,.int .i64 0],.st 107 [.int .i64 0,.int .i64 1000],.st 107 [.int .i64 (-2000),.int .i64 1000]],.int .i64 30,.bI false [.st 52 [.str [97],.int .i64 0,.str [49,57,47,50,48],.str [49]],.st 52 [.str [98],.int .i64 2,.str [48],.str [49,47,50,48]]],.bI false [.st 74 [.str [102,111,111,116],.st 41 [.str [45,49,53,48,48],.str [53,48,48]]],.st 74 [.str [104,101,97,100],.st 41 [.str [45,53,48,48],.str [53,48,48]]]]],.int .i64 0]):=fH.fL k1 im (by kernel_rfl)
theorem d13:az prog 64 [T,B,.st 118 [.bool false,.int .i64 1,.st 107 [.int .i64 0,.int .i64 0]]] (.aE [.bI false [.st 74 [.str [99,117,101],.st 41 [.str [45,53,48,48],.str [53,48,48]]],.st 74 [.str [111,110,101],.st 41 [.str [45,53,48,48],.str [49,53,48,48]]],.st 74 [.str [116,119,111],.st 41 [.str [45,53,48,48],.str [49,53,54,48]]]],.int .i64 0]):=fH.fL k1 im (by kernel_rfl)
theorem d14:az prog 65 [T] (.aE [.str [114,97,100,105,117,115,32,51,48,10,99,111,114,110,101,114,32,48,32,48,10,99,111,114,110,101,114,32,50,48,48,48,32,48,10,99,111,114,110,101,114,32,50,48,48,48,32,49,48,48,48,10,99,111,114,110,101,114,32,48,32,49,48,48,48,10,112,111,99,107,101,116,32,97,32,48,32,48,32,49,47,50,48,10,112,111,99,107,101,116,32,98,32,50,32,49,57,47,50,48,32,49,10,115,112,111,116,32,102,111,111,116,32,49,53,48,48,32,53,48,48,10,115,112,111,116,32,104,101,97,100,32,53,48,48,32,53,48,48,10],.int .i64 0]):=fH.fL k1 im (by kernel_rfl)
theorem d15:az prog 66 [.str [114,97,100,105,117,115,32,51,48,10,115,112,111,116,32,97,32,48,10]] (.aE [.st 35 [.aO,.int .i64 0,.aO,.aO],.int .i64 2,.int .i64 25]):=fH.fL k1 im (by kernel_rfl)
theorem d16:az prog 67 [T,B1] (.aE [.str [98,97,108,108,32,99,117,101,32,53,48,48,32,53,48,48,10],.int .i64 0]):=fH.fL k1 im (by kernel_rfl)
def k2:List (av×List PV×PV):=[(13,[T],.aE [.str [50,48,48,48,48,48,48],.int .i64 0]),(18,[T,.int .i64 0,.str [49,47,52]],.aE [.st 41 [.str [53,48,48],.str [48]],.int .i64 0]),(28,[T,.st 41 [.str [50,48,48,48],.str [48]]],.aE [.int .i64 0,.str [49],.int .i64 0]),(19,[T,.int .i64 0,.str [49,47,50,48]],.aE [.str [97],.int .i64 0]),(19,[T,.int .i64 0,.str [49,47,49,48]],.aE [.str [],.int .i64 7]),(50,[T,B,.st 41 [.str [49,52,52,48],.str [53,48,48]]],.aE [.bool true,.int .i64 0]),(50,[T,B,.st 41 [.str [49,52,53,48],.str [53,48,48]]],.aE [.bool false,.int .i64 0]),(34,[T,B,.str [102,111,111,116],.st 41 [.str [49,48],.str [48]]],.aE [.st 41 [.str [49,54,50,48],.str [53,48,48]],.int .i64 0]),(44,[T,B],.aE [.st 78 [.int .i64 1,.int .i64 2],.str [51,54,48,48],.int .i64 0]),(45,[T,B],.aE [.bI false [.st 78 [.int .i64 1,.int .i64 2]],.int .i64 0]),(39,[T,.str [102,111,111,116],.str [116,114,105,97,110,103,108,101],.st 78 [.int .i64 2,.int .i64 0]],.aE [.bI false [.st 41 [.str [49,53,48,48],.str [53,48,48]],.st 41 [.str [51,49,48,53,47,50],.str [52,55,48]],.st 41 [.str [51,49,48,53,47,50],.str [53,51,48]]],.int .i64 0]),(62,[T,.st 118 [.bool true,.int .i64 0,.st 107 [.int .i64 0,.int .i64 0]]],.aE [.st 35 [.bI false [.st 107 [.int .i64 0,.int .i64 0],.st 107 [.int .i64 0,.int .i64 1000],.st 107 [.int .i64 (-2000),.int .i64 1000],.st 107 [.int .i64 (-2000),.int .i64 0]],.int .i64 30,.bI false [.st 52 [.str [97],.int .i64 3,.str [49,57,47,50,48],.str [49]],.st 52 [.str [98],.int .i64 1,.str [48],.str [49,47,50,48]]],.bI false [.st 74 [.str [102,111,111,116],.st 41 [.str [45,49,53,48,48],.str [53,48,48]]],.st 74 [.str [104,101,97,100],.st 41 [.str [45,53,48,48],.str [53,48,48]]]]],.int .i64 0]),(63,[M],.aE [.st 35 [.bI false [.st 107 [.int .i64 (-2000),.int .i64 0],.st 107 [.int .i64 0,.int .i64 0],.st 107 [.int .i64 0,.int .i64 1000],.st 107 [.int .i64 (-2000),.int .i64 1000]],.int .i64 30,.bI false [.st 52 [.str [97],.int .i64 0,.str [49,57,47,50,48],.str [49]],.st 52 [.str [98],.int .i64 2,.str [48],.str [49,47,50,48]]],.bI false [.st 74 [.str [102,111,111,116],.st 41 [.str [45,49,53,48,48],.str [53,48,48]]],.st 74 [.str [104,101,97,100],.st 41 [.str [45,53,48,48],.str [53,48,48]]]]],.int .i64 0]),(64,[T,B,.st 118 [.bool false,.int .i64 1,.st 107 [.int .i64 0,.int .i64 0]]],.aE [.bI false [.st 74 [.str [99,117,101],.st 41 [.str [45,53,48,48],.str [53,48,48]]],.st 74 [.str [111,110,101],.st 41 [.str [45,53,48,48],.str [49,53,48,48]]],.st 74 [.str [116,119,111],.st 41 [.str [45,53,48,48],.str [49,53,54,48]]]],.int .i64 0]),(65,[T],.aE [.str [114,97,100,105,117,115,32,51,48,10,99,111,114,110,101,114,32,48,32,48,10,99,111,114,110,101,114,32,50,48,48,48,32,48,10,99,111,114,110,101,114,32,50,48,48,48,32,49,48,48,48,10,99,111,114,110,101,114,32,48,32,49,48,48,48,10,112,111,99,107,101,116,32,97,32,48,32,48,32,49,47,50,48,10,112,111,99,107,101,116,32,98,32,50,32,49,57,47,50,48,32,49,10,115,112,111,116,32,102,111,111,116,32,49,53,48,48,32,53,48,48,10,115,112,111,116,32,104,101,97,100,32,53,48,48,32,53,48,48,10],.int .i64 0]),(66,[.str [114,97,100,105,117,115,32,51,48,10,115,112,111,116,32,97,32,48,10]],.aE [.st 35 [.aO,.int .i64 0,.aO,.aO],.int .i64 2,.int .i64 25]),(67,[T,B1],.aE [.str [98,97,108,108,32,99,117,101,32,53,48,48,32,53,48,48,10],.int .i64 0])]++k1
theorem ayg:Hk.kP k2:=Hk.Aj (l:=[(13,[T],.aE [.str [50,48,48,48,48,48,48],.int .i64 0]),(18,[T,.int .i64 0,.str [49,47,52]],.aE [.st 41 [.str [53,48,48],.str [48]],.int .i64 0]),(28,[T,.st 41 [.str [50,48,48,48],.str [48]]],.aE [.int .i64 0,.str [49],.int .i64 0]),(19,[T,.int .i64 0,.str [49,47,50,48]],.aE [.str [97],.int .i64 0]),(19,[T,.int .i64 0,.str [49,47,49,48]],.aE [.str [],.int .i64 7]),(50,[T,B,.st 41 [.str [49,52,52,48],.str [53,48,48]]],.aE [.bool true,.int .i64 0]),(50,[T,B,.st 41 [.str [49,52,53,48],.str [53,48,48]]],.aE [.bool false,.int .i64 0]),(34,[T,B,.str [102,111,111,116],.st 41 [.str [49,48],.str [48]]],.aE [.st 41 [.str [49,54,50,48],.str [53,48,48]],.int .i64 0]),(44,[T,B],.aE [.st 78 [.int .i64 1,.int .i64 2],.str [51,54,48,48],.int .i64 0]),(45,[T,B],.aE [.bI false [.st 78 [.int .i64 1,.int .i64 2]],.int .i64 0]),(39,[T,.str [102,111,111,116],.str [116,114,105,97,110,103,108,101],.st 78 [.int .i64 2,.int .i64 0]],.aE [.bI false [.st 41 [.str [49,53,48,48],.str [53,48,48]],.st 41 [.str [51,49,48,53,47,50],.str [52,55,48]],.st 41 [.str [51,49,48,53,47,50],.str [53,51,48]]],.int .i64 0]),(62,[T,.st 118 [.bool true,.int .i64 0,.st 107 [.int .i64 0,.int .i64 0]]],.aE [.st 35 [.bI false [.st 107 [.int .i64 0,.int .i64 0],.st 107 [.int .i64 0,.int .i64 1000],.st 107 [.int .i64 (-2000),.int .i64 1000],.st 107 [.int .i64 (-2000),.int .i64 0]],.int .i64 30,.bI false [.st 52 [.str [97],.int .i64 3,.str [49,57,47,50,48],.str [49]],.st 52 [.str [98],.int .i64 1,.str [48],.str [49,47,50,48]]],.bI false [.st 74 [.str [102,111,111,116],.st 41 [.str [45,49,53,48,48],.str [53,48,48]]],.st 74 [.str [104,101,97,100],.st 41 [.str [45,53,48,48],.str [53,48,48]]]]],.int .i64 0]),(63,[M],.aE [.st 35 [.bI false [.st 107 [.int .i64 (-2000),.int .i64 0],.st 107 [.int .i64 0,.int .i64 0],.st 107 [.int .i64 0,.int .i64 1000],.st 107 [.int .i64 (-2000),.int .i64 1000]],.int .i64 30,.bI false [.st 52 [.str [97],.int .i64 0,.str [49,57,47,50,48],.str [49]],.st 52 [.str [98],.int .i64 2,.str [48],.str [49,47,50,48]]],.bI false [.st 74 [.str [102,111,111,116],.st 41 [.str [45,49,53,48,48],.str [53,48,48]]],.st 74 [.str [104,101,97,100],.st 41 [.str [45,53,48,48],.str [53,48,48]]]]],.int .i64 0]),(64,[T,B,.st 118 [.bool false,.int .i64 1,.st 107 [.int .i64 0,.int .i64 0]]],.aE [.bI false [.st 74 [.str [99,117,101],.st 41 [.str [45,53,48,48],.str [53,48,48]]],.st 74 [.str [111,110,101],.st 41 [.str [45,53,48,48],.str [49,53,48,48]]],.st 74 [.str [116,119,111],.st 41 [.str [45,53,48,48],.str [49,53,54,48]]]],.int .i64 0]),(65,[T],.aE [.str [114,97,100,105,117,115,32,51,48,10,99,111,114,110,101,114,32,48,32,48,10,99,111,114,110,101,114,32,50,48,48,48,32,48,10,99,111,114,110,101,114,32,50,48,48,48,32,49,48,48,48,10,99,111,114,110,101,114,32,48,32,49,48,48,48,10,112,111,99,107,101,116,32,97,32,48,32,48,32,49,47,50,48,10,112,111,99,107,101,116,32,98,32,50,32,49,57,47,50,48,32,49,10,115,112,111,116,32,102,111,111,116,32,49,53,48,48,32,53,48,48,10,115,112,111,116,32,104,101,97,100,32,53,48,48,32,53,48,48,10],.int .i64 0]),(66,[.str [114,97,100,105,117,115,32,51,48,10,115,112,111,116,32,97,32,48,10]],.aE [.st 35 [.aO,.int .i64 0,.aO,.aO],.int .i64 2,.int .i64 25]),(67,[T,B1],.aE [.str [98,97,108,108,32,99,117,101,32,53,48,48,32,53,48,48,10],.int .i64 0])]) ⟨d0,d1,d2,d3,d4,d5,d6,d7,d8,d9,d10,d11,d12,d13,d14,d15,d16,trivial⟩ im
end zw
theorem Qd:az prog 12 [] (.bool true):=fH.fL zw.k2 zw.ayg (by kernel_rfl)
theorem Fv(v w:NV)(a:cX kQ v.q)(b:cX kQ w.q):az prog 108 [eg v,eg w] (eF (v.dot w)):=by
 have c:=sq v.x w.x (fE a.1) (fE b.1);have d:=sq v.y w.y (fE a.2) (fE b.2);have e:=Cv (v.x.mul w.x) (v.y.mul w.y) ((ku a.1 b.1).mono (by decide)) ((ku a.2 b.2).mono (by decide));refine aL nf D3 mix (by simp[f108]) ?_;rw[NV.dot];simp[f108,ad];refine e2 c ?_;simp[ad];refine e2 d ?_;simp[ad];refine e2 e ?_;simp[ad]
theorem EB(t:aB)(a:0<=t.bt)(b:t.bt<=1000000):az prog 127 [cL t] (eF (.width t.bt)):=by
 have f:=xT a b;have c:=sX (4*t.bt*t.bt) (by omega) (by omega);have d:a1.wrap (4*t.bt)=4*t.bt:=aM _ (by omega) (by omega);have e:a1.wrap (4*t.bt*t.bt)=4*t.bt*t.bt:=aM _ (by omega) (by omega);refine aL nf Fp mix (by simp[f127]) ?_;rw[NF.width];simp[f127,ad,d,e];refine c1 c ?_;simp[ad]
theorem aAU(a b:V2):(b.sub a).dot (b.sub a)=(a.sub b).dot (a.sub b):=by
 simp only[V2.sub,V2.dot]
 grind
theorem P3(t:aB)(a b:NV)(d:0<=t.bt)(e:t.bt<=1000000)(f:cX 2000 a.q)(g:cX 2000 b.q):az prog 201 [cL t,eg a,eg b] (.int .i64 (fC t.bt a.q b.q)):=by
 have c:=lO g f;rw[<-NV.kH]at c;have k1:=vT b a (g.mono (by decide)) (f.mono (by decide));have k2:=Fv (b.sub a) (b.sub a) (c.mono (by decide)) (c.mono (by decide));have k3:=EB t d e;have k4:=oY ((b.sub a).dot (b.sub a)) (.width t.bt) (by rw[NV.MY];exact(zU c c).mono (by decide)) ((FR d e).mono (by decide));have hq:dJ ((b.sub a).dot (b.sub a)).q (NF.width t.bt).q=fC t.bt a.q b.q:=by
  rw[fC,NV.MY,NV.kH,aAU];rfl
 rw[hq]at k4;refine aL nf EC mix (by simp[f201]) ?_;simp[f201,ad];refine c2 k1 ?_;simp[ad];refine e2 k2 ?_;simp[ad];refine e1 k3 ?_;simp[ad];refine e2 k4 ?_;simp[ad]
def jX(p:cH):Prop:=mJ p/\dU p.pt=0
theorem XM(t:aB)(v:NV)(o:cH)(b:0<=t.bt)(c:t.bt<=1000000)(e:cX 2000 v.q)(d:jX o):
 cw prog 200 [.box false (.p (cL t)),.box false (.p (eg v))] [.p (bC o),.ptr 0 [],.ptr 1 []] [.box false (.p (cL t)),.box false (.p (eg v))] (.p (.bool (decide (fC t.bt (vP o.pt) v.q<0)))):=by
 obtain⟨⟨h,f⟩,a⟩:=d;obtain⟨g1,g2⟩:=iL a;obtain⟨_,ok⟩:=kX a;have k1:=tL o.pt g1 g2 f;have k2:=P3 t (.from o.pt) v b c (by rw[sV];exact ok) e;rw[sV]at k2;generalize fC t.bt (vP o.pt) v.q=y at*;generalize NV.from o.pt=g at*;refine fP nf FE mix (by simp[f200]) ?_;simp[f200,ad];refine Go.aw.e1 k1 ?_;simp[ad];refine Go.aw.e3 k2 ?_;simp[ad];exact cJ.og (by simp) (by simp) (by simp) (by simp) (by simp)
theorem PZ(t:aB)(v:NV)(l:List cH)(h:l.length<=1000000)(a:0<=t.bt)(b:t.bt<=1000000)(d:cX 2000 v.q)(c:∀o∈l,jX o):
 cw prog 210 [.box false (.p (cL t)),.box false (.p (eg v))] [.p (.seq (l.map bC)),.func 200 [] [.ptr 0 [],.ptr 1 []]] [.box false (.p (cL t)),.box false (.p (eg v))] (.p (.int .i64 (idxFrom (fun o=>decide (fC t.bt (vP o.pt) v.q<0)) l 0))):=by
 refine fP nf zD mix (by simp[f210]) ?_;simp[f210];refine lp (α:=Nat) (fun i=>⟨[(8,.p (.int .i64 i)),(7,.p (.int .i64 l.length)),(1,.func 200 [] [.ptr 0 [],.ptr 1 []]),(0,.p (.seq (l.map bC)))],[.box false (.p (cL t)),.box false (.p (eg v))]⟩) (fun i=>i<=l.length/\idxFrom (fun o=>decide (fC t.bt (vP o.pt) v.q<0)) l 0=idxFrom (fun o=>decide (fC t.bt (vP o.pt) v.q<0)) (l.drop i) i) (fun i=>l.length-i) 0 (by simp) ?_;rintro i ⟨k1,k2⟩;have e:=b8 (i:=i) (by omega)
 by_cases hi:i<l.length
 ·rw[b5 hi,idxFrom]at k2;simp[hi];refine cf (XM t v l[i] a b d (c _ (List.getElem_mem hi))) [0,1] ?_
  by_cases hk:fC t.bt (vP l[i].pt) v.q<0
  ·simp[hk]at k2;simp[hk,k2,ba]
  ·simp[hk]at k2;simp[hk,e,ba];exact rd (i+1) ⟨hi,k2⟩
 ·have:i=l.length:=by omega
  subst this;simp[idxFrom]at k2;simp[k2]
theorem P8(t:aB)(v:NV)(l:List cH)(h:l.length<=1000000)(a:0<=t.bt)(b:t.bt<=1000000)(d:cX 2000 v.q)(c:∀o∈l,jX o):
 cw prog 131 [.box false (.p (cL t)),.box false (.p (eg v))] [.p (.seq (l.map bC)),.func 200 [] [.ptr 0 [],.ptr 1 []]] [.box false (.p (cL t)),.box false (.p (eg v))] (.p (.bool (l.any (fun o=>decide (fC t.bt (vP o.pt) v.q<0))))):=by
 refine fP nf zM mix (by simp[f131]) ?_;simp[f131];refine cf (PZ t v l h a b d c) [0,1] ?_;have:=pq (fun o=>decide (fC t.bt (vP o.pt) v.q<0)) l 0;simp[ba,<-this]
theorem P2(t:aB)(v:NV)(l:List cH)(h:l.length<=1000000)(a:0<=t.bt)(b:t.bt<=1000000)(d:cX 2000 v.q)(c:∀o∈l,jX o):
 az prog 119 [cL t,.seq (l.map bC),eg v] (.bool (!l.any (fun o=>decide (fC t.bt (vP o.pt) v.q<0)))):=by
 have k1:=P8 t v l h a b d c;generalize (l.any (fun o=>decide (fC t.bt (vP o.pt) v.q<0)))=y at*;refine aL nf L4 mix (by simp[f119]) ?_;simp[f119,ad];refine cf k1 [0,1] ?_;simp[ad,ba]
theorem P1(p o:cH):cw prog 132 [.box false (.p (bC p))] [.p (bC o),.ptr 0 []] [.box false (.p (bC p))] (.p (.bool (decide (o.name=p.name)))):=by
 refine fP nf Fl mix (by simp[f132]) ?_
 by_cases h:o.name=p.name
 ·simp[f132,ad,h];exact cJ.og (by simp) (by simp) (by simp) (by simp) (by simp)
 ·simp[f132,ad,h];exact cJ.og (by simp) (by simp) (by simp) (by simp) (by simp)
theorem PY(p:cH)(l:List cH)(h:l.length<=1000000):
 cw prog 210 [.box false (.p (bC p))] [.p (.seq (l.map bC)),.func 132 [] [.ptr 0 []]] [.box false (.p (bC p))] (.p (.int .i64 (idxFrom (fun o=>decide (o.name=p.name)) l 0))):=by
 refine fP nf zD mix (by simp[f210]) ?_;simp[f210];refine lp (α:=Nat) (fun i=>⟨[(8,.p (.int .i64 i)),(7,.p (.int .i64 l.length)),(1,.func 132 [] [.ptr 0 []]),(0,.p (.seq (l.map bC)))],[.box false (.p (bC p))]⟩) (fun i=>i<=l.length/\idxFrom (fun o=>decide (o.name=p.name)) l 0=idxFrom (fun o=>decide (o.name=p.name)) (l.drop i) i) (fun i=>l.length-i) 0 (by simp) ?_;rintro i ⟨k1,k2⟩;have a:=b8 (i:=i) (by omega)
 by_cases hi:i<l.length
 ·rw[b5 hi,idxFrom]at k2;simp[hi];refine cf (P1 p l[i]) [0] ?_
  by_cases hk:l[i].name=p.name
  ·simp[hk]at k2;simp[hk,k2,ba]
  ·simp[hk]at k2;simp[hk,a,ba];exact rd (i+1) ⟨hi,k2⟩
 ·have:i=l.length:=by omega
  subst this;simp[idxFrom]at k2;simp[k2]
theorem P7(p:cH)(l:List cH)(h:l.length<=1000000):
 cw prog 131 [.box false (.p (bC p))] [.p (.seq (l.map bC)),.func 132 [] [.ptr 0 []]] [.box false (.p (bC p))] (.p (.bool (l.any (fun o=>decide (o.name=p.name))))):=by
 refine fP nf zM mix (by simp[f131]) ?_;simp[f131];refine cf (PY p l h) [0] ?_;have:=pq (fun o=>decide (o.name=p.name)) l 0;simp[ba,<-this]
def tG(r:Int)(a:List cH)(v:V2):Bool:=a.any (fun o=>decide (fC r (vP o.pt) v<0))
def yV(t:aB)(a:List cH)(s:cH):Int:=bE [aW (decide (t.on (vP s.pt)<0)) 16,aW (a.any (fun o=>decide (fC t.bt (vP o.pt) (vP s.pt)<0))) 17]
theorem P0(t:aB)(a:List cH)(s:cH):gM t a s=if iF a s=0 then yV t a s else iF a s:=by
 rw[gM,iF,yV];generalize t.on (vP s.pt)=y;generalize dU s.pt=d;generalize (a.any fun o=>decide (o.name=s.name))=e;generalize (a.any fun o=>decide (fC t.bt (vP o.pt) (vP s.pt)<0))=f;generalize isName s.name=g;cases g
 ·simp[bE,aW]
 cases e
 case true=>simp[bE,aW]
 by_cases b:d=0
 case neg=>simp[bE,aW,b]
 by_cases c:y<0
 ·simp[bE,aW,b,c]
 cases f
 ·simp[bE,aW,b,c]
 ·simp[bE,aW,b,c]
theorem XN(t:aB)(s:cH)(a:List cH)(v:t.cs.length<=1000000)(g:gp t=0)(hs:mJ s)(f:a.length<=1000000)(u:∀o∈a,jX o):
 cw prog 130 [.box false (.p (cL t))] [.p (bC s),.p (.seq (a.map bC)),.ptr 0 []] [.box false (.p (cL t))] (.p (.int .i64 (gM t a s))):=by
 obtain⟨_,_,w,_⟩:=Dx g;obtain⟨J,K⟩:=vV g;obtain⟨D,k⟩:=hs;have k1:=P7 s a f;have k2:=zB s.name D.1;have k3:=gY (!isName s.name) 8;have k4:=gY (a.any fun o=>decide (o.name=s.name)) 9;have k6:=zS s.pt k;have k8:=nR [aW (!isName s.name) 8,aW (a.any fun o=>decide (o.name=s.name)) 9,dU s.pt] (by simp);have b:=DJ (bef:=a) (s:=s);rw[P0];have x:=fun h:iF a s=0=>tL s.pt (iL (b h)).1 (iL (b h)).2 k;have i:=fun h:iF a s=0=>MM t (.from s.pt) v w (wu ⟨(fV (iL (b h)).1).mono (by decide),(fV (iL (b h)).2).mono (by decide)⟩);have z:=gY (decide (t.on (vP s.pt)<0)) 16;have j:iF a s=0->az prog 119 [cL t,.seq (a.map bC),eg (.from s.pt)] (.bool (!tG t.bt a (NV.from s.pt).q)):=fun h=>P2 t (.from s.pt) a f (by omega) (by omega) (wu ⟨fV (iL (b h)).1,fV (iL (b h)).2⟩) u;have A:=gY (tG t.bt a (vP s.pt)) 17;have d:=nR [aW (decide (t.on (vP s.pt)<0)) 16,aW (tG t.bt a (vP s.pt)) 17] (by simp);simp only[sV]at i j;have d1:iF a s=bE [aW (!isName s.name) 8,aW (a.any fun o=>decide (o.name=s.name)) 9,dU s.pt]:=rfl;have d2:yV t a s=bE [aW (decide (t.on (vP s.pt)<0)) 16,aW (tG t.bt a (vP s.pt)) 17]:=rfl;rw[<-d1]at k8;rw[<-d2]at d;clear d1 d2 b;generalize iF a s=e at*;generalize yV t a s=r at*;generalize tG t.bt a (vP s.pt)=m at*;generalize t.on (vP s.pt)=y at*;generalize dU s.pt=E at*;generalize (a.any fun o=>decide (o.name=s.name))=l at*;generalize isName s.name=n at*;generalize NV.from s.pt=v1 at*;refine fP nf Fm mix (by simp[f130]) ?_;have C:az prog 78 [.seq [.int .i64 (aW (!n) 8),.int .i64 (aW l 9),.int .i64 E]] (.int .i64 e):=by simpa using k8
 have B:az prog 78 [.seq [.int .i64 (aW (decide (y<0)) 16),.int .i64 (aW m 17)]] (.int .i64 r):=by simpa using d
 clear k8 d;generalize F:aW (!n) 8=L at*;generalize G:aW l 9=M at*;generalize H:aW (decide (y<0)) 16=N at*;generalize I:aW m 17=O at*;simp[f130,ad];refine cf k1 [1] ?_;simp[ad,ba,sig];refine Go.aw.e1 k2 ?_;simp[ad];refine Go.aw.e2 k3 ?_;simp[ad];refine Go.aw.e2 k4 ?_;simp[ad];refine Go.aw.e1 k6 ?_;simp[ad];refine ep C (by simp;first|exact⟨rfl,rfl⟩|rfl) (by simp;first|exact⟨rfl,rfl⟩|rfl) ?_;simp[ad];refine⟨by repeat' first|rfl|apply ab,?_⟩
 by_cases c:e=0
 case neg=>
  simp[c,ad];exact cJ.og (by simp) (by simp) (by simp) (by simp) (by simp)
 simp[c,ad];refine Go.aw.c1 (x c) ?_;simp[ad];refine Go.aw.e2 (i c) ?_;simp[ad];refine Go.aw.e2 z ?_;simp[ad];refine Go.aw.e3 (j c) ?_;simp[ad];refine Go.aw.e2 A ?_;simp[ad];refine ep B (by simp;first|exact⟨rfl,rfl⟩|rfl) (by simp;first|exact⟨rfl,rfl⟩|rfl) ?_;simp[ad];refine⟨by repeat' first|rfl|apply ab,?_⟩;exact⟨fun h=>(h c).elim,cJ.og (by simp) (by simp) (by simp) (by simp) (by simp)⟩
theorem H3(l:List cH):eC prog 3 (l.map (AV.p∘bC)):=xV (fun r=>⟨by simp[ad],by simp[ad]⟩) l
theorem XO(t b:aB)(h:t.cs.length<=1000000)(l:gp t=0)(c:kV b):
 cw prog 129 [.box false (.p (cL t))] [.p (.seq (b.aq.map bC)),.p (.int .i64 24),.func 130 [] [.ptr 0 []]] [.box false (.p (cL t))] (.p (.int .i64 (l9 t b))):=by
 obtain⟨n,d⟩:=c;refine fP nf Fo mix (by simp[f129]) ?_;rw[l9]
 by_cases c1:24<b.aq.length
 ·have cI:(24:Int)<b.aq.length:=by omega
  rw[if_pos c1];simp[f129,cI]
 have e:¬(24:Int)<b.aq.length:=by omega
 rw[if_neg c1];simp[f129,e];refine lp (α:=Nat) (fun i=>⟨[(16,.p (.int .i64 i)),(15,.p (.int .i64 b.aq.length)),(14,.p (.seq (b.aq.map bC))),(2,.func 130 [] [.ptr 0 []]),(0,.p (.seq (b.aq.map bC)))],[.box false (.p (cL t))]⟩) (fun i=>i<=b.aq.length/\∀j,j<i->gu (gM t) b.aq j=0) (fun i=>b.aq.length-i) 0 (by simp) ?_;rintro i ⟨k1,k2⟩
 by_cases hk:i<b.aq.length
 ·have gk:=aB.dE hk;have m:=b8 (i:=i) (by omega);have a:=XN t (b.sp i) (b.aq.take i) h l (d _ (bv gk)) (by rw[cb];omega) (fun o k=>by
   obtain⟨j,f,rfl⟩:=b2.1 k;rw[cb]at f;rw[List.getElem_take];have:=k2 j (by omega);have g:=aB.dE (t:=b) (i:=j) (by omega);rw[gu,g]at this;rw[aB.rj (by omega)];exact⟨d _ (bv g),zG this⟩)
  rw[cc]at a
  by_cases he:gM t (b.aq.take i) (b.sp i)=0
  ·rw[he]at a;have:=ru k2 gk he;simp[hk,gk,ad];refine⟨⟨k1,H3 _⟩,?_⟩;refine ef a [0] ?_;simp[m,ad,ba,sig];exact rd (i+1) ⟨hk,this⟩
  ·have c:=ry k2 gk he;rw[c];simp[hk,gk,ad];refine⟨⟨k1,H3 _⟩,?_⟩;refine ef a [0] ?_;simp[he,ad,ba,sig];exact cJ.og (by simp) (by simp) (by simp) (by simp) (by simp)
 ·have:i=b.aq.length:=by omega
  subst this;rw[py.2 k2];simp
theorem Ea(t b:aB)(a:l8 t)(c:kV b):az prog 51 [cL t,.seq (b.aq.map bC)] (.int .i64 (fu t b)):=by
 have k1:=Pq t a;refine aL nf NC mix (by simp[f51]) ?_;rw[fu]
 by_cases h:gp t=0
 ·rw[if_neg (by simp[h])];have k2:=XO t b a.cl h c;rw[h]at k1;simp[f51,ad];refine Go.aw.c1 k1 ?_;simp[ad];refine cf k2 [0] ?_;simp[ad,ba]
 ·rw[if_pos h];generalize gp t=e at*;simp[f51,ad];refine Go.aw.c1 k1 ?_;simp[h,ad]
def CQ(l:List cH)(n:List Nat):Option cH:=l.find? (fun s=>decide (s.name=n))
structure Om(b:aB):Prop where
 sl:b.aq.length<=24
 sp:∀s∈b.aq,jX s
 ne:∀i,i<b.aq.length->CQ (b.aq.take i) (b.sp i).name=none
theorem azw{t b:aB}(l:kV b)(h:fu t b=0):gp t=0/\Om b/\(∀s∈b.aq,0<=t.on (vP s.pt)):=by
 rw[fu]at h
 by_cases c:gp t=0
 case neg=>rw[if_pos c]at h;exact absurd h c
 rw[if_neg (by simp[c]),l9]at h
 by_cases f:24<b.aq.length
 ·rw[if_pos f]at h;omega
 rw[if_neg f]at h;have k:=py.1 h;have d:∀i,i<b.aq.length->gM t (b.aq.take i) (b.sp i)=0:=fun i hi=>by
  have:=k i hi
  rwa [gu,aB.dE hi]at this
 refine⟨c,⟨by omega,fun s hs=>?_,fun i hi=>?_⟩,fun s hs=>?_⟩
 ·obtain⟨j,a,rfl⟩:=b2.1 hs;rw[aB.rj a];exact⟨l.sp _ (bv (aB.dE a)),zG (d j a)⟩
 ·have:=d i hi;rw[gM]at this
  split at this
  ·omega
  split at this
  ·omega
  rename_i g;rw[CQ,List.find?_eq_none];intro x hx e;exact g (b4.2 ⟨x,hx,e⟩)
 ·obtain⟨j,a,rfl⟩:=b2.1 hs;rw[aB.rj a];have:=d j a;rw[gM]at this
  split at this
  ·omega
  split at this
  ·omega
  split at this
  ·contradiction
  split at this
  ·omega
  omega
end Go.aw
