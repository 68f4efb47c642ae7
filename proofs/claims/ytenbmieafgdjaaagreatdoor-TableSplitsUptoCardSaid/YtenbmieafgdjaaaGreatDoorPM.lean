import Derived.Test.YtenbmieafgdjaaaGreatDoorPL
import Derived.Test.YtenbmieafgdjaaaGreatDoorPK
/- Parts of a proof. -/
set_option linter.unusedSimpArgs false
set_option linter.unusedVariables false
set_option linter.unusedSectionVars false
open Go.Proofs.Tryz
open And renaming intro->ab
open Go.IntKind renaming i64->ac
open List renaming mem_of_getElem?->am, take_of_length_le->an, take_length->ao, length_eq_zero_iff->ap, getD_eq_getElem?_getD->ar, mem_iff_getElem->av, any_eq_true->ax, take_add_one->ay, drop_eq_getElem_cons->aT, mem_of_mem_take->a0, getElem?_take->a1, length_take->a4, map_take->a5, map_cons->a6, map_nil->a7
open Nat renaming le_refl->a8, le_trans->a9, lt_of_lt_of_le->bb, not_lt_zero->be, lt_or_ge->bi
open Rat renaming mul_nonneg->bk, mul_pos->bl, le_of_lt->bo, intCast_pos->bv, intCast_mul->b0, intCast_sub->b1, intCast_add->b2
namespace Go.au
open Go.Proofs
set_option maxHeartbeats 4000000
set_option maxRecDepth 100000
theorem vA(l:List dG):fg prog 2 (l.map (AV.p∘bV)):=zJ (fun r=>⟨by simp[ad],by simp[ad]⟩) l
theorem sV{α:Type}{f:α->AV}{l:List α}{j:Nat}{x:α}(h:l[j+1]?=some x):(l.take (j+1+1)).map f=(l.map f).take (j+1)++[f x]:=by
 rw[ay (i:=j+1),h,List.map_append,a5];rfl
theorem iy{N:Nat×Nat->Prop}{α:Type}{f:α->PV}{k:Nat}{l:List α}:aS N ((l.map (AV.p∘f)).take k)=True:=by
 rw[cL,eq_iff_iff,iff_true];intro x hx;obtain⟨a,_,rfl⟩:=List.mem_map.1 (a0 hx);trivial
theorem oV:fx=fy:=rfl
theorem oU:fW=bu:=rfl
theorem sW{α:Type}{l:List α}{x:α}(h:l[0]?=some x):l.take 1=[x]:=by
 rw[ay (i:=0),h];rfl
theorem SU(t:aq)(u:t.cs.length<=1000000)(v:t.bf.length<=1000000)(w:t.aj.length<=1000000):aC prog 13 [cV t] (b8 t):=by
 have s:(1000000:Nat)<cZ:=by decide
 have o:ac.wrap 1=1:=by decide
 refine aM nf Qr mix (by simp[f13]) ?_;simp[f13,ad];refine⟨⟨vA _,by omega⟩,?_⟩
 by_cases hc:t.cs=[]
 ·simp[hc];refine⟨⟨by repeat' first|rfl|apply ab,by repeat' first|rfl|apply ab⟩,?_⟩;refine lp (α:=Nat) (fun i=>match i with
    |0=>⟨[(18,.p (.int .i64 0)),(17,.p (.int .i64 t.bf.length)),(16,.p (.seq (t.bf.map fy))),(3,.ptr 3 []),(2,.ptr 1 []),(1,.ptr 0 [])],[.box false (.p (cV t)),.box false (.p (.st 37 [.aP,.int .i64 0,.aP,.aP])),.arr .exact 0 2 [],.box false (.st 37 [.sl 2 0 2 0 0,.p (.int .i64 t.bm),.p .aP,.p .aP])]⟩
    |m+1=>⟨[(18,.p (.int .i64 ((m+1:Nat):Int))),(17,.p (.int .i64 t.bf.length)),(16,.p (.seq (t.bf.map fy))),(3,.ptr 3 []),(2,.ptr 1 []),(1,.ptr 0 [])],[.box false (.p (cV t)),.box false (.p (.st 37 [.aP,.int .i64 0,.aP,.aP])),.arr .exact 0 2 [],.box false (.st 37 [.sl 2 0 2 0 0,.p (.int .i64 t.bm),.sl 6 m 4 0 (m+1),.p .aP]),.hole,.hole,.arr .grow m 4 ((t.bf.take (m+1)).map (AV.p∘fy))]⟩) (fun i=>i<=t.bf.length) (fun i=>t.bf.length-i) 0 (by simp) ?_
  rintro i q
  by_cases hi:i<t.bf.length
  ·have a:=aq.lJ hi;rcases i with _|j
   ·have b:=sW a;simp[hi,a,o,ad];exact⟨by omega,rd 1 hi (hh:=by simp[b]) (hr2:=by simp[iy])⟩
   ·have h:ac.wrap ((j:Int)+1+1)=(j:Int)+1+1:=aO _ (by omega) (by omega);have hI:(j:Int)+1<t.bf.length:=by omega
    have b:=sV (f:=AV.p∘fy) a;simp[hi,hI,a,h,ad];exact⟨by omega,⟨by omega,by omega⟩,rd (j+2) hi (hh:=by simp at b;simp[b]) (hr2:=by simp[iy])⟩
  have r:i=t.bf.length:=by omega
  rcases i with _|j
  ·have n:t.bf=[]:=ap.1 r.symm;simp[n,ad];refine lp (α:=Nat) (fun i=>match i with
     |0=>⟨[(32,.p (.int .i64 0)),(31,.p (.int .i64 t.aj.length)),(30,.p (.seq (t.aj.map bu))),(3,.ptr 3 []),(2,.ptr 1 []),(1,.ptr 0 [])],[.box false (.p (cV t)),.box false (.p (.st 37 [.aP,.int .i64 0,.aP,.aP])),.arr .exact 0 2 [],.box false (.st 37 [.sl 2 0 2 0 0,.p (.int .i64 t.bm),.p .aP,.p .aP])]⟩
     |m+1=>⟨[(32,.p (.int .i64 ((m+1:Nat):Int))),(31,.p (.int .i64 t.aj.length)),(30,.p (.seq (t.aj.map bu))),(3,.ptr 3 []),(2,.ptr 1 []),(1,.ptr 0 [])],[.box false (.p (cV t)),.box false (.p (.st 37 [.aP,.int .i64 0,.aP,.aP])),.arr .exact 0 2 [],.box false (.st 37 [.sl 2 0 2 0 0,.p (.int .i64 t.bm),.p .aP,.sl 6 m 3 0 (m+1)]),.hole,.hole,.arr .grow m 3 ((t.aj.take (m+1)).map (AV.p∘bu))]⟩) (fun i=>i<=t.aj.length) (fun i=>t.aj.length-i) 0 (by simp) ?_
   rintro i q
   by_cases hi:i<t.aj.length
   ·have a:=aq.dZ hi;rcases i with _|j
    ·have b:=sW a;simp[hi,a,o,ad];exact⟨by omega,rd 1 hi (hh:=by simp[b]) (hr2:=by simp[iy])⟩
    ·have h:ac.wrap ((j:Int)+1+1)=(j:Int)+1+1:=aO _ (by omega) (by omega);have hI:(j:Int)+1<t.aj.length:=by omega
     have b:=sV (f:=AV.p∘bu) a;simp[hi,hI,a,h,ad];exact⟨by omega,⟨by omega,by omega⟩,rd (j+2) hi (hh:=by simp at b;simp[b]) (hr2:=by simp[iy])⟩
   have d:i=t.aj.length:=by omega
   rcases i with _|c
   ·have e:t.aj=[]:=ap.1 d.symm;simp[e,ad];simp[b8,hc,n,e,oV,oU]
   ·have hI:¬((c:Int)+1<t.aj.length):=by omega
    have g:t.aj.take (c+1)=t.aj:=by rw[d,ao]
    simp[hI,g,ad];have l:(t.aj.map (AV.p∘bu)).take (c+1)=t.aj.map (AV.p∘bu):=an (by simp;omega);simp[b8,hc,n,l,oV,oU];omega
  ·have hI:¬((j:Int)+1<t.bf.length):=by omega
   have g:t.bf.take (j+1)=t.bf:=by rw[r,ao]
   simp[hI,g,ad];refine lp (α:=Nat) (fun i=>match i with
    |0=>⟨[(32,.p (.int .i64 0)),(31,.p (.int .i64 t.aj.length)),(30,.p (.seq (t.aj.map bu))),(3,.ptr 3 []),(2,.ptr 1 []),(1,.ptr 0 [])],[.box false (.p (cV t)),.box false (.p (.st 37 [.aP,.int .i64 0,.aP,.aP])),.arr .exact 0 2 [],.box false (.st 37 [.sl 2 0 2 0 0,.p (.int .i64 t.bm),.sl 6 j 4 0 (j+1),.p .aP]),.hole,.hole,.arr .grow j 4 (t.bf.map (AV.p∘fy))]⟩
    |m+1=>⟨[(32,.p (.int .i64 ((m+1:Nat):Int))),(31,.p (.int .i64 t.aj.length)),(30,.p (.seq (t.aj.map bu))),(3,.ptr 3 []),(2,.ptr 1 []),(1,.ptr 0 [])],[.box false (.p (cV t)),.box false (.p (.st 37 [.aP,.int .i64 0,.aP,.aP])),.arr .exact 0 2 [],.box false (.st 37 [.sl 2 0 2 0 0,.p (.int .i64 t.bm),.sl 6 j 4 0 (j+1),.sl 9 m 3 0 (m+1)]),.hole,.hole,.arr .grow j 4 (t.bf.map (AV.p∘fy)),.hole,.hole,.arr .grow m 3 ((t.aj.take (m+1)).map (AV.p∘bu))]⟩) (fun i=>i<=t.aj.length) (fun i=>t.aj.length-i) 0 (by simp) ?_
   rintro i q
   by_cases hi:i<t.aj.length
   ·have a:=aq.dZ hi;rcases i with _|j
    ·have b:=sW a;simp[hi,a,o,ad];exact⟨by omega,rd 1 hi (hh:=by simp[b]) (hr2:=by simp[iy])⟩
    ·have h:ac.wrap ((j:Int)+1+1)=(j:Int)+1+1:=aO _ (by omega) (by omega);have hI:(j:Int)+1<t.aj.length:=by omega
     have b:=sV (f:=AV.p∘bu) a;simp[hi,hI,a,h,ad];exact⟨by omega,⟨by omega,by omega⟩,rd (j+2) hi (hh:=by simp at b;simp[b]) (hr2:=by simp[iy])⟩
   have d:i=t.aj.length:=by omega
   rcases i with _|c
   ·have e:t.aj=[]:=ap.1 d.symm;simp[e,ad];have k:(t.bf.map (AV.p∘fy)).take (j+1)=t.bf.map (AV.p∘fy):=an (by simp;omega);simp[b8,hc,k,e,oV,oU];omega
   ·have hI:¬((c:Int)+1<t.aj.length):=by omega
    have g:t.aj.take (c+1)=t.aj:=by rw[d,ao]
    simp[hI,g,ad];have k:(t.bf.map (AV.p∘fy)).take (j+1)=t.bf.map (AV.p∘fy):=an (by simp;omega);have l:(t.aj.map (AV.p∘bu)).take (c+1)=t.aj.map (AV.p∘bu):=an (by simp;omega);simp[b8,hc,k,l,oV,oU];omega
 ·simp[hc];refine⟨⟨by repeat' first|rfl|apply ab,by repeat' first|rfl|apply ab⟩,?_⟩;refine lp (α:=Nat) (fun i=>match i with
    |0=>⟨[(18,.p (.int .i64 0)),(17,.p (.int .i64 t.bf.length)),(16,.p (.seq (t.bf.map fy))),(3,.ptr 4 []),(2,.ptr 1 []),(1,.ptr 0 [])],[.box false (.p (cV t)),.box false (.p (.st 37 [.aP,.int .i64 0,.aP,.aP])),.arr .exact 0 2 [],.arr .grow 0 2 (t.cs.map (AV.p∘bV)),.box false (.st 37 [.sl 3 0 2 0 t.cs.length,.p (.int .i64 t.bm),.p .aP,.p .aP])]⟩
    |m+1=>⟨[(18,.p (.int .i64 ((m+1:Nat):Int))),(17,.p (.int .i64 t.bf.length)),(16,.p (.seq (t.bf.map fy))),(3,.ptr 4 []),(2,.ptr 1 []),(1,.ptr 0 [])],[.box false (.p (cV t)),.box false (.p (.st 37 [.aP,.int .i64 0,.aP,.aP])),.arr .exact 0 2 [],.arr .grow 0 2 (t.cs.map (AV.p∘bV)),.box false (.st 37 [.sl 3 0 2 0 t.cs.length,.p (.int .i64 t.bm),.sl 7 m 4 0 (m+1),.p .aP]),.hole,.hole,.arr .grow m 4 ((t.bf.take (m+1)).map (AV.p∘fy))]⟩) (fun i=>i<=t.bf.length) (fun i=>t.bf.length-i) 0 (by simp) ?_
  rintro i q
  by_cases hi:i<t.bf.length
  ·have a:=aq.lJ hi;rcases i with _|j
   ·have b:=sW a;simp[hi,a,o,ad];exact⟨by omega,rd 1 hi (hh:=by simp[b]) (hr2:=by simp[iy])⟩
   ·have h:ac.wrap ((j:Int)+1+1)=(j:Int)+1+1:=aO _ (by omega) (by omega);have hI:(j:Int)+1<t.bf.length:=by omega
    have b:=sV (f:=AV.p∘fy) a;simp[hi,hI,a,h,ad];exact⟨by omega,⟨by omega,by omega⟩,rd (j+2) hi (hh:=by simp at b;simp[b]) (hr2:=by simp[iy])⟩
  have r:i=t.bf.length:=by omega
  rcases i with _|j
  ·have n:t.bf=[]:=ap.1 r.symm;simp[n,ad];refine lp (α:=Nat) (fun i=>match i with
     |0=>⟨[(32,.p (.int .i64 0)),(31,.p (.int .i64 t.aj.length)),(30,.p (.seq (t.aj.map bu))),(3,.ptr 4 []),(2,.ptr 1 []),(1,.ptr 0 [])],[.box false (.p (cV t)),.box false (.p (.st 37 [.aP,.int .i64 0,.aP,.aP])),.arr .exact 0 2 [],.arr .grow 0 2 (t.cs.map (AV.p∘bV)),.box false (.st 37 [.sl 3 0 2 0 t.cs.length,.p (.int .i64 t.bm),.p .aP,.p .aP])]⟩
     |m+1=>⟨[(32,.p (.int .i64 ((m+1:Nat):Int))),(31,.p (.int .i64 t.aj.length)),(30,.p (.seq (t.aj.map bu))),(3,.ptr 4 []),(2,.ptr 1 []),(1,.ptr 0 [])],[.box false (.p (cV t)),.box false (.p (.st 37 [.aP,.int .i64 0,.aP,.aP])),.arr .exact 0 2 [],.arr .grow 0 2 (t.cs.map (AV.p∘bV)),.box false (.st 37 [.sl 3 0 2 0 t.cs.length,.p (.int .i64 t.bm),.p .aP,.sl 7 m 3 0 (m+1)]),.hole,.hole,.arr .grow m 3 ((t.aj.take (m+1)).map (AV.p∘bu))]⟩) (fun i=>i<=t.aj.length) (fun i=>t.aj.length-i) 0 (by simp) ?_
   rintro i q
   by_cases hi:i<t.aj.length
   ·have a:=aq.dZ hi;rcases i with _|j
    ·have b:=sW a;simp[hi,a,o,ad];exact⟨by omega,rd 1 hi (hh:=by simp[b]) (hr2:=by simp[iy])⟩
    ·have h:ac.wrap ((j:Int)+1+1)=(j:Int)+1+1:=aO _ (by omega) (by omega);have hI:(j:Int)+1<t.aj.length:=by omega
     have b:=sV (f:=AV.p∘bu) a;simp[hi,hI,a,h,ad];exact⟨by omega,⟨by omega,by omega⟩,rd (j+2) hi (hh:=by simp at b;simp[b]) (hr2:=by simp[iy])⟩
   have d:i=t.aj.length:=by omega
   rcases i with _|c
   ·have e:t.aj=[]:=ap.1 d.symm;simp[e,ad];simp[b8,hc,n,e,oV,oU]
   ·have hI:¬((c:Int)+1<t.aj.length):=by omega
    have g:t.aj.take (c+1)=t.aj:=by rw[d,ao]
    simp[hI,g,ad];have l:(t.aj.map (AV.p∘bu)).take (c+1)=t.aj.map (AV.p∘bu):=an (by simp;omega);simp[b8,hc,n,l,oV,oU];omega
  ·have hI:¬((j:Int)+1<t.bf.length):=by omega
   have g:t.bf.take (j+1)=t.bf:=by rw[r,ao]
   simp[hI,g,ad];refine lp (α:=Nat) (fun i=>match i with
    |0=>⟨[(32,.p (.int .i64 0)),(31,.p (.int .i64 t.aj.length)),(30,.p (.seq (t.aj.map bu))),(3,.ptr 4 []),(2,.ptr 1 []),(1,.ptr 0 [])],[.box false (.p (cV t)),.box false (.p (.st 37 [.aP,.int .i64 0,.aP,.aP])),.arr .exact 0 2 [],.arr .grow 0 2 (t.cs.map (AV.p∘bV)),.box false (.st 37 [.sl 3 0 2 0 t.cs.length,.p (.int .i64 t.bm),.sl 7 j 4 0 (j+1),.p .aP]),.hole,.hole,.arr .grow j 4 (t.bf.map (AV.p∘fy))]⟩
    |m+1=>⟨[(32,.p (.int .i64 ((m+1:Nat):Int))),(31,.p (.int .i64 t.aj.length)),(30,.p (.seq (t.aj.map bu))),(3,.ptr 4 []),(2,.ptr 1 []),(1,.ptr 0 [])],[.box false (.p (cV t)),.box false (.p (.st 37 [.aP,.int .i64 0,.aP,.aP])),.arr .exact 0 2 [],.arr .grow 0 2 (t.cs.map (AV.p∘bV)),.box false (.st 37 [.sl 3 0 2 0 t.cs.length,.p (.int .i64 t.bm),.sl 7 j 4 0 (j+1),.sl 10 m 3 0 (m+1)]),.hole,.hole,.arr .grow j 4 (t.bf.map (AV.p∘fy)),.hole,.hole,.arr .grow m 3 ((t.aj.take (m+1)).map (AV.p∘bu))]⟩) (fun i=>i<=t.aj.length) (fun i=>t.aj.length-i) 0 (by simp) ?_
   rintro i q
   by_cases hi:i<t.aj.length
   ·have a:=aq.dZ hi;rcases i with _|j
    ·have b:=sW a;simp[hi,a,o,ad];exact⟨by omega,rd 1 hi (hh:=by simp[b]) (hr2:=by simp[iy])⟩
    ·have h:ac.wrap ((j:Int)+1+1)=(j:Int)+1+1:=aO _ (by omega) (by omega);have hI:(j:Int)+1<t.aj.length:=by omega
     have b:=sV (f:=AV.p∘bu) a;simp[hi,hI,a,h,ad];exact⟨by omega,⟨by omega,by omega⟩,rd (j+2) hi (hh:=by simp at b;simp[b]) (hr2:=by simp[iy])⟩
   have d:i=t.aj.length:=by omega
   rcases i with _|c
   ·have e:t.aj=[]:=ap.1 d.symm;simp[e,ad];have k:(t.bf.map (AV.p∘fy)).take (j+1)=t.bf.map (AV.p∘fy):=an (by simp;omega);simp[b8,hc,k,e,oV,oU];omega
   ·have hI:¬((c:Int)+1<t.aj.length):=by omega
    have g:t.aj.take (c+1)=t.aj:=by rw[d,ao]
    simp[hI,g,ad];have k:(t.bf.map (AV.p∘fy)).take (j+1)=t.bf.map (AV.p∘fy):=an (by simp;omega);have l:(t.aj.map (AV.p∘bu)).take (c+1)=t.aj.map (AV.p∘bu):=an (by simp;omega);simp[b8,hc,k,l,oV,oU];omega
def eO(r:Int)(a b:V2):Int:=fc ((a.sub b).dot (a.sub b)) (rj r)
def gE(t:aq)(bef:List cQ)(s:cQ):Int:=
 if isName s.name=false then 8
 else if bef.any (fun o=>decide (o.name=s.name))=true then 9
 else if cq s.pt≠0 then cq s.pt
 else if t.on (vP s.pt)<0 then 16
 else if bef.any (fun o=>decide (eO t.bm (vP o.pt) (vP s.pt)<0))=true then 17 else 0
def j0(t b:aq):Int:=if 24<b.aj.length then 5 else jJ (gE t) b.aj
def gD(t b:aq):Int:=if dH t≠0 then dH t else j0 t b
structure lh(b:aq):Prop where
 sl:b.aj.length<=1000000
 sp:∀s∈b.aj,jU s
theorem sX{t:aq}(h:dH t=0):1<=t.bm/\t.bm<=1000:=by
 rw[dH]at h
 split at h
 ·omega
 split at h
 ·omega
 split at h
 ·omega
 split at h
 ·omega
 split at h
 ·omega
 omega
theorem th{s:ez}(h:cq s=0):eV (vP s)=dB s/\b9 2000 (vP s):=by
 obtain⟨g1,g2⟩:=gV h;refine⟨?_,fJ g1,fJ g2⟩;rw[eV,vP];dsimp only;rw[(jA g1).1,(jA g2).1]
theorem TA(t:aq)(a:0<=t.bm)(b:t.bm<=1000000):aC prog 205 [cV t] (.str (bc (rj t.bm))):=by
 have f:=Da a b;have c:=DP (4*t.bm*t.bm) (by omega) (by omega);have d:ac.wrap (4*t.bm)=4*t.bm:=aO _ (by omega) (by omega);have e:ac.wrap (4*t.bm*t.bm)=4*t.bm*t.bm:=aO _ (by omega) (by omega);refine aM nf Iw mix (by simp[f205]) ?_;rw[rj];simp[f205,ad,d,e];refine c1 c ?_;simp
theorem TC(t:aq)(a b:V2)(d:0<=t.bm)(e:t.bm<=1000000)(f:b9 2000 a)(g:b9 2000 b):aC prog 104 [cV t,eV a,eV b] (.int .i64 (eO t.bm a b)):=by
 have c:=oD f g;have k1:=AE a b (f.mono (by decide)) (g.mono (by decide));have k2:=TU (a.sub b) (c.mono (by decide));have k3:=TA t d e;have k4:=vi ((a.sub b).dot (a.sub b)) (rj t.bm) ((BT c c).mono (by decide)) ((IQ d e).mono (by decide));refine aM nf Ph mix (by simp[f104]) ?_;rw[eO];simp[f104,ad];refine e2 k1 ?_;simp[ad];refine e1 k2 ?_;simp[ad];refine e1 k3 ?_;simp[ad];refine e2 k4 ?_;simp[ad]
theorem Hj{α:Type}{f:α->Bool}{l:List α}{i j:Nat}{x:α}(h:l[j]?=some x)(a:j<i)(hf:f x=true):(l.take i).any f=true:=by
 rw[ax];exact⟨x,am (i:=j) (by rw[a1,if_pos a];exact h),hf⟩
theorem BE{t:aq}{a:List cQ}{s:cQ}(h:gE t a s=0):cq s.pt=0:=by
 rw[gE]at h
 split at h
 ·omega
 split at h
 ·omega
 split at h
 ·contradiction
 ·rename_i g;exact Decidable.not_not.1 g
theorem Hi(t b:aq)(v:dH t=0)(z:lh b)(A:t.cs.length<=1000000):aC prog 32 [cV t,.seq (b.aj.map bu)] (.int .i64 (j0 t b)):=by
 obtain⟨P,C⟩:=z;obtain⟨_,_,B,_⟩:=lP v;obtain⟨Q,R⟩:=sX v;refine aM nf QC mix (by simp[f32]) ?_;rw[j0]
 by_cases c4:24<b.aj.length
 ·have cI:(24:Int)<b.aj.length:=by omega
  rw[if_pos c4];simp[f32,ad,cI]
 have x:¬(24:Int)<b.aj.length:=by omega
 rw[if_neg c4];simp[f32,ad,x];refine lp (α:=Nat) (fun i=>⟨[(5,.p (.int .i64 i)),(2,.ptr 0 []),(1,.p (.seq (b.aj.map bu)))],[.box false (.p (cV t))]⟩) (fun i=>i<=b.aj.length/\∀j,j<i->fS (gE t) b.aj j=0) (fun i=>b.aj.length-i) 0 (by simp) ?_;rintro i ⟨s1,s2⟩
 by_cases hs:i<b.aj.length
 case neg=>
  have:i=b.aj.length:=by omega
  subst this;rw[lR.2 s2];simp[ad]
 have a:=aq.dZ hs;have D:=cr (i:=i) (by omega);obtain⟨I,J⟩:=C _ (am a);have g:=Bm (b.sp i).name I.1;have y:=yt (b.sp i).pt J;have e:gE t (b.aj.take i) (b.sp i)≠0->jJ (gE t) b.aj=gE t (b.aj.take i) (b.sp i):=sU s2 a;have H:gE t (b.aj.take i) (b.sp i)=0->∀j,j<i+1->fS (gE t) b.aj j=0:=sT s2 a;have M:∀j,j<i->cq (b.sp j).pt=0:=fun j c=>by
  have:=s2 j c;rw[fS,aq.dZ (by omega)]at this;exact BE this
 have ev:gE t (b.aj.take i) (b.sp i)=if isName (b.sp i).name=false then 8 else if(b.aj.take i).any (fun o=>decide (o.name=(b.sp i).name))=true then 9 else if cq (b.sp i).pt≠0 then cq (b.sp i).pt else if t.on (vP (b.sp i).pt)<0 then 16 else if(b.aj.take i).any (fun o=>decide (eO t.bm (vP o.pt) (vP (b.sp i).pt)<0))=true then 17 else 0:=rfl
 clear s2;generalize gE t (b.aj.take i) (b.sp i)=E at*;generalize jJ (gE t) b.aj=N at*;cases m:isName (b.sp i).name
 ·rw[m]at g;rw[m,if_pos rfl]at ev;rw[e (by rw[ev];decide),ev];simp[hs,a,ad];refine Go.au.c1 g ?_;simp[ad]
 rw[m]at g;rw[m,if_neg (by decide)]at ev;simp[hs,a,ad];refine Go.au.c1 g ?_;simp[ad];refine lp (α:=Nat) (fun k=>⟨[(6,.p (.int .i64 k)),(5,.p (.int .i64 i)),(2,.ptr 0 []),(1,.p (.seq (b.aj.map bu)))],[.box false (.p (cV t))]⟩) (fun k=>k<=i/\(b.aj.take k).any (fun o=>decide (o.name=(b.sp i).name))=false) (fun k=>i-k) 0 (by simp) ?_;rintro k ⟨k1,k2⟩
 by_cases hk:k<i
 ·have s:k<b.aj.length:=by omega
  have gk:=aq.dZ s;have G:=cr (i:=k) (by omega)
  by_cases l:(b.sp k).name=(b.sp i).name
  ·rw[if_pos (Hj gk hk (by simp[l]))]at ev;rw[e (by rw[ev];decide),ev];simp[hs,hk,s,gk,a,l,ad]
  ·simp[hs,hk,s,gk,a,l,G,ad];exact rd (k+1) ⟨hk,by rw[vh gk,k2];simp[l]⟩
 have:k=i:=by omega
 subst this;rw[k2,if_neg (by decide)]at ev;clear k1 k2 hk;have d0:¬k<k:=by omega
 simp[d0,hs,a,ad];refine Go.au.c1 y ?_
 by_cases d:cq (b.sp k).pt=0
 case neg=>
  rw[if_pos d]at ev;rw[e (by rw[ev];exact d),ev];simp[d,ad]
 rw[if_neg (by simp[d])]at ev;obtain⟨pl,ok⟩:=th d;have u:=PS t (vP (b.sp k).pt) A B (ok.mono (by decide));rw[pl]at u;simp[d,hs,a,ad];refine Go.au.e2 u ?_
 by_cases n:t.on (vP (b.sp k).pt)<0
 ·rw[if_pos n]at ev;rw[e (by rw[ev];decide),ev];simp[n,ad]
 rw[if_neg n]at ev;simp[n,ad];refine lp (α:=Nat) (fun j=>⟨[(8,.p (.int .i64 j)),(5,.p (.int .i64 k)),(2,.ptr 0 []),(1,.p (.seq (b.aj.map bu)))],[.box false (.p (cV t))]⟩) (fun j=>j<=k/\(b.aj.take j).any (fun o=>decide (eO t.bm (vP o.pt) (vP (b.sp k).pt)<0))=false) (fun j=>k-j) 0 (by simp) ?_;rintro j ⟨O,w⟩
 by_cases c:j<k
 ·have r:j<b.aj.length:=by omega
  have f:=aq.dZ r;have F:=cr (i:=j) (by omega);obtain⟨L,K⟩:=th (M j c);have q:=TC t (vP (b.sp j).pt) (vP (b.sp k).pt) (by omega) (by omega) K ok;rw[pl,L]at q
  by_cases h:eO t.bm (vP (b.sp j).pt) (vP (b.sp k).pt)<0
  ·rw[if_pos (Hj f c (by simp[h]))]at ev;rw[e (by rw[ev];decide),ev];simp[hs,c,r,f,a,ad];refine Go.au.e3 q ?_;simp[h,ad]
  ·simp[hs,c,r,f,a,ad];refine Go.au.e3 q ?_;simp[h,F,ad];exact rd (j+1) ⟨c,by rw[vh f,w];simp[h]⟩
 have:j=k:=by omega
 subst this;rw[w,if_neg (by decide)]at ev;simp[d0,D,ad];exact rd (j+1) ⟨hs,H ev⟩
theorem S5(t b:aq)(a:iM t)(c:lh b):aC prog 44 [cV t,.seq (b.aj.map bu)] (.int .i64 (gD t b)):=by
 have k1:=Ss t a;refine aM nf QL mix (by simp[f44]) ?_;rw[gD]
 by_cases h:dH t=0
 ·rw[if_neg (by simp[h])];have k2:=Hi t b h c a.cl;rw[h]at k1;simp[f44,ad];refine Go.au.c1 k1 ?_;simp[ad];refine Go.au.c2 k2 ?_;simp[ad]
 ·rw[if_pos h];generalize dH t=e at*;simp[f44,ad];refine Go.au.c1 k1 ?_;simp[h,ad]
theorem ZH(v w:NV)(a:b9 kQ v.q)(b:b9 kQ w.q):aC prog 145 [dL v,dL w] (eF (v.dot w)):=by
 have c:=tY v.x w.x (fa a.1) (fa b.1);have d:=tY v.y w.y (fa a.2) (fa b.2);have e:=uI (v.x.mul w.x) (v.y.mul w.y) ((jx a.1 b.1).mono (by decide)) ((jx a.2 b.2).mono (by decide));refine aM nf Pf mix (by simp[f145]) ?_;rw[NV.dot];simp[f145,ad];refine e2 c ?_;simp[ad];refine e2 d ?_;simp[ad];refine e2 e ?_;simp[ad]
theorem Ty(t:aq)(a:0<=t.bm)(b:t.bm<=1000000):aC prog 137 [b8 t] (eF (.width t.bm)):=by
 have f:=Da a b;have c:=sf (4*t.bm*t.bm) (by omega) (by omega);have d:ac.wrap (4*t.bm)=4*t.bm:=aO _ (by omega) (by omega);have e:ac.wrap (4*t.bm*t.bm)=4*t.bm*t.bm:=aO _ (by omega) (by omega);refine aM nf H9 mix (by simp[f137]) ?_;rw[NF.width];simp[f137,ad,d,e];refine c1 c ?_;simp[ad]
theorem aJ1(a b:V2):(b.sub a).dot (b.sub a)=(a.sub b).dot (a.sub b):=by
 simp only[V2.sub,V2.dot]
 grind
theorem Tz(t:aq)(a b:NV)(d:0<=t.bm)(e:t.bm<=1000000)(f:b9 2000 a.q)(g:b9 2000 b.q):aC prog 204 [b8 t,dL a,dL b] (.int .i64 (eO t.bm a.q b.q)):=by
 have c:=oD g f;rw[<-NV.om]at c;have k1:=Bu b a (g.mono (by decide)) (f.mono (by decide));have k2:=ZH (b.sub a) (b.sub a) (c.mono (by decide)) (c.mono (by decide));have k3:=Ty t d e;have k4:=uH ((b.sub a).dot (b.sub a)) (.width t.bm) (by rw[NV.Qa];exact(BT c c).mono (by decide)) ((IQ d e).mono (by decide));have hq:fc ((b.sub a).dot (b.sub a)).q (NF.width t.bm).q=eO t.bm a.q b.q:=by
  rw[eO,NV.Qa,NV.om,aJ1];rfl
 rw[hq]at k4;refine aM nf Ix mix (by simp[f204]) ?_;simp[f204,ad];refine c2 k1 ?_;simp[ad];refine e2 k2 ?_;simp[ad];refine e1 k3 ?_;simp[ad];refine e2 k4 ?_;simp[ad]
def sH(p:cQ):Prop:=jU p/\cq p.pt=0
theorem arE(t:aq)(v:NV)(o:cQ)(b:0<=t.bm)(c:t.bm<=1000000)(e:b9 2000 v.q)(d:sH o):
 cw prog 203 [.box false (.p (b8 t)),.box false (.p (dL v))] [.p (bu o),.ptr 0 [],.ptr 1 []] [.box false (.p (b8 t)),.box false (.p (dL v))] (.p (.bool (decide (eO t.bm (vP o.pt) v.q<0)))):=by
 obtain⟨⟨h,f⟩,a⟩:=d;obtain⟨g1,g2⟩:=gV a;obtain⟨_,ok⟩:=th a;have k1:=qH o.pt g1 g2 f;have k2:=Tz t (.from o.pt) v b c (by rw[oF];exact ok) e;rw[oF]at k2;generalize eO t.bm (vP o.pt) v.q=y at*;generalize NV.from o.pt=g at*;refine fV nf Iy mix (by simp[f203]) ?_;simp[f203,ad];refine Go.au.e1 k1 ?_;simp[ad];refine Go.au.e3 k2 ?_;simp[ad];exact dt.og (by simp) (by simp) (by simp) (by simp) (by simp)
theorem TI(t:aq)(v:NV)(l:List cQ)(h:l.length<=1000000)(a:0<=t.bm)(b:t.bm<=1000000)(d:b9 2000 v.q)(c:∀o∈l,sH o):
 cw prog 206 [.box false (.p (b8 t)),.box false (.p (dL v))] [.p (.seq (l.map bu)),.func 203 [] [.ptr 0 [],.ptr 1 []]] [.box false (.p (b8 t)),.box false (.p (dL v))] (.p (.int .i64 (idxFrom (fun o=>decide (eO t.bm (vP o.pt) v.q<0)) l 0))):=by
 refine fV nf BQ mix (by simp[f206]) ?_;simp[f206];refine lp (α:=Nat) (fun i=>⟨[(8,.p (.int .i64 i)),(7,.p (.int .i64 l.length)),(1,.func 203 [] [.ptr 0 [],.ptr 1 []]),(0,.p (.seq (l.map bu)))],[.box false (.p (b8 t)),.box false (.p (dL v))]⟩) (fun i=>i<=l.length/\idxFrom (fun o=>decide (eO t.bm (vP o.pt) v.q<0)) l 0=idxFrom (fun o=>decide (eO t.bm (vP o.pt) v.q<0)) (l.drop i) i) (fun i=>l.length-i) 0 (by simp) ?_;rintro i ⟨k1,k2⟩;have e:=cr (i:=i) (by omega)
 by_cases hi:i<l.length
 ·rw[aT hi,idxFrom]at k2;simp[hi];refine cf (arE t v l[i] a b d (c _ (List.getElem_mem hi))) [0,1] ?_
  by_cases hk:eO t.bm (vP l[i].pt) v.q<0
  ·simp[hk]at k2;simp[hk,k2,bd]
  ·simp[hk]at k2;simp[hk,e,bd];exact rd (i+1) ⟨hi,k2⟩
 ·have:i=l.length:=by omega
  subst this;simp[idxFrom]at k2;simp[k2]
theorem S1(t:aq)(v:NV)(l:List cQ)(h:l.length<=1000000)(a:0<=t.bm)(b:t.bm<=1000000)(d:b9 2000 v.q)(c:∀o∈l,sH o):
 cw prog 107 [.box false (.p (b8 t)),.box false (.p (dL v))] [.p (.seq (l.map bu)),.func 203 [] [.ptr 0 [],.ptr 1 []]] [.box false (.p (b8 t)),.box false (.p (dL v))] (.p (.bool (l.any (fun o=>decide (eO t.bm (vP o.pt) v.q<0))))):=by
 refine fV nf Bv mix (by simp[f107]) ?_;simp[f107];refine cf (TI t v l h a b d c) [0,1] ?_;have:=qC (fun o=>decide (eO t.bm (vP o.pt) v.q<0)) l 0;simp[bd,<-this]
theorem BD(t:aq)(v:NV)(l:List cQ)(h:l.length<=1000000)(a:0<=t.bm)(b:t.bm<=1000000)(d:b9 2000 v.q)(c:∀o∈l,sH o):
 aC prog 102 [b8 t,.seq (l.map bu),dL v] (.bool (!l.any (fun o=>decide (eO t.bm (vP o.pt) v.q<0)))):=by
 have k1:=S1 t v l h a b d c;generalize (l.any (fun o=>decide (eO t.bm (vP o.pt) v.q<0)))=y at*;refine aM nf GD mix (by simp[f102]) ?_;simp[f102,ad];refine cf k1 [0,1] ?_;simp[ad,bd]
theorem Tx(p o:cQ):cw prog 108 [.box false (.p (bu p))] [.p (bu o),.ptr 0 []] [.box false (.p (bu p))] (.p (.bool (decide (o.name=p.name)))):=by
 refine fV nf GA mix (by simp[f108]) ?_
 by_cases h:o.name=p.name
 ·simp[f108,ad,h];exact dt.og (by simp) (by simp) (by simp) (by simp) (by simp)
 ·simp[f108,ad,h];exact dt.og (by simp) (by simp) (by simp) (by simp) (by simp)
theorem TH(p:cQ)(l:List cQ)(h:l.length<=1000000):
 cw prog 206 [.box false (.p (bu p))] [.p (.seq (l.map bu)),.func 108 [] [.ptr 0 []]] [.box false (.p (bu p))] (.p (.int .i64 (idxFrom (fun o=>decide (o.name=p.name)) l 0))):=by
 refine fV nf BQ mix (by simp[f206]) ?_;simp[f206];refine lp (α:=Nat) (fun i=>⟨[(8,.p (.int .i64 i)),(7,.p (.int .i64 l.length)),(1,.func 108 [] [.ptr 0 []]),(0,.p (.seq (l.map bu)))],[.box false (.p (bu p))]⟩) (fun i=>i<=l.length/\idxFrom (fun o=>decide (o.name=p.name)) l 0=idxFrom (fun o=>decide (o.name=p.name)) (l.drop i) i) (fun i=>l.length-i) 0 (by simp) ?_;rintro i ⟨k1,k2⟩;have a:=cr (i:=i) (by omega)
 by_cases hi:i<l.length
 ·rw[aT hi,idxFrom]at k2;simp[hi];refine cf (Tx p l[i]) [0] ?_
  by_cases hk:l[i].name=p.name
  ·simp[hk]at k2;simp[hk,k2,bd]
  ·simp[hk]at k2;simp[hk,a,bd];exact rd (i+1) ⟨hi,k2⟩
 ·have:i=l.length:=by omega
  subst this;simp[idxFrom]at k2;simp[k2]
theorem S0(p:cQ)(l:List cQ)(h:l.length<=1000000):
 cw prog 107 [.box false (.p (bu p))] [.p (.seq (l.map bu)),.func 108 [] [.ptr 0 []]] [.box false (.p (bu p))] (.p (.bool (l.any (fun o=>decide (o.name=p.name))))):=by
 refine fV nf Bv mix (by simp[f107]) ?_;simp[f107];refine cf (TH p l h) [0] ?_;have:=qC (fun o=>decide (o.name=p.name)) l 0;simp[bd,<-this]
def vu(r:Int)(a:List cQ)(v:V2):Bool:=a.any (fun o=>decide (eO r (vP o.pt) v<0))
def AH(t:aq)(a:List cQ)(s:cQ):Int:=bJ [aY (decide (t.on (vP s.pt)<0)) 16,aY (a.any (fun o=>decide (eO t.bm (vP o.pt) (vP s.pt)<0))) 17]
theorem TL(t:aq)(a:List cQ)(s:cQ):gE t a s=if jg a s=0 then AH t a s else jg a s:=by
 rw[gE,jg,AH];generalize t.on (vP s.pt)=y;generalize cq s.pt=d;generalize (a.any fun o=>decide (o.name=s.name))=e;generalize (a.any fun o=>decide (eO t.bm (vP o.pt) (vP s.pt)<0))=f;generalize isName s.name=g;cases g
 ·simp[bJ,aY]
 cases e
 case true=>simp[bJ,aY]
 by_cases b:d=0
 case neg=>simp[bJ,aY,b]
 by_cases c:y<0
 ·simp[bJ,aY,b,c]
 cases f
 ·simp[bJ,aY,b,c]
 ·simp[bJ,aY,b,c]
theorem arN(t:aq)(s:cQ)(a:List cQ)(v:t.cs.length<=1000000)(g:dH t=0)(hs:jU s)(f:a.length<=1000000)(u:∀o∈a,sH o):
 cw prog 106 [.box false (.p (b8 t))] [.p (bu s),.p (.seq (a.map bu)),.ptr 0 []] [.box false (.p (b8 t))] (.p (.int .i64 (gE t a s))):=by
 obtain⟨_,_,w,_⟩:=lP g;obtain⟨J,K⟩:=sX g;obtain⟨D,k⟩:=hs;have k1:=S0 s a f;have k2:=Br s.name D.1;have k3:=ic (!isName s.name) 8;have k4:=ic (a.any fun o=>decide (o.name=s.name)) 9;have k6:=tu s.pt k;have k8:=mH [aY (!isName s.name) 8,aY (a.any fun o=>decide (o.name=s.name)) 9,cq s.pt] (by simp);have b:=Gg (bef:=a) (s:=s);rw[TL];have x:=fun h:jg a s=0=>qH s.pt (gV (b h)).1 (gV (b h)).2 k;have i:=fun h:jg a s=0=>vx t (.from s.pt) v w (vF ⟨(fJ (gV (b h)).1).mono (by decide),(fJ (gV (b h)).2).mono (by decide)⟩);have z:=ic (decide (t.on (vP s.pt)<0)) 16;have j:jg a s=0->aC prog 102 [b8 t,.seq (a.map bu),dL (.from s.pt)] (.bool (!vu t.bm a (NV.from s.pt).q)):=fun h=>BD t (.from s.pt) a f (by omega) (by omega) (vF ⟨fJ (gV (b h)).1,fJ (gV (b h)).2⟩) u;have A:=ic (vu t.bm a (vP s.pt)) 17;have d:=mH [aY (decide (t.on (vP s.pt)<0)) 16,aY (vu t.bm a (vP s.pt)) 17] (by simp);simp only[oF]at i j;have d1:jg a s=bJ [aY (!isName s.name) 8,aY (a.any fun o=>decide (o.name=s.name)) 9,cq s.pt]:=rfl;have d2:AH t a s=bJ [aY (decide (t.on (vP s.pt)<0)) 16,aY (vu t.bm a (vP s.pt)) 17]:=rfl;rw[<-d1]at k8;rw[<-d2]at d;clear d1 d2 b;generalize jg a s=e at*;generalize AH t a s=r at*;generalize vu t.bm a (vP s.pt)=m at*;generalize t.on (vP s.pt)=y at*;generalize cq s.pt=E at*;generalize (a.any fun o=>decide (o.name=s.name))=l at*;generalize isName s.name=n at*;generalize NV.from s.pt=v1 at*;refine fV nf Pg mix (by simp[f106]) ?_;have C:aC prog 71 [.seq [.int .i64 (aY (!n) 8),.int .i64 (aY l 9),.int .i64 E]] (.int .i64 e):=by simpa using k8
 have B:aC prog 71 [.seq [.int .i64 (aY (decide (y<0)) 16),.int .i64 (aY m 17)]] (.int .i64 r):=by simpa using d
 clear k8 d;generalize F:aY (!n) 8=L at*;generalize G:aY l 9=M at*;generalize H:aY (decide (y<0)) 16=N at*;generalize I:aY m 17=O at*;simp[f106,ad];refine cf k1 [1] ?_;simp[ad,bd,sig];refine Go.au.e1 k2 ?_;simp[ad];refine Go.au.e2 k3 ?_;simp[ad];refine Go.au.e2 k4 ?_;simp[ad];refine Go.au.e1 k6 ?_;simp[ad];refine ep C (by simp;first|exact⟨rfl,rfl⟩|rfl) (by simp;first|exact⟨rfl,rfl⟩|rfl) ?_;simp[ad];refine⟨by repeat' first|rfl|apply ab,?_⟩
 by_cases c:e=0
 case neg=>
  simp[c,ad];exact dt.og (by simp) (by simp) (by simp) (by simp) (by simp)
 simp[c,ad];refine Go.au.c1 (x c) ?_;simp[ad];refine Go.au.e2 (i c) ?_;simp[ad];refine Go.au.e2 z ?_;simp[ad];refine Go.au.e3 (j c) ?_;simp[ad];refine Go.au.e2 A ?_;simp[ad];refine ep B (by simp;first|exact⟨rfl,rfl⟩|rfl) (by simp;first|exact⟨rfl,rfl⟩|rfl) ?_;simp[ad];refine⟨by repeat' first|rfl|apply ab,?_⟩;exact⟨fun h=>(h c).elim,dt.og (by simp) (by simp) (by simp) (by simp) (by simp)⟩
theorem KQ(l:List cQ):fg prog 3 (l.map (AV.p∘bu)):=zJ (fun r=>⟨by simp[ad],by simp[ad]⟩) l
theorem asf(t b:aq)(h:t.cs.length<=1000000)(l:dH t=0)(c:lh b):
 cw prog 105 [.box false (.p (b8 t))] [.p (.seq (b.aj.map bu)),.p (.int .i64 24),.func 106 [] [.ptr 0 []]] [.box false (.p (b8 t))] (.p (.int .i64 (j0 t b))):=by
 obtain⟨n,d⟩:=c;refine fV nf GB mix (by simp[f105]) ?_;rw[j0]
 by_cases c1:24<b.aj.length
 ·have cI:(24:Int)<b.aj.length:=by omega
  rw[if_pos c1];simp[f105,cI]
 have e:¬(24:Int)<b.aj.length:=by omega
 rw[if_neg c1];simp[f105,e];refine lp (α:=Nat) (fun i=>⟨[(16,.p (.int .i64 i)),(15,.p (.int .i64 b.aj.length)),(14,.p (.seq (b.aj.map bu))),(2,.func 106 [] [.ptr 0 []]),(0,.p (.seq (b.aj.map bu)))],[.box false (.p (b8 t))]⟩) (fun i=>i<=b.aj.length/\∀j,j<i->fS (gE t) b.aj j=0) (fun i=>b.aj.length-i) 0 (by simp) ?_;rintro i ⟨k1,k2⟩
 by_cases hk:i<b.aj.length
 ·have gk:=aq.dZ hk;have m:=cr (i:=i) (by omega);have a:=arN t (b.sp i) (b.aj.take i) h l (d _ (am gk)) (by rw[a4];omega) (fun o k=>by
   obtain⟨j,f,rfl⟩:=av.1 k;rw[a4]at f;rw[List.getElem_take];have:=k2 j (by omega);have g:=aq.dZ (t:=b) (i:=j) (by omega);rw[fS,g]at this;rw[aq.nD (by omega)];exact⟨d _ (am g),BE this⟩)
  rw[a5]at a
  by_cases he:gE t (b.aj.take i) (b.sp i)=0
  ·rw[he]at a;have:=sT k2 gk he;simp[hk,gk,ad];refine⟨⟨k1,KQ _⟩,?_⟩;refine ef a [0] ?_;simp[m,ad,bd,sig];exact rd (i+1) ⟨hk,this⟩
  ·have c:=sU k2 gk he;rw[c];simp[hk,gk,ad];refine⟨⟨k1,KQ _⟩,?_⟩;refine ef a [0] ?_;simp[he,ad,bd,sig];exact dt.og (by simp) (by simp) (by simp) (by simp) (by simp)
 ·have:i=b.aj.length:=by omega
  subst this;rw[lR.2 k2];simp
theorem Bw(t b:aq)(a:iM t)(c:lh b):aC prog 36 [b8 t,.seq (b.aj.map bu)] (.int .i64 (gD t b)):=by
 have k1:=Bo t a;refine aM nf QG mix (by simp[f36]) ?_;rw[gD]
 by_cases h:dH t=0
 ·rw[if_neg (by simp[h])];have k2:=asf t b a.cl h c;rw[h]at k1;simp[f36,ad];refine Go.au.c1 k1 ?_;simp[ad];refine cf k2 [0] ?_;simp[ad,bd]
 ·rw[if_pos h];generalize dH t=e at*;simp[f36,ad];refine Go.au.c1 k1 ?_;simp[h,ad]
def EF(l:List cQ)(n:List Nat):Option cQ:=l.find? (fun s=>decide (s.name=n))
structure Rp(b:aq):Prop where
 sl:b.aj.length<=24
 sp:∀s∈b.aj,sH s
 ne:∀i,i<b.aj.length->EF (b.aj.take i) (b.sp i).name=none
theorem aHy{t b:aq}(l:lh b)(h:gD t b=0):dH t=0/\Rp b/\(∀s∈b.aj,0<=t.on (vP s.pt)):=by
 rw[gD]at h
 by_cases c:dH t=0
 case neg=>rw[if_pos c]at h;exact absurd h c
 rw[if_neg (by simp[c]),j0]at h
 by_cases f:24<b.aj.length
 ·rw[if_pos f]at h;omega
 rw[if_neg f]at h;have k:=lR.1 h;have d:∀i,i<b.aj.length->gE t (b.aj.take i) (b.sp i)=0:=fun i hi=>by
  have:=k i hi
  rwa [fS,aq.dZ hi]at this
 refine⟨c,⟨by omega,fun s hs=>?_,fun i hi=>?_⟩,fun s hs=>?_⟩
 ·obtain⟨j,a,rfl⟩:=av.1 hs;rw[aq.nD a];exact⟨l.sp _ (am (aq.dZ a)),BE (d j a)⟩
 ·have:=d i hi;rw[gE]at this
  split at this
  ·omega
  split at this
  ·omega
  rename_i g;rw[EF,List.find?_eq_none];intro x hx e;exact g (ax.2 ⟨x,hx,e⟩)
 ·obtain⟨j,a,rfl⟩:=av.1 hs;rw[aq.nD a];have:=d j a;rw[gE]at this
  split at this
  ·omega
  split at this
  ·omega
  split at this
  ·contradiction
  split at this
  ·omega
  omega
@[simp high] theorem aKY(c:Bool)(H:Heap)(v w:V2):aU prog .eql 47 c H (.p (eV v)) (.p (eV w))=some (True,{v:=.p (.bool (iE (bc v.x) (bc v.y) (bc w.x) (bc w.y)))}):=by
 rw[eV,eV,dB,dB];simp[aU]
def hasB(b:aq)(name:List Nat)(i:Nat):Prop:=kY b name=i/\i<b.aj.length/\EF b.aj name=some (b.sp i)
structure Rq(t b:aq)(Ey Er:List Nat)(i j:Nat):Prop where
 sP:dH t=0
 tl:t.cs.length<=1000000
 L:Rp b
 Za:∀s∈b.aj,b9 60 (vP s.pt)
 ci:hasB b Ey i
 bj:hasB b Er j
theorem Rq.at{t b:aq}{Ey Er:List Nat}{i j:Nat}(h:Rq t b Ey Er i j){k:Nat}(hk:k<b.aj.length):eV (vP (b.sp k).pt)=dB (b.sp k).pt/\b9 60 (vP (b.sp k).pt):=by
 have m:=am (aq.dZ hk);exact⟨(th (h.L.sp _ m).2).1,h.Za _ m⟩
def sO(n:Nat)(l:List cQ):Bool:=!((decide (n<l.length)&&decide (l.length<=24))||decide (26<l.length))&&l.all gK
theorem Th(b:aq)(n:Nat)(v:b.aj.length<=1000000)(w:n<=1000):aC prog 41 [.seq (b.aj.map bu),.int .i64 n] (.bool (sO n b.aj)):=by
 refine aM nf QK mix (by simp[f41]) ?_;have o:sO n b.aj=(!((decide (n<b.aj.length)&&decide (b.aj.length<=24))||decide (26<b.aj.length))&&b.aj.all gK):=rfl;have tail:(n<b.aj.length->¬b.aj.length<=24)->¬26<b.aj.length->sO n b.aj=b.aj.all gK:=fun d a=>by
  rw[o]
  by_cases h:n<b.aj.length
  ·have:=d h;simp[h,this,a]
  ·simp[h,a]
 have loop:(n<b.aj.length->¬b.aj.length<=24)->¬26<b.aj.length->∀i,i<b.aj.length->(gK (b.sp i)=false->sO n b.aj=false):=fun d a i hi h=>by
  rw[tail d a];exact jh (aq.dZ hi) h
 generalize sO n b.aj=R at*
 by_cases c1:n<b.aj.length/\b.aj.length<=24
 ·have z:(n:Int)<b.aj.length:=by omega
  have e:(b.aj.length:Int)<=24:=by omega
  have l:R=false:=by rw[o];simp[c1]
  simp[f41,ad,c1.1,e,l]
 by_cases c2:26<b.aj.length
 ·have g:(26:Int)<b.aj.length:=by omega
  have e:¬(b.aj.length:Int)<=24:=by omega
  have l:R=false:=by rw[o];simp[c2]
  by_cases c3:n<b.aj.length
  ·simp[f41,ad,c3,e,g,l]
  ·simp[f41,ad,c3,g,l]
 have g:¬(26:Int)<b.aj.length:=by omega
 have tl:=tail (fun d a=>c1 ⟨d,a⟩) c2;have j:=loop (fun d a=>c1 ⟨d,a⟩) c2;clear tail loop o
 by_cases c3:n<b.aj.length
 all_goals
  have e:n<b.aj.length->¬(b.aj.length:Int)<=24:=fun h=>by omega
  first
  |(have e:=e c3;simp[f41,ad,c3,e,g])
  |simp[f41,ad,c3,g]
  refine lp (α:=Nat) (fun i=>⟨[(5,.p (.int .i64 i)),(0,.p (.seq (b.aj.map bu)))],[]⟩) (fun i=>i<=b.aj.length/\(b.aj.take i).all gK=true) (fun i=>b.aj.length-i) 0 (by simp) ?_;rintro i ⟨k1,k2⟩
  by_cases hi:i<b.aj.length
  ·have c:=aq.dZ hi;have u:=cr (i:=i) (by omega);have k:=mE (b.sp i).pt.x 40;have q:=mE (b.sp i).pt.y 40;have m:gK (b.sp i)=(decide ((b.sp i).name.length<=40)&&(decide ((b.sp i).pt.x.length<=40)&&decide ((b.sp i).pt.y.length<=40))):=rfl;have j:=j i hi
   by_cases t:(b.sp i).name.length<=40
   case neg=>
    have f:(40:Int)<(b.sp i).name.length:=by omega
    have:=j (by rw[m];simp[t]);simp[hi,c,f,this,ad]
   have f:¬(40:Int)<(b.sp i).name.length:=by omega
   by_cases a2:(b.sp i).pt.x.length<=40
   case neg=>
    have r:¬((b.sp i).pt.x.length:Int)<=40:=by omega
    rw[decide_eq_false r]at k;have:=j (by rw[m];simp[a2]);simp[hi,c,f,ad];refine Go.au.c2 k ?_;simp[this,ad]
   have r:((b.sp i).pt.x.length:Int)<=40:=by omega
   rw[decide_eq_true r]at k
   by_cases a3:(b.sp i).pt.y.length<=40
   case neg=>
    have s:¬((b.sp i).pt.y.length:Int)<=40:=by omega
    rw[decide_eq_false s]at q;have:=j (by rw[m];simp[a3]);simp[hi,c,f,ad];refine Go.au.c2 k ?_;simp[hi,c,ad];refine Go.au.c2 q ?_;simp[this,ad]
   have s:((b.sp i).pt.y.length:Int)<=40:=by omega
   rw[decide_eq_true s]at q;simp[hi,c,f,ad];refine Go.au.c2 k ?_;simp[hi,c,ad];refine Go.au.c2 q ?_;simp[u,ad];exact rd (i+1) ⟨hi,by rw[oT c,k2,m];simp[t,a2,a3]⟩
  ·have:i=b.aj.length:=by omega
   subst this;rw[ao]at k2;rw[tl,k2];simp
def qq(p:ez)(D:Nat):Bool:=eE p.x D&&eE p.y D
def sv(t b:aq)(n D:Nat):Bool:=
 kZ t&&(sO n b.aj&&(decide (b.aj.length<=n)&&(decide (gD t b=0)&&(decide (t.aj.length<=8)&&(t.bf.all (fun p=>eE p.a D&&eE p.b D)&&(t.aj.all (fun s=>qq s.pt D)&&b.aj.all (fun s=>qq s.pt D)))))))
theorem Ii(t b:aq)(n D:Nat)(J:iM t)(H:lh b)(I:n<=1000)(N:D<=1000):aC prog 21 [cV t,.seq (b.aj.map bu),.int .i64 n,.int .i64 D] (.bool (sv t b n D)):=by
 obtain⟨C,E,F,A,B⟩:=J;obtain⟨G,z⟩:=H;have j:=SN t C E F;have l:=Th b n G I;have M:=S5 t b ⟨C,E,F,A,B⟩ ⟨G,z⟩;refine aM nf Qv mix (by simp[f21]) ?_;rw[sv];generalize gD t b=e at*;cases v:kZ t
 ·rw[v]at j;simp[f21,ad];refine Go.au.c1 j ?_;simp[ad]
 rw[v]at j;cases w:sO n b.aj
 ·rw[w]at l;simp[f21,ad];refine Go.au.c1 j ?_;simp[ad];refine Go.au.c2 l ?_;simp[ad]
 rw[w]at l;simp[f21,ad];refine Go.au.c1 j ?_;simp[ad];refine Go.au.c2 l ?_
 by_cases m:b.aj.length<=n
 case neg=>
  have r:n<b.aj.length:=by omega
  simp[m,r,ad]
 have r:¬n<b.aj.length:=by omega
 simp[m,r,ad];refine Go.au.c2 M ?_
 by_cases k:e=0
 case neg=>simp[k,ad]
 by_cases o:t.aj.length<=8
 case neg=>
  have u:(8:Int)<t.aj.length:=by omega
  simp[k,o,u,ad]
 have u:¬(8:Int)<t.aj.length:=by omega
 simp[k,o,u,ad];refine lp (α:=Nat) (fun i=>⟨[(9,.p (.int .i64 i)),(4,.ptr 0 []),(3,.p (.int .i64 D)),(1,.p (.seq (b.aj.map bu)))],[.box false (.p (cV t))]⟩) (fun i=>i<=t.bf.length/\(t.bf.take i).all (fun p=>eE p.a D&&eE p.b D)=true) (fun i=>t.bf.length-i) 0 (by simp) ?_;rintro i ⟨i1,i2⟩
 by_cases hi:i<t.bf.length
 ·have c:=aq.lJ hi;have g:=cr (i:=i) (by omega);obtain⟨_,K,L⟩:=A _ (am c);have d:=AF (t.pk i).a D K (by omega);have f2:=AF (t.pk i).b D L (by omega);have bad:(eE (t.pk i).a D&&eE (t.pk i).b D)=false->t.bf.all (fun p=>eE p.a D&&eE p.b D)=false:=fun h=>jh c h;cases f:eE (t.pk i).a D
  ·rw[f]at d;rw[bad (by rw[f];rfl)];simp[hi,c,ad];refine Go.au.c2 d ?_;simp[ad]
  rw[f]at d;cases a2:eE (t.pk i).b D
  ·rw[a2]at f2;rw[bad (by rw[a2];simp)];simp[hi,c,ad];refine Go.au.c2 d ?_;simp[hi,c,ad];refine Go.au.c2 f2 ?_;simp[ad]
  rw[a2]at f2;simp[hi,c,ad];refine Go.au.c2 d ?_;simp[hi,c,ad];refine Go.au.c2 f2 ?_;simp[g,ad];exact rd (i+1) ⟨hi,by rw[oT c,i2,f,a2];rfl⟩
 have:i=t.bf.length:=by omega
 subst this;rw[ao]at i2;rw[i2];clear i1 i2 hi;simp[ad];refine lp (α:=Nat) (fun i=>⟨[(10,.p (.int .i64 i)),(4,.ptr 0 []),(3,.p (.int .i64 D)),(1,.p (.seq (b.aj.map bu)))],[.box false (.p (cV t))]⟩) (fun i=>i<=t.aj.length/\(t.aj.take i).all (fun s=>qq s.pt D)=true) (fun i=>t.aj.length-i) 0 (by simp) ?_;rintro i ⟨i1,i2⟩
 by_cases hi:i<t.aj.length
 ·have c:=aq.dZ hi;have g:=cr (i:=i) (by omega);have d:=zY (t.sp i).pt D (B _ (am c)).2 (by omega);have q:qq (t.sp i).pt D=(eE (t.sp i).pt.x D&&eE (t.sp i).pt.y D):=rfl;rw[<-q]at d;cases f:qq (t.sp i).pt D
  ·rw[f]at d;rw[jh c f];simp[hi,c,ad];refine Go.au.c2 d ?_;simp[ad]
  rw[f]at d;simp[hi,c,ad];refine Go.au.c2 d ?_;simp[g,ad];exact rd (i+1) ⟨hi,by rw[oT c,i2,f];rfl⟩
 have:i=t.aj.length:=by omega
 subst this;rw[ao]at i2;rw[i2];clear i1 i2 hi;simp[ad];refine lp (α:=Nat) (fun i=>⟨[(11,.p (.int .i64 i)),(3,.p (.int .i64 D)),(1,.p (.seq (b.aj.map bu)))],[]⟩) (fun i=>i<=b.aj.length/\(b.aj.take i).all (fun s=>qq s.pt D)=true) (fun i=>b.aj.length-i) 0 (by simp) ?_;rintro i ⟨i1,i2⟩
 by_cases hi:i<b.aj.length
 ·have c:=aq.dZ hi;have g:=cr (i:=i) (by omega);have d:=zY (b.sp i).pt D (z _ (am c)).2 (by omega);have q:qq (b.sp i).pt D=(eE (b.sp i).pt.x D&&eE (b.sp i).pt.y D):=rfl;rw[<-q]at d;cases f:qq (b.sp i).pt D
  ·rw[f]at d;rw[jh c f];simp[hi,c,ad];refine Go.au.c2 d ?_;simp[ad]
  rw[f]at d;simp[hi,c,ad];refine Go.au.c2 d ?_;simp[g,ad];exact rd (i+1) ⟨hi,by rw[oT c,i2,f];rfl⟩
 have:i=b.aj.length:=by omega
 subst this;rw[ao]at i2;rw[i2];simp[m,k,o,ad]
theorem Tn(b:aq)(f:b.aj.length<=1000000):aC prog 30 [.seq (b.aj.map bu)] (.seq (b.aj.map bu)):=by
 have g:(1000000:Nat)<cZ:=by decide
 have h:ac.wrap 1=1:=by decide
 refine aM nf EM mix (by simp[f30]) ?_;simp[f30,ad];refine lp (α:=Nat) (fun i=>⟨[(8,.p (.int .i64 i)),(7,.p (.int .i64 b.aj.length)),(6,.p (.seq (b.aj.map bu))),(3,.sl 0 i 3 0 i)],[.arr .grow i 3 ((b.aj.map (AV.p∘bu)).take i)]⟩) (fun i=>i<=b.aj.length) (fun i=>b.aj.length-i) 0 (by simp) ?_;rintro i i1
 by_cases hi:i<b.aj.length
 ·have a:=aq.dZ hi;have e:=cr (i:=i) (by omega);have d:(b.aj.map (AV.p∘bu)).take (i+1)=(b.aj.map (AV.p∘bu)).take i++[.p (bu (b.sp i))]:=by
   rw[ay,List.getElem?_map,a];rfl
  have c:min i b.aj.length=i:=by omega
  simp[hi,a,e,c,ad];exact⟨by omega,rd (i+1) hi (hh:=by simp[d]) (hr2:=by simp[iy])⟩
 ·have:i=b.aj.length:=by omega
  subst this;simp[ad]
theorem HA(s:List Nat):(cW s).length<=s.length:=by
 rw[cW];split<;>simp
theorem Hv{s:List Nat}(h:bX s=0)(b:s.length<=40):bK 133 (bh s):=by
 obtain⟨l,g,i⟩:=jA h;have c:(10:Nat)^40<=2^133:=by decide
 unfold bX at h
 split at h
 ·cases h
 rename_i a;have a:jR s=true:=by simpa using a
 simp only[jR,Bool.and_eq_true,Bool.or_eq_true,decide_eq_true_eq]at a;obtain⟨⟨d,_⟩,a3⟩:=a;have j:(bH s).length<=40:=a9 (pE 47 (cW s)).1 (a9 (HA s) b);have k:(bQ s).length<=40:=a9 (pE 47 (cW s)).2.1 (a9 (HA s) b);have f:=bb (AG j (jm d)) c;refine⟨?_,?_⟩
 ·rw[g];have e:(if bZ s=true then -(aX (bH s):Int)else aX (bH s)).natAbs=aX (bH s):=by split<;>omega
  rw[e];exact f
 ·rw[i]
  by_cases hf:ek s=true
  ·rw[if_pos hf];rcases a3 with a3|a3
   ·rw[hf]at a3;cases a3
   ·exact bb (AG k (jm a3.1.1)) c
  ·rw[if_neg hf];decide
def iO(f:Nat->Bool):Nat->Nat
 |0=>0
 |n+1=>if iO f n<n then iO f n else if f n=true then n else n+1
theorem oY(f:Nat->Bool):∀n,iO f n<=n/\(∀i,i<iO f n->f i=false)/\(iO f n<n->f (iO f n)=true)
 |0=>⟨a8 _,fun i h=>absurd h (be _),fun h=>absurd h (be _)⟩
 |n+1=>by
  obtain⟨g,a,b⟩:=oY f n;rw[iO]
  by_cases c:iO f n<n
  ·rw[if_pos c];exact⟨by omega,a,fun _=>b c⟩
  ·rw[if_neg c];have e:iO f n=n:=by omega
   rw[e]at a
   by_cases d:f n=true
   ·rw[if_pos d];exact⟨by omega,a,fun _=>d⟩
   ·rw[if_neg d];refine⟨a8 _,fun i hi=>?_,fun h=>absurd h (Nat.lt_irrefl _)⟩
    by_cases e2:i=n
    ·rw[e2];simpa using d
    ·exact a i (by omega)
theorem Hd{f:Nat->Bool}{n i:Nat}(b:i<=iO f n)(c:i<n)(a:f i=true):iO f n=i:=by
 obtain⟨k1,k2,k3⟩:=oY f n;rcases bi i (iO f n)with h|h
 ·rw[k2 i h]at a;cases a
 ·omega
theorem Hm{f:Nat->Bool}{n i:Nat}(b:i<=iO f n)(c:i<n)(a:f i=false):i+1<=iO f n:=by
 obtain⟨k1,k2,k3⟩:=oY f n;rcases bi i (iO f n)with h|h
 ·omega
 ·have e:iO f n=i:=by omega
  have:=k3 (by omega);rw[e,a]at this;cases this
def my(k n:Nat):Int:=if k<n then k else -1
def aq.eA(t:aq):Nat->Int
 |0=>0
 |m+1=>t.eA m+(t.at m).x*(t.at (t.nx m)).y-(t.at m).y*(t.at (t.nx m)).x
theorem TN{a b:dG}(c:eU a)(d:eU b):-100000000<=a.x*b.y/\a.x*b.y<=100000000/\-100000000<=a.y*b.x/\a.y*b.x<=100000000:=by
 simp only[eU]at c d;have e:=sS (a:=a.x) (b:=b.y) (A:=10000) (B:=10000) (by omega) (by omega) (by omega) (by omega);have f:=sS (a:=a.y) (b:=b.x) (A:=10000) (B:=10000) (by omega) (by omega) (by omega) (by omega);omega
theorem aq.vp{t:aq}(a:∀p∈t.cs,eU p):∀m,m<=t.cs.length->-(200000000*(m:Int))<=t.eA m/\t.eA m<=200000000*(m:Int)
 |0,_=>by simp[aq.eA]
 |m+1,h=>by
  have b:=aq.vp a m (by omega);have:=TN (aq.iu a (show m<t.cs.length by omega)) (aq.iu a (t.mG (by omega) m));rw[aq.eA];omega
def aq.shr(t:aq)(i:Nat)(v:V2):Rat:=((v.sub (dP (t.at i))).dot (t.lM i))/((t.lM i).dot (t.lM i))
theorem ZM(v w:NV)(a:b9 kQ v.q)(b:b9 kQ w.q):aC prog 73 [dL v,dL w] (dL (v.add w)):=by
 have c:=uI v.x w.x (fa a.1) (fa b.1);have d:=uI v.y w.y (fa a.2) (fa b.2);refine aM nf QS mix (by simp[f73]) ?_;rw[NV.add,vm];simp[f73,ad];refine e2 c ?_;simp[ad];refine e2 d ?_;simp[ad]
theorem S4(v:NV)(h:b9 1800 v.q):aC prog 78 [dL v] (.aG [eV v.q,.int .i64 0]):=by
 have a:=zz v.x (h.1.mono (by decide));have b:=zz v.y (h.2.mono (by decide));rw[Fj (show bK 1800 v.x.q from h.1)]at a;rw[Fj (show bK 1800 v.y.q from h.2)]at b;have c:=zo v.x (h.1.mono (by decide));have d:=zo v.y (h.2.mono (by decide));obtain⟨x,y⟩:=v;refine aM nf QW mix (by simp[f78]) ?_;rw[vm,show eV (NV.q ⟨x,y⟩)=eV ⟨x.q,y.q⟩from rfl,xd];simp[f78,ad];refine Go.au.c1 a ?_;simp[ad];refine Go.au.c1 b ?_;simp[ad];refine Go.au.e1 c ?_;simp[ad];refine Go.au.e1 d ?_;simp[ad]
theorem ZL(x:NF)(h:bK 1800 x.q):aC prog 91 [eF x] (.aG [.str (bc x.q),.int .i64 0]):=by
 have a:=zz x (h.mono (by decide));rw[Fj h]at a;have b:=zo x (h.mono (by decide));refine aM nf Q8 mix (by simp[f91]) ?_;simp[f91,ad];refine Go.au.c1 a ?_;simp[ad];refine Go.au.c1 b ?_;simp[ad]
noncomputable def aq.iV(t:aq):Nat->NF
 |0=>.int 0
 |m+1=>(t.iV m).add ((dU (t.at m)).bE (dU (t.at (t.nx m))))
theorem aq.BP(t:aq):∀m,(t.iV m).q=((t.eA m:Int):Rat)
 |0=>rfl
 |m+1=>by
  rw[aq.iV,aq.eA,b1,b2,b0,b0,<-aq.BP t m];show _+_=_;rw[NV.Bp,RE,RE,V2.bE];show _+((((t.at m).x:Int):Rat)*_-_)=_;rw[dP,dP]
  grind
noncomputable def vz(t:aq)(L:fh)(i:Nat):Heap:=[.box false (.p (b8 t)),.box false (.p (eF (t.iV i))),.loop L]
theorem BO(t:aq)(j:iM t):aC prog 23 [b8 t] (.aG (if dH t=0 then[.str (bc (fj (t.eA t.cs.length) 2)),.int .i64 0]else[.str [],.int .i64 (dH t)])):=by
 have p:=j.cl;have k1:=Bo t j
 by_cases h:dH t=0
 case neg=>
  rw[if_neg h];generalize dH t=e at*;refine aM nf vo mix (by simp[f23]) ?_;simp[f23,ad];refine Go.au.c1 k1 ?_;simp[h,ad]
 rw[if_pos h];rw[h]at k1;obtain⟨y,z,b,_⟩:=lP h;have k2:=sf 0 (by decide) (by decide);have d:∀m,m<=t.cs.length->bK 41 (t.iV m).q:=fun m r=>by
  rw[aq.BP];have:=aq.vp b m r;exact rH (k:=41) (by omega) (by decide)
 have k4:=sf 2 (by decide) (by decide);have c:(NF.int 2).q=2:=rfl;have k5:=PI (t.iV t.cs.length) (.int 2) ((d _ (a8 _)).mono (by decide)) (by rw[c];exact⟨by decide+kernel,by decide+kernel⟩) (by rw[c];decide);have v:bK 1800 ((t.iV t.cs.length).div (.int 2)).q:=(aHq (d _ (a8 _)) (show bK 2 (NF.int 2).q by rw[c];exact⟨by decide+kernel,by decide+kernel⟩)).mono (by decide);have k6:=ZL _ v;have e5:((t.iV t.cs.length).div (.int 2)).q=fj (t.eA t.cs.length) 2:=by
  rw[show((t.iV t.cs.length).div (.int 2)).q=(t.iV t.cs.length).q/(NF.int 2).q from rfl,aq.BP,c,ui,Rat.div_def];rfl
 rw[e5]at k6;have s:t.iV 0=.int 0:=rfl;rw[<-s]at k2;refine aM nf vo mix (by simp[f23]) ?_;simp[f23,ad];refine Go.au.c1 k1 ?_;simp[ad];refine Go.au.c1 k2 ?_;simp[ad];refine Go.au.c1 (H6 t) ?_;simp;refine rf (HY t p b) rfl (by simp) (vz t) t.cs.length (by simp) (fun L=>rfl) ?_ ?_ ?_
 ·intro L a i hi;refine⟨rfl,by simp[vz],fun _ hx=>?_⟩;simp[vz]at hx⊢;exact hx
 ·intro L a i x hi hx;rw[xS hi]at hx;injection hx with hx
  subst hx;have l:=oR (aq.iu b hi);have n:=oR (aq.iu b (t.mG (by omega) i));have o:=Gt (dU (t.at i)) (dU (t.at (t.nx i))) (l.mono (by decide)) (n.mono (by decide));have u:bK 57 ((dU (t.at i)).bE (dU (t.at (t.nx i)))).q:=by rw[NV.Bp];exact FO l n
  have f:=uI (t.iV i) ((dU (t.at i)).bE (dU (t.at (t.nx i)))) ((d i (by omega)).mono (by decide)) (u.mono (by decide));rw[show(t.iV i).add ((dU (t.at i)).bE (dU (t.at (t.nx i))))=t.iV (i+1)from rfl]at f;refine Bq nf mix a rfl rfl (by kernel_rfl) ?_;have g:=congrArg fh.env a;dsimp only at g;clear a;simp only[vz];generalize t.iV (i+1)=w at*;generalize t.iV i=S at*;generalize (dU (t.at i)).bE (dU (t.at (t.nx i)))=C at*;simp[vk,sr,ad];refine e2 o ?_;simp[ad];refine e2 f ?_;simp[ad];refine⟨by repeat' first|rfl|apply ab,?_⟩;refine dt.og (by simp) (by simp) (by simp) (by simp) ?_;simp;exact RI g (by simp)
 ·intro L a;refine .inl ⟨by simp,?_⟩;simp only[vz];generalize t.iV t.cs.length=S at*;simp[ad];refine e1 k4 ?_;simp[ad];refine e2 k5 ?_;simp[ad];refine e1 k6 ?_;simp[ad]
theorem Eu(t:aq)(p:ez)(b:iM t)(a:jF p):aC prog 24 [b8 t,dB p] (.aG [.int .i64 (if oK t p=0 then t.on (vP p)else 0),.int .i64 (oK t p)]):=by
 have k1:=Bo t b;have k2:=tu p a;have k3:=mH [dH t,cq p] (by simp);simp only[a6,a7]at k3;rw[show bJ [dH t,cq p]=oK t p from rfl]at k3;have k4:oK t p=0->aC prog 93 [dB p] (dL (.from p))/\aC prog 77 [b8 t,dL (.from p)] (.int .i64 (t.on (vP p))):=fun h=>by
  obtain⟨f,z2⟩:=Sx h;obtain⟨g,i,c,_⟩:=lP f;obtain⟨g1,g2⟩:=gV z2;have:=vx t (.from p) b.cl c (vF ⟨(fJ g1).mono (by decide),(fJ g2).mono (by decide)⟩);rw[oF]at this;exact⟨qH p g1 g2 a,this⟩
 generalize oK t p=E at*;generalize dH t=l at*;generalize cq p=m at*;generalize t.on (vP p)=n at*;generalize NV.from p=v at*;obtain⟨j,k⟩:=p;simp only[dB]at*;refine aM nf yn mix (by simp[f24]) ?_;simp[f24,ad];refine Go.au.e1 k1 ?_;simp[ad];refine Go.au.e1 k2 ?_;simp[ad];refine ep k3 (by simp;first|exact⟨rfl,rfl⟩|rfl) (by simp;first|exact⟨rfl,rfl⟩|rfl) ?_;simp[ad];refine⟨by repeat' first|rfl|apply ab,?_⟩
 by_cases h:E=0
 case neg=>simp[h,ad]
 obtain⟨d,e⟩:=k4 h;simp[h,ad];refine Go.au.e1 d ?_;simp[ad];refine Go.au.e2 e ?_;simp[h,ad]
def o6(t b:aq)(p:ez):Int:=bJ [gD t b,cq p]
def ln(t b:aq)(v:V2):Bool:=decide (0<=t.on v)&&!(b.aj.any (fun o=>decide (eO t.bm (vP o.pt) v<0)))
theorem yd{t b:aq}(d:lh b)(h:gD t b=0):dH t=0/\(∀o∈b.aj,sH o):=by
 obtain⟨a,c,_⟩:=aHy d h;exact⟨a,c.sp⟩
theorem ZG(t b:aq)(p:ez)(i:iM t)(a:lh b)(g:jF p):aC prog 34 [b8 t,.seq (b.aj.map bu),dB p] (.aG [.bool (if o6 t b p=0 then ln t b (vP p)else false),.int .i64 (o6 t b p)]):=by
 have k1:=Bw t b i a;have k2:=tu p g;have k3:=mH [gD t b,cq p] (by simp);simp only[a6,a7]at k3;rw[show bJ [gD t b,cq p]=o6 t b p from rfl]at k3;have k4:o6 t b p=0->aC prog 93 [dB p] (dL (.from p))/\aC prog 77 [b8 t,dL (.from p)] (.int .i64 (t.on (vP p)))/\aC prog 102 [b8 t,.seq (b.aj.map bu),dL (.from p)] (.bool (!b.aj.any (fun o=>decide (eO t.bm (vP o.pt) (vP p)<0)))):=fun h=>by
  rw[o6,mb]at h;have u:=h (gD t b) (by simp);have w:=h (cq p) (by simp);obtain⟨l,m⟩:=yd a u;obtain⟨x,y,n,_⟩:=lP l;obtain⟨B,C⟩:=sX l;obtain⟨g1,g2⟩:=gV w;have k:b9 2000 (NV.from p).q:=vF ⟨fJ g1,fJ g2⟩;have e:=vx t (.from p) i.cl n (k.mono (by decide));have f:=BD t (.from p) b.aj a.sl (by omega) (by omega) k m;rw[oF]at e f;exact⟨qH p g1 g2 g,e,f⟩
 rw[ln];generalize o6 t b p=E at*;generalize gD t b=D at*;generalize cq p=F at*;generalize b.aj.any (fun o=>decide (eO t.bm (vP o.pt) (vP p)<0))=G at*;generalize t.on (vP p)=d at*;generalize NV.from p=v at*;obtain⟨z,A⟩:=p;simp only[dB]at*;refine aM nf QE mix (by simp[f34]) ?_;simp[f34,ad];refine Go.au.e2 k1 ?_;simp[ad];refine Go.au.e1 k2 ?_;simp[ad];refine ep k3 (by simp;first|exact⟨rfl,rfl⟩|rfl) (by simp;first|exact⟨rfl,rfl⟩|rfl) ?_;simp[ad];refine⟨by repeat' first|rfl|apply ab,?_⟩
 by_cases h:E=0
 case neg=>simp[h,ad]
 obtain⟨j,r,s⟩:=k4 h;simp[h,ad];refine Go.au.e1 j ?_;simp[ad];refine Go.au.e2 r ?_
 by_cases c:0<=d
 ·have c':¬d<0:=by omega
  simp[c,c',ad];refine Go.au.e1 j ?_;simp[ad];refine Go.au.e3 s ?_;simp[h,c,ad]
 ·have c':d<0:=by omega
  simp[h,c,c',ad]
def aq.pv(t:aq)(i:Nat):Nat:=(i+t.cs.length-1)% t.cs.length
def dN(t:aq)(name:List Nat):Nat:=iO (fun i=>decide ((t.sp i).name=name)) t.aj.length
theorem S9(t:aq)(name:List Nat):kY t name=my (dN t name) t.aj.length:=by
 obtain⟨e,a,b⟩:=oY (fun i=>decide ((t.sp i).name=name)) t.aj.length;change dN t name<=t.aj.length at e;change∀i,i<dN t name->_ at a;change dN t name<t.aj.length->decide ((t.sp (dN t name)).name=name)=true at b;rw[my]
 by_cases c:dN t name<t.aj.length
 ·rw[if_pos c];have:t.aj.findIdx? (fun s=>decide (s.name=name))=some (dN t name):=by
   rw[List.findIdx?_eq_some_iff_getElem];refine⟨c,by rw[aq.nD];exact b c,fun j d=>?_⟩;rw[aq.nD];simpa using a j d
  rw[kY,this]
 ·rw[if_neg c];have:t.aj.findIdx? (fun s=>decide (s.name=name))=none:=by
   rw[List.findIdx?_eq_none_iff];intro s hs;obtain⟨j,d,rfl⟩:=av.1 hs;rw[aq.nD];simpa using a j (by omega)
  rw[kY,this]
theorem aJN{t:aq}(h:dH t=0){j:Nat}(a:j<t.aj.length):iK t (t.aj.take j) (t.sp j)=0:=by
 rw[xT]at h
 split at h
 case isFalse=>contradiction
 split at h
 case isFalse=>contradiction
 rw[jK]at h
 split at h
 ·cases h
 have:=lR.1 h j a
 rwa [fS,aq.dZ a]at this
theorem yf{t:aq}(h:dH t=0){j:Nat}(a:j<t.aj.length):cq (t.sp j).pt=0:=by
 have:=aJN h a;rw[iK]at this
 split at this
 ·cases this
 split at this
 ·cases this
 split at this
 ·contradiction
 ·rename_i h;exact Decidable.not_not.1 h
def bN(a s:V2):Nat->V2
 |0=>a
 |i+1=>(bN a s i).add s
theorem sZ(a s:V2):∀i:Nat,bN a s i=a.add (s.mul ((i:Int):Rat))
 |0=>by
  rw[bN];obtain⟨b,c⟩:=a;simp only[V2.add,V2.mul];congr 1<;>(rw[show(((0:Nat):Int):Rat)=0 from rfl];grind)
 |i+1=>by
  rw[bN,sZ a s i];obtain⟨b,c⟩:=a;have e:(((i+1:Nat):Int):Rat)=((i:Int):Rat)+1:=by
   rw[show((i+1:Nat):Int)=(i:Int)+1 from rfl,b2];rfl
  simp only[V2.add,V2.mul,e];congr 1<;>grind
@[simp] theorem aM7:aL ie=.agg 46:=rfl
theorem Hq{a s:V2}(b:b9 133 a)(hs:b9 133 s){i:Nat}(hi:i<=200):b9 300 (bN a s i):=by
 rw[sZ];have h:bK 8 (((i:Int)):Rat):=rH (by omega) (by decide);exact(aHD b (aHZ hs h)).mono (by decide)
def lg(t b:aq)(v:V2):Bool:=decide (t.on v<0)||ln t b v
def fQ(t b:aq)(a s:V2):Nat:=iO (fun i=>lg t b (bN a s i)) 200
def mI(t b:aq)(a s:V2):List PV:=if fQ t b a s<200 then(if t.on (bN a s (fQ t b a s))<0 then[ie,.int .i64 7]else[eV (bN a s (fQ t b a s)),.int .i64 0])else[ie,.int .i64 22]
theorem gN{t:aq}{i:Nat}(hi:i<t.cs.length):t.nx i=if i+1<t.cs.length then i+1 else 0:=by
 rw[aq.nx]
 split
 ·exact Nat.mod_eq_of_lt (by omega)
 ·rw[show i+1=t.cs.length from by omega,Nat.mod_self]
def aq.so(t:aq)(i k:Nat):Rat:=(t.lM i).bE ((dP (t.at k)).sub (dP (t.at i)))
theorem BR(t:aq)(i k:Nat):t.so i k=((fR (t.at i) (t.at (t.nx i)) (t.at k):Int):Rat):=by
 simp only[aq.so,aq.lM,V2.bE,V2.sub,dP,fR,b1,b0]
theorem ZZ{t:aq}(hc:t.dv=true){i k:Nat}(hi:i<t.cs.length)(hk:k<t.cs.length):0<=t.so i k/\(t.so i k=0->k=i\/k=t.nx i):=by
 rw[aq.dv,decide_eq_true_eq]at hc
 by_cases c:k=i
 ·subst c;refine⟨?_,fun _=>.inl rfl⟩;rw[BR,Gi];decide
 by_cases a:k=t.nx i
 ·refine⟨?_,fun _=>.inr a⟩;rw[BR,a];have:fR (t.at i) (t.at (t.nx i)) (t.at (t.nx i))=0:=by rw[fR];grind
  rw[this];decide
 ·have d:=hc i hi k hk c a;have b:(0:Rat)<t.so i k:=by
   rw[BR];exact bv.2 d
  exact⟨bo b,fun h=>by rw[h]at b;exact absurd b (by decide)⟩
theorem yb{x y:Rat}(h:0<x*y)(a:0<y):0<x:=by
 by_cases c:0<x
 ·exact c
 ·have:=bk (show 0<=-x by grind) (bo a)
  grind
theorem BJ{x y:Rat}(h:0<=y*x)(a:0<y):0<=x:=by
 by_cases c:0<=x
 ·exact c
 ·have:=bl (show 0< -x by grind) a
  grind
theorem H5{V:Nat->V2}{n:Nat}(f:∀j,2<=j->j<n->0<(V 1).bE (V j))(hs:∀j,1<=j->j+1<n->0<(V j).bE (V (j+1)))(i:Nat)(hi:1<=i):
 ∀d,i+d+1<n->0<(V i).bE (V (i+d+1))
 |0,h=>hs i hi h
 |d+1,h=>by
  have g:=H5 f hs i hi d (by omega);have st:=hs (i+d+1) (by omega) h
  by_cases c:i=1
  ·subst c;exact f _ (by omega) h
  have a:=f i (by omega) (by omega);have b:=f (i+d+1) (by omega) (by omega);have e:=f (i+d+1+1) (by omega) h;refine yb (y:=(V 1).bE (V (i+d+1))) ?_ b;have:=bl g e;have:=bl st a;have id:(V i).bE (V (i+d+1+1))*(V 1).bE (V (i+d+1))=(V i).bE (V (i+d+1))*(V 1).bE (V (i+d+1+1))+(V (i+d+1)).bE (V (i+d+1+1))*(V 1).bE (V i):=by
   simp only[V2.bE]
   grind
  rw[show i+(d+1)+1=i+d+1+1 from by omega]
  grind
def aq.vc(t:aq)(j:Nat):V2:=(dP (t.at j)).sub (dP (t.at 0))
theorem Bz(t:aq)(i j:Nat):(t.vc i).bE (t.vc j)=((fR (t.at 0) (t.at i) (t.at j):Int):Rat):=by
 simp only[aq.vc,V2.bE,V2.sub,dP,fR,b1,b0]
theorem xY(a b c:dG):fR a b c=fR b c a:=by simp only[fR];grind
theorem o7{t:aq}(hc:t.dv=true){i j:Nat}(hi:1<=i)(a:i<j)(b:j<t.cs.length):0<(t.vc i).bE (t.vc j):=by
 rw[aq.dv,decide_eq_true_eq]at hc;have:=H5 (V:=t.vc) (n:=t.cs.length) (fun k k1 k2=>by
  rw[Bz];have:=hc 0 (by omega) k k2 (by omega) (by rw[gN (by omega),if_pos (by omega)];omega);rw[gN (by omega),if_pos (by omega)]at this;exact bv.2 this) (fun k k1 k2=>by
  rw[Bz,xY];have:=hc k (by omega) 0 (by omega) (by omega) (by rw[gN (by omega),if_pos k2];omega);rw[gN (by omega),if_pos k2]at this;exact bv.2 this) i hi (j-i-1) (by omega)
 rwa [show i+(j-i-1)+1=j from by omega]at this
def aq.lf(t:aq)(u:V2)(i j:Nat):Rat:=(t.vc j).bE u-(t.vc i).bE u+(t.vc i).bE (t.vc j)
theorem aKx(t:aq)(i:Nat):(t.vc i).bE (t.vc i)=0:=by simp only[V2.bE];grind
theorem ya(t:aq)(i j:Nat):(t.vc i).bE (t.vc j)= -(t.vc j).bE (t.vc i):=by simp only[V2.bE];grind
theorem tg{t:aq}(hc:t.dv=true){i j:Nat}(hi:1<=i)(b:i<=j)(a:j<t.cs.length):0<=(t.vc i).bE (t.vc j):=by
 by_cases c:i=j
 ·subst c;rw[aKx];decide
 ·exact bo (o7 hc hi (by omega) a)
theorem yg{t:aq}(hc:t.dv=true){i k:Nat}(hi:1<=i)(a:i+1<t.cs.length)(hk:k<t.cs.length):0<=t.lf (t.vc k) i (i+1):=by
 have e:t.lf (t.vc k) i (i+1)=t.so i k:=by
  simp only[aq.lf,aq.so,aq.lM,aq.vc,V2.bE,V2.sub];rw[gN (by omega),if_pos a]
  grind
 rw[e];exact(ZZ hc (by omega) hk).1
theorem yj(t:aq)(u:V2)(j k m:Nat):(t.vc j).bE (t.vc k)*(t.vc m).bE u=(-(t.vc k).bE u)*(t.vc m).bE (t.vc j)+(t.vc j).bE u*(t.vc m).bE (t.vc k):=by
 simp only[V2.bE];grind
theorem Ri(t:aq)(u:V2)(j k i m:Nat):(t.vc j).bE (t.vc k)*t.lf u i m=(-(t.vc k).bE u)*t.lf (t.vc j) i m+(t.vc j).bE u*t.lf (t.vc k) i m+t.lf u j k*(t.vc i).bE (t.vc m):=by
 simp only[aq.lf,V2.bE];grind
theorem Ic{t:aq}(hc:t.dv=true){u:V2}{j:Nat}(h:1<=j)(l:j+1<t.cs.length)(d:0<=(t.vc j).bE u)(n:(t.vc (j+1)).bE u<=0)(m:0<=t.lf u j (j+1)):
 0<=(t.vc 1).bE u/\(t.vc (t.cs.length-1)).bE u<=0/\∀i,1<=i->i+1<t.cs.length->0<=t.lf u i (i+1):=by
 have e:=o7 hc h (show j<j+1 by omega) l;refine⟨?_,?_,fun i f g=>?_⟩
 ·refine BJ ?_ e;rw[yj];have a:=bk (show 0<=-(t.vc (j+1)).bE u by grind) (tg hc (i:=1) (j:=j) (by omega) h (by omega));have b:=bk d (tg hc (i:=1) (j:=j+1) (by omega) (by omega) l)
  grind
 ·have:0<=-(t.vc (t.cs.length-1)).bE u:=by
   refine BJ ?_ e;have id:=yj t u j (j+1) (t.cs.length-1);rw[ya t (t.cs.length-1) j,ya t (t.cs.length-1) (j+1)]at id;have a:=bk (show 0<=-(t.vc (j+1)).bE u by grind) (tg hc (i:=j) (j:=t.cs.length-1) h (by omega) (by omega));have b:=bk d (tg hc (i:=j+1) (j:=t.cs.length-1) (by omega) (by omega) (by omega))
   grind
  grind
 ·refine BJ ?_ e;rw[Ri];have a:=bk (show 0<=-(t.vc (j+1)).bE u by grind) (yg hc f g (k:=j) (by omega));have b:=bk d (yg hc f g (k:=j+1) l);have c:=bk m (bo (o7 hc f (show i<i+1 by omega) g))
  grind
theorem Hf{t:aq}(hc:t.dv=true){u:V2}{j:Nat}(l:1<=j)(m:j+1<t.cs.length)(e:0<(t.vc j).bE u)(p:(t.vc (j+1)).bE u<=0)(o:0<t.lf u j (j+1))(d:j+1<t.cs.length-1\/(t.vc (t.cs.length-1)).bE u<0):
 0<(t.vc 1).bE u/\(t.vc (t.cs.length-1)).bE u<0/\∀i,1<=i->i+1<t.cs.length->0<t.lf u i (i+1):=by
 have f:=o7 hc l (show j<j+1 by omega) m;have n:=bo e;refine⟨?_,?_,fun i g h=>?_⟩
 ·refine yb (y:=(t.vc j).bE (t.vc (j+1))) ?_ f;have id:=yj t u j (j+1) 1;have a:=bk (show 0<=-(t.vc (j+1)).bE u by grind) (tg hc (i:=1) (j:=j) (by omega) l (by omega));have b:=bl e (o7 hc (i:=1) (j:=j+1) (by omega) (by omega) m)
  grind
 ·rcases d with d|d
  ·have:0< -(t.vc (t.cs.length-1)).bE u:=by
    refine yb (y:=(t.vc j).bE (t.vc (j+1))) ?_ f;have id:=yj t u j (j+1) (t.cs.length-1);rw[ya t (t.cs.length-1) j,ya t (t.cs.length-1) (j+1)]at id;have a:=bk (show 0<=-(t.vc (j+1)).bE u by grind) (tg hc (i:=j) (j:=t.cs.length-1) l (by omega) (by omega));have b:=bl e (o7 hc (i:=j+1) (j:=t.cs.length-1) (by omega) (by omega) (by omega))
    grind
   grind
  ·exact d
 ·refine yb (y:=(t.vc j).bE (t.vc (j+1))) ?_ f;have id:=Ri t u j (j+1) i (i+1);have a:=bk (show 0<=-(t.vc (j+1)).bE u by grind) (yg hc g h (k:=j) (by omega));have b:=bk n (yg hc g h (k:=j+1) m);have c:=bl o (o7 hc g (show i<i+1 by omega) h)
  grind
def fA(t:aq)(c:Nat):aq:=⟨t.cs.take (c+1),t.bm,[],[]⟩
def eQ(t:aq)(c:Nat):aq:=⟨t.at 0::t.cs.drop c,t.bm,[],[]⟩
theorem tf{t:aq}{c:Nat}(h:c<t.cs.length):(fA t c).cs.length=c+1:=by simp[fA];omega
theorem s9(t:aq)(c:Nat):(eQ t c).cs.length=t.cs.length-c+1:=by simp[eQ]
theorem ld{t:aq}{c i:Nat}(h:i<=c):(fA t c).at i=t.at i:=by
 rw[aq.at,aq.at,fA,ar,ar,a1,if_pos (by omega)]
theorem qE(t:aq)(c:Nat):(eQ t c).at 0=t.at 0:=rfl
theorem jt(t:aq)(c i:Nat):(eQ t c).at (i+1)=t.at (c+i):=by
 rw[aq.at,aq.at,eQ,ar,ar,List.getElem?_cons_succ,List.getElem?_drop]
theorem oX{s t:aq}{i a b:Nat}(c:s.at i=t.at a)(d:s.at (s.nx i)=t.at b)(p:V2):s.side i p=de (t.lf (p.sub (dP (t.at 0))) a b):=by
 rw[aq.side,aq.lM,c,d];congr 1;simp only[aq.lf,aq.vc,V2.bE,V2.sub]
 grind
theorem AY(t:aq)(u:V2)(j:Nat):t.lf u 0 j=(t.vc j).bE u:=by
 simp only[aq.lf,aq.vc,V2.bE,V2.sub];grind
theorem Fi(t:aq)(u:V2)(j:Nat):t.lf u j 0= -(t.vc j).bE u:=by
 simp only[aq.lf,aq.vc,V2.bE,V2.sub];grind
theorem yc{s:aq}{v:V2}{k:Int}(hk:k<=1):∀m,k<=s.kL v m↔∀i,i<m->k<=s.side i v
 |0=>by simp[aq.kL];exact hk
 |m+1=>by
  rw[aq.xR];have a:=yc (s:=s) (v:=v) hk m;constructor
  ·intro h i hi
   by_cases c:i=m
   ·subst c;omega
   ·exact a.1 (by omega) i (by omega)
  ·intro h;have:=a.2 (fun i hi=>h i (by omega));have:=h m (by omega);omega
theorem aIL(s:aq)(v:V2):s.on v<=1:=by
 rcases s.Hp v s.cs.length with h|h|h<;>(rw[aq.on];omega)
theorem HH{t:aq}(g:3<=t.cs.length)(p:V2){k:Int}(hk:k<=1):
 k<=t.on p↔k<=de ((t.vc 1).bE (p.sub (dP (t.at 0))))/\(∀i,1<=i->i+1<t.cs.length->k<=de (t.lf (p.sub (dP (t.at 0))) i (i+1)))/\k<=de (-(t.vc (t.cs.length-1)).bE (p.sub (dP (t.at 0)))):=by
 rw[aq.on,yc hk];have e0:t.side 0 p=de ((t.vc 1).bE (p.sub (dP (t.at 0)))):=by
  rw[oX (a:=0) (b:=1) rfl (by rw[gN (by omega),if_pos (by omega)]),AY]
 have e1:∀i,i+1<t.cs.length->t.side i p=de (t.lf (p.sub (dP (t.at 0))) i (i+1)):=fun i hi=>
  oX (a:=i) (b:=i+1) rfl (by rw[gN (by omega),if_pos hi]) p
 have e2:t.side (t.cs.length-1) p=de (-(t.vc (t.cs.length-1)).bE (p.sub (dP (t.at 0)))):=by
  rw[oX (a:=t.cs.length-1) (b:=0) rfl (by rw[gN (by omega),if_neg (by omega)]),Fi]
 constructor
 ·intro h;exact⟨by rw[<-e0];exact h 0 (by omega),fun i j f=>by rw[<-e1 i f];exact h i (by omega),by rw[<-e2];exact h _ (by omega)⟩
 ·intro⟨c,d,e⟩ i hi
  by_cases c0:i=0
  ·subst c0;rw[e0];exact c
  by_cases c1:i+1<t.cs.length
  ·rw[e1 i c1];exact d i (by omega) c1
  ·rw[show i=t.cs.length-1 from by omega,e2];exact e
theorem HJ{t:aq}{c:Nat}(c2:2<=c)(cn:c<t.cs.length)(p:V2){k:Int}(hk:k<=1):
 k<=(fA t c).on p↔k<=de ((t.vc 1).bE (p.sub (dP (t.at 0))))/\(∀i,1<=i->i<c->k<=de (t.lf (p.sub (dP (t.at 0))) i (i+1)))/\k<=de (-(t.vc c).bE (p.sub (dP (t.at 0)))):=by
 have f:=tf cn;rw[aq.on,yc hk,f];have e1:∀i,i<c->(fA t c).side i p=de (t.lf (p.sub (dP (t.at 0))) i (i+1)):=fun i hi=>
  oX (ld (by omega)) (by rw[gN (by omega),if_pos (by omega)];exact ld (by omega)) p
 have e2:(fA t c).side c p=de (-(t.vc c).bE (p.sub (dP (t.at 0)))):=by
  rw[oX (ld (a8 c)) (b:=0) (by rw[gN (by omega),if_neg (by omega)];exact ld (by omega)),Fi]
 constructor
 ·intro h;exact⟨by rw[<-AY,<-e1 0 (by omega)];exact h 0 (by omega),fun i j g=>by rw[<-e1 i g];exact h i (by omega),by rw[<-e2];exact h _ (by omega)⟩
 ·intro⟨a,d,e⟩ i hi
  by_cases c0:i=0
  ·subst c0;rw[e1 0 (by omega),AY];exact a
  by_cases c1:i<c
  ·rw[e1 i c1];exact d i (by omega) c1
  ·rw[show i=c from by omega,e2];exact e
theorem HW{t:aq}{c:Nat}(c2:2<=c)(cn:c+1<t.cs.length)(p:V2){k:Int}(hk:k<=1):
 k<=(eQ t c).on p↔k<=de ((t.vc c).bE (p.sub (dP (t.at 0))))/\(∀i,c<=i->i+1<t.cs.length->k<=de (t.lf (p.sub (dP (t.at 0))) i (i+1)))/\k<=de (-(t.vc (t.cs.length-1)).bE (p.sub (dP (t.at 0)))):=by
 have g:=s9 t c;rw[aq.on,yc hk,g];have e0:(eQ t c).side 0 p=de ((t.vc c).bE (p.sub (dP (t.at 0)))):=by
  rw[oX (qE t c) (b:=c) (by rw[gN (by omega),if_pos (by omega)];exact jt t c 0),AY]
 have e1:∀i,c+i+1<t.cs.length->(eQ t c).side (i+1) p=de (t.lf (p.sub (dP (t.at 0))) (c+i) (c+i+1)):=fun i hi=>
  oX (jt t c i) (by rw[gN (by omega),if_pos (by omega)];exact jt t c (i+1)) p
 have e2:(eQ t c).side (t.cs.length-c) p=de (-(t.vc (t.cs.length-1)).bE (p.sub (dP (t.at 0)))):=by
  rw[oX (a:=t.cs.length-1) (b:=0) (by rw[show t.cs.length-c=(t.cs.length-c-1)+1 from by omega,jt,show c+(t.cs.length-c-1)=t.cs.length-1 from by omega]) (by rw[gN (by omega),if_neg (by omega)];exact qE t c),Fi]
 constructor
 ·intro h;refine⟨by rw[<-e0];exact h 0 (by omega),fun i j l=>?_,by rw[<-e2];exact h _ (by omega)⟩;have:=e1 (i-c) (by omega);rw[show c+(i-c)=i from by omega]at this;rw[<-this];exact h _ (by omega)
 ·intro⟨d,e,f⟩ i hi
  by_cases c0:i=0
  ·subst c0;rw[e0];exact d
  by_cases c1:c+(i-1)+1<t.cs.length
  ·have:=e1 (i-1) c1;rw[show i-1+1=i from by omega]at this;rw[this];exact e _ (by omega) c1
  ·rw[show i=t.cs.length-c from by omega,e2];exact f
theorem sg0{q:Rat}:0<=de q↔0<=q:=by
 rw[de]
 split
 ·constructor
  ·intro h;cases h
  ·intro h;grind
 ·split
  ·constructor
   ·intro _;grind
   ·intro _;decide
  ·constructor
   ·intro _;grind
   ·intro _;decide
theorem FC{q:Rat}:1<=de q↔0<q:=by
 rw[de]
 split
 ·constructor
  ·intro h;exact absurd h (by decide)
  ·intro h;grind
 ·split
  ·constructor
   ·intro h;exact absurd h (by decide)
   ·intro h;grind
  ·constructor
   ·intro _;grind
   ·intro _;decide
theorem BM{f:Nat->Rat}{a:Nat}(b:0<=f a):∀d,f (a+d+1)<=0->∃j,a<=j/\j<=a+d/\0<=f j/\f (j+1)<=0
 |0,h=>⟨a,by omega,by omega,b,h⟩
 |d+1,h=>by
  by_cases c:0<=f (a+d+1)
  ·exact⟨a+d+1,by omega,by omega,c,h⟩
  ·obtain⟨j,e,i,g⟩:=BM b d (by grind);exact⟨j,e,by omega,g⟩
theorem BA{f:Nat->Rat}{a:Nat}(b:0<f a):∀d,f (a+d+1)<=0->∃j,a<=j/\j<=a+d/\0<f j/\f (j+1)<=0
 |0,h=>⟨a,by omega,by omega,b,h⟩
 |d+1,h=>by
  by_cases c:0<f (a+d+1)
  ·exact⟨a+d+1,by omega,by omega,c,h⟩
  ·obtain⟨j,e,i,g⟩:=BA b d (by grind);exact⟨j,e,by omega,g⟩
theorem Tp{t:aq}(hc:t.dv=true){c:Nat}(c2:2<=c)(cn:c+1<t.cs.length)(p:V2):
 (0<=t.on p↔0<=max ((fA t c).on p) ((eQ t c).on p))/\(max ((fA t c).on p) ((eQ t c).on p)<1\/t.on p=1):=by
 have o:=HH (t:=t) (by omega) p (k:=0) (by decide);have v:=HH (t:=t) (by omega) p (k:=1) (by decide);have q:=HJ (t:=t) c2 (by omega) p (k:=0) (by decide);have w:=HJ (t:=t) c2 (by omega) p (k:=1) (by decide);have r:=HW (t:=t) c2 cn p (k:=0) (by decide);have A:=HW (t:=t) c2 cn p (k:=1) (by decide);have D:=aIL t p;simp only[sg0,FC]at o v q w r A;generalize p.sub (dP (t.at 0))=u at*;generalize (fA t c).on p=x at*;generalize (eQ t c).on p=y at*;generalize t.on p=z at*;constructor
 ·constructor
  ·intro h;obtain⟨d,b,n⟩:=o.1 h
   by_cases g:(t.vc c).bE u<=0
   ·have:=q.2 ⟨d,fun i B C=>b i B (by omega),by grind⟩;omega
   ·have:=r.2 ⟨by grind,fun i B C=>b i (by omega) C,n⟩;omega
  ·intro h
   by_cases hx:0<=x
   ·obtain⟨d,b,n⟩:=q.1 hx;obtain⟨j,e,s,l,m⟩:=BM (f:=fun j=>(t.vc j).bE u) (a:=1) d (c-2) (by rw[show 1+(c-2)+1=c from by omega];grind);obtain⟨k1,k2,k3⟩:=Ic hc e (by omega) l m (b j e (by omega));exact o.2 ⟨k1,k3,by grind⟩
   ·obtain⟨d,b,n⟩:=r.1 (by omega);obtain⟨j,e,s,l,m⟩:=BM (f:=fun j=>(t.vc j).bE u) (a:=c) d (t.cs.length-c-2) (by rw[show c+(t.cs.length-c-2)+1=t.cs.length-1 from by omega];grind);obtain⟨k1,k2,k3⟩:=Ic hc (by omega) (by omega) l m (b j e (by omega));exact o.2 ⟨k1,k3,by grind⟩
 ·by_cases hx:1<=x
  ·right;obtain⟨d,b,n⟩:=w.1 hx;obtain⟨j,e,s,l,m⟩:=BA (f:=fun j=>(t.vc j).bE u) (a:=1) d (c-2) (by rw[show 1+(c-2)+1=c from by omega];grind);obtain⟨k1,k2,k3⟩:=Hf hc e (by omega) l m (b j e (by omega)) (.inl (by omega));have:=v.2 ⟨k1,k3,by grind⟩;omega
  ·by_cases hy:1<=y
   ·right;obtain⟨d,b,n⟩:=A.1 hy;obtain⟨j,e,s,l,m⟩:=BA (f:=fun j=>(t.vc j).bE u) (a:=c) d (t.cs.length-c-2) (by rw[show c+(t.cs.length-c-2)+1=t.cs.length-1 from by omega];grind);obtain⟨k1,k2,k3⟩:=Hf hc (by omega) (by omega) l m (b j e (by omega)) (.inr (by grind));have:=v.2 ⟨k1,k3,by grind⟩;omega
   ·left;omega
def lS(t:aq):aq:=⟨t.cs,t.bm,[],[]⟩
theorem yi{t:aq}(h:dH t=0):3<=t.cs.length/\t.cs.length<=12/\(∀p∈t.cs,fk p=false)/\t.dv=true/\1<=t.bm/\t.bm<=1000:=by
 obtain⟨a,b,_,c⟩:=lP h;obtain⟨e,f⟩:=sX h;refine⟨a,b,?_,c,e,f⟩;rw[dH]at h
 split at h
 ·cases h
 split at h
 ·cases h
 split at h
 ·cases h
 rename_i q;intro p d;cases hq:fk p
 ·rfl
 ·exact absurd (ax.2 ⟨p,d,hq⟩) q
theorem BC{l:List dG}{r:Int}(h:3<=l.length)(i:l.length<=12)(e:∀p∈l,fk p=false)(f:(⟨l,r,[],[]⟩:aq).dv=true)(j:1<=r)(k:r<=1000):dH ⟨l,r,[],[]⟩=0:=by
 rw[xT,lQ,oW];have a:¬((l.length:Int)<3):=by omega
 have b:¬(12<(l.length:Int)):=by omega
 have c:l.any fk=false:=by
  cases hq:l.any fk
  ·rfl
  ·obtain⟨p,g,hq⟩:=ax.1 hq;rw[e p g]at hq;cases hq
 have d:¬(r<1\/1000<r):=by omega
 simp[bJ,aY,a,b,c,d,f,jK,jJ]
theorem TD{t:aq}(h:dH t=0):dH (lS t)=0:=by
 obtain⟨a,b,c,d,e,f⟩:=yi h;exact BC a b c d e f
theorem BI{t:aq}(hc:t.dv=true){i k:Nat}(hi:i+1<t.cs.length)(hk:k<t.cs.length)(k1:k≠i)(k2:k≠i+1):0<fR (t.at i) (t.at (i+1)) (t.at k):=by
 rw[aq.dv,decide_eq_true_eq]at hc;have:=hc i (by omega) k hk k1 (by rw[gN (by omega),if_pos hi];exact k2)
 rwa [gN (by omega),if_pos hi]at this
theorem TK{t:aq}(hc:t.dv=true)(a:3<=t.cs.length){k:Nat}(k0:0<k)(hk:k<t.cs.length-1):0<fR (t.at (t.cs.length-1)) (t.at 0) (t.at k):=by
 rw[aq.dv,decide_eq_true_eq]at hc;have:=hc (t.cs.length-1) (by omega) k (by omega) (by omega) (by rw[gN (by omega),if_neg (by omega)];omega)
 rwa [gN (by omega),if_neg (by omega)]at this
theorem BB{t:aq}(hc:t.dv=true){i j:Nat}(hi:1<=i)(a:i<j)(b:j<t.cs.length):0<fR (t.at 0) (t.at i) (t.at j):=by
 have:=o7 hc hi a b;rw[Bz]at this;exact bv.1 this
theorem Tv{t:aq}(hc:t.dv=true){c:Nat}(c2:2<=c)(cn:c<t.cs.length):(fA t c).dv=true:=by
 have a:=tf cn;rw[aq.dv,decide_eq_true_eq,a];intro i hi k hk k1 k2;rw[ld (by omega),ld (i:=k) (by omega)];rw[gN (by omega),a]at k2⊢
 by_cases e:i+1<c+1
 ·rw[if_pos e]at k2⊢;rw[ld (by omega)];exact BI hc (by omega) (by omega) k1 k2
 ·rw[if_neg e]at k2⊢;rw[ld (by omega),show i=c from by omega,<-xY];exact xY _ _ _▸(xY _ _ _▸BB hc (i:=k) (j:=c) (by omega) (by omega) cn)
theorem TP{t:aq}(hc:t.dv=true){c:Nat}(c2:2<=c)(cn:c+1<t.cs.length):(eQ t c).dv=true:=by
 have a:=s9 t c;rw[aq.dv,decide_eq_true_eq,a];intro i hi k hk k1 k2;rw[gN (by omega),a]at k2⊢
 by_cases i0:i=0
 ·subst i0;rw[if_pos (by omega)]at k2⊢;rw[qE,show(eQ t c).at (0+1)=t.at c from jt t c 0,show k=(k-1)+1 from by omega,jt];exact BB hc (by omega) (by omega) (by omega)
 obtain⟨i,rfl⟩:∃j,i=j+1:=⟨i-1,by omega⟩
 by_cases e:i+1+1<t.cs.length-c+1
 ·rw[if_pos e]at k2⊢;rw[jt,jt]
  by_cases k0:k=0
  ·subst k0;rw[qE];exact BI hc (by omega) (by omega) (by omega) (by omega)
  ·rw[show k=(k-1)+1 from by omega,jt];exact BI hc (by omega) (by omega) (by omega) (by omega)
 ·rw[if_neg e]at k2⊢;rw[jt,qE,show k=(k-1)+1 from by omega,jt,show c+i=t.cs.length-1 from by omega];exact TK hc (by omega) (by omega) (by omega)
theorem aIN{t:aq}(h:dH t=0){c:Nat}(c2:2<=c)(cn:c<t.cs.length):dH (fA t c)=0:=by
 obtain⟨a,b,d,hc,e,f⟩:=yi h;have g:=tf cn;rw[fA]at g⊢;exact BC (by simp only[]at g;omega) (by simp only[]at g;omega) (fun p i=>d p (a0 i)) (Tv hc c2 cn) e f
theorem aKa{t:aq}(h:dH t=0){c:Nat}(c2:2<=c)(cn:c+1<t.cs.length):dH (eQ t c)=0:=by
 obtain⟨a,b,d,hc,e,f⟩:=yi h;have g:=s9 t c;rw[eQ]at g⊢;refine BC (by simp only[]at g;omega) (by simp only[]at g;omega) (fun p i=>?_) (TP hc c2 cn) e f;rcases List.mem_cons.1 i with rfl|i
 ·exact d _ (am (aq.get (by omega)))
 ·exact d p (List.mem_of_mem_drop i)
def aq.fM(t:aq):Nat->Int
 |0=>0
 |m+1=>t.fM m+((t.at m).x*(t.at (m+1)).y-(t.at m).y*(t.at (m+1)).x)
def jC(a b:dG):Int:=a.x*b.y-a.y*b.x
theorem Ik{t:aq}:∀m,m<t.cs.length->t.eA m=t.fM m
 |0,_=>rfl
 |m+1,h=>by
  rw[aq.eA,aq.fM,Ik m (by omega),gN (by omega),if_pos h];omega
theorem sY{t:aq}(h:0<t.cs.length):t.eA t.cs.length=t.fM (t.cs.length-1)+jC (t.at (t.cs.length-1)) (t.at 0):=by
 obtain⟨m,a⟩:∃m,t.cs.length=m+1:=⟨t.cs.length-1,by omega⟩
 have e:t.eA (m+1)=t.eA m+(t.at m).x*(t.at (t.nx m)).y-(t.at m).y*(t.at (t.nx m)).x:=rfl;rw[Ik m (by omega),gN (by omega),if_neg (by omega)]at e;rw[a,show m+1-1=m from rfl,e,jC];omega
theorem Rr{t:aq}{c:Nat}:∀m,m<=c->(fA t c).fM m=t.fM m
 |0,_=>rfl
 |m+1,h=>by rw[aq.fM,aq.fM,Rr m (by omega),ld (by omega),ld (by omega)]
theorem RY{t:aq}{c:Nat}:∀m,(eQ t c).fM (m+1)=jC (t.at 0) (t.at c)+t.fM (c+m)-t.fM c
 |0=>by
  rw[aq.fM,aq.fM,qE,show(eQ t c).at (0+1)=t.at c from jt t c 0,jC,Nat.add_zero];omega
 |m+1=>by
  rw[aq.fM,RY m,jt,jt,show c+(m+1)=c+m+1 from rfl,aq.fM];omega
theorem Ta{t:aq}{c:Nat}(c2:2<=c)(cn:c+1<t.cs.length):
 (fA t c).eA (fA t c).cs.length+(eQ t c).eA (eQ t c).cs.length=t.eA t.cs.length:=by
 rw[sY (t:=fA t c) (by rw[tf (by omega)];omega),sY (t:=eQ t c) (by rw[s9];omega),sY (t:=t) (by omega)];rw[tf (by omega),s9,show c+1-1=c from by omega,Rr c (a8 c),ld (a8 c),ld (Nat.zero_le c)];rw[show t.cs.length-c+1-1=(t.cs.length-c-1)+1 from by omega,RY,jt,qE,show c+(t.cs.length-c-1)=t.cs.length-1 from by omega];have:jC (t.at c) (t.at 0)+jC (t.at 0) (t.at c)=0:=by simp only[jC];grind
 omega
theorem Hz{t:aq}(hc:t.dv=true):∀m,m+1<t.cs.length->0<=t.fM (m+1)+jC (t.at (m+1)) (t.at 0)/\(1<=m->0<t.fM (m+1)+jC (t.at (m+1)) (t.at 0))
 |0,_=>by
  have:t.fM (0+1)+jC (t.at (0+1)) (t.at 0)=0:=by
   simp only[aq.fM,jC];grind
  rw[this];exact⟨by decide,fun h=>by omega⟩
 |m+1,h=>by
  have b:=(Hz hc m (by omega)).1;have a:=BB hc (i:=m+1) (j:=m+1+1) (by omega) (by omega) h;have:t.fM (m+1+1)+jC (t.at (m+1+1)) (t.at 0)=t.fM (m+1)+jC (t.at (m+1)) (t.at 0)+fR (t.at 0) (t.at (m+1)) (t.at (m+1+1)):=by
   rw[aq.fM,fR,jC,jC]
   grind
  omega
theorem TF{t:aq}(hc:t.dv=true)(a:3<=t.cs.length):0<t.eA t.cs.length:=by
 rw[sY (by omega)];have:=(Hz hc (t.cs.length-2) (by omega)).2 (by omega)
 rwa [show t.cs.length-2+1=t.cs.length-1 from by omega]at this
theorem ye{s:List Nat}{D:Nat}(h:eE s D=true):bX s=0/\s.length<=2*D+2:=by
 simp only[eE,Bool.and_eq_true,decide_eq_true_eq]at h;exact⟨h.1.1.2,h.1.1.1⟩
end Go.au
