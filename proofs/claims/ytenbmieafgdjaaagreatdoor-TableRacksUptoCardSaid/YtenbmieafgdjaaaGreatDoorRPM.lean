import Derived.Test.YtenbmieafgdjaaaGreatDoorRPL
import Derived.Test.YtenbmieafgdjaaaGreatDoorRPK
/- Parts of a proof. -/
set_option linter.unusedSimpArgs false
set_option linter.unusedVariables false
set_option linter.unusedSectionVars false
open Go.Proofs.Tryz
open And renaming intro->aT
open Bool renaming false_or->a0, true_or->a1, and_eq_true->a6, false_eq_true->a7, or_false->a8
open Go.IntKind renaming i64->a9
open Int renaming tmod_eq_emod_of_nonneg->bb
open List renaming take_of_length_le->be, take_length->bi, mem_of_getElem?->bk, length_eq_zero_iff->bl, map_nil->bo, append_nil->bv, map_append->b0, length_map->b1, map_cons->b2, range_zero->b3, mem_iff_getElem->b4, length_cons->b5, cons_append->cb, range_succ->cc, nil_append->ce, getElem?_eq_getElem->ck, flatMap_append->cv, range->cx, length_append->cy, take_add_one->c6, length_range->c9, flatMap_cons->da, flatMap_nil->db, any_eq_true->dg, any_append->dk, any_cons->dl, any_nil->dp
open Nat renaming le_trans->dq, lt_of_lt_of_le->dz, not_lt_zero->ea, lt_or_ge->eb, le_refl->ec
namespace Go.aj
open Go.Proofs
set_option maxHeartbeats 4000000
set_option maxRecDepth 100000
theorem Tk(l:List dS):fc prog 2 (l.map (AV.p∘cN)):=Cq (fun r=>⟨by simp[aa],by simp[aa]⟩) l
theorem sj{α:Type}{f:α->AV}{l:List α}{j:Nat}{x:α}(h:l[j+1]?=some x):(l.take (j+1+1)).map f=(l.map f).take (j+1)++[f x]:=by
 rw[c6 (i:=j+1),h,b0,List.map_take];rfl
theorem jz{N:Nat×Nat->Prop}{α:Type}{f:α->PV}{k:Nat}{l:List α}:aR N ((l.map (AV.p∘f)).take k)=True:=by
 rw[cG,eq_iff_iff,iff_true];intro x hx;obtain⟨a,_,rfl⟩:=List.mem_map.1 (List.mem_of_mem_take hx);trivial
theorem oF:ff=fh:=rfl
theorem oD:fN=cr:=rfl
theorem sn{α:Type}{l:List α}{x:α}(h:l[0]?=some x):l.take 1=[x]:=by
 rw[c6 (i:=0),h];rfl
theorem FK(t:aF)(u:t.cs.length<=1000000)(v:t.bc.length<=1000000)(w:t.az.length<=1000000):aw prog 13 [cA t] (dI t):=by
 have s:(1000000:Nat)<cO:=by decide
 have o:a9.wrap 1=1:=by decide
 refine aI nf Pq mix (by simp[f13]) ?_;simp[f13,aa];refine⟨⟨Tk _,by omega⟩,?_⟩
 by_cases hc:t.cs=[]
 ·simp[hc];refine⟨⟨by repeat' first|rfl|apply aT,by repeat' first|rfl|apply aT⟩,?_⟩;refine lp (α:=Nat) (fun i=>match i with
    |0=>⟨[(18,.p (.int .i64 0)),(17,.p (.int .i64 t.bc.length)),(16,.p (.seq (t.bc.map fh))),(3,.ptr 3 []),(2,.ptr 1 []),(1,.ptr 0 [])],[.box false (.p (cA t)),.box false (.p (.st 37 [.aN,.int .i64 0,.aN,.aN])),.arr .exact 0 2 [],.box false (.st 37 [.sl 2 0 2 0 0,.p (.int .i64 t.bF),.p .aN,.p .aN])]⟩
    |m+1=>⟨[(18,.p (.int .i64 ((m+1:Nat):Int))),(17,.p (.int .i64 t.bc.length)),(16,.p (.seq (t.bc.map fh))),(3,.ptr 3 []),(2,.ptr 1 []),(1,.ptr 0 [])],[.box false (.p (cA t)),.box false (.p (.st 37 [.aN,.int .i64 0,.aN,.aN])),.arr .exact 0 2 [],.box false (.st 37 [.sl 2 0 2 0 0,.p (.int .i64 t.bF),.sl 6 m 4 0 (m+1),.p .aN]),.hole,.hole,.arr .grow m 4 ((t.bc.take (m+1)).map (AV.p∘fh))]⟩) (fun i=>i<=t.bc.length) (fun i=>t.bc.length-i) 0 (by simp) ?_
  rintro i q
  by_cases hi:i<t.bc.length
  ·have a:=aF.lB hi;rcases i with _|j
   ·have b:=sn a;simp[hi,a,o,aa];exact⟨by omega,rd 1 hi (hh:=by simp[b]) (hr2:=by simp[jz])⟩
   ·have h:a9.wrap ((j:Int)+1+1)=(j:Int)+1+1:=aK _ (by omega) (by omega);have hI:(j:Int)+1<t.bc.length:=by omega
    have b:=sj (f:=AV.p∘fh) a;simp[hi,hI,a,h,aa];exact⟨by omega,⟨by omega,by omega⟩,rd (j+2) hi (hh:=by simp at b;simp[b]) (hr2:=by simp[jz])⟩
  have r:i=t.bc.length:=by omega
  rcases i with _|j
  ·have n:t.bc=[]:=bl.1 r.symm;simp[n,aa];refine lp (α:=Nat) (fun i=>match i with
     |0=>⟨[(32,.p (.int .i64 0)),(31,.p (.int .i64 t.az.length)),(30,.p (.seq (t.az.map cr))),(3,.ptr 3 []),(2,.ptr 1 []),(1,.ptr 0 [])],[.box false (.p (cA t)),.box false (.p (.st 37 [.aN,.int .i64 0,.aN,.aN])),.arr .exact 0 2 [],.box false (.st 37 [.sl 2 0 2 0 0,.p (.int .i64 t.bF),.p .aN,.p .aN])]⟩
     |m+1=>⟨[(32,.p (.int .i64 ((m+1:Nat):Int))),(31,.p (.int .i64 t.az.length)),(30,.p (.seq (t.az.map cr))),(3,.ptr 3 []),(2,.ptr 1 []),(1,.ptr 0 [])],[.box false (.p (cA t)),.box false (.p (.st 37 [.aN,.int .i64 0,.aN,.aN])),.arr .exact 0 2 [],.box false (.st 37 [.sl 2 0 2 0 0,.p (.int .i64 t.bF),.p .aN,.sl 6 m 3 0 (m+1)]),.hole,.hole,.arr .grow m 3 ((t.az.take (m+1)).map (AV.p∘cr))]⟩) (fun i=>i<=t.az.length) (fun i=>t.az.length-i) 0 (by simp) ?_
   rintro i q
   by_cases hi:i<t.az.length
   ·have a:=aF.fx hi;rcases i with _|j
    ·have b:=sn a;simp[hi,a,o,aa];exact⟨by omega,rd 1 hi (hh:=by simp[b]) (hr2:=by simp[jz])⟩
    ·have h:a9.wrap ((j:Int)+1+1)=(j:Int)+1+1:=aK _ (by omega) (by omega);have hI:(j:Int)+1<t.az.length:=by omega
     have b:=sj (f:=AV.p∘cr) a;simp[hi,hI,a,h,aa];exact⟨by omega,⟨by omega,by omega⟩,rd (j+2) hi (hh:=by simp at b;simp[b]) (hr2:=by simp[jz])⟩
   have d:i=t.az.length:=by omega
   rcases i with _|c
   ·have e:t.az=[]:=bl.1 d.symm;simp[e,aa];simp[dI,hc,n,e,oF,oD]
   ·have hI:¬((c:Int)+1<t.az.length):=by omega
    have g:t.az.take (c+1)=t.az:=by rw[d,bi]
    simp[hI,g,aa];have l:(t.az.map (AV.p∘cr)).take (c+1)=t.az.map (AV.p∘cr):=be (by simp;omega);simp[dI,hc,n,l,oF,oD];omega
  ·have hI:¬((j:Int)+1<t.bc.length):=by omega
   have g:t.bc.take (j+1)=t.bc:=by rw[r,bi]
   simp[hI,g,aa];refine lp (α:=Nat) (fun i=>match i with
    |0=>⟨[(32,.p (.int .i64 0)),(31,.p (.int .i64 t.az.length)),(30,.p (.seq (t.az.map cr))),(3,.ptr 3 []),(2,.ptr 1 []),(1,.ptr 0 [])],[.box false (.p (cA t)),.box false (.p (.st 37 [.aN,.int .i64 0,.aN,.aN])),.arr .exact 0 2 [],.box false (.st 37 [.sl 2 0 2 0 0,.p (.int .i64 t.bF),.sl 6 j 4 0 (j+1),.p .aN]),.hole,.hole,.arr .grow j 4 (t.bc.map (AV.p∘fh))]⟩
    |m+1=>⟨[(32,.p (.int .i64 ((m+1:Nat):Int))),(31,.p (.int .i64 t.az.length)),(30,.p (.seq (t.az.map cr))),(3,.ptr 3 []),(2,.ptr 1 []),(1,.ptr 0 [])],[.box false (.p (cA t)),.box false (.p (.st 37 [.aN,.int .i64 0,.aN,.aN])),.arr .exact 0 2 [],.box false (.st 37 [.sl 2 0 2 0 0,.p (.int .i64 t.bF),.sl 6 j 4 0 (j+1),.sl 9 m 3 0 (m+1)]),.hole,.hole,.arr .grow j 4 (t.bc.map (AV.p∘fh)),.hole,.hole,.arr .grow m 3 ((t.az.take (m+1)).map (AV.p∘cr))]⟩) (fun i=>i<=t.az.length) (fun i=>t.az.length-i) 0 (by simp) ?_
   rintro i q
   by_cases hi:i<t.az.length
   ·have a:=aF.fx hi;rcases i with _|j
    ·have b:=sn a;simp[hi,a,o,aa];exact⟨by omega,rd 1 hi (hh:=by simp[b]) (hr2:=by simp[jz])⟩
    ·have h:a9.wrap ((j:Int)+1+1)=(j:Int)+1+1:=aK _ (by omega) (by omega);have hI:(j:Int)+1<t.az.length:=by omega
     have b:=sj (f:=AV.p∘cr) a;simp[hi,hI,a,h,aa];exact⟨by omega,⟨by omega,by omega⟩,rd (j+2) hi (hh:=by simp at b;simp[b]) (hr2:=by simp[jz])⟩
   have d:i=t.az.length:=by omega
   rcases i with _|c
   ·have e:t.az=[]:=bl.1 d.symm;simp[e,aa];have k:(t.bc.map (AV.p∘fh)).take (j+1)=t.bc.map (AV.p∘fh):=be (by simp;omega);simp[dI,hc,k,e,oF,oD];omega
   ·have hI:¬((c:Int)+1<t.az.length):=by omega
    have g:t.az.take (c+1)=t.az:=by rw[d,bi]
    simp[hI,g,aa];have k:(t.bc.map (AV.p∘fh)).take (j+1)=t.bc.map (AV.p∘fh):=be (by simp;omega);have l:(t.az.map (AV.p∘cr)).take (c+1)=t.az.map (AV.p∘cr):=be (by simp;omega);simp[dI,hc,k,l,oF,oD];omega
 ·simp[hc];refine⟨⟨by repeat' first|rfl|apply aT,by repeat' first|rfl|apply aT⟩,?_⟩;refine lp (α:=Nat) (fun i=>match i with
    |0=>⟨[(18,.p (.int .i64 0)),(17,.p (.int .i64 t.bc.length)),(16,.p (.seq (t.bc.map fh))),(3,.ptr 4 []),(2,.ptr 1 []),(1,.ptr 0 [])],[.box false (.p (cA t)),.box false (.p (.st 37 [.aN,.int .i64 0,.aN,.aN])),.arr .exact 0 2 [],.arr .grow 0 2 (t.cs.map (AV.p∘cN)),.box false (.st 37 [.sl 3 0 2 0 t.cs.length,.p (.int .i64 t.bF),.p .aN,.p .aN])]⟩
    |m+1=>⟨[(18,.p (.int .i64 ((m+1:Nat):Int))),(17,.p (.int .i64 t.bc.length)),(16,.p (.seq (t.bc.map fh))),(3,.ptr 4 []),(2,.ptr 1 []),(1,.ptr 0 [])],[.box false (.p (cA t)),.box false (.p (.st 37 [.aN,.int .i64 0,.aN,.aN])),.arr .exact 0 2 [],.arr .grow 0 2 (t.cs.map (AV.p∘cN)),.box false (.st 37 [.sl 3 0 2 0 t.cs.length,.p (.int .i64 t.bF),.sl 7 m 4 0 (m+1),.p .aN]),.hole,.hole,.arr .grow m 4 ((t.bc.take (m+1)).map (AV.p∘fh))]⟩) (fun i=>i<=t.bc.length) (fun i=>t.bc.length-i) 0 (by simp) ?_
  rintro i q
  by_cases hi:i<t.bc.length
  ·have a:=aF.lB hi;rcases i with _|j
   ·have b:=sn a;simp[hi,a,o,aa];exact⟨by omega,rd 1 hi (hh:=by simp[b]) (hr2:=by simp[jz])⟩
   ·have h:a9.wrap ((j:Int)+1+1)=(j:Int)+1+1:=aK _ (by omega) (by omega);have hI:(j:Int)+1<t.bc.length:=by omega
    have b:=sj (f:=AV.p∘fh) a;simp[hi,hI,a,h,aa];exact⟨by omega,⟨by omega,by omega⟩,rd (j+2) hi (hh:=by simp at b;simp[b]) (hr2:=by simp[jz])⟩
  have r:i=t.bc.length:=by omega
  rcases i with _|j
  ·have n:t.bc=[]:=bl.1 r.symm;simp[n,aa];refine lp (α:=Nat) (fun i=>match i with
     |0=>⟨[(32,.p (.int .i64 0)),(31,.p (.int .i64 t.az.length)),(30,.p (.seq (t.az.map cr))),(3,.ptr 4 []),(2,.ptr 1 []),(1,.ptr 0 [])],[.box false (.p (cA t)),.box false (.p (.st 37 [.aN,.int .i64 0,.aN,.aN])),.arr .exact 0 2 [],.arr .grow 0 2 (t.cs.map (AV.p∘cN)),.box false (.st 37 [.sl 3 0 2 0 t.cs.length,.p (.int .i64 t.bF),.p .aN,.p .aN])]⟩
     |m+1=>⟨[(32,.p (.int .i64 ((m+1:Nat):Int))),(31,.p (.int .i64 t.az.length)),(30,.p (.seq (t.az.map cr))),(3,.ptr 4 []),(2,.ptr 1 []),(1,.ptr 0 [])],[.box false (.p (cA t)),.box false (.p (.st 37 [.aN,.int .i64 0,.aN,.aN])),.arr .exact 0 2 [],.arr .grow 0 2 (t.cs.map (AV.p∘cN)),.box false (.st 37 [.sl 3 0 2 0 t.cs.length,.p (.int .i64 t.bF),.p .aN,.sl 7 m 3 0 (m+1)]),.hole,.hole,.arr .grow m 3 ((t.az.take (m+1)).map (AV.p∘cr))]⟩) (fun i=>i<=t.az.length) (fun i=>t.az.length-i) 0 (by simp) ?_
   rintro i q
   by_cases hi:i<t.az.length
   ·have a:=aF.fx hi;rcases i with _|j
    ·have b:=sn a;simp[hi,a,o,aa];exact⟨by omega,rd 1 hi (hh:=by simp[b]) (hr2:=by simp[jz])⟩
    ·have h:a9.wrap ((j:Int)+1+1)=(j:Int)+1+1:=aK _ (by omega) (by omega);have hI:(j:Int)+1<t.az.length:=by omega
     have b:=sj (f:=AV.p∘cr) a;simp[hi,hI,a,h,aa];exact⟨by omega,⟨by omega,by omega⟩,rd (j+2) hi (hh:=by simp at b;simp[b]) (hr2:=by simp[jz])⟩
   have d:i=t.az.length:=by omega
   rcases i with _|c
   ·have e:t.az=[]:=bl.1 d.symm;simp[e,aa];simp[dI,hc,n,e,oF,oD]
   ·have hI:¬((c:Int)+1<t.az.length):=by omega
    have g:t.az.take (c+1)=t.az:=by rw[d,bi]
    simp[hI,g,aa];have l:(t.az.map (AV.p∘cr)).take (c+1)=t.az.map (AV.p∘cr):=be (by simp;omega);simp[dI,hc,n,l,oF,oD];omega
  ·have hI:¬((j:Int)+1<t.bc.length):=by omega
   have g:t.bc.take (j+1)=t.bc:=by rw[r,bi]
   simp[hI,g,aa];refine lp (α:=Nat) (fun i=>match i with
    |0=>⟨[(32,.p (.int .i64 0)),(31,.p (.int .i64 t.az.length)),(30,.p (.seq (t.az.map cr))),(3,.ptr 4 []),(2,.ptr 1 []),(1,.ptr 0 [])],[.box false (.p (cA t)),.box false (.p (.st 37 [.aN,.int .i64 0,.aN,.aN])),.arr .exact 0 2 [],.arr .grow 0 2 (t.cs.map (AV.p∘cN)),.box false (.st 37 [.sl 3 0 2 0 t.cs.length,.p (.int .i64 t.bF),.sl 7 j 4 0 (j+1),.p .aN]),.hole,.hole,.arr .grow j 4 (t.bc.map (AV.p∘fh))]⟩
    |m+1=>⟨[(32,.p (.int .i64 ((m+1:Nat):Int))),(31,.p (.int .i64 t.az.length)),(30,.p (.seq (t.az.map cr))),(3,.ptr 4 []),(2,.ptr 1 []),(1,.ptr 0 [])],[.box false (.p (cA t)),.box false (.p (.st 37 [.aN,.int .i64 0,.aN,.aN])),.arr .exact 0 2 [],.arr .grow 0 2 (t.cs.map (AV.p∘cN)),.box false (.st 37 [.sl 3 0 2 0 t.cs.length,.p (.int .i64 t.bF),.sl 7 j 4 0 (j+1),.sl 10 m 3 0 (m+1)]),.hole,.hole,.arr .grow j 4 (t.bc.map (AV.p∘fh)),.hole,.hole,.arr .grow m 3 ((t.az.take (m+1)).map (AV.p∘cr))]⟩) (fun i=>i<=t.az.length) (fun i=>t.az.length-i) 0 (by simp) ?_
   rintro i q
   by_cases hi:i<t.az.length
   ·have a:=aF.fx hi;rcases i with _|j
    ·have b:=sn a;simp[hi,a,o,aa];exact⟨by omega,rd 1 hi (hh:=by simp[b]) (hr2:=by simp[jz])⟩
    ·have h:a9.wrap ((j:Int)+1+1)=(j:Int)+1+1:=aK _ (by omega) (by omega);have hI:(j:Int)+1<t.az.length:=by omega
     have b:=sj (f:=AV.p∘cr) a;simp[hi,hI,a,h,aa];exact⟨by omega,⟨by omega,by omega⟩,rd (j+2) hi (hh:=by simp at b;simp[b]) (hr2:=by simp[jz])⟩
   have d:i=t.az.length:=by omega
   rcases i with _|c
   ·have e:t.az=[]:=bl.1 d.symm;simp[e,aa];have k:(t.bc.map (AV.p∘fh)).take (j+1)=t.bc.map (AV.p∘fh):=be (by simp;omega);simp[dI,hc,k,e,oF,oD];omega
   ·have hI:¬((c:Int)+1<t.az.length):=by omega
    have g:t.az.take (c+1)=t.az:=by rw[d,bi]
    simp[hI,g,aa];have k:(t.bc.map (AV.p∘fh)).take (j+1)=t.bc.map (AV.p∘fh):=be (by simp;omega);have l:(t.az.map (AV.p∘cr)).take (c+1)=t.az.map (AV.p∘cr):=be (by simp;omega);simp[dI,hc,k,l,oF,oD];omega
def mb(r:Int)(a b:V2):Int:=eS ((a.sub b).dot (a.sub b)) (nN r)
def iY(t:aF)(a:List dQ)(s:dQ):Int:=
 if isName s.name=false then 8
 else if a.any (fun o=>decide (o.name=s.name))=true then 9
 else if dU s.pt≠0 then dU s.pt
 else if t.on (vP s.pt)<0 then 16
 else if a.any (fun o=>decide (mb t.bF (vP o.pt) (vP s.pt)<0))=true then 17 else 0
def qg(t b:aF):Int:=if 24<b.az.length then 5 else jU (iY t) b.az
def qh(t b:aF):Int:=if eO t≠0 then eO t else qg t b
structure uE(b:aF):Prop where
 sl:b.az.length<=1000000
 sp:∀s∈b.az,rS s
theorem uC{t:aF}(h:eO t=0):1<=t.bF/\t.bF<=1000:=by
 rw[eO]at h
 split at h
 ·omega
 split at h
 ·omega
 split at h
 ·omega
 split at h
 ·omega
 split at h
 ·omega
 omega
theorem uI{s:gz}(h:dU s=0):eV (vP s)=fM s/\bW 2000 (vP s):=by
 obtain⟨g1,g2⟩:=nE h;refine⟨?_,iA g1,iA g2⟩;rw[eV,vP];dsimp only;rw[(jr g1).1,(jr g2).1]
theorem Sg(t:aF)(a:0<=t.bF)(b:t.bF<=1000000):aw prog 205 [cA t] (.str (aX (nN t.bF))):=by
 have f:=Jm a b;have c:=tM (4*t.bF*t.bF) (by omega) (by omega);have d:a9.wrap (4*t.bF)=4*t.bF:=aK _ (by omega) (by omega);have e:a9.wrap (4*t.bF*t.bF)=4*t.bF*t.bF:=aK _ (by omega) (by omega);refine aI nf Hr mix (by simp[f205]) ?_;rw[nN];simp[f205,aa,d,e];refine c1 c ?_;simp
theorem Sh(t:aF)(a b:V2)(d:0<=t.bF)(e:t.bF<=1000000)(f:bW 2000 a)(g:bW 2000 b):aw prog 104 [cA t,eV a,eV b] (.int .i64 (mb t.bF a b)):=by
 have c:=tJ f g;have k1:=DG a b (f.mono (by decide)) (g.mono (by decide));have k2:=Sz (a.sub b) (c.mono (by decide));have k3:=Sg t d e;have k4:=uy ((a.sub b).dot (a.sub b)) (nN t.bF) ((aC1 c c).mono (by decide)) ((Sw d e).mono (by decide));refine aI nf Oc mix (by simp[f104]) ?_;rw[mb];simp[f104,aa];refine e2 k1 ?_;simp[aa];refine e1 k2 ?_;simp[aa];refine e1 k3 ?_;simp[aa];refine e2 k4 ?_;simp[aa]
theorem Gs{α:Type}{f:α->Bool}{l:List α}{i j:Nat}{x:α}(h:l[j]?=some x)(a:j<i)(hf:f x=true):(l.take i).any f=true:=by
 rw[dg];exact⟨x,bk (i:=j) (by rw[List.getElem?_take,if_pos a];exact h),hf⟩
theorem Gr{t:aF}{a:List dQ}{s:dQ}(h:iY t a s=0):dU s.pt=0:=by
 rw[iY]at h
 split at h
 ·omega
 split at h
 ·omega
 split at h
 ·contradiction
 ·rename_i g;exact Decidable.not_not.1 g
theorem AG(t b:aF)(v:eO t=0)(z:uE b)(A:t.cs.length<=1000000):aw prog 32 [cA t,.seq (b.az.map cr)] (.int .i64 (qg t b)):=by
 obtain⟨P,C⟩:=z;obtain⟨_,_,B,_⟩:=wZ v;obtain⟨Q,R⟩:=uC v;refine aI nf PE mix (by simp[f32]) ?_;rw[qg]
 by_cases c4:24<b.az.length
 ·have cI:(24:Int)<b.az.length:=by omega
  rw[if_pos c4];simp[f32,aa,cI]
 have x:¬(24:Int)<b.az.length:=by omega
 rw[if_neg c4];simp[f32,aa,x];refine lp (α:=Nat) (fun i=>⟨[(5,.p (.int .i64 i)),(2,.ptr 0 []),(1,.p (.seq (b.az.map cr)))],[.box false (.p (cA t))]⟩) (fun i=>i<=b.az.length/\∀j,j<i->gK (iY t) b.az j=0) (fun i=>b.az.length-i) 0 (by simp) ?_;rintro i ⟨s1,s2⟩
 by_cases hs:i<b.az.length
 case neg=>
  have:i=b.az.length:=by omega
  subst this;rw[oB.2 s2];simp[aa]
 have a:=aF.fx hs;have D:=bX (i:=i) (by omega);obtain⟨I,J⟩:=C _ (bk a);have g:=Au (b.sp i).name I.1;have y:=sx (b.sp i).pt J;have e:iY t (b.az.take i) (b.sp i)≠0->jU (iY t) b.az=iY t (b.az.take i) (b.sp i):=ux s2 a;have H:iY t (b.az.take i) (b.sp i)=0->∀j,j<i+1->gK (iY t) b.az j=0:=uw s2 a;have M:∀j,j<i->dU (b.sp j).pt=0:=fun j c=>by
  have:=s2 j c;rw[gK,aF.fx (by omega)]at this;exact Gr this
 have ev:iY t (b.az.take i) (b.sp i)=if isName (b.sp i).name=false then 8 else if(b.az.take i).any (fun o=>decide (o.name=(b.sp i).name))=true then 9 else if dU (b.sp i).pt≠0 then dU (b.sp i).pt else if t.on (vP (b.sp i).pt)<0 then 16 else if(b.az.take i).any (fun o=>decide (mb t.bF (vP o.pt) (vP (b.sp i).pt)<0))=true then 17 else 0:=rfl
 clear s2;generalize iY t (b.az.take i) (b.sp i)=E at*;generalize jU (iY t) b.az=N at*;cases m:isName (b.sp i).name
 ·rw[m]at g;rw[m,if_pos rfl]at ev;rw[e (by rw[ev];decide),ev];simp[hs,a,aa];refine Go.aj.c1 g ?_;simp[aa]
 rw[m]at g;rw[m,if_neg (by decide)]at ev;simp[hs,a,aa];refine Go.aj.c1 g ?_;simp[aa];refine lp (α:=Nat) (fun k=>⟨[(6,.p (.int .i64 k)),(5,.p (.int .i64 i)),(2,.ptr 0 []),(1,.p (.seq (b.az.map cr)))],[.box false (.p (cA t))]⟩) (fun k=>k<=i/\(b.az.take k).any (fun o=>decide (o.name=(b.sp i).name))=false) (fun k=>i-k) 0 (by simp) ?_;rintro k ⟨k1,k2⟩
 by_cases hk:k<i
 ·have s:k<b.az.length:=by omega
  have gk:=aF.fx s;have G:=bX (i:=k) (by omega)
  by_cases l:(b.sp k).name=(b.sp i).name
  ·rw[if_pos (Gs gk hk (by simp[l]))]at ev;rw[e (by rw[ev];decide),ev];simp[hs,hk,s,gk,a,l,aa]
  ·simp[hs,hk,s,gk,a,l,G,aa];exact rd (k+1) ⟨hk,by rw[uv gk,k2];simp[l]⟩
 have:k=i:=by omega
 subst this;rw[k2,if_neg (by decide)]at ev;clear k1 k2 hk;have d0:¬k<k:=by omega
 simp[d0,hs,a,aa];refine Go.aj.c1 y ?_
 by_cases d:dU (b.sp k).pt=0
 case neg=>
  rw[if_pos d]at ev;rw[e (by rw[ev];exact d),ev];simp[d,aa]
 rw[if_neg (by simp[d])]at ev;obtain⟨pl,ok⟩:=uI d;have u:=DL t (vP (b.sp k).pt) A B (ok.mono (by decide));rw[pl]at u;simp[d,hs,a,aa];refine Go.aj.e2 u ?_
 by_cases n:t.on (vP (b.sp k).pt)<0
 ·rw[if_pos n]at ev;rw[e (by rw[ev];decide),ev];simp[n,aa]
 rw[if_neg n]at ev;simp[n,aa];refine lp (α:=Nat) (fun j=>⟨[(8,.p (.int .i64 j)),(5,.p (.int .i64 k)),(2,.ptr 0 []),(1,.p (.seq (b.az.map cr)))],[.box false (.p (cA t))]⟩) (fun j=>j<=k/\(b.az.take j).any (fun o=>decide (mb t.bF (vP o.pt) (vP (b.sp k).pt)<0))=false) (fun j=>k-j) 0 (by simp) ?_;rintro j ⟨O,w⟩
 by_cases c:j<k
 ·have r:j<b.az.length:=by omega
  have f:=aF.fx r;have F:=bX (i:=j) (by omega);obtain⟨L,K⟩:=uI (M j c);have q:=Sh t (vP (b.sp j).pt) (vP (b.sp k).pt) (by omega) (by omega) K ok;rw[pl,L]at q
  by_cases h:mb t.bF (vP (b.sp j).pt) (vP (b.sp k).pt)<0
  ·rw[if_pos (Gs f c (by simp[h]))]at ev;rw[e (by rw[ev];decide),ev];simp[hs,c,r,f,a,aa];refine Go.aj.e3 q ?_;simp[h,aa]
  ·simp[hs,c,r,f,a,aa];refine Go.aj.e3 q ?_;simp[h,F,aa];exact rd (j+1) ⟨c,by rw[uv f,w];simp[h]⟩
 have:j=k:=by omega
 subst this;rw[w,if_neg (by decide)]at ev;simp[d0,D,aa];exact rd (j+1) ⟨hs,H ev⟩
theorem R0(t b:aF)(a:kY t)(c:uE b):aw prog 44 [cA t,.seq (b.az.map cr)] (.int .i64 (qh t b)):=by
 have k1:=Fc t a;refine aI nf PL mix (by simp[f44]) ?_;rw[qh]
 by_cases h:eO t=0
 ·rw[if_neg (by simp[h])];have k2:=AG t b h c a.cl;rw[h]at k1;simp[f44,aa];refine Go.aj.c1 k1 ?_;simp[aa];refine Go.aj.c2 k2 ?_;simp[aa]
 ·rw[if_pos h];generalize eO t=e at*;simp[f44,aa];refine Go.aj.c1 k1 ?_;simp[h,aa]
def Qu(p:dQ):Prop:=rS p/\dU p.pt=0
def DW(l:List dQ)(n:List Nat):Option dQ:=l.find? (fun s=>decide (s.name=n))
structure Qv(b:aF):Prop where
 sl:b.az.length<=24
 sp:∀s∈b.az,Qu s
 ne:∀i,i<b.az.length->DW (b.az.take i) (b.sp i).name=none
theorem aC0{t b:aF}(l:uE b)(h:qh t b=0):eO t=0/\Qv b/\(∀s∈b.az,0<=t.on (vP s.pt)):=by
 rw[qh]at h
 by_cases c:eO t=0
 case neg=>rw[if_pos c]at h;exact absurd h c
 rw[if_neg (by simp[c]),qg]at h
 by_cases f:24<b.az.length
 ·rw[if_pos f]at h;omega
 rw[if_neg f]at h;have k:=oB.1 h;have d:∀i,i<b.az.length->iY t (b.az.take i) (b.sp i)=0:=fun i hi=>by
  have:=k i hi
  rwa [gK,aF.fx hi]at this
 refine⟨c,⟨by omega,fun s hs=>?_,fun i hi=>?_⟩,fun s hs=>?_⟩
 ·obtain⟨j,a,rfl⟩:=b4.1 hs;rw[aF.ot a];exact⟨l.sp _ (bk (aF.fx a)),Gr (d j a)⟩
 ·have:=d i hi;rw[iY]at this
  split at this
  ·omega
  split at this
  ·omega
  rename_i g;rw[DW,List.find?_eq_none];intro x hx e;exact g (dg.2 ⟨x,hx,e⟩)
 ·obtain⟨j,a,rfl⟩:=b4.1 hs;rw[aF.ot a];have:=d j a;rw[iY]at this
  split at this
  ·omega
  split at this
  ·omega
  split at this
  ·contradiction
  split at this
  ·omega
  omega
@[simp high] theorem aHR(c:Bool)(H:Heap)(v w:V2):bG prog .eql 47 c H (.p (eV v)) (.p (eV w))=some (True,{v:=.p (.bool (ln (aX v.x) (aX v.y) (aX w.x) (aX w.y)))}):=by
 rw[eV,eV,fM,fM];simp[bG]
def hasB(b:aF)(name:List Nat)(i:Nat):Prop:=kW b name=i/\i<b.az.length/\DW b.az name=some (b.sp i)
structure Qw(t b:aF)(DR DI:List Nat)(i j:Nat):Prop where
 rY:eO t=0
 tl:t.cs.length<=1000000
 L:Qv b
 XZ:∀s∈b.az,bW 60 (vP s.pt)
 ci:hasB b DR i
 bj:hasB b DI j
theorem Qw.at{t b:aF}{DR DI:List Nat}{i j:Nat}(h:Qw t b DR DI i j){k:Nat}(hk:k<b.az.length):eV (vP (b.sp k).pt)=fM (b.sp k).pt/\bW 60 (vP (b.sp k).pt):=by
 have m:=bk (aF.fx hk);exact⟨(uI (h.L.sp _ m).2).1,h.XZ _ m⟩
def rX(n:Nat)(l:List dQ):Bool:=!((decide (n<l.length)&&decide (l.length<=24))||decide (26<l.length))&&l.all gH
theorem R8(b:aF)(n:Nat)(v:b.az.length<=1000000)(w:n<=1000):aw prog 41 [.seq (b.az.map cr),.int .i64 n] (.bool (rX n b.az)):=by
 refine aI nf PK mix (by simp[f41]) ?_;have o:rX n b.az=(!((decide (n<b.az.length)&&decide (b.az.length<=24))||decide (26<b.az.length))&&b.az.all gH):=rfl;have tail:(n<b.az.length->¬b.az.length<=24)->¬26<b.az.length->rX n b.az=b.az.all gH:=fun d a=>by
  rw[o]
  by_cases h:n<b.az.length
  ·have:=d h;simp[h,this,a]
  ·simp[h,a]
 have loop:(n<b.az.length->¬b.az.length<=24)->¬26<b.az.length->∀i,i<b.az.length->(gH (b.sp i)=false->rX n b.az=false):=fun d a i hi h=>by
  rw[tail d a];exact iW (aF.fx hi) h
 generalize rX n b.az=R at*
 by_cases c1:n<b.az.length/\b.az.length<=24
 ·have z:(n:Int)<b.az.length:=by omega
  have e:(b.az.length:Int)<=24:=by omega
  have l:R=false:=by rw[o];simp[c1]
  simp[f41,aa,c1.1,e,l]
 by_cases c2:26<b.az.length
 ·have g:(26:Int)<b.az.length:=by omega
  have e:¬(b.az.length:Int)<=24:=by omega
  have l:R=false:=by rw[o];simp[c2]
  by_cases c3:n<b.az.length
  ·simp[f41,aa,c3,e,g,l]
  ·simp[f41,aa,c3,g,l]
 have g:¬(26:Int)<b.az.length:=by omega
 have tl:=tail (fun d a=>c1 ⟨d,a⟩) c2;have j:=loop (fun d a=>c1 ⟨d,a⟩) c2;clear tail loop o
 by_cases c3:n<b.az.length
 all_goals
  have e:n<b.az.length->¬(b.az.length:Int)<=24:=fun h=>by omega
  first
  |(have e:=e c3;simp[f41,aa,c3,e,g])
  |simp[f41,aa,c3,g]
  refine lp (α:=Nat) (fun i=>⟨[(5,.p (.int .i64 i)),(0,.p (.seq (b.az.map cr)))],[]⟩) (fun i=>i<=b.az.length/\(b.az.take i).all gH=true) (fun i=>b.az.length-i) 0 (by simp) ?_;rintro i ⟨k1,k2⟩
  by_cases hi:i<b.az.length
  ·have c:=aF.fx hi;have u:=bX (i:=i) (by omega);have k:=mn (b.sp i).pt.x 40;have q:=mn (b.sp i).pt.y 40;have m:gH (b.sp i)=(decide ((b.sp i).name.length<=40)&&(decide ((b.sp i).pt.x.length<=40)&&decide ((b.sp i).pt.y.length<=40))):=rfl;have j:=j i hi
   by_cases t:(b.sp i).name.length<=40
   case neg=>
    have f:(40:Int)<(b.sp i).name.length:=by omega
    have:=j (by rw[m];simp[t]);simp[hi,c,f,this,aa]
   have f:¬(40:Int)<(b.sp i).name.length:=by omega
   by_cases a2:(b.sp i).pt.x.length<=40
   case neg=>
    have r:¬((b.sp i).pt.x.length:Int)<=40:=by omega
    rw[decide_eq_false r]at k;have:=j (by rw[m];simp[a2]);simp[hi,c,f,aa];refine Go.aj.c2 k ?_;simp[this,aa]
   have r:((b.sp i).pt.x.length:Int)<=40:=by omega
   rw[decide_eq_true r]at k
   by_cases a3:(b.sp i).pt.y.length<=40
   case neg=>
    have s:¬((b.sp i).pt.y.length:Int)<=40:=by omega
    rw[decide_eq_false s]at q;have:=j (by rw[m];simp[a3]);simp[hi,c,f,aa];refine Go.aj.c2 k ?_;simp[hi,c,aa];refine Go.aj.c2 q ?_;simp[this,aa]
   have s:((b.sp i).pt.y.length:Int)<=40:=by omega
   rw[decide_eq_true s]at q;simp[hi,c,f,aa];refine Go.aj.c2 k ?_;simp[hi,c,aa];refine Go.aj.c2 q ?_;simp[u,aa];exact rd (i+1) ⟨hi,by rw[oC c,k2,m];simp[t,a2,a3]⟩
  ·have:i=b.az.length:=by omega
   subst this;rw[bi]at k2;rw[tl,k2];simp
def pS(p:gz)(D:Nat):Bool:=fI p.x D&&fI p.y D
def wJ(t b:aF)(n D:Nat):Bool:=
 jW t&&(rX n b.az&&(decide (b.az.length<=n)&&(decide (qh t b=0)&&(decide (t.az.length<=8)&&(t.bc.all (fun p=>fI p.a D&&fI p.b D)&&(t.az.all (fun s=>pS s.pt D)&&b.az.all (fun s=>pS s.pt D)))))))
theorem X9(t b:aF)(n D:Nat)(J:kY t)(H:uE b)(I:n<=1000)(N:D<=1000):aw prog 21 [cA t,.seq (b.az.map cr),.int .i64 n,.int .i64 D] (.bool (wJ t b n D)):=by
 obtain⟨C,E,F,A,B⟩:=J;obtain⟨G,z⟩:=H;have j:=FE t C E F;have l:=R8 b n G I;have M:=R0 t b ⟨C,E,F,A,B⟩ ⟨G,z⟩;refine aI nf Py mix (by simp[f21]) ?_;rw[wJ];generalize qh t b=e at*;cases v:jW t
 ·rw[v]at j;simp[f21,aa];refine Go.aj.c1 j ?_;simp[aa]
 rw[v]at j;cases w:rX n b.az
 ·rw[w]at l;simp[f21,aa];refine Go.aj.c1 j ?_;simp[aa];refine Go.aj.c2 l ?_;simp[aa]
 rw[w]at l;simp[f21,aa];refine Go.aj.c1 j ?_;simp[aa];refine Go.aj.c2 l ?_
 by_cases m:b.az.length<=n
 case neg=>
  have r:n<b.az.length:=by omega
  simp[m,r,aa]
 have r:¬n<b.az.length:=by omega
 simp[m,r,aa];refine Go.aj.c2 M ?_
 by_cases k:e=0
 case neg=>simp[k,aa]
 by_cases o:t.az.length<=8
 case neg=>
  have u:(8:Int)<t.az.length:=by omega
  simp[k,o,u,aa]
 have u:¬(8:Int)<t.az.length:=by omega
 simp[k,o,u,aa];refine lp (α:=Nat) (fun i=>⟨[(9,.p (.int .i64 i)),(4,.ptr 0 []),(3,.p (.int .i64 D)),(1,.p (.seq (b.az.map cr)))],[.box false (.p (cA t))]⟩) (fun i=>i<=t.bc.length/\(t.bc.take i).all (fun p=>fI p.a D&&fI p.b D)=true) (fun i=>t.bc.length-i) 0 (by simp) ?_;rintro i ⟨i1,i2⟩
 by_cases hi:i<t.bc.length
 ·have c:=aF.lB hi;have g:=bX (i:=i) (by omega);obtain⟨_,K,L⟩:=A _ (bk c);have d:=zH (t.pk i).a D K (by omega);have f2:=zH (t.pk i).b D L (by omega);have bad:(fI (t.pk i).a D&&fI (t.pk i).b D)=false->t.bc.all (fun p=>fI p.a D&&fI p.b D)=false:=fun h=>iW c h;cases f:fI (t.pk i).a D
  ·rw[f]at d;rw[bad (by rw[f];rfl)];simp[hi,c,aa];refine Go.aj.c2 d ?_;simp[aa]
  rw[f]at d;cases a2:fI (t.pk i).b D
  ·rw[a2]at f2;rw[bad (by rw[a2];simp)];simp[hi,c,aa];refine Go.aj.c2 d ?_;simp[hi,c,aa];refine Go.aj.c2 f2 ?_;simp[aa]
  rw[a2]at f2;simp[hi,c,aa];refine Go.aj.c2 d ?_;simp[hi,c,aa];refine Go.aj.c2 f2 ?_;simp[g,aa];exact rd (i+1) ⟨hi,by rw[oC c,i2,f,a2];rfl⟩
 have:i=t.bc.length:=by omega
 subst this;rw[bi]at i2;rw[i2];clear i1 i2 hi;simp[aa];refine lp (α:=Nat) (fun i=>⟨[(10,.p (.int .i64 i)),(4,.ptr 0 []),(3,.p (.int .i64 D)),(1,.p (.seq (b.az.map cr)))],[.box false (.p (cA t))]⟩) (fun i=>i<=t.az.length/\(t.az.take i).all (fun s=>pS s.pt D)=true) (fun i=>t.az.length-i) 0 (by simp) ?_;rintro i ⟨i1,i2⟩
 by_cases hi:i<t.az.length
 ·have c:=aF.fx hi;have g:=bX (i:=i) (by omega);have d:=KG (t.sp i).pt D (B _ (bk c)).2 (by omega);have q:pS (t.sp i).pt D=(fI (t.sp i).pt.x D&&fI (t.sp i).pt.y D):=rfl;rw[<-q]at d;cases f:pS (t.sp i).pt D
  ·rw[f]at d;rw[iW c f];simp[hi,c,aa];refine Go.aj.c2 d ?_;simp[aa]
  rw[f]at d;simp[hi,c,aa];refine Go.aj.c2 d ?_;simp[g,aa];exact rd (i+1) ⟨hi,by rw[oC c,i2,f];rfl⟩
 have:i=t.az.length:=by omega
 subst this;rw[bi]at i2;rw[i2];clear i1 i2 hi;simp[aa];refine lp (α:=Nat) (fun i=>⟨[(11,.p (.int .i64 i)),(3,.p (.int .i64 D)),(1,.p (.seq (b.az.map cr)))],[]⟩) (fun i=>i<=b.az.length/\(b.az.take i).all (fun s=>pS s.pt D)=true) (fun i=>b.az.length-i) 0 (by simp) ?_;rintro i ⟨i1,i2⟩
 by_cases hi:i<b.az.length
 ·have c:=aF.fx hi;have g:=bX (i:=i) (by omega);have d:=KG (b.sp i).pt D (z _ (bk c)).2 (by omega);have q:pS (b.sp i).pt D=(fI (b.sp i).pt.x D&&fI (b.sp i).pt.y D):=rfl;rw[<-q]at d;cases f:pS (b.sp i).pt D
  ·rw[f]at d;rw[iW c f];simp[hi,c,aa];refine Go.aj.c2 d ?_;simp[aa]
  rw[f]at d;simp[hi,c,aa];refine Go.aj.c2 d ?_;simp[g,aa];exact rd (i+1) ⟨hi,by rw[oC c,i2,f];rfl⟩
 have:i=b.az.length:=by omega
 subst this;rw[bi]at i2;rw[i2];simp[m,k,o,aa]
theorem GB(s:List Nat):(cR s).length<=s.length:=by
 rw[cR];split<;>simp
theorem Gx{s:List Nat}(h:bU s=0)(b:s.length<=40):bE 133 (aZ s):=by
 obtain⟨l,g,i⟩:=jr h;have c:(10:Nat)^40<=2^133:=by decide
 unfold bU at h
 split at h
 ·cases h
 rename_i a;have a:jH s=true:=by simpa using a
 simp only[jH,a6,Bool.or_eq_true,decide_eq_true_eq]at a;obtain⟨⟨d,_⟩,a3⟩:=a;have j:(bC s).length<=40:=dq (o7 47 (cR s)).1 (dq (GB s) b);have k:(bN s).length<=40:=dq (o7 47 (cR s)).2.1 (dq (GB s) b);have f:=dz (zJ j (je d)) c;refine⟨?_,?_⟩
 ·rw[g];have e:(if bS s=true then -(aU (bC s):Int)else aU (bC s)).natAbs=aU (bC s):=by split<;>omega
  rw[e];exact f
 ·rw[i]
  by_cases hf:dW s=true
  ·rw[if_pos hf];rcases a3 with a3|a3
   ·rw[hf]at a3;cases a3
   ·exact dz (zJ k (je a3.1.1)) c
  ·rw[if_neg hf];decide
def iK(f:Nat->Bool):Nat->Nat
 |0=>0
 |n+1=>if iK f n<n then iK f n else if f n=true then n else n+1
theorem uz(f:Nat->Bool):∀n,iK f n<=n/\(∀i,i<iK f n->f i=false)/\(iK f n<n->f (iK f n)=true)
 |0=>⟨ec _,fun i h=>absurd h (ea _),fun h=>absurd h (ea _)⟩
 |n+1=>by
  obtain⟨g,a,b⟩:=uz f n;rw[iK]
  by_cases c:iK f n<n
  ·rw[if_pos c];exact⟨by omega,a,fun _=>b c⟩
  ·rw[if_neg c];have e:iK f n=n:=by omega
   rw[e]at a
   by_cases d:f n=true
   ·rw[if_pos d];exact⟨by omega,a,fun _=>d⟩
   ·rw[if_neg d];refine⟨ec _,fun i hi=>?_,fun h=>absurd h (Nat.lt_irrefl _)⟩
    by_cases e2:i=n
    ·rw[e2];simpa using d
    ·exact a i (by omega)
theorem RZ{f:Nat->Bool}{n i:Nat}(b:i<=iK f n)(c:i<n)(a:f i=true):iK f n=i:=by
 obtain⟨k1,k2,k3⟩:=uz f n;rcases eb i (iK f n)with h|h
 ·rw[k2 i h]at a;cases a
 ·omega
theorem R3{f:Nat->Bool}{n i:Nat}(b:i<=iK f n)(c:i<n)(a:f i=false):i+1<=iK f n:=by
 obtain⟨k1,k2,k3⟩:=uz f n;rcases eb i (iK f n)with h|h
 ·omega
 ·have e:iK f n=i:=by omega
  have:=k3 (by omega);rw[e,a]at this;cases this
def jM(k n:Nat):Int:=if k<n then k else -1
def aF.shr(t:aF)(i:Nat)(v:V2):Rat:=((v.sub (jP (t.at i))).dot (t.sc i))/((t.sc i).dot (t.sc i))
theorem GI(v w:NV)(a:bW kQ v.q)(b:bW kQ w.q):aw prog 73 [fC v,fC w] (fC (v.add w)):=by
 have c:=zi v.x w.x (eK a.1) (eK b.1);have d:=zi v.y w.y (eK a.2) (eK b.2);refine aI nf PU mix (by simp[f73]) ?_;rw[NV.add,qf];simp[f73,aa];refine e2 c ?_;simp[aa];refine e2 d ?_;simp[aa]
theorem Gn(v:NV)(h:bW 1800 v.q):aw prog 78 [fC v] (.aE [eV v.q,.int .i64 0]):=by
 have a:=Cc v.x (h.1.mono (by decide));have b:=Cc v.y (h.2.mono (by decide));rw[Qn (show bE 1800 v.x.q from h.1)]at a;rw[Qn (show bE 1800 v.y.q from h.2)]at b;have c:=B2 v.x (h.1.mono (by decide));have d:=B2 v.y (h.2.mono (by decide));obtain⟨x,y⟩:=v;refine aI nf P0 mix (by simp[f78]) ?_;rw[qf,show eV (NV.q ⟨x,y⟩)=eV ⟨x.q,y.q⟩from rfl,tI];simp[f78,aa];refine Go.aj.c1 a ?_;simp[aa];refine Go.aj.c1 b ?_;simp[aa];refine Go.aj.e1 c ?_;simp[aa];refine Go.aj.e1 d ?_;simp[aa]
theorem aCX{t b:aF}(d:uE b)(h:qh t b=0):eO t=0/\(∀o∈b.az,Qu o):=by
 obtain⟨a,c,_⟩:=aC0 d h;exact⟨a,c.sp⟩
def aF.pv(t:aF)(i:Nat):Nat:=(i+t.cs.length-1)% t.cs.length
def ch(t:aF)(name:List Nat):Nat:=iK (fun i=>decide ((t.sp i).name=name)) t.az.length
theorem Gw(t:aF)(name:List Nat):kW t name=jM (ch t name) t.az.length:=by
 obtain⟨e,a,b⟩:=uz (fun i=>decide ((t.sp i).name=name)) t.az.length;change ch t name<=t.az.length at e;change∀i,i<ch t name->_ at a;change ch t name<t.az.length->decide ((t.sp (ch t name)).name=name)=true at b;rw[jM]
 by_cases c:ch t name<t.az.length
 ·rw[if_pos c];have:t.az.findIdx? (fun s=>decide (s.name=name))=some (ch t name):=by
   rw[List.findIdx?_eq_some_iff_getElem];refine⟨c,by rw[aF.ot];exact b c,fun j d=>?_⟩;rw[aF.ot];simpa using a j d
  rw[kW,this]
 ·rw[if_neg c];have:t.az.findIdx? (fun s=>decide (s.name=name))=none:=by
   rw[List.findIdx?_eq_none_iff];intro s hs;obtain⟨j,d,rfl⟩:=b4.1 hs;rw[aF.ot];simpa using a j (by omega)
  rw[kW,this]
theorem aFL{t:aF}(h:eO t=0){j:Nat}(a:j<t.az.length):iB t (t.az.take j) (t.sp j)=0:=by
 rw[Ay]at h
 split at h
 case isFalse=>contradiction
 split at h
 case isFalse=>contradiction
 rw[jX]at h
 split at h
 ·cases h
 have:=oB.1 h j a
 rwa [gK,aF.fx a]at this
theorem xg{t:aF}(h:eO t=0){j:Nat}(a:j<t.az.length):dU (t.sp j).pt=0:=by
 have:=aFL h a;rw[iB]at this
 split at this
 ·cases this
 split at this
 ·cases this
 split at this
 ·contradiction
 ·rename_i h;exact Decidable.not_not.1 h
@[simp] theorem aLc:aL AA=.agg 46:=rfl
theorem ZD(name:List Nat)(s:dQ):
 c7 prog 165 [.box false (.p (.str name))] [.p (fN s),.ptr 0 []] [.box false (.p (.str name))] (.p (.bool (decide (s.name=name)))):=by
 refine jc nf OE mix (by simp[f165]) ?_
 by_cases h:s.name=name
 ·simp[f165,aa,h];exact dE.og (by simp) (by simp) (by simp) (by simp) (by simp)
 ·simp[f165,aa,h];exact dE.og (by simp) (by simp) (by simp) (by simp) (by simp)
theorem Sd(t:aF)(name:List Nat)(f:t.az.length<=1000000):
 c7 prog 164 [.box false (.p (.str name))] [.p (.seq (t.az.map fN)),.func 165 [] [.ptr 0 []]] [.box false (.p (.str name))] (.p (.int .i64 (jM (ch t name) t.az.length))):=by
 refine jc nf DF mix (by simp[f164]) ?_;simp[f164];refine lp (α:=Nat) (fun j=>⟨[(8,.p (.int .i64 j)),(7,.p (.int .i64 t.az.length)),(1,.func 165 [] [.ptr 0 []]),(0,.p (.seq (t.az.map fN)))],[.box false (.p (.str name))]⟩) (fun j=>j<=t.az.length/\j<=ch t name) (fun j=>t.az.length-j) 0 (by simp) ?_;rintro j ⟨e,b⟩
 by_cases hi:j<t.az.length
 ·have d:=aF.fx hi;have c:=bX (i:=j) (by omega);simp[hi];refine cf (ZD name (t.sp j)) [0] ?_
  by_cases hk:(t.sp j).name=name
  ·have a:jM (ch t name) t.az.length=(j:Int):=by rw[show ch t name=j from RZ b hi (by simpa using hk),jM,if_pos hi]
   simp[hk,a,bm]
  ·simp[hk,c,bm];exact rd (j+1) ⟨hi,R3 b hi (by simpa using hk)⟩
 ·have:j=t.az.length:=by omega
  subst this;have:=uz (fun i=>decide ((t.sp i).name=name)) t.az.length;have a:jM (ch t name) t.az.length= -1:=by rw[jM,if_neg (by omega)]
  simp[a]
def uo:PV:=.st 129 [.int .i64 0,.aN]
def wW:PV:=.st 133 [.st 131 [uo,uo],.st 131 [uo,uo]]
theorem AF(t:aF)(name:List Nat)(b:kY t)(a:eO t=0):aw prog 69 [dI t,.str name] (.aE (if ch t name<t.az.length then[fC (.from (t.sp (ch t name)).pt),.bool true]else[wW,.bool false])):=by
 have k1:=Sd t name b.sl;have k2:=fun(h:ch t name<t.az.length)=>OU (t.sp (ch t name)).pt (nE (xg a h)).1 (nE (xg a h)).2 (b.sp _ (bk (aF.fx h))).2;generalize ch t name=k at*;refine aI nf PQ mix (by simp[f69]) ?_
 by_cases hk:k<t.az.length
 ·have c:=aF.fx hk;have k2:=k2 hk;rw[jM,if_pos hk]at k1;rw[if_pos hk];have d:¬(k:Int)<0:=by omega
  simp[f69,aa];refine cf k1 [1] ?_;simp[bm,hk,aa];refine Go.aj.c1 k2 ?_;simp[aa]
 ·rw[jM,if_neg hk]at k1;rw[if_neg hk];simp[f69,aa];refine cf k1 [1] ?_;simp[bm,wW,uo,aa]
def dF:List Nat:=[116,114,105,97,110,103,108,101]
def dB:List Nat:=[100,105,97,109,111,110,100]
def gu:PV:=.st 139 [.func 166 [] [],.func 167 [] []]
def gn:PV:=.st 139 [.func 168 [] [],.func 169 [] []]
def iM:PV:=.eJ [(.str dF,gu),(.str dB,gn)]
theorem AP:aw prog 70 [] iM:=by
 refine aI nf PR mix (by simp[f70]) ?_;simp[f70,iM,gu,gn,dF,dB,dH,fX,fR,fj,aa]
theorem Ym(a b:Int)(c:0<=b)(d:b<=1000000):aw prog 166 [.int .i64 a,.int .i64 b] (.int .i64 (b+1)):=by
 have w:a9.wrap (b+1)=b+1:=aK _ (by omega) (by omega);refine aI nf OD mix (by simp[f166]) ?_;simp[f166,w,aa]
theorem AR(a:Int):aw prog 167 [.int .i64 a] (.bool true):=by
 refine aI nf OC mix (by simp[f167]) ?_;simp[f167,aa]
theorem Yn(a b:Int)(d:0<=a)(e:a<=1000000)(f:0<=b)(g:b<=1000000):aw prog 168 [.int .i64 a,.int .i64 b] (.int .i64 (min (b+1) (a-b))):=by
 have w:a9.wrap (b+1)=b+1:=aK _ (by omega) (by omega);have c:a9.wrap (a-b)=a-b:=aK _ (by omega) (by omega);refine aI nf OB mix (by simp[f168]) ?_;simp[f168,w,c,aa];omega
theorem AQ(a:Int):aw prog 169 [.int .i64 a] (.bool (decide (a.tmod 2=1))):=by
 refine aI nf OA mix (by simp[f169]) ?_
 by_cases h:a.tmod 2=1
 ·simp[f169,h,aa]
 ·simp[f169,h,aa]
def eL(v:NV):Nat->NV
 |0=>v
 |k+1=>⟨(eL v k).y.neg,(eL v k).x⟩
theorem xf{v:NV}{k:Nat}(h:bW k v.q):∀n,bW k (eL v n).q
 |0=>h
 |n+1=>by
  have:=xf h n;exact⟨by rw[show(eL v (n+1)).q.x= -(eL v n).q.y from rfl];exact vr this.2,this.1⟩
@[simp] theorem aLb:aL wW=.agg 133:=rfl
theorem GA(v:NV)(q:Nat)(hq:q<=3)(f:bW 1800 v.q):aw prog 76 [fC v,.int .i64 q] (fC (eL v q)):=by
 have j:((q:Int)).tmod 4=q:=by
  rw[bb (by omega)];omega
 have k:a9.wrap ((q:Int)+4)=(q:Int)+4:=aK _ (by omega) (by omega);have l:((q:Int)+4).tmod 4=q:=by
  rw[bb (by omega)];omega
 refine aI nf PY mix (by simp[f76]) ?_;simp[f76,j,k,l,aa];refine lp (α:=Nat) (fun i=>⟨[(9,.p (.int .i64 i)),(8,.p (.int .i64 q)),(4,.ptr 1 []),(2,.ptr 0 [])],[.box false (.p (fC (eL v i))),.box false (.p wW)]⟩) (fun i=>i<=q) (fun i=>q-i) 0 (by simp) ?_ (hh:=by simp[wW,uo,eL]);intro i m
 by_cases hi:i<q
 ·have g:=bX (i:=i) (by omega);have h:=C1 (eL v i).y ((xf f i).2.mono (by decide));have d:fC (eL v (i+1))=.st 133 [eF (eL v i).y.neg,eF (eL v i).x]:=rfl;have e:fC (eL v i)=.st 133 [eF (eL v i).x,eF (eL v i).y]:=rfl;generalize (eL v i).y.neg=a at*;generalize (eL v i).x=b at*;generalize (eL v i).y=c at*;rw[e];simp[hi,aa];refine Go.aj.e1 h ?_;simp[g,aa];refine⟨by repeat' first|rfl|apply aT,?_⟩;exact rd (i+1) hi (hh:=by simp[d])
 ·obtain rfl:i=q:=by omega
  simp[aa]
def dM(a:Bool)(b i:Nat):Nat:=if a then min (i+1) (b-i)else i+1
def EL(a:Bool)(b i:Nat):List (Nat×Nat):=(cx (dM a b i)).map (fun j=>(i,j))
def cC(dia:Bool)(rows i:Nat):List (Nat×Nat):=(cx i).flatMap (EL dia rows)
def bM(a:Bool)(b i j:Nat):List (Nat×Nat):=cC a b i++(cx j).map (fun j=>(i,j))
theorem AH(a:Bool)(b i j:Nat):bM a b i (j+1)=bM a b i j++[(i,j)]:=by
 rw[bM,bM,cc,b0,List.append_assoc];rfl
theorem AJ(a:Bool)(b i:Nat):bM a b i (dM a b i)=bM a b (i+1) 0:=by
 rw[bM,bM,b3,bo,bv,cC,cC,cc,cv,da,db,bv];rfl
theorem xi(a:Bool)(b i j:Nat)(hi:i<=6)(d:j<=7):(bM a b i j).length<=100:=by
 have:∀i,i<=6->(cC a b i).length<=7*i:=by
  intro i
  induction i with
  |zero=>intro _;simp[cC]
  |succ i c=>
   intro h;have:=c (by omega);have hk:dM a b i<=7:=by rw[dM];split<;>omega
   rw[cC,cc,cv,da,db,bv,cy];rw[cC]at this;rw[EL,b1,c9];omega
 have:=this i hi;rw[bM,cy,b1,c9];omega
def ud(R:Int)(n i j:Nat):NV:=⟨(NF.int (7*i*R)).div (NF.int 4),NF.int ((2*j-n+1)*R)⟩
def fk(b:Bool)(c:Nat)(R:Int)(a:NV)(q:Nat)(p:Nat×Nat):NV:=a.add (eL (ud R (dM b c p.1) p.1 p.2) q)
noncomputable def dx(l:List V2):AV:=match l with
 |[]=>.p .aN
 |_::r=>.sl 9 r.length 2 0 (r.length+1)
noncomputable def cg(t:aF)(X:Int)(Q:Int)(a:NV)(K:PV):Heap:=[.box false (.p (dI t)),.box false (.p (.st 28 [.int .i64 X,.int .i64 Q])),.box false (.p (fC a)),.box false (.p K),.arr .frozen 0 1 [.p (.int .i64 0),.p (.int .i64 0)]]
noncomputable def b6(t:aF)(X:Int)(Q:Int)(a:NV)(K:PV)(l:List V2):Heap:=match l with
 |[]=>cg t X Q a K
 |x::r=>cg t X Q a K++[.hole,.hole,.hole,.hole,.arr .grow r.length 2 ((x::r).map fun x=>.p (eV x))]
@[simp] theorem aKC{t:aF}{X Q:Int}{a:NV}{K:PV}{l:List V2}:(b6 t X Q a K l)[3]?=some (.box false (.p K)):=by cases l<;>rfl
def bu(b:Bool)(c:Nat)(R:Int)(a:NV)(q:Nat)(l:List (Nat×Nat)):List V2:=l.map (fun p=>(fk b c R a q p).q)
def dL(t:aF)(l:List V2):Bool:=l.any (fun v=>decide (t.on v<0))
def jY(dia:Bool):List Nat:=if dia then dB else dF
def jA(dia:Bool)(rows:Nat):Bool:=!dia||decide (rows% 2=1)
theorem AW(t:aF)(name:List Nat)(rows q:Nat)(F:kY t)(z:eO t=0)(hk:ch t name<t.az.length)(aq:1<=rows)(ar:rows<=6)(hf:jA false rows=true)(hq:q<=3)(M:bW 133 (NV.from (t.sp (ch t name)).pt).q):
 aw prog 12 [dI t,.str name,.str (jY false),.st 28 [.int .i64 rows,.int .i64 q]] (.aE (if dL t (bu false rows t.bF (.from (t.sp (ch t name)).pt) q (cC false rows rows))=true then[.aN,.int .i64 16]else[.seq ((bu false rows t.bF (.from (t.sp (ch t name)).pt) q (cC false rows rows)).map eV),.int .i64 0])):=by
 have k1:=Ax t F;rw[z]at k1;have k2:=AF t name F z;rw[if_pos hk]at k2;have k3:=AP;have k4:=fD false 10;have k5:=fD false 13;have k6:=jV [0,0] (by simp);have U:=fD false 16;have V:=fD true 16;have k9:=jV [16,0] (by simp);rw[show bt false 16=0 from rfl]at U;rw[show bt true 16=16 from rfl]at V;rw[show bH [16,0]=16 from rfl]at k9;simp only[b2,bo,bt,a7,if_false,bH,if_true]at k4 k5 k6;simp only[b2,bo]at k9;obtain⟨aA,aC,ad,_⟩:=wZ z;obtain⟨aD,aE⟩:=uC z;have Z:=F.cl;generalize NV.from (t.sp (ch t name)).pt=A at*;generalize m:t.bF=R at*;have af:¬(rows:Int)<1:=by omega
 have ag:¬6<(rows:Int):=by omega
 have ah:¬(q:Int)<0:=by omega
 have ai:¬3<(q:Int):=by omega
 have aj:=AR rows;have ax:=AQ rows;refine aI nf iJ mix (by simp[f12]) ?_;simp[f12,jY,aa];refine Go.aj.c1 k1 ?_;simp[aa];refine Go.aj.c2 k2 ?_;simp[aa];refine Go.aj.c0 k3 ?_;simp[iM,dF,dB,gu,gn,dH,fR,fj,aa];refine Go.aj.c2 k4 ?_;simp[aa];refine Go.aj.c2 k5 ?_;simp[aa];refine cp k6 (by simp;first|exact⟨rfl,rfl⟩|rfl) ?_;simp[af,ag,aa];refine Go.aj.c1 aj ?_;simp[ah,ai,aa];refine lp (α:=Nat) (fun i=>⟨[(82,.p (.int .i64 i)),(81,.p (.int .i64 rows)),(20,.p (.int .i64 0)),(19,.p (.bool (dL t (bu false rows R A q (bM false rows i 0))))),(18,dx (bu false rows R A q (bM false rows i 0))),(17,.p (.int .i64 q)),(16,.p (.int .i64 rows)),(13,.ptr 3 []),(11,.ptr 2 []),(4,.ptr 0 [])],b6 t rows q A gu (bu false rows R A q (bM false rows i 0))⟩) (fun i=>i<=rows) (fun i=>rows-i) 0 (by simp) ?_ (hn:=by simp) (he:=by simp[bM,cC,bu,dL,dx,b6,cg]) (hh:=by simp[bM,cC,bu,b6,cg,gu]) (hr:=by simp[bM,cC,bu,dL,dx,b6,cg]) (hr2:=by simp[bM,cC,bu,b6,cg]);intro i ao
 by_cases hi:i<rows
 ·have ae:=bX (i:=i) (by omega);have W:=Ym rows i (by omega) (by omega);have T:dM false rows i=i+1:=by rw[dM];rfl
  rw[show(i:Int)+1=((i+1:Nat):Int)from rfl,<-T]at W;have ap:dM false rows i<=7:=by omega
  have S:=AJ false rows i;have Q:∀j,ud R (dM false rows i) i j=⟨(NF.int (7*i*R)).div (NF.int 4),NF.int ((2*j-(dM false rows i:Nat)+1)*R)⟩:=fun j=>rfl;have O:∀j,fk false rows R A q (i,j)=A.add (eL (ud R (dM false rows i) i j) q):=fun j=>rfl;clear T;generalize dM false rows i=n at*;simp[hi,gu,aa];refine Go.aj.c2 W ?_;simp[aa];refine lp (α:=Nat) (fun j=>⟨[(91,.p (.int .i64 j)),(90,.p (.int .i64 n)),(22,.p (.int .i64 n)),(21,.p (.int .i64 i)),(82,.p (.int .i64 i)),(81,.p (.int .i64 rows)),(20,.p (.int .i64 0)),(19,.p (.bool (dL t (bu false rows R A q (bM false rows i j))))),(18,dx (bu false rows R A q (bM false rows i j))),(17,.p (.int .i64 q)),(16,.p (.int .i64 rows)),(13,.ptr 3 []),(11,.ptr 2 []),(4,.ptr 0 [])],b6 t rows q A gu (bu false rows R A q (bM false rows i j))⟩) (fun j=>j<=n) (fun j=>n-j) 0 (by simp) ?_ (hn:=by simp) (he:=by simp) (hh:=by generalize bu false rows R A q (bM false rows i 0)=l;cases l<;>simp[b6,cg,gu]) (hr:=by generalize bu false rows R A q (bM false rows i 0)=l;cases l<;>simp[dx,b6,cg]) (hr2:=by generalize bu false rows R A q (bM false rows i 0)=l;cases l<;>simp[b6,cg]);intro j av
  by_cases o:j<n
  ·have u:=bX (i:=j) (by omega);have ay:=kX (a:=(i:Int)) (b:=R) (A:=6) (B:=1000) (by omega) (by omega) (by omega) (by omega);have az:=kX (a:=2*(j:Int)-n+1) (b:=R) (A:=20) (B:=1000) (by omega) (by omega) (by omega) (by omega);have an:7*(i:Int)*R=7*(i*R):=by grind
   have d:a9.wrap (7*(i:Int))=7*i:=aK _ (by omega) (by omega);have e:a9.wrap (7*(i:Int)*R)=7*i*R:=aK _ (by omega) (by omega);have f:a9.wrap (2*(j:Int))=2*j:=aK _ (by omega) (by omega);have g:a9.wrap (2*(j:Int)-n)=2*j-n:=aK _ (by omega) (by omega);have h:a9.wrap (2*(j:Int)-n+1)=2*j-n+1:=aK _ (by omega) (by omega);have k:a9.wrap ((2*(j:Int)-n+1)*R)=(2*j-n+1)*R:=aK _ (by omega) (by omega);have I:=mU (7*i*R) (by omega) (by omega);have J:=mU 4 (by decide) (by decide);have Y:bE 40 (NF.int (7*i*R)).q:=ju (by omega) (by decide);have ak:bE 40 (NF.int ((2*j-n+1)*R)).q:=ju (by omega) (by decide);have X:bE 3 (NF.int 4).q:=ju (by omega) (by decide);have K:=DH (NF.int (7*i*R)) (NF.int 4) (Y.mono (by decide)) (X.mono (by decide)) (by decide+kernel);have L:=mU ((2*j-n+1)*R) (by omega) (by omega);have H:bW 60 (⟨(NF.int (7*i*R)).div (NF.int 4),NF.int ((2*j-n+1)*R)⟩:NV).q:=⟨(zj Y X).mono (by decide),ak.mono (by decide)⟩
   have D:=GA ⟨(NF.int (7*i*R)).div (NF.int 4),NF.int ((2*j-n+1)*R)⟩ q hq (H.mono (by decide));have G:=xf H q;have E:=GI A (eL ⟨(NF.int (7*i*R)).div (NF.int 4),NF.int ((2*j-n+1)*R)⟩ q) (M.mono (by decide)) (G.mono (by decide));have C:bW 200 (A.add (eL ⟨(NF.int (7*i*R)).div (NF.int 4),NF.int ((2*j-n+1)*R)⟩ q)).q:=by rw[NV.xm];exact(Aq M G).mono (by decide)
   have N:A.add (eL ⟨(NF.int (7*i*R)).div (NF.int 4),NF.int ((2*j-n+1)*R)⟩ q)=fk false rows R A q (i,j):=by rw[O,Q]
   rw[N]at E C;have v:=DN t (fk false rows R A q (i,j)) Z ad (C.mono (by decide));have s:=Gn (fk false rows R A q (i,j)) (C.mono (by decide));have ab:=xi false rows i j (by omega) (by omega);have aB:bu false rows R A q (bM false rows i (j+1))=bu false rows R A q (bM false rows i j)++[(fk false rows R A q (i,j)).q]:=by
    rw[AH,bu,bu,b0];rfl
   have c:dL t (bu false rows R A q (bM false rows i (j+1)))=(dL t (bu false rows R A q (bM false rows i j))||decide (t.on (fk false rows R A q (i,j)).q<0)):=by
    rw[aB,dL,dL,dk,dl,dp,a8]
   have ac:(bu false rows R A q (bM false rows i j)).length<=100:=by rw[bu,b1];exact ab
   rw[qf]at D;clear Q O N C G H S;generalize fk false rows R A q (i,j)=P at*;generalize eL ⟨(NF.int (7*i*R)).div (NF.int 4),NF.int ((2*j-n+1)*R)⟩ q=am at*;generalize (NF.int (7*i*R)).div (NF.int 4)=al at*;generalize dL t (bu false rows R A q (bM false rows i j))=w at*;generalize bu false rows R A q (bM false rows i j)=l at*;generalize t.on P.q=y at*;cases l
   case nil=>
    rw[ce]at aB;rw[aB]at c;simp[dx,b6,cg,o,d,e,f,g,h,k,m,aa];refine Go.aj.e1 I ?_;simp[d,e,f,g,h,k,m,aa];refine Go.aj.e1 J ?_;simp[d,e,f,g,h,k,m,aa];refine Go.aj.e2 K ?_;simp[d,e,f,g,h,k,m,aa];refine Go.aj.e1 L ?_;simp[aa];refine Go.aj.e2 D ?_;simp[aa];refine Go.aj.e2 E ?_;simp[aa];refine⟨by repeat' first|rfl|apply aT,?_⟩;cases w
    case true=>
     rw[a1]at c;simp[aa];refine Go.aj.c1 s ?_;simp[aa];refine cp k6 (by simp;first|exact⟨rfl,rfl⟩|rfl) ?_;simp[u,aa];refine⟨by decide,?_⟩;exact rd (j+1) o (he:=by simp[aB,dx,c]) (hh:=by simp[aB,b6,cg]) (hr:=by simp[aB,dx,b6,cg]) (hr2:=by simp[aB,b6,cg])
    case false=>
     by_cases hy:y<0
     ·rw[a0,decide_eq_true hy]at c;simp[aa];refine Go.aj.c2 v ?_;simp[hy,aa];refine Go.aj.c1 s ?_;simp[aa];refine cp k6 (by simp;first|exact⟨rfl,rfl⟩|rfl) ?_;simp[u,aa];refine⟨by decide,?_⟩;exact rd (j+1) o (he:=by simp[aB,dx,c]) (hh:=by simp[aB,b6,cg]) (hr:=by simp[aB,dx,b6,cg]) (hr2:=by simp[aB,b6,cg])
     ·rw[a0,decide_eq_false hy]at c;simp[aa];refine Go.aj.c2 v ?_;simp[hy,aa];refine Go.aj.c1 s ?_;simp[aa];refine cp k6 (by simp;first|exact⟨rfl,rfl⟩|rfl) ?_;simp[u,aa];refine⟨by decide,?_⟩;exact rd (j+1) o (he:=by simp[aB,dx,c]) (hh:=by simp[aB,b6,cg]) (hr:=by simp[aB,dx,b6,cg]) (hr2:=by simp[aB,b6,cg])
   case cons x r=>
    have au:r.length+2<=cO:=by
     rw[b5]at ac;simp only[cO];omega
    rw[cb]at aB;rw[aB]at c;simp[dx,b6,cg,o,d,e,f,g,h,k,m,aa];refine Go.aj.e1 I ?_;simp[d,e,f,g,h,k,m,aa];refine Go.aj.e1 J ?_;simp[d,e,f,g,h,k,m,aa];refine Go.aj.e2 K ?_;simp[d,e,f,g,h,k,m,aa];refine Go.aj.e1 L ?_;simp[aa];refine Go.aj.e2 D ?_;simp[aa];refine Go.aj.e2 E ?_;simp[aa];refine⟨by repeat' first|rfl|apply aT,?_⟩;cases w
    case true=>
     rw[a1]at c;simp[aa];refine Go.aj.c1 s ?_;simp[aa];refine cp k6 (by simp;first|exact⟨rfl,rfl⟩|rfl) ?_;simp[u,aa];refine⟨by omega,?_⟩;exact rd (j+1) o (he:=by simp[aB,dx,c]) (hh:=by simp[aB,b6,cg]) (hr:=by simp[aB,dx,b6,cg]) (hr2:=by simp[aB,b6,cg])
    case false=>
     by_cases hy:y<0
     ·rw[a0,decide_eq_true hy]at c;simp[aa];refine Go.aj.c2 v ?_;simp[hy,aa];refine Go.aj.c1 s ?_;simp[aa];refine cp k6 (by simp;first|exact⟨rfl,rfl⟩|rfl) ?_;simp[u,aa];refine⟨by omega,?_⟩;exact rd (j+1) o (he:=by simp[aB,dx,c]) (hh:=by simp[aB,b6,cg]) (hr:=by simp[aB,dx,b6,cg]) (hr2:=by simp[aB,b6,cg])
     ·rw[a0,decide_eq_false hy]at c;simp[aa];refine Go.aj.c2 v ?_;simp[hy,aa];refine Go.aj.c1 s ?_;simp[aa];refine cp k6 (by simp;first|exact⟨rfl,rfl⟩|rfl) ?_;simp[u,aa];refine⟨by omega,?_⟩;exact rd (j+1) o (he:=by simp[aB,dx,c]) (hh:=by simp[aB,b6,cg]) (hr:=by simp[aB,dx,b6,cg]) (hr2:=by simp[aB,b6,cg])
  ·rw[show j=n from by omega,S];simp[ae,aa];exact rd (i+1) hi (hn:=by simp) (he:=by simp) (hh:=by generalize bu false rows R A q (bM false rows (i+1) 0)=l;cases l<;>simp[b6,cg,gu]) (hr:=by generalize bu false rows R A q (bM false rows (i+1) 0)=l;cases l<;>simp[dx,b6,cg]) (hr2:=by generalize bu false rows R A q (bM false rows (i+1) 0)=l;cases l<;>simp[b6,cg])
 ·rw[show i=rows from by omega];rw[show bM false rows rows 0=cC false rows rows from by rw[bM,b3,bo,bv]];generalize dL t (bu false rows R A q (cC false rows rows))=w;generalize bu false rows R A q (cC false rows rows)=l;cases w
  case false=>
   cases l
   all_goals
    simp[dx,b6,cg,aa];refine Go.aj.c2 U ?_;simp[aa];refine cp k6 (by simp;first|exact⟨rfl,rfl⟩|rfl) ?_;simp[aa]
  case true=>
   cases l
   all_goals
    simp[dx,b6,cg,aa];refine Go.aj.c2 V ?_;simp[aa];refine cp k9 (by simp;first|exact⟨rfl,rfl⟩|rfl) ?_;simp[aa]
theorem AX(t:aF)(name:List Nat)(rows q:Nat)(F:kY t)(z:eO t=0)(hk:ch t name<t.az.length)(ar:1<=rows)(au:rows<=6)(hf:jA true rows=true)(hq:q<=3)(M:bW 133 (NV.from (t.sp (ch t name)).pt).q):
 aw prog 12 [dI t,.str name,.str (jY true),.st 28 [.int .i64 rows,.int .i64 q]] (.aE (if dL t (bu true rows t.bF (.from (t.sp (ch t name)).pt) q (cC true rows rows))=true then[.aN,.int .i64 16]else[.seq ((bu true rows t.bF (.from (t.sp (ch t name)).pt) q (cC true rows rows)).map eV),.int .i64 0])):=by
 have k1:=Ax t F;rw[z]at k1;have k2:=AF t name F z;rw[if_pos hk]at k2;have k3:=AP;have k4:=fD false 10;have k5:=fD false 13;have k6:=jV [0,0] (by simp);have U:=fD false 16;have V:=fD true 16;have k9:=jV [16,0] (by simp);rw[show bt false 16=0 from rfl]at U;rw[show bt true 16=16 from rfl]at V;rw[show bH [16,0]=16 from rfl]at k9;simp only[b2,bo,bt,a7,if_false,bH,if_true]at k4 k5 k6;simp only[b2,bo]at k9;obtain⟨aC,aD,ae,_⟩:=wZ z;obtain⟨aE,aG⟩:=uC z;have ab:=F.cl;generalize NV.from (t.sp (ch t name)).pt=A at*;generalize m:t.bF=R at*;have ah:¬(rows:Int)<1:=by omega
 have ai:¬6<(rows:Int):=by omega
 have aj:¬(q:Int)<0:=by omega
 have ak:¬3<(q:Int):=by omega
 have ay:=AR rows;have W:=AQ rows;refine aI nf iJ mix (by simp[f12]) ?_;have af:((rows:Int)).tmod 2=1:=by
  have:rows% 2=1:=by simpa[jA]using hf
  rw[bb (by omega)];omega
 rw[af]at W;simp[f12,jY,aa];refine Go.aj.c1 k1 ?_;simp[aa];refine Go.aj.c2 k2 ?_;simp[aa];refine Go.aj.c0 k3 ?_;simp[iM,dF,dB,gu,gn,dH,fR,fj,aa];refine Go.aj.c2 k4 ?_;simp[aa];refine Go.aj.c2 k5 ?_;simp[aa];refine cp k6 (by simp;first|exact⟨rfl,rfl⟩|rfl) ?_;simp[ah,ai,aa];refine Go.aj.c1 W ?_;simp[aj,ak,aa];refine lp (α:=Nat) (fun i=>⟨[(82,.p (.int .i64 i)),(81,.p (.int .i64 rows)),(20,.p (.int .i64 0)),(19,.p (.bool (dL t (bu true rows R A q (bM true rows i 0))))),(18,dx (bu true rows R A q (bM true rows i 0))),(17,.p (.int .i64 q)),(16,.p (.int .i64 rows)),(13,.ptr 3 []),(11,.ptr 2 []),(4,.ptr 0 [])],b6 t rows q A gn (bu true rows R A q (bM true rows i 0))⟩) (fun i=>i<=rows) (fun i=>rows-i) 0 (by simp) ?_ (hn:=by simp) (he:=by simp[bM,cC,bu,dL,dx,b6,cg]) (hh:=by simp[bM,cC,bu,b6,cg,gn]) (hr:=by simp[bM,cC,bu,dL,dx,b6,cg]) (hr2:=by simp[bM,cC,bu,b6,cg]);intro i ap
 by_cases hi:i<rows
 ·have ag:=bX (i:=i) (by omega);have X:=Yn rows i (by omega) (by omega) (by omega) (by omega);have T:dM true rows i=min (i+1) (rows-i):=by rw[dM];rfl
  rw[show min ((i:Int)+1) (rows-i)=((dM true rows i:Nat):Int)from by rw[T];omega]at X;have aq:dM true rows i<=7:=by omega
  have S:=AJ true rows i;have Q:∀j,ud R (dM true rows i) i j=⟨(NF.int (7*i*R)).div (NF.int 4),NF.int ((2*j-(dM true rows i:Nat)+1)*R)⟩:=fun j=>rfl;have O:∀j,fk true rows R A q (i,j)=A.add (eL (ud R (dM true rows i) i j) q):=fun j=>rfl;clear T;generalize dM true rows i=n at*;simp[hi,gn,aa];refine Go.aj.c2 X ?_;simp[aa];refine lp (α:=Nat) (fun j=>⟨[(91,.p (.int .i64 j)),(90,.p (.int .i64 n)),(22,.p (.int .i64 n)),(21,.p (.int .i64 i)),(82,.p (.int .i64 i)),(81,.p (.int .i64 rows)),(20,.p (.int .i64 0)),(19,.p (.bool (dL t (bu true rows R A q (bM true rows i j))))),(18,dx (bu true rows R A q (bM true rows i j))),(17,.p (.int .i64 q)),(16,.p (.int .i64 rows)),(13,.ptr 3 []),(11,.ptr 2 []),(4,.ptr 0 [])],b6 t rows q A gn (bu true rows R A q (bM true rows i j))⟩) (fun j=>j<=n) (fun j=>n-j) 0 (by simp) ?_ (hn:=by simp) (he:=by simp) (hh:=by generalize bu true rows R A q (bM true rows i 0)=l;cases l<;>simp[b6,cg,gn]) (hr:=by generalize bu true rows R A q (bM true rows i 0)=l;cases l<;>simp[dx,b6,cg]) (hr2:=by generalize bu true rows R A q (bM true rows i 0)=l;cases l<;>simp[b6,cg]);intro j ax
  by_cases o:j<n
  ·have u:=bX (i:=j) (by omega);have az:=kX (a:=(i:Int)) (b:=R) (A:=6) (B:=1000) (by omega) (by omega) (by omega) (by omega);have aA:=kX (a:=2*(j:Int)-n+1) (b:=R) (A:=20) (B:=1000) (by omega) (by omega) (by omega) (by omega);have ao:7*(i:Int)*R=7*(i*R):=by grind
   have d:a9.wrap (7*(i:Int))=7*i:=aK _ (by omega) (by omega);have e:a9.wrap (7*(i:Int)*R)=7*i*R:=aK _ (by omega) (by omega);have f:a9.wrap (2*(j:Int))=2*j:=aK _ (by omega) (by omega);have g:a9.wrap (2*(j:Int)-n)=2*j-n:=aK _ (by omega) (by omega);have h:a9.wrap (2*(j:Int)-n+1)=2*j-n+1:=aK _ (by omega) (by omega);have k:a9.wrap ((2*(j:Int)-n+1)*R)=(2*j-n+1)*R:=aK _ (by omega) (by omega);have I:=mU (7*i*R) (by omega) (by omega);have J:=mU 4 (by decide) (by decide);have Z:bE 40 (NF.int (7*i*R)).q:=ju (by omega) (by decide);have al:bE 40 (NF.int ((2*j-n+1)*R)).q:=ju (by omega) (by decide);have Y:bE 3 (NF.int 4).q:=ju (by omega) (by decide);have K:=DH (NF.int (7*i*R)) (NF.int 4) (Z.mono (by decide)) (Y.mono (by decide)) (by decide+kernel);have L:=mU ((2*j-n+1)*R) (by omega) (by omega);have H:bW 60 (⟨(NF.int (7*i*R)).div (NF.int 4),NF.int ((2*j-n+1)*R)⟩:NV).q:=⟨(zj Z Y).mono (by decide),al.mono (by decide)⟩
   have D:=GA ⟨(NF.int (7*i*R)).div (NF.int 4),NF.int ((2*j-n+1)*R)⟩ q hq (H.mono (by decide));have G:=xf H q;have E:=GI A (eL ⟨(NF.int (7*i*R)).div (NF.int 4),NF.int ((2*j-n+1)*R)⟩ q) (M.mono (by decide)) (G.mono (by decide));have C:bW 200 (A.add (eL ⟨(NF.int (7*i*R)).div (NF.int 4),NF.int ((2*j-n+1)*R)⟩ q)).q:=by rw[NV.xm];exact(Aq M G).mono (by decide)
   have N:A.add (eL ⟨(NF.int (7*i*R)).div (NF.int 4),NF.int ((2*j-n+1)*R)⟩ q)=fk true rows R A q (i,j):=by rw[O,Q]
   rw[N]at E C;have v:=DN t (fk true rows R A q (i,j)) ab ae (C.mono (by decide));have s:=Gn (fk true rows R A q (i,j)) (C.mono (by decide));have ac:=xi true rows i j (by omega) (by omega);have aB:bu true rows R A q (bM true rows i (j+1))=bu true rows R A q (bM true rows i j)++[(fk true rows R A q (i,j)).q]:=by
    rw[AH,bu,bu,b0];rfl
   have c:dL t (bu true rows R A q (bM true rows i (j+1)))=(dL t (bu true rows R A q (bM true rows i j))||decide (t.on (fk true rows R A q (i,j)).q<0)):=by
    rw[aB,dL,dL,dk,dl,dp,a8]
   have ad:(bu true rows R A q (bM true rows i j)).length<=100:=by rw[bu,b1];exact ac
   rw[qf]at D;clear Q O N C G H S;generalize fk true rows R A q (i,j)=P at*;generalize eL ⟨(NF.int (7*i*R)).div (NF.int 4),NF.int ((2*j-n+1)*R)⟩ q=an at*;generalize (NF.int (7*i*R)).div (NF.int 4)=am at*;generalize dL t (bu true rows R A q (bM true rows i j))=w at*;generalize bu true rows R A q (bM true rows i j)=l at*;generalize t.on P.q=y at*;cases l
   case nil=>
    rw[ce]at aB;rw[aB]at c;simp[dx,b6,cg,o,d,e,f,g,h,k,m,aa];refine Go.aj.e1 I ?_;simp[d,e,f,g,h,k,m,aa];refine Go.aj.e1 J ?_;simp[d,e,f,g,h,k,m,aa];refine Go.aj.e2 K ?_;simp[d,e,f,g,h,k,m,aa];refine Go.aj.e1 L ?_;simp[aa];refine Go.aj.e2 D ?_;simp[aa];refine Go.aj.e2 E ?_;simp[aa];refine⟨by repeat' first|rfl|apply aT,?_⟩;cases w
    case true=>
     rw[a1]at c;simp[aa];refine Go.aj.c1 s ?_;simp[aa];refine cp k6 (by simp;first|exact⟨rfl,rfl⟩|rfl) ?_;simp[u,aa];refine⟨by decide,?_⟩;exact rd (j+1) o (he:=by simp[aB,dx,c]) (hh:=by simp[aB,b6,cg]) (hr:=by simp[aB,dx,b6,cg]) (hr2:=by simp[aB,b6,cg])
    case false=>
     by_cases hy:y<0
     ·rw[a0,decide_eq_true hy]at c;simp[aa];refine Go.aj.c2 v ?_;simp[hy,aa];refine Go.aj.c1 s ?_;simp[aa];refine cp k6 (by simp;first|exact⟨rfl,rfl⟩|rfl) ?_;simp[u,aa];refine⟨by decide,?_⟩;exact rd (j+1) o (he:=by simp[aB,dx,c]) (hh:=by simp[aB,b6,cg]) (hr:=by simp[aB,dx,b6,cg]) (hr2:=by simp[aB,b6,cg])
     ·rw[a0,decide_eq_false hy]at c;simp[aa];refine Go.aj.c2 v ?_;simp[hy,aa];refine Go.aj.c1 s ?_;simp[aa];refine cp k6 (by simp;first|exact⟨rfl,rfl⟩|rfl) ?_;simp[u,aa];refine⟨by decide,?_⟩;exact rd (j+1) o (he:=by simp[aB,dx,c]) (hh:=by simp[aB,b6,cg]) (hr:=by simp[aB,dx,b6,cg]) (hr2:=by simp[aB,b6,cg])
   case cons x r=>
    have av:r.length+2<=cO:=by
     rw[b5]at ad;simp only[cO];omega
    rw[cb]at aB;rw[aB]at c;simp[dx,b6,cg,o,d,e,f,g,h,k,m,aa];refine Go.aj.e1 I ?_;simp[d,e,f,g,h,k,m,aa];refine Go.aj.e1 J ?_;simp[d,e,f,g,h,k,m,aa];refine Go.aj.e2 K ?_;simp[d,e,f,g,h,k,m,aa];refine Go.aj.e1 L ?_;simp[aa];refine Go.aj.e2 D ?_;simp[aa];refine Go.aj.e2 E ?_;simp[aa];refine⟨by repeat' first|rfl|apply aT,?_⟩;cases w
    case true=>
     rw[a1]at c;simp[aa];refine Go.aj.c1 s ?_;simp[aa];refine cp k6 (by simp;first|exact⟨rfl,rfl⟩|rfl) ?_;simp[u,aa];refine⟨by omega,?_⟩;exact rd (j+1) o (he:=by simp[aB,dx,c]) (hh:=by simp[aB,b6,cg]) (hr:=by simp[aB,dx,b6,cg]) (hr2:=by simp[aB,b6,cg])
    case false=>
     by_cases hy:y<0
     ·rw[a0,decide_eq_true hy]at c;simp[aa];refine Go.aj.c2 v ?_;simp[hy,aa];refine Go.aj.c1 s ?_;simp[aa];refine cp k6 (by simp;first|exact⟨rfl,rfl⟩|rfl) ?_;simp[u,aa];refine⟨by omega,?_⟩;exact rd (j+1) o (he:=by simp[aB,dx,c]) (hh:=by simp[aB,b6,cg]) (hr:=by simp[aB,dx,b6,cg]) (hr2:=by simp[aB,b6,cg])
     ·rw[a0,decide_eq_false hy]at c;simp[aa];refine Go.aj.c2 v ?_;simp[hy,aa];refine Go.aj.c1 s ?_;simp[aa];refine cp k6 (by simp;first|exact⟨rfl,rfl⟩|rfl) ?_;simp[u,aa];refine⟨by omega,?_⟩;exact rd (j+1) o (he:=by simp[aB,dx,c]) (hh:=by simp[aB,b6,cg]) (hr:=by simp[aB,dx,b6,cg]) (hr2:=by simp[aB,b6,cg])
  ·rw[show j=n from by omega,S];simp[ag,aa];exact rd (i+1) hi (hn:=by simp) (he:=by simp) (hh:=by generalize bu true rows R A q (bM true rows (i+1) 0)=l;cases l<;>simp[b6,cg,gn]) (hr:=by generalize bu true rows R A q (bM true rows (i+1) 0)=l;cases l<;>simp[dx,b6,cg]) (hr2:=by generalize bu true rows R A q (bM true rows (i+1) 0)=l;cases l<;>simp[b6,cg])
 ·rw[show i=rows from by omega];rw[show bM true rows rows 0=cC true rows rows from by rw[bM,b3,bo,bv]];generalize dL t (bu true rows R A q (cC true rows rows))=w;generalize bu true rows R A q (cC true rows rows)=l;cases w
  case false=>
   cases l
   all_goals
    simp[dx,b6,cg,aa];refine Go.aj.c2 U ?_;simp[aa];refine cp k6 (by simp;first|exact⟨rfl,rfl⟩|rfl) ?_;simp[aa]
  case true=>
   cases l
   all_goals
    simp[dx,b6,cg,aa];refine Go.aj.c2 V ?_;simp[aa];refine cp k9 (by simp;first|exact⟨rfl,rfl⟩|rfl) ?_;simp[aa]
def xk(a:Bool):List Nat:=if a then dB else dF
def de(v:V2):Nat->V2
 |0=>v
 |k+1=>⟨-(de v k).y,(de v k).x⟩
theorem GW(v:NV):∀k,(eL v k).q=de v.q k
 |0=>rfl
 |k+1=>by
  have h:=GW v k;have a:(de v.q k).x=(eL v k).x.q:=by rw[<-h];rfl
  have b:(de v.q k).y=(eL v k).y.q:=by rw[<-h];rfl
  rw[de,a,b];rfl
theorem uF{v:V2}{k:Nat}(h:bW k v):∀n,bW k (de v n)
 |0=>h
 |n+1=>⟨vr (uF h n).2,(uF h n).1⟩
theorem Sj(v:V2)(q:Nat)(hq:q<=3)(j:bW 1800 v):aw prog 85 [eV v,.int .i64 q] (eV (de v q)):=by
 have d:((q:Int)).tmod 4=q:=by
  rw[bb (by omega)];omega
 have e:a9.wrap ((q:Int)+4)=(q:Int)+4:=aK _ (by omega) (by omega);have f:((q:Int)+4).tmod 4=q:=by
  rw[bb (by omega)];omega
 refine aI nf P8 mix (by simp[f85]) ?_;simp[f85,aa];refine lp (α:=Nat) (fun i=>⟨[(5,.p (.int .i64 i)),(4,.ptr 1 []),(2,.ptr 0 []),(1,.p (.int .i64 q))],[.box false (.p (eV (de v i))),.box false (.p AA)]⟩) (fun i=>i<=q) (fun i=>q-i) 0 (by simp) ?_ (hh:=by simp[AA,de]);intro i m
 by_cases hi:i<q
 ·have k:=bX (i:=i) (by omega);have l:=MZ (de v i).y ((uF j i).2.mono (by decide));have g:eV (de v (i+1))=.st 46 [.str (aX (-(de v i).y)),.str (aX (de v i).x)]:=rfl;have h:eV (de v i)=.st 46 [.str (aX (de v i).x),.str (aX (de v i).y)]:=rfl;generalize aX (-(de v i).y)=a at*;generalize aX (de v i).x=b at*;generalize aX (de v i).y=c at*;rw[h];simp[hi,d,e,f,aa];refine Go.aj.e1 l ?_;simp[k,aa];refine⟨by repeat' first|rfl|apply aT,?_⟩;exact rd (i+1) hi (hh:=by simp[g])
 ·obtain rfl:i=q:=by omega
  simp[d,e,f,aa]
theorem Yv(b:Bool)(a i:Int)(d:0<=a)(e:a<=1000000)(f:0<=i)(g:i<=1000000):aw prog 83 [.str (xk b),.int .i64 a,.int .i64 i] (.int .i64 (if b then min (i+1) (a-i)else i+1)):=by
 have w:a9.wrap (i+1)=i+1:=aK _ (by omega) (by omega);have c:a9.wrap (a-i)=a-i:=aK _ (by omega) (by omega);refine aI nf P6 mix (by simp[f83]) ?_;cases b
 ·simp[f83,xk,dF,w,aa]
 ·simp[f83,xk,dB,w,c,aa];omega
def iI(kind:List Nat)(a q:Int):Int:=
 if kind≠dF/\kind≠dB then 13
 else if a<1\/6<a\/(kind=dB/\a.tmod 2=0)\/q<0\/3<q then 3 else 0
theorem GD(kind:List Nat)(b q:Int):aw prog 17 [.str kind,.st 28 [.int .i64 b,.int .i64 q]] (.int .i64 (iI kind b q)):=by
 refine aI nf Pu mix (by simp[f17]) ?_;rw[iI]
 by_cases k1:kind=dF
 ·have e:¬kind=dB:=by rw[k1];decide
  subst k1
  by_cases a:b<1
  ·simp[f17,dF,dB,a,aa]
  ·by_cases a2:6<b
   ·simp[f17,dF,dB,a,a2,aa]
   ·by_cases a3:q<0
    ·simp[f17,dF,dB,a,a2,a3,aa]
    ·by_cases a4:3<q
     ·simp[f17,dF,dB,a,a2,a3,a4,aa]
     ·simp[f17,dF,dB,a,a2,a3,a4,aa]
 by_cases k2:kind=dB
 ·subst k2
  by_cases a:b<1
  ·simp[f17,dF,dB,a,aa]
  ·by_cases a2:6<b
   ·simp[f17,dF,dB,a,a2,aa]
   ·by_cases a5:b.tmod 2=0
    ·simp[f17,dF,dB,a,a2,a5,aa]
    ·by_cases a3:q<0
     ·simp[f17,dF,dB,a,a2,a3,a5,aa]
     ·by_cases a4:3<q
      ·simp[f17,dF,dB,a,a2,a3,a4,a5,aa]
      ·simp[f17,dF,dB,a,a2,a3,a4,a5,aa]
 ·have c:¬kind=[116,114,105,97,110,103,108,101]:=k1;have d:¬kind=[100,105,97,109,111,110,100]:=k2;simp[f17,k1,k2,c,d,aa]
theorem R9(l:List V2)(e:l.length<=1000000):aw prog 20 [.seq (l.map eV),.seq (l.map eV)] (.bool true):=by
 refine aI nf Px mix (by simp[f20]) ?_;simp[f20,aa];refine lp (α:=Nat) (fun i=>⟨[(5,.p (.int .i64 i)),(1,.p (.seq (l.map eV))),(0,.p (.seq (l.map eV)))],[]⟩) (fun i=>i<=l.length) (fun i=>l.length-i) 0 (by simp) ?_;intro i d
 by_cases hi:i<l.length
 ·obtain⟨p,a⟩:∃p,l[i]?=some p:=⟨_,ck hi⟩
  have b:l[i]=p:=by rw[ck hi]at a;injection a
  have c:=bX (i:=i) (by omega);obtain⟨f,g⟩:=p;simp[hi,a,b,eV,fM,ln,c,aa];exact rd (i+1) hi
 ·simp[hi,aa]
theorem EK(b:Bool)(c:Nat)(R:Int)(a:NV)(q i j:Nat):(fk b c R a q (i,j)).q=a.q.add (de ⟨fL (7*R*i) 4,(((2*j-(dM b c i:Nat)+1)*R:Int):Rat)⟩ q):=by
 rw[fk,NV.xm,GW];have:(ud R (dM b c i) i j).q=⟨fL (7*R*i) 4,(((2*j-(dM b c i:Nat)+1)*R:Int):Rat)⟩:=by
  rw[fL,Rat.divInt_eq_div,show 7*R*(i:Int)=7*i*R from by grind];rfl
 rw[this]
noncomputable def jR(l:List V2):AV:=match l with
 |[]=>.p .aN
 |_::r=>.sl 4 r.length 2 0 (r.length+1)
noncomputable def gp(X Q:Int)(a:V2)(l:List V2):Heap:=match l with
 |[]=>[.box false (.p (eV a)),.box false (.p (.st 28 [.int .i64 X,.int .i64 Q]))]
 |x::r=>[.box false (.p (eV a)),.box false (.p (.st 28 [.int .i64 X,.int .i64 Q])),.hole,.hole,.arr .grow r.length 2 ((x::r).map fun x=>.p (eV x))]
@[simp] theorem aKD{X Q:Int}{a:V2}{l:List V2}:(gp X Q a l)[1]?=some (.box false (.p (.st 28 [.int .i64 X,.int .i64 Q]))):=by cases l<;>rfl
theorem Yc(R:Int)(A:NV)(dia:Bool)(rows q:Nat)(X:1<=R)(Y:R<=1000)(Q:1<=rows)(S:rows<=6)(hq:q<=3)(F:bW 133 A.q):
 aw prog 18 [.int .i64 R,eV A.q,.str (jY dia),.st 28 [.int .i64 rows,.int .i64 q]] (.seq ((bu dia rows R A q (cC dia rows rows)).map eV)):=by
 refine aI nf Pv mix (by simp[f18]) ?_;simp[f18,aa];refine lp (α:=Nat) (fun i=>⟨[(10,.p (.int .i64 i)),(9,jR (bu dia rows R A q (bM dia rows i 0))),(7,.ptr 1 []),(5,.ptr 0 []),(2,.p (.str (jY dia))),(0,.p (.int .i64 R))],gp rows q A.q (bu dia rows R A q (bM dia rows i 0))⟩) (fun i=>i<=rows) (fun i=>rows-i) 0 (by simp) ?_ (hn:=by simp) (he:=by simp[bM,cC,bu,jR,gp]) (hh:=by simp[bM,cC,bu,gp]) (hr:=by simp[bM,cC,bu,jR,gp]) (hr2:=by simp[bM,cC,bu,gp]);intro i N
 by_cases hi:i<rows
 ·have I:=bX (i:=i) (by omega);have C:=Yv dia rows i (by omega) (by omega) (by omega) (by omega);have y:(if dia then min ((i:Int)+1) (rows-i)else(i:Int)+1)=((dM dia rows i:Nat):Int):=by
   rw[dM];cases dia
   ·rfl
   ·simp only[if_true];omega
  rw[show xk dia=jY dia from rfl,y]at C;have O:dM dia rows i<=7:=by rw[dM];split<;>omega
  have w:=AJ dia rows i;have v:=fun j=>EK dia rows R A q i j;clear y;generalize dM dia rows i=n at*;simp[hi,aa];refine Go.aj.c3 C ?_;simp[aa];refine lp (α:=Nat) (fun j=>⟨[(12,.p (.int .i64 j)),(11,.p (.int .i64 n)),(10,.p (.int .i64 i)),(9,jR (bu dia rows R A q (bM dia rows i j))),(7,.ptr 1 []),(5,.ptr 0 []),(2,.p (.str (jY dia))),(0,.p (.int .i64 R))],gp rows q A.q (bu dia rows R A q (bM dia rows i j))⟩) (fun j=>j<=n) (fun j=>n-j) 0 (by simp) ?_ (hn:=by simp) (he:=by simp) (hh:=by generalize bu dia rows R A q (bM dia rows i 0)=l;cases l<;>simp[gp]) (hr:=by generalize bu dia rows R A q (bM dia rows i 0)=l;cases l<;>simp[jR,gp]) (hr2:=by generalize bu dia rows R A q (bM dia rows i 0)=l;cases l<;>simp[gp]);intro j U
  by_cases k:j<n
  ·have z:=bX (i:=j) (by omega);have V:=kX (a:=R) (b:=(i:Int)) (A:=1000) (B:=6) (by omega) (by omega) (by omega) (by omega);have W:=kX (a:=2*(j:Int)-n+1) (b:=R) (A:=20) (B:=1000) (by omega) (by omega) (by omega) (by omega);have M:7*R*(i:Int)=7*(R*i):=by grind
   have c:a9.wrap (7*R)=7*R:=aK _ (by omega) (by omega);have d:a9.wrap (7*R*(i:Int))=7*R*i:=aK _ (by omega) (by omega);have e:a9.wrap (2*(j:Int))=2*j:=aK _ (by omega) (by omega);have f:a9.wrap (2*(j:Int)-n)=2*j-n:=aK _ (by omega) (by omega);have g:a9.wrap (2*(j:Int)-n+1)=2*j-n+1:=aK _ (by omega) (by omega);have h:a9.wrap ((2*(j:Int)-n+1)*R)=(2*j-n+1)*R:=aK _ (by omega) (by omega);have t:=DK (7*R*i) 4 (by decide) (by omega) (by decide);have u:=tM ((2*j-n+1)*R) (by omega) (by omega);have D:bE 60 (fL (7*R*i) 4):=by
    rw[fL,Rat.divInt_eq_div];exact(zj (show bE 40 (((7*R*i:Int)):Rat)from ju (by omega) (by decide)) (show bE 3 (((4:Int)):Rat)from ju (by omega) (by decide))).mono (by decide)
   have E:bE 60 ((((2*j-n+1)*R:Int)):Rat):=(show bE 40 ((((2*j-n+1)*R:Int)):Rat)from ju (by omega) (by decide)).mono (by decide);have s:bW 60 (⟨fL (7*R*i) 4,(((2*j-n+1)*R:Int):Rat)⟩:V2):=⟨D,E⟩
   have m:=Sj ⟨fL (7*R*i) 4,(((2*j-n+1)*R:Int):Rat)⟩ q hq (s.mono (by decide));have o:=Ar A.q (de ⟨fL (7*R*i) 4,(((2*j-n+1)*R:Int):Rat)⟩ q) (F.mono (by decide)) ((uF s q).mono (by decide));rw[<-v j]at o;rw[tI]at m;have G:=xi dia rows i j (by omega) (by omega);have aB:bu dia rows R A q (bM dia rows i (j+1))=bu dia rows R A q (bM dia rows i j)++[(fk dia rows R A q (i,j)).q]:=by
    rw[AH,bu,bu,b0];rfl
   have H:(bu dia rows R A q (bM dia rows i j)).length<=100:=by rw[bu,b1];exact G
   clear v D E s w;generalize (fk dia rows R A q (i,j)).q=P at*;generalize de ⟨fL (7*R*i) 4,(((2*j-n+1)*R:Int):Rat)⟩ q=J at*;generalize aX (fL (7*R*i) 4)=K at*;generalize aX ((((2*j-n+1)*R:Int)):Rat)=L at*;generalize bu dia rows R A q (bM dia rows i j)=l at*;cases l with
   |nil=>
    rw[ce]at aB;simp[jR,gp,k,c,d,e,f,g,h,aa];refine Go.aj.c2 t ?_;simp[c,d,e,f,g,h,aa];refine Go.aj.c1 u ?_;simp[aa];refine Go.aj.e2 m ?_;simp[aa];refine Go.aj.e2 o ?_;simp[z,aa];refine⟨by decide,by rfl,?_⟩;exact rd (j+1) k (he:=by simp[aB,jR]) (hh:=by simp[aB,gp]) (hr:=by simp[aB,jR,gp]) (hr2:=by simp[aB,gp])
   |cons x r=>
    have T:r.length+2<=cO:=by
     rw[b5]at H;simp only[cO];omega
    rw[cb]at aB;simp[jR,gp,k,c,d,e,f,g,h,aa];refine Go.aj.c2 t ?_;simp[c,d,e,f,g,h,aa];refine Go.aj.c1 u ?_;simp[aa];refine Go.aj.e2 m ?_;simp[aa];refine Go.aj.e2 o ?_;simp[z,aa];refine⟨by omega,by rfl,?_⟩;exact rd (j+1) k (he:=by simp[aB,jR]) (hh:=by simp[aB,gp]) (hr:=by simp[aB,jR,gp]) (hr2:=by simp[aB,gp])
  ·rw[show j=n from by omega,w];simp[I,aa];exact rd (i+1) hi (hn:=by simp) (he:=by simp) (hh:=by generalize bu dia rows R A q (bM dia rows (i+1) 0)=l;cases l<;>simp[gp]) (hr:=by generalize bu dia rows R A q (bM dia rows (i+1) 0)=l;cases l<;>simp[jR,gp]) (hr2:=by generalize bu dia rows R A q (bM dia rows (i+1) 0)=l;cases l<;>simp[gp])
 ·rw[show i=rows from by omega];rw[show bM dia rows rows 0=cC dia rows rows from by rw[bM,b3,bo,bv]];generalize bu dia rows R A q (cC dia rows rows)=l;cases l with
  |nil=>simp[jR,gp,aa]
  |cons x r=>simp[jR,gp,aa]
def mu(t:aF)(name kind:List Nat)(a q:Int):Int:=if eO t=0 then(if ch t name<t.az.length then iI kind a q else 10)else eO t
theorem GY(t:aF)(name kind:List Nat)(a q:Int)(s:kY t)(h:mu t name kind a q≠0):aw prog 12 [dI t,.str name,.str kind,.st 28 [.int .i64 a,.int .i64 q]] (.aE [.aN,.int .i64 (mu t name kind a q)]):=by
 have k1:=Ax t s;rw[mu]at h⊢
 by_cases k:eO t=0
 case neg=>
  rw[if_neg k];generalize eO t=E at*;refine aI nf iJ mix (by simp[f12]) ?_;simp[f12,aa];refine Go.aj.c1 k1 ?_;simp[k,aa]
 rw[if_pos k]at h⊢;rw[k]at k1;have k2:=AF t name s k;have k3:=AP;have i:=fD false 10;have l:=fD true 10;have f:=fD false 13;have o:=fD true 13;rw[show bt false 10=0 from rfl]at i;rw[show bt true 10=10 from rfl]at l;rw[show bt false 13=0 from rfl]at f;rw[show bt true 13=13 from rfl]at o;have g:=jV [0,0] (by simp);have f2:=jV [0,13] (by simp);have f3:=jV [10,0] (by simp);have f4:=jV [10,13] (by simp);simp only[b2,bo]at g f2 f3 f4;rw[show bH [0,0]=0 from rfl]at g;rw[show bH [0,13]=13 from rfl]at f2;rw[show bH [10,0]=10 from rfl]at f3;rw[show bH [10,13]=10 from rfl]at f4;have u:=AR a;have p:=AQ a;obtain⟨Z,d,e⟩:∃Z,aw prog 69 [dI t,.str name] (.aE [Z,.bool (decide (ch t name<t.az.length))])/\aL Z=.agg 133:=by
  by_cases hk:ch t name<t.az.length
  ·rw[if_pos hk]at k2;exact⟨_,by rw[decide_eq_true hk];exact k2,rfl⟩
  ·rw[if_neg hk]at k2;exact⟨_,by rw[decide_eq_false hk];exact k2,rfl⟩
 clear k2
 by_cases hk:ch t name<t.az.length
 case neg=>
  rw[decide_eq_false hk]at d;rw[if_neg hk]
  by_cases e1:kind=dF
  ·subst e1;refine aI nf iJ mix (by simp[f12]) ?_;simp[f12,aa];refine Go.aj.c1 k1 ?_;simp[aa];refine Go.aj.c2 d ?_;simp[e,aa];refine Go.aj.c0 k3 ?_;simp[iM,dF,dB,gu,gn,dH,fR,fj,aa];refine Go.aj.c2 l ?_;simp[aa];refine Go.aj.c2 f ?_;simp[aa];refine cp f3 (by simp;first|exact⟨rfl,rfl⟩|rfl) ?_;simp[aa]
  by_cases e2:kind=dB
  ·subst e2;refine aI nf iJ mix (by simp[f12]) ?_;simp[f12,aa];refine Go.aj.c1 k1 ?_;simp[aa];refine Go.aj.c2 d ?_;simp[e,aa];refine Go.aj.c0 k3 ?_;simp[iM,dF,dB,gu,gn,dH,fR,fj,aa];refine Go.aj.c2 l ?_;simp[aa];refine Go.aj.c2 f ?_;simp[aa];refine cp f3 (by simp;first|exact⟨rfl,rfl⟩|rfl) ?_;simp[aa]
  have m:(kind==[116,114,105,97,110,103,108,101])=false:=beq_eq_false_iff_ne.2 e1;have n:(kind==[100,105,97,109,111,110,100])=false:=beq_eq_false_iff_ne.2 e2;refine aI nf iJ mix (by simp[f12]) ?_;simp[f12,aa];refine Go.aj.c1 k1 ?_;simp[aa];refine Go.aj.c2 d ?_;simp[e,aa];refine Go.aj.c0 k3 ?_;simp[iM,dF,dB,gu,gn,dH,fR,fj,m,n,aa];refine Go.aj.c2 l ?_;simp[aa];refine Go.aj.c2 o ?_;simp[aa];refine cp f4 (by simp;first|exact⟨rfl,rfl⟩|rfl) ?_;simp[aa]
 rw[decide_eq_true hk]at d;rw[if_pos hk]at h⊢;rw[iI]at h⊢
 by_cases e1:kind=dF
 ·subst e1;have r:¬(dF=dB):=by decide
  simp only[ne_eq,not_true_eq_false,false_and,if_false,r,or_false,false_or]at h⊢;have hx:a<1\/6<a\/q<0\/3<q:=by
   by_cases c:a<1\/6<a\/q<0\/3<q
   ·exact c
   ·exact absurd (if_neg c) h
  rw[if_pos hx];clear h
  by_cases b:a<1
  ·skip
   refine aI nf iJ mix (by simp[f12]) ?_;simp[f12,aa];refine Go.aj.c1 k1 ?_;simp[aa];refine Go.aj.c2 d ?_;simp[e,aa];refine Go.aj.c0 k3 ?_;simp[iM,dF,dB,gu,gn,dH,fR,fj,aa];refine Go.aj.c2 i ?_;simp[aa];refine Go.aj.c2 f ?_;simp[aa];refine cp g (by simp;first|exact⟨rfl,rfl⟩|rfl) ?_;simp[b,aa]
  by_cases a2:6<a
  ·skip
   refine aI nf iJ mix (by simp[f12]) ?_;simp[f12,aa];refine Go.aj.c1 k1 ?_;simp[aa];refine Go.aj.c2 d ?_;simp[e,aa];refine Go.aj.c0 k3 ?_;simp[iM,dF,dB,gu,gn,dH,fR,fj,aa];refine Go.aj.c2 i ?_;simp[aa];refine Go.aj.c2 f ?_;simp[aa];refine cp g (by simp;first|exact⟨rfl,rfl⟩|rfl) ?_;simp[b,a2,aa]
  by_cases a3:q<0
  ·skip
   refine aI nf iJ mix (by simp[f12]) ?_;simp[f12,aa];refine Go.aj.c1 k1 ?_;simp[aa];refine Go.aj.c2 d ?_;simp[e,aa];refine Go.aj.c0 k3 ?_;simp[iM,dF,dB,gu,gn,dH,fR,fj,aa];refine Go.aj.c2 i ?_;simp[aa];refine Go.aj.c2 f ?_;simp[aa];refine cp g (by simp;first|exact⟨rfl,rfl⟩|rfl) ?_;simp[b,a2,a3,aa];refine Go.aj.c1 u ?_;simp[b,a2,a3,aa]
  by_cases a4:3<q
  ·skip
   refine aI nf iJ mix (by simp[f12]) ?_;simp[f12,aa];refine Go.aj.c1 k1 ?_;simp[aa];refine Go.aj.c2 d ?_;simp[e,aa];refine Go.aj.c0 k3 ?_;simp[iM,dF,dB,gu,gn,dH,fR,fj,aa];refine Go.aj.c2 i ?_;simp[aa];refine Go.aj.c2 f ?_;simp[aa];refine cp g (by simp;first|exact⟨rfl,rfl⟩|rfl) ?_;simp[b,a2,a3,a4,aa];refine Go.aj.c1 u ?_;simp[b,a2,a3,a4,aa]
  exact(by omega:False).elim
 by_cases e2:kind=dB
 ·subst e2;have r:¬(dB=dF):=by decide
  simp only[ne_eq,not_true_eq_false,and_false,if_false,true_and]at h⊢;have hx:a<1\/6<a\/a.tmod 2=0\/q<0\/3<q:=by
   by_cases c:a<1\/6<a\/a.tmod 2=0\/q<0\/3<q
   ·exact c
   ·exact absurd (if_neg c) h
  rw[if_pos hx];clear h
  by_cases b:a<1
  ·skip
   refine aI nf iJ mix (by simp[f12]) ?_;simp[f12,aa];refine Go.aj.c1 k1 ?_;simp[aa];refine Go.aj.c2 d ?_;simp[e,aa];refine Go.aj.c0 k3 ?_;simp[iM,dF,dB,gu,gn,dH,fR,fj,aa];refine Go.aj.c2 i ?_;simp[aa];refine Go.aj.c2 f ?_;simp[aa];refine cp g (by simp;first|exact⟨rfl,rfl⟩|rfl) ?_;simp[b,aa]
  by_cases a2:6<a
  ·skip
   refine aI nf iJ mix (by simp[f12]) ?_;simp[f12,aa];refine Go.aj.c1 k1 ?_;simp[aa];refine Go.aj.c2 d ?_;simp[e,aa];refine Go.aj.c0 k3 ?_;simp[iM,dF,dB,gu,gn,dH,fR,fj,aa];refine Go.aj.c2 i ?_;simp[aa];refine Go.aj.c2 f ?_;simp[aa];refine cp g (by simp;first|exact⟨rfl,rfl⟩|rfl) ?_;simp[b,a2,aa]
  have v:a.tmod 2=0\/a.tmod 2=1:=by
   rw[bb (by omega)];omega
  by_cases a5:a.tmod 2=0
  ·have j:¬a.tmod 2=1:=by omega
   refine aI nf iJ mix (by simp[f12]) ?_;simp[f12,aa];refine Go.aj.c1 k1 ?_;simp[aa];refine Go.aj.c2 d ?_;simp[e,aa];refine Go.aj.c0 k3 ?_;simp[iM,dF,dB,gu,gn,dH,fR,fj,aa];refine Go.aj.c2 i ?_;simp[aa];refine Go.aj.c2 f ?_;simp[aa];refine cp g (by simp;first|exact⟨rfl,rfl⟩|rfl) ?_;simp[b,a2,a5,j,aa];refine Go.aj.c1 p ?_;simp[b,a2,a5,j,aa]
  have j:a.tmod 2=1:=by omega
  by_cases a3:q<0
  ·skip
   refine aI nf iJ mix (by simp[f12]) ?_;simp[f12,aa];refine Go.aj.c1 k1 ?_;simp[aa];refine Go.aj.c2 d ?_;simp[e,aa];refine Go.aj.c0 k3 ?_;simp[iM,dF,dB,gu,gn,dH,fR,fj,aa];refine Go.aj.c2 i ?_;simp[aa];refine Go.aj.c2 f ?_;simp[aa];refine cp g (by simp;first|exact⟨rfl,rfl⟩|rfl) ?_;simp[b,a2,a3,a5,j,aa];refine Go.aj.c1 p ?_;simp[b,a2,a3,a5,j,aa]
  by_cases a4:3<q
  ·skip
   refine aI nf iJ mix (by simp[f12]) ?_;simp[f12,aa];refine Go.aj.c1 k1 ?_;simp[aa];refine Go.aj.c2 d ?_;simp[e,aa];refine Go.aj.c0 k3 ?_;simp[iM,dF,dB,gu,gn,dH,fR,fj,aa];refine Go.aj.c2 i ?_;simp[aa];refine Go.aj.c2 f ?_;simp[aa];refine cp g (by simp;first|exact⟨rfl,rfl⟩|rfl) ?_;simp[b,a2,a3,a4,a5,j,aa];refine Go.aj.c1 p ?_;simp[b,a2,a3,a4,a5,j,aa]
  exact(by omega:False).elim
 ·rw[if_pos ⟨e1,e2⟩];have m:(kind==[116,114,105,97,110,103,108,101])=false:=beq_eq_false_iff_ne.2 e1;have n:(kind==[100,105,97,109,111,110,100])=false:=beq_eq_false_iff_ne.2 e2;refine aI nf iJ mix (by simp[f12]) ?_;simp[f12,aa];refine Go.aj.c1 k1 ?_;simp[aa];refine Go.aj.c2 d ?_;simp[e,aa];refine Go.aj.c0 k3 ?_;simp[iM,dF,dB,gu,gn,dH,fR,fj,m,n,aa];refine Go.aj.c2 i ?_;simp[aa];refine Go.aj.c2 o ?_;simp[aa];refine cp f2 (by simp;first|exact⟨rfl,rfl⟩|rfl) ?_;simp[aa]
theorem ze(a b:List Nat):ln a b a b=true:=by simp[ln]
theorem R5{p:gz}(hx:p.x.length<=40)(a:p.y.length<=40)(h:dU p=0):bW 133 (vP p):=by
 obtain⟨g1,g2⟩:=nE h;exact⟨Gx g1 hx,Gx g2 a⟩
theorem Gj{t:aF}(h:jW t=true):∀s∈t.az,dU s.pt=0->bW 133 (vP s.pt):=by
 intro s hs a;simp only[jW,a6,List.all_eq_true]at h;have:=h.2.2 s hs;simp only[gH,a6,decide_eq_true_eq]at this;exact R5 this.2.1 this.2.2 a
end Go.aj
