import Derived.Test.YtgpphcmkjhklgaaGreatDoorPL
import Derived.Test.YtgpphcmkjhklgaaGreatDoorPK
/- Parts of a proof. -/
set_option linter.unusedSimpArgs false
set_option linter.unusedVariables false
set_option linter.unusedSectionVars false
open Go.Proofs.Tryz
open And renaming intro->aT
open Bool renaming and_eq_true->a1
open Go.IntKind renaming i64->a6
open List renaming take_of_length_le->a7, take_length->a8, mem_of_getElem?->bb, length_eq_zero_iff->be, map_nil->bi, mem_iff_getElem->bk, take_add_one->bl, any_eq_true->bo, map_cons->bv
open Nat renaming le_trans->b0, lt_of_lt_of_le->b1, not_lt_zero->b2, le_refl->b3
open Rat renaming mul_eq_zero->b4, not_lt->b5, intCast_inj->cb, mul_nonneg->cc, mul_pos->ce
namespace Go.al
open Go.Proofs
set_option maxHeartbeats 4000000
set_option maxRecDepth 100000
theorem Rp(l:List dK):eS prog 2 (l.map (AV.p∘cB)):=Bz (fun r=>⟨by simp[ad],by simp[ad]⟩) l
theorem rl{α:Type}{f:α->AV}{l:List α}{j:Nat}{x:α}(h:l[j+1]?=some x):(l.take (j+1+1)).map f=(l.map f).take (j+1)++[f x]:=by
 rw[bl (i:=j+1),h,List.map_append,List.map_take];rfl
theorem ke{N:Nat×Nat->Prop}{α:Type}{f:α->PV}{k:Nat}{l:List α}:aQ N ((l.map (AV.p∘f)).take k)=True:=by
 rw[cq,eq_iff_iff,iff_true];intro x hx;obtain⟨a,_,rfl⟩:=List.mem_map.1 (List.mem_of_mem_take hx);trivial
theorem nH:eX=fa:=rfl
theorem nG:fZ=dv:=rfl
theorem rp{α:Type}{l:List α}{x:α}(h:l[0]?=some x):l.take 1=[x]:=by
 rw[bl (i:=0),h];rfl
theorem P8(t:aw)(u:t.cs.length<=1000000)(v:t.ba.length<=1000000)(w:t.aC.length<=1000000):az prog 14 [cN t] (dH t):=by
 have s:(1000000:Nat)<cU:=by decide
 have o:a6.wrap 1=1:=by decide
 refine aM nf NG mix (by simp[f14]) ?_;simp[f14,ad];refine⟨⟨Rp _,by omega⟩,?_⟩
 by_cases hc:t.cs=[]
 ·simp[hc];refine⟨⟨by repeat' first|rfl|apply aT,by repeat' first|rfl|apply aT⟩,?_⟩;refine lp (α:=Nat) (fun i=>match i with
    |0=>⟨[(18,.p (.int .i64 0)),(17,.p (.int .i64 t.ba.length)),(16,.p (.seq (t.ba.map fa))),(3,.ptr 3 []),(2,.ptr 1 []),(1,.ptr 0 [])],[.box false (.p (cN t)),.box false (.p (.st 35 [.aR,.int .i64 0,.aR,.aR])),.arr .exact 0 2 [],.box false (.st 35 [.sl 2 0 2 0 0,.p (.int .i64 t.b7),.p .aR,.p .aR])]⟩
    |m+1=>⟨[(18,.p (.int .i64 ((m+1:Nat):Int))),(17,.p (.int .i64 t.ba.length)),(16,.p (.seq (t.ba.map fa))),(3,.ptr 3 []),(2,.ptr 1 []),(1,.ptr 0 [])],[.box false (.p (cN t)),.box false (.p (.st 35 [.aR,.int .i64 0,.aR,.aR])),.arr .exact 0 2 [],.box false (.st 35 [.sl 2 0 2 0 0,.p (.int .i64 t.b7),.sl 6 m 4 0 (m+1),.p .aR]),.hole,.hole,.arr .grow m 4 ((t.ba.take (m+1)).map (AV.p∘fa))]⟩) (fun i=>i<=t.ba.length) (fun i=>t.ba.length-i) 0 (by simp) ?_
  rintro i q
  by_cases hi:i<t.ba.length
  ·have a:=aw.kz hi;rcases i with _|j
   ·have b:=rp a;simp[hi,a,o,ad];exact⟨by omega,rd 1 hi (hh:=by simp[b]) (hr2:=by simp[ke])⟩
   ·have h:a6.wrap ((j:Int)+1+1)=(j:Int)+1+1:=aN _ (by omega) (by omega);have hI:(j:Int)+1<t.ba.length:=by omega
    have b:=rl (f:=AV.p∘fa) a;simp[hi,hI,a,h,ad];exact⟨by omega,⟨by omega,by omega⟩,rd (j+2) hi (hh:=by simp at b;simp[b]) (hr2:=by simp[ke])⟩
  have r:i=t.ba.length:=by omega
  rcases i with _|j
  ·have n:t.ba=[]:=be.1 r.symm;simp[n,ad];refine lp (α:=Nat) (fun i=>match i with
     |0=>⟨[(32,.p (.int .i64 0)),(31,.p (.int .i64 t.aC.length)),(30,.p (.seq (t.aC.map dv))),(3,.ptr 3 []),(2,.ptr 1 []),(1,.ptr 0 [])],[.box false (.p (cN t)),.box false (.p (.st 35 [.aR,.int .i64 0,.aR,.aR])),.arr .exact 0 2 [],.box false (.st 35 [.sl 2 0 2 0 0,.p (.int .i64 t.b7),.p .aR,.p .aR])]⟩
     |m+1=>⟨[(32,.p (.int .i64 ((m+1:Nat):Int))),(31,.p (.int .i64 t.aC.length)),(30,.p (.seq (t.aC.map dv))),(3,.ptr 3 []),(2,.ptr 1 []),(1,.ptr 0 [])],[.box false (.p (cN t)),.box false (.p (.st 35 [.aR,.int .i64 0,.aR,.aR])),.arr .exact 0 2 [],.box false (.st 35 [.sl 2 0 2 0 0,.p (.int .i64 t.b7),.p .aR,.sl 6 m 3 0 (m+1)]),.hole,.hole,.arr .grow m 3 ((t.aC.take (m+1)).map (AV.p∘dv))]⟩) (fun i=>i<=t.aC.length) (fun i=>t.aC.length-i) 0 (by simp) ?_
   rintro i q
   by_cases hi:i<t.aC.length
   ·have a:=aw.gH hi;rcases i with _|j
    ·have b:=rp a;simp[hi,a,o,ad];exact⟨by omega,rd 1 hi (hh:=by simp[b]) (hr2:=by simp[ke])⟩
    ·have h:a6.wrap ((j:Int)+1+1)=(j:Int)+1+1:=aN _ (by omega) (by omega);have hI:(j:Int)+1<t.aC.length:=by omega
     have b:=rl (f:=AV.p∘dv) a;simp[hi,hI,a,h,ad];exact⟨by omega,⟨by omega,by omega⟩,rd (j+2) hi (hh:=by simp at b;simp[b]) (hr2:=by simp[ke])⟩
   have d:i=t.aC.length:=by omega
   rcases i with _|c
   ·have e:t.aC=[]:=be.1 d.symm;simp[e,ad];simp[dH,hc,n,e,nH,nG]
   ·have hI:¬((c:Int)+1<t.aC.length):=by omega
    have g:t.aC.take (c+1)=t.aC:=by rw[d,a8]
    simp[hI,g,ad];have l:(t.aC.map (AV.p∘dv)).take (c+1)=t.aC.map (AV.p∘dv):=a7 (by simp;omega);simp[dH,hc,n,l,nH,nG];omega
  ·have hI:¬((j:Int)+1<t.ba.length):=by omega
   have g:t.ba.take (j+1)=t.ba:=by rw[r,a8]
   simp[hI,g,ad];refine lp (α:=Nat) (fun i=>match i with
    |0=>⟨[(32,.p (.int .i64 0)),(31,.p (.int .i64 t.aC.length)),(30,.p (.seq (t.aC.map dv))),(3,.ptr 3 []),(2,.ptr 1 []),(1,.ptr 0 [])],[.box false (.p (cN t)),.box false (.p (.st 35 [.aR,.int .i64 0,.aR,.aR])),.arr .exact 0 2 [],.box false (.st 35 [.sl 2 0 2 0 0,.p (.int .i64 t.b7),.sl 6 j 4 0 (j+1),.p .aR]),.hole,.hole,.arr .grow j 4 (t.ba.map (AV.p∘fa))]⟩
    |m+1=>⟨[(32,.p (.int .i64 ((m+1:Nat):Int))),(31,.p (.int .i64 t.aC.length)),(30,.p (.seq (t.aC.map dv))),(3,.ptr 3 []),(2,.ptr 1 []),(1,.ptr 0 [])],[.box false (.p (cN t)),.box false (.p (.st 35 [.aR,.int .i64 0,.aR,.aR])),.arr .exact 0 2 [],.box false (.st 35 [.sl 2 0 2 0 0,.p (.int .i64 t.b7),.sl 6 j 4 0 (j+1),.sl 9 m 3 0 (m+1)]),.hole,.hole,.arr .grow j 4 (t.ba.map (AV.p∘fa)),.hole,.hole,.arr .grow m 3 ((t.aC.take (m+1)).map (AV.p∘dv))]⟩) (fun i=>i<=t.aC.length) (fun i=>t.aC.length-i) 0 (by simp) ?_
   rintro i q
   by_cases hi:i<t.aC.length
   ·have a:=aw.gH hi;rcases i with _|j
    ·have b:=rp a;simp[hi,a,o,ad];exact⟨by omega,rd 1 hi (hh:=by simp[b]) (hr2:=by simp[ke])⟩
    ·have h:a6.wrap ((j:Int)+1+1)=(j:Int)+1+1:=aN _ (by omega) (by omega);have hI:(j:Int)+1<t.aC.length:=by omega
     have b:=rl (f:=AV.p∘dv) a;simp[hi,hI,a,h,ad];exact⟨by omega,⟨by omega,by omega⟩,rd (j+2) hi (hh:=by simp at b;simp[b]) (hr2:=by simp[ke])⟩
   have d:i=t.aC.length:=by omega
   rcases i with _|c
   ·have e:t.aC=[]:=be.1 d.symm;simp[e,ad];have k:(t.ba.map (AV.p∘fa)).take (j+1)=t.ba.map (AV.p∘fa):=a7 (by simp;omega);simp[dH,hc,k,e,nH,nG];omega
   ·have hI:¬((c:Int)+1<t.aC.length):=by omega
    have g:t.aC.take (c+1)=t.aC:=by rw[d,a8]
    simp[hI,g,ad];have k:(t.ba.map (AV.p∘fa)).take (j+1)=t.ba.map (AV.p∘fa):=a7 (by simp;omega);have l:(t.aC.map (AV.p∘dv)).take (c+1)=t.aC.map (AV.p∘dv):=a7 (by simp;omega);simp[dH,hc,k,l,nH,nG];omega
 ·simp[hc];refine⟨⟨by repeat' first|rfl|apply aT,by repeat' first|rfl|apply aT⟩,?_⟩;refine lp (α:=Nat) (fun i=>match i with
    |0=>⟨[(18,.p (.int .i64 0)),(17,.p (.int .i64 t.ba.length)),(16,.p (.seq (t.ba.map fa))),(3,.ptr 4 []),(2,.ptr 1 []),(1,.ptr 0 [])],[.box false (.p (cN t)),.box false (.p (.st 35 [.aR,.int .i64 0,.aR,.aR])),.arr .exact 0 2 [],.arr .grow 0 2 (t.cs.map (AV.p∘cB)),.box false (.st 35 [.sl 3 0 2 0 t.cs.length,.p (.int .i64 t.b7),.p .aR,.p .aR])]⟩
    |m+1=>⟨[(18,.p (.int .i64 ((m+1:Nat):Int))),(17,.p (.int .i64 t.ba.length)),(16,.p (.seq (t.ba.map fa))),(3,.ptr 4 []),(2,.ptr 1 []),(1,.ptr 0 [])],[.box false (.p (cN t)),.box false (.p (.st 35 [.aR,.int .i64 0,.aR,.aR])),.arr .exact 0 2 [],.arr .grow 0 2 (t.cs.map (AV.p∘cB)),.box false (.st 35 [.sl 3 0 2 0 t.cs.length,.p (.int .i64 t.b7),.sl 7 m 4 0 (m+1),.p .aR]),.hole,.hole,.arr .grow m 4 ((t.ba.take (m+1)).map (AV.p∘fa))]⟩) (fun i=>i<=t.ba.length) (fun i=>t.ba.length-i) 0 (by simp) ?_
  rintro i q
  by_cases hi:i<t.ba.length
  ·have a:=aw.kz hi;rcases i with _|j
   ·have b:=rp a;simp[hi,a,o,ad];exact⟨by omega,rd 1 hi (hh:=by simp[b]) (hr2:=by simp[ke])⟩
   ·have h:a6.wrap ((j:Int)+1+1)=(j:Int)+1+1:=aN _ (by omega) (by omega);have hI:(j:Int)+1<t.ba.length:=by omega
    have b:=rl (f:=AV.p∘fa) a;simp[hi,hI,a,h,ad];exact⟨by omega,⟨by omega,by omega⟩,rd (j+2) hi (hh:=by simp at b;simp[b]) (hr2:=by simp[ke])⟩
  have r:i=t.ba.length:=by omega
  rcases i with _|j
  ·have n:t.ba=[]:=be.1 r.symm;simp[n,ad];refine lp (α:=Nat) (fun i=>match i with
     |0=>⟨[(32,.p (.int .i64 0)),(31,.p (.int .i64 t.aC.length)),(30,.p (.seq (t.aC.map dv))),(3,.ptr 4 []),(2,.ptr 1 []),(1,.ptr 0 [])],[.box false (.p (cN t)),.box false (.p (.st 35 [.aR,.int .i64 0,.aR,.aR])),.arr .exact 0 2 [],.arr .grow 0 2 (t.cs.map (AV.p∘cB)),.box false (.st 35 [.sl 3 0 2 0 t.cs.length,.p (.int .i64 t.b7),.p .aR,.p .aR])]⟩
     |m+1=>⟨[(32,.p (.int .i64 ((m+1:Nat):Int))),(31,.p (.int .i64 t.aC.length)),(30,.p (.seq (t.aC.map dv))),(3,.ptr 4 []),(2,.ptr 1 []),(1,.ptr 0 [])],[.box false (.p (cN t)),.box false (.p (.st 35 [.aR,.int .i64 0,.aR,.aR])),.arr .exact 0 2 [],.arr .grow 0 2 (t.cs.map (AV.p∘cB)),.box false (.st 35 [.sl 3 0 2 0 t.cs.length,.p (.int .i64 t.b7),.p .aR,.sl 7 m 3 0 (m+1)]),.hole,.hole,.arr .grow m 3 ((t.aC.take (m+1)).map (AV.p∘dv))]⟩) (fun i=>i<=t.aC.length) (fun i=>t.aC.length-i) 0 (by simp) ?_
   rintro i q
   by_cases hi:i<t.aC.length
   ·have a:=aw.gH hi;rcases i with _|j
    ·have b:=rp a;simp[hi,a,o,ad];exact⟨by omega,rd 1 hi (hh:=by simp[b]) (hr2:=by simp[ke])⟩
    ·have h:a6.wrap ((j:Int)+1+1)=(j:Int)+1+1:=aN _ (by omega) (by omega);have hI:(j:Int)+1<t.aC.length:=by omega
     have b:=rl (f:=AV.p∘dv) a;simp[hi,hI,a,h,ad];exact⟨by omega,⟨by omega,by omega⟩,rd (j+2) hi (hh:=by simp at b;simp[b]) (hr2:=by simp[ke])⟩
   have d:i=t.aC.length:=by omega
   rcases i with _|c
   ·have e:t.aC=[]:=be.1 d.symm;simp[e,ad];simp[dH,hc,n,e,nH,nG]
   ·have hI:¬((c:Int)+1<t.aC.length):=by omega
    have g:t.aC.take (c+1)=t.aC:=by rw[d,a8]
    simp[hI,g,ad];have l:(t.aC.map (AV.p∘dv)).take (c+1)=t.aC.map (AV.p∘dv):=a7 (by simp;omega);simp[dH,hc,n,l,nH,nG];omega
  ·have hI:¬((j:Int)+1<t.ba.length):=by omega
   have g:t.ba.take (j+1)=t.ba:=by rw[r,a8]
   simp[hI,g,ad];refine lp (α:=Nat) (fun i=>match i with
    |0=>⟨[(32,.p (.int .i64 0)),(31,.p (.int .i64 t.aC.length)),(30,.p (.seq (t.aC.map dv))),(3,.ptr 4 []),(2,.ptr 1 []),(1,.ptr 0 [])],[.box false (.p (cN t)),.box false (.p (.st 35 [.aR,.int .i64 0,.aR,.aR])),.arr .exact 0 2 [],.arr .grow 0 2 (t.cs.map (AV.p∘cB)),.box false (.st 35 [.sl 3 0 2 0 t.cs.length,.p (.int .i64 t.b7),.sl 7 j 4 0 (j+1),.p .aR]),.hole,.hole,.arr .grow j 4 (t.ba.map (AV.p∘fa))]⟩
    |m+1=>⟨[(32,.p (.int .i64 ((m+1:Nat):Int))),(31,.p (.int .i64 t.aC.length)),(30,.p (.seq (t.aC.map dv))),(3,.ptr 4 []),(2,.ptr 1 []),(1,.ptr 0 [])],[.box false (.p (cN t)),.box false (.p (.st 35 [.aR,.int .i64 0,.aR,.aR])),.arr .exact 0 2 [],.arr .grow 0 2 (t.cs.map (AV.p∘cB)),.box false (.st 35 [.sl 3 0 2 0 t.cs.length,.p (.int .i64 t.b7),.sl 7 j 4 0 (j+1),.sl 10 m 3 0 (m+1)]),.hole,.hole,.arr .grow j 4 (t.ba.map (AV.p∘fa)),.hole,.hole,.arr .grow m 3 ((t.aC.take (m+1)).map (AV.p∘dv))]⟩) (fun i=>i<=t.aC.length) (fun i=>t.aC.length-i) 0 (by simp) ?_
   rintro i q
   by_cases hi:i<t.aC.length
   ·have a:=aw.gH hi;rcases i with _|j
    ·have b:=rp a;simp[hi,a,o,ad];exact⟨by omega,rd 1 hi (hh:=by simp[b]) (hr2:=by simp[ke])⟩
    ·have h:a6.wrap ((j:Int)+1+1)=(j:Int)+1+1:=aN _ (by omega) (by omega);have hI:(j:Int)+1<t.aC.length:=by omega
     have b:=rl (f:=AV.p∘dv) a;simp[hi,hI,a,h,ad];exact⟨by omega,⟨by omega,by omega⟩,rd (j+2) hi (hh:=by simp at b;simp[b]) (hr2:=by simp[ke])⟩
   have d:i=t.aC.length:=by omega
   rcases i with _|c
   ·have e:t.aC=[]:=be.1 d.symm;simp[e,ad];have k:(t.ba.map (AV.p∘fa)).take (j+1)=t.ba.map (AV.p∘fa):=a7 (by simp;omega);simp[dH,hc,k,e,nH,nG];omega
   ·have hI:¬((c:Int)+1<t.aC.length):=by omega
    have g:t.aC.take (c+1)=t.aC:=by rw[d,a8]
    simp[hI,g,ad];have k:(t.ba.map (AV.p∘fa)).take (j+1)=t.ba.map (AV.p∘fa):=a7 (by simp;omega);have l:(t.aC.map (AV.p∘dv)).take (c+1)=t.aC.map (AV.p∘dv):=a7 (by simp;omega);simp[dH,hc,k,l,nH,nG];omega
def sR(r:Int)(a b:V2):Int:=du ((a.sub b).dot (a.sub b)) (um r)
def iQ(t:aw)(a:List dN)(s:dN):Int:=
 if isName s.name=false then 8
 else if a.any (fun o=>decide (o.name=s.name))=true then 9
 else if dA s.pt≠0 then dA s.pt
 else if t.on (vP s.pt)<0 then 16
 else if a.any (fun o=>decide (sR t.b7 (vP o.pt) (vP s.pt)<0))=true then 17 else 0
def v7(t b:aw):Int:=if 24<b.aC.length then 5 else jy (iQ t) b.aC
def pc(t b:aw):Int:=if er t≠0 then er t else v7 t b
structure tN(b:aw):Prop where
 sl:b.aC.length<=1000000
 sp:∀s∈b.aC,qU s
theorem Qe{t:aw}(h:er t=0):1<=t.b7/\t.b7<=1000:=by
 rw[er]at h
 split at h
 ·omega
 split at h
 ·omega
 split at h
 ·omega
 split at h
 ·omega
 split at h
 ·omega
 omega
theorem DG{s:fy}(h:dA s=0):eV (vP s)=ff s/\cr 2000 (vP s):=by
 obtain⟨g1,g2⟩:=nY h;refine⟨?_,gn g1,gn g2⟩;rw[eV,vP];dsimp only;rw[(fX g1).1,(fX g2).1]
theorem Qh(t:aw)(a:0<=t.b7)(b:t.b7<=1000000):az prog 209 [cN t] (.str (bf (um t.b7))):=by
 have f:=HI a b;have c:=Cb (4*t.b7*t.b7) (by omega) (by omega);have d:a6.wrap (4*t.b7)=4*t.b7:=aN _ (by omega) (by omega);have e:a6.wrap (4*t.b7*t.b7)=4*t.b7*t.b7:=aN _ (by omega) (by omega);refine aM nf Ei mix (by simp[f209]) ?_;rw[um];simp[f209,ad,d,e];refine c1 c ?_;simp
theorem Qg(t:aw)(a b:V2)(d:0<=t.b7)(e:t.b7<=1000000)(f:cr 2000 a)(g:cr 2000 b):az prog 128 [cN t,eV a,eV b] (.int .i64 (sR t.b7 a b)):=by
 have c:=kx f g;have k1:=vy a b (f.mono (by decide)) (g.mono (by decide));have k2:=QF (a.sub b) (c.mono (by decide));have k3:=Qh t d e;have k4:=o6 ((a.sub b).dot (a.sub b)) (um t.b7) ((rD c c).mono (by decide)) ((QC d e).mono (by decide));refine aM nf F5 mix (by simp[f128]) ?_;rw[sR];simp[f128,ad];refine e2 k1 ?_;simp[ad];refine e1 k2 ?_;simp[ad];refine e1 k3 ?_;simp[ad];refine e2 k4 ?_;simp[ad]
theorem Eo{α:Type}{f:α->Bool}{l:List α}{i j:Nat}{x:α}(h:l[j]?=some x)(a:j<i)(hf:f x=true):(l.take i).any f=true:=by
 rw[bo];exact⟨x,bb (i:=j) (by rw[List.getElem?_take,if_pos a];exact h),hf⟩
theorem E0{t:aw}{a:List dN}{s:dN}(h:iQ t a s=0):dA s.pt=0:=by
 rw[iQ]at h
 split at h
 ·omega
 split at h
 ·omega
 split at h
 ·contradiction
 ·rename_i g;exact Decidable.not_not.1 g
theorem Qi(t b:aw)(v:er t=0)(z:tN b)(A:t.cs.length<=1000000):az prog 120 [cN t,.seq (b.aC.map dv)] (.int .i64 (v7 t b)):=by
 obtain⟨P,C⟩:=z;obtain⟨_,_,B,_⟩:=tE v;obtain⟨Q,R⟩:=Qe v;refine aM nf ML mix (by simp[f120]) ?_;rw[v7]
 by_cases c4:24<b.aC.length
 ·have cI:(24:Int)<b.aC.length:=by omega
  rw[if_pos c4];simp[f120,ad,cI]
 have x:¬(24:Int)<b.aC.length:=by omega
 rw[if_neg c4];simp[f120,ad,x];refine lp (α:=Nat) (fun i=>⟨[(5,.p (.int .i64 i)),(2,.ptr 0 []),(1,.p (.seq (b.aC.map dv)))],[.box false (.p (cN t))]⟩) (fun i=>i<=b.aC.length/\∀j,j<i->gR (iQ t) b.aC j=0) (fun i=>b.aC.length-i) 0 (by simp) ?_;rintro i ⟨s1,s2⟩
 by_cases hs:i<b.aC.length
 case neg=>
  have:i=b.aC.length:=by omega
  subst this;rw[rk.2 s2];simp[ad]
 have a:=aw.gH hs;have D:=cH (i:=i) (by omega);obtain⟨I,J⟩:=C _ (bb a);have g:=zz (b.sp i).name I.1;have y:=wE (b.sp i).pt J;have e:iQ t (b.aC.take i) (b.sp i)≠0->jy (iQ t) b.aC=iQ t (b.aC.take i) (b.sp i):=tJ s2 a;have H:iQ t (b.aC.take i) (b.sp i)=0->∀j,j<i+1->gR (iQ t) b.aC j=0:=tI s2 a;have M:∀j,j<i->dA (b.sp j).pt=0:=fun j c=>by
  have:=s2 j c;rw[gR,aw.gH (by omega)]at this;exact E0 this
 have ev:iQ t (b.aC.take i) (b.sp i)=if isName (b.sp i).name=false then 8 else if(b.aC.take i).any (fun o=>decide (o.name=(b.sp i).name))=true then 9 else if dA (b.sp i).pt≠0 then dA (b.sp i).pt else if t.on (vP (b.sp i).pt)<0 then 16 else if(b.aC.take i).any (fun o=>decide (sR t.b7 (vP o.pt) (vP (b.sp i).pt)<0))=true then 17 else 0:=rfl
 clear s2;generalize iQ t (b.aC.take i) (b.sp i)=E at*;generalize jy (iQ t) b.aC=N at*;cases m:isName (b.sp i).name
 ·rw[m]at g;rw[m,if_pos rfl]at ev;rw[e (by rw[ev];decide),ev];simp[hs,a,ad];refine Go.al.c1 g ?_;simp[ad]
 rw[m]at g;rw[m,if_neg (by decide)]at ev;simp[hs,a,ad];refine Go.al.c1 g ?_;simp[ad];refine lp (α:=Nat) (fun k=>⟨[(6,.p (.int .i64 k)),(5,.p (.int .i64 i)),(2,.ptr 0 []),(1,.p (.seq (b.aC.map dv)))],[.box false (.p (cN t))]⟩) (fun k=>k<=i/\(b.aC.take k).any (fun o=>decide (o.name=(b.sp i).name))=false) (fun k=>i-k) 0 (by simp) ?_;rintro k ⟨k1,k2⟩
 by_cases hk:k<i
 ·have s:k<b.aC.length:=by omega
  have gk:=aw.gH s;have G:=cH (i:=k) (by omega)
  by_cases l:(b.sp k).name=(b.sp i).name
  ·rw[if_pos (Eo gk hk (by simp[l]))]at ev;rw[e (by rw[ev];decide),ev];simp[hs,hk,s,gk,a,l,ad]
  ·simp[hs,hk,s,gk,a,l,G,ad];exact rd (k+1) ⟨hk,by rw[tF gk,k2];simp[l]⟩
 have:k=i:=by omega
 subst this;rw[k2,if_neg (by decide)]at ev;clear k1 k2 hk;have d0:¬k<k:=by omega
 simp[d0,hs,a,ad];refine Go.al.c1 y ?_
 by_cases d:dA (b.sp k).pt=0
 case neg=>
  rw[if_pos d]at ev;rw[e (by rw[ev];exact d),ev];simp[d,ad]
 rw[if_neg (by simp[d])]at ev;obtain⟨pl,ok⟩:=DG d;have u:=MX t (vP (b.sp k).pt) A B (ok.mono (by decide));rw[pl]at u;simp[d,hs,a,ad];refine Go.al.e2 u ?_
 by_cases n:t.on (vP (b.sp k).pt)<0
 ·rw[if_pos n]at ev;rw[e (by rw[ev];decide),ev];simp[n,ad]
 rw[if_neg n]at ev;simp[n,ad];refine lp (α:=Nat) (fun j=>⟨[(8,.p (.int .i64 j)),(5,.p (.int .i64 k)),(2,.ptr 0 []),(1,.p (.seq (b.aC.map dv)))],[.box false (.p (cN t))]⟩) (fun j=>j<=k/\(b.aC.take j).any (fun o=>decide (sR t.b7 (vP o.pt) (vP (b.sp k).pt)<0))=false) (fun j=>k-j) 0 (by simp) ?_;rintro j ⟨O,w⟩
 by_cases c:j<k
 ·have r:j<b.aC.length:=by omega
  have f:=aw.gH r;have F:=cH (i:=j) (by omega);obtain⟨L,K⟩:=DG (M j c);have q:=Qg t (vP (b.sp j).pt) (vP (b.sp k).pt) (by omega) (by omega) K ok;rw[pl,L]at q
  by_cases h:sR t.b7 (vP (b.sp j).pt) (vP (b.sp k).pt)<0
  ·rw[if_pos (Eo f c (by simp[h]))]at ev;rw[e (by rw[ev];decide),ev];simp[hs,c,r,f,a,ad];refine Go.al.e3 q ?_;simp[h,ad]
  ·simp[hs,c,r,f,a,ad];refine Go.al.e3 q ?_;simp[h,F,ad];exact rd (j+1) ⟨c,by rw[tF f,w];simp[h]⟩
 have:j=k:=by omega
 subst this;rw[w,if_neg (by decide)]at ev;simp[d0,D,ad];exact rd (j+1) ⟨hs,H ev⟩
theorem Qf(t b:aw)(a:kH t)(c:tN b):az prog 36 [cN t,.seq (b.aC.map dv)] (.int .i64 (pc t b)):=by
 have k1:=PF t a;refine aM nf NT mix (by simp[f36]) ?_;rw[pc]
 by_cases h:er t=0
 ·rw[if_neg (by simp[h])];have k2:=Qi t b h c a.cl;rw[h]at k1;simp[f36,ad];refine Go.al.c1 k1 ?_;simp[ad];refine Go.al.c2 k2 ?_;simp[ad]
 ·rw[if_pos h];generalize er t=e at*;simp[f36,ad];refine Go.al.c1 k1 ?_;simp[h,ad]
theorem FM(v w:NV)(a:cr kQ v.q)(b:cr kQ w.q):az prog 108 [dF v,dF w] (eF (v.dot w)):=by
 have c:=oC v.x w.x (eD a.1) (eD b.1);have d:=oC v.y w.y (eD a.2) (eD b.2);have e:=vw (v.x.mul w.x) (v.y.mul w.y) ((iU a.1 b.1).mono (by decide)) ((iU a.2 b.2).mono (by decide));refine aM nf Ep mix (by simp[f108]) ?_;rw[NV.dot];simp[f108,ad];refine e2 c ?_;simp[ad];refine e2 d ?_;simp[ad];refine e2 e ?_;simp[ad]
def OK(p:dN):Prop:=qU p/\dA p.pt=0
theorem aw.wx(t:aw)(v:V2):∀m,t.jr v m<=0↔∃i,i<m/\t.side i v<=0
 |0=>⟨fun h=>by have:t.jr v 0=1:=rfl;omega,fun⟨i,h,_⟩=>by omega⟩
 |m+1=>by
  rw[aw.tG];have c:=aw.wx t v m;constructor
  ·intro h;rcases Int.lt_or_le 0 (t.jr v m)with b|b
   ·exact⟨m,by omega,by omega⟩
   ·obtain⟨i,d,a⟩:=c.1 b;exact⟨i,by omega,a⟩
  ·rintro⟨i,d,a⟩
   by_cases e:i=m
   ·subst e;omega
   ·have:=c.2 ⟨i,by omega,a⟩;omega
def C0(l:List dN)(n:List Nat):Option dN:=l.find? (fun s=>decide (s.name=n))
structure OL(b:aw):Prop where
 sl:b.aC.length<=24
 sp:∀s∈b.aC,OK s
 ne:∀i,i<b.aC.length->C0 (b.aC.take i) (b.sp i).name=none
theorem azV{t b:aw}(l:tN b)(h:pc t b=0):er t=0/\OL b/\(∀s∈b.aC,0<=t.on (vP s.pt)):=by
 rw[pc]at h
 by_cases c:er t=0
 case neg=>rw[if_pos c]at h;exact absurd h c
 rw[if_neg (by simp[c]),v7]at h
 by_cases f:24<b.aC.length
 ·rw[if_pos f]at h;omega
 rw[if_neg f]at h;have k:=rk.1 h;have d:∀i,i<b.aC.length->iQ t (b.aC.take i) (b.sp i)=0:=fun i hi=>by
  have:=k i hi
  rwa [gR,aw.gH hi]at this
 refine⟨c,⟨by omega,fun s hs=>?_,fun i hi=>?_⟩,fun s hs=>?_⟩
 ·obtain⟨j,a,rfl⟩:=bk.1 hs;rw[aw.tt a];exact⟨l.sp _ (bb (aw.gH a)),E0 (d j a)⟩
 ·have:=d i hi;rw[iQ]at this
  split at this
  ·omega
  split at this
  ·omega
  rename_i g;rw[C0,List.find?_eq_none];intro x hx e;exact g (bo.2 ⟨x,hx,e⟩)
 ·obtain⟨j,a,rfl⟩:=bk.1 hs;rw[aw.tt a];have:=d j a;rw[iQ]at this
  split at this
  ·omega
  split at this
  ·omega
  split at this
  ·contradiction
  split at this
  ·omega
  omega
def hasB(b:aw)(name:List Nat)(i:Nat):Prop:=my b name=i/\i<b.aC.length/\C0 b.aC name=some (b.sp i)
structure OM(t b:aw)(CT CL:List Nat)(i j:Nat):Prop where
 rh:er t=0
 tl:t.cs.length<=1000000
 L:OL b
 Wh:∀s∈b.aC,cr 60 (vP s.pt)
 ci:hasB b CT i
 bj:hasB b CL j
theorem OM.at{t b:aw}{CT CL:List Nat}{i j:Nat}(h:OM t b CT CL i j){k:Nat}(hk:k<b.aC.length):eV (vP (b.sp k).pt)=ff (b.sp k).pt/\cr 60 (vP (b.sp k).pt):=by
 have m:=bb (aw.gH hk);exact⟨(DG (h.L.sp _ m).2).1,h.Wh _ m⟩
def re(n:Nat)(l:List dN):Bool:=!((decide (n<l.length)&&decide (l.length<=24))||decide (26<l.length))&&l.all gI
theorem Qd(b:aw)(n:Nat)(v:b.aC.length<=1000000)(w:n<=1000):az prog 32 [.seq (b.aC.map dv),.int .i64 n] (.bool (re n b.aC)):=by
 refine aM nf NQ mix (by simp[f32]) ?_;have o:re n b.aC=(!((decide (n<b.aC.length)&&decide (b.aC.length<=24))||decide (26<b.aC.length))&&b.aC.all gI):=rfl;have tail:(n<b.aC.length->¬b.aC.length<=24)->¬26<b.aC.length->re n b.aC=b.aC.all gI:=fun d a=>by
  rw[o]
  by_cases h:n<b.aC.length
  ·have:=d h;simp[h,this,a]
  ·simp[h,a]
 have loop:(n<b.aC.length->¬b.aC.length<=24)->¬26<b.aC.length->∀i,i<b.aC.length->(gI (b.sp i)=false->re n b.aC=false):=fun d a i hi h=>by
  rw[tail d a];exact iA (aw.gH hi) h
 generalize re n b.aC=R at*
 by_cases c1:n<b.aC.length/\b.aC.length<=24
 ·have z:(n:Int)<b.aC.length:=by omega
  have e:(b.aC.length:Int)<=24:=by omega
  have l:R=false:=by rw[o];simp[c1]
  simp[f32,ad,c1.1,e,l]
 by_cases c2:26<b.aC.length
 ·have g:(26:Int)<b.aC.length:=by omega
  have e:¬(b.aC.length:Int)<=24:=by omega
  have l:R=false:=by rw[o];simp[c2]
  by_cases c3:n<b.aC.length
  ·simp[f32,ad,c3,e,g,l]
  ·simp[f32,ad,c3,g,l]
 have g:¬(26:Int)<b.aC.length:=by omega
 have tl:=tail (fun d a=>c1 ⟨d,a⟩) c2;have j:=loop (fun d a=>c1 ⟨d,a⟩) c2;clear tail loop o
 by_cases c3:n<b.aC.length
 all_goals
  have e:n<b.aC.length->¬(b.aC.length:Int)<=24:=fun h=>by omega
  first
  |(have e:=e c3;simp[f32,ad,c3,e,g])
  |simp[f32,ad,c3,g]
  refine lp (α:=Nat) (fun i=>⟨[(5,.p (.int .i64 i)),(0,.p (.seq (b.aC.map dv)))],[]⟩) (fun i=>i<=b.aC.length/\(b.aC.take i).all gI=true) (fun i=>b.aC.length-i) 0 (by simp) ?_;rintro i ⟨k1,k2⟩
  by_cases hi:i<b.aC.length
  ·have c:=aw.gH hi;have u:=cH (i:=i) (by omega);have k:=lN (b.sp i).pt.x 40;have q:=lN (b.sp i).pt.y 40;have m:gI (b.sp i)=(decide ((b.sp i).name.length<=40)&&(decide ((b.sp i).pt.x.length<=40)&&decide ((b.sp i).pt.y.length<=40))):=rfl;have j:=j i hi
   by_cases t:(b.sp i).name.length<=40
   case neg=>
    have f:(40:Int)<(b.sp i).name.length:=by omega
    have:=j (by rw[m];simp[t]);simp[hi,c,f,this,ad]
   have f:¬(40:Int)<(b.sp i).name.length:=by omega
   by_cases a2:(b.sp i).pt.x.length<=40
   case neg=>
    have r:¬((b.sp i).pt.x.length:Int)<=40:=by omega
    rw[decide_eq_false r]at k;have:=j (by rw[m];simp[a2]);simp[hi,c,f,ad];refine Go.al.c2 k ?_;simp[this,ad]
   have r:((b.sp i).pt.x.length:Int)<=40:=by omega
   rw[decide_eq_true r]at k
   by_cases a3:(b.sp i).pt.y.length<=40
   case neg=>
    have s:¬((b.sp i).pt.y.length:Int)<=40:=by omega
    rw[decide_eq_false s]at q;have:=j (by rw[m];simp[a3]);simp[hi,c,f,ad];refine Go.al.c2 k ?_;simp[hi,c,ad];refine Go.al.c2 q ?_;simp[this,ad]
   have s:((b.sp i).pt.y.length:Int)<=40:=by omega
   rw[decide_eq_true s]at q;simp[hi,c,f,ad];refine Go.al.c2 k ?_;simp[hi,c,ad];refine Go.al.c2 q ?_;simp[u,ad];exact rd (i+1) ⟨hi,by rw[nF c,k2,m];simp[t,a2,a3]⟩
  ·have:i=b.aC.length:=by omega
   subst this;rw[a8]at k2;rw[tl,k2];simp
def oT(p:fy)(D:Nat):Bool:=eZ p.x D&&eZ p.y D
def yW(t b:aw)(n D:Nat):Bool:=
 mA t&&(re n b.aC&&(decide (b.aC.length<=n)&&(decide (pc t b=0)&&(decide (t.aC.length<=8)&&(t.ba.all (fun p=>eZ p.a D&&eZ p.b D)&&(t.aC.all (fun s=>oT s.pt D)&&b.aC.all (fun s=>oT s.pt D)))))))
theorem Ws(t b:aw)(n D:Nat)(J:kH t)(H:tN b)(I:n<=1000)(N:D<=1000):az prog 53 [cN t,.seq (b.aC.map dv),.int .i64 n,.int .i64 D] (.bool (yW t b n D)):=by
 obtain⟨C,E,F,A,B⟩:=J;obtain⟨G,z⟩:=H;have j:=P1 t C E F;have l:=Qd b n G I;have M:=Qf t b ⟨C,E,F,A,B⟩ ⟨G,z⟩;refine aM nf NY mix (by simp[f53]) ?_;rw[yW];generalize pc t b=e at*;cases v:mA t
 ·rw[v]at j;simp[f53,ad];refine Go.al.c1 j ?_;simp[ad]
 rw[v]at j;cases w:re n b.aC
 ·rw[w]at l;simp[f53,ad];refine Go.al.c1 j ?_;simp[ad];refine Go.al.c2 l ?_;simp[ad]
 rw[w]at l;simp[f53,ad];refine Go.al.c1 j ?_;simp[ad];refine Go.al.c2 l ?_
 by_cases m:b.aC.length<=n
 case neg=>
  have r:n<b.aC.length:=by omega
  simp[m,r,ad]
 have r:¬n<b.aC.length:=by omega
 simp[m,r,ad];refine Go.al.c2 M ?_
 by_cases k:e=0
 case neg=>simp[k,ad]
 by_cases o:t.aC.length<=8
 case neg=>
  have u:(8:Int)<t.aC.length:=by omega
  simp[k,o,u,ad]
 have u:¬(8:Int)<t.aC.length:=by omega
 simp[k,o,u,ad];refine lp (α:=Nat) (fun i=>⟨[(9,.p (.int .i64 i)),(4,.ptr 0 []),(3,.p (.int .i64 D)),(1,.p (.seq (b.aC.map dv)))],[.box false (.p (cN t))]⟩) (fun i=>i<=t.ba.length/\(t.ba.take i).all (fun p=>eZ p.a D&&eZ p.b D)=true) (fun i=>t.ba.length-i) 0 (by simp) ?_;rintro i ⟨i1,i2⟩
 by_cases hi:i<t.ba.length
 ·have c:=aw.kz hi;have g:=cH (i:=i) (by omega);obtain⟨_,K,L⟩:=A _ (bb c);have d:=vz (t.pk i).a D K (by omega);have f2:=vz (t.pk i).b D L (by omega);have bad:(eZ (t.pk i).a D&&eZ (t.pk i).b D)=false->t.ba.all (fun p=>eZ p.a D&&eZ p.b D)=false:=fun h=>iA c h;cases f:eZ (t.pk i).a D
  ·rw[f]at d;rw[bad (by rw[f];rfl)];simp[hi,c,ad];refine Go.al.c2 d ?_;simp[ad]
  rw[f]at d;cases a2:eZ (t.pk i).b D
  ·rw[a2]at f2;rw[bad (by rw[a2];simp)];simp[hi,c,ad];refine Go.al.c2 d ?_;simp[hi,c,ad];refine Go.al.c2 f2 ?_;simp[ad]
  rw[a2]at f2;simp[hi,c,ad];refine Go.al.c2 d ?_;simp[hi,c,ad];refine Go.al.c2 f2 ?_;simp[g,ad];exact rd (i+1) ⟨hi,by rw[nF c,i2,f,a2];rfl⟩
 have:i=t.ba.length:=by omega
 subst this;rw[a8]at i2;rw[i2];clear i1 i2 hi;simp[ad];refine lp (α:=Nat) (fun i=>⟨[(10,.p (.int .i64 i)),(4,.ptr 0 []),(3,.p (.int .i64 D)),(1,.p (.seq (b.aC.map dv)))],[.box false (.p (cN t))]⟩) (fun i=>i<=t.aC.length/\(t.aC.take i).all (fun s=>oT s.pt D)=true) (fun i=>t.aC.length-i) 0 (by simp) ?_;rintro i ⟨i1,i2⟩
 by_cases hi:i<t.aC.length
 ·have c:=aw.gH hi;have g:=cH (i:=i) (by omega);have d:=Jb (t.sp i).pt D (B _ (bb c)).2 (by omega);have q:oT (t.sp i).pt D=(eZ (t.sp i).pt.x D&&eZ (t.sp i).pt.y D):=rfl;rw[<-q]at d;cases f:oT (t.sp i).pt D
  ·rw[f]at d;rw[iA c f];simp[hi,c,ad];refine Go.al.c2 d ?_;simp[ad]
  rw[f]at d;simp[hi,c,ad];refine Go.al.c2 d ?_;simp[g,ad];exact rd (i+1) ⟨hi,by rw[nF c,i2,f];rfl⟩
 have:i=t.aC.length:=by omega
 subst this;rw[a8]at i2;rw[i2];clear i1 i2 hi;simp[ad];refine lp (α:=Nat) (fun i=>⟨[(11,.p (.int .i64 i)),(3,.p (.int .i64 D)),(1,.p (.seq (b.aC.map dv)))],[]⟩) (fun i=>i<=b.aC.length/\(b.aC.take i).all (fun s=>oT s.pt D)=true) (fun i=>b.aC.length-i) 0 (by simp) ?_;rintro i ⟨i1,i2⟩
 by_cases hi:i<b.aC.length
 ·have c:=aw.gH hi;have g:=cH (i:=i) (by omega);have d:=Jb (b.sp i).pt D (z _ (bb c)).2 (by omega);have q:oT (b.sp i).pt D=(eZ (b.sp i).pt.x D&&eZ (b.sp i).pt.y D):=rfl;rw[<-q]at d;cases f:oT (b.sp i).pt D
  ·rw[f]at d;rw[iA c f];simp[hi,c,ad];refine Go.al.c2 d ?_;simp[ad]
  rw[f]at d;simp[hi,c,ad];refine Go.al.c2 d ?_;simp[g,ad];exact rd (i+1) ⟨hi,by rw[nF c,i2,f];rfl⟩
 have:i=b.aC.length:=by omega
 subst this;rw[a8]at i2;rw[i2];simp[m,k,o,ad]
theorem FN(s:List Nat):(cF s).length<=s.length:=by
 rw[cF];split<;>simp
theorem zR{s:List Nat}(h:bI s=0)(b:s.length<=40):bE 133 (aL s):=by
 obtain⟨l,g,i⟩:=fX h;have c:(10:Nat)^40<=2^133:=by decide
 unfold bI at h
 split at h
 ·cases h
 rename_i a;have a:jm s=true:=by simpa using a
 simp only[jm,a1,Bool.or_eq_true,decide_eq_true_eq]at a;obtain⟨⟨d,_⟩,a3⟩:=a;have j:(bA s).length<=40:=b0 (nZ 47 (cF s)).1 (b0 (FN s) b);have k:(bJ s).length<=40:=b0 (nZ 47 (cF s)).2.1 (b0 (FN s) b);have f:=b1 (yR j (iH d)) c;refine⟨?_,?_⟩
 ·rw[g];have e:(if bP s=true then -(aV (bA s):Int)else aV (bA s)).natAbs=aV (bA s):=by split<;>omega
  rw[e];exact f
 ·rw[i]
  by_cases hf:dP s=true
  ·rw[if_pos hf];rcases a3 with a3|a3
   ·rw[hf]at a3;cases a3
   ·exact b1 (yR k (iH a3.1.1)) c
  ·rw[if_neg hf];decide
def fE(f:Nat->Bool):Nat->Nat
 |0=>0
 |n+1=>if fE f n<n then fE f n else if f n=true then n else n+1
theorem zQ(f:Nat->Bool):∀n,fE f n<=n/\(∀i,i<fE f n->f i=false)/\(fE f n<n->f (fE f n)=true)
 |0=>⟨b3 _,fun i h=>absurd h (b2 _),fun h=>absurd h (b2 _)⟩
 |n+1=>by
  obtain⟨g,a,b⟩:=zQ f n;rw[fE]
  by_cases c:fE f n<n
  ·rw[if_pos c];exact⟨by omega,a,fun _=>b c⟩
  ·rw[if_neg c];have e:fE f n=n:=by omega
   rw[e]at a
   by_cases d:f n=true
   ·rw[if_pos d];exact⟨by omega,a,fun _=>d⟩
   ·rw[if_neg d];refine⟨b3 _,fun i hi=>?_,fun h=>absurd h (Nat.lt_irrefl _)⟩
    by_cases e2:i=n
    ·rw[e2];simpa using d
    ·exact a i (by omega)
def aw.cd(t:aw)(i:Nat)(s:Rat):V2:=(c8 (t.at i)).add ((t.dW i).mul s)
theorem zS{t:aw}(a:∀p∈t.cs,eH p){i k:Nat}{s:Rat}(hi:i<t.cs.length)(hs:bE k s):cr (k+44) (t.cd i s):=by
 have:=azX (jd (aw.fx a hi)) (DM (aw.okW a hi) hs);exact this.mono (by omega)
def aw.shr(t:aw)(i:Nat)(v:V2):Rat:=((v.sub (c8 (t.at i))).dot (t.dW i))/((t.dW i).dot (t.dW i))
theorem WU(v w:NV)(a:cr kQ v.q)(b:cr kQ w.q):az prog 90 [dF v,dF w] (dF (v.add w)):=by
 have c:=vw v.x w.x (eD a.1) (eD b.1);have d:=vw v.y w.y (eD a.2) (eD b.2);refine aM nf Ov mix (by simp[f90]) ?_;rw[NV.add,rr];simp[f90,ad];refine e2 c ?_;simp[ad];refine e2 d ?_;simp[ad]
theorem Qz(v:NV)(x:NF)(a:cr kQ v.q)(hx:bE kQ x.q):az prog 92 [dF v,eF x] (dF (v.times x)):=by
 have b:=oC v.x x (eD a.1) (eD hx);have c:=oC v.y x (eD a.2) (eD hx);refine aM nf Ox mix (by simp[f92]) ?_;rw[NV.times,rr];simp[f92,ad];refine e2 b ?_;simp[ad];refine e2 c ?_;simp[ad]
theorem Qr(v:NV)(h:cr 1800 v.q):az prog 94 [dF v] (.aE [eV v.q,.int .i64 0]):=by
 have a:=xQ v.x (h.1.mono (by decide));have b:=xQ v.y (h.2.mono (by decide));rw[De (show bE 1800 v.x.q from h.1)]at a;rw[De (show bE 1800 v.y.q from h.2)]at b;have c:=xJ v.x (h.1.mono (by decide));have d:=xJ v.y (h.2.mono (by decide));obtain⟨x,y⟩:=v;refine aM nf Oz mix (by simp[f94]) ?_;rw[rr,show eV (NV.q ⟨x,y⟩)=eV ⟨x.q,y.q⟩from rfl,CU];simp[f94,ad];refine Go.al.c1 a ?_;simp[ad];refine Go.al.c1 b ?_;simp[ad];refine Go.al.e1 c ?_;simp[ad];refine Go.al.e1 d ?_;simp[ad]
theorem WT(x:NF)(h:bE 1800 x.q):az prog 72 [eF x] (.aE [.str (bf x.q),.int .i64 0]):=by
 have a:=xQ x (h.mono (by decide));rw[De h]at a;have b:=xJ x (h.mono (by decide));refine aM nf Oa mix (by simp[f72]) ?_;simp[f72,ad];refine Go.al.c1 a ?_;simp[ad];refine Go.al.c1 b ?_;simp[ad]
def kJ(t:aw)(e:Int)(s:List Nat):Int:=bN [er t,bt (decide (e<0\/(t.cs.length:Int)<=e)) 10,bI s]
def lQ(t:aw)(e:Int)(s:List Nat):Int:=if kJ t e s=0 then dB (aL s)else kJ t e s
theorem FX{t:aw}{e:Int}{s:List Nat}(h:kJ t e s=0):er t=0/\0<=e/\e<t.cs.length/\bI s=0:=by
 rw[kJ,kY]at h;have a:=h (bt (decide (e<0\/(t.cs.length:Int)<=e)) 10) (by simp)
 by_cases c:e<0\/(t.cs.length:Int)<=e
 ·simp[bt,c]at a
 ·exact⟨h _ (by simp),by omega,by omega,h _ (by simp)⟩
theorem Qu{t:aw}{e:Int}{s:List Nat}(h:lQ t e s=0):kJ t e s=0/\dB (aL s)=0:=by
 rw[lQ]at h
 split at h
 ·exact⟨by assumption,h⟩
 ·contradiction
theorem Qs(t:aw)(e:Int)(s:List Nat)(l:kH t)(hs:fB s):az prog 88 [dH t,.int .i64 e,.str s] (.int .i64 (lQ t e s)):=by
 have k1:=zB t l;have k2:=fun b=>iO b 10;have k3:=vt s hs.1 hs.2;have k4:=nE [er t,bt (decide (e<0\/(t.cs.length:Int)<=e)) 10,bI s] (by simp);rw[show bN [er t,bt (decide (e<0\/(t.cs.length:Int)<=e)) 10,bI s]=kJ t e s from rfl]at k4;have k5:=fun h:kJ t e s=0=>zC s hs (FX h).2.2.2;have i:∀b:Bool,decide (e<0\/(t.cs.length:Int)<=e)=b->az prog 79 [.bool b,.int .i64 10] (.int .i64 (bt b 10))/\az prog 78 [.seq [.int .i64 (er t),.int .i64 (bt b 10),.int .i64 (bI s)]] (.int .i64 (kJ t e s)):=fun b k=>by
  rw[k]at k4;exact⟨k2 b,by simpa using k4⟩
 rw[lQ];clear k4 k2;generalize kJ t e s=g at*;generalize er t=m at*;generalize bI s=n at*;generalize dB (aL s)=o at*;refine aM nf Ot mix (by simp[f88]) ?_;simp[f88,ad];refine Go.al.c1 k1 ?_;simp[ad]
 by_cases c:e<0
 ·have d:¬0<=e:=by omega
  obtain⟨f1,f2⟩:=i true (by simp[c]);simp[c,d,ad];refine Go.al.c2 f1 ?_;simp[ad];refine Go.al.c1 k3 ?_;simp[ad];refine cp f2 (by simp;first|exact⟨rfl,rfl⟩|rfl) ?_
  by_cases a:g=0
  case neg=>simp[a,ad]
  simp[a,ad];refine Go.al.c1 (k5 a) ?_;simp[a,ad]
 have d:0<=e:=by omega
 by_cases f:(t.cs.length:Int)<=e
 ·have j:¬e<t.cs.length:=by omega
  obtain⟨f1,f2⟩:=i true (by simp[c,f]);simp[c,d,f,j,ad];refine Go.al.c2 f1 ?_;simp[ad];refine Go.al.c1 k3 ?_;simp[ad];refine cp f2 (by simp;first|exact⟨rfl,rfl⟩|rfl) ?_
  by_cases a:g=0
  case neg=>simp[a,ad]
  simp[a,ad];refine Go.al.c1 (k5 a) ?_;simp[a,ad]
 ·have j:e<t.cs.length:=by omega
  obtain⟨f1,f2⟩:=i false (by simp[c,f]);simp[c,d,f,j,ad];refine Go.al.c2 f1 ?_;simp[ad];refine Go.al.c1 k3 ?_;simp[ad];refine cp f2 (by simp;first|exact⟨rfl,rfl⟩|rfl) ?_
  by_cases a:g=0
  case neg=>simp[a,ad]
  simp[a,ad];refine Go.al.c1 (k5 a) ?_;simp[a,ad]
noncomputable def aw.vr(t:aw)(i:Nat)(s:List Nat):NV:=(cm (t.at i)).add ((t.de i).times ⟨aL s,false⟩)
theorem aw.KQ(t:aw)(i:Nat)(s:List Nat):(t.vr i s).q=t.cd i (aL s):=by
 rw[aw.vr,NV.F6,NV.D5,aw.rq,OX];rfl
theorem M6(t:aw)(e:Int)(s:List Nat)(j:kH t)(hs:fB s)(v:s.length<=40):az prog 18 [dH t,.int .i64 e,.str s] (.aE (if lQ t e s=0 then[eV (t.cd e.toNat (aL s)),.int .i64 0]else[zF,.int .i64 (lQ t e s)])):=by
 have k1:=Qs t e s j hs
 by_cases h:lQ t e s=0
 case neg=>
  rw[if_neg h,zF];generalize lQ t e s=x at*;refine aM nf C7 mix (by simp[f18]) ?_;simp[f18,ad];refine Go.al.c3 k1 ?_;simp[h,ad]
 rw[if_pos h];rw[h]at k1;obtain⟨g1,g2⟩:=Qu h;obtain⟨p,z,A,g⟩:=FX g1;obtain⟨B,C,a,_⟩:=tE p;obtain⟨i,rfl⟩:∃i:Nat,e=i:=⟨e.toNat,by omega⟩
 have hi:i<t.cs.length:=by omega
 rw[show((i:Int)).toNat=i from by omega];have l:=jd (aw.fx a hi);have y:=jd (aw.fx a (t.jz (by omega) i));have b:=zR g v;have k:cr 29 (t.de i).q:=by rw[aw.rq];exact aw.okW a hi
 have m:=FL t i hi j.cl a;have c:=tM (cm (t.at (t.nx i))) (cm (t.at i)) (y.mono (by decide)) (l.mono (by decide));rw[show(cm (t.at (t.nx i))).sub (cm (t.at i))=t.de i from rfl]at c;have n:=lE s g hs.1;have o:=Qz (t.de i) ⟨aL s,false⟩ (k.mono (by decide)) (b.mono (by decide));have d:=WU (cm (t.at i)) ((t.de i).times ⟨aL s,false⟩) (l.mono (by decide)) (by rw[NV.D5];exact(DM k b).mono (by decide));rw[show(cm (t.at i)).add ((t.de i).times ⟨aL s,false⟩)=t.vr i s from rfl]at d;have f:=Qr (t.vr i s) (by rw[aw.KQ];exact(zS a hi b).mono (by decide));rw[aw.KQ]at f;generalize t.cd i (aL s)=r at*;generalize t.vr i s=D at*;generalize (t.de i).times ⟨aL s,false⟩=u at*;generalize t.de i=w at*;generalize (NF.mk (aL s) false)=E at*;refine aM nf C7 mix (by simp[f18]) ?_;simp[f18,ad];refine Go.al.c3 k1 ?_;simp[ad];refine Go.al.c2 m ?_;simp[nu,ad];refine Go.al.e2 c ?_;simp[ad];refine Go.al.e1 n ?_;simp[ad];refine Go.al.e2 o ?_;simp[ad];refine Go.al.e2 d ?_;simp[ad];refine Go.al.e1 f ?_;simp[ad]
theorem WQ(t:aw)(p:fy)(b:kH t)(a:lI p):az prog 49 [dH t,ff p] (.aE [.int .i64 (if iZ t p=0 then t.on (vP p)else 0),.int .i64 (iZ t p)]):=by
 have k1:=zB t b;have k2:=wz p a;have k3:=nE [er t,dA p] (by simp);simp only[bv,bi]at k3;rw[show bN [er t,dA p]=iZ t p from rfl]at k3;have k4:iZ t p=0->az prog 107 [ff p] (dF (.from p))/\az prog 118 [dH t,dF (.from p)] (.int .i64 (t.on (vP p))):=fun h=>by
  obtain⟨f,z2⟩:=DW h;obtain⟨g,i,c,_⟩:=tE f;obtain⟨g1,g2⟩:=nY z2;have:=M7 t (.from p) b.cl c (zV ⟨(gn g1).mono (by decide),(gn g2).mono (by decide)⟩);rw[Cw]at this;exact⟨CO p g1 g2 a,this⟩
 generalize iZ t p=E at*;generalize er t=l at*;generalize dA p=m at*;generalize t.on (vP p)=n at*;generalize NV.from p=v at*;obtain⟨j,k⟩:=p;simp only[ff]at*;refine aM nf NX mix (by simp[f49]) ?_;simp[f49,ad];refine Go.al.e1 k1 ?_;simp[ad];refine Go.al.e1 k2 ?_;simp[ad];refine ep k3 (by simp;first|exact⟨rfl,rfl⟩|rfl) (by simp;first|exact⟨rfl,rfl⟩|rfl) ?_;simp[ad];refine⟨by repeat' first|rfl|apply aT,?_⟩
 by_cases h:E=0
 case neg=>simp[h,ad]
 obtain⟨d,e⟩:=k4 h;simp[h,ad];refine Go.al.e1 d ?_;simp[ad];refine Go.al.e2 e ?_;simp[h,ad]
theorem azS{t b:aw}(d:tN b)(h:pc t b=0):er t=0/\(∀o∈b.aC,OK o):=by
 obtain⟨a,c,_⟩:=azV d h;exact⟨a,c.sp⟩
def aw.pv(t:aw)(i:Nat):Nat:=(i+t.cs.length-1)% t.cs.length
theorem zT{q:Rat}(h:dB q=0):0<=q/\q<=1:=by
 rw[dB]at h
 split at h
 ·cases h
 rename_i c;have c1:¬dx q<0:=fun h=>c (.inl h);have c2:¬0<du q 1:=fun h=>c (.inr h);constructor
 ·apply b5.1;intro hq;rw[aCq hq]at c1;exact c1 (by decide)
 ·apply b5.1;intro hq;rw[aAe hq]at c2;exact c2 (by decide)
theorem aDp{n a b:Nat}(h:3<=n):∃k,k<n/\k≠a/\k≠b:=by
 by_cases c:0≠a/\0≠b
 ·exact⟨0,by omega,c.1,c.2⟩
 ·by_cases d:1≠a/\1≠b
  ·exact⟨1,by omega,d.1,d.2⟩
  ·exact⟨2,by omega,by omega,by omega⟩
theorem zO{t:aw}(e:3<=t.cs.length)(hc:t.dS=true){i:Nat}(hi:i<t.cs.length):(t.dW i).dot (t.dW i)≠0:=by
 intro h;obtain⟨c,d⟩:=aCK h;obtain⟨k,k1,k2,k3⟩:=aDp (a:=i) (b:=t.nx i) e;rw[aw.dS,decide_eq_true_eq]at hc;have:=hc i hi k k1 k2 k3;simp only[aw.dW,V2.sub,c8]at c d;have e1:(t.at (t.nx i)).x=(t.at i).x:=by
  have:(((t.at (t.nx i)).x:Int):Rat)=(((t.at i).x:Int):Rat):=by grind
  exact cb.1 this
 have e2:(t.at (t.nx i)).y=(t.at i).y:=by
  have:(((t.at (t.nx i)).y:Int):Rat)=(((t.at i).y:Int):Rat):=by grind
  exact cb.1 this
 rw[hJ,e1,e2]at this;simp at this
def gf(t:aw)(v:V2)(i:Nat):Bool:=decide (t.side i v=0)&&decide (dB (t.shr i v)=0)
theorem azW{t:aw}{v:V2}{i:Nat}(b:∀p∈t.cs,eH p)(hi:i<t.cs.length)(c:cr 300 v):bE 1000 (t.shr i v):=by
 have a:=aw.okW b hi;exact(Va (rD (kx c (jd (aw.fx b hi))) a) (rD a a)).mono (by decide)
noncomputable def aw.kC(t:aw)(i:Nat)(v:NV):NF:=((v.sub (cm (t.at i))).dot (t.de i)).div ((t.de i).dot (t.de i))
theorem NV.tS(v w:NV):(v.dot w).q=v.q.dot w.q:=rfl
theorem aw.wu(t:aw)(i:Nat)(v:NV):(t.kC i v).q=t.shr i v.q:=by
 show((v.sub (cm (t.at i))).dot (t.de i)).q/((t.de i).dot (t.de i)).q=_;rw[NV.tS,NV.tS,NV.lD,aw.rq,OX];rfl
theorem Qt{t:aw}{v:NV}{i:Nat}(a:∀p∈t.cs,eH p)(m:3<=t.cs.length)(hc:t.dS=true)(b:cr 300 v.q)(hi:i<t.cs.length):
 az prog 91 [dF (cm (t.at (t.nx i))),dF (cm (t.at i))] (dF (t.de i))/\
 az prog 91 [dF v,dF (cm (t.at i))] (dF (v.sub (cm (t.at i))))/\
 az prog 108 [dF (v.sub (cm (t.at i))),dF (t.de i)] (eF ((v.sub (cm (t.at i))).dot (t.de i)))/\
 az prog 108 [dF (t.de i),dF (t.de i)] (eF ((t.de i).dot (t.de i)))/\
 az prog 73 [eF ((v.sub (cm (t.at i))).dot (t.de i)),eF ((t.de i).dot (t.de i))] (eF (t.kC i v))/\
 az prog 71 [dF (t.de i),dF (v.sub (cm (t.at i)))] (eF ((t.de i).fj (v.sub (cm (t.at i)))))/\
 az prog 109 [eF ((t.de i).fj (v.sub (cm (t.at i))))] (.int .i64 (t.side i v.q))/\
 az prog 109 [eF (t.kC i v)] (.int .i64 (dx (t.shr i v.q)))/\
 az prog 110 [eF (t.kC i v),eF (.int 1)] (.int .i64 (du (t.shr i v.q) 1))/\
 az prog 72 [eF (t.kC i v)] (.aE [.str (bf (t.shr i v.q)),.int .i64 0]):=by
 have c:=jd (aw.fx a hi);have r:=jd (aw.fx a (t.jz (by omega) i));have q1:cr 29 (t.de i).q:=by rw[aw.rq];exact aw.okW a hi
 have d:cr 315 (v.sub (cm (t.at i))).q:=by rw[NV.lD];exact kx b c
 have e:=vc ((t.de i).fj (v.sub (cm (t.at i))));have k:dx ((t.de i).fj (v.sub (cm (t.at i)))).q=t.side i v.q:=by rw[NV.DV,NV.lD,aw.rq];rfl
 rw[dx]at k;rw[k]at e;have f:=vc (t.kC i v);have j:dx (t.kC i v).q=dx (t.shr i v.q):=by rw[aw.wu]
 rw[dx]at j;rw[j]at f;have l:bE 1000 (t.kC i v).q:=by rw[aw.wu];exact azW a hi b
 have g:=sT (t.kC i v) (.int 1) (l.mono (by decide)) (show bE kB 1 from⟨by decide+kernel,by decide+kernel⟩);rw[aw.wu,show(NF.int 1).q=1 from rfl]at g;have h:=WT (t.kC i v) (l.mono (by decide));rw[aw.wu]at h;have n:bE 700 ((v.sub (cm (t.at i))).dot (t.de i)).q:=by rw[NV.tS];exact(rD d q1).mono (by decide)
 have o:bE 700 ((t.de i).dot (t.de i)).q:=by rw[NV.tS];exact(rD q1 q1).mono (by decide)
 exact⟨tM (cm (t.at (t.nx i))) (cm (t.at i)) (r.mono (by decide)) (c.mono (by decide)),tM v (cm (t.at i)) (b.mono (by decide)) (c.mono (by decide)),
  FM _ _ (d.mono (by decide)) (q1.mono (by decide)),FM _ _ (q1.mono (by decide)) (q1.mono (by decide)),
  MN _ _ (n.mono (by decide)) (o.mono (by decide)) (by rw[NV.tS,aw.rq];exact zO m hc hi),
  Ej _ _ (q1.mono (by decide)) (d.mono (by decide)),e,f,g,h⟩
def CV(t:aw)(v:V2):List PV:=if fE (gf t v) t.cs.length<t.cs.length then[.int .i64 (fE (gf t v) t.cs.length),.str (bf (t.shr (fE (gf t v) t.cs.length) v)),.int .i64 0]else[.int .i64 0,.str [],.int .i64 7]
noncomputable def oQ(t:aw)(c d:List Nat)(b f2:Int)(v:NV)(a:Int)(s:List Nat)(L:ef):Heap:=[.box false (.p (dH t)),.box false (.p (.st 41 [.str c,.str d])),.box false (.p (.int .i64 a)),.box false (.p (.str s)),.box false (.p (.int .i64 0)),.arr .frozen 0 1 [.p (.int .i64 b),.p (.int .i64 f2)],.box false (.p (dF v)),.loop L]
theorem Dw{q:Rat}:dB q=0↔¬dx q<0/\¬0<du q 1:=by
 rw[dB]
 by_cases h:dx q<0\/0<du q 1
 ·rw[if_pos h];exact⟨fun h=>absurd h (by decide),fun⟨a,b⟩=>(h.elim a b).elim⟩
 ·rw[if_neg h];exact⟨fun _=>⟨fun a=>h (.inl a),fun b=>h (.inr b)⟩,fun _=>rfl⟩
theorem Qx(t:aw)(p:fy)(H:kH t)(z:lI p)(A:iZ t p=0->cr 300 (vP p)):az prog 28 [dH t,ff p] (.aE (if iZ t p=0 then CV t (vP p)else[.int .i64 0,.str [],.int .i64 (iZ t p)])):=by
 have k1:=zB t H;have k2:=wz p z;have k3:=nE [er t,dA p] (by simp);simp only[bv,bi]at k3;rw[show bN [er t,dA p]=iZ t p from rfl]at k3
 by_cases h:iZ t p=0
 case neg=>
  rw[if_neg h];generalize iZ t p=E at*;generalize er t=B at*;generalize dA p=C at*;obtain⟨m,n⟩:=p;simp only[ff]at*;refine aM nf C8 mix (by simp[f28]) ?_;simp[f28,ad];refine Go.al.e1 k1 ?_;simp[ad];refine Go.al.e1 k2 ?_;simp[ad];refine ep k3 (by simp;first|exact⟨rfl,rfl⟩|rfl) (by simp;first|exact⟨rfl,rfl⟩|rfl) ?_;simp[ad];refine⟨by repeat' first|rfl|apply aT,?_⟩;simp[h,ad]
 rw[if_pos h];obtain⟨K,z2⟩:=DW h;obtain⟨R,T,G,hc⟩:=tE K;obtain⟨g1,g2⟩:=nY z2;have A:cr 300 (NV.from p).q:=zV (A h);have k4:=CO p g1 g2 z;have I:=vA 1 (by decide) (by decide);have Q:=H.cl;rw[h]at k3;rw[<-Cw p];rw[CV];obtain⟨s1,s2,S⟩:=zQ (gf t (NV.from p).q) t.cs.length;have D:=fun i(hi:i<t.cs.length)=>Qt G R hc A hi;generalize fE (gf t (NV.from p).q) t.cs.length=k at*;clear K z2 g1 g2 z h;generalize er t=B at*;generalize dA p=C at*;obtain⟨m,n⟩:=p;simp only[ff]at*;generalize NV.from ⟨m,n⟩=v at*;refine aM nf C8 mix (by simp[f28]) ?_;simp[f28,ad];refine Go.al.e1 k1 ?_;simp[ad];refine Go.al.e1 k2 ?_;simp[ad];refine ep k3 (by simp;first|exact⟨rfl,rfl⟩|rfl) (by simp;first|exact⟨rfl,rfl⟩|rfl) ?_;simp[ad];refine⟨by repeat' first|rfl|apply aT,?_⟩;refine Go.al.c1 k4 ?_;simp[ad];refine c1 (FV t) ?_;simp;refine rf (FW t Q G) rfl (by simp) (fun L _=>oQ t m n B C v 0 [] L) k (by simpa using s1) (fun L=>rfl) ?_ ?_ ?_
 ·intro L g i hi;refine⟨rfl,by simp[oQ],fun _ hx=>?_⟩;simp[oQ]at hx⊢;exact hx
 ·intro L g i x hi hx;rw[tH (by omega)]at hx;injection hx with hx
  subst hx;have b:=s2 i hi;simp only[gf,Bool.and_eq_false_iff,decide_eq_false_iff_not,Dw]at b;obtain⟨u,a2,a3,a4,a5,w,y,l,a9,F⟩:=D i (by omega);refine vY nf mix g rfl rfl (by kernel_rfl) ?_;have j:=congrArg ef.env g;dsimp only at j;clear g;generalize t.kC i v=P at*;generalize (v.sub (cm (t.at i))).dot (t.de i)=N at*;generalize (t.de i).dot (t.de i)=O at*;generalize (t.de i).fj (v.sub (cm (t.at i)))=M at*;generalize v.sub (cm (t.at i))=U at*;generalize t.de i=W at*;generalize t.side i v.q=J at*;generalize t.shr i v.q=q at*;generalize dx q=r at*;generalize du q 1=s at*;simp[oQ,o9,nu,ad];refine e2 u ?_;simp[ad];refine e2 a2 ?_;simp[ad];refine⟨by repeat' first|rfl|apply aT,?_⟩;refine e2 a3 ?_;simp[ad];refine e2 a4 ?_;simp[ad];refine e2 a5 ?_;simp[ad];refine⟨by repeat' first|rfl|apply aT,?_⟩;refine e2 w ?_;simp[ad];refine e1 y ?_
  by_cases a:J=0
  case neg=>
   simp[a,ad];refine dj.og (by simp) (by simp) (by simp) (by simp) ?_;simp;exact tL j (by simp)
  have b:r<0\/0<s:=by
   rcases b with b|b
   ·exact absurd a b
   ·by_cases c:r<0
    ·exact .inl c
    ·by_cases d:0<s
     ·exact .inr d
     ·exact absurd ⟨c,d⟩ b
  by_cases f:r<0
  ·simp[a,ad];refine e1 l ?_;simp[a,f,ad];refine dj.og (by simp) (by simp) (by simp) (by simp) ?_;simp;exact tL j (by simp)
  ·have o:0<s:=b.elim (fun h=>absurd h f) id;simp[a,ad];refine e1 l ?_;simp[a,f,ad];refine e1 I ?_;simp[a,f,ad];refine e2 a9 ?_;simp[a,f,o,ad];refine dj.og (by simp) (by simp) (by simp) (by simp) ?_;simp;exact tL j (by simp)
 ·intro L g;rcases Nat.lt_or_ge k t.cs.length with hk|hk
  case inr=>
   have e:k=t.cs.length:=by omega
   refine .inl ⟨by simpa using e,?_⟩;rw[if_neg (by omega)];simp[oQ,ad]
  refine .inr ⟨o9 t k,.ret,oQ t m n B C v k (bf (t.shr k v.q)) (L.dn .ret),tH hk,rfl,?_,?_⟩
  ·have b:=S hk;simp only[gf,a1,decide_eq_true_eq,Dw]at b;obtain⟨a,f,o⟩:=b;obtain⟨u,a2,a3,a4,a5,w,y,l,a9,F⟩:=D k (by omega);refine vY nf mix g rfl rfl (by kernel_rfl) ?_;have j:=congrArg ef.env g;dsimp only at j;clear g;generalize t.kC k v=P at*;generalize (v.sub (cm (t.at k))).dot (t.de k)=N at*;generalize (t.de k).dot (t.de k)=O at*;generalize (t.de k).fj (v.sub (cm (t.at k)))=M at*;generalize v.sub (cm (t.at k))=U at*;generalize t.de k=W at*;generalize t.side k v.q=J at*;generalize t.shr k v.q=q at*;generalize dx q=r at*;generalize du q 1=s at*;simp[oQ,o9,nu,ad];refine e2 u ?_;simp[ad];refine e2 a2 ?_;simp[ad];refine⟨by repeat' first|rfl|apply aT,?_⟩;refine e2 a3 ?_;simp[ad];refine e2 a4 ?_;simp[ad];refine e2 a5 ?_;simp[ad];refine⟨by repeat' first|rfl|apply aT,?_⟩;refine e2 w ?_;simp[ad];refine e1 y ?_;simp[a,ad];refine e1 l ?_;simp[a,f,ad];refine e1 I ?_;simp[a,f,ad];refine e2 a9 ?_;simp[a,f,o,ad];refine c1 F ?_;simp[a,f,o,ad];refine dj.og (by simp) (by simp) (by simp) (by simp) ?_;simp;exact aBz j (by simp)
  ·rw[if_pos hk];simp[oQ,jl]
@[simp] theorem aIC:aJ zF=.agg 41:=rfl
theorem Dh{t:aw}{i:Nat}(hi:i<t.cs.length):t.nx i=if i+1<t.cs.length then i+1 else 0:=by
 rw[aw.nx]
 split
 ·exact Nat.mod_eq_of_lt (by omega)
 ·rw[show i+1=t.cs.length from by omega,Nat.mod_self]
def aw.gN(t:aw)(i k:Nat):Rat:=(t.dW i).fj ((c8 (t.at k)).sub (c8 (t.at i)))
theorem tT(t:aw)(i k:Nat):t.gN i k=((hJ (t.at i) (t.at (t.nx i)) (t.at k):Int):Rat):=by
 simp only[aw.gN,aw.dW,V2.fj,V2.sub,c8,hJ,Rat.intCast_sub,Rat.intCast_mul]
theorem ry{t:aw}(hc:t.dS=true){i k:Nat}(hi:i<t.cs.length)(hk:k<t.cs.length):0<=t.gN i k/\(t.gN i k=0->k=i\/k=t.nx i):=by
 rw[aw.dS,decide_eq_true_eq]at hc
 by_cases c:k=i
 ·subst c;refine⟨?_,fun _=>.inl rfl⟩;rw[tT,zD];decide
 by_cases a:k=t.nx i
 ·refine⟨?_,fun _=>.inr a⟩;rw[tT,a];have:hJ (t.at i) (t.at (t.nx i)) (t.at (t.nx i))=0:=by rw[hJ];grind
  rw[this];decide
 ·have d:=hc i hi k hk c a;have b:(0:Rat)<t.gN i k:=by
   rw[tT];exact Rat.intCast_pos.2 d
  exact⟨Rat.le_of_lt b,fun h=>by rw[h]at b;exact absurd b (by decide)⟩
theorem Qv(t:aw)(i:Nat):t.gN i i=0:=by rw[tT,zD];rfl
theorem Qw(t:aw)(i:Nat):t.gN i (t.nx i)=0:=by
 rw[tT];have:hJ (t.at i) (t.at (t.nx i)) (t.at (t.nx i))=0:=by rw[hJ];grind
 rw[this];rfl
theorem Na(t:aw)(i e:Nat)(s:Rat):(t.dW i).fj ((t.cd e s).sub (c8 (t.at i)))=(1-s)*t.gN i e+s*t.gN i (t.nx e):=by
 simp only[aw.cd,aw.gN,aw.dW,V2.fj,V2.sub,V2.add,V2.mul,c8]
 grind
theorem aCs{q:Rat}(h:0<=q):0<=dx q/\(dx q=0->q=0):=by
 rw[dx];rw[if_neg (b5.2 h)]
 split
 ·exact⟨by decide,fun _=>by assumption⟩
 ·exact⟨by decide,fun h=>by cases h⟩
theorem F3{t:aw}(hc:t.dS=true){i e:Nat}{s:Rat}(hi:i<t.cs.length)(c:e<t.cs.length)(j:3<=t.cs.length)(s0:0<=s)(k:s<=1):
 0<=t.side i (t.cd e s)/\(t.side i (t.cd e s)=0->(1-s)*t.gN i e=0/\s*t.gN i (t.nx e)=0):=by
 have d:t.nx e<t.cs.length:=t.jz (by omega) e;have a:=(ry hc hi c).1;have b:=(ry hc hi d).1;have f:0<=(1-s)*t.gN i e:=cc (by grind) a;have g:0<=s*t.gN i (t.nx e):=cc s0 b;rw[aw.side,Na];have:=aCs (q:=(1-s)*t.gN i e+s*t.gN i (t.nx e)) (by grind);exact⟨this.1,fun h=>by have:=this.2 h;constructor<;>grind⟩
theorem F1(t:aw)(e:Nat)(s:Rat):t.side e (t.cd e s)=0:=by
 rw[aw.side,Na,Qv,Qw,dx];rw[show(1-s)*0+s*0=(0:Rat)from by grind];rfl
theorem FZ{t:aw}{v:V2}:∀m,(∀i,i<m->0<=t.side i v)->0<=t.jr v m
 |0,_=>by simp[aw.jr]
 |m+1,h=>by
  rw[aw.tG];have:=FZ m (fun i hi=>h i (by omega));have:=h m (by omega);omega
theorem wx{t:aw}{v:V2}{i:Nat}(h:t.side i v<=0):∀m,i<m->t.jr v m<=0
 |0,hi=>by omega
 |m+1,hi=>by
  rw[aw.tG]
  by_cases c:i=m
  ·subst c;omega
  ·have:=wx h m (by omega);omega
theorem azY{t:aw}(hc:t.dS=true){e:Nat}{s:Rat}(a:e<t.cs.length)(b:3<=t.cs.length)(s0:0<=s)(c:s<=1):t.on (t.cd e s)=0:=by
 have d:=FZ (t:=t) (v:=t.cd e s) t.cs.length (fun i hi=>(F3 hc hi a b s0 c).1);have f:=wx (t:=t) (v:=t.cd e s) (i:=e) (by rw[F1];decide) t.cs.length a;rw[aw.on];omega
theorem wv{t:aw}(b:3<=t.cs.length)(hc:t.dS=true){e:Nat}(c:e<t.cs.length)(s:Rat):t.shr e (t.cd e s)=s:=by
 have a:=zO b hc c;rw[aw.shr];have:(((t.cd e s).sub (c8 (t.at e))).dot (t.dW e))=s*((t.dW e).dot (t.dW e)):=by
  simp only[aw.cd,V2.sub,V2.add,V2.mul,V2.dot]
  grind
 rw[this];generalize (t.dW e).dot (t.dW e)=w at*;rw[Rat.div_def,Rat.mul_assoc,Rat.mul_inv_cancel w a,Rat.mul_one]
theorem F0{t:aw}(a:3<=t.cs.length)(hc:t.dS=true){i k:Nat}(hi:i<t.cs.length)(hk:k=i\/k=t.nx i):t.shr i (c8 (t.at k))=0\/t.shr i (c8 (t.at k))=1:=by
 rcases hk with rfl|rfl
 ·left;have:=wv a hc hi 0
  rwa [show t.cd k 0=c8 (t.at k)from by simp only[aw.cd,V2.add,V2.mul];cases c8 (t.at k);simp;constructor<;>grind]at this
 ·right;have:=wv a hc hi 1
  rwa [show t.cd i 1=c8 (t.at (t.nx i))from by simp only[aw.cd,aw.dW,V2.add,V2.mul,V2.sub];cases c8 (t.at (t.nx i));simp;constructor<;>grind]at this
theorem XM{t:aw}(b:3<=t.cs.length)(hc:t.dS=true){e:Nat}{s:Rat}(a:e<t.cs.length)(hs:dB s=0):
 fE (gf t (t.cd e s)) t.cs.length<t.cs.length/\
 (s≠0->s≠1->fE (gf t (t.cd e s)) t.cs.length=e)/\
 (s=0\/s=1->t.shr (fE (gf t (t.cd e s)) t.cs.length) (t.cd e s)=0\/t.shr (fE (gf t (t.cd e s)) t.cs.length) (t.cd e s)=1):=by
 obtain⟨s0,s1⟩:=zT hs;obtain⟨f1,f2,f3⟩:=zQ (gf t (t.cd e s)) t.cs.length;have m:gf t (t.cd e s) e=true:=by
  rw[gf,F1,wv b hc a,hs];rfl
 generalize fE (gf t (t.cd e s)) t.cs.length=k at*;have hk:k<t.cs.length:=by
  by_cases c:k<t.cs.length
  ·exact c
  ·have:=f2 e (by omega);rw[m]at this;cases this
 have d:=f3 hk;simp only[gf,a1,decide_eq_true_eq]at d;obtain⟨g,z2⟩:=(F3 hc hk a b s0 s1).2 d.1;have f:t.nx e<t.cs.length:=t.jz (by omega) e;refine⟨hk,fun j l=>?_,fun i=>?_⟩
 ·have c1:t.gN k e=0:=by
   rcases b4.1 g with h|h
   ·exact absurd (by grind) l
   ·exact h
  have c2:t.gN k (t.nx e)=0:=by
   rcases b4.1 z2 with h|h
   ·exact absurd h j
   ·exact h
  have d1:=(ry hc hk a).2 c1;have d2:=(ry hc hk f).2 c2;rw[Dh a,Dh hk]at d2;rw[Dh hk]at d1
  split at d1<;>split at d2<;>omega
 ·rcases i with rfl|rfl
  ·have c1:t.gN k e=0:=by
    rcases b4.1 g with h|h
    ·exact absurd h (by decide+kernel)
    ·exact h
   have:=F0 b hc hk ((ry hc hk a).2 c1)
   rwa [show t.cd e 0=c8 (t.at e)from by simp only[aw.cd,V2.add,V2.mul];cases c8 (t.at e);simp;constructor<;>grind]
  ·have c2:t.gN k (t.nx e)=0:=by
    rcases b4.1 z2 with h|h
    ·exact absurd h (by decide+kernel)
    ·exact h
   have:=F0 b hc hk ((ry hc hk f).2 c2)
   rwa [show t.cd e 1=c8 (t.at (t.nx e))from by simp only[aw.cd,aw.dW,V2.add,V2.mul,V2.sub];cases c8 (t.at (t.nx e));simp;constructor<;>grind]
theorem aAf{t:aw}(g:3<=t.cs.length)(hc:t.dS=true){e:Nat}(h:e<t.cs.length)(a b:Rat):
 dx (((t.cd e b).sub (t.cd e a)).dot ((c8 (t.at (t.nx e))).sub (c8 (t.at e))))=du b a:=by
 have i:=zO g hc h;have f:0<(t.dW e).dot (t.dW e):=by
  have:0<=(t.dW e).dot (t.dW e):=by
   rw[V2.dot];have:=sq_nonneg (t.dW e).x;have:=sq_nonneg (t.dW e).y
   grind
  grind
 have:((t.cd e b).sub (t.cd e a)).dot ((c8 (t.at (t.nx e))).sub (c8 (t.at e)))=(b-a)*((t.dW e).dot (t.dW e)):=by
  simp only[aw.cd,aw.dW,V2.sub,V2.add,V2.mul,V2.dot]
  grind
 rw[this];generalize (t.dW e).dot (t.dW e)=w at*;rw[dx,du]
 by_cases c:b<a
 ·rw[if_pos c,if_pos];have:=ce (show(0:Rat)<a-b by grind) f
  grind
 ·rw[if_neg c]
  by_cases d:b=a
  ·subst d;rw[if_pos rfl,show(b-b)*w=0 from by grind];rfl
  ·rw[if_neg d];have:=ce (show(0:Rat)<b-a by grind) f;rw[if_neg (by grind),if_neg (by grind)]
def jA(s:List Nat):Bool:=eZ s 6&&(decide (0<=dx (aL s))&&decide (du (aL s) 1<=0))
theorem F4{s:List Nat}{D:Nat}(h:eZ s D=true):bI s=0/\s.length<=2*D+2:=by
 simp only[eZ,a1,decide_eq_true_eq]at h;exact⟨h.1.1.2,h.1.1.1⟩
theorem FY(s:List Nat)(hs:fB s):az prog 54 [.str s] (.bool (jA s)):=by
 have k1:=vz s 6 hs (by decide);rw[show(((6:Nat):Int))=6 from rfl]at k1;rw[jA];refine aM nf NZ mix (by simp[f54]) ?_;rcases hf:eZ s 6 with _|_
 ·rw[hf]at k1;simp[f54,ad];refine Go.al.c2 k1 ?_;simp[ad]
 have hc:=(F4 hf).1;have o:=gn hc;have k2:=sH (aL s) (o.mono (by decide));rw[(fX hc).1]at k2;have k3:=o6 (aL s) 1 (o.mono (by decide)) ((show bE 1 1 from⟨by decide,by decide⟩).mono (by decide));rw[(fX hc).1,show bf 1=[49]from by decide+kernel]at k3;rw[hf]at k1;clear hs o;generalize dx (aL s)=x at*;generalize du (aL s) 1=y at*
 by_cases a:0<=x
 ·by_cases b:y<=0
  ·simp[f54,ad];refine Go.al.c2 k1 ?_;simp[ad];refine Go.al.c1 k2 ?_;simp[a,ad];refine Go.al.c2 k3 ?_;simp[a,b,ad]
  ·simp[f54,ad];refine Go.al.c2 k1 ?_;simp[ad];refine Go.al.c1 k2 ?_;simp[a,ad];refine Go.al.c2 k3 ?_;simp[a,b,ad]
 ·simp[f54,ad];refine Go.al.c2 k1 ?_;simp[ad];refine Go.al.c1 k2 ?_;simp[a,ad]
theorem F2{s:List Nat}(h:jA s=true):bI s=0/\s.length<=14/\dB (aL s)=0:=by
 simp only[jA,a1,decide_eq_true_eq]at h;obtain⟨a,b⟩:=F4 h.1;exact⟨a,by omega,Dw.2 ⟨by omega,by omega⟩⟩
theorem Qy(j:az prog 12 [] (.bool true))(t:aw)(e:Int)(x y:List Nat)(l:kH t)(hx:fB x)(Y:fB y):az prog 10 [cN t,.int .i64 e,.st 103 [.str x,.str y]] (.bool true):=by
 have s0:=Ws t ⟨[],0,[],[]⟩ 0 9 l ⟨by simp,fun s h=>nomatch h⟩ (by decide) (by decide);rw[show(((9:Nat):Int))=9 from rfl,show(((0:Nat):Int))=0 from rfl]at s0;simp only[bi]at s0;have u0:=FY x hx;have u1:=FY y Y;have an:=l.cl;have a:a6.wrap 0=0:=by decide
 rcases hf:yW t ⟨[],0,[],[]⟩ 0 9 with _|_
 ·rw[hf]at s0;generalize jA x=ae at*;generalize jA y=V at*;refine aM nf ki mix (by simp[f10]) ?_;simp[f10,ad];refine Go.al.c4 s0 ?_;simp[ad,a];refine Go.al.c0 j ?_;simp[ad,a]
 rw[hf]at s0
 by_cases e0:e<0
 ·generalize jA x=ae at*;generalize jA y=V at*;refine aM nf ki mix (by simp[f10]) ?_;simp[f10,ad];refine Go.al.c4 s0 ?_;simp[ad,a,e0];refine Go.al.c0 j ?_;simp[ad,a,e0]
 by_cases e1:(t.cs.length:Int)<=e
 ·generalize jA x=ae at*;generalize jA y=V at*;refine aM nf ki mix (by simp[f10]) ?_;simp[f10,ad];refine Go.al.c4 s0 ?_;simp[ad,a,e0,e1];refine Go.al.c0 j ?_;simp[ad,a,e0,e1]
 rcases O:jA x with _|_
 ·rw[O]at u0;generalize jA y=V at*;refine aM nf ki mix (by simp[f10]) ?_;simp[f10,ad];refine Go.al.c4 s0 ?_;simp[ad,a,e0,e1];refine Go.al.c1 u0 ?_;simp[ad,a,e0,e1];refine Go.al.c0 j ?_;simp[ad,a,e0,e1]
 rw[O]at u0;rcases P:jA y with _|_
 ·rw[P]at u1;refine aM nf ki mix (by simp[f10]) ?_;simp[f10,ad];refine Go.al.c4 s0 ?_;simp[ad,a,e0,e1];refine Go.al.c1 u0 ?_;simp[ad,a,e0,e1];refine Go.al.c1 u1 ?_;simp[ad,a,e0,e1];refine Go.al.c0 j ?_;simp[ad,a,e0,e1]
 rw[P]at u1;simp only[yW,a1,decide_eq_true_eq]at hf;obtain⟨U,_⟩:=azS (b:=⟨[],0,[],[]⟩) ⟨by simp,fun s h=>nomatch h⟩ hf.2.2.2.1;clear hf;obtain⟨Q,aF,n,hc⟩:=tE U;obtain⟨i,rfl⟩:∃i:Nat,e=i:=⟨e.toNat,by omega⟩
 have hi:i<t.cs.length:=by omega
 obtain⟨m,aD,ex⟩:=F2 O;obtain⟨M,aE,af⟩:=F2 P;clear O P;have Z:=zR m (by omega);have aa:=zR M (by omega);have W:∀s:List Nat,bI s=0->dB (aL s)=0->lQ t i s=0:=fun s c h=>by
  have f:kJ t i s=0:=by
   rw[kJ,kY];intro v ag;simp only[List.mem_cons,List.mem_singleton,List.not_mem_nil,or_false]at ag;rcases ag with rfl|rfl|rfl
   ·exact U
   ·rw[bt,if_neg (by simp;omega)]
   ·exact c
  rw[lQ,if_pos f,h]
 have q0:=P8 t l.cl l.pl l.sl;have q1:=M6 t i x l hx (by omega);have u:=M6 t i y l Y (by omega);rw[if_pos (W x m ex),show((i:Int)).toNat=i from by omega]at q1;rw[if_pos (W y M af),show((i:Int)).toNat=i from by omega]at u;have r:=zS n hi Z;have E:=zS n hi aa;obtain⟨R,c0⟩:=DN r (by decide);obtain⟨ah,c1⟩:=DN E (by decide);have N:iZ t (qV (t.cd i (aL x)))=0:=by rw[iZ];simp only[bN,U,c0,if_true]
 have o:=WQ t _ l R;rw[if_pos N,N,DF,azY hc hi Q (zT ex).1 (zT ex).2]at o;have q4:=Qx t _ l R (fun _=>by rw[DF];exact r.mono (by decide));obtain⟨g1,g2,g3⟩:=XM Q hc hi ex;rw[if_pos N,DF,CV,if_pos g1]at q4;have p:=wE _ R;have q:=wE _ ah;rw[c0]at p;rw[c1]at q;rw[<-XL]at o q4 p q;have X:=t.jz (by omega) i;have S:=jd (aw.fx n hi);have T:=jd (aw.fx n X);have F:=vX (t.at i) (aw.fx n hi);have G:=zI t i hi an;have H:=vX (t.at (t.nx i)) (aw.fx n X);have I:=vy (t.cd i (aL y)) (t.cd i (aL x)) (E.mono (by decide)) (r.mono (by decide));have J:=vy (c8 (t.at (t.nx i))) (c8 (t.at i)) (T.mono (by decide)) (S.mono (by decide));have K:=Jh ((t.cd i (aL y)).sub (t.cd i (aL x))) ((c8 (t.at (t.nx i))).sub (c8 (t.at i))) ((kx E r).mono (by decide)) ((kx T S).mono (by decide));have z:=sH (((t.cd i (aL y)).sub (t.cd i (aL x))).dot ((c8 (t.at (t.nx i))).sub (c8 (t.at i)))) ((rD (kx E r) (kx T S)).mono (by decide));rw[aAf Q hc hi]at z;have C:=o6 (aL y) (aL x) (aa.mono (by decide)) (Z.mono (by decide));rw[(fX m).1,(fX M).1]at C;have d:=aw.get hi;have am:(x≠[48]/\x≠[49]/\fE (gf t (t.cd i (aL x))) t.cs.length=i/\bf (t.shr (fE (gf t (t.cd i (aL x))) t.cs.length) (t.cd i (aL x)))=x)\/((x=[48]\/x=[49])/\(bf (t.shr (fE (gf t (t.cd i (aL x))) t.cs.length) (t.cd i (aL x)))=[48]\/bf (t.shr (fE (gf t (t.cd i (aL x))) t.cs.length) (t.cd i (aL x)))=[49])):=by
  have ab:bf 0=[48]:=by decide+kernel
  have ac:bf 1=[49]:=by decide+kernel
  by_cases a0:aL x=0
  ·right;refine⟨.inl (by rw[<-(fX m).1,a0,ab]),?_⟩;rcases g3 (.inl a0)with h|h
   ·exact .inl (by rw[h,ab])
   ·exact .inr (by rw[h,ac])
  by_cases L:aL x=1
  ·right;refine⟨.inr (by rw[<-(fX m).1,L,ac]),?_⟩;rcases g3 (.inr L)with h|h
   ·exact .inl (by rw[h,ab])
   ·exact .inr (by rw[h,ac])
  ·left;have hk:=g2 a0 L;refine⟨fun h=>a0 ?_,fun h=>L ?_,hk,?_⟩
   ·rw[h];decide+kernel
   ·rw[h];decide+kernel
   ·rw[hk,wv Q hc hi,(fX m).1]
 clear g1 g2 g3 W r E R ah c0 c1 N S T X hx Y Z aa m M ex af n hc U;generalize bf (t.shr (fE (gf t (t.cd i (aL x))) t.cs.length) (t.cd i (aL x)))=w at*;generalize fE (gf t (t.cd i (aL x))) t.cs.length=k at*;generalize du (aL y) (aL x)=aG at*;generalize bf (((t.cd i (aL y)).sub (t.cd i (aL x))).dot ((c8 (t.at (t.nx i))).sub (c8 (t.at i))))=D at*;generalize (t.cd i (aL y)).sub (t.cd i (aL x))=ak at*;generalize (c8 (t.at (t.nx i))).sub (c8 (t.at i))=al at*;generalize t.cd i (aL x)=ai at*;generalize t.cd i (aL y)=aj at*;generalize c8 (t.at i)=A at*;generalize c8 (t.at (t.nx i))=B at*;generalize t.at (t.nx i)=aH at*;obtain⟨ar,au⟩:=ai;obtain⟨av,ax⟩:=aj;obtain⟨ao,ap⟩:=A;obtain⟨aq,By⟩:=B;obtain⟨ay,aA⟩:=ak;obtain⟨aB,aC⟩:=al;simp only[eV,ff]at*;rcases am with⟨f,g,rfl,rfl⟩|⟨f|f,g|g⟩
 ·refine aM nf ki mix (by simp[f10]) ?_;simp[f10,ad];refine Go.al.c4 s0 ?_;simp[ad,a,e0,e1,f,g,hi,d];refine Go.al.c1 u0 ?_;simp[ad,a,e0,e1,f,g,hi,d];refine Go.al.c1 u1 ?_;simp[ad,a,e0,e1,f,g,hi,d];refine Go.al.e1 q0 ?_;simp[ad,a,e0,e1,f,g,hi,d];refine Go.al.e3 q1 ?_;simp[ad,a,e0,e1,f,g,hi,d];refine⟨by repeat' first|rfl|apply aT,?_⟩;refine Go.al.e1 q0 ?_;simp[ad,a,e0,e1,f,g,hi,d];refine Go.al.e3 u ?_;simp[ad,a,e0,e1,f,g,hi,d];refine⟨by repeat' first|rfl|apply aT,?_⟩;refine Go.al.e1 q0 ?_;simp[ad,a,e0,e1,f,g,hi,d];refine Go.al.e2 o ?_;simp[ad,a,e0,e1,f,g,hi,d];refine Go.al.e1 q0 ?_;simp[ad,a,e0,e1,f,g,hi,d];refine Go.al.e2 q4 ?_;simp[ad,a,e0,e1,f,g,hi,d];refine Go.al.e1 p ?_;simp[ad,a,e0,e1,f,g,hi,d];refine Go.al.e1 q ?_;simp[ad,a,e0,e1,f,g,hi,d];refine Go.al.e1 F ?_;simp[ad,a,e0,e1,f,g,hi,d];refine Go.al.e2 G ?_;simp[ad,a,e0,e1,f,g,hi,d];refine Go.al.e1 H ?_;simp[ad,a,e0,e1,f,g,hi,d];refine⟨by repeat' first|rfl|apply aT,?_⟩;refine Go.al.e2 I ?_;simp[ad,a,e0,e1,f,g,hi,d];refine Go.al.e2 J ?_;simp[ad,a,e0,e1,f,g,hi,d];refine Go.al.e2 K ?_;simp[ad,a,e0,e1,f,g,hi,d];refine Go.al.e1 z ?_;simp[ad,a,e0,e1,f,g,hi,d];refine Go.al.c2 C ?_;simp[ad,a,e0,e1,f,g,hi,d];refine Go.al.c0 j ?_;simp[ad,a,e0,e1,f,g,hi,d]
 ·subst f g;refine aM nf ki mix (by simp[f10]) ?_;simp[f10,ad];refine Go.al.c4 s0 ?_;simp[ad,a,e0,e1,hi,d];refine Go.al.c1 u0 ?_;simp[ad,a,e0,e1,hi,d];refine Go.al.c1 u1 ?_;simp[ad,a,e0,e1,hi,d];refine Go.al.e1 q0 ?_;simp[ad,a,e0,e1,hi,d];refine Go.al.e3 q1 ?_;simp[ad,a,e0,e1,hi,d];refine⟨by repeat' first|rfl|apply aT,?_⟩;refine Go.al.e1 q0 ?_;simp[ad,a,e0,e1,hi,d];refine Go.al.e3 u ?_;simp[ad,a,e0,e1,hi,d];refine⟨by repeat' first|rfl|apply aT,?_⟩;refine Go.al.e1 q0 ?_;simp[ad,a,e0,e1,hi,d];refine Go.al.e2 o ?_;simp[ad,a,e0,e1,hi,d];refine Go.al.e1 q0 ?_;simp[ad,a,e0,e1,hi,d];refine Go.al.e2 q4 ?_;simp[ad,a,e0,e1,hi,d];refine Go.al.e1 p ?_;simp[ad,a,e0,e1,hi,d];refine Go.al.e1 q ?_;simp[ad,a,e0,e1,hi,d];refine Go.al.e1 F ?_;simp[ad,a,e0,e1,hi,d];refine Go.al.e2 G ?_;simp[ad,a,e0,e1,hi,d];refine Go.al.e1 H ?_;simp[ad,a,e0,e1,hi,d];refine⟨by repeat' first|rfl|apply aT,?_⟩;refine Go.al.e2 I ?_;simp[ad,a,e0,e1,hi,d];refine Go.al.e2 J ?_;simp[ad,a,e0,e1,hi,d];refine Go.al.e2 K ?_;simp[ad,a,e0,e1,hi,d];refine Go.al.e1 z ?_;simp[ad,a,e0,e1,hi,d];refine Go.al.c2 C ?_;simp[ad,a,e0,e1,hi,d];refine Go.al.c0 j ?_;simp[ad,a,e0,e1,hi,d]
 ·subst f g;refine aM nf ki mix (by simp[f10]) ?_;simp[f10,ad];refine Go.al.c4 s0 ?_;simp[ad,a,e0,e1,hi,d];refine Go.al.c1 u0 ?_;simp[ad,a,e0,e1,hi,d];refine Go.al.c1 u1 ?_;simp[ad,a,e0,e1,hi,d];refine Go.al.e1 q0 ?_;simp[ad,a,e0,e1,hi,d];refine Go.al.e3 q1 ?_;simp[ad,a,e0,e1,hi,d];refine⟨by repeat' first|rfl|apply aT,?_⟩;refine Go.al.e1 q0 ?_;simp[ad,a,e0,e1,hi,d];refine Go.al.e3 u ?_;simp[ad,a,e0,e1,hi,d];refine⟨by repeat' first|rfl|apply aT,?_⟩;refine Go.al.e1 q0 ?_;simp[ad,a,e0,e1,hi,d];refine Go.al.e2 o ?_;simp[ad,a,e0,e1,hi,d];refine Go.al.e1 q0 ?_;simp[ad,a,e0,e1,hi,d];refine Go.al.e2 q4 ?_;simp[ad,a,e0,e1,hi,d];refine Go.al.e1 p ?_;simp[ad,a,e0,e1,hi,d];refine Go.al.e1 q ?_;simp[ad,a,e0,e1,hi,d];refine Go.al.e1 F ?_;simp[ad,a,e0,e1,hi,d];refine Go.al.e2 G ?_;simp[ad,a,e0,e1,hi,d];refine Go.al.e1 H ?_;simp[ad,a,e0,e1,hi,d];refine⟨by repeat' first|rfl|apply aT,?_⟩;refine Go.al.e2 I ?_;simp[ad,a,e0,e1,hi,d];refine Go.al.e2 J ?_;simp[ad,a,e0,e1,hi,d];refine Go.al.e2 K ?_;simp[ad,a,e0,e1,hi,d];refine Go.al.e1 z ?_;simp[ad,a,e0,e1,hi,d];refine Go.al.c2 C ?_;simp[ad,a,e0,e1,hi,d];refine Go.al.c0 j ?_;simp[ad,a,e0,e1,hi,d]
 ·subst f g;refine aM nf ki mix (by simp[f10]) ?_;simp[f10,ad];refine Go.al.c4 s0 ?_;simp[ad,a,e0,e1,hi,d];refine Go.al.c1 u0 ?_;simp[ad,a,e0,e1,hi,d];refine Go.al.c1 u1 ?_;simp[ad,a,e0,e1,hi,d];refine Go.al.e1 q0 ?_;simp[ad,a,e0,e1,hi,d];refine Go.al.e3 q1 ?_;simp[ad,a,e0,e1,hi,d];refine⟨by repeat' first|rfl|apply aT,?_⟩;refine Go.al.e1 q0 ?_;simp[ad,a,e0,e1,hi,d];refine Go.al.e3 u ?_;simp[ad,a,e0,e1,hi,d];refine⟨by repeat' first|rfl|apply aT,?_⟩;refine Go.al.e1 q0 ?_;simp[ad,a,e0,e1,hi,d];refine Go.al.e2 o ?_;simp[ad,a,e0,e1,hi,d];refine Go.al.e1 q0 ?_;simp[ad,a,e0,e1,hi,d];refine Go.al.e2 q4 ?_;simp[ad,a,e0,e1,hi,d];refine Go.al.e1 p ?_;simp[ad,a,e0,e1,hi,d];refine Go.al.e1 q ?_;simp[ad,a,e0,e1,hi,d];refine Go.al.e1 F ?_;simp[ad,a,e0,e1,hi,d];refine Go.al.e2 G ?_;simp[ad,a,e0,e1,hi,d];refine Go.al.e1 H ?_;simp[ad,a,e0,e1,hi,d];refine⟨by repeat' first|rfl|apply aT,?_⟩;refine Go.al.e2 I ?_;simp[ad,a,e0,e1,hi,d];refine Go.al.e2 J ?_;simp[ad,a,e0,e1,hi,d];refine Go.al.e2 K ?_;simp[ad,a,e0,e1,hi,d];refine Go.al.e1 z ?_;simp[ad,a,e0,e1,hi,d];refine Go.al.c2 C ?_;simp[ad,a,e0,e1,hi,d];refine Go.al.c0 j ?_;simp[ad,a,e0,e1,hi,d]
 ·subst f g;refine aM nf ki mix (by simp[f10]) ?_;simp[f10,ad];refine Go.al.c4 s0 ?_;simp[ad,a,e0,e1,hi,d];refine Go.al.c1 u0 ?_;simp[ad,a,e0,e1,hi,d];refine Go.al.c1 u1 ?_;simp[ad,a,e0,e1,hi,d];refine Go.al.e1 q0 ?_;simp[ad,a,e0,e1,hi,d];refine Go.al.e3 q1 ?_;simp[ad,a,e0,e1,hi,d];refine⟨by repeat' first|rfl|apply aT,?_⟩;refine Go.al.e1 q0 ?_;simp[ad,a,e0,e1,hi,d];refine Go.al.e3 u ?_;simp[ad,a,e0,e1,hi,d];refine⟨by repeat' first|rfl|apply aT,?_⟩;refine Go.al.e1 q0 ?_;simp[ad,a,e0,e1,hi,d];refine Go.al.e2 o ?_;simp[ad,a,e0,e1,hi,d];refine Go.al.e1 q0 ?_;simp[ad,a,e0,e1,hi,d];refine Go.al.e2 q4 ?_;simp[ad,a,e0,e1,hi,d];refine Go.al.e1 p ?_;simp[ad,a,e0,e1,hi,d];refine Go.al.e1 q ?_;simp[ad,a,e0,e1,hi,d];refine Go.al.e1 F ?_;simp[ad,a,e0,e1,hi,d];refine Go.al.e2 G ?_;simp[ad,a,e0,e1,hi,d];refine Go.al.e1 H ?_;simp[ad,a,e0,e1,hi,d];refine⟨by repeat' first|rfl|apply aT,?_⟩;refine Go.al.e2 I ?_;simp[ad,a,e0,e1,hi,d];refine Go.al.e2 J ?_;simp[ad,a,e0,e1,hi,d];refine Go.al.e2 K ?_;simp[ad,a,e0,e1,hi,d];refine Go.al.e1 z ?_;simp[ad,a,e0,e1,hi,d];refine Go.al.c2 C ?_;simp[ad,a,e0,e1,hi,d];refine Go.al.c0 j ?_;simp[ad,a,e0,e1,hi,d]
end Go.al
