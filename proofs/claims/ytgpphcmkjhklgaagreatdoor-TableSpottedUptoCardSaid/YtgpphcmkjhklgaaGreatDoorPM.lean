import Derived.Test.YtgpphcmkjhklgaaGreatDoorPL
/- Parts of a proof. -/
set_option linter.unusedSimpArgs false
set_option linter.unusedVariables false
set_option linter.unusedSectionVars false
open Go.Proofs.Tryz
open And renaming intro->ab
open Go.IntKind renaming i64->ac
open List renaming mem_of_getElem?->am, take_of_length_le->an, length_eq_zero_iff->ao, take_length->ap, mem_iff_getElem->av, take_add_one->ax, drop_eq_getElem_cons->ay, length_take->aT, any_eq_true->a1, map_take->a4, map_cons->a5, map_nil->a6
open Nat renaming le_refl->a7, le_trans->a8, lt_of_lt_of_le->a9, mod_eq_of_lt->bb, not_lt_zero->be, lt_or_ge->bi
open Rat renaming not_lt->bk, intCast_mul->bl, le_trans->bo, le_refl->bv
namespace Go.ag
open Go.Proofs
set_option maxHeartbeats 4000000
set_option maxRecDepth 100000
theorem Un(l:List dR):fe prog 2 (l.map (AV.p∘cQ)):=Ar (fun r=>⟨by simp[aa],by simp[aa]⟩) l
theorem tE{α:Type}{f:α->AV}{l:List α}{j:Nat}{x:α}(h:l[j+1]?=some x):(l.take (j+1+1)).map f=(l.map f).take (j+1)++[f x]:=by
 rw[ax (i:=j+1),h,List.map_append,a4];rfl
theorem ka{N:Nat×Nat->Prop}{α:Type}{f:α->PV}{k:Nat}{l:List α}:aV N ((l.map (AV.p∘f)).take k)=True:=by
 rw[cJ,eq_iff_iff,iff_true];intro x hx;obtain⟨a,_,rfl⟩:=List.mem_map.1 (List.mem_of_mem_take hx);trivial
theorem pG:er=ff:=rfl
theorem pF:fP=bO:=rfl
theorem tF{α:Type}{l:List α}{x:α}(h:l[0]?=some x):l.take 1=[x]:=by
 rw[ax (i:=0),h];rfl
theorem vQ(t:ar)(u:t.cs.length<=1000000)(v:t.aP.length<=1000000)(w:t.aB.length<=1000000):aA prog 14 [ch t] (b6 t):=by
 have s:(1000000:Nat)<di:=by decide
 have o:ac.wrap 1=1:=by decide
 refine aG nf Qd mix (by simp[f14]) ?_;simp[f14,aa];refine⟨⟨Un _,by omega⟩,?_⟩
 by_cases hc:t.cs=[]
 ·simp[hc];refine⟨⟨by repeat' first|rfl|apply ab,by repeat' first|rfl|apply ab⟩,?_⟩;refine lp (α:=Nat) (fun i=>match i with
    |0=>⟨[(18,.p (.int .i64 0)),(17,.p (.int .i64 t.aP.length)),(16,.p (.seq (t.aP.map ff))),(3,.ptr 3 []),(2,.ptr 1 []),(1,.ptr 0 [])],[.box false (.p (ch t)),.box false (.p (.st 35 [.aW,.int .i64 0,.aW,.aW])),.arr .exact 0 2 [],.box false (.st 35 [.sl 2 0 2 0 0,.p (.int .i64 t.br),.p .aW,.p .aW])]⟩
    |m+1=>⟨[(18,.p (.int .i64 ((m+1:Nat):Int))),(17,.p (.int .i64 t.aP.length)),(16,.p (.seq (t.aP.map ff))),(3,.ptr 3 []),(2,.ptr 1 []),(1,.ptr 0 [])],[.box false (.p (ch t)),.box false (.p (.st 35 [.aW,.int .i64 0,.aW,.aW])),.arr .exact 0 2 [],.box false (.st 35 [.sl 2 0 2 0 0,.p (.int .i64 t.br),.sl 6 m 4 0 (m+1),.p .aW]),.hole,.hole,.arr .grow m 4 ((t.aP.take (m+1)).map (AV.p∘ff))]⟩) (fun i=>i<=t.aP.length) (fun i=>t.aP.length-i) 0 (by simp) ?_
  rintro i q
  by_cases hi:i<t.aP.length
  ·have a:=ar.iY hi;rcases i with _|j
   ·have b:=tF a;simp[hi,a,o,aa];exact⟨by omega,rd 1 hi (hh:=by simp[b]) (hr2:=by simp[ka])⟩
   ·have h:ac.wrap ((j:Int)+1+1)=(j:Int)+1+1:=aO _ (by omega) (by omega);have hI:(j:Int)+1<t.aP.length:=by omega
    have b:=tE (f:=AV.p∘ff) a;simp[hi,hI,a,h,aa];exact⟨by omega,⟨by omega,by omega⟩,rd (j+2) hi (hh:=by simp at b;simp[b]) (hr2:=by simp[ka])⟩
  have r:i=t.aP.length:=by omega
  rcases i with _|j
  ·have n:t.aP=[]:=ao.1 r.symm;simp[n,aa];refine lp (α:=Nat) (fun i=>match i with
     |0=>⟨[(32,.p (.int .i64 0)),(31,.p (.int .i64 t.aB.length)),(30,.p (.seq (t.aB.map bO))),(3,.ptr 3 []),(2,.ptr 1 []),(1,.ptr 0 [])],[.box false (.p (ch t)),.box false (.p (.st 35 [.aW,.int .i64 0,.aW,.aW])),.arr .exact 0 2 [],.box false (.st 35 [.sl 2 0 2 0 0,.p (.int .i64 t.br),.p .aW,.p .aW])]⟩
     |m+1=>⟨[(32,.p (.int .i64 ((m+1:Nat):Int))),(31,.p (.int .i64 t.aB.length)),(30,.p (.seq (t.aB.map bO))),(3,.ptr 3 []),(2,.ptr 1 []),(1,.ptr 0 [])],[.box false (.p (ch t)),.box false (.p (.st 35 [.aW,.int .i64 0,.aW,.aW])),.arr .exact 0 2 [],.box false (.st 35 [.sl 2 0 2 0 0,.p (.int .i64 t.br),.p .aW,.sl 6 m 3 0 (m+1)]),.hole,.hole,.arr .grow m 3 ((t.aB.take (m+1)).map (AV.p∘bO))]⟩) (fun i=>i<=t.aB.length) (fun i=>t.aB.length-i) 0 (by simp) ?_
   rintro i q
   by_cases hi:i<t.aB.length
   ·have a:=ar.ft hi;rcases i with _|j
    ·have b:=tF a;simp[hi,a,o,aa];exact⟨by omega,rd 1 hi (hh:=by simp[b]) (hr2:=by simp[ka])⟩
    ·have h:ac.wrap ((j:Int)+1+1)=(j:Int)+1+1:=aO _ (by omega) (by omega);have hI:(j:Int)+1<t.aB.length:=by omega
     have b:=tE (f:=AV.p∘bO) a;simp[hi,hI,a,h,aa];exact⟨by omega,⟨by omega,by omega⟩,rd (j+2) hi (hh:=by simp at b;simp[b]) (hr2:=by simp[ka])⟩
   have d:i=t.aB.length:=by omega
   rcases i with _|c
   ·have e:t.aB=[]:=ao.1 d.symm;simp[e,aa];simp[b6,hc,n,e,pG,pF]
   ·have hI:¬((c:Int)+1<t.aB.length):=by omega
    have g:t.aB.take (c+1)=t.aB:=by rw[d,ap]
    simp[hI,g,aa];have l:(t.aB.map (AV.p∘bO)).take (c+1)=t.aB.map (AV.p∘bO):=an (by simp;omega);simp[b6,hc,n,l,pG,pF];omega
  ·have hI:¬((j:Int)+1<t.aP.length):=by omega
   have g:t.aP.take (j+1)=t.aP:=by rw[r,ap]
   simp[hI,g,aa];refine lp (α:=Nat) (fun i=>match i with
    |0=>⟨[(32,.p (.int .i64 0)),(31,.p (.int .i64 t.aB.length)),(30,.p (.seq (t.aB.map bO))),(3,.ptr 3 []),(2,.ptr 1 []),(1,.ptr 0 [])],[.box false (.p (ch t)),.box false (.p (.st 35 [.aW,.int .i64 0,.aW,.aW])),.arr .exact 0 2 [],.box false (.st 35 [.sl 2 0 2 0 0,.p (.int .i64 t.br),.sl 6 j 4 0 (j+1),.p .aW]),.hole,.hole,.arr .grow j 4 (t.aP.map (AV.p∘ff))]⟩
    |m+1=>⟨[(32,.p (.int .i64 ((m+1:Nat):Int))),(31,.p (.int .i64 t.aB.length)),(30,.p (.seq (t.aB.map bO))),(3,.ptr 3 []),(2,.ptr 1 []),(1,.ptr 0 [])],[.box false (.p (ch t)),.box false (.p (.st 35 [.aW,.int .i64 0,.aW,.aW])),.arr .exact 0 2 [],.box false (.st 35 [.sl 2 0 2 0 0,.p (.int .i64 t.br),.sl 6 j 4 0 (j+1),.sl 9 m 3 0 (m+1)]),.hole,.hole,.arr .grow j 4 (t.aP.map (AV.p∘ff)),.hole,.hole,.arr .grow m 3 ((t.aB.take (m+1)).map (AV.p∘bO))]⟩) (fun i=>i<=t.aB.length) (fun i=>t.aB.length-i) 0 (by simp) ?_
   rintro i q
   by_cases hi:i<t.aB.length
   ·have a:=ar.ft hi;rcases i with _|j
    ·have b:=tF a;simp[hi,a,o,aa];exact⟨by omega,rd 1 hi (hh:=by simp[b]) (hr2:=by simp[ka])⟩
    ·have h:ac.wrap ((j:Int)+1+1)=(j:Int)+1+1:=aO _ (by omega) (by omega);have hI:(j:Int)+1<t.aB.length:=by omega
     have b:=tE (f:=AV.p∘bO) a;simp[hi,hI,a,h,aa];exact⟨by omega,⟨by omega,by omega⟩,rd (j+2) hi (hh:=by simp at b;simp[b]) (hr2:=by simp[ka])⟩
   have d:i=t.aB.length:=by omega
   rcases i with _|c
   ·have e:t.aB=[]:=ao.1 d.symm;simp[e,aa];have k:(t.aP.map (AV.p∘ff)).take (j+1)=t.aP.map (AV.p∘ff):=an (by simp;omega);simp[b6,hc,k,e,pG,pF];omega
   ·have hI:¬((c:Int)+1<t.aB.length):=by omega
    have g:t.aB.take (c+1)=t.aB:=by rw[d,ap]
    simp[hI,g,aa];have k:(t.aP.map (AV.p∘ff)).take (j+1)=t.aP.map (AV.p∘ff):=an (by simp;omega);have l:(t.aB.map (AV.p∘bO)).take (c+1)=t.aB.map (AV.p∘bO):=an (by simp;omega);simp[b6,hc,k,l,pG,pF];omega
 ·simp[hc];refine⟨⟨by repeat' first|rfl|apply ab,by repeat' first|rfl|apply ab⟩,?_⟩;refine lp (α:=Nat) (fun i=>match i with
    |0=>⟨[(18,.p (.int .i64 0)),(17,.p (.int .i64 t.aP.length)),(16,.p (.seq (t.aP.map ff))),(3,.ptr 4 []),(2,.ptr 1 []),(1,.ptr 0 [])],[.box false (.p (ch t)),.box false (.p (.st 35 [.aW,.int .i64 0,.aW,.aW])),.arr .exact 0 2 [],.arr .grow 0 2 (t.cs.map (AV.p∘cQ)),.box false (.st 35 [.sl 3 0 2 0 t.cs.length,.p (.int .i64 t.br),.p .aW,.p .aW])]⟩
    |m+1=>⟨[(18,.p (.int .i64 ((m+1:Nat):Int))),(17,.p (.int .i64 t.aP.length)),(16,.p (.seq (t.aP.map ff))),(3,.ptr 4 []),(2,.ptr 1 []),(1,.ptr 0 [])],[.box false (.p (ch t)),.box false (.p (.st 35 [.aW,.int .i64 0,.aW,.aW])),.arr .exact 0 2 [],.arr .grow 0 2 (t.cs.map (AV.p∘cQ)),.box false (.st 35 [.sl 3 0 2 0 t.cs.length,.p (.int .i64 t.br),.sl 7 m 4 0 (m+1),.p .aW]),.hole,.hole,.arr .grow m 4 ((t.aP.take (m+1)).map (AV.p∘ff))]⟩) (fun i=>i<=t.aP.length) (fun i=>t.aP.length-i) 0 (by simp) ?_
  rintro i q
  by_cases hi:i<t.aP.length
  ·have a:=ar.iY hi;rcases i with _|j
   ·have b:=tF a;simp[hi,a,o,aa];exact⟨by omega,rd 1 hi (hh:=by simp[b]) (hr2:=by simp[ka])⟩
   ·have h:ac.wrap ((j:Int)+1+1)=(j:Int)+1+1:=aO _ (by omega) (by omega);have hI:(j:Int)+1<t.aP.length:=by omega
    have b:=tE (f:=AV.p∘ff) a;simp[hi,hI,a,h,aa];exact⟨by omega,⟨by omega,by omega⟩,rd (j+2) hi (hh:=by simp at b;simp[b]) (hr2:=by simp[ka])⟩
  have r:i=t.aP.length:=by omega
  rcases i with _|j
  ·have n:t.aP=[]:=ao.1 r.symm;simp[n,aa];refine lp (α:=Nat) (fun i=>match i with
     |0=>⟨[(32,.p (.int .i64 0)),(31,.p (.int .i64 t.aB.length)),(30,.p (.seq (t.aB.map bO))),(3,.ptr 4 []),(2,.ptr 1 []),(1,.ptr 0 [])],[.box false (.p (ch t)),.box false (.p (.st 35 [.aW,.int .i64 0,.aW,.aW])),.arr .exact 0 2 [],.arr .grow 0 2 (t.cs.map (AV.p∘cQ)),.box false (.st 35 [.sl 3 0 2 0 t.cs.length,.p (.int .i64 t.br),.p .aW,.p .aW])]⟩
     |m+1=>⟨[(32,.p (.int .i64 ((m+1:Nat):Int))),(31,.p (.int .i64 t.aB.length)),(30,.p (.seq (t.aB.map bO))),(3,.ptr 4 []),(2,.ptr 1 []),(1,.ptr 0 [])],[.box false (.p (ch t)),.box false (.p (.st 35 [.aW,.int .i64 0,.aW,.aW])),.arr .exact 0 2 [],.arr .grow 0 2 (t.cs.map (AV.p∘cQ)),.box false (.st 35 [.sl 3 0 2 0 t.cs.length,.p (.int .i64 t.br),.p .aW,.sl 7 m 3 0 (m+1)]),.hole,.hole,.arr .grow m 3 ((t.aB.take (m+1)).map (AV.p∘bO))]⟩) (fun i=>i<=t.aB.length) (fun i=>t.aB.length-i) 0 (by simp) ?_
   rintro i q
   by_cases hi:i<t.aB.length
   ·have a:=ar.ft hi;rcases i with _|j
    ·have b:=tF a;simp[hi,a,o,aa];exact⟨by omega,rd 1 hi (hh:=by simp[b]) (hr2:=by simp[ka])⟩
    ·have h:ac.wrap ((j:Int)+1+1)=(j:Int)+1+1:=aO _ (by omega) (by omega);have hI:(j:Int)+1<t.aB.length:=by omega
     have b:=tE (f:=AV.p∘bO) a;simp[hi,hI,a,h,aa];exact⟨by omega,⟨by omega,by omega⟩,rd (j+2) hi (hh:=by simp at b;simp[b]) (hr2:=by simp[ka])⟩
   have d:i=t.aB.length:=by omega
   rcases i with _|c
   ·have e:t.aB=[]:=ao.1 d.symm;simp[e,aa];simp[b6,hc,n,e,pG,pF]
   ·have hI:¬((c:Int)+1<t.aB.length):=by omega
    have g:t.aB.take (c+1)=t.aB:=by rw[d,ap]
    simp[hI,g,aa];have l:(t.aB.map (AV.p∘bO)).take (c+1)=t.aB.map (AV.p∘bO):=an (by simp;omega);simp[b6,hc,n,l,pG,pF];omega
  ·have hI:¬((j:Int)+1<t.aP.length):=by omega
   have g:t.aP.take (j+1)=t.aP:=by rw[r,ap]
   simp[hI,g,aa];refine lp (α:=Nat) (fun i=>match i with
    |0=>⟨[(32,.p (.int .i64 0)),(31,.p (.int .i64 t.aB.length)),(30,.p (.seq (t.aB.map bO))),(3,.ptr 4 []),(2,.ptr 1 []),(1,.ptr 0 [])],[.box false (.p (ch t)),.box false (.p (.st 35 [.aW,.int .i64 0,.aW,.aW])),.arr .exact 0 2 [],.arr .grow 0 2 (t.cs.map (AV.p∘cQ)),.box false (.st 35 [.sl 3 0 2 0 t.cs.length,.p (.int .i64 t.br),.sl 7 j 4 0 (j+1),.p .aW]),.hole,.hole,.arr .grow j 4 (t.aP.map (AV.p∘ff))]⟩
    |m+1=>⟨[(32,.p (.int .i64 ((m+1:Nat):Int))),(31,.p (.int .i64 t.aB.length)),(30,.p (.seq (t.aB.map bO))),(3,.ptr 4 []),(2,.ptr 1 []),(1,.ptr 0 [])],[.box false (.p (ch t)),.box false (.p (.st 35 [.aW,.int .i64 0,.aW,.aW])),.arr .exact 0 2 [],.arr .grow 0 2 (t.cs.map (AV.p∘cQ)),.box false (.st 35 [.sl 3 0 2 0 t.cs.length,.p (.int .i64 t.br),.sl 7 j 4 0 (j+1),.sl 10 m 3 0 (m+1)]),.hole,.hole,.arr .grow j 4 (t.aP.map (AV.p∘ff)),.hole,.hole,.arr .grow m 3 ((t.aB.take (m+1)).map (AV.p∘bO))]⟩) (fun i=>i<=t.aB.length) (fun i=>t.aB.length-i) 0 (by simp) ?_
   rintro i q
   by_cases hi:i<t.aB.length
   ·have a:=ar.ft hi;rcases i with _|j
    ·have b:=tF a;simp[hi,a,o,aa];exact⟨by omega,rd 1 hi (hh:=by simp[b]) (hr2:=by simp[ka])⟩
    ·have h:ac.wrap ((j:Int)+1+1)=(j:Int)+1+1:=aO _ (by omega) (by omega);have hI:(j:Int)+1<t.aB.length:=by omega
     have b:=tE (f:=AV.p∘bO) a;simp[hi,hI,a,h,aa];exact⟨by omega,⟨by omega,by omega⟩,rd (j+2) hi (hh:=by simp at b;simp[b]) (hr2:=by simp[ka])⟩
   have d:i=t.aB.length:=by omega
   rcases i with _|c
   ·have e:t.aB=[]:=ao.1 d.symm;simp[e,aa];have k:(t.aP.map (AV.p∘ff)).take (j+1)=t.aP.map (AV.p∘ff):=an (by simp;omega);simp[b6,hc,k,e,pG,pF];omega
   ·have hI:¬((c:Int)+1<t.aB.length):=by omega
    have g:t.aB.take (c+1)=t.aB:=by rw[d,ap]
    simp[hI,g,aa];have k:(t.aP.map (AV.p∘ff)).take (j+1)=t.aP.map (AV.p∘ff):=an (by simp;omega);have l:(t.aB.map (AV.p∘bO)).take (c+1)=t.aB.map (AV.p∘bO):=an (by simp;omega);simp[b6,hc,k,l,pG,pF];omega
def eX(r:Int)(a b:V2):Int:=cT ((a.sub b).dot (a.sub b)) (wU r)
def gX(t:ar)(bef:List cF)(s:cF):Int:=
 if isName s.name=false then 8
 else if bef.any (fun o=>decide (o.name=s.name))=true then 9
 else if bX s.pt≠0 then bX s.pt
 else if t.on (vP s.pt)<0 then 16
 else if bef.any (fun o=>decide (eX t.br (vP o.pt) (vP s.pt)<0))=true then 17 else 0
def tL(t b:ar):Int:=if 24<b.aB.length then 5 else j0 (gX t) b.aB
def gw(t b:ar):Int:=if cG t≠0 then cG t else tL t b
structure lU(b:ar):Prop where
 sl:b.aB.length<=1000000
 sp:∀s∈b.aB,kT s
theorem tK{t:ar}(h:cG t=0):1<=t.br/\t.br<=1000:=by
 rw[cG]at h
 split at h
 ·omega
 split at h
 ·omega
 split at h
 ·omega
 split at h
 ·omega
 split at h
 ·omega
 omega
theorem lr{s:dU}(h:bX s=0):eV (vP s)=du s/\bS 2000 (vP s):=by
 obtain⟨g1,g2⟩:=gB h;refine⟨?_,dW g1,dW g2⟩;rw[eV,vP];dsimp only;rw[(fU g1).1,(fU g2).1]
theorem SY(t:ar)(a:0<=t.br)(b:t.br<=1000000):aA prog 209 [ch t] (.str (bn (wU t.br))):=by
 have f:=DE a b;have c:=Ei (4*t.br*t.br) (by omega) (by omega);have d:ac.wrap (4*t.br)=4*t.br:=aO _ (by omega) (by omega);have e:ac.wrap (4*t.br*t.br)=4*t.br*t.br:=aO _ (by omega) (by omega);refine aG nf Gt mix (by simp[f209]) ?_;rw[wU];simp[f209,aa,d,e];refine c1 c ?_;simp
theorem Hf(t:ar)(a b:V2)(d:0<=t.br)(e:t.br<=1000000)(f:bS 2000 a)(g:bS 2000 b):aA prog 128 [ch t,eV a,eV b] (.int .i64 (eX t.br a b)):=by
 have c:=mz f g;have k1:=u6 a b (f.mono (by decide)) (g.mono (by decide));have k2:=IM (a.sub b) (c.mono (by decide));have k3:=SY t d e;have k4:=nK ((a.sub b).dot (a.sub b)) (wU t.br) ((pU c c).mono (by decide)) ((IK d e).mono (by decide));refine aG nf IG mix (by simp[f128]) ?_;rw[eX];simp[f128,aa];refine e2 k1 ?_;simp[aa];refine e1 k2 ?_;simp[aa];refine e1 k3 ?_;simp[aa];refine e2 k4 ?_;simp[aa]
theorem Gz{α:Type}{f:α->Bool}{l:List α}{i j:Nat}{x:α}(h:l[j]?=some x)(a:j<i)(hf:f x=true):(l.take i).any f=true:=by
 rw[a1];exact⟨x,am (i:=j) (by rw[List.getElem?_take,if_pos a];exact h),hf⟩
theorem B3{t:ar}{a:List cF}{s:cF}(h:gX t a s=0):bX s.pt=0:=by
 rw[gX]at h
 split at h
 ·omega
 split at h
 ·omega
 split at h
 ·contradiction
 ·rename_i g;exact Decidable.not_not.1 g
theorem SZ(t b:ar)(v:cG t=0)(z:lU b)(A:t.cs.length<=1000000):aA prog 120 [ch t,.seq (b.aB.map bO)] (.int .i64 (tL t b)):=by
 obtain⟨P,C⟩:=z;obtain⟨_,_,B,_⟩:=jD v;obtain⟨Q,R⟩:=tK v;refine aG nf Pu mix (by simp[f120]) ?_;rw[tL]
 by_cases c4:24<b.aB.length
 ·have cI:(24:Int)<b.aB.length:=by omega
  rw[if_pos c4];simp[f120,aa,cI]
 have x:¬(24:Int)<b.aB.length:=by omega
 rw[if_neg c4];simp[f120,aa,x];refine lp (α:=Nat) (fun i=>⟨[(5,.p (.int .i64 i)),(2,.ptr 0 []),(1,.p (.seq (b.aB.map bO)))],[.box false (.p (ch t))]⟩) (fun i=>i<=b.aB.length/\∀j,j<i->ga (gX t) b.aB j=0) (fun i=>b.aB.length-i) 0 (by simp) ?_;rintro i ⟨s1,s2⟩
 by_cases hs:i<b.aB.length
 case neg=>
  have:i=b.aB.length:=by omega
  subst this;rw[nJ.2 s2];simp[aa]
 have a:=ar.ft hs;have D:=ct (i:=i) (by omega);obtain⟨I,J⟩:=C _ (am a);have g:=BP (b.sp i).name I.1;have y:=wC (b.sp i).pt J;have e:gX t (b.aB.take i) (b.sp i)≠0->j0 (gX t) b.aB=gX t (b.aB.take i) (b.sp i):=tD s2 a;have H:gX t (b.aB.take i) (b.sp i)=0->∀j,j<i+1->ga (gX t) b.aB j=0:=tC s2 a;have M:∀j,j<i->bX (b.sp j).pt=0:=fun j c=>by
  have:=s2 j c;rw[ga,ar.ft (by omega)]at this;exact B3 this
 have ev:gX t (b.aB.take i) (b.sp i)=if isName (b.sp i).name=false then 8 else if(b.aB.take i).any (fun o=>decide (o.name=(b.sp i).name))=true then 9 else if bX (b.sp i).pt≠0 then bX (b.sp i).pt else if t.on (vP (b.sp i).pt)<0 then 16 else if(b.aB.take i).any (fun o=>decide (eX t.br (vP o.pt) (vP (b.sp i).pt)<0))=true then 17 else 0:=rfl
 clear s2;generalize gX t (b.aB.take i) (b.sp i)=E at*;generalize j0 (gX t) b.aB=N at*;cases m:isName (b.sp i).name
 ·rw[m]at g;rw[m,if_pos rfl]at ev;rw[e (by rw[ev];decide),ev];simp[hs,a,aa];refine Go.ag.c1 g ?_;simp[aa]
 rw[m]at g;rw[m,if_neg (by decide)]at ev;simp[hs,a,aa];refine Go.ag.c1 g ?_;simp[aa];refine lp (α:=Nat) (fun k=>⟨[(6,.p (.int .i64 k)),(5,.p (.int .i64 i)),(2,.ptr 0 []),(1,.p (.seq (b.aB.map bO)))],[.box false (.p (ch t))]⟩) (fun k=>k<=i/\(b.aB.take k).any (fun o=>decide (o.name=(b.sp i).name))=false) (fun k=>i-k) 0 (by simp) ?_;rintro k ⟨k1,k2⟩
 by_cases hk:k<i
 ·have s:k<b.aB.length:=by omega
  have gk:=ar.ft s;have G:=ct (i:=k) (by omega)
  by_cases l:(b.sp k).name=(b.sp i).name
  ·rw[if_pos (Gz gk hk (by simp[l]))]at ev;rw[e (by rw[ev];decide),ev];simp[hs,hk,s,gk,a,l,aa]
  ·simp[hs,hk,s,gk,a,l,G,aa];exact rd (k+1) ⟨hk,by rw[tu gk,k2];simp[l]⟩
 have:k=i:=by omega
 subst this;rw[k2,if_neg (by decide)]at ev;clear k1 k2 hk;have d0:¬k<k:=by omega
 simp[d0,hs,a,aa];refine Go.ag.c1 y ?_
 by_cases d:bX (b.sp k).pt=0
 case neg=>
  rw[if_pos d]at ev;rw[e (by rw[ev];exact d),ev];simp[d,aa]
 rw[if_neg (by simp[d])]at ev;obtain⟨pl,ok⟩:=lr d;have u:=wy t (vP (b.sp k).pt) A B (ok.mono (by decide));rw[pl]at u;simp[d,hs,a,aa];refine Go.ag.e2 u ?_
 by_cases n:t.on (vP (b.sp k).pt)<0
 ·rw[if_pos n]at ev;rw[e (by rw[ev];decide),ev];simp[n,aa]
 rw[if_neg n]at ev;simp[n,aa];refine lp (α:=Nat) (fun j=>⟨[(8,.p (.int .i64 j)),(5,.p (.int .i64 k)),(2,.ptr 0 []),(1,.p (.seq (b.aB.map bO)))],[.box false (.p (ch t))]⟩) (fun j=>j<=k/\(b.aB.take j).any (fun o=>decide (eX t.br (vP o.pt) (vP (b.sp k).pt)<0))=false) (fun j=>k-j) 0 (by simp) ?_;rintro j ⟨O,w⟩
 by_cases c:j<k
 ·have r:j<b.aB.length:=by omega
  have f:=ar.ft r;have F:=ct (i:=j) (by omega);obtain⟨L,K⟩:=lr (M j c);have q:=Hf t (vP (b.sp j).pt) (vP (b.sp k).pt) (by omega) (by omega) K ok;rw[pl,L]at q
  by_cases h:eX t.br (vP (b.sp j).pt) (vP (b.sp k).pt)<0
  ·rw[if_pos (Gz f c (by simp[h]))]at ev;rw[e (by rw[ev];decide),ev];simp[hs,c,r,f,a,aa];refine Go.ag.e3 q ?_;simp[h,aa]
  ·simp[hs,c,r,f,a,aa];refine Go.ag.e3 q ?_;simp[h,F,aa];exact rd (j+1) ⟨c,by rw[tu f,w];simp[h]⟩
 have:j=k:=by omega
 subst this;rw[w,if_neg (by decide)]at ev;simp[d0,D,aa];exact rd (j+1) ⟨hs,H ev⟩
theorem GL(t b:ar)(a:gJ t)(c:lU b):aA prog 36 [ch t,.seq (b.aB.map bO)] (.int .i64 (gw t b)):=by
 have k1:=vI t a;refine aG nf Qv mix (by simp[f36]) ?_;rw[gw]
 by_cases h:cG t=0
 ·rw[if_neg (by simp[h])];have k2:=SZ t b h c a.cl;rw[h]at k1;simp[f36,aa];refine Go.ag.c1 k1 ?_;simp[aa];refine Go.ag.c2 k2 ?_;simp[aa]
 ·rw[if_pos h];generalize cG t=e at*;simp[f36,aa];refine Go.ag.c1 k1 ?_;simp[h,aa]
theorem Cb(v w:NV)(a:bS kQ v.q)(b:bS kQ w.q):aA prog 108 [cM v,cM w] (eF (v.dot w)):=by
 have c:=qA v.x w.x (dN a.1) (dN b.1);have d:=qA v.y w.y (dN a.2) (dN b.2);have e:=u5 (v.x.mul w.x) (v.y.mul w.y) ((ju a.1 b.1).mono (by decide)) ((ju a.2 b.2).mono (by decide));refine aG nf GA mix (by simp[f108]) ?_;rw[NV.dot];simp[f108,aa];refine e2 c ?_;simp[aa];refine e2 d ?_;simp[aa];refine e2 e ?_;simp[aa]
theorem SW(t:ar)(a:0<=t.br)(b:t.br<=1000000):aA prog 127 [b6 t] (eF (.width t.br)):=by
 have f:=DE a b;have c:=qO (4*t.br*t.br) (by omega) (by omega);have d:ac.wrap (4*t.br)=4*t.br:=aO _ (by omega) (by omega);have e:ac.wrap (4*t.br*t.br)=4*t.br*t.br:=aO _ (by omega) (by omega);refine aG nf H6 mix (by simp[f127]) ?_;rw[NF.width];simp[f127,aa,d,e];refine c1 c ?_;simp[aa]
theorem aGL(a b:V2):(b.sub a).dot (b.sub a)=(a.sub b).dot (a.sub b):=by
 simp only[V2.sub,V2.dot]
 grind
theorem SX(t:ar)(a b:NV)(d:0<=t.br)(e:t.br<=1000000)(f:bS 2000 a.q)(g:bS 2000 b.q):aA prog 201 [b6 t,cM a,cM b] (.int .i64 (eX t.br a.q b.q)):=by
 have c:=mz g f;rw[<-NV.kz]at c;have k1:=tJ b a (g.mono (by decide)) (f.mono (by decide));have k2:=Cb (b.sub a) (b.sub a) (c.mono (by decide)) (c.mono (by decide));have k3:=SW t d e;have k4:=oI ((b.sub a).dot (b.sub a)) (.width t.br) (by rw[NV.PW];exact(pU c c).mono (by decide)) ((IK d e).mono (by decide));have hq:cT ((b.sub a).dot (b.sub a)).q (NF.width t.br).q=eX t.br a.q b.q:=by
  rw[eX,NV.PW,NV.kz,aGL];rfl
 rw[hq]at k4;refine aG nf Hj mix (by simp[f201]) ?_;simp[f201,aa];refine c2 k1 ?_;simp[aa];refine e2 k2 ?_;simp[aa];refine e1 k3 ?_;simp[aa];refine e2 k4 ?_;simp[aa]
def pz(p:cF):Prop:=kT p/\bX p.pt=0
theorem aob(t:ar)(v:NV)(o:cF)(b:0<=t.br)(c:t.br<=1000000)(e:bS 2000 v.q)(d:pz o):
 cB prog 200 [.box false (.p (b6 t)),.box false (.p (cM v))] [.p (bO o),.ptr 0 [],.ptr 1 []] [.box false (.p (b6 t)),.box false (.p (cM v))] (.p (.bool (decide (eX t.br (vP o.pt) v.q<0)))):=by
 obtain⟨⟨h,f⟩,a⟩:=d;obtain⟨g1,g2⟩:=gB a;obtain⟨_,ok⟩:=lr a;have k1:=pL o.pt g1 g2 f;have k2:=SX t (.from o.pt) v b c (by rw[mA];exact ok) e;rw[mA]at k2;generalize eX t.br (vP o.pt) v.q=y at*;generalize NV.from o.pt=g at*;refine fJ nf IF mix (by simp[f200]) ?_;simp[f200,aa];refine Go.ag.e1 k1 ?_;simp[aa];refine Go.ag.e3 k2 ?_;simp[aa];exact cV.og (by simp) (by simp) (by simp) (by simp) (by simp)
theorem SS(t:ar)(v:NV)(l:List cF)(h:l.length<=1000000)(a:0<=t.br)(b:t.br<=1000000)(d:bS 2000 v.q)(c:∀o∈l,pz o):
 cB prog 210 [.box false (.p (b6 t)),.box false (.p (cM v))] [.p (.seq (l.map bO)),.func 200 [] [.ptr 0 [],.ptr 1 []]] [.box false (.p (b6 t)),.box false (.p (cM v))] (.p (.int .i64 (idxFrom (fun o=>decide (eX t.br (vP o.pt) v.q<0)) l 0))):=by
 refine fJ nf BV mix (by simp[f210]) ?_;simp[f210];refine lp (α:=Nat) (fun i=>⟨[(8,.p (.int .i64 i)),(7,.p (.int .i64 l.length)),(1,.func 200 [] [.ptr 0 [],.ptr 1 []]),(0,.p (.seq (l.map bO)))],[.box false (.p (b6 t)),.box false (.p (cM v))]⟩) (fun i=>i<=l.length/\idxFrom (fun o=>decide (eX t.br (vP o.pt) v.q<0)) l 0=idxFrom (fun o=>decide (eX t.br (vP o.pt) v.q<0)) (l.drop i) i) (fun i=>l.length-i) 0 (by simp) ?_;rintro i ⟨k1,k2⟩;have e:=ct (i:=i) (by omega)
 by_cases hi:i<l.length
 ·rw[ay hi,idxFrom]at k2;simp[hi];refine cf (aob t v l[i] a b d (c _ (List.getElem_mem hi))) [0,1] ?_
  by_cases hk:eX t.br (vP l[i].pt) v.q<0
  ·simp[hk]at k2;simp[hk,k2,bf]
  ·simp[hk]at k2;simp[hk,e,bf];exact rd (i+1) ⟨hi,k2⟩
 ·have:i=l.length:=by omega
  subst this;simp[idxFrom]at k2;simp[k2]
theorem S1(t:ar)(v:NV)(l:List cF)(h:l.length<=1000000)(a:0<=t.br)(b:t.br<=1000000)(d:bS 2000 v.q)(c:∀o∈l,pz o):
 cB prog 131 [.box false (.p (b6 t)),.box false (.p (cM v))] [.p (.seq (l.map bO)),.func 200 [] [.ptr 0 [],.ptr 1 []]] [.box false (.p (b6 t)),.box false (.p (cM v))] (.p (.bool (l.any (fun o=>decide (eX t.br (vP o.pt) v.q<0))))):=by
 refine fJ nf B9 mix (by simp[f131]) ?_;simp[f131];refine cf (SS t v l h a b d c) [0,1] ?_;have:=rj (fun o=>decide (eX t.br (vP o.pt) v.q<0)) l 0;simp[bf,<-this]
theorem B2(t:ar)(v:NV)(l:List cF)(h:l.length<=1000000)(a:0<=t.br)(b:t.br<=1000000)(d:bS 2000 v.q)(c:∀o∈l,pz o):
 aA prog 119 [b6 t,.seq (l.map bO),cM v] (.bool (!l.any (fun o=>decide (eX t.br (vP o.pt) v.q<0)))):=by
 have k1:=S1 t v l h a b d c;generalize (l.any (fun o=>decide (eX t.br (vP o.pt) v.q<0)))=y at*;refine aG nf OW mix (by simp[f119]) ?_;simp[f119,aa];refine cf k1 [0,1] ?_;simp[aa,bf]
theorem SV(p o:cF):cB prog 132 [.box false (.p (bO p))] [.p (bO o),.ptr 0 []] [.box false (.p (bO p))] (.p (.bool (decide (o.name=p.name)))):=by
 refine fJ nf H3 mix (by simp[f132]) ?_
 by_cases h:o.name=p.name
 ·simp[f132,aa,h];exact cV.og (by simp) (by simp) (by simp) (by simp) (by simp)
 ·simp[f132,aa,h];exact cV.og (by simp) (by simp) (by simp) (by simp) (by simp)
theorem SR(p:cF)(l:List cF)(h:l.length<=1000000):
 cB prog 210 [.box false (.p (bO p))] [.p (.seq (l.map bO)),.func 132 [] [.ptr 0 []]] [.box false (.p (bO p))] (.p (.int .i64 (idxFrom (fun o=>decide (o.name=p.name)) l 0))):=by
 refine fJ nf BV mix (by simp[f210]) ?_;simp[f210];refine lp (α:=Nat) (fun i=>⟨[(8,.p (.int .i64 i)),(7,.p (.int .i64 l.length)),(1,.func 132 [] [.ptr 0 []]),(0,.p (.seq (l.map bO)))],[.box false (.p (bO p))]⟩) (fun i=>i<=l.length/\idxFrom (fun o=>decide (o.name=p.name)) l 0=idxFrom (fun o=>decide (o.name=p.name)) (l.drop i) i) (fun i=>l.length-i) 0 (by simp) ?_;rintro i ⟨k1,k2⟩;have a:=ct (i:=i) (by omega)
 by_cases hi:i<l.length
 ·rw[ay hi,idxFrom]at k2;simp[hi];refine cf (SV p l[i]) [0] ?_
  by_cases hk:l[i].name=p.name
  ·simp[hk]at k2;simp[hk,k2,bf]
  ·simp[hk]at k2;simp[hk,a,bf];exact rd (i+1) ⟨hi,k2⟩
 ·have:i=l.length:=by omega
  subst this;simp[idxFrom]at k2;simp[k2]
theorem S0(p:cF)(l:List cF)(h:l.length<=1000000):
 cB prog 131 [.box false (.p (bO p))] [.p (.seq (l.map bO)),.func 132 [] [.ptr 0 []]] [.box false (.p (bO p))] (.p (.bool (l.any (fun o=>decide (o.name=p.name))))):=by
 refine fJ nf B9 mix (by simp[f131]) ?_;simp[f131];refine cf (SR p l h) [0] ?_;have:=rj (fun o=>decide (o.name=p.name)) l 0;simp[bf,<-this]
def vS(r:Int)(a:List cF)(v:V2):Bool:=a.any (fun o=>decide (eX r (vP o.pt) v<0))
def Bj(t:ar)(a:List cF)(s:cF):Int:=bt [aX (decide (t.on (vP s.pt)<0)) 16,aX (a.any (fun o=>decide (eX t.br (vP o.pt) (vP s.pt)<0))) 17]
theorem SU(t:ar)(a:List cF)(s:cF):gX t a s=if iZ a s=0 then Bj t a s else iZ a s:=by
 rw[gX,iZ,Bj];generalize t.on (vP s.pt)=y;generalize bX s.pt=d;generalize (a.any fun o=>decide (o.name=s.name))=e;generalize (a.any fun o=>decide (eX t.br (vP o.pt) (vP s.pt)<0))=f;generalize isName s.name=g;cases g
 ·simp[bt,aX]
 cases e
 case true=>simp[bt,aX]
 by_cases b:d=0
 case neg=>simp[bt,aX,b]
 by_cases c:y<0
 ·simp[bt,aX,b,c]
 cases f
 ·simp[bt,aX,b,c]
 ·simp[bt,aX,b,c]
theorem aof(t:ar)(s:cF)(a:List cF)(v:t.cs.length<=1000000)(g:cG t=0)(hs:kT s)(f:a.length<=1000000)(u:∀o∈a,pz o):
 cB prog 130 [.box false (.p (b6 t))] [.p (bO s),.p (.seq (a.map bO)),.ptr 0 []] [.box false (.p (b6 t))] (.p (.int .i64 (gX t a s))):=by
 obtain⟨_,_,w,_⟩:=jD g;obtain⟨J,K⟩:=tK g;obtain⟨D,k⟩:=hs;have k1:=S0 s a f;have k2:=BU s.name D.1;have k3:=gH (!isName s.name) 8;have k4:=gH (a.any fun o=>decide (o.name=s.name)) 9;have k6:=ru s.pt k;have k8:=lj [aX (!isName s.name) 8,aX (a.any fun o=>decide (o.name=s.name)) 9,bX s.pt] (by simp);have b:=Gd (bef:=a) (s:=s);rw[SU];have x:=fun h:iZ a s=0=>pL s.pt (gB (b h)).1 (gB (b h)).2 k;have i:=fun h:iZ a s=0=>wx t (.from s.pt) v w (rB ⟨(dW (gB (b h)).1).mono (by decide),(dW (gB (b h)).2).mono (by decide)⟩);have z:=gH (decide (t.on (vP s.pt)<0)) 16;have j:iZ a s=0->aA prog 119 [b6 t,.seq (a.map bO),cM (.from s.pt)] (.bool (!vS t.br a (NV.from s.pt).q)):=fun h=>B2 t (.from s.pt) a f (by omega) (by omega) (rB ⟨dW (gB (b h)).1,dW (gB (b h)).2⟩) u;have A:=gH (vS t.br a (vP s.pt)) 17;have d:=lj [aX (decide (t.on (vP s.pt)<0)) 16,aX (vS t.br a (vP s.pt)) 17] (by simp);simp only[mA]at i j;have d1:iZ a s=bt [aX (!isName s.name) 8,aX (a.any fun o=>decide (o.name=s.name)) 9,bX s.pt]:=rfl;have d2:Bj t a s=bt [aX (decide (t.on (vP s.pt)<0)) 16,aX (vS t.br a (vP s.pt)) 17]:=rfl;rw[<-d1]at k8;rw[<-d2]at d;clear d1 d2 b;generalize iZ a s=e at*;generalize Bj t a s=r at*;generalize vS t.br a (vP s.pt)=m at*;generalize t.on (vP s.pt)=y at*;generalize bX s.pt=E at*;generalize (a.any fun o=>decide (o.name=s.name))=l at*;generalize isName s.name=n at*;generalize NV.from s.pt=v1 at*;refine fJ nf H4 mix (by simp[f130]) ?_;have C:aA prog 78 [.seq [.int .i64 (aX (!n) 8),.int .i64 (aX l 9),.int .i64 E]] (.int .i64 e):=by simpa using k8
 have B:aA prog 78 [.seq [.int .i64 (aX (decide (y<0)) 16),.int .i64 (aX m 17)]] (.int .i64 r):=by simpa using d
 clear k8 d;generalize F:aX (!n) 8=L at*;generalize G:aX l 9=M at*;generalize H:aX (decide (y<0)) 16=N at*;generalize I:aX m 17=O at*;simp[f130,aa];refine cf k1 [1] ?_;simp[aa,bf,sig];refine Go.ag.e1 k2 ?_;simp[aa];refine Go.ag.e2 k3 ?_;simp[aa];refine Go.ag.e2 k4 ?_;simp[aa];refine Go.ag.e1 k6 ?_;simp[aa];refine ep C (by simp;first|exact⟨rfl,rfl⟩|rfl) (by simp;first|exact⟨rfl,rfl⟩|rfl) ?_;simp[aa];refine⟨by repeat' first|rfl|apply ab,?_⟩
 by_cases c:e=0
 case neg=>
  simp[c,aa];exact cV.og (by simp) (by simp) (by simp) (by simp) (by simp)
 simp[c,aa];refine Go.ag.c1 (x c) ?_;simp[aa];refine Go.ag.e2 (i c) ?_;simp[aa];refine Go.ag.e2 z ?_;simp[aa];refine Go.ag.e3 (j c) ?_;simp[aa];refine Go.ag.e2 A ?_;simp[aa];refine ep B (by simp;first|exact⟨rfl,rfl⟩|rfl) (by simp;first|exact⟨rfl,rfl⟩|rfl) ?_;simp[aa];refine⟨by repeat' first|rfl|apply ab,?_⟩;exact⟨fun h=>(h c).elim,cV.og (by simp) (by simp) (by simp) (by simp) (by simp)⟩
theorem KG(l:List cF):fe prog 3 (l.map (AV.p∘bO)):=Ar (fun r=>⟨by simp[aa],by simp[aa]⟩) l
theorem aog(t b:ar)(h:t.cs.length<=1000000)(l:cG t=0)(c:lU b):
 cB prog 129 [.box false (.p (b6 t))] [.p (.seq (b.aB.map bO)),.p (.int .i64 24),.func 130 [] [.ptr 0 []]] [.box false (.p (b6 t))] (.p (.int .i64 (tL t b))):=by
 obtain⟨n,d⟩:=c;refine fJ nf H5 mix (by simp[f129]) ?_;rw[tL]
 by_cases c1:24<b.aB.length
 ·have cI:(24:Int)<b.aB.length:=by omega
  rw[if_pos c1];simp[f129,cI]
 have e:¬(24:Int)<b.aB.length:=by omega
 rw[if_neg c1];simp[f129,e];refine lp (α:=Nat) (fun i=>⟨[(16,.p (.int .i64 i)),(15,.p (.int .i64 b.aB.length)),(14,.p (.seq (b.aB.map bO))),(2,.func 130 [] [.ptr 0 []]),(0,.p (.seq (b.aB.map bO)))],[.box false (.p (b6 t))]⟩) (fun i=>i<=b.aB.length/\∀j,j<i->ga (gX t) b.aB j=0) (fun i=>b.aB.length-i) 0 (by simp) ?_;rintro i ⟨k1,k2⟩
 by_cases hk:i<b.aB.length
 ·have gk:=ar.ft hk;have m:=ct (i:=i) (by omega);have a:=aof t (b.sp i) (b.aB.take i) h l (d _ (am gk)) (by rw[aT];omega) (fun o k=>by
   obtain⟨j,f,rfl⟩:=av.1 k;rw[aT]at f;rw[List.getElem_take];have:=k2 j (by omega);have g:=ar.ft (t:=b) (i:=j) (by omega);rw[ga,g]at this;rw[ar.nG (by omega)];exact⟨d _ (am g),B3 this⟩)
  rw[a4]at a
  by_cases he:gX t (b.aB.take i) (b.sp i)=0
  ·rw[he]at a;have:=tC k2 gk he;simp[hk,gk,aa];refine⟨⟨k1,KG _⟩,?_⟩;refine ef a [0] ?_;simp[m,aa,bf,sig];exact rd (i+1) ⟨hk,this⟩
  ·have c:=tD k2 gk he;rw[c];simp[hk,gk,aa];refine⟨⟨k1,KG _⟩,?_⟩;refine ef a [0] ?_;simp[he,aa,bf,sig];exact cV.og (by simp) (by simp) (by simp) (by simp) (by simp)
 ·have:i=b.aB.length:=by omega
  subst this;rw[nJ.2 k2];simp
theorem B0(t b:ar)(a:gJ t)(c:lU b):aA prog 51 [b6 t,.seq (b.aB.map bO)] (.int .i64 (gw t b)):=by
 have k1:=tz t a;refine aG nf QB mix (by simp[f51]) ?_;rw[gw]
 by_cases h:cG t=0
 ·rw[if_neg (by simp[h])];have k2:=aog t b a.cl h c;rw[h]at k1;simp[f51,aa];refine Go.ag.c1 k1 ?_;simp[aa];refine cf k2 [0] ?_;simp[aa,bf]
 ·rw[if_pos h];generalize cG t=e at*;simp[f51,aa];refine Go.ag.c1 k1 ?_;simp[h,aa]
def Fb(l:List cF)(n:List Nat):Option cF:=l.find? (fun s=>decide (s.name=n))
structure Rl(b:ar):Prop where
 sl:b.aB.length<=24
 sp:∀s∈b.aB,pz s
 ne:∀i,i<b.aB.length->Fb (b.aB.take i) (b.sp i).name=none
theorem aEV{t b:ar}(l:lU b)(h:gw t b=0):cG t=0/\Rl b/\(∀s∈b.aB,0<=t.on (vP s.pt)):=by
 rw[gw]at h
 by_cases c:cG t=0
 case neg=>rw[if_pos c]at h;exact absurd h c
 rw[if_neg (by simp[c]),tL]at h
 by_cases f:24<b.aB.length
 ·rw[if_pos f]at h;omega
 rw[if_neg f]at h;have k:=nJ.1 h;have d:∀i,i<b.aB.length->gX t (b.aB.take i) (b.sp i)=0:=fun i hi=>by
  have:=k i hi
  rwa [ga,ar.ft hi]at this
 refine⟨c,⟨by omega,fun s hs=>?_,fun i hi=>?_⟩,fun s hs=>?_⟩
 ·obtain⟨j,a,rfl⟩:=av.1 hs;rw[ar.nG a];exact⟨l.sp _ (am (ar.ft a)),B3 (d j a)⟩
 ·have:=d i hi;rw[gX]at this
  split at this
  ·omega
  split at this
  ·omega
  rename_i g;rw[Fb,List.find?_eq_none];intro x hx e;exact g (a1.2 ⟨x,hx,e⟩)
 ·obtain⟨j,a,rfl⟩:=av.1 hs;rw[ar.nG a];have:=d j a;rw[gX]at this
  split at this
  ·omega
  split at this
  ·omega
  split at this
  ·contradiction
  split at this
  ·omega
  omega
def hasB(b:ar)(name:List Nat)(i:Nat):Prop:=lg b name=i/\i<b.aB.length/\Fb b.aB name=some (b.sp i)
structure Rm(t b:ar)(E5 EV:List Nat)(i j:Nat):Prop where
 tj:cG t=0
 tl:t.cs.length<=1000000
 L:Rl b
 YU:∀s∈b.aB,bS 60 (vP s.pt)
 ci:hasB b E5 i
 bj:hasB b EV j
theorem Rm.at{t b:ar}{E5 EV:List Nat}{i j:Nat}(h:Rm t b E5 EV i j){k:Nat}(hk:k<b.aB.length):eV (vP (b.sp k).pt)=du (b.sp k).pt/\bS 60 (vP (b.sp k).pt):=by
 have m:=am (ar.ft hk);exact⟨(lr (h.L.sp _ m).2).1,h.YU _ m⟩
def re(n:Nat)(l:List cF):Bool:=!((decide (n<l.length)&&decide (l.length<=24))||decide (26<l.length))&&l.all gF
theorem Gy(b:ar)(n:Nat)(v:b.aB.length<=1000000)(w:n<=1000):aA prog 32 [.seq (b.aB.map bO),.int .i64 n] (.bool (re n b.aB)):=by
 refine aG nf Qs mix (by simp[f32]) ?_;have o:re n b.aB=(!((decide (n<b.aB.length)&&decide (b.aB.length<=24))||decide (26<b.aB.length))&&b.aB.all gF):=rfl;have tail:(n<b.aB.length->¬b.aB.length<=24)->¬26<b.aB.length->re n b.aB=b.aB.all gF:=fun d a=>by
  rw[o]
  by_cases h:n<b.aB.length
  ·have:=d h;simp[h,this,a]
  ·simp[h,a]
 have loop:(n<b.aB.length->¬b.aB.length<=24)->¬26<b.aB.length->∀i,i<b.aB.length->(gF (b.sp i)=false->re n b.aB=false):=fun d a i hi h=>by
  rw[tail d a];exact jZ (ar.ft hi) h
 generalize re n b.aB=R at*
 by_cases c1:n<b.aB.length/\b.aB.length<=24
 ·have z:(n:Int)<b.aB.length:=by omega
  have e:(b.aB.length:Int)<=24:=by omega
  have l:R=false:=by rw[o];simp[c1]
  simp[f32,aa,c1.1,e,l]
 by_cases c2:26<b.aB.length
 ·have g:(26:Int)<b.aB.length:=by omega
  have e:¬(b.aB.length:Int)<=24:=by omega
  have l:R=false:=by rw[o];simp[c2]
  by_cases c3:n<b.aB.length
  ·simp[f32,aa,c3,e,g,l]
  ·simp[f32,aa,c3,g,l]
 have g:¬(26:Int)<b.aB.length:=by omega
 have tl:=tail (fun d a=>c1 ⟨d,a⟩) c2;have j:=loop (fun d a=>c1 ⟨d,a⟩) c2;clear tail loop o
 by_cases c3:n<b.aB.length
 all_goals
  have e:n<b.aB.length->¬(b.aB.length:Int)<=24:=fun h=>by omega
  first
  |(have e:=e c3;simp[f32,aa,c3,e,g])
  |simp[f32,aa,c3,g]
  refine lp (α:=Nat) (fun i=>⟨[(5,.p (.int .i64 i)),(0,.p (.seq (b.aB.map bO)))],[]⟩) (fun i=>i<=b.aB.length/\(b.aB.take i).all gF=true) (fun i=>b.aB.length-i) 0 (by simp) ?_;rintro i ⟨k1,k2⟩
  by_cases hi:i<b.aB.length
  ·have c:=ar.ft hi;have u:=ct (i:=i) (by omega);have k:=mK (b.sp i).pt.x 40;have q:=mK (b.sp i).pt.y 40;have m:gF (b.sp i)=(decide ((b.sp i).name.length<=40)&&(decide ((b.sp i).pt.x.length<=40)&&decide ((b.sp i).pt.y.length<=40))):=rfl;have j:=j i hi
   by_cases t:(b.sp i).name.length<=40
   case neg=>
    have f:(40:Int)<(b.sp i).name.length:=by omega
    have:=j (by rw[m];simp[t]);simp[hi,c,f,this,aa]
   have f:¬(40:Int)<(b.sp i).name.length:=by omega
   by_cases a2:(b.sp i).pt.x.length<=40
   case neg=>
    have r:¬((b.sp i).pt.x.length:Int)<=40:=by omega
    rw[decide_eq_false r]at k;have:=j (by rw[m];simp[a2]);simp[hi,c,f,aa];refine Go.ag.c2 k ?_;simp[this,aa]
   have r:((b.sp i).pt.x.length:Int)<=40:=by omega
   rw[decide_eq_true r]at k
   by_cases a3:(b.sp i).pt.y.length<=40
   case neg=>
    have s:¬((b.sp i).pt.y.length:Int)<=40:=by omega
    rw[decide_eq_false s]at q;have:=j (by rw[m];simp[a3]);simp[hi,c,f,aa];refine Go.ag.c2 k ?_;simp[hi,c,aa];refine Go.ag.c2 q ?_;simp[this,aa]
   have s:((b.sp i).pt.y.length:Int)<=40:=by omega
   rw[decide_eq_true s]at q;simp[hi,c,f,aa];refine Go.ag.c2 k ?_;simp[hi,c,aa];refine Go.ag.c2 q ?_;simp[u,aa];exact rd (i+1) ⟨hi,by rw[vL c,k2,m];simp[t,a2,a3]⟩
  ·have:i=b.aB.length:=by omega
   subst this;rw[ap]at k2;rw[tl,k2];simp
theorem Hi(b:ar)(f:b.aB.length<=1000000):aA prog 35 [.seq (b.aB.map bO)] (.seq (b.aB.map bO)):=by
 have g:(1000000:Nat)<di:=by decide
 have h:ac.wrap 1=1:=by decide
 refine aG nf Qu mix (by simp[f35]) ?_;simp[f35,aa];refine lp (α:=Nat) (fun i=>⟨[(8,.p (.int .i64 i)),(7,.p (.int .i64 b.aB.length)),(6,.p (.seq (b.aB.map bO))),(3,.sl 0 i 3 0 i)],[.arr .grow i 3 ((b.aB.map (AV.p∘bO)).take i)]⟩) (fun i=>i<=b.aB.length) (fun i=>b.aB.length-i) 0 (by simp) ?_;rintro i i1
 by_cases hi:i<b.aB.length
 ·have a:=ar.ft hi;have e:=ct (i:=i) (by omega);have d:(b.aB.map (AV.p∘bO)).take (i+1)=(b.aB.map (AV.p∘bO)).take i++[.p (bO (b.sp i))]:=by
   rw[ax,List.getElem?_map,a];rfl
  have c:min i b.aB.length=i:=by omega
  simp[hi,a,e,c,aa];exact⟨by omega,rd (i+1) hi (hh:=by simp[d]) (hr2:=by simp[ka])⟩
 ·have:i=b.aB.length:=by omega
  subst this;simp[aa]
theorem Ij(s:List Nat):(cU s).length<=s.length:=by
 rw[cU];split<;>simp
theorem pM{s:List Nat}(h:bK s=0)(b:s.length<=40):bI 133 (aL s):=by
 obtain⟨l,g,i⟩:=fU h;have c:(10:Nat)^40<=2^133:=by decide
 unfold bK at h
 split at h
 ·cases h
 rename_i a;have a:jN s=true:=by simpa using a
 simp only[jN,Bool.and_eq_true,Bool.or_eq_true,decide_eq_true_eq]at a;obtain⟨⟨d,_⟩,a3⟩:=a;have j:(bH s).length<=40:=a8 (qf 47 (cU s)).1 (a8 (Ij s) b);have k:(bQ s).length<=40:=a8 (qf 47 (cU s)).2.1 (a8 (Ij s) b);have f:=a9 (Bi j (jf d)) c;refine⟨?_,?_⟩
 ·rw[g];have e:(if bZ s=true then -(aZ (bH s):Int)else aZ (bH s)).natAbs=aZ (bH s):=by split<;>omega
  rw[e];exact f
 ·rw[i]
  by_cases hf:et s=true
  ·rw[if_pos hf];rcases a3 with a3|a3
   ·rw[hf]at a3;cases a3
   ·exact a9 (Bi k (jf a3.1.1)) c
  ·rw[if_neg hf];decide
def dd(f:Nat->Bool):Nat->Nat
 |0=>0
 |n+1=>if dd f n<n then dd f n else if f n=true then n else n+1
theorem lX(f:Nat->Bool):∀n,dd f n<=n/\(∀i,i<dd f n->f i=false)/\(dd f n<n->f (dd f n)=true)
 |0=>⟨a7 _,fun i h=>absurd h (be _),fun h=>absurd h (be _)⟩
 |n+1=>by
  obtain⟨g,a,b⟩:=lX f n;rw[dd]
  by_cases c:dd f n<n
  ·rw[if_pos c];exact⟨by omega,a,fun _=>b c⟩
  ·rw[if_neg c];have e:dd f n=n:=by omega
   rw[e]at a
   by_cases d:f n=true
   ·rw[if_pos d];exact⟨by omega,a,fun _=>d⟩
   ·rw[if_neg d];refine⟨a7 _,fun i hi=>?_,fun h=>absurd h (Nat.lt_irrefl _)⟩
    by_cases e2:i=n
    ·rw[e2];simpa using d
    ·exact a i (by omega)
theorem tO{f:Nat->Bool}{n i:Nat}(b:i<=dd f n)(c:i<n)(a:f i=true):dd f n=i:=by
 obtain⟨k1,k2,k3⟩:=lX f n;rcases bi i (dd f n)with h|h
 ·rw[k2 i h]at a;cases a
 ·omega
theorem tN{f:Nat->Bool}{n i:Nat}(b:i<=dd f n)(c:i<n)(a:f i=false):i+1<=dd f n:=by
 obtain⟨k1,k2,k3⟩:=lX f n;rcases bi i (dd f n)with h|h
 ·omega
 ·have e:dd f n=i:=by omega
  have:=k3 (by omega);rw[e,a]at this;cases this
theorem It{f g:Nat->Bool}:∀{n:Nat},(∀i,i<n->f i=g i)->dd f n=dd g n
 |0,_=>rfl
 |n+1,h=>by rw[dd,dd,It (fun i hi=>h i (by omega)),h n (by omega)]
def dZ(k n:Nat):Int:=if k<n then k else -1
def ar.iM(t:ar):Nat->Int
 |0=>0
 |m+1=>t.iM m+(t.at m).x*(t.at (t.nx m)).y-(t.at m).y*(t.at (t.nx m)).x
theorem Is{a b:dR}(c:dL a)(d:dL b):-100000000<=a.x*b.y/\a.x*b.y<=100000000/\-100000000<=a.y*b.x/\a.y*b.x<=100000000:=by
 simp only[dL]at c d;have e:=tv (a:=a.x) (b:=b.y) (A:=10000) (B:=10000) (by omega) (by omega) (by omega) (by omega);have f:=tv (a:=a.y) (b:=b.x) (A:=10000) (B:=10000) (by omega) (by omega) (by omega) (by omega);omega
theorem ar.yZ{t:ar}(a:∀p∈t.cs,dL p):∀m,m<=t.cs.length->-(200000000*(m:Int))<=t.iM m/\t.iM m<=200000000*(m:Int)
 |0,_=>by simp[ar.iM]
 |m+1,h=>by
  have b:=ar.yZ a m (by omega);have:=Is (ar.dY a (show m<t.cs.length by omega)) (ar.dY a (t.iJ (by omega) m));rw[ar.iM];omega
theorem Y1(t:ar)(j:t.cs.length<=1000000)(c:∀p∈t.cs,dL p):aA prog 17 [ch t] (.str (bn (iW (t.iM t.cs.length) 2))):=by
 have z:=ar.yZ c t.cs.length (a7 _);have m:=EY (t.iM t.cs.length) 2 (by decide) (by omega) (by decide);refine aG nf Qg mix (by simp[f17]) ?_;simp[f17,aa];refine lp (α:=Nat) (fun i=>⟨[(4,.p (.int .i64 i)),(3,.p (.int .i64 (t.iM i))),(1,.ptr 0 [])],[.box false (.p (ch t))]⟩) (fun i=>i<=t.cs.length) (fun i=>t.cs.length-i) 0 (by simp) ?_ (he:=by simp[ar.iM]);rintro i v
 by_cases hi:i<t.cs.length
 ·have g:=ar.get hi;have kE:=vR t i hi j;have l:=ct (i:=i) (by omega);have w:=ar.yZ c i (by omega);have n:=Is (ar.dY c hi) (ar.dY c (t.iJ (by omega) i));have hs:t.iM (i+1)=t.iM i+(t.at i).x*(t.at (t.nx i)).y-(t.at i).y*(t.at (t.nx i)).x:=rfl;generalize t.iM i=S at*;generalize h:t.at i=a at*;generalize t.at (t.nx i)=b at*;obtain⟨d,e⟩:=a;obtain⟨bx,f⟩:=b;simp only at n hs;generalize k:d*f=p at*
  generalize hq:e*bx=q at*;have o:ac.wrap p=p:=aO _ (by omega) (by omega);have r:ac.wrap (S+p)=S+p:=aO _ (by omega) (by omega);have s:ac.wrap q=q:=aO _ (by omega) (by omega);have u:ac.wrap (S+p-q)=S+p-q:=aO _ (by omega) (by omega);simp only[ahU]at*;simp[hi,g,h,aa];refine e2 kE ?_;simp[aa];refine⟨by repeat' first|rfl|apply ab,?_⟩;simp[aa,k,hq,o,r,s,u,l];exact rd (i+1) hi (he:=by simp[hs])
 ·have:i=t.cs.length:=by omega
  subst this;simp[aa];refine Go.ag.c2 m ?_;simp
def ar.qL(t:ar)(i:Nat)(s:Rat):V2:=(eO (t.at i)).add ((t.eP i).mul s)
theorem aEY{t:ar}(a:∀p∈t.cs,dL p){i k:Nat}{s:Rat}(hi:i<t.cs.length)(hs:bI k s):bS (k+44) (t.qL i s):=by
 have:=F0 (iy (ar.dY a hi)) (yK (ar.okW a hi) hs);exact this.mono (by omega)
theorem Y2(t:ar)(i:Nat)(s:Rat)(f:t.cs.length<=1000000)(b:∀p∈t.cs,dL p)(hi:i<t.cs.length)(hs:bI 3000 s):aA prog 26 [ch t,.int .i64 i,.str (bn s)] (eV (t.qL i s)):=by
 have a:=ar.get hi;have e:=iy (ar.dY b hi);have l:=iy (ar.dY b (t.iJ (by omega) i));have g:=tA (t.at i) (ar.dY b hi);have h:=vR t i hi f;have j:=tA (t.at (t.nx i)) (ar.dY b (t.iJ (by omega) i));have c:=u6 (eO (t.at (t.nx i))) (eO (t.at i)) (l.mono (by decide)) (e.mono (by decide));rw[show(eO (t.at (t.nx i))).sub (eO (t.at i))=t.eP i from rfl]at c;have k:=Si (t.eP i) s ((ar.okW b hi).mono (by decide)) (hs.mono (by decide));have d:=F3 (eO (t.at i)) ((t.eP i).mul s) (e.mono (by decide)) ((yK (ar.okW b hi) hs).mono (by decide));rw[show(eO (t.at i)).add ((t.eP i).mul s)=t.qL i s from rfl]at d;refine aG nf Qn mix (by simp[f26]) ?_;generalize t.qL i s=r at*;generalize (t.eP i).mul s=u at*;generalize t.eP i=w at*;simp[f26,aa,a,hi];refine e1 g ?_;simp[aa,a,hi];refine e2 h ?_;simp[aa,a,hi];refine e1 j ?_;simp[aa,a,hi];refine⟨by repeat' first|rfl|apply ab,?_⟩;refine e2 c ?_;simp[aa,a,hi];refine e2 k ?_;simp[aa,a,hi];refine e2 d ?_;simp[aa,a,hi]
def ar.shr(t:ar)(i:Nat)(v:V2):Rat:=((v.sub (eO (t.at i))).dot (t.eP i))/((t.eP i).dot (t.eP i))
theorem Ii(t:ar)(i:Nat)(v:V2)(j:t.cs.length<=1000000)(b:∀p∈t.cs,dL p)(hi:i<t.cs.length)(e:bS 3000 v)(f:(t.eP i).dot (t.eP i)≠0):aA prog 31 [ch t,.int .i64 i,eV v] (.str (bn (t.shr i v))):=by
 have a:=ar.get hi;have d:=iy (ar.dY b hi);have s:=iy (ar.dY b (t.iJ (by omega) i));have c:=ar.okW b hi;have k:=tA (t.at i) (ar.dY b hi);have l:=vR t i hi j;have m:=tA (t.at (t.nx i)) (ar.dY b (t.iJ (by omega) i));have g:=u6 (eO (t.at (t.nx i))) (eO (t.at i)) (s.mono (by decide)) (d.mono (by decide));rw[show(eO (t.at (t.nx i))).sub (eO (t.at i))=t.eP i from rfl]at g;have n:=u6 v (eO (t.at i)) (e.mono (by decide)) (d.mono (by decide));have o:=LH (v.sub (eO (t.at i))) (t.eP i) ((mz e d).mono (by decide)) (c.mono (by decide));have q:=IM (t.eP i) (c.mono (by decide));have h:=Y5 ((v.sub (eO (t.at i))).dot (t.eP i)) ((t.eP i).dot (t.eP i)) ((pU (mz e d) c).mono (by decide)) ((pU c c).mono (by decide)) f;rw[show((v.sub (eO (t.at i))).dot (t.eP i))/((t.eP i).dot (t.eP i))=t.shr i v from rfl]at h;refine aG nf Qr mix (by simp[f31]) ?_;clear f;generalize t.shr i v=r at*;generalize (v.sub (eO (t.at i))).dot (t.eP i)=u at*;generalize (t.eP i).dot (t.eP i)=x at*;generalize t.eP i=w at*;generalize v.sub (eO (t.at i))=y at*;simp[f31,aa,a,hi];refine e1 k ?_;simp[aa,a,hi];refine e2 l ?_;simp[aa,a,hi];refine e1 m ?_;simp[aa,a,hi];refine⟨by repeat' first|rfl|apply ab,?_⟩;refine Go.ag.c2 g ?_;simp[aa,a,hi];refine e2 n ?_;simp[aa,a,hi];refine e2 o ?_;simp[aa,a,hi];refine e1 q ?_;simp[aa,a,hi];refine e2 h ?_;simp[aa,a,hi]
theorem Iv(v w:NV)(a:bS kQ v.q)(b:bS kQ w.q):aA prog 90 [cM v,cM w] (cM (v.add w)):=by
 have c:=u5 v.x w.x (dN a.1) (dN b.1);have d:=u5 v.y w.y (dN a.2) (dN b.2);refine aG nf Q5 mix (by simp[f90]) ?_;rw[NV.add,tI];simp[f90,aa];refine e2 c ?_;simp[aa];refine e2 d ?_;simp[aa]
theorem Tq(v:NV)(x:NF)(a:bS kQ v.q)(hx:bI kQ x.q):aA prog 92 [cM v,eF x] (cM (v.times x)):=by
 have b:=qA v.x x (dN a.1) (dN hx);have c:=qA v.y x (dN a.2) (dN hx);refine aG nf Q7 mix (by simp[f92]) ?_;rw[NV.times,tI];simp[f92,aa];refine e2 b ?_;simp[aa];refine e2 c ?_;simp[aa]
theorem Ia(v:NV)(h:bS 1800 v.q):aA prog 94 [cM v] (.aE [eV v.q,.int .i64 0]):=by
 have a:=Ah v.x (h.1.mono (by decide));have b:=Ah v.y (h.2.mono (by decide));rw[Fv (show bI 1800 v.x.q from h.1)]at a;rw[Fv (show bI 1800 v.y.q from h.2)]at b;have c:=z8 v.x (h.1.mono (by decide));have d:=z8 v.y (h.2.mono (by decide));obtain⟨x,y⟩:=v;refine aG nf Q9 mix (by simp[f94]) ?_;rw[tI,show eV (NV.q ⟨x,y⟩)=eV ⟨x.q,y.q⟩from rfl,xR];simp[f94,aa];refine Go.ag.c1 a ?_;simp[aa];refine Go.ag.c1 b ?_;simp[aa];refine Go.ag.e1 c ?_;simp[aa];refine Go.ag.e1 d ?_;simp[aa]
theorem IH(x:NF)(h:bI 1800 x.q):aA prog 72 [eF x] (.aE [.str (bn x.q),.int .i64 0]):=by
 have a:=Ah x (h.mono (by decide));rw[Fv h]at a;have b:=z8 x (h.mono (by decide));refine aG nf QM mix (by simp[f72]) ?_;simp[f72,aa];refine Go.ag.c1 a ?_;simp[aa];refine Go.ag.c1 b ?_;simp[aa]
noncomputable def ar.iK(t:ar):Nat->NF
 |0=>.int 0
 |m+1=>(t.iK m).add ((b8 (t.at m)).fw (b8 (t.at (t.nx m))))
theorem ar.Cf(t:ar):∀m,(t.iK m).q=((t.iM m:Int):Rat)
 |0=>rfl
 |m+1=>by
  rw[ar.iK,ar.iM,Rat.intCast_sub,Rat.intCast_add,bl,bl,<-ar.Cf t m];show _+_=_;rw[NV.yM,yW,yW,V2.fw];show _+((((t.at m).x:Int):Rat)*_-_)=_;rw[eO,eO]
  grind
noncomputable def v8(t:ar)(L:ek)(i:Nat):Heap:=[.box false (.p (b6 t)),.box false (.p (eF (t.iK i))),.loop L]
theorem Zq(t:ar)(j:gJ t):aA prog 13 [b6 t] (.aE (if cG t=0 then[.str (bn (iW (t.iM t.cs.length) 2)),.int .i64 0]else[.str [],.int .i64 (cG t)])):=by
 have p:=j.cl;have k1:=tz t j
 by_cases h:cG t=0
 case neg=>
  rw[if_neg h];generalize cG t=e at*;refine aG nf Fj mix (by simp[f13]) ?_;simp[f13,aa];refine Go.ag.c1 k1 ?_;simp[h,aa]
 rw[if_pos h];rw[h]at k1;obtain⟨y,z,b,_⟩:=jD h;have k2:=qO 0 (by decide) (by decide);have d:∀m,m<=t.cs.length->bI 41 (t.iK m).q:=fun m r=>by
  rw[ar.Cf];have:=ar.yZ b m r;exact xG (k:=41) (by omega) (by decide)
 have k4:=qO 2 (by decide) (by decide);have c:(NF.int 2).q=2:=rfl;have k5:=EU (t.iK t.cs.length) (.int 2) ((d _ (a7 _)).mono (by decide)) (by rw[c];exact⟨by decide+kernel,by decide+kernel⟩) (by rw[c];decide);have v:bI 1800 ((t.iK t.cs.length).div (.int 2)).q:=(aEU (d _ (a7 _)) (show bI 2 (NF.int 2).q by rw[c];exact⟨by decide+kernel,by decide+kernel⟩)).mono (by decide);have k6:=IH _ v;have e5:((t.iK t.cs.length).div (.int 2)).q=iW (t.iM t.cs.length) 2:=by
  rw[show((t.iK t.cs.length).div (.int 2)).q=(t.iK t.cs.length).q/(NF.int 2).q from rfl,ar.Cf,c,TM,Rat.div_def];rfl
 rw[e5]at k6;have s:t.iK 0=.int 0:=rfl;rw[<-s]at k2;refine aG nf Fj mix (by simp[f13]) ?_;simp[f13,aa];refine Go.ag.c1 k1 ?_;simp[aa];refine Go.ag.c1 k2 ?_;simp[aa];refine Go.ag.c1 (Cg t) ?_;simp;refine rf (Ch t p b) rfl (by simp) (v8 t) t.cs.length (by simp) (fun L=>rfl) ?_ ?_ ?_
 ·intro L a i hi;refine⟨rfl,by simp[v8],fun _ hx=>?_⟩;simp[v8]at hx⊢;exact hx
 ·intro L a i x hi hx;rw[tx hi]at hx;injection hx with hx
  subst hx;have l:=iy (ar.dY b hi);have n:=iy (ar.dY b (t.iJ (by omega) i));have o:=BW (b8 (t.at i)) (b8 (t.at (t.nx i))) (l.mono (by decide)) (n.mono (by decide));have u:bI 57 ((b8 (t.at i)).fw (b8 (t.at (t.nx i)))).q:=by rw[NV.yM];exact FZ l n
  have f:=u5 (t.iK i) ((b8 (t.at i)).fw (b8 (t.at (t.nx i)))) ((d i (by omega)).mono (by decide)) (u.mono (by decide));rw[show(t.iK i).add ((b8 (t.at i)).fw (b8 (t.at (t.nx i))))=t.iK (i+1)from rfl]at f;refine vK nf mix a rfl rfl (by kernel_rfl) ?_;have g:=congrArg ek.env a;dsimp only at g;clear a;simp only[v8];generalize t.iK (i+1)=w at*;generalize t.iK i=S at*;generalize (b8 (t.at i)).fw (b8 (t.at (t.nx i)))=C at*;simp[pI,nA,aa];refine e2 o ?_;simp[aa];refine e2 f ?_;simp[aa];refine⟨by repeat' first|rfl|apply ab,?_⟩;refine cV.og (by simp) (by simp) (by simp) (by simp) ?_;simp;exact tH g (by simp)
 ·intro L a;refine .inl ⟨by simp,?_⟩;simp only[v8];generalize t.iK t.cs.length=S at*;simp[aa];refine e1 k4 ?_;simp[aa];refine e2 k5 ?_;simp[aa];refine e1 k6 ?_;simp[aa]
def jE(t:ar)(e:Int)(s:List Nat):Int:=bt [cG t,aX (decide (e<0\/(t.cs.length:Int)<=e)) 10,bK s]
def iN(t:ar)(e:Int)(s:List Nat):Int:=if jE t e s=0 then dH (aL s)else jE t e s
theorem wj{t:ar}{e:Int}{s:List Nat}(h:jE t e s=0):cG t=0/\0<=e/\e<t.cs.length/\bK s=0:=by
 rw[jE,jK]at h;have a:=h (aX (decide (e<0\/(t.cs.length:Int)<=e)) 10) (by simp)
 by_cases c:e<0\/(t.cs.length:Int)<=e
 ·simp[aX,c]at a
 ·exact⟨h _ (by simp),by omega,by omega,h _ (by simp)⟩
theorem Ci{t:ar}{e:Int}{s:List Nat}(h:iN t e s=0):jE t e s=0/\dH (aL s)=0:=by
 rw[iN]at h
 split at h
 ·exact⟨by assumption,h⟩
 ·contradiction
theorem Ig(t:ar)(e:Int)(s:List Nat)(l:gJ t)(hs:fW s):aA prog 88 [b6 t,.int .i64 e,.str s] (.int .i64 (iN t e s)):=by
 have k1:=tz t l;have k2:=fun b=>gH b 10;have k3:=yg s hs.1 hs.2;have k4:=lj [cG t,aX (decide (e<0\/(t.cs.length:Int)<=e)) 10,bK s] (by simp);rw[show bt [cG t,aX (decide (e<0\/(t.cs.length:Int)<=e)) 10,bK s]=jE t e s from rfl]at k4;have k5:=fun h:jE t e s=0=>BR s hs (wj h).2.2.2;have i:∀b:Bool,decide (e<0\/(t.cs.length:Int)<=e)=b->aA prog 79 [.bool b,.int .i64 10] (.int .i64 (aX b 10))/\aA prog 78 [.seq [.int .i64 (cG t),.int .i64 (aX b 10),.int .i64 (bK s)]] (.int .i64 (jE t e s)):=fun b k=>by
  rw[k]at k4;exact⟨k2 b,by simpa using k4⟩
 rw[iN];clear k4 k2;generalize jE t e s=g at*;generalize cG t=m at*;generalize bK s=n at*;generalize dH (aL s)=o at*;refine aG nf Q2 mix (by simp[f88]) ?_;simp[f88,aa];refine Go.ag.c1 k1 ?_;simp[aa]
 by_cases c:e<0
 ·have d:¬0<=e:=by omega
  obtain⟨f1,f2⟩:=i true (by simp[c]);simp[c,d,aa];refine Go.ag.c2 f1 ?_;simp[aa];refine Go.ag.c1 k3 ?_;simp[aa];refine cp f2 (by simp;first|exact⟨rfl,rfl⟩|rfl) ?_
  by_cases a:g=0
  case neg=>simp[a,aa]
  simp[a,aa];refine Go.ag.c1 (k5 a) ?_;simp[a,aa]
 have d:0<=e:=by omega
 by_cases f:(t.cs.length:Int)<=e
 ·have j:¬e<t.cs.length:=by omega
  obtain⟨f1,f2⟩:=i true (by simp[c,f]);simp[c,d,f,j,aa];refine Go.ag.c2 f1 ?_;simp[aa];refine Go.ag.c1 k3 ?_;simp[aa];refine cp f2 (by simp;first|exact⟨rfl,rfl⟩|rfl) ?_
  by_cases a:g=0
  case neg=>simp[a,aa]
  simp[a,aa];refine Go.ag.c1 (k5 a) ?_;simp[a,aa]
 ·have j:e<t.cs.length:=by omega
  obtain⟨f1,f2⟩:=i false (by simp[c,f]);simp[c,d,f,j,aa];refine Go.ag.c2 f1 ?_;simp[aa];refine Go.ag.c1 k3 ?_;simp[aa];refine cp f2 (by simp;first|exact⟨rfl,rfl⟩|rfl) ?_
  by_cases a:g=0
  case neg=>simp[a,aa]
  simp[a,aa];refine Go.ag.c1 (k5 a) ?_;simp[a,aa]
noncomputable def ar.ye(t:ar)(i:Nat)(s:List Nat):NV:=(b8 (t.at i)).add ((t.dB i).times ⟨aL s,false⟩)
theorem ar.Np(t:ar)(i:Nat)(s:List Nat):(t.ye i s).q=t.qL i (aL s):=by
 rw[ar.ye,NV.Cp,NV.Ge,ar.tG,yW];rfl
theorem Zr(t:ar)(e:Int)(s:List Nat)(j:gJ t)(hs:fW s)(v:s.length<=40):aA prog 18 [b6 t,.int .i64 e,.str s] (.aE (if iN t e s=0 then[eV (t.qL e.toNat (aL s)),.int .i64 0]else[fo,.int .i64 (iN t e s)])):=by
 have k1:=Ig t e s j hs
 by_cases h:iN t e s=0
 case neg=>
  rw[if_neg h,fo];generalize iN t e s=x at*;refine aG nf Fk mix (by simp[f18]) ?_;simp[f18,aa];refine Go.ag.c3 k1 ?_;simp[h,aa]
 rw[if_pos h];rw[h]at k1;obtain⟨g1,g2⟩:=Ci h;obtain⟨p,z,A,g⟩:=wj g1;obtain⟨B,C,a,_⟩:=jD p;obtain⟨i,rfl⟩:∃i:Nat,e=i:=⟨e.toNat,by omega⟩
 have hi:i<t.cs.length:=by omega
 rw[show((i:Int)).toNat=i from by omega];have l:=iy (ar.dY a hi);have y:=iy (ar.dY a (t.iJ (by omega) i));have b:=pM g v;have k:bS 29 (t.dB i).q:=by rw[ar.tG];exact ar.okW a hi
 have m:=Ib t i hi j.cl a;have c:=tJ (b8 (t.at (t.nx i))) (b8 (t.at i)) (y.mono (by decide)) (l.mono (by decide));rw[show(b8 (t.at (t.nx i))).sub (b8 (t.at i))=t.dB i from rfl]at c;have n:=jP s g hs.1;have o:=Tq (t.dB i) ⟨aL s,false⟩ (k.mono (by decide)) (b.mono (by decide));have d:=Iv (b8 (t.at i)) ((t.dB i).times ⟨aL s,false⟩) (l.mono (by decide)) (by rw[NV.Ge];exact(yK k b).mono (by decide));rw[show(b8 (t.at i)).add ((t.dB i).times ⟨aL s,false⟩)=t.ye i s from rfl]at d;have f:=Ia (t.ye i s) (by rw[ar.Np];exact(aEY a hi b).mono (by decide));rw[ar.Np]at f;generalize t.qL i (aL s)=r at*;generalize t.ye i s=D at*;generalize (t.dB i).times ⟨aL s,false⟩=u at*;generalize t.dB i=w at*;generalize (NF.mk (aL s) false)=E at*;refine aG nf Fk mix (by simp[f18]) ?_;simp[f18,aa];refine Go.ag.c3 k1 ?_;simp[aa];refine Go.ag.c2 m ?_;simp[nA,aa];refine Go.ag.e2 c ?_;simp[aa];refine Go.ag.e1 n ?_;simp[aa];refine Go.ag.e2 o ?_;simp[aa];refine Go.ag.e2 d ?_;simp[aa];refine Go.ag.e1 f ?_;simp[aa]
theorem Zu(t:ar)(p:dU)(b:gJ t)(a:jk p):aA prog 49 [b6 t,du p] (.aE [.int .i64 (if iG t p=0 then t.on (vP p)else 0),.int .i64 (iG t p)]):=by
 have k1:=tz t b;have k2:=ru p a;have k3:=lj [cG t,bX p] (by simp);simp only[a5,a6]at k3;rw[show bt [cG t,bX p]=iG t p from rfl]at k3;have k4:iG t p=0->aA prog 107 [du p] (cM (.from p))/\aA prog 118 [b6 t,cM (.from p)] (.int .i64 (t.on (vP p))):=fun h=>by
  obtain⟨f,z2⟩:=yN h;obtain⟨g,i,c,_⟩:=jD f;obtain⟨g1,g2⟩:=gB z2;have:=wx t (.from p) b.cl c (rB ⟨(dW g1).mono (by decide),(dW g2).mono (by decide)⟩);rw[mA]at this;exact⟨pL p g1 g2 a,this⟩
 generalize iG t p=E at*;generalize cG t=l at*;generalize bX p=m at*;generalize t.on (vP p)=n at*;generalize NV.from p=v at*;obtain⟨j,k⟩:=p;simp only[du]at*;refine aG nf Qz mix (by simp[f49]) ?_;simp[f49,aa];refine Go.ag.e1 k1 ?_;simp[aa];refine Go.ag.e1 k2 ?_;simp[aa];refine ep k3 (by simp;first|exact⟨rfl,rfl⟩|rfl) (by simp;first|exact⟨rfl,rfl⟩|rfl) ?_;simp[aa];refine⟨by repeat' first|rfl|apply ab,?_⟩
 by_cases h:E=0
 case neg=>simp[h,aa]
 obtain⟨d,e⟩:=k4 h;simp[h,aa];refine Go.ag.e1 d ?_;simp[aa];refine Go.ag.e2 e ?_;simp[h,aa]
def mN(t b:ar)(p:dU):Int:=bt [gw t b,bX p]
def nM(t b:ar)(v:V2):Bool:=decide (0<=t.on v)&&!(b.aB.any (fun o=>decide (eX t.br (vP o.pt) v<0)))
theorem yY{t b:ar}(d:lU b)(h:gw t b=0):cG t=0/\(∀o∈b.aB,pz o):=by
 obtain⟨a,c,_⟩:=aEV d h;exact⟨a,c.sp⟩
theorem Zt(t b:ar)(p:dU)(i:gJ t)(a:lU b)(g:jk p):aA prog 50 [b6 t,.seq (b.aB.map bO),du p] (.aE [.bool (if mN t b p=0 then nM t b (vP p)else false),.int .i64 (mN t b p)]):=by
 have k1:=B0 t b i a;have k2:=ru p g;have k3:=lj [gw t b,bX p] (by simp);simp only[a5,a6]at k3;rw[show bt [gw t b,bX p]=mN t b p from rfl]at k3;have k4:mN t b p=0->aA prog 107 [du p] (cM (.from p))/\aA prog 118 [b6 t,cM (.from p)] (.int .i64 (t.on (vP p)))/\aA prog 119 [b6 t,.seq (b.aB.map bO),cM (.from p)] (.bool (!b.aB.any (fun o=>decide (eX t.br (vP o.pt) (vP p)<0)))):=fun h=>by
  rw[mN,jK]at h;have u:=h (gw t b) (by simp);have w:=h (bX p) (by simp);obtain⟨l,m⟩:=yY a u;obtain⟨x,y,n,_⟩:=jD l;obtain⟨B,C⟩:=tK l;obtain⟨g1,g2⟩:=gB w;have k:bS 2000 (NV.from p).q:=rB ⟨dW g1,dW g2⟩;have e:=wx t (.from p) i.cl n (k.mono (by decide));have f:=B2 t (.from p) b.aB a.sl (by omega) (by omega) k m;rw[mA]at e f;exact⟨pL p g1 g2 g,e,f⟩
 rw[nM];generalize mN t b p=E at*;generalize gw t b=D at*;generalize bX p=F at*;generalize b.aB.any (fun o=>decide (eX t.br (vP o.pt) (vP p)<0))=G at*;generalize t.on (vP p)=d at*;generalize NV.from p=v at*;obtain⟨z,A⟩:=p;simp only[du]at*;refine aG nf QA mix (by simp[f50]) ?_;simp[f50,aa];refine Go.ag.e2 k1 ?_;simp[aa];refine Go.ag.e1 k2 ?_;simp[aa];refine ep k3 (by simp;first|exact⟨rfl,rfl⟩|rfl) (by simp;first|exact⟨rfl,rfl⟩|rfl) ?_;simp[aa];refine⟨by repeat' first|rfl|apply ab,?_⟩
 by_cases h:E=0
 case neg=>simp[h,aa]
 obtain⟨j,r,s⟩:=k4 h;simp[h,aa];refine Go.ag.e1 j ?_;simp[aa];refine Go.ag.e2 r ?_
 by_cases c:0<=d
 ·have c':¬d<0:=by omega
  simp[c,c',aa];refine Go.ag.e1 j ?_;simp[aa];refine Go.ag.e3 s ?_;simp[h,c,aa]
 ·have c':d<0:=by omega
  simp[h,c,c',aa]
def ar.pv(t:ar)(i:Nat):Nat:=(i+t.cs.length-1)% t.cs.length
def vY(t:ar)(p:dc)(i:Nat)(s:List Nat):Bool:=(decide (s=[48])&&(decide (p.dI=t.pv i)&&decide (p.b=[49])))||(decide (s=[49])&&(decide (p.dI=t.nx i)&&decide (p.a=[48])))
def vi(p:dc)(i:Nat)(s:List Nat):Bool:=decide (p.dI=i)&&(decide (cT (aL p.a) (aL s)<=0)&&decide (cT (aL s) (aL p.b)<=0))
def iC(t:ar)(p:dc)(i:Nat)(s:List Nat):Bool:=vY t p i s||vi p i s
theorem yX{a n:Nat}:((a:Nat):Int).tmod (n:Int)=((a% n:Nat):Int):=by
 rw[Int.natCast_emod,Int.tmod_eq_emod_of_nonneg (by omega)]
theorem Zw(t:ar)(p:dc)(i:Nat)(s:List Nat)(K:t.cs.length<=1000000)(hi:i<t.cs.length)(B:ln p)(hs:fW s)(r:bK s=0):aA prog 97 [b6 t,er p,.int .i64 i,.str s] (.bool (iC t p i s)):=by
 obtain⟨⟨C,z,A⟩,w,z2⟩:=B;have k1:=jP s r hs.1;have k2:=jP p.a w z.1;have k3:=jP p.b z2 A.1;have k4:=oI ⟨aL p.a,false⟩ ⟨aL s,false⟩ ((dW w).mono (by decide)) ((dW r).mono (by decide));have k5:=oI ⟨aL s,false⟩ ⟨aL p.b,false⟩ ((dW r).mono (by decide)) ((dW z2).mono (by decide));dsimp only at k4 k5;have l:¬t.cs.length=0:=by omega
 have k:¬t.cs=[]:=by intro e;rw[e]at hi;simp at hi
 have m:ac.wrap ((i:Int)+1)=(i:Int)+1:=aO _ (by omega) (by omega);have n:ac.wrap ((i:Int)+(t.cs.length:Int))=(i:Int)+(t.cs.length:Int):=aO _ (by omega) (by omega);have o:ac.wrap ((i:Int)+(t.cs.length:Int)-1)=(i:Int)+(t.cs.length:Int)-1:=aO _ (by omega) (by omega);have e1:((i:Int)+1).tmod (t.cs.length:Int)=((t.nx i:Nat):Int):=by
  rw[ar.nx,<-yX];rfl
 have e2:((i:Int)+(t.cs.length:Int)-1).tmod (t.cs.length:Int)=((t.pv i:Nat):Int):=by
  rw[ar.pv,<-yX,show((i:Int)+(t.cs.length:Int)-1)=((i+t.cs.length-1:Nat):Int)from by omega]
 rw[iC,vY,vi];generalize cT (aL p.a) (aL s)=E at*;generalize cT (aL s) (aL p.b)=F at*;generalize (NF.mk (aL s) false)=fs at*;generalize (NF.mk (aL p.a) false)=H at*;generalize (NF.mk (aL p.b) false)=I at*;generalize t.pv i=pv at*;generalize t.nx i=nx at*;clear C z A w z2 r hs;obtain⟨D,q,u,v⟩:=p;simp only at*;refine aG nf Rb mix (by simp[f97]) ?_;rw[er];simp[f97,aa,-bm];rw[bm];simp[aa,-bm];rw[bm];simp[aa,-bm];rw[bm];simp[aa,-bm];refine Go.ag.c1 k1 ?_;simp[aa,-bm];refine join (fun st=>((decide (s=[48])&&(decide (q=pv)&&decide (v=[49])))||(decide (s=[49])&&(decide (q=nx)&&decide (u=[48]))))=false/\aN st.env 2=.p (.int .i64 i)/\aN st.env 5=.ptr 1 []/\aN st.env 10=.ptr 2 []/\st.heap=[.box false (.p (b6 t)),.box false (.p (.st 52 [.str D,.int .i64 q,.str u,.str v])),.box false (.p (eF fs))]) ?_ ?_
 ·by_cases d:s=[48]
  ·subst d
   by_cases c:q=pv
   ·by_cases f:v=[49]
    ·simp[c,f,aa,l,k,m,n,o,e1,e2]
    ·simp[c,f,aa,l,k,m,n,o,e1,e2]
   ·simp[c,aa,l,k,m,n,o,e1,e2]
  ·by_cases x:s=[49]
   ·subst x
    by_cases c:q=nx
    ·by_cases f:u=[48]
     ·simp[c,f,aa,l,k,m,n,o,e1,e2]
     ·simp[c,f,aa,l,k,m,n,o,e1,e2]
    ·simp[c,aa,l,k,m,n,o,e1,e2]
   ·simp[d,x,aa,l,k,m,n,o,e1,e2]
 rintro⟨G,J⟩ ⟨hx,h,j,g,y⟩;dsimp only at h j g y;subst y;rw[hx,Bool.false_or];clear hx
 by_cases d:q=i
 case neg=>
  simp[d,h,j,g,aa]
 by_cases c:E<=0
 case neg=>
  simp[d,c,h,j,g,aa];refine Go.ag.e1 k2 ?_;simp[d,c,h,j,g,aa];refine Go.ag.e2 k4 ?_;simp[d,c,h,j,g,aa]
 by_cases f:F<=0
 case neg=>
  simp[d,c,f,h,j,g,aa];refine Go.ag.e1 k2 ?_;simp[d,c,f,h,j,g,aa];refine Go.ag.e2 k4 ?_;simp[d,c,f,h,j,g,aa];refine Go.ag.e1 k3 ?_;simp[d,c,f,h,j,g,aa];refine Go.ag.e2 k5 ?_;simp[d,c,f,h,j,g,aa]
 simp[d,c,f,h,j,g,aa];refine Go.ag.e1 k2 ?_;simp[d,c,f,h,j,g,aa];refine Go.ag.e2 k4 ?_;simp[d,c,f,h,j,g,aa];refine Go.ag.e1 k3 ?_;simp[d,c,f,h,j,g,aa];refine Go.ag.e2 k5 ?_;simp[d,c,f,h,j,g,aa]
def lL(t:ar)(p:dc)(m:Nat):Bool:=(decide (p.dI=(m% t.cs.length:Nat))&&decide (p.a=[48]))||(decide (p.dI=((m+t.cs.length-1)% t.cs.length:Nat))&&decide (p.b=[49]))
theorem Ih(t:ar)(p:dc)(m:Nat)(u:t.cs.length<=1000000)(q:0<t.cs.length)(v:m<=t.cs.length):aA prog 103 [ch t,ff p,.int .i64 m] (.bool (lL t p m)):=by
 have d:¬t.cs.length=0:=by omega
 have c:¬t.cs=[]:=by intro e;rw[e]at q;simp at q
 have f:ac.wrap ((m:Int)+(t.cs.length:Int))=(m:Int)+(t.cs.length:Int):=aO _ (by omega) (by omega);have g:ac.wrap ((m:Int)+(t.cs.length:Int)-1)=(m:Int)+(t.cs.length:Int)-1:=aO _ (by omega) (by omega);have e1:(m:Int).tmod (t.cs.length:Int)=((m% t.cs.length:Nat):Int):=yX;have e2:((m:Int)+(t.cs.length:Int)-1).tmod (t.cs.length:Int)=(((m+t.cs.length-1)% t.cs.length:Nat):Int):=by
  rw[<-yX,show((m:Int)+(t.cs.length:Int)-1)=((m+t.cs.length-1:Nat):Int)from by omega]
 rw[lL];generalize (m+t.cs.length-1)% t.cs.length=n at*;generalize m% t.cs.length=o at*;obtain⟨r,j,l,i⟩:=p;rw[show ff ⟨r,j,l,i⟩=.st 52 [.str r,.int .i64 j,.str l,.str i]from rfl];refine aG nf GD mix (by simp[f103]) ?_
 by_cases a:j=o
 ·by_cases k:l=[48]
  ·simp[f103,aa,d,c,f,g,e1,e2,a,k]
  ·by_cases b:o=n
   ·by_cases h:i=[49]
    ·simp[f103,aa,d,c,f,g,e1,e2,a,k,b,h]
    ·simp[f103,aa,d,c,f,g,e1,e2,a,k,b,h]
   ·have s:¬(o:Int)=n:=by omega
    simp[f103,aa,d,c,f,g,e1,e2,a,k,b,s]
 ·by_cases b:j=n
  ·rw[b]at a
   by_cases h:i=[49]
   ·simp[f103,aa,d,c,f,g,e1,e2,a,b,h]
   ·simp[f103,aa,d,c,f,g,e1,e2,a,b,h]
  ·simp[f103,aa,d,c,f,g,e1,e2,a,b]
def ke(t:ar)(p:dc)(i:Nat)(s:List Nat):Bool:=(vi p i s||(decide (s=[48])&&lL t p i))||(decide (s=[49])&&lL t p (i+1))
theorem Td(t:ar)(i:Nat)(s:List Nat)(r:t.cs.length<=1000000)(C:t.aP.length<=1000000)(B:i<t.cs.length)(v:∀p∈t.aP,ln p)(n:bK s=0):aA prog 25 [ch t,.int .i64 i,.str s] (.int .i64 (dZ (dd (fun j=>ke t (t.pk j) i s) t.aP.length) t.aP.length)):=by
 have f:ac.wrap ((i:Int)+1)=(i:Int)+1:=aO _ (by omega) (by omega);refine aG nf Qm mix (by simp[f25]) ?_;simp[f25,aa];refine lp (α:=Nat) (fun j=>⟨[(7,.p (.int .i64 j)),(3,.ptr 0 []),(2,.p (.str s)),(1,.p (.int .i64 i))],[.box false (.p (ch t))]⟩) (fun j=>j<=t.aP.length/\j<=dd (fun j=>ke t (t.pk j) i s) t.aP.length) (fun j=>t.aP.length-j) 0 (by simp) ?_;rintro j ⟨A,q⟩
 by_cases hi:j<t.aP.length
 ·have e:=ar.iY hi;have l:=ct (i:=j) (by omega);obtain⟨_,u,z2⟩:=v _ (am e);have fx:ke t (t.pk j) i s=true->dZ (dd (fun j=>ke t (t.pk j) i s) t.aP.length) t.aP.length=(j:Int):=fun h=>by
   rw[tO q hi h,dZ,if_pos hi]
  have m:ke t (t.pk j) i s=false->j+1<=t.aP.length/\j+1<=dd (fun j=>ke t (t.pk j) i s) t.aP.length:=fun h=>⟨hi,tN q hi h⟩
  have k4:=nK (aL (t.pk j).a) (aL s) ((dW u).mono (by decide)) ((dW n).mono (by decide));have k5:=nK (aL s) (aL (t.pk j).b) ((dW n).mono (by decide)) ((dW z2).mono (by decide));have k6:=Ih t (t.pk j) i r (by omega) (by omega);have k7:=Ih t (t.pk j) (i+1) r (by omega) (by omega);rw[show((i+1:Nat):Int)=(i:Int)+1 from rfl]at k7;rw[(fU u).1,(fU n).1]at k4;rw[(fU z2).1,(fU n).1]at k5;generalize dZ (dd (fun j=>ke t (t.pk j) i s) t.aP.length) t.aP.length=y at*;rw[ke,vi]at fx m;generalize cT (aL (t.pk j).a) (aL s)=w at*;generalize cT (aL s) (aL (t.pk j).b)=x at*
  by_cases c:(t.pk j).dI=i
  ·by_cases d:w<=0
   ·by_cases k:x<=0
    ·have D:=k;have g:=fx (by simp[c,d,k]);simp[hi,e,f,aa,c,d,k,g];refine Go.ag.c2 k4 ?_;simp[hi,e,f,aa,c,d,k,g];refine Go.ag.c2 k5 ?_;simp[hi,e,f,aa,c,d,k,g]
    by_cases z:s=[48]
    ·subst z;rcases q0:lL t (t.pk j) i with _|_
     ·rw[q0]at k6;simp[hi,e,f,aa,c,d,k,q0,l];refine Go.ag.c2 k4 ?_;simp[hi,e,f,aa,c,d,k,q0,l];refine Go.ag.c2 k5 ?_;simp[hi,e,f,aa,c,d,k,q0,l];refine Go.ag.c3 k6 ?_;simp[hi,e,f,aa,c,d,k,q0,l];exact rd (j+1) (m (by simp[c,d,k,q0]))
     ·rw[q0]at k6;have g:=fx (by simp[c,d,k,q0]);simp[hi,e,f,aa,c,d,k,q0,g];refine Go.ag.c2 k4 ?_;simp[hi,e,f,aa,c,d,k,q0,g];refine Go.ag.c2 k5 ?_;simp[hi,e,f,aa,c,d,k,q0,g];refine Go.ag.c3 k6 ?_;simp[hi,e,f,aa,c,d,k,q0,g]
    by_cases o:s=[49]
    ·subst o;rcases q1:lL t (t.pk j) (i+1)with _|_
     ·rw[q1]at k7;simp[hi,e,f,aa,c,d,k,q1,l];refine Go.ag.c2 k4 ?_;simp[hi,e,f,aa,c,d,k,q1,l];refine Go.ag.c2 k5 ?_;simp[hi,e,f,aa,c,d,k,q1,l];refine Go.ag.c3 k7 ?_;simp[hi,e,f,aa,c,d,k,q1,l];exact rd (j+1) (m (by simp[c,d,k,q1]))
     ·rw[q1]at k7;have g:=fx (by simp[c,d,k,q1]);simp[hi,e,f,aa,c,d,k,q1,g];refine Go.ag.c2 k4 ?_;simp[hi,e,f,aa,c,d,k,q1,g];refine Go.ag.c2 k5 ?_;simp[hi,e,f,aa,c,d,k,q1,g];refine Go.ag.c3 k7 ?_;simp[hi,e,f,aa,c,d,k,q1,g]
    simp[hi,e,f,aa,c,d,k,z,o,l];refine Go.ag.c2 k4 ?_;simp[hi,e,f,aa,c,d,k,z,o,l];refine Go.ag.c2 k5 ?_;simp[hi,e,f,aa,c,d,k,z,o,l];exact rd (j+1) (m (by simp[c,d,k,z,o]))
   by_cases z:s=[48]
   ·subst z;rcases q0:lL t (t.pk j) i with _|_
    ·rw[q0]at k6;simp[hi,e,f,aa,c,d,q0,l];refine Go.ag.c2 k4 ?_;simp[hi,e,f,aa,c,d,q0,l];refine Go.ag.c3 k6 ?_;simp[hi,e,f,aa,c,d,q0,l];exact rd (j+1) (m (by simp[c,d,q0]))
    ·rw[q0]at k6;have g:=fx (by simp[c,d,q0]);simp[hi,e,f,aa,c,d,q0,g];refine Go.ag.c2 k4 ?_;simp[hi,e,f,aa,c,d,q0,g];refine Go.ag.c3 k6 ?_;simp[hi,e,f,aa,c,d,q0,g]
   by_cases o:s=[49]
   ·subst o;rcases q1:lL t (t.pk j) (i+1)with _|_
    ·rw[q1]at k7;simp[hi,e,f,aa,c,d,q1,l];refine Go.ag.c2 k4 ?_;simp[hi,e,f,aa,c,d,q1,l];refine Go.ag.c3 k7 ?_;simp[hi,e,f,aa,c,d,q1,l];exact rd (j+1) (m (by simp[c,d,q1]))
    ·rw[q1]at k7;have g:=fx (by simp[c,d,q1]);simp[hi,e,f,aa,c,d,q1,g];refine Go.ag.c2 k4 ?_;simp[hi,e,f,aa,c,d,q1,g];refine Go.ag.c3 k7 ?_;simp[hi,e,f,aa,c,d,q1,g]
   simp[hi,e,f,aa,c,d,z,o,l];refine Go.ag.c2 k4 ?_;simp[hi,e,f,aa,c,d,z,o,l];exact rd (j+1) (m (by simp[c,d,z,o]))
  by_cases z:s=[48]
  ·subst z;rcases q0:lL t (t.pk j) i with _|_
   ·rw[q0]at k6;simp[hi,e,f,aa,c,q0,l];refine Go.ag.c3 k6 ?_;simp[hi,e,f,aa,c,q0,l];exact rd (j+1) (m (by simp[c,q0]))
   ·rw[q0]at k6;have g:=fx (by simp[c,q0]);simp[hi,e,f,aa,c,q0,g];refine Go.ag.c3 k6 ?_;simp[hi,e,f,aa,c,q0,g]
  by_cases o:s=[49]
  ·subst o;rcases q1:lL t (t.pk j) (i+1)with _|_
   ·rw[q1]at k7;simp[hi,e,f,aa,c,q1,l];refine Go.ag.c3 k7 ?_;simp[hi,e,f,aa,c,q1,l];exact rd (j+1) (m (by simp[c,q1]))
   ·rw[q1]at k7;have g:=fx (by simp[c,q1]);simp[hi,e,f,aa,c,q1,g];refine Go.ag.c3 k7 ?_;simp[hi,e,f,aa,c,q1,g]
  simp[hi,e,f,aa,c,z,o,l];exact rd (j+1) (m (by simp[c,z,o]))
 ·have:j=t.aP.length:=by omega
  subst this;have:=lX (fun j=>ke t (t.pk j) i s) t.aP.length;have g:dZ (dd (fun j=>ke t (t.pk j) i s) t.aP.length) t.aP.length= -1:=by rw[dZ,if_neg (by omega)]
  simp[g,aa]
theorem apV(t:ar)(i:Nat)(s:List Nat)(p:dc)(b:t.cs.length<=1000000)(hi:i<t.cs.length)(c:ln p)(hs:fW s)(a:bK s=0):
 cB prog 96 [.box false (.p (b6 t)),.box false (.p (.int .i64 i)),.box false (.p (.str s))] [.p (er p),.ptr 0 [],.ptr 1 [],.ptr 2 []] [.box false (.p (b6 t)),.box false (.p (.int .i64 i)),.box false (.p (.str s))] (.p (.bool (iC t p i s))):=by
 have k1:=Zw t p i s b hi c hs a;generalize iC t p i s=y at*;refine fJ nf Ra mix (by simp[f96]) ?_;simp[f96,aa];refine Go.ag.c4 k1 ?_;simp[aa];exact cV.og (by simp) (by simp) (by simp) (by simp) (by simp)
theorem Te(t:ar)(i:Nat)(s:List Nat)(g:t.cs.length<=1000000)(m:t.aP.length<=1000000)(f:i<t.cs.length)(h:∀p∈t.aP,ln p)(hs:fW s)(d:bK s=0):
 cB prog 95 [.box false (.p (b6 t)),.box false (.p (.int .i64 i)),.box false (.p (.str s))] [.p (.seq (t.aP.map er)),.func 96 [] [.ptr 0 [],.ptr 1 [],.ptr 2 []]] [.box false (.p (b6 t)),.box false (.p (.int .i64 i)),.box false (.p (.str s))] (.p (.int .i64 (dZ (dd (fun j=>iC t (t.pk j) i s) t.aP.length) t.aP.length))):=by
 refine fJ nf y7 mix (by simp[f95]) ?_;simp[f95];refine lp (α:=Nat) (fun j=>⟨[(8,.p (.int .i64 j)),(7,.p (.int .i64 t.aP.length)),(1,.func 96 [] [.ptr 0 [],.ptr 1 [],.ptr 2 []]),(0,.p (.seq (t.aP.map er)))],[.box false (.p (b6 t)),.box false (.p (.int .i64 i)),.box false (.p (.str s))]⟩) (fun j=>j<=t.aP.length/\j<=dd (fun j=>iC t (t.pk j) i s) t.aP.length) (fun j=>t.aP.length-j) 0 (by simp) ?_;rintro j ⟨l,b⟩
 by_cases hi:j<t.aP.length
 ·have c:=ar.iY hi;have k:=ct (i:=j) (by omega);have e:=h _ (am c);simp[hi];refine cf (apV t i s (t.pk j) g f e hs d) [0,1,2] ?_;rcases hk:iC t (t.pk j) i s with _|_
  ·simp[k,bf];exact rd (j+1) ⟨hi,tN b hi hk⟩
  ·have a:dZ (dd (fun j=>iC t (t.pk j) i s) t.aP.length) t.aP.length=(j:Int):=by rw[tO b hi hk,dZ,if_pos hi]
   simp[a,bf]
 ·have:j=t.aP.length:=by omega
  subst this;have:=lX (fun j=>iC t (t.pk j) i s) t.aP.length;have a:dZ (dd (fun j=>iC t (t.pk j) i s) t.aP.length) t.aP.length= -1:=by rw[dZ,if_neg (by omega)]
  simp[a]
theorem IE{t:ar}(h:cG t=0){j:Nat}(c:j<t.aP.length):fS t.cs.length (t.aP.take j) (t.pk j)=0:=by
 rw[yO]at h
 split at h
 case isFalse=>contradiction
 split at h
 case isFalse=>contradiction
 rename_i d b;rw[pH,jK]at b;have a:=b (jn 12 (fS t.cs.length) t.aP) (by simp);rw[jn]at a
 split at a
 ·cases a
 have:=nJ.1 a j c
 rwa [ga,ar.iY c]at this
theorem IC{q:Rat}(h:dH q=0):0<=q/\q<=1:=by
 rw[dH]at h
 split at h
 ·cases h
 rename_i c;have c1:¬eg q<0:=fun h=>c (.inl h);have c2:¬0<cT q 1:=fun h=>c (.inr h);constructor
 ·apply bk.1;intro hq;rw[aGj hq]at c1;exact c1 (by decide)
 ·apply bk.1;intro hq;rw[Cc hq]at c2;exact c2 (by decide)
theorem aFA{n:Nat}{d:List dc}{p:dc}(h:fS n d p=0):0<=aL p.a/\aL p.a<=aL p.b/\aL p.b<=1/\0<=p.dI/\p.dI<n:=by
 rw[fS]at h
 split at h
 ·cases h
 split at h
 ·cases h
 split at h
 ·cases h
 rename_i e1
 split at h
 ·contradiction
 split at h
 ·contradiction
 split at h
 ·contradiction
 rename_i e2
 split at h
 ·cases h
 rename_i e3;have c:dH (aL p.a)=0/\dH (aL p.b)=0:=by
  rcases yL (aL p.a)with a|a<;>rcases yL (aL p.b)with b|b<;>rw[a,b]at e2<;>first|exact⟨a,b⟩|(exfalso;exact e2 (by decide))
 refine⟨(IC c.1).1,?_,(IC c.2).2,by omega,by omega⟩;apply bk.1;intro hq;rw[Cc hq]at e3;exact e3 (by decide)
theorem y0{a b:Rat}:cT a b<=0↔a<=b:=by
 by_cases h:b<a
 ·rw[Cc h];exact⟨fun h=>absurd h (by decide),fun c=>absurd h (bk.2 c)⟩
 ·have h:=bk.1 h;refine⟨fun _=>h,fun _=>?_⟩;rw[cT]
  split
  ·decide
  ·split
   ·decide
   ·rename_i d c;exact absurd (Rat.lt_of_le_of_ne h c) d
theorem RV:aL [48]=0:=by rw[<-Jl,xU]
theorem RW:aL [49]=1:=by rw[<-RN,xU]
theorem Ti{t:ar}{p:dc}{i:Nat}{s:List Nat}{n:Nat}{k:List dc}(m:fS n k p=0)(hi:i<t.cs.length):ke t p i s=iC t p i s:=by
 obtain⟨a0,e,j,_⟩:=aFA m;rw[ke,iC]
 by_cases f:s=[48]
 ·subst f;unfold lL vY vi;rw[RV,bb hi,show(i+t.cs.length-1)% t.cs.length=t.pv i from rfl];have c:aL p.a=0->cT (aL p.a) 0<=0:=fun h=>y0.2 (by rw[h];exact bv);have d:cT 0 (aL p.b)<=0:=y0.2 (bo a0 e);have l:p.a=[48]->aL p.a=0:=fun h=>by rw[h,RV]
  by_cases c1:p.dI=i
  ·by_cases c2:p.a=[48]
   ·have:=c (l c2);simp[c1,c2,d];rw[c2]at this;simp[this]
   ·simp[c1,c2];cases decide (cT (aL p.a) 0<=0)<;>cases decide (cT 0 (aL p.b)<=0)<;>simp
  ·simp[c1]
 ·by_cases g:s=[49]
  ·subst g;unfold lL vY vi;rw[RW,show(i+1)% t.cs.length=t.nx i from rfl,show i+1+t.cs.length-1=i+t.cs.length from by omega,Nat.add_mod_right,bb hi];have c:cT (aL p.a) 1<=0:=y0.2 (bo e j);have d:p.b=[49]->cT 1 (aL p.b)<=0:=fun h=>y0.2 (by rw[h,RW];exact bv)
   by_cases c1:p.dI=i
   ·by_cases c2:p.b=[49]
    ·have:=d c2;rw[c2]at this;simp[c1,c2,c,this]
    ·simp[c1,c2,Bool.or_comm]
   ·simp[c1]
  ·rw[vY];simp[f,g]
theorem Tj{t:ar}(h:cG t=0){i:Nat}{s:List Nat}(hi:i<t.cs.length):dd (fun j=>ke t (t.pk j) i s) t.aP.length=dd (fun j=>iC t (t.pk j) i s) t.aP.length:=
 It (fun j a=>Ti (IE h a) hi)
theorem ID{t:ar}(c:gJ t)(h:cG t=0):∀p∈t.aP,ln p:=by
 intro p b;obtain⟨j,a,rfl⟩:=av.1 b;have:=BT (IE h a);rw[ar.FK];exact⟨c.pk _ (am (ar.iY a)),this.1,this.2⟩
def FJ(t:ar)(i:Nat)(s:List Nat):List PV:=if dd (fun j=>iC t (t.pk j) i s) t.aP.length<t.aP.length then[.str (t.pk (dd (fun j=>iC t (t.pk j) i s) t.aP.length)).name,.int .i64 0]else[.str [],.int .i64 7]
theorem Tc(t:ar)(e:Int)(s:List Nat)(a:gJ t)(hs:fW s):aA prog 19 [b6 t,.int .i64 e,.str s] (.aE (if iN t e s=0 then FJ t e.toNat s else[.str [],.int .i64 (iN t e s)])):=by
 have k1:=Ig t e s a hs
 by_cases h:iN t e s=0
 case neg=>
  rw[if_neg h];generalize iN t e s=x at*;refine aG nf Fl mix (by simp[f19]) ?_;simp[f19,aa];refine Go.ag.c3 k1 ?_;simp[h,aa]
 rw[if_pos h];rw[h]at k1;obtain⟨g1,g2⟩:=Ci h;obtain⟨b,f,g,c⟩:=wj g1;obtain⟨i,rfl⟩:∃i:Nat,e=i:=⟨e.toNat,by omega⟩
 have hi:i<t.cs.length:=by omega
 rw[show((i:Int)).toNat=i from by omega];have k2:=Te t i s a.cl a.pl hi (ID a b) hs c;obtain⟨s1,s2,m⟩:=lX (fun j=>iC t (t.pk j) i s) t.aP.length;rw[FJ];generalize dd (fun j=>iC t (t.pk j) i s) t.aP.length=k at*;clear g1 g2 h b f g c s2 m;refine aG nf Fl mix (by simp[f19]) ?_
 by_cases hk:k<t.aP.length
 ·have d:=ar.iY hk;rw[dZ,if_pos hk]at k2;rw[if_pos hk];have l:¬(k:Int)<0:=by omega
  simp[f19,aa];refine Go.ag.c3 k1 ?_;simp[aa];refine cf k2 [0,1,2] ?_;simp[bf,l,hk,d,aa]
 ·rw[dZ,if_neg hk]at k2;rw[if_neg hk];simp[f19,aa];refine Go.ag.c3 k1 ?_;simp[aa];refine cf k2 [0,1,2] ?_;simp[bf,aa]
end Go.ag
