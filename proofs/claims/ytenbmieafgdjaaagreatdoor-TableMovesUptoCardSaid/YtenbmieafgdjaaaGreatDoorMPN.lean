import Derived.Test.YtenbmieafgdjaaaGreatDoorMPM
import Derived.Test.YtenbmieafgdjaaaGreatDoorMPL
import Derived.Test.YtenbmieafgdjaaaGreatDoorMPK
/- Parts of a proof. -/
set_option linter.unusedSimpArgs false
set_option linter.unusedVariables false
set_option linter.unusedSectionVars false
open Go.Proofs.Tryz
open List renaming map_nil->ab
namespace Go.al
open Go.Proofs
set_option maxHeartbeats 4000000
set_option maxRecDepth 100000
theorem XG{t:aC}{m:bH}(a:kt t):(jw m t).cs.length<=1000000/\(jw m t).aO.length<=1000000/\(jw m t).au.length<=1000000:=by
 refine⟨?_,?_,?_⟩
 ·rw[jw,bH.cs];simp;exact a.cl
 ·rw[jw,bH.aO];dsimp only;split
  ·rw[List.length_map];exact a.pl
  ·exact a.pl
 ·rw[jw];simp;exact a.sl
theorem QZ(o:az prog 11 [] (.bool true))(t b:aC)(m:bH)(g:kt t)(k:mN b):az prog 7 [bU t,.seq (b.au.map aV),cH m] (.bool true):=by
 have s0:=Qo t g.cl g.pl g.sl;have n:=QH b 8 k.sl (by decide);rw[show(((8:Nat):Int))=8 from rfl]at n;rcases q:jl t with _|_
 ·rw[q]at s0;generalize pg 8 b.au=A at*;refine aM nf o7 mix (by simp[f7]) ?_;simp[f7,ad];refine Go.al.c1 s0 ?_;simp[ad];refine Go.al.c0 o ?_;simp[ad]
 rw[q]at s0;rcases r:pg 8 b.au with _|_
 ·rw[r]at n;refine aM nf o7 mix (by simp[f7]) ?_;simp[f7,ad];refine Go.al.c1 s0 ?_;simp[ad];refine Go.al.c2 n ?_;simp[ad];refine Go.al.c0 o ?_;simp[ad]
 rw[r]at n;have v:∀s∈b.au,dw s.pt=0->bN 133 (vP s.pt):=by
  intro s hs hc;simp only[pg,Bool.and_eq_true,List.all_eq_true]at r;have:=r.2 s hs;simp only[fS,Bool.and_eq_true,decide_eq_true_eq]at this;exact E5 this.2.1 this.2.2 hc
 have q0:=Qu t g.cl g.pl g.sl;have q1:=QL b k.sl;have j:=Re t m g q;have i:=Rf t b m g k v;have q4:=DS t g;have p:=QB t b g k;have w:dU t≠0->gv t b=dU t:=fun h=>by rw[gv,if_pos h]
 by_cases d:dU t=0
 case neg=>
  rw[vu,if_neg d,if_neg d]at j;rw[nJ,w d,if_neg d,if_neg d]at i;rw[w d]at p;have k1:=C1 ij (by simp[ij]) (by simp[ij]);have k2:=Ab ij (by simp[ij]) (by simp[ij]) (by simp[ij]);have k3:=wv ⟨[],0,[],[]⟩ (by simp);have k4:=wD [] (by simp);simp only[ij,cA,bU,ab]at j i k1 k2 k3 k4;generalize dU t=L at*;refine aM nf o7 mix (by simp[f7]) ?_;simp[f7,ad];refine Go.al.c1 s0 ?_;simp[ad,d];refine Go.al.c2 n ?_;simp[ad,d];refine Go.al.e1 q0 ?_;simp[ad,d];refine Go.al.e2 j ?_;simp[ad,d];refine⟨by repeat' first|rfl|apply And.intro,?_⟩;refine Go.al.e1 q0 ?_;simp[ad,d];refine Go.al.e1 q1 ?_;simp[ad,d];refine Go.al.e3 i ?_;simp[ad,d];refine Go.al.e1 q4 ?_;simp[ad,d];refine Go.al.e2 p ?_;simp[ad,d];refine Go.al.e1 k1 ?_;simp[ad,d];refine Go.al.e2 k2 ?_;simp[ad,d];refine Go.al.e1 k3 ?_;simp[ad,d];refine Go.al.e2 k4 ?_;simp[ad,d];refine Go.al.e0 o ?_;simp[ad,d]
 have u:=Rb t m g.cl (re d).2.2.1;have l:=WS [gv t b,gZ t m] (by simp);simp only[List.map_cons,ab]at l;rw[vu,if_pos d]at j;rw[d]at q4
 by_cases a:gZ t m=0
 case neg=>
  rw[if_neg a]at j;have k1:=C1 ij (by simp[ij]) (by simp[ij]);have k2:=Ab ij (by simp[ij]) (by simp[ij]) (by simp[ij]);have k3:=wv ⟨[],0,[],[]⟩ (by simp);have k4:=wD [] (by simp);have x:nJ t b m=bG [gv t b,gZ t m]:=by
   rw[nJ,bG,bG,bG]
   by_cases c:gv t b=0
   ·rw[if_pos c,if_pos c,if_neg a]
   ·rw[if_neg c,if_neg c]
  have f:¬bG [gv t b,gZ t m]=0:=by
   rw[<-x,nJ]
   split
   ·exact a
   ·assumption
  rw[x,if_neg f]at i;simp only[ij,cA,bU,ab]at j i k1 k2 k3 k4;generalize bG [gv t b,gZ t m]=T at*;generalize gZ t m=M at*;generalize gv t b=z at*;refine aM nf o7 mix (by simp[f7]) ?_;simp[f7,ad];refine Go.al.c1 s0 ?_;simp[ad,a,f];refine Go.al.c2 n ?_;simp[ad,a,f];refine Go.al.e1 q0 ?_;simp[ad,a,f];refine Go.al.e2 j ?_;simp[ad,a,f];refine⟨by repeat' first|rfl|apply And.intro,?_⟩;refine Go.al.e1 q0 ?_;simp[ad,a,f];refine Go.al.e1 q1 ?_;simp[ad,a,f];refine Go.al.e3 i ?_;simp[ad,a,f];refine Go.al.e1 q4 ?_;simp[ad,a,f];refine Go.al.e2 p ?_;simp[ad,a,f];refine Go.al.c2 u ?_;simp[ad,a,f];refine cp l (by simp;first|exact⟨rfl,rfl⟩|rfl) ?_;simp[ad,a,f];refine Go.al.e1 k1 ?_;simp[ad,a,f];refine Go.al.e2 k2 ?_;simp[ad,a,f];refine Go.al.e1 k3 ?_;simp[ad,a,f];refine Go.al.e2 k4 ?_;simp[ad,a,f];refine Go.al.e0 o ?_;simp[ad,a,f]
 rw[if_pos a,a]at j;rw[a]at u l;obtain⟨g1,g2,g3⟩:=XG (m:=m) g;have k0:=Q0 t m g d a q;have k1:=C1 (jw m t) g2 g3;have k2:=Ab (jw m t) g1 g2 g3
 by_cases e:gv t b=0
 case neg=>
  have k3:=wv ⟨[],0,[],[]⟩ (by simp);have k4:=wD [] (by simp);rw[nJ,if_neg e,if_neg e]at i;rw[bG,if_neg e]at l;simp only[ab]at i k3 k4;generalize gv t b=z at*;generalize jw m t=X at*;refine aM nf o7 mix (by simp[f7]) ?_;simp[f7,ad];refine Go.al.c1 s0 ?_;simp[ad,e];refine Go.al.c2 n ?_;simp[ad,e];refine Go.al.e1 q0 ?_;simp[ad,e];refine Go.al.e2 j ?_;simp[ad,e];refine⟨by repeat' first|rfl|apply And.intro,?_⟩;refine Go.al.e1 q0 ?_;simp[ad,e];refine Go.al.e1 q1 ?_;simp[ad,e];refine Go.al.e3 i ?_;simp[ad,e];refine Go.al.e1 q4 ?_;simp[ad,e];refine Go.al.e2 p ?_;simp[ad,e];refine Go.al.c2 u ?_;simp[ad,e];refine cp l (by simp;first|exact⟨rfl,rfl⟩|rfl) ?_;simp[ad,e];refine Go.al.c2 k0 ?_;simp[ad,e];refine Go.al.e1 k1 ?_;simp[ad,e];refine Go.al.e2 k2 ?_;simp[ad,e];refine Go.al.e1 k3 ?_;simp[ad,e];refine Go.al.e2 k4 ?_;simp[ad,e];refine Go.al.e0 o ?_;simp[ad,e]
 rw[nJ,if_pos e,if_pos a,a]at i;rw[e]at p l;rw[show bG [0,0]=0 from rfl]at l;obtain⟨_,y⟩:=EX k e;have k5:=Q1 m b.au k.sl (wE a).1 (fun s hs=>⟨(y s hs).2,v s hs (y s hs).2⟩);have k3:=wv ⟨[],0,[],b.au.map m.sp⟩ (by simp;exact k.sl);have k4:=wD (b.au.map m.sp) (by simp;exact k.sl);dsimp only at k3;generalize (b.au.map m.sp).map aV=Z at*;generalize jw m t=X at*;refine aM nf o7 mix (by simp[f7]) ?_;simp[f7,ad];refine Go.al.c1 s0 ?_;simp[ad];refine Go.al.c2 n ?_;simp[ad];refine Go.al.e1 q0 ?_;simp[ad];refine Go.al.e2 j ?_;simp[ad];refine⟨by repeat' first|rfl|apply And.intro,?_⟩;refine Go.al.e1 q0 ?_;simp[ad];refine Go.al.e1 q1 ?_;simp[ad];refine Go.al.e3 i ?_;simp[ad];refine Go.al.e1 q4 ?_;simp[ad];refine Go.al.e2 p ?_;simp[ad];refine Go.al.c2 u ?_;simp[ad];refine cp l (by simp;first|exact⟨rfl,rfl⟩|rfl) ?_;simp[ad];refine Go.al.c2 k0 ?_;simp[ad];refine Go.al.c2 k5 ?_;simp[ad];refine Go.al.e1 k1 ?_;simp[ad];refine Go.al.e2 k2 ?_;simp[ad];refine Go.al.e1 k3 ?_;simp[ad];refine Go.al.e2 k4 ?_;simp[ad];refine Go.al.e0 o ?_;simp[ad]
end Go.al
