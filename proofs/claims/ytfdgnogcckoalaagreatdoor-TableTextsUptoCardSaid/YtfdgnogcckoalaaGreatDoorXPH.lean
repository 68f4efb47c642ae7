import Derived.Test.YtfdgnogcckoalaaGreatDoorXPG
/- Parts of a proof. -/
set_option maxRecDepth 100000
set_option maxHeartbeats 4000000
set_option linter.unusedSimpArgs false
set_option linter.unusedVariables false
set_option linter.unusedSectionVars false
open Go.Proofs.Tryz
open List renaming take_of_length_le->ab, take->ac, dropLast_subset->am, length_cons->ao
namespace Go.aw
open Go.aw renaming c0->c0_, c1->c1_, c2->c2_, e0->e0_, e1->e1_, e2->e2_
open Go.Proofs
theorem QU(s:List Nat):bZ [br (decide (4096<s.length)) 26,br (!decide (s.getLast?=some 10)) 28]=ig s:=by
 by_cases h1:4096<s.length
 ·simp[bZ,br,ig,h1]
 ·by_cases a:s.getLast?=some 10
  ·simp[bZ,br,ig,h1,a]
  ·simp[bZ,br,ig,h1,a]
theorem Yv(t:aC)(f:jf t):cm prog 51 (jT t) [.st 35 [.sl 0 t.cs.length 2 0 t.cs.length,.p (.int .i64 t.bJ),.sl 1 t.aF.length 4 0 t.aF.length,.sl 2 t.au.length 3 0 t.au.length]] (pC t) (.p (.int .i64 (eg t))):=by
 have hf:pC t=(jT t).map iZ:=by simp[pC,jT,Gq]
 rw[hf];have e:il (jT t):=by
  rw[jT,tD,tD,tD];exact rL (rL (rL Gs))
 refine az.OY 9 (Eb t f) (i_ func51).enters e ?_;have b:ac t.cs.length (t.cs.map (AV.p∘bw))=t.cs.map (AV.p∘bw):=ab s_;have c:ac t.aF.length (t.aF.map (AV.p∘bY))=t.aF.map (AV.p∘bY):=ab s_;have d:ac t.au.length (t.au.map (AV.p∘bO))=t.au.map (AV.p∘bO):=ab s_;have a:dG t=.st 35 [.seq (t.cs.map bw),.int .i64 t.bJ,.seq (t.aF.map bY),.seq (t.au.map bO)]:=rfl;rw[a];simp[jT,b,c,d,wL]
theorem YE(s:List Nat)(hs:s.length<=100000)(d:∀c∈s,c<256)(a:List (List Nat))(e:a=cU 10 (lZ s)):
 cm prog 59 [.box false (.p nZ),.cT fh (eB 0)] [.ptr 0 [],.p (.str s),.map 1,.p (.bool true)] (eJ (iQ a 0 zT 0).1 (iQ a 0 zT 0).2.1) (.p (.int .i64 (iQ a 0 zT 0).2.2)):=by
 refine cm.aCO (H1:=eJ zT 0) ?_ ?_ (YD s hs d a e)
 ·refine bC.og s_ s_ (by simp[eJ,zT,nZ,fh,eB]) s_ (by simp[eJ,zT,fh,eB])
 ·intro b o h;rcases b with _|_|b
  ·simp at h;exact .inr ⟨_,_,h.symm,rfl⟩
  ·left;simpa[eJ]using h
  ·simp at h
theorem Aj:∀(a:List (List Nat))(t:aC)(st:Int)(i:Nat),jf t->t.cs.length<=i->t.aF.length<=i->t.au.length<=i->i+a.length<=999999->(∀l∈a,l.length<=1000000/\∀c∈l,c<256)->∀b k,jx a t st i=(some b,k)->jf b/\b.cs.length<=i+a.length/\b.aF.length<=i+a.length/\b.au.length<=i+a.length
 |[],t,st,i,h,d,f,g,_,_,b,k,e=>by
  simp[jx]at e;obtain⟨rfl,_⟩:=e;exact⟨h,d,f,g⟩
 |l::a,t,st,i,h,d,f,g,o,j,b,k,e=>by
  rw[jx]at e;simp only[ao]at o;obtain⟨m,n⟩:=j l s_;have p:=An t st (fR l)
  split at e
  ·obtain⟨q1,q,r,q4⟩:=Aj a _ _ (i+1) (F8 h o_ o_ o_ (F7 m n)) o_ o_ o_ o_ (fun x hx=>j x (by simp[hx])) b k e;simp only[ao];exact⟨q1,o_,o_,o_⟩
  ·simp at e
theorem QZ{s:List Nat}(hs:s.length<=100000)(a:∀c∈s,c<256):jf (iA s).1:=by
 rw[iA]
 split
 ·exact rN
 ·have b:=rM 10 s.dropLast;have hl:∀l∈cU 10 s.dropLast,l.length<=1000000/\∀c∈l,c<256:=fun l h=>by
   have:=pH h;exact⟨by simp at this;omega,fun c hc=>a c (am _ (wA h c hc))⟩
  split
  ·exact rN
  ·rename_i t k e
   split
   ·exact rN
   ·exact(Aj _ zT 0 0 rN (by simp[zT]) (by simp[zT]) (by simp[zT]) (by simp at b;omega) hl t k e).1
theorem Q6(s:List Nat)(hs:s.length<=100000)(g:∀c∈s,c<256):az prog 12 [.str s] (.aE [dG (iA s).1,.int .i64 (iA s).2.1,.int .i64 (iA s).2.2]):=by
 have hf:=rK [br (decide (4096<s.length)) 26,br (!decide (s.getLast?=some 10)) 28] s_;rw[QU]at hf;have r:=jd (decide (4096<s.length)) 26;have u:=jd (!decide (s.getLast?=some 10)) 28;have i:=QL s o_ g;have f:dG zT=.st 35 [.seq [],.int .i64 0,.seq [],.seq []]:=rfl;refine aP nf (i_ func12) mix (by simp[f12]) ?_;simp[f12];refine c2_ r ?_ (h1:=by simp;omega);simp;refine c2_ i ?_;simp;refine c2_ u ?_ (h1:=s_);simp;refine cp (h1:=?g1) hf (by simp;exact⟨rfl,rfl⟩) ?_
 case g1=>simp
 simp
 by_cases a:ig s=0
 case neg=>
  have e:iA s=(zT,0,ig s):=by rw[iA,if_pos a]
  rw[e];simp[a,f,ad]
 have o:iA s=match jx (cU 10 s.dropLast) zT 0 0 with
   |(none,k)=>(zT,(k:Int),25)
   |(some t,_)=>if eg t≠0 then(zT,0,eg t)else(t,0,0):=by rw[iA,if_neg (by simp[a])];rfl
 have m:lZ s=s.dropLast:=by
  rw[lZ,if_pos];rw[ig]at a
  split at a
  ·cases a
  ·split at a
   ·assumption
   ·cases a
 have j:=rM 10 s.dropLast;have hl:∀l∈cU 10 s.dropLast,l.length<=1000000/\∀c∈l,c<256:=fun l h=>by
  have:=pH h;exact⟨by simp at this;omega,fun c hc=>g c (am _ (wA h c hc))⟩
 have gr:=YE s hs g (cU 10 s.dropLast) (by rw[m]);have b:=Gu (cU 10 s.dropLast) 0 zT 0 0 (.inl ⟨rfl,rfl,rfl⟩);have z:=Aj (cU 10 s.dropLast) zT 0 0 rN (by simp[zT]) (by simp[zT]) (by simp[zT]) (by simp at j;omega) hl;rw[o];clear o hf r u i hl j m;generalize cU 10 s.dropLast=ls at*;generalize iQ ls 0 zT 0=A at*;generalize jx ls zT 0 0=R at*;obtain⟨t,D,n⟩:=A;obtain⟨v,k⟩:=R;have y:=Q7;simp[a,ad];refine cf y [2] ?_ (aj:=by simp[sig,nZ]) (aG:=by simp[sig]) (hr:=by simp[nZ]);simp[sig,aX,nZ,fh,eB];rw[eJ]at gr;refine cf gr [2,3] ?_ (aj:=by simp[sig,nZ,fh,eB]) (aG:=by simp[sig]) (hr:=by simp[nZ,fh,eB]);rcases v with _|t1
 ·dsimp only at b;obtain⟨d,a2⟩:=b;subst d;have w:(0:Int)<(n:Int):=by omega
  simp[sig,aX,fE,a2,w,f,ad]
 ·dsimp only at b;obtain⟨d,a2⟩:=b;subst d a2;obtain⟨k1,k2,k3,k4⟩:=z _ _ rfl;have gk:=Yv _ k1;rw[jT,pC]at gk;have q1:ac t.cs.length (t.cs.map (AV.p∘bw))=t.cs.map (AV.p∘bw):=ab s_;have B:ac t.aF.length (t.aF.map (AV.p∘bY))=t.aF.map (AV.p∘bY):=ab s_;have C:ac t.au.length (t.au.map (AV.p∘bO))=t.au.map (AV.p∘bO):=ab s_;have x:dG t=.st 35 [.seq (t.cs.map bw),.int .i64 t.bJ,.seq (t.aF.map bY),.seq (t.au.map bO)]:=rfl;simp[sig,aX,fE,ad];refine cf gk [4,5,6] ?_ (aj:=by simp[sig,fE]) (aG:=by simp[sig]) (hr:=s_)
  by_cases q:eg t=0
  ·simp[aX,sig,q,ad,fE,x,q1,B,C,wL]
  ·simp[aX,sig,q,ad,fE,f]
def rF(s:List Nat):Bool:=decide (s.length<=1500)||(decide (4096<s.length)&&decide (s.length<=4099))
theorem Rb(s:List Nat):az prog 8 [.str s] (.bool (rF s)):=by
 refine aP nf (i_ func8) mix (by simp[f8]) ?_
 by_cases b:s.length<=1500
 ·have a:(s.length:Int)<=1500:=by omega
  simp[f8,rF,b,a]
 ·have a:¬(s.length:Int)<=1500:=by omega
  by_cases d:4096<s.length
  ·have c:(4096:Int)<(s.length:Int):=by omega
   by_cases f:s.length<=4099
   ·have e:(s.length:Int)<=4099:=by omega
    simp[f8,rF,b,a,d,c,f,e]
   ·have e:¬(s.length:Int)<=4099:=by omega
    simp[f8,rF,b,a,d,c,f,e]
  ·have c:¬(4096:Int)<(s.length:Int):=by omega
   simp[f8,rF,b,a,d,c]
theorem QQ(g:az prog 9 [] (.bool true))(t:aC)(s:List Nat)(a:jf t)(i:∀c∈s,c<256):az prog 3 [ct t,.str s] (.bool true):=by
 have s0:=Ql t a.cl a.pl a.sl;have f:=Rb s;rcases m:n9 t with _|_
 ·rw[m]at s0;refine aP nf (i_ func3) mix (by simp[f3]) ?_;simp[f3,ad];refine c1_ s0 ?_;simp[ad];refine c0_ g ?_;simp[ad]
 rw[m]at s0;rcases h:rF s with _|_
 ·rw[h]at f;refine aP nf (i_ func3) mix (by simp[f3]) ?_;simp[f3,ad];refine c1_ s0 ?_;simp[ad];refine c1_ f ?_;simp[ad];refine c0_ g ?_;simp[ad]
 rw[h]at f;have hs:s.length<=100000:=by
  simp only[rF,Bool.or_eq_true,Bool.and_eq_true,decide_eq_true_eq]at h;omega
 have q0:=Qr t a.cl a.pl a.sl;have q1:=Q5 t a;have j:=Q6 s hs i;have n:=D2 t a;have q4:=QN s hs i;have d:=QZ hs i;have k:=Xi (iA s).1 d.pl d.sl;have l:=W0 (iA s).1 d.cl d.pl d.sl;generalize iA s=R at*;obtain⟨u,r,e⟩:=R;dsimp only at j q4 k l
 by_cases b:eg t=0
 ·have o:=QM t (Pv b);rw[if_neg (by simp[b]),if_neg (by simp[b])]at q1;generalize rq (mU t)=L at*;obtain⟨p,q⟩:=L;dsimp only at q1 o;refine aP nf (i_ func3) mix (by simp[f3]) ?_;simp[f3,ad];refine c1_ s0 ?_;simp[ad];refine c1_ f ?_;simp[ad];refine c1_ q0 ?_;simp[ad];refine c1_ q1 ?_;simp[ad];refine c1_ j ?_;simp[ad];refine c1_ n ?_;simp[b,ad];refine c1_ o ?_;simp[ad];refine c1_ q4 ?_;simp[ad];refine e1_ k ?_;simp[ad];refine e2_ l ?_;simp[ad];refine e0_ g ?_;simp[ad]
 ·rw[if_pos b,if_pos b]at q1;refine aP nf (i_ func3) mix (by simp[f3]) ?_;simp[f3,ad];refine c1_ s0 ?_;simp[ad];refine c1_ f ?_;simp[ad];refine c1_ q0 ?_;simp[ad];refine c1_ q1 ?_;simp[ad];refine c1_ j ?_;simp[ad];refine c1_ n ?_;simp[b,ad];refine c1_ q4 ?_;simp[b,ad];refine e1_ k ?_;simp[ad];refine e2_ l ?_;simp[ad];refine e0_ g ?_;simp[ad]
end Go.aw
