import Derived.Test.YthmfmhbicipdmaaGreatDoorPM
/- Parts of a proof. -/
set_option linter.unusedSimpArgs false
set_option linter.unusedVariables false
set_option linter.unusedSectionVars false
open Go.Proofs.Tryz
open And renaming intro->ab
open Bool renaming true_or->ac, false_or->am, or_true->ao, and_eq_true->ap, eq_iff_iff->av
open List renaming range->ax, mem_of_find?_eq_some->ay, append_nil->aT, mem_range->a2, range_succ->a3, getD_eq_getElem?_getD->a4, drop_eq_getElem_cons->a6, getElem?_eq_getElem->a7, length_filter_le->a8, filter_append->a9, length_range->bb, map_append->be, mem_map->bi
namespace Go.ah
open Go.Proofs
set_option maxHeartbeats 4000000
set_option maxRecDepth 100000
def jN(t b:aA)(ak al:List Nat)(i j m:Nat):List (List Nat):=(ax m).map (fun n=>(fF t b ak al i j n).1)
theorem HO(t b:aA)(ak al:List Nat)(i j m:Nat):jN t b ak al i j (m+1)=jN t b ak al i j m++[(fF t b ak al i j m).1]:=by
 rw[jN,a3,be];rfl
@[simp] theorem aNB(t b:aA)(ak al:List Nat)(i j m:Nat):(jN t b ak al i j m).length=m:=by simp[jN]
@[simp] theorem aPQ{β:Type}(f:List Nat->β)(t b:aA)(ak al:List Nat)(i j m:Nat):((jN t b ak al i j m).map f).take m=(jN t b ak al i j m).map f:=List.take_of_length_le (by simp)
theorem Up(t b:aA)(ak al:List Nat)(i j:Nat)(h:gC t b ak al i j):
 ar prog 39 [fp t b ak al] (.seq ((jN t b ak al i j 32).map .str)):=by
 have a:=fun n d=>BE t b ak al i j n h d;have g:(1000:Nat)<cN:=by decide
 refine aI nf Ry mix (by simp[f39]) ?_;simp[f39,aa];refine lp (α:=Nat) (fun m=>⟨[(4,.p (.int .i64 m)),(3,.sl 1 m 1 0 m),(1,.ptr 0 [])],[.box false (.p (fp t b ak al)),.arr .grow m 1 ((jN t b ak al i j m).map (fun x=>.p (.str x)))]⟩) (fun m=>m<=32) (fun m=>32-m) 0 (by simp) ?_ (he:=by simp[jN]) (hh:=by simp[jN]);rintro m m1
 by_cases hm:m<32
 ·have f:=bR (i:=m) (by omega);have hs:=HO t b ak al i j m;have a:=a m hm;generalize (fF t b ak al i j m).2=e at*;generalize (fF t b ak al i j m).1=k at*;have c:(m:Int)<32:=by omega
  simp[c,aa];refine Go.ah.c2 a ?_;simp[f,aa];exact⟨by omega,rd (m+1) (by omega) (hh:=by simp[hs])⟩
 ·have:m=32:=by omega
  subst this;simp[aa]
def qL(t b:aA)(ak al:List Nat)(i j:Nat):Bool:=(ax 32).any (fun n=>decide ((fF t b ak al i j n).2=0))
theorem Uo(t b:aA)(ak al:List Nat)(i j:Nat)(l:fL t)(k:fM b)(h:dA t b ak al=0)(g:gC t b ak al i j):
 ar prog 35 [fU t b ak al] (if qL t b ak al i j then .aE [.seq [],.int .i64 7]else .aE [.seq ((jN t b ak al i j 32).map .str),.int .i64 0]):=by
 have k1:=vc t b ak al l k h;have c:=fun n a=>QO t b ak al i j n g a;have q:(1000:Nat)<cN:=by decide
 refine aI nf EK mix (by simp[f35]) ?_;simp[f35,aa];refine Go.ah.c1 k1 ?_;simp[aa];refine lp (α:=Nat) (fun m=>⟨[(18,.p (.int .i64 m)),(6,.sl 2 m 1 0 m),(4,.ptr 1 [])],[.box false (.p (fU t b ak al)),.box false (.p (iR t b ak al)),.arr .grow m 1 ((jN t b ak al i j m).map (fun x=>.p (.str x)))]⟩) (fun m=>m<=32/\∀n,n<m->(fF t b ak al i j n).2≠0) (fun m=>32-m) 0 (by simp) ?_ (he:=by simp[jN]) (hh:=by simp[jN]);rintro m ⟨m1,m2⟩
 by_cases hm:m<32
 ·have o:=bR (i:=m) (by omega);have hs:=HO t b ak al i j m;have c:=c m hm;have f:(m:Int)<32:=by omega
  by_cases he:(fF t b ak al i j m).2=0
  ·have d:qL t b ak al i j=true:=by
    rw[qL,List.any_eq_true];exact⟨m,a2.2 hm,by simp[he]⟩
   rw[d];rw[he]at c;simp[f,aa];refine Go.ah.c2 c ?_;simp[aa]
  ·have a:∀n,n<m+1->(fF t b ak al i j n).2≠0:=fun n a=>by
    by_cases e:n=m
    ·subst e;exact he
    ·exact m2 n (by omega)
   generalize (fF t b ak al i j m).2=e at*;generalize (fF t b ak al i j m).1=r at*;simp[f,aa];refine Go.ah.c2 c ?_;simp[he,o,aa];exact⟨by omega,rd (m+1) ⟨by omega,a⟩ (hh:=by simp[hs])⟩
 ·have:m=32:=by omega
  subst this;have d:qL t b ak al i j=false:=by
   rw[qL,List.any_eq_false];intro n a;have:=m2 n (a2.1 a);simp[this]
  rw[d];simp[aa]
theorem Ug(t b:aA)(ak al:List Nat)(c:fL t)(a:fM b)(h:¬dA t b ak al=0):
 ar prog 35 [fU t b ak al] (.aE [.seq [],.int .i64 (dA t b ak al)]):=by
 have k1:=ya t b ak al c a h;generalize dA t b ak al=e at*;refine aI nf EK mix (by simp[f35]) ?_;simp[f35,aa];refine Go.ah.c1 k1 ?_;simp[h,aa]
theorem HK(l:List (List Nat))(h:l.length<=1000000):ar prog 23 [.seq (l.map .str),.seq (l.map .str)] (.bool true):=by
 refine aI nf Rq mix (by simp[f23]) ?_;simp[f23];refine lp (α:=Nat) (fun i=>⟨[(5,.p (.int .i64 i)),(1,.p (.seq (l.map .str))),(0,.p (.seq (l.map .str)))],[]⟩) (fun i=>i<=l.length) (fun i=>l.length-i) 0 (by simp) ?_;rintro i i1;have a:=bR (i:=i) (by omega)
 by_cases hi:i<l.length
 ·simp[hi,a];exact rd (i+1) hi
 ·simp[hi]
def A0(r:Int)(b:aA)(ak al:List Nat)(cp a:V2)(far:Bool)(name:List Nat):Int:=
 if name=[]then aU (!far) 21 else match dI b.aw name with
  |none=>10
  |some s=>aU (decide (name=ak)||(decide (name=al)||(far||!jz r (vP s.pt) cp a))) 21
def uG(e:Int):Bool:=decide (e=16)||decide (e=18)
def gl(t b:aA)(ak al:List Nat)(i j n:Nat)(name:List Nat):Int:=
 A0 t.aN b ak al (vP (b.sp i).pt) (lH t.aN (vP (b.sp j).pt) n) (uG (fF t b ak al i j n).2) name
theorem Hz(e:Int):(e=16/\uG e=true)\/(¬e=16/\e=18/\uG e=true)\/(¬e=16/\¬e=18/\uG e=false):=by
 rw[uG]
 by_cases a:e=16
 ·exact .inl ⟨a,by simp[a]⟩
 ·by_cases b:e=18
  ·exact .inr (.inl ⟨a,b,by simp[b]⟩)
  ·exact .inr (.inr ⟨a,b,by simp[a,b]⟩)
theorem Ut(t b:aA)(ak al:List Nat)(i j n:Nat)(name:List Nat)(h:gC t b ak al i j)(y:n<32):
 ar prog 107 [iR t b ak al,.int .i64 n,.str name] (.int .i64 (gl t b ak al i j n name)):=by
 obtain⟨F,G⟩:=ky h.iB;have D:=(h.at h.ci.2.1).2;have C:=(h.at h.bj.2.1).2;have f:=QO t b ak al i j n h y;have A:=I0 t b ak al i j n h y;have z:=yb (n:=n) (r:=t.aN) (by omega) (by omega) C;have w:=h.ci.2.2;rw[gl];rw[<-Ja]at z⊢;have m:=fun s(hs:s∈b.aw)=>Hm t b (.from s.pt) (.from (b.sp i).pt) (sD t b j n) (by omega) (by omega) (by rw[iZ];exact(h.ux s hs).mono (by decide)) (by rw[iZ];exact D.mono (by decide)) (z.mono (by decide));simp only[iZ]at m;have o:=fun x=>pH x 21;generalize (fF t b ak al i j n).2=e at*;generalize (fF t b ak al i j n).1=E at*;generalize sD t b j n=a at*;refine aI nf GK mix (by simp[f107]) ?_;rw[A0];rcases Hz e with⟨rfl,ef⟩|⟨e1,rfl,ef⟩|⟨e1,e2,ef⟩
 ·rw[ef];have l:=o true;have v:=o false
  by_cases c:name=[]
  ·subst c;rw[if_pos rfl];simp[f107,aa];refine Go.ah.c2 f ?_;simp[aa];refine Go.ah.c2 v ?_;simp[aa]
  rw[if_neg c];cases hf:dI b.aw name with
  |none=>
   simp[f107,aa];refine Go.ah.c2 f ?_;simp[c,hf,aa]
  |some s=>
   have hs:s∈b.aw:=by rw[dI]at hf;exact ay hf
   have m:=m s hs;dsimp only;generalize jz t.aN (vP s.pt) (vP (b.sp i).pt) a.q=u at*
   by_cases hc:name=ak
   ·rw[decide_eq_true hc,ac];generalize aU true 21=w0 at*;have g:(name==ak)=true:=by simp[hc]
    simp[f107,aa];refine Go.ah.c2 f ?_;simp[c,hf,g,aa];refine Go.ah.c2 l ?_;simp[aa]
   have g:(name==ak)=false:=by simp[hc]
   by_cases d:name=al
   ·rw[decide_eq_true d,ac,ao];generalize aU true 21=w0 at*;have k:(name==al)=true:=by simp[d]
    simp[f107,aa];refine Go.ah.c2 f ?_;simp[c,hf,g,k,hc,aa];refine Go.ah.c2 l ?_;simp[aa]
   have k:(name==al)=false:=by simp[d]
   rw[decide_eq_false hc,decide_eq_false d,am,am];rw[ac];generalize aU true 21=w0 at*;simp[f107,aa];refine Go.ah.c2 f ?_;simp[c,hf,hc,d,g,k,aa];refine Go.ah.c2 l ?_;simp[aa]
 ·rw[ef];have l:=o true;have v:=o false
  by_cases c:name=[]
  ·subst c;rw[if_pos rfl];simp[f107,aa];refine Go.ah.c2 f ?_;simp[aa];refine Go.ah.c2 v ?_;simp[aa]
  rw[if_neg c];cases hf:dI b.aw name with
  |none=>
   simp[f107,aa];refine Go.ah.c2 f ?_;simp[c,hf,aa]
  |some s=>
   have hs:s∈b.aw:=by rw[dI]at hf;exact ay hf
   have m:=m s hs;dsimp only;generalize jz t.aN (vP s.pt) (vP (b.sp i).pt) a.q=u at*
   by_cases hc:name=ak
   ·rw[decide_eq_true hc,ac];generalize aU true 21=w0 at*;have g:(name==ak)=true:=by simp[hc]
    simp[f107,aa];refine Go.ah.c2 f ?_;simp[c,hf,g,aa];refine Go.ah.c2 l ?_;simp[aa]
   have g:(name==ak)=false:=by simp[hc]
   by_cases d:name=al
   ·rw[decide_eq_true d,ac,ao];generalize aU true 21=w0 at*;have k:(name==al)=true:=by simp[d]
    simp[f107,aa];refine Go.ah.c2 f ?_;simp[c,hf,g,k,hc,aa];refine Go.ah.c2 l ?_;simp[aa]
   have k:(name==al)=false:=by simp[d]
   rw[decide_eq_false hc,decide_eq_false d,am,am];rw[ac];generalize aU true 21=w0 at*;simp[f107,aa];refine Go.ah.c2 f ?_;simp[c,hf,hc,d,g,k,aa];refine Go.ah.c2 l ?_;simp[aa]
 ·have q1:(e==16)=false:=by simp[e1]
  have p:(e==18)=false:=by simp[e2]
  rw[ef];have l:=o true;have v:=o false
  by_cases c:name=[]
  ·subst c;rw[if_pos rfl];simp[f107,aa];refine Go.ah.c2 f ?_;simp[q1,p,e1,e2,aa];refine Go.ah.c2 l ?_;simp[aa]
  rw[if_neg c];cases hf:dI b.aw name with
  |none=>
   simp[f107,aa];refine Go.ah.c2 f ?_;simp[q1,p,e1,e2,c,hf,aa]
  |some s=>
   have hs:s∈b.aw:=by rw[dI]at hf;exact ay hf
   have m:=m s hs;dsimp only;generalize jz t.aN (vP s.pt) (vP (b.sp i).pt) a.q=u at*
   by_cases hc:name=ak
   ·rw[decide_eq_true hc,ac];generalize aU true 21=w0 at*;have g:(name==ak)=true:=by simp[hc]
    simp[f107,aa];refine Go.ah.c2 f ?_;simp[q1,p,e1,e2,c,hf,g,aa];refine Go.ah.c2 l ?_;simp[aa]
   have g:(name==ak)=false:=by simp[hc]
   by_cases d:name=al
   ·rw[decide_eq_true d,ac,ao];generalize aU true 21=w0 at*;have k:(name==al)=true:=by simp[d]
    simp[f107,aa];refine Go.ah.c2 f ?_;simp[q1,p,e1,e2,c,hf,g,k,hc,aa];refine Go.ah.c2 l ?_;simp[aa]
   have k:(name==al)=false:=by simp[d]
   rw[decide_eq_false hc,decide_eq_false d,am,am];rw[am];have B:=o (!u);generalize aU (!u) 21=H at*;simp[f107,aa];refine Go.ah.c2 f ?_;simp[q1,p,e1,e2,c,hf,hc,d,g,k,w,aa];refine Go.ah.e2 A ?_;simp[q1,p,e1,e2,w,aa];refine Go.ah.e4 m ?_;simp[q1,p,e1,e2,aa];refine Go.ah.c2 B ?_;simp[aa]
def yd(t b:aA)(ak al:List Nat)(i j:Nat)(l:List (List Nat)):Int:=
 if l.length≠32 then 2 else bG ((ax 32).map (fun n=>gl t b ak al i j n (l.getD n [])))
theorem Ui(t b:aA)(ak al:List Nat)(i j:Nat)(l:List (List Nat))(w:fL t)(u:fM b)(h:dA t b ak al=0)(s:gC t b ak al i j)(A:l.length<=1000000):
 ar prog 36 [fU t b ak al,.seq (l.map .str)] (.int .i64 (yd t b ak al i j l)):=by
 have k1:=vc t b ak al w u h;have d:=fun n g=>Ut t b ak al i j n (l.getD n []) s g;have k2:=fun x=>pH x 2;have k3:∀x,ar prog 86 [.seq [.int .i64 0,.int .i64 (aU x 2)]] (.int .i64 (aU x 2)):=fun x=>by
  have:=B3 [0,aU x 2] (by simp);cases x<;>simpa[bG,aU]using this
 refine aI nf EL mix (by simp[f36]) ?_;rw[yd]
 by_cases q:l.length=32
 case neg=>
  have i32:¬(l.length:Int)=32:=by omega
  have k2:=k2 true;have k3:=k3 true;have c:aU true 2=2:=rfl;rw[c]at k2 k3;rw[if_pos q];simp[f36,aa];refine Go.ah.c1 k1 ?_;simp[i32,aa];refine Go.ah.c2 k2 ?_ (by simp[i32]);simp[aa];refine cp k3 (by simp;first|exact⟨rfl,rfl⟩|rfl) ?_;simp[aa]
 have i32:(l.length:Int)=32:=by omega
 have k2:=k2 false;have k3:=k3 false;have c:aU false 2=0:=rfl;rw[c]at k2 k3;rw[if_neg (by simp[q])];simp[f36,aa];refine Go.ah.c1 k1 ?_;simp[i32,aa];refine Go.ah.c2 k2 ?_;simp[aa];refine cp k3 (by simp;first|exact⟨rfl,rfl⟩|rfl) ?_;simp[i32,aa];refine lp (α:=Nat) (fun m=>⟨[(27,.p (.int .i64 m)),(26,.p (.int .i64 32)),(25,.p (.seq (l.map .str))),(5,.ptr 1 [])],[.box false (.p (fU t b ak al)),.box false (.p (iR t b ak al))]⟩) (fun m=>m<=32/\∀n,n<m->gl t b ak al i j n (l.getD n [])=0) (fun m=>32-m) 0 (by simp) ?_;rintro m ⟨m1,m2⟩
 by_cases hm:m<32
 ·have c:=bR (i:=m) (by omega);have d:=d m hm;have r:(m:Int)<32:=by omega
  have k:m<l.length:=by omega
  have o:l[m]=l.getD m []:=by
   rw[a4,a7 k];rfl
  have v:gl t b ak al i j m (l.getD m [])≠0->bG ((ax 32).map (fun n=>gl t b ak al i j n (l.getD n [])))=gl t b ak al i j m (l.getD m []):=fun a=>
   xO (f:=fun n=>gl t b ak al i j n (l.getD n [])) 32 m m2 hm a
  have z:gl t b ak al i j m (l.getD m [])=0->∀n,n<m+1->gl t b ak al i j n (l.getD n [])=0:=fun a n g=>by
   by_cases e:n=m
   ·subst e;exact a
   ·exact m2 n (by omega)
  generalize gl t b ak al i j m (l.getD m [])=E at*;generalize bG ((ax 32).map (fun n=>gl t b ak al i j n (l.getD n [])))=R at*;generalize l.getD m []=name at*
  by_cases a:E=0
  ·rw[a]at d;simp[r,k,o,aa];refine Go.ah.c3 d ?_;simp[c,aa];exact rd (m+1) ⟨by omega,z a⟩
  ·rw[v a];simp[r,k,o,aa];refine Go.ah.c3 d ?_;simp[a,aa]
 ·have:m=32:=by omega
  subst this;have y:bG ((ax 32).map (fun n=>gl t b ak al i j n (l.getD n [])))=0:=by
   rw[mX];intro e a;obtain⟨n,g,rfl⟩:=bi.1 a;exact m2 n (a2.1 g)
  rw[y];simp[aa]
theorem Uh(t b:aA)(ak al:List Nat)(l:List (List Nat))(c:fL t)(a:fM b)(h:¬dA t b ak al=0)(f:l.length<=1000000):
 ar prog 36 [fU t b ak al,.seq (l.map .str)] (.int .i64 (dA t b ak al)):=by
 have k1:=ya t b ak al c a h;generalize dA t b ak al=e at*;have k2:=fun x=>pH x 2;have k3:∀x,ar prog 86 [.seq [.int .i64 e,.int .i64 (aU x 2)]] (.int .i64 e):=fun x=>by
  have:=B3 [e,aU x 2] (by simp);simpa[bG,h]using this
 refine aI nf EL mix (by simp[f36]) ?_
 by_cases d:l.length=32
 ·have i32:(l.length:Int)=32:=by omega
  simp[f36,aa];refine Go.ah.c1 k1 ?_;simp[i32,aa];refine Go.ah.c2 (k2 false) ?_;simp[aa];refine cp (k3 false) (by simp;first|exact⟨rfl,rfl⟩|rfl) ?_;simp[h,aa]
 ·have i32:¬(l.length:Int)=32:=by omega
  simp[f36,aa];refine Go.ah.c1 k1 ?_;simp[i32,aa];refine Go.ah.c2 (k2 true) ?_ (by simp[i32]);simp[aa];refine cp (k3 true) (by simp;first|exact⟨rfl,rfl⟩|rfl) ?_;simp[h,aa]
theorem Uj(t b:aA)(ak al:List Nat)(i j:Nat)(l:List (List Nat))(x:gC t b ak al i j)(Q:l.length<=1000000):
 ar prog 37 [fp t b ak al,.seq (l.map .str)] (.int .i64 (yd t b ak al i j l)):=by
 obtain⟨U,V⟩:=ky x.iB;have S:=x.L.sl;have P:=(x.at x.ci.2.1).2;have O:=(x.at x.bj.2.1).2;have K:=I1 t b ak al i j x;have kB:=BO t b ak al;refine aI nf Rw mix (by simp[f37]) ?_;rw[yd]
 by_cases I:l.length=32
 case neg=>
  have i32:¬(l.length:Int)=32:=by omega
  rw[if_pos I];simp[f37,i32,aa]
 have i32:(l.length:Int)=32:=by omega
 rw[if_neg (by simp[I])];simp[f37,i32,aa];refine lp (α:=Nat) (fun m=>⟨[(5,.p (.int .i64 m)),(2,.ptr 0 []),(1,.p (.seq (l.map .str)))],[.box false (.p (fp t b ak al))]⟩) (fun m=>m<=32/\∀n,n<m->gl t b ak al i j n (l.getD n [])=0) (fun m=>32-m) 0 (by simp) ?_;rintro m ⟨m1,m2⟩
 by_cases hm:m<32
 case neg=>
  have:m=32:=by omega
  subst this;have h:bG ((ax 32).map (fun n=>gl t b ak al i j n (l.getD n [])))=0:=by
   rw[mX];intro e C;obtain⟨n,J,rfl⟩:=bi.1 C;exact m2 n (a2.1 J)
  rw[h];simp[aa]
 have G:=bR (i:=m) (by omega);have v:(m:Int)<32:=by omega
 have c:m<l.length:=by omega
 have d:l[m]=l.getD m []:=by
  rw[a4,a7 c];rfl
 have y:gl t b ak al i j m (l.getD m [])≠0->bG ((ax 32).map (fun n=>gl t b ak al i j n (l.getD n [])))=gl t b ak al i j m (l.getD m []):=fun C=>
  xO (f:=fun n=>gl t b ak al i j n (l.getD n [])) 32 m m2 hm C
 have H:gl t b ak al i j m (l.getD m [])=0->∀n,n<m+1->gl t b ak al i j n (l.getD n [])=0:=fun C n J=>by
  by_cases e:n=m
  ·subst e;exact C
  ·exact m2 n (by omega)
 have w:=BE t b ak al i j m x hm;have M:=Ht t b ak al i j m x hm;have N:=yb (n:=m) (r:=t.aN) (by omega) (by omega) O;have ev:gl t b ak al i j m (l.getD m [])=A0 t.aN b ak al (vP (b.sp i).pt) (lH t.aN (vP (b.sp j).pt) m) (uG (fF t b ak al i j m).2) (l.getD m []):=rfl;have z:=fun k(hk:k<b.aw.length)=>Hj t.aN (vP (b.sp k).pt) (vP (b.sp i).pt) (lH t.aN (vP (b.sp j).pt) m) (by omega) (by omega) ((x.at hk).2.mono (by decide)) (P.mono (by decide)) (N.mono (by decide));have z:∀k,k<b.aw.length->ar prog 110 [.int .i64 t.aN,.st 121 [eV (vP (b.sp i).pt),eV (lH t.aN (vP (b.sp j).pt) m)],gf (b.sp k).pt] (.bool (jz t.aN (vP (b.sp k).pt) (vP (b.sp i).pt) (lH t.aN (vP (b.sp j).pt) m))):=fun k hk=>by
  have:=z k hk
  rwa [(x.at hk).1]at this
 have s:=Hi [ak,al] (l.getD m []) (by simp);have s:ar prog 109 [.seq [.str ak,.str al],.str (l.getD m [])] (.bool (decide (l.getD m []=ak)||decide (l.getD m []=al))):=by
  have e:decide (l.getD m []∈[ak,al])=(decide (l.getD m []=ak)||decide (l.getD m []=al)):=by
   rw[av];simp
  rw[e]at s;exact s
 have q:=vf b (l.getD m []) (by omega);have F:=u7 b (l.getD m []);clear N P O;generalize gl t b ak al i j m (l.getD m [])=E at*;generalize bG ((ax 32).map (fun n=>gl t b ak al i j n (l.getD n [])))=R at*;generalize (fF t b ak al i j m).2=e at*;generalize (fF t b ak al i j m).1=T at*;generalize lH t.aN (vP (b.sp j).pt) m=a at*;generalize l.getD m []=name at*;rw[A0]at ev;rcases Hz e with⟨rfl,ef⟩|⟨e1,rfl,ef⟩|⟨e1,e2,ef⟩
 ·rw[ef]at ev
  by_cases h:name=[]
  ·rw[if_pos h]at ev;have B:E=0:=by rw[ev];rfl
   simp[v,c,d,aa];refine Go.ah.c2 w ?_;simp[c,d,h,G,aa];exact rd (m+1) ⟨by omega,H B⟩
  rw[if_neg h]at ev;rcases F with⟨k,k1,k2,k3⟩|⟨k1,k3⟩
  case inr=>
   rw[k1]at q;rw[k3]at ev;dsimp only at ev;have g:R=10:=by rw[y (by rw[ev];decide),ev]
   simp[v,c,d,aa];refine Go.ah.c2 w ?_;simp[c,d,h,g,aa];refine Go.ah.e2 q ?_;simp[g,aa]
  rw[k1]at q;rw[k3]at ev;have A:¬(k:Int)<0:=by omega
  have z:=z k k2;have gk:=aA.eK k2;dsimp only at ev;generalize jz t.aN (vP (b.sp k).pt) (vP (b.sp i).pt) a=D at*;cases u:(decide (name=ak)||decide (name=al))
  case true=>
   rw[u]at s;have hc:name=ak\/name=al:=by simpa using u
   have g:R=21:=by
    have:E=21:=by
     rw[ev];rcases hc with hc|hc
     ·simp[hc,aU]
     ·simp[hc,aU]
    rw[y (by omega),this]
   simp[v,c,d,aa];refine Go.ah.c2 w ?_;simp[c,d,h,g,aa];refine Go.ah.e2 q ?_;simp[c,d,A,aa];refine Go.ah.e1 kB ?_;simp[c,d,aa];refine Go.ah.e2 s ?_;simp[g,aa]
  rw[u]at s;have hc:¬name=ak/\¬name=al:=by simpa using u
  rw[decide_eq_false hc.1,decide_eq_false hc.2]at ev;have g:R=21:=by
   have:E=21:=by rw[ev];rfl
   rw[y (by omega),this]
  simp[v,c,d,aa];refine Go.ah.c2 w ?_;simp[c,d,h,g,aa];refine Go.ah.e2 q ?_;simp[c,d,A,aa];refine Go.ah.e1 kB ?_;simp[c,d,aa];refine Go.ah.e2 s ?_;simp[g,aa]
 ·rw[ef]at ev
  by_cases h:name=[]
  ·rw[if_pos h]at ev;have B:E=0:=by rw[ev];rfl
   simp[v,c,d,aa];refine Go.ah.c2 w ?_;simp[c,d,h,G,aa];exact rd (m+1) ⟨by omega,H B⟩
  rw[if_neg h]at ev;rcases F with⟨k,k1,k2,k3⟩|⟨k1,k3⟩
  case inr=>
   rw[k1]at q;rw[k3]at ev;dsimp only at ev;have g:R=10:=by rw[y (by rw[ev];decide),ev]
   simp[v,c,d,aa];refine Go.ah.c2 w ?_;simp[c,d,h,g,aa];refine Go.ah.e2 q ?_;simp[g,aa]
  rw[k1]at q;rw[k3]at ev;have A:¬(k:Int)<0:=by omega
  have z:=z k k2;have gk:=aA.eK k2;dsimp only at ev;generalize jz t.aN (vP (b.sp k).pt) (vP (b.sp i).pt) a=D at*;cases u:(decide (name=ak)||decide (name=al))
  case true=>
   rw[u]at s;have hc:name=ak\/name=al:=by simpa using u
   have g:R=21:=by
    have:E=21:=by
     rw[ev];rcases hc with hc|hc
     ·simp[hc,aU]
     ·simp[hc,aU]
    rw[y (by omega),this]
   simp[v,c,d,aa];refine Go.ah.c2 w ?_;simp[c,d,h,g,aa];refine Go.ah.e2 q ?_;simp[c,d,A,aa];refine Go.ah.e1 kB ?_;simp[c,d,aa];refine Go.ah.e2 s ?_;simp[g,aa]
  rw[u]at s;have hc:¬name=ak/\¬name=al:=by simpa using u
  rw[decide_eq_false hc.1,decide_eq_false hc.2]at ev;have g:R=21:=by
   have:E=21:=by rw[ev];rfl
   rw[y (by omega),this]
  simp[v,c,d,aa];refine Go.ah.c2 w ?_;simp[c,d,h,g,aa];refine Go.ah.e2 q ?_;simp[c,d,A,aa];refine Go.ah.e1 kB ?_;simp[c,d,aa];refine Go.ah.e2 s ?_;simp[g,aa]
 ·have q1:(e==16)=false:=by simp[e1]
  have o:(e==18)=false:=by simp[e2]
  rw[ef]at ev
  by_cases h:name=[]
  ·rw[if_pos h]at ev;have B:E=21:=by rw[ev];rfl
   have g:R=21:=by rw[y (by omega),B]
   simp[v,c,d,aa];refine Go.ah.c2 w ?_;simp[q1,o,e1,e2,c,d,h,g,aa]
  rw[if_neg h]at ev;rcases F with⟨k,k1,k2,k3⟩|⟨k1,k3⟩
  case inr=>
   rw[k1]at q;rw[k3]at ev;dsimp only at ev;have g:R=10:=by rw[y (by rw[ev];decide),ev]
   simp[v,c,d,aa];refine Go.ah.c2 w ?_;simp[q1,o,e1,e2,c,d,h,g,aa];refine Go.ah.e2 q ?_;simp[q1,o,e1,e2,g,aa]
  rw[k1]at q;rw[k3]at ev;have A:¬(k:Int)<0:=by omega
  have z:=z k k2;have gk:=aA.eK k2;dsimp only at ev;generalize jz t.aN (vP (b.sp k).pt) (vP (b.sp i).pt) a=D at*;cases u:(decide (name=ak)||decide (name=al))
  case true=>
   rw[u]at s;have hc:name=ak\/name=al:=by simpa using u
   have g:R=21:=by
    have:E=21:=by
     rw[ev];rcases hc with hc|hc
     ·simp[hc,aU]
     ·simp[hc,aU]
    rw[y (by omega),this]
   simp[v,c,d,aa];refine Go.ah.c2 w ?_;simp[q1,o,e1,e2,c,d,h,g,aa];refine Go.ah.e2 q ?_;simp[q1,o,e1,e2,c,d,A,aa];refine Go.ah.e1 kB ?_;simp[q1,o,e1,e2,c,d,aa];refine Go.ah.e2 s ?_;simp[q1,o,e1,e2,g,aa]
  rw[u]at s;have hc:¬name=ak/\¬name=al:=by simpa using u
  rw[decide_eq_false hc.1,decide_eq_false hc.2]at ev;cases D
  ·have g:R=21:=by
    have:E=21:=by rw[ev];rfl
    rw[y (by omega),this]
   simp[v,c,d,aa];refine Go.ah.c2 w ?_;simp[q1,o,e1,e2,c,d,h,g,aa];refine Go.ah.e2 q ?_;simp[q1,o,e1,e2,c,d,A,aa];refine Go.ah.e1 kB ?_;simp[q1,o,e1,e2,c,d,aa];refine Go.ah.e2 s ?_;simp[q1,o,e1,e2,aa];refine Go.ah.e1 K ?_;simp[q1,o,e1,e2,aa];refine Go.ah.e2 M ?_;simp[q1,o,e1,e2,k2,gk,aa];refine Go.ah.e3 z ?_;simp[q1,o,e1,e2,g,aa]
  ·have B:E=0:=by rw[ev];rfl
   simp[v,c,d,aa];refine Go.ah.c2 w ?_;simp[q1,o,e1,e2,c,d,h,aa];refine Go.ah.e2 q ?_;simp[q1,o,e1,e2,c,d,A,aa];refine Go.ah.e1 kB ?_;simp[q1,o,e1,e2,c,d,aa];refine Go.ah.e2 s ?_;simp[q1,o,e1,e2,aa];refine Go.ah.e1 K ?_;simp[q1,o,e1,e2,aa];refine Go.ah.e2 M ?_;simp[q1,o,e1,e2,k2,gk,aa];refine Go.ah.e3 z ?_;simp[q1,o,e1,e2,G,aa];exact rd (m+1) ⟨by omega,H B⟩
theorem Uc{t b:aA}{ak al:List Nat}{i j:Nat}:qL t b ak al i j=!decide ((jR t b ak al i j 32).length=0):=by
 rw[qL,jR,av];simp
theorem Ud(c:ar prog 9 [] (.bool true))(t b:aA)(ak al:List Nat)(l:List (List Nat))(e:fL t)(a:fM b):
 ar prog 6 [fp t b ak al,.seq (l.map .str)] (.bool true):=by
 have H:(1000000:Nat)<cN:=by decide
 have s0:=Hn t b ak al 6 e a (by decide);have k1:=Hq t b ak al e a;have k2:=Jb t b ak al e a;rcases z:po t b ak al 6 with _|_
 ·rw[z]at s0;refine aI nf xu mix (by simp[f6]) ?_;simp[f6,aa];refine Go.ah.c2 s0 ?_;simp[aa];refine c0 c ?_;simp
 rw[z]at s0
 by_cases F:40<l.length
 ·have A:(40:Int)<l.length:=by omega
  refine aI nf xu mix (by simp[f6]) ?_;simp[f6,aa];refine Go.ah.c2 s0 ?_;simp[A,aa];refine c0 c ?_;simp
 have A:¬(40:Int)<l.length:=by omega
 have w:l.length<=1000000:=by omega
 have E:∃k u v,ar prog 35 [fU t b ak al] (.aE [.seq (k.map .str),.int .i64 u])/\ar prog 36 [fU t b ak al,.seq (l.map .str)] (.int .i64 v)/\
  ((¬dA t b ak al=0/\k=[]/\u=dA t b ak al/\v=dA t b ak al)\/
   (dA t b ak al=0/\ar prog 37 [fp t b ak al,.seq (l.map .str)] (.int .i64 v)/\∃L:List Nat,ar prog 38 [fp t b ak al] (.seq (L.map iv))/\
    ((0<L.length/\k=[]/\u=7)\/(L.length=0/\u=0/\ar prog 39 [fp t b ak al] (.seq (k.map .str))/\ar prog 23 [.seq (k.map .str),.seq (k.map .str)] (.bool true))))):=by
  by_cases d:dA t b ak al=0
  case neg=>exact⟨[],_,_,Ug t b ak al e a d,Uh t b ak al l e a d w,.inl ⟨d,rfl,rfl,rfl⟩⟩
  obtain⟨i,j,s⟩:=IY e a z d;have a1:=Uo t b ak al i j e a d s;have q:=Ui t b ak al i j l e a d s w;have n:=Uj t b ak al i j l s w;have o:=Z7 t b ak al i j s;rw[Uc]at a1
  by_cases h:(jR t b ak al i j 32).length=0
  ·rw[if_neg (by simp[h])]at a1;exact⟨_,_,_,a1,q,.inr ⟨d,n,_,o,.inr ⟨h,rfl,Up t b ak al i j s,HK _ (by simp)⟩⟩⟩
  ·rw[if_pos (by simp[h])]at a1;exact⟨[],_,_,a1,q,.inr ⟨d,n,_,o,.inl ⟨by omega,rfl,rfl⟩⟩⟩
 obtain⟨k,u,v,a1,q,C⟩:=E;generalize dA t b ak al=bad at*;refine aI nf xu mix (by simp[f6]) ?_;simp[f6,aa];refine Go.ah.c2 s0 ?_;simp[A,aa];refine lp (α:=Nat) (fun m=>⟨[(22,.p (.int .i64 m)),(21,.p (.int .i64 l.length)),(20,.p (.seq (l.map .str))),(2,.ptr 0 []),(1,.p (.seq (l.map .str)))],[.box false (.p (fp t b ak al))]⟩) (fun m=>m<=l.length) (fun m=>l.length-m) 0 (by simp) ?_;rintro m m1
 by_cases hm:m<l.length
 ·have D:=bR (i:=m) (by omega)
  by_cases hlen:40<(l[m]).length
  ·have B:(40:Int)<(l[m]).length:=by omega
   simp[hm,B,aa];refine c0 c ?_;simp
  ·have B:¬(40:Int)<(l[m]).length:=by omega
   simp[hm,B,D,aa];exact rd (m+1) hm
 have:m=l.length:=by omega
 subst this;simp[aa];refine Go.ah.c1 k2 ?_;simp[aa];refine Go.ah.c1 a1 ?_;simp[aa];refine Go.ah.c1 k2 ?_;cases l with
 |nil=>
  simp[aa];refine cp q (by simp;first|exact⟨rfl,rfl⟩|rfl) ?_;simp[aa];refine Go.ah.c1 k1 ?_;rcases C with⟨a,rfl,rfl,rfl⟩|⟨a,n,L,o,h⟩
  ·simp[a,aa];refine c0 c ?_;simp
  simp[a,aa];refine Go.ah.c2 n ?_;simp[aa];refine Go.ah.c1 o ?_;rcases h with⟨g,rfl,rfl⟩|⟨g,rfl,a5,y⟩
  ·simp[g,aa];refine c0 c ?_;simp
  ·simp[g,aa];refine Go.ah.c1 a5 ?_;simp[aa];refine Go.ah.c2 y ?_;simp[aa];refine c0 c ?_;simp
 |cons x r=>
  simp[aa];have G:r.length+1<=1000000:=by simpa using w
  refine⟨⟨wL (f:=PV.str) (fun r=>⟨by simp[aa],by simp[aa]⟩) r,by omega⟩,?_⟩;refine cp q (by simp;first|exact⟨rfl,rfl⟩|rfl) ?_;simp[aa];refine Go.ah.c1 k1 ?_;rcases C with⟨a,rfl,rfl,rfl⟩|⟨a,n,L,o,h⟩
  ·simp[a,aa];refine c0 c ?_;simp
  simp[a,aa];refine Go.ah.c2 n ?_;simp[aa];refine Go.ah.c1 o ?_;rcases h with⟨g,rfl,rfl⟩|⟨g,rfl,a5,y⟩
  ·simp[g,aa];refine c0 c ?_;simp
  ·simp[g,aa];refine Go.ah.c1 a5 ?_;simp[aa];refine Go.ah.c2 y ?_;simp[aa];refine c0 c ?_;simp
def aA.j0(t:aA)(e:Nat)(s:Rat):V2:=(iK (t.at e)).add ((t.lZ e).mul s)
theorem ZZ(t:aA)(e:Nat)(s:Rat)(i:t.cs.length<=1000000)(b:∀p∈t.cs,dU p)(a:e<t.cs.length)(hs:bE 200 s):ar prog 169 [cM t,.int .i64 e,.str (bg s)] (eV (t.j0 e s)):=by
 have h:=aA.get a;have d:=jn (aA.eP b a);have g:=jn (aA.eP b (t.ku (by omega) e));have k1:=xR (t.at e) (aA.eP b a);have k2:=Bv t e a i;have k3:=xR (t.at (t.nx e)) (aA.eP b (t.ku (by omega) e));have k4:=oU (iK (t.at (t.nx e))) (iK (t.at e)) (g.mono (by decide)) (d.mono (by decide));have f:(iK (t.at (t.nx e))).sub (iK (t.at e))=t.lZ e:=rfl;rw[f]at k4;have c:=aA.okW b a;have k5:=FT (t.lZ e) s (c.mono (by decide)) (hs.mono (by decide));have k6:=FU (iK (t.at e)) ((t.lZ e).mul s) (d.mono (by decide)) ((u3 c hs).mono (by decide));refine aI nf Qs mix (by simp[f169]) ?_;rw[aA.j0];clear f c d g;generalize (iK (t.at e)).add ((t.lZ e).mul s)=R at*;generalize (t.lZ e).mul s=v1 at*;generalize t.lZ e=v2 at*;generalize iK (t.at e)=v3 at*;generalize iK (t.at (t.nx e))=v4 at*;simp[f169,h,a,aa];refine Go.ah.e1 k1 ?_;simp[aa];refine Go.ah.e2 k2 ?_;simp[aa];refine Go.ah.e1 k3 ?_;simp[aa];refine⟨by repeat' first|rfl|apply ab,?_⟩;refine Go.ah.e2 k4 ?_;simp[aa];refine Go.ah.e2 k5 ?_;simp[aa];refine Go.ah.e2 k6 ?_;simp[aa]
def iY(p:cX)(k:Nat):Rat:=aR p.a+fW k 64*(aR p.b-aR p.a)
structure o8(t:aA)(p:cX)(e:Nat):Prop where
 dP:p.dP=e
 lt:e<t.cs.length
 a0:b7 p.a=0
 b0:b7 p.b=0
 a1:bE 30 (aR p.a)
 b1:bE 30 (aR p.b)
 ok:qx p
theorem BL{k:Nat}(h:k<=64):bE 8 (fW k 64):=D1 (by decide) (by omega) (by decide)
theorem BH{t:aA}{p:cX}{e k:Nat}(h:o8 t p e)(hk:k<=64):bE 200 (iY p k):=by
 exact(xb h.a1 (fC (BL hk) (pI h.b1 h.a1))).mono (by decide)
theorem acH(t:aA)(i e k:Nat)(f:t.cs.length<=1000000)(g:∀p∈t.cs,dU p)(hi:i<t.aV.length)(h:o8 t (t.pk i) e)(hk:k<=64):
 ar prog 82 [cM t,.int .i64 i,.int .i64 k] (eV (t.j0 e (iY (t.pk i) k))):=by
 have c:=aA.jd hi;have d:=h.dP;have k1:=xk k 64 (by decide) (by omega) (by decide);have k2:=wO (aR (t.pk i).b) (aR (t.pk i).a) (h.b1.mono (by decide)) (h.a1.mono (by decide));have k3:=oP (fW k 64) (aR (t.pk i).b-aR (t.pk i).a) ((BL hk).mono (by decide)) ((pI h.b1 h.a1).mono (by decide));have k4:=xl (aR (t.pk i).a) (fW k 64*(aR (t.pk i).b-aR (t.pk i).a)) (h.a1.mono (by decide)) ((fC (BL hk) (pI h.b1 h.a1)).mono (by decide));have k5:=ZZ t e (iY (t.pk i) k) f g h.lt (BH h hk);rw[(ji h.a0).1,(ji h.b0).1]at k2;rw[(ji h.a0).1]at k4;have hs:aR (t.pk i).a+fW k 64*(aR (t.pk i).b-aR (t.pk i).a)=iY (t.pk i) k:=rfl;rw[hs]at k4;refine aI nf RQ mix (by simp[f82]) ?_;generalize t.j0 e (iY (t.pk i) k)=R at*;generalize iY (t.pk i) k=q1 at*;generalize fW k 64*(aR (t.pk i).b-aR (t.pk i).a)=j at*;generalize aR (t.pk i).b-aR (t.pk i).a=l at*;generalize fW k 64=q4 at*;simp[f82,c,hi,aa];refine Go.ah.e2 k1 ?_;simp[aa];refine Go.ah.e2 k2 ?_;simp[aa];refine Go.ah.e2 k3 ?_;simp[aa];refine Go.ah.e2 k4 ?_;simp[d,aa];refine Go.ah.e3 k5 ?_;simp[aa]
def kl(t:aA)(name:List Nat):Int:=idxFrom (fun o=>decide (o.name=name)) t.aV 0
theorem HN{α:Type}(f:α->Bool):∀(l:List α)(n:Nat),idxFrom f l n= -1\/∃i,idxFrom f l n=((n+i:Nat):Int)/\i<l.length
 |[],n=>.inl rfl
 |a::l,n=>by
  rw[idxFrom];cases f a
  ·rcases HN f l (n+1)with h|⟨i,b,c⟩
   ·exact .inl (by simpa using h)
   ·exact .inr ⟨i+1,by simp[b];omega,by simp;omega⟩
  ·exact .inr ⟨0,by simp,by simp⟩
theorem Ul(t:aA)(name:List Nat):kl t name= -1\/∃i:Nat,kl t name=i/\i<t.aV.length:=by
 rcases HN (fun o:cX=>decide (o.name=name)) t.aV 0 with h|⟨i,a,b⟩
 ·exact .inl h
 ·exact .inr ⟨i,by rw[kl,a];simp,b⟩
theorem Uk(t:aA)(name:List Nat)(h:t.aV.length<=1000000):ar prog 25 [cM t,.str name] (.int .i64 (kl t name)):=by
 refine aI nf Rs mix (by simp[f25]) ?_;rw[kl];simp[f25,aa];refine lp (α:=Nat) (fun i=>⟨[(5,.p (.int .i64 i)),(2,.ptr 0 []),(1,.p (.str name))],[.box false (.p (cM t))]⟩) (fun i=>i<=t.aV.length/\idxFrom (fun o=>decide (o.name=name)) t.aV 0=idxFrom (fun o=>decide (o.name=name)) (t.aV.drop i) i) (fun i=>t.aV.length-i) 0 (by simp) ?_;rintro i ⟨k1,k2⟩;have b:=bR (i:=i) (by omega)
 by_cases hi:i<t.aV.length
 ·have a:=aA.jd hi;rw[a6 hi,idxFrom,aA.Fq hi]at k2
  by_cases hk:(t.pk i).name=name
  ·simp[hk]at k2;simp[hi,a,hk,k2,aa]
  ·simp[hk]at k2;simp[hi,a,hk,b,aa];exact rd (i+1) ⟨hi,k2⟩
 ·have:i=t.aV.length:=by omega
  subst this;simp[idxFrom]at k2;simp[k2,aa]
theorem Us(name:List Nat)(o:cX):cA prog 165 [.box false (.p (.str name))] [.p (dQ o),.ptr 0 []] [.box false (.p (.str name))] (.p (.bool (decide (o.name=name)))):=by
 refine fh nf Qw mix (by simp[f165]) ?_
 by_cases h:o.name=name
 ·simp[f165,aa,h];exact cV.og (by simp) (by simp) (by simp) (by simp) (by simp)
 ·simp[f165,aa,h];exact cV.og (by simp) (by simp) (by simp) (by simp) (by simp)
theorem HP(name:List Nat)(l:List cX)(h:l.length<=1000000):
 cA prog 164 [.box false (.p (.str name))] [.p (.seq (l.map dQ)),.func 165 [] [.ptr 0 []]] [.box false (.p (.str name))] (.p (.int .i64 (idxFrom (fun o=>decide (o.name=name)) l 0))):=by
 refine fh nf AB mix (by simp[f164]) ?_;simp[f164];refine lp (α:=Nat) (fun i=>⟨[(8,.p (.int .i64 i)),(7,.p (.int .i64 l.length)),(1,.func 165 [] [.ptr 0 []]),(0,.p (.seq (l.map dQ)))],[.box false (.p (.str name))]⟩) (fun i=>i<=l.length/\idxFrom (fun o=>decide (o.name=name)) l 0=idxFrom (fun o=>decide (o.name=name)) (l.drop i) i) (fun i=>l.length-i) 0 (by simp) ?_;rintro i ⟨k1,k2⟩;have a:=bR (i:=i) (by omega)
 by_cases hi:i<l.length
 ·rw[a6 hi,idxFrom]at k2;simp[hi];refine cf (Us name l[i]) [0] ?_
  by_cases hk:l[i].name=name
  ·simp[hk]at k2;simp[hk,k2,bf]
  ·simp[hk]at k2;simp[hk,a,bf];exact rd (i+1) ⟨hi,k2⟩
 ·have:i=l.length:=by omega
  subst this;simp[idxFrom]at k2;simp[k2]
theorem aja(t:aA)(name:List Nat)(i:Nat)(c:t.aV.length<=1000000)(h:kl t name=i)(hi:i<t.aV.length):ar prog 78 [cg t,.str name] (.aE [dQ (t.pk i),.bool true]):=by
 have k:=HP name t.aV c;rw[kl]at h;rw[h]at k;have b:=aA.jd hi;have a:¬(i:Int)<0:=by omega
 refine aI nf EN mix (by simp[f78]) ?_;simp[f78,aa];refine cf k [1] ?_;simp[bf,sig,a,hi,b,aa]
theorem ajN(t:aA)(name:List Nat)(a:t.aV.length<=1000000)(h:kl t name= -1):ar prog 78 [cg t,.str name] (.aE [dQ ⟨[],0,[],[]⟩,.bool false]):=by
 have k:=HP name t.aV a;rw[kl]at h;rw[h]at k;refine aI nf EN mix (by simp[f78]) ?_;rw[dQ];simp[f78,aa];refine cf k [1] ?_;simp[bf,sig,aa]
def qE(t b:aA)(ak al:List Nat)(j e:Nat)(p:cX)(k:Nat):Bool:=(fu t.aN (vP (b.sp j).pt) (t.j0 e (iY p k)) [ak,al] b.aw).isEmpty
def fG(t b:aA)(ak al:List Nat)(j e:Nat)(p:cX)(m:Nat):List Nat:=(ax m).filter (qE t b ak al j e p)
theorem HL(t b:aA)(ak al:List Nat)(j e:Nat)(p:cX)(m:Nat):fG t b ak al j e p (m+1)=fG t b ak al j e p m++(if qE t b ak al j e p m then[m]else[]):=by
 rw[fG,a3,a9,<-fG]
 by_cases h:qE t b ak al j e p m=true
 ·simp[h]
 ·simp[h]
theorem BF(t b:aA)(ak al:List Nat)(j e:Nat)(p:cX)(m:Nat):(fG t b ak al j e p m).length<=m:=by
 have:=a8 (qE t b ak al j e p) (ax m);rw[bb]at this;exact this
theorem IX{t:aA}{p:cX}{e k:Nat}(a:∀p∈t.cs,dU p)(h:o8 t p e)(hk:k<=64):bB 300 (t.j0 e (iY p k)):=
 (FR (jn (aA.eP a h.lt)) (u3 (aA.okW a h.lt) (BH h hk))).mono (by decide)
theorem HA(t b:aA)(ak al:List Nat)(i j w e:Nat)(h:gC t b ak al i j)(y:t.aV.length<=1000000)(r:w<t.aV.length)(hk:o8 t (t.pk w) e):
 ar prog 27 [fp t b ak al,.int .i64 w] (.seq ((fG t b ak al j e (t.pk w) 65).map iv)):=by
 obtain⟨A,B⟩:=ky h.iB;obtain⟨_,_,l,_⟩:=qG h.iB;have z:=h.L.sl;have u:=(h.at h.bj.2.1).2;have kB:=BB t b ak al i j h;have o:=BO t b ak al;have kS:=fun k(d:k<=64)=>acH t w e k h.tl l r hk d;have a:=fun k(d:k<=64)=>Ho t b (vP (b.sp j).pt) (t.j0 e (iY (t.pk w) k)) [ak,al] (by omega) (by omega) (by omega) (fun s hs=>(h.L.sp s hs).2) (fun s hs=>(h.ux s hs).mono (by decide)) (by simp) (u.mono (by decide)) (IX l hk d);have x:(1000:Nat)<cN:=by decide
 refine aI nf Ru mix (by simp[f27]) ?_;simp[f27,aa];refine lp (α:=Nat) (fun m=>⟨[(6,.p (.int .i64 m)),(5,.sl 1 (fG t b ak al j e (t.pk w) m).length 1 0 (fG t b ak al j e (t.pk w) m).length),(2,.ptr 0 []),(1,.p (.int .i64 w))],[.box false (.p (fp t b ak al)),.arr .grow (fG t b ak al j e (t.pk w) m).length 1 ((fG t b ak al j e (t.pk w) m).map (AV.p∘iv))]⟩) (fun m=>m<=65) (fun m=>65-m) 0 (by simp) ?_ (he:=by simp[fG]) (hh:=by simp[fG]);rintro m m1
 by_cases hm:m<65
 ·have n:=bR (i:=m) (by omega);have hs:=HL t b ak al j e (t.pk w) m;have v:=BF t b ak al j e (t.pk w) m;have kS:=kS m (by omega);have a:=a m (by omega);have f:qE t b ak al j e (t.pk w) m=(fu t.aN (vP (b.sp j).pt) (t.j0 e (iY (t.pk w) m)) [ak,al] b.aw).isEmpty:=rfl;have a:ar prog 80 [cM t,.seq (b.aw.map bK),.st 121 [eV (vP (b.sp j).pt),eV (t.j0 e (iY (t.pk w) m))],.seq [.str ak,.str al]] (.str (fu t.aN (vP (b.sp j).pt) (t.j0 e (iY (t.pk w) m)) [ak,al] b.aw)):=a;have g:(m:Int)<=64:=by omega
  generalize fu t.aN (vP (b.sp j).pt) (t.j0 e (iY (t.pk w) m)) [ak,al] b.aw=R at*
  by_cases c:R=[]
  ·rw[f,c]at hs;simp only[List.isEmpty_nil,if_true]at hs;simp[g,aa];refine Go.ah.e1 kB ?_;simp[aa];refine Go.ah.e3 kS ?_;simp[aa];refine Go.ah.e1 o ?_;simp[aa];refine Go.ah.e4 a ?_;simp[c,n,aa];exact⟨by omega,rd (m+1) (by omega) (he:=by simp[hs]) (hh:=by simp[hs,iv])⟩
  ·have q:R.isEmpty=false:=by simp[c]
   rw[f,q,if_neg (by decide),aT]at hs;simp[g,aa];refine Go.ah.e1 kB ?_;simp[aa];refine Go.ah.e3 kS ?_;simp[aa];refine Go.ah.e1 o ?_;simp[aa];refine Go.ah.e4 a ?_;simp[c,n,aa];exact rd (m+1) (by omega) (he:=by simp[hs]) (hh:=by simp[hs])
 ·have:m=65:=by omega
  subst this;simp[aa]
def lX(p:cX)(k:Nat):NF:=NF.add ⟨aR p.a,false⟩ (NF.mul (NF.sub ⟨aR p.b,false⟩ ⟨aR p.a,false⟩) (NF.div (.int k) (.int 64)))
theorem Sx(p:cX)(k:Nat):(lX p k).q=iY p k:=by
 show aR p.a+(NF.sub ⟨aR p.b,false⟩ ⟨aR p.a,false⟩).q*(((k:Int):Rat)/((64:Int):Rat))=_;rw[NF.fQ,iY,CP,Rat.div_def,Rat.mul_comm]
theorem aJF{t:aA}{p:cX}{e k:Nat}(h:o8 t p e)(hk:k<=64):bE 200 (lX p k).q:=by rw[Sx];exact BH h hk
theorem az6(t b:aA)(ak al:List Nat)(i j w e k:Nat)(h:gC t b ak al i j)(hk:o8 t (t.pk w) e)(o:k<=64):
 cA prog 167 [.box false (.p (eF ⟨aR (t.pk w).a,false⟩)),.box false (.p (eF ⟨aR (t.pk w).b,false⟩)),.box false (.p (bQ (cB (t.at e)))),.box false (.p (bQ (t.fe e)))]
  [.p (iR t b ak al),.p (.int .i64 k),.ptr 0 [],.ptr 1 [],.ptr 2 [],.ptr 3 []]
  [.box false (.p (eF ⟨aR (t.pk w).a,false⟩)),.box false (.p (eF ⟨aR (t.pk w).b,false⟩)),.box false (.p (bQ (cB (t.at e)))),.box false (.p (bQ (t.fe e)))] (.p (.bool (qE t b ak al j e (t.pk w) k))):=by
 obtain⟨H,I⟩:=ky h.iB;obtain⟨_,_,c,_⟩:=qG h.iB;have v:=(h.at h.bj.2.1).2;have x:=jn (aA.eP c hk.lt);have n:=aA.okW c hk.lt;have m:=aJF hk o;have d:bE 61 (NF.sub ⟨aR (t.pk w).b,false⟩ ⟨aR (t.pk w).a,false⟩).q:=by rw[NF.fQ];exact pI hk.b1 hk.a1
 have f:bE 20 (NF.int k).q:=mF (by omega) (by decide);have g:bE 20 (NF.int 64).q:=mF (by decide) (by decide);have l:bE 40 (NF.div (.int k) (.int 64)).q:=OH f g;have k1:=qg ⟨aR (t.pk w).b,false⟩ ⟨aR (t.pk w).a,false⟩ (hk.b1.mono (by decide)) (hk.a1.mono (by decide));have k2:=ke k (by omega) (by omega);have k3:=ke 64 (by omega) (by omega);have k4:=QA (.int k) (.int 64) (f.mono (by decide)) (g.mono (by decide)) (by decide);have k5:=jK (NF.sub ⟨aR (t.pk w).b,false⟩ ⟨aR (t.pk w).a,false⟩) (NF.div (.int k) (.int 64)) (d.mono (by decide)) (l.mono (by decide));have k6:=sx ⟨aR (t.pk w).a,false⟩ (NF.mul (NF.sub ⟨aR (t.pk w).b,false⟩ ⟨aR (t.pk w).a,false⟩) (NF.div (.int k) (.int 64))) (hk.a1.mono (by decide)) ((fC d l).mono (by decide));have r:NF.add ⟨aR (t.pk w).a,false⟩ (NF.mul (NF.sub ⟨aR (t.pk w).b,false⟩ ⟨aR (t.pk w).a,false⟩) (NF.div (.int k) (.int 64)))=lX (t.pk w) k:=rfl;rw[r]at k6;have k7:=Em (t.fe e) (lX (t.pk w) k) (by rw[aA.xX];exact n.mono (by decide)) (m.mono (by decide));have u:bB 300 ((t.fe e).times (lX (t.pk w) k)).q:=by rw[NV.u5,aA.xX];exact(u3 n m).mono (by decide)
 have k8:=HJ (cB (t.at e)) ((t.fe e).times (lX (t.pk w) k)) (x.mono (by decide)) (u.mono (by decide));have hq:((cB (t.at e)).add ((t.fe e).times (lX (t.pk w) k))).q=t.j0 e (iY (t.pk w) k):=by
  rw[NV.BW,NV.u5,aA.xX,Sx];rfl
 have k9:=Hh t b (.from (b.sp j).pt) ((cB (t.at e)).add ((t.fe e).times (lX (t.pk w) k))) [ak,al] (by omega) (by omega) h.L (fun s hs=>(h.ux s hs).mono (by decide)) (by simp) (by rw[iZ];exact v.mono (by decide)) (by rw[hq];exact IX c hk o);rw[hq,iZ]at k9;have k9:ar prog 142 [l9 t b,bQ (.from (b.sp j).pt),bQ ((cB (t.at e)).add ((t.fe e).times (lX (t.pk w) k))),.seq [.str ak,.str al]] (.str (fu t.aN (vP (b.sp j).pt) (t.j0 e (iY (t.pk w) k)) [ak,al] b.aw)):=k9;have y:=h.bj.2.2;rw[qE];clear r hq d f g l u m n x v;generalize fu t.aN (vP (b.sp j).pt) (t.j0 e (iY (t.pk w) k)) [ak,al] b.aw=R at*;generalize (cB (t.at e)).add ((t.fe e).times (lX (t.pk w) k))=v1 at*;generalize (t.fe e).times (lX (t.pk w) k)=v2 at*;generalize lX (t.pk w) k=z at*;generalize NF.mul (NF.sub ⟨aR (t.pk w).b,false⟩ ⟨aR (t.pk w).a,false⟩) (NF.div (.int k) (.int 64))=A at*;generalize NF.div (.int k) (.int 64)=B at*;generalize NF.sub ⟨aR (t.pk w).b,false⟩ ⟨aR (t.pk w).a,false⟩=C at*;generalize (⟨aR (t.pk w).b,false⟩:NF)=D at*;generalize (⟨aR (t.pk w).a,false⟩:NF)=E at*;generalize NF.int k=F at*;generalize NF.int 64=G at*;generalize t.fe e=v3 at*;generalize cB (t.at e)=v4 at*;refine fh nf Qu mix (by simp[f167]) ?_;simp[f167,aa];refine Go.ah.e2 k1 ?_;simp[aa];refine Go.ah.e1 k2 ?_;simp[aa];refine Go.ah.e1 k3 ?_;simp[aa];refine Go.ah.e2 k4 ?_;simp[aa];refine Go.ah.e2 k5 ?_;simp[aa];refine Go.ah.e2 k6 ?_;simp[y,aa];refine⟨by repeat' first|rfl|apply ab,?_⟩;refine Go.ah.e2 k7 ?_;simp[aa];refine Go.ah.e2 k8 ?_;simp[aa];refine ep k9 (by simp;first|exact⟨rfl,rfl⟩|rfl) (by simp;first|exact⟨rfl,rfl⟩|rfl) ?_;simp[aa];refine⟨by repeat' first|rfl|apply ab,?_⟩;exact cV.og (by simp) (by simp) (by simp) (by simp) (by simp)
theorem az0(t b:aA)(ak al:List Nat)(i j w e:Nat)(h:gC t b ak al i j)(hk:o8 t (t.pk w) e):
 cA prog 136 [.box false (.p (eF ⟨aR (t.pk w).a,false⟩)),.box false (.p (eF ⟨aR (t.pk w).b,false⟩)),.box false (.p (bQ (cB (t.at e)))),.box false (.p (bQ (t.fe e)))]
  [.p (iR t b ak al),.p (.int .i64 65),.func 167 [] [.ptr 0 [],.ptr 1 [],.ptr 2 [],.ptr 3 []]]
  [.box false (.p (eF ⟨aR (t.pk w).a,false⟩)),.box false (.p (eF ⟨aR (t.pk w).b,false⟩)),.box false (.p (bQ (cB (t.at e)))),.box false (.p (bQ (t.fe e))),.hole,.arr .grow (fG t b ak al j e (t.pk w) 65).length 1 ((fG t b ak al j e (t.pk w) 65).map (AV.p∘iv))]
  (.sl 5 (fG t b ak al j e (t.pk w) 65).length 1 0 (fG t b ak al j e (t.pk w) 65).length):=by
 have c:=fun k(l:k<=64)=>az6 t b ak al i j w e k h hk l;have o:(1000:Nat)<cN:=by decide
 refine fh nf H9 mix (by simp[f136]) ?_;simp[f136,aa];refine lp (α:=Nat) (fun m=>⟨[(10,.p (.int .i64 m)),(9,.p (.int .i64 65)),(7,.sl 5 (fG t b ak al j e (t.pk w) m).length 1 0 (fG t b ak al j e (t.pk w) m).length),(3,.ptr 4 []),(2,.func 167 [] [.ptr 0 [],.ptr 1 [],.ptr 2 [],.ptr 3 []])],
  [.box false (.p (eF ⟨aR (t.pk w).a,false⟩)),.box false (.p (eF ⟨aR (t.pk w).b,false⟩)),.box false (.p (bQ (cB (t.at e)))),.box false (.p (bQ (t.fe e))),.box false (.p (iR t b ak al)),.arr .grow (fG t b ak al j e (t.pk w) m).length 1 ((fG t b ak al j e (t.pk w) m).map (AV.p∘iv))]⟩) (fun m=>m<=65) (fun m=>65-m) 0 (by simp) ?_ (he:=by simp[fG]) (hh:=by simp[fG])
 rintro m m1
 by_cases hm:m<65
 ·have g:=bR (i:=m) (by omega);have hs:=HL t b ak al j e (t.pk w) m;have n:=BF t b ak al j e (t.pk w) m;have c:=c m (by omega);have f:(m:Int)<65:=by omega
  cases d:qE t b ak al j e (t.pk w) m
  ·rw[d,if_neg (by decide),aT]at hs;rw[d]at c;simp[f,aa];refine cf c [0,1,2,3] ?_;simp[bf,sig,g,aa];exact rd (m+1) (by omega) (he:=by simp[hs]) (hh:=by simp[hs])
  ·rw[d,if_pos rfl]at hs;rw[d]at c;simp[f,aa];refine cf c [0,1,2,3] ?_;simp[bf,sig,g,aa];exact⟨by omega,rd (m+1) (by omega) (he:=by simp[hs]) (hh:=by simp[hs,iv])⟩
 ·have:m=65:=by omega
  subst this;simp[aa];exact cV.og (by simp) (by simp) (by simp) (by simp) (by simp)
theorem HB(t b:aA)(ak al:List Nat)(i j w e:Nat)(h:gC t b ak al i j)(z:w<t.aV.length)(hk:o8 t (t.pk w) e):
 ar prog 79 [iR t b ak al,dQ (t.pk w)] (.seq ((fG t b ak al j e (t.pk w) 65).map iv)):=by
 obtain⟨_,_,d,_⟩:=qG h.iB;have x:=az0 t b ak al i j w e h hk;have l:=hk.dP;have c:=hk.lt;have y:=h.tl;have f:=t.ku (by omega) e;have r:=aA.get c;have s:=aA.get f;have w1:IntKind.i64.wrap ((e:Int)+1)=(e:Int)+1:=aQ _ (by omega) (by omega);have e1:((e:Int)+1).tmod (t.cs.length:Int)=((t.nx e:Nat):Int):=by
  rw[aA.nx,Int.natCast_emod,Int.tmod_eq_emod_of_nonneg (by omega)];rfl
 have v:¬t.cs.length=0:=by omega
 have u:¬t.cs=[]:=by intro e;rw[e]at c;simp at c
 have m:=jn (aA.eP d c);have n:=jn (aA.eP d f);have a1:=xW (t.at e) (aA.eP d c);have o:=xW (t.at (t.nx e)) (aA.eP d f);have g:=qm (cB (t.at (t.nx e))) (cB (t.at e)) (n.mono (by decide)) (m.mono (by decide));have k:(cB (t.at (t.nx e))).sub (cB (t.at e))=t.fe e:=rfl;rw[k]at g;have p:=ka (t.pk w).a hk.a0 hk.ok.2.1.1;have q:=ka (t.pk w).b hk.b0 hk.ok.2.2.1;clear k m n;generalize fG t b ak al j e (t.pk w) 65=L at*;generalize (⟨aR (t.pk w).a,false⟩:NF)=A at*;generalize (⟨aR (t.pk w).b,false⟩:NF)=B at*;generalize t.fe e=v1 at*;generalize cB (t.at e)=v2 at*;generalize cB (t.at (t.nx e))=v3 at*;refine aI nf RN mix (by simp[f79]) ?_;simp[f79,l,c,r,aa];refine Go.ah.c1 a1 ?_;simp[w1,e1,v,u,f,s,l,aa];refine Go.ah.e1 o ?_;simp[aa];refine Go.ah.e2 g ?_;simp[aa];refine⟨by repeat' first|rfl|apply ab,?_⟩;refine Go.ah.e1 p ?_;simp[aa];refine Go.ah.e1 q ?_;simp[aa];refine⟨by repeat' first|rfl|apply ab,?_⟩;refine cf x [4,5,2,3] ?_;simp[bf,sig,aa]
def lT(t:aA)(w:Nat):Nat:=(t.pk w).dP.toNat
structure AX(t:aA):Prop where
 pl:t.aV.length<=12
 wk:∀w,w<t.aV.length->o8 t (t.pk w) (lT t w)
def mO(t b:aA)(ak al:List Nat)(j w:Nat):List Nat:=fG t b ak al j (lT t w) (t.pk w) 65
def iy(t b:aA)(ak al:List Nat)(j m:Nat):List (List Nat):=((ax m).filter (fun w=>decide (0<(mO t b ak al j w).length))).map (fun w=>(t.pk w).name)
theorem HM(t b:aA)(ak al:List Nat)(j m:Nat):iy t b ak al j (m+1)=iy t b ak al j m++(if 0<(mO t b ak al j m).length then[(t.pk m).name]else[]):=by
 rw[iy,a3,a9,be,<-iy]
 by_cases h:0<(mO t b ak al j m).length
 ·simp[h]
 ·simp[h]
theorem BG(t b:aA)(ak al:List Nat)(j m:Nat):(iy t b ak al j m).length<=m:=by
 have:=a8 (fun w=>decide (0<(mO t b ak al j w).length)) (ax m);rw[bb]at this;rw[iy,List.length_map];exact this
theorem Uv(t b:aA)(ak al:List Nat)(i j:Nat)(h:gC t b ak al i j)(e:AX t):
 ar prog 24 [fp t b ak al] (.seq ((iy t b ak al j t.aV.length).map .str)):=by
 have r:=e.pl;have c:=fun w(f:w<t.aV.length)=>HA t b ak al i j w (lT t w) h (by omega) f (e.wk w f);have q:(1000:Nat)<cN:=by decide
 refine aI nf Rr mix (by simp[f24]) ?_;simp[f24,aa];refine lp (α:=Nat) (fun m=>⟨[(4,.p (.int .i64 m)),(3,.sl 1 (iy t b ak al j m).length 1 0 (iy t b ak al j m).length),(1,.ptr 0 [])],[.box false (.p (fp t b ak al)),.arr .grow (iy t b ak al j m).length 1 ((iy t b ak al j m).map (fun x=>.p (.str x)))]⟩) (fun m=>m<=t.aV.length) (fun m=>t.aV.length-m) 0 (by simp) ?_ (he:=by simp[iy]) (hh:=by simp[iy]);rintro m m1
 by_cases a:m<t.aV.length
 ·have g:=bR (i:=m) (by omega);have hs:=HM t b ak al j m;have o:=BG t b ak al j m;have k:=aA.jd a;have c:=c m a;have n:mO t b ak al j m=fG t b ak al j (lT t m) (t.pk m) 65:=rfl;rw[<-n]at c;generalize mO t b ak al j m=L at*
  by_cases d:0<L.length
  ·rw[if_pos d]at hs;simp[a,aa];refine Go.ah.c2 c ?_;simp[d,a,k,g,aa];exact⟨by omega,rd (m+1) (by omega) (he:=by simp[hs]) (hh:=by simp[hs])⟩
  ·rw[if_neg d,aT]at hs;have l:L=[]:=by
    cases L
    ·rfl
    ·simp at d
   simp[a,aa];refine Go.ah.c2 c ?_;simp[l,g,aa];exact rd (m+1) (by omega) (he:=by simp[hs]) (hh:=by simp[hs])
 ·have:m=t.aV.length:=by omega
  subst this;simp[aa]
theorem Uu(t b:aA)(ak al:List Nat)(i j:Nat)(q:fL t)(n:fM b)(a:dA t b ak al=0)(h:gC t b ak al i j)(f:AX t):
 ar prog 21 [fU t b ak al] (.aE [.seq ((iy t b ak al j t.aV.length).map .str),.int .i64 0]):=by
 have k1:=vc t b ak al q n a;have u:=f.pl;have d:=fun w(g:w<t.aV.length)=>HB t b ak al i j w (lT t w) h g (f.wk w g);have s:(1000:Nat)<cN:=by decide
 refine aI nf EJ mix (by simp[f21]) ?_;simp[f21,aa];refine Go.ah.c1 k1 ?_;simp[aa];refine lp (α:=Nat) (fun m=>⟨[(21,.p (.int .i64 m)),(20,.p (.int .i64 t.aV.length)),(19,.p (.seq (t.aV.map dQ))),(6,.sl 2 (iy t b ak al j m).length 1 0 (iy t b ak al j m).length),(4,.ptr 1 [])],[.box false (.p (fU t b ak al)),.box false (.p (iR t b ak al)),.arr .grow (iy t b ak al j m).length 1 ((iy t b ak al j m).map (fun x=>.p (.str x)))]⟩) (fun m=>m<=t.aV.length) (fun m=>t.aV.length-m) 0 (by simp) ?_ (he:=by simp[iy]) (hh:=by simp[iy]);rintro m m1
 by_cases c:m<t.aV.length
 ·have k:=bR (i:=m) (by omega);have hs:=HM t b ak al j m;have r:=BG t b ak al j m;have e:=aA.jd c;have d:=d m c;have o:mO t b ak al j m=fG t b ak al j (lT t m) (t.pk m) 65:=rfl;rw[<-o]at d;generalize mO t b ak al j m=L at*
  by_cases a:0<L.length
  ·rw[if_pos a]at hs;simp[c,e,aa];refine Go.ah.c2 d ?_;simp[a,c,e,k,aa];exact⟨by omega,rd (m+1) (by omega) (he:=by simp[hs]) (hh:=by simp[hs])⟩
  ·rw[if_neg a,aT]at hs;have l:L=[]:=by
    cases L
    ·rfl
    ·simp at a
   simp[c,e,aa];refine Go.ah.c2 d ?_;simp[l,k,aa];exact rd (m+1) (by omega) (he:=by simp[hs]) (hh:=by simp[hs])
 ·have:m=t.aV.length:=by omega
  subst this;simp[aa]
theorem Un(t b:aA)(ak al:List Nat)(c:fL t)(a:fM b)(h:¬dA t b ak al=0):
 ar prog 21 [fU t b ak al] (.aE [.seq [],.int .i64 (dA t b ak al)]):=by
 have k1:=ya t b ak al c a h;generalize dA t b ak al=e at*;refine aI nf EJ mix (by simp[f21]) ?_;simp[f21,aa];refine Go.ah.c1 k1 ?_;simp[h,aa]
theorem Um(t b:aA)(ak al name:List Nat)(i j w:Nat)(f:fL t)(e:fM b)(d:dA t b ak al=0)(h:gC t b ak al i j)(c:AX t)(g:kl t name=w)(a:w<t.aV.length):
 ar prog 19 [fU t b ak al,.str name] (.aE [.seq ((mO t b ak al j w).map iv),.int .i64 0]):=by
 have k:=c.pl;have k1:=vc t b ak al f e d;have k2:=aja t name w (by omega) g a;have k3:=HB t b ak al i j w (lT t w) h a (c.wk w a);rw[mO];generalize fG t b ak al j (lT t w) (t.pk w) 65=L at*;refine aI nf ye mix (by simp[f19]) ?_;simp[f19,aa];refine Go.ah.c1 k1 ?_;simp[aa];refine Go.ah.c2 k2 ?_;simp[aa];refine Go.ah.c2 k3 ?_;simp[aa]
theorem Ue(t b:aA)(ak al name:List Nat)(e:fL t)(c:fM b)(a:dA t b ak al=0)(d:t.aV.length<=1000000)(f:kl t name= -1):
 ar prog 19 [fU t b ak al,.str name] (.aE [.seq [],.int .i64 10]):=by
 have k1:=vc t b ak al e c a;have k2:=ajN t name d f;refine aI nf ye mix (by simp[f19]) ?_;simp[f19,aa];refine Go.ah.c1 k1 ?_;simp[aa];refine Go.ah.c2 k2 ?_;simp[aa]
theorem Uf(t b:aA)(ak al name:List Nat)(c:fL t)(a:fM b)(h:¬dA t b ak al=0):
 ar prog 19 [fU t b ak al,.str name] (.aE [.seq [],.int .i64 (dA t b ak al)]):=by
 have k1:=ya t b ak al c a h;generalize dA t b ak al=e at*;refine aI nf ye mix (by simp[f19]) ?_;simp[f19,aa];refine Go.ah.c1 k1 ?_;simp[h,aa]
theorem aJH{t b:aA}{ak al:List Nat}{n:Nat}(l:fL t)(j:fM b)(hs:po t b ak al n=true)(h:dA t b ak al=0):AX t:=by
 obtain⟨f,_,_,_⟩:=Hp h;obtain⟨a,_,_⟩:=yc j f;rw[po,f]at hs;simp only[ap,Bool.or_eq_true,decide_eq_true_eq]at hs;obtain⟨_,_,_,_,hs⟩:=hs;have hf:qt t b n 9=true:=by
  rcases hs with hs|hs
  ·exact absurd rfl hs
  ·exact hs
 rw[qt]at hf;simp only[ap,List.all_eq_true]at hf;obtain⟨_,_,_,_,_,k,_,_⟩:=hf;rw[gT]at a
 split at a
 ·omega
 split at a
 ·omega
 split at a
 ·omega
 split at a
 ·omega
 split at a
 ·omega
 split at a
 ·omega
 rename_i p
 split at a
 ·contradiction
 rename_i c;have c:=Decidable.not_not.1 c;have i:=pg.1 c;refine⟨by omega,fun w g=>?_⟩;have d:=aA.jd g;have m:=List.mem_of_getElem? d;have e:=i w g;rw[gI,d]at e;dsimp only at e;obtain⟨v1,v2⟩:=Bn e;obtain⟨f1,f2⟩:=k _ m;have o:0<=(t.pk w).dP/\(t.pk w).dP<t.cs.length:=by
  rw[iC]at e
  split at e
  ·omega
  split at e
  ·omega
  split at e
  ·omega
  omega
 exact⟨by rw[lT];omega,by rw[lT];omega,v1,v2,AA f1,AA f2,l.pk _ m⟩
theorem Ub(f:ar prog 9 [] (.bool true))(t b:aA)(ak al name:List Nat)(c:fL t)(a:fM b):
 ar prog 4 [fp t b ak al,.str name] (.bool true):=by
 have s0:=Hn t b ak al 6 c a (by decide);have k1:=Hq t b ak al c a;have k2:=Jb t b ak al c a;have F:=Uk t name c.pl;rcases r:po t b ak al 6 with _|_
 ·rw[r]at s0;refine aI nf uL mix (by simp[f4]) ?_;simp[f4,aa];refine Go.ah.c2 s0 ?_;simp[aa];refine c0 f ?_;simp
 rw[r]at s0
 by_cases I:40<name.length
 ·have v:(40:Int)<name.length:=by omega
  refine aI nf uL mix (by simp[f4]) ?_;simp[f4,aa];refine Go.ah.c2 s0 ?_;simp[v,aa];refine c0 f ?_;simp
 have v:¬(40:Int)<name.length:=by omega
 by_cases H:4<t.aV.length/\t.aV.length<=12
 ·have u:(4:Int)<t.aV.length:=by omega
  have s:(t.aV.length:Int)<=12:=by omega
  refine aI nf uL mix (by simp[f4]) ?_;simp[f4,aa];refine Go.ah.c2 s0 ?_;simp[v,u,s,aa];refine c0 f ?_;simp
 have G:∃(e:List Nat)(m:Int)(g:List (List Nat))(x:Int),ar prog 19 [fU t b ak al,.str name] (.aE [.seq (e.map iv),.int .i64 m])/\ar prog 21 [fU t b ak al] (.aE [.seq (g.map .str),.int .i64 x])/\
  ((¬dA t b ak al=0/\e=[]/\m=dA t b ak al/\g=[]/\x=dA t b ak al)\/
   (dA t b ak al=0/\x=0/\ar prog 24 [fp t b ak al] (.seq (g.map .str))/\ar prog 23 [.seq (g.map .str),.seq (g.map .str)] (.bool true)/\
    ((kl t name= -1/\e=[]/\m=10)\/(∃w:Nat,kl t name=w/\m=0/\ar prog 27 [fp t b ak al,.int .i64 w] (.seq (e.map iv))/\ar prog 26 [.seq (e.map iv),.seq (e.map iv)] (.bool true))))):=by
  by_cases d:dA t b ak al=0
  case neg=>exact⟨[],_,[],_,Uf t b ak al name c a d,Un t b ak al c a d,.inl ⟨d,rfl,rfl,rfl,rfl⟩⟩
  obtain⟨i,j,q⟩:=IY c a r d;have k:=aJH c a r d;have J:=k.pl;have n:=Uu t b ak al i j c a d q k;have o:=Uv t b ak al i j q k;have p:=HK (iy t b ak al j t.aV.length) (Nat.le_trans (BG _ _ _ _ _ _) (by omega));rcases Ul t name with l|⟨w,l,y⟩
  ·exact⟨[],_,_,_,Ue t b ak al name c a d c.pl l,n,.inr ⟨d,rfl,o,p,.inl ⟨l,rfl,rfl⟩⟩⟩
  ·exact⟨_,_,_,_,Um t b ak al name i j w c a d q k l y,n,.inr ⟨d,rfl,o,p,.inr ⟨w,l,rfl,HA t b ak al i j w (lT t w) q c.pl y (k.wk w y),T8 (mO t b ak al j w) (Nat.le_trans (BF t b ak al j (lT t w) (t.pk w) 65) (by decide))⟩⟩⟩
 obtain⟨e,m,g,x,a1,n,C⟩:=G;generalize dA t b ak al=bad at*;generalize kl t name=pi at*;have B:4<t.aV.length->¬(t.aV.length:Int)<=12:=fun h=>by omega
 by_cases u:4<t.aV.length
 case' pos=>have s:=B u
 case' neg=>have s:=True.intro
 all_goals
  have E:(4<(t.aV.length:Int))=(4<t.aV.length):=by rw[eq_iff_iff];omega
  refine aI nf uL mix (by simp[f4]) ?_;simp[f4,aa];refine Go.ah.c2 s0 ?_;simp[v,E,u,s,aa];refine Go.ah.c1 k2 ?_;simp[aa];refine Go.ah.c2 a1 ?_;simp[aa];refine Go.ah.c1 k2 ?_;simp[aa];refine Go.ah.c1 n ?_;simp[aa];refine Go.ah.c1 k1 ?_;rcases C with⟨a,rfl,rfl,rfl,rfl⟩|⟨a,rfl,o,p,D⟩
  ·simp[a,aa];refine c0 f ?_;simp
  simp[a,aa];refine Go.ah.c1 o ?_;simp[aa];refine Go.ah.c2 p ?_;simp[aa];refine Go.ah.c2 F ?_;rcases D with⟨rfl,rfl,rfl⟩|⟨w,rfl,rfl,a5,z⟩
  ·simp[aa];refine c0 f ?_;simp
  ·have A:¬(w:Int)<0:=by omega
   simp[A,aa];refine Go.ah.c2 a5 ?_;simp[aa];refine Go.ah.c2 z ?_;simp[aa];refine c0 f ?_;simp
end Go.ah
