import Derived.Test.YtgpphcmkjhklgaaGreatDoorThD
/- Parts of a proof. -/
set_option linter.unusedSimpArgs false
set_option linter.unusedVariables false
set_option linter.unusedSectionVars false
open Bool renaming cond_eq_ite->ab, and_eq_true->ac, false_eq_true->am
open Go renaming Operand->an, FuncId->ao, TypeId->ap, Program->av, ResultVar->ax, Value->ay, World->aT
open List renaming mem_map->a0, getElem?_eq_some_iff->a1, map_cons->a3, getElem?_eq_getElem->a4, getElem?_replicate->a5, replicate->a6, rec->a7
open Nat renaming ble->a8, le_refl->a9, pow_succ->bb, beq->be, mod_lt->bi
open Option renaming ite_none_right_eq_some->bk
open Option.some renaming injEq->bl
open Prod.mk renaming injEq->bo
namespace Go.ag
set_option linter.unusedSectionVars false
variable[Gl]
inductive RT where
 |lf
 |vl (v:AV)
 |nd (a b c d:RT)
inductive Q4 where|a|b|c|d
def q4(n:Nat):Q4:=match n with
 |0=>.a
 |1=>.b
 |2=>.c
 |_=>.d
def pathOf:Nat->Nat->List Q4
 |0,_=>[]
 |k+1,n=>q4 (n% 4)::pathOf k (n/4)
noncomputable def yc(p:List Q4):RT->AV:=
 a7 (motive:=fun _=>RT->AV) (fun R=>RT.rec (motive:=fun _=>AV) (.p .undef) (fun v=>v) (fun _ _ _ _ _ _ _ _=>.p .undef) R)
  (fun q _ e R=>RT.rec (motive:=fun _=>AV) (.p .undef) (fun _=>.p .undef) (fun a b c d _ _ _ _=>Q4.rec (motive:=fun _=>AV) (e a) (e b) (e c) (e d) q) R) p
noncomputable def FN(v:AV)(p:List Q4):RT->RT:=
 a7 (motive:=fun _=>RT->RT) (fun _=>.vl v)
  (fun q _ e R=>RT.rec (motive:=fun _=>RT)
   (Q4.rec (motive:=fun _=>RT) (.nd (e .lf) .lf .lf .lf) (.nd .lf (e .lf) .lf .lf) (.nd .lf .lf (e .lf) .lf) (.nd .lf .lf .lf (e .lf)) q)
   (fun _=>Q4.rec (motive:=fun _=>RT) (.nd (e .lf) .lf .lf .lf) (.nd .lf (e .lf) .lf .lf) (.nd .lf .lf (e .lf) .lf) (.nd .lf .lf .lf (e .lf)) q)
   (fun a b c d _ _ _ _=>Q4.rec (motive:=fun _=>RT) (.nd (e a) b c d) (.nd a (e b) c d) (.nd a b (e c) d) (.nd a b c (e d)) q) R) p
noncomputable def jW(k:Nat)(R:RT)(n:Nat):AV:=bif a8 (n+1) (4^k)then yc (pathOf k n) R else .p .undef
noncomputable def yE(k:Nat)(R:RT)(n:Nat)(v:AV):RT:=FN v (pathOf k n) R
theorem Lz:∀(p:List Q4),yc p .lf=.p .undef
 |[]=>rfl
 |_::_=>rfl
theorem JZ(v:AV):∀(p:List Q4)(R:RT),yc p (FN v p R)=v
 |[],_=>rfl
 |x::p,R=>by
  cases R<;>cases x<;>exact JZ v p _
theorem I9(v:AV):∀(p q:List Q4)(R:RT),p.length=q.length->p≠q->yc p (FN v q R)=yc p R
 |[],[],R,_,h=>(h rfl).elim
 |[],_::_,R,h,_=>by simp at h
 |_::_,[],R,h,_=>by simp at h
 |x::p,y::q,R,h,f=>by
  have g:=fun R(f:p≠q)=>I9 v p q R (by simpa using h) f;have i:=Lz p;cases R with
  |nd a b c d=>
   cases x<;>cases y<;>first
    |rfl
    |exact g _ (fun e=>f (by rw[e]))
  |_=>
   cases x<;>cases y<;>first
    |exact i
    |exact(g _ (fun e=>f (by rw[e]))).trans i
theorem Cl:∀k n,(pathOf k n).length=k
 |0,_=>rfl
 |k+1,n=>by simp[pathOf,Cl k]
theorem aFX{m n:Nat}(a:m<4)(b:n<4)(h:q4 m=q4 n):m=n:=by
 have hc:∀n,n<4->n=0\/n=1\/n=2\/n=3:=by omega
 rcases hc m a with rfl|rfl|rfl|rfl<;>rcases hc n b with rfl|rfl|rfl|rfl<;>simp[q4]at h<;>rfl
theorem J1:∀(k m n:Nat),m<4^k->n<4^k->pathOf k m=pathOf k n->m=n
 |0,m,n,a,b,_=>by simp at a b;omega
 |k+1,m,n,a,b,h=>by
  simp only[pathOf,List.cons.injEq]at h;have c:=aFX (bi _ (by omega)) (bi _ (by omega)) h.1;have d:=J1 k (m/4) (n/4) (by rw[bb]at a;omega) (by rw[bb]at b;omega) h.2;omega
theorem Na(k n:Nat):jW k .lf n=.p .undef:=by
 simp[jW,Lz]
theorem YW{a b:Nat}(h:a<=b):a8 a b=true:=Nat.ble_eq_true_of_le h
theorem NJ{a b:Nat}(h:¬a<=b):a8 a b=false:=by
 cases c:a8 a b
 ·rfl
 ·exact(h (cZ c)).elim
theorem CV(k:Nat)(R:RT)(d x:Nat)(v:AV)(h:d<4^k):jW k (yE k R d v) x=if x=d then v else jW k R x:=by
 unfold jW yE
 by_cases hx:x+1<=4^k
 ·simp only[YW hx,cond_true]
  by_cases a:x=d
  ·subst a;rw[JZ,if_pos rfl]
  ·rw[if_neg a,I9 _ _ _ _ (by rw[Cl,Cl]) (fun e=>a (J1 k x d (by omega) h e))]
 ·have:x≠d:=by omega
  simp only[NJ hx,cond_false,this,if_false]
def Rel(k:Nat)(e:Env)(R:RT):Prop:=∀x,aN e x=jW k R x
noncomputable def kX(k:Nat)(d:Option Nat)(v:AV)(R:RT):Option RT:=
 match d with
 |none=>some R
 |some d=>bif a8 (d+1) (4^k)then some (yE k R d v)else none
theorem xb{k:Nat}{d:Option Nat}{v:AV}{R a:RT}{e:Env}(h:kX k d v R=some a)(b:Rel k e R):Rel k (put d v e) a:=by
 unfold kX at h
 split at h
 ·simp only[bl]at h;subst h;exact b
 ·simp only[ab,bk,bl]at h;obtain⟨c,rfl⟩:=h;intro x;rw[CV _ _ _ _ _ (by have:=cZ c;omega)];simp only[put,aN]
  split
  ·rfl
  ·exact b x
noncomputable def jQ(k:Nat)(R:RT):an->AV
 | .tmp t=>jW k R t
 | .const v=>.p (ofConst v)
 | .global g=>.p (Gl.g g)
 | .func f=>.p (.func f [] [])
theorem AM{k:Nat}{R:RT}{e:Env}(a:Rel k e R):jQ k R=ev e:=by
 funext o;cases o<;>simp[jQ,ev,a _]
def qK(H:Heap)(e:aY):Heap:=
 match e.aJ,e.aU with
 |[],[]=>H
 |_,_=>bf H e.aJ++e.aU
theorem LO(H:Heap)(e:aY):qK H e=bf H e.aJ++e.aU:=by
 unfold qK;split
 ·rename_i a b;simp[a,b,bf]
 ·rfl
structure jI where
 cP:ao->List AV->Heap->Option (AV×Heap)
 cD:ao->List AV->Heap->Option aY
 cY:Nat->Heap->List AV->Option (Heap×AV)
 cI:AV->Nat->Heap->Option Heap
 Bl:Nat->List AV->Heap->Option aY
structure jX(P:av)(B:jI):Prop where
 cP:∀f args H v H',B.cP f args H=some (v,H')->∀K:AV->Heap->Prop,K v H'->gO P false f args H K
 cD:∀f args H e,B.cD f args H=some e->∀K:aY->Prop,K e->gU P f args H K
 cY:∀b H args H' v,B.cY b H args=some (H',v)->iq P b H args H' v
 cI:∀it b H H',B.cI it b H=some H'->∀K:Heap->Prop,K H'->jJ P it b H K
 Bl:∀b args H e,B.Bl b args H=some e->uL P b args H.length e/\qJ H e
section
variable(P:av)(ah:ao->Bool)(B:jI)(k:Nat)
noncomputable def yC(o:Oper)(R:RT)(H:Heap):Option (RT×Heap):=
 match o.op with
 | .call {callee:=.value f,args,.. }=>match(match jQ k R f with
  | .p (.func g fi ca)=>B.cP g (fi.map .p++args.toList.map (jQ k R)++ca.map .p) H
  | .func g fi ca=>B.cP g (fi++args.toList.map (jQ k R)++ca) H
  | .map b=>match B.cY b H (args.toList.map (jQ k R))with
   |some (H',v)=>some (v,H')
   |none=>none
  |_=>none)with
  |some (v,H')=>match kX k o.dst v R with
   |some a=>some (a,H')
   |none=>none
  |none=>none
 |_=>match Bx P ah o (jQ k R) H with
  |some e=>match kX k o.dst e.v R with
   |some a=>some (a,qK H e)
   |none=>none
  |none=>none
noncomputable def AJ(a:Array Oper)(j:Nat)(R:RT):AV:=
 match(a[j]?).bind (·.dst)with
 |some d=>jW k R d
 |none=>.p (.aE [])
noncomputable def nD(b:Array Oper):List Oper->RT->Heap->Option (RT×Heap)
 |[],R,H=>some (R,H)
 |o::r,R,H=>match o.guard with
  |none=>match yC P ah B k o R H with
   |some (a,H')=>nD b r a H'
   |none=>none
  |some (j,want)=>match AJ k b j R with
   | .p (.bool t)=>match t,want with
    |true,true|false,false=>match yC P ah B k o R H with
     |some (a,H')=>nD b r a H'
     |none=>none
    |_,_=>match kX k o.dst (.p (.aE [])) R with
     |some a=>nD b r a H
     |none=>none
   | .p (.aE [])=>match kX k o.dst (.p (.aE [])) R with
    |some a=>nD b r a H
    |none=>none
   |_=>none
noncomputable def yp(o:Oper)(R:RT)(H:Heap):Option aY:=
 match o.op with
 | .call {callee:=.value f,args,.. }=>match jQ k R f with
  | .p (.func g fi ca)=>B.cD g (fi.map .p++args.toList.map (jQ k R)++ca.map .p) H
  | .func g fi ca=>B.cD g (fi++args.toList.map (jQ k R)++ca) H
  | .map b=>B.Bl b (args.toList.map (jQ k R)) H
  |_=>none
 |_=>Bx P ah o (jQ k R) H
noncomputable def nq(b:Array Oper):List Oper->Nat->List Touch->RT->Heap->Option (RT×Heap)
 |[],_,acc,R,H=>bif kj b acc then some (R,H)else none
 |o::r,i,acc,R,H=>match o.guard with
  |none=>match yp P ah B k o R H with
   |some e=>match kX k o.dst e.v R with
    |some a=>nq b r (i+1) (gP i H.length e acc) a (qK H e)
    |none=>none
   |none=>none
  |some (j,want)=>match AJ k b j R with
   | .p (.bool t)=>match t,want with
    |true,true|false,false=>match yp P ah B k o R H with
     |some e=>match kX k o.dst e.v R with
      |some a=>nq b r (i+1) (gP i H.length e acc) a (qK H e)
      |none=>none
     |none=>none
    |_,_=>match kX k o.dst (.p (.aE [])) R with
     |some a=>nq b r (i+1) acc a H
     |none=>none
   | .p (.aE [])=>match kX k o.dst (.p (.aE [])) R with
    |some a=>nq b r (i+1) acc a H
    |none=>none
   |_=>none
abbrev Out:=Option (bA×RT×Heap)
def ya(f:RT->Heap->Out):Nat->RT->Heap->Out
 |0,_,_=>none
 |n+1,R,H=>match f R H with
  |some (.normal,a,H')=>ya f n a H'
  |r=>r
noncomputable def vf(k:Nat)(R:RT):Nat->Env
 |0=>[]
 |n+1=>(n,jW k R n)::vf k R n
def XV:Nat:=100000
def A3(j:Option Code):Option bA:=
 match j with
 |none=>some .normal
 |some (.exit id)=>some (.exit id)
 |some .ret=>some .ret
 |_=>none
def FI(b:Nat)(R:RT)(H:Heap):Out:=
 match H[b]? with
 |some (.loop L)=>match L.st with
  | .busy=>none
  |_=>match A3 L.pending with
   |some e=>some (e,R,H.set b (.loop {L with st:=.exhausted}))
   |none=>none
 |_=>none
noncomputable def gT(q:Cx):Code->RT->Heap->Out
 | .skip,R,H| .label _,R,H=>some (.normal,R,H)
 | .region _ ops draw,R,H=>bif draw then match nq P ah B k ops ops.toList 0 [] R H with
   |some (d,H')=>some (.normal,d,H')
   |none=>none
  else match nD P ah B k ops ops.toList R H with
   |some (d,H')=>some (.normal,d,H')
   |none=>none
 | .seq a b,R,H=>match gT q a R H with
  |some (.normal,d,H')=>gT q b d H'
  |r=>r
 | .cond c a b,R,H=>match jQ k R c with
  | .p (.bool t)=>match t with
   |true=>gT q a R H
   |false=>gT q b R H
  |_=>none
 | .block id b,R,H=>match gT q b R H with
  |some (.exit i,d,H')=>bif be i id then some (.normal,d,H')else some (.exit i,d,H')
  |r=>r
 | .scope b,R,H=>gT q b R H
 | .loop b,R,H=>ya (fun R H=>gT q b R H) XV R H
 | .rangeFunc f e a b,R,H=>bif a8 q.2 H.length&&a8 q.1 (4^k)then match B.cI (jQ k R f) H.length (H++[.loop ⟨.ready,none,q.1,e.toList,a,b,vf k R (4^k)⟩])with
   |some H'=>FI H.length R H'
   |none=>none
  else none
 | .exit id,R,H=>some (.exit id,R,H)
 | .ret,R,H=>some (.ret,R,H)
 |_,_,_=>none
end
section
variable{P:av}{ah:ao->Bool}{B:jI}{k:Nat}
theorem K1(e:aY)(dst:Option Tmp)(env:Env)(H:Heap):e.app dst ⟨env,H⟩=⟨put dst e.v env,qK H e⟩:=by
 simp[aY.app,LO]
theorem aE1(b:jX P B){o:Oper}{R i:RT}{H H':Heap}{env:Env}(h:yC P ah B k o R H=some (i,H'))(g:Rel k env R):
 ∃j,Rel k j i/\∀K:St->Prop,K ⟨j,H'⟩->jA P ah false o K ⟨env,H⟩:=by
 unfold yC at h;unfold jA;rw[AM g]at h
 split at h
 ·rename_i f args n c
  split at h
  case h_2=>simp at h
  rename_i v l hc
  split at h
  case h_2=>simp at h
  rename_i m d;simp only[bl,bo]at h;obtain⟨rfl,rfl⟩:=h;refine⟨_,xb d g,fun K a=>?_⟩;simp only[c]
  split at hc
  ·rename_i hf;simp only[hf];exact b.cP _ _ _ _ _ hc _ a
  ·rename_i hf;simp only[hf];exact b.cP _ _ _ _ _ hc _ a
  ·rename_i hf
   split at hc
   ·rename_i l s r;simp only[bl,bo]at hc;obtain⟨rfl,rfl⟩:=hc;simp only[hf];exact⟨_,_,b.cY _ _ _ _ _ r,a⟩
   ·simp at hc
  ·simp at hc
 ·rename_i q
  split at h
  case h_2=>simp at h
  rename_i e p
  split at h
  case h_2=>simp at h
  rename_i m d;simp only[bl,bo]at h;obtain⟨rfl,rfl⟩:=h;refine⟨_,xb d g,fun K a=>?_⟩
  split
  ·rename_i f args n c;exact(q _ _ _ c).elim
  ·exact OG p (by rw[K1];exact a)
theorem K2{a:Array Oper}{j:Nat}{R:RT}{env:Env}(b:Rel k env R):AJ k a j R=guardOf a j env:=by
 unfold AJ guardOf;split
 ·rename_i h;simp only[h];exact(b _).symm
 ·rename_i h;simp only[h]
theorem D3(f:jX P B){c:Array Oper}:∀{l:List Oper}{R a:RT}{H H':Heap}{env:Env},nD P ah B k c l R H=some (a,H')->Rel k env R->
 ∃b,Rel k b a/\∀K:St->Prop,K ⟨b,H'⟩->gQ P ah false c l K ⟨env,H⟩
 |[],R,a,H,H',env,h,d=>by
  simp only[nD,bl,bo]at h;obtain⟨rfl,rfl⟩:=h;exact⟨env,d,fun K g=>g⟩
 |o::l,R,a,H,H',env,h,d=>by
  have run:(match yC P ah B k o R H with
    |some (a,H')=>nD P ah B k c l a H'
    |none=>none)=some (a,H')->∃b,Rel k b a/\∀K:St->Prop,K ⟨b,H'⟩->jA P ah false o (gQ P ah false c l K) ⟨env,H⟩:=by
   intro h
   split at h
   case h_2=>simp at h
   rename_i n H1 e;obtain⟨w,q,a2⟩:=aE1 f e d;obtain⟨u,r,s⟩:=D3 f h q;exact⟨u,r,fun K g=>a2 _ (s K g)⟩
  have skip:(match kX k o.dst (.p (.aE [])) R with
    |some a=>nD P ah B k c l a H
    |none=>none)=some (a,H')->∃b,Rel k b a/\∀K:St->Prop,K ⟨b,H'⟩->gQ P ah false c l K ⟨put o.dst (.p (.aE [])) env,H⟩:=by
   intro h
   split at h
   case h_2=>simp at h
   rename_i n e;exact D3 f h (xb e d)
  simp only[nD]at h;simp only[gQ]
  split at h
  ·rename_i i;simp only[i];exact run h
  ·rename_i j v i;simp only[i];rw[K2 d]at h
   split at h
   ·rename_i t m;simp only[m];cases t<;>cases v
    ·simpa using run h
    ·simpa using skip h
    ·simpa using skip h
    ·simpa using run h
   ·rename_i m;simp only[m];exact skip h
   ·simp at h
theorem aiE(b:jX P B){o:Oper}{R:RT}{H:Heap}{e:aY}{env:Env}(h:yp P ah B k o R H=some e)(l:Rel k env R)(K:aY->Prop)(a:K e):jj P ah o ⟨env,H⟩ K:=by
 unfold yp at h;unfold jj;rw[AM l]at h
 split at h
 ·rename_i f args d c;simp only[c]
  split at h
  ·rename_i hf;simp only[hf];exact b.cD _ _ _ _ h _ a
  ·rename_i hf;simp only[hf];exact b.cD _ _ _ _ h _ a
  ·rename_i hf;simp only[hf];obtain⟨g,i⟩:=b.Bl _ _ _ _ h;exact⟨e,g,i,a⟩
  ·simp at h
 ·rename_i j
  split
  ·rename_i f args d c;exact(j _ _ _ c).elim
  ·exact OG h a
theorem Dv(m:jX P B){f:Array Oper}:∀{l:List Oper}{i:Nat}{b:List Touch}{R a:RT}{H H':Heap}{env:Env},nq P ah B k f l i b R H=some (a,H')->Rel k env R->
 ∃c,Rel k c a/\∀K:St->Prop,K ⟨c,H'⟩->gh P ah f l i b K ⟨env,H⟩
 |[],i,b,R,a,H,H',env,h,d=>by
  simp only[nq,ab,bk,bl,bo]at h;obtain⟨g,rfl,rfl⟩:=h;exact⟨env,d,fun K n=>⟨g,n⟩⟩
 |o::l,i,b,R,a,H,H',env,h,d=>by
  have run:(match yp P ah B k o R H with
    |some e=>match kX k o.dst e.v R with
     |some a=>nq P ah B k f l (i+1) (gP i H.length e b) a (qK H e)
     |none=>none
    |none=>none)=some (a,H')->∃c,Rel k c a/\∀K:St->Prop,K ⟨c,H'⟩->jj P ah o ⟨env,H⟩ (fun e=>gh P ah f l (i+1) (gP i H.length e b) K (e.app o.dst ⟨env,H⟩)):=by
   intro h
   split at h
   case h_2=>simp at h
   rename_i e y
   split at h
   case h_2=>simp at h
   rename_i s g;obtain⟨x,u,w⟩:=Dv m h (xb g d);exact⟨x,u,fun K n=>aiE m y d _ (by rw[K1];exact w K n)⟩
  have skip:(match kX k o.dst (.p (.aE [])) R with
    |some a=>nq P ah B k f l (i+1) b a H
    |none=>none)=some (a,H')->∃c,Rel k c a/\∀K:St->Prop,K ⟨c,H'⟩->gh P ah f l (i+1) b K ⟨put o.dst (.p (.aE [])) env,H⟩:=by
   intro h
   split at h
   case h_2=>simp at h
   rename_i s g;exact Dv m h (xb g d)
  simp only[nq]at h;simp only[gh]
  split at h
  ·rename_i q;simp only[q];exact run h
  ·rename_i j z q;simp only[q];rw[K2 d]at h
   split at h
   ·rename_i t r;simp only[r];cases t<;>cases z
    ·simpa using run h
    ·simpa using skip h
    ·simpa using skip h
    ·simpa using run h
   ·rename_i r;simp only[r];exact skip h
   ·simp at h
theorem LV(R:RT):∀(n:Nat),∀x,aN (vf k R n) x=if x<n then jW k R x else .p .undef
 |0,x=>by simp[vf,aN]
 |n+1,x=>by
  simp only[vf,aN,LV R n]
  by_cases h:x=n
  ·subst h;simp
  ·simp only[h,if_false]
   by_cases a:x<n
   ·simp[a,Nat.lt_succ_of_lt a]
   ·have:¬x<n+1:=by omega
    simp[a,this]
theorem X8(k:Nat)(R:RT)(n:Nat)(h:4^k<=n):jW k R n=.p .undef:=by
 unfold jW;rw[NJ (by omega)];rfl
theorem aja{R:RT}{env:Env}(a:Rel k env R):∀x,aN (vf k R (4^k)) x=aN env x:=by
 intro x;rw[LV,a]
 split
 ·rfl
 ·rw[X8 k R x (by omega)]
theorem X0{j:Option Code}{e:bA}(h:A3 j=some e)(Q:bA->St->Prop)(s:St)(hq:Q e s):jM Q j s:=by
 unfold A3 at h;unfold jM
 split at h<;>simp at h<;>subst h<;>exact hq
theorem Yn{b:Nat}{R a:RT}{H H':Heap}{e:bA}{env:Env}(h:FI b R H=some (e,a,H')):a=R/\∀Q:bA->St->Prop,Q e ⟨env,H'⟩->iR b env Q H:=by
 unfold FI at h
 split at h
 case h_2=>simp at h
 rename_i L c
 have go:(match A3 L.pending with
   |some e=>some (e,R,H.set b (.loop {L with st:=.exhausted}))
   |none=>none)=some (e,a,H')->L.st≠.busy->a=R/\∀Q:bA->St->Prop,Q e ⟨env,H'⟩->iR b env Q H:=by
  intro h aK
  split at h
  case h_2=>simp at h
  rename_i e' d;simp only[bl,bo]at h;obtain⟨rfl,rfl,rfl⟩:=h;exact⟨rfl,fun Q hq=>by unfold iR;simp only[c];exact⟨aK,X0 d Q _ hq⟩⟩
 split at h
 ·simp at h
 ·rename_i aK;exact go h aK
theorem Wr{q:Cx}{b:Code}{Q:bA->St->Prop}{s s':St}(f:∀c:bA->St->Prop,c .normal s'->cd P ah q b c s)(d:cd P ah q (.loop b) Q s'):cd P ah q (.loop b) Q s:=by
 simp only[cd]at d⊢;obtain⟨I,⟨a,t0,hf,hI⟩,g⟩:=d;refine⟨fun n t=>I n t\/(n=a+1/\t=s),⟨a+1,s,.inl rfl,.inr ⟨rfl,rfl⟩⟩,?_⟩;rintro n t (h|⟨rfl,rfl⟩)
 ·obtain⟨e,u,k1,k2⟩:=nR b t _ (g n t h);refine k2 _ ?_;cases e with
  |normal=>
   obtain⟨m,i,g1,g2,g3⟩:=k1;exact⟨m,i,g1,g2,.inl g3⟩
  |exit id=>exact k1
  |ret=>exact k1
 ·exact f _ ⟨a,t0,Nat.lt_succ_self _,hf,.inl hI⟩
theorem Wq{q:Cx}{b:Code}{Q:bA->St->Prop}{s s':St}{e:bA}(f:e≠.normal)(d:∀a:bA->St->Prop,a e s'->cd P ah q b a s)(c:Q e s'):cd P ah q (.loop b) Q s:=by
 simp only[cd];refine⟨fun n t=>n=0/\t=s,⟨0,s,.inl rfl,rfl,rfl⟩,?_⟩;rintro n t ⟨rfl,rfl⟩;refine d _ ?_;cases e with
 |normal=>exact(f rfl).elim
 |exit id=>exact c
 |ret=>exact c
theorem Mk{q:Cx}{b:Code}{f:RT->Heap->Out}(hf:∀{R a:RT}{H H':Heap}{e:bA}{env:Env},f R H=some (e,a,H')->Rel k env R->∃c,Rel k c a/\∀Q:bA->St->Prop,Q e ⟨c,H'⟩->cd P ah q b Q ⟨env,H⟩):
 ∀(n:Nat){R a:RT}{H H':Heap}{e:bA}{env:Env},ya f n R H=some (e,a,H')->Rel k env R->∃c,Rel k c a/\∀Q:bA->St->Prop,Q e ⟨c,H'⟩->cd P ah q (.loop b) Q ⟨env,H⟩
 |0,R,a,H,H',e,env,h,g=>by simp[ya]at h
 |n+1,R,a,H,H',e,env,h,g=>by
  simp only[ya]at h
  split at h
  ·rename_i r H1 o;obtain⟨i,d,a2⟩:=hf o g;obtain⟨m,j,l⟩:=Mk hf n h d;exact⟨m,j,fun Q hq=>Wr a2 (l Q hq)⟩
  ·rename_i p;obtain⟨i,d,a2⟩:=hf h g;refine⟨i,d,fun Q hq=>Wq ?_ a2 hq⟩;rintro rfl;exact p _ _ h
theorem lD(m:jX P B){q:Cx}:∀{c:Code}{R l:RT}{H H':Heap}{e:bA}{env:Env},gT P ah B k q c R H=some (e,l,H')->Rel k env R->
 ∃r,Rel k r l/\∀Q:bA->St->Prop,Q e ⟨r,H'⟩->cd P ah q c Q ⟨env,H⟩
 | .skip,R,l,H,H',e,env,h,d| .label _,R,l,H,H',e,env,h,d| .exit _,R,l,H,H',e,env,h,d| .ret,R,l,H,H',e,env,h,d=>by
  simp only[gT,bl,bo]at h;obtain⟨rfl,rfl,rfl⟩:=h;exact⟨env,d,fun Q hq=>hq⟩
 | .region id ops draw,R,l,H,H',e,env,h,d=>by
  simp only[gT]at h;cases draw
  ·simp only[cond_false]at h
   split at h
   case h_2=>simp at h
   rename_i o H1 n;simp only[bl,bo]at h;obtain⟨rfl,rfl,rfl⟩:=h;obtain⟨j,g,a2⟩:=D3 m n d;exact⟨j,g,fun Q hq=>by simp only[cd];exact a2 _ hq⟩
  ·simp only[cond_true]at h
   split at h
   case h_2=>simp at h
   rename_i o H1 n;simp only[bl,bo]at h;obtain⟨rfl,rfl,rfl⟩:=h;obtain⟨j,g,a2⟩:=Dv m n d;exact⟨j,g,fun Q hq=>by simp only[cd,if_true];exact a2 _ hq⟩
 | .seq a b,R,l,H,H',e,env,h,d=>by
  simp only[gT]at h
  split at h
  ·rename_i o H1 n;obtain⟨j,g,a2⟩:=lD m n d;obtain⟨w,u,v⟩:=lD m h g;exact⟨w,u,fun Q hq=>by simp only[cd];exact a2 _ (v Q hq)⟩
  ·rename_i p;obtain⟨j,g,a2⟩:=lD m h d;refine⟨j,g,fun Q hq=>by
    simp only[cd];refine a2 _ ?_;cases e with
    |normal=>exact(p _ _ h).elim
    |exit id=>exact hq
    |ret=>exact hq⟩
 | .cond c a b,R,l,H,H',e,env,h,d=>by
  simp only[gT,AM d]at h
  split at h
  case h_2=>simp at h
  rename_i t s;cases t
  ·obtain⟨j,g,a2⟩:=lD m h d;exact⟨j,g,fun Q hq=>by simp only[cd,s];exact a2 Q hq⟩
  ·obtain⟨j,g,a2⟩:=lD m h d;exact⟨j,g,fun Q hq=>by simp only[cd,s,if_true];exact a2 Q hq⟩
 | .block id b,R,l,H,H',e,env,h,d=>by
  simp only[gT]at h
  split at h
  ·rename_i i o H1 n;obtain⟨j,g,a2⟩:=lD m n d;cases hi:be i id
   ·simp only[hi,cond_false,bl,bo]at h;obtain⟨rfl,rfl,rfl⟩:=h;refine⟨j,g,fun Q hq=>by
     simp only[cd];refine a2 _ ?_;have:i≠id:=fun e=>by subst e;simp[Nat.beq_refl]at hi
     simp only[this,if_false];exact hq⟩
   ·simp only[hi,cond_true,bl,bo]at h;obtain⟨rfl,rfl,rfl⟩:=h;refine⟨j,g,fun Q hq=>by
     simp only[cd];refine a2 _ ?_;simp only[dy hi,if_true];exact hq⟩
  ·rename_i p;obtain⟨j,g,a2⟩:=lD m h d;refine⟨j,g,fun Q hq=>by
    simp only[cd];refine a2 _ ?_;cases e with
    |normal=>exact hq
    |exit id=>exact(p _ _ _ h).elim
    |ret=>exact hq⟩
 | .scope b,R,l,H,H',e,env,h,d=>by
  simp only[gT]at h;obtain⟨j,g,a2⟩:=lD m h d;exact⟨j,g,fun Q hq=>by simp only[cd];exact a2 Q hq⟩
 | .loop b,R,l,H,H',e,env,h,d=>by
  simp only[gT]at h;exact Mk (fun h d=>lD m h d) _ h d
 | .rangeFunc f z a b,R,l,H,H',e,env,h,d=>by
  simp only[gT,ab,bk,ac]at h;obtain⟨⟨n,y⟩,h⟩:=h
  split at h
  case h_2=>simp at h
  rename_i H1 hI;obtain⟨rfl,x⟩:=Yn (env:=env) h;refine⟨env,d,fun Q hq=>?_⟩;simp only[cd];rw[AM d]at hI;exact⟨cZ n,_,aja d,m.cI _ _ _ _ hI _ (x Q hq)⟩
 | .goto _,_,_,_,_,_,_,h,_=>by simp[gT]at h
 | .refuse _,_,_,_,_,_,_,h,_=>by simp[gT]at h
end
def sY(n:Nat):Nat:=
 match a8 n 16,a8 n 64,a8 n 256,a8 n 1024 with
 |true,_,_,_=>2
 |_,true,_,_=>3
 |_,_,true,_=>4
 |_,_,_,true=>5
 |_,_,_,_=>6
noncomputable def xZ(k:Nat):Nat->List AV->RT
 |_,[]=>.lf
 |i,v::r=>yE k (xZ k (i+1) r) i v
theorem Mv(k:Nat):∀(l:List AV)(i:Nat),i+l.length<=4^k->Rel k (iD i l) (xZ k i l)
 |[],i,_=>fun x=>by simp[iD,xZ,aN,Na]
 |v::r,i,h=>fun x=>by
  simp only[List.length_cons]at h;rw[xZ,CV _ _ _ _ _ (by omega)];simp only[iD,aN]
  split
  ·rfl
  ·exact Mv k r (i+1) (by omega) x
noncomputable def yr(k:Nat):Env->Option RT
 |[]=>some .lf
 |(x,v)::r=>match yr k r with
  |some R=>bif a8 (x+1) (4^k)then some (yE k R x v)else none
  |none=>none
theorem LU(k:Nat):∀{e:Env}{R:RT},yr k e=some R->Rel k e R
 |[],R,h=>by
  simp only[yr,bl]at h;subst h;intro x;simp[aN,Na]
 |(y,v)::r,R,h=>by
  simp only[yr]at h
  split at h
  case h_2=>simp at h
  rename_i c a;simp only[ab,bk,bl]at h;obtain⟨b,rfl⟩:=h;intro x;rw[CV _ _ _ _ _ (by have:=cZ b;omega)];simp only[aN]
  split
  ·rfl
  ·exact LU k a x
noncomputable def BD(P:av)(k:Nat)(R:RT)(H:Heap):List ax->Option (List AV)
 |[]=>some []
 |r::rs=>match(match r with
  | .tmp t=>some (jW k R t)
  | .cell a T=>match jW k R a with
   | .ptr b path=>match H[b]? with
    |some (.box _ t)=>match eZ t path with
     |some v=>bif sE (kindOf P T) (aa v)then some v else none
     |none=>none
    |_=>none
   |_=>none),BD P k R H rs with
  |some v,some vs=>some (v::vs)
  |_,_=>none
theorem Nb{P:av}{k:Nat}{R:RT}{H:Heap}{env:Env}(d:Rel k env R):∀{e:List ax}{vs:List AV},BD P k R H e=some vs->fH P ⟨env,H⟩ e=some vs
 |[],vs,h=>h
 |r::e,vs,h=>by
  simp only[BD]at h
  split at h
  case h_2=>simp at h
  rename_i v o c f;simp only[bl]at h;subst h;have g:qz P ⟨env,H⟩ r=some v:=by
   cases r with
   |tmp t=>simp only[qz];rw[d];exact c
   |cell a T=>
    simp only[qz];dsimp only at c;rw[<-d]at c
    split at c
    case h_2=>simp at c
    rename_i b n j
    split at c
    case h_2=>simp at c
    rename_i fz t l
    split at c
    case h_2=>simp at c
    rename_i u m;simp only[ab,bk,bl]at c;obtain⟨i,rfl⟩:=c;rw[j];simp only[l,m,(iE i).1,if_true]
  simp only[fH,g,Nb d f]
section
variable(P:av)(ah:ao->Bool)
noncomputable def A6(B:jI)(fn:Func)(args:List AV)(N:Nat)(H:Heap):Option (AV×Heap):=
 bif a8 args.length fn.ntmps&&a8 fn.ntmps (4^sY fn.ntmps)then
  match gT P ah B (sY fn.ntmps) (fn.ntmps,N) (fn.body.getD .skip) (xZ (sY fn.ntmps) 0 args) H with
  |some (.exit _,_,_)=>none
  |some (_,R,H')=>match BD P (sY fn.ntmps) R H' fn.results.toList with
   |some vs=>some (oneOf vs,H')
   |none=>none
  |none=>none
 else none
structure mI where
 tj:ao->Option Func
 Bq:ao->List PV->Option PV
 Br:ao->List AV->Heap->Option (AV×Heap)
 jV:ao->ao->Nat
 vg:ao->List AV->Heap->Option (List (Nat×Obj)×PV)
noncomputable def pB(pl:mI)(B:ao->jI)(f:ao)(vs:List PV):Option PV:=
 match pl.Bq f vs with
 |some v=>some v
 |none=>match pl.tj f with
  |some fn=>match A6 P ah (B f) fn (vs.map .p) 0 []with
   |some (v,H)=>eC H 9 v
   |none=>none
  |none=>none
noncomputable def pA(pl:mI)(B:ao->jI)(f:ao)(args:List AV)(H:Heap):Option (AV×Heap):=
 match pl.Br f args H with
 |some r=>some r
 |none=>match pl.tj f with
  |some fn=>A6 P ah (B f) fn args H.length H
  |none=>none
noncomputable def AF(B:jI)(b:Nat)(H:Heap)(args:List AV):Option (Heap×AV):=
 match H[b]? with
 |some (.loop L)=>bif be args.length L.params.length&&(L.params.all (fun x=>decide (x<L.n))&&codeOk fit L.n L.assign&&codeOk fit L.n L.body)then
  match yr (sY L.n) (rY L.params args L.env)with
  |some R=>match gT P ah B (sY L.n) (L.n,H.length) L.assign R H with
   |some (.normal,f,H1)=>match H1[b]? with
    |some (.loop c)=>match c.st with
     | .ready=>match gT P ah B (sY L.n) (L.n,H.length) L.body f (H1.set b (.loop {c with st:=.busy}))with
      |some (e,_,a)=>match a[b]? with
       |some (.loop d)=>some (a.set b (.loop {d with st:=if(gN e).isNone then .ready else .done,pending:=gN e}),.p (.bool (gN e).isNone))
       |_=>none
      |none=>none
     |_=>none
    |_=>none
   |_=>none
  |none=>none
  else none
 |_=>none
noncomputable def Fu(pl:mI)(B:ao->jI)(it:AV)(b:Nat)(H:Heap):Option Heap:=
 match it with
 | .p (.func g fi ca)=>match pA P ah pl B g (fi.map .p++[.map b]++ca.map .p) H with
  |some (_,H')=>some H'
  |none=>none
 | .func g fi ca=>match pA P ah pl B g (fi++[.map b]++ca) H with
  |some (_,H')=>some H'
  |none=>none
 |_=>none
noncomputable def E3(pl:mI)(B:ao->jI)(c f:ao)(args:List AV)(H:Heap):Option (AV×Heap):=
 match pl.vg f args H with
 |some (_,v)=>some (.p v,H)
 |none=>match pl.jV c f with
 |0=>match eU args with
  |some vs=>match pB P ah pl B f vs with
   |some v=>some (.p v,H)
   |none=>none
  |none=>pA P ah pl B f args H
 |1=>pA P ah pl B f args H
 |3=>match xQ (pA P ah pl B f) args H with
  |some e=>some (e.v,qK H e)
  |none=>none
 |_=>match nE H args with
  |some (vs,H1)=>match pB P ah pl B f vs with
   |some v=>some (.p v,H1)
   |none=>none
  |none=>none
noncomputable def E0(pl:mI)(B:ao->jI)(c f:ao)(args:List AV)(H:Heap):Option aY:=
 match pl.vg f args H with
 |some (ak,v)=>some {v:=.p v,ak}
 |none=>match pl.jV c f with
 |3=>xQ (pA P ah pl B f) args H
 |_=>match eU args with
 |some vs=>match pB P ah pl B f vs with
  |some v=>some {v:=.p v}
  |none=>none
 |none=>match oB H args with
  |some (vs,bs)=>match lF H bs with
   |some (ak,aJ)=>match pB P ah pl B f vs with
    |some v=>some {v:=.p v,ak,aJ}
    |none=>none
   |none=>none
  |none=>xQ (pA P ah pl B f) args H
def uz:jI:=⟨fun _ _ _=>none,fun _ _ _=>none,fun _ _ _=>none,fun _ _ _=>none,fun _ _ _=>none⟩
noncomputable def jL(pl:mI):Nat->ao->jI
 |0,_=>uz
 |n+1,c=>⟨E3 P ah pl (jL pl n) c,E0 P ah pl (jL pl n) c,AF P ah (jL pl n c),Fu P ah pl (jL pl n),DW (AF P ah (jL pl n c))⟩
end
structure mZ(P:av)(pl:mI):Prop where
 mix:P.follows .mixedOrders=true
 tj:∀f fn,pl.tj f=some fn->aq P f fn
 Bq:∀f vs v,pl.Bq f vs=some v->aA P f vs v
 Br:∀f args H v H',pl.Br f args H=some (v,H')->cB P f H args H' v
 vg:∀f args H ak v,pl.vg f args H=some (ak,v)->EH P f args ak v/\∀p∈ak,H[p.1]?=some p.2
section
variable{P:av}{ah:ao->Bool}{B1:jI}{B:ao->jI}{pl:mI}
theorem LL(f:jX P B1){fn:Func}{args:List AV}{N:Nat}{H H':Heap}{v:AV}(h:A6 P ah B1 fn args N H=some (v,H')):
 args.length<=fn.ntmps/\∃e a vs,(match e with
  |bA.exit _=>False
  |_=>True)/\fH P ⟨a,H'⟩ fn.results.toList=some vs/\oneOf vs=v/\∀Q:bA->St->Prop,Q e ⟨a,H'⟩->cd P ah (fn.ntmps,N) (fn.body.getD .skip) Q ⟨iD 0 args,H⟩:=by
 unfold A6 at h;simp only[ab,bk,ac]at h;obtain⟨⟨b,c⟩,h⟩:=h;have b:=cZ b;have c:=cZ c;refine⟨b,?_⟩
 split at h
 ·simp at h
 ·rename_i e R k g hc
  split at h
  case h_2=>simp at h
  rename_i vs j;simp only[bl,bo]at h;obtain⟨rfl,rfl⟩:=h;obtain⟨a,d,a2⟩:=lD f hc (Mv _ args 0 (by omega));refine⟨e,a,vs,?_,Nb d j,rfl,a2⟩;cases e with
  |exit i=>exact g i rfl
  |_=>trivial
 ·simp at h
theorem xg(a:mZ P pl)(j:∀c,jX P (B c)){f:ao}{vs:List PV}{v:PV}(h:pB P ah pl B f vs=some v):aA P f vs v:=by
 unfold pB at h
 split at h
 ·rename_i v' hk;simp only[bl]at h;subst h;exact a.Bq _ _ _ hk
 ·split at h
  case h_2=>simp at h
  rename_i fn hf
  split at h
  case h_2=>simp at h
  rename_i v' H' k;obtain⟨b,e,m,l,d,g,rfl,i⟩:=LL (j _) k;exact lN ah (a.tj _ _ hf) a.mix (by simpa using b) (i _ ⟨d,l,g,h⟩)
theorem rL(a:mZ P pl)(j:∀c,jX P (B c)){f:ao}{args:List AV}{H H':Heap}{v:AV}(h:pA P ah pl B f args H=some (v,H')):cB P f H args H' v:=by
 unfold pA at h
 split at h
 ·rename_i r hk;simp only[bl]at h;subst h;exact a.Br _ _ _ _ _ hk
 ·split at h
  case h_2=>simp at h
  rename_i fn hf;obtain⟨b,e,l,k,d,g,rfl,i⟩:=LL (j _) h;exact P5 ah (a.tj _ _ hf) a.mix b (i _ ⟨d,k,g,rfl,.inl rfl⟩)
theorem KY{args:List AV}{vs:List PV}(h:eU args=some vs):args=vs.map .p:=me h
theorem YN(b:mZ P pl)(d:∀c,jX P (B c)){c f:ao}{args:List AV}{H H':Heap}{v:AV}(h:E3 P ah pl B c f args H=some (v,H'))(K:AV->Heap->Prop)(a:K v H'):gO P false f args H K:=by
 unfold E3 at h
 split at h
 ·rename_i ak v' hx;simp only[bl,bo]at h;obtain⟨rfl,rfl⟩:=h;obtain⟨i,j⟩:=b.vg _ _ _ _ _ hx;exact .inr ⟨rfl,.inr (.inr (.inr ⟨ak,v',i,j,a⟩))⟩
 split at h
 ·split at h
  ·rename_i vs m
   split at h
   case h_2=>simp at h
   rename_i v' g;simp only[bl,bo]at h;obtain⟨rfl,rfl⟩:=h;exact .inl ⟨vs,v',KY m,xg b d g,a⟩
  ·exact .inr ⟨rfl,.inr (.inl ⟨H',v,rL b d h,a⟩)⟩
 ·exact .inr ⟨rfl,.inr (.inl ⟨H',v,rL b d h,a⟩)⟩
 ·split at h
  case h_2=>simp at h
  rename_i e k;simp only[bl,bo]at h;obtain⟨rfl,rfl⟩:=h;obtain⟨i,j⟩:=Da (fun args H v H' g=>rL b d g) k;exact .inr ⟨rfl,.inr (.inr (.inl ⟨e,i,j,by rw[<-LO];exact a⟩))⟩
 ·split at h
  case h_2=>simp at h
  rename_i vs H1 l
  split at h
  case h_2=>simp at h
  rename_i v' g;simp only[bl,bo]at h;obtain⟨rfl,rfl⟩:=h;exact .inr ⟨rfl,.inl ⟨vs,H1,v',l,xg b d g,a⟩⟩
theorem YO(i:mZ P pl)(j:∀c,jX P (B c)){c f:ao}{args:List AV}{H:Heap}{e:aY}(h:E0 P ah pl B c f args H=some e)(K:aY->Prop)(g:K e):gU P f args H K:=by
 unfold E0 at h
 split at h
 ·rename_i ak v' hx;simp only[bl]at h;subst h;obtain⟨b,d⟩:=i.vg _ _ _ _ _ hx;exact .inr (.inr (.inr ⟨ak,v',b,d,g⟩))
 split at h
 ·obtain⟨b,d⟩:=Da (fun args H v H' a=>rL i j a) h;exact .inr (.inr (.inl ⟨e,b,d,g⟩))
 split at h
 ·rename_i vs m
  split at h
  case h_2=>simp at h
  rename_i v' a;simp only[bl]at h;subst h;exact .inl ⟨vs,v',KY m,xg i j a,g⟩
 ·split at h
  case h_2=>
   obtain⟨b,d⟩:=Da (fun args H v H' a=>rL i j a) h;exact .inr (.inr (.inl ⟨e,b,d,g⟩))
  rename_i vs bs l
  split at h
  case h_2=>simp at h
  rename_i ak aJ k
  split at h
  case h_2=>simp at h
  rename_i v' a;simp only[bl]at h;subst h;exact .inr (.inl ⟨vs,bs,ak,aJ,v',l,k,xg i j a,g⟩)
theorem KE(o:mZ P pl)(a:jX P B1){b:Nat}{H H':Heap}{args:List AV}{v:AV}(h:AF P ah B1 b H args=some (H',v)):iq P b H args H' v:=by
 unfold AF at h
 split at h
 case h_2=>simp at h
 rename_i L i;simp only[ab,bk,ac]at h;obtain⟨⟨f,g⟩,h⟩:=h
 split at h
 case h_2=>simp at h
 rename_i R l
 split at h
 case h_2=>simp at h
 rename_i s H1 m
 split at h
 case h_2=>simp at h
 rename_i q j
 split at h
 case h_2=>simp at h
 rename_i aK
 split at h
 case h_2=>simp at h
 rename_i e t p n
 split at h
 case h_2=>simp at h
 rename_i r k;simp only[bl,bo]at h;obtain⟨rfl,rfl⟩:=h;obtain⟨w,c,a2⟩:=lD a m (LU _ l);obtain⟨x,u,d⟩:=lD a n c;refine P6 ah o.mix i (dy f) (by simpa only[ac]using g) ?_;unfold z7;refine a2 _ ?_;simp only[zo,j];refine⟨aK,d _ ?_⟩;simp only[ug,k];exact⟨trivial,.inl rfl⟩
theorem X1(g:mZ P pl)(e:∀c,jX P (B c)){it:AV}{b:Nat}{H H':Heap}(h:Fu P ah pl B it b H=some H')(K:Heap->Prop)(f:K H'):jJ P it b H K:=by
 unfold Fu at h
 split at h
 ·split at h
  case h_2=>simp at h
  rename_i v a d;simp only[bl]at h;subst h;exact⟨a,v,rL g e d,f⟩
 ·split at h
  case h_2=>simp at h
  rename_i v a d;simp only[bl]at h;subst h;exact⟨a,v,rL g e d,f⟩
 ·simp at h
theorem ud(a:mZ P pl):∀n c,jX P (jL P ah pl n c)
 |0,_=>⟨fun _ _ _ _ _ h=>by simp[jL,uz]at h,fun _ _ _ _ h=>by simp[jL,uz]at h,fun _ _ _ _ _ h=>by simp[jL,uz]at h,fun _ _ _ _ h=>by simp[jL,uz]at h,fun _ _ _ _ h=>by simp[jL,uz]at h⟩
 |n+1,c=>⟨fun _ _ _ _ _ h=>YN a (ud a n) h,fun _ _ _ _ h=>YO a (ud a n) h,fun _ _ _ _ _ h=>KE a (ud a n c) h,fun _ _ _ _ h=>X1 a (ud a n) h,fun _ _ _ _ h=>VG (fun _ _ _ _ _ b=>KE a (ud a n c) b) h⟩
theorem reckon{f:ao}{vs:List PV}{v:PV}(n:Nat)(a:mZ P pl)(h:pB P ah pl (jL P ah pl n) f vs=some v):aA P f vs v:=xg a (ud a n) h
end
section
variable{P:av}{ah:ao->Bool}
theorem aA.c8{f:ao}{args d:List PV}{v v':PV}(h:aA P f args v)(g:bG d args)(i:Wk v v'):aA P f d v':=by
 rcases h with h|h
 ·refine .inl ⟨h.1,fun w ad a j k c=>(h.2 w ad a j k (bw.c8 _ _ _ g c)).mono ?_⟩;rintro e w' ⟨b,aF,k1,k2,k3,k4,k5,k6,l,k7⟩;exact⟨b,aF,k1,k2,k3,k4,k5,k6,l,aC.c8 _ _ _ i k7⟩
 ·refine .inr fun w ad a c=>?_;obtain⟨b,k1,k2⟩:=h w ad a (bw.c8 _ _ _ g c);exact⟨b,k1,aC.c8 _ _ _ i k2⟩
def Ba(P:av)(a:List ax)(v:PV)(e:bA)(s:St):Prop:=
 (match e with
  | .exit _=>False
  |_=>True)/\∃vs,fH P s a=some vs/\∃v',eC s.heap 9 (oneOf vs)=some v'/\Wk v' v
theorem WQ{a:List ax}{v:PV}{s:St}:Ba P a v .ret s=∃vs,fH P s a=some vs/\∃v',eC s.heap 9 (oneOf vs)=some v'/\Wk v' v:=by simp[Ba]
theorem UG{a:List ax}{v:PV}{s:St}:Ba P a v .normal s=∃vs,fH P s a=some vs/\∃v',eC s.heap 9 (oneOf vs)=some v'/\Wk v' v:=by simp[Ba]
theorem sP.c8{f:ao}{args a:List PV}{v v':PV}(h:sP P f args v)(j:bG a args)(k:Wk v v'):sP P f a v':=by
 refine⟨h.1,fun w ad b d g i=>(h.2 w ad b d g (bw.c8 _ _ _ j i)).mono ?_⟩;rintro e w' ⟨c,aF,k1,k2,k3,k4,k5,k6,l,k7⟩;exact⟨c,aF,k1,k2,k3,k4,k5,k6,l,aC.c8 _ _ _ k k7⟩
theorem J3{dst:Option Tmp}{h:Nat}{pos:String}{af:Array Edge}{g:Option (Nat×Bool)}{env:Env}{heap:Heap}{L:St->Prop}{f:ao}{fi ca:Array an}(hf:ah f=false):
 dv P ah ⟨dst,.makeFunc (.func f) fi ca,h,pos,af,g⟩ L ⟨env,heap⟩=bg (sy f (fi.toList.map (ev env)) (ca.toList.map (ev env))) (eB dst ⟨env,heap⟩ L):=by
 simp only[dv,kU,fE,hf,sy,am,if_false]
 split
 ·rename_i c d;simp only[c,d,bg,true_and]
 ·rename_i c
  split
  ·rename_i a b d e;exact(c a b d e).elim
  ·simp only[bg,true_and]
theorem JI{dst:Option Tmp}{h:Nat}{pos:String}{af:Array Edge}{g:Option (Nat×Bool)}{env:Env}{heap:Heap}{K:aY->Prop}{f:ao}{fi ca:Array an}(hf:ah f=false):
 dw P ah ⟨dst,.makeFunc (.func f) fi ca,h,pos,af,g⟩ ⟨env,heap⟩ K=bg (sy f (fi.toList.map (ev env)) (ca.toList.map (ev env))) K:=by
 simp only[dw,kU,fE,hf,sy,am,if_false]
 split
 ·rename_i c d;simp only[c,d,bg,true_and]
 ·rename_i c
  split
  ·rename_i a b d e;exact(c a b d e).elim
  ·simp only[bg,true_and]
section guards
variable{ops:Array Oper}{o:Oper}{r:List Oper}{K:St->Prop}{want t:Bool}{s:St}{i:Nat}{acc:List Touch}
theorem Jx:AH P ah ops o r K want s (.p (.bool t))=if t=want then dv P ah o (fX P ah ops r K) s else fX P ah ops r K ⟨put o.dst (.p (.aE [])) s.env,s.heap⟩:=(rfl)
theorem J7:AH P ah ops o r K want s (.p (.aE []))=fX P ah ops r K ⟨put o.dst (.p (.aE [])) s.env,s.heap⟩:=(rfl)
theorem IZ:Ap P ah ops o r i acc K want s (.p (.bool t))=if t=want then dw P ah o s (yd P ah ops r i acc K o.dst s)else gl P ah ops r (i+1) acc K ⟨put o.dst (.p (.aE [])) s.env,s.heap⟩:=(rfl)
theorem Jw:Ap P ah ops o r i acc K want s (.p (.aE []))=gl P ah ops r (i+1) acc K ⟨put o.dst (.p (.aE [])) s.env,s.heap⟩:=(rfl)
theorem UE{l:List Oper}{j:Nat}{e:Env}:guardOf l.toArray j e=match(l[j]?).bind (·.dst)with
 |some d=>aN e d
 |none=>.p (.aE []):=by simp only[guardOf,List.getElem?_toArray];cases l[j]?.bind (·.dst)<;>rfl
end guards
section calls
variable{f:ao}{H H1:Heap}{K:AV->Heap->Prop}{L:aY->Prop}{v a b c d e a' b' c' d' e':PV}{dr:Bool}
theorem ZS(h:aA P f [] v)(hk:K (.p v) H):gO P dr f [] H K:=.inl ⟨[],v,rfl,h,hk⟩
theorem ZT(h:aA P f [a'] v)(hk:K (.p v) H)(b:Wk a a':=by first|exact Wk.refl _|simp[Wk,bG]):gO P dr f [.p a] H K:=.inl ⟨[a],v,rfl,h.c8 (by simp only[bG];exact⟨b,trivial⟩) (Wk.refl _),hk⟩
theorem ZU(h:aA P f [a',b'] v)(hk:K (.p v) H)(c:Wk a a':=by first|exact Wk.refl _|simp[Wk,bG])(d:Wk b b':=by first|exact Wk.refl _|simp[Wk,bG]):gO P dr f [.p a,.p b] H K:=
 .inl ⟨[a,b],v,rfl,h.c8 (by simp only[bG];exact⟨c,d,trivial⟩) (Wk.refl _),hk⟩
theorem ZV(h:aA P f [a',b',c'] v)(hk:K (.p v) H)(d:Wk a a':=by first|exact Wk.refl _|simp[Wk,bG])(e:Wk b b':=by first|exact Wk.refl _|simp[Wk,bG])(g:Wk c c':=by first|exact Wk.refl _|simp[Wk,bG]):gO P dr f [.p a,.p b,.p c] H K:=
 .inl ⟨[a,b,c],v,rfl,h.c8 (by simp only[bG];exact⟨d,e,g,trivial⟩) (Wk.refl _),hk⟩
theorem ZW(h:aA P f [a',b',c',d'] v)(hk:K (.p v) H)(e:Wk a a':=by first|exact Wk.refl _|simp[Wk,bG])(g:Wk b b':=by first|exact Wk.refl _|simp[Wk,bG])(i:Wk c c':=by first|exact Wk.refl _|simp[Wk,bG])(j:Wk d d':=by first|exact Wk.refl _|simp[Wk,bG]):gO P dr f [.p a,.p b,.p c,.p d] H K:=
 .inl ⟨[a,b,c,d],v,rfl,h.c8 (by simp only[bG];exact⟨e,g,i,j,trivial⟩) (Wk.refl _),hk⟩
theorem ZX(h:aA P f [a',b',c',d',e'] v)(hk:K (.p v) H)(g:Wk a a':=by first|exact Wk.refl _|simp[Wk,bG])(i:Wk b b':=by first|exact Wk.refl _|simp[Wk,bG])(j:Wk c c':=by first|exact Wk.refl _|simp[Wk,bG])(k:Wk d d':=by first|exact Wk.refl _|simp[Wk,bG])(l:Wk e e':=by first|exact Wk.refl _|simp[Wk,bG]):gO P dr f [.p a,.p b,.p c,.p d,.p e] H K:=
 .inl ⟨[a,b,c,d,e],v,rfl,h.c8 (by simp only[bG];exact⟨g,i,j,k,l,trivial⟩) (Wk.refl _),hk⟩
theorem ZA(h:aA P f [] v)(hk:L {v:=.p v}):gU P f [] H L:=.inl ⟨[],v,rfl,h,hk⟩
theorem ZC(h:aA P f [a'] v)(hk:L {v:=.p v})(b:Wk a a':=by first|exact Wk.refl _|simp[Wk,bG]):gU P f [.p a] H L:=.inl ⟨[a],v,rfl,h.c8 (by simp only[bG];exact⟨b,trivial⟩) (Wk.refl _),hk⟩
theorem ZD(h:aA P f [a',b'] v)(hk:L {v:=.p v})(c:Wk a a':=by first|exact Wk.refl _|simp[Wk,bG])(d:Wk b b':=by first|exact Wk.refl _|simp[Wk,bG]):gU P f [.p a,.p b] H L:=
 .inl ⟨[a,b],v,rfl,h.c8 (by simp only[bG];exact⟨c,d,trivial⟩) (Wk.refl _),hk⟩
theorem ZE(h:aA P f [a',b',c'] v)(hk:L {v:=.p v})(d:Wk a a':=by first|exact Wk.refl _|simp[Wk,bG])(e:Wk b b':=by first|exact Wk.refl _|simp[Wk,bG])(g:Wk c c':=by first|exact Wk.refl _|simp[Wk,bG]):gU P f [.p a,.p b,.p c] H L:=
 .inl ⟨[a,b,c],v,rfl,h.c8 (by simp only[bG];exact⟨d,e,g,trivial⟩) (Wk.refl _),hk⟩
theorem ZF(h:aA P f [a',b',c',d'] v)(hk:L {v:=.p v})(e:Wk a a':=by first|exact Wk.refl _|simp[Wk,bG])(g:Wk b b':=by first|exact Wk.refl _|simp[Wk,bG])(i:Wk c c':=by first|exact Wk.refl _|simp[Wk,bG])(j:Wk d d':=by first|exact Wk.refl _|simp[Wk,bG]):gU P f [.p a,.p b,.p c,.p d] H L:=
 .inl ⟨[a,b,c,d],v,rfl,h.c8 (by simp only[bG];exact⟨e,g,i,j,trivial⟩) (Wk.refl _),hk⟩
theorem ZG(h:aA P f [a',b',c',d',e'] v)(hk:L {v:=.p v})(g:Wk a a':=by first|exact Wk.refl _|simp[Wk,bG])(i:Wk b b':=by first|exact Wk.refl _|simp[Wk,bG])(j:Wk c c':=by first|exact Wk.refl _|simp[Wk,bG])(k:Wk d d':=by first|exact Wk.refl _|simp[Wk,bG])(l:Wk e e':=by first|exact Wk.refl _|simp[Wk,bG]):gU P f [.p a,.p b,.p c,.p d,.p e] H L:=
 .inl ⟨[a,b,c,d,e],v,rfl,h.c8 (by simp only[bG];exact⟨g,i,j,k,l,trivial⟩) (Wk.refl _),hk⟩
theorem ZY{args:List AV}{vs a:List PV}(h:aA P f a v)(c:nE H args=some (vs,H1))(hk:K (.p v) H1)(b:bG vs a:=by first|exact bG.refl _|simp[Wk,bG]):gO P false f args H K:=
 .inr ⟨rfl,.inl ⟨vs,H1,v,c,h.c8 b (Wk.refl _),hk⟩⟩
theorem ZI{args:List AV}{vs a:List PV}{bs:List Nat}{ak aJ:List (Nat×Obj)}(h:aA P f a v)(c:oB H args=some (vs,bs))(hf:lF H bs=some (ak,aJ))(hk:L {v:=.p v,ak,aJ})(b:bG vs a:=by first|exact bG.refl _|simp[Wk,bG]):gU P f args H L:=
 .inr (.inl ⟨vs,bs,ak,aJ,v,c,hf,h.c8 b (Wk.refl _),hk⟩)
end calls
def KV(T:Heap)(a v:AV):Prop:=a=v\/Gh T a v
theorem Sf{T:Heap}{v:AV}:KV T v v=True:=by simp[KV]
theorem Sd{T:Heap}{b aw aj off len:Nat}:KV T (.p .aW) (.sl b aw aj off len)=(aw=0/\off=0/\len=0/\∃k z,T[b]?=some (.arr k 0 z [])/\k.gr=true):=by simp[KV,Gh,fR]
theorem Sg{T:Heap}{u u':ap}{fs:List PV}{a:List AV}:KV T (.p (.st u fs)) (.st u' a)=(u=u'/\kZ T fs a):=by simp[KV,Gh,fR]
def mh(T:Heap)(e:Env):Env->Prop
 |[]=>True
 |(x,v)::r=>KV T (aN e x) v/\mh T e r
def KO(T:Heap)(o:Obj):Obj->Prop
 | .hole=>True
 | .box false v'=>match o with
  | .box false v=>KV T v v'
  |_=>False
 | .arr k aw z es=>(o=.hole/\aw=0/\es=[]/\k.gr=true)\/o=.arr k aw z es
 |o'=>o=o'
def KN:Obj->Prop
 | .hole=>True
 | .arr k aw _ es=>aw=0/\es=[]/\k.gr=true
 |_=>False
def iS(T:Heap):Heap->Heap->Prop
 |_,[]=>True
 |[],o'::t=>KN o'/\iS T [] t
 |o::h,o'::t=>KO T o o'/\iS T h t
theorem mh.get{T:Heap}{e:Env}:∀{t:Env},mh T e t->∀x,aN t x=aN e x\/aN t x=.p .undef\/Gh T (aN e x) (aN t x)
 |[],_,x=>.inr (.inl rfl)
 |(y,v)::t,h,x=>by
  simp only[mh]at h;simp only[aN]
  split
  ·rename_i hx;subst hx;rcases h.1 with h|h
   ·exact .inl h.symm
   ·exact .inr (.inr h)
  ·exact mh.get h.2 x
theorem iS.get{T:Heap}:∀{h t:Heap},iS T h t->∀(b:Nat)(o:Obj),t[b]?=some o->
 o=.hole\/h[b]?=some o\/((h[b]?=none\/h[b]?=some .hole)/\∃k z,o=.arr k 0 z []/\k.gr=true)\/(∃v v',h[b]?=some (.box false v)/\o=.box false v'/\Gh T v v')
 |_,[],_,b,o,c=>by simp at c
 |[],o'::t,hk,b,o,c=>by
  simp only[iS]at hk;cases b with
  |zero=>
   simp at c;subst c;cases o'<;>have a:=hk.1<;>simp only[KN]at a
   ·exact .inl rfl
   ·obtain⟨rfl,rfl,d⟩:=a;exact .inr (.inr (.inl ⟨.inl rfl,_,_,rfl,d⟩))
  |succ b=>simpa using iS.get hk.2 b o (by simpa using c)
 |e::h,o'::t,hk,b,o,c=>by
  simp only[iS]at hk;cases b with
  |zero=>
   simp at c;subst c;have a:=hk.1;cases o' with
   |hole=>exact .inl rfl
   |dead=>simp only[KO]at a;subst a;exact .inr (.inl rfl)
   |map fz es=>simp only[KO]at a;subst a;exact .inr (.inl rfl)
   |dx ks vs=>simp only[KO]at a;subst a;exact .inr (.inl rfl)
   |dA s p=>simp only[KO]at a;subst a;exact .inr (.inl rfl)
   |loop L=>simp only[KO]at a;subst a;exact .inr (.inl rfl)
   |arr k aw z es=>
    simp only[KO]at a;rcases a with⟨rfl,rfl,rfl,d⟩|rfl
    ·exact .inr (.inr (.inl ⟨.inr rfl,_,_,rfl,d⟩))
    ·exact .inr (.inl rfl)
   |box fz v'=>
    cases fz with
    |true=>simp only[KO]at a;subst a;exact .inr (.inl rfl)
    |false=>
     simp only[KO]at a
     split at a
     ·rcases a with rfl|a
      ·exact .inr (.inl rfl)
      ·exact .inr (.inr (.inr ⟨_,_,rfl,rfl,a⟩))
     ·exact a.elim
  |succ b=>simpa using iS.get hk.2 b o (by simpa using c)
theorem cV.og{N:Nat}{s t:St}(e:t.heap.take N=s.heap.take N)(c:mh t.heap s.env t.env)(d:iS t.heap s.heap t.heap)(f:ir t.heap t.env)(g:eK t.heap t.heap):cV N s t:=by
 refine .inr ⟨⟨c.get,d.get,f.get,g.get⟩,fun b a=>?_⟩;have:=congrArg (fun l:Heap=>l[b]?) e;simpa[List.getElem?_take,a]using this
theorem NP{T:Heap}{o:Obj}:KO T o o=True:=by
 cases o with
 |box fz v=>cases fz<;>simp[KO,KV]
 |_=>simp[KO]
theorem Sb{T:Heap}{o:Obj}:KO T o .hole=True:=by simp[KO]
theorem Sa{T:Heap}{v v':AV}:KO T (.box false v) (.box false v')=KV T v v':=(rfl)
theorem Sc{T:Heap}{k:AK}{aw z:Nat}{a:List AV}:KO T .hole (.arr k aw z a)=(aw=0/\a=[]/\k.gr=true):=by simp[KO]
theorem R9:KN .hole=True:=(rfl)
theorem R8{k:AK}{aw z:Nat}{a:List AV}:KN (.arr k aw z a)=(aw=0/\a=[]/\k.gr=true):=(rfl)
theorem Se{T:Heap}{x y:PV}:KV T (.p x) (.p y)=(x=y):=by
 have:Gh T (.p x) (.p y)↔x=y:=by cases x<;>simp[Gh,fR,eq_comm]
 simp[KV,this]
def vy{α:Type}(N:Nat)(mk:α->St)(ok:α->Prop)(m:α->Nat)(n:Nat)(s:St):Prop:=∃a',m a'<n/\ok a'/\cV N s (mk a')
def sA{α:Type}(N:Nat)(mk:α->St)(ok:α->Prop)(m:α->Nat)(n:Nat)(Q:bA->St->Prop)(e:bA)(s:St):Prop:=
 match e with
 | .normal=>vy N mk ok m n s
 |e=>Q e s
section
variable{α:Type}{N:Nat}{mk:α->St}{ok:α->Prop}{m:α->Nat}{n:Nat}{Q:bA->St->Prop}{s s':St}{q:Cx}
theorem Uj:sA N mk ok m n Q .normal s=vy N mk ok m n s:=(rfl)
theorem VB{id:Nat}:sA N mk ok m n Q (.exit id) s=Q (.exit id) s:=(rfl)
theorem Wt:sA N mk ok m n Q .ret s=Q .ret s:=(rfl)
theorem wl{b:Code}(mk:α->St)(ok:α->Prop)(m:α->Nat)(c:α)(l:ok c)(gS:∀a,ok a->dt P ah q b (sA q.2 mk ok m (m a) Q) (mk a))
 (k:(mk c).heap.take q.2=s.heap.take q.2:=by simp)(i:mh (mk c).heap s.env (mk c).env:=by simp)(j:iS (mk c).heap s.heap (mk c).heap:=by simp)(o:ir (mk c).heap (mk c).env:=by simp)(p:eK (mk c).heap (mk c).heap:=by simp):
 dt P ah q (.loop b) Q s:=by
 simp only[dt];refine⟨fun n t=>∃a,ok a/\t=mk a/\n=m a,⟨m c,mk c,cV.og k i j o p,c,l,rfl,rfl⟩,?_⟩;rintro n t ⟨a,h,rfl,rfl⟩;have:sA q.2 mk ok m (m a) Q=uN q.2 (m a) (fun n t=>∃a,ok a/\t=mk a/\n=m a) Q:=by
  funext e s
  cases e with
  |normal=>
   simp only[sA,uN,vy,eq_iff_iff];constructor
   ·rintro⟨a',d,f,g⟩;exact⟨m a',mk a',d,g,a',f,rfl,rfl⟩
   ·rintro⟨_,_,d,g,a',f,rfl,rfl⟩;exact⟨a',d,f,g⟩
  |exit id=>rfl
  |ret=>rfl
 rw[<-this];exact gS a h
theorem rnd(a':α)(b:ok a')(a:m a'<n:=by omega)(e:(mk a').heap.take N=s.heap.take N:=by simp)(c:mh (mk a').heap s.env (mk a').env:=by simp)(d:iS (mk a').heap s.heap (mk a').heap:=by simp)(f:ir (mk a').heap (mk a').env:=by simp)(g:eK (mk a').heap (mk a').heap:=by simp):
 vy N mk ok m n s:=⟨a',a,b,cV.og e c d f g⟩
end
theorem aO(n:Int)(h:-9223372036854775808<=n)(a:n<=9223372036854775807):IntKind.i64.wrap n=n:=IntWalk.i64_in n ⟨h,a⟩
theorem BQ(a b:Int):(a<b/\¬b<=a)\/(¬a<b/\b<=a):=by omega
theorem ct{i:Nat}(h:i<4611686018427387904):IntKind.i64.wrap ((i:Int)+1)=(i:Int)+1:=aO _ (by omega) (by omega)
attribute [simp] Wk bG aH Obj.has Jx J7 IZ Jw UE J3 JI sy Uj VB Wt mh iS Sf Se Sd Sg NP Sb Sa Sc R9 R8 kZ fR AK.gr ir eK aD Obj.refs
attribute [simp] WQ UG Wk.refl bG.refl
end
end Go.ag
namespace Go.ag
variable[Gl]
mutual
def dX:PV->Prop
 | .str s=>∀c∈s,c<256
 | .cw t=>dX t
 | .bP _ es| .seq es| .st _ es| .aE es=>ml es
 |_=>True
def ml:List PV->Prop
 |[]=>True
 |v::vs=>dX v/\ml vs
end
section
variable{P:av}{w:aT}{ad:Nat->Prop}
theorem LJ(bs:ByteArray):∀c∈bs.data.toList.map (·.toNat),c<256:=by
 intro c hc;simp only[a0]at hc;obtain⟨b,_,rfl⟩:=hc;exact UInt8.toNat_lt b
mutual
theorem aS.dX:∀(v:PV)(cs:List ay),aS P w ad v cs->dX v
 | .str s,cs,h=>by simp only[aS]at h;obtain⟨bs,_,rfl⟩:=h;simp only[ag.dX];exact LJ bs
 | .cw t,cs,h=>by simp only[aS]at h;obtain⟨_,_,ts,a,_⟩:=h;simp only[ag.dX];exact aS.dX t ts a
 | .bP f b,cs,h=>by simp only[aS]at h;obtain⟨_,_,_,_,d,a,_⟩:=h;simp only[ag.dX];exact bd.dX _ b d a
 | .seq b,cs,h=>by
  simp only[aS]at h;simp only[ag.dX];rcases h with⟨rfl,_⟩|⟨_,_,_,_,d,a,_⟩
  ·trivial
  ·exact bd.dX _ b d a
 | .st u b,cs,h=>by simp only[aS]at h;obtain⟨l,d,_,a,_⟩:=h;simp only[ag.dX];exact bd.dX _ b d a
 | .aE b,cs,h=>by simp[aS]at h
 | .undef,_,_| .bool _,_,_| .int _ _,_,_| .dJ,_,_| .aW,_,_| .fC,_,_| .ig,_,_| .fV,_,_| .fg _,_,_| .func _ _ _,_,_=>by simp[ag.dX]
theorem bd.dX:∀(l:List Nat)(b:List PV)(d:List (List ay)),bd P w ad l b d->ml b
 |_,[],_,_=>by simp[ag.ml]
 |[],_::_,_,h=>by simp[bd]at h
 |n::l,v::vs,d,h=>by
  simp only[bd]at h;obtain⟨c,cs,_,a,_,g⟩:=h;simp only[ag.ml];exact⟨aS.dX v c a,bd.dX l vs cs g⟩
theorem aC.dX:∀(v:PV)(x:ay),aC P w ad v x->dX v
 | .str s,cs,h=>by simp only[aC]at h;obtain⟨bs,_,rfl⟩:=h;simp only[ag.dX];exact LJ bs
 | .cw t,cs,h=>by simp only[aC]at h;obtain⟨_,_,ts,a,_⟩:=h;simp only[ag.dX];exact aS.dX t ts a
 | .bP f b,cs,h=>by simp only[aC]at h;obtain⟨_,_,_,_,d,a,_⟩:=h;simp only[ag.dX];exact bd.dX _ b d a
 | .seq b,cs,h=>by
  simp only[aC]at h;simp only[ag.dX];rcases h with⟨rfl,_⟩|⟨_,_,_,_,d,a,_⟩
  ·trivial
  ·exact bd.dX _ b d a
 | .st u b,cs,h=>by simp only[aC]at h;obtain⟨l,d,_,a,_⟩:=h;simp only[ag.dX];exact bd.dX _ b d a
 | .aE b,cs,h=>by simp only[aC]at h;obtain⟨e,a,_⟩:=h;simp only[ag.dX];exact bw.dX b e a
 | .undef,_,_| .bool _,_,_| .int _ _,_,_| .dJ,_,_| .aW,_,_| .fC,_,_| .ig,_,_| .fV,_,_| .fg _,_,_| .func _ _ _,_,_=>by simp[ag.dX]
theorem bw.dX:∀(b:List PV)(e:List ay),bw P w ad b e->ml b
 |[],_,_=>by simp[ag.ml]
 |v::vs,e,h=>by
  simp only[bw]at h;obtain⟨y,i,_,a,g⟩:=h;simp only[ag.ml];exact⟨aC.dX v y a,bw.dX vs i g⟩
end
theorem SP{f:ao}{args:List PV}{v:PV}(h:ml args->aA P f args v):aA P f args v:=by
 by_cases hs:ml args
 ·exact h hs
 ·exact .inr fun w ad b a=>(hs (bw.dX _ _ a)).elim
end
end Go.ag
namespace Go.ag
variable[Gl]
@[reducible] def Tg{α:Type}(_:α)(β:Type):Type:=β
@[reducible] def Tg1{α:Type 1}(_:α)(β:Type):Type:=β
section
variable(P:av)(ah:ao->Bool)
def fc(q:Cx)(c:Code)(Q:bA->St->Prop)(s:Tg (q,c,Q) St):Prop:=dt P ah q c Q s
def qY(a:Array Oper)(l:List Oper)(K:St->Prop)(s:Tg (a,l,K) St):Prop:=fX P ah a l K s
def sG(b:Array Oper)(l:List Oper)(i:Nat)(a:List Touch)(K:St->Prop)(s:Tg (b,l,i,a,K) St):Prop:=gl P ah b l i a K s
def BE(K:St->Prop)(Q:bA->St->Prop)(e:Tg (K,Q) bA)(s:Tg (K,Q) St):Prop:=vp K Q e s
def sf(id:Nat)(Q:bA->St->Prop)(e:Tg (id,Q) bA)(s:Tg (id,Q) St):Prop:=ou id Q e s
def PK(a b:St->Prop)(s:St)(v:Tg (a,b,s) AV):Prop:=uT v a b s
def Ez(b:Array Oper)(r:List Oper)(i:Nat)(a:List Touch)(K:St->Prop)(dst:Option Tmp)(s:St)(e:Tg (b,r,i,a,K,dst,s) aY):Prop:=yd P ah b r i a K dst s e
def eL(dst:Option Tmp)(s:St)(K:St->Prop)(e:Tg (dst,s,K) aY):Prop:=eB dst s K e
def Rw(dst:Option Tmp)(s:St)(K:St->Prop)(v:Tg (dst,s,K) AV)(H:Tg (dst,s,K) Heap):Prop:=BA dst s K v H
def ED(a:Array Oper)(o:Oper)(r:List Oper)(K:St->Prop)(b:Bool)(s:St)(g:Tg (a,o,r,K,b,s) AV):Prop:=AH P ah a o r K b s g
def DV(b:Array Oper)(o:Oper)(r:List Oper)(i:Nat)(a:List Touch)(K:St->Prop)(c:Bool)(s:St)(g:Tg (b,o,r,i,a,K,c,s) AV):Prop:=Ap P ah b o r i a K c s g
def eh(o:Oper)(K:St->Prop)(s:St)(_:Tg (o,K,s) Unit):Prop:=dv P ah o K s
def dV(o:Oper)(s:St)(K:aY->Prop)(_:Tg (o,K,s) Unit):Prop:=dw P ah o s K
def cE(K:aY->Prop)(r:Tg K eQ):Prop:=bg r K
def Bg(H:Heap)(K:AV->Heap->Prop)(f:Tg (H,K) AV)(args:Tg (H,K) (List AV)):Prop:=sx P f args H K
def EI(H:Heap)(K:aY->Prop)(f:Tg (H,K) AV)(args:Tg (H,K) (List AV)):Prop:=sd P f args H K
def ky(d:Bool)(f:ao)(K:AV->Heap->Prop)(args:Tg K (List AV))(H:Tg K Heap):Prop:=gO P d f args H K
def ng(f:ao)(K:aY->Prop)(args:Tg K (List AV))(H:Tg K Heap):Prop:=gU P f args H K
def sN(R:AV->PV->Prop):List AV->List PV->Prop
 |[],vs=>vs=[]
 |x::xs,vs=>match vs with
  |v::vs=>R x v/\sN R xs vs
  |[]=>False
def gv(H:Heap):Nat->AV->PV->Prop
 |0=>fun x v=>match x with
  | .p a=>Wk a v
  |_=>False
 |n+1=>fun x v=>match x with
  | .p a=>Wk a v
  | .sl b aw z off len=>match v with
   | .seq fs=>match H[b]? with
    |some (.arr _ e h es)=>aw=e/\z=h/\off+len<=es.length/\sN (gv H n) ((es.drop off).take len) fs
    |_=>False
   |_=>False
  | .st u xs=>match v with
   | .st u' vs=>u=u'/\sN (gv H n) xs vs
   |_=>False
  | .aE xs=>match v with
   | .aE vs=>sN (gv H n) xs vs
   |_=>False
  | .ptr b path=>match v with
   | .cw t=>match H[b]? with
    |some (.box _ y)=>match eZ y path with
     |some s=>gv H n s t
     |none=>False
    |_=>False
   |_=>False
  | .map b=>match v with
   | .fg es=>match H[b]? with
    |some (.map _ c)=>c=es
    |_=>False
   |_=>False
  | .func f xs g=>match v with
   | .func d vs us=>f=d/\sN (gv H n) xs vs/\sN (gv H n) g us
   |_=>False
  |_=>False
def mJ(H:Heap)(n:Nat):List AV->List PV->Prop:=sN (gv H n)
def sR(a:List ax)(v:PV)(e:Tg (a,v) bA)(s:Tg (a,v) St):Prop:=
 (match e with
  | .exit _=>False
  |_=>True)/\∃vs,fH P s a=some vs/\gv (St.heap s) 9 (oneOf vs) v
def AA(a:Array Oper)(l:Tg a (List Touch)):Bool:=kj a l
def aF4(a:Array Oper)(i j:Tg a Nat):Bool:=reach a a.size i j
end
section
variable{P:av}{ah:ao->Bool}{q:Cx}
theorem aJY{Q:bA->St->Prop}{s:St}:fc P ah q .skip Q s=Q .normal s:=Od
theorem Xl{l:Nat}{Q:bA->St->Prop}{s:St}:fc P ah q (.label l) Q s=Q .normal s:=MR
theorem aJW{id:Nat}{Q:bA->St->Prop}{s:St}:fc P ah q (.exit id) Q s=Q (.exit id) s:=Oe
theorem aJX{Q:bA->St->Prop}{s:St}:fc P ah q .ret Q s=Q .ret s:=RY
theorem Xj{b:Code}{Q:bA->St->Prop}{s:St}:fc P ah q (.scope b) Q s=fc P ah q b Q s:=MP
theorem aJV{id:Nat}{l:List Oper}{Q:bA->St->Prop}{s:St}:fc P ah q (.region id l.toArray true) Q s=sG P ah l.toArray l 0 [] (Q .normal) s:=Of
theorem Xk{id:Nat}{l:List Oper}{Q:bA->St->Prop}{s:St}:fc P ah q (.region id l.toArray false) Q s=qY P ah l.toArray l (Q .normal) s:=MQ
theorem bm{a b:Code}{Q:bA->St->Prop}{s:St}:fc P ah q (.seq a b) Q s=fc P ah q a (BE (fc P ah q b Q) Q) s:=RZ
theorem LD{id:Nat}{b:Code}{Q:bA->St->Prop}{s:St}:fc P ah q (.block id b) Q s=fc P ah q b (sf id Q) s:=MS
theorem aJU{c:an}{a b:Code}{Q:bA->St->Prop}{s:St}:fc P ah q (.cond c a b) Q s=PK (fc P ah q a Q) (fc P ah q b Q) s (ev s.env c):=Og
theorem Um{K:St->Prop}{Q:bA->St->Prop}{s:St}:BE K Q .normal s=K s:=Jo
theorem VU{id:Nat}{K:St->Prop}{Q:bA->St->Prop}{s:St}:BE K Q (.exit id) s=Q (.exit id) s:=KC
theorem V0{K:St->Prop}{Q:bA->St->Prop}{s:St}:BE K Q .ret s=Q .ret s:=Lx
theorem US{t:Bool}{a b:St->Prop}{s:St}:PK a b s (.p (.bool t))=if t then a s else b s:=JK
theorem WM{b:Array Oper}{r:List Oper}{i:Nat}{a:List Touch}{K:St->Prop}{dst:Option Tmp}{env:Env}{heap:Heap}{v:AV}{ak aJ:List (Nat×Obj)}{aU:List Obj}:Ez P ah b r i a K dst ⟨env,heap⟩ ⟨v,ak,aJ,aU⟩=sG P ah b r (i+1) (gP i heap.length ⟨v,ak,aJ,aU⟩ a) K ⟨put dst v env,bf heap aJ++aU⟩:=L4
theorem Yw{dst:Option Tmp}{env:Env}{heap:Heap}{K:St->Prop}{v:AV}{ak aJ:List (Nat×Obj)}{aU:List Obj}:eL dst ⟨env,heap⟩ K ⟨v,ak,aJ,aU⟩=K ⟨put dst v env,bf heap aJ++aU⟩:=NK
theorem Yd{dst:Option Tmp}{env:Env}{heap H:Heap}{K:St->Prop}{v:AV}:Rw dst ⟨env,heap⟩ K v H=K ⟨put dst v env,H⟩:=Nh
theorem aJZ{b:Array Oper}{i:Nat}{a:List Touch}{K:St->Prop}{s:St}:sG P ah b [] i a K s=(AA b a=true/\K s):=Oc
theorem Xi{b:Array Oper}{i c:Nat}{pos:String}{a:List Touch}{K:St->Prop}{s:St}{dst:Option Tmp}{op:Op}{af:Array Edge}{r:List Oper}:sG P ah b ({dst,op,type:=c,pos,after:=af,guard:=none}::r) i a K s=dV P ah {dst,op,type:=c,pos,after:=af,guard:=none} s (Ez P ah b r i a K dst s) ():=MO
theorem Wo{a:Array Oper}{i d j:Nat}{b:Bool}{pos:String}{c:List Touch}{K:St->Prop}{s:St}{dst:Option Tmp}{op:Op}{af:Array Edge}{r:List Oper}:sG P ah a ({dst,op,type:=d,pos,after:=af,guard:=some (j,b)}::r) i c K s=DV P ah a {dst,op,type:=d,pos,after:=af,guard:=some (j,b)} r i c K b s (guardOf a j s.env):=LC
theorem aJ5{a:Array Oper}{K:St->Prop}{s:St}:qY P ah a [] K s=K s:=Oa
theorem Xh{a:Array Oper}{b:Nat}{pos:String}{K:St->Prop}{s:St}{dst:Option Tmp}{op:Op}{af:Array Edge}{r:List Oper}:qY P ah a ({dst,op,type:=b,pos,after:=af,guard:=none}::r) K s=eh P ah {dst,op,type:=b,pos,after:=af,guard:=none} (qY P ah a r K) s ():=MM
theorem Wn{a:Array Oper}{c j:Nat}{b:Bool}{pos:String}{K:St->Prop}{s:St}{dst:Option Tmp}{op:Op}{af:Array Edge}{r:List Oper}:qY P ah a ({dst,op,type:=c,pos,after:=af,guard:=some (j,b)}::r) K s=ED P ah a {dst,op,type:=c,pos,after:=af,guard:=some (j,b)} r K b s (guardOf a j s.env):=LB
section ops
variable{dst:Option Tmp}{ty:Nat}{pos:String}{af:Array Edge}{g:Option (Nat×Bool)}{env:Env}{heap:Heap}{K:aY->Prop}{L:St->Prop}
theorem Z8{x:an}:dV P ah ⟨dst,.move x,ty,pos,af,g⟩ ⟨env,heap⟩ K ()=K {v:=ev env x}:=Pb
theorem WX{x:an}:dV P ah ⟨dst,.assign x,ty,pos,af,g⟩ ⟨env,heap⟩ K ()=K {v:=ev env x}:=LZ
theorem abv{c a b:an}:dV P ah ⟨dst,.pick c a b,ty,pos,af,g⟩ ⟨env,heap⟩ K ()=cE K (sF (ev env c) (ev env a) (ev env b)):=O9
theorem YI{T:ap}:dV P ah ⟨dst,.alloc T,ty,pos,af,g⟩ ⟨env,heap⟩ K ()=cE K (sj P T heap.length):=Nv
theorem Z0{T:ap}{x:an}:dV P ah ⟨dst,.box T x,ty,pos,af,g⟩ ⟨env,heap⟩ K ()=cE K (u7 P T heap.length (ev env x)):=PQ
theorem YH{T:ap}{a:Array (Nat×an)}:dV P ah ⟨dst,.build T a,ty,pos,af,g⟩ ⟨env,heap⟩ K ()=cE K (se P T (a.toList.map fun(i,x)=>(i,ev env x))):=Nu
theorem TU{T:ap}{n:Nat}{a:Array (Nat×an)}:dV P ah ⟨dst,.buildSlice T n a,ty,pos,af,g⟩ ⟨env,heap⟩ K ()=cE K (rq P T n (a.toList.map fun(i,x)=>(i,ev env x)) heap.length):=I1
theorem Z5{T:ap}{a:an}:dV P ah ⟨dst,.load T a,ty,pos,af,g⟩ ⟨env,heap⟩ K ()=cE K (qH P T heap (ev env a)):=ON
theorem YC{T:ap}{a x:an}:dV P ah ⟨dst,.store T a x,ty,pos,af,g⟩ ⟨env,heap⟩ K ()=cE K (qw P T heap (ev env a) (ev env x)):=Nr
theorem ZZ{op:BinOp}{T a:ap}{x y:an}:dV P ah ⟨dst,.binOp op T x y a,ty,pos,af,g⟩ ⟨env,heap⟩ K ()=cE K (jh P op T (mC y) heap (ev env x) (ev env y)):=PO
theorem acH{op:UnOp}{T:ap}{x:an}:dV P ah ⟨dst,.unOp op T x,ty,pos,af,g⟩ ⟨env,heap⟩ K ()=cE K (tq op (ev env x)):=PU
theorem Z2{S D:ap}{x:an}:dV P ah ⟨dst,.convert S D x,ty,pos,af,g⟩ ⟨env,heap⟩ K ()=cE K (sv P S D heap (ev env x)):=OP
theorem Vk{t:an}{i:Nat}:dV P ah ⟨dst,.extract t i,ty,pos,af,g⟩ ⟨env,heap⟩ K ()=cE K (rJ (ev env t) i):=K8
theorem UN{T:ap}{a:an}{f:Nat}:dV P ah ⟨dst,.fieldAddr T a f,ty,pos,af,g⟩ ⟨env,heap⟩ K ()=cE K (pT P T (ev env a) f):=Jq
theorem UM{T:ap}{x i:an}:dV P ah ⟨dst,.indexAddr T x i,ty,pos,af,g⟩ ⟨env,heap⟩ K ()=cE K (pS P T heap (ev env x) (ev env i)):=Jp
theorem YF{T:ap}{x i:an}:dV P ah ⟨dst,.index T x i,ty,pos,af,g⟩ ⟨env,heap⟩ K ()=cE K (sq P T (ev env x) (ev env i)):=Il
theorem Z4{x:an}{a:Array ap}:dV P ah ⟨dst,.call {callee:=.builtin .len,args:=#[x],argTypes:=a},ty,pos,af,g⟩ ⟨env,heap⟩ K ()=cE K (sZ P (a.getD 0 0) a.size heap (ev env x)):=PR
theorem Z1{f:an}{args:List an}{a:Array ap}:dV P ah ⟨dst,.call {callee:=.value f,args:=args.toArray,argTypes:=a},ty,pos,af,g⟩ ⟨env,heap⟩ K ()=EI P heap K (ev env f) (args.map (ev env)):=OQ
theorem aFv{x:an}:eh P ah ⟨dst,.move x,ty,pos,af,g⟩ L ⟨env,heap⟩ ()=eL dst ⟨env,heap⟩ L {v:=ev env x}:=Oz
theorem Ww{x:an}:eh P ah ⟨dst,.assign x,ty,pos,af,g⟩ L ⟨env,heap⟩ ()=eL dst ⟨env,heap⟩ L {v:=ev env x}:=Lh
theorem aFx{c a b:an}:eh P ah ⟨dst,.pick c a b,ty,pos,af,g⟩ L ⟨env,heap⟩ ()=cE (eL dst ⟨env,heap⟩ L) (sF (ev env c) (ev env a) (ev env b)):=Ox
theorem Ym{T:ap}:eh P ah ⟨dst,.alloc T,ty,pos,af,g⟩ L ⟨env,heap⟩ ()=cE (eL dst ⟨env,heap⟩ L) (sj P T heap.length):=M5
theorem aFl{T:ap}{x:an}:eh P ah ⟨dst,.box T x,ty,pos,af,g⟩ L ⟨env,heap⟩ ()=cE (eL dst ⟨env,heap⟩ L) (u7 P T heap.length (ev env x)):=Rq
theorem Yl{T:ap}{a:Array (Nat×an)}:eh P ah ⟨dst,.build T a,ty,pos,af,g⟩ L ⟨env,heap⟩ ()=cE (eL dst ⟨env,heap⟩ L) (se P T (a.toList.map fun(i,x)=>(i,ev env x))):=M0
theorem T3{T:ap}{n:Nat}{a:Array (Nat×an)}:eh P ah ⟨dst,.buildSlice T n a,ty,pos,af,g⟩ L ⟨env,heap⟩ ()=cE (eL dst ⟨env,heap⟩ L) (rq P T n (a.toList.map fun(i,x)=>(i,ev env x)) heap.length):=IV
theorem aFs{T:ap}{a:an}:eh P ah ⟨dst,.load T a,ty,pos,af,g⟩ L ⟨env,heap⟩ ()=cE (eL dst ⟨env,heap⟩ L) (qH P T heap (ev env a)):=OA
theorem Yg{T:ap}{a x:an}:eh P ah ⟨dst,.store T a x,ty,pos,af,g⟩ L ⟨env,heap⟩ ()=cE (eL dst ⟨env,heap⟩ L) (qw P T heap (ev env a) (ev env x)):=Nj
theorem aFk{op:BinOp}{T a:ap}{x y:an}:eh P ah ⟨dst,.binOp op T x y a,ty,pos,af,g⟩ L ⟨env,heap⟩ ()=cE (eL dst ⟨env,heap⟩ L) (jh P op T (mC y) heap (ev env x) (ev env y)):=Rp
theorem aFz{op:UnOp}{T:ap}{x:an}:eh P ah ⟨dst,.unOp op T x,ty,pos,af,g⟩ L ⟨env,heap⟩ ()=cE (eL dst ⟨env,heap⟩ L) (tq op (ev env x)):=Ru
theorem aFn{S D:ap}{x:an}:eh P ah ⟨dst,.convert S D x,ty,pos,af,g⟩ L ⟨env,heap⟩ ()=cE (eL dst ⟨env,heap⟩ L) (sv P S D heap (ev env x)):=OC
theorem Vt{t:an}{i:Nat}:eh P ah ⟨dst,.extract t i,ty,pos,af,g⟩ L ⟨env,heap⟩ ()=cE (eL dst ⟨env,heap⟩ L) (rJ (ev env t) i):=Ki
theorem Uc{T:ap}{a:an}{f:Nat}:eh P ah ⟨dst,.fieldAddr T a f,ty,pos,af,g⟩ L ⟨env,heap⟩ ()=cE (eL dst ⟨env,heap⟩ L) (pT P T (ev env a) f):=Jg
theorem Uq{T:ap}{x i:an}:eh P ah ⟨dst,.indexAddr T x i,ty,pos,af,g⟩ L ⟨env,heap⟩ ()=cE (eL dst ⟨env,heap⟩ L) (pS P T heap (ev env x) (ev env i)):=Jf
theorem Yj{T:ap}{x i:an}:eh P ah ⟨dst,.index T x i,ty,pos,af,g⟩ L ⟨env,heap⟩ ()=cE (eL dst ⟨env,heap⟩ L) (sq P T (ev env x) (ev env i)):=MZ
theorem aFr{x:an}{a:Array ap}:eh P ah ⟨dst,.call {callee:=.builtin .len,args:=#[x],argTypes:=a},ty,pos,af,g⟩ L ⟨env,heap⟩ ()=cE (eL dst ⟨env,heap⟩ L) (sZ P (a.getD 0 0) a.size heap (ev env x)):=Rr
theorem aFm{f:an}{args:List an}{a:Array ap}:eh P ah ⟨dst,.call {callee:=.value f,args:=args.toArray,argTypes:=a},ty,pos,af,g⟩ L ⟨env,heap⟩ ()=Bg P heap (Rw dst ⟨env,heap⟩ L) (ev env f) (args.map (ev env)):=OD
theorem YD{T:ap}{x:an}{lo hi:Option an}:dV P ah ⟨dst,.slice T x lo hi none,ty,pos,af,g⟩ ⟨env,heap⟩ K ()=cE K (qy P T heap (ev env x) (lo.map (ev env)) (hi.map (ev env))):=Ns
theorem Yh{T:ap}{x:an}{lo hi:Option an}:eh P ah ⟨dst,.slice T x lo hi none,ty,pos,af,g⟩ L ⟨env,heap⟩ ()=cE (eL dst ⟨env,heap⟩ L) (qy P T heap (ev env x) (lo.map (ev env)) (hi.map (ev env))):=MX
theorem WV{T:ap}{x i:an}{ok:Bool}:dV P ah ⟨dst,.lookup T x i ok,ty,pos,af,g⟩ ⟨env,heap⟩ K ()=cE K (sB P T heap (ev env x) (ev env i) ok):=LX
theorem Wu{T:ap}{x i:an}{ok:Bool}:eh P ah ⟨dst,.lookup T x i ok,ty,pos,af,g⟩ L ⟨env,heap⟩ ()=cE (eL dst ⟨env,heap⟩ L) (sB P T heap (ev env x) (ev env i) ok):=Lf
theorem UK{T:ap}{m k x:an}:dV P ah ⟨dst,.mapUpdate T m k x,ty,pos,af,g⟩ ⟨env,heap⟩ K ()=cE K (mB P T heap (ev env m) (ev env k) (ev env x)):=JD
theorem Uo{T:ap}{m k x:an}:eh P ah ⟨dst,.mapUpdate T m k x,ty,pos,af,g⟩ L ⟨env,heap⟩ ()=cE (eL dst ⟨env,heap⟩ L) (mB P T heap (ev env m) (ev env k) (ev env x)):=Jd
theorem WW{T:ap}{m k x:an}:dV P ah ⟨dst,.insert T m k x,ty,pos,af,g⟩ ⟨env,heap⟩ K ()=cE K (mB P T heap (ev env m) (ev env k) (ev env x)):=LY
theorem Wv{T:ap}{m k x:an}:eh P ah ⟨dst,.insert T m k x,ty,pos,af,g⟩ L ⟨env,heap⟩ ()=cE (eL dst ⟨env,heap⟩ L) (mB P T heap (ev env m) (ev env k) (ev env x)):=Lg
theorem YE{T:ap}{x:an}:dV P ah ⟨dst,.range T x,ty,pos,af,g⟩ ⟨env,heap⟩ K ()=cE K (rX P T heap.length (ev env x)):=Nt
theorem Yi{T:ap}{x:an}:eh P ah ⟨dst,.range T x,ty,pos,af,g⟩ L ⟨env,heap⟩ ()=cE (eL dst ⟨env,heap⟩ L) (rX P T heap.length (ev env x)):=MY
theorem Z9{it:an}:dV P ah ⟨dst,.next it true,ty,pos,af,g⟩ ⟨env,heap⟩ K ()=cE K (sJ heap (ev env it)):=Pa
theorem aFw{it:an}:eh P ah ⟨dst,.next it true,ty,pos,af,g⟩ L ⟨env,heap⟩ ()=cE (eL dst ⟨env,heap⟩ L) (sJ heap (ev env it)):=Oy
theorem UL{T:ap}{l c:an}:dV P ah ⟨dst,.makeSlice T l c,ty,pos,af,g⟩ ⟨env,heap⟩ K ()=cE K (sL P T heap.length (ev env l) (ev env c)):=JE
theorem Up{T:ap}{l c:an}:eh P ah ⟨dst,.makeSlice T l c,ty,pos,af,g⟩ L ⟨env,heap⟩ ()=cE (eL dst ⟨env,heap⟩ L) (sL P T heap.length (ev env l) (ev env c)):=Je
theorem UQ{x:an}:dV P ah ⟨dst,.nilCheck x,ty,pos,af,g⟩ ⟨env,heap⟩ K ()=cE K (rR (ev env x)):=JH
theorem U8{x:an}:eh P ah ⟨dst,.nilCheck x,ty,pos,af,g⟩ L ⟨env,heap⟩ ()=cE (eL dst ⟨env,heap⟩ L) (rR (ev env x)):=J2
theorem Z7{args:Array an}{a:Array ap}:dV P ah ⟨dst,.call {callee:=.builtin .min,args,argTypes:=a},ty,pos,af,g⟩ ⟨env,heap⟩ K ()=cE K (kP false (args.toList.map (ev env))):=PT
theorem aFu{args:Array an}{a:Array ap}:eh P ah ⟨dst,.call {callee:=.builtin .min,args,argTypes:=a},ty,pos,af,g⟩ L ⟨env,heap⟩ ()=cE (eL dst ⟨env,heap⟩ L) (kP false (args.toList.map (ev env))):=Rt
theorem Z6{args:Array an}{a:Array ap}:dV P ah ⟨dst,.call {callee:=.builtin .max,args,argTypes:=a},ty,pos,af,g⟩ ⟨env,heap⟩ K ()=cE K (kP true (args.toList.map (ev env))):=PS
theorem aFt{args:Array an}{a:Array ap}:eh P ah ⟨dst,.call {callee:=.builtin .max,args,argTypes:=a},ty,pos,af,g⟩ L ⟨env,heap⟩ ()=cE (eL dst ⟨env,heap⟩ L) (kP true (args.toList.map (ev env))):=Rs
theorem Vj{T:ap}:dV P ah ⟨dst,.makeMap T none,ty,pos,af,g⟩ ⟨env,heap⟩ K ()=K {v:=.map heap.length,aU:=[.map false []]}:=K7
theorem Vs{T:ap}:eh P ah ⟨dst,.makeMap T none,ty,pos,af,g⟩ L ⟨env,heap⟩ ()=eL dst ⟨env,heap⟩ L {v:=.map heap.length,aU:=[.map false []]}:=KR
theorem WY{s x:an}{T X:ap}:dV P ah ⟨dst,.call {callee:=.builtin .append,args:=#[s,x],argTypes:=#[T,X]},ty,pos,af,g⟩ ⟨env,heap⟩ K ()=cE K (qu P T X heap (ev env s) (ev env x)):=L3
theorem Wx{s x:an}{T X:ap}:eh P ah ⟨dst,.call {callee:=.builtin .append,args:=#[s,x],argTypes:=#[T,X]},ty,pos,af,g⟩ L ⟨env,heap⟩ ()=cE (eL dst ⟨env,heap⟩ L) (qu P T X heap (ev env s) (ev env x)):=Li
theorem Z3{s x:an}{T X:ap}:dV P ah ⟨dst,.call {callee:=.builtin .copy,args:=#[s,x],argTypes:=#[T,X]},ty,pos,af,g⟩ ⟨env,heap⟩ K ()=cE K (copyV P T heap (ev env s) (ev env x)):=OO
theorem aFo{s x:an}{T X:ap}:eh P ah ⟨dst,.call {callee:=.builtin .copy,args:=#[s,x],argTypes:=#[T,X]},ty,pos,af,g⟩ L ⟨env,heap⟩ ()=cE (eL dst ⟨env,heap⟩ L) (copyV P T heap (ev env s) (ev env x)):=OB
theorem ZN{f:ao}{fi ca:List AV}{args:List AV}{M:AV->Heap->Prop}:Bg P heap M (.func f fi ca) args=ky P false f M (fi++args++ca) heap:=PL
theorem ZQ{f:ao}{fi ca:List AV}{args:List AV}:EI P heap K (.func f fi ca) args=ng P f K (fi++args++ca) heap:=OR
theorem ZP{f:ao}{fi ca:List PV}{args:List AV}{M:AV->Heap->Prop}:Bg P heap M (.p (.func f fi ca)) args=ky P false f M (fi.map .p++args++ca.map .p) heap:=PM
theorem ZR{f:ao}{fi ca:List PV}{args:List AV}:EI P heap K (.p (.func f fi ca)) args=ng P f K (fi.map .p++args++ca.map .p) heap:=PN
end ops
section guards
variable{ops:Array Oper}{o:Oper}{r:List Oper}{K:St->Prop}{want t:Bool}{s:St}{i:Nat}{acc:List Touch}
theorem UD:ED P ah ops o r K want s (.p (.bool t))=if t=want then eh P ah o (qY P ah ops r K) s ()else qY P ah ops r K ⟨put o.dst (.p (.aE [])) s.env,s.heap⟩:=Jx
theorem U6:ED P ah ops o r K want s (.p (.aE []))=qY P ah ops r K ⟨put o.dst (.p (.aE [])) s.env,s.heap⟩:=J7
theorem T7:DV P ah ops o r i acc K want s (.p (.bool t))=if t=want then dV P ah o s (Ez P ah ops r i acc K o.dst s) ()else sG P ah ops r (i+1) acc K ⟨put o.dst (.p (.aE [])) s.env,s.heap⟩:=IZ
theorem UC:DV P ah ops o r i acc K want s (.p (.aE []))=sG P ah ops r (i+1) acc K ⟨put o.dst (.p (.aE [])) s.env,s.heap⟩:=Jw
end guards
theorem TY{id:Nat}{Q:bA->St->Prop}{s:St}:sf id Q .normal s=Q .normal s:=(rfl)
theorem Vg{id i:Nat}{Q:bA->St->Prop}{s:St}:sf id Q (.exit i) s=if i=id then Q .normal s else Q (.exit i) s:=(rfl)
theorem Wg{id:Nat}{Q:bA->St->Prop}{s:St}:sf id Q .ret s=Q .ret s:=(rfl)
section makeFunc
variable{dst:Option Tmp}{ty:Nat}{pos:String}{af:Array Edge}{g:Option (Nat×Bool)}{env:Env}{heap:Heap}{L:St->Prop}{K:aY->Prop}{f:ao}{fi ca:Array an}
theorem U9(hf:ah f=false):eh P ah ⟨dst,.makeFunc (.func f) fi ca,ty,pos,af,g⟩ L ⟨env,heap⟩ ()=cE (eL dst ⟨env,heap⟩ L) (sy f (fi.toList.map (ev env)) (ca.toList.map (ev env))):=J3 hf
theorem UR(hf:ah f=false):dV P ah ⟨dst,.makeFunc (.func f) fi ca,ty,pos,af,g⟩ ⟨env,heap⟩ K ()=cE K (sy f (fi.toList.map (ev env)) (ca.toList.map (ev env))):=JI hf
end makeFunc
theorem V3{p:Prop}{e:aY}{K:aY->Prop}:cE K (some (p,e))=(p/\K e):=(rfl)
theorem V4{K:aY->Prop}:cE K none=False:=(rfl)
theorem VL{a:Array Oper}:AA a []=true:=(rfl)
theorem UA{a:Array Oper}{t:Touch}{r:List Touch}:AA a (t::r)=(r.all (fun u=>!je u t||aF4 a u.i t.i)&&AA a r):=(rfl)
theorem WR{a:List ax}{v:PV}{s:St}:sR P a v .ret s=∃vs,fH P s a=some vs/\gv s.heap 9 (oneOf vs) v:=by simp[sR]
theorem UH{a:List ax}{v:PV}{s:St}:sR P a v .normal s=∃vs,fH P s a=some vs/\gv s.heap 9 (oneOf vs) v:=by simp[sR]
section pur
variable{H:Heap}
theorem FL{n:Nat}{a v:PV}:gv H n (.p a) v=Wk a v:=by cases n<;>rfl
theorem N9{n b aw z off len:Nat}{fs:List PV}:gv H (n+1) (.sl b aw z off len) (.seq fs)=match H[b]? with
  |some (.arr _ a c es)=>aw=a/\z=c/\off+len<=es.length/\mJ H n ((es.drop off).take len) fs
  |_=>False:=(rfl)
theorem aFS{n:Nat}{u u':ap}{a:List AV}{vs:List PV}:gv H (n+1) (.st u a) (.st u' vs)=(u=u'/\mJ H n a vs):=(rfl)
theorem aFW{n:Nat}{a:List AV}{vs:List PV}:gv H (n+1) (.aE a) (.aE vs)=mJ H n a vs:=(rfl)
theorem Ni{n b:Nat}{a:List (PV×PV)}:gv H (n+1) (.map b) (.fg a)=match H[b]? with
  |some (.map _ c)=>c=a
  |_=>False:=(rfl)
theorem aFR{n:Nat}{f a:ao}{c d:List AV}{vs b:List PV}:gv H (n+1) (.func f c d) (.func a vs b)=(f=a/\mJ H n c vs/\mJ H n d b):=(rfl)
theorem zK{n:Nat}{vs:List PV}:mJ H n [] vs=(vs=[]):=(rfl)
theorem CW{n:Nat}{x:AV}{a:List AV}{v:PV}{vs:List PV}:mJ H n (x::a) (v::vs)=(gv H n x v/\mJ H n a vs):=(rfl)
theorem Lc{α:Type}{n:Nat}{g:α->AV}{f:α->PV}:∀{l:List α},mJ H n (l.map g) (l.map f)=∀x∈l,gv H n (g x) (f x)
 |[]=>by simp[zK]
 |a::l=>by simp[CW,Lc (l:=l)]
theorem uw(n:Nat)(c:∀(x:AV)(v:PV),gv H n x v->∃v',eC H n x=some v'/\Wk v' v):∀(b:List AV)(vs:List PV),mJ H n b vs->∃a,jS (eC H n) b=some a/\bG a vs
 |[],vs,h=>by rw[zK]at h;subst h;exact⟨[],rfl,by simp[bG]⟩
 |x::b,vs,h=>by
  cases vs with
  |nil=>exact h.elim
  |cons v vs=>
   rw[CW]at h;obtain⟨p,d,e⟩:=c x v h.1;obtain⟨a,f,g⟩:=uw n c b vs h.2;exact⟨p::a,by simp[jS,d,f],by simp only[bG];exact⟨e,g⟩⟩
theorem rZ:∀(n:Nat)(x:AV)(v:PV),gv H n x v->∃v',eC H n x=some v'/\Wk v' v
 |0,x,v,h=>by
  cases x with
  |p a=>exact⟨_,rfl,h⟩
  |_=>exact h.elim
 |n+1,x,v,h=>by
  cases x with
  |p a=>rw[FL]at h;exact⟨_,rfl,h⟩
  |sl b aw z off len=>
   cases v with
   |seq fs=>
    rw[N9]at h
    split at h
    case h_2=>exact h.elim
    rename_i k C E j e;obtain⟨rfl,rfl,m,g⟩:=h;obtain⟨i,c,d⟩:=uw n (rZ n) _ _ g;simp only[eC,e,m,and_self,if_true]
    split
    ·rename_i r;rw[r.2]at g;simp only[List.drop_nil,List.take_nil,zK]at g;exact⟨_,rfl,by rw[g];simp[Wk]⟩
    ·rw[c];exact⟨_,rfl,by simp only[Wk];exact d⟩
   |_=>exact h.elim
  |st u xs=>
   cases v with
   |st u' vs=>
    obtain⟨rfl,h⟩:=h;obtain⟨i,c,d⟩:=uw n (rZ n) _ _ h;simp only[eC,c];exact⟨_,rfl,by simp only[Wk];exact⟨trivial,d⟩⟩
   |_=>exact h.elim
  |aE xs=>
   cases v with
   |aE vs=>
    obtain⟨i,c,d⟩:=uw n (rZ n) _ _ h;simp only[eC,c];exact⟨_,rfl,by simp only[Wk];exact d⟩
   |_=>exact h.elim
  |ptr b path=>
   cases v with
   |cw t=>
    change (match H[b]? with
     |some (.box _ y)=>match eZ y path with
      |some s=>gv H n s t
      |none=>False
     |_=>False)at h
    split at h
    case h_2=>exact h.elim
    rename_i e
    split at h
    case h_2=>exact h.elim
    rename_i s hs;obtain⟨p,c,d⟩:=rZ n _ _ h;simp only[eC,e,hs,c];exact⟨_,rfl,by simp only[Wk];exact d⟩
   |_=>exact h.elim
  |b7 _ _ _ _ _=>exact h.elim
  |map b=>
   cases v with
   |fg j=>
    rw[Ni]at h
    split at h
    case h_2=>exact h.elim
    rename_i fz w e;subst h;simp only[eC,e];exact⟨_,rfl,Wk.refl _⟩
   |_=>exact h.elim
  |func f xs D=>
   cases v with
   |func A vs us=>
    obtain⟨rfl,h,l⟩:=h;obtain⟨i,c,d⟩:=uw n (rZ n) _ _ h;obtain⟨B,o,q⟩:=uw n (rZ n) _ _ l;simp only[eC,c,o];exact⟨_,rfl,by simp only[Wk];exact⟨trivial,d,q⟩⟩
   |_=>exact h.elim
end pur
theorem XD{f:ao}{fn:Func}(ah:ao->Bool)(h:aq P f fn)(n:P.follows .mixedOrders=true){args:List PV}{v:PV}(o:args.length<=fn.ntmps)
 (d:fc P ah (fn.ntmps,0) (fn.body.getD .skip) (sR P fn.results.toList v) ⟨iD 0 (args.map .p),[]⟩):sP P f args v:=by
 have hs:=h.stat;simp only[ac,bne_iff_ne]at hs;have k:fn.body=some (fn.body.getD .skip):=by
  have a:=hs.1.1;clear d hs;cases l:fn.body with
  |none=>rw[l]at a;simp at a
  |some c=>rfl
 obtain⟨e,s,⟨a,vs,g,b⟩,j⟩:=nR _ _ _ (lZ (Q':=sR P fn.results.toList v) _ (fun _ _ h=>h) d);obtain⟨v',b,i⟩:=rZ _ _ _ b;have m:sP P f args v':=LP (pO ah) (zt (pO ah) n) h.enters h.func k hs.2 o (j (Ends P fn.results.toList v') ⟨by cases e<;>exact a,vs,g,b⟩);exact m.c8 (bG.refl _) i
theorem aG{f:ao}{fn:Func}(ah:ao->Bool)(h:aq P f fn)(a:P.follows .mixedOrders=true){args:List PV}{v:PV}(b:args.length<=fn.ntmps)
 (c:fc P ah (fn.ntmps,0) (fn.body.getD .skip) (sR P fn.results.toList v) ⟨iD 0 (args.map .p),[]⟩):aA P f args v:=.inl (XD ah h a b c)
theorem RA{α:Type}{N:Nat×Nat->Prop}{f:α->PV}{l:List α}:aV N (l.map fun x=>.p (f x))=True:=by
 rw[cJ,eq_iff_iff,iff_true];intro v a;simp only[a0]at a;obtain⟨x,_,rfl⟩:=a;trivial
theorem aGc{α:Type}{N:Nat×Nat->Prop}{f:α->PV}{l:List α}{i:Nat}:aV N ((l.map fun x=>.p (f x)).take i)=True:=by
 rw[cJ,eq_iff_iff,iff_true];intro v a;have a:=List.mem_of_mem_take a;simp only[a0]at a;obtain⟨x,_,rfl⟩:=a;trivial
theorem WH{N:Nat×Nat->Prop}{a b:List AV}:aV N (a++b)=(aV N a/\aV N b):=by
 simp only[cJ,List.mem_append,eq_iff_iff];exact⟨fun h=>⟨fun v c=>h v (.inl c),fun v c=>h v (.inr c)⟩,fun h v c=>c.elim (h.1 v) (h.2 v)⟩
theorem TH{α:Type}{l:List α}{i:Nat}:(l.take i).take i=l.take i:=by simp[List.take_take]
theorem TG{α β:Type}{f:α->β}{l:List α}:(l.map f).take l.length=l.map f:=List.take_of_length_le (by simp)
section loops
variable{α:Type}(N:Nat)(mk:α->St)(ok:α->Prop)(m:α->Nat)(n:Nat)(Q:bA->St->Prop)
def FY(s:Tg (N,mk,ok,m,n) St):Prop:=vy N mk ok m n s
def A0(e:Tg (N,mk,ok,m,n,Q) bA)(s:Tg (N,mk,ok,m,n,Q) St):Prop:=sA N mk ok m n Q e s
variable{N}{mk}{ok}{m}{n}{Q}{s s':St}
theorem Ui:A0 N mk ok m n Q .normal s=FY N mk ok m n s:=(rfl)
theorem VA{id:Nat}:A0 N mk ok m n Q (.exit id) s=Q (.exit id) s:=(rfl)
theorem Ws:A0 N mk ok m n Q .ret s=Q .ret s:=(rfl)
theorem lp{d:Nat}{b:Code}(mk:α->St)(ok:α->Prop)(m:α->Nat)(c:α)(e:ok c)(gS:∀a,ok a->fc P ah (d,N) b (A0 N mk ok m (m a) Q) (mk a))
 (hn:(mk c).heap.take N=s.heap.take N:=by simp)(he:mh (mk c).heap s.env (mk c).env:=by simp)(hh:iS (mk c).heap s.heap (mk c).heap:=by simp)(hr:ir (mk c).heap (mk c).env:=by simp)(hr2:eK (mk c).heap (mk c).heap:=by simp):
 fc P ah (d,N) (.loop b) Q s:=wl (q:=(d,N)) mk ok m c e gS hn he hh hr hr2
theorem rd(a':α)(a:ok a')(h1:m a'<n:=by omega)(hn:(mk a').heap.take N=s.heap.take N:=by simp)(he:mh (mk a').heap s.env (mk a').env:=by simp)(hh:iS (mk a').heap s.heap (mk a').heap:=by simp)(hr:ir (mk a').heap (mk a').env:=by simp)(hr2:eK (mk a').heap (mk a').heap:=by simp):
 FY N mk ok m n s:=rnd a' a h1 hn he hh hr hr2
end loops
section calls
variable{f:ao}{H H1:Heap}{K:AV->Heap->Prop}{L:aY->Prop}{v a b c d e a' b' c' d' e':PV}
theorem c0(h:aA P f [] v)(hk:K (.p v) H):ky P false f K [] H:=ZS h hk
theorem c1(h:aA P f [a'] v)(hk:K (.p v) H)(h1:Wk a a':=by first|exact Wk.refl _|simp):ky P false f K [.p a] H:=ZT h hk h1
theorem c2(h:aA P f [a',b'] v)(hk:K (.p v) H)(h1:Wk a a':=by first|exact Wk.refl _|simp)(c:Wk b b':=by first|exact Wk.refl _|simp):ky P false f K [.p a,.p b] H:=ZU h hk h1 c
theorem c3(h:aA P f [a',b',c'] v)(hk:K (.p v) H)(h1:Wk a a':=by first|exact Wk.refl _|simp)(d:Wk b b':=by first|exact Wk.refl _|simp)(e:Wk c c':=by first|exact Wk.refl _|simp):ky P false f K [.p a,.p b,.p c] H:=ZV h hk h1 d e
theorem c4(h:aA P f [a',b',c',d'] v)(hk:K (.p v) H)(e:Wk a a':=by first|exact Wk.refl _|simp)(g:Wk b b':=by first|exact Wk.refl _|simp)(i:Wk c c':=by first|exact Wk.refl _|simp)(j:Wk d d':=by first|exact Wk.refl _|simp):ky P false f K [.p a,.p b,.p c,.p d] H:=ZW h hk e g i j
theorem c5(h:aA P f [a',b',c',d',e'] v)(hk:K (.p v) H)(g:Wk a a':=by first|exact Wk.refl _|simp)(i:Wk b b':=by first|exact Wk.refl _|simp)(j:Wk c c':=by first|exact Wk.refl _|simp)(k:Wk d d':=by first|exact Wk.refl _|simp)(l:Wk e e':=by first|exact Wk.refl _|simp):ky P false f K [.p a,.p b,.p c,.p d,.p e] H:=ZX h hk g i j k l
theorem e0(h:aA P f [] v)(hk:L {v:=.p v}):ng P f L [] H:=ZA h hk
theorem e1(h:aA P f [a'] v)(hk:L {v:=.p v})(h1:Wk a a':=by first|exact Wk.refl _|simp):ng P f L [.p a] H:=ZC h hk h1
theorem e2(h:aA P f [a',b'] v)(hk:L {v:=.p v})(h1:Wk a a':=by first|exact Wk.refl _|simp)(c:Wk b b':=by first|exact Wk.refl _|simp):ng P f L [.p a,.p b] H:=ZD h hk h1 c
theorem e3(h:aA P f [a',b',c'] v)(hk:L {v:=.p v})(h1:Wk a a':=by first|exact Wk.refl _|simp)(d:Wk b b':=by first|exact Wk.refl _|simp)(e:Wk c c':=by first|exact Wk.refl _|simp):ng P f L [.p a,.p b,.p c] H:=ZE h hk h1 d e
theorem e4(h:aA P f [a',b',c',d'] v)(hk:L {v:=.p v})(e:Wk a a':=by first|exact Wk.refl _|simp)(g:Wk b b':=by first|exact Wk.refl _|simp)(i:Wk c c':=by first|exact Wk.refl _|simp)(j:Wk d d':=by first|exact Wk.refl _|simp):ng P f L [.p a,.p b,.p c,.p d] H:=ZF h hk e g i j
theorem e5(h:aA P f [a',b',c',d',e'] v)(hk:L {v:=.p v})(g:Wk a a':=by first|exact Wk.refl _|simp)(i:Wk b b':=by first|exact Wk.refl _|simp)(j:Wk c c':=by first|exact Wk.refl _|simp)(k:Wk d d':=by first|exact Wk.refl _|simp)(l:Wk e e':=by first|exact Wk.refl _|simp):ng P f L [.p a,.p b,.p c,.p d,.p e] H:=ZG h hk g i j k l
theorem cp{args:List AV}{vs a:List PV}(h:aA P f a v)(b:nE H args=some (vs,H1))(hk:K (.p v) H1)(h1:bG vs a:=by first|exact bG.refl _|simp):ky P false f K args H:=ZY h b hk h1
theorem ep{args:List AV}{vs a:List PV}{bs:List Nat}{ak aJ:List (Nat×Obj)}(h:aA P f a v)(b:oB H args=some (vs,bs))(hf:lF H bs=some (ak,aJ))(hk:L {v:=.p v,ak,aJ})(h1:bG vs a:=by first|exact bG.refl _|simp):ng P f L args H:=ZI h b hf hk h1
theorem ci{args:List AV}{H':Heap}{v:AV}(h:cB P f H args H' v)(hk:K v H'):ky P false f K args H:=.inr ⟨rfl,.inr (.inl ⟨H',v,h,hk⟩)⟩
end calls
attribute [simp] RA aGc WH TH FL N9 aFS aFW Ni aFR zK CW Lc TG aV TY Vg Wg UD U6 T7 UC U9 UR V3 V4 VL UA WR UH Ui VA Ws nE kW oB mG lF mw
 aJY Xl aJW aJX Xj aJV Xk bm LD aJU Um VU V0 US WM Yw Yd aJZ Xi Wo aJ5 Xh Wn Z8 WX abv YI Z0 YH TU Z5 YC ZZ acH Z2 Vk UN UM YF Z4 Z1 aFv Ww aFx Ym aFl Yl T3 aFs Yg aFk aFz aFn Vt Uc Uq Yj aFr aFm YD Yh WV Wu UK Uo WW Wv YE Yi Z9 aFw UL Up UQ U8 Z7 aFu Z6 aFt Vj Vs WY Wx Z3 aFo ZN ZQ ZP ZR
end
section
variable{P:av}{ah:ao->Bool}{q:Cx}
theorem KD{r:eQ}{K a:aY->Prop}(hk:∀e,K e->a e)(h:bg r K):bg r a:=by
 unfold bg at h⊢
 split at h
 ·exact⟨h.1,hk _ h.2⟩
 ·exact h.elim
theorem Vy{o:Oper}{e:Env}{H:Heap}{K a:aY->Prop}(hk:∀e,K e->a e)(h:fE P ah o (ev e) H K):fE P ah o (ev e) H a:=by
 obtain⟨x,b,c⟩:=DK (ah:=ah) o (ev e) H K h;exact c a (hk x b)
theorem Ma{o:Oper}{e:Env}{H:Heap}{K a:aY->Prop}(hk:∀e,K e->a e)(h:kU P ah o e H K):kU P ah o e H a:=by
 unfold kU at h⊢
 repeat' split at h
 all_goals first|exact hk _ h|exact KD hk h|exact⟨h.1,KD hk h.2⟩|exact Vy hk h|exact h.elim
theorem Js{d:Bool}{f:ao}{args:List AV}{H:Heap}{K i:AV->Heap->Prop}(hk:∀v H,K v H->i v H)(h:gO P d f args H K):gO P d f args H i:=by
 rcases h with⟨vs,v,a,b,c⟩|⟨g,⟨vs,H1,v,a,b,c⟩|⟨H',v,a,b⟩|⟨e,a,b,c⟩|⟨ak,v,a,b,c⟩⟩
 ·exact .inl ⟨vs,v,a,b,hk _ _ c⟩
 ·exact .inr ⟨g,.inl ⟨vs,H1,v,a,b,hk _ _ c⟩⟩
 ·exact .inr ⟨g,.inr (.inl ⟨H',v,a,hk _ _ b⟩)⟩
 ·exact .inr ⟨g,.inr (.inr (.inl ⟨e,a,b,hk _ _ c⟩))⟩
 ·exact .inr ⟨g,.inr (.inr (.inr ⟨ak,v,a,b,hk _ _ c⟩))⟩
theorem JO{f:ao}{args:List AV}{H:Heap}{K d:aY->Prop}(hk:∀e,K e->d e)(h:gU P f args H K):gU P f args H d:=by
 rcases h with⟨vs,v,a,b,c⟩|⟨vs,bs,ak,aJ,v,a,b,c,g⟩|⟨e,a,b,c⟩|⟨ak,v,a,b,c⟩
 ·exact .inl ⟨vs,v,a,b,hk _ c⟩
 ·exact .inr (.inl ⟨vs,bs,ak,aJ,v,a,b,c,hk _ g⟩)
 ·exact .inr (.inr (.inl ⟨e,a,b,hk _ c⟩))
 ·exact .inr (.inr (.inr ⟨ak,v,a,b,hk _ c⟩))
theorem Jb{o:Oper}{K b:St->Prop}{s:St}(hk:∀s,K s->b s)(h:dv P ah o K s):dv P ah o b s:=by
 unfold dv at h⊢
 split at h
 ·rename_i f args g i;unfold sx at h⊢
  split at h
  ·exact Js (fun v H a=>hk _ a) h
  ·exact Js (fun v H a=>hk _ a) h
  ·obtain⟨H',v,c,d⟩:=h;exact⟨H',v,c,hk _ d⟩
  ·exact h.elim
 ·exact Ma (fun e a=>hk _ a) h
theorem Jz{o:Oper}{s:St}{K a:aY->Prop}(hk:∀e,K e->a e)(h:dw P ah o s K):dw P ah o s a:=by
 unfold dw at h⊢
 split at h
 ·rename_i f args g i;unfold sd at h⊢
  split at h
  ·exact JO hk h
  ·exact JO hk h
  ·obtain⟨e,b,c,d⟩:=h;exact⟨e,b,c,hk _ d⟩
  ·exact h.elim
 ·exact Ma hk h
theorem wQ{c:Array Oper}:∀(l:List Oper){K a:St->Prop}{s:St},(∀s,K s->a s)->fX P ah c l K s->fX P ah c l a s
 |[],K,a,s,hk,h=>hk s h
 |o::l,K,a,s,hk,h=>by
  simp only[fX]at h⊢
  split at h
  ·exact Jb (fun s hs=>wQ l hk hs) h
  ·split at h
   ·split at h
    ·rename_i b;rw[if_pos b];exact Jb (fun s hs=>wQ l hk hs) h
    ·rename_i b;rw[if_neg b];exact wQ l hk h
   ·exact wQ l hk h
   ·exact h.elim
theorem wN{d:Array Oper}:∀(l:List Oper){i:Nat}{b:List Touch}{K a:St->Prop}{s:St},(∀s,K s->a s)->gl P ah d l i b K s->gl P ah d l i b a s
 |[],i,b,K,a,s,hk,h=>⟨h.1,hk s h.2⟩
 |o::l,i,b,K,a,s,hk,h=>by
  simp only[gl]at h⊢
  split at h
  ·exact Jz (fun e hs=>wN l hk hs) h
  ·split at h
   ·split at h
    ·rename_i c;rw[if_pos c];exact Jz (fun e hs=>wN l hk hs) h
    ·rename_i c;rw[if_neg c];exact wN l hk h
   ·exact wN l hk h
   ·exact h.elim
theorem nQ:∀(c:Code){Q g:bA->St->Prop}{s:St},(∀e s,Q e s->g e s)->dt P ah q c Q s->dt P ah q c g s
 | .skip,Q,g,s,hq,h=>hq _ _ h
 | .label _,Q,g,s,hq,h=>hq _ _ h
 | .exit _,Q,g,s,hq,h=>hq _ _ h
 | .ret,Q,g,s,hq,h=>hq _ _ h
 | .region _ ops draw,Q,g,s,hq,h=>by
  simp only[dt]at h⊢
  split at h
  ·rename_i j;rw[if_pos j];exact wN _ (fun s hs=>hq _ _ hs) h
  ·rename_i j;rw[if_neg j];exact wQ _ (fun s hs=>hq _ _ hs) h
 | .seq a b,Q,g,s,hq,h=>by
  simp only[dt]at h⊢;refine nQ a (fun e s d=>?_) h;cases e with
  |normal=>exact nQ b hq d
  |exit i=>exact hq _ _ d
  |ret=>exact hq _ _ d
 | .cond c a b,Q,g,s,hq,h=>by
  simp only[dt]at h⊢;unfold uT at h⊢
  split at h
  ·split at h
   ·rename_i k;rw[if_pos k];exact nQ a hq h
   ·rename_i k;rw[if_neg k];exact nQ b hq h
  ·exact h.elim
 | .block id b,Q,g,s,hq,h=>by
  simp only[dt]at h⊢;refine nQ b (fun e s d=>?_) h;cases e with
  |normal=>exact hq _ _ d
  |exit i=>
   simp only[ou]at d⊢
   by_cases hi:i=id
   ·simp only[hi,if_true]at d⊢;exact hq _ _ d
   ·simp only[hi,if_false]at d⊢;exact hq _ _ d
  |ret=>exact hq _ _ d
 | .scope b,Q,g,s,hq,h=>nQ b hq h
 | .loop b,Q,g,s,hq,h=>by
  simp only[dt]at h⊢;obtain⟨I,l,m⟩:=h;refine⟨I,l,fun n t hI=>nQ b (fun e s d=>?_) (m n t hI)⟩;cases e with
  |normal=>exact d
  |exit id=>exact hq _ _ d
  |ret=>exact hq _ _ d
 | .rangeFunc f o a b,Q,g,s,hq,h=>by
  simp only[dt]at h⊢;exact⟨h.1,Kf (fun H=>Kj hq) h.2⟩
 | .goto _,_,_,_,_,h=>h.elim
 | .refuse _,_,_,_,_,h=>h.elim
def sC(R:St->Prop)(Q:bA->St->Prop)(e:Tg (R,Q) bA)(s:Tg (R,Q) St):Prop:=match e with
 | .normal=>R s
 |e=>Q e s
theorem Ua{R:St->Prop}{Q:bA->St->Prop}{s:St}:sC R Q .normal s=R s:=(rfl)
theorem VE{R:St->Prop}{Q:bA->St->Prop}{id:Nat}{s:St}:sC R Q (.exit id) s=Q (.exit id) s:=(rfl)
theorem W2{R:St->Prop}{Q:bA->St->Prop}{s:St}:sC R Q .ret s=Q .ret s:=(rfl)
theorem join{a b:Code}{Q:bA->St->Prop}{s:St}(R:St->Prop)(d:fc P ah q a (sC R Q) s)(f:∀s',R s'->fc P ah q b Q s'):fc P ah q (.seq a b) Q s:=by
 rw[bm];refine nQ a (fun e s c=>?_) d;cases e with
 |normal=>exact f s c
 |exit i=>exact c
 |ret=>exact c
theorem RC{α:Type}{N:Nat×Nat->Prop}{f:α->PV}{l:List α}:aV N (l.map (AV.p∘f))=True:=RA
attribute [simp] Ua VE W2 RC
end
section
variable{P:av}{ah:ao->Bool}
def xO(P:av)(a:List ax)(N:Nat)(H':Heap)(v:AV)(e:Tg (a,N,H',v) bA)(s:Tg (a,N,H',v) St):Prop:=uZ P a N H' v e s
theorem VI{a:List ax}{N:Nat}{H':Heap}{v:AV}{s:St}:xO P a N H' v .ret s=∃vs,fH P s a=some vs/\oneOf vs=v/\(H'=s.heap\/(cV N s ⟨[],H'⟩/\aD (aH H') v)):=by simp[xO,uZ]
theorem TT{a:List ax}{N:Nat}{H':Heap}{v:AV}{s:St}:xO P a N H' v .normal s=∃vs,fH P s a=some vs/\oneOf vs=v/\(H'=s.heap\/(cV N s ⟨[],H'⟩/\aD (aH H') v)):=by simp[xO,uZ]
theorem fJ{f:ao}{fn:Func}(ah:ao->Bool)(h:aq P f fn)(a:P.follows .mixedOrders=true){args:List AV}{H H':Heap}{v:AV}(b:args.length<=fn.ntmps)
 (c:fc P ah (fn.ntmps,H.length) (fn.body.getD .skip) (xO P fn.results.toList H.length H' v) ⟨iD 0 args,H⟩):cB P f H args H' v:=
 P5 ah h a b (lZ (Q':=uZ P fn.results.toList H.length H' v) _ (fun _ _ h=>h) c)
theorem aGv{n i:Nat}:sig [] n i=n+i:=by simp[sig]
theorem cn{f:ao}{H H':Heap}{K:AV->Heap->Prop}{v:AV}{args:List PV}(h:cB P f [] (args.map .p) H' v)(hk:K (cK (sig [] H.length) v) (H++H'.map (c7 (sig [] H.length)))):ky P false f K (args.map .p) H:=by
 refine .inr ⟨rfl,.inr (.inr (.inl ⟨dE [] H.length [] H' v,?_,⟨by simp[dE],by simp[dE]⟩,?_⟩))⟩
 ·have b:aV (aH ([]:Heap)) (args.map .p):=by rw[cJ];intro v c;obtain⟨x,_,rfl⟩:=a0.1 c;trivial
  have:=h.frame [] H.length rfl List.nodup_nil (by simp) (by simp) b (by simp);have e:cR (sig [] H.length) (args.map .p)=args.map .p:=by
   clear h b this hk
   induction args with
   |nil=>rfl
   |cons a r d=>simp only[a3,cR,cK,d]
  rwa [e]at this
 ·simpa[dE,bf]using hk
theorem PJ{f:ao}{H H':Heap}{K:AV->Heap->Prop}{v:AV}{a b:PV}(h:cB P f [] [.p a,.p b] H' v)(hk:K (cK (sig [] H.length) v) (H++H'.map (c7 (sig [] H.length)))):ky P false f K [.p a,.p b] H:=cn (args:=[a,b]) h hk
def O7(P:av)(T:ap)(f:Nat):Option (ap×jl):=match kindOf P T,P.underlying T with
 | .agg u,some (.struct _)=>((jr P u)[f]?).map fun F=>(u,kindOf P F)
 |_,_=>none
def AL(P:av)(T:ap)(f:Nat)(x:AV):eQ:=match O7 P T f,x with
 |some (u,k),.p t=>match(cH t)[f]? with
  |some g=>some (aM t=.agg u/\k=aM g,{v:=.p g})
  |none=>none
 |_,_=>none
theorem LS{T:ap}{x:AV}{f:Nat}{K:aY->Prop}:(match kindOf P T,P.underlying T,x with
  | .agg u,some (.struct _),.p t=>aM t=.agg u/\(match(cH t)[f]?,(jr P u)[f]? with
   |some g,some F=>kindOf P F=aM g/\K {v:=.p g}
   |_,_=>False)
  |_,_,_=>False)=bg (AL P T f x) K:=by
 unfold AL O7;cases b:kindOf P T with
 |agg u=>cases c:P.underlying T with
  |none=>simp[bg]
  |some d=>cases d with
   |struct fs=>cases x with
    |p t=>cases hc:(jr P u)[f]?<;>cases a:(cH t)[f]?<;>simp[bg,a,hc,and_assoc]
    |_=>cases hc:(jr P u)[f]?<;>simp[bg,hc]
   |_=>simp[bg]
 |_=>simp[bg]
section fields
variable{dst:Option Tmp}{ty:Nat}{pos:String}{af:Array Edge}{g:Option (Nat×Bool)}{env:Env}{heap:Heap}{L:St->Prop}{K:aY->Prop}{T:ap}{x:an}{f:Nat}
theorem Yk:eh P ah ⟨dst,.field T x f,ty,pos,af,g⟩ L ⟨env,heap⟩ ()=cE (eL dst ⟨env,heap⟩ L) (AL P T f (ev env x)):=LS
theorem YG:dV P ah ⟨dst,.field T x f,ty,pos,af,g⟩ ⟨env,heap⟩ K ()=cE K (AL P T f (ev env x)):=LS
end fields
theorem zJ{σ:Nat->Nat}{α:Type}{f:α->PV}:∀{l:List α},cR σ (l.map (AV.p∘f))=l.map (AV.p∘f)
 |[]=>rfl
 |a::l=>by simp only[a3,cR,zJ (l:=l)];rfl
theorem WI{σ:Nat->Nat}{α β:Type}{f:β->PV}{g:α->β}{l:List α}:cR σ (l.map ((AV.p∘f)∘g))=l.map ((AV.p∘f)∘g):=zJ (f:=f∘g)
theorem aGa{α β:Type}{N:Nat×Nat->Prop}{f:β->PV}{g:α->β}{l:List α}:aV N (l.map ((AV.p∘f)∘g))=True:=RC (f:=f∘g)
attribute [simp] Yk YG WI aGa VI TT aGv cK cR c7 zJ
end
section
variable{P:av}{ah:ao->Bool}
theorem Ml{T:Heap}:∀{h:Heap},iS T h h=True
 |[]=>by simp[iS]
 |o::h=>by simp[iS,NP,Ml (h:=h)]
theorem DI{T:Heap}:∀{h k:Heap},eK T (h++k)=(eK T h/\eK T k)
 |[],k=>by simp[eK]
 |o::h,k=>by simp[eK,DI (h:=h),and_assoc]
theorem aGb{N:Nat×Nat->Prop}{n:Nat}{v:PV}:aV N (a6 n (.p v))=True:=by
 rw[cJ,eq_iff_iff,iff_true];intro x hx;rw[(List.mem_replicate.1 hx).2];trivial
theorem Ya{σ:Nat->Nat}{α:Type}{f:α->PV}{l:List α}:cR σ (l.map fun x=>.p (f x))=l.map fun x=>.p (f x):=zJ (f:=f)
theorem tH{L:ek}{e:Env}{H:Heap}(h:L.env=e)(a:ir H e):∀x,aD (aH H) (aN L.env x):=by rw[h];exact a.get
def ek.bz(L:ek):ek:={L with st:=.busy}
def ek.dn(L:ek)(j:Code):ek:={L with st:=.done,pending:=some j}
def ek.xh(L:ek):ek:={L with st:=.exhausted}
theorem aF5{L:ek}{e:Env}{H:Heap}{j:Code}(h:L.env=e)(a:ir H e):∀x,aD (aH H) (aN (L.dn j).env x):=tH h a
def Stream(P:av)(g:ao)(fi ca:List PV)(d:List (List PV)):Prop:=
 ∀(b k:Nat)(c:Nat->Heap)(H':Heap),k<=d.length->(∀i,i<=k->eK (c i) (c i)/\aD (aH (c i)) (.map b))->
  (∀i a,i<k->d[i]?=some a->iq P b (c i) (a.map .p) (c (i+1)) (.p (.bool true)))->
  (k=d.length/\H'=c k\/∃a,d[k]?=some a/\iq P b (c k) (a.map .p) H' (.p (.bool false)))->
  cB P g (c 0) (fi.map .p++[.map b]++ca.map .p) H' (.p (.aE []))
theorem ZO{b:Nat}{args:List AV}{M:AV->Heap->Prop}{heap:Heap}:Bg P heap M (.map b) args=∃H' v,iq P b heap args H' v/\M v H':=(rfl)
def vm(b:Nat)(L:ek)(N:Nat)(H':Heap)(v:Bool)(e:Tg (b,L,N,H',v) bA)(s:Tg (b,L,N,H',v) St):Prop:=
 match e with
 | .normal=>v=true/\(St.heap s)[b]?=some (.loop L.bz)/\cV N ⟨[],(St.heap s).set b (.loop L)⟩ ⟨[],H'⟩
 | .exit id=>v=false/\(St.heap s)[b]?=some (.loop L.bz)/\cV N ⟨[],(St.heap s).set b (.loop (L.dn (.exit id)))⟩ ⟨[],H'⟩
 | .ret=>v=false/\(St.heap s)[b]?=some (.loop L.bz)/\cV N ⟨[],(St.heap s).set b (.loop (L.dn .ret))⟩ ⟨[],H'⟩
section
variable{b N:Nat}{L:ek}{H':Heap}{v:Bool}{s:St}
theorem VX:vm b L N H' v .normal s=(v=true/\s.heap[b]?=some (.loop L.bz)/\cV N ⟨[],s.heap.set b (.loop L)⟩ ⟨[],H'⟩):=(rfl)
theorem Yc{id:Nat}:vm b L N H' v (.exit id) s=(v=false/\s.heap[b]?=some (.loop L.bz)/\cV N ⟨[],s.heap.set b (.loop (L.dn (.exit id)))⟩ ⟨[],H'⟩):=(rfl)
theorem aF1:vm b L N H' v .ret s=(v=false/\s.heap[b]?=some (.loop L.bz)/\cV N ⟨[],s.heap.set b (.loop (L.dn .ret))⟩ ⟨[],H'⟩):=(rfl)
end
def FM(P:av)(ah:ao->Bool)(q:Cx)(b:Nat)(c:Code)(L:ek)(H':Heap)(v:Bool)(e:Tg (q,b,c,L,H',v) bA)(s:Tg (q,b,c,L,H',v) St):Prop:=
 match e with
 | .normal=>(St.heap s)[b]?=some (.loop L)/\fc P ah q c (vm b L q.2 H' v) ⟨St.env s,(St.heap s).set b (.loop L.bz)⟩
 |_=>False
theorem VY{q:Cx}{b:Nat}{c:Code}{L:ek}{H':Heap}{v:Bool}{s:St}:FM P ah q b c L H' v .normal s=(s.heap[b]?=some (.loop L)/\fc P ah q c (vm b L q.2 H' v) ⟨s.env,s.heap.set b (.loop L.bz)⟩):=(rfl)
theorem vK(ah:ao->Bool)(r:P.follows .mixedOrders=true){b n:Nat}{L:ek}{H H':Heap}{args:List AV}{v:Bool}{j:List Tmp}{a c:Code}{env:Env}
 (d:L=⟨.ready,none,n,j,a,c,env⟩)(o:H[b]?=some (.loop L))(q:args.length=j.length)
 (t:(j.all (fun x=>decide (x<n))&&codeOk fit n a&&codeOk fit n c)=true)
 (u:fc P ah (n,H.length) a (FM P ah (n,H.length) b c L H' v) ⟨rY j args env,H⟩):iq P b H args H' (.p (.bool v)):=by
 refine P6 ah r o (by rw[d];exact q) (by rw[d];exact t) ?_;unfold z7;have e1:L.n=n:=by rw[d]
 have e2:L.assign=a:=by rw[d]
 have e3:L.body=c:=by rw[d]
 have e4:L.params=j:=by rw[d]
 have e5:L.env=env:=by rw[d]
 have k:L.st=.ready:=by rw[d]
 rw[e1,e2,e3,e4,e5];refine lZ (Q:=FM P ah (n,H.length) b c L H' v) _ (fun e s h=>?_) u;cases e with
 |normal=>
  obtain⟨l,m⟩:=h;simp only[zo,l];refine⟨k,lZ (Q:=vm b L H.length H' v) _ (fun e s h=>?_) m⟩;cases e with
  |normal=>
   obtain⟨rfl,f,g⟩:=h;have i:s.heap[b]?=some (.loop L.bz):=f;simp only[ug,i,gN];refine⟨rfl,?_⟩;have:({L.bz with st:=LoopState.ready,pending:=none}:ek)=L:=by subst d;rfl
   simpa[this]using g
  |exit id=>
   obtain⟨rfl,f,g⟩:=h;have i:s.heap[b]?=some (.loop L.bz):=f;simp only[ug,i,gN];exact⟨rfl,g⟩
  |ret=>
   obtain⟨rfl,f,g⟩:=h;have i:s.heap[b]?=some (.loop L.bz):=f;simp only[ug,i,gN];exact⟨rfl,g⟩
 |exit id=>exact h.elim
 |ret=>exact h.elim
theorem rf{f:an}{h:Array Tmp}{a c:Code}{Q:bA->St->Prop}{env:Env}{heap:Heap}{q:Cx}{g:ao}{fi ca:List PV}{n:List (List PV)}(aK:Stream P g fi ca n)(hf:ev env f= .p (.func g fi ca))(hq:q.2<=heap.length)
 (X:ek->Nat->Heap)(k:Nat)(hk:k<=n.length)(u:∀L,X L 0=heap++[.loop L])
 (hx:∀L,L=⟨.ready,none,q.1,h.toList,a,c,env⟩->∀i,i<=k->(X L i)[heap.length]?=some (.loop L)/\ir (X L i) env/\(ir (X L i) env->(∀x,aD (aH (X L i)) (aN L.env x))->eK (X L i) (X L i)))
 (t:∀L,L=⟨.ready,none,q.1,h.toList,a,c,env⟩->∀i x,i<k->n[i]?=some x->iq P heap.length (X L i) (x.map .p) (X L (i+1)) (.p (.bool true)))
 (y:∀L,L=⟨.ready,none,q.1,h.toList,a,c,env⟩->(k=n.length/\Q .normal ⟨env,(X L k).set heap.length (.loop L.xh)⟩)\/
  ∃x j l,n[k]?=some x/\l[heap.length]?=some (.loop (L.dn j))/\iq P heap.length (X L k) (x.map .p) l (.p (.bool false))/\jM Q (some j) ⟨env,l.set heap.length (.loop (L.dn j).xh)⟩):
 fc P ah q (.rangeFunc f h a c) Q ⟨env,heap⟩:=by
 obtain⟨L,b⟩:∃L:ek,L=⟨.ready,none,q.1,h.toList,a,c,env⟩:=⟨_,rfl⟩
 have s:=aK heap.length k (X L);refine⟨hq,?_⟩;show jJ P (ev env f) heap.length (heap++[.loop ⟨.ready,none,q.1,h.toList,a,c,env⟩]) (iR heap.length env Q);rw[hf];simp only[jJ];rw[<-b,<-u L];have r:∀i,i<=k->eK (X L i) (X L i)/\aD (aH (X L i)) (.map heap.length):=by
  intro i hi;obtain⟨m,d,o⟩:=hx L b i hi;have e5:L.env=env:=by rw[b]
  refine⟨o d (by rw[e5];exact d.get),?_⟩;simp only[aD,aH,m];exact⟨_,rfl,by simp[Obj.has]⟩
 rcases y L b with⟨m,d⟩|⟨x,j,l,m,d,o,v⟩
 ·refine⟨_,_,s (X L k) hk r (t L b) (.inl ⟨m,rfl⟩),?_⟩;have w:=(hx L b k (a9 k)).1;simp only[iR,w];refine⟨by rw[b];simp,?_⟩;have:L.pending=none:=by rw[b]
  simp only[this,jM];have e:L.xh={L with st:=.exhausted}:=rfl;rw[this]at e;rw[e]at d;exact d
 ·refine⟨_,_,s l hk r (t L b) (.inr ⟨x,m,o⟩),?_⟩;simp only[iR,d];exact⟨by simp[ek.dn],v⟩
section anS
variable{f:ao}{H0 bW H:Heap}{fK args:List AV}{v0:AV}{K:AV->Heap->Prop}{L:aY->Prop}
theorem Hg(h:cB P f H0 fK bW v0)(bs:List Nat)(e:bs.length=H0.length)(i:bs.Nodup)(g:∀b∈bs,b<H.length)(d:H0.length<=bW.length)(a:aV (aH H0) fK)(j:eK H0 H0)(c:cR (sig bs H.length) fK=args):
 sQ P f args H.length (dE bs H.length H0 bW v0):=by
 have:=h.frame bs H.length e i g d a j.get
 rwa [c]at this
theorem cf(h:cB P f H0 fK bW v0)(bs:List Nat)(hk:K (cK (sig bs H.length) v0) (bf H (bs.zip ((bW.take H0.length).map (c7 (sig bs H.length))))++(bW.drop H0.length).map (c7 (sig bs H.length))))(ak:∀p∈bs.zip (H0.map (c7 (sig bs H.length))),H[p.1]?=some p.2:=by simp[sig])(aJ:∀p∈bs.zip ((bW.take H0.length).map (c7 (sig bs H.length))),p.1<H.length/\p.2≠ .hole:=by simp[sig])
 (e:bs.length=H0.length:=by simp)(i:bs.Nodup:=by simp)(g:∀b∈bs,b<H.length:=by simp)(d:H0.length<=bW.length:=by simp)(a:aV (aH H0) fK:=by simp)(hr:eK H0 H0:=by simp)(c:cR (sig bs H.length) fK=args:=by simp[sig]):ky P false f K args H:=
 .inr ⟨rfl,.inr (.inr (.inl ⟨_,Hg h bs e i g d a hr c,⟨ak,aJ⟩,hk⟩))⟩
theorem ef(h:cB P f H0 fK bW v0)(bs:List Nat)(hk:L {v:=cK (sig bs H.length) v0,ak:=bs.zip (H0.map (c7 (sig bs H.length))),aJ:=bs.zip ((bW.take H0.length).map (c7 (sig bs H.length))),aU:=(bW.drop H0.length).map (c7 (sig bs H.length))})(ak:∀p∈bs.zip (H0.map (c7 (sig bs H.length))),H[p.1]?=some p.2:=by simp[sig])(aJ:∀p∈bs.zip ((bW.take H0.length).map (c7 (sig bs H.length))),p.1<H.length/\p.2≠ .hole:=by simp[sig])
 (e:bs.length=H0.length:=by simp)(i:bs.Nodup:=by simp)(g:∀b∈bs,b<H.length:=by simp)(d:H0.length<=bW.length:=by simp)(a:aV (aH H0) fK:=by simp)(j:eK H0 H0:=by simp)(c:cR (sig bs H.length) fK=args:=by simp[sig]):ng P f L args H:=
 .inr (.inr (.inl ⟨_,Hg h bs e i g d a j c,⟨ak,aJ⟩,hk⟩))
end anS
section bytes
variable{dst:Option Tmp}{ty:Nat}{pos:String}{af:Array Edge}{g:Option (Nat×Bool)}{env:Env}{heap:Heap}{L:St->Prop}{K:aY->Prop}
theorem abw{x:an}{d:Array ap}{b aw aj off len:Nat}{k:AK}{es:List AV}(hx:ev env x= .sl b aw aj off len)(f:heap[b]?=some (.arr k aw aj es))(e:0<len)(h:off+len<=es.length)
 (hk:K {v:=.b7 b aw aj off [],ak:=[(b,.arr k aw aj es)]}):dV P ah ⟨dst,.call {callee:=.builtin .unsafeSliceData,args:=#[x],argTypes:=d},ty,pos,af,g⟩ ⟨env,heap⟩ K ():=by
 show(match ev env x with
   | .p .aW=>K {v:=.p .dJ}
   | .sl b aw aj off len=>(match heap[b]? with
    |some (.arr k c a es)=>aw=c/\aj=a/\((k.gr=true/\es=[]/\K {v:=.p .dJ,ak:=[(b,.arr k c a es)]})\/(0<len/\off+len<=es.length/\K {v:=.b7 b aw aj off [],ak:=[(b,.arr k c a es)]}))
    |_=>False)
   |_=>False)
 rw[hx];simp only[f];exact⟨trivial,trivial,.inr ⟨e,h,hk⟩⟩
theorem adY{x y:an}{a:Array ap}{b aw:Nat}{m:Int}{es:List AV}{l:List Nat}(hx:ev env x= .b7 b aw 1 0 [])(o:ev env y= .p (.int .i64 m))(i:heap[b]?=some (.arr .bytes aw 1 es))(c:0<m)(k:m.toNat<=es.length)(d:m<=9223372036854775807)
 (f:a.size=2)(e:ptrTo P (a.getD 0 0)=some Gl.u8)(n:P.cellsOf Gl.u8=1)(j:bytesOf (es.take m.toNat)=some l)
 (hk:K {v:=.p (.str l),ak:=[(b,.arr .bytes aw 1 es)],aJ:=[(b,.dead)]}):dV P ah ⟨dst,.call {callee:=.builtin .unsafeString,args:=#[x,y],argTypes:=a},ty,pos,af,g⟩ ⟨env,heap⟩ K ():=by
 have h:fE P ah ⟨dst,.call {callee:=.builtin .unsafeString,args:=#[x,y],argTypes:=a},ty,pos,af,g⟩ (ev env) heap K:=by
  unfold fE;simp only[a3,List.map_nil,hx,o,i];exact⟨trivial,trivial,trivial,trivial,c,k,d,f,e,n,by rw[j];exact hk⟩
 exact h
end bytes
theorem rf2{f:an}{h:Array Tmp}{a c:Code}{Q:bA->St->Prop}{env:Env}{heap:Heap}{q:Cx}{g:ao}{fi ca:List PV}{b:List (List PV)}(aK:Stream P g fi ca b)(hf:ev env f= .p (.func g fi ca))(hq:q.2<=heap.length)
 (X F:ek->Nat->Heap)(okB:Nat->Bool)(j:Code)(k:Nat)(hk:k<=b.length)(u:∀i,i<k->okB i=true)(r:k=b.length\/(k<b.length/\okB k=false))(m:∀L,X L 0=heap++[.loop L])
 (hx:∀L,L=⟨.ready,none,q.1,h.toList,a,c,env⟩->∀i,i<=k->(X L i)[heap.length]?=some (.loop L)/\ir (X L i) env/\(ir (X L i) env->(∀x,aD (aH (X L i)) (aN L.env x))->eK (X L i) (X L i)))
 (l:∀L,L=⟨.ready,none,q.1,h.toList,a,c,env⟩->∀i x,i<=k->b[i]?=some x->iq P heap.length (X L i) (x.map .p) (if okB i=true then X L (i+1)else F L (i+1)) (.p (.bool (okB i))))
 (n:∀L,(F L (k+1))[heap.length]?=some (.loop (L.dn j)))
 (s:k=b.length->∀L,Q .normal ⟨env,(X L k).set heap.length (.loop L.xh)⟩)
 (v:k<b.length->∀L,jM Q (some j) ⟨env,(F L (k+1)).set heap.length (.loop (L.dn j).xh)⟩):
 fc P ah q (.rangeFunc f h a c) Q ⟨env,heap⟩:=by
 refine rf aK hf hq X k hk m hx (fun L e i x hi t=>?_) (fun L e=>?_)
 ·have:=l L e i x (by omega) t;rw[u i hi]at this;exact this
 ·rcases r with d|⟨d,o⟩
  ·exact .inl ⟨d,s d L⟩
  ·right;refine⟨b[k],j,F L (k+1),a4 d,n L,?_,v d L⟩;have:=l L e k b[k] (a9 _) (a4 d);rw[o]at this;exact this
attribute [simp] Ya aGb Ml DI VX Yc aF1 VY ZO rY
end
section
variable{P:av}{ah:ao->Bool}{w:aT}{ad ai:Nat->Prop}{β:Bd}{H:Heap}
def nr(K:Nat->Bool)(H:Heap):Heap:=H.mapIdx fun i o=>if K i then .dead else o
theorem C8{K:Nat->Bool}{b:Nat}:(nr K H)[b]?=(H[b]?).map fun o=>if K b then .dead else o:=by simp[nr]
theorem lC{K:Nat->Bool}{b:Nat}{o:Obj}(h:(nr K H)[b]?=some o):∃a,H[b]?=some a/\((K b=true/\o=.dead)\/(K b=false/\o=a)):=by
 rw[C8,Option.map_eq_some_iff]at h;obtain⟨a,d,c⟩:=h;refine⟨a,d,?_⟩;cases hk:K b<;>simp[hk]at c
 ·exact .inr ⟨rfl,c.symm⟩
 ·exact .inl ⟨rfl,c.symm⟩
theorem DC{K:Nat->Bool}{x:Nat×Nat}(h:aH H x):aH (nr K H) x:=by
 obtain⟨o,a,b⟩:=h;refine⟨if K x.1 then .dead else o,by rw[C8,a];rfl,?_⟩
 split
 ·trivial
 ·exact b
theorem CJ{K:Nat->Bool}:cj β H β (nr K H):=by
 refine⟨fun b _ h=>⟨?_,rfl⟩,fun b _ h=>⟨?_,rfl⟩,fun b _ h=>⟨?_,rfl⟩,fun b aw aj k f _ h=>⟨k,f,?_,a9 _,Iff.rfl,fun _=>⟨rfl,rfl⟩⟩,fun b _ h=>⟨?_,rfl⟩⟩
 ·obtain⟨fz,t,h⟩:=h;obtain⟨d,c,a⟩:=lC h;rcases a with⟨_,a⟩|⟨_,rfl⟩
  ·cases a
  ·exact⟨fz,t,c⟩
 ·obtain⟨s,q,h⟩:=h;obtain⟨d,c,a⟩:=lC h;rcases a with⟨_,a⟩|⟨_,rfl⟩
  ·cases a
  ·exact⟨s,q,c⟩
 ·obtain⟨g,h,e⟩:=h;obtain⟨d,c,a⟩:=lC h;rcases a with⟨_,rfl⟩|⟨_,rfl⟩
  ·exact e.elim
  ·exact⟨_,c,e⟩
 ·obtain⟨d,c,a⟩:=lC h;rcases a with⟨_,a⟩|⟨_,rfl⟩
  ·cases a
  ·exact c
 ·obtain⟨L,h⟩:=h;obtain⟨d,c,a⟩:=lC h;rcases a with⟨_,a⟩|⟨_,rfl⟩
  ·cases a
  ·exact⟨L,c⟩
def BN(K:Nat->Bool)(ad:Nat->Prop)(β:Bd)(H:Heap)(k:Nat):Prop:=ad k\/∃(b:Nat)(o:Obj),H[b]?=some o/\o.live/\K b=true/\β.al b=k
theorem bU.kill(K:Nat->Bool)(a:bU P w ad β H ai):bU P w ad β (nr K H) ai:=by
 refine⟨fun b o e=>?_,fun b b' o o' e n f g m l=>?_,fun b o e=>?_,a.bV,a.ey,a.ie⟩
 ·obtain⟨i,c,d⟩:=lC e;rcases d with⟨_,rfl⟩|⟨_,rfl⟩
  ·trivial
  ·exact fk.carry (fun _ x=>x) (fun _ _=>rfl) CJ (a.refs b o c) (fun _=>⟨rfl,rfl,rfl⟩) (fun _ _ h=>h) (a.cC b o c)
 ·obtain⟨i,c,d⟩:=lC e;obtain⟨p,j,k⟩:=lC n;rcases d with⟨_,rfl⟩|⟨_,rfl⟩
  ·exact f.elim
  rcases k with⟨_,rfl⟩|⟨_,rfl⟩
  ·exact g.elim
  exact a.inj b b' _ _ c j f g m l
 ·obtain⟨i,c,d⟩:=lC e;rcases d with⟨_,rfl⟩|⟨_,rfl⟩
  ·trivial
  ·exact Obj.xc (fun _ h=>DC h) (a.refs b o c)
theorem bU.aDv(K:Nat->Bool)(a:bU P w ad β H ai):bU P w (BN K ad β H) β (nr K H) ai:=by
 have hk:=a.kill K;have hi:∀k,ad k->BN K ad β H k:=fun k h=>.inl h;refine⟨fun b o c=>?_,fun b b' o o' c r d p q n=>hk.inj b b' o o' c r d p (fun h=>q (hi _ h)) n,hk.refs,fun k h=>?_,a.ey,⟨fun g=>aC.mono hi (fun _ _=>rfl) _ _ (a.ie.val g),fun g cs h=>⟨hi _ (a.ie.raw g cs h).1,(a.ie.raw g cs h).2⟩⟩⟩
 ·have f:=c;obtain⟨t,j,l⟩:=lC c;rcases l with⟨_,rfl⟩|⟨s,rfl⟩
  ·trivial
  ·refine fk.carry hi (fun _ _=>rfl) (cj.refl β _) (hk.refs b o f) (fun _=>⟨rfl,rfl,rfl⟩) (fun d fz h=>?_) (hk.cC b o f);cases fz with
   |true=>exact hi _ h
   |false=>
    refine⟨?_,h.2⟩;rintro(m|⟨e,i,g1,g2,g3,g4⟩)
    ·exact h.1 m
    ·have:=a.inj e b i o g1 j g2 d (by rw[g4];exact h.1) g4;rw[this,s]at g3;cases g3
 ·rcases h with h|⟨e,i,g1,g2,g3,rfl⟩
  ·exact a.bV k h
  ·exact a.mU g1 g2
theorem fk.held{b:Nat}{o:Obj}(h:fk P w ad β H ai b o)(a:o.live):ad (β.al b)\/¬ai (β.al b):=by
 by_cases hi:ad (β.al b)
 ·exact .inl hi
 ·exact .inr (h.mut a hi)
theorem cB.pure{f:ao}{args:List AV}{H':Heap}{v:AV}{n:Nat}{p:PV}(K:Nat->Bool)(h:cB P f H args H' v)(C:eC (nr (fun i=>!K i) H') n v=some p)(B:∀b L,K b=true->H[b]?≠some (.loop L)):
 cB P f H args (nr K H') (.p p):=by
 refine⟨h.1,fun w ad ai β t E z F=>(h.2 w ad ai β t E z F).mono ?_⟩;rintro e w' ⟨j,aI,aF,rfl,d,G,r⟩;have q:=d.rel;have A:=q.kill (fun i=>!K i);have I:az P w' aF aI (nr (fun i=>!K i) H') v j:=az.mono (fun _ x=>x) (fun _ _=>rfl) CJ _ _ r G;have D:=zp A n v p C (aD.mono (fun _ h=>DC h) v r) j I;refine⟨j,aI,BN K aF aI H',rfl,⟨fun k hk=>.inl (d.bV k hk),?_,d.ext,?_,q.aDv K,fun x hx=>DC (d.fh x hx),?_⟩,?_,trivial⟩
 ·rintro k (hk|⟨b,o,g1,g2,g3,rfl⟩)
  ·exact d.fresh k hk
  ·rcases(q.cC b o g1).held g2 with h|h
   ·exact d.fresh _ h
   ·exact .inr h
 ·have aK:=d.step;have hk:=CJ (K:=K) (β:=aI) (H:=H');refine⟨fun b a c=>?_,fun b a c=>?_,fun b a c=>?_,fun b aw aj k es a c=>?_,fun b a c=>?_⟩
  ·exact aK.box b a (hk.box b (d.fh _ a) c).1
  ·exact aK.it b a (hk.it b (d.fh _ a) c).1
  ·exact aK.map b a (hk.map b (d.fh _ a) c).1
  ·have u:eS H' b aw aj k es:=by
    obtain⟨M,l,g⟩:=lC c;rcases g with⟨_,g⟩|⟨_,rfl⟩
    ·cases g
    ·exact l
   exact aK.arr b aw aj k es a u
  ·exact aK.loop b a (hk.loop b (d.fh _ a) c).1
 ·rintro b ⟨L,c⟩;obtain⟨s,y⟩:=d.loop b ⟨L,c⟩;have m:K b=false:=by
   cases m:K b with
   |false=>rfl
   |true=>exact(B b L m c).elim
  exact⟨s,by rw[C8,y];simp[m]⟩
 ·show aC P w' _ p j;refine aC.mono ?_ (fun _ _=>rfl) _ _ D;rintro k (hk|⟨b,o,g1,g2,rfl⟩)
  ·exact .inl hk
  ·obtain⟨M,l,g⟩:=lC g1;rcases g with⟨_,rfl⟩|⟨J,rfl⟩
   ·exact g2.elim
   ·exact .inr ⟨b,o,l,g2,by simpa using J,rfl⟩
end
section
variable{P:av}{w:aT}{ad ai:Nat->Prop}{β:Bd}
theorem tZ{t t':AV}{r:Heap}:cj β (.box false t::r) β (.box false t'::r):=by
 refine⟨fun b _ h=>⟨?_,rfl⟩,fun b _ h=>⟨?_,rfl⟩,fun b _ h=>⟨?_,rfl⟩,fun b aw aj k c _ h=>⟨k,c,?_,a9 _,Iff.rfl,fun _=>⟨rfl,rfl⟩⟩,fun b _ h=>⟨?_,rfl⟩⟩
 ·cases b with
  |zero=>exact⟨false,t,rfl⟩
  |succ b=>exact h
 ·obtain⟨s,q,h⟩:=h;cases b with
  |zero=>simp at h
  |succ b=>exact⟨s,q,h⟩
 ·obtain⟨d,h,a⟩:=h;cases b with
  |zero=>simp at h;subst h;exact a.elim
  |succ b=>exact⟨d,h,a⟩
 ·cases b with
  |zero=>simp[eS]at h
  |succ b=>exact h
 ·obtain⟨L,h⟩:=h;cases b with
  |zero=>simp at h
  |succ b=>exact⟨L,h⟩
theorem rK{t t':AV}{r:Heap}{x:Nat×Nat}(h:aH (.box false t::r) x):aH (.box false t'::r) x:=by
 obtain⟨o,a,c⟩:=h;obtain⟨b,v⟩:=x;cases b with
 |zero=>exact⟨_,rfl,trivial⟩
 |succ b=>exact⟨o,a,c⟩
theorem bU.swap{t d:AV}{r:Heap}(c:bU P w ad β (.box false t::r) ai)(hc:∀cs,bp P w ad β (.box false t::r) t cs->bp P w ad β (.box false t::r) d cs)(l:∀T,ji T (aa d)=true)
 (g:∀n,aD n t->aD n d):bU P w ad β (.box false d::r) ai:=by
 refine⟨fun b o a=>?_,fun b b' o o' a s f p q m=>?_,fun b o a=>?_,c.bV,c.ey,c.ie⟩
 ·cases b with
  |zero=>
   simp at a;subst a;obtain⟨cs,T,i,j,k,y,z⟩:=c.cC 0 _ rfl;have u:=c.refs 0 _ rfl;exact⟨cs,T,i,bp.mono (fun _ x=>x) (fun _ _=>rfl) tZ _ _ (g _ u) (hc _ j),k,(fun h=>absurd h (by simp)),l T⟩
  |succ b=>exact fk.carry (fun _ x=>x) (fun _ _=>rfl) tZ (c.refs (b+1) o a) (fun _=>⟨rfl,rfl,rfl⟩) (fun _ _ h=>h) (c.cC (b+1) o a)
 ·have key:∀{b:Nat}{o:Obj},(Obj.box false d::r)[b]?=some o->o.live->∃e,(Obj.box false t::r)[b]?=some e/\e.live:=by
   intro b o a f;cases b with
   |zero=>exact⟨_,rfl,trivial⟩
   |succ b=>exact⟨o,a,f⟩
  obtain⟨e,k1,k2⟩:=key a f;obtain⟨v,k3,k4⟩:=key s p;exact c.inj b b' e v k1 k3 k2 k4 q m
 ·cases b with
  |zero=>
   simp at a;subst a;exact aD.mono (fun _ h=>rK h) _ (g _ (c.refs 0 _ rfl))
  |succ b=>exact Obj.xc (fun _ h=>rK h) (c.refs (b+1) o a)
theorem Mu{H:Heap}{u:ap}{n:Nat}(f:dO P u=some [n]){t:AV}{cs:List ay}:bp P w ad β H (.st u [t]) cs↔bp P w ad β H t cs/\cs.length=n:=by
 simp only[bp,f,bl];constructor
 ·rintro⟨l,g,rfl,a,rfl⟩;simp only[bM]at a;obtain⟨c,d,rfl,b,e,rfl⟩:=a;simpa using⟨b,e⟩
 ·rintro⟨a,b⟩;exact⟨[n],[cs],rfl,by simp only[bM];exact⟨cs,[],rfl,a,b,rfl⟩,by simp⟩
theorem cB.wrap{f:ao}{u:ap}{n:Nat}{t i:AV}{r j:Heap}{args:List AV}{v:AV}(q:dO P u=some [n])(a:∀T,ji T (.agg u)=true)(F:∀T,ji T (aa t)=true)(G:∀(w:aT)(ad:Nat->Prop)(β:Bd)(H:Heap)(cs:List ay),bp P w ad β H i cs->cs.length=n)
 (h:cB P f (.box false t::r) (.ptr 0 []::args) (.box false i::j) v):cB P f (.box false (.st u [t])::r) (.ptr 0 [(u,0)]::args) (.box false (.st u [i])::j) v:=by
 refine⟨h.1,fun w ad ai β O J D y=>?_⟩;have K:bU P w ad β (.box false t::r) ai:=J.swap (fun cs h=>((Mu q).1 h).1) F (fun n h=>by simpa[aD,aV]using h);obtain⟨x,xs,rfl,h1,C⟩:=D;have E:bB P w ad β (.box false t::r) (.ptr 0 []::args) (x::xs):=by
  refine⟨x,xs,rfl,?_,bB.mono (fun _ x=>x) (fun _ _=>rfl) tZ _ _ y.2 C⟩;obtain⟨q1,al,off,o,s,N,q4⟩:=h1;refine⟨q1,al,off,0,s,rfl,fun _=>?_⟩;have I:o=0:=by simpa[gd,q]using N.symm
  have:=q4 (.inl ⟨false,_,rfl⟩);rw[I]at this;exact this
 refine(h.2 w ad ai β (x::xs) K E ⟨⟨_,rfl,trivial⟩,aV.mono (fun _ h=>rK h) _ y.2⟩).mono ?_;rintro e w' ⟨B,aI,aF,rfl,g,M,z⟩;refine⟨B,aI,aF,rfl,⟨g.bV,g.fresh,g.ext,?_,?_,fun x hx=>rK (g.fh x (rK hx)),?_⟩,az.mono (fun _ x=>x) (fun _ _=>rfl) tZ _ _ z M,aD.mono (fun _ h=>rK h) _ z⟩
 ·have aK:=g.step;have m:=tZ (β:=β) (t:=.st u [t]) (t':=t) (r:=r);have p:=tZ (β:=aI) (t:=i) (t':=.st u [i]) (r:=j);have d:∀x,aH (.box false (.st u [t])::r) x->aH (.box false t::r) x:=fun x h=>rK h;have l:∀x,aH (.box false t::r) x->aH (.box false i::j) x:=g.fh;refine⟨fun b a c=>?_,fun b a c=>?_,fun b a c=>?_,fun b aw aj k es a c=>?_,fun b a c=>?_⟩
  ·obtain⟨k1,k2⟩:=p.box b (l _ (d _ a)) c;obtain⟨k3,k4⟩:=aK.box b (d _ a) k1;exact⟨(m.box b a k3).1,k4⟩
  ·obtain⟨k1,k2⟩:=p.it b (l _ (d _ a)) c;obtain⟨k3,k4⟩:=aK.it b (d _ a) k1;exact⟨(m.it b a k3).1,k4⟩
  ·obtain⟨k1,k2⟩:=p.map b (l _ (d _ a)) c;obtain⟨k3,k4⟩:=aK.map b (d _ a) k1;exact⟨(m.map b a k3).1,k4⟩
  ·have k1:eS (.box false i::j) b aw aj k es:=by
    cases b with
    |zero=>simp[eS]at c
    |succ b=>exact c
   obtain⟨k0,gD,q1,s⟩:=aK.arr b aw aj k es (d _ a) k1;refine⟨k0,gD,?_,s⟩;cases b with
   |zero=>simp[eS]at q1
   |succ b=>exact q1
  ·obtain⟨k1,k2⟩:=p.loop b (l _ (d _ a)) c;obtain⟨k3,k4⟩:=aK.loop b (d _ a) k1;exact⟨(m.loop b a k3).1,k4⟩
 ·exact g.rel.swap (fun cs h=>(Mu q).2 ⟨h,G _ _ _ _ _ h⟩) a (fun n h=>by simpa[aD,aV]using h)
 ·rintro b ⟨L,c⟩;have k1:gM (.box false t::r) b:=by
   cases b with
   |zero=>simp at c
   |succ b=>exact⟨L,c⟩
  obtain⟨A,k2⟩:=g.loop b k1;cases b with
  |zero=>simp at k2
  |succ b=>exact⟨A,k2⟩
end
section
variable{P:av}{w:aT}{ad ai:Nat->Prop}{β:Bd}
def uY(n:Nat):Heap:=a6 n .dead
theorem nS{n b:Nat}{o:Obj}(h:(uY n)[b]?=some o):o=.dead:=by
 simp only[uY,a5]at h
 split at h
 ·injection h with h;exact h.symm
 ·cases h
theorem cB.cut{f:ao}{H:Heap}{args:List AV}{n:Nat}{p:PV}(h:cB P f H args (uY n) (.p p)):cB P f H args (uY H.length) (.p p):=by
 refine⟨h.1,fun w ad ai β i v r y=>(h.2 w ad ai β i v r y).mono ?_⟩;rintro e w' ⟨j,aI,aF,rfl,a,z,A⟩;have no:∀{m b:Nat}{o:Obj},(uY m)[b]?=some o->o.live->False:=fun h d=>by rw[nS h]at d;exact d
 refine⟨j,aI,aF,rfl,⟨a.bV,a.fresh,a.ext,⟨?_,?_,?_,?_,?_⟩,⟨fun b o c=>by rw[nS c];trivial,fun b b' o o' c _ d=>(no c d).elim,fun b o c=>by rw[nS c];trivial,a.rel.bV,a.rel.ey,a.rel.ie⟩,?_,?_⟩,z,trivial⟩
 ·rintro b _ ⟨fz,t,h⟩;cases nS h
 ·rintro b _ ⟨fz,t,h⟩;cases nS h
 ·rintro b _ ⟨B,h,g⟩;rw[nS h]at g;exact g.elim
 ·intro b aw aj k es _ h;cases nS h
 ·rintro b _ ⟨L,h⟩;cases nS h
 ·rintro x ⟨o,l,_⟩;have u:=(a1.1 l).1;exact⟨.dead,by rw[uY,a5,if_pos u],trivial⟩
 ·intro b s;obtain⟨L,q⟩:=a.loop b s;cases nS q
theorem cB.c8{f:ao}{H H':Heap}{args:List AV}{v v':PV}(h:cB P f H args H' (.p v))(k:Wk v v'):cB P f H args H' (.p v'):=by
 refine⟨h.1,fun w ad ai β a i d j=>(h.2 w ad ai β a i d j).mono ?_⟩;rintro e w' ⟨b,aI,aF,rfl,g,c,l⟩;exact⟨b,aI,aF,rfl,g,aC.c8 _ _ _ k c,trivial⟩
end
section
variable{P:av}
def A9(P:av)(a:List ax)(N:Nat)(Q:AV->Heap->Prop)(e:Tg (a,N,Q) bA)(s:Tg (a,N,Q) St):Prop:=
 (match e with
  | .exit _=>False
  |_=>True)/\∃vs,fH P s a=some vs/\∃H',Q (oneOf vs) H'/\(H'=St.heap s\/(cV N s ⟨[],H'⟩/\aD (aH H') (oneOf vs)))
theorem WO{a:List ax}{N:Nat}{Q:AV->Heap->Prop}{s:St}:A9 P a N Q .ret s=∃vs,fH P s a=some vs/\∃H',Q (oneOf vs) H'/\(H'=s.heap\/(cV N s ⟨[],H'⟩/\aD (aH H') (oneOf vs))):=by simp[A9]
theorem UF{a:List ax}{N:Nat}{Q:AV->Heap->Prop}{s:St}:A9 P a N Q .normal s=∃vs,fH P s a=some vs/\∃H',Q (oneOf vs) H'/\(H'=s.heap\/(cV N s ⟨[],H'⟩/\aD (aH H') (oneOf vs))):=by simp[A9]
attribute [simp] WO UF
end
section
variable{P:av}
theorem aA.heap{f:ao}{vs j:List PV}{v:PV}{H H1:Heap}{args:List AV}(h:aA P f vs v)(g:Enters P f)(o:nE H args=some (j,H1))(l:bG j vs:=by first|exact bG.refl _|simp):cB P f H args H1 (.p v):=by
 refine⟨g,fun w ad ai β x u r q=>?_⟩;obtain⟨b,a,i⟩:=CX o u r q;rcases h.c8 l (Wk.refl _)with m|n
 ·intro cs;obtain⟨e,w',k,⟨c,aF,he,m1,m2,m3,m4,m5,m6,m7⟩,aK,s,t⟩:=m.2 w b _ a.rel.bV a.rel.ie i cs;subst he;exact⟨_,w',k,⟨c,β,aF,rfl,a.trans (a.rel.later m1 m2 m3 m4 m5 m6),by simpa[az]using m7,by simp[aD]⟩,aK,s,t⟩
 ·obtain⟨c,d,_⟩:=n w b _ i;rw[g]at d;cases d
end
section
variable{P:av}{ah:ao->Bool}
theorem R7{H J:Heap}{x:Nat×Nat}(h:aH H x):aH (H++J) x:=by
 obtain⟨o,a,b⟩:=h;exact⟨o,by rw[List.getElem?_append_left (a1.1 a).1];exact a,b⟩
theorem eK.up{S T:Heap}(a:∀x,aH S x->aH T x):∀{h:Heap},eK S h->eK T h
 |[],_=>trivial
 |_::_,h=>⟨Obj.xc a h.1,eK.up a h.2⟩
theorem eK.app{H J:Heap}(h:eK H H)(a:eK (H++J) J):eK (H++J) (H++J):=by
 rw[DI];exact⟨h.up fun _=>R7,a⟩
end
end Go.ag
