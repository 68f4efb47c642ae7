import Derived.Test.YtenbmieafgdjaaaGreatDoorRThD
/- Parts of a proof. -/
set_option linter.unusedSimpArgs false
set_option linter.unusedVariables false
set_option linter.unusedSectionVars false
open Bool renaming cond_eq_ite->ab, and_eq_true->ac, false_eq_true->am
open Go renaming Operand->ao, FuncId->ap, TypeId->av, Program->ax, ResultVar->ay, Value->aT, World->a0
open List renaming mem_map->a1, getElem?_eq_some_iff->a3, map_cons->a4, getElem?_eq_getElem->a5, getElem?_replicate->a6, replicate->a7, rec->a8
open Nat renaming ble->a9, le_refl->bb, pow_succ->be, beq->bi, mod_lt->bk
open Option renaming ite_none_right_eq_some->bl
open Option.some renaming injEq->bo
open Prod.mk renaming injEq->bv
namespace Go.aj
set_option linter.unusedSectionVars false
variable[Gl]
inductive RT where
 |lf
 |vl (v:AV)
 |nd (a b c d:RT)
inductive Q4 where|a|b|c|d
def q4(n:Nat):Q4:=match n with
 |0=>.a
 |1=>.b
 |2=>.c
 |_=>.d
def pathOf:Nat->Nat->List Q4
 |0,_=>[]
 |k+1,n=>q4 (n% 4)::pathOf k (n/4)
noncomputable def wj(p:List Q4):RT->AV:=
 a8 (motive:=fun _=>RT->AV) (fun R=>RT.rec (motive:=fun _=>AV) (.p .undef) (fun v=>v) (fun _ _ _ _ _ _ _ _=>.p .undef) R)
  (fun q _ e R=>RT.rec (motive:=fun _=>AV) (.p .undef) (fun _=>.p .undef) (fun a b c d _ _ _ _=>Q4.rec (motive:=fun _=>AV) (e a) (e b) (e c) (e d) q) R) p
noncomputable def EM(v:AV)(p:List Q4):RT->RT:=
 a8 (motive:=fun _=>RT->RT) (fun _=>.vl v)
  (fun q _ e R=>RT.rec (motive:=fun _=>RT)
   (Q4.rec (motive:=fun _=>RT) (.nd (e .lf) .lf .lf .lf) (.nd .lf (e .lf) .lf .lf) (.nd .lf .lf (e .lf) .lf) (.nd .lf .lf .lf (e .lf)) q)
   (fun _=>Q4.rec (motive:=fun _=>RT) (.nd (e .lf) .lf .lf .lf) (.nd .lf (e .lf) .lf .lf) (.nd .lf .lf (e .lf) .lf) (.nd .lf .lf .lf (e .lf)) q)
   (fun a b c d _ _ _ _=>Q4.rec (motive:=fun _=>RT) (.nd (e a) b c d) (.nd a (e b) c d) (.nd a b (e c) d) (.nd a b c (e d)) q) R) p
noncomputable def jQ(k:Nat)(R:RT)(n:Nat):AV:=bif a9 (n+1) (4^k)then wj (pathOf k n) R else .p .undef
noncomputable def wT(k:Nat)(R:RT)(n:Nat)(v:AV):RT:=EM v (pathOf k n) R
theorem KE:∀(p:List Q4),wj p .lf=.p .undef
 |[]=>rfl
 |_::_=>rfl
theorem I6(v:AV):∀(p:List Q4)(R:RT),wj p (EM v p R)=v
 |[],_=>rfl
 |x::p,R=>by
  cases R<;>cases x<;>exact I6 v p _
theorem H7(v:AV):∀(p q:List Q4)(R:RT),p.length=q.length->p≠q->wj p (EM v q R)=wj p R
 |[],[],R,_,h=>(h rfl).elim
 |[],_::_,R,h,_=>by simp at h
 |_::_,[],R,h,_=>by simp at h
 |x::p,y::q,R,h,f=>by
  have g:=fun R(f:p≠q)=>H7 v p q R (by simpa using h) f;have i:=KE p;cases R with
  |nd a b c d=>
   cases x<;>cases y<;>first
    |rfl
    |exact g _ (fun e=>f (by rw[e]))
  |_=>
   cases x<;>cases y<;>first
    |exact i
    |exact(g _ (fun e=>f (by rw[e]))).trans i
theorem A5:∀k n,(pathOf k n).length=k
 |0,_=>rfl
 |k+1,n=>by simp[pathOf,A5 k]
theorem aEC{m n:Nat}(a:m<4)(b:n<4)(h:q4 m=q4 n):m=n:=by
 have hc:∀n,n<4->n=0\/n=1\/n=2\/n=3:=by omega
 rcases hc m a with rfl|rfl|rfl|rfl<;>rcases hc n b with rfl|rfl|rfl|rfl<;>simp[q4]at h<;>rfl
theorem I8:∀(k m n:Nat),m<4^k->n<4^k->pathOf k m=pathOf k n->m=n
 |0,m,n,a,b,_=>by simp at a b;omega
 |k+1,m,n,a,b,h=>by
  simp only[pathOf,List.cons.injEq]at h;have c:=aEC (bk _ (by omega)) (bk _ (by omega)) h.1;have d:=I8 k (m/4) (n/4) (by rw[be]at a;omega) (by rw[be]at b;omega) h.2;omega
theorem Mi(k n:Nat):jQ k .lf n=.p .undef:=by
 simp[jQ,KE]
theorem X1{a b:Nat}(h:a<=b):a9 a b=true:=Nat.ble_eq_true_of_le h
theorem MM{a b:Nat}(h:¬a<=b):a9 a b=false:=by
 cases c:a9 a b
 ·rfl
 ·exact(h (cU c)).elim
theorem BC(k:Nat)(R:RT)(d x:Nat)(v:AV)(h:d<4^k):jQ k (wT k R d v) x=if x=d then v else jQ k R x:=by
 unfold jQ wT
 by_cases hx:x+1<=4^k
 ·simp only[X1 hx,cond_true]
  by_cases a:x=d
  ·subst a;rw[I6,if_pos rfl]
  ·rw[if_neg a,H7 _ _ _ _ (by rw[A5,A5]) (fun e=>a (I8 k x d (by omega) h e))]
 ·have:x≠d:=by omega
  simp only[MM hx,cond_false,this,if_false]
def Rel(k:Nat)(e:Env)(R:RT):Prop:=∀x,aM e x=jQ k R x
noncomputable def kP(k:Nat)(d:Option Nat)(v:AV)(R:RT):Option RT:=
 match d with
 |none=>some R
 |some d=>bif a9 (d+1) (4^k)then some (wT k R d v)else none
theorem vh{k:Nat}{d:Option Nat}{v:AV}{R a:RT}{e:Env}(h:kP k d v R=some a)(b:Rel k e R):Rel k (put d v e) a:=by
 unfold kP at h
 split at h
 ·simp only[bo]at h;subst h;exact b
 ·simp only[ab,bl,bo]at h;obtain⟨c,rfl⟩:=h;intro x;rw[BC _ _ _ _ _ (by have:=cU c;omega)];simp only[put,aM]
  split
  ·rfl
  ·exact b x
noncomputable def jI(k:Nat)(R:RT):ao->AV
 | .tmp t=>jQ k R t
 | .const v=>.p (ofConst v)
 | .global g=>.p (Gl.g g)
 | .func f=>.p (.func f [] [])
theorem y6{k:Nat}{R:RT}{e:Env}(a:Rel k e R):jI k R=ev e:=by
 funext o;cases o<;>simp[jI,ev,a _]
def pM(H:Heap)(e:aS):Heap:=
 match e.aJ,e.aQ with
 |[],[]=>H
 |_,_=>bm H e.aJ++e.aQ
theorem KW(H:Heap)(e:aS):pM H e=bm H e.aJ++e.aQ:=by
 unfold pM;split
 ·rename_i a b;simp[a,b,bm]
 ·rfl
structure jE where
 cP:ap->List AV->Heap->Option (AV×Heap)
 cD:ap->List AV->Heap->Option aS
 cY:Nat->Heap->List AV->Option (Heap×AV)
 cI:AV->Nat->Heap->Option Heap
 zL:Nat->List AV->Heap->Option aS
structure jS(P:ax)(B:jE):Prop where
 cP:∀f args H v H',B.cP f args H=some (v,H')->∀K:AV->Heap->Prop,K v H'->gP P false f args H K
 cD:∀f args H e,B.cD f args H=some e->∀K:aS->Prop,K e->gV P f args H K
 cY:∀b H args H' v,B.cY b H args=some (H',v)->ir P b H args H' v
 cI:∀it b H H',B.cI it b H=some H'->∀K:Heap->Prop,K H'->jF P it b H K
 zL:∀b args H e,B.zL b args H=some e->tA P b args H.length e/\pL H e
section
variable(P:ax)(ag:ap->Bool)(B:jE)(k:Nat)
noncomputable def wR(o:Oper)(R:RT)(H:Heap):Option (RT×Heap):=
 match o.op with
 | .call {callee:=.value f,args,.. }=>match(match jI k R f with
  | .p (.func g fi ca)=>B.cP g (fi.map .p++args.toList.map (jI k R)++ca.map .p) H
  | .func g fi ca=>B.cP g (fi++args.toList.map (jI k R)++ca) H
  | .map b=>match B.cY b H (args.toList.map (jI k R))with
   |some (H',v)=>some (v,H')
   |none=>none
  |_=>none)with
  |some (v,H')=>match kP k o.dst v R with
   |some a=>some (a,H')
   |none=>none
  |none=>none
 |_=>match zX P ag o (jI k R) H with
  |some e=>match kP k o.dst e.v R with
   |some a=>some (a,pM H e)
   |none=>none
  |none=>none
noncomputable def y0(a:Array Oper)(j:Nat)(R:RT):AV:=
 match(a[j]?).bind (·.dst)with
 |some d=>jQ k R d
 |none=>.p (.aE [])
noncomputable def mY(b:Array Oper):List Oper->RT->Heap->Option (RT×Heap)
 |[],R,H=>some (R,H)
 |o::r,R,H=>match o.guard with
  |none=>match wR P ag B k o R H with
   |some (a,H')=>mY b r a H'
   |none=>none
  |some (j,want)=>match y0 k b j R with
   | .p (.bool t)=>match t,want with
    |true,true|false,false=>match wR P ag B k o R H with
     |some (a,H')=>mY b r a H'
     |none=>none
    |_,_=>match kP k o.dst (.p (.aE [])) R with
     |some a=>mY b r a H
     |none=>none
   | .p (.aE [])=>match kP k o.dst (.p (.aE [])) R with
    |some a=>mY b r a H
    |none=>none
   |_=>none
noncomputable def wD(o:Oper)(R:RT)(H:Heap):Option aS:=
 match o.op with
 | .call {callee:=.value f,args,.. }=>match jI k R f with
  | .p (.func g fi ca)=>B.cD g (fi.map .p++args.toList.map (jI k R)++ca.map .p) H
  | .func g fi ca=>B.cD g (fi++args.toList.map (jI k R)++ca) H
  | .map b=>B.zL b (args.toList.map (jI k R)) H
  |_=>none
 |_=>zX P ag o (jI k R) H
noncomputable def mN(b:Array Oper):List Oper->Nat->List Touch->RT->Heap->Option (RT×Heap)
 |[],_,acc,R,H=>bif ke b acc then some (R,H)else none
 |o::r,i,acc,R,H=>match o.guard with
  |none=>match wD P ag B k o R H with
   |some e=>match kP k o.dst e.v R with
    |some a=>mN b r (i+1) (gQ i H.length e acc) a (pM H e)
    |none=>none
   |none=>none
  |some (j,want)=>match y0 k b j R with
   | .p (.bool t)=>match t,want with
    |true,true|false,false=>match wD P ag B k o R H with
     |some e=>match kP k o.dst e.v R with
      |some a=>mN b r (i+1) (gQ i H.length e acc) a (pM H e)
      |none=>none
     |none=>none
    |_,_=>match kP k o.dst (.p (.aE [])) R with
     |some a=>mN b r (i+1) acc a H
     |none=>none
   | .p (.aE [])=>match kP k o.dst (.p (.aE [])) R with
    |some a=>mN b r (i+1) acc a H
    |none=>none
   |_=>none
abbrev Out:=Option (bp×RT×Heap)
def v7(f:RT->Heap->Out):Nat->RT->Heap->Out
 |0,_,_=>none
 |n+1,R,H=>match f R H with
  |some (.normal,a,H')=>v7 f n a H'
  |r=>r
noncomputable def tX(k:Nat)(R:RT):Nat->Env
 |0=>[]
 |n+1=>(n,jQ k R n)::tX k R n
def WV:Nat:=100000
def zn(j:Option Code):Option bp:=
 match j with
 |none=>some .normal
 |some (.exit id)=>some (.exit id)
 |some .ret=>some .ret
 |_=>none
def EH(b:Nat)(R:RT)(H:Heap):Out:=
 match H[b]? with
 |some (.loop L)=>match L.st with
  | .busy=>none
  |_=>match zn L.pending with
   |some e=>some (e,R,H.set b (.loop {L with st:=.exhausted}))
   |none=>none
 |_=>none
noncomputable def gU(q:Cx):Code->RT->Heap->Out
 | .skip,R,H| .label _,R,H=>some (.normal,R,H)
 | .region _ ops draw,R,H=>bif draw then match mN P ag B k ops ops.toList 0 [] R H with
   |some (d,H')=>some (.normal,d,H')
   |none=>none
  else match mY P ag B k ops ops.toList R H with
   |some (d,H')=>some (.normal,d,H')
   |none=>none
 | .seq a b,R,H=>match gU q a R H with
  |some (.normal,d,H')=>gU q b d H'
  |r=>r
 | .cond c a b,R,H=>match jI k R c with
  | .p (.bool t)=>match t with
   |true=>gU q a R H
   |false=>gU q b R H
  |_=>none
 | .block id b,R,H=>match gU q b R H with
  |some (.exit i,d,H')=>bif bi i id then some (.normal,d,H')else some (.exit i,d,H')
  |r=>r
 | .scope b,R,H=>gU q b R H
 | .loop b,R,H=>v7 (fun R H=>gU q b R H) WV R H
 | .rangeFunc f e a b,R,H=>bif a9 q.2 H.length&&a9 q.1 (4^k)then match B.cI (jI k R f) H.length (H++[.loop ⟨.ready,none,q.1,e.toList,a,b,tX k R (4^k)⟩])with
   |some H'=>EH H.length R H'
   |none=>none
  else none
 | .exit id,R,H=>some (.exit id,R,H)
 | .ret,R,H=>some (.ret,R,H)
 |_,_,_=>none
end
section
variable{P:ax}{ag:ap->Bool}{B:jE}{k:Nat}
theorem J5(e:aS)(dst:Option Tmp)(env:Env)(H:Heap):e.app dst ⟨env,H⟩=⟨put dst e.v env,pM H e⟩:=by
 simp[aS.app,KW]
theorem aC4(b:jS P B){o:Oper}{R i:RT}{H H':Heap}{env:Env}(h:wR P ag B k o R H=some (i,H'))(g:Rel k env R):
 ∃j,Rel k j i/\∀K:St->Prop,K ⟨j,H'⟩->jw P ag false o K ⟨env,H⟩:=by
 unfold wR at h;unfold jw;rw[y6 g]at h
 split at h
 ·rename_i f args n c
  split at h
  case h_2=>simp at h
  rename_i v l hc
  split at h
  case h_2=>simp at h
  rename_i m d;simp only[bo,bv]at h;obtain⟨rfl,rfl⟩:=h;refine⟨_,vh d g,fun K a=>?_⟩;simp only[c]
  split at hc
  ·rename_i hf;simp only[hf];exact b.cP _ _ _ _ _ hc _ a
  ·rename_i hf;simp only[hf];exact b.cP _ _ _ _ _ hc _ a
  ·rename_i hf
   split at hc
   ·rename_i l s r;simp only[bo,bv]at hc;obtain⟨rfl,rfl⟩:=hc;simp only[hf];exact⟨_,_,b.cY _ _ _ _ _ r,a⟩
   ·simp at hc
  ·simp at hc
 ·rename_i q
  split at h
  case h_2=>simp at h
  rename_i e p
  split at h
  case h_2=>simp at h
  rename_i m d;simp only[bo,bv]at h;obtain⟨rfl,rfl⟩:=h;refine⟨_,vh d g,fun K a=>?_⟩
  split
  ·rename_i f args n c;exact(q _ _ _ c).elim
  ·exact NP p (by rw[J5];exact a)
theorem J6{a:Array Oper}{j:Nat}{R:RT}{env:Env}(b:Rel k env R):y0 k a j R=guardOf a j env:=by
 unfold y0 guardOf;split
 ·rename_i h;simp only[h];exact(b _).symm
 ·rename_i h;simp only[h]
theorem CL(f:jS P B){c:Array Oper}:∀{l:List Oper}{R a:RT}{H H':Heap}{env:Env},mY P ag B k c l R H=some (a,H')->Rel k env R->
 ∃b,Rel k b a/\∀K:St->Prop,K ⟨b,H'⟩->gR P ag false c l K ⟨env,H⟩
 |[],R,a,H,H',env,h,d=>by
  simp only[mY,bo,bv]at h;obtain⟨rfl,rfl⟩:=h;exact⟨env,d,fun K g=>g⟩
 |o::l,R,a,H,H',env,h,d=>by
  have run:(match wR P ag B k o R H with
    |some (a,H')=>mY P ag B k c l a H'
    |none=>none)=some (a,H')->∃b,Rel k b a/\∀K:St->Prop,K ⟨b,H'⟩->jw P ag false o (gR P ag false c l K) ⟨env,H⟩:=by
   intro h
   split at h
   case h_2=>simp at h
   rename_i n H1 e;obtain⟨w,q,a2⟩:=aC4 f e d;obtain⟨u,r,s⟩:=CL f h q;exact⟨u,r,fun K g=>a2 _ (s K g)⟩
  have skip:(match kP k o.dst (.p (.aE [])) R with
    |some a=>mY P ag B k c l a H
    |none=>none)=some (a,H')->∃b,Rel k b a/\∀K:St->Prop,K ⟨b,H'⟩->gR P ag false c l K ⟨put o.dst (.p (.aE [])) env,H⟩:=by
   intro h
   split at h
   case h_2=>simp at h
   rename_i n e;exact CL f h (vh e d)
  simp only[mY]at h;simp only[gR]
  split at h
  ·rename_i i;simp only[i];exact run h
  ·rename_i j v i;simp only[i];rw[J6 d]at h
   split at h
   ·rename_i t m;simp only[m];cases t<;>cases v
    ·simpa using run h
    ·simpa using skip h
    ·simpa using skip h
    ·simpa using run h
   ·rename_i m;simp only[m];exact skip h
   ·simp at h
theorem Zq(b:jS P B){o:Oper}{R:RT}{H:Heap}{e:aS}{env:Env}(h:wD P ag B k o R H=some e)(l:Rel k env R)(K:aS->Prop)(a:K e):jh P ag o ⟨env,H⟩ K:=by
 unfold wD at h;unfold jh;rw[y6 l]at h
 split at h
 ·rename_i f args d c;simp only[c]
  split at h
  ·rename_i hf;simp only[hf];exact b.cD _ _ _ _ h _ a
  ·rename_i hf;simp only[hf];exact b.cD _ _ _ _ h _ a
  ·rename_i hf;simp only[hf];obtain⟨g,i⟩:=b.zL _ _ _ _ h;exact⟨e,g,i,a⟩
  ·simp at h
 ·rename_i j
  split
  ·rename_i f args d c;exact(j _ _ _ c).elim
  ·exact NP h a
theorem Ce(m:jS P B){f:Array Oper}:∀{l:List Oper}{i:Nat}{b:List Touch}{R a:RT}{H H':Heap}{env:Env},mN P ag B k f l i b R H=some (a,H')->Rel k env R->
 ∃c,Rel k c a/\∀K:St->Prop,K ⟨c,H'⟩->ga P ag f l i b K ⟨env,H⟩
 |[],i,b,R,a,H,H',env,h,d=>by
  simp only[mN,ab,bl,bo,bv]at h;obtain⟨g,rfl,rfl⟩:=h;exact⟨env,d,fun K n=>⟨g,n⟩⟩
 |o::l,i,b,R,a,H,H',env,h,d=>by
  have run:(match wD P ag B k o R H with
    |some e=>match kP k o.dst e.v R with
     |some a=>mN P ag B k f l (i+1) (gQ i H.length e b) a (pM H e)
     |none=>none
    |none=>none)=some (a,H')->∃c,Rel k c a/\∀K:St->Prop,K ⟨c,H'⟩->jh P ag o ⟨env,H⟩ (fun e=>ga P ag f l (i+1) (gQ i H.length e b) K (e.app o.dst ⟨env,H⟩)):=by
   intro h
   split at h
   case h_2=>simp at h
   rename_i e y
   split at h
   case h_2=>simp at h
   rename_i s g;obtain⟨x,u,w⟩:=Ce m h (vh g d);exact⟨x,u,fun K n=>Zq m y d _ (by rw[J5];exact w K n)⟩
  have skip:(match kP k o.dst (.p (.aE [])) R with
    |some a=>mN P ag B k f l (i+1) b a H
    |none=>none)=some (a,H')->∃c,Rel k c a/\∀K:St->Prop,K ⟨c,H'⟩->ga P ag f l (i+1) b K ⟨put o.dst (.p (.aE [])) env,H⟩:=by
   intro h
   split at h
   case h_2=>simp at h
   rename_i s g;exact Ce m h (vh g d)
  simp only[mN]at h;simp only[ga]
  split at h
  ·rename_i q;simp only[q];exact run h
  ·rename_i j z q;simp only[q];rw[J6 d]at h
   split at h
   ·rename_i t r;simp only[r];cases t<;>cases z
    ·simpa using run h
    ·simpa using skip h
    ·simpa using skip h
    ·simpa using run h
   ·rename_i r;simp only[r];exact skip h
   ·simp at h
theorem K2(R:RT):∀(n:Nat),∀x,aM (tX k R n) x=if x<n then jQ k R x else .p .undef
 |0,x=>by simp[tX,aM]
 |n+1,x=>by
  simp only[tX,aM,K2 R n]
  by_cases h:x=n
  ·subst h;simp
  ·simp only[h,if_false]
   by_cases a:x<n
   ·simp[a,Nat.lt_succ_of_lt a]
   ·have:¬x<n+1:=by omega
    simp[a,this]
theorem Xe(k:Nat)(R:RT)(n:Nat)(h:4^k<=n):jQ k R n=.p .undef:=by
 unfold jQ;rw[MM (by omega)];rfl
theorem Zt{R:RT}{env:Env}(a:Rel k env R):∀x,aM (tX k R (4^k)) x=aM env x:=by
 intro x;rw[K2,a]
 split
 ·rfl
 ·rw[Xe k R x (by omega)]
theorem W0{j:Option Code}{e:bp}(h:zn j=some e)(Q:bp->St->Prop)(s:St)(hq:Q e s):kq Q j s:=by
 unfold zn at h;unfold kq
 split at h<;>simp at h<;>subst h<;>exact hq
theorem Xt{b:Nat}{R a:RT}{H H':Heap}{e:bp}{env:Env}(h:EH b R H=some (e,a,H')):a=R/\∀Q:bp->St->Prop,Q e ⟨env,H'⟩->iQ b env Q H:=by
 unfold EH at h
 split at h
 case h_2=>simp at h
 rename_i L c
 have go:(match zn L.pending with
   |some e=>some (e,R,H.set b (.loop {L with st:=.exhausted}))
   |none=>none)=some (e,a,H')->L.st≠.busy->a=R/\∀Q:bp->St->Prop,Q e ⟨env,H'⟩->iQ b env Q H:=by
  intro h aB
  split at h
  case h_2=>simp at h
  rename_i e' d;simp only[bo,bv]at h;obtain⟨rfl,rfl,rfl⟩:=h;exact⟨rfl,fun Q hq=>by unfold iQ;simp only[c];exact⟨aB,W0 d Q _ hq⟩⟩
 split at h
 ·simp at h
 ·rename_i aB;exact go h aB
theorem Vp{q:Cx}{b:Code}{Q:bp->St->Prop}{s s':St}(f:∀c:bp->St->Prop,c .normal s'->b7 P ag q b c s)(d:b7 P ag q (.loop b) Q s'):b7 P ag q (.loop b) Q s:=by
 simp only[b7]at d⊢;obtain⟨I,⟨a,t0,hf,hI⟩,g⟩:=d;refine⟨fun n t=>I n t\/(n=a+1/\t=s),⟨a+1,s,.inl rfl,.inr ⟨rfl,rfl⟩⟩,?_⟩;rintro n t (h|⟨rfl,rfl⟩)
 ·obtain⟨e,u,k1,k2⟩:=nt b t _ (g n t h);refine k2 _ ?_;cases e with
  |normal=>
   obtain⟨m,i,g1,g2,g3⟩:=k1;exact⟨m,i,g1,g2,.inl g3⟩
  |exit id=>exact k1
  |ret=>exact k1
 ·exact f _ ⟨a,t0,Nat.lt_succ_self _,hf,.inl hI⟩
theorem Vo{q:Cx}{b:Code}{Q:bp->St->Prop}{s s':St}{e:bp}(f:e≠.normal)(d:∀a:bp->St->Prop,a e s'->b7 P ag q b a s)(c:Q e s'):b7 P ag q (.loop b) Q s:=by
 simp only[b7];refine⟨fun n t=>n=0/\t=s,⟨0,s,.inl rfl,rfl,rfl⟩,?_⟩;rintro n t ⟨rfl,rfl⟩;refine d _ ?_;cases e with
 |normal=>exact(f rfl).elim
 |exit id=>exact c
 |ret=>exact c
theorem Lo{q:Cx}{b:Code}{f:RT->Heap->Out}(hf:∀{R a:RT}{H H':Heap}{e:bp}{env:Env},f R H=some (e,a,H')->Rel k env R->∃c,Rel k c a/\∀Q:bp->St->Prop,Q e ⟨c,H'⟩->b7 P ag q b Q ⟨env,H⟩):
 ∀(n:Nat){R a:RT}{H H':Heap}{e:bp}{env:Env},v7 f n R H=some (e,a,H')->Rel k env R->∃c,Rel k c a/\∀Q:bp->St->Prop,Q e ⟨c,H'⟩->b7 P ag q (.loop b) Q ⟨env,H⟩
 |0,R,a,H,H',e,env,h,g=>by simp[v7]at h
 |n+1,R,a,H,H',e,env,h,g=>by
  simp only[v7]at h
  split at h
  ·rename_i r H1 o;obtain⟨i,d,a2⟩:=hf o g;obtain⟨m,j,l⟩:=Lo hf n h d;exact⟨m,j,fun Q hq=>Vp a2 (l Q hq)⟩
  ·rename_i p;obtain⟨i,d,a2⟩:=hf h g;refine⟨i,d,fun Q hq=>Vo ?_ a2 hq⟩;rintro rfl;exact p _ _ h
theorem lh(m:jS P B){q:Cx}:∀{c:Code}{R l:RT}{H H':Heap}{e:bp}{env:Env},gU P ag B k q c R H=some (e,l,H')->Rel k env R->
 ∃r,Rel k r l/\∀Q:bp->St->Prop,Q e ⟨r,H'⟩->b7 P ag q c Q ⟨env,H⟩
 | .skip,R,l,H,H',e,env,h,d| .label _,R,l,H,H',e,env,h,d| .exit _,R,l,H,H',e,env,h,d| .ret,R,l,H,H',e,env,h,d=>by
  simp only[gU,bo,bv]at h;obtain⟨rfl,rfl,rfl⟩:=h;exact⟨env,d,fun Q hq=>hq⟩
 | .region id ops draw,R,l,H,H',e,env,h,d=>by
  simp only[gU]at h;cases draw
  ·simp only[cond_false]at h
   split at h
   case h_2=>simp at h
   rename_i o H1 n;simp only[bo,bv]at h;obtain⟨rfl,rfl,rfl⟩:=h;obtain⟨j,g,a2⟩:=CL m n d;exact⟨j,g,fun Q hq=>by simp only[b7];exact a2 _ hq⟩
  ·simp only[cond_true]at h
   split at h
   case h_2=>simp at h
   rename_i o H1 n;simp only[bo,bv]at h;obtain⟨rfl,rfl,rfl⟩:=h;obtain⟨j,g,a2⟩:=Ce m n d;exact⟨j,g,fun Q hq=>by simp only[b7,if_true];exact a2 _ hq⟩
 | .seq a b,R,l,H,H',e,env,h,d=>by
  simp only[gU]at h
  split at h
  ·rename_i o H1 n;obtain⟨j,g,a2⟩:=lh m n d;obtain⟨w,u,v⟩:=lh m h g;exact⟨w,u,fun Q hq=>by simp only[b7];exact a2 _ (v Q hq)⟩
  ·rename_i p;obtain⟨j,g,a2⟩:=lh m h d;refine⟨j,g,fun Q hq=>by
    simp only[b7];refine a2 _ ?_;cases e with
    |normal=>exact(p _ _ h).elim
    |exit id=>exact hq
    |ret=>exact hq⟩
 | .cond c a b,R,l,H,H',e,env,h,d=>by
  simp only[gU,y6 d]at h
  split at h
  case h_2=>simp at h
  rename_i t s;cases t
  ·obtain⟨j,g,a2⟩:=lh m h d;exact⟨j,g,fun Q hq=>by simp only[b7,s];exact a2 Q hq⟩
  ·obtain⟨j,g,a2⟩:=lh m h d;exact⟨j,g,fun Q hq=>by simp only[b7,s,if_true];exact a2 Q hq⟩
 | .block id b,R,l,H,H',e,env,h,d=>by
  simp only[gU]at h
  split at h
  ·rename_i i o H1 n;obtain⟨j,g,a2⟩:=lh m n d;cases hi:bi i id
   ·simp only[hi,cond_false,bo,bv]at h;obtain⟨rfl,rfl,rfl⟩:=h;refine⟨j,g,fun Q hq=>by
     simp only[b7];refine a2 _ ?_;have:i≠id:=fun e=>by subst e;simp[Nat.beq_refl]at hi
     simp only[this,if_false];exact hq⟩
   ·simp only[hi,cond_true,bo,bv]at h;obtain⟨rfl,rfl,rfl⟩:=h;refine⟨j,g,fun Q hq=>by
     simp only[b7];refine a2 _ ?_;simp only[dj hi,if_true];exact hq⟩
  ·rename_i p;obtain⟨j,g,a2⟩:=lh m h d;refine⟨j,g,fun Q hq=>by
    simp only[b7];refine a2 _ ?_;cases e with
    |normal=>exact hq
    |exit id=>exact(p _ _ _ h).elim
    |ret=>exact hq⟩
 | .scope b,R,l,H,H',e,env,h,d=>by
  simp only[gU]at h;obtain⟨j,g,a2⟩:=lh m h d;exact⟨j,g,fun Q hq=>by simp only[b7];exact a2 Q hq⟩
 | .loop b,R,l,H,H',e,env,h,d=>by
  simp only[gU]at h;exact Lo (fun h d=>lh m h d) _ h d
 | .rangeFunc f z a b,R,l,H,H',e,env,h,d=>by
  simp only[gU,ab,bl,ac]at h;obtain⟨⟨n,y⟩,h⟩:=h
  split at h
  case h_2=>simp at h
  rename_i H1 hI;obtain⟨rfl,x⟩:=Xt (env:=env) h;refine⟨env,d,fun Q hq=>?_⟩;simp only[b7];rw[y6 d]at hI;exact⟨cU n,_,Zt d,m.cI _ _ _ _ hI _ (x Q hq)⟩
 | .goto _,_,_,_,_,_,_,h,_=>by simp[gU]at h
 | .refuse _,_,_,_,_,_,_,h,_=>by simp[gU]at h
end
def rP(n:Nat):Nat:=
 match a9 n 16,a9 n 64,a9 n 256,a9 n 1024 with
 |true,_,_,_=>2
 |_,true,_,_=>3
 |_,_,true,_=>4
 |_,_,_,true=>5
 |_,_,_,_=>6
noncomputable def vY(k:Nat):Nat->List AV->RT
 |_,[]=>.lf
 |i,v::r=>wT k (vY k (i+1) r) i v
theorem LB(k:Nat):∀(l:List AV)(i:Nat),i+l.length<=4^k->Rel k (iD i l) (vY k i l)
 |[],i,_=>fun x=>by simp[iD,vY,aM,Mi]
 |v::r,i,h=>fun x=>by
  simp only[List.length_cons]at h;rw[vY,BC _ _ _ _ _ (by omega)];simp only[iD,aM]
  split
  ·rfl
  ·exact LB k r (i+1) (by omega) x
noncomputable def wE(k:Nat):Env->Option RT
 |[]=>some .lf
 |(x,v)::r=>match wE k r with
  |some R=>bif a9 (x+1) (4^k)then some (wT k R x v)else none
  |none=>none
theorem K1(k:Nat):∀{e:Env}{R:RT},wE k e=some R->Rel k e R
 |[],R,h=>by
  simp only[wE,bo]at h;subst h;intro x;simp[aM,Mi]
 |(y,v)::r,R,h=>by
  simp only[wE]at h
  split at h
  case h_2=>simp at h
  rename_i c a;simp only[ab,bl,bo]at h;obtain⟨b,rfl⟩:=h;intro x;rw[BC _ _ _ _ _ (by have:=cU b;omega)];simp only[aM]
  split
  ·rfl
  ·exact K1 k a x
noncomputable def z8(P:ax)(k:Nat)(R:RT)(H:Heap):List ay->Option (List AV)
 |[]=>some []
 |r::rs=>match(match r with
  | .tmp t=>some (jQ k R t)
  | .cell a T=>match jQ k R a with
   | .ptr b path=>match H[b]? with
    |some (.box _ t)=>match eM t path with
     |some v=>bif sE (kindOf P T) (aa v)then some v else none
     |none=>none
    |_=>none
   |_=>none),z8 P k R H rs with
  |some v,some vs=>some (v::vs)
  |_,_=>none
theorem Mj{P:ax}{k:Nat}{R:RT}{H:Heap}{env:Env}(d:Rel k env R):∀{e:List ay}{vs:List AV},z8 P k R H e=some vs->fE P ⟨env,H⟩ e=some vs
 |[],vs,h=>h
 |r::e,vs,h=>by
  simp only[z8]at h
  split at h
  case h_2=>simp at h
  rename_i v o c f;simp only[bo]at h;subst h;have g:pD P ⟨env,H⟩ r=some v:=by
   cases r with
   |tmp t=>simp only[pD];rw[d];exact c
   |cell a T=>
    simp only[pD];dsimp only at c;rw[<-d]at c
    split at c
    case h_2=>simp at c
    rename_i b n j
    split at c
    case h_2=>simp at c
    rename_i fz t l
    split at c
    case h_2=>simp at c
    rename_i u m;simp only[ab,bl,bo]at c;obtain⟨i,rfl⟩:=c;rw[j];simp only[l,m,(iE i).1,if_true]
  simp only[fE,g,Mj d f]
section
variable(P:ax)(ag:ap->Bool)
noncomputable def zu(B:jE)(fn:Func)(args:List AV)(N:Nat)(H:Heap):Option (AV×Heap):=
 bif a9 args.length fn.ntmps&&a9 fn.ntmps (4^rP fn.ntmps)then
  match gU P ag B (rP fn.ntmps) (fn.ntmps,N) (fn.body.getD .skip) (vY (rP fn.ntmps) 0 args) H with
  |some (.exit _,_,_)=>none
  |some (_,R,H')=>match z8 P (rP fn.ntmps) R H' fn.results.toList with
   |some vs=>some (oneOf vs,H')
   |none=>none
  |none=>none
 else none
structure mj where
 rY:ap->Option Func
 zQ:ap->List PV->Option PV
 zR:ap->List AV->Heap->Option (AV×Heap)
 jO:ap->ap->Nat
 tZ:ap->List AV->Heap->Option (List (Nat×Obj)×PV)
noncomputable def oi(pl:mj)(B:ap->jE)(f:ap)(vs:List PV):Option PV:=
 match pl.zQ f vs with
 |some v=>some v
 |none=>match pl.rY f with
  |some fn=>match zu P ag (B f) fn (vs.map .p) 0 []with
   |some (v,H)=>eh H 9 v
   |none=>none
  |none=>none
noncomputable def oh(pl:mj)(B:ap->jE)(f:ap)(args:List AV)(H:Heap):Option (AV×Heap):=
 match pl.zR f args H with
 |some r=>some r
 |none=>match pl.rY f with
  |some fn=>zu P ag (B f) fn args H.length H
  |none=>none
noncomputable def yX(B:jE)(b:Nat)(H:Heap)(args:List AV):Option (Heap×AV):=
 match H[b]? with
 |some (.loop L)=>bif bi args.length L.params.length&&(L.params.all (fun x=>decide (x<L.n))&&codeOk fit L.n L.assign&&codeOk fit L.n L.body)then
  match wE (rP L.n) (qU L.params args L.env)with
  |some R=>match gU P ag B (rP L.n) (L.n,H.length) L.assign R H with
   |some (.normal,f,H1)=>match H1[b]? with
    |some (.loop c)=>match c.st with
     | .ready=>match gU P ag B (rP L.n) (L.n,H.length) L.body f (H1.set b (.loop {c with st:=.busy}))with
      |some (e,_,a)=>match a[b]? with
       |some (.loop d)=>some (a.set b (.loop {d with st:=if(gO e).isNone then .ready else .done,pending:=gO e}),.p (.bool (gO e).isNone))
       |_=>none
      |none=>none
     |_=>none
    |_=>none
   |_=>none
  |none=>none
  else none
 |_=>none
noncomputable def D7(pl:mj)(B:ap->jE)(it:AV)(b:Nat)(H:Heap):Option Heap:=
 match it with
 | .p (.func g fi ca)=>match oh P ag pl B g (fi.map .p++[.map b]++ca.map .p) H with
  |some (_,H')=>some H'
  |none=>none
 | .func g fi ca=>match oh P ag pl B g (fi++[.map b]++ca) H with
  |some (_,H')=>some H'
  |none=>none
 |_=>none
noncomputable def DP(pl:mj)(B:ap->jE)(c f:ap)(args:List AV)(H:Heap):Option (AV×Heap):=
 match pl.tZ f args H with
 |some (_,v)=>some (.p v,H)
 |none=>match pl.jO c f with
 |0=>match ef args with
  |some vs=>match oi P ag pl B f vs with
   |some v=>some (.p v,H)
   |none=>none
  |none=>oh P ag pl B f args H
 |1=>oh P ag pl B f args H
 |3=>match vV (oh P ag pl B f) args H with
  |some e=>some (e.v,pM H e)
  |none=>none
 |_=>match mZ H args with
  |some (vs,H1)=>match oi P ag pl B f vs with
   |some v=>some (.p v,H1)
   |none=>none
  |none=>none
noncomputable def DO(pl:mj)(B:ap->jE)(c f:ap)(args:List AV)(H:Heap):Option aS:=
 match pl.tZ f args H with
 |some (ak,v)=>some {v:=.p v,ak}
 |none=>match pl.jO c f with
 |3=>vV (oh P ag pl B f) args H
 |_=>match ef args with
 |some vs=>match oi P ag pl B f vs with
  |some v=>some {v:=.p v}
  |none=>none
 |none=>match nU H args with
  |some (vs,bs)=>match lj H bs with
   |some (ak,aJ)=>match oi P ag pl B f vs with
    |some v=>some {v:=.p v,ak,aJ}
    |none=>none
   |none=>none
  |none=>vV (oh P ag pl B f) args H
def s9:jE:=⟨fun _ _ _=>none,fun _ _ _=>none,fun _ _ _=>none,fun _ _ _=>none,fun _ _ _=>none⟩
noncomputable def jG(pl:mj):Nat->ap->jE
 |0,_=>s9
 |n+1,c=>⟨DP P ag pl (jG pl n) c,DO P ag pl (jG pl n) c,yX P ag (jG pl n c),D7 P ag pl (jG pl n),CG (yX P ag (jG pl n c))⟩
end
structure mJ(P:ax)(pl:mj):Prop where
 mix:P.follows .mixedOrders=true
 rY:∀f fn,pl.rY f=some fn->an P f fn
 zQ:∀f vs v,pl.zQ f vs=some v->aw P f vs v
 zR:∀f args H v H',pl.zR f args H=some (v,H')->c7 P f H args H' v
 tZ:∀f args H ak v,pl.tZ f args H=some (ak,v)->Dv P f args ak v/\∀p∈ak,H[p.1]?=some p.2
section
variable{P:ax}{ag:ap->Bool}{B1:jE}{B:ap->jE}{pl:mj}
theorem KR(f:jS P B1){fn:Func}{args:List AV}{N:Nat}{H H':Heap}{v:AV}(h:zu P ag B1 fn args N H=some (v,H')):
 args.length<=fn.ntmps/\∃e a vs,(match e with
  |bp.exit _=>False
  |_=>True)/\fE P ⟨a,H'⟩ fn.results.toList=some vs/\oneOf vs=v/\∀Q:bp->St->Prop,Q e ⟨a,H'⟩->b7 P ag (fn.ntmps,N) (fn.body.getD .skip) Q ⟨iD 0 args,H⟩:=by
 unfold zu at h;simp only[ab,bl,ac]at h;obtain⟨⟨b,c⟩,h⟩:=h;have b:=cU b;have c:=cU c;refine⟨b,?_⟩
 split at h
 ·simp at h
 ·rename_i e R k g hc
  split at h
  case h_2=>simp at h
  rename_i vs j;simp only[bo,bv]at h;obtain⟨rfl,rfl⟩:=h;obtain⟨a,d,a2⟩:=lh f hc (LB _ args 0 (by omega));refine⟨e,a,vs,?_,Mj d j,rfl,a2⟩;cases e with
  |exit i=>exact g i rfl
  |_=>trivial
 ·simp at h
theorem vp(a:mJ P pl)(j:∀c,jS P (B c)){f:ap}{vs:List PV}{v:PV}(h:oi P ag pl B f vs=some v):aw P f vs v:=by
 unfold oi at h
 split at h
 ·rename_i v' hk;simp only[bo]at h;subst h;exact a.zQ _ _ _ hk
 ·split at h
  case h_2=>simp at h
  rename_i fn hf
  split at h
  case h_2=>simp at h
  rename_i v' H' k;obtain⟨b,e,m,l,d,g,rfl,i⟩:=KR (j _) k;exact tY ag (a.rY _ _ hf) a.mix (by simpa using b) (i _ ⟨d,l,g,h⟩)
theorem qE(a:mJ P pl)(j:∀c,jS P (B c)){f:ap}{args:List AV}{H H':Heap}{v:AV}(h:oh P ag pl B f args H=some (v,H')):c7 P f H args H' v:=by
 unfold oh at h
 split at h
 ·rename_i r hk;simp only[bo]at h;subst h;exact a.zR _ _ _ _ _ hk
 ·split at h
  case h_2=>simp at h
  rename_i fn hf;obtain⟨b,e,l,k,d,g,rfl,i⟩:=KR (j _) h;exact Pg ag (a.rY _ _ hf) a.mix b (i _ ⟨d,k,g,rfl,.inl rfl⟩)
theorem J2{args:List AV}{vs:List PV}(h:ef args=some vs):args=vs.map .p:=lR h
theorem XS(b:mJ P pl)(d:∀c,jS P (B c)){c f:ap}{args:List AV}{H H':Heap}{v:AV}(h:DP P ag pl B c f args H=some (v,H'))(K:AV->Heap->Prop)(a:K v H'):gP P false f args H K:=by
 unfold DP at h
 split at h
 ·rename_i ak v' hx;simp only[bo,bv]at h;obtain⟨rfl,rfl⟩:=h;obtain⟨i,j⟩:=b.tZ _ _ _ _ _ hx;exact .inr ⟨rfl,.inr (.inr (.inr ⟨ak,v',i,j,a⟩))⟩
 split at h
 ·split at h
  ·rename_i vs m
   split at h
   case h_2=>simp at h
   rename_i v' g;simp only[bo,bv]at h;obtain⟨rfl,rfl⟩:=h;exact .inl ⟨vs,v',J2 m,vp b d g,a⟩
  ·exact .inr ⟨rfl,.inr (.inl ⟨H',v,qE b d h,a⟩)⟩
 ·exact .inr ⟨rfl,.inr (.inl ⟨H',v,qE b d h,a⟩)⟩
 ·split at h
  case h_2=>simp at h
  rename_i e k;simp only[bo,bv]at h;obtain⟨rfl,rfl⟩:=h;obtain⟨i,j⟩:=BQ (fun args H v H' g=>qE b d g) k;exact .inr ⟨rfl,.inr (.inr (.inl ⟨e,i,j,by rw[<-KW];exact a⟩))⟩
 ·split at h
  case h_2=>simp at h
  rename_i vs H1 l
  split at h
  case h_2=>simp at h
  rename_i v' g;simp only[bo,bv]at h;obtain⟨rfl,rfl⟩:=h;exact .inr ⟨rfl,.inl ⟨vs,H1,v',l,vp b d g,a⟩⟩
theorem XT(i:mJ P pl)(j:∀c,jS P (B c)){c f:ap}{args:List AV}{H:Heap}{e:aS}(h:DO P ag pl B c f args H=some e)(K:aS->Prop)(g:K e):gV P f args H K:=by
 unfold DO at h
 split at h
 ·rename_i ak v' hx;simp only[bo]at h;subst h;obtain⟨b,d⟩:=i.tZ _ _ _ _ _ hx;exact .inr (.inr (.inr ⟨ak,v',b,d,g⟩))
 split at h
 ·obtain⟨b,d⟩:=BQ (fun args H v H' a=>qE i j a) h;exact .inr (.inr (.inl ⟨e,b,d,g⟩))
 split at h
 ·rename_i vs m
  split at h
  case h_2=>simp at h
  rename_i v' a;simp only[bo]at h;subst h;exact .inl ⟨vs,v',J2 m,vp i j a,g⟩
 ·split at h
  case h_2=>
   obtain⟨b,d⟩:=BQ (fun args H v H' a=>qE i j a) h;exact .inr (.inr (.inl ⟨e,b,d,g⟩))
  rename_i vs bs l
  split at h
  case h_2=>simp at h
  rename_i ak aJ k
  split at h
  case h_2=>simp at h
  rename_i v' a;simp only[bo]at h;subst h;exact .inr (.inl ⟨vs,bs,ak,aJ,v',l,k,vp i j a,g⟩)
theorem JM(o:mJ P pl)(a:jS P B1){b:Nat}{H H':Heap}{args:List AV}{v:AV}(h:yX P ag B1 b H args=some (H',v)):ir P b H args H' v:=by
 unfold yX at h
 split at h
 case h_2=>simp at h
 rename_i L i;simp only[ab,bl,ac]at h;obtain⟨⟨f,g⟩,h⟩:=h
 split at h
 case h_2=>simp at h
 rename_i R l
 split at h
 case h_2=>simp at h
 rename_i s H1 m
 split at h
 case h_2=>simp at h
 rename_i q j
 split at h
 case h_2=>simp at h
 rename_i aB
 split at h
 case h_2=>simp at h
 rename_i e t p n
 split at h
 case h_2=>simp at h
 rename_i r k;simp only[bo,bv]at h;obtain⟨rfl,rfl⟩:=h;obtain⟨w,c,a2⟩:=lh a m (K1 _ l);obtain⟨x,u,d⟩:=lh a n c;refine Ph ag o.mix i (dj f) (by simpa only[ac]using g) ?_;unfold yw;refine a2 _ ?_;simp only[xI,j];refine⟨aB,d _ ?_⟩;simp only[sN,k];exact⟨trivial,.inl rfl⟩
theorem W7(g:mJ P pl)(e:∀c,jS P (B c)){it:AV}{b:Nat}{H H':Heap}(h:D7 P ag pl B it b H=some H')(K:Heap->Prop)(f:K H'):jF P it b H K:=by
 unfold D7 at h
 split at h
 ·split at h
  case h_2=>simp at h
  rename_i v a d;simp only[bo]at h;subst h;exact⟨a,v,qE g e d,f⟩
 ·split at h
  case h_2=>simp at h
  rename_i v a d;simp only[bo]at h;subst h;exact⟨a,v,qE g e d,f⟩
 ·simp at h
theorem sK(a:mJ P pl):∀n c,jS P (jG P ag pl n c)
 |0,_=>⟨fun _ _ _ _ _ h=>by simp[jG,s9]at h,fun _ _ _ _ h=>by simp[jG,s9]at h,fun _ _ _ _ _ h=>by simp[jG,s9]at h,fun _ _ _ _ h=>by simp[jG,s9]at h,fun _ _ _ _ h=>by simp[jG,s9]at h⟩
 |n+1,c=>⟨fun _ _ _ _ _ h=>XS a (sK a n) h,fun _ _ _ _ h=>XT a (sK a n) h,fun _ _ _ _ _ h=>JM a (sK a n c) h,fun _ _ _ _ h=>W7 a (sK a n) h,fun _ _ _ _ h=>UG (fun _ _ _ _ _ b=>JM a (sK a n c) b) h⟩
theorem reckon{f:ap}{vs:List PV}{v:PV}(n:Nat)(a:mJ P pl)(h:oi P ag pl (jG P ag pl n) f vs=some v):aw P f vs v:=vp a (sK a n) h
end
section
variable{P:ax}{ag:ap->Bool}
theorem aw.cV{f:ap}{args d:List PV}{v v':PV}(h:aw P f args v)(g:bA d args)(i:Wk v v'):aw P f d v':=by
 rcases h with h|h
 ·refine .inl ⟨h.1,fun w ad a j k c=>(h.2 w ad a j k (bn.cV _ _ _ g c)).mono ?_⟩;rintro e w' ⟨b,aD,k1,k2,k3,k4,k5,k6,l,k7⟩;exact⟨b,aD,k1,k2,k3,k4,k5,k6,l,aA.cV _ _ _ i k7⟩
 ·refine .inr fun w ad a c=>?_;obtain⟨b,k1,k2⟩:=h w ad a (bn.cV _ _ _ g c);exact⟨b,k1,aA.cV _ _ _ i k2⟩
def zz(P:ax)(a:List ay)(v:PV)(e:bp)(s:St):Prop:=
 (match e with
  | .exit _=>False
  |_=>True)/\∃vs,fE P s a=some vs/\∃v',eh s.heap 9 (oneOf vs)=some v'/\Wk v' v
theorem VM{a:List ay}{v:PV}{s:St}:zz P a v .ret s=∃vs,fE P s a=some vs/\∃v',eh s.heap 9 (oneOf vs)=some v'/\Wk v' v:=by simp[zz]
theorem TG{a:List ay}{v:PV}{s:St}:zz P a v .normal s=∃vs,fE P s a=some vs/\∃v',eh s.heap 9 (oneOf vs)=some v'/\Wk v' v:=by simp[zz]
theorem rF.cV{f:ap}{args a:List PV}{v v':PV}(h:rF P f args v)(j:bA a args)(k:Wk v v'):rF P f a v':=by
 refine⟨h.1,fun w ad b d g i=>(h.2 w ad b d g (bn.cV _ _ _ j i)).mono ?_⟩;rintro e w' ⟨c,aD,k1,k2,k3,k4,k5,k6,l,k7⟩;exact⟨c,aD,k1,k2,k3,k4,k5,k6,l,aA.cV _ _ _ k k7⟩
theorem Ja{dst:Option Tmp}{h:Nat}{pos:String}{af:Array Edge}{g:Option (Nat×Bool)}{env:Env}{heap:Heap}{L:St->Prop}{f:ap}{fi ca:Array ao}(hf:ag f=false):
 df P ag ⟨dst,.makeFunc (.func f) fi ca,h,pos,af,g⟩ L ⟨env,heap⟩=ba (rj f (fi.toList.map (ev env)) (ca.toList.map (ev env))) (eg dst ⟨env,heap⟩ L):=by
 simp only[df,kI,fy,hf,rj,am,if_false]
 split
 ·rename_i c d;simp only[c,d,ba,true_and]
 ·rename_i c
  split
  ·rename_i a b d e;exact(c a b d e).elim
  ·simp only[ba,true_and]
theorem IJ{dst:Option Tmp}{h:Nat}{pos:String}{af:Array Edge}{g:Option (Nat×Bool)}{env:Env}{heap:Heap}{K:aS->Prop}{f:ap}{fi ca:Array ao}(hf:ag f=false):
 dh P ag ⟨dst,.makeFunc (.func f) fi ca,h,pos,af,g⟩ ⟨env,heap⟩ K=ba (rj f (fi.toList.map (ev env)) (ca.toList.map (ev env))) K:=by
 simp only[dh,kI,fy,hf,rj,am,if_false]
 split
 ·rename_i c d;simp only[c,d,ba,true_and]
 ·rename_i c
  split
  ·rename_i a b d e;exact(c a b d e).elim
  ·simp only[ba,true_and]
section guards
variable{ops:Array Oper}{o:Oper}{r:List Oper}{K:St->Prop}{want t:Bool}{s:St}{i:Nat}{acc:List Touch}
theorem Ix:yZ P ag ops o r K want s (.p (.bool t))=if t=want then df P ag o (fT P ag ops r K) s else fT P ag ops r K ⟨put o.dst (.p (.aE [])) s.env,s.heap⟩:=(rfl)
theorem Je:yZ P ag ops o r K want s (.p (.aE []))=fT P ag ops r K ⟨put o.dst (.p (.aE [])) s.env,s.heap⟩:=(rfl)
theorem HT:yK P ag ops o r i acc K want s (.p (.bool t))=if t=want then dh P ag o s (wu P ag ops r i acc K o.dst s)else gd P ag ops r (i+1) acc K ⟨put o.dst (.p (.aE [])) s.env,s.heap⟩:=(rfl)
theorem Iw:yK P ag ops o r i acc K want s (.p (.aE []))=gd P ag ops r (i+1) acc K ⟨put o.dst (.p (.aE [])) s.env,s.heap⟩:=(rfl)
theorem TE{l:List Oper}{j:Nat}{e:Env}:guardOf l.toArray j e=match(l[j]?).bind (·.dst)with
 |some d=>aM e d
 |none=>.p (.aE []):=by simp only[guardOf,List.getElem?_toArray];cases l[j]?.bind (·.dst)<;>rfl
end guards
section calls
variable{f:ap}{H H1:Heap}{K:AV->Heap->Prop}{L:aS->Prop}{v a b c d e a' b' c' d' e':PV}{dr:Bool}
theorem YU(h:aw P f [] v)(hk:K (.p v) H):gP P dr f [] H K:=.inl ⟨[],v,rfl,h,hk⟩
theorem YV(h:aw P f [a'] v)(hk:K (.p v) H)(b:Wk a a':=by first|exact Wk.refl _|simp[Wk,bA]):gP P dr f [.p a] H K:=.inl ⟨[a],v,rfl,h.cV (by simp only[bA];exact⟨b,trivial⟩) (Wk.refl _),hk⟩
theorem YW(h:aw P f [a',b'] v)(hk:K (.p v) H)(c:Wk a a':=by first|exact Wk.refl _|simp[Wk,bA])(d:Wk b b':=by first|exact Wk.refl _|simp[Wk,bA]):gP P dr f [.p a,.p b] H K:=
 .inl ⟨[a,b],v,rfl,h.cV (by simp only[bA];exact⟨c,d,trivial⟩) (Wk.refl _),hk⟩
theorem YX(h:aw P f [a',b',c'] v)(hk:K (.p v) H)(d:Wk a a':=by first|exact Wk.refl _|simp[Wk,bA])(e:Wk b b':=by first|exact Wk.refl _|simp[Wk,bA])(g:Wk c c':=by first|exact Wk.refl _|simp[Wk,bA]):gP P dr f [.p a,.p b,.p c] H K:=
 .inl ⟨[a,b,c],v,rfl,h.cV (by simp only[bA];exact⟨d,e,g,trivial⟩) (Wk.refl _),hk⟩
theorem YY(h:aw P f [a',b',c',d'] v)(hk:K (.p v) H)(e:Wk a a':=by first|exact Wk.refl _|simp[Wk,bA])(g:Wk b b':=by first|exact Wk.refl _|simp[Wk,bA])(i:Wk c c':=by first|exact Wk.refl _|simp[Wk,bA])(j:Wk d d':=by first|exact Wk.refl _|simp[Wk,bA]):gP P dr f [.p a,.p b,.p c,.p d] H K:=
 .inl ⟨[a,b,c,d],v,rfl,h.cV (by simp only[bA];exact⟨e,g,i,j,trivial⟩) (Wk.refl _),hk⟩
theorem YZ(h:aw P f [a',b',c',d',e'] v)(hk:K (.p v) H)(g:Wk a a':=by first|exact Wk.refl _|simp[Wk,bA])(i:Wk b b':=by first|exact Wk.refl _|simp[Wk,bA])(j:Wk c c':=by first|exact Wk.refl _|simp[Wk,bA])(k:Wk d d':=by first|exact Wk.refl _|simp[Wk,bA])(l:Wk e e':=by first|exact Wk.refl _|simp[Wk,bA]):gP P dr f [.p a,.p b,.p c,.p d,.p e] H K:=
 .inl ⟨[a,b,c,d,e],v,rfl,h.cV (by simp only[bA];exact⟨g,i,j,k,l,trivial⟩) (Wk.refl _),hk⟩
theorem YD(h:aw P f [] v)(hk:L {v:=.p v}):gV P f [] H L:=.inl ⟨[],v,rfl,h,hk⟩
theorem YE(h:aw P f [a'] v)(hk:L {v:=.p v})(b:Wk a a':=by first|exact Wk.refl _|simp[Wk,bA]):gV P f [.p a] H L:=.inl ⟨[a],v,rfl,h.cV (by simp only[bA];exact⟨b,trivial⟩) (Wk.refl _),hk⟩
theorem YF(h:aw P f [a',b'] v)(hk:L {v:=.p v})(c:Wk a a':=by first|exact Wk.refl _|simp[Wk,bA])(d:Wk b b':=by first|exact Wk.refl _|simp[Wk,bA]):gV P f [.p a,.p b] H L:=
 .inl ⟨[a,b],v,rfl,h.cV (by simp only[bA];exact⟨c,d,trivial⟩) (Wk.refl _),hk⟩
theorem YG(h:aw P f [a',b',c'] v)(hk:L {v:=.p v})(d:Wk a a':=by first|exact Wk.refl _|simp[Wk,bA])(e:Wk b b':=by first|exact Wk.refl _|simp[Wk,bA])(g:Wk c c':=by first|exact Wk.refl _|simp[Wk,bA]):gV P f [.p a,.p b,.p c] H L:=
 .inl ⟨[a,b,c],v,rfl,h.cV (by simp only[bA];exact⟨d,e,g,trivial⟩) (Wk.refl _),hk⟩
theorem YH(h:aw P f [a',b',c',d'] v)(hk:L {v:=.p v})(e:Wk a a':=by first|exact Wk.refl _|simp[Wk,bA])(g:Wk b b':=by first|exact Wk.refl _|simp[Wk,bA])(i:Wk c c':=by first|exact Wk.refl _|simp[Wk,bA])(j:Wk d d':=by first|exact Wk.refl _|simp[Wk,bA]):gV P f [.p a,.p b,.p c,.p d] H L:=
 .inl ⟨[a,b,c,d],v,rfl,h.cV (by simp only[bA];exact⟨e,g,i,j,trivial⟩) (Wk.refl _),hk⟩
theorem YI(h:aw P f [a',b',c',d',e'] v)(hk:L {v:=.p v})(g:Wk a a':=by first|exact Wk.refl _|simp[Wk,bA])(i:Wk b b':=by first|exact Wk.refl _|simp[Wk,bA])(j:Wk c c':=by first|exact Wk.refl _|simp[Wk,bA])(k:Wk d d':=by first|exact Wk.refl _|simp[Wk,bA])(l:Wk e e':=by first|exact Wk.refl _|simp[Wk,bA]):gV P f [.p a,.p b,.p c,.p d,.p e] H L:=
 .inl ⟨[a,b,c,d,e],v,rfl,h.cV (by simp only[bA];exact⟨g,i,j,k,l,trivial⟩) (Wk.refl _),hk⟩
theorem Y0{args:List AV}{vs a:List PV}(h:aw P f a v)(c:mZ H args=some (vs,H1))(hk:K (.p v) H1)(b:bA vs a:=by first|exact bA.refl _|simp[Wk,bA]):gP P false f args H K:=
 .inr ⟨rfl,.inl ⟨vs,H1,v,c,h.cV b (Wk.refl _),hk⟩⟩
theorem YK{args:List AV}{vs a:List PV}{bs:List Nat}{ak aJ:List (Nat×Obj)}(h:aw P f a v)(c:nU H args=some (vs,bs))(hf:lj H bs=some (ak,aJ))(hk:L {v:=.p v,ak,aJ})(b:bA vs a:=by first|exact bA.refl _|simp[Wk,bA]):gV P f args H L:=
 .inr (.inl ⟨vs,bs,ak,aJ,v,c,hf,h.cV b (Wk.refl _),hk⟩)
end calls
def KV(T:Heap)(a v:AV):Prop:=a=v\/Gh T a v
theorem Rj{T:Heap}{v:AV}:KV T v v=True:=by simp[KV]
theorem Rh{T:Heap}{b ar ai off len:Nat}:KV T (.p .aN) (.sl b ar ai off len)=(ar=0/\off=0/\len=0/\∃k z,T[b]?=some (.arr k 0 z [])/\k.gr=true):=by simp[KV,Gh,fP]
theorem Rk{T:Heap}{u u':av}{fs:List PV}{a:List AV}:KV T (.p (.st u fs)) (.st u' a)=(u=u'/\kU T fs a):=by simp[KV,Gh,fP]
def lU(T:Heap)(e:Env):Env->Prop
 |[]=>True
 |(x,v)::r=>KV T (aM e x) v/\lU T e r
def KO(T:Heap)(o:Obj):Obj->Prop
 | .hole=>True
 | .box false v'=>match o with
  | .box false v=>KV T v v'
  |_=>False
 | .arr k ar z es=>(o=.hole/\ar=0/\es=[]/\k.gr=true)\/o=.arr k ar z es
 |o'=>o=o'
def KN:Obj->Prop
 | .hole=>True
 | .arr k ar _ es=>ar=0/\es=[]/\k.gr=true
 |_=>False
def iR(T:Heap):Heap->Heap->Prop
 |_,[]=>True
 |[],o'::t=>KN o'/\iR T [] t
 |o::h,o'::t=>KO T o o'/\iR T h t
theorem lU.get{T:Heap}{e:Env}:∀{t:Env},lU T e t->∀x,aM t x=aM e x\/aM t x=.p .undef\/Gh T (aM e x) (aM t x)
 |[],_,x=>.inr (.inl rfl)
 |(y,v)::t,h,x=>by
  simp only[lU]at h;simp only[aM]
  split
  ·rename_i hx;subst hx;rcases h.1 with h|h
   ·exact .inl h.symm
   ·exact .inr (.inr h)
  ·exact lU.get h.2 x
theorem iR.get{T:Heap}:∀{h t:Heap},iR T h t->∀(b:Nat)(o:Obj),t[b]?=some o->
 o=.hole\/h[b]?=some o\/((h[b]?=none\/h[b]?=some .hole)/\∃k z,o=.arr k 0 z []/\k.gr=true)\/(∃v v',h[b]?=some (.box false v)/\o=.box false v'/\Gh T v v')
 |_,[],_,b,o,c=>by simp at c
 |[],o'::t,hk,b,o,c=>by
  simp only[iR]at hk;cases b with
  |zero=>
   simp at c;subst c;cases o'<;>have a:=hk.1<;>simp only[KN]at a
   ·exact .inl rfl
   ·obtain⟨rfl,rfl,d⟩:=a;exact .inr (.inr (.inl ⟨.inl rfl,_,_,rfl,d⟩))
  |succ b=>simpa using iR.get hk.2 b o (by simpa using c)
 |e::h,o'::t,hk,b,o,c=>by
  simp only[iR]at hk;cases b with
  |zero=>
   simp at c;subst c;have a:=hk.1;cases o' with
   |hole=>exact .inl rfl
   |dead=>simp only[KO]at a;subst a;exact .inr (.inl rfl)
   |map fz es=>simp only[KO]at a;subst a;exact .inr (.inl rfl)
   |di ks vs=>simp only[KO]at a;subst a;exact .inr (.inl rfl)
   |dt s p=>simp only[KO]at a;subst a;exact .inr (.inl rfl)
   |loop L=>simp only[KO]at a;subst a;exact .inr (.inl rfl)
   |arr k ar z es=>
    simp only[KO]at a;rcases a with⟨rfl,rfl,rfl,d⟩|rfl
    ·exact .inr (.inr (.inl ⟨.inr rfl,_,_,rfl,d⟩))
    ·exact .inr (.inl rfl)
   |box fz v'=>
    cases fz with
    |true=>simp only[KO]at a;subst a;exact .inr (.inl rfl)
    |false=>
     simp only[KO]at a
     split at a
     ·rcases a with rfl|a
      ·exact .inr (.inl rfl)
      ·exact .inr (.inr (.inr ⟨_,_,rfl,rfl,a⟩))
     ·exact a.elim
  |succ b=>simpa using iR.get hk.2 b o (by simpa using c)
theorem dE.og{N:Nat}{s t:St}(d:t.heap.take N=s.heap.take N)(c:lU t.heap s.env t.env)(hh:iR t.heap s.heap t.heap)(e:iF t.heap t.env)(f:eE t.heap t.heap):dE N s t:=by
 refine .inr ⟨⟨c.get,hh.get,e.get,f.get⟩,fun b a=>?_⟩;have:=congrArg (fun l:Heap=>l[b]?) d;simpa[List.getElem?_take,a]using this
theorem MQ{T:Heap}{o:Obj}:KO T o o=True:=by
 cases o with
 |box fz v=>cases fz<;>simp[KO,KV]
 |_=>simp[KO]
theorem Rf{T:Heap}{o:Obj}:KO T o .hole=True:=by simp[KO]
theorem Re{T:Heap}{v v':AV}:KO T (.box false v) (.box false v')=KV T v v':=(rfl)
theorem Rg{T:Heap}{k:AK}{ar z:Nat}{a:List AV}:KO T .hole (.arr k ar z a)=(ar=0/\a=[]/\k.gr=true):=by simp[KO]
theorem Rd:KN .hole=True:=(rfl)
theorem Rc{k:AK}{ar z:Nat}{a:List AV}:KN (.arr k ar z a)=(ar=0/\a=[]/\k.gr=true):=(rfl)
theorem Ri{T:Heap}{x y:PV}:KV T (.p x) (.p y)=(x=y):=by
 have:Gh T (.p x) (.p y)↔x=y:=by cases x<;>simp[Gh,fP,eq_comm]
 simp[KV,this]
def ur{α:Type}(N:Nat)(mk:α->St)(ok:α->Prop)(m:α->Nat)(n:Nat)(s:St):Prop:=∃a',m a'<n/\ok a'/\dE N s (mk a')
def rk{α:Type}(N:Nat)(mk:α->St)(ok:α->Prop)(m:α->Nat)(n:Nat)(Q:bp->St->Prop)(e:bp)(s:St):Prop:=
 match e with
 | .normal=>ur N mk ok m n s
 |e=>Q e s
section
variable{α:Type}{N:Nat}{mk:α->St}{ok:α->Prop}{m:α->Nat}{n:Nat}{Q:bp->St->Prop}{s s':St}{q:Cx}
theorem Tf:rk N mk ok m n Q .normal s=ur N mk ok m n s:=(rfl)
theorem UB{id:Nat}:rk N mk ok m n Q (.exit id) s=Q (.exit id) s:=(rfl)
theorem Vr:rk N mk ok m n Q .ret s=Q .ret s:=(rfl)
theorem wl{b:Code}(mk:α->St)(ok:α->Prop)(m:α->Nat)(c:α)(l:ok c)(gT:∀a,ok a->dd P ag q b (rk q.2 mk ok m (m a) Q) (mk a))
 (k:(mk c).heap.take q.2=s.heap.take q.2:=by simp)(i:lU (mk c).heap s.env (mk c).env:=by simp)(j:iR (mk c).heap s.heap (mk c).heap:=by simp)(o:iF (mk c).heap (mk c).env:=by simp)(p:eE (mk c).heap (mk c).heap:=by simp):
 dd P ag q (.loop b) Q s:=by
 simp only[dd];refine⟨fun n t=>∃a,ok a/\t=mk a/\n=m a,⟨m c,mk c,dE.og k i j o p,c,l,rfl,rfl⟩,?_⟩;rintro n t ⟨a,h,rfl,rfl⟩;have:rk q.2 mk ok m (m a) Q=tD q.2 (m a) (fun n t=>∃a,ok a/\t=mk a/\n=m a) Q:=by
  funext e s
  cases e with
  |normal=>
   simp only[rk,tD,ur,eq_iff_iff];constructor
   ·rintro⟨a',d,f,g⟩;exact⟨m a',mk a',d,g,a',f,rfl,rfl⟩
   ·rintro⟨_,_,d,g,a',f,rfl,rfl⟩;exact⟨a',d,f,g⟩
  |exit id=>rfl
  |ret=>rfl
 rw[<-this];exact gT a h
theorem rnd(a':α)(b:ok a')(a:m a'<n:=by omega)(e:(mk a').heap.take N=s.heap.take N:=by simp)(c:lU (mk a').heap s.env (mk a').env:=by simp)(d:iR (mk a').heap s.heap (mk a').heap:=by simp)(f:iF (mk a').heap (mk a').env:=by simp)(g:eE (mk a').heap (mk a').heap:=by simp):
 ur N mk ok m n s:=⟨a',a,b,dE.og e c d f g⟩
end
theorem aK(n:Int)(h:-9223372036854775808<=n)(a:n<=9223372036854775807):IntKind.i64.wrap n=n:=IntWalk.i64_in n ⟨h,a⟩
theorem Av(a b:Int):(a<b/\¬b<=a)\/(¬a<b/\b<=a):=by omega
theorem bX{i:Nat}(h:i<4611686018427387904):IntKind.i64.wrap ((i:Int)+1)=(i:Int)+1:=aK _ (by omega) (by omega)
attribute [simp] Wk bA aG Obj.has Ix Je HT Iw TE Ja IJ rj Tf UB Vr lU iR Rj Ri Rh Rk MQ Rf Re Rg Rd Rc kU fP AK.gr iF eE aC Obj.refs
attribute [simp] VM TG Wk.refl bA.refl
end
end Go.aj
namespace Go.aj
variable[Gl]
mutual
def dT:PV->Prop
 | .str s=>∀c∈s,c<256
 | .ct t=>dT t
 | .bL _ es| .seq es| .st _ es| .aE es=>lX es
 |_=>True
def lX:List PV->Prop
 |[]=>True
 |v::vs=>dT v/\lX vs
end
section
variable{P:ax}{w:a0}{ad:Nat->Prop}
theorem KP(bs:ByteArray):∀c∈bs.data.toList.map (·.toNat),c<256:=by
 intro c hc;simp only[a1]at hc;obtain⟨b,_,rfl⟩:=hc;exact UInt8.toNat_lt b
mutual
theorem aP.dT:∀(v:PV)(cs:List aT),aP P w ad v cs->dT v
 | .str s,cs,h=>by simp only[aP]at h;obtain⟨bs,_,rfl⟩:=h;simp only[aj.dT];exact KP bs
 | .ct t,cs,h=>by simp only[aP]at h;obtain⟨_,_,ts,a,_⟩:=h;simp only[aj.dT];exact aP.dT t ts a
 | .bL f b,cs,h=>by simp only[aP]at h;obtain⟨_,_,_,_,d,a,_⟩:=h;simp only[aj.dT];exact aY.dT _ b d a
 | .seq b,cs,h=>by
  simp only[aP]at h;simp only[aj.dT];rcases h with⟨rfl,_⟩|⟨_,_,_,_,d,a,_⟩
  ·trivial
  ·exact aY.dT _ b d a
 | .st u b,cs,h=>by simp only[aP]at h;obtain⟨l,d,_,a,_⟩:=h;simp only[aj.dT];exact aY.dT _ b d a
 | .aE b,cs,h=>by simp[aP]at h
 | .undef,_,_| .bool _,_,_| .int _ _,_,_| .dC,_,_| .aN,_,_| .fw,_,_| .gG,_,_| .fS,_,_| .eJ _,_,_| .func _ _ _,_,_=>by simp[aj.dT]
theorem aY.dT:∀(l:List Nat)(b:List PV)(d:List (List aT)),aY P w ad l b d->lX b
 |_,[],_,_=>by simp[aj.lX]
 |[],_::_,_,h=>by simp[aY]at h
 |n::l,v::vs,d,h=>by
  simp only[aY]at h;obtain⟨c,cs,_,a,_,g⟩:=h;simp only[aj.lX];exact⟨aP.dT v c a,aY.dT l vs cs g⟩
theorem aA.dT:∀(v:PV)(x:aT),aA P w ad v x->dT v
 | .str s,cs,h=>by simp only[aA]at h;obtain⟨bs,_,rfl⟩:=h;simp only[aj.dT];exact KP bs
 | .ct t,cs,h=>by simp only[aA]at h;obtain⟨_,_,ts,a,_⟩:=h;simp only[aj.dT];exact aP.dT t ts a
 | .bL f b,cs,h=>by simp only[aA]at h;obtain⟨_,_,_,_,d,a,_⟩:=h;simp only[aj.dT];exact aY.dT _ b d a
 | .seq b,cs,h=>by
  simp only[aA]at h;simp only[aj.dT];rcases h with⟨rfl,_⟩|⟨_,_,_,_,d,a,_⟩
  ·trivial
  ·exact aY.dT _ b d a
 | .st u b,cs,h=>by simp only[aA]at h;obtain⟨l,d,_,a,_⟩:=h;simp only[aj.dT];exact aY.dT _ b d a
 | .aE b,cs,h=>by simp only[aA]at h;obtain⟨e,a,_⟩:=h;simp only[aj.dT];exact bn.dT b e a
 | .undef,_,_| .bool _,_,_| .int _ _,_,_| .dC,_,_| .aN,_,_| .fw,_,_| .gG,_,_| .fS,_,_| .eJ _,_,_| .func _ _ _,_,_=>by simp[aj.dT]
theorem bn.dT:∀(b:List PV)(e:List aT),bn P w ad b e->lX b
 |[],_,_=>by simp[aj.lX]
 |v::vs,e,h=>by
  simp only[bn]at h;obtain⟨y,i,_,a,g⟩:=h;simp only[aj.lX];exact⟨aA.dT v y a,bn.dT vs i g⟩
end
theorem RY{f:ap}{args:List PV}{v:PV}(h:lX args->aw P f args v):aw P f args v:=by
 by_cases hs:lX args
 ·exact h hs
 ·exact .inr fun w ad b a=>(hs (bn.dT _ _ a)).elim
end
end Go.aj
namespace Go.aj
variable[Gl]
@[reducible] def Tg{α:Type}(_:α)(β:Type):Type:=β
@[reducible] def Tg1{α:Type 1}(_:α)(β:Type):Type:=β
section
variable(P:ax)(ag:ap->Bool)
def eP(q:Cx)(c:Code)(Q:bp->St->Prop)(s:Tg (q,c,Q) St):Prop:=dd P ag q c Q s
def pW(a:Array Oper)(l:List Oper)(K:St->Prop)(s:Tg (a,l,K) St):Prop:=fT P ag a l K s
def ru(b:Array Oper)(l:List Oper)(i:Nat)(a:List Touch)(K:St->Prop)(s:Tg (b,l,i,a,K) St):Prop:=gd P ag b l i a K s
def Ab(K:St->Prop)(Q:bp->St->Prop)(e:Tg (K,Q) bp)(s:Tg (K,Q) St):Prop:=uf K Q e s
def qY(id:Nat)(Q:bp->St->Prop)(e:Tg (id,Q) bp)(s:Tg (id,Q) St):Prop:=nQ id Q e s
def OW(a b:St->Prop)(s:St)(v:Tg (a,b,s) AV):Prop:=tK v a b s
def Dj(b:Array Oper)(r:List Oper)(i:Nat)(a:List Touch)(K:St->Prop)(dst:Option Tmp)(s:St)(e:Tg (b,r,i,a,K,dst,s) aS):Prop:=wu P ag b r i a K dst s e
def eA(dst:Option Tmp)(s:St)(K:St->Prop)(e:Tg (dst,s,K) aS):Prop:=eg dst s K e
def QI(dst:Option Tmp)(s:St)(K:St->Prop)(v:Tg (dst,s,K) AV)(H:Tg (dst,s,K) Heap):Prop:=zZ dst s K v H
def Dq(a:Array Oper)(o:Oper)(r:List Oper)(K:St->Prop)(b:Bool)(s:St)(g:Tg (a,o,r,K,b,s) AV):Prop:=yZ P ag a o r K b s g
def CF(b:Array Oper)(o:Oper)(r:List Oper)(i:Nat)(a:List Touch)(K:St->Prop)(c:Bool)(s:St)(g:Tg (b,o,r,i,a,K,c,s) AV):Prop:=yK P ag b o r i a K c s g
def dV(o:Oper)(K:St->Prop)(s:St)(_:Tg (o,K,s) Unit):Prop:=df P ag o K s
def dR(o:Oper)(s:St)(K:aS->Prop)(_:Tg (o,K,s) Unit):Prop:=dh P ag o s K
def cE(K:aS->Prop)(r:Tg K eC):Prop:=ba r K
def zE(H:Heap)(K:AV->Heap->Prop)(f:Tg (H,K) AV)(args:Tg (H,K) (List AV)):Prop:=ri P f args H K
def Dw(H:Heap)(K:aS->Prop)(f:Tg (H,K) AV)(args:Tg (H,K) (List AV)):Prop:=qW P f args H K
def kx(d:Bool)(f:ap)(K:AV->Heap->Prop)(args:Tg K (List AV))(H:Tg K Heap):Prop:=gP P d f args H K
def nR(f:ap)(K:aS->Prop)(args:Tg K (List AV))(H:Tg K Heap):Prop:=gV P f args H K
def rD(R:AV->PV->Prop):List AV->List PV->Prop
 |[],vs=>vs=[]
 |x::xs,vs=>match vs with
  |v::vs=>R x v/\rD R xs vs
  |[]=>False
def gB(H:Heap):Nat->AV->PV->Prop
 |0=>fun x v=>match x with
  | .p a=>Wk a v
  |_=>False
 |n+1=>fun x v=>match x with
  | .p a=>Wk a v
  | .sl b ar z off len=>match v with
   | .seq fs=>match H[b]? with
    |some (.arr _ e h es)=>ar=e/\z=h/\off+len<=es.length/\rD (gB H n) ((es.drop off).take len) fs
    |_=>False
   |_=>False
  | .st u xs=>match v with
   | .st u' vs=>u=u'/\rD (gB H n) xs vs
   |_=>False
  | .aE xs=>match v with
   | .aE vs=>rD (gB H n) xs vs
   |_=>False
  | .ptr b path=>match v with
   | .ct t=>match H[b]? with
    |some (.box _ y)=>match eM y path with
     |some s=>gB H n s t
     |none=>False
    |_=>False
   |_=>False
  | .map b=>match v with
   | .eJ es=>match H[b]? with
    |some (.map _ c)=>c=es
    |_=>False
   |_=>False
  | .func f xs g=>match v with
   | .func d vs us=>f=d/\rD (gB H n) xs vs/\rD (gB H n) g us
   |_=>False
  |_=>False
def ml(H:Heap)(n:Nat):List AV->List PV->Prop:=rD (gB H n)
def rH(a:List ay)(v:PV)(e:Tg (a,v) bp)(s:Tg (a,v) St):Prop:=
 (match e with
  | .exit _=>False
  |_=>True)/\∃vs,fE P s a=some vs/\gB (St.heap s) 9 (oneOf vs) v
def yT(a:Array Oper)(l:Tg a (List Touch)):Bool:=ke a l
def aEO(a:Array Oper)(i j:Tg a Nat):Bool:=reach a a.size i j
end
section
variable{P:ax}{ag:ap->Bool}{q:Cx}
theorem aHk{Q:bp->St->Prop}{s:St}:eP P ag q .skip Q s=Q .normal s:=Nh
theorem Wi{l:Nat}{Q:bp->St->Prop}{s:St}:eP P ag q (.label l) Q s=Q .normal s:=L3
theorem aHh{id:Nat}{Q:bp->St->Prop}{s:St}:eP P ag q (.exit id) Q s=Q (.exit id) s:=Ni
theorem aHj{Q:bp->St->Prop}{s:St}:eP P ag q .ret Q s=Q .ret s:=Q6
theorem Wg{b:Code}{Q:bp->St->Prop}{s:St}:eP P ag q (.scope b) Q s=eP P ag q b Q s:=LY
theorem aHg{id:Nat}{l:List Oper}{Q:bp->St->Prop}{s:St}:eP P ag q (.region id l.toArray true) Q s=ru P ag l.toArray l 0 [] (Q .normal) s:=Nj
theorem Wh{id:Nat}{l:List Oper}{Q:bp->St->Prop}{s:St}:eP P ag q (.region id l.toArray false) Q s=pW P ag l.toArray l (Q .normal) s:=LZ
theorem bh{a b:Code}{Q:bp->St->Prop}{s:St}:eP P ag q (.seq a b) Q s=eP P ag q a (Ab (eP P ag q b Q) Q) s:=Q7
theorem KJ{id:Nat}{b:Code}{Q:bp->St->Prop}{s:St}:eP P ag q (.block id b) Q s=eP P ag q b (qY id Q) s:=L4
theorem aHf{c:ao}{a b:Code}{Q:bp->St->Prop}{s:St}:eP P ag q (.cond c a b) Q s=OW (eP P ag q a Q) (eP P ag q b Q) s (ev s.env c):=Nk
theorem Tj{K:St->Prop}{Q:bp->St->Prop}{s:St}:Ab K Q .normal s=K s:=Io
theorem UU{id:Nat}{K:St->Prop}{Q:bp->St->Prop}{s:St}:Ab K Q (.exit id) s=Q (.exit id) s:=JK
theorem U1{K:St->Prop}{Q:bp->St->Prop}{s:St}:Ab K Q .ret s=Q .ret s:=KC
theorem TS{t:Bool}{a b:St->Prop}{s:St}:OW a b s (.p (.bool t))=if t then a s else b s:=IL
theorem VJ{b:Array Oper}{r:List Oper}{i:Nat}{a:List Touch}{K:St->Prop}{dst:Option Tmp}{env:Env}{heap:Heap}{v:AV}{ak aJ:List (Nat×Obj)}{aQ:List Obj}:Dj P ag b r i a K dst ⟨env,heap⟩ ⟨v,ak,aJ,aQ⟩=ru P ag b r (i+1) (gQ i heap.length ⟨v,ak,aJ,aQ⟩ a) K ⟨put dst v env,bm heap aJ++aQ⟩:=K8
theorem XC{dst:Option Tmp}{env:Env}{heap:Heap}{K:St->Prop}{v:AV}{ak aJ:List (Nat×Obj)}{aQ:List Obj}:eA dst ⟨env,heap⟩ K ⟨v,ak,aJ,aQ⟩=K ⟨put dst v env,bm heap aJ++aQ⟩:=MN
theorem Xj{dst:Option Tmp}{env:Env}{heap H:Heap}{K:St->Prop}{v:AV}:QI dst ⟨env,heap⟩ K v H=K ⟨put dst v env,H⟩:=Mo
theorem aHn{b:Array Oper}{i:Nat}{a:List Touch}{K:St->Prop}{s:St}:ru P ag b [] i a K s=(yT b a=true/\K s):=Ng
theorem Wf{b:Array Oper}{i c:Nat}{pos:String}{a:List Touch}{K:St->Prop}{s:St}{dst:Option Tmp}{op:Op}{af:Array Edge}{r:List Oper}:ru P ag b ({dst,op,type:=c,pos,after:=af,guard:=none}::r) i a K s=dR P ag {dst,op,type:=c,pos,after:=af,guard:=none} s (Dj P ag b r i a K dst s) ():=LX
theorem Vm{a:Array Oper}{i d j:Nat}{b:Bool}{pos:String}{c:List Touch}{K:St->Prop}{s:St}{dst:Option Tmp}{op:Op}{af:Array Edge}{r:List Oper}:ru P ag a ({dst,op,type:=d,pos,after:=af,guard:=some (j,b)}::r) i c K s=CF P ag a {dst,op,type:=d,pos,after:=af,guard:=some (j,b)} r i c K b s (guardOf a j s.env):=KI
theorem aHx{a:Array Oper}{K:St->Prop}{s:St}:pW P ag a [] K s=K s:=Nd
theorem We{a:Array Oper}{b:Nat}{pos:String}{K:St->Prop}{s:St}{dst:Option Tmp}{op:Op}{af:Array Edge}{r:List Oper}:pW P ag a ({dst,op,type:=b,pos,after:=af,guard:=none}::r) K s=dV P ag {dst,op,type:=b,pos,after:=af,guard:=none} (pW P ag a r K) s ():=LV
theorem Vl{a:Array Oper}{c j:Nat}{b:Bool}{pos:String}{K:St->Prop}{s:St}{dst:Option Tmp}{op:Op}{af:Array Edge}{r:List Oper}:pW P ag a ({dst,op,type:=c,pos,after:=af,guard:=some (j,b)}::r) K s=Dq P ag a {dst,op,type:=c,pos,after:=af,guard:=some (j,b)} r K b s (guardOf a j s.env):=KH
section ops
variable{dst:Option Tmp}{ty:Nat}{pos:String}{af:Array Edge}{g:Option (Nat×Bool)}{env:Env}{heap:Heap}{K:aS->Prop}{L:St->Prop}
theorem Za{x:ao}:dR P ag ⟨dst,.move x,ty,pos,af,g⟩ ⟨env,heap⟩ K ()=K {v:=ev env x}:=Om
theorem VT{x:ao}:dR P ag ⟨dst,.assign x,ty,pos,af,g⟩ ⟨env,heap⟩ K ()=K {v:=ev env x}:=K6
theorem Zc{c a b:ao}:dR P ag ⟨dst,.pick c a b,ty,pos,af,g⟩ ⟨env,heap⟩ K ()=cE K (rr (ev env c) (ev env a) (ev env b)):=Ok
theorem XN{T:av}:dR P ag ⟨dst,.alloc T,ty,pos,af,g⟩ ⟨env,heap⟩ K ()=cE K (qZ P T heap.length):=MB
theorem Y2{T:av}{x:ao}:dR P ag ⟨dst,.box T x,ty,pos,af,g⟩ ⟨env,heap⟩ K ()=cE K (tT P T heap.length (ev env x)):=O1
theorem XM{T:av}{a:Array (Nat×ao)}:dR P ag ⟨dst,.build T a,ty,pos,af,g⟩ ⟨env,heap⟩ K ()=cE K (qX P T (a.toList.map fun(i,x)=>(i,ev env x))):=MA
theorem SP{T:av}{n:Nat}{a:Array (Nat×ao)}:dR P ag ⟨dst,.buildSlice T n a,ty,pos,af,g⟩ ⟨env,heap⟩ K ()=cE K (qo P T n (a.toList.map fun(i,x)=>(i,ev env x)) heap.length):=HV
theorem Y7{T:av}{a:ao}:dR P ag ⟨dst,.load T a,ty,pos,af,g⟩ ⟨env,heap⟩ K ()=cE K (pJ P T heap (ev env a)):=N1
theorem XH{T:av}{a x:ao}:dR P ag ⟨dst,.store T a x,ty,pos,af,g⟩ ⟨env,heap⟩ K ()=cE K (pA P T heap (ev env a) (ev env x)):=Mw
theorem Y1{op:BinOp}{T a:av}{x y:ao}:dR P ag ⟨dst,.binOp op T x y a,ty,pos,af,g⟩ ⟨env,heap⟩ K ()=cE K (bG P op T (me y) heap (ev env x) (ev env y)):=O0
theorem Ze{op:UnOp}{T:av}{x:ao}:dR P ag ⟨dst,.unOp op T x,ty,pos,af,g⟩ ⟨env,heap⟩ K ()=cE K (rZ op (ev env x)):=O5
theorem Y4{S D:av}{x:ao}:dR P ag ⟨dst,.convert S D x,ty,pos,af,g⟩ ⟨env,heap⟩ K ()=cE K (rh P S D heap (ev env x)):=N4
theorem Uk{t:ao}{i:Nat}:dR P ag ⟨dst,.extract t i,ty,pos,af,g⟩ ⟨env,heap⟩ K ()=cE K (qB (ev env t) i):=Kc
theorem TN{T:av}{a:ao}{f:Nat}:dR P ag ⟨dst,.fieldAddr T a f,ty,pos,af,g⟩ ⟨env,heap⟩ K ()=cE K (oN P T (ev env a) f):=Iq
theorem TM{T:av}{x i:ao}:dR P ag ⟨dst,.indexAddr T x i,ty,pos,af,g⟩ ⟨env,heap⟩ K ()=cE K (oM P T heap (ev env x) (ev env i)):=Ip
theorem XK{T:av}{x i:ao}:dR P ag ⟨dst,.index T x i,ty,pos,af,g⟩ ⟨env,heap⟩ K ()=cE K (q8 P T (ev env x) (ev env i)):=Mz
theorem Y6{x:ao}{a:Array av}:dR P ag ⟨dst,.call {callee:=.builtin .len,args:=#[x],argTypes:=a},ty,pos,af,g⟩ ⟨env,heap⟩ K ()=cE K (rQ P (a.getD 0 0) a.size heap (ev env x)):=O2
theorem Y3{f:ao}{args:List ao}{a:Array av}:dR P ag ⟨dst,.call {callee:=.value f,args:=args.toArray,argTypes:=a},ty,pos,af,g⟩ ⟨env,heap⟩ K ()=Dw P heap K (ev env f) (args.map (ev env)):=N5
theorem aDQ{x:ao}:dV P ag ⟨dst,.move x,ty,pos,af,g⟩ L ⟨env,heap⟩ ()=eA dst ⟨env,heap⟩ L {v:=ev env x}:=NG
theorem Vu{x:ao}:dV P ag ⟨dst,.assign x,ty,pos,af,g⟩ L ⟨env,heap⟩ ()=eA dst ⟨env,heap⟩ L {v:=ev env x}:=Kn
theorem aDS{c a b:ao}:dV P ag ⟨dst,.pick c a b,ty,pos,af,g⟩ L ⟨env,heap⟩ ()=cE (eA dst ⟨env,heap⟩ L) (rr (ev env c) (ev env a) (ev env b)):=NC
theorem Xs{T:av}:dV P ag ⟨dst,.alloc T,ty,pos,af,g⟩ L ⟨env,heap⟩ ()=cE (eA dst ⟨env,heap⟩ L) (qZ P T heap.length):=Md
theorem aDE{T:av}{x:ao}:dV P ag ⟨dst,.box T x,ty,pos,af,g⟩ L ⟨env,heap⟩ ()=cE (eA dst ⟨env,heap⟩ L) (tT P T heap.length (ev env x)):=QA
theorem Xr{T:av}{a:Array (Nat×ao)}:dV P ag ⟨dst,.build T a,ty,pos,af,g⟩ L ⟨env,heap⟩ ()=cE (eA dst ⟨env,heap⟩ L) (qX P T (a.toList.map fun(i,x)=>(i,ev env x))):=Mc
theorem SY{T:av}{n:Nat}{a:Array (Nat×ao)}:dV P ag ⟨dst,.buildSlice T n a,ty,pos,af,g⟩ L ⟨env,heap⟩ ()=cE (eA dst ⟨env,heap⟩ L) (qo P T n (a.toList.map fun(i,x)=>(i,ev env x)) heap.length):=HO
theorem aDM{T:av}{a:ao}:dV P ag ⟨dst,.load T a,ty,pos,af,g⟩ L ⟨env,heap⟩ ()=cE (eA dst ⟨env,heap⟩ L) (pJ P T heap (ev env a)):=NH
theorem Xm{T:av}{a x:ao}:dV P ag ⟨dst,.store T a x,ty,pos,af,g⟩ L ⟨env,heap⟩ ()=cE (eA dst ⟨env,heap⟩ L) (pA P T heap (ev env a) (ev env x)):=Mq
theorem aDy{op:BinOp}{T a:av}{x y:ao}:dV P ag ⟨dst,.binOp op T x y a,ty,pos,af,g⟩ L ⟨env,heap⟩ ()=cE (eA dst ⟨env,heap⟩ L) (bG P op T (me y) heap (ev env x) (ev env y)):=Qz
theorem aDT{op:UnOp}{T:av}{x:ao}:dV P ag ⟨dst,.unOp op T x,ty,pos,af,g⟩ L ⟨env,heap⟩ ()=cE (eA dst ⟨env,heap⟩ L) (rZ op (ev env x)):=QF
theorem aDJ{S D:av}{x:ao}:dV P ag ⟨dst,.convert S D x,ty,pos,af,g⟩ L ⟨env,heap⟩ ()=cE (eA dst ⟨env,heap⟩ L) (rh P S D heap (ev env x)):=NK
theorem Ut{t:ao}{i:Nat}:dV P ag ⟨dst,.extract t i,ty,pos,af,g⟩ L ⟨env,heap⟩ ()=cE (eA dst ⟨env,heap⟩ L) (qB (ev env t) i):=Jq
theorem S8{T:av}{a:ao}{f:Nat}:dV P ag ⟨dst,.fieldAddr T a f,ty,pos,af,g⟩ L ⟨env,heap⟩ ()=cE (eA dst ⟨env,heap⟩ L) (oN P T (ev env a) f):=Ig
theorem Tn{T:av}{x i:ao}:dV P ag ⟨dst,.indexAddr T x i,ty,pos,af,g⟩ L ⟨env,heap⟩ ()=cE (eA dst ⟨env,heap⟩ L) (oM P T heap (ev env x) (ev env i)):=Ie
theorem Xp{T:av}{x i:ao}:dV P ag ⟨dst,.index T x i,ty,pos,af,g⟩ L ⟨env,heap⟩ ()=cE (eA dst ⟨env,heap⟩ L) (q8 P T (ev env x) (ev env i)):=Mb
theorem aDL{x:ao}{a:Array av}:dV P ag ⟨dst,.call {callee:=.builtin .len,args:=#[x],argTypes:=a},ty,pos,af,g⟩ L ⟨env,heap⟩ ()=cE (eA dst ⟨env,heap⟩ L) (rQ P (a.getD 0 0) a.size heap (ev env x)):=QB
theorem aDH{f:ao}{args:List ao}{a:Array av}:dV P ag ⟨dst,.call {callee:=.value f,args:=args.toArray,argTypes:=a},ty,pos,af,g⟩ L ⟨env,heap⟩ ()=zE P heap (QI dst ⟨env,heap⟩ L) (ev env f) (args.map (ev env)):=NL
theorem XI{T:av}{x:ao}{lo hi:Option ao}:dR P ag ⟨dst,.slice T x lo hi none,ty,pos,af,g⟩ ⟨env,heap⟩ K ()=cE K (pC P T heap (ev env x) (lo.map (ev env)) (hi.map (ev env))):=Mx
theorem Xn{T:av}{x:ao}{lo hi:Option ao}:dV P ag ⟨dst,.slice T x lo hi none,ty,pos,af,g⟩ L ⟨env,heap⟩ ()=cE (eA dst ⟨env,heap⟩ L) (pC P T heap (ev env x) (lo.map (ev env)) (hi.map (ev env))):=L9
theorem VR{T:av}{x i:ao}{ok:Bool}:dR P ag ⟨dst,.lookup T x i ok,ty,pos,af,g⟩ ⟨env,heap⟩ K ()=cE K (rl P T heap (ev env x) (ev env i) ok):=K4
theorem Vs{T:av}{x i:ao}{ok:Bool}:dV P ag ⟨dst,.lookup T x i ok,ty,pos,af,g⟩ L ⟨env,heap⟩ ()=cE (eA dst ⟨env,heap⟩ L) (rl P T heap (ev env x) (ev env i) ok):=Kl
theorem TK{T:av}{m k x:ao}:dR P ag ⟨dst,.mapUpdate T m k x,ty,pos,af,g⟩ ⟨env,heap⟩ K ()=cE K (mc P T heap (ev env m) (ev env k) (ev env x)):=IE
theorem Tl{T:av}{m k x:ao}:dV P ag ⟨dst,.mapUpdate T m k x,ty,pos,af,g⟩ L ⟨env,heap⟩ ()=cE (eA dst ⟨env,heap⟩ L) (mc P T heap (ev env m) (ev env k) (ev env x)):=Ib
theorem VS{T:av}{m k x:ao}:dR P ag ⟨dst,.insert T m k x,ty,pos,af,g⟩ ⟨env,heap⟩ K ()=cE K (mc P T heap (ev env m) (ev env k) (ev env x)):=K5
theorem Vt{T:av}{m k x:ao}:dV P ag ⟨dst,.insert T m k x,ty,pos,af,g⟩ L ⟨env,heap⟩ ()=cE (eA dst ⟨env,heap⟩ L) (mc P T heap (ev env m) (ev env k) (ev env x)):=Km
theorem XJ{T:av}{x:ao}:dR P ag ⟨dst,.range T x,ty,pos,af,g⟩ ⟨env,heap⟩ K ()=cE K (qR P T heap.length (ev env x)):=My
theorem Xo{T:av}{x:ao}:dV P ag ⟨dst,.range T x,ty,pos,af,g⟩ L ⟨env,heap⟩ ()=cE (eA dst ⟨env,heap⟩ L) (qR P T heap.length (ev env x)):=Ma
theorem Zb{it:ao}:dR P ag ⟨dst,.next it true,ty,pos,af,g⟩ ⟨env,heap⟩ K ()=cE K (rz heap (ev env it)):=Ol
theorem aDR{it:ao}:dV P ag ⟨dst,.next it true,ty,pos,af,g⟩ L ⟨env,heap⟩ ()=cE (eA dst ⟨env,heap⟩ L) (rz heap (ev env it)):=ND
theorem TL{T:av}{l c:ao}:dR P ag ⟨dst,.makeSlice T l c,ty,pos,af,g⟩ ⟨env,heap⟩ K ()=cE K (rB P T heap.length (ev env l) (ev env c)):=IF
theorem Tm{T:av}{l c:ao}:dV P ag ⟨dst,.makeSlice T l c,ty,pos,af,g⟩ L ⟨env,heap⟩ ()=cE (eA dst ⟨env,heap⟩ L) (rB P T heap.length (ev env l) (ev env c)):=Ic
theorem TQ{x:ao}:dR P ag ⟨dst,.nilCheck x,ty,pos,af,g⟩ ⟨env,heap⟩ K ()=cE K (qL (ev env x)):=II
theorem T9{x:ao}:dV P ag ⟨dst,.nilCheck x,ty,pos,af,g⟩ L ⟨env,heap⟩ ()=cE (eA dst ⟨env,heap⟩ L) (qL (ev env x)):=I9
theorem Y9{args:Array ao}{a:Array av}:dR P ag ⟨dst,.call {callee:=.builtin .min,args,argTypes:=a},ty,pos,af,g⟩ ⟨env,heap⟩ K ()=cE K (kH false (args.toList.map (ev env))):=O4
theorem aDP{args:Array ao}{a:Array av}:dV P ag ⟨dst,.call {callee:=.builtin .min,args,argTypes:=a},ty,pos,af,g⟩ L ⟨env,heap⟩ ()=cE (eA dst ⟨env,heap⟩ L) (kH false (args.toList.map (ev env))):=QD
theorem Y8{args:Array ao}{a:Array av}:dR P ag ⟨dst,.call {callee:=.builtin .max,args,argTypes:=a},ty,pos,af,g⟩ ⟨env,heap⟩ K ()=cE K (kH true (args.toList.map (ev env))):=O3
theorem aDO{args:Array ao}{a:Array av}:dV P ag ⟨dst,.call {callee:=.builtin .max,args,argTypes:=a},ty,pos,af,g⟩ L ⟨env,heap⟩ ()=cE (eA dst ⟨env,heap⟩ L) (kH true (args.toList.map (ev env))):=QC
theorem Uj{T:av}:dR P ag ⟨dst,.makeMap T none,ty,pos,af,g⟩ ⟨env,heap⟩ K ()=K {v:=.map heap.length,aQ:=[.map false []]}:=Kb
theorem Us{T:av}:dV P ag ⟨dst,.makeMap T none,ty,pos,af,g⟩ L ⟨env,heap⟩ ()=eA dst ⟨env,heap⟩ L {v:=.map heap.length,aQ:=[.map false []]}:=JX
theorem VU{s x:ao}{T X:av}:dR P ag ⟨dst,.call {callee:=.builtin .append,args:=#[s,x],argTypes:=#[T,X]},ty,pos,af,g⟩ ⟨env,heap⟩ K ()=cE K (pz P T X heap (ev env s) (ev env x)):=K7
theorem Vv{s x:ao}{T X:av}:dV P ag ⟨dst,.call {callee:=.builtin .append,args:=#[s,x],argTypes:=#[T,X]},ty,pos,af,g⟩ L ⟨env,heap⟩ ()=cE (eA dst ⟨env,heap⟩ L) (pz P T X heap (ev env s) (ev env x)):=Ko
theorem Y5{s x:ao}{T X:av}:dR P ag ⟨dst,.call {callee:=.builtin .copy,args:=#[s,x],argTypes:=#[T,X]},ty,pos,af,g⟩ ⟨env,heap⟩ K ()=cE K (copyV P T heap (ev env s) (ev env x)):=N2
theorem aDK{s x:ao}{T X:av}:dV P ag ⟨dst,.call {callee:=.builtin .copy,args:=#[s,x],argTypes:=#[T,X]},ty,pos,af,g⟩ L ⟨env,heap⟩ ()=cE (eA dst ⟨env,heap⟩ L) (copyV P T heap (ev env s) (ev env x)):=NJ
theorem YP{f:ap}{fi ca:List AV}{args:List AV}{M:AV->Heap->Prop}:zE P heap M (.func f fi ca) args=kx P false f M (fi++args++ca) heap:=OX
theorem YS{f:ap}{fi ca:List AV}{args:List AV}:Dw P heap K (.func f fi ca) args=nR P f K (fi++args++ca) heap:=N6
theorem YR{f:ap}{fi ca:List PV}{args:List AV}{M:AV->Heap->Prop}:zE P heap M (.p (.func f fi ca)) args=kx P false f M (fi.map .p++args++ca.map .p) heap:=OY
theorem YT{f:ap}{fi ca:List PV}{args:List AV}:Dw P heap K (.p (.func f fi ca)) args=nR P f K (fi.map .p++args++ca.map .p) heap:=OZ
end ops
section guards
variable{ops:Array Oper}{o:Oper}{r:List Oper}{K:St->Prop}{want t:Bool}{s:St}{i:Nat}{acc:List Touch}
theorem TD:Dq P ag ops o r K want s (.p (.bool t))=if t=want then dV P ag o (pW P ag ops r K) s ()else pW P ag ops r K ⟨put o.dst (.p (.aE [])) s.env,s.heap⟩:=Ix
theorem T7:Dq P ag ops o r K want s (.p (.aE []))=pW P ag ops r K ⟨put o.dst (.p (.aE [])) s.env,s.heap⟩:=Je
theorem S2:CF P ag ops o r i acc K want s (.p (.bool t))=if t=want then dR P ag o s (Dj P ag ops r i acc K o.dst s) ()else ru P ag ops r (i+1) acc K ⟨put o.dst (.p (.aE [])) s.env,s.heap⟩:=HT
theorem TC:CF P ag ops o r i acc K want s (.p (.aE []))=ru P ag ops r (i+1) acc K ⟨put o.dst (.p (.aE [])) s.env,s.heap⟩:=Iw
end guards
theorem SU{id:Nat}{Q:bp->St->Prop}{s:St}:qY id Q .normal s=Q .normal s:=(rfl)
theorem Ug{id i:Nat}{Q:bp->St->Prop}{s:St}:qY id Q (.exit i) s=if i=id then Q .normal s else Q (.exit i) s:=(rfl)
theorem Vf{id:Nat}{Q:bp->St->Prop}{s:St}:qY id Q .ret s=Q .ret s:=(rfl)
section makeFunc
variable{dst:Option Tmp}{ty:Nat}{pos:String}{af:Array Edge}{g:Option (Nat×Bool)}{env:Env}{heap:Heap}{L:St->Prop}{K:aS->Prop}{f:ap}{fi ca:Array ao}
theorem Ua(hf:ag f=false):dV P ag ⟨dst,.makeFunc (.func f) fi ca,ty,pos,af,g⟩ L ⟨env,heap⟩ ()=cE (eA dst ⟨env,heap⟩ L) (rj f (fi.toList.map (ev env)) (ca.toList.map (ev env))):=Ja hf
theorem TR(hf:ag f=false):dR P ag ⟨dst,.makeFunc (.func f) fi ca,ty,pos,af,g⟩ ⟨env,heap⟩ K ()=cE K (rj f (fi.toList.map (ev env)) (ca.toList.map (ev env))):=IJ hf
end makeFunc
theorem U3{p:Prop}{e:aS}{K:aS->Prop}:cE K (some (p,e))=(p/\K e):=(rfl)
theorem U4{K:aS->Prop}:cE K none=False:=(rfl)
theorem UL{a:Array Oper}:yT a []=true:=(rfl)
theorem Tz{a:Array Oper}{t:Touch}{r:List Touch}:yT a (t::r)=(r.all (fun u=>!jd u t||aEO a u.i t.i)&&yT a r):=(rfl)
theorem VN{a:List ay}{v:PV}{s:St}:rH P a v .ret s=∃vs,fE P s a=some vs/\gB s.heap 9 (oneOf vs) v:=by simp[rH]
theorem TH{a:List ay}{v:PV}{s:St}:rH P a v .normal s=∃vs,fE P s a=some vs/\gB s.heap 9 (oneOf vs) v:=by simp[rH]
section pur
variable{H:Heap}
theorem EI{n:Nat}{a v:PV}:gB H n (.p a) v=Wk a v:=by cases n<;>rfl
theorem Nc{n b ar z off len:Nat}{fs:List PV}:gB H (n+1) (.sl b ar z off len) (.seq fs)=match H[b]? with
  |some (.arr _ a c es)=>ar=a/\z=c/\off+len<=es.length/\ml H n ((es.drop off).take len) fs
  |_=>False:=(rfl)
theorem aEA{n:Nat}{u u':av}{a:List AV}{vs:List PV}:gB H (n+1) (.st u a) (.st u' vs)=(u=u'/\ml H n a vs):=(rfl)
theorem aEB{n:Nat}{a:List AV}{vs:List PV}:gB H (n+1) (.aE a) (.aE vs)=ml H n a vs:=(rfl)
theorem Mp{n b:Nat}{a:List (PV×PV)}:gB H (n+1) (.map b) (.eJ a)=match H[b]? with
  |some (.map _ c)=>c=a
  |_=>False:=(rfl)
theorem aEu{n:Nat}{f a:ap}{c d:List AV}{vs b:List PV}:gB H (n+1) (.func f c d) (.func a vs b)=(f=a/\ml H n c vs/\ml H n d b):=(rfl)
theorem ya{n:Nat}{vs:List PV}:ml H n [] vs=(vs=[]):=(rfl)
theorem BD{n:Nat}{x:AV}{a:List AV}{v:PV}{vs:List PV}:ml H n (x::a) (v::vs)=(gB H n x v/\ml H n a vs):=(rfl)
theorem Ki{α:Type}{n:Nat}{g:α->AV}{f:α->PV}:∀{l:List α},ml H n (l.map g) (l.map f)=∀x∈l,gB H n (g x) (f x)
 |[]=>by simp[ya]
 |a::l=>by simp[BD,Ki (l:=l)]
theorem sX(n:Nat)(c:∀(x:AV)(v:PV),gB H n x v->∃v',eh H n x=some v'/\Wk v' v):∀(b:List AV)(vs:List PV),ml H n b vs->∃a,jJ (eh H n) b=some a/\bA a vs
 |[],vs,h=>by rw[ya]at h;subst h;exact⟨[],rfl,by simp[bA]⟩
 |x::b,vs,h=>by
  cases vs with
  |nil=>exact h.elim
  |cons v vs=>
   rw[BD]at h;obtain⟨p,d,e⟩:=c x v h.1;obtain⟨a,f,g⟩:=sX n c b vs h.2;exact⟨p::a,by simp[jJ,d,f],by simp only[bA];exact⟨e,g⟩⟩
theorem qV:∀(n:Nat)(x:AV)(v:PV),gB H n x v->∃v',eh H n x=some v'/\Wk v' v
 |0,x,v,h=>by
  cases x with
  |p a=>exact⟨_,rfl,h⟩
  |_=>exact h.elim
 |n+1,x,v,h=>by
  cases x with
  |p a=>rw[EI]at h;exact⟨_,rfl,h⟩
  |sl b ar z off len=>
   cases v with
   |seq fs=>
    rw[Nc]at h
    split at h
    case h_2=>exact h.elim
    rename_i k C E j e;obtain⟨rfl,rfl,m,g⟩:=h;obtain⟨i,c,d⟩:=sX n (qV n) _ _ g;simp only[eh,e,m,and_self,if_true]
    split
    ·rename_i r;rw[r.2]at g;simp only[List.drop_nil,List.take_nil,ya]at g;exact⟨_,rfl,by rw[g];simp[Wk]⟩
    ·rw[c];exact⟨_,rfl,by simp only[Wk];exact d⟩
   |_=>exact h.elim
  |st u xs=>
   cases v with
   |st u' vs=>
    obtain⟨rfl,h⟩:=h;obtain⟨i,c,d⟩:=sX n (qV n) _ _ h;simp only[eh,c];exact⟨_,rfl,by simp only[Wk];exact⟨trivial,d⟩⟩
   |_=>exact h.elim
  |aE xs=>
   cases v with
   |aE vs=>
    obtain⟨i,c,d⟩:=sX n (qV n) _ _ h;simp only[eh,c];exact⟨_,rfl,by simp only[Wk];exact d⟩
   |_=>exact h.elim
  |ptr b path=>
   cases v with
   |ct t=>
    change (match H[b]? with
     |some (.box _ y)=>match eM y path with
      |some s=>gB H n s t
      |none=>False
     |_=>False)at h
    split at h
    case h_2=>exact h.elim
    rename_i e
    split at h
    case h_2=>exact h.elim
    rename_i s hs;obtain⟨p,c,d⟩:=qV n _ _ h;simp only[eh,e,hs,c];exact⟨_,rfl,by simp only[Wk];exact d⟩
   |_=>exact h.elim
  |bV _ _ _ _ _=>exact h.elim
  |map b=>
   cases v with
   |eJ j=>
    rw[Mp]at h
    split at h
    case h_2=>exact h.elim
    rename_i fz w e;subst h;simp only[eh,e];exact⟨_,rfl,Wk.refl _⟩
   |_=>exact h.elim
  |func f xs D=>
   cases v with
   |func A vs us=>
    obtain⟨rfl,h,l⟩:=h;obtain⟨i,c,d⟩:=sX n (qV n) _ _ h;obtain⟨B,o,q⟩:=sX n (qV n) _ _ l;simp only[eh,c,o];exact⟨_,rfl,by simp only[Wk];exact⟨trivial,d,q⟩⟩
   |_=>exact h.elim
end pur
theorem WB{f:ap}{fn:Func}(ag:ap->Bool)(h:an P f fn)(n:P.follows .mixedOrders=true){args:List PV}{v:PV}(o:args.length<=fn.ntmps)
 (d:eP P ag (fn.ntmps,0) (fn.body.getD .skip) (rH P fn.results.toList v) ⟨iD 0 (args.map .p),[]⟩):rF P f args v:=by
 have hs:=h.stat;simp only[ac,bne_iff_ne]at hs;have k:fn.body=some (fn.body.getD .skip):=by
  have a:=hs.1.1;clear d hs;cases l:fn.body with
  |none=>rw[l]at a;simp at a
  |some c=>rfl
 obtain⟨e,s,⟨a,vs,g,b⟩,j⟩:=nt _ _ _ (lI (Q':=rH P fn.results.toList v) _ (fun _ _ h=>h) d);obtain⟨v',b,i⟩:=qV _ _ _ b;have m:rF P f args v':=KX (oI ag) (xK (oI ag) n) h.enters h.func k hs.2 o (j (Ends P fn.results.toList v') ⟨by cases e<;>exact a,vs,g,b⟩);exact m.cV (bA.refl _) i
theorem aI{f:ap}{fn:Func}(ag:ap->Bool)(h:an P f fn)(a:P.follows .mixedOrders=true){args:List PV}{v:PV}(hn:args.length<=fn.ntmps)
 (b:eP P ag (fn.ntmps,0) (fn.body.getD .skip) (rH P fn.results.toList v) ⟨iD 0 (args.map .p),[]⟩):aw P f args v:=.inl (WB ag h a hn b)
theorem QM{α:Type}{N:Nat×Nat->Prop}{f:α->PV}{l:List α}:aR N (l.map fun x=>.p (f x))=True:=by
 rw[cG,eq_iff_iff,iff_true];intro v a;simp only[a1]at a;obtain⟨x,_,rfl⟩:=a;trivial
theorem aFe{α:Type}{N:Nat×Nat->Prop}{f:α->PV}{l:List α}{i:Nat}:aR N ((l.map fun x=>.p (f x)).take i)=True:=by
 rw[cG,eq_iff_iff,iff_true];intro v a;have a:=List.mem_of_mem_take a;simp only[a1]at a;obtain⟨x,_,rfl⟩:=a;trivial
theorem VE{N:Nat×Nat->Prop}{a b:List AV}:aR N (a++b)=(aR N a/\aR N b):=by
 simp only[cG,List.mem_append,eq_iff_iff];exact⟨fun h=>⟨fun v c=>h v (.inl c),fun v c=>h v (.inr c)⟩,fun h v c=>c.elim (h.1 v) (h.2 v)⟩
theorem SD{α:Type}{l:List α}{i:Nat}:(l.take i).take i=l.take i:=by simp[List.take_take]
theorem SC{α β:Type}{f:α->β}{l:List α}:(l.map f).take l.length=l.map f:=List.take_of_length_le (by simp)
section loops
variable{α:Type}(N:Nat)(mk:α->St)(ok:α->Prop)(m:α->Nat)(n:Nat)(Q:bp->St->Prop)
def EW(s:Tg (N,mk,ok,m,n) St):Prop:=ur N mk ok m n s
def zk(e:Tg (N,mk,ok,m,n,Q) bp)(s:Tg (N,mk,ok,m,n,Q) St):Prop:=rk N mk ok m n Q e s
variable{N}{mk}{ok}{m}{n}{Q}{s s':St}
theorem Te:zk N mk ok m n Q .normal s=EW N mk ok m n s:=(rfl)
theorem UA{id:Nat}:zk N mk ok m n Q (.exit id) s=Q (.exit id) s:=(rfl)
theorem Vq:zk N mk ok m n Q .ret s=Q .ret s:=(rfl)
theorem lp{d:Nat}{b:Code}(mk:α->St)(ok:α->Prop)(m:α->Nat)(c:α)(e:ok c)(gT:∀a,ok a->eP P ag (d,N) b (zk N mk ok m (m a) Q) (mk a))
 (hn:(mk c).heap.take N=s.heap.take N:=by simp)(he:lU (mk c).heap s.env (mk c).env:=by simp)(hh:iR (mk c).heap s.heap (mk c).heap:=by simp)(hr:iF (mk c).heap (mk c).env:=by simp)(hr2:eE (mk c).heap (mk c).heap:=by simp):
 eP P ag (d,N) (.loop b) Q s:=wl (q:=(d,N)) mk ok m c e gT hn he hh hr hr2
theorem rd(a':α)(a:ok a')(h1:m a'<n:=by omega)(hn:(mk a').heap.take N=s.heap.take N:=by simp)(he:lU (mk a').heap s.env (mk a').env:=by simp)(hh:iR (mk a').heap s.heap (mk a').heap:=by simp)(hr:iF (mk a').heap (mk a').env:=by simp)(hr2:eE (mk a').heap (mk a').heap:=by simp):
 EW N mk ok m n s:=rnd a' a h1 hn he hh hr hr2
end loops
section calls
variable{f:ap}{H H1:Heap}{K:AV->Heap->Prop}{L:aS->Prop}{v a b c d e a' b' c' d' e':PV}
theorem c0(h:aw P f [] v)(hk:K (.p v) H):kx P false f K [] H:=YU h hk
theorem c1(h:aw P f [a'] v)(hk:K (.p v) H)(h1:Wk a a':=by first|exact Wk.refl _|simp):kx P false f K [.p a] H:=YV h hk h1
theorem c2(h:aw P f [a',b'] v)(hk:K (.p v) H)(h1:Wk a a':=by first|exact Wk.refl _|simp)(c:Wk b b':=by first|exact Wk.refl _|simp):kx P false f K [.p a,.p b] H:=YW h hk h1 c
theorem c3(h:aw P f [a',b',c'] v)(hk:K (.p v) H)(h1:Wk a a':=by first|exact Wk.refl _|simp)(d:Wk b b':=by first|exact Wk.refl _|simp)(e:Wk c c':=by first|exact Wk.refl _|simp):kx P false f K [.p a,.p b,.p c] H:=YX h hk h1 d e
theorem c4(h:aw P f [a',b',c',d'] v)(hk:K (.p v) H)(e:Wk a a':=by first|exact Wk.refl _|simp)(g:Wk b b':=by first|exact Wk.refl _|simp)(i:Wk c c':=by first|exact Wk.refl _|simp)(j:Wk d d':=by first|exact Wk.refl _|simp):kx P false f K [.p a,.p b,.p c,.p d] H:=YY h hk e g i j
theorem c5(h:aw P f [a',b',c',d',e'] v)(hk:K (.p v) H)(g:Wk a a':=by first|exact Wk.refl _|simp)(i:Wk b b':=by first|exact Wk.refl _|simp)(j:Wk c c':=by first|exact Wk.refl _|simp)(k:Wk d d':=by first|exact Wk.refl _|simp)(l:Wk e e':=by first|exact Wk.refl _|simp):kx P false f K [.p a,.p b,.p c,.p d,.p e] H:=YZ h hk g i j k l
theorem e0(h:aw P f [] v)(hk:L {v:=.p v}):nR P f L [] H:=YD h hk
theorem e1(h:aw P f [a'] v)(hk:L {v:=.p v})(h1:Wk a a':=by first|exact Wk.refl _|simp):nR P f L [.p a] H:=YE h hk h1
theorem e2(h:aw P f [a',b'] v)(hk:L {v:=.p v})(h1:Wk a a':=by first|exact Wk.refl _|simp)(c:Wk b b':=by first|exact Wk.refl _|simp):nR P f L [.p a,.p b] H:=YF h hk h1 c
theorem e3(h:aw P f [a',b',c'] v)(hk:L {v:=.p v})(h1:Wk a a':=by first|exact Wk.refl _|simp)(d:Wk b b':=by first|exact Wk.refl _|simp)(e:Wk c c':=by first|exact Wk.refl _|simp):nR P f L [.p a,.p b,.p c] H:=YG h hk h1 d e
theorem e4(h:aw P f [a',b',c',d'] v)(hk:L {v:=.p v})(e:Wk a a':=by first|exact Wk.refl _|simp)(g:Wk b b':=by first|exact Wk.refl _|simp)(i:Wk c c':=by first|exact Wk.refl _|simp)(j:Wk d d':=by first|exact Wk.refl _|simp):nR P f L [.p a,.p b,.p c,.p d] H:=YH h hk e g i j
theorem e5(h:aw P f [a',b',c',d',e'] v)(hk:L {v:=.p v})(g:Wk a a':=by first|exact Wk.refl _|simp)(i:Wk b b':=by first|exact Wk.refl _|simp)(j:Wk c c':=by first|exact Wk.refl _|simp)(k:Wk d d':=by first|exact Wk.refl _|simp)(l:Wk e e':=by first|exact Wk.refl _|simp):nR P f L [.p a,.p b,.p c,.p d,.p e] H:=YI h hk g i j k l
theorem cp{args:List AV}{vs a:List PV}(h:aw P f a v)(b:mZ H args=some (vs,H1))(hk:K (.p v) H1)(h1:bA vs a:=by first|exact bA.refl _|simp):kx P false f K args H:=Y0 h b hk h1
theorem ep{args:List AV}{vs a:List PV}{bs:List Nat}{ak aJ:List (Nat×Obj)}(h:aw P f a v)(b:nU H args=some (vs,bs))(hf:lj H bs=some (ak,aJ))(hk:L {v:=.p v,ak,aJ})(h1:bA vs a:=by first|exact bA.refl _|simp):nR P f L args H:=YK h b hf hk h1
theorem ci{args:List AV}{H':Heap}{v:AV}(h:c7 P f H args H' v)(hk:K v H'):kx P false f K args H:=.inr ⟨rfl,.inr (.inl ⟨H',v,h,hk⟩)⟩
end calls
attribute [simp] QM aFe VE SD EI Nc aEA aEB Mp aEu ya BD Ki SC aR SU Ug Vf TD T7 S2 TC Ua TR U3 U4 UL Tz VN TH Te UA Vq mZ kK nU mh lj l9
 aHk Wi aHh aHj Wg aHg Wh bh KJ aHf Tj UU U1 TS VJ XC Xj aHn Wf Vm aHx We Vl Za VT Zc XN Y2 XM SP Y7 XH Y1 Ze Y4 Uk TN TM XK Y6 Y3 aDQ Vu aDS Xs aDE Xr SY aDM Xm aDy aDT aDJ Ut S8 Tn Xp aDL aDH XI Xn VR Vs TK Tl VS Vt XJ Xo Zb aDR TL Tm TQ T9 Y9 aDP Y8 aDO Uj Us VU Vv Y5 aDK YP YS YR YT
end
section
variable{P:ax}{ag:ap->Bool}{q:Cx}
theorem JL{r:eC}{K a:aS->Prop}(hk:∀e,K e->a e)(h:ba r K):ba r a:=by
 unfold ba at h⊢
 split at h
 ·exact⟨h.1,hk _ h.2⟩
 ·exact h.elim
theorem Uy{o:Oper}{e:Env}{H:Heap}{K a:aS->Prop}(hk:∀e,K e->a e)(h:fy P ag o (ev e) H K):fy P ag o (ev e) H a:=by
 obtain⟨x,b,c⟩:=Ct (ag:=ag) o (ev e) H K h;exact c a (hk x b)
theorem Ld{o:Oper}{e:Env}{H:Heap}{K a:aS->Prop}(hk:∀e,K e->a e)(h:kI P ag o e H K):kI P ag o e H a:=by
 unfold kI at h⊢
 repeat' split at h
 all_goals first|exact hk _ h|exact JL hk h|exact⟨h.1,JL hk h.2⟩|exact Uy hk h|exact h.elim
theorem Is{d:Bool}{f:ap}{args:List AV}{H:Heap}{K i:AV->Heap->Prop}(hk:∀v H,K v H->i v H)(h:gP P d f args H K):gP P d f args H i:=by
 rcases h with⟨vs,v,a,b,c⟩|⟨g,⟨vs,H1,v,a,b,c⟩|⟨H',v,a,b⟩|⟨e,a,b,c⟩|⟨ak,v,a,b,c⟩⟩
 ·exact .inl ⟨vs,v,a,b,hk _ _ c⟩
 ·exact .inr ⟨g,.inl ⟨vs,H1,v,a,b,hk _ _ c⟩⟩
 ·exact .inr ⟨g,.inr (.inl ⟨H',v,a,hk _ _ b⟩)⟩
 ·exact .inr ⟨g,.inr (.inr (.inl ⟨e,a,b,hk _ _ c⟩))⟩
 ·exact .inr ⟨g,.inr (.inr (.inr ⟨ak,v,a,b,hk _ _ c⟩))⟩
theorem IU{f:ap}{args:List AV}{H:Heap}{K d:aS->Prop}(hk:∀e,K e->d e)(h:gV P f args H K):gV P f args H d:=by
 rcases h with⟨vs,v,a,b,c⟩|⟨vs,bs,ak,aJ,v,a,b,c,g⟩|⟨e,a,b,c⟩|⟨ak,v,a,b,c⟩
 ·exact .inl ⟨vs,v,a,b,hk _ c⟩
 ·exact .inr (.inl ⟨vs,bs,ak,aJ,v,a,b,c,hk _ g⟩)
 ·exact .inr (.inr (.inl ⟨e,a,b,hk _ c⟩))
 ·exact .inr (.inr (.inr ⟨ak,v,a,b,hk _ c⟩))
theorem H9{o:Oper}{K b:St->Prop}{s:St}(hk:∀s,K s->b s)(h:df P ag o K s):df P ag o b s:=by
 unfold df at h⊢
 split at h
 ·rename_i f args g i;unfold ri at h⊢
  split at h
  ·exact Is (fun v H a=>hk _ a) h
  ·exact Is (fun v H a=>hk _ a) h
  ·obtain⟨H',v,c,d⟩:=h;exact⟨H',v,c,hk _ d⟩
  ·exact h.elim
 ·exact Ld (fun e a=>hk _ a) h
theorem IA{o:Oper}{s:St}{K a:aS->Prop}(hk:∀e,K e->a e)(h:dh P ag o s K):dh P ag o s a:=by
 unfold dh at h⊢
 split at h
 ·rename_i f args g i;unfold qW at h⊢
  split at h
  ·exact IU hk h
  ·exact IU hk h
  ·obtain⟨e,b,c,d⟩:=h;exact⟨e,b,c,hk _ d⟩
  ·exact h.elim
 ·exact Ld hk h
theorem uY{c:Array Oper}:∀(l:List Oper){K a:St->Prop}{s:St},(∀s,K s->a s)->fT P ag c l K s->fT P ag c l a s
 |[],K,a,s,hk,h=>hk s h
 |o::l,K,a,s,hk,h=>by
  simp only[fT]at h⊢
  split at h
  ·exact H9 (fun s hs=>uY l hk hs) h
  ·split at h
   ·split at h
    ·rename_i b;rw[if_pos b];exact H9 (fun s hs=>uY l hk hs) h
    ·rename_i b;rw[if_neg b];exact uY l hk h
   ·exact uY l hk h
   ·exact h.elim
theorem uV{d:Array Oper}:∀(l:List Oper){i:Nat}{b:List Touch}{K a:St->Prop}{s:St},(∀s,K s->a s)->gd P ag d l i b K s->gd P ag d l i b a s
 |[],i,b,K,a,s,hk,h=>⟨h.1,hk s h.2⟩
 |o::l,i,b,K,a,s,hk,h=>by
  simp only[gd]at h⊢
  split at h
  ·exact IA (fun e hs=>uV l hk hs) h
  ·split at h
   ·split at h
    ·rename_i c;rw[if_pos c];exact IA (fun e hs=>uV l hk hs) h
    ·rename_i c;rw[if_neg c];exact uV l hk h
   ·exact uV l hk h
   ·exact h.elim
theorem nr:∀(c:Code){Q g:bp->St->Prop}{s:St},(∀e s,Q e s->g e s)->dd P ag q c Q s->dd P ag q c g s
 | .skip,Q,g,s,hq,h=>hq _ _ h
 | .label _,Q,g,s,hq,h=>hq _ _ h
 | .exit _,Q,g,s,hq,h=>hq _ _ h
 | .ret,Q,g,s,hq,h=>hq _ _ h
 | .region _ ops draw,Q,g,s,hq,h=>by
  simp only[dd]at h⊢
  split at h
  ·rename_i j;rw[if_pos j];exact uV _ (fun s hs=>hq _ _ hs) h
  ·rename_i j;rw[if_neg j];exact uY _ (fun s hs=>hq _ _ hs) h
 | .seq a b,Q,g,s,hq,h=>by
  simp only[dd]at h⊢;refine nr a (fun e s d=>?_) h;cases e with
  |normal=>exact nr b hq d
  |exit i=>exact hq _ _ d
  |ret=>exact hq _ _ d
 | .cond c a b,Q,g,s,hq,h=>by
  simp only[dd]at h⊢;unfold tK at h⊢
  split at h
  ·split at h
   ·rename_i k;rw[if_pos k];exact nr a hq h
   ·rename_i k;rw[if_neg k];exact nr b hq h
  ·exact h.elim
 | .block id b,Q,g,s,hq,h=>by
  simp only[dd]at h⊢;refine nr b (fun e s d=>?_) h;cases e with
  |normal=>exact hq _ _ d
  |exit i=>
   simp only[nQ]at d⊢
   by_cases hi:i=id
   ·simp only[hi,if_true]at d⊢;exact hq _ _ d
   ·simp only[hi,if_false]at d⊢;exact hq _ _ d
  |ret=>exact hq _ _ d
 | .scope b,Q,g,s,hq,h=>nr b hq h
 | .loop b,Q,g,s,hq,h=>by
  simp only[dd]at h⊢;obtain⟨I,l,m⟩:=h;refine⟨I,l,fun n t hI=>nr b (fun e s d=>?_) (m n t hI)⟩;cases e with
  |normal=>exact d
  |exit id=>exact hq _ _ d
  |ret=>exact hq _ _ d
 | .rangeFunc f o a b,Q,g,s,hq,h=>by
  simp only[dd]at h⊢;exact⟨h.1,Jo (fun H=>Jr hq) h.2⟩
 | .goto _,_,_,_,_,h=>h.elim
 | .refuse _,_,_,_,_,h=>h.elim
def rp(R:St->Prop)(Q:bp->St->Prop)(e:Tg (R,Q) bp)(s:Tg (R,Q) St):Prop:=match e with
 | .normal=>R s
 |e=>Q e s
theorem S6{R:St->Prop}{Q:bp->St->Prop}{s:St}:rp R Q .normal s=R s:=(rfl)
theorem UE{R:St->Prop}{Q:bp->St->Prop}{id:Nat}{s:St}:rp R Q (.exit id) s=Q (.exit id) s:=(rfl)
theorem VY{R:St->Prop}{Q:bp->St->Prop}{s:St}:rp R Q .ret s=Q .ret s:=(rfl)
theorem join{a b:Code}{Q:bp->St->Prop}{s:St}(R:St->Prop)(d:eP P ag q a (rp R Q) s)(f:∀s',R s'->eP P ag q b Q s'):eP P ag q (.seq a b) Q s:=by
 rw[bh];refine nr a (fun e s c=>?_) d;cases e with
 |normal=>exact f s c
 |exit i=>exact c
 |ret=>exact c
theorem QN{α:Type}{N:Nat×Nat->Prop}{f:α->PV}{l:List α}:aR N (l.map (AV.p∘f))=True:=QM
attribute [simp] S6 UE VY QN
end
section
variable{P:ax}{ag:ap->Bool}
def vT(P:ax)(a:List ay)(N:Nat)(H':Heap)(v:AV)(e:Tg (a,N,H',v) bp)(s:Tg (a,N,H',v) St):Prop:=tR P a N H' v e s
theorem UI{a:List ay}{N:Nat}{H':Heap}{v:AV}{s:St}:vT P a N H' v .ret s=∃vs,fE P s a=some vs/\oneOf vs=v/\(H'=s.heap\/(dE N s ⟨[],H'⟩/\aC (aG H') v)):=by simp[vT,tR]
theorem SO{a:List ay}{N:Nat}{H':Heap}{v:AV}{s:St}:vT P a N H' v .normal s=∃vs,fE P s a=some vs/\oneOf vs=v/\(H'=s.heap\/(dE N s ⟨[],H'⟩/\aC (aG H') v)):=by simp[vT,tR]
theorem jc{f:ap}{fn:Func}(ag:ap->Bool)(h:an P f fn)(a:P.follows .mixedOrders=true){args:List AV}{H H':Heap}{v:AV}(b:args.length<=fn.ntmps)
 (c:eP P ag (fn.ntmps,H.length) (fn.body.getD .skip) (vT P fn.results.toList H.length H' v) ⟨iD 0 args,H⟩):c7 P f H args H' v:=
 Pg ag h a b (lI (Q':=tR P fn.results.toList H.length H' v) _ (fun _ _ h=>h) c)
theorem aFK{n i:Nat}:sig [] n i=n+i:=by simp[sig]
theorem cn{f:ap}{H H':Heap}{K:AV->Heap->Prop}{v:AV}{args:List PV}(h:c7 P f [] (args.map .p) H' v)(hk:K (cJ (sig [] H.length) v) (H++H'.map (dm (sig [] H.length)))):kx P false f K (args.map .p) H:=by
 refine .inr ⟨rfl,.inr (.inr (.inl ⟨dw [] H.length [] H' v,?_,⟨by simp[dw],by simp[dw]⟩,?_⟩))⟩
 ·have b:aR (aG ([]:Heap)) (args.map .p):=by rw[cG];intro v c;obtain⟨x,_,rfl⟩:=a1.1 c;trivial
  have:=h.frame [] H.length rfl List.nodup_nil (by simp) (by simp) b (by simp);have e:cQ (sig [] H.length) (args.map .p)=args.map .p:=by
   clear h b this hk
   induction args with
   |nil=>rfl
   |cons a r d=>simp only[a4,cQ,cJ,d]
  rwa [e]at this
 ·simpa[dw,bm]using hk
theorem OV{f:ap}{H H':Heap}{K:AV->Heap->Prop}{v:AV}{a b:PV}(h:c7 P f [] [.p a,.p b] H' v)(hk:K (cJ (sig [] H.length) v) (H++H'.map (dm (sig [] H.length)))):kx P false f K [.p a,.p b] H:=cn (args:=[a,b]) h hk
def Oi(P:ax)(T:av)(f:Nat):Option (av×jk):=match kindOf P T,P.underlying T with
 | .agg u,some (.struct _)=>((jm P u)[f]?).map fun F=>(u,kindOf P F)
 |_,_=>none
def y5(P:ax)(T:av)(f:Nat)(x:AV):eC:=match Oi P T f,x with
 |some (u,k),.p t=>match(cF t)[f]? with
  |some g=>some (aL t=.agg u/\k=aL g,{v:=.p g})
  |none=>none
 |_,_=>none
theorem K0{T:av}{x:AV}{f:Nat}{K:aS->Prop}:(match kindOf P T,P.underlying T,x with
  | .agg u,some (.struct _),.p t=>aL t=.agg u/\(match(cF t)[f]?,(jm P u)[f]? with
   |some g,some F=>kindOf P F=aL g/\K {v:=.p g}
   |_,_=>False)
  |_,_,_=>False)=ba (y5 P T f x) K:=by
 unfold y5 Oi;cases b:kindOf P T with
 |agg u=>cases c:P.underlying T with
  |none=>simp[ba]
  |some d=>cases d with
   |struct fs=>cases x with
    |p t=>cases hc:(jm P u)[f]?<;>cases a:(cF t)[f]?<;>simp[ba,a,hc,and_assoc]
    |_=>cases hc:(jm P u)[f]?<;>simp[ba,hc]
   |_=>simp[ba]
 |_=>simp[ba]
section fields
variable{dst:Option Tmp}{ty:Nat}{pos:String}{af:Array Edge}{g:Option (Nat×Bool)}{env:Env}{heap:Heap}{L:St->Prop}{K:aS->Prop}{T:av}{x:ao}{f:Nat}
theorem Xq:dV P ag ⟨dst,.field T x f,ty,pos,af,g⟩ L ⟨env,heap⟩ ()=cE (eA dst ⟨env,heap⟩ L) (y5 P T f (ev env x)):=K0
theorem XL:dR P ag ⟨dst,.field T x f,ty,pos,af,g⟩ ⟨env,heap⟩ K ()=cE K (y5 P T f (ev env x)):=K0
end fields
theorem x9{σ:Nat->Nat}{α:Type}{f:α->PV}:∀{l:List α},cQ σ (l.map (AV.p∘f))=l.map (AV.p∘f)
 |[]=>rfl
 |a::l=>by simp only[a4,cQ,x9 (l:=l)];rfl
theorem VF{σ:Nat->Nat}{α β:Type}{f:β->PV}{g:α->β}{l:List α}:cQ σ (l.map ((AV.p∘f)∘g))=l.map ((AV.p∘f)∘g):=x9 (f:=f∘g)
theorem aFa{α β:Type}{N:Nat×Nat->Prop}{f:β->PV}{g:α->β}{l:List α}:aR N (l.map ((AV.p∘f)∘g))=True:=QN (f:=f∘g)
attribute [simp] Xq XL VF aFa UI SO aFK cJ cQ dm x9
end
section
variable{P:ax}{ag:ap->Bool}
theorem Lp{T:Heap}:∀{h:Heap},iR T h h=True
 |[]=>by simp[iR]
 |o::h=>by simp[iR,MQ,Lp (h:=h)]
theorem Cr{T:Heap}:∀{h k:Heap},eE T (h++k)=(eE T h/\eE T k)
 |[],k=>by simp[eE]
 |o::h,k=>by simp[eE,Cr (h:=h),and_assoc]
theorem aFc{N:Nat×Nat->Prop}{n:Nat}{v:PV}:aR N (a7 n (.p v))=True:=by
 rw[cG,eq_iff_iff,iff_true];intro x hx;rw[(List.mem_replicate.1 hx).2];trivial
theorem Xg{σ:Nat->Nat}{α:Type}{f:α->PV}{l:List α}:cQ σ (l.map fun x=>.p (f x))=l.map fun x=>.p (f x):=x9 (f:=f)
theorem aET{L:fg}{e:Env}{H:Heap}(h:L.env=e)(a:iF H e):∀x,aC (aG H) (aM L.env x):=by rw[h];exact a.get
def fg.bz(L:fg):fg:={L with st:=.busy}
def fg.dn(L:fg)(j:Code):fg:={L with st:=.done,pending:=some j}
def fg.xh(L:fg):fg:={L with st:=.exhausted}
def Stream(P:ax)(g:ap)(fi ca:List PV)(d:List (List PV)):Prop:=
 ∀(b k:Nat)(c:Nat->Heap)(H':Heap),k<=d.length->(∀i,i<=k->eE (c i) (c i)/\aC (aG (c i)) (.map b))->
  (∀i a,i<k->d[i]?=some a->ir P b (c i) (a.map .p) (c (i+1)) (.p (.bool true)))->
  (k=d.length/\H'=c k\/∃a,d[k]?=some a/\ir P b (c k) (a.map .p) H' (.p (.bool false)))->
  c7 P g (c 0) (fi.map .p++[.map b]++ca.map .p) H' (.p (.aE []))
theorem YQ{b:Nat}{args:List AV}{M:AV->Heap->Prop}{heap:Heap}:zE P heap M (.map b) args=∃H' v,ir P b heap args H' v/\M v H':=(rfl)
def uc(b:Nat)(L:fg)(N:Nat)(H':Heap)(v:Bool)(e:Tg (b,L,N,H',v) bp)(s:Tg (b,L,N,H',v) St):Prop:=
 match e with
 | .normal=>v=true/\(St.heap s)[b]?=some (.loop L.bz)/\dE N ⟨[],(St.heap s).set b (.loop L)⟩ ⟨[],H'⟩
 | .exit id=>v=false/\(St.heap s)[b]?=some (.loop L.bz)/\dE N ⟨[],(St.heap s).set b (.loop (L.dn (.exit id)))⟩ ⟨[],H'⟩
 | .ret=>v=false/\(St.heap s)[b]?=some (.loop L.bz)/\dE N ⟨[],(St.heap s).set b (.loop (L.dn .ret))⟩ ⟨[],H'⟩
section
variable{b N:Nat}{L:fg}{H':Heap}{v:Bool}{s:St}
theorem UY:uc b L N H' v .normal s=(v=true/\s.heap[b]?=some (.loop L.bz)/\dE N ⟨[],s.heap.set b (.loop L)⟩ ⟨[],H'⟩):=(rfl)
theorem Xi{id:Nat}:uc b L N H' v (.exit id) s=(v=false/\s.heap[b]?=some (.loop L.bz)/\dE N ⟨[],s.heap.set b (.loop (L.dn (.exit id)))⟩ ⟨[],H'⟩):=(rfl)
theorem aEK:uc b L N H' v .ret s=(v=false/\s.heap[b]?=some (.loop L.bz)/\dE N ⟨[],s.heap.set b (.loop (L.dn .ret))⟩ ⟨[],H'⟩):=(rfl)
end
def EJ(P:ax)(ag:ap->Bool)(q:Cx)(b:Nat)(c:Code)(L:fg)(H':Heap)(v:Bool)(e:Tg (q,b,c,L,H',v) bp)(s:Tg (q,b,c,L,H',v) St):Prop:=
 match e with
 | .normal=>(St.heap s)[b]?=some (.loop L)/\eP P ag q c (uc b L q.2 H' v) ⟨St.env s,(St.heap s).set b (.loop L.bz)⟩
 |_=>False
theorem UZ{q:Cx}{b:Nat}{c:Code}{L:fg}{H':Heap}{v:Bool}{s:St}:EJ P ag q b c L H' v .normal s=(s.heap[b]?=some (.loop L)/\eP P ag q c (uc b L q.2 H' v) ⟨s.env,s.heap.set b (.loop L.bz)⟩):=(rfl)
theorem Fo(ag:ap->Bool)(r:P.follows .mixedOrders=true){b n:Nat}{L:fg}{H H':Heap}{args:List AV}{v:Bool}{j:List Tmp}{a c:Code}{env:Env}
 (d:L=⟨.ready,none,n,j,a,c,env⟩)(o:H[b]?=some (.loop L))(q:args.length=j.length)
 (t:(j.all (fun x=>decide (x<n))&&codeOk fit n a&&codeOk fit n c)=true)
 (u:eP P ag (n,H.length) a (EJ P ag (n,H.length) b c L H' v) ⟨qU j args env,H⟩):ir P b H args H' (.p (.bool v)):=by
 refine Ph ag r o (by rw[d];exact q) (by rw[d];exact t) ?_;unfold yw;have e1:L.n=n:=by rw[d]
 have e2:L.assign=a:=by rw[d]
 have e3:L.body=c:=by rw[d]
 have e4:L.params=j:=by rw[d]
 have e5:L.env=env:=by rw[d]
 have k:L.st=.ready:=by rw[d]
 rw[e1,e2,e3,e4,e5];refine lI (Q:=EJ P ag (n,H.length) b c L H' v) _ (fun e s h=>?_) u;cases e with
 |normal=>
  obtain⟨l,m⟩:=h;simp only[xI,l];refine⟨k,lI (Q:=uc b L H.length H' v) _ (fun e s h=>?_) m⟩;cases e with
  |normal=>
   obtain⟨rfl,f,g⟩:=h;have i:s.heap[b]?=some (.loop L.bz):=f;simp only[sN,i,gO];refine⟨rfl,?_⟩;have:({L.bz with st:=LoopState.ready,pending:=none}:fg)=L:=by subst d;rfl
   simpa[this]using g
  |exit id=>
   obtain⟨rfl,f,g⟩:=h;have i:s.heap[b]?=some (.loop L.bz):=f;simp only[sN,i,gO];exact⟨rfl,g⟩
  |ret=>
   obtain⟨rfl,f,g⟩:=h;have i:s.heap[b]?=some (.loop L.bz):=f;simp only[sN,i,gO];exact⟨rfl,g⟩
 |exit id=>exact h.elim
 |ret=>exact h.elim
theorem rf{f:ao}{h:Array Tmp}{a c:Code}{Q:bp->St->Prop}{env:Env}{heap:Heap}{q:Cx}{g:ap}{fi ca:List PV}{n:List (List PV)}(aB:Stream P g fi ca n)(hf:ev env f= .p (.func g fi ca))(hq:q.2<=heap.length)
 (X:fg->Nat->Heap)(k:Nat)(hk:k<=n.length)(u:∀L,X L 0=heap++[.loop L])
 (hx:∀L,L=⟨.ready,none,q.1,h.toList,a,c,env⟩->∀i,i<=k->(X L i)[heap.length]?=some (.loop L)/\iF (X L i) env/\(iF (X L i) env->(∀x,aC (aG (X L i)) (aM L.env x))->eE (X L i) (X L i)))
 (t:∀L,L=⟨.ready,none,q.1,h.toList,a,c,env⟩->∀i x,i<k->n[i]?=some x->ir P heap.length (X L i) (x.map .p) (X L (i+1)) (.p (.bool true)))
 (y:∀L,L=⟨.ready,none,q.1,h.toList,a,c,env⟩->(k=n.length/\Q .normal ⟨env,(X L k).set heap.length (.loop L.xh)⟩)\/
  ∃x j l,n[k]?=some x/\l[heap.length]?=some (.loop (L.dn j))/\ir P heap.length (X L k) (x.map .p) l (.p (.bool false))/\kq Q (some j) ⟨env,l.set heap.length (.loop (L.dn j).xh)⟩):
 eP P ag q (.rangeFunc f h a c) Q ⟨env,heap⟩:=by
 obtain⟨L,b⟩:∃L:fg,L=⟨.ready,none,q.1,h.toList,a,c,env⟩:=⟨_,rfl⟩
 have s:=aB heap.length k (X L);refine⟨hq,?_⟩;show jF P (ev env f) heap.length (heap++[.loop ⟨.ready,none,q.1,h.toList,a,c,env⟩]) (iQ heap.length env Q);rw[hf];simp only[jF];rw[<-b,<-u L];have r:∀i,i<=k->eE (X L i) (X L i)/\aC (aG (X L i)) (.map heap.length):=by
  intro i hi;obtain⟨m,d,o⟩:=hx L b i hi;have e5:L.env=env:=by rw[b]
  refine⟨o d (by rw[e5];exact d.get),?_⟩;simp only[aC,aG,m];exact⟨_,rfl,by simp[Obj.has]⟩
 rcases y L b with⟨m,d⟩|⟨x,j,l,m,d,o,v⟩
 ·refine⟨_,_,s (X L k) hk r (t L b) (.inl ⟨m,rfl⟩),?_⟩;have w:=(hx L b k (bb k)).1;simp only[iQ,w];refine⟨by rw[b];simp,?_⟩;have:L.pending=none:=by rw[b]
  simp only[this,kq];have e:L.xh={L with st:=.exhausted}:=rfl;rw[this]at e;rw[e]at d;exact d
 ·refine⟨_,_,s l hk r (t L b) (.inr ⟨x,m,o⟩),?_⟩;simp only[iQ,d];exact⟨by simp[fg.dn],v⟩
section Zy
variable{f:ap}{H0 bY H:Heap}{gf args:List AV}{v0:AV}{K:AV->Heap->Prop}{L:aS->Prop}
theorem Zx(h:c7 P f H0 gf bY v0)(bs:List Nat)(e:bs.length=H0.length)(i:bs.Nodup)(g:∀b∈bs,b<H.length)(d:H0.length<=bY.length)(a:aR (aG H0) gf)(j:eE H0 H0)(c:cQ (sig bs H.length) gf=args):
 rG P f args H.length (dw bs H.length H0 bY v0):=by
 have:=h.frame bs H.length e i g d a j.get
 rwa [c]at this
theorem cf(h:c7 P f H0 gf bY v0)(bs:List Nat)(hk:K (cJ (sig bs H.length) v0) (bm H (bs.zip ((bY.take H0.length).map (dm (sig bs H.length))))++(bY.drop H0.length).map (dm (sig bs H.length))))(ak:∀p∈bs.zip (H0.map (dm (sig bs H.length))),H[p.1]?=some p.2:=by simp[sig])(aJ:∀p∈bs.zip ((bY.take H0.length).map (dm (sig bs H.length))),p.1<H.length/\p.2≠ .hole:=by simp[sig])
 (e:bs.length=H0.length:=by simp)(i:bs.Nodup:=by simp)(g:∀b∈bs,b<H.length:=by simp)(d:H0.length<=bY.length:=by simp)(a:aR (aG H0) gf:=by simp)(hr:eE H0 H0:=by simp)(c:cQ (sig bs H.length) gf=args:=by simp[sig]):kx P false f K args H:=
 .inr ⟨rfl,.inr (.inr (.inl ⟨_,Zx h bs e i g d a hr c,⟨ak,aJ⟩,hk⟩))⟩
end Zy
section bytes
variable{dst:Option Tmp}{ty:Nat}{pos:String}{af:Array Edge}{g:Option (Nat×Bool)}{env:Env}{heap:Heap}{L:St->Prop}{K:aS->Prop}
theorem Zd{x:ao}{d:Array av}{b ar ai off len:Nat}{k:AK}{es:List AV}(hx:ev env x= .sl b ar ai off len)(f:heap[b]?=some (.arr k ar ai es))(e:0<len)(h:off+len<=es.length)
 (hk:K {v:=.bV b ar ai off [],ak:=[(b,.arr k ar ai es)]}):dR P ag ⟨dst,.call {callee:=.builtin .unsafeSliceData,args:=#[x],argTypes:=d},ty,pos,af,g⟩ ⟨env,heap⟩ K ():=by
 show(match ev env x with
   | .p .aN=>K {v:=.p .dC}
   | .sl b ar ai off len=>(match heap[b]? with
    |some (.arr k c a es)=>ar=c/\ai=a/\((k.gr=true/\es=[]/\K {v:=.p .dC,ak:=[(b,.arr k c a es)]})\/(0<len/\off+len<=es.length/\K {v:=.bV b ar ai off [],ak:=[(b,.arr k c a es)]}))
    |_=>False)
   |_=>False)
 rw[hx];simp only[f];exact⟨trivial,trivial,.inr ⟨e,h,hk⟩⟩
theorem Zf{x y:ao}{a:Array av}{b ar:Nat}{m:Int}{es:List AV}{l:List Nat}(hx:ev env x= .bV b ar 1 0 [])(o:ev env y= .p (.int .i64 m))(i:heap[b]?=some (.arr .bytes ar 1 es))(c:0<m)(k:m.toNat<=es.length)(d:m<=9223372036854775807)
 (f:a.size=2)(e:ptrTo P (a.getD 0 0)=some Gl.u8)(n:P.cellsOf Gl.u8=1)(j:bytesOf (es.take m.toNat)=some l)
 (hk:K {v:=.p (.str l),ak:=[(b,.arr .bytes ar 1 es)],aJ:=[(b,.dead)]}):dR P ag ⟨dst,.call {callee:=.builtin .unsafeString,args:=#[x,y],argTypes:=a},ty,pos,af,g⟩ ⟨env,heap⟩ K ():=by
 have h:fy P ag ⟨dst,.call {callee:=.builtin .unsafeString,args:=#[x,y],argTypes:=a},ty,pos,af,g⟩ (ev env) heap K:=by
  unfold fy;simp only[a4,List.map_nil,hx,o,i];exact⟨trivial,trivial,trivial,trivial,c,k,d,f,e,n,by rw[j];exact hk⟩
 exact h
end bytes
theorem rf2{f:ao}{h:Array Tmp}{a c:Code}{Q:bp->St->Prop}{env:Env}{heap:Heap}{q:Cx}{g:ap}{fi ca:List PV}{b:List (List PV)}(aB:Stream P g fi ca b)(hf:ev env f= .p (.func g fi ca))(hq:q.2<=heap.length)
 (X F:fg->Nat->Heap)(okB:Nat->Bool)(j:Code)(k:Nat)(hk:k<=b.length)(u:∀i,i<k->okB i=true)(r:k=b.length\/(k<b.length/\okB k=false))(m:∀L,X L 0=heap++[.loop L])
 (hx:∀L,L=⟨.ready,none,q.1,h.toList,a,c,env⟩->∀i,i<=k->(X L i)[heap.length]?=some (.loop L)/\iF (X L i) env/\(iF (X L i) env->(∀x,aC (aG (X L i)) (aM L.env x))->eE (X L i) (X L i)))
 (l:∀L,L=⟨.ready,none,q.1,h.toList,a,c,env⟩->∀i x,i<=k->b[i]?=some x->ir P heap.length (X L i) (x.map .p) (if okB i=true then X L (i+1)else F L (i+1)) (.p (.bool (okB i))))
 (n:∀L,(F L (k+1))[heap.length]?=some (.loop (L.dn j)))
 (s:k=b.length->∀L,Q .normal ⟨env,(X L k).set heap.length (.loop L.xh)⟩)
 (v:k<b.length->∀L,kq Q (some j) ⟨env,(F L (k+1)).set heap.length (.loop (L.dn j).xh)⟩):
 eP P ag q (.rangeFunc f h a c) Q ⟨env,heap⟩:=by
 refine rf aB hf hq X k hk m hx (fun L e i x hi t=>?_) (fun L e=>?_)
 ·have:=l L e i x (by omega) t;rw[u i hi]at this;exact this
 ·rcases r with d|⟨d,o⟩
  ·exact .inl ⟨d,s d L⟩
  ·right;refine⟨b[k],j,F L (k+1),a5 d,n L,?_,v d L⟩;have:=l L e k b[k] (bb _) (a5 d);rw[o]at this;exact this
attribute [simp] Xg aFc Lp Cr UY Xi aEK UZ YQ qU
end
section
variable{P:ax}{ag:ap->Bool}{w:a0}{ad ah:Nat->Prop}{β:Bd}{H:Heap}
def mO(K:Nat->Bool)(H:Heap):Heap:=H.mapIdx fun i o=>if K i then .dead else o
theorem BO{K:Nat->Bool}{b:Nat}:(mO K H)[b]?=(H[b]?).map fun o=>if K b then .dead else o:=by simp[mO]
theorem lg{K:Nat->Bool}{b:Nat}{o:Obj}(h:(mO K H)[b]?=some o):∃a,H[b]?=some a/\((K b=true/\o=.dead)\/(K b=false/\o=a)):=by
 rw[BO,Option.map_eq_some_iff]at h;obtain⟨a,d,c⟩:=h;refine⟨a,d,?_⟩;cases hk:K b<;>simp[hk]at c
 ·exact .inr ⟨rfl,c.symm⟩
 ·exact .inl ⟨rfl,c.symm⟩
theorem Cl{K:Nat->Bool}{x:Nat×Nat}(h:aG H x):aG (mO K H) x:=by
 obtain⟨o,a,b⟩:=h;refine⟨if K x.1 then .dead else o,by rw[BO,a];rfl,?_⟩
 split
 ·trivial
 ·exact b
theorem Br{K:Nat->Bool}:b9 β H β (mO K H):=by
 refine⟨fun b _ h=>⟨?_,rfl⟩,fun b _ h=>⟨?_,rfl⟩,fun b _ h=>⟨?_,rfl⟩,fun b ar ai k f _ h=>⟨k,f,?_,bb _,Iff.rfl,fun _=>⟨rfl,rfl⟩⟩,fun b _ h=>⟨?_,rfl⟩⟩
 ·obtain⟨fz,t,h⟩:=h;obtain⟨d,c,a⟩:=lg h;rcases a with⟨_,a⟩|⟨_,rfl⟩
  ·cases a
  ·exact⟨fz,t,c⟩
 ·obtain⟨s,q,h⟩:=h;obtain⟨d,c,a⟩:=lg h;rcases a with⟨_,a⟩|⟨_,rfl⟩
  ·cases a
  ·exact⟨s,q,c⟩
 ·obtain⟨g,h,e⟩:=h;obtain⟨d,c,a⟩:=lg h;rcases a with⟨_,rfl⟩|⟨_,rfl⟩
  ·exact e.elim
  ·exact⟨_,c,e⟩
 ·obtain⟨d,c,a⟩:=lg h;rcases a with⟨_,a⟩|⟨_,rfl⟩
  ·cases a
  ·exact c
 ·obtain⟨L,h⟩:=h;obtain⟨d,c,a⟩:=lg h;rcases a with⟨_,a⟩|⟨_,rfl⟩
  ·cases a
  ·exact⟨L,c⟩
def Al(K:Nat->Bool)(ad:Nat->Prop)(β:Bd)(H:Heap)(k:Nat):Prop:=ad k\/∃(b:Nat)(o:Obj),H[b]?=some o/\o.live/\K b=true/\β.al b=k
theorem bP.kill(K:Nat->Bool)(a:bP P w ad β H ah):bP P w ad β (mO K H) ah:=by
 refine⟨fun b o e=>?_,fun b b' o o' e n f g m l=>?_,fun b o e=>?_,a.bQ,a.dX,a.ig⟩
 ·obtain⟨i,c,d⟩:=lg e;rcases d with⟨_,rfl⟩|⟨_,rfl⟩
  ·trivial
  ·exact eZ.carry (fun _ x=>x) (fun _ _=>rfl) Br (a.refs b o c) (fun _=>⟨rfl,rfl,rfl⟩) (fun _ _ h=>h) (a.cB b o c)
 ·obtain⟨i,c,d⟩:=lg e;obtain⟨p,j,k⟩:=lg n;rcases d with⟨_,rfl⟩|⟨_,rfl⟩
  ·exact f.elim
  rcases k with⟨_,rfl⟩|⟨_,rfl⟩
  ·exact g.elim
  exact a.inj b b' _ _ c j f g m l
 ·obtain⟨i,c,d⟩:=lg e;rcases d with⟨_,rfl⟩|⟨_,rfl⟩
  ·trivial
  ·exact Obj.vi (fun _ h=>Cl h) (a.refs b o c)
theorem bP.aBT(K:Nat->Bool)(a:bP P w ad β H ah):bP P w (Al K ad β H) β (mO K H) ah:=by
 have hk:=a.kill K;have hi:∀k,ad k->Al K ad β H k:=fun k h=>.inl h;refine⟨fun b o c=>?_,fun b b' o o' c r d p q n=>hk.inj b b' o o' c r d p (fun h=>q (hi _ h)) n,hk.refs,fun k h=>?_,a.dX,⟨fun g=>aA.mono hi (fun _ _=>rfl) _ _ (a.ig.val g),fun g cs h=>⟨hi _ (a.ig.raw g cs h).1,(a.ig.raw g cs h).2⟩⟩⟩
 ·have f:=c;obtain⟨t,j,l⟩:=lg c;rcases l with⟨_,rfl⟩|⟨s,rfl⟩
  ·trivial
  ·refine eZ.carry hi (fun _ _=>rfl) (b9.refl β _) (hk.refs b o f) (fun _=>⟨rfl,rfl,rfl⟩) (fun d fz h=>?_) (hk.cB b o f);cases fz with
   |true=>exact hi _ h
   |false=>
    refine⟨?_,h.2⟩;rintro(m|⟨e,i,g1,g2,g3,g4⟩)
    ·exact h.1 m
    ·have:=a.inj e b i o g1 j g2 d (by rw[g4];exact h.1) g4;rw[this,s]at g3;cases g3
 ·rcases h with h|⟨e,i,g1,g2,g3,rfl⟩
  ·exact a.bQ k h
  ·exact a.mE g1 g2
theorem eZ.held{b:Nat}{o:Obj}(h:eZ P w ad β H ah b o)(a:o.live):ad (β.al b)\/¬ah (β.al b):=by
 by_cases hi:ad (β.al b)
 ·exact .inl hi
 ·exact .inr (h.mut a hi)
theorem c7.pure{f:ap}{args:List AV}{H':Heap}{v:AV}{n:Nat}{p:PV}(K:Nat->Bool)(h:c7 P f H args H' v)(C:eh (mO (fun i=>!K i) H') n v=some p)(B:∀b L,K b=true->H[b]?≠some (.loop L)):
 c7 P f H args (mO K H') (.p p):=by
 refine⟨h.1,fun w ad ah β t E z F=>(h.2 w ad ah β t E z F).mono ?_⟩;rintro e w' ⟨j,aH,aD,rfl,d,G,r⟩;have q:=d.rel;have A:=q.kill (fun i=>!K i);have I:au P w' aD aH (mO (fun i=>!K i) H') v j:=au.mono (fun _ x=>x) (fun _ _=>rfl) Br _ _ r G;have D:=xJ A n v p C (aC.mono (fun _ h=>Cl h) v r) j I;refine⟨j,aH,Al K aD aH H',rfl,⟨fun k hk=>.inl (d.bQ k hk),?_,d.ext,?_,q.aBT K,fun x hx=>Cl (d.eQ x hx),?_⟩,?_,trivial⟩
 ·rintro k (hk|⟨b,o,g1,g2,g3,rfl⟩)
  ·exact d.fresh k hk
  ·rcases(q.cB b o g1).held g2 with h|h
   ·exact d.fresh _ h
   ·exact .inr h
 ·have aB:=d.step;have hk:=Br (K:=K) (β:=aH) (H:=H');refine⟨fun b a c=>?_,fun b a c=>?_,fun b a c=>?_,fun b ar ai k es a c=>?_,fun b a c=>?_⟩
  ·exact aB.box b a (hk.box b (d.eQ _ a) c).1
  ·exact aB.it b a (hk.it b (d.eQ _ a) c).1
  ·exact aB.map b a (hk.map b (d.eQ _ a) c).1
  ·have u:eD H' b ar ai k es:=by
    obtain⟨M,l,g⟩:=lg c;rcases g with⟨_,g⟩|⟨_,rfl⟩
    ·cases g
    ·exact l
   exact aB.arr b ar ai k es a u
  ·exact aB.loop b a (hk.loop b (d.eQ _ a) c).1
 ·rintro b ⟨L,c⟩;obtain⟨s,y⟩:=d.loop b ⟨L,c⟩;have m:K b=false:=by
   cases m:K b with
   |false=>rfl
   |true=>exact(B b L m c).elim
  exact⟨s,by rw[BO,y];simp[m]⟩
 ·show aA P w' _ p j;refine aA.mono ?_ (fun _ _=>rfl) _ _ D;rintro k (hk|⟨b,o,g1,g2,rfl⟩)
  ·exact .inl hk
  ·obtain⟨M,l,g⟩:=lg g1;rcases g with⟨_,rfl⟩|⟨J,rfl⟩
   ·exact g2.elim
   ·exact .inr ⟨b,o,l,g2,by simpa using J,rfl⟩
end
section
variable{P:ax}{w:a0}{ad ah:Nat->Prop}{β:Bd}
theorem sF{t t':AV}{r:Heap}:b9 β (.box false t::r) β (.box false t'::r):=by
 refine⟨fun b _ h=>⟨?_,rfl⟩,fun b _ h=>⟨?_,rfl⟩,fun b _ h=>⟨?_,rfl⟩,fun b ar ai k c _ h=>⟨k,c,?_,bb _,Iff.rfl,fun _=>⟨rfl,rfl⟩⟩,fun b _ h=>⟨?_,rfl⟩⟩
 ·cases b with
  |zero=>exact⟨false,t,rfl⟩
  |succ b=>exact h
 ·obtain⟨s,q,h⟩:=h;cases b with
  |zero=>simp at h
  |succ b=>exact⟨s,q,h⟩
 ·obtain⟨d,h,a⟩:=h;cases b with
  |zero=>simp at h;subst h;exact a.elim
  |succ b=>exact⟨d,h,a⟩
 ·cases b with
  |zero=>simp[eD]at h
  |succ b=>exact h
 ·obtain⟨L,h⟩:=h;cases b with
  |zero=>simp at h
  |succ b=>exact⟨L,h⟩
theorem qD{t t':AV}{r:Heap}{x:Nat×Nat}(h:aG (.box false t::r) x):aG (.box false t'::r) x:=by
 obtain⟨o,a,c⟩:=h;obtain⟨b,v⟩:=x;cases b with
 |zero=>exact⟨_,rfl,trivial⟩
 |succ b=>exact⟨o,a,c⟩
theorem bP.swap{t d:AV}{r:Heap}(c:bP P w ad β (.box false t::r) ah)(hc:∀cs,bf P w ad β (.box false t::r) t cs->bf P w ad β (.box false t::r) d cs)(l:∀T,jg T (aa d)=true)
 (g:∀n,aC n t->aC n d):bP P w ad β (.box false d::r) ah:=by
 refine⟨fun b o a=>?_,fun b b' o o' a s f p q m=>?_,fun b o a=>?_,c.bQ,c.dX,c.ig⟩
 ·cases b with
  |zero=>
   simp at a;subst a;obtain⟨cs,T,i,j,k,y,z⟩:=c.cB 0 _ rfl;have u:=c.refs 0 _ rfl;exact⟨cs,T,i,bf.mono (fun _ x=>x) (fun _ _=>rfl) sF _ _ (g _ u) (hc _ j),k,(fun h=>absurd h (by simp)),l T⟩
  |succ b=>exact eZ.carry (fun _ x=>x) (fun _ _=>rfl) sF (c.refs (b+1) o a) (fun _=>⟨rfl,rfl,rfl⟩) (fun _ _ h=>h) (c.cB (b+1) o a)
 ·have key:∀{b:Nat}{o:Obj},(Obj.box false d::r)[b]?=some o->o.live->∃e,(Obj.box false t::r)[b]?=some e/\e.live:=by
   intro b o a f;cases b with
   |zero=>exact⟨_,rfl,trivial⟩
   |succ b=>exact⟨o,a,f⟩
  obtain⟨e,k1,k2⟩:=key a f;obtain⟨v,k3,k4⟩:=key s p;exact c.inj b b' e v k1 k3 k2 k4 q m
 ·cases b with
  |zero=>
   simp at a;subst a;exact aC.mono (fun _ h=>qD h) _ (g _ (c.refs 0 _ rfl))
  |succ b=>exact Obj.vi (fun _ h=>qD h) (c.refs (b+1) o a)
theorem LA{H:Heap}{u:av}{n:Nat}(f:dD P u=some [n]){t:AV}{cs:List aT}:bf P w ad β H (.st u [t]) cs↔bf P w ad β H t cs/\cs.length=n:=by
 simp only[bf,f,bo];constructor
 ·rintro⟨l,g,rfl,a,rfl⟩;simp only[bJ]at a;obtain⟨c,d,rfl,b,e,rfl⟩:=a;simpa using⟨b,e⟩
 ·rintro⟨a,b⟩;exact⟨[n],[cs],rfl,by simp only[bJ];exact⟨cs,[],rfl,a,b,rfl⟩,by simp⟩
theorem c7.wrap{f:ap}{u:av}{n:Nat}{t i:AV}{r j:Heap}{args:List AV}{v:AV}(q:dD P u=some [n])(a:∀T,jg T (.agg u)=true)(F:∀T,jg T (aa t)=true)(G:∀(w:a0)(ad:Nat->Prop)(β:Bd)(H:Heap)(cs:List aT),bf P w ad β H i cs->cs.length=n)
 (h:c7 P f (.box false t::r) (.ptr 0 []::args) (.box false i::j) v):c7 P f (.box false (.st u [t])::r) (.ptr 0 [(u,0)]::args) (.box false (.st u [i])::j) v:=by
 refine⟨h.1,fun w ad ah β O J D y=>?_⟩;have K:bP P w ad β (.box false t::r) ah:=J.swap (fun cs h=>((LA q).1 h).1) F (fun n h=>by simpa[aC,aR]using h);obtain⟨x,xs,rfl,h1,C⟩:=D;have E:br P w ad β (.box false t::r) (.ptr 0 []::args) (x::xs):=by
  refine⟨x,xs,rfl,?_,br.mono (fun _ x=>x) (fun _ _=>rfl) sF _ _ y.2 C⟩;obtain⟨q1,al,off,o,s,N,q4⟩:=h1;refine⟨q1,al,off,0,s,rfl,fun _=>?_⟩;have I:o=0:=by simpa[fY,q]using N.symm
  have:=q4 (.inl ⟨false,_,rfl⟩);rw[I]at this;exact this
 refine(h.2 w ad ah β (x::xs) K E ⟨⟨_,rfl,trivial⟩,aR.mono (fun _ h=>qD h) _ y.2⟩).mono ?_;rintro e w' ⟨B,aH,aD,rfl,g,M,z⟩;refine⟨B,aH,aD,rfl,⟨g.bQ,g.fresh,g.ext,?_,?_,fun x hx=>qD (g.eQ x (qD hx)),?_⟩,au.mono (fun _ x=>x) (fun _ _=>rfl) sF _ _ z M,aC.mono (fun _ h=>qD h) _ z⟩
 ·have aB:=g.step;have m:=sF (β:=β) (t:=.st u [t]) (t':=t) (r:=r);have p:=sF (β:=aH) (t:=i) (t':=.st u [i]) (r:=j);have d:∀x,aG (.box false (.st u [t])::r) x->aG (.box false t::r) x:=fun x h=>qD h;have l:∀x,aG (.box false t::r) x->aG (.box false i::j) x:=g.eQ;refine⟨fun b a c=>?_,fun b a c=>?_,fun b a c=>?_,fun b ar ai k es a c=>?_,fun b a c=>?_⟩
  ·obtain⟨k1,k2⟩:=p.box b (l _ (d _ a)) c;obtain⟨k3,k4⟩:=aB.box b (d _ a) k1;exact⟨(m.box b a k3).1,k4⟩
  ·obtain⟨k1,k2⟩:=p.it b (l _ (d _ a)) c;obtain⟨k3,k4⟩:=aB.it b (d _ a) k1;exact⟨(m.it b a k3).1,k4⟩
  ·obtain⟨k1,k2⟩:=p.map b (l _ (d _ a)) c;obtain⟨k3,k4⟩:=aB.map b (d _ a) k1;exact⟨(m.map b a k3).1,k4⟩
  ·have k1:eD (.box false i::j) b ar ai k es:=by
    cases b with
    |zero=>simp[eD]at c
    |succ b=>exact c
   obtain⟨k0,gE,q1,s⟩:=aB.arr b ar ai k es (d _ a) k1;refine⟨k0,gE,?_,s⟩;cases b with
   |zero=>simp[eD]at q1
   |succ b=>exact q1
  ·obtain⟨k1,k2⟩:=p.loop b (l _ (d _ a)) c;obtain⟨k3,k4⟩:=aB.loop b (d _ a) k1;exact⟨(m.loop b a k3).1,k4⟩
 ·exact g.rel.swap (fun cs h=>(LA q).2 ⟨h,G _ _ _ _ _ h⟩) a (fun n h=>by simpa[aC,aR]using h)
 ·rintro b ⟨L,c⟩;have k1:gN (.box false t::r) b:=by
   cases b with
   |zero=>simp at c
   |succ b=>exact⟨L,c⟩
  obtain⟨A,k2⟩:=g.loop b k1;cases b with
  |zero=>simp at k2
  |succ b=>exact⟨A,k2⟩
end
section
variable{P:ax}{w:a0}{ad ah:Nat->Prop}{β:Bd}
def tQ(n:Nat):Heap:=a7 n .dead
theorem nu{n b:Nat}{o:Obj}(h:(tQ n)[b]?=some o):o=.dead:=by
 simp only[tQ,a6]at h
 split at h
 ·injection h with h;exact h.symm
 ·cases h
theorem c7.cut{f:ap}{H:Heap}{args:List AV}{n:Nat}{p:PV}(h:c7 P f H args (tQ n) (.p p)):c7 P f H args (tQ H.length) (.p p):=by
 refine⟨h.1,fun w ad ah β i v r y=>(h.2 w ad ah β i v r y).mono ?_⟩;rintro e w' ⟨j,aH,aD,rfl,a,z,A⟩;have no:∀{m b:Nat}{o:Obj},(tQ m)[b]?=some o->o.live->False:=fun h d=>by rw[nu h]at d;exact d
 refine⟨j,aH,aD,rfl,⟨a.bQ,a.fresh,a.ext,⟨?_,?_,?_,?_,?_⟩,⟨fun b o c=>by rw[nu c];trivial,fun b b' o o' c _ d=>(no c d).elim,fun b o c=>by rw[nu c];trivial,a.rel.bQ,a.rel.dX,a.rel.ig⟩,?_,?_⟩,z,trivial⟩
 ·rintro b _ ⟨fz,t,h⟩;cases nu h
 ·rintro b _ ⟨fz,t,h⟩;cases nu h
 ·rintro b _ ⟨B,h,g⟩;rw[nu h]at g;exact g.elim
 ·intro b ar ai k es _ h;cases nu h
 ·rintro b _ ⟨L,h⟩;cases nu h
 ·rintro x ⟨o,l,_⟩;have u:=(a3.1 l).1;exact⟨.dead,by rw[tQ,a6,if_pos u],trivial⟩
 ·intro b s;obtain⟨L,q⟩:=a.loop b s;cases nu q
theorem c7.cV{f:ap}{H H':Heap}{args:List AV}{v v':PV}(h:c7 P f H args H' (.p v))(k:Wk v v'):c7 P f H args H' (.p v'):=by
 refine⟨h.1,fun w ad ah β a i d j=>(h.2 w ad ah β a i d j).mono ?_⟩;rintro e w' ⟨b,aH,aD,rfl,g,c,l⟩;exact⟨b,aH,aD,rfl,g,aA.cV _ _ _ k c,trivial⟩
end
section
variable{P:ax}
def zy(P:ax)(a:List ay)(N:Nat)(Q:AV->Heap->Prop)(e:Tg (a,N,Q) bp)(s:Tg (a,N,Q) St):Prop:=
 (match e with
  | .exit _=>False
  |_=>True)/\∃vs,fE P s a=some vs/\∃H',Q (oneOf vs) H'/\(H'=St.heap s\/(dE N s ⟨[],H'⟩/\aC (aG H') (oneOf vs)))
theorem VL{a:List ay}{N:Nat}{Q:AV->Heap->Prop}{s:St}:zy P a N Q .ret s=∃vs,fE P s a=some vs/\∃H',Q (oneOf vs) H'/\(H'=s.heap\/(dE N s ⟨[],H'⟩/\aC (aG H') (oneOf vs))):=by simp[zy]
theorem TF{a:List ay}{N:Nat}{Q:AV->Heap->Prop}{s:St}:zy P a N Q .normal s=∃vs,fE P s a=some vs/\∃H',Q (oneOf vs) H'/\(H'=s.heap\/(dE N s ⟨[],H'⟩/\aC (aG H') (oneOf vs))):=by simp[zy]
attribute [simp] VL TF
end
section
variable{P:ax}
theorem aw.heap{f:ap}{vs j:List PV}{v:PV}{H H1:Heap}{args:List AV}(h:aw P f vs v)(g:Enters P f)(o:mZ H args=some (j,H1))(l:bA j vs:=by first|exact bA.refl _|simp):c7 P f H args H1 (.p v):=by
 refine⟨g,fun w ad ah β x u r q=>?_⟩;obtain⟨b,a,i⟩:=BE o u r q;rcases h.cV l (Wk.refl _)with m|n
 ·intro cs;obtain⟨e,w',k,⟨c,aD,he,m1,m2,m3,m4,m5,m6,m7⟩,aB,s,t⟩:=m.2 w b _ a.rel.bQ a.rel.ig i cs;subst he;exact⟨_,w',k,⟨c,β,aD,rfl,a.trans (a.rel.later m1 m2 m3 m4 m5 m6),by simpa[au]using m7,by simp[aC]⟩,aB,s,t⟩
 ·obtain⟨c,d,_⟩:=n w b _ i;rw[g]at d;cases d
end
section
variable{P:ax}{ag:ap->Bool}
theorem Rb{H J:Heap}{x:Nat×Nat}(h:aG H x):aG (H++J) x:=by
 obtain⟨o,a,b⟩:=h;exact⟨o,by rw[List.getElem?_append_left (a3.1 a).1];exact a,b⟩
theorem eE.up{S T:Heap}(a:∀x,aG S x->aG T x):∀{h:Heap},eE S h->eE T h
 |[],_=>trivial
 |_::_,h=>⟨Obj.vi a h.1,eE.up a h.2⟩
theorem eE.app{H J:Heap}(h:eE H H)(a:eE (H++J) J):eE (H++J) (H++J):=by
 rw[Cr];exact⟨h.up fun _=>Rb,a⟩
end
end Go.aj
