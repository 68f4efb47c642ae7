import Derived.Test.YtenbmieafgdjaaaGreatDoorMThD
/- Parts of a proof. -/
set_option linter.unusedSimpArgs false
set_option linter.unusedVariables false
set_option linter.unusedSectionVars false
open Bool renaming cond_eq_ite->ab, and_eq_true->ac, false_eq_true->am
open Go renaming Operand->ao, FuncId->ap, TypeId->av, Program->ax, ResultVar->ay, Value->aT, World->a0
open List renaming mem_map->a1, getElem?_eq_some_iff->a3, map_cons->a4, getElem?_eq_getElem->a5, getElem?_replicate->a6, replicate->a7, rec->a8
open Nat renaming ble->a9, le_refl->bb, pow_succ->be, beq->bi, mod_lt->bk
open Option renaming ite_none_right_eq_some->bl
open Option.some renaming injEq->bo
open Prod.mk renaming injEq->bv
namespace Go.al
set_option linter.unusedSectionVars false
variable[Gl]
inductive RT where
 |lf
 |vl (v:AV)
 |nd (a b c d:RT)
inductive Q4 where|a|b|c|d
def q4(n:Nat):Q4:=match n with
 |0=>.a
 |1=>.b
 |2=>.c
 |_=>.d
def pathOf:Nat->Nat->List Q4
 |0,_=>[]
 |k+1,n=>q4 (n% 4)::pathOf k (n/4)
noncomputable def vm(p:List Q4):RT->AV:=
 a8 (motive:=fun _=>RT->AV) (fun R=>RT.rec (motive:=fun _=>AV) (.p .undef) (fun v=>v) (fun _ _ _ _ _ _ _ _=>.p .undef) R)
  (fun q _ e R=>RT.rec (motive:=fun _=>AV) (.p .undef) (fun _=>.p .undef) (fun a b c d _ _ _ _=>Q4.rec (motive:=fun _=>AV) (e a) (e b) (e c) (e d) q) R) p
noncomputable def DF(v:AV)(p:List Q4):RT->RT:=
 a8 (motive:=fun _=>RT->RT) (fun _=>.vl v)
  (fun q _ e R=>RT.rec (motive:=fun _=>RT)
   (Q4.rec (motive:=fun _=>RT) (.nd (e .lf) .lf .lf .lf) (.nd .lf (e .lf) .lf .lf) (.nd .lf .lf (e .lf) .lf) (.nd .lf .lf .lf (e .lf)) q)
   (fun _=>Q4.rec (motive:=fun _=>RT) (.nd (e .lf) .lf .lf .lf) (.nd .lf (e .lf) .lf .lf) (.nd .lf .lf (e .lf) .lf) (.nd .lf .lf .lf (e .lf)) q)
   (fun a b c d _ _ _ _=>Q4.rec (motive:=fun _=>RT) (.nd (e a) b c d) (.nd a (e b) c d) (.nd a b (e c) d) (.nd a b c (e d)) q) R) p
noncomputable def jD(k:Nat)(R:RT)(n:Nat):AV:=bif a9 (n+1) (4^k)then vm (pathOf k n) R else .p .undef
noncomputable def vN(k:Nat)(R:RT)(n:Nat)(v:AV):RT:=DF v (pathOf k n) R
theorem Jq:∀(p:List Q4),vm p .lf=.p .undef
 |[]=>rfl
 |_::_=>rfl
theorem HH(v:AV):∀(p:List Q4)(R:RT),vm p (DF v p R)=v
 |[],_=>rfl
 |x::p,R=>by
  cases R<;>cases x<;>exact HH v p _
theorem GL(v:AV):∀(p q:List Q4)(R:RT),p.length=q.length->p≠q->vm p (DF v q R)=vm p R
 |[],[],R,_,h=>(h rfl).elim
 |[],_::_,R,h,_=>by simp at h
 |_::_,[],R,h,_=>by simp at h
 |x::p,y::q,R,h,f=>by
  have g:=fun R(f:p≠q)=>GL v p q R (by simpa using h) f;have i:=Jq p;cases R with
  |nd a b c d=>
   cases x<;>cases y<;>first
    |rfl
    |exact g _ (fun e=>f (by rw[e]))
  |_=>
   cases x<;>cases y<;>first
    |exact i
    |exact(g _ (fun e=>f (by rw[e]))).trans i
theorem Ai:∀k n,(pathOf k n).length=k
 |0,_=>rfl
 |k+1,n=>by simp[pathOf,Ai k]
theorem aBh{m n:Nat}(a:m<4)(b:n<4)(h:q4 m=q4 n):m=n:=by
 have hc:∀n,n<4->n=0\/n=1\/n=2\/n=3:=by omega
 rcases hc m a with rfl|rfl|rfl|rfl<;>rcases hc n b with rfl|rfl|rfl|rfl<;>simp[q4]at h<;>rfl
theorem HJ:∀(k m n:Nat),m<4^k->n<4^k->pathOf k m=pathOf k n->m=n
 |0,m,n,a,b,_=>by simp at a b;omega
 |k+1,m,n,a,b,h=>by
  simp only[pathOf,List.cons.injEq]at h;have c:=aBh (bk _ (by omega)) (bk _ (by omega)) h.1;have d:=HJ k (m/4) (n/4) (by rw[be]at a;omega) (by rw[be]at b;omega) h.2;omega
theorem KS(k n:Nat):jD k .lf n=.p .undef:=by
 simp[jD,Jq]
theorem WY{a b:Nat}(h:a<=b):a9 a b=true:=Nat.ble_eq_true_of_le h
theorem Lp{a b:Nat}(h:¬a<=b):a9 a b=false:=by
 cases c:a9 a b
 ·rfl
 ·exact(h (cU c)).elim
theorem AU(k:Nat)(R:RT)(d x:Nat)(v:AV)(h:d<4^k):jD k (vN k R d v) x=if x=d then v else jD k R x:=by
 unfold jD vN
 by_cases hx:x+1<=4^k
 ·simp only[WY hx,cond_true]
  by_cases a:x=d
  ·subst a;rw[HH,if_pos rfl]
  ·rw[if_neg a,GL _ _ _ _ (by rw[Ai,Ai]) (fun e=>a (HJ k x d (by omega) h e))]
 ·have:x≠d:=by omega
  simp only[Lp hx,cond_false,this,if_false]
def Rel(k:Nat)(e:Env)(R:RT):Prop:=∀x,aN e x=jD k R x
noncomputable def kl(k:Nat)(d:Option Nat)(v:AV)(R:RT):Option RT:=
 match d with
 |none=>some R
 |some d=>bif a9 (d+1) (4^k)then some (vN k R d v)else none
theorem uw{k:Nat}{d:Option Nat}{v:AV}{R a:RT}{e:Env}(h:kl k d v R=some a)(b:Rel k e R):Rel k (put d v e) a:=by
 unfold kl at h
 split at h
 ·simp only[bo]at h;subst h;exact b
 ·simp only[ab,bl,bo]at h;obtain⟨c,rfl⟩:=h;intro x;rw[AU _ _ _ _ _ (by have:=cU c;omega)];simp only[put,aN]
  split
  ·rfl
  ·exact b x
noncomputable def jx(k:Nat)(R:RT):ao->AV
 | .tmp t=>jD k R t
 | .const v=>.p (ofConst v)
 | .global g=>.p (Gl.g g)
 | .func f=>.p (.func f [] [])
theorem yw{k:Nat}{R:RT}{e:Env}(a:Rel k e R):jx k R=ev e:=by
 funext o;cases o<;>simp[jx,ev,a _]
def oU(H:Heap)(e:aU):Heap:=
 match e.aJ,e.aR with
 |[],[]=>H
 |_,_=>ba H e.aJ++e.aR
theorem JD(H:Heap)(e:aU):oU H e=ba H e.aJ++e.aR:=by
 unfold oU;split
 ·rename_i a b;simp[a,b,ba]
 ·rfl
structure jt where
 cP:ap->List AV->Heap->Option (AV×Heap)
 cD:ap->List AV->Heap->Option aU
 cY:Nat->Heap->List AV->Option (Heap×AV)
 cI:AV->Nat->Heap->Option Heap
 y8:Nat->List AV->Heap->Option aU
structure jE(P:ax)(B:jt):Prop where
 cP:∀f args H v H',B.cP f args H=some (v,H')->∀K:AV->Heap->Prop,K v H'->gC P false f args H K
 cD:∀f args H e,B.cD f args H=some e->∀K:aU->Prop,K e->gI P f args H K
 cY:∀b H args H' v,B.cY b H args=some (H',v)->ic P b H args H' v
 cI:∀it b H H',B.cI it b H=some H'->∀K:Heap->Prop,K H'->ju P it b H K
 y8:∀b args H e,B.y8 b args H=some e->sB P b args H.length e/\oT H e
section
variable(P:ax)(ag:ap->Bool)(B:jt)(k:Nat)
noncomputable def vL(o:Oper)(R:RT)(H:Heap):Option (RT×Heap):=
 match o.op with
 | .call {callee:=.value f,args,.. }=>match(match jx k R f with
  | .p (.func g fi ca)=>B.cP g (fi.map .p++args.toList.map (jx k R)++ca.map .p) H
  | .func g fi ca=>B.cP g (fi++args.toList.map (jx k R)++ca) H
  | .map b=>match B.cY b H (args.toList.map (jx k R))with
   |some (H',v)=>some (v,H')
   |none=>none
  |_=>none)with
  |some (v,H')=>match kl k o.dst v R with
   |some a=>some (a,H')
   |none=>none
  |none=>none
 |_=>match zm P ag o (jx k R) H with
  |some e=>match kl k o.dst e.v R with
   |some a=>some (a,oU H e)
   |none=>none
  |none=>none
noncomputable def yu(a:Array Oper)(j:Nat)(R:RT):AV:=
 match(a[j]?).bind (·.dst)with
 |some d=>jD k R d
 |none=>.p (.aD [])
noncomputable def mF(b:Array Oper):List Oper->RT->Heap->Option (RT×Heap)
 |[],R,H=>some (R,H)
 |o::r,R,H=>match o.guard with
  |none=>match vL P ag B k o R H with
   |some (a,H')=>mF b r a H'
   |none=>none
  |some (j,want)=>match yu k b j R with
   | .p (.bool t)=>match t,want with
    |true,true|false,false=>match vL P ag B k o R H with
     |some (a,H')=>mF b r a H'
     |none=>none
    |_,_=>match kl k o.dst (.p (.aD [])) R with
     |some a=>mF b r a H
     |none=>none
   | .p (.aD [])=>match kl k o.dst (.p (.aD [])) R with
    |some a=>mF b r a H
    |none=>none
   |_=>none
noncomputable def vA(o:Oper)(R:RT)(H:Heap):Option aU:=
 match o.op with
 | .call {callee:=.value f,args,.. }=>match jx k R f with
  | .p (.func g fi ca)=>B.cD g (fi.map .p++args.toList.map (jx k R)++ca.map .p) H
  | .func g fi ca=>B.cD g (fi++args.toList.map (jx k R)++ca) H
  | .map b=>B.y8 b (args.toList.map (jx k R)) H
  |_=>none
 |_=>zm P ag o (jx k R) H
noncomputable def mj(b:Array Oper):List Oper->Nat->List Touch->RT->Heap->Option (RT×Heap)
 |[],_,acc,R,H=>bif jL b acc then some (R,H)else none
 |o::r,i,acc,R,H=>match o.guard with
  |none=>match vA P ag B k o R H with
   |some e=>match kl k o.dst e.v R with
    |some a=>mj b r (i+1) (gD i H.length e acc) a (oU H e)
    |none=>none
   |none=>none
  |some (j,want)=>match yu k b j R with
   | .p (.bool t)=>match t,want with
    |true,true|false,false=>match vA P ag B k o R H with
     |some e=>match kl k o.dst e.v R with
      |some a=>mj b r (i+1) (gD i H.length e acc) a (oU H e)
      |none=>none
     |none=>none
    |_,_=>match kl k o.dst (.p (.aD [])) R with
     |some a=>mj b r (i+1) acc a H
     |none=>none
   | .p (.aD [])=>match kl k o.dst (.p (.aD [])) R with
    |some a=>mj b r (i+1) acc a H
    |none=>none
   |_=>none
abbrev Out:=Option (bu×RT×Heap)
def vi(f:RT->Heap->Out):Nat->RT->Heap->Out
 |0,_,_=>none
 |n+1,R,H=>match f R H with
  |some (.normal,a,H')=>vi f n a H'
  |r=>r
noncomputable def s9(k:Nat)(R:RT):Nat->Env
 |0=>[]
 |n+1=>(n,jD k R n)::s9 k R n
def VS:Nat:=100000
def yK(j:Option Code):Option bu:=
 match j with
 |none=>some .normal
 |some (.exit id)=>some (.exit id)
 |some .ret=>some .ret
 |_=>none
def DB(b:Nat)(R:RT)(H:Heap):Out:=
 match H[b]? with
 |some (.loop L)=>match L.st with
  | .busy=>none
  |_=>match yK L.pending with
   |some e=>some (e,R,H.set b (.loop {L with st:=.exhausted}))
   |none=>none
 |_=>none
noncomputable def gH(q:Cx):Code->RT->Heap->Out
 | .skip,R,H| .label _,R,H=>some (.normal,R,H)
 | .region _ ops draw,R,H=>bif draw then match mj P ag B k ops ops.toList 0 [] R H with
   |some (d,H')=>some (.normal,d,H')
   |none=>none
  else match mF P ag B k ops ops.toList R H with
   |some (d,H')=>some (.normal,d,H')
   |none=>none
 | .seq a b,R,H=>match gH q a R H with
  |some (.normal,d,H')=>gH q b d H'
  |r=>r
 | .cond c a b,R,H=>match jx k R c with
  | .p (.bool t)=>match t with
   |true=>gH q a R H
   |false=>gH q b R H
  |_=>none
 | .block id b,R,H=>match gH q b R H with
  |some (.exit i,d,H')=>bif bi i id then some (.normal,d,H')else some (.exit i,d,H')
  |r=>r
 | .scope b,R,H=>gH q b R H
 | .loop b,R,H=>vi (fun R H=>gH q b R H) VS R H
 | .rangeFunc f e a b,R,H=>bif a9 q.2 H.length&&a9 q.1 (4^k)then match B.cI (jx k R f) H.length (H++[.loop ⟨.ready,none,q.1,e.toList,a,b,s9 k R (4^k)⟩])with
   |some H'=>DB H.length R H'
   |none=>none
  else none
 | .exit id,R,H=>some (.exit id,R,H)
 | .ret,R,H=>some (.ret,R,H)
 |_,_,_=>none
end
section
variable{P:ax}{ag:ap->Bool}{B:jt}{k:Nat}
theorem IQ(e:aU)(dst:Option Tmp)(env:Env)(H:Heap):e.app dst ⟨env,H⟩=⟨put dst e.v env,oU H e⟩:=by
 simp[aU.app,JD]
theorem aAf(b:jE P B){o:Oper}{R i:RT}{H H':Heap}{env:Env}(h:vL P ag B k o R H=some (i,H'))(g:Rel k env R):
 ∃j,Rel k j i/\∀K:St->Prop,K ⟨j,H'⟩->ji P ag false o K ⟨env,H⟩:=by
 unfold vL at h;unfold ji;rw[yw g]at h
 split at h
 ·rename_i f args n c
  split at h
  case h_2=>simp at h
  rename_i v l hc
  split at h
  case h_2=>simp at h
  rename_i m d;simp only[bo,bv]at h;obtain⟨rfl,rfl⟩:=h;refine⟨_,uw d g,fun K a=>?_⟩;simp only[c]
  split at hc
  ·rename_i hf;simp only[hf];exact b.cP _ _ _ _ _ hc _ a
  ·rename_i hf;simp only[hf];exact b.cP _ _ _ _ _ hc _ a
  ·rename_i hf
   split at hc
   ·rename_i l s r;simp only[bo,bv]at hc;obtain⟨rfl,rfl⟩:=hc;simp only[hf];exact⟨_,_,b.cY _ _ _ _ _ r,a⟩
   ·simp at hc
  ·simp at hc
 ·rename_i q
  split at h
  case h_2=>simp at h
  rename_i e p
  split at h
  case h_2=>simp at h
  rename_i m d;simp only[bo,bv]at h;obtain⟨rfl,rfl⟩:=h;refine⟨_,uw d g,fun K a=>?_⟩
  split
  ·rename_i f args n c;exact(q _ _ _ c).elim
  ·exact Mg p (by rw[IQ];exact a)
theorem IU{a:Array Oper}{j:Nat}{R:RT}{env:Env}(b:Rel k env R):yu k a j R=guardOf a j env:=by
 unfold yu guardOf;split
 ·rename_i h;simp only[h];exact(b _).symm
 ·rename_i h;simp only[h]
theorem B4(f:jE P B){c:Array Oper}:∀{l:List Oper}{R a:RT}{H H':Heap}{env:Env},mF P ag B k c l R H=some (a,H')->Rel k env R->
 ∃b,Rel k b a/\∀K:St->Prop,K ⟨b,H'⟩->gE P ag false c l K ⟨env,H⟩
 |[],R,a,H,H',env,h,d=>by
  simp only[mF,bo,bv]at h;obtain⟨rfl,rfl⟩:=h;exact⟨env,d,fun K g=>g⟩
 |o::l,R,a,H,H',env,h,d=>by
  have run:(match vL P ag B k o R H with
    |some (a,H')=>mF P ag B k c l a H'
    |none=>none)=some (a,H')->∃b,Rel k b a/\∀K:St->Prop,K ⟨b,H'⟩->ji P ag false o (gE P ag false c l K) ⟨env,H⟩:=by
   intro h
   split at h
   case h_2=>simp at h
   rename_i n H1 e;obtain⟨w,q,a2⟩:=aAf f e d;obtain⟨u,r,s⟩:=B4 f h q;exact⟨u,r,fun K g=>a2 _ (s K g)⟩
  have skip:(match kl k o.dst (.p (.aD [])) R with
    |some a=>mF P ag B k c l a H
    |none=>none)=some (a,H')->∃b,Rel k b a/\∀K:St->Prop,K ⟨b,H'⟩->gE P ag false c l K ⟨put o.dst (.p (.aD [])) env,H⟩:=by
   intro h
   split at h
   case h_2=>simp at h
   rename_i n e;exact B4 f h (uw e d)
  simp only[mF]at h;simp only[gE]
  split at h
  ·rename_i i;simp only[i];exact run h
  ·rename_i j v i;simp only[i];rw[IU d]at h
   split at h
   ·rename_i t m;simp only[m];cases t<;>cases v
    ·simpa using run h
    ·simpa using skip h
    ·simpa using skip h
    ·simpa using run h
   ·rename_i m;simp only[m];exact skip h
   ·simp at h
theorem Yl(b:jE P B){o:Oper}{R:RT}{H:Heap}{e:aU}{env:Env}(h:vA P ag B k o R H=some e)(l:Rel k env R)(K:aU->Prop)(a:K e):iW P ag o ⟨env,H⟩ K:=by
 unfold vA at h;unfold iW;rw[yw l]at h
 split at h
 ·rename_i f args d c;simp only[c]
  split at h
  ·rename_i hf;simp only[hf];exact b.cD _ _ _ _ h _ a
  ·rename_i hf;simp only[hf];exact b.cD _ _ _ _ h _ a
  ·rename_i hf;simp only[hf];obtain⟨g,i⟩:=b.y8 _ _ _ _ h;exact⟨e,g,i,a⟩
  ·simp at h
 ·rename_i j
  split
  ·rename_i f args d c;exact(j _ _ _ c).elim
  ·exact Mg h a
theorem Bv(m:jE P B){f:Array Oper}:∀{l:List Oper}{i:Nat}{b:List Touch}{R a:RT}{H H':Heap}{env:Env},mj P ag B k f l i b R H=some (a,H')->Rel k env R->
 ∃c,Rel k c a/\∀K:St->Prop,K ⟨c,H'⟩->fP P ag f l i b K ⟨env,H⟩
 |[],i,b,R,a,H,H',env,h,d=>by
  simp only[mj,ab,bl,bo,bv]at h;obtain⟨g,rfl,rfl⟩:=h;exact⟨env,d,fun K n=>⟨g,n⟩⟩
 |o::l,i,b,R,a,H,H',env,h,d=>by
  have run:(match vA P ag B k o R H with
    |some e=>match kl k o.dst e.v R with
     |some a=>mj P ag B k f l (i+1) (gD i H.length e b) a (oU H e)
     |none=>none
    |none=>none)=some (a,H')->∃c,Rel k c a/\∀K:St->Prop,K ⟨c,H'⟩->iW P ag o ⟨env,H⟩ (fun e=>fP P ag f l (i+1) (gD i H.length e b) K (e.app o.dst ⟨env,H⟩)):=by
   intro h
   split at h
   case h_2=>simp at h
   rename_i e y
   split at h
   case h_2=>simp at h
   rename_i s g;obtain⟨x,u,w⟩:=Bv m h (uw g d);exact⟨x,u,fun K n=>Yl m y d _ (by rw[IQ];exact w K n)⟩
  have skip:(match kl k o.dst (.p (.aD [])) R with
    |some a=>mj P ag B k f l (i+1) b a H
    |none=>none)=some (a,H')->∃c,Rel k c a/\∀K:St->Prop,K ⟨c,H'⟩->fP P ag f l (i+1) b K ⟨put o.dst (.p (.aD [])) env,H⟩:=by
   intro h
   split at h
   case h_2=>simp at h
   rename_i s g;exact Bv m h (uw g d)
  simp only[mj]at h;simp only[fP]
  split at h
  ·rename_i q;simp only[q];exact run h
  ·rename_i j z q;simp only[q];rw[IU d]at h
   split at h
   ·rename_i t r;simp only[r];cases t<;>cases z
    ·simpa using run h
    ·simpa using skip h
    ·simpa using skip h
    ·simpa using run h
   ·rename_i r;simp only[r];exact skip h
   ·simp at h
theorem JJ(R:RT):∀(n:Nat),∀x,aN (s9 k R n) x=if x<n then jD k R x else .p .undef
 |0,x=>by simp[s9,aN]
 |n+1,x=>by
  simp only[s9,aN,JJ R n]
  by_cases h:x=n
  ·subst h;simp
  ·simp only[h,if_false]
   by_cases a:x<n
   ·simp[a,Nat.lt_succ_of_lt a]
   ·have:¬x<n+1:=by omega
    simp[a,this]
theorem V7(k:Nat)(R:RT)(n:Nat)(h:4^k<=n):jD k R n=.p .undef:=by
 unfold jD;rw[Lp (by omega)];rfl
theorem Yo{R:RT}{env:Env}(a:Rel k env R):∀x,aN (s9 k R (4^k)) x=aN env x:=by
 intro x;rw[JJ,a]
 split
 ·rfl
 ·rw[V7 k R x (by omega)]
theorem VY{j:Option Code}{e:bu}(h:yK j=some e)(Q:bu->St->Prop)(s:St)(hq:Q e s):jR Q j s:=by
 unfold yK at h;unfold jR
 split at h<;>simp at h<;>subst h<;>exact hq
theorem Wn{b:Nat}{R a:RT}{H H':Heap}{e:bu}{env:Env}(h:DB b R H=some (e,a,H')):a=R/\∀Q:bu->St->Prop,Q e ⟨env,H'⟩->iF b env Q H:=by
 unfold DB at h
 split at h
 case h_2=>simp at h
 rename_i L c
 have go:(match yK L.pending with
   |some e=>some (e,R,H.set b (.loop {L with st:=.exhausted}))
   |none=>none)=some (e,a,H')->L.st≠.busy->a=R/\∀Q:bu->St->Prop,Q e ⟨env,H'⟩->iF b env Q H:=by
  intro h aK
  split at h
  case h_2=>simp at h
  rename_i e' d;simp only[bo,bv]at h;obtain⟨rfl,rfl,rfl⟩:=h;exact⟨rfl,fun Q hq=>by unfold iF;simp only[c];exact⟨aK,VY d Q _ hq⟩⟩
 split at h
 ·simp at h
 ·rename_i aK;exact go h aK
theorem Uo{q:Cx}{b:Code}{Q:bu->St->Prop}{s s':St}(f:∀c:bu->St->Prop,c .normal s'->cd P ag q b c s)(d:cd P ag q (.loop b) Q s'):cd P ag q (.loop b) Q s:=by
 simp only[cd]at d⊢;obtain⟨I,⟨a,t0,hf,hI⟩,g⟩:=d;refine⟨fun n t=>I n t\/(n=a+1/\t=s),⟨a+1,s,.inl rfl,.inr ⟨rfl,rfl⟩⟩,?_⟩;rintro n t (h|⟨rfl,rfl⟩)
 ·obtain⟨e,u,k1,k2⟩:=mS b t _ (g n t h);refine k2 _ ?_;cases e with
  |normal=>
   obtain⟨m,i,g1,g2,g3⟩:=k1;exact⟨m,i,g1,g2,.inl g3⟩
  |exit id=>exact k1
  |ret=>exact k1
 ·exact f _ ⟨a,t0,Nat.lt_succ_self _,hf,.inl hI⟩
theorem Un{q:Cx}{b:Code}{Q:bu->St->Prop}{s s':St}{e:bu}(f:e≠.normal)(d:∀a:bu->St->Prop,a e s'->cd P ag q b a s)(c:Q e s'):cd P ag q (.loop b) Q s:=by
 simp only[cd];refine⟨fun n t=>n=0/\t=s,⟨0,s,.inl rfl,rfl,rfl⟩,?_⟩;rintro n t ⟨rfl,rfl⟩;refine d _ ?_;cases e with
 |normal=>exact(f rfl).elim
 |exit id=>exact c
 |ret=>exact c
theorem J4{q:Cx}{b:Code}{f:RT->Heap->Out}(hf:∀{R a:RT}{H H':Heap}{e:bu}{env:Env},f R H=some (e,a,H')->Rel k env R->∃c,Rel k c a/\∀Q:bu->St->Prop,Q e ⟨c,H'⟩->cd P ag q b Q ⟨env,H⟩):
 ∀(n:Nat){R a:RT}{H H':Heap}{e:bu}{env:Env},vi f n R H=some (e,a,H')->Rel k env R->∃c,Rel k c a/\∀Q:bu->St->Prop,Q e ⟨c,H'⟩->cd P ag q (.loop b) Q ⟨env,H⟩
 |0,R,a,H,H',e,env,h,g=>by simp[vi]at h
 |n+1,R,a,H,H',e,env,h,g=>by
  simp only[vi]at h
  split at h
  ·rename_i r H1 o;obtain⟨i,d,a2⟩:=hf o g;obtain⟨m,j,l⟩:=J4 hf n h d;exact⟨m,j,fun Q hq=>Uo a2 (l Q hq)⟩
  ·rename_i p;obtain⟨i,d,a2⟩:=hf h g;refine⟨i,d,fun Q hq=>Un ?_ a2 hq⟩;rintro rfl;exact p _ _ h
theorem kz(m:jE P B){q:Cx}:∀{c:Code}{R l:RT}{H H':Heap}{e:bu}{env:Env},gH P ag B k q c R H=some (e,l,H')->Rel k env R->
 ∃r,Rel k r l/\∀Q:bu->St->Prop,Q e ⟨r,H'⟩->cd P ag q c Q ⟨env,H⟩
 | .skip,R,l,H,H',e,env,h,d| .label _,R,l,H,H',e,env,h,d| .exit _,R,l,H,H',e,env,h,d| .ret,R,l,H,H',e,env,h,d=>by
  simp only[gH,bo,bv]at h;obtain⟨rfl,rfl,rfl⟩:=h;exact⟨env,d,fun Q hq=>hq⟩
 | .region id ops draw,R,l,H,H',e,env,h,d=>by
  simp only[gH]at h;cases draw
  ·simp only[cond_false]at h
   split at h
   case h_2=>simp at h
   rename_i o H1 n;simp only[bo,bv]at h;obtain⟨rfl,rfl,rfl⟩:=h;obtain⟨j,g,a2⟩:=B4 m n d;exact⟨j,g,fun Q hq=>by simp only[cd];exact a2 _ hq⟩
  ·simp only[cond_true]at h
   split at h
   case h_2=>simp at h
   rename_i o H1 n;simp only[bo,bv]at h;obtain⟨rfl,rfl,rfl⟩:=h;obtain⟨j,g,a2⟩:=Bv m n d;exact⟨j,g,fun Q hq=>by simp only[cd,if_true];exact a2 _ hq⟩
 | .seq a b,R,l,H,H',e,env,h,d=>by
  simp only[gH]at h
  split at h
  ·rename_i o H1 n;obtain⟨j,g,a2⟩:=kz m n d;obtain⟨w,u,v⟩:=kz m h g;exact⟨w,u,fun Q hq=>by simp only[cd];exact a2 _ (v Q hq)⟩
  ·rename_i p;obtain⟨j,g,a2⟩:=kz m h d;refine⟨j,g,fun Q hq=>by
    simp only[cd];refine a2 _ ?_;cases e with
    |normal=>exact(p _ _ h).elim
    |exit id=>exact hq
    |ret=>exact hq⟩
 | .cond c a b,R,l,H,H',e,env,h,d=>by
  simp only[gH,yw d]at h
  split at h
  case h_2=>simp at h
  rename_i t s;cases t
  ·obtain⟨j,g,a2⟩:=kz m h d;exact⟨j,g,fun Q hq=>by simp only[cd,s];exact a2 Q hq⟩
  ·obtain⟨j,g,a2⟩:=kz m h d;exact⟨j,g,fun Q hq=>by simp only[cd,s,if_true];exact a2 Q hq⟩
 | .block id b,R,l,H,H',e,env,h,d=>by
  simp only[gH]at h
  split at h
  ·rename_i i o H1 n;obtain⟨j,g,a2⟩:=kz m n d;cases hi:bi i id
   ·simp only[hi,cond_false,bo,bv]at h;obtain⟨rfl,rfl,rfl⟩:=h;refine⟨j,g,fun Q hq=>by
     simp only[cd];refine a2 _ ?_;have:i≠id:=fun e=>by subst e;simp[Nat.beq_refl]at hi
     simp only[this,if_false];exact hq⟩
   ·simp only[hi,cond_true,bo,bv]at h;obtain⟨rfl,rfl,rfl⟩:=h;refine⟨j,g,fun Q hq=>by
     simp only[cd];refine a2 _ ?_;simp only[dt hi,if_true];exact hq⟩
  ·rename_i p;obtain⟨j,g,a2⟩:=kz m h d;refine⟨j,g,fun Q hq=>by
    simp only[cd];refine a2 _ ?_;cases e with
    |normal=>exact hq
    |exit id=>exact(p _ _ _ h).elim
    |ret=>exact hq⟩
 | .scope b,R,l,H,H',e,env,h,d=>by
  simp only[gH]at h;obtain⟨j,g,a2⟩:=kz m h d;exact⟨j,g,fun Q hq=>by simp only[cd];exact a2 Q hq⟩
 | .loop b,R,l,H,H',e,env,h,d=>by
  simp only[gH]at h;exact J4 (fun h d=>kz m h d) _ h d
 | .rangeFunc f z a b,R,l,H,H',e,env,h,d=>by
  simp only[gH,ab,bl,ac]at h;obtain⟨⟨n,y⟩,h⟩:=h
  split at h
  case h_2=>simp at h
  rename_i H1 hI;obtain⟨rfl,x⟩:=Wn (env:=env) h;refine⟨env,d,fun Q hq=>?_⟩;simp only[cd];rw[yw d]at hI;exact⟨cU n,_,Yo d,m.cI _ _ _ _ hI _ (x Q hq)⟩
 | .goto _,_,_,_,_,_,_,h,_=>by simp[gH]at h
 | .refuse _,_,_,_,_,_,_,h,_=>by simp[gH]at h
end
def qO(n:Nat):Nat:=
 match a9 n 16,a9 n 64,a9 n 256,a9 n 1024 with
 |true,_,_,_=>2
 |_,true,_,_=>3
 |_,_,true,_=>4
 |_,_,_,true=>5
 |_,_,_,_=>6
noncomputable def vg(k:Nat):Nat->List AV->RT
 |_,[]=>.lf
 |i,v::r=>vN k (vg k (i+1) r) i v
theorem Kg(k:Nat):∀(l:List AV)(i:Nat),i+l.length<=4^k->Rel k (iu i l) (vg k i l)
 |[],i,_=>fun x=>by simp[iu,vg,aN,KS]
 |v::r,i,h=>fun x=>by
  simp only[List.length_cons]at h;rw[vg,AU _ _ _ _ _ (by omega)];simp only[iu,aN]
  split
  ·rfl
  ·exact Kg k r (i+1) (by omega) x
noncomputable def vB(k:Nat):Env->Option RT
 |[]=>some .lf
 |(x,v)::r=>match vB k r with
  |some R=>bif a9 (x+1) (4^k)then some (vN k R x v)else none
  |none=>none
theorem JI(k:Nat):∀{e:Env}{R:RT},vB k e=some R->Rel k e R
 |[],R,h=>by
  simp only[vB,bo]at h;subst h;intro x;simp[aN,KS]
 |(y,v)::r,R,h=>by
  simp only[vB]at h
  split at h
  case h_2=>simp at h
  rename_i c a;simp only[ab,bl,bo]at h;obtain⟨b,rfl⟩:=h;intro x;rw[AU _ _ _ _ _ (by have:=cU b;omega)];simp only[aN]
  split
  ·rfl
  ·exact JI k a x
noncomputable def zu(P:ax)(k:Nat)(R:RT)(H:Heap):List ay->Option (List AV)
 |[]=>some []
 |r::rs=>match(match r with
  | .tmp t=>some (jD k R t)
  | .cell a T=>match jD k R a with
   | .ptr b path=>match H[b]? with
    |some (.box _ t)=>match eD t path with
     |some v=>bif sE (kindOf P T) (ad v)then some v else none
     |none=>none
    |_=>none
   |_=>none),zu P k R H rs with
  |some v,some vs=>some (v::vs)
  |_,_=>none
theorem KU{P:ax}{k:Nat}{R:RT}{H:Heap}{env:Env}(d:Rel k env R):∀{e:List ay}{vs:List AV},zu P k R H e=some vs->fu P ⟨env,H⟩ e=some vs
 |[],vs,h=>h
 |r::e,vs,h=>by
  simp only[zu]at h
  split at h
  case h_2=>simp at h
  rename_i v o c f;simp only[bo]at h;subst h;have g:oM P ⟨env,H⟩ r=some v:=by
   cases r with
   |tmp t=>simp only[oM];rw[d];exact c
   |cell a T=>
    simp only[oM];dsimp only at c;rw[<-d]at c
    split at c
    case h_2=>simp at c
    rename_i b n j
    split at c
    case h_2=>simp at c
    rename_i fz t l
    split at c
    case h_2=>simp at c
    rename_i u m;simp only[ab,bl,bo]at c;obtain⟨i,rfl⟩:=c;rw[j];simp only[l,m,(iw i).1,if_true]
  simp only[fu,g,KU d f]
section
variable(P:ax)(ag:ap->Bool)
noncomputable def yO(B:jt)(fn:Func)(args:List AV)(N:Nat)(H:Heap):Option (AV×Heap):=
 bif a9 args.length fn.ntmps&&a9 fn.ntmps (4^qO fn.ntmps)then
  match gH P ag B (qO fn.ntmps) (fn.ntmps,N) (fn.body.getD .skip) (vg (qO fn.ntmps) 0 args) H with
  |some (.exit _,_,_)=>none
  |some (_,R,H')=>match zu P (qO fn.ntmps) R H' fn.results.toList with
   |some vs=>some (oneOf vs,H')
   |none=>none
  |none=>none
 else none
structure lP where
 qZ:ap->Option Func
 zf:ap->List PV->Option PV
 zg:ap->List AV->Heap->Option (AV×Heap)
 jC:ap->ap->Nat
 tf:ap->List AV->Heap->Option (List (Nat×Obj)×PV)
noncomputable def nO(pl:lP)(B:ap->jt)(f:ap)(vs:List PV):Option PV:=
 match pl.zf f vs with
 |some v=>some v
 |none=>match pl.qZ f with
  |some fn=>match yO P ag (B f) fn (vs.map .p) 0 []with
   |some (v,H)=>dY H 9 v
   |none=>none
  |none=>none
noncomputable def nN(pl:lP)(B:ap->jt)(f:ap)(args:List AV)(H:Heap):Option (AV×Heap):=
 match pl.zg f args H with
 |some r=>some r
 |none=>match pl.qZ f with
  |some fn=>yO P ag (B f) fn args H.length H
  |none=>none
noncomputable def yp(B:jt)(b:Nat)(H:Heap)(args:List AV):Option (Heap×AV):=
 match H[b]? with
 |some (.loop L)=>bif bi args.length L.params.length&&(L.params.all (fun x=>decide (x<L.n))&&codeOk fit L.n L.assign&&codeOk fit L.n L.body)then
  match vB (qO L.n) (pY L.params args L.env)with
  |some R=>match gH P ag B (qO L.n) (L.n,H.length) L.assign R H with
   |some (.normal,f,H1)=>match H1[b]? with
    |some (.loop c)=>match c.st with
     | .ready=>match gH P ag B (qO L.n) (L.n,H.length) L.body f (H1.set b (.loop {c with st:=.busy}))with
      |some (e,_,a)=>match a[b]? with
       |some (.loop d)=>some (a.set b (.loop {d with st:=if(gB e).isNone then .ready else .done,pending:=gB e}),.p (.bool (gB e).isNone))
       |_=>none
      |none=>none
     |_=>none
    |_=>none
   |_=>none
  |none=>none
  else none
 |_=>none
noncomputable def Dn(pl:lP)(B:ap->jt)(it:AV)(b:Nat)(H:Heap):Option Heap:=
 match it with
 | .p (.func g fi ca)=>match nN P ag pl B g (fi.map .p++[.map b]++ca.map .p) H with
  |some (_,H')=>some H'
  |none=>none
 | .func g fi ca=>match nN P ag pl B g (fi++[.map b]++ca) H with
  |some (_,H')=>some H'
  |none=>none
 |_=>none
noncomputable def C3(pl:lP)(B:ap->jt)(c f:ap)(args:List AV)(H:Heap):Option (AV×Heap):=
 match pl.tf f args H with
 |some (_,v)=>some (.p v,H)
 |none=>match pl.jC c f with
 |0=>match eB args with
  |some vs=>match nO P ag pl B f vs with
   |some v=>some (.p v,H)
   |none=>none
  |none=>nN P ag pl B f args H
 |1=>nN P ag pl B f args H
 |3=>match vf (nN P ag pl B f) args H with
  |some e=>some (e.v,oU H e)
  |none=>none
 |_=>match mG H args with
  |some (vs,H1)=>match nO P ag pl B f vs with
   |some v=>some (.p v,H1)
   |none=>none
  |none=>none
noncomputable def C2(pl:lP)(B:ap->jt)(c f:ap)(args:List AV)(H:Heap):Option aU:=
 match pl.tf f args H with
 |some (aj,v)=>some {v:=.p v,aj}
 |none=>match pl.jC c f with
 |3=>vf (nN P ag pl B f) args H
 |_=>match eB args with
 |some vs=>match nO P ag pl B f vs with
  |some v=>some {v:=.p v}
  |none=>none
 |none=>match nF H args with
  |some (vs,bs)=>match kC H bs with
   |some (aj,aJ)=>match nO P ag pl B f vs with
    |some v=>some {v:=.p v,aj,aJ}
    |none=>none
   |none=>none
  |none=>vf (nN P ag pl B f) args H
def se:jt:=⟨fun _ _ _=>none,fun _ _ _=>none,fun _ _ _=>none,fun _ _ _=>none,fun _ _ _=>none⟩
noncomputable def jv(pl:lP):Nat->ap->jt
 |0,_=>se
 |n+1,c=>⟨C3 P ag pl (jv pl n) c,C2 P ag pl (jv pl n) c,yp P ag (jv pl n c),Dn P ag pl (jv pl n),BX (yp P ag (jv pl n c))⟩
end
structure mc(P:ax)(pl:lP):Prop where
 mix:P.follows .mixedOrders=true
 qZ:∀f fn,pl.qZ f=some fn->an P f fn
 zf:∀f vs v,pl.zf f vs=some v->az P f vs v
 zg:∀f args H v H',pl.zg f args H=some (v,H')->b9 P f H args H' v
 tf:∀f args H aj v,pl.tf f args H=some (aj,v)->CK P f args aj v/\∀p∈aj,H[p.1]?=some p.2
section
variable{P:ax}{ag:ap->Bool}{B1:jt}{B:ap->jt}{pl:lP}
theorem JA(f:jE P B1){fn:Func}{args:List AV}{N:Nat}{H H':Heap}{v:AV}(h:yO P ag B1 fn args N H=some (v,H')):
 args.length<=fn.ntmps/\∃e a vs,(match e with
  |bu.exit _=>False
  |_=>True)/\fu P ⟨a,H'⟩ fn.results.toList=some vs/\oneOf vs=v/\∀Q:bu->St->Prop,Q e ⟨a,H'⟩->cd P ag (fn.ntmps,N) (fn.body.getD .skip) Q ⟨iu 0 args,H⟩:=by
 unfold yO at h;simp only[ab,bl,ac]at h;obtain⟨⟨b,c⟩,h⟩:=h;have b:=cU b;have c:=cU c;refine⟨b,?_⟩
 split at h
 ·simp at h
 ·rename_i e R k g hc
  split at h
  case h_2=>simp at h
  rename_i vs j;simp only[bo,bv]at h;obtain⟨rfl,rfl⟩:=h;obtain⟨a,d,a2⟩:=kz f hc (Kg _ args 0 (by omega));refine⟨e,a,vs,?_,KU d j,rfl,a2⟩;cases e with
  |exit i=>exact g i rfl
  |_=>trivial
 ·simp at h
theorem uD(a:mc P pl)(j:∀c,jE P (B c)){f:ap}{vs:List PV}{v:PV}(h:nO P ag pl B f vs=some v):az P f vs v:=by
 unfold nO at h
 split at h
 ·rename_i v' hk;simp only[bo]at h;subst h;exact a.zf _ _ _ hk
 ·split at h
  case h_2=>simp at h
  rename_i fn hf
  split at h
  case h_2=>simp at h
  rename_i v' H' k;obtain⟨b,e,m,l,d,g,rfl,i⟩:=JA (j _) k;exact ze ag (a.qZ _ _ hf) a.mix (by simpa using b) (i _ ⟨d,l,g,h⟩)
theorem pM(a:mc P pl)(j:∀c,jE P (B c)){f:ap}{args:List AV}{H H':Heap}{v:AV}(h:nN P ag pl B f args H=some (v,H')):b9 P f H args H' v:=by
 unfold nN at h
 split at h
 ·rename_i r hk;simp only[bo]at h;subst h;exact a.zg _ _ _ _ _ hk
 ·split at h
  case h_2=>simp at h
  rename_i fn hf;obtain⟨b,e,l,k,d,g,rfl,i⟩:=JA (j _) h;exact NR ag (a.qZ _ _ hf) a.mix b (i _ ⟨d,k,g,rfl,.inl rfl⟩)
theorem IL{args:List AV}{vs:List PV}(h:eB args=some vs):args=vs.map .p:=lg h
theorem WN(b:mc P pl)(d:∀c,jE P (B c)){c f:ap}{args:List AV}{H H':Heap}{v:AV}(h:C3 P ag pl B c f args H=some (v,H'))(K:AV->Heap->Prop)(a:K v H'):gC P false f args H K:=by
 unfold C3 at h
 split at h
 ·rename_i aj v' hx;simp only[bo,bv]at h;obtain⟨rfl,rfl⟩:=h;obtain⟨i,j⟩:=b.tf _ _ _ _ _ hx;exact .inr ⟨rfl,.inr (.inr (.inr ⟨aj,v',i,j,a⟩))⟩
 split at h
 ·split at h
  ·rename_i vs m
   split at h
   case h_2=>simp at h
   rename_i v' g;simp only[bo,bv]at h;obtain⟨rfl,rfl⟩:=h;exact .inl ⟨vs,v',IL m,uD b d g,a⟩
  ·exact .inr ⟨rfl,.inr (.inl ⟨H',v,pM b d h,a⟩)⟩
 ·exact .inr ⟨rfl,.inr (.inl ⟨H',v,pM b d h,a⟩)⟩
 ·split at h
  case h_2=>simp at h
  rename_i e k;simp only[bo,bv]at h;obtain⟨rfl,rfl⟩:=h;obtain⟨i,j⟩:=Ba (fun args H v H' g=>pM b d g) k;exact .inr ⟨rfl,.inr (.inr (.inl ⟨e,i,j,by rw[<-JD];exact a⟩))⟩
 ·split at h
  case h_2=>simp at h
  rename_i vs H1 l
  split at h
  case h_2=>simp at h
  rename_i v' g;simp only[bo,bv]at h;obtain⟨rfl,rfl⟩:=h;exact .inr ⟨rfl,.inl ⟨vs,H1,v',l,uD b d g,a⟩⟩
theorem WO(i:mc P pl)(j:∀c,jE P (B c)){c f:ap}{args:List AV}{H:Heap}{e:aU}(h:C2 P ag pl B c f args H=some e)(K:aU->Prop)(g:K e):gI P f args H K:=by
 unfold C2 at h
 split at h
 ·rename_i aj v' hx;simp only[bo]at h;subst h;obtain⟨b,d⟩:=i.tf _ _ _ _ _ hx;exact .inr (.inr (.inr ⟨aj,v',b,d,g⟩))
 split at h
 ·obtain⟨b,d⟩:=Ba (fun args H v H' a=>pM i j a) h;exact .inr (.inr (.inl ⟨e,b,d,g⟩))
 split at h
 ·rename_i vs m
  split at h
  case h_2=>simp at h
  rename_i v' a;simp only[bo]at h;subst h;exact .inl ⟨vs,v',IL m,uD i j a,g⟩
 ·split at h
  case h_2=>
   obtain⟨b,d⟩:=Ba (fun args H v H' a=>pM i j a) h;exact .inr (.inr (.inl ⟨e,b,d,g⟩))
  rename_i vs bs l
  split at h
  case h_2=>simp at h
  rename_i aj aJ k
  split at h
  case h_2=>simp at h
  rename_i v' a;simp only[bo]at h;subst h;exact .inr (.inl ⟨vs,bs,aj,aJ,v',l,k,uD i j a,g⟩)
theorem Iv(o:mc P pl)(a:jE P B1){b:Nat}{H H':Heap}{args:List AV}{v:AV}(h:yp P ag B1 b H args=some (H',v)):ic P b H args H' v:=by
 unfold yp at h
 split at h
 case h_2=>simp at h
 rename_i L i;simp only[ab,bl,ac]at h;obtain⟨⟨f,g⟩,h⟩:=h
 split at h
 case h_2=>simp at h
 rename_i R l
 split at h
 case h_2=>simp at h
 rename_i s H1 m
 split at h
 case h_2=>simp at h
 rename_i q j
 split at h
 case h_2=>simp at h
 rename_i aK
 split at h
 case h_2=>simp at h
 rename_i e t p n
 split at h
 case h_2=>simp at h
 rename_i r k;simp only[bo,bv]at h;obtain⟨rfl,rfl⟩:=h;obtain⟨w,c,a2⟩:=kz a m (JI _ l);obtain⟨x,u,d⟩:=kz a n c;refine NT ag o.mix i (dt f) (by simpa only[ac]using g) ?_;unfold xN;refine a2 _ ?_;simp only[wY,j];refine⟨aK,d _ ?_⟩;simp only[rO,k];exact⟨trivial,.inl rfl⟩
theorem VZ(g:mc P pl)(e:∀c,jE P (B c)){it:AV}{b:Nat}{H H':Heap}(h:Dn P ag pl B it b H=some H')(K:Heap->Prop)(f:K H'):ju P it b H K:=by
 unfold Dn at h
 split at h
 ·split at h
  case h_2=>simp at h
  rename_i v a d;simp only[bo]at h;subst h;exact⟨a,v,pM g e d,f⟩
 ·split at h
  case h_2=>simp at h
  rename_i v a d;simp only[bo]at h;subst h;exact⟨a,v,pM g e d,f⟩
 ·simp at h
theorem rL(a:mc P pl):∀n c,jE P (jv P ag pl n c)
 |0,_=>⟨fun _ _ _ _ _ h=>by simp[jv,se]at h,fun _ _ _ _ h=>by simp[jv,se]at h,fun _ _ _ _ _ h=>by simp[jv,se]at h,fun _ _ _ _ h=>by simp[jv,se]at h,fun _ _ _ _ h=>by simp[jv,se]at h⟩
 |n+1,c=>⟨fun _ _ _ _ _ h=>WN a (rL a n) h,fun _ _ _ _ h=>WO a (rL a n) h,fun _ _ _ _ _ h=>Iv a (rL a n c) h,fun _ _ _ _ h=>VZ a (rL a n) h,fun _ _ _ _ h=>TD (fun _ _ _ _ _ b=>Iv a (rL a n c) b) h⟩
theorem reckon{f:ap}{vs:List PV}{v:PV}(n:Nat)(a:mc P pl)(h:nO P ag pl (jv P ag pl n) f vs=some v):az P f vs v:=uD a (rL a n) h
end
section
variable{P:ax}{ag:ap->Bool}
theorem az.cW{f:ap}{args d:List PV}{v v':PV}(h:az P f args v)(g:bB d args)(i:Wk v v'):az P f d v':=by
 rcases h with h|h
 ·refine .inl ⟨h.1,fun w aa a j k c=>(h.2 w aa a j k (bn.cW _ _ _ g c)).mono ?_⟩;rintro e w' ⟨b,aE,k1,k2,k3,k4,k5,k6,l,k7⟩;exact⟨b,aE,k1,k2,k3,k4,k5,k6,l,aA.cW _ _ _ i k7⟩
 ·refine .inr fun w aa a c=>?_;obtain⟨b,k1,k2⟩:=h w aa a (bn.cW _ _ _ g c);exact⟨b,k1,aA.cW _ _ _ i k2⟩
def yS(P:ax)(a:List ay)(v:PV)(e:bu)(s:St):Prop:=
 (match e with
  | .exit _=>False
  |_=>True)/\∃vs,fu P s a=some vs/\∃v',dY s.heap 9 (oneOf vs)=some v'/\Wk v' v
theorem UL{a:List ay}{v:PV}{s:St}:yS P a v .ret s=∃vs,fu P s a=some vs/\∃v',dY s.heap 9 (oneOf vs)=some v'/\Wk v' v:=by simp[yS]
theorem Su{a:List ay}{v:PV}{s:St}:yS P a v .normal s=∃vs,fu P s a=some vs/\∃v',dY s.heap 9 (oneOf vs)=some v'/\Wk v' v:=by simp[yS]
theorem mu.cW{f:ap}{args a:List PV}{v v':PV}(h:mu P f args v)(j:bB a args)(k:Wk v v'):mu P f a v':=by
 refine⟨h.1,fun w aa b d g i=>(h.2 w aa b d g (bn.cW _ _ _ j i)).mono ?_⟩;rintro e w' ⟨c,aE,k1,k2,k3,k4,k5,k6,l,k7⟩;exact⟨c,aE,k1,k2,k3,k4,k5,k6,l,aA.cW _ _ _ k k7⟩
theorem HL{dst:Option Tmp}{h:Nat}{pos:String}{af:Array Edge}{g:Option (Nat×Bool)}{env:Env}{heap:Heap}{L:St->Prop}{f:ap}{fi ca:Array ao}(hf:ag f=false):
 di P ag ⟨dst,.makeFunc (.func f) fi ca,h,pos,af,g⟩ L ⟨env,heap⟩=bf (qp f (fi.toList.map (ev env)) (ca.toList.map (ev env))) (dX dst ⟨env,heap⟩ L):=by
 simp only[di,kf,fp,hf,qp,am,if_false]
 split
 ·rename_i c d;simp only[c,d,bf,true_and]
 ·rename_i c
  split
  ·rename_i a b d e;exact(c a b d e).elim
  ·simp only[bf,true_and]
theorem Hn{dst:Option Tmp}{h:Nat}{pos:String}{af:Array Edge}{g:Option (Nat×Bool)}{env:Env}{heap:Heap}{K:aU->Prop}{f:ap}{fi ca:Array ao}(hf:ag f=false):
 dj P ag ⟨dst,.makeFunc (.func f) fi ca,h,pos,af,g⟩ ⟨env,heap⟩ K=bf (qp f (fi.toList.map (ev env)) (ca.toList.map (ev env))) K:=by
 simp only[dj,kf,fp,hf,qp,am,if_false]
 split
 ·rename_i c d;simp only[c,d,bf,true_and]
 ·rename_i c
  split
  ·rename_i a b d e;exact(c a b d e).elim
  ·simp only[bf,true_and]
section guards
variable{ops:Array Oper}{o:Oper}{r:List Oper}{K:St->Prop}{want t:Bool}{s:St}{i:Nat}{acc:List Touch}
theorem G9:yt P ag ops o r K want s (.p (.bool t))=if t=want then di P ag o (fH P ag ops r K) s else fH P ag ops r K ⟨put o.dst (.p (.aD [])) s.env,s.heap⟩:=(rfl)
theorem HP:yt P ag ops o r K want s (.p (.aD []))=fH P ag ops r K ⟨put o.dst (.p (.aD [])) s.env,s.heap⟩:=(rfl)
theorem Gz:yc P ag ops o r i acc K want s (.p (.bool t))=if t=want then dj P ag o s (vo P ag ops r i acc K o.dst s)else fQ P ag ops r (i+1) acc K ⟨put o.dst (.p (.aD [])) s.env,s.heap⟩:=(rfl)
theorem G8:yc P ag ops o r i acc K want s (.p (.aD []))=fQ P ag ops r (i+1) acc K ⟨put o.dst (.p (.aD [])) s.env,s.heap⟩:=(rfl)
theorem Sr{l:List Oper}{j:Nat}{e:Env}:guardOf l.toArray j e=match(l[j]?).bind (·.dst)with
 |some d=>aN e d
 |none=>.p (.aD []):=by simp only[guardOf,List.getElem?_toArray];cases l[j]?.bind (·.dst)<;>rfl
end guards
section calls
variable{f:ap}{H H1:Heap}{K:AV->Heap->Prop}{L:aU->Prop}{v a b c d e a' b' c' d' e':PV}{dr:Bool}
theorem XP(h:az P f [] v)(hk:K (.p v) H):gC P dr f [] H K:=.inl ⟨[],v,rfl,h,hk⟩
theorem XQ(h:az P f [a'] v)(hk:K (.p v) H)(b:Wk a a':=by first|exact Wk.refl _|simp[Wk,bB]):gC P dr f [.p a] H K:=.inl ⟨[a],v,rfl,h.cW (by simp only[bB];exact⟨b,trivial⟩) (Wk.refl _),hk⟩
theorem XR(h:az P f [a',b'] v)(hk:K (.p v) H)(c:Wk a a':=by first|exact Wk.refl _|simp[Wk,bB])(d:Wk b b':=by first|exact Wk.refl _|simp[Wk,bB]):gC P dr f [.p a,.p b] H K:=
 .inl ⟨[a,b],v,rfl,h.cW (by simp only[bB];exact⟨c,d,trivial⟩) (Wk.refl _),hk⟩
theorem XS(h:az P f [a',b',c'] v)(hk:K (.p v) H)(d:Wk a a':=by first|exact Wk.refl _|simp[Wk,bB])(e:Wk b b':=by first|exact Wk.refl _|simp[Wk,bB])(g:Wk c c':=by first|exact Wk.refl _|simp[Wk,bB]):gC P dr f [.p a,.p b,.p c] H K:=
 .inl ⟨[a,b,c],v,rfl,h.cW (by simp only[bB];exact⟨d,e,g,trivial⟩) (Wk.refl _),hk⟩
theorem XT(h:az P f [a',b',c',d'] v)(hk:K (.p v) H)(e:Wk a a':=by first|exact Wk.refl _|simp[Wk,bB])(g:Wk b b':=by first|exact Wk.refl _|simp[Wk,bB])(i:Wk c c':=by first|exact Wk.refl _|simp[Wk,bB])(j:Wk d d':=by first|exact Wk.refl _|simp[Wk,bB]):gC P dr f [.p a,.p b,.p c,.p d] H K:=
 .inl ⟨[a,b,c,d],v,rfl,h.cW (by simp only[bB];exact⟨e,g,i,j,trivial⟩) (Wk.refl _),hk⟩
theorem XU(h:az P f [a',b',c',d',e'] v)(hk:K (.p v) H)(g:Wk a a':=by first|exact Wk.refl _|simp[Wk,bB])(i:Wk b b':=by first|exact Wk.refl _|simp[Wk,bB])(j:Wk c c':=by first|exact Wk.refl _|simp[Wk,bB])(k:Wk d d':=by first|exact Wk.refl _|simp[Wk,bB])(l:Wk e e':=by first|exact Wk.refl _|simp[Wk,bB]):gC P dr f [.p a,.p b,.p c,.p d,.p e] H K:=
 .inl ⟨[a,b,c,d,e],v,rfl,h.cW (by simp only[bB];exact⟨g,i,j,k,l,trivial⟩) (Wk.refl _),hk⟩
theorem Xy(h:az P f [] v)(hk:L {v:=.p v}):gI P f [] H L:=.inl ⟨[],v,rfl,h,hk⟩
theorem Xz(h:az P f [a'] v)(hk:L {v:=.p v})(b:Wk a a':=by first|exact Wk.refl _|simp[Wk,bB]):gI P f [.p a] H L:=.inl ⟨[a],v,rfl,h.cW (by simp only[bB];exact⟨b,trivial⟩) (Wk.refl _),hk⟩
theorem XA(h:az P f [a',b'] v)(hk:L {v:=.p v})(c:Wk a a':=by first|exact Wk.refl _|simp[Wk,bB])(d:Wk b b':=by first|exact Wk.refl _|simp[Wk,bB]):gI P f [.p a,.p b] H L:=
 .inl ⟨[a,b],v,rfl,h.cW (by simp only[bB];exact⟨c,d,trivial⟩) (Wk.refl _),hk⟩
theorem XB(h:az P f [a',b',c'] v)(hk:L {v:=.p v})(d:Wk a a':=by first|exact Wk.refl _|simp[Wk,bB])(e:Wk b b':=by first|exact Wk.refl _|simp[Wk,bB])(g:Wk c c':=by first|exact Wk.refl _|simp[Wk,bB]):gI P f [.p a,.p b,.p c] H L:=
 .inl ⟨[a,b,c],v,rfl,h.cW (by simp only[bB];exact⟨d,e,g,trivial⟩) (Wk.refl _),hk⟩
theorem XC(h:az P f [a',b',c',d'] v)(hk:L {v:=.p v})(e:Wk a a':=by first|exact Wk.refl _|simp[Wk,bB])(g:Wk b b':=by first|exact Wk.refl _|simp[Wk,bB])(i:Wk c c':=by first|exact Wk.refl _|simp[Wk,bB])(j:Wk d d':=by first|exact Wk.refl _|simp[Wk,bB]):gI P f [.p a,.p b,.p c,.p d] H L:=
 .inl ⟨[a,b,c,d],v,rfl,h.cW (by simp only[bB];exact⟨e,g,i,j,trivial⟩) (Wk.refl _),hk⟩
theorem XD(h:az P f [a',b',c',d',e'] v)(hk:L {v:=.p v})(g:Wk a a':=by first|exact Wk.refl _|simp[Wk,bB])(i:Wk b b':=by first|exact Wk.refl _|simp[Wk,bB])(j:Wk c c':=by first|exact Wk.refl _|simp[Wk,bB])(k:Wk d d':=by first|exact Wk.refl _|simp[Wk,bB])(l:Wk e e':=by first|exact Wk.refl _|simp[Wk,bB]):gI P f [.p a,.p b,.p c,.p d,.p e] H L:=
 .inl ⟨[a,b,c,d,e],v,rfl,h.cW (by simp only[bB];exact⟨g,i,j,k,l,trivial⟩) (Wk.refl _),hk⟩
theorem XV{args:List AV}{vs a:List PV}(h:az P f a v)(c:mG H args=some (vs,H1))(hk:K (.p v) H1)(b:bB vs a:=by first|exact bB.refl _|simp[Wk,bB]):gC P false f args H K:=
 .inr ⟨rfl,.inl ⟨vs,H1,v,c,h.cW b (Wk.refl _),hk⟩⟩
theorem XF{args:List AV}{vs a:List PV}{bs:List Nat}{aj aJ:List (Nat×Obj)}(h:az P f a v)(c:nF H args=some (vs,bs))(hf:kC H bs=some (aj,aJ))(hk:L {v:=.p v,aj,aJ})(b:bB vs a:=by first|exact bB.refl _|simp[Wk,bB]):gI P f args H L:=
 .inr (.inl ⟨vs,bs,aj,aJ,v,c,hf,h.cW b (Wk.refl _),hk⟩)
end calls
theorem Q9{f:ap}{pre post:List PV}{v:PV}(a:mu P f (pre++ .aF::post) v)(b:mu P f (pre++ .bI false []::post) v):mu P f (pre++ .seq []::post) v:=by
 have split:∀{w:a0}{aa:Nat->Prop}{c:List aT}{pre:List PV},bn P w aa (pre++ .seq []::post) c->bn P w aa (pre++ .aF::post) c\/bn P w aa (pre++ .bI false []::post) c:=by
  intro w aa c pre
  induction pre generalizing c with
  |nil=>
   intro h;simp only[List.nil_append,bn]at h⊢;obtain⟨y,d,e,a,b⟩:=h;rcases PZ.1 a with⟨_,h⟩|h
   ·exact .inl ⟨y,d,e,h,b⟩
   ·exact .inr ⟨y,d,e,h,b⟩
  |cons p pre i=>
   intro h;simp only[List.cons_append,bn]at h⊢;obtain⟨y,d,e,a,b⟩:=h;rcases i b with h|h
   ·exact .inl ⟨y,d,e,a,h⟩
   ·exact .inr ⟨y,d,e,a,h⟩
 refine⟨a.1,fun w aa g k1 k2 k3=>?_⟩;rcases split k3 with h|h
 ·exact a.2 w aa g k1 k2 h
 ·exact b.2 w aa g k1 k2 h
def KV(T:Heap)(a v:AV):Prop:=a=v\/Gh T a v
theorem PX{T:Heap}{v:AV}:KV T v v=True:=by simp[KV]
theorem PU{T:Heap}{b ar ai off len:Nat}:KV T (.p .aF) (.sl b ar ai off len)=(ar=0/\off=0/\len=0/\∃k z,T[b]?=some (.arr k 0 z [])/\k.gr=true):=by simp[KV,Gh,fE]
theorem PY{T:Heap}{u u':av}{fs:List PV}{a:List AV}:KV T (.p (.st u fs)) (.st u' a)=(u=u'/\kq T fs a):=by simp[KV,Gh,fE]
def ln(T:Heap)(e:Env):Env->Prop
 |[]=>True
 |(x,v)::r=>KV T (aN e x) v/\ln T e r
def KO(T:Heap)(o:Obj):Obj->Prop
 | .hole=>True
 | .box false v'=>match o with
  | .box false v=>KV T v v'
  |_=>False
 | .arr k ar z es=>(o=.hole/\ar=0/\es=[]/\k.gr=true)\/o=.arr k ar z es
 |o'=>o=o'
def KN:Obj->Prop
 | .hole=>True
 | .arr k ar _ es=>ar=0/\es=[]/\k.gr=true
 |_=>False
def iG(T:Heap):Heap->Heap->Prop
 |_,[]=>True
 |[],o'::t=>KN o'/\iG T [] t
 |o::h,o'::t=>KO T o o'/\iG T h t
theorem ln.get{T:Heap}{e:Env}:∀{t:Env},ln T e t->∀x,aN t x=aN e x\/aN t x=.p .undef\/Gh T (aN e x) (aN t x)
 |[],_,x=>.inr (.inl rfl)
 |(y,v)::t,h,x=>by
  simp only[ln]at h;simp only[aN]
  split
  ·rename_i hx;subst hx;rcases h.1 with h|h
   ·exact .inl h.symm
   ·exact .inr (.inr h)
  ·exact ln.get h.2 x
theorem iG.get{T:Heap}:∀{h t:Heap},iG T h t->∀(b:Nat)(o:Obj),t[b]?=some o->
 o=.hole\/h[b]?=some o\/((h[b]?=none\/h[b]?=some .hole)/\∃k z,o=.arr k 0 z []/\k.gr=true)\/(∃v v',h[b]?=some (.box false v)/\o=.box false v'/\Gh T v v')
 |_,[],_,b,o,c=>by simp at c
 |[],o'::t,hk,b,o,c=>by
  simp only[iG]at hk;cases b with
  |zero=>
   simp at c;subst c;cases o'<;>have a:=hk.1<;>simp only[KN]at a
   ·exact .inl rfl
   ·obtain⟨rfl,rfl,d⟩:=a;exact .inr (.inr (.inl ⟨.inl rfl,_,_,rfl,d⟩))
  |succ b=>simpa using iG.get hk.2 b o (by simpa using c)
 |e::h,o'::t,hk,b,o,c=>by
  simp only[iG]at hk;cases b with
  |zero=>
   simp at c;subst c;have a:=hk.1;cases o' with
   |hole=>exact .inl rfl
   |dead=>simp only[KO]at a;subst a;exact .inr (.inl rfl)
   |map fz es=>simp only[KO]at a;subst a;exact .inr (.inl rfl)
   |dm ks vs=>simp only[KO]at a;subst a;exact .inr (.inl rfl)
   |dv s p=>simp only[KO]at a;subst a;exact .inr (.inl rfl)
   |loop L=>simp only[KO]at a;subst a;exact .inr (.inl rfl)
   |arr k ar z es=>
    simp only[KO]at a;rcases a with⟨rfl,rfl,rfl,d⟩|rfl
    ·exact .inr (.inr (.inl ⟨.inr rfl,_,_,rfl,d⟩))
    ·exact .inr (.inl rfl)
   |box fz v'=>
    cases fz with
    |true=>simp only[KO]at a;subst a;exact .inr (.inl rfl)
    |false=>
     simp only[KO]at a
     split at a
     ·rcases a with rfl|a
      ·exact .inr (.inl rfl)
      ·exact .inr (.inr (.inr ⟨_,_,rfl,rfl,a⟩))
     ·exact a.elim
  |succ b=>simpa using iG.get hk.2 b o (by simpa using c)
theorem cX.og{N:Nat}{s t:St}(d:t.heap.take N=s.heap.take N)(c:ln t.heap s.env t.env)(hh:iG t.heap s.heap t.heap)(e:iy t.heap t.env)(f:er t.heap t.heap):cX N s t:=by
 refine .inr ⟨⟨c.get,hh.get,e.get,f.get⟩,fun b a=>?_⟩;have:=congrArg (fun l:Heap=>l[b]?) d;simpa[List.getElem?_take,a]using this
theorem Lt{T:Heap}{o:Obj}:KO T o o=True:=by
 cases o with
 |box fz v=>cases fz<;>simp[KO,KV]
 |_=>simp[KO]
theorem PS{T:Heap}{o:Obj}:KO T o .hole=True:=by simp[KO]
theorem PR{T:Heap}{v v':AV}:KO T (.box false v) (.box false v')=KV T v v':=(rfl)
theorem PT{T:Heap}{k:AK}{ar z:Nat}{a:List AV}:KO T .hole (.arr k ar z a)=(ar=0/\a=[]/\k.gr=true):=by simp[KO]
theorem PQ:KN .hole=True:=(rfl)
theorem PO{k:AK}{ar z:Nat}{a:List AV}:KN (.arr k ar z a)=(ar=0/\a=[]/\k.gr=true):=(rfl)
theorem PW{T:Heap}{x y:PV}:KV T (.p x) (.p y)=(x=y):=by
 have:Gh T (.p x) (.p y)↔x=y:=by cases x<;>simp[Gh,fE,eq_comm]
 simp[KV,this]
def tD{α:Type}(N:Nat)(mk:α->St)(ok:α->Prop)(m:α->Nat)(n:Nat)(s:St):Prop:=∃a',m a'<n/\ok a'/\cX N s (mk a')
def qq{α:Type}(N:Nat)(mk:α->St)(ok:α->Prop)(m:α->Nat)(n:Nat)(Q:bu->St->Prop)(e:bu)(s:St):Prop:=
 match e with
 | .normal=>tD N mk ok m n s
 |e=>Q e s
section
variable{α:Type}{N:Nat}{mk:α->St}{ok:α->Prop}{m:α->Nat}{n:Nat}{Q:bu->St->Prop}{s s':St}{q:Cx}
theorem R5:qq N mk ok m n Q .normal s=tD N mk ok m n s:=(rfl)
theorem Tv{id:Nat}:qq N mk ok m n Q (.exit id) s=Q (.exit id) s:=(rfl)
theorem Uq:qq N mk ok m n Q .ret s=Q .ret s:=(rfl)
theorem wl{b:Code}(mk:α->St)(ok:α->Prop)(m:α->Nat)(c:α)(l:ok c)(gG:∀a,ok a->de P ag q b (qq q.2 mk ok m (m a) Q) (mk a))
 (k:(mk c).heap.take q.2=s.heap.take q.2:=by simp)(i:ln (mk c).heap s.env (mk c).env:=by simp)(j:iG (mk c).heap s.heap (mk c).heap:=by simp)(o:iy (mk c).heap (mk c).env:=by simp)(p:er (mk c).heap (mk c).heap:=by simp):
 de P ag q (.loop b) Q s:=by
 simp only[de];refine⟨fun n t=>∃a,ok a/\t=mk a/\n=m a,⟨m c,mk c,cX.og k i j o p,c,l,rfl,rfl⟩,?_⟩;rintro n t ⟨a,h,rfl,rfl⟩;have:qq q.2 mk ok m (m a) Q=sD q.2 (m a) (fun n t=>∃a,ok a/\t=mk a/\n=m a) Q:=by
  funext e s
  cases e with
  |normal=>
   simp only[qq,sD,tD,eq_iff_iff];constructor
   ·rintro⟨a',d,f,g⟩;exact⟨m a',mk a',d,g,a',f,rfl,rfl⟩
   ·rintro⟨_,_,d,g,a',f,rfl,rfl⟩;exact⟨a',d,f,g⟩
  |exit id=>rfl
  |ret=>rfl
 rw[<-this];exact gG a h
theorem rnd(a':α)(b:ok a')(a:m a'<n:=by omega)(e:(mk a').heap.take N=s.heap.take N:=by simp)(c:ln (mk a').heap s.env (mk a').env:=by simp)(d:iG (mk a').heap s.heap (mk a').heap:=by simp)(f:iy (mk a').heap (mk a').env:=by simp)(g:er (mk a').heap (mk a').heap:=by simp):
 tD N mk ok m n s:=⟨a',a,b,cX.og e c d f g⟩
end
theorem aI(n:Int)(h:-9223372036854775808<=n)(a:n<=9223372036854775807):IntKind.i64.wrap n=n:=IntWalk.i64_in n ⟨h,a⟩
theorem zI(a b:Int):(a<b/\¬b<=a)\/(¬a<b/\b<=a):=by omega
theorem bY{i:Nat}(h:i<4611686018427387904):IntKind.i64.wrap ((i:Int)+1)=(i:Int)+1:=aI _ (by omega) (by omega)
attribute [simp] Wk bB aG Obj.has G9 HP Gz G8 Sr HL Hn qp R5 Tv Uq ln iG PX PW PU PY Lt PS PR PT PQ PO kq fE AK.gr iy er aB Obj.refs
attribute [simp] UL Su Wk.refl bB.refl
end
end Go.al
namespace Go.al
variable[Gl]
mutual
def dO:PV->Prop
 | .str s=>∀c∈s,c<256
 | .cr t=>dO t
 | .bI _ es| .seq es| .st _ es| .aD es=>ly es
 |_=>True
def ly:List PV->Prop
 |[]=>True
 |v::vs=>dO v/\ly vs
end
section
variable{P:ax}{w:a0}{aa:Nat->Prop}
theorem Jy(bs:ByteArray):∀c∈bs.data.toList.map (·.toNat),c<256:=by
 intro c hc;simp only[a1]at hc;obtain⟨b,_,rfl⟩:=hc;exact UInt8.toNat_lt b
mutual
theorem aS.dO:∀(v:PV)(cs:List aT),aS P w aa v cs->dO v
 | .str s,cs,h=>by simp only[aS]at h;obtain⟨bs,_,rfl⟩:=h;simp only[al.dO];exact Jy bs
 | .cr t,cs,h=>by simp only[aS]at h;obtain⟨_,_,ts,a,_⟩:=h;simp only[al.dO];exact aS.dO t ts a
 | .bI f b,cs,h=>by simp only[aS]at h;obtain⟨_,_,_,_,d,a,_⟩:=h;simp only[al.dO];exact bc.dO _ b d a
 | .seq b,cs,h=>by
  simp only[aS]at h;simp only[al.dO];rcases h with⟨rfl,_⟩|⟨_,_,_,_,d,a,_⟩
  ·trivial
  ·exact bc.dO _ b d a
 | .st u b,cs,h=>by simp only[aS]at h;obtain⟨l,d,_,a,_⟩:=h;simp only[al.dO];exact bc.dO _ b d a
 | .aD b,cs,h=>by simp[aS]at h
 | .undef,_,_| .bool _,_,_| .int _ _,_,_| .dD,_,_| .aF,_,_| .fo,_,_| .gX,_,_| .fG,_,_| .eK _,_,_| .func _ _ _,_,_=>by simp[al.dO]
theorem bc.dO:∀(l:List Nat)(b:List PV)(d:List (List aT)),bc P w aa l b d->ly b
 |_,[],_,_=>by simp[al.ly]
 |[],_::_,_,h=>by simp[bc]at h
 |n::l,v::vs,d,h=>by
  simp only[bc]at h;obtain⟨c,cs,_,a,_,g⟩:=h;simp only[al.ly];exact⟨aS.dO v c a,bc.dO l vs cs g⟩
theorem aA.dO:∀(v:PV)(x:aT),aA P w aa v x->dO v
 | .str s,cs,h=>by simp only[aA]at h;obtain⟨bs,_,rfl⟩:=h;simp only[al.dO];exact Jy bs
 | .cr t,cs,h=>by simp only[aA]at h;obtain⟨_,_,ts,a,_⟩:=h;simp only[al.dO];exact aS.dO t ts a
 | .bI f b,cs,h=>by simp only[aA]at h;obtain⟨_,_,_,_,d,a,_⟩:=h;simp only[al.dO];exact bc.dO _ b d a
 | .seq b,cs,h=>by
  simp only[aA]at h;simp only[al.dO];rcases h with⟨rfl,_⟩|⟨_,_,_,_,d,a,_⟩
  ·trivial
  ·exact bc.dO _ b d a
 | .st u b,cs,h=>by simp only[aA]at h;obtain⟨l,d,_,a,_⟩:=h;simp only[al.dO];exact bc.dO _ b d a
 | .aD b,cs,h=>by simp only[aA]at h;obtain⟨e,a,_⟩:=h;simp only[al.dO];exact bn.dO b e a
 | .undef,_,_| .bool _,_,_| .int _ _,_,_| .dD,_,_| .aF,_,_| .fo,_,_| .gX,_,_| .fG,_,_| .eK _,_,_| .func _ _ _,_,_=>by simp[al.dO]
theorem bn.dO:∀(b:List PV)(e:List aT),bn P w aa b e->ly b
 |[],_,_=>by simp[al.ly]
 |v::vs,e,h=>by
  simp only[bn]at h;obtain⟨y,i,_,a,g⟩:=h;simp only[al.ly];exact⟨aA.dO v y a,bn.dO vs i g⟩
end
theorem Qx{f:ap}{args:List PV}{v:PV}(h:ly args->az P f args v):az P f args v:=by
 by_cases hs:ly args
 ·exact h hs
 ·exact .inr fun w aa b a=>(hs (bn.dO _ _ a)).elim
end
end Go.al
namespace Go.al
variable[Gl]
@[reducible] def Tg{α:Type}(_:α)(β:Type):Type:=β
@[reducible] def Tg1{α:Type 1}(_:α)(β:Type):Type:=β
section
variable(P:ax)(ag:ap->Bool)
def eE(q:Cx)(c:Code)(Q:bu->St->Prop)(s:Tg (q,c,Q) St):Prop:=de P ag q c Q s
def pc(a:Array Oper)(l:List Oper)(K:St->Prop)(s:Tg (a,l,K) St):Prop:=fH P ag a l K s
def qy(b:Array Oper)(l:List Oper)(i:Nat)(a:List Touch)(K:St->Prop)(s:Tg (b,l,i,a,K) St):Prop:=fQ P ag b l i a K s
def zx(K:St->Prop)(Q:bu->St->Prop)(e:Tg (K,Q) bu)(s:Tg (K,Q) St):Prop:=tt K Q e s
def qe(id:Nat)(Q:bu->St->Prop)(e:Tg (id,Q) bu)(s:Tg (id,Q) St):Prop:=nB id Q e s
def Nr(a b:St->Prop)(s:St)(v:Tg (a,b,s) AV):Prop:=sL v a b s
def CB(b:Array Oper)(r:List Oper)(i:Nat)(a:List Touch)(K:St->Prop)(dst:Option Tmp)(s:St)(e:Tg (b,r,i,a,K,dst,s) aU):Prop:=vo P ag b r i a K dst s e
def et(dst:Option Tmp)(s:St)(K:St->Prop)(e:Tg (dst,s,K) aU):Prop:=dX dst s K e
def Pj(dst:Option Tmp)(s:St)(K:St->Prop)(v:Tg (dst,s,K) AV)(H:Tg (dst,s,K) Heap):Prop:=zo dst s K v H
def CH(a:Array Oper)(o:Oper)(r:List Oper)(K:St->Prop)(b:Bool)(s:St)(g:Tg (a,o,r,K,b,s) AV):Prop:=yt P ag a o r K b s g
def BW(b:Array Oper)(o:Oper)(r:List Oper)(i:Nat)(a:List Touch)(K:St->Prop)(c:Bool)(s:St)(g:Tg (b,o,r,i,a,K,c,s) AV):Prop:=yc P ag b o r i a K c s g
def dQ(o:Oper)(K:St->Prop)(s:St)(_:Tg (o,K,s) Unit):Prop:=di P ag o K s
def dM(o:Oper)(s:St)(K:aU->Prop)(_:Tg (o,K,s) Unit):Prop:=dj P ag o s K
def cF(K:aU->Prop)(r:Tg K ez):Prop:=bf r K
def yX(H:Heap)(K:AV->Heap->Prop)(f:Tg (H,K) AV)(args:Tg (H,K) (List AV)):Prop:=qo P f args H K
def CL(H:Heap)(K:aU->Prop)(f:Tg (H,K) AV)(args:Tg (H,K) (List AV)):Prop:=qc P f args H K
def jU(d:Bool)(f:ap)(K:AV->Heap->Prop)(args:Tg K (List AV))(H:Tg K Heap):Prop:=gC P d f args H K
def me(f:ap)(K:aU->Prop)(args:Tg K (List AV))(H:Tg K Heap):Prop:=gI P f args H K
def qG(R:AV->PV->Prop):List AV->List PV->Prop
 |[],vs=>vs=[]
 |x::xs,vs=>match vs with
  |v::vs=>R x v/\qG R xs vs
  |[]=>False
def fW(H:Heap):Nat->AV->PV->Prop
 |0=>fun x v=>match x with
  | .p a=>Wk a v
  |_=>False
 |n+1=>fun x v=>match x with
  | .p a=>Wk a v
  | .sl b ar z off len=>match v with
   | .seq fs=>match H[b]? with
    |some (.arr _ e h es)=>ar=e/\z=h/\off+len<=es.length/\qG (fW H n) ((es.drop off).take len) fs
    |_=>False
   |_=>False
  | .st u xs=>match v with
   | .st u' vs=>u=u'/\qG (fW H n) xs vs
   |_=>False
  | .aD xs=>match v with
   | .aD vs=>qG (fW H n) xs vs
   |_=>False
  | .ptr b path=>match v with
   | .cr t=>match H[b]? with
    |some (.box _ y)=>match eD y path with
     |some s=>fW H n s t
     |none=>False
    |_=>False
   |_=>False
  | .map b=>match v with
   | .eK es=>match H[b]? with
    |some (.map _ c)=>c=es
    |_=>False
   |_=>False
  | .func f xs g=>match v with
   | .func d vs us=>f=d/\qG (fW H n) xs vs/\qG (fW H n) g us
   |_=>False
  |_=>False
def lQ(H:Heap)(n:Nat):List AV->List PV->Prop:=qG (fW H n)
def qJ(a:List ay)(v:PV)(e:Tg (a,v) bu)(s:Tg (a,v) St):Prop:=
 (match e with
  | .exit _=>False
  |_=>True)/\∃vs,fu P s a=some vs/\fW (St.heap s) 9 (oneOf vs) v
def yl(a:Array Oper)(l:Tg a (List Touch)):Bool:=jL a l
def aBF(a:Array Oper)(i j:Tg a Nat):Bool:=reach a a.size i j
end
section
variable{P:ax}{ag:ap->Bool}{q:Cx}
theorem aEK{Q:bu->St->Prop}{s:St}:eE P ag q .skip Q s=Q .normal s:=LN
theorem Vj{l:Nat}{Q:bu->St->Prop}{s:St}:eE P ag q (.label l) Q s=Q .normal s:=KB
theorem aEl{id:Nat}{Q:bu->St->Prop}{s:St}:eE P ag q (.exit id) Q s=Q (.exit id) s:=LO
theorem aEJ{Q:bu->St->Prop}{s:St}:eE P ag q .ret Q s=Q .ret s:=PH
theorem Vh{b:Code}{Q:bu->St->Prop}{s:St}:eE P ag q (.scope b) Q s=eE P ag q b Q s:=Kz
theorem aEk{id:Nat}{l:List Oper}{Q:bu->St->Prop}{s:St}:eE P ag q (.region id l.toArray true) Q s=qy P ag l.toArray l 0 [] (Q .normal) s:=LP
theorem Vi{id:Nat}{l:List Oper}{Q:bu->St->Prop}{s:St}:eE P ag q (.region id l.toArray false) Q s=pc P ag l.toArray l (Q .normal) s:=KA
theorem br{a b:Code}{Q:bu->St->Prop}{s:St}:eE P ag q (.seq a b) Q s=eE P ag q a (zx (eE P ag q b Q) Q) s:=PI
theorem Ju{id:Nat}{b:Code}{Q:bu->St->Prop}{s:St}:eE P ag q (.block id b) Q s=eE P ag q b (qe id Q) s:=KC
theorem aEj{c:ao}{a b:Code}{Q:bu->St->Prop}{s:St}:eE P ag q (.cond c a b) Q s=Nr (eE P ag q a Q) (eE P ag q b Q) s (ev s.env c):=LQ
theorem R8{K:St->Prop}{Q:bu->St->Prop}{s:St}:zx K Q .normal s=K s:=GZ
theorem TS{id:Nat}{K:St->Prop}{Q:bu->St->Prop}{s:St}:zx K Q (.exit id) s=Q (.exit id) s:=It
theorem TY{K:St->Prop}{Q:bu->St->Prop}{s:St}:zx K Q .ret s=Q .ret s:=Jo
theorem SG{t:Bool}{a b:St->Prop}{s:St}:Nr a b s (.p (.bool t))=if t then a s else b s:=Hp
theorem UI{b:Array Oper}{r:List Oper}{i:Nat}{a:List Touch}{K:St->Prop}{dst:Option Tmp}{env:Env}{heap:Heap}{v:AV}{aj aJ:List (Nat×Obj)}{aR:List Obj}:CB P ag b r i a K dst ⟨env,heap⟩ ⟨v,aj,aJ,aR⟩=qy P ag b r (i+1) (gD i heap.length ⟨v,aj,aJ,aR⟩ a) K ⟨put dst v env,ba heap aJ++aR⟩:=JP
theorem Ww{dst:Option Tmp}{env:Env}{heap:Heap}{K:St->Prop}{v:AV}{aj aJ:List (Nat×Obj)}{aR:List Obj}:et dst ⟨env,heap⟩ K ⟨v,aj,aJ,aR⟩=K ⟨put dst v env,ba heap aJ++aR⟩:=Lq
theorem Wc{dst:Option Tmp}{env:Env}{heap H:Heap}{K:St->Prop}{v:AV}:Pj dst ⟨env,heap⟩ K v H=K ⟨put dst v env,H⟩:=K0
theorem aEO{b:Array Oper}{i:Nat}{a:List Touch}{K:St->Prop}{s:St}:qy P ag b [] i a K s=(yl b a=true/\K s):=LM
theorem Vg{b:Array Oper}{i c:Nat}{pos:String}{a:List Touch}{K:St->Prop}{s:St}{dst:Option Tmp}{op:Op}{af:Array Edge}{r:List Oper}:qy P ag b ({dst,op,type:=c,pos,after:=af,guard:=none}::r) i a K s=dM P ag {dst,op,type:=c,pos,after:=af,guard:=none} s (CB P ag b r i a K dst s) ():=Ky
theorem Ul{a:Array Oper}{i d j:Nat}{b:Bool}{pos:String}{c:List Touch}{K:St->Prop}{s:St}{dst:Option Tmp}{op:Op}{af:Array Edge}{r:List Oper}:qy P ag a ({dst,op,type:=d,pos,after:=af,guard:=some (j,b)}::r) i c K s=BW P ag a {dst,op,type:=d,pos,after:=af,guard:=some (j,b)} r i c K b s (guardOf a j s.env):=Jt
theorem aEZ{a:Array Oper}{K:St->Prop}{s:St}:pc P ag a [] K s=K s:=LK
theorem Vf{a:Array Oper}{b:Nat}{pos:String}{K:St->Prop}{s:St}{dst:Option Tmp}{op:Op}{af:Array Edge}{r:List Oper}:pc P ag a ({dst,op,type:=b,pos,after:=af,guard:=none}::r) K s=dQ P ag {dst,op,type:=b,pos,after:=af,guard:=none} (pc P ag a r K) s ():=Kw
theorem Uk{a:Array Oper}{c j:Nat}{b:Bool}{pos:String}{K:St->Prop}{s:St}{dst:Option Tmp}{op:Op}{af:Array Edge}{r:List Oper}:pc P ag a ({dst,op,type:=c,pos,after:=af,guard:=some (j,b)}::r) K s=CH P ag a {dst,op,type:=c,pos,after:=af,guard:=some (j,b)} r K b s (guardOf a j s.env):=Js
section ops
variable{dst:Option Tmp}{ty:Nat}{pos:String}{af:Array Edge}{g:Option (Nat×Bool)}{env:Env}{heap:Heap}{K:aU->Prop}{L:St->Prop}
theorem X5{x:ao}:dM P ag ⟨dst,.move x,ty,pos,af,g⟩ ⟨env,heap⟩ K ()=K {v:=ev env x}:=MP
theorem US{x:ao}:dM P ag ⟨dst,.assign x,ty,pos,af,g⟩ ⟨env,heap⟩ K ()=K {v:=ev env x}:=JN
theorem X7{c a b:ao}:dM P ag ⟨dst,.pick c a b,ty,pos,af,g⟩ ⟨env,heap⟩ K ()=cF K (qx (ev env c) (ev env a) (ev env b)):=MN
theorem WI{T:av}:dM P ag ⟨dst,.alloc T,ty,pos,af,g⟩ ⟨env,heap⟩ K ()=cF K (qf P T heap.length):=Ld
theorem XX{T:av}{x:ao}:dM P ag ⟨dst,.box T x,ty,pos,af,g⟩ ⟨env,heap⟩ K ()=cF K (sW P T heap.length (ev env x)):=Nw
theorem WH{T:av}{a:Array (Nat×ao)}:dM P ag ⟨dst,.build T a,ty,pos,af,g⟩ ⟨env,heap⟩ K ()=cF K (qd P T (a.toList.map fun(i,x)=>(i,ev env x))):=Lc
theorem RD{T:av}{n:Nat}{a:Array (Nat×ao)}:dM P ag ⟨dst,.buildSlice T n a,ty,pos,af,g⟩ ⟨env,heap⟩ K ()=cF K (pz P T n (a.toList.map fun(i,x)=>(i,ev env x)) heap.length):=GB
theorem X2{T:av}{a:ao}:dM P ag ⟨dst,.load T a,ty,pos,af,g⟩ ⟨env,heap⟩ K ()=cF K (oR P T heap (ev env a)):=Mp
theorem WB{T:av}{a x:ao}:dM P ag ⟨dst,.store T a x,ty,pos,af,g⟩ ⟨env,heap⟩ K ()=cF K (oJ P T heap (ev env a) (ev env x)):=K8
theorem XW{op:BinOp}{T a:av}{x y:ao}:dM P ag ⟨dst,.binOp op T x y a,ty,pos,af,g⟩ ⟨env,heap⟩ K ()=cF K (iU P op T (lJ y) heap (ev env x) (ev env y)):=Nv
theorem X9{op:UnOp}{T:av}{x:ao}:dM P ag ⟨dst,.unOp op T x,ty,pos,af,g⟩ ⟨env,heap⟩ K ()=cF K (q8 op (ev env x)):=NA
theorem XZ{S D:av}{x:ao}:dM P ag ⟨dst,.convert S D x,ty,pos,af,g⟩ ⟨env,heap⟩ K ()=cF K (qm P S D heap (ev env x)):=Mr
theorem Ta{t:ao}{i:Nat}:dM P ag ⟨dst,.extract t i,ty,pos,af,g⟩ ⟨env,heap⟩ K ()=cF K (pK (ev env t) i):=I0
theorem SB{T:av}{a:ao}{f:Nat}:dM P ag ⟨dst,.fieldAddr T a f,ty,pos,af,g⟩ ⟨env,heap⟩ K ()=cF K (n8 P T (ev env a) f):=G1
theorem SA{T:av}{x i:ao}:dM P ag ⟨dst,.indexAddr T x i,ty,pos,af,g⟩ ⟨env,heap⟩ K ()=cF K (n7 P T heap (ev env x) (ev env i)):=G0
theorem WE{T:av}{x i:ao}:dM P ag ⟨dst,.index T x i,ty,pos,af,g⟩ ⟨env,heap⟩ K ()=cF K (qh P T (ev env x) (ev env i)):=Lb
theorem X1{x:ao}{a:Array av}:dM P ag ⟨dst,.call {callee:=.builtin .len,args:=#[x],argTypes:=a},ty,pos,af,g⟩ ⟨env,heap⟩ K ()=cF K (qP P (a.getD 0 0) a.size heap (ev env x)):=Nx
theorem XY{f:ao}{args:List ao}{a:Array av}:dM P ag ⟨dst,.call {callee:=.value f,args:=args.toArray,argTypes:=a},ty,pos,af,g⟩ ⟨env,heap⟩ K ()=CL P heap K (ev env f) (args.map (ev env)):=Ms
theorem aAG{x:ao}:dQ P ag ⟨dst,.move x,ty,pos,af,g⟩ L ⟨env,heap⟩ ()=et dst ⟨env,heap⟩ L {v:=ev env x}:=Ma
theorem Ut{x:ao}:dQ P ag ⟨dst,.assign x,ty,pos,af,g⟩ L ⟨env,heap⟩ ()=et dst ⟨env,heap⟩ L {v:=ev env x}:=I8
theorem aAJ{c a b:ao}:dQ P ag ⟨dst,.pick c a b,ty,pos,af,g⟩ L ⟨env,heap⟩ ()=cF (et dst ⟨env,heap⟩ L) (qx (ev env c) (ev env a) (ev env b)):=L8
theorem Wm{T:av}:dQ P ag ⟨dst,.alloc T,ty,pos,af,g⟩ L ⟨env,heap⟩ ()=cF (et dst ⟨env,heap⟩ L) (qf P T heap.length):=KL
theorem aAt{T:av}{x:ao}:dQ P ag ⟨dst,.box T x,ty,pos,af,g⟩ L ⟨env,heap⟩ ()=cF (et dst ⟨env,heap⟩ L) (sW P T heap.length (ev env x)):=Pa
theorem Wl{T:av}{a:Array (Nat×ao)}:dQ P ag ⟨dst,.build T a,ty,pos,af,g⟩ L ⟨env,heap⟩ ()=cF (et dst ⟨env,heap⟩ L) (qd P T (a.toList.map fun(i,x)=>(i,ev env x))):=KK
theorem RL{T:av}{n:Nat}{a:Array (Nat×ao)}:dQ P ag ⟨dst,.buildSlice T n a,ty,pos,af,g⟩ L ⟨env,heap⟩ ()=cF (et dst ⟨env,heap⟩ L) (pz P T n (a.toList.map fun(i,x)=>(i,ev env x)) heap.length):=Gv
theorem aAA{T:av}{a:ao}:dQ P ag ⟨dst,.load T a,ty,pos,af,g⟩ L ⟨env,heap⟩ ()=cF (et dst ⟨env,heap⟩ L) (oR P T heap (ev env a)):=Mb
theorem Wf{T:av}{a x:ao}:dQ P ag ⟨dst,.store T a x,ty,pos,af,g⟩ L ⟨env,heap⟩ ()=cF (et dst ⟨env,heap⟩ L) (oJ P T heap (ev env a) (ev env x)):=K2
theorem aAs{op:BinOp}{T a:av}{x y:ao}:dQ P ag ⟨dst,.binOp op T x y a,ty,pos,af,g⟩ L ⟨env,heap⟩ ()=cF (et dst ⟨env,heap⟩ L) (iU P op T (lJ y) heap (ev env x) (ev env y)):=O9
theorem aAL{op:UnOp}{T:av}{x:ao}:dQ P ag ⟨dst,.unOp op T x,ty,pos,af,g⟩ L ⟨env,heap⟩ ()=cF (et dst ⟨env,heap⟩ L) (q8 op (ev env x)):=Pe
theorem aAv{S D:av}{x:ao}:dQ P ag ⟨dst,.convert S D x,ty,pos,af,g⟩ L ⟨env,heap⟩ ()=cF (et dst ⟨env,heap⟩ L) (qm P S D heap (ev env x)):=Md
theorem Tl{t:ao}{i:Nat}:dQ P ag ⟨dst,.extract t i,ty,pos,af,g⟩ L ⟨env,heap⟩ ()=cF (et dst ⟨env,heap⟩ L) (pK (ev env t) i):=H6
theorem RW{T:av}{a:ao}{f:Nat}:dQ P ag ⟨dst,.fieldAddr T a f,ty,pos,af,g⟩ L ⟨env,heap⟩ ()=cF (et dst ⟨env,heap⟩ L) (n8 P T (ev env a) f):=GU
theorem Sd{T:av}{x i:ao}:dQ P ag ⟨dst,.indexAddr T x i,ty,pos,af,g⟩ L ⟨env,heap⟩ ()=cF (et dst ⟨env,heap⟩ L) (n7 P T heap (ev env x) (ev env i)):=GS
theorem Wi{T:av}{x i:ao}:dQ P ag ⟨dst,.index T x i,ty,pos,af,g⟩ L ⟨env,heap⟩ ()=cF (et dst ⟨env,heap⟩ L) (qh P T (ev env x) (ev env i)):=KJ
theorem aAy{x:ao}{a:Array av}:dQ P ag ⟨dst,.call {callee:=.builtin .len,args:=#[x],argTypes:=a},ty,pos,af,g⟩ L ⟨env,heap⟩ ()=cF (et dst ⟨env,heap⟩ L) (qP P (a.getD 0 0) a.size heap (ev env x)):=Pb
theorem aAu{f:ao}{args:List ao}{a:Array av}:dQ P ag ⟨dst,.call {callee:=.value f,args:=args.toArray,argTypes:=a},ty,pos,af,g⟩ L ⟨env,heap⟩ ()=yX P heap (Pj dst ⟨env,heap⟩ L) (ev env f) (args.map (ev env)):=Me
theorem WC{T:av}{x:ao}{lo hi:Option ao}:dM P ag ⟨dst,.slice T x lo hi none,ty,pos,af,g⟩ ⟨env,heap⟩ K ()=cF K (oL P T heap (ev env x) (lo.map (ev env)) (hi.map (ev env))):=K9
theorem Wg{T:av}{x:ao}{lo hi:Option ao}:dQ P ag ⟨dst,.slice T x lo hi none,ty,pos,af,g⟩ L ⟨env,heap⟩ ()=cF (et dst ⟨env,heap⟩ L) (oL P T heap (ev env x) (lo.map (ev env)) (hi.map (ev env))):=KH
theorem UQ{T:av}{x i:ao}{ok:Bool}:dM P ag ⟨dst,.lookup T x i ok,ty,pos,af,g⟩ ⟨env,heap⟩ K ()=cF K (qt P T heap (ev env x) (ev env i) ok):=JL
theorem Ur{T:av}{x i:ao}{ok:Bool}:dQ P ag ⟨dst,.lookup T x i ok,ty,pos,af,g⟩ L ⟨env,heap⟩ ()=cF (et dst ⟨env,heap⟩ L) (qt P T heap (ev env x) (ev env i) ok):=I6
theorem Sy{T:av}{m k x:ao}:dM P ag ⟨dst,.mapUpdate T m k x,ty,pos,af,g⟩ ⟨env,heap⟩ K ()=cF K (lI P T heap (ev env m) (ev env k) (ev env x)):=Hh
theorem Sb{T:av}{m k x:ao}:dQ P ag ⟨dst,.mapUpdate T m k x,ty,pos,af,g⟩ L ⟨env,heap⟩ ()=cF (et dst ⟨env,heap⟩ L) (lI P T heap (ev env m) (ev env k) (ev env x)):=GQ
theorem UR{T:av}{m k x:ao}:dM P ag ⟨dst,.insert T m k x,ty,pos,af,g⟩ ⟨env,heap⟩ K ()=cF K (lI P T heap (ev env m) (ev env k) (ev env x)):=JM
theorem Us{T:av}{m k x:ao}:dQ P ag ⟨dst,.insert T m k x,ty,pos,af,g⟩ L ⟨env,heap⟩ ()=cF (et dst ⟨env,heap⟩ L) (lI P T heap (ev env m) (ev env k) (ev env x)):=I7
theorem WD{T:av}{x:ao}:dM P ag ⟨dst,.range T x,ty,pos,af,g⟩ ⟨env,heap⟩ K ()=cF K (pX P T heap.length (ev env x)):=La
theorem Wh{T:av}{x:ao}:dQ P ag ⟨dst,.range T x,ty,pos,af,g⟩ L ⟨env,heap⟩ ()=cF (et dst ⟨env,heap⟩ L) (pX P T heap.length (ev env x)):=KI
theorem X6{it:ao}:dM P ag ⟨dst,.next it true,ty,pos,af,g⟩ ⟨env,heap⟩ K ()=cF K (qB heap (ev env it)):=MO
theorem aAH{it:ao}:dQ P ag ⟨dst,.next it true,ty,pos,af,g⟩ L ⟨env,heap⟩ ()=cF (et dst ⟨env,heap⟩ L) (qB heap (ev env it)):=L9
theorem Sz{T:av}{l c:ao}:dM P ag ⟨dst,.makeSlice T l c,ty,pos,af,g⟩ ⟨env,heap⟩ K ()=cF K (qD P T heap.length (ev env l) (ev env c)):=Hi
theorem Sc{T:av}{l c:ao}:dQ P ag ⟨dst,.makeSlice T l c,ty,pos,af,g⟩ L ⟨env,heap⟩ ()=cF (et dst ⟨env,heap⟩ L) (qD P T heap.length (ev env l) (ev env c)):=GR
theorem SE{x:ao}:dM P ag ⟨dst,.nilCheck x,ty,pos,af,g⟩ ⟨env,heap⟩ K ()=cF K (pR (ev env x)):=Hm
theorem SY{x:ao}:dQ P ag ⟨dst,.nilCheck x,ty,pos,af,g⟩ L ⟨env,heap⟩ ()=cF (et dst ⟨env,heap⟩ L) (pR (ev env x)):=HK
theorem X4{args:Array ao}{a:Array av}:dM P ag ⟨dst,.call {callee:=.builtin .min,args,argTypes:=a},ty,pos,af,g⟩ ⟨env,heap⟩ K ()=cF K (ke false (args.toList.map (ev env))):=Nz
theorem aAF{args:Array ao}{a:Array av}:dQ P ag ⟨dst,.call {callee:=.builtin .min,args,argTypes:=a},ty,pos,af,g⟩ L ⟨env,heap⟩ ()=cF (et dst ⟨env,heap⟩ L) (ke false (args.toList.map (ev env))):=Pd
theorem X3{args:Array ao}{a:Array av}:dM P ag ⟨dst,.call {callee:=.builtin .max,args,argTypes:=a},ty,pos,af,g⟩ ⟨env,heap⟩ K ()=cF K (ke true (args.toList.map (ev env))):=Ny
theorem aAE{args:Array ao}{a:Array av}:dQ P ag ⟨dst,.call {callee:=.builtin .max,args,argTypes:=a},ty,pos,af,g⟩ L ⟨env,heap⟩ ()=cF (et dst ⟨env,heap⟩ L) (ke true (args.toList.map (ev env))):=Pc
theorem S9{T:av}:dM P ag ⟨dst,.makeMap T none,ty,pos,af,g⟩ ⟨env,heap⟩ K ()=K {v:=.map heap.length,aR:=[.map false []]}:=IZ
theorem Tk{T:av}:dQ P ag ⟨dst,.makeMap T none,ty,pos,af,g⟩ L ⟨env,heap⟩ ()=et dst ⟨env,heap⟩ L {v:=.map heap.length,aR:=[.map false []]}:=IG
theorem UT{s x:ao}{T X:av}:dM P ag ⟨dst,.call {callee:=.builtin .append,args:=#[s,x],argTypes:=#[T,X]},ty,pos,af,g⟩ ⟨env,heap⟩ K ()=cF K (oI P T X heap (ev env s) (ev env x)):=JO
theorem Uu{s x:ao}{T X:av}:dQ P ag ⟨dst,.call {callee:=.builtin .append,args:=#[s,x],argTypes:=#[T,X]},ty,pos,af,g⟩ L ⟨env,heap⟩ ()=cF (et dst ⟨env,heap⟩ L) (oI P T X heap (ev env s) (ev env x)):=I9
theorem X0{s x:ao}{T X:av}:dM P ag ⟨dst,.call {callee:=.builtin .copy,args:=#[s,x],argTypes:=#[T,X]},ty,pos,af,g⟩ ⟨env,heap⟩ K ()=cF K (copyV P T heap (ev env s) (ev env x)):=Mq
theorem aAw{s x:ao}{T X:av}:dQ P ag ⟨dst,.call {callee:=.builtin .copy,args:=#[s,x],argTypes:=#[T,X]},ty,pos,af,g⟩ L ⟨env,heap⟩ ()=cF (et dst ⟨env,heap⟩ L) (copyV P T heap (ev env s) (ev env x)):=Mc
theorem XK{f:ap}{fi ca:List AV}{args:List AV}{M:AV->Heap->Prop}:yX P heap M (.func f fi ca) args=jU P false f M (fi++args++ca) heap:=Ns
theorem XN{f:ap}{fi ca:List AV}{args:List AV}:CL P heap K (.func f fi ca) args=me P f K (fi++args++ca) heap:=Mt
theorem XM{f:ap}{fi ca:List PV}{args:List AV}{M:AV->Heap->Prop}:yX P heap M (.p (.func f fi ca)) args=jU P false f M (fi.map .p++args++ca.map .p) heap:=Nt
theorem XO{f:ap}{fi ca:List PV}{args:List AV}:CL P heap K (.p (.func f fi ca)) args=me P f K (fi.map .p++args++ca.map .p) heap:=Nu
end ops
section guards
variable{ops:Array Oper}{o:Oper}{r:List Oper}{K:St->Prop}{want t:Bool}{s:St}{i:Nat}{acc:List Touch}
theorem Sq:CH P ag ops o r K want s (.p (.bool t))=if t=want then dQ P ag o (pc P ag ops r K) s ()else pc P ag ops r K ⟨put o.dst (.p (.aD [])) s.env,s.heap⟩:=G9
theorem SU:CH P ag ops o r K want s (.p (.aD []))=pc P ag ops r K ⟨put o.dst (.p (.aD [])) s.env,s.heap⟩:=HP
theorem RP:BW P ag ops o r i acc K want s (.p (.bool t))=if t=want then dM P ag o s (CB P ag ops r i acc K o.dst s) ()else qy P ag ops r (i+1) acc K ⟨put o.dst (.p (.aD [])) s.env,s.heap⟩:=Gz
theorem Sp:BW P ag ops o r i acc K want s (.p (.aD []))=qy P ag ops r (i+1) acc K ⟨put o.dst (.p (.aD [])) s.env,s.heap⟩:=G8
end guards
theorem RH{id:Nat}{Q:bu->St->Prop}{s:St}:qe id Q .normal s=Q .normal s:=(rfl)
theorem S6{id i:Nat}{Q:bu->St->Prop}{s:St}:qe id Q (.exit i) s=if i=id then Q .normal s else Q (.exit i) s:=(rfl)
theorem Ue{id:Nat}{Q:bu->St->Prop}{s:St}:qe id Q .ret s=Q .ret s:=(rfl)
section makeFunc
variable{dst:Option Tmp}{ty:Nat}{pos:String}{af:Array Edge}{g:Option (Nat×Bool)}{env:Env}{heap:Heap}{L:St->Prop}{K:aU->Prop}{f:ap}{fi ca:Array ao}
theorem SZ(hf:ag f=false):dQ P ag ⟨dst,.makeFunc (.func f) fi ca,ty,pos,af,g⟩ L ⟨env,heap⟩ ()=cF (et dst ⟨env,heap⟩ L) (qp f (fi.toList.map (ev env)) (ca.toList.map (ev env))):=HL hf
theorem SF(hf:ag f=false):dM P ag ⟨dst,.makeFunc (.func f) fi ca,ty,pos,af,g⟩ ⟨env,heap⟩ K ()=cF K (qp f (fi.toList.map (ev env)) (ca.toList.map (ev env))):=Hn hf
end makeFunc
theorem T0{p:Prop}{e:aU}{K:aU->Prop}:cF K (some (p,e))=(p/\K e):=(rfl)
theorem T3{K:aU->Prop}:cF K none=False:=(rfl)
theorem TJ{a:Array Oper}:yl a []=true:=(rfl)
theorem Sn{a:Array Oper}{t:Touch}{r:List Touch}:yl a (t::r)=(r.all (fun u=>!iQ u t||aBF a u.i t.i)&&yl a r):=(rfl)
theorem UM{a:List ay}{v:PV}{s:St}:qJ P a v .ret s=∃vs,fu P s a=some vs/\fW s.heap 9 (oneOf vs) v:=by simp[qJ]
theorem Sv{a:List ay}{v:PV}{s:St}:qJ P a v .normal s=∃vs,fu P s a=some vs/\fW s.heap 9 (oneOf vs) v:=by simp[qJ]
section pur
variable{H:Heap}
theorem DD{n:Nat}{a v:PV}:fW H n (.p a) v=Wk a v:=by cases n<;>rfl
theorem LJ{n b ar z off len:Nat}{fs:List PV}:fW H (n+1) (.sl b ar z off len) (.seq fs)=match H[b]? with
  |some (.arr _ a c es)=>ar=a/\z=c/\off+len<=es.length/\lQ H n ((es.drop off).take len) fs
  |_=>False:=(rfl)
theorem aBb{n:Nat}{u u':av}{a:List AV}{vs:List PV}:fW H (n+1) (.st u a) (.st u' vs)=(u=u'/\lQ H n a vs):=(rfl)
theorem aBg{n:Nat}{a:List AV}{vs:List PV}:fW H (n+1) (.aD a) (.aD vs)=lQ H n a vs:=(rfl)
theorem K1{n b:Nat}{a:List (PV×PV)}:fW H (n+1) (.map b) (.eK a)=match H[b]? with
  |some (.map _ c)=>c=a
  |_=>False:=(rfl)
theorem aA1{n:Nat}{f a:ap}{c d:List AV}{vs b:List PV}:fW H (n+1) (.func f c d) (.func a vs b)=(f=a/\lQ H n c vs/\lQ H n d b):=(rfl)
theorem xq{n:Nat}{vs:List PV}:lQ H n [] vs=(vs=[]):=(rfl)
theorem AW{n:Nat}{x:AV}{a:List AV}{v:PV}{vs:List PV}:lQ H n (x::a) (v::vs)=(fW H n x v/\lQ H n a vs):=(rfl)
theorem yh{α:Type}{n:Nat}{g:α->AV}{f:α->PV}:∀{l:List α},lQ H n (l.map g) (l.map f)=∀x∈l,fW H n (g x) (f x)
 |[]=>by simp[xq]
 |a::l=>by simp[AW,yh (l:=l)]
theorem rZ(n:Nat)(c:∀(x:AV)(v:PV),fW H n x v->∃v',dY H n x=some v'/\Wk v' v):∀(b:List AV)(vs:List PV),lQ H n b vs->∃a,jy (dY H n) b=some a/\bB a vs
 |[],vs,h=>by rw[xq]at h;subst h;exact⟨[],rfl,by simp[bB]⟩
 |x::b,vs,h=>by
  cases vs with
  |nil=>exact h.elim
  |cons v vs=>
   rw[AW]at h;obtain⟨p,d,e⟩:=c x v h.1;obtain⟨a,f,g⟩:=rZ n c b vs h.2;exact⟨p::a,by simp[jy,d,f],by simp only[bB];exact⟨e,g⟩⟩
theorem pZ:∀(n:Nat)(x:AV)(v:PV),fW H n x v->∃v',dY H n x=some v'/\Wk v' v
 |0,x,v,h=>by
  cases x with
  |p a=>exact⟨_,rfl,h⟩
  |_=>exact h.elim
 |n+1,x,v,h=>by
  cases x with
  |p a=>rw[DD]at h;exact⟨_,rfl,h⟩
  |sl b ar z off len=>
   cases v with
   |seq fs=>
    rw[LJ]at h
    split at h
    case h_2=>exact h.elim
    rename_i k C E j e;obtain⟨rfl,rfl,m,g⟩:=h;obtain⟨i,c,d⟩:=rZ n (pZ n) _ _ g;simp only[dY,e,m,and_self,if_true]
    split
    ·rename_i r;rw[r.2]at g;simp only[List.drop_nil,List.take_nil,xq]at g;exact⟨_,rfl,by rw[g];simp[Wk]⟩
    ·rw[c];exact⟨_,rfl,by simp only[Wk];exact d⟩
   |_=>exact h.elim
  |st u xs=>
   cases v with
   |st u' vs=>
    obtain⟨rfl,h⟩:=h;obtain⟨i,c,d⟩:=rZ n (pZ n) _ _ h;simp only[dY,c];exact⟨_,rfl,by simp only[Wk];exact⟨trivial,d⟩⟩
   |_=>exact h.elim
  |aD xs=>
   cases v with
   |aD vs=>
    obtain⟨i,c,d⟩:=rZ n (pZ n) _ _ h;simp only[dY,c];exact⟨_,rfl,by simp only[Wk];exact d⟩
   |_=>exact h.elim
  |ptr b path=>
   cases v with
   |cr t=>
    change (match H[b]? with
     |some (.box _ y)=>match eD y path with
      |some s=>fW H n s t
      |none=>False
     |_=>False)at h
    split at h
    case h_2=>exact h.elim
    rename_i e
    split at h
    case h_2=>exact h.elim
    rename_i s hs;obtain⟨p,c,d⟩:=pZ n _ _ h;simp only[dY,e,hs,c];exact⟨_,rfl,by simp only[Wk];exact d⟩
   |_=>exact h.elim
  |b6 _ _ _ _ _=>exact h.elim
  |map b=>
   cases v with
   |eK j=>
    rw[K1]at h
    split at h
    case h_2=>exact h.elim
    rename_i fz w e;subst h;simp only[dY,e];exact⟨_,rfl,Wk.refl _⟩
   |_=>exact h.elim
  |func f xs D=>
   cases v with
   |func A vs us=>
    obtain⟨rfl,h,l⟩:=h;obtain⟨i,c,d⟩:=rZ n (pZ n) _ _ h;obtain⟨B,o,q⟩:=rZ n (pZ n) _ _ l;simp only[dY,c,o];exact⟨_,rfl,by simp only[Wk];exact⟨trivial,d,q⟩⟩
   |_=>exact h.elim
end pur
theorem CR{f:ap}{fn:Func}(ag:ap->Bool)(h:an P f fn)(n:P.follows .mixedOrders=true){args:List PV}{v:PV}(o:args.length<=fn.ntmps)
 (d:eE P ag (fn.ntmps,0) (fn.body.getD .skip) (qJ P fn.results.toList v) ⟨iu 0 (args.map .p),[]⟩):mu P f args v:=by
 have hs:=h.stat;simp only[ac,bne_iff_ne]at hs;have k:fn.body=some (fn.body.getD .skip):=by
  have a:=hs.1.1;clear d hs;cases l:fn.body with
  |none=>rw[l]at a;simp at a
  |some c=>rfl
 obtain⟨e,s,⟨a,vs,g,b⟩,j⟩:=mS _ _ _ (kT (Q':=qJ P fn.results.toList v) _ (fun _ _ h=>h) d);obtain⟨v',b,i⟩:=pZ _ _ _ b;have m:mu P f args v':=JE (nX ag) (w8 (nX ag) n) h.enters h.func k hs.2 o (j (Ends P fn.results.toList v') ⟨by cases e<;>exact a,vs,g,b⟩);exact m.cW (bB.refl _) i
theorem aM{f:ap}{fn:Func}(ag:ap->Bool)(h:an P f fn)(a:P.follows .mixedOrders=true){args:List PV}{v:PV}(b:args.length<=fn.ntmps)
 (c:eE P ag (fn.ntmps,0) (fn.body.getD .skip) (qJ P fn.results.toList v) ⟨iu 0 (args.map .p),[]⟩):az P f args v:=.inl (CR ag h a b c)
theorem Po{α:Type}{N:Nat×Nat->Prop}{f:α->PV}{l:List α}:aQ N (l.map fun x=>.p (f x))=True:=by
 rw[cG,eq_iff_iff,iff_true];intro v a;simp only[a1]at a;obtain⟨x,_,rfl⟩:=a;trivial
theorem aB9{α:Type}{N:Nat×Nat->Prop}{f:α->PV}{l:List α}{i:Nat}:aQ N ((l.map fun x=>.p (f x)).take i)=True:=by
 rw[cG,eq_iff_iff,iff_true];intro v a;have a:=List.mem_of_mem_take a;simp only[a1]at a;obtain⟨x,_,rfl⟩:=a;trivial
theorem UD{N:Nat×Nat->Prop}{a b:List AV}:aQ N (a++b)=(aQ N a/\aQ N b):=by
 simp only[cG,List.mem_append,eq_iff_iff];exact⟨fun h=>⟨fun v c=>h v (.inl c),fun v c=>h v (.inr c)⟩,fun h v c=>c.elim (h.1 v) (h.2 v)⟩
theorem Rq{α:Type}{l:List α}{i:Nat}:(l.take i).take i=l.take i:=by simp[List.take_take]
theorem Rp{α β:Type}{f:α->β}{l:List α}:(l.map f).take l.length=l.map f:=List.take_of_length_le (by simp)
section loops
variable{α:Type}(N:Nat)(mk:α->St)(ok:α->Prop)(m:α->Nat)(n:Nat)(Q:bu->St->Prop)
def DR(s:Tg (N,mk,ok,m,n) St):Prop:=tD N mk ok m n s
def mv(e:Tg (N,mk,ok,m,n,Q) bu)(s:Tg (N,mk,ok,m,n,Q) St):Prop:=qq N mk ok m n Q e s
variable{N}{mk}{ok}{m}{n}{Q}{s s':St}
theorem R4:mv N mk ok m n Q .normal s=DR N mk ok m n s:=(rfl)
theorem Tu{id:Nat}:mv N mk ok m n Q (.exit id) s=Q (.exit id) s:=(rfl)
theorem Up:mv N mk ok m n Q .ret s=Q .ret s:=(rfl)
theorem lp{d:Nat}{b:Code}(mk:α->St)(ok:α->Prop)(m:α->Nat)(c:α)(e:ok c)(gG:∀a,ok a->eE P ag (d,N) b (mv N mk ok m (m a) Q) (mk a))
 (hn:(mk c).heap.take N=s.heap.take N:=by simp)(he:ln (mk c).heap s.env (mk c).env:=by simp)(hh:iG (mk c).heap s.heap (mk c).heap:=by simp)(hr:iy (mk c).heap (mk c).env:=by simp)(hr2:er (mk c).heap (mk c).heap:=by simp):
 eE P ag (d,N) (.loop b) Q s:=wl (q:=(d,N)) mk ok m c e gG hn he hh hr hr2
theorem rd(a':α)(a:ok a')(h1:m a'<n:=by omega)(hn:(mk a').heap.take N=s.heap.take N:=by simp)(he:ln (mk a').heap s.env (mk a').env:=by simp)(hh:iG (mk a').heap s.heap (mk a').heap:=by simp)(hr:iy (mk a').heap (mk a').env:=by simp)(hr2:er (mk a').heap (mk a').heap:=by simp):
 DR N mk ok m n s:=rnd a' a h1 hn he hh hr hr2
end loops
section calls
variable{f:ap}{H H1:Heap}{K:AV->Heap->Prop}{L:aU->Prop}{v a b c d e a' b' c' d' e':PV}
theorem c0(h:az P f [] v)(hk:K (.p v) H):jU P false f K [] H:=XP h hk
theorem c1(h:az P f [a'] v)(hk:K (.p v) H)(h1:Wk a a':=by first|exact Wk.refl _|simp):jU P false f K [.p a] H:=XQ h hk h1
theorem c2(h:az P f [a',b'] v)(hk:K (.p v) H)(h1:Wk a a':=by first|exact Wk.refl _|simp)(c:Wk b b':=by first|exact Wk.refl _|simp):jU P false f K [.p a,.p b] H:=XR h hk h1 c
theorem c3(h:az P f [a',b',c'] v)(hk:K (.p v) H)(h1:Wk a a':=by first|exact Wk.refl _|simp)(d:Wk b b':=by first|exact Wk.refl _|simp)(e:Wk c c':=by first|exact Wk.refl _|simp):jU P false f K [.p a,.p b,.p c] H:=XS h hk h1 d e
theorem c4(h:az P f [a',b',c',d'] v)(hk:K (.p v) H)(e:Wk a a':=by first|exact Wk.refl _|simp)(g:Wk b b':=by first|exact Wk.refl _|simp)(i:Wk c c':=by first|exact Wk.refl _|simp)(j:Wk d d':=by first|exact Wk.refl _|simp):jU P false f K [.p a,.p b,.p c,.p d] H:=XT h hk e g i j
theorem c5(h:az P f [a',b',c',d',e'] v)(hk:K (.p v) H)(g:Wk a a':=by first|exact Wk.refl _|simp)(i:Wk b b':=by first|exact Wk.refl _|simp)(j:Wk c c':=by first|exact Wk.refl _|simp)(k:Wk d d':=by first|exact Wk.refl _|simp)(l:Wk e e':=by first|exact Wk.refl _|simp):jU P false f K [.p a,.p b,.p c,.p d,.p e] H:=XU h hk g i j k l
theorem e0(h:az P f [] v)(hk:L {v:=.p v}):me P f L [] H:=Xy h hk
theorem e1(h:az P f [a'] v)(hk:L {v:=.p v})(h1:Wk a a':=by first|exact Wk.refl _|simp):me P f L [.p a] H:=Xz h hk h1
theorem e2(h:az P f [a',b'] v)(hk:L {v:=.p v})(h1:Wk a a':=by first|exact Wk.refl _|simp)(c:Wk b b':=by first|exact Wk.refl _|simp):me P f L [.p a,.p b] H:=XA h hk h1 c
theorem e3(h:az P f [a',b',c'] v)(hk:L {v:=.p v})(h1:Wk a a':=by first|exact Wk.refl _|simp)(d:Wk b b':=by first|exact Wk.refl _|simp)(e:Wk c c':=by first|exact Wk.refl _|simp):me P f L [.p a,.p b,.p c] H:=XB h hk h1 d e
theorem e4(h:az P f [a',b',c',d'] v)(hk:L {v:=.p v})(e:Wk a a':=by first|exact Wk.refl _|simp)(g:Wk b b':=by first|exact Wk.refl _|simp)(i:Wk c c':=by first|exact Wk.refl _|simp)(j:Wk d d':=by first|exact Wk.refl _|simp):me P f L [.p a,.p b,.p c,.p d] H:=XC h hk e g i j
theorem e5(h:az P f [a',b',c',d',e'] v)(hk:L {v:=.p v})(g:Wk a a':=by first|exact Wk.refl _|simp)(i:Wk b b':=by first|exact Wk.refl _|simp)(j:Wk c c':=by first|exact Wk.refl _|simp)(k:Wk d d':=by first|exact Wk.refl _|simp)(l:Wk e e':=by first|exact Wk.refl _|simp):me P f L [.p a,.p b,.p c,.p d,.p e] H:=XD h hk g i j k l
theorem cp{args:List AV}{vs a:List PV}(h:az P f a v)(b:mG H args=some (vs,H1))(hk:K (.p v) H1)(h1:bB vs a:=by first|exact bB.refl _|simp):jU P false f K args H:=XV h b hk h1
theorem ep{args:List AV}{vs a:List PV}{bs:List Nat}{aj aJ:List (Nat×Obj)}(h:az P f a v)(b:nF H args=some (vs,bs))(hf:kC H bs=some (aj,aJ))(hk:L {v:=.p v,aj,aJ})(h1:bB vs a:=by first|exact bB.refl _|simp):me P f L args H:=XF h b hf hk h1
theorem ci{args:List AV}{H':Heap}{v:AV}(h:b9 P f H args H' v)(hk:K v H'):jU P false f K args H:=.inr ⟨rfl,.inr (.inl ⟨H',v,h,hk⟩)⟩
end calls
attribute [simp] Po aB9 UD Rq DD LJ aBb aBg K1 aA1 xq AW yh Rp aQ RH S6 Ue Sq SU RP Sp SZ SF T0 T3 TJ Sn UM Sv R4 Tu Up mG kj nF lN kC lF
 aEK Vj aEl aEJ Vh aEk Vi br Ju aEj R8 TS TY SG UI Ww Wc aEO Vg Ul aEZ Vf Uk X5 US X7 WI XX WH RD X2 WB XW X9 XZ Ta SB SA WE X1 XY aAG Ut aAJ Wm aAt Wl RL aAA Wf aAs aAL aAv Tl RW Sd Wi aAy aAu WC Wg UQ Ur Sy Sb UR Us WD Wh X6 aAH Sz Sc SE SY X4 aAF X3 aAE S9 Tk UT Uu X0 aAw XK XN XM XO
end
section
variable{P:ax}{ag:ap->Bool}{q:Cx}
theorem Iu{r:ez}{K a:aU->Prop}(hk:∀e,K e->a e)(h:bf r K):bf r a:=by
 unfold bf at h⊢
 split at h
 ·exact⟨h.1,hk _ h.2⟩
 ·exact h.elim
theorem Tq{o:Oper}{e:Env}{H:Heap}{K a:aU->Prop}(hk:∀e,K e->a e)(h:fp P ag o (ev e) H K):fp P ag o (ev e) H a:=by
 obtain⟨x,b,c⟩:=BL (ag:=ag) o (ev e) H K h;exact c a (hk x b)
theorem JU{o:Oper}{e:Env}{H:Heap}{K a:aU->Prop}(hk:∀e,K e->a e)(h:kf P ag o e H K):kf P ag o e H a:=by
 unfold kf at h⊢
 repeat' split at h
 all_goals first|exact hk _ h|exact Iu hk h|exact⟨h.1,Iu hk h.2⟩|exact Tq hk h|exact h.elim
theorem G4{d:Bool}{f:ap}{args:List AV}{H:Heap}{K i:AV->Heap->Prop}(hk:∀v H,K v H->i v H)(h:gC P d f args H K):gC P d f args H i:=by
 rcases h with⟨vs,v,a,b,c⟩|⟨g,⟨vs,H1,v,a,b,c⟩|⟨H',v,a,b⟩|⟨e,a,b,c⟩|⟨aj,v,a,b,c⟩⟩
 ·exact .inl ⟨vs,v,a,b,hk _ _ c⟩
 ·exact .inr ⟨g,.inl ⟨vs,H1,v,a,b,hk _ _ c⟩⟩
 ·exact .inr ⟨g,.inr (.inl ⟨H',v,a,hk _ _ b⟩)⟩
 ·exact .inr ⟨g,.inr (.inr (.inl ⟨e,a,b,hk _ _ c⟩))⟩
 ·exact .inr ⟨g,.inr (.inr (.inr ⟨aj,v,a,b,hk _ _ c⟩))⟩
theorem Hu{f:ap}{args:List AV}{H:Heap}{K d:aU->Prop}(hk:∀e,K e->d e)(h:gI P f args H K):gI P f args H d:=by
 rcases h with⟨vs,v,a,b,c⟩|⟨vs,bs,aj,aJ,v,a,b,c,g⟩|⟨e,a,b,c⟩|⟨aj,v,a,b,c⟩
 ·exact .inl ⟨vs,v,a,b,hk _ c⟩
 ·exact .inr (.inl ⟨vs,bs,aj,aJ,v,a,b,c,hk _ g⟩)
 ·exact .inr (.inr (.inl ⟨e,a,b,hk _ c⟩))
 ·exact .inr (.inr (.inr ⟨aj,v,a,b,hk _ c⟩))
theorem GN{o:Oper}{K b:St->Prop}{s:St}(hk:∀s,K s->b s)(h:di P ag o K s):di P ag o b s:=by
 unfold di at h⊢
 split at h
 ·rename_i f args g i;unfold qo at h⊢
  split at h
  ·exact G4 (fun v H a=>hk _ a) h
  ·exact G4 (fun v H a=>hk _ a) h
  ·obtain⟨H',v,c,d⟩:=h;exact⟨H',v,c,hk _ d⟩
  ·exact h.elim
 ·exact JU (fun e a=>hk _ a) h
theorem Hd{o:Oper}{s:St}{K a:aU->Prop}(hk:∀e,K e->a e)(h:dj P ag o s K):dj P ag o s a:=by
 unfold dj at h⊢
 split at h
 ·rename_i f args g i;unfold qc at h⊢
  split at h
  ·exact Hu hk h
  ·exact Hu hk h
  ·obtain⟨e,b,c,d⟩:=h;exact⟨e,b,c,hk _ d⟩
  ·exact h.elim
 ·exact JU hk h
theorem uf{c:Array Oper}:∀(l:List Oper){K a:St->Prop}{s:St},(∀s,K s->a s)->fH P ag c l K s->fH P ag c l a s
 |[],K,a,s,hk,h=>hk s h
 |o::l,K,a,s,hk,h=>by
  simp only[fH]at h⊢
  split at h
  ·exact GN (fun s hs=>uf l hk hs) h
  ·split at h
   ·split at h
    ·rename_i b;rw[if_pos b];exact GN (fun s hs=>uf l hk hs) h
    ·rename_i b;rw[if_neg b];exact uf l hk h
   ·exact uf l hk h
   ·exact h.elim
theorem uc{d:Array Oper}:∀(l:List Oper){i:Nat}{b:List Touch}{K a:St->Prop}{s:St},(∀s,K s->a s)->fQ P ag d l i b K s->fQ P ag d l i b a s
 |[],i,b,K,a,s,hk,h=>⟨h.1,hk s h.2⟩
 |o::l,i,b,K,a,s,hk,h=>by
  simp only[fQ]at h⊢
  split at h
  ·exact Hd (fun e hs=>uc l hk hs) h
  ·split at h
   ·split at h
    ·rename_i c;rw[if_pos c];exact Hd (fun e hs=>uc l hk hs) h
    ·rename_i c;rw[if_neg c];exact uc l hk h
   ·exact uc l hk h
   ·exact h.elim
theorem mR:∀(c:Code){Q g:bu->St->Prop}{s:St},(∀e s,Q e s->g e s)->de P ag q c Q s->de P ag q c g s
 | .skip,Q,g,s,hq,h=>hq _ _ h
 | .label _,Q,g,s,hq,h=>hq _ _ h
 | .exit _,Q,g,s,hq,h=>hq _ _ h
 | .ret,Q,g,s,hq,h=>hq _ _ h
 | .region _ ops draw,Q,g,s,hq,h=>by
  simp only[de]at h⊢
  split at h
  ·rename_i j;rw[if_pos j];exact uc _ (fun s hs=>hq _ _ hs) h
  ·rename_i j;rw[if_neg j];exact uf _ (fun s hs=>hq _ _ hs) h
 | .seq a b,Q,g,s,hq,h=>by
  simp only[de]at h⊢;refine mR a (fun e s d=>?_) h;cases e with
  |normal=>exact mR b hq d
  |exit i=>exact hq _ _ d
  |ret=>exact hq _ _ d
 | .cond c a b,Q,g,s,hq,h=>by
  simp only[de]at h⊢;unfold sL at h⊢
  split at h
  ·split at h
   ·rename_i k;rw[if_pos k];exact mR a hq h
   ·rename_i k;rw[if_neg k];exact mR b hq h
  ·exact h.elim
 | .block id b,Q,g,s,hq,h=>by
  simp only[de]at h⊢;refine mR b (fun e s d=>?_) h;cases e with
  |normal=>exact hq _ _ d
  |exit i=>
   simp only[nB]at d⊢
   by_cases hi:i=id
   ·simp only[hi,if_true]at d⊢;exact hq _ _ d
   ·simp only[hi,if_false]at d⊢;exact hq _ _ d
  |ret=>exact hq _ _ d
 | .scope b,Q,g,s,hq,h=>mR b hq h
 | .loop b,Q,g,s,hq,h=>by
  simp only[de]at h⊢;obtain⟨I,l,m⟩:=h;refine⟨I,l,fun n t hI=>mR b (fun e s d=>?_) (m n t hI)⟩;cases e with
  |normal=>exact d
  |exit id=>exact hq _ _ d
  |ret=>exact hq _ _ d
 | .rangeFunc f o a b,Q,g,s,hq,h=>by
  simp only[de]at h⊢;exact⟨h.1,H4 (fun H=>H7 hq) h.2⟩
 | .goto _,_,_,_,_,h=>h.elim
 | .refuse _,_,_,_,_,h=>h.elim
def qu(R:St->Prop)(Q:bu->St->Prop)(e:Tg (R,Q) bu)(s:Tg (R,Q) St):Prop:=match e with
 | .normal=>R s
 |e=>Q e s
theorem RU{R:St->Prop}{Q:bu->St->Prop}{s:St}:qu R Q .normal s=R s:=(rfl)
theorem Tz{R:St->Prop}{Q:bu->St->Prop}{id:Nat}{s:St}:qu R Q (.exit id) s=Q (.exit id) s:=(rfl)
theorem UZ{R:St->Prop}{Q:bu->St->Prop}{s:St}:qu R Q .ret s=Q .ret s:=(rfl)
theorem join{a b:Code}{Q:bu->St->Prop}{s:St}(R:St->Prop)(d:eE P ag q a (qu R Q) s)(f:∀s',R s'->eE P ag q b Q s'):eE P ag q (.seq a b) Q s:=by
 rw[br];refine mR a (fun e s c=>?_) d;cases e with
 |normal=>exact f s c
 |exit i=>exact c
 |ret=>exact c
theorem Pp{α:Type}{N:Nat×Nat->Prop}{f:α->PV}{l:List α}:aQ N (l.map (AV.p∘f))=True:=Po
attribute [simp] RU Tz UZ Pp
end
section
variable{P:ax}{ag:ap->Bool}
def u6(P:ax)(a:List ay)(N:Nat)(H':Heap)(v:AV)(e:Tg (a,N,H',v) bu)(s:Tg (a,N,H',v) St):Prop:=sR P a N H' v e s
theorem TF{a:List ay}{N:Nat}{H':Heap}{v:AV}{s:St}:u6 P a N H' v .ret s=∃vs,fu P s a=some vs/\oneOf vs=v/\(H'=s.heap\/(cX N s ⟨[],H'⟩/\aB (aG H') v)):=by simp[u6,sR]
theorem RC{a:List ay}{N:Nat}{H':Heap}{v:AV}{s:St}:u6 P a N H' v .normal s=∃vs,fu P s a=some vs/\oneOf vs=v/\(H'=s.heap\/(cX N s ⟨[],H'⟩/\aB (aG H') v)):=by simp[u6,sR]
theorem dW{f:ap}{fn:Func}(ag:ap->Bool)(h:an P f fn)(a:P.follows .mixedOrders=true){args:List AV}{H H':Heap}{v:AV}(hn:args.length<=fn.ntmps)
 (b:eE P ag (fn.ntmps,H.length) (fn.body.getD .skip) (u6 P fn.results.toList H.length H' v) ⟨iu 0 args,H⟩):b9 P f H args H' v:=
 NR ag h a hn (kT (Q':=sR P fn.results.toList H.length H' v) _ (fun _ _ h=>h) b)
theorem aCE{n i:Nat}:sig [] n i=n+i:=by simp[sig]
theorem cn{f:ap}{H H':Heap}{K:AV->Heap->Prop}{v:AV}{args:List PV}(h:b9 P f [] (args.map .p) H' v)(hk:K (cK (sig [] H.length) v) (H++H'.map (cV (sig [] H.length)))):jU P false f K (args.map .p) H:=by
 refine .inr ⟨rfl,.inr (.inr (.inl ⟨dA [] H.length [] H' v,?_,⟨by simp[dA],by simp[dA]⟩,?_⟩))⟩
 ·have b:aQ (aG ([]:Heap)) (args.map .p):=by rw[cG];intro v c;obtain⟨x,_,rfl⟩:=a1.1 c;trivial
  have:=h.frame [] H.length rfl List.nodup_nil (by simp) (by simp) b (by simp);have e:cM (sig [] H.length) (args.map .p)=args.map .p:=by
   clear h b this hk
   induction args with
   |nil=>rfl
   |cons a r d=>simp only[a4,cM,cK,d]
  rwa [e]at this
 ·simpa[dA,ba]using hk
theorem Nq{f:ap}{H H':Heap}{K:AV->Heap->Prop}{v:AV}{a b:PV}(h:b9 P f [] [.p a,.p b] H' v)(hk:K (cK (sig [] H.length) v) (H++H'.map (cV (sig [] H.length)))):jU P false f K [.p a,.p b] H:=cn (args:=[a,b]) h hk
def ML(P:ax)(T:av)(f:Nat):Option (av×iZ):=match kindOf P T,P.underlying T with
 | .agg u,some (.struct _)=>((jc P u)[f]?).map fun F=>(u,kindOf P F)
 |_,_=>none
def yv(P:ax)(T:av)(f:Nat)(x:AV):ez:=match ML P T f,x with
 |some (u,k),.p t=>match(cB t)[f]? with
  |some g=>some (aL t=.agg u/\k=aL g,{v:=.p g})
  |none=>none
 |_,_=>none
theorem JH{T:av}{x:AV}{f:Nat}{K:aU->Prop}:(match kindOf P T,P.underlying T,x with
  | .agg u,some (.struct _),.p t=>aL t=.agg u/\(match(cB t)[f]?,(jc P u)[f]? with
   |some g,some F=>kindOf P F=aL g/\K {v:=.p g}
   |_,_=>False)
  |_,_,_=>False)=bf (yv P T f x) K:=by
 unfold yv ML;cases b:kindOf P T with
 |agg u=>cases c:P.underlying T with
  |none=>simp[bf]
  |some d=>cases d with
   |struct fs=>cases x with
    |p t=>cases hc:(jc P u)[f]?<;>cases a:(cB t)[f]?<;>simp[bf,a,hc,and_assoc]
    |_=>cases hc:(jc P u)[f]?<;>simp[bf,hc]
   |_=>simp[bf]
 |_=>simp[bf]
section fields
variable{dst:Option Tmp}{ty:Nat}{pos:String}{af:Array Edge}{g:Option (Nat×Bool)}{env:Env}{heap:Heap}{L:St->Prop}{K:aU->Prop}{T:av}{x:ao}{f:Nat}
theorem Wj:dQ P ag ⟨dst,.field T x f,ty,pos,af,g⟩ L ⟨env,heap⟩ ()=cF (et dst ⟨env,heap⟩ L) (yv P T f (ev env x)):=JH
theorem WG:dM P ag ⟨dst,.field T x f,ty,pos,af,g⟩ ⟨env,heap⟩ K ()=cF K (yv P T f (ev env x)):=JH
end fields
theorem nE{σ:Nat->Nat}{α:Type}{f:α->PV}:∀{l:List α},cM σ (l.map (AV.p∘f))=l.map (AV.p∘f)
 |[]=>rfl
 |a::l=>by simp only[a4,cM,nE (l:=l)];rfl
theorem UE{σ:Nat->Nat}{α β:Type}{f:β->PV}{g:α->β}{l:List α}:cM σ (l.map ((AV.p∘f)∘g))=l.map ((AV.p∘f)∘g):=nE (f:=f∘g)
theorem aBY{α β:Type}{N:Nat×Nat->Prop}{f:β->PV}{g:α->β}{l:List α}:aQ N (l.map ((AV.p∘f)∘g))=True:=Pp (f:=f∘g)
attribute [simp] Wj WG UE aBY TF RC aCE cK cM cV nE
end
section
variable{P:ax}{ag:ap->Bool}
theorem J5{T:Heap}:∀{h:Heap},iG T h h=True
 |[]=>by simp[iG]
 |o::h=>by simp[iG,Lt,J5 (h:=h)]
theorem BJ{T:Heap}:∀{h k:Heap},er T (h++k)=(er T h/\er T k)
 |[],k=>by simp[er]
 |o::h,k=>by simp[er,BJ (h:=h),and_assoc]
theorem aB7{N:Nat×Nat->Prop}{n:Nat}{v:PV}:aQ N (a7 n (.p v))=True:=by
 rw[cG,eq_iff_iff,iff_true];intro x hx;rw[(List.mem_replicate.1 hx).2];trivial
theorem V9{σ:Nat->Nat}{α:Type}{f:α->PV}{l:List α}:cM σ (l.map fun x=>.p (f x))=l.map fun x=>.p (f x):=nE (f:=f)
theorem aBL{L:fc}{e:Env}{H:Heap}(h:L.env=e)(a:iy H e):∀x,aB (aG H) (aN L.env x):=by rw[h];exact a.get
def fc.bz(L:fc):fc:={L with st:=.busy}
def fc.dn(L:fc)(j:Code):fc:={L with st:=.done,pending:=some j}
def fc.xh(L:fc):fc:={L with st:=.exhausted}
def Stream(P:ax)(g:ap)(fi ca:List PV)(d:List (List PV)):Prop:=
 ∀(b k:Nat)(c:Nat->Heap)(H':Heap),k<=d.length->(∀i,i<=k->er (c i) (c i)/\aB (aG (c i)) (.map b))->
  (∀i a,i<k->d[i]?=some a->ic P b (c i) (a.map .p) (c (i+1)) (.p (.bool true)))->
  (k=d.length/\H'=c k\/∃a,d[k]?=some a/\ic P b (c k) (a.map .p) H' (.p (.bool false)))->
  b9 P g (c 0) (fi.map .p++[.map b]++ca.map .p) H' (.p (.aD []))
theorem XL{b:Nat}{args:List AV}{M:AV->Heap->Prop}{heap:Heap}:yX P heap M (.map b) args=∃H' v,ic P b heap args H' v/\M v H':=(rfl)
def tj(b:Nat)(L:fc)(N:Nat)(H':Heap)(v:Bool)(e:Tg (b,L,N,H',v) bu)(s:Tg (b,L,N,H',v) St):Prop:=
 match e with
 | .normal=>v=true/\(St.heap s)[b]?=some (.loop L.bz)/\cX N ⟨[],(St.heap s).set b (.loop L)⟩ ⟨[],H'⟩
 | .exit id=>v=false/\(St.heap s)[b]?=some (.loop L.bz)/\cX N ⟨[],(St.heap s).set b (.loop (L.dn (.exit id)))⟩ ⟨[],H'⟩
 | .ret=>v=false/\(St.heap s)[b]?=some (.loop L.bz)/\cX N ⟨[],(St.heap s).set b (.loop (L.dn .ret))⟩ ⟨[],H'⟩
section
variable{b N:Nat}{L:fc}{H':Heap}{v:Bool}{s:St}
theorem TV:tj b L N H' v .normal s=(v=true/\s.heap[b]?=some (.loop L.bz)/\cX N ⟨[],s.heap.set b (.loop L)⟩ ⟨[],H'⟩):=(rfl)
theorem Wb{id:Nat}:tj b L N H' v (.exit id) s=(v=false/\s.heap[b]?=some (.loop L.bz)/\cX N ⟨[],s.heap.set b (.loop (L.dn (.exit id)))⟩ ⟨[],H'⟩):=(rfl)
theorem aBz:tj b L N H' v .ret s=(v=false/\s.heap[b]?=some (.loop L.bz)/\cX N ⟨[],s.heap.set b (.loop (L.dn .ret))⟩ ⟨[],H'⟩):=(rfl)
end
def DE(P:ax)(ag:ap->Bool)(q:Cx)(b:Nat)(c:Code)(L:fc)(H':Heap)(v:Bool)(e:Tg (q,b,c,L,H',v) bu)(s:Tg (q,b,c,L,H',v) St):Prop:=
 match e with
 | .normal=>(St.heap s)[b]?=some (.loop L)/\eE P ag q c (tj b L q.2 H' v) ⟨St.env s,(St.heap s).set b (.loop L.bz)⟩
 |_=>False
theorem TW{q:Cx}{b:Nat}{c:Code}{L:fc}{H':Heap}{v:Bool}{s:St}:DE P ag q b c L H' v .normal s=(s.heap[b]?=some (.loop L)/\eE P ag q c (tj b L q.2 H' v) ⟨s.env,s.heap.set b (.loop L.bz)⟩):=(rfl)
theorem D1(ag:ap->Bool)(r:P.follows .mixedOrders=true){b n:Nat}{L:fc}{H H':Heap}{args:List AV}{v:Bool}{j:List Tmp}{a c:Code}{env:Env}
 (d:L=⟨.ready,none,n,j,a,c,env⟩)(o:H[b]?=some (.loop L))(q:args.length=j.length)
 (t:(j.all (fun x=>decide (x<n))&&codeOk fit n a&&codeOk fit n c)=true)
 (u:eE P ag (n,H.length) a (DE P ag (n,H.length) b c L H' v) ⟨pY j args env,H⟩):ic P b H args H' (.p (.bool v)):=by
 refine NT ag r o (by rw[d];exact q) (by rw[d];exact t) ?_;unfold xN;have e1:L.n=n:=by rw[d]
 have e2:L.assign=a:=by rw[d]
 have e3:L.body=c:=by rw[d]
 have e4:L.params=j:=by rw[d]
 have e5:L.env=env:=by rw[d]
 have k:L.st=.ready:=by rw[d]
 rw[e1,e2,e3,e4,e5];refine kT (Q:=DE P ag (n,H.length) b c L H' v) _ (fun e s h=>?_) u;cases e with
 |normal=>
  obtain⟨l,m⟩:=h;simp only[wY,l];refine⟨k,kT (Q:=tj b L H.length H' v) _ (fun e s h=>?_) m⟩;cases e with
  |normal=>
   obtain⟨rfl,f,g⟩:=h;have i:s.heap[b]?=some (.loop L.bz):=f;simp only[rO,i,gB];refine⟨rfl,?_⟩;have:({L.bz with st:=LoopState.ready,pending:=none}:fc)=L:=by subst d;rfl
   simpa[this]using g
  |exit id=>
   obtain⟨rfl,f,g⟩:=h;have i:s.heap[b]?=some (.loop L.bz):=f;simp only[rO,i,gB];exact⟨rfl,g⟩
  |ret=>
   obtain⟨rfl,f,g⟩:=h;have i:s.heap[b]?=some (.loop L.bz):=f;simp only[rO,i,gB];exact⟨rfl,g⟩
 |exit id=>exact h.elim
 |ret=>exact h.elim
theorem rf{f:ao}{h:Array Tmp}{a c:Code}{Q:bu->St->Prop}{env:Env}{heap:Heap}{q:Cx}{g:ap}{fi ca:List PV}{n:List (List PV)}(aK:Stream P g fi ca n)(hf:ev env f= .p (.func g fi ca))(hq:q.2<=heap.length)
 (X:fc->Nat->Heap)(k:Nat)(hk:k<=n.length)(u:∀L,X L 0=heap++[.loop L])
 (hx:∀L,L=⟨.ready,none,q.1,h.toList,a,c,env⟩->∀i,i<=k->(X L i)[heap.length]?=some (.loop L)/\iy (X L i) env/\(iy (X L i) env->(∀x,aB (aG (X L i)) (aN L.env x))->er (X L i) (X L i)))
 (t:∀L,L=⟨.ready,none,q.1,h.toList,a,c,env⟩->∀i x,i<k->n[i]?=some x->ic P heap.length (X L i) (x.map .p) (X L (i+1)) (.p (.bool true)))
 (y:∀L,L=⟨.ready,none,q.1,h.toList,a,c,env⟩->(k=n.length/\Q .normal ⟨env,(X L k).set heap.length (.loop L.xh)⟩)\/
  ∃x j l,n[k]?=some x/\l[heap.length]?=some (.loop (L.dn j))/\ic P heap.length (X L k) (x.map .p) l (.p (.bool false))/\jR Q (some j) ⟨env,l.set heap.length (.loop (L.dn j).xh)⟩):
 eE P ag q (.rangeFunc f h a c) Q ⟨env,heap⟩:=by
 obtain⟨L,b⟩:∃L:fc,L=⟨.ready,none,q.1,h.toList,a,c,env⟩:=⟨_,rfl⟩
 have s:=aK heap.length k (X L);refine⟨hq,?_⟩;show ju P (ev env f) heap.length (heap++[.loop ⟨.ready,none,q.1,h.toList,a,c,env⟩]) (iF heap.length env Q);rw[hf];simp only[ju];rw[<-b,<-u L];have r:∀i,i<=k->er (X L i) (X L i)/\aB (aG (X L i)) (.map heap.length):=by
  intro i hi;obtain⟨m,d,o⟩:=hx L b i hi;have e5:L.env=env:=by rw[b]
  refine⟨o d (by rw[e5];exact d.get),?_⟩;simp only[aB,aG,m];exact⟨_,rfl,by simp[Obj.has]⟩
 rcases y L b with⟨m,d⟩|⟨x,j,l,m,d,o,v⟩
 ·refine⟨_,_,s (X L k) hk r (t L b) (.inl ⟨m,rfl⟩),?_⟩;have w:=(hx L b k (bb k)).1;simp only[iF,w];refine⟨by rw[b];simp,?_⟩;have:L.pending=none:=by rw[b]
  simp only[this,jR];have e:L.xh={L with st:=.exhausted}:=rfl;rw[this]at e;rw[e]at d;exact d
 ·refine⟨_,_,s l hk r (t L b) (.inr ⟨x,m,o⟩),?_⟩;simp only[iF,d];exact⟨by simp[fc.dn],v⟩
section Ys
variable{f:ap}{H0 bS H:Heap}{fy args:List AV}{v0:AV}{K:AV->Heap->Prop}{L:aU->Prop}
theorem Ft(h:b9 P f H0 fy bS v0)(bs:List Nat)(e:bs.length=H0.length)(i:bs.Nodup)(g:∀b∈bs,b<H.length)(d:H0.length<=bS.length)(a:aQ (aG H0) fy)(j:er H0 H0)(c:cM (sig bs H.length) fy=args):
 qI P f args H.length (dA bs H.length H0 bS v0):=by
 have:=h.frame bs H.length e i g d a j.get
 rwa [c]at this
theorem cf(h:b9 P f H0 fy bS v0)(bs:List Nat)(hk:K (cK (sig bs H.length) v0) (ba H (bs.zip ((bS.take H0.length).map (cV (sig bs H.length))))++(bS.drop H0.length).map (cV (sig bs H.length))))(aj:∀p∈bs.zip (H0.map (cV (sig bs H.length))),H[p.1]?=some p.2:=by simp[sig])(aJ:∀p∈bs.zip ((bS.take H0.length).map (cV (sig bs H.length))),p.1<H.length/\p.2≠ .hole:=by simp[sig])
 (d:bs.length=H0.length:=by simp)(g:bs.Nodup:=by simp)(e:∀b∈bs,b<H.length:=by simp)(c:H0.length<=bS.length:=by simp)(a:aQ (aG H0) fy:=by simp)(hr:er H0 H0:=by simp)(hargs:cM (sig bs H.length) fy=args:=by simp[sig]):jU P false f K args H:=
 .inr ⟨rfl,.inr (.inr (.inl ⟨_,Ft h bs d g e c a hr hargs,⟨aj,aJ⟩,hk⟩))⟩
theorem ef(h:b9 P f H0 fy bS v0)(bs:List Nat)(hk:L {v:=cK (sig bs H.length) v0,aj:=bs.zip (H0.map (cV (sig bs H.length))),aJ:=bs.zip ((bS.take H0.length).map (cV (sig bs H.length))),aR:=(bS.drop H0.length).map (cV (sig bs H.length))})(aj:∀p∈bs.zip (H0.map (cV (sig bs H.length))),H[p.1]?=some p.2:=by simp[sig])(aJ:∀p∈bs.zip ((bS.take H0.length).map (cV (sig bs H.length))),p.1<H.length/\p.2≠ .hole:=by simp[sig])
 (e:bs.length=H0.length:=by simp)(i:bs.Nodup:=by simp)(g:∀b∈bs,b<H.length:=by simp)(d:H0.length<=bS.length:=by simp)(a:aQ (aG H0) fy:=by simp)(j:er H0 H0:=by simp)(c:cM (sig bs H.length) fy=args:=by simp[sig]):me P f L args H:=
 .inr (.inr (.inl ⟨_,Ft h bs e i g d a j c,⟨aj,aJ⟩,hk⟩))
end Ys
section bytes
variable{dst:Option Tmp}{ty:Nat}{pos:String}{af:Array Edge}{g:Option (Nat×Bool)}{env:Env}{heap:Heap}{L:St->Prop}{K:aU->Prop}
theorem X8{x:ao}{d:Array av}{b ar ai off len:Nat}{k:AK}{es:List AV}(hx:ev env x= .sl b ar ai off len)(f:heap[b]?=some (.arr k ar ai es))(e:0<len)(h:off+len<=es.length)
 (hk:K {v:=.b6 b ar ai off [],aj:=[(b,.arr k ar ai es)]}):dM P ag ⟨dst,.call {callee:=.builtin .unsafeSliceData,args:=#[x],argTypes:=d},ty,pos,af,g⟩ ⟨env,heap⟩ K ():=by
 show(match ev env x with
   | .p .aF=>K {v:=.p .dD}
   | .sl b ar ai off len=>(match heap[b]? with
    |some (.arr k c a es)=>ar=c/\ai=a/\((k.gr=true/\es=[]/\K {v:=.p .dD,aj:=[(b,.arr k c a es)]})\/(0<len/\off+len<=es.length/\K {v:=.b6 b ar ai off [],aj:=[(b,.arr k c a es)]}))
    |_=>False)
   |_=>False)
 rw[hx];simp only[f];exact⟨trivial,trivial,.inr ⟨e,h,hk⟩⟩
theorem Ya{x y:ao}{a:Array av}{b ar:Nat}{m:Int}{es:List AV}{l:List Nat}(hx:ev env x= .b6 b ar 1 0 [])(o:ev env y= .p (.int .i64 m))(i:heap[b]?=some (.arr .bytes ar 1 es))(c:0<m)(k:m.toNat<=es.length)(d:m<=9223372036854775807)
 (f:a.size=2)(e:ptrTo P (a.getD 0 0)=some Gl.u8)(n:P.cellsOf Gl.u8=1)(j:bytesOf (es.take m.toNat)=some l)
 (hk:K {v:=.p (.str l),aj:=[(b,.arr .bytes ar 1 es)],aJ:=[(b,.dead)]}):dM P ag ⟨dst,.call {callee:=.builtin .unsafeString,args:=#[x,y],argTypes:=a},ty,pos,af,g⟩ ⟨env,heap⟩ K ():=by
 have h:fp P ag ⟨dst,.call {callee:=.builtin .unsafeString,args:=#[x,y],argTypes:=a},ty,pos,af,g⟩ (ev env) heap K:=by
  unfold fp;simp only[a4,List.map_nil,hx,o,i];exact⟨trivial,trivial,trivial,trivial,c,k,d,f,e,n,by rw[j];exact hk⟩
 exact h
end bytes
theorem rf2{f:ao}{h:Array Tmp}{a c:Code}{Q:bu->St->Prop}{env:Env}{heap:Heap}{q:Cx}{g:ap}{fi ca:List PV}{b:List (List PV)}(aK:Stream P g fi ca b)(hf:ev env f= .p (.func g fi ca))(hq:q.2<=heap.length)
 (X F:fc->Nat->Heap)(okB:Nat->Bool)(j:Code)(k:Nat)(hk:k<=b.length)(u:∀i,i<k->okB i=true)(r:k=b.length\/(k<b.length/\okB k=false))(m:∀L,X L 0=heap++[.loop L])
 (hx:∀L,L=⟨.ready,none,q.1,h.toList,a,c,env⟩->∀i,i<=k->(X L i)[heap.length]?=some (.loop L)/\iy (X L i) env/\(iy (X L i) env->(∀x,aB (aG (X L i)) (aN L.env x))->er (X L i) (X L i)))
 (l:∀L,L=⟨.ready,none,q.1,h.toList,a,c,env⟩->∀i x,i<=k->b[i]?=some x->ic P heap.length (X L i) (x.map .p) (if okB i=true then X L (i+1)else F L (i+1)) (.p (.bool (okB i))))
 (n:∀L,(F L (k+1))[heap.length]?=some (.loop (L.dn j)))
 (s:k=b.length->∀L,Q .normal ⟨env,(X L k).set heap.length (.loop L.xh)⟩)
 (v:k<b.length->∀L,jR Q (some j) ⟨env,(F L (k+1)).set heap.length (.loop (L.dn j).xh)⟩):
 eE P ag q (.rangeFunc f h a c) Q ⟨env,heap⟩:=by
 refine rf aK hf hq X k hk m hx (fun L e i x hi t=>?_) (fun L e=>?_)
 ·have:=l L e i x (by omega) t;rw[u i hi]at this;exact this
 ·rcases r with d|⟨d,o⟩
  ·exact .inl ⟨d,s d L⟩
  ·right;refine⟨b[k],j,F L (k+1),a5 d,n L,?_,v d L⟩;have:=l L e k b[k] (bb _) (a5 d);rw[o]at this;exact this
attribute [simp] V9 aB7 J5 BJ TV Wb aBz TW XL pY
end
section
variable{P:ax}{ag:ap->Bool}{w:a0}{aa ah:Nat->Prop}{β:Bd}{H:Heap}
def ml(K:Nat->Bool)(H:Heap):Heap:=H.mapIdx fun i o=>if K i then .dead else o
theorem A8{K:Nat->Bool}{b:Nat}:(ml K H)[b]?=(H[b]?).map fun o=>if K b then .dead else o:=by simp[ml]
theorem ky{K:Nat->Bool}{b:Nat}{o:Obj}(h:(ml K H)[b]?=some o):∃a,H[b]?=some a/\((K b=true/\o=.dead)\/(K b=false/\o=a)):=by
 rw[A8,Option.map_eq_some_iff]at h;obtain⟨a,d,c⟩:=h;refine⟨a,d,?_⟩;cases hk:K b<;>simp[hk]at c
 ·exact .inr ⟨rfl,c.symm⟩
 ·exact .inl ⟨rfl,c.symm⟩
theorem BD{K:Nat->Bool}{x:Nat×Nat}(h:aG H x):aG (ml K H) x:=by
 obtain⟨o,a,b⟩:=h;refine⟨if K x.1 then .dead else o,by rw[A8,a];rfl,?_⟩
 split
 ·trivial
 ·exact b
theorem AG{K:Nat->Bool}:ch β H β (ml K H):=by
 refine⟨fun b _ h=>⟨?_,rfl⟩,fun b _ h=>⟨?_,rfl⟩,fun b _ h=>⟨?_,rfl⟩,fun b ar ai k f _ h=>⟨k,f,?_,bb _,Iff.rfl,fun _=>⟨rfl,rfl⟩⟩,fun b _ h=>⟨?_,rfl⟩⟩
 ·obtain⟨fz,t,h⟩:=h;obtain⟨d,c,a⟩:=ky h;rcases a with⟨_,a⟩|⟨_,rfl⟩
  ·cases a
  ·exact⟨fz,t,c⟩
 ·obtain⟨s,q,h⟩:=h;obtain⟨d,c,a⟩:=ky h;rcases a with⟨_,a⟩|⟨_,rfl⟩
  ·cases a
  ·exact⟨s,q,c⟩
 ·obtain⟨g,h,e⟩:=h;obtain⟨d,c,a⟩:=ky h;rcases a with⟨_,rfl⟩|⟨_,rfl⟩
  ·exact e.elim
  ·exact⟨_,c,e⟩
 ·obtain⟨d,c,a⟩:=ky h;rcases a with⟨_,a⟩|⟨_,rfl⟩
  ·cases a
  ·exact c
 ·obtain⟨L,h⟩:=h;obtain⟨d,c,a⟩:=ky h;rcases a with⟨_,a⟩|⟨_,rfl⟩
  ·cases a
  ·exact⟨L,c⟩
def zF(K:Nat->Bool)(aa:Nat->Prop)(β:Bd)(H:Heap)(k:Nat):Prop:=aa k\/∃(b:Nat)(o:Obj),H[b]?=some o/\o.live/\K b=true/\β.ak b=k
theorem bP.kill(K:Nat->Bool)(a:bP P w aa β H ah):bP P w aa β (ml K H) ah:=by
 refine⟨fun b o e=>?_,fun b b' o o' e n f g m l=>?_,fun b o e=>?_,a.bR,a.dS,a.gV⟩
 ·obtain⟨i,c,d⟩:=ky e;rcases d with⟨_,rfl⟩|⟨_,rfl⟩
  ·trivial
  ·exact eQ.carry (fun _ x=>x) (fun _ _=>rfl) AG (a.refs b o c) (fun _=>⟨rfl,rfl,rfl⟩) (fun _ _ h=>h) (a.cE b o c)
 ·obtain⟨i,c,d⟩:=ky e;obtain⟨p,j,k⟩:=ky n;rcases d with⟨_,rfl⟩|⟨_,rfl⟩
  ·exact f.elim
  rcases k with⟨_,rfl⟩|⟨_,rfl⟩
  ·exact g.elim
  exact a.inj b b' _ _ c j f g m l
 ·obtain⟨i,c,d⟩:=ky e;rcases d with⟨_,rfl⟩|⟨_,rfl⟩
  ·trivial
  ·exact Obj.ux (fun _ h=>BD h) (a.refs b o c)
theorem bP.azG(K:Nat->Bool)(a:bP P w aa β H ah):bP P w (zF K aa β H) β (ml K H) ah:=by
 have hk:=a.kill K;have hi:∀k,aa k->zF K aa β H k:=fun k h=>.inl h;refine⟨fun b o c=>?_,fun b b' o o' c r d p q n=>hk.inj b b' o o' c r d p (fun h=>q (hi _ h)) n,hk.refs,fun k h=>?_,a.dS,⟨fun g=>aA.mono hi (fun _ _=>rfl) _ _ (a.gV.val g),fun g cs h=>⟨hi _ (a.gV.raw g cs h).1,(a.gV.raw g cs h).2⟩⟩⟩
 ·have f:=c;obtain⟨t,j,l⟩:=ky c;rcases l with⟨_,rfl⟩|⟨s,rfl⟩
  ·trivial
  ·refine eQ.carry hi (fun _ _=>rfl) (ch.refl β _) (hk.refs b o f) (fun _=>⟨rfl,rfl,rfl⟩) (fun d fz h=>?_) (hk.cE b o f);cases fz with
   |true=>exact hi _ h
   |false=>
    refine⟨?_,h.2⟩;rintro(m|⟨e,i,g1,g2,g3,g4⟩)
    ·exact h.1 m
    ·have:=a.inj e b i o g1 j g2 d (by rw[g4];exact h.1) g4;rw[this,s]at g3;cases g3
 ·rcases h with h|⟨e,i,g1,g2,g3,rfl⟩
  ·exact a.bR k h
  ·exact a.l7 g1 g2
theorem eQ.held{b:Nat}{o:Obj}(h:eQ P w aa β H ah b o)(a:o.live):aa (β.ak b)\/¬ah (β.ak b):=by
 by_cases hi:aa (β.ak b)
 ·exact .inl hi
 ·exact .inr (h.mut a hi)
theorem b9.pure{f:ap}{args:List AV}{H':Heap}{v:AV}{n:Nat}{p:PV}(K:Nat->Bool)(h:b9 P f H args H' v)(C:dY (ml (fun i=>!K i) H') n v=some p)(B:∀b L,K b=true->H[b]?≠some (.loop L)):
 b9 P f H args (ml K H') (.p p):=by
 refine⟨h.1,fun w aa ah β t E z F=>(h.2 w aa ah β t E z F).mono ?_⟩;rintro e w' ⟨j,aH,aE,rfl,d,G,r⟩;have q:=d.rel;have A:=q.kill (fun i=>!K i);have I:aw P w' aE aH (ml (fun i=>!K i) H') v j:=aw.mono (fun _ x=>x) (fun _ _=>rfl) AG _ _ r G;have D:=wZ A n v p C (aB.mono (fun _ h=>BD h) v r) j I;refine⟨j,aH,zF K aE aH H',rfl,⟨fun k hk=>.inl (d.bR k hk),?_,d.ext,?_,q.azG K,fun x hx=>BD (d.eL x hx),?_⟩,?_,trivial⟩
 ·rintro k (hk|⟨b,o,g1,g2,g3,rfl⟩)
  ·exact d.fresh k hk
  ·rcases(q.cE b o g1).held g2 with h|h
   ·exact d.fresh _ h
   ·exact .inr h
 ·have aK:=d.step;have hk:=AG (K:=K) (β:=aH) (H:=H');refine⟨fun b a c=>?_,fun b a c=>?_,fun b a c=>?_,fun b ar ai k es a c=>?_,fun b a c=>?_⟩
  ·exact aK.box b a (hk.box b (d.eL _ a) c).1
  ·exact aK.it b a (hk.it b (d.eL _ a) c).1
  ·exact aK.map b a (hk.map b (d.eL _ a) c).1
  ·have u:eA H' b ar ai k es:=by
    obtain⟨M,l,g⟩:=ky c;rcases g with⟨_,g⟩|⟨_,rfl⟩
    ·cases g
    ·exact l
   exact aK.arr b ar ai k es a u
  ·exact aK.loop b a (hk.loop b (d.eL _ a) c).1
 ·rintro b ⟨L,c⟩;obtain⟨s,y⟩:=d.loop b ⟨L,c⟩;have m:K b=false:=by
   cases m:K b with
   |false=>rfl
   |true=>exact(B b L m c).elim
  exact⟨s,by rw[A8,y];simp[m]⟩
 ·show aA P w' _ p j;refine aA.mono ?_ (fun _ _=>rfl) _ _ D;rintro k (hk|⟨b,o,g1,g2,rfl⟩)
  ·exact .inl hk
  ·obtain⟨M,l,g⟩:=ky g1;rcases g with⟨_,rfl⟩|⟨J,rfl⟩
   ·exact g2.elim
   ·exact .inr ⟨b,o,l,g2,by simpa using J,rfl⟩
end
section
variable{P:ax}{w:a0}{aa ah:Nat->Prop}{β:Bd}
theorem rH{t t':AV}{r:Heap}:ch β (.box false t::r) β (.box false t'::r):=by
 refine⟨fun b _ h=>⟨?_,rfl⟩,fun b _ h=>⟨?_,rfl⟩,fun b _ h=>⟨?_,rfl⟩,fun b ar ai k c _ h=>⟨k,c,?_,bb _,Iff.rfl,fun _=>⟨rfl,rfl⟩⟩,fun b _ h=>⟨?_,rfl⟩⟩
 ·cases b with
  |zero=>exact⟨false,t,rfl⟩
  |succ b=>exact h
 ·obtain⟨s,q,h⟩:=h;cases b with
  |zero=>simp at h
  |succ b=>exact⟨s,q,h⟩
 ·obtain⟨d,h,a⟩:=h;cases b with
  |zero=>simp at h;subst h;exact a.elim
  |succ b=>exact⟨d,h,a⟩
 ·cases b with
  |zero=>simp[eA]at h
  |succ b=>exact h
 ·obtain⟨L,h⟩:=h;cases b with
  |zero=>simp at h
  |succ b=>exact⟨L,h⟩
theorem pL{t t':AV}{r:Heap}{x:Nat×Nat}(h:aG (.box false t::r) x):aG (.box false t'::r) x:=by
 obtain⟨o,a,c⟩:=h;obtain⟨b,v⟩:=x;cases b with
 |zero=>exact⟨_,rfl,trivial⟩
 |succ b=>exact⟨o,a,c⟩
theorem bP.swap{t d:AV}{r:Heap}(c:bP P w aa β (.box false t::r) ah)(hc:∀cs,bm P w aa β (.box false t::r) t cs->bm P w aa β (.box false t::r) d cs)(l:∀T,iV T (ad d)=true)
 (g:∀n,aB n t->aB n d):bP P w aa β (.box false d::r) ah:=by
 refine⟨fun b o a=>?_,fun b b' o o' a s f p q m=>?_,fun b o a=>?_,c.bR,c.dS,c.gV⟩
 ·cases b with
  |zero=>
   simp at a;subst a;obtain⟨cs,T,i,j,k,y,z⟩:=c.cE 0 _ rfl;have u:=c.refs 0 _ rfl;exact⟨cs,T,i,bm.mono (fun _ x=>x) (fun _ _=>rfl) rH _ _ (g _ u) (hc _ j),k,(fun h=>absurd h (by simp)),l T⟩
  |succ b=>exact eQ.carry (fun _ x=>x) (fun _ _=>rfl) rH (c.refs (b+1) o a) (fun _=>⟨rfl,rfl,rfl⟩) (fun _ _ h=>h) (c.cE (b+1) o a)
 ·have key:∀{b:Nat}{o:Obj},(Obj.box false d::r)[b]?=some o->o.live->∃e,(Obj.box false t::r)[b]?=some e/\e.live:=by
   intro b o a f;cases b with
   |zero=>exact⟨_,rfl,trivial⟩
   |succ b=>exact⟨o,a,f⟩
  obtain⟨e,k1,k2⟩:=key a f;obtain⟨v,k3,k4⟩:=key s p;exact c.inj b b' e v k1 k3 k2 k4 q m
 ·cases b with
  |zero=>
   simp at a;subst a;exact aB.mono (fun _ h=>pL h) _ (g _ (c.refs 0 _ rfl))
  |succ b=>exact Obj.ux (fun _ h=>pL h) (c.refs (b+1) o a)
theorem Kf{H:Heap}{u:av}{n:Nat}(f:dH P u=some [n]){t:AV}{cs:List aT}:bm P w aa β H (.st u [t]) cs↔bm P w aa β H t cs/\cs.length=n:=by
 simp only[bm,f,bo];constructor
 ·rintro⟨l,g,rfl,a,rfl⟩;simp only[bJ]at a;obtain⟨c,d,rfl,b,e,rfl⟩:=a;simpa using⟨b,e⟩
 ·rintro⟨a,b⟩;exact⟨[n],[cs],rfl,by simp only[bJ];exact⟨cs,[],rfl,a,b,rfl⟩,by simp⟩
theorem b9.wrap{f:ap}{u:av}{n:Nat}{t i:AV}{r j:Heap}{args:List AV}{v:AV}(q:dH P u=some [n])(a:∀T,iV T (.agg u)=true)(F:∀T,iV T (ad t)=true)(G:∀(w:a0)(aa:Nat->Prop)(β:Bd)(H:Heap)(cs:List aT),bm P w aa β H i cs->cs.length=n)
 (h:b9 P f (.box false t::r) (.ptr 0 []::args) (.box false i::j) v):b9 P f (.box false (.st u [t])::r) (.ptr 0 [(u,0)]::args) (.box false (.st u [i])::j) v:=by
 refine⟨h.1,fun w aa ah β O J D y=>?_⟩;have K:bP P w aa β (.box false t::r) ah:=J.swap (fun cs h=>((Kf q).1 h).1) F (fun n h=>by simpa[aB,aQ]using h);obtain⟨x,xs,rfl,h1,C⟩:=D;have E:bw P w aa β (.box false t::r) (.ptr 0 []::args) (x::xs):=by
  refine⟨x,xs,rfl,?_,bw.mono (fun _ x=>x) (fun _ _=>rfl) rH _ _ y.2 C⟩;obtain⟨q1,ak,off,o,s,N,q4⟩:=h1;refine⟨q1,ak,off,0,s,rfl,fun _=>?_⟩;have I:o=0:=by simpa[fN,q]using N.symm
  have:=q4 (.inl ⟨false,_,rfl⟩);rw[I]at this;exact this
 refine(h.2 w aa ah β (x::xs) K E ⟨⟨_,rfl,trivial⟩,aQ.mono (fun _ h=>pL h) _ y.2⟩).mono ?_;rintro e w' ⟨B,aH,aE,rfl,g,M,z⟩;refine⟨B,aH,aE,rfl,⟨g.bR,g.fresh,g.ext,?_,?_,fun x hx=>pL (g.eL x (pL hx)),?_⟩,aw.mono (fun _ x=>x) (fun _ _=>rfl) rH _ _ z M,aB.mono (fun _ h=>pL h) _ z⟩
 ·have aK:=g.step;have m:=rH (β:=β) (t:=.st u [t]) (t':=t) (r:=r);have p:=rH (β:=aH) (t:=i) (t':=.st u [i]) (r:=j);have d:∀x,aG (.box false (.st u [t])::r) x->aG (.box false t::r) x:=fun x h=>pL h;have l:∀x,aG (.box false t::r) x->aG (.box false i::j) x:=g.eL;refine⟨fun b a c=>?_,fun b a c=>?_,fun b a c=>?_,fun b ar ai k es a c=>?_,fun b a c=>?_⟩
  ·obtain⟨k1,k2⟩:=p.box b (l _ (d _ a)) c;obtain⟨k3,k4⟩:=aK.box b (d _ a) k1;exact⟨(m.box b a k3).1,k4⟩
  ·obtain⟨k1,k2⟩:=p.it b (l _ (d _ a)) c;obtain⟨k3,k4⟩:=aK.it b (d _ a) k1;exact⟨(m.it b a k3).1,k4⟩
  ·obtain⟨k1,k2⟩:=p.map b (l _ (d _ a)) c;obtain⟨k3,k4⟩:=aK.map b (d _ a) k1;exact⟨(m.map b a k3).1,k4⟩
  ·have k1:eA (.box false i::j) b ar ai k es:=by
    cases b with
    |zero=>simp[eA]at c
    |succ b=>exact c
   obtain⟨k0,gl,q1,s⟩:=aK.arr b ar ai k es (d _ a) k1;refine⟨k0,gl,?_,s⟩;cases b with
   |zero=>simp[eA]at q1
   |succ b=>exact q1
  ·obtain⟨k1,k2⟩:=p.loop b (l _ (d _ a)) c;obtain⟨k3,k4⟩:=aK.loop b (d _ a) k1;exact⟨(m.loop b a k3).1,k4⟩
 ·exact g.rel.swap (fun cs h=>(Kf q).2 ⟨h,G _ _ _ _ _ h⟩) a (fun n h=>by simpa[aB,aQ]using h)
 ·rintro b ⟨L,c⟩;have k1:gA (.box false t::r) b:=by
   cases b with
   |zero=>simp at c
   |succ b=>exact⟨L,c⟩
  obtain⟨A,k2⟩:=g.loop b k1;cases b with
  |zero=>simp at k2
  |succ b=>exact⟨A,k2⟩
end
section
variable{P:ax}{w:a0}{aa ah:Nat->Prop}{β:Bd}
def sQ(n:Nat):Heap:=a7 n .dead
theorem mT{n b:Nat}{o:Obj}(h:(sQ n)[b]?=some o):o=.dead:=by
 simp only[sQ,a6]at h
 split at h
 ·injection h with h;exact h.symm
 ·cases h
theorem b9.cut{f:ap}{H:Heap}{args:List AV}{n:Nat}{p:PV}(h:b9 P f H args (sQ n) (.p p)):b9 P f H args (sQ H.length) (.p p):=by
 refine⟨h.1,fun w aa ah β i v r y=>(h.2 w aa ah β i v r y).mono ?_⟩;rintro e w' ⟨j,aH,aE,rfl,a,z,A⟩;have no:∀{m b:Nat}{o:Obj},(sQ m)[b]?=some o->o.live->False:=fun h d=>by rw[mT h]at d;exact d
 refine⟨j,aH,aE,rfl,⟨a.bR,a.fresh,a.ext,⟨?_,?_,?_,?_,?_⟩,⟨fun b o c=>by rw[mT c];trivial,fun b b' o o' c _ d=>(no c d).elim,fun b o c=>by rw[mT c];trivial,a.rel.bR,a.rel.dS,a.rel.gV⟩,?_,?_⟩,z,trivial⟩
 ·rintro b _ ⟨fz,t,h⟩;cases mT h
 ·rintro b _ ⟨fz,t,h⟩;cases mT h
 ·rintro b _ ⟨B,h,g⟩;rw[mT h]at g;exact g.elim
 ·intro b ar ai k es _ h;cases mT h
 ·rintro b _ ⟨L,h⟩;cases mT h
 ·rintro x ⟨o,l,_⟩;have u:=(a3.1 l).1;exact⟨.dead,by rw[sQ,a6,if_pos u],trivial⟩
 ·intro b s;obtain⟨L,q⟩:=a.loop b s;cases mT q
theorem b9.cW{f:ap}{H H':Heap}{args:List AV}{v v':PV}(h:b9 P f H args H' (.p v))(k:Wk v v'):b9 P f H args H' (.p v'):=by
 refine⟨h.1,fun w aa ah β a i d j=>(h.2 w aa ah β a i d j).mono ?_⟩;rintro e w' ⟨b,aH,aE,rfl,g,c,l⟩;exact⟨b,aH,aE,rfl,g,aA.cW _ _ _ k c,trivial⟩
end
section
variable{P:ax}
def yR(P:ax)(a:List ay)(N:Nat)(Q:AV->Heap->Prop)(e:Tg (a,N,Q) bu)(s:Tg (a,N,Q) St):Prop:=
 (match e with
  | .exit _=>False
  |_=>True)/\∃vs,fu P s a=some vs/\∃H',Q (oneOf vs) H'/\(H'=St.heap s\/(cX N s ⟨[],H'⟩/\aB (aG H') (oneOf vs)))
theorem UK{a:List ay}{N:Nat}{Q:AV->Heap->Prop}{s:St}:yR P a N Q .ret s=∃vs,fu P s a=some vs/\∃H',Q (oneOf vs) H'/\(H'=s.heap\/(cX N s ⟨[],H'⟩/\aB (aG H') (oneOf vs))):=by simp[yR]
theorem Ss{a:List ay}{N:Nat}{Q:AV->Heap->Prop}{s:St}:yR P a N Q .normal s=∃vs,fu P s a=some vs/\∃H',Q (oneOf vs) H'/\(H'=s.heap\/(cX N s ⟨[],H'⟩/\aB (aG H') (oneOf vs))):=by simp[yR]
attribute [simp] UK Ss
end
section
variable{P:ax}
theorem az.heap{f:ap}{vs j:List PV}{v:PV}{H H1:Heap}{args:List AV}(h:az P f vs v)(g:Enters P f)(o:mG H args=some (j,H1))(l:bB j vs:=by first|exact bB.refl _|simp):b9 P f H args H1 (.p v):=by
 refine⟨g,fun w aa ah β x u r q=>?_⟩;obtain⟨b,a,i⟩:=AX o u r q;rcases h.cW l (Wk.refl _)with m|n
 ·intro cs;obtain⟨e,w',k,⟨c,aE,he,m1,m2,m3,m4,m5,m6,m7⟩,aK,s,t⟩:=m.2 w b _ a.rel.bR a.rel.gV i cs;subst he;exact⟨_,w',k,⟨c,β,aE,rfl,a.trans (a.rel.later m1 m2 m3 m4 m5 m6),by simpa[aw]using m7,by simp[aB]⟩,aK,s,t⟩
 ·obtain⟨c,d,_⟩:=n w b _ i;rw[g]at d;cases d
end
section
variable{P:ax}{ag:ap->Bool}
theorem PN{H J:Heap}{x:Nat×Nat}(h:aG H x):aG (H++J) x:=by
 obtain⟨o,a,b⟩:=h;exact⟨o,by rw[List.getElem?_append_left (a3.1 a).1];exact a,b⟩
theorem er.up{S T:Heap}(a:∀x,aG S x->aG T x):∀{h:Heap},er S h->er T h
 |[],_=>trivial
 |_::_,h=>⟨Obj.ux a h.1,er.up a h.2⟩
theorem er.app{H J:Heap}(h:er H H)(a:er (H++J) J):er (H++J) (H++J):=by
 rw[BJ];exact⟨h.up fun _=>PN,a⟩
end
end Go.al
