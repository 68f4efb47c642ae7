import Derived.Test.YtenbmieafgdjaaaGreatDoorThD
/- Parts of a proof. -/
set_option linter.unusedSimpArgs false
set_option linter.unusedVariables false
set_option linter.unusedSectionVars false
open Bool renaming cond_eq_ite->ab, and_eq_true->ac, false_eq_true->am
open Go renaming Operand->an, FuncId->ao, TypeId->ap, Program->ar, ResultVar->av, Value->ax, World->ay
open List renaming mem_map->aT, getElem?_eq_some_iff->a0, map_cons->a1, getElem?_eq_getElem->a3, getElem?_replicate->a4, replicate->a5, rec->a6
open Nat renaming ble->a7, le_refl->a8, pow_succ->a9, beq->bb, mod_lt->be
open Option renaming ite_none_right_eq_some->bi
open Option.some renaming injEq->bk
open Prod.mk renaming injEq->bl
namespace Go.au
set_option linter.unusedSectionVars false
variable[Gl]
inductive RT where
 |lf
 |vl (v:AV)
 |nd (a b c d:RT)
inductive Q4 where|a|b|c|d
def q4(n:Nat):Q4:=match n with
 |0=>.a
 |1=>.b
 |2=>.c
 |_=>.d
def pathOf:Nat->Nat->List Q4
 |0,_=>[]
 |k+1,n=>q4 (n% 4)::pathOf k (n/4)
noncomputable def xk(p:List Q4):RT->AV:=
 a6 (motive:=fun _=>RT->AV) (fun R=>RT.rec (motive:=fun _=>AV) (.p .undef) (fun v=>v) (fun _ _ _ _ _ _ _ _=>.p .undef) R)
  (fun q _ e R=>RT.rec (motive:=fun _=>AV) (.p .undef) (fun _=>.p .undef) (fun a b c d _ _ _ _=>Q4.rec (motive:=fun _=>AV) (e a) (e b) (e c) (e d) q) R) p
noncomputable def FB(v:AV)(p:List Q4):RT->RT:=
 a6 (motive:=fun _=>RT->RT) (fun _=>.vl v)
  (fun q _ e R=>RT.rec (motive:=fun _=>RT)
   (Q4.rec (motive:=fun _=>RT) (.nd (e .lf) .lf .lf .lf) (.nd .lf (e .lf) .lf .lf) (.nd .lf .lf (e .lf) .lf) (.nd .lf .lf .lf (e .lf)) q)
   (fun _=>Q4.rec (motive:=fun _=>RT) (.nd (e .lf) .lf .lf .lf) (.nd .lf (e .lf) .lf .lf) (.nd .lf .lf (e .lf) .lf) (.nd .lf .lf .lf (e .lf)) q)
   (fun a b c d _ _ _ _=>Q4.rec (motive:=fun _=>RT) (.nd (e a) b c d) (.nd a (e b) c d) (.nd a b (e c) d) (.nd a b c (e d)) q) R) p
noncomputable def jX(k:Nat)(R:RT)(n:Nat):AV:=bif a7 (n+1) (4^k)then xk (pathOf k n) R else .p .undef
noncomputable def xK(k:Nat)(R:RT)(n:Nat)(v:AV):RT:=FB v (pathOf k n) R
theorem LK:∀(p:List Q4),xk p .lf=.p .undef
 |[]=>rfl
 |_::_=>rfl
theorem J7(v:AV):∀(p:List Q4)(R:RT),xk p (FB v p R)=v
 |[],_=>rfl
 |x::p,R=>by
  cases R<;>cases x<;>exact J7 v p _
theorem Jh(v:AV):∀(p q:List Q4)(R:RT),p.length=q.length->p≠q->xk p (FB v q R)=xk p R
 |[],[],R,_,h=>(h rfl).elim
 |[],_::_,R,h,_=>by simp at h
 |_::_,[],R,h,_=>by simp at h
 |x::p,y::q,R,h,f=>by
  have g:=fun R(f:p≠q)=>Jh v p q R (by simpa using h) f;have i:=LK p;cases R with
  |nd a b c d=>
   cases x<;>cases y<;>first
    |rfl
    |exact g _ (fun e=>f (by rw[e]))
  |_=>
   cases x<;>cases y<;>first
    |exact i
    |exact(g _ (fun e=>f (by rw[e]))).trans i
theorem BV:∀k n,(pathOf k n).length=k
 |0,_=>rfl
 |k+1,n=>by simp[pathOf,BV k]
theorem aJq{m n:Nat}(a:m<4)(b:n<4)(h:q4 m=q4 n):m=n:=by
 have hc:∀n,n<4->n=0\/n=1\/n=2\/n=3:=by omega
 rcases hc m a with rfl|rfl|rfl|rfl<;>rcases hc n b with rfl|rfl|rfl|rfl<;>simp[q4]at h<;>rfl
theorem J9:∀(k m n:Nat),m<4^k->n<4^k->pathOf k m=pathOf k n->m=n
 |0,m,n,a,b,_=>by simp at a b;omega
 |k+1,m,n,a,b,h=>by
  simp only[pathOf,List.cons.injEq]at h;have c:=aJq (be _ (by omega)) (be _ (by omega)) h.1;have d:=J9 k (m/4) (n/4) (by rw[a9]at a;omega) (by rw[a9]at b;omega) h.2;omega
theorem Np(k n:Nat):jX k .lf n=.p .undef:=by
 simp[jX,LK]
theorem Zc{a b:Nat}(h:a<=b):a7 a b=true:=Nat.ble_eq_true_of_le h
theorem N2{a b:Nat}(h:¬a<=b):a7 a b=false:=by
 cases c:a7 a b
 ·rfl
 ·exact(h (c8 c)).elim
theorem Cs(k:Nat)(R:RT)(d x:Nat)(v:AV)(h:d<4^k):jX k (xK k R d v) x=if x=d then v else jX k R x:=by
 unfold jX xK
 by_cases hx:x+1<=4^k
 ·simp only[Zc hx,cond_true]
  by_cases a:x=d
  ·subst a;rw[J7,if_pos rfl]
  ·rw[if_neg a,Jh _ _ _ _ (by rw[BV,BV]) (fun e=>a (J9 k x d (by omega) h e))]
 ·have:x≠d:=by omega
  simp only[N2 hx,cond_false,this,if_false]
def Rel(k:Nat)(e:Env)(R:RT):Prop:=∀x,aN e x=jX k R x
noncomputable def kU(k:Nat)(d:Option Nat)(v:AV)(R:RT):Option RT:=
 match d with
 |none=>some R
 |some d=>bif a7 (d+1) (4^k)then some (xK k R d v)else none
theorem v8{k:Nat}{d:Option Nat}{v:AV}{R a:RT}{e:Env}(h:kU k d v R=some a)(b:Rel k e R):Rel k (put d v e) a:=by
 unfold kU at h
 split at h
 ·simp only[bk]at h;subst h;exact b
 ·simp only[ab,bi,bk]at h;obtain⟨c,rfl⟩:=h;intro x;rw[Cs _ _ _ _ _ (by have:=c8 c;omega)];simp only[put,aN]
  split
  ·rfl
  ·exact b x
noncomputable def jS(k:Nat)(R:RT):an->AV
 | .tmp t=>jX k R t
 | .const v=>.p (ofConst v)
 | .global g=>.p (Gl.g g)
 | .func f=>.p (.func f [] [])
theorem z8{k:Nat}{R:RT}{e:Env}(a:Rel k e R):jS k R=ev e:=by
 funext o;cases o<;>simp[jS,ev,a _]
def qf(H:Heap)(e:aW):Heap:=
 match e.aK,e.aV with
 |[],[]=>H
 |_,_=>bd H e.aK++e.aV
theorem LY(H:Heap)(e:aW):qf H e=bd H e.aK++e.aV:=by
 unfold qf;split
 ·rename_i a b;simp[a,b,bd]
 ·rfl
structure jO where
 cP:ao->List AV->Heap->Option (AV×Heap)
 cD:ao->List AV->Heap->Option aW
 cY:Nat->Heap->List AV->Option (Heap×AV)
 cI:AV->Nat->Heap->Option Heap
 AL:Nat->List AV->Heap->Option aW
structure jY(P:ar)(B:jO):Prop where
 cP:∀f args H v H',B.cP f args H=some (v,H')->∀K:AV->Heap->Prop,K v H'->gS P false f args H K
 cD:∀f args H e,B.cD f args H=some e->∀K:aW->Prop,K e->gZ P f args H K
 cY:∀b H args H' v,B.cY b H args=some (H',v)->iD P b H args H' v
 cI:∀it b H H',B.cI it b H=some H'->∀K:Heap->Prop,K H'->jP P it b H K
 AL:∀b args H e,B.AL b args H=some e->uk P b args H.length e/\qe H e
section
variable(P:ar)(ag:ao->Bool)(B:jO)(k:Nat)
noncomputable def xI(o:Oper)(R:RT)(H:Heap):Option (RT×Heap):=
 match o.op with
 | .call {callee:=.value f,args,.. }=>match(match jS k R f with
  | .p (.func g fi ca)=>B.cP g (fi.map .p++args.toList.map (jS k R)++ca.map .p) H
  | .func g fi ca=>B.cP g (fi++args.toList.map (jS k R)++ca) H
  | .map b=>match B.cY b H (args.toList.map (jS k R))with
   |some (H',v)=>some (v,H')
   |none=>none
  |_=>none)with
  |some (v,H')=>match kU k o.dst v R with
   |some a=>some (a,H')
   |none=>none
  |none=>none
 |_=>match A2 P ag o (jS k R) H with
  |some e=>match kU k o.dst e.v R with
   |some a=>some (a,qf H e)
   |none=>none
  |none=>none
noncomputable def z6(a:Array Oper)(j:Nat)(R:RT):AV:=
 match(a[j]?).bind (·.dst)with
 |some d=>jX k R d
 |none=>.p (.aG [])
noncomputable def nA(b:Array Oper):List Oper->RT->Heap->Option (RT×Heap)
 |[],R,H=>some (R,H)
 |o::r,R,H=>match o.guard with
  |none=>match xI P ag B k o R H with
   |some (a,H')=>nA b r a H'
   |none=>none
  |some (j,want)=>match z6 k b j R with
   | .p (.bool t)=>match t,want with
    |true,true|false,false=>match xI P ag B k o R H with
     |some (a,H')=>nA b r a H'
     |none=>none
    |_,_=>match kU k o.dst (.p (.aG [])) R with
     |some a=>nA b r a H
     |none=>none
   | .p (.aG [])=>match kU k o.dst (.p (.aG [])) R with
    |some a=>nA b r a H
    |none=>none
   |_=>none
noncomputable def xu(o:Oper)(R:RT)(H:Heap):Option aW:=
 match o.op with
 | .call {callee:=.value f,args,.. }=>match jS k R f with
  | .p (.func g fi ca)=>B.cD g (fi.map .p++args.toList.map (jS k R)++ca.map .p) H
  | .func g fi ca=>B.cD g (fi++args.toList.map (jS k R)++ca) H
  | .map b=>B.AL b (args.toList.map (jS k R)) H
  |_=>none
 |_=>A2 P ag o (jS k R) H
noncomputable def ng(b:Array Oper):List Oper->Nat->List Touch->RT->Heap->Option (RT×Heap)
 |[],_,acc,R,H=>bif kg b acc then some (R,H)else none
 |o::r,i,acc,R,H=>match o.guard with
  |none=>match xu P ag B k o R H with
   |some e=>match kU k o.dst e.v R with
    |some a=>ng b r (i+1) (gT i H.length e acc) a (qf H e)
    |none=>none
   |none=>none
  |some (j,want)=>match z6 k b j R with
   | .p (.bool t)=>match t,want with
    |true,true|false,false=>match xu P ag B k o R H with
     |some e=>match kU k o.dst e.v R with
      |some a=>ng b r (i+1) (gT i H.length e acc) a (qf H e)
      |none=>none
     |none=>none
    |_,_=>match kU k o.dst (.p (.aG [])) R with
     |some a=>ng b r (i+1) acc a H
     |none=>none
   | .p (.aG [])=>match kU k o.dst (.p (.aG [])) R with
    |some a=>ng b r (i+1) acc a H
    |none=>none
   |_=>none
abbrev Out:=Option (bC×RT×Heap)
def xi(f:RT->Heap->Out):Nat->RT->Heap->Out
 |0,_,_=>none
 |n+1,R,H=>match f R H with
  |some (.normal,a,H')=>xi f n a H'
  |r=>r
noncomputable def uM(k:Nat)(R:RT):Nat->Env
 |0=>[]
 |n+1=>(n,jX k R n)::uM k R n
def X9:Nat:=100000
def An(j:Option Code):Option bC:=
 match j with
 |none=>some .normal
 |some (.exit id)=>some (.exit id)
 |some .ret=>some .ret
 |_=>none
def Fy(b:Nat)(R:RT)(H:Heap):Out:=
 match H[b]? with
 |some (.loop L)=>match L.st with
  | .busy=>none
  |_=>match An L.pending with
   |some e=>some (e,R,H.set b (.loop {L with st:=.exhausted}))
   |none=>none
 |_=>none
noncomputable def gY(q:Cx):Code->RT->Heap->Out
 | .skip,R,H| .label _,R,H=>some (.normal,R,H)
 | .region _ ops draw,R,H=>bif draw then match ng P ag B k ops ops.toList 0 [] R H with
   |some (d,H')=>some (.normal,d,H')
   |none=>none
  else match nA P ag B k ops ops.toList R H with
   |some (d,H')=>some (.normal,d,H')
   |none=>none
 | .seq a b,R,H=>match gY q a R H with
  |some (.normal,d,H')=>gY q b d H'
  |r=>r
 | .cond c a b,R,H=>match jS k R c with
  | .p (.bool t)=>match t with
   |true=>gY q a R H
   |false=>gY q b R H
  |_=>none
 | .block id b,R,H=>match gY q b R H with
  |some (.exit i,d,H')=>bif bb i id then some (.normal,d,H')else some (.exit i,d,H')
  |r=>r
 | .scope b,R,H=>gY q b R H
 | .loop b,R,H=>xi (fun R H=>gY q b R H) X9 R H
 | .rangeFunc f e a b,R,H=>bif a7 q.2 H.length&&a7 q.1 (4^k)then match B.cI (jS k R f) H.length (H++[.loop ⟨.ready,none,q.1,e.toList,a,b,uM k R (4^k)⟩])with
   |some H'=>Fy H.length R H'
   |none=>none
  else none
 | .exit id,R,H=>some (.exit id,R,H)
 | .ret,R,H=>some (.ret,R,H)
 |_,_,_=>none
end
section
variable{P:ar}{ag:ao->Bool}{B:jO}{k:Nat}
theorem La(e:aW)(dst:Option Tmp)(env:Env)(H:Heap):e.app dst ⟨env,H⟩=⟨put dst e.v env,qf H e⟩:=by
 simp[aW.app,LY]
theorem aIO(b:jY P B){o:Oper}{R i:RT}{H H':Heap}{env:Env}(h:xI P ag B k o R H=some (i,H'))(g:Rel k env R):
 ∃j,Rel k j i/\∀K:St->Prop,K ⟨j,H'⟩->jG P ag false o K ⟨env,H⟩:=by
 unfold xI at h;unfold jG;rw[z8 g]at h
 split at h
 ·rename_i f args n c
  split at h
  case h_2=>simp at h
  rename_i v l hc
  split at h
  case h_2=>simp at h
  rename_i m d;simp only[bk,bl]at h;obtain⟨rfl,rfl⟩:=h;refine⟨_,v8 d g,fun K a=>?_⟩;simp only[c]
  split at hc
  ·rename_i hf;simp only[hf];exact b.cP _ _ _ _ _ hc _ a
  ·rename_i hf;simp only[hf];exact b.cP _ _ _ _ _ hc _ a
  ·rename_i hf
   split at hc
   ·rename_i l s r;simp only[bk,bl]at hc;obtain⟨rfl,rfl⟩:=hc;simp only[hf];exact⟨_,_,b.cY _ _ _ _ _ r,a⟩
   ·simp at hc
  ·simp at hc
 ·rename_i q
  split at h
  case h_2=>simp at h
  rename_i e p
  split at h
  case h_2=>simp at h
  rename_i m d;simp only[bk,bl]at h;obtain⟨rfl,rfl⟩:=h;refine⟨_,v8 d g,fun K a=>?_⟩
  split
  ·rename_i f args n c;exact(q _ _ _ c).elim
  ·exact OW p (by rw[La];exact a)
theorem Lb{a:Array Oper}{j:Nat}{R:RT}{env:Env}(b:Rel k env R):z6 k a j R=guardOf a j env:=by
 unfold z6 guardOf;split
 ·rename_i h;simp only[h];exact(b _).symm
 ·rename_i h;simp only[h]
theorem Dy(f:jY P B){c:Array Oper}:∀{l:List Oper}{R a:RT}{H H':Heap}{env:Env},nA P ag B k c l R H=some (a,H')->Rel k env R->
 ∃b,Rel k b a/\∀K:St->Prop,K ⟨b,H'⟩->gU P ag false c l K ⟨env,H⟩
 |[],R,a,H,H',env,h,d=>by
  simp only[nA,bk,bl]at h;obtain⟨rfl,rfl⟩:=h;exact⟨env,d,fun K g=>g⟩
 |o::l,R,a,H,H',env,h,d=>by
  have run:(match xI P ag B k o R H with
    |some (a,H')=>nA P ag B k c l a H'
    |none=>none)=some (a,H')->∃b,Rel k b a/\∀K:St->Prop,K ⟨b,H'⟩->jG P ag false o (gU P ag false c l K) ⟨env,H⟩:=by
   intro h
   split at h
   case h_2=>simp at h
   rename_i n H1 e;obtain⟨w,q,a2⟩:=aIO f e d;obtain⟨u,r,s⟩:=Dy f h q;exact⟨u,r,fun K g=>a2 _ (s K g)⟩
  have skip:(match kU k o.dst (.p (.aG [])) R with
    |some a=>nA P ag B k c l a H
    |none=>none)=some (a,H')->∃b,Rel k b a/\∀K:St->Prop,K ⟨b,H'⟩->gU P ag false c l K ⟨put o.dst (.p (.aG [])) env,H⟩:=by
   intro h
   split at h
   case h_2=>simp at h
   rename_i n e;exact Dy f h (v8 e d)
  simp only[nA]at h;simp only[gU]
  split at h
  ·rename_i i;simp only[i];exact run h
  ·rename_i j v i;simp only[i];rw[Lb d]at h
   split at h
   ·rename_i t m;simp only[m];cases t<;>cases v
    ·simpa using run h
    ·simpa using skip h
    ·simpa using skip h
    ·simpa using run h
   ·rename_i m;simp only[m];exact skip h
   ·simp at h
theorem aob(b:jY P B){o:Oper}{R:RT}{H:Heap}{e:aW}{env:Env}(h:xu P ag B k o R H=some e)(l:Rel k env R)(K:aW->Prop)(a:K e):jq P ag o ⟨env,H⟩ K:=by
 unfold xu at h;unfold jq;rw[z8 l]at h
 split at h
 ·rename_i f args d c;simp only[c]
  split at h
  ·rename_i hf;simp only[hf];exact b.cD _ _ _ _ h _ a
  ·rename_i hf;simp only[hf];exact b.cD _ _ _ _ h _ a
  ·rename_i hf;simp only[hf];obtain⟨g,i⟩:=b.AL _ _ _ _ h;exact⟨e,g,i,a⟩
  ·simp at h
 ·rename_i j
  split
  ·rename_i f args d c;exact(j _ _ _ c).elim
  ·exact OW h a
theorem C1(m:jY P B){f:Array Oper}:∀{l:List Oper}{i:Nat}{b:List Touch}{R a:RT}{H H':Heap}{env:Env},ng P ag B k f l i b R H=some (a,H')->Rel k env R->
 ∃c,Rel k c a/\∀K:St->Prop,K ⟨c,H'⟩->gq P ag f l i b K ⟨env,H⟩
 |[],i,b,R,a,H,H',env,h,d=>by
  simp only[ng,ab,bi,bk,bl]at h;obtain⟨g,rfl,rfl⟩:=h;exact⟨env,d,fun K n=>⟨g,n⟩⟩
 |o::l,i,b,R,a,H,H',env,h,d=>by
  have run:(match xu P ag B k o R H with
    |some e=>match kU k o.dst e.v R with
     |some a=>ng P ag B k f l (i+1) (gT i H.length e b) a (qf H e)
     |none=>none
    |none=>none)=some (a,H')->∃c,Rel k c a/\∀K:St->Prop,K ⟨c,H'⟩->jq P ag o ⟨env,H⟩ (fun e=>gq P ag f l (i+1) (gT i H.length e b) K (e.app o.dst ⟨env,H⟩)):=by
   intro h
   split at h
   case h_2=>simp at h
   rename_i e y
   split at h
   case h_2=>simp at h
   rename_i s g;obtain⟨x,u,w⟩:=C1 m h (v8 g d);exact⟨x,u,fun K n=>aob m y d _ (by rw[La];exact w K n)⟩
  have skip:(match kU k o.dst (.p (.aG [])) R with
    |some a=>ng P ag B k f l (i+1) b a H
    |none=>none)=some (a,H')->∃c,Rel k c a/\∀K:St->Prop,K ⟨c,H'⟩->gq P ag f l (i+1) b K ⟨put o.dst (.p (.aG [])) env,H⟩:=by
   intro h
   split at h
   case h_2=>simp at h
   rename_i s g;exact C1 m h (v8 g d)
  simp only[ng]at h;simp only[gq]
  split at h
  ·rename_i q;simp only[q];exact run h
  ·rename_i j z q;simp only[q];rw[Lb d]at h
   split at h
   ·rename_i t r;simp only[r];cases t<;>cases z
    ·simpa using run h
    ·simpa using skip h
    ·simpa using skip h
    ·simpa using run h
   ·rename_i r;simp only[r];exact skip h
   ·simp at h
theorem L7(R:RT):∀(n:Nat),∀x,aN (uM k R n) x=if x<n then jX k R x else .p .undef
 |0,x=>by simp[uM,aN]
 |n+1,x=>by
  simp only[uM,aN,L7 R n]
  by_cases h:x=n
  ·subst h;simp
  ·simp only[h,if_false]
   by_cases a:x<n
   ·simp[a,Nat.lt_succ_of_lt a]
   ·have:¬x<n+1:=by omega
    simp[a,this]
theorem Ym(k:Nat)(R:RT)(n:Nat)(h:4^k<=n):jX k R n=.p .undef:=by
 unfold jX;rw[N2 (by omega)];rfl
theorem apb{R:RT}{env:Env}(a:Rel k env R):∀x,aN (uM k R (4^k)) x=aN env x:=by
 intro x;rw[L7,a]
 split
 ·rfl
 ·rw[Ym k R x (by omega)]
theorem Ye{j:Option Code}{e:bC}(h:An j=some e)(Q:bC->St->Prop)(s:St)(hq:Q e s):kr Q j s:=by
 unfold An at h;unfold kr
 split at h<;>simp at h<;>subst h<;>exact hq
theorem YC{b:Nat}{R a:RT}{H H':Heap}{e:bC}{env:Env}(h:Fy b R H=some (e,a,H')):a=R/\∀Q:bC->St->Prop,Q e ⟨env,H'⟩->iZ b env Q H:=by
 unfold Fy at h
 split at h
 case h_2=>simp at h
 rename_i L c
 have go:(match An L.pending with
   |some e=>some (e,R,H.set b (.loop {L with st:=.exhausted}))
   |none=>none)=some (e,a,H')->L.st≠.busy->a=R/\∀Q:bC->St->Prop,Q e ⟨env,H'⟩->iZ b env Q H:=by
  intro h aH
  split at h
  case h_2=>simp at h
  rename_i e' d;simp only[bk,bl]at h;obtain⟨rfl,rfl,rfl⟩:=h;exact⟨rfl,fun Q hq=>by unfold iZ;simp only[c];exact⟨aH,Ye d Q _ hq⟩⟩
 split at h
 ·simp at h
 ·rename_i aH;exact go h aH
theorem WG{q:Cx}{b:Code}{Q:bC->St->Prop}{s s':St}(f:∀c:bC->St->Prop,c .normal s'->cg P ag q b c s)(d:cg P ag q (.loop b) Q s'):cg P ag q (.loop b) Q s:=by
 simp only[cg]at d⊢;obtain⟨I,⟨a,t0,hf,hI⟩,g⟩:=d;refine⟨fun n t=>I n t\/(n=a+1/\t=s),⟨a+1,s,.inl rfl,.inr ⟨rfl,rfl⟩⟩,?_⟩;rintro n t (h|⟨rfl,rfl⟩)
 ·obtain⟨e,u,k1,k2⟩:=nK b t _ (g n t h);refine k2 _ ?_;cases e with
  |normal=>
   obtain⟨m,i,g1,g2,g3⟩:=k1;exact⟨m,i,g1,g2,.inl g3⟩
  |exit id=>exact k1
  |ret=>exact k1
 ·exact f _ ⟨a,t0,Nat.lt_succ_self _,hf,.inl hI⟩
theorem WE{q:Cx}{b:Code}{Q:bC->St->Prop}{s s':St}{e:bC}(f:e≠.normal)(d:∀a:bC->St->Prop,a e s'->cg P ag q b a s)(c:Q e s'):cg P ag q (.loop b) Q s:=by
 simp only[cg];refine⟨fun n t=>n=0/\t=s,⟨0,s,.inl rfl,rfl,rfl⟩,?_⟩;rintro n t ⟨rfl,rfl⟩;refine d _ ?_;cases e with
 |normal=>exact(f rfl).elim
 |exit id=>exact c
 |ret=>exact c
theorem Mt{q:Cx}{b:Code}{f:RT->Heap->Out}(hf:∀{R a:RT}{H H':Heap}{e:bC}{env:Env},f R H=some (e,a,H')->Rel k env R->∃c,Rel k c a/\∀Q:bC->St->Prop,Q e ⟨c,H'⟩->cg P ag q b Q ⟨env,H⟩):
 ∀(n:Nat){R a:RT}{H H':Heap}{e:bC}{env:Env},xi f n R H=some (e,a,H')->Rel k env R->∃c,Rel k c a/\∀Q:bC->St->Prop,Q e ⟨c,H'⟩->cg P ag q (.loop b) Q ⟨env,H⟩
 |0,R,a,H,H',e,env,h,g=>by simp[xi]at h
 |n+1,R,a,H,H',e,env,h,g=>by
  simp only[xi]at h
  split at h
  ·rename_i r H1 o;obtain⟨i,d,a2⟩:=hf o g;obtain⟨m,j,l⟩:=Mt hf n h d;exact⟨m,j,fun Q hq=>WG a2 (l Q hq)⟩
  ·rename_i p;obtain⟨i,d,a2⟩:=hf h g;refine⟨i,d,fun Q hq=>WE ?_ a2 hq⟩;rintro rfl;exact p _ _ h
theorem lB(m:jY P B){q:Cx}:∀{c:Code}{R l:RT}{H H':Heap}{e:bC}{env:Env},gY P ag B k q c R H=some (e,l,H')->Rel k env R->
 ∃r,Rel k r l/\∀Q:bC->St->Prop,Q e ⟨r,H'⟩->cg P ag q c Q ⟨env,H⟩
 | .skip,R,l,H,H',e,env,h,d| .label _,R,l,H,H',e,env,h,d| .exit _,R,l,H,H',e,env,h,d| .ret,R,l,H,H',e,env,h,d=>by
  simp only[gY,bk,bl]at h;obtain⟨rfl,rfl,rfl⟩:=h;exact⟨env,d,fun Q hq=>hq⟩
 | .region id ops draw,R,l,H,H',e,env,h,d=>by
  simp only[gY]at h;cases draw
  ·simp only[cond_false]at h
   split at h
   case h_2=>simp at h
   rename_i o H1 n;simp only[bk,bl]at h;obtain⟨rfl,rfl,rfl⟩:=h;obtain⟨j,g,a2⟩:=Dy m n d;exact⟨j,g,fun Q hq=>by simp only[cg];exact a2 _ hq⟩
  ·simp only[cond_true]at h
   split at h
   case h_2=>simp at h
   rename_i o H1 n;simp only[bk,bl]at h;obtain⟨rfl,rfl,rfl⟩:=h;obtain⟨j,g,a2⟩:=C1 m n d;exact⟨j,g,fun Q hq=>by simp only[cg,if_true];exact a2 _ hq⟩
 | .seq a b,R,l,H,H',e,env,h,d=>by
  simp only[gY]at h
  split at h
  ·rename_i o H1 n;obtain⟨j,g,a2⟩:=lB m n d;obtain⟨w,u,v⟩:=lB m h g;exact⟨w,u,fun Q hq=>by simp only[cg];exact a2 _ (v Q hq)⟩
  ·rename_i p;obtain⟨j,g,a2⟩:=lB m h d;refine⟨j,g,fun Q hq=>by
    simp only[cg];refine a2 _ ?_;cases e with
    |normal=>exact(p _ _ h).elim
    |exit id=>exact hq
    |ret=>exact hq⟩
 | .cond c a b,R,l,H,H',e,env,h,d=>by
  simp only[gY,z8 d]at h
  split at h
  case h_2=>simp at h
  rename_i t s;cases t
  ·obtain⟨j,g,a2⟩:=lB m h d;exact⟨j,g,fun Q hq=>by simp only[cg,s];exact a2 Q hq⟩
  ·obtain⟨j,g,a2⟩:=lB m h d;exact⟨j,g,fun Q hq=>by simp only[cg,s,if_true];exact a2 Q hq⟩
 | .block id b,R,l,H,H',e,env,h,d=>by
  simp only[gY]at h
  split at h
  ·rename_i i o H1 n;obtain⟨j,g,a2⟩:=lB m n d;cases hi:bb i id
   ·simp only[hi,cond_false,bk,bl]at h;obtain⟨rfl,rfl,rfl⟩:=h;refine⟨j,g,fun Q hq=>by
     simp only[cg];refine a2 _ ?_;have:i≠id:=fun e=>by subst e;simp[Nat.beq_refl]at hi
     simp only[this,if_false];exact hq⟩
   ·simp only[hi,cond_true,bk,bl]at h;obtain⟨rfl,rfl,rfl⟩:=h;refine⟨j,g,fun Q hq=>by
     simp only[cg];refine a2 _ ?_;simp only[dA hi,if_true];exact hq⟩
  ·rename_i p;obtain⟨j,g,a2⟩:=lB m h d;refine⟨j,g,fun Q hq=>by
    simp only[cg];refine a2 _ ?_;cases e with
    |normal=>exact hq
    |exit id=>exact(p _ _ _ h).elim
    |ret=>exact hq⟩
 | .scope b,R,l,H,H',e,env,h,d=>by
  simp only[gY]at h;obtain⟨j,g,a2⟩:=lB m h d;exact⟨j,g,fun Q hq=>by simp only[cg];exact a2 Q hq⟩
 | .loop b,R,l,H,H',e,env,h,d=>by
  simp only[gY]at h;exact Mt (fun h d=>lB m h d) _ h d
 | .rangeFunc f z a b,R,l,H,H',e,env,h,d=>by
  simp only[gY,ab,bi,ac]at h;obtain⟨⟨n,y⟩,h⟩:=h
  split at h
  case h_2=>simp at h
  rename_i H1 hI;obtain⟨rfl,x⟩:=YC (env:=env) h;refine⟨env,d,fun Q hq=>?_⟩;simp only[cg];rw[z8 d]at hI;exact⟨c8 n,_,apb d,m.cI _ _ _ _ hI _ (x Q hq)⟩
 | .goto _,_,_,_,_,_,_,h,_=>by simp[gY]at h
 | .refuse _,_,_,_,_,_,_,h,_=>by simp[gY]at h
end
def sF(n:Nat):Nat:=
 match a7 n 16,a7 n 64,a7 n 256,a7 n 1024 with
 |true,_,_,_=>2
 |_,true,_,_=>3
 |_,_,true,_=>4
 |_,_,_,true=>5
 |_,_,_,_=>6
noncomputable def xf(k:Nat):Nat->List AV->RT
 |_,[]=>.lf
 |i,v::r=>xK k (xf k (i+1) r) i v
theorem MG(k:Nat):∀(l:List AV)(i:Nat),i+l.length<=4^k->Rel k (iQ i l) (xf k i l)
 |[],i,_=>fun x=>by simp[iQ,xf,aN,Np]
 |v::r,i,h=>fun x=>by
  simp only[List.length_cons]at h;rw[xf,Cs _ _ _ _ _ (by omega)];simp only[iQ,aN]
  split
  ·rfl
  ·exact MG k r (i+1) (by omega) x
noncomputable def xw(k:Nat):Env->Option RT
 |[]=>some .lf
 |(x,v)::r=>match xw k r with
  |some R=>bif a7 (x+1) (4^k)then some (xK k R x v)else none
  |none=>none
theorem L6(k:Nat):∀{e:Env}{R:RT},xw k e=some R->Rel k e R
 |[],R,h=>by
  simp only[xw,bk]at h;subst h;intro x;simp[aN,Np]
 |(y,v)::r,R,h=>by
  simp only[xw]at h
  split at h
  case h_2=>simp at h
  rename_i c a;simp only[ab,bi,bk]at h;obtain⟨b,rfl⟩:=h;intro x;rw[Cs _ _ _ _ _ (by have:=c8 b;omega)];simp only[aN]
  split
  ·rfl
  ·exact L6 k a x
noncomputable def A7(P:ar)(k:Nat)(R:RT)(H:Heap):List av->Option (List AV)
 |[]=>some []
 |r::rs=>match(match r with
  | .tmp t=>some (jX k R t)
  | .cell a T=>match jX k R a with
   | .ptr b path=>match H[b]? with
    |some (.box _ t)=>match fe t path with
     |some v=>bif sE (kindOf P T) (ad v)then some v else none
     |none=>none
    |_=>none
   |_=>none),A7 P k R H rs with
  |some v,some vs=>some (v::vs)
  |_,_=>none
theorem Nq{P:ar}{k:Nat}{R:RT}{H:Heap}{env:Env}(d:Rel k env R):∀{e:List av}{vs:List AV},A7 P k R H e=some vs->fK P ⟨env,H⟩ e=some vs
 |[],vs,h=>h
 |r::e,vs,h=>by
  simp only[A7]at h
  split at h
  case h_2=>simp at h
  rename_i v o c f;simp only[bk]at h;subst h;have g:pT P ⟨env,H⟩ r=some v:=by
   cases r with
   |tmp t=>simp only[pT];rw[d];exact c
   |cell a T=>
    simp only[pT];dsimp only at c;rw[<-d]at c
    split at c
    case h_2=>simp at c
    rename_i b n j
    split at c
    case h_2=>simp at c
    rename_i fz t l
    split at c
    case h_2=>simp at c
    rename_i u m;simp only[ab,bi,bk]at c;obtain⟨i,rfl⟩:=c;rw[j];simp only[l,m,(iR i).1,if_true]
  simp only[fK,g,Nq d f]
section
variable(P:ar)(ag:ao->Bool)
noncomputable def Ar(B:jO)(fn:Func)(args:List AV)(N:Nat)(H:Heap):Option (AV×Heap):=
 bif a7 args.length fn.ntmps&&a7 fn.ntmps (4^sF fn.ntmps)then
  match gY P ag B (sF fn.ntmps) (fn.ntmps,N) (fn.body.getD .skip) (xf (sF fn.ntmps) 0 args) H with
  |some (.exit _,_,_)=>none
  |some (_,R,H')=>match A7 P (sF fn.ntmps) R H' fn.results.toList with
   |some vs=>some (oneOf vs,H')
   |none=>none
  |none=>none
 else none
structure mC where
 sP:ao->Option Func
 AQ:ao->List PV->Option PV
 AR:ao->List AV->Heap->Option (AV×Heap)
 jW:ao->ao->Nat
 uO:ao->List AV->Heap->Option (List (Nat×Obj)×PV)
noncomputable def oO(pl:mC)(B:ao->jO)(f:ao)(vs:List PV):Option PV:=
 match pl.AQ f vs with
 |some v=>some v
 |none=>match pl.sP f with
  |some fn=>match Ar P ag (B f) fn (vs.map .p) 0 []with
   |some (v,H)=>et H 9 v
   |none=>none
  |none=>none
noncomputable def oM(pl:mC)(B:ao->jO)(f:ao)(args:List AV)(H:Heap):Option (AV×Heap):=
 match pl.AR f args H with
 |some r=>some r
 |none=>match pl.sP f with
  |some fn=>Ar P ag (B f) fn args H.length H
  |none=>none
noncomputable def zX(B:jO)(b:Nat)(H:Heap)(args:List AV):Option (Heap×AV):=
 match H[b]? with
 |some (.loop L)=>bif bb args.length L.params.length&&(L.params.all (fun x=>decide (x<L.n))&&codeOk fit L.n L.assign&&codeOk fit L.n L.body)then
  match xw (sF L.n) (rz L.params args L.env)with
  |some R=>match gY P ag B (sF L.n) (L.n,H.length) L.assign R H with
   |some (.normal,f,H1)=>match H1[b]? with
    |some (.loop c)=>match c.st with
     | .ready=>match gY P ag B (sF L.n) (L.n,H.length) L.body f (H1.set b (.loop {c with st:=.busy}))with
      |some (e,_,a)=>match a[b]? with
       |some (.loop d)=>some (a.set b (.loop {d with st:=if(gR e).isNone then .ready else .done,pending:=gR e}),.p (.bool (gR e).isNone))
       |_=>none
      |none=>none
     |_=>none
    |_=>none
   |_=>none
  |none=>none
  else none
 |_=>none
noncomputable def ES(pl:mC)(B:ao->jO)(it:AV)(b:Nat)(H:Heap):Option Heap:=
 match it with
 | .p (.func g fi ca)=>match oM P ag pl B g (fi.map .p++[.map b]++ca.map .p) H with
  |some (_,H')=>some H'
  |none=>none
 | .func g fi ca=>match oM P ag pl B g (fi++[.map b]++ca) H with
  |some (_,H')=>some H'
  |none=>none
 |_=>none
noncomputable def Ew(pl:mC)(B:ao->jO)(c f:ao)(args:List AV)(H:Heap):Option (AV×Heap):=
 match pl.uO f args H with
 |some (_,v)=>some (.p v,H)
 |none=>match pl.jW c f with
 |0=>match dO args with
  |some vs=>match oO P ag pl B f vs with
   |some v=>some (.p v,H)
   |none=>none
  |none=>oM P ag pl B f args H
 |1=>oM P ag pl B f args H
 |3=>match xc (oM P ag pl B f) args H with
  |some e=>some (e.v,qf H e)
  |none=>none
 |_=>match nB H args with
  |some (vs,H1)=>match oO P ag pl B f vs with
   |some v=>some (.p v,H1)
   |none=>none
  |none=>none
noncomputable def Ev(pl:mC)(B:ao->jO)(c f:ao)(args:List AV)(H:Heap):Option aW:=
 match pl.uO f args H with
 |some (ak,v)=>some {v:=.p v,ak}
 |none=>match pl.jW c f with
 |3=>xc (oM P ag pl B f) args H
 |_=>match dO args with
 |some vs=>match oO P ag pl B f vs with
  |some v=>some {v:=.p v}
  |none=>none
 |none=>match oh H args with
  |some (vs,bs)=>match lD H bs with
   |some (ak,aK)=>match oO P ag pl B f vs with
    |some v=>some {v:=.p v,ak,aK}
    |none=>none
   |none=>none
  |none=>xc (oM P ag pl B f) args H
def tZ:jO:=⟨fun _ _ _=>none,fun _ _ _=>none,fun _ _ _=>none,fun _ _ _=>none,fun _ _ _=>none⟩
noncomputable def jQ(pl:mC):Nat->ao->jO
 |0,_=>tZ
 |n+1,c=>⟨Ew P ag pl (jQ pl n) c,Ev P ag pl (jQ pl n) c,zX P ag (jQ pl n c),ES P ag pl (jQ pl n),Dt (zX P ag (jQ pl n c))⟩
end
structure mV(P:ar)(pl:mC):Prop where
 mix:P.follows .mixedOrders=true
 sP:∀f fn,pl.sP f=some fn->aw P f fn
 AQ:∀f vs v,pl.AQ f vs=some v->aC P f vs v
 AR:∀f args H v H',pl.AR f args H=some (v,H')->cw P f H args H' v
 uO:∀f args H ak v,pl.uO f args H=some (ak,v)->Ef P f args ak v/\∀p∈ak,H[p.1]?=some p.2
section
variable{P:ar}{ag:ao->Bool}{B1:jO}{B:ao->jO}{pl:mC}
theorem LV(f:jY P B1){fn:Func}{args:List AV}{N:Nat}{H H':Heap}{v:AV}(h:Ar P ag B1 fn args N H=some (v,H')):
 args.length<=fn.ntmps/\∃e a vs,(match e with
  |bC.exit _=>False
  |_=>True)/\fK P ⟨a,H'⟩ fn.results.toList=some vs/\oneOf vs=v/\∀Q:bC->St->Prop,Q e ⟨a,H'⟩->cg P ag (fn.ntmps,N) (fn.body.getD .skip) Q ⟨iQ 0 args,H⟩:=by
 unfold Ar at h;simp only[ab,bi,ac]at h;obtain⟨⟨b,c⟩,h⟩:=h;have b:=c8 b;have c:=c8 c;refine⟨b,?_⟩
 split at h
 ·simp at h
 ·rename_i e R k g hc
  split at h
  case h_2=>simp at h
  rename_i vs j;simp only[bk,bl]at h;obtain⟨rfl,rfl⟩:=h;obtain⟨a,d,a2⟩:=lB f hc (MG _ args 0 (by omega));refine⟨e,a,vs,?_,Nq d j,rfl,a2⟩;cases e with
  |exit i=>exact g i rfl
  |_=>trivial
 ·simp at h
theorem wx(a:mV P pl)(j:∀c,jY P (B c)){f:ao}{vs:List PV}{v:PV}(h:oO P ag pl B f vs=some v):aC P f vs v:=by
 unfold oO at h
 split at h
 ·rename_i v' hk;simp only[bk]at h;subst h;exact a.AQ _ _ _ hk
 ·split at h
  case h_2=>simp at h
  rename_i fn hf
  split at h
  case h_2=>simp at h
  rename_i v' H' k;obtain⟨b,e,m,l,d,g,rfl,i⟩:=LV (j _) k;exact uN ag (a.sP _ _ hf) a.mix (by simpa using b) (i _ ⟨d,l,g,h⟩)
theorem qZ(a:mV P pl)(j:∀c,jY P (B c)){f:ao}{args:List AV}{H H':Heap}{v:AV}(h:oM P ag pl B f args H=some (v,H')):cw P f H args H' v:=by
 unfold oM at h
 split at h
 ·rename_i r hk;simp only[bk]at h;subst h;exact a.AR _ _ _ _ _ hk
 ·split at h
  case h_2=>simp at h
  rename_i fn hf;obtain⟨b,e,l,k,d,g,rfl,i⟩:=LV (j _) h;exact Qj ag (a.sP _ _ hf) a.mix b (i _ ⟨d,k,g,rfl,.inl rfl⟩)
theorem K7{args:List AV}{vs:List PV}(h:dO args=some vs):args=vs.map .p:=lC h
theorem Y1(b:mV P pl)(d:∀c,jY P (B c)){c f:ao}{args:List AV}{H H':Heap}{v:AV}(h:Ew P ag pl B c f args H=some (v,H'))(K:AV->Heap->Prop)(a:K v H'):gS P false f args H K:=by
 unfold Ew at h
 split at h
 ·rename_i ak v' hx;simp only[bk,bl]at h;obtain⟨rfl,rfl⟩:=h;obtain⟨i,j⟩:=b.uO _ _ _ _ _ hx;exact .inr ⟨rfl,.inr (.inr (.inr ⟨ak,v',i,j,a⟩))⟩
 split at h
 ·split at h
  ·rename_i vs m
   split at h
   case h_2=>simp at h
   rename_i v' g;simp only[bk,bl]at h;obtain⟨rfl,rfl⟩:=h;exact .inl ⟨vs,v',K7 m,wx b d g,a⟩
  ·exact .inr ⟨rfl,.inr (.inl ⟨H',v,qZ b d h,a⟩)⟩
 ·exact .inr ⟨rfl,.inr (.inl ⟨H',v,qZ b d h,a⟩)⟩
 ·split at h
  case h_2=>simp at h
  rename_i e k;simp only[bk,bl]at h;obtain⟨rfl,rfl⟩:=h;obtain⟨i,j⟩:=CH (fun args H v H' g=>qZ b d g) k;exact .inr ⟨rfl,.inr (.inr (.inl ⟨e,i,j,by rw[<-LY];exact a⟩))⟩
 ·split at h
  case h_2=>simp at h
  rename_i vs H1 l
  split at h
  case h_2=>simp at h
  rename_i v' g;simp only[bk,bl]at h;obtain⟨rfl,rfl⟩:=h;exact .inr ⟨rfl,.inl ⟨vs,H1,v',l,wx b d g,a⟩⟩
theorem Y2(i:mV P pl)(j:∀c,jY P (B c)){c f:ao}{args:List AV}{H:Heap}{e:aW}(h:Ev P ag pl B c f args H=some e)(K:aW->Prop)(g:K e):gZ P f args H K:=by
 unfold Ev at h
 split at h
 ·rename_i ak v' hx;simp only[bk]at h;subst h;obtain⟨b,d⟩:=i.uO _ _ _ _ _ hx;exact .inr (.inr (.inr ⟨ak,v',b,d,g⟩))
 split at h
 ·obtain⟨b,d⟩:=CH (fun args H v H' a=>qZ i j a) h;exact .inr (.inr (.inl ⟨e,b,d,g⟩))
 split at h
 ·rename_i vs m
  split at h
  case h_2=>simp at h
  rename_i v' a;simp only[bk]at h;subst h;exact .inl ⟨vs,v',K7 m,wx i j a,g⟩
 ·split at h
  case h_2=>
   obtain⟨b,d⟩:=CH (fun args H v H' a=>qZ i j a) h;exact .inr (.inr (.inl ⟨e,b,d,g⟩))
  rename_i vs bs l
  split at h
  case h_2=>simp at h
  rename_i ak aK k
  split at h
  case h_2=>simp at h
  rename_i v' a;simp only[bk]at h;subst h;exact .inr (.inl ⟨vs,bs,ak,aK,v',l,k,wx i j a,g⟩)
theorem KM(o:mV P pl)(a:jY P B1){b:Nat}{H H':Heap}{args:List AV}{v:AV}(h:zX P ag B1 b H args=some (H',v)):iD P b H args H' v:=by
 unfold zX at h
 split at h
 case h_2=>simp at h
 rename_i L i;simp only[ab,bi,ac]at h;obtain⟨⟨f,g⟩,h⟩:=h
 split at h
 case h_2=>simp at h
 rename_i R l
 split at h
 case h_2=>simp at h
 rename_i s H1 m
 split at h
 case h_2=>simp at h
 rename_i q j
 split at h
 case h_2=>simp at h
 rename_i aH
 split at h
 case h_2=>simp at h
 rename_i e t p n
 split at h
 case h_2=>simp at h
 rename_i r k;simp only[bk,bl]at h;obtain⟨rfl,rfl⟩:=h;obtain⟨w,c,a2⟩:=lB a m (L6 _ l);obtain⟨x,u,d⟩:=lB a n c;refine Qk ag o.mix i (dA f) (by simpa only[ac]using g) ?_;unfold zn;refine a2 _ ?_;simp only[yF,j];refine⟨aH,d _ ?_⟩;simp only[tK,k];exact⟨trivial,.inl rfl⟩
theorem Yf(g:mV P pl)(e:∀c,jY P (B c)){it:AV}{b:Nat}{H H':Heap}(h:ES P ag pl B it b H=some H')(K:Heap->Prop)(f:K H'):jP P it b H K:=by
 unfold ES at h
 split at h
 ·split at h
  case h_2=>simp at h
  rename_i v a d;simp only[bk]at h;subst h;exact⟨a,v,qZ g e d,f⟩
 ·split at h
  case h_2=>simp at h
  rename_i v a d;simp only[bk]at h;subst h;exact⟨a,v,qZ g e d,f⟩
 ·simp at h
theorem tH(a:mV P pl):∀n c,jY P (jQ P ag pl n c)
 |0,_=>⟨fun _ _ _ _ _ h=>by simp[jQ,tZ]at h,fun _ _ _ _ h=>by simp[jQ,tZ]at h,fun _ _ _ _ _ h=>by simp[jQ,tZ]at h,fun _ _ _ _ h=>by simp[jQ,tZ]at h,fun _ _ _ _ h=>by simp[jQ,tZ]at h⟩
 |n+1,c=>⟨fun _ _ _ _ _ h=>Y1 a (tH a n) h,fun _ _ _ _ h=>Y2 a (tH a n) h,fun _ _ _ _ _ h=>KM a (tH a n c) h,fun _ _ _ _ h=>Yf a (tH a n) h,fun _ _ _ _ h=>VV (fun _ _ _ _ _ b=>KM a (tH a n c) b) h⟩
theorem reckon{f:ao}{vs:List PV}{v:PV}(n:Nat)(a:mV P pl)(h:oO P ag pl (jQ P ag pl n) f vs=some v):aC P f vs v:=wx a (tH a n) h
end
section
variable{P:ar}{ag:ao->Bool}
theorem aC.dd{f:ao}{args d:List PV}{v v':PV}(h:aC P f args v)(g:bG d args)(i:Wk v v'):aC P f d v':=by
 rcases h with h|h
 ·refine .inl ⟨h.1,fun w aa a j k c=>(h.2 w aa a j k (bt.dd _ _ _ g c)).mono ?_⟩;rintro e w' ⟨b,aF,k1,k2,k3,k4,k5,k6,l,k7⟩;exact⟨b,aF,k1,k2,k3,k4,k5,k6,l,aD.dd _ _ _ i k7⟩
 ·refine .inr fun w aa a c=>?_;obtain⟨b,k1,k2⟩:=h w aa a (bt.dd _ _ _ g c);exact⟨b,k1,aD.dd _ _ _ i k2⟩
def Aw(P:ar)(a:List av)(v:PV)(e:bC)(s:St):Prop:=
 (match e with
  | .exit _=>False
  |_=>True)/\∃vs,fK P s a=some vs/\∃v',et s.heap 9 (oneOf vs)=some v'/\Wk v' v
theorem W4{a:List av}{v:PV}{s:St}:Aw P a v .ret s=∃vs,fK P s a=some vs/\∃v',et s.heap 9 (oneOf vs)=some v'/\Wk v' v:=by simp[Aw]
theorem UX{a:List av}{v:PV}{s:St}:Aw P a v .normal s=∃vs,fK P s a=some vs/\∃v',et s.heap 9 (oneOf vs)=some v'/\Wk v' v:=by simp[Aw]
theorem rZ.dd{f:ao}{args a:List PV}{v v':PV}(h:rZ P f args v)(j:bG a args)(k:Wk v v'):rZ P f a v':=by
 refine⟨h.1,fun w aa b d g i=>(h.2 w aa b d g (bt.dd _ _ _ j i)).mono ?_⟩;rintro e w' ⟨c,aF,k1,k2,k3,k4,k5,k6,l,k7⟩;exact⟨c,aF,k1,k2,k3,k4,k5,k6,l,aD.dd _ _ _ k k7⟩
theorem Kb{dst:Option Tmp}{h:Nat}{pos:String}{af:Array Edge}{g:Option (Nat×Bool)}{env:Env}{heap:Heap}{L:St->Prop}{f:ao}{fi ca:Array an}(hf:ag f=false):
 dw P ag ⟨dst,.makeFunc (.func f) fi ca,h,pos,af,g⟩ L ⟨env,heap⟩=bn (rL f (fi.toList.map (ev env)) (ca.toList.map (ev env))) (eD dst ⟨env,heap⟩ L):=by
 simp only[dw,kP,fG,hf,rL,am,if_false]
 split
 ·rename_i c d;simp only[c,d,bn,true_and]
 ·rename_i c
  split
  ·rename_i a b d e;exact(c a b d e).elim
  ·simp only[bn,true_and]
theorem JP{dst:Option Tmp}{h:Nat}{pos:String}{af:Array Edge}{g:Option (Nat×Bool)}{env:Env}{heap:Heap}{K:aW->Prop}{f:ao}{fi ca:Array an}(hf:ag f=false):
 dx P ag ⟨dst,.makeFunc (.func f) fi ca,h,pos,af,g⟩ ⟨env,heap⟩ K=bn (rL f (fi.toList.map (ev env)) (ca.toList.map (ev env))) K:=by
 simp only[dx,kP,fG,hf,rL,am,if_false]
 split
 ·rename_i c d;simp only[c,d,bn,true_and]
 ·rename_i c
  split
  ·rename_i a b d e;exact(c a b d e).elim
  ·simp only[bn,true_and]
section guards
variable{ops:Array Oper}{o:Oper}{r:List Oper}{K:St->Prop}{want t:Bool}{s:St}{i:Nat}{acc:List Touch}
theorem JE:zZ P ag ops o r K want s (.p (.bool t))=if t=want then dw P ag o (gd P ag ops r K) s else gd P ag ops r K ⟨put o.dst (.p (.aG [])) s.env,s.heap⟩:=(rfl)
theorem Kf:zZ P ag ops o r K want s (.p (.aG []))=gd P ag ops r K ⟨put o.dst (.p (.aG [])) s.env,s.heap⟩:=(rfl)
theorem I6:zH P ag ops o r i acc K want s (.p (.bool t))=if t=want then dx P ag o s (xl P ag ops r i acc K o.dst s)else gu P ag ops r (i+1) acc K ⟨put o.dst (.p (.aG [])) s.env,s.heap⟩:=(rfl)
theorem JD:zH P ag ops o r i acc K want s (.p (.aG []))=gu P ag ops r (i+1) acc K ⟨put o.dst (.p (.aG [])) s.env,s.heap⟩:=(rfl)
theorem UU{l:List Oper}{j:Nat}{e:Env}:guardOf l.toArray j e=match(l[j]?).bind (·.dst)with
 |some d=>aN e d
 |none=>.p (.aG []):=by simp only[guardOf,List.getElem?_toArray];cases l[j]?.bind (·.dst)<;>rfl
end guards
section calls
variable{f:ao}{H H1:Heap}{K:AV->Heap->Prop}{L:aW->Prop}{v a b c d e a' b' c' d' e':PV}{dr:Bool}
theorem Z6(h:aC P f [] v)(hk:K (.p v) H):gS P dr f [] H K:=.inl ⟨[],v,rfl,h,hk⟩
theorem Z7(h:aC P f [a'] v)(hk:K (.p v) H)(b:Wk a a':=by first|exact Wk.refl _|simp[Wk,bG]):gS P dr f [.p a] H K:=.inl ⟨[a],v,rfl,h.dd (by simp only[bG];exact⟨b,trivial⟩) (Wk.refl _),hk⟩
theorem Z8(h:aC P f [a',b'] v)(hk:K (.p v) H)(c:Wk a a':=by first|exact Wk.refl _|simp[Wk,bG])(d:Wk b b':=by first|exact Wk.refl _|simp[Wk,bG]):gS P dr f [.p a,.p b] H K:=
 .inl ⟨[a,b],v,rfl,h.dd (by simp only[bG];exact⟨c,d,trivial⟩) (Wk.refl _),hk⟩
theorem Z9(h:aC P f [a',b',c'] v)(hk:K (.p v) H)(d:Wk a a':=by first|exact Wk.refl _|simp[Wk,bG])(e:Wk b b':=by first|exact Wk.refl _|simp[Wk,bG])(g:Wk c c':=by first|exact Wk.refl _|simp[Wk,bG]):gS P dr f [.p a,.p b,.p c] H K:=
 .inl ⟨[a,b,c],v,rfl,h.dd (by simp only[bG];exact⟨d,e,g,trivial⟩) (Wk.refl _),hk⟩
theorem cw4(h:aC P f [a',b',c',d'] v)(hk:K (.p v) H)(e:Wk a a':=by first|exact Wk.refl _|simp[Wk,bG])(g:Wk b b':=by first|exact Wk.refl _|simp[Wk,bG])(i:Wk c c':=by first|exact Wk.refl _|simp[Wk,bG])(j:Wk d d':=by first|exact Wk.refl _|simp[Wk,bG]):gS P dr f [.p a,.p b,.p c,.p d] H K:=
 .inl ⟨[a,b,c,d],v,rfl,h.dd (by simp only[bG];exact⟨e,g,i,j,trivial⟩) (Wk.refl _),hk⟩
theorem cw5(h:aC P f [a',b',c',d',e'] v)(hk:K (.p v) H)(g:Wk a a':=by first|exact Wk.refl _|simp[Wk,bG])(i:Wk b b':=by first|exact Wk.refl _|simp[Wk,bG])(j:Wk c c':=by first|exact Wk.refl _|simp[Wk,bG])(k:Wk d d':=by first|exact Wk.refl _|simp[Wk,bG])(l:Wk e e':=by first|exact Wk.refl _|simp[Wk,bG]):gS P dr f [.p a,.p b,.p c,.p d,.p e] H K:=
 .inl ⟨[a,b,c,d,e],v,rfl,h.dd (by simp only[bG];exact⟨g,i,j,k,l,trivial⟩) (Wk.refl _),hk⟩
theorem ZP(h:aC P f [] v)(hk:L {v:=.p v}):gZ P f [] H L:=.inl ⟨[],v,rfl,h,hk⟩
theorem ZQ(h:aC P f [a'] v)(hk:L {v:=.p v})(b:Wk a a':=by first|exact Wk.refl _|simp[Wk,bG]):gZ P f [.p a] H L:=.inl ⟨[a],v,rfl,h.dd (by simp only[bG];exact⟨b,trivial⟩) (Wk.refl _),hk⟩
theorem ZR(h:aC P f [a',b'] v)(hk:L {v:=.p v})(c:Wk a a':=by first|exact Wk.refl _|simp[Wk,bG])(d:Wk b b':=by first|exact Wk.refl _|simp[Wk,bG]):gZ P f [.p a,.p b] H L:=
 .inl ⟨[a,b],v,rfl,h.dd (by simp only[bG];exact⟨c,d,trivial⟩) (Wk.refl _),hk⟩
theorem ZS(h:aC P f [a',b',c'] v)(hk:L {v:=.p v})(d:Wk a a':=by first|exact Wk.refl _|simp[Wk,bG])(e:Wk b b':=by first|exact Wk.refl _|simp[Wk,bG])(g:Wk c c':=by first|exact Wk.refl _|simp[Wk,bG]):gZ P f [.p a,.p b,.p c] H L:=
 .inl ⟨[a,b,c],v,rfl,h.dd (by simp only[bG];exact⟨d,e,g,trivial⟩) (Wk.refl _),hk⟩
theorem ZT(h:aC P f [a',b',c',d'] v)(hk:L {v:=.p v})(e:Wk a a':=by first|exact Wk.refl _|simp[Wk,bG])(g:Wk b b':=by first|exact Wk.refl _|simp[Wk,bG])(i:Wk c c':=by first|exact Wk.refl _|simp[Wk,bG])(j:Wk d d':=by first|exact Wk.refl _|simp[Wk,bG]):gZ P f [.p a,.p b,.p c,.p d] H L:=
 .inl ⟨[a,b,c,d],v,rfl,h.dd (by simp only[bG];exact⟨e,g,i,j,trivial⟩) (Wk.refl _),hk⟩
theorem ZU(h:aC P f [a',b',c',d',e'] v)(hk:L {v:=.p v})(g:Wk a a':=by first|exact Wk.refl _|simp[Wk,bG])(i:Wk b b':=by first|exact Wk.refl _|simp[Wk,bG])(j:Wk c c':=by first|exact Wk.refl _|simp[Wk,bG])(k:Wk d d':=by first|exact Wk.refl _|simp[Wk,bG])(l:Wk e e':=by first|exact Wk.refl _|simp[Wk,bG]):gZ P f [.p a,.p b,.p c,.p d,.p e] H L:=
 .inl ⟨[a,b,c,d,e],v,rfl,h.dd (by simp only[bG];exact⟨g,i,j,k,l,trivial⟩) (Wk.refl _),hk⟩
theorem cwp{args:List AV}{vs a:List PV}(h:aC P f a v)(c:nB H args=some (vs,H1))(hk:K (.p v) H1)(b:bG vs a:=by first|exact bG.refl _|simp[Wk,bG]):gS P false f args H K:=
 .inr ⟨rfl,.inl ⟨vs,H1,v,c,h.dd b (Wk.refl _),hk⟩⟩
theorem ZW{args:List AV}{vs a:List PV}{bs:List Nat}{ak aK:List (Nat×Obj)}(h:aC P f a v)(c:oh H args=some (vs,bs))(hf:lD H bs=some (ak,aK))(hk:L {v:=.p v,ak,aK})(b:bG vs a:=by first|exact bG.refl _|simp[Wk,bG]):gZ P f args H L:=
 .inr (.inl ⟨vs,bs,ak,aK,v,c,hf,h.dd b (Wk.refl _),hk⟩)
end calls
def KV(T:Heap)(a v:AV):Prop:=a=v\/Gh T a v
theorem Sm{T:Heap}{v:AV}:KV T v v=True:=by simp[KV]
theorem Sk{T:Heap}{b aA ai off len:Nat}:KV T (.p .aP) (.sl b aA ai off len)=(aA=0/\off=0/\len=0/\∃k z,T[b]?=some (.arr k 0 z [])/\k.gr=true):=by simp[KV,Gh,fY]
theorem Sn{T:Heap}{u u':ap}{fs:List PV}{a:List AV}:KV T (.p (.st u fs)) (.st u' a)=(u=u'/\kW T fs a):=by simp[KV,Gh,fY]
def mc(T:Heap)(e:Env):Env->Prop
 |[]=>True
 |(x,v)::r=>KV T (aN e x) v/\mc T e r
def KO(T:Heap)(o:Obj):Obj->Prop
 | .hole=>True
 | .box false v'=>match o with
  | .box false v=>KV T v v'
  |_=>False
 | .arr k aA z es=>(o=.hole/\aA=0/\es=[]/\k.gr=true)\/o=.arr k aA z es
 |o'=>o=o'
def KN:Obj->Prop
 | .hole=>True
 | .arr k aA _ es=>aA=0/\es=[]/\k.gr=true
 |_=>False
def ja(T:Heap):Heap->Heap->Prop
 |_,[]=>True
 |[],o'::t=>KN o'/\ja T [] t
 |o::h,o'::t=>KO T o o'/\ja T h t
theorem mc.get{T:Heap}{e:Env}:∀{t:Env},mc T e t->∀x,aN t x=aN e x\/aN t x=.p .undef\/Gh T (aN e x) (aN t x)
 |[],_,x=>.inr (.inl rfl)
 |(y,v)::t,h,x=>by
  simp only[mc]at h;simp only[aN]
  split
  ·rename_i hx;subst hx;rcases h.1 with h|h
   ·exact .inl h.symm
   ·exact .inr (.inr h)
  ·exact mc.get h.2 x
theorem ja.get{T:Heap}:∀{h t:Heap},ja T h t->∀(b:Nat)(o:Obj),t[b]?=some o->
 o=.hole\/h[b]?=some o\/((h[b]?=none\/h[b]?=some .hole)/\∃k z,o=.arr k 0 z []/\k.gr=true)\/(∃v v',h[b]?=some (.box false v)/\o=.box false v'/\Gh T v v')
 |_,[],_,b,o,c=>by simp at c
 |[],o'::t,hk,b,o,c=>by
  simp only[ja]at hk;cases b with
  |zero=>
   simp at c;subst c;cases o'<;>have a:=hk.1<;>simp only[KN]at a
   ·exact .inl rfl
   ·obtain⟨rfl,rfl,d⟩:=a;exact .inr (.inr (.inl ⟨.inl rfl,_,_,rfl,d⟩))
  |succ b=>simpa using ja.get hk.2 b o (by simpa using c)
 |e::h,o'::t,hk,b,o,c=>by
  simp only[ja]at hk;cases b with
  |zero=>
   simp at c;subst c;have a:=hk.1;cases o' with
   |hole=>exact .inl rfl
   |dead=>simp only[KO]at a;subst a;exact .inr (.inl rfl)
   |map fz es=>simp only[KO]at a;subst a;exact .inr (.inl rfl)
   |dy ks vs=>simp only[KO]at a;subst a;exact .inr (.inl rfl)
   |dC s p=>simp only[KO]at a;subst a;exact .inr (.inl rfl)
   |loop L=>simp only[KO]at a;subst a;exact .inr (.inl rfl)
   |arr k aA z es=>
    simp only[KO]at a;rcases a with⟨rfl,rfl,rfl,d⟩|rfl
    ·exact .inr (.inr (.inl ⟨.inr rfl,_,_,rfl,d⟩))
    ·exact .inr (.inl rfl)
   |box fz v'=>
    cases fz with
    |true=>simp only[KO]at a;subst a;exact .inr (.inl rfl)
    |false=>
     simp only[KO]at a
     split at a
     ·rcases a with rfl|a
      ·exact .inr (.inl rfl)
      ·exact .inr (.inr (.inr ⟨_,_,rfl,rfl,a⟩))
     ·exact a.elim
  |succ b=>simpa using ja.get hk.2 b o (by simpa using c)
theorem dt.og{N:Nat}{s t:St}(d:t.heap.take N=s.heap.take N)(c:mc t.heap s.env t.env)(hh:ja t.heap s.heap t.heap)(e:iS t.heap t.env)(f:eL t.heap t.heap):dt N s t:=by
 refine .inr ⟨⟨c.get,hh.get,e.get,f.get⟩,fun b a=>?_⟩;have:=congrArg (fun l:Heap=>l[b]?) d;simpa[List.getElem?_take,a]using this
theorem N6{T:Heap}{o:Obj}:KO T o o=True:=by
 cases o with
 |box fz v=>cases fz<;>simp[KO,KV]
 |_=>simp[KO]
theorem Si{T:Heap}{o:Obj}:KO T o .hole=True:=by simp[KO]
theorem Sh{T:Heap}{v v':AV}:KO T (.box false v) (.box false v')=KV T v v':=(rfl)
theorem Sj{T:Heap}{k:AK}{aA z:Nat}{a:List AV}:KO T .hole (.arr k aA z a)=(aA=0/\a=[]/\k.gr=true):=by simp[KO]
theorem Sg:KN .hole=True:=(rfl)
theorem Sf{k:AK}{aA z:Nat}{a:List AV}:KN (.arr k aA z a)=(aA=0/\a=[]/\k.gr=true):=(rfl)
theorem Sl{T:Heap}{x y:PV}:KV T (.p x) (.p y)=(x=y):=by
 have:Gh T (.p x) (.p y)↔x=y:=by cases x<;>simp[Gh,fY,eq_comm]
 simp[KV,this]
def vf{α:Type}(N:Nat)(mk:α->St)(ok:α->Prop)(m:α->Nat)(n:Nat)(s:St):Prop:=∃a',m a'<n/\ok a'/\dt N s (mk a')
def rM{α:Type}(N:Nat)(mk:α->St)(ok:α->Prop)(m:α->Nat)(n:Nat)(Q:bC->St->Prop)(e:bC)(s:St):Prop:=
 match e with
 | .normal=>vf N mk ok m n s
 |e=>Q e s
section
variable{α:Type}{N:Nat}{mk:α->St}{ok:α->Prop}{m:α->Nat}{n:Nat}{Q:bC->St->Prop}{s s':St}{q:Cx}
theorem Uz:rM N mk ok m n Q .normal s=vf N mk ok m n s:=(rfl)
theorem VQ{id:Nat}:rM N mk ok m n Q (.exit id) s=Q (.exit id) s:=(rfl)
theorem WI:rM N mk ok m n Q .ret s=Q .ret s:=(rfl)
theorem wl{b:Code}(mk:α->St)(ok:α->Prop)(m:α->Nat)(c:α)(l:ok c)(gX:∀a,ok a->du P ag q b (rM q.2 mk ok m (m a) Q) (mk a))
 (k:(mk c).heap.take q.2=s.heap.take q.2:=by simp)(i:mc (mk c).heap s.env (mk c).env:=by simp)(j:ja (mk c).heap s.heap (mk c).heap:=by simp)(o:iS (mk c).heap (mk c).env:=by simp)(p:eL (mk c).heap (mk c).heap:=by simp):
 du P ag q (.loop b) Q s:=by
 simp only[du];refine⟨fun n t=>∃a,ok a/\t=mk a/\n=m a,⟨m c,mk c,dt.og k i j o p,c,l,rfl,rfl⟩,?_⟩;rintro n t ⟨a,h,rfl,rfl⟩;have:rM q.2 mk ok m (m a) Q=uo q.2 (m a) (fun n t=>∃a,ok a/\t=mk a/\n=m a) Q:=by
  funext e s
  cases e with
  |normal=>
   simp only[rM,uo,vf,eq_iff_iff];constructor
   ·rintro⟨a',d,f,g⟩;exact⟨m a',mk a',d,g,a',f,rfl,rfl⟩
   ·rintro⟨_,_,d,g,a',f,rfl,rfl⟩;exact⟨a',d,f,g⟩
  |exit id=>rfl
  |ret=>rfl
 rw[<-this];exact gX a h
theorem rnd(a':α)(b:ok a')(a:m a'<n:=by omega)(e:(mk a').heap.take N=s.heap.take N:=by simp)(c:mc (mk a').heap s.env (mk a').env:=by simp)(d:ja (mk a').heap s.heap (mk a').heap:=by simp)(f:iS (mk a').heap (mk a').env:=by simp)(g:eL (mk a').heap (mk a').heap:=by simp):
 vf N mk ok m n s:=⟨a',a,b,dt.og e c d f g⟩
end
theorem aO(n:Int)(h:-9223372036854775808<=n)(a:n<=9223372036854775807):IntKind.i64.wrap n=n:=IntWalk.i64_in n ⟨h,a⟩
theorem Bn(a b:Int):(a<b/\¬b<=a)\/(¬a<b/\b<=a):=by omega
theorem cr{i:Nat}(h:i<4611686018427387904):IntKind.i64.wrap ((i:Int)+1)=(i:Int)+1:=aO _ (by omega) (by omega)
attribute [simp] Wk bG aI Obj.has JE Kf I6 JD UU Kb JP rL Uz VQ WI mc ja Sm Sl Sk Sn N6 Si Sh Sj Sg Sf kW fY AK.gr iS eL aE Obj.refs
attribute [simp] W4 UX Wk.refl bG.refl
end
end Go.au
namespace Go.au
variable[Gl]
mutual
def eg:PV->Prop
 | .str s=>∀c∈s,c<256
 | .cE t=>eg t
 | .bP _ es| .seq es| .st _ es| .aG es=>mg es
 |_=>True
def mg:List PV->Prop
 |[]=>True
 |v::vs=>eg v/\mg vs
end
section
variable{P:ar}{w:ay}{aa:Nat->Prop}
theorem LS(bs:ByteArray):∀c∈bs.data.toList.map (·.toNat),c<256:=by
 intro c hc;simp only[aT]at hc;obtain⟨b,_,rfl⟩:=hc;exact UInt8.toNat_lt b
mutual
theorem aR.eg:∀(v:PV)(cs:List ax),aR P w aa v cs->eg v
 | .str s,cs,h=>by simp only[aR]at h;obtain⟨bs,_,rfl⟩:=h;simp only[au.eg];exact LS bs
 | .cE t,cs,h=>by simp only[aR]at h;obtain⟨_,_,ts,a,_⟩:=h;simp only[au.eg];exact aR.eg t ts a
 | .bP f b,cs,h=>by simp only[aR]at h;obtain⟨_,_,_,_,d,a,_⟩:=h;simp only[au.eg];exact bg.eg _ b d a
 | .seq b,cs,h=>by
  simp only[aR]at h;simp only[au.eg];rcases h with⟨rfl,_⟩|⟨_,_,_,_,d,a,_⟩
  ·trivial
  ·exact bg.eg _ b d a
 | .st u b,cs,h=>by simp only[aR]at h;obtain⟨l,d,_,a,_⟩:=h;simp only[au.eg];exact bg.eg _ b d a
 | .aG b,cs,h=>by simp[aR]at h
 | .undef,_,_| .bool _,_,_| .int _ _,_,_| .dM,_,_| .aP,_,_| .fF,_,_| .iv,_,_| .ga,_,_| .fo _,_,_| .func _ _ _,_,_=>by simp[au.eg]
theorem bg.eg:∀(l:List Nat)(b:List PV)(d:List (List ax)),bg P w aa l b d->mg b
 |_,[],_,_=>by simp[au.mg]
 |[],_::_,_,h=>by simp[bg]at h
 |n::l,v::vs,d,h=>by
  simp only[bg]at h;obtain⟨c,cs,_,a,_,g⟩:=h;simp only[au.mg];exact⟨aR.eg v c a,bg.eg l vs cs g⟩
theorem aD.eg:∀(v:PV)(x:ax),aD P w aa v x->eg v
 | .str s,cs,h=>by simp only[aD]at h;obtain⟨bs,_,rfl⟩:=h;simp only[au.eg];exact LS bs
 | .cE t,cs,h=>by simp only[aD]at h;obtain⟨_,_,ts,a,_⟩:=h;simp only[au.eg];exact aR.eg t ts a
 | .bP f b,cs,h=>by simp only[aD]at h;obtain⟨_,_,_,_,d,a,_⟩:=h;simp only[au.eg];exact bg.eg _ b d a
 | .seq b,cs,h=>by
  simp only[aD]at h;simp only[au.eg];rcases h with⟨rfl,_⟩|⟨_,_,_,_,d,a,_⟩
  ·trivial
  ·exact bg.eg _ b d a
 | .st u b,cs,h=>by simp only[aD]at h;obtain⟨l,d,_,a,_⟩:=h;simp only[au.eg];exact bg.eg _ b d a
 | .aG b,cs,h=>by simp only[aD]at h;obtain⟨e,a,_⟩:=h;simp only[au.eg];exact bt.eg b e a
 | .undef,_,_| .bool _,_,_| .int _ _,_,_| .dM,_,_| .aP,_,_| .fF,_,_| .iv,_,_| .ga,_,_| .fo _,_,_| .func _ _ _,_,_=>by simp[au.eg]
theorem bt.eg:∀(b:List PV)(e:List ax),bt P w aa b e->mg b
 |[],_,_=>by simp[au.mg]
 |v::vs,e,h=>by
  simp only[bt]at h;obtain⟨y,i,_,a,g⟩:=h;simp only[au.mg];exact⟨aD.eg v y a,bt.eg vs i g⟩
end
theorem SY{f:ao}{args:List PV}{v:PV}(h:mg args->aC P f args v):aC P f args v:=by
 by_cases hs:mg args
 ·exact h hs
 ·exact .inr fun w aa b a=>(hs (bt.eg _ _ a)).elim
end
end Go.au
namespace Go.au
variable[Gl]
@[reducible] def Tg{α:Type}(_:α)(β:Type):Type:=β
@[reducible] def Tg1{α:Type 1}(_:α)(β:Type):Type:=β
section
variable(P:ar)(ag:ao->Bool)
def ff(q:Cx)(c:Code)(Q:bC->St->Prop)(s:Tg (q,c,Q) St):Prop:=du P ag q c Q s
def qw(a:Array Oper)(l:List Oper)(K:St->Prop)(s:Tg (a,l,K) St):Prop:=gd P ag a l K s
def rR(b:Array Oper)(l:List Oper)(i:Nat)(a:List Touch)(K:St->Prop)(s:Tg (b,l,i,a,K) St):Prop:=gu P ag b l i a K s
def A8(K:St->Prop)(Q:bC->St->Prop)(e:Tg (K,Q) bC)(s:Tg (K,Q) St):Prop:=uU K Q e s
def rC(id:Nat)(Q:bC->St->Prop)(e:Tg (id,Q) bC)(s:Tg (id,Q) St):Prop:=n9 id Q e s
def PZ(a b:St->Prop)(s:St)(v:Tg (a,b,s) AV):Prop:=uw v a b s
def D6(b:Array Oper)(r:List Oper)(i:Nat)(a:List Touch)(K:St->Prop)(dst:Option Tmp)(s:St)(e:Tg (b,r,i,a,K,dst,s) aW):Prop:=xl P ag b r i a K dst s e
def eM(dst:Option Tmp)(s:St)(K:St->Prop)(e:Tg (dst,s,K) aW):Prop:=eD dst s K e
def RF(dst:Option Tmp)(s:St)(K:St->Prop)(v:Tg (dst,s,K) AV)(H:Tg (dst,s,K) Heap):Prop:=A4 dst s K v H
def Ec(a:Array Oper)(o:Oper)(r:List Oper)(K:St->Prop)(b:Bool)(s:St)(g:Tg (a,o,r,K,b,s) AV):Prop:=zZ P ag a o r K b s g
def Ds(b:Array Oper)(o:Oper)(r:List Oper)(i:Nat)(a:List Touch)(K:St->Prop)(c:Bool)(s:St)(g:Tg (b,o,r,i,a,K,c,s) AV):Prop:=zH P ag b o r i a K c s g
def eh(o:Oper)(K:St->Prop)(s:St)(_:Tg (o,K,s) Unit):Prop:=dw P ag o K s
def dY(o:Oper)(s:St)(K:aW->Prop)(_:Tg (o,K,s) Unit):Prop:=dx P ag o s K
def cK(K:aW->Prop)(r:Tg K eS):Prop:=bn r K
def AB(H:Heap)(K:AV->Heap->Prop)(f:Tg (H,K) AV)(args:Tg (H,K) (List AV)):Prop:=rK P f args H K
def Eg(H:Heap)(K:aW->Prop)(f:Tg (H,K) AV)(args:Tg (H,K) (List AV)):Prop:=rA P f args H K
def kx(d:Bool)(f:ao)(K:AV->Heap->Prop)(args:Tg K (List AV))(H:Tg K Heap):Prop:=gS P d f args H K
def mW(f:ao)(K:aW->Prop)(args:Tg K (List AV))(H:Tg K Heap):Prop:=gZ P f args H K
def rX(R:AV->PV->Prop):List AV->List PV->Prop
 |[],vs=>vs=[]
 |x::xs,vs=>match vs with
  |v::vs=>R x v/\rX R xs vs
  |[]=>False
def gC(H:Heap):Nat->AV->PV->Prop
 |0=>fun x v=>match x with
  | .p a=>Wk a v
  |_=>False
 |n+1=>fun x v=>match x with
  | .p a=>Wk a v
  | .sl b aA z off len=>match v with
   | .seq fs=>match H[b]? with
    |some (.arr _ e h es)=>aA=e/\z=h/\off+len<=es.length/\rX (gC H n) ((es.drop off).take len) fs
    |_=>False
   |_=>False
  | .st u xs=>match v with
   | .st u' vs=>u=u'/\rX (gC H n) xs vs
   |_=>False
  | .aG xs=>match v with
   | .aG vs=>rX (gC H n) xs vs
   |_=>False
  | .ptr b path=>match v with
   | .cE t=>match H[b]? with
    |some (.box _ y)=>match fe y path with
     |some s=>gC H n s t
     |none=>False
    |_=>False
   |_=>False
  | .map b=>match v with
   | .fo es=>match H[b]? with
    |some (.map _ c)=>c=es
    |_=>False
   |_=>False
  | .func f xs g=>match v with
   | .func d vs us=>f=d/\rX (gC H n) xs vs/\rX (gC H n) g us
   |_=>False
  |_=>False
def lO(H:Heap)(n:Nat):List AV->List PV->Prop:=rX (gC H n)
def sd(a:List av)(v:PV)(e:Tg (a,v) bC)(s:Tg (a,v) St):Prop:=
 (match e with
  | .exit _=>False
  |_=>True)/\∃vs,fK P s a=some vs/\gC (St.heap s) 9 (oneOf vs) v
def zT(a:Array Oper)(l:Tg a (List Touch)):Bool:=kg a l
def aJt(a:Array Oper)(i j:Tg a Nat):Bool:=reach a a.size i j
end
section
variable{P:ar}{ag:ao->Bool}{q:Cx}
theorem aKD{Q:bC->St->Prop}{s:St}:ff P ag q .skip Q s=Q .normal s:=Ov
theorem Xz{l:Nat}{Q:bC->St->Prop}{s:St}:ff P ag q (.label l) Q s=Q .normal s:=M7
theorem aKB{id:Nat}{Q:bC->St->Prop}{s:St}:ff P ag q (.exit id) Q s=Q (.exit id) s:=Ow
theorem aKC{Q:bC->St->Prop}{s:St}:ff P ag q .ret Q s=Q .ret s:=R8
theorem Xx{b:Code}{Q:bC->St->Prop}{s:St}:ff P ag q (.scope b) Q s=ff P ag q b Q s:=M5
theorem aKA{id:Nat}{l:List Oper}{Q:bC->St->Prop}{s:St}:ff P ag q (.region id l.toArray true) Q s=rR P ag l.toArray l 0 [] (Q .normal) s:=Ox
theorem Xy{id:Nat}{l:List Oper}{Q:bC->St->Prop}{s:St}:ff P ag q (.region id l.toArray false) Q s=qw P ag l.toArray l (Q .normal) s:=M6
theorem bA{a b:Code}{Q:bC->St->Prop}{s:St}:ff P ag q (.seq a b) Q s=ff P ag q a (A8 (ff P ag q b Q) Q) s:=R9
theorem LO{id:Nat}{b:Code}{Q:bC->St->Prop}{s:St}:ff P ag q (.block id b) Q s=ff P ag q b (rC id Q) s:=M8
theorem aKz{c:an}{a b:Code}{Q:bC->St->Prop}{s:St}:ff P ag q (.cond c a b) Q s=PZ (ff P ag q a Q) (ff P ag q b Q) s (ev s.env c):=Oy
theorem UC{K:St->Prop}{Q:bC->St->Prop}{s:St}:A8 K Q .normal s=K s:=Jv
theorem Wa{id:Nat}{K:St->Prop}{Q:bC->St->Prop}{s:St}:A8 K Q (.exit id) s=Q (.exit id) s:=KK
theorem Wg{K:St->Prop}{Q:bC->St->Prop}{s:St}:A8 K Q .ret s=Q .ret s:=LI
theorem U9{t:Bool}{a b:St->Prop}{s:St}:PZ a b s (.p (.bool t))=if t then a s else b s:=JR
theorem W1{b:Array Oper}{r:List Oper}{i:Nat}{a:List Touch}{K:St->Prop}{dst:Option Tmp}{env:Env}{heap:Heap}{v:AV}{ak aK:List (Nat×Obj)}{aV:List Obj}:D6 P ag b r i a K dst ⟨env,heap⟩ ⟨v,ak,aK,aV⟩=rR P ag b r (i+1) (gT i heap.length ⟨v,ak,aK,aV⟩ a) K ⟨put dst v env,bd heap aK++aV⟩:=Md
theorem YL{dst:Option Tmp}{env:Env}{heap:Heap}{K:St->Prop}{v:AV}{ak aK:List (Nat×Obj)}{aV:List Obj}:eM dst ⟨env,heap⟩ K ⟨v,ak,aK,aV⟩=K ⟨put dst v env,bd heap aK++aV⟩:=N3
theorem Yr{dst:Option Tmp}{env:Env}{heap H:Heap}{K:St->Prop}{v:AV}:RF dst ⟨env,heap⟩ K v H=K ⟨put dst v env,H⟩:=Nv
theorem aKF{b:Array Oper}{i:Nat}{a:List Touch}{K:St->Prop}{s:St}:rR P ag b [] i a K s=(zT b a=true/\K s):=Ou
theorem Xw{b:Array Oper}{i c:Nat}{pos:String}{a:List Touch}{K:St->Prop}{s:St}{dst:Option Tmp}{op:Op}{af:Array Edge}{r:List Oper}:rR P ag b ({dst,op,type:=c,pos,after:=af,guard:=none}::r) i a K s=dY P ag {dst,op,type:=c,pos,after:=af,guard:=none} s (D6 P ag b r i a K dst s) ():=M0
theorem WC{a:Array Oper}{i d j:Nat}{b:Bool}{pos:String}{c:List Touch}{K:St->Prop}{s:St}{dst:Option Tmp}{op:Op}{af:Array Edge}{r:List Oper}:rR P ag a ({dst,op,type:=d,pos,after:=af,guard:=some (j,b)}::r) i c K s=Ds P ag a {dst,op,type:=d,pos,after:=af,guard:=some (j,b)} r i c K b s (guardOf a j s.env):=LN
theorem aKL{a:Array Oper}{K:St->Prop}{s:St}:qw P ag a [] K s=K s:=Oq
theorem Xv{a:Array Oper}{b:Nat}{pos:String}{K:St->Prop}{s:St}{dst:Option Tmp}{op:Op}{af:Array Edge}{r:List Oper}:qw P ag a ({dst,op,type:=b,pos,after:=af,guard:=none}::r) K s=eh P ag {dst,op,type:=b,pos,after:=af,guard:=none} (qw P ag a r K) s ():=MY
theorem WB{a:Array Oper}{c j:Nat}{b:Bool}{pos:String}{K:St->Prop}{s:St}{dst:Option Tmp}{op:Op}{af:Array Edge}{r:List Oper}:qw P ag a ({dst,op,type:=c,pos,after:=af,guard:=some (j,b)}::r) K s=Ec P ag a {dst,op,type:=c,pos,after:=af,guard:=some (j,b)} r K b s (guardOf a j s.env):=LM
section ops
variable{dst:Option Tmp}{ty:Nat}{pos:String}{af:Array Edge}{g:Option (Nat×Bool)}{env:Env}{heap:Heap}{K:aW->Prop}{L:St->Prop}
theorem agt{x:an}:dY P ag ⟨dst,.move x,ty,pos,af,g⟩ ⟨env,heap⟩ K ()=K {v:=ev env x}:=Pt
theorem Xb{x:an}:dY P ag ⟨dst,.assign x,ty,pos,af,g⟩ ⟨env,heap⟩ K ()=K {v:=ev env x}:=Mb
theorem ahl{c a b:an}:dY P ag ⟨dst,.pick c a b,ty,pos,af,g⟩ ⟨env,heap⟩ K ()=cK K (rQ (ev env c) (ev env a) (ev env b)):=Pr
theorem YW{T:ap}:dY P ag ⟨dst,.alloc T,ty,pos,af,g⟩ ⟨env,heap⟩ K ()=cK K (rD P T heap.length):=NO
theorem ad1{T:ap}{x:an}:dY P ag ⟨dst,.box T x,ty,pos,af,g⟩ ⟨env,heap⟩ K ()=cK K (uJ P T heap.length (ev env x)):=P5
theorem YV{T:ap}{a:Array (Nat×an)}:dY P ag ⟨dst,.build T a,ty,pos,af,g⟩ ⟨env,heap⟩ K ()=cK K (rB P T (a.toList.map fun(i,x)=>(i,ev env x))):=NL
theorem Uc{T:ap}{n:Nat}{a:Array (Nat×an)}:dY P ag ⟨dst,.buildSlice T n a,ty,pos,af,g⟩ ⟨env,heap⟩ K ()=cK K (qK P T n (a.toList.map fun(i,x)=>(i,ev env x)) heap.length):=I8
theorem afL{T:ap}{a:an}:dY P ag ⟨dst,.load T a,ty,pos,af,g⟩ ⟨env,heap⟩ K ()=cK K (qc P T heap (ev env a)):=O5
theorem YQ{T:ap}{a x:an}:dY P ag ⟨dst,.store T a x,ty,pos,af,g⟩ ⟨env,heap⟩ K ()=cK K (pQ P T heap (ev env a) (ev env x)):=NG
theorem adY{op:BinOp}{T a:ap}{x y:an}:dY P ag ⟨dst,.binOp op T x y a,ty,pos,af,g⟩ ⟨env,heap⟩ K ()=cK K (aU P op T (mv y) heap (ev env x) (ev env y)):=P3
theorem ahU{op:UnOp}{T:ap}{x:an}:dY P ag ⟨dst,.unOp op T x,ty,pos,af,g⟩ ⟨env,heap⟩ K ()=cK K (sQ op (ev env x)):=P9
theorem aeK{S D:ap}{x:an}:dY P ag ⟨dst,.convert S D x,ty,pos,af,g⟩ ⟨env,heap⟩ K ()=cK K (rJ P S D heap (ev env x)):=O7
theorem Vz{t:an}{i:Nat}:dY P ag ⟨dst,.extract t i,ty,pos,af,g⟩ ⟨env,heap⟩ K ()=cK K (qW (ev env t) i):=Lh
theorem U4{T:ap}{a:an}{f:Nat}:dY P ag ⟨dst,.fieldAddr T a f,ty,pos,af,g⟩ ⟨env,heap⟩ K ()=cK K (pj P T (ev env a) f):=Jx
theorem U3{T:ap}{x i:an}:dY P ag ⟨dst,.indexAddr T x i,ty,pos,af,g⟩ ⟨env,heap⟩ K ()=cK K (ph P T heap (ev env x) (ev env i)):=Jw
theorem YT{T:ap}{x i:an}:dY P ag ⟨dst,.index T x i,ty,pos,af,g⟩ ⟨env,heap⟩ K ()=cK K (rF P T (ev env x) (ev env i)):=NK
theorem aeT{x:an}{a:Array ap}:dY P ag ⟨dst,.call {callee:=.builtin .len,args:=#[x],argTypes:=a},ty,pos,af,g⟩ ⟨env,heap⟩ K ()=cK K (sG P (a.getD 0 0) a.size heap (ev env x)):=P6
theorem aea{f:an}{args:List an}{a:Array ap}:dY P ag ⟨dst,.call {callee:=.value f,args:=args.toArray,argTypes:=a},ty,pos,af,g⟩ ⟨env,heap⟩ K ()=Eg P heap K (ev env f) (args.map (ev env)):=O8
theorem aJa{x:an}:eh P ag ⟨dst,.move x,ty,pos,af,g⟩ L ⟨env,heap⟩ ()=eM dst ⟨env,heap⟩ L {v:=ev env x}:=OQ
theorem WL{x:an}:eh P ag ⟨dst,.assign x,ty,pos,af,g⟩ L ⟨env,heap⟩ ()=eM dst ⟨env,heap⟩ L {v:=ev env x}:=Ls
theorem aJc{c a b:an}:eh P ag ⟨dst,.pick c a b,ty,pos,af,g⟩ L ⟨env,heap⟩ ()=cK (eM dst ⟨env,heap⟩ L) (rQ (ev env c) (ev env a) (ev env b)):=OO
theorem YA{T:ap}:eh P ag ⟨dst,.alloc T,ty,pos,af,g⟩ L ⟨env,heap⟩ ()=cK (eM dst ⟨env,heap⟩ L) (rD P T heap.length):=Ni
theorem aI2{T:ap}{x:an}:eh P ag ⟨dst,.box T x,ty,pos,af,g⟩ L ⟨env,heap⟩ ()=cK (eM dst ⟨env,heap⟩ L) (uJ P T heap.length (ev env x)):=Rv
theorem Yz{T:ap}{a:Array (Nat×an)}:eh P ag ⟨dst,.build T a,ty,pos,af,g⟩ L ⟨env,heap⟩ ()=cK (eM dst ⟨env,heap⟩ L) (rB P T (a.toList.map fun(i,x)=>(i,ev env x))):=Nh
theorem Uj{T:ap}{n:Nat}{a:Array (Nat×an)}:eh P ag ⟨dst,.buildSlice T n a,ty,pos,af,g⟩ L ⟨env,heap⟩ ()=cK (eM dst ⟨env,heap⟩ L) (qK P T n (a.toList.map fun(i,x)=>(i,ev env x)) heap.length):=IY
theorem aI7{T:ap}{a:an}:eh P ag ⟨dst,.load T a,ty,pos,af,g⟩ L ⟨env,heap⟩ ()=cK (eM dst ⟨env,heap⟩ L) (qc P T heap (ev env a)):=OR
theorem Yu{T:ap}{a x:an}:eh P ag ⟨dst,.store T a x,ty,pos,af,g⟩ L ⟨env,heap⟩ ()=cK (eM dst ⟨env,heap⟩ L) (pQ P T heap (ev env a) (ev env x)):=Nx
theorem aI1{op:BinOp}{T a:ap}{x y:an}:eh P ag ⟨dst,.binOp op T x y a,ty,pos,af,g⟩ L ⟨env,heap⟩ ()=cK (eM dst ⟨env,heap⟩ L) (aU P op T (mv y) heap (ev env x) (ev env y)):=Ru
theorem aJd{op:UnOp}{T:ap}{x:an}:eh P ag ⟨dst,.unOp op T x,ty,pos,af,g⟩ L ⟨env,heap⟩ ()=cK (eM dst ⟨env,heap⟩ L) (sQ op (ev env x)):=RA
theorem aI4{S D:ap}{x:an}:eh P ag ⟨dst,.convert S D x,ty,pos,af,g⟩ L ⟨env,heap⟩ ()=cK (eM dst ⟨env,heap⟩ L) (rJ P S D heap (ev env x)):=OT
theorem VI{t:an}{i:Nat}:eh P ag ⟨dst,.extract t i,ty,pos,af,g⟩ L ⟨env,heap⟩ ()=cK (eM dst ⟨env,heap⟩ L) (qW (ev env t) i):=Kq
theorem Us{T:ap}{a:an}{f:Nat}:eh P ag ⟨dst,.fieldAddr T a f,ty,pos,af,g⟩ L ⟨env,heap⟩ ()=cK (eM dst ⟨env,heap⟩ L) (pj P T (ev env a) f):=Jo
theorem UG{T:ap}{x i:an}:eh P ag ⟨dst,.indexAddr T x i,ty,pos,af,g⟩ L ⟨env,heap⟩ ()=cK (eM dst ⟨env,heap⟩ L) (ph P T heap (ev env x) (ev env i)):=Jn
theorem Yx{T:ap}{x i:an}:eh P ag ⟨dst,.index T x i,ty,pos,af,g⟩ L ⟨env,heap⟩ ()=cK (eM dst ⟨env,heap⟩ L) (rF P T (ev env x) (ev env i)):=Ng
theorem aI6{x:an}{a:Array ap}:eh P ag ⟨dst,.call {callee:=.builtin .len,args:=#[x],argTypes:=a},ty,pos,af,g⟩ L ⟨env,heap⟩ ()=cK (eM dst ⟨env,heap⟩ L) (sG P (a.getD 0 0) a.size heap (ev env x)):=Rw
theorem aI3{f:an}{args:List an}{a:Array ap}:eh P ag ⟨dst,.call {callee:=.value f,args:=args.toArray,argTypes:=a},ty,pos,af,g⟩ L ⟨env,heap⟩ ()=AB P heap (RF dst ⟨env,heap⟩ L) (ev env f) (args.map (ev env)):=OU
theorem YR{T:ap}{x:an}{lo hi:Option an}:dY P ag ⟨dst,.slice T x lo hi none,ty,pos,af,g⟩ ⟨env,heap⟩ K ()=cK K (pS P T heap (ev env x) (lo.map (ev env)) (hi.map (ev env))):=NH
theorem Yv{T:ap}{x:an}{lo hi:Option an}:eh P ag ⟨dst,.slice T x lo hi none,ty,pos,af,g⟩ L ⟨env,heap⟩ ()=cK (eM dst ⟨env,heap⟩ L) (pS P T heap (ev env x) (lo.map (ev env)) (hi.map (ev env))):=Nd
theorem W9{T:ap}{x i:an}{ok:Bool}:dY P ag ⟨dst,.lookup T x i ok,ty,pos,af,g⟩ ⟨env,heap⟩ K ()=cK K (rN P T heap (ev env x) (ev env i) ok):=L9
theorem WJ{T:ap}{x i:an}{ok:Bool}:eh P ag ⟨dst,.lookup T x i ok,ty,pos,af,g⟩ L ⟨env,heap⟩ ()=cK (eM dst ⟨env,heap⟩ L) (rN P T heap (ev env x) (ev env i) ok):=Lq
theorem U1{T:ap}{m k x:an}:dY P ag ⟨dst,.mapUpdate T m k x,ty,pos,af,g⟩ ⟨env,heap⟩ K ()=cK K (mu P T heap (ev env m) (ev env k) (ev env x)):=JK
theorem UE{T:ap}{m k x:an}:eh P ag ⟨dst,.mapUpdate T m k x,ty,pos,af,g⟩ L ⟨env,heap⟩ ()=cK (eM dst ⟨env,heap⟩ L) (mu P T heap (ev env m) (ev env k) (ev env x)):=Jl
theorem Xa{T:ap}{m k x:an}:dY P ag ⟨dst,.insert T m k x,ty,pos,af,g⟩ ⟨env,heap⟩ K ()=cK K (mu P T heap (ev env m) (ev env k) (ev env x)):=Ma
theorem WK{T:ap}{m k x:an}:eh P ag ⟨dst,.insert T m k x,ty,pos,af,g⟩ L ⟨env,heap⟩ ()=cK (eM dst ⟨env,heap⟩ L) (mu P T heap (ev env m) (ev env k) (ev env x)):=Lr
theorem YS{T:ap}{x:an}:dY P ag ⟨dst,.range T x,ty,pos,af,g⟩ ⟨env,heap⟩ K ()=cK K (ry P T heap.length (ev env x)):=NJ
theorem Yw{T:ap}{x:an}:eh P ag ⟨dst,.range T x,ty,pos,af,g⟩ L ⟨env,heap⟩ ()=cK (eM dst ⟨env,heap⟩ L) (ry P T heap.length (ev env x)):=Nf
theorem ag4{it:an}:dY P ag ⟨dst,.next it true,ty,pos,af,g⟩ ⟨env,heap⟩ K ()=cK K (rT heap (ev env it)):=Ps
theorem aJb{it:an}:eh P ag ⟨dst,.next it true,ty,pos,af,g⟩ L ⟨env,heap⟩ ()=cK (eM dst ⟨env,heap⟩ L) (rT heap (ev env it)):=OP
theorem U2{T:ap}{l c:an}:dY P ag ⟨dst,.makeSlice T l c,ty,pos,af,g⟩ ⟨env,heap⟩ K ()=cK K (rV P T heap.length (ev env l) (ev env c)):=JL
theorem UF{T:ap}{l c:an}:eh P ag ⟨dst,.makeSlice T l c,ty,pos,af,g⟩ L ⟨env,heap⟩ ()=cK (eM dst ⟨env,heap⟩ L) (rV P T heap.length (ev env l) (ev env c)):=Jm
theorem U7{x:an}:dY P ag ⟨dst,.nilCheck x,ty,pos,af,g⟩ ⟨env,heap⟩ K ()=cK K (rk (ev env x)):=JO
theorem Vo{x:an}:eh P ag ⟨dst,.nilCheck x,ty,pos,af,g⟩ L ⟨env,heap⟩ ()=cK (eM dst ⟨env,heap⟩ L) (rk (ev env x)):=Ka
theorem afQ{args:Array an}{a:Array ap}:dY P ag ⟨dst,.call {callee:=.builtin .min,args,argTypes:=a},ty,pos,af,g⟩ ⟨env,heap⟩ K ()=cK K (kK false (args.toList.map (ev env))):=P8
theorem aI9{args:Array an}{a:Array ap}:eh P ag ⟨dst,.call {callee:=.builtin .min,args,argTypes:=a},ty,pos,af,g⟩ L ⟨env,heap⟩ ()=cK (eM dst ⟨env,heap⟩ L) (kK false (args.toList.map (ev env))):=Ry
theorem afO{args:Array an}{a:Array ap}:dY P ag ⟨dst,.call {callee:=.builtin .max,args,argTypes:=a},ty,pos,af,g⟩ ⟨env,heap⟩ K ()=cK K (kK true (args.toList.map (ev env))):=P7
theorem aI8{args:Array an}{a:Array ap}:eh P ag ⟨dst,.call {callee:=.builtin .max,args,argTypes:=a},ty,pos,af,g⟩ L ⟨env,heap⟩ ()=cK (eM dst ⟨env,heap⟩ L) (kK true (args.toList.map (ev env))):=Rx
theorem Vy{T:ap}:dY P ag ⟨dst,.makeMap T none,ty,pos,af,g⟩ ⟨env,heap⟩ K ()=K {v:=.map heap.length,aV:=[.map false []]}:=Lg
theorem VH{T:ap}:eh P ag ⟨dst,.makeMap T none,ty,pos,af,g⟩ L ⟨env,heap⟩ ()=eM dst ⟨env,heap⟩ L {v:=.map heap.length,aV:=[.map false []]}:=K2
theorem Xc{s x:an}{T X:ap}:dY P ag ⟨dst,.call {callee:=.builtin .append,args:=#[s,x],argTypes:=#[T,X]},ty,pos,af,g⟩ ⟨env,heap⟩ K ()=cK K (pP P T X heap (ev env s) (ev env x)):=Mc
theorem WM{s x:an}{T X:ap}:eh P ag ⟨dst,.call {callee:=.builtin .append,args:=#[s,x],argTypes:=#[T,X]},ty,pos,af,g⟩ L ⟨env,heap⟩ ()=cK (eM dst ⟨env,heap⟩ L) (pP P T X heap (ev env s) (ev env x)):=Lt
theorem aeQ{s x:an}{T X:ap}:dY P ag ⟨dst,.call {callee:=.builtin .copy,args:=#[s,x],argTypes:=#[T,X]},ty,pos,af,g⟩ ⟨env,heap⟩ K ()=cK K (copyV P T heap (ev env s) (ev env x)):=O6
theorem aI5{s x:an}{T X:ap}:eh P ag ⟨dst,.call {callee:=.builtin .copy,args:=#[s,x],argTypes:=#[T,X]},ty,pos,af,g⟩ L ⟨env,heap⟩ ()=cK (eM dst ⟨env,heap⟩ L) (copyV P T heap (ev env s) (ev env x)):=OS
theorem Z1{f:ao}{fi ca:List AV}{args:List AV}{M:AV->Heap->Prop}:AB P heap M (.func f fi ca) args=kx P false f M (fi++args++ca) heap:=P0
theorem Z4{f:ao}{fi ca:List AV}{args:List AV}:Eg P heap K (.func f fi ca) args=mW P f K (fi++args++ca) heap:=O9
theorem Z3{f:ao}{fi ca:List PV}{args:List AV}{M:AV->Heap->Prop}:AB P heap M (.p (.func f fi ca)) args=kx P false f M (fi.map .p++args++ca.map .p) heap:=P1
theorem Z5{f:ao}{fi ca:List PV}{args:List AV}:Eg P heap K (.p (.func f fi ca)) args=mW P f K (fi.map .p++args++ca.map .p) heap:=P2
end ops
section guards
variable{ops:Array Oper}{o:Oper}{r:List Oper}{K:St->Prop}{want t:Bool}{s:St}{i:Nat}{acc:List Touch}
theorem UT:Ec P ag ops o r K want s (.p (.bool t))=if t=want then eh P ag o (qw P ag ops r K) s ()else qw P ag ops r K ⟨put o.dst (.p (.aG [])) s.env,s.heap⟩:=JE
theorem Vm:Ec P ag ops o r K want s (.p (.aG []))=qw P ag ops r K ⟨put o.dst (.p (.aG [])) s.env,s.heap⟩:=Kf
theorem Un:Ds P ag ops o r i acc K want s (.p (.bool t))=if t=want then dY P ag o s (D6 P ag ops r i acc K o.dst s) ()else rR P ag ops r (i+1) acc K ⟨put o.dst (.p (.aG [])) s.env,s.heap⟩:=I6
theorem US:Ds P ag ops o r i acc K want s (.p (.aG []))=rR P ag ops r (i+1) acc K ⟨put o.dst (.p (.aG [])) s.env,s.heap⟩:=JD
end guards
theorem Ug{id:Nat}{Q:bC->St->Prop}{s:St}:rC id Q .normal s=Q .normal s:=(rfl)
theorem Vv{id i:Nat}{Q:bC->St->Prop}{s:St}:rC id Q (.exit i) s=if i=id then Q .normal s else Q (.exit i) s:=(rfl)
theorem Wv{id:Nat}{Q:bC->St->Prop}{s:St}:rC id Q .ret s=Q .ret s:=(rfl)
section makeFunc
variable{dst:Option Tmp}{ty:Nat}{pos:String}{af:Array Edge}{g:Option (Nat×Bool)}{env:Env}{heap:Heap}{L:St->Prop}{K:aW->Prop}{f:ao}{fi ca:Array an}
theorem Vp(hf:ag f=false):eh P ag ⟨dst,.makeFunc (.func f) fi ca,ty,pos,af,g⟩ L ⟨env,heap⟩ ()=cK (eM dst ⟨env,heap⟩ L) (rL f (fi.toList.map (ev env)) (ca.toList.map (ev env))):=Kb hf
theorem U8(hf:ag f=false):dY P ag ⟨dst,.makeFunc (.func f) fi ca,ty,pos,af,g⟩ ⟨env,heap⟩ K ()=cK K (rL f (fi.toList.map (ev env)) (ca.toList.map (ev env))):=JP hf
end makeFunc
theorem Wi{p:Prop}{e:aW}{K:aW->Prop}:cK K (some (p,e))=(p/\K e):=(rfl)
theorem Wj{K:aW->Prop}:cK K none=False:=(rfl)
theorem V0{a:Array Oper}:zT a []=true:=(rfl)
theorem UQ{a:Array Oper}{t:Touch}{r:List Touch}:zT a (t::r)=(r.all (fun u=>!jl u t||aJt a u.i t.i)&&zT a r):=(rfl)
theorem W5{a:List av}{v:PV}{s:St}:sd P a v .ret s=∃vs,fK P s a=some vs/\gC s.heap 9 (oneOf vs) v:=by simp[sd]
theorem UY{a:List av}{v:PV}{s:St}:sd P a v .normal s=∃vs,fK P s a=some vs/\gC s.heap 9 (oneOf vs) v:=by simp[sd]
section pur
variable{H:Heap}
theorem Fz{n:Nat}{a v:PV}:gC H n (.p a) v=Wk a v:=by cases n<;>rfl
theorem Oo{n b aA z off len:Nat}{fs:List PV}:gC H (n+1) (.sl b aA z off len) (.seq fs)=match H[b]? with
  |some (.arr _ a c es)=>aA=a/\z=c/\off+len<=es.length/\lO H n ((es.drop off).take len) fs
  |_=>False:=(rfl)
theorem aJo{n:Nat}{u u':ap}{a:List AV}{vs:List PV}:gC H (n+1) (.st u a) (.st u' vs)=(u=u'/\lO H n a vs):=(rfl)
theorem aJp{n:Nat}{a:List AV}{vs:List PV}:gC H (n+1) (.aG a) (.aG vs)=lO H n a vs:=(rfl)
theorem Nw{n b:Nat}{a:List (PV×PV)}:gC H (n+1) (.map b) (.fo a)=match H[b]? with
  |some (.map _ c)=>c=a
  |_=>False:=(rfl)
theorem aJn{n:Nat}{f a:ao}{c d:List AV}{vs b:List PV}:gC H (n+1) (.func f c d) (.func a vs b)=(f=a/\lO H n c vs/\lO H n d b):=(rfl)
theorem yW{n:Nat}{vs:List PV}:lO H n [] vs=(vs=[]):=(rfl)
theorem wy{n:Nat}{x:AV}{a:List AV}{v:PV}{vs:List PV}:lO H n (x::a) (v::vs)=(gC H n x v/\lO H n a vs):=(rfl)
theorem uv{α:Type}{n:Nat}{g:α->AV}{f:α->PV}:∀{l:List α},lO H n (l.map g) (l.map f)=∀x∈l,gC H n (g x) (f x)
 |[]=>by simp[yW]
 |a::l=>by simp[wy,uv (l:=l)]
theorem ri(n:Nat)(c:∀(x:AV)(v:PV),gC H n x v->∃v',et H n x=some v'/\Wk v' v):∀(b:List AV)(vs:List PV),lO H n b vs->∃a,jf (et H n) b=some a/\bG a vs
 |[],vs,h=>by rw[yW]at h;subst h;exact⟨[],rfl,by simp[bG]⟩
 |x::b,vs,h=>by
  cases vs with
  |nil=>exact h.elim
  |cons v vs=>
   rw[wy]at h;obtain⟨p,d,e⟩:=c x v h.1;obtain⟨a,f,g⟩:=ri n c b vs h.2;exact⟨p::a,by simp[jf,d,f],by simp only[bG];exact⟨e,g⟩⟩
theorem pX:∀(n:Nat)(x:AV)(v:PV),gC H n x v->∃v',et H n x=some v'/\Wk v' v
 |0,x,v,h=>by
  cases x with
  |p a=>exact⟨_,rfl,h⟩
  |_=>exact h.elim
 |n+1,x,v,h=>by
  cases x with
  |p a=>rw[Fz]at h;exact⟨_,rfl,h⟩
  |sl b aA z off len=>
   cases v with
   |seq fs=>
    rw[Oo]at h
    split at h
    case h_2=>exact h.elim
    rename_i k C E j e;obtain⟨rfl,rfl,m,g⟩:=h;obtain⟨i,c,d⟩:=ri n (pX n) _ _ g;simp only[et,e,m,and_self,if_true]
    split
    ·rename_i r;rw[r.2]at g;simp only[List.drop_nil,List.take_nil,yW]at g;exact⟨_,rfl,by rw[g];simp[Wk]⟩
    ·rw[c];exact⟨_,rfl,by simp only[Wk];exact d⟩
   |_=>exact h.elim
  |st u xs=>
   cases v with
   |st u' vs=>
    obtain⟨rfl,h⟩:=h;obtain⟨i,c,d⟩:=ri n (pX n) _ _ h;simp only[et,c];exact⟨_,rfl,by simp only[Wk];exact⟨trivial,d⟩⟩
   |_=>exact h.elim
  |aG xs=>
   cases v with
   |aG vs=>
    obtain⟨i,c,d⟩:=ri n (pX n) _ _ h;simp only[et,c];exact⟨_,rfl,by simp only[Wk];exact d⟩
   |_=>exact h.elim
  |ptr b path=>
   cases v with
   |cE t=>
    change (match H[b]? with
     |some (.box _ y)=>match fe y path with
      |some s=>gC H n s t
      |none=>False
     |_=>False)at h
    split at h
    case h_2=>exact h.elim
    rename_i e
    split at h
    case h_2=>exact h.elim
    rename_i s hs;obtain⟨p,c,d⟩:=pX n _ _ h;simp only[et,e,hs,c];exact⟨_,rfl,by simp only[Wk];exact d⟩
   |_=>exact h.elim
  |b6 _ _ _ _ _=>exact h.elim
  |map b=>
   cases v with
   |fo j=>
    rw[Nw]at h
    split at h
    case h_2=>exact h.elim
    rename_i fz w e;subst h;simp only[et,e];exact⟨_,rfl,Wk.refl _⟩
   |_=>exact h.elim
  |func f xs D=>
   cases v with
   |func A vs us=>
    obtain⟨rfl,h,l⟩:=h;obtain⟨i,c,d⟩:=ri n (pX n) _ _ h;obtain⟨B,o,q⟩:=ri n (pX n) _ _ l;simp only[et,c,o];exact⟨_,rfl,by simp only[Wk];exact⟨trivial,d,q⟩⟩
   |_=>exact h.elim
end pur
theorem XR{f:ao}{fn:Func}(ag:ao->Bool)(h:aw P f fn)(n:P.follows .mixedOrders=true){args:List PV}{v:PV}(o:args.length<=fn.ntmps)
 (d:ff P ag (fn.ntmps,0) (fn.body.getD .skip) (sd P fn.results.toList v) ⟨iQ 0 (args.map .p),[]⟩):rZ P f args v:=by
 have hs:=h.stat;simp only[ac,bne_iff_ne]at hs;have k:fn.body=some (fn.body.getD .skip):=by
  have a:=hs.1.1;clear d hs;cases l:fn.body with
  |none=>rw[l]at a;simp at a
  |some c=>rfl
 obtain⟨e,s,⟨a,vs,g,b⟩,j⟩:=nK _ _ _ (lV (Q':=sd P fn.results.toList v) _ (fun _ _ h=>h) d);obtain⟨v',b,i⟩:=pX _ _ _ b;have m:rZ P f args v':=LZ (o9 ag) (yG (o9 ag) n) h.enters h.func k hs.2 o (j (Ends P fn.results.toList v') ⟨by cases e<;>exact a,vs,g,b⟩);exact m.dd (bG.refl _) i
theorem aM{f:ao}{fn:Func}(ag:ao->Bool)(h:aw P f fn)(a:P.follows .mixedOrders=true){args:List PV}{v:PV}(b:args.length<=fn.ntmps)
 (c:ff P ag (fn.ntmps,0) (fn.body.getD .skip) (sd P fn.results.toList v) ⟨iQ 0 (args.map .p),[]⟩):aC P f args v:=.inl (XR ag h a b c)
theorem RM{α:Type}{N:Nat×Nat->Prop}{f:α->PV}{l:List α}:aS N (l.map fun x=>.p (f x))=True:=by
 rw[cL,eq_iff_iff,iff_true];intro v a;simp only[aT]at a;obtain⟨x,_,rfl⟩:=a;trivial
theorem aJA{α:Type}{N:Nat×Nat->Prop}{f:α->PV}{l:List α}{i:Nat}:aS N ((l.map fun x=>.p (f x)).take i)=True:=by
 rw[cL,eq_iff_iff,iff_true];intro v a;have a:=List.mem_of_mem_take a;simp only[aT]at a;obtain⟨x,_,rfl⟩:=a;trivial
theorem WW{N:Nat×Nat->Prop}{a b:List AV}:aS N (a++b)=(aS N a/\aS N b):=by
 simp only[cL,List.mem_append,eq_iff_iff];exact⟨fun h=>⟨fun v c=>h v (.inl c),fun v c=>h v (.inr c)⟩,fun h v c=>c.elim (h.1 v) (h.2 v)⟩
theorem TY{α:Type}{l:List α}{i:Nat}:(l.take i).take i=l.take i:=by simp[List.take_take]
theorem TX{α β:Type}{f:α->β}{l:List α}:(l.map f).take l.length=l.map f:=List.take_of_length_le (by simp)
section loops
variable{α:Type}(N:Nat)(mk:α->St)(ok:α->Prop)(m:α->Nat)(n:Nat)(Q:bC->St->Prop)
def FN(s:Tg (N,mk,ok,m,n) St):Prop:=vf N mk ok m n s
def Ak(e:Tg (N,mk,ok,m,n,Q) bC)(s:Tg (N,mk,ok,m,n,Q) St):Prop:=rM N mk ok m n Q e s
variable{N}{mk}{ok}{m}{n}{Q}{s s':St}
theorem Uy:Ak N mk ok m n Q .normal s=FN N mk ok m n s:=(rfl)
theorem VP{id:Nat}:Ak N mk ok m n Q (.exit id) s=Q (.exit id) s:=(rfl)
theorem WH:Ak N mk ok m n Q .ret s=Q .ret s:=(rfl)
theorem lp{d:Nat}{b:Code}(mk:α->St)(ok:α->Prop)(m:α->Nat)(c:α)(e:ok c)(gX:∀a,ok a->ff P ag (d,N) b (Ak N mk ok m (m a) Q) (mk a))
 (hn:(mk c).heap.take N=s.heap.take N:=by simp)(he:mc (mk c).heap s.env (mk c).env:=by simp)(hh:ja (mk c).heap s.heap (mk c).heap:=by simp)(hr:iS (mk c).heap (mk c).env:=by simp)(hr2:eL (mk c).heap (mk c).heap:=by simp):
 ff P ag (d,N) (.loop b) Q s:=wl (q:=(d,N)) mk ok m c e gX hn he hh hr hr2
theorem rd(a':α)(a:ok a')(h1:m a'<n:=by omega)(hn:(mk a').heap.take N=s.heap.take N:=by simp)(he:mc (mk a').heap s.env (mk a').env:=by simp)(hh:ja (mk a').heap s.heap (mk a').heap:=by simp)(hr:iS (mk a').heap (mk a').env:=by simp)(hr2:eL (mk a').heap (mk a').heap:=by simp):
 FN N mk ok m n s:=rnd a' a h1 hn he hh hr hr2
end loops
section calls
variable{f:ao}{H H1:Heap}{K:AV->Heap->Prop}{L:aW->Prop}{v a b c d e a' b' c' d' e':PV}
theorem c0(h:aC P f [] v)(hk:K (.p v) H):kx P false f K [] H:=Z6 h hk
theorem c1(h:aC P f [a'] v)(hk:K (.p v) H)(h1:Wk a a':=by first|exact Wk.refl _|simp):kx P false f K [.p a] H:=Z7 h hk h1
theorem c2(h:aC P f [a',b'] v)(hk:K (.p v) H)(h1:Wk a a':=by first|exact Wk.refl _|simp)(c:Wk b b':=by first|exact Wk.refl _|simp):kx P false f K [.p a,.p b] H:=Z8 h hk h1 c
theorem c3(h:aC P f [a',b',c'] v)(hk:K (.p v) H)(h1:Wk a a':=by first|exact Wk.refl _|simp)(d:Wk b b':=by first|exact Wk.refl _|simp)(e:Wk c c':=by first|exact Wk.refl _|simp):kx P false f K [.p a,.p b,.p c] H:=Z9 h hk h1 d e
theorem c4(h:aC P f [a',b',c',d'] v)(hk:K (.p v) H)(e:Wk a a':=by first|exact Wk.refl _|simp)(g:Wk b b':=by first|exact Wk.refl _|simp)(i:Wk c c':=by first|exact Wk.refl _|simp)(j:Wk d d':=by first|exact Wk.refl _|simp):kx P false f K [.p a,.p b,.p c,.p d] H:=cw4 h hk e g i j
theorem c5(h:aC P f [a',b',c',d',e'] v)(hk:K (.p v) H)(g:Wk a a':=by first|exact Wk.refl _|simp)(i:Wk b b':=by first|exact Wk.refl _|simp)(j:Wk c c':=by first|exact Wk.refl _|simp)(k:Wk d d':=by first|exact Wk.refl _|simp)(l:Wk e e':=by first|exact Wk.refl _|simp):kx P false f K [.p a,.p b,.p c,.p d,.p e] H:=cw5 h hk g i j k l
theorem e0(h:aC P f [] v)(hk:L {v:=.p v}):mW P f L [] H:=ZP h hk
theorem e1(h:aC P f [a'] v)(hk:L {v:=.p v})(h1:Wk a a':=by first|exact Wk.refl _|simp):mW P f L [.p a] H:=ZQ h hk h1
theorem e2(h:aC P f [a',b'] v)(hk:L {v:=.p v})(h1:Wk a a':=by first|exact Wk.refl _|simp)(c:Wk b b':=by first|exact Wk.refl _|simp):mW P f L [.p a,.p b] H:=ZR h hk h1 c
theorem e3(h:aC P f [a',b',c'] v)(hk:L {v:=.p v})(h1:Wk a a':=by first|exact Wk.refl _|simp)(d:Wk b b':=by first|exact Wk.refl _|simp)(e:Wk c c':=by first|exact Wk.refl _|simp):mW P f L [.p a,.p b,.p c] H:=ZS h hk h1 d e
theorem e4(h:aC P f [a',b',c',d'] v)(hk:L {v:=.p v})(e:Wk a a':=by first|exact Wk.refl _|simp)(g:Wk b b':=by first|exact Wk.refl _|simp)(i:Wk c c':=by first|exact Wk.refl _|simp)(j:Wk d d':=by first|exact Wk.refl _|simp):mW P f L [.p a,.p b,.p c,.p d] H:=ZT h hk e g i j
theorem e5(h:aC P f [a',b',c',d',e'] v)(hk:L {v:=.p v})(g:Wk a a':=by first|exact Wk.refl _|simp)(i:Wk b b':=by first|exact Wk.refl _|simp)(j:Wk c c':=by first|exact Wk.refl _|simp)(k:Wk d d':=by first|exact Wk.refl _|simp)(l:Wk e e':=by first|exact Wk.refl _|simp):mW P f L [.p a,.p b,.p c,.p d,.p e] H:=ZU h hk g i j k l
theorem cp{args:List AV}{vs a:List PV}(h:aC P f a v)(b:nB H args=some (vs,H1))(hk:K (.p v) H1)(h1:bG vs a:=by first|exact bG.refl _|simp):kx P false f K args H:=cwp h b hk h1
theorem ep{args:List AV}{vs a:List PV}{bs:List Nat}{ak aK:List (Nat×Obj)}(h:aC P f a v)(b:oh H args=some (vs,bs))(hf:lD H bs=some (ak,aK))(hk:L {v:=.p v,ak,aK})(h1:bG vs a:=by first|exact bG.refl _|simp):mW P f L args H:=ZW h b hf hk h1
theorem ci{args:List AV}{H':Heap}{v:AV}(h:cw P f H args H' v)(hk:K v H'):kx P false f K args H:=.inr ⟨rfl,.inr (.inl ⟨H',v,h,hk⟩)⟩
end calls
attribute [simp] RM aJA WW TY Fz Oo aJo aJp Nw aJn yW wy uv TX aS Ug Vv Wv UT Vm Un US Vp U8 Wi Wj V0 UQ W5 UY Uy VP WH nB kT oh mz lD mr
 aKD Xz aKB aKC Xx aKA Xy bA LO aKz UC Wa Wg U9 W1 YL Yr aKF Xw WC aKL Xv WB agt Xb ahl YW ad1 YV Uc afL YQ adY ahU aeK Vz U4 U3 YT aeT aea aJa WL aJc YA aI2 Yz Uj aI7 Yu aI1 aJd aI4 VI Us UG Yx aI6 aI3 YR Yv W9 WJ U1 UE Xa WK YS Yw ag4 aJb U2 UF U7 Vo afQ aI9 afO aI8 Vy VH Xc WM aeQ aI5 Z1 Z4 Z3 Z5
end
section
variable{P:ar}{ag:ao->Bool}{q:Cx}
theorem KL{r:eS}{K a:aW->Prop}(hk:∀e,K e->a e)(h:bn r K):bn r a:=by
 unfold bn at h⊢
 split at h
 ·exact⟨h.1,hk _ h.2⟩
 ·exact h.elim
theorem VN{o:Oper}{e:Env}{H:Heap}{K a:aW->Prop}(hk:∀e,K e->a e)(h:fG P ag o (ev e) H K):fG P ag o (ev e) H a:=by
 obtain⟨x,b,c⟩:=Dg (ag:=ag) o (ev e) H K h;exact c a (hk x b)
theorem Mj{o:Oper}{e:Env}{H:Heap}{K a:aW->Prop}(hk:∀e,K e->a e)(h:kP P ag o e H K):kP P ag o e H a:=by
 unfold kP at h⊢
 repeat' split at h
 all_goals first|exact hk _ h|exact KL hk h|exact⟨h.1,KL hk h.2⟩|exact VN hk h|exact h.elim
theorem Jz{d:Bool}{f:ao}{args:List AV}{H:Heap}{K i:AV->Heap->Prop}(hk:∀v H,K v H->i v H)(h:gS P d f args H K):gS P d f args H i:=by
 rcases h with⟨vs,v,a,b,c⟩|⟨g,⟨vs,H1,v,a,b,c⟩|⟨H',v,a,b⟩|⟨e,a,b,c⟩|⟨ak,v,a,b,c⟩⟩
 ·exact .inl ⟨vs,v,a,b,hk _ _ c⟩
 ·exact .inr ⟨g,.inl ⟨vs,H1,v,a,b,hk _ _ c⟩⟩
 ·exact .inr ⟨g,.inr (.inl ⟨H',v,a,hk _ _ b⟩)⟩
 ·exact .inr ⟨g,.inr (.inr (.inl ⟨e,a,b,hk _ _ c⟩))⟩
 ·exact .inr ⟨g,.inr (.inr (.inr ⟨ak,v,a,b,hk _ _ c⟩))⟩
theorem JV{f:ao}{args:List AV}{H:Heap}{K d:aW->Prop}(hk:∀e,K e->d e)(h:gZ P f args H K):gZ P f args H d:=by
 rcases h with⟨vs,v,a,b,c⟩|⟨vs,bs,ak,aK,v,a,b,c,g⟩|⟨e,a,b,c⟩|⟨ak,v,a,b,c⟩
 ·exact .inl ⟨vs,v,a,b,hk _ c⟩
 ·exact .inr (.inl ⟨vs,bs,ak,aK,v,a,b,c,hk _ g⟩)
 ·exact .inr (.inr (.inl ⟨e,a,b,hk _ c⟩))
 ·exact .inr (.inr (.inr ⟨ak,v,a,b,hk _ c⟩))
theorem Jj{o:Oper}{K b:St->Prop}{s:St}(hk:∀s,K s->b s)(h:dw P ag o K s):dw P ag o b s:=by
 unfold dw at h⊢
 split at h
 ·rename_i f args g i;unfold rK at h⊢
  split at h
  ·exact Jz (fun v H a=>hk _ a) h
  ·exact Jz (fun v H a=>hk _ a) h
  ·obtain⟨H',v,c,d⟩:=h;exact⟨H',v,c,hk _ d⟩
  ·exact h.elim
 ·exact Mj (fun e a=>hk _ a) h
theorem JG{o:Oper}{s:St}{K a:aW->Prop}(hk:∀e,K e->a e)(h:dx P ag o s K):dx P ag o s a:=by
 unfold dx at h⊢
 split at h
 ·rename_i f args g i;unfold rA at h⊢
  split at h
  ·exact JV hk h
  ·exact JV hk h
  ·obtain⟨e,b,c,d⟩:=h;exact⟨e,b,c,hk _ d⟩
  ·exact h.elim
 ·exact Mj hk h
theorem vR{c:Array Oper}:∀(l:List Oper){K a:St->Prop}{s:St},(∀s,K s->a s)->gd P ag c l K s->gd P ag c l a s
 |[],K,a,s,hk,h=>hk s h
 |o::l,K,a,s,hk,h=>by
  simp only[gd]at h⊢
  split at h
  ·exact Jj (fun s hs=>vR l hk hs) h
  ·split at h
   ·split at h
    ·rename_i b;rw[if_pos b];exact Jj (fun s hs=>vR l hk hs) h
    ·rename_i b;rw[if_neg b];exact vR l hk h
   ·exact vR l hk h
   ·exact h.elim
theorem vM{d:Array Oper}:∀(l:List Oper){i:Nat}{b:List Touch}{K a:St->Prop}{s:St},(∀s,K s->a s)->gu P ag d l i b K s->gu P ag d l i b a s
 |[],i,b,K,a,s,hk,h=>⟨h.1,hk s h.2⟩
 |o::l,i,b,K,a,s,hk,h=>by
  simp only[gu]at h⊢
  split at h
  ·exact JG (fun e hs=>vM l hk hs) h
  ·split at h
   ·split at h
    ·rename_i c;rw[if_pos c];exact JG (fun e hs=>vM l hk hs) h
    ·rename_i c;rw[if_neg c];exact vM l hk h
   ·exact vM l hk h
   ·exact h.elim
theorem nJ:∀(c:Code){Q g:bC->St->Prop}{s:St},(∀e s,Q e s->g e s)->du P ag q c Q s->du P ag q c g s
 | .skip,Q,g,s,hq,h=>hq _ _ h
 | .label _,Q,g,s,hq,h=>hq _ _ h
 | .exit _,Q,g,s,hq,h=>hq _ _ h
 | .ret,Q,g,s,hq,h=>hq _ _ h
 | .region _ ops draw,Q,g,s,hq,h=>by
  simp only[du]at h⊢
  split at h
  ·rename_i j;rw[if_pos j];exact vM _ (fun s hs=>hq _ _ hs) h
  ·rename_i j;rw[if_neg j];exact vR _ (fun s hs=>hq _ _ hs) h
 | .seq a b,Q,g,s,hq,h=>by
  simp only[du]at h⊢;refine nJ a (fun e s d=>?_) h;cases e with
  |normal=>exact nJ b hq d
  |exit i=>exact hq _ _ d
  |ret=>exact hq _ _ d
 | .cond c a b,Q,g,s,hq,h=>by
  simp only[du]at h⊢;unfold uw at h⊢
  split at h
  ·split at h
   ·rename_i k;rw[if_pos k];exact nJ a hq h
   ·rename_i k;rw[if_neg k];exact nJ b hq h
  ·exact h.elim
 | .block id b,Q,g,s,hq,h=>by
  simp only[du]at h⊢;refine nJ b (fun e s d=>?_) h;cases e with
  |normal=>exact hq _ _ d
  |exit i=>
   simp only[n9]at d⊢
   by_cases hi:i=id
   ·simp only[hi,if_true]at d⊢;exact hq _ _ d
   ·simp only[hi,if_false]at d⊢;exact hq _ _ d
  |ret=>exact hq _ _ d
 | .scope b,Q,g,s,hq,h=>nJ b hq h
 | .loop b,Q,g,s,hq,h=>by
  simp only[du]at h⊢;obtain⟨I,l,m⟩:=h;refine⟨I,l,fun n t hI=>nJ b (fun e s d=>?_) (m n t hI)⟩;cases e with
  |normal=>exact d
  |exit id=>exact hq _ _ d
  |ret=>exact hq _ _ d
 | .rangeFunc f o a b,Q,g,s,hq,h=>by
  simp only[du]at h⊢;exact⟨h.1,Ko (fun H=>Kr hq) h.2⟩
 | .goto _,_,_,_,_,h=>h.elim
 | .refuse _,_,_,_,_,h=>h.elim
def rO(R:St->Prop)(Q:bC->St->Prop)(e:Tg (R,Q) bC)(s:Tg (R,Q) St):Prop:=match e with
 | .normal=>R s
 |e=>Q e s
theorem Uq{R:St->Prop}{Q:bC->St->Prop}{s:St}:rO R Q .normal s=R s:=(rfl)
theorem VT{R:St->Prop}{Q:bC->St->Prop}{id:Nat}{s:St}:rO R Q (.exit id) s=Q (.exit id) s:=(rfl)
theorem Xg{R:St->Prop}{Q:bC->St->Prop}{s:St}:rO R Q .ret s=Q .ret s:=(rfl)
theorem join{a b:Code}{Q:bC->St->Prop}{s:St}(R:St->Prop)(d:ff P ag q a (rO R Q) s)(f:∀s',R s'->ff P ag q b Q s'):ff P ag q (.seq a b) Q s:=by
 rw[bA];refine nJ a (fun e s c=>?_) d;cases e with
 |normal=>exact f s c
 |exit i=>exact c
 |ret=>exact c
theorem RN{α:Type}{N:Nat×Nat->Prop}{f:α->PV}{l:List α}:aS N (l.map (AV.p∘f))=True:=RM
attribute [simp] Uq VT Xg RN
end
section
variable{P:ar}{ag:ao->Bool}
def xa(P:ar)(a:List av)(N:Nat)(H':Heap)(v:AV)(e:Tg (a,N,H',v) bC)(s:Tg (a,N,H',v) St):Prop:=uE P a N H' v e s
theorem VX{a:List av}{N:Nat}{H':Heap}{v:AV}{s:St}:xa P a N H' v .ret s=∃vs,fK P s a=some vs/\oneOf vs=v/\(H'=s.heap\/(dt N s ⟨[],H'⟩/\aE (aI H') v)):=by simp[xa,uE]
theorem Ub{a:List av}{N:Nat}{H':Heap}{v:AV}{s:St}:xa P a N H' v .normal s=∃vs,fK P s a=some vs/\oneOf vs=v/\(H'=s.heap\/(dt N s ⟨[],H'⟩/\aE (aI H') v)):=by simp[xa,uE]
theorem fV{f:ao}{fn:Func}(ag:ao->Bool)(h:aw P f fn)(a:P.follows .mixedOrders=true){args:List AV}{H H':Heap}{v:AV}(b:args.length<=fn.ntmps)
 (c:ff P ag (fn.ntmps,H.length) (fn.body.getD .skip) (xa P fn.results.toList H.length H' v) ⟨iQ 0 args,H⟩):cw P f H args H' v:=
 Qj ag h a b (lV (Q':=uE P fn.results.toList H.length H' v) _ (fun _ _ h=>h) c)
theorem aJM{n i:Nat}:sig [] n i=n+i:=by simp[sig]
theorem cn{f:ao}{H H':Heap}{K:AV->Heap->Prop}{v:AV}{args:List PV}(h:cw P f [] (args.map .p) H' v)(hk:K (cO (sig [] H.length) v) (H++H'.map (dc (sig [] H.length)))):kx P false f K (args.map .p) H:=by
 refine .inr ⟨rfl,.inr (.inr (.inl ⟨dF [] H.length [] H' v,?_,⟨by simp[dF],by simp[dF]⟩,?_⟩))⟩
 ·have b:aS (aI ([]:Heap)) (args.map .p):=by rw[cL];intro v c;obtain⟨x,_,rfl⟩:=aT.1 c;trivial
  have:=h.frame [] H.length rfl List.nodup_nil (by simp) (by simp) b (by simp);have e:cJ (sig [] H.length) (args.map .p)=args.map .p:=by
   clear h b this hk
   induction args with
   |nil=>rfl
   |cons a r d=>simp only[a1,cJ,cO,d]
  rwa [e]at this
 ·simpa[dF,bd]using hk
theorem PY{f:ao}{H H':Heap}{K:AV->Heap->Prop}{v:AV}{a b:PV}(h:cw P f [] [.p a,.p b] H' v)(hk:K (cO (sig [] H.length) v) (H++H'.map (dc (sig [] H.length)))):kx P false f K [.p a,.p b] H:=cn (args:=[a,b]) h hk
def Pp(P:ar)(T:ap)(f:Nat):Option (ap×jr):=match kindOf P T,P.underlying T with
 | .agg u,some (.struct _)=>((jv P u)[f]?).map fun F=>(u,kindOf P F)
 |_,_=>none
def z7(P:ar)(T:ap)(f:Nat)(x:AV):eS:=match Pp P T f,x with
 |some (u,k),.p t=>match(cM t)[f]? with
  |some g=>some (aL t=.agg u/\k=aL g,{v:=.p g})
  |none=>none
 |_,_=>none
theorem L5{T:ap}{x:AV}{f:Nat}{K:aW->Prop}:(match kindOf P T,P.underlying T,x with
  | .agg u,some (.struct _),.p t=>aL t=.agg u/\(match(cM t)[f]?,(jv P u)[f]? with
   |some g,some F=>kindOf P F=aL g/\K {v:=.p g}
   |_,_=>False)
  |_,_,_=>False)=bn (z7 P T f x) K:=by
 unfold z7 Pp;cases b:kindOf P T with
 |agg u=>cases c:P.underlying T with
  |none=>simp[bn]
  |some d=>cases d with
   |struct fs=>cases x with
    |p t=>cases hc:(jv P u)[f]?<;>cases a:(cM t)[f]?<;>simp[bn,a,hc,and_assoc]
    |_=>cases hc:(jv P u)[f]?<;>simp[bn,hc]
   |_=>simp[bn]
 |_=>simp[bn]
section fields
variable{dst:Option Tmp}{ty:Nat}{pos:String}{af:Array Edge}{g:Option (Nat×Bool)}{env:Env}{heap:Heap}{L:St->Prop}{K:aW->Prop}{T:ap}{x:an}{f:Nat}
theorem Yy:eh P ag ⟨dst,.field T x f,ty,pos,af,g⟩ L ⟨env,heap⟩ ()=cK (eM dst ⟨env,heap⟩ L) (z7 P T f (ev env x)):=L5
theorem YU:dY P ag ⟨dst,.field T x f,ty,pos,af,g⟩ ⟨env,heap⟩ K ()=cK K (z7 P T f (ev env x)):=L5
end fields
theorem tW{σ:Nat->Nat}{α:Type}{f:α->PV}:∀{l:List α},cJ σ (l.map (AV.p∘f))=l.map (AV.p∘f)
 |[]=>rfl
 |a::l=>by simp only[a1,cJ,tW (l:=l)];rfl
theorem WX{σ:Nat->Nat}{α β:Type}{f:β->PV}{g:α->β}{l:List α}:cJ σ (l.map ((AV.p∘f)∘g))=l.map ((AV.p∘f)∘g):=tW (f:=f∘g)
theorem aJy{α β:Type}{N:Nat×Nat->Prop}{f:β->PV}{g:α->β}{l:List α}:aS N (l.map ((AV.p∘f)∘g))=True:=RN (f:=f∘g)
attribute [simp] Yy YU WX aJy VX Ub aJM cO cJ dc tW
end
section
variable{P:ar}{ag:ao->Bool}
theorem Mu{T:Heap}:∀{h:Heap},ja T h h=True
 |[]=>by simp[ja]
 |o::h=>by simp[ja,N6,Mu (h:=h)]
theorem De{T:Heap}:∀{h k:Heap},eL T (h++k)=(eL T h/\eL T k)
 |[],k=>by simp[eL]
 |o::h,k=>by simp[eL,De (h:=h),and_assoc]
theorem aJz{N:Nat×Nat->Prop}{n:Nat}{v:PV}:aS N (a5 n (.p v))=True:=by
 rw[cL,eq_iff_iff,iff_true];intro x hx;rw[(List.mem_replicate.1 hx).2];trivial
theorem Yo{σ:Nat->Nat}{α:Type}{f:α->PV}{l:List α}:cJ σ (l.map fun x=>.p (f x))=l.map fun x=>.p (f x):=tW (f:=f)
theorem RI{L:fh}{e:Env}{H:Heap}(h:L.env=e)(a:iS H e):∀x,aE (aI H) (aN L.env x):=by rw[h];exact a.get
def fh.bz(L:fh):fh:={L with st:=.busy}
def fh.dn(L:fh)(j:Code):fh:={L with st:=.done,pending:=some j}
def fh.xh(L:fh):fh:={L with st:=.exhausted}
def Stream(P:ar)(g:ao)(fi ca:List PV)(d:List (List PV)):Prop:=
 ∀(b k:Nat)(c:Nat->Heap)(H':Heap),k<=d.length->(∀i,i<=k->eL (c i) (c i)/\aE (aI (c i)) (.map b))->
  (∀i a,i<k->d[i]?=some a->iD P b (c i) (a.map .p) (c (i+1)) (.p (.bool true)))->
  (k=d.length/\H'=c k\/∃a,d[k]?=some a/\iD P b (c k) (a.map .p) H' (.p (.bool false)))->
  cw P g (c 0) (fi.map .p++[.map b]++ca.map .p) H' (.p (.aG []))
theorem Z2{b:Nat}{args:List AV}{M:AV->Heap->Prop}{heap:Heap}:AB P heap M (.map b) args=∃H' v,iD P b heap args H' v/\M v H':=(rfl)
def uS(b:Nat)(L:fh)(N:Nat)(H':Heap)(v:Bool)(e:Tg (b,L,N,H',v) bC)(s:Tg (b,L,N,H',v) St):Prop:=
 match e with
 | .normal=>v=true/\(St.heap s)[b]?=some (.loop L.bz)/\dt N ⟨[],(St.heap s).set b (.loop L)⟩ ⟨[],H'⟩
 | .exit id=>v=false/\(St.heap s)[b]?=some (.loop L.bz)/\dt N ⟨[],(St.heap s).set b (.loop (L.dn (.exit id)))⟩ ⟨[],H'⟩
 | .ret=>v=false/\(St.heap s)[b]?=some (.loop L.bz)/\dt N ⟨[],(St.heap s).set b (.loop (L.dn .ret))⟩ ⟨[],H'⟩
section
variable{b N:Nat}{L:fh}{H':Heap}{v:Bool}{s:St}
theorem Wd:uS b L N H' v .normal s=(v=true/\s.heap[b]?=some (.loop L.bz)/\dt N ⟨[],s.heap.set b (.loop L)⟩ ⟨[],H'⟩):=(rfl)
theorem Yq{id:Nat}:uS b L N H' v (.exit id) s=(v=false/\s.heap[b]?=some (.loop L.bz)/\dt N ⟨[],s.heap.set b (.loop (L.dn (.exit id)))⟩ ⟨[],H'⟩):=(rfl)
theorem aJs:uS b L N H' v .ret s=(v=false/\s.heap[b]?=some (.loop L.bz)/\dt N ⟨[],s.heap.set b (.loop (L.dn .ret))⟩ ⟨[],H'⟩):=(rfl)
end
def FA(P:ar)(ag:ao->Bool)(q:Cx)(b:Nat)(c:Code)(L:fh)(H':Heap)(v:Bool)(e:Tg (q,b,c,L,H',v) bC)(s:Tg (q,b,c,L,H',v) St):Prop:=
 match e with
 | .normal=>(St.heap s)[b]?=some (.loop L)/\ff P ag q c (uS b L q.2 H' v) ⟨St.env s,(St.heap s).set b (.loop L.bz)⟩
 |_=>False
theorem We{q:Cx}{b:Nat}{c:Code}{L:fh}{H':Heap}{v:Bool}{s:St}:FA P ag q b c L H' v .normal s=(s.heap[b]?=some (.loop L)/\ff P ag q c (uS b L q.2 H' v) ⟨s.env,s.heap.set b (.loop L.bz)⟩):=(rfl)
theorem Bq(ag:ao->Bool)(r:P.follows .mixedOrders=true){b n:Nat}{L:fh}{H H':Heap}{args:List AV}{v:Bool}{j:List Tmp}{a c:Code}{env:Env}
 (d:L=⟨.ready,none,n,j,a,c,env⟩)(o:H[b]?=some (.loop L))(q:args.length=j.length)
 (t:(j.all (fun x=>decide (x<n))&&codeOk fit n a&&codeOk fit n c)=true)
 (u:ff P ag (n,H.length) a (FA P ag (n,H.length) b c L H' v) ⟨rz j args env,H⟩):iD P b H args H' (.p (.bool v)):=by
 refine Qk ag r o (by rw[d];exact q) (by rw[d];exact t) ?_;unfold zn;have e1:L.n=n:=by rw[d]
 have e2:L.assign=a:=by rw[d]
 have e3:L.body=c:=by rw[d]
 have e4:L.params=j:=by rw[d]
 have e5:L.env=env:=by rw[d]
 have k:L.st=.ready:=by rw[d]
 rw[e1,e2,e3,e4,e5];refine lV (Q:=FA P ag (n,H.length) b c L H' v) _ (fun e s h=>?_) u;cases e with
 |normal=>
  obtain⟨l,m⟩:=h;simp only[yF,l];refine⟨k,lV (Q:=uS b L H.length H' v) _ (fun e s h=>?_) m⟩;cases e with
  |normal=>
   obtain⟨rfl,f,g⟩:=h;have i:s.heap[b]?=some (.loop L.bz):=f;simp only[tK,i,gR];refine⟨rfl,?_⟩;have:({L.bz with st:=LoopState.ready,pending:=none}:fh)=L:=by subst d;rfl
   simpa[this]using g
  |exit id=>
   obtain⟨rfl,f,g⟩:=h;have i:s.heap[b]?=some (.loop L.bz):=f;simp only[tK,i,gR];exact⟨rfl,g⟩
  |ret=>
   obtain⟨rfl,f,g⟩:=h;have i:s.heap[b]?=some (.loop L.bz):=f;simp only[tK,i,gR];exact⟨rfl,g⟩
 |exit id=>exact h.elim
 |ret=>exact h.elim
theorem rf{f:an}{h:Array Tmp}{a c:Code}{Q:bC->St->Prop}{env:Env}{heap:Heap}{q:Cx}{g:ao}{fi ca:List PV}{n:List (List PV)}(aH:Stream P g fi ca n)(hf:ev env f= .p (.func g fi ca))(hq:q.2<=heap.length)
 (X:fh->Nat->Heap)(k:Nat)(hk:k<=n.length)(u:∀L,X L 0=heap++[.loop L])
 (hx:∀L,L=⟨.ready,none,q.1,h.toList,a,c,env⟩->∀i,i<=k->(X L i)[heap.length]?=some (.loop L)/\iS (X L i) env/\(iS (X L i) env->(∀x,aE (aI (X L i)) (aN L.env x))->eL (X L i) (X L i)))
 (t:∀L,L=⟨.ready,none,q.1,h.toList,a,c,env⟩->∀i x,i<k->n[i]?=some x->iD P heap.length (X L i) (x.map .p) (X L (i+1)) (.p (.bool true)))
 (y:∀L,L=⟨.ready,none,q.1,h.toList,a,c,env⟩->(k=n.length/\Q .normal ⟨env,(X L k).set heap.length (.loop L.xh)⟩)\/
  ∃x j l,n[k]?=some x/\l[heap.length]?=some (.loop (L.dn j))/\iD P heap.length (X L k) (x.map .p) l (.p (.bool false))/\kr Q (some j) ⟨env,l.set heap.length (.loop (L.dn j).xh)⟩):
 ff P ag q (.rangeFunc f h a c) Q ⟨env,heap⟩:=by
 obtain⟨L,b⟩:∃L:fh,L=⟨.ready,none,q.1,h.toList,a,c,env⟩:=⟨_,rfl⟩
 have s:=aH heap.length k (X L);refine⟨hq,?_⟩;show jP P (ev env f) heap.length (heap++[.loop ⟨.ready,none,q.1,h.toList,a,c,env⟩]) (iZ heap.length env Q);rw[hf];simp only[jP];rw[<-b,<-u L];have r:∀i,i<=k->eL (X L i) (X L i)/\aE (aI (X L i)) (.map heap.length):=by
  intro i hi;obtain⟨m,d,o⟩:=hx L b i hi;have e5:L.env=env:=by rw[b]
  refine⟨o d (by rw[e5];exact d.get),?_⟩;simp only[aE,aI,m];exact⟨_,rfl,by simp[Obj.has]⟩
 rcases y L b with⟨m,d⟩|⟨x,j,l,m,d,o,v⟩
 ·refine⟨_,_,s (X L k) hk r (t L b) (.inl ⟨m,rfl⟩),?_⟩;have w:=(hx L b k (a8 k)).1;simp only[iZ,w];refine⟨by rw[b];simp,?_⟩;have:L.pending=none:=by rw[b]
  simp only[this,kr];have e:L.xh={L with st:=.exhausted}:=rfl;rw[this]at e;rw[e]at d;exact d
 ·refine⟨_,_,s l hk r (t L b) (.inr ⟨x,m,o⟩),?_⟩;simp only[iZ,d];exact⟨by simp[fh.dn],v⟩
section ari
variable{f:ao}{H0 bW H:Heap}{fO args:List AV}{v0:AV}{K:AV->Heap->Prop}{L:aW->Prop}
theorem H4(h:cw P f H0 fO bW v0)(bs:List Nat)(e:bs.length=H0.length)(i:bs.Nodup)(g:∀b∈bs,b<H.length)(d:H0.length<=bW.length)(a:aS (aI H0) fO)(j:eL H0 H0)(c:cJ (sig bs H.length) fO=args):
 sc P f args H.length (dF bs H.length H0 bW v0):=by
 have:=h.frame bs H.length e i g d a j.get
 rwa [c]at this
theorem cf(h:cw P f H0 fO bW v0)(bs:List Nat)(hk:K (cO (sig bs H.length) v0) (bd H (bs.zip ((bW.take H0.length).map (dc (sig bs H.length))))++(bW.drop H0.length).map (dc (sig bs H.length))))(ak:∀p∈bs.zip (H0.map (dc (sig bs H.length))),H[p.1]?=some p.2:=by simp[sig])(aK:∀p∈bs.zip ((bW.take H0.length).map (dc (sig bs H.length))),p.1<H.length/\p.2≠ .hole:=by simp[sig])
 (e:bs.length=H0.length:=by simp)(i:bs.Nodup:=by simp)(g:∀b∈bs,b<H.length:=by simp)(d:H0.length<=bW.length:=by simp)(a:aS (aI H0) fO:=by simp)(hr:eL H0 H0:=by simp)(c:cJ (sig bs H.length) fO=args:=by simp[sig]):kx P false f K args H:=
 .inr ⟨rfl,.inr (.inr (.inl ⟨_,H4 h bs e i g d a hr c,⟨ak,aK⟩,hk⟩))⟩
theorem ef(h:cw P f H0 fO bW v0)(bs:List Nat)(hk:L {v:=cO (sig bs H.length) v0,ak:=bs.zip (H0.map (dc (sig bs H.length))),aK:=bs.zip ((bW.take H0.length).map (dc (sig bs H.length))),aV:=(bW.drop H0.length).map (dc (sig bs H.length))})(ak:∀p∈bs.zip (H0.map (dc (sig bs H.length))),H[p.1]?=some p.2:=by simp[sig])(aK:∀p∈bs.zip ((bW.take H0.length).map (dc (sig bs H.length))),p.1<H.length/\p.2≠ .hole:=by simp[sig])
 (e:bs.length=H0.length:=by simp)(i:bs.Nodup:=by simp)(g:∀b∈bs,b<H.length:=by simp)(d:H0.length<=bW.length:=by simp)(a:aS (aI H0) fO:=by simp)(j:eL H0 H0:=by simp)(c:cJ (sig bs H.length) fO=args:=by simp[sig]):mW P f L args H:=
 .inr (.inr (.inl ⟨_,H4 h bs e i g d a j c,⟨ak,aK⟩,hk⟩))
end ari
section bytes
variable{dst:Option Tmp}{ty:Nat}{pos:String}{af:Array Edge}{g:Option (Nat×Bool)}{env:Env}{heap:Heap}{L:St->Prop}{K:aW->Prop}
theorem aht{x:an}{d:Array ap}{b aA ai off len:Nat}{k:AK}{es:List AV}(hx:ev env x= .sl b aA ai off len)(f:heap[b]?=some (.arr k aA ai es))(e:0<len)(h:off+len<=es.length)
 (hk:K {v:=.b6 b aA ai off [],ak:=[(b,.arr k aA ai es)]}):dY P ag ⟨dst,.call {callee:=.builtin .unsafeSliceData,args:=#[x],argTypes:=d},ty,pos,af,g⟩ ⟨env,heap⟩ K ():=by
 show(match ev env x with
   | .p .aP=>K {v:=.p .dM}
   | .sl b aA ai off len=>(match heap[b]? with
    |some (.arr k c a es)=>aA=c/\ai=a/\((k.gr=true/\es=[]/\K {v:=.p .dM,ak:=[(b,.arr k c a es)]})\/(0<len/\off+len<=es.length/\K {v:=.b6 b aA ai off [],ak:=[(b,.arr k c a es)]}))
    |_=>False)
   |_=>False)
 rw[hx];simp only[f];exact⟨trivial,trivial,.inr ⟨e,h,hk⟩⟩
theorem air{x y:an}{a:Array ap}{b aA:Nat}{m:Int}{es:List AV}{l:List Nat}(hx:ev env x= .b6 b aA 1 0 [])(o:ev env y= .p (.int .i64 m))(i:heap[b]?=some (.arr .bytes aA 1 es))(c:0<m)(k:m.toNat<=es.length)(d:m<=9223372036854775807)
 (f:a.size=2)(e:ptrTo P (a.getD 0 0)=some Gl.u8)(n:P.cellsOf Gl.u8=1)(j:bytesOf (es.take m.toNat)=some l)
 (hk:K {v:=.p (.str l),ak:=[(b,.arr .bytes aA 1 es)],aK:=[(b,.dead)]}):dY P ag ⟨dst,.call {callee:=.builtin .unsafeString,args:=#[x,y],argTypes:=a},ty,pos,af,g⟩ ⟨env,heap⟩ K ():=by
 have h:fG P ag ⟨dst,.call {callee:=.builtin .unsafeString,args:=#[x,y],argTypes:=a},ty,pos,af,g⟩ (ev env) heap K:=by
  unfold fG;simp only[a1,List.map_nil,hx,o,i];exact⟨trivial,trivial,trivial,trivial,c,k,d,f,e,n,by rw[j];exact hk⟩
 exact h
end bytes
theorem rf2{f:an}{h:Array Tmp}{a c:Code}{Q:bC->St->Prop}{env:Env}{heap:Heap}{q:Cx}{g:ao}{fi ca:List PV}{b:List (List PV)}(aH:Stream P g fi ca b)(hf:ev env f= .p (.func g fi ca))(hq:q.2<=heap.length)
 (X F:fh->Nat->Heap)(okB:Nat->Bool)(j:Code)(k:Nat)(hk:k<=b.length)(u:∀i,i<k->okB i=true)(r:k=b.length\/(k<b.length/\okB k=false))(m:∀L,X L 0=heap++[.loop L])
 (hx:∀L,L=⟨.ready,none,q.1,h.toList,a,c,env⟩->∀i,i<=k->(X L i)[heap.length]?=some (.loop L)/\iS (X L i) env/\(iS (X L i) env->(∀x,aE (aI (X L i)) (aN L.env x))->eL (X L i) (X L i)))
 (l:∀L,L=⟨.ready,none,q.1,h.toList,a,c,env⟩->∀i x,i<=k->b[i]?=some x->iD P heap.length (X L i) (x.map .p) (if okB i=true then X L (i+1)else F L (i+1)) (.p (.bool (okB i))))
 (n:∀L,(F L (k+1))[heap.length]?=some (.loop (L.dn j)))
 (s:k=b.length->∀L,Q .normal ⟨env,(X L k).set heap.length (.loop L.xh)⟩)
 (v:k<b.length->∀L,kr Q (some j) ⟨env,(F L (k+1)).set heap.length (.loop (L.dn j).xh)⟩):
 ff P ag q (.rangeFunc f h a c) Q ⟨env,heap⟩:=by
 refine rf aH hf hq X k hk m hx (fun L e i x hi t=>?_) (fun L e=>?_)
 ·have:=l L e i x (by omega) t;rw[u i hi]at this;exact this
 ·rcases r with d|⟨d,o⟩
  ·exact .inl ⟨d,s d L⟩
  ·right;refine⟨b[k],j,F L (k+1),a3 d,n L,?_,v d L⟩;have:=l L e k b[k] (a8 _) (a3 d);rw[o]at this;exact this
attribute [simp] Yo aJz Mu De Wd Yq aJs We Z2 rz
end
section
variable{P:ar}{ag:ao->Bool}{w:ay}{aa ah:Nat->Prop}{β:Bd}{H:Heap}
def nh(K:Nat->Bool)(H:Heap):Heap:=H.mapIdx fun i o=>if K i then .dead else o
theorem CF{K:Nat->Bool}{b:Nat}:(nh K H)[b]?=(H[b]?).map fun o=>if K b then .dead else o:=by simp[nh]
theorem lA{K:Nat->Bool}{b:Nat}{o:Obj}(h:(nh K H)[b]?=some o):∃a,H[b]?=some a/\((K b=true/\o=.dead)\/(K b=false/\o=a)):=by
 rw[CF,Option.map_eq_some_iff]at h;obtain⟨a,d,c⟩:=h;refine⟨a,d,?_⟩;cases hk:K b<;>simp[hk]at c
 ·exact .inr ⟨rfl,c.symm⟩
 ·exact .inl ⟨rfl,c.symm⟩
theorem C8{K:Nat->Bool}{x:Nat×Nat}(h:aI H x):aI (nh K H) x:=by
 obtain⟨o,a,b⟩:=h;refine⟨if K x.1 then .dead else o,by rw[CF,a];rfl,?_⟩
 split
 ·trivial
 ·exact b
theorem Ci{K:Nat->Bool}:cd β H β (nh K H):=by
 refine⟨fun b _ h=>⟨?_,rfl⟩,fun b _ h=>⟨?_,rfl⟩,fun b _ h=>⟨?_,rfl⟩,fun b aA ai k f _ h=>⟨k,f,?_,a8 _,Iff.rfl,fun _=>⟨rfl,rfl⟩⟩,fun b _ h=>⟨?_,rfl⟩⟩
 ·obtain⟨fz,t,h⟩:=h;obtain⟨d,c,a⟩:=lA h;rcases a with⟨_,a⟩|⟨_,rfl⟩
  ·cases a
  ·exact⟨fz,t,c⟩
 ·obtain⟨s,q,h⟩:=h;obtain⟨d,c,a⟩:=lA h;rcases a with⟨_,a⟩|⟨_,rfl⟩
  ·cases a
  ·exact⟨s,q,c⟩
 ·obtain⟨g,h,e⟩:=h;obtain⟨d,c,a⟩:=lA h;rcases a with⟨_,rfl⟩|⟨_,rfl⟩
  ·exact e.elim
  ·exact⟨_,c,e⟩
 ·obtain⟨d,c,a⟩:=lA h;rcases a with⟨_,a⟩|⟨_,rfl⟩
  ·cases a
  ·exact c
 ·obtain⟨L,h⟩:=h;obtain⟨d,c,a⟩:=lA h;rcases a with⟨_,a⟩|⟨_,rfl⟩
  ·cases a
  ·exact⟨L,c⟩
def Bi(K:Nat->Bool)(aa:Nat->Prop)(β:Bd)(H:Heap)(k:Nat):Prop:=aa k\/∃(b:Nat)(o:Obj),H[b]?=some o/\o.live/\K b=true/\β.al b=k
theorem bS.kill(K:Nat->Bool)(a:bS P w aa β H ah):bS P w aa β (nh K H) ah:=by
 refine⟨fun b o e=>?_,fun b b' o o' e n f g m l=>?_,fun b o e=>?_,a.bR,a.er,a.ia⟩
 ·obtain⟨i,c,d⟩:=lA e;rcases d with⟨_,rfl⟩|⟨_,rfl⟩
  ·trivial
  ·exact ft.carry (fun _ x=>x) (fun _ _=>rfl) Ci (a.refs b o c) (fun _=>⟨rfl,rfl,rfl⟩) (fun _ _ h=>h) (a.cF b o c)
 ·obtain⟨i,c,d⟩:=lA e;obtain⟨p,j,k⟩:=lA n;rcases d with⟨_,rfl⟩|⟨_,rfl⟩
  ·exact f.elim
  rcases k with⟨_,rfl⟩|⟨_,rfl⟩
  ·exact g.elim
  exact a.inj b b' _ _ c j f g m l
 ·obtain⟨i,c,d⟩:=lA e;rcases d with⟨_,rfl⟩|⟨_,rfl⟩
  ·trivial
  ·exact Obj.wj (fun _ h=>C8 h) (a.refs b o c)
theorem bS.aER(K:Nat->Bool)(a:bS P w aa β H ah):bS P w (Bi K aa β H) β (nh K H) ah:=by
 have hk:=a.kill K;have hi:∀k,aa k->Bi K aa β H k:=fun k h=>.inl h;refine⟨fun b o c=>?_,fun b b' o o' c r d p q n=>hk.inj b b' o o' c r d p (fun h=>q (hi _ h)) n,hk.refs,fun k h=>?_,a.er,⟨fun g=>aD.mono hi (fun _ _=>rfl) _ _ (a.ia.val g),fun g cs h=>⟨hi _ (a.ia.raw g cs h).1,(a.ia.raw g cs h).2⟩⟩⟩
 ·have f:=c;obtain⟨t,j,l⟩:=lA c;rcases l with⟨_,rfl⟩|⟨s,rfl⟩
  ·trivial
  ·refine ft.carry hi (fun _ _=>rfl) (cd.refl β _) (hk.refs b o f) (fun _=>⟨rfl,rfl,rfl⟩) (fun d fz h=>?_) (hk.cF b o f);cases fz with
   |true=>exact hi _ h
   |false=>
    refine⟨?_,h.2⟩;rintro(m|⟨e,i,g1,g2,g3,g4⟩)
    ·exact h.1 m
    ·have:=a.inj e b i o g1 j g2 d (by rw[g4];exact h.1) g4;rw[this,s]at g3;cases g3
 ·rcases h with h|⟨e,i,g1,g2,g3,rfl⟩
  ·exact a.bR k h
  ·exact a.mQ g1 g2
theorem ft.held{b:Nat}{o:Obj}(h:ft P w aa β H ah b o)(a:o.live):aa (β.al b)\/¬ah (β.al b):=by
 by_cases hi:aa (β.al b)
 ·exact .inl hi
 ·exact .inr (h.mut a hi)
theorem cw.pure{f:ao}{args:List AV}{H':Heap}{v:AV}{n:Nat}{p:PV}(K:Nat->Bool)(h:cw P f H args H' v)(C:et (nh (fun i=>!K i) H') n v=some p)(B:∀b L,K b=true->H[b]?≠some (.loop L)):
 cw P f H args (nh K H') (.p p):=by
 refine⟨h.1,fun w aa ah β t E z F=>(h.2 w aa ah β t E z F).mono ?_⟩;rintro e w' ⟨j,aJ,aF,rfl,d,G,r⟩;have q:=d.rel;have A:=q.kill (fun i=>!K i);have I:aB P w' aF aJ (nh (fun i=>!K i) H') v j:=aB.mono (fun _ x=>x) (fun _ _=>rfl) Ci _ _ r G;have D:=vN A n v p C (aE.mono (fun _ h=>C8 h) v r) j I;refine⟨j,aJ,Bi K aF aJ H',rfl,⟨fun k hk=>.inl (d.bR k hk),?_,d.ext,?_,q.aER K,fun x hx=>C8 (d.fp x hx),?_⟩,?_,trivial⟩
 ·rintro k (hk|⟨b,o,g1,g2,g3,rfl⟩)
  ·exact d.fresh k hk
  ·rcases(q.cF b o g1).held g2 with h|h
   ·exact d.fresh _ h
   ·exact .inr h
 ·have aH:=d.step;have hk:=Ci (K:=K) (β:=aJ) (H:=H');refine⟨fun b a c=>?_,fun b a c=>?_,fun b a c=>?_,fun b aA ai k es a c=>?_,fun b a c=>?_⟩
  ·exact aH.box b a (hk.box b (d.fp _ a) c).1
  ·exact aH.it b a (hk.it b (d.fp _ a) c).1
  ·exact aH.map b a (hk.map b (d.fp _ a) c).1
  ·have u:eX H' b aA ai k es:=by
    obtain⟨M,l,g⟩:=lA c;rcases g with⟨_,g⟩|⟨_,rfl⟩
    ·cases g
    ·exact l
   exact aH.arr b aA ai k es a u
  ·exact aH.loop b a (hk.loop b (d.fp _ a) c).1
 ·rintro b ⟨L,c⟩;obtain⟨s,y⟩:=d.loop b ⟨L,c⟩;have m:K b=false:=by
   cases m:K b with
   |false=>rfl
   |true=>exact(B b L m c).elim
  exact⟨s,by rw[CF,y];simp[m]⟩
 ·show aD P w' _ p j;refine aD.mono ?_ (fun _ _=>rfl) _ _ D;rintro k (hk|⟨b,o,g1,g2,rfl⟩)
  ·exact .inl hk
  ·obtain⟨M,l,g⟩:=lA g1;rcases g with⟨_,rfl⟩|⟨J,rfl⟩
   ·exact g2.elim
   ·exact .inr ⟨b,o,l,g2,by simpa using J,rfl⟩
end
section
variable{P:ar}{w:ay}{aa ah:Nat->Prop}{β:Bd}
theorem tD{t t':AV}{r:Heap}:cd β (.box false t::r) β (.box false t'::r):=by
 refine⟨fun b _ h=>⟨?_,rfl⟩,fun b _ h=>⟨?_,rfl⟩,fun b _ h=>⟨?_,rfl⟩,fun b aA ai k c _ h=>⟨k,c,?_,a8 _,Iff.rfl,fun _=>⟨rfl,rfl⟩⟩,fun b _ h=>⟨?_,rfl⟩⟩
 ·cases b with
  |zero=>exact⟨false,t,rfl⟩
  |succ b=>exact h
 ·obtain⟨s,q,h⟩:=h;cases b with
  |zero=>simp at h
  |succ b=>exact⟨s,q,h⟩
 ·obtain⟨d,h,a⟩:=h;cases b with
  |zero=>simp at h;subst h;exact a.elim
  |succ b=>exact⟨d,h,a⟩
 ·cases b with
  |zero=>simp[eX]at h
  |succ b=>exact h
 ·obtain⟨L,h⟩:=h;cases b with
  |zero=>simp at h
  |succ b=>exact⟨L,h⟩
theorem qY{t t':AV}{r:Heap}{x:Nat×Nat}(h:aI (.box false t::r) x):aI (.box false t'::r) x:=by
 obtain⟨o,a,c⟩:=h;obtain⟨b,v⟩:=x;cases b with
 |zero=>exact⟨_,rfl,trivial⟩
 |succ b=>exact⟨o,a,c⟩
theorem bS.swap{t d:AV}{r:Heap}(c:bS P w aa β (.box false t::r) ah)(hc:∀cs,br P w aa β (.box false t::r) t cs->br P w aa β (.box false t::r) d cs)(l:∀T,jo T (ad d)=true)
 (g:∀n,aE n t->aE n d):bS P w aa β (.box false d::r) ah:=by
 refine⟨fun b o a=>?_,fun b b' o o' a s f p q m=>?_,fun b o a=>?_,c.bR,c.er,c.ia⟩
 ·cases b with
  |zero=>
   simp at a;subst a;obtain⟨cs,T,i,j,k,y,z⟩:=c.cF 0 _ rfl;have u:=c.refs 0 _ rfl;exact⟨cs,T,i,br.mono (fun _ x=>x) (fun _ _=>rfl) tD _ _ (g _ u) (hc _ j),k,(fun h=>absurd h (by simp)),l T⟩
  |succ b=>exact ft.carry (fun _ x=>x) (fun _ _=>rfl) tD (c.refs (b+1) o a) (fun _=>⟨rfl,rfl,rfl⟩) (fun _ _ h=>h) (c.cF (b+1) o a)
 ·have key:∀{b:Nat}{o:Obj},(Obj.box false d::r)[b]?=some o->o.live->∃e,(Obj.box false t::r)[b]?=some e/\e.live:=by
   intro b o a f;cases b with
   |zero=>exact⟨_,rfl,trivial⟩
   |succ b=>exact⟨o,a,f⟩
  obtain⟨e,k1,k2⟩:=key a f;obtain⟨v,k3,k4⟩:=key s p;exact c.inj b b' e v k1 k3 k2 k4 q m
 ·cases b with
  |zero=>
   simp at a;subst a;exact aE.mono (fun _ h=>qY h) _ (g _ (c.refs 0 _ rfl))
  |succ b=>exact Obj.wj (fun _ h=>qY h) (c.refs (b+1) o a)
theorem MF{H:Heap}{u:ap}{n:Nat}(f:dR P u=some [n]){t:AV}{cs:List ax}:br P w aa β H (.st u [t]) cs↔br P w aa β H t cs/\cs.length=n:=by
 simp only[br,f,bk];constructor
 ·rintro⟨l,g,rfl,a,rfl⟩;simp only[bM]at a;obtain⟨c,d,rfl,b,e,rfl⟩:=a;simpa using⟨b,e⟩
 ·rintro⟨a,b⟩;exact⟨[n],[cs],rfl,by simp only[bM];exact⟨cs,[],rfl,a,b,rfl⟩,by simp⟩
theorem cw.wrap{f:ao}{u:ap}{n:Nat}{t i:AV}{r j:Heap}{args:List AV}{v:AV}(q:dR P u=some [n])(a:∀T,jo T (.agg u)=true)(F:∀T,jo T (ad t)=true)(G:∀(w:ay)(aa:Nat->Prop)(β:Bd)(H:Heap)(cs:List ax),br P w aa β H i cs->cs.length=n)
 (h:cw P f (.box false t::r) (.ptr 0 []::args) (.box false i::j) v):cw P f (.box false (.st u [t])::r) (.ptr 0 [(u,0)]::args) (.box false (.st u [i])::j) v:=by
 refine⟨h.1,fun w aa ah β O J D y=>?_⟩;have K:bS P w aa β (.box false t::r) ah:=J.swap (fun cs h=>((MF q).1 h).1) F (fun n h=>by simpa[aE,aS]using h);obtain⟨x,xs,rfl,h1,C⟩:=D;have E:bB P w aa β (.box false t::r) (.ptr 0 []::args) (x::xs):=by
  refine⟨x,xs,rfl,?_,bB.mono (fun _ x=>x) (fun _ _=>rfl) tD _ _ y.2 C⟩;obtain⟨q1,al,off,o,s,N,q4⟩:=h1;refine⟨q1,al,off,0,s,rfl,fun _=>?_⟩;have I:o=0:=by simpa[gn,q]using N.symm
  have:=q4 (.inl ⟨false,_,rfl⟩);rw[I]at this;exact this
 refine(h.2 w aa ah β (x::xs) K E ⟨⟨_,rfl,trivial⟩,aS.mono (fun _ h=>qY h) _ y.2⟩).mono ?_;rintro e w' ⟨B,aJ,aF,rfl,g,M,z⟩;refine⟨B,aJ,aF,rfl,⟨g.bR,g.fresh,g.ext,?_,?_,fun x hx=>qY (g.fp x (qY hx)),?_⟩,aB.mono (fun _ x=>x) (fun _ _=>rfl) tD _ _ z M,aE.mono (fun _ h=>qY h) _ z⟩
 ·have aH:=g.step;have m:=tD (β:=β) (t:=.st u [t]) (t':=t) (r:=r);have p:=tD (β:=aJ) (t:=i) (t':=.st u [i]) (r:=j);have d:∀x,aI (.box false (.st u [t])::r) x->aI (.box false t::r) x:=fun x h=>qY h;have l:∀x,aI (.box false t::r) x->aI (.box false i::j) x:=g.fp;refine⟨fun b a c=>?_,fun b a c=>?_,fun b a c=>?_,fun b aA ai k es a c=>?_,fun b a c=>?_⟩
  ·obtain⟨k1,k2⟩:=p.box b (l _ (d _ a)) c;obtain⟨k3,k4⟩:=aH.box b (d _ a) k1;exact⟨(m.box b a k3).1,k4⟩
  ·obtain⟨k1,k2⟩:=p.it b (l _ (d _ a)) c;obtain⟨k3,k4⟩:=aH.it b (d _ a) k1;exact⟨(m.it b a k3).1,k4⟩
  ·obtain⟨k1,k2⟩:=p.map b (l _ (d _ a)) c;obtain⟨k3,k4⟩:=aH.map b (d _ a) k1;exact⟨(m.map b a k3).1,k4⟩
  ·have k1:eX (.box false i::j) b aA ai k es:=by
    cases b with
    |zero=>simp[eX]at c
    |succ b=>exact c
   obtain⟨k0,gI,q1,s⟩:=aH.arr b aA ai k es (d _ a) k1;refine⟨k0,gI,?_,s⟩;cases b with
   |zero=>simp[eX]at q1
   |succ b=>exact q1
  ·obtain⟨k1,k2⟩:=p.loop b (l _ (d _ a)) c;obtain⟨k3,k4⟩:=aH.loop b (d _ a) k1;exact⟨(m.loop b a k3).1,k4⟩
 ·exact g.rel.swap (fun cs h=>(MF q).2 ⟨h,G _ _ _ _ _ h⟩) a (fun n h=>by simpa[aE,aS]using h)
 ·rintro b ⟨L,c⟩;have k1:gQ (.box false t::r) b:=by
   cases b with
   |zero=>simp at c
   |succ b=>exact⟨L,c⟩
  obtain⟨A,k2⟩:=g.loop b k1;cases b with
  |zero=>simp at k2
  |succ b=>exact⟨A,k2⟩
end
section
variable{P:ar}{w:ay}{aa ah:Nat->Prop}{β:Bd}
def uD(n:Nat):Heap:=a5 n .dead
theorem nL{n b:Nat}{o:Obj}(h:(uD n)[b]?=some o):o=.dead:=by
 simp only[uD,a4]at h
 split at h
 ·injection h with h;exact h.symm
 ·cases h
theorem cw.cut{f:ao}{H:Heap}{args:List AV}{n:Nat}{p:PV}(h:cw P f H args (uD n) (.p p)):cw P f H args (uD H.length) (.p p):=by
 refine⟨h.1,fun w aa ah β i v r y=>(h.2 w aa ah β i v r y).mono ?_⟩;rintro e w' ⟨j,aJ,aF,rfl,a,z,A⟩;have no:∀{m b:Nat}{o:Obj},(uD m)[b]?=some o->o.live->False:=fun h d=>by rw[nL h]at d;exact d
 refine⟨j,aJ,aF,rfl,⟨a.bR,a.fresh,a.ext,⟨?_,?_,?_,?_,?_⟩,⟨fun b o c=>by rw[nL c];trivial,fun b b' o o' c _ d=>(no c d).elim,fun b o c=>by rw[nL c];trivial,a.rel.bR,a.rel.er,a.rel.ia⟩,?_,?_⟩,z,trivial⟩
 ·rintro b _ ⟨fz,t,h⟩;cases nL h
 ·rintro b _ ⟨fz,t,h⟩;cases nL h
 ·rintro b _ ⟨B,h,g⟩;rw[nL h]at g;exact g.elim
 ·intro b aA ai k es _ h;cases nL h
 ·rintro b _ ⟨L,h⟩;cases nL h
 ·rintro x ⟨o,l,_⟩;have u:=(a0.1 l).1;exact⟨.dead,by rw[uD,a4,if_pos u],trivial⟩
 ·intro b s;obtain⟨L,q⟩:=a.loop b s;cases nL q
theorem cw.dd{f:ao}{H H':Heap}{args:List AV}{v v':PV}(h:cw P f H args H' (.p v))(k:Wk v v'):cw P f H args H' (.p v'):=by
 refine⟨h.1,fun w aa ah β a i d j=>(h.2 w aa ah β a i d j).mono ?_⟩;rintro e w' ⟨b,aJ,aF,rfl,g,c,l⟩;exact⟨b,aJ,aF,rfl,g,aD.dd _ _ _ k c,trivial⟩
end
section
variable{P:ar}
def Av(P:ar)(a:List av)(N:Nat)(Q:AV->Heap->Prop)(e:Tg (a,N,Q) bC)(s:Tg (a,N,Q) St):Prop:=
 (match e with
  | .exit _=>False
  |_=>True)/\∃vs,fK P s a=some vs/\∃H',Q (oneOf vs) H'/\(H'=St.heap s\/(dt N s ⟨[],H'⟩/\aE (aI H') (oneOf vs)))
theorem W3{a:List av}{N:Nat}{Q:AV->Heap->Prop}{s:St}:Av P a N Q .ret s=∃vs,fK P s a=some vs/\∃H',Q (oneOf vs) H'/\(H'=s.heap\/(dt N s ⟨[],H'⟩/\aE (aI H') (oneOf vs))):=by simp[Av]
theorem UW{a:List av}{N:Nat}{Q:AV->Heap->Prop}{s:St}:Av P a N Q .normal s=∃vs,fK P s a=some vs/\∃H',Q (oneOf vs) H'/\(H'=s.heap\/(dt N s ⟨[],H'⟩/\aE (aI H') (oneOf vs))):=by simp[Av]
attribute [simp] W3 UW
end
section
variable{P:ar}
theorem aC.heap{f:ao}{vs j:List PV}{v:PV}{H H1:Heap}{args:List AV}(h:aC P f vs v)(g:Enters P f)(o:nB H args=some (j,H1))(l:bG j vs:=by first|exact bG.refl _|simp):cw P f H args H1 (.p v):=by
 refine⟨g,fun w aa ah β x u r q=>?_⟩;obtain⟨b,a,i⟩:=Ct o u r q;rcases h.dd l (Wk.refl _)with m|n
 ·intro cs;obtain⟨e,w',k,⟨c,aF,he,m1,m2,m3,m4,m5,m6,m7⟩,aH,s,t⟩:=m.2 w b _ a.rel.bR a.rel.ia i cs;subst he;exact⟨_,w',k,⟨c,β,aF,rfl,a.trans (a.rel.later m1 m2 m3 m4 m5 m6),by simpa[aB]using m7,by simp[aE]⟩,aH,s,t⟩
 ·obtain⟨c,d,_⟩:=n w b _ i;rw[g]at d;cases d
theorem Hw{w:ay}{aa ah:Nat->Prop}{β:Bd}{H:Heap}{n:Nat}(e:bS P w aa β H ah):∀{args:List AV}{vs:List PV}{c:List ax},jf (et H n) args=some vs->aS (aI H) args->bB P w aa β H args c->bt P w (Aj aa β H) vs c
 |[],vs,c,h,_,b=>by
  simp[jf]at h;subst h;simp only[bB]at b;simpa[bt]using b
 |a::args,vs,c,h,d,b=>by
  simp only[jf]at h
  split at h
  case h_2=>simp at h
  rename_i y j f g;simp at h;subst h;simp only[bB]at b;obtain⟨z,i,rfl,k1,k2⟩:=b;simp only[aS]at d;simp only[bt];exact⟨z,i,rfl,vN e n a y f d.1 z k1,Hw e g d.2 k2⟩
end
section
variable{P:ar}{ag:ao->Bool}
theorem Se{H J:Heap}{x:Nat×Nat}(h:aI H x):aI (H++J) x:=by
 obtain⟨o,a,b⟩:=h;exact⟨o,by rw[List.getElem?_append_left (a0.1 a).1];exact a,b⟩
theorem eL.up{S T:Heap}(a:∀x,aI S x->aI T x):∀{h:Heap},eL S h->eL T h
 |[],_=>trivial
 |_::_,h=>⟨Obj.wj a h.1,eL.up a h.2⟩
theorem eL.app{H J:Heap}(h:eL H H)(a:eL (H++J) J):eL (H++J) (H++J):=by
 rw[De];exact⟨h.up fun _=>Se,a⟩
end
section
variable{P:ar}
theorem aC.AX{f:ao}{vs:List PV}{v:PV}{k:AK}{aA ai:Nat}{c:List AV}{M:List PV}{args:List AV}(n:Nat)(h:aC P f vs v)(q:Enters P f)(L:dO c=some M)(l:¬(k.gr=true/\c=[]))(E:lO [.arr k aA ai c] n args vs):
 cw P f [.arr k aA ai c] args [.arr .frozen aA ai c] (.p v):=by
 obtain⟨N,B,g⟩:=ri n (fun x v h=>pX n x v h) args vs E;refine⟨q,fun w aa ah β y j G F=>?_⟩;have i:([.arr k aA ai c]:Heap)[0]?=some (.arr k aA ai c):=rfl;have r:=lC L;have s:¬df .frozen c:=fun h=>by cases h.1
 have aH:cd β [.arr k aA ai c] β (([.arr k aA ai c]:Heap).set 0 (.arr .frozen aA ai c)):=qJ i (.inr (.inl ⟨_,_,_,_,_,rfl,rfl,l,s⟩));rcases j.cF 0 _ i with hold|⟨cs,T,z,rest,g1,g2,g3,g4,g5,g6,g7,g8⟩
 ·exact(l hold).elim
 obtain⟨aF,d,J⟩:=qN j i l (o':=.arr .frozen aA ai c) s (fun _ h=>h) (fun _ h=>by cases h) aH g7.rG
  (fun aF hi H=>.inr ⟨cs,T,z,rest,g1,bM.mono hi (fun _ _=>rfl) aH _ _ _ (j.refs 0 _ i) g2,g3,g4,g5,(fun h=>by cases h),H,fun _ e he=>(by rw[r]at he;simp at he;obtain⟨a,_,rfl⟩:=he;trivial),fun h=>by cases h⟩)
  (by rw[r];exact iW _ _)
 have t:bt P w aF N y:=bt.mono (by
  rintro x (hk|⟨b,o,q1,O,rfl⟩)
  ·exact d.bR _ hk
  ·have:b=0:=by
    rcases b with _|b
    ·rfl
    ·simp at q1
   subst this;exact J) (fun _ _=>rfl) _ _ (Hw j B F G)
 rcases h.dd g (Wk.refl _)with C|D
 ·intro cs;obtain⟨e,w',A,⟨m,u,he,m1,m2,m3,m4,m5,m6,m7⟩,aH,I,K⟩:=C.2 w _ _ d.rel.bR d.rel.ia t cs;subst he;exact⟨_,w',A,⟨m,β,u,rfl,d.trans (d.rel.later m1 m2 m3 m4 m5 m6),by simpa[aB]using m7,by simp[aE]⟩,aH,I,K⟩
 ·obtain⟨m,g,_⟩:=D w _ _ t;rw[q]at g;cases g
end
end Go.au
