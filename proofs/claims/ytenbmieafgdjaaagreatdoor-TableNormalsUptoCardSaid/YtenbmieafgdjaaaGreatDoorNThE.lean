import Derived.Test.YtenbmieafgdjaaaGreatDoorNThD
/- Parts of a proof. -/
set_option linter.unusedSimpArgs false
set_option linter.unusedVariables false
set_option linter.unusedSectionVars false
open Bool renaming cond_eq_ite->ab, and_eq_true->ac, false_eq_true->am
open Go renaming Operand->ao, FuncId->ap, TypeId->av, Program->ax, ResultVar->ay, Value->aT, World->a0
open List renaming mem_map->a1, getElem?_eq_some_iff->a3, map_cons->a4, getElem?_eq_getElem->a5, getElem?_replicate->a6, replicate->a7, rec->a8
open Nat renaming ble->a9, le_refl->bb, pow_succ->be, beq->bi, mod_lt->bk
open Option renaming ite_none_right_eq_some->bl
open Option.some renaming injEq->bo
open Prod.mk renaming injEq->br
namespace Go.au
set_option linter.unusedSectionVars false
variable[Gl]
inductive RT where
 |lf
 |vl (v:AV)
 |nd (a b c d:RT)
inductive Q4 where|a|b|c|d
def q4(n:Nat):Q4:=match n with
 |0=>.a
 |1=>.b
 |2=>.c
 |_=>.d
def pathOf:Nat->Nat->List Q4
 |0,_=>[]
 |k+1,n=>q4 (n% 4)::pathOf k (n/4)
noncomputable def u7(p:List Q4):RT->AV:=
 a8 (motive:=fun _=>RT->AV) (fun R=>RT.rec (motive:=fun _=>AV) (.p .undef) (fun v=>v) (fun _ _ _ _ _ _ _ _=>.p .undef) R)
  (fun q _ e R=>RT.rec (motive:=fun _=>AV) (.p .undef) (fun _=>.p .undef) (fun a b c d _ _ _ _=>Q4.rec (motive:=fun _=>AV) (e a) (e b) (e c) (e d) q) R) p
noncomputable def Dq(v:AV)(p:List Q4):RT->RT:=
 a8 (motive:=fun _=>RT->RT) (fun _=>.vl v)
  (fun q _ e R=>RT.rec (motive:=fun _=>RT)
   (Q4.rec (motive:=fun _=>RT) (.nd (e .lf) .lf .lf .lf) (.nd .lf (e .lf) .lf .lf) (.nd .lf .lf (e .lf) .lf) (.nd .lf .lf .lf (e .lf)) q)
   (fun _=>Q4.rec (motive:=fun _=>RT) (.nd (e .lf) .lf .lf .lf) (.nd .lf (e .lf) .lf .lf) (.nd .lf .lf (e .lf) .lf) (.nd .lf .lf .lf (e .lf)) q)
   (fun a b c d _ _ _ _=>Q4.rec (motive:=fun _=>RT) (.nd (e a) b c d) (.nd a (e b) c d) (.nd a b (e c) d) (.nd a b c (e d)) q) R) p
noncomputable def jD(k:Nat)(R:RT)(n:Nat):AV:=bif a9 (n+1) (4^k)then u7 (pathOf k n) R else .p .undef
noncomputable def vy(k:Nat)(R:RT)(n:Nat)(v:AV):RT:=Dq v (pathOf k n) R
theorem I8:∀(p:List Q4),u7 p .lf=.p .undef
 |[]=>rfl
 |_::_=>rfl
theorem Hp(v:AV):∀(p:List Q4)(R:RT),u7 p (Dq v p R)=v
 |[],_=>rfl
 |x::p,R=>by
  cases R<;>cases x<;>exact Hp v p _
theorem Gu(v:AV):∀(p q:List Q4)(R:RT),p.length=q.length->p≠q->u7 p (Dq v q R)=u7 p R
 |[],[],R,_,h=>(h rfl).elim
 |[],_::_,R,h,_=>by simp at h
 |_::_,[],R,h,_=>by simp at h
 |x::p,y::q,R,h,f=>by
  have g:=fun R(f:p≠q)=>Gu v p q R (by simpa using h) f;have i:=I8 p;cases R with
  |nd a b c d=>
   cases x<;>cases y<;>first
    |rfl
    |exact g _ (fun e=>f (by rw[e]))
  |_=>
   cases x<;>cases y<;>first
    |exact i
    |exact(g _ (fun e=>f (by rw[e]))).trans i
theorem zY:∀k n,(pathOf k n).length=k
 |0,_=>rfl
 |k+1,n=>by simp[pathOf,zY k]
theorem aAp{m n:Nat}(a:m<4)(b:n<4)(h:q4 m=q4 n):m=n:=by
 have hc:∀n,n<4->n=0\/n=1\/n=2\/n=3:=by omega
 rcases hc m a with rfl|rfl|rfl|rfl<;>rcases hc n b with rfl|rfl|rfl|rfl<;>simp[q4]at h<;>rfl
theorem Hr:∀(k m n:Nat),m<4^k->n<4^k->pathOf k m=pathOf k n->m=n
 |0,m,n,a,b,_=>by simp at a b;omega
 |k+1,m,n,a,b,h=>by
  simp only[pathOf,List.cons.injEq]at h;have c:=aAp (bk _ (by omega)) (bk _ (by omega)) h.1;have d:=Hr k (m/4) (n/4) (by rw[be]at a;omega) (by rw[be]at b;omega) h.2;omega
theorem KB(k n:Nat):jD k .lf n=.p .undef:=by
 simp[jD,I8]
theorem V8{a b:Nat}(h:a<=b):a9 a b=true:=Nat.ble_eq_true_of_le h
theorem Lc{a b:Nat}(h:¬a<=b):a9 a b=false:=by
 cases c:a9 a b
 ·rfl
 ·exact(h (cW c)).elim
theorem AD(k:Nat)(R:RT)(d x:Nat)(v:AV)(h:d<4^k):jD k (vy k R d v) x=if x=d then v else jD k R x:=by
 unfold jD vy
 by_cases hx:x+1<=4^k
 ·simp only[V8 hx,cond_true]
  by_cases a:x=d
  ·subst a;rw[Hp,if_pos rfl]
  ·rw[if_neg a,Gu _ _ _ _ (by rw[zY,zY]) (fun e=>a (Hr k x d (by omega) h e))]
 ·have:x≠d:=by omega
  simp only[Lc hx,cond_false,this,if_false]
def Rel(k:Nat)(e:Env)(R:RT):Prop:=∀x,aM e x=jD k R x
noncomputable def kj(k:Nat)(d:Option Nat)(v:AV)(R:RT):Option RT:=
 match d with
 |none=>some R
 |some d=>bif a9 (d+1) (4^k)then some (vy k R d v)else none
theorem um{k:Nat}{d:Option Nat}{v:AV}{R a:RT}{e:Env}(h:kj k d v R=some a)(b:Rel k e R):Rel k (put d v e) a:=by
 unfold kj at h
 split at h
 ·simp only[bo]at h;subst h;exact b
 ·simp only[ab,bl,bo]at h;obtain⟨c,rfl⟩:=h;intro x;rw[AD _ _ _ _ _ (by have:=cW c;omega)];simp only[put,aM]
  split
  ·rfl
  ·exact b x
noncomputable def jy(k:Nat)(R:RT):ao->AV
 | .tmp t=>jD k R t
 | .const v=>.p (ofConst v)
 | .global g=>.p (Gl.g g)
 | .func f=>.p (.func f [] [])
theorem yj{k:Nat}{R:RT}{e:Env}(a:Rel k e R):jy k R=ev e:=by
 funext o;cases o<;>simp[jy,ev,a _]
def oV(H:Heap)(e:aU):Heap:=
 match e.aK,e.aS with
 |[],[]=>H
 |_,_=>bd H e.aK++e.aS
theorem Jl(H:Heap)(e:aU):oV H e=bd H e.aK++e.aS:=by
 unfold oV;split
 ·rename_i a b;simp[a,b,bd]
 ·rfl
structure jv where
 cP:ap->List AV->Heap->Option (AV×Heap)
 cD:ap->List AV->Heap->Option aU
 cY:Nat->Heap->List AV->Option (Heap×AV)
 cI:AV->Nat->Heap->Option Heap
 yT:Nat->List AV->Heap->Option aU
structure jE(P:ax)(B:jv):Prop where
 cP:∀f args H v H',B.cP f args H=some (v,H')->∀K:AV->Heap->Prop,K v H'->gE P false f args H K
 cD:∀f args H e,B.cD f args H=some e->∀K:aU->Prop,K e->gL P f args H K
 cY:∀b H args H' v,B.cY b H args=some (H',v)->ia P b H args H' v
 cI:∀it b H H',B.cI it b H=some H'->∀K:Heap->Prop,K H'->jw P it b H K
 yT:∀b args H e,B.yT b args H=some e->sv P b args H.length e/\oU H e
section
variable(P:ax)(ag:ap->Bool)(B:jv)(k:Nat)
noncomputable def vw(o:Oper)(R:RT)(H:Heap):Option (RT×Heap):=
 match o.op with
 | .call {callee:=.value f,args,.. }=>match(match jy k R f with
  | .p (.func g fi ca)=>B.cP g (fi.map .p++args.toList.map (jy k R)++ca.map .p) H
  | .func g fi ca=>B.cP g (fi++args.toList.map (jy k R)++ca) H
  | .map b=>match B.cY b H (args.toList.map (jy k R))with
   |some (H',v)=>some (v,H')
   |none=>none
  |_=>none)with
  |some (v,H')=>match kj k o.dst v R with
   |some a=>some (a,H')
   |none=>none
  |none=>none
 |_=>match zb P ag o (jy k R) H with
  |some e=>match kj k o.dst e.v R with
   |some a=>some (a,oV H e)
   |none=>none
  |none=>none
noncomputable def yh(a:Array Oper)(j:Nat)(R:RT):AV:=
 match(a[j]?).bind (·.dst)with
 |some d=>jD k R d
 |none=>.p (.aC [])
noncomputable def mF(b:Array Oper):List Oper->RT->Heap->Option (RT×Heap)
 |[],R,H=>some (R,H)
 |o::r,R,H=>match o.guard with
  |none=>match vw P ag B k o R H with
   |some (a,H')=>mF b r a H'
   |none=>none
  |some (j,want)=>match yh k b j R with
   | .p (.bool t)=>match t,want with
    |true,true|false,false=>match vw P ag B k o R H with
     |some (a,H')=>mF b r a H'
     |none=>none
    |_,_=>match kj k o.dst (.p (.aC [])) R with
     |some a=>mF b r a H
     |none=>none
   | .p (.aC [])=>match kj k o.dst (.p (.aC [])) R with
    |some a=>mF b r a H
    |none=>none
   |_=>none
noncomputable def vi(o:Oper)(R:RT)(H:Heap):Option aU:=
 match o.op with
 | .call {callee:=.value f,args,.. }=>match jy k R f with
  | .p (.func g fi ca)=>B.cD g (fi.map .p++args.toList.map (jy k R)++ca.map .p) H
  | .func g fi ca=>B.cD g (fi++args.toList.map (jy k R)++ca) H
  | .map b=>B.yT b (args.toList.map (jy k R)) H
  |_=>none
 |_=>zb P ag o (jy k R) H
noncomputable def mr(b:Array Oper):List Oper->Nat->List Touch->RT->Heap->Option (RT×Heap)
 |[],_,acc,R,H=>bif jJ b acc then some (R,H)else none
 |o::r,i,acc,R,H=>match o.guard with
  |none=>match vi P ag B k o R H with
   |some e=>match kj k o.dst e.v R with
    |some a=>mr b r (i+1) (gF i H.length e acc) a (oV H e)
    |none=>none
   |none=>none
  |some (j,want)=>match yh k b j R with
   | .p (.bool t)=>match t,want with
    |true,true|false,false=>match vi P ag B k o R H with
     |some e=>match kj k o.dst e.v R with
      |some a=>mr b r (i+1) (gF i H.length e acc) a (oV H e)
      |none=>none
     |none=>none
    |_,_=>match kj k o.dst (.p (.aC [])) R with
     |some a=>mr b r (i+1) acc a H
     |none=>none
   | .p (.aC [])=>match kj k o.dst (.p (.aC [])) R with
    |some a=>mr b r (i+1) acc a H
    |none=>none
   |_=>none
abbrev Out:=Option (bn×RT×Heap)
def u5(f:RT->Heap->Out):Nat->RT->Heap->Out
 |0,_,_=>none
 |n+1,R,H=>match f R H with
  |some (.normal,a,H')=>u5 f n a H'
  |r=>r
noncomputable def sT(k:Nat)(R:RT):Nat->Env
 |0=>[]
 |n+1=>(n,jD k R n)::sT k R n
def U6:Nat:=100000
def yB(j:Option Code):Option bn:=
 match j with
 |none=>some .normal
 |some (.exit id)=>some (.exit id)
 |some .ret=>some .ret
 |_=>none
def Dl(b:Nat)(R:RT)(H:Heap):Out:=
 match H[b]? with
 |some (.loop L)=>match L.st with
  | .busy=>none
  |_=>match yB L.pending with
   |some e=>some (e,R,H.set b (.loop {L with st:=.exhausted}))
   |none=>none
 |_=>none
noncomputable def gK(q:Cx):Code->RT->Heap->Out
 | .skip,R,H| .label _,R,H=>some (.normal,R,H)
 | .region _ ops draw,R,H=>bif draw then match mr P ag B k ops ops.toList 0 [] R H with
   |some (d,H')=>some (.normal,d,H')
   |none=>none
  else match mF P ag B k ops ops.toList R H with
   |some (d,H')=>some (.normal,d,H')
   |none=>none
 | .seq a b,R,H=>match gK q a R H with
  |some (.normal,d,H')=>gK q b d H'
  |r=>r
 | .cond c a b,R,H=>match jy k R c with
  | .p (.bool t)=>match t with
   |true=>gK q a R H
   |false=>gK q b R H
  |_=>none
 | .block id b,R,H=>match gK q b R H with
  |some (.exit i,d,H')=>bif bi i id then some (.normal,d,H')else some (.exit i,d,H')
  |r=>r
 | .scope b,R,H=>gK q b R H
 | .loop b,R,H=>u5 (fun R H=>gK q b R H) U6 R H
 | .rangeFunc f e a b,R,H=>bif a9 q.2 H.length&&a9 q.1 (4^k)then match B.cI (jy k R f) H.length (H++[.loop ⟨.ready,none,q.1,e.toList,a,b,sT k R (4^k)⟩])with
   |some H'=>Dl H.length R H'
   |none=>none
  else none
 | .exit id,R,H=>some (.exit id,R,H)
 | .ret,R,H=>some (.ret,R,H)
 |_,_,_=>none
end
section
variable{P:ax}{ag:ap->Bool}{B:jv}{k:Nat}
theorem Iw(e:aU)(dst:Option Tmp)(env:Env)(H:Heap):e.app dst ⟨env,H⟩=⟨put dst e.v env,oV H e⟩:=by
 simp[aU.app,Jl]
theorem azD(b:jE P B){o:Oper}{R i:RT}{H H':Heap}{env:Env}(h:vw P ag B k o R H=some (i,H'))(g:Rel k env R):
 ∃j,Rel k j i/\∀K:St->Prop,K ⟨j,H'⟩->jl P ag false o K ⟨env,H⟩:=by
 unfold vw at h;unfold jl;rw[yj g]at h
 split at h
 ·rename_i f args n c
  split at h
  case h_2=>simp at h
  rename_i v l hc
  split at h
  case h_2=>simp at h
  rename_i m d;simp only[bo,br]at h;obtain⟨rfl,rfl⟩:=h;refine⟨_,um d g,fun K a=>?_⟩;simp only[c]
  split at hc
  ·rename_i hf;simp only[hf];exact b.cP _ _ _ _ _ hc _ a
  ·rename_i hf;simp only[hf];exact b.cP _ _ _ _ _ hc _ a
  ·rename_i hf
   split at hc
   ·rename_i l s r;simp only[bo,br]at hc;obtain⟨rfl,rfl⟩:=hc;simp only[hf];exact⟨_,_,b.cY _ _ _ _ _ r,a⟩
   ·simp at hc
  ·simp at hc
 ·rename_i q
  split at h
  case h_2=>simp at h
  rename_i e p
  split at h
  case h_2=>simp at h
  rename_i m d;simp only[bo,br]at h;obtain⟨rfl,rfl⟩:=h;refine⟨_,um d g,fun K a=>?_⟩
  split
  ·rename_i f args n c;exact(q _ _ _ c).elim
  ·exact L5 p (by rw[Iw];exact a)
theorem Ix{a:Array Oper}{j:Nat}{R:RT}{env:Env}(b:Rel k env R):yh k a j R=guardOf a j env:=by
 unfold yh guardOf;split
 ·rename_i h;simp only[h];exact(b _).symm
 ·rename_i h;simp only[h]
theorem BP(f:jE P B){c:Array Oper}:∀{l:List Oper}{R a:RT}{H H':Heap}{env:Env},mF P ag B k c l R H=some (a,H')->Rel k env R->
 ∃b,Rel k b a/\∀K:St->Prop,K ⟨b,H'⟩->gG P ag false c l K ⟨env,H⟩
 |[],R,a,H,H',env,h,d=>by
  simp only[mF,bo,br]at h;obtain⟨rfl,rfl⟩:=h;exact⟨env,d,fun K g=>g⟩
 |o::l,R,a,H,H',env,h,d=>by
  have run:(match vw P ag B k o R H with
    |some (a,H')=>mF P ag B k c l a H'
    |none=>none)=some (a,H')->∃b,Rel k b a/\∀K:St->Prop,K ⟨b,H'⟩->jl P ag false o (gG P ag false c l K) ⟨env,H⟩:=by
   intro h
   split at h
   case h_2=>simp at h
   rename_i n H1 e;obtain⟨w,q,a2⟩:=azD f e d;obtain⟨u,r,s⟩:=BP f h q;exact⟨u,r,fun K g=>a2 _ (s K g)⟩
  have skip:(match kj k o.dst (.p (.aC [])) R with
    |some a=>mF P ag B k c l a H
    |none=>none)=some (a,H')->∃b,Rel k b a/\∀K:St->Prop,K ⟨b,H'⟩->gG P ag false c l K ⟨put o.dst (.p (.aC [])) env,H⟩:=by
   intro h
   split at h
   case h_2=>simp at h
   rename_i n e;exact BP f h (um e d)
  simp only[mF]at h;simp only[gG]
  split at h
  ·rename_i i;simp only[i];exact run h
  ·rename_i j v i;simp only[i];rw[Ix d]at h
   split at h
   ·rename_i t m;simp only[m];cases t<;>cases v
    ·simpa using run h
    ·simpa using skip h
    ·simpa using skip h
    ·simpa using run h
   ·rename_i m;simp only[m];exact skip h
   ·simp at h
theorem XF(b:jE P B){o:Oper}{R:RT}{H:Heap}{e:aU}{env:Env}(h:vi P ag B k o R H=some e)(l:Rel k env R)(K:aU->Prop)(a:K e):iW P ag o ⟨env,H⟩ K:=by
 unfold vi at h;unfold iW;rw[yj l]at h
 split at h
 ·rename_i f args d c;simp only[c]
  split at h
  ·rename_i hf;simp only[hf];exact b.cD _ _ _ _ h _ a
  ·rename_i hf;simp only[hf];exact b.cD _ _ _ _ h _ a
  ·rename_i hf;simp only[hf];obtain⟨g,i⟩:=b.yT _ _ _ _ h;exact⟨e,g,i,a⟩
  ·simp at h
 ·rename_i j
  split
  ·rename_i f args d c;exact(j _ _ _ c).elim
  ·exact L5 h a
theorem Bj(m:jE P B){f:Array Oper}:∀{l:List Oper}{i:Nat}{b:List Touch}{R a:RT}{H H':Heap}{env:Env},mr P ag B k f l i b R H=some (a,H')->Rel k env R->
 ∃c,Rel k c a/\∀K:St->Prop,K ⟨c,H'⟩->fO P ag f l i b K ⟨env,H⟩
 |[],i,b,R,a,H,H',env,h,d=>by
  simp only[mr,ab,bl,bo,br]at h;obtain⟨g,rfl,rfl⟩:=h;exact⟨env,d,fun K n=>⟨g,n⟩⟩
 |o::l,i,b,R,a,H,H',env,h,d=>by
  have run:(match vi P ag B k o R H with
    |some e=>match kj k o.dst e.v R with
     |some a=>mr P ag B k f l (i+1) (gF i H.length e b) a (oV H e)
     |none=>none
    |none=>none)=some (a,H')->∃c,Rel k c a/\∀K:St->Prop,K ⟨c,H'⟩->iW P ag o ⟨env,H⟩ (fun e=>fO P ag f l (i+1) (gF i H.length e b) K (e.app o.dst ⟨env,H⟩)):=by
   intro h
   split at h
   case h_2=>simp at h
   rename_i e y
   split at h
   case h_2=>simp at h
   rename_i s g;obtain⟨x,u,w⟩:=Bj m h (um g d);exact⟨x,u,fun K n=>XF m y d _ (by rw[Iw];exact w K n)⟩
  have skip:(match kj k o.dst (.p (.aC [])) R with
    |some a=>mr P ag B k f l (i+1) b a H
    |none=>none)=some (a,H')->∃c,Rel k c a/\∀K:St->Prop,K ⟨c,H'⟩->fO P ag f l (i+1) b K ⟨put o.dst (.p (.aC [])) env,H⟩:=by
   intro h
   split at h
   case h_2=>simp at h
   rename_i s g;exact Bj m h (um g d)
  simp only[mr]at h;simp only[fO]
  split at h
  ·rename_i q;simp only[q];exact run h
  ·rename_i j z q;simp only[q];rw[Ix d]at h
   split at h
   ·rename_i t r;simp only[r];cases t<;>cases z
    ·simpa using run h
    ·simpa using skip h
    ·simpa using skip h
    ·simpa using run h
   ·rename_i r;simp only[r];exact skip h
   ·simp at h
theorem Jr(R:RT):∀(n:Nat),∀x,aM (sT k R n) x=if x<n then jD k R x else .p .undef
 |0,x=>by simp[sT,aM]
 |n+1,x=>by
  simp only[sT,aM,Jr R n]
  by_cases h:x=n
  ·subst h;simp
  ·simp only[h,if_false]
   by_cases a:x<n
   ·simp[a,Nat.lt_succ_of_lt a]
   ·have:¬x<n+1:=by omega
    simp[a,this]
theorem Vk(k:Nat)(R:RT)(n:Nat)(h:4^k<=n):jD k R n=.p .undef:=by
 unfold jD;rw[Lc (by omega)];rfl
theorem XI{R:RT}{env:Env}(a:Rel k env R):∀x,aM (sT k R (4^k)) x=aM env x:=by
 intro x;rw[Jr,a]
 split
 ·rfl
 ·rw[Vk k R x (by omega)]
theorem Vc{j:Option Code}{e:bn}(h:yB j=some e)(Q:bn->St->Prop)(s:St)(hq:Q e s):jP Q j s:=by
 unfold yB at h;unfold jP
 split at h<;>simp at h<;>subst h<;>exact hq
theorem Vz{b:Nat}{R a:RT}{H H':Heap}{e:bn}{env:Env}(h:Dl b R H=some (e,a,H')):a=R/\∀Q:bn->St->Prop,Q e ⟨env,H'⟩->iE b env Q H:=by
 unfold Dl at h
 split at h
 case h_2=>simp at h
 rename_i L c
 have go:(match yB L.pending with
   |some e=>some (e,R,H.set b (.loop {L with st:=.exhausted}))
   |none=>none)=some (e,a,H')->L.st≠.busy->a=R/\∀Q:bn->St->Prop,Q e ⟨env,H'⟩->iE b env Q H:=by
  intro h aI
  split at h
  case h_2=>simp at h
  rename_i e' d;simp only[bo,br]at h;obtain⟨rfl,rfl,rfl⟩:=h;exact⟨rfl,fun Q hq=>by unfold iE;simp only[c];exact⟨aI,Vc d Q _ hq⟩⟩
 split at h
 ·simp at h
 ·rename_i aI;exact go h aI
theorem TA{q:Cx}{b:Code}{Q:bn->St->Prop}{s s':St}(f:∀c:bn->St->Prop,c .normal s'->b6 P ag q b c s)(d:b6 P ag q (.loop b) Q s'):b6 P ag q (.loop b) Q s:=by
 simp only[b6]at d⊢;obtain⟨I,⟨a,t0,hf,hI⟩,g⟩:=d;refine⟨fun n t=>I n t\/(n=a+1/\t=s),⟨a+1,s,.inl rfl,.inr ⟨rfl,rfl⟩⟩,?_⟩;rintro n t (h|⟨rfl,rfl⟩)
 ·obtain⟨e,u,k1,k2⟩:=mS b t _ (g n t h);refine k2 _ ?_;cases e with
  |normal=>
   obtain⟨m,i,g1,g2,g3⟩:=k1;exact⟨m,i,g1,g2,.inl g3⟩
  |exit id=>exact k1
  |ret=>exact k1
 ·exact f _ ⟨a,t0,Nat.lt_succ_self _,hf,.inl hI⟩
theorem Tz{q:Cx}{b:Code}{Q:bn->St->Prop}{s s':St}{e:bn}(f:e≠.normal)(d:∀a:bn->St->Prop,a e s'->b6 P ag q b a s)(c:Q e s'):b6 P ag q (.loop b) Q s:=by
 simp only[b6];refine⟨fun n t=>n=0/\t=s,⟨0,s,.inl rfl,rfl,rfl⟩,?_⟩;rintro n t ⟨rfl,rfl⟩;refine d _ ?_;cases e with
 |normal=>exact(f rfl).elim
 |exit id=>exact c
 |ret=>exact c
theorem JN{q:Cx}{b:Code}{f:RT->Heap->Out}(hf:∀{R a:RT}{H H':Heap}{e:bn}{env:Env},f R H=some (e,a,H')->Rel k env R->∃c,Rel k c a/\∀Q:bn->St->Prop,Q e ⟨c,H'⟩->b6 P ag q b Q ⟨env,H⟩):
 ∀(n:Nat){R a:RT}{H H':Heap}{e:bn}{env:Env},u5 f n R H=some (e,a,H')->Rel k env R->∃c,Rel k c a/\∀Q:bn->St->Prop,Q e ⟨c,H'⟩->b6 P ag q (.loop b) Q ⟨env,H⟩
 |0,R,a,H,H',e,env,h,g=>by simp[u5]at h
 |n+1,R,a,H,H',e,env,h,g=>by
  simp only[u5]at h
  split at h
  ·rename_i r H1 o;obtain⟨i,d,a2⟩:=hf o g;obtain⟨m,j,l⟩:=JN hf n h d;exact⟨m,j,fun Q hq=>TA a2 (l Q hq)⟩
  ·rename_i p;obtain⟨i,d,a2⟩:=hf h g;refine⟨i,d,fun Q hq=>Tz ?_ a2 hq⟩;rintro rfl;exact p _ _ h
theorem kA(m:jE P B){q:Cx}:∀{c:Code}{R l:RT}{H H':Heap}{e:bn}{env:Env},gK P ag B k q c R H=some (e,l,H')->Rel k env R->
 ∃r,Rel k r l/\∀Q:bn->St->Prop,Q e ⟨r,H'⟩->b6 P ag q c Q ⟨env,H⟩
 | .skip,R,l,H,H',e,env,h,d| .label _,R,l,H,H',e,env,h,d| .exit _,R,l,H,H',e,env,h,d| .ret,R,l,H,H',e,env,h,d=>by
  simp only[gK,bo,br]at h;obtain⟨rfl,rfl,rfl⟩:=h;exact⟨env,d,fun Q hq=>hq⟩
 | .region id ops draw,R,l,H,H',e,env,h,d=>by
  simp only[gK]at h;cases draw
  ·simp only[cond_false]at h
   split at h
   case h_2=>simp at h
   rename_i o H1 n;simp only[bo,br]at h;obtain⟨rfl,rfl,rfl⟩:=h;obtain⟨j,g,a2⟩:=BP m n d;exact⟨j,g,fun Q hq=>by simp only[b6];exact a2 _ hq⟩
  ·simp only[cond_true]at h
   split at h
   case h_2=>simp at h
   rename_i o H1 n;simp only[bo,br]at h;obtain⟨rfl,rfl,rfl⟩:=h;obtain⟨j,g,a2⟩:=Bj m n d;exact⟨j,g,fun Q hq=>by simp only[b6,if_true];exact a2 _ hq⟩
 | .seq a b,R,l,H,H',e,env,h,d=>by
  simp only[gK]at h
  split at h
  ·rename_i o H1 n;obtain⟨j,g,a2⟩:=kA m n d;obtain⟨w,u,v⟩:=kA m h g;exact⟨w,u,fun Q hq=>by simp only[b6];exact a2 _ (v Q hq)⟩
  ·rename_i p;obtain⟨j,g,a2⟩:=kA m h d;refine⟨j,g,fun Q hq=>by
    simp only[b6];refine a2 _ ?_;cases e with
    |normal=>exact(p _ _ h).elim
    |exit id=>exact hq
    |ret=>exact hq⟩
 | .cond c a b,R,l,H,H',e,env,h,d=>by
  simp only[gK,yj d]at h
  split at h
  case h_2=>simp at h
  rename_i t s;cases t
  ·obtain⟨j,g,a2⟩:=kA m h d;exact⟨j,g,fun Q hq=>by simp only[b6,s];exact a2 Q hq⟩
  ·obtain⟨j,g,a2⟩:=kA m h d;exact⟨j,g,fun Q hq=>by simp only[b6,s,if_true];exact a2 Q hq⟩
 | .block id b,R,l,H,H',e,env,h,d=>by
  simp only[gK]at h
  split at h
  ·rename_i i o H1 n;obtain⟨j,g,a2⟩:=kA m n d;cases hi:bi i id
   ·simp only[hi,cond_false,bo,br]at h;obtain⟨rfl,rfl,rfl⟩:=h;refine⟨j,g,fun Q hq=>by
     simp only[b6];refine a2 _ ?_;have:i≠id:=fun e=>by subst e;simp[Nat.beq_refl]at hi
     simp only[this,if_false];exact hq⟩
   ·simp only[hi,cond_true,bo,br]at h;obtain⟨rfl,rfl,rfl⟩:=h;refine⟨j,g,fun Q hq=>by
     simp only[b6];refine a2 _ ?_;simp only[du hi,if_true];exact hq⟩
  ·rename_i p;obtain⟨j,g,a2⟩:=kA m h d;refine⟨j,g,fun Q hq=>by
    simp only[b6];refine a2 _ ?_;cases e with
    |normal=>exact hq
    |exit id=>exact(p _ _ _ h).elim
    |ret=>exact hq⟩
 | .scope b,R,l,H,H',e,env,h,d=>by
  simp only[gK]at h;obtain⟨j,g,a2⟩:=kA m h d;exact⟨j,g,fun Q hq=>by simp only[b6];exact a2 Q hq⟩
 | .loop b,R,l,H,H',e,env,h,d=>by
  simp only[gK]at h;exact JN (fun h d=>kA m h d) _ h d
 | .rangeFunc f z a b,R,l,H,H',e,env,h,d=>by
  simp only[gK,ab,bl,ac]at h;obtain⟨⟨n,y⟩,h⟩:=h
  split at h
  case h_2=>simp at h
  rename_i H1 hI;obtain⟨rfl,x⟩:=Vz (env:=env) h;refine⟨env,d,fun Q hq=>?_⟩;simp only[b6];rw[yj d]at hI;exact⟨cW n,_,XI d,m.cI _ _ _ _ hI _ (x Q hq)⟩
 | .goto _,_,_,_,_,_,_,h,_=>by simp[gK]at h
 | .refuse _,_,_,_,_,_,_,h,_=>by simp[gK]at h
end
def qQ(n:Nat):Nat:=
 match a9 n 16,a9 n 64,a9 n 256,a9 n 1024 with
 |true,_,_,_=>2
 |_,true,_,_=>3
 |_,_,true,_=>4
 |_,_,_,true=>5
 |_,_,_,_=>6
noncomputable def u3(k:Nat):Nat->List AV->RT
 |_,[]=>.lf
 |i,v::r=>vy k (u3 k (i+1) r) i v
theorem J0(k:Nat):∀(l:List AV)(i:Nat),i+l.length<=4^k->Rel k (iq i l) (u3 k i l)
 |[],i,_=>fun x=>by simp[iq,u3,aM,KB]
 |v::r,i,h=>fun x=>by
  simp only[List.length_cons]at h;rw[u3,AD _ _ _ _ _ (by omega)];simp only[iq,aM]
  split
  ·rfl
  ·exact J0 k r (i+1) (by omega) x
noncomputable def vj(k:Nat):Env->Option RT
 |[]=>some .lf
 |(x,v)::r=>match vj k r with
  |some R=>bif a9 (x+1) (4^k)then some (vy k R x v)else none
  |none=>none
theorem Jq(k:Nat):∀{e:Env}{R:RT},vj k e=some R->Rel k e R
 |[],R,h=>by
  simp only[vj,bo]at h;subst h;intro x;simp[aM,KB]
 |(y,v)::r,R,h=>by
  simp only[vj]at h
  split at h
  case h_2=>simp at h
  rename_i c a;simp only[ab,bl,bo]at h;obtain⟨b,rfl⟩:=h;intro x;rw[AD _ _ _ _ _ (by have:=cW b;omega)];simp only[aM]
  split
  ·rfl
  ·exact Jq k a x
noncomputable def zh(P:ax)(k:Nat)(R:RT)(H:Heap):List ay->Option (List AV)
 |[]=>some []
 |r::rs=>match(match r with
  | .tmp t=>some (jD k R t)
  | .cell a T=>match jD k R a with
   | .ptr b path=>match H[b]? with
    |some (.box _ t)=>match eB t path with
     |some v=>bif sE (kindOf P T) (ad v)then some v else none
     |none=>none
    |_=>none
   |_=>none),zh P k R H rs with
  |some v,some vs=>some (v::vs)
  |_,_=>none
theorem KC{P:ax}{k:Nat}{R:RT}{H:Heap}{env:Env}(d:Rel k env R):∀{e:List ay}{vs:List AV},zh P k R H e=some vs->fo P ⟨env,H⟩ e=some vs
 |[],vs,h=>h
 |r::e,vs,h=>by
  simp only[zh]at h
  split at h
  case h_2=>simp at h
  rename_i v o c f;simp only[bo]at h;subst h;have g:oN P ⟨env,H⟩ r=some v:=by
   cases r with
   |tmp t=>simp only[oN];rw[d];exact c
   |cell a T=>
    simp only[oN];dsimp only at c;rw[<-d]at c
    split at c
    case h_2=>simp at c
    rename_i b n j
    split at c
    case h_2=>simp at c
    rename_i fz t l
    split at c
    case h_2=>simp at c
    rename_i u m;simp only[ab,bl,bo]at c;obtain⟨i,rfl⟩:=c;rw[j];simp only[l,m,(ir i).1,if_true]
  simp only[fo,g,KC d f]
section
variable(P:ax)(ag:ap->Bool)
noncomputable def yF(B:jv)(fn:Func)(args:List AV)(N:Nat)(H:Heap):Option (AV×Heap):=
 bif a9 args.length fn.ntmps&&a9 fn.ntmps (4^qQ fn.ntmps)then
  match gK P ag B (qQ fn.ntmps) (fn.ntmps,N) (fn.body.getD .skip) (u3 (qQ fn.ntmps) 0 args) H with
  |some (.exit _,_,_)=>none
  |some (_,R,H')=>match zh P (qQ fn.ntmps) R H' fn.results.toList with
   |some vs=>some (oneOf vs,H')
   |none=>none
  |none=>none
 else none
structure lT where
 re:ap->Option Func
 y0:ap->List PV->Option PV
 y5:ap->List AV->Heap->Option (AV×Heap)
 jC:ap->ap->Nat
 sU:ap->List AV->Heap->Option (List (Nat×Obj)×PV)
noncomputable def nN(pl:lT)(B:ap->jv)(f:ap)(vs:List PV):Option PV:=
 match pl.y0 f vs with
 |some v=>some v
 |none=>match pl.re f with
  |some fn=>match yF P ag (B f) fn (vs.map .p) 0 []with
   |some (v,H)=>dZ H 9 v
   |none=>none
  |none=>none
noncomputable def nM(pl:lT)(B:ap->jv)(f:ap)(args:List AV)(H:Heap):Option (AV×Heap):=
 match pl.y5 f args H with
 |some r=>some r
 |none=>match pl.re f with
  |some fn=>yF P ag (B f) fn args H.length H
  |none=>none
noncomputable def ye(B:jv)(b:Nat)(H:Heap)(args:List AV):Option (Heap×AV):=
 match H[b]? with
 |some (.loop L)=>bif bi args.length L.params.length&&(L.params.all (fun x=>decide (x<L.n))&&codeOk fit L.n L.assign&&codeOk fit L.n L.body)then
  match vj (qQ L.n) (pY L.params args L.env)with
  |some R=>match gK P ag B (qQ L.n) (L.n,H.length) L.assign R H with
   |some (.normal,f,H1)=>match H1[b]? with
    |some (.loop c)=>match c.st with
     | .ready=>match gK P ag B (qQ L.n) (L.n,H.length) L.body f (H1.set b (.loop {c with st:=.busy}))with
      |some (e,_,a)=>match a[b]? with
       |some (.loop d)=>some (a.set b (.loop {d with st:=if(gD e).isNone then .ready else .done,pending:=gD e}),.p (.bool (gD e).isNone))
       |_=>none
      |none=>none
     |_=>none
    |_=>none
   |_=>none
  |none=>none
  else none
 |_=>none
noncomputable def C8(pl:lT)(B:ap->jv)(it:AV)(b:Nat)(H:Heap):Option Heap:=
 match it with
 | .p (.func g fi ca)=>match nM P ag pl B g (fi.map .p++[.map b]++ca.map .p) H with
  |some (_,H')=>some H'
  |none=>none
 | .func g fi ca=>match nM P ag pl B g (fi++[.map b]++ca) H with
  |some (_,H')=>some H'
  |none=>none
 |_=>none
noncomputable def CP(pl:lT)(B:ap->jv)(c f:ap)(args:List AV)(H:Heap):Option (AV×Heap):=
 match pl.sU f args H with
 |some (_,v)=>some (.p v,H)
 |none=>match pl.jC c f with
 |0=>match eA args with
  |some vs=>match nN P ag pl B f vs with
   |some v=>some (.p v,H)
   |none=>none
  |none=>nM P ag pl B f args H
 |1=>nM P ag pl B f args H
 |3=>match uY (nM P ag pl B f) args H with
  |some e=>some (e.v,oV H e)
  |none=>none
 |_=>match mG H args with
  |some (vs,H1)=>match nN P ag pl B f vs with
   |some v=>some (.p v,H1)
   |none=>none
  |none=>none
noncomputable def CO(pl:lT)(B:ap->jv)(c f:ap)(args:List AV)(H:Heap):Option aU:=
 match pl.sU f args H with
 |some (aj,v)=>some {v:=.p v,aj}
 |none=>match pl.jC c f with
 |3=>uY (nM P ag pl B f) args H
 |_=>match eA args with
 |some vs=>match nN P ag pl B f vs with
  |some v=>some {v:=.p v}
  |none=>none
 |none=>match nE H args with
  |some (vs,bs)=>match kD H bs with
   |some (aj,aK)=>match nN P ag pl B f vs with
    |some v=>some {v:=.p v,aj,aK}
    |none=>none
   |none=>none
  |none=>uY (nM P ag pl B f) args H
def sc:jv:=⟨fun _ _ _=>none,fun _ _ _=>none,fun _ _ _=>none,fun _ _ _=>none,fun _ _ _=>none⟩
noncomputable def jx(pl:lT):Nat->ap->jv
 |0,_=>sc
 |n+1,c=>⟨CP P ag pl (jx pl n) c,CO P ag pl (jx pl n) c,ye P ag (jx pl n c),C8 P ag pl (jx pl n),BJ (ye P ag (jx pl n c))⟩
end
structure mh(P:ax)(pl:lT):Prop where
 mix:P.follows .mixedOrders=true
 re:∀f fn,pl.re f=some fn->an P f fn
 y0:∀f vs v,pl.y0 f vs=some v->az P f vs v
 y5:∀f args H v H',pl.y5 f args H=some (v,H')->cR P f H args H' v
 sU:∀f args H aj v,pl.sU f args H=some (aj,v)->Cw P f args aj v/\∀p∈aj,H[p.1]?=some p.2
section
variable{P:ax}{ag:ap->Bool}{B1:jv}{B:ap->jv}{pl:lT}
theorem Ji(f:jE P B1){fn:Func}{args:List AV}{N:Nat}{H H':Heap}{v:AV}(h:yF P ag B1 fn args N H=some (v,H')):
 args.length<=fn.ntmps/\∃e a vs,(match e with
  |bn.exit _=>False
  |_=>True)/\fo P ⟨a,H'⟩ fn.results.toList=some vs/\oneOf vs=v/\∀Q:bn->St->Prop,Q e ⟨a,H'⟩->b6 P ag (fn.ntmps,N) (fn.body.getD .skip) Q ⟨iq 0 args,H⟩:=by
 unfold yF at h;simp only[ab,bl,ac]at h;obtain⟨⟨b,c⟩,h⟩:=h;have b:=cW b;have c:=cW c;refine⟨b,?_⟩
 split at h
 ·simp at h
 ·rename_i e R k g hc
  split at h
  case h_2=>simp at h
  rename_i vs j;simp only[bo,br]at h;obtain⟨rfl,rfl⟩:=h;obtain⟨a,d,a2⟩:=kA f hc (J0 _ args 0 (by omega));refine⟨e,a,vs,?_,KC d j,rfl,a2⟩;cases e with
  |exit i=>exact g i rfl
  |_=>trivial
 ·simp at h
theorem uv(a:mh P pl)(j:∀c,jE P (B c)){f:ap}{vs:List PV}{v:PV}(h:nN P ag pl B f vs=some v):az P f vs v:=by
 unfold nN at h
 split at h
 ·rename_i v' hk;simp only[bo]at h;subst h;exact a.y0 _ _ _ hk
 ·split at h
  case h_2=>simp at h
  rename_i fn hf
  split at h
  case h_2=>simp at h
  rename_i v' H' k;obtain⟨b,e,m,l,d,g,rfl,i⟩:=Ji (j _) k;exact yZ ag (a.re _ _ hf) a.mix (by simpa using b) (i _ ⟨d,l,g,h⟩)
theorem pK(a:mh P pl)(j:∀c,jE P (B c)){f:ap}{args:List AV}{H H':Heap}{v:AV}(h:nM P ag pl B f args H=some (v,H')):cR P f H args H' v:=by
 unfold nM at h
 split at h
 ·rename_i r hk;simp only[bo]at h;subst h;exact a.y5 _ _ _ _ _ hk
 ·split at h
  case h_2=>simp at h
  rename_i fn hf;obtain⟨b,e,l,k,d,g,rfl,i⟩:=Ji (j _) h;exact Nr ag (a.re _ _ hf) a.mix b (i _ ⟨d,k,g,rfl,.inl rfl⟩)
theorem It{args:List AV}{vs:List PV}(h:eA args=some vs):args=vs.map .p:=lx h
theorem VY(b:mh P pl)(d:∀c,jE P (B c)){c f:ap}{args:List AV}{H H':Heap}{v:AV}(h:CP P ag pl B c f args H=some (v,H'))(K:AV->Heap->Prop)(a:K v H'):gE P false f args H K:=by
 unfold CP at h
 split at h
 ·rename_i aj v' hx;simp only[bo,br]at h;obtain⟨rfl,rfl⟩:=h;obtain⟨i,j⟩:=b.sU _ _ _ _ _ hx;exact .inr ⟨rfl,.inr (.inr (.inr ⟨aj,v',i,j,a⟩))⟩
 split at h
 ·split at h
  ·rename_i vs m
   split at h
   case h_2=>simp at h
   rename_i v' g;simp only[bo,br]at h;obtain⟨rfl,rfl⟩:=h;exact .inl ⟨vs,v',It m,uv b d g,a⟩
  ·exact .inr ⟨rfl,.inr (.inl ⟨H',v,pK b d h,a⟩)⟩
 ·exact .inr ⟨rfl,.inr (.inl ⟨H',v,pK b d h,a⟩)⟩
 ·split at h
  case h_2=>simp at h
  rename_i e k;simp only[bo,br]at h;obtain⟨rfl,rfl⟩:=h;obtain⟨i,j⟩:=AY (fun args H v H' g=>pK b d g) k;exact .inr ⟨rfl,.inr (.inr (.inl ⟨e,i,j,by rw[<-Jl];exact a⟩))⟩
 ·split at h
  case h_2=>simp at h
  rename_i vs H1 l
  split at h
  case h_2=>simp at h
  rename_i v' g;simp only[bo,br]at h;obtain⟨rfl,rfl⟩:=h;exact .inr ⟨rfl,.inl ⟨vs,H1,v',l,uv b d g,a⟩⟩
theorem VZ(i:mh P pl)(j:∀c,jE P (B c)){c f:ap}{args:List AV}{H:Heap}{e:aU}(h:CO P ag pl B c f args H=some e)(K:aU->Prop)(g:K e):gL P f args H K:=by
 unfold CO at h
 split at h
 ·rename_i aj v' hx;simp only[bo]at h;subst h;obtain⟨b,d⟩:=i.sU _ _ _ _ _ hx;exact .inr (.inr (.inr ⟨aj,v',b,d,g⟩))
 split at h
 ·obtain⟨b,d⟩:=AY (fun args H v H' a=>pK i j a) h;exact .inr (.inr (.inl ⟨e,b,d,g⟩))
 split at h
 ·rename_i vs m
  split at h
  case h_2=>simp at h
  rename_i v' a;simp only[bo]at h;subst h;exact .inl ⟨vs,v',It m,uv i j a,g⟩
 ·split at h
  case h_2=>
   obtain⟨b,d⟩:=AY (fun args H v H' a=>pK i j a) h;exact .inr (.inr (.inl ⟨e,b,d,g⟩))
  rename_i vs bs l
  split at h
  case h_2=>simp at h
  rename_i aj aK k
  split at h
  case h_2=>simp at h
  rename_i v' a;simp only[bo]at h;subst h;exact .inr (.inl ⟨vs,bs,aj,aK,v',l,k,uv i j a,g⟩)
theorem Ic(o:mh P pl)(a:jE P B1){b:Nat}{H H':Heap}{args:List AV}{v:AV}(h:ye P ag B1 b H args=some (H',v)):ia P b H args H' v:=by
 unfold ye at h
 split at h
 case h_2=>simp at h
 rename_i L i;simp only[ab,bl,ac]at h;obtain⟨⟨f,g⟩,h⟩:=h
 split at h
 case h_2=>simp at h
 rename_i R l
 split at h
 case h_2=>simp at h
 rename_i s H1 m
 split at h
 case h_2=>simp at h
 rename_i q j
 split at h
 case h_2=>simp at h
 rename_i aI
 split at h
 case h_2=>simp at h
 rename_i e t p n
 split at h
 case h_2=>simp at h
 rename_i r k;simp only[bo,br]at h;obtain⟨rfl,rfl⟩:=h;obtain⟨w,c,a2⟩:=kA a m (Jq _ l);obtain⟨x,u,d⟩:=kA a n c;refine Ns ag o.mix i (du f) (by simpa only[ac]using g) ?_;unfold xC;refine a2 _ ?_;simp only[wK,j];refine⟨aI,d _ ?_⟩;simp only[rN,k];exact⟨trivial,.inl rfl⟩
theorem Vd(g:mh P pl)(e:∀c,jE P (B c)){it:AV}{b:Nat}{H H':Heap}(h:C8 P ag pl B it b H=some H')(K:Heap->Prop)(f:K H'):jw P it b H K:=by
 unfold C8 at h
 split at h
 ·split at h
  case h_2=>simp at h
  rename_i v a d;simp only[bo]at h;subst h;exact⟨a,v,pK g e d,f⟩
 ·split at h
  case h_2=>simp at h
  rename_i v a d;simp only[bo]at h;subst h;exact⟨a,v,pK g e d,f⟩
 ·simp at h
theorem rK(a:mh P pl):∀n c,jE P (jx P ag pl n c)
 |0,_=>⟨fun _ _ _ _ _ h=>by simp[jx,sc]at h,fun _ _ _ _ h=>by simp[jx,sc]at h,fun _ _ _ _ _ h=>by simp[jx,sc]at h,fun _ _ _ _ h=>by simp[jx,sc]at h,fun _ _ _ _ h=>by simp[jx,sc]at h⟩
 |n+1,c=>⟨fun _ _ _ _ _ h=>VY a (rK a n) h,fun _ _ _ _ h=>VZ a (rK a n) h,fun _ _ _ _ _ h=>Ic a (rK a n c) h,fun _ _ _ _ h=>Vd a (rK a n) h,fun _ _ _ _ h=>SM (fun _ _ _ _ _ b=>Ic a (rK a n c) b) h⟩
theorem reckon{f:ap}{vs:List PV}{v:PV}(n:Nat)(a:mh P pl)(h:nN P ag pl (jx P ag pl n) f vs=some v):az P f vs v:=uv a (rK a n) h
end
section
variable{P:ax}{ag:ap->Bool}
theorem az.cZ{f:ap}{args d:List PV}{v v':PV}(h:az P f args v)(g:bB d args)(i:Wk v v'):az P f d v':=by
 rcases h with h|h
 ·refine .inl ⟨h.1,fun w aa a j k c=>(h.2 w aa a j k (bg.cZ _ _ _ g c)).mono ?_⟩;rintro e w' ⟨b,aD,k1,k2,k3,k4,k5,k6,l,k7⟩;exact⟨b,aD,k1,k2,k3,k4,k5,k6,l,aw.cZ _ _ _ i k7⟩
 ·refine .inr fun w aa a c=>?_;obtain⟨b,k1,k2⟩:=h w aa a (bg.cZ _ _ _ g c);exact⟨b,k1,aw.cZ _ _ _ i k2⟩
def yJ(P:ax)(a:List ay)(v:PV)(e:bn)(s:St):Prop:=
 (match e with
  | .exit _=>False
  |_=>True)/\∃vs,fo P s a=some vs/\∃v',dZ s.heap 9 (oneOf vs)=some v'/\Wk v' v
theorem TY{a:List ay}{v:PV}{s:St}:yJ P a v .ret s=∃vs,fo P s a=some vs/\∃v',dZ s.heap 9 (oneOf vs)=some v'/\Wk v' v:=by simp[yJ]
theorem RF{a:List ay}{v:PV}{s:St}:yJ P a v .normal s=∃vs,fo P s a=some vs/\∃v',dZ s.heap 9 (oneOf vs)=some v'/\Wk v' v:=by simp[yJ]
theorem mz.cZ{f:ap}{args a:List PV}{v v':PV}(h:mz P f args v)(j:bB a args)(k:Wk v v'):mz P f a v':=by
 refine⟨h.1,fun w aa b d g i=>(h.2 w aa b d g (bg.cZ _ _ _ j i)).mono ?_⟩;rintro e w' ⟨c,aD,k1,k2,k3,k4,k5,k6,l,k7⟩;exact⟨c,aD,k1,k2,k3,k4,k5,k6,l,aw.cZ _ _ _ k k7⟩
theorem Hu{dst:Option Tmp}{h:Nat}{pos:String}{af:Array Edge}{g:Option (Nat×Bool)}{env:Env}{heap:Heap}{L:St->Prop}{f:ap}{fi ca:Array ao}(hf:ag f=false):
 dj P ag ⟨dst,.makeFunc (.func f) fi ca,h,pos,af,g⟩ L ⟨env,heap⟩=aZ (qq f (fi.toList.map (ev env)) (ca.toList.map (ev env))) (dX dst ⟨env,heap⟩ L):=by
 simp only[dj,ka,fh,hf,qq,am,if_false]
 split
 ·rename_i c d;simp only[c,d,aZ,true_and]
 ·rename_i c
  split
  ·rename_i a b d e;exact(c a b d e).elim
  ·simp only[aZ,true_and]
theorem G4{dst:Option Tmp}{h:Nat}{pos:String}{af:Array Edge}{g:Option (Nat×Bool)}{env:Env}{heap:Heap}{K:aU->Prop}{f:ap}{fi ca:Array ao}(hf:ag f=false):
 dm P ag ⟨dst,.makeFunc (.func f) fi ca,h,pos,af,g⟩ ⟨env,heap⟩ K=aZ (qq f (fi.toList.map (ev env)) (ca.toList.map (ev env))) K:=by
 simp only[dm,ka,fh,hf,qq,am,if_false]
 split
 ·rename_i c d;simp only[c,d,aZ,true_and]
 ·rename_i c
  split
  ·rename_i a b d e;exact(c a b d e).elim
  ·simp only[aZ,true_and]
section guards
variable{ops:Array Oper}{o:Oper}{r:List Oper}{K:St->Prop}{want t:Bool}{s:St}{i:Nat}{acc:List Touch}
theorem GS:yg P ag ops o r K want s (.p (.bool t))=if t=want then dj P ag o (fG P ag ops r K) s else fG P ag ops r K ⟨put o.dst (.p (.aC [])) s.env,s.heap⟩:=(rfl)
theorem Hy:yg P ag ops o r K want s (.p (.aC []))=fG P ag ops r K ⟨put o.dst (.p (.aC [])) s.env,s.heap⟩:=(rfl)
theorem Gg:xQ P ag ops o r i acc K want s (.p (.bool t))=if t=want then dm P ag o s (u9 P ag ops r i acc K o.dst s)else fP P ag ops r (i+1) acc K ⟨put o.dst (.p (.aC [])) s.env,s.heap⟩:=(rfl)
theorem GR:xQ P ag ops o r i acc K want s (.p (.aC []))=fP P ag ops r (i+1) acc K ⟨put o.dst (.p (.aC [])) s.env,s.heap⟩:=(rfl)
theorem RD{l:List Oper}{j:Nat}{e:Env}:guardOf l.toArray j e=match(l[j]?).bind (·.dst)with
 |some d=>aM e d
 |none=>.p (.aC []):=by simp only[guardOf,List.getElem?_toArray];cases l[j]?.bind (·.dst)<;>rfl
end guards
section calls
variable{f:ap}{H H1:Heap}{K:AV->Heap->Prop}{L:aU->Prop}{v a b c d e a' b' c' d' e':PV}{dr:Bool}
theorem W9(h:az P f [] v)(hk:K (.p v) H):gE P dr f [] H K:=.inl ⟨[],v,rfl,h,hk⟩
theorem Xa(h:az P f [a'] v)(hk:K (.p v) H)(b:Wk a a':=by first|exact Wk.refl _|simp[Wk,bB]):gE P dr f [.p a] H K:=.inl ⟨[a],v,rfl,h.cZ (by simp only[bB];exact⟨b,trivial⟩) (Wk.refl _),hk⟩
theorem Xb(h:az P f [a',b'] v)(hk:K (.p v) H)(c:Wk a a':=by first|exact Wk.refl _|simp[Wk,bB])(d:Wk b b':=by first|exact Wk.refl _|simp[Wk,bB]):gE P dr f [.p a,.p b] H K:=
 .inl ⟨[a,b],v,rfl,h.cZ (by simp only[bB];exact⟨c,d,trivial⟩) (Wk.refl _),hk⟩
theorem Xc(h:az P f [a',b',c'] v)(hk:K (.p v) H)(d:Wk a a':=by first|exact Wk.refl _|simp[Wk,bB])(e:Wk b b':=by first|exact Wk.refl _|simp[Wk,bB])(g:Wk c c':=by first|exact Wk.refl _|simp[Wk,bB]):gE P dr f [.p a,.p b,.p c] H K:=
 .inl ⟨[a,b,c],v,rfl,h.cZ (by simp only[bB];exact⟨d,e,g,trivial⟩) (Wk.refl _),hk⟩
theorem Xd(h:az P f [a',b',c',d'] v)(hk:K (.p v) H)(e:Wk a a':=by first|exact Wk.refl _|simp[Wk,bB])(g:Wk b b':=by first|exact Wk.refl _|simp[Wk,bB])(i:Wk c c':=by first|exact Wk.refl _|simp[Wk,bB])(j:Wk d d':=by first|exact Wk.refl _|simp[Wk,bB]):gE P dr f [.p a,.p b,.p c,.p d] H K:=
 .inl ⟨[a,b,c,d],v,rfl,h.cZ (by simp only[bB];exact⟨e,g,i,j,trivial⟩) (Wk.refl _),hk⟩
theorem Xe(h:az P f [a',b',c',d',e'] v)(hk:K (.p v) H)(g:Wk a a':=by first|exact Wk.refl _|simp[Wk,bB])(i:Wk b b':=by first|exact Wk.refl _|simp[Wk,bB])(j:Wk c c':=by first|exact Wk.refl _|simp[Wk,bB])(k:Wk d d':=by first|exact Wk.refl _|simp[Wk,bB])(l:Wk e e':=by first|exact Wk.refl _|simp[Wk,bB]):gE P dr f [.p a,.p b,.p c,.p d,.p e] H K:=
 .inl ⟨[a,b,c,d,e],v,rfl,h.cZ (by simp only[bB];exact⟨g,i,j,k,l,trivial⟩) (Wk.refl _),hk⟩
theorem WT(h:az P f [] v)(hk:L {v:=.p v}):gL P f [] H L:=.inl ⟨[],v,rfl,h,hk⟩
theorem WU(h:az P f [a'] v)(hk:L {v:=.p v})(b:Wk a a':=by first|exact Wk.refl _|simp[Wk,bB]):gL P f [.p a] H L:=.inl ⟨[a],v,rfl,h.cZ (by simp only[bB];exact⟨b,trivial⟩) (Wk.refl _),hk⟩
theorem WV(h:az P f [a',b'] v)(hk:L {v:=.p v})(c:Wk a a':=by first|exact Wk.refl _|simp[Wk,bB])(d:Wk b b':=by first|exact Wk.refl _|simp[Wk,bB]):gL P f [.p a,.p b] H L:=
 .inl ⟨[a,b],v,rfl,h.cZ (by simp only[bB];exact⟨c,d,trivial⟩) (Wk.refl _),hk⟩
theorem WW(h:az P f [a',b',c'] v)(hk:L {v:=.p v})(d:Wk a a':=by first|exact Wk.refl _|simp[Wk,bB])(e:Wk b b':=by first|exact Wk.refl _|simp[Wk,bB])(g:Wk c c':=by first|exact Wk.refl _|simp[Wk,bB]):gL P f [.p a,.p b,.p c] H L:=
 .inl ⟨[a,b,c],v,rfl,h.cZ (by simp only[bB];exact⟨d,e,g,trivial⟩) (Wk.refl _),hk⟩
theorem WX(h:az P f [a',b',c',d'] v)(hk:L {v:=.p v})(e:Wk a a':=by first|exact Wk.refl _|simp[Wk,bB])(g:Wk b b':=by first|exact Wk.refl _|simp[Wk,bB])(i:Wk c c':=by first|exact Wk.refl _|simp[Wk,bB])(j:Wk d d':=by first|exact Wk.refl _|simp[Wk,bB]):gL P f [.p a,.p b,.p c,.p d] H L:=
 .inl ⟨[a,b,c,d],v,rfl,h.cZ (by simp only[bB];exact⟨e,g,i,j,trivial⟩) (Wk.refl _),hk⟩
theorem WY(h:az P f [a',b',c',d',e'] v)(hk:L {v:=.p v})(g:Wk a a':=by first|exact Wk.refl _|simp[Wk,bB])(i:Wk b b':=by first|exact Wk.refl _|simp[Wk,bB])(j:Wk c c':=by first|exact Wk.refl _|simp[Wk,bB])(k:Wk d d':=by first|exact Wk.refl _|simp[Wk,bB])(l:Wk e e':=by first|exact Wk.refl _|simp[Wk,bB]):gL P f [.p a,.p b,.p c,.p d,.p e] H L:=
 .inl ⟨[a,b,c,d,e],v,rfl,h.cZ (by simp only[bB];exact⟨g,i,j,k,l,trivial⟩) (Wk.refl _),hk⟩
theorem Xf{args:List AV}{vs a:List PV}(h:az P f a v)(c:mG H args=some (vs,H1))(hk:K (.p v) H1)(b:bB vs a:=by first|exact bB.refl _|simp[Wk,bB]):gE P false f args H K:=
 .inr ⟨rfl,.inl ⟨vs,H1,v,c,h.cZ b (Wk.refl _),hk⟩⟩
theorem W0{args:List AV}{vs a:List PV}{bs:List Nat}{aj aK:List (Nat×Obj)}(h:az P f a v)(c:nE H args=some (vs,bs))(hf:kD H bs=some (aj,aK))(hk:L {v:=.p v,aj,aK})(b:bB vs a:=by first|exact bB.refl _|simp[Wk,bB]):gL P f args H L:=
 .inr (.inl ⟨vs,bs,aj,aK,v,c,hf,h.cZ b (Wk.refl _),hk⟩)
end calls
theorem Qa{f:ap}{pre post:List PV}{v:PV}(a:mz P f (pre++ .aG::post) v)(b:mz P f (pre++ .bw false []::post) v):mz P f (pre++ .seq []::post) v:=by
 have split:∀{w:a0}{aa:Nat->Prop}{c:List aT}{pre:List PV},bg P w aa (pre++ .seq []::post) c->bg P w aa (pre++ .aG::post) c\/bg P w aa (pre++ .bw false []::post) c:=by
  intro w aa c pre
  induction pre generalizing c with
  |nil=>
   intro h;simp only[List.nil_append,bg]at h⊢;obtain⟨y,d,e,a,b⟩:=h;rcases Pp.1 a with⟨_,h⟩|h
   ·exact .inl ⟨y,d,e,h,b⟩
   ·exact .inr ⟨y,d,e,h,b⟩
  |cons p pre i=>
   intro h;simp only[List.cons_append,bg]at h⊢;obtain⟨y,d,e,a,b⟩:=h;rcases i b with h|h
   ·exact .inl ⟨y,d,e,a,h⟩
   ·exact .inr ⟨y,d,e,a,h⟩
 refine⟨a.1,fun w aa g k1 k2 k3=>?_⟩;rcases split k3 with h|h
 ·exact a.2 w aa g k1 k2 h
 ·exact b.2 w aa g k1 k2 h
def KV(T:Heap)(a v:AV):Prop:=a=v\/Gh T a v
theorem Pm{T:Heap}{v:AV}:KV T v v=True:=by simp[KV]
theorem Pj{T:Heap}{b al ai off len:Nat}:KV T (.p .aG) (.sl b al ai off len)=(al=0/\off=0/\len=0/\∃k z,T[b]?=some (.arr k 0 z [])/\k.gr=true):=by simp[KV,Gh,fC]
theorem Pn{T:Heap}{u u':av}{fs:List PV}{a:List AV}:KV T (.p (.st u fs)) (.st u' a)=(u=u'/\kq T fs a):=by simp[KV,Gh,fC]
def lB(T:Heap)(e:Env):Env->Prop
 |[]=>True
 |(x,v)::r=>KV T (aM e x) v/\lB T e r
def KO(T:Heap)(o:Obj):Obj->Prop
 | .hole=>True
 | .box false v'=>match o with
  | .box false v=>KV T v v'
  |_=>False
 | .arr k al z es=>(o=.hole/\al=0/\es=[]/\k.gr=true)\/o=.arr k al z es
 |o'=>o=o'
def KN:Obj->Prop
 | .hole=>True
 | .arr k al _ es=>al=0/\es=[]/\k.gr=true
 |_=>False
def gS(T:Heap):Heap->Heap->Prop
 |_,[]=>True
 |[],o'::t=>KN o'/\gS T [] t
 |o::h,o'::t=>KO T o o'/\gS T h t
theorem lB.get{T:Heap}{e:Env}:∀{t:Env},lB T e t->∀x,aM t x=aM e x\/aM t x=.p .undef\/Gh T (aM e x) (aM t x)
 |[],_,x=>.inr (.inl rfl)
 |(y,v)::t,h,x=>by
  simp only[lB]at h;simp only[aM]
  split
  ·rename_i hx;subst hx;rcases h.1 with h|h
   ·exact .inl h.symm
   ·exact .inr (.inr h)
  ·exact lB.get h.2 x
theorem gS.get{T:Heap}:∀{h t:Heap},gS T h t->∀(b:Nat)(o:Obj),t[b]?=some o->
 o=.hole\/h[b]?=some o\/((h[b]?=none\/h[b]?=some .hole)/\∃k z,o=.arr k 0 z []/\k.gr=true)\/(∃v v',h[b]?=some (.box false v)/\o=.box false v'/\Gh T v v')
 |_,[],_,b,o,c=>by simp at c
 |[],o'::t,hk,b,o,c=>by
  simp only[gS]at hk;cases b with
  |zero=>
   simp at c;subst c;cases o'<;>have a:=hk.1<;>simp only[KN]at a
   ·exact .inl rfl
   ·obtain⟨rfl,rfl,d⟩:=a;exact .inr (.inr (.inl ⟨.inl rfl,_,_,rfl,d⟩))
  |succ b=>simpa using gS.get hk.2 b o (by simpa using c)
 |e::h,o'::t,hk,b,o,c=>by
  simp only[gS]at hk;cases b with
  |zero=>
   simp at c;subst c;have a:=hk.1;cases o' with
   |hole=>exact .inl rfl
   |dead=>simp only[KO]at a;subst a;exact .inr (.inl rfl)
   |map fz es=>simp only[KO]at a;subst a;exact .inr (.inl rfl)
   |dt ks vs=>simp only[KO]at a;subst a;exact .inr (.inl rfl)
   |dv s p=>simp only[KO]at a;subst a;exact .inr (.inl rfl)
   |loop L=>simp only[KO]at a;subst a;exact .inr (.inl rfl)
   |arr k al z es=>
    simp only[KO]at a;rcases a with⟨rfl,rfl,rfl,d⟩|rfl
    ·exact .inr (.inr (.inl ⟨.inr rfl,_,_,rfl,d⟩))
    ·exact .inr (.inl rfl)
   |box fz v'=>
    cases fz with
    |true=>simp only[KO]at a;subst a;exact .inr (.inl rfl)
    |false=>
     simp only[KO]at a
     split at a
     ·rcases a with rfl|a
      ·exact .inr (.inl rfl)
      ·exact .inr (.inr (.inr ⟨_,_,rfl,rfl,a⟩))
     ·exact a.elim
  |succ b=>simpa using gS.get hk.2 b o (by simpa using c)
theorem dJ.og{N:Nat}{s t:St}(d:t.heap.take N=s.heap.take N)(c:lB t.heap s.env t.env)(hh:gS t.heap s.heap t.heap)(e:iu t.heap t.env)(f:cr t.heap t.heap):dJ N s t:=by
 refine .inr ⟨⟨c.get,hh.get,e.get,f.get⟩,fun b a=>?_⟩;have:=congrArg (fun l:Heap=>l[b]?) d;simpa[List.getElem?_take,a]using this
theorem Ct{T:Heap}{o:Obj}:KO T o o=True:=by
 cases o with
 |box fz v=>cases fz<;>simp[KO,KV]
 |_=>simp[KO]
theorem Pg{T:Heap}{o:Obj}:KO T o .hole=True:=by simp[KO]
theorem Pf{T:Heap}{v v':AV}:KO T (.box false v) (.box false v')=KV T v v':=(rfl)
theorem Ph{T:Heap}{k:AK}{al z:Nat}{a:List AV}:KO T .hole (.arr k al z a)=(al=0/\a=[]/\k.gr=true):=by simp[KO]
theorem Pe:KN .hole=True:=(rfl)
theorem Pd{k:AK}{al z:Nat}{a:List AV}:KN (.arr k al z a)=(al=0/\a=[]/\k.gr=true):=(rfl)
theorem Pk{T:Heap}{x y:PV}:KV T (.p x) (.p y)=(x=y):=by
 have:Gh T (.p x) (.p y)↔x=y:=by cases x<;>simp[Gh,fC,eq_comm]
 simp[KV,this]
def tv{α:Type}(N:Nat)(mk:α->St)(ok:α->Prop)(m:α->Nat)(n:Nat)(s:St):Prop:=∃a',m a'<n/\ok a'/\dJ N s (mk a')
def qt{α:Type}(N:Nat)(mk:α->St)(ok:α->Prop)(m:α->Nat)(n:Nat)(Q:bn->St->Prop)(e:bn)(s:St):Prop:=
 match e with
 | .normal=>tv N mk ok m n s
 |e=>Q e s
section
variable{α:Type}{N:Nat}{mk:α->St}{ok:α->Prop}{m:α->Nat}{n:Nat}{Q:bn->St->Prop}{s s':St}{q:Cx}
theorem Rh:qt N mk ok m n Q .normal s=tv N mk ok m n s:=(rfl)
theorem SG{id:Nat}:qt N mk ok m n Q (.exit id) s=Q (.exit id) s:=(rfl)
theorem TD:qt N mk ok m n Q .ret s=Q .ret s:=(rfl)
theorem wl{b:Code}(mk:α->St)(ok:α->Prop)(m:α->Nat)(c:α)(k:ok c)(gJ:∀a,ok a->dh P ag q b (qt q.2 mk ok m (m a) Q) (mk a))
 (j:(mk c).heap.take q.2=s.heap.take q.2:=by simp)(i:lB (mk c).heap s.env (mk c).env:=by simp)(hh:gS (mk c).heap s.heap (mk c).heap:=by simp)(l:iu (mk c).heap (mk c).env:=by simp)(hr2:cr (mk c).heap (mk c).heap:=by simp):
 dh P ag q (.loop b) Q s:=by
 simp only[dh];refine⟨fun n t=>∃a,ok a/\t=mk a/\n=m a,⟨m c,mk c,dJ.og j i hh l hr2,c,k,rfl,rfl⟩,?_⟩;rintro n t ⟨a,h,rfl,rfl⟩;have:qt q.2 mk ok m (m a) Q=sy q.2 (m a) (fun n t=>∃a,ok a/\t=mk a/\n=m a) Q:=by
  funext e s
  cases e with
  |normal=>
   simp only[qt,sy,tv,eq_iff_iff];constructor
   ·rintro⟨a',d,f,g⟩;exact⟨m a',mk a',d,g,a',f,rfl,rfl⟩
   ·rintro⟨_,_,d,g,a',f,rfl,rfl⟩;exact⟨a',d,f,g⟩
  |exit id=>rfl
  |ret=>rfl
 rw[<-this];exact gJ a h
theorem rnd(a':α)(b:ok a')(a:m a'<n:=by omega)(e:(mk a').heap.take N=s.heap.take N:=by simp)(c:lB (mk a').heap s.env (mk a').env:=by simp)(d:gS (mk a').heap s.heap (mk a').heap:=by simp)(f:iu (mk a').heap (mk a').env:=by simp)(g:cr (mk a').heap (mk a').heap:=by simp):
 tv N mk ok m n s:=⟨a',a,b,dJ.og e c d f g⟩
end
theorem aN(n:Int)(h:-9223372036854775808<=n)(a:n<=9223372036854775807):IntKind.i64.wrap n=n:=IntWalk.i64_in n ⟨h,a⟩
theorem zz(a b:Int):(a<b/\¬b<=a)\/(¬a<b/\b<=a):=by omega
theorem cJ{i:Nat}(h:i<4611686018427387904):IntKind.i64.wrap ((i:Int)+1)=(i:Int)+1:=aN _ (by omega) (by omega)
attribute [simp] Wk bB aH Obj.has GS Hy Gg GR RD Hu G4 qq Rh SG TD lB gS Pm Pk Pj Pn Ct Pg Pf Ph Pe Pd kq fC AK.gr iu cr aB Obj.refs
attribute [simp] TY RF Wk.refl bB.refl
end
end Go.au
namespace Go.au
variable[Gl]
mutual
def dO:PV->Prop
 | .str s=>∀c∈s,c<256
 | .cz t=>dO t
 | .bw _ es| .seq es| .st _ es| .aC es=>lE es
 |_=>True
def lE:List PV->Prop
 |[]=>True
 |v::vs=>dO v/\lE vs
end
section
variable{P:ax}{w:a0}{aa:Nat->Prop}
theorem Jg(bs:ByteArray):∀c∈bs.data.toList.map (·.toNat),c<256:=by
 intro c hc;simp only[a1]at hc;obtain⟨b,_,rfl⟩:=hc;exact UInt8.toNat_lt b
mutual
theorem aV.dO:∀(v:PV)(cs:List aT),aV P w aa v cs->dO v
 | .str s,cs,h=>by simp only[aV]at h;obtain⟨bs,_,rfl⟩:=h;simp only[au.dO];exact Jg bs
 | .cz t,cs,h=>by simp only[aV]at h;obtain⟨_,_,ts,a,_⟩:=h;simp only[au.dO];exact aV.dO t ts a
 | .bw f b,cs,h=>by simp only[aV]at h;obtain⟨_,_,_,_,d,a,_⟩:=h;simp only[au.dO];exact bc.dO _ b d a
 | .seq b,cs,h=>by
  simp only[aV]at h;simp only[au.dO];rcases h with⟨rfl,_⟩|⟨_,_,_,_,d,a,_⟩
  ·trivial
  ·exact bc.dO _ b d a
 | .st u b,cs,h=>by simp only[aV]at h;obtain⟨l,d,_,a,_⟩:=h;simp only[au.dO];exact bc.dO _ b d a
 | .aC b,cs,h=>by simp[aV]at h
 | .undef,_,_| .bool _,_,_| .int _ _,_,_| .dD,_,_| .aG,_,_| .ff,_,_| .gV,_,_| .fF,_,_| .eE _,_,_| .func _ _ _,_,_=>by simp[au.dO]
theorem bc.dO:∀(l:List Nat)(b:List PV)(d:List (List aT)),bc P w aa l b d->lE b
 |_,[],_,_=>by simp[au.lE]
 |[],_::_,_,h=>by simp[bc]at h
 |n::l,v::vs,d,h=>by
  simp only[bc]at h;obtain⟨c,cs,_,a,_,g⟩:=h;simp only[au.lE];exact⟨aV.dO v c a,bc.dO l vs cs g⟩
theorem aw.dO:∀(v:PV)(x:aT),aw P w aa v x->dO v
 | .str s,cs,h=>by simp only[aw]at h;obtain⟨bs,_,rfl⟩:=h;simp only[au.dO];exact Jg bs
 | .cz t,cs,h=>by simp only[aw]at h;obtain⟨_,_,ts,a,_⟩:=h;simp only[au.dO];exact aV.dO t ts a
 | .bw f b,cs,h=>by simp only[aw]at h;obtain⟨_,_,_,_,d,a,_⟩:=h;simp only[au.dO];exact bc.dO _ b d a
 | .seq b,cs,h=>by
  simp only[aw]at h;simp only[au.dO];rcases h with⟨rfl,_⟩|⟨_,_,_,_,d,a,_⟩
  ·trivial
  ·exact bc.dO _ b d a
 | .st u b,cs,h=>by simp only[aw]at h;obtain⟨l,d,_,a,_⟩:=h;simp only[au.dO];exact bc.dO _ b d a
 | .aC b,cs,h=>by simp only[aw]at h;obtain⟨e,a,_⟩:=h;simp only[au.dO];exact bg.dO b e a
 | .undef,_,_| .bool _,_,_| .int _ _,_,_| .dD,_,_| .aG,_,_| .ff,_,_| .gV,_,_| .fF,_,_| .eE _,_,_| .func _ _ _,_,_=>by simp[au.dO]
theorem bg.dO:∀(b:List PV)(e:List aT),bg P w aa b e->lE b
 |[],_,_=>by simp[au.lE]
 |v::vs,e,h=>by
  simp only[bg]at h;obtain⟨y,i,_,a,g⟩:=h;simp only[au.lE];exact⟨aw.dO v y a,bg.dO vs i g⟩
end
theorem PZ{f:ap}{args:List PV}{v:PV}(h:lE args->az P f args v):az P f args v:=by
 by_cases hs:lE args
 ·exact h hs
 ·exact .inr fun w aa b a=>(hs (bg.dO _ _ a)).elim
end
end Go.au
namespace Go.au
variable[Gl]
@[reducible] def Tg{α:Type}(_:α)(β:Type):Type:=β
@[reducible] def Tg1{α:Type 1}(_:α)(β:Type):Type:=β
section
variable(P:ax)(ag:ap->Bool)
def eC(q:Cx)(c:Code)(Q:bn->St->Prop)(s:Tg (q,c,Q) St):Prop:=dh P ag q c Q s
def pc(a:Array Oper)(l:List Oper)(K:St->Prop)(s:Tg (a,l,K) St):Prop:=fG P ag a l K s
def qz(b:Array Oper)(l:List Oper)(i:Nat)(a:List Touch)(K:St->Prop)(s:Tg (b,l,i,a,K) St):Prop:=fP P ag b l i a K s
def zj(K:St->Prop)(Q:bn->St->Prop)(e:Tg (K,Q) bn)(s:Tg (K,Q) St):Prop:=tf K Q e s
def qe(id:Nat)(Q:bn->St->Prop)(e:Tg (id,Q) bn)(s:Tg (id,Q) St):Prop:=nB id Q e s
def MZ(a b:St->Prop)(s:St)(v:Tg (a,b,s) AV):Prop:=sD v a b s
def Cm(b:Array Oper)(r:List Oper)(i:Nat)(a:List Touch)(K:St->Prop)(dst:Option Tmp)(s:St)(e:Tg (b,r,i,a,K,dst,s) aU):Prop:=u9 P ag b r i a K dst s e
def er(dst:Option Tmp)(s:St)(K:St->Prop)(e:Tg (dst,s,K) aU):Prop:=dX dst s K e
def OI(dst:Option Tmp)(s:St)(K:St->Prop)(v:Tg (dst,s,K) AV)(H:Tg (dst,s,K) Heap):Prop:=ze dst s K v H
def Cs(a:Array Oper)(o:Oper)(r:List Oper)(K:St->Prop)(b:Bool)(s:St)(g:Tg (a,o,r,K,b,s) AV):Prop:=yg P ag a o r K b s g
def BI(b:Array Oper)(o:Oper)(r:List Oper)(i:Nat)(a:List Touch)(K:St->Prop)(c:Bool)(s:St)(g:Tg (b,o,r,i,a,K,c,s) AV):Prop:=xQ P ag b o r i a K c s g
def dP(o:Oper)(K:St->Prop)(s:St)(_:Tg (o,K,s) Unit):Prop:=dj P ag o K s
def dN(o:Oper)(s:St)(K:aU->Prop)(_:Tg (o,K,s) Unit):Prop:=dm P ag o s K
def cG(K:aU->Prop)(r:Tg K ey):Prop:=aZ r K
def yO(H:Heap)(K:AV->Heap->Prop)(f:Tg (H,K) AV)(args:Tg (H,K) (List AV)):Prop:=qp P f args H K
def Cy(H:Heap)(K:aU->Prop)(f:Tg (H,K) AV)(args:Tg (H,K) (List AV)):Prop:=qc P f args H K
def jS(d:Bool)(f:ap)(K:AV->Heap->Prop)(args:Tg K (List AV))(H:Tg K Heap):Prop:=gE P d f args H K
def mi(f:ap)(K:aU->Prop)(args:Tg K (List AV))(H:Tg K Heap):Prop:=gL P f args H K
def qG(R:AV->PV->Prop):List AV->List PV->Prop
 |[],vs=>vs=[]
 |x::xs,vs=>match vs with
  |v::vs=>R x v/\qG R xs vs
  |[]=>False
def fD(H:Heap):Nat->AV->PV->Prop
 |0=>fun x v=>match x with
  | .p a=>Wk a v
  |_=>False
 |n+1=>fun x v=>match x with
  | .p a=>Wk a v
  | .sl b al z off len=>match v with
   | .seq fs=>match H[b]? with
    |some (.arr _ e h es)=>al=e/\z=h/\off+len<=es.length/\qG (fD H n) ((es.drop off).take len) fs
    |_=>False
   |_=>False
  | .st u xs=>match v with
   | .st u' vs=>u=u'/\qG (fD H n) xs vs
   |_=>False
  | .aC xs=>match v with
   | .aC vs=>qG (fD H n) xs vs
   |_=>False
  | .ptr b path=>match v with
   | .cz t=>match H[b]? with
    |some (.box _ y)=>match eB y path with
     |some s=>fD H n s t
     |none=>False
    |_=>False
   |_=>False
  | .map b=>match v with
   | .eE es=>match H[b]? with
    |some (.map _ c)=>c=es
    |_=>False
   |_=>False
  | .func f xs g=>match v with
   | .func d vs us=>f=d/\qG (fD H n) xs vs/\qG (fD H n) g us
   |_=>False
  |_=>False
def jb(H:Heap)(n:Nat):List AV->List PV->Prop:=qG (fD H n)
def qJ(a:List ay)(v:PV)(e:Tg (a,v) bn)(s:Tg (a,v) St):Prop:=
 (match e with
  | .exit _=>False
  |_=>True)/\∃vs,fo P s a=some vs/\fD (St.heap s) 9 (oneOf vs) v
def x9(a:Array Oper)(l:Tg a (List Touch)):Bool:=jJ a l
def aAs(a:Array Oper)(i j:Tg a Nat):Bool:=reach a a.size i j
end
section
variable{P:ax}{ag:ap->Bool}{q:Cx}
theorem aC0{Q:bn->St->Prop}{s:St}:eC P ag q .skip Q s=Q .normal s:=LA
theorem Uw{l:Nat}{Q:bn->St->Prop}{s:St}:eC P ag q (.label l) Q s=Q .normal s:=Km
theorem aCW{id:Nat}{Q:bn->St->Prop}{s:St}:eC P ag q (.exit id) Q s=Q (.exit id) s:=LB
theorem aCX{Q:bn->St->Prop}{s:St}:eC P ag q .ret Q s=Q .ret s:=O6
theorem Uu{b:Code}{Q:bn->St->Prop}{s:St}:eC P ag q (.scope b) Q s=eC P ag q b Q s:=Kk
theorem aCV{id:Nat}{l:List Oper}{Q:bn->St->Prop}{s:St}:eC P ag q (.region id l.toArray true) Q s=qz P ag l.toArray l 0 [] (Q .normal) s:=LC
theorem Uv{id:Nat}{l:List Oper}{Q:bn->St->Prop}{s:St}:eC P ag q (.region id l.toArray false) Q s=pc P ag l.toArray l (Q .normal) s:=Kl
theorem bm{a b:Code}{Q:bn->St->Prop}{s:St}:eC P ag q (.seq a b) Q s=eC P ag q a (zj (eC P ag q b Q) Q) s:=O7
theorem Jc{id:Nat}{b:Code}{Q:bn->St->Prop}{s:St}:eC P ag q (.block id b) Q s=eC P ag q b (qe id Q) s:=Kn
theorem aCS{c:ao}{a b:Code}{Q:bn->St->Prop}{s:St}:eC P ag q (.cond c a b) Q s=MZ (eC P ag q a Q) (eC P ag q b Q) s (ev s.env c):=LD
theorem Rk{K:St->Prop}{Q:bn->St->Prop}{s:St}:zj K Q .normal s=K s:=GI
theorem S2{id:Nat}{K:St->Prop}{Q:bn->St->Prop}{s:St}:zj K Q (.exit id) s=Q (.exit id) s:=Ia
theorem S9{K:St->Prop}{Q:bn->St->Prop}{s:St}:zj K Q .ret s=Q .ret s:=I6
theorem RS{t:Bool}{a b:St->Prop}{s:St}:MZ a b s (.p (.bool t))=if t then a s else b s:=G6
theorem TV{b:Array Oper}{r:List Oper}{i:Nat}{a:List Touch}{K:St->Prop}{dst:Option Tmp}{env:Env}{heap:Heap}{v:AV}{aj aK:List (Nat×Obj)}{aS:List Obj}:Cm P ag b r i a K dst ⟨env,heap⟩ ⟨v,aj,aK,aS⟩=qz P ag b r (i+1) (gF i heap.length ⟨v,aj,aK,aS⟩ a) K ⟨put dst v env,bd heap aK++aS⟩:=Jx
theorem VI{dst:Option Tmp}{env:Env}{heap:Heap}{K:St->Prop}{v:AV}{aj aK:List (Nat×Obj)}{aS:List Obj}:er dst ⟨env,heap⟩ K ⟨v,aj,aK,aS⟩=K ⟨put dst v env,bd heap aK++aS⟩:=Ld
theorem Vp{dst:Option Tmp}{env:Env}{heap H:Heap}{K:St->Prop}{v:AV}:OI dst ⟨env,heap⟩ K v H=K ⟨put dst v env,H⟩:=KH
theorem aC2{b:Array Oper}{i:Nat}{a:List Touch}{K:St->Prop}{s:St}:qz P ag b [] i a K s=(x9 b a=true/\K s):=Lz
theorem Ut{b:Array Oper}{i c:Nat}{pos:String}{a:List Touch}{K:St->Prop}{s:St}{dst:Option Tmp}{op:Op}{af:Array Edge}{r:List Oper}:qz P ag b ({dst,op,type:=c,pos,after:=af,guard:=none}::r) i a K s=dN P ag {dst,op,type:=c,pos,after:=af,guard:=none} s (Cm P ag b r i a K dst s) ():=Kj
theorem Tx{a:Array Oper}{i d j:Nat}{b:Bool}{pos:String}{c:List Touch}{K:St->Prop}{s:St}{dst:Option Tmp}{op:Op}{af:Array Edge}{r:List Oper}:qz P ag a ({dst,op,type:=d,pos,after:=af,guard:=some (j,b)}::r) i c K s=BI P ag a {dst,op,type:=d,pos,after:=af,guard:=some (j,b)} r i c K b s (guardOf a j s.env):=Jb
theorem aDf{a:Array Oper}{K:St->Prop}{s:St}:pc P ag a [] K s=K s:=Lx
theorem Us{a:Array Oper}{b:Nat}{pos:String}{K:St->Prop}{s:St}{dst:Option Tmp}{op:Op}{af:Array Edge}{r:List Oper}:pc P ag a ({dst,op,type:=b,pos,after:=af,guard:=none}::r) K s=dP P ag {dst,op,type:=b,pos,after:=af,guard:=none} (pc P ag a r K) s ():=Kh
theorem Tw{a:Array Oper}{c j:Nat}{b:Bool}{pos:String}{K:St->Prop}{s:St}{dst:Option Tmp}{op:Op}{af:Array Edge}{r:List Oper}:pc P ag a ({dst,op,type:=c,pos,after:=af,guard:=some (j,b)}::r) K s=Cs P ag a {dst,op,type:=c,pos,after:=af,guard:=some (j,b)} r K b s (guardOf a j s.env):=Ja
section ops
variable{dst:Option Tmp}{ty:Nat}{pos:String}{af:Array Edge}{g:Option (Nat×Bool)}{env:Env}{heap:Heap}{K:aU->Prop}{L:St->Prop}
theorem Xp{x:ao}:dN P ag ⟨dst,.move x,ty,pos,af,g⟩ ⟨env,heap⟩ K ()=K {v:=ev env x}:=Mx
theorem T7{x:ao}:dN P ag ⟨dst,.assign x,ty,pos,af,g⟩ ⟨env,heap⟩ K ()=K {v:=ev env x}:=Jv
theorem Xr{c a b:ao}:dN P ag ⟨dst,.pick c a b,ty,pos,af,g⟩ ⟨env,heap⟩ K ()=cG K (qy (ev env c) (ev env a) (ev env b)):=Mv
theorem VT{T:av}:dN P ag ⟨dst,.alloc T,ty,pos,af,g⟩ ⟨env,heap⟩ K ()=cG K (qf P T heap.length):=K0
theorem Xh{T:av}{x:ao}:dN P ag ⟨dst,.box T x,ty,pos,af,g⟩ ⟨env,heap⟩ K ()=cG K (sO P T heap.length (ev env x)):=M8
theorem VS{T:av}{a:Array (Nat×ao)}:dN P ag ⟨dst,.build T a,ty,pos,af,g⟩ ⟨env,heap⟩ K ()=cG K (qd P T (a.toList.map fun(i,x)=>(i,ev env x))):=KZ
theorem QR{T:av}{n:Nat}{a:Array (Nat×ao)}:dN P ag ⟨dst,.buildSlice T n a,ty,pos,af,g⟩ ⟨env,heap⟩ K ()=cG K (px P T n (a.toList.map fun(i,x)=>(i,ev env x)) heap.length):=Gj
theorem Xm{T:av}{a:ao}:dN P ag ⟨dst,.load T a,ty,pos,af,g⟩ ⟨env,heap⟩ K ()=cG K (oS P T heap (ev env a)):=Me
theorem VN{T:av}{a x:ao}:dN P ag ⟨dst,.store T a x,ty,pos,af,g⟩ ⟨env,heap⟩ K ()=cG K (oK P T heap (ev env a) (ev env x)):=KU
theorem Xg{op:BinOp}{T a:av}{x y:ao}:dN P ag ⟨dst,.binOp op T x y a,ty,pos,af,g⟩ ⟨env,heap⟩ K ()=cG K (iT P op T (lN y) heap (ev env x) (ev env y)):=M7
theorem Xt{op:UnOp}{T:av}{x:ao}:dN P ag ⟨dst,.unOp op T x,ty,pos,af,g⟩ ⟨env,heap⟩ K ()=cG K (ri op (ev env x)):=Nc
theorem Xj{S D:av}{x:ao}:dN P ag ⟨dst,.convert S D x,ty,pos,af,g⟩ ⟨env,heap⟩ K ()=cG K (qo P S D heap (ev env x)):=Mg
theorem Sn{t:ao}{i:Nat}:dN P ag ⟨dst,.extract t i,ty,pos,af,g⟩ ⟨env,heap⟩ K ()=cG K (pI (ev env t) i):=ID
theorem RN{T:av}{a:ao}{f:Nat}:dN P ag ⟨dst,.fieldAddr T a f,ty,pos,af,g⟩ ⟨env,heap⟩ K ()=cG K (n9 P T (ev env a) f):=GK
theorem RM{T:av}{x i:ao}:dN P ag ⟨dst,.indexAddr T x i,ty,pos,af,g⟩ ⟨env,heap⟩ K ()=cG K (n8 P T heap (ev env x) (ev env i)):=GJ
theorem VQ{T:av}{x i:ao}:dN P ag ⟨dst,.index T x i,ty,pos,af,g⟩ ⟨env,heap⟩ K ()=cG K (qh P T (ev env x) (ev env i)):=KY
theorem Xl{x:ao}{a:Array av}:dN P ag ⟨dst,.call {callee:=.builtin .len,args:=#[x],argTypes:=a},ty,pos,af,g⟩ ⟨env,heap⟩ K ()=cG K (qR P (a.getD 0 0) a.size heap (ev env x)):=M9
theorem Xi{f:ao}{args:List ao}{a:Array av}:dN P ag ⟨dst,.call {callee:=.value f,args:=args.toArray,argTypes:=a},ty,pos,af,g⟩ ⟨env,heap⟩ K ()=Cy P heap K (ev env f) (args.map (ev env)):=Mh
theorem az5{x:ao}:dP P ag ⟨dst,.move x,ty,pos,af,g⟩ L ⟨env,heap⟩ ()=er dst ⟨env,heap⟩ L {v:=ev env x}:=LW
theorem TG{x:ao}:dP P ag ⟨dst,.assign x,ty,pos,af,g⟩ L ⟨env,heap⟩ ()=er dst ⟨env,heap⟩ L {v:=ev env x}:=IL
theorem az8{c a b:ao}:dP P ag ⟨dst,.pick c a b,ty,pos,af,g⟩ L ⟨env,heap⟩ ()=cG (er dst ⟨env,heap⟩ L) (qy (ev env c) (ev env a) (ev env b)):=LU
theorem Vy{T:av}:dP P ag ⟨dst,.alloc T,ty,pos,af,g⟩ L ⟨env,heap⟩ ()=cG (er dst ⟨env,heap⟩ L) (qf P T heap.length):=Kw
theorem azS{T:av}{x:ao}:dP P ag ⟨dst,.box T x,ty,pos,af,g⟩ L ⟨env,heap⟩ ()=cG (er dst ⟨env,heap⟩ L) (sO P T heap.length (ev env x)):=OA
theorem Vx{T:av}{a:Array (Nat×ao)}:dP P ag ⟨dst,.build T a,ty,pos,af,g⟩ L ⟨env,heap⟩ ()=cG (er dst ⟨env,heap⟩ L) (qd P T (a.toList.map fun(i,x)=>(i,ev env x))):=Kv
theorem QZ{T:av}{n:Nat}{a:Array (Nat×ao)}:dP P ag ⟨dst,.buildSlice T n a,ty,pos,af,g⟩ L ⟨env,heap⟩ ()=cG (er dst ⟨env,heap⟩ L) (px P T n (a.toList.map fun(i,x)=>(i,ev env x)) heap.length):=Gc
theorem azZ{T:av}{a:ao}:dP P ag ⟨dst,.load T a,ty,pos,af,g⟩ L ⟨env,heap⟩ ()=cG (er dst ⟨env,heap⟩ L) (oS P T heap (ev env a)):=LX
theorem Vs{T:av}{a x:ao}:dP P ag ⟨dst,.store T a x,ty,pos,af,g⟩ L ⟨env,heap⟩ ()=cG (er dst ⟨env,heap⟩ L) (oK P T heap (ev env a) (ev env x)):=KJ
theorem azR{op:BinOp}{T a:av}{x y:ao}:dP P ag ⟨dst,.binOp op T x y a,ty,pos,af,g⟩ L ⟨env,heap⟩ ()=cG (er dst ⟨env,heap⟩ L) (iT P op T (lN y) heap (ev env x) (ev env y)):=Oz
theorem aAa{op:UnOp}{T:av}{x:ao}:dP P ag ⟨dst,.unOp op T x,ty,pos,af,g⟩ L ⟨env,heap⟩ ()=cG (er dst ⟨env,heap⟩ L) (ri op (ev env x)):=OE
theorem azU{S D:av}{x:ao}:dP P ag ⟨dst,.convert S D x,ty,pos,af,g⟩ L ⟨env,heap⟩ ()=cG (er dst ⟨env,heap⟩ L) (qo P S D heap (ev env x)):=LZ
theorem Sy{t:ao}{i:Nat}:dP P ag ⟨dst,.extract t i,ty,pos,af,g⟩ L ⟨env,heap⟩ ()=cG (er dst ⟨env,heap⟩ L) (pI (ev env t) i):=HM
theorem Ra{T:av}{a:ao}{f:Nat}:dP P ag ⟨dst,.fieldAddr T a f,ty,pos,af,g⟩ L ⟨env,heap⟩ ()=cG (er dst ⟨env,heap⟩ L) (n9 P T (ev env a) f):=GC
theorem Ro{T:av}{x i:ao}:dP P ag ⟨dst,.indexAddr T x i,ty,pos,af,g⟩ L ⟨env,heap⟩ ()=cG (er dst ⟨env,heap⟩ L) (n8 P T heap (ev env x) (ev env i)):=GB
theorem Vv{T:av}{x i:ao}:dP P ag ⟨dst,.index T x i,ty,pos,af,g⟩ L ⟨env,heap⟩ ()=cG (er dst ⟨env,heap⟩ L) (qh P T (ev env x) (ev env i)):=Ku
theorem azX{x:ao}{a:Array av}:dP P ag ⟨dst,.call {callee:=.builtin .len,args:=#[x],argTypes:=a},ty,pos,af,g⟩ L ⟨env,heap⟩ ()=cG (er dst ⟨env,heap⟩ L) (qR P (a.getD 0 0) a.size heap (ev env x)):=OB
theorem azT{f:ao}{args:List ao}{a:Array av}:dP P ag ⟨dst,.call {callee:=.value f,args:=args.toArray,argTypes:=a},ty,pos,af,g⟩ L ⟨env,heap⟩ ()=yO P heap (OI dst ⟨env,heap⟩ L) (ev env f) (args.map (ev env)):=L3
theorem VO{T:av}{x:ao}{lo hi:Option ao}:dN P ag ⟨dst,.slice T x lo hi none,ty,pos,af,g⟩ ⟨env,heap⟩ K ()=cG K (oM P T heap (ev env x) (lo.map (ev env)) (hi.map (ev env))):=KW
theorem Vt{T:av}{x:ao}{lo hi:Option ao}:dP P ag ⟨dst,.slice T x lo hi none,ty,pos,af,g⟩ L ⟨env,heap⟩ ()=cG (er dst ⟨env,heap⟩ L) (oM P T heap (ev env x) (lo.map (ev env)) (hi.map (ev env))):=Ks
theorem T5{T:av}{x i:ao}{ok:Bool}:dN P ag ⟨dst,.lookup T x i ok,ty,pos,af,g⟩ ⟨env,heap⟩ K ()=cG K (qu P T heap (ev env x) (ev env i) ok):=Jt
theorem TE{T:av}{x i:ao}{ok:Bool}:dP P ag ⟨dst,.lookup T x i ok,ty,pos,af,g⟩ L ⟨env,heap⟩ ()=cG (er dst ⟨env,heap⟩ L) (qu P T heap (ev env x) (ev env i) ok):=IJ
theorem RJ{T:av}{m k x:ao}:dN P ag ⟨dst,.mapUpdate T m k x,ty,pos,af,g⟩ ⟨env,heap⟩ K ()=cG K (lM P T heap (ev env m) (ev env k) (ev env x)):=GZ
theorem Rm{T:av}{m k x:ao}:dP P ag ⟨dst,.mapUpdate T m k x,ty,pos,af,g⟩ L ⟨env,heap⟩ ()=cG (er dst ⟨env,heap⟩ L) (lM P T heap (ev env m) (ev env k) (ev env x)):=Gz
theorem T6{T:av}{m k x:ao}:dN P ag ⟨dst,.insert T m k x,ty,pos,af,g⟩ ⟨env,heap⟩ K ()=cG K (lM P T heap (ev env m) (ev env k) (ev env x)):=Ju
theorem TF{T:av}{m k x:ao}:dP P ag ⟨dst,.insert T m k x,ty,pos,af,g⟩ L ⟨env,heap⟩ ()=cG (er dst ⟨env,heap⟩ L) (lM P T heap (ev env m) (ev env k) (ev env x)):=IK
theorem VP{T:av}{x:ao}:dN P ag ⟨dst,.range T x,ty,pos,af,g⟩ ⟨env,heap⟩ K ()=cG K (pX P T heap.length (ev env x)):=KX
theorem Vu{T:av}{x:ao}:dP P ag ⟨dst,.range T x,ty,pos,af,g⟩ L ⟨env,heap⟩ ()=cG (er dst ⟨env,heap⟩ L) (pX P T heap.length (ev env x)):=Kt
theorem Xq{it:ao}:dN P ag ⟨dst,.next it true,ty,pos,af,g⟩ ⟨env,heap⟩ K ()=cG K (qB heap (ev env it)):=Mw
theorem az6{it:ao}:dP P ag ⟨dst,.next it true,ty,pos,af,g⟩ L ⟨env,heap⟩ ()=cG (er dst ⟨env,heap⟩ L) (qB heap (ev env it)):=LV
theorem RL{T:av}{l c:ao}:dN P ag ⟨dst,.makeSlice T l c,ty,pos,af,g⟩ ⟨env,heap⟩ K ()=cG K (qD P T heap.length (ev env l) (ev env c)):=G0
theorem Rn{T:av}{l c:ao}:dP P ag ⟨dst,.makeSlice T l c,ty,pos,af,g⟩ L ⟨env,heap⟩ ()=cG (er dst ⟨env,heap⟩ L) (qD P T heap.length (ev env l) (ev env c)):=GA
theorem RQ{x:ao}:dN P ag ⟨dst,.nilCheck x,ty,pos,af,g⟩ ⟨env,heap⟩ K ()=cG K (pQ (ev env x)):=G3
theorem Sc{x:ao}:dP P ag ⟨dst,.nilCheck x,ty,pos,af,g⟩ L ⟨env,heap⟩ ()=cG (er dst ⟨env,heap⟩ L) (pQ (ev env x)):=Ht
theorem Xo{args:Array ao}{a:Array av}:dN P ag ⟨dst,.call {callee:=.builtin .min,args,argTypes:=a},ty,pos,af,g⟩ ⟨env,heap⟩ K ()=cG K (j0 false (args.toList.map (ev env))):=Nb
theorem az4{args:Array ao}{a:Array av}:dP P ag ⟨dst,.call {callee:=.builtin .min,args,argTypes:=a},ty,pos,af,g⟩ L ⟨env,heap⟩ ()=cG (er dst ⟨env,heap⟩ L) (j0 false (args.toList.map (ev env))):=OD
theorem Xn{args:Array ao}{a:Array av}:dN P ag ⟨dst,.call {callee:=.builtin .max,args,argTypes:=a},ty,pos,af,g⟩ ⟨env,heap⟩ K ()=cG K (j0 true (args.toList.map (ev env))):=Na
theorem az3{args:Array ao}{a:Array av}:dP P ag ⟨dst,.call {callee:=.builtin .max,args,argTypes:=a},ty,pos,af,g⟩ L ⟨env,heap⟩ ()=cG (er dst ⟨env,heap⟩ L) (j0 true (args.toList.map (ev env))):=OC
theorem Sm{T:av}:dN P ag ⟨dst,.makeMap T none,ty,pos,af,g⟩ ⟨env,heap⟩ K ()=K {v:=.map heap.length,aS:=[.map false []]}:=IC
theorem Sx{T:av}:dP P ag ⟨dst,.makeMap T none,ty,pos,af,g⟩ L ⟨env,heap⟩ ()=er dst ⟨env,heap⟩ L {v:=.map heap.length,aS:=[.map false []]}:=Im
theorem T8{s x:ao}{T X:av}:dN P ag ⟨dst,.call {callee:=.builtin .append,args:=#[s,x],argTypes:=#[T,X]},ty,pos,af,g⟩ ⟨env,heap⟩ K ()=cG K (oJ P T X heap (ev env s) (ev env x)):=Jw
theorem TH{s x:ao}{T X:av}:dP P ag ⟨dst,.call {callee:=.builtin .append,args:=#[s,x],argTypes:=#[T,X]},ty,pos,af,g⟩ L ⟨env,heap⟩ ()=cG (er dst ⟨env,heap⟩ L) (oJ P T X heap (ev env s) (ev env x)):=IM
theorem Xk{s x:ao}{T X:av}:dN P ag ⟨dst,.call {callee:=.builtin .copy,args:=#[s,x],argTypes:=#[T,X]},ty,pos,af,g⟩ ⟨env,heap⟩ K ()=cG K (copyV P T heap (ev env s) (ev env x)):=Mf
theorem azV{s x:ao}{T X:av}:dP P ag ⟨dst,.call {callee:=.builtin .copy,args:=#[s,x],argTypes:=#[T,X]},ty,pos,af,g⟩ L ⟨env,heap⟩ ()=cG (er dst ⟨env,heap⟩ L) (copyV P T heap (ev env s) (ev env x)):=LY
theorem W4{f:ap}{fi ca:List AV}{args:List AV}{M:AV->Heap->Prop}:yO P heap M (.func f fi ca) args=jS P false f M (fi++args++ca) heap:=M0
theorem W7{f:ap}{fi ca:List AV}{args:List AV}:Cy P heap K (.func f fi ca) args=mi P f K (fi++args++ca) heap:=Mi
theorem W6{f:ap}{fi ca:List PV}{args:List AV}{M:AV->Heap->Prop}:yO P heap M (.p (.func f fi ca)) args=jS P false f M (fi.map .p++args++ca.map .p) heap:=M5
theorem W8{f:ap}{fi ca:List PV}{args:List AV}:Cy P heap K (.p (.func f fi ca)) args=mi P f K (fi.map .p++args++ca.map .p) heap:=M6
end ops
section guards
variable{ops:Array Oper}{o:Oper}{r:List Oper}{K:St->Prop}{want t:Bool}{s:St}{i:Nat}{acc:List Touch}
theorem RC:Cs P ag ops o r K want s (.p (.bool t))=if t=want then dP P ag o (pc P ag ops r K) s ()else pc P ag ops r K ⟨put o.dst (.p (.aC [])) s.env,s.heap⟩:=GS
theorem R8:Cs P ag ops o r K want s (.p (.aC []))=pc P ag ops r K ⟨put o.dst (.p (.aC [])) s.env,s.heap⟩:=Hy
theorem Q3:BI P ag ops o r i acc K want s (.p (.bool t))=if t=want then dN P ag o s (Cm P ag ops r i acc K o.dst s) ()else qz P ag ops r (i+1) acc K ⟨put o.dst (.p (.aC [])) s.env,s.heap⟩:=Gg
theorem RA:BI P ag ops o r i acc K want s (.p (.aC []))=qz P ag ops r (i+1) acc K ⟨put o.dst (.p (.aC [])) s.env,s.heap⟩:=GR
end guards
theorem QV{id:Nat}{Q:bn->St->Prop}{s:St}:qe id Q .normal s=Q .normal s:=(rfl)
theorem Sj{id i:Nat}{Q:bn->St->Prop}{s:St}:qe id Q (.exit i) s=if i=id then Q .normal s else Q (.exit i) s:=(rfl)
theorem To{id:Nat}{Q:bn->St->Prop}{s:St}:qe id Q .ret s=Q .ret s:=(rfl)
section makeFunc
variable{dst:Option Tmp}{ty:Nat}{pos:String}{af:Array Edge}{g:Option (Nat×Bool)}{env:Env}{heap:Heap}{L:St->Prop}{K:aU->Prop}{f:ap}{fi ca:Array ao}
theorem Sd(hf:ag f=false):dP P ag ⟨dst,.makeFunc (.func f) fi ca,ty,pos,af,g⟩ L ⟨env,heap⟩ ()=cG (er dst ⟨env,heap⟩ L) (qq f (fi.toList.map (ev env)) (ca.toList.map (ev env))):=Hu hf
theorem RR(hf:ag f=false):dN P ag ⟨dst,.makeFunc (.func f) fi ca,ty,pos,af,g⟩ ⟨env,heap⟩ K ()=cG K (qq f (fi.toList.map (ev env)) (ca.toList.map (ev env))):=G4 hf
end makeFunc
theorem Tb{p:Prop}{e:aU}{K:aU->Prop}:cG K (some (p,e))=(p/\K e):=(rfl)
theorem Tc{K:aU->Prop}:cG K none=False:=(rfl)
theorem SS{a:Array Oper}:x9 a []=true:=(rfl)
theorem Ry{a:Array Oper}{t:Touch}{r:List Touch}:x9 a (t::r)=(r.all (fun u=>!iO u t||aAs a u.i t.i)&&x9 a r):=(rfl)
theorem TZ{a:List ay}{v:PV}{s:St}:qJ P a v .ret s=∃vs,fo P s a=some vs/\fD s.heap 9 (oneOf vs) v:=by simp[qJ]
theorem RG{a:List ay}{v:PV}{s:St}:qJ P a v .normal s=∃vs,fo P s a=some vs/\fD s.heap 9 (oneOf vs) v:=by simp[qJ]
section pur
variable{H:Heap}
theorem Dm{n:Nat}{a v:PV}:fD H n (.p a) v=Wk a v:=by cases n<;>rfl
theorem Lw{n b al z off len:Nat}{fs:List PV}:fD H (n+1) (.sl b al z off len) (.seq fs)=match H[b]? with
  |some (.arr _ a c es)=>al=a/\z=c/\off+len<=es.length/\jb H n ((es.drop off).take len) fs
  |_=>False:=(rfl)
theorem aAn{n:Nat}{u u':av}{a:List AV}{vs:List PV}:fD H (n+1) (.st u a) (.st u' vs)=(u=u'/\jb H n a vs):=(rfl)
theorem aAo{n:Nat}{a:List AV}{vs:List PV}:fD H (n+1) (.aC a) (.aC vs)=jb H n a vs:=(rfl)
theorem KI{n b:Nat}{a:List (PV×PV)}:fD H (n+1) (.map b) (.eE a)=match H[b]? with
  |some (.map _ c)=>c=a
  |_=>False:=(rfl)
theorem aAm{n:Nat}{f a:ap}{c d:List AV}{vs b:List PV}:fD H (n+1) (.func f c d) (.func a vs b)=(f=a/\jb H n c vs/\jb H n d b):=(rfl)
theorem xb{n:Nat}{vs:List PV}:jb H n [] vs=(vs=[]):=(rfl)
theorem AE{n:Nat}{x:AV}{a:List AV}{v:PV}{vs:List PV}:jb H n (x::a) (v::vs)=(fD H n x v/\jb H n a vs):=(rfl)
theorem oW{α:Type}{n:Nat}{g:α->AV}{f:α->PV}:∀{l:List α},jb H n (l.map g) (l.map f)=∀x∈l,fD H n (g x) (f x)
 |[]=>by simp[xb]
 |a::l=>by simp[AE,oW (l:=l)]
theorem rY(n:Nat)(c:∀(x:AV)(v:PV),fD H n x v->∃v',dZ H n x=some v'/\Wk v' v):∀(b:List AV)(vs:List PV),jb H n b vs->∃a,jz (dZ H n) b=some a/\bB a vs
 |[],vs,h=>by rw[xb]at h;subst h;exact⟨[],rfl,by simp[bB]⟩
 |x::b,vs,h=>by
  cases vs with
  |nil=>exact h.elim
  |cons v vs=>
   rw[AE]at h;obtain⟨p,d,e⟩:=c x v h.1;obtain⟨a,f,g⟩:=rY n c b vs h.2;exact⟨p::a,by simp[jz,d,f],by simp only[bB];exact⟨e,g⟩⟩
theorem pZ:∀(n:Nat)(x:AV)(v:PV),fD H n x v->∃v',dZ H n x=some v'/\Wk v' v
 |0,x,v,h=>by
  cases x with
  |p a=>exact⟨_,rfl,h⟩
  |_=>exact h.elim
 |n+1,x,v,h=>by
  cases x with
  |p a=>rw[Dm]at h;exact⟨_,rfl,h⟩
  |sl b al z off len=>
   cases v with
   |seq fs=>
    rw[Lw]at h
    split at h
    case h_2=>exact h.elim
    rename_i k C E j e;obtain⟨rfl,rfl,m,g⟩:=h;obtain⟨i,c,d⟩:=rY n (pZ n) _ _ g;simp only[dZ,e,m,and_self,if_true]
    split
    ·rename_i r;rw[r.2]at g;simp only[List.drop_nil,List.take_nil,xb]at g;exact⟨_,rfl,by rw[g];simp[Wk]⟩
    ·rw[c];exact⟨_,rfl,by simp only[Wk];exact d⟩
   |_=>exact h.elim
  |st u xs=>
   cases v with
   |st u' vs=>
    obtain⟨rfl,h⟩:=h;obtain⟨i,c,d⟩:=rY n (pZ n) _ _ h;simp only[dZ,c];exact⟨_,rfl,by simp only[Wk];exact⟨trivial,d⟩⟩
   |_=>exact h.elim
  |aC xs=>
   cases v with
   |aC vs=>
    obtain⟨i,c,d⟩:=rY n (pZ n) _ _ h;simp only[dZ,c];exact⟨_,rfl,by simp only[Wk];exact d⟩
   |_=>exact h.elim
  |ptr b path=>
   cases v with
   |cz t=>
    change (match H[b]? with
     |some (.box _ y)=>match eB y path with
      |some s=>fD H n s t
      |none=>False
     |_=>False)at h
    split at h
    case h_2=>exact h.elim
    rename_i e
    split at h
    case h_2=>exact h.elim
    rename_i s hs;obtain⟨p,c,d⟩:=pZ n _ _ h;simp only[dZ,e,hs,c];exact⟨_,rfl,by simp only[Wk];exact d⟩
   |_=>exact h.elim
  |bX _ _ _ _ _=>exact h.elim
  |map b=>
   cases v with
   |eE j=>
    rw[KI]at h
    split at h
    case h_2=>exact h.elim
    rename_i fz w e;subst h;simp only[dZ,e];exact⟨_,rfl,Wk.refl _⟩
   |_=>exact h.elim
  |func f xs D=>
   cases v with
   |func A vs us=>
    obtain⟨rfl,h,l⟩:=h;obtain⟨i,c,d⟩:=rY n (pZ n) _ _ h;obtain⟨B,o,q⟩:=rY n (pZ n) _ _ l;simp only[dZ,c,o];exact⟨_,rfl,by simp only[Wk];exact⟨trivial,d,q⟩⟩
   |_=>exact h.elim
end pur
theorem CD{f:ap}{fn:Func}(ag:ap->Bool)(h:an P f fn)(n:P.follows .mixedOrders=true){args:List PV}{v:PV}(o:args.length<=fn.ntmps)
 (d:eC P ag (fn.ntmps,0) (fn.body.getD .skip) (qJ P fn.results.toList v) ⟨iq 0 (args.map .p),[]⟩):mz P f args v:=by
 have hs:=h.stat;simp only[ac,bne_iff_ne]at hs;have k:fn.body=some (fn.body.getD .skip):=by
  have a:=hs.1.1;clear d hs;cases l:fn.body with
  |none=>rw[l]at a;simp at a
  |some c=>rfl
 obtain⟨e,s,⟨a,vs,g,b⟩,j⟩:=mS _ _ _ (kY (Q':=qJ P fn.results.toList v) _ (fun _ _ h=>h) d);obtain⟨v',b,i⟩:=pZ _ _ _ b;have m:mz P f args v':=Jm (nY ag) (wM (nY ag) n) h.enters h.func k hs.2 o (j (Ends P fn.results.toList v') ⟨by cases e<;>exact a,vs,g,b⟩);exact m.cZ (bB.refl _) i
theorem aO{f:ap}{fn:Func}(ag:ap->Bool)(h:an P f fn)(a:P.follows .mixedOrders=true){args:List PV}{v:PV}(b:args.length<=fn.ntmps)
 (c:eC P ag (fn.ntmps,0) (fn.body.getD .skip) (qJ P fn.results.toList v) ⟨iq 0 (args.map .p),[]⟩):az P f args v:=.inl (CD ag h a b c)
theorem OM{α:Type}{N:Nat×Nat->Prop}{f:α->PV}{l:List α}:aP N (l.map fun x=>.p (f x))=True:=by
 rw[b9,eq_iff_iff,iff_true];intro v a;simp only[a1]at a;obtain⟨x,_,rfl⟩:=a;trivial
theorem aAB{α:Type}{N:Nat×Nat->Prop}{f:α->PV}{l:List α}{i:Nat}:aP N ((l.map fun x=>.p (f x)).take i)=True:=by
 rw[b9,eq_iff_iff,iff_true];intro v a;have a:=List.mem_of_mem_take a;simp only[a1]at a;obtain⟨x,_,rfl⟩:=a;trivial
theorem TQ{N:Nat×Nat->Prop}{a b:List AV}:aP N (a++b)=(aP N a/\aP N b):=by
 simp only[b9,List.mem_append,eq_iff_iff];exact⟨fun h=>⟨fun v c=>h v (.inl c),fun v c=>h v (.inr c)⟩,fun h v c=>c.elim (h.1 v) (h.2 v)⟩
theorem QF{α:Type}{l:List α}{i:Nat}:(l.take i).take i=l.take i:=by simp[List.take_take]
theorem QE{α β:Type}{f:α->β}{l:List α}:(l.map f).take l.length=l.map f:=List.take_of_length_le (by simp)
section loops
variable{α:Type}(N:Nat)(mk:α->St)(ok:α->Prop)(m:α->Nat)(n:Nat)(Q:bn->St->Prop)
def DA(s:Tg (N,mk,ok,m,n) St):Prop:=tv N mk ok m n s
def yy(e:Tg (N,mk,ok,m,n,Q) bn)(s:Tg (N,mk,ok,m,n,Q) St):Prop:=qt N mk ok m n Q e s
variable{N}{mk}{ok}{m}{n}{Q}{s s':St}
theorem Rg:yy N mk ok m n Q .normal s=DA N mk ok m n s:=(rfl)
theorem SF{id:Nat}:yy N mk ok m n Q (.exit id) s=Q (.exit id) s:=(rfl)
theorem TC:yy N mk ok m n Q .ret s=Q .ret s:=(rfl)
theorem lp{d:Nat}{b:Code}(mk:α->St)(ok:α->Prop)(m:α->Nat)(c:α)(e:ok c)(gJ:∀a,ok a->eC P ag (d,N) b (yy N mk ok m (m a) Q) (mk a))
 (hn:(mk c).heap.take N=s.heap.take N:=by simp)(he:lB (mk c).heap s.env (mk c).env:=by simp)(hh:gS (mk c).heap s.heap (mk c).heap:=by simp)(hr:iu (mk c).heap (mk c).env:=by simp)(hr2:cr (mk c).heap (mk c).heap:=by simp):
 eC P ag (d,N) (.loop b) Q s:=wl (q:=(d,N)) mk ok m c e gJ hn he hh hr hr2
theorem rd(a':α)(a:ok a')(h1:m a'<n:=by omega)(hn:(mk a').heap.take N=s.heap.take N:=by simp)(he:lB (mk a').heap s.env (mk a').env:=by simp)(hh:gS (mk a').heap s.heap (mk a').heap:=by simp)(hr:iu (mk a').heap (mk a').env:=by simp)(hr2:cr (mk a').heap (mk a').heap:=by simp):
 DA N mk ok m n s:=rnd a' a h1 hn he hh hr hr2
end loops
section calls
variable{f:ap}{H H1:Heap}{K:AV->Heap->Prop}{L:aU->Prop}{v a b c d e a' b' c' d' e':PV}
theorem c0(h:az P f [] v)(hk:K (.p v) H):jS P false f K [] H:=W9 h hk
theorem c1(h:az P f [a'] v)(hk:K (.p v) H)(h1:Wk a a':=by first|exact Wk.refl _|simp):jS P false f K [.p a] H:=Xa h hk h1
theorem c2(h:az P f [a',b'] v)(hk:K (.p v) H)(h1:Wk a a':=by first|exact Wk.refl _|simp)(c:Wk b b':=by first|exact Wk.refl _|simp):jS P false f K [.p a,.p b] H:=Xb h hk h1 c
theorem c3(h:az P f [a',b',c'] v)(hk:K (.p v) H)(h1:Wk a a':=by first|exact Wk.refl _|simp)(d:Wk b b':=by first|exact Wk.refl _|simp)(e:Wk c c':=by first|exact Wk.refl _|simp):jS P false f K [.p a,.p b,.p c] H:=Xc h hk h1 d e
theorem c4(h:az P f [a',b',c',d'] v)(hk:K (.p v) H)(e:Wk a a':=by first|exact Wk.refl _|simp)(g:Wk b b':=by first|exact Wk.refl _|simp)(i:Wk c c':=by first|exact Wk.refl _|simp)(j:Wk d d':=by first|exact Wk.refl _|simp):jS P false f K [.p a,.p b,.p c,.p d] H:=Xd h hk e g i j
theorem c5(h:az P f [a',b',c',d',e'] v)(hk:K (.p v) H)(g:Wk a a':=by first|exact Wk.refl _|simp)(i:Wk b b':=by first|exact Wk.refl _|simp)(j:Wk c c':=by first|exact Wk.refl _|simp)(k:Wk d d':=by first|exact Wk.refl _|simp)(l:Wk e e':=by first|exact Wk.refl _|simp):jS P false f K [.p a,.p b,.p c,.p d,.p e] H:=Xe h hk g i j k l
theorem e0(h:az P f [] v)(hk:L {v:=.p v}):mi P f L [] H:=WT h hk
theorem e1(h:az P f [a'] v)(hk:L {v:=.p v})(h1:Wk a a':=by first|exact Wk.refl _|simp):mi P f L [.p a] H:=WU h hk h1
theorem e2(h:az P f [a',b'] v)(hk:L {v:=.p v})(h1:Wk a a':=by first|exact Wk.refl _|simp)(c:Wk b b':=by first|exact Wk.refl _|simp):mi P f L [.p a,.p b] H:=WV h hk h1 c
theorem e3(h:az P f [a',b',c'] v)(hk:L {v:=.p v})(h1:Wk a a':=by first|exact Wk.refl _|simp)(d:Wk b b':=by first|exact Wk.refl _|simp)(e:Wk c c':=by first|exact Wk.refl _|simp):mi P f L [.p a,.p b,.p c] H:=WW h hk h1 d e
theorem e4(h:az P f [a',b',c',d'] v)(hk:L {v:=.p v})(e:Wk a a':=by first|exact Wk.refl _|simp)(g:Wk b b':=by first|exact Wk.refl _|simp)(i:Wk c c':=by first|exact Wk.refl _|simp)(j:Wk d d':=by first|exact Wk.refl _|simp):mi P f L [.p a,.p b,.p c,.p d] H:=WX h hk e g i j
theorem e5(h:az P f [a',b',c',d',e'] v)(hk:L {v:=.p v})(g:Wk a a':=by first|exact Wk.refl _|simp)(i:Wk b b':=by first|exact Wk.refl _|simp)(j:Wk c c':=by first|exact Wk.refl _|simp)(k:Wk d d':=by first|exact Wk.refl _|simp)(l:Wk e e':=by first|exact Wk.refl _|simp):mi P f L [.p a,.p b,.p c,.p d,.p e] H:=WY h hk g i j k l
theorem cp{args:List AV}{vs a:List PV}(h:az P f a v)(b:mG H args=some (vs,H1))(hk:K (.p v) H1)(h1:bB vs a:=by first|exact bB.refl _|simp):jS P false f K args H:=Xf h b hk h1
theorem ep{args:List AV}{vs a:List PV}{bs:List Nat}{aj aK:List (Nat×Obj)}(h:az P f a v)(b:nE H args=some (vs,bs))(hf:kD H bs=some (aj,aK))(hk:L {v:=.p v,aj,aK})(h1:bB vs a:=by first|exact bB.refl _|simp):mi P f L args H:=W0 h b hf hk h1
theorem ci{args:List AV}{H':Heap}{v:AV}(h:cR P f H args H' v)(hk:K v H'):jS P false f K args H:=.inr ⟨rfl,.inr (.inl ⟨H',v,h,hk⟩)⟩
end calls
attribute [simp] OM aAB TQ QF Dm Lw aAn aAo KI aAm xb AE oW QE aP QV Sj To RC R8 Q3 RA Sd RR Tb Tc SS Ry TZ RG Rg SF TC mG ki nE lR kD lK
 aC0 Uw aCW aCX Uu aCV Uv bm Jc aCS Rk S2 S9 RS TV VI Vp aC2 Ut Tx aDf Us Tw Xp T7 Xr VT Xh VS QR Xm VN Xg Xt Xj Sn RN RM VQ Xl Xi az5 TG az8 Vy azS Vx QZ azZ Vs azR aAa azU Sy Ra Ro Vv azX azT VO Vt T5 TE RJ Rm T6 TF VP Vu Xq az6 RL Rn RQ Sc Xo az4 Xn az3 Sm Sx T8 TH Xk azV W4 W7 W6 W8
end
section
variable{P:ax}{ag:ap->Bool}{q:Cx}
theorem Ib{r:ey}{K a:aU->Prop}(hk:∀e,K e->a e)(h:aZ r K):aZ r a:=by
 unfold aZ at h⊢
 split at h
 ·exact⟨h.1,hk _ h.2⟩
 ·exact h.elim
theorem SD{o:Oper}{e:Env}{H:Heap}{K a:aU->Prop}(hk:∀e,K e->a e)(h:fh P ag o (ev e) H K):fh P ag o (ev e) H a:=by
 obtain⟨x,b,c⟩:=Bw (ag:=ag) o (ev e) H K h;exact c a (hk x b)
theorem JD{o:Oper}{e:Env}{H:Heap}{K a:aU->Prop}(hk:∀e,K e->a e)(h:ka P ag o e H K):ka P ag o e H a:=by
 unfold ka at h⊢
 repeat' split at h
 all_goals first|exact hk _ h|exact Ib hk h|exact⟨h.1,Ib hk h.2⟩|exact SD hk h|exact h.elim
theorem GN{d:Bool}{f:ap}{args:List AV}{H:Heap}{K i:AV->Heap->Prop}(hk:∀v H,K v H->i v H)(h:gE P d f args H K):gE P d f args H i:=by
 rcases h with⟨vs,v,a,b,c⟩|⟨g,⟨vs,H1,v,a,b,c⟩|⟨H',v,a,b⟩|⟨e,a,b,c⟩|⟨aj,v,a,b,c⟩⟩
 ·exact .inl ⟨vs,v,a,b,hk _ _ c⟩
 ·exact .inr ⟨g,.inl ⟨vs,H1,v,a,b,hk _ _ c⟩⟩
 ·exact .inr ⟨g,.inr (.inl ⟨H',v,a,hk _ _ b⟩)⟩
 ·exact .inr ⟨g,.inr (.inr (.inl ⟨e,a,b,hk _ _ c⟩))⟩
 ·exact .inr ⟨g,.inr (.inr (.inr ⟨aj,v,a,b,hk _ _ c⟩))⟩
theorem Hc{f:ap}{args:List AV}{H:Heap}{K d:aU->Prop}(hk:∀e,K e->d e)(h:gL P f args H K):gL P f args H d:=by
 rcases h with⟨vs,v,a,b,c⟩|⟨vs,bs,aj,aK,v,a,b,c,g⟩|⟨e,a,b,c⟩|⟨aj,v,a,b,c⟩
 ·exact .inl ⟨vs,v,a,b,hk _ c⟩
 ·exact .inr (.inl ⟨vs,bs,aj,aK,v,a,b,c,hk _ g⟩)
 ·exact .inr (.inr (.inl ⟨e,a,b,hk _ c⟩))
 ·exact .inr (.inr (.inr ⟨aj,v,a,b,hk _ c⟩))
theorem Gw{o:Oper}{K b:St->Prop}{s:St}(hk:∀s,K s->b s)(h:dj P ag o K s):dj P ag o b s:=by
 unfold dj at h⊢
 split at h
 ·rename_i f args g i;unfold qp at h⊢
  split at h
  ·exact GN (fun v H a=>hk _ a) h
  ·exact GN (fun v H a=>hk _ a) h
  ·obtain⟨H',v,c,d⟩:=h;exact⟨H',v,c,hk _ d⟩
  ·exact h.elim
 ·exact JD (fun e a=>hk _ a) h
theorem GV{o:Oper}{s:St}{K a:aU->Prop}(hk:∀e,K e->a e)(h:dm P ag o s K):dm P ag o s a:=by
 unfold dm at h⊢
 split at h
 ·rename_i f args g i;unfold qc at h⊢
  split at h
  ·exact Hc hk h
  ·exact Hc hk h
  ·obtain⟨e,b,c,d⟩:=h;exact⟨e,b,c,hk _ d⟩
  ·exact h.elim
 ·exact JD hk h
theorem ua{c:Array Oper}:∀(l:List Oper){K a:St->Prop}{s:St},(∀s,K s->a s)->fG P ag c l K s->fG P ag c l a s
 |[],K,a,s,hk,h=>hk s h
 |o::l,K,a,s,hk,h=>by
  simp only[fG]at h⊢
  split at h
  ·exact Gw (fun s hs=>ua l hk hs) h
  ·split at h
   ·split at h
    ·rename_i b;rw[if_pos b];exact Gw (fun s hs=>ua l hk hs) h
    ·rename_i b;rw[if_neg b];exact ua l hk h
   ·exact ua l hk h
   ·exact h.elim
theorem tX{d:Array Oper}:∀(l:List Oper){i:Nat}{b:List Touch}{K a:St->Prop}{s:St},(∀s,K s->a s)->fP P ag d l i b K s->fP P ag d l i b a s
 |[],i,b,K,a,s,hk,h=>⟨h.1,hk s h.2⟩
 |o::l,i,b,K,a,s,hk,h=>by
  simp only[fP]at h⊢
  split at h
  ·exact GV (fun e hs=>tX l hk hs) h
  ·split at h
   ·split at h
    ·rename_i c;rw[if_pos c];exact GV (fun e hs=>tX l hk hs) h
    ·rename_i c;rw[if_neg c];exact tX l hk h
   ·exact tX l hk h
   ·exact h.elim
theorem mR:∀(c:Code){Q g:bn->St->Prop}{s:St},(∀e s,Q e s->g e s)->dh P ag q c Q s->dh P ag q c g s
 | .skip,Q,g,s,hq,h=>hq _ _ h
 | .label _,Q,g,s,hq,h=>hq _ _ h
 | .exit _,Q,g,s,hq,h=>hq _ _ h
 | .ret,Q,g,s,hq,h=>hq _ _ h
 | .region _ ops draw,Q,g,s,hq,h=>by
  simp only[dh]at h⊢
  split at h
  ·rename_i j;rw[if_pos j];exact tX _ (fun s hs=>hq _ _ hs) h
  ·rename_i j;rw[if_neg j];exact ua _ (fun s hs=>hq _ _ hs) h
 | .seq a b,Q,g,s,hq,h=>by
  simp only[dh]at h⊢;refine mR a (fun e s d=>?_) h;cases e with
  |normal=>exact mR b hq d
  |exit i=>exact hq _ _ d
  |ret=>exact hq _ _ d
 | .cond c a b,Q,g,s,hq,h=>by
  simp only[dh]at h⊢;unfold sD at h⊢
  split at h
  ·split at h
   ·rename_i k;rw[if_pos k];exact mR a hq h
   ·rename_i k;rw[if_neg k];exact mR b hq h
  ·exact h.elim
 | .block id b,Q,g,s,hq,h=>by
  simp only[dh]at h⊢;refine mR b (fun e s d=>?_) h;cases e with
  |normal=>exact hq _ _ d
  |exit i=>
   simp only[nB]at d⊢
   by_cases hi:i=id
   ·simp only[hi,if_true]at d⊢;exact hq _ _ d
   ·simp only[hi,if_false]at d⊢;exact hq _ _ d
  |ret=>exact hq _ _ d
 | .scope b,Q,g,s,hq,h=>mR b hq h
 | .loop b,Q,g,s,hq,h=>by
  simp only[dh]at h⊢;obtain⟨I,l,m⟩:=h;refine⟨I,l,fun n t hI=>mR b (fun e s d=>?_) (m n t hI)⟩;cases e with
  |normal=>exact d
  |exit id=>exact hq _ _ d
  |ret=>exact hq _ _ d
 | .rangeFunc f o a b,Q,g,s,hq,h=>by
  simp only[dh]at h⊢;exact⟨h.1,HK (fun H=>HN hq) h.2⟩
 | .goto _,_,_,_,_,h=>h.elim
 | .refuse _,_,_,_,_,h=>h.elim
def qw(R:St->Prop)(Q:bn->St->Prop)(e:Tg (R,Q) bn)(s:Tg (R,Q) St):Prop:=match e with
 | .normal=>R s
 |e=>Q e s
theorem Q8{R:St->Prop}{Q:bn->St->Prop}{s:St}:qw R Q .normal s=R s:=(rfl)
theorem SK{R:St->Prop}{Q:bn->St->Prop}{id:Nat}{s:St}:qw R Q (.exit id) s=Q (.exit id) s:=(rfl)
theorem Ud{R:St->Prop}{Q:bn->St->Prop}{s:St}:qw R Q .ret s=Q .ret s:=(rfl)
theorem join{a b:Code}{Q:bn->St->Prop}{s:St}(R:St->Prop)(d:eC P ag q a (qw R Q) s)(f:∀s',R s'->eC P ag q b Q s'):eC P ag q (.seq a b) Q s:=by
 rw[bm];refine mR a (fun e s c=>?_) d;cases e with
 |normal=>exact f s c
 |exit i=>exact c
 |ret=>exact c
theorem ON{α:Type}{N:Nat×Nat->Prop}{f:α->PV}{l:List α}:aP N (l.map (AV.p∘f))=True:=OM
attribute [simp] Q8 SK Ud ON
end
section
variable{P:ax}{ag:ap->Bool}
def uV(P:ax)(a:List ay)(N:Nat)(H':Heap)(v:AV)(e:Tg (a,N,H',v) bn)(s:Tg (a,N,H',v) St):Prop:=sL P a N H' v e s
theorem SO{a:List ay}{N:Nat}{H':Heap}{v:AV}{s:St}:uV P a N H' v .ret s=∃vs,fo P s a=some vs/\oneOf vs=v/\(H'=s.heap\/(dJ N s ⟨[],H'⟩/\aB (aH H') v)):=by simp[uV,sL]
theorem QQ{a:List ay}{N:Nat}{H':Heap}{v:AV}{s:St}:uV P a N H' v .normal s=∃vs,fo P s a=some vs/\oneOf vs=v/\(H'=s.heap\/(dJ N s ⟨[],H'⟩/\aB (aH H') v)):=by simp[uV,sL]
theorem gH{f:ap}{fn:Func}(ag:ap->Bool)(h:an P f fn)(a:P.follows .mixedOrders=true){args:List AV}{H H':Heap}{v:AV}(hn:args.length<=fn.ntmps)
 (b:eC P ag (fn.ntmps,H.length) (fn.body.getD .skip) (uV P fn.results.toList H.length H' v) ⟨iq 0 args,H⟩):cR P f H args H' v:=
 Nr ag h a hn (kY (Q':=sL P fn.results.toList H.length H' v) _ (fun _ _ h=>h) b)
theorem aAO{n i:Nat}:sig [] n i=n+i:=by simp[sig]
theorem cn{f:ap}{H H':Heap}{K:AV->Heap->Prop}{v:AV}{args:List PV}(h:cR P f [] (args.map .p) H' v)(hk:K (cH (sig [] H.length) v) (H++H'.map (cX (sig [] H.length)))):jS P false f K (args.map .p) H:=by
 refine .inr ⟨rfl,.inr (.inr (.inl ⟨dA [] H.length [] H' v,?_,⟨by simp[dA],by simp[dA]⟩,?_⟩))⟩
 ·have b:aP (aH ([]:Heap)) (args.map .p):=by rw[b9];intro v c;obtain⟨x,_,rfl⟩:=a1.1 c;trivial
  have:=h.frame [] H.length rfl List.nodup_nil (by simp) (by simp) b (by simp);have e:cA (sig [] H.length) (args.map .p)=args.map .p:=by
   clear h b this hk
   induction args with
   |nil=>rfl
   |cons a r d=>simp only[a4,cA,cH,d]
  rwa [e]at this
 ·simpa[dA,bd]using hk
theorem CQ{f:ap}{H H':Heap}{K:AV->Heap->Prop}{v:AV}{a b:PV}(h:cR P f [] [.p a,.p b] H' v)(hk:K (cH (sig [] H.length) v) (H++H'.map (cX (sig [] H.length)))):jS P false f K [.p a,.p b] H:=cn (args:=[a,b]) h hk
def Mt(P:ax)(T:av)(f:Nat):Option (av×jc):=match kindOf P T,P.underlying T with
 | .agg u,some (.struct _)=>((je P u)[f]?).map fun F=>(u,kindOf P F)
 |_,_=>none
def yi(P:ax)(T:av)(f:Nat)(x:AV):ey:=match Mt P T f,x with
 |some (u,k),.p t=>match(cE t)[f]? with
  |some g=>some (aL t=.agg u/\k=aL g,{v:=.p g})
  |none=>none
 |_,_=>none
theorem Jp{T:av}{x:AV}{f:Nat}{K:aU->Prop}:(match kindOf P T,P.underlying T,x with
  | .agg u,some (.struct _),.p t=>aL t=.agg u/\(match(cE t)[f]?,(je P u)[f]? with
   |some g,some F=>kindOf P F=aL g/\K {v:=.p g}
   |_,_=>False)
  |_,_,_=>False)=aZ (yi P T f x) K:=by
 unfold yi Mt;cases b:kindOf P T with
 |agg u=>cases c:P.underlying T with
  |none=>simp[aZ]
  |some d=>cases d with
   |struct fs=>cases x with
    |p t=>cases hc:(je P u)[f]?<;>cases a:(cE t)[f]?<;>simp[aZ,a,hc,and_assoc]
    |_=>cases hc:(je P u)[f]?<;>simp[aZ,hc]
   |_=>simp[aZ]
 |_=>simp[aZ]
section fields
variable{dst:Option Tmp}{ty:Nat}{pos:String}{af:Array Edge}{g:Option (Nat×Bool)}{env:Env}{heap:Heap}{L:St->Prop}{K:aU->Prop}{T:av}{x:ao}{f:Nat}
theorem Vw:dP P ag ⟨dst,.field T x f,ty,pos,af,g⟩ L ⟨env,heap⟩ ()=cG (er dst ⟨env,heap⟩ L) (yi P T f (ev env x)):=Jp
theorem VR:dN P ag ⟨dst,.field T x f,ty,pos,af,g⟩ ⟨env,heap⟩ K ()=cG K (yi P T f (ev env x)):=Jp
end fields
theorem ml{σ:Nat->Nat}{α:Type}{f:α->PV}:∀{l:List α},cA σ (l.map (AV.p∘f))=l.map (AV.p∘f)
 |[]=>rfl
 |a::l=>by simp only[a4,cA,ml (l:=l)];rfl
theorem TR{σ:Nat->Nat}{α β:Type}{f:β->PV}{g:α->β}{l:List α}:cA σ (l.map ((AV.p∘f)∘g))=l.map ((AV.p∘f)∘g):=ml (f:=f∘g)
theorem aAz{α β:Type}{N:Nat×Nat->Prop}{f:β->PV}{g:α->β}{l:List α}:aP N (l.map ((AV.p∘f)∘g))=True:=ON (f:=f∘g)
attribute [simp] Vw VR TR aAz SO QQ aAO cH cA cX ml
end
section
variable{P:ax}{ag:ap->Bool}
theorem JO{T:Heap}:∀{h:Heap},gS T h h=True
 |[]=>by simp[gS]
 |o::h=>by simp[gS,Ct,JO (h:=h)]
theorem Bu{T:Heap}:∀{h k:Heap},cr T (h++k)=(cr T h/\cr T k)
 |[],k=>by simp[cr]
 |o::h,k=>by simp[cr,Bu (h:=h),and_assoc]
theorem aAA{N:Nat×Nat->Prop}{n:Nat}{v:PV}:aP N (a7 n (.p v))=True:=by
 rw[b9,eq_iff_iff,iff_true];intro x hx;rw[(List.mem_replicate.1 hx).2];trivial
theorem Vm{σ:Nat->Nat}{α:Type}{f:α->PV}{l:List α}:cA σ (l.map fun x=>.p (f x))=l.map fun x=>.p (f x):=ml (f:=f)
theorem aAt{L:eU}{e:Env}{H:Heap}(h:L.env=e)(a:iu H e):∀x,aB (aH H) (aM L.env x):=by rw[h];exact a.get
def eU.bz(L:eU):eU:={L with st:=.busy}
def eU.dn(L:eU)(j:Code):eU:={L with st:=.done,pending:=some j}
def eU.xh(L:eU):eU:={L with st:=.exhausted}
def Stream(P:ax)(g:ap)(fi ca:List PV)(d:List (List PV)):Prop:=
 ∀(b k:Nat)(c:Nat->Heap)(H':Heap),k<=d.length->(∀i,i<=k->cr (c i) (c i)/\aB (aH (c i)) (.map b))->
  (∀i a,i<k->d[i]?=some a->ia P b (c i) (a.map .p) (c (i+1)) (.p (.bool true)))->
  (k=d.length/\H'=c k\/∃a,d[k]?=some a/\ia P b (c k) (a.map .p) H' (.p (.bool false)))->
  cR P g (c 0) (fi.map .p++[.map b]++ca.map .p) H' (.p (.aC []))
theorem W5{b:Nat}{args:List AV}{M:AV->Heap->Prop}{heap:Heap}:yO P heap M (.map b) args=∃H' v,ia P b heap args H' v/\M v H':=(rfl)
def s8(b:Nat)(L:eU)(N:Nat)(H':Heap)(v:Bool)(e:Tg (b,L,N,H',v) bn)(s:Tg (b,L,N,H',v) St):Prop:=
 match e with
 | .normal=>v=true/\(St.heap s)[b]?=some (.loop L.bz)/\dJ N ⟨[],(St.heap s).set b (.loop L)⟩ ⟨[],H'⟩
 | .exit id=>v=false/\(St.heap s)[b]?=some (.loop L.bz)/\dJ N ⟨[],(St.heap s).set b (.loop (L.dn (.exit id)))⟩ ⟨[],H'⟩
 | .ret=>v=false/\(St.heap s)[b]?=some (.loop L.bz)/\dJ N ⟨[],(St.heap s).set b (.loop (L.dn .ret))⟩ ⟨[],H'⟩
section
variable{b N:Nat}{L:eU}{H':Heap}{v:Bool}{s:St}
theorem S6:s8 b L N H' v .normal s=(v=true/\s.heap[b]?=some (.loop L.bz)/\dJ N ⟨[],s.heap.set b (.loop L)⟩ ⟨[],H'⟩):=(rfl)
theorem Vo{id:Nat}:s8 b L N H' v (.exit id) s=(v=false/\s.heap[b]?=some (.loop L.bz)/\dJ N ⟨[],s.heap.set b (.loop (L.dn (.exit id)))⟩ ⟨[],H'⟩):=(rfl)
theorem aAr:s8 b L N H' v .ret s=(v=false/\s.heap[b]?=some (.loop L.bz)/\dJ N ⟨[],s.heap.set b (.loop (L.dn .ret))⟩ ⟨[],H'⟩):=(rfl)
end
def Dn(P:ax)(ag:ap->Bool)(q:Cx)(b:Nat)(c:Code)(L:eU)(H':Heap)(v:Bool)(e:Tg (q,b,c,L,H',v) bn)(s:Tg (q,b,c,L,H',v) St):Prop:=
 match e with
 | .normal=>(St.heap s)[b]?=some (.loop L)/\eC P ag q c (s8 b L q.2 H' v) ⟨St.env s,(St.heap s).set b (.loop L.bz)⟩
 |_=>False
theorem S7{q:Cx}{b:Nat}{c:Code}{L:eU}{H':Heap}{v:Bool}{s:St}:Dn P ag q b c L H' v .normal s=(s.heap[b]?=some (.loop L)/\eC P ag q c (s8 b L q.2 H' v) ⟨s.env,s.heap.set b (.loop L.bz)⟩):=(rfl)
theorem DM(ag:ap->Bool)(r:P.follows .mixedOrders=true){b n:Nat}{L:eU}{H H':Heap}{args:List AV}{v:Bool}{j:List Tmp}{a c:Code}{env:Env}
 (d:L=⟨.ready,none,n,j,a,c,env⟩)(o:H[b]?=some (.loop L))(q:args.length=j.length)
 (t:(j.all (fun x=>decide (x<n))&&codeOk fit n a&&codeOk fit n c)=true)
 (u:eC P ag (n,H.length) a (Dn P ag (n,H.length) b c L H' v) ⟨pY j args env,H⟩):ia P b H args H' (.p (.bool v)):=by
 refine Ns ag r o (by rw[d];exact q) (by rw[d];exact t) ?_;unfold xC;have e1:L.n=n:=by rw[d]
 have e2:L.assign=a:=by rw[d]
 have e3:L.body=c:=by rw[d]
 have e4:L.params=j:=by rw[d]
 have e5:L.env=env:=by rw[d]
 have k:L.st=.ready:=by rw[d]
 rw[e1,e2,e3,e4,e5];refine kY (Q:=Dn P ag (n,H.length) b c L H' v) _ (fun e s h=>?_) u;cases e with
 |normal=>
  obtain⟨l,m⟩:=h;simp only[wK,l];refine⟨k,kY (Q:=s8 b L H.length H' v) _ (fun e s h=>?_) m⟩;cases e with
  |normal=>
   obtain⟨rfl,f,g⟩:=h;have i:s.heap[b]?=some (.loop L.bz):=f;simp only[rN,i,gD];refine⟨rfl,?_⟩;have:({L.bz with st:=LoopState.ready,pending:=none}:eU)=L:=by subst d;rfl
   simpa[this]using g
  |exit id=>
   obtain⟨rfl,f,g⟩:=h;have i:s.heap[b]?=some (.loop L.bz):=f;simp only[rN,i,gD];exact⟨rfl,g⟩
  |ret=>
   obtain⟨rfl,f,g⟩:=h;have i:s.heap[b]?=some (.loop L.bz):=f;simp only[rN,i,gD];exact⟨rfl,g⟩
 |exit id=>exact h.elim
 |ret=>exact h.elim
theorem rf{f:ao}{h:Array Tmp}{a c:Code}{Q:bn->St->Prop}{env:Env}{heap:Heap}{q:Cx}{g:ap}{fi ca:List PV}{n:List (List PV)}(aI:Stream P g fi ca n)(hf:ev env f= .p (.func g fi ca))(hq:q.2<=heap.length)
 (X:eU->Nat->Heap)(k:Nat)(hk:k<=n.length)(u:∀L,X L 0=heap++[.loop L])
 (hx:∀L,L=⟨.ready,none,q.1,h.toList,a,c,env⟩->∀i,i<=k->(X L i)[heap.length]?=some (.loop L)/\iu (X L i) env/\(iu (X L i) env->(∀x,aB (aH (X L i)) (aM L.env x))->cr (X L i) (X L i)))
 (t:∀L,L=⟨.ready,none,q.1,h.toList,a,c,env⟩->∀i x,i<k->n[i]?=some x->ia P heap.length (X L i) (x.map .p) (X L (i+1)) (.p (.bool true)))
 (y:∀L,L=⟨.ready,none,q.1,h.toList,a,c,env⟩->(k=n.length/\Q .normal ⟨env,(X L k).set heap.length (.loop L.xh)⟩)\/
  ∃x j l,n[k]?=some x/\l[heap.length]?=some (.loop (L.dn j))/\ia P heap.length (X L k) (x.map .p) l (.p (.bool false))/\jP Q (some j) ⟨env,l.set heap.length (.loop (L.dn j).xh)⟩):
 eC P ag q (.rangeFunc f h a c) Q ⟨env,heap⟩:=by
 obtain⟨L,b⟩:∃L:eU,L=⟨.ready,none,q.1,h.toList,a,c,env⟩:=⟨_,rfl⟩
 have s:=aI heap.length k (X L);refine⟨hq,?_⟩;show jw P (ev env f) heap.length (heap++[.loop ⟨.ready,none,q.1,h.toList,a,c,env⟩]) (iE heap.length env Q);rw[hf];simp only[jw];rw[<-b,<-u L];have r:∀i,i<=k->cr (X L i) (X L i)/\aB (aH (X L i)) (.map heap.length):=by
  intro i hi;obtain⟨m,d,o⟩:=hx L b i hi;have e5:L.env=env:=by rw[b]
  refine⟨o d (by rw[e5];exact d.get),?_⟩;simp only[aB,aH,m];exact⟨_,rfl,by simp[Obj.has]⟩
 rcases y L b with⟨m,d⟩|⟨x,j,l,m,d,o,v⟩
 ·refine⟨_,_,s (X L k) hk r (t L b) (.inl ⟨m,rfl⟩),?_⟩;have w:=(hx L b k (bb k)).1;simp only[iE,w];refine⟨by rw[b];simp,?_⟩;have:L.pending=none:=by rw[b]
  simp only[this,jP];have e:L.xh={L with st:=.exhausted}:=rfl;rw[this]at e;rw[e]at d;exact d
 ·refine⟨_,_,s l hk r (t L b) (.inr ⟨x,m,o⟩),?_⟩;simp only[iE,d];exact⟨by simp[eU.dn],v⟩
section XS
variable{f:ap}{H0 bS H:Heap}{fq args:List AV}{v0:AV}{K:AV->Heap->Prop}{L:aU->Prop}
theorem E9(h:cR P f H0 fq bS v0)(bs:List Nat)(d:bs.length=H0.length)(g:bs.Nodup)(e:∀b∈bs,b<H.length)(hl:H0.length<=bS.length)(a:aP (aH H0) fq)(i:cr H0 H0)(c:cA (sig bs H.length) fq=args):
 qI P f args H.length (dA bs H.length H0 bS v0):=by
 have:=h.frame bs H.length d g e hl a i.get
 rwa [c]at this
theorem cf(h:cR P f H0 fq bS v0)(bs:List Nat)(hk:K (cH (sig bs H.length) v0) (bd H (bs.zip ((bS.take H0.length).map (cX (sig bs H.length))))++(bS.drop H0.length).map (cX (sig bs H.length))))(aj:∀p∈bs.zip (H0.map (cX (sig bs H.length))),H[p.1]?=some p.2:=by simp[sig])(aK:∀p∈bs.zip ((bS.take H0.length).map (cX (sig bs H.length))),p.1<H.length/\p.2≠ .hole:=by simp[sig])
 (d:bs.length=H0.length:=by simp)(g:bs.Nodup:=by simp)(e:∀b∈bs,b<H.length:=by simp)(hl:H0.length<=bS.length:=by simp)(a:aP (aH H0) fq:=by simp)(hr:cr H0 H0:=by simp)(c:cA (sig bs H.length) fq=args:=by simp[sig]):jS P false f K args H:=
 .inr ⟨rfl,.inr (.inr (.inl ⟨_,E9 h bs d g e hl a hr c,⟨aj,aK⟩,hk⟩))⟩
theorem ef(h:cR P f H0 fq bS v0)(bs:List Nat)(hk:L {v:=cH (sig bs H.length) v0,aj:=bs.zip (H0.map (cX (sig bs H.length))),aK:=bs.zip ((bS.take H0.length).map (cX (sig bs H.length))),aS:=(bS.drop H0.length).map (cX (sig bs H.length))})(aj:∀p∈bs.zip (H0.map (cX (sig bs H.length))),H[p.1]?=some p.2:=by simp[sig])(aK:∀p∈bs.zip ((bS.take H0.length).map (cX (sig bs H.length))),p.1<H.length/\p.2≠ .hole:=by simp[sig])
 (d:bs.length=H0.length:=by simp)(g:bs.Nodup:=by simp)(e:∀b∈bs,b<H.length:=by simp)(hl:H0.length<=bS.length:=by simp)(a:aP (aH H0) fq:=by simp)(i:cr H0 H0:=by simp)(c:cA (sig bs H.length) fq=args:=by simp[sig]):mi P f L args H:=
 .inr (.inr (.inl ⟨_,E9 h bs d g e hl a i c,⟨aj,aK⟩,hk⟩))
end XS
section bytes
variable{dst:Option Tmp}{ty:Nat}{pos:String}{af:Array Edge}{g:Option (Nat×Bool)}{env:Env}{heap:Heap}{L:St->Prop}{K:aU->Prop}
theorem Xs{x:ao}{d:Array av}{b al ai off len:Nat}{k:AK}{es:List AV}(hx:ev env x= .sl b al ai off len)(f:heap[b]?=some (.arr k al ai es))(e:0<len)(hl:off+len<=es.length)
 (hk:K {v:=.bX b al ai off [],aj:=[(b,.arr k al ai es)]}):dN P ag ⟨dst,.call {callee:=.builtin .unsafeSliceData,args:=#[x],argTypes:=d},ty,pos,af,g⟩ ⟨env,heap⟩ K ():=by
 show(match ev env x with
   | .p .aG=>K {v:=.p .dD}
   | .sl b al ai off len=>(match heap[b]? with
    |some (.arr k c a es)=>al=c/\ai=a/\((k.gr=true/\es=[]/\K {v:=.p .dD,aj:=[(b,.arr k c a es)]})\/(0<len/\off+len<=es.length/\K {v:=.bX b al ai off [],aj:=[(b,.arr k c a es)]}))
    |_=>False)
   |_=>False)
 rw[hx];simp only[f];exact⟨trivial,trivial,.inr ⟨e,hl,hk⟩⟩
theorem Xu{x y:ao}{a:Array av}{b al:Nat}{m:Int}{es:List AV}{l:List Nat}(hx:ev env x= .bX b al 1 0 [])(n:ev env y= .p (.int .i64 m))(i:heap[b]?=some (.arr .bytes al 1 es))(c:0<m)(j:m.toNat<=es.length)(d:m<=9223372036854775807)
 (f:a.size=2)(e:ptrTo P (a.getD 0 0)=some Gl.u8)(k:P.cellsOf Gl.u8=1)(hl:bytesOf (es.take m.toNat)=some l)
 (hk:K {v:=.p (.str l),aj:=[(b,.arr .bytes al 1 es)],aK:=[(b,.dead)]}):dN P ag ⟨dst,.call {callee:=.builtin .unsafeString,args:=#[x,y],argTypes:=a},ty,pos,af,g⟩ ⟨env,heap⟩ K ():=by
 have h:fh P ag ⟨dst,.call {callee:=.builtin .unsafeString,args:=#[x,y],argTypes:=a},ty,pos,af,g⟩ (ev env) heap K:=by
  unfold fh;simp only[a4,List.map_nil,hx,n,i];exact⟨trivial,trivial,trivial,trivial,c,j,d,f,e,k,by rw[hl];exact hk⟩
 exact h
end bytes
theorem rf2{f:ao}{h:Array Tmp}{a c:Code}{Q:bn->St->Prop}{env:Env}{heap:Heap}{q:Cx}{g:ap}{fi ca:List PV}{b:List (List PV)}(aI:Stream P g fi ca b)(hf:ev env f= .p (.func g fi ca))(hq:q.2<=heap.length)
 (X F:eU->Nat->Heap)(okB:Nat->Bool)(j:Code)(k:Nat)(hk:k<=b.length)(u:∀i,i<k->okB i=true)(r:k=b.length\/(k<b.length/\okB k=false))(m:∀L,X L 0=heap++[.loop L])
 (hx:∀L,L=⟨.ready,none,q.1,h.toList,a,c,env⟩->∀i,i<=k->(X L i)[heap.length]?=some (.loop L)/\iu (X L i) env/\(iu (X L i) env->(∀x,aB (aH (X L i)) (aM L.env x))->cr (X L i) (X L i)))
 (l:∀L,L=⟨.ready,none,q.1,h.toList,a,c,env⟩->∀i x,i<=k->b[i]?=some x->ia P heap.length (X L i) (x.map .p) (if okB i=true then X L (i+1)else F L (i+1)) (.p (.bool (okB i))))
 (n:∀L,(F L (k+1))[heap.length]?=some (.loop (L.dn j)))
 (s:k=b.length->∀L,Q .normal ⟨env,(X L k).set heap.length (.loop L.xh)⟩)
 (v:k<b.length->∀L,jP Q (some j) ⟨env,(F L (k+1)).set heap.length (.loop (L.dn j).xh)⟩):
 eC P ag q (.rangeFunc f h a c) Q ⟨env,heap⟩:=by
 refine rf aI hf hq X k hk m hx (fun L e i x hi t=>?_) (fun L e=>?_)
 ·have:=l L e i x (by omega) t;rw[u i hi]at this;exact this
 ·rcases r with d|⟨d,o⟩
  ·exact .inl ⟨d,s d L⟩
  ·right;refine⟨b[k],j,F L (k+1),a5 d,n L,?_,v d L⟩;have:=l L e k b[k] (bb _) (a5 d);rw[o]at this;exact this
attribute [simp] Vm aAA JO Bu S6 Vo aAr S7 W5 pY
end
section
variable{P:ax}{ag:ap->Bool}{w:a0}{aa ah:Nat->Prop}{β:Bd}{H:Heap}
def mu(K:Nat->Bool)(H:Heap):Heap:=H.mapIdx fun i o=>if K i then .dead else o
theorem AW{K:Nat->Bool}{b:Nat}:(mu K H)[b]?=(H[b]?).map fun o=>if K b then .dead else o:=by simp[mu]
theorem kz{K:Nat->Bool}{b:Nat}{o:Obj}(h:(mu K H)[b]?=some o):∃a,H[b]?=some a/\((K b=true/\o=.dead)\/(K b=false/\o=a)):=by
 rw[AW,Option.map_eq_some_iff]at h;obtain⟨a,d,c⟩:=h;refine⟨a,d,?_⟩;cases hk:K b<;>simp[hk]at c
 ·exact .inr ⟨rfl,c.symm⟩
 ·exact .inl ⟨rfl,c.symm⟩
theorem Bp{K:Nat->Bool}{x:Nat×Nat}(h:aH H x):aH (mu K H) x:=by
 obtain⟨o,a,b⟩:=h;refine⟨if K x.1 then .dead else o,by rw[AW,a];rfl,?_⟩
 split
 ·trivial
 ·exact b
theorem Ar{K:Nat->Bool}:b8 β H β (mu K H):=by
 refine⟨fun b _ h=>⟨?_,rfl⟩,fun b _ h=>⟨?_,rfl⟩,fun b _ h=>⟨?_,rfl⟩,fun b al ai k f _ h=>⟨k,f,?_,bb _,Iff.rfl,fun _=>⟨rfl,rfl⟩⟩,fun b _ h=>⟨?_,rfl⟩⟩
 ·obtain⟨fz,t,h⟩:=h;obtain⟨d,c,a⟩:=kz h;rcases a with⟨_,a⟩|⟨_,rfl⟩
  ·cases a
  ·exact⟨fz,t,c⟩
 ·obtain⟨s,q,h⟩:=h;obtain⟨d,c,a⟩:=kz h;rcases a with⟨_,a⟩|⟨_,rfl⟩
  ·cases a
  ·exact⟨s,q,c⟩
 ·obtain⟨g,h,e⟩:=h;obtain⟨d,c,a⟩:=kz h;rcases a with⟨_,rfl⟩|⟨_,rfl⟩
  ·exact e.elim
  ·exact⟨_,c,e⟩
 ·obtain⟨d,c,a⟩:=kz h;rcases a with⟨_,a⟩|⟨_,rfl⟩
  ·cases a
  ·exact c
 ·obtain⟨L,h⟩:=h;obtain⟨d,c,a⟩:=kz h;rcases a with⟨_,a⟩|⟨_,rfl⟩
  ·cases a
  ·exact⟨L,c⟩
def zw(K:Nat->Bool)(aa:Nat->Prop)(β:Bd)(H:Heap)(k:Nat):Prop:=aa k\/∃(b:Nat)(o:Obj),H[b]?=some o/\o.live/\K b=true/\β.ak b=k
theorem bQ.kill(K:Nat->Bool)(a:bQ P w aa β H ah):bQ P w aa β (mu K H) ah:=by
 refine⟨fun b o e=>?_,fun b b' o o' e m hl f l k=>?_,fun b o e=>?_,a.bR,a.dT,a.gU⟩
 ·obtain⟨g,c,d⟩:=kz e;rcases d with⟨_,rfl⟩|⟨_,rfl⟩
  ·trivial
  ·exact eL.carry (fun _ x=>x) (fun _ _=>rfl) Ar (a.refs b o c) (fun _=>⟨rfl,rfl,rfl⟩) (fun _ _ h=>h) (a.cF b o c)
 ·obtain⟨g,c,d⟩:=kz e;obtain⟨n,i,j⟩:=kz m;rcases d with⟨_,rfl⟩|⟨_,rfl⟩
  ·exact hl.elim
  rcases j with⟨_,rfl⟩|⟨_,rfl⟩
  ·exact f.elim
  exact a.inj b b' _ _ c i hl f l k
 ·obtain⟨g,c,d⟩:=kz e;rcases d with⟨_,rfl⟩|⟨_,rfl⟩
  ·trivial
  ·exact Obj.uo (fun _ h=>Bp h) (a.refs b o c)
theorem bQ.ayJ(K:Nat->Bool)(a:bQ P w aa β H ah):bQ P w (zw K aa β H) β (mu K H) ah:=by
 have hk:=a.kill K;have hi:∀k,aa k->zw K aa β H k:=fun k h=>.inl h;refine⟨fun b o c=>?_,fun b b' o o' c q hl n p m=>hk.inj b b' o o' c q hl n (fun h=>p (hi _ h)) m,hk.refs,fun k h=>?_,a.dT,⟨fun g=>aw.mono hi (fun _ _=>rfl) _ _ (a.gU.val g),fun g cs h=>⟨hi _ (a.gU.raw g cs h).1,(a.gU.raw g cs h).2⟩⟩⟩
 ·have e:=c;obtain⟨s,i,j⟩:=kz c;rcases j with⟨_,rfl⟩|⟨r,rfl⟩
  ·trivial
  ·refine eL.carry hi (fun _ _=>rfl) (b8.refl β _) (hk.refs b o e) (fun _=>⟨rfl,rfl,rfl⟩) (fun hl fz h=>?_) (hk.cF b o e);cases fz with
   |true=>exact hi _ h
   |false=>
    refine⟨?_,h.2⟩;rintro(l|⟨d,f,g1,g2,g3,g4⟩)
    ·exact h.1 l
    ·have:=a.inj d b f o g1 i g2 hl (by rw[g4];exact h.1) g4;rw[this,r]at g3;cases g3
 ·rcases h with h|⟨d,f,g1,g2,g3,rfl⟩
  ·exact a.bR k h
  ·exact a.mb g1 g2
theorem eL.held{b:Nat}{o:Obj}(h:eL P w aa β H ah b o)(hl:o.live):aa (β.ak b)\/¬ah (β.ak b):=by
 by_cases hi:aa (β.ak b)
 ·exact .inl hi
 ·exact .inr (h.mut hl hi)
theorem cR.pure{f:ap}{args:List AV}{H':Heap}{v:AV}{n:Nat}{p:PV}(K:Nat->Bool)(h:cR P f H args H' v)(B:dZ (mu (fun i=>!K i) H') n v=some p)(hl:∀b L,K b=true->H[b]?≠some (.loop L)):
 cR P f H args (mu K H') (.p p):=by
 refine⟨h.1,fun w aa ah β t D z E=>(h.2 w aa ah β t D z E).mono ?_⟩;rintro e w' ⟨j,aJ,aD,rfl,d,F,r⟩;have q:=d.rel;have A:=q.kill (fun i=>!K i);have G:ar P w' aD aJ (mu (fun i=>!K i) H') v j:=ar.mono (fun _ x=>x) (fun _ _=>rfl) Ar _ _ r F;have C:=wL A n v p B (aB.mono (fun _ h=>Bp h) v r) j G;refine⟨j,aJ,zw K aD aJ H',rfl,⟨fun k hk=>.inl (d.bR k hk),?_,d.ext,?_,q.ayJ K,fun x hx=>Bp (d.eH x hx),?_⟩,?_,trivial⟩
 ·rintro k (hk|⟨b,o,g1,g2,g3,rfl⟩)
  ·exact d.fresh k hk
  ·rcases(q.cF b o g1).held g2 with h|h
   ·exact d.fresh _ h
   ·exact .inr h
 ·have aI:=d.step;have hk:=Ar (K:=K) (β:=aJ) (H:=H');refine⟨fun b a c=>?_,fun b a c=>?_,fun b a c=>?_,fun b al ai k es a c=>?_,fun b a c=>?_⟩
  ·exact aI.box b a (hk.box b (d.eH _ a) c).1
  ·exact aI.it b a (hk.it b (d.eH _ a) c).1
  ·exact aI.map b a (hk.map b (d.eH _ a) c).1
  ·have u:ez H' b al ai k es:=by
    obtain⟨J,l,g⟩:=kz c;rcases g with⟨_,g⟩|⟨_,rfl⟩
    ·cases g
    ·exact l
   exact aI.arr b al ai k es a u
  ·exact aI.loop b a (hk.loop b (d.eH _ a) c).1
 ·rintro b ⟨L,c⟩;obtain⟨s,y⟩:=d.loop b ⟨L,c⟩;have m:K b=false:=by
   cases m:K b with
   |false=>rfl
   |true=>exact(hl b L m c).elim
  exact⟨s,by rw[AW,y];simp[m]⟩
 ·show aw P w' _ p j;refine aw.mono ?_ (fun _ _=>rfl) _ _ C;rintro k (hk|⟨b,o,g1,g2,rfl⟩)
  ·exact .inl hk
  ·obtain⟨J,l,g⟩:=kz g1;rcases g with⟨_,rfl⟩|⟨I,rfl⟩
   ·exact g2.elim
   ·exact .inr ⟨b,o,l,g2,by simpa using I,rfl⟩
end
section
variable{P:ax}{w:a0}{aa ah:Nat->Prop}{β:Bd}
theorem rG{t t':AV}{r:Heap}:b8 β (.box false t::r) β (.box false t'::r):=by
 refine⟨fun b _ h=>⟨?_,rfl⟩,fun b _ h=>⟨?_,rfl⟩,fun b _ h=>⟨?_,rfl⟩,fun b al ai k c _ h=>⟨k,c,?_,bb _,Iff.rfl,fun _=>⟨rfl,rfl⟩⟩,fun b _ h=>⟨?_,rfl⟩⟩
 ·cases b with
  |zero=>exact⟨false,t,rfl⟩
  |succ b=>exact h
 ·obtain⟨s,q,h⟩:=h;cases b with
  |zero=>simp at h
  |succ b=>exact⟨s,q,h⟩
 ·obtain⟨d,h,a⟩:=h;cases b with
  |zero=>simp at h;subst h;exact a.elim
  |succ b=>exact⟨d,h,a⟩
 ·cases b with
  |zero=>simp[ez]at h
  |succ b=>exact h
 ·obtain⟨L,h⟩:=h;cases b with
  |zero=>simp at h
  |succ b=>exact⟨L,h⟩
theorem pJ{t t':AV}{r:Heap}{x:Nat×Nat}(h:aH (.box false t::r) x):aH (.box false t'::r) x:=by
 obtain⟨o,a,c⟩:=h;obtain⟨b,v⟩:=x;cases b with
 |zero=>exact⟨_,rfl,trivial⟩
 |succ b=>exact⟨o,a,c⟩
theorem bQ.swap{t d:AV}{r:Heap}(c:bQ P w aa β (.box false t::r) ah)(hc:∀cs,bf P w aa β (.box false t::r) t cs->bf P w aa β (.box false t::r) d cs)(k:∀T,iU T (ad d)=true)
 (f:∀n,aB n t->aB n d):bQ P w aa β (.box false d::r) ah:=by
 refine⟨fun b o a=>?_,fun b b' o o' a q hl m p l=>?_,fun b o a=>?_,c.bR,c.dT,c.gU⟩
 ·cases b with
  |zero=>
   simp at a;subst a;obtain⟨cs,T,g,i,j,v,y⟩:=c.cF 0 _ rfl;have s:=c.refs 0 _ rfl;exact⟨cs,T,g,bf.mono (fun _ x=>x) (fun _ _=>rfl) rG _ _ (f _ s) (hc _ i),j,(fun h=>absurd h (by simp)),k T⟩
  |succ b=>exact eL.carry (fun _ x=>x) (fun _ _=>rfl) rG (c.refs (b+1) o a) (fun _=>⟨rfl,rfl,rfl⟩) (fun _ _ h=>h) (c.cF (b+1) o a)
 ·have key:∀{b:Nat}{o:Obj},(Obj.box false d::r)[b]?=some o->o.live->∃e,(Obj.box false t::r)[b]?=some e/\e.live:=by
   intro b o a hl;cases b with
   |zero=>exact⟨_,rfl,trivial⟩
   |succ b=>exact⟨o,a,hl⟩
  obtain⟨e,k1,k2⟩:=key a hl;obtain⟨u,k3,k4⟩:=key q m;exact c.inj b b' e u k1 k3 k2 k4 p l
 ·cases b with
  |zero=>
   simp at a;subst a;exact aB.mono (fun _ h=>pJ h) _ (f _ (c.refs 0 _ rfl))
  |succ b=>exact Obj.uo (fun _ h=>pJ h) (c.refs (b+1) o a)
theorem JZ{H:Heap}{u:av}{n:Nat}(f:dH P u=some [n]){t:AV}{cs:List aT}:bf P w aa β H (.st u [t]) cs↔bf P w aa β H t cs/\cs.length=n:=by
 simp only[bf,f,bo];constructor
 ·rintro⟨l,g,rfl,a,rfl⟩;simp only[bH]at a;obtain⟨c,d,rfl,b,e,rfl⟩:=a;simpa using⟨b,e⟩
 ·rintro⟨a,b⟩;exact⟨[n],[cs],rfl,by simp only[bH];exact⟨cs,[],rfl,a,b,rfl⟩,by simp⟩
theorem cR.wrap{f:ap}{u:av}{n:Nat}{t i:AV}{r j:Heap}{args:List AV}{v:AV}(q:dH P u=some [n])(a:∀T,iU T (.agg u)=true)(F:∀T,iU T (ad t)=true)(G:∀(w:a0)(aa:Nat->Prop)(β:Bd)(H:Heap)(cs:List aT),bf P w aa β H i cs->cs.length=n)
 (h:cR P f (.box false t::r) (.ptr 0 []::args) (.box false i::j) v):cR P f (.box false (.st u [t])::r) (.ptr 0 [(u,0)]::args) (.box false (.st u [i])::j) v:=by
 refine⟨h.1,fun w aa ah β N hr D y=>?_⟩;have J:bQ P w aa β (.box false t::r) ah:=hr.swap (fun cs h=>((JZ q).1 h).1) F (fun n h=>by simpa[aB,aP]using h);obtain⟨x,xs,rfl,h1,C⟩:=D;have E:bt P w aa β (.box false t::r) (.ptr 0 []::args) (x::xs):=by
  refine⟨x,xs,rfl,?_,bt.mono (fun _ x=>x) (fun _ _=>rfl) rG _ _ y.2 C⟩;obtain⟨q1,ak,off,o,s,M,q4⟩:=h1;refine⟨q1,ak,off,0,s,rfl,fun _=>?_⟩;have I:o=0:=by simpa[fL,q]using M.symm
  have:=q4 (.inl ⟨false,_,rfl⟩);rw[I]at this;exact this
 refine(h.2 w aa ah β (x::xs) J E ⟨⟨_,rfl,trivial⟩,aP.mono (fun _ h=>pJ h) _ y.2⟩).mono ?_;rintro e w' ⟨B,aJ,aD,rfl,g,K,z⟩;refine⟨B,aJ,aD,rfl,⟨g.bR,g.fresh,g.ext,?_,?_,fun x hx=>pJ (g.eH x (pJ hx)),?_⟩,ar.mono (fun _ x=>x) (fun _ _=>rfl) rG _ _ z K,aB.mono (fun _ h=>pJ h) _ z⟩
 ·have aI:=g.step;have m:=rG (β:=β) (t:=.st u [t]) (t':=t) (r:=r);have p:=rG (β:=aJ) (t:=i) (t':=.st u [i]) (r:=j);have d:∀x,aH (.box false (.st u [t])::r) x->aH (.box false t::r) x:=fun x h=>pJ h;have l:∀x,aH (.box false t::r) x->aH (.box false i::j) x:=g.eH;refine⟨fun b a c=>?_,fun b a c=>?_,fun b a c=>?_,fun b al ai k es a c=>?_,fun b a c=>?_⟩
  ·obtain⟨k1,k2⟩:=p.box b (l _ (d _ a)) c;obtain⟨k3,k4⟩:=aI.box b (d _ a) k1;exact⟨(m.box b a k3).1,k4⟩
  ·obtain⟨k1,k2⟩:=p.it b (l _ (d _ a)) c;obtain⟨k3,k4⟩:=aI.it b (d _ a) k1;exact⟨(m.it b a k3).1,k4⟩
  ·obtain⟨k1,k2⟩:=p.map b (l _ (d _ a)) c;obtain⟨k3,k4⟩:=aI.map b (d _ a) k1;exact⟨(m.map b a k3).1,k4⟩
  ·have k1:ez (.box false i::j) b al ai k es:=by
    cases b with
    |zero=>simp[ez]at c
    |succ b=>exact c
   obtain⟨k0,gp,q1,s⟩:=aI.arr b al ai k es (d _ a) k1;refine⟨k0,gp,?_,s⟩;cases b with
   |zero=>simp[ez]at q1
   |succ b=>exact q1
  ·obtain⟨k1,k2⟩:=p.loop b (l _ (d _ a)) c;obtain⟨k3,k4⟩:=aI.loop b (d _ a) k1;exact⟨(m.loop b a k3).1,k4⟩
 ·exact g.rel.swap (fun cs h=>(JZ q).2 ⟨h,G _ _ _ _ _ h⟩) a (fun n h=>by simpa[aB,aP]using h)
 ·rintro b ⟨L,c⟩;have k1:gC (.box false t::r) b:=by
   cases b with
   |zero=>simp at c
   |succ b=>exact⟨L,c⟩
  obtain⟨A,k2⟩:=g.loop b k1;cases b with
  |zero=>simp at k2
  |succ b=>exact⟨A,k2⟩
end
section
variable{P:ax}{w:a0}{aa ah:Nat->Prop}{β:Bd}
def sK(n:Nat):Heap:=a7 n .dead
theorem mT{n b:Nat}{o:Obj}(h:(sK n)[b]?=some o):o=.dead:=by
 simp only[sK,a6]at h
 split at h
 ·injection h with h;exact h.symm
 ·cases h
theorem cR.cut{f:ap}{H:Heap}{args:List AV}{n:Nat}{p:PV}(h:cR P f H args (sK n) (.p p)):cR P f H args (sK H.length) (.p p):=by
 refine⟨h.1,fun w aa ah β g u q v=>(h.2 w aa ah β g u q v).mono ?_⟩;rintro e w' ⟨i,aJ,aD,rfl,a,y,z⟩;have no:∀{m b:Nat}{o:Obj},(sK m)[b]?=some o->o.live->False:=fun h hl=>by rw[mT h]at hl;exact hl
 refine⟨i,aJ,aD,rfl,⟨a.bR,a.fresh,a.ext,⟨?_,?_,?_,?_,?_⟩,⟨fun b o c=>by rw[mT c];trivial,fun b b' o o' c _ hl=>(no c hl).elim,fun b o c=>by rw[mT c];trivial,a.rel.bR,a.rel.dT,a.rel.gU⟩,?_,?_⟩,y,trivial⟩
 ·rintro b _ ⟨fz,t,h⟩;cases mT h
 ·rintro b _ ⟨fz,t,h⟩;cases mT h
 ·rintro b _ ⟨A,h,d⟩;rw[mT h]at d;exact d.elim
 ·intro b al ai k es _ h;cases mT h
 ·rintro b _ ⟨L,h⟩;cases mT h
 ·rintro x ⟨o,j,_⟩;have s:=(a3.1 j).1;exact⟨.dead,by rw[sK,a6,if_pos s],trivial⟩
 ·intro b r;obtain⟨L,l⟩:=a.loop b r;cases mT l
theorem cR.cZ{f:ap}{H H':Heap}{args:List AV}{v v':PV}(h:cR P f H args H' (.p v))(k:Wk v v'):cR P f H args H' (.p v'):=by
 refine⟨h.1,fun w aa ah β a i d j=>(h.2 w aa ah β a i d j).mono ?_⟩;rintro e w' ⟨b,aJ,aD,rfl,g,c,l⟩;exact⟨b,aJ,aD,rfl,g,aw.cZ _ _ _ k c,trivial⟩
end
section
variable{P:ax}
def yI(P:ax)(a:List ay)(N:Nat)(Q:AV->Heap->Prop)(e:Tg (a,N,Q) bn)(s:Tg (a,N,Q) St):Prop:=
 (match e with
  | .exit _=>False
  |_=>True)/\∃vs,fo P s a=some vs/\∃H',Q (oneOf vs) H'/\(H'=St.heap s\/(dJ N s ⟨[],H'⟩/\aB (aH H') (oneOf vs)))
theorem TX{a:List ay}{N:Nat}{Q:AV->Heap->Prop}{s:St}:yI P a N Q .ret s=∃vs,fo P s a=some vs/\∃H',Q (oneOf vs) H'/\(H'=s.heap\/(dJ N s ⟨[],H'⟩/\aB (aH H') (oneOf vs))):=by simp[yI]
theorem RE{a:List ay}{N:Nat}{Q:AV->Heap->Prop}{s:St}:yI P a N Q .normal s=∃vs,fo P s a=some vs/\∃H',Q (oneOf vs) H'/\(H'=s.heap\/(dJ N s ⟨[],H'⟩/\aB (aH H') (oneOf vs))):=by simp[yI]
attribute [simp] TX RE
end
section
variable{P:ax}
theorem az.heap{f:ap}{vs j:List PV}{v:PV}{H H1:Heap}{args:List AV}(h:az P f vs v)(g:Enters P f)(o:mG H args=some (j,H1))(l:bB j vs:=by first|exact bB.refl _|simp):cR P f H args H1 (.p v):=by
 refine⟨g,fun w aa ah β x u r q=>?_⟩;obtain⟨b,a,i⟩:=AF o u r q;rcases h.cZ l (Wk.refl _)with m|n
 ·intro cs;obtain⟨e,w',k,⟨c,aD,he,m1,m2,m3,m4,m5,m6,m7⟩,aI,s,t⟩:=m.2 w b _ a.rel.bR a.rel.gU i cs;subst he;exact⟨_,w',k,⟨c,β,aD,rfl,a.trans (a.rel.later m1 m2 m3 m4 m5 m6),by simpa[ar]using m7,by simp[aB]⟩,aI,s,t⟩
 ·obtain⟨c,d,_⟩:=n w b _ i;rw[g]at d;cases d
end
section
variable{P:ax}{ag:ap->Bool}
theorem Pc{H J:Heap}{x:Nat×Nat}(h:aH H x):aH (H++J) x:=by
 obtain⟨o,a,b⟩:=h;exact⟨o,by rw[List.getElem?_append_left (a3.1 a).1];exact a,b⟩
theorem cr.up{S T:Heap}(a:∀x,aH S x->aH T x):∀{h:Heap},cr S h->cr T h
 |[],_=>trivial
 |_::_,h=>⟨Obj.uo a h.1,cr.up a h.2⟩
theorem cr.app{H J:Heap}(h:cr H H)(a:cr (H++J) J):cr (H++J) (H++J):=by
 rw[Bu];exact⟨h.up fun _=>Pc,a⟩
end
end Go.au
