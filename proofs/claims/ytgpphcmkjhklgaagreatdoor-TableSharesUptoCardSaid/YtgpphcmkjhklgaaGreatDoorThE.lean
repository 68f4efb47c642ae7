import Derived.Test.YtgpphcmkjhklgaaGreatDoorThD
/- Parts of a proof. -/
set_option linter.unusedSimpArgs false
set_option linter.unusedVariables false
set_option linter.unusedSectionVars false
open Bool renaming cond_eq_ite->ab, and_eq_true->ac, false_eq_true->am
open Go renaming Operand->ao, FuncId->ap, TypeId->av, Program->ax, ResultVar->ay, Value->aT, World->a0
open List renaming mem_map->a1, getElem?_eq_some_iff->a3, map_cons->a4, getElem?_eq_getElem->a5, getElem?_replicate->a6, replicate->a7, rec->a8
open Nat renaming ble->a9, le_refl->bb, pow_succ->be, beq->bi, mod_lt->bk
open Option renaming ite_none_right_eq_some->bl
open Option.some renaming injEq->bo
open Prod.mk renaming injEq->bv
namespace Go.al
set_option linter.unusedSectionVars false
variable[Gl]
inductive RT where
 |lf
 |vl (v:AV)
 |nd (a b c d:RT)
inductive Q4 where|a|b|c|d
def q4(n:Nat):Q4:=match n with
 |0=>.a
 |1=>.b
 |2=>.c
 |_=>.d
def pathOf:Nat->Nat->List Q4
 |0,_=>[]
 |k+1,n=>q4 (n% 4)::pathOf k (n/4)
noncomputable def vo(p:List Q4):RT->AV:=
 a8 (motive:=fun _=>RT->AV) (fun R=>RT.rec (motive:=fun _=>AV) (.p .undef) (fun v=>v) (fun _ _ _ _ _ _ _ _=>.p .undef) R)
  (fun q _ e R=>RT.rec (motive:=fun _=>AV) (.p .undef) (fun _=>.p .undef) (fun a b c d _ _ _ _=>Q4.rec (motive:=fun _=>AV) (e a) (e b) (e c) (e d) q) R) p
noncomputable def Dv(v:AV)(p:List Q4):RT->RT:=
 a8 (motive:=fun _=>RT->RT) (fun _=>.vl v)
  (fun q _ e R=>RT.rec (motive:=fun _=>RT)
   (Q4.rec (motive:=fun _=>RT) (.nd (e .lf) .lf .lf .lf) (.nd .lf (e .lf) .lf .lf) (.nd .lf .lf (e .lf) .lf) (.nd .lf .lf .lf (e .lf)) q)
   (fun _=>Q4.rec (motive:=fun _=>RT) (.nd (e .lf) .lf .lf .lf) (.nd .lf (e .lf) .lf .lf) (.nd .lf .lf (e .lf) .lf) (.nd .lf .lf .lf (e .lf)) q)
   (fun a b c d _ _ _ _=>Q4.rec (motive:=fun _=>RT) (.nd (e a) b c d) (.nd a (e b) c d) (.nd a b (e c) d) (.nd a b c (e d)) q) R) p
noncomputable def jv(k:Nat)(R:RT)(n:Nat):AV:=bif a9 (n+1) (4^k)then vo (pathOf k n) R else .p .undef
noncomputable def vR(k:Nat)(R:RT)(n:Nat)(v:AV):RT:=Dv v (pathOf k n) R
theorem I9:∀(p:List Q4),vo p .lf=.p .undef
 |[]=>rfl
 |_::_=>rfl
theorem Hq(v:AV):∀(p:List Q4)(R:RT),vo p (Dv v p R)=v
 |[],_=>rfl
 |x::p,R=>by
  cases R<;>cases x<;>exact Hq v p _
theorem Gu(v:AV):∀(p q:List Q4)(R:RT),p.length=q.length->p≠q->vo p (Dv v q R)=vo p R
 |[],[],R,_,h=>(h rfl).elim
 |[],_::_,R,h,_=>by simp at h
 |_::_,[],R,h,_=>by simp at h
 |x::p,y::q,R,h,f=>by
  have g:=fun R(f:p≠q)=>Gu v p q R (by simpa using h) f;have i:=I9 p;cases R with
  |nd a b c d=>
   cases x<;>cases y<;>first
    |rfl
    |exact g _ (fun e=>f (by rw[e]))
  |_=>
   cases x<;>cases y<;>first
    |exact i
    |exact(g _ (fun e=>f (by rw[e]))).trans i
theorem zX:∀k n,(pathOf k n).length=k
 |0,_=>rfl
 |k+1,n=>by simp[pathOf,zX k]
theorem aAW{m n:Nat}(a:m<4)(b:n<4)(h:q4 m=q4 n):m=n:=by
 have hc:∀n,n<4->n=0\/n=1\/n=2\/n=3:=by omega
 rcases hc m a with rfl|rfl|rfl|rfl<;>rcases hc n b with rfl|rfl|rfl|rfl<;>simp[q4]at h<;>rfl
theorem Ht:∀(k m n:Nat),m<4^k->n<4^k->pathOf k m=pathOf k n->m=n
 |0,m,n,a,b,_=>by simp at a b;omega
 |k+1,m,n,a,b,h=>by
  simp only[pathOf,List.cons.injEq]at h;have c:=aAW (bk _ (by omega)) (bk _ (by omega)) h.1;have d:=Ht k (m/4) (n/4) (by rw[be]at a;omega) (by rw[be]at b;omega) h.2;omega
theorem KC(k n:Nat):jv k .lf n=.p .undef:=by
 simp[jv,I9]
theorem Wj{a b:Nat}(h:a<=b):a9 a b=true:=Nat.ble_eq_true_of_le h
theorem K9{a b:Nat}(h:¬a<=b):a9 a b=false:=by
 cases c:a9 a b
 ·rfl
 ·exact(h (cK c)).elim
theorem AD(k:Nat)(R:RT)(d x:Nat)(v:AV)(h:d<4^k):jv k (vR k R d v) x=if x=d then v else jv k R x:=by
 unfold jv vR
 by_cases hx:x+1<=4^k
 ·simp only[Wj hx,cond_true]
  by_cases a:x=d
  ·subst a;rw[Hq,if_pos rfl]
  ·rw[if_neg a,Gu _ _ _ _ (by rw[zX,zX]) (fun e=>a (Ht k x d (by omega) h e))]
 ·have:x≠d:=by omega
  simp only[K9 hx,cond_false,this,if_false]
def Rel(k:Nat)(e:Env)(R:RT):Prop:=∀x,aK e x=jv k R x
noncomputable def jY(k:Nat)(d:Option Nat)(v:AV)(R:RT):Option RT:=
 match d with
 |none=>some R
 |some d=>bif a9 (d+1) (4^k)then some (vR k R d v)else none
theorem ux{k:Nat}{d:Option Nat}{v:AV}{R a:RT}{e:Env}(h:jY k d v R=some a)(b:Rel k e R):Rel k (put d v e) a:=by
 unfold jY at h
 split at h
 ·simp only[bo]at h;subst h;exact b
 ·simp only[ab,bl,bo]at h;obtain⟨c,rfl⟩:=h;intro x;rw[AD _ _ _ _ _ (by have:=cK c;omega)];simp only[put,aK]
  split
  ·rfl
  ·exact b x
noncomputable def jn(k:Nat)(R:RT):ao->AV
 | .tmp t=>jv k R t
 | .const v=>.p (ofConst v)
 | .global g=>.p (Gl.g g)
 | .func f=>.p (.func f [] [])
theorem yp{k:Nat}{R:RT}{e:Env}(a:Rel k e R):jn k R=ev e:=by
 funext o;cases o<;>simp[jn,ev,a _]
def oM(H:Heap)(e:aS):Heap:=
 match e.aI,e.aP with
 |[],[]=>H
 |_,_=>br H e.aI++e.aP
theorem Jo(H:Heap)(e:aS):oM H e=br H e.aI++e.aP:=by
 unfold oM;split
 ·rename_i a b;simp[a,b,br]
 ·rfl
structure jh where
 cP:ap->List AV->Heap->Option (AV×Heap)
 cD:ap->List AV->Heap->Option aS
 cY:Nat->Heap->List AV->Option (Heap×AV)
 cI:AV->Nat->Heap->Option Heap
 yT:Nat->List AV->Heap->Option aS
structure jw(P:ax)(B:jh):Prop where
 cP:∀f args H v H',B.cP f args H=some (v,H')->∀K:AV->Heap->Prop,K v H'->gz P false f args H K
 cD:∀f args H e,B.cD f args H=some e->∀K:aS->Prop,K e->gF P f args H K
 cY:∀b H args H' v,B.cY b H args=some (H',v)->gV P b H args H' v
 cI:∀it b H H',B.cI it b H=some H'->∀K:Heap->Prop,K H'->ji P it b H K
 yT:∀b args H e,B.yT b args H=some e->sB P b args H.length e/\oL H e
section
variable(P:ax)(ag:ap->Bool)(B:jh)(k:Nat)
noncomputable def vO(o:Oper)(R:RT)(H:Heap):Option (RT×Heap):=
 match o.op with
 | .call {callee:=.value f,args,.. }=>match(match jn k R f with
  | .p (.func g fi ca)=>B.cP g (fi.map .p++args.toList.map (jn k R)++ca.map .p) H
  | .func g fi ca=>B.cP g (fi++args.toList.map (jn k R)++ca) H
  | .map b=>match B.cY b H (args.toList.map (jn k R))with
   |some (H',v)=>some (v,H')
   |none=>none
  |_=>none)with
  |some (v,H')=>match jY k o.dst v R with
   |some a=>some (a,H')
   |none=>none
  |none=>none
 |_=>match zb P ag o (jn k R) H with
  |some e=>match jY k o.dst e.v R with
   |some a=>some (a,oM H e)
   |none=>none
  |none=>none
noncomputable def yn(a:Array Oper)(j:Nat)(R:RT):AV:=
 match(a[j]?).bind (·.dst)with
 |some d=>jv k R d
 |none=>.p (.aE [])
noncomputable def mu(b:Array Oper):List Oper->RT->Heap->Option (RT×Heap)
 |[],R,H=>some (R,H)
 |o::r,R,H=>match o.guard with
  |none=>match vO P ag B k o R H with
   |some (a,H')=>mu b r a H'
   |none=>none
  |some (j,want)=>match yn k b j R with
   | .p (.bool t)=>match t,want with
    |true,true|false,false=>match vO P ag B k o R H with
     |some (a,H')=>mu b r a H'
     |none=>none
    |_,_=>match jY k o.dst (.p (.aE [])) R with
     |some a=>mu b r a H
     |none=>none
   | .p (.aE [])=>match jY k o.dst (.p (.aE [])) R with
    |some a=>mu b r a H
    |none=>none
   |_=>none
noncomputable def vD(o:Oper)(R:RT)(H:Heap):Option aS:=
 match o.op with
 | .call {callee:=.value f,args,.. }=>match jn k R f with
  | .p (.func g fi ca)=>B.cD g (fi.map .p++args.toList.map (jn k R)++ca.map .p) H
  | .func g fi ca=>B.cD g (fi++args.toList.map (jn k R)++ca) H
  | .map b=>B.yT b (args.toList.map (jn k R)) H
  |_=>none
 |_=>zb P ag o (jn k R) H
noncomputable def me(b:Array Oper):List Oper->Nat->List Touch->RT->Heap->Option (RT×Heap)
 |[],_,acc,R,H=>bif jE b acc then some (R,H)else none
 |o::r,i,acc,R,H=>match o.guard with
  |none=>match vD P ag B k o R H with
   |some e=>match jY k o.dst e.v R with
    |some a=>me b r (i+1) (gA i H.length e acc) a (oM H e)
    |none=>none
   |none=>none
  |some (j,want)=>match yn k b j R with
   | .p (.bool t)=>match t,want with
    |true,true|false,false=>match vD P ag B k o R H with
     |some e=>match jY k o.dst e.v R with
      |some a=>me b r (i+1) (gA i H.length e acc) a (oM H e)
      |none=>none
     |none=>none
    |_,_=>match jY k o.dst (.p (.aE [])) R with
     |some a=>me b r (i+1) acc a H
     |none=>none
   | .p (.aE [])=>match jY k o.dst (.p (.aE [])) R with
    |some a=>me b r (i+1) acc a H
    |none=>none
   |_=>none
abbrev Out:=Option (bn×RT×Heap)
def vk(f:RT->Heap->Out):Nat->RT->Heap->Out
 |0,_,_=>none
 |n+1,R,H=>match f R H with
  |some (.normal,a,H')=>vk f n a H'
  |r=>r
noncomputable def sY(k:Nat)(R:RT):Nat->Env
 |0=>[]
 |n+1=>(n,jv k R n)::sY k R n
def Vf:Nat:=100000
def yE(j:Option Code):Option bn:=
 match j with
 |none=>some .normal
 |some (.exit id)=>some (.exit id)
 |some .ret=>some .ret
 |_=>none
def Ds(b:Nat)(R:RT)(H:Heap):Out:=
 match H[b]? with
 |some (.loop L)=>match L.st with
  | .busy=>none
  |_=>match yE L.pending with
   |some e=>some (e,R,H.set b (.loop {L with st:=.exhausted}))
   |none=>none
 |_=>none
noncomputable def gE(q:Cx):Code->RT->Heap->Out
 | .skip,R,H| .label _,R,H=>some (.normal,R,H)
 | .region _ ops draw,R,H=>bif draw then match me P ag B k ops ops.toList 0 [] R H with
   |some (d,H')=>some (.normal,d,H')
   |none=>none
  else match mu P ag B k ops ops.toList R H with
   |some (d,H')=>some (.normal,d,H')
   |none=>none
 | .seq a b,R,H=>match gE q a R H with
  |some (.normal,d,H')=>gE q b d H'
  |r=>r
 | .cond c a b,R,H=>match jn k R c with
  | .p (.bool t)=>match t with
   |true=>gE q a R H
   |false=>gE q b R H
  |_=>none
 | .block id b,R,H=>match gE q b R H with
  |some (.exit i,d,H')=>bif bi i id then some (.normal,d,H')else some (.exit i,d,H')
  |r=>r
 | .scope b,R,H=>gE q b R H
 | .loop b,R,H=>vk (fun R H=>gE q b R H) Vf R H
 | .rangeFunc f e a b,R,H=>bif a9 q.2 H.length&&a9 q.1 (4^k)then match B.cI (jn k R f) H.length (H++[.loop ⟨.ready,none,q.1,e.toList,a,b,sY k R (4^k)⟩])with
   |some H'=>Ds H.length R H'
   |none=>none
  else none
 | .exit id,R,H=>some (.exit id,R,H)
 | .ret,R,H=>some (.ret,R,H)
 |_,_,_=>none
end
section
variable{P:ax}{ag:ap->Bool}{B:jh}{k:Nat}
theorem Ix(e:aS)(dst:Option Tmp)(env:Env)(H:Heap):e.app dst ⟨env,H⟩=⟨put dst e.v env,oM H e⟩:=by
 simp[aS.app,Jo]
theorem az0(b:jw P B){o:Oper}{R i:RT}{H H':Heap}{env:Env}(h:vO P ag B k o R H=some (i,H'))(g:Rel k env R):
 ∃j,Rel k j i/\∀K:St->Prop,K ⟨j,H'⟩->ja P ag false o K ⟨env,H⟩:=by
 unfold vO at h;unfold ja;rw[yp g]at h
 split at h
 ·rename_i f args n c
  split at h
  case h_2=>simp at h
  rename_i v l hc
  split at h
  case h_2=>simp at h
  rename_i m d;simp only[bo,bv]at h;obtain⟨rfl,rfl⟩:=h;refine⟨_,ux d g,fun K a=>?_⟩;simp only[c]
  split at hc
  ·rename_i hf;simp only[hf];exact b.cP _ _ _ _ _ hc _ a
  ·rename_i hf;simp only[hf];exact b.cP _ _ _ _ _ hc _ a
  ·rename_i hf
   split at hc
   ·rename_i l s r;simp only[bo,bv]at hc;obtain⟨rfl,rfl⟩:=hc;simp only[hf];exact⟨_,_,b.cY _ _ _ _ _ r,a⟩
   ·simp at hc
  ·simp at hc
 ·rename_i q
  split at h
  case h_2=>simp at h
  rename_i e p
  split at h
  case h_2=>simp at h
  rename_i m d;simp only[bo,bv]at h;obtain⟨rfl,rfl⟩:=h;refine⟨_,ux d g,fun K a=>?_⟩
  split
  ·rename_i f args n c;exact(q _ _ _ c).elim
  ·exact LZ p (by rw[Ix];exact a)
theorem Iy{a:Array Oper}{j:Nat}{R:RT}{env:Env}(b:Rel k env R):yn k a j R=guardOf a j env:=by
 unfold yn guardOf;split
 ·rename_i h;simp only[h];exact(b _).symm
 ·rename_i h;simp only[h]
theorem BT(f:jw P B){c:Array Oper}:∀{l:List Oper}{R a:RT}{H H':Heap}{env:Env},mu P ag B k c l R H=some (a,H')->Rel k env R->
 ∃b,Rel k b a/\∀K:St->Prop,K ⟨b,H'⟩->gB P ag false c l K ⟨env,H⟩
 |[],R,a,H,H',env,h,d=>by
  simp only[mu,bo,bv]at h;obtain⟨rfl,rfl⟩:=h;exact⟨env,d,fun K g=>g⟩
 |o::l,R,a,H,H',env,h,d=>by
  have run:(match vO P ag B k o R H with
    |some (a,H')=>mu P ag B k c l a H'
    |none=>none)=some (a,H')->∃b,Rel k b a/\∀K:St->Prop,K ⟨b,H'⟩->ja P ag false o (gB P ag false c l K) ⟨env,H⟩:=by
   intro h
   split at h
   case h_2=>simp at h
   rename_i n H1 e;obtain⟨w,q,a2⟩:=az0 f e d;obtain⟨u,r,s⟩:=BT f h q;exact⟨u,r,fun K g=>a2 _ (s K g)⟩
  have skip:(match jY k o.dst (.p (.aE [])) R with
    |some a=>mu P ag B k c l a H
    |none=>none)=some (a,H')->∃b,Rel k b a/\∀K:St->Prop,K ⟨b,H'⟩->gB P ag false c l K ⟨put o.dst (.p (.aE [])) env,H⟩:=by
   intro h
   split at h
   case h_2=>simp at h
   rename_i n e;exact BT f h (ux e d)
  simp only[mu]at h;simp only[gB]
  split at h
  ·rename_i i;simp only[i];exact run h
  ·rename_i j v i;simp only[i];rw[Iy d]at h
   split at h
   ·rename_i t m;simp only[m];cases t<;>cases v
    ·simpa using run h
    ·simpa using skip h
    ·simpa using skip h
    ·simpa using run h
   ·rename_i m;simp only[m];exact skip h
   ·simp at h
theorem XN(b:jw P B){o:Oper}{R:RT}{H:Heap}{e:aS}{env:Env}(h:vD P ag B k o R H=some e)(l:Rel k env R)(K:aS->Prop)(a:K e):iL P ag o ⟨env,H⟩ K:=by
 unfold vD at h;unfold iL;rw[yp l]at h
 split at h
 ·rename_i f args d c;simp only[c]
  split at h
  ·rename_i hf;simp only[hf];exact b.cD _ _ _ _ h _ a
  ·rename_i hf;simp only[hf];exact b.cD _ _ _ _ h _ a
  ·rename_i hf;simp only[hf];obtain⟨g,i⟩:=b.yT _ _ _ _ h;exact⟨e,g,i,a⟩
  ·simp at h
 ·rename_i j
  split
  ·rename_i f args d c;exact(j _ _ _ c).elim
  ·exact LZ h a
theorem Bk(m:jw P B){f:Array Oper}:∀{l:List Oper}{i:Nat}{b:List Touch}{R a:RT}{H H':Heap}{env:Env},me P ag B k f l i b R H=some (a,H')->Rel k env R->
 ∃c,Rel k c a/\∀K:St->Prop,K ⟨c,H'⟩->fN P ag f l i b K ⟨env,H⟩
 |[],i,b,R,a,H,H',env,h,d=>by
  simp only[me,ab,bl,bo,bv]at h;obtain⟨g,rfl,rfl⟩:=h;exact⟨env,d,fun K n=>⟨g,n⟩⟩
 |o::l,i,b,R,a,H,H',env,h,d=>by
  have run:(match vD P ag B k o R H with
    |some e=>match jY k o.dst e.v R with
     |some a=>me P ag B k f l (i+1) (gA i H.length e b) a (oM H e)
     |none=>none
    |none=>none)=some (a,H')->∃c,Rel k c a/\∀K:St->Prop,K ⟨c,H'⟩->iL P ag o ⟨env,H⟩ (fun e=>fN P ag f l (i+1) (gA i H.length e b) K (e.app o.dst ⟨env,H⟩)):=by
   intro h
   split at h
   case h_2=>simp at h
   rename_i e y
   split at h
   case h_2=>simp at h
   rename_i s g;obtain⟨x,u,w⟩:=Bk m h (ux g d);exact⟨x,u,fun K n=>XN m y d _ (by rw[Ix];exact w K n)⟩
  have skip:(match jY k o.dst (.p (.aE [])) R with
    |some a=>me P ag B k f l (i+1) b a H
    |none=>none)=some (a,H')->∃c,Rel k c a/\∀K:St->Prop,K ⟨c,H'⟩->fN P ag f l (i+1) b K ⟨put o.dst (.p (.aE [])) env,H⟩:=by
   intro h
   split at h
   case h_2=>simp at h
   rename_i s g;exact Bk m h (ux g d)
  simp only[me]at h;simp only[fN]
  split at h
  ·rename_i q;simp only[q];exact run h
  ·rename_i j z q;simp only[q];rw[Iy d]at h
   split at h
   ·rename_i t r;simp only[r];cases t<;>cases z
    ·simpa using run h
    ·simpa using skip h
    ·simpa using skip h
    ·simpa using run h
   ·rename_i r;simp only[r];exact skip h
   ·simp at h
theorem Ju(R:RT):∀(n:Nat),∀x,aK (sY k R n) x=if x<n then jv k R x else .p .undef
 |0,x=>by simp[sY,aK]
 |n+1,x=>by
  simp only[sY,aK,Ju R n]
  by_cases h:x=n
  ·subst h;simp
  ·simp only[h,if_false]
   by_cases a:x<n
   ·simp[a,Nat.lt_succ_of_lt a]
   ·have:¬x<n+1:=by omega
    simp[a,this]
theorem Vt(k:Nat)(R:RT)(n:Nat)(h:4^k<=n):jv k R n=.p .undef:=by
 unfold jv;rw[K9 (by omega)];rfl
theorem XQ{R:RT}{env:Env}(a:Rel k env R):∀x,aK (sY k R (4^k)) x=aK env x:=by
 intro x;rw[Ju,a]
 split
 ·rfl
 ·rw[Vt k R x (by omega)]
theorem Vl{j:Option Code}{e:bn}(h:yE j=some e)(Q:bn->St->Prop)(s:St)(hq:Q e s):jl Q j s:=by
 unfold yE at h;unfold jl
 split at h<;>simp at h<;>subst h<;>exact hq
theorem VI{b:Nat}{R a:RT}{H H':Heap}{e:bn}{env:Env}(h:Ds b R H=some (e,a,H')):a=R/\∀Q:bn->St->Prop,Q e ⟨env,H'⟩->iq b env Q H:=by
 unfold Ds at h
 split at h
 case h_2=>simp at h
 rename_i L c
 have go:(match yE L.pending with
   |some e=>some (e,R,H.set b (.loop {L with st:=.exhausted}))
   |none=>none)=some (e,a,H')->L.st≠.busy->a=R/\∀Q:bn->St->Prop,Q e ⟨env,H'⟩->iq b env Q H:=by
  intro h aH
  split at h
  case h_2=>simp at h
  rename_i e' d;simp only[bo,bv]at h;obtain⟨rfl,rfl,rfl⟩:=h;exact⟨rfl,fun Q hq=>by unfold iq;simp only[c];exact⟨aH,Vl d Q _ hq⟩⟩
 split at h
 ·simp at h
 ·rename_i aH;exact go h aH
theorem TI{q:Cx}{b:Code}{Q:bn->St->Prop}{s s':St}(f:∀c:bn->St->Prop,c .normal s'->bU P ag q b c s)(d:bU P ag q (.loop b) Q s'):bU P ag q (.loop b) Q s:=by
 simp only[bU]at d⊢;obtain⟨I,⟨a,t0,hf,hI⟩,g⟩:=d;refine⟨fun n t=>I n t\/(n=a+1/\t=s),⟨a+1,s,.inl rfl,.inr ⟨rfl,rfl⟩⟩,?_⟩;rintro n t (h|⟨rfl,rfl⟩)
 ·obtain⟨e,u,k1,k2⟩:=mH b t _ (g n t h);refine k2 _ ?_;cases e with
  |normal=>
   obtain⟨m,i,g1,g2,g3⟩:=k1;exact⟨m,i,g1,g2,.inl g3⟩
  |exit id=>exact k1
  |ret=>exact k1
 ·exact f _ ⟨a,t0,Nat.lt_succ_self _,hf,.inl hI⟩
theorem TH{q:Cx}{b:Code}{Q:bn->St->Prop}{s s':St}{e:bn}(f:e≠.normal)(d:∀a:bn->St->Prop,a e s'->bU P ag q b a s)(c:Q e s'):bU P ag q (.loop b) Q s:=by
 simp only[bU];refine⟨fun n t=>n=0/\t=s,⟨0,s,.inl rfl,rfl,rfl⟩,?_⟩;rintro n t ⟨rfl,rfl⟩;refine d _ ?_;cases e with
 |normal=>exact(f rfl).elim
 |exit id=>exact c
 |ret=>exact c
theorem JQ{q:Cx}{b:Code}{f:RT->Heap->Out}(hf:∀{R a:RT}{H H':Heap}{e:bn}{env:Env},f R H=some (e,a,H')->Rel k env R->∃c,Rel k c a/\∀Q:bn->St->Prop,Q e ⟨c,H'⟩->bU P ag q b Q ⟨env,H⟩):
 ∀(n:Nat){R a:RT}{H H':Heap}{e:bn}{env:Env},vk f n R H=some (e,a,H')->Rel k env R->∃c,Rel k c a/\∀Q:bn->St->Prop,Q e ⟨c,H'⟩->bU P ag q (.loop b) Q ⟨env,H⟩
 |0,R,a,H,H',e,env,h,g=>by simp[vk]at h
 |n+1,R,a,H,H',e,env,h,g=>by
  simp only[vk]at h
  split at h
  ·rename_i r H1 o;obtain⟨i,d,a2⟩:=hf o g;obtain⟨m,j,l⟩:=JQ hf n h d;exact⟨m,j,fun Q hq=>TI a2 (l Q hq)⟩
  ·rename_i p;obtain⟨i,d,a2⟩:=hf h g;refine⟨i,d,fun Q hq=>TH ?_ a2 hq⟩;rintro rfl;exact p _ _ h
theorem kn(m:jw P B){q:Cx}:∀{c:Code}{R l:RT}{H H':Heap}{e:bn}{env:Env},gE P ag B k q c R H=some (e,l,H')->Rel k env R->
 ∃r,Rel k r l/\∀Q:bn->St->Prop,Q e ⟨r,H'⟩->bU P ag q c Q ⟨env,H⟩
 | .skip,R,l,H,H',e,env,h,d| .label _,R,l,H,H',e,env,h,d| .exit _,R,l,H,H',e,env,h,d| .ret,R,l,H,H',e,env,h,d=>by
  simp only[gE,bo,bv]at h;obtain⟨rfl,rfl,rfl⟩:=h;exact⟨env,d,fun Q hq=>hq⟩
 | .region id ops draw,R,l,H,H',e,env,h,d=>by
  simp only[gE]at h;cases draw
  ·simp only[cond_false]at h
   split at h
   case h_2=>simp at h
   rename_i o H1 n;simp only[bo,bv]at h;obtain⟨rfl,rfl,rfl⟩:=h;obtain⟨j,g,a2⟩:=BT m n d;exact⟨j,g,fun Q hq=>by simp only[bU];exact a2 _ hq⟩
  ·simp only[cond_true]at h
   split at h
   case h_2=>simp at h
   rename_i o H1 n;simp only[bo,bv]at h;obtain⟨rfl,rfl,rfl⟩:=h;obtain⟨j,g,a2⟩:=Bk m n d;exact⟨j,g,fun Q hq=>by simp only[bU,if_true];exact a2 _ hq⟩
 | .seq a b,R,l,H,H',e,env,h,d=>by
  simp only[gE]at h
  split at h
  ·rename_i o H1 n;obtain⟨j,g,a2⟩:=kn m n d;obtain⟨w,u,v⟩:=kn m h g;exact⟨w,u,fun Q hq=>by simp only[bU];exact a2 _ (v Q hq)⟩
  ·rename_i p;obtain⟨j,g,a2⟩:=kn m h d;refine⟨j,g,fun Q hq=>by
    simp only[bU];refine a2 _ ?_;cases e with
    |normal=>exact(p _ _ h).elim
    |exit id=>exact hq
    |ret=>exact hq⟩
 | .cond c a b,R,l,H,H',e,env,h,d=>by
  simp only[gE,yp d]at h
  split at h
  case h_2=>simp at h
  rename_i t s;cases t
  ·obtain⟨j,g,a2⟩:=kn m h d;exact⟨j,g,fun Q hq=>by simp only[bU,s];exact a2 Q hq⟩
  ·obtain⟨j,g,a2⟩:=kn m h d;exact⟨j,g,fun Q hq=>by simp only[bU,s,if_true];exact a2 Q hq⟩
 | .block id b,R,l,H,H',e,env,h,d=>by
  simp only[gE]at h
  split at h
  ·rename_i i o H1 n;obtain⟨j,g,a2⟩:=kn m n d;cases hi:bi i id
   ·simp only[hi,cond_false,bo,bv]at h;obtain⟨rfl,rfl,rfl⟩:=h;refine⟨j,g,fun Q hq=>by
     simp only[bU];refine a2 _ ?_;have:i≠id:=fun e=>by subst e;simp[Nat.beq_refl]at hi
     simp only[this,if_false];exact hq⟩
   ·simp only[hi,cond_true,bo,bv]at h;obtain⟨rfl,rfl,rfl⟩:=h;refine⟨j,g,fun Q hq=>by
     simp only[bU];refine a2 _ ?_;simp only[c7 hi,if_true];exact hq⟩
  ·rename_i p;obtain⟨j,g,a2⟩:=kn m h d;refine⟨j,g,fun Q hq=>by
    simp only[bU];refine a2 _ ?_;cases e with
    |normal=>exact hq
    |exit id=>exact(p _ _ _ h).elim
    |ret=>exact hq⟩
 | .scope b,R,l,H,H',e,env,h,d=>by
  simp only[gE]at h;obtain⟨j,g,a2⟩:=kn m h d;exact⟨j,g,fun Q hq=>by simp only[bU];exact a2 Q hq⟩
 | .loop b,R,l,H,H',e,env,h,d=>by
  simp only[gE]at h;exact JQ (fun h d=>kn m h d) _ h d
 | .rangeFunc f z a b,R,l,H,H',e,env,h,d=>by
  simp only[gE,ab,bl,ac]at h;obtain⟨⟨n,y⟩,h⟩:=h
  split at h
  case h_2=>simp at h
  rename_i H1 hI;obtain⟨rfl,x⟩:=VI (env:=env) h;refine⟨env,d,fun Q hq=>?_⟩;simp only[bU];rw[yp d]at hI;exact⟨cK n,_,XQ d,m.cI _ _ _ _ hI _ (x Q hq)⟩
 | .goto _,_,_,_,_,_,_,h,_=>by simp[gE]at h
 | .refuse _,_,_,_,_,_,_,h,_=>by simp[gE]at h
end
def qQ(n:Nat):Nat:=
 match a9 n 16,a9 n 64,a9 n 256,a9 n 1024 with
 |true,_,_,_=>2
 |_,true,_,_=>3
 |_,_,true,_=>4
 |_,_,_,true=>5
 |_,_,_,_=>6
noncomputable def vh(k:Nat):Nat->List AV->RT
 |_,[]=>.lf
 |i,v::r=>vR k (vh k (i+1) r) i v
theorem J1(k:Nat):∀(l:List AV)(i:Nat),i+l.length<=4^k->Rel k (ib i l) (vh k i l)
 |[],i,_=>fun x=>by simp[ib,vh,aK,KC]
 |v::r,i,h=>fun x=>by
  simp only[List.length_cons]at h;rw[vh,AD _ _ _ _ _ (by omega)];simp only[ib,aK]
  split
  ·rfl
  ·exact J1 k r (i+1) (by omega) x
noncomputable def vE(k:Nat):Env->Option RT
 |[]=>some .lf
 |(x,v)::r=>match vE k r with
  |some R=>bif a9 (x+1) (4^k)then some (vR k R x v)else none
  |none=>none
theorem Jt(k:Nat):∀{e:Env}{R:RT},vE k e=some R->Rel k e R
 |[],R,h=>by
  simp only[vE,bo]at h;subst h;intro x;simp[aK,KC]
 |(y,v)::r,R,h=>by
  simp only[vE]at h
  split at h
  case h_2=>simp at h
  rename_i c a;simp only[ab,bl,bo]at h;obtain⟨b,rfl⟩:=h;intro x;rw[AD _ _ _ _ _ (by have:=cK b;omega)];simp only[aK]
  split
  ·rfl
  ·exact Jt k a x
noncomputable def zh(P:ax)(k:Nat)(R:RT)(H:Heap):List ay->Option (List AV)
 |[]=>some []
 |r::rs=>match(match r with
  | .tmp t=>some (jv k R t)
  | .cell a T=>match jv k R a with
   | .ptr b path=>match H[b]? with
    |some (.box _ t)=>match eE t path with
     |some v=>bif sE (kindOf P T) (ad v)then some v else none
     |none=>none
    |_=>none
   |_=>none),zh P k R H rs with
  |some v,some vs=>some (v::vs)
  |_,_=>none
theorem KD{P:ax}{k:Nat}{R:RT}{H:Heap}{env:Env}(d:Rel k env R):∀{e:List ay}{vs:List AV},zh P k R H e=some vs->fq P ⟨env,H⟩ e=some vs
 |[],vs,h=>h
 |r::e,vs,h=>by
  simp only[zh]at h
  split at h
  case h_2=>simp at h
  rename_i v o c f;simp only[bo]at h;subst h;have g:oB P ⟨env,H⟩ r=some v:=by
   cases r with
   |tmp t=>simp only[oB];rw[d];exact c
   |cell a T=>
    simp only[oB];dsimp only at c;rw[<-d]at c
    split at c
    case h_2=>simp at c
    rename_i b n j
    split at c
    case h_2=>simp at c
    rename_i fz t l
    split at c
    case h_2=>simp at c
    rename_i u m;simp only[ab,bl,bo]at c;obtain⟨i,rfl⟩:=c;rw[j];simp only[l,m,(ic i).1,if_true]
  simp only[fq,g,KD d f]
section
variable(P:ax)(ag:ap->Bool)
noncomputable def yH(B:jh)(fn:Func)(args:List AV)(N:Nat)(H:Heap):Option (AV×Heap):=
 bif a9 args.length fn.ntmps&&a9 fn.ntmps (4^qQ fn.ntmps)then
  match gE P ag B (qQ fn.ntmps) (fn.ntmps,N) (fn.body.getD .skip) (vh (qQ fn.ntmps) 0 args) H with
  |some (.exit _,_,_)=>none
  |some (_,R,H')=>match zh P (qQ fn.ntmps) R H' fn.results.toList with
   |some vs=>some (oneOf vs,H')
   |none=>none
  |none=>none
 else none
structure lL where
 rh:ap->Option Func
 y0:ap->List PV->Option PV
 y5:ap->List AV->Heap->Option (AV×Heap)
 ju:ap->ap->Nat
 s8:ap->List AV->Heap->Option (List (Nat×Obj)×PV)
noncomputable def nB(pl:lL)(B:ap->jh)(f:ap)(vs:List PV):Option PV:=
 match pl.y0 f vs with
 |some v=>some v
 |none=>match pl.rh f with
  |some fn=>match yH P ag (B f) fn (vs.map .p) 0 []with
   |some (v,H)=>dV H 9 v
   |none=>none
  |none=>none
noncomputable def nA(pl:lL)(B:ap->jh)(f:ap)(args:List AV)(H:Heap):Option (AV×Heap):=
 match pl.y5 f args H with
 |some r=>some r
 |none=>match pl.rh f with
  |some fn=>yH P ag (B f) fn args H.length H
  |none=>none
noncomputable def yk(B:jh)(b:Nat)(H:Heap)(args:List AV):Option (Heap×AV):=
 match H[b]? with
 |some (.loop L)=>bif bi args.length L.params.length&&(L.params.all (fun x=>decide (x<L.n))&&codeOk fit L.n L.assign&&codeOk fit L.n L.body)then
  match vE (qQ L.n) (pV L.params args L.env)with
  |some R=>match gE P ag B (qQ L.n) (L.n,H.length) L.assign R H with
   |some (.normal,f,H1)=>match H1[b]? with
    |some (.loop c)=>match c.st with
     | .ready=>match gE P ag B (qQ L.n) (L.n,H.length) L.body f (H1.set b (.loop {c with st:=.busy}))with
      |some (e,_,a)=>match a[b]? with
       |some (.loop d)=>some (a.set b (.loop {d with st:=if(gw e).isNone then .ready else .done,pending:=gw e}),.p (.bool (gw e).isNone))
       |_=>none
      |none=>none
     |_=>none
    |_=>none
   |_=>none
  |none=>none
  else none
 |_=>none
noncomputable def Dd(pl:lL)(B:ap->jh)(it:AV)(b:Nat)(H:Heap):Option Heap:=
 match it with
 | .p (.func g fi ca)=>match nA P ag pl B g (fi.map .p++[.map b]++ca.map .p) H with
  |some (_,H')=>some H'
  |none=>none
 | .func g fi ca=>match nA P ag pl B g (fi++[.map b]++ca) H with
  |some (_,H')=>some H'
  |none=>none
 |_=>none
noncomputable def CQ(pl:lL)(B:ap->jh)(c f:ap)(args:List AV)(H:Heap):Option (AV×Heap):=
 match pl.s8 f args H with
 |some (_,v)=>some (.p v,H)
 |none=>match pl.ju c f with
 |0=>match eB args with
  |some vs=>match nB P ag pl B f vs with
   |some v=>some (.p v,H)
   |none=>none
  |none=>nA P ag pl B f args H
 |1=>nA P ag pl B f args H
 |3=>match u9 (nA P ag pl B f) args H with
  |some e=>some (e.v,oM H e)
  |none=>none
 |_=>match mv H args with
  |some (vs,H1)=>match nB P ag pl B f vs with
   |some v=>some (.p v,H1)
   |none=>none
  |none=>none
noncomputable def CP(pl:lL)(B:ap->jh)(c f:ap)(args:List AV)(H:Heap):Option aS:=
 match pl.s8 f args H with
 |some (aj,v)=>some {v:=.p v,aj}
 |none=>match pl.ju c f with
 |3=>u9 (nA P ag pl B f) args H
 |_=>match eB args with
 |some vs=>match nB P ag pl B f vs with
  |some v=>some {v:=.p v}
  |none=>none
 |none=>match nm H args with
  |some (vs,bs)=>match kq H bs with
   |some (aj,aI)=>match nB P ag pl B f vs with
    |some v=>some {v:=.p v,aj,aI}
    |none=>none
   |none=>none
  |none=>u9 (nA P ag pl B f) args H
def sf:jh:=⟨fun _ _ _=>none,fun _ _ _=>none,fun _ _ _=>none,fun _ _ _=>none,fun _ _ _=>none⟩
noncomputable def jk(pl:lL):Nat->ap->jh
 |0,_=>sf
 |n+1,c=>⟨CQ P ag pl (jk pl n) c,CP P ag pl (jk pl n) c,yk P ag (jk pl n c),Dd P ag pl (jk pl n),BO (yk P ag (jk pl n c))⟩
end
structure l9(P:ax)(pl:lL):Prop where
 mix:P.follows .mixedOrders=true
 rh:∀f fn,pl.rh f=some fn->an P f fn
 y0:∀f vs v,pl.y0 f vs=some v->az P f vs v
 y5:∀f args H v H',pl.y5 f args H=some (v,H')->cX P f H args H' v
 s8:∀f args H aj v,pl.s8 f args H=some (aj,v)->CA P f args aj v/\∀p∈aj,H[p.1]?=some p.2
section
variable{P:ax}{ag:ap->Bool}{B1:jh}{B:ap->jh}{pl:lL}
theorem Jl(f:jw P B1){fn:Func}{args:List AV}{N:Nat}{H H':Heap}{v:AV}(h:yH P ag B1 fn args N H=some (v,H')):
 args.length<=fn.ntmps/\∃e a vs,(match e with
  |bn.exit _=>False
  |_=>True)/\fq P ⟨a,H'⟩ fn.results.toList=some vs/\oneOf vs=v/\∀Q:bn->St->Prop,Q e ⟨a,H'⟩->bU P ag (fn.ntmps,N) (fn.body.getD .skip) Q ⟨ib 0 args,H⟩:=by
 unfold yH at h;simp only[ab,bl,ac]at h;obtain⟨⟨b,c⟩,h⟩:=h;have b:=cK b;have c:=cK c;refine⟨b,?_⟩
 split at h
 ·simp at h
 ·rename_i e R k g hc
  split at h
  case h_2=>simp at h
  rename_i vs j;simp only[bo,bv]at h;obtain⟨rfl,rfl⟩:=h;obtain⟨a,d,a2⟩:=kn f hc (J1 _ args 0 (by omega));refine⟨e,a,vs,?_,KD d j,rfl,a2⟩;cases e with
  |exit i=>exact g i rfl
  |_=>trivial
 ·simp at h
theorem uE(a:l9 P pl)(j:∀c,jw P (B c)){f:ap}{vs:List PV}{v:PV}(h:nB P ag pl B f vs=some v):az P f vs v:=by
 unfold nB at h
 split at h
 ·rename_i v' hk;simp only[bo]at h;subst h;exact a.y0 _ _ _ hk
 ·split at h
  case h_2=>simp at h
  rename_i fn hf
  split at h
  case h_2=>simp at h
  rename_i v' H' k;obtain⟨b,e,m,l,d,g,rfl,i⟩:=Jl (j _) k;exact yZ ag (a.rh _ _ hf) a.mix (by simpa using b) (i _ ⟨d,l,g,h⟩)
theorem pI(a:l9 P pl)(j:∀c,jw P (B c)){f:ap}{args:List AV}{H H':Heap}{v:AV}(h:nA P ag pl B f args H=some (v,H')):cX P f H args H' v:=by
 unfold nA at h
 split at h
 ·rename_i r hk;simp only[bo]at h;subst h;exact a.y5 _ _ _ _ _ hk
 ·split at h
  case h_2=>simp at h
  rename_i fn hf;obtain⟨b,e,l,k,d,g,rfl,i⟩:=Jl (j _) h;exact Nv ag (a.rh _ _ hf) a.mix b (i _ ⟨d,k,g,rfl,.inl rfl⟩)
theorem Iu{args:List AV}{vs:List PV}(h:eB args=some vs):args=vs.map .p:=kV h
theorem Wa(b:l9 P pl)(d:∀c,jw P (B c)){c f:ap}{args:List AV}{H H':Heap}{v:AV}(h:CQ P ag pl B c f args H=some (v,H'))(K:AV->Heap->Prop)(a:K v H'):gz P false f args H K:=by
 unfold CQ at h
 split at h
 ·rename_i aj v' hx;simp only[bo,bv]at h;obtain⟨rfl,rfl⟩:=h;obtain⟨i,j⟩:=b.s8 _ _ _ _ _ hx;exact .inr ⟨rfl,.inr (.inr (.inr ⟨aj,v',i,j,a⟩))⟩
 split at h
 ·split at h
  ·rename_i vs m
   split at h
   case h_2=>simp at h
   rename_i v' g;simp only[bo,bv]at h;obtain⟨rfl,rfl⟩:=h;exact .inl ⟨vs,v',Iu m,uE b d g,a⟩
  ·exact .inr ⟨rfl,.inr (.inl ⟨H',v,pI b d h,a⟩)⟩
 ·exact .inr ⟨rfl,.inr (.inl ⟨H',v,pI b d h,a⟩)⟩
 ·split at h
  case h_2=>simp at h
  rename_i e k;simp only[bo,bv]at h;obtain⟨rfl,rfl⟩:=h;obtain⟨i,j⟩:=AY (fun args H v H' g=>pI b d g) k;exact .inr ⟨rfl,.inr (.inr (.inl ⟨e,i,j,by rw[<-Jo];exact a⟩))⟩
 ·split at h
  case h_2=>simp at h
  rename_i vs H1 l
  split at h
  case h_2=>simp at h
  rename_i v' g;simp only[bo,bv]at h;obtain⟨rfl,rfl⟩:=h;exact .inr ⟨rfl,.inl ⟨vs,H1,v',l,uE b d g,a⟩⟩
theorem Wb(i:l9 P pl)(j:∀c,jw P (B c)){c f:ap}{args:List AV}{H:Heap}{e:aS}(h:CP P ag pl B c f args H=some e)(K:aS->Prop)(g:K e):gF P f args H K:=by
 unfold CP at h
 split at h
 ·rename_i aj v' hx;simp only[bo]at h;subst h;obtain⟨b,d⟩:=i.s8 _ _ _ _ _ hx;exact .inr (.inr (.inr ⟨aj,v',b,d,g⟩))
 split at h
 ·obtain⟨b,d⟩:=AY (fun args H v H' a=>pI i j a) h;exact .inr (.inr (.inl ⟨e,b,d,g⟩))
 split at h
 ·rename_i vs m
  split at h
  case h_2=>simp at h
  rename_i v' a;simp only[bo]at h;subst h;exact .inl ⟨vs,v',Iu m,uE i j a,g⟩
 ·split at h
  case h_2=>
   obtain⟨b,d⟩:=AY (fun args H v H' a=>pI i j a) h;exact .inr (.inr (.inl ⟨e,b,d,g⟩))
  rename_i vs bs l
  split at h
  case h_2=>simp at h
  rename_i aj aI k
  split at h
  case h_2=>simp at h
  rename_i v' a;simp only[bo]at h;subst h;exact .inr (.inl ⟨vs,bs,aj,aI,v',l,k,uE i j a,g⟩)
theorem Ic(o:l9 P pl)(a:jw P B1){b:Nat}{H H':Heap}{args:List AV}{v:AV}(h:yk P ag B1 b H args=some (H',v)):gV P b H args H' v:=by
 unfold yk at h
 split at h
 case h_2=>simp at h
 rename_i L i;simp only[ab,bl,ac]at h;obtain⟨⟨f,g⟩,h⟩:=h
 split at h
 case h_2=>simp at h
 rename_i R l
 split at h
 case h_2=>simp at h
 rename_i s H1 m
 split at h
 case h_2=>simp at h
 rename_i q j
 split at h
 case h_2=>simp at h
 rename_i aH
 split at h
 case h_2=>simp at h
 rename_i e t p n
 split at h
 case h_2=>simp at h
 rename_i r k;simp only[bo,bv]at h;obtain⟨rfl,rfl⟩:=h;obtain⟨w,c,a2⟩:=kn a m (Jt _ l);obtain⟨x,u,d⟩:=kn a n c;refine Nw ag o.mix i (c7 f) (by simpa only[ac]using g) ?_;unfold xI;refine a2 _ ?_;simp only[wS,j];refine⟨aH,d _ ?_⟩;simp only[rQ,k];exact⟨trivial,.inl rfl⟩
theorem Vm(g:l9 P pl)(e:∀c,jw P (B c)){it:AV}{b:Nat}{H H':Heap}(h:Dd P ag pl B it b H=some H')(K:Heap->Prop)(f:K H'):ji P it b H K:=by
 unfold Dd at h
 split at h
 ·split at h
  case h_2=>simp at h
  rename_i v a d;simp only[bo]at h;subst h;exact⟨a,v,pI g e d,f⟩
 ·split at h
  case h_2=>simp at h
  rename_i v a d;simp only[bo]at h;subst h;exact⟨a,v,pI g e d,f⟩
 ·simp at h
theorem rN(a:l9 P pl):∀n c,jw P (jk P ag pl n c)
 |0,_=>⟨fun _ _ _ _ _ h=>by simp[jk,sf]at h,fun _ _ _ _ h=>by simp[jk,sf]at h,fun _ _ _ _ _ h=>by simp[jk,sf]at h,fun _ _ _ _ h=>by simp[jk,sf]at h,fun _ _ _ _ h=>by simp[jk,sf]at h⟩
 |n+1,c=>⟨fun _ _ _ _ _ h=>Wa a (rN a n) h,fun _ _ _ _ h=>Wb a (rN a n) h,fun _ _ _ _ _ h=>Ic a (rN a n c) h,fun _ _ _ _ h=>Vm a (rN a n) h,fun _ _ _ _ h=>SS (fun _ _ _ _ _ b=>Ic a (rN a n c) b) h⟩
theorem reckon{f:ap}{vs:List PV}{v:PV}(n:Nat)(a:l9 P pl)(h:nB P ag pl (jk P ag pl n) f vs=some v):az P f vs v:=uE a (rN a n) h
end
section
variable{P:ax}{ag:ap->Bool}
theorem az.cL{f:ap}{args d:List PV}{v v':PV}(h:az P f args v)(g:bw d args)(i:Wk v v'):az P f d v':=by
 rcases h with h|h
 ·refine .inl ⟨h.1,fun w aa a j k c=>(h.2 w aa a j k (bm.cL _ _ _ g c)).mono ?_⟩;rintro e w' ⟨b,aD,k1,k2,k3,k4,k5,k6,l,k7⟩;exact⟨b,aD,k1,k2,k3,k4,k5,k6,l,aA.cL _ _ _ i k7⟩
 ·refine .inr fun w aa a c=>?_;obtain⟨b,k1,k2⟩:=h w aa a (bm.cL _ _ _ g c);exact⟨b,k1,aA.cL _ _ _ i k2⟩
def yL(P:ax)(a:List ay)(v:PV)(e:bn)(s:St):Prop:=
 (match e with
  | .exit _=>False
  |_=>True)/\∃vs,fq P s a=some vs/\∃v',dV s.heap 9 (oneOf vs)=some v'/\Wk v' v
theorem T7{a:List ay}{v:PV}{s:St}:yL P a v .ret s=∃vs,fq P s a=some vs/\∃v',dV s.heap 9 (oneOf vs)=some v'/\Wk v' v:=by simp[yL]
theorem RL{a:List ay}{v:PV}{s:St}:yL P a v .normal s=∃vs,fq P s a=some vs/\∃v',dV s.heap 9 (oneOf vs)=some v'/\Wk v' v:=by simp[yL]
theorem qH.cL{f:ap}{args a:List PV}{v v':PV}(h:qH P f args v)(j:bw a args)(k:Wk v v'):qH P f a v':=by
 refine⟨h.1,fun w aa b d g i=>(h.2 w aa b d g (bm.cL _ _ _ j i)).mono ?_⟩;rintro e w' ⟨c,aD,k1,k2,k3,k4,k5,k6,l,k7⟩;exact⟨c,aD,k1,k2,k3,k4,k5,k6,l,aA.cL _ _ _ k k7⟩
theorem Hv{dst:Option Tmp}{h:Nat}{pos:String}{af:Array Edge}{g:Option (Nat×Bool)}{env:Env}{heap:Heap}{L:St->Prop}{f:ap}{fi ca:Array ao}(hf:ag f=false):
 cV P ag ⟨dst,.makeFunc (.func f) fi ca,h,pos,af,g⟩ L ⟨env,heap⟩=aZ (qp f (fi.toList.map (ev env)) (ca.toList.map (ev env))) (dU dst ⟨env,heap⟩ L):=by
 simp only[cV,jV,fk,hf,qp,am,if_false]
 split
 ·rename_i c d;simp only[c,d,aZ,true_and]
 ·rename_i c
  split
  ·rename_i a b d e;exact(c a b d e).elim
  ·simp only[aZ,true_and]
theorem G5{dst:Option Tmp}{h:Nat}{pos:String}{af:Array Edge}{g:Option (Nat×Bool)}{env:Env}{heap:Heap}{K:aS->Prop}{f:ap}{fi ca:Array ao}(hf:ag f=false):
 cW P ag ⟨dst,.makeFunc (.func f) fi ca,h,pos,af,g⟩ ⟨env,heap⟩ K=aZ (qp f (fi.toList.map (ev env)) (ca.toList.map (ev env))) K:=by
 simp only[cW,jV,fk,hf,qp,am,if_false]
 split
 ·rename_i c d;simp only[c,d,aZ,true_and]
 ·rename_i c
  split
  ·rename_i a b d e;exact(c a b d e).elim
  ·simp only[aZ,true_and]
section guards
variable{ops:Array Oper}{o:Oper}{r:List Oper}{K:St->Prop}{want t:Bool}{s:St}{i:Nat}{acc:List Touch}
theorem GU:ym P ag ops o r K want s (.p (.bool t))=if t=want then cV P ag o (fH P ag ops r K) s else fH P ag ops r K ⟨put o.dst (.p (.aE [])) s.env,s.heap⟩:=(rfl)
theorem Hz:ym P ag ops o r K want s (.p (.aE []))=fH P ag ops r K ⟨put o.dst (.p (.aE [])) s.env,s.heap⟩:=(rfl)
theorem Gg:xX P ag ops o r i acc K want s (.p (.bool t))=if t=want then cW P ag o s (vq P ag ops r i acc K o.dst s)else fO P ag ops r (i+1) acc K ⟨put o.dst (.p (.aE [])) s.env,s.heap⟩:=(rfl)
theorem GS:xX P ag ops o r i acc K want s (.p (.aE []))=fO P ag ops r (i+1) acc K ⟨put o.dst (.p (.aE [])) s.env,s.heap⟩:=(rfl)
theorem RI{l:List Oper}{j:Nat}{e:Env}:guardOf l.toArray j e=match(l[j]?).bind (·.dst)with
 |some d=>aK e d
 |none=>.p (.aE []):=by simp only[guardOf,List.getElem?_toArray];cases l[j]?.bind (·.dst)<;>rfl
end guards
section calls
variable{f:ap}{H H1:Heap}{K:AV->Heap->Prop}{L:aS->Prop}{v a b c d e a' b' c' d' e':PV}{dr:Bool}
theorem Xf(h:az P f [] v)(hk:K (.p v) H):gz P dr f [] H K:=.inl ⟨[],v,rfl,h,hk⟩
theorem Xg(h:az P f [a'] v)(hk:K (.p v) H)(b:Wk a a':=by first|exact Wk.refl _|simp[Wk,bw]):gz P dr f [.p a] H K:=.inl ⟨[a],v,rfl,h.cL (by simp only[bw];exact⟨b,trivial⟩) (Wk.refl _),hk⟩
theorem Xh(h:az P f [a',b'] v)(hk:K (.p v) H)(c:Wk a a':=by first|exact Wk.refl _|simp[Wk,bw])(d:Wk b b':=by first|exact Wk.refl _|simp[Wk,bw]):gz P dr f [.p a,.p b] H K:=
 .inl ⟨[a,b],v,rfl,h.cL (by simp only[bw];exact⟨c,d,trivial⟩) (Wk.refl _),hk⟩
theorem Xi(h:az P f [a',b',c'] v)(hk:K (.p v) H)(d:Wk a a':=by first|exact Wk.refl _|simp[Wk,bw])(e:Wk b b':=by first|exact Wk.refl _|simp[Wk,bw])(g:Wk c c':=by first|exact Wk.refl _|simp[Wk,bw]):gz P dr f [.p a,.p b,.p c] H K:=
 .inl ⟨[a,b,c],v,rfl,h.cL (by simp only[bw];exact⟨d,e,g,trivial⟩) (Wk.refl _),hk⟩
theorem Xj(h:az P f [a',b',c',d'] v)(hk:K (.p v) H)(e:Wk a a':=by first|exact Wk.refl _|simp[Wk,bw])(g:Wk b b':=by first|exact Wk.refl _|simp[Wk,bw])(i:Wk c c':=by first|exact Wk.refl _|simp[Wk,bw])(j:Wk d d':=by first|exact Wk.refl _|simp[Wk,bw]):gz P dr f [.p a,.p b,.p c,.p d] H K:=
 .inl ⟨[a,b,c,d],v,rfl,h.cL (by simp only[bw];exact⟨e,g,i,j,trivial⟩) (Wk.refl _),hk⟩
theorem Xk(h:az P f [a',b',c',d',e'] v)(hk:K (.p v) H)(g:Wk a a':=by first|exact Wk.refl _|simp[Wk,bw])(i:Wk b b':=by first|exact Wk.refl _|simp[Wk,bw])(j:Wk c c':=by first|exact Wk.refl _|simp[Wk,bw])(k:Wk d d':=by first|exact Wk.refl _|simp[Wk,bw])(l:Wk e e':=by first|exact Wk.refl _|simp[Wk,bw]):gz P dr f [.p a,.p b,.p c,.p d,.p e] H K:=
 .inl ⟨[a,b,c,d,e],v,rfl,h.cL (by simp only[bw];exact⟨g,i,j,k,l,trivial⟩) (Wk.refl _),hk⟩
theorem WX(h:az P f [] v)(hk:L {v:=.p v}):gF P f [] H L:=.inl ⟨[],v,rfl,h,hk⟩
theorem WY(h:az P f [a'] v)(hk:L {v:=.p v})(b:Wk a a':=by first|exact Wk.refl _|simp[Wk,bw]):gF P f [.p a] H L:=.inl ⟨[a],v,rfl,h.cL (by simp only[bw];exact⟨b,trivial⟩) (Wk.refl _),hk⟩
theorem WZ(h:az P f [a',b'] v)(hk:L {v:=.p v})(c:Wk a a':=by first|exact Wk.refl _|simp[Wk,bw])(d:Wk b b':=by first|exact Wk.refl _|simp[Wk,bw]):gF P f [.p a,.p b] H L:=
 .inl ⟨[a,b],v,rfl,h.cL (by simp only[bw];exact⟨c,d,trivial⟩) (Wk.refl _),hk⟩
theorem W0(h:az P f [a',b',c'] v)(hk:L {v:=.p v})(d:Wk a a':=by first|exact Wk.refl _|simp[Wk,bw])(e:Wk b b':=by first|exact Wk.refl _|simp[Wk,bw])(g:Wk c c':=by first|exact Wk.refl _|simp[Wk,bw]):gF P f [.p a,.p b,.p c] H L:=
 .inl ⟨[a,b,c],v,rfl,h.cL (by simp only[bw];exact⟨d,e,g,trivial⟩) (Wk.refl _),hk⟩
theorem W3(h:az P f [a',b',c',d'] v)(hk:L {v:=.p v})(e:Wk a a':=by first|exact Wk.refl _|simp[Wk,bw])(g:Wk b b':=by first|exact Wk.refl _|simp[Wk,bw])(i:Wk c c':=by first|exact Wk.refl _|simp[Wk,bw])(j:Wk d d':=by first|exact Wk.refl _|simp[Wk,bw]):gF P f [.p a,.p b,.p c,.p d] H L:=
 .inl ⟨[a,b,c,d],v,rfl,h.cL (by simp only[bw];exact⟨e,g,i,j,trivial⟩) (Wk.refl _),hk⟩
theorem W4(h:az P f [a',b',c',d',e'] v)(hk:L {v:=.p v})(g:Wk a a':=by first|exact Wk.refl _|simp[Wk,bw])(i:Wk b b':=by first|exact Wk.refl _|simp[Wk,bw])(j:Wk c c':=by first|exact Wk.refl _|simp[Wk,bw])(k:Wk d d':=by first|exact Wk.refl _|simp[Wk,bw])(l:Wk e e':=by first|exact Wk.refl _|simp[Wk,bw]):gF P f [.p a,.p b,.p c,.p d,.p e] H L:=
 .inl ⟨[a,b,c,d,e],v,rfl,h.cL (by simp only[bw];exact⟨g,i,j,k,l,trivial⟩) (Wk.refl _),hk⟩
theorem Xl{args:List AV}{vs a:List PV}(h:az P f a v)(c:mv H args=some (vs,H1))(hk:K (.p v) H1)(b:bw vs a:=by first|exact bw.refl _|simp[Wk,bw]):gz P false f args H K:=
 .inr ⟨rfl,.inl ⟨vs,H1,v,c,h.cL b (Wk.refl _),hk⟩⟩
theorem W6{args:List AV}{vs a:List PV}{bs:List Nat}{aj aI:List (Nat×Obj)}(h:az P f a v)(c:nm H args=some (vs,bs))(hf:kq H bs=some (aj,aI))(hk:L {v:=.p v,aj,aI})(b:bw vs a:=by first|exact bw.refl _|simp[Wk,bw]):gF P f args H L:=
 .inr (.inl ⟨vs,bs,aj,aI,v,c,hf,h.cL b (Wk.refl _),hk⟩)
end calls
def KV(T:Heap)(a v:AV):Prop:=a=v\/Gh T a v
theorem Py{T:Heap}{v:AV}:KV T v v=True:=by simp[KV]
theorem Pw{T:Heap}{b ar ai off len:Nat}:KV T (.p .aR) (.sl b ar ai off len)=(ar=0/\off=0/\len=0/\∃k z,T[b]?=some (.arr k 0 z [])/\k.gr=true):=by simp[KV,Gh,fD]
theorem Pz{T:Heap}{u u':av}{fs:List PV}{a:List AV}:KV T (.p (.st u fs)) (.st u' a)=(u=u'/\j0 T fs a):=by simp[KV,Gh,fD]
def kZ(T:Heap)(e:Env):Env->Prop
 |[]=>True
 |(x,v)::r=>KV T (aK e x) v/\kZ T e r
def KO(T:Heap)(o:Obj):Obj->Prop
 | .hole=>True
 | .box false v'=>match o with
  | .box false v=>KV T v v'
  |_=>False
 | .arr k ar z es=>(o=.hole/\ar=0/\es=[]/\k.gr=true)\/o=.arr k ar z es
 |o'=>o=o'
def KN:Obj->Prop
 | .hole=>True
 | .arr k ar _ es=>ar=0/\es=[]/\k.gr=true
 |_=>False
def ir(T:Heap):Heap->Heap->Prop
 |_,[]=>True
 |[],o'::t=>KN o'/\ir T [] t
 |o::h,o'::t=>KO T o o'/\ir T h t
theorem kZ.get{T:Heap}{e:Env}:∀{t:Env},kZ T e t->∀x,aK t x=aK e x\/aK t x=.p .undef\/Gh T (aK e x) (aK t x)
 |[],_,x=>.inr (.inl rfl)
 |(y,v)::t,h,x=>by
  simp only[kZ]at h;simp only[aK]
  split
  ·rename_i hx;subst hx;rcases h.1 with h|h
   ·exact .inl h.symm
   ·exact .inr (.inr h)
  ·exact kZ.get h.2 x
theorem ir.get{T:Heap}:∀{h t:Heap},ir T h t->∀(b:Nat)(o:Obj),t[b]?=some o->
 o=.hole\/h[b]?=some o\/((h[b]?=none\/h[b]?=some .hole)/\∃k z,o=.arr k 0 z []/\k.gr=true)\/(∃v v',h[b]?=some (.box false v)/\o=.box false v'/\Gh T v v')
 |_,[],_,b,o,c=>by simp at c
 |[],o'::t,hk,b,o,c=>by
  simp only[ir]at hk;cases b with
  |zero=>
   simp at c;subst c;cases o'<;>have a:=hk.1<;>simp only[KN]at a
   ·exact .inl rfl
   ·obtain⟨rfl,rfl,d⟩:=a;exact .inr (.inr (.inl ⟨.inl rfl,_,_,rfl,d⟩))
  |succ b=>simpa using ir.get hk.2 b o (by simpa using c)
 |e::h,o'::t,hk,b,o,c=>by
  simp only[ir]at hk;cases b with
  |zero=>
   simp at c;subst c;have a:=hk.1;cases o' with
   |hole=>exact .inl rfl
   |dead=>simp only[KO]at a;subst a;exact .inr (.inl rfl)
   |map fz es=>simp only[KO]at a;subst a;exact .inr (.inl rfl)
   |cZ ks vs=>simp only[KO]at a;subst a;exact .inr (.inl rfl)
   |dd s p=>simp only[KO]at a;subst a;exact .inr (.inl rfl)
   |loop L=>simp only[KO]at a;subst a;exact .inr (.inl rfl)
   |arr k ar z es=>
    simp only[KO]at a;rcases a with⟨rfl,rfl,rfl,d⟩|rfl
    ·exact .inr (.inr (.inl ⟨.inr rfl,_,_,rfl,d⟩))
    ·exact .inr (.inl rfl)
   |box fz v'=>
    cases fz with
    |true=>simp only[KO]at a;subst a;exact .inr (.inl rfl)
    |false=>
     simp only[KO]at a
     split at a
     ·rcases a with rfl|a
      ·exact .inr (.inl rfl)
      ·exact .inr (.inr (.inr ⟨_,_,rfl,rfl,a⟩))
     ·exact a.elim
  |succ b=>simpa using ir.get hk.2 b o (by simpa using c)
theorem dj.og{N:Nat}{s t:St}(e:t.heap.take N=s.heap.take N)(c:kZ t.heap s.env t.env)(d:ir t.heap s.heap t.heap)(f:gW t.heap t.env)(g:eA t.heap t.heap):dj N s t:=by
 refine .inr ⟨⟨c.get,d.get,f.get,g.get⟩,fun b a=>?_⟩;have:=congrArg (fun l:Heap=>l[b]?) e;simpa[List.getElem?_take,a]using this
theorem Ld{T:Heap}{o:Obj}:KO T o o=True:=by
 cases o with
 |box fz v=>cases fz<;>simp[KO,KV]
 |_=>simp[KO]
theorem Pu{T:Heap}{o:Obj}:KO T o .hole=True:=by simp[KO]
theorem Pt{T:Heap}{v v':AV}:KO T (.box false v) (.box false v')=KV T v v':=(rfl)
theorem Pv{T:Heap}{k:AK}{ar z:Nat}{a:List AV}:KO T .hole (.arr k ar z a)=(ar=0/\a=[]/\k.gr=true):=by simp[KO]
theorem Ps:KN .hole=True:=(rfl)
theorem Pr{k:AK}{ar z:Nat}{a:List AV}:KN (.arr k ar z a)=(ar=0/\a=[]/\k.gr=true):=(rfl)
theorem Px{T:Heap}{x y:PV}:KV T (.p x) (.p y)=(x=y):=by
 have:Gh T (.p x) (.p y)↔x=y:=by cases x<;>simp[Gh,fD,eq_comm]
 simp[KV,this]
def tC{α:Type}(N:Nat)(mk:α->St)(ok:α->Prop)(m:α->Nat)(n:Nat)(s:St):Prop:=∃a',m a'<n/\ok a'/\dj N s (mk a')
def qq{α:Type}(N:Nat)(mk:α->St)(ok:α->Prop)(m:α->Nat)(n:Nat)(Q:bn->St->Prop)(e:bn)(s:St):Prop:=
 match e with
 | .normal=>tC N mk ok m n s
 |e=>Q e s
section
variable{α:Type}{N:Nat}{mk:α->St}{ok:α->Prop}{m:α->Nat}{n:Nat}{Q:bn->St->Prop}{s s':St}{q:Cx}
theorem Rl:qq N mk ok m n Q .normal s=tC N mk ok m n s:=(rfl)
theorem SL{id:Nat}:qq N mk ok m n Q (.exit id) s=Q (.exit id) s:=(rfl)
theorem TK:qq N mk ok m n Q .ret s=Q .ret s:=(rfl)
theorem wl{b:Code}(mk:α->St)(ok:α->Prop)(m:α->Nat)(c:α)(l:ok c)(gD:∀a,ok a->cT P ag q b (qq q.2 mk ok m (m a) Q) (mk a))
 (k:(mk c).heap.take q.2=s.heap.take q.2:=by simp)(i:kZ (mk c).heap s.env (mk c).env:=by simp)(j:ir (mk c).heap s.heap (mk c).heap:=by simp)(o:gW (mk c).heap (mk c).env:=by simp)(p:eA (mk c).heap (mk c).heap:=by simp):
 cT P ag q (.loop b) Q s:=by
 simp only[cT];refine⟨fun n t=>∃a,ok a/\t=mk a/\n=m a,⟨m c,mk c,dj.og k i j o p,c,l,rfl,rfl⟩,?_⟩;rintro n t ⟨a,h,rfl,rfl⟩;have:qq q.2 mk ok m (m a) Q=sD q.2 (m a) (fun n t=>∃a,ok a/\t=mk a/\n=m a) Q:=by
  funext e s
  cases e with
  |normal=>
   simp only[qq,sD,tC,eq_iff_iff];constructor
   ·rintro⟨a',d,f,g⟩;exact⟨m a',mk a',d,g,a',f,rfl,rfl⟩
   ·rintro⟨_,_,d,g,a',f,rfl,rfl⟩;exact⟨a',d,f,g⟩
  |exit id=>rfl
  |ret=>rfl
 rw[<-this];exact gD a h
theorem rnd(a':α)(b:ok a')(a:m a'<n:=by omega)(e:(mk a').heap.take N=s.heap.take N:=by simp)(c:kZ (mk a').heap s.env (mk a').env:=by simp)(d:ir (mk a').heap s.heap (mk a').heap:=by simp)(f:gW (mk a').heap (mk a').env:=by simp)(g:eA (mk a').heap (mk a').heap:=by simp):
 tC N mk ok m n s:=⟨a',a,b,dj.og e c d f g⟩
end
theorem aN(n:Int)(h:-9223372036854775808<=n)(a:n<=9223372036854775807):IntKind.i64.wrap n=n:=IntWalk.i64_in n ⟨h,a⟩
theorem zA(a b:Int):(a<b/\¬b<=a)\/(¬a<b/\b<=a):=by omega
theorem cH{i:Nat}(h:i<4611686018427387904):IntKind.i64.wrap ((i:Int)+1)=(i:Int)+1:=aN _ (by omega) (by omega)
attribute [simp] Wk bw aF Obj.has GU Hz Gg GS RI Hv G5 qp Rl SL TK kZ ir Py Px Pw Pz Ld Pu Pt Pv Ps Pr j0 fD AK.gr gW eA aB Obj.refs
attribute [simp] T7 RL Wk.refl bw.refl
end
end Go.al
namespace Go.al
variable[Gl]
mutual
def dM:PV->Prop
 | .str s=>∀c∈s,c<256
 | .b6 t=>dM t
 | .bH _ es| .seq es| .st _ es| .aE es=>lh es
 |_=>True
def lh:List PV->Prop
 |[]=>True
 |v::vs=>dM v/\lh vs
end
section
variable{P:ax}{w:a0}{aa:Nat->Prop}
theorem Jj(bs:ByteArray):∀c∈bs.data.toList.map (·.toNat),c<256:=by
 intro c hc;simp only[a1]at hc;obtain⟨b,_,rfl⟩:=hc;exact UInt8.toNat_lt b
mutual
theorem aU.dM:∀(v:PV)(cs:List aT),aU P w aa v cs->dM v
 | .str s,cs,h=>by simp only[aU]at h;obtain⟨bs,_,rfl⟩:=h;simp only[al.dM];exact Jj bs
 | .b6 t,cs,h=>by simp only[aU]at h;obtain⟨_,_,ts,a,_⟩:=h;simp only[al.dM];exact aU.dM t ts a
 | .bH f b,cs,h=>by simp only[aU]at h;obtain⟨_,_,_,_,d,a,_⟩:=h;simp only[al.dM];exact aY.dM _ b d a
 | .seq b,cs,h=>by
  simp only[aU]at h;simp only[al.dM];rcases h with⟨rfl,_⟩|⟨_,_,_,_,d,a,_⟩
  ·trivial
  ·exact aY.dM _ b d a
 | .st u b,cs,h=>by simp only[aU]at h;obtain⟨l,d,_,a,_⟩:=h;simp only[al.dM];exact aY.dM _ b d a
 | .aE b,cs,h=>by simp[aU]at h
 | .undef,_,_| .bool _,_,_| .int _ _,_,_| .dw,_,_| .aR,_,_| .fh,_,_| .gP,_,_| .fG,_,_| .eL _,_,_| .func _ _ _,_,_=>by simp[al.dM]
theorem aY.dM:∀(l:List Nat)(b:List PV)(d:List (List aT)),aY P w aa l b d->lh b
 |_,[],_,_=>by simp[al.lh]
 |[],_::_,_,h=>by simp[aY]at h
 |n::l,v::vs,d,h=>by
  simp only[aY]at h;obtain⟨c,cs,_,a,_,g⟩:=h;simp only[al.lh];exact⟨aU.dM v c a,aY.dM l vs cs g⟩
theorem aA.dM:∀(v:PV)(x:aT),aA P w aa v x->dM v
 | .str s,cs,h=>by simp only[aA]at h;obtain⟨bs,_,rfl⟩:=h;simp only[al.dM];exact Jj bs
 | .b6 t,cs,h=>by simp only[aA]at h;obtain⟨_,_,ts,a,_⟩:=h;simp only[al.dM];exact aU.dM t ts a
 | .bH f b,cs,h=>by simp only[aA]at h;obtain⟨_,_,_,_,d,a,_⟩:=h;simp only[al.dM];exact aY.dM _ b d a
 | .seq b,cs,h=>by
  simp only[aA]at h;simp only[al.dM];rcases h with⟨rfl,_⟩|⟨_,_,_,_,d,a,_⟩
  ·trivial
  ·exact aY.dM _ b d a
 | .st u b,cs,h=>by simp only[aA]at h;obtain⟨l,d,_,a,_⟩:=h;simp only[al.dM];exact aY.dM _ b d a
 | .aE b,cs,h=>by simp only[aA]at h;obtain⟨e,a,_⟩:=h;simp only[al.dM];exact bm.dM b e a
 | .undef,_,_| .bool _,_,_| .int _ _,_,_| .dw,_,_| .aR,_,_| .fh,_,_| .gP,_,_| .fG,_,_| .eL _,_,_| .func _ _ _,_,_=>by simp[al.dM]
theorem bm.dM:∀(b:List PV)(e:List aT),bm P w aa b e->lh b
 |[],_,_=>by simp[al.lh]
 |v::vs,e,h=>by
  simp only[bm]at h;obtain⟨y,i,_,a,g⟩:=h;simp only[al.lh];exact⟨aA.dM v y a,bm.dM vs i g⟩
end
theorem Qc{f:ap}{args:List PV}{v:PV}(h:lh args->az P f args v):az P f args v:=by
 by_cases hs:lh args
 ·exact h hs
 ·exact .inr fun w aa b a=>(hs (bm.dM _ _ a)).elim
end
end Go.al
namespace Go.al
variable[Gl]
@[reducible] def Tg{α:Type}(_:α)(β:Type):Type:=β
@[reducible] def Tg1{α:Type 1}(_:α)(β:Type):Type:=β
section
variable(P:ax)(ag:ap->Bool)
def eJ(q:Cx)(c:Code)(Q:bn->St->Prop)(s:Tg (q,c,Q) St):Prop:=cT P ag q c Q s
def oX(a:Array Oper)(l:List Oper)(K:St->Prop)(s:Tg (a,l,K) St):Prop:=fH P ag a l K s
def qy(b:Array Oper)(l:List Oper)(i:Nat)(a:List Touch)(K:St->Prop)(s:Tg (b,l,i,a,K) St):Prop:=fO P ag b l i a K s
def zi(K:St->Prop)(Q:bn->St->Prop)(e:Tg (K,Q) bn)(s:Tg (K,Q) St):Prop:=tj K Q e s
def pZ(id:Nat)(Q:bn->St->Prop)(e:Tg (id,Q) bn)(s:Tg (id,Q) St):Prop:=ng id Q e s
def M9(a b:St->Prop)(s:St)(v:Tg (a,b,s) AV):Prop:=sK v a b s
def Cr(b:Array Oper)(r:List Oper)(i:Nat)(a:List Touch)(K:St->Prop)(dst:Option Tmp)(s:St)(e:Tg (b,r,i,a,K,dst,s) aS):Prop:=vq P ag b r i a K dst s e
def eg(dst:Option Tmp)(s:St)(K:St->Prop)(e:Tg (dst,s,K) aS):Prop:=dU dst s K e
def OY(dst:Option Tmp)(s:St)(K:St->Prop)(v:Tg (dst,s,K) AV)(H:Tg (dst,s,K) Heap):Prop:=ze dst s K v H
def Cv(a:Array Oper)(o:Oper)(r:List Oper)(K:St->Prop)(b:Bool)(s:St)(g:Tg (a,o,r,K,b,s) AV):Prop:=ym P ag a o r K b s g
def BN(b:Array Oper)(o:Oper)(r:List Oper)(i:Nat)(a:List Touch)(K:St->Prop)(c:Bool)(s:St)(g:Tg (b,o,r,i,a,K,c,s) AV):Prop:=xX P ag b o r i a K c s g
def dO(o:Oper)(K:St->Prop)(s:St)(_:Tg (o,K,s) Unit):Prop:=cV P ag o K s
def dL(o:Oper)(s:St)(K:aS->Prop)(_:Tg (o,K,s) Unit):Prop:=cW P ag o s K
def ch(K:aS->Prop)(r:Tg K ek):Prop:=aZ r K
def yQ(H:Heap)(K:AV->Heap->Prop)(f:Tg (H,K) AV)(args:Tg (H,K) (List AV)):Prop:=qo P f args H K
def CB(H:Heap)(K:aS->Prop)(f:Tg (H,K) AV)(args:Tg (H,K) (List AV)):Prop:=pX P f args H K
def jM(d:Bool)(f:ap)(K:AV->Heap->Prop)(args:Tg K (List AV))(H:Tg K Heap):Prop:=gz P d f args H K
def nh(f:ap)(K:aS->Prop)(args:Tg K (List AV))(H:Tg K Heap):Prop:=gF P f args H K
def qE(R:AV->PV->Prop):List AV->List PV->Prop
 |[],vs=>vs=[]
 |x::xs,vs=>match vs with
  |v::vs=>R x v/\qE R xs vs
  |[]=>False
def fU(H:Heap):Nat->AV->PV->Prop
 |0=>fun x v=>match x with
  | .p a=>Wk a v
  |_=>False
 |n+1=>fun x v=>match x with
  | .p a=>Wk a v
  | .sl b ar z off len=>match v with
   | .seq fs=>match H[b]? with
    |some (.arr _ e h es)=>ar=e/\z=h/\off+len<=es.length/\qE (fU H n) ((es.drop off).take len) fs
    |_=>False
   |_=>False
  | .st u xs=>match v with
   | .st u' vs=>u=u'/\qE (fU H n) xs vs
   |_=>False
  | .aE xs=>match v with
   | .aE vs=>qE (fU H n) xs vs
   |_=>False
  | .ptr b path=>match v with
   | .b6 t=>match H[b]? with
    |some (.box _ y)=>match eE y path with
     |some s=>fU H n s t
     |none=>False
    |_=>False
   |_=>False
  | .map b=>match v with
   | .eL es=>match H[b]? with
    |some (.map _ c)=>c=es
    |_=>False
   |_=>False
  | .func f xs g=>match v with
   | .func d vs us=>f=d/\qE (fU H n) xs vs/\qE (fU H n) g us
   |_=>False
  |_=>False
def lM(H:Heap)(n:Nat):List AV->List PV->Prop:=qE (fU H n)
def qJ(a:List ay)(v:PV)(e:Tg (a,v) bn)(s:Tg (a,v) St):Prop:=
 (match e with
  | .exit _=>False
  |_=>True)/\∃vs,fq P s a=some vs/\fU (St.heap s) 9 (oneOf vs) v
def yg(a:Array Oper)(l:Tg a (List Touch)):Bool:=jE a l
def aBh(a:Array Oper)(i j:Tg a Nat):Bool:=reach a a.size i j
end
section
variable{P:ax}{ag:ap->Bool}{q:Cx}
theorem aEK{Q:bn->St->Prop}{s:St}:eJ P ag q .skip Q s=Q .normal s:=Ly
theorem UD{l:Nat}{Q:bn->St->Prop}{s:St}:eJ P ag q (.label l) Q s=Q .normal s:=Kn
theorem aEC{id:Nat}{Q:bn->St->Prop}{s:St}:eJ P ag q (.exit id) Q s=Q (.exit id) s:=Lz
theorem aED{Q:bn->St->Prop}{s:St}:eJ P ag q .ret Q s=Q .ret s:=Pk
theorem UB{b:Code}{Q:bn->St->Prop}{s:St}:eJ P ag q (.scope b) Q s=eJ P ag q b Q s:=Kl
theorem aEu{id:Nat}{l:List Oper}{Q:bn->St->Prop}{s:St}:eJ P ag q (.region id l.toArray true) Q s=qy P ag l.toArray l 0 [] (Q .normal) s:=LA
theorem UC{id:Nat}{l:List Oper}{Q:bn->St->Prop}{s:St}:eJ P ag q (.region id l.toArray false) Q s=oX P ag l.toArray l (Q .normal) s:=Km
theorem bh{a b:Code}{Q:bn->St->Prop}{s:St}:eJ P ag q (.seq a b) Q s=eJ P ag q a (zi (eJ P ag q b Q) Q) s:=Pm
theorem Je{id:Nat}{b:Code}{Q:bn->St->Prop}{s:St}:eJ P ag q (.block id b) Q s=eJ P ag q b (pZ id Q) s:=Ko
theorem aEc{c:ao}{a b:Code}{Q:bn->St->Prop}{s:St}:eJ P ag q (.cond c a b) Q s=M9 (eJ P ag q a Q) (eJ P ag q b Q) s (ev s.env c):=LB
theorem Ro{K:St->Prop}{Q:bn->St->Prop}{s:St}:zi K Q .normal s=K s:=GK
theorem S9{id:Nat}{K:St->Prop}{Q:bn->St->Prop}{s:St}:zi K Q (.exit id) s=Q (.exit id) s:=Ia
theorem Tf{K:St->Prop}{Q:bn->St->Prop}{s:St}:zi K Q .ret s=Q .ret s:=I7
theorem RY{t:Bool}{a b:St->Prop}{s:St}:M9 a b s (.p (.bool t))=if t then a s else b s:=G7
theorem T4{b:Array Oper}{r:List Oper}{i:Nat}{a:List Touch}{K:St->Prop}{dst:Option Tmp}{env:Env}{heap:Heap}{v:AV}{aj aI:List (Nat×Obj)}{aP:List Obj}:Cr P ag b r i a K dst ⟨env,heap⟩ ⟨v,aj,aI,aP⟩=qy P ag b r (i+1) (gA i heap.length ⟨v,aj,aI,aP⟩ a) K ⟨put dst v env,br heap aI++aP⟩:=JA
theorem VR{dst:Option Tmp}{env:Env}{heap:Heap}{K:St->Prop}{v:AV}{aj aI:List (Nat×Obj)}{aP:List Obj}:eg dst ⟨env,heap⟩ K ⟨v,aj,aI,aP⟩=K ⟨put dst v env,br heap aI++aP⟩:=La
theorem Vy{dst:Option Tmp}{env:Env}{heap H:Heap}{K:St->Prop}{v:AV}:OY dst ⟨env,heap⟩ K v H=K ⟨put dst v env,H⟩:=KI
theorem aEO{b:Array Oper}{i:Nat}{a:List Touch}{K:St->Prop}{s:St}:qy P ag b [] i a K s=(yg b a=true/\K s):=Lx
theorem UA{b:Array Oper}{i c:Nat}{pos:String}{a:List Touch}{K:St->Prop}{s:St}{dst:Option Tmp}{op:Op}{af:Array Edge}{r:List Oper}:qy P ag b ({dst,op,type:=c,pos,after:=af,guard:=none}::r) i a K s=dL P ag {dst,op,type:=c,pos,after:=af,guard:=none} s (Cr P ag b r i a K dst s) ():=Kk
theorem TF{a:Array Oper}{i d j:Nat}{b:Bool}{pos:String}{c:List Touch}{K:St->Prop}{s:St}{dst:Option Tmp}{op:Op}{af:Array Edge}{r:List Oper}:qy P ag a ({dst,op,type:=d,pos,after:=af,guard:=some (j,b)}::r) i c K s=BN P ag a {dst,op,type:=d,pos,after:=af,guard:=some (j,b)} r i c K b s (guardOf a j s.env):=Jd
theorem aEY{a:Array Oper}{K:St->Prop}{s:St}:oX P ag a [] K s=K s:=Lv
theorem Uz{a:Array Oper}{b:Nat}{pos:String}{K:St->Prop}{s:St}{dst:Option Tmp}{op:Op}{af:Array Edge}{r:List Oper}:oX P ag a ({dst,op,type:=b,pos,after:=af,guard:=none}::r) K s=dO P ag {dst,op,type:=b,pos,after:=af,guard:=none} (oX P ag a r K) s ():=Ki
theorem TE{a:Array Oper}{c j:Nat}{b:Bool}{pos:String}{K:St->Prop}{s:St}{dst:Option Tmp}{op:Op}{af:Array Edge}{r:List Oper}:oX P ag a ({dst,op,type:=c,pos,after:=af,guard:=some (j,b)}::r) K s=Cv P ag a {dst,op,type:=c,pos,after:=af,guard:=some (j,b)} r K b s (guardOf a j s.env):=Jc
section ops
variable{dst:Option Tmp}{ty:Nat}{pos:String}{af:Array Edge}{g:Option (Nat×Bool)}{env:Env}{heap:Heap}{K:aS->Prop}{L:St->Prop}
theorem Xv{x:ao}:dL P ag ⟨dst,.move x,ty,pos,af,g⟩ ⟨env,heap⟩ K ()=K {v:=ev env x}:=Mt
theorem Ue{x:ao}:dL P ag ⟨dst,.assign x,ty,pos,af,g⟩ ⟨env,heap⟩ K ()=K {v:=ev env x}:=Jy
theorem Xx{c a b:ao}:dL P ag ⟨dst,.pick c a b,ty,pos,af,g⟩ ⟨env,heap⟩ K ()=ch K (qx (ev env c) (ev env a) (ev env b)):=Mr
theorem V5{T:av}:dL P ag ⟨dst,.alloc T,ty,pos,af,g⟩ ⟨env,heap⟩ K ()=ch K (qf P T heap.length):=KY
theorem Xn{T:av}{x:ao}:dL P ag ⟨dst,.box T x,ty,pos,af,g⟩ ⟨env,heap⟩ K ()=ch K (sV P T heap.length (ev env x)):=Ng
theorem V4{T:av}{a:Array (Nat×ao)}:dL P ag ⟨dst,.build T a,ty,pos,af,g⟩ ⟨env,heap⟩ K ()=ch K (pY P T (a.toList.map fun(i,x)=>(i,ev env x))):=KX
theorem QV{T:av}{n:Nat}{a:Array (Nat×ao)}:dL P ag ⟨dst,.buildSlice T n a,ty,pos,af,g⟩ ⟨env,heap⟩ K ()=ch K (ph P T n (a.toList.map fun(i,x)=>(i,ev env x)) heap.length):=Gj
theorem Xs{T:av}{a:ao}:dL P ag ⟨dst,.load T a,ty,pos,af,g⟩ ⟨env,heap⟩ K ()=ch K (oJ P T heap (ev env a)):=L8
theorem VW{T:av}{a x:ao}:dL P ag ⟨dst,.store T a x,ty,pos,af,g⟩ ⟨env,heap⟩ K ()=ch K (ov P T heap (ev env a) (ev env x)):=KS
theorem Xm{op:BinOp}{T a:av}{x y:ao}:dL P ag ⟨dst,.binOp op T x y a,ty,pos,af,g⟩ ⟨env,heap⟩ K ()=ch K (iJ P op T (lG y) heap (ev env x) (ev env y)):=Nf
theorem Xz{op:UnOp}{T:av}{x:ao}:dL P ag ⟨dst,.unOp op T x,ty,pos,af,g⟩ ⟨env,heap⟩ K ()=ch K (ri op (ev env x)):=Nk
theorem Xp{S D:av}{x:ao}:dL P ag ⟨dst,.convert S D x,ty,pos,af,g⟩ ⟨env,heap⟩ K ()=ch K (qm P S D heap (ev env x)):=Ma
theorem Ss{t:ao}{i:Nat}:dL P ag ⟨dst,.extract t i,ty,pos,af,g⟩ ⟨env,heap⟩ K ()=ch K (pF (ev env t) i):=IE
theorem RS{T:av}{a:ao}{f:Nat}:dL P ag ⟨dst,.fieldAddr T a f,ty,pos,af,g⟩ ⟨env,heap⟩ K ()=ch K (nQ P T (ev env a) f):=GM
theorem RR{T:av}{x i:ao}:dL P ag ⟨dst,.indexAddr T x i,ty,pos,af,g⟩ ⟨env,heap⟩ K ()=ch K (nP P T heap (ev env x) (ev env i)):=GL
theorem VZ{T:av}{x i:ao}:dL P ag ⟨dst,.index T x i,ty,pos,af,g⟩ ⟨env,heap⟩ K ()=ch K (qh P T (ev env x) (ev env i)):=FO
theorem Xr{x:ao}{a:Array av}:dL P ag ⟨dst,.call {callee:=.builtin .len,args:=#[x],argTypes:=a},ty,pos,af,g⟩ ⟨env,heap⟩ K ()=ch K (qR P (a.getD 0 0) a.size heap (ev env x)):=Nh
theorem Xo{f:ao}{args:List ao}{a:Array av}:dL P ag ⟨dst,.call {callee:=.value f,args:=args.toArray,argTypes:=a},ty,pos,af,g⟩ ⟨env,heap⟩ K ()=CB P heap K (ev env f) (args.map (ev env)):=Mb
theorem aAE{x:ao}:dO P ag ⟨dst,.move x,ty,pos,af,g⟩ L ⟨env,heap⟩ ()=eg dst ⟨env,heap⟩ L {v:=ev env x}:=LS
theorem TN{x:ao}:dO P ag ⟨dst,.assign x,ty,pos,af,g⟩ L ⟨env,heap⟩ ()=eg dst ⟨env,heap⟩ L {v:=ev env x}:=IP
theorem aAH{c a b:ao}:dO P ag ⟨dst,.pick c a b,ty,pos,af,g⟩ L ⟨env,heap⟩ ()=ch (eg dst ⟨env,heap⟩ L) (qx (ev env c) (ev env a) (ev env b)):=LQ
theorem VH{T:av}:dO P ag ⟨dst,.alloc T,ty,pos,af,g⟩ L ⟨env,heap⟩ ()=ch (eg dst ⟨env,heap⟩ L) (qf P T heap.length):=Kx
theorem aAn{T:av}{x:ao}:dO P ag ⟨dst,.box T x,ty,pos,af,g⟩ L ⟨env,heap⟩ ()=ch (eg dst ⟨env,heap⟩ L) (sV P T heap.length (ev env x)):=OQ
theorem VG{T:av}{a:Array (Nat×ao)}:dO P ag ⟨dst,.build T a,ty,pos,af,g⟩ L ⟨env,heap⟩ ()=ch (eg dst ⟨env,heap⟩ L) (pY P T (a.toList.map fun(i,x)=>(i,ev env x))):=Kw
theorem Q3{T:av}{n:Nat}{a:Array (Nat×ao)}:dO P ag ⟨dst,.buildSlice T n a,ty,pos,af,g⟩ L ⟨env,heap⟩ ()=ch (eg dst ⟨env,heap⟩ L) (ph P T n (a.toList.map fun(i,x)=>(i,ev env x)) heap.length):=Gc
theorem aAw{T:av}{a:ao}:dO P ag ⟨dst,.load T a,ty,pos,af,g⟩ L ⟨env,heap⟩ ()=ch (eg dst ⟨env,heap⟩ L) (oJ P T heap (ev env a)):=LU
theorem VB{T:av}{a x:ao}:dO P ag ⟨dst,.store T a x,ty,pos,af,g⟩ L ⟨env,heap⟩ ()=ch (eg dst ⟨env,heap⟩ L) (ov P T heap (ev env a) (ev env x)):=KK
theorem aAm{op:BinOp}{T a:av}{x y:ao}:dO P ag ⟨dst,.binOp op T x y a,ty,pos,af,g⟩ L ⟨env,heap⟩ ()=ch (eg dst ⟨env,heap⟩ L) (iJ P op T (lG y) heap (ev env x) (ev env y)):=OP
theorem aAJ{op:UnOp}{T:av}{x:ao}:dO P ag ⟨dst,.unOp op T x,ty,pos,af,g⟩ L ⟨env,heap⟩ ()=ch (eg dst ⟨env,heap⟩ L) (ri op (ev env x)):=OU
theorem aAr{S D:av}{x:ao}:dO P ag ⟨dst,.convert S D x,ty,pos,af,g⟩ L ⟨env,heap⟩ ()=ch (eg dst ⟨env,heap⟩ L) (qm P S D heap (ev env x)):=LW
theorem SD{t:ao}{i:Nat}:dO P ag ⟨dst,.extract t i,ty,pos,af,g⟩ L ⟨env,heap⟩ ()=ch (eg dst ⟨env,heap⟩ L) (pF (ev env t) i):=HM
theorem Re{T:av}{a:ao}{f:Nat}:dO P ag ⟨dst,.fieldAddr T a f,ty,pos,af,g⟩ L ⟨env,heap⟩ ()=ch (eg dst ⟨env,heap⟩ L) (nQ P T (ev env a) f):=GC
theorem Rt{T:av}{x i:ao}:dO P ag ⟨dst,.indexAddr T x i,ty,pos,af,g⟩ L ⟨env,heap⟩ ()=ch (eg dst ⟨env,heap⟩ L) (nP P T heap (ev env x) (ev env i)):=GB
theorem VE{T:av}{x i:ao}:dO P ag ⟨dst,.index T x i,ty,pos,af,g⟩ L ⟨env,heap⟩ ()=ch (eg dst ⟨env,heap⟩ L) (qh P T (ev env x) (ev env i)):=Kv
theorem aAu{x:ao}{a:Array av}:dO P ag ⟨dst,.call {callee:=.builtin .len,args:=#[x],argTypes:=a},ty,pos,af,g⟩ L ⟨env,heap⟩ ()=ch (eg dst ⟨env,heap⟩ L) (qR P (a.getD 0 0) a.size heap (ev env x)):=OR
theorem aAo{f:ao}{args:List ao}{a:Array av}:dO P ag ⟨dst,.call {callee:=.value f,args:=args.toArray,argTypes:=a},ty,pos,af,g⟩ L ⟨env,heap⟩ ()=yQ P heap (OY dst ⟨env,heap⟩ L) (ev env f) (args.map (ev env)):=LX
theorem VX{T:av}{x:ao}{lo hi:Option ao}:dL P ag ⟨dst,.slice T x lo hi none,ty,pos,af,g⟩ ⟨env,heap⟩ K ()=ch K (oA P T heap (ev env x) (lo.map (ev env)) (hi.map (ev env))):=KU
theorem VC{T:av}{x:ao}{lo hi:Option ao}:dO P ag ⟨dst,.slice T x lo hi none,ty,pos,af,g⟩ L ⟨env,heap⟩ ()=ch (eg dst ⟨env,heap⟩ L) (oA P T heap (ev env x) (lo.map (ev env)) (hi.map (ev env))):=Kt
theorem Uc{T:av}{x i:ao}{ok:Bool}:dL P ag ⟨dst,.lookup T x i ok,ty,pos,af,g⟩ ⟨env,heap⟩ K ()=ch K (qt P T heap (ev env x) (ev env i) ok):=Jw
theorem TL{T:av}{x i:ao}{ok:Bool}:dO P ag ⟨dst,.lookup T x i ok,ty,pos,af,g⟩ L ⟨env,heap⟩ ()=ch (eg dst ⟨env,heap⟩ L) (qt P T heap (ev env x) (ev env i) ok):=IL
theorem RP{T:av}{m k x:ao}:dL P ag ⟨dst,.mapUpdate T m k x,ty,pos,af,g⟩ ⟨env,heap⟩ K ()=ch K (lF P T heap (ev env m) (ev env k) (ev env x)):=G0
theorem Rr{T:av}{m k x:ao}:dO P ag ⟨dst,.mapUpdate T m k x,ty,pos,af,g⟩ L ⟨env,heap⟩ ()=ch (eg dst ⟨env,heap⟩ L) (lF P T heap (ev env m) (ev env k) (ev env x)):=Gz
theorem Ud{T:av}{m k x:ao}:dL P ag ⟨dst,.insert T m k x,ty,pos,af,g⟩ ⟨env,heap⟩ K ()=ch K (lF P T heap (ev env m) (ev env k) (ev env x)):=Jx
theorem TM{T:av}{m k x:ao}:dO P ag ⟨dst,.insert T m k x,ty,pos,af,g⟩ L ⟨env,heap⟩ ()=ch (eg dst ⟨env,heap⟩ L) (lF P T heap (ev env m) (ev env k) (ev env x)):=IM
theorem VY{T:av}{x:ao}:dL P ag ⟨dst,.range T x,ty,pos,af,g⟩ ⟨env,heap⟩ K ()=ch K (pU P T heap.length (ev env x)):=KW
theorem VD{T:av}{x:ao}:dO P ag ⟨dst,.range T x,ty,pos,af,g⟩ L ⟨env,heap⟩ ()=ch (eg dst ⟨env,heap⟩ L) (pU P T heap.length (ev env x)):=Ku
theorem Xw{it:ao}:dL P ag ⟨dst,.next it true,ty,pos,af,g⟩ ⟨env,heap⟩ K ()=ch K (qA heap (ev env it)):=Ms
theorem aAF{it:ao}:dO P ag ⟨dst,.next it true,ty,pos,af,g⟩ L ⟨env,heap⟩ ()=ch (eg dst ⟨env,heap⟩ L) (qA heap (ev env it)):=LR
theorem RQ{T:av}{l c:ao}:dL P ag ⟨dst,.makeSlice T l c,ty,pos,af,g⟩ ⟨env,heap⟩ K ()=ch K (qC P T heap.length (ev env l) (ev env c)):=G1
theorem Rs{T:av}{l c:ao}:dO P ag ⟨dst,.makeSlice T l c,ty,pos,af,g⟩ L ⟨env,heap⟩ ()=ch (eg dst ⟨env,heap⟩ L) (qC P T heap.length (ev env l) (ev env c)):=GA
theorem RW{x:ao}:dL P ag ⟨dst,.nilCheck x,ty,pos,af,g⟩ ⟨env,heap⟩ K ()=ch K (pO (ev env x)):=G4
theorem Sh{x:ao}:dO P ag ⟨dst,.nilCheck x,ty,pos,af,g⟩ L ⟨env,heap⟩ ()=ch (eg dst ⟨env,heap⟩ L) (pO (ev env x)):=Hu
theorem Xu{args:Array ao}{a:Array av}:dL P ag ⟨dst,.call {callee:=.builtin .min,args,argTypes:=a},ty,pos,af,g⟩ ⟨env,heap⟩ K ()=ch K (jU false (args.toList.map (ev env))):=Nj
theorem aAD{args:Array ao}{a:Array av}:dO P ag ⟨dst,.call {callee:=.builtin .min,args,argTypes:=a},ty,pos,af,g⟩ L ⟨env,heap⟩ ()=ch (eg dst ⟨env,heap⟩ L) (jU false (args.toList.map (ev env))):=OT
theorem Xt{args:Array ao}{a:Array av}:dL P ag ⟨dst,.call {callee:=.builtin .max,args,argTypes:=a},ty,pos,af,g⟩ ⟨env,heap⟩ K ()=ch K (jU true (args.toList.map (ev env))):=Ni
theorem aAC{args:Array ao}{a:Array av}:dO P ag ⟨dst,.call {callee:=.builtin .max,args,argTypes:=a},ty,pos,af,g⟩ L ⟨env,heap⟩ ()=ch (eg dst ⟨env,heap⟩ L) (jU true (args.toList.map (ev env))):=OS
theorem Sr{T:av}:dL P ag ⟨dst,.makeMap T none,ty,pos,af,g⟩ ⟨env,heap⟩ K ()=K {v:=.map heap.length,aP:=[.map false []]}:=ID
theorem SC{T:av}:dO P ag ⟨dst,.makeMap T none,ty,pos,af,g⟩ L ⟨env,heap⟩ ()=eg dst ⟨env,heap⟩ L {v:=.map heap.length,aP:=[.map false []]}:=Ip
theorem Uf{s x:ao}{T X:av}:dL P ag ⟨dst,.call {callee:=.builtin .append,args:=#[s,x],argTypes:=#[T,X]},ty,pos,af,g⟩ ⟨env,heap⟩ K ()=ch K (ou P T X heap (ev env s) (ev env x)):=Jz
theorem TO{s x:ao}{T X:av}:dO P ag ⟨dst,.call {callee:=.builtin .append,args:=#[s,x],argTypes:=#[T,X]},ty,pos,af,g⟩ L ⟨env,heap⟩ ()=ch (eg dst ⟨env,heap⟩ L) (ou P T X heap (ev env s) (ev env x)):=IQ
theorem Xq{s x:ao}{T X:av}:dL P ag ⟨dst,.call {callee:=.builtin .copy,args:=#[s,x],argTypes:=#[T,X]},ty,pos,af,g⟩ ⟨env,heap⟩ K ()=ch K (copyV P T heap (ev env s) (ev env x)):=L9
theorem aAs{s x:ao}{T X:av}:dO P ag ⟨dst,.call {callee:=.builtin .copy,args:=#[s,x],argTypes:=#[T,X]},ty,pos,af,g⟩ L ⟨env,heap⟩ ()=ch (eg dst ⟨env,heap⟩ L) (copyV P T heap (ev env s) (ev env x)):=LV
theorem Xa{f:ap}{fi ca:List AV}{args:List AV}{M:AV->Heap->Prop}:yQ P heap M (.func f fi ca) args=jM P false f M (fi++args++ca) heap:=Nb
theorem Xd{f:ap}{fi ca:List AV}{args:List AV}:CB P heap K (.func f fi ca) args=nh P f K (fi++args++ca) heap:=Mc
theorem Xc{f:ap}{fi ca:List PV}{args:List AV}{M:AV->Heap->Prop}:yQ P heap M (.p (.func f fi ca)) args=jM P false f M (fi.map .p++args++ca.map .p) heap:=Nc
theorem Xe{f:ap}{fi ca:List PV}{args:List AV}:CB P heap K (.p (.func f fi ca)) args=nh P f K (fi.map .p++args++ca.map .p) heap:=Nd
end ops
section guards
variable{ops:Array Oper}{o:Oper}{r:List Oper}{K:St->Prop}{want t:Bool}{s:St}{i:Nat}{acc:List Touch}
theorem RH:Cv P ag ops o r K want s (.p (.bool t))=if t=want then dO P ag o (oX P ag ops r K) s ()else oX P ag ops r K ⟨put o.dst (.p (.aE [])) s.env,s.heap⟩:=GU
theorem Sd:Cv P ag ops o r K want s (.p (.aE []))=oX P ag ops r K ⟨put o.dst (.p (.aE [])) s.env,s.heap⟩:=Hz
theorem Q8:BN P ag ops o r i acc K want s (.p (.bool t))=if t=want then dL P ag o s (Cr P ag ops r i acc K o.dst s) ()else qy P ag ops r (i+1) acc K ⟨put o.dst (.p (.aE [])) s.env,s.heap⟩:=Gg
theorem RG:BN P ag ops o r i acc K want s (.p (.aE []))=qy P ag ops r (i+1) acc K ⟨put o.dst (.p (.aE [])) s.env,s.heap⟩:=GS
end guards
theorem QZ{id:Nat}{Q:bn->St->Prop}{s:St}:pZ id Q .normal s=Q .normal s:=(rfl)
theorem So{id i:Nat}{Q:bn->St->Prop}{s:St}:pZ id Q (.exit i) s=if i=id then Q .normal s else Q (.exit i) s:=(rfl)
theorem Tx{id:Nat}{Q:bn->St->Prop}{s:St}:pZ id Q .ret s=Q .ret s:=(rfl)
section makeFunc
variable{dst:Option Tmp}{ty:Nat}{pos:String}{af:Array Edge}{g:Option (Nat×Bool)}{env:Env}{heap:Heap}{L:St->Prop}{K:aS->Prop}{f:ap}{fi ca:Array ao}
theorem Si(hf:ag f=false):dO P ag ⟨dst,.makeFunc (.func f) fi ca,ty,pos,af,g⟩ L ⟨env,heap⟩ ()=ch (eg dst ⟨env,heap⟩ L) (qp f (fi.toList.map (ev env)) (ca.toList.map (ev env))):=Hv hf
theorem RX(hf:ag f=false):dL P ag ⟨dst,.makeFunc (.func f) fi ca,ty,pos,af,g⟩ ⟨env,heap⟩ K ()=ch K (qp f (fi.toList.map (ev env)) (ca.toList.map (ev env))):=G5 hf
end makeFunc
theorem Ti{p:Prop}{e:aS}{K:aS->Prop}:ch K (some (p,e))=(p/\K e):=(rfl)
theorem Tj{K:aS->Prop}:ch K none=False:=(rfl)
theorem SZ{a:Array Oper}:yg a []=true:=(rfl)
theorem RE{a:Array Oper}{t:Touch}{r:List Touch}:yg a (t::r)=(r.all (fun u=>!iG u t||aBh a u.i t.i)&&yg a r):=(rfl)
theorem T8{a:List ay}{v:PV}{s:St}:qJ P a v .ret s=∃vs,fq P s a=some vs/\fU s.heap 9 (oneOf vs) v:=by simp[qJ]
theorem RM{a:List ay}{v:PV}{s:St}:qJ P a v .normal s=∃vs,fq P s a=some vs/\fU s.heap 9 (oneOf vs) v:=by simp[qJ]
section pur
variable{H:Heap}
theorem Dt{n:Nat}{a v:PV}:fU H n (.p a) v=Wk a v:=by cases n<;>rfl
theorem Lu{n b ar z off len:Nat}{fs:List PV}:fU H (n+1) (.sl b ar z off len) (.seq fs)=match H[b]? with
  |some (.arr _ a c es)=>ar=a/\z=c/\off+len<=es.length/\lM H n ((es.drop off).take len) fs
  |_=>False:=(rfl)
theorem aAU{n:Nat}{u u':av}{a:List AV}{vs:List PV}:fU H (n+1) (.st u a) (.st u' vs)=(u=u'/\lM H n a vs):=(rfl)
theorem aAV{n:Nat}{a:List AV}{vs:List PV}:fU H (n+1) (.aE a) (.aE vs)=lM H n a vs:=(rfl)
theorem KJ{n b:Nat}{a:List (PV×PV)}:fU H (n+1) (.map b) (.eL a)=match H[b]? with
  |some (.map _ c)=>c=a
  |_=>False:=(rfl)
theorem aAT{n:Nat}{f a:ap}{c d:List AV}{vs b:List PV}:fU H (n+1) (.func f c d) (.func a vs b)=(f=a/\lM H n c vs/\lM H n d b):=(rfl)
theorem xm{n:Nat}{vs:List PV}:lM H n [] vs=(vs=[]):=(rfl)
theorem AE{n:Nat}{x:AV}{a:List AV}{v:PV}{vs:List PV}:lM H n (x::a) (v::vs)=(fU H n x v/\lM H n a vs):=(rfl)
theorem II{α:Type}{n:Nat}{g:α->AV}{f:α->PV}:∀{l:List α},lM H n (l.map g) (l.map f)=∀x∈l,fU H n (g x) (f x)
 |[]=>by simp[xm]
 |a::l=>by simp[AE,II (l:=l)]
theorem sc(n:Nat)(c:∀(x:AV)(v:PV),fU H n x v->∃v',dV H n x=some v'/\Wk v' v):∀(b:List AV)(vs:List PV),lM H n b vs->∃a,jo (dV H n) b=some a/\bw a vs
 |[],vs,h=>by rw[xm]at h;subst h;exact⟨[],rfl,by simp[bw]⟩
 |x::b,vs,h=>by
  cases vs with
  |nil=>exact h.elim
  |cons v vs=>
   rw[AE]at h;obtain⟨p,d,e⟩:=c x v h.1;obtain⟨a,f,g⟩:=sc n c b vs h.2;exact⟨p::a,by simp[jo,d,f],by simp only[bw];exact⟨e,g⟩⟩
theorem pW:∀(n:Nat)(x:AV)(v:PV),fU H n x v->∃v',dV H n x=some v'/\Wk v' v
 |0,x,v,h=>by
  cases x with
  |p a=>exact⟨_,rfl,h⟩
  |_=>exact h.elim
 |n+1,x,v,h=>by
  cases x with
  |p a=>rw[Dt]at h;exact⟨_,rfl,h⟩
  |sl b ar z off len=>
   cases v with
   |seq fs=>
    rw[Lu]at h
    split at h
    case h_2=>exact h.elim
    rename_i k C E j e;obtain⟨rfl,rfl,m,g⟩:=h;obtain⟨i,c,d⟩:=sc n (pW n) _ _ g;simp only[dV,e,m,and_self,if_true]
    split
    ·rename_i r;rw[r.2]at g;simp only[List.drop_nil,List.take_nil,xm]at g;exact⟨_,rfl,by rw[g];simp[Wk]⟩
    ·rw[c];exact⟨_,rfl,by simp only[Wk];exact d⟩
   |_=>exact h.elim
  |st u xs=>
   cases v with
   |st u' vs=>
    obtain⟨rfl,h⟩:=h;obtain⟨i,c,d⟩:=sc n (pW n) _ _ h;simp only[dV,c];exact⟨_,rfl,by simp only[Wk];exact⟨trivial,d⟩⟩
   |_=>exact h.elim
  |aE xs=>
   cases v with
   |aE vs=>
    obtain⟨i,c,d⟩:=sc n (pW n) _ _ h;simp only[dV,c];exact⟨_,rfl,by simp only[Wk];exact d⟩
   |_=>exact h.elim
  |ptr b path=>
   cases v with
   |b6 t=>
    change (match H[b]? with
     |some (.box _ y)=>match eE y path with
      |some s=>fU H n s t
      |none=>False
     |_=>False)at h
    split at h
    case h_2=>exact h.elim
    rename_i e
    split at h
    case h_2=>exact h.elim
    rename_i s hs;obtain⟨p,c,d⟩:=pW n _ _ h;simp only[dV,e,hs,c];exact⟨_,rfl,by simp only[Wk];exact d⟩
   |_=>exact h.elim
  |bQ _ _ _ _ _=>exact h.elim
  |map b=>
   cases v with
   |eL j=>
    rw[KJ]at h
    split at h
    case h_2=>exact h.elim
    rename_i fz w e;subst h;simp only[dV,e];exact⟨_,rfl,Wk.refl _⟩
   |_=>exact h.elim
  |func f xs D=>
   cases v with
   |func A vs us=>
    obtain⟨rfl,h,l⟩:=h;obtain⟨i,c,d⟩:=sc n (pW n) _ _ h;obtain⟨B,o,q⟩:=sc n (pW n) _ _ l;simp only[dV,c,o];exact⟨_,rfl,by simp only[Wk];exact⟨trivial,d,q⟩⟩
   |_=>exact h.elim
end pur
theorem UW{f:ap}{fn:Func}(ag:ap->Bool)(h:an P f fn)(n:P.follows .mixedOrders=true){args:List PV}{v:PV}(o:args.length<=fn.ntmps)
 (d:eJ P ag (fn.ntmps,0) (fn.body.getD .skip) (qJ P fn.results.toList v) ⟨ib 0 (args.map .p),[]⟩):qH P f args v:=by
 have hs:=h.stat;simp only[ac,bne_iff_ne]at hs;have k:fn.body=some (fn.body.getD .skip):=by
  have a:=hs.1.1;clear d hs;cases l:fn.body with
  |none=>rw[l]at a;simp at a
  |some c=>rfl
 obtain⟨e,s,⟨a,vs,g,b⟩,j⟩:=mH _ _ _ (kL (Q':=qJ P fn.results.toList v) _ (fun _ _ h=>h) d);obtain⟨v',b,i⟩:=pW _ _ _ b;have m:qH P f args v':=Jp (nL ag) (wU (nL ag) n) h.enters h.func k hs.2 o (j (Ends P fn.results.toList v') ⟨by cases e<;>exact a,vs,g,b⟩);exact m.cL (bw.refl _) i
theorem aM{f:ap}{fn:Func}(ag:ap->Bool)(h:an P f fn)(a:P.follows .mixedOrders=true){args:List PV}{v:PV}(b:args.length<=fn.ntmps)
 (c:eJ P ag (fn.ntmps,0) (fn.body.getD .skip) (qJ P fn.results.toList v) ⟨ib 0 (args.map .p),[]⟩):az P f args v:=.inl (UW ag h a b c)
theorem O2{α:Type}{N:Nat×Nat->Prop}{f:α->PV}{l:List α}:aQ N (l.map fun x=>.p (f x))=True:=by
 rw[cq,eq_iff_iff,iff_true];intro v a;simp only[a1]at a;obtain⟨x,_,rfl⟩:=a;trivial
theorem aBY{α:Type}{N:Nat×Nat->Prop}{f:α->PV}{l:List α}{i:Nat}:aQ N ((l.map fun x=>.p (f x)).take i)=True:=by
 rw[cq,eq_iff_iff,iff_true];intro v a;have a:=List.mem_of_mem_take a;simp only[a1]at a;obtain⟨x,_,rfl⟩:=a;trivial
theorem TX{N:Nat×Nat->Prop}{a b:List AV}:aQ N (a++b)=(aQ N a/\aQ N b):=by
 simp only[cq,List.mem_append,eq_iff_iff];exact⟨fun h=>⟨fun v c=>h v (.inl c),fun v c=>h v (.inr c)⟩,fun h v c=>c.elim (h.1 v) (h.2 v)⟩
theorem QJ{α:Type}{l:List α}{i:Nat}:(l.take i).take i=l.take i:=by simp[List.take_take]
theorem QI{α β:Type}{f:α->β}{l:List α}:(l.map f).take l.length=l.map f:=List.take_of_length_le (by simp)
section loops
variable{α:Type}(N:Nat)(mk:α->St)(ok:α->Prop)(m:α->Nat)(n:Nat)(Q:bn->St->Prop)
def DI(s:Tg (N,mk,ok,m,n) St):Prop:=tC N mk ok m n s
def yB(e:Tg (N,mk,ok,m,n,Q) bn)(s:Tg (N,mk,ok,m,n,Q) St):Prop:=qq N mk ok m n Q e s
variable{N}{mk}{ok}{m}{n}{Q}{s s':St}
theorem Rk:yB N mk ok m n Q .normal s=DI N mk ok m n s:=(rfl)
theorem SK{id:Nat}:yB N mk ok m n Q (.exit id) s=Q (.exit id) s:=(rfl)
theorem TJ:yB N mk ok m n Q .ret s=Q .ret s:=(rfl)
theorem lp{d:Nat}{b:Code}(mk:α->St)(ok:α->Prop)(m:α->Nat)(c:α)(e:ok c)(gD:∀a,ok a->eJ P ag (d,N) b (yB N mk ok m (m a) Q) (mk a))
 (hn:(mk c).heap.take N=s.heap.take N:=by simp)(he:kZ (mk c).heap s.env (mk c).env:=by simp)(hh:ir (mk c).heap s.heap (mk c).heap:=by simp)(hr:gW (mk c).heap (mk c).env:=by simp)(hr2:eA (mk c).heap (mk c).heap:=by simp):
 eJ P ag (d,N) (.loop b) Q s:=wl (q:=(d,N)) mk ok m c e gD hn he hh hr hr2
theorem rd(a':α)(a:ok a')(h1:m a'<n:=by omega)(hn:(mk a').heap.take N=s.heap.take N:=by simp)(he:kZ (mk a').heap s.env (mk a').env:=by simp)(hh:ir (mk a').heap s.heap (mk a').heap:=by simp)(hr:gW (mk a').heap (mk a').env:=by simp)(hr2:eA (mk a').heap (mk a').heap:=by simp):
 DI N mk ok m n s:=rnd a' a h1 hn he hh hr hr2
end loops
section calls
variable{f:ap}{H H1:Heap}{K:AV->Heap->Prop}{L:aS->Prop}{v a b c d e a' b' c' d' e':PV}
theorem c0(h:az P f [] v)(hk:K (.p v) H):jM P false f K [] H:=Xf h hk
theorem c1(h:az P f [a'] v)(hk:K (.p v) H)(h1:Wk a a':=by first|exact Wk.refl _|simp):jM P false f K [.p a] H:=Xg h hk h1
theorem c2(h:az P f [a',b'] v)(hk:K (.p v) H)(h1:Wk a a':=by first|exact Wk.refl _|simp)(c:Wk b b':=by first|exact Wk.refl _|simp):jM P false f K [.p a,.p b] H:=Xh h hk h1 c
theorem c3(h:az P f [a',b',c'] v)(hk:K (.p v) H)(h1:Wk a a':=by first|exact Wk.refl _|simp)(d:Wk b b':=by first|exact Wk.refl _|simp)(e:Wk c c':=by first|exact Wk.refl _|simp):jM P false f K [.p a,.p b,.p c] H:=Xi h hk h1 d e
theorem c4(h:az P f [a',b',c',d'] v)(hk:K (.p v) H)(e:Wk a a':=by first|exact Wk.refl _|simp)(g:Wk b b':=by first|exact Wk.refl _|simp)(i:Wk c c':=by first|exact Wk.refl _|simp)(j:Wk d d':=by first|exact Wk.refl _|simp):jM P false f K [.p a,.p b,.p c,.p d] H:=Xj h hk e g i j
theorem c5(h:az P f [a',b',c',d',e'] v)(hk:K (.p v) H)(g:Wk a a':=by first|exact Wk.refl _|simp)(i:Wk b b':=by first|exact Wk.refl _|simp)(j:Wk c c':=by first|exact Wk.refl _|simp)(k:Wk d d':=by first|exact Wk.refl _|simp)(l:Wk e e':=by first|exact Wk.refl _|simp):jM P false f K [.p a,.p b,.p c,.p d,.p e] H:=Xk h hk g i j k l
theorem e0(h:az P f [] v)(hk:L {v:=.p v}):nh P f L [] H:=WX h hk
theorem e1(h:az P f [a'] v)(hk:L {v:=.p v})(h1:Wk a a':=by first|exact Wk.refl _|simp):nh P f L [.p a] H:=WY h hk h1
theorem e2(h:az P f [a',b'] v)(hk:L {v:=.p v})(h1:Wk a a':=by first|exact Wk.refl _|simp)(c:Wk b b':=by first|exact Wk.refl _|simp):nh P f L [.p a,.p b] H:=WZ h hk h1 c
theorem e3(h:az P f [a',b',c'] v)(hk:L {v:=.p v})(h1:Wk a a':=by first|exact Wk.refl _|simp)(d:Wk b b':=by first|exact Wk.refl _|simp)(e:Wk c c':=by first|exact Wk.refl _|simp):nh P f L [.p a,.p b,.p c] H:=W0 h hk h1 d e
theorem e4(h:az P f [a',b',c',d'] v)(hk:L {v:=.p v})(e:Wk a a':=by first|exact Wk.refl _|simp)(g:Wk b b':=by first|exact Wk.refl _|simp)(i:Wk c c':=by first|exact Wk.refl _|simp)(j:Wk d d':=by first|exact Wk.refl _|simp):nh P f L [.p a,.p b,.p c,.p d] H:=W3 h hk e g i j
theorem e5(h:az P f [a',b',c',d',e'] v)(hk:L {v:=.p v})(g:Wk a a':=by first|exact Wk.refl _|simp)(i:Wk b b':=by first|exact Wk.refl _|simp)(j:Wk c c':=by first|exact Wk.refl _|simp)(k:Wk d d':=by first|exact Wk.refl _|simp)(l:Wk e e':=by first|exact Wk.refl _|simp):nh P f L [.p a,.p b,.p c,.p d,.p e] H:=W4 h hk g i j k l
theorem cp{args:List AV}{vs a:List PV}(h:az P f a v)(b:mv H args=some (vs,H1))(hk:K (.p v) H1)(h1:bw vs a:=by first|exact bw.refl _|simp):jM P false f K args H:=Xl h b hk h1
theorem ep{args:List AV}{vs a:List PV}{bs:List Nat}{aj aI:List (Nat×Obj)}(h:az P f a v)(b:nm H args=some (vs,bs))(hf:kq H bs=some (aj,aI))(hk:L {v:=.p v,aj,aI})(h1:bw vs a:=by first|exact bw.refl _|simp):nh P f L args H:=W6 h b hf hk h1
theorem ci{args:List AV}{H':Heap}{v:AV}(h:cX P f H args H' v)(hk:K v H'):jM P false f K args H:=.inr ⟨rfl,.inr (.inl ⟨H',v,h,hk⟩)⟩
end calls
attribute [simp] O2 aBY TX QJ Dt Lu aAU aAV KJ aAT xm AE II QI aQ QZ So Tx RH Sd Q8 RG Si RX Ti Tj SZ RE T8 RM Rk SK TJ mv jX nm lJ kq lC
 aEK UD aEC aED UB aEu UC bh Je aEc Ro S9 Tf RY T4 VR Vy aEO UA TF aEY Uz TE Xv Ue Xx V5 Xn V4 QV Xs VW Xm Xz Xp Ss RS RR VZ Xr Xo aAE TN aAH VH aAn VG Q3 aAw VB aAm aAJ aAr SD Re Rt VE aAu aAo VX VC Uc TL RP Rr Ud TM VY VD Xw aAF RQ Rs RW Sh Xu aAD Xt aAC Sr SC Uf TO Xq aAs Xa Xd Xc Xe
end
section
variable{P:ax}{ag:ap->Bool}{q:Cx}
theorem Ib{r:ek}{K a:aS->Prop}(hk:∀e,K e->a e)(h:aZ r K):aZ r a:=by
 unfold aZ at h⊢
 split at h
 ·exact⟨h.1,hk _ h.2⟩
 ·exact h.elim
theorem SI{o:Oper}{e:Env}{H:Heap}{K a:aS->Prop}(hk:∀e,K e->a e)(h:fk P ag o (ev e) H K):fk P ag o (ev e) H a:=by
 obtain⟨x,b,c⟩:=BC (ag:=ag) o (ev e) H K h;exact c a (hk x b)
theorem JG{o:Oper}{e:Env}{H:Heap}{K a:aS->Prop}(hk:∀e,K e->a e)(h:jV P ag o e H K):jV P ag o e H a:=by
 unfold jV at h⊢
 repeat' split at h
 all_goals first|exact hk _ h|exact Ib hk h|exact⟨h.1,Ib hk h.2⟩|exact SI hk h|exact h.elim
theorem GO{d:Bool}{f:ap}{args:List AV}{H:Heap}{K i:AV->Heap->Prop}(hk:∀v H,K v H->i v H)(h:gz P d f args H K):gz P d f args H i:=by
 rcases h with⟨vs,v,a,b,c⟩|⟨g,⟨vs,H1,v,a,b,c⟩|⟨H',v,a,b⟩|⟨e,a,b,c⟩|⟨aj,v,a,b,c⟩⟩
 ·exact .inl ⟨vs,v,a,b,hk _ _ c⟩
 ·exact .inr ⟨g,.inl ⟨vs,H1,v,a,b,hk _ _ c⟩⟩
 ·exact .inr ⟨g,.inr (.inl ⟨H',v,a,hk _ _ b⟩)⟩
 ·exact .inr ⟨g,.inr (.inr (.inl ⟨e,a,b,hk _ _ c⟩))⟩
 ·exact .inr ⟨g,.inr (.inr (.inr ⟨aj,v,a,b,hk _ _ c⟩))⟩
theorem Hd{f:ap}{args:List AV}{H:Heap}{K d:aS->Prop}(hk:∀e,K e->d e)(h:gF P f args H K):gF P f args H d:=by
 rcases h with⟨vs,v,a,b,c⟩|⟨vs,bs,aj,aI,v,a,b,c,g⟩|⟨e,a,b,c⟩|⟨aj,v,a,b,c⟩
 ·exact .inl ⟨vs,v,a,b,hk _ c⟩
 ·exact .inr (.inl ⟨vs,bs,aj,aI,v,a,b,c,hk _ g⟩)
 ·exact .inr (.inr (.inl ⟨e,a,b,hk _ c⟩))
 ·exact .inr (.inr (.inr ⟨aj,v,a,b,hk _ c⟩))
theorem Gw{o:Oper}{K b:St->Prop}{s:St}(hk:∀s,K s->b s)(h:cV P ag o K s):cV P ag o b s:=by
 unfold cV at h⊢
 split at h
 ·rename_i f args g i;unfold qo at h⊢
  split at h
  ·exact GO (fun v H a=>hk _ a) h
  ·exact GO (fun v H a=>hk _ a) h
  ·obtain⟨H',v,c,d⟩:=h;exact⟨H',v,c,hk _ d⟩
  ·exact h.elim
 ·exact JG (fun e a=>hk _ a) h
theorem GW{o:Oper}{s:St}{K a:aS->Prop}(hk:∀e,K e->a e)(h:cW P ag o s K):cW P ag o s a:=by
 unfold cW at h⊢
 split at h
 ·rename_i f args g i;unfold pX at h⊢
  split at h
  ·exact Hd hk h
  ·exact Hd hk h
  ·obtain⟨e,b,c,d⟩:=h;exact⟨e,b,c,hk _ d⟩
  ·exact h.elim
 ·exact JG hk h
theorem uh{c:Array Oper}:∀(l:List Oper){K a:St->Prop}{s:St},(∀s,K s->a s)->fH P ag c l K s->fH P ag c l a s
 |[],K,a,s,hk,h=>hk s h
 |o::l,K,a,s,hk,h=>by
  simp only[fH]at h⊢
  split at h
  ·exact Gw (fun s hs=>uh l hk hs) h
  ·split at h
   ·split at h
    ·rename_i b;rw[if_pos b];exact Gw (fun s hs=>uh l hk hs) h
    ·rename_i b;rw[if_neg b];exact uh l hk h
   ·exact uh l hk h
   ·exact h.elim
theorem ue{d:Array Oper}:∀(l:List Oper){i:Nat}{b:List Touch}{K a:St->Prop}{s:St},(∀s,K s->a s)->fO P ag d l i b K s->fO P ag d l i b a s
 |[],i,b,K,a,s,hk,h=>⟨h.1,hk s h.2⟩
 |o::l,i,b,K,a,s,hk,h=>by
  simp only[fO]at h⊢
  split at h
  ·exact GW (fun e hs=>ue l hk hs) h
  ·split at h
   ·split at h
    ·rename_i c;rw[if_pos c];exact GW (fun e hs=>ue l hk hs) h
    ·rename_i c;rw[if_neg c];exact ue l hk h
   ·exact ue l hk h
   ·exact h.elim
theorem mG:∀(c:Code){Q g:bn->St->Prop}{s:St},(∀e s,Q e s->g e s)->cT P ag q c Q s->cT P ag q c g s
 | .skip,Q,g,s,hq,h=>hq _ _ h
 | .label _,Q,g,s,hq,h=>hq _ _ h
 | .exit _,Q,g,s,hq,h=>hq _ _ h
 | .ret,Q,g,s,hq,h=>hq _ _ h
 | .region _ ops draw,Q,g,s,hq,h=>by
  simp only[cT]at h⊢
  split at h
  ·rename_i j;rw[if_pos j];exact ue _ (fun s hs=>hq _ _ hs) h
  ·rename_i j;rw[if_neg j];exact uh _ (fun s hs=>hq _ _ hs) h
 | .seq a b,Q,g,s,hq,h=>by
  simp only[cT]at h⊢;refine mG a (fun e s d=>?_) h;cases e with
  |normal=>exact mG b hq d
  |exit i=>exact hq _ _ d
  |ret=>exact hq _ _ d
 | .cond c a b,Q,g,s,hq,h=>by
  simp only[cT]at h⊢;unfold sK at h⊢
  split at h
  ·split at h
   ·rename_i k;rw[if_pos k];exact mG a hq h
   ·rename_i k;rw[if_neg k];exact mG b hq h
  ·exact h.elim
 | .block id b,Q,g,s,hq,h=>by
  simp only[cT]at h⊢;refine mG b (fun e s d=>?_) h;cases e with
  |normal=>exact hq _ _ d
  |exit i=>
   simp only[ng]at d⊢
   by_cases hi:i=id
   ·simp only[hi,if_true]at d⊢;exact hq _ _ d
   ·simp only[hi,if_false]at d⊢;exact hq _ _ d
  |ret=>exact hq _ _ d
 | .scope b,Q,g,s,hq,h=>mG b hq h
 | .loop b,Q,g,s,hq,h=>by
  simp only[cT]at h⊢;obtain⟨I,l,m⟩:=h;refine⟨I,l,fun n t hI=>mG b (fun e s d=>?_) (m n t hI)⟩;cases e with
  |normal=>exact d
  |exit id=>exact hq _ _ d
  |ret=>exact hq _ _ d
 | .rangeFunc f o a b,Q,g,s,hq,h=>by
  simp only[cT]at h⊢;exact⟨h.1,HJ (fun H=>HN hq) h.2⟩
 | .goto _,_,_,_,_,h=>h.elim
 | .refuse _,_,_,_,_,h=>h.elim
def qu(R:St->Prop)(Q:bn->St->Prop)(e:Tg (R,Q) bn)(s:Tg (R,Q) St):Prop:=match e with
 | .normal=>R s
 |e=>Q e s
theorem Rc{R:St->Prop}{Q:bn->St->Prop}{s:St}:qu R Q .normal s=R s:=(rfl)
theorem SQ{R:St->Prop}{Q:bn->St->Prop}{id:Nat}{s:St}:qu R Q (.exit id) s=Q (.exit id) s:=(rfl)
theorem Uk{R:St->Prop}{Q:bn->St->Prop}{s:St}:qu R Q .ret s=Q .ret s:=(rfl)
theorem join{a b:Code}{Q:bn->St->Prop}{s:St}(R:St->Prop)(d:eJ P ag q a (qu R Q) s)(f:∀s',R s'->eJ P ag q b Q s'):eJ P ag q (.seq a b) Q s:=by
 rw[bh];refine mG a (fun e s c=>?_) d;cases e with
 |normal=>exact f s c
 |exit i=>exact c
 |ret=>exact c
theorem O3{α:Type}{N:Nat×Nat->Prop}{f:α->PV}{l:List α}:aQ N (l.map (AV.p∘f))=True:=O2
attribute [simp] Rc SQ Uk O3
end
section
variable{P:ax}{ag:ap->Bool}
def u6(P:ax)(a:List ay)(N:Nat)(H':Heap)(v:AV)(e:Tg (a,N,H',v) bn)(s:Tg (a,N,H',v) St):Prop:=sQ P a N H' v e s
theorem SV{a:List ay}{N:Nat}{H':Heap}{v:AV}{s:St}:u6 P a N H' v .ret s=∃vs,fq P s a=some vs/\oneOf vs=v/\(H'=s.heap\/(dj N s ⟨[],H'⟩/\aB (aF H') v)):=by simp[u6,sQ]
theorem QU{a:List ay}{N:Nat}{H':Heap}{v:AV}{s:St}:u6 P a N H' v .normal s=∃vs,fq P s a=some vs/\oneOf vs=v/\(H'=s.heap\/(dj N s ⟨[],H'⟩/\aB (aF H') v)):=by simp[u6,sQ]
theorem jj{f:ap}{fn:Func}(ag:ap->Bool)(h:an P f fn)(a:P.follows .mixedOrders=true){args:List AV}{H H':Heap}{v:AV}(b:args.length<=fn.ntmps)
 (c:eJ P ag (fn.ntmps,H.length) (fn.body.getD .skip) (u6 P fn.results.toList H.length H' v) ⟨ib 0 args,H⟩):cX P f H args H' v:=
 Nv ag h a b (kL (Q':=sQ P fn.results.toList H.length H' v) _ (fun _ _ h=>h) c)
theorem aCE{n i:Nat}:sig [] n i=n+i:=by simp[sig]
theorem cn{f:ap}{H H':Heap}{K:AV->Heap->Prop}{v:AV}{args:List PV}(h:cX P f [] (args.map .p) H' v)(hk:K (ct (sig [] H.length) v) (H++H'.map (dc (sig [] H.length)))):jM P false f K (args.map .p) H:=by
 refine .inr ⟨rfl,.inr (.inr (.inl ⟨di [] H.length [] H' v,?_,⟨by simp[di],by simp[di]⟩,?_⟩))⟩
 ·have b:aQ (aF ([]:Heap)) (args.map .p):=by rw[cq];intro v c;obtain⟨x,_,rfl⟩:=a1.1 c;trivial
  have:=h.frame [] H.length rfl List.nodup_nil (by simp) (by simp) b (by simp);have e:cC (sig [] H.length) (args.map .p)=args.map .p:=by
   clear h b this hk
   induction args with
   |nil=>rfl
   |cons a r d=>simp only[a4,cC,ct,d]
  rwa [e]at this
 ·simpa[di,br]using hk
theorem M8{f:ap}{H H':Heap}{K:AV->Heap->Prop}{v:AV}{a b:PV}(h:cX P f [] [.p a,.p b] H' v)(hk:K (ct (sig [] H.length) v) (H++H'.map (dc (sig [] H.length)))):jM P false f K [.p a,.p b] H:=cn (args:=[a,b]) h hk
def Mp(P:ax)(T:av)(f:Nat):Option (av×iN):=match kindOf P T,P.underlying T with
 | .agg u,some (.struct _)=>((iS P u)[f]?).map fun F=>(u,kindOf P F)
 |_,_=>none
def yo(P:ax)(T:av)(f:Nat)(x:AV):ek:=match Mp P T f,x with
 |some (u,k),.p t=>match(cj t)[f]? with
  |some g=>some (aJ t=.agg u/\k=aJ g,{v:=.p g})
  |none=>none
 |_,_=>none
theorem Js{T:av}{x:AV}{f:Nat}{K:aS->Prop}:(match kindOf P T,P.underlying T,x with
  | .agg u,some (.struct _),.p t=>aJ t=.agg u/\(match(cj t)[f]?,(iS P u)[f]? with
   |some g,some F=>kindOf P F=aJ g/\K {v:=.p g}
   |_,_=>False)
  |_,_,_=>False)=aZ (yo P T f x) K:=by
 unfold yo Mp;cases b:kindOf P T with
 |agg u=>cases c:P.underlying T with
  |none=>simp[aZ]
  |some d=>cases d with
   |struct fs=>cases x with
    |p t=>cases hc:(iS P u)[f]?<;>cases a:(cj t)[f]?<;>simp[aZ,a,hc,and_assoc]
    |_=>cases hc:(iS P u)[f]?<;>simp[aZ,hc]
   |_=>simp[aZ]
 |_=>simp[aZ]
section fields
variable{dst:Option Tmp}{ty:Nat}{pos:String}{af:Array Edge}{g:Option (Nat×Bool)}{env:Env}{heap:Heap}{L:St->Prop}{K:aS->Prop}{T:av}{x:ao}{f:Nat}
theorem VF:dO P ag ⟨dst,.field T x f,ty,pos,af,g⟩ L ⟨env,heap⟩ ()=ch (eg dst ⟨env,heap⟩ L) (yo P T f (ev env x)):=Js
theorem V3:dL P ag ⟨dst,.field T x f,ty,pos,af,g⟩ ⟨env,heap⟩ K ()=ch K (yo P T f (ev env x)):=Js
end fields
theorem xl{σ:Nat->Nat}{α:Type}{f:α->PV}:∀{l:List α},cC σ (l.map (AV.p∘f))=l.map (AV.p∘f)
 |[]=>rfl
 |a::l=>by simp only[a4,cC,xl (l:=l)];rfl
theorem TY{σ:Nat->Nat}{α β:Type}{f:β->PV}{g:α->β}{l:List α}:cC σ (l.map ((AV.p∘f)∘g))=l.map ((AV.p∘f)∘g):=xl (f:=f∘g)
theorem aBV{α β:Type}{N:Nat×Nat->Prop}{f:β->PV}{g:α->β}{l:List α}:aQ N (l.map ((AV.p∘f)∘g))=True:=O3 (f:=f∘g)
attribute [simp] VF V3 TY aBV SV QU aCE ct cC dc xl
end
section
variable{P:ax}{ag:ap->Bool}
theorem JR{T:Heap}:∀{h:Heap},ir T h h=True
 |[]=>by simp[ir]
 |o::h=>by simp[ir,Ld,JR (h:=h)]
theorem BA{T:Heap}:∀{h k:Heap},eA T (h++k)=(eA T h/\eA T k)
 |[],k=>by simp[eA]
 |o::h,k=>by simp[eA,BA (h:=h),and_assoc]
theorem aBX{N:Nat×Nat->Prop}{n:Nat}{v:PV}:aQ N (a7 n (.p v))=True:=by
 rw[cq,eq_iff_iff,iff_true];intro x hx;rw[(List.mem_replicate.1 hx).2];trivial
theorem Vv{σ:Nat->Nat}{α:Type}{f:α->PV}{l:List α}:cC σ (l.map fun x=>.p (f x))=l.map fun x=>.p (f x):=xl (f:=f)
theorem tL{L:ef}{e:Env}{H:Heap}(h:L.env=e)(a:gW H e):∀x,aB (aF H) (aK L.env x):=by rw[h];exact a.get
def ef.bz(L:ef):ef:={L with st:=.busy}
def ef.dn(L:ef)(j:Code):ef:={L with st:=.done,pending:=some j}
def ef.xh(L:ef):ef:={L with st:=.exhausted}
theorem aBz{L:ef}{e:Env}{H:Heap}{j:Code}(h:L.env=e)(a:gW H e):∀x,aB (aF H) (aK (L.dn j).env x):=tL h a
def Stream(P:ax)(g:ap)(fi ca:List PV)(d:List (List PV)):Prop:=
 ∀(b k:Nat)(c:Nat->Heap)(H':Heap),k<=d.length->(∀i,i<=k->eA (c i) (c i)/\aB (aF (c i)) (.map b))->
  (∀i a,i<k->d[i]?=some a->gV P b (c i) (a.map .p) (c (i+1)) (.p (.bool true)))->
  (k=d.length/\H'=c k\/∃a,d[k]?=some a/\gV P b (c k) (a.map .p) H' (.p (.bool false)))->
  cX P g (c 0) (fi.map .p++[.map b]++ca.map .p) H' (.p (.aE []))
theorem Xb{b:Nat}{args:List AV}{M:AV->Heap->Prop}{heap:Heap}:yQ P heap M (.map b) args=∃H' v,gV P b heap args H' v/\M v H':=(rfl)
def tg(b:Nat)(L:ef)(N:Nat)(H':Heap)(v:Bool)(e:Tg (b,L,N,H',v) bn)(s:Tg (b,L,N,H',v) St):Prop:=
 match e with
 | .normal=>v=true/\(St.heap s)[b]?=some (.loop L.bz)/\dj N ⟨[],(St.heap s).set b (.loop L)⟩ ⟨[],H'⟩
 | .exit id=>v=false/\(St.heap s)[b]?=some (.loop L.bz)/\dj N ⟨[],(St.heap s).set b (.loop (L.dn (.exit id)))⟩ ⟨[],H'⟩
 | .ret=>v=false/\(St.heap s)[b]?=some (.loop L.bz)/\dj N ⟨[],(St.heap s).set b (.loop (L.dn .ret))⟩ ⟨[],H'⟩
section
variable{b N:Nat}{L:ef}{H':Heap}{v:Bool}{s:St}
theorem Tc:tg b L N H' v .normal s=(v=true/\s.heap[b]?=some (.loop L.bz)/\dj N ⟨[],s.heap.set b (.loop L)⟩ ⟨[],H'⟩):=(rfl)
theorem Vx{id:Nat}:tg b L N H' v (.exit id) s=(v=false/\s.heap[b]?=some (.loop L.bz)/\dj N ⟨[],s.heap.set b (.loop (L.dn (.exit id)))⟩ ⟨[],H'⟩):=(rfl)
theorem aBg:tg b L N H' v .ret s=(v=false/\s.heap[b]?=some (.loop L.bz)/\dj N ⟨[],s.heap.set b (.loop (L.dn .ret))⟩ ⟨[],H'⟩):=(rfl)
end
def Du(P:ax)(ag:ap->Bool)(q:Cx)(b:Nat)(c:Code)(L:ef)(H':Heap)(v:Bool)(e:Tg (q,b,c,L,H',v) bn)(s:Tg (q,b,c,L,H',v) St):Prop:=
 match e with
 | .normal=>(St.heap s)[b]?=some (.loop L)/\eJ P ag q c (tg b L q.2 H' v) ⟨St.env s,(St.heap s).set b (.loop L.bz)⟩
 |_=>False
theorem Td{q:Cx}{b:Nat}{c:Code}{L:ef}{H':Heap}{v:Bool}{s:St}:Du P ag q b c L H' v .normal s=(s.heap[b]?=some (.loop L)/\eJ P ag q c (tg b L q.2 H' v) ⟨s.env,s.heap.set b (.loop L.bz)⟩):=(rfl)
theorem vY(ag:ap->Bool)(r:P.follows .mixedOrders=true){b n:Nat}{L:ef}{H H':Heap}{args:List AV}{v:Bool}{j:List Tmp}{a c:Code}{env:Env}
 (d:L=⟨.ready,none,n,j,a,c,env⟩)(o:H[b]?=some (.loop L))(q:args.length=j.length)
 (t:(j.all (fun x=>decide (x<n))&&codeOk fit n a&&codeOk fit n c)=true)
 (u:eJ P ag (n,H.length) a (Du P ag (n,H.length) b c L H' v) ⟨pV j args env,H⟩):gV P b H args H' (.p (.bool v)):=by
 refine Nw ag r o (by rw[d];exact q) (by rw[d];exact t) ?_;unfold xI;have e1:L.n=n:=by rw[d]
 have e2:L.assign=a:=by rw[d]
 have e3:L.body=c:=by rw[d]
 have e4:L.params=j:=by rw[d]
 have e5:L.env=env:=by rw[d]
 have k:L.st=.ready:=by rw[d]
 rw[e1,e2,e3,e4,e5];refine kL (Q:=Du P ag (n,H.length) b c L H' v) _ (fun e s h=>?_) u;cases e with
 |normal=>
  obtain⟨l,m⟩:=h;simp only[wS,l];refine⟨k,kL (Q:=tg b L H.length H' v) _ (fun e s h=>?_) m⟩;cases e with
  |normal=>
   obtain⟨rfl,f,g⟩:=h;have i:s.heap[b]?=some (.loop L.bz):=f;simp only[rQ,i,gw];refine⟨rfl,?_⟩;have:({L.bz with st:=LoopState.ready,pending:=none}:ef)=L:=by subst d;rfl
   simpa[this]using g
  |exit id=>
   obtain⟨rfl,f,g⟩:=h;have i:s.heap[b]?=some (.loop L.bz):=f;simp only[rQ,i,gw];exact⟨rfl,g⟩
  |ret=>
   obtain⟨rfl,f,g⟩:=h;have i:s.heap[b]?=some (.loop L.bz):=f;simp only[rQ,i,gw];exact⟨rfl,g⟩
 |exit id=>exact h.elim
 |ret=>exact h.elim
theorem rf{f:ao}{h:Array Tmp}{a c:Code}{Q:bn->St->Prop}{env:Env}{heap:Heap}{q:Cx}{g:ap}{fi ca:List PV}{n:List (List PV)}(aH:Stream P g fi ca n)(hf:ev env f= .p (.func g fi ca))(hq:q.2<=heap.length)
 (X:ef->Nat->Heap)(k:Nat)(hk:k<=n.length)(u:∀L,X L 0=heap++[.loop L])
 (hx:∀L,L=⟨.ready,none,q.1,h.toList,a,c,env⟩->∀i,i<=k->(X L i)[heap.length]?=some (.loop L)/\gW (X L i) env/\(gW (X L i) env->(∀x,aB (aF (X L i)) (aK L.env x))->eA (X L i) (X L i)))
 (t:∀L,L=⟨.ready,none,q.1,h.toList,a,c,env⟩->∀i x,i<k->n[i]?=some x->gV P heap.length (X L i) (x.map .p) (X L (i+1)) (.p (.bool true)))
 (y:∀L,L=⟨.ready,none,q.1,h.toList,a,c,env⟩->(k=n.length/\Q .normal ⟨env,(X L k).set heap.length (.loop L.xh)⟩)\/
  ∃x j l,n[k]?=some x/\l[heap.length]?=some (.loop (L.dn j))/\gV P heap.length (X L k) (x.map .p) l (.p (.bool false))/\jl Q (some j) ⟨env,l.set heap.length (.loop (L.dn j).xh)⟩):
 eJ P ag q (.rangeFunc f h a c) Q ⟨env,heap⟩:=by
 obtain⟨L,b⟩:∃L:ef,L=⟨.ready,none,q.1,h.toList,a,c,env⟩:=⟨_,rfl⟩
 have s:=aH heap.length k (X L);refine⟨hq,?_⟩;show ji P (ev env f) heap.length (heap++[.loop ⟨.ready,none,q.1,h.toList,a,c,env⟩]) (iq heap.length env Q);rw[hf];simp only[ji];rw[<-b,<-u L];have r:∀i,i<=k->eA (X L i) (X L i)/\aB (aF (X L i)) (.map heap.length):=by
  intro i hi;obtain⟨m,d,o⟩:=hx L b i hi;have e5:L.env=env:=by rw[b]
  refine⟨o d (by rw[e5];exact d.get),?_⟩;simp only[aB,aF,m];exact⟨_,rfl,by simp[Obj.has]⟩
 rcases y L b with⟨m,d⟩|⟨x,j,l,m,d,o,v⟩
 ·refine⟨_,_,s (X L k) hk r (t L b) (.inl ⟨m,rfl⟩),?_⟩;have w:=(hx L b k (bb k)).1;simp only[iq,w];refine⟨by rw[b];simp,?_⟩;have:L.pending=none:=by rw[b]
  simp only[this,jl];have e:L.xh={L with st:=.exhausted}:=rfl;rw[this]at e;rw[e]at d;exact d
 ·refine⟨_,_,s l hk r (t L b) (.inr ⟨x,m,o⟩),?_⟩;simp only[iq,d];exact⟨by simp[ef.dn],v⟩
section XV
variable{f:ap}{H0 bR H:Heap}{fP args:List AV}{v0:AV}{K:AV->Heap->Prop}{L:aS->Prop}
theorem XU(h:cX P f H0 fP bR v0)(bs:List Nat)(e:bs.length=H0.length)(i:bs.Nodup)(g:∀b∈bs,b<H.length)(d:H0.length<=bR.length)(a:aQ (aF H0) fP)(j:eA H0 H0)(c:cC (sig bs H.length) fP=args):
 qI P f args H.length (di bs H.length H0 bR v0):=by
 have:=h.frame bs H.length e i g d a j.get
 rwa [c]at this
theorem cf(h:cX P f H0 fP bR v0)(bs:List Nat)(hk:K (ct (sig bs H.length) v0) (br H (bs.zip ((bR.take H0.length).map (dc (sig bs H.length))))++(bR.drop H0.length).map (dc (sig bs H.length))))(aj:∀p∈bs.zip (H0.map (dc (sig bs H.length))),H[p.1]?=some p.2:=by simp[sig])(aI:∀p∈bs.zip ((bR.take H0.length).map (dc (sig bs H.length))),p.1<H.length/\p.2≠ .hole:=by simp[sig])
 (e:bs.length=H0.length:=by simp)(i:bs.Nodup:=by simp)(g:∀b∈bs,b<H.length:=by simp)(d:H0.length<=bR.length:=by simp)(a:aQ (aF H0) fP:=by simp)(hr:eA H0 H0:=by simp)(c:cC (sig bs H.length) fP=args:=by simp[sig]):jM P false f K args H:=
 .inr ⟨rfl,.inr (.inr (.inl ⟨_,XU h bs e i g d a hr c,⟨aj,aI⟩,hk⟩))⟩
end XV
section bytes
variable{dst:Option Tmp}{ty:Nat}{pos:String}{af:Array Edge}{g:Option (Nat×Bool)}{env:Env}{heap:Heap}{L:St->Prop}{K:aS->Prop}
theorem Xy{x:ao}{d:Array av}{b ar ai off len:Nat}{k:AK}{es:List AV}(hx:ev env x= .sl b ar ai off len)(f:heap[b]?=some (.arr k ar ai es))(e:0<len)(h:off+len<=es.length)
 (hk:K {v:=.bQ b ar ai off [],aj:=[(b,.arr k ar ai es)]}):dL P ag ⟨dst,.call {callee:=.builtin .unsafeSliceData,args:=#[x],argTypes:=d},ty,pos,af,g⟩ ⟨env,heap⟩ K ():=by
 show(match ev env x with
   | .p .aR=>K {v:=.p .dw}
   | .sl b ar ai off len=>(match heap[b]? with
    |some (.arr k c a es)=>ar=c/\ai=a/\((k.gr=true/\es=[]/\K {v:=.p .dw,aj:=[(b,.arr k c a es)]})\/(0<len/\off+len<=es.length/\K {v:=.bQ b ar ai off [],aj:=[(b,.arr k c a es)]}))
    |_=>False)
   |_=>False)
 rw[hx];simp only[f];exact⟨trivial,trivial,.inr ⟨e,h,hk⟩⟩
theorem XA{x y:ao}{a:Array av}{b ar:Nat}{m:Int}{es:List AV}{l:List Nat}(hx:ev env x= .bQ b ar 1 0 [])(o:ev env y= .p (.int .i64 m))(i:heap[b]?=some (.arr .bytes ar 1 es))(c:0<m)(k:m.toNat<=es.length)(d:m<=9223372036854775807)
 (f:a.size=2)(e:ptrTo P (a.getD 0 0)=some Gl.u8)(n:P.cellsOf Gl.u8=1)(j:bytesOf (es.take m.toNat)=some l)
 (hk:K {v:=.p (.str l),aj:=[(b,.arr .bytes ar 1 es)],aI:=[(b,.dead)]}):dL P ag ⟨dst,.call {callee:=.builtin .unsafeString,args:=#[x,y],argTypes:=a},ty,pos,af,g⟩ ⟨env,heap⟩ K ():=by
 have h:fk P ag ⟨dst,.call {callee:=.builtin .unsafeString,args:=#[x,y],argTypes:=a},ty,pos,af,g⟩ (ev env) heap K:=by
  unfold fk;simp only[a4,List.map_nil,hx,o,i];exact⟨trivial,trivial,trivial,trivial,c,k,d,f,e,n,by rw[j];exact hk⟩
 exact h
end bytes
theorem rf2{f:ao}{h:Array Tmp}{a c:Code}{Q:bn->St->Prop}{env:Env}{heap:Heap}{q:Cx}{g:ap}{fi ca:List PV}{b:List (List PV)}(aH:Stream P g fi ca b)(hf:ev env f= .p (.func g fi ca))(hq:q.2<=heap.length)
 (X F:ef->Nat->Heap)(okB:Nat->Bool)(j:Code)(k:Nat)(hk:k<=b.length)(u:∀i,i<k->okB i=true)(r:k=b.length\/(k<b.length/\okB k=false))(m:∀L,X L 0=heap++[.loop L])
 (hx:∀L,L=⟨.ready,none,q.1,h.toList,a,c,env⟩->∀i,i<=k->(X L i)[heap.length]?=some (.loop L)/\gW (X L i) env/\(gW (X L i) env->(∀x,aB (aF (X L i)) (aK L.env x))->eA (X L i) (X L i)))
 (l:∀L,L=⟨.ready,none,q.1,h.toList,a,c,env⟩->∀i x,i<=k->b[i]?=some x->gV P heap.length (X L i) (x.map .p) (if okB i=true then X L (i+1)else F L (i+1)) (.p (.bool (okB i))))
 (n:∀L,(F L (k+1))[heap.length]?=some (.loop (L.dn j)))
 (s:k=b.length->∀L,Q .normal ⟨env,(X L k).set heap.length (.loop L.xh)⟩)
 (v:k<b.length->∀L,jl Q (some j) ⟨env,(F L (k+1)).set heap.length (.loop (L.dn j).xh)⟩):
 eJ P ag q (.rangeFunc f h a c) Q ⟨env,heap⟩:=by
 refine rf aH hf hq X k hk m hx (fun L e i x hi t=>?_) (fun L e=>?_)
 ·have:=l L e i x (by omega) t;rw[u i hi]at this;exact this
 ·rcases r with d|⟨d,o⟩
  ·exact .inl ⟨d,s d L⟩
  ·right;refine⟨b[k],j,F L (k+1),a5 d,n L,?_,v d L⟩;have:=l L e k b[k] (bb _) (a5 d);rw[o]at this;exact this
attribute [simp] Vv aBX JR BA Tc Vx aBg Td Xb pV
end
section
variable{P:ax}{ag:ap->Bool}{w:a0}{aa ah:Nat->Prop}{β:Bd}{H:Heap}
def mf(K:Nat->Bool)(H:Heap):Heap:=H.mapIdx fun i o=>if K i then .dead else o
theorem AW{K:Nat->Bool}{b:Nat}:(mf K H)[b]?=(H[b]?).map fun o=>if K b then .dead else o:=by simp[mf]
theorem kl{K:Nat->Bool}{b:Nat}{o:Obj}(h:(mf K H)[b]?=some o):∃a,H[b]?=some a/\((K b=true/\o=.dead)\/(K b=false/\o=a)):=by
 rw[AW,Option.map_eq_some_iff]at h;obtain⟨a,d,c⟩:=h;refine⟨a,d,?_⟩;cases hk:K b<;>simp[hk]at c
 ·exact .inr ⟨rfl,c.symm⟩
 ·exact .inl ⟨rfl,c.symm⟩
theorem Bs{K:Nat->Bool}{x:Nat×Nat}(h:aF H x):aF (mf K H) x:=by
 obtain⟨o,a,b⟩:=h;refine⟨if K x.1 then .dead else o,by rw[AW,a];rfl,?_⟩
 split
 ·trivial
 ·exact b
theorem Ap{K:Nat->Bool}:bW β H β (mf K H):=by
 refine⟨fun b _ h=>⟨?_,rfl⟩,fun b _ h=>⟨?_,rfl⟩,fun b _ h=>⟨?_,rfl⟩,fun b ar ai k f _ h=>⟨k,f,?_,bb _,Iff.rfl,fun _=>⟨rfl,rfl⟩⟩,fun b _ h=>⟨?_,rfl⟩⟩
 ·obtain⟨fz,t,h⟩:=h;obtain⟨d,c,a⟩:=kl h;rcases a with⟨_,a⟩|⟨_,rfl⟩
  ·cases a
  ·exact⟨fz,t,c⟩
 ·obtain⟨s,q,h⟩:=h;obtain⟨d,c,a⟩:=kl h;rcases a with⟨_,a⟩|⟨_,rfl⟩
  ·cases a
  ·exact⟨s,q,c⟩
 ·obtain⟨g,h,e⟩:=h;obtain⟨d,c,a⟩:=kl h;rcases a with⟨_,rfl⟩|⟨_,rfl⟩
  ·exact e.elim
  ·exact⟨_,c,e⟩
 ·obtain⟨d,c,a⟩:=kl h;rcases a with⟨_,a⟩|⟨_,rfl⟩
  ·cases a
  ·exact c
 ·obtain⟨L,h⟩:=h;obtain⟨d,c,a⟩:=kl h;rcases a with⟨_,a⟩|⟨_,rfl⟩
  ·cases a
  ·exact⟨L,c⟩
def zu(K:Nat->Bool)(aa:Nat->Prop)(β:Bd)(H:Heap)(k:Nat):Prop:=aa k\/∃(b:Nat)(o:Obj),H[b]?=some o/\o.live/\K b=true/\β.ak b=k
theorem bL.kill(K:Nat->Bool)(a:bL P w aa β H ah):bL P w aa β (mf K H) ah:=by
 refine⟨fun b o e=>?_,fun b b' o o' e n f g m l=>?_,fun b o e=>?_,a.bM,a.dQ,a.gO⟩
 ·obtain⟨i,c,d⟩:=kl e;rcases d with⟨_,rfl⟩|⟨_,rfl⟩
  ·trivial
  ·exact eP.carry (fun _ x=>x) (fun _ _=>rfl) Ap (a.refs b o c) (fun _=>⟨rfl,rfl,rfl⟩) (fun _ _ h=>h) (a.cg b o c)
 ·obtain⟨i,c,d⟩:=kl e;obtain⟨p,j,k⟩:=kl n;rcases d with⟨_,rfl⟩|⟨_,rfl⟩
  ·exact f.elim
  rcases k with⟨_,rfl⟩|⟨_,rfl⟩
  ·exact g.elim
  exact a.inj b b' _ _ c j f g m l
 ·obtain⟨i,c,d⟩:=kl e;rcases d with⟨_,rfl⟩|⟨_,rfl⟩
  ·trivial
  ·exact Obj.uy (fun _ h=>Bs h) (a.refs b o c)
theorem bL.azt(K:Nat->Bool)(a:bL P w aa β H ah):bL P w (zu K aa β H) β (mf K H) ah:=by
 have hk:=a.kill K;have hi:∀k,aa k->zu K aa β H k:=fun k h=>.inl h;refine⟨fun b o c=>?_,fun b b' o o' c r d p q n=>hk.inj b b' o o' c r d p (fun h=>q (hi _ h)) n,hk.refs,fun k h=>?_,a.dQ,⟨fun g=>aA.mono hi (fun _ _=>rfl) _ _ (a.gO.val g),fun g cs h=>⟨hi _ (a.gO.raw g cs h).1,(a.gO.raw g cs h).2⟩⟩⟩
 ·have f:=c;obtain⟨t,j,l⟩:=kl c;rcases l with⟨_,rfl⟩|⟨s,rfl⟩
  ·trivial
  ·refine eP.carry hi (fun _ _=>rfl) (bW.refl β _) (hk.refs b o f) (fun _=>⟨rfl,rfl,rfl⟩) (fun d fz h=>?_) (hk.cg b o f);cases fz with
   |true=>exact hi _ h
   |false=>
    refine⟨?_,h.2⟩;rintro(m|⟨e,i,g1,g2,g3,g4⟩)
    ·exact h.1 m
    ·have:=a.inj e b i o g1 j g2 d (by rw[g4];exact h.1) g4;rw[this,s]at g3;cases g3
 ·rcases h with h|⟨e,i,g1,g2,g3,rfl⟩
  ·exact a.bM k h
  ·exact a.lY g1 g2
theorem eP.held{b:Nat}{o:Obj}(h:eP P w aa β H ah b o)(a:o.live):aa (β.ak b)\/¬ah (β.ak b):=by
 by_cases hi:aa (β.ak b)
 ·exact .inl hi
 ·exact .inr (h.mut a hi)
theorem cX.pure{f:ap}{args:List AV}{H':Heap}{v:AV}{n:Nat}{p:PV}(K:Nat->Bool)(h:cX P f H args H' v)(C:dV (mf (fun i=>!K i) H') n v=some p)(B:∀b L,K b=true->H[b]?≠some (.loop L)):
 cX P f H args (mf K H') (.p p):=by
 refine⟨h.1,fun w aa ah β t E z F=>(h.2 w aa ah β t E z F).mono ?_⟩;rintro e w' ⟨j,aG,aD,rfl,d,G,r⟩;have q:=d.rel;have A:=q.kill (fun i=>!K i);have I:au P w' aD aG (mf (fun i=>!K i) H') v j:=au.mono (fun _ x=>x) (fun _ _=>rfl) Ap _ _ r G;have D:=wT A n v p C (aB.mono (fun _ h=>Bs h) v r) j I;refine⟨j,aG,zu K aD aG H',rfl,⟨fun k hk=>.inl (d.bM k hk),?_,d.ext,?_,q.azt K,fun x hx=>Bs (d.eM x hx),?_⟩,?_,trivial⟩
 ·rintro k (hk|⟨b,o,g1,g2,g3,rfl⟩)
  ·exact d.fresh k hk
  ·rcases(q.cg b o g1).held g2 with h|h
   ·exact d.fresh _ h
   ·exact .inr h
 ·have aH:=d.step;have hk:=Ap (K:=K) (β:=aG) (H:=H');refine⟨fun b a c=>?_,fun b a c=>?_,fun b a c=>?_,fun b ar ai k es a c=>?_,fun b a c=>?_⟩
  ·exact aH.box b a (hk.box b (d.eM _ a) c).1
  ·exact aH.it b a (hk.it b (d.eM _ a) c).1
  ·exact aH.map b a (hk.map b (d.eM _ a) c).1
  ·have u:et H' b ar ai k es:=by
    obtain⟨M,l,g⟩:=kl c;rcases g with⟨_,g⟩|⟨_,rfl⟩
    ·cases g
    ·exact l
   exact aH.arr b ar ai k es a u
  ·exact aH.loop b a (hk.loop b (d.eM _ a) c).1
 ·rintro b ⟨L,c⟩;obtain⟨s,y⟩:=d.loop b ⟨L,c⟩;have m:K b=false:=by
   cases m:K b with
   |false=>rfl
   |true=>exact(B b L m c).elim
  exact⟨s,by rw[AW,y];simp[m]⟩
 ·show aA P w' _ p j;refine aA.mono ?_ (fun _ _=>rfl) _ _ D;rintro k (hk|⟨b,o,g1,g2,rfl⟩)
  ·exact .inl hk
  ·obtain⟨M,l,g⟩:=kl g1;rcases g with⟨_,rfl⟩|⟨J,rfl⟩
   ·exact g2.elim
   ·exact .inr ⟨b,o,l,g2,by simpa using J,rfl⟩
end
section
variable{P:ax}{w:a0}{aa ah:Nat->Prop}{β:Bd}
theorem rJ{t t':AV}{r:Heap}:bW β (.box false t::r) β (.box false t'::r):=by
 refine⟨fun b _ h=>⟨?_,rfl⟩,fun b _ h=>⟨?_,rfl⟩,fun b _ h=>⟨?_,rfl⟩,fun b ar ai k c _ h=>⟨k,c,?_,bb _,Iff.rfl,fun _=>⟨rfl,rfl⟩⟩,fun b _ h=>⟨?_,rfl⟩⟩
 ·cases b with
  |zero=>exact⟨false,t,rfl⟩
  |succ b=>exact h
 ·obtain⟨s,q,h⟩:=h;cases b with
  |zero=>simp at h
  |succ b=>exact⟨s,q,h⟩
 ·obtain⟨d,h,a⟩:=h;cases b with
  |zero=>simp at h;subst h;exact a.elim
  |succ b=>exact⟨d,h,a⟩
 ·cases b with
  |zero=>simp[et]at h
  |succ b=>exact h
 ·obtain⟨L,h⟩:=h;cases b with
  |zero=>simp at h
  |succ b=>exact⟨L,h⟩
theorem pH{t t':AV}{r:Heap}{x:Nat×Nat}(h:aF (.box false t::r) x):aF (.box false t'::r) x:=by
 obtain⟨o,a,c⟩:=h;obtain⟨b,v⟩:=x;cases b with
 |zero=>exact⟨_,rfl,trivial⟩
 |succ b=>exact⟨o,a,c⟩
theorem bL.swap{t d:AV}{r:Heap}(c:bL P w aa β (.box false t::r) ah)(hc:∀cs,bd P w aa β (.box false t::r) t cs->bd P w aa β (.box false t::r) d cs)(l:∀T,iK T (ad d)=true)
 (g:∀n,aB n t->aB n d):bL P w aa β (.box false d::r) ah:=by
 refine⟨fun b o a=>?_,fun b b' o o' a s f p q m=>?_,fun b o a=>?_,c.bM,c.dQ,c.gO⟩
 ·cases b with
  |zero=>
   simp at a;subst a;obtain⟨cs,T,i,j,k,y,z⟩:=c.cg 0 _ rfl;have u:=c.refs 0 _ rfl;exact⟨cs,T,i,bd.mono (fun _ x=>x) (fun _ _=>rfl) rJ _ _ (g _ u) (hc _ j),k,(fun h=>absurd h (by simp)),l T⟩
  |succ b=>exact eP.carry (fun _ x=>x) (fun _ _=>rfl) rJ (c.refs (b+1) o a) (fun _=>⟨rfl,rfl,rfl⟩) (fun _ _ h=>h) (c.cg (b+1) o a)
 ·have key:∀{b:Nat}{o:Obj},(Obj.box false d::r)[b]?=some o->o.live->∃e,(Obj.box false t::r)[b]?=some e/\e.live:=by
   intro b o a f;cases b with
   |zero=>exact⟨_,rfl,trivial⟩
   |succ b=>exact⟨o,a,f⟩
  obtain⟨e,k1,k2⟩:=key a f;obtain⟨v,k3,k4⟩:=key s p;exact c.inj b b' e v k1 k3 k2 k4 q m
 ·cases b with
  |zero=>
   simp at a;subst a;exact aB.mono (fun _ h=>pH h) _ (g _ (c.refs 0 _ rfl))
  |succ b=>exact Obj.uy (fun _ h=>pH h) (c.refs (b+1) o a)
theorem J0{H:Heap}{u:av}{n:Nat}(f:dC P u=some [n]){t:AV}{cs:List aT}:bd P w aa β H (.st u [t]) cs↔bd P w aa β H t cs/\cs.length=n:=by
 simp only[bd,f,bo];constructor
 ·rintro⟨l,g,rfl,a,rfl⟩;simp only[bF]at a;obtain⟨c,d,rfl,b,e,rfl⟩:=a;simpa using⟨b,e⟩
 ·rintro⟨a,b⟩;exact⟨[n],[cs],rfl,by simp only[bF];exact⟨cs,[],rfl,a,b,rfl⟩,by simp⟩
theorem cX.wrap{f:ap}{u:av}{n:Nat}{t i:AV}{r j:Heap}{args:List AV}{v:AV}(q:dC P u=some [n])(a:∀T,iK T (.agg u)=true)(F:∀T,iK T (ad t)=true)(G:∀(w:a0)(aa:Nat->Prop)(β:Bd)(H:Heap)(cs:List aT),bd P w aa β H i cs->cs.length=n)
 (h:cX P f (.box false t::r) (.ptr 0 []::args) (.box false i::j) v):cX P f (.box false (.st u [t])::r) (.ptr 0 [(u,0)]::args) (.box false (.st u [i])::j) v:=by
 refine⟨h.1,fun w aa ah β O J D y=>?_⟩;have K:bL P w aa β (.box false t::r) ah:=J.swap (fun cs h=>((J0 q).1 h).1) F (fun n h=>by simpa[aB,aQ]using h);obtain⟨x,xs,rfl,h1,C⟩:=D;have E:bp P w aa β (.box false t::r) (.ptr 0 []::args) (x::xs):=by
  refine⟨x,xs,rfl,?_,bp.mono (fun _ x=>x) (fun _ _=>rfl) rJ _ _ y.2 C⟩;obtain⟨q1,ak,off,o,s,N,q4⟩:=h1;refine⟨q1,ak,off,0,s,rfl,fun _=>?_⟩;have I:o=0:=by simpa[fK,q]using N.symm
  have:=q4 (.inl ⟨false,_,rfl⟩);rw[I]at this;exact this
 refine(h.2 w aa ah β (x::xs) K E ⟨⟨_,rfl,trivial⟩,aQ.mono (fun _ h=>pH h) _ y.2⟩).mono ?_;rintro e w' ⟨B,aG,aD,rfl,g,M,z⟩;refine⟨B,aG,aD,rfl,⟨g.bM,g.fresh,g.ext,?_,?_,fun x hx=>pH (g.eM x (pH hx)),?_⟩,au.mono (fun _ x=>x) (fun _ _=>rfl) rJ _ _ z M,aB.mono (fun _ h=>pH h) _ z⟩
 ·have aH:=g.step;have m:=rJ (β:=β) (t:=.st u [t]) (t':=t) (r:=r);have p:=rJ (β:=aG) (t:=i) (t':=.st u [i]) (r:=j);have d:∀x,aF (.box false (.st u [t])::r) x->aF (.box false t::r) x:=fun x h=>pH h;have l:∀x,aF (.box false t::r) x->aF (.box false i::j) x:=g.eM;refine⟨fun b a c=>?_,fun b a c=>?_,fun b a c=>?_,fun b ar ai k es a c=>?_,fun b a c=>?_⟩
  ·obtain⟨k1,k2⟩:=p.box b (l _ (d _ a)) c;obtain⟨k3,k4⟩:=aH.box b (d _ a) k1;exact⟨(m.box b a k3).1,k4⟩
  ·obtain⟨k1,k2⟩:=p.it b (l _ (d _ a)) c;obtain⟨k3,k4⟩:=aH.it b (d _ a) k1;exact⟨(m.it b a k3).1,k4⟩
  ·obtain⟨k1,k2⟩:=p.map b (l _ (d _ a)) c;obtain⟨k3,k4⟩:=aH.map b (d _ a) k1;exact⟨(m.map b a k3).1,k4⟩
  ·have k1:et (.box false i::j) b ar ai k es:=by
    cases b with
    |zero=>simp[et]at c
    |succ b=>exact c
   obtain⟨k0,gd,q1,s⟩:=aH.arr b ar ai k es (d _ a) k1;refine⟨k0,gd,?_,s⟩;cases b with
   |zero=>simp[et]at q1
   |succ b=>exact q1
  ·obtain⟨k1,k2⟩:=p.loop b (l _ (d _ a)) c;obtain⟨k3,k4⟩:=aH.loop b (d _ a) k1;exact⟨(m.loop b a k3).1,k4⟩
 ·exact g.rel.swap (fun cs h=>(J0 q).2 ⟨h,G _ _ _ _ _ h⟩) a (fun n h=>by simpa[aB,aQ]using h)
 ·rintro b ⟨L,c⟩;have k1:gv (.box false t::r) b:=by
   cases b with
   |zero=>simp at c
   |succ b=>exact⟨L,c⟩
  obtain⟨A,k2⟩:=g.loop b k1;cases b with
  |zero=>simp at k2
  |succ b=>exact⟨A,k2⟩
end
section
variable{P:ax}{w:a0}{aa ah:Nat->Prop}{β:Bd}
def sP(n:Nat):Heap:=a7 n .dead
theorem mI{n b:Nat}{o:Obj}(h:(sP n)[b]?=some o):o=.dead:=by
 simp only[sP,a6]at h
 split at h
 ·injection h with h;exact h.symm
 ·cases h
theorem cX.cut{f:ap}{H:Heap}{args:List AV}{n:Nat}{p:PV}(h:cX P f H args (sP n) (.p p)):cX P f H args (sP H.length) (.p p):=by
 refine⟨h.1,fun w aa ah β i v r y=>(h.2 w aa ah β i v r y).mono ?_⟩;rintro e w' ⟨j,aG,aD,rfl,a,z,A⟩;have no:∀{m b:Nat}{o:Obj},(sP m)[b]?=some o->o.live->False:=fun h d=>by rw[mI h]at d;exact d
 refine⟨j,aG,aD,rfl,⟨a.bM,a.fresh,a.ext,⟨?_,?_,?_,?_,?_⟩,⟨fun b o c=>by rw[mI c];trivial,fun b b' o o' c _ d=>(no c d).elim,fun b o c=>by rw[mI c];trivial,a.rel.bM,a.rel.dQ,a.rel.gO⟩,?_,?_⟩,z,trivial⟩
 ·rintro b _ ⟨fz,t,h⟩;cases mI h
 ·rintro b _ ⟨fz,t,h⟩;cases mI h
 ·rintro b _ ⟨B,h,g⟩;rw[mI h]at g;exact g.elim
 ·intro b ar ai k es _ h;cases mI h
 ·rintro b _ ⟨L,h⟩;cases mI h
 ·rintro x ⟨o,l,_⟩;have u:=(a3.1 l).1;exact⟨.dead,by rw[sP,a6,if_pos u],trivial⟩
 ·intro b s;obtain⟨L,q⟩:=a.loop b s;cases mI q
theorem cX.cL{f:ap}{H H':Heap}{args:List AV}{v v':PV}(h:cX P f H args H' (.p v))(k:Wk v v'):cX P f H args H' (.p v'):=by
 refine⟨h.1,fun w aa ah β a i d j=>(h.2 w aa ah β a i d j).mono ?_⟩;rintro e w' ⟨b,aG,aD,rfl,g,c,l⟩;exact⟨b,aG,aD,rfl,g,aA.cL _ _ _ k c,trivial⟩
end
section
variable{P:ax}
def yK(P:ax)(a:List ay)(N:Nat)(Q:AV->Heap->Prop)(e:Tg (a,N,Q) bn)(s:Tg (a,N,Q) St):Prop:=
 (match e with
  | .exit _=>False
  |_=>True)/\∃vs,fq P s a=some vs/\∃H',Q (oneOf vs) H'/\(H'=St.heap s\/(dj N s ⟨[],H'⟩/\aB (aF H') (oneOf vs)))
theorem T6{a:List ay}{N:Nat}{Q:AV->Heap->Prop}{s:St}:yK P a N Q .ret s=∃vs,fq P s a=some vs/\∃H',Q (oneOf vs) H'/\(H'=s.heap\/(dj N s ⟨[],H'⟩/\aB (aF H') (oneOf vs))):=by simp[yK]
theorem RJ{a:List ay}{N:Nat}{Q:AV->Heap->Prop}{s:St}:yK P a N Q .normal s=∃vs,fq P s a=some vs/\∃H',Q (oneOf vs) H'/\(H'=s.heap\/(dj N s ⟨[],H'⟩/\aB (aF H') (oneOf vs))):=by simp[yK]
attribute [simp] T6 RJ
end
section
variable{P:ax}
theorem az.heap{f:ap}{vs j:List PV}{v:PV}{H H1:Heap}{args:List AV}(h:az P f vs v)(g:Enters P f)(o:mv H args=some (j,H1))(l:bw j vs:=by first|exact bw.refl _|simp):cX P f H args H1 (.p v):=by
 refine⟨g,fun w aa ah β x u r q=>?_⟩;obtain⟨b,a,i⟩:=AF o u r q;rcases h.cL l (Wk.refl _)with m|n
 ·intro cs;obtain⟨e,w',k,⟨c,aD,he,m1,m2,m3,m4,m5,m6,m7⟩,aH,s,t⟩:=m.2 w b _ a.rel.bM a.rel.gO i cs;subst he;exact⟨_,w',k,⟨c,β,aD,rfl,a.trans (a.rel.later m1 m2 m3 m4 m5 m6),by simpa[au]using m7,by simp[aB]⟩,aH,s,t⟩
 ·obtain⟨c,d,_⟩:=n w b _ i;rw[g]at d;cases d
end
section
variable{P:ax}{ag:ap->Bool}
theorem Pq{H J:Heap}{x:Nat×Nat}(h:aF H x):aF (H++J) x:=by
 obtain⟨o,a,b⟩:=h;exact⟨o,by rw[List.getElem?_append_left (a3.1 a).1];exact a,b⟩
theorem eA.up{S T:Heap}(a:∀x,aF S x->aF T x):∀{h:Heap},eA S h->eA T h
 |[],_=>trivial
 |_::_,h=>⟨Obj.uy a h.1,eA.up a h.2⟩
theorem eA.app{H J:Heap}(h:eA H H)(a:eA (H++J) J):eA (H++J) (H++J):=by
 rw[BA];exact⟨h.up fun _=>Pq,a⟩
end
end Go.al
