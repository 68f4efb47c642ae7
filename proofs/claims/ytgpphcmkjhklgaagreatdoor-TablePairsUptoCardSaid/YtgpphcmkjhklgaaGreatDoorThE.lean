import Derived.Test.YtgpphcmkjhklgaaGreatDoorThD
/- Parts of a proof. -/
set_option linter.unusedSimpArgs false
set_option linter.unusedVariables false
set_option linter.unusedSectionVars false
open Bool renaming cond_eq_ite->ab, and_eq_true->ac, false_eq_true->am
open Go renaming Operand->ao, FuncId->ap, TypeId->av, Program->ax, ResultVar->ay, Value->aT, World->a0
open List renaming mem_map->a1, getElem?_eq_some_iff->a3, map_cons->a4, getElem?_eq_getElem->a5, getElem?_replicate->a6, replicate->a7, rec->a8
open Nat renaming ble->a9, le_refl->bb, pow_succ->be, beq->bi, mod_lt->bk
open Option renaming ite_none_right_eq_some->bl
open Option.some renaming injEq->bo
open Prod.mk renaming injEq->bv
namespace Go.aw
set_option linter.unusedSectionVars false
variable[Gl]
inductive RT where
 |lf
 |vl (v:AV)
 |nd (a b c d:RT)
inductive Q4 where|a|b|c|d
def q4(n:Nat):Q4:=match n with
 |0=>.a
 |1=>.b
 |2=>.c
 |_=>.d
def pathOf:Nat->Nat->List Q4
 |0,_=>[]
 |k+1,n=>q4 (n% 4)::pathOf k (n/4)
noncomputable def u9(p:List Q4):RT->AV:=
 a8 (motive:=fun _=>RT->AV) (fun R=>RT.rec (motive:=fun _=>AV) (.p .undef) (fun v=>v) (fun _ _ _ _ _ _ _ _=>.p .undef) R)
  (fun q _ e R=>RT.rec (motive:=fun _=>AV) (.p .undef) (fun _=>.p .undef) (fun a b c d _ _ _ _=>Q4.rec (motive:=fun _=>AV) (e a) (e b) (e c) (e d) q) R) p
noncomputable def Dh(v:AV)(p:List Q4):RT->RT:=
 a8 (motive:=fun _=>RT->RT) (fun _=>.vl v)
  (fun q _ e R=>RT.rec (motive:=fun _=>RT)
   (Q4.rec (motive:=fun _=>RT) (.nd (e .lf) .lf .lf .lf) (.nd .lf (e .lf) .lf .lf) (.nd .lf .lf (e .lf) .lf) (.nd .lf .lf .lf (e .lf)) q)
   (fun _=>Q4.rec (motive:=fun _=>RT) (.nd (e .lf) .lf .lf .lf) (.nd .lf (e .lf) .lf .lf) (.nd .lf .lf (e .lf) .lf) (.nd .lf .lf .lf (e .lf)) q)
   (fun a b c d _ _ _ _=>Q4.rec (motive:=fun _=>RT) (.nd (e a) b c d) (.nd a (e b) c d) (.nd a b (e c) d) (.nd a b c (e d)) q) R) p
noncomputable def jw(k:Nat)(R:RT)(n:Nat):AV:=bif a9 (n+1) (4^k)then u9 (pathOf k n) R else .p .undef
noncomputable def vG(k:Nat)(R:RT)(n:Nat)(v:AV):RT:=Dh v (pathOf k n) R
theorem I0:∀(p:List Q4),u9 p .lf=.p .undef
 |[]=>rfl
 |_::_=>rfl
theorem G9(v:AV):∀(p:List Q4)(R:RT),u9 p (Dh v p R)=v
 |[],_=>rfl
 |x::p,R=>by
  cases R<;>cases x<;>exact G9 v p _
theorem Gd(v:AV):∀(p q:List Q4)(R:RT),p.length=q.length->p≠q->u9 p (Dh v q R)=u9 p R
 |[],[],R,_,h=>(h rfl).elim
 |[],_::_,R,h,_=>by simp at h
 |_::_,[],R,h,_=>by simp at h
 |x::p,y::q,R,h,f=>by
  have g:=fun R(f:p≠q)=>Gd v p q R (by simpa using h) f;have i:=I0 p;cases R with
  |nd a b c d=>
   cases x<;>cases y<;>first
    |rfl
    |exact g _ (fun e=>f (by rw[e]))
  |_=>
   cases x<;>cases y<;>first
    |exact i
    |exact(g _ (fun e=>f (by rw[e]))).trans i
theorem zW:∀k n,(pathOf k n).length=k
 |0,_=>rfl
 |k+1,n=>by simp[pathOf,zW k]
theorem aAl{m n:Nat}(a:m<4)(b:n<4)(h:q4 m=q4 n):m=n:=by
 have hc:∀n,n<4->n=0\/n=1\/n=2\/n=3:=by omega
 rcases hc m a with rfl|rfl|rfl|rfl<;>rcases hc n b with rfl|rfl|rfl|rfl<;>simp[q4]at h<;>rfl
theorem Hd:∀(k m n:Nat),m<4^k->n<4^k->pathOf k m=pathOf k n->m=n
 |0,m,n,a,b,_=>by simp at a b;omega
 |k+1,m,n,a,b,h=>by
  simp only[pathOf,List.cons.injEq]at h;have c:=aAl (bk _ (by omega)) (bk _ (by omega)) h.1;have d:=Hd k (m/4) (n/4) (by rw[be]at a;omega) (by rw[be]at b;omega) h.2;omega
theorem Kr(k n:Nat):jw k .lf n=.p .undef:=by
 simp[jw,I0]
theorem Wc{a b:Nat}(h:a<=b):a9 a b=true:=Nat.ble_eq_true_of_le h
theorem KX{a b:Nat}(h:¬a<=b):a9 a b=false:=by
 cases c:a9 a b
 ·rfl
 ·exact(h (cO c)).elim
theorem AA(k:Nat)(R:RT)(d x:Nat)(v:AV)(h:d<4^k):jw k (vG k R d v) x=if x=d then v else jw k R x:=by
 unfold jw vG
 by_cases hx:x+1<=4^k
 ·simp only[Wc hx,cond_true]
  by_cases a:x=d
  ·subst a;rw[G9,if_pos rfl]
  ·rw[if_neg a,Gd _ _ _ _ (by rw[zW,zW]) (fun e=>a (Hd k x d (by omega) h e))]
 ·have:x≠d:=by omega
  simp only[KX hx,cond_false,this,if_false]
def Rel(k:Nat)(e:Env)(R:RT):Prop:=∀x,aK e x=jw k R x
noncomputable def ka(k:Nat)(d:Option Nat)(v:AV)(R:RT):Option RT:=
 match d with
 |none=>some R
 |some d=>bif a9 (d+1) (4^k)then some (vG k R d v)else none
theorem uq{k:Nat}{d:Option Nat}{v:AV}{R a:RT}{e:Env}(h:ka k d v R=some a)(b:Rel k e R):Rel k (put d v e) a:=by
 unfold ka at h
 split at h
 ·simp only[bo]at h;subst h;exact b
 ·simp only[ab,bl,bo]at h;obtain⟨c,rfl⟩:=h;intro x;rw[AA _ _ _ _ _ (by have:=cO c;omega)];simp only[put,aK]
  split
  ·rfl
  ·exact b x
noncomputable def jo(k:Nat)(R:RT):ao->AV
 | .tmp t=>jw k R t
 | .const v=>.p (ofConst v)
 | .global g=>.p (Gl.g g)
 | .func f=>.p (.func f [] [])
theorem yp{k:Nat}{R:RT}{e:Env}(a:Rel k e R):jo k R=ev e:=by
 funext o;cases o<;>simp[jo,ev,a _]
def oX(H:Heap)(e:aR):Heap:=
 match e.aI,e.aP with
 |[],[]=>H
 |_,_=>ba H e.aI++e.aP
theorem Jd(H:Heap)(e:aR):oX H e=ba H e.aI++e.aP:=by
 unfold oX;split
 ·rename_i a b;simp[a,b,ba]
 ·rfl
structure jl where
 cP:ap->List AV->Heap->Option (AV×Heap)
 cD:ap->List AV->Heap->Option aR
 cY:Nat->Heap->List AV->Option (Heap×AV)
 cI:AV->Nat->Heap->Option Heap
 yX:Nat->List AV->Heap->Option aR
structure jx(P:ax)(B:jl):Prop where
 cP:∀f args H v H',B.cP f args H=some (v,H')->∀K:AV->Heap->Prop,K v H'->gB P false f args H K
 cD:∀f args H e,B.cD f args H=some e->∀K:aR->Prop,K e->gI P f args H K
 cY:∀b H args H' v,B.cY b H args=some (H',v)->fO P b H args H' v
 cI:∀it b H H',B.cI it b H=some H'->∀K:Heap->Prop,K H'->iK P it b H K
 yX:∀b args H e,B.yX b args H=some e->sG P b args H.length e/\oW H e
section
variable(P:ax)(ag:ap->Bool)(B:jl)(k:Nat)
noncomputable def vD(o:Oper)(R:RT)(H:Heap):Option (RT×Heap):=
 match o.op with
 | .call {callee:=.value f,args,.. }=>match(match jo k R f with
  | .p (.func g fi ca)=>B.cP g (fi.map .p++args.toList.map (jo k R)++ca.map .p) H
  | .func g fi ca=>B.cP g (fi++args.toList.map (jo k R)++ca) H
  | .map b=>match B.cY b H (args.toList.map (jo k R))with
   |some (H',v)=>some (v,H')
   |none=>none
  |_=>none)with
  |some (v,H')=>match ka k o.dst v R with
   |some a=>some (a,H')
   |none=>none
  |none=>none
 |_=>match zf P ag o (jo k R) H with
  |some e=>match ka k o.dst e.v R with
   |some a=>some (a,oX H e)
   |none=>none
  |none=>none
noncomputable def yn(a:Array Oper)(j:Nat)(R:RT):AV:=
 match(a[j]?).bind (·.dst)with
 |some d=>jw k R d
 |none=>.p (.aE [])
noncomputable def mK(b:Array Oper):List Oper->RT->Heap->Option (RT×Heap)
 |[],R,H=>some (R,H)
 |o::r,R,H=>match o.guard with
  |none=>match vD P ag B k o R H with
   |some (a,H')=>mK b r a H'
   |none=>none
  |some (j,want)=>match yn k b j R with
   | .p (.bool t)=>match t,want with
    |true,true|false,false=>match vD P ag B k o R H with
     |some (a,H')=>mK b r a H'
     |none=>none
    |_,_=>match ka k o.dst (.p (.aE [])) R with
     |some a=>mK b r a H
     |none=>none
   | .p (.aE [])=>match ka k o.dst (.p (.aE [])) R with
    |some a=>mK b r a H
    |none=>none
   |_=>none
noncomputable def vo(o:Oper)(R:RT)(H:Heap):Option aR:=
 match o.op with
 | .call {callee:=.value f,args,.. }=>match jo k R f with
  | .p (.func g fi ca)=>B.cD g (fi.map .p++args.toList.map (jo k R)++ca.map .p) H
  | .func g fi ca=>B.cD g (fi++args.toList.map (jo k R)++ca) H
  | .map b=>B.yX b (args.toList.map (jo k R)) H
  |_=>none
 |_=>zf P ag o (jo k R) H
noncomputable def my(b:Array Oper):List Oper->Nat->List Touch->RT->Heap->Option (RT×Heap)
 |[],_,acc,R,H=>bif jG b acc then some (R,H)else none
 |o::r,i,acc,R,H=>match o.guard with
  |none=>match vo P ag B k o R H with
   |some e=>match ka k o.dst e.v R with
    |some a=>my b r (i+1) (gC i H.length e acc) a (oX H e)
    |none=>none
   |none=>none
  |some (j,want)=>match yn k b j R with
   | .p (.bool t)=>match t,want with
    |true,true|false,false=>match vo P ag B k o R H with
     |some e=>match ka k o.dst e.v R with
      |some a=>my b r (i+1) (gC i H.length e acc) a (oX H e)
      |none=>none
     |none=>none
    |_,_=>match ka k o.dst (.p (.aE [])) R with
     |some a=>my b r (i+1) acc a H
     |none=>none
   | .p (.aE [])=>match ka k o.dst (.p (.aE [])) R with
    |some a=>my b r (i+1) acc a H
    |none=>none
   |_=>none
abbrev Out:=Option (bn×RT×Heap)
def u6(f:RT->Heap->Out):Nat->RT->Heap->Out
 |0,_,_=>none
 |n+1,R,H=>match f R H with
  |some (.normal,a,H')=>u6 f n a H'
  |r=>r
noncomputable def s9(k:Nat)(R:RT):Nat->Env
 |0=>[]
 |n+1=>(n,jw k R n)::s9 k R n
def U9:Nat:=100000
def yF(j:Option Code):Option bn:=
 match j with
 |none=>some .normal
 |some (.exit id)=>some (.exit id)
 |some .ret=>some .ret
 |_=>none
def Df(b:Nat)(R:RT)(H:Heap):Out:=
 match H[b]? with
 |some (.loop L)=>match L.st with
  | .busy=>none
  |_=>match yF L.pending with
   |some e=>some (e,R,H.set b (.loop {L with st:=.exhausted}))
   |none=>none
 |_=>none
noncomputable def gH(q:Cx):Code->RT->Heap->Out
 | .skip,R,H| .label _,R,H=>some (.normal,R,H)
 | .region _ ops draw,R,H=>bif draw then match my P ag B k ops ops.toList 0 [] R H with
   |some (d,H')=>some (.normal,d,H')
   |none=>none
  else match mK P ag B k ops ops.toList R H with
   |some (d,H')=>some (.normal,d,H')
   |none=>none
 | .seq a b,R,H=>match gH q a R H with
  |some (.normal,d,H')=>gH q b d H'
  |r=>r
 | .cond c a b,R,H=>match jo k R c with
  | .p (.bool t)=>match t with
   |true=>gH q a R H
   |false=>gH q b R H
  |_=>none
 | .block id b,R,H=>match gH q b R H with
  |some (.exit i,d,H')=>bif bi i id then some (.normal,d,H')else some (.exit i,d,H')
  |r=>r
 | .scope b,R,H=>gH q b R H
 | .loop b,R,H=>u6 (fun R H=>gH q b R H) U9 R H
 | .rangeFunc f e a b,R,H=>bif a9 q.2 H.length&&a9 q.1 (4^k)then match B.cI (jo k R f) H.length (H++[.loop ⟨.ready,none,q.1,e.toList,a,b,s9 k R (4^k)⟩])with
   |some H'=>Df H.length R H'
   |none=>none
  else none
 | .exit id,R,H=>some (.exit id,R,H)
 | .ret,R,H=>some (.ret,R,H)
 |_,_,_=>none
end
section
variable{P:ax}{ag:ap->Bool}{B:jl}{k:Nat}
theorem Im(e:aR)(dst:Option Tmp)(env:Env)(H:Heap):e.app dst ⟨env,H⟩=⟨put dst e.v env,oX H e⟩:=by
 simp[aR.app,Jd]
theorem azz(b:jx P B){o:Oper}{R i:RT}{H H':Heap}{env:Env}(h:vD P ag B k o R H=some (i,H'))(g:Rel k env R):
 ∃j,Rel k j i/\∀K:St->Prop,K ⟨j,H'⟩->jf P ag false o K ⟨env,H⟩:=by
 unfold vD at h;unfold jf;rw[yp g]at h
 split at h
 ·rename_i f args n c
  split at h
  case h_2=>simp at h
  rename_i v l hc
  split at h
  case h_2=>simp at h
  rename_i m d;simp only[bo,bv]at h;obtain⟨rfl,rfl⟩:=h;refine⟨_,uq d g,fun K a=>?_⟩;simp only[c]
  split at hc
  ·rename_i hf;simp only[hf];exact b.cP _ _ _ _ _ hc _ a
  ·rename_i hf;simp only[hf];exact b.cP _ _ _ _ _ hc _ a
  ·rename_i hf
   split at hc
   ·rename_i l s r;simp only[bo,bv]at hc;obtain⟨rfl,rfl⟩:=hc;simp only[hf];exact⟨_,_,b.cY _ _ _ _ _ r,a⟩
   ·simp at hc
  ·simp at hc
 ·rename_i q
  split at h
  case h_2=>simp at h
  rename_i e p
  split at h
  case h_2=>simp at h
  rename_i m d;simp only[bo,bv]at h;obtain⟨rfl,rfl⟩:=h;refine⟨_,uq d g,fun K a=>?_⟩
  split
  ·rename_i f args n c;exact(q _ _ _ c).elim
  ·exact LL p (by rw[Im];exact a)
theorem Io{a:Array Oper}{j:Nat}{R:RT}{env:Env}(b:Rel k env R):yn k a j R=guardOf a j env:=by
 unfold yn guardOf;split
 ·rename_i h;simp only[h];exact(b _).symm
 ·rename_i h;simp only[h]
theorem BM(f:jx P B){c:Array Oper}:∀{l:List Oper}{R a:RT}{H H':Heap}{env:Env},mK P ag B k c l R H=some (a,H')->Rel k env R->
 ∃b,Rel k b a/\∀K:St->Prop,K ⟨b,H'⟩->gD P ag false c l K ⟨env,H⟩
 |[],R,a,H,H',env,h,d=>by
  simp only[mK,bo,bv]at h;obtain⟨rfl,rfl⟩:=h;exact⟨env,d,fun K g=>g⟩
 |o::l,R,a,H,H',env,h,d=>by
  have run:(match vD P ag B k o R H with
    |some (a,H')=>mK P ag B k c l a H'
    |none=>none)=some (a,H')->∃b,Rel k b a/\∀K:St->Prop,K ⟨b,H'⟩->jf P ag false o (gD P ag false c l K) ⟨env,H⟩:=by
   intro h
   split at h
   case h_2=>simp at h
   rename_i n H1 e;obtain⟨w,q,a2⟩:=azz f e d;obtain⟨u,r,s⟩:=BM f h q;exact⟨u,r,fun K g=>a2 _ (s K g)⟩
  have skip:(match ka k o.dst (.p (.aE [])) R with
    |some a=>mK P ag B k c l a H
    |none=>none)=some (a,H')->∃b,Rel k b a/\∀K:St->Prop,K ⟨b,H'⟩->gD P ag false c l K ⟨put o.dst (.p (.aE [])) env,H⟩:=by
   intro h
   split at h
   case h_2=>simp at h
   rename_i n e;exact BM f h (uq e d)
  simp only[mK]at h;simp only[gD]
  split at h
  ·rename_i i;simp only[i];exact run h
  ·rename_i j v i;simp only[i];rw[Io d]at h
   split at h
   ·rename_i t m;simp only[m];cases t<;>cases v
    ·simpa using run h
    ·simpa using skip h
    ·simpa using skip h
    ·simpa using run h
   ·rename_i m;simp only[m];exact skip h
   ·simp at h
theorem XC(b:jx P B){o:Oper}{R:RT}{H:Heap}{e:aR}{env:Env}(h:vo P ag B k o R H=some e)(l:Rel k env R)(K:aR->Prop)(a:K e):iT P ag o ⟨env,H⟩ K:=by
 unfold vo at h;unfold iT;rw[yp l]at h
 split at h
 ·rename_i f args d c;simp only[c]
  split at h
  ·rename_i hf;simp only[hf];exact b.cD _ _ _ _ h _ a
  ·rename_i hf;simp only[hf];exact b.cD _ _ _ _ h _ a
  ·rename_i hf;simp only[hf];obtain⟨g,i⟩:=b.yX _ _ _ _ h;exact⟨e,g,i,a⟩
  ·simp at h
 ·rename_i j
  split
  ·rename_i f args d c;exact(j _ _ _ c).elim
  ·exact LL h a
theorem Bh(m:jx P B){f:Array Oper}:∀{l:List Oper}{i:Nat}{b:List Touch}{R a:RT}{H H':Heap}{env:Env},my P ag B k f l i b R H=some (a,H')->Rel k env R->
 ∃c,Rel k c a/\∀K:St->Prop,K ⟨c,H'⟩->fM P ag f l i b K ⟨env,H⟩
 |[],i,b,R,a,H,H',env,h,d=>by
  simp only[my,ab,bl,bo,bv]at h;obtain⟨g,rfl,rfl⟩:=h;exact⟨env,d,fun K n=>⟨g,n⟩⟩
 |o::l,i,b,R,a,H,H',env,h,d=>by
  have run:(match vo P ag B k o R H with
    |some e=>match ka k o.dst e.v R with
     |some a=>my P ag B k f l (i+1) (gC i H.length e b) a (oX H e)
     |none=>none
    |none=>none)=some (a,H')->∃c,Rel k c a/\∀K:St->Prop,K ⟨c,H'⟩->iT P ag o ⟨env,H⟩ (fun e=>fM P ag f l (i+1) (gC i H.length e b) K (e.app o.dst ⟨env,H⟩)):=by
   intro h
   split at h
   case h_2=>simp at h
   rename_i e y
   split at h
   case h_2=>simp at h
   rename_i s g;obtain⟨x,u,w⟩:=Bh m h (uq g d);exact⟨x,u,fun K n=>XC m y d _ (by rw[Im];exact w K n)⟩
  have skip:(match ka k o.dst (.p (.aE [])) R with
    |some a=>my P ag B k f l (i+1) b a H
    |none=>none)=some (a,H')->∃c,Rel k c a/\∀K:St->Prop,K ⟨c,H'⟩->fM P ag f l (i+1) b K ⟨put o.dst (.p (.aE [])) env,H⟩:=by
   intro h
   split at h
   case h_2=>simp at h
   rename_i s g;exact Bh m h (uq g d)
  simp only[my]at h;simp only[fM]
  split at h
  ·rename_i q;simp only[q];exact run h
  ·rename_i j z q;simp only[q];rw[Io d]at h
   split at h
   ·rename_i t r;simp only[r];cases t<;>cases z
    ·simpa using run h
    ·simpa using skip h
    ·simpa using skip h
    ·simpa using run h
   ·rename_i r;simp only[r];exact skip h
   ·simp at h
theorem Jj(R:RT):∀(n:Nat),∀x,aK (s9 k R n) x=if x<n then jw k R x else .p .undef
 |0,x=>by simp[s9,aK]
 |n+1,x=>by
  simp only[s9,aK,Jj R n]
  by_cases h:x=n
  ·subst h;simp
  ·simp only[h,if_false]
   by_cases a:x<n
   ·simp[a,Nat.lt_succ_of_lt a]
   ·have:¬x<n+1:=by omega
    simp[a,this]
theorem Vn(k:Nat)(R:RT)(n:Nat)(h:4^k<=n):jw k R n=.p .undef:=by
 unfold jw;rw[KX (by omega)];rfl
theorem XF{R:RT}{env:Env}(a:Rel k env R):∀x,aK (s9 k R (4^k)) x=aK env x:=by
 intro x;rw[Jj,a]
 split
 ·rfl
 ·rw[Vn k R x (by omega)]
theorem Vf{j:Option Code}{e:bn}(h:yF j=some e)(Q:bn->St->Prop)(s:St)(hq:Q e s):jd Q j s:=by
 unfold yF at h;unfold jd
 split at h<;>simp at h<;>subst h<;>exact hq
theorem VC{b:Nat}{R a:RT}{H H':Heap}{e:bn}{env:Env}(h:Df b R H=some (e,a,H')):a=R/\∀Q:bn->St->Prop,Q e ⟨env,H'⟩->gQ b env Q H:=by
 unfold Df at h
 split at h
 case h_2=>simp at h
 rename_i L c
 have go:(match yF L.pending with
   |some e=>some (e,R,H.set b (.loop {L with st:=.exhausted}))
   |none=>none)=some (e,a,H')->L.st≠.busy->a=R/\∀Q:bn->St->Prop,Q e ⟨env,H'⟩->gQ b env Q H:=by
  intro h aF
  split at h
  case h_2=>simp at h
  rename_i e' d;simp only[bo,bv]at h;obtain⟨rfl,rfl,rfl⟩:=h;exact⟨rfl,fun Q hq=>by unfold gQ;simp only[c];exact⟨aF,Vf d Q _ hq⟩⟩
 split at h
 ·simp at h
 ·rename_i aF;exact go h aF
theorem TC{q:Cx}{b:Code}{Q:bn->St->Prop}{s s':St}(f:∀c:bn->St->Prop,c .normal s'->bV P ag q b c s)(d:bV P ag q (.loop b) Q s'):bV P ag q (.loop b) Q s:=by
 simp only[bV]at d⊢;obtain⟨I,⟨a,t0,hf,hI⟩,g⟩:=d;refine⟨fun n t=>I n t\/(n=a+1/\t=s),⟨a+1,s,.inl rfl,.inr ⟨rfl,rfl⟩⟩,?_⟩;rintro n t (h|⟨rfl,rfl⟩)
 ·obtain⟨e,u,k1,k2⟩:=mU b t _ (g n t h);refine k2 _ ?_;cases e with
  |normal=>
   obtain⟨m,i,g1,g2,g3⟩:=k1;exact⟨m,i,g1,g2,.inl g3⟩
  |exit id=>exact k1
  |ret=>exact k1
 ·exact f _ ⟨a,t0,Nat.lt_succ_self _,hf,.inl hI⟩
theorem TA{q:Cx}{b:Code}{Q:bn->St->Prop}{s s':St}{e:bn}(f:e≠.normal)(d:∀a:bn->St->Prop,a e s'->bV P ag q b a s)(c:Q e s'):bV P ag q (.loop b) Q s:=by
 simp only[bV];refine⟨fun n t=>n=0/\t=s,⟨0,s,.inl rfl,rfl,rfl⟩,?_⟩;rintro n t ⟨rfl,rfl⟩;refine d _ ?_;cases e with
 |normal=>exact(f rfl).elim
 |exit id=>exact c
 |ret=>exact c
theorem JF{q:Cx}{b:Code}{f:RT->Heap->Out}(hf:∀{R a:RT}{H H':Heap}{e:bn}{env:Env},f R H=some (e,a,H')->Rel k env R->∃c,Rel k c a/\∀Q:bn->St->Prop,Q e ⟨c,H'⟩->bV P ag q b Q ⟨env,H⟩):
 ∀(n:Nat){R a:RT}{H H':Heap}{e:bn}{env:Env},u6 f n R H=some (e,a,H')->Rel k env R->∃c,Rel k c a/\∀Q:bn->St->Prop,Q e ⟨c,H'⟩->bV P ag q (.loop b) Q ⟨env,H⟩
 |0,R,a,H,H',e,env,h,g=>by simp[u6]at h
 |n+1,R,a,H,H',e,env,h,g=>by
  simp only[u6]at h
  split at h
  ·rename_i r H1 o;obtain⟨i,d,a2⟩:=hf o g;obtain⟨m,j,l⟩:=JF hf n h d;exact⟨m,j,fun Q hq=>TC a2 (l Q hq)⟩
  ·rename_i p;obtain⟨i,d,a2⟩:=hf h g;refine⟨i,d,fun Q hq=>TA ?_ a2 hq⟩;rintro rfl;exact p _ _ h
theorem kt(m:jx P B){q:Cx}:∀{c:Code}{R l:RT}{H H':Heap}{e:bn}{env:Env},gH P ag B k q c R H=some (e,l,H')->Rel k env R->
 ∃r,Rel k r l/\∀Q:bn->St->Prop,Q e ⟨r,H'⟩->bV P ag q c Q ⟨env,H⟩
 | .skip,R,l,H,H',e,env,h,d| .label _,R,l,H,H',e,env,h,d| .exit _,R,l,H,H',e,env,h,d| .ret,R,l,H,H',e,env,h,d=>by
  simp only[gH,bo,bv]at h;obtain⟨rfl,rfl,rfl⟩:=h;exact⟨env,d,fun Q hq=>hq⟩
 | .region id ops draw,R,l,H,H',e,env,h,d=>by
  simp only[gH]at h;cases draw
  ·simp only[cond_false]at h
   split at h
   case h_2=>simp at h
   rename_i o H1 n;simp only[bo,bv]at h;obtain⟨rfl,rfl,rfl⟩:=h;obtain⟨j,g,a2⟩:=BM m n d;exact⟨j,g,fun Q hq=>by simp only[bV];exact a2 _ hq⟩
  ·simp only[cond_true]at h
   split at h
   case h_2=>simp at h
   rename_i o H1 n;simp only[bo,bv]at h;obtain⟨rfl,rfl,rfl⟩:=h;obtain⟨j,g,a2⟩:=Bh m n d;exact⟨j,g,fun Q hq=>by simp only[bV,if_true];exact a2 _ hq⟩
 | .seq a b,R,l,H,H',e,env,h,d=>by
  simp only[gH]at h
  split at h
  ·rename_i o H1 n;obtain⟨j,g,a2⟩:=kt m n d;obtain⟨w,u,v⟩:=kt m h g;exact⟨w,u,fun Q hq=>by simp only[bV];exact a2 _ (v Q hq)⟩
  ·rename_i p;obtain⟨j,g,a2⟩:=kt m h d;refine⟨j,g,fun Q hq=>by
    simp only[bV];refine a2 _ ?_;cases e with
    |normal=>exact(p _ _ h).elim
    |exit id=>exact hq
    |ret=>exact hq⟩
 | .cond c a b,R,l,H,H',e,env,h,d=>by
  simp only[gH,yp d]at h
  split at h
  case h_2=>simp at h
  rename_i t s;cases t
  ·obtain⟨j,g,a2⟩:=kt m h d;exact⟨j,g,fun Q hq=>by simp only[bV,s];exact a2 Q hq⟩
  ·obtain⟨j,g,a2⟩:=kt m h d;exact⟨j,g,fun Q hq=>by simp only[bV,s,if_true];exact a2 Q hq⟩
 | .block id b,R,l,H,H',e,env,h,d=>by
  simp only[gH]at h
  split at h
  ·rename_i i o H1 n;obtain⟨j,g,a2⟩:=kt m n d;cases hi:bi i id
   ·simp only[hi,cond_false,bo,bv]at h;obtain⟨rfl,rfl,rfl⟩:=h;refine⟨j,g,fun Q hq=>by
     simp only[bV];refine a2 _ ?_;have:i≠id:=fun e=>by subst e;simp[Nat.beq_refl]at hi
     simp only[this,if_false];exact hq⟩
   ·simp only[hi,cond_true,bo,bv]at h;obtain⟨rfl,rfl,rfl⟩:=h;refine⟨j,g,fun Q hq=>by
     simp only[bV];refine a2 _ ?_;simp only[df hi,if_true];exact hq⟩
  ·rename_i p;obtain⟨j,g,a2⟩:=kt m h d;refine⟨j,g,fun Q hq=>by
    simp only[bV];refine a2 _ ?_;cases e with
    |normal=>exact hq
    |exit id=>exact(p _ _ _ h).elim
    |ret=>exact hq⟩
 | .scope b,R,l,H,H',e,env,h,d=>by
  simp only[gH]at h;obtain⟨j,g,a2⟩:=kt m h d;exact⟨j,g,fun Q hq=>by simp only[bV];exact a2 Q hq⟩
 | .loop b,R,l,H,H',e,env,h,d=>by
  simp only[gH]at h;exact JF (fun h d=>kt m h d) _ h d
 | .rangeFunc f z a b,R,l,H,H',e,env,h,d=>by
  simp only[gH,ab,bl,ac]at h;obtain⟨⟨n,y⟩,h⟩:=h
  split at h
  case h_2=>simp at h
  rename_i H1 hI;obtain⟨rfl,x⟩:=VC (env:=env) h;refine⟨env,d,fun Q hq=>?_⟩;simp only[bV];rw[yp d]at hI;exact⟨cO n,_,XF d,m.cI _ _ _ _ hI _ (x Q hq)⟩
 | .goto _,_,_,_,_,_,_,h,_=>by simp[gH]at h
 | .refuse _,_,_,_,_,_,_,h,_=>by simp[gH]at h
end
def qX(n:Nat):Nat:=
 match a9 n 16,a9 n 64,a9 n 256,a9 n 1024 with
 |true,_,_,_=>2
 |_,true,_,_=>3
 |_,_,true,_=>4
 |_,_,_,true=>5
 |_,_,_,_=>6
noncomputable def u4(k:Nat):Nat->List AV->RT
 |_,[]=>.lf
 |i,v::r=>vG k (u4 k (i+1) r) i v
theorem JQ(k:Nat):∀(l:List AV)(i:Nat),i+l.length<=4^k->Rel k (iq i l) (u4 k i l)
 |[],i,_=>fun x=>by simp[iq,u4,aK,Kr]
 |v::r,i,h=>fun x=>by
  simp only[List.length_cons]at h;rw[u4,AA _ _ _ _ _ (by omega)];simp only[iq,aK]
  split
  ·rfl
  ·exact JQ k r (i+1) (by omega) x
noncomputable def vp(k:Nat):Env->Option RT
 |[]=>some .lf
 |(x,v)::r=>match vp k r with
  |some R=>bif a9 (x+1) (4^k)then some (vG k R x v)else none
  |none=>none
theorem Ji(k:Nat):∀{e:Env}{R:RT},vp k e=some R->Rel k e R
 |[],R,h=>by
  simp only[vp,bo]at h;subst h;intro x;simp[aK,Kr]
 |(y,v)::r,R,h=>by
  simp only[vp]at h
  split at h
  case h_2=>simp at h
  rename_i c a;simp only[ab,bl,bo]at h;obtain⟨b,rfl⟩:=h;intro x;rw[AA _ _ _ _ _ (by have:=cO b;omega)];simp only[aK]
  split
  ·rfl
  ·exact Ji k a x
noncomputable def zk(P:ax)(k:Nat)(R:RT)(H:Heap):List ay->Option (List AV)
 |[]=>some []
 |r::rs=>match(match r with
  | .tmp t=>some (jw k R t)
  | .cell a T=>match jw k R a with
   | .ptr b path=>match H[b]? with
    |some (.box _ t)=>match eB t path with
     |some v=>bif sE (kindOf P T) (ad v)then some v else none
     |none=>none
    |_=>none
   |_=>none),zk P k R H rs with
  |some v,some vs=>some (v::vs)
  |_,_=>none
theorem Ks{P:ax}{k:Nat}{R:RT}{H:Heap}{env:Env}(d:Rel k env R):∀{e:List ay}{vs:List AV},zk P k R H e=some vs->fg P ⟨env,H⟩ e=some vs
 |[],vs,h=>h
 |r::e,vs,h=>by
  simp only[zk]at h
  split at h
  case h_2=>simp at h
  rename_i v o c f;simp only[bo]at h;subst h;have g:oP P ⟨env,H⟩ r=some v:=by
   cases r with
   |tmp t=>simp only[oP];rw[d];exact c
   |cell a T=>
    simp only[oP];dsimp only at c;rw[<-d]at c
    split at c
    case h_2=>simp at c
    rename_i b n j
    split at c
    case h_2=>simp at c
    rename_i fz t l
    split at c
    case h_2=>simp at c
    rename_i u m;simp only[ab,bl,bo]at c;obtain⟨i,rfl⟩:=c;rw[j];simp only[l,m,(ir i).1,if_true]
  simp only[fg,g,Ks d f]
section
variable(P:ax)(ag:ap->Bool)
noncomputable def yJ(B:jl)(fn:Func)(args:List AV)(N:Nat)(H:Heap):Option (AV×Heap):=
 bif a9 args.length fn.ntmps&&a9 fn.ntmps (4^qX fn.ntmps)then
  match gH P ag B (qX fn.ntmps) (fn.ntmps,N) (fn.body.getD .skip) (u4 (qX fn.ntmps) 0 args) H with
  |some (.exit _,_,_)=>none
  |some (_,R,H')=>match zk P (qX fn.ntmps) R H' fn.results.toList with
   |some vs=>some (oneOf vs,H')
   |none=>none
  |none=>none
 else none
structure lX where
 rk:ap->Option Func
 y7:ap->List PV->Option PV
 y8:ap->List AV->Heap->Option (AV×Heap)
 jv:ap->ap->Nat
 tf:ap->List AV->Heap->Option (List (Nat×Obj)×PV)
noncomputable def nN(pl:lX)(B:ap->jl)(f:ap)(vs:List PV):Option PV:=
 match pl.y7 f vs with
 |some v=>some v
 |none=>match pl.rk f with
  |some fn=>match yJ P ag (B f) fn (vs.map .p) 0 []with
   |some (v,H)=>dV H 9 v
   |none=>none
  |none=>none
noncomputable def nM(pl:lX)(B:ap->jl)(f:ap)(args:List AV)(H:Heap):Option (AV×Heap):=
 match pl.y8 f args H with
 |some r=>some r
 |none=>match pl.rk f with
  |some fn=>yJ P ag (B f) fn args H.length H
  |none=>none
noncomputable def yh(B:jl)(b:Nat)(H:Heap)(args:List AV):Option (Heap×AV):=
 match H[b]? with
 |some (.loop L)=>bif bi args.length L.params.length&&(L.params.all (fun x=>decide (x<L.n))&&codeOk fit L.n L.assign&&codeOk fit L.n L.body)then
  match vp (qX L.n) (qf L.params args L.env)with
  |some R=>match gH P ag B (qX L.n) (L.n,H.length) L.assign R H with
   |some (.normal,f,H1)=>match H1[b]? with
    |some (.loop c)=>match c.st with
     | .ready=>match gH P ag B (qX L.n) (L.n,H.length) L.body f (H1.set b (.loop {c with st:=.busy}))with
      |some (e,_,a)=>match a[b]? with
       |some (.loop d)=>some (a.set b (.loop {d with st:=if(gA e).isNone then .ready else .done,pending:=gA e}),.p (.bool (gA e).isNone))
       |_=>none
      |none=>none
     |_=>none
    |_=>none
   |_=>none
  |none=>none
  else none
 |_=>none
noncomputable def C3(pl:lX)(B:ap->jl)(it:AV)(b:Nat)(H:Heap):Option Heap:=
 match it with
 | .p (.func g fi ca)=>match nM P ag pl B g (fi.map .p++[.map b]++ca.map .p) H with
  |some (_,H')=>some H'
  |none=>none
 | .func g fi ca=>match nM P ag pl B g (fi++[.map b]++ca) H with
  |some (_,H')=>some H'
  |none=>none
 |_=>none
noncomputable def CI(pl:lX)(B:ap->jl)(c f:ap)(args:List AV)(H:Heap):Option (AV×Heap):=
 match pl.tf f args H with
 |some (_,v)=>some (.p v,H)
 |none=>match pl.jv c f with
 |0=>match ez args with
  |some vs=>match nN P ag pl B f vs with
   |some v=>some (.p v,H)
   |none=>none
  |none=>nM P ag pl B f args H
 |1=>nM P ag pl B f args H
 |3=>match u3 (nM P ag pl B f) args H with
  |some e=>some (e.v,oX H e)
  |none=>none
 |_=>match mL H args with
  |some (vs,H1)=>match nN P ag pl B f vs with
   |some v=>some (.p v,H1)
   |none=>none
  |none=>none
noncomputable def CH(pl:lX)(B:ap->jl)(c f:ap)(args:List AV)(H:Heap):Option aR:=
 match pl.tf f args H with
 |some (aj,v)=>some {v:=.p v,aj}
 |none=>match pl.jv c f with
 |3=>u3 (nM P ag pl B f) args H
 |_=>match ez args with
 |some vs=>match nN P ag pl B f vs with
  |some v=>some {v:=.p v}
  |none=>none
 |none=>match nF H args with
  |some (vs,bs)=>match kx H bs with
   |some (aj,aI)=>match nN P ag pl B f vs with
    |some v=>some {v:=.p v,aj,aI}
    |none=>none
   |none=>none
  |none=>u3 (nM P ag pl B f) args H
def sr:jl:=⟨fun _ _ _=>none,fun _ _ _=>none,fun _ _ _=>none,fun _ _ _=>none,fun _ _ _=>none⟩
noncomputable def jm(pl:lX):Nat->ap->jl
 |0,_=>sr
 |n+1,c=>⟨CI P ag pl (jm pl n) c,CH P ag pl (jm pl n) c,yh P ag (jm pl n c),C3 P ag pl (jm pl n),BH (yh P ag (jm pl n c))⟩
end
structure mq(P:ax)(pl:lX):Prop where
 mix:P.follows .mixedOrders=true
 rk:∀f fn,pl.rk f=some fn->al P f fn
 y7:∀f vs v,pl.y7 f vs=some v->az P f vs v
 y8:∀f args H v H',pl.y8 f args H=some (v,H')->cw P f H args H' v
 tf:∀f args H aj v,pl.tf f args H=some (aj,v)->Cr P f args aj v/\∀p∈aj,H[p.1]?=some p.2
section
variable{P:ax}{ag:ap->Bool}{B1:jl}{B:ap->jl}{pl:lX}
theorem Ja(f:jx P B1){fn:Func}{args:List AV}{N:Nat}{H H':Heap}{v:AV}(h:yJ P ag B1 fn args N H=some (v,H')):
 args.length<=fn.ntmps/\∃e a vs,(match e with
  |bn.exit _=>False
  |_=>True)/\fg P ⟨a,H'⟩ fn.results.toList=some vs/\oneOf vs=v/\∀Q:bn->St->Prop,Q e ⟨a,H'⟩->bV P ag (fn.ntmps,N) (fn.body.getD .skip) Q ⟨iq 0 args,H⟩:=by
 unfold yJ at h;simp only[ab,bl,ac]at h;obtain⟨⟨b,c⟩,h⟩:=h;have b:=cO b;have c:=cO c;refine⟨b,?_⟩
 split at h
 ·simp at h
 ·rename_i e R k g hc
  split at h
  case h_2=>simp at h
  rename_i vs j;simp only[bo,bv]at h;obtain⟨rfl,rfl⟩:=h;obtain⟨a,d,a2⟩:=kt f hc (JQ _ args 0 (by omega));refine⟨e,a,vs,?_,Ks d j,rfl,a2⟩;cases e with
  |exit i=>exact g i rfl
  |_=>trivial
 ·simp at h
theorem ux(a:mq P pl)(j:∀c,jx P (B c)){f:ap}{vs:List PV}{v:PV}(h:nN P ag pl B f vs=some v):az P f vs v:=by
 unfold nN at h
 split at h
 ·rename_i v' hk;simp only[bo]at h;subst h;exact a.y7 _ _ _ hk
 ·split at h
  case h_2=>simp at h
  rename_i fn hf
  split at h
  case h_2=>simp at h
  rename_i v' H' k;obtain⟨b,e,m,l,d,g,rfl,i⟩:=Ja (j _) k;exact y6 ag (a.rk _ _ hf) a.mix (by simpa using b) (i _ ⟨d,l,g,h⟩)
theorem pQ(a:mq P pl)(j:∀c,jx P (B c)){f:ap}{args:List AV}{H H':Heap}{v:AV}(h:nM P ag pl B f args H=some (v,H')):cw P f H args H' v:=by
 unfold nM at h
 split at h
 ·rename_i r hk;simp only[bo]at h;subst h;exact a.y8 _ _ _ _ _ hk
 ·split at h
  case h_2=>simp at h
  rename_i fn hf;obtain⟨b,e,l,k,d,g,rfl,i⟩:=Ja (j _) h;exact Nb ag (a.rk _ _ hf) a.mix b (i _ ⟨d,k,g,rfl,.inl rfl⟩)
theorem Ij{args:List AV}{vs:List PV}(h:ez args=some vs):args=vs.map .p:=lB h
theorem V1(b:mq P pl)(d:∀c,jx P (B c)){c f:ap}{args:List AV}{H H':Heap}{v:AV}(h:CI P ag pl B c f args H=some (v,H'))(K:AV->Heap->Prop)(a:K v H'):gB P false f args H K:=by
 unfold CI at h
 split at h
 ·rename_i aj v' hx;simp only[bo,bv]at h;obtain⟨rfl,rfl⟩:=h;obtain⟨i,j⟩:=b.tf _ _ _ _ _ hx;exact .inr ⟨rfl,.inr (.inr (.inr ⟨aj,v',i,j,a⟩))⟩
 split at h
 ·split at h
  ·rename_i vs m
   split at h
   case h_2=>simp at h
   rename_i v' g;simp only[bo,bv]at h;obtain⟨rfl,rfl⟩:=h;exact .inl ⟨vs,v',Ij m,ux b d g,a⟩
  ·exact .inr ⟨rfl,.inr (.inl ⟨H',v,pQ b d h,a⟩)⟩
 ·exact .inr ⟨rfl,.inr (.inl ⟨H',v,pQ b d h,a⟩)⟩
 ·split at h
  case h_2=>simp at h
  rename_i e k;simp only[bo,bv]at h;obtain⟨rfl,rfl⟩:=h;obtain⟨i,j⟩:=AW (fun args H v H' g=>pQ b d g) k;exact .inr ⟨rfl,.inr (.inr (.inl ⟨e,i,j,by rw[<-Jd];exact a⟩))⟩
 ·split at h
  case h_2=>simp at h
  rename_i vs H1 l
  split at h
  case h_2=>simp at h
  rename_i v' g;simp only[bo,bv]at h;obtain⟨rfl,rfl⟩:=h;exact .inr ⟨rfl,.inl ⟨vs,H1,v',l,ux b d g,a⟩⟩
theorem V3(i:mq P pl)(j:∀c,jx P (B c)){c f:ap}{args:List AV}{H:Heap}{e:aR}(h:CH P ag pl B c f args H=some e)(K:aR->Prop)(g:K e):gI P f args H K:=by
 unfold CH at h
 split at h
 ·rename_i aj v' hx;simp only[bo]at h;subst h;obtain⟨b,d⟩:=i.tf _ _ _ _ _ hx;exact .inr (.inr (.inr ⟨aj,v',b,d,g⟩))
 split at h
 ·obtain⟨b,d⟩:=AW (fun args H v H' a=>pQ i j a) h;exact .inr (.inr (.inl ⟨e,b,d,g⟩))
 split at h
 ·rename_i vs m
  split at h
  case h_2=>simp at h
  rename_i v' a;simp only[bo]at h;subst h;exact .inl ⟨vs,v',Ij m,ux i j a,g⟩
 ·split at h
  case h_2=>
   obtain⟨b,d⟩:=AW (fun args H v H' a=>pQ i j a) h;exact .inr (.inr (.inl ⟨e,b,d,g⟩))
  rename_i vs bs l
  split at h
  case h_2=>simp at h
  rename_i aj aI k
  split at h
  case h_2=>simp at h
  rename_i v' a;simp only[bo]at h;subst h;exact .inr (.inl ⟨vs,bs,aj,aI,v',l,k,ux i j a,g⟩)
theorem HY(o:mq P pl)(a:jx P B1){b:Nat}{H H':Heap}{args:List AV}{v:AV}(h:yh P ag B1 b H args=some (H',v)):fO P b H args H' v:=by
 unfold yh at h
 split at h
 case h_2=>simp at h
 rename_i L i;simp only[ab,bl,ac]at h;obtain⟨⟨f,g⟩,h⟩:=h
 split at h
 case h_2=>simp at h
 rename_i R l
 split at h
 case h_2=>simp at h
 rename_i s H1 m
 split at h
 case h_2=>simp at h
 rename_i q j
 split at h
 case h_2=>simp at h
 rename_i aF
 split at h
 case h_2=>simp at h
 rename_i e t p n
 split at h
 case h_2=>simp at h
 rename_i r k;simp only[bo,bv]at h;obtain⟨rfl,rfl⟩:=h;obtain⟨w,c,a2⟩:=kt a m (Ji _ l);obtain⟨x,u,d⟩:=kt a n c;refine Nc ag o.mix i (df f) (by simpa only[ac]using g) ?_;unfold xD;refine a2 _ ?_;simp only[wL,j];refine⟨aF,d _ ?_⟩;simp only[rU,k];exact⟨trivial,.inl rfl⟩
theorem Vg(g:mq P pl)(e:∀c,jx P (B c)){it:AV}{b:Nat}{H H':Heap}(h:C3 P ag pl B it b H=some H')(K:Heap->Prop)(f:K H'):iK P it b H K:=by
 unfold C3 at h
 split at h
 ·split at h
  case h_2=>simp at h
  rename_i v a d;simp only[bo]at h;subst h;exact⟨a,v,pQ g e d,f⟩
 ·split at h
  case h_2=>simp at h
  rename_i v a d;simp only[bo]at h;subst h;exact⟨a,v,pQ g e d,f⟩
 ·simp at h
theorem rR(a:mq P pl):∀n c,jx P (jm P ag pl n c)
 |0,_=>⟨fun _ _ _ _ _ h=>by simp[jm,sr]at h,fun _ _ _ _ h=>by simp[jm,sr]at h,fun _ _ _ _ _ h=>by simp[jm,sr]at h,fun _ _ _ _ h=>by simp[jm,sr]at h,fun _ _ _ _ h=>by simp[jm,sr]at h⟩
 |n+1,c=>⟨fun _ _ _ _ _ h=>V1 a (rR a n) h,fun _ _ _ _ h=>V3 a (rR a n) h,fun _ _ _ _ _ h=>HY a (rR a n c) h,fun _ _ _ _ h=>Vg a (rR a n) h,fun _ _ _ _ h=>SM (fun _ _ _ _ _ b=>HY a (rR a n c) b) h⟩
theorem reckon{f:ap}{vs:List PV}{v:PV}(n:Nat)(a:mq P pl)(h:nN P ag pl (jm P ag pl n) f vs=some v):az P f vs v:=ux a (rR a n) h
end
section
variable{P:ax}{ag:ap->Bool}
theorem az.cR{f:ap}{args d:List PV}{v v':PV}(h:az P f args v)(g:bw d args)(i:Wk v v'):az P f d v':=by
 rcases h with h|h
 ·refine .inl ⟨h.1,fun w aa a j k c=>(h.2 w aa a j k (bp.cR _ _ _ g c)).mono ?_⟩;rintro e w' ⟨b,aD,k1,k2,k3,k4,k5,k6,l,k7⟩;exact⟨b,aD,k1,k2,k3,k4,k5,k6,l,aA.cR _ _ _ i k7⟩
 ·refine .inr fun w aa a c=>?_;obtain⟨b,k1,k2⟩:=h w aa a (bp.cR _ _ _ g c);exact⟨b,k1,aA.cR _ _ _ i k2⟩
def yN(P:ax)(a:List ay)(v:PV)(e:bn)(s:St):Prop:=
 (match e with
  | .exit _=>False
  |_=>True)/\∃vs,fg P s a=some vs/\∃v',dV s.heap 9 (oneOf vs)=some v'/\Wk v' v
theorem T0{a:List ay}{v:PV}{s:St}:yN P a v .ret s=∃vs,fg P s a=some vs/\∃v',dV s.heap 9 (oneOf vs)=some v'/\Wk v' v:=by simp[yN]
theorem RF{a:List ay}{v:PV}{s:St}:yN P a v .normal s=∃vs,fg P s a=some vs/\∃v',dV s.heap 9 (oneOf vs)=some v'/\Wk v' v:=by simp[yN]
theorem qM.cR{f:ap}{args a:List PV}{v v':PV}(h:qM P f args v)(j:bw a args)(k:Wk v v'):qM P f a v':=by
 refine⟨h.1,fun w aa b d g i=>(h.2 w aa b d g (bp.cR _ _ _ j i)).mono ?_⟩;rintro e w' ⟨c,aD,k1,k2,k3,k4,k5,k6,l,k7⟩;exact⟨c,aD,k1,k2,k3,k4,k5,k6,l,aA.cR _ _ _ k k7⟩
theorem Hf{dst:Option Tmp}{h:Nat}{pos:String}{af:Array Edge}{g:Option (Nat×Bool)}{env:Env}{heap:Heap}{L:St->Prop}{f:ap}{fi ca:Array ao}(hf:ag f=false):
 dc P ag ⟨dst,.makeFunc (.func f) fi ca,h,pos,af,g⟩ L ⟨env,heap⟩=aX (qx f (fi.toList.map (ev env)) (ca.toList.map (ev env))) (dT dst ⟨env,heap⟩ L):=by
 simp only[dc,jY,fc,hf,qx,am,if_false]
 split
 ·rename_i c d;simp only[c,d,aX,true_and]
 ·rename_i c
  split
  ·rename_i a b d e;exact(c a b d e).elim
  ·simp only[aX,true_and]
theorem GP{dst:Option Tmp}{h:Nat}{pos:String}{af:Array Edge}{g:Option (Nat×Bool)}{env:Env}{heap:Heap}{K:aR->Prop}{f:ap}{fi ca:Array ao}(hf:ag f=false):
 dd P ag ⟨dst,.makeFunc (.func f) fi ca,h,pos,af,g⟩ ⟨env,heap⟩ K=aX (qx f (fi.toList.map (ev env)) (ca.toList.map (ev env))) K:=by
 simp only[dd,jY,fc,hf,qx,am,if_false]
 split
 ·rename_i c d;simp only[c,d,aX,true_and]
 ·rename_i c
  split
  ·rename_i a b d e;exact(c a b d e).elim
  ·simp only[aX,true_and]
section guards
variable{ops:Array Oper}{o:Oper}{r:List Oper}{K:St->Prop}{want t:Bool}{s:St}{i:Nat}{acc:List Touch}
theorem GD:ym P ag ops o r K want s (.p (.bool t))=if t=want then dc P ag o (fF P ag ops r K) s else fF P ag ops r K ⟨put o.dst (.p (.aE [])) s.env,s.heap⟩:=(rfl)
theorem Hj:ym P ag ops o r K want s (.p (.aE []))=fF P ag ops r K ⟨put o.dst (.p (.aE [])) s.env,s.heap⟩:=(rfl)
theorem F2:xS P ag ops o r i acc K want s (.p (.bool t))=if t=want then dd P ag o s (vf P ag ops r i acc K o.dst s)else fN P ag ops r (i+1) acc K ⟨put o.dst (.p (.aE [])) s.env,s.heap⟩:=(rfl)
theorem GC:xS P ag ops o r i acc K want s (.p (.aE []))=fN P ag ops r (i+1) acc K ⟨put o.dst (.p (.aE [])) s.env,s.heap⟩:=(rfl)
theorem RD{l:List Oper}{j:Nat}{e:Env}:guardOf l.toArray j e=match(l[j]?).bind (·.dst)with
 |some d=>aK e d
 |none=>.p (.aE []):=by simp only[guardOf,List.getElem?_toArray];cases l[j]?.bind (·.dst)<;>rfl
end guards
section calls
variable{f:ap}{H H1:Heap}{K:AV->Heap->Prop}{L:aR->Prop}{v a b c d e a' b' c' d' e':PV}{dr:Bool}
theorem W5(h:az P f [] v)(hk:K (.p v) H):gB P dr f [] H K:=.inl ⟨[],v,rfl,h,hk⟩
theorem W6(h:az P f [a'] v)(hk:K (.p v) H)(b:Wk a a':=by first|exact Wk.refl _|simp[Wk,bw]):gB P dr f [.p a] H K:=.inl ⟨[a],v,rfl,h.cR (by simp only[bw];exact⟨b,trivial⟩) (Wk.refl _),hk⟩
theorem W7(h:az P f [a',b'] v)(hk:K (.p v) H)(c:Wk a a':=by first|exact Wk.refl _|simp[Wk,bw])(d:Wk b b':=by first|exact Wk.refl _|simp[Wk,bw]):gB P dr f [.p a,.p b] H K:=
 .inl ⟨[a,b],v,rfl,h.cR (by simp only[bw];exact⟨c,d,trivial⟩) (Wk.refl _),hk⟩
theorem W8(h:az P f [a',b',c'] v)(hk:K (.p v) H)(d:Wk a a':=by first|exact Wk.refl _|simp[Wk,bw])(e:Wk b b':=by first|exact Wk.refl _|simp[Wk,bw])(g:Wk c c':=by first|exact Wk.refl _|simp[Wk,bw]):gB P dr f [.p a,.p b,.p c] H K:=
 .inl ⟨[a,b,c],v,rfl,h.cR (by simp only[bw];exact⟨d,e,g,trivial⟩) (Wk.refl _),hk⟩
theorem W9(h:az P f [a',b',c',d'] v)(hk:K (.p v) H)(e:Wk a a':=by first|exact Wk.refl _|simp[Wk,bw])(g:Wk b b':=by first|exact Wk.refl _|simp[Wk,bw])(i:Wk c c':=by first|exact Wk.refl _|simp[Wk,bw])(j:Wk d d':=by first|exact Wk.refl _|simp[Wk,bw]):gB P dr f [.p a,.p b,.p c,.p d] H K:=
 .inl ⟨[a,b,c,d],v,rfl,h.cR (by simp only[bw];exact⟨e,g,i,j,trivial⟩) (Wk.refl _),hk⟩
theorem Xa(h:az P f [a',b',c',d',e'] v)(hk:K (.p v) H)(g:Wk a a':=by first|exact Wk.refl _|simp[Wk,bw])(i:Wk b b':=by first|exact Wk.refl _|simp[Wk,bw])(j:Wk c c':=by first|exact Wk.refl _|simp[Wk,bw])(k:Wk d d':=by first|exact Wk.refl _|simp[Wk,bw])(l:Wk e e':=by first|exact Wk.refl _|simp[Wk,bw]):gB P dr f [.p a,.p b,.p c,.p d,.p e] H K:=
 .inl ⟨[a,b,c,d,e],v,rfl,h.cR (by simp only[bw];exact⟨g,i,j,k,l,trivial⟩) (Wk.refl _),hk⟩
theorem WO(h:az P f [] v)(hk:L {v:=.p v}):gI P f [] H L:=.inl ⟨[],v,rfl,h,hk⟩
theorem WQ(h:az P f [a'] v)(hk:L {v:=.p v})(b:Wk a a':=by first|exact Wk.refl _|simp[Wk,bw]):gI P f [.p a] H L:=.inl ⟨[a],v,rfl,h.cR (by simp only[bw];exact⟨b,trivial⟩) (Wk.refl _),hk⟩
theorem WR(h:az P f [a',b'] v)(hk:L {v:=.p v})(c:Wk a a':=by first|exact Wk.refl _|simp[Wk,bw])(d:Wk b b':=by first|exact Wk.refl _|simp[Wk,bw]):gI P f [.p a,.p b] H L:=
 .inl ⟨[a,b],v,rfl,h.cR (by simp only[bw];exact⟨c,d,trivial⟩) (Wk.refl _),hk⟩
theorem WS(h:az P f [a',b',c'] v)(hk:L {v:=.p v})(d:Wk a a':=by first|exact Wk.refl _|simp[Wk,bw])(e:Wk b b':=by first|exact Wk.refl _|simp[Wk,bw])(g:Wk c c':=by first|exact Wk.refl _|simp[Wk,bw]):gI P f [.p a,.p b,.p c] H L:=
 .inl ⟨[a,b,c],v,rfl,h.cR (by simp only[bw];exact⟨d,e,g,trivial⟩) (Wk.refl _),hk⟩
theorem WT(h:az P f [a',b',c',d'] v)(hk:L {v:=.p v})(e:Wk a a':=by first|exact Wk.refl _|simp[Wk,bw])(g:Wk b b':=by first|exact Wk.refl _|simp[Wk,bw])(i:Wk c c':=by first|exact Wk.refl _|simp[Wk,bw])(j:Wk d d':=by first|exact Wk.refl _|simp[Wk,bw]):gI P f [.p a,.p b,.p c,.p d] H L:=
 .inl ⟨[a,b,c,d],v,rfl,h.cR (by simp only[bw];exact⟨e,g,i,j,trivial⟩) (Wk.refl _),hk⟩
theorem WU(h:az P f [a',b',c',d',e'] v)(hk:L {v:=.p v})(g:Wk a a':=by first|exact Wk.refl _|simp[Wk,bw])(i:Wk b b':=by first|exact Wk.refl _|simp[Wk,bw])(j:Wk c c':=by first|exact Wk.refl _|simp[Wk,bw])(k:Wk d d':=by first|exact Wk.refl _|simp[Wk,bw])(l:Wk e e':=by first|exact Wk.refl _|simp[Wk,bw]):gI P f [.p a,.p b,.p c,.p d,.p e] H L:=
 .inl ⟨[a,b,c,d,e],v,rfl,h.cR (by simp only[bw];exact⟨g,i,j,k,l,trivial⟩) (Wk.refl _),hk⟩
theorem Xb{args:List AV}{vs a:List PV}(h:az P f a v)(c:mL H args=some (vs,H1))(hk:K (.p v) H1)(b:bw vs a:=by first|exact bw.refl _|simp[Wk,bw]):gB P false f args H K:=
 .inr ⟨rfl,.inl ⟨vs,H1,v,c,h.cR b (Wk.refl _),hk⟩⟩
theorem WW{args:List AV}{vs a:List PV}{bs:List Nat}{aj aI:List (Nat×Obj)}(h:az P f a v)(c:nF H args=some (vs,bs))(hf:kx H bs=some (aj,aI))(hk:L {v:=.p v,aj,aI})(b:bw vs a:=by first|exact bw.refl _|simp[Wk,bw]):gI P f args H L:=
 .inr (.inl ⟨vs,bs,aj,aI,v,c,hf,h.cR b (Wk.refl _),hk⟩)
end calls
def KV(T:Heap)(a v:AV):Prop:=a=v\/Gh T a v
theorem Pf{T:Heap}{v:AV}:KV T v v=True:=by simp[KV]
theorem Pd{T:Heap}{b ar ai off len:Nat}:KV T (.p .aO) (.sl b ar ai off len)=(ar=0/\off=0/\len=0/\∃k z,T[b]?=some (.arr k 0 z [])/\k.gr=true):=by simp[KV,Gh,fy]
theorem Pg{T:Heap}{u u':av}{fs:List PV}{a:List AV}:KV T (.p (.st u fs)) (.st u' a)=(u=u'/\kf T fs a):=by simp[KV,Gh,fy]
def lE(T:Heap)(e:Env):Env->Prop
 |[]=>True
 |(x,v)::r=>KV T (aK e x) v/\lE T e r
def KO(T:Heap)(o:Obj):Obj->Prop
 | .hole=>True
 | .box false v'=>match o with
  | .box false v=>KV T v v'
  |_=>False
 | .arr k ar z es=>(o=.hole/\ar=0/\es=[]/\k.gr=true)\/o=.arr k ar z es
 |o'=>o=o'
def KN:Obj->Prop
 | .hole=>True
 | .arr k ar _ es=>ar=0/\es=[]/\k.gr=true
 |_=>False
def gE(T:Heap):Heap->Heap->Prop
 |_,[]=>True
 |[],o'::t=>KN o'/\gE T [] t
 |o::h,o'::t=>KO T o o'/\gE T h t
theorem lE.get{T:Heap}{e:Env}:∀{t:Env},lE T e t->∀x,aK t x=aK e x\/aK t x=.p .undef\/Gh T (aK e x) (aK t x)
 |[],_,x=>.inr (.inl rfl)
 |(y,v)::t,h,x=>by
  simp only[lE]at h;simp only[aK]
  split
  ·rename_i hx;subst hx;rcases h.1 with h|h
   ·exact .inl h.symm
   ·exact .inr (.inr h)
  ·exact lE.get h.2 x
theorem gE.get{T:Heap}:∀{h t:Heap},gE T h t->∀(b:Nat)(o:Obj),t[b]?=some o->
 o=.hole\/h[b]?=some o\/((h[b]?=none\/h[b]?=some .hole)/\∃k z,o=.arr k 0 z []/\k.gr=true)\/(∃v v',h[b]?=some (.box false v)/\o=.box false v'/\Gh T v v')
 |_,[],_,b,o,c=>by simp at c
 |[],o'::t,hk,b,o,c=>by
  simp only[gE]at hk;cases b with
  |zero=>
   simp at c;subst c;cases o'<;>have a:=hk.1<;>simp only[KN]at a
   ·exact .inl rfl
   ·obtain⟨rfl,rfl,d⟩:=a;exact .inr (.inr (.inl ⟨.inl rfl,_,_,rfl,d⟩))
  |succ b=>simpa using gE.get hk.2 b o (by simpa using c)
 |e::h,o'::t,hk,b,o,c=>by
  simp only[gE]at hk;cases b with
  |zero=>
   simp at c;subst c;have a:=hk.1;cases o' with
   |hole=>exact .inl rfl
   |dead=>simp only[KO]at a;subst a;exact .inr (.inl rfl)
   |map fz es=>simp only[KO]at a;subst a;exact .inr (.inl rfl)
   |de ks vs=>simp only[KO]at a;subst a;exact .inr (.inl rfl)
   |dh s p=>simp only[KO]at a;subst a;exact .inr (.inl rfl)
   |loop L=>simp only[KO]at a;subst a;exact .inr (.inl rfl)
   |arr k ar z es=>
    simp only[KO]at a;rcases a with⟨rfl,rfl,rfl,d⟩|rfl
    ·exact .inr (.inr (.inl ⟨.inr rfl,_,_,rfl,d⟩))
    ·exact .inr (.inl rfl)
   |box fz v'=>
    cases fz with
    |true=>simp only[KO]at a;subst a;exact .inr (.inl rfl)
    |false=>
     simp only[KO]at a
     split at a
     ·rcases a with rfl|a
      ·exact .inr (.inl rfl)
      ·exact .inr (.inr (.inr ⟨_,_,rfl,rfl,a⟩))
     ·exact a.elim
  |succ b=>simpa using gE.get hk.2 b o (by simpa using c)
theorem cJ.og{N:Nat}{s t:St}(e:t.heap.take N=s.heap.take N)(c:lE t.heap s.env t.env)(d:gE t.heap s.heap t.heap)(hr:gR t.heap t.env)(hr2:dx t.heap t.heap):cJ N s t:=by
 refine .inr ⟨⟨c.get,d.get,hr.get,hr2.get⟩,fun b a=>?_⟩;have:=congrArg (fun l:Heap=>l[b]?) e;simpa[List.getElem?_take,a]using this
theorem K1{T:Heap}{o:Obj}:KO T o o=True:=by
 cases o with
 |box fz v=>cases fz<;>simp[KO,KV]
 |_=>simp[KO]
theorem Pb{T:Heap}{o:Obj}:KO T o .hole=True:=by simp[KO]
theorem Pa{T:Heap}{v v':AV}:KO T (.box false v) (.box false v')=KV T v v':=(rfl)
theorem Pc{T:Heap}{k:AK}{ar z:Nat}{a:List AV}:KO T .hole (.arr k ar z a)=(ar=0/\a=[]/\k.gr=true):=by simp[KO]
theorem O9:KN .hole=True:=(rfl)
theorem O8{k:AK}{ar z:Nat}{a:List AV}:KN (.arr k ar z a)=(ar=0/\a=[]/\k.gr=true):=(rfl)
theorem Pe{T:Heap}{x y:PV}:KV T (.p x) (.p y)=(x=y):=by
 have:Gh T (.p x) (.p y)↔x=y:=by cases x<;>simp[Gh,fy,eq_comm]
 simp[KV,this]
def tD{α:Type}(N:Nat)(mk:α->St)(ok:α->Prop)(m:α->Nat)(n:Nat)(s:St):Prop:=∃a',m a'<n/\ok a'/\cJ N s (mk a')
def qy{α:Type}(N:Nat)(mk:α->St)(ok:α->Prop)(m:α->Nat)(n:Nat)(Q:bn->St->Prop)(e:bn)(s:St):Prop:=
 match e with
 | .normal=>tD N mk ok m n s
 |e=>Q e s
section
variable{α:Type}{N:Nat}{mk:α->St}{ok:α->Prop}{m:α->Nat}{n:Nat}{Q:bn->St->Prop}{s s':St}{q:Cx}
theorem Rg:qy N mk ok m n Q .normal s=tD N mk ok m n s:=(rfl)
theorem SG{id:Nat}:qy N mk ok m n Q (.exit id) s=Q (.exit id) s:=(rfl)
theorem TE:qy N mk ok m n Q .ret s=Q .ret s:=(rfl)
theorem wl{b:Code}(mk:α->St)(ok:α->Prop)(m:α->Nat)(c:α)(l:ok c)(gG:∀a,ok a->c8 P ag q b (qy q.2 mk ok m (m a) Q) (mk a))
 (k:(mk c).heap.take q.2=s.heap.take q.2:=by simp)(i:lE (mk c).heap s.env (mk c).env:=by simp)(j:gE (mk c).heap s.heap (mk c).heap:=by simp)(o:gR (mk c).heap (mk c).env:=by simp)(p:dx (mk c).heap (mk c).heap:=by simp):
 c8 P ag q (.loop b) Q s:=by
 simp only[c8];refine⟨fun n t=>∃a,ok a/\t=mk a/\n=m a,⟨m c,mk c,cJ.og k i j o p,c,l,rfl,rfl⟩,?_⟩;rintro n t ⟨a,h,rfl,rfl⟩;have:qy q.2 mk ok m (m a) Q=sJ q.2 (m a) (fun n t=>∃a,ok a/\t=mk a/\n=m a) Q:=by
  funext e s
  cases e with
  |normal=>
   simp only[qy,sJ,tD,eq_iff_iff];constructor
   ·rintro⟨a',d,f,g⟩;exact⟨m a',mk a',d,g,a',f,rfl,rfl⟩
   ·rintro⟨_,_,d,g,a',f,rfl,rfl⟩;exact⟨a',d,f,g⟩
  |exit id=>rfl
  |ret=>rfl
 rw[<-this];exact gG a h
theorem rnd(a':α)(b:ok a')(a:m a'<n:=by omega)(e:(mk a').heap.take N=s.heap.take N:=by simp)(c:lE (mk a').heap s.env (mk a').env:=by simp)(d:gE (mk a').heap s.heap (mk a').heap:=by simp)(f:gR (mk a').heap (mk a').env:=by simp)(g:dx (mk a').heap (mk a').heap:=by simp):
 tD N mk ok m n s:=⟨a',a,b,cJ.og e c d f g⟩
end
theorem aM(n:Int)(h:-9223372036854775808<=n)(a:n<=9223372036854775807):IntKind.i64.wrap n=n:=IntWalk.i64_in n ⟨h,a⟩
theorem zz(a b:Int):(a<b/\¬b<=a)\/(¬a<b/\b<=a):=by omega
theorem b8{i:Nat}(h:i<4611686018427387904):IntKind.i64.wrap ((i:Int)+1)=(i:Int)+1:=aM _ (by omega) (by omega)
attribute [simp] Wk bw aG Obj.has GD Hj F2 GC RD Hf GP qx Rg SG TE lE gE Pf Pe Pd Pg K1 Pb Pa Pc O9 O8 kf fy AK.gr gR dx aC Obj.refs
attribute [simp] T0 RF Wk.refl bw.refl
end
end Go.aw
namespace Go.aw
variable[Gl]
mutual
def dL:PV->Prop
 | .str s=>∀c∈s,c<256
 | .bY t=>dL t
 | .bI _ es| .seq es| .st _ es| .aE es=>lH es
 |_=>True
def lH:List PV->Prop
 |[]=>True
 |v::vs=>dL v/\lH vs
end
section
variable{P:ax}{w:a0}{aa:Nat->Prop}
theorem I8(bs:ByteArray):∀c∈bs.data.toList.map (·.toNat),c<256:=by
 intro c hc;simp only[a1]at hc;obtain⟨b,_,rfl⟩:=hc;exact UInt8.toNat_lt b
mutual
theorem aS.dL:∀(v:PV)(cs:List aT),aS P w aa v cs->dL v
 | .str s,cs,h=>by simp only[aS]at h;obtain⟨bs,_,rfl⟩:=h;simp only[aw.dL];exact I8 bs
 | .bY t,cs,h=>by simp only[aS]at h;obtain⟨_,_,ts,a,_⟩:=h;simp only[aw.dL];exact aS.dL t ts a
 | .bI f b,cs,h=>by simp only[aS]at h;obtain⟨_,_,_,_,d,a,_⟩:=h;simp only[aw.dL];exact aY.dL _ b d a
 | .seq b,cs,h=>by
  simp only[aS]at h;simp only[aw.dL];rcases h with⟨rfl,_⟩|⟨_,_,_,_,d,a,_⟩
  ·trivial
  ·exact aY.dL _ b d a
 | .st u b,cs,h=>by simp only[aS]at h;obtain⟨l,d,_,a,_⟩:=h;simp only[aw.dL];exact aY.dL _ b d a
 | .aE b,cs,h=>by simp[aS]at h
 | .undef,_,_| .bool _,_,_| .int _ _,_,_| .du,_,_| .aO,_,_| .fa,_,_| .gV,_,_| .fD,_,_| .eE _,_,_| .func _ _ _,_,_=>by simp[aw.dL]
theorem aY.dL:∀(l:List Nat)(b:List PV)(d:List (List aT)),aY P w aa l b d->lH b
 |_,[],_,_=>by simp[aw.lH]
 |[],_::_,_,h=>by simp[aY]at h
 |n::l,v::vs,d,h=>by
  simp only[aY]at h;obtain⟨c,cs,_,a,_,g⟩:=h;simp only[aw.lH];exact⟨aS.dL v c a,aY.dL l vs cs g⟩
theorem aA.dL:∀(v:PV)(x:aT),aA P w aa v x->dL v
 | .str s,cs,h=>by simp only[aA]at h;obtain⟨bs,_,rfl⟩:=h;simp only[aw.dL];exact I8 bs
 | .bY t,cs,h=>by simp only[aA]at h;obtain⟨_,_,ts,a,_⟩:=h;simp only[aw.dL];exact aS.dL t ts a
 | .bI f b,cs,h=>by simp only[aA]at h;obtain⟨_,_,_,_,d,a,_⟩:=h;simp only[aw.dL];exact aY.dL _ b d a
 | .seq b,cs,h=>by
  simp only[aA]at h;simp only[aw.dL];rcases h with⟨rfl,_⟩|⟨_,_,_,_,d,a,_⟩
  ·trivial
  ·exact aY.dL _ b d a
 | .st u b,cs,h=>by simp only[aA]at h;obtain⟨l,d,_,a,_⟩:=h;simp only[aw.dL];exact aY.dL _ b d a
 | .aE b,cs,h=>by simp only[aA]at h;obtain⟨e,a,_⟩:=h;simp only[aw.dL];exact bp.dL b e a
 | .undef,_,_| .bool _,_,_| .int _ _,_,_| .du,_,_| .aO,_,_| .fa,_,_| .gV,_,_| .fD,_,_| .eE _,_,_| .func _ _ _,_,_=>by simp[aw.dL]
theorem bp.dL:∀(b:List PV)(e:List aT),bp P w aa b e->lH b
 |[],_,_=>by simp[aw.lH]
 |v::vs,e,h=>by
  simp only[bp]at h;obtain⟨y,i,_,a,g⟩:=h;simp only[aw.lH];exact⟨aA.dL v y a,bp.dL vs i g⟩
end
theorem PT{f:ap}{args:List PV}{v:PV}(h:lH args->az P f args v):az P f args v:=by
 by_cases hs:lH args
 ·exact h hs
 ·exact .inr fun w aa b a=>(hs (bp.dL _ _ a)).elim
end
end Go.aw
namespace Go.aw
variable[Gl]
@[reducible] def Tg{α:Type}(_:α)(β:Type):Type:=β
@[reducible] def Tg1{α:Type 1}(_:α)(β:Type):Type:=β
section
variable(P:ax)(ag:ap->Bool)
def ey(q:Cx)(c:Code)(Q:bn->St->Prop)(s:Tg (q,c,Q) St):Prop:=c8 P ag q c Q s
def pg(a:Array Oper)(l:List Oper)(K:St->Prop)(s:Tg (a,l,K) St):Prop:=fF P ag a l K s
def qD(b:Array Oper)(l:List Oper)(i:Nat)(a:List Touch)(K:St->Prop)(s:Tg (b,l,i,a,K) St):Prop:=fN P ag b l i a K s
def zl(K:St->Prop)(Q:bn->St->Prop)(e:Tg (K,Q) bn)(s:Tg (K,Q) St):Prop:=tt K Q e s
def ql(id:Nat)(Q:bn->St->Prop)(e:Tg (id,Q) bn)(s:Tg (id,Q) St):Prop:=nC id Q e s
def MO(a b:St->Prop)(s:St)(v:Tg (a,b,s) AV):Prop:=sN v a b s
def Ck(b:Array Oper)(r:List Oper)(i:Nat)(a:List Touch)(K:St->Prop)(dst:Option Tmp)(s:St)(e:Tg (b,r,i,a,K,dst,s) aR):Prop:=vf P ag b r i a K dst s e
def dZ(dst:Option Tmp)(s:St)(K:St->Prop)(e:Tg (dst,s,K) aR):Prop:=dT dst s K e
def OB(dst:Option Tmp)(s:St)(K:St->Prop)(v:Tg (dst,s,K) AV)(H:Tg (dst,s,K) Heap):Prop:=zh dst s K v H
def Co(a:Array Oper)(o:Oper)(r:List Oper)(K:St->Prop)(b:Bool)(s:St)(g:Tg (a,o,r,K,b,s) AV):Prop:=ym P ag a o r K b s g
def BG(b:Array Oper)(o:Oper)(r:List Oper)(i:Nat)(a:List Touch)(K:St->Prop)(c:Bool)(s:St)(g:Tg (b,o,r,i,a,K,c,s) AV):Prop:=xS P ag b o r i a K c s g
def dM(o:Oper)(K:St->Prop)(s:St)(_:Tg (o,K,s) Unit):Prop:=dc P ag o K s
def dI(o:Oper)(s:St)(K:aR->Prop)(_:Tg (o,K,s) Unit):Prop:=dd P ag o s K
def ch(K:aR->Prop)(r:Tg K er):Prop:=aX r K
def yS(H:Heap)(K:AV->Heap->Prop)(f:Tg (H,K) AV)(args:Tg (H,K) (List AV)):Prop:=qw P f args H K
def Cs(H:Heap)(K:aR->Prop)(f:Tg (H,K) AV)(args:Tg (H,K) (List AV)):Prop:=qh P f args H K
def jO(d:Bool)(f:ap)(K:AV->Heap->Prop)(args:Tg K (List AV))(H:Tg K Heap):Prop:=gB P d f args H K
def mr(f:ap)(K:aR->Prop)(args:Tg K (List AV))(H:Tg K Heap):Prop:=gI P f args H K
def qK(R:AV->PV->Prop):List AV->List PV->Prop
 |[],vs=>vs=[]
 |x::xs,vs=>match vs with
  |v::vs=>R x v/\qK R xs vs
  |[]=>False
def fI(H:Heap):Nat->AV->PV->Prop
 |0=>fun x v=>match x with
  | .p a=>Wk a v
  |_=>False
 |n+1=>fun x v=>match x with
  | .p a=>Wk a v
  | .sl b ar z off len=>match v with
   | .seq fs=>match H[b]? with
    |some (.arr _ e h es)=>ar=e/\z=h/\off+len<=es.length/\qK (fI H n) ((es.drop off).take len) fs
    |_=>False
   |_=>False
  | .st u xs=>match v with
   | .st u' vs=>u=u'/\qK (fI H n) xs vs
   |_=>False
  | .aE xs=>match v with
   | .aE vs=>qK (fI H n) xs vs
   |_=>False
  | .ptr b path=>match v with
   | .bY t=>match H[b]? with
    |some (.box _ y)=>match eB y path with
     |some s=>fI H n s t
     |none=>False
    |_=>False
   |_=>False
  | .map b=>match v with
   | .eE es=>match H[b]? with
    |some (.map _ c)=>c=es
    |_=>False
   |_=>False
  | .func f xs g=>match v with
   | .func d vs us=>f=d/\qK (fI H n) xs vs/\qK (fI H n) g us
   |_=>False
  |_=>False
def lY(H:Heap)(n:Nat):List AV->List PV->Prop:=qK (fI H n)
def qO(a:List ay)(v:PV)(e:Tg (a,v) bn)(s:Tg (a,v) St):Prop:=
 (match e with
  | .exit _=>False
  |_=>True)/\∃vs,fg P s a=some vs/\fI (St.heap s) 9 (oneOf vs) v
def yd(a:Array Oper)(l:Tg a (List Touch)):Bool:=jG a l
def aAo(a:Array Oper)(i j:Tg a Nat):Bool:=reach a a.size i j
end
section
variable{P:ax}{ag:ap->Bool}{q:Cx}
theorem aCS{Q:bn->St->Prop}{s:St}:ey P ag q .skip Q s=Q .normal s:=Ll
theorem Uy{l:Nat}{Q:bn->St->Prop}{s:St}:ey P ag q (.label l) Q s=Q .normal s:=Kb
theorem aCP{id:Nat}{Q:bn->St->Prop}{s:St}:ey P ag q (.exit id) Q s=Q (.exit id) s:=Lm
theorem aCR{Q:bn->St->Prop}{s:St}:ey P ag q .ret Q s=Q .ret s:=O1
theorem Uw{b:Code}{Q:bn->St->Prop}{s:St}:ey P ag q (.scope b) Q s=ey P ag q b Q s:=J9
theorem aCO{id:Nat}{l:List Oper}{Q:bn->St->Prop}{s:St}:ey P ag q (.region id l.toArray true) Q s=qD P ag l.toArray l 0 [] (Q .normal) s:=Ln
theorem Ux{id:Nat}{l:List Oper}{Q:bn->St->Prop}{s:St}:ey P ag q (.region id l.toArray false) Q s=pg P ag l.toArray l (Q .normal) s:=Ka
theorem bg{a b:Code}{Q:bn->St->Prop}{s:St}:ey P ag q (.seq a b) Q s=ey P ag q a (zl (ey P ag q b Q) Q) s:=O2
theorem I4{id:Nat}{b:Code}{Q:bn->St->Prop}{s:St}:ey P ag q (.block id b) Q s=ey P ag q b (ql id Q) s:=Kc
theorem aCK{c:ao}{a b:Code}{Q:bn->St->Prop}{s:St}:ey P ag q (.cond c a b) Q s=MO (ey P ag q a Q) (ey P ag q b Q) s (ev s.env c):=Lo
theorem Rj{K:St->Prop}{Q:bn->St->Prop}{s:St}:zl K Q .normal s=K s:=Gt
theorem S2{id:Nat}{K:St->Prop}{Q:bn->St->Prop}{s:St}:zl K Q (.exit id) s=Q (.exit id) s:=HW
theorem S9{K:St->Prop}{Q:bn->St->Prop}{s:St}:zl K Q .ret s=Q .ret s:=IY
theorem RS{t:Bool}{a b:St->Prop}{s:St}:MO a b s (.p (.bool t))=if t then a s else b s:=GR
theorem TX{b:Array Oper}{r:List Oper}{i:Nat}{a:List Touch}{K:St->Prop}{dst:Option Tmp}{env:Env}{heap:Heap}{v:AV}{aj aI:List (Nat×Obj)}{aP:List Obj}:Ck P ag b r i a K dst ⟨env,heap⟩ ⟨v,aj,aI,aP⟩=qD P ag b r (i+1) (gC i heap.length ⟨v,aj,aI,aP⟩ a) K ⟨put dst v env,ba heap aI++aP⟩:=Jp
theorem VL{dst:Option Tmp}{env:Env}{heap:Heap}{K:St->Prop}{v:AV}{aj aI:List (Nat×Obj)}{aP:List Obj}:dZ dst ⟨env,heap⟩ K ⟨v,aj,aI,aP⟩=K ⟨put dst v env,ba heap aI++aP⟩:=KY
theorem Vs{dst:Option Tmp}{env:Env}{heap H:Heap}{K:St->Prop}{v:AV}:OB dst ⟨env,heap⟩ K v H=K ⟨put dst v env,H⟩:=Kx
theorem aCW{b:Array Oper}{i:Nat}{a:List Touch}{K:St->Prop}{s:St}:qD P ag b [] i a K s=(yd b a=true/\K s):=Lj
theorem Uv{b:Array Oper}{i c:Nat}{pos:String}{a:List Touch}{K:St->Prop}{s:St}{dst:Option Tmp}{op:Op}{af:Array Edge}{r:List Oper}:qD P ag b ({dst,op,type:=c,pos,after:=af,guard:=none}::r) i a K s=dI P ag {dst,op,type:=c,pos,after:=af,guard:=none} s (Ck P ag b r i a K dst s) ():=J8
theorem Ty{a:Array Oper}{i d j:Nat}{b:Bool}{pos:String}{c:List Touch}{K:St->Prop}{s:St}{dst:Option Tmp}{op:Op}{af:Array Edge}{r:List Oper}:qD P ag a ({dst,op,type:=d,pos,after:=af,guard:=some (j,b)}::r) i c K s=BG P ag a {dst,op,type:=d,pos,after:=af,guard:=some (j,b)} r i c K b s (guardOf a j s.env):=I3
theorem aC4{a:Array Oper}{K:St->Prop}{s:St}:pg P ag a [] K s=K s:=Lh
theorem Uu{a:Array Oper}{b:Nat}{pos:String}{K:St->Prop}{s:St}{dst:Option Tmp}{op:Op}{af:Array Edge}{r:List Oper}:pg P ag a ({dst,op,type:=b,pos,after:=af,guard:=none}::r) K s=dM P ag {dst,op,type:=b,pos,after:=af,guard:=none} (pg P ag a r K) s ():=J6
theorem Tx{a:Array Oper}{c j:Nat}{b:Bool}{pos:String}{K:St->Prop}{s:St}{dst:Option Tmp}{op:Op}{af:Array Edge}{r:List Oper}:pg P ag a ({dst,op,type:=c,pos,after:=af,guard:=some (j,b)}::r) K s=Co P ag a {dst,op,type:=c,pos,after:=af,guard:=some (j,b)} r K b s (guardOf a j s.env):=I2
section ops
variable{dst:Option Tmp}{ty:Nat}{pos:String}{af:Array Edge}{g:Option (Nat×Bool)}{env:Env}{heap:Heap}{K:aR->Prop}{L:St->Prop}
theorem Xl{x:ao}:dI P ag ⟨dst,.move x,ty,pos,af,g⟩ ⟨env,heap⟩ K ()=K {v:=ev env x}:=Mg
theorem T9{x:ao}:dI P ag ⟨dst,.assign x,ty,pos,af,g⟩ ⟨env,heap⟩ K ()=K {v:=ev env x}:=Jn
theorem Xn{c a b:ao}:dI P ag ⟨dst,.pick c a b,ty,pos,af,g⟩ ⟨env,heap⟩ K ()=ch K (qC (ev env c) (ev env a) (ev env b)):=Me
theorem VW{T:av}:dI P ag ⟨dst,.alloc T,ty,pos,af,g⟩ ⟨env,heap⟩ K ()=ch K (qm P T heap.length):=KI
theorem Xd{T:av}{x:ao}:dI P ag ⟨dst,.box T x,ty,pos,af,g⟩ ⟨env,heap⟩ K ()=ch K (sW P T heap.length (ev env x)):=MT
theorem VV{T:av}{a:Array (Nat×ao)}:dI P ag ⟨dst,.build T a,ty,pos,af,g⟩ ⟨env,heap⟩ K ()=ch K (qj P T (a.toList.map fun(i,x)=>(i,ev env x))):=KH
theorem QR{T:av}{n:Nat}{a:Array (Nat×ao)}:dI P ag ⟨dst,.buildSlice T n a,ty,pos,af,g⟩ ⟨env,heap⟩ K ()=ch K (pD P T n (a.toList.map fun(i,x)=>(i,ev env x)) heap.length):=F4
theorem Xi{T:av}{a:ao}:dI P ag ⟨dst,.load T a,ty,pos,af,g⟩ ⟨env,heap⟩ K ()=ch K (oU P T heap (ev env a)):=LR
theorem VQ{T:av}{a x:ao}:dI P ag ⟨dst,.store T a x,ty,pos,af,g⟩ ⟨env,heap⟩ K ()=ch K (oM P T heap (ev env a) (ev env x)):=KE
theorem Xc{op:BinOp}{T a:av}{x y:ao}:dI P ag ⟨dst,.binOp op T x y a,ty,pos,af,g⟩ ⟨env,heap⟩ K ()=ch K (iR P op T (lQ y) heap (ev env x) (ev env y)):=MS
theorem Xp{op:UnOp}{T:av}{x:ao}:dI P ag ⟨dst,.unOp op T x,ty,pos,af,g⟩ ⟨env,heap⟩ K ()=ch K (rl op (ev env x)):=MX
theorem Xf{S D:av}{x:ao}:dI P ag ⟨dst,.convert S D x,ty,pos,af,g⟩ ⟨env,heap⟩ K ()=ch K (qu P S D heap (ev env x)):=LU
theorem Sn{t:ao}{i:Nat}:dI P ag ⟨dst,.extract t i,ty,pos,af,g⟩ ⟨env,heap⟩ K ()=ch K (pO (ev env t) i):=Iu
theorem RN{T:av}{a:ao}{f:Nat}:dI P ag ⟨dst,.fieldAddr T a f,ty,pos,af,g⟩ ⟨env,heap⟩ K ()=ch K (oc P T (ev env a) f):=Gv
theorem RM{T:av}{x i:ao}:dI P ag ⟨dst,.indexAddr T x i,ty,pos,af,g⟩ ⟨env,heap⟩ K ()=ch K (n9 P T heap (ev env x) (ev env i)):=Gu
theorem VT{T:av}{x i:ao}:dI P ag ⟨dst,.index T x i,ty,pos,af,g⟩ ⟨env,heap⟩ K ()=ch K (qp P T (ev env x) (ev env i)):=Fx
theorem Xh{x:ao}{a:Array av}:dI P ag ⟨dst,.call {callee:=.builtin .len,args:=#[x],argTypes:=a},ty,pos,af,g⟩ ⟨env,heap⟩ K ()=ch K (qY P (a.getD 0 0) a.size heap (ev env x)):=MU
theorem Xe{f:ao}{args:List ao}{a:Array av}:dI P ag ⟨dst,.call {callee:=.value f,args:=args.toArray,argTypes:=a},ty,pos,af,g⟩ ⟨env,heap⟩ K ()=Cs P heap K (ev env f) (args.map (ev env)):=LV
theorem az3{x:ao}:dM P ag ⟨dst,.move x,ty,pos,af,g⟩ L ⟨env,heap⟩ ()=dZ dst ⟨env,heap⟩ L {v:=ev env x}:=LF
theorem TH{x:ao}:dM P ag ⟨dst,.assign x,ty,pos,af,g⟩ L ⟨env,heap⟩ ()=dZ dst ⟨env,heap⟩ L {v:=ev env x}:=ID
theorem az6{c a b:ao}:dM P ag ⟨dst,.pick c a b,ty,pos,af,g⟩ L ⟨env,heap⟩ ()=ch (dZ dst ⟨env,heap⟩ L) (qC (ev env c) (ev env a) (ev env b)):=LC
theorem VB{T:av}:dM P ag ⟨dst,.alloc T,ty,pos,af,g⟩ L ⟨env,heap⟩ ()=ch (dZ dst ⟨env,heap⟩ L) (qm P T heap.length):=Kl
theorem azO{T:av}{x:ao}:dM P ag ⟨dst,.box T x,ty,pos,af,g⟩ L ⟨env,heap⟩ ()=ch (dZ dst ⟨env,heap⟩ L) (sW P T heap.length (ev env x)):=Ou
theorem VA{T:av}{a:Array (Nat×ao)}:dM P ag ⟨dst,.build T a,ty,pos,af,g⟩ L ⟨env,heap⟩ ()=ch (dZ dst ⟨env,heap⟩ L) (qj P T (a.toList.map fun(i,x)=>(i,ev env x))):=Kk
theorem QY{T:av}{n:Nat}{a:Array (Nat×ao)}:dM P ag ⟨dst,.buildSlice T n a,ty,pos,af,g⟩ L ⟨env,heap⟩ ()=ch (dZ dst ⟨env,heap⟩ L) (pD P T n (a.toList.map fun(i,x)=>(i,ev env x)) heap.length):=FY
theorem azX{T:av}{a:ao}:dM P ag ⟨dst,.load T a,ty,pos,af,g⟩ L ⟨env,heap⟩ ()=ch (dZ dst ⟨env,heap⟩ L) (oU P T heap (ev env a)):=LG
theorem Vv{T:av}{a x:ao}:dM P ag ⟨dst,.store T a x,ty,pos,af,g⟩ L ⟨env,heap⟩ ()=ch (dZ dst ⟨env,heap⟩ L) (oM P T heap (ev env a) (ev env x)):=Kz
theorem azM{op:BinOp}{T a:av}{x y:ao}:dM P ag ⟨dst,.binOp op T x y a,ty,pos,af,g⟩ L ⟨env,heap⟩ ()=ch (dZ dst ⟨env,heap⟩ L) (iR P op T (lQ y) heap (ev env x) (ev env y)):=Ot
theorem az8{op:UnOp}{T:av}{x:ao}:dM P ag ⟨dst,.unOp op T x,ty,pos,af,g⟩ L ⟨env,heap⟩ ()=ch (dZ dst ⟨env,heap⟩ L) (rl op (ev env x)):=Oy
theorem azQ{S D:av}{x:ao}:dM P ag ⟨dst,.convert S D x,ty,pos,af,g⟩ L ⟨env,heap⟩ ()=ch (dZ dst ⟨env,heap⟩ L) (qu P S D heap (ev env x)):=LI
theorem Sy{t:ao}{i:Nat}:dM P ag ⟨dst,.extract t i,ty,pos,af,g⟩ L ⟨env,heap⟩ ()=ch (dZ dst ⟨env,heap⟩ L) (pO (ev env t) i):=HA
theorem Q9{T:av}{a:ao}{f:Nat}:dM P ag ⟨dst,.fieldAddr T a f,ty,pos,af,g⟩ L ⟨env,heap⟩ ()=ch (dZ dst ⟨env,heap⟩ L) (oc P T (ev env a) f):=Gn
theorem Ro{T:av}{x i:ao}:dM P ag ⟨dst,.indexAddr T x i,ty,pos,af,g⟩ L ⟨env,heap⟩ ()=ch (dZ dst ⟨env,heap⟩ L) (n9 P T heap (ev env x) (ev env i)):=Gm
theorem Vy{T:av}{x i:ao}:dM P ag ⟨dst,.index T x i,ty,pos,af,g⟩ L ⟨env,heap⟩ ()=ch (dZ dst ⟨env,heap⟩ L) (qp P T (ev env x) (ev env i)):=Kj
theorem azV{x:ao}{a:Array av}:dM P ag ⟨dst,.call {callee:=.builtin .len,args:=#[x],argTypes:=a},ty,pos,af,g⟩ L ⟨env,heap⟩ ()=ch (dZ dst ⟨env,heap⟩ L) (qY P (a.getD 0 0) a.size heap (ev env x)):=Ov
theorem azP{f:ao}{args:List ao}{a:Array av}:dM P ag ⟨dst,.call {callee:=.value f,args:=args.toArray,argTypes:=a},ty,pos,af,g⟩ L ⟨env,heap⟩ ()=yS P heap (OB dst ⟨env,heap⟩ L) (ev env f) (args.map (ev env)):=LJ
theorem VR{T:av}{x:ao}{lo hi:Option ao}:dI P ag ⟨dst,.slice T x lo hi none,ty,pos,af,g⟩ ⟨env,heap⟩ K ()=ch K (oO P T heap (ev env x) (lo.map (ev env)) (hi.map (ev env))):=KF
theorem Vw{T:av}{x:ao}{lo hi:Option ao}:dM P ag ⟨dst,.slice T x lo hi none,ty,pos,af,g⟩ L ⟨env,heap⟩ ()=ch (dZ dst ⟨env,heap⟩ L) (oO P T heap (ev env x) (lo.map (ev env)) (hi.map (ev env))):=Kh
theorem T7{T:av}{x i:ao}{ok:Bool}:dI P ag ⟨dst,.lookup T x i ok,ty,pos,af,g⟩ ⟨env,heap⟩ K ()=ch K (qz P T heap (ev env x) (ev env i) ok):=Jl
theorem TF{T:av}{x i:ao}{ok:Bool}:dM P ag ⟨dst,.lookup T x i ok,ty,pos,af,g⟩ L ⟨env,heap⟩ ()=ch (dZ dst ⟨env,heap⟩ L) (qz P T heap (ev env x) (ev env i) ok):=IB
theorem RJ{T:av}{m k x:ao}:dI P ag ⟨dst,.mapUpdate T m k x,ty,pos,af,g⟩ ⟨env,heap⟩ K ()=ch K (lP P T heap (ev env m) (ev env k) (ev env x)):=GK
theorem Rm{T:av}{m k x:ao}:dM P ag ⟨dst,.mapUpdate T m k x,ty,pos,af,g⟩ L ⟨env,heap⟩ ()=ch (dZ dst ⟨env,heap⟩ L) (lP P T heap (ev env m) (ev env k) (ev env x)):=Gj
theorem T8{T:av}{m k x:ao}:dI P ag ⟨dst,.insert T m k x,ty,pos,af,g⟩ ⟨env,heap⟩ K ()=ch K (lP P T heap (ev env m) (ev env k) (ev env x)):=Jm
theorem TG{T:av}{m k x:ao}:dM P ag ⟨dst,.insert T m k x,ty,pos,af,g⟩ L ⟨env,heap⟩ ()=ch (dZ dst ⟨env,heap⟩ L) (lP P T heap (ev env m) (ev env k) (ev env x)):=IC
theorem VS{T:av}{x:ao}:dI P ag ⟨dst,.range T x,ty,pos,af,g⟩ ⟨env,heap⟩ K ()=ch K (qe P T heap.length (ev env x)):=KG
theorem Vx{T:av}{x:ao}:dM P ag ⟨dst,.range T x,ty,pos,af,g⟩ L ⟨env,heap⟩ ()=ch (dZ dst ⟨env,heap⟩ L) (qe P T heap.length (ev env x)):=Ki
theorem Xm{it:ao}:dI P ag ⟨dst,.next it true,ty,pos,af,g⟩ ⟨env,heap⟩ K ()=ch K (qG heap (ev env it)):=Mf
theorem az4{it:ao}:dM P ag ⟨dst,.next it true,ty,pos,af,g⟩ L ⟨env,heap⟩ ()=ch (dZ dst ⟨env,heap⟩ L) (qG heap (ev env it)):=LD
theorem RL{T:av}{l c:ao}:dI P ag ⟨dst,.makeSlice T l c,ty,pos,af,g⟩ ⟨env,heap⟩ K ()=ch K (qI P T heap.length (ev env l) (ev env c)):=GL
theorem Rn{T:av}{l c:ao}:dM P ag ⟨dst,.makeSlice T l c,ty,pos,af,g⟩ L ⟨env,heap⟩ ()=ch (dZ dst ⟨env,heap⟩ L) (qI P T heap.length (ev env l) (ev env c)):=Gk
theorem RQ{x:ao}:dI P ag ⟨dst,.nilCheck x,ty,pos,af,g⟩ ⟨env,heap⟩ K ()=ch K (pW (ev env x)):=GO
theorem Sc{x:ao}:dM P ag ⟨dst,.nilCheck x,ty,pos,af,g⟩ L ⟨env,heap⟩ ()=ch (dZ dst ⟨env,heap⟩ L) (pW (ev env x)):=He
theorem Xk{args:Array ao}{a:Array av}:dI P ag ⟨dst,.call {callee:=.builtin .min,args,argTypes:=a},ty,pos,af,g⟩ ⟨env,heap⟩ K ()=ch K (jW false (args.toList.map (ev env))):=MW
theorem az2{args:Array ao}{a:Array av}:dM P ag ⟨dst,.call {callee:=.builtin .min,args,argTypes:=a},ty,pos,af,g⟩ L ⟨env,heap⟩ ()=ch (dZ dst ⟨env,heap⟩ L) (jW false (args.toList.map (ev env))):=Ox
theorem Xj{args:Array ao}{a:Array av}:dI P ag ⟨dst,.call {callee:=.builtin .max,args,argTypes:=a},ty,pos,af,g⟩ ⟨env,heap⟩ K ()=ch K (jW true (args.toList.map (ev env))):=MV
theorem az1{args:Array ao}{a:Array av}:dM P ag ⟨dst,.call {callee:=.builtin .max,args,argTypes:=a},ty,pos,af,g⟩ L ⟨env,heap⟩ ()=ch (dZ dst ⟨env,heap⟩ L) (jW true (args.toList.map (ev env))):=Ow
theorem Sm{T:av}:dI P ag ⟨dst,.makeMap T none,ty,pos,af,g⟩ ⟨env,heap⟩ K ()=K {v:=.map heap.length,aP:=[.map false []]}:=It
theorem Sx{T:av}:dM P ag ⟨dst,.makeMap T none,ty,pos,af,g⟩ L ⟨env,heap⟩ ()=dZ dst ⟨env,heap⟩ L {v:=.map heap.length,aP:=[.map false []]}:=Ic
theorem Ua{s x:ao}{T X:av}:dI P ag ⟨dst,.call {callee:=.builtin .append,args:=#[s,x],argTypes:=#[T,X]},ty,pos,af,g⟩ ⟨env,heap⟩ K ()=ch K (oL P T X heap (ev env s) (ev env x)):=Jo
theorem TI{s x:ao}{T X:av}:dM P ag ⟨dst,.call {callee:=.builtin .append,args:=#[s,x],argTypes:=#[T,X]},ty,pos,af,g⟩ L ⟨env,heap⟩ ()=ch (dZ dst ⟨env,heap⟩ L) (oL P T X heap (ev env s) (ev env x)):=IE
theorem Xg{s x:ao}{T X:av}:dI P ag ⟨dst,.call {callee:=.builtin .copy,args:=#[s,x],argTypes:=#[T,X]},ty,pos,af,g⟩ ⟨env,heap⟩ K ()=ch K (copyV P T heap (ev env s) (ev env x)):=LS
theorem azR{s x:ao}{T X:av}:dM P ag ⟨dst,.call {callee:=.builtin .copy,args:=#[s,x],argTypes:=#[T,X]},ty,pos,af,g⟩ L ⟨env,heap⟩ ()=ch (dZ dst ⟨env,heap⟩ L) (copyV P T heap (ev env s) (ev env x)):=LH
theorem W0{f:ap}{fi ca:List AV}{args:List AV}{M:AV->Heap->Prop}:yS P heap M (.func f fi ca) args=jO P false f M (fi++args++ca) heap:=MP
theorem W3{f:ap}{fi ca:List AV}{args:List AV}:Cs P heap K (.func f fi ca) args=mr P f K (fi++args++ca) heap:=LW
theorem W2{f:ap}{fi ca:List PV}{args:List AV}{M:AV->Heap->Prop}:yS P heap M (.p (.func f fi ca)) args=jO P false f M (fi.map .p++args++ca.map .p) heap:=MQ
theorem W4{f:ap}{fi ca:List PV}{args:List AV}:Cs P heap K (.p (.func f fi ca)) args=mr P f K (fi.map .p++args++ca.map .p) heap:=MR
end ops
section guards
variable{ops:Array Oper}{o:Oper}{r:List Oper}{K:St->Prop}{want t:Bool}{s:St}{i:Nat}{acc:List Touch}
theorem RC:Co P ag ops o r K want s (.p (.bool t))=if t=want then dM P ag o (pg P ag ops r K) s ()else pg P ag ops r K ⟨put o.dst (.p (.aE [])) s.env,s.heap⟩:=GD
theorem R8:Co P ag ops o r K want s (.p (.aE []))=pg P ag ops r K ⟨put o.dst (.p (.aE [])) s.env,s.heap⟩:=Hj
theorem Q2:BG P ag ops o r i acc K want s (.p (.bool t))=if t=want then dI P ag o s (Ck P ag ops r i acc K o.dst s) ()else qD P ag ops r (i+1) acc K ⟨put o.dst (.p (.aE [])) s.env,s.heap⟩:=F2
theorem RA:BG P ag ops o r i acc K want s (.p (.aE []))=qD P ag ops r (i+1) acc K ⟨put o.dst (.p (.aE [])) s.env,s.heap⟩:=GC
end guards
theorem QV{id:Nat}{Q:bn->St->Prop}{s:St}:ql id Q .normal s=Q .normal s:=(rfl)
theorem Sj{id i:Nat}{Q:bn->St->Prop}{s:St}:ql id Q (.exit i) s=if i=id then Q .normal s else Q (.exit i) s:=(rfl)
theorem Tp{id:Nat}{Q:bn->St->Prop}{s:St}:ql id Q .ret s=Q .ret s:=(rfl)
section makeFunc
variable{dst:Option Tmp}{ty:Nat}{pos:String}{af:Array Edge}{g:Option (Nat×Bool)}{env:Env}{heap:Heap}{L:St->Prop}{K:aR->Prop}{f:ap}{fi ca:Array ao}
theorem Sd(hf:ag f=false):dM P ag ⟨dst,.makeFunc (.func f) fi ca,ty,pos,af,g⟩ L ⟨env,heap⟩ ()=ch (dZ dst ⟨env,heap⟩ L) (qx f (fi.toList.map (ev env)) (ca.toList.map (ev env))):=Hf hf
theorem RR(hf:ag f=false):dI P ag ⟨dst,.makeFunc (.func f) fi ca,ty,pos,af,g⟩ ⟨env,heap⟩ K ()=ch K (qx f (fi.toList.map (ev env)) (ca.toList.map (ev env))):=GP hf
end makeFunc
theorem Tb{p:Prop}{e:aR}{K:aR->Prop}:ch K (some (p,e))=(p/\K e):=(rfl)
theorem Tc{K:aR->Prop}:ch K none=False:=(rfl)
theorem SS{a:Array Oper}:yd a []=true:=(rfl)
theorem Ry{a:Array Oper}{t:Touch}{r:List Touch}:yd a (t::r)=(r.all (fun u=>!iN u t||aAo a u.i t.i)&&yd a r):=(rfl)
theorem T3{a:List ay}{v:PV}{s:St}:qO P a v .ret s=∃vs,fg P s a=some vs/\fI s.heap 9 (oneOf vs) v:=by simp[qO]
theorem RG{a:List ay}{v:PV}{s:St}:qO P a v .normal s=∃vs,fg P s a=some vs/\fI s.heap 9 (oneOf vs) v:=by simp[qO]
section pur
variable{H:Heap}
theorem vU{n:Nat}{a v:PV}:fI H n (.p a) v=Wk a v:=by cases n<;>rfl
theorem Lg{n b ar z off len:Nat}{fs:List PV}:fI H (n+1) (.sl b ar z off len) (.seq fs)=match H[b]? with
  |some (.arr _ a c es)=>ar=a/\z=c/\off+len<=es.length/\lY H n ((es.drop off).take len) fs
  |_=>False:=(rfl)
theorem aAj{n:Nat}{u u':av}{a:List AV}{vs:List PV}:fI H (n+1) (.st u a) (.st u' vs)=(u=u'/\lY H n a vs):=(rfl)
theorem aAk{n:Nat}{a:List AV}{vs:List PV}:fI H (n+1) (.aE a) (.aE vs)=lY H n a vs:=(rfl)
theorem Ky{n b:Nat}{a:List (PV×PV)}:fI H (n+1) (.map b) (.eE a)=match H[b]? with
  |some (.map _ c)=>c=a
  |_=>False:=(rfl)
theorem aAi{n:Nat}{f a:ap}{c d:List AV}{vs b:List PV}:fI H (n+1) (.func f c d) (.func a vs b)=(f=a/\lY H n c vs/\lY H n d b):=(rfl)
theorem xd{n:Nat}{vs:List PV}:lY H n [] vs=(vs=[]):=(rfl)
theorem AB{n:Nat}{x:AV}{a:List AV}{v:PV}{vs:List PV}:lY H n (x::a) (v::vs)=(fI H n x v/\lY H n a vs):=(rfl)
theorem Iy{α:Type}{n:Nat}{g:α->AV}{f:α->PV}:∀{l:List α},lY H n (l.map g) (l.map f)=∀x∈l,fI H n (g x) (f x)
 |[]=>by simp[xd]
 |a::l=>by simp[AB,Iy (l:=l)]
theorem sn(n:Nat)(c:∀(x:AV)(v:PV),fI H n x v->∃v',dV H n x=some v'/\Wk v' v):∀(b:List AV)(vs:List PV),lY H n b vs->∃a,jq (dV H n) b=some a/\bw a vs
 |[],vs,h=>by rw[xd]at h;subst h;exact⟨[],rfl,by simp[bw]⟩
 |x::b,vs,h=>by
  cases vs with
  |nil=>exact h.elim
  |cons v vs=>
   rw[AB]at h;obtain⟨p,d,e⟩:=c x v h.1;obtain⟨a,f,g⟩:=sn n c b vs h.2;exact⟨p::a,by simp[jq,d,f],by simp only[bw];exact⟨e,g⟩⟩
theorem qg:∀(n:Nat)(x:AV)(v:PV),fI H n x v->∃v',dV H n x=some v'/\Wk v' v
 |0,x,v,h=>by
  cases x with
  |p a=>exact⟨_,rfl,h⟩
  |_=>exact h.elim
 |n+1,x,v,h=>by
  cases x with
  |p a=>rw[vU]at h;exact⟨_,rfl,h⟩
  |sl b ar z off len=>
   cases v with
   |seq fs=>
    rw[Lg]at h
    split at h
    case h_2=>exact h.elim
    rename_i k C E j e;obtain⟨rfl,rfl,m,g⟩:=h;obtain⟨i,c,d⟩:=sn n (qg n) _ _ g;simp only[dV,e,m,and_self,if_true]
    split
    ·rename_i r;rw[r.2]at g;simp only[List.drop_nil,List.take_nil,xd]at g;exact⟨_,rfl,by rw[g];simp[Wk]⟩
    ·rw[c];exact⟨_,rfl,by simp only[Wk];exact d⟩
   |_=>exact h.elim
  |st u xs=>
   cases v with
   |st u' vs=>
    obtain⟨rfl,h⟩:=h;obtain⟨i,c,d⟩:=sn n (qg n) _ _ h;simp only[dV,c];exact⟨_,rfl,by simp only[Wk];exact⟨trivial,d⟩⟩
   |_=>exact h.elim
  |aE xs=>
   cases v with
   |aE vs=>
    obtain⟨i,c,d⟩:=sn n (qg n) _ _ h;simp only[dV,c];exact⟨_,rfl,by simp only[Wk];exact d⟩
   |_=>exact h.elim
  |ptr b path=>
   cases v with
   |bY t=>
    change (match H[b]? with
     |some (.box _ y)=>match eB y path with
      |some s=>fI H n s t
      |none=>False
     |_=>False)at h
    split at h
    case h_2=>exact h.elim
    rename_i e
    split at h
    case h_2=>exact h.elim
    rename_i s hs;obtain⟨p,c,d⟩:=qg n _ _ h;simp only[dV,e,hs,c];exact⟨_,rfl,by simp only[Wk];exact d⟩
   |_=>exact h.elim
  |bR _ _ _ _ _=>exact h.elim
  |map b=>
   cases v with
   |eE j=>
    rw[Ky]at h
    split at h
    case h_2=>exact h.elim
    rename_i fz w e;subst h;simp only[dV,e];exact⟨_,rfl,Wk.refl _⟩
   |_=>exact h.elim
  |func f xs D=>
   cases v with
   |func A vs us=>
    obtain⟨rfl,h,l⟩:=h;obtain⟨i,c,d⟩:=sn n (qg n) _ _ h;obtain⟨B,o,q⟩:=sn n (qg n) _ _ l;simp only[dV,c,o];exact⟨_,rfl,by simp only[Wk];exact⟨trivial,d,q⟩⟩
   |_=>exact h.elim
end pur
theorem UQ{f:ap}{fn:Func}(ag:ap->Bool)(h:al P f fn)(n:P.follows .mixedOrders=true){args:List PV}{v:PV}(o:args.length<=fn.ntmps)
 (d:ey P ag (fn.ntmps,0) (fn.body.getD .skip) (qO P fn.results.toList v) ⟨iq 0 (args.map .p),[]⟩):qM P f args v:=by
 have hs:=h.stat;simp only[ac,bne_iff_ne]at hs;have k:fn.body=some (fn.body.getD .skip):=by
  have a:=hs.1.1;clear d hs;cases l:fn.body with
  |none=>rw[l]at a;simp at a
  |some c=>rfl
 obtain⟨e,s,⟨a,vs,g,b⟩,j⟩:=mU _ _ _ (lg (Q':=qO P fn.results.toList v) _ (fun _ _ h=>h) d);obtain⟨v',b,i⟩:=qg _ _ _ b;have m:qM P f args v':=Je (nZ ag) (wN (nZ ag) n) h.enters h.func k hs.2 o (j (Ends P fn.results.toList v') ⟨by cases e<;>exact a,vs,g,b⟩);exact m.cR (bw.refl _) i
theorem aL{f:ap}{fn:Func}(ag:ap->Bool)(h:al P f fn)(a:P.follows .mixedOrders=true){args:List PV}{v:PV}(b:args.length<=fn.ntmps)
 (c:ey P ag (fn.ntmps,0) (fn.body.getD .skip) (qO P fn.results.toList v) ⟨iq 0 (args.map .p),[]⟩):az P f args v:=.inl (UQ ag h a b c)
theorem OH{α:Type}{N:Nat×Nat->Prop}{f:α->PV}{l:List α}:aQ N (l.map fun x=>.p (f x))=True:=by
 rw[cq,eq_iff_iff,iff_true];intro v a;simp only[a1]at a;obtain⟨x,_,rfl⟩:=a;trivial
theorem aAv{α:Type}{N:Nat×Nat->Prop}{f:α->PV}{l:List α}{i:Nat}:aQ N ((l.map fun x=>.p (f x)).take i)=True:=by
 rw[cq,eq_iff_iff,iff_true];intro v a;have a:=List.mem_of_mem_take a;simp only[a1]at a;obtain⟨x,_,rfl⟩:=a;trivial
theorem TS{N:Nat×Nat->Prop}{a b:List AV}:aQ N (a++b)=(aQ N a/\aQ N b):=by
 simp only[cq,List.mem_append,eq_iff_iff];exact⟨fun h=>⟨fun v c=>h v (.inl c),fun v c=>h v (.inr c)⟩,fun h v c=>c.elim (h.1 v) (h.2 v)⟩
theorem QF{α:Type}{l:List α}{i:Nat}:(l.take i).take i=l.take i:=by simp[List.take_take]
theorem QE{α β:Type}{f:α->β}{l:List α}:(l.map f).take l.length=l.map f:=List.take_of_length_le (by simp)
section loops
variable{α:Type}(N:Nat)(mk:α->St)(ok:α->Prop)(m:α->Nat)(n:Nat)(Q:bn->St->Prop)
def Ds(s:Tg (N,mk,ok,m,n) St):Prop:=tD N mk ok m n s
def yC(e:Tg (N,mk,ok,m,n,Q) bn)(s:Tg (N,mk,ok,m,n,Q) St):Prop:=qy N mk ok m n Q e s
variable{N}{mk}{ok}{m}{n}{Q}{s s':St}
theorem Rf:yC N mk ok m n Q .normal s=Ds N mk ok m n s:=(rfl)
theorem SF{id:Nat}:yC N mk ok m n Q (.exit id) s=Q (.exit id) s:=(rfl)
theorem TD:yC N mk ok m n Q .ret s=Q .ret s:=(rfl)
theorem lp{d:Nat}{b:Code}(mk:α->St)(ok:α->Prop)(m:α->Nat)(c:α)(e:ok c)(gG:∀a,ok a->ey P ag (d,N) b (yC N mk ok m (m a) Q) (mk a))
 (hn:(mk c).heap.take N=s.heap.take N:=by simp)(he:lE (mk c).heap s.env (mk c).env:=by simp)(hh:gE (mk c).heap s.heap (mk c).heap:=by simp)(hr:gR (mk c).heap (mk c).env:=by simp)(hr2:dx (mk c).heap (mk c).heap:=by simp):
 ey P ag (d,N) (.loop b) Q s:=wl (q:=(d,N)) mk ok m c e gG hn he hh hr hr2
theorem rd(a':α)(a:ok a')(h1:m a'<n:=by omega)(hn:(mk a').heap.take N=s.heap.take N:=by simp)(he:lE (mk a').heap s.env (mk a').env:=by simp)(hh:gE (mk a').heap s.heap (mk a').heap:=by simp)(hr:gR (mk a').heap (mk a').env:=by simp)(hr2:dx (mk a').heap (mk a').heap:=by simp):
 Ds N mk ok m n s:=rnd a' a h1 hn he hh hr hr2
end loops
section calls
variable{f:ap}{H H1:Heap}{K:AV->Heap->Prop}{L:aR->Prop}{v a b c d e a' b' c' d' e':PV}
theorem c0(h:az P f [] v)(hk:K (.p v) H):jO P false f K [] H:=W5 h hk
theorem c1(h:az P f [a'] v)(hk:K (.p v) H)(h1:Wk a a':=by first|exact Wk.refl _|simp):jO P false f K [.p a] H:=W6 h hk h1
theorem c2(h:az P f [a',b'] v)(hk:K (.p v) H)(h1:Wk a a':=by first|exact Wk.refl _|simp)(c:Wk b b':=by first|exact Wk.refl _|simp):jO P false f K [.p a,.p b] H:=W7 h hk h1 c
theorem c3(h:az P f [a',b',c'] v)(hk:K (.p v) H)(h1:Wk a a':=by first|exact Wk.refl _|simp)(d:Wk b b':=by first|exact Wk.refl _|simp)(e:Wk c c':=by first|exact Wk.refl _|simp):jO P false f K [.p a,.p b,.p c] H:=W8 h hk h1 d e
theorem c4(h:az P f [a',b',c',d'] v)(hk:K (.p v) H)(e:Wk a a':=by first|exact Wk.refl _|simp)(g:Wk b b':=by first|exact Wk.refl _|simp)(i:Wk c c':=by first|exact Wk.refl _|simp)(j:Wk d d':=by first|exact Wk.refl _|simp):jO P false f K [.p a,.p b,.p c,.p d] H:=W9 h hk e g i j
theorem c5(h:az P f [a',b',c',d',e'] v)(hk:K (.p v) H)(g:Wk a a':=by first|exact Wk.refl _|simp)(i:Wk b b':=by first|exact Wk.refl _|simp)(j:Wk c c':=by first|exact Wk.refl _|simp)(k:Wk d d':=by first|exact Wk.refl _|simp)(l:Wk e e':=by first|exact Wk.refl _|simp):jO P false f K [.p a,.p b,.p c,.p d,.p e] H:=Xa h hk g i j k l
theorem e0(h:az P f [] v)(hk:L {v:=.p v}):mr P f L [] H:=WO h hk
theorem e1(h:az P f [a'] v)(hk:L {v:=.p v})(h1:Wk a a':=by first|exact Wk.refl _|simp):mr P f L [.p a] H:=WQ h hk h1
theorem e2(h:az P f [a',b'] v)(hk:L {v:=.p v})(h1:Wk a a':=by first|exact Wk.refl _|simp)(c:Wk b b':=by first|exact Wk.refl _|simp):mr P f L [.p a,.p b] H:=WR h hk h1 c
theorem e3(h:az P f [a',b',c'] v)(hk:L {v:=.p v})(h1:Wk a a':=by first|exact Wk.refl _|simp)(d:Wk b b':=by first|exact Wk.refl _|simp)(e:Wk c c':=by first|exact Wk.refl _|simp):mr P f L [.p a,.p b,.p c] H:=WS h hk h1 d e
theorem e4(h:az P f [a',b',c',d'] v)(hk:L {v:=.p v})(e:Wk a a':=by first|exact Wk.refl _|simp)(g:Wk b b':=by first|exact Wk.refl _|simp)(i:Wk c c':=by first|exact Wk.refl _|simp)(j:Wk d d':=by first|exact Wk.refl _|simp):mr P f L [.p a,.p b,.p c,.p d] H:=WT h hk e g i j
theorem e5(h:az P f [a',b',c',d',e'] v)(hk:L {v:=.p v})(g:Wk a a':=by first|exact Wk.refl _|simp)(i:Wk b b':=by first|exact Wk.refl _|simp)(j:Wk c c':=by first|exact Wk.refl _|simp)(k:Wk d d':=by first|exact Wk.refl _|simp)(l:Wk e e':=by first|exact Wk.refl _|simp):mr P f L [.p a,.p b,.p c,.p d,.p e] H:=WU h hk g i j k l
theorem cp{args:List AV}{vs a:List PV}(h:az P f a v)(b:mL H args=some (vs,H1))(hk:K (.p v) H1)(h1:bw vs a:=by first|exact bw.refl _|simp):jO P false f K args H:=Xb h b hk h1
theorem ep{args:List AV}{vs a:List PV}{bs:List Nat}{aj aI:List (Nat×Obj)}(h:az P f a v)(b:nF H args=some (vs,bs))(hf:kx H bs=some (aj,aI))(hk:L {v:=.p v,aj,aI})(h1:bw vs a:=by first|exact bw.refl _|simp):mr P f L args H:=WW h b hf hk h1
theorem ci{args:List AV}{H':Heap}{v:AV}(h:cw P f H args H' v)(hk:K v H'):jO P false f K args H:=.inr ⟨rfl,.inr (.inl ⟨H',v,h,hk⟩)⟩
end calls
attribute [simp] OH aAv TS QF vU Lg aAj aAk Ky aAi xd AB Iy QE aQ QV Sj Tp RC R8 Q2 RA Sd RR Tb Tc SS Ry T3 RG Rf SF TD mL j0 nF lV kx lN
 aCS Uy aCP aCR Uw aCO Ux bg I4 aCK Rj S2 S9 RS TX VL Vs aCW Uv Ty aC4 Uu Tx Xl T9 Xn VW Xd VV QR Xi VQ Xc Xp Xf Sn RN RM VT Xh Xe az3 TH az6 VB azO VA QY azX Vv azM az8 azQ Sy Q9 Ro Vy azV azP VR Vw T7 TF RJ Rm T8 TG VS Vx Xm az4 RL Rn RQ Sc Xk az2 Xj az1 Sm Sx Ua TI Xg azR W0 W3 W2 W4
end
section
variable{P:ax}{ag:ap->Bool}{q:Cx}
theorem HX{r:er}{K a:aR->Prop}(hk:∀e,K e->a e)(h:aX r K):aX r a:=by
 unfold aX at h⊢
 split at h
 ·exact⟨h.1,hk _ h.2⟩
 ·exact h.elim
theorem SD{o:Oper}{e:Env}{H:Heap}{K a:aR->Prop}(hk:∀e,K e->a e)(h:fc P ag o (ev e) H K):fc P ag o (ev e) H a:=by
 obtain⟨x,b,c⟩:=Bu (ag:=ag) o (ev e) H K h;exact c a (hk x b)
theorem Jv{o:Oper}{e:Env}{H:Heap}{K a:aR->Prop}(hk:∀e,K e->a e)(h:jY P ag o e H K):jY P ag o e H a:=by
 unfold jY at h⊢
 repeat' split at h
 all_goals first|exact hk _ h|exact HX hk h|exact⟨h.1,HX hk h.2⟩|exact SD hk h|exact h.elim
theorem Gy{d:Bool}{f:ap}{args:List AV}{H:Heap}{K i:AV->Heap->Prop}(hk:∀v H,K v H->i v H)(h:gB P d f args H K):gB P d f args H i:=by
 rcases h with⟨vs,v,a,b,c⟩|⟨g,⟨vs,H1,v,a,b,c⟩|⟨H',v,a,b⟩|⟨e,a,b,c⟩|⟨aj,v,a,b,c⟩⟩
 ·exact .inl ⟨vs,v,a,b,hk _ _ c⟩
 ·exact .inr ⟨g,.inl ⟨vs,H1,v,a,b,hk _ _ c⟩⟩
 ·exact .inr ⟨g,.inr (.inl ⟨H',v,a,hk _ _ b⟩)⟩
 ·exact .inr ⟨g,.inr (.inr (.inl ⟨e,a,b,hk _ _ c⟩))⟩
 ·exact .inr ⟨g,.inr (.inr (.inr ⟨aj,v,a,b,hk _ _ c⟩))⟩
theorem GW{f:ap}{args:List AV}{H:Heap}{K d:aR->Prop}(hk:∀e,K e->d e)(h:gI P f args H K):gI P f args H d:=by
 rcases h with⟨vs,v,a,b,c⟩|⟨vs,bs,aj,aI,v,a,b,c,g⟩|⟨e,a,b,c⟩|⟨aj,v,a,b,c⟩
 ·exact .inl ⟨vs,v,a,b,hk _ c⟩
 ·exact .inr (.inl ⟨vs,bs,aj,aI,v,a,b,c,hk _ g⟩)
 ·exact .inr (.inr (.inl ⟨e,a,b,hk _ c⟩))
 ·exact .inr (.inr (.inr ⟨aj,v,a,b,hk _ c⟩))
theorem Gf{o:Oper}{K b:St->Prop}{s:St}(hk:∀s,K s->b s)(h:dc P ag o K s):dc P ag o b s:=by
 unfold dc at h⊢
 split at h
 ·rename_i f args g i;unfold qw at h⊢
  split at h
  ·exact Gy (fun v H a=>hk _ a) h
  ·exact Gy (fun v H a=>hk _ a) h
  ·obtain⟨H',v,c,d⟩:=h;exact⟨H',v,c,hk _ d⟩
  ·exact h.elim
 ·exact Jv (fun e a=>hk _ a) h
theorem GG{o:Oper}{s:St}{K a:aR->Prop}(hk:∀e,K e->a e)(h:dd P ag o s K):dd P ag o s a:=by
 unfold dd at h⊢
 split at h
 ·rename_i f args g i;unfold qh at h⊢
  split at h
  ·exact GW hk h
  ·exact GW hk h
  ·obtain⟨e,b,c,d⟩:=h;exact⟨e,b,c,hk _ d⟩
  ·exact h.elim
 ·exact Jv hk h
theorem uc{c:Array Oper}:∀(l:List Oper){K a:St->Prop}{s:St},(∀s,K s->a s)->fF P ag c l K s->fF P ag c l a s
 |[],K,a,s,hk,h=>hk s h
 |o::l,K,a,s,hk,h=>by
  simp only[fF]at h⊢
  split at h
  ·exact Gf (fun s hs=>uc l hk hs) h
  ·split at h
   ·split at h
    ·rename_i b;rw[if_pos b];exact Gf (fun s hs=>uc l hk hs) h
    ·rename_i b;rw[if_neg b];exact uc l hk h
   ·exact uc l hk h
   ·exact h.elim
theorem tZ{d:Array Oper}:∀(l:List Oper){i:Nat}{b:List Touch}{K a:St->Prop}{s:St},(∀s,K s->a s)->fN P ag d l i b K s->fN P ag d l i b a s
 |[],i,b,K,a,s,hk,h=>⟨h.1,hk s h.2⟩
 |o::l,i,b,K,a,s,hk,h=>by
  simp only[fN]at h⊢
  split at h
  ·exact GG (fun e hs=>tZ l hk hs) h
  ·split at h
   ·split at h
    ·rename_i c;rw[if_pos c];exact GG (fun e hs=>tZ l hk hs) h
    ·rename_i c;rw[if_neg c];exact tZ l hk h
   ·exact tZ l hk h
   ·exact h.elim
theorem mT:∀(c:Code){Q g:bn->St->Prop}{s:St},(∀e s,Q e s->g e s)->c8 P ag q c Q s->c8 P ag q c g s
 | .skip,Q,g,s,hq,h=>hq _ _ h
 | .label _,Q,g,s,hq,h=>hq _ _ h
 | .exit _,Q,g,s,hq,h=>hq _ _ h
 | .ret,Q,g,s,hq,h=>hq _ _ h
 | .region _ ops draw,Q,g,s,hq,h=>by
  simp only[c8]at h⊢
  split at h
  ·rename_i j;rw[if_pos j];exact tZ _ (fun s hs=>hq _ _ hs) h
  ·rename_i j;rw[if_neg j];exact uc _ (fun s hs=>hq _ _ hs) h
 | .seq a b,Q,g,s,hq,h=>by
  simp only[c8]at h⊢;refine mT a (fun e s d=>?_) h;cases e with
  |normal=>exact mT b hq d
  |exit i=>exact hq _ _ d
  |ret=>exact hq _ _ d
 | .cond c a b,Q,g,s,hq,h=>by
  simp only[c8]at h⊢;unfold sN at h⊢
  split at h
  ·split at h
   ·rename_i k;rw[if_pos k];exact mT a hq h
   ·rename_i k;rw[if_neg k];exact mT b hq h
  ·exact h.elim
 | .block id b,Q,g,s,hq,h=>by
  simp only[c8]at h⊢;refine mT b (fun e s d=>?_) h;cases e with
  |normal=>exact hq _ _ d
  |exit i=>
   simp only[nC]at d⊢
   by_cases hi:i=id
   ·simp only[hi,if_true]at d⊢;exact hq _ _ d
   ·simp only[hi,if_false]at d⊢;exact hq _ _ d
  |ret=>exact hq _ _ d
 | .scope b,Q,g,s,hq,h=>mT b hq h
 | .loop b,Q,g,s,hq,h=>by
  simp only[c8]at h⊢;obtain⟨I,l,m⟩:=h;refine⟨I,l,fun n t hI=>mT b (fun e s d=>?_) (m n t hI)⟩;cases e with
  |normal=>exact d
  |exit id=>exact hq _ _ d
  |ret=>exact hq _ _ d
 | .rangeFunc f o a b,Q,g,s,hq,h=>by
  simp only[c8]at h⊢;exact⟨h.1,Hx (fun H=>HB hq) h.2⟩
 | .goto _,_,_,_,_,h=>h.elim
 | .refuse _,_,_,_,_,h=>h.elim
def qA(R:St->Prop)(Q:bn->St->Prop)(e:Tg (R,Q) bn)(s:Tg (R,Q) St):Prop:=match e with
 | .normal=>R s
 |e=>Q e s
theorem Q7{R:St->Prop}{Q:bn->St->Prop}{s:St}:qA R Q .normal s=R s:=(rfl)
theorem SK{R:St->Prop}{Q:bn->St->Prop}{id:Nat}{s:St}:qA R Q (.exit id) s=Q (.exit id) s:=(rfl)
theorem Uf{R:St->Prop}{Q:bn->St->Prop}{s:St}:qA R Q .ret s=Q .ret s:=(rfl)
theorem join{a b:Code}{Q:bn->St->Prop}{s:St}(R:St->Prop)(d:ey P ag q a (qA R Q) s)(f:∀s',R s'->ey P ag q b Q s'):ey P ag q (.seq a b) Q s:=by
 rw[bg];refine mT a (fun e s c=>?_) d;cases e with
 |normal=>exact f s c
 |exit i=>exact c
 |ret=>exact c
theorem OI{α:Type}{N:Nat×Nat->Prop}{f:α->PV}{l:List α}:aQ N (l.map (AV.p∘f))=True:=OH
attribute [simp] Q7 SK Uf OI
end
section
variable{P:ax}{ag:ap->Bool}
def uX(P:ax)(a:List ay)(N:Nat)(H':Heap)(v:AV)(e:Tg (a,N,H',v) bn)(s:Tg (a,N,H',v) St):Prop:=sT P a N H' v e s
theorem SO{a:List ay}{N:Nat}{H':Heap}{v:AV}{s:St}:uX P a N H' v .ret s=∃vs,fg P s a=some vs/\oneOf vs=v/\(H'=s.heap\/(cJ N s ⟨[],H'⟩/\aC (aG H') v)):=by simp[uX,sT]
theorem QQ{a:List ay}{N:Nat}{H':Heap}{v:AV}{s:St}:uX P a N H' v .normal s=∃vs,fg P s a=some vs/\oneOf vs=v/\(H'=s.heap\/(cJ N s ⟨[],H'⟩/\aC (aG H') v)):=by simp[uX,sT]
theorem fP{f:ap}{fn:Func}(ag:ap->Bool)(h:al P f fn)(a:P.follows .mixedOrders=true){args:List AV}{H H':Heap}{v:AV}(hn:args.length<=fn.ntmps)
 (b:ey P ag (fn.ntmps,H.length) (fn.body.getD .skip) (uX P fn.results.toList H.length H' v) ⟨iq 0 args,H⟩):cw P f H args H' v:=
 Nb ag h a hn (lg (Q':=sT P fn.results.toList H.length H' v) _ (fun _ _ h=>h) b)
theorem aAJ{n i:Nat}:sig [] n i=n+i:=by simp[sig]
theorem cn{f:ap}{H H':Heap}{K:AV->Heap->Prop}{v:AV}{args:List PV}(h:cw P f [] (args.map .p) H' v)(hk:K (ct (sig [] H.length) v) (H++H'.map (cQ (sig [] H.length)))):jO P false f K (args.map .p) H:=by
 refine .inr ⟨rfl,.inr (.inr (.inl ⟨dm [] H.length [] H' v,?_,⟨by simp[dm],by simp[dm]⟩,?_⟩))⟩
 ·have b:aQ (aG ([]:Heap)) (args.map .p):=by rw[cq];intro v c;obtain⟨x,_,rfl⟩:=a1.1 c;trivial
  have:=h.frame [] H.length rfl List.nodup_nil (by simp) (by simp) b (by simp);have e:cB (sig [] H.length) (args.map .p)=args.map .p:=by
   clear h b this hk
   induction args with
   |nil=>rfl
   |cons a r d=>simp only[a4,cB,ct,d]
  rwa [e]at this
 ·simpa[dm,ba]using hk
theorem MN{f:ap}{H H':Heap}{K:AV->Heap->Prop}{v:AV}{a b:PV}(h:cw P f [] [.p a,.p b] H' v)(hk:K (ct (sig [] H.length) v) (H++H'.map (cQ (sig [] H.length)))):jO P false f K [.p a,.p b] H:=cn (args:=[a,b]) h hk
def Mc(P:ax)(T:av)(f:Nat):Option (av×iV):=match kindOf P T,P.underlying T with
 | .agg u,some (.struct _)=>((iY P u)[f]?).map fun F=>(u,kindOf P F)
 |_,_=>none
def yo(P:ax)(T:av)(f:Nat)(x:AV):er:=match Mc P T f,x with
 |some (u,k),.p t=>match(cj t)[f]? with
  |some g=>some (aJ t=.agg u/\k=aJ g,{v:=.p g})
  |none=>none
 |_,_=>none
theorem Jh{T:av}{x:AV}{f:Nat}{K:aR->Prop}:(match kindOf P T,P.underlying T,x with
  | .agg u,some (.struct _),.p t=>aJ t=.agg u/\(match(cj t)[f]?,(iY P u)[f]? with
   |some g,some F=>kindOf P F=aJ g/\K {v:=.p g}
   |_,_=>False)
  |_,_,_=>False)=aX (yo P T f x) K:=by
 unfold yo Mc;cases b:kindOf P T with
 |agg u=>cases c:P.underlying T with
  |none=>simp[aX]
  |some d=>cases d with
   |struct fs=>cases x with
    |p t=>cases hc:(iY P u)[f]?<;>cases a:(cj t)[f]?<;>simp[aX,a,hc,and_assoc]
    |_=>cases hc:(iY P u)[f]?<;>simp[aX,hc]
   |_=>simp[aX]
 |_=>simp[aX]
section fields
variable{dst:Option Tmp}{ty:Nat}{pos:String}{af:Array Edge}{g:Option (Nat×Bool)}{env:Env}{heap:Heap}{L:St->Prop}{K:aR->Prop}{T:av}{x:ao}{f:Nat}
theorem Vz:dM P ag ⟨dst,.field T x f,ty,pos,af,g⟩ L ⟨env,heap⟩ ()=ch (dZ dst ⟨env,heap⟩ L) (yo P T f (ev env x)):=Jh
theorem VU:dI P ag ⟨dst,.field T x f,ty,pos,af,g⟩ ⟨env,heap⟩ K ()=ch K (yo P T f (ev env x)):=Jh
end fields
theorem xc{σ:Nat->Nat}{α:Type}{f:α->PV}:∀{l:List α},cB σ (l.map (AV.p∘f))=l.map (AV.p∘f)
 |[]=>rfl
 |a::l=>by simp only[a4,cB,xc (l:=l)];rfl
theorem TT{σ:Nat->Nat}{α β:Type}{f:β->PV}{g:α->β}{l:List α}:cB σ (l.map ((AV.p∘f)∘g))=l.map ((AV.p∘f)∘g):=xc (f:=f∘g)
theorem aAt{α β:Type}{N:Nat×Nat->Prop}{f:β->PV}{g:α->β}{l:List α}:aQ N (l.map ((AV.p∘f)∘g))=True:=OI (f:=f∘g)
attribute [simp] Vz VU TT aAt SO QQ aAJ ct cB cQ xc
end
section
variable{P:ax}{ag:ap->Bool}
theorem JG{T:Heap}:∀{h:Heap},gE T h h=True
 |[]=>by simp[gE]
 |o::h=>by simp[gE,K1,JG (h:=h)]
theorem Bs{T:Heap}:∀{h k:Heap},dx T (h++k)=(dx T h/\dx T k)
 |[],k=>by simp[dx]
 |o::h,k=>by simp[dx,Bs (h:=h),and_assoc]
theorem aAu{N:Nat×Nat->Prop}{n:Nat}{v:PV}:aQ N (a7 n (.p v))=True:=by
 rw[cq,eq_iff_iff,iff_true];intro x hx;rw[(List.mem_replicate.1 hx).2];trivial
theorem Vp{σ:Nat->Nat}{α:Type}{f:α->PV}{l:List α}:cB σ (l.map fun x=>.p (f x))=l.map fun x=>.p (f x):=xc (f:=f)
theorem nV{L:dC}{e:Env}{H:Heap}(h:L.env=e)(a:gR H e):∀x,aC (aG H) (aK L.env x):=by rw[h];exact a.get
def dC.bz(L:dC):dC:={L with st:=.busy}
def dC.dn(L:dC)(j:Code):dC:={L with st:=.done,pending:=some j}
def dC.xh(L:dC):dC:={L with st:=.exhausted}
def Stream(P:ax)(g:ap)(fi ca:List PV)(d:List (List PV)):Prop:=
 ∀(b k:Nat)(c:Nat->Heap)(H':Heap),k<=d.length->(∀i,i<=k->dx (c i) (c i)/\aC (aG (c i)) (.map b))->
  (∀i a,i<k->d[i]?=some a->fO P b (c i) (a.map .p) (c (i+1)) (.p (.bool true)))->
  (k=d.length/\H'=c k\/∃a,d[k]?=some a/\fO P b (c k) (a.map .p) H' (.p (.bool false)))->
  cw P g (c 0) (fi.map .p++[.map b]++ca.map .p) H' (.p (.aE []))
theorem W1{b:Nat}{args:List AV}{M:AV->Heap->Prop}{heap:Heap}:yS P heap M (.map b) args=∃H' v,fO P b heap args H' v/\M v H':=(rfl)
def tj(b:Nat)(L:dC)(N:Nat)(H':Heap)(v:Bool)(e:Tg (b,L,N,H',v) bn)(s:Tg (b,L,N,H',v) St):Prop:=
 match e with
 | .normal=>v=true/\(St.heap s)[b]?=some (.loop L.bz)/\cJ N ⟨[],(St.heap s).set b (.loop L)⟩ ⟨[],H'⟩
 | .exit id=>v=false/\(St.heap s)[b]?=some (.loop L.bz)/\cJ N ⟨[],(St.heap s).set b (.loop (L.dn (.exit id)))⟩ ⟨[],H'⟩
 | .ret=>v=false/\(St.heap s)[b]?=some (.loop L.bz)/\cJ N ⟨[],(St.heap s).set b (.loop (L.dn .ret))⟩ ⟨[],H'⟩
section
variable{b N:Nat}{L:dC}{H':Heap}{v:Bool}{s:St}
theorem S6:tj b L N H' v .normal s=(v=true/\s.heap[b]?=some (.loop L.bz)/\cJ N ⟨[],s.heap.set b (.loop L)⟩ ⟨[],H'⟩):=(rfl)
theorem Vr{id:Nat}:tj b L N H' v (.exit id) s=(v=false/\s.heap[b]?=some (.loop L.bz)/\cJ N ⟨[],s.heap.set b (.loop (L.dn (.exit id)))⟩ ⟨[],H'⟩):=(rfl)
theorem aAn:tj b L N H' v .ret s=(v=false/\s.heap[b]?=some (.loop L.bz)/\cJ N ⟨[],s.heap.set b (.loop (L.dn .ret))⟩ ⟨[],H'⟩):=(rfl)
end
def Dg(P:ax)(ag:ap->Bool)(q:Cx)(b:Nat)(c:Code)(L:dC)(H':Heap)(v:Bool)(e:Tg (q,b,c,L,H',v) bn)(s:Tg (q,b,c,L,H',v) St):Prop:=
 match e with
 | .normal=>(St.heap s)[b]?=some (.loop L)/\ey P ag q c (tj b L q.2 H' v) ⟨St.env s,(St.heap s).set b (.loop L.bz)⟩
 |_=>False
theorem S7{q:Cx}{b:Nat}{c:Code}{L:dC}{H':Heap}{v:Bool}{s:St}:Dg P ag q b c L H' v .normal s=(s.heap[b]?=some (.loop L)/\ey P ag q c (tj b L q.2 H' v) ⟨s.env,s.heap.set b (.loop L.bz)⟩):=(rfl)
theorem px(ag:ap->Bool)(r:P.follows .mixedOrders=true){b n:Nat}{L:dC}{H H':Heap}{args:List AV}{v:Bool}{j:List Tmp}{a c:Code}{env:Env}
 (d:L=⟨.ready,none,n,j,a,c,env⟩)(o:H[b]?=some (.loop L))(q:args.length=j.length)
 (t:(j.all (fun x=>decide (x<n))&&codeOk fit n a&&codeOk fit n c)=true)
 (u:ey P ag (n,H.length) a (Dg P ag (n,H.length) b c L H' v) ⟨qf j args env,H⟩):fO P b H args H' (.p (.bool v)):=by
 refine Nc ag r o (by rw[d];exact q) (by rw[d];exact t) ?_;unfold xD;have e1:L.n=n:=by rw[d]
 have e2:L.assign=a:=by rw[d]
 have e3:L.body=c:=by rw[d]
 have e4:L.params=j:=by rw[d]
 have e5:L.env=env:=by rw[d]
 have k:L.st=.ready:=by rw[d]
 rw[e1,e2,e3,e4,e5];refine lg (Q:=Dg P ag (n,H.length) b c L H' v) _ (fun e s h=>?_) u;cases e with
 |normal=>
  obtain⟨l,m⟩:=h;simp only[wL,l];refine⟨k,lg (Q:=tj b L H.length H' v) _ (fun e s h=>?_) m⟩;cases e with
  |normal=>
   obtain⟨rfl,f,g⟩:=h;have i:s.heap[b]?=some (.loop L.bz):=f;simp only[rU,i,gA];refine⟨rfl,?_⟩;have:({L.bz with st:=LoopState.ready,pending:=none}:dC)=L:=by subst d;rfl
   simpa[this]using g
  |exit id=>
   obtain⟨rfl,f,g⟩:=h;have i:s.heap[b]?=some (.loop L.bz):=f;simp only[rU,i,gA];exact⟨rfl,g⟩
  |ret=>
   obtain⟨rfl,f,g⟩:=h;have i:s.heap[b]?=some (.loop L.bz):=f;simp only[rU,i,gA];exact⟨rfl,g⟩
 |exit id=>exact h.elim
 |ret=>exact h.elim
theorem rf{f:ao}{h:Array Tmp}{a c:Code}{Q:bn->St->Prop}{env:Env}{heap:Heap}{q:Cx}{g:ap}{fi ca:List PV}{n:List (List PV)}(aF:Stream P g fi ca n)(hf:ev env f= .p (.func g fi ca))(hq:q.2<=heap.length)
 (X:dC->Nat->Heap)(k:Nat)(hk:k<=n.length)(u:∀L,X L 0=heap++[.loop L])
 (hx:∀L,L=⟨.ready,none,q.1,h.toList,a,c,env⟩->∀i,i<=k->(X L i)[heap.length]?=some (.loop L)/\gR (X L i) env/\(gR (X L i) env->(∀x,aC (aG (X L i)) (aK L.env x))->dx (X L i) (X L i)))
 (t:∀L,L=⟨.ready,none,q.1,h.toList,a,c,env⟩->∀i x,i<k->n[i]?=some x->fO P heap.length (X L i) (x.map .p) (X L (i+1)) (.p (.bool true)))
 (y:∀L,L=⟨.ready,none,q.1,h.toList,a,c,env⟩->(k=n.length/\Q .normal ⟨env,(X L k).set heap.length (.loop L.xh)⟩)\/
  ∃x j l,n[k]?=some x/\l[heap.length]?=some (.loop (L.dn j))/\fO P heap.length (X L k) (x.map .p) l (.p (.bool false))/\jd Q (some j) ⟨env,l.set heap.length (.loop (L.dn j).xh)⟩):
 ey P ag q (.rangeFunc f h a c) Q ⟨env,heap⟩:=by
 obtain⟨L,b⟩:∃L:dC,L=⟨.ready,none,q.1,h.toList,a,c,env⟩:=⟨_,rfl⟩
 have s:=aF heap.length k (X L);refine⟨hq,?_⟩;show iK P (ev env f) heap.length (heap++[.loop ⟨.ready,none,q.1,h.toList,a,c,env⟩]) (gQ heap.length env Q);rw[hf];simp only[iK];rw[<-b,<-u L];have r:∀i,i<=k->dx (X L i) (X L i)/\aC (aG (X L i)) (.map heap.length):=by
  intro i hi;obtain⟨m,d,o⟩:=hx L b i hi;have e5:L.env=env:=by rw[b]
  refine⟨o d (by rw[e5];exact d.get),?_⟩;simp only[aC,aG,m];exact⟨_,rfl,by simp[Obj.has]⟩
 rcases y L b with⟨m,d⟩|⟨x,j,l,m,d,o,v⟩
 ·refine⟨_,_,s (X L k) hk r (t L b) (.inl ⟨m,rfl⟩),?_⟩;have w:=(hx L b k (bb k)).1;simp only[gQ,w];refine⟨by rw[b];simp,?_⟩;have:L.pending=none:=by rw[b]
  simp only[this,jd];have e:L.xh={L with st:=.exhausted}:=rfl;rw[this]at e;rw[e]at d;exact d
 ·refine⟨_,_,s l hk r (t L b) (.inr ⟨x,m,o⟩),?_⟩;simp only[gQ,d];exact⟨by simp[dC.dn],v⟩
section XJ
variable{f:ap}{H0 bN H:Heap}{fj args:List AV}{v0:AV}{K:AV->Heap->Prop}{L:aR->Prop}
theorem Ez(h:cw P f H0 fj bN v0)(bs:List Nat)(e:bs.length=H0.length)(i:bs.Nodup)(g:∀b∈bs,b<H.length)(d:H0.length<=bN.length)(a:aQ (aG H0) fj)(j:dx H0 H0)(c:cB (sig bs H.length) fj=args):
 qN P f args H.length (dm bs H.length H0 bN v0):=by
 have:=h.frame bs H.length e i g d a j.get
 rwa [c]at this
theorem cf(h:cw P f H0 fj bN v0)(bs:List Nat)(hk:K (ct (sig bs H.length) v0) (ba H (bs.zip ((bN.take H0.length).map (cQ (sig bs H.length))))++(bN.drop H0.length).map (cQ (sig bs H.length))))(aj:∀p∈bs.zip (H0.map (cQ (sig bs H.length))),H[p.1]?=some p.2:=by simp[sig])(aI:∀p∈bs.zip ((bN.take H0.length).map (cQ (sig bs H.length))),p.1<H.length/\p.2≠ .hole:=by simp[sig])
 (e:bs.length=H0.length:=by simp)(i:bs.Nodup:=by simp)(g:∀b∈bs,b<H.length:=by simp)(d:H0.length<=bN.length:=by simp)(a:aQ (aG H0) fj:=by simp)(hr:dx H0 H0:=by simp)(c:cB (sig bs H.length) fj=args:=by simp[sig]):jO P false f K args H:=
 .inr ⟨rfl,.inr (.inr (.inl ⟨_,Ez h bs e i g d a hr c,⟨aj,aI⟩,hk⟩))⟩
theorem ef(h:cw P f H0 fj bN v0)(bs:List Nat)(hk:L {v:=ct (sig bs H.length) v0,aj:=bs.zip (H0.map (cQ (sig bs H.length))),aI:=bs.zip ((bN.take H0.length).map (cQ (sig bs H.length))),aP:=(bN.drop H0.length).map (cQ (sig bs H.length))})(aj:∀p∈bs.zip (H0.map (cQ (sig bs H.length))),H[p.1]?=some p.2:=by simp[sig])(aI:∀p∈bs.zip ((bN.take H0.length).map (cQ (sig bs H.length))),p.1<H.length/\p.2≠ .hole:=by simp[sig])
 (e:bs.length=H0.length:=by simp)(i:bs.Nodup:=by simp)(g:∀b∈bs,b<H.length:=by simp)(d:H0.length<=bN.length:=by simp)(a:aQ (aG H0) fj:=by simp)(j:dx H0 H0:=by simp)(c:cB (sig bs H.length) fj=args:=by simp[sig]):mr P f L args H:=
 .inr (.inr (.inl ⟨_,Ez h bs e i g d a j c,⟨aj,aI⟩,hk⟩))
end XJ
section bytes
variable{dst:Option Tmp}{ty:Nat}{pos:String}{af:Array Edge}{g:Option (Nat×Bool)}{env:Env}{heap:Heap}{L:St->Prop}{K:aR->Prop}
theorem Xo{x:ao}{d:Array av}{b ar ai off len:Nat}{k:AK}{es:List AV}(hx:ev env x= .sl b ar ai off len)(f:heap[b]?=some (.arr k ar ai es))(e:0<len)(h:off+len<=es.length)
 (hk:K {v:=.bR b ar ai off [],aj:=[(b,.arr k ar ai es)]}):dI P ag ⟨dst,.call {callee:=.builtin .unsafeSliceData,args:=#[x],argTypes:=d},ty,pos,af,g⟩ ⟨env,heap⟩ K ():=by
 show(match ev env x with
   | .p .aO=>K {v:=.p .du}
   | .sl b ar ai off len=>(match heap[b]? with
    |some (.arr k c a es)=>ar=c/\ai=a/\((k.gr=true/\es=[]/\K {v:=.p .du,aj:=[(b,.arr k c a es)]})\/(0<len/\off+len<=es.length/\K {v:=.bR b ar ai off [],aj:=[(b,.arr k c a es)]}))
    |_=>False)
   |_=>False)
 rw[hx];simp only[f];exact⟨trivial,trivial,.inr ⟨e,h,hk⟩⟩
theorem Xq{x y:ao}{a:Array av}{b ar:Nat}{m:Int}{es:List AV}{l:List Nat}(hx:ev env x= .bR b ar 1 0 [])(o:ev env y= .p (.int .i64 m))(i:heap[b]?=some (.arr .bytes ar 1 es))(c:0<m)(k:m.toNat<=es.length)(d:m<=9223372036854775807)
 (f:a.size=2)(e:ptrTo P (a.getD 0 0)=some Gl.u8)(n:P.cellsOf Gl.u8=1)(j:bytesOf (es.take m.toNat)=some l)
 (hk:K {v:=.p (.str l),aj:=[(b,.arr .bytes ar 1 es)],aI:=[(b,.dead)]}):dI P ag ⟨dst,.call {callee:=.builtin .unsafeString,args:=#[x,y],argTypes:=a},ty,pos,af,g⟩ ⟨env,heap⟩ K ():=by
 have h:fc P ag ⟨dst,.call {callee:=.builtin .unsafeString,args:=#[x,y],argTypes:=a},ty,pos,af,g⟩ (ev env) heap K:=by
  unfold fc;simp only[a4,List.map_nil,hx,o,i];exact⟨trivial,trivial,trivial,trivial,c,k,d,f,e,n,by rw[j];exact hk⟩
 exact h
end bytes
theorem rf2{f:ao}{h:Array Tmp}{a c:Code}{Q:bn->St->Prop}{env:Env}{heap:Heap}{q:Cx}{g:ap}{fi ca:List PV}{b:List (List PV)}(aF:Stream P g fi ca b)(hf:ev env f= .p (.func g fi ca))(hq:q.2<=heap.length)
 (X F:dC->Nat->Heap)(okB:Nat->Bool)(j:Code)(k:Nat)(hk:k<=b.length)(u:∀i,i<k->okB i=true)(r:k=b.length\/(k<b.length/\okB k=false))(m:∀L,X L 0=heap++[.loop L])
 (hx:∀L,L=⟨.ready,none,q.1,h.toList,a,c,env⟩->∀i,i<=k->(X L i)[heap.length]?=some (.loop L)/\gR (X L i) env/\(gR (X L i) env->(∀x,aC (aG (X L i)) (aK L.env x))->dx (X L i) (X L i)))
 (l:∀L,L=⟨.ready,none,q.1,h.toList,a,c,env⟩->∀i x,i<=k->b[i]?=some x->fO P heap.length (X L i) (x.map .p) (if okB i=true then X L (i+1)else F L (i+1)) (.p (.bool (okB i))))
 (n:∀L,(F L (k+1))[heap.length]?=some (.loop (L.dn j)))
 (s:k=b.length->∀L,Q .normal ⟨env,(X L k).set heap.length (.loop L.xh)⟩)
 (v:k<b.length->∀L,jd Q (some j) ⟨env,(F L (k+1)).set heap.length (.loop (L.dn j).xh)⟩):
 ey P ag q (.rangeFunc f h a c) Q ⟨env,heap⟩:=by
 refine rf aF hf hq X k hk m hx (fun L e i x hi t=>?_) (fun L e=>?_)
 ·have:=l L e i x (by omega) t;rw[u i hi]at this;exact this
 ·rcases r with d|⟨d,o⟩
  ·exact .inl ⟨d,s d L⟩
  ·right;refine⟨b[k],j,F L (k+1),a5 d,n L,?_,v d L⟩;have:=l L e k b[k] (bb _) (a5 d);rw[o]at this;exact this
attribute [simp] Vp aAu JG Bs S6 Vr aAn S7 W1 qf
end
section
variable{P:ax}{ag:ap->Bool}{w:a0}{aa ah:Nat->Prop}{β:Bd}{H:Heap}
def mz(K:Nat->Bool)(H:Heap):Heap:=H.mapIdx fun i o=>if K i then .dead else o
theorem AR{K:Nat->Bool}{b:Nat}:(mz K H)[b]?=(H[b]?).map fun o=>if K b then .dead else o:=by simp[mz]
theorem kr{K:Nat->Bool}{b:Nat}{o:Obj}(h:(mz K H)[b]?=some o):∃a,H[b]?=some a/\((K b=true/\o=.dead)\/(K b=false/\o=a)):=by
 rw[AR,Option.map_eq_some_iff]at h;obtain⟨a,d,c⟩:=h;refine⟨a,d,?_⟩;cases hk:K b<;>simp[hk]at c
 ·exact .inr ⟨rfl,c.symm⟩
 ·exact .inl ⟨rfl,c.symm⟩
theorem Bn{K:Nat->Bool}{x:Nat×Nat}(h:aG H x):aG (mz K H) x:=by
 obtain⟨o,a,b⟩:=h;refine⟨if K x.1 then .dead else o,by rw[AR,a];rfl,?_⟩
 split
 ·trivial
 ·exact b
theorem Ap{K:Nat->Bool}:bX β H β (mz K H):=by
 refine⟨fun b _ h=>⟨?_,rfl⟩,fun b _ h=>⟨?_,rfl⟩,fun b _ h=>⟨?_,rfl⟩,fun b ar ai k f _ h=>⟨k,f,?_,bb _,Iff.rfl,fun _=>⟨rfl,rfl⟩⟩,fun b _ h=>⟨?_,rfl⟩⟩
 ·obtain⟨fz,t,h⟩:=h;obtain⟨d,c,a⟩:=kr h;rcases a with⟨_,a⟩|⟨_,rfl⟩
  ·cases a
  ·exact⟨fz,t,c⟩
 ·obtain⟨s,q,h⟩:=h;obtain⟨d,c,a⟩:=kr h;rcases a with⟨_,a⟩|⟨_,rfl⟩
  ·cases a
  ·exact⟨s,q,c⟩
 ·obtain⟨g,h,e⟩:=h;obtain⟨d,c,a⟩:=kr h;rcases a with⟨_,rfl⟩|⟨_,rfl⟩
  ·exact e.elim
  ·exact⟨_,c,e⟩
 ·obtain⟨d,c,a⟩:=kr h;rcases a with⟨_,a⟩|⟨_,rfl⟩
  ·cases a
  ·exact c
 ·obtain⟨L,h⟩:=h;obtain⟨d,c,a⟩:=kr h;rcases a with⟨_,a⟩|⟨_,rfl⟩
  ·cases a
  ·exact⟨L,c⟩
def zx(K:Nat->Bool)(aa:Nat->Prop)(β:Bd)(H:Heap)(k:Nat):Prop:=aa k\/∃(b:Nat)(o:Obj),H[b]?=some o/\o.live/\K b=true/\β.ak b=k
theorem bL.kill(K:Nat->Bool)(a:bL P w aa β H ah):bL P w aa β (mz K H) ah:=by
 refine⟨fun b o e=>?_,fun b b' o o' e n f g m l=>?_,fun b o e=>?_,a.bM,a.dP,a.gU⟩
 ·obtain⟨i,c,d⟩:=kr e;rcases d with⟨_,rfl⟩|⟨_,rfl⟩
  ·trivial
  ·exact eK.carry (fun _ x=>x) (fun _ _=>rfl) Ap (a.refs b o c) (fun _=>⟨rfl,rfl,rfl⟩) (fun _ _ h=>h) (a.cg b o c)
 ·obtain⟨i,c,d⟩:=kr e;obtain⟨p,j,k⟩:=kr n;rcases d with⟨_,rfl⟩|⟨_,rfl⟩
  ·exact f.elim
  rcases k with⟨_,rfl⟩|⟨_,rfl⟩
  ·exact g.elim
  exact a.inj b b' _ _ c j f g m l
 ·obtain⟨i,c,d⟩:=kr e;rcases d with⟨_,rfl⟩|⟨_,rfl⟩
  ·trivial
  ·exact Obj.ur (fun _ h=>Bn h) (a.refs b o c)
theorem bL.ayD(K:Nat->Bool)(a:bL P w aa β H ah):bL P w (zx K aa β H) β (mz K H) ah:=by
 have hk:=a.kill K;have hi:∀k,aa k->zx K aa β H k:=fun k h=>.inl h;refine⟨fun b o c=>?_,fun b b' o o' c r d p q n=>hk.inj b b' o o' c r d p (fun h=>q (hi _ h)) n,hk.refs,fun k h=>?_,a.dP,⟨fun g=>aA.mono hi (fun _ _=>rfl) _ _ (a.gU.val g),fun g cs h=>⟨hi _ (a.gU.raw g cs h).1,(a.gU.raw g cs h).2⟩⟩⟩
 ·have f:=c;obtain⟨t,j,l⟩:=kr c;rcases l with⟨_,rfl⟩|⟨s,rfl⟩
  ·trivial
  ·refine eK.carry hi (fun _ _=>rfl) (bX.refl β _) (hk.refs b o f) (fun _=>⟨rfl,rfl,rfl⟩) (fun d fz h=>?_) (hk.cg b o f);cases fz with
   |true=>exact hi _ h
   |false=>
    refine⟨?_,h.2⟩;rintro(m|⟨e,i,g1,g2,g3,g4⟩)
    ·exact h.1 m
    ·have:=a.inj e b i o g1 j g2 d (by rw[g4];exact h.1) g4;rw[this,s]at g3;cases g3
 ·rcases h with h|⟨e,i,g1,g2,g3,rfl⟩
  ·exact a.bM k h
  ·exact a.mh g1 g2
theorem eK.held{b:Nat}{o:Obj}(h:eK P w aa β H ah b o)(a:o.live):aa (β.ak b)\/¬ah (β.ak b):=by
 by_cases hi:aa (β.ak b)
 ·exact .inl hi
 ·exact .inr (h.mut a hi)
theorem cw.pure{f:ap}{args:List AV}{H':Heap}{v:AV}{n:Nat}{p:PV}(K:Nat->Bool)(h:cw P f H args H' v)(C:dV (mz (fun i=>!K i) H') n v=some p)(B:∀b L,K b=true->H[b]?≠some (.loop L)):
 cw P f H args (mz K H') (.p p):=by
 refine⟨h.1,fun w aa ah β t E z F=>(h.2 w aa ah β t E z F).mono ?_⟩;rintro e w' ⟨j,aH,aD,rfl,d,G,r⟩;have q:=d.rel;have A:=q.kill (fun i=>!K i);have I:au P w' aD aH (mz (fun i=>!K i) H') v j:=au.mono (fun _ x=>x) (fun _ _=>rfl) Ap _ _ r G;have D:=wM A n v p C (aC.mono (fun _ h=>Bn h) v r) j I;refine⟨j,aH,zx K aD aH H',rfl,⟨fun k hk=>.inl (d.bM k hk),?_,d.ext,?_,q.ayD K,fun x hx=>Bn (d.eH x hx),?_⟩,?_,trivial⟩
 ·rintro k (hk|⟨b,o,g1,g2,g3,rfl⟩)
  ·exact d.fresh k hk
  ·rcases(q.cg b o g1).held g2 with h|h
   ·exact d.fresh _ h
   ·exact .inr h
 ·have aF:=d.step;have hk:=Ap (K:=K) (β:=aH) (H:=H');refine⟨fun b a c=>?_,fun b a c=>?_,fun b a c=>?_,fun b ar ai k es a c=>?_,fun b a c=>?_⟩
  ·exact aF.box b a (hk.box b (d.eH _ a) c).1
  ·exact aF.it b a (hk.it b (d.eH _ a) c).1
  ·exact aF.map b a (hk.map b (d.eH _ a) c).1
  ·have u:et H' b ar ai k es:=by
    obtain⟨M,l,g⟩:=kr c;rcases g with⟨_,g⟩|⟨_,rfl⟩
    ·cases g
    ·exact l
   exact aF.arr b ar ai k es a u
  ·exact aF.loop b a (hk.loop b (d.eH _ a) c).1
 ·rintro b ⟨L,c⟩;obtain⟨s,y⟩:=d.loop b ⟨L,c⟩;have m:K b=false:=by
   cases m:K b with
   |false=>rfl
   |true=>exact(B b L m c).elim
  exact⟨s,by rw[AR,y];simp[m]⟩
 ·show aA P w' _ p j;refine aA.mono ?_ (fun _ _=>rfl) _ _ D;rintro k (hk|⟨b,o,g1,g2,rfl⟩)
  ·exact .inl hk
  ·obtain⟨M,l,g⟩:=kr g1;rcases g with⟨_,rfl⟩|⟨J,rfl⟩
   ·exact g2.elim
   ·exact .inr ⟨b,o,l,g2,by simpa using J,rfl⟩
end
section
variable{P:ax}{w:a0}{aa ah:Nat->Prop}{β:Bd}
theorem rN{t t':AV}{r:Heap}:bX β (.box false t::r) β (.box false t'::r):=by
 refine⟨fun b _ h=>⟨?_,rfl⟩,fun b _ h=>⟨?_,rfl⟩,fun b _ h=>⟨?_,rfl⟩,fun b ar ai k c _ h=>⟨k,c,?_,bb _,Iff.rfl,fun _=>⟨rfl,rfl⟩⟩,fun b _ h=>⟨?_,rfl⟩⟩
 ·cases b with
  |zero=>exact⟨false,t,rfl⟩
  |succ b=>exact h
 ·obtain⟨s,q,h⟩:=h;cases b with
  |zero=>simp at h
  |succ b=>exact⟨s,q,h⟩
 ·obtain⟨d,h,a⟩:=h;cases b with
  |zero=>simp at h;subst h;exact a.elim
  |succ b=>exact⟨d,h,a⟩
 ·cases b with
  |zero=>simp[et]at h
  |succ b=>exact h
 ·obtain⟨L,h⟩:=h;cases b with
  |zero=>simp at h
  |succ b=>exact⟨L,h⟩
theorem pP{t t':AV}{r:Heap}{x:Nat×Nat}(h:aG (.box false t::r) x):aG (.box false t'::r) x:=by
 obtain⟨o,a,c⟩:=h;obtain⟨b,v⟩:=x;cases b with
 |zero=>exact⟨_,rfl,trivial⟩
 |succ b=>exact⟨o,a,c⟩
theorem bL.swap{t d:AV}{r:Heap}(c:bL P w aa β (.box false t::r) ah)(hc:∀cs,bc P w aa β (.box false t::r) t cs->bc P w aa β (.box false t::r) d cs)(l:∀T,iS T (ad d)=true)
 (g:∀n,aC n t->aC n d):bL P w aa β (.box false d::r) ah:=by
 refine⟨fun b o a=>?_,fun b b' o o' a s f p q m=>?_,fun b o a=>?_,c.bM,c.dP,c.gU⟩
 ·cases b with
  |zero=>
   simp at a;subst a;obtain⟨cs,T,i,j,k,y,z⟩:=c.cg 0 _ rfl;have u:=c.refs 0 _ rfl;exact⟨cs,T,i,bc.mono (fun _ x=>x) (fun _ _=>rfl) rN _ _ (g _ u) (hc _ j),k,(fun h=>absurd h (by simp)),l T⟩
  |succ b=>exact eK.carry (fun _ x=>x) (fun _ _=>rfl) rN (c.refs (b+1) o a) (fun _=>⟨rfl,rfl,rfl⟩) (fun _ _ h=>h) (c.cg (b+1) o a)
 ·have key:∀{b:Nat}{o:Obj},(Obj.box false d::r)[b]?=some o->o.live->∃e,(Obj.box false t::r)[b]?=some e/\e.live:=by
   intro b o a f;cases b with
   |zero=>exact⟨_,rfl,trivial⟩
   |succ b=>exact⟨o,a,f⟩
  obtain⟨e,k1,k2⟩:=key a f;obtain⟨v,k3,k4⟩:=key s p;exact c.inj b b' e v k1 k3 k2 k4 q m
 ·cases b with
  |zero=>
   simp at a;subst a;exact aC.mono (fun _ h=>pP h) _ (g _ (c.refs 0 _ rfl))
  |succ b=>exact Obj.ur (fun _ h=>pP h) (c.refs (b+1) o a)
theorem JP{H:Heap}{u:av}{n:Nat}(f:dy P u=some [n]){t:AV}{cs:List aT}:bc P w aa β H (.st u [t]) cs↔bc P w aa β H t cs/\cs.length=n:=by
 simp only[bc,f,bo];constructor
 ·rintro⟨l,g,rfl,a,rfl⟩;simp only[bF]at a;obtain⟨c,d,rfl,b,e,rfl⟩:=a;simpa using⟨b,e⟩
 ·rintro⟨a,b⟩;exact⟨[n],[cs],rfl,by simp only[bF];exact⟨cs,[],rfl,a,b,rfl⟩,by simp⟩
theorem cw.wrap{f:ap}{u:av}{n:Nat}{t i:AV}{r j:Heap}{args:List AV}{v:AV}(q:dy P u=some [n])(a:∀T,iS T (.agg u)=true)(F:∀T,iS T (ad t)=true)(G:∀(w:a0)(aa:Nat->Prop)(β:Bd)(H:Heap)(cs:List aT),bc P w aa β H i cs->cs.length=n)
 (h:cw P f (.box false t::r) (.ptr 0 []::args) (.box false i::j) v):cw P f (.box false (.st u [t])::r) (.ptr 0 [(u,0)]::args) (.box false (.st u [i])::j) v:=by
 refine⟨h.1,fun w aa ah β N hr D y=>?_⟩;have J:bL P w aa β (.box false t::r) ah:=hr.swap (fun cs h=>((JP q).1 h).1) F (fun n h=>by simpa[aC,aQ]using h);obtain⟨x,xs,rfl,h1,C⟩:=D;have E:br P w aa β (.box false t::r) (.ptr 0 []::args) (x::xs):=by
  refine⟨x,xs,rfl,?_,br.mono (fun _ x=>x) (fun _ _=>rfl) rN _ _ y.2 C⟩;obtain⟨q1,ak,off,o,s,M,q4⟩:=h1;refine⟨q1,ak,off,0,s,rfl,fun _=>?_⟩;have I:o=0:=by simpa[fK,q]using M.symm
  have:=q4 (.inl ⟨false,_,rfl⟩);rw[I]at this;exact this
 refine(h.2 w aa ah β (x::xs) J E ⟨⟨_,rfl,trivial⟩,aQ.mono (fun _ h=>pP h) _ y.2⟩).mono ?_;rintro e w' ⟨B,aH,aD,rfl,g,K,z⟩;refine⟨B,aH,aD,rfl,⟨g.bM,g.fresh,g.ext,?_,?_,fun x hx=>pP (g.eH x (pP hx)),?_⟩,au.mono (fun _ x=>x) (fun _ _=>rfl) rN _ _ z K,aC.mono (fun _ h=>pP h) _ z⟩
 ·have aF:=g.step;have m:=rN (β:=β) (t:=.st u [t]) (t':=t) (r:=r);have p:=rN (β:=aH) (t:=i) (t':=.st u [i]) (r:=j);have d:∀x,aG (.box false (.st u [t])::r) x->aG (.box false t::r) x:=fun x h=>pP h;have l:∀x,aG (.box false t::r) x->aG (.box false i::j) x:=g.eH;refine⟨fun b a c=>?_,fun b a c=>?_,fun b a c=>?_,fun b ar ai k es a c=>?_,fun b a c=>?_⟩
  ·obtain⟨k1,k2⟩:=p.box b (l _ (d _ a)) c;obtain⟨k3,k4⟩:=aF.box b (d _ a) k1;exact⟨(m.box b a k3).1,k4⟩
  ·obtain⟨k1,k2⟩:=p.it b (l _ (d _ a)) c;obtain⟨k3,k4⟩:=aF.it b (d _ a) k1;exact⟨(m.it b a k3).1,k4⟩
  ·obtain⟨k1,k2⟩:=p.map b (l _ (d _ a)) c;obtain⟨k3,k4⟩:=aF.map b (d _ a) k1;exact⟨(m.map b a k3).1,k4⟩
  ·have k1:et (.box false i::j) b ar ai k es:=by
    cases b with
    |zero=>simp[et]at c
    |succ b=>exact c
   obtain⟨k0,gf,q1,s⟩:=aF.arr b ar ai k es (d _ a) k1;refine⟨k0,gf,?_,s⟩;cases b with
   |zero=>simp[et]at q1
   |succ b=>exact q1
  ·obtain⟨k1,k2⟩:=p.loop b (l _ (d _ a)) c;obtain⟨k3,k4⟩:=aF.loop b (d _ a) k1;exact⟨(m.loop b a k3).1,k4⟩
 ·exact g.rel.swap (fun cs h=>(JP q).2 ⟨h,G _ _ _ _ _ h⟩) a (fun n h=>by simpa[aC,aQ]using h)
 ·rintro b ⟨L,c⟩;have k1:gz (.box false t::r) b:=by
   cases b with
   |zero=>simp at c
   |succ b=>exact⟨L,c⟩
  obtain⟨A,k2⟩:=g.loop b k1;cases b with
  |zero=>simp at k2
  |succ b=>exact⟨A,k2⟩
end
section
variable{P:ax}{w:a0}{aa ah:Nat->Prop}{β:Bd}
def sS(n:Nat):Heap:=a7 n .dead
theorem mV{n b:Nat}{o:Obj}(h:(sS n)[b]?=some o):o=.dead:=by
 simp only[sS,a6]at h
 split at h
 ·injection h with h;exact h.symm
 ·cases h
theorem cw.cut{f:ap}{H:Heap}{args:List AV}{n:Nat}{p:PV}(h:cw P f H args (sS n) (.p p)):cw P f H args (sS H.length) (.p p):=by
 refine⟨h.1,fun w aa ah β i v r y=>(h.2 w aa ah β i v r y).mono ?_⟩;rintro e w' ⟨j,aH,aD,rfl,a,z,A⟩;have no:∀{m b:Nat}{o:Obj},(sS m)[b]?=some o->o.live->False:=fun h d=>by rw[mV h]at d;exact d
 refine⟨j,aH,aD,rfl,⟨a.bM,a.fresh,a.ext,⟨?_,?_,?_,?_,?_⟩,⟨fun b o c=>by rw[mV c];trivial,fun b b' o o' c _ d=>(no c d).elim,fun b o c=>by rw[mV c];trivial,a.rel.bM,a.rel.dP,a.rel.gU⟩,?_,?_⟩,z,trivial⟩
 ·rintro b _ ⟨fz,t,h⟩;cases mV h
 ·rintro b _ ⟨fz,t,h⟩;cases mV h
 ·rintro b _ ⟨B,h,g⟩;rw[mV h]at g;exact g.elim
 ·intro b ar ai k es _ h;cases mV h
 ·rintro b _ ⟨L,h⟩;cases mV h
 ·rintro x ⟨o,l,_⟩;have u:=(a3.1 l).1;exact⟨.dead,by rw[sS,a6,if_pos u],trivial⟩
 ·intro b s;obtain⟨L,q⟩:=a.loop b s;cases mV q
theorem cw.cR{f:ap}{H H':Heap}{args:List AV}{v v':PV}(h:cw P f H args H' (.p v))(k:Wk v v'):cw P f H args H' (.p v'):=by
 refine⟨h.1,fun w aa ah β a i d j=>(h.2 w aa ah β a i d j).mono ?_⟩;rintro e w' ⟨b,aH,aD,rfl,g,c,l⟩;exact⟨b,aH,aD,rfl,g,aA.cR _ _ _ k c,trivial⟩
end
section
variable{P:ax}
def yM(P:ax)(a:List ay)(N:Nat)(Q:AV->Heap->Prop)(e:Tg (a,N,Q) bn)(s:Tg (a,N,Q) St):Prop:=
 (match e with
  | .exit _=>False
  |_=>True)/\∃vs,fg P s a=some vs/\∃H',Q (oneOf vs) H'/\(H'=St.heap s\/(cJ N s ⟨[],H'⟩/\aC (aG H') (oneOf vs)))
theorem TZ{a:List ay}{N:Nat}{Q:AV->Heap->Prop}{s:St}:yM P a N Q .ret s=∃vs,fg P s a=some vs/\∃H',Q (oneOf vs) H'/\(H'=s.heap\/(cJ N s ⟨[],H'⟩/\aC (aG H') (oneOf vs))):=by simp[yM]
theorem RE{a:List ay}{N:Nat}{Q:AV->Heap->Prop}{s:St}:yM P a N Q .normal s=∃vs,fg P s a=some vs/\∃H',Q (oneOf vs) H'/\(H'=s.heap\/(cJ N s ⟨[],H'⟩/\aC (aG H') (oneOf vs))):=by simp[yM]
attribute [simp] TZ RE
end
section
variable{P:ax}
theorem az.heap{f:ap}{vs j:List PV}{v:PV}{H H1:Heap}{args:List AV}(h:az P f vs v)(g:Enters P f)(o:mL H args=some (j,H1))(l:bw j vs:=by first|exact bw.refl _|simp):cw P f H args H1 (.p v):=by
 refine⟨g,fun w aa ah β x u r q=>?_⟩;obtain⟨b,a,i⟩:=AD o u r q;rcases h.cR l (Wk.refl _)with m|n
 ·intro cs;obtain⟨e,w',k,⟨c,aD,he,m1,m2,m3,m4,m5,m6,m7⟩,aF,s,t⟩:=m.2 w b _ a.rel.bM a.rel.gU i cs;subst he;exact⟨_,w',k,⟨c,β,aD,rfl,a.trans (a.rel.later m1 m2 m3 m4 m5 m6),by simpa[au]using m7,by simp[aC]⟩,aF,s,t⟩
 ·obtain⟨c,d,_⟩:=n w b _ i;rw[g]at d;cases d
end
section
variable{P:ax}{ag:ap->Bool}
def D1(P:ax)(g:ap)(fi ca:List PV)(h:List (List PV))(d:Nat->Heap):Prop:=
 ∀(b k:Nat)(c f:Nat->Heap)(H':Heap),k<=h.length->(∀i,i<=k->dx (c i) (c i)/\aC (aG (c i)) (.map b))->
  (∀i a,i<k->h[i]?=some a->fO P b (c i++d i) (a.map .p) (f i) (.p (.bool true))/\(c i++d i).length<=(f i).length/\(∀j,j<(c i++d i).length->(f i)[j]?=some .hole->(c i++d i)[j]?=some .hole)/\
   (c (i+1)).take (c 0).length=(f i).take (c 0).length/\gE (c (i+1)) (f i) (c (i+1)))->
  (k=h.length/\H'=c k\/∃a e,h[k]?=some a/\fO P b (c k++d k) (a.map .p) e (.p (.bool false))/\(c k++d k).length<=e.length/\(∀j,j<(c k++d k).length->e[j]?=some .hole->(c k++d k)[j]?=some .hole)/\
   H'.take (c 0).length=e.take (c 0).length/\gE H' e H'/\dx H' H')->
  cw P g (c 0) (fi.map .p++[.map b]++ca.map .p) H' (.p (.aE []))
theorem OG{f:ao}{n:Array Tmp}{a c:Code}{Q:bn->St->Prop}{env:Env}{heap:Heap}{q:Cx}{g:ap}{fi ca:List PV}{r:List (List PV)}{h:Nat->Heap}(aF:D1 P g fi ca r h)(hf:ev env f= .p (.func g fi ca))(hq:q.2<=heap.length)
 (X Y:dC->Nat->Heap)(k:Nat)(hk:k<=r.length)(u:∀L,X L 0=heap++[.loop L])
 (hx:∀L,L=⟨.ready,none,q.1,n.toList,a,c,env⟩->∀i,i<=k->(X L i)[heap.length]?=some (.loop L)/\gR (X L i) env/\(gR (X L i) env->(∀x,aC (aG (X L i)) (aK L.env x))->dx (X L i) (X L i)))
 (w:∀L,L=⟨.ready,none,q.1,n.toList,a,c,env⟩->∀i x,i<k->r[i]?=some x->fO P heap.length (X L i++h i) (x.map .p) (Y L i) (.p (.bool true))/\(X L i++h i).length<=(Y L i).length/\(∀j,j<(X L i++h i).length->(Y L i)[j]?=some .hole->(X L i++h i)[j]?=some .hole)/\
  (X L (i+1)).take (heap.length+1)=(Y L i).take (heap.length+1)/\gE (X L (i+1)) (Y L i) (X L (i+1)))
 (G:∀L,L=⟨.ready,none,q.1,n.toList,a,c,env⟩->(k=r.length/\Q .normal ⟨env,(X L k).set heap.length (.loop L.xh)⟩)\/
  ∃x j l b,r[k]?=some x/\b[heap.length]?=some (.loop (L.dn j))/\fO P heap.length (X L k++h k) (x.map .p) l (.p (.bool false))/\(X L k++h k).length<=l.length/\(∀i,i<(X L k++h k).length->l[i]?=some .hole->(X L k++h k)[i]?=some .hole)/\
  b.take (heap.length+1)=l.take (heap.length+1)/\gE b l b/\dx b b/\jd Q (some j) ⟨env,b.set heap.length (.loop (L.dn j).xh)⟩):
 ey P ag q (.rangeFunc f n a c) Q ⟨env,heap⟩:=by
 obtain⟨L,d⟩:∃L:dC,L=⟨.ready,none,q.1,n.toList,a,c,env⟩:=⟨_,rfl⟩
 have t:=aF heap.length k (X L) (Y L);refine⟨hq,?_⟩;show iK P (ev env f) heap.length (heap++[.loop ⟨.ready,none,q.1,n.toList,a,c,env⟩]) (gQ heap.length env Q);rw[hf];simp only[iK];rw[<-d,<-u L];have y:(X L 0).length=heap.length+1:=by rw[u L];simp
 have v:∀i,i<=k->dx (X L i) (X L i)/\aC (aG (X L i)) (.map heap.length):=by
  intro i hi;obtain⟨o,m,s⟩:=hx L d i hi;have e5:L.env=env:=by rw[d]
  refine⟨s m (by rw[e5];exact m.get),?_⟩;simp only[aC,aG,o];exact⟨_,rfl,by simp[Obj.has]⟩
 rw[y]at t;rcases G L d with⟨o,m⟩|⟨x,j,l,b,o,m,s,z,A,B,C,D,E⟩
 ·refine⟨_,_,t (X L k) hk v (w L d) (.inl ⟨o,rfl⟩),?_⟩;have F:=(hx L d k (bb k)).1;simp only[gQ,F];refine⟨by rw[d];simp,?_⟩;have:L.pending=none:=by rw[d]
  simp only[this,jd];have e:L.xh={L with st:=.exhausted}:=rfl;rw[this]at e;rw[e]at m;exact m
 ·refine⟨_,_,t b hk v (w L d) (.inr ⟨x,l,o,s,z,A,B,C,D⟩),?_⟩;simp only[gQ,m];exact⟨by simp[dC.dn],E⟩
theorem O7{H J:Heap}{x:Nat×Nat}(h:aG H x):aG (H++J) x:=by
 obtain⟨o,a,b⟩:=h;exact⟨o,by rw[List.getElem?_append_left (a3.1 a).1];exact a,b⟩
theorem dx.up{S T:Heap}(a:∀x,aG S x->aG T x):∀{h:Heap},dx S h->dx T h
 |[],_=>trivial
 |_::_,h=>⟨Obj.ur a h.1,dx.up a h.2⟩
theorem dx.app{H J:Heap}(h:dx H H)(a:dx (H++J) J):dx (H++J) (H++J):=by
 rw[Bs];exact⟨h.up fun _=>O7,a⟩
end
end Go.aw
