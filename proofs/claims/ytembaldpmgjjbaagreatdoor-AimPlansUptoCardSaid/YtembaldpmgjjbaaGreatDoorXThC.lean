import Derived.Test.YtembaldpmgjjbaaGreatDoorXThB
/- Parts of a proof. -/
set_option linter.unusedSimpArgs false
set_option linter.unusedVariables false
set_option linter.unusedSectionVars false
open And renaming intro->ab
open Bool renaming cond_eq_ite->ac, and_eq_true->am
open Go renaming FuncId->ao, Operand->av, Program->ax, TypeId->ay, ResultVar->aT, Value->a0, World->a1
open List renaming getElem?_eq_getElem->a3, getElem?_eq_some_iff->a4, map_cons->a5, getElem?_take->a6, mem_map->a7, nodup_range->a8, length_take->a9, getElem?_replicate->bb, getElem?_eq_none->be, mem_iff_getElem->bf, map_id->bi, range->bl, ext_getElem?->bo, getElem_zip->bp, all_eq_true->bv, replicate->bw, map_nil->bI, rec->bV
open Nat renaming ble->b0, le_refl->b1, pow_succ->b2, beq->b3, mod_lt->b4
open Option renaming ite_none_right_eq_some->b5
open Option.some renaming injEq->ca
open Prod.mk renaming injEq->cb
namespace Go.ae
set_option linter.unusedSectionVars false
variable[Gl]
inductive RT where
 |lf
 |vl (v:AV)
 |nd (a b c d:RT)
inductive Q4 where|a|b|c|d
def q4(n:Nat):Q4:=match n with
 |0=>.a
 |1=>.b
 |2=>.c
 |_=>.d
def pathOf:Nat->Nat->List Q4
 |0,_=>[]
 |k+1,n=>q4 (n% 4)::pathOf k (n/4)
noncomputable def A7(p:List Q4):RT->AV:=
 bV (motive:=fun _=>RT->AV) (fun R=>RT.rec (motive:=fun _=>AV) (.p .undef) (fun v=>v) (fun _ _ _ _ _ _ _ _=>.p .undef) R)
  (fun q _ e R=>RT.rec (motive:=fun _=>AV) (.p .undef) (fun _=>.p .undef) (fun a b c d _ _ _ _=>Q4.rec (motive:=fun _=>AV) (e a) (e b) (e c) (e d) q) R) p
noncomputable def Jq(v:AV)(p:List Q4):RT->RT:=
 bV (motive:=fun _=>RT->RT) (fun _=>.vl v)
  (fun q _ e R=>RT.rec (motive:=fun _=>RT)
   (Q4.rec (motive:=fun _=>RT) (.nd (e .lf) .lf .lf .lf) (.nd .lf (e .lf) .lf .lf) (.nd .lf .lf (e .lf) .lf) (.nd .lf .lf .lf (e .lf)) q)
   (fun _=>Q4.rec (motive:=fun _=>RT) (.nd (e .lf) .lf .lf .lf) (.nd .lf (e .lf) .lf .lf) (.nd .lf .lf (e .lf) .lf) (.nd .lf .lf .lf (e .lf)) q)
   (fun a b c d _ _ _ _=>Q4.rec (motive:=fun _=>RT) (.nd (e a) b c d) (.nd a (e b) c d) (.nd a b (e c) d) (.nd a b c (e d)) q) R) p
noncomputable def mO(k:Nat)(R:RT)(n:Nat):AV:=bif b0 (n+1) (4^k)then A7 (pathOf k n) R else .p .undef
noncomputable def BA(k:Nat)(R:RT)(n:Nat)(v:AV):RT:=Jq v (pathOf k n) R
theorem Qw:∀(p:List Q4),A7 p .lf=.p .undef
 |[]=>rfl
 |_::_=>rfl
theorem O4(v:AV):∀(p:List Q4)(R:RT),A7 p (Jq v p R)=v
 |[],_=>rfl
 |x::p,R=>by
  cases R<;>cases x<;>exact O4 v p _
theorem On(v:AV):∀(p q:List Q4)(R:RT),p.length=q.length->p≠q->A7 p (Jq v q R)=A7 p R
 |[],[],R,_,h=>(h rfl).elim
 |[],_::_,R,h,_=>by simp at h
 |_::_,[],R,h,_=>by simp at h
 |x::p,y::q,R,h,f=>by
  have g:=fun R(f:p≠q)=>On v p q R (by simpa using h) f;have i:=Qw p;cases R with
  |nd a b c d=>
   cases x<;>cases y<;>first
    |rfl
    |exact g _ (fun e=>f (by rw[e]))
  |_=>
   cases x<;>cases y<;>first
    |exact i
    |exact(g _ (fun e=>f (by rw[e]))).trans i
theorem FX:∀k n,(pathOf k n).length=k
 |0,_=>rfl
 |k+1,n=>by simp[pathOf,FX k]
theorem aPx{m n:Nat}(a:m<4)(hn:n<4)(h:q4 m=q4 n):m=n:=by
 have hc:∀n,n<4->n=0\/n=1\/n=2\/n=3:=o_
 rcases hc m a with rfl|rfl|rfl|rfl<;>rcases hc n hn with rfl|rfl|rfl|rfl<;>simp[q4]at h<;>rfl
theorem O6:∀(k m n:Nat),m<4^k->n<4^k->pathOf k m=pathOf k n->m=n
 |0,m,n,a,hn,_=>by simp at a hn;omega
 |k+1,m,n,a,hn,h=>by
  simp only[pathOf,List.cons.injEq]at h;have b:=aPx (b4 _ o_) (b4 _ o_) h.1;have c:=O6 k (m/4) (n/4) (by rw[b2]at a;omega) (by rw[b2]at hn;omega) h.2;omega
theorem RL(k n:Nat):mO k .lf n=.p .undef:=by
 simp[mO,Qw]
theorem aAJ{a b:Nat}(h:a<=b):b0 a b=true:=Nat.ble_eq_true_of_le h
theorem Sb{a b:Nat}(h:¬a<=b):b0 a b=false:=by
 cases c:b0 a b
 ·rfl
 ·exact(h (fk c)).elim
theorem Gx(k:Nat)(R:RT)(d x:Nat)(v:AV)(h:d<4^k):mO k (BA k R d v) x=if x=d then v else mO k R x:=by
 unfold mO BA
 by_cases hx:x+1<=4^k
 ·simp only[aAJ hx,cond_true]
  by_cases a:x=d
  ·subst a;rw[O4,if_pos rfl]
  ·rw[if_neg a,On _ _ _ _ (by rw[FX,FX]) (fun e=>a (O6 k x d o_ h e))]
 ·have:x≠d:=by omega
  simp only[Sb hx,cond_false,this,if_false]
def Rel(k:Nat)(e:Env)(R:RT):Prop:=∀x,aV e x=mO k R x
noncomputable def nB(k:Nat)(d:Option Nat)(v:AV)(R:RT):Option RT:=
 match d with
 |none=>some R
 |some d=>bif b0 (d+1) (4^k)then some (BA k R d v)else none
theorem Af{k:Nat}{d:Option Nat}{v:AV}{R a:RT}{e:Env}(h:nB k d v R=some a)(b:Rel k e R):Rel k (put d v e) a:=by
 unfold nB at h
 split at h
 ·simp only[ca]at h;subst h;exact b
 ·simp only[ac,b5,ca]at h;obtain⟨c,rfl⟩:=h;intro x;rw[Gx _ _ _ _ _ (by have:=fk c;omega)];simp only[put,aV]
  split
  ·rfl
  ·exact b x
noncomputable def mJ(k:Nat)(R:RT):av->AV
 | .tmp t=>mO k R t
 | .const v=>.p (ofConst v)
 | .global g=>.p (Gl.g g)
 | .func f=>.p (.func f [] [])
theorem DR{k:Nat}{R:RT}{e:Env}(a:Rel k e R):mJ k R=ev e:=by
 funext o;cases o<;>simp[mJ,ev,a _]
def tT(H:ak)(e:bg):ak:=
 match e.aW,e.bm with
 |[],[]=>H
 |_,_=>bu H e.aW++e.bm
theorem QH(H:ak)(e:bg):tT H e=bu H e.aW++e.bm:=by
 unfold tT;split
 ·rename_i a b;simp[a,b,bu]
 ·rfl
structure mv where
 cP:ao->List AV->ak->Option (AV×ak)
 cD:ao->List AV->ak->Option bg
 cY:Nat->ak->List AV->Option (ak×AV)
 cI:AV->Nat->ak->Option ak
 Er:Nat->List AV->ak->Option bg
structure mP(P:ax)(B:mv):Prop where
 cP:∀f args H v H',B.cP f args H=some (v,H')->∀K:AV->ak->Prop,K v H'->mu P false f args H K
 cD:∀f args H e,B.cD f args H=some e->∀K:bg->Prop,K e->mw P f args H K
 cY:∀b H args H' v,B.cY b H args=some (H',v)->gJ P b H args H' v
 cI:∀it b H H',B.cI it b H=some H'->∀K:ak->Prop,K H'->lJ P it b H K
 Er:∀b args H e,B.Er b args H=some e->sy P b args H.length e/\sC H e
section
variable(P:ax)(aq:ao->Bool)(B:mv)(k:Nat)
noncomputable def Bu(o:Oper)(R:RT)(H:ak):Option (RT×ak):=
 match o.op with
 | .call {callee:=.value f,args,.. }=>match(match mJ k R f with
  | .p (.func g d c)=>B.cP g (d.map .p++args.toList.map (mJ k R)++c.map .p) H
  | .func g d c=>B.cP g (d++args.toList.map (mJ k R)++c) H
  | .map b=>match B.cY b H (args.toList.map (mJ k R))with
   |some (H',v)=>some (v,H')
   |none=>none
  |_=>none)with
  |some (v,H')=>match nB k o.dst v R with
   |some a=>some (a,H')
   |none=>none
  |none=>none
 |_=>match EK P aq o (mJ k R) H with
  |some e=>match nB k o.dst e.v R with
   |some a=>some (a,tT H e)
   |none=>none
  |none=>none
noncomputable def DQ(a:Array Oper)(j:Nat)(R:RT):AV:=
 match(a[j]?).bind (·.dst)with
 |some d=>mO k R d
 |none=>.p (.aE [])
noncomputable def qY(b:Array Oper):List Oper->RT->ak->Option (RT×ak)
 |[],R,H=>some (R,H)
 |o::r,R,H=>match o.guard with
  |none=>match Bu P aq B k o R H with
   |some (a,H')=>qY b r a H'
   |none=>none
  |some (j,want)=>match DQ k b j R with
   | .p (.bool t)=>match t,want with
    |true,true|false,false=>match Bu P aq B k o R H with
     |some (a,H')=>qY b r a H'
     |none=>none
    |_,_=>match nB k o.dst (.p (.aE [])) R with
     |some a=>qY b r a H
     |none=>none
   | .p (.aE [])=>match nB k o.dst (.p (.aE [])) R with
    |some a=>qY b r a H
    |none=>none
   |_=>none
noncomputable def Bk(o:Oper)(R:RT)(H:ak):Option bg:=
 match o.op with
 | .call {callee:=.value f,args,.. }=>match mJ k R f with
  | .p (.func g c a)=>B.cD g (c.map .p++args.toList.map (mJ k R)++a.map .p) H
  | .func g c a=>B.cD g (c++args.toList.map (mJ k R)++a) H
  | .map b=>B.Er b (args.toList.map (mJ k R)) H
  |_=>none
 |_=>EK P aq o (mJ k R) H
noncomputable def qJ(b:Array Oper):List Oper->Nat->List Touch->RT->ak->Option (RT×ak)
 |[],_,acc,R,H=>bif jY b acc then some (R,H)else none
 |o::r,i,acc,R,H=>match o.guard with
  |none=>match Bk P aq B k o R H with
   |some e=>match nB k o.dst e.v R with
    |some a=>qJ b r (i+1) (iH i H.length e acc) a (tT H e)
    |none=>none
   |none=>none
  |some (j,want)=>match DQ k b j R with
   | .p (.bool t)=>match t,want with
    |true,true|false,false=>match Bk P aq B k o R H with
     |some e=>match nB k o.dst e.v R with
      |some a=>qJ b r (i+1) (iH i H.length e acc) a (tT H e)
      |none=>none
     |none=>none
    |_,_=>match nB k o.dst (.p (.aE [])) R with
     |some a=>qJ b r (i+1) acc a H
     |none=>none
   | .p (.aE [])=>match nB k o.dst (.p (.aE [])) R with
    |some a=>qJ b r (i+1) acc a H
    |none=>none
   |_=>none
abbrev Out:=Option (bL×RT×ak)
def A6(f:RT->ak->Out):Nat->RT->ak->Out
 |0,_,_=>none
 |n+1,R,H=>match f R H with
  |some (.normal,a,H')=>A6 f n a H'
  |r=>r
noncomputable def yu(k:Nat)(R:RT):Nat->Env
 |0=>[]
 |n+1=>(n,mO k R n)::yu k R n
def avO:Nat:=100000
def D6(j:Option Code):Option bL:=
 match j with
 |none=>some .normal
 |some (.exit id)=>some (.exit id)
 |some .ret=>some .ret
 |_=>none
def Jm(b:Nat)(R:RT)(H:ak):Out:=
 match H[b]? with
 |some (.loop L)=>match L.st with
  | .busy=>none
  |_=>match D6 L.pending with
   |some e=>some (e,R,H.set b (.loop {L with st:=.exhausted}))
   |none=>none
 |_=>none
noncomputable def jh(q:Cx):Code->RT->ak->Out
 | .skip,R,H| .label _,R,H=>some (.normal,R,H)
 | .region _ ops draw,R,H=>bif draw then match qJ P aq B k ops ops.toList 0 [] R H with
   |some (d,H')=>some (.normal,d,H')
   |none=>none
  else match qY P aq B k ops ops.toList R H with
   |some (d,H')=>some (.normal,d,H')
   |none=>none
 | .seq a b,R,H=>match jh q a R H with
  |some (.normal,d,H')=>jh q b d H'
  |r=>r
 | .cond c a b,R,H=>match mJ k R c with
  | .p (.bool t)=>match t with
   |true=>jh q a R H
   |false=>jh q b R H
  |_=>none
 | .block id b,R,H=>match jh q b R H with
  |some (.exit i,d,H')=>bif b3 i id then some (.normal,d,H')else some (.exit i,d,H')
  |r=>r
 | .scope b,R,H=>jh q b R H
 | .loop b,R,H=>A6 (fun R H=>jh q b R H) avO R H
 | .rangeFunc f e a b,R,H=>bif b0 q.2 H.length&&b0 q.1 (4^k)then match B.cI (mJ k R f) H.length (H++[.loop ⟨.ready,none,q.1,e.toList,a,b,yu k R (4^k)⟩])with
   |some H'=>Jm H.length R H'
   |none=>none
  else none
 | .exit id,R,H=>some (.exit id,R,H)
 | .ret,R,H=>some (.ret,R,H)
 |_,_,_=>none
end
section
variable{P:ax}{aq:ao->Bool}{B:mv}{k:Nat}
theorem P5(e:bg)(dst:Option Tmp)(env:Env)(H:ak):e.app dst ⟨env,H⟩=⟨put dst e.v env,tT H e⟩:=by
 simp[bg.app,QH]
theorem aOW(b:mP P B){o:Oper}{R i:RT}{H H':ak}{env:Env}(h:Bu P aq B k o R H=some (i,H'))(g:Rel k env R):
 ∃j,Rel k j i/\∀K:St->Prop,K ⟨j,H'⟩->mf P aq false o K ⟨env,H⟩:=by
 unfold Bu at h;unfold mf;rw[DR g]at h
 split at h
 ·rename_i f args n c
  split at h
  case h_2=>simp at h
  rename_i v l hc
  split at h
  case h_2=>simp at h
  rename_i m d;simp only[ca,cb]at h;obtain⟨rfl,rfl⟩:=h;refine⟨_,Af d g,fun K a=>?_⟩;simp only[c]
  split at hc
  ·rename_i hf;simp only[hf];exact b.cP _ _ _ _ _ hc _ a
  ·rename_i hf;simp only[hf];exact b.cP _ _ _ _ _ hc _ a
  ·rename_i hf
   split at hc
   ·rename_i l s r;simp only[ca,cb]at hc;obtain⟨rfl,rfl⟩:=hc;simp only[hf];exact⟨_,_,b.cY _ _ _ _ _ r,a⟩
   ·simp at hc
  ·simp at hc
 ·rename_i q
  split at h
  case h_2=>simp at h
  rename_i e p
  split at h
  case h_2=>simp at h
  rename_i m d;simp only[ca,cb]at h;obtain⟨rfl,rfl⟩:=h;refine⟨_,Af d g,fun K a=>?_⟩
  split
  ·rename_i f args n c;exact(q _ _ _ c).elim
  ·exact S2 p (by rw[P5];exact a)
theorem P6{a:Array Oper}{j:Nat}{R:RT}{env:Env}(b:Rel k env R):DQ k a j R=guardOf a j env:=by
 unfold DQ guardOf;split
 ·rename_i h;simp only[h];exact(b _).symm
 ·rename_i h;simp only[h]
theorem HF(f:mP P B){c:Array Oper}:∀{l:List Oper}{R a:RT}{H H':ak}{env:Env},qY P aq B k c l R H=some (a,H')->Rel k env R->
 ∃b,Rel k b a/\∀K:St->Prop,K ⟨b,H'⟩->je P aq false c l K ⟨env,H⟩
 |[],R,a,H,H',env,h,d=>by
  simp only[qY,ca,cb]at h;obtain⟨rfl,rfl⟩:=h;exact⟨env,d,fun K g=>g⟩
 |o::l,R,a,H,H',env,h,d=>by
  have run:(match Bu P aq B k o R H with
    |some (a,H')=>qY P aq B k c l a H'
    |none=>none)=some (a,H')->∃b,Rel k b a/\∀K:St->Prop,K ⟨b,H'⟩->mf P aq false o (je P aq false c l K) ⟨env,H⟩:=by
   intro h
   split at h
   case h_2=>simp at h
   rename_i n H1 e;obtain⟨w,q,a2⟩:=aOW f e d;obtain⟨u,r,s⟩:=HF f h q;exact⟨u,r,fun K g=>a2 _ (s K g)⟩
  have skip:(match nB k o.dst (.p (.aE [])) R with
    |some a=>qY P aq B k c l a H
    |none=>none)=some (a,H')->∃b,Rel k b a/\∀K:St->Prop,K ⟨b,H'⟩->je P aq false c l K ⟨put o.dst (.p (.aE [])) env,H⟩:=by
   intro h
   split at h
   case h_2=>simp at h
   rename_i n e;exact HF f h (Af e d)
  simp only[qY]at h;simp only[je]
  split at h
  ·rename_i i;simp only[i];exact run h
  ·rename_i j v i;simp only[i];rw[P6 d]at h
   split at h
   ·rename_i t m;simp only[m];cases t<;>cases v
    ·simpa using run h
    ·simpa using skip h
    ·simpa using skip h
    ·simpa using run h
   ·rename_i m;simp only[m];exact skip h
   ·simp at h
theorem aLK(b:mP P B){o:Oper}{R:RT}{H:ak}{e:bg}{env:Env}(h:Bk P aq B k o R H=some e)(l:Rel k env R)(K:bg->Prop)(a:K e):lS P aq o ⟨env,H⟩ K:=by
 unfold Bk at h;unfold lS;rw[DR l]at h
 split at h
 ·rename_i f args d c;simp only[c]
  split at h
  ·rename_i hf;simp only[hf];exact b.cD _ _ _ _ h _ a
  ·rename_i hf;simp only[hf];exact b.cD _ _ _ _ h _ a
  ·rename_i hf;simp only[hf];obtain⟨g,i⟩:=b.Er _ _ _ _ h;exact⟨e,g,i,a⟩
  ·simp at h
 ·rename_i j
  split
  ·rename_i f args d c;exact(j _ _ _ c).elim
  ·exact S2 h a
theorem G8(m:mP P B){f:Array Oper}:∀{l:List Oper}{i:Nat}{b:List Touch}{R a:RT}{H H':ak}{env:Env},qJ P aq B k f l i b R H=some (a,H')->Rel k env R->
 ∃c,Rel k c a/\∀K:St->Prop,K ⟨c,H'⟩->iG P aq f l i b K ⟨env,H⟩
 |[],i,b,R,a,H,H',env,h,d=>by
  simp only[qJ,ac,b5,ca,cb]at h;obtain⟨g,rfl,rfl⟩:=h;exact⟨env,d,fun K n=>⟨g,n⟩⟩
 |o::l,i,b,R,a,H,H',env,h,d=>by
  have run:(match Bk P aq B k o R H with
    |some e=>match nB k o.dst e.v R with
     |some a=>qJ P aq B k f l (i+1) (iH i H.length e b) a (tT H e)
     |none=>none
    |none=>none)=some (a,H')->∃c,Rel k c a/\∀K:St->Prop,K ⟨c,H'⟩->lS P aq o ⟨env,H⟩ (fun e=>iG P aq f l (i+1) (iH i H.length e b) K (e.app o.dst ⟨env,H⟩)):=by
   intro h
   split at h
   case h_2=>simp at h
   rename_i e y
   split at h
   case h_2=>simp at h
   rename_i s g;obtain⟨x,u,w⟩:=G8 m h (Af g d);exact⟨x,u,fun K n=>aLK m y d _ (by rw[P5];exact w K n)⟩
  have skip:(match nB k o.dst (.p (.aE [])) R with
    |some a=>qJ P aq B k f l (i+1) b a H
    |none=>none)=some (a,H')->∃c,Rel k c a/\∀K:St->Prop,K ⟨c,H'⟩->iG P aq f l (i+1) b K ⟨put o.dst (.p (.aE [])) env,H⟩:=by
   intro h
   split at h
   case h_2=>simp at h
   rename_i s g;exact G8 m h (Af g d)
  simp only[qJ]at h;simp only[iG]
  split at h
  ·rename_i q;simp only[q];exact run h
  ·rename_i j z q;simp only[q];rw[P6 d]at h
   split at h
   ·rename_i t r;simp only[r];cases t<;>cases z
    ·simpa using run h
    ·simpa using skip h
    ·simpa using skip h
    ·simpa using run h
   ·rename_i r;simp only[r];exact skip h
   ·simp at h
theorem QN(R:RT):∀(n:Nat),∀x,aV (yu k R n) x=if x<n then mO k R x else .p .undef
 |0,x=>by simp[yu,aV]
 |n+1,x=>by
  simp only[yu,aV,QN R n]
  by_cases h:x=n
  ·subst h;simp
  ·simp only[h,if_false]
   by_cases a:x<n
   ·simp[a,Nat.lt_succ_of_lt a]
   ·have:¬x<n+1:=by omega
    simp[a,this]
theorem avg(k:Nat)(R:RT)(n:Nat)(h:4^k<=n):mO k R n=.p .undef:=by
 unfold mO;rw[Sb o_];rfl
theorem aLP{R:RT}{env:Env}(a:Rel k env R):∀x,aV (yu k R (4^k)) x=aV env x:=by
 intro x;rw[QN,a]
 split
 ·rfl
 ·rw[avg k R x o_]
theorem avW{j:Option Code}{e:bL}(h:D6 j=some e)(Q:bL->St->Prop)(s:St)(hq:Q e s):lO Q j s:=by
 unfold D6 at h;unfold lO
 split at h<;>simp at h<;>subst h<;>exact hq
theorem avx{b:Nat}{R a:RT}{H H':ak}{e:bL}{env:Env}(h:Jm b R H=some (e,a,H')):a=R/\∀Q:bL->St->Prop,Q e ⟨env,H'⟩->jw b env Q H:=by
 unfold Jm at h
 split at h
 case h_2=>simp at h
 rename_i L c
 have go:(match D6 L.pending with
   |some e=>some (e,R,H.set b (.loop {L with st:=.exhausted}))
   |none=>none)=some (e,a,H')->L.st≠.busy->a=R/\∀Q:bL->St->Prop,Q e ⟨env,H'⟩->jw b env Q H:=by
  intro h aY
  split at h
  case h_2=>simp at h
  rename_i e' d;simp only[ca,cb]at h;obtain⟨rfl,rfl,rfl⟩:=h;exact⟨rfl,fun Q hq=>by unfold jw;simp only[c];exact⟨aY,avW d Q _ hq⟩⟩
 split at h
 ·simp at h
 ·rename_i aY;exact go h aY
theorem as5{q:Cx}{b:Code}{Q:bL->St->Prop}{s s':St}(f:∀c:bL->St->Prop,c .normal s'->cQ P aq q b c s)(d:cQ P aq q (.loop b) Q s'):cQ P aq q (.loop b) Q s:=by
 simp only[cQ]at d⊢;obtain⟨I,⟨a,t0,hf,hI⟩,g⟩:=d;refine⟨fun n t=>I n t\/(n=a+1/\t=s),⟨a+1,s,.inl rfl,.inr ⟨rfl,rfl⟩⟩,?_⟩;rintro n t (h|⟨rfl,rfl⟩)
 ·obtain⟨e,u,k1,k2⟩:=rI b t _ (g n t h);refine k2 _ ?_;cases e with
  |normal=>
   obtain⟨m,i,g1,g2,g3⟩:=k1;exact⟨m,i,g1,g2,.inl g3⟩
  |exit id=>exact k1
  |ret=>exact k1
 ·exact f _ ⟨a,t0,Nat.lt_succ_self _,hf,.inl hI⟩
theorem as4{q:Cx}{b:Code}{Q:bL->St->Prop}{s s':St}{e:bL}(f:e≠.normal)(d:∀a:bL->St->Prop,a e s'->cQ P aq q b a s)(c:Q e s'):cQ P aq q (.loop b) Q s:=by
 simp only[cQ];refine⟨fun n t=>n=0/\t=s,⟨0,s,.inl rfl,rfl,rfl⟩,?_⟩;rintro n t ⟨rfl,rfl⟩;refine d _ ?_;cases e with
 |normal=>exact(f rfl).elim
 |exit id=>exact c
 |ret=>exact c
theorem Q3{q:Cx}{b:Code}{f:RT->ak->Out}(hf:∀{R a:RT}{H H':ak}{e:bL}{env:Env},f R H=some (e,a,H')->Rel k env R->∃c,Rel k c a/\∀Q:bL->St->Prop,Q e ⟨c,H'⟩->cQ P aq q b Q ⟨env,H⟩):
 ∀(n:Nat){R a:RT}{H H':ak}{e:bL}{env:Env},A6 f n R H=some (e,a,H')->Rel k env R->∃c,Rel k c a/\∀Q:bL->St->Prop,Q e ⟨c,H'⟩->cQ P aq q (.loop b) Q ⟨env,H⟩
 |0,R,a,H,H',e,env,h,g=>by simp[A6]at h
 |n+1,R,a,H,H',e,env,h,g=>by
  simp only[A6]at h
  split at h
  ·rename_i r H1 o;obtain⟨i,d,a2⟩:=hf o g;obtain⟨m,j,l⟩:=Q3 hf n h d;exact⟨m,j,fun Q hq=>as5 a2 (l Q hq)⟩
  ·rename_i p;obtain⟨i,d,a2⟩:=hf h g;refine⟨i,d,fun Q hq=>as4 ?_ a2 hq⟩;rintro rfl;exact p _ _ h
theorem nN(m:mP P B){q:Cx}:∀{c:Code}{R l:RT}{H H':ak}{e:bL}{env:Env},jh P aq B k q c R H=some (e,l,H')->Rel k env R->
 ∃r,Rel k r l/\∀Q:bL->St->Prop,Q e ⟨r,H'⟩->cQ P aq q c Q ⟨env,H⟩
 | .skip,R,l,H,H',e,env,h,d| .label _,R,l,H,H',e,env,h,d| .exit _,R,l,H,H',e,env,h,d| .ret,R,l,H,H',e,env,h,d=>by
  simp only[jh,ca,cb]at h;obtain⟨rfl,rfl,rfl⟩:=h;exact⟨env,d,fun Q hq=>hq⟩
 | .region id ops draw,R,l,H,H',e,env,h,d=>by
  simp only[jh]at h;cases draw
  ·simp only[cond_false]at h
   split at h
   case h_2=>simp at h
   rename_i o H1 n;simp only[ca,cb]at h;obtain⟨rfl,rfl,rfl⟩:=h;obtain⟨j,g,a2⟩:=HF m n d;exact⟨j,g,fun Q hq=>by simp only[cQ];exact a2 _ hq⟩
  ·simp only[cond_true]at h
   split at h
   case h_2=>simp at h
   rename_i o H1 n;simp only[ca,cb]at h;obtain⟨rfl,rfl,rfl⟩:=h;obtain⟨j,g,a2⟩:=G8 m n d;exact⟨j,g,fun Q hq=>by simp only[cQ,if_true];exact a2 _ hq⟩
 | .seq a b,R,l,H,H',e,env,h,d=>by
  simp only[jh]at h
  split at h
  ·rename_i o H1 n;obtain⟨j,g,a2⟩:=nN m n d;obtain⟨w,u,v⟩:=nN m h g;exact⟨w,u,fun Q hq=>by simp only[cQ];exact a2 _ (v Q hq)⟩
  ·rename_i p;obtain⟨j,g,a2⟩:=nN m h d;refine⟨j,g,fun Q hq=>by
    simp only[cQ];refine a2 _ ?_;cases e with
    |normal=>exact(p _ _ h).elim
    |exit id=>exact hq
    |ret=>exact hq⟩
 | .cond c a b,R,l,H,H',e,env,h,d=>by
  simp only[jh,DR d]at h
  split at h
  case h_2=>simp at h
  rename_i t s;cases t
  ·obtain⟨j,g,a2⟩:=nN m h d;exact⟨j,g,fun Q hq=>by simp only[cQ,s];exact a2 Q hq⟩
  ·obtain⟨j,g,a2⟩:=nN m h d;exact⟨j,g,fun Q hq=>by simp only[cQ,s,if_true];exact a2 Q hq⟩
 | .block id b,R,l,H,H',e,env,h,d=>by
  simp only[jh]at h
  split at h
  ·rename_i i o H1 n;obtain⟨j,g,a2⟩:=nN m n d;cases hi:b3 i id
   ·simp only[hi,cond_false,ca,cb]at h;obtain⟨rfl,rfl,rfl⟩:=h;refine⟨j,g,fun Q hq=>by
     simp only[cQ];refine a2 _ ?_;have:i≠id:=fun e=>by subst e;simp[Nat.beq_refl]at hi
     simp only[this,if_false];exact hq⟩
   ·simp only[hi,cond_true,ca,cb]at h;obtain⟨rfl,rfl,rfl⟩:=h;refine⟨j,g,fun Q hq=>by
     simp only[cQ];refine a2 _ ?_;simp only[gU hi,if_true];exact hq⟩
  ·rename_i p;obtain⟨j,g,a2⟩:=nN m h d;refine⟨j,g,fun Q hq=>by
    simp only[cQ];refine a2 _ ?_;cases e with
    |normal=>exact hq
    |exit id=>exact(p _ _ _ h).elim
    |ret=>exact hq⟩
 | .scope b,R,l,H,H',e,env,h,d=>by
  simp only[jh]at h;obtain⟨j,g,a2⟩:=nN m h d;exact⟨j,g,fun Q hq=>by simp only[cQ];exact a2 Q hq⟩
 | .loop b,R,l,H,H',e,env,h,d=>by
  simp only[jh]at h;exact Q3 (fun h d=>nN m h d) _ h d
 | .rangeFunc f z a b,R,l,H,H',e,env,h,d=>by
  simp only[jh,ac,b5,am]at h;obtain⟨⟨n,y⟩,h⟩:=h
  split at h
  case h_2=>simp at h
  rename_i H1 hI;obtain⟨rfl,x⟩:=avx (env:=env) h;refine⟨env,d,fun Q hq=>?_⟩;simp only[cQ];rw[DR d]at hI;exact⟨fk n,_,aLP d,m.cI _ _ _ _ hI _ (x Q hq)⟩
 | .goto _,_,_,_,_,_,_,h,_=>by simp[jh]at h
 | .refuse _,_,_,_,_,_,_,h,_=>by simp[jh]at h
end
def vU(n:Nat):Nat:=
 match b0 n 16,b0 n 64,b0 n 256,b0 n 1024 with
 |true,_,_,_=>2
 |_,true,_,_=>3
 |_,_,true,_=>4
 |_,_,_,true=>5
 |_,_,_,_=>6
noncomputable def A3(k:Nat):Nat->List AV->RT
 |_,[]=>.lf
 |i,v::r=>BA k (A3 k (i+1) r) i v
theorem Rj(k:Nat):∀(l:List AV)(i:Nat),i+l.length<=4^k->Rel k (jX i l) (A3 k i l)
 |[],i,_=>fun x=>by simp[jX,A3,aV,RL]
 |v::r,i,h=>fun x=>by
  simp only[List.length_cons]at h;rw[A3,Gx _ _ _ _ _ o_];simp only[jX,aV]
  split
  ·rfl
  ·exact Rj k r (i+1) o_ x
noncomputable def Bm(k:Nat):Env->Option RT
 |[]=>some .lf
 |(x,v)::r=>match Bm k r with
  |some R=>bif b0 (x+1) (4^k)then some (BA k R x v)else none
  |none=>none
theorem QM(k:Nat):∀{e:Env}{R:RT},Bm k e=some R->Rel k e R
 |[],R,h=>by
  simp only[Bm,ca]at h;subst h;intro x;simp[aV,RL]
 |(y,v)::r,R,h=>by
  simp only[Bm]at h
  split at h
  case h_2=>simp at h
  rename_i c a;simp only[ac,b5,ca]at h;obtain⟨b,rfl⟩:=h;intro x;rw[Gx _ _ _ _ _ (by have:=fk b;omega)];simp only[aV]
  split
  ·rfl
  ·exact QM k a x
noncomputable def EP(P:ax)(k:Nat)(R:RT)(H:ak):List aT->Option (List AV)
 |[]=>some []
 |r::rs=>match(match r with
  | .tmp t=>some (mO k R t)
  | .cell a T=>match mO k R a with
   | .ptr b path=>match H[b]? with
    |some (.box _ t)=>match fY t path with
     |some v=>bif sE (kindOf P T) (aa v)then some v else none
     |none=>none
    |_=>none
   |_=>none),EP P k R H rs with
  |some v,some vs=>some (v::vs)
  |_,_=>none
theorem RM{P:ax}{k:Nat}{R:RT}{H:ak}{env:Env}(d:Rel k env R):∀{e:List aT}{vs:List AV},EP P k R H e=some vs->iE P ⟨env,H⟩ e=some vs
 |[],vs,h=>h
 |r::e,vs,h=>by
  simp only[EP]at h
  split at h
  case h_2=>simp at h
  rename_i v o c f;simp only[ca]at h;subst h;have g:tN P ⟨env,H⟩ r=some v:=by
   cases r with
   |tmp t=>simp only[tN];rw[d];exact c
   |cell a T=>
    simp only[tN];dsimp only at c;rw[<-d]at c
    split at c
    case h_2=>simp at c
    rename_i b n j
    split at c
    case h_2=>simp at c
    rename_i fz t l
    split at c
    case h_2=>simp at c
    rename_i u m;simp only[ac,b5,ca]at c;obtain⟨i,rfl⟩:=c;rw[j];simp only[l,m,(jZ i).1,if_true]
  simp only[iE,g,RM d f]
section
variable(P:ax)(aq:ao->Bool)
noncomputable def Ec(B:mv)(fn:Func)(args:List AV)(N:Nat)(H:ak):Option (AV×ak):=
 bif b0 args.length fn.ntmps&&b0 fn.ntmps (4^vU fn.ntmps)then
  match jh P aq B (vU fn.ntmps) (fn.ntmps,N) (fn.body.getD .skip) (A3 (vU fn.ntmps) 0 args) H with
  |some (.exit _,_,_)=>none
  |some (_,R,H')=>match EP P (vU fn.ntmps) R H' fn.results.toList with
   |some vs=>some (oneOf vs,H')
   |none=>none
  |none=>none
 else none
structure re where
 eZ:ao->Option Func
 Ey:ao->List PV->Option PV
 Ez:ao->List AV->ak->Option (AV×ak)
 oh:ao->ao->Nat
 yv:ao->List AV->ak->Option (List (Nat×Obj)×PV)
noncomputable def uk(pl:re)(B:ao->mv)(f:ao)(vs:List PV):Option PV:=
 match pl.Ey f vs with
 |some v=>some v
 |none=>match pl.eZ f with
  |some fn=>match Ec P aq (B f) fn (vs.map .p) 0 []with
   |some (v,H)=>gC H 9 v
   |none=>none
  |none=>none
noncomputable def sQ(pl:re)(B:ao->mv)(f:ao)(args:List AV)(H:ak):Option (AV×ak):=
 match pl.Ez f args H with
 |some r=>some r
 |none=>match pl.eZ f with
  |some fn=>Ec P aq (B f) fn args H.length H
  |none=>none
noncomputable def DO(B:mv)(b:Nat)(H:ak)(args:List AV):Option (ak×AV):=
 match H[b]? with
 |some (.loop L)=>bif b3 args.length L.params.length&&(L.params.all (fun x=>decide (x<L.n))&&codeOk fit L.n L.assign&&codeOk fit L.n L.body)then
  match Bm (vU L.n) (vi L.params args L.env)with
  |some R=>match jh P aq B (vU L.n) (L.n,H.length) L.assign R H with
   |some (.normal,f,H1)=>match H1[b]? with
    |some (.loop c)=>match c.st with
     | .ready=>match jh P aq B (vU L.n) (L.n,H.length) L.body f (H1.set b (.loop {c with st:=.busy}))with
      |some (e,_,a)=>match a[b]? with
       |some (.loop d)=>some (a.set b (.loop {d with st:=if(jd e).isNone then .ready else .done,pending:=jd e}),.p (.bool (jd e).isNone))
       |_=>none
      |none=>none
     |_=>none
    |_=>none
   |_=>none
  |none=>none
  else none
 |_=>none
noncomputable def I6(pl:re)(B:ao->mv)(d:AV)(b:Nat)(H:ak):Option ak:=
 match d with
 | .p (.func g c a)=>match sQ P aq pl B g (c.map .p++[.map b]++a.map .p) H with
  |some (_,H')=>some H'
  |none=>none
 | .func g c a=>match sQ P aq pl B g (c++[.map b]++a) H with
  |some (_,H')=>some H'
  |none=>none
 |_=>none
noncomputable def IG(pl:re)(B:ao->mv)(c f:ao)(args:List AV)(H:ak):Option (AV×ak):=
 match pl.yv f args H with
 |some (_,v)=>some (.p v,H)
 |none=>match pl.oh c f with
 |0=>match fy args with
  |some vs=>match uk P aq pl B f vs with
   |some v=>some (.p v,H)
   |none=>none
  |none=>sQ P aq pl B f args H
 |1=>sQ P aq pl B f args H
 |3=>match AU (sQ P aq pl B f) args H with
  |some e=>some (e.v,tT H e)
  |none=>none
 |_=>match p0 H args with
  |some (vs,H1)=>match uk P aq pl B f vs with
   |some v=>some (.p v,H1)
   |none=>none
  |none=>none
noncomputable def IF(pl:re)(B:ao->mv)(c f:ao)(args:List AV)(H:ak):Option bg:=
 match pl.yv f args H with
 |some (aA,v)=>some {v:=.p v,aA}
 |none=>match pl.oh c f with
 |3=>AU (sQ P aq pl B f) args H
 |_=>match fy args with
 |some vs=>match uk P aq pl B f vs with
  |some v=>some {v:=.p v}
  |none=>none
 |none=>match sx H args with
  |some (vs,bs)=>match nP H bs with
   |some (aA,aW)=>match uk P aq pl B f vs with
    |some v=>some {v:=.p v,aA,aW}
    |none=>none
   |none=>none
  |none=>AU (sQ P aq pl B f) args H
def xI:mv:=⟨fun _ _ _=>none,fun _ _ _=>none,fun _ _ _=>none,fun _ _ _=>none,fun _ _ _=>none⟩
noncomputable def mY(pl:re):Nat->ao->mv
 |0,_=>xI
 |n+1,c=>⟨IG P aq pl (mY pl n) c,IF P aq pl (mY pl n) c,DO P aq (mY pl n c),I6 P aq pl (mY pl n),Hz (DO P aq (mY pl n c))⟩
end
structure sj(P:ax)(pl:re):Prop where
 mix:P.follows .mixedOrders=true
 eZ:∀f fn,pl.eZ f=some fn->au P f fn
 Ey:∀f vs v,pl.Ey f vs=some v->al P f vs v
 Ez:∀f args H v H',pl.Ez f args H=some (v,H')->c8 P f H args H' v
 yv:∀f args H aA v,pl.yv f args H=some (aA,v)->Ij P f args aA v/\∀p∈aA,H[p.1]?=some p.2
section
variable{P:ax}{aq:ao->Bool}{B1:mv}{B:ao->mv}{pl:re}
theorem QE(f:mP P B1){fn:Func}{args:List AV}{N:Nat}{H H':ak}{v:AV}(h:Ec P aq B1 fn args N H=some (v,H')):
 args.length<=fn.ntmps/\∃e a vs,(match e with
  |bL.exit _=>False
  |_=>True)/\iE P ⟨a,H'⟩ fn.results.toList=some vs/\oneOf vs=v/\∀Q:bL->St->Prop,Q e ⟨a,H'⟩->cQ P aq (fn.ntmps,N) (fn.body.getD .skip) Q ⟨jX 0 args,H⟩:=by
 unfold Ec at h;simp only[ac,b5,am]at h;obtain⟨⟨b,c⟩,h⟩:=h;have b:=fk b;have c:=fk c;refine⟨b,?_⟩
 split at h
 ·simp at h
 ·rename_i e R k g hc
  split at h
  case h_2=>simp at h
  rename_i vs j;simp only[ca,cb]at h;obtain⟨rfl,rfl⟩:=h;obtain⟨a,d,a2⟩:=nN f hc (Rj _ args 0 o_);refine⟨e,a,vs,?_,RM d j,rfl,a2⟩;cases e with
  |exit i=>exact g i rfl
  |_=>trivial
 ·simp at h
theorem Am(a:sj P pl)(j:∀c,mP P (B c)){f:ao}{vs:List PV}{v:PV}(h:uk P aq pl B f vs=some v):al P f vs v:=by
 unfold uk at h
 split at h
 ·rename_i v' hk;simp only[ca]at h;subst h;exact a.Ey _ _ _ hk
 ·split at h
  case h_2=>simp at h
  rename_i fn hf
  split at h
  case h_2=>simp at h
  rename_i v' H' k;obtain⟨b,e,m,l,d,g,rfl,i⟩:=QE (j _) k;exact Ex aq (a.eZ _ _ hf) a.mix (by simpa using b) (i _ ⟨d,l,g,h⟩)
theorem uY(a:sj P pl)(j:∀c,mP P (B c)){f:ao}{args:List AV}{H H':ak}{v:AV}(h:sQ P aq pl B f args H=some (v,H')):c8 P f H args H' v:=by
 unfold sQ at h
 split at h
 ·rename_i r hk;simp only[ca]at h;subst h;exact a.Ez _ _ _ _ _ hk
 ·split at h
  case h_2=>simp at h
  rename_i fn hf;obtain⟨b,e,l,k,d,g,rfl,i⟩:=QE (j _) h;exact Ux aq (a.eZ _ _ hf) a.mix b (i _ ⟨d,k,g,rfl,.inl rfl⟩)
theorem PY{args:List AV}{vs:List PV}(h:fy args=some vs):args=vs.map .p:=po h
theorem awr(b:sj P pl)(d:∀c,mP P (B c)){c f:ao}{args:List AV}{H H':ak}{v:AV}(h:IG P aq pl B c f args H=some (v,H'))(K:AV->ak->Prop)(a:K v H'):mu P false f args H K:=by
 unfold IG at h
 split at h
 ·rename_i aA v' hx;simp only[ca,cb]at h;obtain⟨rfl,rfl⟩:=h;obtain⟨i,j⟩:=b.yv _ _ _ _ _ hx;exact .inr ⟨rfl,.inr (.inr (.inr ⟨aA,v',i,j,a⟩))⟩
 split at h
 ·split at h
  ·rename_i vs m
   split at h
   case h_2=>simp at h
   rename_i v' g;simp only[ca,cb]at h;obtain⟨rfl,rfl⟩:=h;exact .inl ⟨vs,v',PY m,Am b d g,a⟩
  ·exact .inr ⟨rfl,.inr (.inl ⟨H',v,uY b d h,a⟩)⟩
 ·exact .inr ⟨rfl,.inr (.inl ⟨H',v,uY b d h,a⟩)⟩
 ·split at h
  case h_2=>simp at h
  rename_i e k;simp only[ca,cb]at h;obtain⟨rfl,rfl⟩:=h;obtain⟨i,j⟩:=GM (fun args H v H' g=>uY b d g) k;exact .inr ⟨rfl,.inr (.inr (.inl ⟨e,i,j,by rw[<-QH];exact a⟩))⟩
 ·split at h
  case h_2=>simp at h
  rename_i vs H1 l
  split at h
  case h_2=>simp at h
  rename_i v' g;simp only[ca,cb]at h;obtain⟨rfl,rfl⟩:=h;exact .inr ⟨rfl,.inl ⟨vs,H1,v',l,Am b d g,a⟩⟩
theorem aws(i:sj P pl)(j:∀c,mP P (B c)){c f:ao}{args:List AV}{H:ak}{e:bg}(h:IF P aq pl B c f args H=some e)(K:bg->Prop)(g:K e):mw P f args H K:=by
 unfold IF at h
 split at h
 ·rename_i aA v' hx;simp only[ca]at h;subst h;obtain⟨b,d⟩:=i.yv _ _ _ _ _ hx;exact .inr (.inr (.inr ⟨aA,v',b,d,g⟩))
 split at h
 ·obtain⟨b,d⟩:=GM (fun args H v H' a=>uY i j a) h;exact .inr (.inr (.inl ⟨e,b,d,g⟩))
 split at h
 ·rename_i vs m
  split at h
  case h_2=>simp at h
  rename_i v' a;simp only[ca]at h;subst h;exact .inl ⟨vs,v',PY m,Am i j a,g⟩
 ·split at h
  case h_2=>
   obtain⟨b,d⟩:=GM (fun args H v H' a=>uY i j a) h;exact .inr (.inr (.inl ⟨e,b,d,g⟩))
  rename_i vs bs l
  split at h
  case h_2=>simp at h
  rename_i aA aW k
  split at h
  case h_2=>simp at h
  rename_i v' a;simp only[ca]at h;subst h;exact .inr (.inl ⟨vs,bs,aA,aW,v',l,k,Am i j a,g⟩)
theorem PH(o:sj P pl)(a:mP P B1){b:Nat}{H H':ak}{args:List AV}{v:AV}(h:DO P aq B1 b H args=some (H',v)):gJ P b H args H' v:=by
 unfold DO at h
 split at h
 case h_2=>simp at h
 rename_i L i;simp only[ac,b5,am]at h;obtain⟨⟨f,g⟩,h⟩:=h
 split at h
 case h_2=>simp at h
 rename_i R l
 split at h
 case h_2=>simp at h
 rename_i s H1 m
 split at h
 case h_2=>simp at h
 rename_i q j
 split at h
 case h_2=>simp at h
 rename_i aY
 split at h
 case h_2=>simp at h
 rename_i e t p n
 split at h
 case h_2=>simp at h
 rename_i r k;simp only[ca,cb]at h;obtain⟨rfl,rfl⟩:=h;obtain⟨w,c,a2⟩:=nN a m (QM _ l);obtain⟨x,u,d⟩:=nN a n c;refine Uy aq o.mix i (gU f) (by simpa only[am]using g) ?_;unfold Dk;refine a2 _ ?_;simp only[CC,j];refine⟨aY,d _ ?_⟩;simp only[xo,k];exact⟨trivial,.inl rfl⟩
theorem avY(g:sj P pl)(e:∀c,mP P (B c)){i:AV}{b:Nat}{H H':ak}(h:I6 P aq pl B i b H=some H')(K:ak->Prop)(f:K H'):lJ P i b H K:=by
 unfold I6 at h
 split at h
 ·split at h
  case h_2=>simp at h
  rename_i v a d;simp only[ca]at h;subst h;exact⟨a,v,uY g e d,f⟩
 ·split at h
  case h_2=>simp at h
  rename_i v a d;simp only[ca]at h;subst h;exact⟨a,v,uY g e d,f⟩
 ·simp at h
theorem xm(a:sj P pl):∀n c,mP P (mY P aq pl n c)
 |0,_=>⟨fun _ _ _ _ _ h=>by simp[mY,xI]at h,fun _ _ _ _ h=>by simp[mY,xI]at h,fun _ _ _ _ _ h=>by simp[mY,xI]at h,fun _ _ _ _ h=>by simp[mY,xI]at h,fun _ _ _ _ h=>by simp[mY,xI]at h⟩
 |n+1,c=>⟨fun _ _ _ _ _ h=>awr a (xm a n) h,fun _ _ _ _ h=>aws a (xm a n) h,fun _ _ _ _ _ h=>PH a (xm a n c) h,fun _ _ _ _ h=>avY a (xm a n) h,fun _ _ _ _ h=>aqU (fun _ _ _ _ _ b=>PH a (xm a n c) b) h⟩
theorem reckon{f:ao}{vs:List PV}{v:PV}(n:Nat)(a:sj P pl)(h:uk P aq pl (mY P aq pl n) f vs=some v):al P f vs v:=Am a (xm a n) h
end
section
variable{P:ax}{aq:ao->Bool}
theorem al.eE{f:ao}{args c:List PV}{v v':PV}(h:al P f args v)(d:ch c args)(g:Wk v v'):al P f c v':=by
 rcases h with h|h
 ·refine .inl ⟨h.1,fun w ad a i j b=>(h.2 w ad a i j (bY.eE _ _ _ d b)).mono ?_⟩;rintro e w' ⟨cv,aJ,k1,k2,k3,k4,k5,k6,k,k7⟩;exact⟨cv,aJ,k1,k2,k3,k4,k5,k6,k,aH.eE _ _ _ g k7⟩
 ·refine .inr fun w ad a b=>?_;obtain⟨cv,k1,k2⟩:=h w ad a (bY.eE _ _ _ d b);exact⟨cv,k1,aH.eE _ _ _ g k2⟩
def Eg(P:ax)(a:List aT)(v:PV)(e:bL)(s:St):Prop:=
 (match e with
  | .exit _=>False
  |_=>True)/\∃vs,iE P s a=some vs/\∃v',gC s.heap 9 (oneOf vs)=some v'/\Wk v' v
theorem atF{a:List aT}{v:PV}{s:St}:Eg P a v .ret s=∃vs,iE P s a=some vs/\∃v',gC s.heap 9 (oneOf vs)=some v'/\Wk v' v:=by simp[Eg]
theorem amo{a:List aT}{v:PV}{s:St}:Eg P a v .normal s=∃vs,iE P s a=some vs/\∃v',gC s.heap 9 (oneOf vs)=some v'/\Wk v' v:=by simp[Eg]
theorem vF.eE{f:ao}{args a:List PV}{v v':PV}(h:vF P f args v)(i:ch a args)(j:Wk v v'):vF P f a v':=by
 refine⟨h.1,fun w ad b c d g=>(h.2 w ad b c d (bY.eE _ _ _ i g)).mono ?_⟩;rintro e w' ⟨cv,aJ,k1,k2,k3,k4,k5,k6,k,k7⟩;exact⟨cv,aJ,k1,k2,k3,k4,k5,k6,k,aH.eE _ _ _ j k7⟩
theorem Zp{dst:Option Tmp}{ty:Nat}{pos:String}{af:Array Edge}{g:Option (Nat×Bool)}{env:Env}{heap:ak}{K:bg->Prop}{f:ao}{h e:Array av}(hf:aq f=false):
 nK P aq ⟨dst,.makeFunc (.func f) h e,ty,pos,af,g⟩ ⟨env,heap⟩ K=cN (DD f (h.toList.map (ev env)) (e.toList.map (ev env))) K:=by
 simp only[nK,qX,gO,hf,DD,Bool.false_eq_true,if_false]
 split
 ·rename_i c d;simp only[c,d,cN,true_and]
 ·rename_i c
  split
  ·rename_i a b d i;exact(c a b d i).elim
  ·simp only[cN,true_and]
section guards
variable{ops:Array Oper}{o:Oper}{r:List Oper}{K:St->Prop}{want t:Bool}{s:St}{i:Nat}{acc:List Touch}
theorem Z8{l:List Oper}{j:Nat}{e:Env}:guardOf l.toArray j e=match(l[j]?).bind (·.dst)with
 |some d=>aV e d
 |none=>.p (.aE []):=by simp only[guardOf,List.getElem?_toArray];cases l[j]?.bind (·.dst)<;>rfl
end guards
section calls
variable{f:ao}{H H1:ak}{K:AV->ak->Prop}{L:bg->Prop}{v a b c d e a' b' c' d' e':PV}{dr:Bool}
theorem cw(vs:List PV){a:List PV}(h:al P f a v)(hk:K (.p v) H)(b:ch vs a):mu P dr f (vs.map .p) H K:=.inl ⟨vs,v,rfl,h.eE b (Wk.refl _),hk⟩
theorem ce(vs:List PV){a:List PV}(h:al P f a v)(hk:L {v:=.p v})(b:ch vs a):mw P f (vs.map .p) H L:=.inl ⟨vs,v,rfl,h.eE b (Wk.refl _),hk⟩
theorem cwp{args:List AV}{vs a:List PV}(h:al P f a v)(c:p0 H args=some (vs,H1))(hk:K (.p v) H1)(b:ch vs a:=by first|exact ch.refl _|simp[Wk,ch]):mu P false f args H K:=
 .inr ⟨rfl,.inl ⟨vs,H1,v,c,h.eE b (Wk.refl _),hk⟩⟩
theorem cep{args:List AV}{vs a:List PV}{bs:List Nat}{aA aW:List (Nat×Obj)}(h:al P f a v)(c:sx H args=some (vs,bs))(hf:nP H bs=some (aA,aW))(hk:L {v:=.p v,aA,aW})(b:ch vs a:=by first|exact ch.refl _|simp[Wk,ch]):mw P f args H L:=
 .inr (.inl ⟨vs,bs,aA,aW,v,c,hf,h.eE b (Wk.refl _),hk⟩)
end calls
def KV(T:ak)(a v:AV):Prop:=a=v\/Gh T a v
theorem WN{T:ak}{v:AV}:KV T v v=True:=by simp[KV]
theorem WL{T:ak}{b aF an off len:Nat}:KV T (.p .aM) (.sl b aF an off len)=(aF=0/\off=0/\len=0/\∃k z,T[b]?=some (.arr k 0 z [])/\k.gr=true):=by simp[KV,Gh,iv]
theorem WO{T:ak}{u u':ay}{fs:List PV}{a:List AV}:KV T (.p (.st u fs)) (.st u' a)=(u=u'/\nE T fs a):=by simp[KV,Gh,iv]
def pA(T:ak)(e:Env):Env->Prop
 |[]=>True
 |(x,v)::r=>KV T (aV e x) v/\pA T e r
def KO(T:ak)(o:Obj):Obj->Prop
 | .hole=>True
 | .box false v'=>match o with
  | .box false v=>KV T v v'
  |_=>False
 | .arr k aF z es=>(o=.hole/\aF=0/\es=[]/\k.gr=true)\/o=.arr k aF z es
 |o'=>o=o'
def KN:Obj->Prop
 | .hole=>True
 | .arr k aF _ es=>aF=0/\es=[]/\k.gr=true
 |_=>False
def jf(T:ak):ak->ak->Prop
 |_,[]=>True
 |[],o'::t=>KN o'/\jf T [] t
 |o::h,o'::t=>KO T o o'/\jf T h t
theorem pA.get{T:ak}{e:Env}:∀{t:Env},pA T e t->∀x,aV t x=aV e x\/aV t x=.p .undef\/Gh T (aV e x) (aV t x)
 |[],_,x=>.inr (.inl rfl)
 |(y,v)::t,h,x=>by
  simp only[pA]at h;simp only[aV]
  split
  ·rename_i hx;subst hx;rcases h.1 with h|h
   ·exact .inl h.symm
   ·exact .inr (.inr h)
  ·exact pA.get h.2 x
theorem jf.get{T:ak}:∀{h t:ak},jf T h t->∀(b:Nat)(o:Obj),t[b]?=some o->
 o=.hole\/h[b]?=some o\/((h[b]?=none\/h[b]?=some .hole)/\∃k z,o=.arr k 0 z []/\k.gr=true)\/(∃v v',h[b]?=some (.box false v)/\o=.box false v'/\Gh T v v')
 |_,[],_,b,o,c=>by simp at c
 |[],o'::t,hk,b,o,c=>by
  simp only[jf]at hk;cases b with
  |zero=>
   simp at c;subst c;cases o'<;>have a:=hk.1<;>simp only[KN]at a
   ·exact .inl rfl
   ·obtain⟨rfl,rfl,d⟩:=a;exact .inr (.inr (.inl ⟨.inl rfl,_,_,rfl,d⟩))
  |succ b=>simpa using jf.get hk.2 b o (by simpa using c)
 |e::h,o'::t,hk,b,o,c=>by
  simp only[jf]at hk;cases b with
  |zero=>
   simp at c;subst c;have a:=hk.1;cases o' with
   |hole=>exact .inl rfl
   |dead=>simp only[KO]at a;subst a;exact .inr (.inl rfl)
   |map fz es=>simp only[KO]at a;subst a;exact .inr (.inl rfl)
   |fC s p=>simp only[KO]at a;subst a;exact .inr (.inl rfl)
   |loop L=>simp only[KO]at a;subst a;exact .inr (.inl rfl)
   |arr k aF z es=>
    simp only[KO]at a;rcases a with⟨rfl,rfl,rfl,d⟩|rfl
    ·exact .inr (.inr (.inl ⟨.inr rfl,_,_,rfl,d⟩))
    ·exact .inr (.inl rfl)
   |box fz v'=>
    cases fz with
    |true=>simp only[KO]at a;subst a;exact .inr (.inl rfl)
    |false=>
     simp only[KO]at a
     split at a
     ·rcases a with rfl|a
      ·exact .inr (.inl rfl)
      ·exact .inr (.inr (.inr ⟨_,_,rfl,rfl,a⟩))
     ·exact a.elim
  |succ b=>simpa using jf.get hk.2 b o (by simpa using c)
theorem dh.og{N:Nat}{s t:St}(hn:t.heap.take N=s.heap.take N)(c:pA t.heap s.env t.env)(hh:jf t.heap s.heap t.heap)(d:ji t.heap t.env)(e:ek t.heap t.heap):dh N s t:=by
 refine .inr ⟨⟨c.get,hh.get,d.get,e.get⟩,fun b a=>?_⟩;have:=congrArg (fun l:ak=>l[b]?) hn;simpa[a6,a]using this
theorem Se{T:ak}{o:Obj}:KO T o o=True:=by
 cases o with
 |box fz v=>cases fz<;>simp[KO,KV]
 |_=>simp[KO]
theorem WJ{T:ak}{o:Obj}:KO T o .hole=True:=by simp[KO]
theorem WI{T:ak}{v v':AV}:KO T (.box false v) (.box false v')=KV T v v':=(rfl)
theorem WK{T:ak}{k:AK}{aF z:Nat}{a:List AV}:KO T .hole (.arr k aF z a)=(aF=0/\a=[]/\k.gr=true):=by simp[KO]
theorem WH:KN .hole=True:=(rfl)
theorem WG{k:AK}{aF z:Nat}{a:List AV}:KN (.arr k aF z a)=(aF=0/\a=[]/\k.gr=true):=(rfl)
theorem WM{T:ak}{x y:PV}:KV T (.p x) (.p y)=(x=y):=by
 have:Gh T (.p x) (.p y)↔x=y:=by cases x<;>simp[Gh,iv,eq_comm]
 simp[KV,this]
def yO{α:Type}(N:Nat)(mk:α->St)(ok:α->Prop)(m:α->Nat)(n:Nat)(s:St):Prop:=∃a',m a'<n/\ok a'/\dh N s (mk a')
def vu{α:Type}(N:Nat)(mk:α->St)(ok:α->Prop)(m:α->Nat)(n:Nat)(Q:bL->St->Prop)(e:bL)(s:St):Prop:=
 match e with
 | .normal=>yO N mk ok m n s
 |e=>Q e s
section
variable{α:Type}{N:Nat}{mk:α->St}{ok:α->Prop}{m:α->Nat}{n:Nat}{Q:bL->St->Prop}{s s':St}{q:Cx}
theorem ZQ:vu N mk ok m n Q .normal s=yO N mk ok m n s:=(rfl)
theorem aqM{id:Nat}:vu N mk ok m n Q (.exit id) s=Q (.exit id) s:=(rfl)
theorem as8:vu N mk ok m n Q .ret s=Q .ret s:=(rfl)
theorem wl{b:Code}(mk:α->St)(ok:α->Prop)(m:α->Nat)(c:α)(k:ok c)(jg:∀a,ok a->gv P aq q b (vu q.2 mk ok m (m a) Q) (mk a))
 (hn:(mk c).heap.take q.2=s.heap.take q.2:=by simp)(i:pA (mk c).heap s.env (mk c).env:=by simp)(j:jf (mk c).heap s.heap (mk c).heap:=by simp)(l:ji (mk c).heap (mk c).env:=by simp)(o:ek (mk c).heap (mk c).heap:=by simp):
 gv P aq q (.loop b) Q s:=by
 simp only[gv];refine⟨fun n t=>∃a,ok a/\t=mk a/\n=m a,⟨m c,mk c,dh.og hn i j l o,c,k,rfl,rfl⟩,?_⟩;rintro n t ⟨a,h,rfl,rfl⟩;have:vu q.2 mk ok m (m a) Q=xS q.2 (m a) (fun n t=>∃a,ok a/\t=mk a/\n=m a) Q:=by
  funext e s
  cases e with
  |normal=>
   simp only[vu,xS,yO,eq_iff_iff];constructor
   ·rintro⟨a',d,f,g⟩;exact⟨m a',mk a',d,g,a',f,rfl,rfl⟩
   ·rintro⟨_,_,d,g,a',f,rfl,rfl⟩;exact⟨a',d,f,g⟩
  |exit id=>rfl
  |ret=>rfl
 rw[<-this];exact jg a h
theorem rnd(a':α)(b:ok a')(a:m a'<n:=by omega)(hn:(mk a').heap.take N=s.heap.take N:=by simp)(c:pA (mk a').heap s.env (mk a').env:=by simp)(d:jf (mk a').heap s.heap (mk a').heap:=by simp)(e:ji (mk a').heap (mk a').env:=by simp)(f:ek (mk a').heap (mk a').heap:=by simp):
 yO N mk ok m n s:=⟨a',a,b,dh.og hn c d e f⟩
end
theorem aU(n:Int)(h:-9223372036854775808<=n)(a:n<=9223372036854775807):IntKind.i64.wrap n=n:=IntWalk.i64_in n ⟨h,a⟩
theorem E8(a b:Int):(a<b/\¬b<=a)\/(¬a<b/\b<=a):=o_
theorem b8{i:Nat}(h:i<4611686018427387904):IntKind.i64.wrap ((i:Int)+1)=(i:Int)+1:=aU _ o_ o_
attribute [simp] Wk ch aQ Obj.has Z8 DD ZQ aqM as8 pA jf WN WM WL WO Se WJ WI WK WH WG nE iv AK.gr ji ek aI Obj.refs
attribute [simp] atF amo Wk.refl ch.refl
end
end Go.ae
namespace Go.ae
variable[Gl]
mutual
def fq:PV->Prop
 | .str s=>∀c∈s,c<256
 | .cW t=>fq t
 | .dD _ es| .seq es| .st _ es| .aE es=>pE es
 |_=>True
def pE:List PV->Prop
 |[]=>True
 |v::vs=>fq v/\pE vs
end
section
variable{P:ax}{w:a1}{ad:Nat->Prop}
theorem QC(bs:ByteArray):∀c∈bs.data.toList.map (·.toNat),c<256:=by
 intro c hc;simp only[a7]at hc;obtain⟨b,_,rfl⟩:=hc;exact UInt8.toNat_lt b
mutual
theorem bc.fq:∀(v:PV)(cs:List a0),bc P w ad v cs->fq v
 | .str s,cs,h=>by simp only[bc]at h;obtain⟨bs,_,rfl⟩:=h;simp only[ae.fq];exact QC bs
 | .cW t,cs,h=>by simp only[bc]at h;obtain⟨_,_,ts,a,_⟩:=h;simp only[ae.fq];exact bc.fq t ts a
 | .dD f b,cs,h=>by simp only[bc]at h;obtain⟨_,_,_,_,d,a,_⟩:=h;simp only[ae.fq];exact bA.fq _ b d a
 | .seq b,cs,h=>by
  simp only[bc]at h;simp only[ae.fq];rcases h with⟨rfl,_⟩|⟨_,_,_,_,d,a,_⟩
  ·trivial
  ·exact bA.fq _ b d a
 | .st u b,cs,h=>by simp only[bc]at h;obtain⟨l,d,_,a,_⟩:=h;simp only[ae.fq];exact bA.fq _ b d a
 | .aE b,cs,h=>by simp[bc]at h
 | .undef,_,_| .bool _,_,_| .int _ _,_,_| .gL,_,_| .aM,_,_| .gB,_,_| .iV,_,_| .iK,_,_| .fA _,_,_| .func _ _ _,_,_=>by simp[ae.fq]
theorem bA.fq:∀(l:List Nat)(b:List PV)(d:List (List a0)),bA P w ad l b d->pE b
 |_,[],_,_=>by simp[ae.pE]
 |[],_::_,_,h=>by simp[bA]at h
 |n::l,v::vs,d,h=>by
  simp only[bA]at h;obtain⟨c,cs,_,a,_,g⟩:=h;simp only[ae.pE];exact⟨bc.fq v c a,bA.fq l vs cs g⟩
theorem aH.fq:∀(v:PV)(x:a0),aH P w ad v x->fq v
 | .str s,cs,h=>by simp only[aH]at h;obtain⟨bs,_,rfl⟩:=h;simp only[ae.fq];exact QC bs
 | .cW t,cs,h=>by simp only[aH]at h;obtain⟨_,_,ts,a,_⟩:=h;simp only[ae.fq];exact bc.fq t ts a
 | .dD f b,cs,h=>by simp only[aH]at h;obtain⟨_,_,_,_,d,a,_⟩:=h;simp only[ae.fq];exact bA.fq _ b d a
 | .seq b,cs,h=>by
  simp only[aH]at h;simp only[ae.fq];rcases h with⟨rfl,_⟩|⟨_,_,_,_,d,a,_⟩
  ·trivial
  ·exact bA.fq _ b d a
 | .st u b,cs,h=>by simp only[aH]at h;obtain⟨l,d,_,a,_⟩:=h;simp only[ae.fq];exact bA.fq _ b d a
 | .aE b,cs,h=>by simp only[aH]at h;obtain⟨e,a,_⟩:=h;simp only[ae.fq];exact bY.fq b e a
 | .undef,_,_| .bool _,_,_| .int _ _,_,_| .gL,_,_| .aM,_,_| .gB,_,_| .iV,_,_| .iK,_,_| .fA _,_,_| .func _ _ _,_,_=>by simp[ae.fq]
theorem bY.fq:∀(b:List PV)(e:List a0),bY P w ad b e->pE b
 |[],_,_=>by simp[ae.pE]
 |v::vs,e,h=>by
  simp only[bY]at h;obtain⟨y,i,_,a,g⟩:=h;simp only[ae.pE];exact⟨aH.fq v y a,bY.fq vs i g⟩
end
theorem XC{f:ao}{args:List PV}{v:PV}(h:pE args->al P f args v):al P f args v:=by
 by_cases hs:pE args
 ·exact h hs
 ·exact .inr fun w ad b a=>(hs (bY.fq _ _ a)).elim
end
end Go.ae
namespace Go.ae
variable[Gl]
@[reducible] def Tg{α:Type}(_:α)(β:Type):Type:=β
@[reducible] def Tg1{α:Type 1}(_:α)(β:Type):Type:=β
section
variable(P:ax)(aq:ao->Bool)
def fT(q:Cx)(c:Code)(Q:bL->St->Prop)(s:Tg (q,c,Q) St):Prop:=gv P aq q c Q s
def uh(a:Array Oper)(l:List Oper)(K:St->Prop)(s:Tg (a,l,K) St):Prop:=lV P aq a l K s
def sH(b:Array Oper)(l:List Oper)(i:Nat)(a:List Touch)(K:St->Prop)(s:Tg (b,l,i,a,K) St):Prop:=lI P aq b l i a K s
def ER(K:St->Prop)(Q:bL->St->Prop)(e:Tg (K,Q) bL)(s:Tg (K,Q) St):Prop:=We K Q e s
def vo(id:Nat)(Q:bL->St->Prop)(e:Tg (id,Q) bL)(s:Tg (id,Q) St):Prop:=tL id Q e s
def Uk(a b:St->Prop)(s:St)(v:Tg (a,b,s) AV):Prop:=DV v a b s
def DZ(b:Array Oper)(r:List Oper)(i:Nat)(a:List Touch)(K:St->Prop)(dst:Option Tmp)(s:St)(e:Tg (b,r,i,a,K,dst,s) bg):Prop:=Ul P aq b r i a K dst s e
def Q7(dst:Option Tmp)(s:St)(K:St->Prop)(e:Tg (dst,s,K) bg):Prop:=Q6 dst s K e
def V3(dst:Option Tmp)(s:St)(K:St->Prop)(v:Tg (dst,s,K) AV)(H:Tg (dst,s,K) ak):Prop:=V1 dst s K v H
def Ig(a:Array Oper)(o:Oper)(r:List Oper)(K:St->Prop)(b:Bool)(s:St)(g:Tg (a,o,r,K,b,s) AV):Prop:=aMl P aq a o r K b s g
def Hy(b:Array Oper)(o:Oper)(r:List Oper)(i:Nat)(a:List Touch)(K:St->Prop)(c:Bool)(s:St)(g:Tg (b,o,r,i,a,K,c,s) AV):Prop:=aMm P aq b o r i a K c s g
def FT(o:Oper)(K:St->Prop)(s:St)(_:Tg (o,K,s) Unit):Prop:=qm P aq o K s
def FR(o:Oper)(s:St)(K:bg->Prop)(_:Tg (o,K,s) Unit):Prop:=nK P aq o s K
def gp(K:bg->Prop)(r:Tg K fZ):Prop:=cN r K
def fj(K:bg->Prop)(C:AV->List AV->Prop)(op:Op)(s:St)(_:Tg (K,C,op,s) Unit):Prop:=
 match op with
 | .call {callee:=.value f,args,.. }=>C (ev s.env f) (args.toList.map (ev s.env))
 |op=>qX P aq ⟨none,op,0, "",#[],none⟩ s.env s.heap K
def Ej(H:ak)(K:AV->ak->Prop)(f:Tg (H,K) AV)(args:Tg (H,K) (List AV)):Prop:=DC P f args H K
def Ba(H:ak)(K:bg->Prop)(f:Tg (H,K) AV)(args:Tg (H,K) (List AV)):Prop:=Dd P f args H K
def ni(d:Bool)(f:ao)(K:AV->ak->Prop)(args:Tg K (List AV))(H:Tg K ak):Prop:=mu P d f args H K
def pD(f:ao)(K:bg->Prop)(args:Tg K (List AV))(H:Tg K ak):Prop:=mw P f args H K
def vD(R:AV->PV->Prop):List AV->List PV->Prop
 |[],vs=>vs=[]
 |x::xs,vs=>match vs with
  |v::vs=>R x v/\vD R xs vs
  |[]=>False
def iz(H:ak):Nat->AV->PV->Prop
 |0=>fun x v=>match x with
  | .p a=>Wk a v
  |_=>False
 |n+1=>fun x v=>match x with
  | .p a=>Wk a v
  | .sl b aF z off len=>match v with
   | .seq fs=>match H[b]? with
    |some (.arr _ e h es)=>aF=e/\z=h/\off+len<=es.length/\vD (iz H n) ((es.drop off).take len) fs
    |_=>False
   |_=>False
  | .st u xs=>match v with
   | .st u' vs=>u=u'/\vD (iz H n) xs vs
   |_=>False
  | .aE xs=>match v with
   | .aE vs=>vD (iz H n) xs vs
   |_=>False
  | .ptr b path=>match v with
   | .cW t=>match H[b]? with
    |some (.box _ y)=>match fY y path with
     |some s=>iz H n s t
     |none=>False
    |_=>False
   |_=>False
  | .map b=>match v with
   | .fA es=>match H[b]? with
    |some (.map _ c)=>c=es
    |_=>False
   |_=>False
  | .func f xs g=>match v with
   | .func d vs us=>f=d/\vD (iz H n) xs vs/\vD (iz H n) g us
   |_=>False
  |_=>False
def qe(H:ak)(n:Nat):List AV->List PV->Prop:=vD (iz H n)
def vH(a:List aT)(v:PV)(e:Tg (a,v) bL)(s:Tg (a,v) St):Prop:=
 (match e with
  | .exit _=>False
  |_=>True)/\∃vs,iE P s a=some vs/\iz (St.heap s) 9 (oneOf vs) v
def AX(a:Array Oper)(l:Tg a (List Touch)):Bool:=jY a l
def aPA(a:Array Oper)(i j:Tg a Nat):Bool:=reach a a.size i j
end
section
variable{P:ax}{aq:ao->Bool}{q:Cx}
theorem aQ8{Q:bL->St->Prop}{s:St}:fT P aq q .skip Q s=Q .normal s:=(rfl)
theorem auS{l:Nat}{Q:bL->St->Prop}{s:St}:fT P aq q (.label l) Q s=Q .normal s:=(rfl)
theorem aQ6{id:Nat}{Q:bL->St->Prop}{s:St}:fT P aq q (.exit id) Q s=Q (.exit id) s:=(rfl)
theorem aQ7{Q:bL->St->Prop}{s:St}:fT P aq q .ret Q s=Q .ret s:=(rfl)
theorem auQ{b:Code}{Q:bL->St->Prop}{s:St}:fT P aq q (.scope b) Q s=fT P aq q b Q s:=(rfl)
theorem aQ5{id:Nat}{l:List Oper}{Q:bL->St->Prop}{s:St}:fT P aq q (.region id l.toArray true) Q s=sH P aq l.toArray l 0 [] (Q .normal) s:=(rfl)
theorem auR{id:Nat}{l:List Oper}{Q:bL->St->Prop}{s:St}:fT P aq q (.region id l.toArray false) Q s=uh P aq l.toArray l (Q .normal) s:=(rfl)
theorem ba{a b:Code}{Q:bL->St->Prop}{s:St}:fT P aq q (.seq a b) Q s=fT P aq q a (ER (fT P aq q b Q) Q) s:=(rfl)
theorem Qy{id:Nat}{b:Code}{Q:bL->St->Prop}{s:St}:fT P aq q (.block id b) Q s=fT P aq q b (vo id Q) s:=(rfl)
theorem aQ4{c:av}{a b:Code}{Q:bL->St->Prop}{s:St}:fT P aq q (.cond c a b) Q s=Uk (fT P aq q a Q) (fT P aq q b Q) s (ev s.env c):=(rfl)
theorem ZT{K:St->Prop}{Q:bL->St->Prop}{s:St}:ER K Q .normal s=K s:=(rfl)
theorem aqv{id:Nat}{K:St->Prop}{Q:bL->St->Prop}{s:St}:ER K Q (.exit id) s=Q (.exit id) s:=(rfl)
theorem ar2{K:St->Prop}{Q:bL->St->Prop}{s:St}:ER K Q .ret s=Q .ret s:=(rfl)
theorem an6{t:Bool}{a b:St->Prop}{s:St}:Uk a b s (.p (.bool t))=if t then a s else b s:=(rfl)
theorem at5{b:Array Oper}{r:List Oper}{i:Nat}{a:List Touch}{K:St->Prop}{dst:Option Tmp}{env:Env}{heap:ak}{v:AV}{aA aW:List (Nat×Obj)}{bm:List Obj}:DZ P aq b r i a K dst ⟨env,heap⟩ ⟨v,aA,aW,bm⟩=sH P aq b r (i+1) (iH i heap.length ⟨v,aA,aW,bm⟩ a) K ⟨put dst v env,bu heap aW++bm⟩:=(rfl)
theorem awL{dst:Option Tmp}{env:Env}{heap:ak}{K:St->Prop}{v:AV}{aA aW:List (Nat×Obj)}{bm:List Obj}:Q7 dst ⟨env,heap⟩ K ⟨v,aA,aW,bm⟩=K ⟨put dst v env,bu heap aW++bm⟩:=(rfl)
theorem avl{dst:Option Tmp}{env:Env}{heap H:ak}{K:St->Prop}{v:AV}:V3 dst ⟨env,heap⟩ K v H=K ⟨put dst v env,H⟩:=(rfl)
theorem aQ9{b:Array Oper}{i:Nat}{a:List Touch}{K:St->Prop}{s:St}:sH P aq b [] i a K s=(AX b a=true/\K s):=(rfl)
theorem auP{b:Array Oper}{i c:Nat}{pos:String}{a:List Touch}{K:St->Prop}{s:St}{dst:Option Tmp}{op:Op}{af:Array Edge}{r:List Oper}:sH P aq b ({dst,op,type:=c,pos,after:=af,guard:=none}::r) i a K s=FR P aq {dst,op,type:=c,pos,after:=af,guard:=none} s (DZ P aq b r i a K dst s) ():=(rfl)
theorem arq{a:Array Oper}{i d j:Nat}{b:Bool}{pos:String}{c:List Touch}{K:St->Prop}{s:St}{dst:Option Tmp}{op:Op}{af:Array Edge}{r:List Oper}:sH P aq a ({dst,op,type:=d,pos,after:=af,guard:=some (j,b)}::r) i c K s=Hy P aq a {dst,op,type:=d,pos,after:=af,guard:=some (j,b)} r i c K b s (guardOf a j s.env):=(rfl)
theorem aRf{a:Array Oper}{K:St->Prop}{s:St}:uh P aq a [] K s=K s:=(rfl)
theorem auO{a:Array Oper}{b:Nat}{pos:String}{K:St->Prop}{s:St}{dst:Option Tmp}{op:Op}{af:Array Edge}{r:List Oper}:uh P aq a ({dst,op,type:=b,pos,after:=af,guard:=none}::r) K s=FT P aq {dst,op,type:=b,pos,after:=af,guard:=none} (uh P aq a r K) s ():=(rfl)
theorem arl{a:Array Oper}{c j:Nat}{b:Bool}{pos:String}{K:St->Prop}{s:St}{dst:Option Tmp}{op:Op}{af:Array Edge}{r:List Oper}:uh P aq a ({dst,op,type:=c,pos,after:=af,guard:=some (j,b)}::r) K s=Ig P aq a {dst,op,type:=c,pos,after:=af,guard:=some (j,b)} r K b s (guardOf a j s.env):=(rfl)
section ops
variable{dst:Option Tmp}{ty:Nat}{pos:String}{af:Array Edge}{g:Option (Nat×Bool)}{env:Env}{heap:ak}{K:bg->Prop}{L:St->Prop}{C:AV->List AV->Prop}
theorem aLt{op:Op}:FR P aq ⟨dst,op,ty,pos,af,g⟩ ⟨env,heap⟩ K ()=fj P aq K (Ba P heap K) op ⟨env,heap⟩ ():=by
 cases op with
 |call c=>obtain⟨a,b,c⟩:=c;cases a<;>rfl
 |_=>rfl
theorem aPg{op:Op}:FT P aq ⟨dst,op,ty,pos,af,g⟩ L ⟨env,heap⟩ ()=fj P aq (Q7 dst ⟨env,heap⟩ L) (Ej P heap (V3 dst ⟨env,heap⟩ L)) op ⟨env,heap⟩ ():=by
 cases op with
 |call c=>obtain⟨a,b,c⟩:=c;cases a<;>rfl
 |_=>rfl
theorem aPX{x:av}:fj P aq K C (.move x) ⟨env,heap⟩ ()=K {v:=ev env x}:=(rfl)
theorem Y6{x:av}:fj P aq K C (.assign x) ⟨env,heap⟩ ()=K {v:=ev env x}:=(rfl)
theorem aPZ{c a b:av}:fj P aq K C (.pick c a b) ⟨env,heap⟩ ()=gp K (DF (ev env c) (ev env a) (ev env b)):=(rfl)
theorem aPL{T:ay}:fj P aq K C (.alloc T) ⟨env,heap⟩ ()=gp K (Df P T heap.length):=(rfl)
theorem aPN{T:ay}{x:av}:fj P aq K C (.box T x) ⟨env,heap⟩ ()=gp K (IA P T heap.length (ev env x)):=(rfl)
theorem aPO{T:ay}{parts:Array (Nat×av)}:fj P aq K C (.build T parts) ⟨env,heap⟩ ()=gp K (De P T (parts.toList.map fun(i,x)=>(i,ev env x))):=(rfl)
theorem XQ{T:ay}{n:Nat}{parts:Array (Nat×av)}:fj P aq K C (.buildSlice T n parts) ⟨env,heap⟩ ()=gp K (Ck P T n (parts.toList.map fun(i,x)=>(i,ev env x)) heap.length):=(rfl)
theorem aPU{T:ay}{a:av}:fj P aq K C (.load T a) ⟨env,heap⟩ ()=gp K (AL P T heap (ev env a)):=(rfl)
theorem aP3{T:ay}{a x:av}:fj P aq K C (.store T a x) ⟨env,heap⟩ ()=gp K (Ah P T heap (ev env a) (ev env x)):=(rfl)
theorem aPM{op:BinOp}{T a:ay}{x y:av}:fj P aq K C (.binOp op T x y a) ⟨env,heap⟩ ()=gp K (kg P op T (uf y) heap (ev env x) (ev env y)):=(rfl)
theorem aP4{op:UnOp}{T:ay}{x:av}:fj P aq K C (.unOp op T x) ⟨env,heap⟩ ()=gp K (EW op (ev env x)):=(rfl)
theorem aPQ{S D:ay}{x:av}:fj P aq K C (.convert S D x) ⟨env,heap⟩ ()=gp K (DB P S D (ev env x)):=(rfl)
theorem X3{t:av}{i:Nat}:fj P aq K C (.extract t i) ⟨env,heap⟩ ()=gp K (Cz (ev env t) i):=(rfl)
theorem XK{T:ay}{a:av}{f:Nat}:fj P aq K C (.fieldAddr T a f) ⟨env,heap⟩ ()=gp K (zC P T (ev env a) f):=(rfl)
theorem XJ{T:ay}{x i:av}:fj P aq K C (.indexAddr T x i) ⟨env,heap⟩ ()=gp K (zB P T heap (ev env x) (ev env i)):=(rfl)
theorem aPS{T:ay}{x i:av}:fj P aq K C (.index T x i) ⟨env,heap⟩ ()=gp K (Dg P T (ev env x) (ev env i)):=(rfl)
theorem aPT{x:av}{a:Array ay}:fj P aq K C (.call {callee:=.builtin .len,args:=#[x],argTypes:=a}) ⟨env,heap⟩ ()=gp K (ED P (a.getD 0 0) a.size heap (ev env x)):=(rfl)
theorem aPP{f:av}{args:List av}{a:Array ay}:fj P aq K C (.call {callee:=.value f,args:=args.toArray,argTypes:=a}) ⟨env,heap⟩ ()=C (ev env f) (args.map (ev env)):=(rfl)
theorem aP2{T:ay}{x:av}{lo hi:Option av}:fj P aq K C (.slice T x lo hi none) ⟨env,heap⟩ ()=gp K (Ai P T heap (ev env x) (lo.map (ev env)) (hi.map (ev env))):=(rfl)
theorem Y4{T:ay}{x i:av}{ok:Bool}:fj P aq K C (.lookup T x i ok) ⟨env,heap⟩ ()=gp K (DE P T heap (ev env x) (ev env i) ok):=(rfl)
theorem XW{T:ay}{m k x:av}:fj P aq K C (.mapUpdate T m k x) ⟨env,heap⟩ ()=gp K (Bp P T heap (ev env m) (ev env k) (ev env x)):=(rfl)
theorem Y5{T:ay}{m k x:av}:fj P aq K C (.insert T m k x) ⟨env,heap⟩ ()=gp K (Bp P T heap (ev env m) (ev env k) (ev env x)):=(rfl)
theorem aP0{T:ay}{x:av}:fj P aq K C (.range T x) ⟨env,heap⟩ ()=gp K (C5 P T heap.length (ev env x)):=(rfl)
theorem aPY{a:av}:fj P aq K C (.next a true) ⟨env,heap⟩ ()=gp K (DG heap (ev env a)):=(rfl)
theorem XX{T:ay}{l c:av}:fj P aq K C (.makeSlice T l c) ⟨env,heap⟩ ()=gp K (DH P T heap.length (ev env l) (ev env c)):=(rfl)
theorem X8{x:av}:fj P aq K C (.nilCheck x) ⟨env,heap⟩ ()=gp K (CK (ev env x)):=(rfl)
theorem aPW{args:Array av}{a:Array ay}:fj P aq K C (.call {callee:=.builtin .min,args,argTypes:=a}) ⟨env,heap⟩ ()=gp K (vW false (args.toList.map (ev env))):=(rfl)
theorem aPV{args:Array av}{a:Array ay}:fj P aq K C (.call {callee:=.builtin .max,args,argTypes:=a}) ⟨env,heap⟩ ()=gp K (vW true (args.toList.map (ev env))):=(rfl)
theorem X1{T:ay}:fj P aq K C (.makeMap T none) ⟨env,heap⟩ ()=K {v:=.map heap.length,bm:=[.map false []]}:=(rfl)
theorem Y7{s x:av}{T X:ay}:fj P aq K C (.call {callee:=.builtin .append,args:=#[s,x],argTypes:=#[T,X]}) ⟨env,heap⟩ ()=gp K (zU P T X heap (ev env s) (ev env x)):=by simp[fj,qX,gp]
theorem aLn{f:ao}{b a:List AV}{args:List AV}{M:AV->ak->Prop}:Ej P heap M (.func f b a) args=ni P false f M (b++args++a) heap:=(rfl)
theorem aLq{f:ao}{b a:List AV}{args:List AV}:Ba P heap K (.func f b a) args=pD P f K (b++args++a) heap:=(rfl)
theorem aLp{f:ao}{b a:List PV}{args:List AV}{M:AV->ak->Prop}:Ej P heap M (.p (.func f b a)) args=ni P false f M (b.map .p++args++a.map .p) heap:=(rfl)
theorem aLr{f:ao}{b a:List PV}{args:List AV}:Ba P heap K (.p (.func f b a)) args=pD P f K (b.map .p++args++a.map .p) heap:=(rfl)
end ops
section guards
variable{ops:Array Oper}{o:Oper}{r:List Oper}{K:St->Prop}{want t:Bool}{s:St}{i:Nat}{acc:List Touch}
theorem Z7:Ig P aq ops o r K want s (.p (.bool t))=if t=want then FT P aq o (uh P aq ops r K) s ()else uh P aq ops r K ⟨put o.dst (.p (.aE [])) s.env,s.heap⟩:=(rfl)
theorem anU:Ig P aq ops o r K want s (.p (.aE []))=uh P aq ops r K ⟨put o.dst (.p (.aE [])) s.env,s.heap⟩:=(rfl)
theorem ZF:Hy P aq ops o r i acc K want s (.p (.bool t))=if t=want then FR P aq o s (DZ P aq ops r i acc K o.dst s) ()else sH P aq ops r (i+1) acc K ⟨put o.dst (.p (.aE [])) s.env,s.heap⟩:=(rfl)
theorem Z6:Hy P aq ops o r i acc K want s (.p (.aE []))=sH P aq ops r (i+1) acc K ⟨put o.dst (.p (.aE [])) s.env,s.heap⟩:=(rfl)
end guards
theorem Zz{id:Nat}{Q:bL->St->Prop}{s:St}:vo id Q .normal s=Q .normal s:=(rfl)
theorem aok{id i:Nat}{Q:bL->St->Prop}{s:St}:vo id Q (.exit i) s=if i=id then Q .normal s else Q (.exit i) s:=(rfl)
theorem arb{id:Nat}{Q:bL->St->Prop}{s:St}:vo id Q .ret s=Q .ret s:=(rfl)
section makeFunc
theorem X9{K:bg->Prop}{C:AV->List AV->Prop}{env:Env}{heap:ak}{f:ao}{b a:Array av}(hf:aq f=false):fj P aq K C (.makeFunc (.func f) b a) ⟨env,heap⟩ ()=gp K (DD f (b.toList.map (ev env)) (a.toList.map (ev env))):=Zp (dst:=none) (ty:=0) (pos:= "") (af:=#[]) (g:=none) hf
end makeFunc
theorem ar7{p:Prop}{e:bg}{K:bg->Prop}:gp K (some (p,e))=(p/\K e):=(rfl)
theorem ar8{K:bg->Prop}:gp K none=False:=(rfl)
theorem aqm{a:Array Oper}:AX a []=true:=(rfl)
theorem Z4{a:Array Oper}{t:Touch}{r:List Touch}:AX a (t::r)=(r.all (fun u=>!lN u t||aPA a u.i t.i)&&AX a r):=(rfl)
theorem XY{a:List aT}{v:PV}{s:St}:vH P a v .ret s=∃vs,iE P s a=some vs/\iz s.heap 9 (oneOf vs) v:=by simp[vH]
theorem amp{a:List aT}{v:PV}{s:St}:vH P a v .normal s=∃vs,iE P s a=some vs/\iz s.heap 9 (oneOf vs) v:=by simp[vH]
section pur
variable{H:ak}
theorem BZ{n:Nat}{a v:PV}:iz H n (.p a) v=Wk a v:=by cases n<;>rfl
theorem Sv{n b aF z off len:Nat}{fs:List PV}:iz H (n+1) (.sl b aF z off len) (.seq fs)=match H[b]? with
  |some (.arr _ a c es)=>aF=a/\z=c/\off+len<=es.length/\qe H n ((es.drop off).take len) fs
  |_=>False:=(rfl)
theorem aPv{n:Nat}{u u':ay}{a:List AV}{vs:List PV}:iz H (n+1) (.st u a) (.st u' vs)=(u=u'/\qe H n a vs):=(rfl)
theorem aPw{n:Nat}{a:List AV}{vs:List PV}:iz H (n+1) (.aE a) (.aE vs)=qe H n a vs:=(rfl)
theorem RR{n b:Nat}{a:List (PV×PV)}:iz H (n+1) (.map b) (.fA a)=match H[b]? with
  |some (.map _ c)=>c=a
  |_=>False:=(rfl)
theorem aPu{n:Nat}{f a:ao}{c d:List AV}{vs b:List PV}:iz H (n+1) (.func f c d) (.func a vs b)=(f=a/\qe H n c vs/\qe H n d b):=(rfl)
theorem CT{n:Nat}{vs:List PV}:qe H n [] vs=(vs=[]):=(rfl)
theorem Gy{n:Nat}{x:AV}{a:List AV}{v:PV}{vs:List PV}:qe H n (x::a) (v::vs)=(iz H n x v/\qe H n a vs):=(rfl)
theorem Qe{α:Type}{n:Nat}{g:α->AV}{f:α->PV}:∀{l:List α},qe H n (l.map g) (l.map f)=∀x∈l,iz H n (g x) (f x)
 |[]=>by simp[CT]
 |a::l=>by simp[Gy,Qe (l:=l)]
theorem xF(n:Nat)(c:∀(x:AV)(v:PV),iz H n x v->∃v',gC H n x=some v'/\Wk v' v):∀(b:List AV)(vs:List PV),qe H n b vs->∃a,mK (gC H n) b=some a/\ch a vs
 |[],vs,h=>by rw[CT]at h;subst h;exact⟨[],rfl,by simp[ch]⟩
 |x::b,vs,h=>by
  cases vs with
  |nil=>exact h.elim
  |cons v vs=>
   rw[Gy]at h;obtain⟨p,d,e⟩:=c x v h.1;obtain⟨a,f,g⟩:=xF n c b vs h.2;exact⟨p::a,by simp[mK,d,f],by simp only[ch];exact⟨e,g⟩⟩
theorem vk:∀(n:Nat)(x:AV)(v:PV),iz H n x v->∃v',gC H n x=some v'/\Wk v' v
 |0,x,v,h=>by
  cases x with
  |p a=>exact⟨_,rfl,h⟩
  |_=>exact h.elim
 |n+1,x,v,h=>by
  cases x with
  |p a=>rw[BZ]at h;exact⟨_,rfl,h⟩
  |sl b aF z off len=>
   cases v with
   |seq fs=>
    rw[Sv]at h
    split at h
    case h_2=>exact h.elim
    rename_i k B D j e;obtain⟨rfl,rfl,m,g⟩:=h;obtain⟨i,c,d⟩:=xF n (vk n) _ _ g;simp only[gC,e,m,and_self,if_true]
    split
    ·rename_i hn;rw[hn.2]at g;simp only[List.drop_nil,List.take_nil,CT]at g;exact⟨_,rfl,by rw[g];simp[Wk]⟩
    ·rw[c];exact⟨_,rfl,by simp only[Wk];exact d⟩
   |_=>exact h.elim
  |st u xs=>
   cases v with
   |st u' vs=>
    obtain⟨rfl,h⟩:=h;obtain⟨i,c,d⟩:=xF n (vk n) _ _ h;simp only[gC,c];exact⟨_,rfl,by simp only[Wk];exact⟨trivial,d⟩⟩
   |_=>exact h.elim
  |aE xs=>
   cases v with
   |aE vs=>
    obtain⟨i,c,d⟩:=xF n (vk n) _ _ h;simp only[gC,c];exact⟨_,rfl,by simp only[Wk];exact d⟩
   |_=>exact h.elim
  |ptr b path=>
   cases v with
   |cW t=>
    change (match H[b]? with
     |some (.box _ y)=>match fY y path with
      |some s=>iz H n s t
      |none=>False
     |_=>False)at h
    split at h
    case h_2=>exact h.elim
    rename_i e
    split at h
    case h_2=>exact h.elim
    rename_i s hs;obtain⟨p,c,d⟩:=vk n _ _ h;simp only[gC,e,hs,c];exact⟨_,rfl,by simp only[Wk];exact d⟩
   |_=>exact h.elim
  |cM _ _ _ _ _=>exact h.elim
  |map b=>
   cases v with
   |fA j=>
    rw[RR]at h
    split at h
    case h_2=>exact h.elim
    rename_i fz r e;subst h;simp only[gC,e];exact⟨_,rfl,Wk.refl _⟩
   |_=>exact h.elim
  |func f xs C=>
   cases v with
   |func w vs us=>
    obtain⟨rfl,h,l⟩:=h;obtain⟨i,c,d⟩:=xF n (vk n) _ _ h;obtain⟨A,o,q⟩:=xF n (vk n) _ _ l;simp only[gC,c,o];exact⟨_,rfl,by simp only[Wk];exact⟨trivial,d,q⟩⟩
   |_=>exact h.elim
end pur
theorem av3{f:ao}{fn:Func}(aq:ao->Bool)(h:au P f fn)(n:P.follows .mixedOrders=true){args:List PV}{v:PV}(hn:args.length<=fn.ntmps)
 (d:fT P aq (fn.ntmps,0) (fn.body.getD .skip) (vH P fn.results.toList v) ⟨jX 0 (args.map .p),[]⟩):vF P f args v:=by
 have hs:=h.stat;simp only[am,bne_iff_ne]at hs;have k:fn.body=some (fn.body.getD .skip):=by
  have a:=hs.1.1;clear d hs;cases l:fn.body with
  |none=>rw[l]at a;simp at a
  |some c=>rfl
 obtain⟨e,s,⟨a,vs,g,b⟩,j⟩:=rI _ _ _ (o6 (Q':=vH P fn.results.toList v) _ (fun _ _ h=>h) d);obtain⟨v',b,i⟩:=vk _ _ _ b;have m:vF P f args v':=QI (th aq) (CD (th aq) n) h.enters h.func k hs.2 hn (j (Ends P fn.results.toList v') ⟨by cases e<;>exact a,vs,g,b⟩);exact m.eE (ch.refl _) i
theorem aG{f:ao}{fn:Func}(aq:ao->Bool)(h:au P f fn)(a:P.follows .mixedOrders=true){args:List PV}{v:PV}(hn:args.length<=fn.ntmps)
 (b:fT P aq (fn.ntmps,0) (fn.body.getD .skip) (vH P fn.results.toList v) ⟨jX 0 (args.map .p),[]⟩):al P f args v:=.inl (av3 aq h a hn b)
theorem gA_{f:ao}{fn:Func}(aq:ao->Bool)(h:P.funcs[f]?=some fn)(a:P.follows .mixedOrders=true){args:List PV}{v:PV}(b:fT P aq (fn.ntmps,0) (fn.body.getD .skip) (vH P fn.results.toList v) ⟨jX 0 (args.map .p),[]⟩)(hn:args.length<=fn.ntmps:=by exact Nat.le_of_ble_eq_true rfl)(k:(fn.body.isSome&&(fn.name != "runtime.NumGoroutine")&&codeOk fit fn.ntmps (fn.body.getD .skip))=true:=by kernel_rfl):al P f args v:=aG aq (i_ h k) a hn b
theorem V8{α:Type}{N:Nat×Nat->Prop}{f:α->PV}{l:List α}:bk N (l.map fun x=>.p (f x))=True:=by
 rw[eQ,eq_iff_iff,iff_true];intro v a;simp only[a7]at a;obtain⟨x,_,rfl⟩:=a;trivial
theorem aPG{α:Type}{N:Nat×Nat->Prop}{f:α->PV}{l:List α}{i:Nat}:bk N ((l.map fun x=>.p (f x)).take i)=True:=by
 rw[eQ,eq_iff_iff,iff_true];intro v a;have a:=List.mem_of_mem_take a;simp only[a7]at a;obtain⟨x,_,rfl⟩:=a;trivial
theorem asg{N:Nat×Nat->Prop}{a b:List AV}:bk N (a++b)=(bk N a/\bk N b):=by
 simp only[eQ,List.mem_append,eq_iff_iff];exact⟨fun h=>⟨fun v c=>h v (.inl c),fun v c=>h v (.inr c)⟩,fun h v c=>c.elim (h.1 v) (h.2 v)⟩
theorem Zh{α:Type}{l:List α}{i:Nat}:(l.take i).take i=l.take i:=by simp[List.take_take]
theorem Zg{α β:Type}{f:α->β}{l:List α}:(l.map f).take l.length=l.map f:=List.take_of_length_le s_
section loops
variable{α:Type}(N:Nat)(mk:α->St)(ok:α->Prop)(m:α->Nat)(n:Nat)(Q:bL->St->Prop)
def JC(s:Tg (N,mk,ok,m,n) St):Prop:=yO N mk ok m n s
def D3(e:Tg (N,mk,ok,m,n,Q) bL)(s:Tg (N,mk,ok,m,n,Q) St):Prop:=vu N mk ok m n Q e s
variable{N}{mk}{ok}{m}{n}{Q}{s s':St}
theorem ZP:D3 N mk ok m n Q .normal s=JC N mk ok m n s:=(rfl)
theorem aqL{id:Nat}:D3 N mk ok m n Q (.exit id) s=Q (.exit id) s:=(rfl)
theorem as6:D3 N mk ok m n Q .ret s=Q .ret s:=(rfl)
theorem lp{d:Nat}{b:Code}(mk:α->St)(ok:α->Prop)(m:α->Nat)(c:α)(e:ok c)(jg:∀a,ok a->fT P aq (d,N) b (D3 N mk ok m (m a) Q) (mk a))
 (hn:(mk c).heap.take N=s.heap.take N:=by simp)(he:pA (mk c).heap s.env (mk c).env:=by simp)(hh:jf (mk c).heap s.heap (mk c).heap:=by simp)(hr:ji (mk c).heap (mk c).env:=by simp)(hr2:ek (mk c).heap (mk c).heap:=by simp):
 fT P aq (d,N) (.loop b) Q s:=wl (q:=(d,N)) mk ok m c e jg hn he hh hr hr2
theorem rd(a':α)(a:ok a')(h1:m a'<n:=by omega)(hn:(mk a').heap.take N=s.heap.take N:=by simp)(he:pA (mk a').heap s.env (mk a').env:=by simp)(hh:jf (mk a').heap s.heap (mk a').heap:=by simp)(hr:ji (mk a').heap (mk a').env:=by simp)(hr2:ek (mk a').heap (mk a').heap:=by simp):
 JC N mk ok m n s:=rnd a' a h1 hn he hh hr hr2
end loops
section calls
variable{f:ao}{H H1:ak}{K:AV->ak->Prop}{L:bg->Prop}{v a b c d e a' b' c' d' e':PV}
theorem c0(h:al P f [] v)(hk:K (.p v) H):ni P false f K [] H:=cw [] h hk (ch.refl _)
theorem c1(h:al P f [a'] v)(hk:K (.p v) H)(h1:Wk a a':=by first|exact Wk.refl _|simp):ni P false f K [.p a] H:=cw [a] h hk (ab h1 (ch.refl []))
theorem c2(h:al P f [a',b'] v)(hk:K (.p v) H)(h1:Wk a a':=by first|exact Wk.refl _|simp)(c:Wk b b':=by first|exact Wk.refl _|simp):ni P false f K [.p a,.p b] H:=cw [a,b] h hk (ab h1 (ab c (ch.refl [])))
theorem c3(h:al P f [a',b',c'] v)(hk:K (.p v) H)(h1:Wk a a':=by first|exact Wk.refl _|simp)(d:Wk b b':=by first|exact Wk.refl _|simp)(e:Wk c c':=by first|exact Wk.refl _|simp):ni P false f K [.p a,.p b,.p c] H:=cw [a,b,c] h hk (ab h1 (ab d (ab e (ch.refl []))))
theorem c4(h:al P f [a',b',c',d'] v)(hk:K (.p v) H)(e:Wk a a':=by first|exact Wk.refl _|simp)(g:Wk b b':=by first|exact Wk.refl _|simp)(i:Wk c c':=by first|exact Wk.refl _|simp)(j:Wk d d':=by first|exact Wk.refl _|simp):ni P false f K [.p a,.p b,.p c,.p d] H:=cw [a,b,c,d] h hk (ab e (ab g (ab i (ab j (ch.refl [])))))
theorem c5(h:al P f [a',b',c',d',e'] v)(hk:K (.p v) H)(g:Wk a a':=by first|exact Wk.refl _|simp)(i:Wk b b':=by first|exact Wk.refl _|simp)(j:Wk c c':=by first|exact Wk.refl _|simp)(k:Wk d d':=by first|exact Wk.refl _|simp)(l:Wk e e':=by first|exact Wk.refl _|simp):ni P false f K [.p a,.p b,.p c,.p d,.p e] H:=cw [a,b,c,d,e] h hk (ab g (ab i (ab j (ab k (ab l (ch.refl []))))))
theorem e0(h:al P f [] v)(hk:L {v:=.p v}):pD P f L [] H:=ce [] h hk (ch.refl _)
theorem e1(h:al P f [a'] v)(hk:L {v:=.p v})(h1:Wk a a':=by first|exact Wk.refl _|simp):pD P f L [.p a] H:=ce [a] h hk (ab h1 (ch.refl []))
theorem e2(h:al P f [a',b'] v)(hk:L {v:=.p v})(h1:Wk a a':=by first|exact Wk.refl _|simp)(c:Wk b b':=by first|exact Wk.refl _|simp):pD P f L [.p a,.p b] H:=ce [a,b] h hk (ab h1 (ab c (ch.refl [])))
theorem e3(h:al P f [a',b',c'] v)(hk:L {v:=.p v})(h1:Wk a a':=by first|exact Wk.refl _|simp)(d:Wk b b':=by first|exact Wk.refl _|simp)(e:Wk c c':=by first|exact Wk.refl _|simp):pD P f L [.p a,.p b,.p c] H:=ce [a,b,c] h hk (ab h1 (ab d (ab e (ch.refl []))))
theorem e4(h:al P f [a',b',c',d'] v)(hk:L {v:=.p v})(e:Wk a a':=by first|exact Wk.refl _|simp)(g:Wk b b':=by first|exact Wk.refl _|simp)(i:Wk c c':=by first|exact Wk.refl _|simp)(j:Wk d d':=by first|exact Wk.refl _|simp):pD P f L [.p a,.p b,.p c,.p d] H:=ce [a,b,c,d] h hk (ab e (ab g (ab i (ab j (ch.refl [])))))
theorem e5(h:al P f [a',b',c',d',e'] v)(hk:L {v:=.p v})(g:Wk a a':=by first|exact Wk.refl _|simp)(i:Wk b b':=by first|exact Wk.refl _|simp)(j:Wk c c':=by first|exact Wk.refl _|simp)(k:Wk d d':=by first|exact Wk.refl _|simp)(l:Wk e e':=by first|exact Wk.refl _|simp):pD P f L [.p a,.p b,.p c,.p d,.p e] H:=ce [a,b,c,d,e] h hk (ab g (ab i (ab j (ab k (ab l (ch.refl []))))))
theorem cp{args:List AV}{vs a:List PV}(h:al P f a v)(b:p0 H args=some (vs,H1))(hk:K (.p v) H1)(h1:ch vs a:=by first|exact ch.refl _|simp):ni P false f K args H:=cwp h b hk h1
theorem ep{args:List AV}{vs a:List PV}{bs:List Nat}{aA aW:List (Nat×Obj)}(h:al P f a v)(b:sx H args=some (vs,bs))(hf:nP H bs=some (aA,aW))(hk:L {v:=.p v,aA,aW})(h1:ch vs a:=by first|exact ch.refl _|simp):pD P f L args H:=cep h b hf hk h1
theorem ci{args:List AV}{H':ak}{v:AV}(h:c8 P f H args H' v)(hk:K v H'):ni P false f K args H:=.inr ⟨rfl,.inr (.inl ⟨H',v,h,hk⟩)⟩
end calls
attribute [simp] V8 aPG asg Zh BZ Sv aPv aPw RR aPu CT Gy Qe Zg bk Zz aok arb Z7 anU ZF Z6 aLt aPg X9 aPX Y6 aPZ aPL aPN aPO XQ aPU aP3 aPM aP4 aPQ X3 XK XJ aPS aPT aPP aP2 Y4 XW Y5 aP0 aPY XX X8 aPW aPV X1 Y7 ar7 ar8 aqm Z4 XY amp ZP aqL as6 p0 mN sx pZ nP pL
 aQ8 auS aQ6 aQ7 auQ aQ5 auR ba Qy aQ4 ZT aqv ar2 an6 at5 awL avl aQ9 auP arq aRf auO arl aLn aLq aLp aLr
end
section
variable{P:ax}{aq:ao->Bool}{q:Cx}
theorem PG{r:fZ}{K a:bg->Prop}(hk:∀e,K e->a e)(h:cN r K):cN r a:=by
 unfold cN at h⊢
 split at h
 ·exact⟨h.1,hk _ h.2⟩
 ·exact h.elim
theorem aqJ{o:Oper}{e:Env}{H:ak}{K a:bg->Prop}(hk:∀e,K e->a e)(h:gO P aq o (ev e) H K):gO P aq o (ev e) H a:=by
 obtain⟨x,b,c⟩:=Hl (aq:=aq) o (ev e) H K h;exact c a (hk x b)
theorem QS{o:Oper}{e:Env}{H:ak}{K a:bg->Prop}(hk:∀e,K e->a e)(h:qX P aq o e H K):qX P aq o e H a:=by
 unfold qX at h⊢
 repeat' split at h
 all_goals first|exact hk _ h|exact PG hk h|exact⟨h.1,PG hk h.2⟩|exact aqJ hk h|exact h.elim
theorem OB{d:Bool}{f:ao}{args:List AV}{H:ak}{K i:AV->ak->Prop}(hk:∀v H,K v H->i v H)(h:mu P d f args H K):mu P d f args H i:=by
 rcases h with⟨vs,v,a,b,c⟩|⟨g,⟨vs,H1,v,a,b,c⟩|⟨H',v,a,b⟩|⟨e,a,b,c⟩|⟨aA,v,a,b,c⟩⟩
 ·exact .inl ⟨vs,v,a,b,hk _ _ c⟩
 ·exact .inr ⟨g,.inl ⟨vs,H1,v,a,b,hk _ _ c⟩⟩
 ·exact .inr ⟨g,.inr (.inl ⟨H',v,a,hk _ _ b⟩)⟩
 ·exact .inr ⟨g,.inr (.inr (.inl ⟨e,a,b,hk _ _ c⟩))⟩
 ·exact .inr ⟨g,.inr (.inr (.inr ⟨aA,v,a,b,hk _ _ c⟩))⟩
theorem OS{f:ao}{args:List AV}{H:ak}{K d:bg->Prop}(hk:∀e,K e->d e)(h:mw P f args H K):mw P f args H d:=by
 rcases h with⟨vs,v,a,b,c⟩|⟨vs,bs,aA,aW,v,a,b,c,g⟩|⟨e,a,b,c⟩|⟨aA,v,a,b,c⟩
 ·exact .inl ⟨vs,v,a,b,hk _ c⟩
 ·exact .inr (.inl ⟨vs,bs,aA,aW,v,a,b,c,hk _ g⟩)
 ·exact .inr (.inr (.inl ⟨e,a,b,hk _ c⟩))
 ·exact .inr (.inr (.inr ⟨aA,v,a,b,hk _ c⟩))
theorem Oq{o:Oper}{K b:St->Prop}{s:St}(hk:∀s,K s->b s)(h:qm P aq o K s):qm P aq o b s:=by
 unfold qm at h⊢
 split at h
 ·rename_i f args g i;unfold DC at h⊢
  split at h
  ·exact OB (fun v H a=>hk _ a) h
  ·exact OB (fun v H a=>hk _ a) h
  ·obtain⟨H',v,c,d⟩:=h;exact⟨H',v,c,hk _ d⟩
  ·exact h.elim
 ·exact QS (fun e a=>hk _ a) h
theorem OI{o:Oper}{s:St}{K a:bg->Prop}(hk:∀e,K e->a e)(h:nK P aq o s K):nK P aq o s a:=by
 unfold nK at h⊢
 split at h
 ·rename_i f args g i;unfold Dd at h⊢
  split at h
  ·exact OS hk h
  ·exact OS hk h
  ·obtain⟨e,b,c,d⟩:=h;exact⟨e,b,c,hk _ d⟩
  ·exact h.elim
 ·exact QS hk h
theorem zS{c:Array Oper}:∀(l:List Oper){K a:St->Prop}{s:St},(∀s,K s->a s)->lV P aq c l K s->lV P aq c l a s
 |[],K,a,s,hk,h=>hk s h
 |o::l,K,a,s,hk,h=>by
  simp only[lV]at h⊢
  split at h
  ·exact Oq (fun s hs=>zS l hk hs) h
  ·split at h
   ·split at h
    ·rename_i b;rw[if_pos b];exact Oq (fun s hs=>zS l hk hs) h
    ·rename_i b;rw[if_neg b];exact zS l hk h
   ·exact zS l hk h
   ·exact h.elim
theorem zN{d:Array Oper}:∀(l:List Oper){i:Nat}{b:List Touch}{K a:St->Prop}{s:St},(∀s,K s->a s)->lI P aq d l i b K s->lI P aq d l i b a s
 |[],i,b,K,a,s,hk,h=>⟨h.1,hk s h.2⟩
 |o::l,i,b,K,a,s,hk,h=>by
  simp only[lI]at h⊢
  split at h
  ·exact OI (fun e hs=>zN l hk hs) h
  ·split at h
   ·split at h
    ·rename_i c;rw[if_pos c];exact OI (fun e hs=>zN l hk hs) h
    ·rename_i c;rw[if_neg c];exact zN l hk h
   ·exact zN l hk h
   ·exact h.elim
theorem rH:∀(c:Code){Q g:bL->St->Prop}{s:St},(∀e s,Q e s->g e s)->gv P aq q c Q s->gv P aq q c g s
 | .skip,Q,g,s,hq,h=>hq _ _ h
 | .label _,Q,g,s,hq,h=>hq _ _ h
 | .exit _,Q,g,s,hq,h=>hq _ _ h
 | .ret,Q,g,s,hq,h=>hq _ _ h
 | .region _ ops draw,Q,g,s,hq,h=>by
  simp only[gv]at h⊢
  split at h
  ·rename_i j;rw[if_pos j];exact zN _ (fun s hs=>hq _ _ hs) h
  ·rename_i j;rw[if_neg j];exact zS _ (fun s hs=>hq _ _ hs) h
 | .seq a b,Q,g,s,hq,h=>by
  simp only[gv]at h⊢;refine rH a (fun e s d=>?_) h;cases e with
  |normal=>exact rH b hq d
  |exit i=>exact hq _ _ d
  |ret=>exact hq _ _ d
 | .cond c a b,Q,g,s,hq,h=>by
  simp only[gv]at h⊢;unfold DV at h⊢
  split at h
  ·split at h
   ·rename_i k;rw[if_pos k];exact rH a hq h
   ·rename_i k;rw[if_neg k];exact rH b hq h
  ·exact h.elim
 | .block id b,Q,g,s,hq,h=>by
  simp only[gv]at h⊢;refine rH b (fun e s d=>?_) h;cases e with
  |normal=>exact hq _ _ d
  |exit i=>
   simp only[tL]at d⊢
   by_cases hi:i=id
   ·simp only[hi,if_true]at d⊢;exact hq _ _ d
   ·simp only[hi,if_false]at d⊢;exact hq _ _ d
  |ret=>exact hq _ _ d
 | .scope b,Q,g,s,hq,h=>rH b hq h
 | .loop b,Q,g,s,hq,h=>by
  simp only[gv]at h⊢;obtain⟨I,l,m⟩:=h;refine⟨I,l,fun n t hI=>rH b (fun e s d=>?_) (m n t hI)⟩;cases e with
  |normal=>exact d
  |exit id=>exact hq _ _ d
  |ret=>exact hq _ _ d
 | .rangeFunc f o a b,Q,g,s,hq,h=>by
  simp only[gv]at h⊢;exact⟨h.1,Ph (fun H=>Pm hq) h.2⟩
 | .goto _,_,_,_,_,h=>h.elim
 | .refuse _,_,_,_,_,h=>h.elim
def vw(R:St->Prop)(Q:bL->St->Prop)(e:Tg (R,Q) bL)(s:Tg (R,Q) St):Prop:=match e with
 | .normal=>R s
 |e=>Q e s
theorem ZJ{R:St->Prop}{Q:bL->St->Prop}{s:St}:vw R Q .normal s=R s:=(rfl)
theorem aqR{R:St->Prop}{Q:bL->St->Prop}{id:Nat}{s:St}:vw R Q (.exit id) s=Q (.exit id) s:=(rfl)
theorem atg{R:St->Prop}{Q:bL->St->Prop}{s:St}:vw R Q .ret s=Q .ret s:=(rfl)
theorem join{a b:Code}{Q:bL->St->Prop}{s:St}(R:St->Prop)(d:fT P aq q a (vw R Q) s)(f:∀s',R s'->fT P aq q b Q s'):fT P aq q (.seq a b) Q s:=by
 rw[ba];refine rH a (fun e s c=>?_) d;cases e with
 |normal=>exact f s c
 |exit i=>exact c
 |ret=>exact c
theorem V9{α:Type}{N:Nat×Nat->Prop}{f:α->PV}{l:List α}:bk N (l.map (AV.p∘f))=True:=V8
attribute [simp] ZJ aqR atg V9
end
section
variable{P:ax}{aq:ao->Bool}
def AQ(P:ax)(a:List aT)(N:Nat)(H':ak)(v:AV)(e:Tg (a,N,H',v) bL)(s:Tg (a,N,H',v) St):Prop:=ye P a N H' v e s
theorem aqW{a:List aT}{N:Nat}{H':ak}{v:AV}{s:St}:AQ P a N H' v .ret s=∃vs,iE P s a=some vs/\oneOf vs=v/\(H'=s.heap\/(dh N s ⟨[],H'⟩/\aI (aQ H') v)):=by simp[AQ,ye]
theorem Zv{a:List aT}{N:Nat}{H':ak}{v:AV}{s:St}:AQ P a N H' v .normal s=∃vs,iE P s a=some vs/\oneOf vs=v/\(H'=s.heap\/(dh N s ⟨[],H'⟩/\aI (aQ H') v)):=by simp[AQ,ye]
theorem gz{f:ao}{fn:Func}(aq:ao->Bool)(h:au P f fn)(a:P.follows .mixedOrders=true){args:List AV}{H H':ak}{v:AV}(hn:args.length<=fn.ntmps)
 (b:fT P aq (fn.ntmps,H.length) (fn.body.getD .skip) (AQ P fn.results.toList H.length H' v) ⟨jX 0 args,H⟩):c8 P f H args H' v:=
 Ux aq h a hn (o6 (Q':=ye P fn.results.toList H.length H' v) _ (fun _ _ h=>h) b)
theorem aQl{n i:Nat}:sig [] n i=n+i:=by simp[sig]
theorem cn{f:ao}{H H':ak}{K:AV->ak->Prop}{v:AV}{args:List PV}(h:c8 P f [] (args.map .p) H' v)(hk:K (df (sig [] H.length) v) (H++H'.map (dS (sig [] H.length)))):ni P false f K (args.map .p) H:=by
 refine .inr ⟨rfl,.inr (.inr (.inl ⟨dW [] H.length [] H' v,?_,⟨by simp[dW],by simp[dW]⟩,?_⟩))⟩
 ·have b:bk (aQ ([]:ak)) (args.map .p):=by rw[eQ];intro v c;obtain⟨x,_,rfl⟩:=a7.1 c;trivial
  have:=h.frame [] H.length rfl List.nodup_nil s_ s_ b s_;have e:dw (sig [] H.length) (args.map .p)=args.map .p:=by
   clear h b this hk
   induction args with
   |nil=>rfl
   |cons a r d=>simp only[a5,dw,df,d]
  rwa [e]at this
 ·simpa[dW,bu]using hk
theorem Uj{f:ao}{H H':ak}{K:AV->ak->Prop}{v:AV}{a b:PV}(h:c8 P f [] [.p a,.p b] H' v)(hk:K (df (sig [] H.length) v) (H++H'.map (dS (sig [] H.length)))):ni P false f K [.p a,.p b] H:=cn (args:=[a,b]) h hk
def It(P:ax)(T:ay)(f:Nat):Option (ay×lX):=match kindOf P T,P.underlying T with
 | .agg u,some (.struct _)=>((l6 P u)[f]?).map fun F=>(u,kindOf P F)
 |_,_=>none
def AZ(P:ax)(T:ay)(f:Nat)(x:AV):fZ:=match It P T f,x with
 |some (u,k),.p t=>match(cz t)[f]? with
  |some g=>some (aP t=.agg u/\k=aP g,{v:=.p g})
  |none=>none
 |_,_=>none
theorem apG{T:ay}{x:AV}{f:Nat}{K:bg->Prop}:(match kindOf P T,P.underlying T,x with
  | .agg u,some (.struct _),.p t=>aP t=.agg u/\(match(cz t)[f]?,(l6 P u)[f]? with
   |some g,some F=>kindOf P F=aP g/\K {v:=.p g}
   |_,_=>False)
  |_,_,_=>False)=cN (AZ P T f x) K:=by
 unfold AZ It;cases b:kindOf P T with
 |agg u=>cases c:P.underlying T with
  |none=>simp[cN]
  |some d=>cases d with
   |struct fs=>cases x with
    |p t=>cases hc:(l6 P u)[f]?<;>cases a:(cz t)[f]?<;>simp[cN,a,hc,and_assoc]
    |_=>cases hc:(l6 P u)[f]?<;>simp[cN,hc]
   |_=>simp[cN]
 |_=>simp[cN]
section fields
variable{dst:Option Tmp}{ty:Nat}{pos:String}{af:Array Edge}{g:Option (Nat×Bool)}{env:Env}{heap:ak}{L:St->Prop}{K:bg->Prop}{T:ay}{x:av}{f:Nat}
theorem aPR{C:AV->List AV->Prop}:fj P aq K C (.field T x f) ⟨env,heap⟩ ()=gp K (AZ P T f (ev env x)):=apG
end fields
theorem CS{σ:Nat->Nat}{α:Type}{f:α->PV}:∀{l:List α},dw σ (l.map (AV.p∘f))=l.map (AV.p∘f)
 |[]=>rfl
 |a::l=>by simp only[a5,dw,CS (l:=l)];rfl
theorem asl{σ:Nat->Nat}{α β:Type}{f:β->PV}{g:α->β}{l:List α}:dw σ (l.map ((AV.p∘f)∘g))=l.map ((AV.p∘f)∘g):=CS (f:=f∘g)
theorem aPE{α β:Type}{N:Nat×Nat->Prop}{f:β->PV}{g:α->β}{l:List α}:bk N (l.map ((AV.p∘f)∘g))=True:=V9 (f:=f∘g)
attribute [simp] aPR asl aPE aqW Zv aQl df dw dS CS
end
section
variable{P:ax}{aq:ao->Bool}
theorem Q8{T:ak}:∀{h:ak},jf T h h=True
 |[]=>by simp[jf]
 |o::h=>by simp[jf,Se,Q8 (h:=h)]
theorem Hj{T:ak}:∀{h k:ak},ek T (h++k)=(ek T h/\ek T k)
 |[],k=>by simp[ek]
 |o::h,k=>by simp[ek,Hj (h:=h),and_assoc]
theorem aPF{N:Nat×Nat->Prop}{n:Nat}{v:PV}:bk N (bw n (.p v))=True:=by
 rw[eQ,eq_iff_iff,iff_true];intro x hx;rw[(List.mem_replicate.1 hx).2];trivial
theorem avi{σ:Nat->Nat}{α:Type}{f:α->PV}{l:List α}:dw σ (l.map fun x=>.p (f x))=l.map fun x=>.p (f x):=CS (f:=f)
theorem uz{L:eK}{e:Env}{H:ak}(h:L.env=e)(a:ji H e):∀x,aI (aQ H) (aV L.env x):=by rw[h];exact a.get
def eK.bz(L:eK):eK:={L with st:=.busy}
def eK.dn(L:eK)(j:Code):eK:={L with st:=.done,pending:=some j}
def eK.xh(L:eK):eK:={L with st:=.exhausted}
theorem Km{L:eK}{e:Env}{H:ak}{j:Code}(h:L.env=e)(a:ji H e):∀x,aI (aQ H) (aV (L.dn j).env x):=uz h a
def Stream(P:ax)(g:ao)(f e:List PV)(d:List (List PV)):Prop:=
 ∀(b k:Nat)(c:Nat->ak)(H':ak),k<=d.length->(∀i,i<=k->ek (c i) (c i)/\aI (aQ (c i)) (.map b))->
  (∀i a,i<k->d[i]?=some a->gJ P b (c i) (a.map .p) (c (i+1)) (.p (.bool true)))->
  (k=d.length/\H'=c k\/∃a,d[k]?=some a/\gJ P b (c k) (a.map .p) H' (.p (.bool false)))->
  c8 P g (c 0) (f.map .p++[.map b]++e.map .p) H' (.p (.aE []))
theorem aLo{b:Nat}{args:List AV}{M:AV->ak->Prop}{heap:ak}:Ej P heap M (.map b) args=∃H' v,gJ P b heap args H' v/\M v H':=(rfl)
def yC(b:Nat)(L:eK)(N:Nat)(H':ak)(v:Bool)(e:Tg (b,L,N,H',v) bL)(s:Tg (b,L,N,H',v) St):Prop:=
 match e with
 | .normal=>v=true/\(St.heap s)[b]?=some (.loop L.bz)/\dh N ⟨[],(St.heap s).set b (.loop L)⟩ ⟨[],H'⟩
 | .exit id=>v=false/\(St.heap s)[b]?=some (.loop L.bz)/\dh N ⟨[],(St.heap s).set b (.loop (L.dn (.exit id)))⟩ ⟨[],H'⟩
 | .ret=>v=false/\(St.heap s)[b]?=some (.loop L.bz)/\dh N ⟨[],(St.heap s).set b (.loop (L.dn .ret))⟩ ⟨[],H'⟩
section
variable{b N:Nat}{L:eK}{H':ak}{v:Bool}{s:St}
theorem aqy:yC b L N H' v .normal s=(v=true/\s.heap[b]?=some (.loop L.bz)/\dh N ⟨[],s.heap.set b (.loop L)⟩ ⟨[],H'⟩):=(rfl)
theorem avk{id:Nat}:yC b L N H' v (.exit id) s=(v=false/\s.heap[b]?=some (.loop L.bz)/\dh N ⟨[],s.heap.set b (.loop (L.dn (.exit id)))⟩ ⟨[],H'⟩):=(rfl)
theorem aPz:yC b L N H' v .ret s=(v=false/\s.heap[b]?=some (.loop L.bz)/\dh N ⟨[],s.heap.set b (.loop (L.dn .ret))⟩ ⟨[],H'⟩):=(rfl)
end
def Jp(P:ax)(aq:ao->Bool)(q:Cx)(b:Nat)(c:Code)(L:eK)(H':ak)(v:Bool)(e:Tg (q,b,c,L,H',v) bL)(s:Tg (q,b,c,L,H',v) St):Prop:=
 match e with
 | .normal=>(St.heap s)[b]?=some (.loop L)/\fT P aq q c (yC b L q.2 H' v) ⟨St.env s,(St.heap s).set b (.loop L.bz)⟩
 |_=>False
theorem aqz{q:Cx}{b:Nat}{c:Code}{L:eK}{H':ak}{v:Bool}{s:St}:Jp P aq q b c L H' v .normal s=(s.heap[b]?=some (.loop L)/\fT P aq q c (yC b L q.2 H' v) ⟨s.env,s.heap.set b (.loop L.bz)⟩):=(rfl)
theorem sU(aq:ao->Bool)(q:P.follows .mixedOrders=true){b n:Nat}{L:eK}{H H':ak}{args:List AV}{v:Bool}{j:List Tmp}{a c:Code}{env:Env}
 (d:L=⟨.ready,none,n,j,a,c,env⟩)(m:H[b]?=some (.loop L))(o:args.length=j.length)
 (r:(j.all (fun x=>decide (x<n))&&codeOk fit n a&&codeOk fit n c)=true)
 (t:fT P aq (n,H.length) a (Jp P aq (n,H.length) b c L H' v) ⟨vi j args env,H⟩):gJ P b H args H' (.p (.bool v)):=by
 refine Uy aq q m (by rw[d];exact o) (by rw[d];exact r) ?_;unfold Dk;have e1:L.n=n:=by rw[d]
 have e2:L.assign=a:=by rw[d]
 have e3:L.body=c:=by rw[d]
 have e4:L.params=j:=by rw[d]
 have e5:L.env=env:=by rw[d]
 have e6:L.st=.ready:=by rw[d]
 rw[e1,e2,e3,e4,e5];refine o6 (Q:=Jp P aq (n,H.length) b c L H' v) _ (fun e s h=>?_) t;cases e with
 |normal=>
  obtain⟨k,l⟩:=h;simp only[CC,k];refine⟨e6,o6 (Q:=yC b L H.length H' v) _ (fun e s h=>?_) l⟩;cases e with
  |normal=>
   obtain⟨rfl,f,g⟩:=h;have i:s.heap[b]?=some (.loop L.bz):=f;simp only[xo,i,jd];refine⟨rfl,?_⟩;have:({L.bz with st:=LoopState.ready,pending:=none}:eK)=L:=by subst d;rfl
   simpa[this]using g
  |exit id=>
   obtain⟨rfl,f,g⟩:=h;have i:s.heap[b]?=some (.loop L.bz):=f;simp only[xo,i,jd];exact⟨rfl,g⟩
  |ret=>
   obtain⟨rfl,f,g⟩:=h;have i:s.heap[b]?=some (.loop L.bz):=f;simp only[xo,i,jd];exact⟨rfl,g⟩
 |exit id=>exact h.elim
 |ret=>exact h.elim
theorem rf{f:av}{h:Array Tmp}{a c:Code}{Q:bL->St->Prop}{env:Env}{heap:ak}{q:Cx}{g:ao}{s r:List PV}{n:List (List PV)}(aY:Stream P g s r n)(hf:ev env f= .p (.func g s r))(hq:q.2<=heap.length)
 (X:eK->Nat->ak)(k:Nat)(hk:k<=n.length)(w:∀L,X L 0=heap++[.loop L])
 (hx:∀L,L=⟨.ready,none,q.1,h.toList,a,c,env⟩->∀i,i<=k->(X L i)[heap.length]?=some (.loop L)/\ji (X L i) env/\(ji (X L i) env->(∀x,aI (aQ (X L i)) (aV L.env x))->ek (X L i) (X L i)))
 (v:∀L,L=⟨.ready,none,q.1,h.toList,a,c,env⟩->∀i x,i<k->n[i]?=some x->gJ P heap.length (X L i) (x.map .p) (X L (i+1)) (.p (.bool true)))
 (A:∀L,L=⟨.ready,none,q.1,h.toList,a,c,env⟩->(k=n.length/\Q .normal ⟨env,(X L k).set heap.length (.loop L.xh)⟩)\/
  ∃x j l,n[k]?=some x/\l[heap.length]?=some (.loop (L.dn j))/\gJ P heap.length (X L k) (x.map .p) l (.p (.bool false))/\lO Q (some j) ⟨env,l.set heap.length (.loop (L.dn j).xh)⟩):
 fT P aq q (.rangeFunc f h a c) Q ⟨env,heap⟩:=by
 obtain⟨L,b⟩:∃L:eK,L=⟨.ready,none,q.1,h.toList,a,c,env⟩:=⟨_,rfl⟩
 have u:=aY heap.length k (X L);refine⟨hq,?_⟩;show lJ P (ev env f) heap.length (heap++[.loop ⟨.ready,none,q.1,h.toList,a,c,env⟩]) (jw heap.length env Q);rw[hf];simp only[lJ];rw[<-b,<-w L];have t:∀i,i<=k->ek (X L i) (X L i)/\aI (aQ (X L i)) (.map heap.length):=by
  intro i hi;obtain⟨m,d,o⟩:=hx L b i hi;have e5:L.env=env:=by rw[b]
  refine⟨o d (by rw[e5];exact d.get),?_⟩;simp only[aI,aQ,m];exact⟨_,rfl,by simp[Obj.has]⟩
 rcases A L b with⟨m,d⟩|⟨x,j,l,m,d,o,y⟩
 ·refine⟨_,_,u (X L k) hk t (v L b) (.inl ⟨m,rfl⟩),?_⟩;have z:=(hx L b k (b1 k)).1;simp only[jw,z];refine⟨by rw[b];simp,?_⟩;have:L.pending=none:=by rw[b]
  simp only[this,lO];have e:L.xh={L with st:=.exhausted}:=rfl;rw[this]at e;rw[e]at d;exact d
 ·refine⟨_,_,u l hk t (v L b) (.inr ⟨x,m,o⟩),?_⟩;simp only[jw,d];exact⟨by simp[eK.dn],y⟩
section aLZ
variable{f:ao}{H0 cj H:ak}{ib args:List AV}{v0:AV}{K:AV->ak->Prop}{L:bg->Prop}
theorem L5(h:c8 P f H0 ib cj v0)(bs:List Nat)(e:bs.length=H0.length)(i:bs.Nodup)(g:∀b∈bs,b<H.length)(d:H0.length<=cj.length)(a:bk (aQ H0) ib)(j:ek H0 H0)(c:dw (sig bs H.length) ib=args):
 vG P f args H.length (dW bs H.length H0 cj v0):=by
 have:=h.frame bs H.length e i g d a j.get
 rwa [c]at this
theorem cf(h:c8 P f H0 ib cj v0)(bs:List Nat)(hk:K (df (sig bs H.length) v0) (bu H (bs.zip ((cj.take H0.length).map (dS (sig bs H.length))))++(cj.drop H0.length).map (dS (sig bs H.length))))(aA:∀p∈bs.zip (H0.map (dS (sig bs H.length))),H[p.1]?=some p.2:=by simp[sig])(aW:∀p∈bs.zip ((cj.take H0.length).map (dS (sig bs H.length))),p.1<H.length/\p.2≠ .hole:=by simp[sig])
 (e:bs.length=H0.length:=by simp)(i:bs.Nodup:=by simp)(g:∀b∈bs,b<H.length:=by simp)(d:H0.length<=cj.length:=by simp)(a:bk (aQ H0) ib:=by simp)(hr:ek H0 H0:=by simp)(c:dw (sig bs H.length) ib=args:=by simp[sig]):ni P false f K args H:=
 .inr ⟨rfl,.inr (.inr (.inl ⟨_,L5 h bs e i g d a hr c,⟨aA,aW⟩,hk⟩))⟩
theorem ef(h:c8 P f H0 ib cj v0)(bs:List Nat)(hk:L {v:=df (sig bs H.length) v0,aA:=bs.zip (H0.map (dS (sig bs H.length))),aW:=bs.zip ((cj.take H0.length).map (dS (sig bs H.length))),bm:=(cj.drop H0.length).map (dS (sig bs H.length))})(aA:∀p∈bs.zip (H0.map (dS (sig bs H.length))),H[p.1]?=some p.2:=by simp[sig])(aW:∀p∈bs.zip ((cj.take H0.length).map (dS (sig bs H.length))),p.1<H.length/\p.2≠ .hole:=by simp[sig])
 (e:bs.length=H0.length:=by simp)(i:bs.Nodup:=by simp)(g:∀b∈bs,b<H.length:=by simp)(d:H0.length<=cj.length:=by simp)(a:bk (aQ H0) ib:=by simp)(j:ek H0 H0:=by simp)(c:dw (sig bs H.length) ib=args:=by simp[sig]):pD P f L args H:=
 .inr (.inr (.inl ⟨_,L5 h bs e i g d a j c,⟨aA,aW⟩,hk⟩))
end aLZ
section bytes
variable{env:Env}{heap:ak}{K:bg->Prop}{C:AV->List AV->Prop}
theorem aLu{x:av}{a:Array ay}{b aF an off len:Nat}{k:AK}{es:List AV}(hx:ev env x= .sl b aF an off len)(d:heap[b]?=some (.arr k aF an es))(c:0<len)(e:off+len<=es.length)
 (hk:K {v:=.cM b aF an off [],aA:=[(b,.arr k aF an es)]}):fj P aq K C (.call {callee:=.builtin .unsafeSliceData,args:=#[x],argTypes:=a}) ⟨env,heap⟩ ():=by
 have h:gO P aq ⟨none,.call {callee:= .builtin .unsafeSliceData,args:=#[x],argTypes:=a},0, "",#[],none⟩ (ev env) heap K:=by
  unfold gO;simp only[a5,bI,hx,d];exact⟨trivial,trivial,c,e,hk⟩
 exact h
theorem aLv{x y:av}{a:Array ay}{b aF:Nat}{m:Int}{es:List AV}{l:List Nat}(hx:ev env x= .cM b aF 1 0 [])(n:ev env y= .p (.int .i64 m))(g:heap[b]?=some (.arr .bytes aF 1 es))(c:0<m)(j:m.toNat<=es.length)(d:m<=9223372036854775807)
 (f:a.size=2)(e:P.underlying (a.getD 0 0)=some (.pointer Gl.u8))(k:P.cellsOf Gl.u8=1)(i:bytesOf (es.take m.toNat)=some l)
 (hk:K {v:=.p (.str l),aA:=[(b,.arr .bytes aF 1 es)],aW:=[(b,.dead)]}):fj P aq K C (.call {callee:=.builtin .unsafeString,args:=#[x,y],argTypes:=a}) ⟨env,heap⟩ ():=by
 have h:gO P aq ⟨none,.call {callee:= .builtin .unsafeString,args:=#[x,y],argTypes:=a},0, "",#[],none⟩ (ev env) heap K:=by
  unfold gO;simp only[a5,bI,hx,n,g];exact⟨trivial,trivial,trivial,trivial,c,j,d,f,e,k,by rw[i];exact hk⟩
 exact h
end bytes
theorem rf2{f:av}{h:Array Tmp}{a c:Code}{Q:bL->St->Prop}{env:Env}{heap:ak}{q:Cx}{g:ao}{m l:List PV}{b:List (List PV)}(aY:Stream P g m l b)(hf:ev env f= .p (.func g m l))(hq:q.2<=heap.length)
 (X F:eK->Nat->ak)(okB:Nat->Bool)(j:Code)(k:Nat)(hk:k<=b.length)(w:∀i,i<k->okB i=true)(t:k=b.length\/(k<b.length/\okB k=false))(o:∀L,X L 0=heap++[.loop L])
 (hx:∀L,L=⟨.ready,none,q.1,h.toList,a,c,env⟩->∀i,i<=k->(X L i)[heap.length]?=some (.loop L)/\ji (X L i) env/\(ji (X L i) env->(∀x,aI (aQ (X L i)) (aV L.env x))->ek (X L i) (X L i)))
 (n:∀L,L=⟨.ready,none,q.1,h.toList,a,c,env⟩->∀i x,i<=k->b[i]?=some x->gJ P heap.length (X L i) (x.map .p) (if okB i=true then X L (i+1)else F L (i+1)) (.p (.bool (okB i))))
 (r:∀L,(F L (k+1))[heap.length]?=some (.loop (L.dn j)))
 (u:k=b.length->∀L,Q .normal ⟨env,(X L k).set heap.length (.loop L.xh)⟩)
 (y:k<b.length->∀L,lO Q (some j) ⟨env,(F L (k+1)).set heap.length (.loop (L.dn j).xh)⟩):
 fT P aq q (.rangeFunc f h a c) Q ⟨env,heap⟩:=by
 refine rf aY hf hq X k hk o hx (fun L e i x hi v=>?_) (fun L e=>?_)
 ·have:=n L e i x o_ v;rw[w i hi]at this;exact this
 ·rcases t with d|⟨d,s⟩
  ·exact .inl ⟨d,u d L⟩
  ·right;refine⟨b[k],j,F L (k+1),a3 d,r L,?_,y d L⟩;have:=n L e k b[k] (b1 _) (a3 d);rw[s]at this;exact this
attribute [simp] avi aPF Q8 Hj aqy avk aPz aqz aLo vi
end
section
variable{P:ax}{aq:ao->Bool}{w:a1}{ad ai:Nat->Prop}{β:Bd}{H:ak}
def aUa(K:Nat->Bool)(H:ak):ak:=H.mapIdx fun i o=>if K i then .dead else o
def aRI(K:Nat->Bool)(ad:Nat->Prop)(β:Bd)(H:ak)(k:Nat):Prop:=ad k\/∃(b:Nat)(o:Obj),H[b]?=some o/\o.live/\K b=true/\β.az b=k
theorem fP.held{b:Nat}{o:Obj}(h:fP P w ad β H ai b o)(a:o.live):ad (β.az b)\/¬ai (β.az b):=by
 by_cases hi:ad (β.az b)
 ·exact .inl hi
 ·exact .inr (h.mut a hi)
end
section
variable{P:ax}{w:a1}{ad ai:Nat->Prop}{β:Bd}
theorem xf{t a:AV}{r:ak}:cZ β (.box false t::r) β (.box false a::r):=nM (H:=.box false t::r) (b:=0) (o':=.box false a) rfl
theorem tv{t d:AV}{r:ak}{x:Nat×Nat}(h:aQ (.box false t::r) x):aQ (.box false d::r) x:=by
 obtain⟨o,a,c⟩:=h;obtain⟨b,v⟩:=x;cases b with
 |zero=>exact⟨_,rfl,trivial⟩
 |succ b=>exact⟨o,a,c⟩
theorem cK.swap{t d:AV}{r:ak}(c:cK P w ad β (.box false t::r) ai)(hc:∀cs,bG P w ad β (.box false t::r) t cs->bG P w ad β (.box false t::r) d cs)(l:∀T,lQ T (aa d)=true)
 (g:aI (aQ (.box false t::r)) t->aI (aQ (.box false t::r)) d):cK P w ad β (.box false d::r) ai:=by
 refine⟨fun b o a=>?_,fun b b' o o' a p f n hn m=>?_,fun b o a=>?_,c.cq,c.fN,c.lT⟩
 ·cases b with
  |zero=>
   simp at a;subst a;obtain⟨cs,T,i,j,k,u,v⟩:=c.dQ 0 _ rfl;have q:=c.refs 0 _ rfl;exact⟨cs,T,i,bG.mono (fun _ x=>x) (fun _ _=>rfl) xf _ _ (g q) (hc _ j),k,(fun h=>absurd h s_),l T⟩
  |succ b=>exact fP.carry (fun _ x=>x) (fun _ _=>rfl) xf (c.refs (b+1) o a) (fun _=>⟨rfl,rfl,rfl⟩) (fun _ _ h=>h) (c.dQ (b+1) o a)
 ·have key:∀{b:Nat}{o:Obj},(Obj.box false d::r)[b]?=some o->o.live->∃e,(Obj.box false t::r)[b]?=some e/\e.live:=by
   intro b o a f;cases b with
   |zero=>exact⟨_,rfl,trivial⟩
   |succ b=>exact⟨o,a,f⟩
  obtain⟨e,k1,k2⟩:=key a f;obtain⟨s,k3,k4⟩:=key p n;exact c.inj b b' e s k1 k3 k2 k4 hn m
 ·cases b with
  |zero=>
   simp at a;subst a;exact aI.mono (fun _ h=>tv h) _ (g (c.refs 0 _ rfl))
  |succ b=>exact Obj.sr (fun _ h=>tv h) (c.refs (b+1) o a)
theorem Ri{H:ak}{u:ay}{n:Nat}(f:dG P u=some [n]){t:AV}{cs:List a0}:bG P w ad β H (.st u [t]) cs↔bG P w ad β H t cs/\cs.length=n:=by
 simp only[bG,f,ca];constructor
 ·rintro⟨l,g,rfl,a,rfl⟩;simp only[b9]at a;obtain⟨c,d,rfl,b,e,rfl⟩:=a;simpa using⟨b,e⟩
 ·rintro⟨a,b⟩;exact⟨[n],[cs],rfl,by simp only[b9];exact⟨cs,[],rfl,a,b,rfl⟩,s_⟩
theorem c8.wrap{f:ao}{u:ay}{n:Nat}{t d:AV}{r k:ak}{args:List AV}{v:AV}(c:dG P u=some [n])(s:∀T,lQ T (.agg u)=true)(y:∀T,lQ T (aa t)=true)(hn:∀(w:a1)(ad:Nat->Prop)(β:Bd)(H:ak)(cs:List a0),bG P w ad β H d cs->cs.length=n)
 (h:c8 P f (.box false t::r) (.ptr 0 []::args) (.box false d::k) v):c8 P f (.box false (.st u [t])::r) (.ptr 0 [(u,0)]::args) (.box false (.st u [d])::k) v:=by
 refine⟨h.1,fun w ad ai β F A p i=>?_⟩;have B:cK P w ad β (.box false t::r) ai:=A.swap (fun cs h=>((Ri c).1 h).1) y (fun h=>by simpa[aI,bk]using h);obtain⟨x,xs,rfl,h1,m⟩:=p;have q:bX P w ad β (.box false t::r) (.ptr 0 []::args) (x::xs):=by
  refine⟨x,xs,rfl,?_,bX.mono (fun _ x=>x) (fun _ _=>rfl) xf _ _ i.2 m⟩;obtain⟨q1,az,off,o,D,E,q4⟩:=h1;refine⟨q1,az,off,0,D,rfl,fun _=>?_⟩;have z:o=0:=by simpa[iF,c]using E.symm
  have:=q4 ⟨_,rfl,rfl⟩;rw[z]at this;exact this
 refine(h.2 w ad ai β (x::xs) B q ⟨⟨_,rfl,trivial⟩,bk.mono (fun _ h=>tv h) _ i.2⟩).mono ?_;rintro e w' ⟨cv,aR,aJ,rfl,a,C,j⟩;refine⟨cv,aR,aJ,rfl,⟨a.cq,a.fresh,a.ext,?_,?_,fun x hx=>tv (a.iS x (tv hx)),?_⟩,aD.mono (fun _ x=>x) (fun _ _=>rfl) xf _ _ j C,aI.mono (fun _ h=>tv h) _ j⟩
 ·exact(xf.trans (fun x h=>tv h) a.step).trans (fun x h=>a.iS x (tv h)) xf
 ·exact a.rel.swap (fun cs h=>(Ri c).2 ⟨h,hn _ _ _ _ _ h⟩) s (fun h=>by simpa[aI,bk]using h)
 ·rintro b ⟨L,g⟩;have k1:jE (.box false t::r) b:=by
   cases b with
   |zero=>simp at g
   |succ b=>exact⟨L,g⟩
  obtain⟨l,k2⟩:=a.loop b k1;cases b with
  |zero=>simp at k2
  |succ b=>exact⟨l,k2⟩
end
section
variable{P:ax}{w:a1}{ad ai:Nat->Prop}{β:Bd}
def yd(n:Nat):ak:=bw n .dead
theorem wX{n b:Nat}{o:Obj}(h:(yd n)[b]?=some o):o=.dead:=by
 simp only[yd,bb]at h
 split at h
 ·injection h with h;exact h.symm
 ·cases h
theorem c8.cut{f:ao}{H:ak}{args:List AV}{n:Nat}{p:PV}(h:c8 P f H args (yd n) (.p p)):c8 P f H args (yd H.length) (.p p):=by
 refine⟨h.1,fun w ad ai β i t q u=>(h.2 w ad ai β i t q u).mono ?_⟩;rintro e w' ⟨cv,aR,aJ,rfl,a,v,y⟩;have no:∀{m b:Nat}{o:Obj},(yd m)[b]?=some o->o.live->False:=fun h d=>by rw[wX h]at d;exact d
 refine⟨cv,aR,aJ,rfl,⟨a.cq,a.fresh,a.ext,⟨?_,?_⟩,⟨fun b o c=>by rw[wX c];trivial,fun b b' o o' c _ d=>(no c d).elim,fun b o c=>by rw[wX c];trivial,a.rel.cq,a.rel.fN,a.rel.lT⟩,?_,?_⟩,v,trivial⟩
 ·rintro k b _ ⟨z,h,g⟩;rw[wX h]at g;cases g
 ·intro b aF an k es _ h;cases wX h
 ·rintro x ⟨o,j,_⟩;have s:=(a4.1 j).1;exact⟨.dead,by rw[yd,bb,if_pos s],trivial⟩
 ·intro b r;obtain⟨L,l⟩:=a.loop b r;cases wX l
theorem c8.eE{f:ao}{H H':ak}{args:List AV}{v v':PV}(h:c8 P f H args H' (.p v))(j:Wk v v'):c8 P f H args H' (.p v'):=by
 refine⟨h.1,fun w ad ai β a g c i=>(h.2 w ad ai β a g c i).mono ?_⟩;rintro e w' ⟨cv,aR,aJ,rfl,d,b,k⟩;exact⟨cv,aR,aJ,rfl,d,aH.eE _ _ _ j b,trivial⟩
end
section
variable{P:ax}
def Ef(P:ax)(a:List aT)(N:Nat)(Q:AV->ak->Prop)(e:Tg (a,N,Q) bL)(s:Tg (a,N,Q) St):Prop:=
 (match e with
  | .exit _=>False
  |_=>True)/\∃vs,iE P s a=some vs/\∃H',Q (oneOf vs) H'/\(H'=St.heap s\/(dh N s ⟨[],H'⟩/\aI (aQ H') (oneOf vs)))
theorem atE{a:List aT}{N:Nat}{Q:AV->ak->Prop}{s:St}:Ef P a N Q .ret s=∃vs,iE P s a=some vs/\∃H',Q (oneOf vs) H'/\(H'=s.heap\/(dh N s ⟨[],H'⟩/\aI (aQ H') (oneOf vs))):=by simp[Ef]
theorem Z9{a:List aT}{N:Nat}{Q:AV->ak->Prop}{s:St}:Ef P a N Q .normal s=∃vs,iE P s a=some vs/\∃H',Q (oneOf vs) H'/\(H'=s.heap\/(dh N s ⟨[],H'⟩/\aI (aQ H') (oneOf vs))):=by simp[Ef]
attribute [simp] atE Z9
end
section
variable{P:ax}
theorem al.heap{f:ao}{vs i:List PV}{v:PV}{H H1:ak}{args:List AV}(h:al P f vs v)(d:Enters P f)(n:p0 H args=some (i,H1))(k:ch i vs:=by first|exact ch.refl _|simp):c8 P f H args H1 (.p v):=by
 refine⟨d,fun w ad ai β u t q o=>?_⟩;obtain⟨b,a,g⟩:=Gz n t q o;rcases h.eE k (Wk.refl _)with l|m
 ·intro cs;obtain⟨e,w',j,⟨cv,aJ,he,m1,m2,m3,m4,m5,m6,m7⟩,aY,r,s⟩:=l.2 w b _ a.rel.cq a.rel.lT g cs;subst he;exact⟨_,w',j,⟨cv,β,aJ,rfl,a.trans (a.rel.later m1 m2 m3 m4 m5 m6),by simpa[aD]using m7,by simp[aI]⟩,aY,r,s⟩
 ·obtain⟨cv,c,_⟩:=m w b _ g;rw[d]at c;cases c
end
section
variable{P:ax}{aq:ao->Bool}
theorem Fh(H:ak):(gX H).map (·.1)=bl H.length:=by
 rw[gX,List.map_fst_zip];simp
theorem W5{H a:ak}(e:a.length=H.length):bu H (gX a)=a:=by
 have hn:((gX a).map (·.1)).Nodup:=by rw[Fh];exact a8
 refine bo fun i=>?_
 by_cases hi:i<a.length
 ·have c:(i,a[i])∈gX a:=by
   rw[gX,bf];exact⟨i,by simp;exact hi,by rw[bp];simp⟩
  rw[xP hn _ c (by simp only;omega),a3 hi]
 ·have b:(bu H (gX a))[i]?=H[i]?:=u7 fun p d=>by
   have:p.1∈(gX a).map (·.1):=List.mem_map_of_mem d
   rw[Fh,List.mem_range]at this;omega
  rw[b,be o_,be o_]
end
section
variable{P:ax}{aq:ao->Bool}
theorem gJ.aLM{b:Nat}{H a:ak}{args:List AV}{v:AV}(h:gJ P b H args a v)(g:H.length<=a.length)(d:bk (aQ H) args)(j:ek H H):
 sy P b args H.length {v:=v,aA:=gX H,aW:=gX (a.take H.length),bm:=a.drop H.length}:=by
 have hf:=h.frame (bl H.length) H.length s_ a8 (fun b f=>by simpa using f) g d j.get;rw[D8]at hf;have e:dW (bl H.length) H.length H a v={v:=v,aA:=gX H,aW:=gX (a.take H.length),bm:=a.drop H.length}:=by
  have c:(a.take H.length).length=H.length:=by rw[a9];omega
  simp only[dW,D8,AW];rw[show(dS fun i=>i)=id from funext TX,bi,bi,bi,gX,gX,c]
 rw[e,tz]at hf;exact hf
open Classical in
noncomputable def vN(H H2:ak):List (Nat×Obj):=(gX (H2.take H.length)).filter fun p=>decide (H[p.1]?≠some p.2)
open Classical in
theorem BM{H H2:ak}{p:Nat×Obj}:p∈vN H H2↔p∈gX (H2.take H.length)/\H[p.1]?≠some p.2:=by
 simp[vN,List.mem_filter]
theorem J2{H:ak}{i:Nat}{o:Obj}(h:H[i]?=some o):(i,o)∈gX H:=by
 have hi:=(a4.1 h).1;rw[gX,bf];refine⟨i,by simp;exact hi,?_⟩;rw[bp,List.getElem_range];rw[a3 hi]at h;injection h with h
 rw[h]
theorem JQ(H:ak):((gX H).map (·.1)).Nodup:=by rw[Fh];exact a8
theorem W3(H a:ak):((vN H a).map (·.1)).Nodup:=by
 refine List.Nodup.sublist ?_ (JQ (a.take H.length));exact List.Sublist.map _ List.filter_sublist
theorem JT{H a c:ak}(n:H.length<=a.length)(h:∀i,i<H.length->c[i]?=H[i]?):bu c (vN H a)=bu c (gX (a.take H.length)):=by
 refine bo fun i=>?_;have m:(a.take H.length).length=H.length:=by rw[a9];omega
 by_cases hi:i<H.length
 ·have j:i<c.length:=by
   have:=h i hi;rw[a3 hi]at this;exact(a4.1 this).1
  have f:(a.take H.length)[i]?=some a[i]:=by rw[a6,if_pos hi,a3 o_]
  have k:=J2 f;rw[xP (JQ _) _ k j]
  by_cases hc:H[i]?=some a[i]
  ·rw[u7 (fun p b=>?_),h i hi,hc];rw[BM]at b;intro e;have d:=ym b.1;rw[e,f]at d;injection d with d
   have g:=b.2;rw[e,<-d]at g;exact g hc
  ·have l:(i,a[i])∈vN H a:=by
    rw[BM];exact⟨k,hc⟩
   rw[xP (W3 _ _) _ l j]
 ·rw[u7 (fun p b=>?_),u7 (fun p b=>?_)]
  ·have:=(a4.1 (ym b)).1;omega
  ·rw[BM]at b;have:=(a4.1 (ym b.1)).1;omega
theorem gJ.aLL{b:Nat}{H a:ak}{args:List AV}{v:AV}(h:gJ P b H args a v)(f:H.length<=a.length)(n:bk (aQ H) args)(q:ek H H):
 sy P b args H.length {v:=v,aA:=gX H,aW:=vN H a,bm:=a.drop H.length}:=by
 have o:=h.aLM f n q;intro c w ad ai β g j k l d m;have p:∀i,i<H.length->c[i]?=H[i]?:=fun i hi=>by
  rw[a3 hi];exact d _ (J2 (a3 hi))
 have e:bu c (vN H a++newAt H.length (a.drop H.length))=bu c (gX (a.take H.length)++newAt H.length (a.drop H.length)):=by
  rw[zH,zH,JT f p]
 have:=o c w ad ai β g j k l d m;dsimp only at this⊢;rw[e];exact this
theorem yg{b:Nat}{H a:ak}{args:List PV}{as:List AV}{v:PV}{K:bg->Prop}(h:gJ P b H (args.map .p) a (.p v))(has:as=args.map .p)(k:H.length<=a.length)(o:ek H H)(n:∀i,i<H.length->a[i]?=some .hole->H[i]?=some .hole)
 (hk:∀e:bg,(∀dst env,bg.app e dst ⟨env,H⟩=⟨put dst (.p v) env,a⟩)->K e):Ba P H K (.map b) as:=by
 subst has;have m:bk (aQ H) (args.map AV.p):=kU _ _;show∃e,sy P b (args.map .p) H.length e/\sC H e/\K e;have g:(a.take H.length).length=H.length:=by rw[a9];omega
 refine⟨_,h.aLL k m o,⟨fun p c=>ym c,fun p c=>?_⟩,hk _ fun dst env=>?_⟩
 ·rw[BM]at c;have f:=ym c.1;have d:=(a4.1 f).1;rw[g]at d;refine⟨d,fun e=>?_⟩;rw[a6,if_pos d,e]at f;have l:=n _ d f;have j:=c.2;rw[e]at j;exact j l
 ·simp only[bg.app];rw[JT k (fun _ _=>rfl),W5 g,List.take_append_drop]
def Kz(P:ax)(g:ao)(m l:List PV)(h:List (List PV))(d:Nat->ak):Prop:=
 ∀(b k:Nat)(c f:Nat->ak)(H':ak),k<=h.length->(∀i,i<=k->ek (c i) (c i)/\aI (aQ (c i)) (.map b))->
  (∀i a,i<k->h[i]?=some a->gJ P b (c i++d i) (a.map .p) (f i) (.p (.bool true))/\(c i++d i).length<=(f i).length/\(∀j,j<(c i++d i).length->(f i)[j]?=some .hole->(c i++d i)[j]?=some .hole)/\
   (c (i+1)).take (c 0).length=(f i).take (c 0).length/\jf (c (i+1)) (f i) (c (i+1)))->
  (k=h.length/\H'=c k\/∃a e,h[k]?=some a/\gJ P b (c k++d k) (a.map .p) e (.p (.bool false))/\(c k++d k).length<=e.length/\(∀j,j<(c k++d k).length->e[j]?=some .hole->(c k++d k)[j]?=some .hole)/\
   H'.take (c 0).length=e.take (c 0).length/\jf H' e H'/\ek H' H')->
  c8 P g (c 0) (m.map .p++[.map b]++l.map .p) H' (.p (.aE []))
theorem V7{f:av}{n:Array Tmp}{a c:Code}{Q:bL->St->Prop}{env:Env}{heap:ak}{q:Cx}{g:ao}{v u:List PV}{r:List (List PV)}{h:Nat->ak}(aY:Kz P g v u r h)(hf:ev env f= .p (.func g v u))(hq:q.2<=heap.length)
 (X Y:eK->Nat->ak)(k:Nat)(hk:k<=r.length)(w:∀L,X L 0=heap++[.loop L])
 (hx:∀L,L=⟨.ready,none,q.1,n.toList,a,c,env⟩->∀i,i<=k->(X L i)[heap.length]?=some (.loop L)/\ji (X L i) env/\(ji (X L i) env->(∀x,aI (aQ (X L i)) (aV L.env x))->ek (X L i) (X L i)))
 (z:∀L,L=⟨.ready,none,q.1,n.toList,a,c,env⟩->∀i x,i<k->r[i]?=some x->gJ P heap.length (X L i++h i) (x.map .p) (Y L i) (.p (.bool true))/\(X L i++h i).length<=(Y L i).length/\(∀j,j<(X L i++h i).length->(Y L i)[j]?=some .hole->(X L i++h i)[j]?=some .hole)/\
  (X L (i+1)).take (heap.length+1)=(Y L i).take (heap.length+1)/\jf (X L (i+1)) (Y L i) (X L (i+1)))
 (I:∀L,L=⟨.ready,none,q.1,n.toList,a,c,env⟩->(k=r.length/\Q .normal ⟨env,(X L k).set heap.length (.loop L.xh)⟩)\/
  ∃x j l b,r[k]?=some x/\b[heap.length]?=some (.loop (L.dn j))/\gJ P heap.length (X L k++h k) (x.map .p) l (.p (.bool false))/\(X L k++h k).length<=l.length/\(∀i,i<(X L k++h k).length->l[i]?=some .hole->(X L k++h k)[i]?=some .hole)/\
  b.take (heap.length+1)=l.take (heap.length+1)/\jf b l b/\ek b b/\lO Q (some j) ⟨env,b.set heap.length (.loop (L.dn j).xh)⟩):
 fT P aq q (.rangeFunc f n a c) Q ⟨env,heap⟩:=by
 obtain⟨L,d⟩:∃L:eK,L=⟨.ready,none,q.1,n.toList,a,c,env⟩:=⟨_,rfl⟩
 have t:=aY heap.length k (X L) (Y L);refine⟨hq,?_⟩;show lJ P (ev env f) heap.length (heap++[.loop ⟨.ready,none,q.1,n.toList,a,c,env⟩]) (jw heap.length env Q);rw[hf];simp only[lJ];rw[<-d,<-w L];have A:(X L 0).length=heap.length+1:=by rw[w L];simp
 have y:∀i,i<=k->ek (X L i) (X L i)/\aI (aQ (X L i)) (.map heap.length):=by
  intro i hi;obtain⟨o,m,s⟩:=hx L d i hi;have e5:L.env=env:=by rw[d]
  refine⟨s m (by rw[e5];exact m.get),?_⟩;simp only[aI,aQ,o];exact⟨_,rfl,by simp[Obj.has]⟩
 rw[A]at t;rcases I L d with⟨o,m⟩|⟨x,j,l,b,o,m,s,B,C,D,E,F,G⟩
 ·refine⟨_,_,t (X L k) hk y (z L d) (.inl ⟨o,rfl⟩),?_⟩;have H:=(hx L d k (b1 k)).1;simp only[jw,H];refine⟨by rw[d];simp,?_⟩;have:L.pending=none:=by rw[d]
  simp only[this,lO];have e:L.xh={L with st:=.exhausted}:=rfl;rw[this]at e;rw[e]at m;exact m
 ·refine⟨_,_,t b hk y (z L d) (.inr ⟨x,l,o,s,B,C,D,E,F⟩),?_⟩;simp only[jw,m];exact⟨by simp[eK.dn],G⟩
theorem WE{H J:ak}{x:Nat×Nat}(h:aQ H x):aQ (H++J) x:=by
 obtain⟨o,a,b⟩:=h;exact⟨o,by rw[List.getElem?_append_left (a4.1 a).1];exact a,b⟩
theorem ek.up{S T:ak}(a:∀x,aQ S x->aQ T x):∀{h:ak},ek S h->ek T h
 |[],_=>trivial
 |_::_,h=>⟨Obj.sr a h.1,ek.up a h.2⟩
theorem ek.app{H J:ak}(h:ek H H)(a:ek (H++J) J):ek (H++J) (H++J):=by
 rw[Hj];exact⟨h.up fun _=>WE,a⟩
theorem aQH{a:Array Oper}{b:List Touch}{i n:Nat}{e:bg}(h:jY a b=true)(c:b.all (fun u=>reach a a.size u.i i)=true):jY a (iH i n e b)=true:=by
 rw[iH]
 split
 ·exact h
 ·rw[jY,h,Bool.and_true,bv];intro u d;rw[bv]at c;rw[show(jb i n e).i=i from rfl,c u d,Bool.or_true]
theorem yk{b:Nat}{H c:ak}{args:List PV}{as:List AV}{v:PV}{a:Array Oper}{r:List Oper}{i:Nat}{d:List Touch}{K:St->Prop}{dst:Option Tmp}{env:Env}(h:gJ P b H (args.map .p) c (.p v))(has:as=args.map .p)(l:H.length<=c.length)(hr:ek H H)(hh:∀i,i<H.length->c[i]?=some .hole->H[i]?=some .hole)
 (g:jY a d=true)(j:d.all (fun u=>reach a a.size u.i i)=true)(hk:∀f,AX a f=true->sH P aq a r (i+1) f K ⟨put dst (.p v) env,c⟩):Ba P H (DZ P aq a r i d K dst ⟨env,H⟩) (.map b) as:=by
 refine yg h has l hr hh fun e k=>?_;show sH P aq a r (i+1) (iH i H.length e d) K (bg.app e dst ⟨env,H⟩);rw[k];exact hk _ (aQH g j)
end
end Go.ae
