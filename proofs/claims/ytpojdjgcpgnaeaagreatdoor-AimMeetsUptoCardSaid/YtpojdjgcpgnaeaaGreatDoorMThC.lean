import Derived.Test.YtpojdjgcpgnaeaaGreatDoorMThB
/- Parts of a proof. -/
set_option linter.unusedSimpArgs false
set_option linter.unusedVariables false
set_option linter.unusedSectionVars false
open And renaming intro->ab
open Bool renaming cond_eq_ite->ac, and_eq_true->aj
open Go renaming FuncId->ak, Operand->am, Program->ao, TypeId->av, ResultVar->ax, Value->ay, World->aT
open List renaming getElem?_eq_getElem->a0, getElem?_eq_some_iff->a4, map_cons->a5, getElem?_take->a6, mem_map->a7, nodup_range->a8, length_take->a9, getElem?_replicate->bb, getElem?_eq_none->be, mem_iff_getElem->bi, map_id->bl, range->bo, ext_getElem?->bv, getElem_zip->bw, all_eq_true->b0, replicate->b1, map_nil->b2, rec->b3
open Nat renaming ble->b4, le_refl->b5, pow_succ->ca, beq->cb, mod_lt->cc
open Option renaming ite_none_right_eq_some->ck
open Option.some renaming injEq->cx
open Prod.mk renaming injEq->cy
namespace Go.az
set_option linter.unusedSectionVars false
variable[Gl]
inductive RT where
 |lf
 |vl (v:AV)
 |nd (a b c d:RT)
inductive Q4 where|a|b|c|d
def q4(n:Nat):Q4:=match n with
 |0=>.a
 |1=>.b
 |2=>.c
 |_=>.d
def pathOf:Nat->Nat->List Q4
 |0,_=>[]
 |k+1,n=>q4 (n% 4)::pathOf k (n/4)
noncomputable def yy(p:List Q4):RT->AV:=
 b3 (motive:=fun _=>RT->AV) (fun R=>RT.rec (motive:=fun _=>AV) (.p .undef) (fun v=>v) (fun _ _ _ _ _ _ _ _=>.p .undef) R)
  (fun q _ e R=>RT.rec (motive:=fun _=>AV) (.p .undef) (fun _=>.p .undef) (fun a b c d _ _ _ _=>Q4.rec (motive:=fun _=>AV) (e a) (e b) (e c) (e d) q) R) p
noncomputable def GD(v:AV)(p:List Q4):RT->RT:=
 b3 (motive:=fun _=>RT->RT) (fun _=>.vl v)
  (fun q _ e R=>RT.rec (motive:=fun _=>RT)
   (Q4.rec (motive:=fun _=>RT) (.nd (e .lf) .lf .lf .lf) (.nd .lf (e .lf) .lf .lf) (.nd .lf .lf (e .lf) .lf) (.nd .lf .lf .lf (e .lf)) q)
   (fun _=>Q4.rec (motive:=fun _=>RT) (.nd (e .lf) .lf .lf .lf) (.nd .lf (e .lf) .lf .lf) (.nd .lf .lf (e .lf) .lf) (.nd .lf .lf .lf (e .lf)) q)
   (fun a b c d _ _ _ _=>Q4.rec (motive:=fun _=>RT) (.nd (e a) b c d) (.nd a (e b) c d) (.nd a b (e c) d) (.nd a b c (e d)) q) R) p
noncomputable def ly(k:Nat)(R:RT)(n:Nat):AV:=bif b4 (n+1) (4^k)then yy (pathOf k n) R else .p .undef
noncomputable def yS(k:Nat)(R:RT)(n:Nat)(v:AV):RT:=GD v (pathOf k n) R
theorem MA:∀(p:List Q4),yy p .lf=.p .undef
 |[]=>rfl
 |_::_=>rfl
theorem La(v:AV):∀(p:List Q4)(R:RT),yy p (GD v p R)=v
 |[],_=>rfl
 |x::p,R=>by
  cases R<;>cases x<;>exact La v p _
theorem Kt(v:AV):∀(p q:List Q4)(R:RT),p.length=q.length->p≠q->yy p (GD v q R)=yy p R
 |[],[],R,_,h=>(h rfl).elim
 |[],_::_,R,h,_=>by simp at h
 |_::_,[],R,h,_=>by simp at h
 |x::p,y::q,R,h,f=>by
  have g:=fun R(f:p≠q)=>Kt v p q R (by simpa using h) f;have i:=MA p;cases R with
  |nd a b c d=>
   cases x<;>cases y<;>first
    |rfl
    |exact g _ (fun e=>f (by rw[e]))
  |_=>
   cases x<;>cases y<;>first
    |exact i
    |exact(g _ (fun e=>f (by rw[e]))).trans i
theorem Ds:∀k n,(pathOf k n).length=k
 |0,_=>rfl
 |k+1,n=>by simp[pathOf,Ds k]
theorem aEj{m n:Nat}(a:m<4)(hn:n<4)(h:q4 m=q4 n):m=n:=by
 have hc:∀n,n<4->n=0\/n=1\/n=2\/n=3:=o_
 rcases hc m a with rfl|rfl|rfl|rfl<;>rcases hc n hn with rfl|rfl|rfl|rfl<;>simp[q4]at h<;>rfl
theorem Lc:∀(k m n:Nat),m<4^k->n<4^k->pathOf k m=pathOf k n->m=n
 |0,m,n,a,hn,_=>by simp at a hn;omega
 |k+1,m,n,a,hn,h=>by
  simp only[pathOf,List.cons.injEq]at h;have b:=aEj (cc _ o_) (cc _ o_) h.1;have c:=Lc k (m/4) (n/4) (by rw[ca]at a;omega) (by rw[ca]at hn;omega) h.2;omega
theorem N4(k n:Nat):ly k .lf n=.p .undef:=by
 simp[ly,MA]
theorem ZM{a b:Nat}(h:a<=b):b4 a b=true:=Nat.ble_eq_true_of_le h
theorem Ot{a b:Nat}(h:¬a<=b):b4 a b=false:=by
 cases c:b4 a b
 ·rfl
 ·exact(h (eh c)).elim
theorem DW(k:Nat)(R:RT)(d x:Nat)(v:AV)(h:d<4^k):ly k (yS k R d v) x=if x=d then v else ly k R x:=by
 unfold ly yS
 by_cases hx:x+1<=4^k
 ·simp only[ZM hx,cond_true]
  by_cases a:x=d
  ·subst a;rw[La,if_pos rfl]
  ·rw[if_neg a,Kt _ _ _ _ (by rw[Ds,Ds]) (fun e=>a (Lc k x d o_ h e))]
 ·have:x≠d:=by omega
  simp only[Ot hx,cond_false,this,if_false]
def Rel(k:Nat)(e:Env)(R:RT):Prop:=∀x,aP e x=ly k R x
noncomputable def l7(k:Nat)(d:Option Nat)(v:AV)(R:RT):Option RT:=
 match d with
 |none=>some R
 |some d=>bif b4 (d+1) (4^k)then some (yS k R d v)else none
theorem xE{k:Nat}{d:Option Nat}{v:AV}{R a:RT}{e:Env}(h:l7 k d v R=some a)(b:Rel k e R):Rel k (put d v e) a:=by
 unfold l7 at h
 split at h
 ·simp only[cx]at h;subst h;exact b
 ·simp only[ac,ck,cx]at h;obtain⟨c,rfl⟩:=h;intro x;rw[DW _ _ _ _ _ (by have:=eh c;omega)];simp only[put,aP]
  split
  ·rfl
  ·exact b x
noncomputable def kZ(k:Nat)(R:RT):am->AV
 | .tmp t=>ly k R t
 | .const v=>.p (ofConst v)
 | .global g=>.p (Gl.g g)
 | .func f=>.p (.func f [] [])
theorem BA{k:Nat}{R:RT}{e:Env}(a:Rel k e R):kZ k R=ev e:=by
 funext o;cases o<;>simp[kZ,ev,a _]
def rr(H:ah)(e:aY):ah:=
 match e.aO,e.ba with
 |[],[]=>H
 |_,_=>bt H e.aO++e.ba
theorem MM(H:ah)(e:aY):rr H e=bt H e.aO++e.ba:=by
 unfold rr;split
 ·rename_i a b;simp[a,b,bt]
 ·rfl
structure kP where
 cP:ak->List AV->ah->Option (AV×ah)
 cD:ak->List AV->ah->Option aY
 cY:Nat->ah->List AV->Option (ah×AV)
 cI:AV->Nat->ah->Option ah
 Cb:Nat->List AV->ah->Option aY
structure lA(P:ao)(B:kP):Prop where
 cP:∀f args H v H',B.cP f args H=some (v,H')->∀K:AV->ah->Prop,K v H'->kO P false f args H K
 cD:∀f args H e,B.cD f args H=some e->∀K:aY->Prop,K e->kS P f args H K
 cY:∀b H args H' v,B.cY b H args=some (H',v)->fQ P b H args H' v
 cI:∀it b H H',B.cI it b H=some H'->∀K:ah->Prop,K H'->kg P it b H K
 Cb:∀b args H e,B.Cb b args H=some e->pY P b args H.length e/\qc H e
section
variable(P:ao)(an:ak->Bool)(B:kP)(k:Nat)
noncomputable def yQ(o:Oper)(R:RT)(H:ah):Option (RT×ah):=
 match o.op with
 | .call {callee:=.value f,args,.. }=>match(match kZ k R f with
  | .p (.func g d c)=>B.cP g (d.map .p++args.toList.map (kZ k R)++c.map .p) H
  | .func g d c=>B.cP g (d++args.toList.map (kZ k R)++c) H
  | .map b=>match B.cY b H (args.toList.map (kZ k R))with
   |some (H',v)=>some (v,H')
   |none=>none
  |_=>none)with
  |some (v,H')=>match l7 k o.dst v R with
   |some a=>some (a,H')
   |none=>none
  |none=>none
 |_=>match Cs P an o (kZ k R) H with
  |some e=>match l7 k o.dst e.v R with
   |some a=>some (a,rr H e)
   |none=>none
  |none=>none
noncomputable def Bz(a:Array Oper)(j:Nat)(R:RT):AV:=
 match(a[j]?).bind (·.dst)with
 |some d=>ly k R d
 |none=>.p (.aD [])
noncomputable def o9(b:Array Oper):List Oper->RT->ah->Option (RT×ah)
 |[],R,H=>some (R,H)
 |o::r,R,H=>match o.guard with
  |none=>match yQ P an B k o R H with
   |some (a,H')=>o9 b r a H'
   |none=>none
  |some (j,want)=>match Bz k b j R with
   | .p (.bool t)=>match t,want with
    |true,true|false,false=>match yQ P an B k o R H with
     |some (a,H')=>o9 b r a H'
     |none=>none
    |_,_=>match l7 k o.dst (.p (.aD [])) R with
     |some a=>o9 b r a H
     |none=>none
   | .p (.aD [])=>match l7 k o.dst (.p (.aD [])) R with
    |some a=>o9 b r a H
    |none=>none
   |_=>none
noncomputable def yH(o:Oper)(R:RT)(H:ah):Option aY:=
 match o.op with
 | .call {callee:=.value f,args,.. }=>match kZ k R f with
  | .p (.func g c a)=>B.cD g (c.map .p++args.toList.map (kZ k R)++a.map .p) H
  | .func g c a=>B.cD g (c++args.toList.map (kZ k R)++a) H
  | .map b=>B.Cb b (args.toList.map (kZ k R)) H
  |_=>none
 |_=>Cs P an o (kZ k R) H
noncomputable def oJ(b:Array Oper):List Oper->Nat->List Touch->RT->ah->Option (RT×ah)
 |[],_,acc,R,H=>bif jw b acc then some (R,H)else none
 |o::r,i,acc,R,H=>match o.guard with
  |none=>match yH P an B k o R H with
   |some e=>match l7 k o.dst e.v R with
    |some a=>oJ b r (i+1) (gW i H.length e acc) a (rr H e)
    |none=>none
   |none=>none
  |some (j,want)=>match Bz k b j R with
   | .p (.bool t)=>match t,want with
    |true,true|false,false=>match yH P an B k o R H with
     |some e=>match l7 k o.dst e.v R with
      |some a=>oJ b r (i+1) (gW i H.length e acc) a (rr H e)
      |none=>none
     |none=>none
    |_,_=>match l7 k o.dst (.p (.aD [])) R with
     |some a=>oJ b r (i+1) acc a H
     |none=>none
   | .p (.aD [])=>match l7 k o.dst (.p (.aD [])) R with
    |some a=>oJ b r (i+1) acc a H
    |none=>none
   |_=>none
abbrev Out:=Option (bE×RT×ah)
def yx(f:RT->ah->Out):Nat->RT->ah->Out
 |0,_,_=>none
 |n+1,R,H=>match f R H with
  |some (.normal,a,H')=>yx f n a H'
  |r=>r
noncomputable def vU(k:Nat)(R:RT):Nat->Env
 |0=>[]
 |n+1=>(n,ly k R n)::vU k R n
def YV:Nat:=100000
def BQ(j:Option Code):Option bE:=
 match j with
 |none=>some .normal
 |some (.exit id)=>some (.exit id)
 |some .ret=>some .ret
 |_=>none
def GA(b:Nat)(R:RT)(H:ah):Out:=
 match H[b]? with
 |some (.loop L)=>match L.st with
  | .busy=>none
  |_=>match BQ L.pending with
   |some e=>some (e,R,H.set b (.loop {L with st:=.exhausted}))
   |none=>none
 |_=>none
noncomputable def iI(q:Cx):Code->RT->ah->Out
 | .skip,R,H| .label _,R,H=>some (.normal,R,H)
 | .region _ ops draw,R,H=>bif draw then match oJ P an B k ops ops.toList 0 [] R H with
   |some (d,H')=>some (.normal,d,H')
   |none=>none
  else match o9 P an B k ops ops.toList R H with
   |some (d,H')=>some (.normal,d,H')
   |none=>none
 | .seq a b,R,H=>match iI q a R H with
  |some (.normal,d,H')=>iI q b d H'
  |r=>r
 | .cond c a b,R,H=>match kZ k R c with
  | .p (.bool t)=>match t with
   |true=>iI q a R H
   |false=>iI q b R H
  |_=>none
 | .block id b,R,H=>match iI q b R H with
  |some (.exit i,d,H')=>bif cb i id then some (.normal,d,H')else some (.exit i,d,H')
  |r=>r
 | .scope b,R,H=>iI q b R H
 | .loop b,R,H=>yx (fun R H=>iI q b R H) YV R H
 | .rangeFunc f e a b,R,H=>bif b4 q.2 H.length&&b4 q.1 (4^k)then match B.cI (kZ k R f) H.length (H++[.loop ⟨.ready,none,q.1,e.toList,a,b,vU k R (4^k)⟩])with
   |some H'=>GA H.length R H'
   |none=>none
  else none
 | .exit id,R,H=>some (.exit id,R,H)
 | .ret,R,H=>some (.ret,R,H)
 |_,_,_=>none
end
section
variable{P:ao}{an:ak->Bool}{B:kP}{k:Nat}
theorem L8(e:aY)(dst:Option Tmp)(env:Env)(H:ah):e.app dst ⟨env,H⟩=⟨put dst e.v env,rr H e⟩:=by
 simp[aY.app,MM]
theorem aAL(b:lA P B){o:Oper}{R i:RT}{H H':ah}{env:Env}(h:yQ P an B k o R H=some (i,H'))(g:Rel k env R):
 ∃j,Rel k j i/\∀K:St->Prop,K ⟨j,H'⟩->kK P an false o K ⟨env,H⟩:=by
 unfold yQ at h;unfold kK;rw[BA g]at h
 split at h
 ·rename_i f args n c
  split at h
  case h_2=>simp at h
  rename_i v l hc
  split at h
  case h_2=>simp at h
  rename_i m d;simp only[cx,cy]at h;obtain⟨rfl,rfl⟩:=h;refine⟨_,xE d g,fun K a=>?_⟩;simp only[c]
  split at hc
  ·rename_i hf;simp only[hf];exact b.cP _ _ _ _ _ hc _ a
  ·rename_i hf;simp only[hf];exact b.cP _ _ _ _ _ hc _ a
  ·rename_i hf
   split at hc
   ·rename_i l s r;simp only[cx,cy]at hc;obtain⟨rfl,rfl⟩:=hc;simp only[hf];exact⟨_,_,b.cY _ _ _ _ _ r,a⟩
   ·simp at hc
  ·simp at hc
 ·rename_i q
  split at h
  case h_2=>simp at h
  rename_i e p
  split at h
  case h_2=>simp at h
  rename_i m d;simp only[cx,cy]at h;obtain⟨rfl,rfl⟩:=h;refine⟨_,xE d g,fun K a=>?_⟩
  split
  ·rename_i f args n c;exact(q _ _ _ c).elim
  ·exact O6 p (by rw[L8];exact a)
theorem L9{a:Array Oper}{j:Nat}{R:RT}{env:Env}(b:Rel k env R):Bz k a j R=guardOf a j env:=by
 unfold Bz guardOf;split
 ·rename_i h;simp only[h];exact(b _).symm
 ·rename_i h;simp only[h]
theorem E4(f:lA P B){c:Array Oper}:∀{l:List Oper}{R a:RT}{H H':ah}{env:Env},o9 P an B k c l R H=some (a,H')->Rel k env R->
 ∃b,Rel k b a/\∀K:St->Prop,K ⟨b,H'⟩->iF P an false c l K ⟨env,H⟩
 |[],R,a,H,H',env,h,d=>by
  simp only[o9,cx,cy]at h;obtain⟨rfl,rfl⟩:=h;exact⟨env,d,fun K g=>g⟩
 |o::l,R,a,H,H',env,h,d=>by
  have run:(match yQ P an B k o R H with
    |some (a,H')=>o9 P an B k c l a H'
    |none=>none)=some (a,H')->∃b,Rel k b a/\∀K:St->Prop,K ⟨b,H'⟩->kK P an false o (iF P an false c l K) ⟨env,H⟩:=by
   intro h
   split at h
   case h_2=>simp at h
   rename_i n H1 e;obtain⟨v,a1,a2⟩:=aAL f e d;obtain⟨s,q,r⟩:=E4 f h a1;exact⟨s,q,fun K g=>a2 _ (r K g)⟩
  have skip:(match l7 k o.dst (.p (.aD [])) R with
    |some a=>o9 P an B k c l a H
    |none=>none)=some (a,H')->∃b,Rel k b a/\∀K:St->Prop,K ⟨b,H'⟩->iF P an false c l K ⟨put o.dst (.p (.aD [])) env,H⟩:=by
   intro h
   split at h
   case h_2=>simp at h
   rename_i n e;exact E4 f h (xE e d)
  simp only[o9]at h;simp only[iF]
  split at h
  ·rename_i i;simp only[i];exact run h
  ·rename_i j u i;simp only[i];rw[L9 d]at h
   split at h
   ·rename_i t m;simp only[m];cases t<;>cases u
    ·simpa using run h
    ·simpa using skip h
    ·simpa using skip h
    ·simpa using run h
   ·rename_i m;simp only[m];exact skip h
   ·simp at h
theorem ams(b:lA P B){o:Oper}{R:RT}{H:ah}{e:aY}{env:Env}(h:yH P an B k o R H=some e)(l:Rel k env R)(K:aY->Prop)(a:K e):kq P an o ⟨env,H⟩ K:=by
 unfold yH at h;unfold kq;rw[BA l]at h
 split at h
 ·rename_i f args d c;simp only[c]
  split at h
  ·rename_i hf;simp only[hf];exact b.cD _ _ _ _ h _ a
  ·rename_i hf;simp only[hf];exact b.cD _ _ _ _ h _ a
  ·rename_i hf;simp only[hf];obtain⟨g,i⟩:=b.Cb _ _ _ _ h;exact⟨e,g,i,a⟩
  ·simp at h
 ·rename_i j
  split
  ·rename_i f args d c;exact(j _ _ _ c).elim
  ·exact O6 h a
theorem Ex(m:lA P B){f:Array Oper}:∀{l:List Oper}{i:Nat}{b:List Touch}{R a:RT}{H H':ah}{env:Env},oJ P an B k f l i b R H=some (a,H')->Rel k env R->
 ∃c,Rel k c a/\∀K:St->Prop,K ⟨c,H'⟩->gV P an f l i b K ⟨env,H⟩
 |[],i,b,R,a,H,H',env,h,d=>by
  simp only[oJ,ac,ck,cx,cy]at h;obtain⟨g,rfl,rfl⟩:=h;exact⟨env,d,fun K n=>⟨g,n⟩⟩
 |o::l,i,b,R,a,H,H',env,h,d=>by
  have run:(match yH P an B k o R H with
    |some e=>match l7 k o.dst e.v R with
     |some a=>oJ P an B k f l (i+1) (gW i H.length e b) a (rr H e)
     |none=>none
    |none=>none)=some (a,H')->∃c,Rel k c a/\∀K:St->Prop,K ⟨c,H'⟩->kq P an o ⟨env,H⟩ (fun e=>gV P an f l (i+1) (gW i H.length e b) K (e.app o.dst ⟨env,H⟩)):=by
   intro h
   split at h
   case h_2=>simp at h
   rename_i e y
   split at h
   case h_2=>simp at h
   rename_i s g;obtain⟨x,u,w⟩:=Ex m h (xE g d);exact⟨x,u,fun K n=>ams m y d _ (by rw[L8];exact w K n)⟩
  have skip:(match l7 k o.dst (.p (.aD [])) R with
    |some a=>oJ P an B k f l (i+1) b a H
    |none=>none)=some (a,H')->∃c,Rel k c a/\∀K:St->Prop,K ⟨c,H'⟩->gV P an f l (i+1) b K ⟨put o.dst (.p (.aD [])) env,H⟩:=by
   intro h
   split at h
   case h_2=>simp at h
   rename_i s g;exact Ex m h (xE g d)
  simp only[oJ]at h;simp only[gV]
  split at h
  ·rename_i q;simp only[q];exact run h
  ·rename_i j z q;simp only[q];rw[L9 d]at h
   split at h
   ·rename_i t r;simp only[r];cases t<;>cases z
    ·simpa using run h
    ·simpa using skip h
    ·simpa using skip h
    ·simpa using run h
   ·rename_i r;simp only[r];exact skip h
   ·simp at h
theorem MS(R:RT):∀(n:Nat),∀x,aP (vU k R n) x=if x<n then ly k R x else .p .undef
 |0,x=>by simp[vU,aP]
 |n+1,x=>by
  simp only[vU,aP,MS R n]
  by_cases h:x=n
  ·subst h;simp
  ·simp only[h,if_false]
   by_cases a:x<n
   ·simp[a,Nat.lt_succ_of_lt a]
   ·have:¬x<n+1:=by omega
    simp[a,this]
theorem Y9(k:Nat)(R:RT)(n:Nat)(h:4^k<=n):ly k R n=.p .undef:=by
 unfold ly;rw[Ot o_];rfl
theorem amx{R:RT}{env:Env}(a:Rel k env R):∀x,aP (vU k R (4^k)) x=aP env x:=by
 intro x;rw[MS,a]
 split
 ·rfl
 ·rw[Y9 k R x o_]
theorem Y1{j:Option Code}{e:bE}(h:BQ j=some e)(Q:bE->St->Prop)(s:St)(hq:Q e s):kI Q j s:=by
 unfold BQ at h;unfold kI
 split at h<;>simp at h<;>subst h<;>exact hq
theorem Zh{b:Nat}{R a:RT}{H H':ah}{e:bE}{env:Env}(h:GA b R H=some (e,a,H')):a=R/\∀Q:bE->St->Prop,Q e ⟨env,H'⟩->iT b env Q H:=by
 unfold GA at h
 split at h
 case h_2=>simp at h
 rename_i L c
 have go:(match BQ L.pending with
   |some e=>some (e,R,H.set b (.loop {L with st:=.exhausted}))
   |none=>none)=some (e,a,H')->L.st≠.busy->a=R/\∀Q:bE->St->Prop,Q e ⟨env,H'⟩->iT b env Q H:=by
  intro h aS
  split at h
  case h_2=>simp at h
  rename_i e' d;simp only[cx,cy]at h;obtain⟨rfl,rfl,rfl⟩:=h;exact⟨rfl,fun Q hq=>by unfold iT;simp only[c];exact⟨aS,Y1 d Q _ hq⟩⟩
 split at h
 ·simp at h
 ·rename_i aS;exact go h aS
theorem XB{q:Cx}{b:Code}{Q:bE->St->Prop}{s s':St}(f:∀c:bE->St->Prop,c .normal s'->cr P an q b c s)(d:cr P an q (.loop b) Q s'):cr P an q (.loop b) Q s:=by
 simp only[cr]at d⊢;obtain⟨I,⟨a,t0,hf,hI⟩,g⟩:=d;refine⟨fun n t=>I n t\/(n=a+1/\t=s),⟨a+1,s,.inl rfl,.inr ⟨rfl,rfl⟩⟩,?_⟩;rintro n t (h|⟨rfl,rfl⟩)
 ·obtain⟨e,u,k1,k2⟩:=py b t _ (g n t h);refine k2 _ ?_;cases e with
  |normal=>
   obtain⟨m,i,g1,g2,g3⟩:=k1;exact⟨m,i,g1,g2,.inl g3⟩
  |exit id=>exact k1
  |ret=>exact k1
 ·exact f _ ⟨a,t0,Nat.lt_succ_self _,hf,.inl hI⟩
theorem XA{q:Cx}{b:Code}{Q:bE->St->Prop}{s s':St}{e:bE}(f:e≠.normal)(d:∀a:bE->St->Prop,a e s'->cr P an q b a s)(c:Q e s'):cr P an q (.loop b) Q s:=by
 simp only[cr];refine⟨fun n t=>n=0/\t=s,⟨0,s,.inl rfl,rfl,rfl⟩,?_⟩;rintro n t ⟨rfl,rfl⟩;refine d _ ?_;cases e with
 |normal=>exact(f rfl).elim
 |exit id=>exact c
 |ret=>exact c
theorem Nf{q:Cx}{b:Code}{f:RT->ah->Out}(hf:∀{R a:RT}{H H':ah}{e:bE}{env:Env},f R H=some (e,a,H')->Rel k env R->∃c,Rel k c a/\∀Q:bE->St->Prop,Q e ⟨c,H'⟩->cr P an q b Q ⟨env,H⟩):
 ∀(n:Nat){R a:RT}{H H':ah}{e:bE}{env:Env},yx f n R H=some (e,a,H')->Rel k env R->∃c,Rel k c a/\∀Q:bE->St->Prop,Q e ⟨c,H'⟩->cr P an q (.loop b) Q ⟨env,H⟩
 |0,R,a,H,H',e,env,h,d=>by simp[yx]at h
 |n+1,R,a,H,H',e,env,h,d=>by
  simp only[yx]at h
  split at h
  ·rename_i p H1 m;obtain⟨g,a1,a2⟩:=hf m d;obtain⟨l,i,j⟩:=Nf hf n h a1;exact⟨l,i,fun Q hq=>XB a2 (j Q hq)⟩
  ·rename_i o;obtain⟨g,a1,a2⟩:=hf h d;refine⟨g,a1,fun Q hq=>XA ?_ a2 hq⟩;rintro rfl;exact o _ _ h
theorem mr(l:lA P B){q:Cx}:∀{c:Code}{R j:RT}{H H':ah}{e:bE}{env:Env},iI P an B k q c R H=some (e,j,H')->Rel k env R->
 ∃p,Rel k p j/\∀Q:bE->St->Prop,Q e ⟨p,H'⟩->cr P an q c Q ⟨env,H⟩
 | .skip,R,j,H,H',e,env,h,d| .label _,R,j,H,H',e,env,h,d| .exit _,R,j,H,H',e,env,h,d| .ret,R,j,H,H',e,env,h,d=>by
  simp only[iI,cx,cy]at h;obtain⟨rfl,rfl,rfl⟩:=h;exact⟨env,d,fun Q hq=>hq⟩
 | .region id ops draw,R,j,H,H',e,env,h,d=>by
  simp only[iI]at h;cases draw
  ·simp only[cond_false]at h
   split at h
   case h_2=>simp at h
   rename_i n H1 m;simp only[cx,cy]at h;obtain⟨rfl,rfl,rfl⟩:=h;obtain⟨g,a1,a2⟩:=E4 l m d;exact⟨g,a1,fun Q hq=>by simp only[cr];exact a2 _ hq⟩
  ·simp only[cond_true]at h
   split at h
   case h_2=>simp at h
   rename_i n H1 m;simp only[cx,cy]at h;obtain⟨rfl,rfl,rfl⟩:=h;obtain⟨g,a1,a2⟩:=Ex l m d;exact⟨g,a1,fun Q hq=>by simp only[cr,if_true];exact a2 _ hq⟩
 | .seq a b,R,j,H,H',e,env,h,d=>by
  simp only[iI]at h
  split at h
  ·rename_i n H1 m;obtain⟨g,a1,a2⟩:=mr l m d;obtain⟨v,s,u⟩:=mr l h a1;exact⟨v,s,fun Q hq=>by simp only[cr];exact a2 _ (u Q hq)⟩
  ·rename_i o;obtain⟨g,a1,a2⟩:=mr l h d;refine⟨g,a1,fun Q hq=>by
    simp only[cr];refine a2 _ ?_;cases e with
    |normal=>exact(o _ _ h).elim
    |exit id=>exact hq
    |ret=>exact hq⟩
 | .cond c a b,R,j,H,H',e,env,h,d=>by
  simp only[iI,BA d]at h
  split at h
  case h_2=>simp at h
  rename_i t r;cases t
  ·obtain⟨g,a1,a2⟩:=mr l h d;exact⟨g,a1,fun Q hq=>by simp only[cr,r];exact a2 Q hq⟩
  ·obtain⟨g,a1,a2⟩:=mr l h d;exact⟨g,a1,fun Q hq=>by simp only[cr,r,if_true];exact a2 Q hq⟩
 | .block id b,R,j,H,H',e,env,h,d=>by
  simp only[iI]at h
  split at h
  ·rename_i i n H1 m;obtain⟨g,a1,a2⟩:=mr l m d;cases hi:cb i id
   ·simp only[hi,cond_false,cx,cy]at h;obtain⟨rfl,rfl,rfl⟩:=h;refine⟨g,a1,fun Q hq=>by
     simp only[cr];refine a2 _ ?_;have:i≠id:=fun e=>by subst e;simp[Nat.beq_refl]at hi
     simp only[this,if_false];exact hq⟩
   ·simp only[hi,cond_true,cx,cy]at h;obtain⟨rfl,rfl,rfl⟩:=h;refine⟨g,a1,fun Q hq=>by
     simp only[cr];refine a2 _ ?_;simp only[gv hi,if_true];exact hq⟩
  ·rename_i o;obtain⟨g,a1,a2⟩:=mr l h d;refine⟨g,a1,fun Q hq=>by
    simp only[cr];refine a2 _ ?_;cases e with
    |normal=>exact hq
    |exit id=>exact(o _ _ _ h).elim
    |ret=>exact hq⟩
 | .scope b,R,j,H,H',e,env,h,d=>by
  simp only[iI]at h;obtain⟨g,a1,a2⟩:=mr l h d;exact⟨g,a1,fun Q hq=>by simp only[cr];exact a2 Q hq⟩
 | .loop b,R,j,H,H',e,env,h,d=>by
  simp only[iI]at h;exact Nf (fun h d=>mr l h d) _ h d
 | .rangeFunc f y a b,R,j,H,H',e,env,h,d=>by
  simp only[iI,ac,ck,aj]at h;obtain⟨⟨m,x⟩,h⟩:=h
  split at h
  case h_2=>simp at h
  rename_i H1 hI;obtain⟨rfl,w⟩:=Zh (env:=env) h;refine⟨env,d,fun Q hq=>?_⟩;simp only[cr];rw[BA d]at hI;exact⟨eh m,_,amx d,l.cI _ _ _ _ hI _ (w Q hq)⟩
 | .goto _,_,_,_,_,_,_,h,_=>by simp[iI]at h
 | .refuse _,_,_,_,_,_,_,h,_=>by simp[iI]at h
end
def tS(n:Nat):Nat:=
 match b4 n 16,b4 n 64,b4 n 256,b4 n 1024 with
 |true,_,_,_=>2
 |_,true,_,_=>3
 |_,_,true,_=>4
 |_,_,_,true=>5
 |_,_,_,_=>6
noncomputable def yv(k:Nat):Nat->List AV->RT
 |_,[]=>.lf
 |i,v::r=>yS k (yv k (i+1) r) i v
theorem Nw(k:Nat):∀(l:List AV)(i:Nat),i+l.length<=4^k->Rel k (jv i l) (yv k i l)
 |[],i,_=>fun x=>by simp[jv,yv,aP,N4]
 |v::r,i,h=>fun x=>by
  simp only[List.length_cons]at h;rw[yv,DW _ _ _ _ _ o_];simp only[jv,aP]
  split
  ·rfl
  ·exact Nw k r (i+1) o_ x
noncomputable def yI(k:Nat):Env->Option RT
 |[]=>some .lf
 |(x,v)::r=>match yI k r with
  |some R=>bif b4 (x+1) (4^k)then some (yS k R x v)else none
  |none=>none
theorem MR(k:Nat):∀{e:Env}{R:RT},yI k e=some R->Rel k e R
 |[],R,h=>by
  simp only[yI,cx]at h;subst h;intro x;simp[aP,N4]
 |(y,v)::r,R,h=>by
  simp only[yI]at h
  split at h
  case h_2=>simp at h
  rename_i c a;simp only[ac,ck,cx]at h;obtain⟨b,rfl⟩:=h;intro x;rw[DW _ _ _ _ _ (by have:=eh b;omega)];simp only[aP]
  split
  ·rfl
  ·exact MR k a x
noncomputable def Cw(P:ao)(k:Nat)(R:RT)(H:ah):List ax->Option (List AV)
 |[]=>some []
 |r::rs=>match(match r with
  | .tmp t=>some (ly k R t)
  | .cell a T=>match ly k R a with
   | .ptr b path=>match H[b]? with
    |some (.box _ t)=>match fq t path with
     |some v=>bif sE (kindOf P T) (ad v)then some v else none
     |none=>none
    |_=>none
   |_=>none),Cw P k R H rs with
  |some v,some vs=>some (v::vs)
  |_,_=>none
theorem N5{P:ao}{k:Nat}{R:RT}{H:ah}{env:Env}(d:Rel k env R):∀{e:List ax}{vs:List AV},Cw P k R H e=some vs->gS P ⟨env,H⟩ e=some vs
 |[],vs,h=>h
 |r::e,vs,h=>by
  simp only[Cw]at h
  split at h
  case h_2=>simp at h
  rename_i v o c f;simp only[cx]at h;subst h;have g:re P ⟨env,H⟩ r=some v:=by
   cases r with
   |tmp t=>simp only[re];rw[d];exact c
   |cell a T=>
    simp only[re];dsimp only at c;rw[<-d]at c
    split at c
    case h_2=>simp at c
    rename_i b n j
    split at c
    case h_2=>simp at c
    rename_i fz t l
    split at c
    case h_2=>simp at c
    rename_i u m;simp only[ac,ck,cx]at c;obtain⟨i,rfl⟩:=c;rw[j];simp only[l,m,(jy i).1,if_true]
  simp only[gS,g,N5 d f]
section
variable(P:ao)(an:ak->Bool)
noncomputable def BW(B:kP)(fn:Func)(args:List AV)(N:Nat)(H:ah):Option (AV×ah):=
 bif b4 args.length fn.ntmps&&b4 fn.ntmps (4^tS fn.ntmps)then
  match iI P an B (tS fn.ntmps) (fn.ntmps,N) (fn.body.getD .skip) (yv (tS fn.ntmps) 0 args) H with
  |some (.exit _,_,_)=>none
  |some (_,R,H')=>match Cw P (tS fn.ntmps) R H' fn.results.toList with
   |some vs=>some (oneOf vs,H')
   |none=>none
  |none=>none
 else none
structure pg where
 kM:ak->Option Func
 Ch:ak->List PV->Option PV
 Ci:ak->List AV->ah->Option (AV×ah)
 mO:ak->ak->Nat
 vV:ak->List AV->ah->Option (List (Nat×Obj)×PV)
noncomputable def rM(pl:pg)(B:ak->kP)(f:ak)(vs:List PV):Option PV:=
 match pl.Ch f vs with
 |some v=>some v
 |none=>match pl.kM f with
  |some fn=>match BW P an (B f) fn (vs.map .p) 0 []with
   |some (v,H)=>fN H 9 v
   |none=>none
  |none=>none
noncomputable def qo(pl:pg)(B:ak->kP)(f:ak)(args:List AV)(H:ah):Option (AV×ah):=
 match pl.Ci f args H with
 |some r=>some r
 |none=>match pl.kM f with
  |some fn=>BW P an (B f) fn args H.length H
  |none=>none
noncomputable def Bw(B:kP)(b:Nat)(H:ah)(args:List AV):Option (ah×AV):=
 match H[b]? with
 |some (.loop L)=>bif cb args.length L.params.length&&(L.params.all (fun x=>decide (x<L.n))&&codeOk fit L.n L.assign&&codeOk fit L.n L.body)then
  match yI (tS L.n) (sW L.params args L.env)with
  |some R=>match iI P an B (tS L.n) (L.n,H.length) L.assign R H with
   |some (.normal,f,H1)=>match H1[b]? with
    |some (.loop c)=>match c.st with
     | .ready=>match iI P an B (tS L.n) (L.n,H.length) L.body f (H1.set b (.loop {c with st:=.busy}))with
      |some (e,_,a)=>match a[b]? with
       |some (.loop d)=>some (a.set b (.loop {d with st:=if(iE e).isNone then .ready else .done,pending:=iE e}),.p (.bool (iE e).isNone))
       |_=>none
      |none=>none
     |_=>none
    |_=>none
   |_=>none
  |none=>none
  else none
 |_=>none
noncomputable def Gm(pl:pg)(B:ak->kP)(d:AV)(b:Nat)(H:ah):Option ah:=
 match d with
 | .p (.func g c a)=>match qo P an pl B g (c.map .p++[.map b]++a.map .p) H with
  |some (_,H')=>some H'
  |none=>none
 | .func g c a=>match qo P an pl B g (c++[.map b]++a) H with
  |some (_,H')=>some H'
  |none=>none
 |_=>none
noncomputable def F6(pl:pg)(B:ak->kP)(c f:ak)(args:List AV)(H:ah):Option (AV×ah):=
 match pl.vV f args H with
 |some (_,v)=>some (.p v,H)
 |none=>match pl.mO c f with
 |0=>match eE args with
  |some vs=>match rM P an pl B f vs with
   |some v=>some (.p v,H)
   |none=>none
  |none=>qo P an pl B f args H
 |1=>qo P an pl B f args H
 |3=>match yn (qo P an pl B f) args H with
  |some e=>some (e.v,rr H e)
  |none=>none
 |_=>match nO H args with
  |some (vs,H1)=>match rM P an pl B f vs with
   |some v=>some (.p v,H1)
   |none=>none
  |none=>none
noncomputable def F5(pl:pg)(B:ak->kP)(c f:ak)(args:List AV)(H:ah):Option aY:=
 match pl.vV f args H with
 |some (aA,v)=>some {v:=.p v,aA}
 |none=>match pl.mO c f with
 |3=>yn (qo P an pl B f) args H
 |_=>match eE args with
 |some vs=>match rM P an pl B f vs with
  |some v=>some {v:=.p v}
  |none=>none
 |none=>match pX H args with
  |some (vs,bs)=>match mu H bs with
   |some (aA,aO)=>match rM P an pl B f vs with
    |some v=>some {v:=.p v,aA,aO}
    |none=>none
   |none=>none
  |none=>yn (qo P an pl B f) args H
def vp:kP:=⟨fun _ _ _=>none,fun _ _ _=>none,fun _ _ _=>none,fun _ _ _=>none,fun _ _ _=>none⟩
noncomputable def lK(pl:pg):Nat->ak->kP
 |0,_=>vp
 |n+1,c=>⟨F6 P an pl (lK pl n) c,F5 P an pl (lK pl n) c,Bw P an (lK pl n c),Gm P an pl (lK pl n),EX (Bw P an (lK pl n c))⟩
end
structure pR(P:ao)(pl:pg):Prop where
 mix:P.follows .mixedOrders=true
 kM:∀f fn,pl.kM f=some fn->aB P f fn
 Ch:∀f vs v,pl.Ch f vs=some v->aq P f vs v
 Ci:∀f args H v H',pl.Ci f args H=some (v,H')->c8 P f H args H' v
 vV:∀f args H aA v,pl.vV f args H=some (aA,v)->FG P f args aA v/\∀p∈aA,H[p.1]?=some p.2
section
variable{P:ao}{an:ak->Bool}{B1:kP}{B:ak->kP}{pl:pg}
theorem MJ(d:lA P B1){fn:Func}{args:List AV}{N:Nat}{H H':ah}{v:AV}(h:BW P an B1 fn args N H=some (v,H')):
 args.length<=fn.ntmps/\∃e a vs,(match e with
  |bE.exit _=>False
  |_=>True)/\gS P ⟨a,H'⟩ fn.results.toList=some vs/\oneOf vs=v/\∀Q:bE->St->Prop,Q e ⟨a,H'⟩->cr P an (fn.ntmps,N) (fn.body.getD .skip) Q ⟨jv 0 args,H⟩:=by
 unfold BW at h;simp only[ac,ck,aj]at h;obtain⟨⟨b,c⟩,h⟩:=h;have b:=eh b;have c:=eh c;refine⟨b,?_⟩
 split at h
 ·simp at h
 ·rename_i e R j f hc
  split at h
  case h_2=>simp at h
  rename_i vs g;simp only[cx,cy]at h;obtain⟨rfl,rfl⟩:=h;obtain⟨a,a1,a2⟩:=mr d hc (Nw _ args 0 o_);refine⟨e,a,vs,?_,N5 a1 g,rfl,a2⟩;cases e with
  |exit i=>exact f i rfl
  |_=>trivial
 ·simp at h
theorem xL(a:pR P pl)(j:∀c,lA P (B c)){f:ak}{vs:List PV}{v:PV}(h:rM P an pl B f vs=some v):aq P f vs v:=by
 unfold rM at h
 split at h
 ·rename_i v' hk;simp only[cx]at h;subst h;exact a.Ch _ _ _ hk
 ·split at h
  case h_2=>simp at h
  rename_i fn hf
  split at h
  case h_2=>simp at h
  rename_i v' H' k;obtain⟨b,e,m,l,d,g,rfl,i⟩:=MJ (j _) k;exact Cg an (a.kM _ _ hf) a.mix (by simpa using b) (i _ ⟨d,l,g,h⟩)
theorem sM(a:pR P pl)(j:∀c,lA P (B c)){f:ak}{args:List AV}{H H':ah}{v:AV}(h:qo P an pl B f args H=some (v,H')):c8 P f H args H' v:=by
 unfold qo at h
 split at h
 ·rename_i r hk;simp only[cx]at h;subst h;exact a.Ci _ _ _ _ _ hk
 ·split at h
  case h_2=>simp at h
  rename_i fn hf;obtain⟨b,e,l,k,d,g,rfl,i⟩:=MJ (j _) h;exact Qy an (a.kM _ _ hf) a.mix b (i _ ⟨d,k,g,rfl,.inl rfl⟩)
theorem L5{args:List AV}{vs:List PV}(h:eE args=some vs):args=vs.map .p:=nq h
theorem ZA(b:pR P pl)(d:∀c,lA P (B c)){c f:ak}{args:List AV}{H H':ah}{v:AV}(h:F6 P an pl B c f args H=some (v,H'))(K:AV->ah->Prop)(a:K v H'):kO P false f args H K:=by
 unfold F6 at h
 split at h
 ·rename_i aA v' hx;simp only[cx,cy]at h;obtain⟨rfl,rfl⟩:=h;obtain⟨i,j⟩:=b.vV _ _ _ _ _ hx;exact .inr ⟨rfl,.inr (.inr (.inr ⟨aA,v',i,j,a⟩))⟩
 split at h
 ·split at h
  ·rename_i vs m
   split at h
   case h_2=>simp at h
   rename_i v' g;simp only[cx,cy]at h;obtain⟨rfl,rfl⟩:=h;exact .inl ⟨vs,v',L5 m,xL b d g,a⟩
  ·exact .inr ⟨rfl,.inr (.inl ⟨H',v,sM b d h,a⟩)⟩
 ·exact .inr ⟨rfl,.inr (.inl ⟨H',v,sM b d h,a⟩)⟩
 ·split at h
  case h_2=>simp at h
  rename_i e k;simp only[cx,cy]at h;obtain⟨rfl,rfl⟩:=h;obtain⟨i,j⟩:=Ea (fun args H v H' g=>sM b d g) k;exact .inr ⟨rfl,.inr (.inr (.inl ⟨e,i,j,by rw[<-MM];exact a⟩))⟩
 ·split at h
  case h_2=>simp at h
  rename_i vs H1 l
  split at h
  case h_2=>simp at h
  rename_i v' g;simp only[cx,cy]at h;obtain⟨rfl,rfl⟩:=h;exact .inr ⟨rfl,.inl ⟨vs,H1,v',l,xL b d g,a⟩⟩
theorem ZC(i:pR P pl)(j:∀c,lA P (B c)){c f:ak}{args:List AV}{H:ah}{e:aY}(h:F5 P an pl B c f args H=some e)(K:aY->Prop)(g:K e):kS P f args H K:=by
 unfold F5 at h
 split at h
 ·rename_i aA v' hx;simp only[cx]at h;subst h;obtain⟨b,d⟩:=i.vV _ _ _ _ _ hx;exact .inr (.inr (.inr ⟨aA,v',b,d,g⟩))
 split at h
 ·obtain⟨b,d⟩:=Ea (fun args H v H' a=>sM i j a) h;exact .inr (.inr (.inl ⟨e,b,d,g⟩))
 split at h
 ·rename_i vs m
  split at h
  case h_2=>simp at h
  rename_i v' a;simp only[cx]at h;subst h;exact .inl ⟨vs,v',L5 m,xL i j a,g⟩
 ·split at h
  case h_2=>
   obtain⟨b,d⟩:=Ea (fun args H v H' a=>sM i j a) h;exact .inr (.inr (.inl ⟨e,b,d,g⟩))
  rename_i vs bs l
  split at h
  case h_2=>simp at h
  rename_i aA aO k
  split at h
  case h_2=>simp at h
  rename_i v' a;simp only[cx]at h;subst h;exact .inr (.inl ⟨vs,bs,aA,aO,v',l,k,xL i j a,g⟩)
theorem LM(n:pR P pl)(a:lA P B1){b:Nat}{H H':ah}{args:List AV}{v:AV}(h:Bw P an B1 b H args=some (H',v)):fQ P b H args H' v:=by
 unfold Bw at h
 split at h
 case h_2=>simp at h
 rename_i L g;simp only[ac,ck,aj]at h;obtain⟨⟨d,f⟩,h⟩:=h
 split at h
 case h_2=>simp at h
 rename_i R k
 split at h
 case h_2=>simp at h
 rename_i r H1 l
 split at h
 case h_2=>simp at h
 rename_i p i
 split at h
 case h_2=>simp at h
 rename_i aS
 split at h
 case h_2=>simp at h
 rename_i e s o m
 split at h
 case h_2=>simp at h
 rename_i q j;simp only[cx,cy]at h;obtain⟨rfl,rfl⟩:=h;obtain⟨u,a1,a2⟩:=mr a l (MR _ k);obtain⟨w,t,c⟩:=mr a m a1;refine Qz an n.mix g (gv d) (by simpa only[aj]using f) ?_;unfold AZ;refine a2 _ ?_;simp only[Ab,i];refine⟨aS,c _ ?_⟩;simp only[uY,j];exact⟨trivial,.inl rfl⟩
theorem Y2(g:pR P pl)(e:∀c,lA P (B c)){i:AV}{b:Nat}{H H':ah}(h:Gm P an pl B i b H=some H')(K:ah->Prop)(f:K H'):kg P i b H K:=by
 unfold Gm at h
 split at h
 ·split at h
  case h_2=>simp at h
  rename_i v a d;simp only[cx]at h;subst h;exact⟨a,v,sM g e d,f⟩
 ·split at h
  case h_2=>simp at h
  rename_i v a d;simp only[cx]at h;subst h;exact⟨a,v,sM g e d,f⟩
 ·simp at h
theorem uV(a:pR P pl):∀n c,lA P (lK P an pl n c)
 |0,_=>⟨fun _ _ _ _ _ h=>by simp[lK,vp]at h,fun _ _ _ _ h=>by simp[lK,vp]at h,fun _ _ _ _ _ h=>by simp[lK,vp]at h,fun _ _ _ _ h=>by simp[lK,vp]at h,fun _ _ _ _ h=>by simp[lK,vp]at h⟩
 |n+1,c=>⟨fun _ _ _ _ _ h=>ZA a (uV a n) h,fun _ _ _ _ h=>ZC a (uV a n) h,fun _ _ _ _ _ h=>LM a (uV a n c) h,fun _ _ _ _ h=>Y2 a (uV a n) h,fun _ _ _ _ h=>WQ (fun _ _ _ _ _ b=>LM a (uV a n c) b) h⟩
theorem reckon{f:ak}{vs:List PV}{v:PV}(n:Nat)(a:pR P pl)(h:rM P an pl (lK P an pl n) f vs=some v):aq P f vs v:=xL a (uV a n) h
end
section
variable{P:ao}{an:ak->Bool}
theorem aq.dL{f:ak}{args c:List PV}{v v':PV}(h:aq P f args v)(d:bY c args)(g:Wk v v'):aq P f c v':=by
 rcases h with h|h
 ·refine .inl ⟨h.1,fun w aa a i j b=>(h.2 w aa a i j (bO.dL _ _ _ d b)).mono ?_⟩;rintro e w' ⟨cv,aG,k1,k2,k3,k4,k5,k6,k,k7⟩;exact⟨cv,aG,k1,k2,k3,k4,k5,k6,k,aF.dL _ _ _ g k7⟩
 ·refine .inr fun w aa a b=>?_;obtain⟨cv,k1,k2⟩:=h w aa a (bO.dL _ _ _ d b);exact⟨cv,k1,aF.dL _ _ _ g k2⟩
def B2(P:ao)(a:List ax)(v:PV)(e:bE)(s:St):Prop:=
 (match e with
  | .exit _=>False
  |_=>True)/\∃vs,gS P s a=some vs/\∃v',fN s.heap 9 (oneOf vs)=some v'/\Wk v' v
theorem XT{a:List ax}{v:PV}{s:St}:B2 P a v .ret s=∃vs,gS P s a=some vs/\∃v',fN s.heap 9 (oneOf vs)=some v'/\Wk v' v:=by simp[B2]
theorem VW{a:List ax}{v:PV}{s:St}:B2 P a v .normal s=∃vs,gS P s a=some vs/\∃v',fN s.heap 9 (oneOf vs)=some v'/\Wk v' v:=by simp[B2]
theorem tC.dL{f:ak}{args a:List PV}{v v':PV}(h:tC P f args v)(i:bY a args)(j:Wk v v'):tC P f a v':=by
 refine⟨h.1,fun w aa b c d g=>(h.2 w aa b c d (bO.dL _ _ _ i g)).mono ?_⟩;rintro e w' ⟨cv,aG,k1,k2,k3,k4,k5,k6,k,k7⟩;exact⟨cv,aG,k1,k2,k3,k4,k5,k6,k,aF.dL _ _ _ j k7⟩
theorem Vd{dst:Option Tmp}{ty:Nat}{pos:String}{af:Array Edge}{g:Option (Nat×Bool)}{env:Env}{heap:ah}{K:aY->Prop}{f:ak}{h e:Array am}(hf:an f=false):
 ml P an ⟨dst,.makeFunc (.func f) h e,ty,pos,af,g⟩ ⟨env,heap⟩ K=cq (Bk f (h.toList.map (ev env)) (e.toList.map (ev env))) K:=by
 simp only[ml,o8,gd,hf,Bk,Bool.false_eq_true,if_false]
 split
 ·rename_i c d;simp only[c,d,cq,true_and]
 ·rename_i c
  split
  ·rename_i a b d i;exact(c a b d i).elim
  ·simp only[cq,true_and]
section guards
variable{ops:Array Oper}{o:Oper}{r:List Oper}{K:St->Prop}{want t:Bool}{s:St}{i:Nat}{acc:List Touch}
theorem VU{l:List Oper}{j:Nat}{e:Env}:guardOf l.toArray j e=match(l[j]?).bind (·.dst)with
 |some d=>aP e d
 |none=>.p (.aD []):=by simp only[guardOf,List.getElem?_toArray];cases l[j]?.bind (·.dst)<;>rfl
end guards
section calls
variable{f:ak}{H H1:ah}{K:AV->ah->Prop}{L:aY->Prop}{v a b c d e a' b' c' d' e':PV}{dr:Bool}
theorem cw(vs:List PV){a:List PV}(h:aq P f a v)(hk:K (.p v) H)(b:bY vs a):kO P dr f (vs.map .p) H K:=.inl ⟨vs,v,rfl,h.dL b (Wk.refl _),hk⟩
theorem ce(vs:List PV){a:List PV}(h:aq P f a v)(hk:L {v:=.p v})(b:bY vs a):kS P f (vs.map .p) H L:=.inl ⟨vs,v,rfl,h.dL b (Wk.refl _),hk⟩
theorem cwp{args:List AV}{vs a:List PV}(h:aq P f a v)(c:nO H args=some (vs,H1))(hk:K (.p v) H1)(b:bY vs a:=by first|exact bY.refl _|simp[Wk,bY]):kO P false f args H K:=
 .inr ⟨rfl,.inl ⟨vs,H1,v,c,h.dL b (Wk.refl _),hk⟩⟩
theorem cep{args:List AV}{vs a:List PV}{bs:List Nat}{aA aO:List (Nat×Obj)}(h:aq P f a v)(c:pX H args=some (vs,bs))(hf:mu H bs=some (aA,aO))(hk:L {v:=.p v,aA,aO})(b:bY vs a:=by first|exact bY.refl _|simp[Wk,bY]):kS P f args H L:=
 .inr (.inl ⟨vs,bs,aA,aO,v,c,hf,h.dL b (Wk.refl _),hk⟩)
end calls
def KV(T:ah)(a v:AV):Prop:=a=v\/Gh T a v
theorem SX{T:ah}{v:AV}:KV T v v=True:=by simp[KV]
theorem SV{T:ah}{b aE al off len:Nat}:KV T (.p .aK) (.sl b aE al off len)=(aE=0/\off=0/\len=0/\∃k z,T[b]?=some (.arr k 0 z [])/\k.gr=true):=by simp[KV,Gh,gK]
theorem SY{T:ah}{u u':av}{fs:List PV}{a:List AV}:KV T (.p (.st u fs)) (.st u' a)=(u=u'/\mc T fs a):=by simp[KV,Gh,gK]
def nt(T:ah)(e:Env):Env->Prop
 |[]=>True
 |(x,v)::r=>KV T (aP e x) v/\nt T e r
def KO(T:ah)(o:Obj):Obj->Prop
 | .hole=>True
 | .box false v'=>match o with
  | .box false v=>KV T v v'
  |_=>False
 | .arr k aE z es=>(o=.hole/\aE=0/\es=[]/\k.gr=true)\/o=.arr k aE z es
 |o'=>o=o'
def KN:Obj->Prop
 | .hole=>True
 | .arr k aE _ es=>aE=0/\es=[]/\k.gr=true
 |_=>False
def iG(T:ah):ah->ah->Prop
 |_,[]=>True
 |[],o'::t=>KN o'/\iG T [] t
 |o::h,o'::t=>KO T o o'/\iG T h t
theorem nt.get{T:ah}{e:Env}:∀{t:Env},nt T e t->∀x,aP t x=aP e x\/aP t x=.p .undef\/Gh T (aP e x) (aP t x)
 |[],_,x=>.inr (.inl rfl)
 |(y,v)::t,h,x=>by
  simp only[nt]at h;simp only[aP]
  split
  ·rename_i hx;subst hx;rcases h.1 with h|h
   ·exact .inl h.symm
   ·exact .inr (.inr h)
  ·exact nt.get h.2 x
theorem iG.get{T:ah}:∀{h t:ah},iG T h t->∀(b:Nat)(o:Obj),t[b]?=some o->
 o=.hole\/h[b]?=some o\/((h[b]?=none\/h[b]?=some .hole)/\∃k z,o=.arr k 0 z []/\k.gr=true)\/(∃v v',h[b]?=some (.box false v)/\o=.box false v'/\Gh T v v')
 |_,[],_,b,o,c=>by simp at c
 |[],o'::t,hk,b,o,c=>by
  simp only[iG]at hk;cases b with
  |zero=>
   simp at c;subst c;cases o'<;>have a:=hk.1<;>simp only[KN]at a
   ·exact .inl rfl
   ·obtain⟨rfl,rfl,d⟩:=a;exact .inr (.inr (.inl ⟨.inl rfl,_,_,rfl,d⟩))
  |succ b=>simpa using iG.get hk.2 b o (by simpa using c)
 |e::h,o'::t,hk,b,o,c=>by
  simp only[iG]at hk;cases b with
  |zero=>
   simp at c;subst c;have a:=hk.1;cases o' with
   |hole=>exact .inl rfl
   |dead=>simp only[KO]at a;subst a;exact .inr (.inl rfl)
   |map fz es=>simp only[KO]at a;subst a;exact .inr (.inl rfl)
   |eL s p=>simp only[KO]at a;subst a;exact .inr (.inl rfl)
   |loop L=>simp only[KO]at a;subst a;exact .inr (.inl rfl)
   |arr k aE z es=>
    simp only[KO]at a;rcases a with⟨rfl,rfl,rfl,d⟩|rfl
    ·exact .inr (.inr (.inl ⟨.inr rfl,_,_,rfl,d⟩))
    ·exact .inr (.inl rfl)
   |box fz v'=>
    cases fz with
    |true=>simp only[KO]at a;subst a;exact .inr (.inl rfl)
    |false=>
     simp only[KO]at a
     split at a
     ·rcases a with rfl|a
      ·exact .inr (.inl rfl)
      ·exact .inr (.inr (.inr ⟨_,_,rfl,rfl,a⟩))
     ·exact a.elim
  |succ b=>simpa using iG.get hk.2 b o (by simpa using c)
theorem df.og{N:Nat}{s t:St}(hn:t.heap.take N=s.heap.take N)(c:nt t.heap s.env t.env)(hh:iG t.heap s.heap t.heap)(d:iU t.heap t.env)(e:dG t.heap t.heap):df N s t:=by
 refine .inr ⟨⟨c.get,hh.get,d.get,e.get⟩,fun b a=>?_⟩;have:=congrArg (fun l:ah=>l[b]?) hn;simpa[a6,a]using this
theorem Ow{T:ah}{o:Obj}:KO T o o=True:=by
 cases o with
 |box fz v=>cases fz<;>simp[KO,KV]
 |_=>simp[KO]
theorem SS{T:ah}{o:Obj}:KO T o .hole=True:=by simp[KO]
theorem SR{T:ah}{v v':AV}:KO T (.box false v) (.box false v')=KV T v v':=(rfl)
theorem SU{T:ah}{k:AK}{aE z:Nat}{a:List AV}:KO T .hole (.arr k aE z a)=(aE=0/\a=[]/\k.gr=true):=by simp[KO]
theorem SQ:KN .hole=True:=(rfl)
theorem SP{k:AK}{aE z:Nat}{a:List AV}:KN (.arr k aE z a)=(aE=0/\a=[]/\k.gr=true):=(rfl)
theorem SW{T:ah}{x y:PV}:KV T (.p x) (.p y)=(x=y):=by
 have:Gh T (.p x) (.p y)↔x=y:=by cases x<;>simp[Gh,gK,eq_comm]
 simp[KV,this]
def wD{α:Type}(N:Nat)(mk:α->St)(ok:α->Prop)(m:α->Nat)(n:Nat)(s:St):Prop:=∃a',m a'<n/\ok a'/\df N s (mk a')
def th{α:Type}(N:Nat)(mk:α->St)(ok:α->Prop)(m:α->Nat)(n:Nat)(Q:bE->St->Prop)(e:bE)(s:St):Prop:=
 match e with
 | .normal=>wD N mk ok m n s
 |e=>Q e s
section
variable{α:Type}{N:Nat}{mk:α->St}{ok:α->Prop}{m:α->Nat}{n:Nat}{Q:bE->St->Prop}{s s':St}{q:Cx}
theorem VC:th N mk ok m n Q .normal s=wD N mk ok m n s:=(rfl)
theorem WJ{id:Nat}:th N mk ok m n Q (.exit id) s=Q (.exit id) s:=(rfl)
theorem XE:th N mk ok m n Q .ret s=Q .ret s:=(rfl)
theorem wl{b:Code}(mk:α->St)(ok:α->Prop)(m:α->Nat)(c:α)(k:ok c)(iH:∀a,ok a->fH P an q b (th q.2 mk ok m (m a) Q) (mk a))
 (hn:(mk c).heap.take q.2=s.heap.take q.2:=by simp)(i:nt (mk c).heap s.env (mk c).env:=by simp)(j:iG (mk c).heap s.heap (mk c).heap:=by simp)(l:iU (mk c).heap (mk c).env:=by simp)(o:dG (mk c).heap (mk c).heap:=by simp):
 fH P an q (.loop b) Q s:=by
 simp only[fH];refine⟨fun n t=>∃a,ok a/\t=mk a/\n=m a,⟨m c,mk c,df.og hn i j l o,c,k,rfl,rfl⟩,?_⟩;rintro n t ⟨a,h,rfl,rfl⟩;have:th q.2 mk ok m (m a) Q=vD q.2 (m a) (fun n t=>∃a,ok a/\t=mk a/\n=m a) Q:=by
  funext e s
  cases e with
  |normal=>
   simp only[th,vD,wD,eq_iff_iff];constructor
   ·rintro⟨a',d,f,g⟩;exact⟨m a',mk a',d,g,a',f,rfl,rfl⟩
   ·rintro⟨_,_,d,g,a',f,rfl,rfl⟩;exact⟨a',d,f,g⟩
  |exit id=>rfl
  |ret=>rfl
 rw[<-this];exact iH a h
theorem rnd(a':α)(b:ok a')(a:m a'<n:=by omega)(hn:(mk a').heap.take N=s.heap.take N:=by simp)(c:nt (mk a').heap s.env (mk a').env:=by simp)(d:iG (mk a').heap s.heap (mk a').heap:=by simp)(e:iU (mk a').heap (mk a').env:=by simp)(f:dG (mk a').heap (mk a').heap:=by simp):
 wD N mk ok m n s:=⟨a',a,b,df.og hn c d e f⟩
end
theorem aR(n:Int)(h:-9223372036854775808<=n)(a:n<=9223372036854775807):IntKind.i64.wrap n=n:=IntWalk.i64_in n ⟨h,a⟩
theorem CL(a b:Int):(a<b/\¬b<=a)\/(¬a<b/\b<=a):=o_
theorem cH{i:Nat}(h:i<4611686018427387904):IntKind.i64.wrap ((i:Int)+1)=(i:Int)+1:=aR _ o_ o_
attribute [simp] Wk bY aN Obj.has VU Bk VC WJ XE nt iG SX SW SV SY Ow SS SR SU SQ SP mc gK AK.gr iU dG aH Obj.refs
attribute [simp] XT VW Wk.refl bY.refl
end
end Go.az
namespace Go.az
variable[Gl]
mutual
def ez:PV->Prop
 | .str s=>∀c∈s,c<256
 | .cE t=>ez t
 | .cZ _ es| .seq es| .st _ es| .aD es=>nw es
 |_=>True
def nw:List PV->Prop
 |[]=>True
 |v::vs=>ez v/\nw vs
end
section
variable{P:ao}{w:aT}{aa:Nat->Prop}
theorem MH(bs:ByteArray):∀c∈bs.data.toList.map (·.toNat),c<256:=by
 intro c hc;simp only[a7]at hc;obtain⟨b,_,rfl⟩:=hc;exact UInt8.toNat_lt b
mutual
theorem aX.ez:∀(v:PV)(cs:List ay),aX P w aa v cs->ez v
 | .str s,cs,h=>by simp only[aX]at h;obtain⟨bs,_,rfl⟩:=h;simp only[az.ez];exact MH bs
 | .cE t,cs,h=>by simp only[aX]at h;obtain⟨_,_,ts,a,_⟩:=h;simp only[az.ez];exact aX.ez t ts a
 | .cZ f b,cs,h=>by simp only[aX]at h;obtain⟨_,_,_,_,d,a,_⟩:=h;simp only[az.ez];exact bn.ez _ b d a
 | .seq b,cs,h=>by
  simp only[aX]at h;simp only[az.ez];rcases h with⟨rfl,_⟩|⟨_,_,_,_,d,a,_⟩
  ·trivial
  ·exact bn.ez _ b d a
 | .st u b,cs,h=>by simp only[aX]at h;obtain⟨l,d,_,a,_⟩:=h;simp only[az.ez];exact bn.ez _ b d a
 | .aD b,cs,h=>by simp[aX]at h
 | .undef,_,_| .bool _,_,_| .int _ _,_,_| .fU,_,_| .aK,_,_| .fM,_,_| .iX,_,_| .ia,_,_| .eJ _,_,_| .func _ _ _,_,_=>by simp[az.ez]
theorem bn.ez:∀(l:List Nat)(b:List PV)(d:List (List ay)),bn P w aa l b d->nw b
 |_,[],_,_=>by simp[az.nw]
 |[],_::_,_,h=>by simp[bn]at h
 |n::l,v::vs,d,h=>by
  simp only[bn]at h;obtain⟨c,cs,_,a,_,g⟩:=h;simp only[az.nw];exact⟨aX.ez v c a,bn.ez l vs cs g⟩
theorem aF.ez:∀(v:PV)(x:ay),aF P w aa v x->ez v
 | .str s,cs,h=>by simp only[aF]at h;obtain⟨bs,_,rfl⟩:=h;simp only[az.ez];exact MH bs
 | .cE t,cs,h=>by simp only[aF]at h;obtain⟨_,_,ts,a,_⟩:=h;simp only[az.ez];exact aX.ez t ts a
 | .cZ f b,cs,h=>by simp only[aF]at h;obtain⟨_,_,_,_,d,a,_⟩:=h;simp only[az.ez];exact bn.ez _ b d a
 | .seq b,cs,h=>by
  simp only[aF]at h;simp only[az.ez];rcases h with⟨rfl,_⟩|⟨_,_,_,_,d,a,_⟩
  ·trivial
  ·exact bn.ez _ b d a
 | .st u b,cs,h=>by simp only[aF]at h;obtain⟨l,d,_,a,_⟩:=h;simp only[az.ez];exact bn.ez _ b d a
 | .aD b,cs,h=>by simp only[aF]at h;obtain⟨e,a,_⟩:=h;simp only[az.ez];exact bO.ez b e a
 | .undef,_,_| .bool _,_,_| .int _ _,_,_| .fU,_,_| .aK,_,_| .fM,_,_| .iX,_,_| .ia,_,_| .eJ _,_,_| .func _ _ _,_,_=>by simp[az.ez]
theorem bO.ez:∀(b:List PV)(e:List ay),bO P w aa b e->nw b
 |[],_,_=>by simp[az.nw]
 |v::vs,e,h=>by
  simp only[bO]at h;obtain⟨y,i,_,a,g⟩:=h;simp only[az.nw];exact⟨aF.ez v y a,bO.ez vs i g⟩
end
theorem TU{f:ak}{args:List PV}{v:PV}(h:nw args->aq P f args v):aq P f args v:=by
 by_cases hs:nw args
 ·exact h hs
 ·exact .inr fun w aa b a=>(hs (bO.ez _ _ a)).elim
end
end Go.az
namespace Go.az
variable[Gl]
@[reducible] def Tg{α:Type}(_:α)(β:Type):Type:=β
@[reducible] def Tg1{α:Type 1}(_:α)(β:Type):Type:=β
section
variable(P:ao)(an:ak->Bool)
def fk(q:Cx)(c:Code)(Q:bE->St->Prop)(s:Tg (q,c,Q) St):Prop:=fH P an q c Q s
def rK(a:Array Oper)(l:List Oper)(K:St->Prop)(s:Tg (a,l,K) St):Prop:=kx P an a l K s
def qe(b:Array Oper)(l:List Oper)(i:Nat)(a:List Touch)(K:St->Prop)(s:Tg (b,l,i,a,K) St):Prop:=ke P an b l i a K s
def Cy(K:St->Prop)(Q:bE->St->Prop)(e:Tg (K,Q) bE)(s:Tg (K,Q) St):Prop:=Sp K Q e s
def sZ(id:Nat)(Q:bE->St->Prop)(e:Tg (id,Q) bE)(s:Tg (id,Q) St):Prop:=q8 id Q e s
def Qi(a b:St->Prop)(s:St)(v:Tg (a,b,s) AV):Prop:=BE v a b s
def BJ(b:Array Oper)(r:List Oper)(i:Nat)(a:List Touch)(K:St->Prop)(dst:Option Tmp)(s:St)(e:Tg (b,r,i,a,K,dst,s) aY):Prop:=Qj P an b r i a K dst s e
def Ni(dst:Option Tmp)(s:St)(K:St->Prop)(e:Tg (dst,s,K) aY):Prop:=Nh dst s K e
def Sf(dst:Option Tmp)(s:St)(K:St->Prop)(v:Tg (dst,s,K) AV)(H:Tg (dst,s,K) ah):Prop:=Se dst s K v H
def FD(a:Array Oper)(o:Oper)(r:List Oper)(K:St->Prop)(b:Bool)(s:St)(g:Tg (a,o,r,K,b,s) AV):Prop:=apV P an a o r K b s g
def EW(b:Array Oper)(o:Oper)(r:List Oper)(i:Nat)(a:List Touch)(K:St->Prop)(c:Bool)(s:St)(g:Tg (b,o,r,i,a,K,c,s) AV):Prop:=ap2 P an b o r i a K c s g
def Dl(o:Oper)(K:St->Prop)(s:St)(_:Tg (o,K,s) Unit):Prop:=nX P an o K s
def Dk(o:Oper)(s:St)(K:aY->Prop)(_:Tg (o,K,s) Unit):Prop:=ml P an o s K
def fD(K:aY->Prop)(r:Tg K ft):Prop:=cq r K
def eg(K:aY->Prop)(C:AV->List AV->Prop)(op:Op)(s:St)(_:Tg (K,C,op,s) Unit):Prop:=
 match op with
 | .call {callee:=.value f,args,.. }=>C (ev s.env f) (args.toList.map (ev s.env))
 |op=>o8 P an ⟨none,op,0, "",#[],none⟩ s.env s.heap K
def B5(H:ah)(K:AV->ah->Prop)(f:Tg (H,K) AV)(args:Tg (H,K) (List AV)):Prop:=Bj P f args H K
def yB(H:ah)(K:aY->Prop)(f:Tg (H,K) AV)(args:Tg (H,K) (List AV)):Prop:=AQ P f args H K
def lO(d:Bool)(f:ak)(K:AV->ah->Prop)(args:Tg K (List AV))(H:Tg K ah):Prop:=kO P d f args H K
def nv(f:ak)(K:aY->Prop)(args:Tg K (List AV))(H:Tg K ah):Prop:=kS P f args H K
def tz(R:AV->PV->Prop):List AV->List PV->Prop
 |[],vs=>vs=[]
 |x::xs,vs=>match vs with
  |v::vs=>R x v/\tz R xs vs
  |[]=>False
def gR(H:ah):Nat->AV->PV->Prop
 |0=>fun x v=>match x with
  | .p a=>Wk a v
  |_=>False
 |n+1=>fun x v=>match x with
  | .p a=>Wk a v
  | .sl b aE z off len=>match v with
   | .seq fs=>match H[b]? with
    |some (.arr _ e h es)=>aE=e/\z=h/\off+len<=es.length/\tz (gR H n) ((es.drop off).take len) fs
    |_=>False
   |_=>False
  | .st u xs=>match v with
   | .st u' vs=>u=u'/\tz (gR H n) xs vs
   |_=>False
  | .aD xs=>match v with
   | .aD vs=>tz (gR H n) xs vs
   |_=>False
  | .ptr b path=>match v with
   | .cE t=>match H[b]? with
    |some (.box _ y)=>match fq y path with
     |some s=>gR H n s t
     |none=>False
    |_=>False
   |_=>False
  | .map b=>match v with
   | .eJ es=>match H[b]? with
    |some (.map _ c)=>c=es
    |_=>False
   |_=>False
  | .func f xs g=>match v with
   | .func d vs us=>f=d/\tz (gR H n) xs vs/\tz (gR H n) g us
   |_=>False
  |_=>False
def nQ(H:ah)(n:Nat):List AV->List PV->Prop:=tz (gR H n)
def tE(a:List ax)(v:PV)(e:Tg (a,v) bE)(s:Tg (a,v) St):Prop:=
 (match e with
  | .exit _=>False
  |_=>True)/\∃vs,gS P s a=some vs/\gR (St.heap s) 9 (oneOf vs) v
def yp(a:Array Oper)(l:Tg a (List Touch)):Bool:=jw a l
def aEv(a:Array Oper)(i j:Tg a Nat):Bool:=reach a a.size i j
end
section
variable{P:ao}{an:ak->Bool}{q:Cx}
theorem aH0{Q:bE->St->Prop}{s:St}:fk P an q .skip Q s=Q .normal s:=(rfl)
theorem Yl{l:Nat}{Q:bE->St->Prop}{s:St}:fk P an q (.label l) Q s=Q .normal s:=(rfl)
theorem aHS{id:Nat}{Q:bE->St->Prop}{s:St}:fk P an q (.exit id) Q s=Q (.exit id) s:=(rfl)
theorem aHU{Q:bE->St->Prop}{s:St}:fk P an q .ret Q s=Q .ret s:=(rfl)
theorem Yj{b:Code}{Q:bE->St->Prop}{s:St}:fk P an q (.scope b) Q s=fk P an q b Q s:=(rfl)
theorem aHQ{id:Nat}{l:List Oper}{Q:bE->St->Prop}{s:St}:fk P an q (.region id l.toArray true) Q s=qe P an l.toArray l 0 [] (Q .normal) s:=(rfl)
theorem Yk{id:Nat}{l:List Oper}{Q:bE->St->Prop}{s:St}:fk P an q (.region id l.toArray false) Q s=rK P an l.toArray l (Q .normal) s:=(rfl)
theorem aW{a b:Code}{Q:bE->St->Prop}{s:St}:fk P an q (.seq a b) Q s=fk P an q a (Cy (fk P an q b Q) Q) s:=(rfl)
theorem MD{id:Nat}{b:Code}{Q:bE->St->Prop}{s:St}:fk P an q (.block id b) Q s=fk P an q b (sZ id Q) s:=(rfl)
theorem aHM{c:am}{a b:Code}{Q:bE->St->Prop}{s:St}:fk P an q (.cond c a b) Q s=Qi (fk P an q a Q) (fk P an q b Q) s (ev s.env c):=(rfl)
theorem VF{K:St->Prop}{Q:bE->St->Prop}{s:St}:Cy K Q .normal s=K s:=(rfl)
theorem W5{id:Nat}{K:St->Prop}{Q:bE->St->Prop}{s:St}:Cy K Q (.exit id) s=Q (.exit id) s:=(rfl)
theorem Xb{K:St->Prop}{Q:bE->St->Prop}{s:St}:Cy K Q .ret s=Q .ret s:=(rfl)
theorem V1{t:Bool}{a b:St->Prop}{s:St}:Qi a b s (.p (.bool t))=if t then a s else b s:=(rfl)
theorem XR{b:Array Oper}{r:List Oper}{i:Nat}{a:List Touch}{K:St->Prop}{dst:Option Tmp}{env:Env}{heap:ah}{v:AV}{aA aO:List (Nat×Obj)}{ba:List Obj}:BJ P an b r i a K dst ⟨env,heap⟩ ⟨v,aA,aO,ba⟩=qe P an b r (i+1) (gW i heap.length ⟨v,aA,aO,ba⟩ a) K ⟨put dst v env,bt heap aO++ba⟩:=(rfl)
theorem Zr{dst:Option Tmp}{env:Env}{heap:ah}{K:St->Prop}{v:AV}{aA aO:List (Nat×Obj)}{ba:List Obj}:Ni dst ⟨env,heap⟩ K ⟨v,aA,aO,ba⟩=K ⟨put dst v env,bt heap aO++ba⟩:=(rfl)
theorem Ze{dst:Option Tmp}{env:Env}{heap H:ah}{K:St->Prop}{v:AV}:Sf dst ⟨env,heap⟩ K v H=K ⟨put dst v env,H⟩:=(rfl)
theorem aH1{b:Array Oper}{i:Nat}{a:List Touch}{K:St->Prop}{s:St}:qe P an b [] i a K s=(yp b a=true/\K s):=(rfl)
theorem Yi{b:Array Oper}{i c:Nat}{pos:String}{a:List Touch}{K:St->Prop}{s:St}{dst:Option Tmp}{op:Op}{af:Array Edge}{r:List Oper}:qe P an b ({dst,op,type:=c,pos,after:=af,guard:=none}::r) i a K s=Dk P an {dst,op,type:=c,pos,after:=af,guard:=none} s (BJ P an b r i a K dst s) ():=(rfl)
theorem Xy{a:Array Oper}{i d j:Nat}{b:Bool}{pos:String}{c:List Touch}{K:St->Prop}{s:St}{dst:Option Tmp}{op:Op}{af:Array Edge}{r:List Oper}:qe P an a ({dst,op,type:=d,pos,after:=af,guard:=some (j,b)}::r) i c K s=EW P an a {dst,op,type:=d,pos,after:=af,guard:=some (j,b)} r i c K b s (guardOf a j s.env):=(rfl)
theorem aIb{a:Array Oper}{K:St->Prop}{s:St}:rK P an a [] K s=K s:=(rfl)
theorem Yh{a:Array Oper}{b:Nat}{pos:String}{K:St->Prop}{s:St}{dst:Option Tmp}{op:Op}{af:Array Edge}{r:List Oper}:rK P an a ({dst,op,type:=b,pos,after:=af,guard:=none}::r) K s=Dl P an {dst,op,type:=b,pos,after:=af,guard:=none} (rK P an a r K) s ():=(rfl)
theorem Xx{a:Array Oper}{c j:Nat}{b:Bool}{pos:String}{K:St->Prop}{s:St}{dst:Option Tmp}{op:Op}{af:Array Edge}{r:List Oper}:rK P an a ({dst,op,type:=c,pos,after:=af,guard:=some (j,b)}::r) K s=FD P an a {dst,op,type:=c,pos,after:=af,guard:=some (j,b)} r K b s (guardOf a j s.env):=(rfl)
section ops
variable{dst:Option Tmp}{ty:Nat}{pos:String}{af:Array Edge}{g:Option (Nat×Bool)}{env:Env}{heap:ah}{K:aY->Prop}{L:St->Prop}{C:AV->List AV->Prop}
theorem akq{op:Op}:Dk P an ⟨dst,op,ty,pos,af,g⟩ ⟨env,heap⟩ K ()=eg P an K (yB P heap K) op ⟨env,heap⟩ ():=by
 cases op with
 |call c=>obtain⟨a,b,c⟩:=c;cases a<;>rfl
 |_=>rfl
theorem aC1{op:Op}:Dl P an ⟨dst,op,ty,pos,af,g⟩ L ⟨env,heap⟩ ()=eg P an (Ni dst ⟨env,heap⟩ L) (B5 P heap (Sf dst ⟨env,heap⟩ L)) op ⟨env,heap⟩ ():=by
 cases op with
 |call c=>obtain⟨a,b,c⟩:=c;cases a<;>rfl
 |_=>rfl
theorem aFC{x:am}:eg P an K C (.move x) ⟨env,heap⟩ ()=K {v:=ev env x}:=(rfl)
theorem UE{x:am}:eg P an K C (.assign x) ⟨env,heap⟩ ()=K {v:=ev env x}:=(rfl)
theorem aFH{c a b:am}:eg P an K C (.pick c a b) ⟨env,heap⟩ ()=fD K (Bn (ev env c) (ev env a) (ev env b)):=(rfl)
theorem aE8{T:av}:eg P an K C (.alloc T) ⟨env,heap⟩ ()=fD K (AU P T heap.length):=(rfl)
theorem aFe{T:av}{x:am}:eg P an K C (.box T x) ⟨env,heap⟩ ()=fD K (F1 P T heap.length (ev env x)):=(rfl)
theorem aFf{T:av}{parts:Array (Nat×am)}:eg P an K C (.build T parts) ⟨env,heap⟩ ()=fD K (AR P T (parts.toList.map fun(i,x)=>(i,ev env x))):=(rfl)
theorem T5{T:av}{n:Nat}{parts:Array (Nat×am)}:eg P an K C (.buildSlice T n parts) ⟨env,heap⟩ ()=fD K (zJ P T n (parts.toList.map fun(i,x)=>(i,ev env x)) heap.length):=(rfl)
theorem aFv{T:av}{a:am}:eg P an K C (.load T a) ⟨env,heap⟩ ()=fD K (ye P T heap (ev env a)):=(rfl)
theorem aFR{T:av}{a x:am}:eg P an K C (.store T a x) ⟨env,heap⟩ ()=fD K (xG P T heap (ev env a) (ev env x)):=(rfl)
theorem aFd{op:BinOp}{T a:av}{x y:am}:eg P an K C (.binOp op T x y a) ⟨env,heap⟩ ()=fD K (lT P op T (rG y) heap (ev env x) (ev env y)):=(rfl)
theorem aFT{op:UnOp}{T:av}{x:am}:eg P an K C (.unOp op T x) ⟨env,heap⟩ ()=fD K (CD op (ev env x)):=(rfl)
theorem aFp{S D:av}{x:am}:eg P an K C (.convert S D x) ⟨env,heap⟩ ()=fD K (Bi P S D (ev env x)):=(rfl)
theorem Uf{t:am}{i:Nat}:eg P an K C (.extract t i) ⟨env,heap⟩ ()=fD K (zY (ev env t) i):=(rfl)
theorem T0{T:av}{a:am}{f:Nat}:eg P an K C (.fieldAddr T a f) ⟨env,heap⟩ ()=fD K (w8 P T (ev env a) f):=(rfl)
theorem TZ{T:av}{x i:am}:eg P an K C (.indexAddr T x i) ⟨env,heap⟩ ()=fD K (wZ P T heap (ev env x) (ev env i)):=(rfl)
theorem aFs{T:av}{x i:am}:eg P an K C (.index T x i) ⟨env,heap⟩ ()=fD K (AW P T (ev env x) (ev env i)):=(rfl)
theorem aFu{x:am}{a:Array av}:eg P an K C (.call {callee:=.builtin .len,args:=#[x],argTypes:=a}) ⟨env,heap⟩ ()=fD K (Cm P (a.getD 0 0) a.size heap (ev env x)):=(rfl)
theorem aFg{f:am}{args:List am}{a:Array av}:eg P an K C (.call {callee:=.value f,args:=args.toArray,argTypes:=a}) ⟨env,heap⟩ ()=C (ev env f) (args.map (ev env)):=(rfl)
theorem aFP{T:av}{x:am}{lo hi:Option am}:eg P an K C (.slice T x lo hi none) ⟨env,heap⟩ ()=fD K (xH P T heap (ev env x) (lo.map (ev env)) (hi.map (ev env))):=(rfl)
theorem UC{T:av}{x i:am}{ok:Bool}:eg P an K C (.lookup T x i ok) ⟨env,heap⟩ ()=fD K (Bl P T heap (ev env x) (ev env i) ok):=(rfl)
theorem Ub{T:av}{m k x:am}:eg P an K C (.mapUpdate T m k x) ⟨env,heap⟩ ()=fD K (yM P T heap (ev env m) (ev env k) (ev env x)):=(rfl)
theorem UD{T:av}{m k x:am}:eg P an K C (.insert T m k x) ⟨env,heap⟩ ()=fD K (yM P T heap (ev env m) (ev env k) (ev env x)):=(rfl)
theorem aFI{T:av}{x:am}:eg P an K C (.range T x) ⟨env,heap⟩ ()=fD K (AH P T heap.length (ev env x)):=(rfl)
theorem aFD{a:am}:eg P an K C (.next a true) ⟨env,heap⟩ ()=fD K (Bo heap (ev env a)):=(rfl)
theorem Uc{T:av}{l c:am}:eg P an K C (.makeSlice T l c) ⟨env,heap⟩ ()=fD K (Bp P T heap.length (ev env l) (ev env c)):=(rfl)
theorem Ui{x:am}:eg P an K C (.nilCheck x) ⟨env,heap⟩ ()=fD K (Al (ev env x)):=(rfl)
theorem aFz{args:Array am}{a:Array av}:eg P an K C (.call {callee:=.builtin .min,args,argTypes:=a}) ⟨env,heap⟩ ()=fD K (tU false (args.toList.map (ev env))):=(rfl)
theorem aFy{args:Array am}{a:Array av}:eg P an K C (.call {callee:=.builtin .max,args,argTypes:=a}) ⟨env,heap⟩ ()=fD K (tU true (args.toList.map (ev env))):=(rfl)
theorem Ue{T:av}:eg P an K C (.makeMap T none) ⟨env,heap⟩ ()=K {v:=.map heap.length,ba:=[.map false []]}:=(rfl)
theorem UF{s x:am}{T X:av}:eg P an K C (.call {callee:=.builtin .append,args:=#[s,x],argTypes:=#[T,X]}) ⟨env,heap⟩ ()=fD K (xq P T X heap (ev env s) (ev env x)):=by simp[eg,o8,fD]
theorem ajC{f:ak}{b a:List AV}{args:List AV}{M:AV->ah->Prop}:B5 P heap M (.func f b a) args=lO P false f M (b++args++a) heap:=(rfl)
theorem akb{f:ak}{b a:List AV}{args:List AV}:yB P heap K (.func f b a) args=nv P f K (b++args++a) heap:=(rfl)
theorem ajY{f:ak}{b a:List PV}{args:List AV}{M:AV->ah->Prop}:B5 P heap M (.p (.func f b a)) args=lO P false f M (b.map .p++args++a.map .p) heap:=(rfl)
theorem ake{f:ak}{b a:List PV}{args:List AV}:yB P heap K (.p (.func f b a)) args=nv P f K (b.map .p++args++a.map .p) heap:=(rfl)
end ops
section guards
variable{ops:Array Oper}{o:Oper}{r:List Oper}{K:St->Prop}{want t:Bool}{s:St}{i:Nat}{acc:List Touch}
theorem VT:FD P an ops o r K want s (.p (.bool t))=if t=want then Dl P an o (rK P an ops r K) s ()else rK P an ops r K ⟨put o.dst (.p (.aD [])) s.env,s.heap⟩:=(rfl)
theorem Wf:FD P an ops o r K want s (.p (.aD []))=rK P an ops r K ⟨put o.dst (.p (.aD [])) s.env,s.heap⟩:=(rfl)
theorem Vr:EW P an ops o r i acc K want s (.p (.bool t))=if t=want then Dk P an o s (BJ P an ops r i acc K o.dst s) ()else qe P an ops r (i+1) acc K ⟨put o.dst (.p (.aD [])) s.env,s.heap⟩:=(rfl)
theorem VS:EW P an ops o r i acc K want s (.p (.aD []))=qe P an ops r (i+1) acc K ⟨put o.dst (.p (.aD [])) s.env,s.heap⟩:=(rfl)
end guards
theorem Vm{id:Nat}{Q:bE->St->Prop}{s:St}:sZ id Q .normal s=Q .normal s:=(rfl)
theorem Wp{id i:Nat}{Q:bE->St->Prop}{s:St}:sZ id Q (.exit i) s=if i=id then Q .normal s else Q (.exit i) s:=(rfl)
theorem Xr{id:Nat}{Q:bE->St->Prop}{s:St}:sZ id Q .ret s=Q .ret s:=(rfl)
section makeFunc
theorem Uj{K:aY->Prop}{C:AV->List AV->Prop}{env:Env}{heap:ah}{f:ak}{b a:Array am}(hf:an f=false):eg P an K C (.makeFunc (.func f) b a) ⟨env,heap⟩ ()=fD K (Bk f (b.toList.map (ev env)) (a.toList.map (ev env))):=Vd (dst:=none) (ty:=0) (pos:= "") (af:=#[]) (g:=none) hf
end makeFunc
theorem Xd{p:Prop}{e:aY}{K:aY->Prop}:fD K (some (p,e))=(p/\K e):=(rfl)
theorem Xe{K:aY->Prop}:fD K none=False:=(rfl)
theorem WX{a:Array Oper}:yp a []=true:=(rfl)
theorem VQ{a:Array Oper}{t:Touch}{r:List Touch}:yp a (t::r)=(r.all (fun u=>!kj u t||aEv a u.i t.i)&&yp a r):=(rfl)
theorem Ud{a:List ax}{v:PV}{s:St}:tE P a v .ret s=∃vs,gS P s a=some vs/\gR s.heap 9 (oneOf vs) v:=by simp[tE]
theorem VX{a:List ax}{v:PV}{s:St}:tE P a v .normal s=∃vs,gS P s a=some vs/\gR s.heap 9 (oneOf vs) v:=by simp[tE]
section pur
variable{H:ah}
theorem zk{n:Nat}{a v:PV}:gR H n (.p a) v=Wk a v:=by cases n<;>rfl
theorem OM{n b aE z off len:Nat}{fs:List PV}:gR H (n+1) (.sl b aE z off len) (.seq fs)=match H[b]? with
  |some (.arr _ a c es)=>aE=a/\z=c/\off+len<=es.length/\nQ H n ((es.drop off).take len) fs
  |_=>False:=(rfl)
theorem aD2{n:Nat}{u u':av}{a:List AV}{vs:List PV}:gR H (n+1) (.st u a) (.st u' vs)=(u=u'/\nQ H n a vs):=(rfl)
theorem aD9{n:Nat}{a:List AV}{vs:List PV}:gR H (n+1) (.aD a) (.aD vs)=nQ H n a vs:=(rfl)
theorem Oa{n b:Nat}{a:List (PV×PV)}:gR H (n+1) (.map b) (.eJ a)=match H[b]? with
  |some (.map _ c)=>c=a
  |_=>False:=(rfl)
theorem aDX{n:Nat}{f a:ak}{c d:List AV}{vs b:List PV}:gR H (n+1) (.func f c d) (.func a vs b)=(f=a/\nQ H n c vs/\nQ H n d b):=(rfl)
theorem Av{n:Nat}{vs:List PV}:nQ H n [] vs=(vs=[]):=(rfl)
theorem DX{n:Nat}{x:AV}{a:List AV}{v:PV}{vs:List PV}:nQ H n (x::a) (v::vs)=(gR H n x v/\nQ H n a vs):=(rfl)
theorem Mh{α:Type}{n:Nat}{g:α->AV}{f:α->PV}:∀{l:List α},nQ H n (l.map g) (l.map f)=∀x∈l,gR H n (g x) (f x)
 |[]=>by simp[Av]
 |a::l=>by simp[DX,Mh (l:=l)]
theorem vk(n:Nat)(c:∀(x:AV)(v:PV),gR H n x v->∃v',fN H n x=some v'/\Wk v' v):∀(b:List AV)(vs:List PV),nQ H n b vs->∃a,lh (fN H n) b=some a/\bY a vs
 |[],vs,h=>by rw[Av]at h;subst h;exact⟨[],rfl,by simp[bY]⟩
 |x::b,vs,h=>by
  cases vs with
  |nil=>exact h.elim
  |cons v vs=>
   rw[DX]at h;obtain⟨p,d,e⟩:=c x v h.1;obtain⟨a,f,g⟩:=vk n c b vs h.2;exact⟨p::a,by simp[lh,d,f],by simp only[bY];exact⟨e,g⟩⟩
theorem sX:∀(n:Nat)(x:AV)(v:PV),gR H n x v->∃v',fN H n x=some v'/\Wk v' v
 |0,x,v,h=>by
  cases x with
  |p a=>exact⟨_,rfl,h⟩
  |_=>exact h.elim
 |n+1,x,v,h=>by
  cases x with
  |p a=>rw[zk]at h;exact⟨_,rfl,h⟩
  |sl b aE z off len=>
   cases v with
   |seq fs=>
    rw[OM]at h
    split at h
    case h_2=>exact h.elim
    rename_i k B D j e;obtain⟨rfl,rfl,m,g⟩:=h;obtain⟨i,c,d⟩:=vk n (sX n) _ _ g;simp only[fN,e,m,and_self,if_true]
    split
    ·rename_i hn;rw[hn.2]at g;simp only[List.drop_nil,List.take_nil,Av]at g;exact⟨_,rfl,by rw[g];simp[Wk]⟩
    ·rw[c];exact⟨_,rfl,by simp only[Wk];exact d⟩
   |_=>exact h.elim
  |st u xs=>
   cases v with
   |st u' vs=>
    obtain⟨rfl,h⟩:=h;obtain⟨i,c,d⟩:=vk n (sX n) _ _ h;simp only[fN,c];exact⟨_,rfl,by simp only[Wk];exact⟨trivial,d⟩⟩
   |_=>exact h.elim
  |aD xs=>
   cases v with
   |aD vs=>
    obtain⟨i,c,d⟩:=vk n (sX n) _ _ h;simp only[fN,c];exact⟨_,rfl,by simp only[Wk];exact d⟩
   |_=>exact h.elim
  |ptr b path=>
   cases v with
   |cE t=>
    change (match H[b]? with
     |some (.box _ y)=>match fq y path with
      |some s=>gR H n s t
      |none=>False
     |_=>False)at h
    split at h
    case h_2=>exact h.elim
    rename_i e
    split at h
    case h_2=>exact h.elim
    rename_i s hs;obtain⟨p,c,d⟩:=sX n _ _ h;simp only[fN,e,hs,c];exact⟨_,rfl,by simp only[Wk];exact d⟩
   |_=>exact h.elim
  |cm _ _ _ _ _=>exact h.elim
  |map b=>
   cases v with
   |eJ j=>
    rw[Oa]at h
    split at h
    case h_2=>exact h.elim
    rename_i fz r e;subst h;simp only[fN,e];exact⟨_,rfl,Wk.refl _⟩
   |_=>exact h.elim
  |func f xs C=>
   cases v with
   |func w vs us=>
    obtain⟨rfl,h,l⟩:=h;obtain⟨i,c,d⟩:=vk n (sX n) _ _ h;obtain⟨A,o,q⟩:=vk n (sX n) _ _ l;simp only[fN,c,o];exact⟨_,rfl,by simp only[Wk];exact⟨trivial,d,q⟩⟩
   |_=>exact h.elim
end pur
theorem YE{f:ak}{fn:Func}(an:ak->Bool)(h:aB P f fn)(n:P.follows .mixedOrders=true){args:List PV}{v:PV}(hn:args.length<=fn.ntmps)
 (d:fk P an (fn.ntmps,0) (fn.body.getD .skip) (tE P fn.results.toList v) ⟨jv 0 (args.map .p),[]⟩):tC P f args v:=by
 have hs:=h.stat;simp only[aj,bne_iff_ne]at hs;have k:fn.body=some (fn.body.getD .skip):=by
  have a:=hs.1.1;clear d hs;cases l:fn.body with
  |none=>rw[l]at a;simp at a
  |some c=>rfl
 obtain⟨e,s,⟨a,vs,g,b⟩,j⟩:=py _ _ _ (mV (Q':=tE P fn.results.toList v) _ (fun _ _ h=>h) d);obtain⟨v',b,i⟩:=sX _ _ _ b;have m:tC P f args v':=MN (qH an) (Ac (qH an) n) h.enters h.func k hs.2 hn (j (Ends P fn.results.toList v') ⟨by cases e<;>exact a,vs,g,b⟩);exact m.dL (bY.refl _) i
theorem aJ{f:ak}{fn:Func}(an:ak->Bool)(h:aB P f fn)(a:P.follows .mixedOrders=true){args:List PV}{v:PV}(hn:args.length<=fn.ntmps)
 (b:fk P an (fn.ntmps,0) (fn.body.getD .skip) (tE P fn.results.toList v) ⟨jv 0 (args.map .p),[]⟩):aq P f args v:=.inl (YE an h a hn b)
theorem gA_{f:ak}{fn:Func}(an:ak->Bool)(h:P.funcs[f]?=some fn)(a:P.follows .mixedOrders=true){args:List PV}{v:PV}(b:fk P an (fn.ntmps,0) (fn.body.getD .skip) (tE P fn.results.toList v) ⟨jv 0 (args.map .p),[]⟩)(hn:args.length<=fn.ntmps:=by exact Nat.le_of_ble_eq_true rfl)(k:(fn.body.isSome&&(fn.name != "runtime.NumGoroutine")&&codeOk fit fn.ntmps (fn.body.getD .skip))=true:=by kernel_rfl):aq P f args v:=aJ an (i_ h k) a hn b
theorem Sj{α:Type}{N:Nat×Nat->Prop}{f:α->PV}{l:List α}:aZ N (l.map fun x=>.p (f x))=True:=by
 rw[dP,eq_iff_iff,iff_true];intro v a;simp only[a7]at a;obtain⟨x,_,rfl⟩:=a;trivial
theorem aEN{α:Type}{N:Nat×Nat->Prop}{f:α->PV}{l:List α}{i:Nat}:aZ N ((l.map fun x=>.p (f x)).take i)=True:=by
 rw[dP,eq_iff_iff,iff_true];intro v a;have a:=List.mem_of_mem_take a;simp only[a7]at a;obtain⟨x,_,rfl⟩:=a;trivial
theorem XM{N:Nat×Nat->Prop}{a b:List AV}:aZ N (a++b)=(aZ N a/\aZ N b):=by
 simp only[dP,List.mem_append,eq_iff_iff];exact⟨fun h=>⟨fun v c=>h v (.inl c),fun v c=>h v (.inr c)⟩,fun h v c=>c.elim (h.1 v) (h.2 v)⟩
theorem U5{α:Type}{l:List α}{i:Nat}:(l.take i).take i=l.take i:=by simp[List.take_take]
theorem U4{α β:Type}{f:α->β}{l:List α}:(l.map f).take l.length=l.map f:=List.take_of_length_le s_
section loops
variable{α:Type}(N:Nat)(mk:α->St)(ok:α->Prop)(m:α->Nat)(n:Nat)(Q:bE->St->Prop)
def GS(s:Tg (N,mk,ok,m,n) St):Prop:=wD N mk ok m n s
def BN(e:Tg (N,mk,ok,m,n,Q) bE)(s:Tg (N,mk,ok,m,n,Q) St):Prop:=th N mk ok m n Q e s
variable{N}{mk}{ok}{m}{n}{Q}{s s':St}
theorem VB:BN N mk ok m n Q .normal s=GS N mk ok m n s:=(rfl)
theorem WI{id:Nat}:BN N mk ok m n Q (.exit id) s=Q (.exit id) s:=(rfl)
theorem XC:BN N mk ok m n Q .ret s=Q .ret s:=(rfl)
theorem lp{d:Nat}{b:Code}(mk:α->St)(ok:α->Prop)(m:α->Nat)(c:α)(e:ok c)(iH:∀a,ok a->fk P an (d,N) b (BN N mk ok m (m a) Q) (mk a))
 (hn:(mk c).heap.take N=s.heap.take N:=by simp)(he:nt (mk c).heap s.env (mk c).env:=by simp)(hh:iG (mk c).heap s.heap (mk c).heap:=by simp)(hr:iU (mk c).heap (mk c).env:=by simp)(hr2:dG (mk c).heap (mk c).heap:=by simp):
 fk P an (d,N) (.loop b) Q s:=wl (q:=(d,N)) mk ok m c e iH hn he hh hr hr2
theorem rd(a':α)(a:ok a')(h1:m a'<n:=by omega)(hn:(mk a').heap.take N=s.heap.take N:=by simp)(he:nt (mk a').heap s.env (mk a').env:=by simp)(hh:iG (mk a').heap s.heap (mk a').heap:=by simp)(hr:iU (mk a').heap (mk a').env:=by simp)(hr2:dG (mk a').heap (mk a').heap:=by simp):
 GS N mk ok m n s:=rnd a' a h1 hn he hh hr hr2
end loops
section calls
variable{f:ak}{H H1:ah}{K:AV->ah->Prop}{L:aY->Prop}{v a b c d e a' b' c' d' e':PV}
theorem c0(h:aq P f [] v)(hk:K (.p v) H):lO P false f K [] H:=cw [] h hk (bY.refl _)
theorem c1(h:aq P f [a'] v)(hk:K (.p v) H)(h1:Wk a a':=by first|exact Wk.refl _|simp):lO P false f K [.p a] H:=cw [a] h hk (ab h1 (bY.refl []))
theorem c2(h:aq P f [a',b'] v)(hk:K (.p v) H)(h1:Wk a a':=by first|exact Wk.refl _|simp)(c:Wk b b':=by first|exact Wk.refl _|simp):lO P false f K [.p a,.p b] H:=cw [a,b] h hk (ab h1 (ab c (bY.refl [])))
theorem c3(h:aq P f [a',b',c'] v)(hk:K (.p v) H)(h1:Wk a a':=by first|exact Wk.refl _|simp)(d:Wk b b':=by first|exact Wk.refl _|simp)(e:Wk c c':=by first|exact Wk.refl _|simp):lO P false f K [.p a,.p b,.p c] H:=cw [a,b,c] h hk (ab h1 (ab d (ab e (bY.refl []))))
theorem c4(h:aq P f [a',b',c',d'] v)(hk:K (.p v) H)(e:Wk a a':=by first|exact Wk.refl _|simp)(g:Wk b b':=by first|exact Wk.refl _|simp)(i:Wk c c':=by first|exact Wk.refl _|simp)(j:Wk d d':=by first|exact Wk.refl _|simp):lO P false f K [.p a,.p b,.p c,.p d] H:=cw [a,b,c,d] h hk (ab e (ab g (ab i (ab j (bY.refl [])))))
theorem c5(h:aq P f [a',b',c',d',e'] v)(hk:K (.p v) H)(g:Wk a a':=by first|exact Wk.refl _|simp)(i:Wk b b':=by first|exact Wk.refl _|simp)(j:Wk c c':=by first|exact Wk.refl _|simp)(k:Wk d d':=by first|exact Wk.refl _|simp)(l:Wk e e':=by first|exact Wk.refl _|simp):lO P false f K [.p a,.p b,.p c,.p d,.p e] H:=cw [a,b,c,d,e] h hk (ab g (ab i (ab j (ab k (ab l (bY.refl []))))))
theorem e0(h:aq P f [] v)(hk:L {v:=.p v}):nv P f L [] H:=ce [] h hk (bY.refl _)
theorem e1(h:aq P f [a'] v)(hk:L {v:=.p v})(h1:Wk a a':=by first|exact Wk.refl _|simp):nv P f L [.p a] H:=ce [a] h hk (ab h1 (bY.refl []))
theorem e2(h:aq P f [a',b'] v)(hk:L {v:=.p v})(h1:Wk a a':=by first|exact Wk.refl _|simp)(c:Wk b b':=by first|exact Wk.refl _|simp):nv P f L [.p a,.p b] H:=ce [a,b] h hk (ab h1 (ab c (bY.refl [])))
theorem e3(h:aq P f [a',b',c'] v)(hk:L {v:=.p v})(h1:Wk a a':=by first|exact Wk.refl _|simp)(d:Wk b b':=by first|exact Wk.refl _|simp)(e:Wk c c':=by first|exact Wk.refl _|simp):nv P f L [.p a,.p b,.p c] H:=ce [a,b,c] h hk (ab h1 (ab d (ab e (bY.refl []))))
theorem e4(h:aq P f [a',b',c',d'] v)(hk:L {v:=.p v})(e:Wk a a':=by first|exact Wk.refl _|simp)(g:Wk b b':=by first|exact Wk.refl _|simp)(i:Wk c c':=by first|exact Wk.refl _|simp)(j:Wk d d':=by first|exact Wk.refl _|simp):nv P f L [.p a,.p b,.p c,.p d] H:=ce [a,b,c,d] h hk (ab e (ab g (ab i (ab j (bY.refl [])))))
theorem e5(h:aq P f [a',b',c',d',e'] v)(hk:L {v:=.p v})(g:Wk a a':=by first|exact Wk.refl _|simp)(i:Wk b b':=by first|exact Wk.refl _|simp)(j:Wk c c':=by first|exact Wk.refl _|simp)(k:Wk d d':=by first|exact Wk.refl _|simp)(l:Wk e e':=by first|exact Wk.refl _|simp):nv P f L [.p a,.p b,.p c,.p d,.p e] H:=ce [a,b,c,d,e] h hk (ab g (ab i (ab j (ab k (ab l (bY.refl []))))))
theorem cp{args:List AV}{vs a:List PV}(h:aq P f a v)(b:nO H args=some (vs,H1))(hk:K (.p v) H1)(h1:bY vs a:=by first|exact bY.refl _|simp):lO P false f K args H:=cwp h b hk h1
theorem ep{args:List AV}{vs a:List PV}{bs:List Nat}{aA aO:List (Nat×Obj)}(h:aq P f a v)(b:pX H args=some (vs,bs))(hf:mu H bs=some (aA,aO))(hk:L {v:=.p v,aA,aO})(h1:bY vs a:=by first|exact bY.refl _|simp):nv P f L args H:=cep h b hf hk h1
theorem ci{args:List AV}{H':ah}{v:AV}(h:c8 P f H args H' v)(hk:K v H'):lO P false f K args H:=.inr ⟨rfl,.inr (.inl ⟨H',v,h,hk⟩)⟩
end calls
attribute [simp] Sj aEN XM U5 zk OM aD2 aD9 Oa aDX Av DX Mh U4 aZ Vm Wp Xr VT Wf Vr VS akq aC1 Uj aFC UE aFH aE8 aFe aFf T5 aFv aFR aFd aFT aFp Uf T0 TZ aFs aFu aFg aFP UC Ub UD aFI aFD Uc Ui aFz aFy Ue UF Xd Xe WX VQ Ud VX VB WI XC nO lx pX nN mu nE
 aH0 Yl aHS aHU Yj aHQ Yk aW MD aHM VF W5 Xb V1 XR Zr Ze aH1 Yi Xy aIb Yh Xx ajC akb ajY ake
end
section
variable{P:ao}{an:ak->Bool}{q:Cx}
theorem LL{r:ft}{K a:aY->Prop}(hk:∀e,K e->a e)(h:cq r K):cq r a:=by
 unfold cq at h⊢
 split at h
 ·exact⟨h.1,hk _ h.2⟩
 ·exact h.elim
theorem WG{o:Oper}{e:Env}{H:ah}{K a:aY->Prop}(hk:∀e,K e->a e)(h:gd P an o (ev e) H K):gd P an o (ev e) H a:=by
 obtain⟨x,b,c⟩:=EJ (an:=an) o (ev e) H K h;exact c a (hk x b)
theorem MX{o:Oper}{e:Env}{H:ah}{K a:aY->Prop}(hk:∀e,K e->a e)(h:o8 P an o e H K):o8 P an o e H a:=by
 unfold o8 at h⊢
 repeat' split at h
 all_goals first|exact hk _ h|exact LL hk h|exact⟨h.1,LL hk h.2⟩|exact WG hk h|exact h.elim
theorem KF{d:Bool}{f:ak}{args:List AV}{H:ah}{K i:AV->ah->Prop}(hk:∀v H,K v H->i v H)(h:kO P d f args H K):kO P d f args H i:=by
 rcases h with⟨vs,v,a,b,c⟩|⟨g,⟨vs,H1,v,a,b,c⟩|⟨H',v,a,b⟩|⟨e,a,b,c⟩|⟨aA,v,a,b,c⟩⟩
 ·exact .inl ⟨vs,v,a,b,hk _ _ c⟩
 ·exact .inr ⟨g,.inl ⟨vs,H1,v,a,b,hk _ _ c⟩⟩
 ·exact .inr ⟨g,.inr (.inl ⟨H',v,a,hk _ _ b⟩)⟩
 ·exact .inr ⟨g,.inr (.inr (.inl ⟨e,a,b,hk _ _ c⟩))⟩
 ·exact .inr ⟨g,.inr (.inr (.inr ⟨aA,v,a,b,hk _ _ c⟩))⟩
theorem KY{f:ak}{args:List AV}{H:ah}{K d:aY->Prop}(hk:∀e,K e->d e)(h:kS P f args H K):kS P f args H d:=by
 rcases h with⟨vs,v,a,b,c⟩|⟨vs,bs,aA,aO,v,a,b,c,g⟩|⟨e,a,b,c⟩|⟨aA,v,a,b,c⟩
 ·exact .inl ⟨vs,v,a,b,hk _ c⟩
 ·exact .inr (.inl ⟨vs,bs,aA,aO,v,a,b,c,hk _ g⟩)
 ·exact .inr (.inr (.inl ⟨e,a,b,hk _ c⟩))
 ·exact .inr (.inr (.inr ⟨aA,v,a,b,hk _ c⟩))
theorem Kv{o:Oper}{K b:St->Prop}{s:St}(hk:∀s,K s->b s)(h:nX P an o K s):nX P an o b s:=by
 unfold nX at h⊢
 split at h
 ·rename_i f args g i;unfold Bj at h⊢
  split at h
  ·exact KF (fun v H a=>hk _ a) h
  ·exact KF (fun v H a=>hk _ a) h
  ·obtain⟨H',v,c,d⟩:=h;exact⟨H',v,c,hk _ d⟩
  ·exact h.elim
 ·exact MX (fun e a=>hk _ a) h
theorem KK{o:Oper}{s:St}{K a:aY->Prop}(hk:∀e,K e->a e)(h:ml P an o s K):ml P an o s a:=by
 unfold ml at h⊢
 split at h
 ·rename_i f args g i;unfold AQ at h⊢
  split at h
  ·exact KY hk h
  ·exact KY hk h
  ·obtain⟨e,b,c,d⟩:=h;exact⟨e,b,c,hk _ d⟩
  ·exact h.elim
 ·exact MX hk h
theorem xo{c:Array Oper}:∀(l:List Oper){K a:St->Prop}{s:St},(∀s,K s->a s)->kx P an c l K s->kx P an c l a s
 |[],K,a,s,hk,h=>hk s h
 |o::l,K,a,s,hk,h=>by
  simp only[kx]at h⊢
  split at h
  ·exact Kv (fun s hs=>xo l hk hs) h
  ·split at h
   ·split at h
    ·rename_i b;rw[if_pos b];exact Kv (fun s hs=>xo l hk hs) h
    ·rename_i b;rw[if_neg b];exact xo l hk h
   ·exact xo l hk h
   ·exact h.elim
theorem xk{d:Array Oper}:∀(l:List Oper){i:Nat}{b:List Touch}{K a:St->Prop}{s:St},(∀s,K s->a s)->ke P an d l i b K s->ke P an d l i b a s
 |[],i,b,K,a,s,hk,h=>⟨h.1,hk s h.2⟩
 |o::l,i,b,K,a,s,hk,h=>by
  simp only[ke]at h⊢
  split at h
  ·exact KK (fun e hs=>xk l hk hs) h
  ·split at h
   ·split at h
    ·rename_i c;rw[if_pos c];exact KK (fun e hs=>xk l hk hs) h
    ·rename_i c;rw[if_neg c];exact xk l hk h
   ·exact xk l hk h
   ·exact h.elim
theorem px:∀(c:Code){Q g:bE->St->Prop}{s:St},(∀e s,Q e s->g e s)->fH P an q c Q s->fH P an q c g s
 | .skip,Q,g,s,hq,h=>hq _ _ h
 | .label _,Q,g,s,hq,h=>hq _ _ h
 | .exit _,Q,g,s,hq,h=>hq _ _ h
 | .ret,Q,g,s,hq,h=>hq _ _ h
 | .region _ ops draw,Q,g,s,hq,h=>by
  simp only[fH]at h⊢
  split at h
  ·rename_i j;rw[if_pos j];exact xk _ (fun s hs=>hq _ _ hs) h
  ·rename_i j;rw[if_neg j];exact xo _ (fun s hs=>hq _ _ hs) h
 | .seq a b,Q,g,s,hq,h=>by
  simp only[fH]at h⊢;refine px a (fun e s d=>?_) h;cases e with
  |normal=>exact px b hq d
  |exit i=>exact hq _ _ d
  |ret=>exact hq _ _ d
 | .cond c a b,Q,g,s,hq,h=>by
  simp only[fH]at h⊢;unfold BE at h⊢
  split at h
  ·split at h
   ·rename_i k;rw[if_pos k];exact px a hq h
   ·rename_i k;rw[if_neg k];exact px b hq h
  ·exact h.elim
 | .block id b,Q,g,s,hq,h=>by
  simp only[fH]at h⊢;refine px b (fun e s d=>?_) h;cases e with
  |normal=>exact hq _ _ d
  |exit i=>
   simp only[q8]at d⊢
   by_cases hi:i=id
   ·simp only[hi,if_true]at d⊢;exact hq _ _ d
   ·simp only[hi,if_false]at d⊢;exact hq _ _ d
  |ret=>exact hq _ _ d
 | .scope b,Q,g,s,hq,h=>px b hq h
 | .loop b,Q,g,s,hq,h=>by
  simp only[fH]at h⊢;obtain⟨I,l,m⟩:=h;refine⟨I,l,fun n t hI=>px b (fun e s d=>?_) (m n t hI)⟩;cases e with
  |normal=>exact d
  |exit id=>exact hq _ _ d
  |ret=>exact hq _ _ d
 | .rangeFunc f o a b,Q,g,s,hq,h=>by
  simp only[fH]at h⊢;exact⟨h.1,Ln (fun H=>Lq hq) h.2⟩
 | .goto _,_,_,_,_,h=>h.elim
 | .refuse _,_,_,_,_,h=>h.elim
def tj(R:St->Prop)(Q:bE->St->Prop)(e:Tg (R,Q) bE)(s:Tg (R,Q) St):Prop:=match e with
 | .normal=>R s
 |e=>Q e s
theorem Vv{R:St->Prop}{Q:bE->St->Prop}{s:St}:tj R Q .normal s=R s:=(rfl)
theorem WN{R:St->Prop}{Q:bE->St->Prop}{id:Nat}{s:St}:tj R Q (.exit id) s=Q (.exit id) s:=(rfl)
theorem X0{R:St->Prop}{Q:bE->St->Prop}{s:St}:tj R Q .ret s=Q .ret s:=(rfl)
theorem join{a b:Code}{Q:bE->St->Prop}{s:St}(R:St->Prop)(d:fk P an q a (tj R Q) s)(f:∀s',R s'->fk P an q b Q s'):fk P an q (.seq a b) Q s:=by
 rw[aW];refine px a (fun e s c=>?_) d;cases e with
 |normal=>exact f s c
 |exit i=>exact c
 |ret=>exact c
theorem Sk{α:Type}{N:Nat×Nat->Prop}{f:α->PV}{l:List α}:aZ N (l.map (AV.p∘f))=True:=Sj
attribute [simp] Vv WN X0 Sk
end
section
variable{P:ao}{an:ak->Bool}
def yl(P:ao)(a:List ax)(N:Nat)(H':ah)(v:AV)(e:Tg (a,N,H',v) bE)(s:Tg (a,N,H',v) St):Prop:=vL P a N H' v e s
theorem WT{a:List ax}{N:Nat}{H':ah}{v:AV}{s:St}:yl P a N H' v .ret s=∃vs,gS P s a=some vs/\oneOf vs=v/\(H'=s.heap\/(df N s ⟨[],H'⟩/\aH (aN H') v)):=by simp[yl,vL]
theorem Vi{a:List ax}{N:Nat}{H':ah}{v:AV}{s:St}:yl P a N H' v .normal s=∃vs,gS P s a=some vs/\oneOf vs=v/\(H'=s.heap\/(df N s ⟨[],H'⟩/\aH (aN H') v)):=by simp[yl,vL]
theorem gX{f:ak}{fn:Func}(an:ak->Bool)(h:aB P f fn)(a:P.follows .mixedOrders=true){args:List AV}{H H':ah}{v:AV}(hn:args.length<=fn.ntmps)
 (b:fk P an (fn.ntmps,H.length) (fn.body.getD .skip) (yl P fn.results.toList H.length H' v) ⟨jv 0 args,H⟩):c8 P f H args H' v:=
 Qy an h a hn (mV (Q':=vL P fn.results.toList H.length H' v) _ (fun _ _ h=>h) b)
theorem aGF{n i:Nat}:sig [] n i=n+i:=by simp[sig]
theorem cn{f:ak}{H H':ah}{K:AV->ah->Prop}{v:AV}{args:List PV}(h:c8 P f [] (args.map .p) H' v)(hk:K (cN (sig [] H.length) v) (H++H'.map (dB (sig [] H.length)))):lO P false f K (args.map .p) H:=by
 refine .inr ⟨rfl,.inr (.inr (.inl ⟨dE [] H.length [] H' v,?_,⟨by simp[dE],by simp[dE]⟩,?_⟩))⟩
 ·have b:aZ (aN ([]:ah)) (args.map .p):=by rw[dP];intro v c;obtain⟨x,_,rfl⟩:=a7.1 c;trivial
  have:=h.frame [] H.length rfl List.nodup_nil s_ s_ b s_;have e:cU (sig [] H.length) (args.map .p)=args.map .p:=by
   clear h b this hk
   induction args with
   |nil=>rfl
   |cons a r d=>simp only[a5,cU,cN,d]
  rwa [e]at this
 ·simpa[dE,bt]using hk
theorem Qh{f:ak}{H H':ah}{K:AV->ah->Prop}{v:AV}{a b:PV}(h:c8 P f [] [.p a,.p b] H' v)(hk:K (cN (sig [] H.length) v) (H++H'.map (dB (sig [] H.length)))):lO P false f K [.p a,.p b] H:=cn (args:=[a,b]) h hk
def Pz(P:ao)(T:av)(f:Nat):Option (av×kz):=match kindOf P T,P.underlying T with
 | .agg u,some (.struct _)=>((kC P u)[f]?).map fun F=>(u,kindOf P F)
 |_,_=>none
def Fh(P:ao)(T:av)(f:Nat)(x:AV):ft:=match Pz P T f,x with
 |some (u,k),.p t=>match(bW t)[f]? with
  |some g=>some (aL t=.agg u/\k=aL g,{v:=.p g})
  |none=>none
 |_,_=>none
theorem Ws{T:av}{x:AV}{f:Nat}{K:aY->Prop}:(match kindOf P T,P.underlying T,x with
  | .agg u,some (.struct _),.p t=>aL t=.agg u/\(match(bW t)[f]?,(kC P u)[f]? with
   |some g,some F=>kindOf P F=aL g/\K {v:=.p g}
   |_,_=>False)
  |_,_,_=>False)=cq (Fh P T f x) K:=by
 unfold Fh Pz;cases b:kindOf P T with
 |agg u=>cases c:P.underlying T with
  |none=>simp[cq]
  |some d=>cases d with
   |struct fs=>cases x with
    |p t=>cases hc:(kC P u)[f]?<;>cases a:(bW t)[f]?<;>simp[cq,a,hc,and_assoc]
    |_=>cases hc:(kC P u)[f]?<;>simp[cq,hc]
   |_=>simp[cq]
 |_=>simp[cq]
section fields
variable{dst:Option Tmp}{ty:Nat}{pos:String}{af:Array Edge}{g:Option (Nat×Bool)}{env:Env}{heap:ah}{L:St->Prop}{K:aY->Prop}{T:av}{x:am}{f:Nat}
theorem aFr{C:AV->List AV->Prop}:eg P an K C (.field T x f) ⟨env,heap⟩ ()=fD K (Fh P T f (ev env x)):=Ws
end fields
theorem Au{σ:Nat->Nat}{α:Type}{f:α->PV}:∀{l:List α},cU σ (l.map (AV.p∘f))=l.map (AV.p∘f)
 |[]=>rfl
 |a::l=>by simp only[a5,cU,Au (l:=l)];rfl
theorem XN{σ:Nat->Nat}{α β:Type}{f:β->PV}{g:α->β}{l:List α}:cU σ (l.map ((AV.p∘f)∘g))=l.map ((AV.p∘f)∘g):=Au (f:=f∘g)
theorem aEC{α β:Type}{N:Nat×Nat->Prop}{f:β->PV}{g:α->β}{l:List α}:aZ N (l.map ((AV.p∘f)∘g))=True:=Sk (f:=f∘g)
attribute [simp] aFr XN aEC WT Vi aGF cN cU dB Au
end
section
variable{P:ao}{an:ak->Bool}
theorem Nj{T:ah}:∀{h:ah},iG T h h=True
 |[]=>by simp[iG]
 |o::h=>by simp[iG,Ow,Nj (h:=h)]
theorem EI{T:ah}:∀{h k:ah},dG T (h++k)=(dG T h/\dG T k)
 |[],k=>by simp[dG]
 |o::h,k=>by simp[dG,EI (h:=h),and_assoc]
theorem aED{N:Nat×Nat->Prop}{n:Nat}{v:PV}:aZ N (b1 n (.p v))=True:=by
 rw[dP,eq_iff_iff,iff_true];intro x hx;rw[(List.mem_replicate.1 hx).2];trivial
theorem Zb{σ:Nat->Nat}{α:Type}{f:α->PV}{l:List α}:cU σ (l.map fun x=>.p (f x))=l.map fun x=>.p (f x):=Au (f:=f)
theorem wM{L:eA}{e:Env}{H:ah}(h:L.env=e)(a:iU H e):∀x,aH (aN H) (aP L.env x):=by rw[h];exact a.get
def eA.bz(L:eA):eA:={L with st:=.busy}
def eA.dn(L:eA)(j:Code):eA:={L with st:=.done,pending:=some j}
def eA.xh(L:eA):eA:={L with st:=.exhausted}
def Stream(P:ao)(g:ak)(f e:List PV)(d:List (List PV)):Prop:=
 ∀(b k:Nat)(c:Nat->ah)(H':ah),k<=d.length->(∀i,i<=k->dG (c i) (c i)/\aH (aN (c i)) (.map b))->
  (∀i a,i<k->d[i]?=some a->fQ P b (c i) (a.map .p) (c (i+1)) (.p (.bool true)))->
  (k=d.length/\H'=c k\/∃a,d[k]?=some a/\fQ P b (c k) (a.map .p) H' (.p (.bool false)))->
  c8 P g (c 0) (f.map .p++[.map b]++e.map .p) H' (.p (.aD []))
theorem ajF{b:Nat}{args:List AV}{M:AV->ah->Prop}{heap:ah}:B5 P heap M (.map b) args=∃H' v,fQ P b heap args H' v/\M v H':=(rfl)
def v8(b:Nat)(L:eA)(N:Nat)(H':ah)(v:Bool)(e:Tg (b,L,N,H',v) bE)(s:Tg (b,L,N,H',v) St):Prop:=
 match e with
 | .normal=>v=true/\(St.heap s)[b]?=some (.loop L.bz)/\df N ⟨[],(St.heap s).set b (.loop L)⟩ ⟨[],H'⟩
 | .exit id=>v=false/\(St.heap s)[b]?=some (.loop L.bz)/\df N ⟨[],(St.heap s).set b (.loop (L.dn (.exit id)))⟩ ⟨[],H'⟩
 | .ret=>v=false/\(St.heap s)[b]?=some (.loop L.bz)/\df N ⟨[],(St.heap s).set b (.loop (L.dn .ret))⟩ ⟨[],H'⟩
section
variable{b N:Nat}{L:eA}{H':ah}{v:Bool}{s:St}
theorem W8:v8 b L N H' v .normal s=(v=true/\s.heap[b]?=some (.loop L.bz)/\df N ⟨[],s.heap.set b (.loop L)⟩ ⟨[],H'⟩):=(rfl)
theorem Zd{id:Nat}:v8 b L N H' v (.exit id) s=(v=false/\s.heap[b]?=some (.loop L.bz)/\df N ⟨[],s.heap.set b (.loop (L.dn (.exit id)))⟩ ⟨[],H'⟩):=(rfl)
theorem aEt:v8 b L N H' v .ret s=(v=false/\s.heap[b]?=some (.loop L.bz)/\df N ⟨[],s.heap.set b (.loop (L.dn .ret))⟩ ⟨[],H'⟩):=(rfl)
end
def GC(P:ao)(an:ak->Bool)(q:Cx)(b:Nat)(c:Code)(L:eA)(H':ah)(v:Bool)(e:Tg (q,b,c,L,H',v) bE)(s:Tg (q,b,c,L,H',v) St):Prop:=
 match e with
 | .normal=>(St.heap s)[b]?=some (.loop L)/\fk P an q c (v8 b L q.2 H' v) ⟨St.env s,(St.heap s).set b (.loop L.bz)⟩
 |_=>False
theorem W9{q:Cx}{b:Nat}{c:Code}{L:eA}{H':ah}{v:Bool}{s:St}:GC P an q b c L H' v .normal s=(s.heap[b]?=some (.loop L)/\fk P an q c (v8 b L q.2 H' v) ⟨s.env,s.heap.set b (.loop L.bz)⟩):=(rfl)
theorem uf(an:ak->Bool)(q:P.follows .mixedOrders=true){b n:Nat}{L:eA}{H H':ah}{args:List AV}{v:Bool}{j:List Tmp}{a c:Code}{env:Env}
 (d:L=⟨.ready,none,n,j,a,c,env⟩)(m:H[b]?=some (.loop L))(o:args.length=j.length)
 (r:(j.all (fun x=>decide (x<n))&&codeOk fit n a&&codeOk fit n c)=true)
 (t:fk P an (n,H.length) a (GC P an (n,H.length) b c L H' v) ⟨sW j args env,H⟩):fQ P b H args H' (.p (.bool v)):=by
 refine Qz an q m (by rw[d];exact o) (by rw[d];exact r) ?_;unfold AZ;have e1:L.n=n:=by rw[d]
 have e2:L.assign=a:=by rw[d]
 have e3:L.body=c:=by rw[d]
 have e4:L.params=j:=by rw[d]
 have e5:L.env=env:=by rw[d]
 have e6:L.st=.ready:=by rw[d]
 rw[e1,e2,e3,e4,e5];refine mV (Q:=GC P an (n,H.length) b c L H' v) _ (fun e s h=>?_) t;cases e with
 |normal=>
  obtain⟨k,l⟩:=h;simp only[Ab,k];refine⟨e6,mV (Q:=v8 b L H.length H' v) _ (fun e s h=>?_) l⟩;cases e with
  |normal=>
   obtain⟨rfl,f,g⟩:=h;have i:s.heap[b]?=some (.loop L.bz):=f;simp only[uY,i,iE];refine⟨rfl,?_⟩;have:({L.bz with st:=LoopState.ready,pending:=none}:eA)=L:=by subst d;rfl
   simpa[this]using g
  |exit id=>
   obtain⟨rfl,f,g⟩:=h;have i:s.heap[b]?=some (.loop L.bz):=f;simp only[uY,i,iE];exact⟨rfl,g⟩
  |ret=>
   obtain⟨rfl,f,g⟩:=h;have i:s.heap[b]?=some (.loop L.bz):=f;simp only[uY,i,iE];exact⟨rfl,g⟩
 |exit id=>exact h.elim
 |ret=>exact h.elim
theorem rf{f:am}{h:Array Tmp}{a c:Code}{Q:bE->St->Prop}{env:Env}{heap:ah}{q:Cx}{g:ak}{s r:List PV}{n:List (List PV)}(aS:Stream P g s r n)(hf:ev env f= .p (.func g s r))(hq:q.2<=heap.length)
 (X:eA->Nat->ah)(k:Nat)(hk:k<=n.length)(w:∀L,X L 0=heap++[.loop L])
 (hx:∀L,L=⟨.ready,none,q.1,h.toList,a,c,env⟩->∀i,i<=k->(X L i)[heap.length]?=some (.loop L)/\iU (X L i) env/\(iU (X L i) env->(∀x,aH (aN (X L i)) (aP L.env x))->dG (X L i) (X L i)))
 (v:∀L,L=⟨.ready,none,q.1,h.toList,a,c,env⟩->∀i x,i<k->n[i]?=some x->fQ P heap.length (X L i) (x.map .p) (X L (i+1)) (.p (.bool true)))
 (A:∀L,L=⟨.ready,none,q.1,h.toList,a,c,env⟩->(k=n.length/\Q .normal ⟨env,(X L k).set heap.length (.loop L.xh)⟩)\/
  ∃x j l,n[k]?=some x/\l[heap.length]?=some (.loop (L.dn j))/\fQ P heap.length (X L k) (x.map .p) l (.p (.bool false))/\kI Q (some j) ⟨env,l.set heap.length (.loop (L.dn j).xh)⟩):
 fk P an q (.rangeFunc f h a c) Q ⟨env,heap⟩:=by
 obtain⟨L,b⟩:∃L:eA,L=⟨.ready,none,q.1,h.toList,a,c,env⟩:=⟨_,rfl⟩
 have u:=aS heap.length k (X L);refine⟨hq,?_⟩;show kg P (ev env f) heap.length (heap++[.loop ⟨.ready,none,q.1,h.toList,a,c,env⟩]) (iT heap.length env Q);rw[hf];simp only[kg];rw[<-b,<-w L];have t:∀i,i<=k->dG (X L i) (X L i)/\aH (aN (X L i)) (.map heap.length):=by
  intro i hi;obtain⟨m,d,o⟩:=hx L b i hi;have e5:L.env=env:=by rw[b]
  refine⟨o d (by rw[e5];exact d.get),?_⟩;simp only[aH,aN,m];exact⟨_,rfl,by simp[Obj.has]⟩
 rcases A L b with⟨m,d⟩|⟨x,j,l,m,d,o,y⟩
 ·refine⟨_,_,u (X L k) hk t (v L b) (.inl ⟨m,rfl⟩),?_⟩;have z:=(hx L b k (b5 k)).1;simp only[iT,z];refine⟨by rw[b];simp,?_⟩;have:L.pending=none:=by rw[b]
  simp only[this,kI];have e:L.xh={L with st:=.exhausted}:=rfl;rw[this]at e;rw[e]at d;exact d
 ·refine⟨_,_,u l hk t (v L b) (.inr ⟨x,m,o⟩),?_⟩;simp only[iT,d];exact⟨by simp[eA.dn],y⟩
section aof
variable{f:ak}{H0 b6 H:ah}{gB args:List AV}{v0:AV}{K:AV->ah->Prop}{L:aY->Prop}
theorem IQ(h:c8 P f H0 gB b6 v0)(bs:List Nat)(e:bs.length=H0.length)(i:bs.Nodup)(g:∀b∈bs,b<H.length)(d:H0.length<=b6.length)(a:aZ (aN H0) gB)(j:dG H0 H0)(c:cU (sig bs H.length) gB=args):
 tD P f args H.length (dE bs H.length H0 b6 v0):=by
 have:=h.frame bs H.length e i g d a j.get
 rwa [c]at this
theorem cf(h:c8 P f H0 gB b6 v0)(bs:List Nat)(hk:K (cN (sig bs H.length) v0) (bt H (bs.zip ((b6.take H0.length).map (dB (sig bs H.length))))++(b6.drop H0.length).map (dB (sig bs H.length))))(aA:∀p∈bs.zip (H0.map (dB (sig bs H.length))),H[p.1]?=some p.2:=by simp[sig])(aO:∀p∈bs.zip ((b6.take H0.length).map (dB (sig bs H.length))),p.1<H.length/\p.2≠ .hole:=by simp[sig])
 (e:bs.length=H0.length:=by simp)(i:bs.Nodup:=by simp)(g:∀b∈bs,b<H.length:=by simp)(d:H0.length<=b6.length:=by simp)(a:aZ (aN H0) gB:=by simp)(hr:dG H0 H0:=by simp)(c:cU (sig bs H.length) gB=args:=by simp[sig]):lO P false f K args H:=
 .inr ⟨rfl,.inr (.inr (.inl ⟨_,IQ h bs e i g d a hr c,⟨aA,aO⟩,hk⟩))⟩
theorem ef(h:c8 P f H0 gB b6 v0)(bs:List Nat)(hk:L {v:=cN (sig bs H.length) v0,aA:=bs.zip (H0.map (dB (sig bs H.length))),aO:=bs.zip ((b6.take H0.length).map (dB (sig bs H.length))),ba:=(b6.drop H0.length).map (dB (sig bs H.length))})(aA:∀p∈bs.zip (H0.map (dB (sig bs H.length))),H[p.1]?=some p.2:=by simp[sig])(aO:∀p∈bs.zip ((b6.take H0.length).map (dB (sig bs H.length))),p.1<H.length/\p.2≠ .hole:=by simp[sig])
 (e:bs.length=H0.length:=by simp)(i:bs.Nodup:=by simp)(g:∀b∈bs,b<H.length:=by simp)(d:H0.length<=b6.length:=by simp)(a:aZ (aN H0) gB:=by simp)(j:dG H0 H0:=by simp)(c:cU (sig bs H.length) gB=args:=by simp[sig]):nv P f L args H:=
 .inr (.inr (.inl ⟨_,IQ h bs e i g d a j c,⟨aA,aO⟩,hk⟩))
end aof
section bytes
variable{env:Env}{heap:ah}{K:aY->Prop}{C:AV->List AV->Prop}
theorem aku{x:am}{a:Array av}{b aE al off len:Nat}{k:AK}{es:List AV}(hx:ev env x= .sl b aE al off len)(d:heap[b]?=some (.arr k aE al es))(c:0<len)(e:off+len<=es.length)
 (hk:K {v:=.cm b aE al off [],aA:=[(b,.arr k aE al es)]}):eg P an K C (.call {callee:=.builtin .unsafeSliceData,args:=#[x],argTypes:=a}) ⟨env,heap⟩ ():=by
 have h:gd P an ⟨none,.call {callee:= .builtin .unsafeSliceData,args:=#[x],argTypes:=a},0, "",#[],none⟩ (ev env) heap K:=by
  unfold gd;simp only[a5,b2,hx,d];exact⟨trivial,trivial,c,e,hk⟩
 exact h
theorem akF{x y:am}{a:Array av}{b aE:Nat}{m:Int}{es:List AV}{l:List Nat}(hx:ev env x= .cm b aE 1 0 [])(n:ev env y= .p (.int .i64 m))(g:heap[b]?=some (.arr .bytes aE 1 es))(c:0<m)(j:m.toNat<=es.length)(d:m<=9223372036854775807)
 (f:a.size=2)(e:P.underlying (a.getD 0 0)=some (.pointer Gl.u8))(k:P.cellsOf Gl.u8=1)(i:bytesOf (es.take m.toNat)=some l)
 (hk:K {v:=.p (.str l),aA:=[(b,.arr .bytes aE 1 es)],aO:=[(b,.dead)]}):eg P an K C (.call {callee:=.builtin .unsafeString,args:=#[x,y],argTypes:=a}) ⟨env,heap⟩ ():=by
 have h:gd P an ⟨none,.call {callee:= .builtin .unsafeString,args:=#[x,y],argTypes:=a},0, "",#[],none⟩ (ev env) heap K:=by
  unfold gd;simp only[a5,b2,hx,n,g];exact⟨trivial,trivial,trivial,trivial,c,j,d,f,e,k,by rw[i];exact hk⟩
 exact h
end bytes
theorem rf2{f:am}{h:Array Tmp}{a c:Code}{Q:bE->St->Prop}{env:Env}{heap:ah}{q:Cx}{g:ak}{m l:List PV}{b:List (List PV)}(aS:Stream P g m l b)(hf:ev env f= .p (.func g m l))(hq:q.2<=heap.length)
 (X F:eA->Nat->ah)(okB:Nat->Bool)(j:Code)(k:Nat)(hk:k<=b.length)(w:∀i,i<k->okB i=true)(t:k=b.length\/(k<b.length/\okB k=false))(o:∀L,X L 0=heap++[.loop L])
 (hx:∀L,L=⟨.ready,none,q.1,h.toList,a,c,env⟩->∀i,i<=k->(X L i)[heap.length]?=some (.loop L)/\iU (X L i) env/\(iU (X L i) env->(∀x,aH (aN (X L i)) (aP L.env x))->dG (X L i) (X L i)))
 (n:∀L,L=⟨.ready,none,q.1,h.toList,a,c,env⟩->∀i x,i<=k->b[i]?=some x->fQ P heap.length (X L i) (x.map .p) (if okB i=true then X L (i+1)else F L (i+1)) (.p (.bool (okB i))))
 (r:∀L,(F L (k+1))[heap.length]?=some (.loop (L.dn j)))
 (u:k=b.length->∀L,Q .normal ⟨env,(X L k).set heap.length (.loop L.xh)⟩)
 (y:k<b.length->∀L,kI Q (some j) ⟨env,(F L (k+1)).set heap.length (.loop (L.dn j).xh)⟩):
 fk P an q (.rangeFunc f h a c) Q ⟨env,heap⟩:=by
 refine rf aS hf hq X k hk o hx (fun L e i x hi v=>?_) (fun L e=>?_)
 ·have:=n L e i x o_ v;rw[w i hi]at this;exact this
 ·rcases t with d|⟨d,s⟩
  ·exact .inl ⟨d,u d L⟩
  ·right;refine⟨b[k],j,F L (k+1),a0 d,r L,?_,y d L⟩;have:=n L e k b[k] (b5 _) (a0 d);rw[s]at this;exact this
attribute [simp] Zb aED Nj EI W8 Zd aEt W9 ajF sW
end
section
variable{P:ao}{an:ak->Bool}{w:aT}{aa ag:Nat->Prop}{β:Bd}{H:ah}
def aM5(K:Nat->Bool)(H:ah):ah:=H.mapIdx fun i o=>if K i then .dead else o
def aIZ(K:Nat->Bool)(aa:Nat->Prop)(β:Bd)(H:ah)(k:Nat):Prop:=aa k\/∃(b:Nat)(o:Obj),H[b]?=some o/\o.live/\K b=true/\β.aw b=k
theorem fh.held{b:Nat}{o:Obj}(h:fh P w aa β H ag b o)(a:o.live):aa (β.aw b)\/¬ag (β.aw b):=by
 by_cases hi:aa (β.aw b)
 ·exact .inl hi
 ·exact .inr (h.mut a hi)
end
section
variable{P:ao}{w:aT}{aa ag:Nat->Prop}{β:Bd}
theorem uR{t a:AV}{r:ah}:cK β (.box false t::r) β (.box false a::r):=mq (H:=.box false t::r) (b:=0) (o':=.box false a) rfl
theorem qN{t d:AV}{r:ah}{x:Nat×Nat}(h:aN (.box false t::r) x):aN (.box false d::r) x:=by
 obtain⟨o,a,c⟩:=h;obtain⟨b,v⟩:=x;cases b with
 |zero=>exact⟨_,rfl,trivial⟩
 |succ b=>exact⟨o,a,c⟩
theorem cj.swap{t d:AV}{r:ah}(c:cj P w aa β (.box false t::r) ag)(hc:∀cs,bB P w aa β (.box false t::r) t cs->bB P w aa β (.box false t::r) d cs)(l:∀T,kn T (ad d)=true)
 (g:aH (aN (.box false t::r)) t->aH (aN (.box false t::r)) d):cj P w aa β (.box false d::r) ag:=by
 refine⟨fun b o a=>?_,fun b b' o o' a p f n hn m=>?_,fun b o a=>?_,c.b8,c.fg,c.ks⟩
 ·cases b with
  |zero=>
   simp at a;subst a;obtain⟨cs,T,i,j,k,u,v⟩:=c.du 0 _ rfl;have q:=c.refs 0 _ rfl;exact⟨cs,T,i,bB.mono (fun _ x=>x) (fun _ _=>rfl) uR _ _ (g q) (hc _ j),k,(fun h=>absurd h s_),l T⟩
  |succ b=>exact fh.carry (fun _ x=>x) (fun _ _=>rfl) uR (c.refs (b+1) o a) (fun _=>⟨rfl,rfl,rfl⟩) (fun _ _ h=>h) (c.du (b+1) o a)
 ·have key:∀{b:Nat}{o:Obj},(Obj.box false d::r)[b]?=some o->o.live->∃e,(Obj.box false t::r)[b]?=some e/\e.live:=by
   intro b o a f;cases b with
   |zero=>exact⟨_,rfl,trivial⟩
   |succ b=>exact⟨o,a,f⟩
  obtain⟨e,k1,k2⟩:=key a f;obtain⟨s,k3,k4⟩:=key p n;exact c.inj b b' e s k1 k3 k2 k4 hn m
 ·cases b with
  |zero=>
   simp at a;subst a;exact aH.mono (fun _ h=>qN h) _ (g (c.refs 0 _ rfl))
  |succ b=>exact Obj.pT (fun _ h=>qN h) (c.refs (b+1) o a)
theorem Nv{H:ah}{u:av}{n:Nat}(f:dw P u=some [n]){t:AV}{cs:List ay}:bB P w aa β H (.st u [t]) cs↔bB P w aa β H t cs/\cs.length=n:=by
 simp only[bB,f,cx];constructor
 ·rintro⟨l,g,rfl,a,rfl⟩;simp only[bV]at a;obtain⟨c,d,rfl,b,e,rfl⟩:=a;simpa using⟨b,e⟩
 ·rintro⟨a,b⟩;exact⟨[n],[cs],rfl,by simp only[bV];exact⟨cs,[],rfl,a,b,rfl⟩,s_⟩
theorem c8.wrap{f:ak}{u:av}{n:Nat}{t d:AV}{r k:ah}{args:List AV}{v:AV}(c:dw P u=some [n])(s:∀T,kn T (.agg u)=true)(y:∀T,kn T (ad t)=true)(hn:∀(w:aT)(aa:Nat->Prop)(β:Bd)(H:ah)(cs:List ay),bB P w aa β H d cs->cs.length=n)
 (h:c8 P f (.box false t::r) (.ptr 0 []::args) (.box false d::k) v):c8 P f (.box false (.st u [t])::r) (.ptr 0 [(u,0)]::args) (.box false (.st u [d])::k) v:=by
 refine⟨h.1,fun w aa ag β F A p i=>?_⟩;have B:cj P w aa β (.box false t::r) ag:=A.swap (fun cs h=>((Nv c).1 h).1) y (fun h=>by simpa[aH,aZ]using h);obtain⟨x,xs,rfl,h1,m⟩:=p;have q:bK P w aa β (.box false t::r) (.ptr 0 []::args) (x::xs):=by
  refine⟨x,xs,rfl,?_,bK.mono (fun _ x=>x) (fun _ _=>rfl) uR _ _ i.2 m⟩;obtain⟨q1,aw,off,o,D,E,q4⟩:=h1;refine⟨q1,aw,off,0,D,rfl,fun _=>?_⟩;have z:o=0:=by simpa[gT,c]using E.symm
  have:=q4 ⟨_,rfl,rfl⟩;rw[z]at this;exact this
 refine(h.2 w aa ag β (x::xs) B q ⟨⟨_,rfl,trivial⟩,aZ.mono (fun _ h=>qN h) _ i.2⟩).mono ?_;rintro e w' ⟨cv,aM,aG,rfl,a,C,j⟩;refine⟨cv,aM,aG,rfl,⟨a.b8,a.fresh,a.ext,?_,?_,fun x hx=>qN (a.ir x (qN hx)),?_⟩,aC.mono (fun _ x=>x) (fun _ _=>rfl) uR _ _ j C,aH.mono (fun _ h=>qN h) _ j⟩
 ·exact(uR.trans (fun x h=>qN h) a.step).trans (fun x h=>a.ir x (qN h)) uR
 ·exact a.rel.swap (fun cs h=>(Nv c).2 ⟨h,hn _ _ _ _ _ h⟩) s (fun h=>by simpa[aH,aZ]using h)
 ·rintro b ⟨L,g⟩;have k1:ja (.box false t::r) b:=by
   cases b with
   |zero=>simp at g
   |succ b=>exact⟨L,g⟩
  obtain⟨l,k2⟩:=a.loop b k1;cases b with
  |zero=>simp at k2
  |succ b=>exact⟨l,k2⟩
end
section
variable{P:ao}{w:aT}{aa ag:Nat->Prop}{β:Bd}
def vK(n:Nat):ah:=b1 n .dead
theorem uJ{n b:Nat}{o:Obj}(h:(vK n)[b]?=some o):o=.dead:=by
 simp only[vK,bb]at h
 split at h
 ·injection h with h;exact h.symm
 ·cases h
theorem c8.cut{f:ak}{H:ah}{args:List AV}{n:Nat}{p:PV}(h:c8 P f H args (vK n) (.p p)):c8 P f H args (vK H.length) (.p p):=by
 refine⟨h.1,fun w aa ag β i t q u=>(h.2 w aa ag β i t q u).mono ?_⟩;rintro e w' ⟨cv,aM,aG,rfl,a,v,y⟩;have no:∀{m b:Nat}{o:Obj},(vK m)[b]?=some o->o.live->False:=fun h d=>by rw[uJ h]at d;exact d
 refine⟨cv,aM,aG,rfl,⟨a.b8,a.fresh,a.ext,⟨?_,?_⟩,⟨fun b o c=>by rw[uJ c];trivial,fun b b' o o' c _ d=>(no c d).elim,fun b o c=>by rw[uJ c];trivial,a.rel.b8,a.rel.fg,a.rel.ks⟩,?_,?_⟩,v,trivial⟩
 ·rintro k b _ ⟨z,h,g⟩;rw[uJ h]at g;cases g
 ·intro b aE al k es _ h;cases uJ h
 ·rintro x ⟨o,j,_⟩;have s:=(a4.1 j).1;exact⟨.dead,by rw[vK,bb,if_pos s],trivial⟩
 ·intro b r;obtain⟨L,l⟩:=a.loop b r;cases uJ l
theorem c8.dL{f:ak}{H H':ah}{args:List AV}{v v':PV}(h:c8 P f H args H' (.p v))(j:Wk v v'):c8 P f H args H' (.p v'):=by
 refine⟨h.1,fun w aa ag β a g c i=>(h.2 w aa ag β a g c i).mono ?_⟩;rintro e w' ⟨cv,aM,aG,rfl,d,b,k⟩;exact⟨cv,aM,aG,rfl,d,aF.dL _ _ _ j b,trivial⟩
end
section
variable{P:ao}
def B0(P:ao)(a:List ax)(N:Nat)(Q:AV->ah->Prop)(e:Tg (a,N,Q) bE)(s:Tg (a,N,Q) St):Prop:=
 (match e with
  | .exit _=>False
  |_=>True)/\∃vs,gS P s a=some vs/\∃H',Q (oneOf vs) H'/\(H'=St.heap s\/(df N s ⟨[],H'⟩/\aH (aN H') (oneOf vs)))
theorem XS{a:List ax}{N:Nat}{Q:AV->ah->Prop}{s:St}:B0 P a N Q .ret s=∃vs,gS P s a=some vs/\∃H',Q (oneOf vs) H'/\(H'=s.heap\/(df N s ⟨[],H'⟩/\aH (aN H') (oneOf vs))):=by simp[B0]
theorem VV{a:List ax}{N:Nat}{Q:AV->ah->Prop}{s:St}:B0 P a N Q .normal s=∃vs,gS P s a=some vs/\∃H',Q (oneOf vs) H'/\(H'=s.heap\/(df N s ⟨[],H'⟩/\aH (aN H') (oneOf vs))):=by simp[B0]
attribute [simp] XS VV
end
section
variable{P:ao}
theorem aq.heap{f:ak}{vs i:List PV}{v:PV}{H H1:ah}{args:List AV}(h:aq P f vs v)(d:Enters P f)(n:nO H args=some (i,H1))(k:bY i vs:=by first|exact bY.refl _|simp):c8 P f H args H1 (.p v):=by
 refine⟨d,fun w aa ag β u t q o=>?_⟩;obtain⟨b,a,g⟩:=DY n t q o;rcases h.dL k (Wk.refl _)with l|m
 ·intro cs;obtain⟨e,w',j,⟨cv,aG,he,m1,m2,m3,m4,m5,m6,m7⟩,aS,r,s⟩:=l.2 w b _ a.rel.b8 a.rel.ks g cs;subst he;exact⟨_,w',j,⟨cv,β,aG,rfl,a.trans (a.rel.later m1 m2 m3 m4 m5 m6),by simpa[aC]using m7,by simp[aH]⟩,aS,r,s⟩
 ·obtain⟨cv,c,_⟩:=m w b _ g;rw[d]at c;cases c
end
section
variable{P:ao}{an:ak->Bool}
theorem CT(H:ah):(gw H).map (·.1)=bo H.length:=by
 rw[gw,List.map_fst_zip];simp
theorem Th{H a:ah}(e:a.length=H.length):bt H (gw a)=a:=by
 have hn:((gw a).map (·.1)).Nodup:=by rw[CT];exact a8
 refine bv fun i=>?_
 by_cases hi:i<a.length
 ·have c:(i,a[i])∈gw a:=by
   rw[gw,bi];exact⟨i,by simp;exact hi,by rw[bw];simp⟩
  rw[vA hn _ c (by simp only;omega),a0 hi]
 ·have b:(bt H (gw a))[i]?=H[i]?:=sQ fun p d=>by
   have:p.1∈(gw a).map (·.1):=List.mem_map_of_mem d
   rw[CT,List.mem_range]at this;omega
  rw[b,be o_,be o_]
end
section
variable{P:ao}{an:ak->Bool}
theorem fQ.amu{b:Nat}{H a:ah}{args:List AV}{v:AV}(h:fQ P b H args a v)(g:H.length<=a.length)(d:aZ (aN H) args)(j:dG H H):
 pY P b args H.length {v:=v,aA:=gw H,aO:=gw (a.take H.length),ba:=a.drop H.length}:=by
 have hf:=h.frame (bo H.length) H.length s_ a8 (fun b f=>by simpa using f) g d j.get;rw[BT]at hf;have e:dE (bo H.length) H.length H a v={v:=v,aA:=gw H,aO:=gw (a.take H.length),ba:=a.drop H.length}:=by
  have c:(a.take H.length).length=H.length:=by rw[a9];omega
  simp only[dE,BT,yo];rw[show(dB fun i=>i)=id from funext PR,bl,bl,bl,gw,gw,c]
 rw[e,qO]at hf;exact hf
open Classical in
noncomputable def tN(H H2:ah):List (Nat×Obj):=(gw (H2.take H.length)).filter fun p=>decide (H[p.1]?≠some p.2)
open Classical in
theorem zd{H H2:ah}{p:Nat×Obj}:p∈tN H H2↔p∈gw (H2.take H.length)/\H[p.1]?≠some p.2:=by
 simp[tN,List.mem_filter]
theorem Ho{H:ah}{i:Nat}{o:Obj}(h:H[i]?=some o):(i,o)∈gw H:=by
 have hi:=(a4.1 h).1;rw[gw,bi];refine⟨i,by simp;exact hi,?_⟩;rw[bw,List.getElem_range];rw[a0 hi]at h;injection h with h
 rw[h]
theorem G6(H:ah):((gw H).map (·.1)).Nodup:=by rw[CT];exact a8
theorem Te(H a:ah):((tN H a).map (·.1)).Nodup:=by
 refine List.Nodup.sublist ?_ (G6 (a.take H.length));exact List.Sublist.map _ List.filter_sublist
theorem G9{H a c:ah}(n:H.length<=a.length)(h:∀i,i<H.length->c[i]?=H[i]?):bt c (tN H a)=bt c (gw (a.take H.length)):=by
 refine bv fun i=>?_;have m:(a.take H.length).length=H.length:=by rw[a9];omega
 by_cases hi:i<H.length
 ·have j:i<c.length:=by
   have:=h i hi;rw[a0 hi]at this;exact(a4.1 this).1
  have f:(a.take H.length)[i]?=some a[i]:=by rw[a6,if_pos hi,a0 o_]
  have k:=Ho f;rw[vA (G6 _) _ k j]
  by_cases hc:H[i]?=some a[i]
  ·rw[sQ (fun p b=>?_),h i hi,hc];rw[zd]at b;intro e;have d:=vO b.1;rw[e,f]at d;injection d with d
   have g:=b.2;rw[e,<-d]at g;exact g hc
  ·have l:(i,a[i])∈tN H a:=by
    rw[zd];exact⟨k,hc⟩
   rw[vA (Te _ _) _ l j]
 ·rw[sQ (fun p b=>?_),sQ (fun p b=>?_)]
  ·have:=(a4.1 (vO b)).1;omega
  ·rw[zd]at b;have:=(a4.1 (vO b.1)).1;omega
theorem fQ.amt{b:Nat}{H a:ah}{args:List AV}{v:AV}(h:fQ P b H args a v)(f:H.length<=a.length)(n:aZ (aN H) args)(q:dG H H):
 pY P b args H.length {v:=v,aA:=gw H,aO:=tN H a,ba:=a.drop H.length}:=by
 have o:=h.amu f n q;intro c w aa ag β g j k l d m;have p:∀i,i<H.length->c[i]?=H[i]?:=fun i hi=>by
  rw[a0 hi];exact d _ (Ho (a0 hi))
 have e:bt c (tN H a++newAt H.length (a.drop H.length))=bt c (gw (a.take H.length)++newAt H.length (a.drop H.length)):=by
  rw[xd,xd,G9 f p]
 have:=o c w aa ag β g j k l d m;dsimp only at this⊢;rw[e];exact this
theorem yg{b:Nat}{H a:ah}{args:List PV}{as:List AV}{v:PV}{K:aY->Prop}(h:fQ P b H (args.map .p) a (.p v))(has:as=args.map .p)(k:H.length<=a.length)(o:dG H H)(n:∀i,i<H.length->a[i]?=some .hole->H[i]?=some .hole)
 (hk:∀e:aY,(∀dst env,aY.app e dst ⟨env,H⟩=⟨put dst (.p v) env,a⟩)->K e):yB P H K (.map b) as:=by
 subst has;have m:aZ (aN H) (args.map AV.p):=jM _ _;show∃e,pY P b (args.map .p) H.length e/\qc H e/\K e;have g:(a.take H.length).length=H.length:=by rw[a9];omega
 refine⟨_,h.amt k m o,⟨fun p c=>vO c,fun p c=>?_⟩,hk _ fun dst env=>?_⟩
 ·rw[zd]at c;have f:=vO c.1;have d:=(a4.1 f).1;rw[g]at d;refine⟨d,fun e=>?_⟩;rw[a6,if_pos d,e]at f;have l:=n _ d f;have j:=c.2;rw[e]at j;exact j l
 ·simp only[aY.app];rw[G9 k (fun _ _=>rfl),Th g,List.take_append_drop]
def HR(P:ao)(g:ak)(m l:List PV)(h:List (List PV))(d:Nat->ah):Prop:=
 ∀(b k:Nat)(c f:Nat->ah)(H':ah),k<=h.length->(∀i,i<=k->dG (c i) (c i)/\aH (aN (c i)) (.map b))->
  (∀i a,i<k->h[i]?=some a->fQ P b (c i++d i) (a.map .p) (f i) (.p (.bool true))/\(c i++d i).length<=(f i).length/\(∀j,j<(c i++d i).length->(f i)[j]?=some .hole->(c i++d i)[j]?=some .hole)/\
   (c (i+1)).take (c 0).length=(f i).take (c 0).length/\iG (c (i+1)) (f i) (c (i+1)))->
  (k=h.length/\H'=c k\/∃a e,h[k]?=some a/\fQ P b (c k++d k) (a.map .p) e (.p (.bool false))/\(c k++d k).length<=e.length/\(∀j,j<(c k++d k).length->e[j]?=some .hole->(c k++d k)[j]?=some .hole)/\
   H'.take (c 0).length=e.take (c 0).length/\iG H' e H'/\dG H' H')->
  c8 P g (c 0) (m.map .p++[.map b]++l.map .p) H' (.p (.aD []))
theorem rfd{f:am}{n:Array Tmp}{a c:Code}{Q:bE->St->Prop}{env:Env}{heap:ah}{q:Cx}{g:ak}{v u:List PV}{r:List (List PV)}{h:Nat->ah}(aS:HR P g v u r h)(hf:ev env f= .p (.func g v u))(hq:q.2<=heap.length)
 (X Y:eA->Nat->ah)(k:Nat)(hk:k<=r.length)(w:∀L,X L 0=heap++[.loop L])
 (hx:∀L,L=⟨.ready,none,q.1,n.toList,a,c,env⟩->∀i,i<=k->(X L i)[heap.length]?=some (.loop L)/\iU (X L i) env/\(iU (X L i) env->(∀x,aH (aN (X L i)) (aP L.env x))->dG (X L i) (X L i)))
 (z:∀L,L=⟨.ready,none,q.1,n.toList,a,c,env⟩->∀i x,i<k->r[i]?=some x->fQ P heap.length (X L i++h i) (x.map .p) (Y L i) (.p (.bool true))/\(X L i++h i).length<=(Y L i).length/\(∀j,j<(X L i++h i).length->(Y L i)[j]?=some .hole->(X L i++h i)[j]?=some .hole)/\
  (X L (i+1)).take (heap.length+1)=(Y L i).take (heap.length+1)/\iG (X L (i+1)) (Y L i) (X L (i+1)))
 (I:∀L,L=⟨.ready,none,q.1,n.toList,a,c,env⟩->(k=r.length/\Q .normal ⟨env,(X L k).set heap.length (.loop L.xh)⟩)\/
  ∃x j l b,r[k]?=some x/\b[heap.length]?=some (.loop (L.dn j))/\fQ P heap.length (X L k++h k) (x.map .p) l (.p (.bool false))/\(X L k++h k).length<=l.length/\(∀i,i<(X L k++h k).length->l[i]?=some .hole->(X L k++h k)[i]?=some .hole)/\
  b.take (heap.length+1)=l.take (heap.length+1)/\iG b l b/\dG b b/\kI Q (some j) ⟨env,b.set heap.length (.loop (L.dn j).xh)⟩):
 fk P an q (.rangeFunc f n a c) Q ⟨env,heap⟩:=by
 obtain⟨L,d⟩:∃L:eA,L=⟨.ready,none,q.1,n.toList,a,c,env⟩:=⟨_,rfl⟩
 have t:=aS heap.length k (X L) (Y L);refine⟨hq,?_⟩;show kg P (ev env f) heap.length (heap++[.loop ⟨.ready,none,q.1,n.toList,a,c,env⟩]) (iT heap.length env Q);rw[hf];simp only[kg];rw[<-d,<-w L];have A:(X L 0).length=heap.length+1:=by rw[w L];simp
 have y:∀i,i<=k->dG (X L i) (X L i)/\aH (aN (X L i)) (.map heap.length):=by
  intro i hi;obtain⟨o,m,s⟩:=hx L d i hi;have e5:L.env=env:=by rw[d]
  refine⟨s m (by rw[e5];exact m.get),?_⟩;simp only[aH,aN,o];exact⟨_,rfl,by simp[Obj.has]⟩
 rw[A]at t;rcases I L d with⟨o,m⟩|⟨x,j,l,b,o,m,s,B,C,D,E,F,G⟩
 ·refine⟨_,_,t (X L k) hk y (z L d) (.inl ⟨o,rfl⟩),?_⟩;have H:=(hx L d k (b5 k)).1;simp only[iT,H];refine⟨by rw[d];simp,?_⟩;have:L.pending=none:=by rw[d]
  simp only[this,kI];have e:L.xh={L with st:=.exhausted}:=rfl;rw[this]at e;rw[e]at m;exact m
 ·refine⟨_,_,t b hk y (z L d) (.inr ⟨x,l,o,s,B,C,D,E,F⟩),?_⟩;simp only[iT,m];exact⟨by simp[eA.dn],G⟩
theorem SO{H J:ah}{x:Nat×Nat}(h:aN H x):aN (H++J) x:=by
 obtain⟨o,a,b⟩:=h;exact⟨o,by rw[List.getElem?_append_left (a4.1 a).1];exact a,b⟩
theorem dG.up{S T:ah}(a:∀x,aN S x->aN T x):∀{h:ah},dG S h->dG T h
 |[],_=>trivial
 |_::_,h=>⟨Obj.pT a h.1,dG.up a h.2⟩
theorem dG.app{H J:ah}(h:dG H H)(a:dG (H++J) J):dG (H++J) (H++J):=by
 rw[EI];exact⟨h.up fun _=>SO,a⟩
theorem aHe{a:Array Oper}{b:List Touch}{i n:Nat}{e:aY}(h:jw a b=true)(c:b.all (fun u=>reach a a.size u.i i)=true):jw a (gW i n e b)=true:=by
 rw[gW]
 split
 ·exact h
 ·rw[jw,h,Bool.and_true,b0];intro u d;rw[b0]at c;rw[show(iC i n e).i=i from rfl,c u d,Bool.or_true]
theorem yk{b:Nat}{H c:ah}{args:List PV}{as:List AV}{v:PV}{a:Array Oper}{r:List Oper}{i:Nat}{d:List Touch}{K:St->Prop}{dst:Option Tmp}{env:Env}(h:fQ P b H (args.map .p) c (.p v))(has:as=args.map .p)(l:H.length<=c.length)(hr:dG H H)(hh:∀i,i<H.length->c[i]?=some .hole->H[i]?=some .hole)
 (g:jw a d=true)(j:d.all (fun u=>reach a a.size u.i i)=true)(hk:∀f,yp a f=true->qe P an a r (i+1) f K ⟨put dst (.p v) env,c⟩):yB P H (BJ P an a r i d K dst ⟨env,H⟩) (.map b) as:=by
 refine yg h has l hr hh fun e k=>?_;show qe P an a r (i+1) (gW i H.length e d) K (aY.app e dst ⟨env,H⟩);rw[k];exact hk _ (aHe g j)
end
end Go.az
