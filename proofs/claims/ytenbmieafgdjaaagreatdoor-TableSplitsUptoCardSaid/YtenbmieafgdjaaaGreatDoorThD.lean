import Derived.Test.YtenbmieafgdjaaaGreatDoorThC
/- Parts of a proof. -/
set_option linter.unusedSimpArgs false
set_option linter.unusedVariables false
set_option linter.unusedSectionVars false
open Array renaming getElem?_eq_some_iff->an, getElem?_eq_getElem->ao, replicate->ap, getD_eq_getD_getElem?->ar
open BitVec renaming ofInt->av
open Bool renaming cond_eq_ite->ax, and_eq_true->ay, false_eq_true->aT
open Go renaming TypeId->a0, Program->a1, Operand->a6, FuncId->a7, BinOp->a8, Value->bb, IntKind->be, World->bi, ResultVar->bk, mem_ready->bl, getD_set_ne->bo, Frame->bv
open Go.Region renaming ready->b0, schedule->b1, binds->b2
open Go.Region.linearise renaming go->b3
open Go.Utf8 renaming decode->b4
open Int renaming natCast_nonneg->b5, ofNat_eq_natCast->cb, toNat_natCast->cc
open List renaming getElem?_eq_getElem->ce, getElem?_eq_some_iff->ck, replicate->cx, range->cy, mem_cons->cA, mem_iff_getElem->cB, map_cons->cC, all_eq_true->cN, mem_of_getElem?->c6, isEmpty_cons->c9, of_mem_zip->da, nodup_cons->db, map_nil->dg, mem_append_right->dk, map_id->dl, mem_map_of_mem->dp, mem_range'_1->dq, countP_congr->dz, nodup_range->ea, getElem_mem->eb, countP_cons->ec, mem_append->ed, map_append->ee, mem_map->ei
open Nat renaming beq->ej, ble->em, ble_eq_true_of_le->en, zero_le->eo, le_refl->eq, strongRecOn->ew, beq_refl->e6
open Option renaming ite_none_right_eq_some->e7, getD_some->e8
open Option.some renaming injEq->e9
namespace Go.au
set_option linter.unusedSectionVars false
variable[Gl]
section
variable{P:a1}{ag:a7->Bool}{n:Nat}
variable{ops:Array Oper}{es:List (St×aW)}{s':St}
theorem cS.congr{ah aa:Nat->Prop}{β:Bd}{s u:St}{t:Array bb}{w:bi}(h:cS P n ah aa β s t w)(b:∀x,aN u.env x=aN s.env x)(a:u.heap=s.heap):cS P n ah aa β u t w:=by
 refine⟨by rw[a];exact h.heap,fun x=>?_,fun x=>?_,h.size⟩
 ·rw[b,a];exact h.env x
 ·rw[b,a];exact h.gH x
theorem cS.nr{ah aa:Nat->Prop}{β:Bd}{s:St}{t:Array bb}{w:bi}(m:Nat)(h:cS P n ah aa β s t w):cS P n ah aa β ⟨s.env,s.heap++cx m .hole⟩ t w:=
 ⟨h.heap.nr m,fun x=>aB.mono (fun _ x=>x) (fun _ _=>rfl) (pc β s.heap m) _ _ (h.gH x) (h.env x),fun x=>aE.mono (mM _ _) _ (h.gH x),h.size⟩
theorem XV{o:Oper}{e e':Env}(h:∀x∈looks ops o,aN e' x=aN e x):∀x∈o.op.operands,ev e' x=ev e x:=by
 intro x hx;cases x with
 |tmp t=>
  simp only[ev];refine h t ?_;simp only[looks,ed,List.mem_filterMap];exact .inl ⟨.tmp t,by simpa using hx,rfl⟩
 |_=>rfl
theorem jd.run(h:jd P n ops es s'){D:Nat->Prop}(hc:xb ops D){i:Nat}{o:Oper}(a:ops[i]?=some o)(x:¬D i)(z:∀e∈o.after,b2 .any e=true->D e.on){s:St}(m:At ops es s' D s)
 {fr:bv}{k:List Item}{cs:List bv}{r:List Nat}{ds:List Deferred}{ah aa:Nat->Prop}{β:Bd}{t:Array bb}{w:bi}(b:cS P n ah aa β s t w):
 ∃u aF aJ d w',Steps P (lone (bD fr t ds (.inRegion ops (i::r)::k)) cs w) (lone (bD fr d ds (.inRegion ops r::k)) cs w')/\cS P n ah aF aJ u d w'/\(∀N,dS N ah aa w β s.heap ah aF w' aJ u.heap)/\At ops es s' (fun j=>D j\/j=i) u:=by
 obtain⟨g,A⟩:=h.reads hc a x z m;have hi:i<ops.size:=(an.1 a).1;obtain⟨v,_⟩:=h.at_ i o a;have c:=h.next hc a x z m;have q:jc n o=true:=h.dst o (by rw[Array.mem_toList_iff];exact Array.mem_of_getElem? a);have H:=h.xD (k:=i) (by omega);rcases v.act with⟨f,C⟩|⟨f,E⟩
 ·obtain⟨aF,aJ,d,w',B,a2,a3⟩:=C fr k cs ops i r ds ah aa β s t w a (f t s ah aa β w b g) q b (XV g) (by
   intro p y;rw[A p.1 (.inl (dp y))];have:=v.ak p y;unfold hx;rw[List.getElem?_append_left (ck.1 this).1];exact this) (by
   intro j G;have F:(dh es s' i).heap.length+j∈wr es s' i:=by
    unfold wr uZ;rw[ee,tF];exact dk _ (Je.2 ⟨by omega,by omega⟩)
   rw[A _ (.inr F)];have l:=h.xD (k:=i+1) (by omega);rw[(h.at_ i o a).2]at l;simp only[aW.app,List.length_append,o8]at l;unfold hx;rw[ka,if_neg (by omega),if_pos (by omega)])
  exact⟨_,aF,aJ,d,w',B,a2,a3,c⟩
 ·rw[E]at c;simp only[newAt,List.append_nil,bd]at c;exact⟨_,aa,β,_,w,.one (KE a (f t s ah aa β w b g)),b.put q (bY.refl b.heap) (by simp[aB,aD,bt,undef]) (by simp[aE]),fun _=>dS.refl _ _ _ _ _ _,c⟩
def isDone(a:Array Bool)(i:Nat):Prop:=a.getD i false=true
theorem JQ{p:Nat->Bool}{i:Nat}:∀{l:List Nat},l.Nodup->i∈l->p i=true->l.countP p=l.countP (fun x=>p x&&x !=i)+1
 |[],_,h,_=>by simp at h
 |a::l,c,h,d=>by
  rw[db]at c
  by_cases b:a=i
  ·subst b;have e:l.countP (fun x=>p x&&x !=a)=l.countP p:=by
    refine dz fun x hx=>?_;have:x≠a:=fun e=>c.1 (e▸hx);simp[this]
   simp[d,e]
  ·have f:i∈l:=by
    rcases cA.1 h with h|h
    ·exact(b h.symm).elim
    ·exact h
   have g:=JQ c.2 f d;rw[ec,ec,g];have:(a !=i)=true:=by simpa using b
   simp only[this,Bool.and_true];omega
def left(b:Array Oper)(a:Array Bool):Nat:=(cy b.size).countP fun i=>!a.getD i true
theorem jd.goes(h:jd P n ops es s'){fr:bv}{k:List Item}{cs:List bv}{ds:List Deferred}{ah:Nat->Prop}:∀(c b:Nat)(a:Array Bool)(s:St)(aa:Nat->Prop)(β:Bd)(t:Array bb)(w:bi),a.size=ops.size->left ops a<=c->xb ops (isDone a)->
 At ops es s' (isDone a) s->cS P n ah aa β s t w->
 ∃u D aF aJ R w',Steps P (lone (bD fr t ds (.inRegion ops (b3 .any ops c b a [])::k)) cs w) (lone (bD fr R ds (.inRegion ops []::k)) cs w')/\cS P n ah aF aJ u R w'/\(∀N,dS N ah aa w β s.heap ah aF w' aJ u.heap)/\At ops es s' D u/\∀j,j<ops.size->D j:=by
 have L:∀(a:Array Bool),a.size=ops.size->b0 .any ops a=[]->∀j,j<ops.size->isDone a j:=by
  intro a q f j
  induction j using ew with
  |_ j K=>
   intro d
   by_cases A:isDone a j
   ·exact A
   ·exfalso;have G:j<a.size:=by omega
    have:j∈b0 .any ops a:=by
     rw[bl];refine⟨?_,ops[j],ao d,fun e B z=>?_⟩
     ·unfold isDone at A;simp only[ar,ao G,e8]at A⊢;simpa using A
     ·have H:=h.lower j _ (ao d) e B z;exact K e.on H (by omega)
    rw[f]at this;simp at this
 intro c
 induction c with
 |zero=>
  intro b a s aa β t w q O hc y C;have f:b0 .any ops a=[]:=by
   rw[List.eq_nil_iff_forall_not_mem];intro j d;rw[bl]at d;obtain⟨g,o,m,_⟩:=d;have G:j<ops.size:=(an.1 m).1;have:0<left ops a:=by
    unfold left;rw[List.countP_pos_iff];exact⟨j,by simpa using G,by rw[g];rfl⟩
   omega
  exact⟨s,isDone a,aa,β,t,w,by simp only[b3,List.reverse_nil];exact Steps.refl _ _,C,fun _=>dS.refl _ _ _ _ _ _,y,L a q f⟩
 |succ c K=>
  intro b a s aa β t w q O hc y C;have ac:b3 .any ops (c+1) b a []=(match(b0 .any ops a)[b% (b0 .any ops a).length]? with
   |some i=>b3 .any ops c (b/(b0 .any ops a).length) (a.setIfInBounds i true) [i]
   |none=>[].reverse):=rfl
  rw[ac];cases hi:(b0 .any ops a)[b% (b0 .any ops a).length]? with
  |none=>
   have f:b0 .any ops a=[]:=by
    cases f:b0 .any ops a with
    |nil=>rfl
    |cons x xs=>
     rw[f]at hi;have H:b% (x::xs).length<(x::xs).length:=Nat.mod_lt _ (by simp);rw[ce H]at hi;cases hi
   exact⟨s,isDone a,aa,β,t,w,Steps.refl _ _,C,fun _=>dS.refl _ _ _ _ _ _,y,L a q f⟩
  |some i=>
   simp only;rw[linearise_go_acc,List.reverse_singleton,List.singleton_append];have af:=c6 hi;obtain⟨g,o,m,Q⟩:=bl.1 af;have ad:i<ops.size:=(an.1 m).1;have E:i<a.size:=by omega
   have ag:¬isDone a i:=by
    unfold isDone;simp only[ar,ao E,e8]at g⊢;simp[g]
   obtain⟨u,S,ak,t1,ai,U,a2,a3,a4⟩:=h.run (fr:=fr) (k:=k) (cs:=cs) (ds:=ds) (r:=b3 .any ops c (b/(b0 .any ops a).length) (a.setIfInBounds i true) []) hc m ag Q y C;have M:(fun j=>isDone a j\/j=i)=isDone (a.setIfInBounds i true):=by
    funext j
    unfold isDone
    by_cases F:j=i
    ·subst F;simp[E]
    ·have:(a.setIfInBounds i true).getD j false=a.getD j false:=bo false (Ne.symm F);rw[this];simp[F]
   rw[M]at a4;have ab:xb ops (isDone (a.setIfInBounds i true)):=by
    rw[<-M];intro j o' I d e B z;rcases d with d|rfl
    ·exact .inl (hc j o' I d e B z)
    ·rw[m]at I;cases I;exact .inl (Q e B z)
   have ae:left ops (a.setIfInBounds i true)<=c:=by
    have am:=JQ (p:=fun j=>!a.getD j true) (i:=i) (l:=cy ops.size) ea (by simpa using ad) (by show(!a.getD i true)=true;rw[g];rfl);have:left ops (a.setIfInBounds i true)=(cy ops.size).countP (fun x=>!a.getD x true&&x !=i):=by
     unfold left;refine dz fun x hx=>?_
     by_cases J:x=i
     ·subst J;simp[E]
     ·have:(a.setIfInBounds i true).getD x true=a.getD x true:=bo true (Ne.symm J);rw[this];simp[J]
    unfold left at O;omega
   obtain⟨v,D,T,al,t2,aj,V,W,X,Y,Z⟩:=K (b/(b0 .any ops a).length) (a.setIfInBounds i true) u S ak t1 ai (by simpa using q) ae ab a4 a2;exact⟨v,D,T,al,t2,aj,U.trans V,W,fun N=>(a3 N).trans (X N),Y,Z⟩
theorem XT(h:fit n ops=true):(∀j o,ops[j]?=some o->∀e∈o.after,b2 .any e=true->e.on<j)/\
 (∀i j u o,i<j->ops[i]?=some u->ops[j]?=some o->qR ops u o=true->reach ops ops.size i j=true):=by
 unfold fit at h;rw[cN]at h;constructor
 ·intro j o a e f c;have b:j<ops.size:=(an.1 a).1;have:=h j (by simpa using b);rw[a]at this;simp only[ay,cN]at this;have:=this.1 e (by simpa using f);simpa[c]using this
 ·intro i j u o g k a d;have b:j<ops.size:=(an.1 a).1;have:=h j (by simpa using b);rw[a]at this;simp only[ay,cN]at this;have:=this.2 i (by simpa using g);rw[k]at this;simpa[d]using this
theorem yG(C:lW P ag)(Z:P.follows .mixedOrders=true):tI P ag fit:=by
 intro n N a fr k cs F f K s ah aa β t w T B h ab;obtain⟨es,s',I,J,M⟩:=LB C B a.toList 0 [] s (fun _ h=>h) h;obtain⟨t1,t2,t3⟩:=I.at;obtain⟨_,_,O⟩:=J4 es 0 [] M;obtain⟨f1,f2⟩:=XT (n:=n) T;have X:es.length=a.size:=by simpa using t1
 have hs:jd P n a es s':=by
  refine⟨X,fun k o c=>t3 k o (by simpa using c),B,f1,f2,fun i j U ai v=>?_⟩;have hi:i<es.length:=by omega
  have A:j<es.length:=by omega
  have G:es[i]?=some (es[i].1,es[i].2):=by simp[ce hi]
  have H:es[j]?=some (es[j].1,es[j].2):=by simp[ce A]
  have:=O i j es[i].1 es[i].2 es[j].1 es[j].2 U G H;simp only[Nat.zero_add]at this;refine this ?_;have g:dh es s' i=es[i].1/\fI es i=es[i].2:=by simp[dh,fI,ce hi]
  have q:dh es s' j=es[j].1/\fI es j=es[j].2:=by simp[dh,fI,ce A]
  rw[g.1,g.2,q.1,q.2]at v;exact v
 have V:=hs.xD (k:=0) (eo _);rw[t2]at V;obtain⟨m,Y⟩:∃m,m=s'.heap.length-s.heap.length:=⟨_,rfl⟩
 have ac:=ab.nr m;have Q:∀N,dS N ah aa w β s.heap ah aa w β (s.heap++cx m .hole):=fun N=>⟨fun _ x=>x,fun _ x=>x,fun _ x=>.inl x,Ext.refl _ _ _,(pc _ _ _).n,fun x _=>mM _ _ x,fun b _⟨L,r⟩=>⟨L,by rw[ka,if_pos (ck.1 r).1];exact r⟩⟩
 have ad:b1 (P.follows .mixedOrders) a f=b3 .any a a.size f (ap a.size false) []:=by
  simp[b1,Z,Region.linearise]
 have e:∀i,¬isDone (ap a.size false) i:=by
  intro i hi;unfold isDone at hi
  by_cases z:i<a.size
  ·simp[z]at hi
  ·simp[z]at hi
 have R:At a es s' (isDone (ap a.size false)) ⟨s.env,s.heap++cx m .hole⟩:=by
  refine⟨fun x=>⟨0,eo _,by rw[t2],fun i o _ _=>⟨fun h=>(e i h).elim,fun h=>by omega⟩⟩,by simp;omega,fun b=>⟨0,eo _,by rw[t2];unfold hx;rw[<-Y],fun i _ _=>⟨fun h=>(e i h).elim,fun h=>by omega⟩⟩⟩
 have W:left a (ap a.size false)<=a.size:=by
  unfold left;have:=List.countP_le_length (p:=fun i=>!(ap a.size false).getD i true) (l:=cy a.size);simpa using this
 obtain⟨u,D,aF,aJ,af,w',E,a2,a3,a4,a5⟩:=hs.goes (fr:=fr) (k:=k) (cs:=cs) (ds:=F) a.size f (ap a.size false) _ aa β t w (by simp) W (fun j o c d=>(e j d).elim) R ac;rw[ad];have S:∀x,aN s'.env x=aN u.env x:=by
  intro x;obtain⟨k,k1,k2,k3⟩:=a4.tmp x;rw[k2];have:=hs.MU (x:=x) k1 (eq a.size) (fun i o c d=>by
   have hi:i<a.size:=(an.1 c).1;have:=(k3 i o c d).1 (a5 i hi);exact⟨fun _=>hi,fun _=>this⟩)
  rw[hs.last]at this;exact this
 have y:s'.heap=u.heap:=by
  apply List.ext_getElem?;intro b;obtain⟨k,k1,k2,k3⟩:=a4.heap b;rw[k2];have:=hs.MD (b:=b) k1 (eq a.size) (fun i hi ae=>by
   have:=(k3 i hi ae).1 (a5 i hi);exact⟨fun _=>hi,fun _=>this⟩)
  rw[hs.last]at this;rw[<-this];simp[hx]
 exact⟨s',aF,aJ,af,w',J,E,a2.congr S y,(Q N).trans (y▸a3 N)⟩
end
section
variable{P:a1}
structure aw(P:a1)(f:a7)(fn:Func):Prop where
 func:P.funcs[f]?=some fn
 stat:(fn.body.isSome&&(fn.name != "runtime.NumGoroutine")&&codeOk fit fn.ntmps (fn.body.getD .skip))=true
theorem aw.enters{f:a7}{fn:Func}(h:aw P f fn):Enters P f:=by
 intro args w;have hs:=h.stat;simp only[ay,bne_iff_ne]at hs;cases a:fn.body with
 |none=>rw[a]at hs;simp at hs
 |some c=>simp[callFunc,h.func,hs.1.2,a]
def Ends(P:a1)(a:List bk)(v:PV)(e:bC)(s:St):Prop:=
 (match e with
  | .exit _=>False
  |_=>True)/\∃vs,fK P s a=some vs/\et s.heap 9 (oneOf vs)=some v
theorem uN{f:a7}{fn:Func}(ag:a7->Bool)(h:aw P f fn)(b:P.follows .mixedOrders=true){args:List PV}{v:PV}(c:args.length<=fn.ntmps)
 (d:cg P ag (fn.ntmps,0) (fn.body.getD .skip) (Ends P fn.results.toList v) ⟨iQ 0 (args.map .p),[]⟩):aC P f args v:=by
 have hs:=h.stat;simp only[ay,bne_iff_ne]at hs;have a:fn.body=some (fn.body.getD .skip):=by
  have:=hs.1.1;cases e:fn.body<;>simp_all
 exact .inl (LZ (o9 ag) (yG (o9 ag) b) h.enters h.func a hs.2 c d)
class aKM(P:a1)(f:a7)(args:List PV)(pre:outParam Prop)(v:outParam PV):Prop where
 uN:pre->aC P f args v
section calls
variable{f:a7}{H:Heap}{pre:Prop}{v:PV}
end calls
def rY(e:Env):Env->Prop
 |[]=>True
 |(x,v)::r=>aN e x=v/\rY e r
def ku:Heap->Heap->Prop
 |_,[]=>True
 |[],.hole::t=>ku [] t
 |_::h,.hole::t=>ku h t
 |o::h,o'::t=>o=o'/\ku h t
 |[],_::_=>False
theorem rY.get{e:Env}:∀{t:Env},rY e t->∀x,aN t x=aN e x\/aN t x=.p .undef
 |[],_,x=>.inr rfl
 |(y,v)::t,h,x=>by
  simp only[rY]at h;simp only[aN]
  split
  ·rename_i hx;subst hx;exact .inl h.1.symm
  ·exact rY.get h.2 x
theorem ku.get:∀{h t:Heap},ku h t->∀(b:Nat)(o:Obj),t[b]?=some o->o=.hole\/h[b]?=some o
 |_,[],_,b,o,a=>by simp at a
 |[],o'::t,hk,b,o,a=>by
  cases o'<;>simp only[ku]at hk;cases b with
  |zero=>simp at a;exact .inl a.symm
  |succ b=>exact(ku.get hk b o (by simpa using a)).imp id (fun h=>by simp at h)
 |c::h,o'::t,hk,b,o,a=>by
  cases b with
  |zero=>
   simp at a;cases o'<;>simp only[ku]at hk
   case hole=>exact .inl a.symm
   all_goals exact .inr (by rw[<-a,<-hk.1];simp)
  |succ b=>
   have:ku h t:=by cases o'<;>simp only[ku]at hk<;>first|exact hk|exact hk.2
   exact(ku.get this b o (by simpa using a)).imp id (fun h=>by simpa using h)
def iS(H:Heap):Env->Prop
 |[]=>True
 |(_,v)::r=>aE (aI H) v/\iS H r
def eL(H:Heap):Heap->Prop
 |[]=>True
 |o::r=>o.refs (aI H)/\eL H r
theorem iS.get{H:Heap}:∀{e:Env},iS H e->∀x,aE (aI H) (aN e x)
 |[],_,x=>by simp[aN,aE]
 |(y,v)::e,h,x=>by
  simp only[iS]at h;simp only[aN]
  split
  ·exact h.1
  ·exact iS.get h.2 x
theorem eL.get{H:Heap}:∀{h:Heap},eL H h->∀(b:Nat)(o:Obj),h[b]?=some o->o.refs (aI H)
 |[],_,b,o,a=>by simp at a
 |c::h,hr,b,o,a=>by
  simp only[eL]at hr;cases b with
  |zero=>simp at a;subst a;exact hr.1
  |succ b=>exact eL.get hr.2 b o (by simpa using a)
theorem pV.of{s t:St}(a:rY s.env t.env)(c:ku s.heap t.heap)(e:iS t.heap t.env)(f:eL t.heap t.heap):pV s t:=
 ⟨fun x=>(a.get x).imp id .inl,fun b o d=>(c.get b o d).imp id .inl,e.get,f.get⟩
theorem dt.of{N:Nat}{s t:St}(e:t.heap.take N=s.heap.take N)(c:rY s.env t.env)(d:ku s.heap t.heap)(f:iS t.heap t.env)(g:eL t.heap t.heap):dt N s t:=by
 refine .inr ⟨pV.of c d f g,fun b a=>?_⟩;have:=congrArg (fun l:Heap=>l[b]?) e;simpa[List.getElem?_take,a]using this
theorem Qj{f:a7}{fn:Func}(ag:a7->Bool)(h:aw P f fn)(b:P.follows .mixedOrders=true){args:List AV}{H H':Heap}{v:AV}(c:args.length<=fn.ntmps)
 (d:cg P ag (fn.ntmps,H.length) (fn.body.getD .skip) (uE P fn.results.toList H.length H' v) ⟨iQ 0 args,H⟩):cw P f H args H' v:=by
 have hs:=h.stat;simp only[ay,bne_iff_ne]at hs;have a:fn.body=some (fn.body.getD .skip):=by
  have:=hs.1.1;cases e:fn.body<;>simp_all
 exact XS (o9 ag) (yG (o9 ag) b) h.enters h.func a hs.2 c d
theorem Qk(ag:a7->Bool)(f:P.follows .mixedOrders=true){b:Nat}{L:fh}{H H':Heap}{args:List AV}{v:AV}(d:H[b]?=some (.loop L))(e:args.length=L.params.length)
 (a:(L.params.all (fun x=>decide (x<L.n))&&codeOk fit L.n L.assign&&codeOk fit L.n L.body)=true)(g:zn P ag L b args H (fun c h=>h=v/\dt H.length ⟨[],c⟩ ⟨[],H'⟩)):iD P b H args H' v:=by
 simp only[ay,cN,decide_eq_true_eq]at a;exact XQ (o9 ag) (yG (o9 ag) f) d e a.1.1 a.1.2 a.2 g
theorem again{N:Nat}{α:Type}{mk:α->St}{ok:α->Prop}{m:α->Nat}{n:Nat}{s':St}(a':α)(c:m a'<n)(d:ok a')(e:dt N s' (mk a')):∃a b,a<n/\dt N s' b/\∃a',ok a'/\b=mk a'/\a=m a':=
 ⟨m a',mk a',c,e,a',d,rfl,rfl⟩
end
section
variable{P:a1}{ag:a7->Bool}
def aQ{α:Type}(F:(α->Prop)->Prop):Prop:=∀K,F K->∃a,K a/\∀b:α->Prop,b a->F b
theorem aQ.one{α β:Type}(f:β->α)(b:β):aQ (fun K:α->Prop=>K (f b)):=fun _ h=>⟨f b,h,fun _ h=>h⟩
theorem aQ.false{α:Type}:aQ (fun _:α->Prop=>False):=fun _ h=>h.elim
theorem aQ.and{α:Type}{p:Prop}{F:(α->Prop)->Prop}(h:aQ F):aQ (fun K=>p/\F K):=fun K hk=>by
 obtain⟨a,c,d⟩:=h K hk.2;exact⟨a,c,fun b h=>⟨hk.1,d b h⟩⟩
theorem aQ.ex{α:Type}{β:Sort _}{F:β->(α->Prop)->Prop}(h:∀b,aQ (F b)):aQ (fun K=>∃b,F b K):=fun K⟨b,f⟩=>by
 obtain⟨a,d,e⟩:=h b K f;exact⟨a,d,fun c h=>⟨b,e c h⟩⟩
theorem aQ.or{α:Type}{F G:(α->Prop)->Prop}(h:aQ F)(e:aQ G):aQ (fun K=>F K\/G K):=fun K hk=>by
 rcases hk with hk|hk
 ·obtain⟨a,c,d⟩:=h K hk;exact⟨a,c,fun b h=>.inl (d b h)⟩
 ·obtain⟨a,c,d⟩:=e K hk;exact⟨a,c,fun b h=>.inr (d b h)⟩
theorem aQ.ite{α:Type}{p:Prop}[Decidable p]{F G:(α->Prop)->Prop}(h:aQ F)(f:aQ G):aQ (fun K=>if p then F K else G K):=fun K hk=>by
 split at hk
 ·rename_i e;obtain⟨a,c,d⟩:=h K hk;exact⟨a,c,fun b h=>by simpa[e]using d b h⟩
 ·rename_i e;obtain⟨a,c,d⟩:=f K hk;exact⟨a,c,fun b h=>by simpa[e]using d b h⟩
theorem aQ.bind{α β:Type}{F:(α->Prop)->Prop}{G:α->(β->Prop)->Prop}(h:aQ F)(d:∀a,aQ (G a)):aQ (fun K=>F (fun a=>G a K)):=fun K hk=>by
 obtain⟨a,e,f⟩:=h _ hk;obtain⟨b,g,i⟩:=d a K e;exact⟨b,g,fun c h=>f _ (i c h)⟩
theorem aQ.map{α β:Type}{F:(α->Prop)->Prop}(h:aQ F)(f:α->β):aQ (fun K=>F (fun a=>K (f a))):=h.bind fun a=>aQ.one f a
theorem Wt(T:a0)(H:Heap)(a:AV):aQ (od P T H a):=by
 unfold od
 repeat' first
  |exact aQ.false
  |exact aQ.one id _
  |refine aQ.and ?_
  |refine aQ.ex fun _=>?_
  |split
theorem V7(T:a0)(H:Heap)(a x:AV):aQ (nW P T H a x):=by
 unfold nW
 repeat' first
  |exact aQ.false
  |exact aQ.one id _
  |refine aQ.and ?_
  |refine aQ.ex fun _=>?_
  |split
theorem T0(T:a0)(a:AV)(f:Nat):aQ (nN P T a f):=by
 unfold nN
 repeat' first
  |exact aQ.false
  |exact aQ.one id _
  |refine aQ.and ?_
  |refine aQ.ex fun _=>?_
  |split
theorem TZ(T:a0)(H:Heap)(a i:AV):aQ (nM P T H a i):=by
 unfold nM
 repeat' first
  |exact aQ.false
  |exact aQ.one id _
  |refine aQ.and ?_
  |refine aQ.ex fun _=>?_
  |split
theorem UJ(T X:a0)(H:Heap)(s x:AV):aQ (nQ P T X H s x):=by
 unfold nQ
 repeat' first
  |exact aQ.false
  |exact aQ.one id _
  |refine aQ.and ?_
  |refine aQ.ex fun _=>?_
  |refine aQ.ite ?_ ?_
  |split
theorem LG{α:Type}{F:Nat->(α->Prop)->Prop}(x:Option AV)(d:Nat)(h:∀n,aQ (F n)):aQ (fun K=>gG x d (fun n=>F n K)):=by
 unfold gG
 split
 ·exact h _
 ·exact aQ.and (h _)
 ·exact aQ.false
theorem V8(T:a0)(H:Heap)(x:AV)(lo hi a:Option AV):aQ (nX P T H x lo hi a):=by
 unfold nX;refine aQ.and ?_
 repeat' first
  |exact aQ.false
  |exact aQ.one id _
  |refine aQ.and ?_
  |refine LG _ _ fun _=>?_
  |refine aQ.ite ?_ ?_
  |split
theorem UI(T:a0)(H:Heap)(x:AV)(lo hi:Option AV)(m:AV):aQ (qS P T H x lo hi m):=by
 unfold qS
 repeat' first
  |exact aQ.false
  |exact aQ.one id _
  |refine aQ.and ?_
  |refine LG _ _ fun _=>?_
  |split
theorem Xp(op:a8)(T:a0)(c:Bool)(H:Heap)(x y:AV)(f:PV->aW):aQ (fun K:aW->Prop=>kt P op T c H x y (fun v=>K (f v))):=by
 unfold kt
 repeat' first
  |exact aQ.false
  |exact aQ.one f _
  |refine aQ.and ?_
  |(unfold pZ;split)
  |(unfold pY;split)
  |split
theorem Ti(a:a0)(b:Nat)(key:PV)(x:AV)(c:Obj):aQ (oZ P a b key x c):=by
 unfold oZ
 repeat' first
  |exact aQ.false
  |exact aQ.one id _
  |refine aQ.and ?_
  |split
theorem Dg(o:Oper)(ρ:a6->AV)(H:Heap):aQ (fG P ag o ρ H):=by
 unfold fG
 repeat' first
  |exact aQ.false
  |exact aQ.one id _
  |exact Wt _ _ _
  |exact V7 _ _ _ _
  |exact T0 _ _ _
  |exact TZ _ _ _ _
  |exact V8 _ _ _ _ _ _
  |exact UI _ _ _ _ _ _
  |exact UJ _ _ _ _ _
  |exact Ti _ _ _ _ _
  |exact Xp _ _ _ _ _ _ _
  |refine aQ.and ?_
  |refine aQ.ex fun _=>?_
  |refine aQ.ite ?_ ?_
  |refine aQ.or ?_ ?_
  |split
  |dsimp only
theorem KJ(d:Bool)(f:a7)(args:List AV)(H:Heap){α:Type}(g:AV->Heap->α):aQ (fun K:α->Prop=>gS P d f args H (fun v H'=>K (g v H'))):=by
 unfold gS;refine aQ.or (aQ.ex fun vs=>aQ.ex fun v=>aQ.and (aQ.and ?_)) (aQ.and (aQ.or (aQ.ex fun vs=>aQ.ex fun H1=>aQ.ex fun v=>aQ.and (aQ.and ?_)) (aQ.or (aQ.ex fun H'=>aQ.ex fun v=>aQ.and ?_) (aQ.or (aQ.ex fun e=>aQ.and (aQ.and ?_)) (aQ.ex fun ak=>aQ.ex fun v=>aQ.and (aQ.and ?_))))))
 ·exact aQ.one (fun v=>g (.p v) H) v
 ·exact aQ.one (fun v=>g (.p v) H1) v
 ·exact aQ.one (fun v=>g v H') v
 ·exact aQ.one (fun _:Unit=>g e.v (bd H e.aK++e.aV)) ()
 ·exact aQ.one (fun v=>g (.p v) H) v
theorem J6(f:a7)(args:List AV)(H:Heap):aQ (gZ P f args H):=by
 unfold gZ;refine aQ.or (aQ.ex fun vs=>aQ.ex fun v=>aQ.and (aQ.and (aQ.one id _))) (aQ.or (aQ.ex fun vs=>aQ.ex fun bs=>aQ.ex fun ak=>aQ.ex fun aK=>aQ.ex fun v=>aQ.and (aQ.and (aQ.and (aQ.one id _)))) (aQ.or (aQ.ex fun e=>aQ.and (aQ.and (aQ.one id _))) (aQ.ex fun ak=>aQ.ex fun v=>aQ.and (aQ.and (aQ.one id _)))))
theorem KH(d:Bool)(o:Oper)(s:St):aQ (fun K=>jG P ag d o K s):=by
 unfold jG
 split
 ·split
  ·exact KJ _ _ _ _ (fun v H'=>(⟨put o.dst v s.env,H'⟩:St))
  ·exact KJ _ _ _ _ (fun v H'=>(⟨put o.dst v s.env,H'⟩:St))
  ·exact aQ.ex fun H'=>aQ.ex fun v=>aQ.and (aQ.one (fun _:Unit=>(⟨put o.dst v s.env,H'⟩:St)) ())
  ·exact aQ.false
 ·exact(Dg o _ _).map (fun e=>e.app o.dst s)
theorem KI(o:Oper)(s:St):aQ (jq P ag o s):=by
 unfold jq
 split
 ·split
  ·exact J6 _ _ _
  ·exact J6 _ _ _
  ·exact aQ.ex fun e=>aQ.and (aQ.and (aQ.one id _))
  ·exact aQ.false
 ·exact Dg o _ _
theorem y9(d:Bool)(a:Array Oper):∀(l:List Oper)(s:St),aQ (fun K=>gU P ag d a l K s)
 |[],s=>by simp only[gU];exact aQ.one id s
 |o::l,s=>by
  have go:aQ (fun K=>jG P ag d o (gU P ag d a l K) s):=(KH d o s).bind fun t=>y9 d a l t;simp only[gU]
  split
  ·exact go
  ·split
   ·split
    ·exact go
    ·exact y9 d a l _
   ·exact y9 d a l _
   ·exact aQ.false
theorem yS(b:Array Oper):∀(l:List Oper)(i:Nat)(a:List Touch)(s:St),aQ (fun K=>gq P ag b l i a K s)
 |[],i,a,s=>by simp only[gq];exact aQ.and (aQ.one id s)
 |o::l,i,a,s=>by
  have go:aQ (fun K=>jq P ag o s fun e=>gq P ag b l (i+1) (gT i s.heap.length e a) K (e.app o.dst s)):=(KI o s).bind fun e=>yS b l (i+1) _ _;simp only[gq]
  split
  ·exact go
  ·split
   ·split
    ·exact go
    ·exact yS b l (i+1) a _
   ·exact yS b l (i+1) a _
   ·exact aQ.false
def Au(F:(bC->St->Prop)->Prop):Prop:=∀Q,F Q->∃e s,Q e s/\∀a:bC->St->Prop,a e s->F a
inductive w8(P:a1)(ag:a7->Bool)(q:Cx)(b:Code)(e:bC)(s:St):Nat->St->Prop
 |stop {k:Nat} {u:St}:(∀Q:bC->St->Prop,Q e s->cg P ag q b Q u)->e≠.normal->w8 P ag q b e s k u
 |step {k m:Nat} {u s1 u':St}:(∀Q:bC->St->Prop,Q .normal s1->cg P ag q b Q u)->m<k->dt q.2 s1 u'->w8 P ag q b e s m u'->w8 P ag q b e s k u
theorem Wu(j:Option Code)(s:St):Au (fun Q=>kr Q j s):=fun Q h=>by
 unfold kr at h
 split at h
 ·exact⟨.normal,s,h,fun _ h=>h⟩
 ·rename_i id;exact⟨.exit id,s,h,fun _ h=>h⟩
 ·exact⟨.ret,s,h,fun _ h=>h⟩
 ·exact h.elim
theorem KG(b:Nat)(env:Env)(H:Heap):Au (fun Q=>iZ b env Q H):=fun Q h=>by
 unfold iZ at h
 split at h
 ·rename_i L f;obtain⟨e,s,c,d⟩:=Wu _ _ Q h.2;exact⟨e,s,c,fun a hq=>by unfold iZ;simp only[f];exact⟨h.1,d a hq⟩⟩
 ·exact h.elim
theorem Wf(it:AV)(b:Nat)(H:Heap)(env:Env):Au (fun Q=>jP P it b H (iZ b env Q)):=fun Q h=>by
 unfold jP at h
 split at h
 ·obtain⟨H',v,c,d⟩:=h;obtain⟨e,s,k1,k2⟩:=KG b env H' Q d;exact⟨e,s,k1,fun a hq=>by simp only[jP];exact⟨H',v,c,k2 a hq⟩⟩
 ·obtain⟨H',v,c,d⟩:=h;obtain⟨e,s,k1,k2⟩:=KG b env H' Q d;exact⟨e,s,k1,fun a hq=>by simp only[jP];exact⟨H',v,c,k2 a hq⟩⟩
 ·exact h.elim
theorem nK{q:Cx}:∀(c:Code)(s:St),Au (fun Q=>cg P ag q c Q s)
 | .skip,s| .label _,s=>fun Q h=>⟨.normal,s,h,fun _ h=>h⟩
 | .exit id,s=>fun Q h=>⟨.exit id,s,h,fun _ h=>h⟩
 | .ret,s=>fun Q h=>⟨.ret,s,h,fun _ h=>h⟩
 | .region id ops draw,s=>fun Q h=>by
  simp only[cg]at h⊢
  split at h
  ·rename_i l;obtain⟨t,d,g⟩:=yS ops _ _ _ _ _ h;exact⟨.normal,t,d,fun Q' h=>by simp only[l,if_true];exact g _ h⟩
  ·rename_i l;obtain⟨t,d,g⟩:=y9 _ ops _ _ _ h;exact⟨.normal,t,d,fun Q' h=>by rw[if_neg l];exact g _ h⟩
 | .seq a b,s=>fun Q h=>by
  simp only[cg]at h⊢;obtain⟨e,t,d,g⟩:=nK a s _ h;cases e with
  |normal=>
   obtain⟨e',r,k,y⟩:=nK b t _ d;exact⟨e',r,k,fun Q' h=>g _ (y Q' h)⟩
  |exit id=>exact⟨.exit id,t,d,fun Q' h=>g _ h⟩
  |ret=>exact⟨.ret,t,d,fun Q' h=>g _ h⟩
 | .cond c a b,s=>fun Q h=>by
  simp only[cg]at h⊢
  split at h
  ·split at h
   ·rename_i p;obtain⟨e,t,d,g⟩:=nK a s _ h;exact⟨e,t,d,fun Q' h=>by rw[if_pos p];exact g _ h⟩
   ·rename_i p;obtain⟨e,t,d,g⟩:=nK b s _ h;exact⟨e,t,d,fun Q' h=>by rw[if_neg p];exact g _ h⟩
  ·exact h.elim
 | .block id b,s=>fun Q h=>by
  simp only[cg]at h⊢;obtain⟨e,t,d,g⟩:=nK b s _ h;cases e with
  |normal=>exact⟨.normal,t,d,fun Q' h=>g _ h⟩
  |exit i=>
   by_cases hi:i=id
   ·simp only[hi,if_true]at d;exact⟨.normal,t,d,fun Q' h=>g _ (by simp only[hi,if_true];exact h)⟩
   ·simp only[hi,if_false]at d;exact⟨.exit i,t,d,fun Q' h=>g _ (by simp only[hi,if_false];exact h)⟩
  |ret=>exact⟨.ret,t,d,fun Q' h=>g _ h⟩
 | .scope b,s=>fun Q h=>by simp only[cg]at h⊢;exact nK b s Q h
 | .loop b,s=>fun Q h=>by
  simp only[cg]at h⊢;obtain⟨I,⟨w,t0,hf,hI⟩,F⟩:=h;have key:∀(n:Nat)(t:St),I n t->∃e u,Q e u/\e≠.normal/\w8 P ag q b e u n t:=by
   intro n
   induction n using ew with
   |_ n G=>
    intro t hI;obtain⟨e,s1,d,g⟩:=nK b t _ (F n t hI);cases e with
    |normal=>
     obtain⟨m,r,j,o,z⟩:=d;obtain⟨e,u,k1,k2,k3⟩:=G m j r z;exact⟨e,u,k1,k2,.step g j o k3⟩
    |exit id=>exact⟨.exit id,s1,d,by simp,.stop g (by simp)⟩
    |ret=>exact⟨.ret,s1,d,by simp,.stop g (by simp)⟩
  obtain⟨e,u,d,g,k⟩:=key w t0 hI;refine⟨e,u,d,fun Q' v=>⟨w8 P ag q b e u,⟨w,t0,hf,k⟩,?_⟩⟩;intro n t C;cases C with
  |stop hs E=>
   refine hs _ ?_;cases e with
   |normal=>exact(E rfl).elim
   |exit id=>exact v
   |ret=>exact v
  |step hs j o D=>exact hs _ ⟨_,_,j,o,D⟩
 | .rangeFunc f H a b,s=>fun Q h=>by
  simp only[cg]at h;obtain⟨A,x,B,h⟩:=h;obtain⟨e,t,d,g⟩:=Wf _ _ _ _ Q h;exact⟨e,t,d,fun Q' hq=>by simp only[cg];exact⟨A,x,B,g Q' hq⟩⟩
 | .goto _,_| .refuse _,_=>fun Q h=>by simp[cg]at h
def Spec(P:a1)(f:a7)(args:List PV)(Q:PV->Prop):Prop:=∃v,aC P f args v/\Q v
def Ax(P:a1)(a:List bk)(Q:PV->Prop)(e:bC)(s:St):Prop:=
 (match e with
  | .exit _=>False
  |_=>True)/\∃vs,fK P s a=some vs/\∃v,et s.heap 9 (oneOf vs)=some v/\Q v
theorem Spec.mono{f:a7}{args:List PV}{Q a:PV->Prop}(h:Spec P f args Q)(hq:∀v,Q v->a v):Spec P f args a:=by
 obtain⟨v,b,c⟩:=h;exact⟨v,b,hq v c⟩
end
def n9(id:Nat)(Q:bC->St->Prop)(e:bC)(s:St):Prop:=
 match e with
 | .exit i=>if i=id then Q .normal s else Q (.exit i) s
 |e=>Q e s
theorem Uh{id:Nat}{Q:bC->St->Prop}{s:St}:n9 id Q .normal s=Q .normal s:=(rfl)
theorem Vw{id i:Nat}{Q:bC->St->Prop}{s:St}:n9 id Q (.exit i) s=if i=id then Q .normal s else Q (.exit i) s:=(rfl)
theorem Ww{id:Nat}{Q:bC->St->Prop}{s:St}:n9 id Q .ret s=Q .ret s:=(rfl)
def uo(N n:Nat)(I:Nat->St->Prop)(Q:bC->St->Prop)(e:bC)(s:St):Prop:=
 match e with
 | .normal=>∃a b,a<n/\dt N s b/\I a b
 |e=>Q e s
theorem T6{N n:Nat}{I:Nat->St->Prop}{Q:bC->St->Prop}{s:St}:uo N n I Q .normal s=∃a b,a<n/\dt N s b/\I a b:=(rfl)
theorem UM{N n id:Nat}{I:Nat->St->Prop}{Q:bC->St->Prop}{s:St}:uo N n I Q (.exit id) s=Q (.exit id) s:=(rfl)
theorem Wb{N n:Nat}{I:Nat->St->Prop}{Q:bC->St->Prop}{s:St}:uo N n I Q .ret s=Q .ret s:=(rfl)
section Ex
variable{P:a1}
end Ex
section
variable{P:a1}{ag:a7->Bool}
abbrev eS:=Option (Prop×aW)
def bn(r:eS)(K:aW->Prop):Prop:=
 match r with
 |some (p,e)=>p/\K e
 |none=>False
theorem Wl{p:Prop}{e:aW}{K:aW->Prop}:bn (some (p,e)) K=(p/\K e):=(rfl)
theorem WU{K:aW->Prop}:bn none K=False:=(rfl)
@[congr] theorem aMB{r a:eS}{K:aW->Prop}(h:r=a):bn r K=bn a K:=by rw[h]
def Can(F:(aW->Prop)->Prop)(r:eS):Prop:=∀K,bn r K->F K
theorem Can.none{F:(aW->Prop)->Prop}:Can F none:=fun _ h=>h.elim
def qc(P:a1)(T:a0)(H:Heap)(a:AV):eS:=
 match a with
 | .ptr b path=>match H[b]? with
  |some (.box fz t)=>match fe t path with
   |some s=>some (kindOf P T=ad s,{v:=s,ak:=[(b,.box fz t)]})
   |none=>none
  |_=>none
 | .b6 b aA ai i path=>match H[b]? with
  |some (.arr k d c es)=>match es[i]? with
   |some x=>match fe x path with
    |some s=>some ((aA=d/\ai=c)/\kindOf P T=ad s,{v:=s,ak:=[(b,.arr k d c es)]})
    |none=>none
   |none=>none
  |_=>none
 | .p (.cE t)=>some (kindOf P T=aL t,{v:=.p t})
 |_=>none
theorem YZ{T:a0}{H:Heap}{a:AV}:Can (od P T H a) (qc P T H a):=by
 intro K h;unfold qc at h;unfold od
 split at h
 ·split at h
  ·rename_i b
   split at h
   ·rename_i hs;simp only[bn]at h;simp only[b,hs];exact h
   ·exact h.elim
  ·exact h.elim
 ·split at h
  ·rename_i b
   split at h
   ·rename_i x hx;obtain⟨hi,hx⟩:=ck.1 hx
    split at h
    ·rename_i hs;simp only[bn]at h;simp only[b];exact⟨h.1.1.1,h.1.1.2,hi,by rw[hx,hs];exact⟨h.1.2,h.2⟩⟩
    ·exact h.elim
   ·exact h.elim
  ·exact h.elim
 ·exact h
 ·exact h.elim
def pQ(P:a1)(T:a0)(H:Heap)(a x:AV):eS:=
 match a with
 | .ptr b path=>match H[b]? with
  |some (.box false t)=>match fe t path,fX t path x with
   |some s,some d=>some ((kindOf P T=ad x/\ad x≠.bad)/\ad s=ad x,{v:=.p (.aG []),ak:=[(b,.box false t)],aK:=[(b,.box false d)]})
   |_,_=>none
  |_=>none
 | .b6 b aA ai i path=>match H[b]? with
  |some (.arr k e c es)=>match es[i]? with
   |some y=>match fe y path,fX y path x with
    |some s,some d=>some ((kindOf P T=ad x/\ad x≠.bad)/\(aA=e/\ai=c/\k≠.frozen)/\ad s=ad x,{v:=.p (.aG []),ak:=[(b,.arr k e c es)],aK:=[(b,.arr k e c (es.set i d))]})
    |_,_=>none
   |none=>none
  |_=>none
 |_=>none
theorem XJ{T:a0}{H:Heap}{a x:AV}:Can (nW P T H a x) (pQ P T H a x):=by
 intro K h;unfold pQ at h;unfold nW
 split at h
 ·split at h
  ·rename_i b
   split at h
   ·rename_i hs c;simp only[bn]at h;simp only[b,hs,c];exact⟨h.1.1.1,h.1.1.2,h.1.2,h.2⟩
   ·exact h.elim
  ·exact h.elim
 ·split at h
  ·rename_i b
   split at h
   ·rename_i y d;obtain⟨hi,d⟩:=ck.1 d
    split at h
    ·rename_i hs c;simp only[bn]at h;simp only[b];exact⟨h.1.1.1,h.1.1.2,h.1.2.1.1,h.1.2.1.2.1,h.1.2.1.2.2,hi,by rw[d,hs,c];exact⟨h.1.2.2,h.2⟩⟩
    ·exact h.elim
   ·exact h.elim
  ·exact h.elim
 ·exact h.elim
def pj(P:a1)(T:a0)(a:AV)(f:Nat):eS:=
 match fU P T with
 |some (u,n)=>match a with
  | .ptr b path=>some (f<n,{v:=.ptr b (path++[(u,f)])})
  | .b6 b aA ai i path=>some (f<n,{v:=.b6 b aA ai i (path++[(u,f)])})
  | .p (.cE t)=>match(cM t)[f]? with
   |some g=>some (f<n/\aL t=.agg u,{v:=.p (.cE g)})
   |none=>none
  |_=>none
 |_=>none
theorem Ue{T:a0}{a:AV}{f:Nat}:Can (nN P T a f) (pj P T a f):=by
 intro K h;unfold pj at h;unfold nN
 split at h
 ·rename_i hs;simp only[hs]
  split at h
  ·exact h
  ·exact h
  ·split at h
   ·rename_i b;simp only[bn]at h;simp only[b];exact⟨h.1.1,h.1.2,h.2⟩
   ·exact h.elim
  ·exact h.elim
 ·exact h.elim
def ph(P:a1)(T:a0)(H:Heap)(x i:AV):eS:=
 match i with
 | .p (.int _ i)=>match x with
  | .p (.bP _ es)=>match es[i.toNat]? with
   |some y=>some (0<=i/\cR P T=some (bI P (aL y)),{v:=.p (.cE y)})
   |none=>none
  | .p (.seq es)=>match es[i.toNat]? with
   |some y=>some (0<=i/\cR P T=some (bI P (aL y)),{v:=.p (.cE y)})
   |none=>none
  | .sl b aA ai off len=>match H[b]? with
   |some (.arr k c a es)=>some (0<=i/\cR P T=some ai/\i.toNat<len/\aA=c/\ai=a/\¬(k.gr=true/\es=[]),{v:=.b6 b aA ai (off+i.toNat) [],ak:=[(b,.arr k c a es)]})
   |_=>none
  | .ptr b path=>match hJ P T with
   |some (u,n)=>some (0<=i/\i.toNat<n,{v:=.ptr b (path++[(u,i.toNat)])})
   |_=>none
  | .b6 b aA ai j path=>match hJ P T with
   |some (u,n)=>some (0<=i/\i.toNat<n,{v:=.b6 b aA ai j (path++[(u,i.toNat)])})
   |_=>none
  | .p (.cE t)=>match hJ P T with
   |some (u,n)=>match(cM t)[i.toNat]? with
    |some g=>some (0<=i/\aL t=.agg u/\i.toNat<n,{v:=.p (.cE g)})
    |none=>none
   |_=>none
  |_=>none
 |_=>none
theorem Ud{T:a0}{H:Heap}{x i:AV}:Can (nM P T H x i) (ph P T H x i):=by
 intro K h;unfold ph at h;unfold nM
 split at h
 case h_2=>exact h.elim
 split at h
 ·split at h
  ·rename_i y a;obtain⟨hi,a⟩:=ck.1 a;simp only[bn]at h;exact⟨h.1.1,hi,by rw[a];exact h.1.2,by rw[a];exact h.2⟩
  ·exact h.elim
 ·split at h
  ·rename_i y a;obtain⟨hi,a⟩:=ck.1 a;simp only[bn]at h;exact⟨h.1.1,hi,by rw[a];exact h.1.2,by rw[a];exact h.2⟩
  ·exact h.elim
 ·split at h
  ·rename_i l;simp only[bn]at h;obtain⟨⟨b,c,d,e,f,g⟩,j⟩:=h;refine⟨b,c,d,?_⟩;rw[l];exact⟨e,f,g,j⟩
  ·exact h.elim
 ·split at h
  ·rename_i hs;simp only[bn]at h;simp only[hs];exact⟨h.1.1,h.1.2,h.2⟩
  ·exact h.elim
 ·split at h
  ·rename_i hs;simp only[bn]at h;simp only[hs];exact⟨h.1.1,h.1.2,h.2⟩
  ·exact h.elim
 ·split at h
  ·rename_i hs
   split at h
   ·rename_i k;simp only[bn]at h;simp only[hs,k];exact⟨h.1.1,h.1.2.1,h.1.2.2,h.2⟩
   ·exact h.elim
  ·exact h.elim
 ·exact h.elim
end
section
variable{P:a1}{ag:a7->Bool}
def pP(P:a1)(T X:a0)(H:Heap)(s x:AV):eS:=
 match cR P T,gO H x with
 |some sz,some xs=>match s with
  | .p .aP=>some ((iF P X=true/\(cT P (eB P T)).isSome=true/\fg P sz xs)/\xs.length<=cZ,
   if xs.isEmpty then{v:=s,ak:=dE H x}else{v:=.sl H.length 0 sz 0 xs.length,ak:=dE H x,aV:=[.arr (gk P T) 0 sz xs]})
  | .sl b aA ai off len=>match H[b]? with
   |some (.arr k c a es)=>some ((iF P X=true/\(cT P (eB P T)).isSome=true/\fg P sz xs)/\(aA=c/\ai=a/\ai=sz/\off+len<=es.length)/\es.length+xs.length<=cZ/\k≠ .frozen/\(k≠ .exact->off=0)/\(k= .bytes->eB P T=Gl.u8),
    if xs.isEmpty then{v:=s,ak:=(b,.arr k c a es)::dE H x}
    else match k with
     | .exact=>if off+len+xs.length<=es.length then
      {v:=.sl b aA ai off (len+xs.length),ak:=(b,.arr k c a es)::dE H x,aK:=[(b,.arr .exact aA ai (es.take (off+len)++xs++es.drop (off+len+xs.length)))]}
      else{v:=.sl H.length 0 sz 0 (len+xs.length),ak:=(b,.arr k c a es)::dE H x,aV:=[.arr (gk P T) 0 sz ((es.drop off).take len++xs)]}
     |_=>{v:=.sl b (aA+1) ai 0 (len+xs.length),ak:=(b,.arr k c a es)::dE H x,aK:=[(b,.arr k (aA+1) ai (es.take len++xs))]})
   |_=>none
  |_=>none
 |_,_=>none
theorem VB{T X:a0}{H:Heap}{s x:AV}:Can (nQ P T X H s x) (pP P T X H s x):=by
 intro K h;unfold pP at h;unfold nQ
 split at h
 case h_2=>exact h.elim
 rename_i sz p i j;simp only[i,j]
 split at h
 ·simp only[bn]at h;obtain⟨⟨⟨b,a2,a3⟩,a4⟩,hk⟩:=h;refine⟨b,a2,a3,?_⟩;dsimp only
  split
  ·rename_i a;rw[if_pos a]at hk;exact hk
  ·rename_i a;rw[if_neg a]at hk;exact⟨a4,hk⟩
 ·split at h
  case h_2=>exact h.elim
  rename_i k o n m l;simp only[bn]at h;obtain⟨⟨⟨b,a2,a3⟩,⟨rfl,rfl,e,f⟩,g,a9,c,d⟩,hk⟩:=h;refine⟨b,a2,a3,?_⟩;simp only[l];refine⟨trivial,trivial,e,f,?_⟩
  split
  ·rename_i a;rw[if_pos a]at hk;exact hk
  ·rename_i a;rw[if_neg a]at hk;refine⟨g,?_⟩;cases k with
   |frozen=>exact a9 rfl
   |exact=>
    simp only at hk⊢
    split
    ·rename_i hc;rw[if_pos hc]at hk;exact hk
    ·rename_i hc;rw[if_neg hc]at hk;exact hk
   |grow=>exact⟨c (by simp),fun h=>(by cases h),hk⟩
   |bytes=>exact⟨c (by simp),d,hk⟩
 ·exact h.elim
def kA(x:Option AV)(d:Nat):Option (Prop×Nat):=
 match x with
 |none=>some (True,d)
 |some (.p (.int _ i))=>some (0<=i,i.toNat)
 |_=>none
theorem mR{x:Option AV}{d n:Nat}{p:Prop}{K:Nat->Prop}(h:kA x d=some (p,n))(a:p)(hk:K n):gG x d K:=by
 unfold kA at h;unfold gG
 split at h
 ·simp only[e9,Prod.mk.injEq]at h;obtain⟨rfl,rfl⟩:=h;exact hk
 ·simp only[e9,Prod.mk.injEq]at h;obtain⟨rfl,rfl⟩:=h;exact⟨a,hk⟩
 ·cases h
def pS(P:a1)(T:a0)(H:Heap)(x:AV)(lo hi:Option AV):eS:=
 match x with
 | .p (.str s)=>match kA hi s.length,kA lo 0 with
  |some (p,h),some (q,l)=>some (iB P T=true/\p/\q/\h<=s.length/\l<=h,{v:=.p (.str ((s.take h).drop l))})
  |_,_=>none
 | .p .aP=>match kA hi 0,kA lo 0 with
  |some (p,h),some (q,l)=>some ((cR P T).isSome=true/\p/\q/\h<=0/\l<=h,{v:=.p .aP})
  |_,_=>none
 | .p (.bP full es)=>match kA hi es.length,kA lo 0,cR P T with
  |some (p,h),some (q,l),some sz=>some (p/\q/\h<=es.length/\l<=h/\fg P sz (es.map .p),{v:=.p (.bP (full&&h==es.length) ((es.take h).drop l))})
  |_,_,_=>none
 | .p (.seq es)=>match kA hi es.length,kA lo 0,cR P T with
  |some (p,h),some (q,l),some sz=>some (p/\q/\h<=es.length/\l<=h/\fg P sz (es.map .p),{v:=.p (.seq ((es.take h).drop l))})
  |_,_,_=>none
 | .sl b aA ai off len=>match H[b]? with
  |some (.arr k c a es)=>match kA hi len,kA lo 0 with
   |some (p,h),some (q,l)=>some ((aA=c/\ai=a/\cR P T=some ai/\¬(k.gr=true/\es=[])/\off+len<=es.length)/\p/\q/\off+h<=es.length/\l<=h,
    if l=0 then{v:=.sl b aA ai off h,ak:=[(b,.arr k c a es)]}
    else if l=h then{v:=.p (.bP false []),ak:=[(b,.arr k c a es)]}
    else{v:=.sl b aA ai (off+l) (h-l),ak:=[(b,.arr k c a es)]})
   |_,_=>none
  |_=>none
 |_=>none
theorem XK{T:a0}{H:Heap}{x:AV}{lo hi:Option AV}:Can (nX P T H x lo hi none) (pS P T H x lo hi):=by
 intro K h;unfold pS at h;unfold nX;refine⟨rfl,?_⟩
 split at h
 ·split at h
  case h_2=>exact h.elim
  rename_i a b;simp only[bn]at h;obtain⟨⟨c,a2,a3,a4,a5⟩,hk⟩:=h;exact⟨c,mR a a2 (mR b a3 ⟨a4,a5,hk⟩)⟩
 ·split at h
  case h_2=>exact h.elim
  rename_i a b;simp only[bn]at h;obtain⟨⟨c,a2,a3,a4,a5⟩,hk⟩:=h;exact⟨c,mR a a2 (mR b a3 ⟨a4,a5,hk⟩)⟩
 ·split at h
  case h_2=>exact h.elim
  rename_i a b e;simp only[bn]at h;obtain⟨⟨a2,a3,a4,a5,d⟩,hk⟩:=h;refine mR a a2 (mR b a3 ⟨a4,a5,?_⟩);simp only[e];exact⟨d,hk⟩
 ·split at h
  case h_2=>exact h.elim
  rename_i a b e;simp only[bn]at h;obtain⟨⟨a2,a3,a4,a5,d⟩,hk⟩:=h;refine mR a a2 (mR b a3 ⟨a4,a5,?_⟩);simp only[e];exact⟨d,hk⟩
 ·split at h
  case h_2=>exact h.elim
  rename_i i
  split at h
  case h_2=>exact h.elim
  rename_i a b;simp only[bn]at h;obtain⟨⟨⟨c,a2,a3,a4,a5⟩,d,f,g,a9⟩,hk⟩:=h;simp only[i];refine⟨c,a2,a3,a4,a5,mR a d (mR b f ⟨g,a9,?_⟩)⟩
  split
  ·rename_i hc;rw[if_pos hc]at hk;exact hk
  ·rename_i hc;rw[if_neg hc]at hk
   split
   ·rename_i hc;rw[if_pos hc]at hk;exact hk
   ·rename_i hc;rw[if_neg hc]at hk;exact hk
 ·exact h.elim
def rN(P:a1)(T:a0)(H:Heap)(x key:AV)(ok:Bool):eS:=
 match jn P T,key with
 |some (a,E),.p key=>match cT P E with
  |some z=>match x with
   | .p .fF=>some (fD P a key=true,{v:=.p (if ok then .aG [z,.bool false]else z)})
   | .p (.fo es)=>match fZ P a es key with
    |some r=>some (fD P a key=true,{v:= .p (match r with
      |some v=>if ok then .aG [v,.bool true]else v
      |none=>if ok then .aG [z,.bool false]else z)})
    |none=>none
   | .map b=>match H[b]? with
    |some (.map fz es)=>match fZ P a es key with
     |some r=>some (fD P a key=true,{v:= .p (match r with
       |some v=>if ok then .aG [v,.bool true]else v
       |none=>if ok then .aG [z,.bool false]else z),ak:=[(b,.map fz es)]})
     |none=>none
    |_=>none
   |_=>none
  |none=>none
 |_,_=>none
def mu(P:a1)(T:a0)(H:Heap)(m k x:AV):eS:=
 match jn P T,m,k,x with
 |some (a,_),.map b,.p key,.p v=>match H[b]? with
  |some (.map false es)=>match mf P a es key with
   |some _=>some (fD P a key=true,{v:=.p (.aG []),ak:=[(b,.map false es)],aK:=[(b,.map false (gF es key v))]})
   |none=>none
  |_=>none
 |_,_,_,_=>none
def ry(P:a1)(T:a0)(n:Nat)(x:AV):eS:=
 match x with
 | .p (.str s)=>some (iB P T=true,{v:=.ptr n [],aV:=[.dC s 0]})
 |_=>none
def rT(H:Heap)(it:AV):eS:=
 match it with
 | .ptr b []=>match H[b]? with
  |some (.dC s pos)=>some (True,if pos<s.length then
   {v:=.p (.aG [.bool true,.int .i64 pos,.int .i32 (b4 (gw s) pos).1]),ak:=[(b,.dC s pos)],aK:=[(b,.dC s (pos+(b4 (gw s) pos).2))]}
   else{v:=.p (.aG [.bool false]),ak:=[(b,.dC s pos)]})
  |_=>none
 |_=>none
def rV(P:a1)(T:a0)(n:Nat)(l c:AV):eS:=
 match cR P T,cT P (eB P T),l,c with
 |some sz,some z,.p (.int .i64 l),.p (.int .i64 c)=>some (bI P (aL z)=sz/\0<=l/\l=c/\l<=cZ,{v:=.sl n 0 sz 0 l.toNat,aV:=[.arr .exact 0 sz (cx l.toNat (.p z))]})
 |_,_,_,_=>none
def copyV(P:a1)(T:a0)(H:Heap)(d x:AV):eS:=
 match cR P T,d,gO H x with
 |some sz,.sl b aA ai off len,some xs=>match H[b]? with
  |some (.arr k c a es)=>some ((ai=sz/\fg P sz xs)/\aA=c/\ai=a/\k≠ .frozen/\off+len<=es.length/\¬(k.gr=true/\es=[]),
   {v:=.p (.int .i64 (min xs.length len:Nat)),ak:=(b,.arr k c a es)::dE H x,aK:=[(b,.arr k c a (es.take off++xs.take (min xs.length len)++es.drop (off+min xs.length len)))]})
  |_=>none
 |_,_,_=>none
def rk(x:AV):eS:=
 match x with
 | .ptr _ _| .b6 _ _ _ _ _| .p (.cE _)=>some (True,{v:=x})
 |_=>none
def kK(b:Bool)(c:List AV):eS:=
 match c with
 | .p (.int k a)::r=>match l8 k b r a with
  |some n=>some (True,{v:=.p (.int k n)})
  |none=>none
 |_=>none
def rL(f:a7)(fi ca:List AV):eS:=
 match dO fi,dO ca with
 |some a,some b=>some (True,{v:=.p (.func f a b)})
 |_,_=>some (True,{v:=.func f fi ca})
end
section
variable{P:a1}{ag:a7->Bool}
def rQ(c a b:AV):eS:=
 match c with
 | .p (.bool t)=>some (True,{v:=if t then a else b})
 |_=>none
def rD(P:a1)(T:a0)(n:Nat):eS:=
 match cT P T with
 |some z=>some (kindOf P T=aL z/\aL z≠.bad/\jo T (aL z)=true,{v:=.ptr n [],aV:=[.box false (.p z)]})
 |none=>none
def uJ(P:a1)(T:a0)(n:Nat)(x:AV):eS:=some (kindOf P T=ad x/\ad x≠.bad/\jo T (ad x)=true,{v:=.ptr n [],aV:=[.box false x]})
def rB(P:a1)(T:a0)(a:List (Nat×AV)):eS:=
 match kindOf P T,cT P T with
 | .agg u,some z=>match dR P u with
  |some l=>some (aL z=.agg u/\l7 P l a,{v:=ib u (iA ((cM z).map .p) a)})
  |none=>none
 |_,_=>none
def qK(P:a1)(T:a0)(n:Nat)(a:List (Nat×AV))(b:Nat):eS:=
 match cR P T,cT P (eB P T)with
 |some sz,some z=>some (bI P (aL z)=sz/\n*sz<=1000000/\l7 P (cx n sz) a,{v:=.sl b 0 sz 0 n,aV:=[.arr .exact 0 sz (iA (cx n (.p z)) a)]})
 |_,_=>none
def uQ(op:a8)(k:be)(a b:Int):Prop×PV:=
 match op with
 | .add=>(True,.int k (k.wrap (a+b)))
 | .sub=>(True,.int k (k.wrap (a-b)))
 | .mul=>(True,.int k (k.wrap (a*b)))
 | .quo=>(b≠0,.int k (k.wrap (a.tdiv b)))
 | .rem=>(b≠0,.int k (a.tmod b))
 | .and=>(True,.int k (k.wrap (av k.bits a&&&av k.bits b).toNat))
 | .or=>(True,.int k (k.wrap (av k.bits a|||av k.bits b).toNat))
 | .xor=>(True,.int k (k.wrap (av k.bits a^^^av k.bits b).toNat))
 | .andNot=>(True,.int k (k.wrap (av k.bits a&&&~~~av k.bits b).toNat))
 | .eql=>(True,.bool (a==b))
 | .neq=>(True,.bool (a !=b))
 | .lss=>(True,.bool (decide (a<b)))
 | .leq=>(True,.bool (decide (a<=b)))
 | .gtr=>(True,.bool (decide (a>b)))
 | .geq=>(True,.bool (decide (a>=b)))
 | .shl=>(0<=b,.int k (k.wrap (a*2^(min b.toNat k.bits))))
 | .shr=>(0<=b,.int k (a.fdiv (2^(min b.toNat k.bits))))
theorem aw2{op:a8}{k:be}{a b:Int}{K:PV->Prop}(h:(uQ op k a b).1)(hk:K (uQ op k a b).2):pZ op k a b K:=by
 cases op<;>simp only[uQ,pZ]at*<;>first|exact hk|exact⟨h,hk⟩
def FD(op:a8)(a b:List Nat):Option (Prop×PV):=
 match op with
 | .add=>some (a.length+b.length<9223372036854775808,.str (a++b))
 | .eql=>some (True,.bool (a==b))
 | .neq=>some (True,.bool (!(a==b)))
 | .lss=>some (True,.bool (jj a b))
 | .leq=>some (True,.bool (jj a b||a==b))
 | .gtr=>some (True,.bool (!(jj a b||a==b)))
 | .geq=>some (True,.bool (!(jj a b)))
 |_=>none
def aU(P:a1)(op:a8)(T:a0)(c:Bool)(H:Heap)(x y:AV):eS:=
 match x,y with
 | .p (.int k a),.p (.int d b)=>some ((k=d\/op=.shl\/op=.shr)/\(uQ op k a b).1,{v:=.p (uQ op k a b).2})
 | .p (.str a),.p (.str b)=>match FD op a b with
  |some (p,v)=>some (p,{v:=.p v})
  |none=>none
 | .p (.bool a),.p (.bool b)=>match op with
  | .eql=>some (rq P T=true,{v:=.p (.bool (a==b))})
  | .neq=>some (rq P T=true,{v:=.p (.bool (!(a==b)))})
  |_=>none
 | .p (.st u fs),.p (.st u' gs)=>match ir P 9 T (.st u fs) (.st u' gs),op with
  |some r,.eql=>some (su P T=true,{v:=.p (.bool r)})
  |some r,.neq=>some (su P T=true,{v:=.p (.bool !r)})
  |_,_=>none
 |x,y=>match dD P T c y with
  |some k=>match cX H k x,op with
   |some r,.eql=>some (True,{v:=.p (.bool r),ak:=dE H x})
   |some r,.neq=>some (True,{v:=.p (.bool !r),ak:=dE H x})
   |_,_=>none
  |none=>none
theorem K5{op:a8}{T:a0}{c:Bool}{H:Heap}{x y:AV}{k:u9}{K:PV->Prop}(hk:dD P T c y=some k):kt P op T c H x y K=(match cX H k x,op with
  |some r,.eql=>K (.bool r)
  |some r,.neq=>K (.bool !r)
  |_,_=>False):=by
 have a:=hk;rcases Kd hk with⟨rfl,rfl,_⟩|⟨rfl,rfl,_⟩|⟨rfl,rfl,_⟩|⟨rfl,rfl,_⟩|⟨rfl,rfl,_⟩
 all_goals
  unfold kt;cases x with
  |p v=>
   cases v<;>simp only[a]<;>(generalize cX H _ _=r;cases r<;>cases op<;>rfl)
  |_=>simp only[a];(generalize cX H _ _=r;cases r<;>cases op<;>rfl)
theorem ZO{op:a8}{T:a0}{c:Bool}{H:Heap}{x y:AV}:Can (fun K=>kt P op T c H x y (fun v=>K {v:=.p v,ak:=dE H x})) (aU P op T c H x y):=by
 intro K h;unfold aU at h;unfold kt
 split at h
 ·exact⟨h.1.1,aw2 h.1.2 h.2⟩
 ·split at h
  ·rename_i p v a;simp only[bn]at h;show pY op _ _ _;unfold FD at a
   split at a<;>first
    |(simp only[e9,Prod.mk.injEq]at a
      obtain⟨b,d⟩:=a;rw[<-b,<-d]at h;simp only[pY]
      first|exact h.2|exact⟨h.1,h.2⟩)
    |cases a
  ·exact h.elim
 ·split at h
  ·exact⟨h.1,h.2⟩
  ·exact⟨h.1,h.2⟩
  ·exact h.elim
 ·split at h
  ·rename_i e;simp only[bn]at h;simp only[e];exact⟨h.1,h.2⟩
  ·rename_i e;simp only[bn]at h;simp only[e];exact⟨h.1,h.2⟩
  ·exact h.elim
 ·rename_i b d f g
  split at h
  case h_2=>exact h.elim
  rename_i k hk;clear b d f g;show kt P op T c H x y _;rw[K5 hk];generalize cX H k x=q at h⊢;cases q<;>cases op<;>first|exact h.elim|exact h.2
def sQ(op:UnOp)(x:AV):eS:=
 match op,x with
 | .not,.p (.bool b)=>some (True,{v:=.p (.bool (!b))})
 | .neg,.p (.int k n)=>some (True,{v:=.p (.int k (k.wrap (0-n)))})
 | .xor,.p (.int k n)=>some (True,{v:=.p (.int k (k.wrap (av k.bits (if k.signed then -1 else k.max)^^^av k.bits n).toNat))})
 |_,_=>none
def rJ(P:a1)(S D:a0)(H:Heap)(x:AV):eS:=
 match P.underlying S,P.underlying D,x with
 |some _,some (.int k),.p (.int _ n)=>some (True,{v:=.p (.int k (k.wrap n))})
 |some _,some .string,.p (.str s)=>some (True,{v:=.p (.str s)})
 |some (.slice e),some .string,.sl b aA ai off len=>match H[b]? with
  |some (.arr k c a es)=>match bytesOf ((es.drop off).take len)with
   |some l=>some ((aA=c/\ai=a/\ai=1/\P.underlying e=some (.int .u8)/\0<len/\off+len<=es.length),{v:=.p (.str l),ak:=[(b,.arr k c a es)]})
   |none=>none
  |_=>none
 |_,_,_=>none
def qW(t:AV)(i:Nat):eS:=
 match t with
 | .p (.aG vs)=>match vs[i]? with
  |some v=>some (True,{v:=.p v})
  |none=>none
 | .aG vs=>match vs[i]? with
  |some v=>some (True,{v})
  |none=>none
 |_=>none
def rF(P:a1)(T:a0)(x i:AV):eS:=
 match x,i with
 | .p (.str s),.p (.int _ i)=>match s[i.toNat]? with
  |some c=>some (iB P T=true/\0<=i,{v:=.p (.int .u8 c)})
  |none=>none
 | .p (.st u es),.p (.int _ i)=>match hJ P T,(jv P u)[i.toNat]?,es[i.toNat]? with
  |some (u',n),some F,some g=>some (u'=u/\0<=i/\i.toNat<n/\kindOf P F=aL g,{v:=.p g})
  |_,_,_=>none
 |_,_=>none
def sG(P:a1)(T:a0)(n:Nat)(H:Heap)(x:AV):eS:=
 match lenOf H x with
 |some (m,ak)=>some (gW P T x=true/\0<n,{v:=.p (.int .i64 m),ak})
 |none=>none
def kP(P:a1)(ag:a7->Bool)(o:Oper)(e:Env)(H:Heap)(K:aW->Prop):Prop:=
 match o.op with
 | .move x| .assign x=>K {v:=ev e x}
 | .pick c a b=>bn (rQ (ev e c) (ev e a) (ev e b)) K
 | .alloc T=>bn (rD P T H.length) K
 | .box T x=>bn (uJ P T H.length (ev e x)) K
 | .build T parts=>bn (rB P T (parts.toList.map fun(i,x)=>(i,ev e x))) K
 | .buildSlice T n parts=>bn (qK P T n (parts.toList.map fun(i,x)=>(i,ev e x)) H.length) K
 | .load T a=>bn (qc P T H (ev e a)) K
 | .store T a x=>bn (pQ P T H (ev e a) (ev e x)) K
 | .binOp op T x y _=>bn (aU P op T (mv y) H (ev e x) (ev e y)) K
 | .unOp op _ x=>bn (sQ op (ev e x)) K
 | .convert S D x=>bn (rJ P S D H (ev e x)) K
 | .extract t i=>bn (qW (ev e t) i) K
 | .fieldAddr T a f=>bn (pj P T (ev e a) f) K
 | .indexAddr T x i=>bn (ph P T H (ev e x) (ev e i)) K
 | .index T x i=>bn (rF P T (ev e x) (ev e i)) K
 | .slice T x lo hi none=>bn (pS P T H (ev e x) (lo.map (ev e)) (hi.map (ev e))) K
 | .lookup T x i ok=>bn (rN P T H (ev e x) (ev e i) ok) K
 | .mapUpdate T m k x| .insert T m k x=>bn (mu P T H (ev e m) (ev e k) (ev e x)) K
 | .range T x=>bn (ry P T H.length (ev e x)) K
 | .next it true=>bn (rT H (ev e it)) K
 | .makeSlice T l c=>bn (rV P T H.length (ev e l) (ev e c)) K
 | .nilCheck x=>bn (rk (ev e x)) K
 | .call c=>match c.callee with
  | .builtin .len=>(match c.args.toList with
   |[x]=>bn (sG P (c.argTypes.getD 0 0) c.argTypes.size H (ev e x)) K
   |_=>False)
  | .builtin .append=>(match c.args.toList with
   |[s,x]=>c.argTypes.size=2/\bn (pP P (c.argTypes.getD 0 0) (c.argTypes.getD 1 0) H (ev e s) (ev e x)) K
   |_=>False)
  | .builtin .copy=>(match c.args.toList with
   |[d,x]=>c.argTypes.size=2/\bn (copyV P (c.argTypes.getD 0 0) H (ev e d) (ev e x)) K
   |_=>False)
  | .builtin .min=>bn (kK false (c.args.toList.map (ev e))) K
  | .builtin .max=>bn (kK true (c.args.toList.map (ev e))) K
  |_=>fG P ag o (ev e) H K
 |_=>fG P ag o (ev e) H K
theorem OX{o:Oper}{e:Env}{H:Heap}{K:aW->Prop}(h:kP P ag o e H K):fG P ag o (ev e) H K:=by
 unfold kP at h;unfold fG;cases w:o.op<;>simp only[w]at h<;>simp only
 case move|assign=>exact h
 case pick c a b=>
  unfold rQ at h
  split at h
  ·rename_i hc;simp only[hc];exact h.2
  ·exact h.elim
 case alloc T=>
  unfold rD at h
  split at h
  ·rename_i v;simp only[bn]at h;simp only[v];exact⟨h.1.1,h.1.2.1,h.1.2.2,h.2⟩
  ·exact h.elim
 case box T x=>exact⟨h.1.1,h.1.2.1,h.1.2.2,h.2⟩
 case build T parts=>
  unfold rB at h
  split at h
  ·rename_i hk v
   split at h
   ·rename_i A;simp only[bn]at h;simp only[hk,v,A];exact⟨h.1.1,h.1.2,h.2⟩
   ·exact h.elim
  ·exact h.elim
 case buildSlice T n parts=>
  unfold qK at h
  split at h
  ·rename_i hk v;simp only[bn]at h;simp only[hk,v];exact⟨h.1.1,h.1.2.1,h.1.2.2,h.2⟩
  ·exact h.elim
 case load T a=>exact YZ K h
 case store T a x=>exact XJ K h
 case binOp op T x y O=>exact ZO K h
 case unOp op T x=>
  unfold sQ at h
  split at h
  ·rename_i hx;simp only[hx];exact h.2
  ·rename_i hx;simp only[hx];exact h.2
  ·rename_i hx;simp only[hx];exact h.2
  ·exact h.elim
 case convert S D x=>
  unfold rJ at h
  split at h
  ·rename_i g j p;simp only[g,j,p];exact h.2
  ·rename_i g j p;simp only[g,j,p];exact h.2
  ·rename_i g j p
   split at h
   ·rename_i q
    split at h
    ·rename_i A;obtain⟨⟨B,a2,a3,a4,a5,C⟩,h⟩:=h;simp only[g,j,p,q,A];exact⟨B,a2,a3,a4,a5,C,h⟩
    ·exact h.elim
   ·exact h.elim
  ·exact h.elim
 case extract t i=>
  unfold qW at h
  split at h
  ·rename_i F
   split at h
   ·rename_i G;simp only[F,G];exact h.2
   ·exact h.elim
  ·rename_i F
   split at h
   ·rename_i G;simp only[F,G];exact h.2
   ·exact h.elim
  ·exact h.elim
 case fieldAddr T a f=>exact Ue K h
 case indexAddr T x i=>exact Ud K h
 case index T x i=>
  unfold rF at h
  split at h
  ·rename_i hx hi
   split at h
   ·rename_i c hc;obtain⟨L,rfl⟩:=ck.1 hc;simp only[hx,hi];exact⟨h.1.1,h.1.2,L,h.2⟩
   ·exact h.elim
  ·rename_i hx hi
   split at h
   ·rename_i g j p;obtain⟨⟨g1,g2,g3,g4⟩,h⟩:=h;simp only[hx,hi,g,j,p];exact⟨g1,g2,g3,g4,h⟩
   ·exact h.elim
  ·exact h.elim
 case slice T x lo hi N=>
  cases N with
  |none=>exact XK K h
  |some m=>simp only[fG,w]at h;exact h
 case lookup T x i ok=>
  unfold rN at h
  split at h
  case h_2=>exact h.elim
  rename_i M hi;simp only[M,hi]
  split at h
  case h_2=>exact h.elim
  rename_i z v;simp only[v]
  split at h
  ·rename_i hx;simp only[hx];exact h
  ·rename_i Q hx;simp only[hx]
   split at h
   case h_2=>exact h.elim
   rename_i r u;refine⟨h.1,?_⟩;simp only[u];cases r<;>exact h.2
  ·rename_i b hx;simp only[hx]
   split at h
   case h_2=>exact h.elim
   rename_i q
   split at h
   case h_2=>exact h.elim
   rename_i r u;refine⟨h.1,?_⟩;simp only[q,u];cases r<;>exact h.2
  ·exact h.elim
 case mapUpdate T m k x|insert T m k x=>
  unfold mu at h
  split at h
  case h_2=>exact h.elim
  rename_i g j p E;simp only[g,j,p,E]
  split at h
  case h_2=>exact h.elim
  rename_i q
  split at h
  case h_2=>exact h.elim
  rename_i u;refine⟨h.1,?_⟩;simp only[q,u];exact h.2
 case range T x=>
  unfold ry at h
  split at h
  ·rename_i hx;simp only[hx];exact h
  ·exact h.elim
 case next it s=>
  cases s with
  |false=>simp only[fG,w]at h
  |true=>
   dsimp only at h⊢;unfold rT at h
   split at h
   case h_2=>exact h.elim
   rename_i hx;simp only[hx]
   split at h
   case h_2=>exact h.elim
   rename_i q;simp only[q];have h:=h.2
   split
   ·rename_i hc;rw[if_pos hc]at h;exact h
   ·rename_i hc;rw[if_neg hc]at h;exact h
 case makeSlice T l c=>
  unfold rV at h
  split at h
  ·rename_i g j p E;simp only[g,j,p,E];exact⟨h.1.1,h.1.2.1,h.1.2.2.1,h.1.2.2.2,h.2⟩
  ·exact h.elim
 case nilCheck x=>
  unfold rk at h
  split at h
  ·rename_i hx;simp only[hx];rw[hx]at h;exact h.2
  ·rename_i hx;simp only[hx];rw[hx]at h;exact h.2
  ·rename_i hx;simp only[hx];rw[hx]at h;exact h.2
  ·exact h.elim
 case call c=>
  split at h
  ·rename_i hc
   split at h
   ·rename_i x hx;unfold sG at h
    split at h
    ·rename_i A;simp only[bn]at h;simp only[hc,hx,cC,dg,A];exact⟨h.1.1,h.1.2,h.2⟩
    ·exact h.elim
   ·exact h.elim
  ·rename_i hc
   split at h
   ·rename_i s x hx;simp only[hc,hx,cC,dg];exact⟨h.1,VB K h.2⟩
   ·exact h.elim
  ·rename_i hc
   split at h
   ·rename_i d x hx;simp only[hc,hx,cC,dg];obtain⟨J,h⟩:=h;unfold copyV at h
    split at h
    case h_2=>exact h.elim
    rename_i g j p
    split at h
    case h_2=>exact h.elim
    rename_i q;simp only[bn]at h;obtain⟨⟨⟨B,a2⟩,a3,a4,a5,C,I⟩,hk⟩:=h;simp only[g,j,p,q];exact⟨B,a2,J,a3,a4,a5,C,I,hk⟩
   ·exact h.elim
  ·rename_i hc;unfold kK at h
   split at h
   case h_2=>exact h.elim
   rename_i hx
   split at h
   case h_2=>exact h.elim
   rename_i u;simp only[hc,hx,u];exact h.2
  ·rename_i hc;unfold kK at h
   split at h
   case h_2=>exact h.elim
   rename_i hx
   split at h
   case h_2=>exact h.elim
   rename_i u;simp only[hc,hx,u];exact h.2
  ·unfold fG at h;simp only[w]at h;exact h
 all_goals first
  |exact h
  |(unfold fG at h
    simp only[w]at h;exact h)
  |(unfold fG at h
    simp only[w]at h)
end
section
variable{P:a1}{ag:a7->Bool}
def eD(dst:Option Tmp)(s:St)(K:St->Prop)(e:aW):Prop:=K (e.app dst s)
def A4(dst:Option Tmp)(s:St)(K:St->Prop)(v:AV)(H:Heap):Prop:=K ⟨put dst v s.env,H⟩
def rK(P:a1)(f:AV)(args:List AV)(H:Heap)(K:AV->Heap->Prop):Prop:=
 match f with
 | .p (.func g fi ca)=>gS P false g (fi.map .p++args++ca.map .p) H K
 | .func g fi ca=>gS P false g (fi++args++ca) H K
 | .map b=>∃H' v,iD P b H args H' v/\K v H'
 |_=>False
def rA(P:a1)(f:AV)(args:List AV)(H:Heap)(K:aW->Prop):Prop:=
 match f with
 | .p (.func g fi ca)=>gZ P g (fi.map .p++args++ca.map .p) H K
 | .func g fi ca=>gZ P g (fi++args++ca) H K
 | .map b=>∃e,uk P b args H.length e/\qe H e/\K e
 |_=>False
def dw(P:a1)(ag:a7->Bool)(o:Oper)(K:St->Prop)(s:St):Prop:=
 match o.op with
 | .call {callee:=.value f,args,.. }=>rK P (ev s.env f) (args.toList.map (ev s.env)) s.heap (A4 o.dst s K)
 |_=>kP P ag o s.env s.heap (eD o.dst s K)
def dx(P:a1)(ag:a7->Bool)(o:Oper)(s:St)(K:aW->Prop):Prop:=
 match o.op with
 | .call {callee:=.value f,args,.. }=>rA P (ev s.env f) (args.toList.map (ev s.env)) s.heap K
 |_=>kP P ag o s.env s.heap K
theorem WZ{o:Oper}{K:St->Prop}{s:St}(h:dw P ag o K s):jG P ag false o K s:=by
 unfold dw at h;unfold jG
 split at h
 ·rename_i f args b a;simp only[a];unfold rK at h
  split at h
  ·rename_i hf;simp only[hf];exact h
  ·rename_i hf;simp only[hf];exact h
  ·rename_i hf;simp only[hf];exact h
  ·exact h.elim
 ·rename_i c
  split
  ·rename_i f args b a;exact(c _ _ _ a).elim
  ·exact OX h
theorem W7{o:Oper}{K:aW->Prop}{s:St}(h:dx P ag o s K):jq P ag o s K:=by
 unfold dx at h;unfold jq
 split at h
 ·rename_i f args b a;simp only[a];unfold rA at h
  split at h
  ·rename_i hf;simp only[hf];exact h
  ·rename_i hf;simp only[hf];exact h
  ·rename_i hf;simp only[hf];exact h
  ·exact h.elim
 ·rename_i c
  split
  ·rename_i f args b a;exact(c _ _ _ a).elim
  ·exact OX h
def gd(P:a1)(ag:a7->Bool)(a:Array Oper):List Oper->(St->Prop)->St->Prop
 |[],K,s=>K s
 |o::r,K,s=>match o.guard with
  |none=>dw P ag o (gd P ag a r K) s
  |some (j,want)=>match guardOf a j s.env with
   | .p (.bool t)=>if t=want then dw P ag o (gd P ag a r K) s else gd P ag a r K ⟨put o.dst (.p (.aG [])) s.env,s.heap⟩
   | .p (.aG [])=>gd P ag a r K ⟨put o.dst (.p (.aG [])) s.env,s.heap⟩
   |_=>False
def gu(P:a1)(ag:a7->Bool)(a:Array Oper):List Oper->Nat->List Touch->(St->Prop)->St->Prop
 |[],_,acc,K,s=>kg a acc=true/\K s
 |o::r,i,acc,K,s=>match o.guard with
  |none=>dx P ag o s fun e=>gu P ag a r (i+1) (gT i s.heap.length e acc) K (e.app o.dst s)
  |some (j,want)=>match guardOf a j s.env with
   | .p (.bool t)=>if t=want then dx P ag o s fun e=>gu P ag a r (i+1) (gT i s.heap.length e acc) K (e.app o.dst s)
    else gu P ag a r (i+1) acc K ⟨put o.dst (.p (.aG [])) s.env,s.heap⟩
   | .p (.aG [])=>gu P ag a r (i+1) acc K ⟨put o.dst (.p (.aG [])) s.env,s.heap⟩
   |_=>False
theorem zD{b:Array Oper}:∀(l:List Oper){K a:St->Prop}{s:St},(∀s,K s->a s)->gd P ag b l K s->gU P ag false b l a s
 |[],K,a,s,hk,h=>by simp only[gd]at h;simp only[gU];exact hk s h
 |o::l,K,a,s,hk,h=>by
  have go:dw P ag o (gd P ag b l K) s->jG P ag false o (gU P ag false b l a) s:=fun h=>by
   obtain⟨t,f,g⟩:=KH false o s _ (WZ h);exact g _ (zD l hk f)
  simp only[gd]at h;simp only[gU]
  split at h
  ·rename_i c;simp only[c];exact go h
  ·rename_i j i c;simp only[c]
   split at h
   ·rename_i t d;simp only[d]
    split at h
    ·rename_i e;rw[if_pos e];exact go h
    ·rename_i e;rw[if_neg e];exact zD l hk h
   ·rename_i d;simp only[d];exact zD l hk h
   ·exact h.elim
theorem yX{c:Array Oper}:∀(l:List Oper){i:Nat}{a:List Touch}{K b:St->Prop}{s:St},(∀s,K s->b s)->gu P ag c l i a K s->gq P ag c l i a b s
 |[],i,a,K,b,s,hk,h=>by simp only[gu]at h;simp only[gq];exact⟨h.1,hk s h.2⟩
 |o::l,i,a,K,b,s,hk,h=>by
  have go:dx P ag o s (fun e=>gu P ag c l (i+1) (gT i s.heap.length e a) K (e.app o.dst s))->jq P ag o s (fun e=>gq P ag c l (i+1) (gT i s.heap.length e a) b (e.app o.dst s)):=fun h=>by
   obtain⟨e,k,m⟩:=KI o s _ (W7 h);exact m _ (yX l hk k)
  simp only[gu]at h;simp only[gq]
  split at h
  ·rename_i d;simp only[d];exact go h
  ·rename_i j n d;simp only[d]
   split at h
   ·rename_i t f;simp only[f]
    split at h
    ·rename_i g;rw[if_pos g];exact go h
    ·rename_i g;rw[if_neg g];exact yX l hk h
   ·rename_i f;simp only[f];exact yX l hk h
   ·exact h.elim
def uw(v:AV)(a b:St->Prop)(s:St):Prop:=
 match v with
 | .p (.bool t)=>if t then a s else b s
 |_=>False
def uU(K:St->Prop)(Q:bC->St->Prop)(e:bC)(s:St):Prop:=
 match e with
 | .normal=>K s
 |e=>Q e s
def du(P:a1)(ag:a7->Bool)(q:Cx):Code->(bC->St->Prop)->St->Prop
 | .skip,Q,s| .label _,Q,s=>Q .normal s
 | .region _ ops draw,Q,s=>if draw then gu P ag ops ops.toList 0 [] (Q .normal) s else gd P ag ops ops.toList (Q .normal) s
 | .seq a b,Q,s=>du P ag q a (uU (du P ag q b Q) Q) s
 | .cond c a b,Q,s=>uw (ev s.env c) (du P ag q a Q) (du P ag q b Q) s
 | .block id b,Q,s=>du P ag q b (n9 id Q) s
 | .scope b,Q,s=>du P ag q b Q s
 | .loop b,Q,s=>∃I:Nat->St->Prop,(∃n t,dt q.2 s t/\I n t)/\∀n t,I n t->du P ag q b (uo q.2 n I Q) t
 | .rangeFunc f d a b,Q,s=>q.2<=s.heap.length/\jP P (ev s.env f) s.heap.length (s.heap++[.loop ⟨.ready,none,q.1,d.toList,a,b,s.env⟩]) (iZ s.heap.length s.env Q)
 | .exit id,Q,s=>Q (.exit id) s
 | .ret,Q,s=>Q .ret s
 |_,_,_=>False
theorem Xf{Q a:bC->St->Prop}(hq:∀e s,Q e s->a e s){j:Option Code}{s:St}(h:kr Q j s):kr a j s:=by
 unfold kr at h⊢
 split at h
 ·exact hq _ _ h
 ·exact hq _ _ h
 ·exact hq _ _ h
 ·exact h.elim
theorem Kr{Q a:bC->St->Prop}(hq:∀e s,Q e s->a e s){b:Nat}{env:Env}{H:Heap}(h:iZ b env Q H):iZ b env a H:=by
 unfold iZ at h⊢
 split at h
 ·exact⟨h.1,Xf hq h.2⟩
 ·exact h.elim
theorem Ko{it:AV}{b:Nat}{H:Heap}{K d:Heap->Prop}(hk:∀H,K H->d H)(h:jP P it b H K):jP P it b H d:=by
 unfold jP at h⊢
 split at h
 ·obtain⟨H',v,a,c⟩:=h;exact⟨H',v,a,hk _ c⟩
 ·obtain⟨H',v,a,c⟩:=h;exact⟨H',v,a,hk _ c⟩
 ·exact h.elim
theorem lV{q:Cx}:∀(c:Code){Q Q':bC->St->Prop}{s:St},(∀e s,Q e s->Q' e s)->du P ag q c Q s->cg P ag q c Q' s
 | .skip,Q,Q',s,hq,h| .label _,Q,Q',s,hq,h=>by simp only[du]at h;simp only[cg];exact hq _ _ h
 | .exit _,Q,Q',s,hq,h| .ret,Q,Q',s,hq,h=>by simp only[du]at h;simp only[cg];exact hq _ _ h
 | .region id ops draw,Q,Q',s,hq,h=>by
  simp only[du]at h;simp only[cg]
  split at h
  ·rename_i j;rw[if_pos j];exact yX _ (hq _) h
  ·rename_i j;rw[if_neg j];exact zD _ (hq _) h
 | .seq a b,Q,Q',s,hq,h=>by
  simp only[du]at h;simp only[cg];refine lV a (fun e s d=>?_) h;cases e with
  |normal=>exact lV b hq d
  |exit id=>exact hq _ _ d
  |ret=>exact hq _ _ d
 | .cond c a b,Q,Q',s,hq,h=>by
  simp only[du]at h;simp only[cg];unfold uw at h
  split at h
  ·rename_i t m;simp only[m]
   split at h
   ·rename_i g;rw[if_pos g];exact lV a hq h
   ·rename_i g;rw[if_neg g];exact lV b hq h
  ·exact h.elim
 | .block id b,Q,Q',s,hq,h=>by
  simp only[du]at h;simp only[cg];refine lV b (fun e s d=>?_) h;cases e with
  |normal=>exact hq _ _ d
  |exit i=>
   simp only[n9]at d
   by_cases hi:i=id
   ·simp only[hi,if_true]at d⊢;exact hq _ _ d
   ·simp only[hi,if_false]at d⊢;exact hq _ _ d
  |ret=>exact hq _ _ d
 | .scope b,Q,Q',s,hq,h=>by simp only[du]at h;simp only[cg];exact lV b hq h
 | .loop b,Q,Q',s,hq,h=>by
  simp only[du]at h;simp only[cg];obtain⟨I,k,l⟩:=h;refine⟨I,k,fun n t hI=>lV b (fun e s d=>?_) (l n t hI)⟩;cases e with
  |normal=>exact d
  |exit id=>exact hq _ _ d
  |ret=>exact hq _ _ d
 | .rangeFunc f o a b,Q,Q',s,hq,h=>by
  simp only[du]at h;simp only[cg];exact⟨h.1,s.env,fun _=>rfl,Ko (fun H=>Kr hq) h.2⟩
 | .goto _,_,_,_,_,h| .refuse _,_,_,_,_,h=>by simp[du]at h
end
section
variable{P:a1}{ag:a7->Bool}{q:Cx}
theorem Ov{Q:bC->St->Prop}{s:St}:du P ag q .skip Q s=Q .normal s:=(rfl)
theorem M7{l:Nat}{Q:bC->St->Prop}{s:St}:du P ag q (.label l) Q s=Q .normal s:=(rfl)
theorem Ow{id:Nat}{Q:bC->St->Prop}{s:St}:du P ag q (.exit id) Q s=Q (.exit id) s:=(rfl)
theorem R8{Q:bC->St->Prop}{s:St}:du P ag q .ret Q s=Q .ret s:=(rfl)
theorem M5{b:Code}{Q:bC->St->Prop}{s:St}:du P ag q (.scope b) Q s=du P ag q b Q s:=(rfl)
theorem Ox{id:Nat}{l:List Oper}{Q:bC->St->Prop}{s:St}:du P ag q (.region id l.toArray true) Q s=gu P ag l.toArray l 0 [] (Q .normal) s:=by simp[du]
theorem M6{id:Nat}{l:List Oper}{Q:bC->St->Prop}{s:St}:du P ag q (.region id l.toArray false) Q s=gd P ag l.toArray l (Q .normal) s:=by simp[du]
theorem R9{a b:Code}{Q:bC->St->Prop}{s:St}:du P ag q (.seq a b) Q s=du P ag q a (uU (du P ag q b Q) Q) s:=(rfl)
theorem M8{id:Nat}{b:Code}{Q:bC->St->Prop}{s:St}:du P ag q (.block id b) Q s=du P ag q b (n9 id Q) s:=(rfl)
theorem Oy{c:a6}{a b:Code}{Q:bC->St->Prop}{s:St}:du P ag q (.cond c a b) Q s=uw (ev s.env c) (du P ag q a Q) (du P ag q b Q) s:=(rfl)
theorem Jv{K:St->Prop}{Q:bC->St->Prop}{s:St}:uU K Q .normal s=K s:=(rfl)
theorem KK{id:Nat}{K:St->Prop}{Q:bC->St->Prop}{s:St}:uU K Q (.exit id) s=Q (.exit id) s:=(rfl)
theorem LI{K:St->Prop}{Q:bC->St->Prop}{s:St}:uU K Q .ret s=Q .ret s:=(rfl)
theorem JR{t:Bool}{a b:St->Prop}{s:St}:uw (.p (.bool t)) a b s=if t then a s else b s:=(rfl)
def xl(P:a1)(ag:a7->Bool)(b:Array Oper)(r:List Oper)(i:Nat)(a:List Touch)(K:St->Prop)(dst:Option Tmp)(s:St)(e:aW):Prop:=
 gu P ag b r (i+1) (gT i s.heap.length e a) K (e.app dst s)
theorem Md{b:Array Oper}{r:List Oper}{i:Nat}{a:List Touch}{K:St->Prop}{dst:Option Tmp}{env:Env}{heap:Heap}{v:AV}{ak aK:List (Nat×Obj)}{aV:List Obj}:
 xl P ag b r i a K dst ⟨env,heap⟩ ⟨v,ak,aK,aV⟩=gu P ag b r (i+1) (gT i heap.length ⟨v,ak,aK,aV⟩ a) K ⟨put dst v env,bd heap aK++aV⟩:=(rfl)
theorem N3{dst:Option Tmp}{env:Env}{heap:Heap}{K:St->Prop}{v:AV}{ak aK:List (Nat×Obj)}{aV:List Obj}:eD dst ⟨env,heap⟩ K ⟨v,ak,aK,aV⟩=K ⟨put dst v env,bd heap aK++aV⟩:=(rfl)
theorem Nv{dst:Option Tmp}{env:Env}{heap H:Heap}{K:St->Prop}{v:AV}:A4 dst ⟨env,heap⟩ K v H=K ⟨put dst v env,H⟩:=(rfl)
def zH(P:a1)(ag:a7->Bool)(b:Array Oper)(o:Oper)(r:List Oper)(i:Nat)(a:List Touch)(K:St->Prop)(c:Bool)(s:St)(g:AV):Prop:=
 match g with
 | .p (.bool t)=>if t=c then dx P ag o s (xl P ag b r i a K o.dst s)else gu P ag b r (i+1) a K ⟨put o.dst (.p (.aG [])) s.env,s.heap⟩
 | .p (.aG [])=>gu P ag b r (i+1) a K ⟨put o.dst (.p (.aG [])) s.env,s.heap⟩
 |_=>False
def zZ(P:a1)(ag:a7->Bool)(a:Array Oper)(o:Oper)(r:List Oper)(K:St->Prop)(b:Bool)(s:St)(g:AV):Prop:=
 match g with
 | .p (.bool t)=>if t=b then dw P ag o (gd P ag a r K) s else gd P ag a r K ⟨put o.dst (.p (.aG [])) s.env,s.heap⟩
 | .p (.aG [])=>gd P ag a r K ⟨put o.dst (.p (.aG [])) s.env,s.heap⟩
 |_=>False
theorem Ou{b:Array Oper}{i:Nat}{a:List Touch}{K:St->Prop}{s:St}:gu P ag b [] i a K s=(kg b a=true/\K s):=(rfl)
theorem M0{b:Array Oper}{i c:Nat}{pos:String}{a:List Touch}{K:St->Prop}{s:St}{dst:Option Tmp}{op:Op}{af:Array Edge}{r:List Oper}:
 gu P ag b ({dst,op,type:=c,pos,after:=af,guard:=none}::r) i a K s=dx P ag {dst,op,type:=c,pos,after:=af,guard:=none} s (xl P ag b r i a K dst s):=(rfl)
theorem LN{a:Array Oper}{i d j:Nat}{b:Bool}{pos:String}{c:List Touch}{K:St->Prop}{s:St}{dst:Option Tmp}{op:Op}{af:Array Edge}{r:List Oper}:
 gu P ag a ({dst,op,type:=d,pos,after:=af,guard:=some (j,b)}::r) i c K s=zH P ag a {dst,op,type:=d,pos,after:=af,guard:=some (j,b)} r i c K b s (guardOf a j s.env):=(rfl)
theorem Oq{a:Array Oper}{K:St->Prop}{s:St}:gd P ag a [] K s=K s:=(rfl)
theorem MY{a:Array Oper}{b:Nat}{pos:String}{K:St->Prop}{s:St}{dst:Option Tmp}{op:Op}{af:Array Edge}{r:List Oper}:
 gd P ag a ({dst,op,type:=b,pos,after:=af,guard:=none}::r) K s=dw P ag {dst,op,type:=b,pos,after:=af,guard:=none} (gd P ag a r K) s:=(rfl)
theorem LM{a:Array Oper}{c j:Nat}{b:Bool}{pos:String}{K:St->Prop}{s:St}{dst:Option Tmp}{op:Op}{af:Array Edge}{r:List Oper}:
 gd P ag a ({dst,op,type:=c,pos,after:=af,guard:=some (j,b)}::r) K s=zZ P ag a {dst,op,type:=c,pos,after:=af,guard:=some (j,b)} r K b s (guardOf a j s.env):=(rfl)
end
section Ex
variable{P:a1}{ag:a7->Bool}{q:Cx}
end Ex
section ops
variable{P:a1}{ag:a7->Bool}{dst:Option Tmp}{ty:Nat}{pos:String}{af:Array Edge}{g:Option (Nat×Bool)}{env:Env}{heap:Heap}{K:aW->Prop}{L:St->Prop}
theorem Pt{x:a6}:dx P ag ⟨dst,.move x,ty,pos,af,g⟩ ⟨env,heap⟩ K=K {v:=ev env x}:=(rfl)
theorem Mb{x:a6}:dx P ag ⟨dst,.assign x,ty,pos,af,g⟩ ⟨env,heap⟩ K=K {v:=ev env x}:=(rfl)
theorem Pr{c a b:a6}:dx P ag ⟨dst,.pick c a b,ty,pos,af,g⟩ ⟨env,heap⟩ K=bn (rQ (ev env c) (ev env a) (ev env b)) K:=(rfl)
theorem NO{T:a0}:dx P ag ⟨dst,.alloc T,ty,pos,af,g⟩ ⟨env,heap⟩ K=bn (rD P T heap.length) K:=(rfl)
theorem P5{T:a0}{x:a6}:dx P ag ⟨dst,.box T x,ty,pos,af,g⟩ ⟨env,heap⟩ K=bn (uJ P T heap.length (ev env x)) K:=(rfl)
theorem NL{T:a0}{a:Array (Nat×a6)}:dx P ag ⟨dst,.build T a,ty,pos,af,g⟩ ⟨env,heap⟩ K=bn (rB P T (a.toList.map fun(i,x)=>(i,ev env x))) K:=(rfl)
theorem I8{T:a0}{n:Nat}{a:Array (Nat×a6)}:dx P ag ⟨dst,.buildSlice T n a,ty,pos,af,g⟩ ⟨env,heap⟩ K=bn (qK P T n (a.toList.map fun(i,x)=>(i,ev env x)) heap.length) K:=(rfl)
theorem O5{T:a0}{a:a6}:dx P ag ⟨dst,.load T a,ty,pos,af,g⟩ ⟨env,heap⟩ K=bn (qc P T heap (ev env a)) K:=(rfl)
theorem NG{T:a0}{a x:a6}:dx P ag ⟨dst,.store T a x,ty,pos,af,g⟩ ⟨env,heap⟩ K=bn (pQ P T heap (ev env a) (ev env x)) K:=(rfl)
theorem P3{op:a8}{T a:a0}{x y:a6}:dx P ag ⟨dst,.binOp op T x y a,ty,pos,af,g⟩ ⟨env,heap⟩ K=bn (aU P op T (mv y) heap (ev env x) (ev env y)) K:=(rfl)
theorem P9{op:UnOp}{T:a0}{x:a6}:dx P ag ⟨dst,.unOp op T x,ty,pos,af,g⟩ ⟨env,heap⟩ K=bn (sQ op (ev env x)) K:=(rfl)
theorem O7{S D:a0}{x:a6}:dx P ag ⟨dst,.convert S D x,ty,pos,af,g⟩ ⟨env,heap⟩ K=bn (rJ P S D heap (ev env x)) K:=(rfl)
theorem Lh{t:a6}{i:Nat}:dx P ag ⟨dst,.extract t i,ty,pos,af,g⟩ ⟨env,heap⟩ K=bn (qW (ev env t) i) K:=(rfl)
theorem Jx{T:a0}{a:a6}{f:Nat}:dx P ag ⟨dst,.fieldAddr T a f,ty,pos,af,g⟩ ⟨env,heap⟩ K=bn (pj P T (ev env a) f) K:=(rfl)
theorem Jw{T:a0}{x i:a6}:dx P ag ⟨dst,.indexAddr T x i,ty,pos,af,g⟩ ⟨env,heap⟩ K=bn (ph P T heap (ev env x) (ev env i)) K:=(rfl)
theorem NK{T:a0}{x i:a6}:dx P ag ⟨dst,.index T x i,ty,pos,af,g⟩ ⟨env,heap⟩ K=bn (rF P T (ev env x) (ev env i)) K:=(rfl)
theorem P6{x:a6}{a:Array a0}:dx P ag ⟨dst,.call {callee:=.builtin .len,args:=#[x],argTypes:=a},ty,pos,af,g⟩ ⟨env,heap⟩ K=bn (sG P (a.getD 0 0) a.size heap (ev env x)) K:=(rfl)
theorem O8{f:a6}{args:List a6}{a:Array a0}:dx P ag ⟨dst,.call {callee:=.value f,args:=args.toArray,argTypes:=a},ty,pos,af,g⟩ ⟨env,heap⟩ K=rA P (ev env f) (args.map (ev env)) heap K:=(rfl)
theorem OQ{x:a6}:dw P ag ⟨dst,.move x,ty,pos,af,g⟩ L ⟨env,heap⟩=eD dst ⟨env,heap⟩ L {v:=ev env x}:=(rfl)
theorem Ls{x:a6}:dw P ag ⟨dst,.assign x,ty,pos,af,g⟩ L ⟨env,heap⟩=eD dst ⟨env,heap⟩ L {v:=ev env x}:=(rfl)
theorem OO{c a b:a6}:dw P ag ⟨dst,.pick c a b,ty,pos,af,g⟩ L ⟨env,heap⟩=bn (rQ (ev env c) (ev env a) (ev env b)) (eD dst ⟨env,heap⟩ L):=(rfl)
theorem Ni{T:a0}:dw P ag ⟨dst,.alloc T,ty,pos,af,g⟩ L ⟨env,heap⟩=bn (rD P T heap.length) (eD dst ⟨env,heap⟩ L):=(rfl)
theorem Rv{T:a0}{x:a6}:dw P ag ⟨dst,.box T x,ty,pos,af,g⟩ L ⟨env,heap⟩=bn (uJ P T heap.length (ev env x)) (eD dst ⟨env,heap⟩ L):=(rfl)
theorem Nh{T:a0}{a:Array (Nat×a6)}:dw P ag ⟨dst,.build T a,ty,pos,af,g⟩ L ⟨env,heap⟩=bn (rB P T (a.toList.map fun(i,x)=>(i,ev env x))) (eD dst ⟨env,heap⟩ L):=(rfl)
theorem IY{T:a0}{n:Nat}{a:Array (Nat×a6)}:dw P ag ⟨dst,.buildSlice T n a,ty,pos,af,g⟩ L ⟨env,heap⟩=bn (qK P T n (a.toList.map fun(i,x)=>(i,ev env x)) heap.length) (eD dst ⟨env,heap⟩ L):=(rfl)
theorem OR{T:a0}{a:a6}:dw P ag ⟨dst,.load T a,ty,pos,af,g⟩ L ⟨env,heap⟩=bn (qc P T heap (ev env a)) (eD dst ⟨env,heap⟩ L):=(rfl)
theorem Nx{T:a0}{a x:a6}:dw P ag ⟨dst,.store T a x,ty,pos,af,g⟩ L ⟨env,heap⟩=bn (pQ P T heap (ev env a) (ev env x)) (eD dst ⟨env,heap⟩ L):=(rfl)
theorem Ru{op:a8}{T a:a0}{x y:a6}:dw P ag ⟨dst,.binOp op T x y a,ty,pos,af,g⟩ L ⟨env,heap⟩=bn (aU P op T (mv y) heap (ev env x) (ev env y)) (eD dst ⟨env,heap⟩ L):=(rfl)
theorem RA{op:UnOp}{T:a0}{x:a6}:dw P ag ⟨dst,.unOp op T x,ty,pos,af,g⟩ L ⟨env,heap⟩=bn (sQ op (ev env x)) (eD dst ⟨env,heap⟩ L):=(rfl)
theorem OT{S D:a0}{x:a6}:dw P ag ⟨dst,.convert S D x,ty,pos,af,g⟩ L ⟨env,heap⟩=bn (rJ P S D heap (ev env x)) (eD dst ⟨env,heap⟩ L):=(rfl)
theorem Kq{t:a6}{i:Nat}:dw P ag ⟨dst,.extract t i,ty,pos,af,g⟩ L ⟨env,heap⟩=bn (qW (ev env t) i) (eD dst ⟨env,heap⟩ L):=(rfl)
theorem Jo{T:a0}{a:a6}{f:Nat}:dw P ag ⟨dst,.fieldAddr T a f,ty,pos,af,g⟩ L ⟨env,heap⟩=bn (pj P T (ev env a) f) (eD dst ⟨env,heap⟩ L):=(rfl)
theorem Jn{T:a0}{x i:a6}:dw P ag ⟨dst,.indexAddr T x i,ty,pos,af,g⟩ L ⟨env,heap⟩=bn (ph P T heap (ev env x) (ev env i)) (eD dst ⟨env,heap⟩ L):=(rfl)
theorem Ng{T:a0}{x i:a6}:dw P ag ⟨dst,.index T x i,ty,pos,af,g⟩ L ⟨env,heap⟩=bn (rF P T (ev env x) (ev env i)) (eD dst ⟨env,heap⟩ L):=(rfl)
theorem Rw{x:a6}{a:Array a0}:dw P ag ⟨dst,.call {callee:=.builtin .len,args:=#[x],argTypes:=a},ty,pos,af,g⟩ L ⟨env,heap⟩=bn (sG P (a.getD 0 0) a.size heap (ev env x)) (eD dst ⟨env,heap⟩ L):=(rfl)
theorem OU{f:a6}{args:List a6}{a:Array a0}:dw P ag ⟨dst,.call {callee:=.value f,args:=args.toArray,argTypes:=a},ty,pos,af,g⟩ L ⟨env,heap⟩=rK P (ev env f) (args.map (ev env)) heap (A4 dst ⟨env,heap⟩ L):=(rfl)
theorem NH{T:a0}{x:a6}{lo hi:Option a6}:dx P ag ⟨dst,.slice T x lo hi none,ty,pos,af,g⟩ ⟨env,heap⟩ K=bn (pS P T heap (ev env x) (lo.map (ev env)) (hi.map (ev env))) K:=(rfl)
theorem Nd{T:a0}{x:a6}{lo hi:Option a6}:dw P ag ⟨dst,.slice T x lo hi none,ty,pos,af,g⟩ L ⟨env,heap⟩=bn (pS P T heap (ev env x) (lo.map (ev env)) (hi.map (ev env))) (eD dst ⟨env,heap⟩ L):=(rfl)
theorem L9{T:a0}{x i:a6}{ok:Bool}:dx P ag ⟨dst,.lookup T x i ok,ty,pos,af,g⟩ ⟨env,heap⟩ K=bn (rN P T heap (ev env x) (ev env i) ok) K:=(rfl)
theorem Lq{T:a0}{x i:a6}{ok:Bool}:dw P ag ⟨dst,.lookup T x i ok,ty,pos,af,g⟩ L ⟨env,heap⟩=bn (rN P T heap (ev env x) (ev env i) ok) (eD dst ⟨env,heap⟩ L):=(rfl)
theorem JK{T:a0}{m k x:a6}:dx P ag ⟨dst,.mapUpdate T m k x,ty,pos,af,g⟩ ⟨env,heap⟩ K=bn (mu P T heap (ev env m) (ev env k) (ev env x)) K:=(rfl)
theorem Jl{T:a0}{m k x:a6}:dw P ag ⟨dst,.mapUpdate T m k x,ty,pos,af,g⟩ L ⟨env,heap⟩=bn (mu P T heap (ev env m) (ev env k) (ev env x)) (eD dst ⟨env,heap⟩ L):=(rfl)
theorem Ma{T:a0}{m k x:a6}:dx P ag ⟨dst,.insert T m k x,ty,pos,af,g⟩ ⟨env,heap⟩ K=bn (mu P T heap (ev env m) (ev env k) (ev env x)) K:=(rfl)
theorem Lr{T:a0}{m k x:a6}:dw P ag ⟨dst,.insert T m k x,ty,pos,af,g⟩ L ⟨env,heap⟩=bn (mu P T heap (ev env m) (ev env k) (ev env x)) (eD dst ⟨env,heap⟩ L):=(rfl)
theorem NJ{T:a0}{x:a6}:dx P ag ⟨dst,.range T x,ty,pos,af,g⟩ ⟨env,heap⟩ K=bn (ry P T heap.length (ev env x)) K:=(rfl)
theorem Nf{T:a0}{x:a6}:dw P ag ⟨dst,.range T x,ty,pos,af,g⟩ L ⟨env,heap⟩=bn (ry P T heap.length (ev env x)) (eD dst ⟨env,heap⟩ L):=(rfl)
theorem Ps{it:a6}:dx P ag ⟨dst,.next it true,ty,pos,af,g⟩ ⟨env,heap⟩ K=bn (rT heap (ev env it)) K:=(rfl)
theorem OP{it:a6}:dw P ag ⟨dst,.next it true,ty,pos,af,g⟩ L ⟨env,heap⟩=bn (rT heap (ev env it)) (eD dst ⟨env,heap⟩ L):=(rfl)
theorem JL{T:a0}{l c:a6}:dx P ag ⟨dst,.makeSlice T l c,ty,pos,af,g⟩ ⟨env,heap⟩ K=bn (rV P T heap.length (ev env l) (ev env c)) K:=(rfl)
theorem Jm{T:a0}{l c:a6}:dw P ag ⟨dst,.makeSlice T l c,ty,pos,af,g⟩ L ⟨env,heap⟩=bn (rV P T heap.length (ev env l) (ev env c)) (eD dst ⟨env,heap⟩ L):=(rfl)
theorem JO{x:a6}:dx P ag ⟨dst,.nilCheck x,ty,pos,af,g⟩ ⟨env,heap⟩ K=bn (rk (ev env x)) K:=(rfl)
theorem Ka{x:a6}:dw P ag ⟨dst,.nilCheck x,ty,pos,af,g⟩ L ⟨env,heap⟩=bn (rk (ev env x)) (eD dst ⟨env,heap⟩ L):=(rfl)
theorem P8{args:Array a6}{a:Array a0}:dx P ag ⟨dst,.call {callee:=.builtin .min,args,argTypes:=a},ty,pos,af,g⟩ ⟨env,heap⟩ K=bn (kK false (args.toList.map (ev env))) K:=(rfl)
theorem Ry{args:Array a6}{a:Array a0}:dw P ag ⟨dst,.call {callee:=.builtin .min,args,argTypes:=a},ty,pos,af,g⟩ L ⟨env,heap⟩=bn (kK false (args.toList.map (ev env))) (eD dst ⟨env,heap⟩ L):=(rfl)
theorem P7{args:Array a6}{a:Array a0}:dx P ag ⟨dst,.call {callee:=.builtin .max,args,argTypes:=a},ty,pos,af,g⟩ ⟨env,heap⟩ K=bn (kK true (args.toList.map (ev env))) K:=(rfl)
theorem Rx{args:Array a6}{a:Array a0}:dw P ag ⟨dst,.call {callee:=.builtin .max,args,argTypes:=a},ty,pos,af,g⟩ L ⟨env,heap⟩=bn (kK true (args.toList.map (ev env))) (eD dst ⟨env,heap⟩ L):=(rfl)
theorem Lg{T:a0}:dx P ag ⟨dst,.makeMap T none,ty,pos,af,g⟩ ⟨env,heap⟩ K=K {v:=.map heap.length,aV:=[.map false []]}:=(rfl)
theorem K2{T:a0}:dw P ag ⟨dst,.makeMap T none,ty,pos,af,g⟩ L ⟨env,heap⟩=eD dst ⟨env,heap⟩ L {v:=.map heap.length,aV:=[.map false []]}:=(rfl)
theorem Mc{s x:a6}{T X:a0}:dx P ag ⟨dst,.call {callee:=.builtin .append,args:=#[s,x],argTypes:=#[T,X]},ty,pos,af,g⟩ ⟨env,heap⟩ K=bn (pP P T X heap (ev env s) (ev env x)) K:=by simp[dx,kP]
theorem Lt{s x:a6}{T X:a0}:dw P ag ⟨dst,.call {callee:=.builtin .append,args:=#[s,x],argTypes:=#[T,X]},ty,pos,af,g⟩ L ⟨env,heap⟩=bn (pP P T X heap (ev env s) (ev env x)) (eD dst ⟨env,heap⟩ L):=by simp[dw,kP]
theorem O6{s x:a6}{T X:a0}:dx P ag ⟨dst,.call {callee:=.builtin .copy,args:=#[s,x],argTypes:=#[T,X]},ty,pos,af,g⟩ ⟨env,heap⟩ K=bn (copyV P T heap (ev env s) (ev env x)) K:=by simp[dx,kP]
theorem OS{s x:a6}{T X:a0}:dw P ag ⟨dst,.call {callee:=.builtin .copy,args:=#[s,x],argTypes:=#[T,X]},ty,pos,af,g⟩ L ⟨env,heap⟩=bn (copyV P T heap (ev env s) (ev env x)) (eD dst ⟨env,heap⟩ L):=by simp[dw,kP]
theorem P0{f:a7}{fi ca:List AV}{args:List AV}{M:AV->Heap->Prop}:rK P (.func f fi ca) args heap M=gS P false f (fi++args++ca) heap M:=(rfl)
theorem O9{f:a7}{fi ca:List AV}{args:List AV}:rA P (.func f fi ca) args heap K=gZ P f (fi++args++ca) heap K:=(rfl)
theorem P1{f:a7}{fi ca:List PV}{args:List AV}{M:AV->Heap->Prop}:rK P (.p (.func f fi ca)) args heap M=gS P false f (fi.map .p++args++ca.map .p) heap M:=(rfl)
theorem P2{f:a7}{fi ca:List PV}{args:List AV}:rA P (.p (.func f fi ca)) args heap K=gZ P f (fi.map .p++args++ca.map .p) heap K:=(rfl)
end ops
section
variable{P:a1}
@[simp] theorem aML{b:Bool}:aL (.bool b)=.leaf:=(rfl)
@[simp] theorem aM1{k:be}{n:Int}:aL (.int k n)=.leaf:=(rfl)
@[simp] theorem aM6{l:List Nat}:aL (.str l)=.leaf:=(rfl)
@[simp] theorem aM2:aL .aP=.leaf:=(rfl)
@[simp] theorem aM3{l:List PV}:aL (.seq l)=.leaf:=(rfl)
@[simp] theorem aM5{u:a0}{fs:List PV}:aL (.st u fs)=.agg u:=(rfl)
@[simp] theorem aMI{v:PV}:ad (.p v)=aL v:=(rfl)
@[simp] theorem aMK{u:a0}{fs:List AV}:ad (.st u fs)=.agg u:=(rfl)
@[simp] theorem aMJ{b v e o l:Nat}:ad (.sl b v e o l)=.leaf:=(rfl)
@[simp] theorem aLS{u:a0}{fs:List PV}:cM (.st u fs)=fs:=(rfl)
theorem W6{a:List bk}{Q:PV->Prop}{s:St}:Ax P a Q .ret s=∃vs,fK P s a=some vs/\∃v,et s.heap 9 (oneOf vs)=some v/\Q v:=by simp[Ax]
theorem UZ{a:List bk}{Q:PV->Prop}{s:St}:Ax P a Q .normal s=∃vs,fK P s a=some vs/\∃v,et s.heap 9 (oneOf vs)=some v/\Q v:=by simp[Ax]
attribute [simp] W6 UZ jl Ov M7 Ow R8 M5 Ox M6 R9 M8 Oy Jv KK LI JR Md N3 Nv Ou M0 Oq MY LN LM
 Pt Mb Pr NO P5 NL I8 O5 NG P3 P9 O7 Lh Jx Jw NK P6 O8
 OQ Ls OO Ni Rv Nh IY OR Nx Ru RA OT Kq Jo Jn Ng Rw OU P1 P2 NH Nd L9 Lq JK Jl Ma Lr NJ Nf Ps OP JL Jm JO Ka P8 Ry P7 Rx Lg K2 Mc Lt O6 OS P0 O9 pP kA pS rN mu ry rT rV copyV rk kK gO dE fg fD jn qp mf ub gk iB l8 Wl WU
 Uh Vw Ww T6 UM Wb
 aN put iQ ev ofConst bd gT ij nZ fe kV fX ib dO rQ rD uJ jo rB qK aU uQ FD sQ rJ qW rF sG qc pQ pj ph lenOf gW iA l7 bI
 mv fK pT oneOf et
end
section
variable{P:a1}{ag:a7->Bool}
def sE:jr->jr->Bool
 | .leaf,.leaf=>true
 | .agg u,.agg v=>ej u v
 |_,_=>false
theorem iR{a b:jr}(h:sE a b=true):a=b/\b≠.bad:=by
 cases a<;>cases b<;>simp_all [sE]
def kE:AK->AK->Bool
 | .exact,.exact| .grow,.grow| .frozen,.frozen| .bytes,.bytes=>true
 |_,_=>false
def xF:AK->Bool
 | .frozen=>false
 |_=>true
theorem D2{k:AK}(h:xF k=true):k≠.frozen:=by cases k<;>simp_all [xF]
def oL(k:AK)(a:List AV):Bool:=match k.gr,a with
 |true,[]=>false
 |_,_=>true
theorem wW{k:AK}{a:List AV}(h:oL k a=true):¬(k.gr=true/\a=[]):=by
 rintro⟨b,rfl⟩;simp[oL,b]at h
theorem dA{a b:Nat}(h:ej a b=true):a=b:=Nat.eq_of_beq_eq_true h
theorem c8{a b:Nat}(h:em a b=true):a<=b:=Nat.le_of_ble_eq_true h
def Qp:be->be->Bool:=fun a b=>decide (a=b)
def wX(P:a1)(l:List Nat):List (Nat×AV)->Bool
 |[]=>true
 |(i,v)::r=>(match l[i]? with
  |some n=>ej (bI P (ad v)) n&&(match ad v with
   | .bad=>false
   |_=>true)
  |none=>false)&&wX P l r
theorem Cu{l:List Nat}:∀{r:List (Nat×AV)},wX P l r=true->l7 P l r
 |[],_=>trivial
 |(i,v)::r,h=>by
  simp only[wX,ay]at h;refine⟨?_,Cu h.2⟩;have a:=h.1
  split at a
  ·rename_i n c;simp only[ay]at a;refine⟨n,c,dA a.1,fun b=>?_⟩;rw[b]at a;simp at a
  ·simp at a
def qd(P:a1)(sz:Nat):List AV->Bool
 |[]=>true
 |v::r=>(match ad v with
  | .bad=>false
  |s=>ej (bI P s) sz)&&qd P sz r
theorem ug{sz:Nat}:∀{r:List AV},qd P sz r=true->fg P sz r
 |[],_=>trivial
 |v::r,h=>by
  simp only[qd,ay]at h;refine⟨?_,ug h.2⟩;have a:=h.1
  split at a
  ·simp at a
  ·rename_i b;exact⟨b,dA a⟩
def Fk(P:a1)(T:a0)(H:Heap)(a:AV):Option aW:=
 match a with
 | .ptr b path=>match H[b]? with
  |some (.box fz t)=>match fe t path with
   |some s=>bif sE (kindOf P T) (ad s)then some {v:=s,ak:=[(b,.box fz t)]}else none
   |none=>none
  |_=>none
 | .b6 b aA ai i path=>match H[b]? with
  |some (.arr k d c es)=>bif ej aA d&&ej ai c then match es[i]? with
   |some x=>match fe x path with
    |some s=>bif sE (kindOf P T) (ad s)then some {v:=s,ak:=[(b,.arr k d c es)]}else none
    |none=>none
   |none=>none
   else none
  |_=>none
 | .p (.cE t)=>bif sE (kindOf P T) (aL t)then some {v:=.p t}else none
 |_=>none
theorem Ya{T:a0}{H:Heap}{a:AV}{e:aW}{K:aW->Prop}(h:Fk P T H a=some e)(hk:K e):od P T H a K:=by
 unfold Fk at h;unfold od
 split at h
 ·split at h
  ·split at h
   ·rename_i hs;simp only[ax,e7,e9]at h;rename_i c _ _;obtain⟨b,rfl⟩:=h;simp only[c,hs];exact⟨(iR b).1,hk⟩
   ·simp at h
  ·simp at h
 ·split at h
  ·rename_i c;simp only[ax,e7,ay]at h;obtain⟨⟨b,d⟩,h⟩:=h
   split at h
   ·rename_i hx
    split at h
    ·rename_i hs;simp only[e7,e9]at h;obtain⟨f,rfl⟩:=h;obtain⟨hi,rfl⟩:=ck.1 hx;simp only[c];refine⟨dA b,dA d,hi,?_⟩;simp only[hs];exact⟨(iR f).1,hk⟩
    ·simp at h
   ·simp at h
  ·simp at h
 ·simp only[ax,e7,e9]at h;obtain⟨b,rfl⟩:=h;exact⟨(iR b).1,hk⟩
 ·simp at h
def DT(P:a1)(T:a0)(H:Heap)(a x:AV):Option aW:=
 bif sE (kindOf P T) (ad x)then match a with
 | .ptr b path=>match H[b]? with
  |some (.box false t)=>match fe t path,fX t path x with
   |some s,some d=>bif sE (ad s) (ad x)then some {v:=.p (.aG []),ak:=[(b,.box false t)],aK:=[(b,.box false d)]}else none
   |_,_=>none
  |_=>none
 | .b6 b aA ai i path=>match H[b]? with
  |some (.arr k e c es)=>bif ej aA e&&(ej ai c&&xF k)then match es[i]? with
   |some y=>match fe y path,fX y path x with
    |some s,some d=>bif sE (ad s) (ad x)then some {v:=.p (.aG []),ak:=[(b,.arr k e c es)],aK:=[(b,.arr k e c (es.set i d))]}else none
    |_,_=>none
   |none=>none
   else none
  |_=>none
 |_=>none
 else none
theorem Wp{T:a0}{H:Heap}{a x:AV}{e:aW}{K:aW->Prop}(h:DT P T H a x=some e)(hk:K e):nW P T H a x K:=by
 unfold DT at h;unfold nW;simp only[ax,e7]at h;obtain⟨f,h⟩:=h;refine⟨(iR f).1,(iR f).2,?_⟩
 split at h
 ·split at h
  ·rename_i c
   split at h
   ·rename_i hs d;simp only[e7,e9]at h;obtain⟨b,rfl⟩:=h;simp only[c,hs,d];exact⟨(iR b).1,hk⟩
   ·simp at h
  ·simp at h
 ·split at h
  ·rename_i c;simp only[e7,ay]at h;obtain⟨⟨b,g,i⟩,h⟩:=h
   split at h
   ·rename_i k
    split at h
    ·rename_i hs d;simp only[e7,e9]at h;obtain⟨j,rfl⟩:=h;obtain⟨hi,rfl⟩:=ck.1 k;simp only[c];refine⟨dA b,dA g,D2 i,hi,?_⟩;simp only[hs,d];exact⟨(iR j).1,hk⟩
    ·simp at h
   ·simp at h
  ·simp at h
 ·simp at h
def EL(op:a8)(k:be)(a b:Int):Option PV:=
 match op with
 | .add=>some (.int k (k.wrap (a+b)))
 | .sub=>some (.int k (k.wrap (a-b)))
 | .mul=>some (.int k (k.wrap (a*b)))
 | .quo=>match b with
  | .ofNat 0=>none
  |b=>some (.int k (k.wrap (a.tdiv b)))
 | .rem=>match b with
  | .ofNat 0=>none
  |b=>some (.int k (a.tmod b))
 | .and=>some (.int k (k.wrap (av k.bits a&&&av k.bits b).toNat))
 | .or=>some (.int k (k.wrap (av k.bits a|||av k.bits b).toNat))
 | .xor=>some (.int k (k.wrap (av k.bits a^^^av k.bits b).toNat))
 | .andNot=>some (.int k (k.wrap (av k.bits a&&&~~~av k.bits b).toNat))
 | .eql=>some (.bool (a==b))
 | .neq=>some (.bool (a !=b))
 | .lss=>some (.bool (decide (a<b)))
 | .leq=>some (.bool (decide (a<=b)))
 | .gtr=>some (.bool (decide (a>b)))
 | .geq=>some (.bool (decide (a>=b)))
 | .shl=>match b with
  | .ofNat _=>some (.int k (k.wrap (a*2^(min b.toNat k.bits))))
  |_=>none
 | .shr=>match b with
  | .ofNat _=>some (.int k (a.fdiv (2^(min b.toNat k.bits))))
  |_=>none
theorem axk{op:a8}{k:be}{a b:Int}{v:PV}{K:PV->Prop}(h:EL op k a b=some v)(hk:K v):pZ op k a b K:=by
 cases op<;>simp only[EL]at h<;>simp only[pZ]
 case quo|rem=>
  split at h
  ·simp at h
  ·rename_i d;simp only[e9]at h;subst h;exact⟨fun c=>d (by rw[c];rfl),hk⟩
 case shl|shr=>
  split at h
  ·simp only[e9]at h;subst h;exact⟨b5 _,hk⟩
  ·simp at h
 all_goals (simp only[e9]at h;subst h;exact hk)
def Es(P:a1)(op:a8)(T:a0)(c:Bool)(H:Heap)(x y:AV):Option PV:=
 match x,y with
 | .p (.int k a),.p (.int d b)=>bif Qp k d||(match op with
  | .shl| .shr=>true
  |_=>false)then EL op k a b else none
 | .p (.str a),.p (.str b)=>match op with
  | .add=>bif em (a.length+b.length) 9223372036854775807 then some (.str (a++b))else none
  | .eql=>some (.bool (a==b))
  | .neq=>some (.bool (!(a==b)))
  | .lss=>some (.bool (jj a b))
  | .leq=>some (.bool (jj a b||a==b))
  | .gtr=>some (.bool (!(jj a b||a==b)))
  | .geq=>some (.bool (!(jj a b)))
  |_=>none
 | .p (.bool a),.p (.bool b)=>bif rq P T then match op with
  | .eql=>some (.bool (a==b))
  | .neq=>some (.bool (!(a==b)))
  |_=>none
  else none
 | .p (.st u fs),.p (.st u' gs)=>bif su P T then match ir P 9 T (.st u fs) (.st u' gs),op with
  |some r,.eql=>some (.bool r)
  |some r,.neq=>some (.bool !r)
  |_,_=>none
  else none
 |x,y=>match dD P T c y with
  |some k=>match cX H k x,op with
   |some r,.eql=>some (.bool r)
   |some r,.neq=>some (.bool !r)
   |_,_=>none
  |none=>none
theorem Zb{op:a8}{T:a0}{c:Bool}{H:Heap}{x y:AV}{v:PV}{K:PV->Prop}(h:Es P op T c H x y=some v)(hk:K v):kt P op T c H x y K:=by
 unfold Es at h;unfold kt
 split at h
 ·simp only[ax,e7,Bool.or_eq_true,Qp,decide_eq_true_eq]at h;refine⟨?_,axk h.2 hk⟩;rcases h.1 with b|b
  ·exact .inl b
  ·cases op<;>simp at b<;>simp
 ·split at h<;>simp only[pY]
  ·simp only[ax,e7,e9]at h;obtain⟨b,rfl⟩:=h;exact⟨by have:=c8 b;omega,hk⟩
  ·simp only[e9]at h;subst h;exact hk
  ·simp only[e9]at h;subst h;exact hk
  ·simp only[e9]at h;subst h;exact hk
  ·simp only[e9]at h;subst h;exact hk
  ·simp only[e9]at h;subst h;exact hk
  ·simp only[e9]at h;subst h;exact hk
  ·simp at h
 ·simp only[ax,e7]at h;refine⟨h.1,?_⟩;have a:=h.2
  split at a
  ·simp only[e9]at a;subst a;exact hk
  ·simp only[e9]at a;subst a;exact hk
  ·simp at a
 ·simp only[ax,e7]at h;refine⟨h.1,?_⟩;have a:=h.2
  split at a
  ·rename_i d;simp only[e9]at a;subst a;simp only[d];exact hk
  ·rename_i d;simp only[e9]at a;subst a;simp only[d];exact hk
  ·simp at a
 ·split at h
  case h_2=>simp at h
  rename_i k f;show kt P op T c H x y _;rw[K5 f];obtain⟨r,e,d⟩:∃r,cX H k x=some r/\((op=.eql/\v=.bool r)\/(op=.neq/\v=.bool !r)):=by
   revert h;generalize cX H k x=q;intro h;cases q with
   |none=>simp at h
   |some r=>cases op<;>simp at h<;>exact⟨r,rfl,by simp[h]⟩
  rw[e];rcases d with⟨rfl,rfl⟩|⟨rfl,rfl⟩<;>exact hk
def Cn(P:a1)(T:a0)(a:AV)(f:Nat):Option aW:=
 match fU P T with
 |some (u,n)=>bif em (f+1) n then match a with
  | .ptr b path=>some {v:=.ptr b (path++[(u,f)])}
  | .b6 b aA ai i path=>some {v:=.b6 b aA ai i (path++[(u,f)])}
  | .p (.cE t)=>bif sE (aL t) (.agg u)then match(cM t)[f]? with
   |some g=>some {v:=.p (.cE g)}
   |none=>none
   else none
  |_=>none
  else none
 |_=>none
theorem Ua{T:a0}{a:AV}{f:Nat}{e:aW}{K:aW->Prop}(h:Cn P T a f=some e)(hk:K e):nN P T a f K:=by
 unfold Cn at h;unfold nN
 split at h
 ·rename_i hs;simp only[ax,e7]at h;obtain⟨b,h⟩:=h;simp only[hs];refine⟨by have:=c8 b;omega,?_⟩
  split at h
  ·simp only[e9]at h;subst h;exact hk
  ·simp only[e9]at h;subst h;exact hk
  ·simp only[e7]at h;obtain⟨c,h⟩:=h
   split at h
   ·rename_i d;simp only[e9]at h;subst h;simp only[d];exact⟨(iR c).1,hk⟩
   ·simp at h
  ·simp at h
 ·simp at h
def oE(a:Option Nat)(b:Nat):Bool:=match a with
 |some x=>ej x b
 |none=>false
theorem xj{a:Option Nat}{b:Nat}(h:oE a b=true):a=some b:=by
 unfold oE at h;split at h
 ·rw[dA h]
 ·simp at h
def Ck(P:a1)(T:a0)(H:Heap)(x i:AV):Option aW:=
 match i with
 | .p (.int _ (.ofNat i))=>match x with
  | .p (.bP _ es)=>match es[i]? with
   |some y=>bif oE (cR P T) (bI P (aL y))then some {v:=.p (.cE y)}else none
   |none=>none
  | .p (.seq es)=>match es[i]? with
   |some y=>bif oE (cR P T) (bI P (aL y))then some {v:=.p (.cE y)}else none
   |none=>none
  | .sl b aA ai off len=>bif oE (cR P T) ai&&em (i+1) len then match H[b]? with
   |some (.arr k c a es)=>bif ej aA c&&(ej ai a&&oL k es)then some {v:=.b6 b aA ai (off+i) [],ak:=[(b,.arr k c a es)]}else none
   |_=>none
   else none
  | .ptr b path=>match hJ P T with
   |some (u,n)=>bif em (i+1) n then some {v:=.ptr b (path++[(u,i)])}else none
   |_=>none
  | .b6 b aA ai j path=>match hJ P T with
   |some (u,n)=>bif em (i+1) n then some {v:=.b6 b aA ai j (path++[(u,i)])}else none
   |_=>none
  | .p (.cE t)=>match hJ P T with
   |some (u,n)=>bif sE (aL t) (.agg u)&&em (i+1) n then match(cM t)[i]? with
    |some g=>some {v:=.p (.cE g)}
    |none=>none
    else none
   |_=>none
  |_=>none
 |_=>none
theorem Um{T:a0}{H:Heap}{x i:AV}{e:aW}{K:aW->Prop}(h:Ck P T H x i=some e)(hk:K e):nM P T H x i K:=by
 unfold Ck at h;unfold nM
 split at h
 case h_2=>simp at h
 rename_i i;refine⟨b5 _,?_⟩;simp only[cb,cc]
 split at h
 ·split at h
  ·rename_i y d;simp only[ax,e7,e9]at h;obtain⟨a,rfl⟩:=h;obtain⟨hi,rfl⟩:=ck.1 d;exact⟨hi,xj a,hk⟩
  ·simp at h
 ·split at h
  ·rename_i y d;simp only[ax,e7,e9]at h;obtain⟨a,rfl⟩:=h;obtain⟨hi,rfl⟩:=ck.1 d;exact⟨hi,xj a,hk⟩
  ·simp at h
 ·simp only[ax,e7,ay]at h;obtain⟨⟨a,c⟩,h⟩:=h;refine⟨xj a,by have:=c8 c;omega,?_⟩
  split at h
  ·rename_i k;simp only[e7,e9]at h;obtain⟨⟨f,g,j⟩,rfl⟩:=h;simp only[k];exact⟨dA f,dA g,wW j,hk⟩
  ·simp at h
 ·split at h
  ·rename_i b;simp only[ax,e7,e9]at h;obtain⟨a,rfl⟩:=h;simp only[b];exact⟨by have:=c8 a;omega,hk⟩
  ·simp at h
 ·split at h
  ·rename_i b;simp only[ax,e7,e9]at h;obtain⟨a,rfl⟩:=h;simp only[b];exact⟨by have:=c8 a;omega,hk⟩
  ·simp at h
 ·split at h
  ·rename_i b;simp only[ax,e7,ay]at h;obtain⟨⟨a,c⟩,h⟩:=h
   split at h
   ·rename_i l;simp only[e9]at h;subst h;simp only[b,l];exact⟨(iR a).1,by have:=c8 c;omega,hk⟩
   ·simp at h
  ·simp at h
 ·simp at h
def DK(P:a1)(T X:a0)(H:Heap)(s x:AV):Option aW:=
 match cR P T,gO H x with
 |some sz,some xs=>bif iF P X&&((cT P (eB P T)).isSome&&qd P sz xs)then
  match s with
  | .p .aP=>match xs with
   |[]=>some {v:=s,ak:=dE H x}
   |y::r=>bif em (y::r).length cZ then some {v:=.sl H.length 0 sz 0 (y::r).length,ak:=dE H x,aV:=[.arr (gk P T) 0 sz (y::r)]}else none
  | .p (.bP full es)=>bif qd P sz (es.map .p)then match xs with
   |[]=>some {v:=s,ak:=dE H x}
   |y::r=>bif full&&em (es.length+(y::r).length) cZ then
    some {v:=.sl H.length 0 sz 0 (es.length+(y::r).length),ak:=dE H x,aV:=[.arr (gk P T) 0 sz (es.map .p++(y::r))]}else none
   else none
  | .sl b aA ai off len=>match H[b]? with
   |some (.arr k c a es)=>bif ej aA c&&(ej ai a&&(ej ai sz&&em (off+len) es.length))then
    match xs with
    |[]=>some {v:=s,ak:=(b,.arr k c a es)::dE H x}
    |y::r=>bif em (es.length+(y::r).length) cZ then match k with
     | .frozen=>none
     | .exact=>bif em (off+len+(y::r).length) es.length then
      some {v:=.sl b aA ai off (len+(y::r).length),ak:=(b,.arr .exact c a es)::dE H x,aK:=[(b,.arr .exact aA ai (es.take (off+len)++(y::r)++es.drop (off+len+(y::r).length)))]}
      else some {v:=.sl H.length 0 sz 0 (len+(y::r).length),ak:=(b,.arr .exact c a es)::dE H x,aV:=[.arr (gk P T) 0 sz ((es.drop off).take len++(y::r))]}
     | .grow=>bif ej off 0 then some {v:=.sl b (aA+1) ai 0 (len+(y::r).length),ak:=(b,.arr .grow c a es)::dE H x,aK:=[(b,.arr .grow (aA+1) ai (es.take len++(y::r)))]}else none
     | .bytes=>bif ej off 0&&ej (eB P T) Gl.u8 then some {v:=.sl b (aA+1) ai 0 (len+(y::r).length),ak:=(b,.arr .bytes c a es)::dE H x,aK:=[(b,.arr .bytes (aA+1) ai (es.take len++(y::r)))]}else none
     else none
    else none
   |_=>none
  |_=>none
  else none
 |_,_=>none
theorem Te{T X:a0}{H:Heap}{s x:AV}{e:aW}{K:aW->Prop}(h:DK P T X H s x=some e)(hk:K e):nQ P T X H s x K:=by
 unfold DK at h;unfold nQ
 split at h
 case h_2=>simp at h
 rename_i sz r n p;simp only[ax,e7,ay]at h;obtain⟨⟨g,j,k⟩,h⟩:=h;simp only[n,p];refine⟨g,j,ug k,?_⟩
 split at h
 ·split at h
  ·simp only[e9]at h;subst h;simpa using hk
  ·simp only[e7,e9]at h;obtain⟨a,rfl⟩:=h;simp only[c9,aT,if_false];exact⟨c8 a,hk⟩
 ·simp only[e7]at h;obtain⟨a,h⟩:=h;refine⟨ug a,?_⟩
  split at h
  ·simp only[e9]at h;subst h;simpa using hk
  ·simp only[e7,e9]at h;obtain⟨⟨b,c⟩,rfl⟩:=h;simp only[c9,aT,if_false];exact⟨b,c8 c,hk⟩
 ·split at h
  case h_2=>simp at h
  rename_i o;simp only[e7]at h;obtain⟨⟨a,b,c,l⟩,h⟩:=h;simp only[o];refine⟨dA a,dA b,dA c,c8 l,?_⟩
  split at h
  ·simp only[e9]at h;subst h;simpa using hk
  ·simp only[e7]at h;obtain⟨m,h⟩:=h;simp only[c9,aT,if_false];refine⟨c8 m,?_⟩
   split at h
   ·simp at h
   ·split at h
    ·rename_i f;simp only[e9]at h;subst h;simp only[c8 f,if_true];exact hk
    ·rename_i f;simp only[e9]at h;subst h;rw[if_neg (fun q=>f (en q))];exact hk
   ·simp only[e7,e9]at h;obtain⟨d,rfl⟩:=h;exact⟨dA d,(fun h=>by cases h),hk⟩
   ·simp only[e7,e9]at h;obtain⟨⟨d,i⟩,rfl⟩:=h;exact⟨dA d,fun _=>dA i,hk⟩
 ·simp at h
end
section
variable{P:a1}{ag:a7->Bool}
def jD(x:Option AV)(d:Nat):Option Nat:=
 match x with
 |none=>some d
 |some (.p (.int _ (.ofNat i)))=>some i
 |_=>none
theorem kj{x:Option AV}{d n:Nat}{K:Nat->Prop}(h:jD x d=some n)(hk:K n):gG x d K:=by
 unfold jD at h;unfold gG
 split at h
 ·simp only[e9]at h;subst h;exact hk
 ·simp only[e9]at h;subst h;exact⟨b5 _,hk⟩
 ·simp at h
def DV(P:a1)(T:a0)(H:Heap)(x:AV)(lo hi e:Option AV):Option aW:=
 match e with
 |some _=>none
 |none=>match x with
  | .p (.str s)=>match jD hi s.length,jD lo 0 with
   |some h,some l=>bif iB P T&&(em h s.length&&em l h)then some {v:=.p (.str ((s.take h).drop l))}else none
   |_,_=>none
  | .p .aP=>match jD hi 0,jD lo 0 with
   |some h,some l=>bif (cR P T).isSome&&(em h 0&&em l h)then some {v:=x}else none
   |_,_=>none
  | .p (.bP full es)=>match jD hi es.length,jD lo 0,cR P T with
   |some h,some l,some sz=>bif em h es.length&&(em l h&&qd P sz (es.map .p))then some {v:=.p (.bP (full&&h==es.length) ((es.take h).drop l))}else none
   |_,_,_=>none
  | .p (.seq es)=>match jD hi es.length,jD lo 0,cR P T with
   |some h,some l,some sz=>bif em h es.length&&(em l h&&qd P sz (es.map .p))then some {v:=.p (.seq ((es.take h).drop l))}else none
   |_,_,_=>none
  | .sl b aA ai off len=>match H[b]? with
   |some (.arr k c a es)=>match jD hi len,jD lo 0 with
    |some h,some l=>bif ej aA c&&(ej ai a&&(oE (cR P T) ai&&(oL k es&&(em (off+len) es.length&&(em (off+h) es.length&&em l h)))))then
     match l with
     |0=>some {v:=.sl b aA ai off h,ak:=[(b,.arr k c a es)]}
     |d+1=>bif ej (d+1) h then some {v:=.p (.bP false []),ak:=[(b,.arr k c a es)]}else some {v:=.sl b aA ai (off+(d+1)) (h-(d+1)),ak:=[(b,.arr k c a es)]}
     else none
    |_,_=>none
   |_=>none
  |_=>none
theorem Ws{T:a0}{H:Heap}{x:AV}{lo hi j:Option AV}{e:aW}{K:aW->Prop}(h:DV P T H x lo hi j=some e)(hk:K e):nX P T H x lo hi j K:=by
 unfold DV at h;unfold nX
 split at h
 ·simp at h
 refine⟨rfl,?_⟩
 split at h
 ·split at h
  case h_2=>simp at h
  rename_i a b;simp only[ax,e7,ay,e9]at h;obtain⟨⟨c,d,f⟩,rfl⟩:=h;exact⟨c,kj a (kj b ⟨c8 d,c8 f,hk⟩)⟩
 ·split at h
  case h_2=>simp at h
  rename_i a b;simp only[ax,e7,ay,e9]at h;obtain⟨⟨c,d,f⟩,rfl⟩:=h;exact⟨c,kj a (kj b ⟨c8 d,c8 f,hk⟩)⟩
 ·split at h
  case h_2=>simp at h
  rename_i a b c;simp only[ax,e7,ay,e9]at h;obtain⟨⟨d,f,g⟩,rfl⟩:=h;refine kj a (kj b ⟨c8 d,c8 f,?_⟩);simp only[c];exact⟨ug g,hk⟩
 ·split at h
  case h_2=>simp at h
  rename_i a b c;simp only[ax,e7,ay,e9]at h;obtain⟨⟨d,f,g⟩,rfl⟩:=h;refine kj a (kj b ⟨c8 d,c8 f,?_⟩);simp only[c];exact⟨ug g,hk⟩
 ·split at h
  case h_2=>simp at h
  rename_i n
  split at h
  case h_2=>simp at h
  rename_i a b;simp only[ax,e7,ay]at h;obtain⟨⟨c,d,f,g,k,l,m⟩,h⟩:=h;simp only[n];refine⟨dA c,dA d,xj f,wW g,c8 k,kj a (kj b ⟨c8 l,c8 m,?_⟩)⟩
  split at h
  ·simp only[e9]at h;subst h;simpa using hk
  ·rw[if_neg (by omega)]
   split at h
   ·rename_i i;simp only[e9]at h;subst h;rw[if_pos (dA i)];exact hk
   ·rename_i i;simp only[e9]at h;subst h;rw[if_neg (fun e=>i (by rw[<-e];exact e6 _))];exact hk
 ·simp at h
def Df(P:a1)(T:a0)(H:Heap)(x:AV)(lo hi:Option AV)(m:AV):Option aW:=
 match x with
 | .sl b aA ai off len=>match H[b]? with
  |some (.arr k c a es)=>match jD hi len,jD lo 0,jD (some m) 0 with
   |some h,some l,some m=>bif ej aA c&&(ej ai a&&((cR P T).isSome&&(oL k es&&(em (off+len) es.length&&(hi.isSome&&(em (off+m) es.length&&(em h m&&em l h)))))))then
    some {v:=.p .undef,ak:=[(b,.arr k c a es)]}else none
   |_,_,_=>none
  |_=>none
 |_=>none
theorem V6{T:a0}{H:Heap}{x:AV}{lo hi:Option AV}{m:AV}{e:aW}{K:aW->Prop}(h:Df P T H x lo hi m=some e)(hk:K e):qS P T H x lo hi m K:=by
 unfold Df at h;unfold qS
 split at h
 case h_2=>simp at h
 split at h
 case h_2=>simp at h
 rename_i d
 split at h
 case h_2=>simp at h
 rename_i a b c;simp only[ax,e7,ay,e9]at h;obtain⟨⟨g1,g2,g3,g4,g5,g6,g7,g8,g9⟩,rfl⟩:=h;simp only[d];exact⟨dA g1,dA g2,g3,wW g4,c8 g5,g6,kj a (kj b (kj c ⟨c8 g7,c8 g8,c8 g9,hk⟩))⟩
def Al(ok:Bool)(z:PV)(r:Option PV):PV:=
 match r with
 |some v=>bif ok then .aG [v,.bool true]else v
 |none=>bif ok then .aG [z,.bool false]else z
def aGv(ok:Bool)(z:PV)(r:Option AV):AV:=
 match r with
 |some v=>bif ok then .aG [v,.p (.bool true)]else v
 |none=>.p (bif ok then .aG [z,.bool false]else z)
def Nc(P:a1)(T:a0)(H:Heap)(x i:AV)(ok:Bool):Option aW:=
 match jn P T,i with
 |some (a,E),.p key=>match cT P E with
  |some z=>bif fD P a key then match x with
   | .p .fF=>some {v:=.p (Al ok z none)}
   | .p (.fo es)=>match fZ P a es key with
    |some r=>some {v:=.p (Al ok z r)}
    |none=>none
   | .map b=>match H[b]? with
    |some (.map fz es)=>match fZ P a es key with
     |some r=>some {v:=.p (Al ok z r),ak:=[(b,.map fz es)]}
     |none=>none
    |some (.dy ks vs)=>bif nF key then match lj P a ks vs key with
     |some r=>some {v:=aGv ok z r,ak:=[(b,.dy ks vs)]}
     |none=>none
     else none
    |_=>none
   |_=>none
   else none
  |none=>none
 |_,_=>none
def AW(P:a1)(c:a0)(b:Nat)(key:PV)(x:AV)(a:Obj):Option aW:=
 match s8 a with
 |some (ks,vs)=>bif nF key then match lj P c ks vs key with
  |some none=>some {v:=.p (.aG []),ak:=[(b,a)],aK:=[(b,.dy (ks++[key]) (vs++[x]))]}
  |_=>none
  else none
 |none=>none
theorem BN{P:a1}{a:a0}{b:Nat}{key:PV}{x:AV}{c:Obj}{e:aW}{K:aW->Prop}(h:AW P a b key x c=some e)(hk:K e):oZ P a b key x c K:=by
 unfold AW at h;unfold oZ
 split at h
 ·rename_i ks vs f;simp only[ax,e7]at h;obtain⟨d,h⟩:=h
  split at h
  ·rename_i g;simp only[e9]at h;subst h;simp only[f];exact⟨d,g,hk⟩
  ·cases h
 ·cases h
def M9(P:a1)(T:a0)(H:Heap)(m k x:AV):Option aW:=
 match jn P T,m,k with
 |some (a,_),.map b,.p key=>bif fD P a key then match H[b]? with
  |some (.map false es)=>match x with
   | .p v=>match mf P a es key with
    |some _=>some {v:=.p (.aG []),ak:=[(b,.map false es)],aK:=[(b,.map false (gF es key v))]}
    |none=>none
   |x=>AW P a b key x (.map false es)
  |some (.dy ks vs)=>AW P a b key x (.dy ks vs)
  |_=>none
  else none
 |_,_,_=>none
def Rl(H:Heap)(it:AV):Option aW:=
 match it with
 | .ptr b []=>match H[b]? with
  |some (.dC s pos)=>bif em (pos+1) s.length then
   some {v:=.p (.aG [.bool true,.int .i64 pos,.int .i32 (b4 (gw s) pos).1]),ak:=[(b,.dC s pos)],aK:=[(b,.dC s (pos+(b4 (gw s) pos).2))]}
   else some {v:=.p (.aG [.bool false]),ak:=[(b,.dC s pos)]}
  |_=>none
 |_=>none
def LU(P:a1)(H:Heap)(b:Builtin)(c:Array a0)(args:List AV):Option aW:=
 match b,args with
 | .len,[x]=>match lenOf H x with
  |some (n,ak)=>bif gW P (c.getD 0 0) x&&em 1 c.size then some {v:=.p (.int .i64 n),ak}else none
  |none=>none
 | .append,[s,x]=>bif ej c.size 2 then DK P (c.getD 0 0) (c.getD 1 0) H s x else none
 | .min,.p (.int k a)::r=>match l8 k false r a with
  |some n=>some {v:=.p (.int k n)}
  |none=>none
 | .max,.p (.int k a)::r=>match l8 k true r a with
  |some n=>some {v:=.p (.int k n)}
  |none=>none
 | .copy,[d,x]=>match cR P (c.getD 0 0),d,gO H x with
  |some sz,.sl b aA ai off len,some xs=>bif ej ai sz&&(qd P sz xs&&ej c.size 2)then match H[b]? with
   |some (.arr k f e es)=>bif ej aA f&&(ej ai e&&(xF k&&(em (off+len) es.length&&oL k es)))then
    some {v:=.p (.int .i64 (min xs.length len:Nat)),ak:=(b,.arr k f e es)::dE H x,aK:=[(b,.arr k f e (es.take off++xs.take (min xs.length len)++es.drop (off+min xs.length len)))]}
    else none
   |_=>none
   else none
  |_,_,_=>none
 | .cap,[x]=>match AA H x with
  |some (n,ak)=>bif gW P (c.getD 0 0) x&&em 1 c.size then some {v:=.p (.int .i64 n),ak}else none
  |none=>none
 | .clear,[x]=>match x with
  | .p .aP=>bif gW P (c.getD 0 0) x&&em 1 c.size then some {v:=.p (.aG [])}else none
  | .sl b aA ai off len=>match cR P (c.getD 0 0),cT P (eB P (c.getD 0 0)),H[b]? with
   |some sz,some z,some (.arr k f e es)=>bif ej aA f&&(ej ai e&&(ej ai sz&&(ej (bI P (aL z)) sz&&(xF k&&(em (off+len) es.length&&(oL k es&&(em 1 c.size&&em 1 len)))))))then
    some {v:=.p (.aG []),ak:=[(b,.arr k f e es)],aK:=[(b,.arr k f e (es.take off++cx len (.p z)++es.drop (off+len)))]}else none
   |_,_,_=>none
  |_=>none
 | .unsafeSliceData,[x]=>match x with
  | .p .aP=>some {v:=.p .dM}
  | .sl b aA ai off len=>match H[b]? with
   |some (.arr k f e es)=>bif ej aA f&&ej ai e then
    bif oL k es then(bif em 1 len&&em (off+len) es.length then some {v:=.b6 b aA ai off [],ak:=[(b,.arr k f e es)]}else none)
    else some {v:=.p .dM,ak:=[(b,.arr k f e es)]}
    else none
   |_=>none
  |_=>none
 | .unsafeString,[x,.p (.int .i64 (.ofNat n))]=>match x with
  | .p .dM=>bif ej n 0&&ej c.size 2 then some {v:=.p (.str [])}else none
  | .b6 b aA ai i []=>match H[b]? with
   |some (.arr .bytes f e es)=>bif ej aA f&&(ej ai e&&(ej ai 1&&(ej i 0&&(em 1 n&&(em n es.length&&(em n 9223372036854775807&&(ej c.size 2&&(oE (ptrTo P (c.getD 0 0)) Gl.u8&&ej (P.cellsOf Gl.u8) 1))))))))then
    match bytesOf (es.take n)with
    |some l=>some {v:=.p (.str l),ak:=[(b,.arr .bytes f e es)],aK:=[(b,.dead)]}
    |none=>none
    else none
   |_=>none
  |_=>none
 |_,_=>none
def A2(P:a1)(ag:a7->Bool)(o:Oper)(ρ:a6->AV)(H:Heap):Option aW:=
 match o.op with
 | .move x| .assign x=>some {v:=ρ x}
 | .pick c a b=>match ρ c with
  | .p (.bool t)=>some {v:=bif t then ρ a else ρ b}
  |_=>none
 | .alloc T=>match cT P T with
  |some z=>bif sE (kindOf P T) (aL z)&&jo T (aL z)then some {v:=.ptr H.length [],aV:=[.box false (.p z)]}else none
  |none=>none
 | .box T x=>bif sE (kindOf P T) (ad (ρ x))&&jo T (ad (ρ x))then some {v:=.ptr H.length [],aV:=[.box false (ρ x)]}else none
 | .build T parts=>match kindOf P T,cT P T with
  | .agg u,some z=>match dR P u with
   |some l=>bif sE (aL z) (.agg u)&&wX P l (parts.toList.map fun(i,x)=>(i,ρ x))then some {v:=ib u (iA ((cM z).map .p) (parts.toList.map fun(i,x)=>(i,ρ x)))}else none
   |none=>none
  |_,_=>none
 | .buildSlice T n parts=>match cR P T,cT P (eB P T)with
  |some sz,some z=>bif ej (bI P (aL z)) sz&&(em (n*sz) 1000000&&wX P (cx n sz) (parts.toList.map fun(i,x)=>(i,ρ x)))then
   some {v:=.sl H.length 0 sz 0 n,aV:=[.arr .exact 0 sz (iA (cx n (.p z)) (parts.toList.map fun(i,x)=>(i,ρ x)))]}else none
  |_,_=>none
 | .load T a=>Fk P T H (ρ a)
 | .store T a x=>DT P T H (ρ a) (ρ x)
 | .binOp op T x y _=>match Es P op T (mv y) H (ρ x) (ρ y)with
  |some v=>some {v:=.p v,ak:=dE H (ρ x)}
  |none=>none
 | .unOp op _ x=>match op,ρ x with
  | .not,.p (.bool b)=>some {v:=.p (.bool (!b))}
  | .neg,.p (.int k n)=>some {v:=.p (.int k (k.wrap (0-n)))}
  | .xor,.p (.int k n)=>some {v:=.p (.int k (k.wrap (av k.bits (if k.signed then -1 else k.max)^^^av k.bits n).toNat))}
  |_,_=>none
 | .convert S D x=>match P.underlying S,P.underlying D,ρ x with
  |some _,some (.int k),.p (.int _ n)=>some {v:=.p (.int k (k.wrap n))}
  |some _,some .string,.p (.str s)=>some {v:=.p (.str s)}
  |_,_,_=>none
 | .extract t i=>match ρ t with
  | .p (.aG vs)=>match vs[i]? with
   |some v=>some {v:=.p v}
   |none=>none
  | .aG vs=>match vs[i]? with
   |some v=>some {v}
   |none=>none
  |_=>none
 | .fieldAddr T a f=>Cn P T (ρ a) f
 | .indexAddr T x i=>Ck P T H (ρ x) (ρ i)
 | .field T x f=>match kindOf P T,P.underlying T,ρ x with
  | .agg u,some (.struct _),.p t=>match(cM t)[f]?,(jv P u)[f]? with
   |some g,some F=>bif sE (aL t) (.agg u)&&sE (kindOf P F) (aL g)then some {v:=.p g}else none
   |_,_=>none
  |_,_,_=>none
 | .index T x i=>match ρ x,ρ i with
  | .p (.str s),.p (.int _ (.ofNat i))=>match s[i]? with
   |some c=>bif iB P T then some {v:=.p (.int .u8 c)}else none
   |none=>none
  | .p (.st u es),.p (.int _ (.ofNat i))=>match hJ P T,(jv P u)[i]?,es[i]? with
   |some (u',n),some F,some g=>bif ej u' u&&(em (i+1) n&&sE (kindOf P F) (aL g))then some {v:=.p g}else none
   |_,_,_=>none
  |_,_=>none
 | .makeFunc (.func f) fi ca=>bif ag f then match fL H (fi.toList.map ρ),fL H (ca.toList.map ρ)with
   |some (a,[],[]),some (b,ak,aK)=>some {v:=.p (.func f a b),ak,aK}
   |_,_=>none
  else match dO (fi.toList.map ρ),dO (ca.toList.map ρ)with
   |some a,some b=>some {v:=.p (.func f a b)}
   |_,_=>some {v:=.func f (fi.toList.map ρ) (ca.toList.map ρ)}
 | .makeSlice T l c=>match cR P T,cT P (eB P T),ρ l,ρ c with
  |some sz,some z,.p (.int .i64 (.ofNat l)),.p (.int .i64 (.ofNat c))=>bif ej (bI P (aL z)) sz&&(ej l c&&em l cZ)then
   some {v:=.sl H.length 0 sz 0 l,aV:=[.arr .exact 0 sz (cx l (.p z))]}else none
  |_,_,_,_=>none
 | .slice T x lo hi d=>match d with
  |none=>DV P T H (ρ x) (lo.map ρ) (hi.map ρ) none
  |some m=>Df P T H (ρ x) (lo.map ρ) (hi.map ρ) (ρ m)
 | .makeMap _ none=>some {v:=.map H.length,aV:=[.map false []]}
 | .lookup T x i ok=>Nc P T H (ρ x) (ρ i) ok
 | .mapUpdate T m k x| .insert T m k x=>M9 P T H (ρ m) (ρ k) (ρ x)
 | .range T x=>match ρ x with
  | .p (.str s)=>bif iB P T then some {v:=.ptr H.length [],aV:=[.dC s 0]}else none
  |_=>none
 | .next it true=>Rl H (ρ it)
 | .nilCheck x=>match ρ x with
  | .ptr _ _| .b6 _ _ _ _ _| .p (.cE _)=>some {v:=ρ x}
  |_=>none
 | .call c=>match c.callee with
  | .builtin b=>LU P H b c.argTypes (c.args.toList.map ρ)
  |_=>none
 |_=>none
theorem OW{o:Oper}{ρ:a6->AV}{H:Heap}{e:aW}{K:aW->Prop}(h:A2 P ag o ρ H=some e)(hk:K e):fG P ag o ρ H K:=by
 unfold A2 at h;unfold fG;cases ad:o.op<;>simp only[ad]at h<;>simp only
 case move|assign=>simp only[e9]at h;subst h;exact hk
 case pick c a b=>
  split at h
  ·rename_i t hc;simp only[e9]at h;subst h;simp only[hc];cases t<;>exact hk
  ·simp at h
 case alloc T=>
  split at h
  ·rename_i z G;simp only[ax,e7,e9,ay]at h;obtain⟨⟨d,j⟩,rfl⟩:=h;simp only[G];exact⟨(iR d).1,(iR d).2,j,hk⟩
  ·simp at h
 case box T x=>
  simp only[ax,e7,e9,ay]at h;obtain⟨⟨d,j⟩,rfl⟩:=h;exact⟨(iR d).1,(iR d).2,j,hk⟩
 case build T parts=>
  split at h
  ·rename_i u z ae G
   split at h
   ·rename_i l E;simp only[ax,e7,e9,ay]at h;obtain⟨⟨d,j⟩,rfl⟩:=h;simp only[ae,G,E];exact⟨(iR d).1,Cu j,hk⟩
   ·simp at h
  ·simp at h
 case buildSlice T n parts=>
  split at h
  ·rename_i sz z J G;simp only[ax,e7,e9,ay]at h;obtain⟨⟨d,j,q⟩,rfl⟩:=h;simp only[J,G];exact⟨dA d,c8 j,Cu q,hk⟩
  ·simp at h
 case load T a=>exact Ya h hk
 case store T a x=>exact Wp h hk
 case binOp op T x y ah=>
  split at h
  ·rename_i v M;simp only[e9]at h;subst h;exact Zb (K:=fun v=>K {v:=.p v,ak:=dE H (ρ x)}) M hk
  ·simp at h
 case unOp op T x=>
  split at h
  all_goals first
   |(rename_i hx;simp only[e9]at h;subst h;simp only[hx];exact hk)
   |simp at h
 case convert S D x=>
  split at h
  ·rename_i d j q;simp only[e9]at h;subst h;simp only[d,j,q];exact hk
  ·rename_i d j q;simp only[e9]at h;subst h;simp only[d,j,q];exact hk
  ·simp at h
 case extract t i=>
  split at h
  ·rename_i U
   split at h
   ·rename_i M;simp only[e9]at h;subst h;simp only[U,M];exact hk
   ·simp at h
  ·rename_i U
   split at h
   ·rename_i M;simp only[e9]at h;subst h;simp only[U,M];exact hk
   ·simp at h
  ·simp at h
 case fieldAddr T a f=>exact Ua h hk
 case indexAddr T x i=>exact Um h hk
 case field T x f=>
  split at h
  ·rename_i d j q
   split at h
   ·rename_i A w;simp only[ax,e7,e9,ay]at h;obtain⟨⟨B,C⟩,rfl⟩:=h;simp only[d,j,q,A,w];exact⟨(iR B).1,(iR C).1,hk⟩
   ·simp at h
  ·simp at h
 case index T x i=>
  split at h
  ·rename_i d j
   split at h
   ·rename_i c hc;simp only[ax,e7,e9]at h;obtain⟨q,rfl⟩:=h;obtain⟨hi,rfl⟩:=ck.1 hc;simp only[d,j];exact⟨q,b5 _,hi,hk⟩
   ·simp at h
  ·rename_i u W am i d j
   split at h
   ·rename_i u' n F g q A w;simp only[ax,e7,e9,ay]at h;obtain⟨⟨g1,g2,g3⟩,rfl⟩:=h;have e:(Int.ofNat i).toNat=i:=rfl;simp only[d,j,e,q,A,w];exact⟨dA g1,b5 _,c8 g2,(iR g3).1,hk⟩
   ·simp at h
  ·simp at h
 case makeFunc fn fi ca=>
  cases fn<;>simp only at h<;>try (simp at h;done)
  rename_i f;simp only;simp only[ax]at h
  split at h
  ·rename_i hf;rw[if_pos hf]
   split at h
   ·rename_i d j;simp only[e9]at h;subst h;simp only[d,j];exact hk
   ·simp at h
  ·rename_i hf;rw[if_neg hf]
   split at h
   ·rename_i d j;simp only[e9]at h;subst h;simp only[d,j];exact hk
   ·rename_i ac;simp only[e9]at h;subst h
    split
    ·rename_i d j;exact(ac _ _ d j).elim
    ·exact hk
 case makeSlice T l c=>
  split at h
  ·rename_i d j q A;simp only[ax,e7,e9,ay]at h;obtain⟨⟨w,B,C⟩,rfl⟩:=h;have e:=dA B;simp only[d,j,q,A];refine⟨dA w,b5 _,by rw[e],?_,hk⟩;have:=c8 C;show((_:Nat):Int)<=_
   exact_mod_cast this
  ·simp at h
 case slice T x lo hi af=>
  cases af with
  |none=>exact Ws h hk
  |some m=>exact V6 h hk
 case makeMap T r=>
  cases r<;>simp only at h
  ·simp only[e9]at h;subst h;exact hk
  ·simp at h
 case lookup T x i ok=>
  unfold Nc at h
  split at h
  case h_2=>simp at h
  rename_i d j
  split at h
  case h_2=>simp at h
  rename_i z G;simp only[ax,e7]at h;obtain⟨q,h⟩:=h;simp only[d,j,G];refine⟨q,?_⟩
  have N:∀r:Option PV,Al ok z r=match r with
    |some v=>if ok=true then .aG [v,.bool true]else v
    |none=>if ok=true then .aG [z,.bool false]else z:=by
   intro r;cases r<;>cases ok<;>rfl
  split at h
  ·rename_i hx;simp only[e9]at h;subst h;simp only[hx];rw[N]at hk;exact hk
  ·rename_i hx
   split at h
   ·rename_i r L;simp only[e9]at h;subst h;rw[N]at hk;simp only[hx,L];cases r<;>exact hk
   ·simp at h
  ·rename_i hx
   split at h
   ·rename_i s
    split at h
    ·rename_i r L;simp only[e9]at h;subst h;rw[N]at hk;simp only[hx,s,L];cases r<;>exact hk
    ·simp at h
   ·rename_i s;simp only[ax,e7]at h;obtain⟨aa,h⟩:=h
    split at h
    ·rename_i r L;simp only[e9]at h;subst h;simp only[hx,s,L];refine⟨aa,?_⟩;cases r<;>cases ok<;>exact hk
    ·simp at h
   ·simp at h
  ·simp at h
 case mapUpdate T m k x|insert T m k x=>
  unfold M9 at h
  split at h
  case h_2=>simp at h
  rename_i d j q;simp only[ax,e7]at h;obtain⟨w,h⟩:=h;simp only[d,j,q];generalize ρ x=X at*
  split at h
  ·rename_i s;cases X with
   |p v=>
    simp only at h;refine⟨w,?_⟩
    split at h
    ·rename_i E;simp only[e9]at h;subst h;simp only[s,E];exact hk
    ·simp at h
   |_=>
    refine⟨w,?_⟩;simp only[s];exact BN h hk
  ·rename_i s;cases X with
   |p v=>
    refine⟨w,?_⟩;simp only[s];exact BN h hk
   |_=>
    refine⟨w,?_⟩;simp only[s];exact BN h hk
  ·simp at h
 case range T x=>
  split at h
  ·rename_i hx;simp only[ax,e7,e9]at h;obtain⟨d,rfl⟩:=h;simp only[hx];exact⟨d,hk⟩
  ·simp at h
 case next it isStr=>
  cases isStr<;>simp only at h
  ·simp at h
  unfold Rl at h
  split at h
  ·rename_i hx
   split at h
   ·rename_i s;simp only[hx,s];simp only[ax]at h
    split at h
    ·rename_i R;simp only[e9]at h;subst h;rw[if_pos (by have:=c8 R;omega)];exact hk
    ·rename_i R;simp only[e9]at h;subst h;rw[if_neg (fun ab=>R (en (Nat.succ_le_of_lt ab)))];exact hk
   ·simp at h
  ·simp at h
 case nilCheck x=>
  split at h
  all_goals first
   |(rename_i hx;simp only[e9]at h;subst h;simp only[hx]at hk⊢;exact hk)
   |simp at h
 case call c=>
  split at h
  case h_2=>simp at h
  rename_i b hc;simp only[hc];generalize c.args.toList.map ρ=args at*;generalize c.argTypes=ai at*;unfold LU at h
  split at h
  ·split at h
   ·rename_i E;simp only[ax,e7,e9,ay]at h;obtain⟨⟨d,j⟩,rfl⟩:=h;simp only[E];exact⟨d,c8 j,hk⟩
   ·simp at h
  ·simp only[ax,e7]at h;exact⟨dA h.1,Te h.2 hk⟩
  ·split at h
   ·rename_i Q;simp only[e9]at h;subst h;simp only[Q];exact hk
   ·simp at h
  ·split at h
   ·rename_i Q;simp only[e9]at h;subst h;simp only[Q];exact hk
   ·simp at h
  ·split at h
   ·rename_i J Z;simp only[ax,e7,ay]at h;obtain⟨⟨d,j,q⟩,h⟩:=h;simp only[J,Z];refine⟨dA d,ug j,dA q,?_⟩
    split at h
    ·rename_i s;simp only[e7,e9]at h;obtain⟨⟨A,w,B,C,I⟩,rfl⟩:=h;simp only[s];exact⟨dA A,dA w,D2 B,c8 C,wW I,hk⟩
    ·simp at h
   ·simp at h
  ·split at h
   ·rename_i E;simp only[ax,e7,e9,ay]at h;obtain⟨⟨d,j⟩,rfl⟩:=h;simp only[E];exact⟨d,c8 j,hk⟩
   ·simp at h
  ·split at h
   ·simp only[ax,e7,e9,ay]at h;obtain⟨⟨d,j⟩,rfl⟩:=h;exact⟨d,c8 j,hk⟩
   ·split at h
    ·rename_i J G s;simp only[ax,e7,e9,ay]at h;obtain⟨⟨d,j,q,A,w,B,C,I,O⟩,rfl⟩:=h;simp only[J,G,s];exact⟨dA d,dA j,dA q,dA A,D2 w,c8 B,wW C,c8 I,c8 O,hk⟩
    ·simp at h
   ·simp at h
  ·split at h
   ·simp only[e9]at h;subst h;exact hk
   ·split at h
    ·rename_i s;simp only[ax,e7,ay]at h;obtain⟨⟨d,j⟩,h⟩:=h;simp only[s];refine⟨dA d,dA j,?_⟩
     split at h
     ·simp only[e7,e9]at h;obtain⟨⟨A,w⟩,rfl⟩:=h;exact .inr ⟨c8 A,c8 w,hk⟩
     ·rename_i V;simp only[e9]at h;subst h;rename_i k _ _ W _ _;refine .inl ⟨?_,?_,hk⟩<;>(unfold oL at V;split at V<;>simp_all)
    ·simp at h
   ·simp at h
  ·split at h
   ·simp only[ax,e7,e9,ay]at h;obtain⟨⟨d,j⟩,rfl⟩:=h;exact⟨by rw[dA d];rfl,dA j,hk⟩
   ·split at h
    ·rename_i s;simp only[ax,e7,ay]at h;obtain⟨⟨d,j,q,A,w,B,C,I,O,Y⟩,h⟩:=h;have aj:=c8 w;have al:=c8 C;simp only[s];refine⟨dA d,dA j,dA q,dA A,by simp;omega,by simpa using c8 B,by simp;omega,dA I,xj O,dA Y,?_⟩;simp only[cb,cc]
     split at h
     ·rename_i E;simp only[e9]at h;subst h;simp only[E];exact hk
     ·simp at h
    ·simp at h
   ·simp at h
  ·simp at h
 all_goals simp at h
end
end Go.au
namespace Go.au
variable[Gl]
section
variable(σ:Nat->Nat)
mutual
def cO:AV->AV
 | .p v=>.p v
 | .ptr b path=>.ptr (σ b) path
 | .b6 b aA ai i path=>.b6 (σ b) aA ai i path
 | .sl b aA ai off len=>.sl (σ b) aA ai off len
 | .map b=>.map (σ b)
 | .func f fi ca=>.func f (cJ fi) (cJ ca)
 | .st u fs=>.st u (cJ fs)
 | .aG vs=>.aG (cJ vs)
def cJ:List AV->List AV
 |[]=>[]
 |v::vs=>cO v::cJ vs
end
def uq:Env->Env
 |[]=>[]
 |(x,v)::r=>(x,cO σ v)::uq r
def dc:Obj->Obj
 | .box fz t=>.box fz (cO σ t)
 | .arr k aA ai es=>.arr k aA ai (cJ σ es)
 | .dy ks vs=>.dy ks (cJ σ vs)
 | .loop L=>.loop {L with env:=uq σ L.env}
 |o=>o
end
section
variable{σ:Nat->Nat}
theorem C9:∀(e:Env)(x:Nat),aN (uq σ e) x=cO σ (aN e x)
 |[],_=>rfl
 |(y,v)::r,x=>by
  simp only[uq,aN]
  split
  ·rfl
  ·exact C9 r x
theorem tj:∀l:List AV,(cJ σ l).length=l.length
 |[]=>rfl
 |_::r=>by simp[cJ,tj r]
theorem Yn{l:List AV}:cJ σ l=[]↔l=[]:=by cases l<;>simp[cJ]
theorem nY{k:AK}{a:List AV}:df k (cJ σ a)↔df k a:=by simp[df,Yn]
theorem NR{v:AV}:(cO σ v).sD↔v.sD:=by cases v<;>simp[cO,AV.sD]
theorem Xq{v:AV}:ad (cO σ v)=ad v:=by cases v<;>rfl
theorem Mw:∀{l:List AV},(∀e∈cJ σ l,e.sD)↔∀e∈l,e.sD
 |[]=>by simp[cJ]
 |v::r=>by simp[cJ,NR,Mw (l:=r)]
theorem qV{o:Obj}:(dc σ o).live↔o.live:=by cases o<;>simp[dc,Obj.live,nY]
theorem NY{o:Obj}{v:Nat}:(dc σ o).has v↔o.has v:=by cases o<;>simp[dc,Obj.has]
theorem XP{o:Obj}:dc σ o=.hole↔o=.hole:=by cases o<;>simp[dc]
mutual
theorem CP{S:Nat×Nat->Prop}:∀(v:AV),aE S (cO σ v)↔aE (fun x=>S (σ x.1,x.2)) v
 | .p _=>by simp[cO,aE]
 | .ptr _ _| .b6 _ _ _ _ _| .sl _ _ _ _ _| .map _=>by simp[cO,aE]
 | .func _ fi ca=>by simp only[cO,aE];rw[tE fi,tE ca]
 | .st _ fs=>by simp only[cO,aE];exact tE fs
 | .aG vs=>by simp only[cO,aE];exact tE vs
theorem tE{S:Nat×Nat->Prop}:∀(l:List AV),aS S (cJ σ l)↔aS (fun x=>S (σ x.1,x.2)) l
 |[]=>by simp[cJ,aS]
 |v::r=>by simp only[cJ,aS];rw[CP v,tE r]
end
theorem WN{S:Nat×Nat->Prop}{o:Obj}:(dc σ o).refs S↔o.refs (fun x=>S (σ x.1,x.2)):=by
 cases o<;>simp only[dc,Obj.refs,CP,tE,C9]
theorem Obj.refs.mono{S T:Nat×Nat->Prop}(h:∀x,S x->T x){o:Obj}(a:o.refs S):o.refs T:=by
 cases o with
 |box fz t=>exact aE.mono h _ a
 |arr k aA ai es=>exact aS.mono h _ a
 |dy ks vs=>exact aS.mono h _ a
 |loop L=>exact fun x=>aE.mono h _ (a x)
 |_=>trivial
structure dX(σ:Nat->Nat)(dW:Bd)(H0:Heap)(β:Bd)(H:Heap):Prop where
 obj:∀(b:Nat)(o:Obj),H0[b]?=some o->H[σ b]?=some (dc σ o)
 al:∀b,b<H0.length->β.al (σ b)=dW.al b/\β.cap (σ b)=dW.cap b
section
variable{P:a1}{w:bi}{aa:Nat->Prop}{dW β:Bd}{H0 H:Heap}
theorem dX.box(h:dX σ dW H0 β H){b:Nat}(a:b<H0.length):mS H (σ b)↔mS H0 b:=by
 have c:=h.obj b _ (ce a);have d:=ce a;unfold mS;rw[c,d];cases H0[b]<;>simp[dc]
theorem dX.it(h:dX σ dW H0 β H){b:Nat}(a:b<H0.length):mT H (σ b)↔mT H0 b:=by
 have c:=h.obj b _ (ce a);have d:=ce a;unfold mT;rw[c,d];cases H0[b]<;>simp[dc]
theorem dX.map(h:dX σ dW H0 β H){b:Nat}(a:b<H0.length):n6 H (σ b)↔n6 H0 b:=by
 have h1:=h.obj b _ (ce a);have c:=ce a;unfold n6;rw[h1,c];cases H0[b]<;>simp[dc,Obj.vq]
theorem dX.loop(h:dX σ dW H0 β H){b:Nat}(a:b<H0.length):gQ H (σ b)↔gQ H0 b:=by
 have c:=h.obj b _ (ce a);have d:=ce a;unfold gQ;rw[c,d];cases H0[b]<;>simp[dc]
theorem dX.arr(h:dX σ dW H0 β H){b aA ai:Nat}{k:AK}{es:List AV}(a:b<H0.length):eX H (σ b) aA ai k es↔∃gI,eX H0 b aA ai k gI/\es=cJ σ gI:=by
 have c:=h.obj b _ (ce a);have d:=ce a;unfold eX;rw[c,d];cases H0[b]<;>simp[dc];constructor
 ·rintro⟨rfl,rfl,rfl,rfl⟩;exact⟨_,⟨rfl,rfl,rfl,rfl⟩,rfl⟩
 ·rintro⟨_,⟨rfl,rfl,rfl,rfl⟩,rfl⟩;exact⟨rfl,rfl,rfl,rfl⟩
theorem dX.EK(h:dX σ dW H0 β H){x:Nat×Nat}(a:x.1<H0.length):aI H (σ x.1,x.2)↔aI H0 x:=by
 have b:=h.obj x.1 _ (ce a);have c:=ce a;unfold aI;rw[b,c];simp[NY]
def Small(n:Nat):Nat×Nat->Prop:=fun x=>x.1<n
theorem dX.qx(h:dX σ dW H0 β H):∀{a:AV}{v:bb},aE (Small H0.length) a->(bU P β H (cO σ a) v↔bU P dW H0 a v)
 | .p _,_,_| .func _ _ _,_,_| .st _ _,_,_| .aG _,_,_=>by simp[cO,bU]
 | .ptr b path,v,c=>by
  simp only[aE,Small]at c;simp only[cO,bU,h.box c,h.it c,(h.al b c).1]
 | .b6 b aA ai i path,v,c=>by
  simp only[aE,Small]at c;simp only[cO,bU,h.arr c,(h.al b c).1];constructor
  ·rintro⟨al,off,o,f,g,j⟩;exact⟨al,off,o,f,g,fun k d e m=>j k _ ⟨d,e,rfl⟩ (by rwa [nY])⟩
  ·rintro⟨al,off,o,f,g,j⟩;refine⟨al,off,o,f,g,?_⟩;rintro k _ ⟨d,e,rfl⟩ m;exact j k d e (by rwa [nY]at m)
 | .sl b aA ai off len,v,c=>by
  simp only[aE,Small]at c;simp only[cO,bU,h.arr c,(h.al b c).1,(h.al b c).2];constructor
  ·intro l k d e;have:=l k _ ⟨d,e,rfl⟩;simpa only[tj,nY]using this
  ·rintro l k _ ⟨d,e,rfl⟩;have:=l k d e;simpa only[tj,nY]using this
 | .map b,v,c=>by
  simp only[aE,Small]at c;simp only[cO,bU,h.map c,h.loop c,(h.al b c).1]
mutual
theorem dX.Oh(h:dX σ dW H0 β H):∀(a:AV)(cs:List bb),aE (Small H0.length) a->(br P w aa β H (cO σ a) cs↔br P w aa dW H0 a cs)
 | .p _,_,_=>by simp[cO,br]
 | .aG _,_,_=>by simp[cO,br]
 | .st u fs,cs,d=>by
  simp only[aE]at d;simp only[cO,br];exact exists_congr fun l=>exists_congr fun e=>and_congr_right fun _=>and_congr_left fun _=>dX.Ao h l fs e d
 | .func f fi ca,cs,d=>by
  simp only[aE]at d;simp only[cO,br];exact exists_congr fun l=>exists_congr fun e=>and_congr (dX.qj h fi l d.1) (and_congr_left fun _=>dX.qj h ca e d.2)
 | .ptr b path,cs,d=>by
  have:=fun v=>h.qx (P:=P) (a:=.ptr b path) (v:=v) d;simp only[cO,br,bO]at this⊢;simp only[this]
 | .b6 b aA ai i path,cs,d=>by
  have:=fun v=>h.qx (P:=P) (a:=.b6 b aA ai i path) (v:=v) d;simp only[cO,br,bO]at this⊢;simp only[this]
 | .sl b aA ai off len,cs,d=>by
  have:=fun v=>h.qx (P:=P) (a:=.sl b aA ai off len) (v:=v) d;simp only[cO,br,bO]at this⊢;simp only[this]
 | .map b,cs,d=>by
  have:=fun v=>h.qx (P:=P) (a:=.map b) (v:=v) d;simp only[cO,br,bO]at this⊢;simp only[this]
theorem dX.Ao(h:dX σ dW H0 β H):∀(g:List Nat)(l:List AV)(e:List (List bb)),aS (Small H0.length) l->(bM P w aa β H g (cJ σ l) e↔bM P w aa dW H0 g l e)
 |[],[],e,_=>by simp[cJ,bM]
 |[],_::_,e,_=>by simp[cJ,bM]
 |_::_,[],e,_=>by simp[cJ,bM]
 |n::g,v::vs,e,d=>by
  simp only[aS]at d;simp only[cJ,bM];exact exists_congr fun c=>exists_congr fun cs=>and_congr_right fun _=>and_congr (dX.Oh h v c d.1) (and_congr_right fun _=>dX.Ao h g vs cs d.2)
theorem dX.El(h:dX σ dW H0 β H):∀(a:AV)(v:bb),aE (Small H0.length) a->(aB P w aa β H (cO σ a) v↔aB P w aa dW H0 a v)
 | .p _,_,_=>by simp[cO,aB]
 | .aG vs,_,d=>by
  simp only[aE]at d;simp only[cO,aB];exact exists_congr fun l=>and_congr_left fun _=>dX.qj h vs l d
 | .st u fs,cs,d=>by
  simp only[aE]at d;simp only[cO,aB];exact exists_congr fun l=>exists_congr fun e=>and_congr_right fun _=>and_congr_left fun _=>dX.Ao h l fs e d
 | .func f fi ca,cs,d=>by
  simp only[aE]at d;simp only[cO,aB];exact exists_congr fun l=>exists_congr fun e=>and_congr (dX.qj h fi l d.1) (and_congr_left fun _=>dX.qj h ca e d.2)
 | .ptr b path,v,d=>by
  have:=h.qx (P:=P) (a:=.ptr b path) (v:=v) d;simp only[cO,aB,bO]at this⊢;simp only[this]
 | .b6 b aA ai i path,v,d=>by
  have:=h.qx (P:=P) (a:=.b6 b aA ai i path) (v:=v) d;simp only[cO,aB,bO]at this⊢;simp only[this]
 | .sl b aA ai off len,v,d=>by
  have:=h.qx (P:=P) (a:=.sl b aA ai off len) (v:=v) d;simp only[cO,aB,bO]at this⊢;simp only[this]
 | .map b,v,d=>by
  have:=h.qx (P:=P) (a:=.map b) (v:=v) d;simp only[cO,aB,bO]at this⊢;simp only[this]
theorem dX.qj(h:dX σ dW H0 β H):∀(l:List AV)(vs:List bb),aS (Small H0.length) l->(bB P w aa β H (cJ σ l) vs↔bB P w aa dW H0 l vs)
 |[],vs,_=>by simp[cJ,bB]
 |a::l,vs,d=>by
  simp only[aS]at d;simp only[cJ,bB];exact exists_congr fun y=>exists_congr fun j=>and_congr_right fun _=>and_congr (dX.El h a y d.1) (dX.qj h l j d.2)
end
theorem dX.Rt(h:dX σ dW H0 β H){ah Prot0:Nat->Prop}{b:Nat}{o:Obj}(f:H0[b]?=some o)(c:o.refs (Small H0.length))(a:o.live->∀fz,cG aa dW Prot0 fz b↔cG aa β ah fz (σ b)):
 ft P w aa β H ah (σ b) (dc σ o)↔ft P w aa dW H0 Prot0 b o:=by
 have g:b<H0.length:=(ck.1 f).1;obtain⟨k1,k2⟩:=h.al b g;cases o with
 |hole=>simp[dc,ft]
 |dead=>simp[dc,ft]
 |box fz t=>
  simp only[dc,ft,k1,<-a trivial,h.Oh t _ c,NR,Xq]
 |arr k aA ai es=>
  simp only[dc,ft,k1,k2,nY,tj,Mw]
  by_cases e:df k es
  ·simp[e]
  ·simp only[e,false_or,<-a e,h.Ao _ es _ c]
 |map fz es=>
  simp only[dc,ft,k1,<-a trivial]
 |dy ks vs=>
  simp only[dc,ft,k1,<-a trivial,h.qj vs _ c]
 |dC s pos=>
  simp only[dc,ft,k1,<-a trivial]
 |loop L=>
  simp only[dc,ft,k1,<-a trivial,C9];exact exists_congr fun t=>exists_congr fun d=>exists_congr fun fn=>and_congr_right fun _=>and_congr_right fun _=>and_congr_left fun _=>forall_congr' fun x=>h.El _ _ (c x)
end
end
end Go.au
namespace Go.au
variable[Gl]
def sig(bs:List Nat)(a i:Nat):Nat:=match bs[i]? with
 |some b=>b
 |none=>a+(i-bs.length)
theorem tR{bs:List Nat}{a i:Nat}(h:i<bs.length):sig bs a i=bs[i]:=by simp[sig,h]
theorem tS{bs:List Nat}{a i:Nat}(h:bs.length<=i):sig bs a i=a+(i-bs.length):=by simp[sig,h]
theorem aJL{bs:List Nat}{a:Nat}(e:bs.Nodup)(d:∀b∈bs,b<a){i j:Nat}(h:sig bs a i=sig bs a j):i=j:=by
 by_cases hi:i<bs.length<;>by_cases c:j<bs.length
 ·rw[tR hi,tR c]at h;exact(List.getElem_inj e).1 h
 ·rw[tR hi,tS (by omega)]at h;have:=d _ (eb hi);omega
 ·rw[tS (by omega),tR c]at h;have:=d _ (eb c);omega
 ·rw[tS (by omega),tS (by omega)]at h;omega
theorem B9:∀{l:List (Nat×Obj)}{H:Heap}{x:Nat},(∀p∈l,p.1≠x)->(bd H l)[x]?=H[x]?
 |[],_,_,_=>rfl
 |(b,o)::r,H,x,h=>by
  simp only[bd];rw[B9 (fun p a=>h p (by simp[a])),List.getElem?_set_ne (h (b,o) (by simp))]
theorem CB:∀{l:List (Nat×Obj)}{H:Heap},(l.map (·.1)).Nodup->∀p∈l,p.1<H.length->(bd H l)[p.1]?=some p.2
 |[],_,_,_,h,_=>by simp at h
 |(b,o)::r,H,a,p,c,d=>by
  simp only[cC,db]at a;simp only[bd];rcases cA.1 c with rfl|c
  ·rw[B9 (fun q hq e=>a.1 (ei.2 ⟨q,hq,e⟩)),List.getElem?_set_self d]
  ·exact CB a.2 p c (by simpa using d)
theorem Cw(a:Nat):∀(l:List Obj),(newAt a l).map (·.1)=List.range' a l.length
 |[]=>rfl
 |o::r=>by simp[newAt,Cw (a+1) r,List.range'_succ]
theorem Kz:∀(l:List Obj)(a j:Nat)(h:j<l.length),(a+j,l[j])∈newAt a l
 |[],_,_,h=>by simp at h
 |o::r,a,0,h=>by simp[newAt]
 |o::r,a,j+1,h=>by
  have:=Kz r (a+1) j (by simpa using h);simp only[newAt,List.getElem_cons_succ,cA];right;have e:a+(j+1)=a+1+j:=by omega
  rw[e];exact this
section
variable{P:a1}{w w':bi}{aa aF ah:Nat->Prop}{β aJ:Bd}{H H':Heap}
theorem ft.mut{b:Nat}{o:Obj}(h:ft P w aa β H ah b o)(f:o.live)(l:¬aa (β.al b)):¬ah (β.al b):=by
 have held:∀{fz},cG aa β ah fz b->¬ah (β.al b):=by
  intro fz g;cases fz with
  |true=>exact(l (by simpa[cG]using g)).elim
  |false=>
   have:¬aa (β.al b)/\¬ah (β.al b):=by simpa[cG]using g
   exact this.2
 cases o with
 |hole=>exact f.elim
 |dead=>exact f.elim
 |box fz t=>
  obtain⟨cs,T,c,d,a,e⟩:=h;exact held a
 |arr k aA ai es=>
  rcases h with h|⟨cs,T,m,rest,c,d,a,e,n,p,j,q⟩
  ·exact(f h).elim
  ·exact held j
 |map fz es=>
  obtain⟨i,clock,c,d,a⟩:=h;exact held a
 |dy ks vs=>
  obtain⟨i,clock,c,d,a,e⟩:=h;exact held e
 |dC s pos=>
  obtain⟨bs,c,d,a⟩:=h;exact held a
 |loop L=>
  obtain⟨tmps,defers,fn,c,d,a,e⟩:=h;exact held e
theorem ft.carry(hi:∀k,aa k->aF k)(hs:∀k,aa k->w'.heap[k]?=w.heap[k]?)(aH:cd β H aJ H'){b:Nat}{o:Obj}(l:o.refs (aI H))
 (j:o.live->w'.heap[β.al b]?=w.heap[β.al b]?/\aJ.al b=β.al b/\aJ.cap b=β.cap b)(held:o.live->∀fz,cG aa β ah fz b->cG aF aJ ah fz b)(h:ft P w aa β H ah b o):ft P w' aF aJ H' ah b o:=by
 cases o with
 |hole=>trivial
 |dead=>trivial
 |box fz t=>
  obtain⟨cs,T,d,e,f,i⟩:=h;obtain⟨a,c,g⟩:=j trivial;exact⟨cs,T,by rw[c,a];exact d,br.mono hi hs aH _ _ l e,held trivial _ f,i⟩
 |arr k aA ai es=>
  rcases h with h|⟨cs,T,p,rest,d,e,f,i,q,r,u,v⟩
  ·exact .inl h
  ·by_cases n:df k es
   ·exact .inl n
   ·obtain⟨a,c,g⟩:=j n;exact .inr ⟨cs,T,p,rest,by rw[c,a];exact d,bM.mono hi hs aH _ _ _ l e,f,by rw[g];exact i,by rw[g];exact q,by rw[g];exact r,held n _ u,v⟩
 |map fz es=>
  obtain⟨m,clock,d,e,f⟩:=h;obtain⟨a,c,g⟩:=j trivial;exact⟨m,clock,by rw[c,a];exact d,cH.mono hi hs _ _ e,held trivial _ f⟩
 |dy ks vs=>
  obtain⟨m,clock,d,e,f,i⟩:=h;obtain⟨a,c,g⟩:=j trivial;exact⟨m,clock,by rw[c,a];exact d,bt.mono hi hs _ _ e,bB.mono hi hs aH _ _ l f,held trivial _ i⟩
 |dC s pos=>
  obtain⟨bs,d,e,f⟩:=h;obtain⟨a,c,g⟩:=j trivial;exact⟨bs,by rw[c,a];exact d,e,held trivial _ f⟩
 |loop L=>
  obtain⟨tmps,defers,fn,d,e,f,i⟩:=h;obtain⟨a,c,g⟩:=j trivial;exact⟨tmps,defers,fn,by rw[c,a];exact d,e,fun x=>aB.mono hi hs aH _ _ (l x) (f x),held trivial _ i⟩
def dF(bs:List Nat)(a:Nat)(H0 bW:Heap)(b:AV):aW:=
 {v:=cO (sig bs a) b,ak:=bs.zip (H0.map (dc (sig bs a))),aK:=bs.zip ((bW.take H0.length).map (dc (sig bs a))),aV:=(bW.drop H0.length).map (dc (sig bs a))}
open Classical in
theorem Kg{H0 bW:Heap}{fO:List AV}{v0:AV}(bs:List Nat)(base:Nat)(hlen:bs.length=H0.length)(hnd:bs.Nodup)(hlt:∀b∈bs,b<base)
 (hl:H0.length<=bW.length)(ha:aS (aI H0) fO)(ho:∀(b:Nat)(o:Obj),H0[b]?=some o->o.refs (aI H0))
 {H:Heap}{w:bi}{aa ah:Nat->Prop}{β:Bd}{cargs:List bb}(hr:bS P w aa β H ah)(hargs:bB P w aa β H (cJ (sig bs base) fO) cargs)
 (ak:∀p∈(dF bs base H0 bW v0).ak,H[p.1]?=some p.2)(aV:∀i,i<(dF bs base H0 bW v0).aV.length->H[base+i]?=some .hole):
 ∃(dW:Bd)(Prot0:Nat->Prop),(∀b,dW.al b=β.al (sig bs base b))/\bS P w aa dW H0 Prot0/\bB P w aa dW H0 fO cargs/\(∀b,b<H0.length->(gQ H (sig bs base b)↔gQ H0 b))/\
  ∀(cv:bb)(w':bi)(β0':Bd)(aF:Nat->Prop),bY P Prot0 aa w dW H0 aF w' β0' bW->aB P w' aF β0' bW v0 cv->aE (aI bW) v0->
   ∃aJ,bY P ah aa w β H aF w' aJ (bd H ((dF bs base H0 bW v0).aK++newAt base (dF bs base H0 bW v0).aV))/\
    aB P w' aF aJ (bd H ((dF bs base H0 bW v0).aK++newAt base (dF bs base H0 bW v0).aV)) (dF bs base H0 bW v0).v cv/\
    aE (aI (bd H ((dF bs base H0 bW v0).aK++newAt base (dF bs base H0 bW v0).aV))) (dF bs base H0 bW v0).v:=by
 obtain⟨σ,hσ⟩:∃σ,σ=sig bs base:=⟨_,rfl⟩
 have hinj:∀{i j},σ i=σ j->i=j:=fun{i j} h=>aJL hnd hlt (by rw[hσ]at h;exact h);have hold:∀{i}(hi:i<H0.length),σ i=bs[i]'(by omega):=fun hi=>by rw[hσ];exact tR _
 have hnw:∀{i},H0.length<=i->σ i=base+(i-H0.length):=fun hi=>by rw[hσ,tS (by omega),hlen]
 have hget:∀(b:Nat)(o:Obj),H0[b]?=some o->H[σ b]?=some (dc σ o):=by
  intro b o hb;obtain⟨hbl,rfl⟩:=ck.1 hb;have:=ak (bs[b]'(by omega),dc (sig bs base) H0[b]) (by
   simp only[dF];rw[cB];exact⟨b,by simp;omega,by simp⟩)
  rw[hold hbl,hσ];exact this
 have hnewH:∀i,H0.length<=i->i<bW.length->H[σ i]?=some .hole:=by
  intro i h1 h2;rw[hnw h1];exact aV (i-H0.length) (by simp[dF];omega)
 obtain⟨H2,hH2⟩:∃H2,H2=bd H ((dF bs base H0 bW v0).aK++newAt base (dF bs base H0 bW v0).aV):=⟨_,rfl⟩
 have hkeys:∀p∈(dF bs base H0 bW v0).aK++newAt base (dF bs base H0 bW v0).aV,∃i,i<bW.length/\p.1=σ i:=by
  intro p hp;rcases ed.1 hp with hp|hp
  ·simp only[dF]at hp;have hm:=(da hp).1;obtain⟨i,hi,he⟩:=cB.1 hm;exact⟨i,by omega,by rw[hold (by omega)];exact he.symm⟩
  ·have hm:p.1∈(newAt base (dF bs base H0 bW v0).aV).map (·.1):=dp hp
   rw[Cw,dq]at hm;simp only[dF,List.length_map,List.length_drop]at hm;exact⟨H0.length+(p.1-base),by omega,by rw[hnw (by omega)];omega⟩
 have hndk:(((dF bs base H0 bW v0).aK++newAt base (dF bs base H0 bW v0).aV).map (·.1)).Nodup:=by
  rw[ee,Cw];have e:(dF bs base H0 bW v0).aK.map (·.1)=bs:=by
   simp only[dF];rw[List.map_fst_zip];simp;omega
  rw[e,List.nodup_append];refine⟨hnd,List.nodup_range',fun a h1 b h2 he=>?_⟩;subst he;have:=hlt _ h1;rw[dq]at h2;omega
 have hA:∀(i:Nat)(o:Obj),bW[i]?=some o->H2[σ i]?=some (dc σ o):=by
  intro i o hi;obtain⟨hil,rfl⟩:=ck.1 hi
  by_cases hi0:i<H0.length
  ·have hm:(bs[i]'(by omega),dc (sig bs base) bW[i])∈(dF bs base H0 bW v0).aK++newAt base (dF bs base H0 bW v0).aV:=by
    refine List.mem_append_left _ ?_;simp only[dF];rw[cB];exact⟨i,by simp;omega,by simp⟩
   have:=CB (H:=H) hndk _ hm (by
    have:=hget i _ (ce hi0);rw[hold hi0]at this;exact(ck.1 this).1)
   rw[hH2,hold hi0,this,hσ]
  ·have hm:(base+(i-H0.length),dc (sig bs base) bW[i])∈(dF bs base H0 bW v0).aK++newAt base (dF bs base H0 bW v0).aV:=by
    refine dk _ ?_;have:=Kz (dF bs base H0 bW v0).aV base (i-H0.length) (by simp[dF];omega);have e:(dF bs base H0 bW v0).aV[i-H0.length]'(by simp[dF];omega)=dc (sig bs base) bW[i]:=by
     simp only[dF,List.getElem_map,List.getElem_drop];congr 2;omega
    rw[e]at this;exact this
   have:=CB (H:=H) hndk _ hm (by
    have:=hnewH i (by omega) hil;rw[hnw (by omega)]at this;exact(ck.1 this).1)
   rw[hH2,hnw (by omega),this,hσ]
 have hB:∀x,(∀i,i<bW.length->σ i≠x)->H2[x]?=H[x]?:=by
  intro x hx;rw[hH2];refine B9 fun p hp=>?_;obtain⟨i,h1,h2⟩:=hkeys p hp;rw[h2];exact hx i h1
 let dW:Bd:=⟨fun b=>β.al (σ b),fun b=>β.cap (σ b)⟩
 let Prot0:Nat->Prop:=fun k=>ah k\/∃x o,H[x]?=some o/\o.live/\(∀i,i<H0.length->σ i≠x)/\β.al x=k
 have hemb:dX σ dW H0 β H:=⟨hget,fun b _=>⟨rfl,rfl⟩⟩
 have small:∀x:Nat×Nat,aI H0 x->Small H0.length x:=fun x⟨o,ho,_⟩=>(ck.1 ho).1;have held0:∀{b:Nat}{o:Obj},H0[b]?=some o->o.live->∀fz,cG aa dW Prot0 fz b↔cG aa β ah fz (σ b):=by
  intro b o hb hlv fz;cases fz with
  |true=>simp[cG,dW]
  |false=>
   simp only[cG,aT,if_false];refine and_congr_right fun hni=>⟨fun h hp=>h (.inl hp),fun h hp=>?_⟩
   rcases hp with hp|⟨x,o',h1,h2,h3,h4⟩
   ·exact h hp
   ·exact h3 b (ck.1 hb).1 (hr.inj _ _ _ _ (hget b o hb) h1 (qV.2 hlv) h2 hni h4.symm)
 have hr0:bS P w aa dW H0 Prot0:=by
  refine⟨fun b o hb=>?_,fun b b' o o' h1 h2 l1 l2 hni he=>?_,ho,hr.bR,fun k hk=>?_,hr.ia⟩
  ·exact(hemb.Rt hb ((ho b o hb).mono small) (held0 hb)).1 (hr.cF _ _ (hget b o hb))
  ·exact hinj (hr.inj _ _ _ _ (hget b o h1) (hget b' o' h2) (qV.2 l1) (qV.2 l2) hni he)
  ·rcases hk with hk|⟨x,o,h1,h2,_,rfl⟩
   ·exact hr.er k hk
   ·exact hr.mQ h1 h2
 have hargs0:bB P w aa dW H0 fO cargs:=by
  rw[<-hσ]at hargs;exact(hemb.qj _ _ (aS.mono small _ ha)).1 hargs
 refine⟨dW,Prot0,fun b=>by rw[<-hσ],hr0,hargs0,fun b hb=>by rw[<-hσ];exact hemb.loop hb,fun cv w' β0' aF hp hv hvr=>?_⟩
 let aJ:Bd:=⟨fun x=>if h:∃i,i<bW.length/\σ i=x then β0'.al h.choose else β.al x,fun x=>if h:∃i,i<bW.length/\σ i=x then β0'.cap h.choose else β.cap x⟩
 have hβ:∀i,i<bW.length->aJ.al (σ i)=β0'.al i/\aJ.cap (σ i)=β0'.cap i:=by
  intro i hi;have hex:∃j,j<bW.length/\σ j=σ i:=⟨i,hi,rfl⟩
  have hc:hex.choose=i:=hinj hex.choose_spec.2;simp only[aJ,dif_pos hex,hc,and_self]
 have hβn:∀x,(∀i,i<bW.length->σ i≠x)->aJ.al x=β.al x/\aJ.cap x=β.cap x:=by
  intro x hx;have hnex:¬∃i,i<bW.length/\σ i=x:=fun⟨i,h1,h2⟩=>hx i h1 h2;simp only[aJ,dif_neg hnex,and_self]
 have hemb':dX σ β0' bW aJ H2:=⟨hA,fun b hb=>hβ b hb⟩
 have small':∀x:Nat×Nat,aI bW x->Small bW.length x:=fun x⟨o,ho,_⟩=>(ck.1 ho).1;have split:∀x,(∃i,i<bW.length/\σ i=x)\/∀i,i<bW.length->σ i≠x:=by
  intro x
  by_cases hx:∃i,i<bW.length/\σ i=x
  ·exact .inl hx
  ·exact .inr fun i h1 h2=>hx ⟨i,h1,h2⟩
 have inOld:∀{i v},i<bW.length->aI H (σ i,v)->aI H0 (i,v)/\i<H0.length:=by
  intro i v hi ⟨o,h1,h2⟩
  by_cases hi0:i<H0.length
  ·refine⟨?_,hi0⟩;have:=hget i _ (ce hi0);simp only at h1;rw[this]at h1;cases h1;exact⟨_,ce hi0,NY.1 h2⟩
  ·have:=hnewH i (by omega) hi;simp only at h1;rw[this]at h1;cases h1;exact h2.elim
 have gX:cd β H aJ H2:=by
  refine⟨?_,?_,?_,?_,?_⟩
  ·intro b hb hlv;rcases split b with⟨i,hi,rfl⟩|hx
   ·obtain⟨k1,k2⟩:=inOld hi hb;obtain⟨g1,g2⟩:=hp.step.box i k1 ((hemb'.box hi).1 hlv);exact⟨(hemb.box k2).2 g1,(hβ i hi).1.trans g2⟩
   ·unfold mS at hlv⊢;rw[hB b hx]at hlv;exact⟨hlv,(hβn b hx).1⟩
  ·intro b hb hlv;rcases split b with⟨i,hi,rfl⟩|hx
   ·obtain⟨k1,k2⟩:=inOld hi hb;obtain⟨g1,g2⟩:=hp.step.it i k1 ((hemb'.it hi).1 hlv);exact⟨(hemb.it k2).2 g1,(hβ i hi).1.trans g2⟩
   ·unfold mT at hlv⊢;rw[hB b hx]at hlv;exact⟨hlv,(hβn b hx).1⟩
  ·intro b hb hlv;rcases split b with⟨i,hi,rfl⟩|hx
   ·obtain⟨k1,k2⟩:=inOld hi hb;obtain⟨g1,g2⟩:=hp.step.map i k1 ((hemb'.map hi).1 hlv);exact⟨(hemb.map k2).2 g1,(hβ i hi).1.trans g2⟩
   ·unfold n6 at hlv⊢;rw[hB b hx]at hlv;exact⟨hlv,(hβn b hx).1⟩
  ·intro b aA ai k es hb hlv;rcases split b with⟨i,hi,rfl⟩|hx
   ·obtain⟨k1,k2⟩:=inOld hi hb;obtain⟨gI,g0,rfl⟩:=(hemb'.arr hi).1 hlv;obtain⟨k0,es1,g1,g2,g3,g4⟩:=hp.step.arr i aA ai k gI k1 g0;refine⟨k0,cJ σ es1,(hemb.arr k2).2 ⟨_,g1,rfl⟩,by rw[tj,tj];exact g2,by rw[nY,nY];exact g3,fun hn=>?_⟩;rw[nY]at hn;rw[(hβ i hi).1,(hβ i hi).2];exact g4 hn
   ·unfold eX at hlv⊢;rw[hB b hx]at hlv;exact⟨k,es,hlv,eq _,Iff.rfl,fun _=>hβn b hx⟩
  ·intro b hb hlv;rcases split b with⟨i,hi,rfl⟩|hx
   ·obtain⟨k1,k2⟩:=inOld hi hb;obtain⟨g1,g2⟩:=hp.step.loop i k1 ((hemb'.loop hi).1 hlv);exact⟨(hemb.loop k2).2 g1,(hβ i hi).1.trans g2⟩
   ·unfold gQ at hlv⊢;rw[hB b hx]at hlv;exact⟨hlv,(hβn b hx).1⟩
 have hinn:∀x,aI H x->aI H2 x:=by
  rintro⟨b,v⟩ hb;rcases split b with⟨i,hi,rfl⟩|hx
  ·obtain⟨k1,_⟩:=inOld hi hb;exact(hemb'.EK (x:=(i,v)) hi).2 (hp.fp _ k1)
  ·obtain⟨o,h1,h2⟩:=hb;exact⟨o,by simp only;rw[hB b hx];exact h1,h2⟩
 have prot0:∀{x:Nat}{o:Obj},(∀i,i<bW.length->σ i≠x)->H[x]?=some o->o.live->Prot0 (β.al x):=by
  intro x o hx h1 h2;exact .inr ⟨x,o,h1,h2,fun i hi=>hx i (by omega),rfl⟩
 have mut':∀{i:Nat}{o:Obj},bW[i]?=some o->o.live->¬aF (β0'.al i)->¬Prot0 (β0'.al i):=by
  intro i o h1 h2 h3;exact(hp.rel.cF i o h1).mut h2 h3
 have hrel:bS P w' aF aJ H2 ah:=by
  refine⟨fun x o hx=>?_,fun x x' o o' h1 h2 l1 l2 hni he=>?_,fun x o hx=>?_,hp.rel.bR,fun k hk=>hp.rel.er k (.inl hk),hp.rel.ia⟩
  ·rcases split x with⟨i,hi,rfl⟩|hn
   ·have hg:=hA i _ (ce hi);rw[hg]at hx;cases hx;refine(hemb'.Rt (Prot0:=Prot0) (ce hi) ((hp.rel.refs i _ (ce hi)).mono small') (fun hlv fz=>?_)).2 (hp.rel.cF i _ (ce hi));cases fz with
    |true=>simp[cG,(hβ i hi).1]
    |false=>
     simp only[cG,aT,if_false,(hβ i hi).1];exact⟨fun h=>⟨h.1,fun hp=>h.2 (.inl hp)⟩,fun h=>⟨h.1,mut' (ce hi) hlv h.1⟩⟩
   ·rw[hB x hn]at hx;refine ft.carry hp.bR (fun k hk=>hp.ext.same k (.inr hk)) gX (hr.refs x o hx) (fun hlv=>⟨hp.ext.same _ (.inl (prot0 hn hx hlv)),hβn x hn⟩) (fun hlv fz hh=>?_) (hr.cF x o hx);have hp0:=prot0 hn hx hlv;cases fz with
    |true=>
     simp only[cG,if_true]at hh⊢;rw[(hβn x hn).1];exact hp.bR _ hh
    |false=>
     simp only[cG,aT,if_false]at hh⊢;rw[(hβn x hn).1];exact⟨fun hi=>(hp.fresh _ hi).elim hh.1 (fun h=>h hp0),hh.2⟩
  ·rcases split x with⟨i,hi,rfl⟩|hn<;>rcases split x' with⟨j,hj,rfl⟩|hn'
   ·have g1:=hA i _ (ce hi);have g2:=hA j _ (ce hj);rw[g1]at h1;cases h1;rw[g2]at h2;cases h2;rw[(hβ i hi).1,(hβ j hj).1]at he;rw[(hβ i hi).1]at hni;rw[hp.rel.inj i j _ _ (ce hi) (ce hj) (qV.1 l1) (qV.1 l2) hni he]
   ·have g1:=hA i _ (ce hi);rw[g1]at h1;cases h1;rw[hB x' hn']at h2;rw[(hβ i hi).1,(hβn x' hn').1]at he;rw[(hβ i hi).1]at hni;exact(mut' (ce hi) (qV.1 l1) hni (he▸prot0 hn' h2 l2)).elim
   ·have g2:=hA j _ (ce hj);rw[g2]at h2;cases h2;rw[hB x hn]at h1;rw[(hβ j hj).1,(hβn x hn).1]at he;rw[(hβn x hn).1]at hni;exact(mut' (ce hj) (qV.1 l2) (he▸hni) (he▸prot0 hn h1 l1)).elim
   ·rw[hB x hn]at h1;rw[hB x' hn']at h2;rw[(hβn x hn).1,(hβn x' hn').1]at he;rw[(hβn x hn).1]at hni;exact hr.inj _ _ _ _ h1 h2 l1 l2 (fun hi=>hni (hp.bR _ hi)) he
  ·rcases split x with⟨i,hi,rfl⟩|hn
   ·have hg:=hA i _ (ce hi);rw[hg]at hx;cases hx;rw[WN];exact(hp.rel.refs i _ (ce hi)).mono (fun y hy=>(hemb'.EK (small' y hy)).2 hy)
   ·rw[hB x hn]at hx;exact(hr.refs x o hx).mono hinn
 refine⟨aJ,?_,?_,?_⟩
 ·rw[<-hH2];refine⟨hp.bR,fun k hk=>(hp.fresh k hk).imp id (fun h h'=>h (.inl h')),⟨hp.ext.size,fun k hk=>hp.ext.same k (hk.imp .inl id),hp.ext.io⟩,gX,hrel,hinn,fun b hb=>?_⟩;rcases split b with⟨i,hi,rfl⟩|hx
  ·by_cases hi0:i<H0.length
   ·exact(hemb'.loop hi).2 (hp.loop i ((hemb.loop hi0).1 hb))
   ·obtain⟨L,hL⟩:=hb;rw[hnewH i (by omega) hi]at hL;cases hL
  ·unfold gQ at hb⊢;rw[hB b hx];exact hb
 ·rw[<-hH2];show aB P w' aF aJ H2 (cO (sig bs base) v0) cv;rw[<-hσ];exact(hemb'.El _ _ (aE.mono small' _ hvr)).2 hv
 ·rw[<-hH2];show aE (aI H2) (cO (sig bs base) v0);rw[<-hσ,CP];exact aE.mono (fun y hy=>(hemb'.EK (small' y hy)).2 hy) _ hvr
theorem cw.frame{f:a7}{H0 bW:Heap}{fO:List AV}{g:AV}(h:cw P f H0 fO bW g)(bs:List Nat)(a:Nat)(r:bs.length=H0.length)(t:bs.Nodup)(s:∀b∈bs,b<a)
 (q:H0.length<=bW.length)(d:aS (aI H0) fO)(u:∀(b:Nat)(o:Obj),H0[b]?=some o->o.refs (aI H0)):
 sc P f (cJ (sig bs a) fO) a (dF bs a H0 bW g):=by
 refine⟨h.1,fun H w aa ah β m x n _ ak aV=>?_⟩;obtain⟨dW,i,-,y,p,-,back⟩:=Kg bs a r t s q d u x n ak aV;refine(h.2 w aa i dW m y p d).mono ?_;rintro e w' ⟨c,B,aF,rfl,v,z,A⟩;obtain⟨aJ,j,k,l⟩:=back c w' B aF v z A;exact⟨c,aJ,aF,rfl,j,k,l⟩
theorem iD.frame{b:Nat}{H0 bW:Heap}{fO:List AV}{i:AV}(h:iD P b H0 fO bW i)(bs:List Nat)(a:Nat)(x:bs.length=H0.length)(A:bs.Nodup)(z:∀b∈bs,b<a)
 (v:H0.length<=bW.length)(g:aS (aI H0) fO)(B:∀(b:Nat)(o:Obj),H0[b]?=some o->o.refs (aI H0)):
 uk P (sig bs a b) (cJ (sig bs a) fO) a (dF bs a H0 bW i):=by
 intro H w aa ah β p D r _ ak aV;obtain⟨dW,j,t,E,s,y,back⟩:=Kg bs a x A z v g B D r ak aV;have u:b<H0.length:=by
  obtain⟨L,q⟩:=h.1;exact(ck.1 q).1
 refine⟨(y b u).2 h.1,?_⟩;obtain⟨f,tmps,assign,body,d,e⟩:=h.2 w aa j dW p E s g;rw[t]at d e;refine⟨f,tmps,assign,body,d,fun n I=>?_⟩;obtain⟨c,w',J,aF,g1,C,F,G⟩:=e n I;obtain⟨aJ,k,l,m⟩:=back c w' J aF C F G;exact⟨c,w',aJ,aF,g1,k,l,m⟩
end
end Go.au
namespace Go.au
variable[Gl]
def kI(b:Nat):List Nat->Nat->Option Nat
 |[],_=>none
 |x::r,i=>bif ej x b then some i else kI b r (i+1)
theorem Mz{b:Nat}:∀{l:List Nat}{i j:Nat},kI b l i=some j->i<=j/\l[j-i]?=some b
 |[],_,_,h=>by simp[kI]at h
 |x::r,i,j,h=>by
  simp only[kI]at h;cases a:ej x b
  ·simp only[a,cond_false]at h;obtain⟨d,c⟩:=Mz h;refine⟨by omega,?_⟩;have e:j-i=(j-(i+1))+1:=by omega
   rw[e,List.getElem?_cons_succ];exact c
  ·simp only[a,cond_true,e9]at h;subst h;simp[dA a]
section
variable(bs:List Nat)
mutual
def mj:AV->Option AV
 | .p v=>some (.p v)
 | .ptr b path=>match kI b bs 0 with
  |some i=>some (.ptr i path)
  |none=>none
 | .b6 b aA ai i path=>match kI b bs 0 with
  |some j=>some (.b6 j aA ai i path)
  |none=>none
 | .sl b aA ai off len=>match kI b bs 0 with
  |some j=>some (.sl j aA ai off len)
  |none=>none
 | .map b=>match kI b bs 0 with
  |some j=>some (.map j)
  |none=>none
 | .func f fi ca=>match me fi,me ca with
  |some a,some b=>some (.func f a b)
  |_,_=>none
 | .st u fs=>match me fs with
  |some a=>some (.st u a)
  |none=>none
 | .aG vs=>match me vs with
  |some a=>some (.aG a)
  |none=>none
def me:List AV->Option (List AV)
 |[]=>some []
 |v::r=>match mj v,me r with
  |some a,some b=>some (a::b)
  |_,_=>none
end
def DR:Obj->Option Obj
 | .box fz t=>match mj bs t with
  |some a=>some (.box fz a)
  |none=>none
 | .arr k aA ai es=>match me bs es with
  |some a=>some (.arr k aA ai a)
  |none=>none
 | .map fz es=>some (.map fz es)
 | .dy ks vs=>match me bs vs with
  |some a=>some (.dy ks a)
  |none=>none
 | .dC s n=>some (.dC s n)
 | .dead=>some .dead
 |_=>none
def wS(H:Heap):List Nat->Option Heap
 |[]=>some []
 |b::r=>match H[b]? with
  |some o=>match DR bs o,wS H r with
   |some a,some t=>some (a::t)
   |_,_=>none
  |none=>none
end
section
variable{bs:List Nat}{base:Nat}
theorem zu{b i:Nat}(h:kI b bs 0=some i):sig bs base i=b:=by
 have:=(Mz h).2;simp only[Nat.sub_zero]at this;simp[sig,this]
mutual
theorem Ly:∀{a c:AV},mj bs a=some c->cO (sig bs base) c=a
 | .p v,c,h=>by simp only[mj,e9]at h;subst h;rfl
 | .ptr b path,c,h=>by
  simp only[mj]at h
  split at h
  ·rename_i i hi;simp only[e9]at h;subst h;simp only[cO,zu hi]
  ·simp at h
 | .b6 b aA ai i path,c,h=>by
  simp only[mj]at h
  split at h
  ·rename_i i hi;simp only[e9]at h;subst h;simp only[cO,zu hi]
  ·simp at h
 | .sl b aA ai off len,c,h=>by
  simp only[mj]at h
  split at h
  ·rename_i i hi;simp only[e9]at h;subst h;simp only[cO,zu hi]
  ·simp at h
 | .map b,c,h=>by
  simp only[mj]at h
  split at h
  ·rename_i i hi;simp only[e9]at h;subst h;simp only[cO,zu hi]
  ·simp at h
 | .func f fi ca,c,h=>by
  simp only[mj]at h
  split at h
  ·rename_i a b d g;simp only[e9]at h;subst h;simp only[cO,pz d,pz g]
  ·simp at h
 | .st u fs,c,h=>by
  simp only[mj]at h
  split at h
  ·rename_i a d;simp only[e9]at h;subst h;simp only[cO,pz d]
  ·simp at h
 | .aG vs,c,h=>by
  simp only[mj]at h
  split at h
  ·rename_i a d;simp only[e9]at h;subst h;simp only[cO,pz d]
  ·simp at h
theorem pz:∀{l e:List AV},me bs l=some e->cJ (sig bs base) e=l
 |[],e,h=>by simp only[me,e9]at h;subst h;rfl
 |v::r,e,h=>by
  simp only[me]at h
  split at h
  ·rename_i a b d g;simp only[e9]at h;subst h;simp only[cJ,Ly d,pz g]
  ·simp at h
end
theorem Wm{o c:Obj}(h:DR bs o=some c):dc (sig bs base) c=o:=by
 cases o<;>simp only[DR]at h
 case box fz t=>
  split at h
  ·rename_i a b;simp only[e9]at h;subst h;simp only[dc,Ly b]
  ·simp at h
 case arr k aA ai es=>
  split at h
  ·rename_i a b;simp only[e9]at h;subst h;simp only[dc,pz b]
  ·simp at h
 case dy ks vs=>
  split at h
  ·rename_i a b;simp only[e9]at h;subst h;simp only[dc,pz b]
  ·simp at h
 case hole=>simp at h
 case loop=>simp at h
 all_goals (simp only[e9]at h;subst h;rfl)
theorem Kj{H:Heap}:∀{l:List Nat}{H0:Heap},wS bs H l=some H0->H0.length=l.length/\∀p∈l.zip (H0.map (dc (sig bs base))),H[p.1]?=some p.2
 |[],H0,h=>by simp only[wS,e9]at h;subst h;simp
 |b::r,H0,h=>by
  simp only[wS]at h
  split at h
  case h_2=>simp at h
  rename_i o f
  split at h
  case h_2=>simp at h
  rename_i a t d e;simp only[e9]at h;subst h;obtain⟨i1,i2⟩:=Kj e;refine⟨by simp[i1],fun p c=>?_⟩;simp only[cC,List.zip_cons_cons,cA]at c;rcases c with rfl|c
  ·simp only[Wm d];exact f
  ·exact i2 p c
end
mutual
def Qo:AV->List Nat->List Nat
 | .p _,acc=>acc
 | .ptr b _,acc| .b6 b _ _ _ _,acc| .sl b _ _ _ _,acc| .map b,acc=>b::acc
 | .func _ fi ca,acc=>uP fi (uP ca acc)
 | .st _ fs,acc| .aG fs,acc=>uP fs acc
def uP:List AV->List Nat->List Nat
 |[],acc=>acc
 |v::r,acc=>Qo v (uP r acc)
end
def awD:Obj->List Nat
 | .box _ t=>Qo t []
 | .arr _ _ _ es=>uP es []
 |_=>[]
def D4(H:Heap):Nat->List Nat->List Nat->List Nat
 |0,_,acc=>acc
 |_,[],acc=>acc
 |n+1,b::r,acc=>match kI b acc 0 with
  |some _=>D4 H n r acc
  |none=>D4 H n (match H[b]? with
   |some o=>awD o++r
   |none=>r) (b::acc)
def nodupB:List Nat->Bool
 |[]=>true
 |x::r=>(match kI x r 0 with
  |some _=>false
  |none=>true)&&nodupB r
theorem Kp{b:Nat}:∀{l:List Nat}{i:Nat},kI b l i=none->b∉l
 |[],_,_=>by simp
 |x::r,i,h=>by
  simp only[kI]at h;cases a:ej x b
  ·simp only[a,cond_false]at h;have:=Kp h;simp only[cA,not_or];refine⟨fun e=>?_,this⟩;subst e;rw[e6]at a;cases a
  ·simp[a]at h
theorem Kw:∀{l:List Nat},nodupB l=true->l.Nodup
 |[],_=>List.nodup_nil
 |x::r,h=>by
  simp only[nodupB,ay]at h;rw[db];refine⟨?_,Kw h.2⟩;have a:=h.1
  split at a
  ·simp at a
  ·rename_i b;exact Kp b
def AU(H:Heap)(b v:Nat):Bool:=match H[b]? with
 |some .hole|none=>false
 |some (.arr _ aA _ _)=>em v aA
 |some _=>true
theorem aw0{H:Heap}{b v:Nat}(h:AU H b v=true):aI H (b,v):=by
 unfold AU at h
 split at h
 ·simp at h
 ·simp at h
 ·rename_i k aA ai c a;exact⟨_,a,c8 h⟩
 ·rename_i o d e a;refine⟨o,a,?_⟩;cases o with
  |hole=>exact(d rfl).elim
  |arr k aA ai c=>exact(e _ _ _ _ rfl).elim
  |_=>trivial
mutual
def rP(H:Heap):AV->Bool
 | .p _=>true
 | .ptr b _| .map b=>AU H b 0
 | .b6 b aA _ _ _| .sl b aA _ _ _=>AU H b aA
 | .func _ fi ca=>mX H fi&&mX H ca
 | .st _ fs| .aG fs=>mX H fs
def mX(H:Heap):List AV->Bool
 |[]=>true
 |v::r=>rP H v&&mX H r
end
mutual
theorem CQ{H:Heap}:∀{a:AV},rP H a=true->aE (aI H) a
 | .p _,_=>by simp[aE]
 | .ptr _ _,h| .map _,h| .b6 _ _ _ _ _,h| .sl _ _ _ _ _,h=>by
  simp only[rP]at h;simp only[aE];exact aw0 h
 | .func _ fi ca,h=>by
  simp only[rP,ay]at h;simp only[aE];exact⟨pA h.1,pA h.2⟩
 | .st _ _,h| .aG _,h=>by
  simp only[rP]at h;simp only[aE];exact pA h
theorem pA{H:Heap}:∀{l:List AV},mX H l=true->aS (aI H) l
 |[],_=>by simp[aS]
 |v::r,h=>by
  simp only[mX,ay]at h;simp only[aS];exact⟨CQ h.1,pA h.2⟩
end
def zQ(H:Heap):Obj->Bool
 | .box _ t=>rP H t
 | .arr _ _ _ es=>mX H es
 | .dy _ vs=>mX H vs
 | .loop _=>false
 |_=>true
theorem Ks{H:Heap}{o:Obj}(h:zQ H o=true):o.refs (aI H):=by
 cases o<;>simp only[zQ]at h<;>simp only[Obj.refs]
 ·exact CQ h
 ·exact pA h
 ·exact pA h
 ·simp at h
def rI(p:Obj->Bool):List Obj->Bool
 |[]=>true
 |o::r=>p o&&rI p r
theorem wL{p:Obj->Bool}:∀{l:List Obj},rI p l=true->∀o∈l,p o=true
 |[],_,o,h=>by simp at h
 |a::r,h,o,b=>by
  simp only[rI,ay]at h;rcases cA.1 b with rfl|b
  ·exact h.1
  ·exact wL h.2 o b
def zI(n:Nat):List Nat->Bool
 |[]=>true
 |x::r=>em (x+1) n&&zI n r
theorem DL{n:Nat}:∀{l:List Nat},zI n l=true->∀x∈l,x<n
 |[],_,o,h=>by simp at h
 |a::r,h,o,b=>by
  simp only[zI,ay]at h;rcases cA.1 b with rfl|b
  ·exact c8 h.1
  ·exact DL h.2 o b
def zF:Obj->Bool
 | .hole=>false
 |_=>true
def xc(run:List AV->Heap->Option (AV×Heap))(args:List AV)(H:Heap):Option aW:=
 let bs:=D4 H 1000 (uP args []) []
 match me bs args,wS bs H bs with
 |some fO,some H0=>bif nodupB bs&&(zI H.length bs&&(mX H0 fO&&rI (zQ H0) H0))then
  match run fO H0 with
  |some (v0,H1)=>bif em H0.length H1.length&&(rI zF (H1.take H0.length))then some (dF bs H.length H0 H1 v0)else none
  |none=>none
  else none
 |_,_=>none
theorem CH{P:a1}{f:a7}{run:List AV->Heap->Option (AV×Heap)}(n:∀args H v H',run args H=some (v,H')->cw P f H args H' v){args:List AV}{H:Heap}{e:aW}(h:xc run args H=some e):
 sc P f args H.length e/\qe H e:=by
 unfold xc at h;dsimp only at h
 split at h
 case h_2=>simp at h
 rename_i fO H0 g i;simp only[ax,e7,ay]at h;obtain⟨⟨g1,g2,g3,g4⟩,h⟩:=h
 split at h
 case h_2=>simp at h
 rename_i q H1 j;simp only[e7,e9]at h;obtain⟨⟨g5,g7⟩,rfl⟩:=h;obtain⟨k1,k2⟩:=Kj (base:=H.length) i;have hf:=(n _ _ _ _ j).frame _ H.length k1.symm (Kw g1) (DL g2) (c8 g5) (pA g3) (fun b o k=>Ks (wL g4 o (c6 k)));rw[pz g]at hf;refine⟨hf,k2,fun p d=>?_⟩;simp only[dF]at d;have c:=da d;refine⟨DL g2 _ c.1,fun l=>?_⟩;obtain⟨o,m,a⟩:=ei.1 c.2;rw[l]at a;have:=wL g7 o m;rw[XP.1 a]at this;simp[zF]at this
mutual
theorem zP:∀v:AV,cO (fun i=>i) v=v
 | .p _| .sl .. | .b6 .. | .ptr .. | .map _=>rfl
 | .st u vs=>by simp only[cO,q7 vs]
 | .aG vs=>by simp only[cO,q7 vs]
 | .func f a b=>by simp only[cO,q7 a,q7 b]
theorem q7:∀l:List AV,cJ (fun i=>i) l=l
 |[]=>rfl
 |v::l=>by simp only[cJ,zP v,q7 l]
end
theorem KP:∀e:Env,uq (fun i=>i) e=e
 |[]=>rfl
 |(x,v)::r=>by simp only[uq,zP v,KP r]
theorem aJw(o:Obj):dc (fun i=>i) o=o:=by
 cases o<;>simp only[dc,zP,q7,KP]
theorem Ol(n:Nat):sig (cy n) n=fun i=>i:=by
 funext i
 by_cases h:i<n
 ·rw[tR (by simpa using h)];simp
 ·rw[tS (by simpa using h)];simp;omega
def xC(H:Heap):List (Nat×Obj):=(cy H.length).zip H
theorem awE{H:Heap}{p:Nat×Obj}(h:p∈xC H):H[p.1]?=some p.2:=by
 rw[xC,cB]at h;obtain⟨i,hi,a⟩:=h;rw[List.getElem_zip]at a;subst a;simp
def AN(H:Heap):Env->Bool
 |[]=>true
 |(_,v)::r=>rP H v&&AN H r
theorem NA{H:Heap}:∀{e:Env},AN H e=true->∀x,aE (aI H) (aN e x)
 |[],_,x=>by simp[aN,aE]
 |(y,v)::r,h,x=>by
  simp only[AN,ay]at h;simp only[aN]
  split
  ·exact CQ h.1
  ·exact NA h.2 x
def OV(H:Heap):Obj->Bool
 | .loop L=>AN H L.env
 |o=>zQ H o
theorem WO{H:Heap}{o:Obj}(h:OV H o=true):o.refs (aI H):=by
 cases o<;>first
  |exact Ks h
  |exact NA h
def Dt(run:Nat->Heap->List AV->Option (Heap×AV))(b:Nat)(args:List AV)(H:Heap):Option aW:=
 bif mX H args&&rI (OV H) H then
  match run b H args with
  |some (H1,v)=>bif em H.length H1.length&&(rI zF (H1.take H.length))then some {v,ak:=xC H,aK:=(cy H.length).zip (H1.take H.length),aV:=H1.drop H.length}else none
  |none=>none
 else none
theorem VV{P:a1}{run:Nat->Heap->List AV->Option (Heap×AV)}(k:∀b H args H' v,run b H args=some (H',v)->iD P b H args H' v){b:Nat}{args:List AV}{H:Heap}{e:aW}(h:Dt run b args H=some e):
 uk P b args H.length e/\qe H e:=by
 unfold Dt at h;simp only[ax,e7,ay]at h;obtain⟨⟨g3,g4⟩,h⟩:=h
 split at h
 case h_2=>simp at h
 rename_i H1 f g;simp only[e7,e9]at h;obtain⟨⟨g5,g7⟩,rfl⟩:=h;have hf:=(k _ _ _ _ _ g).frame (cy H.length) H.length (by simp) ea (fun b a=>by simpa using a) (c8 g5) (pA g3) (fun b o a=>WO (wL g4 o (c6 a)));have e:dF (cy H.length) H.length H H1 f={v:=f,ak:=xC H,aK:=(cy H.length).zip (H1.take H.length),aV:=H1.drop H.length}:=by
  simp only[dF,Ol,zP];rw[show(dc fun i=>i)=id from funext aJw,dl,dl,dl,xC]
 rw[e,Ol,q7]at hf;refine⟨hf,fun p c=>awE c,fun p c=>?_⟩;have d:=da c;refine⟨by simpa using d.1,fun j=>?_⟩;have:=wL g7 p.2 d.2;rw[j]at this;simp[zF]at this
end Go.au
