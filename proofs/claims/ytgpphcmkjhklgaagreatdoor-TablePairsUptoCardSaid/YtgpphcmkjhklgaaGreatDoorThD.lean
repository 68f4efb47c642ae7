import Derived.Test.YtgpphcmkjhklgaaGreatDoorThC
/- Parts of a proof. -/
set_option linter.unusedSimpArgs false
set_option linter.unusedVariables false
set_option linter.unusedSectionVars false
open Array renaming getElem?_eq_some_iff->ao, getElem?_eq_getElem->ap, replicate->av, getD_eq_getD_getElem?->ax
open BitVec renaming ofInt->ay
open Bool renaming cond_eq_ite->aT, and_eq_true->a0, false_eq_true->a1
open Go renaming TypeId->a6, Program->a7, Operand->a8, FuncId->bb, BinOp->be, Value->bi, IntKind->bk, World->bl, ResultVar->bo, mem_ready->bv, getD_set_ne->b0, Frame->b1
open Go.Region renaming ready->b2, schedule->b3, binds->b4
open Go.Region.linearise renaming go->b5
open Go.Utf8 renaming decode->cb
open Int renaming natCast_nonneg->cc, ofNat_eq_natCast->ce, toNat_natCast->ck
open List renaming getElem?_eq_getElem->cx, getElem?_eq_some_iff->cy, replicate->c6, range->c9, mem_cons->da, mem_iff_getElem->db, map_cons->dg, all_eq_true->dk, mem_of_getElem?->dl, isEmpty_cons->dp, of_mem_zip->dq, nodup_cons->dz, map_nil->ea, mem_append_right->eb, map_id->ec, mem_map_of_mem->ed, mem_range'_1->ee, countP_congr->ei, nodup_range->ej, getElem_mem->em, countP_cons->en, mem_append->eo, map_append->eq, mem_map->ew
open Nat renaming beq->e6, ble->e7, ble_eq_true_of_le->e8, zero_le->e9, le_refl->fb, strongRecOn->fd, beq_refl->fl
open Option renaming ite_none_right_eq_some->fm, getD_some->fv
open Option.some renaming injEq->fH
namespace Go.aw
set_option linter.unusedSectionVars false
variable[Gl]
section
variable{P:a7}{ag:bb->Bool}{n:Nat}
variable{ops:Array Oper}{es:List (St×aR)}{s':St}
theorem cA.congr{ah aa:Nat->Prop}{β:Bd}{s u:St}{t:Array bi}{w:bl}(h:cA P n ah aa β s t w)(b:∀x,aK u.env x=aK s.env x)(a:u.heap=s.heap):cA P n ah aa β u t w:=by
 refine⟨by rw[a];exact h.heap,fun x=>?_,fun x=>?_,h.size⟩
 ·rw[b,a];exact h.env x
 ·rw[b,a];exact h.gd x
theorem cA.mC{ah aa:Nat->Prop}{β:Bd}{s:St}{t:Array bi}{w:bl}(m:Nat)(h:cA P n ah aa β s t w):cA P n ah aa β ⟨s.env,s.heap++c6 m .hole⟩ t w:=
 ⟨h.heap.mC m,fun x=>au.mono (fun _ x=>x) (fun _ _=>rfl) (n6 β s.heap m) _ _ (h.gd x) (h.env x),fun x=>aC.mono (me _ _) _ (h.gd x),h.size⟩
theorem UU{o:Oper}{e e':Env}(h:∀x∈looks ops o,aK e' x=aK e x):∀x∈o.op.operands,ev e' x=ev e x:=by
 intro x hx;cases x with
 |tmp t=>
  simp only[ev];refine h t ?_;simp only[looks,eo,List.mem_filterMap];exact .inl ⟨.tmp t,by simpa using hx,rfl⟩
 |_=>rfl
theorem iD.run(h:iD P n ops es s'){D:Nat->Prop}(hc:uY ops D){i:Nat}{o:Oper}(a:ops[i]?=some o)(x:¬D i)(z:∀e∈o.after,b4 .any e=true->D e.on){s:St}(m:At ops es s' D s)
 {fr:b1}{k:List Item}{cs:List b1}{r:List Nat}{ds:List Deferred}{ah aa:Nat->Prop}{β:Bd}{t:Array bi}{w:bl}(b:cA P n ah aa β s t w):
 ∃u aD aH d w',Steps P (lone (bu fr t ds (.inRegion ops (i::r)::k)) cs w) (lone (bu fr d ds (.inRegion ops r::k)) cs w')/\cA P n ah aD aH u d w'/\(∀N,dA N ah aa w β s.heap ah aD w' aH u.heap)/\At ops es s' (fun j=>D j\/j=i) u:=by
 obtain⟨g,A⟩:=h.reads hc a x z m;have hi:i<ops.size:=(ao.1 a).1;obtain⟨v,_⟩:=h.at_ i o a;have c:=h.next hc a x z m;have q:iC n o=true:=h.dst o (by rw[Array.mem_toList_iff];exact Array.mem_of_getElem? a);have H:=h.vw (k:=i) (by omega);rcases v.act with⟨f,C⟩|⟨f,E⟩
 ·obtain⟨aD,aH,d,w',B,a2,a3⟩:=C fr k cs ops i r ds ah aa β s t w a (f t s ah aa β w b g) q b (UU g) (by
   intro p y;rw[A p.1 (.inl (ed y))];have:=v.aj p y;unfold hx;rw[List.getElem?_append_left (cy.1 this).1];exact this) (by
   intro j G;have F:(cT es s' i).heap.length+j∈wr es s' i:=by
    unfold wr tA;rw[eq,rP];exact eb _ (Ga.2 ⟨by omega,by omega⟩)
   rw[A _ (.inr F)];have l:=h.vw (k:=i+1) (by omega);rw[(h.at_ i o a).2]at l;simp only[aR.app,List.length_append,nY]at l;unfold hx;rw[jD,if_neg (by omega),if_pos (by omega)])
  exact⟨_,aD,aH,d,w',B,a2,a3,c⟩
 ·rw[E]at c;simp only[newAt,List.append_nil,ba]at c;exact⟨_,aa,β,_,w,.one (HP a (f t s ah aa β w b g)),b.put q (bO.refl b.heap) (by simp[au,aA,bp,undef]) (by simp[aC]),fun _=>dA.refl _ _ _ _ _ _,c⟩
def isDone(a:Array Bool)(i:Nat):Prop:=a.getD i false=true
theorem GQ{p:Nat->Bool}{i:Nat}:∀{l:List Nat},l.Nodup->i∈l->p i=true->l.countP p=l.countP (fun x=>p x&&x !=i)+1
 |[],_,h,_=>by simp at h
 |a::l,c,h,d=>by
  rw[dz]at c
  by_cases b:a=i
  ·subst b;have e:l.countP (fun x=>p x&&x !=a)=l.countP p:=by
    refine ei fun x hx=>?_;have:x≠a:=fun e=>c.1 (e▸hx);simp[this]
   simp[d,e]
  ·have f:i∈l:=by
    rcases da.1 h with h|h
    ·exact(b h.symm).elim
    ·exact h
   have g:=GQ c.2 f d;rw[en,en,g];have:(a !=i)=true:=by simpa using b
   simp only[this,Bool.and_true];omega
def left(b:Array Oper)(a:Array Bool):Nat:=(c9 b.size).countP fun i=>!a.getD i true
theorem iD.goes(h:iD P n ops es s'){fr:b1}{k:List Item}{cs:List b1}{ds:List Deferred}{ah:Nat->Prop}:∀(c b:Nat)(a:Array Bool)(s:St)(aa:Nat->Prop)(β:Bd)(t:Array bi)(w:bl),a.size=ops.size->left ops a<=c->uY ops (isDone a)->
 At ops es s' (isDone a) s->cA P n ah aa β s t w->
 ∃u D aD aH R w',Steps P (lone (bu fr t ds (.inRegion ops (b5 .any ops c b a [])::k)) cs w) (lone (bu fr R ds (.inRegion ops []::k)) cs w')/\cA P n ah aD aH u R w'/\(∀N,dA N ah aa w β s.heap ah aD w' aH u.heap)/\At ops es s' D u/\∀j,j<ops.size->D j:=by
 have L:∀(a:Array Bool),a.size=ops.size->b2 .any ops a=[]->∀j,j<ops.size->isDone a j:=by
  intro a q f j
  induction j using fd with
  |_ j K=>
   intro d
   by_cases A:isDone a j
   ·exact A
   ·exfalso;have G:j<a.size:=by omega
    have:j∈b2 .any ops a:=by
     rw[bv];refine⟨?_,ops[j],ap d,fun e B z=>?_⟩
     ·unfold isDone at A;simp only[ax,ap G,fv]at A⊢;simpa using A
     ·have H:=h.lower j _ (ap d) e B z;exact K e.on H (by omega)
    rw[f]at this;simp at this
 intro c
 induction c with
 |zero=>
  intro b a s aa β t w q O hc y C;have f:b2 .any ops a=[]:=by
   rw[List.eq_nil_iff_forall_not_mem];intro j d;rw[bv]at d;obtain⟨g,o,m,_⟩:=d;have G:j<ops.size:=(ao.1 m).1;have:0<left ops a:=by
    unfold left;rw[List.countP_pos_iff];exact⟨j,by simpa using G,by rw[g];rfl⟩
   omega
  exact⟨s,isDone a,aa,β,t,w,by simp only[b5,List.reverse_nil];exact Steps.refl _ _,C,fun _=>dA.refl _ _ _ _ _ _,y,L a q f⟩
 |succ c K=>
  intro b a s aa β t w q O hc y C;have ac:b5 .any ops (c+1) b a []=(match(b2 .any ops a)[b% (b2 .any ops a).length]? with
   |some i=>b5 .any ops c (b/(b2 .any ops a).length) (a.setIfInBounds i true) [i]
   |none=>[].reverse):=rfl
  rw[ac];cases hi:(b2 .any ops a)[b% (b2 .any ops a).length]? with
  |none=>
   have f:b2 .any ops a=[]:=by
    cases f:b2 .any ops a with
    |nil=>rfl
    |cons x xs=>
     rw[f]at hi;have H:b% (x::xs).length<(x::xs).length:=Nat.mod_lt _ (by simp);rw[cx H]at hi;cases hi
   exact⟨s,isDone a,aa,β,t,w,Steps.refl _ _,C,fun _=>dA.refl _ _ _ _ _ _,y,L a q f⟩
  |some i=>
   simp only;rw[linearise_go_acc,List.reverse_singleton,List.singleton_append];have af:=dl hi;obtain⟨g,o,m,Q⟩:=bv.1 af;have ad:i<ops.size:=(ao.1 m).1;have E:i<a.size:=by omega
   have ag:¬isDone a i:=by
    unfold isDone;simp only[ax,ap E,fv]at g⊢;simp[g]
   obtain⟨u,S,ak,t1,ai,U,a2,a3,a4⟩:=h.run (fr:=fr) (k:=k) (cs:=cs) (ds:=ds) (r:=b5 .any ops c (b/(b2 .any ops a).length) (a.setIfInBounds i true) []) hc m ag Q y C;have M:(fun j=>isDone a j\/j=i)=isDone (a.setIfInBounds i true):=by
    funext j
    unfold isDone
    by_cases F:j=i
    ·subst F;simp[E]
    ·have:(a.setIfInBounds i true).getD j false=a.getD j false:=b0 false (Ne.symm F);rw[this];simp[F]
   rw[M]at a4;have ab:uY ops (isDone (a.setIfInBounds i true)):=by
    rw[<-M];intro j o' I d e B z;rcases d with d|rfl
    ·exact .inl (hc j o' I d e B z)
    ·rw[m]at I;cases I;exact .inl (Q e B z)
   have ae:left ops (a.setIfInBounds i true)<=c:=by
    have am:=GQ (p:=fun j=>!a.getD j true) (i:=i) (l:=c9 ops.size) ej (by simpa using ad) (by show(!a.getD i true)=true;rw[g];rfl);have:left ops (a.setIfInBounds i true)=(c9 ops.size).countP (fun x=>!a.getD x true&&x !=i):=by
     unfold left;refine ei fun x hx=>?_
     by_cases J:x=i
     ·subst J;simp[E]
     ·have:(a.setIfInBounds i true).getD x true=a.getD x true:=b0 true (Ne.symm J);rw[this];simp[J]
    unfold left at O;omega
   obtain⟨v,D,T,al,t2,aj,V,W,X,Y,Z⟩:=K (b/(b2 .any ops a).length) (a.setIfInBounds i true) u S ak t1 ai (by simpa using q) ae ab a4 a2;exact⟨v,D,T,al,t2,aj,U.trans V,W,fun N=>(a3 N).trans (X N),Y,Z⟩
theorem US(h:fit n ops=true):(∀j o,ops[j]?=some o->∀e∈o.after,b4 .any e=true->e.on<j)/\
 (∀i j u o,i<j->ops[i]?=some u->ops[j]?=some o->pK ops u o=true->reach ops ops.size i j=true):=by
 unfold fit at h;rw[dk]at h;constructor
 ·intro j o a e f c;have b:j<ops.size:=(ao.1 a).1;have:=h j (by simpa using b);rw[a]at this;simp only[a0,dk]at this;have:=this.1 e (by simpa using f);simpa[c]using this
 ·intro i j u o g k a d;have b:j<ops.size:=(ao.1 a).1;have:=h j (by simpa using b);rw[a]at this;simp only[a0,dk]at this;have:=this.2 i (by simpa using g);rw[k]at this;simpa[d]using this
theorem wN(C:lh P ag)(Z:P.follows .mixedOrders=true):rS P ag fit:=by
 intro n N a fr k cs F f K s ah aa β t w T B h ab;obtain⟨es,s',I,J,M⟩:=IP C B a.toList 0 [] s (fun _ h=>h) h;obtain⟨t1,t2,t3⟩:=I.at;obtain⟨_,_,O⟩:=G6 es 0 [] M;obtain⟨f1,f2⟩:=US (n:=n) T;have X:es.length=a.size:=by simpa using t1
 have hs:iD P n a es s':=by
  refine⟨X,fun k o c=>t3 k o (by simpa using c),B,f1,f2,fun i j U ai v=>?_⟩;have hi:i<es.length:=by omega
  have A:j<es.length:=by omega
  have G:es[i]?=some (es[i].1,es[i].2):=by simp[cx hi]
  have H:es[j]?=some (es[j].1,es[j].2):=by simp[cx A]
  have:=O i j es[i].1 es[i].2 es[j].1 es[j].2 U G H;simp only[Nat.zero_add]at this;refine this ?_;have g:cT es s' i=es[i].1/\ff es i=es[i].2:=by simp[cT,ff,cx hi]
  have q:cT es s' j=es[j].1/\ff es j=es[j].2:=by simp[cT,ff,cx A]
  rw[g.1,g.2,q.1,q.2]at v;exact v
 have V:=hs.vw (k:=0) (e9 _);rw[t2]at V;obtain⟨m,Y⟩:∃m,m=s'.heap.length-s.heap.length:=⟨_,rfl⟩
 have ac:=ab.mC m;have Q:∀N,dA N ah aa w β s.heap ah aa w β (s.heap++c6 m .hole):=fun N=>⟨fun _ x=>x,fun _ x=>x,fun _ x=>.inl x,Ext.refl _ _ _,(n6 _ _ _).n,fun x _=>me _ _ x,fun b _⟨L,r⟩=>⟨L,by rw[jD,if_pos (cy.1 r).1];exact r⟩⟩
 have ad:b3 (P.follows .mixedOrders) a f=b5 .any a a.size f (av a.size false) []:=by
  simp[b3,Z,Region.linearise]
 have e:∀i,¬isDone (av a.size false) i:=by
  intro i hi;unfold isDone at hi
  by_cases z:i<a.size
  ·simp[z]at hi
  ·simp[z]at hi
 have R:At a es s' (isDone (av a.size false)) ⟨s.env,s.heap++c6 m .hole⟩:=by
  refine⟨fun x=>⟨0,e9 _,by rw[t2],fun i o _ _=>⟨fun h=>(e i h).elim,fun h=>by omega⟩⟩,by simp;omega,fun b=>⟨0,e9 _,by rw[t2];unfold hx;rw[<-Y],fun i _ _=>⟨fun h=>(e i h).elim,fun h=>by omega⟩⟩⟩
 have W:left a (av a.size false)<=a.size:=by
  unfold left;have:=List.countP_le_length (p:=fun i=>!(av a.size false).getD i true) (l:=c9 a.size);simpa using this
 obtain⟨u,D,aD,aH,af,w',E,a2,a3,a4,a5⟩:=hs.goes (fr:=fr) (k:=k) (cs:=cs) (ds:=F) a.size f (av a.size false) _ aa β t w (by simp) W (fun j o c d=>(e j d).elim) R ac;rw[ad];have S:∀x,aK s'.env x=aK u.env x:=by
  intro x;obtain⟨k,k1,k2,k3⟩:=a4.tmp x;rw[k2];have:=hs.J3 (x:=x) k1 (fb a.size) (fun i o c d=>by
   have hi:i<a.size:=(ao.1 c).1;have:=(k3 i o c d).1 (a5 i hi);exact⟨fun _=>hi,fun _=>this⟩)
  rw[hs.last]at this;exact this
 have y:s'.heap=u.heap:=by
  apply List.ext_getElem?;intro b;obtain⟨k,k1,k2,k3⟩:=a4.heap b;rw[k2];have:=hs.JO (b:=b) k1 (fb a.size) (fun i hi ae=>by
   have:=(k3 i hi ae).1 (a5 i hi);exact⟨fun _=>hi,fun _=>this⟩)
  rw[hs.last]at this;rw[<-this];simp[hx]
 exact⟨s',aD,aH,af,w',J,E,a2.congr S y,(Q N).trans (y▸a3 N)⟩
end
section
variable{P:a7}
structure al(P:a7)(f:bb)(fn:Func):Prop where
 func:P.funcs[f]?=some fn
 stat:(fn.body.isSome&&(fn.name != "runtime.NumGoroutine")&&codeOk fit fn.ntmps (fn.body.getD .skip))=true
theorem al.enters{f:bb}{fn:Func}(h:al P f fn):Enters P f:=by
 intro args w;have hs:=h.stat;simp only[a0,bne_iff_ne]at hs;cases a:fn.body with
 |none=>rw[a]at hs;simp at hs
 |some c=>simp[callFunc,h.func,hs.1.2,a]
def Ends(P:a7)(a:List bo)(v:PV)(e:bn)(s:St):Prop:=
 (match e with
  | .exit _=>False
  |_=>True)/\∃vs,fg P s a=some vs/\dV s.heap 9 (oneOf vs)=some v
theorem y6{f:bb}{fn:Func}(ag:bb->Bool)(h:al P f fn)(b:P.follows .mixedOrders=true){args:List PV}{v:PV}(c:args.length<=fn.ntmps)
 (d:bV P ag (fn.ntmps,0) (fn.body.getD .skip) (Ends P fn.results.toList v) ⟨iq 0 (args.map .p),[]⟩):az P f args v:=by
 have hs:=h.stat;simp only[a0,bne_iff_ne]at hs;have a:fn.body=some (fn.body.getD .skip):=by
  have:=hs.1.1;cases e:fn.body<;>simp_all
 exact .inl (Je (nZ ag) (wN (nZ ag) b) h.enters h.func a hs.2 c d)
class aC8(P:a7)(f:bb)(args:List PV)(pre:outParam Prop)(v:outParam PV):Prop where
 y6:pre->az P f args v
section calls
variable{f:bb}{H:Heap}{pre:Prop}{v:PV}
end calls
def qL(e:Env):Env->Prop
 |[]=>True
 |(x,v)::r=>aK e x=v/\qL e r
def jN:Heap->Heap->Prop
 |_,[]=>True
 |[],.hole::t=>jN [] t
 |_::h,.hole::t=>jN h t
 |o::h,o'::t=>o=o'/\jN h t
 |[],_::_=>False
theorem qL.get{e:Env}:∀{t:Env},qL e t->∀x,aK t x=aK e x\/aK t x=.p .undef
 |[],_,x=>.inr rfl
 |(y,v)::t,h,x=>by
  simp only[qL]at h;simp only[aK]
  split
  ·rename_i hx;subst hx;exact .inl h.1.symm
  ·exact qL.get h.2 x
theorem jN.get:∀{h t:Heap},jN h t->∀(b:Nat)(o:Obj),t[b]?=some o->o=.hole\/h[b]?=some o
 |_,[],_,b,o,a=>by simp at a
 |[],o'::t,hk,b,o,a=>by
  cases o'<;>simp only[jN]at hk;cases b with
  |zero=>simp at a;exact .inl a.symm
  |succ b=>exact(jN.get hk b o (by simpa using a)).imp id (fun h=>by simp at h)
 |c::h,o'::t,hk,b,o,a=>by
  cases b with
  |zero=>
   simp at a;cases o'<;>simp only[jN]at hk
   case hole=>exact .inl a.symm
   all_goals exact .inr (by rw[<-a,<-hk.1];simp)
  |succ b=>
   have:jN h t:=by cases o'<;>simp only[jN]at hk<;>first|exact hk|exact hk.2
   exact(jN.get this b o (by simpa using a)).imp id (fun h=>by simpa using h)
def gR(H:Heap):Env->Prop
 |[]=>True
 |(_,v)::r=>aC (aG H) v/\gR H r
def dx(H:Heap):Heap->Prop
 |[]=>True
 |o::r=>o.refs (aG H)/\dx H r
theorem gR.get{H:Heap}:∀{e:Env},gR H e->∀x,aC (aG H) (aK e x)
 |[],_,x=>by simp[aK,aC]
 |(y,v)::e,h,x=>by
  simp only[gR]at h;simp only[aK]
  split
  ·exact h.1
  ·exact gR.get h.2 x
theorem dx.get{H:Heap}:∀{h:Heap},dx H h->∀(b:Nat)(o:Obj),h[b]?=some o->o.refs (aG H)
 |[],_,b,o,a=>by simp at a
 |c::h,hr,b,o,a=>by
  simp only[dx]at hr;cases b with
  |zero=>simp at a;subst a;exact hr.1
  |succ b=>exact dx.get hr.2 b o (by simpa using a)
theorem oR.of{s t:St}(a:qL s.env t.env)(c:jN s.heap t.heap)(e:gR t.heap t.env)(f:dx t.heap t.heap):oR s t:=
 ⟨fun x=>(a.get x).imp id .inl,fun b o d=>(c.get b o d).imp id .inl,e.get,f.get⟩
theorem cJ.of{N:Nat}{s t:St}(e:t.heap.take N=s.heap.take N)(c:qL s.env t.env)(d:jN s.heap t.heap)(hr:gR t.heap t.env)(hr2:dx t.heap t.heap):cJ N s t:=by
 refine .inr ⟨oR.of c d hr hr2,fun b a=>?_⟩;have:=congrArg (fun l:Heap=>l[b]?) e;simpa[List.getElem?_take,a]using this
theorem Nb{f:bb}{fn:Func}(ag:bb->Bool)(h:al P f fn)(b:P.follows .mixedOrders=true){args:List AV}{H H':Heap}{v:AV}(c:args.length<=fn.ntmps)
 (d:bV P ag (fn.ntmps,H.length) (fn.body.getD .skip) (sT P fn.results.toList H.length H' v) ⟨iq 0 args,H⟩):cw P f H args H' v:=by
 have hs:=h.stat;simp only[a0,bne_iff_ne]at hs;have a:fn.body=some (fn.body.getD .skip):=by
  have:=hs.1.1;cases e:fn.body<;>simp_all
 exact UR (nZ ag) (wN (nZ ag) b) h.enters h.func a hs.2 c d
theorem Nc(ag:bb->Bool)(f:P.follows .mixedOrders=true){b:Nat}{L:dC}{H H':Heap}{args:List AV}{v:AV}(d:H[b]?=some (.loop L))(e:args.length=L.params.length)
 (a:(L.params.all (fun x=>decide (x<L.n))&&codeOk fit L.n L.assign&&codeOk fit L.n L.body)=true)(g:xD P ag L b args H (fun c h=>h=v/\cJ H.length ⟨[],c⟩ ⟨[],H'⟩)):fO P b H args H' v:=by
 simp only[a0,dk,decide_eq_true_eq]at a;exact UP (nZ ag) (wN (nZ ag) f) d e a.1.1 a.1.2 a.2 g
theorem again{N:Nat}{α:Type}{mk:α->St}{ok:α->Prop}{m:α->Nat}{n:Nat}{s':St}(a':α)(c:m a'<n)(d:ok a')(e:cJ N s' (mk a')):∃a b,a<n/\cJ N s' b/\∃a',ok a'/\b=mk a'/\a=m a':=
 ⟨m a',mk a',c,e,a',d,rfl,rfl⟩
end
section
variable{P:a7}{ag:bb->Bool}
def aN{α:Type}(F:(α->Prop)->Prop):Prop:=∀K,F K->∃a,K a/\∀b:α->Prop,b a->F b
theorem aN.one{α β:Type}(f:β->α)(b:β):aN (fun K:α->Prop=>K (f b)):=fun _ h=>⟨f b,h,fun _ h=>h⟩
theorem aN.false{α:Type}:aN (fun _:α->Prop=>False):=fun _ h=>h.elim
theorem aN.and{α:Type}{p:Prop}{F:(α->Prop)->Prop}(h:aN F):aN (fun K=>p/\F K):=fun K hk=>by
 obtain⟨a,c,d⟩:=h K hk.2;exact⟨a,c,fun b h=>⟨hk.1,d b h⟩⟩
theorem aN.ex{α:Type}{β:Sort _}{F:β->(α->Prop)->Prop}(h:∀b,aN (F b)):aN (fun K=>∃b,F b K):=fun K⟨b,f⟩=>by
 obtain⟨a,d,e⟩:=h b K f;exact⟨a,d,fun c h=>⟨b,e c h⟩⟩
theorem aN.or{α:Type}{F G:(α->Prop)->Prop}(h:aN F)(e:aN G):aN (fun K=>F K\/G K):=fun K hk=>by
 rcases hk with hk|hk
 ·obtain⟨a,c,d⟩:=h K hk;exact⟨a,c,fun b h=>.inl (d b h)⟩
 ·obtain⟨a,c,d⟩:=e K hk;exact⟨a,c,fun b h=>.inr (d b h)⟩
theorem aN.ite{α:Type}{p:Prop}[Decidable p]{F G:(α->Prop)->Prop}(h:aN F)(f:aN G):aN (fun K=>if p then F K else G K):=fun K hk=>by
 split at hk
 ·rename_i e;obtain⟨a,c,d⟩:=h K hk;exact⟨a,c,fun b h=>by simpa[e]using d b h⟩
 ·rename_i e;obtain⟨a,c,d⟩:=f K hk;exact⟨a,c,fun b h=>by simpa[e]using d b h⟩
theorem aN.bind{α β:Type}{F:(α->Prop)->Prop}{G:α->(β->Prop)->Prop}(h:aN F)(d:∀a,aN (G a)):aN (fun K=>F (fun a=>G a K)):=fun K hk=>by
 obtain⟨a,e,f⟩:=h _ hk;obtain⟨b,g,i⟩:=d a K e;exact⟨b,g,fun c h=>f _ (i c h)⟩
theorem aN.map{α β:Type}{F:(α->Prop)->Prop}(h:aN F)(f:α->β):aN (fun K=>F (fun a=>K (f a))):=h.bind fun a=>aN.one f a
theorem Tn(T:a6)(H:Heap)(a:AV):aN (nE P T H a):=by
 unfold nE
 repeat' first
  |exact aN.false
  |exact aN.one id _
  |refine aN.and ?_
  |refine aN.ex fun _=>?_
  |split
theorem SZ(T:a6)(H:Heap)(a x:AV):aN (nr P T H a x):=by
 unfold nr
 repeat' first
  |exact aN.false
  |exact aN.one id _
  |refine aN.and ?_
  |refine aN.ex fun _=>?_
  |split
theorem QH(T:a6)(a:AV)(f:Nat):aN (mX P T a f):=by
 unfold mX
 repeat' first
  |exact aN.false
  |exact aN.one id _
  |refine aN.and ?_
  |refine aN.ex fun _=>?_
  |split
theorem QG(T:a6)(H:Heap)(a i:AV):aN (mW P T H a i):=by
 unfold mW
 repeat' first
  |exact aN.false
  |exact aN.one id _
  |refine aN.and ?_
  |refine aN.ex fun _=>?_
  |split
theorem Rr(T X:a6)(H:Heap)(s x:AV):aN (ng P T X H s x):=by
 unfold ng
 repeat' first
  |exact aN.false
  |exact aN.one id _
  |refine aN.and ?_
  |refine aN.ex fun _=>?_
  |refine aN.ite ?_ ?_
  |split
theorem IW{α:Type}{F:Nat->(α->Prop)->Prop}(x:Option AV)(d:Nat)(h:∀n,aN (F n)):aN (fun K=>fX x d (fun n=>F n K)):=by
 unfold fX
 split
 ·exact h _
 ·exact aN.and (h _)
 ·exact aN.false
theorem S0(T:a6)(H:Heap)(x:AV)(lo hi a:Option AV):aN (nt P T H x lo hi a):=by
 unfold nt;refine aN.and ?_
 repeat' first
  |exact aN.false
  |exact aN.one id _
  |refine aN.and ?_
  |refine IW _ _ fun _=>?_
  |refine aN.ite ?_ ?_
  |split
theorem Rq(T:a6)(H:Heap)(x:AV)(lo hi:Option AV)(m:AV):aN (pL P T H x lo hi m):=by
 unfold pL
 repeat' first
  |exact aN.false
  |exact aN.one id _
  |refine aN.and ?_
  |refine IW _ _ fun _=>?_
  |split
theorem Un(op:be)(T:a6)(c:Bool)(H:Heap)(x y:AV)(f:PV->aR):aN (fun K:aR->Prop=>jM P op T c H x y (fun v=>K (f v))):=by
 unfold jM
 repeat' first
  |exact aN.false
  |exact aN.one f _
  |refine aN.and ?_
  |(unfold oT;split)
  |(unfold oS;split)
  |split
theorem Qf(a:a6)(b:Nat)(key:PV)(x:AV)(c:Obj):aN (nX P a b key x c):=by
 unfold nX
 repeat' first
  |exact aN.false
  |exact aN.one id _
  |refine aN.and ?_
  |split
theorem Bu(o:Oper)(ρ:a8->AV)(H:Heap):aN (fc P ag o ρ H):=by
 unfold fc
 repeat' first
  |exact aN.false
  |exact aN.one id _
  |exact Tn _ _ _
  |exact SZ _ _ _ _
  |exact QH _ _ _
  |exact QG _ _ _ _
  |exact S0 _ _ _ _ _ _
  |exact Rq _ _ _ _ _ _
  |exact Rr _ _ _ _ _
  |exact Qf _ _ _ _ _
  |exact Un _ _ _ _ _ _ _
  |refine aN.and ?_
  |refine aN.ex fun _=>?_
  |refine aN.ite ?_ ?_
  |refine aN.or ?_ ?_
  |split
  |dsimp only
theorem HV(d:Bool)(f:bb)(args:List AV)(H:Heap){α:Type}(g:AV->Heap->α):aN (fun K:α->Prop=>gB P d f args H (fun v H'=>K (g v H'))):=by
 unfold gB;refine aN.or (aN.ex fun vs=>aN.ex fun v=>aN.and (aN.and ?_)) (aN.and (aN.or (aN.ex fun vs=>aN.ex fun H1=>aN.ex fun v=>aN.and (aN.and ?_)) (aN.or (aN.ex fun H'=>aN.ex fun v=>aN.and ?_) (aN.or (aN.ex fun e=>aN.and (aN.and ?_)) (aN.ex fun aj=>aN.ex fun v=>aN.and (aN.and ?_))))))
 ·exact aN.one (fun v=>g (.p v) H) v
 ·exact aN.one (fun v=>g (.p v) H1) v
 ·exact aN.one (fun v=>g v H') v
 ·exact aN.one (fun _:Unit=>g e.v (ba H e.aI++e.aP)) ()
 ·exact aN.one (fun v=>g (.p v) H) v
theorem G8(f:bb)(args:List AV)(H:Heap):aN (gI P f args H):=by
 unfold gI;refine aN.or (aN.ex fun vs=>aN.ex fun v=>aN.and (aN.and (aN.one id _))) (aN.or (aN.ex fun vs=>aN.ex fun bs=>aN.ex fun aj=>aN.ex fun aI=>aN.ex fun v=>aN.and (aN.and (aN.and (aN.one id _)))) (aN.or (aN.ex fun e=>aN.and (aN.and (aN.one id _))) (aN.ex fun aj=>aN.ex fun v=>aN.and (aN.and (aN.one id _)))))
theorem HT(d:Bool)(o:Oper)(s:St):aN (fun K=>jf P ag d o K s):=by
 unfold jf
 split
 ·split
  ·exact HV _ _ _ _ (fun v H'=>(⟨put o.dst v s.env,H'⟩:St))
  ·exact HV _ _ _ _ (fun v H'=>(⟨put o.dst v s.env,H'⟩:St))
  ·exact aN.ex fun H'=>aN.ex fun v=>aN.and (aN.one (fun _:Unit=>(⟨put o.dst v s.env,H'⟩:St)) ())
  ·exact aN.false
 ·exact(Bu o _ _).map (fun e=>e.app o.dst s)
theorem HU(o:Oper)(s:St):aN (iT P ag o s):=by
 unfold iT
 split
 ·split
  ·exact G8 _ _ _
  ·exact G8 _ _ _
  ·exact aN.ex fun e=>aN.and (aN.and (aN.one id _))
  ·exact aN.false
 ·exact Bu o _ _
theorem xq(d:Bool)(a:Array Oper):∀(l:List Oper)(s:St),aN (fun K=>gD P ag d a l K s)
 |[],s=>by simp only[gD];exact aN.one id s
 |o::l,s=>by
  have go:aN (fun K=>jf P ag d o (gD P ag d a l K) s):=(HT d o s).bind fun t=>xq d a l t;simp only[gD]
  split
  ·exact go
  ·split
   ·split
    ·exact go
    ·exact xq d a l _
   ·exact xq d a l _
   ·exact aN.false
theorem wZ(b:Array Oper):∀(l:List Oper)(i:Nat)(a:List Touch)(s:St),aN (fun K=>fM P ag b l i a K s)
 |[],i,a,s=>by simp only[fM];exact aN.and (aN.one id s)
 |o::l,i,a,s=>by
  have go:aN (fun K=>iT P ag o s fun e=>fM P ag b l (i+1) (gC i s.heap.length e a) K (e.app o.dst s)):=(HU o s).bind fun e=>wZ b l (i+1) _ _;simp only[fM]
  split
  ·exact go
  ·split
   ·split
    ·exact go
    ·exact wZ b l (i+1) a _
   ·exact wZ b l (i+1) a _
   ·exact aN.false
def yL(F:(bn->St->Prop)->Prop):Prop:=∀Q,F Q->∃e s,Q e s/\∀a:bn->St->Prop,a e s->F a
inductive uW(P:a7)(ag:bb->Bool)(q:Cx)(b:Code)(e:bn)(s:St):Nat->St->Prop
 |stop {k:Nat} {u:St}:(∀Q:bn->St->Prop,Q e s->bV P ag q b Q u)->e≠.normal->uW P ag q b e s k u
 |step {k m:Nat} {u s1 u':St}:(∀Q:bn->St->Prop,Q .normal s1->bV P ag q b Q u)->m<k->cJ q.2 s1 u'->uW P ag q b e s m u'->uW P ag q b e s k u
theorem To(j:Option Code)(s:St):yL (fun Q=>jd Q j s):=fun Q h=>by
 unfold jd at h
 split at h
 ·exact⟨.normal,s,h,fun _ h=>h⟩
 ·rename_i id;exact⟨.exit id,s,h,fun _ h=>h⟩
 ·exact⟨.ret,s,h,fun _ h=>h⟩
 ·exact h.elim
theorem HR(b:Nat)(env:Env)(H:Heap):yL (fun Q=>gQ b env Q H):=fun Q h=>by
 unfold gQ at h
 split at h
 ·rename_i L f;obtain⟨e,s,c,d⟩:=To _ _ Q h.2;exact⟨e,s,c,fun a hq=>by unfold gQ;simp only[f];exact⟨h.1,d a hq⟩⟩
 ·exact h.elim
theorem S8(it:AV)(b:Nat)(H:Heap)(env:Env):yL (fun Q=>iK P it b H (gQ b env Q)):=fun Q h=>by
 unfold iK at h
 split at h
 ·obtain⟨H',v,c,d⟩:=h;obtain⟨e,s,k1,k2⟩:=HR b env H' Q d;exact⟨e,s,k1,fun a hq=>by simp only[iK];exact⟨H',v,c,k2 a hq⟩⟩
 ·obtain⟨H',v,c,d⟩:=h;obtain⟨e,s,k1,k2⟩:=HR b env H' Q d;exact⟨e,s,k1,fun a hq=>by simp only[iK];exact⟨H',v,c,k2 a hq⟩⟩
 ·exact h.elim
theorem mU{q:Cx}:∀(c:Code)(s:St),yL (fun Q=>bV P ag q c Q s)
 | .skip,s| .label _,s=>fun Q h=>⟨.normal,s,h,fun _ h=>h⟩
 | .exit id,s=>fun Q h=>⟨.exit id,s,h,fun _ h=>h⟩
 | .ret,s=>fun Q h=>⟨.ret,s,h,fun _ h=>h⟩
 | .region id ops draw,s=>fun Q h=>by
  simp only[bV]at h⊢
  split at h
  ·rename_i l;obtain⟨t,d,g⟩:=wZ ops _ _ _ _ _ h;exact⟨.normal,t,d,fun Q' h=>by simp only[l,if_true];exact g _ h⟩
  ·rename_i l;obtain⟨t,d,g⟩:=xq _ ops _ _ _ h;exact⟨.normal,t,d,fun Q' h=>by rw[if_neg l];exact g _ h⟩
 | .seq a b,s=>fun Q h=>by
  simp only[bV]at h⊢;obtain⟨e,t,d,g⟩:=mU a s _ h;cases e with
  |normal=>
   obtain⟨e',r,k,y⟩:=mU b t _ d;exact⟨e',r,k,fun Q' h=>g _ (y Q' h)⟩
  |exit id=>exact⟨.exit id,t,d,fun Q' h=>g _ h⟩
  |ret=>exact⟨.ret,t,d,fun Q' h=>g _ h⟩
 | .cond c a b,s=>fun Q h=>by
  simp only[bV]at h⊢
  split at h
  ·split at h
   ·rename_i p;obtain⟨e,t,d,g⟩:=mU a s _ h;exact⟨e,t,d,fun Q' h=>by rw[if_pos p];exact g _ h⟩
   ·rename_i p;obtain⟨e,t,d,g⟩:=mU b s _ h;exact⟨e,t,d,fun Q' h=>by rw[if_neg p];exact g _ h⟩
  ·exact h.elim
 | .block id b,s=>fun Q h=>by
  simp only[bV]at h⊢;obtain⟨e,t,d,g⟩:=mU b s _ h;cases e with
  |normal=>exact⟨.normal,t,d,fun Q' h=>g _ h⟩
  |exit i=>
   by_cases hi:i=id
   ·simp only[hi,if_true]at d;exact⟨.normal,t,d,fun Q' h=>g _ (by simp only[hi,if_true];exact h)⟩
   ·simp only[hi,if_false]at d;exact⟨.exit i,t,d,fun Q' h=>g _ (by simp only[hi,if_false];exact h)⟩
  |ret=>exact⟨.ret,t,d,fun Q' h=>g _ h⟩
 | .scope b,s=>fun Q h=>by simp only[bV]at h⊢;exact mU b s Q h
 | .loop b,s=>fun Q h=>by
  simp only[bV]at h⊢;obtain⟨I,⟨w,t0,hf,hI⟩,F⟩:=h;have key:∀(n:Nat)(t:St),I n t->∃e u,Q e u/\e≠.normal/\uW P ag q b e u n t:=by
   intro n
   induction n using fd with
   |_ n G=>
    intro t hI;obtain⟨e,s1,d,g⟩:=mU b t _ (F n t hI);cases e with
    |normal=>
     obtain⟨m,r,j,o,z⟩:=d;obtain⟨e,u,k1,k2,k3⟩:=G m j r z;exact⟨e,u,k1,k2,.step g j o k3⟩
    |exit id=>exact⟨.exit id,s1,d,by simp,.stop g (by simp)⟩
    |ret=>exact⟨.ret,s1,d,by simp,.stop g (by simp)⟩
  obtain⟨e,u,d,g,k⟩:=key w t0 hI;refine⟨e,u,d,fun Q' v=>⟨uW P ag q b e u,⟨w,t0,hf,k⟩,?_⟩⟩;intro n t C;cases C with
  |stop hs E=>
   refine hs _ ?_;cases e with
   |normal=>exact(E rfl).elim
   |exit id=>exact v
   |ret=>exact v
  |step hs j o D=>exact hs _ ⟨_,_,j,o,D⟩
 | .rangeFunc f H a b,s=>fun Q h=>by
  simp only[bV]at h;obtain⟨A,x,B,h⟩:=h;obtain⟨e,t,d,g⟩:=S8 _ _ _ _ Q h;exact⟨e,t,d,fun Q' hq=>by simp only[bV];exact⟨A,x,B,g Q' hq⟩⟩
 | .goto _,_| .refuse _,_=>fun Q h=>by simp[bV]at h
def Spec(P:a7)(f:bb)(args:List PV)(Q:PV->Prop):Prop:=∃v,az P f args v/\Q v
def yO(P:a7)(a:List bo)(Q:PV->Prop)(e:bn)(s:St):Prop:=
 (match e with
  | .exit _=>False
  |_=>True)/\∃vs,fg P s a=some vs/\∃v,dV s.heap 9 (oneOf vs)=some v/\Q v
theorem Spec.mono{f:bb}{args:List PV}{Q a:PV->Prop}(h:Spec P f args Q)(hq:∀v,Q v->a v):Spec P f args a:=by
 obtain⟨v,b,c⟩:=h;exact⟨v,b,hq v c⟩
end
def nC(id:Nat)(Q:bn->St->Prop)(e:bn)(s:St):Prop:=
 match e with
 | .exit i=>if i=id then Q .normal s else Q (.exit i) s
 |e=>Q e s
theorem QW{id:Nat}{Q:bn->St->Prop}{s:St}:nC id Q .normal s=Q .normal s:=(rfl)
theorem Sk{id i:Nat}{Q:bn->St->Prop}{s:St}:nC id Q (.exit i) s=if i=id then Q .normal s else Q (.exit i) s:=(rfl)
theorem Tq{id:Nat}{Q:bn->St->Prop}{s:St}:nC id Q .ret s=Q .ret s:=(rfl)
def sJ(N n:Nat)(I:Nat->St->Prop)(Q:bn->St->Prop)(e:bn)(s:St):Prop:=
 match e with
 | .normal=>∃a b,a<n/\cJ N s b/\I a b
 |e=>Q e s
theorem QL{N n:Nat}{I:Nat->St->Prop}{Q:bn->St->Prop}{s:St}:sJ N n I Q .normal s=∃a b,a<n/\cJ N s b/\I a b:=(rfl)
theorem Ru{N n id:Nat}{I:Nat->St->Prop}{Q:bn->St->Prop}{s:St}:sJ N n I Q (.exit id) s=Q (.exit id) s:=(rfl)
theorem S4{N n:Nat}{I:Nat->St->Prop}{Q:bn->St->Prop}{s:St}:sJ N n I Q .ret s=Q .ret s:=(rfl)
section CJ
variable{P:a7}
end CJ
section
variable{P:a7}{ag:bb->Bool}
abbrev er:=Option (Prop×aR)
def aX(r:er)(K:aR->Prop):Prop:=
 match r with
 |some (p,e)=>p/\K e
 |none=>False
theorem Td{p:Prop}{e:aR}{K:aR->Prop}:aX (some (p,e)) K=(p/\K e):=(rfl)
theorem TQ{K:aR->Prop}:aX none K=False:=(rfl)
@[congr] theorem aGI{r a:er}{K:aR->Prop}(h:r=a):aX r K=aX a K:=by rw[h]
def Can(F:(aR->Prop)->Prop)(r:er):Prop:=∀K,aX r K->F K
theorem Can.none{F:(aR->Prop)->Prop}:Can F none:=fun _ h=>h.elim
def oU(P:a7)(T:a6)(H:Heap)(a:AV):er:=
 match a with
 | .ptr b path=>match H[b]? with
  |some (.box fz t)=>match eB t path with
   |some s=>some (kindOf P T=ad s,{v:=s,aj:=[(b,.box fz t)]})
   |none=>none
  |_=>none
 | .bR b ar ai i path=>match H[b]? with
  |some (.arr k d c es)=>match es[i]? with
   |some x=>match eB x path with
    |some s=>some ((ar=d/\ai=c)/\kindOf P T=ad s,{v:=s,aj:=[(b,.arr k d c es)]})
    |none=>none
   |none=>none
  |_=>none
 | .p (.bY t)=>some (kindOf P T=aJ t,{v:=.p t})
 |_=>none
theorem VZ{T:a6}{H:Heap}{a:AV}:Can (nE P T H a) (oU P T H a):=by
 intro K h;unfold oU at h;unfold nE
 split at h
 ·split at h
  ·rename_i b
   split at h
   ·rename_i hs;simp only[aX]at h;simp only[b,hs];exact h
   ·exact h.elim
  ·exact h.elim
 ·split at h
  ·rename_i b
   split at h
   ·rename_i x hx;obtain⟨hi,hx⟩:=cy.1 hx
    split at h
    ·rename_i hs;simp only[aX]at h;simp only[b];exact⟨h.1.1.1,h.1.1.2,hi,by rw[hx,hs];exact⟨h.1.2,h.2⟩⟩
    ·exact h.elim
   ·exact h.elim
  ·exact h.elim
 ·exact h
 ·exact h.elim
def oM(P:a7)(T:a6)(H:Heap)(a x:AV):er:=
 match a with
 | .ptr b path=>match H[b]? with
  |some (.box false t)=>match eB t path,fx t path x with
   |some s,some d=>some ((kindOf P T=ad x/\ad x≠.bad)/\ad s=ad x,{v:=.p (.aE []),aj:=[(b,.box false t)],aI:=[(b,.box false d)]})
   |_,_=>none
  |_=>none
 | .bR b ar ai i path=>match H[b]? with
  |some (.arr k e c es)=>match es[i]? with
   |some y=>match eB y path,fx y path x with
    |some s,some d=>some ((kindOf P T=ad x/\ad x≠.bad)/\(ar=e/\ai=c/\k≠.frozen)/\ad s=ad x,{v:=.p (.aE []),aj:=[(b,.arr k e c es)],aI:=[(b,.arr k e c (es.set i d))]})
    |_,_=>none
   |none=>none
  |_=>none
 |_=>none
theorem UI{T:a6}{H:Heap}{a x:AV}:Can (nr P T H a x) (oM P T H a x):=by
 intro K h;unfold oM at h;unfold nr
 split at h
 ·split at h
  ·rename_i b
   split at h
   ·rename_i hs c;simp only[aX]at h;simp only[b,hs,c];exact⟨h.1.1.1,h.1.1.2,h.1.2,h.2⟩
   ·exact h.elim
  ·exact h.elim
 ·split at h
  ·rename_i b
   split at h
   ·rename_i y d;obtain⟨hi,d⟩:=cy.1 d
    split at h
    ·rename_i hs c;simp only[aX]at h;simp only[b];exact⟨h.1.1.1,h.1.1.2,h.1.2.1.1,h.1.2.1.2.1,h.1.2.1.2.2,hi,by rw[d,hs,c];exact⟨h.1.2.2,h.2⟩⟩
    ·exact h.elim
   ·exact h.elim
  ·exact h.elim
 ·exact h.elim
def oc(P:a7)(T:a6)(a:AV)(f:Nat):er:=
 match fB P T with
 |some (u,n)=>match a with
  | .ptr b path=>some (f<n,{v:=.ptr b (path++[(u,f)])})
  | .bR b ar ai i path=>some (f<n,{v:=.bR b ar ai i (path++[(u,f)])})
  | .p (.bY t)=>match(cj t)[f]? with
   |some g=>some (f<n/\aJ t=.agg u,{v:=.p (.bY g)})
   |none=>none
  |_=>none
 |_=>none
theorem QT{T:a6}{a:AV}{f:Nat}:Can (mX P T a f) (oc P T a f):=by
 intro K h;unfold oc at h;unfold mX
 split at h
 ·rename_i hs;simp only[hs]
  split at h
  ·exact h
  ·exact h
  ·split at h
   ·rename_i b;simp only[aX]at h;simp only[b];exact⟨h.1.1,h.1.2,h.2⟩
   ·exact h.elim
  ·exact h.elim
 ·exact h.elim
def n9(P:a7)(T:a6)(H:Heap)(x i:AV):er:=
 match i with
 | .p (.int _ i)=>match x with
  | .p (.bI _ es)=>match es[i.toNat]? with
   |some y=>some (0<=i/\cr P T=some (bB P (aJ y)),{v:=.p (.bY y)})
   |none=>none
  | .p (.seq es)=>match es[i.toNat]? with
   |some y=>some (0<=i/\cr P T=some (bB P (aJ y)),{v:=.p (.bY y)})
   |none=>none
  | .sl b ar ai off len=>match H[b]? with
   |some (.arr k c a es)=>some (0<=i/\cr P T=some ai/\i.toNat<len/\ar=c/\ai=a/\¬(k.gr=true/\es=[]),{v:=.bR b ar ai (off+i.toNat) [],aj:=[(b,.arr k c a es)]})
   |_=>none
  | .ptr b path=>match gJ P T with
   |some (u,n)=>some (0<=i/\i.toNat<n,{v:=.ptr b (path++[(u,i.toNat)])})
   |_=>none
  | .bR b ar ai j path=>match gJ P T with
   |some (u,n)=>some (0<=i/\i.toNat<n,{v:=.bR b ar ai j (path++[(u,i.toNat)])})
   |_=>none
  | .p (.bY t)=>match gJ P T with
   |some (u,n)=>match(cj t)[i.toNat]? with
    |some g=>some (0<=i/\aJ t=.agg u/\i.toNat<n,{v:=.p (.bY g)})
    |none=>none
   |_=>none
  |_=>none
 |_=>none
theorem QS{T:a6}{H:Heap}{x i:AV}:Can (mW P T H x i) (n9 P T H x i):=by
 intro K h;unfold n9 at h;unfold mW
 split at h
 case h_2=>exact h.elim
 split at h
 ·split at h
  ·rename_i y a;obtain⟨hi,a⟩:=cy.1 a;simp only[aX]at h;exact⟨h.1.1,hi,by rw[a];exact h.1.2,by rw[a];exact h.2⟩
  ·exact h.elim
 ·split at h
  ·rename_i y a;obtain⟨hi,a⟩:=cy.1 a;simp only[aX]at h;exact⟨h.1.1,hi,by rw[a];exact h.1.2,by rw[a];exact h.2⟩
  ·exact h.elim
 ·split at h
  ·rename_i l;simp only[aX]at h;obtain⟨⟨b,c,d,e,f,g⟩,j⟩:=h;refine⟨b,c,d,?_⟩;rw[l];exact⟨e,f,g,j⟩
  ·exact h.elim
 ·split at h
  ·rename_i hs;simp only[aX]at h;simp only[hs];exact⟨h.1.1,h.1.2,h.2⟩
  ·exact h.elim
 ·split at h
  ·rename_i hs;simp only[aX]at h;simp only[hs];exact⟨h.1.1,h.1.2,h.2⟩
  ·exact h.elim
 ·split at h
  ·rename_i hs
   split at h
   ·rename_i k;simp only[aX]at h;simp only[hs,k];exact⟨h.1.1,h.1.2.1,h.1.2.2,h.2⟩
   ·exact h.elim
  ·exact h.elim
 ·exact h.elim
end
section
variable{P:a7}{ag:bb->Bool}
def oL(P:a7)(T X:a6)(H:Heap)(s x:AV):er:=
 match cr P T,gv H x with
 |some sz,some xs=>match s with
  | .p .aO=>some ((ie P X=true/\(cm P (dR P T)).isSome=true/\eC P sz xs)/\xs.length<=cM,
   if xs.isEmpty then{v:=s,aj:=dj H x}else{v:=.sl H.length 0 sz 0 xs.length,aj:=dj H x,aP:=[.arr (gk P T) 0 sz xs]})
  | .sl b ar ai off len=>match H[b]? with
   |some (.arr k c a es)=>some ((ie P X=true/\(cm P (dR P T)).isSome=true/\eC P sz xs)/\(ar=c/\ai=a/\ai=sz/\off+len<=es.length)/\es.length+xs.length<=cM/\k≠ .frozen/\(k≠ .exact->off=0)/\(k= .bytes->dR P T=Gl.u8),
    if xs.isEmpty then{v:=s,aj:=(b,.arr k c a es)::dj H x}
    else match k with
     | .exact=>if off+len+xs.length<=es.length then
      {v:=.sl b ar ai off (len+xs.length),aj:=(b,.arr k c a es)::dj H x,aI:=[(b,.arr .exact ar ai (es.take (off+len)++xs++es.drop (off+len+xs.length)))]}
      else{v:=.sl H.length 0 sz 0 (len+xs.length),aj:=(b,.arr k c a es)::dj H x,aP:=[.arr (gk P T) 0 sz ((es.drop off).take len++xs)]}
     |_=>{v:=.sl b (ar+1) ai 0 (len+xs.length),aj:=(b,.arr k c a es)::dj H x,aI:=[(b,.arr k (ar+1) ai (es.take len++xs))]})
   |_=>none
  |_=>none
 |_,_=>none
theorem Sp{T X:a6}{H:Heap}{s x:AV}:Can (ng P T X H s x) (oL P T X H s x):=by
 intro K h;unfold oL at h;unfold ng
 split at h
 case h_2=>exact h.elim
 rename_i sz p i j;simp only[i,j]
 split at h
 ·simp only[aX]at h;obtain⟨⟨⟨b,a2,a3⟩,a4⟩,hk⟩:=h;refine⟨b,a2,a3,?_⟩;dsimp only
  split
  ·rename_i a;rw[if_pos a]at hk;exact hk
  ·rename_i a;rw[if_neg a]at hk;exact⟨a4,hk⟩
 ·split at h
  case h_2=>exact h.elim
  rename_i k o n m l;simp only[aX]at h;obtain⟨⟨⟨b,a2,a3⟩,⟨rfl,rfl,e,f⟩,g,a9,c,d⟩,hk⟩:=h;refine⟨b,a2,a3,?_⟩;simp only[l];refine⟨trivial,trivial,e,f,?_⟩
  split
  ·rename_i a;rw[if_pos a]at hk;exact hk
  ·rename_i a;rw[if_neg a]at hk;refine⟨g,?_⟩;cases k with
   |frozen=>exact a9 rfl
   |exact=>
    simp only at hk⊢
    split
    ·rename_i hc;rw[if_pos hc]at hk;exact hk
    ·rename_i hc;rw[if_neg hc]at hk;exact hk
   |grow=>exact⟨c (by simp),fun h=>(by cases h),hk⟩
   |bytes=>exact⟨c (by simp),d,hk⟩
 ·exact h.elim
def jR(x:Option AV)(d:Nat):Option (Prop×Nat):=
 match x with
 |none=>some (True,d)
 |some (.p (.int _ i))=>some (0<=i,i.toNat)
 |_=>none
theorem mi{x:Option AV}{d n:Nat}{p:Prop}{K:Nat->Prop}(h:jR x d=some (p,n))(a:p)(hk:K n):fX x d K:=by
 unfold jR at h;unfold fX
 split at h
 ·simp only[fH,Prod.mk.injEq]at h;obtain⟨rfl,rfl⟩:=h;exact hk
 ·simp only[fH,Prod.mk.injEq]at h;obtain⟨rfl,rfl⟩:=h;exact⟨a,hk⟩
 ·cases h
def oO(P:a7)(T:a6)(H:Heap)(x:AV)(lo hi:Option AV):er:=
 match x with
 | .p (.str s)=>match jR hi s.length,jR lo 0 with
  |some (p,h),some (q,l)=>some (ib P T=true/\p/\q/\h<=s.length/\l<=h,{v:=.p (.str ((s.take h).drop l))})
  |_,_=>none
 | .p .aO=>match jR hi 0,jR lo 0 with
  |some (p,h),some (q,l)=>some ((cr P T).isSome=true/\p/\q/\h<=0/\l<=h,{v:=.p .aO})
  |_,_=>none
 | .p (.bI full es)=>match jR hi es.length,jR lo 0,cr P T with
  |some (p,h),some (q,l),some sz=>some (p/\q/\h<=es.length/\l<=h/\eC P sz (es.map .p),{v:=.p (.bI (full&&h==es.length) ((es.take h).drop l))})
  |_,_,_=>none
 | .p (.seq es)=>match jR hi es.length,jR lo 0,cr P T with
  |some (p,h),some (q,l),some sz=>some (p/\q/\h<=es.length/\l<=h/\eC P sz (es.map .p),{v:=.p (.seq ((es.take h).drop l))})
  |_,_,_=>none
 | .sl b ar ai off len=>match H[b]? with
  |some (.arr k c a es)=>match jR hi len,jR lo 0 with
   |some (p,h),some (q,l)=>some ((ar=c/\ai=a/\cr P T=some ai/\¬(k.gr=true/\es=[])/\off+len<=es.length)/\p/\q/\off+h<=es.length/\l<=h,
    if l=0 then{v:=.sl b ar ai off h,aj:=[(b,.arr k c a es)]}
    else if l=h then{v:=.p (.bI false []),aj:=[(b,.arr k c a es)]}
    else{v:=.sl b ar ai (off+l) (h-l),aj:=[(b,.arr k c a es)]})
   |_,_=>none
  |_=>none
 |_=>none
theorem UJ{T:a6}{H:Heap}{x:AV}{lo hi:Option AV}:Can (nt P T H x lo hi none) (oO P T H x lo hi):=by
 intro K h;unfold oO at h;unfold nt;refine⟨rfl,?_⟩
 split at h
 ·split at h
  case h_2=>exact h.elim
  rename_i a b;simp only[aX]at h;obtain⟨⟨c,a2,a3,a4,a5⟩,hk⟩:=h;exact⟨c,mi a a2 (mi b a3 ⟨a4,a5,hk⟩)⟩
 ·split at h
  case h_2=>exact h.elim
  rename_i a b;simp only[aX]at h;obtain⟨⟨c,a2,a3,a4,a5⟩,hk⟩:=h;exact⟨c,mi a a2 (mi b a3 ⟨a4,a5,hk⟩)⟩
 ·split at h
  case h_2=>exact h.elim
  rename_i a b e;simp only[aX]at h;obtain⟨⟨a2,a3,a4,a5,d⟩,hk⟩:=h;refine mi a a2 (mi b a3 ⟨a4,a5,?_⟩);simp only[e];exact⟨d,hk⟩
 ·split at h
  case h_2=>exact h.elim
  rename_i a b e;simp only[aX]at h;obtain⟨⟨a2,a3,a4,a5,d⟩,hk⟩:=h;refine mi a a2 (mi b a3 ⟨a4,a5,?_⟩);simp only[e];exact⟨d,hk⟩
 ·split at h
  case h_2=>exact h.elim
  rename_i i
  split at h
  case h_2=>exact h.elim
  rename_i a b;simp only[aX]at h;obtain⟨⟨⟨c,a2,a3,a4,a5⟩,d,f,g,a9⟩,hk⟩:=h;simp only[i];refine⟨c,a2,a3,a4,a5,mi a d (mi b f ⟨g,a9,?_⟩)⟩
  split
  ·rename_i hc;rw[if_pos hc]at hk;exact hk
  ·rename_i hc;rw[if_neg hc]at hk
   split
   ·rename_i hc;rw[if_pos hc]at hk;exact hk
   ·rename_i hc;rw[if_neg hc]at hk;exact hk
 ·exact h.elim
def qz(P:a7)(T:a6)(H:Heap)(x key:AV)(ok:Bool):er:=
 match iQ P T,key with
 |some (a,E),.p key=>match cm P E with
  |some z=>match x with
   | .p .fa=>some (eX P a key=true,{v:=.p (if ok then .aE [z,.bool false]else z)})
   | .p (.eE es)=>match fA P a es key with
    |some r=>some (eX P a key=true,{v:= .p (match r with
      |some v=>if ok then .aE [v,.bool true]else v
      |none=>if ok then .aE [z,.bool false]else z)})
    |none=>none
   | .map b=>match H[b]? with
    |some (.map fz es)=>match fA P a es key with
     |some r=>some (eX P a key=true,{v:= .p (match r with
       |some v=>if ok then .aE [v,.bool true]else v
       |none=>if ok then .aE [z,.bool false]else z),aj:=[(b,.map fz es)]})
     |none=>none
    |_=>none
   |_=>none
  |none=>none
 |_,_=>none
def lP(P:a7)(T:a6)(H:Heap)(m k x:AV):er:=
 match iQ P T,m,k,x with
 |some (a,_),.map b,.p key,.p v=>match H[b]? with
  |some (.map false es)=>match lG P a es key with
   |some _=>some (eX P a key=true,{v:=.p (.aE []),aj:=[(b,.map false es)],aI:=[(b,.map false (fW es key v))]})
   |none=>none
  |_=>none
 |_,_,_,_=>none
def qe(P:a7)(T:a6)(n:Nat)(x:AV):er:=
 match x with
 | .p (.str s)=>some (ib P T=true,{v:=.ptr n [],aP:=[.dh s 0]})
 |_=>none
def qG(H:Heap)(it:AV):er:=
 match it with
 | .ptr b []=>match H[b]? with
  |some (.dh s pos)=>some (True,if pos<s.length then
   {v:=.p (.aE [.bool true,.int .i64 pos,.int .i32 (cb (fR s) pos).1]),aj:=[(b,.dh s pos)],aI:=[(b,.dh s (pos+(cb (fR s) pos).2))]}
   else{v:=.p (.aE [.bool false]),aj:=[(b,.dh s pos)]})
  |_=>none
 |_=>none
def qI(P:a7)(T:a6)(n:Nat)(l c:AV):er:=
 match cr P T,cm P (dR P T),l,c with
 |some sz,some z,.p (.int .i64 l),.p (.int .i64 c)=>some (bB P (aJ z)=sz/\0<=l/\l=c/\l<=cM,{v:=.sl n 0 sz 0 l.toNat,aP:=[.arr .exact 0 sz (c6 l.toNat (.p z))]})
 |_,_,_,_=>none
def copyV(P:a7)(T:a6)(H:Heap)(d x:AV):er:=
 match cr P T,d,gv H x with
 |some sz,.sl b ar ai off len,some xs=>match H[b]? with
  |some (.arr k c a es)=>some ((ai=sz/\eC P sz xs)/\ar=c/\ai=a/\k≠ .frozen/\off+len<=es.length/\¬(k.gr=true/\es=[]),
   {v:=.p (.int .i64 (min xs.length len:Nat)),aj:=(b,.arr k c a es)::dj H x,aI:=[(b,.arr k c a (es.take off++xs.take (min xs.length len)++es.drop (off+min xs.length len)))]})
  |_=>none
 |_,_,_=>none
def pW(x:AV):er:=
 match x with
 | .ptr _ _| .bR _ _ _ _ _| .p (.bY _)=>some (True,{v:=x})
 |_=>none
def jW(b:Bool)(c:List AV):er:=
 match c with
 | .p (.int k a)::r=>match lA k b r a with
  |some n=>some (True,{v:=.p (.int k n)})
  |none=>none
 |_=>none
def qx(f:bb)(fi ca:List AV):er:=
 match ez fi,ez ca with
 |some a,some b=>some (True,{v:=.p (.func f a b)})
 |_,_=>some (True,{v:=.func f fi ca})
end
section
variable{P:a7}{ag:bb->Bool}
def qC(c a b:AV):er:=
 match c with
 | .p (.bool t)=>some (True,{v:=if t then a else b})
 |_=>none
def qm(P:a7)(T:a6)(n:Nat):er:=
 match cm P T with
 |some z=>some (kindOf P T=aJ z/\aJ z≠.bad/\iS T (aJ z)=true,{v:=.ptr n [],aP:=[.box false (.p z)]})
 |none=>none
def sW(P:a7)(T:a6)(n:Nat)(x:AV):er:=some (kindOf P T=ad x/\ad x≠.bad/\iS T (ad x)=true,{v:=.ptr n [],aP:=[.box false x]})
def qj(P:a7)(T:a6)(a:List (Nat×AV)):er:=
 match kindOf P T,cm P T with
 | .agg u,some z=>match dy P u with
  |some l=>some (aJ z=.agg u/\ly P l a,{v:=gK u (ia ((cj z).map .p) a)})
  |none=>none
 |_,_=>none
def pD(P:a7)(T:a6)(n:Nat)(a:List (Nat×AV))(b:Nat):er:=
 match cr P T,cm P (dR P T)with
 |some sz,some z=>some (bB P (aJ z)=sz/\n*sz<=1000000/\ly P (c6 n sz) a,{v:=.sl b 0 sz 0 n,aP:=[.arr .exact 0 sz (ia (c6 n (.p z)) a)]})
 |_,_=>none
def th(op:be)(k:bk)(a b:Int):Prop×PV:=
 match op with
 | .add=>(True,.int k (k.wrap (a+b)))
 | .sub=>(True,.int k (k.wrap (a-b)))
 | .mul=>(True,.int k (k.wrap (a*b)))
 | .quo=>(b≠0,.int k (k.wrap (a.tdiv b)))
 | .rem=>(b≠0,.int k (a.tmod b))
 | .and=>(True,.int k (k.wrap (ay k.bits a&&&ay k.bits b).toNat))
 | .or=>(True,.int k (k.wrap (ay k.bits a|||ay k.bits b).toNat))
 | .xor=>(True,.int k (k.wrap (ay k.bits a^^^ay k.bits b).toNat))
 | .andNot=>(True,.int k (k.wrap (ay k.bits a&&&~~~ay k.bits b).toNat))
 | .eql=>(True,.bool (a==b))
 | .neq=>(True,.bool (a !=b))
 | .lss=>(True,.bool (decide (a<b)))
 | .leq=>(True,.bool (decide (a<=b)))
 | .gtr=>(True,.bool (decide (a>b)))
 | .geq=>(True,.bool (decide (a>=b)))
 | .shl=>(0<=b,.int k (k.wrap (a*2^(min b.toNat k.bits))))
 | .shr=>(0<=b,.int k (a.fdiv (2^(min b.toNat k.bits))))
theorem Yb{op:be}{k:bk}{a b:Int}{K:PV->Prop}(h:(th op k a b).1)(hk:K (th op k a b).2):oT op k a b K:=by
 cases op<;>simp only[th,oT]at*<;>first|exact hk|exact⟨h,hk⟩
def Di(op:be)(a b:List Nat):Option (Prop×PV):=
 match op with
 | .add=>some (a.length+b.length<9223372036854775808,.str (a++b))
 | .eql=>some (True,.bool (a==b))
 | .neq=>some (True,.bool (!(a==b)))
 | .lss=>some (True,.bool (iJ a b))
 | .leq=>some (True,.bool (iJ a b||a==b))
 | .gtr=>some (True,.bool (!(iJ a b||a==b)))
 | .geq=>some (True,.bool (!(iJ a b)))
 |_=>none
def iR(P:a7)(op:be)(T:a6)(c:Bool)(H:Heap)(x y:AV):er:=
 match x,y with
 | .p (.int k a),.p (.int d b)=>some ((k=d\/op=.shl\/op=.shr)/\(th op k a b).1,{v:=.p (th op k a b).2})
 | .p (.str a),.p (.str b)=>match Di op a b with
  |some (p,v)=>some (p,{v:=.p v})
  |none=>none
 | .p (.bool a),.p (.bool b)=>match op with
  | .eql=>some (pZ P T=true,{v:=.p (.bool (a==b))})
  | .neq=>some (pZ P T=true,{v:=.p (.bool (!(a==b)))})
  |_=>none
 | .p (.st u fs),.p (.st u' gs)=>match gT P 9 T (.st u fs) (.st u' gs),op with
  |some r,.eql=>some (qU P T=true,{v:=.p (.bool r)})
  |some r,.neq=>some (qU P T=true,{v:=.p (.bool !r)})
  |_,_=>none
 |x,y=>match di P T c y with
  |some k=>match cK H k x,op with
   |some r,.eql=>some (True,{v:=.p (.bool r),aj:=dj H x})
   |some r,.neq=>some (True,{v:=.p (.bool !r),aj:=dj H x})
   |_,_=>none
  |none=>none
theorem Ih{op:be}{T:a6}{c:Bool}{H:Heap}{x y:AV}{k:tC}{K:PV->Prop}(hk:di P T c y=some k):jM P op T c H x y K=(match cK H k x,op with
  |some r,.eql=>K (.bool r)
  |some r,.neq=>K (.bool !r)
  |_,_=>False):=by
 have a:=hk;rcases Hh hk with⟨rfl,rfl,_⟩|⟨rfl,rfl,_⟩|⟨rfl,rfl,_⟩|⟨rfl,rfl,_⟩|⟨rfl,rfl,_⟩
 all_goals
  unfold jM;cases x with
  |p v=>
   cases v<;>simp only[a]<;>(generalize cK H _ _=r;cases r<;>cases op<;>rfl)
  |_=>simp only[a];(generalize cK H _ _=r;cases r<;>cases op<;>rfl)
theorem WM{op:be}{T:a6}{c:Bool}{H:Heap}{x y:AV}:Can (fun K=>jM P op T c H x y (fun v=>K {v:=.p v,aj:=dj H x})) (iR P op T c H x y):=by
 intro K h;unfold iR at h;unfold jM
 split at h
 ·exact⟨h.1.1,Yb h.1.2 h.2⟩
 ·split at h
  ·rename_i p v a;simp only[aX]at h;show oS op _ _ _;unfold Di at a
   split at a<;>first
    |(simp only[fH,Prod.mk.injEq]at a
      obtain⟨b,d⟩:=a;rw[<-b,<-d]at h;simp only[oS]
      first|exact h.2|exact⟨h.1,h.2⟩)
    |cases a
  ·exact h.elim
 ·split at h
  ·exact⟨h.1,h.2⟩
  ·exact⟨h.1,h.2⟩
  ·exact h.elim
 ·split at h
  ·rename_i e;simp only[aX]at h;simp only[e];exact⟨h.1,h.2⟩
  ·rename_i e;simp only[aX]at h;simp only[e];exact⟨h.1,h.2⟩
  ·exact h.elim
 ·rename_i b d f g
  split at h
  case h_2=>exact h.elim
  rename_i k hk;clear b d f g;show jM P op T c H x y _;rw[Ih hk];generalize cK H k x=q at h⊢;cases q<;>cases op<;>first|exact h.elim|exact h.2
def rl(op:UnOp)(x:AV):er:=
 match op,x with
 | .not,.p (.bool b)=>some (True,{v:=.p (.bool (!b))})
 | .neg,.p (.int k n)=>some (True,{v:=.p (.int k (k.wrap (0-n)))})
 | .xor,.p (.int k n)=>some (True,{v:=.p (.int k (k.wrap (ay k.bits (if k.signed then -1 else k.max)^^^ay k.bits n).toNat))})
 |_,_=>none
def qu(P:a7)(S D:a6)(H:Heap)(x:AV):er:=
 match P.underlying S,P.underlying D,x with
 |some _,some (.int k),.p (.int _ n)=>some (True,{v:=.p (.int k (k.wrap n))})
 |some _,some .string,.p (.str s)=>some (True,{v:=.p (.str s)})
 |some (.slice e),some .string,.sl b ar ai off len=>match H[b]? with
  |some (.arr k c a es)=>match bytesOf ((es.drop off).take len)with
   |some l=>some ((ar=c/\ai=a/\ai=1/\P.underlying e=some (.int .u8)/\0<len/\off+len<=es.length),{v:=.p (.str l),aj:=[(b,.arr k c a es)]})
   |none=>none
  |_=>none
 |_,_,_=>none
def pO(t:AV)(i:Nat):er:=
 match t with
 | .p (.aE vs)=>match vs[i]? with
  |some v=>some (True,{v:=.p v})
  |none=>none
 | .aE vs=>match vs[i]? with
  |some v=>some (True,{v})
  |none=>none
 |_=>none
def qp(P:a7)(T:a6)(x i:AV):er:=
 match x,i with
 | .p (.str s),.p (.int _ i)=>match s[i.toNat]? with
  |some c=>some (ib P T=true/\0<=i,{v:=.p (.int .u8 c)})
  |none=>none
 | .p (.st u es),.p (.int _ i)=>match gJ P T,(iY P u)[i.toNat]?,es[i.toNat]? with
  |some (u',n),some F,some g=>some (u'=u/\0<=i/\i.toNat<n/\kindOf P F=aJ g,{v:=.p g})
  |_,_,_=>none
 |_,_=>none
def qY(P:a7)(T:a6)(n:Nat)(H:Heap)(x:AV):er:=
 match lenOf H x with
 |some (m,aj)=>some (gF P T x=true/\0<n,{v:=.p (.int .i64 m),aj})
 |none=>none
def jY(P:a7)(ag:bb->Bool)(o:Oper)(e:Env)(H:Heap)(K:aR->Prop):Prop:=
 match o.op with
 | .move x| .assign x=>K {v:=ev e x}
 | .pick c a b=>aX (qC (ev e c) (ev e a) (ev e b)) K
 | .alloc T=>aX (qm P T H.length) K
 | .box T x=>aX (sW P T H.length (ev e x)) K
 | .build T parts=>aX (qj P T (parts.toList.map fun(i,x)=>(i,ev e x))) K
 | .buildSlice T n parts=>aX (pD P T n (parts.toList.map fun(i,x)=>(i,ev e x)) H.length) K
 | .load T a=>aX (oU P T H (ev e a)) K
 | .store T a x=>aX (oM P T H (ev e a) (ev e x)) K
 | .binOp op T x y _=>aX (iR P op T (lQ y) H (ev e x) (ev e y)) K
 | .unOp op _ x=>aX (rl op (ev e x)) K
 | .convert S D x=>aX (qu P S D H (ev e x)) K
 | .extract t i=>aX (pO (ev e t) i) K
 | .fieldAddr T a f=>aX (oc P T (ev e a) f) K
 | .indexAddr T x i=>aX (n9 P T H (ev e x) (ev e i)) K
 | .index T x i=>aX (qp P T (ev e x) (ev e i)) K
 | .slice T x lo hi none=>aX (oO P T H (ev e x) (lo.map (ev e)) (hi.map (ev e))) K
 | .lookup T x i ok=>aX (qz P T H (ev e x) (ev e i) ok) K
 | .mapUpdate T m k x| .insert T m k x=>aX (lP P T H (ev e m) (ev e k) (ev e x)) K
 | .range T x=>aX (qe P T H.length (ev e x)) K
 | .next it true=>aX (qG H (ev e it)) K
 | .makeSlice T l c=>aX (qI P T H.length (ev e l) (ev e c)) K
 | .nilCheck x=>aX (pW (ev e x)) K
 | .call c=>match c.callee with
  | .builtin .len=>(match c.args.toList with
   |[x]=>aX (qY P (c.argTypes.getD 0 0) c.argTypes.size H (ev e x)) K
   |_=>False)
  | .builtin .append=>(match c.args.toList with
   |[s,x]=>c.argTypes.size=2/\aX (oL P (c.argTypes.getD 0 0) (c.argTypes.getD 1 0) H (ev e s) (ev e x)) K
   |_=>False)
  | .builtin .copy=>(match c.args.toList with
   |[d,x]=>c.argTypes.size=2/\aX (copyV P (c.argTypes.getD 0 0) H (ev e d) (ev e x)) K
   |_=>False)
  | .builtin .min=>aX (jW false (c.args.toList.map (ev e))) K
  | .builtin .max=>aX (jW true (c.args.toList.map (ev e))) K
  |_=>fc P ag o (ev e) H K
 |_=>fc P ag o (ev e) H K
theorem LM{o:Oper}{e:Env}{H:Heap}{K:aR->Prop}(h:jY P ag o e H K):fc P ag o (ev e) H K:=by
 unfold jY at h;unfold fc;cases w:o.op<;>simp only[w]at h<;>simp only
 case move|assign=>exact h
 case pick c a b=>
  unfold qC at h
  split at h
  ·rename_i hc;simp only[hc];exact h.2
  ·exact h.elim
 case alloc T=>
  unfold qm at h
  split at h
  ·rename_i v;simp only[aX]at h;simp only[v];exact⟨h.1.1,h.1.2.1,h.1.2.2,h.2⟩
  ·exact h.elim
 case box T x=>exact⟨h.1.1,h.1.2.1,h.1.2.2,h.2⟩
 case build T parts=>
  unfold qj at h
  split at h
  ·rename_i hk v
   split at h
   ·rename_i A;simp only[aX]at h;simp only[hk,v,A];exact⟨h.1.1,h.1.2,h.2⟩
   ·exact h.elim
  ·exact h.elim
 case buildSlice T n parts=>
  unfold pD at h
  split at h
  ·rename_i hk v;simp only[aX]at h;simp only[hk,v];exact⟨h.1.1,h.1.2.1,h.1.2.2,h.2⟩
  ·exact h.elim
 case load T a=>exact VZ K h
 case store T a x=>exact UI K h
 case binOp op T x y O=>exact WM K h
 case unOp op T x=>
  unfold rl at h
  split at h
  ·rename_i hx;simp only[hx];exact h.2
  ·rename_i hx;simp only[hx];exact h.2
  ·rename_i hx;simp only[hx];exact h.2
  ·exact h.elim
 case convert S D x=>
  unfold qu at h
  split at h
  ·rename_i g j p;simp only[g,j,p];exact h.2
  ·rename_i g j p;simp only[g,j,p];exact h.2
  ·rename_i g j p
   split at h
   ·rename_i q
    split at h
    ·rename_i A;obtain⟨⟨B,a2,a3,a4,a5,C⟩,h⟩:=h;simp only[g,j,p,q,A];exact⟨B,a2,a3,a4,a5,C,h⟩
    ·exact h.elim
   ·exact h.elim
  ·exact h.elim
 case extract t i=>
  unfold pO at h
  split at h
  ·rename_i F
   split at h
   ·rename_i G;simp only[F,G];exact h.2
   ·exact h.elim
  ·rename_i F
   split at h
   ·rename_i G;simp only[F,G];exact h.2
   ·exact h.elim
  ·exact h.elim
 case fieldAddr T a f=>exact QT K h
 case indexAddr T x i=>exact QS K h
 case index T x i=>
  unfold qp at h
  split at h
  ·rename_i hx hi
   split at h
   ·rename_i c hc;obtain⟨L,rfl⟩:=cy.1 hc;simp only[hx,hi];exact⟨h.1.1,h.1.2,L,h.2⟩
   ·exact h.elim
  ·rename_i hx hi
   split at h
   ·rename_i g j p;obtain⟨⟨g1,g2,g3,g4⟩,h⟩:=h;simp only[hx,hi,g,j,p];exact⟨g1,g2,g3,g4,h⟩
   ·exact h.elim
  ·exact h.elim
 case slice T x lo hi N=>
  cases N with
  |none=>exact UJ K h
  |some m=>simp only[fc,w]at h;exact h
 case lookup T x i ok=>
  unfold qz at h
  split at h
  case h_2=>exact h.elim
  rename_i M hi;simp only[M,hi]
  split at h
  case h_2=>exact h.elim
  rename_i z v;simp only[v]
  split at h
  ·rename_i hx;simp only[hx];exact h
  ·rename_i Q hx;simp only[hx]
   split at h
   case h_2=>exact h.elim
   rename_i r u;refine⟨h.1,?_⟩;simp only[u];cases r<;>exact h.2
  ·rename_i b hx;simp only[hx]
   split at h
   case h_2=>exact h.elim
   rename_i q
   split at h
   case h_2=>exact h.elim
   rename_i r u;refine⟨h.1,?_⟩;simp only[q,u];cases r<;>exact h.2
  ·exact h.elim
 case mapUpdate T m k x|insert T m k x=>
  unfold lP at h
  split at h
  case h_2=>exact h.elim
  rename_i g j p E;simp only[g,j,p,E]
  split at h
  case h_2=>exact h.elim
  rename_i q
  split at h
  case h_2=>exact h.elim
  rename_i u;refine⟨h.1,?_⟩;simp only[q,u];exact h.2
 case range T x=>
  unfold qe at h
  split at h
  ·rename_i hx;simp only[hx];exact h
  ·exact h.elim
 case next it s=>
  cases s with
  |false=>simp only[fc,w]at h
  |true=>
   dsimp only at h⊢;unfold qG at h
   split at h
   case h_2=>exact h.elim
   rename_i hx;simp only[hx]
   split at h
   case h_2=>exact h.elim
   rename_i q;simp only[q];have h:=h.2
   split
   ·rename_i hc;rw[if_pos hc]at h;exact h
   ·rename_i hc;rw[if_neg hc]at h;exact h
 case makeSlice T l c=>
  unfold qI at h
  split at h
  ·rename_i g j p E;simp only[g,j,p,E];exact⟨h.1.1,h.1.2.1,h.1.2.2.1,h.1.2.2.2,h.2⟩
  ·exact h.elim
 case nilCheck x=>
  unfold pW at h
  split at h
  ·rename_i hx;simp only[hx];rw[hx]at h;exact h.2
  ·rename_i hx;simp only[hx];rw[hx]at h;exact h.2
  ·rename_i hx;simp only[hx];rw[hx]at h;exact h.2
  ·exact h.elim
 case call c=>
  split at h
  ·rename_i hc
   split at h
   ·rename_i x hx;unfold qY at h
    split at h
    ·rename_i A;simp only[aX]at h;simp only[hc,hx,dg,ea,A];exact⟨h.1.1,h.1.2,h.2⟩
    ·exact h.elim
   ·exact h.elim
  ·rename_i hc
   split at h
   ·rename_i s x hx;simp only[hc,hx,dg,ea];exact⟨h.1,Sp K h.2⟩
   ·exact h.elim
  ·rename_i hc
   split at h
   ·rename_i d x hx;simp only[hc,hx,dg,ea];obtain⟨J,h⟩:=h;unfold copyV at h
    split at h
    case h_2=>exact h.elim
    rename_i g j p
    split at h
    case h_2=>exact h.elim
    rename_i q;simp only[aX]at h;obtain⟨⟨⟨B,a2⟩,a3,a4,a5,C,I⟩,hk⟩:=h;simp only[g,j,p,q];exact⟨B,a2,J,a3,a4,a5,C,I,hk⟩
   ·exact h.elim
  ·rename_i hc;unfold jW at h
   split at h
   case h_2=>exact h.elim
   rename_i hx
   split at h
   case h_2=>exact h.elim
   rename_i u;simp only[hc,hx,u];exact h.2
  ·rename_i hc;unfold jW at h
   split at h
   case h_2=>exact h.elim
   rename_i hx
   split at h
   case h_2=>exact h.elim
   rename_i u;simp only[hc,hx,u];exact h.2
  ·unfold fc at h;simp only[w]at h;exact h
 all_goals first
  |exact h
  |(unfold fc at h
    simp only[w]at h;exact h)
  |(unfold fc at h
    simp only[w]at h)
end
section
variable{P:a7}{ag:bb->Bool}
def dT(dst:Option Tmp)(s:St)(K:St->Prop)(e:aR):Prop:=K (e.app dst s)
def zh(dst:Option Tmp)(s:St)(K:St->Prop)(v:AV)(H:Heap):Prop:=K ⟨put dst v s.env,H⟩
def qw(P:a7)(f:AV)(args:List AV)(H:Heap)(K:AV->Heap->Prop):Prop:=
 match f with
 | .p (.func g fi ca)=>gB P false g (fi.map .p++args++ca.map .p) H K
 | .func g fi ca=>gB P false g (fi++args++ca) H K
 | .map b=>∃H' v,fO P b H args H' v/\K v H'
 |_=>False
def qh(P:a7)(f:AV)(args:List AV)(H:Heap)(K:aR->Prop):Prop:=
 match f with
 | .p (.func g fi ca)=>gI P g (fi.map .p++args++ca.map .p) H K
 | .func g fi ca=>gI P g (fi++args++ca) H K
 | .map b=>∃e,sG P b args H.length e/\oW H e/\K e
 |_=>False
def dc(P:a7)(ag:bb->Bool)(o:Oper)(K:St->Prop)(s:St):Prop:=
 match o.op with
 | .call {callee:=.value f,args,.. }=>qw P (ev s.env f) (args.toList.map (ev s.env)) s.heap (zh o.dst s K)
 |_=>jY P ag o s.env s.heap (dT o.dst s K)
def dd(P:a7)(ag:bb->Bool)(o:Oper)(s:St)(K:aR->Prop):Prop:=
 match o.op with
 | .call {callee:=.value f,args,.. }=>qh P (ev s.env f) (args.toList.map (ev s.env)) s.heap K
 |_=>jY P ag o s.env s.heap K
theorem TV{o:Oper}{K:St->Prop}{s:St}(h:dc P ag o K s):jf P ag false o K s:=by
 unfold dc at h;unfold jf
 split at h
 ·rename_i f args b a;simp only[a];unfold qw at h
  split at h
  ·rename_i hf;simp only[hf];exact h
  ·rename_i hf;simp only[hf];exact h
  ·rename_i hf;simp only[hf];exact h
  ·exact h.elim
 ·rename_i c
  split
  ·rename_i f args b a;exact(c _ _ _ a).elim
  ·exact LM h
theorem T5{o:Oper}{K:aR->Prop}{s:St}(h:dd P ag o s K):iT P ag o s K:=by
 unfold dd at h;unfold iT
 split at h
 ·rename_i f args b a;simp only[a];unfold qh at h
  split at h
  ·rename_i hf;simp only[hf];exact h
  ·rename_i hf;simp only[hf];exact h
  ·rename_i hf;simp only[hf];exact h
  ·exact h.elim
 ·rename_i c
  split
  ·rename_i f args b a;exact(c _ _ _ a).elim
  ·exact LM h
def fF(P:a7)(ag:bb->Bool)(a:Array Oper):List Oper->(St->Prop)->St->Prop
 |[],K,s=>K s
 |o::r,K,s=>match o.guard with
  |none=>dc P ag o (fF P ag a r K) s
  |some (j,want)=>match guardOf a j s.env with
   | .p (.bool t)=>if t=want then dc P ag o (fF P ag a r K) s else fF P ag a r K ⟨put o.dst (.p (.aE [])) s.env,s.heap⟩
   | .p (.aE [])=>fF P ag a r K ⟨put o.dst (.p (.aE [])) s.env,s.heap⟩
   |_=>False
def fN(P:a7)(ag:bb->Bool)(a:Array Oper):List Oper->Nat->List Touch->(St->Prop)->St->Prop
 |[],_,acc,K,s=>jG a acc=true/\K s
 |o::r,i,acc,K,s=>match o.guard with
  |none=>dd P ag o s fun e=>fN P ag a r (i+1) (gC i s.heap.length e acc) K (e.app o.dst s)
  |some (j,want)=>match guardOf a j s.env with
   | .p (.bool t)=>if t=want then dd P ag o s fun e=>fN P ag a r (i+1) (gC i s.heap.length e acc) K (e.app o.dst s)
    else fN P ag a r (i+1) acc K ⟨put o.dst (.p (.aE [])) s.env,s.heap⟩
   | .p (.aE [])=>fN P ag a r (i+1) acc K ⟨put o.dst (.p (.aE [])) s.env,s.heap⟩
   |_=>False
theorem xN{b:Array Oper}:∀(l:List Oper){K a:St->Prop}{s:St},(∀s,K s->a s)->fF P ag b l K s->gD P ag false b l a s
 |[],K,a,s,hk,h=>by simp only[fF]at h;simp only[gD];exact hk s h
 |o::l,K,a,s,hk,h=>by
  have go:dc P ag o (fF P ag b l K) s->jf P ag false o (gD P ag false b l a) s:=fun h=>by
   obtain⟨t,f,g⟩:=HT false o s _ (TV h);exact g _ (xN l hk f)
  simp only[fF]at h;simp only[gD]
  split at h
  ·rename_i c;simp only[c];exact go h
  ·rename_i j i c;simp only[c]
   split at h
   ·rename_i t d;simp only[d]
    split at h
    ·rename_i e;rw[if_pos e];exact go h
    ·rename_i e;rw[if_neg e];exact xN l hk h
   ·rename_i d;simp only[d];exact xN l hk h
   ·exact h.elim
theorem xe{c:Array Oper}:∀(l:List Oper){i:Nat}{a:List Touch}{K b:St->Prop}{s:St},(∀s,K s->b s)->fN P ag c l i a K s->fM P ag c l i a b s
 |[],i,a,K,b,s,hk,h=>by simp only[fN]at h;simp only[fM];exact⟨h.1,hk s h.2⟩
 |o::l,i,a,K,b,s,hk,h=>by
  have go:dd P ag o s (fun e=>fN P ag c l (i+1) (gC i s.heap.length e a) K (e.app o.dst s))->iT P ag o s (fun e=>fM P ag c l (i+1) (gC i s.heap.length e a) b (e.app o.dst s)):=fun h=>by
   obtain⟨e,k,m⟩:=HU o s _ (T5 h);exact m _ (xe l hk k)
  simp only[fN]at h;simp only[fM]
  split at h
  ·rename_i d;simp only[d];exact go h
  ·rename_i j n d;simp only[d]
   split at h
   ·rename_i t f;simp only[f]
    split at h
    ·rename_i g;rw[if_pos g];exact go h
    ·rename_i g;rw[if_neg g];exact xe l hk h
   ·rename_i f;simp only[f];exact xe l hk h
   ·exact h.elim
def sN(v:AV)(a b:St->Prop)(s:St):Prop:=
 match v with
 | .p (.bool t)=>if t then a s else b s
 |_=>False
def tt(K:St->Prop)(Q:bn->St->Prop)(e:bn)(s:St):Prop:=
 match e with
 | .normal=>K s
 |e=>Q e s
def c8(P:a7)(ag:bb->Bool)(q:Cx):Code->(bn->St->Prop)->St->Prop
 | .skip,Q,s| .label _,Q,s=>Q .normal s
 | .region _ ops draw,Q,s=>if draw then fN P ag ops ops.toList 0 [] (Q .normal) s else fF P ag ops ops.toList (Q .normal) s
 | .seq a b,Q,s=>c8 P ag q a (tt (c8 P ag q b Q) Q) s
 | .cond c a b,Q,s=>sN (ev s.env c) (c8 P ag q a Q) (c8 P ag q b Q) s
 | .block id b,Q,s=>c8 P ag q b (nC id Q) s
 | .scope b,Q,s=>c8 P ag q b Q s
 | .loop b,Q,s=>∃I:Nat->St->Prop,(∃n t,cJ q.2 s t/\I n t)/\∀n t,I n t->c8 P ag q b (sJ q.2 n I Q) t
 | .rangeFunc f d a b,Q,s=>q.2<=s.heap.length/\iK P (ev s.env f) s.heap.length (s.heap++[.loop ⟨.ready,none,q.1,d.toList,a,b,s.env⟩]) (gQ s.heap.length s.env Q)
 | .exit id,Q,s=>Q (.exit id) s
 | .ret,Q,s=>Q .ret s
 |_,_,_=>False
theorem Ue{Q a:bn->St->Prop}(hq:∀e s,Q e s->a e s){j:Option Code}{s:St}(h:jd Q j s):jd a j s:=by
 unfold jd at h⊢
 split at h
 ·exact hq _ _ h
 ·exact hq _ _ h
 ·exact hq _ _ h
 ·exact h.elim
theorem HB{Q a:bn->St->Prop}(hq:∀e s,Q e s->a e s){b:Nat}{env:Env}{H:Heap}(h:gQ b env Q H):gQ b env a H:=by
 unfold gQ at h⊢
 split at h
 ·exact⟨h.1,Ue hq h.2⟩
 ·exact h.elim
theorem Hx{it:AV}{b:Nat}{H:Heap}{K d:Heap->Prop}(hk:∀H,K H->d H)(h:iK P it b H K):iK P it b H d:=by
 unfold iK at h⊢
 split at h
 ·obtain⟨H',v,a,c⟩:=h;exact⟨H',v,a,hk _ c⟩
 ·obtain⟨H',v,a,c⟩:=h;exact⟨H',v,a,hk _ c⟩
 ·exact h.elim
theorem lg{q:Cx}:∀(c:Code){Q Q':bn->St->Prop}{s:St},(∀e s,Q e s->Q' e s)->c8 P ag q c Q s->bV P ag q c Q' s
 | .skip,Q,Q',s,hq,h| .label _,Q,Q',s,hq,h=>by simp only[c8]at h;simp only[bV];exact hq _ _ h
 | .exit _,Q,Q',s,hq,h| .ret,Q,Q',s,hq,h=>by simp only[c8]at h;simp only[bV];exact hq _ _ h
 | .region id ops draw,Q,Q',s,hq,h=>by
  simp only[c8]at h;simp only[bV]
  split at h
  ·rename_i j;rw[if_pos j];exact xe _ (hq _) h
  ·rename_i j;rw[if_neg j];exact xN _ (hq _) h
 | .seq a b,Q,Q',s,hq,h=>by
  simp only[c8]at h;simp only[bV];refine lg a (fun e s d=>?_) h;cases e with
  |normal=>exact lg b hq d
  |exit id=>exact hq _ _ d
  |ret=>exact hq _ _ d
 | .cond c a b,Q,Q',s,hq,h=>by
  simp only[c8]at h;simp only[bV];unfold sN at h
  split at h
  ·rename_i t m;simp only[m]
   split at h
   ·rename_i g;rw[if_pos g];exact lg a hq h
   ·rename_i g;rw[if_neg g];exact lg b hq h
  ·exact h.elim
 | .block id b,Q,Q',s,hq,h=>by
  simp only[c8]at h;simp only[bV];refine lg b (fun e s d=>?_) h;cases e with
  |normal=>exact hq _ _ d
  |exit i=>
   simp only[nC]at d
   by_cases hi:i=id
   ·simp only[hi,if_true]at d⊢;exact hq _ _ d
   ·simp only[hi,if_false]at d⊢;exact hq _ _ d
  |ret=>exact hq _ _ d
 | .scope b,Q,Q',s,hq,h=>by simp only[c8]at h;simp only[bV];exact lg b hq h
 | .loop b,Q,Q',s,hq,h=>by
  simp only[c8]at h;simp only[bV];obtain⟨I,k,l⟩:=h;refine⟨I,k,fun n t hI=>lg b (fun e s d=>?_) (l n t hI)⟩;cases e with
  |normal=>exact d
  |exit id=>exact hq _ _ d
  |ret=>exact hq _ _ d
 | .rangeFunc f o a b,Q,Q',s,hq,h=>by
  simp only[c8]at h;simp only[bV];exact⟨h.1,s.env,fun _=>rfl,Hx (fun H=>HB hq) h.2⟩
 | .goto _,_,_,_,_,h| .refuse _,_,_,_,_,h=>by simp[c8]at h
end
section
variable{P:a7}{ag:bb->Bool}{q:Cx}
theorem Ll{Q:bn->St->Prop}{s:St}:c8 P ag q .skip Q s=Q .normal s:=(rfl)
theorem Kb{l:Nat}{Q:bn->St->Prop}{s:St}:c8 P ag q (.label l) Q s=Q .normal s:=(rfl)
theorem Lm{id:Nat}{Q:bn->St->Prop}{s:St}:c8 P ag q (.exit id) Q s=Q (.exit id) s:=(rfl)
theorem O1{Q:bn->St->Prop}{s:St}:c8 P ag q .ret Q s=Q .ret s:=(rfl)
theorem J9{b:Code}{Q:bn->St->Prop}{s:St}:c8 P ag q (.scope b) Q s=c8 P ag q b Q s:=(rfl)
theorem Ln{id:Nat}{l:List Oper}{Q:bn->St->Prop}{s:St}:c8 P ag q (.region id l.toArray true) Q s=fN P ag l.toArray l 0 [] (Q .normal) s:=by simp[c8]
theorem Ka{id:Nat}{l:List Oper}{Q:bn->St->Prop}{s:St}:c8 P ag q (.region id l.toArray false) Q s=fF P ag l.toArray l (Q .normal) s:=by simp[c8]
theorem O2{a b:Code}{Q:bn->St->Prop}{s:St}:c8 P ag q (.seq a b) Q s=c8 P ag q a (tt (c8 P ag q b Q) Q) s:=(rfl)
theorem Kc{id:Nat}{b:Code}{Q:bn->St->Prop}{s:St}:c8 P ag q (.block id b) Q s=c8 P ag q b (nC id Q) s:=(rfl)
theorem Lo{c:a8}{a b:Code}{Q:bn->St->Prop}{s:St}:c8 P ag q (.cond c a b) Q s=sN (ev s.env c) (c8 P ag q a Q) (c8 P ag q b Q) s:=(rfl)
theorem Gt{K:St->Prop}{Q:bn->St->Prop}{s:St}:tt K Q .normal s=K s:=(rfl)
theorem HW{id:Nat}{K:St->Prop}{Q:bn->St->Prop}{s:St}:tt K Q (.exit id) s=Q (.exit id) s:=(rfl)
theorem IY{K:St->Prop}{Q:bn->St->Prop}{s:St}:tt K Q .ret s=Q .ret s:=(rfl)
theorem GR{t:Bool}{a b:St->Prop}{s:St}:sN (.p (.bool t)) a b s=if t then a s else b s:=(rfl)
def vf(P:a7)(ag:bb->Bool)(b:Array Oper)(r:List Oper)(i:Nat)(a:List Touch)(K:St->Prop)(dst:Option Tmp)(s:St)(e:aR):Prop:=
 fN P ag b r (i+1) (gC i s.heap.length e a) K (e.app dst s)
theorem Jp{b:Array Oper}{r:List Oper}{i:Nat}{a:List Touch}{K:St->Prop}{dst:Option Tmp}{env:Env}{heap:Heap}{v:AV}{aj aI:List (Nat×Obj)}{aP:List Obj}:
 vf P ag b r i a K dst ⟨env,heap⟩ ⟨v,aj,aI,aP⟩=fN P ag b r (i+1) (gC i heap.length ⟨v,aj,aI,aP⟩ a) K ⟨put dst v env,ba heap aI++aP⟩:=(rfl)
theorem KY{dst:Option Tmp}{env:Env}{heap:Heap}{K:St->Prop}{v:AV}{aj aI:List (Nat×Obj)}{aP:List Obj}:dT dst ⟨env,heap⟩ K ⟨v,aj,aI,aP⟩=K ⟨put dst v env,ba heap aI++aP⟩:=(rfl)
theorem Kx{dst:Option Tmp}{env:Env}{heap H:Heap}{K:St->Prop}{v:AV}:zh dst ⟨env,heap⟩ K v H=K ⟨put dst v env,H⟩:=(rfl)
def xS(P:a7)(ag:bb->Bool)(b:Array Oper)(o:Oper)(r:List Oper)(i:Nat)(a:List Touch)(K:St->Prop)(c:Bool)(s:St)(g:AV):Prop:=
 match g with
 | .p (.bool t)=>if t=c then dd P ag o s (vf P ag b r i a K o.dst s)else fN P ag b r (i+1) a K ⟨put o.dst (.p (.aE [])) s.env,s.heap⟩
 | .p (.aE [])=>fN P ag b r (i+1) a K ⟨put o.dst (.p (.aE [])) s.env,s.heap⟩
 |_=>False
def ym(P:a7)(ag:bb->Bool)(a:Array Oper)(o:Oper)(r:List Oper)(K:St->Prop)(b:Bool)(s:St)(g:AV):Prop:=
 match g with
 | .p (.bool t)=>if t=b then dc P ag o (fF P ag a r K) s else fF P ag a r K ⟨put o.dst (.p (.aE [])) s.env,s.heap⟩
 | .p (.aE [])=>fF P ag a r K ⟨put o.dst (.p (.aE [])) s.env,s.heap⟩
 |_=>False
theorem Lj{b:Array Oper}{i:Nat}{a:List Touch}{K:St->Prop}{s:St}:fN P ag b [] i a K s=(jG b a=true/\K s):=(rfl)
theorem J8{b:Array Oper}{i c:Nat}{pos:String}{a:List Touch}{K:St->Prop}{s:St}{dst:Option Tmp}{op:Op}{af:Array Edge}{r:List Oper}:
 fN P ag b ({dst,op,type:=c,pos,after:=af,guard:=none}::r) i a K s=dd P ag {dst,op,type:=c,pos,after:=af,guard:=none} s (vf P ag b r i a K dst s):=(rfl)
theorem I3{a:Array Oper}{i d j:Nat}{b:Bool}{pos:String}{c:List Touch}{K:St->Prop}{s:St}{dst:Option Tmp}{op:Op}{af:Array Edge}{r:List Oper}:
 fN P ag a ({dst,op,type:=d,pos,after:=af,guard:=some (j,b)}::r) i c K s=xS P ag a {dst,op,type:=d,pos,after:=af,guard:=some (j,b)} r i c K b s (guardOf a j s.env):=(rfl)
theorem Lh{a:Array Oper}{K:St->Prop}{s:St}:fF P ag a [] K s=K s:=(rfl)
theorem J6{a:Array Oper}{b:Nat}{pos:String}{K:St->Prop}{s:St}{dst:Option Tmp}{op:Op}{af:Array Edge}{r:List Oper}:
 fF P ag a ({dst,op,type:=b,pos,after:=af,guard:=none}::r) K s=dc P ag {dst,op,type:=b,pos,after:=af,guard:=none} (fF P ag a r K) s:=(rfl)
theorem I2{a:Array Oper}{c j:Nat}{b:Bool}{pos:String}{K:St->Prop}{s:St}{dst:Option Tmp}{op:Op}{af:Array Edge}{r:List Oper}:
 fF P ag a ({dst,op,type:=c,pos,after:=af,guard:=some (j,b)}::r) K s=ym P ag a {dst,op,type:=c,pos,after:=af,guard:=some (j,b)} r K b s (guardOf a j s.env):=(rfl)
end
section CJ
variable{P:a7}{ag:bb->Bool}{q:Cx}
end CJ
section ops
variable{P:a7}{ag:bb->Bool}{dst:Option Tmp}{ty:Nat}{pos:String}{af:Array Edge}{g:Option (Nat×Bool)}{env:Env}{heap:Heap}{K:aR->Prop}{L:St->Prop}
theorem Mg{x:a8}:dd P ag ⟨dst,.move x,ty,pos,af,g⟩ ⟨env,heap⟩ K=K {v:=ev env x}:=(rfl)
theorem Jn{x:a8}:dd P ag ⟨dst,.assign x,ty,pos,af,g⟩ ⟨env,heap⟩ K=K {v:=ev env x}:=(rfl)
theorem Me{c a b:a8}:dd P ag ⟨dst,.pick c a b,ty,pos,af,g⟩ ⟨env,heap⟩ K=aX (qC (ev env c) (ev env a) (ev env b)) K:=(rfl)
theorem KI{T:a6}:dd P ag ⟨dst,.alloc T,ty,pos,af,g⟩ ⟨env,heap⟩ K=aX (qm P T heap.length) K:=(rfl)
theorem MT{T:a6}{x:a8}:dd P ag ⟨dst,.box T x,ty,pos,af,g⟩ ⟨env,heap⟩ K=aX (sW P T heap.length (ev env x)) K:=(rfl)
theorem KH{T:a6}{a:Array (Nat×a8)}:dd P ag ⟨dst,.build T a,ty,pos,af,g⟩ ⟨env,heap⟩ K=aX (qj P T (a.toList.map fun(i,x)=>(i,ev env x))) K:=(rfl)
theorem F4{T:a6}{n:Nat}{a:Array (Nat×a8)}:dd P ag ⟨dst,.buildSlice T n a,ty,pos,af,g⟩ ⟨env,heap⟩ K=aX (pD P T n (a.toList.map fun(i,x)=>(i,ev env x)) heap.length) K:=(rfl)
theorem LR{T:a6}{a:a8}:dd P ag ⟨dst,.load T a,ty,pos,af,g⟩ ⟨env,heap⟩ K=aX (oU P T heap (ev env a)) K:=(rfl)
theorem KE{T:a6}{a x:a8}:dd P ag ⟨dst,.store T a x,ty,pos,af,g⟩ ⟨env,heap⟩ K=aX (oM P T heap (ev env a) (ev env x)) K:=(rfl)
theorem MS{op:be}{T a:a6}{x y:a8}:dd P ag ⟨dst,.binOp op T x y a,ty,pos,af,g⟩ ⟨env,heap⟩ K=aX (iR P op T (lQ y) heap (ev env x) (ev env y)) K:=(rfl)
theorem MX{op:UnOp}{T:a6}{x:a8}:dd P ag ⟨dst,.unOp op T x,ty,pos,af,g⟩ ⟨env,heap⟩ K=aX (rl op (ev env x)) K:=(rfl)
theorem LU{S D:a6}{x:a8}:dd P ag ⟨dst,.convert S D x,ty,pos,af,g⟩ ⟨env,heap⟩ K=aX (qu P S D heap (ev env x)) K:=(rfl)
theorem Iu{t:a8}{i:Nat}:dd P ag ⟨dst,.extract t i,ty,pos,af,g⟩ ⟨env,heap⟩ K=aX (pO (ev env t) i) K:=(rfl)
theorem Gv{T:a6}{a:a8}{f:Nat}:dd P ag ⟨dst,.fieldAddr T a f,ty,pos,af,g⟩ ⟨env,heap⟩ K=aX (oc P T (ev env a) f) K:=(rfl)
theorem Gu{T:a6}{x i:a8}:dd P ag ⟨dst,.indexAddr T x i,ty,pos,af,g⟩ ⟨env,heap⟩ K=aX (n9 P T heap (ev env x) (ev env i)) K:=(rfl)
theorem Fx{T:a6}{x i:a8}:dd P ag ⟨dst,.index T x i,ty,pos,af,g⟩ ⟨env,heap⟩ K=aX (qp P T (ev env x) (ev env i)) K:=(rfl)
theorem MU{x:a8}{a:Array a6}:dd P ag ⟨dst,.call {callee:=.builtin .len,args:=#[x],argTypes:=a},ty,pos,af,g⟩ ⟨env,heap⟩ K=aX (qY P (a.getD 0 0) a.size heap (ev env x)) K:=(rfl)
theorem LV{f:a8}{args:List a8}{a:Array a6}:dd P ag ⟨dst,.call {callee:=.value f,args:=args.toArray,argTypes:=a},ty,pos,af,g⟩ ⟨env,heap⟩ K=qh P (ev env f) (args.map (ev env)) heap K:=(rfl)
theorem LF{x:a8}:dc P ag ⟨dst,.move x,ty,pos,af,g⟩ L ⟨env,heap⟩=dT dst ⟨env,heap⟩ L {v:=ev env x}:=(rfl)
theorem ID{x:a8}:dc P ag ⟨dst,.assign x,ty,pos,af,g⟩ L ⟨env,heap⟩=dT dst ⟨env,heap⟩ L {v:=ev env x}:=(rfl)
theorem LC{c a b:a8}:dc P ag ⟨dst,.pick c a b,ty,pos,af,g⟩ L ⟨env,heap⟩=aX (qC (ev env c) (ev env a) (ev env b)) (dT dst ⟨env,heap⟩ L):=(rfl)
theorem Kl{T:a6}:dc P ag ⟨dst,.alloc T,ty,pos,af,g⟩ L ⟨env,heap⟩=aX (qm P T heap.length) (dT dst ⟨env,heap⟩ L):=(rfl)
theorem Ou{T:a6}{x:a8}:dc P ag ⟨dst,.box T x,ty,pos,af,g⟩ L ⟨env,heap⟩=aX (sW P T heap.length (ev env x)) (dT dst ⟨env,heap⟩ L):=(rfl)
theorem Kk{T:a6}{a:Array (Nat×a8)}:dc P ag ⟨dst,.build T a,ty,pos,af,g⟩ L ⟨env,heap⟩=aX (qj P T (a.toList.map fun(i,x)=>(i,ev env x))) (dT dst ⟨env,heap⟩ L):=(rfl)
theorem FY{T:a6}{n:Nat}{a:Array (Nat×a8)}:dc P ag ⟨dst,.buildSlice T n a,ty,pos,af,g⟩ L ⟨env,heap⟩=aX (pD P T n (a.toList.map fun(i,x)=>(i,ev env x)) heap.length) (dT dst ⟨env,heap⟩ L):=(rfl)
theorem LG{T:a6}{a:a8}:dc P ag ⟨dst,.load T a,ty,pos,af,g⟩ L ⟨env,heap⟩=aX (oU P T heap (ev env a)) (dT dst ⟨env,heap⟩ L):=(rfl)
theorem Kz{T:a6}{a x:a8}:dc P ag ⟨dst,.store T a x,ty,pos,af,g⟩ L ⟨env,heap⟩=aX (oM P T heap (ev env a) (ev env x)) (dT dst ⟨env,heap⟩ L):=(rfl)
theorem Ot{op:be}{T a:a6}{x y:a8}:dc P ag ⟨dst,.binOp op T x y a,ty,pos,af,g⟩ L ⟨env,heap⟩=aX (iR P op T (lQ y) heap (ev env x) (ev env y)) (dT dst ⟨env,heap⟩ L):=(rfl)
theorem Oy{op:UnOp}{T:a6}{x:a8}:dc P ag ⟨dst,.unOp op T x,ty,pos,af,g⟩ L ⟨env,heap⟩=aX (rl op (ev env x)) (dT dst ⟨env,heap⟩ L):=(rfl)
theorem LI{S D:a6}{x:a8}:dc P ag ⟨dst,.convert S D x,ty,pos,af,g⟩ L ⟨env,heap⟩=aX (qu P S D heap (ev env x)) (dT dst ⟨env,heap⟩ L):=(rfl)
theorem HA{t:a8}{i:Nat}:dc P ag ⟨dst,.extract t i,ty,pos,af,g⟩ L ⟨env,heap⟩=aX (pO (ev env t) i) (dT dst ⟨env,heap⟩ L):=(rfl)
theorem Gn{T:a6}{a:a8}{f:Nat}:dc P ag ⟨dst,.fieldAddr T a f,ty,pos,af,g⟩ L ⟨env,heap⟩=aX (oc P T (ev env a) f) (dT dst ⟨env,heap⟩ L):=(rfl)
theorem Gm{T:a6}{x i:a8}:dc P ag ⟨dst,.indexAddr T x i,ty,pos,af,g⟩ L ⟨env,heap⟩=aX (n9 P T heap (ev env x) (ev env i)) (dT dst ⟨env,heap⟩ L):=(rfl)
theorem Kj{T:a6}{x i:a8}:dc P ag ⟨dst,.index T x i,ty,pos,af,g⟩ L ⟨env,heap⟩=aX (qp P T (ev env x) (ev env i)) (dT dst ⟨env,heap⟩ L):=(rfl)
theorem Ov{x:a8}{a:Array a6}:dc P ag ⟨dst,.call {callee:=.builtin .len,args:=#[x],argTypes:=a},ty,pos,af,g⟩ L ⟨env,heap⟩=aX (qY P (a.getD 0 0) a.size heap (ev env x)) (dT dst ⟨env,heap⟩ L):=(rfl)
theorem LJ{f:a8}{args:List a8}{a:Array a6}:dc P ag ⟨dst,.call {callee:=.value f,args:=args.toArray,argTypes:=a},ty,pos,af,g⟩ L ⟨env,heap⟩=qw P (ev env f) (args.map (ev env)) heap (zh dst ⟨env,heap⟩ L):=(rfl)
theorem KF{T:a6}{x:a8}{lo hi:Option a8}:dd P ag ⟨dst,.slice T x lo hi none,ty,pos,af,g⟩ ⟨env,heap⟩ K=aX (oO P T heap (ev env x) (lo.map (ev env)) (hi.map (ev env))) K:=(rfl)
theorem Kh{T:a6}{x:a8}{lo hi:Option a8}:dc P ag ⟨dst,.slice T x lo hi none,ty,pos,af,g⟩ L ⟨env,heap⟩=aX (oO P T heap (ev env x) (lo.map (ev env)) (hi.map (ev env))) (dT dst ⟨env,heap⟩ L):=(rfl)
theorem Jl{T:a6}{x i:a8}{ok:Bool}:dd P ag ⟨dst,.lookup T x i ok,ty,pos,af,g⟩ ⟨env,heap⟩ K=aX (qz P T heap (ev env x) (ev env i) ok) K:=(rfl)
theorem IB{T:a6}{x i:a8}{ok:Bool}:dc P ag ⟨dst,.lookup T x i ok,ty,pos,af,g⟩ L ⟨env,heap⟩=aX (qz P T heap (ev env x) (ev env i) ok) (dT dst ⟨env,heap⟩ L):=(rfl)
theorem GK{T:a6}{m k x:a8}:dd P ag ⟨dst,.mapUpdate T m k x,ty,pos,af,g⟩ ⟨env,heap⟩ K=aX (lP P T heap (ev env m) (ev env k) (ev env x)) K:=(rfl)
theorem Gj{T:a6}{m k x:a8}:dc P ag ⟨dst,.mapUpdate T m k x,ty,pos,af,g⟩ L ⟨env,heap⟩=aX (lP P T heap (ev env m) (ev env k) (ev env x)) (dT dst ⟨env,heap⟩ L):=(rfl)
theorem Jm{T:a6}{m k x:a8}:dd P ag ⟨dst,.insert T m k x,ty,pos,af,g⟩ ⟨env,heap⟩ K=aX (lP P T heap (ev env m) (ev env k) (ev env x)) K:=(rfl)
theorem IC{T:a6}{m k x:a8}:dc P ag ⟨dst,.insert T m k x,ty,pos,af,g⟩ L ⟨env,heap⟩=aX (lP P T heap (ev env m) (ev env k) (ev env x)) (dT dst ⟨env,heap⟩ L):=(rfl)
theorem KG{T:a6}{x:a8}:dd P ag ⟨dst,.range T x,ty,pos,af,g⟩ ⟨env,heap⟩ K=aX (qe P T heap.length (ev env x)) K:=(rfl)
theorem Ki{T:a6}{x:a8}:dc P ag ⟨dst,.range T x,ty,pos,af,g⟩ L ⟨env,heap⟩=aX (qe P T heap.length (ev env x)) (dT dst ⟨env,heap⟩ L):=(rfl)
theorem Mf{it:a8}:dd P ag ⟨dst,.next it true,ty,pos,af,g⟩ ⟨env,heap⟩ K=aX (qG heap (ev env it)) K:=(rfl)
theorem LD{it:a8}:dc P ag ⟨dst,.next it true,ty,pos,af,g⟩ L ⟨env,heap⟩=aX (qG heap (ev env it)) (dT dst ⟨env,heap⟩ L):=(rfl)
theorem GL{T:a6}{l c:a8}:dd P ag ⟨dst,.makeSlice T l c,ty,pos,af,g⟩ ⟨env,heap⟩ K=aX (qI P T heap.length (ev env l) (ev env c)) K:=(rfl)
theorem Gk{T:a6}{l c:a8}:dc P ag ⟨dst,.makeSlice T l c,ty,pos,af,g⟩ L ⟨env,heap⟩=aX (qI P T heap.length (ev env l) (ev env c)) (dT dst ⟨env,heap⟩ L):=(rfl)
theorem GO{x:a8}:dd P ag ⟨dst,.nilCheck x,ty,pos,af,g⟩ ⟨env,heap⟩ K=aX (pW (ev env x)) K:=(rfl)
theorem He{x:a8}:dc P ag ⟨dst,.nilCheck x,ty,pos,af,g⟩ L ⟨env,heap⟩=aX (pW (ev env x)) (dT dst ⟨env,heap⟩ L):=(rfl)
theorem MW{args:Array a8}{a:Array a6}:dd P ag ⟨dst,.call {callee:=.builtin .min,args,argTypes:=a},ty,pos,af,g⟩ ⟨env,heap⟩ K=aX (jW false (args.toList.map (ev env))) K:=(rfl)
theorem Ox{args:Array a8}{a:Array a6}:dc P ag ⟨dst,.call {callee:=.builtin .min,args,argTypes:=a},ty,pos,af,g⟩ L ⟨env,heap⟩=aX (jW false (args.toList.map (ev env))) (dT dst ⟨env,heap⟩ L):=(rfl)
theorem MV{args:Array a8}{a:Array a6}:dd P ag ⟨dst,.call {callee:=.builtin .max,args,argTypes:=a},ty,pos,af,g⟩ ⟨env,heap⟩ K=aX (jW true (args.toList.map (ev env))) K:=(rfl)
theorem Ow{args:Array a8}{a:Array a6}:dc P ag ⟨dst,.call {callee:=.builtin .max,args,argTypes:=a},ty,pos,af,g⟩ L ⟨env,heap⟩=aX (jW true (args.toList.map (ev env))) (dT dst ⟨env,heap⟩ L):=(rfl)
theorem It{T:a6}:dd P ag ⟨dst,.makeMap T none,ty,pos,af,g⟩ ⟨env,heap⟩ K=K {v:=.map heap.length,aP:=[.map false []]}:=(rfl)
theorem Ic{T:a6}:dc P ag ⟨dst,.makeMap T none,ty,pos,af,g⟩ L ⟨env,heap⟩=dT dst ⟨env,heap⟩ L {v:=.map heap.length,aP:=[.map false []]}:=(rfl)
theorem Jo{s x:a8}{T X:a6}:dd P ag ⟨dst,.call {callee:=.builtin .append,args:=#[s,x],argTypes:=#[T,X]},ty,pos,af,g⟩ ⟨env,heap⟩ K=aX (oL P T X heap (ev env s) (ev env x)) K:=by simp[dd,jY]
theorem IE{s x:a8}{T X:a6}:dc P ag ⟨dst,.call {callee:=.builtin .append,args:=#[s,x],argTypes:=#[T,X]},ty,pos,af,g⟩ L ⟨env,heap⟩=aX (oL P T X heap (ev env s) (ev env x)) (dT dst ⟨env,heap⟩ L):=by simp[dc,jY]
theorem LS{s x:a8}{T X:a6}:dd P ag ⟨dst,.call {callee:=.builtin .copy,args:=#[s,x],argTypes:=#[T,X]},ty,pos,af,g⟩ ⟨env,heap⟩ K=aX (copyV P T heap (ev env s) (ev env x)) K:=by simp[dd,jY]
theorem LH{s x:a8}{T X:a6}:dc P ag ⟨dst,.call {callee:=.builtin .copy,args:=#[s,x],argTypes:=#[T,X]},ty,pos,af,g⟩ L ⟨env,heap⟩=aX (copyV P T heap (ev env s) (ev env x)) (dT dst ⟨env,heap⟩ L):=by simp[dc,jY]
theorem MP{f:bb}{fi ca:List AV}{args:List AV}{M:AV->Heap->Prop}:qw P (.func f fi ca) args heap M=gB P false f (fi++args++ca) heap M:=(rfl)
theorem LW{f:bb}{fi ca:List AV}{args:List AV}:qh P (.func f fi ca) args heap K=gI P f (fi++args++ca) heap K:=(rfl)
theorem MQ{f:bb}{fi ca:List PV}{args:List AV}{M:AV->Heap->Prop}:qw P (.p (.func f fi ca)) args heap M=gB P false f (fi.map .p++args++ca.map .p) heap M:=(rfl)
theorem MR{f:bb}{fi ca:List PV}{args:List AV}:qh P (.p (.func f fi ca)) args heap K=gI P f (fi.map .p++args++ca.map .p) heap K:=(rfl)
end ops
section
variable{P:a7}
@[simp] theorem aGY{b:Bool}:aJ (.bool b)=.leaf:=(rfl)
@[simp] theorem aIg{k:bk}{n:Int}:aJ (.int k n)=.leaf:=(rfl)
@[simp] theorem aIl{l:List Nat}:aJ (.str l)=.leaf:=(rfl)
@[simp] theorem aIh:aJ .aO=.leaf:=(rfl)
@[simp] theorem aIi{l:List PV}:aJ (.seq l)=.leaf:=(rfl)
@[simp] theorem aIk{u:a6}{fs:List PV}:aJ (.st u fs)=.agg u:=(rfl)
@[simp] theorem aGP{v:PV}:ad (.p v)=aJ v:=(rfl)
@[simp] theorem aGX{u:a6}{fs:List AV}:ad (.st u fs)=.agg u:=(rfl)
@[simp] theorem aGW{b v e o l:Nat}:ad (.sl b v e o l)=.leaf:=(rfl)
@[simp] theorem aFA{u:a6}{fs:List PV}:cj (.st u fs)=fs:=(rfl)
theorem T4{a:List bo}{Q:PV->Prop}{s:St}:yO P a Q .ret s=∃vs,fg P s a=some vs/\∃v,dV s.heap 9 (oneOf vs)=some v/\Q v:=by simp[yO]
theorem RH{a:List bo}{Q:PV->Prop}{s:St}:yO P a Q .normal s=∃vs,fg P s a=some vs/\∃v,dV s.heap 9 (oneOf vs)=some v/\Q v:=by simp[yO]
attribute [simp] T4 RH iN Ll Kb Lm O1 J9 Ln Ka O2 Kc Lo Gt HW IY GR Jp KY Kx Lj J8 Lh J6 I3 I2
 Mg Jn Me KI MT KH F4 LR KE MS MX LU Iu Gv Gu Fx MU LV
 LF ID LC Kl Ou Kk FY LG Kz Ot Oy LI HA Gn Gm Kj Ov LJ MQ MR KF Kh Jl IB GK Gj Jm IC KG Ki Mf LD GL Gk GO He MW Ox MV Ow It Ic Jo IE LS LH MP LW oL jR oO qz lP qe qG qI copyV pW jW gv dj eC eX iQ o7 lG sv gk ib lA Td TQ
 QW Sk Tq QL Ru S4
 aK put iq ev ofConst ba gC gN nv eB ke fx gK ez qC qm sW iS qj pD iR th Di rl qu pO qp qY oU oM oc n9 lenOf gF ia ly bB
 lQ fg oP oneOf dV
end
section
variable{P:a7}{ag:bb->Bool}
def sE:iV->iV->Bool
 | .leaf,.leaf=>true
 | .agg u,.agg v=>e6 u v
 |_,_=>false
theorem ir{a b:iV}(h:sE a b=true):a=b/\b≠.bad:=by
 cases a<;>cases b<;>simp_all [sE]
def kE:AK->AK->Bool
 | .exact,.exact| .grow,.grow| .frozen,.frozen| .bytes,.bytes=>true
 |_,_=>false
def vy:AK->Bool
 | .frozen=>false
 |_=>true
theorem Cg{k:AK}(h:vy k=true):k≠.frozen:=by cases k<;>simp_all [vy]
def nL(k:AK)(a:List AV):Bool:=match k.gr,a with
 |true,[]=>false
 |_,_=>true
theorem uS{k:AK}{a:List AV}(h:nL k a=true):¬(k.gr=true/\a=[]):=by
 rintro⟨b,rfl⟩;simp[nL,b]at h
theorem df{a b:Nat}(h:e6 a b=true):a=b:=Nat.eq_of_beq_eq_true h
theorem cO{a b:Nat}(h:e7 a b=true):a<=b:=Nat.le_of_ble_eq_true h
def Ni:bk->bk->Bool:=fun a b=>decide (a=b)
def uT(P:a7)(l:List Nat):List (Nat×AV)->Bool
 |[]=>true
 |(i,v)::r=>(match l[i]? with
  |some n=>e6 (bB P (ad v)) n&&(match ad v with
   | .bad=>false
   |_=>true)
  |none=>false)&&uT P l r
theorem AE{l:List Nat}:∀{r:List (Nat×AV)},uT P l r=true->ly P l r
 |[],_=>trivial
 |(i,v)::r,h=>by
  simp only[uT,a0]at h;refine⟨?_,AE h.2⟩;have a:=h.1
  split at a
  ·rename_i n c;simp only[a0]at a;refine⟨n,c,df a.1,fun b=>?_⟩;rw[b]at a;simp at a
  ·simp at a
def oV(P:a7)(sz:Nat):List AV->Bool
 |[]=>true
 |v::r=>(match ad v with
  | .bad=>false
  |s=>e6 (bB P s) sz)&&oV P sz r
theorem sC{sz:Nat}:∀{r:List AV},oV P sz r=true->eC P sz r
 |[],_=>trivial
 |v::r,h=>by
  simp only[oV,a0]at h;refine⟨?_,sC h.2⟩;have a:=h.1
  split at a
  ·simp at a
  ·rename_i b;exact⟨b,df a⟩
def C4(P:a7)(T:a6)(H:Heap)(a:AV):Option aR:=
 match a with
 | .ptr b path=>match H[b]? with
  |some (.box fz t)=>match eB t path with
   |some s=>bif sE (kindOf P T) (ad s)then some {v:=s,aj:=[(b,.box fz t)]}else none
   |none=>none
  |_=>none
 | .bR b ar ai i path=>match H[b]? with
  |some (.arr k d c es)=>bif e6 ar d&&e6 ai c then match es[i]? with
   |some x=>match eB x path with
    |some s=>bif sE (kindOf P T) (ad s)then some {v:=s,aj:=[(b,.arr k d c es)]}else none
    |none=>none
   |none=>none
   else none
  |_=>none
 | .p (.bY t)=>bif sE (kindOf P T) (aJ t)then some {v:=.p t}else none
 |_=>none
theorem Va{T:a6}{H:Heap}{a:AV}{e:aR}{K:aR->Prop}(h:C4 P T H a=some e)(hk:K e):nE P T H a K:=by
 unfold C4 at h;unfold nE
 split at h
 ·split at h
  ·split at h
   ·rename_i hs;simp only[aT,fm,fH]at h;rename_i c _ _;obtain⟨b,rfl⟩:=h;simp only[c,hs];exact⟨(ir b).1,hk⟩
   ·simp at h
  ·simp at h
 ·split at h
  ·rename_i c;simp only[aT,fm,a0]at h;obtain⟨⟨b,d⟩,h⟩:=h
   split at h
   ·rename_i hx
    split at h
    ·rename_i hs;simp only[fm,fH]at h;obtain⟨f,rfl⟩:=h;obtain⟨hi,rfl⟩:=cy.1 hx;simp only[c];refine⟨df b,df d,hi,?_⟩;simp only[hs];exact⟨(ir f).1,hk⟩
    ·simp at h
   ·simp at h
  ·simp at h
 ·simp only[aT,fm,fH]at h;obtain⟨b,rfl⟩:=h;exact⟨(ir b).1,hk⟩
 ·simp at h
def B7(P:a7)(T:a6)(H:Heap)(a x:AV):Option aR:=
 bif sE (kindOf P T) (ad x)then match a with
 | .ptr b path=>match H[b]? with
  |some (.box false t)=>match eB t path,fx t path x with
   |some s,some d=>bif sE (ad s) (ad x)then some {v:=.p (.aE []),aj:=[(b,.box false t)],aI:=[(b,.box false d)]}else none
   |_,_=>none
  |_=>none
 | .bR b ar ai i path=>match H[b]? with
  |some (.arr k e c es)=>bif e6 ar e&&(e6 ai c&&vy k)then match es[i]? with
   |some y=>match eB y path,fx y path x with
    |some s,some d=>bif sE (ad s) (ad x)then some {v:=.p (.aE []),aj:=[(b,.arr k e c es)],aI:=[(b,.arr k e c (es.set i d))]}else none
    |_,_=>none
   |none=>none
   else none
  |_=>none
 |_=>none
 else none
theorem Ti{T:a6}{H:Heap}{a x:AV}{e:aR}{K:aR->Prop}(h:B7 P T H a x=some e)(hk:K e):nr P T H a x K:=by
 unfold B7 at h;unfold nr;simp only[aT,fm]at h;obtain⟨f,h⟩:=h;refine⟨(ir f).1,(ir f).2,?_⟩
 split at h
 ·split at h
  ·rename_i c
   split at h
   ·rename_i hs d;simp only[fm,fH]at h;obtain⟨b,rfl⟩:=h;simp only[c,hs,d];exact⟨(ir b).1,hk⟩
   ·simp at h
  ·simp at h
 ·split at h
  ·rename_i c;simp only[fm,a0]at h;obtain⟨⟨b,g,i⟩,h⟩:=h
   split at h
   ·rename_i k
    split at h
    ·rename_i hs d;simp only[fm,fH]at h;obtain⟨j,rfl⟩:=h;obtain⟨hi,rfl⟩:=cy.1 k;simp only[c];refine⟨df b,df g,Cg i,hi,?_⟩;simp only[hs,d];exact⟨(ir j).1,hk⟩
    ·simp at h
   ·simp at h
  ·simp at h
 ·simp at h
def CW(op:be)(k:bk)(a b:Int):Option PV:=
 match op with
 | .add=>some (.int k (k.wrap (a+b)))
 | .sub=>some (.int k (k.wrap (a-b)))
 | .mul=>some (.int k (k.wrap (a*b)))
 | .quo=>match b with
  | .ofNat 0=>none
  |b=>some (.int k (k.wrap (a.tdiv b)))
 | .rem=>match b with
  | .ofNat 0=>none
  |b=>some (.int k (a.tmod b))
 | .and=>some (.int k (k.wrap (ay k.bits a&&&ay k.bits b).toNat))
 | .or=>some (.int k (k.wrap (ay k.bits a|||ay k.bits b).toNat))
 | .xor=>some (.int k (k.wrap (ay k.bits a^^^ay k.bits b).toNat))
 | .andNot=>some (.int k (k.wrap (ay k.bits a&&&~~~ay k.bits b).toNat))
 | .eql=>some (.bool (a==b))
 | .neq=>some (.bool (a !=b))
 | .lss=>some (.bool (decide (a<b)))
 | .leq=>some (.bool (decide (a<=b)))
 | .gtr=>some (.bool (decide (a>b)))
 | .geq=>some (.bool (decide (a>=b)))
 | .shl=>match b with
  | .ofNat _=>some (.int k (k.wrap (a*2^(min b.toNat k.bits))))
  |_=>none
 | .shr=>match b with
  | .ofNat _=>some (.int k (a.fdiv (2^(min b.toNat k.bits))))
  |_=>none
theorem Yc{op:be}{k:bk}{a b:Int}{v:PV}{K:PV->Prop}(h:CW op k a b=some v)(hk:K v):oT op k a b K:=by
 cases op<;>simp only[CW]at h<;>simp only[oT]
 case quo|rem=>
  split at h
  ·simp at h
  ·rename_i d;simp only[fH]at h;subst h;exact⟨fun c=>d (by rw[c];rfl),hk⟩
 case shl|shr=>
  split at h
  ·simp only[fH]at h;subst h;exact⟨cc _,hk⟩
  ·simp at h
 all_goals (simp only[fH]at h;subst h;exact hk)
def CF(P:a7)(op:be)(T:a6)(c:Bool)(H:Heap)(x y:AV):Option PV:=
 match x,y with
 | .p (.int k a),.p (.int d b)=>bif Ni k d||(match op with
  | .shl| .shr=>true
  |_=>false)then CW op k a b else none
 | .p (.str a),.p (.str b)=>match op with
  | .add=>bif e7 (a.length+b.length) 9223372036854775807 then some (.str (a++b))else none
  | .eql=>some (.bool (a==b))
  | .neq=>some (.bool (!(a==b)))
  | .lss=>some (.bool (iJ a b))
  | .leq=>some (.bool (iJ a b||a==b))
  | .gtr=>some (.bool (!(iJ a b||a==b)))
  | .geq=>some (.bool (!(iJ a b)))
  |_=>none
 | .p (.bool a),.p (.bool b)=>bif pZ P T then match op with
  | .eql=>some (.bool (a==b))
  | .neq=>some (.bool (!(a==b)))
  |_=>none
  else none
 | .p (.st u fs),.p (.st u' gs)=>bif qU P T then match gT P 9 T (.st u fs) (.st u' gs),op with
  |some r,.eql=>some (.bool r)
  |some r,.neq=>some (.bool !r)
  |_,_=>none
  else none
 |x,y=>match di P T c y with
  |some k=>match cK H k x,op with
   |some r,.eql=>some (.bool r)
   |some r,.neq=>some (.bool !r)
   |_,_=>none
  |none=>none
theorem Wb{op:be}{T:a6}{c:Bool}{H:Heap}{x y:AV}{v:PV}{K:PV->Prop}(h:CF P op T c H x y=some v)(hk:K v):jM P op T c H x y K:=by
 unfold CF at h;unfold jM
 split at h
 ·simp only[aT,fm,Bool.or_eq_true,Ni,decide_eq_true_eq]at h;refine⟨?_,Yc h.2 hk⟩;rcases h.1 with b|b
  ·exact .inl b
  ·cases op<;>simp at b<;>simp
 ·split at h<;>simp only[oS]
  ·simp only[aT,fm,fH]at h;obtain⟨b,rfl⟩:=h;exact⟨by have:=cO b;omega,hk⟩
  ·simp only[fH]at h;subst h;exact hk
  ·simp only[fH]at h;subst h;exact hk
  ·simp only[fH]at h;subst h;exact hk
  ·simp only[fH]at h;subst h;exact hk
  ·simp only[fH]at h;subst h;exact hk
  ·simp only[fH]at h;subst h;exact hk
  ·simp at h
 ·simp only[aT,fm]at h;refine⟨h.1,?_⟩;have a:=h.2
  split at a
  ·simp only[fH]at a;subst a;exact hk
  ·simp only[fH]at a;subst a;exact hk
  ·simp at a
 ·simp only[aT,fm]at h;refine⟨h.1,?_⟩;have a:=h.2
  split at a
  ·rename_i d;simp only[fH]at a;subst a;simp only[d];exact hk
  ·rename_i d;simp only[fH]at a;subst a;simp only[d];exact hk
  ·simp at a
 ·split at h
  case h_2=>simp at h
  rename_i k f;show jM P op T c H x y _;rw[Ih f];obtain⟨r,e,d⟩:∃r,cK H k x=some r/\((op=.eql/\v=.bool r)\/(op=.neq/\v=.bool !r)):=by
   revert h;generalize cK H k x=q;intro h;cases q with
   |none=>simp at h
   |some r=>cases op<;>simp at h<;>exact⟨r,rfl,by simp[h]⟩
  rw[e];rcases d with⟨rfl,rfl⟩|⟨rfl,rfl⟩<;>exact hk
def Av(P:a7)(T:a6)(a:AV)(f:Nat):Option aR:=
 match fB P T with
 |some (u,n)=>bif e7 (f+1) n then match a with
  | .ptr b path=>some {v:=.ptr b (path++[(u,f)])}
  | .bR b ar ai i path=>some {v:=.bR b ar ai i (path++[(u,f)])}
  | .p (.bY t)=>bif sE (aJ t) (.agg u)then match(cj t)[f]? with
   |some g=>some {v:=.p (.bY g)}
   |none=>none
   else none
  |_=>none
  else none
 |_=>none
theorem QP{T:a6}{a:AV}{f:Nat}{e:aR}{K:aR->Prop}(h:Av P T a f=some e)(hk:K e):mX P T a f K:=by
 unfold Av at h;unfold mX
 split at h
 ·rename_i hs;simp only[aT,fm]at h;obtain⟨b,h⟩:=h;simp only[hs];refine⟨by have:=cO b;omega,?_⟩
  split at h
  ·simp only[fH]at h;subst h;exact hk
  ·simp only[fH]at h;subst h;exact hk
  ·simp only[fm]at h;obtain⟨c,h⟩:=h
   split at h
   ·rename_i d;simp only[fH]at h;subst h;simp only[d];exact⟨(ir c).1,hk⟩
   ·simp at h
  ·simp at h
 ·simp at h
def oE(a:Option Nat)(b:Nat):Bool:=match a with
 |some x=>e6 x b
 |none=>false
theorem u7{a:Option Nat}{b:Nat}(h:oE a b=true):a=some b:=by
 unfold oE at h;split at h
 ·rw[df h]
 ·simp at h
def Ar(P:a7)(T:a6)(H:Heap)(x i:AV):Option aR:=
 match i with
 | .p (.int _ (.ofNat i))=>match x with
  | .p (.bI _ es)=>match es[i]? with
   |some y=>bif oE (cr P T) (bB P (aJ y))then some {v:=.p (.bY y)}else none
   |none=>none
  | .p (.seq es)=>match es[i]? with
   |some y=>bif oE (cr P T) (bB P (aJ y))then some {v:=.p (.bY y)}else none
   |none=>none
  | .sl b ar ai off len=>bif oE (cr P T) ai&&e7 (i+1) len then match H[b]? with
   |some (.arr k c a es)=>bif e6 ar c&&(e6 ai a&&nL k es)then some {v:=.bR b ar ai (off+i) [],aj:=[(b,.arr k c a es)]}else none
   |_=>none
   else none
  | .ptr b path=>match gJ P T with
   |some (u,n)=>bif e7 (i+1) n then some {v:=.ptr b (path++[(u,i)])}else none
   |_=>none
  | .bR b ar ai j path=>match gJ P T with
   |some (u,n)=>bif e7 (i+1) n then some {v:=.bR b ar ai j (path++[(u,i)])}else none
   |_=>none
  | .p (.bY t)=>match gJ P T with
   |some (u,n)=>bif sE (aJ t) (.agg u)&&e7 (i+1) n then match(cj t)[i]? with
    |some g=>some {v:=.p (.bY g)}
    |none=>none
    else none
   |_=>none
  |_=>none
 |_=>none
theorem Q1{T:a6}{H:Heap}{x i:AV}{e:aR}{K:aR->Prop}(h:Ar P T H x i=some e)(hk:K e):mW P T H x i K:=by
 unfold Ar at h;unfold mW
 split at h
 case h_2=>simp at h
 rename_i i;refine⟨cc _,?_⟩;simp only[ce,ck]
 split at h
 ·split at h
  ·rename_i y d;simp only[aT,fm,fH]at h;obtain⟨a,rfl⟩:=h;obtain⟨hi,rfl⟩:=cy.1 d;exact⟨hi,u7 a,hk⟩
  ·simp at h
 ·split at h
  ·rename_i y d;simp only[aT,fm,fH]at h;obtain⟨a,rfl⟩:=h;obtain⟨hi,rfl⟩:=cy.1 d;exact⟨hi,u7 a,hk⟩
  ·simp at h
 ·simp only[aT,fm,a0]at h;obtain⟨⟨a,c⟩,h⟩:=h;refine⟨u7 a,by have:=cO c;omega,?_⟩
  split at h
  ·rename_i k;simp only[fm,fH]at h;obtain⟨⟨f,g,j⟩,rfl⟩:=h;simp only[k];exact⟨df f,df g,uS j,hk⟩
  ·simp at h
 ·split at h
  ·rename_i b;simp only[aT,fm,fH]at h;obtain⟨a,rfl⟩:=h;simp only[b];exact⟨by have:=cO a;omega,hk⟩
  ·simp at h
 ·split at h
  ·rename_i b;simp only[aT,fm,fH]at h;obtain⟨a,rfl⟩:=h;simp only[b];exact⟨by have:=cO a;omega,hk⟩
  ·simp at h
 ·split at h
  ·rename_i b;simp only[aT,fm,a0]at h;obtain⟨⟨a,c⟩,h⟩:=h
   split at h
   ·rename_i l;simp only[fH]at h;subst h;simp only[b,l];exact⟨(ir a).1,by have:=cO c;omega,hk⟩
   ·simp at h
  ·simp at h
 ·simp at h
def BX(P:a7)(T X:a6)(H:Heap)(s x:AV):Option aR:=
 match cr P T,gv H x with
 |some sz,some xs=>bif ie P X&&((cm P (dR P T)).isSome&&oV P sz xs)then
  match s with
  | .p .aO=>match xs with
   |[]=>some {v:=s,aj:=dj H x}
   |y::r=>bif e7 (y::r).length cM then some {v:=.sl H.length 0 sz 0 (y::r).length,aj:=dj H x,aP:=[.arr (gk P T) 0 sz (y::r)]}else none
  | .p (.bI full es)=>bif oV P sz (es.map .p)then match xs with
   |[]=>some {v:=s,aj:=dj H x}
   |y::r=>bif full&&e7 (es.length+(y::r).length) cM then
    some {v:=.sl H.length 0 sz 0 (es.length+(y::r).length),aj:=dj H x,aP:=[.arr (gk P T) 0 sz (es.map .p++(y::r))]}else none
   else none
  | .sl b ar ai off len=>match H[b]? with
   |some (.arr k c a es)=>bif e6 ar c&&(e6 ai a&&(e6 ai sz&&e7 (off+len) es.length))then
    match xs with
    |[]=>some {v:=s,aj:=(b,.arr k c a es)::dj H x}
    |y::r=>bif e7 (es.length+(y::r).length) cM then match k with
     | .frozen=>none
     | .exact=>bif e7 (off+len+(y::r).length) es.length then
      some {v:=.sl b ar ai off (len+(y::r).length),aj:=(b,.arr .exact c a es)::dj H x,aI:=[(b,.arr .exact ar ai (es.take (off+len)++(y::r)++es.drop (off+len+(y::r).length)))]}
      else some {v:=.sl H.length 0 sz 0 (len+(y::r).length),aj:=(b,.arr .exact c a es)::dj H x,aP:=[.arr (gk P T) 0 sz ((es.drop off).take len++(y::r))]}
     | .grow=>bif e6 off 0 then some {v:=.sl b (ar+1) ai 0 (len+(y::r).length),aj:=(b,.arr .grow c a es)::dj H x,aI:=[(b,.arr .grow (ar+1) ai (es.take len++(y::r)))]}else none
     | .bytes=>bif e6 off 0&&e6 (dR P T) Gl.u8 then some {v:=.sl b (ar+1) ai 0 (len+(y::r).length),aj:=(b,.arr .bytes c a es)::dj H x,aI:=[(b,.arr .bytes (ar+1) ai (es.take len++(y::r)))]}else none
     else none
    else none
   |_=>none
  |_=>none
  else none
 |_,_=>none
theorem Qa{T X:a6}{H:Heap}{s x:AV}{e:aR}{K:aR->Prop}(h:BX P T X H s x=some e)(hk:K e):ng P T X H s x K:=by
 unfold BX at h;unfold ng
 split at h
 case h_2=>simp at h
 rename_i sz r n p;simp only[aT,fm,a0]at h;obtain⟨⟨g,j,k⟩,h⟩:=h;simp only[n,p];refine⟨g,j,sC k,?_⟩
 split at h
 ·split at h
  ·simp only[fH]at h;subst h;simpa using hk
  ·simp only[fm,fH]at h;obtain⟨a,rfl⟩:=h;simp only[dp,a1,if_false];exact⟨cO a,hk⟩
 ·simp only[fm]at h;obtain⟨a,h⟩:=h;refine⟨sC a,?_⟩
  split at h
  ·simp only[fH]at h;subst h;simpa using hk
  ·simp only[fm,fH]at h;obtain⟨⟨b,c⟩,rfl⟩:=h;simp only[dp,a1,if_false];exact⟨b,cO c,hk⟩
 ·split at h
  case h_2=>simp at h
  rename_i o;simp only[fm]at h;obtain⟨⟨a,b,c,l⟩,h⟩:=h;simp only[o];refine⟨df a,df b,df c,cO l,?_⟩
  split at h
  ·simp only[fH]at h;subst h;simpa using hk
  ·simp only[fm]at h;obtain⟨m,h⟩:=h;simp only[dp,a1,if_false];refine⟨cO m,?_⟩
   split at h
   ·simp at h
   ·split at h
    ·rename_i f;simp only[fH]at h;subst h;simp only[cO f,if_true];exact hk
    ·rename_i f;simp only[fH]at h;subst h;rw[if_neg (fun q=>f (e8 q))];exact hk
   ·simp only[fm,fH]at h;obtain⟨d,rfl⟩:=h;exact⟨df d,(fun h=>by cases h),hk⟩
   ·simp only[fm,fH]at h;obtain⟨⟨d,i⟩,rfl⟩:=h;exact⟨df d,fun _=>df i,hk⟩
 ·simp at h
end
section
variable{P:a7}{ag:bb->Bool}
def je(x:Option AV)(d:Nat):Option Nat:=
 match x with
 |none=>some d
 |some (.p (.int _ (.ofNat i)))=>some i
 |_=>none
theorem jI{x:Option AV}{d n:Nat}{K:Nat->Prop}(h:je x d=some n)(hk:K n):fX x d K:=by
 unfold je at h;unfold fX
 split at h
 ·simp only[fH]at h;subst h;exact hk
 ·simp only[fH]at h;subst h;exact⟨cc _,hk⟩
 ·simp at h
def B9(P:a7)(T:a6)(H:Heap)(x:AV)(lo hi e:Option AV):Option aR:=
 match e with
 |some _=>none
 |none=>match x with
  | .p (.str s)=>match je hi s.length,je lo 0 with
   |some h,some l=>bif ib P T&&(e7 h s.length&&e7 l h)then some {v:=.p (.str ((s.take h).drop l))}else none
   |_,_=>none
  | .p .aO=>match je hi 0,je lo 0 with
   |some h,some l=>bif (cr P T).isSome&&(e7 h 0&&e7 l h)then some {v:=x}else none
   |_,_=>none
  | .p (.bI full es)=>match je hi es.length,je lo 0,cr P T with
   |some h,some l,some sz=>bif e7 h es.length&&(e7 l h&&oV P sz (es.map .p))then some {v:=.p (.bI (full&&h==es.length) ((es.take h).drop l))}else none
   |_,_,_=>none
  | .p (.seq es)=>match je hi es.length,je lo 0,cr P T with
   |some h,some l,some sz=>bif e7 h es.length&&(e7 l h&&oV P sz (es.map .p))then some {v:=.p (.seq ((es.take h).drop l))}else none
   |_,_,_=>none
  | .sl b ar ai off len=>match H[b]? with
   |some (.arr k c a es)=>match je hi len,je lo 0 with
    |some h,some l=>bif e6 ar c&&(e6 ai a&&(oE (cr P T) ai&&(nL k es&&(e7 (off+len) es.length&&(e7 (off+h) es.length&&e7 l h)))))then
     match l with
     |0=>some {v:=.sl b ar ai off h,aj:=[(b,.arr k c a es)]}
     |d+1=>bif e6 (d+1) h then some {v:=.p (.bI false []),aj:=[(b,.arr k c a es)]}else some {v:=.sl b ar ai (off+(d+1)) (h-(d+1)),aj:=[(b,.arr k c a es)]}
     else none
    |_,_=>none
   |_=>none
  |_=>none
theorem Tm{T:a6}{H:Heap}{x:AV}{lo hi j:Option AV}{e:aR}{K:aR->Prop}(h:B9 P T H x lo hi j=some e)(hk:K e):nt P T H x lo hi j K:=by
 unfold B9 at h;unfold nt
 split at h
 ·simp at h
 refine⟨rfl,?_⟩
 split at h
 ·split at h
  case h_2=>simp at h
  rename_i a b;simp only[aT,fm,a0,fH]at h;obtain⟨⟨c,d,f⟩,rfl⟩:=h;exact⟨c,jI a (jI b ⟨cO d,cO f,hk⟩)⟩
 ·split at h
  case h_2=>simp at h
  rename_i a b;simp only[aT,fm,a0,fH]at h;obtain⟨⟨c,d,f⟩,rfl⟩:=h;exact⟨c,jI a (jI b ⟨cO d,cO f,hk⟩)⟩
 ·split at h
  case h_2=>simp at h
  rename_i a b c;simp only[aT,fm,a0,fH]at h;obtain⟨⟨d,f,g⟩,rfl⟩:=h;refine jI a (jI b ⟨cO d,cO f,?_⟩);simp only[c];exact⟨sC g,hk⟩
 ·split at h
  case h_2=>simp at h
  rename_i a b c;simp only[aT,fm,a0,fH]at h;obtain⟨⟨d,f,g⟩,rfl⟩:=h;refine jI a (jI b ⟨cO d,cO f,?_⟩);simp only[c];exact⟨sC g,hk⟩
 ·split at h
  case h_2=>simp at h
  rename_i n
  split at h
  case h_2=>simp at h
  rename_i a b;simp only[aT,fm,a0]at h;obtain⟨⟨c,d,f,g,k,l,m⟩,h⟩:=h;simp only[n];refine⟨df c,df d,u7 f,uS g,cO k,jI a (jI b ⟨cO l,cO m,?_⟩)⟩
  split at h
  ·simp only[fH]at h;subst h;simpa using hk
  ·rw[if_neg (by omega)]
   split at h
   ·rename_i i;simp only[fH]at h;subst h;rw[if_pos (df i)];exact hk
   ·rename_i i;simp only[fH]at h;subst h;rw[if_neg (fun e=>i (by rw[<-e];exact fl _))];exact hk
 ·simp at h
def Bt(P:a7)(T:a6)(H:Heap)(x:AV)(lo hi:Option AV)(m:AV):Option aR:=
 match x with
 | .sl b ar ai off len=>match H[b]? with
  |some (.arr k c a es)=>match je hi len,je lo 0,je (some m) 0 with
   |some h,some l,some m=>bif e6 ar c&&(e6 ai a&&((cr P T).isSome&&(nL k es&&(e7 (off+len) es.length&&(hi.isSome&&(e7 (off+m) es.length&&(e7 h m&&e7 l h)))))))then
    some {v:=.p .undef,aj:=[(b,.arr k c a es)]}else none
   |_,_,_=>none
  |_=>none
 |_=>none
theorem SY{T:a6}{H:Heap}{x:AV}{lo hi:Option AV}{m:AV}{e:aR}{K:aR->Prop}(h:Bt P T H x lo hi m=some e)(hk:K e):pL P T H x lo hi m K:=by
 unfold Bt at h;unfold pL
 split at h
 case h_2=>simp at h
 split at h
 case h_2=>simp at h
 rename_i d
 split at h
 case h_2=>simp at h
 rename_i a b c;simp only[aT,fm,a0,fH]at h;obtain⟨⟨g1,g2,g3,g4,g5,g6,g7,g8,g9⟩,rfl⟩:=h;simp only[d];exact⟨df g1,df g2,g3,uS g4,cO g5,g6,jI a (jI b (jI c ⟨cO g7,cO g8,cO g9,hk⟩))⟩
def yD(ok:Bool)(z:PV)(r:Option PV):PV:=
 match r with
 |some v=>bif ok then .aE [v,.bool true]else v
 |none=>bif ok then .aE [z,.bool false]else z
def azo(ok:Bool)(z:PV)(r:Option AV):AV:=
 match r with
 |some v=>bif ok then .aE [v,.p (.bool true)]else v
 |none=>.p (bif ok then .aE [z,.bool false]else z)
def Kg(P:a7)(T:a6)(H:Heap)(x i:AV)(ok:Bool):Option aR:=
 match iQ P T,i with
 |some (a,E),.p key=>match cm P E with
  |some z=>bif eX P a key then match x with
   | .p .fa=>some {v:=.p (yD ok z none)}
   | .p (.eE es)=>match fA P a es key with
    |some r=>some {v:=.p (yD ok z r)}
    |none=>none
   | .map b=>match H[b]? with
    |some (.map fz es)=>match fA P a es key with
     |some r=>some {v:=.p (yD ok z r),aj:=[(b,.map fz es)]}
     |none=>none
    |some (.de ks vs)=>bif mP key then match kj P a ks vs key with
     |some r=>some {v:=azo ok z r,aj:=[(b,.de ks vs)]}
     |none=>none
     else none
    |_=>none
   |_=>none
   else none
  |none=>none
 |_,_=>none
def za(P:a7)(c:a6)(b:Nat)(key:PV)(x:AV)(a:Obj):Option aR:=
 match rC a with
 |some (ks,vs)=>bif mP key then match kj P c ks vs key with
  |some none=>some {v:=.p (.aE []),aj:=[(b,a)],aI:=[(b,.de (ks++[key]) (vs++[x]))]}
  |_=>none
  else none
 |none=>none
theorem zJ{P:a7}{a:a6}{b:Nat}{key:PV}{x:AV}{c:Obj}{e:aR}{K:aR->Prop}(h:za P a b key x c=some e)(hk:K e):nX P a b key x c K:=by
 unfold za at h;unfold nX
 split at h
 ·rename_i ks vs f;simp only[aT,fm]at h;obtain⟨d,h⟩:=h
  split at h
  ·rename_i g;simp only[fH]at h;subst h;simp only[f];exact⟨d,g,hk⟩
  ·cases h
 ·cases h
def Kd(P:a7)(T:a6)(H:Heap)(m k x:AV):Option aR:=
 match iQ P T,m,k with
 |some (a,_),.map b,.p key=>bif eX P a key then match H[b]? with
  |some (.map false es)=>match x with
   | .p v=>match lG P a es key with
    |some _=>some {v:=.p (.aE []),aj:=[(b,.map false es)],aI:=[(b,.map false (fW es key v))]}
    |none=>none
   |x=>za P a b key x (.map false es)
  |some (.de ks vs)=>za P a b key x (.de ks vs)
  |_=>none
  else none
 |_,_,_=>none
def Oi(H:Heap)(it:AV):Option aR:=
 match it with
 | .ptr b []=>match H[b]? with
  |some (.dh s pos)=>bif e7 (pos+1) s.length then
   some {v:=.p (.aE [.bool true,.int .i64 pos,.int .i32 (cb (fR s) pos).1]),aj:=[(b,.dh s pos)],aI:=[(b,.dh s (pos+(cb (fR s) pos).2))]}
   else some {v:=.p (.aE [.bool false]),aj:=[(b,.dh s pos)]}
  |_=>none
 |_=>none
def I9(P:a7)(H:Heap)(b:Builtin)(c:Array a6)(args:List AV):Option aR:=
 match b,args with
 | .len,[x]=>match lenOf H x with
  |some (n,aj)=>bif gF P (c.getD 0 0) x&&e7 1 c.size then some {v:=.p (.int .i64 n),aj}else none
  |none=>none
 | .append,[s,x]=>bif e6 c.size 2 then BX P (c.getD 0 0) (c.getD 1 0) H s x else none
 | .min,.p (.int k a)::r=>match lA k false r a with
  |some n=>some {v:=.p (.int k n)}
  |none=>none
 | .max,.p (.int k a)::r=>match lA k true r a with
  |some n=>some {v:=.p (.int k n)}
  |none=>none
 | .copy,[d,x]=>match cr P (c.getD 0 0),d,gv H x with
  |some sz,.sl b ar ai off len,some xs=>bif e6 ai sz&&(oV P sz xs&&e6 c.size 2)then match H[b]? with
   |some (.arr k f e es)=>bif e6 ar f&&(e6 ai e&&(vy k&&(e7 (off+len) es.length&&nL k es)))then
    some {v:=.p (.int .i64 (min xs.length len:Nat)),aj:=(b,.arr k f e es)::dj H x,aI:=[(b,.arr k f e (es.take off++xs.take (min xs.length len)++es.drop (off+min xs.length len)))]}
    else none
   |_=>none
   else none
  |_,_,_=>none
 | .cap,[x]=>match yR H x with
  |some (n,aj)=>bif gF P (c.getD 0 0) x&&e7 1 c.size then some {v:=.p (.int .i64 n),aj}else none
  |none=>none
 | .clear,[x]=>match x with
  | .p .aO=>bif gF P (c.getD 0 0) x&&e7 1 c.size then some {v:=.p (.aE [])}else none
  | .sl b ar ai off len=>match cr P (c.getD 0 0),cm P (dR P (c.getD 0 0)),H[b]? with
   |some sz,some z,some (.arr k f e es)=>bif e6 ar f&&(e6 ai e&&(e6 ai sz&&(e6 (bB P (aJ z)) sz&&(vy k&&(e7 (off+len) es.length&&(nL k es&&(e7 1 c.size&&e7 1 len)))))))then
    some {v:=.p (.aE []),aj:=[(b,.arr k f e es)],aI:=[(b,.arr k f e (es.take off++c6 len (.p z)++es.drop (off+len)))]}else none
   |_,_,_=>none
  |_=>none
 | .unsafeSliceData,[x]=>match x with
  | .p .aO=>some {v:=.p .du}
  | .sl b ar ai off len=>match H[b]? with
   |some (.arr k f e es)=>bif e6 ar f&&e6 ai e then
    bif nL k es then(bif e7 1 len&&e7 (off+len) es.length then some {v:=.bR b ar ai off [],aj:=[(b,.arr k f e es)]}else none)
    else some {v:=.p .du,aj:=[(b,.arr k f e es)]}
    else none
   |_=>none
  |_=>none
 | .unsafeString,[x,.p (.int .i64 (.ofNat n))]=>match x with
  | .p .du=>bif e6 n 0&&e6 c.size 2 then some {v:=.p (.str [])}else none
  | .bR b ar ai i []=>match H[b]? with
   |some (.arr .bytes f e es)=>bif e6 ar f&&(e6 ai e&&(e6 ai 1&&(e6 i 0&&(e7 1 n&&(e7 n es.length&&(e7 n 9223372036854775807&&(e6 c.size 2&&(oE (ptrTo P (c.getD 0 0)) Gl.u8&&e6 (P.cellsOf Gl.u8) 1))))))))then
    match bytesOf (es.take n)with
    |some l=>some {v:=.p (.str l),aj:=[(b,.arr .bytes f e es)],aI:=[(b,.dead)]}
    |none=>none
    else none
   |_=>none
  |_=>none
 |_,_=>none
def zf(P:a7)(ag:bb->Bool)(o:Oper)(ρ:a8->AV)(H:Heap):Option aR:=
 match o.op with
 | .move x| .assign x=>some {v:=ρ x}
 | .pick c a b=>match ρ c with
  | .p (.bool t)=>some {v:=bif t then ρ a else ρ b}
  |_=>none
 | .alloc T=>match cm P T with
  |some z=>bif sE (kindOf P T) (aJ z)&&iS T (aJ z)then some {v:=.ptr H.length [],aP:=[.box false (.p z)]}else none
  |none=>none
 | .box T x=>bif sE (kindOf P T) (ad (ρ x))&&iS T (ad (ρ x))then some {v:=.ptr H.length [],aP:=[.box false (ρ x)]}else none
 | .build T parts=>match kindOf P T,cm P T with
  | .agg u,some z=>match dy P u with
   |some l=>bif sE (aJ z) (.agg u)&&uT P l (parts.toList.map fun(i,x)=>(i,ρ x))then some {v:=gK u (ia ((cj z).map .p) (parts.toList.map fun(i,x)=>(i,ρ x)))}else none
   |none=>none
  |_,_=>none
 | .buildSlice T n parts=>match cr P T,cm P (dR P T)with
  |some sz,some z=>bif e6 (bB P (aJ z)) sz&&(e7 (n*sz) 1000000&&uT P (c6 n sz) (parts.toList.map fun(i,x)=>(i,ρ x)))then
   some {v:=.sl H.length 0 sz 0 n,aP:=[.arr .exact 0 sz (ia (c6 n (.p z)) (parts.toList.map fun(i,x)=>(i,ρ x)))]}else none
  |_,_=>none
 | .load T a=>C4 P T H (ρ a)
 | .store T a x=>B7 P T H (ρ a) (ρ x)
 | .binOp op T x y _=>match CF P op T (lQ y) H (ρ x) (ρ y)with
  |some v=>some {v:=.p v,aj:=dj H (ρ x)}
  |none=>none
 | .unOp op _ x=>match op,ρ x with
  | .not,.p (.bool b)=>some {v:=.p (.bool (!b))}
  | .neg,.p (.int k n)=>some {v:=.p (.int k (k.wrap (0-n)))}
  | .xor,.p (.int k n)=>some {v:=.p (.int k (k.wrap (ay k.bits (if k.signed then -1 else k.max)^^^ay k.bits n).toNat))}
  |_,_=>none
 | .convert S D x=>match P.underlying S,P.underlying D,ρ x with
  |some _,some (.int k),.p (.int _ n)=>some {v:=.p (.int k (k.wrap n))}
  |some _,some .string,.p (.str s)=>some {v:=.p (.str s)}
  |_,_,_=>none
 | .extract t i=>match ρ t with
  | .p (.aE vs)=>match vs[i]? with
   |some v=>some {v:=.p v}
   |none=>none
  | .aE vs=>match vs[i]? with
   |some v=>some {v}
   |none=>none
  |_=>none
 | .fieldAddr T a f=>Av P T (ρ a) f
 | .indexAddr T x i=>Ar P T H (ρ x) (ρ i)
 | .field T x f=>match kindOf P T,P.underlying T,ρ x with
  | .agg u,some (.struct _),.p t=>match(cj t)[f]?,(iY P u)[f]? with
   |some g,some F=>bif sE (aJ t) (.agg u)&&sE (kindOf P F) (aJ g)then some {v:=.p g}else none
   |_,_=>none
  |_,_,_=>none
 | .index T x i=>match ρ x,ρ i with
  | .p (.str s),.p (.int _ (.ofNat i))=>match s[i]? with
   |some c=>bif ib P T then some {v:=.p (.int .u8 c)}else none
   |none=>none
  | .p (.st u es),.p (.int _ (.ofNat i))=>match gJ P T,(iY P u)[i]?,es[i]? with
   |some (u',n),some F,some g=>bif e6 u' u&&(e7 (i+1) n&&sE (kindOf P F) (aJ g))then some {v:=.p g}else none
   |_,_,_=>none
  |_,_=>none
 | .makeFunc (.func f) fi ca=>bif ag f then match fh H (fi.toList.map ρ),fh H (ca.toList.map ρ)with
   |some (a,[],[]),some (b,aj,aI)=>some {v:=.p (.func f a b),aj,aI}
   |_,_=>none
  else match ez (fi.toList.map ρ),ez (ca.toList.map ρ)with
   |some a,some b=>some {v:=.p (.func f a b)}
   |_,_=>some {v:=.func f (fi.toList.map ρ) (ca.toList.map ρ)}
 | .makeSlice T l c=>match cr P T,cm P (dR P T),ρ l,ρ c with
  |some sz,some z,.p (.int .i64 (.ofNat l)),.p (.int .i64 (.ofNat c))=>bif e6 (bB P (aJ z)) sz&&(e6 l c&&e7 l cM)then
   some {v:=.sl H.length 0 sz 0 l,aP:=[.arr .exact 0 sz (c6 l (.p z))]}else none
  |_,_,_,_=>none
 | .slice T x lo hi d=>match d with
  |none=>B9 P T H (ρ x) (lo.map ρ) (hi.map ρ) none
  |some m=>Bt P T H (ρ x) (lo.map ρ) (hi.map ρ) (ρ m)
 | .makeMap _ none=>some {v:=.map H.length,aP:=[.map false []]}
 | .lookup T x i ok=>Kg P T H (ρ x) (ρ i) ok
 | .mapUpdate T m k x| .insert T m k x=>Kd P T H (ρ m) (ρ k) (ρ x)
 | .range T x=>match ρ x with
  | .p (.str s)=>bif ib P T then some {v:=.ptr H.length [],aP:=[.dh s 0]}else none
  |_=>none
 | .next it true=>Oi H (ρ it)
 | .nilCheck x=>match ρ x with
  | .ptr _ _| .bR _ _ _ _ _| .p (.bY _)=>some {v:=ρ x}
  |_=>none
 | .call c=>match c.callee with
  | .builtin b=>I9 P H b c.argTypes (c.args.toList.map ρ)
  |_=>none
 |_=>none
theorem LL{o:Oper}{ρ:a8->AV}{H:Heap}{e:aR}{K:aR->Prop}(h:zf P ag o ρ H=some e)(hk:K e):fc P ag o ρ H K:=by
 unfold zf at h;unfold fc;cases ad:o.op<;>simp only[ad]at h<;>simp only
 case move|assign=>simp only[fH]at h;subst h;exact hk
 case pick c a b=>
  split at h
  ·rename_i t hc;simp only[fH]at h;subst h;simp only[hc];cases t<;>exact hk
  ·simp at h
 case alloc T=>
  split at h
  ·rename_i z G;simp only[aT,fm,fH,a0]at h;obtain⟨⟨d,j⟩,rfl⟩:=h;simp only[G];exact⟨(ir d).1,(ir d).2,j,hk⟩
  ·simp at h
 case box T x=>
  simp only[aT,fm,fH,a0]at h;obtain⟨⟨d,j⟩,rfl⟩:=h;exact⟨(ir d).1,(ir d).2,j,hk⟩
 case build T parts=>
  split at h
  ·rename_i u z ae G
   split at h
   ·rename_i l E;simp only[aT,fm,fH,a0]at h;obtain⟨⟨d,j⟩,rfl⟩:=h;simp only[ae,G,E];exact⟨(ir d).1,AE j,hk⟩
   ·simp at h
  ·simp at h
 case buildSlice T n parts=>
  split at h
  ·rename_i sz z J G;simp only[aT,fm,fH,a0]at h;obtain⟨⟨d,j,q⟩,rfl⟩:=h;simp only[J,G];exact⟨df d,cO j,AE q,hk⟩
  ·simp at h
 case load T a=>exact Va h hk
 case store T a x=>exact Ti h hk
 case binOp op T x y ah=>
  split at h
  ·rename_i v M;simp only[fH]at h;subst h;exact Wb (K:=fun v=>K {v:=.p v,aj:=dj H (ρ x)}) M hk
  ·simp at h
 case unOp op T x=>
  split at h
  all_goals first
   |(rename_i hx;simp only[fH]at h;subst h;simp only[hx];exact hk)
   |simp at h
 case convert S D x=>
  split at h
  ·rename_i d j q;simp only[fH]at h;subst h;simp only[d,j,q];exact hk
  ·rename_i d j q;simp only[fH]at h;subst h;simp only[d,j,q];exact hk
  ·simp at h
 case extract t i=>
  split at h
  ·rename_i U
   split at h
   ·rename_i M;simp only[fH]at h;subst h;simp only[U,M];exact hk
   ·simp at h
  ·rename_i U
   split at h
   ·rename_i M;simp only[fH]at h;subst h;simp only[U,M];exact hk
   ·simp at h
  ·simp at h
 case fieldAddr T a f=>exact QP h hk
 case indexAddr T x i=>exact Q1 h hk
 case field T x f=>
  split at h
  ·rename_i d j q
   split at h
   ·rename_i A w;simp only[aT,fm,fH,a0]at h;obtain⟨⟨B,C⟩,rfl⟩:=h;simp only[d,j,q,A,w];exact⟨(ir B).1,(ir C).1,hk⟩
   ·simp at h
  ·simp at h
 case index T x i=>
  split at h
  ·rename_i d j
   split at h
   ·rename_i c hc;simp only[aT,fm,fH]at h;obtain⟨q,rfl⟩:=h;obtain⟨hi,rfl⟩:=cy.1 hc;simp only[d,j];exact⟨q,cc _,hi,hk⟩
   ·simp at h
  ·rename_i u W am i d j
   split at h
   ·rename_i u' n F g q A w;simp only[aT,fm,fH,a0]at h;obtain⟨⟨g1,g2,g3⟩,rfl⟩:=h;have e:(Int.ofNat i).toNat=i:=rfl;simp only[d,j,e,q,A,w];exact⟨df g1,cc _,cO g2,(ir g3).1,hk⟩
   ·simp at h
  ·simp at h
 case makeFunc fn fi ca=>
  cases fn<;>simp only at h<;>try (simp at h;done)
  rename_i f;simp only;simp only[aT]at h
  split at h
  ·rename_i hf;rw[if_pos hf]
   split at h
   ·rename_i d j;simp only[fH]at h;subst h;simp only[d,j];exact hk
   ·simp at h
  ·rename_i hf;rw[if_neg hf]
   split at h
   ·rename_i d j;simp only[fH]at h;subst h;simp only[d,j];exact hk
   ·rename_i ac;simp only[fH]at h;subst h
    split
    ·rename_i d j;exact(ac _ _ d j).elim
    ·exact hk
 case makeSlice T l c=>
  split at h
  ·rename_i d j q A;simp only[aT,fm,fH,a0]at h;obtain⟨⟨w,B,C⟩,rfl⟩:=h;have e:=df B;simp only[d,j,q,A];refine⟨df w,cc _,by rw[e],?_,hk⟩;have:=cO C;show((_:Nat):Int)<=_
   exact_mod_cast this
  ·simp at h
 case slice T x lo hi af=>
  cases af with
  |none=>exact Tm h hk
  |some m=>exact SY h hk
 case makeMap T r=>
  cases r<;>simp only at h
  ·simp only[fH]at h;subst h;exact hk
  ·simp at h
 case lookup T x i ok=>
  unfold Kg at h
  split at h
  case h_2=>simp at h
  rename_i d j
  split at h
  case h_2=>simp at h
  rename_i z G;simp only[aT,fm]at h;obtain⟨q,h⟩:=h;simp only[d,j,G];refine⟨q,?_⟩
  have N:∀r:Option PV,yD ok z r=match r with
    |some v=>if ok=true then .aE [v,.bool true]else v
    |none=>if ok=true then .aE [z,.bool false]else z:=by
   intro r;cases r<;>cases ok<;>rfl
  split at h
  ·rename_i hx;simp only[fH]at h;subst h;simp only[hx];rw[N]at hk;exact hk
  ·rename_i hx
   split at h
   ·rename_i r L;simp only[fH]at h;subst h;rw[N]at hk;simp only[hx,L];cases r<;>exact hk
   ·simp at h
  ·rename_i hx
   split at h
   ·rename_i s
    split at h
    ·rename_i r L;simp only[fH]at h;subst h;rw[N]at hk;simp only[hx,s,L];cases r<;>exact hk
    ·simp at h
   ·rename_i s;simp only[aT,fm]at h;obtain⟨aa,h⟩:=h
    split at h
    ·rename_i r L;simp only[fH]at h;subst h;simp only[hx,s,L];refine⟨aa,?_⟩;cases r<;>cases ok<;>exact hk
    ·simp at h
   ·simp at h
  ·simp at h
 case mapUpdate T m k x|insert T m k x=>
  unfold Kd at h
  split at h
  case h_2=>simp at h
  rename_i d j q;simp only[aT,fm]at h;obtain⟨w,h⟩:=h;simp only[d,j,q];generalize ρ x=X at*
  split at h
  ·rename_i s;cases X with
   |p v=>
    simp only at h;refine⟨w,?_⟩
    split at h
    ·rename_i E;simp only[fH]at h;subst h;simp only[s,E];exact hk
    ·simp at h
   |_=>
    refine⟨w,?_⟩;simp only[s];exact zJ h hk
  ·rename_i s;cases X with
   |p v=>
    refine⟨w,?_⟩;simp only[s];exact zJ h hk
   |_=>
    refine⟨w,?_⟩;simp only[s];exact zJ h hk
  ·simp at h
 case range T x=>
  split at h
  ·rename_i hx;simp only[aT,fm,fH]at h;obtain⟨d,rfl⟩:=h;simp only[hx];exact⟨d,hk⟩
  ·simp at h
 case next it isStr=>
  cases isStr<;>simp only at h
  ·simp at h
  unfold Oi at h
  split at h
  ·rename_i hx
   split at h
   ·rename_i s;simp only[hx,s];simp only[aT]at h
    split at h
    ·rename_i R;simp only[fH]at h;subst h;rw[if_pos (by have:=cO R;omega)];exact hk
    ·rename_i R;simp only[fH]at h;subst h;rw[if_neg (fun ab=>R (e8 (Nat.succ_le_of_lt ab)))];exact hk
   ·simp at h
  ·simp at h
 case nilCheck x=>
  split at h
  all_goals first
   |(rename_i hx;simp only[fH]at h;subst h;simp only[hx]at hk⊢;exact hk)
   |simp at h
 case call c=>
  split at h
  case h_2=>simp at h
  rename_i b hc;simp only[hc];generalize c.args.toList.map ρ=args at*;generalize c.argTypes=ai at*;unfold I9 at h
  split at h
  ·split at h
   ·rename_i E;simp only[aT,fm,fH,a0]at h;obtain⟨⟨d,j⟩,rfl⟩:=h;simp only[E];exact⟨d,cO j,hk⟩
   ·simp at h
  ·simp only[aT,fm]at h;exact⟨df h.1,Qa h.2 hk⟩
  ·split at h
   ·rename_i Q;simp only[fH]at h;subst h;simp only[Q];exact hk
   ·simp at h
  ·split at h
   ·rename_i Q;simp only[fH]at h;subst h;simp only[Q];exact hk
   ·simp at h
  ·split at h
   ·rename_i J Z;simp only[aT,fm,a0]at h;obtain⟨⟨d,j,q⟩,h⟩:=h;simp only[J,Z];refine⟨df d,sC j,df q,?_⟩
    split at h
    ·rename_i s;simp only[fm,fH]at h;obtain⟨⟨A,w,B,C,I⟩,rfl⟩:=h;simp only[s];exact⟨df A,df w,Cg B,cO C,uS I,hk⟩
    ·simp at h
   ·simp at h
  ·split at h
   ·rename_i E;simp only[aT,fm,fH,a0]at h;obtain⟨⟨d,j⟩,rfl⟩:=h;simp only[E];exact⟨d,cO j,hk⟩
   ·simp at h
  ·split at h
   ·simp only[aT,fm,fH,a0]at h;obtain⟨⟨d,j⟩,rfl⟩:=h;exact⟨d,cO j,hk⟩
   ·split at h
    ·rename_i J G s;simp only[aT,fm,fH,a0]at h;obtain⟨⟨d,j,q,A,w,B,C,I,O⟩,rfl⟩:=h;simp only[J,G,s];exact⟨df d,df j,df q,df A,Cg w,cO B,uS C,cO I,cO O,hk⟩
    ·simp at h
   ·simp at h
  ·split at h
   ·simp only[fH]at h;subst h;exact hk
   ·split at h
    ·rename_i s;simp only[aT,fm,a0]at h;obtain⟨⟨d,j⟩,h⟩:=h;simp only[s];refine⟨df d,df j,?_⟩
     split at h
     ·simp only[fm,fH]at h;obtain⟨⟨A,w⟩,rfl⟩:=h;exact .inr ⟨cO A,cO w,hk⟩
     ·rename_i V;simp only[fH]at h;subst h;rename_i k _ _ W _ _;refine .inl ⟨?_,?_,hk⟩<;>(unfold nL at V;split at V<;>simp_all)
    ·simp at h
   ·simp at h
  ·split at h
   ·simp only[aT,fm,fH,a0]at h;obtain⟨⟨d,j⟩,rfl⟩:=h;exact⟨by rw[df d];rfl,df j,hk⟩
   ·split at h
    ·rename_i s;simp only[aT,fm,a0]at h;obtain⟨⟨d,j,q,A,w,B,C,I,O,Y⟩,h⟩:=h;have ak:=cO w;have al:=cO C;simp only[s];refine⟨df d,df j,df q,df A,by simp;omega,by simpa using cO B,by simp;omega,df I,u7 O,df Y,?_⟩;simp only[ce,ck]
     split at h
     ·rename_i E;simp only[fH]at h;subst h;simp only[E];exact hk
     ·simp at h
    ·simp at h
   ·simp at h
  ·simp at h
 all_goals simp at h
end
end Go.aw
namespace Go.aw
variable[Gl]
section
variable(σ:Nat->Nat)
mutual
def ct:AV->AV
 | .p v=>.p v
 | .ptr b path=>.ptr (σ b) path
 | .bR b ar ai i path=>.bR (σ b) ar ai i path
 | .sl b ar ai off len=>.sl (σ b) ar ai off len
 | .map b=>.map (σ b)
 | .func f fi ca=>.func f (cB fi) (cB ca)
 | .st u fs=>.st u (cB fs)
 | .aE vs=>.aE (cB vs)
def cB:List AV->List AV
 |[]=>[]
 |v::vs=>ct v::cB vs
end
def sK:Env->Env
 |[]=>[]
 |(x,v)::r=>(x,ct σ v)::sK r
def cQ:Obj->Obj
 | .box fz t=>.box fz (ct σ t)
 | .arr k ar ai es=>.arr k ar ai (cB σ es)
 | .de ks vs=>.de ks (cB σ vs)
 | .loop L=>.loop {L with env:=sK σ L.env}
 |o=>o
end
section
variable{σ:Nat->Nat}
theorem Bo:∀(e:Env)(x:Nat),aK (sK σ e) x=ct σ (aK e x)
 |[],_=>rfl
 |(y,v)::r,x=>by
  simp only[sK,aK]
  split
  ·rfl
  ·exact Bo r x
theorem rE:∀l:List AV,(cB σ l).length=l.length
 |[]=>rfl
 |_::r=>by simp[cB,rE r]
theorem Vo{l:List AV}:cB σ l=[]↔l=[]:=by cases l<;>simp[cB]
theorem nu{k:AK}{a:List AV}:cU k (cB σ a)↔cU k a:=by simp[cU,Vo]
theorem KL{v:AV}:(ct σ v).qW↔v.qW:=by cases v<;>simp[ct,AV.qW]
theorem Uo{v:AV}:ad (ct σ v)=ad v:=by cases v<;>rfl
theorem JI:∀{l:List AV},(∀e∈cB σ l,e.qW)↔∀e∈l,e.qW
 |[]=>by simp[cB]
 |v::r=>by simp[cB,KL,JI (l:=r)]
theorem pN{o:Obj}:(cQ σ o).live↔o.live:=by cases o<;>simp[cQ,Obj.live,nu]
theorem KS{o:Obj}{v:Nat}:(cQ σ o).has v↔o.has v:=by cases o<;>simp[cQ,Obj.has]
theorem UO{o:Obj}:cQ σ o=.hole↔o=.hole:=by cases o<;>simp[cQ]
mutual
theorem A4{S:Nat×Nat->Prop}:∀(v:AV),aC S (ct σ v)↔aC (fun x=>S (σ x.1,x.2)) v
 | .p _=>by simp[ct,aC]
 | .ptr _ _| .bR _ _ _ _ _| .sl _ _ _ _ _| .map _=>by simp[ct,aC]
 | .func _ fi ca=>by simp only[ct,aC];rw[rO fi,rO ca]
 | .st _ fs=>by simp only[ct,aC];exact rO fs
 | .aE vs=>by simp only[ct,aC];exact rO vs
theorem rO{S:Nat×Nat->Prop}:∀(l:List AV),aQ S (cB σ l)↔aQ (fun x=>S (σ x.1,x.2)) l
 |[]=>by simp[cB,aQ]
 |v::r=>by simp only[cB,aQ];rw[A4 v,rO r]
end
theorem TJ{S:Nat×Nat->Prop}{o:Obj}:(cQ σ o).refs S↔o.refs (fun x=>S (σ x.1,x.2)):=by
 cases o<;>simp only[cQ,Obj.refs,A4,rO,Bo]
theorem Obj.refs.mono{S T:Nat×Nat->Prop}(h:∀x,S x->T x){o:Obj}(a:o.refs S):o.refs T:=by
 cases o with
 |box fz t=>exact aC.mono h _ a
 |arr k ar ai es=>exact aQ.mono h _ a
 |de ks vs=>exact aQ.mono h _ a
 |loop L=>exact fun x=>aC.mono h _ (a x)
 |_=>trivial
structure dH(σ:Nat->Nat)(dG:Bd)(H0:Heap)(β:Bd)(H:Heap):Prop where
 obj:∀(b:Nat)(o:Obj),H0[b]?=some o->H[σ b]?=some (cQ σ o)
 ak:∀b,b<H0.length->β.ak (σ b)=dG.ak b/\β.cap (σ b)=dG.cap b
section
variable{P:a7}{w:bl}{aa:Nat->Prop}{dG β:Bd}{H0 H:Heap}
theorem dH.box(h:dH σ dG H0 β H){b:Nat}(a:b<H0.length):mj H (σ b)↔mj H0 b:=by
 have c:=h.obj b _ (cx a);have d:=cx a;unfold mj;rw[c,d];cases H0[b]<;>simp[cQ]
theorem dH.it(h:dH σ dG H0 β H){b:Nat}(a:b<H0.length):ml H (σ b)↔ml H0 b:=by
 have c:=h.obj b _ (cx a);have d:=cx a;unfold ml;rw[c,d];cases H0[b]<;>simp[cQ]
theorem dH.map(h:dH σ dG H0 β H){b:Nat}(a:b<H0.length):ny H (σ b)↔ny H0 b:=by
 have h1:=h.obj b _ (cx a);have c:=cx a;unfold ny;rw[h1,c];cases H0[b]<;>simp[cQ,Obj.tI]
theorem dH.loop(h:dH σ dG H0 β H){b:Nat}(a:b<H0.length):gz H (σ b)↔gz H0 b:=by
 have c:=h.obj b _ (cx a);have d:=cx a;unfold gz;rw[c,d];cases H0[b]<;>simp[cQ]
theorem dH.arr(h:dH σ dG H0 β H){b ar ai:Nat}{k:AK}{es:List AV}(a:b<H0.length):et H (σ b) ar ai k es↔∃gf,et H0 b ar ai k gf/\es=cB σ gf:=by
 have c:=h.obj b _ (cx a);have d:=cx a;unfold et;rw[c,d];cases H0[b]<;>simp[cQ];constructor
 ·rintro⟨rfl,rfl,rfl,rfl⟩;exact⟨_,⟨rfl,rfl,rfl,rfl⟩,rfl⟩
 ·rintro⟨_,⟨rfl,rfl,rfl,rfl⟩,rfl⟩;exact⟨rfl,rfl,rfl,rfl⟩
theorem dH.CV(h:dH σ dG H0 β H){x:Nat×Nat}(a:x.1<H0.length):aG H (σ x.1,x.2)↔aG H0 x:=by
 have b:=h.obj x.1 _ (cx a);have c:=cx a;unfold aG;rw[b,c];simp[KS]
def Small(n:Nat):Nat×Nat->Prop:=fun x=>x.1<n
theorem dH.ph(h:dH σ dG H0 β H):∀{a:AV}{v:bi},aC (Small H0.length) a->(bK P β H (ct σ a) v↔bK P dG H0 a v)
 | .p _,_,_| .func _ _ _,_,_| .st _ _,_,_| .aE _,_,_=>by simp[ct,bK]
 | .ptr b path,v,c=>by
  simp only[aC,Small]at c;simp only[ct,bK,h.box c,h.it c,(h.ak b c).1]
 | .bR b ar ai i path,v,c=>by
  simp only[aC,Small]at c;simp only[ct,bK,h.arr c,(h.ak b c).1];constructor
  ·rintro⟨ak,off,o,f,g,j⟩;exact⟨ak,off,o,f,g,fun k d e m=>j k _ ⟨d,e,rfl⟩ (by rwa [nu])⟩
  ·rintro⟨ak,off,o,f,g,j⟩;refine⟨ak,off,o,f,g,?_⟩;rintro k _ ⟨d,e,rfl⟩ m;exact j k d e (by rwa [nu]at m)
 | .sl b ar ai off len,v,c=>by
  simp only[aC,Small]at c;simp only[ct,bK,h.arr c,(h.ak b c).1,(h.ak b c).2];constructor
  ·intro l k d e;have:=l k _ ⟨d,e,rfl⟩;simpa only[rE,nu]using this
  ·rintro l k _ ⟨d,e,rfl⟩;have:=l k d e;simpa only[rE,nu]using this
 | .map b,v,c=>by
  simp only[aC,Small]at c;simp only[ct,bK,h.map c,h.loop c,(h.ak b c).1]
mutual
theorem dH.K9(h:dH σ dG H0 β H):∀(a:AV)(cs:List bi),aC (Small H0.length) a->(bc P w aa β H (ct σ a) cs↔bc P w aa dG H0 a cs)
 | .p _,_,_=>by simp[ct,bc]
 | .aE _,_,_=>by simp[ct,bc]
 | .st u fs,cs,d=>by
  simp only[aC]at d;simp only[ct,bc];exact exists_congr fun l=>exists_congr fun e=>and_congr_right fun _=>and_congr_left fun _=>dH.yG h l fs e d
 | .func f fi ca,cs,d=>by
  simp only[aC]at d;simp only[ct,bc];exact exists_congr fun l=>exists_congr fun e=>and_congr (dH.oZ h fi l d.1) (and_congr_left fun _=>dH.oZ h ca e d.2)
 | .ptr b path,cs,d=>by
  have:=fun v=>h.ph (P:=P) (a:=.ptr b path) (v:=v) d;simp only[ct,bc,bG]at this⊢;simp only[this]
 | .bR b ar ai i path,cs,d=>by
  have:=fun v=>h.ph (P:=P) (a:=.bR b ar ai i path) (v:=v) d;simp only[ct,bc,bG]at this⊢;simp only[this]
 | .sl b ar ai off len,cs,d=>by
  have:=fun v=>h.ph (P:=P) (a:=.sl b ar ai off len) (v:=v) d;simp only[ct,bc,bG]at this⊢;simp only[this]
 | .map b,cs,d=>by
  have:=fun v=>h.ph (P:=P) (a:=.map b) (v:=v) d;simp only[ct,bc,bG]at this⊢;simp only[this]
theorem dH.yG(h:dH σ dG H0 β H):∀(g:List Nat)(l:List AV)(e:List (List bi)),aQ (Small H0.length) l->(bF P w aa β H g (cB σ l) e↔bF P w aa dG H0 g l e)
 |[],[],e,_=>by simp[cB,bF]
 |[],_::_,e,_=>by simp[cB,bF]
 |_::_,[],e,_=>by simp[cB,bF]
 |n::g,v::vs,e,d=>by
  simp only[aQ]at d;simp only[cB,bF];exact exists_congr fun c=>exists_congr fun cs=>and_congr_right fun _=>and_congr (dH.K9 h v c d.1) (and_congr_right fun _=>dH.yG h g vs cs d.2)
theorem dH.Cz(h:dH σ dG H0 β H):∀(a:AV)(v:bi),aC (Small H0.length) a->(au P w aa β H (ct σ a) v↔au P w aa dG H0 a v)
 | .p _,_,_=>by simp[ct,au]
 | .aE vs,_,d=>by
  simp only[aC]at d;simp only[ct,au];exact exists_congr fun l=>and_congr_left fun _=>dH.oZ h vs l d
 | .st u fs,cs,d=>by
  simp only[aC]at d;simp only[ct,au];exact exists_congr fun l=>exists_congr fun e=>and_congr_right fun _=>and_congr_left fun _=>dH.yG h l fs e d
 | .func f fi ca,cs,d=>by
  simp only[aC]at d;simp only[ct,au];exact exists_congr fun l=>exists_congr fun e=>and_congr (dH.oZ h fi l d.1) (and_congr_left fun _=>dH.oZ h ca e d.2)
 | .ptr b path,v,d=>by
  have:=h.ph (P:=P) (a:=.ptr b path) (v:=v) d;simp only[ct,au,bG]at this⊢;simp only[this]
 | .bR b ar ai i path,v,d=>by
  have:=h.ph (P:=P) (a:=.bR b ar ai i path) (v:=v) d;simp only[ct,au,bG]at this⊢;simp only[this]
 | .sl b ar ai off len,v,d=>by
  have:=h.ph (P:=P) (a:=.sl b ar ai off len) (v:=v) d;simp only[ct,au,bG]at this⊢;simp only[this]
 | .map b,v,d=>by
  have:=h.ph (P:=P) (a:=.map b) (v:=v) d;simp only[ct,au,bG]at this⊢;simp only[this]
theorem dH.oZ(h:dH σ dG H0 β H):∀(l:List AV)(vs:List bi),aQ (Small H0.length) l->(br P w aa β H (cB σ l) vs↔br P w aa dG H0 l vs)
 |[],vs,_=>by simp[cB,br]
 |a::l,vs,d=>by
  simp only[aQ]at d;simp only[cB,br];exact exists_congr fun y=>exists_congr fun j=>and_congr_right fun _=>and_congr (dH.Cz h a y d.1) (dH.oZ h l j d.2)
end
theorem dH.Oq(h:dH σ dG H0 β H){ah Prot0:Nat->Prop}{b:Nat}{o:Obj}(f:H0[b]?=some o)(c:o.refs (Small H0.length))(a:o.live->∀fz,b9 aa dG Prot0 fz b↔b9 aa β ah fz (σ b)):
 eK P w aa β H ah (σ b) (cQ σ o)↔eK P w aa dG H0 Prot0 b o:=by
 have g:b<H0.length:=(cy.1 f).1;obtain⟨k1,k2⟩:=h.ak b g;cases o with
 |hole=>simp[cQ,eK]
 |dead=>simp[cQ,eK]
 |box fz t=>
  simp only[cQ,eK,k1,<-a trivial,h.K9 t _ c,KL,Uo]
 |arr k ar ai es=>
  simp only[cQ,eK,k1,k2,nu,rE,JI]
  by_cases e:cU k es
  ·simp[e]
  ·simp only[e,false_or,<-a e,h.yG _ es _ c]
 |map fz es=>
  simp only[cQ,eK,k1,<-a trivial]
 |de ks vs=>
  simp only[cQ,eK,k1,<-a trivial,h.oZ vs _ c]
 |dh s pos=>
  simp only[cQ,eK,k1,<-a trivial]
 |loop L=>
  simp only[cQ,eK,k1,<-a trivial,Bo];exact exists_congr fun t=>exists_congr fun d=>exists_congr fun fn=>and_congr_right fun _=>and_congr_right fun _=>and_congr_left fun _=>forall_congr' fun x=>h.Cz _ _ (c x)
end
end
end Go.aw
namespace Go.aw
variable[Gl]
def sig(bs:List Nat)(a i:Nat):Nat:=match bs[i]? with
 |some b=>b
 |none=>a+(i-bs.length)
theorem se{bs:List Nat}{a i:Nat}(h:i<bs.length):sig bs a i=bs[i]:=by simp[sig,h]
theorem sf{bs:List Nat}{a i:Nat}(h:bs.length<=i):sig bs a i=a+(i-bs.length):=by simp[sig,h]
theorem aAI{bs:List Nat}{a:Nat}(e:bs.Nodup)(d:∀b∈bs,b<a){i j:Nat}(h:sig bs a i=sig bs a j):i=j:=by
 by_cases hi:i<bs.length<;>by_cases c:j<bs.length
 ·rw[se hi,se c]at h;exact(List.getElem_inj e).1 h
 ·rw[se hi,sf (by omega)]at h;have:=d _ (em hi);omega
 ·rw[sf (by omega),se c]at h;have:=d _ (em c);omega
 ·rw[sf (by omega),sf (by omega)]at h;omega
theorem Af:∀{l:List (Nat×Obj)}{H:Heap}{x:Nat},(∀p∈l,p.1≠x)->(ba H l)[x]?=H[x]?
 |[],_,_,_=>rfl
 |(b,o)::r,H,x,h=>by
  simp only[ba];rw[Af (fun p a=>h p (by simp[a])),List.getElem?_set_ne (h (b,o) (by simp))]
theorem AN:∀{l:List (Nat×Obj)}{H:Heap},(l.map (·.1)).Nodup->∀p∈l,p.1<H.length->(ba H l)[p.1]?=some p.2
 |[],_,_,_,h,_=>by simp at h
 |(b,o)::r,H,a,p,c,d=>by
  simp only[dg,dz]at a;simp only[ba];rcases da.1 c with rfl|c
  ·rw[Af (fun q hq e=>a.1 (ew.2 ⟨q,hq,e⟩)),List.getElem?_set_self d]
  ·exact AN a.2 p c (by simpa using d)
theorem AG(a:Nat):∀(l:List Obj),(newAt a l).map (·.1)=List.range' a l.length
 |[]=>rfl
 |o::r=>by simp[newAt,AG (a+1) r,List.range'_succ]
theorem HK:∀(l:List Obj)(a j:Nat)(h:j<l.length),(a+j,l[j])∈newAt a l
 |[],_,_,h=>by simp at h
 |o::r,a,0,h=>by simp[newAt]
 |o::r,a,j+1,h=>by
  have:=HK r (a+1) j (by simpa using h);simp only[newAt,List.getElem_cons_succ,da];right;have e:a+(j+1)=a+1+j:=by omega
  rw[e];exact this
section
variable{P:a7}{w w':bl}{aa aD ah:Nat->Prop}{β aH:Bd}{H H':Heap}
theorem eK.mut{b:Nat}{o:Obj}(h:eK P w aa β H ah b o)(f:o.live)(l:¬aa (β.ak b)):¬ah (β.ak b):=by
 have held:∀{fz},b9 aa β ah fz b->¬ah (β.ak b):=by
  intro fz g;cases fz with
  |true=>exact(l (by simpa[b9]using g)).elim
  |false=>
   have:¬aa (β.ak b)/\¬ah (β.ak b):=by simpa[b9]using g
   exact this.2
 cases o with
 |hole=>exact f.elim
 |dead=>exact f.elim
 |box fz t=>
  obtain⟨cs,T,c,d,a,e⟩:=h;exact held a
 |arr k ar ai es=>
  rcases h with h|⟨cs,T,m,rest,c,d,a,e,n,p,j,q⟩
  ·exact(f h).elim
  ·exact held j
 |map fz es=>
  obtain⟨i,clock,c,d,a⟩:=h;exact held a
 |de ks vs=>
  obtain⟨i,clock,c,d,a,e⟩:=h;exact held e
 |dh s pos=>
  obtain⟨bs,c,d,a⟩:=h;exact held a
 |loop L=>
  obtain⟨tmps,defers,fn,c,d,a,e⟩:=h;exact held e
theorem eK.carry(hi:∀k,aa k->aD k)(hs:∀k,aa k->w'.heap[k]?=w.heap[k]?)(aF:bX β H aH H'){b:Nat}{o:Obj}(l:o.refs (aG H))
 (j:o.live->w'.heap[β.ak b]?=w.heap[β.ak b]?/\aH.ak b=β.ak b/\aH.cap b=β.cap b)(held:o.live->∀fz,b9 aa β ah fz b->b9 aD aH ah fz b)(h:eK P w aa β H ah b o):eK P w' aD aH H' ah b o:=by
 cases o with
 |hole=>trivial
 |dead=>trivial
 |box fz t=>
  obtain⟨cs,T,d,e,f,i⟩:=h;obtain⟨a,c,g⟩:=j trivial;exact⟨cs,T,by rw[c,a];exact d,bc.mono hi hs aF _ _ l e,held trivial _ f,i⟩
 |arr k ar ai es=>
  rcases h with h|⟨cs,T,p,rest,d,e,f,i,q,r,u,v⟩
  ·exact .inl h
  ·by_cases n:cU k es
   ·exact .inl n
   ·obtain⟨a,c,g⟩:=j n;exact .inr ⟨cs,T,p,rest,by rw[c,a];exact d,bF.mono hi hs aF _ _ _ l e,f,by rw[g];exact i,by rw[g];exact q,by rw[g];exact r,held n _ u,v⟩
 |map fz es=>
  obtain⟨m,clock,d,e,f⟩:=h;obtain⟨a,c,g⟩:=j trivial;exact⟨m,clock,by rw[c,a];exact d,cd.mono hi hs _ _ e,held trivial _ f⟩
 |de ks vs=>
  obtain⟨m,clock,d,e,f,i⟩:=h;obtain⟨a,c,g⟩:=j trivial;exact⟨m,clock,by rw[c,a];exact d,bp.mono hi hs _ _ e,br.mono hi hs aF _ _ l f,held trivial _ i⟩
 |dh s pos=>
  obtain⟨bs,d,e,f⟩:=h;obtain⟨a,c,g⟩:=j trivial;exact⟨bs,by rw[c,a];exact d,e,held trivial _ f⟩
 |loop L=>
  obtain⟨tmps,defers,fn,d,e,f,i⟩:=h;obtain⟨a,c,g⟩:=j trivial;exact⟨tmps,defers,fn,by rw[c,a];exact d,e,fun x=>au.mono hi hs aF _ _ (l x) (f x),held trivial _ i⟩
def dm(bs:List Nat)(a:Nat)(H0 bN:Heap)(b:AV):aR:=
 {v:=ct (sig bs a) b,aj:=bs.zip (H0.map (cQ (sig bs a))),aI:=bs.zip ((bN.take H0.length).map (cQ (sig bs a))),aP:=(bN.drop H0.length).map (cQ (sig bs a))}
open Classical in
theorem Hl{H0 bN:Heap}{fj:List AV}{v0:AV}(bs:List Nat)(base:Nat)(hlen:bs.length=H0.length)(hnd:bs.Nodup)(hlt:∀b∈bs,b<base)
 (hl:H0.length<=bN.length)(ha:aQ (aG H0) fj)(ho:∀(b:Nat)(o:Obj),H0[b]?=some o->o.refs (aG H0))
 {H:Heap}{w:bl}{aa ah:Nat->Prop}{β:Bd}{cargs:List bi}(hr:bL P w aa β H ah)(hargs:br P w aa β H (cB (sig bs base) fj) cargs)
 (aj:∀p∈(dm bs base H0 bN v0).aj,H[p.1]?=some p.2)(aP:∀i,i<(dm bs base H0 bN v0).aP.length->H[base+i]?=some .hole):
 ∃(dG:Bd)(Prot0:Nat->Prop),(∀b,dG.ak b=β.ak (sig bs base b))/\bL P w aa dG H0 Prot0/\br P w aa dG H0 fj cargs/\(∀b,b<H0.length->(gz H (sig bs base b)↔gz H0 b))/\
  ∀(cv:bi)(w':bl)(β0':Bd)(aD:Nat->Prop),bO P Prot0 aa w dG H0 aD w' β0' bN->au P w' aD β0' bN v0 cv->aC (aG bN) v0->
   ∃aH,bO P ah aa w β H aD w' aH (ba H ((dm bs base H0 bN v0).aI++newAt base (dm bs base H0 bN v0).aP))/\
    au P w' aD aH (ba H ((dm bs base H0 bN v0).aI++newAt base (dm bs base H0 bN v0).aP)) (dm bs base H0 bN v0).v cv/\
    aC (aG (ba H ((dm bs base H0 bN v0).aI++newAt base (dm bs base H0 bN v0).aP))) (dm bs base H0 bN v0).v:=by
 obtain⟨σ,hσ⟩:∃σ,σ=sig bs base:=⟨_,rfl⟩
 have hinj:∀{i j},σ i=σ j->i=j:=fun{i j} h=>aAI hnd hlt (by rw[hσ]at h;exact h);have hold:∀{i}(hi:i<H0.length),σ i=bs[i]'(by omega):=fun hi=>by rw[hσ];exact se _
 have hnw:∀{i},H0.length<=i->σ i=base+(i-H0.length):=fun hi=>by rw[hσ,sf (by omega),hlen]
 have hget:∀(b:Nat)(o:Obj),H0[b]?=some o->H[σ b]?=some (cQ σ o):=by
  intro b o hb;obtain⟨hbl,rfl⟩:=cy.1 hb;have:=aj (bs[b]'(by omega),cQ (sig bs base) H0[b]) (by
   simp only[dm];rw[db];exact⟨b,by simp;omega,by simp⟩)
  rw[hold hbl,hσ];exact this
 have hnewH:∀i,H0.length<=i->i<bN.length->H[σ i]?=some .hole:=by
  intro i h1 h2;rw[hnw h1];exact aP (i-H0.length) (by simp[dm];omega)
 obtain⟨H2,hH2⟩:∃H2,H2=ba H ((dm bs base H0 bN v0).aI++newAt base (dm bs base H0 bN v0).aP):=⟨_,rfl⟩
 have hkeys:∀p∈(dm bs base H0 bN v0).aI++newAt base (dm bs base H0 bN v0).aP,∃i,i<bN.length/\p.1=σ i:=by
  intro p hp;rcases eo.1 hp with hp|hp
  ·simp only[dm]at hp;have hm:=(dq hp).1;obtain⟨i,hi,he⟩:=db.1 hm;exact⟨i,by omega,by rw[hold (by omega)];exact he.symm⟩
  ·have hm:p.1∈(newAt base (dm bs base H0 bN v0).aP).map (·.1):=ed hp
   rw[AG,ee]at hm;simp only[dm,List.length_map,List.length_drop]at hm;exact⟨H0.length+(p.1-base),by omega,by rw[hnw (by omega)];omega⟩
 have hndk:(((dm bs base H0 bN v0).aI++newAt base (dm bs base H0 bN v0).aP).map (·.1)).Nodup:=by
  rw[eq,AG];have e:(dm bs base H0 bN v0).aI.map (·.1)=bs:=by
   simp only[dm];rw[List.map_fst_zip];simp;omega
  rw[e,List.nodup_append];refine⟨hnd,List.nodup_range',fun a h1 b h2 he=>?_⟩;subst he;have:=hlt _ h1;rw[ee]at h2;omega
 have hA:∀(i:Nat)(o:Obj),bN[i]?=some o->H2[σ i]?=some (cQ σ o):=by
  intro i o hi;obtain⟨hil,rfl⟩:=cy.1 hi
  by_cases hi0:i<H0.length
  ·have hm:(bs[i]'(by omega),cQ (sig bs base) bN[i])∈(dm bs base H0 bN v0).aI++newAt base (dm bs base H0 bN v0).aP:=by
    refine List.mem_append_left _ ?_;simp only[dm];rw[db];exact⟨i,by simp;omega,by simp⟩
   have:=AN (H:=H) hndk _ hm (by
    have:=hget i _ (cx hi0);rw[hold hi0]at this;exact(cy.1 this).1)
   rw[hH2,hold hi0,this,hσ]
  ·have hm:(base+(i-H0.length),cQ (sig bs base) bN[i])∈(dm bs base H0 bN v0).aI++newAt base (dm bs base H0 bN v0).aP:=by
    refine eb _ ?_;have:=HK (dm bs base H0 bN v0).aP base (i-H0.length) (by simp[dm];omega);have e:(dm bs base H0 bN v0).aP[i-H0.length]'(by simp[dm];omega)=cQ (sig bs base) bN[i]:=by
     simp only[dm,List.getElem_map,List.getElem_drop];congr 2;omega
    rw[e]at this;exact this
   have:=AN (H:=H) hndk _ hm (by
    have:=hnewH i (by omega) hil;rw[hnw (by omega)]at this;exact(cy.1 this).1)
   rw[hH2,hnw (by omega),this,hσ]
 have hB:∀x,(∀i,i<bN.length->σ i≠x)->H2[x]?=H[x]?:=by
  intro x hx;rw[hH2];refine Af fun p hp=>?_;obtain⟨i,h1,h2⟩:=hkeys p hp;rw[h2];exact hx i h1
 let dG:Bd:=⟨fun b=>β.ak (σ b),fun b=>β.cap (σ b)⟩
 let Prot0:Nat->Prop:=fun k=>ah k\/∃x o,H[x]?=some o/\o.live/\(∀i,i<H0.length->σ i≠x)/\β.ak x=k
 have hemb:dH σ dG H0 β H:=⟨hget,fun b _=>⟨rfl,rfl⟩⟩
 have small:∀x:Nat×Nat,aG H0 x->Small H0.length x:=fun x⟨o,ho,_⟩=>(cy.1 ho).1;have held0:∀{b:Nat}{o:Obj},H0[b]?=some o->o.live->∀fz,b9 aa dG Prot0 fz b↔b9 aa β ah fz (σ b):=by
  intro b o hb hlv fz;cases fz with
  |true=>simp[b9,dG]
  |false=>
   simp only[b9,a1,if_false];refine and_congr_right fun hni=>⟨fun h hp=>h (.inl hp),fun h hp=>?_⟩
   rcases hp with hp|⟨x,o',h1,h2,h3,h4⟩
   ·exact h hp
   ·exact h3 b (cy.1 hb).1 (hr.inj _ _ _ _ (hget b o hb) h1 (pN.2 hlv) h2 hni h4.symm)
 have hr0:bL P w aa dG H0 Prot0:=by
  refine⟨fun b o hb=>?_,fun b b' o o' h1 h2 l1 l2 hni he=>?_,ho,hr.bM,fun k hk=>?_,hr.gU⟩
  ·exact(hemb.Oq hb ((ho b o hb).mono small) (held0 hb)).1 (hr.cg _ _ (hget b o hb))
  ·exact hinj (hr.inj _ _ _ _ (hget b o h1) (hget b' o' h2) (pN.2 l1) (pN.2 l2) hni he)
  ·rcases hk with hk|⟨x,o,h1,h2,_,rfl⟩
   ·exact hr.dP k hk
   ·exact hr.mh h1 h2
 have hargs0:br P w aa dG H0 fj cargs:=by
  rw[<-hσ]at hargs;exact(hemb.oZ _ _ (aQ.mono small _ ha)).1 hargs
 refine⟨dG,Prot0,fun b=>by rw[<-hσ],hr0,hargs0,fun b hb=>by rw[<-hσ];exact hemb.loop hb,fun cv w' β0' aD hp hv hvr=>?_⟩
 let aH:Bd:=⟨fun x=>if h:∃i,i<bN.length/\σ i=x then β0'.ak h.choose else β.ak x,fun x=>if h:∃i,i<bN.length/\σ i=x then β0'.cap h.choose else β.cap x⟩
 have hβ:∀i,i<bN.length->aH.ak (σ i)=β0'.ak i/\aH.cap (σ i)=β0'.cap i:=by
  intro i hi;have hex:∃j,j<bN.length/\σ j=σ i:=⟨i,hi,rfl⟩
  have hc:hex.choose=i:=hinj hex.choose_spec.2;simp only[aH,dif_pos hex,hc,and_self]
 have hβn:∀x,(∀i,i<bN.length->σ i≠x)->aH.ak x=β.ak x/\aH.cap x=β.cap x:=by
  intro x hx;have hnex:¬∃i,i<bN.length/\σ i=x:=fun⟨i,h1,h2⟩=>hx i h1 h2;simp only[aH,dif_neg hnex,and_self]
 have hemb':dH σ β0' bN aH H2:=⟨hA,fun b hb=>hβ b hb⟩
 have small':∀x:Nat×Nat,aG bN x->Small bN.length x:=fun x⟨o,ho,_⟩=>(cy.1 ho).1;have split:∀x,(∃i,i<bN.length/\σ i=x)\/∀i,i<bN.length->σ i≠x:=by
  intro x
  by_cases hx:∃i,i<bN.length/\σ i=x
  ·exact .inl hx
  ·exact .inr fun i h1 h2=>hx ⟨i,h1,h2⟩
 have inOld:∀{i v},i<bN.length->aG H (σ i,v)->aG H0 (i,v)/\i<H0.length:=by
  intro i v hi ⟨o,h1,h2⟩
  by_cases hi0:i<H0.length
  ·refine⟨?_,hi0⟩;have:=hget i _ (cx hi0);simp only at h1;rw[this]at h1;cases h1;exact⟨_,cx hi0,KS.1 h2⟩
  ·have:=hnewH i (by omega) hi;simp only at h1;rw[this]at h1;cases h1;exact h2.elim
 have gG:bX β H aH H2:=by
  refine⟨?_,?_,?_,?_,?_⟩
  ·intro b hb hlv;rcases split b with⟨i,hi,rfl⟩|hx
   ·obtain⟨k1,k2⟩:=inOld hi hb;obtain⟨g1,g2⟩:=hp.step.box i k1 ((hemb'.box hi).1 hlv);exact⟨(hemb.box k2).2 g1,(hβ i hi).1.trans g2⟩
   ·unfold mj at hlv⊢;rw[hB b hx]at hlv;exact⟨hlv,(hβn b hx).1⟩
  ·intro b hb hlv;rcases split b with⟨i,hi,rfl⟩|hx
   ·obtain⟨k1,k2⟩:=inOld hi hb;obtain⟨g1,g2⟩:=hp.step.it i k1 ((hemb'.it hi).1 hlv);exact⟨(hemb.it k2).2 g1,(hβ i hi).1.trans g2⟩
   ·unfold ml at hlv⊢;rw[hB b hx]at hlv;exact⟨hlv,(hβn b hx).1⟩
  ·intro b hb hlv;rcases split b with⟨i,hi,rfl⟩|hx
   ·obtain⟨k1,k2⟩:=inOld hi hb;obtain⟨g1,g2⟩:=hp.step.map i k1 ((hemb'.map hi).1 hlv);exact⟨(hemb.map k2).2 g1,(hβ i hi).1.trans g2⟩
   ·unfold ny at hlv⊢;rw[hB b hx]at hlv;exact⟨hlv,(hβn b hx).1⟩
  ·intro b ar ai k es hb hlv;rcases split b with⟨i,hi,rfl⟩|hx
   ·obtain⟨k1,k2⟩:=inOld hi hb;obtain⟨gf,g0,rfl⟩:=(hemb'.arr hi).1 hlv;obtain⟨k0,es1,g1,g2,g3,g4⟩:=hp.step.arr i ar ai k gf k1 g0;refine⟨k0,cB σ es1,(hemb.arr k2).2 ⟨_,g1,rfl⟩,by rw[rE,rE];exact g2,by rw[nu,nu];exact g3,fun hn=>?_⟩;rw[nu]at hn;rw[(hβ i hi).1,(hβ i hi).2];exact g4 hn
   ·unfold et at hlv⊢;rw[hB b hx]at hlv;exact⟨k,es,hlv,fb _,Iff.rfl,fun _=>hβn b hx⟩
  ·intro b hb hlv;rcases split b with⟨i,hi,rfl⟩|hx
   ·obtain⟨k1,k2⟩:=inOld hi hb;obtain⟨g1,g2⟩:=hp.step.loop i k1 ((hemb'.loop hi).1 hlv);exact⟨(hemb.loop k2).2 g1,(hβ i hi).1.trans g2⟩
   ·unfold gz at hlv⊢;rw[hB b hx]at hlv;exact⟨hlv,(hβn b hx).1⟩
 have hinn:∀x,aG H x->aG H2 x:=by
  rintro⟨b,v⟩ hb;rcases split b with⟨i,hi,rfl⟩|hx
  ·obtain⟨k1,_⟩:=inOld hi hb;exact(hemb'.CV (x:=(i,v)) hi).2 (hp.eH _ k1)
  ·obtain⟨o,h1,h2⟩:=hb;exact⟨o,by simp only;rw[hB b hx];exact h1,h2⟩
 have prot0:∀{x:Nat}{o:Obj},(∀i,i<bN.length->σ i≠x)->H[x]?=some o->o.live->Prot0 (β.ak x):=by
  intro x o hx h1 h2;exact .inr ⟨x,o,h1,h2,fun i hi=>hx i (by omega),rfl⟩
 have mut':∀{i:Nat}{o:Obj},bN[i]?=some o->o.live->¬aD (β0'.ak i)->¬Prot0 (β0'.ak i):=by
  intro i o h1 h2 h3;exact(hp.rel.cg i o h1).mut h2 h3
 have hrel:bL P w' aD aH H2 ah:=by
  refine⟨fun x o hx=>?_,fun x x' o o' h1 h2 l1 l2 hni he=>?_,fun x o hx=>?_,hp.rel.bM,fun k hk=>hp.rel.dP k (.inl hk),hp.rel.gU⟩
  ·rcases split x with⟨i,hi,rfl⟩|hn
   ·have hg:=hA i _ (cx hi);rw[hg]at hx;cases hx;refine(hemb'.Oq (Prot0:=Prot0) (cx hi) ((hp.rel.refs i _ (cx hi)).mono small') (fun hlv fz=>?_)).2 (hp.rel.cg i _ (cx hi));cases fz with
    |true=>simp[b9,(hβ i hi).1]
    |false=>
     simp only[b9,a1,if_false,(hβ i hi).1];exact⟨fun h=>⟨h.1,fun hp=>h.2 (.inl hp)⟩,fun h=>⟨h.1,mut' (cx hi) hlv h.1⟩⟩
   ·rw[hB x hn]at hx;refine eK.carry hp.bM (fun k hk=>hp.ext.same k (.inr hk)) gG (hr.refs x o hx) (fun hlv=>⟨hp.ext.same _ (.inl (prot0 hn hx hlv)),hβn x hn⟩) (fun hlv fz hh=>?_) (hr.cg x o hx);have hp0:=prot0 hn hx hlv;cases fz with
    |true=>
     simp only[b9,if_true]at hh⊢;rw[(hβn x hn).1];exact hp.bM _ hh
    |false=>
     simp only[b9,a1,if_false]at hh⊢;rw[(hβn x hn).1];exact⟨fun hi=>(hp.fresh _ hi).elim hh.1 (fun h=>h hp0),hh.2⟩
  ·rcases split x with⟨i,hi,rfl⟩|hn<;>rcases split x' with⟨j,hj,rfl⟩|hn'
   ·have g1:=hA i _ (cx hi);have g2:=hA j _ (cx hj);rw[g1]at h1;cases h1;rw[g2]at h2;cases h2;rw[(hβ i hi).1,(hβ j hj).1]at he;rw[(hβ i hi).1]at hni;rw[hp.rel.inj i j _ _ (cx hi) (cx hj) (pN.1 l1) (pN.1 l2) hni he]
   ·have g1:=hA i _ (cx hi);rw[g1]at h1;cases h1;rw[hB x' hn']at h2;rw[(hβ i hi).1,(hβn x' hn').1]at he;rw[(hβ i hi).1]at hni;exact(mut' (cx hi) (pN.1 l1) hni (he▸prot0 hn' h2 l2)).elim
   ·have g2:=hA j _ (cx hj);rw[g2]at h2;cases h2;rw[hB x hn]at h1;rw[(hβ j hj).1,(hβn x hn).1]at he;rw[(hβn x hn).1]at hni;exact(mut' (cx hj) (pN.1 l2) (he▸hni) (he▸prot0 hn h1 l1)).elim
   ·rw[hB x hn]at h1;rw[hB x' hn']at h2;rw[(hβn x hn).1,(hβn x' hn').1]at he;rw[(hβn x hn).1]at hni;exact hr.inj _ _ _ _ h1 h2 l1 l2 (fun hi=>hni (hp.bM _ hi)) he
  ·rcases split x with⟨i,hi,rfl⟩|hn
   ·have hg:=hA i _ (cx hi);rw[hg]at hx;cases hx;rw[TJ];exact(hp.rel.refs i _ (cx hi)).mono (fun y hy=>(hemb'.CV (small' y hy)).2 hy)
   ·rw[hB x hn]at hx;exact(hr.refs x o hx).mono hinn
 refine⟨aH,?_,?_,?_⟩
 ·rw[<-hH2];refine⟨hp.bM,fun k hk=>(hp.fresh k hk).imp id (fun h h'=>h (.inl h')),⟨hp.ext.size,fun k hk=>hp.ext.same k (hk.imp .inl id),hp.ext.io⟩,gG,hrel,hinn,fun b hb=>?_⟩;rcases split b with⟨i,hi,rfl⟩|hx
  ·by_cases hi0:i<H0.length
   ·exact(hemb'.loop hi).2 (hp.loop i ((hemb.loop hi0).1 hb))
   ·obtain⟨L,hL⟩:=hb;rw[hnewH i (by omega) hi]at hL;cases hL
  ·unfold gz at hb⊢;rw[hB b hx];exact hb
 ·rw[<-hH2];show au P w' aD aH H2 (ct (sig bs base) v0) cv;rw[<-hσ];exact(hemb'.Cz _ _ (aC.mono small' _ hvr)).2 hv
 ·rw[<-hH2];show aC (aG H2) (ct (sig bs base) v0);rw[<-hσ,A4];exact aC.mono (fun y hy=>(hemb'.CV (small' y hy)).2 hy) _ hvr
theorem cw.frame{f:bb}{H0 bN:Heap}{fj:List AV}{g:AV}(h:cw P f H0 fj bN g)(bs:List Nat)(a:Nat)(r:bs.length=H0.length)(t:bs.Nodup)(s:∀b∈bs,b<a)
 (q:H0.length<=bN.length)(d:aQ (aG H0) fj)(u:∀(b:Nat)(o:Obj),H0[b]?=some o->o.refs (aG H0)):
 qN P f (cB (sig bs a) fj) a (dm bs a H0 bN g):=by
 refine⟨h.1,fun H w aa ah β m x n _ aj aP=>?_⟩;obtain⟨dG,i,-,y,p,-,back⟩:=Hl bs a r t s q d u x n aj aP;refine(h.2 w aa i dG m y p d).mono ?_;rintro e w' ⟨c,B,aD,rfl,v,z,A⟩;obtain⟨aH,j,k,l⟩:=back c w' B aD v z A;exact⟨c,aH,aD,rfl,j,k,l⟩
theorem fO.frame{b:Nat}{H0 bN:Heap}{fj:List AV}{i:AV}(h:fO P b H0 fj bN i)(bs:List Nat)(a:Nat)(x:bs.length=H0.length)(A:bs.Nodup)(z:∀b∈bs,b<a)
 (v:H0.length<=bN.length)(g:aQ (aG H0) fj)(B:∀(b:Nat)(o:Obj),H0[b]?=some o->o.refs (aG H0)):
 sG P (sig bs a b) (cB (sig bs a) fj) a (dm bs a H0 bN i):=by
 intro H w aa ah β p D r _ aj aP;obtain⟨dG,j,t,E,s,y,back⟩:=Hl bs a x A z v g B D r aj aP;have u:b<H0.length:=by
  obtain⟨L,q⟩:=h.1;exact(cy.1 q).1
 refine⟨(y b u).2 h.1,?_⟩;obtain⟨f,tmps,assign,body,d,e⟩:=h.2 w aa j dG p E s g;rw[t]at d e;refine⟨f,tmps,assign,body,d,fun n I=>?_⟩;obtain⟨c,w',J,aD,g1,C,F,G⟩:=e n I;obtain⟨aH,k,l,m⟩:=back c w' J aD C F G;exact⟨c,w',aH,aD,g1,k,l,m⟩
end
end Go.aw
namespace Go.aw
variable[Gl]
def jU(b:Nat):List Nat->Nat->Option Nat
 |[],_=>none
 |x::r,i=>bif e6 x b then some i else jU b r (i+1)
theorem JK{b:Nat}:∀{l:List Nat}{i j:Nat},jU b l i=some j->i<=j/\l[j-i]?=some b
 |[],_,_,h=>by simp[jU]at h
 |x::r,i,j,h=>by
  simp only[jU]at h;cases a:e6 x b
  ·simp only[a,cond_false]at h;obtain⟨d,c⟩:=JK h;refine⟨by omega,?_⟩;have e:j-i=(j-(i+1))+1:=by omega
   rw[e,List.getElem?_cons_succ];exact c
  ·simp only[a,cond_true,fH]at h;subst h;simp[df a]
section
variable(bs:List Nat)
mutual
def lK:AV->Option AV
 | .p v=>some (.p v)
 | .ptr b path=>match jU b bs 0 with
  |some i=>some (.ptr i path)
  |none=>none
 | .bR b ar ai i path=>match jU b bs 0 with
  |some j=>some (.bR j ar ai i path)
  |none=>none
 | .sl b ar ai off len=>match jU b bs 0 with
  |some j=>some (.sl j ar ai off len)
  |none=>none
 | .map b=>match jU b bs 0 with
  |some j=>some (.map j)
  |none=>none
 | .func f fi ca=>match lF fi,lF ca with
  |some a,some b=>some (.func f a b)
  |_,_=>none
 | .st u fs=>match lF fs with
  |some a=>some (.st u a)
  |none=>none
 | .aE vs=>match lF vs with
  |some a=>some (.aE a)
  |none=>none
def lF:List AV->Option (List AV)
 |[]=>some []
 |v::r=>match lK v,lF r with
  |some a,some b=>some (a::b)
  |_,_=>none
end
def B5:Obj->Option Obj
 | .box fz t=>match lK bs t with
  |some a=>some (.box fz a)
  |none=>none
 | .arr k ar ai es=>match lF bs es with
  |some a=>some (.arr k ar ai a)
  |none=>none
 | .map fz es=>some (.map fz es)
 | .de ks vs=>match lF bs vs with
  |some a=>some (.de ks a)
  |none=>none
 | .dh s n=>some (.dh s n)
 | .dead=>some .dead
 |_=>none
def uP(H:Heap):List Nat->Option Heap
 |[]=>some []
 |b::r=>match H[b]? with
  |some o=>match B5 bs o,uP H r with
   |some a,some t=>some (a::t)
   |_,_=>none
  |none=>none
end
section
variable{bs:List Nat}{base:Nat}
theorem xG{b i:Nat}(h:jU b bs 0=some i):sig bs base i=b:=by
 have:=(JK h).2;simp only[Nat.sub_zero]at this;simp[sig,this]
mutual
theorem IK:∀{a c:AV},lK bs a=some c->ct (sig bs base) c=a
 | .p v,c,h=>by simp only[lK,fH]at h;subst h;rfl
 | .ptr b path,c,h=>by
  simp only[lK]at h
  split at h
  ·rename_i i hi;simp only[fH]at h;subst h;simp only[ct,xG hi]
  ·simp at h
 | .bR b ar ai i path,c,h=>by
  simp only[lK]at h
  split at h
  ·rename_i i hi;simp only[fH]at h;subst h;simp only[ct,xG hi]
  ·simp at h
 | .sl b ar ai off len,c,h=>by
  simp only[lK]at h
  split at h
  ·rename_i i hi;simp only[fH]at h;subst h;simp only[ct,xG hi]
  ·simp at h
 | .map b,c,h=>by
  simp only[lK]at h
  split at h
  ·rename_i i hi;simp only[fH]at h;subst h;simp only[ct,xG hi]
  ·simp at h
 | .func f fi ca,c,h=>by
  simp only[lK]at h
  split at h
  ·rename_i a b d g;simp only[fH]at h;subst h;simp only[ct,om d,om g]
  ·simp at h
 | .st u fs,c,h=>by
  simp only[lK]at h
  split at h
  ·rename_i a d;simp only[fH]at h;subst h;simp only[ct,om d]
  ·simp at h
 | .aE vs,c,h=>by
  simp only[lK]at h
  split at h
  ·rename_i a d;simp only[fH]at h;subst h;simp only[ct,om d]
  ·simp at h
theorem om:∀{l e:List AV},lF bs l=some e->cB (sig bs base) e=l
 |[],e,h=>by simp only[lF,fH]at h;subst h;rfl
 |v::r,e,h=>by
  simp only[lF]at h
  split at h
  ·rename_i a b d g;simp only[fH]at h;subst h;simp only[cB,IK d,om g]
  ·simp at h
end
theorem Te{o c:Obj}(h:B5 bs o=some c):cQ (sig bs base) c=o:=by
 cases o<;>simp only[B5]at h
 case box fz t=>
  split at h
  ·rename_i a b;simp only[fH]at h;subst h;simp only[cQ,IK b]
  ·simp at h
 case arr k ar ai es=>
  split at h
  ·rename_i a b;simp only[fH]at h;subst h;simp only[cQ,om b]
  ·simp at h
 case de ks vs=>
  split at h
  ·rename_i a b;simp only[fH]at h;subst h;simp only[cQ,om b]
  ·simp at h
 case hole=>simp at h
 case loop=>simp at h
 all_goals (simp only[fH]at h;subst h;rfl)
theorem Ho{H:Heap}:∀{l:List Nat}{H0:Heap},uP bs H l=some H0->H0.length=l.length/\∀p∈l.zip (H0.map (cQ (sig bs base))),H[p.1]?=some p.2
 |[],H0,h=>by simp only[uP,fH]at h;subst h;simp
 |b::r,H0,h=>by
  simp only[uP]at h
  split at h
  case h_2=>simp at h
  rename_i o f
  split at h
  case h_2=>simp at h
  rename_i a t d e;simp only[fH]at h;subst h;obtain⟨i1,i2⟩:=Ho e;refine⟨by simp[i1],fun p c=>?_⟩;simp only[dg,List.zip_cons_cons,da]at c;rcases c with rfl|c
  ·simp only[Te d];exact f
  ·exact i2 p c
end
mutual
def Nh:AV->List Nat->List Nat
 | .p _,acc=>acc
 | .ptr b _,acc| .bR b _ _ _ _,acc| .sl b _ _ _ _,acc| .map b,acc=>b::acc
 | .func _ fi ca,acc=>tg fi (tg ca acc)
 | .st _ fs,acc| .aE fs,acc=>tg fs acc
def tg:List AV->List Nat->List Nat
 |[],acc=>acc
 |v::r,acc=>Nh v (tg r acc)
end
def X7:Obj->List Nat
 | .box _ t=>Nh t []
 | .arr _ _ _ es=>tg es []
 |_=>[]
def Ci(H:Heap):Nat->List Nat->List Nat->List Nat
 |0,_,acc=>acc
 |_,[],acc=>acc
 |n+1,b::r,acc=>match jU b acc 0 with
  |some _=>Ci H n r acc
  |none=>Ci H n (match H[b]? with
   |some o=>X7 o++r
   |none=>r) (b::acc)
def nodupB:List Nat->Bool
 |[]=>true
 |x::r=>(match jU x r 0 with
  |some _=>false
  |none=>true)&&nodupB r
theorem Hz{b:Nat}:∀{l:List Nat}{i:Nat},jU b l i=none->b∉l
 |[],_,_=>by simp
 |x::r,i,h=>by
  simp only[jU]at h;cases a:e6 x b
  ·simp only[a,cond_false]at h;have:=Hz h;simp only[da,not_or];refine⟨fun e=>?_,this⟩;subst e;rw[fl]at a;cases a
  ·simp[a]at h
theorem HH:∀{l:List Nat},nodupB l=true->l.Nodup
 |[],_=>List.nodup_nil
 |x::r,h=>by
  simp only[nodupB,a0]at h;rw[dz];refine⟨?_,HH h.2⟩;have a:=h.1
  split at a
  ·simp at a
  ·rename_i b;exact Hz b
def y9(H:Heap)(b v:Nat):Bool:=match H[b]? with
 |some .hole|none=>false
 |some (.arr _ ar _ _)=>e7 v ar
 |some _=>true
theorem X9{H:Heap}{b v:Nat}(h:y9 H b v=true):aG H (b,v):=by
 unfold y9 at h
 split at h
 ·simp at h
 ·simp at h
 ·rename_i k ar ai c a;exact⟨_,a,cO h⟩
 ·rename_i o d e a;refine⟨o,a,?_⟩;cases o with
  |hole=>exact(d rfl).elim
  |arr k ar ai c=>exact(e _ _ _ _ rfl).elim
  |_=>trivial
mutual
def qB(H:Heap):AV->Bool
 | .p _=>true
 | .ptr b _| .map b=>y9 H b 0
 | .bR b ar _ _ _| .sl b ar _ _ _=>y9 H b ar
 | .func _ fi ca=>mu H fi&&mu H ca
 | .st _ fs| .aE fs=>mu H fs
def mu(H:Heap):List AV->Bool
 |[]=>true
 |v::r=>qB H v&&mu H r
end
mutual
theorem A5{H:Heap}:∀{a:AV},qB H a=true->aC (aG H) a
 | .p _,_=>by simp[aC]
 | .ptr _ _,h| .map _,h| .bR _ _ _ _ _,h| .sl _ _ _ _ _,h=>by
  simp only[qB]at h;simp only[aC];exact X9 h
 | .func _ fi ca,h=>by
  simp only[qB,a0]at h;simp only[aC];exact⟨ot h.1,ot h.2⟩
 | .st _ _,h| .aE _,h=>by
  simp only[qB]at h;simp only[aC];exact ot h
theorem ot{H:Heap}:∀{l:List AV},mu H l=true->aQ (aG H) l
 |[],_=>by simp[aQ]
 |v::r,h=>by
  simp only[mu,a0]at h;simp only[aQ];exact⟨A5 h.1,ot h.2⟩
end
def ya(H:Heap):Obj->Bool
 | .box _ t=>qB H t
 | .arr _ _ _ es=>mu H es
 | .de _ vs=>mu H vs
 | .loop _=>false
 |_=>true
theorem HC{H:Heap}{o:Obj}(h:ya H o=true):o.refs (aG H):=by
 cases o<;>simp only[ya]at h<;>simp only[Obj.refs]
 ·exact A5 h
 ·exact ot h
 ·exact ot h
 ·simp at h
def qq(p:Obj->Bool):List Obj->Bool
 |[]=>true
 |o::r=>p o&&qq p r
theorem uI{p:Obj->Bool}:∀{l:List Obj},qq p l=true->∀o∈l,p o=true
 |[],_,o,h=>by simp at h
 |a::r,h,o,b=>by
  simp only[qq,a0]at h;rcases da.1 b with rfl|b
  ·exact h.1
  ·exact uI h.2 o b
def xU(n:Nat):List Nat->Bool
 |[]=>true
 |x::r=>e7 (x+1) n&&xU n r
theorem BZ{n:Nat}:∀{l:List Nat},xU n l=true->∀x∈l,x<n
 |[],_,o,h=>by simp at h
 |a::r,h,o,b=>by
  simp only[xU,a0]at h;rcases da.1 b with rfl|b
  ·exact cO h.1
  ·exact BZ h.2 o b
def xQ:Obj->Bool
 | .hole=>false
 |_=>true
def u3(run:List AV->Heap->Option (AV×Heap))(args:List AV)(H:Heap):Option aR:=
 let bs:=Ci H 1000 (tg args []) []
 match lF bs args,uP bs H bs with
 |some fj,some H0=>bif nodupB bs&&(xU H.length bs&&(mu H0 fj&&qq (ya H0) H0))then
  match run fj H0 with
  |some (v0,H1)=>bif e7 H0.length H1.length&&(qq xQ (H1.take H0.length))then some (dm bs H.length H0 H1 v0)else none
  |none=>none
  else none
 |_,_=>none
theorem AW{P:a7}{f:bb}{run:List AV->Heap->Option (AV×Heap)}(n:∀args H v H',run args H=some (v,H')->cw P f H args H' v){args:List AV}{H:Heap}{e:aR}(h:u3 run args H=some e):
 qN P f args H.length e/\oW H e:=by
 unfold u3 at h;dsimp only at h
 split at h
 case h_2=>simp at h
 rename_i fj H0 g i;simp only[aT,fm,a0]at h;obtain⟨⟨g1,g2,g3,g4⟩,h⟩:=h
 split at h
 case h_2=>simp at h
 rename_i q H1 j;simp only[fm,fH]at h;obtain⟨⟨g5,g7⟩,rfl⟩:=h;obtain⟨k1,k2⟩:=Ho (base:=H.length) i;have hf:=(n _ _ _ _ j).frame _ H.length k1.symm (HH g1) (BZ g2) (cO g5) (ot g3) (fun b o k=>HC (uI g4 o (dl k)));rw[om g]at hf;refine⟨hf,k2,fun p d=>?_⟩;simp only[dm]at d;have c:=dq d;refine⟨BZ g2 _ c.1,fun l=>?_⟩;obtain⟨o,m,a⟩:=ew.1 c.2;rw[l]at a;have:=uI g7 o m;rw[UO.1 a]at this;simp[xQ]at this
mutual
theorem x9:∀v:AV,ct (fun i=>i) v=v
 | .p _| .sl .. | .bR .. | .ptr .. | .map _=>rfl
 | .st u vs=>by simp only[ct,pR vs]
 | .aE vs=>by simp only[ct,pR vs]
 | .func f a b=>by simp only[ct,pR a,pR b]
theorem pR:∀l:List AV,cB (fun i=>i) l=l
 |[]=>rfl
 |v::l=>by simp only[cB,x9 v,pR l]
end
theorem HZ:∀e:Env,sK (fun i=>i) e=e
 |[]=>rfl
 |(x,v)::r=>by simp only[sK,x9 v,HZ r]
theorem aAr(o:Obj):cQ (fun i=>i) o=o:=by
 cases o<;>simp only[cQ,x9,pR,HZ]
theorem Ld(n:Nat):sig (c9 n) n=fun i=>i:=by
 funext i
 by_cases h:i<n
 ·rw[se (by simpa using h)];simp
 ·rw[sf (by simpa using h)];simp;omega
def vu(H:Heap):List (Nat×Obj):=(c9 H.length).zip H
theorem X8{H:Heap}{p:Nat×Obj}(h:p∈vu H):H[p.1]?=some p.2:=by
 rw[vu,db]at h;obtain⟨i,hi,a⟩:=h;rw[List.getElem_zip]at a;subst a;simp
def yZ(H:Heap):Env->Bool
 |[]=>true
 |(_,v)::r=>qB H v&&yZ H r
theorem KC{H:Heap}:∀{e:Env},yZ H e=true->∀x,aC (aG H) (aK e x)
 |[],_,x=>by simp[aK,aC]
 |(y,v)::r,h,x=>by
  simp only[yZ,a0]at h;simp only[aK]
  split
  ·exact A5 h.1
  ·exact KC h.2 x
def LK(H:Heap):Obj->Bool
 | .loop L=>yZ H L.env
 |o=>ya H o
theorem TK{H:Heap}{o:Obj}(h:LK H o=true):o.refs (aG H):=by
 cases o<;>first
  |exact HC h
  |exact KC h
def BH(run:Nat->Heap->List AV->Option (Heap×AV))(b:Nat)(args:List AV)(H:Heap):Option aR:=
 bif mu H args&&qq (LK H) H then
  match run b H args with
  |some (H1,v)=>bif e7 H.length H1.length&&(qq xQ (H1.take H.length))then some {v,aj:=vu H,aI:=(c9 H.length).zip (H1.take H.length),aP:=H1.drop H.length}else none
  |none=>none
 else none
theorem SM{P:a7}{run:Nat->Heap->List AV->Option (Heap×AV)}(k:∀b H args H' v,run b H args=some (H',v)->fO P b H args H' v){b:Nat}{args:List AV}{H:Heap}{e:aR}(h:BH run b args H=some e):
 sG P b args H.length e/\oW H e:=by
 unfold BH at h;simp only[aT,fm,a0]at h;obtain⟨⟨g3,g4⟩,h⟩:=h
 split at h
 case h_2=>simp at h
 rename_i H1 f g;simp only[fm,fH]at h;obtain⟨⟨g5,g7⟩,rfl⟩:=h;have hf:=(k _ _ _ _ _ g).frame (c9 H.length) H.length (by simp) ej (fun b a=>by simpa using a) (cO g5) (ot g3) (fun b o a=>TK (uI g4 o (dl a)));have e:dm (c9 H.length) H.length H H1 f={v:=f,aj:=vu H,aI:=(c9 H.length).zip (H1.take H.length),aP:=H1.drop H.length}:=by
  simp only[dm,Ld,x9];rw[show(cQ fun i=>i)=id from funext aAr,ec,ec,ec,vu]
 rw[e,Ld,pR]at hf;refine⟨hf,fun p c=>X8 c,fun p c=>?_⟩;have d:=dq c;refine⟨by simpa using d.1,fun j=>?_⟩;have:=uI g7 p.2 d.2;rw[j]at this;simp[xQ]at this
end Go.aw
