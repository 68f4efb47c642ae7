import Derived.Test.YtgpphcmkjhklgaaGreatDoorThC
/- Parts of a proof. -/
set_option linter.unusedSimpArgs false
set_option linter.unusedVariables false
set_option linter.unusedSectionVars false
open Array renaming getElem?_eq_some_iff->an, getElem?_eq_getElem->ao, replicate->ap, getD_eq_getD_getElem?->av
open BitVec renaming ofInt->ax
open Bool renaming cond_eq_ite->ay, and_eq_true->aT, false_eq_true->a0
open Go renaming TypeId->a1, Program->a6, Operand->a7, FuncId->a8, BinOp->bb, Value->be, IntKind->bi, World->bk, ResultVar->bl, mem_ready->bo, getD_set_ne->bv, Frame->b0
open Go.Region renaming ready->b1, schedule->b2, binds->b3
open Go.Region.linearise renaming go->b4
open Go.Utf8 renaming decode->b5
open Int renaming natCast_nonneg->cb, ofNat_eq_natCast->cc, toNat_natCast->ce
open List renaming getElem?_eq_getElem->ck, getElem?_eq_some_iff->cx, replicate->cy, range->c6, mem_cons->c9, mem_iff_getElem->da, map_cons->db, all_eq_true->dg, mem_of_getElem?->dk, isEmpty_cons->dl, of_mem_zip->dp, nodup_cons->dq, map_nil->dz, mem_append_right->ea, map_id->eb, mem_map_of_mem->ec, mem_range'_1->ed, countP_congr->ee, nodup_range->ei, getElem_mem->ej, countP_cons->em, mem_append->en, map_append->eo, mem_map->eq
open Nat renaming beq->ew, ble->e6, ble_eq_true_of_le->e7, zero_le->e8, le_refl->e9, strongRecOn->fa, beq_refl->fb
open Option renaming ite_none_right_eq_some->fd, getD_some->fl
open Option.some renaming injEq->fm
namespace Go.ag
set_option linter.unusedSectionVars false
variable[Gl]
section
variable{P:a6}{ah:a8->Bool}{n:Nat}
variable{ops:Array Oper}{es:List (St×aY)}{s':St}
theorem cN.congr{ai ad:Nat->Prop}{β:Bd}{s u:St}{t:Array be}{w:bk}(h:cN P n ai ad β s t w)(b:∀x,aN u.env x=aN s.env x)(a:u.heap=s.heap):cN P n ai ad β u t w:=by
 refine⟨by rw[a];exact h.heap,fun x=>?_,fun x=>?_,h.size⟩
 ·rw[b,a];exact h.env x
 ·rw[b,a];exact h.gC x
theorem cN.nw{ai ad:Nat->Prop}{β:Bd}{s:St}{t:Array be}{w:bk}(m:Nat)(h:cN P n ai ad β s t w):cN P n ai ad β ⟨s.env,s.heap++cy m .hole⟩ t w:=
 ⟨h.heap.nw m,fun x=>az.mono (fun _ x=>x) (fun _ _=>rfl) (pP β s.heap m) _ _ (h.gC x) (h.env x),fun x=>aD.mono (mR _ _) _ (h.gC x),h.size⟩
theorem XH{o:Oper}{e e':Env}(h:∀x∈looks ops o,aN e' x=aN e x):∀x∈o.op.operands,ev e' x=ev e x:=by
 intro x hx;cases x with
 |tmp t=>
  simp only[ev];refine h t ?_;simp only[looks,en,List.mem_filterMap];exact .inl ⟨.tmp t,by simpa using hx,rfl⟩
 |_=>rfl
theorem iV.run(h:iV P n ops es s'){D:Nat->Prop}(hc:xP ops D){i:Nat}{o:Oper}(a:ops[i]?=some o)(x:¬D i)(z:∀e∈o.after,b3 .any e=true->D e.on){s:St}(m:At ops es s' D s)
 {fr:b0}{k:List Item}{cs:List b0}{r:List Nat}{ds:List Deferred}{ai ad:Nat->Prop}{β:Bd}{t:Array be}{w:bk}(b:cN P n ai ad β s t w):
 ∃u aF aI d w',Steps P (lone (bE fr t ds (.inRegion ops (i::r)::k)) cs w) (lone (bE fr d ds (.inRegion ops r::k)) cs w')/\cN P n ai aF aI u d w'/\(∀N,dP N ai ad w β s.heap ai aF w' aI u.heap)/\At ops es s' (fun j=>D j\/j=i) u:=by
 obtain⟨g,A⟩:=h.reads hc a x z m;have hi:i<ops.size:=(an.1 a).1;obtain⟨v,_⟩:=h.at_ i o a;have c:=h.next hc a x z m;have q:iU n o=true:=h.dst o (by rw[Array.mem_toList_iff];exact Array.mem_of_getElem? a);have H:=h.yx (k:=i) (by omega);rcases v.act with⟨f,C⟩|⟨f,E⟩
 ·obtain⟨aF,aI,d,w',B,a2,a3⟩:=C fr k cs ops i r ds ai ad β s t w a (f t s ai ad β w b g) q b (XH g) (by
   intro p y;rw[A p.1 (.inl (ec y))];have:=v.ak p y;unfold hx;rw[List.getElem?_append_left (cx.1 this).1];exact this) (by
   intro j G;have F:(de es s' i).heap.length+j∈wr es s' i:=by
    unfold wr vw;rw[eo,ub];exact ea _ (I6.2 ⟨by omega,by omega⟩)
   rw[A _ (.inr F)];have l:=h.yx (k:=i+1) (by omega);rw[(h.at_ i o a).2]at l;simp only[aY.app,List.length_append,pN]at l;unfold hx;rw[kf,if_neg (by omega),if_pos (by omega)])
  exact⟨_,aF,aI,d,w',B,a2,a3,c⟩
 ·rw[E]at c;simp only[newAt,List.append_nil,bf]at c;exact⟨_,ad,β,_,w,.one (Kw a (f t s ai ad β w b g)),b.put q (bY.refl b.heap) (by simp[az,aC,bw,undef]) (by simp[aD]),fun _=>dP.refl _ _ _ _ _ _,c⟩
def isDone(a:Array Bool)(i:Nat):Prop:=a.getD i false=true
theorem JJ{p:Nat->Bool}{i:Nat}:∀{l:List Nat},l.Nodup->i∈l->p i=true->l.countP p=l.countP (fun x=>p x&&x !=i)+1
 |[],_,h,_=>by simp at h
 |a::l,c,h,d=>by
  rw[dq]at c
  by_cases b:a=i
  ·subst b;have e:l.countP (fun x=>p x&&x !=a)=l.countP p:=by
    refine ee fun x hx=>?_;have:x≠a:=fun e=>c.1 (e▸hx);simp[this]
   simp[d,e]
  ·have f:i∈l:=by
    rcases c9.1 h with h|h
    ·exact(b h.symm).elim
    ·exact h
   have g:=JJ c.2 f d;rw[em,em,g];have:(a !=i)=true:=by simpa using b
   simp only[this,Bool.and_true];omega
def left(b:Array Oper)(a:Array Bool):Nat:=(c6 b.size).countP fun i=>!a.getD i true
theorem iV.goes(h:iV P n ops es s'){fr:b0}{k:List Item}{cs:List b0}{ds:List Deferred}{ai:Nat->Prop}:∀(c b:Nat)(a:Array Bool)(s:St)(ad:Nat->Prop)(β:Bd)(t:Array be)(w:bk),a.size=ops.size->left ops a<=c->xP ops (isDone a)->
 At ops es s' (isDone a) s->cN P n ai ad β s t w->
 ∃u D aF aI R w',Steps P (lone (bE fr t ds (.inRegion ops (b4 .any ops c b a [])::k)) cs w) (lone (bE fr R ds (.inRegion ops []::k)) cs w')/\cN P n ai aF aI u R w'/\(∀N,dP N ai ad w β s.heap ai aF w' aI u.heap)/\At ops es s' D u/\∀j,j<ops.size->D j:=by
 have L:∀(a:Array Bool),a.size=ops.size->b1 .any ops a=[]->∀j,j<ops.size->isDone a j:=by
  intro a q f j
  induction j using fa with
  |_ j K=>
   intro d
   by_cases A:isDone a j
   ·exact A
   ·exfalso;have G:j<a.size:=by omega
    have:j∈b1 .any ops a:=by
     rw[bo];refine⟨?_,ops[j],ao d,fun e B z=>?_⟩
     ·unfold isDone at A;simp only[av,ao G,fl]at A⊢;simpa using A
     ·have H:=h.lower j _ (ao d) e B z;exact K e.on H (by omega)
    rw[f]at this;simp at this
 intro c
 induction c with
 |zero=>
  intro b a s ad β t w q O hc y C;have f:b1 .any ops a=[]:=by
   rw[List.eq_nil_iff_forall_not_mem];intro j d;rw[bo]at d;obtain⟨g,o,m,_⟩:=d;have G:j<ops.size:=(an.1 m).1;have:0<left ops a:=by
    unfold left;rw[List.countP_pos_iff];exact⟨j,by simpa using G,by rw[g];rfl⟩
   omega
  exact⟨s,isDone a,ad,β,t,w,by simp only[b4,List.reverse_nil];exact Steps.refl _ _,C,fun _=>dP.refl _ _ _ _ _ _,y,L a q f⟩
 |succ c K=>
  intro b a s ad β t w q O hc y C;have ab:b4 .any ops (c+1) b a []=(match(b1 .any ops a)[b% (b1 .any ops a).length]? with
   |some i=>b4 .any ops c (b/(b1 .any ops a).length) (a.setIfInBounds i true) [i]
   |none=>[].reverse):=rfl
  rw[ab];cases hi:(b1 .any ops a)[b% (b1 .any ops a).length]? with
  |none=>
   have f:b1 .any ops a=[]:=by
    cases f:b1 .any ops a with
    |nil=>rfl
    |cons x xs=>
     rw[f]at hi;have H:b% (x::xs).length<(x::xs).length:=Nat.mod_lt _ (by simp);rw[ck H]at hi;cases hi
   exact⟨s,isDone a,ad,β,t,w,Steps.refl _ _,C,fun _=>dP.refl _ _ _ _ _ _,y,L a q f⟩
  |some i=>
   simp only;rw[linearise_go_acc,List.reverse_singleton,List.singleton_append];have af:=dk hi;obtain⟨g,o,m,Q⟩:=bo.1 af;have ac:i<ops.size:=(an.1 m).1;have E:i<a.size:=by omega
   have ag:¬isDone a i:=by
    unfold isDone;simp only[av,ao E,fl]at g⊢;simp[g]
   obtain⟨u,S,ak,t1,ah,U,a2,a3,a4⟩:=h.run (fr:=fr) (k:=k) (cs:=cs) (ds:=ds) (r:=b4 .any ops c (b/(b1 .any ops a).length) (a.setIfInBounds i true) []) hc m ag Q y C;have M:(fun j=>isDone a j\/j=i)=isDone (a.setIfInBounds i true):=by
    funext j
    unfold isDone
    by_cases F:j=i
    ·subst F;simp[E]
    ·have:(a.setIfInBounds i true).getD j false=a.getD j false:=bv false (Ne.symm F);rw[this];simp[F]
   rw[M]at a4;have aa:xP ops (isDone (a.setIfInBounds i true)):=by
    rw[<-M];intro j o' I d e B z;rcases d with d|rfl
    ·exact .inl (hc j o' I d e B z)
    ·rw[m]at I;cases I;exact .inl (Q e B z)
   have ae:left ops (a.setIfInBounds i true)<=c:=by
    have am:=JJ (p:=fun j=>!a.getD j true) (i:=i) (l:=c6 ops.size) ei (by simpa using ac) (by show(!a.getD i true)=true;rw[g];rfl);have:left ops (a.setIfInBounds i true)=(c6 ops.size).countP (fun x=>!a.getD x true&&x !=i):=by
     unfold left;refine ee fun x hx=>?_
     by_cases J:x=i
     ·subst J;simp[E]
     ·have:(a.setIfInBounds i true).getD x true=a.getD x true:=bv true (Ne.symm J);rw[this];simp[J]
    unfold left at O;omega
   obtain⟨v,D,T,al,t2,aj,V,W,X,Y,Z⟩:=K (b/(b1 .any ops a).length) (a.setIfInBounds i true) u S ak t1 ah (by simpa using q) ae aa a4 a2;exact⟨v,D,T,al,t2,aj,U.trans V,W,fun N=>(a3 N).trans (X N),Y,Z⟩
theorem XF(h:fit n ops=true):(∀j o,ops[j]?=some o->∀e∈o.after,b3 .any e=true->e.on<j)/\
 (∀i j u o,i<j->ops[i]?=some u->ops[j]?=some o->rF ops u o=true->reach ops ops.size i j=true):=by
 unfold fit at h;rw[dg]at h;constructor
 ·intro j o a e f c;have b:j<ops.size:=(an.1 a).1;have:=h j (by simpa using b);rw[a]at this;simp only[aT,dg]at this;have:=this.1 e (by simpa using f);simpa[c]using this
 ·intro i j u o g k a d;have b:j<ops.size:=(an.1 a).1;have:=h j (by simpa using b);rw[a]at this;simp only[aT,dg]at this;have:=this.2 i (by simpa using g);rw[k]at this;simpa[d]using this
theorem zt(C:l6 P ah)(Z:P.follows .mixedOrders=true):ue P ah fit:=by
 intro n N a fr k cs F f K s ai ad β t w T B h aa;obtain⟨es,s',I,J,M⟩:=Lr C B a.toList 0 [] s (fun _ h=>h) h;obtain⟨t1,t2,t3⟩:=I.at;obtain⟨_,_,O⟩:=JW es 0 [] M;obtain⟨f1,f2⟩:=XF (n:=n) T;have X:es.length=a.size:=by simpa using t1
 have hs:iV P n a es s':=by
  refine⟨X,fun k o c=>t3 k o (by simpa using c),B,f1,f2,fun i j U ag v=>?_⟩;have hi:i<es.length:=by omega
  have A:j<es.length:=by omega
  have G:es[i]?=some (es[i].1,es[i].2):=by simp[ck hi]
  have H:es[j]?=some (es[j].1,es[j].2):=by simp[ck A]
  have:=O i j es[i].1 es[i].2 es[j].1 es[j].2 U G H;simp only[Nat.zero_add]at this;refine this ?_;have g:de es s' i=es[i].1/\fG es i=es[i].2:=by simp[de,fG,ck hi]
  have q:de es s' j=es[j].1/\fG es j=es[j].2:=by simp[de,fG,ck A]
  rw[g.1,g.2,q.1,q.2]at v;exact v
 have V:=hs.yx (k:=0) (e8 _);rw[t2]at V;obtain⟨m,Y⟩:∃m,m=s'.heap.length-s.heap.length:=⟨_,rfl⟩
 have ab:=aa.nw m;have Q:∀N,dP N ai ad w β s.heap ai ad w β (s.heap++cy m .hole):=fun N=>⟨fun _ x=>x,fun _ x=>x,fun _ x=>.inl x,Ext.refl _ _ _,(pP _ _ _).n,fun x _=>mR _ _ x,fun b _⟨L,r⟩=>⟨L,by rw[kf,if_pos (cx.1 r).1];exact r⟩⟩
 have ac:b2 (P.follows .mixedOrders) a f=b4 .any a a.size f (ap a.size false) []:=by
  simp[b2,Z,Region.linearise]
 have e:∀i,¬isDone (ap a.size false) i:=by
  intro i hi;unfold isDone at hi
  by_cases z:i<a.size
  ·simp[z]at hi
  ·simp[z]at hi
 have R:At a es s' (isDone (ap a.size false)) ⟨s.env,s.heap++cy m .hole⟩:=by
  refine⟨fun x=>⟨0,e8 _,by rw[t2],fun i o _ _=>⟨fun h=>(e i h).elim,fun h=>by omega⟩⟩,by simp;omega,fun b=>⟨0,e8 _,by rw[t2];unfold hx;rw[<-Y],fun i _ _=>⟨fun h=>(e i h).elim,fun h=>by omega⟩⟩⟩
 have W:left a (ap a.size false)<=a.size:=by
  unfold left;have:=List.countP_le_length (p:=fun i=>!(ap a.size false).getD i true) (l:=c6 a.size);simpa using this
 obtain⟨u,D,aF,aI,af,w',E,a2,a3,a4,a5⟩:=hs.goes (fr:=fr) (k:=k) (cs:=cs) (ds:=F) a.size f (ap a.size false) _ ad β t w (by simp) W (fun j o c d=>(e j d).elim) R ab;rw[ac];have S:∀x,aN s'.env x=aN u.env x:=by
  intro x;obtain⟨k,k1,k2,k3⟩:=a4.tmp x;rw[k2];have:=hs.MI (x:=x) k1 (e9 a.size) (fun i o c d=>by
   have hi:i<a.size:=(an.1 c).1;have:=(k3 i o c d).1 (a5 i hi);exact⟨fun _=>hi,fun _=>this⟩)
  rw[hs.last]at this;exact this
 have y:s'.heap=u.heap:=by
  apply List.ext_getElem?;intro b;obtain⟨k,k1,k2,k3⟩:=a4.heap b;rw[k2];have:=hs.Mt (b:=b) k1 (e9 a.size) (fun i hi ae=>by
   have:=(k3 i hi ae).1 (a5 i hi);exact⟨fun _=>hi,fun _=>this⟩)
  rw[hs.last]at this;rw[<-this];simp[hx]
 exact⟨s',aF,aI,af,w',J,E,a2.congr S y,(Q N).trans (y▸a3 N)⟩
end
section
variable{P:a6}
structure aq(P:a6)(f:a8)(fn:Func):Prop where
 func:P.funcs[f]?=some fn
 stat:(fn.body.isSome&&(fn.name != "runtime.NumGoroutine")&&codeOk fit fn.ntmps (fn.body.getD .skip))=true
theorem aq.enters{f:a8}{fn:Func}(h:aq P f fn):Enters P f:=by
 intro args w;have hs:=h.stat;simp only[aT,bne_iff_ne]at hs;cases a:fn.body with
 |none=>rw[a]at hs;simp at hs
 |some c=>simp[callFunc,h.func,hs.1.2,a]
def Ends(P:a6)(a:List bl)(v:PV)(e:bA)(s:St):Prop:=
 (match e with
  | .exit _=>False
  |_=>True)/\∃vs,fH P s a=some vs/\eC s.heap 9 (oneOf vs)=some v
theorem lN{f:a8}{fn:Func}(ah:a8->Bool)(h:aq P f fn)(b:P.follows .mixedOrders=true){args:List PV}{v:PV}(c:args.length<=fn.ntmps)
 (d:cd P ah (fn.ntmps,0) (fn.body.getD .skip) (Ends P fn.results.toList v) ⟨iD 0 (args.map .p),[]⟩):aA P f args v:=by
 have hs:=h.stat;simp only[aT,bne_iff_ne]at hs;have a:fn.body=some (fn.body.getD .skip):=by
  have:=hs.1.1;cases e:fn.body<;>simp_all
 exact .inl (LP (pO ah) (zt (pO ah) b) h.enters h.func a hs.2 c d)
class aJ6(P:a6)(f:a8)(args:List PV)(pre:outParam Prop)(v:outParam PV):Prop where
 lN:pre->aA P f args v
section calls
variable{f:a8}{H:Heap}{pre:Prop}{v:PV}
end calls
def sO(e:Env):Env->Prop
 |[]=>True
 |(x,v)::r=>aN e x=v/\sO e r
def kx:Heap->Heap->Prop
 |_,[]=>True
 |[],.hole::t=>kx [] t
 |_::h,.hole::t=>kx h t
 |o::h,o'::t=>o=o'/\kx h t
 |[],_::_=>False
theorem sO.get{e:Env}:∀{t:Env},sO e t->∀x,aN t x=aN e x\/aN t x=.p .undef
 |[],_,x=>.inr rfl
 |(y,v)::t,h,x=>by
  simp only[sO]at h;simp only[aN]
  split
  ·rename_i hx;subst hx;exact .inl h.1.symm
  ·exact sO.get h.2 x
theorem kx.get:∀{h t:Heap},kx h t->∀(b:Nat)(o:Obj),t[b]?=some o->o=.hole\/h[b]?=some o
 |_,[],_,b,o,a=>by simp at a
 |[],o'::t,hk,b,o,a=>by
  cases o'<;>simp only[kx]at hk;cases b with
  |zero=>simp at a;exact .inl a.symm
  |succ b=>exact(kx.get hk b o (by simpa using a)).imp id (fun h=>by simp at h)
 |c::h,o'::t,hk,b,o,a=>by
  cases b with
  |zero=>
   simp at a;cases o'<;>simp only[kx]at hk
   case hole=>exact .inl a.symm
   all_goals exact .inr (by rw[<-a,<-hk.1];simp)
  |succ b=>
   have:kx h t:=by cases o'<;>simp only[kx]at hk<;>first|exact hk|exact hk.2
   exact(kx.get this b o (by simpa using a)).imp id (fun h=>by simpa using h)
def ir(H:Heap):Env->Prop
 |[]=>True
 |(_,v)::r=>aD (aH H) v/\ir H r
def eK(H:Heap):Heap->Prop
 |[]=>True
 |o::r=>o.refs (aH H)/\eK H r
theorem ir.get{H:Heap}:∀{e:Env},ir H e->∀x,aD (aH H) (aN e x)
 |[],_,x=>by simp[aN,aD]
 |(y,v)::e,h,x=>by
  simp only[ir]at h;simp only[aN]
  split
  ·exact h.1
  ·exact ir.get h.2 x
theorem eK.get{H:Heap}:∀{h:Heap},eK H h->∀(b:Nat)(o:Obj),h[b]?=some o->o.refs (aH H)
 |[],_,b,o,a=>by simp at a
 |d::h,c,b,o,a=>by
  simp only[eK]at c;cases b with
  |zero=>simp at a;subst a;exact c.1
  |succ b=>exact eK.get c.2 b o (by simpa using a)
theorem qC.of{s t:St}(a:sO s.env t.env)(c:kx s.heap t.heap)(e:ir t.heap t.env)(f:eK t.heap t.heap):qC s t:=
 ⟨fun x=>(a.get x).imp id .inl,fun b o d=>(c.get b o d).imp id .inl,e.get,f.get⟩
theorem cV.of{N:Nat}{s t:St}(e:t.heap.take N=s.heap.take N)(c:sO s.env t.env)(d:kx s.heap t.heap)(f:ir t.heap t.env)(g:eK t.heap t.heap):cV N s t:=by
 refine .inr ⟨qC.of c d f g,fun b a=>?_⟩;have:=congrArg (fun l:Heap=>l[b]?) e;simpa[List.getElem?_take,a]using this
theorem P5{f:a8}{fn:Func}(ah:a8->Bool)(h:aq P f fn)(b:P.follows .mixedOrders=true){args:List AV}{H H':Heap}{v:AV}(c:args.length<=fn.ntmps)
 (d:cd P ah (fn.ntmps,H.length) (fn.body.getD .skip) (uZ P fn.results.toList H.length H' v) ⟨iD 0 args,H⟩):cB P f H args H' v:=by
 have hs:=h.stat;simp only[aT,bne_iff_ne]at hs;have a:fn.body=some (fn.body.getD .skip):=by
  have:=hs.1.1;cases e:fn.body<;>simp_all
 exact XE (pO ah) (zt (pO ah) b) h.enters h.func a hs.2 c d
theorem P6(ah:a8->Bool)(f:P.follows .mixedOrders=true){b:Nat}{L:ek}{H H':Heap}{args:List AV}{v:AV}(d:H[b]?=some (.loop L))(e:args.length=L.params.length)
 (a:(L.params.all (fun x=>decide (x<L.n))&&codeOk fit L.n L.assign&&codeOk fit L.n L.body)=true)(g:z7 P ah L b args H (fun c h=>h=v/\cV H.length ⟨[],c⟩ ⟨[],H'⟩)):iq P b H args H' v:=by
 simp only[aT,dg,decide_eq_true_eq]at a;exact XC (pO ah) (zt (pO ah) f) d e a.1.1 a.1.2 a.2 g
theorem again{N:Nat}{α:Type}{mk:α->St}{ok:α->Prop}{m:α->Nat}{n:Nat}{s':St}(a':α)(c:m a'<n)(d:ok a')(e:cV N s' (mk a')):∃a b,a<n/\cV N s' b/\∃a',ok a'/\b=mk a'/\a=m a':=
 ⟨m a',mk a',c,e,a',d,rfl,rfl⟩
end
section
variable{P:a6}{ah:a8->Bool}
def aQ{α:Type}(F:(α->Prop)->Prop):Prop:=∀K,F K->∃a,K a/\∀b:α->Prop,b a->F b
theorem aQ.one{α β:Type}(f:β->α)(b:β):aQ (fun K:α->Prop=>K (f b)):=fun _ h=>⟨f b,h,fun _ h=>h⟩
theorem aQ.false{α:Type}:aQ (fun _:α->Prop=>False):=fun _ h=>h.elim
theorem aQ.and{α:Type}{p:Prop}{F:(α->Prop)->Prop}(h:aQ F):aQ (fun K=>p/\F K):=fun K hk=>by
 obtain⟨a,c,d⟩:=h K hk.2;exact⟨a,c,fun b h=>⟨hk.1,d b h⟩⟩
theorem aQ.ex{α:Type}{β:Sort _}{F:β->(α->Prop)->Prop}(h:∀b,aQ (F b)):aQ (fun K=>∃b,F b K):=fun K⟨b,f⟩=>by
 obtain⟨a,d,e⟩:=h b K f;exact⟨a,d,fun c h=>⟨b,e c h⟩⟩
theorem aQ.or{α:Type}{F G:(α->Prop)->Prop}(h:aQ F)(e:aQ G):aQ (fun K=>F K\/G K):=fun K hk=>by
 rcases hk with hk|hk
 ·obtain⟨a,c,d⟩:=h K hk;exact⟨a,c,fun b h=>.inl (d b h)⟩
 ·obtain⟨a,c,d⟩:=e K hk;exact⟨a,c,fun b h=>.inr (d b h)⟩
theorem aQ.ite{α:Type}{p:Prop}[Decidable p]{F G:(α->Prop)->Prop}(h:aQ F)(f:aQ G):aQ (fun K=>if p then F K else G K):=fun K hk=>by
 split at hk
 ·rename_i e;obtain⟨a,c,d⟩:=h K hk;exact⟨a,c,fun b h=>by simpa[e]using d b h⟩
 ·rename_i e;obtain⟨a,c,d⟩:=f K hk;exact⟨a,c,fun b h=>by simpa[e]using d b h⟩
theorem aQ.bind{α β:Type}{F:(α->Prop)->Prop}{G:α->(β->Prop)->Prop}(h:aQ F)(d:∀a,aQ (G a)):aQ (fun K=>F (fun a=>G a K)):=fun K hk=>by
 obtain⟨a,e,f⟩:=h _ hk;obtain⟨b,g,i⟩:=d a K e;exact⟨b,g,fun c h=>f _ (i c h)⟩
theorem aQ.map{α β:Type}{F:(α->Prop)->Prop}(h:aQ F)(f:α->β):aQ (fun K=>F (fun a=>K (f a))):=h.bind fun a=>aQ.one f a
theorem We(T:a1)(H:Heap)(a:AV):aQ (ow P T H a):=by
 unfold ow
 repeat' first
  |exact aQ.false
  |exact aQ.one id _
  |refine aQ.and ?_
  |refine aQ.ex fun _=>?_
  |split
theorem VR(T:a1)(H:Heap)(a x:AV):aQ (n9 P T H a x):=by
 unfold n9
 repeat' first
  |exact aQ.false
  |exact aQ.one id _
  |refine aQ.and ?_
  |refine aQ.ex fun _=>?_
  |split
theorem TJ(T:a1)(a:AV)(f:Nat):aQ (nU P T a f):=by
 unfold nU
 repeat' first
  |exact aQ.false
  |exact aQ.one id _
  |refine aQ.and ?_
  |refine aQ.ex fun _=>?_
  |split
theorem TI(T:a1)(H:Heap)(a i:AV):aQ (nT P T H a i):=by
 unfold nT
 repeat' first
  |exact aQ.false
  |exact aQ.one id _
  |refine aQ.and ?_
  |refine aQ.ex fun _=>?_
  |split
theorem Ut(T X:a1)(H:Heap)(s x:AV):aQ (nX P T X H s x):=by
 unfold nX
 repeat' first
  |exact aQ.false
  |exact aQ.one id _
  |refine aQ.and ?_
  |refine aQ.ex fun _=>?_
  |refine aQ.ite ?_ ?_
  |split
theorem Lv{α:Type}{F:Nat->(α->Prop)->Prop}(x:Option AV)(d:Nat)(h:∀n,aQ (F n)):aQ (fun K=>gA x d (fun n=>F n K)):=by
 unfold gA
 split
 ·exact h _
 ·exact aQ.and (h _)
 ·exact aQ.false
theorem VS(T:a1)(H:Heap)(x:AV)(lo hi a:Option AV):aQ (oc P T H x lo hi a):=by
 unfold oc;refine aQ.and ?_
 repeat' first
  |exact aQ.false
  |exact aQ.one id _
  |refine aQ.and ?_
  |refine Lv _ _ fun _=>?_
  |refine aQ.ite ?_ ?_
  |split
theorem Us(T:a1)(H:Heap)(x:AV)(lo hi:Option AV)(m:AV):aQ (rG P T H x lo hi m):=by
 unfold rG
 repeat' first
  |exact aQ.false
  |exact aQ.one id _
  |refine aQ.and ?_
  |refine Lv _ _ fun _=>?_
  |split
theorem Xb(op:bb)(T:a1)(c:Bool)(H:Heap)(x y:AV)(f:PV->aY):aQ (fun K:aY->Prop=>ku P op T c H x y (fun v=>K (f v))):=by
 unfold ku
 repeat' first
  |exact aQ.false
  |exact aQ.one f _
  |refine aQ.and ?_
  |(unfold qG;split)
  |(unfold qE;split)
  |split
theorem S7(a:a1)(b:Nat)(key:PV)(x:AV)(c:Obj):aQ (pK P a b key x c):=by
 unfold pK
 repeat' first
  |exact aQ.false
  |exact aQ.one id _
  |refine aQ.and ?_
  |split
theorem DK(o:Oper)(ρ:a7->AV)(H:Heap):aQ (fE P ah o ρ H):=by
 unfold fE
 repeat' first
  |exact aQ.false
  |exact aQ.one id _
  |exact We _ _ _
  |exact VR _ _ _ _
  |exact TJ _ _ _
  |exact TI _ _ _ _
  |exact VS _ _ _ _ _ _
  |exact Us _ _ _ _ _ _
  |exact Ut _ _ _ _ _
  |exact S7 _ _ _ _ _
  |exact Xb _ _ _ _ _ _ _
  |refine aQ.and ?_
  |refine aQ.ex fun _=>?_
  |refine aQ.ite ?_ ?_
  |refine aQ.or ?_ ?_
  |split
  |dsimp only
theorem KB(d:Bool)(f:a8)(args:List AV)(H:Heap){α:Type}(g:AV->Heap->α):aQ (fun K:α->Prop=>gO P d f args H (fun v H'=>K (g v H'))):=by
 unfold gO;refine aQ.or (aQ.ex fun vs=>aQ.ex fun v=>aQ.and (aQ.and ?_)) (aQ.and (aQ.or (aQ.ex fun vs=>aQ.ex fun H1=>aQ.ex fun v=>aQ.and (aQ.and ?_)) (aQ.or (aQ.ex fun H'=>aQ.ex fun v=>aQ.and ?_) (aQ.or (aQ.ex fun e=>aQ.and (aQ.and ?_)) (aQ.ex fun ak=>aQ.ex fun v=>aQ.and (aQ.and ?_))))))
 ·exact aQ.one (fun v=>g (.p v) H) v
 ·exact aQ.one (fun v=>g (.p v) H1) v
 ·exact aQ.one (fun v=>g v H') v
 ·exact aQ.one (fun _:Unit=>g e.v (bf H e.aJ++e.aU)) ()
 ·exact aQ.one (fun v=>g (.p v) H) v
theorem JY(f:a8)(args:List AV)(H:Heap):aQ (gU P f args H):=by
 unfold gU;refine aQ.or (aQ.ex fun vs=>aQ.ex fun v=>aQ.and (aQ.and (aQ.one id _))) (aQ.or (aQ.ex fun vs=>aQ.ex fun bs=>aQ.ex fun ak=>aQ.ex fun aJ=>aQ.ex fun v=>aQ.and (aQ.and (aQ.and (aQ.one id _)))) (aQ.or (aQ.ex fun e=>aQ.and (aQ.and (aQ.one id _))) (aQ.ex fun ak=>aQ.ex fun v=>aQ.and (aQ.and (aQ.one id _)))))
theorem Kz(d:Bool)(o:Oper)(s:St):aQ (fun K=>jA P ah d o K s):=by
 unfold jA
 split
 ·split
  ·exact KB _ _ _ _ (fun v H'=>(⟨put o.dst v s.env,H'⟩:St))
  ·exact KB _ _ _ _ (fun v H'=>(⟨put o.dst v s.env,H'⟩:St))
  ·exact aQ.ex fun H'=>aQ.ex fun v=>aQ.and (aQ.one (fun _:Unit=>(⟨put o.dst v s.env,H'⟩:St)) ())
  ·exact aQ.false
 ·exact(DK o _ _).map (fun e=>e.app o.dst s)
theorem KA(o:Oper)(s:St):aQ (jj P ah o s):=by
 unfold jj
 split
 ·split
  ·exact JY _ _ _
  ·exact JY _ _ _
  ·exact aQ.ex fun e=>aQ.and (aQ.and (aQ.one id _))
  ·exact aQ.false
 ·exact DK o _ _
theorem zT(d:Bool)(a:Array Oper):∀(l:List Oper)(s:St),aQ (fun K=>gQ P ah d a l K s)
 |[],s=>by simp only[gQ];exact aQ.one id s
 |o::l,s=>by
  have go:aQ (fun K=>jA P ah d o (gQ P ah d a l K) s):=(Kz d o s).bind fun t=>zT d a l t;simp only[gQ]
  split
  ·exact go
  ·split
   ·split
    ·exact go
    ·exact zT d a l _
   ·exact zT d a l _
   ·exact aQ.false
theorem zF(b:Array Oper):∀(l:List Oper)(i:Nat)(a:List Touch)(s:St),aQ (fun K=>gh P ah b l i a K s)
 |[],i,a,s=>by simp only[gh];exact aQ.and (aQ.one id s)
 |o::l,i,a,s=>by
  have go:aQ (fun K=>jj P ah o s fun e=>gh P ah b l (i+1) (gP i s.heap.length e a) K (e.app o.dst s)):=(KA o s).bind fun e=>zF b l (i+1) _ _;simp only[gh]
  split
  ·exact go
  ·split
   ·split
    ·exact go
    ·exact zF b l (i+1) a _
   ·exact zF b l (i+1) a _
   ·exact aQ.false
def A8(F:(bA->St->Prop)->Prop):Prop:=∀Q,F Q->∃e s,Q e s/\∀a:bA->St->Prop,a e s->F a
inductive xN(P:a6)(ah:a8->Bool)(q:Cx)(b:Code)(e:bA)(s:St):Nat->St->Prop
 |stop {k:Nat} {u:St}:(∀Q:bA->St->Prop,Q e s->cd P ah q b Q u)->e≠.normal->xN P ah q b e s k u
 |step {k m:Nat} {u s1 u':St}:(∀Q:bA->St->Prop,Q .normal s1->cd P ah q b Q u)->m<k->cV q.2 s1 u'->xN P ah q b e s m u'->xN P ah q b e s k u
theorem Wf(j:Option Code)(s:St):A8 (fun Q=>jM Q j s):=fun Q h=>by
 unfold jM at h
 split at h
 ·exact⟨.normal,s,h,fun _ h=>h⟩
 ·rename_i id;exact⟨.exit id,s,h,fun _ h=>h⟩
 ·exact⟨.ret,s,h,fun _ h=>h⟩
 ·exact h.elim
theorem Ky(b:Nat)(env:Env)(H:Heap):A8 (fun Q=>iR b env Q H):=fun Q h=>by
 unfold iR at h
 split at h
 ·rename_i L f;obtain⟨e,s,c,d⟩:=Wf _ _ Q h.2;exact⟨e,s,c,fun a hq=>by unfold iR;simp only[f];exact⟨h.1,d a hq⟩⟩
 ·exact h.elim
theorem VZ(it:AV)(b:Nat)(H:Heap)(env:Env):A8 (fun Q=>jJ P it b H (iR b env Q)):=fun Q h=>by
 unfold jJ at h
 split at h
 ·obtain⟨H',v,c,d⟩:=h;obtain⟨e,s,k1,k2⟩:=Ky b env H' Q d;exact⟨e,s,k1,fun a hq=>by simp only[jJ];exact⟨H',v,c,k2 a hq⟩⟩
 ·obtain⟨H',v,c,d⟩:=h;obtain⟨e,s,k1,k2⟩:=Ky b env H' Q d;exact⟨e,s,k1,fun a hq=>by simp only[jJ];exact⟨H',v,c,k2 a hq⟩⟩
 ·exact h.elim
theorem nR{q:Cx}:∀(c:Code)(s:St),A8 (fun Q=>cd P ah q c Q s)
 | .skip,s| .label _,s=>fun Q h=>⟨.normal,s,h,fun _ h=>h⟩
 | .exit id,s=>fun Q h=>⟨.exit id,s,h,fun _ h=>h⟩
 | .ret,s=>fun Q h=>⟨.ret,s,h,fun _ h=>h⟩
 | .region id ops draw,s=>fun Q h=>by
  simp only[cd]at h⊢
  split at h
  ·rename_i l;obtain⟨t,d,g⟩:=zF ops _ _ _ _ _ h;exact⟨.normal,t,d,fun Q' h=>by simp only[l,if_true];exact g _ h⟩
  ·rename_i l;obtain⟨t,d,g⟩:=zT _ ops _ _ _ h;exact⟨.normal,t,d,fun Q' h=>by rw[if_neg l];exact g _ h⟩
 | .seq a b,s=>fun Q h=>by
  simp only[cd]at h⊢;obtain⟨e,t,d,g⟩:=nR a s _ h;cases e with
  |normal=>
   obtain⟨e',r,k,y⟩:=nR b t _ d;exact⟨e',r,k,fun Q' h=>g _ (y Q' h)⟩
  |exit id=>exact⟨.exit id,t,d,fun Q' h=>g _ h⟩
  |ret=>exact⟨.ret,t,d,fun Q' h=>g _ h⟩
 | .cond c a b,s=>fun Q h=>by
  simp only[cd]at h⊢
  split at h
  ·split at h
   ·rename_i p;obtain⟨e,t,d,g⟩:=nR a s _ h;exact⟨e,t,d,fun Q' h=>by rw[if_pos p];exact g _ h⟩
   ·rename_i p;obtain⟨e,t,d,g⟩:=nR b s _ h;exact⟨e,t,d,fun Q' h=>by rw[if_neg p];exact g _ h⟩
  ·exact h.elim
 | .block id b,s=>fun Q h=>by
  simp only[cd]at h⊢;obtain⟨e,t,d,g⟩:=nR b s _ h;cases e with
  |normal=>exact⟨.normal,t,d,fun Q' h=>g _ h⟩
  |exit i=>
   by_cases hi:i=id
   ·simp only[hi,if_true]at d;exact⟨.normal,t,d,fun Q' h=>g _ (by simp only[hi,if_true];exact h)⟩
   ·simp only[hi,if_false]at d;exact⟨.exit i,t,d,fun Q' h=>g _ (by simp only[hi,if_false];exact h)⟩
  |ret=>exact⟨.ret,t,d,fun Q' h=>g _ h⟩
 | .scope b,s=>fun Q h=>by simp only[cd]at h⊢;exact nR b s Q h
 | .loop b,s=>fun Q h=>by
  simp only[cd]at h⊢;obtain⟨I,⟨w,t0,hf,hI⟩,F⟩:=h;have key:∀(n:Nat)(t:St),I n t->∃e u,Q e u/\e≠.normal/\xN P ah q b e u n t:=by
   intro n
   induction n using fa with
   |_ n G=>
    intro t hI;obtain⟨e,s1,d,g⟩:=nR b t _ (F n t hI);cases e with
    |normal=>
     obtain⟨m,r,j,o,z⟩:=d;obtain⟨e,u,k1,k2,k3⟩:=G m j r z;exact⟨e,u,k1,k2,.step g j o k3⟩
    |exit id=>exact⟨.exit id,s1,d,by simp,.stop g (by simp)⟩
    |ret=>exact⟨.ret,s1,d,by simp,.stop g (by simp)⟩
  obtain⟨e,u,d,g,k⟩:=key w t0 hI;refine⟨e,u,d,fun Q' v=>⟨xN P ah q b e u,⟨w,t0,hf,k⟩,?_⟩⟩;intro n t C;cases C with
  |stop hs E=>
   refine hs _ ?_;cases e with
   |normal=>exact(E rfl).elim
   |exit id=>exact v
   |ret=>exact v
  |step hs j o D=>exact hs _ ⟨_,_,j,o,D⟩
 | .rangeFunc f H a b,s=>fun Q h=>by
  simp only[cd]at h;obtain⟨A,x,B,h⟩:=h;obtain⟨e,t,d,g⟩:=VZ _ _ _ _ Q h;exact⟨e,t,d,fun Q' hq=>by simp only[cd];exact⟨A,x,B,g Q' hq⟩⟩
 | .goto _,_| .refuse _,_=>fun Q h=>by simp[cd]at h
def Spec(P:a6)(f:a8)(args:List PV)(Q:PV->Prop):Prop:=∃v,aA P f args v/\Q v
def Bb(P:a6)(a:List bl)(Q:PV->Prop)(e:bA)(s:St):Prop:=
 (match e with
  | .exit _=>False
  |_=>True)/\∃vs,fH P s a=some vs/\∃v,eC s.heap 9 (oneOf vs)=some v/\Q v
theorem Spec.mono{f:a8}{args:List PV}{Q a:PV->Prop}(h:Spec P f args Q)(hq:∀v,Q v->a v):Spec P f args a:=by
 obtain⟨v,b,c⟩:=h;exact⟨v,b,hq v c⟩
end
def ou(id:Nat)(Q:bA->St->Prop)(e:bA)(s:St):Prop:=
 match e with
 | .exit i=>if i=id then Q .normal s else Q (.exit i) s
 |e=>Q e s
theorem TZ{id:Nat}{Q:bA->St->Prop}{s:St}:ou id Q .normal s=Q .normal s:=(rfl)
theorem Vh{id i:Nat}{Q:bA->St->Prop}{s:St}:ou id Q (.exit i) s=if i=id then Q .normal s else Q (.exit i) s:=(rfl)
theorem Wh{id:Nat}{Q:bA->St->Prop}{s:St}:ou id Q .ret s=Q .ret s:=(rfl)
def uN(N n:Nat)(I:Nat->St->Prop)(Q:bA->St->Prop)(e:bA)(s:St):Prop:=
 match e with
 | .normal=>∃a b,a<n/\cV N s b/\I a b
 |e=>Q e s
theorem TO{N n:Nat}{I:Nat->St->Prop}{Q:bA->St->Prop}{s:St}:uN N n I Q .normal s=∃a b,a<n/\cV N s b/\I a b:=(rfl)
theorem Uw{N n id:Nat}{I:Nat->St->Prop}{Q:bA->St->Prop}{s:St}:uN N n I Q (.exit id) s=Q (.exit id) s:=(rfl)
theorem VV{N n:Nat}{I:Nat->St->Prop}{Q:bA->St->Prop}{s:St}:uN N n I Q .ret s=Q .ret s:=(rfl)
section E4
variable{P:a6}
end E4
section
variable{P:a6}{ah:a8->Bool}
abbrev eQ:=Option (Prop×aY)
def bg(r:eQ)(K:aY->Prop):Prop:=
 match r with
 |some (p,e)=>p/\K e
 |none=>False
theorem V5{p:Prop}{e:aY}{K:aY->Prop}:bg (some (p,e)) K=(p/\K e):=(rfl)
theorem WE{K:aY->Prop}:bg none K=False:=(rfl)
@[congr] theorem aLR{r a:eQ}{K:aY->Prop}(h:r=a):bg r K=bg a K:=by rw[h]
def Can(F:(aY->Prop)->Prop)(r:eQ):Prop:=∀K,bg r K->F K
theorem Can.none{F:(aY->Prop)->Prop}:Can F none:=fun _ h=>h.elim
def qH(P:a6)(T:a1)(H:Heap)(a:AV):eQ:=
 match a with
 | .ptr b path=>match H[b]? with
  |some (.box fz t)=>match eZ t path with
   |some s=>some (kindOf P T=aa s,{v:=s,ak:=[(b,.box fz t)]})
   |none=>none
  |_=>none
 | .b7 b aw aj i path=>match H[b]? with
  |some (.arr k d c es)=>match es[i]? with
   |some x=>match eZ x path with
    |some s=>some ((aw=d/\aj=c)/\kindOf P T=aa s,{v:=s,ak:=[(b,.arr k d c es)]})
    |none=>none
   |none=>none
  |_=>none
 | .p (.cw t)=>some (kindOf P T=aM t,{v:=.p t})
 |_=>none
theorem YL{T:a1}{H:Heap}{a:AV}:Can (ow P T H a) (qH P T H a):=by
 intro K h;unfold qH at h;unfold ow
 split at h
 ·split at h
  ·rename_i b
   split at h
   ·rename_i hs;simp only[bg]at h;simp only[b,hs];exact h
   ·exact h.elim
  ·exact h.elim
 ·split at h
  ·rename_i b
   split at h
   ·rename_i x hx;obtain⟨hi,hx⟩:=cx.1 hx
    split at h
    ·rename_i hs;simp only[bg]at h;simp only[b];exact⟨h.1.1.1,h.1.1.2,hi,by rw[hx,hs];exact⟨h.1.2,h.2⟩⟩
    ·exact h.elim
   ·exact h.elim
  ·exact h.elim
 ·exact h
 ·exact h.elim
def qw(P:a6)(T:a1)(H:Heap)(a x:AV):eQ:=
 match a with
 | .ptr b path=>match H[b]? with
  |some (.box false t)=>match eZ t path,fQ t path x with
   |some s,some d=>some ((kindOf P T=aa x/\aa x≠.bad)/\aa s=aa x,{v:=.p (.aE []),ak:=[(b,.box false t)],aJ:=[(b,.box false d)]})
   |_,_=>none
  |_=>none
 | .b7 b aw aj i path=>match H[b]? with
  |some (.arr k e c es)=>match es[i]? with
   |some y=>match eZ y path,fQ y path x with
    |some s,some d=>some ((kindOf P T=aa x/\aa x≠.bad)/\(aw=e/\aj=c/\k≠.frozen)/\aa s=aa x,{v:=.p (.aE []),ak:=[(b,.arr k e c es)],aJ:=[(b,.arr k e c (es.set i d))]})
    |_,_=>none
   |none=>none
  |_=>none
 |_=>none
theorem Xv{T:a1}{H:Heap}{a x:AV}:Can (n9 P T H a x) (qw P T H a x):=by
 intro K h;unfold qw at h;unfold n9
 split at h
 ·split at h
  ·rename_i b
   split at h
   ·rename_i hs c;simp only[bg]at h;simp only[b,hs,c];exact⟨h.1.1.1,h.1.1.2,h.1.2,h.2⟩
   ·exact h.elim
  ·exact h.elim
 ·split at h
  ·rename_i b
   split at h
   ·rename_i y d;obtain⟨hi,d⟩:=cx.1 d
    split at h
    ·rename_i hs c;simp only[bg]at h;simp only[b];exact⟨h.1.1.1,h.1.1.2,h.1.2.1.1,h.1.2.1.2.1,h.1.2.1.2.2,hi,by rw[d,hs,c];exact⟨h.1.2.2,h.2⟩⟩
    ·exact h.elim
   ·exact h.elim
  ·exact h.elim
 ·exact h.elim
def pT(P:a6)(T:a1)(a:AV)(f:Nat):eQ:=
 match fO P T with
 |some (u,n)=>match a with
  | .ptr b path=>some (f<n,{v:=.ptr b (path++[(u,f)])})
  | .b7 b aw aj i path=>some (f<n,{v:=.b7 b aw aj i (path++[(u,f)])})
  | .p (.cw t)=>match(cH t)[f]? with
   |some g=>some (f<n/\aM t=.agg u,{v:=.p (.cw g)})
   |none=>none
  |_=>none
 |_=>none
theorem TW{T:a1}{a:AV}{f:Nat}:Can (nU P T a f) (pT P T a f):=by
 intro K h;unfold pT at h;unfold nU
 split at h
 ·rename_i hs;simp only[hs]
  split at h
  ·exact h
  ·exact h
  ·split at h
   ·rename_i b;simp only[bg]at h;simp only[b];exact⟨h.1.1,h.1.2,h.2⟩
   ·exact h.elim
  ·exact h.elim
 ·exact h.elim
def pS(P:a6)(T:a1)(H:Heap)(x i:AV):eQ:=
 match i with
 | .p (.int _ i)=>match x with
  | .p (.bP _ es)=>match es[i.toNat]? with
   |some y=>some (0<=i/\cL P T=some (bJ P (aM y)),{v:=.p (.cw y)})
   |none=>none
  | .p (.seq es)=>match es[i.toNat]? with
   |some y=>some (0<=i/\cL P T=some (bJ P (aM y)),{v:=.p (.cw y)})
   |none=>none
  | .sl b aw aj off len=>match H[b]? with
   |some (.arr k c a es)=>some (0<=i/\cL P T=some aj/\i.toNat<len/\aw=c/\aj=a/\¬(k.gr=true/\es=[]),{v:=.b7 b aw aj (off+i.toNat) [],ak:=[(b,.arr k c a es)]})
   |_=>none
  | .ptr b path=>match gV P T with
   |some (u,n)=>some (0<=i/\i.toNat<n,{v:=.ptr b (path++[(u,i.toNat)])})
   |_=>none
  | .b7 b aw aj j path=>match gV P T with
   |some (u,n)=>some (0<=i/\i.toNat<n,{v:=.b7 b aw aj j (path++[(u,i.toNat)])})
   |_=>none
  | .p (.cw t)=>match gV P T with
   |some (u,n)=>match(cH t)[i.toNat]? with
    |some g=>some (0<=i/\aM t=.agg u/\i.toNat<n,{v:=.p (.cw g)})
    |none=>none
   |_=>none
  |_=>none
 |_=>none
theorem TV{T:a1}{H:Heap}{x i:AV}:Can (nT P T H x i) (pS P T H x i):=by
 intro K h;unfold pS at h;unfold nT
 split at h
 case h_2=>exact h.elim
 split at h
 ·split at h
  ·rename_i y a;obtain⟨hi,a⟩:=cx.1 a;simp only[bg]at h;exact⟨h.1.1,hi,by rw[a];exact h.1.2,by rw[a];exact h.2⟩
  ·exact h.elim
 ·split at h
  ·rename_i y a;obtain⟨hi,a⟩:=cx.1 a;simp only[bg]at h;exact⟨h.1.1,hi,by rw[a];exact h.1.2,by rw[a];exact h.2⟩
  ·exact h.elim
 ·split at h
  ·rename_i l;simp only[bg]at h;obtain⟨⟨b,c,d,e,f,g⟩,j⟩:=h;refine⟨b,c,d,?_⟩;rw[l];exact⟨e,f,g,j⟩
  ·exact h.elim
 ·split at h
  ·rename_i hs;simp only[bg]at h;simp only[hs];exact⟨h.1.1,h.1.2,h.2⟩
  ·exact h.elim
 ·split at h
  ·rename_i hs;simp only[bg]at h;simp only[hs];exact⟨h.1.1,h.1.2,h.2⟩
  ·exact h.elim
 ·split at h
  ·rename_i hs
   split at h
   ·rename_i k;simp only[bg]at h;simp only[hs,k];exact⟨h.1.1,h.1.2.1,h.1.2.2,h.2⟩
   ·exact h.elim
  ·exact h.elim
 ·exact h.elim
end
section
variable{P:a6}{ah:a8->Bool}
def qu(P:a6)(T X:a1)(H:Heap)(s x:AV):eQ:=
 match cL P T,gK H x with
 |some sz,some xs=>match s with
  | .p .aW=>some ((iF P X=true/\(cO P (eH P T)).isSome=true/\fe P sz xs)/\xs.length<=di,
   if xs.isEmpty then{v:=s,ak:=dD H x}else{v:=.sl H.length 0 sz 0 xs.length,ak:=dD H x,aU:=[.arr (gk P T) 0 sz xs]})
  | .sl b aw aj off len=>match H[b]? with
   |some (.arr k c a es)=>some ((iF P X=true/\(cO P (eH P T)).isSome=true/\fe P sz xs)/\(aw=c/\aj=a/\aj=sz/\off+len<=es.length)/\es.length+xs.length<=di/\k≠ .frozen/\(k≠ .exact->off=0)/\(k= .bytes->eH P T=Gl.u8),
    if xs.isEmpty then{v:=s,ak:=(b,.arr k c a es)::dD H x}
    else match k with
     | .exact=>if off+len+xs.length<=es.length then
      {v:=.sl b aw aj off (len+xs.length),ak:=(b,.arr k c a es)::dD H x,aJ:=[(b,.arr .exact aw aj (es.take (off+len)++xs++es.drop (off+len+xs.length)))]}
      else{v:=.sl H.length 0 sz 0 (len+xs.length),ak:=(b,.arr k c a es)::dD H x,aU:=[.arr (gk P T) 0 sz ((es.drop off).take len++xs)]}
     |_=>{v:=.sl b (aw+1) aj 0 (len+xs.length),ak:=(b,.arr k c a es)::dD H x,aJ:=[(b,.arr k (aw+1) aj (es.take len++xs))]})
   |_=>none
  |_=>none
 |_,_=>none
theorem Vm{T X:a1}{H:Heap}{s x:AV}:Can (nX P T X H s x) (qu P T X H s x):=by
 intro K h;unfold qu at h;unfold nX
 split at h
 case h_2=>exact h.elim
 rename_i sz p i j;simp only[i,j]
 split at h
 ·simp only[bg]at h;obtain⟨⟨⟨b,a2,a3⟩,a4⟩,hk⟩:=h;refine⟨b,a2,a3,?_⟩;dsimp only
  split
  ·rename_i a;rw[if_pos a]at hk;exact hk
  ·rename_i a;rw[if_neg a]at hk;exact⟨a4,hk⟩
 ·split at h
  case h_2=>exact h.elim
  rename_i k o n m l;simp only[bg]at h;obtain⟨⟨⟨b,a2,a3⟩,⟨rfl,rfl,e,f⟩,g,a9,c,d⟩,hk⟩:=h;refine⟨b,a2,a3,?_⟩;simp only[l];refine⟨trivial,trivial,e,f,?_⟩
  split
  ·rename_i a;rw[if_pos a]at hk;exact hk
  ·rename_i a;rw[if_neg a]at hk;refine⟨g,?_⟩;cases k with
   |frozen=>exact a9 rfl
   |exact=>
    simp only at hk⊢
    split
    ·rename_i hc;rw[if_pos hc]at hk;exact hk
    ·rename_i hc;rw[if_neg hc]at hk;exact hk
   |grow=>exact⟨c (by simp),fun h=>(by cases h),hk⟩
   |bytes=>exact⟨c (by simp),d,hk⟩
 ·exact h.elim
def kI(x:Option AV)(d:Nat):Option (Prop×Nat):=
 match x with
 |none=>some (True,d)
 |some (.p (.int _ i))=>some (0<=i,i.toNat)
 |_=>none
theorem mV{x:Option AV}{d n:Nat}{p:Prop}{K:Nat->Prop}(h:kI x d=some (p,n))(a:p)(hk:K n):gA x d K:=by
 unfold kI at h;unfold gA
 split at h
 ·simp only[fm,Prod.mk.injEq]at h;obtain⟨rfl,rfl⟩:=h;exact hk
 ·simp only[fm,Prod.mk.injEq]at h;obtain⟨rfl,rfl⟩:=h;exact⟨a,hk⟩
 ·cases h
def qy(P:a6)(T:a1)(H:Heap)(x:AV)(lo hi:Option AV):eQ:=
 match x with
 | .p (.str s)=>match kI hi s.length,kI lo 0 with
  |some (p,h),some (q,l)=>some (il P T=true/\p/\q/\h<=s.length/\l<=h,{v:=.p (.str ((s.take h).drop l))})
  |_,_=>none
 | .p .aW=>match kI hi 0,kI lo 0 with
  |some (p,h),some (q,l)=>some ((cL P T).isSome=true/\p/\q/\h<=0/\l<=h,{v:=.p .aW})
  |_,_=>none
 | .p (.bP full es)=>match kI hi es.length,kI lo 0,cL P T with
  |some (p,h),some (q,l),some sz=>some (p/\q/\h<=es.length/\l<=h/\fe P sz (es.map .p),{v:=.p (.bP (full&&h==es.length) ((es.take h).drop l))})
  |_,_,_=>none
 | .p (.seq es)=>match kI hi es.length,kI lo 0,cL P T with
  |some (p,h),some (q,l),some sz=>some (p/\q/\h<=es.length/\l<=h/\fe P sz (es.map .p),{v:=.p (.seq ((es.take h).drop l))})
  |_,_,_=>none
 | .sl b aw aj off len=>match H[b]? with
  |some (.arr k c a es)=>match kI hi len,kI lo 0 with
   |some (p,h),some (q,l)=>some ((aw=c/\aj=a/\cL P T=some aj/\¬(k.gr=true/\es=[])/\off+len<=es.length)/\p/\q/\off+h<=es.length/\l<=h,
    if l=0 then{v:=.sl b aw aj off h,ak:=[(b,.arr k c a es)]}
    else if l=h then{v:=.p (.bP false []),ak:=[(b,.arr k c a es)]}
    else{v:=.sl b aw aj (off+l) (h-l),ak:=[(b,.arr k c a es)]})
   |_,_=>none
  |_=>none
 |_=>none
theorem Xw{T:a1}{H:Heap}{x:AV}{lo hi:Option AV}:Can (oc P T H x lo hi none) (qy P T H x lo hi):=by
 intro K h;unfold qy at h;unfold oc;refine⟨rfl,?_⟩
 split at h
 ·split at h
  case h_2=>exact h.elim
  rename_i a b;simp only[bg]at h;obtain⟨⟨c,a2,a3,a4,a5⟩,hk⟩:=h;exact⟨c,mV a a2 (mV b a3 ⟨a4,a5,hk⟩)⟩
 ·split at h
  case h_2=>exact h.elim
  rename_i a b;simp only[bg]at h;obtain⟨⟨c,a2,a3,a4,a5⟩,hk⟩:=h;exact⟨c,mV a a2 (mV b a3 ⟨a4,a5,hk⟩)⟩
 ·split at h
  case h_2=>exact h.elim
  rename_i a b e;simp only[bg]at h;obtain⟨⟨a2,a3,a4,a5,d⟩,hk⟩:=h;refine mV a a2 (mV b a3 ⟨a4,a5,?_⟩);simp only[e];exact⟨d,hk⟩
 ·split at h
  case h_2=>exact h.elim
  rename_i a b e;simp only[bg]at h;obtain⟨⟨a2,a3,a4,a5,d⟩,hk⟩:=h;refine mV a a2 (mV b a3 ⟨a4,a5,?_⟩);simp only[e];exact⟨d,hk⟩
 ·split at h
  case h_2=>exact h.elim
  rename_i i
  split at h
  case h_2=>exact h.elim
  rename_i a b;simp only[bg]at h;obtain⟨⟨⟨c,a2,a3,a4,a5⟩,d,f,g,a9⟩,hk⟩:=h;simp only[i];refine⟨c,a2,a3,a4,a5,mV a d (mV b f ⟨g,a9,?_⟩)⟩
  split
  ·rename_i hc;rw[if_pos hc]at hk;exact hk
  ·rename_i hc;rw[if_neg hc]at hk
   split
   ·rename_i hc;rw[if_pos hc]at hk;exact hk
   ·rename_i hc;rw[if_neg hc]at hk;exact hk
 ·exact h.elim
def sB(P:a6)(T:a1)(H:Heap)(x key:AV)(ok:Bool):eQ:=
 match jg P T,key with
 |some (a,E),.p key=>match cO P E with
  |some z=>match x with
   | .p .fC=>some (fA P a key=true,{v:=.p (if ok then .aE [z,.bool false]else z)})
   | .p (.fg es)=>match fT P a es key with
    |some r=>some (fA P a key=true,{v:= .p (match r with
      |some v=>if ok then .aE [v,.bool true]else v
      |none=>if ok then .aE [z,.bool false]else z)})
    |none=>none
   | .map b=>match H[b]? with
    |some (.map fz es)=>match fT P a es key with
     |some r=>some (fA P a key=true,{v:= .p (match r with
       |some v=>if ok then .aE [v,.bool true]else v
       |none=>if ok then .aE [z,.bool false]else z),ak:=[(b,.map fz es)]})
     |none=>none
    |_=>none
   |_=>none
  |none=>none
 |_,_=>none
def mB(P:a6)(T:a1)(H:Heap)(m k x:AV):eQ:=
 match jg P T,m,k,x with
 |some (a,_),.map b,.p key,.p v=>match H[b]? with
  |some (.map false es)=>match mj P a es key with
   |some _=>some (fA P a key=true,{v:=.p (.aE []),ak:=[(b,.map false es)],aJ:=[(b,.map false (gz es key v))]})
   |none=>none
  |_=>none
 |_,_,_,_=>none
def rX(P:a6)(T:a1)(n:Nat)(x:AV):eQ:=
 match x with
 | .p (.str s)=>some (il P T=true,{v:=.ptr n [],aU:=[.dA s 0]})
 |_=>none
def sJ(H:Heap)(it:AV):eQ:=
 match it with
 | .ptr b []=>match H[b]? with
  |some (.dA s pos)=>some (True,if pos<s.length then
   {v:=.p (.aE [.bool true,.int .i64 pos,.int .i32 (b5 (gp s) pos).1]),ak:=[(b,.dA s pos)],aJ:=[(b,.dA s (pos+(b5 (gp s) pos).2))]}
   else{v:=.p (.aE [.bool false]),ak:=[(b,.dA s pos)]})
  |_=>none
 |_=>none
def sL(P:a6)(T:a1)(n:Nat)(l c:AV):eQ:=
 match cL P T,cO P (eH P T),l,c with
 |some sz,some z,.p (.int .i64 l),.p (.int .i64 c)=>some (bJ P (aM z)=sz/\0<=l/\l=c/\l<=di,{v:=.sl n 0 sz 0 l.toNat,aU:=[.arr .exact 0 sz (cy l.toNat (.p z))]})
 |_,_,_,_=>none
def copyV(P:a6)(T:a1)(H:Heap)(d x:AV):eQ:=
 match cL P T,d,gK H x with
 |some sz,.sl b aw aj off len,some xs=>match H[b]? with
  |some (.arr k c a es)=>some ((aj=sz/\fe P sz xs)/\aw=c/\aj=a/\k≠ .frozen/\off+len<=es.length/\¬(k.gr=true/\es=[]),
   {v:=.p (.int .i64 (min xs.length len:Nat)),ak:=(b,.arr k c a es)::dD H x,aJ:=[(b,.arr k c a (es.take off++xs.take (min xs.length len)++es.drop (off+min xs.length len)))]})
  |_=>none
 |_,_,_=>none
def rR(x:AV):eQ:=
 match x with
 | .ptr _ _| .b7 _ _ _ _ _| .p (.cw _)=>some (True,{v:=x})
 |_=>none
def kP(b:Bool)(c:List AV):eQ:=
 match c with
 | .p (.int k a)::r=>match mc k b r a with
  |some n=>some (True,{v:=.p (.int k n)})
  |none=>none
 |_=>none
def sy(f:a8)(fi ca:List AV):eQ:=
 match eU fi,eU ca with
 |some a,some b=>some (True,{v:=.p (.func f a b)})
 |_,_=>some (True,{v:=.func f fi ca})
end
section
variable{P:a6}{ah:a8->Bool}
def sF(c a b:AV):eQ:=
 match c with
 | .p (.bool t)=>some (True,{v:=if t then a else b})
 |_=>none
def sj(P:a6)(T:a1)(n:Nat):eQ:=
 match cO P T with
 |some z=>some (kindOf P T=aM z/\aM z≠.bad/\ji T (aM z)=true,{v:=.ptr n [],aU:=[.box false (.p z)]})
 |none=>none
def u7(P:a6)(T:a1)(n:Nat)(x:AV):eQ:=some (kindOf P T=aa x/\aa x≠.bad/\ji T (aa x)=true,{v:=.ptr n [],aU:=[.box false x]})
def se(P:a6)(T:a1)(a:List (Nat×AV)):eQ:=
 match kindOf P T,cO P T with
 | .agg u,some z=>match dO P u with
  |some l=>some (aM z=.agg u/\mb P l a,{v:=gW u (ij ((cH z).map .p) a)})
  |none=>none
 |_,_=>none
def rq(P:a6)(T:a1)(n:Nat)(a:List (Nat×AV))(b:Nat):eQ:=
 match cL P T,cO P (eH P T)with
 |some sz,some z=>some (bJ P (aM z)=sz/\n*sz<=1000000/\mb P (cy n sz) a,{v:=.sl b 0 sz 0 n,aU:=[.arr .exact 0 sz (ij (cy n (.p z)) a)]})
 |_,_=>none
def vk(op:bb)(k:bi)(a b:Int):Prop×PV:=
 match op with
 | .add=>(True,.int k (k.wrap (a+b)))
 | .sub=>(True,.int k (k.wrap (a-b)))
 | .mul=>(True,.int k (k.wrap (a*b)))
 | .quo=>(b≠0,.int k (k.wrap (a.tdiv b)))
 | .rem=>(b≠0,.int k (a.tmod b))
 | .and=>(True,.int k (k.wrap (ax k.bits a&&&ax k.bits b).toNat))
 | .or=>(True,.int k (k.wrap (ax k.bits a|||ax k.bits b).toNat))
 | .xor=>(True,.int k (k.wrap (ax k.bits a^^^ax k.bits b).toNat))
 | .andNot=>(True,.int k (k.wrap (ax k.bits a&&&~~~ax k.bits b).toNat))
 | .eql=>(True,.bool (a==b))
 | .neq=>(True,.bool (a !=b))
 | .lss=>(True,.bool (decide (a<b)))
 | .leq=>(True,.bool (decide (a<=b)))
 | .gtr=>(True,.bool (decide (a>b)))
 | .geq=>(True,.bool (decide (a>=b)))
 | .shl=>(0<=b,.int k (k.wrap (a*2^(min b.toNat k.bits))))
 | .shr=>(0<=b,.int k (a.fdiv (2^(min b.toNat k.bits))))
theorem auN{op:bb}{k:bi}{a b:Int}{K:PV->Prop}(h:(vk op k a b).1)(hk:K (vk op k a b).2):qG op k a b K:=by
 cases op<;>simp only[vk,qG]at*<;>first|exact hk|exact⟨h,hk⟩
def FO(op:bb)(a b:List Nat):Option (Prop×PV):=
 match op with
 | .add=>some (a.length+b.length<9223372036854775808,.str (a++b))
 | .eql=>some (True,.bool (a==b))
 | .neq=>some (True,.bool (!(a==b)))
 | .lss=>some (True,.bool (jc a b))
 | .leq=>some (True,.bool (jc a b||a==b))
 | .gtr=>some (True,.bool (!(jc a b||a==b)))
 | .geq=>some (True,.bool (!(jc a b)))
 |_=>none
def jh(P:a6)(op:bb)(T:a1)(c:Bool)(H:Heap)(x y:AV):eQ:=
 match x,y with
 | .p (.int k a),.p (.int d b)=>some ((k=d\/op=.shl\/op=.shr)/\(vk op k a b).1,{v:=.p (vk op k a b).2})
 | .p (.str a),.p (.str b)=>match FO op a b with
  |some (p,v)=>some (p,{v:=.p v})
  |none=>none
 | .p (.bool a),.p (.bool b)=>match op with
  | .eql=>some (rU P T=true,{v:=.p (.bool (a==b))})
  | .neq=>some (rU P T=true,{v:=.p (.bool (!(a==b)))})
  |_=>none
 | .p (.st u fs),.p (.st u' gs)=>match ic P 9 T (.st u fs) (.st u' gs),op with
  |some r,.eql=>some (sV P T=true,{v:=.p (.bool r)})
  |some r,.neq=>some (sV P T=true,{v:=.p (.bool !r)})
  |_,_=>none
 |x,y=>match dC P T c y with
  |some k=>match cW H k x,op with
   |some r,.eql=>some (True,{v:=.p (.bool r),ak:=dD H x})
   |some r,.neq=>some (True,{v:=.p (.bool !r),ak:=dD H x})
   |_,_=>none
  |none=>none
theorem KW{op:bb}{T:a1}{c:Bool}{H:Heap}{x y:AV}{k:vx}{K:PV->Prop}(hk:dC P T c y=some k):ku P op T c H x y K=(match cW H k x,op with
  |some r,.eql=>K (.bool r)
  |some r,.neq=>K (.bool !r)
  |_,_=>False):=by
 have a:=hk;rcases J5 hk with⟨rfl,rfl,_⟩|⟨rfl,rfl,_⟩|⟨rfl,rfl,_⟩|⟨rfl,rfl,_⟩|⟨rfl,rfl,_⟩
 all_goals
  unfold ku;cases x with
  |p v=>
   cases v<;>simp only[a]<;>(generalize cW H _ _=r;cases r<;>cases op<;>rfl)
  |_=>simp only[a];(generalize cW H _ _=r;cases r<;>cases op<;>rfl)
theorem Zz{op:bb}{T:a1}{c:Bool}{H:Heap}{x y:AV}:Can (fun K=>ku P op T c H x y (fun v=>K {v:=.p v,ak:=dD H x})) (jh P op T c H x y):=by
 intro K h;unfold jh at h;unfold ku
 split at h
 ·exact⟨h.1.1,auN h.1.2 h.2⟩
 ·split at h
  ·rename_i p v a;simp only[bg]at h;show qE op _ _ _;unfold FO at a
   split at a<;>first
    |(simp only[fm,Prod.mk.injEq]at a
      obtain⟨b,d⟩:=a;rw[<-b,<-d]at h;simp only[qE]
      first|exact h.2|exact⟨h.1,h.2⟩)
    |cases a
  ·exact h.elim
 ·split at h
  ·exact⟨h.1,h.2⟩
  ·exact⟨h.1,h.2⟩
  ·exact h.elim
 ·split at h
  ·rename_i e;simp only[bg]at h;simp only[e];exact⟨h.1,h.2⟩
  ·rename_i e;simp only[bg]at h;simp only[e];exact⟨h.1,h.2⟩
  ·exact h.elim
 ·rename_i b d f g
  split at h
  case h_2=>exact h.elim
  rename_i k hk;clear b d f g;show ku P op T c H x y _;rw[KW hk];generalize cW H k x=q at h⊢;cases q<;>cases op<;>first|exact h.elim|exact h.2
def tq(op:UnOp)(x:AV):eQ:=
 match op,x with
 | .not,.p (.bool b)=>some (True,{v:=.p (.bool (!b))})
 | .neg,.p (.int k n)=>some (True,{v:=.p (.int k (k.wrap (0-n)))})
 | .xor,.p (.int k n)=>some (True,{v:=.p (.int k (k.wrap (ax k.bits (if k.signed then -1 else k.max)^^^ax k.bits n).toNat))})
 |_,_=>none
def sv(P:a6)(S D:a1)(H:Heap)(x:AV):eQ:=
 match P.underlying S,P.underlying D,x with
 |some _,some (.int k),.p (.int _ n)=>some (True,{v:=.p (.int k (k.wrap n))})
 |some _,some .string,.p (.str s)=>some (True,{v:=.p (.str s)})
 |some (.slice e),some .string,.sl b aw aj off len=>match H[b]? with
  |some (.arr k c a es)=>match bytesOf ((es.drop off).take len)with
   |some l=>some ((aw=c/\aj=a/\aj=1/\P.underlying e=some (.int .u8)/\0<len/\off+len<=es.length),{v:=.p (.str l),ak:=[(b,.arr k c a es)]})
   |none=>none
  |_=>none
 |_,_,_=>none
def rJ(t:AV)(i:Nat):eQ:=
 match t with
 | .p (.aE vs)=>match vs[i]? with
  |some v=>some (True,{v:=.p v})
  |none=>none
 | .aE vs=>match vs[i]? with
  |some v=>some (True,{v})
  |none=>none
 |_=>none
def sq(P:a6)(T:a1)(x i:AV):eQ:=
 match x,i with
 | .p (.str s),.p (.int _ i)=>match s[i.toNat]? with
  |some c=>some (il P T=true/\0<=i,{v:=.p (.int .u8 c)})
  |none=>none
 | .p (.st u es),.p (.int _ i)=>match gV P T,(jr P u)[i.toNat]?,es[i.toNat]? with
  |some (u',n),some F,some g=>some (u'=u/\0<=i/\i.toNat<n/\kindOf P F=aM g,{v:=.p g})
  |_,_,_=>none
 |_,_=>none
def sZ(P:a6)(T:a1)(n:Nat)(H:Heap)(x:AV):eQ:=
 match lenOf H x with
 |some (m,ak)=>some (gR P T x=true/\0<n,{v:=.p (.int .i64 m),ak})
 |none=>none
def kU(P:a6)(ah:a8->Bool)(o:Oper)(e:Env)(H:Heap)(K:aY->Prop):Prop:=
 match o.op with
 | .move x| .assign x=>K {v:=ev e x}
 | .pick c a b=>bg (sF (ev e c) (ev e a) (ev e b)) K
 | .alloc T=>bg (sj P T H.length) K
 | .box T x=>bg (u7 P T H.length (ev e x)) K
 | .build T parts=>bg (se P T (parts.toList.map fun(i,x)=>(i,ev e x))) K
 | .buildSlice T n parts=>bg (rq P T n (parts.toList.map fun(i,x)=>(i,ev e x)) H.length) K
 | .load T a=>bg (qH P T H (ev e a)) K
 | .store T a x=>bg (qw P T H (ev e a) (ev e x)) K
 | .binOp op T x y _=>bg (jh P op T (mC y) H (ev e x) (ev e y)) K
 | .unOp op _ x=>bg (tq op (ev e x)) K
 | .convert S D x=>bg (sv P S D H (ev e x)) K
 | .extract t i=>bg (rJ (ev e t) i) K
 | .fieldAddr T a f=>bg (pT P T (ev e a) f) K
 | .indexAddr T x i=>bg (pS P T H (ev e x) (ev e i)) K
 | .index T x i=>bg (sq P T (ev e x) (ev e i)) K
 | .slice T x lo hi none=>bg (qy P T H (ev e x) (lo.map (ev e)) (hi.map (ev e))) K
 | .lookup T x i ok=>bg (sB P T H (ev e x) (ev e i) ok) K
 | .mapUpdate T m k x| .insert T m k x=>bg (mB P T H (ev e m) (ev e k) (ev e x)) K
 | .range T x=>bg (rX P T H.length (ev e x)) K
 | .next it true=>bg (sJ H (ev e it)) K
 | .makeSlice T l c=>bg (sL P T H.length (ev e l) (ev e c)) K
 | .nilCheck x=>bg (rR (ev e x)) K
 | .call c=>match c.callee with
  | .builtin .len=>(match c.args.toList with
   |[x]=>bg (sZ P (c.argTypes.getD 0 0) c.argTypes.size H (ev e x)) K
   |_=>False)
  | .builtin .append=>(match c.args.toList with
   |[s,x]=>c.argTypes.size=2/\bg (qu P (c.argTypes.getD 0 0) (c.argTypes.getD 1 0) H (ev e s) (ev e x)) K
   |_=>False)
  | .builtin .copy=>(match c.args.toList with
   |[d,x]=>c.argTypes.size=2/\bg (copyV P (c.argTypes.getD 0 0) H (ev e d) (ev e x)) K
   |_=>False)
  | .builtin .min=>bg (kP false (c.args.toList.map (ev e))) K
  | .builtin .max=>bg (kP true (c.args.toList.map (ev e))) K
  |_=>fE P ah o (ev e) H K
 |_=>fE P ah o (ev e) H K
theorem OH{o:Oper}{e:Env}{H:Heap}{K:aY->Prop}(h:kU P ah o e H K):fE P ah o (ev e) H K:=by
 unfold kU at h;unfold fE;cases w:o.op<;>simp only[w]at h<;>simp only
 case move|assign=>exact h
 case pick c a b=>
  unfold sF at h
  split at h
  ·rename_i hc;simp only[hc];exact h.2
  ·exact h.elim
 case alloc T=>
  unfold sj at h
  split at h
  ·rename_i v;simp only[bg]at h;simp only[v];exact⟨h.1.1,h.1.2.1,h.1.2.2,h.2⟩
  ·exact h.elim
 case box T x=>exact⟨h.1.1,h.1.2.1,h.1.2.2,h.2⟩
 case build T parts=>
  unfold se at h
  split at h
  ·rename_i hk v
   split at h
   ·rename_i A;simp only[bg]at h;simp only[hk,v,A];exact⟨h.1.1,h.1.2,h.2⟩
   ·exact h.elim
  ·exact h.elim
 case buildSlice T n parts=>
  unfold rq at h
  split at h
  ·rename_i hk v;simp only[bg]at h;simp only[hk,v];exact⟨h.1.1,h.1.2.1,h.1.2.2,h.2⟩
  ·exact h.elim
 case load T a=>exact YL K h
 case store T a x=>exact Xv K h
 case binOp op T x y O=>exact Zz K h
 case unOp op T x=>
  unfold tq at h
  split at h
  ·rename_i hx;simp only[hx];exact h.2
  ·rename_i hx;simp only[hx];exact h.2
  ·rename_i hx;simp only[hx];exact h.2
  ·exact h.elim
 case convert S D x=>
  unfold sv at h
  split at h
  ·rename_i g j p;simp only[g,j,p];exact h.2
  ·rename_i g j p;simp only[g,j,p];exact h.2
  ·rename_i g j p
   split at h
   ·rename_i q
    split at h
    ·rename_i A;obtain⟨⟨B,a2,a3,a4,a5,C⟩,h⟩:=h;simp only[g,j,p,q,A];exact⟨B,a2,a3,a4,a5,C,h⟩
    ·exact h.elim
   ·exact h.elim
  ·exact h.elim
 case extract t i=>
  unfold rJ at h
  split at h
  ·rename_i F
   split at h
   ·rename_i G;simp only[F,G];exact h.2
   ·exact h.elim
  ·rename_i F
   split at h
   ·rename_i G;simp only[F,G];exact h.2
   ·exact h.elim
  ·exact h.elim
 case fieldAddr T a f=>exact TW K h
 case indexAddr T x i=>exact TV K h
 case index T x i=>
  unfold sq at h
  split at h
  ·rename_i hx hi
   split at h
   ·rename_i c hc;obtain⟨L,rfl⟩:=cx.1 hc;simp only[hx,hi];exact⟨h.1.1,h.1.2,L,h.2⟩
   ·exact h.elim
  ·rename_i hx hi
   split at h
   ·rename_i g j p;obtain⟨⟨g1,g2,g3,g4⟩,h⟩:=h;simp only[hx,hi,g,j,p];exact⟨g1,g2,g3,g4,h⟩
   ·exact h.elim
  ·exact h.elim
 case slice T x lo hi N=>
  cases N with
  |none=>exact Xw K h
  |some m=>simp only[fE,w]at h;exact h
 case lookup T x i ok=>
  unfold sB at h
  split at h
  case h_2=>exact h.elim
  rename_i M hi;simp only[M,hi]
  split at h
  case h_2=>exact h.elim
  rename_i z v;simp only[v]
  split at h
  ·rename_i hx;simp only[hx];exact h
  ·rename_i Q hx;simp only[hx]
   split at h
   case h_2=>exact h.elim
   rename_i r u;refine⟨h.1,?_⟩;simp only[u];cases r<;>exact h.2
  ·rename_i b hx;simp only[hx]
   split at h
   case h_2=>exact h.elim
   rename_i q
   split at h
   case h_2=>exact h.elim
   rename_i r u;refine⟨h.1,?_⟩;simp only[q,u];cases r<;>exact h.2
  ·exact h.elim
 case mapUpdate T m k x|insert T m k x=>
  unfold mB at h
  split at h
  case h_2=>exact h.elim
  rename_i g j p E;simp only[g,j,p,E]
  split at h
  case h_2=>exact h.elim
  rename_i q
  split at h
  case h_2=>exact h.elim
  rename_i u;refine⟨h.1,?_⟩;simp only[q,u];exact h.2
 case range T x=>
  unfold rX at h
  split at h
  ·rename_i hx;simp only[hx];exact h
  ·exact h.elim
 case next it s=>
  cases s with
  |false=>simp only[fE,w]at h
  |true=>
   dsimp only at h⊢;unfold sJ at h
   split at h
   case h_2=>exact h.elim
   rename_i hx;simp only[hx]
   split at h
   case h_2=>exact h.elim
   rename_i q;simp only[q];have h:=h.2
   split
   ·rename_i hc;rw[if_pos hc]at h;exact h
   ·rename_i hc;rw[if_neg hc]at h;exact h
 case makeSlice T l c=>
  unfold sL at h
  split at h
  ·rename_i g j p E;simp only[g,j,p,E];exact⟨h.1.1,h.1.2.1,h.1.2.2.1,h.1.2.2.2,h.2⟩
  ·exact h.elim
 case nilCheck x=>
  unfold rR at h
  split at h
  ·rename_i hx;simp only[hx];rw[hx]at h;exact h.2
  ·rename_i hx;simp only[hx];rw[hx]at h;exact h.2
  ·rename_i hx;simp only[hx];rw[hx]at h;exact h.2
  ·exact h.elim
 case call c=>
  split at h
  ·rename_i hc
   split at h
   ·rename_i x hx;unfold sZ at h
    split at h
    ·rename_i A;simp only[bg]at h;simp only[hc,hx,db,dz,A];exact⟨h.1.1,h.1.2,h.2⟩
    ·exact h.elim
   ·exact h.elim
  ·rename_i hc
   split at h
   ·rename_i s x hx;simp only[hc,hx,db,dz];exact⟨h.1,Vm K h.2⟩
   ·exact h.elim
  ·rename_i hc
   split at h
   ·rename_i d x hx;simp only[hc,hx,db,dz];obtain⟨J,h⟩:=h;unfold copyV at h
    split at h
    case h_2=>exact h.elim
    rename_i g j p
    split at h
    case h_2=>exact h.elim
    rename_i q;simp only[bg]at h;obtain⟨⟨⟨B,a2⟩,a3,a4,a5,C,I⟩,hk⟩:=h;simp only[g,j,p,q];exact⟨B,a2,J,a3,a4,a5,C,I,hk⟩
   ·exact h.elim
  ·rename_i hc;unfold kP at h
   split at h
   case h_2=>exact h.elim
   rename_i hx
   split at h
   case h_2=>exact h.elim
   rename_i u;simp only[hc,hx,u];exact h.2
  ·rename_i hc;unfold kP at h
   split at h
   case h_2=>exact h.elim
   rename_i hx
   split at h
   case h_2=>exact h.elim
   rename_i u;simp only[hc,hx,u];exact h.2
  ·unfold fE at h;simp only[w]at h;exact h
 all_goals first
  |exact h
  |(unfold fE at h
    simp only[w]at h;exact h)
  |(unfold fE at h
    simp only[w]at h)
end
section
variable{P:a6}{ah:a8->Bool}
def eB(dst:Option Tmp)(s:St)(K:St->Prop)(e:aY):Prop:=K (e.app dst s)
def BA(dst:Option Tmp)(s:St)(K:St->Prop)(v:AV)(H:Heap):Prop:=K ⟨put dst v s.env,H⟩
def sx(P:a6)(f:AV)(args:List AV)(H:Heap)(K:AV->Heap->Prop):Prop:=
 match f with
 | .p (.func g fi ca)=>gO P false g (fi.map .p++args++ca.map .p) H K
 | .func g fi ca=>gO P false g (fi++args++ca) H K
 | .map b=>∃H' v,iq P b H args H' v/\K v H'
 |_=>False
def sd(P:a6)(f:AV)(args:List AV)(H:Heap)(K:aY->Prop):Prop:=
 match f with
 | .p (.func g fi ca)=>gU P g (fi.map .p++args++ca.map .p) H K
 | .func g fi ca=>gU P g (fi++args++ca) H K
 | .map b=>∃e,uL P b args H.length e/\qJ H e/\K e
 |_=>False
def dv(P:a6)(ah:a8->Bool)(o:Oper)(K:St->Prop)(s:St):Prop:=
 match o.op with
 | .call {callee:=.value f,args,.. }=>sx P (ev s.env f) (args.toList.map (ev s.env)) s.heap (BA o.dst s K)
 |_=>kU P ah o s.env s.heap (eB o.dst s K)
def dw(P:a6)(ah:a8->Bool)(o:Oper)(s:St)(K:aY->Prop):Prop:=
 match o.op with
 | .call {callee:=.value f,args,.. }=>sd P (ev s.env f) (args.toList.map (ev s.env)) s.heap K
 |_=>kU P ah o s.env s.heap K
theorem WK{o:Oper}{K:St->Prop}{s:St}(h:dv P ah o K s):jA P ah false o K s:=by
 unfold dv at h;unfold jA
 split at h
 ·rename_i f args b a;simp only[a];unfold sx at h
  split at h
  ·rename_i hf;simp only[hf];exact h
  ·rename_i hf;simp only[hf];exact h
  ·rename_i hf;simp only[hf];exact h
  ·exact h.elim
 ·rename_i c
  split
  ·rename_i f args b a;exact(c _ _ _ a).elim
  ·exact OH h
theorem WT{o:Oper}{K:aY->Prop}{s:St}(h:dw P ah o s K):jj P ah o s K:=by
 unfold dw at h;unfold jj
 split at h
 ·rename_i f args b a;simp only[a];unfold sd at h
  split at h
  ·rename_i hf;simp only[hf];exact h
  ·rename_i hf;simp only[hf];exact h
  ·rename_i hf;simp only[hf];exact h
  ·exact h.elim
 ·rename_i c
  split
  ·rename_i f args b a;exact(c _ _ _ a).elim
  ·exact OH h
def fX(P:a6)(ah:a8->Bool)(a:Array Oper):List Oper->(St->Prop)->St->Prop
 |[],K,s=>K s
 |o::r,K,s=>match o.guard with
  |none=>dv P ah o (fX P ah a r K) s
  |some (j,want)=>match guardOf a j s.env with
   | .p (.bool t)=>if t=want then dv P ah o (fX P ah a r K) s else fX P ah a r K ⟨put o.dst (.p (.aE [])) s.env,s.heap⟩
   | .p (.aE [])=>fX P ah a r K ⟨put o.dst (.p (.aE [])) s.env,s.heap⟩
   |_=>False
def gl(P:a6)(ah:a8->Bool)(a:Array Oper):List Oper->Nat->List Touch->(St->Prop)->St->Prop
 |[],_,acc,K,s=>kj a acc=true/\K s
 |o::r,i,acc,K,s=>match o.guard with
  |none=>dw P ah o s fun e=>gl P ah a r (i+1) (gP i s.heap.length e acc) K (e.app o.dst s)
  |some (j,want)=>match guardOf a j s.env with
   | .p (.bool t)=>if t=want then dw P ah o s fun e=>gl P ah a r (i+1) (gP i s.heap.length e acc) K (e.app o.dst s)
    else gl P ah a r (i+1) acc K ⟨put o.dst (.p (.aE [])) s.env,s.heap⟩
   | .p (.aE [])=>gl P ah a r (i+1) acc K ⟨put o.dst (.p (.aE [])) s.env,s.heap⟩
   |_=>False
theorem Al{b:Array Oper}:∀(l:List Oper){K a:St->Prop}{s:St},(∀s,K s->a s)->fX P ah b l K s->gQ P ah false b l a s
 |[],K,a,s,hk,h=>by simp only[fX]at h;simp only[gQ];exact hk s h
 |o::l,K,a,s,hk,h=>by
  have go:dv P ah o (fX P ah b l K) s->jA P ah false o (gQ P ah false b l a) s:=fun h=>by
   obtain⟨t,f,g⟩:=Kz false o s _ (WK h);exact g _ (Al l hk f)
  simp only[fX]at h;simp only[gQ]
  split at h
  ·rename_i c;simp only[c];exact go h
  ·rename_i j i c;simp only[c]
   split at h
   ·rename_i t d;simp only[d]
    split at h
    ·rename_i e;rw[if_pos e];exact go h
    ·rename_i e;rw[if_neg e];exact Al l hk h
   ·rename_i d;simp only[d];exact Al l hk h
   ·exact h.elim
theorem zL{c:Array Oper}:∀(l:List Oper){i:Nat}{a:List Touch}{K b:St->Prop}{s:St},(∀s,K s->b s)->gl P ah c l i a K s->gh P ah c l i a b s
 |[],i,a,K,b,s,hk,h=>by simp only[gl]at h;simp only[gh];exact⟨h.1,hk s h.2⟩
 |o::l,i,a,K,b,s,hk,h=>by
  have go:dw P ah o s (fun e=>gl P ah c l (i+1) (gP i s.heap.length e a) K (e.app o.dst s))->jj P ah o s (fun e=>gh P ah c l (i+1) (gP i s.heap.length e a) b (e.app o.dst s)):=fun h=>by
   obtain⟨e,k,m⟩:=KA o s _ (WT h);exact m _ (zL l hk k)
  simp only[gl]at h;simp only[gh]
  split at h
  ·rename_i d;simp only[d];exact go h
  ·rename_i j n d;simp only[d]
   split at h
   ·rename_i t f;simp only[f]
    split at h
    ·rename_i g;rw[if_pos g];exact go h
    ·rename_i g;rw[if_neg g];exact zL l hk h
   ·rename_i f;simp only[f];exact zL l hk h
   ·exact h.elim
def uT(v:AV)(a b:St->Prop)(s:St):Prop:=
 match v with
 | .p (.bool t)=>if t then a s else b s
 |_=>False
def vp(K:St->Prop)(Q:bA->St->Prop)(e:bA)(s:St):Prop:=
 match e with
 | .normal=>K s
 |e=>Q e s
def dt(P:a6)(ah:a8->Bool)(q:Cx):Code->(bA->St->Prop)->St->Prop
 | .skip,Q,s| .label _,Q,s=>Q .normal s
 | .region _ ops draw,Q,s=>if draw then gl P ah ops ops.toList 0 [] (Q .normal) s else fX P ah ops ops.toList (Q .normal) s
 | .seq a b,Q,s=>dt P ah q a (vp (dt P ah q b Q) Q) s
 | .cond c a b,Q,s=>uT (ev s.env c) (dt P ah q a Q) (dt P ah q b Q) s
 | .block id b,Q,s=>dt P ah q b (ou id Q) s
 | .scope b,Q,s=>dt P ah q b Q s
 | .loop b,Q,s=>∃I:Nat->St->Prop,(∃n t,cV q.2 s t/\I n t)/\∀n t,I n t->dt P ah q b (uN q.2 n I Q) t
 | .rangeFunc f d a b,Q,s=>q.2<=s.heap.length/\jJ P (ev s.env f) s.heap.length (s.heap++[.loop ⟨.ready,none,q.1,d.toList,a,b,s.env⟩]) (iR s.heap.length s.env Q)
 | .exit id,Q,s=>Q (.exit id) s
 | .ret,Q,s=>Q .ret s
 |_,_,_=>False
theorem W1{Q a:bA->St->Prop}(hq:∀e s,Q e s->a e s){j:Option Code}{s:St}(h:jM Q j s):jM a j s:=by
 unfold jM at h⊢
 split at h
 ·exact hq _ _ h
 ·exact hq _ _ h
 ·exact hq _ _ h
 ·exact h.elim
theorem Kj{Q a:bA->St->Prop}(hq:∀e s,Q e s->a e s){b:Nat}{env:Env}{H:Heap}(h:iR b env Q H):iR b env a H:=by
 unfold iR at h⊢
 split at h
 ·exact⟨h.1,W1 hq h.2⟩
 ·exact h.elim
theorem Kf{it:AV}{b:Nat}{H:Heap}{K d:Heap->Prop}(hk:∀H,K H->d H)(h:jJ P it b H K):jJ P it b H d:=by
 unfold jJ at h⊢
 split at h
 ·obtain⟨H',v,a,c⟩:=h;exact⟨H',v,a,hk _ c⟩
 ·obtain⟨H',v,a,c⟩:=h;exact⟨H',v,a,hk _ c⟩
 ·exact h.elim
theorem lZ{q:Cx}:∀(c:Code){Q Q':bA->St->Prop}{s:St},(∀e s,Q e s->Q' e s)->dt P ah q c Q s->cd P ah q c Q' s
 | .skip,Q,Q',s,hq,h| .label _,Q,Q',s,hq,h=>by simp only[dt]at h;simp only[cd];exact hq _ _ h
 | .exit _,Q,Q',s,hq,h| .ret,Q,Q',s,hq,h=>by simp only[dt]at h;simp only[cd];exact hq _ _ h
 | .region id ops draw,Q,Q',s,hq,h=>by
  simp only[dt]at h;simp only[cd]
  split at h
  ·rename_i j;rw[if_pos j];exact zL _ (hq _) h
  ·rename_i j;rw[if_neg j];exact Al _ (hq _) h
 | .seq a b,Q,Q',s,hq,h=>by
  simp only[dt]at h;simp only[cd];refine lZ a (fun e s d=>?_) h;cases e with
  |normal=>exact lZ b hq d
  |exit id=>exact hq _ _ d
  |ret=>exact hq _ _ d
 | .cond c a b,Q,Q',s,hq,h=>by
  simp only[dt]at h;simp only[cd];unfold uT at h
  split at h
  ·rename_i t m;simp only[m]
   split at h
   ·rename_i g;rw[if_pos g];exact lZ a hq h
   ·rename_i g;rw[if_neg g];exact lZ b hq h
  ·exact h.elim
 | .block id b,Q,Q',s,hq,h=>by
  simp only[dt]at h;simp only[cd];refine lZ b (fun e s d=>?_) h;cases e with
  |normal=>exact hq _ _ d
  |exit i=>
   simp only[ou]at d
   by_cases hi:i=id
   ·simp only[hi,if_true]at d⊢;exact hq _ _ d
   ·simp only[hi,if_false]at d⊢;exact hq _ _ d
  |ret=>exact hq _ _ d
 | .scope b,Q,Q',s,hq,h=>by simp only[dt]at h;simp only[cd];exact lZ b hq h
 | .loop b,Q,Q',s,hq,h=>by
  simp only[dt]at h;simp only[cd];obtain⟨I,k,l⟩:=h;refine⟨I,k,fun n t hI=>lZ b (fun e s d=>?_) (l n t hI)⟩;cases e with
  |normal=>exact d
  |exit id=>exact hq _ _ d
  |ret=>exact hq _ _ d
 | .rangeFunc f o a b,Q,Q',s,hq,h=>by
  simp only[dt]at h;simp only[cd];exact⟨h.1,s.env,fun _=>rfl,Kf (fun H=>Kj hq) h.2⟩
 | .goto _,_,_,_,_,h| .refuse _,_,_,_,_,h=>by simp[dt]at h
end
section
variable{P:a6}{ah:a8->Bool}{q:Cx}
theorem Od{Q:bA->St->Prop}{s:St}:dt P ah q .skip Q s=Q .normal s:=(rfl)
theorem MR{l:Nat}{Q:bA->St->Prop}{s:St}:dt P ah q (.label l) Q s=Q .normal s:=(rfl)
theorem Oe{id:Nat}{Q:bA->St->Prop}{s:St}:dt P ah q (.exit id) Q s=Q (.exit id) s:=(rfl)
theorem RY{Q:bA->St->Prop}{s:St}:dt P ah q .ret Q s=Q .ret s:=(rfl)
theorem MP{b:Code}{Q:bA->St->Prop}{s:St}:dt P ah q (.scope b) Q s=dt P ah q b Q s:=(rfl)
theorem Of{id:Nat}{l:List Oper}{Q:bA->St->Prop}{s:St}:dt P ah q (.region id l.toArray true) Q s=gl P ah l.toArray l 0 [] (Q .normal) s:=by simp[dt]
theorem MQ{id:Nat}{l:List Oper}{Q:bA->St->Prop}{s:St}:dt P ah q (.region id l.toArray false) Q s=fX P ah l.toArray l (Q .normal) s:=by simp[dt]
theorem RZ{a b:Code}{Q:bA->St->Prop}{s:St}:dt P ah q (.seq a b) Q s=dt P ah q a (vp (dt P ah q b Q) Q) s:=(rfl)
theorem MS{id:Nat}{b:Code}{Q:bA->St->Prop}{s:St}:dt P ah q (.block id b) Q s=dt P ah q b (ou id Q) s:=(rfl)
theorem Og{c:a7}{a b:Code}{Q:bA->St->Prop}{s:St}:dt P ah q (.cond c a b) Q s=uT (ev s.env c) (dt P ah q a Q) (dt P ah q b Q) s:=(rfl)
theorem Jo{K:St->Prop}{Q:bA->St->Prop}{s:St}:vp K Q .normal s=K s:=(rfl)
theorem KC{id:Nat}{K:St->Prop}{Q:bA->St->Prop}{s:St}:vp K Q (.exit id) s=Q (.exit id) s:=(rfl)
theorem Lx{K:St->Prop}{Q:bA->St->Prop}{s:St}:vp K Q .ret s=Q .ret s:=(rfl)
theorem JK{t:Bool}{a b:St->Prop}{s:St}:uT (.p (.bool t)) a b s=if t then a s else b s:=(rfl)
def yd(P:a6)(ah:a8->Bool)(b:Array Oper)(r:List Oper)(i:Nat)(a:List Touch)(K:St->Prop)(dst:Option Tmp)(s:St)(e:aY):Prop:=
 gl P ah b r (i+1) (gP i s.heap.length e a) K (e.app dst s)
theorem L4{b:Array Oper}{r:List Oper}{i:Nat}{a:List Touch}{K:St->Prop}{dst:Option Tmp}{env:Env}{heap:Heap}{v:AV}{ak aJ:List (Nat×Obj)}{aU:List Obj}:
 yd P ah b r i a K dst ⟨env,heap⟩ ⟨v,ak,aJ,aU⟩=gl P ah b r (i+1) (gP i heap.length ⟨v,ak,aJ,aU⟩ a) K ⟨put dst v env,bf heap aJ++aU⟩:=(rfl)
theorem NK{dst:Option Tmp}{env:Env}{heap:Heap}{K:St->Prop}{v:AV}{ak aJ:List (Nat×Obj)}{aU:List Obj}:eB dst ⟨env,heap⟩ K ⟨v,ak,aJ,aU⟩=K ⟨put dst v env,bf heap aJ++aU⟩:=(rfl)
theorem Nh{dst:Option Tmp}{env:Env}{heap H:Heap}{K:St->Prop}{v:AV}:BA dst ⟨env,heap⟩ K v H=K ⟨put dst v env,H⟩:=(rfl)
def Ap(P:a6)(ah:a8->Bool)(b:Array Oper)(o:Oper)(r:List Oper)(i:Nat)(a:List Touch)(K:St->Prop)(c:Bool)(s:St)(g:AV):Prop:=
 match g with
 | .p (.bool t)=>if t=c then dw P ah o s (yd P ah b r i a K o.dst s)else gl P ah b r (i+1) a K ⟨put o.dst (.p (.aE [])) s.env,s.heap⟩
 | .p (.aE [])=>gl P ah b r (i+1) a K ⟨put o.dst (.p (.aE [])) s.env,s.heap⟩
 |_=>False
def AH(P:a6)(ah:a8->Bool)(a:Array Oper)(o:Oper)(r:List Oper)(K:St->Prop)(b:Bool)(s:St)(g:AV):Prop:=
 match g with
 | .p (.bool t)=>if t=b then dv P ah o (fX P ah a r K) s else fX P ah a r K ⟨put o.dst (.p (.aE [])) s.env,s.heap⟩
 | .p (.aE [])=>fX P ah a r K ⟨put o.dst (.p (.aE [])) s.env,s.heap⟩
 |_=>False
theorem Oc{b:Array Oper}{i:Nat}{a:List Touch}{K:St->Prop}{s:St}:gl P ah b [] i a K s=(kj b a=true/\K s):=(rfl)
theorem MO{b:Array Oper}{i c:Nat}{pos:String}{a:List Touch}{K:St->Prop}{s:St}{dst:Option Tmp}{op:Op}{af:Array Edge}{r:List Oper}:
 gl P ah b ({dst,op,type:=c,pos,after:=af,guard:=none}::r) i a K s=dw P ah {dst,op,type:=c,pos,after:=af,guard:=none} s (yd P ah b r i a K dst s):=(rfl)
theorem LC{a:Array Oper}{i d j:Nat}{b:Bool}{pos:String}{c:List Touch}{K:St->Prop}{s:St}{dst:Option Tmp}{op:Op}{af:Array Edge}{r:List Oper}:
 gl P ah a ({dst,op,type:=d,pos,after:=af,guard:=some (j,b)}::r) i c K s=Ap P ah a {dst,op,type:=d,pos,after:=af,guard:=some (j,b)} r i c K b s (guardOf a j s.env):=(rfl)
theorem Oa{a:Array Oper}{K:St->Prop}{s:St}:fX P ah a [] K s=K s:=(rfl)
theorem MM{a:Array Oper}{b:Nat}{pos:String}{K:St->Prop}{s:St}{dst:Option Tmp}{op:Op}{af:Array Edge}{r:List Oper}:
 fX P ah a ({dst,op,type:=b,pos,after:=af,guard:=none}::r) K s=dv P ah {dst,op,type:=b,pos,after:=af,guard:=none} (fX P ah a r K) s:=(rfl)
theorem LB{a:Array Oper}{c j:Nat}{b:Bool}{pos:String}{K:St->Prop}{s:St}{dst:Option Tmp}{op:Op}{af:Array Edge}{r:List Oper}:
 fX P ah a ({dst,op,type:=c,pos,after:=af,guard:=some (j,b)}::r) K s=AH P ah a {dst,op,type:=c,pos,after:=af,guard:=some (j,b)} r K b s (guardOf a j s.env):=(rfl)
end
section E4
variable{P:a6}{ah:a8->Bool}{q:Cx}
end E4
section ops
variable{P:a6}{ah:a8->Bool}{dst:Option Tmp}{ty:Nat}{pos:String}{af:Array Edge}{g:Option (Nat×Bool)}{env:Env}{heap:Heap}{K:aY->Prop}{L:St->Prop}
theorem Pb{x:a7}:dw P ah ⟨dst,.move x,ty,pos,af,g⟩ ⟨env,heap⟩ K=K {v:=ev env x}:=(rfl)
theorem LZ{x:a7}:dw P ah ⟨dst,.assign x,ty,pos,af,g⟩ ⟨env,heap⟩ K=K {v:=ev env x}:=(rfl)
theorem O9{c a b:a7}:dw P ah ⟨dst,.pick c a b,ty,pos,af,g⟩ ⟨env,heap⟩ K=bg (sF (ev env c) (ev env a) (ev env b)) K:=(rfl)
theorem Nv{T:a1}:dw P ah ⟨dst,.alloc T,ty,pos,af,g⟩ ⟨env,heap⟩ K=bg (sj P T heap.length) K:=(rfl)
theorem PQ{T:a1}{x:a7}:dw P ah ⟨dst,.box T x,ty,pos,af,g⟩ ⟨env,heap⟩ K=bg (u7 P T heap.length (ev env x)) K:=(rfl)
theorem Nu{T:a1}{a:Array (Nat×a7)}:dw P ah ⟨dst,.build T a,ty,pos,af,g⟩ ⟨env,heap⟩ K=bg (se P T (a.toList.map fun(i,x)=>(i,ev env x))) K:=(rfl)
theorem I1{T:a1}{n:Nat}{a:Array (Nat×a7)}:dw P ah ⟨dst,.buildSlice T n a,ty,pos,af,g⟩ ⟨env,heap⟩ K=bg (rq P T n (a.toList.map fun(i,x)=>(i,ev env x)) heap.length) K:=(rfl)
theorem ON{T:a1}{a:a7}:dw P ah ⟨dst,.load T a,ty,pos,af,g⟩ ⟨env,heap⟩ K=bg (qH P T heap (ev env a)) K:=(rfl)
theorem Nr{T:a1}{a x:a7}:dw P ah ⟨dst,.store T a x,ty,pos,af,g⟩ ⟨env,heap⟩ K=bg (qw P T heap (ev env a) (ev env x)) K:=(rfl)
theorem PO{op:bb}{T a:a1}{x y:a7}:dw P ah ⟨dst,.binOp op T x y a,ty,pos,af,g⟩ ⟨env,heap⟩ K=bg (jh P op T (mC y) heap (ev env x) (ev env y)) K:=(rfl)
theorem PU{op:UnOp}{T:a1}{x:a7}:dw P ah ⟨dst,.unOp op T x,ty,pos,af,g⟩ ⟨env,heap⟩ K=bg (tq op (ev env x)) K:=(rfl)
theorem OP{S D:a1}{x:a7}:dw P ah ⟨dst,.convert S D x,ty,pos,af,g⟩ ⟨env,heap⟩ K=bg (sv P S D heap (ev env x)) K:=(rfl)
theorem K8{t:a7}{i:Nat}:dw P ah ⟨dst,.extract t i,ty,pos,af,g⟩ ⟨env,heap⟩ K=bg (rJ (ev env t) i) K:=(rfl)
theorem Jq{T:a1}{a:a7}{f:Nat}:dw P ah ⟨dst,.fieldAddr T a f,ty,pos,af,g⟩ ⟨env,heap⟩ K=bg (pT P T (ev env a) f) K:=(rfl)
theorem Jp{T:a1}{x i:a7}:dw P ah ⟨dst,.indexAddr T x i,ty,pos,af,g⟩ ⟨env,heap⟩ K=bg (pS P T heap (ev env x) (ev env i)) K:=(rfl)
theorem Il{T:a1}{x i:a7}:dw P ah ⟨dst,.index T x i,ty,pos,af,g⟩ ⟨env,heap⟩ K=bg (sq P T (ev env x) (ev env i)) K:=(rfl)
theorem PR{x:a7}{a:Array a1}:dw P ah ⟨dst,.call {callee:=.builtin .len,args:=#[x],argTypes:=a},ty,pos,af,g⟩ ⟨env,heap⟩ K=bg (sZ P (a.getD 0 0) a.size heap (ev env x)) K:=(rfl)
theorem OQ{f:a7}{args:List a7}{a:Array a1}:dw P ah ⟨dst,.call {callee:=.value f,args:=args.toArray,argTypes:=a},ty,pos,af,g⟩ ⟨env,heap⟩ K=sd P (ev env f) (args.map (ev env)) heap K:=(rfl)
theorem Oz{x:a7}:dv P ah ⟨dst,.move x,ty,pos,af,g⟩ L ⟨env,heap⟩=eB dst ⟨env,heap⟩ L {v:=ev env x}:=(rfl)
theorem Lh{x:a7}:dv P ah ⟨dst,.assign x,ty,pos,af,g⟩ L ⟨env,heap⟩=eB dst ⟨env,heap⟩ L {v:=ev env x}:=(rfl)
theorem Ox{c a b:a7}:dv P ah ⟨dst,.pick c a b,ty,pos,af,g⟩ L ⟨env,heap⟩=bg (sF (ev env c) (ev env a) (ev env b)) (eB dst ⟨env,heap⟩ L):=(rfl)
theorem M5{T:a1}:dv P ah ⟨dst,.alloc T,ty,pos,af,g⟩ L ⟨env,heap⟩=bg (sj P T heap.length) (eB dst ⟨env,heap⟩ L):=(rfl)
theorem Rq{T:a1}{x:a7}:dv P ah ⟨dst,.box T x,ty,pos,af,g⟩ L ⟨env,heap⟩=bg (u7 P T heap.length (ev env x)) (eB dst ⟨env,heap⟩ L):=(rfl)
theorem M0{T:a1}{a:Array (Nat×a7)}:dv P ah ⟨dst,.build T a,ty,pos,af,g⟩ L ⟨env,heap⟩=bg (se P T (a.toList.map fun(i,x)=>(i,ev env x))) (eB dst ⟨env,heap⟩ L):=(rfl)
theorem IV{T:a1}{n:Nat}{a:Array (Nat×a7)}:dv P ah ⟨dst,.buildSlice T n a,ty,pos,af,g⟩ L ⟨env,heap⟩=bg (rq P T n (a.toList.map fun(i,x)=>(i,ev env x)) heap.length) (eB dst ⟨env,heap⟩ L):=(rfl)
theorem OA{T:a1}{a:a7}:dv P ah ⟨dst,.load T a,ty,pos,af,g⟩ L ⟨env,heap⟩=bg (qH P T heap (ev env a)) (eB dst ⟨env,heap⟩ L):=(rfl)
theorem Nj{T:a1}{a x:a7}:dv P ah ⟨dst,.store T a x,ty,pos,af,g⟩ L ⟨env,heap⟩=bg (qw P T heap (ev env a) (ev env x)) (eB dst ⟨env,heap⟩ L):=(rfl)
theorem Rp{op:bb}{T a:a1}{x y:a7}:dv P ah ⟨dst,.binOp op T x y a,ty,pos,af,g⟩ L ⟨env,heap⟩=bg (jh P op T (mC y) heap (ev env x) (ev env y)) (eB dst ⟨env,heap⟩ L):=(rfl)
theorem Ru{op:UnOp}{T:a1}{x:a7}:dv P ah ⟨dst,.unOp op T x,ty,pos,af,g⟩ L ⟨env,heap⟩=bg (tq op (ev env x)) (eB dst ⟨env,heap⟩ L):=(rfl)
theorem OC{S D:a1}{x:a7}:dv P ah ⟨dst,.convert S D x,ty,pos,af,g⟩ L ⟨env,heap⟩=bg (sv P S D heap (ev env x)) (eB dst ⟨env,heap⟩ L):=(rfl)
theorem Ki{t:a7}{i:Nat}:dv P ah ⟨dst,.extract t i,ty,pos,af,g⟩ L ⟨env,heap⟩=bg (rJ (ev env t) i) (eB dst ⟨env,heap⟩ L):=(rfl)
theorem Jg{T:a1}{a:a7}{f:Nat}:dv P ah ⟨dst,.fieldAddr T a f,ty,pos,af,g⟩ L ⟨env,heap⟩=bg (pT P T (ev env a) f) (eB dst ⟨env,heap⟩ L):=(rfl)
theorem Jf{T:a1}{x i:a7}:dv P ah ⟨dst,.indexAddr T x i,ty,pos,af,g⟩ L ⟨env,heap⟩=bg (pS P T heap (ev env x) (ev env i)) (eB dst ⟨env,heap⟩ L):=(rfl)
theorem MZ{T:a1}{x i:a7}:dv P ah ⟨dst,.index T x i,ty,pos,af,g⟩ L ⟨env,heap⟩=bg (sq P T (ev env x) (ev env i)) (eB dst ⟨env,heap⟩ L):=(rfl)
theorem Rr{x:a7}{a:Array a1}:dv P ah ⟨dst,.call {callee:=.builtin .len,args:=#[x],argTypes:=a},ty,pos,af,g⟩ L ⟨env,heap⟩=bg (sZ P (a.getD 0 0) a.size heap (ev env x)) (eB dst ⟨env,heap⟩ L):=(rfl)
theorem OD{f:a7}{args:List a7}{a:Array a1}:dv P ah ⟨dst,.call {callee:=.value f,args:=args.toArray,argTypes:=a},ty,pos,af,g⟩ L ⟨env,heap⟩=sx P (ev env f) (args.map (ev env)) heap (BA dst ⟨env,heap⟩ L):=(rfl)
theorem Ns{T:a1}{x:a7}{lo hi:Option a7}:dw P ah ⟨dst,.slice T x lo hi none,ty,pos,af,g⟩ ⟨env,heap⟩ K=bg (qy P T heap (ev env x) (lo.map (ev env)) (hi.map (ev env))) K:=(rfl)
theorem MX{T:a1}{x:a7}{lo hi:Option a7}:dv P ah ⟨dst,.slice T x lo hi none,ty,pos,af,g⟩ L ⟨env,heap⟩=bg (qy P T heap (ev env x) (lo.map (ev env)) (hi.map (ev env))) (eB dst ⟨env,heap⟩ L):=(rfl)
theorem LX{T:a1}{x i:a7}{ok:Bool}:dw P ah ⟨dst,.lookup T x i ok,ty,pos,af,g⟩ ⟨env,heap⟩ K=bg (sB P T heap (ev env x) (ev env i) ok) K:=(rfl)
theorem Lf{T:a1}{x i:a7}{ok:Bool}:dv P ah ⟨dst,.lookup T x i ok,ty,pos,af,g⟩ L ⟨env,heap⟩=bg (sB P T heap (ev env x) (ev env i) ok) (eB dst ⟨env,heap⟩ L):=(rfl)
theorem JD{T:a1}{m k x:a7}:dw P ah ⟨dst,.mapUpdate T m k x,ty,pos,af,g⟩ ⟨env,heap⟩ K=bg (mB P T heap (ev env m) (ev env k) (ev env x)) K:=(rfl)
theorem Jd{T:a1}{m k x:a7}:dv P ah ⟨dst,.mapUpdate T m k x,ty,pos,af,g⟩ L ⟨env,heap⟩=bg (mB P T heap (ev env m) (ev env k) (ev env x)) (eB dst ⟨env,heap⟩ L):=(rfl)
theorem LY{T:a1}{m k x:a7}:dw P ah ⟨dst,.insert T m k x,ty,pos,af,g⟩ ⟨env,heap⟩ K=bg (mB P T heap (ev env m) (ev env k) (ev env x)) K:=(rfl)
theorem Lg{T:a1}{m k x:a7}:dv P ah ⟨dst,.insert T m k x,ty,pos,af,g⟩ L ⟨env,heap⟩=bg (mB P T heap (ev env m) (ev env k) (ev env x)) (eB dst ⟨env,heap⟩ L):=(rfl)
theorem Nt{T:a1}{x:a7}:dw P ah ⟨dst,.range T x,ty,pos,af,g⟩ ⟨env,heap⟩ K=bg (rX P T heap.length (ev env x)) K:=(rfl)
theorem MY{T:a1}{x:a7}:dv P ah ⟨dst,.range T x,ty,pos,af,g⟩ L ⟨env,heap⟩=bg (rX P T heap.length (ev env x)) (eB dst ⟨env,heap⟩ L):=(rfl)
theorem Pa{it:a7}:dw P ah ⟨dst,.next it true,ty,pos,af,g⟩ ⟨env,heap⟩ K=bg (sJ heap (ev env it)) K:=(rfl)
theorem Oy{it:a7}:dv P ah ⟨dst,.next it true,ty,pos,af,g⟩ L ⟨env,heap⟩=bg (sJ heap (ev env it)) (eB dst ⟨env,heap⟩ L):=(rfl)
theorem JE{T:a1}{l c:a7}:dw P ah ⟨dst,.makeSlice T l c,ty,pos,af,g⟩ ⟨env,heap⟩ K=bg (sL P T heap.length (ev env l) (ev env c)) K:=(rfl)
theorem Je{T:a1}{l c:a7}:dv P ah ⟨dst,.makeSlice T l c,ty,pos,af,g⟩ L ⟨env,heap⟩=bg (sL P T heap.length (ev env l) (ev env c)) (eB dst ⟨env,heap⟩ L):=(rfl)
theorem JH{x:a7}:dw P ah ⟨dst,.nilCheck x,ty,pos,af,g⟩ ⟨env,heap⟩ K=bg (rR (ev env x)) K:=(rfl)
theorem J2{x:a7}:dv P ah ⟨dst,.nilCheck x,ty,pos,af,g⟩ L ⟨env,heap⟩=bg (rR (ev env x)) (eB dst ⟨env,heap⟩ L):=(rfl)
theorem PT{args:Array a7}{a:Array a1}:dw P ah ⟨dst,.call {callee:=.builtin .min,args,argTypes:=a},ty,pos,af,g⟩ ⟨env,heap⟩ K=bg (kP false (args.toList.map (ev env))) K:=(rfl)
theorem Rt{args:Array a7}{a:Array a1}:dv P ah ⟨dst,.call {callee:=.builtin .min,args,argTypes:=a},ty,pos,af,g⟩ L ⟨env,heap⟩=bg (kP false (args.toList.map (ev env))) (eB dst ⟨env,heap⟩ L):=(rfl)
theorem PS{args:Array a7}{a:Array a1}:dw P ah ⟨dst,.call {callee:=.builtin .max,args,argTypes:=a},ty,pos,af,g⟩ ⟨env,heap⟩ K=bg (kP true (args.toList.map (ev env))) K:=(rfl)
theorem Rs{args:Array a7}{a:Array a1}:dv P ah ⟨dst,.call {callee:=.builtin .max,args,argTypes:=a},ty,pos,af,g⟩ L ⟨env,heap⟩=bg (kP true (args.toList.map (ev env))) (eB dst ⟨env,heap⟩ L):=(rfl)
theorem K7{T:a1}:dw P ah ⟨dst,.makeMap T none,ty,pos,af,g⟩ ⟨env,heap⟩ K=K {v:=.map heap.length,aU:=[.map false []]}:=(rfl)
theorem KR{T:a1}:dv P ah ⟨dst,.makeMap T none,ty,pos,af,g⟩ L ⟨env,heap⟩=eB dst ⟨env,heap⟩ L {v:=.map heap.length,aU:=[.map false []]}:=(rfl)
theorem L3{s x:a7}{T X:a1}:dw P ah ⟨dst,.call {callee:=.builtin .append,args:=#[s,x],argTypes:=#[T,X]},ty,pos,af,g⟩ ⟨env,heap⟩ K=bg (qu P T X heap (ev env s) (ev env x)) K:=by simp[dw,kU]
theorem Li{s x:a7}{T X:a1}:dv P ah ⟨dst,.call {callee:=.builtin .append,args:=#[s,x],argTypes:=#[T,X]},ty,pos,af,g⟩ L ⟨env,heap⟩=bg (qu P T X heap (ev env s) (ev env x)) (eB dst ⟨env,heap⟩ L):=by simp[dv,kU]
theorem OO{s x:a7}{T X:a1}:dw P ah ⟨dst,.call {callee:=.builtin .copy,args:=#[s,x],argTypes:=#[T,X]},ty,pos,af,g⟩ ⟨env,heap⟩ K=bg (copyV P T heap (ev env s) (ev env x)) K:=by simp[dw,kU]
theorem OB{s x:a7}{T X:a1}:dv P ah ⟨dst,.call {callee:=.builtin .copy,args:=#[s,x],argTypes:=#[T,X]},ty,pos,af,g⟩ L ⟨env,heap⟩=bg (copyV P T heap (ev env s) (ev env x)) (eB dst ⟨env,heap⟩ L):=by simp[dv,kU]
theorem PL{f:a8}{fi ca:List AV}{args:List AV}{M:AV->Heap->Prop}:sx P (.func f fi ca) args heap M=gO P false f (fi++args++ca) heap M:=(rfl)
theorem OR{f:a8}{fi ca:List AV}{args:List AV}:sd P (.func f fi ca) args heap K=gU P f (fi++args++ca) heap K:=(rfl)
theorem PM{f:a8}{fi ca:List PV}{args:List AV}{M:AV->Heap->Prop}:sx P (.p (.func f fi ca)) args heap M=gO P false f (fi.map .p++args++ca.map .p) heap M:=(rfl)
theorem PN{f:a8}{fi ca:List PV}{args:List AV}:sd P (.p (.func f fi ca)) args heap K=gU P f (fi.map .p++args++ca.map .p) heap K:=(rfl)
end ops
section
variable{P:a6}
@[simp] theorem aL1{b:Bool}:aM (.bool b)=.leaf:=(rfl)
@[simp] theorem aMh{k:bi}{n:Int}:aM (.int k n)=.leaf:=(rfl)
@[simp] theorem aMm{l:List Nat}:aM (.str l)=.leaf:=(rfl)
@[simp] theorem aMi:aM .aW=.leaf:=(rfl)
@[simp] theorem aMj{l:List PV}:aM (.seq l)=.leaf:=(rfl)
@[simp] theorem aMl{u:a1}{fs:List PV}:aM (.st u fs)=.agg u:=(rfl)
@[simp] theorem aLY{v:PV}:aa (.p v)=aM v:=(rfl)
@[simp] theorem aL0{u:a1}{fs:List AV}:aa (.st u fs)=.agg u:=(rfl)
@[simp] theorem aLZ{b v e o l:Nat}:aa (.sl b v e o l)=.leaf:=(rfl)
@[simp] theorem aK8{u:a1}{fs:List PV}:cH (.st u fs)=fs:=(rfl)
theorem WS{a:List bl}{Q:PV->Prop}{s:St}:Bb P a Q .ret s=∃vs,fH P s a=some vs/\∃v,eC s.heap 9 (oneOf vs)=some v/\Q v:=by simp[Bb]
theorem UI{a:List bl}{Q:PV->Prop}{s:St}:Bb P a Q .normal s=∃vs,fH P s a=some vs/\∃v,eC s.heap 9 (oneOf vs)=some v/\Q v:=by simp[Bb]
attribute [simp] WS UI je Od MR Oe RY MP Of MQ RZ MS Og Jo KC Lx JK L4 NK Nh Oc MO Oa MM LC LB
 Pb LZ O9 Nv PQ Nu I1 ON Nr PO PU OP K8 Jq Jp Il PR OQ
 Oz Lh Ox M5 Rq M0 IV OA Nj Rp Ru OC Ki Jg Jf MZ Rr OD PM PN Ns MX LX Lf JD Jd LY Lg Nt MY Pa Oy JE Je JH J2 PT Rt PS Rs K7 KR L3 Li OO OB PL OR qu kI qy sB mB rX sJ sL copyV rR kP gK dD fe fA jg qU mj uD gk il mc V5 WE
 TZ Vh Wh TO Uw VV
 aN put iD ev ofConst bf gP gY oh eZ kY fQ gW eU sF sj u7 ji se rq jh vk FO tq sv rJ sq sZ qH qw pT pS lenOf gR ij mb bJ
 mC fH qz oneOf eC
end
section
variable{P:a6}{ah:a8->Bool}
def sE:jl->jl->Bool
 | .leaf,.leaf=>true
 | .agg u,.agg v=>ew u v
 |_,_=>false
theorem iE{a b:jl}(h:sE a b=true):a=b/\b≠.bad:=by
 cases a<;>cases b<;>simp_all [sE]
def kE:AK->AK->Bool
 | .exact,.exact| .grow,.grow| .frozen,.frozen| .bytes,.bytes=>true
 |_,_=>false
def yz:AK->Bool
 | .frozen=>false
 |_=>true
theorem Ev{k:AK}(h:yz k=true):k≠.frozen:=by cases k<;>simp_all [yz]
def pq(k:AK)(a:List AV):Bool:=match k.gr,a with
 |true,[]=>false
 |_,_=>true
theorem xI{k:AK}{a:List AV}(h:pq k a=true):¬(k.gr=true/\a=[]):=by
 rintro⟨b,rfl⟩;simp[pq,b]at h
theorem dy{a b:Nat}(h:ew a b=true):a=b:=Nat.eq_of_beq_eq_true h
theorem cZ{a b:Nat}(h:e6 a b=true):a<=b:=Nat.le_of_ble_eq_true h
def Qb:bi->bi->Bool:=fun a b=>decide (a=b)
def xJ(P:a6)(l:List Nat):List (Nat×AV)->Bool
 |[]=>true
 |(i,v)::r=>(match l[i]? with
  |some n=>ew (bJ P (aa v)) n&&(match aa v with
   | .bad=>false
   |_=>true)
  |none=>false)&&xJ P l r
theorem CY{l:List Nat}:∀{r:List (Nat×AV)},xJ P l r=true->mb P l r
 |[],_=>trivial
 |(i,v)::r,h=>by
  simp only[xJ,aT]at h;refine⟨?_,CY h.2⟩;have a:=h.1
  split at a
  ·rename_i n c;simp only[aT]at a;refine⟨n,c,dy a.1,fun b=>?_⟩;rw[b]at a;simp at a
  ·simp at a
def qI(P:a6)(sz:Nat):List AV->Bool
 |[]=>true
 |v::r=>(match aa v with
  | .bad=>false
  |s=>ew (bJ P s) sz)&&qI P sz r
theorem uI{sz:Nat}:∀{r:List AV},qI P sz r=true->fe P sz r
 |[],_=>trivial
 |v::r,h=>by
  simp only[qI,aT]at h;refine⟨?_,uI h.2⟩;have a:=h.1
  split at a
  ·simp at a
  ·rename_i b;exact⟨b,dy a⟩
def Fw(P:a6)(T:a1)(H:Heap)(a:AV):Option aY:=
 match a with
 | .ptr b path=>match H[b]? with
  |some (.box fz t)=>match eZ t path with
   |some s=>bif sE (kindOf P T) (aa s)then some {v:=s,ak:=[(b,.box fz t)]}else none
   |none=>none
  |_=>none
 | .b7 b aw aj i path=>match H[b]? with
  |some (.arr k d c es)=>bif ew aw d&&ew aj c then match es[i]? with
   |some x=>match eZ x path with
    |some s=>bif sE (kindOf P T) (aa s)then some {v:=s,ak:=[(b,.arr k d c es)]}else none
    |none=>none
   |none=>none
   else none
  |_=>none
 | .p (.cw t)=>bif sE (kindOf P T) (aM t)then some {v:=.p t}else none
 |_=>none
theorem XW{T:a1}{H:Heap}{a:AV}{e:aY}{K:aY->Prop}(h:Fw P T H a=some e)(hk:K e):ow P T H a K:=by
 unfold Fw at h;unfold ow
 split at h
 ·split at h
  ·split at h
   ·rename_i hs;simp only[ay,fd,fm]at h;rename_i c _ _;obtain⟨b,rfl⟩:=h;simp only[c,hs];exact⟨(iE b).1,hk⟩
   ·simp at h
  ·simp at h
 ·split at h
  ·rename_i c;simp only[ay,fd,aT]at h;obtain⟨⟨b,d⟩,h⟩:=h
   split at h
   ·rename_i hx
    split at h
    ·rename_i hs;simp only[fd,fm]at h;obtain⟨f,rfl⟩:=h;obtain⟨hi,rfl⟩:=cx.1 hx;simp only[c];refine⟨dy b,dy d,hi,?_⟩;simp only[hs];exact⟨(iE f).1,hk⟩
    ·simp at h
   ·simp at h
  ·simp at h
 ·simp only[ay,fd,fm]at h;obtain⟨b,rfl⟩:=h;exact⟨(iE b).1,hk⟩
 ·simp at h
def El(P:a6)(T:a1)(H:Heap)(a x:AV):Option aY:=
 bif sE (kindOf P T) (aa x)then match a with
 | .ptr b path=>match H[b]? with
  |some (.box false t)=>match eZ t path,fQ t path x with
   |some s,some d=>bif sE (aa s) (aa x)then some {v:=.p (.aE []),ak:=[(b,.box false t)],aJ:=[(b,.box false d)]}else none
   |_,_=>none
  |_=>none
 | .b7 b aw aj i path=>match H[b]? with
  |some (.arr k e c es)=>bif ew aw e&&(ew aj c&&yz k)then match es[i]? with
   |some y=>match eZ y path,fQ y path x with
    |some s,some d=>bif sE (aa s) (aa x)then some {v:=.p (.aE []),ak:=[(b,.arr k e c es)],aJ:=[(b,.arr k e c (es.set i d))]}else none
    |_,_=>none
   |none=>none
   else none
  |_=>none
 |_=>none
 else none
theorem V9{T:a1}{H:Heap}{a x:AV}{e:aY}{K:aY->Prop}(h:El P T H a x=some e)(hk:K e):n9 P T H a x K:=by
 unfold El at h;unfold n9;simp only[ay,fd]at h;obtain⟨f,h⟩:=h;refine⟨(iE f).1,(iE f).2,?_⟩
 split at h
 ·split at h
  ·rename_i c
   split at h
   ·rename_i hs d;simp only[fd,fm]at h;obtain⟨b,rfl⟩:=h;simp only[c,hs,d];exact⟨(iE b).1,hk⟩
   ·simp at h
  ·simp at h
 ·split at h
  ·rename_i c;simp only[fd,aT]at h;obtain⟨⟨b,g,i⟩,h⟩:=h
   split at h
   ·rename_i k
    split at h
    ·rename_i hs d;simp only[fd,fm]at h;obtain⟨j,rfl⟩:=h;obtain⟨hi,rfl⟩:=cx.1 k;simp only[c];refine⟨dy b,dy g,Ev i,hi,?_⟩;simp only[hs,d];exact⟨(iE j).1,hk⟩
    ·simp at h
   ·simp at h
  ·simp at h
 ·simp at h
def Fi(op:bb)(k:bi)(a b:Int):Option PV:=
 match op with
 | .add=>some (.int k (k.wrap (a+b)))
 | .sub=>some (.int k (k.wrap (a-b)))
 | .mul=>some (.int k (k.wrap (a*b)))
 | .quo=>match b with
  | .ofNat 0=>none
  |b=>some (.int k (k.wrap (a.tdiv b)))
 | .rem=>match b with
  | .ofNat 0=>none
  |b=>some (.int k (a.tmod b))
 | .and=>some (.int k (k.wrap (ax k.bits a&&&ax k.bits b).toNat))
 | .or=>some (.int k (k.wrap (ax k.bits a|||ax k.bits b).toNat))
 | .xor=>some (.int k (k.wrap (ax k.bits a^^^ax k.bits b).toNat))
 | .andNot=>some (.int k (k.wrap (ax k.bits a&&&~~~ax k.bits b).toNat))
 | .eql=>some (.bool (a==b))
 | .neq=>some (.bool (a !=b))
 | .lss=>some (.bool (decide (a<b)))
 | .leq=>some (.bool (decide (a<=b)))
 | .gtr=>some (.bool (decide (a>b)))
 | .geq=>some (.bool (decide (a>=b)))
 | .shl=>match b with
  | .ofNat _=>some (.int k (k.wrap (a*2^(min b.toNat k.bits))))
  |_=>none
 | .shr=>match b with
  | .ofNat _=>some (.int k (a.fdiv (2^(min b.toNat k.bits))))
  |_=>none
theorem avK{op:bb}{k:bi}{a b:Int}{v:PV}{K:PV->Prop}(h:Fi op k a b=some v)(hk:K v):qG op k a b K:=by
 cases op<;>simp only[Fi]at h<;>simp only[qG]
 case quo|rem=>
  split at h
  ·simp at h
  ·rename_i d;simp only[fm]at h;subst h;exact⟨fun c=>d (by rw[c];rfl),hk⟩
 case shl|shr=>
  split at h
  ·simp only[fm]at h;subst h;exact⟨cb _,hk⟩
  ·simp at h
 all_goals (simp only[fm]at h;subst h;exact hk)
def EX(P:a6)(op:bb)(T:a1)(c:Bool)(H:Heap)(x y:AV):Option PV:=
 match x,y with
 | .p (.int k a),.p (.int d b)=>bif Qb k d||(match op with
  | .shl| .shr=>true
  |_=>false)then Fi op k a b else none
 | .p (.str a),.p (.str b)=>match op with
  | .add=>bif e6 (a.length+b.length) 9223372036854775807 then some (.str (a++b))else none
  | .eql=>some (.bool (a==b))
  | .neq=>some (.bool (!(a==b)))
  | .lss=>some (.bool (jc a b))
  | .leq=>some (.bool (jc a b||a==b))
  | .gtr=>some (.bool (!(jc a b||a==b)))
  | .geq=>some (.bool (!(jc a b)))
  |_=>none
 | .p (.bool a),.p (.bool b)=>bif rU P T then match op with
  | .eql=>some (.bool (a==b))
  | .neq=>some (.bool (!(a==b)))
  |_=>none
  else none
 | .p (.st u fs),.p (.st u' gs)=>bif sV P T then match ic P 9 T (.st u fs) (.st u' gs),op with
  |some r,.eql=>some (.bool r)
  |some r,.neq=>some (.bool !r)
  |_,_=>none
  else none
 |x,y=>match dC P T c y with
  |some k=>match cW H k x,op with
   |some r,.eql=>some (.bool r)
   |some r,.neq=>some (.bool !r)
   |_,_=>none
  |none=>none
theorem YV{op:bb}{T:a1}{c:Bool}{H:Heap}{x y:AV}{v:PV}{K:PV->Prop}(h:EX P op T c H x y=some v)(hk:K v):ku P op T c H x y K:=by
 unfold EX at h;unfold ku
 split at h
 ·simp only[ay,fd,Bool.or_eq_true,Qb,decide_eq_true_eq]at h;refine⟨?_,avK h.2 hk⟩;rcases h.1 with b|b
  ·exact .inl b
  ·cases op<;>simp at b<;>simp
 ·split at h<;>simp only[qE]
  ·simp only[ay,fd,fm]at h;obtain⟨b,rfl⟩:=h;exact⟨by have:=cZ b;omega,hk⟩
  ·simp only[fm]at h;subst h;exact hk
  ·simp only[fm]at h;subst h;exact hk
  ·simp only[fm]at h;subst h;exact hk
  ·simp only[fm]at h;subst h;exact hk
  ·simp only[fm]at h;subst h;exact hk
  ·simp only[fm]at h;subst h;exact hk
  ·simp at h
 ·simp only[ay,fd]at h;refine⟨h.1,?_⟩;have a:=h.2
  split at a
  ·simp only[fm]at a;subst a;exact hk
  ·simp only[fm]at a;subst a;exact hk
  ·simp at a
 ·simp only[ay,fd]at h;refine⟨h.1,?_⟩;have a:=h.2
  split at a
  ·rename_i d;simp only[fm]at a;subst a;simp only[d];exact hk
  ·rename_i d;simp only[fm]at a;subst a;simp only[d];exact hk
  ·simp at a
 ·split at h
  case h_2=>simp at h
  rename_i k f;show ku P op T c H x y _;rw[KW f];obtain⟨r,e,d⟩:∃r,cW H k x=some r/\((op=.eql/\v=.bool r)\/(op=.neq/\v=.bool !r)):=by
   revert h;generalize cW H k x=q;intro h;cases q with
   |none=>simp at h
   |some r=>cases op<;>simp at h<;>exact⟨r,rfl,by simp[h]⟩
  rw[e];rcases d with⟨rfl,rfl⟩|⟨rfl,rfl⟩<;>exact hk
def CO(P:a6)(T:a1)(a:AV)(f:Nat):Option aY:=
 match fO P T with
 |some (u,n)=>bif e6 (f+1) n then match a with
  | .ptr b path=>some {v:=.ptr b (path++[(u,f)])}
  | .b7 b aw aj i path=>some {v:=.b7 b aw aj i (path++[(u,f)])}
  | .p (.cw t)=>bif sE (aM t) (.agg u)then match(cH t)[f]? with
   |some g=>some {v:=.p (.cw g)}
   |none=>none
   else none
  |_=>none
  else none
 |_=>none
theorem TS{T:a1}{a:AV}{f:Nat}{e:aY}{K:aY->Prop}(h:CO P T a f=some e)(hk:K e):nU P T a f K:=by
 unfold CO at h;unfold nU
 split at h
 ·rename_i hs;simp only[ay,fd]at h;obtain⟨b,h⟩:=h;simp only[hs];refine⟨by have:=cZ b;omega,?_⟩
  split at h
  ·simp only[fm]at h;subst h;exact hk
  ·simp only[fm]at h;subst h;exact hk
  ·simp only[fd]at h;obtain⟨c,h⟩:=h
   split at h
   ·rename_i d;simp only[fm]at h;subst h;simp only[d];exact⟨(iE c).1,hk⟩
   ·simp at h
  ·simp at h
 ·simp at h
def oE(a:Option Nat)(b:Nat):Bool:=match a with
 |some x=>ew x b
 |none=>false
theorem yb{a:Option Nat}{b:Nat}(h:oE a b=true):a=some b:=by
 unfold oE at h;split at h
 ·rw[dy h]
 ·simp at h
def CL(P:a6)(T:a1)(H:Heap)(x i:AV):Option aY:=
 match i with
 | .p (.int _ (.ofNat i))=>match x with
  | .p (.bP _ es)=>match es[i]? with
   |some y=>bif oE (cL P T) (bJ P (aM y))then some {v:=.p (.cw y)}else none
   |none=>none
  | .p (.seq es)=>match es[i]? with
   |some y=>bif oE (cL P T) (bJ P (aM y))then some {v:=.p (.cw y)}else none
   |none=>none
  | .sl b aw aj off len=>bif oE (cL P T) aj&&e6 (i+1) len then match H[b]? with
   |some (.arr k c a es)=>bif ew aw c&&(ew aj a&&pq k es)then some {v:=.b7 b aw aj (off+i) [],ak:=[(b,.arr k c a es)]}else none
   |_=>none
   else none
  | .ptr b path=>match gV P T with
   |some (u,n)=>bif e6 (i+1) n then some {v:=.ptr b (path++[(u,i)])}else none
   |_=>none
  | .b7 b aw aj j path=>match gV P T with
   |some (u,n)=>bif e6 (i+1) n then some {v:=.b7 b aw aj j (path++[(u,i)])}else none
   |_=>none
  | .p (.cw t)=>match gV P T with
   |some (u,n)=>bif sE (aM t) (.agg u)&&e6 (i+1) n then match(cH t)[i]? with
    |some g=>some {v:=.p (.cw g)}
    |none=>none
    else none
   |_=>none
  |_=>none
 |_=>none
theorem T6{T:a1}{H:Heap}{x i:AV}{e:aY}{K:aY->Prop}(h:CL P T H x i=some e)(hk:K e):nT P T H x i K:=by
 unfold CL at h;unfold nT
 split at h
 case h_2=>simp at h
 rename_i i;refine⟨cb _,?_⟩;simp only[cc,ce]
 split at h
 ·split at h
  ·rename_i y d;simp only[ay,fd,fm]at h;obtain⟨a,rfl⟩:=h;obtain⟨hi,rfl⟩:=cx.1 d;exact⟨hi,yb a,hk⟩
  ·simp at h
 ·split at h
  ·rename_i y d;simp only[ay,fd,fm]at h;obtain⟨a,rfl⟩:=h;obtain⟨hi,rfl⟩:=cx.1 d;exact⟨hi,yb a,hk⟩
  ·simp at h
 ·simp only[ay,fd,aT]at h;obtain⟨⟨a,c⟩,h⟩:=h;refine⟨yb a,by have:=cZ c;omega,?_⟩
  split at h
  ·rename_i k;simp only[fd,fm]at h;obtain⟨⟨f,g,j⟩,rfl⟩:=h;simp only[k];exact⟨dy f,dy g,xI j,hk⟩
  ·simp at h
 ·split at h
  ·rename_i b;simp only[ay,fd,fm]at h;obtain⟨a,rfl⟩:=h;simp only[b];exact⟨by have:=cZ a;omega,hk⟩
  ·simp at h
 ·split at h
  ·rename_i b;simp only[ay,fd,fm]at h;obtain⟨a,rfl⟩:=h;simp only[b];exact⟨by have:=cZ a;omega,hk⟩
  ·simp at h
 ·split at h
  ·rename_i b;simp only[ay,fd,aT]at h;obtain⟨⟨a,c⟩,h⟩:=h
   split at h
   ·rename_i l;simp only[fm]at h;subst h;simp only[b,l];exact⟨(iE a).1,by have:=cZ c;omega,hk⟩
   ·simp at h
  ·simp at h
 ·simp at h
def Ed(P:a6)(T X:a1)(H:Heap)(s x:AV):Option aY:=
 match cL P T,gK H x with
 |some sz,some xs=>bif iF P X&&((cO P (eH P T)).isSome&&qI P sz xs)then
  match s with
  | .p .aW=>match xs with
   |[]=>some {v:=s,ak:=dD H x}
   |y::r=>bif e6 (y::r).length di then some {v:=.sl H.length 0 sz 0 (y::r).length,ak:=dD H x,aU:=[.arr (gk P T) 0 sz (y::r)]}else none
  | .p (.bP full es)=>bif qI P sz (es.map .p)then match xs with
   |[]=>some {v:=s,ak:=dD H x}
   |y::r=>bif full&&e6 (es.length+(y::r).length) di then
    some {v:=.sl H.length 0 sz 0 (es.length+(y::r).length),ak:=dD H x,aU:=[.arr (gk P T) 0 sz (es.map .p++(y::r))]}else none
   else none
  | .sl b aw aj off len=>match H[b]? with
   |some (.arr k c a es)=>bif ew aw c&&(ew aj a&&(ew aj sz&&e6 (off+len) es.length))then
    match xs with
    |[]=>some {v:=s,ak:=(b,.arr k c a es)::dD H x}
    |y::r=>bif e6 (es.length+(y::r).length) di then match k with
     | .frozen=>none
     | .exact=>bif e6 (off+len+(y::r).length) es.length then
      some {v:=.sl b aw aj off (len+(y::r).length),ak:=(b,.arr .exact c a es)::dD H x,aJ:=[(b,.arr .exact aw aj (es.take (off+len)++(y::r)++es.drop (off+len+(y::r).length)))]}
      else some {v:=.sl H.length 0 sz 0 (len+(y::r).length),ak:=(b,.arr .exact c a es)::dD H x,aU:=[.arr (gk P T) 0 sz ((es.drop off).take len++(y::r))]}
     | .grow=>bif ew off 0 then some {v:=.sl b (aw+1) aj 0 (len+(y::r).length),ak:=(b,.arr .grow c a es)::dD H x,aJ:=[(b,.arr .grow (aw+1) aj (es.take len++(y::r)))]}else none
     | .bytes=>bif ew off 0&&ew (eH P T) Gl.u8 then some {v:=.sl b (aw+1) aj 0 (len+(y::r).length),ak:=(b,.arr .bytes c a es)::dD H x,aJ:=[(b,.arr .bytes (aw+1) aj (es.take len++(y::r)))]}else none
     else none
    else none
   |_=>none
  |_=>none
  else none
 |_,_=>none
theorem S2{T X:a1}{H:Heap}{s x:AV}{e:aY}{K:aY->Prop}(h:Ed P T X H s x=some e)(hk:K e):nX P T X H s x K:=by
 unfold Ed at h;unfold nX
 split at h
 case h_2=>simp at h
 rename_i sz r n p;simp only[ay,fd,aT]at h;obtain⟨⟨g,j,k⟩,h⟩:=h;simp only[n,p];refine⟨g,j,uI k,?_⟩
 split at h
 ·split at h
  ·simp only[fm]at h;subst h;simpa using hk
  ·simp only[fd,fm]at h;obtain⟨a,rfl⟩:=h;simp only[dl,a0,if_false];exact⟨cZ a,hk⟩
 ·simp only[fd]at h;obtain⟨a,h⟩:=h;refine⟨uI a,?_⟩
  split at h
  ·simp only[fm]at h;subst h;simpa using hk
  ·simp only[fd,fm]at h;obtain⟨⟨b,c⟩,rfl⟩:=h;simp only[dl,a0,if_false];exact⟨b,cZ c,hk⟩
 ·split at h
  case h_2=>simp at h
  rename_i o;simp only[fd]at h;obtain⟨⟨a,b,c,l⟩,h⟩:=h;simp only[o];refine⟨dy a,dy b,dy c,cZ l,?_⟩
  split at h
  ·simp only[fm]at h;subst h;simpa using hk
  ·simp only[fd]at h;obtain⟨m,h⟩:=h;simp only[dl,a0,if_false];refine⟨cZ m,?_⟩
   split at h
   ·simp at h
   ·split at h
    ·rename_i f;simp only[fm]at h;subst h;simp only[cZ f,if_true];exact hk
    ·rename_i f;simp only[fm]at h;subst h;rw[if_neg (fun q=>f (e7 q))];exact hk
   ·simp only[fd,fm]at h;obtain⟨d,rfl⟩:=h;exact⟨dy d,(fun h=>by cases h),hk⟩
   ·simp only[fd,fm]at h;obtain⟨⟨d,i⟩,rfl⟩:=h;exact⟨dy d,fun _=>dy i,hk⟩
 ·simp at h
end
section
variable{P:a6}{ah:a8->Bool}
def jz(x:Option AV)(d:Nat):Option Nat:=
 match x with
 |none=>some d
 |some (.p (.int _ (.ofNat i)))=>some i
 |_=>none
theorem kn{x:Option AV}{d n:Nat}{K:Nat->Prop}(h:jz x d=some n)(hk:K n):gA x d K:=by
 unfold jz at h;unfold gA
 split at h
 ·simp only[fm]at h;subst h;exact hk
 ·simp only[fm]at h;subst h;exact⟨cb _,hk⟩
 ·simp at h
def En(P:a6)(T:a1)(H:Heap)(x:AV)(lo hi e:Option AV):Option aY:=
 match e with
 |some _=>none
 |none=>match x with
  | .p (.str s)=>match jz hi s.length,jz lo 0 with
   |some h,some l=>bif il P T&&(e6 h s.length&&e6 l h)then some {v:=.p (.str ((s.take h).drop l))}else none
   |_,_=>none
  | .p .aW=>match jz hi 0,jz lo 0 with
   |some h,some l=>bif (cL P T).isSome&&(e6 h 0&&e6 l h)then some {v:=x}else none
   |_,_=>none
  | .p (.bP full es)=>match jz hi es.length,jz lo 0,cL P T with
   |some h,some l,some sz=>bif e6 h es.length&&(e6 l h&&qI P sz (es.map .p))then some {v:=.p (.bP (full&&h==es.length) ((es.take h).drop l))}else none
   |_,_,_=>none
  | .p (.seq es)=>match jz hi es.length,jz lo 0,cL P T with
   |some h,some l,some sz=>bif e6 h es.length&&(e6 l h&&qI P sz (es.map .p))then some {v:=.p (.seq ((es.take h).drop l))}else none
   |_,_,_=>none
  | .sl b aw aj off len=>match H[b]? with
   |some (.arr k c a es)=>match jz hi len,jz lo 0 with
    |some h,some l=>bif ew aw c&&(ew aj a&&(oE (cL P T) aj&&(pq k es&&(e6 (off+len) es.length&&(e6 (off+h) es.length&&e6 l h)))))then
     match l with
     |0=>some {v:=.sl b aw aj off h,ak:=[(b,.arr k c a es)]}
     |d+1=>bif ew (d+1) h then some {v:=.p (.bP false []),ak:=[(b,.arr k c a es)]}else some {v:=.sl b aw aj (off+(d+1)) (h-(d+1)),ak:=[(b,.arr k c a es)]}
     else none
    |_,_=>none
   |_=>none
  |_=>none
theorem Wd{T:a1}{H:Heap}{x:AV}{lo hi j:Option AV}{e:aY}{K:aY->Prop}(h:En P T H x lo hi j=some e)(hk:K e):oc P T H x lo hi j K:=by
 unfold En at h;unfold oc
 split at h
 ·simp at h
 refine⟨rfl,?_⟩
 split at h
 ·split at h
  case h_2=>simp at h
  rename_i a b;simp only[ay,fd,aT,fm]at h;obtain⟨⟨c,d,f⟩,rfl⟩:=h;exact⟨c,kn a (kn b ⟨cZ d,cZ f,hk⟩)⟩
 ·split at h
  case h_2=>simp at h
  rename_i a b;simp only[ay,fd,aT,fm]at h;obtain⟨⟨c,d,f⟩,rfl⟩:=h;exact⟨c,kn a (kn b ⟨cZ d,cZ f,hk⟩)⟩
 ·split at h
  case h_2=>simp at h
  rename_i a b c;simp only[ay,fd,aT,fm]at h;obtain⟨⟨d,f,g⟩,rfl⟩:=h;refine kn a (kn b ⟨cZ d,cZ f,?_⟩);simp only[c];exact⟨uI g,hk⟩
 ·split at h
  case h_2=>simp at h
  rename_i a b c;simp only[ay,fd,aT,fm]at h;obtain⟨⟨d,f,g⟩,rfl⟩:=h;refine kn a (kn b ⟨cZ d,cZ f,?_⟩);simp only[c];exact⟨uI g,hk⟩
 ·split at h
  case h_2=>simp at h
  rename_i n
  split at h
  case h_2=>simp at h
  rename_i a b;simp only[ay,fd,aT]at h;obtain⟨⟨c,d,f,g,k,l,m⟩,h⟩:=h;simp only[n];refine⟨dy c,dy d,yb f,xI g,cZ k,kn a (kn b ⟨cZ l,cZ m,?_⟩)⟩
  split at h
  ·simp only[fm]at h;subst h;simpa using hk
  ·rw[if_neg (by omega)]
   split at h
   ·rename_i i;simp only[fm]at h;subst h;rw[if_pos (dy i)];exact hk
   ·rename_i i;simp only[fm]at h;subst h;rw[if_neg (fun e=>i (by rw[<-e];exact fb _))];exact hk
 ·simp at h
def DJ(P:a6)(T:a1)(H:Heap)(x:AV)(lo hi:Option AV)(m:AV):Option aY:=
 match x with
 | .sl b aw aj off len=>match H[b]? with
  |some (.arr k c a es)=>match jz hi len,jz lo 0,jz (some m) 0 with
   |some h,some l,some m=>bif ew aw c&&(ew aj a&&((cL P T).isSome&&(pq k es&&(e6 (off+len) es.length&&(hi.isSome&&(e6 (off+m) es.length&&(e6 h m&&e6 l h)))))))then
    some {v:=.p .undef,ak:=[(b,.arr k c a es)]}else none
   |_,_,_=>none
  |_=>none
 |_=>none
theorem VQ{T:a1}{H:Heap}{x:AV}{lo hi:Option AV}{m:AV}{e:aY}{K:aY->Prop}(h:DJ P T H x lo hi m=some e)(hk:K e):rG P T H x lo hi m K:=by
 unfold DJ at h;unfold rG
 split at h
 case h_2=>simp at h
 split at h
 case h_2=>simp at h
 rename_i d
 split at h
 case h_2=>simp at h
 rename_i a b c;simp only[ay,fd,aT,fm]at h;obtain⟨⟨g1,g2,g3,g4,g5,g6,g7,g8,g9⟩,rfl⟩:=h;simp only[d];exact⟨dy g1,dy g2,g3,xI g4,cZ g5,g6,kn a (kn b (kn c ⟨cZ g7,cZ g8,cZ g9,hk⟩))⟩
def A1(ok:Bool)(z:PV)(r:Option PV):PV:=
 match r with
 |some v=>bif ok then .aE [v,.bool true]else v
 |none=>bif ok then .aE [z,.bool false]else z
def aDV(ok:Bool)(z:PV)(r:Option AV):AV:=
 match r with
 |some v=>bif ok then .aE [v,.p (.bool true)]else v
 |none=>.p (bif ok then .aE [z,.bool false]else z)
def MW(P:a6)(T:a1)(H:Heap)(x i:AV)(ok:Bool):Option aY:=
 match jg P T,i with
 |some (a,E),.p key=>match cO P E with
  |some z=>bif fA P a key then match x with
   | .p .fC=>some {v:=.p (A1 ok z none)}
   | .p (.fg es)=>match fT P a es key with
    |some r=>some {v:=.p (A1 ok z r)}
    |none=>none
   | .map b=>match H[b]? with
    |some (.map fz es)=>match fT P a es key with
     |some r=>some {v:=.p (A1 ok z r),ak:=[(b,.map fz es)]}
     |none=>none
    |some (.dx ks vs)=>bif nL key then match lA P a ks vs key with
     |some r=>some {v:=aDV ok z r,ak:=[(b,.dx ks vs)]}
     |none=>none
     else none
    |_=>none
   |_=>none
   else none
  |none=>none
 |_,_=>none
def Bt(P:a6)(c:a1)(b:Nat)(key:PV)(x:AV)(a:Obj):Option aY:=
 match tM a with
 |some (ks,vs)=>bif nL key then match lA P c ks vs key with
  |some none=>some {v:=.p (.aE []),ak:=[(b,a)],aJ:=[(b,.dx (ks++[key]) (vs++[x]))]}
  |_=>none
  else none
 |none=>none
theorem B6{P:a6}{a:a1}{b:Nat}{key:PV}{x:AV}{c:Obj}{e:aY}{K:aY->Prop}(h:Bt P a b key x c=some e)(hk:K e):pK P a b key x c K:=by
 unfold Bt at h;unfold pK
 split at h
 ·rename_i ks vs f;simp only[ay,fd]at h;obtain⟨d,h⟩:=h
  split at h
  ·rename_i g;simp only[fm]at h;subst h;simp only[f];exact⟨d,g,hk⟩
  ·cases h
 ·cases h
def MT(P:a6)(T:a1)(H:Heap)(m k x:AV):Option aY:=
 match jg P T,m,k with
 |some (a,_),.map b,.p key=>bif fA P a key then match H[b]? with
  |some (.map false es)=>match x with
   | .p v=>match mj P a es key with
    |some _=>some {v:=.p (.aE []),ak:=[(b,.map false es)],aJ:=[(b,.map false (gz es key v))]}
    |none=>none
   |x=>Bt P a b key x (.map false es)
  |some (.dx ks vs)=>Bt P a b key x (.dx ks vs)
  |_=>none
  else none
 |_,_,_=>none
def Rh(H:Heap)(it:AV):Option aY:=
 match it with
 | .ptr b []=>match H[b]? with
  |some (.dA s pos)=>bif e6 (pos+1) s.length then
   some {v:=.p (.aE [.bool true,.int .i64 pos,.int .i32 (b5 (gp s) pos).1]),ak:=[(b,.dA s pos)],aJ:=[(b,.dA s (pos+(b5 (gp s) pos).2))]}
   else some {v:=.p (.aE [.bool false]),ak:=[(b,.dA s pos)]}
  |_=>none
 |_=>none
def LK(P:a6)(H:Heap)(b:Builtin)(c:Array a1)(args:List AV):Option aY:=
 match b,args with
 | .len,[x]=>match lenOf H x with
  |some (n,ak)=>bif gR P (c.getD 0 0) x&&e6 1 c.size then some {v:=.p (.int .i64 n),ak}else none
  |none=>none
 | .append,[s,x]=>bif ew c.size 2 then Ed P (c.getD 0 0) (c.getD 1 0) H s x else none
 | .min,.p (.int k a)::r=>match mc k false r a with
  |some n=>some {v:=.p (.int k n)}
  |none=>none
 | .max,.p (.int k a)::r=>match mc k true r a with
  |some n=>some {v:=.p (.int k n)}
  |none=>none
 | .copy,[d,x]=>match cL P (c.getD 0 0),d,gK H x with
  |some sz,.sl b aw aj off len,some xs=>bif ew aj sz&&(qI P sz xs&&ew c.size 2)then match H[b]? with
   |some (.arr k f e es)=>bif ew aw f&&(ew aj e&&(yz k&&(e6 (off+len) es.length&&pq k es)))then
    some {v:=.p (.int .i64 (min xs.length len:Nat)),ak:=(b,.arr k f e es)::dD H x,aJ:=[(b,.arr k f e (es.take off++xs.take (min xs.length len)++es.drop (off+min xs.length len)))]}
    else none
   |_=>none
   else none
  |_,_,_=>none
 | .cap,[x]=>match Bf H x with
  |some (n,ak)=>bif gR P (c.getD 0 0) x&&e6 1 c.size then some {v:=.p (.int .i64 n),ak}else none
  |none=>none
 | .clear,[x]=>match x with
  | .p .aW=>bif gR P (c.getD 0 0) x&&e6 1 c.size then some {v:=.p (.aE [])}else none
  | .sl b aw aj off len=>match cL P (c.getD 0 0),cO P (eH P (c.getD 0 0)),H[b]? with
   |some sz,some z,some (.arr k f e es)=>bif ew aw f&&(ew aj e&&(ew aj sz&&(ew (bJ P (aM z)) sz&&(yz k&&(e6 (off+len) es.length&&(pq k es&&(e6 1 c.size&&e6 1 len)))))))then
    some {v:=.p (.aE []),ak:=[(b,.arr k f e es)],aJ:=[(b,.arr k f e (es.take off++cy len (.p z)++es.drop (off+len)))]}else none
   |_,_,_=>none
  |_=>none
 | .unsafeSliceData,[x]=>match x with
  | .p .aW=>some {v:=.p .dJ}
  | .sl b aw aj off len=>match H[b]? with
   |some (.arr k f e es)=>bif ew aw f&&ew aj e then
    bif pq k es then(bif e6 1 len&&e6 (off+len) es.length then some {v:=.b7 b aw aj off [],ak:=[(b,.arr k f e es)]}else none)
    else some {v:=.p .dJ,ak:=[(b,.arr k f e es)]}
    else none
   |_=>none
  |_=>none
 | .unsafeString,[x,.p (.int .i64 (.ofNat n))]=>match x with
  | .p .dJ=>bif ew n 0&&ew c.size 2 then some {v:=.p (.str [])}else none
  | .b7 b aw aj i []=>match H[b]? with
   |some (.arr .bytes f e es)=>bif ew aw f&&(ew aj e&&(ew aj 1&&(ew i 0&&(e6 1 n&&(e6 n es.length&&(e6 n 9223372036854775807&&(ew c.size 2&&(oE (ptrTo P (c.getD 0 0)) Gl.u8&&ew (P.cellsOf Gl.u8) 1))))))))then
    match bytesOf (es.take n)with
    |some l=>some {v:=.p (.str l),ak:=[(b,.arr .bytes f e es)],aJ:=[(b,.dead)]}
    |none=>none
    else none
   |_=>none
  |_=>none
 |_,_=>none
def Bx(P:a6)(ah:a8->Bool)(o:Oper)(ρ:a7->AV)(H:Heap):Option aY:=
 match o.op with
 | .move x| .assign x=>some {v:=ρ x}
 | .pick c a b=>match ρ c with
  | .p (.bool t)=>some {v:=bif t then ρ a else ρ b}
  |_=>none
 | .alloc T=>match cO P T with
  |some z=>bif sE (kindOf P T) (aM z)&&ji T (aM z)then some {v:=.ptr H.length [],aU:=[.box false (.p z)]}else none
  |none=>none
 | .box T x=>bif sE (kindOf P T) (aa (ρ x))&&ji T (aa (ρ x))then some {v:=.ptr H.length [],aU:=[.box false (ρ x)]}else none
 | .build T parts=>match kindOf P T,cO P T with
  | .agg u,some z=>match dO P u with
   |some l=>bif sE (aM z) (.agg u)&&xJ P l (parts.toList.map fun(i,x)=>(i,ρ x))then some {v:=gW u (ij ((cH z).map .p) (parts.toList.map fun(i,x)=>(i,ρ x)))}else none
   |none=>none
  |_,_=>none
 | .buildSlice T n parts=>match cL P T,cO P (eH P T)with
  |some sz,some z=>bif ew (bJ P (aM z)) sz&&(e6 (n*sz) 1000000&&xJ P (cy n sz) (parts.toList.map fun(i,x)=>(i,ρ x)))then
   some {v:=.sl H.length 0 sz 0 n,aU:=[.arr .exact 0 sz (ij (cy n (.p z)) (parts.toList.map fun(i,x)=>(i,ρ x)))]}else none
  |_,_=>none
 | .load T a=>Fw P T H (ρ a)
 | .store T a x=>El P T H (ρ a) (ρ x)
 | .binOp op T x y _=>match EX P op T (mC y) H (ρ x) (ρ y)with
  |some v=>some {v:=.p v,ak:=dD H (ρ x)}
  |none=>none
 | .unOp op _ x=>match op,ρ x with
  | .not,.p (.bool b)=>some {v:=.p (.bool (!b))}
  | .neg,.p (.int k n)=>some {v:=.p (.int k (k.wrap (0-n)))}
  | .xor,.p (.int k n)=>some {v:=.p (.int k (k.wrap (ax k.bits (if k.signed then -1 else k.max)^^^ax k.bits n).toNat))}
  |_,_=>none
 | .convert S D x=>match P.underlying S,P.underlying D,ρ x with
  |some _,some (.int k),.p (.int _ n)=>some {v:=.p (.int k (k.wrap n))}
  |some _,some .string,.p (.str s)=>some {v:=.p (.str s)}
  |_,_,_=>none
 | .extract t i=>match ρ t with
  | .p (.aE vs)=>match vs[i]? with
   |some v=>some {v:=.p v}
   |none=>none
  | .aE vs=>match vs[i]? with
   |some v=>some {v}
   |none=>none
  |_=>none
 | .fieldAddr T a f=>CO P T (ρ a) f
 | .indexAddr T x i=>CL P T H (ρ x) (ρ i)
 | .field T x f=>match kindOf P T,P.underlying T,ρ x with
  | .agg u,some (.struct _),.p t=>match(cH t)[f]?,(jr P u)[f]? with
   |some g,some F=>bif sE (aM t) (.agg u)&&sE (kindOf P F) (aM g)then some {v:=.p g}else none
   |_,_=>none
  |_,_,_=>none
 | .index T x i=>match ρ x,ρ i with
  | .p (.str s),.p (.int _ (.ofNat i))=>match s[i]? with
   |some c=>bif il P T then some {v:=.p (.int .u8 c)}else none
   |none=>none
  | .p (.st u es),.p (.int _ (.ofNat i))=>match gV P T,(jr P u)[i]?,es[i]? with
   |some (u',n),some F,some g=>bif ew u' u&&(e6 (i+1) n&&sE (kindOf P F) (aM g))then some {v:=.p g}else none
   |_,_,_=>none
  |_,_=>none
 | .makeFunc (.func f) fi ca=>bif ah f then match fI H (fi.toList.map ρ),fI H (ca.toList.map ρ)with
   |some (a,[],[]),some (b,ak,aJ)=>some {v:=.p (.func f a b),ak,aJ}
   |_,_=>none
  else match eU (fi.toList.map ρ),eU (ca.toList.map ρ)with
   |some a,some b=>some {v:=.p (.func f a b)}
   |_,_=>some {v:=.func f (fi.toList.map ρ) (ca.toList.map ρ)}
 | .makeSlice T l c=>match cL P T,cO P (eH P T),ρ l,ρ c with
  |some sz,some z,.p (.int .i64 (.ofNat l)),.p (.int .i64 (.ofNat c))=>bif ew (bJ P (aM z)) sz&&(ew l c&&e6 l di)then
   some {v:=.sl H.length 0 sz 0 l,aU:=[.arr .exact 0 sz (cy l (.p z))]}else none
  |_,_,_,_=>none
 | .slice T x lo hi d=>match d with
  |none=>En P T H (ρ x) (lo.map ρ) (hi.map ρ) none
  |some m=>DJ P T H (ρ x) (lo.map ρ) (hi.map ρ) (ρ m)
 | .makeMap _ none=>some {v:=.map H.length,aU:=[.map false []]}
 | .lookup T x i ok=>MW P T H (ρ x) (ρ i) ok
 | .mapUpdate T m k x| .insert T m k x=>MT P T H (ρ m) (ρ k) (ρ x)
 | .range T x=>match ρ x with
  | .p (.str s)=>bif il P T then some {v:=.ptr H.length [],aU:=[.dA s 0]}else none
  |_=>none
 | .next it true=>Rh H (ρ it)
 | .nilCheck x=>match ρ x with
  | .ptr _ _| .b7 _ _ _ _ _| .p (.cw _)=>some {v:=ρ x}
  |_=>none
 | .call c=>match c.callee with
  | .builtin b=>LK P H b c.argTypes (c.args.toList.map ρ)
  |_=>none
 |_=>none
theorem OG{o:Oper}{ρ:a7->AV}{H:Heap}{e:aY}{K:aY->Prop}(h:Bx P ah o ρ H=some e)(hk:K e):fE P ah o ρ H K:=by
 unfold Bx at h;unfold fE;cases ad:o.op<;>simp only[ad]at h<;>simp only
 case move|assign=>simp only[fm]at h;subst h;exact hk
 case pick c a b=>
  split at h
  ·rename_i t hc;simp only[fm]at h;subst h;simp only[hc];cases t<;>exact hk
  ·simp at h
 case alloc T=>
  split at h
  ·rename_i z G;simp only[ay,fd,fm,aT]at h;obtain⟨⟨d,j⟩,rfl⟩:=h;simp only[G];exact⟨(iE d).1,(iE d).2,j,hk⟩
  ·simp at h
 case box T x=>
  simp only[ay,fd,fm,aT]at h;obtain⟨⟨d,j⟩,rfl⟩:=h;exact⟨(iE d).1,(iE d).2,j,hk⟩
 case build T parts=>
  split at h
  ·rename_i u z ae G
   split at h
   ·rename_i l E;simp only[ay,fd,fm,aT]at h;obtain⟨⟨d,j⟩,rfl⟩:=h;simp only[ae,G,E];exact⟨(iE d).1,CY j,hk⟩
   ·simp at h
  ·simp at h
 case buildSlice T n parts=>
  split at h
  ·rename_i sz z J G;simp only[ay,fd,fm,aT]at h;obtain⟨⟨d,j,q⟩,rfl⟩:=h;simp only[J,G];exact⟨dy d,cZ j,CY q,hk⟩
  ·simp at h
 case load T a=>exact XW h hk
 case store T a x=>exact V9 h hk
 case binOp op T x y ag=>
  split at h
  ·rename_i v M;simp only[fm]at h;subst h;exact YV (K:=fun v=>K {v:=.p v,ak:=dD H (ρ x)}) M hk
  ·simp at h
 case unOp op T x=>
  split at h
  all_goals first
   |(rename_i hx;simp only[fm]at h;subst h;simp only[hx];exact hk)
   |simp at h
 case convert S D x=>
  split at h
  ·rename_i d j q;simp only[fm]at h;subst h;simp only[d,j,q];exact hk
  ·rename_i d j q;simp only[fm]at h;subst h;simp only[d,j,q];exact hk
  ·simp at h
 case extract t i=>
  split at h
  ·rename_i U
   split at h
   ·rename_i M;simp only[fm]at h;subst h;simp only[U,M];exact hk
   ·simp at h
  ·rename_i U
   split at h
   ·rename_i M;simp only[fm]at h;subst h;simp only[U,M];exact hk
   ·simp at h
  ·simp at h
 case fieldAddr T a f=>exact TS h hk
 case indexAddr T x i=>exact T6 h hk
 case field T x f=>
  split at h
  ·rename_i d j q
   split at h
   ·rename_i A w;simp only[ay,fd,fm,aT]at h;obtain⟨⟨B,C⟩,rfl⟩:=h;simp only[d,j,q,A,w];exact⟨(iE B).1,(iE C).1,hk⟩
   ·simp at h
  ·simp at h
 case index T x i=>
  split at h
  ·rename_i d j
   split at h
   ·rename_i c hc;simp only[ay,fd,fm]at h;obtain⟨q,rfl⟩:=h;obtain⟨hi,rfl⟩:=cx.1 hc;simp only[d,j];exact⟨q,cb _,hi,hk⟩
   ·simp at h
  ·rename_i u W am i d j
   split at h
   ·rename_i u' n F g q A w;simp only[ay,fd,fm,aT]at h;obtain⟨⟨g1,g2,g3⟩,rfl⟩:=h;have e:(Int.ofNat i).toNat=i:=rfl;simp only[d,j,e,q,A,w];exact⟨dy g1,cb _,cZ g2,(iE g3).1,hk⟩
   ·simp at h
  ·simp at h
 case makeFunc fn fi ca=>
  cases fn<;>simp only at h<;>try (simp at h;done)
  rename_i f;simp only;simp only[ay]at h
  split at h
  ·rename_i hf;rw[if_pos hf]
   split at h
   ·rename_i d j;simp only[fm]at h;subst h;simp only[d,j];exact hk
   ·simp at h
  ·rename_i hf;rw[if_neg hf]
   split at h
   ·rename_i d j;simp only[fm]at h;subst h;simp only[d,j];exact hk
   ·rename_i ac;simp only[fm]at h;subst h
    split
    ·rename_i d j;exact(ac _ _ d j).elim
    ·exact hk
 case makeSlice T l c=>
  split at h
  ·rename_i d j q A;simp only[ay,fd,fm,aT]at h;obtain⟨⟨w,B,C⟩,rfl⟩:=h;have e:=dy B;simp only[d,j,q,A];refine⟨dy w,cb _,by rw[e],?_,hk⟩;have:=cZ C;show((_:Nat):Int)<=_
   exact_mod_cast this
  ·simp at h
 case slice T x lo hi af=>
  cases af with
  |none=>exact Wd h hk
  |some m=>exact VQ h hk
 case makeMap T r=>
  cases r<;>simp only at h
  ·simp only[fm]at h;subst h;exact hk
  ·simp at h
 case lookup T x i ok=>
  unfold MW at h
  split at h
  case h_2=>simp at h
  rename_i d j
  split at h
  case h_2=>simp at h
  rename_i z G;simp only[ay,fd]at h;obtain⟨q,h⟩:=h;simp only[d,j,G];refine⟨q,?_⟩
  have N:∀r:Option PV,A1 ok z r=match r with
    |some v=>if ok=true then .aE [v,.bool true]else v
    |none=>if ok=true then .aE [z,.bool false]else z:=by
   intro r;cases r<;>cases ok<;>rfl
  split at h
  ·rename_i hx;simp only[fm]at h;subst h;simp only[hx];rw[N]at hk;exact hk
  ·rename_i hx
   split at h
   ·rename_i r L;simp only[fm]at h;subst h;rw[N]at hk;simp only[hx,L];cases r<;>exact hk
   ·simp at h
  ·rename_i hx
   split at h
   ·rename_i s
    split at h
    ·rename_i r L;simp only[fm]at h;subst h;rw[N]at hk;simp only[hx,s,L];cases r<;>exact hk
    ·simp at h
   ·rename_i s;simp only[ay,fd]at h;obtain⟨aa,h⟩:=h
    split at h
    ·rename_i r L;simp only[fm]at h;subst h;simp only[hx,s,L];refine⟨aa,?_⟩;cases r<;>cases ok<;>exact hk
    ·simp at h
   ·simp at h
  ·simp at h
 case mapUpdate T m k x|insert T m k x=>
  unfold MT at h
  split at h
  case h_2=>simp at h
  rename_i d j q;simp only[ay,fd]at h;obtain⟨w,h⟩:=h;simp only[d,j,q];generalize ρ x=X at*
  split at h
  ·rename_i s;cases X with
   |p v=>
    simp only at h;refine⟨w,?_⟩
    split at h
    ·rename_i E;simp only[fm]at h;subst h;simp only[s,E];exact hk
    ·simp at h
   |_=>
    refine⟨w,?_⟩;simp only[s];exact B6 h hk
  ·rename_i s;cases X with
   |p v=>
    refine⟨w,?_⟩;simp only[s];exact B6 h hk
   |_=>
    refine⟨w,?_⟩;simp only[s];exact B6 h hk
  ·simp at h
 case range T x=>
  split at h
  ·rename_i hx;simp only[ay,fd,fm]at h;obtain⟨d,rfl⟩:=h;simp only[hx];exact⟨d,hk⟩
  ·simp at h
 case next it isStr=>
  cases isStr<;>simp only at h
  ·simp at h
  unfold Rh at h
  split at h
  ·rename_i hx
   split at h
   ·rename_i s;simp only[hx,s];simp only[ay]at h
    split at h
    ·rename_i R;simp only[fm]at h;subst h;rw[if_pos (by have:=cZ R;omega)];exact hk
    ·rename_i R;simp only[fm]at h;subst h;rw[if_neg (fun ab=>R (e7 (Nat.succ_le_of_lt ab)))];exact hk
   ·simp at h
  ·simp at h
 case nilCheck x=>
  split at h
  all_goals first
   |(rename_i hx;simp only[fm]at h;subst h;simp only[hx]at hk⊢;exact hk)
   |simp at h
 case call c=>
  split at h
  case h_2=>simp at h
  rename_i b hc;simp only[hc];generalize c.args.toList.map ρ=args at*;generalize c.argTypes=ai at*;unfold LK at h
  split at h
  ·split at h
   ·rename_i E;simp only[ay,fd,fm,aT]at h;obtain⟨⟨d,j⟩,rfl⟩:=h;simp only[E];exact⟨d,cZ j,hk⟩
   ·simp at h
  ·simp only[ay,fd]at h;exact⟨dy h.1,S2 h.2 hk⟩
  ·split at h
   ·rename_i Q;simp only[fm]at h;subst h;simp only[Q];exact hk
   ·simp at h
  ·split at h
   ·rename_i Q;simp only[fm]at h;subst h;simp only[Q];exact hk
   ·simp at h
  ·split at h
   ·rename_i J Z;simp only[ay,fd,aT]at h;obtain⟨⟨d,j,q⟩,h⟩:=h;simp only[J,Z];refine⟨dy d,uI j,dy q,?_⟩
    split at h
    ·rename_i s;simp only[fd,fm]at h;obtain⟨⟨A,w,B,C,I⟩,rfl⟩:=h;simp only[s];exact⟨dy A,dy w,Ev B,cZ C,xI I,hk⟩
    ·simp at h
   ·simp at h
  ·split at h
   ·rename_i E;simp only[ay,fd,fm,aT]at h;obtain⟨⟨d,j⟩,rfl⟩:=h;simp only[E];exact⟨d,cZ j,hk⟩
   ·simp at h
  ·split at h
   ·simp only[ay,fd,fm,aT]at h;obtain⟨⟨d,j⟩,rfl⟩:=h;exact⟨d,cZ j,hk⟩
   ·split at h
    ·rename_i J G s;simp only[ay,fd,fm,aT]at h;obtain⟨⟨d,j,q,A,w,B,C,I,O⟩,rfl⟩:=h;simp only[J,G,s];exact⟨dy d,dy j,dy q,dy A,Ev w,cZ B,xI C,cZ I,cZ O,hk⟩
    ·simp at h
   ·simp at h
  ·split at h
   ·simp only[fm]at h;subst h;exact hk
   ·split at h
    ·rename_i s;simp only[ay,fd,aT]at h;obtain⟨⟨d,j⟩,h⟩:=h;simp only[s];refine⟨dy d,dy j,?_⟩
     split at h
     ·simp only[fd,fm]at h;obtain⟨⟨A,w⟩,rfl⟩:=h;exact .inr ⟨cZ A,cZ w,hk⟩
     ·rename_i V;simp only[fm]at h;subst h;rename_i k _ _ W _ _;refine .inl ⟨?_,?_,hk⟩<;>(unfold pq at V;split at V<;>simp_all)
    ·simp at h
   ·simp at h
  ·split at h
   ·simp only[ay,fd,fm,aT]at h;obtain⟨⟨d,j⟩,rfl⟩:=h;exact⟨by rw[dy d];rfl,dy j,hk⟩
   ·split at h
    ·rename_i s;simp only[ay,fd,aT]at h;obtain⟨⟨d,j,q,A,w,B,C,I,O,Y⟩,h⟩:=h;have aj:=cZ w;have al:=cZ C;simp only[s];refine⟨dy d,dy j,dy q,dy A,by simp;omega,by simpa using cZ B,by simp;omega,dy I,yb O,dy Y,?_⟩;simp only[cc,ce]
     split at h
     ·rename_i E;simp only[fm]at h;subst h;simp only[E];exact hk
     ·simp at h
    ·simp at h
   ·simp at h
  ·simp at h
 all_goals simp at h
end
end Go.ag
namespace Go.ag
variable[Gl]
section
variable(σ:Nat->Nat)
mutual
def cK:AV->AV
 | .p v=>.p v
 | .ptr b path=>.ptr (σ b) path
 | .b7 b aw aj i path=>.b7 (σ b) aw aj i path
 | .sl b aw aj off len=>.sl (σ b) aw aj off len
 | .map b=>.map (σ b)
 | .func f fi ca=>.func f (cR fi) (cR ca)
 | .st u fs=>.st u (cR fs)
 | .aE vs=>.aE (cR vs)
def cR:List AV->List AV
 |[]=>[]
 |v::vs=>cK v::cR vs
end
def uO:Env->Env
 |[]=>[]
 |(x,v)::r=>(x,cK σ v)::uO r
def c7:Obj->Obj
 | .box fz t=>.box fz (cK σ t)
 | .arr k aw aj es=>.arr k aw aj (cR σ es)
 | .dx ks vs=>.dx ks (cR σ vs)
 | .loop L=>.loop {L with env:=uO σ L.env}
 |o=>o
end
section
variable{σ:Nat->Nat}
theorem DD:∀(e:Env)(x:Nat),aN (uO σ e) x=cK σ (aN e x)
 |[],_=>rfl
 |(y,v)::r,x=>by
  simp only[uO,aN]
  split
  ·rfl
  ·exact DD r x
theorem tQ:∀l:List AV,(cR σ l).length=l.length
 |[]=>rfl
 |_::r=>by simp[cR,tQ r]
theorem X9{l:List AV}:cR σ l=[]↔l=[]:=by cases l<;>simp[cR]
theorem od{k:AK}{a:List AV}:df k (cR σ a)↔df k a:=by simp[df,X9]
theorem Nx{v:AV}:(cK σ v).sX↔v.sX:=by cases v<;>simp[cK,AV.sX]
theorem Xc{v:AV}:aa (cK σ v)=aa v:=by cases v<;>rfl
theorem Mn:∀{l:List AV},(∀e∈cR σ l,e.sX)↔∀e∈l,e.sX
 |[]=>by simp[cR]
 |v::r=>by simp[cR,Nx,Mn (l:=r)]
theorem rI{o:Obj}:(c7 σ o).live↔o.live:=by cases o<;>simp[c7,Obj.live,od]
theorem ND{o:Obj}{v:Nat}:(c7 σ o).has v↔o.has v:=by cases o<;>simp[c7,Obj.has]
theorem XB{o:Obj}:c7 σ o=.hole↔o=.hole:=by cases o<;>simp[c7]
mutual
theorem Di{S:Nat×Nat->Prop}:∀(v:AV),aD S (cK σ v)↔aD (fun x=>S (σ x.1,x.2)) v
 | .p _=>by simp[cK,aD]
 | .ptr _ _| .b7 _ _ _ _ _| .sl _ _ _ _ _| .map _=>by simp[cK,aD]
 | .func _ fi ca=>by simp only[cK,aD];rw[ua fi,ua ca]
 | .st _ fs=>by simp only[cK,aD];exact ua fs
 | .aE vs=>by simp only[cK,aD];exact ua vs
theorem ua{S:Nat×Nat->Prop}:∀(l:List AV),aV S (cR σ l)↔aV (fun x=>S (σ x.1,x.2)) l
 |[]=>by simp[cR,aV]
 |v::r=>by simp only[cR,aV];rw[Di v,ua r]
end
theorem Wy{S:Nat×Nat->Prop}{o:Obj}:(c7 σ o).refs S↔o.refs (fun x=>S (σ x.1,x.2)):=by
 cases o<;>simp only[c7,Obj.refs,Di,ua,DD]
theorem Obj.refs.mono{S T:Nat×Nat->Prop}(h:∀x,S x->T x){o:Obj}(a:o.refs S):o.refs T:=by
 cases o with
 |box fz t=>exact aD.mono h _ a
 |arr k aw aj es=>exact aV.mono h _ a
 |dx ks vs=>exact aV.mono h _ a
 |loop L=>exact fun x=>aD.mono h _ (a x)
 |_=>trivial
structure dT(σ:Nat->Nat)(dS:Bd)(H0:Heap)(β:Bd)(H:Heap):Prop where
 obj:∀(b:Nat)(o:Obj),H0[b]?=some o->H[σ b]?=some (c7 σ o)
 al:∀b,b<H0.length->β.al (σ b)=dS.al b/\β.cap (σ b)=dS.cap b
section
variable{P:a6}{w:bk}{ad:Nat->Prop}{dS β:Bd}{H0 H:Heap}
theorem dT.box(h:dT σ dS H0 β H){b:Nat}(a:b<H0.length):mW H (σ b)↔mW H0 b:=by
 have c:=h.obj b _ (ck a);have d:=ck a;unfold mW;rw[c,d];cases H0[b]<;>simp[c7]
theorem dT.it(h:dT σ dS H0 β H){b:Nat}(a:b<H0.length):mX H (σ b)↔mX H0 b:=by
 have c:=h.obj b _ (ck a);have d:=ck a;unfold mX;rw[c,d];cases H0[b]<;>simp[c7]
theorem dT.map(h:dT σ dS H0 β H){b:Nat}(a:b<H0.length):oi H (σ b)↔oi H0 b:=by
 have h1:=h.obj b _ (ck a);have c:=ck a;unfold oi;rw[h1,c];cases H0[b]<;>simp[c7,Obj.vV]
theorem dT.loop(h:dT σ dS H0 β H){b:Nat}(a:b<H0.length):gM H (σ b)↔gM H0 b:=by
 have c:=h.obj b _ (ck a);have d:=ck a;unfold gM;rw[c,d];cases H0[b]<;>simp[c7]
theorem dT.arr(h:dT σ dS H0 β H){b aw aj:Nat}{k:AK}{es:List AV}(a:b<H0.length):eS H (σ b) aw aj k es↔∃gD,eS H0 b aw aj k gD/\es=cR σ gD:=by
 have c:=h.obj b _ (ck a);have d:=ck a;unfold eS;rw[c,d];cases H0[b]<;>simp[c7];constructor
 ·rintro⟨rfl,rfl,rfl,rfl⟩;exact⟨_,⟨rfl,rfl,rfl,rfl⟩,rfl⟩
 ·rintro⟨_,⟨rfl,rfl,rfl,rfl⟩,rfl⟩;exact⟨rfl,rfl,rfl,rfl⟩
theorem dT.Fh(h:dT σ dS H0 β H){x:Nat×Nat}(a:x.1<H0.length):aH H (σ x.1,x.2)↔aH H0 x:=by
 have b:=h.obj x.1 _ (ck a);have c:=ck a;unfold aH;rw[b,c];simp[ND]
def Small(n:Nat):Nat×Nat->Prop:=fun x=>x.1<n
theorem dT.qZ(h:dT σ dS H0 β H):∀{a:AV}{v:be},aD (Small H0.length) a->(bR P β H (cK σ a) v↔bR P dS H0 a v)
 | .p _,_,_| .func _ _ _,_,_| .st _ _,_,_| .aE _,_,_=>by simp[cK,bR]
 | .ptr b path,v,c=>by
  simp only[aD,Small]at c;simp only[cK,bR,h.box c,h.it c,(h.al b c).1]
 | .b7 b aw aj i path,v,c=>by
  simp only[aD,Small]at c;simp only[cK,bR,h.arr c,(h.al b c).1];constructor
  ·rintro⟨al,off,o,f,g,j⟩;exact⟨al,off,o,f,g,fun k d e m=>j k _ ⟨d,e,rfl⟩ (by rwa [od])⟩
  ·rintro⟨al,off,o,f,g,j⟩;refine⟨al,off,o,f,g,?_⟩;rintro k _ ⟨d,e,rfl⟩ m;exact j k d e (by rwa [od]at m)
 | .sl b aw aj off len,v,c=>by
  simp only[aD,Small]at c;simp only[cK,bR,h.arr c,(h.al b c).1,(h.al b c).2];constructor
  ·intro l k d e;have:=l k _ ⟨d,e,rfl⟩;simpa only[tQ,od]using this
  ·rintro l k _ ⟨d,e,rfl⟩;have:=l k d e;simpa only[tQ,od]using this
 | .map b,v,c=>by
  simp only[aD,Small]at c;simp only[cK,bR,h.map c,h.loop c,(h.al b c).1]
mutual
theorem dT.N2(h:dT σ dS H0 β H):∀(a:AV)(cs:List be),aD (Small H0.length) a->(bp P w ad β H (cK σ a) cs↔bp P w ad dS H0 a cs)
 | .p _,_,_=>by simp[cK,bp]
 | .aE _,_,_=>by simp[cK,bp]
 | .st u fs,cs,d=>by
  simp only[aD]at d;simp only[cK,bp];exact exists_congr fun l=>exists_congr fun e=>and_congr_right fun _=>and_congr_left fun _=>dT.A4 h l fs e d
 | .func f fi ca,cs,d=>by
  simp only[aD]at d;simp only[cK,bp];exact exists_congr fun l=>exists_congr fun e=>and_congr (dT.qM h fi l d.1) (and_congr_left fun _=>dT.qM h ca e d.2)
 | .ptr b path,cs,d=>by
  have:=fun v=>h.qZ (P:=P) (a:=.ptr b path) (v:=v) d;simp only[cK,bp,bN]at this⊢;simp only[this]
 | .b7 b aw aj i path,cs,d=>by
  have:=fun v=>h.qZ (P:=P) (a:=.b7 b aw aj i path) (v:=v) d;simp only[cK,bp,bN]at this⊢;simp only[this]
 | .sl b aw aj off len,cs,d=>by
  have:=fun v=>h.qZ (P:=P) (a:=.sl b aw aj off len) (v:=v) d;simp only[cK,bp,bN]at this⊢;simp only[this]
 | .map b,cs,d=>by
  have:=fun v=>h.qZ (P:=P) (a:=.map b) (v:=v) d;simp only[cK,bp,bN]at this⊢;simp only[this]
theorem dT.A4(h:dT σ dS H0 β H):∀(g:List Nat)(l:List AV)(e:List (List be)),aV (Small H0.length) l->(bM P w ad β H g (cR σ l) e↔bM P w ad dS H0 g l e)
 |[],[],e,_=>by simp[cR,bM]
 |[],_::_,e,_=>by simp[cR,bM]
 |_::_,[],e,_=>by simp[cR,bM]
 |n::g,v::vs,e,d=>by
  simp only[aV]at d;simp only[cR,bM];exact exists_congr fun c=>exists_congr fun cs=>and_congr_right fun _=>and_congr (dT.N2 h v c d.1) (and_congr_right fun _=>dT.A4 h g vs cs d.2)
theorem dT.EN(h:dT σ dS H0 β H):∀(a:AV)(v:be),aD (Small H0.length) a->(az P w ad β H (cK σ a) v↔az P w ad dS H0 a v)
 | .p _,_,_=>by simp[cK,az]
 | .aE vs,_,d=>by
  simp only[aD]at d;simp only[cK,az];exact exists_congr fun l=>and_congr_left fun _=>dT.qM h vs l d
 | .st u fs,cs,d=>by
  simp only[aD]at d;simp only[cK,az];exact exists_congr fun l=>exists_congr fun e=>and_congr_right fun _=>and_congr_left fun _=>dT.A4 h l fs e d
 | .func f fi ca,cs,d=>by
  simp only[aD]at d;simp only[cK,az];exact exists_congr fun l=>exists_congr fun e=>and_congr (dT.qM h fi l d.1) (and_congr_left fun _=>dT.qM h ca e d.2)
 | .ptr b path,v,d=>by
  have:=h.qZ (P:=P) (a:=.ptr b path) (v:=v) d;simp only[cK,az,bN]at this⊢;simp only[this]
 | .b7 b aw aj i path,v,d=>by
  have:=h.qZ (P:=P) (a:=.b7 b aw aj i path) (v:=v) d;simp only[cK,az,bN]at this⊢;simp only[this]
 | .sl b aw aj off len,v,d=>by
  have:=h.qZ (P:=P) (a:=.sl b aw aj off len) (v:=v) d;simp only[cK,az,bN]at this⊢;simp only[this]
 | .map b,v,d=>by
  have:=h.qZ (P:=P) (a:=.map b) (v:=v) d;simp only[cK,az,bN]at this⊢;simp only[this]
theorem dT.qM(h:dT σ dS H0 β H):∀(l:List AV)(vs:List be),aV (Small H0.length) l->(bB P w ad β H (cR σ l) vs↔bB P w ad dS H0 l vs)
 |[],vs,_=>by simp[cR,bB]
 |a::l,vs,d=>by
  simp only[aV]at d;simp only[cR,bB];exact exists_congr fun y=>exists_congr fun j=>and_congr_right fun _=>and_congr (dT.EN h a y d.1) (dT.qM h l j d.2)
end
theorem dT.Ro(h:dT σ dS H0 β H){ai Prot0:Nat->Prop}{b:Nat}{o:Obj}(f:H0[b]?=some o)(c:o.refs (Small H0.length))(a:o.live->∀fz,cz ad dS Prot0 fz b↔cz ad β ai fz (σ b)):
 fk P w ad β H ai (σ b) (c7 σ o)↔fk P w ad dS H0 Prot0 b o:=by
 have g:b<H0.length:=(cx.1 f).1;obtain⟨k1,k2⟩:=h.al b g;cases o with
 |hole=>simp[c7,fk]
 |dead=>simp[c7,fk]
 |box fz t=>
  simp only[c7,fk,k1,<-a trivial,h.N2 t _ c,Nx,Xc]
 |arr k aw aj es=>
  simp only[c7,fk,k1,k2,od,tQ,Mn]
  by_cases e:df k es
  ·simp[e]
  ·simp only[e,false_or,<-a e,h.A4 _ es _ c]
 |map fz es=>
  simp only[c7,fk,k1,<-a trivial]
 |dx ks vs=>
  simp only[c7,fk,k1,<-a trivial,h.qM vs _ c]
 |dA s pos=>
  simp only[c7,fk,k1,<-a trivial]
 |loop L=>
  simp only[c7,fk,k1,<-a trivial,DD];exact exists_congr fun t=>exists_congr fun d=>exists_congr fun fn=>and_congr_right fun _=>and_congr_right fun _=>and_congr_left fun _=>forall_congr' fun x=>h.EN _ _ (c x)
end
end
end Go.ag
namespace Go.ag
variable[Gl]
def sig(bs:List Nat)(a i:Nat):Nat:=match bs[i]? with
 |some b=>b
 |none=>a+(i-bs.length)
theorem uq{bs:List Nat}{a i:Nat}(h:i<bs.length):sig bs a i=bs[i]:=by simp[sig,h]
theorem ur{bs:List Nat}{a i:Nat}(h:bs.length<=i):sig bs a i=a+(i-bs.length):=by simp[sig,h]
theorem aGt{bs:List Nat}{a:Nat}(e:bs.Nodup)(d:∀b∈bs,b<a){i j:Nat}(h:sig bs a i=sig bs a j):i=j:=by
 by_cases hi:i<bs.length<;>by_cases c:j<bs.length
 ·rw[uq hi,uq c]at h;exact(List.getElem_inj e).1 h
 ·rw[uq hi,ur (by omega)]at h;have:=d _ (ej hi);omega
 ·rw[ur (by omega),uq c]at h;have:=d _ (ej c);omega
 ·rw[ur (by omega),ur (by omega)]at h;omega
theorem CA:∀{l:List (Nat×Obj)}{H:Heap}{x:Nat},(∀p∈l,p.1≠x)->(bf H l)[x]?=H[x]?
 |[],_,_,_=>rfl
 |(b,o)::r,H,x,h=>by
  simp only[bf];rw[CA (fun p a=>h p (by simp[a])),List.getElem?_set_ne (h (b,o) (by simp))]
theorem C4:∀{l:List (Nat×Obj)}{H:Heap},(l.map (·.1)).Nodup->∀p∈l,p.1<H.length->(bf H l)[p.1]?=some p.2
 |[],_,_,_,h,_=>by simp at h
 |(b,o)::r,H,a,p,c,d=>by
  simp only[db,dq]at a;simp only[bf];rcases c9.1 c with rfl|c
  ·rw[CA (fun q hq e=>a.1 (eq.2 ⟨q,hq,e⟩)),List.getElem?_set_self d]
  ·exact C4 a.2 p c (by simpa using d)
theorem C0(a:Nat):∀(l:List Obj),(newAt a l).map (·.1)=List.range' a l.length
 |[]=>rfl
 |o::r=>by simp[newAt,C0 (a+1) r,List.range'_succ]
theorem Kr:∀(l:List Obj)(a j:Nat)(h:j<l.length),(a+j,l[j])∈newAt a l
 |[],_,_,h=>by simp at h
 |o::r,a,0,h=>by simp[newAt]
 |o::r,a,j+1,h=>by
  have:=Kr r (a+1) j (by simpa using h);simp only[newAt,List.getElem_cons_succ,c9];right;have e:a+(j+1)=a+1+j:=by omega
  rw[e];exact this
section
variable{P:a6}{w w':bk}{ad aF ai:Nat->Prop}{β aI:Bd}{H H':Heap}
theorem fk.mut{b:Nat}{o:Obj}(h:fk P w ad β H ai b o)(f:o.live)(l:¬ad (β.al b)):¬ai (β.al b):=by
 have held:∀{fz},cz ad β ai fz b->¬ai (β.al b):=by
  intro fz g;cases fz with
  |true=>exact(l (by simpa[cz]using g)).elim
  |false=>
   have:¬ad (β.al b)/\¬ai (β.al b):=by simpa[cz]using g
   exact this.2
 cases o with
 |hole=>exact f.elim
 |dead=>exact f.elim
 |box fz t=>
  obtain⟨cs,T,c,d,a,e⟩:=h;exact held a
 |arr k aw aj es=>
  rcases h with h|⟨cs,T,m,rest,c,d,a,e,n,p,j,q⟩
  ·exact(f h).elim
  ·exact held j
 |map fz es=>
  obtain⟨i,clock,c,d,a⟩:=h;exact held a
 |dx ks vs=>
  obtain⟨i,clock,c,d,a,e⟩:=h;exact held e
 |dA s pos=>
  obtain⟨bs,c,d,a⟩:=h;exact held a
 |loop L=>
  obtain⟨tmps,defers,fn,c,d,a,e⟩:=h;exact held e
theorem fk.carry(hi:∀k,ad k->aF k)(hs:∀k,ad k->w'.heap[k]?=w.heap[k]?)(aK:cj β H aI H'){b:Nat}{o:Obj}(l:o.refs (aH H))
 (j:o.live->w'.heap[β.al b]?=w.heap[β.al b]?/\aI.al b=β.al b/\aI.cap b=β.cap b)(held:o.live->∀fz,cz ad β ai fz b->cz aF aI ai fz b)(h:fk P w ad β H ai b o):fk P w' aF aI H' ai b o:=by
 cases o with
 |hole=>trivial
 |dead=>trivial
 |box fz t=>
  obtain⟨cs,T,d,e,f,i⟩:=h;obtain⟨a,c,g⟩:=j trivial;exact⟨cs,T,by rw[c,a];exact d,bp.mono hi hs aK _ _ l e,held trivial _ f,i⟩
 |arr k aw aj es=>
  rcases h with h|⟨cs,T,p,rest,d,e,f,i,q,r,u,v⟩
  ·exact .inl h
  ·by_cases n:df k es
   ·exact .inl n
   ·obtain⟨a,c,g⟩:=j n;exact .inr ⟨cs,T,p,rest,by rw[c,a];exact d,bM.mono hi hs aK _ _ _ l e,f,by rw[g];exact i,by rw[g];exact q,by rw[g];exact r,held n _ u,v⟩
 |map fz es=>
  obtain⟨m,clock,d,e,f⟩:=h;obtain⟨a,c,g⟩:=j trivial;exact⟨m,clock,by rw[c,a];exact d,cA.mono hi hs _ _ e,held trivial _ f⟩
 |dx ks vs=>
  obtain⟨m,clock,d,e,f,i⟩:=h;obtain⟨a,c,g⟩:=j trivial;exact⟨m,clock,by rw[c,a];exact d,bw.mono hi hs _ _ e,bB.mono hi hs aK _ _ l f,held trivial _ i⟩
 |dA s pos=>
  obtain⟨bs,d,e,f⟩:=h;obtain⟨a,c,g⟩:=j trivial;exact⟨bs,by rw[c,a];exact d,e,held trivial _ f⟩
 |loop L=>
  obtain⟨tmps,defers,fn,d,e,f,i⟩:=h;obtain⟨a,c,g⟩:=j trivial;exact⟨tmps,defers,fn,by rw[c,a];exact d,e,fun x=>az.mono hi hs aK _ _ (l x) (f x),held trivial _ i⟩
def dE(bs:List Nat)(a:Nat)(H0 bW:Heap)(b:AV):aY:=
 {v:=cK (sig bs a) b,ak:=bs.zip (H0.map (c7 (sig bs a))),aJ:=bs.zip ((bW.take H0.length).map (c7 (sig bs a))),aU:=(bW.drop H0.length).map (c7 (sig bs a))}
open Classical in
theorem J8{H0 bW:Heap}{fK:List AV}{v0:AV}(bs:List Nat)(base:Nat)(hlen:bs.length=H0.length)(hnd:bs.Nodup)(hlt:∀b∈bs,b<base)
 (hl:H0.length<=bW.length)(ha:aV (aH H0) fK)(ho:∀(b:Nat)(o:Obj),H0[b]?=some o->o.refs (aH H0))
 {H:Heap}{w:bk}{ad ai:Nat->Prop}{β:Bd}{cargs:List be}(hr:bU P w ad β H ai)(hargs:bB P w ad β H (cR (sig bs base) fK) cargs)
 (ak:∀p∈(dE bs base H0 bW v0).ak,H[p.1]?=some p.2)(aU:∀i,i<(dE bs base H0 bW v0).aU.length->H[base+i]?=some .hole):
 ∃(dS:Bd)(Prot0:Nat->Prop),(∀b,dS.al b=β.al (sig bs base b))/\bU P w ad dS H0 Prot0/\bB P w ad dS H0 fK cargs/\(∀b,b<H0.length->(gM H (sig bs base b)↔gM H0 b))/\
  ∀(cv:be)(w':bk)(β0':Bd)(aF:Nat->Prop),bY P Prot0 ad w dS H0 aF w' β0' bW->az P w' aF β0' bW v0 cv->aD (aH bW) v0->
   ∃aI,bY P ai ad w β H aF w' aI (bf H ((dE bs base H0 bW v0).aJ++newAt base (dE bs base H0 bW v0).aU))/\
    az P w' aF aI (bf H ((dE bs base H0 bW v0).aJ++newAt base (dE bs base H0 bW v0).aU)) (dE bs base H0 bW v0).v cv/\
    aD (aH (bf H ((dE bs base H0 bW v0).aJ++newAt base (dE bs base H0 bW v0).aU))) (dE bs base H0 bW v0).v:=by
 obtain⟨σ,hσ⟩:∃σ,σ=sig bs base:=⟨_,rfl⟩
 have hinj:∀{i j},σ i=σ j->i=j:=fun{i j} h=>aGt hnd hlt (by rw[hσ]at h;exact h);have hold:∀{i}(hi:i<H0.length),σ i=bs[i]'(by omega):=fun hi=>by rw[hσ];exact uq _
 have hnw:∀{i},H0.length<=i->σ i=base+(i-H0.length):=fun hi=>by rw[hσ,ur (by omega),hlen]
 have hget:∀(b:Nat)(o:Obj),H0[b]?=some o->H[σ b]?=some (c7 σ o):=by
  intro b o hb;obtain⟨hbl,rfl⟩:=cx.1 hb;have:=ak (bs[b]'(by omega),c7 (sig bs base) H0[b]) (by
   simp only[dE];rw[da];exact⟨b,by simp;omega,by simp⟩)
  rw[hold hbl,hσ];exact this
 have hnewH:∀i,H0.length<=i->i<bW.length->H[σ i]?=some .hole:=by
  intro i h1 h2;rw[hnw h1];exact aU (i-H0.length) (by simp[dE];omega)
 obtain⟨H2,hH2⟩:∃H2,H2=bf H ((dE bs base H0 bW v0).aJ++newAt base (dE bs base H0 bW v0).aU):=⟨_,rfl⟩
 have hkeys:∀p∈(dE bs base H0 bW v0).aJ++newAt base (dE bs base H0 bW v0).aU,∃i,i<bW.length/\p.1=σ i:=by
  intro p hp;rcases en.1 hp with hp|hp
  ·simp only[dE]at hp;have hm:=(dp hp).1;obtain⟨i,hi,he⟩:=da.1 hm;exact⟨i,by omega,by rw[hold (by omega)];exact he.symm⟩
  ·have hm:p.1∈(newAt base (dE bs base H0 bW v0).aU).map (·.1):=ec hp
   rw[C0,ed]at hm;simp only[dE,List.length_map,List.length_drop]at hm;exact⟨H0.length+(p.1-base),by omega,by rw[hnw (by omega)];omega⟩
 have hndk:(((dE bs base H0 bW v0).aJ++newAt base (dE bs base H0 bW v0).aU).map (·.1)).Nodup:=by
  rw[eo,C0];have e:(dE bs base H0 bW v0).aJ.map (·.1)=bs:=by
   simp only[dE];rw[List.map_fst_zip];simp;omega
  rw[e,List.nodup_append];refine⟨hnd,List.nodup_range',fun a h1 b h2 he=>?_⟩;subst he;have:=hlt _ h1;rw[ed]at h2;omega
 have hA:∀(i:Nat)(o:Obj),bW[i]?=some o->H2[σ i]?=some (c7 σ o):=by
  intro i o hi;obtain⟨hil,rfl⟩:=cx.1 hi
  by_cases hi0:i<H0.length
  ·have hm:(bs[i]'(by omega),c7 (sig bs base) bW[i])∈(dE bs base H0 bW v0).aJ++newAt base (dE bs base H0 bW v0).aU:=by
    refine List.mem_append_left _ ?_;simp only[dE];rw[da];exact⟨i,by simp;omega,by simp⟩
   have:=C4 (H:=H) hndk _ hm (by
    have:=hget i _ (ck hi0);rw[hold hi0]at this;exact(cx.1 this).1)
   rw[hH2,hold hi0,this,hσ]
  ·have hm:(base+(i-H0.length),c7 (sig bs base) bW[i])∈(dE bs base H0 bW v0).aJ++newAt base (dE bs base H0 bW v0).aU:=by
    refine ea _ ?_;have:=Kr (dE bs base H0 bW v0).aU base (i-H0.length) (by simp[dE];omega);have e:(dE bs base H0 bW v0).aU[i-H0.length]'(by simp[dE];omega)=c7 (sig bs base) bW[i]:=by
     simp only[dE,List.getElem_map,List.getElem_drop];congr 2;omega
    rw[e]at this;exact this
   have:=C4 (H:=H) hndk _ hm (by
    have:=hnewH i (by omega) hil;rw[hnw (by omega)]at this;exact(cx.1 this).1)
   rw[hH2,hnw (by omega),this,hσ]
 have hB:∀x,(∀i,i<bW.length->σ i≠x)->H2[x]?=H[x]?:=by
  intro x hx;rw[hH2];refine CA fun p hp=>?_;obtain⟨i,h1,h2⟩:=hkeys p hp;rw[h2];exact hx i h1
 let dS:Bd:=⟨fun b=>β.al (σ b),fun b=>β.cap (σ b)⟩
 let Prot0:Nat->Prop:=fun k=>ai k\/∃x o,H[x]?=some o/\o.live/\(∀i,i<H0.length->σ i≠x)/\β.al x=k
 have hemb:dT σ dS H0 β H:=⟨hget,fun b _=>⟨rfl,rfl⟩⟩
 have small:∀x:Nat×Nat,aH H0 x->Small H0.length x:=fun x⟨o,ho,_⟩=>(cx.1 ho).1;have held0:∀{b:Nat}{o:Obj},H0[b]?=some o->o.live->∀fz,cz ad dS Prot0 fz b↔cz ad β ai fz (σ b):=by
  intro b o hb hlv fz;cases fz with
  |true=>simp[cz,dS]
  |false=>
   simp only[cz,a0,if_false];refine and_congr_right fun hni=>⟨fun h hp=>h (.inl hp),fun h hp=>?_⟩
   rcases hp with hp|⟨x,o',h1,h2,h3,h4⟩
   ·exact h hp
   ·exact h3 b (cx.1 hb).1 (hr.inj _ _ _ _ (hget b o hb) h1 (rI.2 hlv) h2 hni h4.symm)
 have hr0:bU P w ad dS H0 Prot0:=by
  refine⟨fun b o hb=>?_,fun b b' o o' h1 h2 l1 l2 hni he=>?_,ho,hr.bV,fun k hk=>?_,hr.ie⟩
  ·exact(hemb.Ro hb ((ho b o hb).mono small) (held0 hb)).1 (hr.cC _ _ (hget b o hb))
  ·exact hinj (hr.inj _ _ _ _ (hget b o h1) (hget b' o' h2) (rI.2 l1) (rI.2 l2) hni he)
  ·rcases hk with hk|⟨x,o,h1,h2,_,rfl⟩
   ·exact hr.ey k hk
   ·exact hr.mU h1 h2
 have hargs0:bB P w ad dS H0 fK cargs:=by
  rw[<-hσ]at hargs;exact(hemb.qM _ _ (aV.mono small _ ha)).1 hargs
 refine⟨dS,Prot0,fun b=>by rw[<-hσ],hr0,hargs0,fun b hb=>by rw[<-hσ];exact hemb.loop hb,fun cv w' β0' aF hp hv hvr=>?_⟩
 let aI:Bd:=⟨fun x=>if h:∃i,i<bW.length/\σ i=x then β0'.al h.choose else β.al x,fun x=>if h:∃i,i<bW.length/\σ i=x then β0'.cap h.choose else β.cap x⟩
 have hβ:∀i,i<bW.length->aI.al (σ i)=β0'.al i/\aI.cap (σ i)=β0'.cap i:=by
  intro i hi;have hex:∃j,j<bW.length/\σ j=σ i:=⟨i,hi,rfl⟩
  have hc:hex.choose=i:=hinj hex.choose_spec.2;simp only[aI,dif_pos hex,hc,and_self]
 have hβn:∀x,(∀i,i<bW.length->σ i≠x)->aI.al x=β.al x/\aI.cap x=β.cap x:=by
  intro x hx;have hnex:¬∃i,i<bW.length/\σ i=x:=fun⟨i,h1,h2⟩=>hx i h1 h2;simp only[aI,dif_neg hnex,and_self]
 have hemb':dT σ β0' bW aI H2:=⟨hA,fun b hb=>hβ b hb⟩
 have small':∀x:Nat×Nat,aH bW x->Small bW.length x:=fun x⟨o,ho,_⟩=>(cx.1 ho).1;have split:∀x,(∃i,i<bW.length/\σ i=x)\/∀i,i<bW.length->σ i≠x:=by
  intro x
  by_cases hx:∃i,i<bW.length/\σ i=x
  ·exact .inl hx
  ·exact .inr fun i h1 h2=>hx ⟨i,h1,h2⟩
 have inOld:∀{i v},i<bW.length->aH H (σ i,v)->aH H0 (i,v)/\i<H0.length:=by
  intro i v hi ⟨o,h1,h2⟩
  by_cases hi0:i<H0.length
  ·refine⟨?_,hi0⟩;have:=hget i _ (ck hi0);simp only at h1;rw[this]at h1;cases h1;exact⟨_,ck hi0,ND.1 h2⟩
  ·have:=hnewH i (by omega) hi;simp only at h1;rw[this]at h1;cases h1;exact h2.elim
 have gS:cj β H aI H2:=by
  refine⟨?_,?_,?_,?_,?_⟩
  ·intro b hb hlv;rcases split b with⟨i,hi,rfl⟩|hx
   ·obtain⟨k1,k2⟩:=inOld hi hb;obtain⟨g1,g2⟩:=hp.step.box i k1 ((hemb'.box hi).1 hlv);exact⟨(hemb.box k2).2 g1,(hβ i hi).1.trans g2⟩
   ·unfold mW at hlv⊢;rw[hB b hx]at hlv;exact⟨hlv,(hβn b hx).1⟩
  ·intro b hb hlv;rcases split b with⟨i,hi,rfl⟩|hx
   ·obtain⟨k1,k2⟩:=inOld hi hb;obtain⟨g1,g2⟩:=hp.step.it i k1 ((hemb'.it hi).1 hlv);exact⟨(hemb.it k2).2 g1,(hβ i hi).1.trans g2⟩
   ·unfold mX at hlv⊢;rw[hB b hx]at hlv;exact⟨hlv,(hβn b hx).1⟩
  ·intro b hb hlv;rcases split b with⟨i,hi,rfl⟩|hx
   ·obtain⟨k1,k2⟩:=inOld hi hb;obtain⟨g1,g2⟩:=hp.step.map i k1 ((hemb'.map hi).1 hlv);exact⟨(hemb.map k2).2 g1,(hβ i hi).1.trans g2⟩
   ·unfold oi at hlv⊢;rw[hB b hx]at hlv;exact⟨hlv,(hβn b hx).1⟩
  ·intro b aw aj k es hb hlv;rcases split b with⟨i,hi,rfl⟩|hx
   ·obtain⟨k1,k2⟩:=inOld hi hb;obtain⟨gD,g0,rfl⟩:=(hemb'.arr hi).1 hlv;obtain⟨k0,es1,g1,g2,g3,g4⟩:=hp.step.arr i aw aj k gD k1 g0;refine⟨k0,cR σ es1,(hemb.arr k2).2 ⟨_,g1,rfl⟩,by rw[tQ,tQ];exact g2,by rw[od,od];exact g3,fun hn=>?_⟩;rw[od]at hn;rw[(hβ i hi).1,(hβ i hi).2];exact g4 hn
   ·unfold eS at hlv⊢;rw[hB b hx]at hlv;exact⟨k,es,hlv,e9 _,Iff.rfl,fun _=>hβn b hx⟩
  ·intro b hb hlv;rcases split b with⟨i,hi,rfl⟩|hx
   ·obtain⟨k1,k2⟩:=inOld hi hb;obtain⟨g1,g2⟩:=hp.step.loop i k1 ((hemb'.loop hi).1 hlv);exact⟨(hemb.loop k2).2 g1,(hβ i hi).1.trans g2⟩
   ·unfold gM at hlv⊢;rw[hB b hx]at hlv;exact⟨hlv,(hβn b hx).1⟩
 have hinn:∀x,aH H x->aH H2 x:=by
  rintro⟨b,v⟩ hb;rcases split b with⟨i,hi,rfl⟩|hx
  ·obtain⟨k1,_⟩:=inOld hi hb;exact(hemb'.Fh (x:=(i,v)) hi).2 (hp.fh _ k1)
  ·obtain⟨o,h1,h2⟩:=hb;exact⟨o,by simp only;rw[hB b hx];exact h1,h2⟩
 have prot0:∀{x:Nat}{o:Obj},(∀i,i<bW.length->σ i≠x)->H[x]?=some o->o.live->Prot0 (β.al x):=by
  intro x o hx h1 h2;exact .inr ⟨x,o,h1,h2,fun i hi=>hx i (by omega),rfl⟩
 have mut':∀{i:Nat}{o:Obj},bW[i]?=some o->o.live->¬aF (β0'.al i)->¬Prot0 (β0'.al i):=by
  intro i o h1 h2 h3;exact(hp.rel.cC i o h1).mut h2 h3
 have hrel:bU P w' aF aI H2 ai:=by
  refine⟨fun x o hx=>?_,fun x x' o o' h1 h2 l1 l2 hni he=>?_,fun x o hx=>?_,hp.rel.bV,fun k hk=>hp.rel.ey k (.inl hk),hp.rel.ie⟩
  ·rcases split x with⟨i,hi,rfl⟩|hn
   ·have hg:=hA i _ (ck hi);rw[hg]at hx;cases hx;refine(hemb'.Ro (Prot0:=Prot0) (ck hi) ((hp.rel.refs i _ (ck hi)).mono small') (fun hlv fz=>?_)).2 (hp.rel.cC i _ (ck hi));cases fz with
    |true=>simp[cz,(hβ i hi).1]
    |false=>
     simp only[cz,a0,if_false,(hβ i hi).1];exact⟨fun h=>⟨h.1,fun hp=>h.2 (.inl hp)⟩,fun h=>⟨h.1,mut' (ck hi) hlv h.1⟩⟩
   ·rw[hB x hn]at hx;refine fk.carry hp.bV (fun k hk=>hp.ext.same k (.inr hk)) gS (hr.refs x o hx) (fun hlv=>⟨hp.ext.same _ (.inl (prot0 hn hx hlv)),hβn x hn⟩) (fun hlv fz hh=>?_) (hr.cC x o hx);have hp0:=prot0 hn hx hlv;cases fz with
    |true=>
     simp only[cz,if_true]at hh⊢;rw[(hβn x hn).1];exact hp.bV _ hh
    |false=>
     simp only[cz,a0,if_false]at hh⊢;rw[(hβn x hn).1];exact⟨fun hi=>(hp.fresh _ hi).elim hh.1 (fun h=>h hp0),hh.2⟩
  ·rcases split x with⟨i,hi,rfl⟩|hn<;>rcases split x' with⟨j,hj,rfl⟩|hn'
   ·have g1:=hA i _ (ck hi);have g2:=hA j _ (ck hj);rw[g1]at h1;cases h1;rw[g2]at h2;cases h2;rw[(hβ i hi).1,(hβ j hj).1]at he;rw[(hβ i hi).1]at hni;rw[hp.rel.inj i j _ _ (ck hi) (ck hj) (rI.1 l1) (rI.1 l2) hni he]
   ·have g1:=hA i _ (ck hi);rw[g1]at h1;cases h1;rw[hB x' hn']at h2;rw[(hβ i hi).1,(hβn x' hn').1]at he;rw[(hβ i hi).1]at hni;exact(mut' (ck hi) (rI.1 l1) hni (he▸prot0 hn' h2 l2)).elim
   ·have g2:=hA j _ (ck hj);rw[g2]at h2;cases h2;rw[hB x hn]at h1;rw[(hβ j hj).1,(hβn x hn).1]at he;rw[(hβn x hn).1]at hni;exact(mut' (ck hj) (rI.1 l2) (he▸hni) (he▸prot0 hn h1 l1)).elim
   ·rw[hB x hn]at h1;rw[hB x' hn']at h2;rw[(hβn x hn).1,(hβn x' hn').1]at he;rw[(hβn x hn).1]at hni;exact hr.inj _ _ _ _ h1 h2 l1 l2 (fun hi=>hni (hp.bV _ hi)) he
  ·rcases split x with⟨i,hi,rfl⟩|hn
   ·have hg:=hA i _ (ck hi);rw[hg]at hx;cases hx;rw[Wy];exact(hp.rel.refs i _ (ck hi)).mono (fun y hy=>(hemb'.Fh (small' y hy)).2 hy)
   ·rw[hB x hn]at hx;exact(hr.refs x o hx).mono hinn
 refine⟨aI,?_,?_,?_⟩
 ·rw[<-hH2];refine⟨hp.bV,fun k hk=>(hp.fresh k hk).imp id (fun h h'=>h (.inl h')),⟨hp.ext.size,fun k hk=>hp.ext.same k (hk.imp .inl id),hp.ext.io⟩,gS,hrel,hinn,fun b hb=>?_⟩;rcases split b with⟨i,hi,rfl⟩|hx
  ·by_cases hi0:i<H0.length
   ·exact(hemb'.loop hi).2 (hp.loop i ((hemb.loop hi0).1 hb))
   ·obtain⟨L,hL⟩:=hb;rw[hnewH i (by omega) hi]at hL;cases hL
  ·unfold gM at hb⊢;rw[hB b hx];exact hb
 ·rw[<-hH2];show az P w' aF aI H2 (cK (sig bs base) v0) cv;rw[<-hσ];exact(hemb'.EN _ _ (aD.mono small' _ hvr)).2 hv
 ·rw[<-hH2];show aD (aH H2) (cK (sig bs base) v0);rw[<-hσ,Di];exact aD.mono (fun y hy=>(hemb'.Fh (small' y hy)).2 hy) _ hvr
theorem cB.frame{f:a8}{H0 bW:Heap}{fK:List AV}{g:AV}(h:cB P f H0 fK bW g)(bs:List Nat)(a:Nat)(r:bs.length=H0.length)(t:bs.Nodup)(s:∀b∈bs,b<a)
 (q:H0.length<=bW.length)(d:aV (aH H0) fK)(u:∀(b:Nat)(o:Obj),H0[b]?=some o->o.refs (aH H0)):
 sQ P f (cR (sig bs a) fK) a (dE bs a H0 bW g):=by
 refine⟨h.1,fun H w ad ai β m x n _ ak aU=>?_⟩;obtain⟨dS,i,-,y,p,-,back⟩:=J8 bs a r t s q d u x n ak aU;refine(h.2 w ad i dS m y p d).mono ?_;rintro e w' ⟨c,B,aF,rfl,v,z,A⟩;obtain⟨aI,j,k,l⟩:=back c w' B aF v z A;exact⟨c,aI,aF,rfl,j,k,l⟩
theorem iq.frame{b:Nat}{H0 bW:Heap}{fK:List AV}{i:AV}(h:iq P b H0 fK bW i)(bs:List Nat)(a:Nat)(x:bs.length=H0.length)(A:bs.Nodup)(z:∀b∈bs,b<a)
 (v:H0.length<=bW.length)(g:aV (aH H0) fK)(B:∀(b:Nat)(o:Obj),H0[b]?=some o->o.refs (aH H0)):
 uL P (sig bs a b) (cR (sig bs a) fK) a (dE bs a H0 bW i):=by
 intro H w ad ai β p D r _ ak aU;obtain⟨dS,j,t,E,s,y,back⟩:=J8 bs a x A z v g B D r ak aU;have u:b<H0.length:=by
  obtain⟨L,q⟩:=h.1;exact(cx.1 q).1
 refine⟨(y b u).2 h.1,?_⟩;obtain⟨f,tmps,assign,body,d,e⟩:=h.2 w ad j dS p E s g;rw[t]at d e;refine⟨f,tmps,assign,body,d,fun n I=>?_⟩;obtain⟨c,w',J,aF,g1,C,F,G⟩:=e n I;obtain⟨aI,k,l,m⟩:=back c w' J aF C F G;exact⟨c,w',aI,aF,g1,k,l,m⟩
end
end Go.ag
namespace Go.ag
variable[Gl]
def kL(b:Nat):List Nat->Nat->Option Nat
 |[],_=>none
 |x::r,i=>bif ew x b then some i else kL b r (i+1)
theorem Mp{b:Nat}:∀{l:List Nat}{i j:Nat},kL b l i=some j->i<=j/\l[j-i]?=some b
 |[],_,_,h=>by simp[kL]at h
 |x::r,i,j,h=>by
  simp only[kL]at h;cases a:ew x b
  ·simp only[a,cond_false]at h;obtain⟨d,c⟩:=Mp h;refine⟨by omega,?_⟩;have e:j-i=(j-(i+1))+1:=by omega
   rw[e,List.getElem?_cons_succ];exact c
  ·simp only[a,cond_true,fm]at h;subst h;simp[dy a]
section
variable(bs:List Nat)
mutual
def mr:AV->Option AV
 | .p v=>some (.p v)
 | .ptr b path=>match kL b bs 0 with
  |some i=>some (.ptr i path)
  |none=>none
 | .b7 b aw aj i path=>match kL b bs 0 with
  |some j=>some (.b7 j aw aj i path)
  |none=>none
 | .sl b aw aj off len=>match kL b bs 0 with
  |some j=>some (.sl j aw aj off len)
  |none=>none
 | .map b=>match kL b bs 0 with
  |some j=>some (.map j)
  |none=>none
 | .func f fi ca=>match mi fi,mi ca with
  |some a,some b=>some (.func f a b)
  |_,_=>none
 | .st u fs=>match mi fs with
  |some a=>some (.st u a)
  |none=>none
 | .aE vs=>match mi vs with
  |some a=>some (.aE a)
  |none=>none
def mi:List AV->Option (List AV)
 |[]=>some []
 |v::r=>match mr v,mi r with
  |some a,some b=>some (a::b)
  |_,_=>none
end
def Ej:Obj->Option Obj
 | .box fz t=>match mr bs t with
  |some a=>some (.box fz a)
  |none=>none
 | .arr k aw aj es=>match mi bs es with
  |some a=>some (.arr k aw aj a)
  |none=>none
 | .map fz es=>some (.map fz es)
 | .dx ks vs=>match mi bs vs with
  |some a=>some (.dx ks a)
  |none=>none
 | .dA s n=>some (.dA s n)
 | .dead=>some .dead
 |_=>none
def xD(H:Heap):List Nat->Option Heap
 |[]=>some []
 |b::r=>match H[b]? with
  |some o=>match Ej bs o,xD H r with
   |some a,some t=>some (a::t)
   |_,_=>none
  |none=>none
end
section
variable{bs:List Nat}{base:Nat}
theorem Ac{b i:Nat}(h:kL b bs 0=some i):sig bs base i=b:=by
 have:=(Mp h).2;simp only[Nat.sub_zero]at this;simp[sig,this]
mutual
theorem Lo:∀{a c:AV},mr bs a=some c->cK (sig bs base) c=a
 | .p v,c,h=>by simp only[mr,fm]at h;subst h;rfl
 | .ptr b path,c,h=>by
  simp only[mr]at h
  split at h
  ·rename_i i hi;simp only[fm]at h;subst h;simp only[cK,Ac hi]
  ·simp at h
 | .b7 b aw aj i path,c,h=>by
  simp only[mr]at h
  split at h
  ·rename_i i hi;simp only[fm]at h;subst h;simp only[cK,Ac hi]
  ·simp at h
 | .sl b aw aj off len,c,h=>by
  simp only[mr]at h
  split at h
  ·rename_i i hi;simp only[fm]at h;subst h;simp only[cK,Ac hi]
  ·simp at h
 | .map b,c,h=>by
  simp only[mr]at h
  split at h
  ·rename_i i hi;simp only[fm]at h;subst h;simp only[cK,Ac hi]
  ·simp at h
 | .func f fi ca,c,h=>by
  simp only[mr]at h
  split at h
  ·rename_i a b d g;simp only[fm]at h;subst h;simp only[cK,pX d,pX g]
  ·simp at h
 | .st u fs,c,h=>by
  simp only[mr]at h
  split at h
  ·rename_i a d;simp only[fm]at h;subst h;simp only[cK,pX d]
  ·simp at h
 | .aE vs,c,h=>by
  simp only[mr]at h
  split at h
  ·rename_i a d;simp only[fm]at h;subst h;simp only[cK,pX d]
  ·simp at h
theorem pX:∀{l e:List AV},mi bs l=some e->cR (sig bs base) e=l
 |[],e,h=>by simp only[mi,fm]at h;subst h;rfl
 |v::r,e,h=>by
  simp only[mi]at h
  split at h
  ·rename_i a b d g;simp only[fm]at h;subst h;simp only[cR,Lo d,pX g]
  ·simp at h
end
theorem V6{o c:Obj}(h:Ej bs o=some c):c7 (sig bs base) c=o:=by
 cases o<;>simp only[Ej]at h
 case box fz t=>
  split at h
  ·rename_i a b;simp only[fm]at h;subst h;simp only[c7,Lo b]
  ·simp at h
 case arr k aw aj es=>
  split at h
  ·rename_i a b;simp only[fm]at h;subst h;simp only[c7,pX b]
  ·simp at h
 case dx ks vs=>
  split at h
  ·rename_i a b;simp only[fm]at h;subst h;simp only[c7,pX b]
  ·simp at h
 case hole=>simp at h
 case loop=>simp at h
 all_goals (simp only[fm]at h;subst h;rfl)
theorem Kb{H:Heap}:∀{l:List Nat}{H0:Heap},xD bs H l=some H0->H0.length=l.length/\∀p∈l.zip (H0.map (c7 (sig bs base))),H[p.1]?=some p.2
 |[],H0,h=>by simp only[xD,fm]at h;subst h;simp
 |b::r,H0,h=>by
  simp only[xD]at h
  split at h
  case h_2=>simp at h
  rename_i o f
  split at h
  case h_2=>simp at h
  rename_i a t d e;simp only[fm]at h;subst h;obtain⟨i1,i2⟩:=Kb e;refine⟨by simp[i1],fun p c=>?_⟩;simp only[db,List.zip_cons_cons,c9]at c;rcases c with rfl|c
  ·simp only[V6 d];exact f
  ·exact i2 p c
end
mutual
def Qa:AV->List Nat->List Nat
 | .p _,acc=>acc
 | .ptr b _,acc| .b7 b _ _ _ _,acc| .sl b _ _ _ _,acc| .map b,acc=>b::acc
 | .func _ fi ca,acc=>vh fi (vh ca acc)
 | .st _ fs,acc| .aE fs,acc=>vh fs acc
def vh:List AV->List Nat->List Nat
 |[],acc=>acc
 |v::r,acc=>Qa v (vh r acc)
end
def auo:Obj->List Nat
 | .box _ t=>Qa t []
 | .arr _ _ _ es=>vh es []
 |_=>[]
def Ex(H:Heap):Nat->List Nat->List Nat->List Nat
 |0,_,acc=>acc
 |_,[],acc=>acc
 |n+1,b::r,acc=>match kL b acc 0 with
  |some _=>Ex H n r acc
  |none=>Ex H n (match H[b]? with
   |some o=>auo o++r
   |none=>r) (b::acc)
def nodupB:List Nat->Bool
 |[]=>true
 |x::r=>(match kL x r 0 with
  |some _=>false
  |none=>true)&&nodupB r
theorem Kh{b:Nat}:∀{l:List Nat}{i:Nat},kL b l i=none->b∉l
 |[],_,_=>by simp
 |x::r,i,h=>by
  simp only[kL]at h;cases a:ew x b
  ·simp only[a,cond_false]at h;have:=Kh h;simp only[c9,not_or];refine⟨fun e=>?_,this⟩;subst e;rw[fb]at a;cases a
  ·simp[a]at h
theorem Ko:∀{l:List Nat},nodupB l=true->l.Nodup
 |[],_=>List.nodup_nil
 |x::r,h=>by
  simp only[nodupB,aT]at h;rw[dq];refine⟨?_,Ko h.2⟩;have a:=h.1
  split at a
  ·simp at a
  ·rename_i b;exact Kh b
def Bs(H:Heap)(b v:Nat):Bool:=match H[b]? with
 |some .hole|none=>false
 |some (.arr _ aw _ _)=>e6 v aw
 |some _=>true
theorem auy{H:Heap}{b v:Nat}(h:Bs H b v=true):aH H (b,v):=by
 unfold Bs at h
 split at h
 ·simp at h
 ·simp at h
 ·rename_i k aw aj c a;exact⟨_,a,cZ h⟩
 ·rename_i o d e a;refine⟨o,a,?_⟩;cases o with
  |hole=>exact(d rfl).elim
  |arr k aw aj c=>exact(e _ _ _ _ rfl).elim
  |_=>trivial
mutual
def sD(H:Heap):AV->Bool
 | .p _=>true
 | .ptr b _| .map b=>Bs H b 0
 | .b7 b aw _ _ _| .sl b aw _ _ _=>Bs H b aw
 | .func _ fi ca=>nh H fi&&nh H ca
 | .st _ fs| .aE fs=>nh H fs
def nh(H:Heap):List AV->Bool
 |[]=>true
 |v::r=>sD H v&&nh H r
end
mutual
theorem Dj{H:Heap}:∀{a:AV},sD H a=true->aD (aH H) a
 | .p _,_=>by simp[aD]
 | .ptr _ _,h| .map _,h| .b7 _ _ _ _ _,h| .sl _ _ _ _ _,h=>by
  simp only[sD]at h;simp only[aD];exact auy h
 | .func _ fi ca,h=>by
  simp only[sD,aT]at h;simp only[aD];exact⟨pY h.1,pY h.2⟩
 | .st _ _,h| .aE _,h=>by
  simp only[sD]at h;simp only[aD];exact pY h
theorem pY{H:Heap}:∀{l:List AV},nh H l=true->aV (aH H) l
 |[],_=>by simp[aV]
 |v::r,h=>by
  simp only[nh,aT]at h;simp only[aV];exact⟨Dj h.1,pY h.2⟩
end
def Ax(H:Heap):Obj->Bool
 | .box _ t=>sD H t
 | .arr _ _ _ es=>nh H es
 | .dx _ vs=>nh H vs
 | .loop _=>false
 |_=>true
theorem Kk{H:Heap}{o:Obj}(h:Ax H o=true):o.refs (aH H):=by
 cases o<;>simp only[Ax]at h<;>simp only[Obj.refs]
 ·exact Dj h
 ·exact pY h
 ·exact pY h
 ·simp at h
def sr(p:Obj->Bool):List Obj->Bool
 |[]=>true
 |o::r=>p o&&sr p r
theorem xt{p:Obj->Bool}:∀{l:List Obj},sr p l=true->∀o∈l,p o=true
 |[],_,o,h=>by simp at h
 |a::r,h,o,b=>by
  simp only[sr,aT]at h;rcases c9.1 b with rfl|b
  ·exact h.1
  ·exact xt h.2 o b
def Aq(n:Nat):List Nat->Bool
 |[]=>true
 |x::r=>e6 (x+1) n&&Aq n r
theorem Ee{n:Nat}:∀{l:List Nat},Aq n l=true->∀x∈l,x<n
 |[],_,o,h=>by simp at h
 |a::r,h,o,b=>by
  simp only[Aq,aT]at h;rcases c9.1 b with rfl|b
  ·exact cZ h.1
  ·exact Ee h.2 o b
def An:Obj->Bool
 | .hole=>false
 |_=>true
def xQ(run:List AV->Heap->Option (AV×Heap))(args:List AV)(H:Heap):Option aY:=
 let bs:=Ex H 1000 (vh args []) []
 match mi bs args,xD bs H bs with
 |some fK,some H0=>bif nodupB bs&&(Aq H.length bs&&(nh H0 fK&&sr (Ax H0) H0))then
  match run fK H0 with
  |some (v0,H1)=>bif e6 H0.length H1.length&&(sr An (H1.take H0.length))then some (dE bs H.length H0 H1 v0)else none
  |none=>none
  else none
 |_,_=>none
theorem Da{P:a6}{f:a8}{run:List AV->Heap->Option (AV×Heap)}(n:∀args H v H',run args H=some (v,H')->cB P f H args H' v){args:List AV}{H:Heap}{e:aY}(h:xQ run args H=some e):
 sQ P f args H.length e/\qJ H e:=by
 unfold xQ at h;dsimp only at h
 split at h
 case h_2=>simp at h
 rename_i fK H0 g i;simp only[ay,fd,aT]at h;obtain⟨⟨g1,g2,g3,g4⟩,h⟩:=h
 split at h
 case h_2=>simp at h
 rename_i q H1 j;simp only[fd,fm]at h;obtain⟨⟨g5,g7⟩,rfl⟩:=h;obtain⟨k1,k2⟩:=Kb (base:=H.length) i;have hf:=(n _ _ _ _ j).frame _ H.length k1.symm (Ko g1) (Ee g2) (cZ g5) (pY g3) (fun b o k=>Kk (xt g4 o (dk k)));rw[pX g]at hf;refine⟨hf,k2,fun p d=>?_⟩;simp only[dE]at d;have c:=dp d;refine⟨Ee g2 _ c.1,fun l=>?_⟩;obtain⟨o,m,a⟩:=eq.1 c.2;rw[l]at a;have:=xt g7 o m;rw[XB.1 a]at this;simp[An]at this
mutual
theorem Aw:∀v:AV,cK (fun i=>i) v=v
 | .p _| .sl .. | .b7 .. | .ptr .. | .map _=>rfl
 | .st u vs=>by simp only[cK,rM vs]
 | .aE vs=>by simp only[cK,rM vs]
 | .func f a b=>by simp only[cK,rM a,rM b]
theorem rM:∀l:List AV,cR (fun i=>i) l=l
 |[]=>rfl
 |v::l=>by simp only[cR,Aw v,rM l]
end
theorem KF:∀e:Env,uO (fun i=>i) e=e
 |[]=>rfl
 |(x,v)::r=>by simp only[uO,Aw v,KF r]
theorem aF8(o:Obj):c7 (fun i=>i) o=o:=by
 cases o<;>simp only[c7,Aw,rM,KF]
theorem N6(n:Nat):sig (c6 n) n=fun i=>i:=by
 funext i
 by_cases h:i<n
 ·rw[uq (by simpa using h)];simp
 ·rw[ur (by simpa using h)];simp;omega
def yw(H:Heap):List (Nat×Obj):=(c6 H.length).zip H
theorem aup{H:Heap}{p:Nat×Obj}(h:p∈yw H):H[p.1]?=some p.2:=by
 rw[yw,da]at h;obtain⟨i,hi,a⟩:=h;rw[List.getElem_zip]at a;subst a;simp
def Bn(H:Heap):Env->Bool
 |[]=>true
 |(_,v)::r=>sD H v&&Bn H r
theorem Nn{H:Heap}:∀{e:Env},Bn H e=true->∀x,aD (aH H) (aN e x)
 |[],_,x=>by simp[aN,aD]
 |(y,v)::r,h,x=>by
  simp only[Bn,aT]at h;simp only[aN]
  split
  ·exact Dj h.1
  ·exact Nn h.2 x
def OE(H:Heap):Obj->Bool
 | .loop L=>Bn H L.env
 |o=>Ax H o
theorem Wz{H:Heap}{o:Obj}(h:OE H o=true):o.refs (aH H):=by
 cases o<;>first
  |exact Kk h
  |exact Nn h
def DW(run:Nat->Heap->List AV->Option (Heap×AV))(b:Nat)(args:List AV)(H:Heap):Option aY:=
 bif nh H args&&sr (OE H) H then
  match run b H args with
  |some (H1,v)=>bif e6 H.length H1.length&&(sr An (H1.take H.length))then some {v,ak:=yw H,aJ:=(c6 H.length).zip (H1.take H.length),aU:=H1.drop H.length}else none
  |none=>none
 else none
theorem VG{P:a6}{run:Nat->Heap->List AV->Option (Heap×AV)}(k:∀b H args H' v,run b H args=some (H',v)->iq P b H args H' v){b:Nat}{args:List AV}{H:Heap}{e:aY}(h:DW run b args H=some e):
 uL P b args H.length e/\qJ H e:=by
 unfold DW at h;simp only[ay,fd,aT]at h;obtain⟨⟨g3,g4⟩,h⟩:=h
 split at h
 case h_2=>simp at h
 rename_i H1 f g;simp only[fd,fm]at h;obtain⟨⟨g5,g7⟩,rfl⟩:=h;have hf:=(k _ _ _ _ _ g).frame (c6 H.length) H.length (by simp) ei (fun b a=>by simpa using a) (cZ g5) (pY g3) (fun b o a=>Wz (xt g4 o (dk a)));have e:dE (c6 H.length) H.length H H1 f={v:=f,ak:=yw H,aJ:=(c6 H.length).zip (H1.take H.length),aU:=H1.drop H.length}:=by
  simp only[dE,N6,Aw];rw[show(c7 fun i=>i)=id from funext aF8,eb,eb,eb,yw]
 rw[e,N6,rM]at hf;refine⟨hf,fun p c=>aup c,fun p c=>?_⟩;have d:=dp c;refine⟨by simpa using d.1,fun j=>?_⟩;have:=xt g7 p.2 d.2;rw[j]at this;simp[An]at this
end Go.ag
