import Derived.Test.YtgpphcmkjhklgaaGreatDoorThC
/- Parts of a proof. -/
set_option linter.unusedSimpArgs false
set_option linter.unusedVariables false
set_option linter.unusedSectionVars false
open Array renaming getElem?_eq_some_iff->ao, getElem?_eq_getElem->ap, replicate->av, getD_eq_getD_getElem?->ax
open BitVec renaming ofInt->ay
open Bool renaming cond_eq_ite->aT, and_eq_true->a0, false_eq_true->a1
open Go renaming TypeId->a6, Program->a7, Operand->a8, FuncId->bb, BinOp->be, Value->bi, IntKind->bk, World->bl, ResultVar->bo, mem_ready->bv, getD_set_ne->b0, Frame->b1
open Go.Region renaming ready->b2, schedule->b3, binds->b4
open Go.Region.linearise renaming go->b5
open Go.Utf8 renaming decode->cb
open Int renaming natCast_nonneg->cc, ofNat_eq_natCast->ce, toNat_natCast->ck
open List renaming getElem?_eq_getElem->cx, getElem?_eq_some_iff->cy, replicate->c6, range->c9, mem_cons->da, mem_iff_getElem->db, map_cons->dg, all_eq_true->dk, mem_of_getElem?->dl, isEmpty_cons->dp, of_mem_zip->dq, nodup_cons->dz, map_nil->ea, mem_append_right->eb, map_id->ec, mem_map_of_mem->ed, mem_range'_1->ee, countP_congr->ei, nodup_range->ej, getElem_mem->em, countP_cons->en, mem_append->eo, map_append->eq, mem_map->ew
open Nat renaming beq->ey, ble->e6, ble_eq_true_of_le->e7, zero_le->e8, le_refl->e9, strongRecOn->fb, beq_refl->fd
open Option renaming ite_none_right_eq_some->fl, getD_some->fm
open Option.some renaming injEq->fv
namespace Go.al
set_option linter.unusedSectionVars false
variable[Gl]
section
variable{P:a7}{ag:bb->Bool}{n:Nat}
variable{ops:Array Oper}{es:List (St×aS)}{s':St}
theorem cw.congr{ah aa:Nat->Prop}{β:Bd}{s u:St}{t:Array bi}{w:bl}(h:cw P n ah aa β s t w)(b:∀x,aK u.env x=aK s.env x)(a:u.heap=s.heap):cw P n ah aa β u t w:=by
 refine⟨by rw[a];exact h.heap,fun x=>?_,fun x=>?_,h.size⟩
 ·rw[b,a];exact h.env x
 ·rw[b,a];exact h.ga x
theorem cw.mj{ah aa:Nat->Prop}{β:Bd}{s:St}{t:Array bi}{w:bl}(m:Nat)(h:cw P n ah aa β s t w):cw P n ah aa β ⟨s.env,s.heap++c6 m .hole⟩ t w:=
 ⟨h.heap.mj m,fun x=>au.mono (fun _ x=>x) (fun _ _=>rfl) (nM β s.heap m) _ _ (h.ga x) (h.env x),fun x=>aB.mono (lU _ _) _ (h.ga x),h.size⟩
theorem U0{o:Oper}{e e':Env}(h:∀x∈looks ops o,aK e' x=aK e x):∀x∈o.op.operands,ev e' x=ev e x:=by
 intro x hx;cases x with
 |tmp t=>
  simp only[ev];refine h t ?_;simp only[looks,eo,List.mem_filterMap];exact .inl ⟨.tmp t,by simpa using hx,rfl⟩
 |_=>rfl
theorem iw.run(h:iw P n ops es s'){D:Nat->Prop}(hc:u7 ops D){i:Nat}{o:Oper}(a:ops[i]?=some o)(x:¬D i)(z:∀e∈o.after,b4 .any e=true->D e.on){s:St}(m:At ops es s' D s)
 {fr:b1}{k:List Item}{cs:List b1}{r:List Nat}{ds:List Deferred}{ah aa:Nat->Prop}{β:Bd}{t:Array bi}{w:bl}(b:cw P n ah aa β s t w):
 ∃u aD aG d w',Steps P (lone (bu fr t ds (.inRegion ops (i::r)::k)) cs w) (lone (bu fr d ds (.inRegion ops r::k)) cs w')/\cw P n ah aD aG u d w'/\(∀N,dD N ah aa w β s.heap ah aD w' aG u.heap)/\At ops es s' (fun j=>D j\/j=i) u:=by
 obtain⟨g,A⟩:=h.reads hc a x z m;have hi:i<ops.size:=(ao.1 a).1;obtain⟨v,_⟩:=h.at_ i o a;have c:=h.next hc a x z m;have q:iv n o=true:=h.dst o (by rw[Array.mem_toList_iff];exact Array.mem_of_getElem? a);have H:=h.vJ (k:=i) (by omega);rcases v.act with⟨f,C⟩|⟨f,E⟩
 ·obtain⟨aD,aG,d,w',B,a2,a3⟩:=C fr k cs ops i r ds ah aa β s t w a (f t s ah aa β w b g) q b (U0 g) (by
   intro p y;rw[A p.1 (.inl (ed y))];have:=v.aj p y;unfold hx;rw[List.getElem?_append_left (cy.1 this).1];exact this) (by
   intro j G;have F:(cM es s' i).heap.length+j∈wr es s' i:=by
    unfold wr tz;rw[eq,rL];exact eb _ (Gr.2 ⟨by omega,by omega⟩)
   rw[A _ (.inr F)];have l:=h.vJ (k:=i+1) (by omega);rw[(h.at_ i o a).2]at l;simp only[aS.app,List.length_append,nK]at l;unfold hx;rw[jB,if_neg (by omega),if_pos (by omega)])
  exact⟨_,aD,aG,d,w',B,a2,a3,c⟩
 ·rw[E]at c;simp only[newAt,List.append_nil,br]at c;exact⟨_,aa,β,_,w,.one (H4 a (f t s ah aa β w b g)),b.put q (bO.refl b.heap) (by simp[au,aA,bm,undef]) (by simp[aB]),fun _=>dD.refl _ _ _ _ _ _,c⟩
def isDone(a:Array Bool)(i:Nat):Prop:=a.getD i false=true
theorem G6{p:Nat->Bool}{i:Nat}:∀{l:List Nat},l.Nodup->i∈l->p i=true->l.countP p=l.countP (fun x=>p x&&x !=i)+1
 |[],_,h,_=>by simp at h
 |a::l,c,h,d=>by
  rw[dz]at c
  by_cases b:a=i
  ·subst b;have e:l.countP (fun x=>p x&&x !=a)=l.countP p:=by
    refine ei fun x hx=>?_;have:x≠a:=fun e=>c.1 (e▸hx);simp[this]
   simp[d,e]
  ·have f:i∈l:=by
    rcases da.1 h with h|h
    ·exact(b h.symm).elim
    ·exact h
   have g:=G6 c.2 f d;rw[en,en,g];have:(a !=i)=true:=by simpa using b
   simp only[this,Bool.and_true];omega
def left(b:Array Oper)(a:Array Bool):Nat:=(c9 b.size).countP fun i=>!a.getD i true
theorem iw.goes(h:iw P n ops es s'){fr:b1}{k:List Item}{cs:List b1}{ds:List Deferred}{ah:Nat->Prop}:∀(c b:Nat)(a:Array Bool)(s:St)(aa:Nat->Prop)(β:Bd)(t:Array bi)(w:bl),a.size=ops.size->left ops a<=c->u7 ops (isDone a)->
 At ops es s' (isDone a) s->cw P n ah aa β s t w->
 ∃u D aD aG R w',Steps P (lone (bu fr t ds (.inRegion ops (b5 .any ops c b a [])::k)) cs w) (lone (bu fr R ds (.inRegion ops []::k)) cs w')/\cw P n ah aD aG u R w'/\(∀N,dD N ah aa w β s.heap ah aD w' aG u.heap)/\At ops es s' D u/\∀j,j<ops.size->D j:=by
 have L:∀(a:Array Bool),a.size=ops.size->b2 .any ops a=[]->∀j,j<ops.size->isDone a j:=by
  intro a q f j
  induction j using fb with
  |_ j K=>
   intro d
   by_cases A:isDone a j
   ·exact A
   ·exfalso;have G:j<a.size:=by omega
    have:j∈b2 .any ops a:=by
     rw[bv];refine⟨?_,ops[j],ap d,fun e B z=>?_⟩
     ·unfold isDone at A;simp only[ax,ap G,fm]at A⊢;simpa using A
     ·have H:=h.lower j _ (ap d) e B z;exact K e.on H (by omega)
    rw[f]at this;simp at this
 intro c
 induction c with
 |zero=>
  intro b a s aa β t w q O hc y C;have f:b2 .any ops a=[]:=by
   rw[List.eq_nil_iff_forall_not_mem];intro j d;rw[bv]at d;obtain⟨g,o,m,_⟩:=d;have G:j<ops.size:=(ao.1 m).1;have:0<left ops a:=by
    unfold left;rw[List.countP_pos_iff];exact⟨j,by simpa using G,by rw[g];rfl⟩
   omega
  exact⟨s,isDone a,aa,β,t,w,by simp only[b5,List.reverse_nil];exact Steps.refl _ _,C,fun _=>dD.refl _ _ _ _ _ _,y,L a q f⟩
 |succ c K=>
  intro b a s aa β t w q O hc y C;have ac:b5 .any ops (c+1) b a []=(match(b2 .any ops a)[b% (b2 .any ops a).length]? with
   |some i=>b5 .any ops c (b/(b2 .any ops a).length) (a.setIfInBounds i true) [i]
   |none=>[].reverse):=rfl
  rw[ac];cases hi:(b2 .any ops a)[b% (b2 .any ops a).length]? with
  |none=>
   have f:b2 .any ops a=[]:=by
    cases f:b2 .any ops a with
    |nil=>rfl
    |cons x xs=>
     rw[f]at hi;have H:b% (x::xs).length<(x::xs).length:=Nat.mod_lt _ (by simp);rw[cx H]at hi;cases hi
   exact⟨s,isDone a,aa,β,t,w,Steps.refl _ _,C,fun _=>dD.refl _ _ _ _ _ _,y,L a q f⟩
  |some i=>
   simp only;rw[linearise_go_acc,List.reverse_singleton,List.singleton_append];have af:=dl hi;obtain⟨g,o,m,Q⟩:=bv.1 af;have ad:i<ops.size:=(ao.1 m).1;have E:i<a.size:=by omega
   have ag:¬isDone a i:=by
    unfold isDone;simp only[ax,ap E,fm]at g⊢;simp[g]
   obtain⟨u,S,ak,t1,ai,U,a2,a3,a4⟩:=h.run (fr:=fr) (k:=k) (cs:=cs) (ds:=ds) (r:=b5 .any ops c (b/(b2 .any ops a).length) (a.setIfInBounds i true) []) hc m ag Q y C;have M:(fun j=>isDone a j\/j=i)=isDone (a.setIfInBounds i true):=by
    funext j
    unfold isDone
    by_cases F:j=i
    ·subst F;simp[E]
    ·have:(a.setIfInBounds i true).getD j false=a.getD j false:=b0 false (Ne.symm F);rw[this];simp[F]
   rw[M]at a4;have ab:u7 ops (isDone (a.setIfInBounds i true)):=by
    rw[<-M];intro j o' I d e B z;rcases d with d|rfl
    ·exact .inl (hc j o' I d e B z)
    ·rw[m]at I;cases I;exact .inl (Q e B z)
   have ae:left ops (a.setIfInBounds i true)<=c:=by
    have am:=G6 (p:=fun j=>!a.getD j true) (i:=i) (l:=c9 ops.size) ej (by simpa using ad) (by show(!a.getD i true)=true;rw[g];rfl);have:left ops (a.setIfInBounds i true)=(c9 ops.size).countP (fun x=>!a.getD x true&&x !=i):=by
     unfold left;refine ei fun x hx=>?_
     by_cases J:x=i
     ·subst J;simp[E]
     ·have:(a.setIfInBounds i true).getD x true=a.getD x true:=b0 true (Ne.symm J);rw[this];simp[J]
    unfold left at O;omega
   obtain⟨v,D,T,al,t2,aj,V,W,X,Y,Z⟩:=K (b/(b2 .any ops a).length) (a.setIfInBounds i true) u S ak t1 ai (by simpa using q) ae ab a4 a2;exact⟨v,D,T,al,t2,aj,U.trans V,W,fun N=>(a3 N).trans (X N),Y,Z⟩
theorem UY(h:fit n ops=true):(∀j o,ops[j]?=some o->∀e∈o.after,b4 .any e=true->e.on<j)/\
 (∀i j u o,i<j->ops[i]?=some u->ops[j]?=some o->pB ops u o=true->reach ops ops.size i j=true):=by
 unfold fit at h;rw[dk]at h;constructor
 ·intro j o a e f c;have b:j<ops.size:=(ao.1 a).1;have:=h j (by simpa using b);rw[a]at this;simp only[a0,dk]at this;have:=this.1 e (by simpa using f);simpa[c]using this
 ·intro i j u o g k a d;have b:j<ops.size:=(ao.1 a).1;have:=h j (by simpa using b);rw[a]at this;simp only[a0,dk]at this;have:=this.2 i (by simpa using g);rw[k]at this;simpa[d]using this
theorem wU(C:kM P ag)(Z:P.follows .mixedOrders=true):rO P ag fit:=by
 intro n N a fr k cs F f K s ah aa β t w T B h ab;obtain⟨es,s',I,J,M⟩:=I1 C B a.toList 0 [] s (fun _ h=>h) h;obtain⟨t1,t2,t3⟩:=I.at;obtain⟨_,_,O⟩:=Hn es 0 [] M;obtain⟨f1,f2⟩:=UY (n:=n) T;have X:es.length=a.size:=by simpa using t1
 have hs:iw P n a es s':=by
  refine⟨X,fun k o c=>t3 k o (by simpa using c),B,f1,f2,fun i j U ai v=>?_⟩;have hi:i<es.length:=by omega
  have A:j<es.length:=by omega
  have G:es[i]?=some (es[i].1,es[i].2):=by simp[cx hi]
  have H:es[j]?=some (es[j].1,es[j].2):=by simp[cx A]
  have:=O i j es[i].1 es[i].2 es[j].1 es[j].2 U G H;simp only[Nat.zero_add]at this;refine this ?_;have g:cM es s' i=es[i].1/\fp es i=es[i].2:=by simp[cM,fp,cx hi]
  have q:cM es s' j=es[j].1/\fp es j=es[j].2:=by simp[cM,fp,cx A]
  rw[g.1,g.2,q.1,q.2]at v;exact v
 have V:=hs.vJ (k:=0) (e8 _);rw[t2]at V;obtain⟨m,Y⟩:∃m,m=s'.heap.length-s.heap.length:=⟨_,rfl⟩
 have ac:=ab.mj m;have Q:∀N,dD N ah aa w β s.heap ah aa w β (s.heap++c6 m .hole):=fun N=>⟨fun _ x=>x,fun _ x=>x,fun _ x=>.inl x,Ext.refl _ _ _,(nM _ _ _).n,fun x _=>lU _ _ x,fun b _⟨L,r⟩=>⟨L,by rw[jB,if_pos (cy.1 r).1];exact r⟩⟩
 have ad:b3 (P.follows .mixedOrders) a f=b5 .any a a.size f (av a.size false) []:=by
  simp[b3,Z,Region.linearise]
 have e:∀i,¬isDone (av a.size false) i:=by
  intro i hi;unfold isDone at hi
  by_cases z:i<a.size
  ·simp[z]at hi
  ·simp[z]at hi
 have R:At a es s' (isDone (av a.size false)) ⟨s.env,s.heap++c6 m .hole⟩:=by
  refine⟨fun x=>⟨0,e8 _,by rw[t2],fun i o _ _=>⟨fun h=>(e i h).elim,fun h=>by omega⟩⟩,by simp;omega,fun b=>⟨0,e8 _,by rw[t2];unfold hx;rw[<-Y],fun i _ _=>⟨fun h=>(e i h).elim,fun h=>by omega⟩⟩⟩
 have W:left a (av a.size false)<=a.size:=by
  unfold left;have:=List.countP_le_length (p:=fun i=>!(av a.size false).getD i true) (l:=c9 a.size);simpa using this
 obtain⟨u,D,aD,aG,af,w',E,a2,a3,a4,a5⟩:=hs.goes (fr:=fr) (k:=k) (cs:=cs) (ds:=F) a.size f (av a.size false) _ aa β t w (by simp) W (fun j o c d=>(e j d).elim) R ac;rw[ad];have S:∀x,aK s'.env x=aK u.env x:=by
  intro x;obtain⟨k,k1,k2,k3⟩:=a4.tmp x;rw[k2];have:=hs.Ke (x:=x) k1 (e9 a.size) (fun i o c d=>by
   have hi:i<a.size:=(ao.1 c).1;have:=(k3 i o c d).1 (a5 i hi);exact⟨fun _=>hi,fun _=>this⟩)
  rw[hs.last]at this;exact this
 have y:s'.heap=u.heap:=by
  apply List.ext_getElem?;intro b;obtain⟨k,k1,k2,k3⟩:=a4.heap b;rw[k2];have:=hs.JZ (b:=b) k1 (e9 a.size) (fun i hi ae=>by
   have:=(k3 i hi ae).1 (a5 i hi);exact⟨fun _=>hi,fun _=>this⟩)
  rw[hs.last]at this;rw[<-this];simp[hx]
 exact⟨s',aD,aG,af,w',J,E,a2.congr S y,(Q N).trans (y▸a3 N)⟩
end
section
variable{P:a7}
structure an(P:a7)(f:bb)(fn:Func):Prop where
 func:P.funcs[f]?=some fn
 stat:(fn.body.isSome&&(fn.name != "runtime.NumGoroutine")&&codeOk fit fn.ntmps (fn.body.getD .skip))=true
theorem an.enters{f:bb}{fn:Func}(h:an P f fn):Enters P f:=by
 intro args w;have hs:=h.stat;simp only[a0,bne_iff_ne]at hs;cases a:fn.body with
 |none=>rw[a]at hs;simp at hs
 |some c=>simp[callFunc,h.func,hs.1.2,a]
def Ends(P:a7)(a:List bo)(v:PV)(e:bn)(s:St):Prop:=
 (match e with
  | .exit _=>False
  |_=>True)/\∃vs,fq P s a=some vs/\dV s.heap 9 (oneOf vs)=some v
theorem yZ{f:bb}{fn:Func}(ag:bb->Bool)(h:an P f fn)(b:P.follows .mixedOrders=true){args:List PV}{v:PV}(c:args.length<=fn.ntmps)
 (d:bU P ag (fn.ntmps,0) (fn.body.getD .skip) (Ends P fn.results.toList v) ⟨ib 0 (args.map .p),[]⟩):az P f args v:=by
 have hs:=h.stat;simp only[a0,bne_iff_ne]at hs;have a:fn.body=some (fn.body.getD .skip):=by
  have:=hs.1.1;cases e:fn.body<;>simp_all
 exact .inl (Jp (nL ag) (wU (nL ag) b) h.enters h.func a hs.2 c d)
class aEZ(P:a7)(f:bb)(args:List PV)(pre:outParam Prop)(v:outParam PV):Prop where
 yZ:pre->az P f args v
section calls
variable{f:bb}{H:Heap}{pre:Prop}{v:PV}
end calls
def qG(e:Env):Env->Prop
 |[]=>True
 |(x,v)::r=>aK e x=v/\qG e r
def jL:Heap->Heap->Prop
 |_,[]=>True
 |[],.hole::t=>jL [] t
 |_::h,.hole::t=>jL h t
 |o::h,o'::t=>o=o'/\jL h t
 |[],_::_=>False
theorem qG.get{e:Env}:∀{t:Env},qG e t->∀x,aK t x=aK e x\/aK t x=.p .undef
 |[],_,x=>.inr rfl
 |(y,v)::t,h,x=>by
  simp only[qG]at h;simp only[aK]
  split
  ·rename_i hx;subst hx;exact .inl h.1.symm
  ·exact qG.get h.2 x
theorem jL.get:∀{h t:Heap},jL h t->∀(b:Nat)(o:Obj),t[b]?=some o->o=.hole\/h[b]?=some o
 |_,[],_,b,o,a=>by simp at a
 |[],o'::t,hk,b,o,a=>by
  cases o'<;>simp only[jL]at hk;cases b with
  |zero=>simp at a;exact .inl a.symm
  |succ b=>exact(jL.get hk b o (by simpa using a)).imp id (fun h=>by simp at h)
 |c::h,o'::t,hk,b,o,a=>by
  cases b with
  |zero=>
   simp at a;cases o'<;>simp only[jL]at hk
   case hole=>exact .inl a.symm
   all_goals exact .inr (by rw[<-a,<-hk.1];simp)
  |succ b=>
   have:jL h t:=by cases o'<;>simp only[jL]at hk<;>first|exact hk|exact hk.2
   exact(jL.get this b o (by simpa using a)).imp id (fun h=>by simpa using h)
def gW(H:Heap):Env->Prop
 |[]=>True
 |(_,v)::r=>aB (aF H) v/\gW H r
def eA(H:Heap):Heap->Prop
 |[]=>True
 |o::r=>o.refs (aF H)/\eA H r
theorem gW.get{H:Heap}:∀{e:Env},gW H e->∀x,aB (aF H) (aK e x)
 |[],_,x=>by simp[aK,aB]
 |(y,v)::e,h,x=>by
  simp only[gW]at h;simp only[aK]
  split
  ·exact h.1
  ·exact gW.get h.2 x
theorem eA.get{H:Heap}:∀{h:Heap},eA H h->∀(b:Nat)(o:Obj),h[b]?=some o->o.refs (aF H)
 |[],_,b,o,a=>by simp at a
 |d::h,c,b,o,a=>by
  simp only[eA]at c;cases b with
  |zero=>simp at a;subst a;exact c.1
  |succ b=>exact eA.get c.2 b o (by simpa using a)
theorem oF.of{s t:St}(a:qG s.env t.env)(c:jL s.heap t.heap)(e:gW t.heap t.env)(f:eA t.heap t.heap):oF s t:=
 ⟨fun x=>(a.get x).imp id .inl,fun b o d=>(c.get b o d).imp id .inl,e.get,f.get⟩
theorem dj.of{N:Nat}{s t:St}(e:t.heap.take N=s.heap.take N)(c:qG s.env t.env)(d:jL s.heap t.heap)(f:gW t.heap t.env)(g:eA t.heap t.heap):dj N s t:=by
 refine .inr ⟨oF.of c d f g,fun b a=>?_⟩;have:=congrArg (fun l:Heap=>l[b]?) e;simpa[List.getElem?_take,a]using this
theorem Nv{f:bb}{fn:Func}(ag:bb->Bool)(h:an P f fn)(b:P.follows .mixedOrders=true){args:List AV}{H H':Heap}{v:AV}(c:args.length<=fn.ntmps)
 (d:bU P ag (fn.ntmps,H.length) (fn.body.getD .skip) (sQ P fn.results.toList H.length H' v) ⟨ib 0 args,H⟩):cX P f H args H' v:=by
 have hs:=h.stat;simp only[a0,bne_iff_ne]at hs;have a:fn.body=some (fn.body.getD .skip):=by
  have:=hs.1.1;cases e:fn.body<;>simp_all
 exact UX (nL ag) (wU (nL ag) b) h.enters h.func a hs.2 c d
theorem Nw(ag:bb->Bool)(f:P.follows .mixedOrders=true){b:Nat}{L:ef}{H H':Heap}{args:List AV}{v:AV}(d:H[b]?=some (.loop L))(e:args.length=L.params.length)
 (a:(L.params.all (fun x=>decide (x<L.n))&&codeOk fit L.n L.assign&&codeOk fit L.n L.body)=true)(g:xI P ag L b args H (fun c h=>h=v/\dj H.length ⟨[],c⟩ ⟨[],H'⟩)):gV P b H args H' v:=by
 simp only[a0,dk,decide_eq_true_eq]at a;exact UU (nL ag) (wU (nL ag) f) d e a.1.1 a.1.2 a.2 g
theorem again{N:Nat}{α:Type}{mk:α->St}{ok:α->Prop}{m:α->Nat}{n:Nat}{s':St}(a':α)(c:m a'<n)(d:ok a')(e:dj N s' (mk a')):∃a b,a<n/\dj N s' b/\∃a',ok a'/\b=mk a'/\a=m a':=
 ⟨m a',mk a',c,e,a',d,rfl,rfl⟩
end
section
variable{P:a7}{ag:bb->Bool}
def aO{α:Type}(F:(α->Prop)->Prop):Prop:=∀K,F K->∃a,K a/\∀b:α->Prop,b a->F b
theorem aO.one{α β:Type}(f:β->α)(b:β):aO (fun K:α->Prop=>K (f b)):=fun _ h=>⟨f b,h,fun _ h=>h⟩
theorem aO.false{α:Type}:aO (fun _:α->Prop=>False):=fun _ h=>h.elim
theorem aO.and{α:Type}{p:Prop}{F:(α->Prop)->Prop}(h:aO F):aO (fun K=>p/\F K):=fun K hk=>by
 obtain⟨a,c,d⟩:=h K hk.2;exact⟨a,c,fun b h=>⟨hk.1,d b h⟩⟩
theorem aO.ex{α:Type}{β:Sort _}{F:β->(α->Prop)->Prop}(h:∀b,aO (F b)):aO (fun K=>∃b,F b K):=fun K⟨b,f⟩=>by
 obtain⟨a,d,e⟩:=h b K f;exact⟨a,d,fun c h=>⟨b,e c h⟩⟩
theorem aO.or{α:Type}{F G:(α->Prop)->Prop}(h:aO F)(e:aO G):aO (fun K=>F K\/G K):=fun K hk=>by
 rcases hk with hk|hk
 ·obtain⟨a,c,d⟩:=h K hk;exact⟨a,c,fun b h=>.inl (d b h)⟩
 ·obtain⟨a,c,d⟩:=e K hk;exact⟨a,c,fun b h=>.inr (d b h)⟩
theorem aO.ite{α:Type}{p:Prop}[Decidable p]{F G:(α->Prop)->Prop}(h:aO F)(f:aO G):aO (fun K=>if p then F K else G K):=fun K hk=>by
 split at hk
 ·rename_i e;obtain⟨a,c,d⟩:=h K hk;exact⟨a,c,fun b h=>by simpa[e]using d b h⟩
 ·rename_i e;obtain⟨a,c,d⟩:=f K hk;exact⟨a,c,fun b h=>by simpa[e]using d b h⟩
theorem aO.bind{α β:Type}{F:(α->Prop)->Prop}{G:α->(β->Prop)->Prop}(h:aO F)(d:∀a,aO (G a)):aO (fun K=>F (fun a=>G a K)):=fun K hk=>by
 obtain⟨a,e,f⟩:=h _ hk;obtain⟨b,g,i⟩:=d a K e;exact⟨b,g,fun c h=>f _ (i c h)⟩
theorem aO.map{α β:Type}{F:(α->Prop)->Prop}(h:aO F)(f:α->β):aO (fun K=>F (fun a=>K (f a))):=h.bind fun a=>aO.one f a
theorem Tv(T:a6)(H:Heap)(a:AV):aO (nj P T H a):=by
 unfold nj
 repeat' first
  |exact aO.false
  |exact aO.one id _
  |refine aO.and ?_
  |refine aO.ex fun _=>?_
  |split
theorem S6(T:a6)(H:Heap)(a x:AV):aO (mT P T H a x):=by
 unfold mT
 repeat' first
  |exact aO.false
  |exact aO.one id _
  |refine aO.and ?_
  |refine aO.ex fun _=>?_
  |split
theorem QL(T:a6)(a:AV)(f:Nat):aO (mK P T a f):=by
 unfold mK
 repeat' first
  |exact aO.false
  |exact aO.one id _
  |refine aO.and ?_
  |refine aO.ex fun _=>?_
  |split
theorem QK(T:a6)(H:Heap)(a i:AV):aO (mJ P T H a i):=by
 unfold mJ
 repeat' first
  |exact aO.false
  |exact aO.one id _
  |refine aO.and ?_
  |refine aO.ex fun _=>?_
  |split
theorem Rw(T X:a6)(H:Heap)(s x:AV):aO (mN P T X H s x):=by
 unfold mN
 repeat' first
  |exact aO.false
  |exact aO.one id _
  |refine aO.and ?_
  |refine aO.ex fun _=>?_
  |refine aO.ite ?_ ?_
  |split
theorem I5{α:Type}{F:Nat->(α->Prop)->Prop}(x:Option AV)(d:Nat)(h:∀n,aO (F n)):aO (fun K=>fW x d (fun n=>F n K)):=by
 unfold fW
 split
 ·exact h _
 ·exact aO.and (h _)
 ·exact aO.false
theorem S7(T:a6)(H:Heap)(x:AV)(lo hi a:Option AV):aO (mU P T H x lo hi a):=by
 unfold mU;refine aO.and ?_
 repeat' first
  |exact aO.false
  |exact aO.one id _
  |refine aO.and ?_
  |refine I5 _ _ fun _=>?_
  |refine aO.ite ?_ ?_
  |split
theorem Rv(T:a6)(H:Heap)(x:AV)(lo hi:Option AV)(m:AV):aO (pC P T H x lo hi m):=by
 unfold pC
 repeat' first
  |exact aO.false
  |exact aO.one id _
  |refine aO.and ?_
  |refine I5 _ _ fun _=>?_
  |split
theorem Us(op:be)(T:a6)(c:Bool)(H:Heap)(x y:AV)(f:PV->aS):aO (fun K:aS->Prop=>jK P op T c H x y (fun v=>K (f v))):=by
 unfold jK
 repeat' first
  |exact aO.false
  |exact aO.one f _
  |refine aO.and ?_
  |(unfold oI;split)
  |(unfold oH;split)
  |split
theorem Qo(a:a6)(b:Nat)(key:PV)(x:AV)(c:Obj):aO (nJ P a b key x c):=by
 unfold nJ
 repeat' first
  |exact aO.false
  |exact aO.one id _
  |refine aO.and ?_
  |split
theorem BC(o:Oper)(ρ:a8->AV)(H:Heap):aO (fk P ag o ρ H):=by
 unfold fk
 repeat' first
  |exact aO.false
  |exact aO.one id _
  |exact Tv _ _ _
  |exact S6 _ _ _ _
  |exact QL _ _ _
  |exact QK _ _ _ _
  |exact S7 _ _ _ _ _ _
  |exact Rv _ _ _ _ _ _
  |exact Rw _ _ _ _ _
  |exact Qo _ _ _ _ _
  |exact Us _ _ _ _ _ _ _
  |refine aO.and ?_
  |refine aO.ex fun _=>?_
  |refine aO.ite ?_ ?_
  |refine aO.or ?_ ?_
  |split
  |dsimp only
theorem H9(d:Bool)(f:bb)(args:List AV)(H:Heap){α:Type}(g:AV->Heap->α):aO (fun K:α->Prop=>gz P d f args H (fun v H'=>K (g v H'))):=by
 unfold gz;refine aO.or (aO.ex fun vs=>aO.ex fun v=>aO.and (aO.and ?_)) (aO.and (aO.or (aO.ex fun vs=>aO.ex fun H1=>aO.ex fun v=>aO.and (aO.and ?_)) (aO.or (aO.ex fun H'=>aO.ex fun v=>aO.and ?_) (aO.or (aO.ex fun e=>aO.and (aO.and ?_)) (aO.ex fun aj=>aO.ex fun v=>aO.and (aO.and ?_))))))
 ·exact aO.one (fun v=>g (.p v) H) v
 ·exact aO.one (fun v=>g (.p v) H1) v
 ·exact aO.one (fun v=>g v H') v
 ·exact aO.one (fun _:Unit=>g e.v (br H e.aI++e.aP)) ()
 ·exact aO.one (fun v=>g (.p v) H) v
theorem Hp(f:bb)(args:List AV)(H:Heap):aO (gF P f args H):=by
 unfold gF;refine aO.or (aO.ex fun vs=>aO.ex fun v=>aO.and (aO.and (aO.one id _))) (aO.or (aO.ex fun vs=>aO.ex fun bs=>aO.ex fun aj=>aO.ex fun aI=>aO.ex fun v=>aO.and (aO.and (aO.and (aO.one id _)))) (aO.or (aO.ex fun e=>aO.and (aO.and (aO.one id _))) (aO.ex fun aj=>aO.ex fun v=>aO.and (aO.and (aO.one id _)))))
theorem H7(d:Bool)(o:Oper)(s:St):aO (fun K=>ja P ag d o K s):=by
 unfold ja
 split
 ·split
  ·exact H9 _ _ _ _ (fun v H'=>(⟨put o.dst v s.env,H'⟩:St))
  ·exact H9 _ _ _ _ (fun v H'=>(⟨put o.dst v s.env,H'⟩:St))
  ·exact aO.ex fun H'=>aO.ex fun v=>aO.and (aO.one (fun _:Unit=>(⟨put o.dst v s.env,H'⟩:St)) ())
  ·exact aO.false
 ·exact(BC o _ _).map (fun e=>e.app o.dst s)
theorem H8(o:Oper)(s:St):aO (iL P ag o s):=by
 unfold iL
 split
 ·split
  ·exact Hp _ _ _
  ·exact Hp _ _ _
  ·exact aO.ex fun e=>aO.and (aO.and (aO.one id _))
  ·exact aO.false
 ·exact BC o _ _
theorem xA(d:Bool)(a:Array Oper):∀(l:List Oper)(s:St),aO (fun K=>gB P ag d a l K s)
 |[],s=>by simp only[gB];exact aO.one id s
 |o::l,s=>by
  have go:aO (fun K=>ja P ag d o (gB P ag d a l K) s):=(H7 d o s).bind fun t=>xA d a l t;simp only[gB]
  split
  ·exact go
  ·split
   ·split
    ·exact go
    ·exact xA d a l _
   ·exact xA d a l _
   ·exact aO.false
theorem xg(b:Array Oper):∀(l:List Oper)(i:Nat)(a:List Touch)(s:St),aO (fun K=>fN P ag b l i a K s)
 |[],i,a,s=>by simp only[fN];exact aO.and (aO.one id s)
 |o::l,i,a,s=>by
  have go:aO (fun K=>iL P ag o s fun e=>fN P ag b l (i+1) (gA i s.heap.length e a) K (e.app o.dst s)):=(H8 o s).bind fun e=>xg b l (i+1) _ _;simp only[fN]
  split
  ·exact go
  ·split
   ·split
    ·exact go
    ·exact xg b l (i+1) a _
   ·exact xg b l (i+1) a _
   ·exact aO.false
def yJ(F:(bn->St->Prop)->Prop):Prop:=∀Q,F Q->∃e s,Q e s/\∀a:bn->St->Prop,a e s->F a
inductive u5(P:a7)(ag:bb->Bool)(q:Cx)(b:Code)(e:bn)(s:St):Nat->St->Prop
 |stop {k:Nat} {u:St}:(∀Q:bn->St->Prop,Q e s->bU P ag q b Q u)->e≠.normal->u5 P ag q b e s k u
 |step {k m:Nat} {u s1 u':St}:(∀Q:bn->St->Prop,Q .normal s1->bU P ag q b Q u)->m<k->dj q.2 s1 u'->u5 P ag q b e s m u'->u5 P ag q b e s k u
theorem Tw(j:Option Code)(s:St):yJ (fun Q=>jl Q j s):=fun Q h=>by
 unfold jl at h
 split at h
 ·exact⟨.normal,s,h,fun _ h=>h⟩
 ·rename_i id;exact⟨.exit id,s,h,fun _ h=>h⟩
 ·exact⟨.ret,s,h,fun _ h=>h⟩
 ·exact h.elim
theorem H6(b:Nat)(env:Env)(H:Heap):yJ (fun Q=>iq b env Q H):=fun Q h=>by
 unfold iq at h
 split at h
 ·rename_i L f;obtain⟨e,s,c,d⟩:=Tw _ _ Q h.2;exact⟨e,s,c,fun a hq=>by unfold iq;simp only[f];exact⟨h.1,d a hq⟩⟩
 ·exact h.elim
theorem Te(it:AV)(b:Nat)(H:Heap)(env:Env):yJ (fun Q=>ji P it b H (iq b env Q)):=fun Q h=>by
 unfold ji at h
 split at h
 ·obtain⟨H',v,c,d⟩:=h;obtain⟨e,s,k1,k2⟩:=H6 b env H' Q d;exact⟨e,s,k1,fun a hq=>by simp only[ji];exact⟨H',v,c,k2 a hq⟩⟩
 ·obtain⟨H',v,c,d⟩:=h;obtain⟨e,s,k1,k2⟩:=H6 b env H' Q d;exact⟨e,s,k1,fun a hq=>by simp only[ji];exact⟨H',v,c,k2 a hq⟩⟩
 ·exact h.elim
theorem mH{q:Cx}:∀(c:Code)(s:St),yJ (fun Q=>bU P ag q c Q s)
 | .skip,s| .label _,s=>fun Q h=>⟨.normal,s,h,fun _ h=>h⟩
 | .exit id,s=>fun Q h=>⟨.exit id,s,h,fun _ h=>h⟩
 | .ret,s=>fun Q h=>⟨.ret,s,h,fun _ h=>h⟩
 | .region id ops draw,s=>fun Q h=>by
  simp only[bU]at h⊢
  split at h
  ·rename_i l;obtain⟨t,d,g⟩:=xg ops _ _ _ _ _ h;exact⟨.normal,t,d,fun Q' h=>by simp only[l,if_true];exact g _ h⟩
  ·rename_i l;obtain⟨t,d,g⟩:=xA _ ops _ _ _ h;exact⟨.normal,t,d,fun Q' h=>by rw[if_neg l];exact g _ h⟩
 | .seq a b,s=>fun Q h=>by
  simp only[bU]at h⊢;obtain⟨e,t,d,g⟩:=mH a s _ h;cases e with
  |normal=>
   obtain⟨e',r,k,y⟩:=mH b t _ d;exact⟨e',r,k,fun Q' h=>g _ (y Q' h)⟩
  |exit id=>exact⟨.exit id,t,d,fun Q' h=>g _ h⟩
  |ret=>exact⟨.ret,t,d,fun Q' h=>g _ h⟩
 | .cond c a b,s=>fun Q h=>by
  simp only[bU]at h⊢
  split at h
  ·split at h
   ·rename_i p;obtain⟨e,t,d,g⟩:=mH a s _ h;exact⟨e,t,d,fun Q' h=>by rw[if_pos p];exact g _ h⟩
   ·rename_i p;obtain⟨e,t,d,g⟩:=mH b s _ h;exact⟨e,t,d,fun Q' h=>by rw[if_neg p];exact g _ h⟩
  ·exact h.elim
 | .block id b,s=>fun Q h=>by
  simp only[bU]at h⊢;obtain⟨e,t,d,g⟩:=mH b s _ h;cases e with
  |normal=>exact⟨.normal,t,d,fun Q' h=>g _ h⟩
  |exit i=>
   by_cases hi:i=id
   ·simp only[hi,if_true]at d;exact⟨.normal,t,d,fun Q' h=>g _ (by simp only[hi,if_true];exact h)⟩
   ·simp only[hi,if_false]at d;exact⟨.exit i,t,d,fun Q' h=>g _ (by simp only[hi,if_false];exact h)⟩
  |ret=>exact⟨.ret,t,d,fun Q' h=>g _ h⟩
 | .scope b,s=>fun Q h=>by simp only[bU]at h⊢;exact mH b s Q h
 | .loop b,s=>fun Q h=>by
  simp only[bU]at h⊢;obtain⟨I,⟨w,t0,hf,hI⟩,F⟩:=h;have key:∀(n:Nat)(t:St),I n t->∃e u,Q e u/\e≠.normal/\u5 P ag q b e u n t:=by
   intro n
   induction n using fb with
   |_ n G=>
    intro t hI;obtain⟨e,s1,d,g⟩:=mH b t _ (F n t hI);cases e with
    |normal=>
     obtain⟨m,r,j,o,z⟩:=d;obtain⟨e,u,k1,k2,k3⟩:=G m j r z;exact⟨e,u,k1,k2,.step g j o k3⟩
    |exit id=>exact⟨.exit id,s1,d,by simp,.stop g (by simp)⟩
    |ret=>exact⟨.ret,s1,d,by simp,.stop g (by simp)⟩
  obtain⟨e,u,d,g,k⟩:=key w t0 hI;refine⟨e,u,d,fun Q' v=>⟨u5 P ag q b e u,⟨w,t0,hf,k⟩,?_⟩⟩;intro n t C;cases C with
  |stop hs E=>
   refine hs _ ?_;cases e with
   |normal=>exact(E rfl).elim
   |exit id=>exact v
   |ret=>exact v
  |step hs j o D=>exact hs _ ⟨_,_,j,o,D⟩
 | .rangeFunc f H a b,s=>fun Q h=>by
  simp only[bU]at h;obtain⟨A,x,B,h⟩:=h;obtain⟨e,t,d,g⟩:=Te _ _ _ _ Q h;exact⟨e,t,d,fun Q' hq=>by simp only[bU];exact⟨A,x,B,g Q' hq⟩⟩
 | .goto _,_| .refuse _,_=>fun Q h=>by simp[bU]at h
def Spec(P:a7)(f:bb)(args:List PV)(Q:PV->Prop):Prop:=∃v,az P f args v/\Q v
def yM(P:a7)(a:List bo)(Q:PV->Prop)(e:bn)(s:St):Prop:=
 (match e with
  | .exit _=>False
  |_=>True)/\∃vs,fq P s a=some vs/\∃v,dV s.heap 9 (oneOf vs)=some v/\Q v
theorem Spec.mono{f:bb}{args:List PV}{Q a:PV->Prop}(h:Spec P f args Q)(hq:∀v,Q v->a v):Spec P f args a:=by
 obtain⟨v,b,c⟩:=h;exact⟨v,b,hq v c⟩
end
def ng(id:Nat)(Q:bn->St->Prop)(e:bn)(s:St):Prop:=
 match e with
 | .exit i=>if i=id then Q .normal s else Q (.exit i) s
 |e=>Q e s
theorem Q0{id:Nat}{Q:bn->St->Prop}{s:St}:ng id Q .normal s=Q .normal s:=(rfl)
theorem Sp{id i:Nat}{Q:bn->St->Prop}{s:St}:ng id Q (.exit i) s=if i=id then Q .normal s else Q (.exit i) s:=(rfl)
theorem Ty{id:Nat}{Q:bn->St->Prop}{s:St}:ng id Q .ret s=Q .ret s:=(rfl)
def sD(N n:Nat)(I:Nat->St->Prop)(Q:bn->St->Prop)(e:bn)(s:St):Prop:=
 match e with
 | .normal=>∃a b,a<n/\dj N s b/\I a b
 |e=>Q e s
theorem QP{N n:Nat}{I:Nat->St->Prop}{Q:bn->St->Prop}{s:St}:sD N n I Q .normal s=∃a b,a<n/\dj N s b/\I a b:=(rfl)
theorem Rz{N n id:Nat}{I:Nat->St->Prop}{Q:bn->St->Prop}{s:St}:sD N n I Q (.exit id) s=Q (.exit id) s:=(rfl)
theorem Ta{N n:Nat}{I:Nat->St->Prop}{Q:bn->St->Prop}{s:St}:sD N n I Q .ret s=Q .ret s:=(rfl)
section CS
variable{P:a7}
end CS
section
variable{P:a7}{ag:bb->Bool}
abbrev ek:=Option (Prop×aS)
def aZ(r:ek)(K:aS->Prop):Prop:=
 match r with
 |some (p,e)=>p/\K e
 |none=>False
theorem Tk{p:Prop}{e:aS}{K:aS->Prop}:aZ (some (p,e)) K=(p/\K e):=(rfl)
theorem TV{K:aS->Prop}:aZ none K=False:=(rfl)
@[congr] theorem aG6{r a:ek}{K:aS->Prop}(h:r=a):aZ r K=aZ a K:=by rw[h]
def Can(F:(aS->Prop)->Prop)(r:ek):Prop:=∀K,aZ r K->F K
theorem Can.none{F:(aS->Prop)->Prop}:Can F none:=fun _ h=>h.elim
def oJ(P:a7)(T:a6)(H:Heap)(a:AV):ek:=
 match a with
 | .ptr b path=>match H[b]? with
  |some (.box fz t)=>match eE t path with
   |some s=>some (kindOf P T=ad s,{v:=s,aj:=[(b,.box fz t)]})
   |none=>none
  |_=>none
 | .bQ b ar ai i path=>match H[b]? with
  |some (.arr k d c es)=>match es[i]? with
   |some x=>match eE x path with
    |some s=>some ((ar=d/\ai=c)/\kindOf P T=ad s,{v:=s,aj:=[(b,.arr k d c es)]})
    |none=>none
   |none=>none
  |_=>none
 | .p (.b6 t)=>some (kindOf P T=aJ t,{v:=.p t})
 |_=>none
theorem V8{T:a6}{H:Heap}{a:AV}:Can (nj P T H a) (oJ P T H a):=by
 intro K h;unfold oJ at h;unfold nj
 split at h
 ·split at h
  ·rename_i b
   split at h
   ·rename_i hs;simp only[aZ]at h;simp only[b,hs];exact h
   ·exact h.elim
  ·exact h.elim
 ·split at h
  ·rename_i b
   split at h
   ·rename_i x hx;obtain⟨hi,hx⟩:=cy.1 hx
    split at h
    ·rename_i hs;simp only[aZ]at h;simp only[b];exact⟨h.1.1.1,h.1.1.2,hi,by rw[hx,hs];exact⟨h.1.2,h.2⟩⟩
    ·exact h.elim
   ·exact h.elim
  ·exact h.elim
 ·exact h
 ·exact h.elim
def ov(P:a7)(T:a6)(H:Heap)(a x:AV):ek:=
 match a with
 | .ptr b path=>match H[b]? with
  |some (.box false t)=>match eE t path,fC t path x with
   |some s,some d=>some ((kindOf P T=ad x/\ad x≠.bad)/\ad s=ad x,{v:=.p (.aE []),aj:=[(b,.box false t)],aI:=[(b,.box false d)]})
   |_,_=>none
  |_=>none
 | .bQ b ar ai i path=>match H[b]? with
  |some (.arr k e c es)=>match es[i]? with
   |some y=>match eE y path,fC y path x with
    |some s,some d=>some ((kindOf P T=ad x/\ad x≠.bad)/\(ar=e/\ai=c/\k≠.frozen)/\ad s=ad x,{v:=.p (.aE []),aj:=[(b,.arr k e c es)],aI:=[(b,.arr k e c (es.set i d))]})
    |_,_=>none
   |none=>none
  |_=>none
 |_=>none
theorem UN{T:a6}{H:Heap}{a x:AV}:Can (mT P T H a x) (ov P T H a x):=by
 intro K h;unfold ov at h;unfold mT
 split at h
 ·split at h
  ·rename_i b
   split at h
   ·rename_i hs c;simp only[aZ]at h;simp only[b,hs,c];exact⟨h.1.1.1,h.1.1.2,h.1.2,h.2⟩
   ·exact h.elim
  ·exact h.elim
 ·split at h
  ·rename_i b
   split at h
   ·rename_i y d;obtain⟨hi,d⟩:=cy.1 d
    split at h
    ·rename_i hs c;simp only[aZ]at h;simp only[b];exact⟨h.1.1.1,h.1.1.2,h.1.2.1.1,h.1.2.1.2.1,h.1.2.1.2.2,hi,by rw[d,hs,c];exact⟨h.1.2.2,h.2⟩⟩
    ·exact h.elim
   ·exact h.elim
  ·exact h.elim
 ·exact h.elim
def nQ(P:a7)(T:a6)(a:AV)(f:Nat):ek:=
 match fM P T with
 |some (u,n)=>match a with
  | .ptr b path=>some (f<n,{v:=.ptr b (path++[(u,f)])})
  | .bQ b ar ai i path=>some (f<n,{v:=.bQ b ar ai i (path++[(u,f)])})
  | .p (.b6 t)=>match(cj t)[f]? with
   |some g=>some (f<n/\aJ t=.agg u,{v:=.p (.b6 g)})
   |none=>none
  |_=>none
 |_=>none
theorem QX{T:a6}{a:AV}{f:Nat}:Can (mK P T a f) (nQ P T a f):=by
 intro K h;unfold nQ at h;unfold mK
 split at h
 ·rename_i hs;simp only[hs]
  split at h
  ·exact h
  ·exact h
  ·split at h
   ·rename_i b;simp only[aZ]at h;simp only[b];exact⟨h.1.1,h.1.2,h.2⟩
   ·exact h.elim
  ·exact h.elim
 ·exact h.elim
def nP(P:a7)(T:a6)(H:Heap)(x i:AV):ek:=
 match i with
 | .p (.int _ i)=>match x with
  | .p (.bH _ es)=>match es[i.toNat]? with
   |some y=>some (0<=i/\cz P T=some (bB P (aJ y)),{v:=.p (.b6 y)})
   |none=>none
  | .p (.seq es)=>match es[i.toNat]? with
   |some y=>some (0<=i/\cz P T=some (bB P (aJ y)),{v:=.p (.b6 y)})
   |none=>none
  | .sl b ar ai off len=>match H[b]? with
   |some (.arr k c a es)=>some (0<=i/\cz P T=some ai/\i.toNat<len/\ar=c/\ai=a/\¬(k.gr=true/\es=[]),{v:=.bQ b ar ai (off+i.toNat) [],aj:=[(b,.arr k c a es)]})
   |_=>none
  | .ptr b path=>match fY P T with
   |some (u,n)=>some (0<=i/\i.toNat<n,{v:=.ptr b (path++[(u,i.toNat)])})
   |_=>none
  | .bQ b ar ai j path=>match fY P T with
   |some (u,n)=>some (0<=i/\i.toNat<n,{v:=.bQ b ar ai j (path++[(u,i.toNat)])})
   |_=>none
  | .p (.b6 t)=>match fY P T with
   |some (u,n)=>match(cj t)[i.toNat]? with
    |some g=>some (0<=i/\aJ t=.agg u/\i.toNat<n,{v:=.p (.b6 g)})
    |none=>none
   |_=>none
  |_=>none
 |_=>none
theorem QW{T:a6}{H:Heap}{x i:AV}:Can (mJ P T H x i) (nP P T H x i):=by
 intro K h;unfold nP at h;unfold mJ
 split at h
 case h_2=>exact h.elim
 split at h
 ·split at h
  ·rename_i y a;obtain⟨hi,a⟩:=cy.1 a;simp only[aZ]at h;exact⟨h.1.1,hi,by rw[a];exact h.1.2,by rw[a];exact h.2⟩
  ·exact h.elim
 ·split at h
  ·rename_i y a;obtain⟨hi,a⟩:=cy.1 a;simp only[aZ]at h;exact⟨h.1.1,hi,by rw[a];exact h.1.2,by rw[a];exact h.2⟩
  ·exact h.elim
 ·split at h
  ·rename_i l;simp only[aZ]at h;obtain⟨⟨b,c,d,e,f,g⟩,j⟩:=h;refine⟨b,c,d,?_⟩;rw[l];exact⟨e,f,g,j⟩
  ·exact h.elim
 ·split at h
  ·rename_i hs;simp only[aZ]at h;simp only[hs];exact⟨h.1.1,h.1.2,h.2⟩
  ·exact h.elim
 ·split at h
  ·rename_i hs;simp only[aZ]at h;simp only[hs];exact⟨h.1.1,h.1.2,h.2⟩
  ·exact h.elim
 ·split at h
  ·rename_i hs
   split at h
   ·rename_i k;simp only[aZ]at h;simp only[hs,k];exact⟨h.1.1,h.1.2.1,h.1.2.2,h.2⟩
   ·exact h.elim
  ·exact h.elim
 ·exact h.elim
end
section
variable{P:a7}{ag:bb->Bool}
def ou(P:a7)(T X:a6)(H:Heap)(s x:AV):ek:=
 match cz P T,gq H x with
 |some sz,some xs=>match s with
  | .p .aR=>some ((iy P X=true/\(cE P (ez P T)).isSome=true/\eS P sz xs)/\xs.length<=cU,
   if xs.isEmpty then{v:=s,aj:=dh H x}else{v:=.sl H.length 0 sz 0 xs.length,aj:=dh H x,aP:=[.arr (gk P T) 0 sz xs]})
  | .sl b ar ai off len=>match H[b]? with
   |some (.arr k c a es)=>some ((iy P X=true/\(cE P (ez P T)).isSome=true/\eS P sz xs)/\(ar=c/\ai=a/\ai=sz/\off+len<=es.length)/\es.length+xs.length<=cU/\k≠ .frozen/\(k≠ .exact->off=0)/\(k= .bytes->ez P T=Gl.u8),
    if xs.isEmpty then{v:=s,aj:=(b,.arr k c a es)::dh H x}
    else match k with
     | .exact=>if off+len+xs.length<=es.length then
      {v:=.sl b ar ai off (len+xs.length),aj:=(b,.arr k c a es)::dh H x,aI:=[(b,.arr .exact ar ai (es.take (off+len)++xs++es.drop (off+len+xs.length)))]}
      else{v:=.sl H.length 0 sz 0 (len+xs.length),aj:=(b,.arr k c a es)::dh H x,aP:=[.arr (gk P T) 0 sz ((es.drop off).take len++xs)]}
     |_=>{v:=.sl b (ar+1) ai 0 (len+xs.length),aj:=(b,.arr k c a es)::dh H x,aI:=[(b,.arr k (ar+1) ai (es.take len++xs))]})
   |_=>none
  |_=>none
 |_,_=>none
theorem Sv{T X:a6}{H:Heap}{s x:AV}:Can (mN P T X H s x) (ou P T X H s x):=by
 intro K h;unfold ou at h;unfold mN
 split at h
 case h_2=>exact h.elim
 rename_i sz p i j;simp only[i,j]
 split at h
 ·simp only[aZ]at h;obtain⟨⟨⟨b,a2,a3⟩,a4⟩,hk⟩:=h;refine⟨b,a2,a3,?_⟩;dsimp only
  split
  ·rename_i a;rw[if_pos a]at hk;exact hk
  ·rename_i a;rw[if_neg a]at hk;exact⟨a4,hk⟩
 ·split at h
  case h_2=>exact h.elim
  rename_i k o n m l;simp only[aZ]at h;obtain⟨⟨⟨b,a2,a3⟩,⟨rfl,rfl,e,f⟩,g,a9,c,d⟩,hk⟩:=h;refine⟨b,a2,a3,?_⟩;simp only[l];refine⟨trivial,trivial,e,f,?_⟩
  split
  ·rename_i a;rw[if_pos a]at hk;exact hk
  ·rename_i a;rw[if_neg a]at hk;refine⟨g,?_⟩;cases k with
   |frozen=>exact a9 rfl
   |exact=>
    simp only at hk⊢
    split
    ·rename_i hc;rw[if_pos hc]at hk;exact hk
    ·rename_i hc;rw[if_neg hc]at hk;exact hk
   |grow=>exact⟨c (by simp),fun h=>(by cases h),hk⟩
   |bytes=>exact⟨c (by simp),d,hk⟩
 ·exact h.elim
def jP(x:Option AV)(d:Nat):Option (Prop×Nat):=
 match x with
 |none=>some (True,d)
 |some (.p (.int _ i))=>some (0<=i,i.toNat)
 |_=>none
theorem lZ{x:Option AV}{d n:Nat}{p:Prop}{K:Nat->Prop}(h:jP x d=some (p,n))(a:p)(hk:K n):fW x d K:=by
 unfold jP at h;unfold fW
 split at h
 ·simp only[fv,Prod.mk.injEq]at h;obtain⟨rfl,rfl⟩:=h;exact hk
 ·simp only[fv,Prod.mk.injEq]at h;obtain⟨rfl,rfl⟩:=h;exact⟨a,hk⟩
 ·cases h
def oA(P:a7)(T:a6)(H:Heap)(x:AV)(lo hi:Option AV):ek:=
 match x with
 | .p (.str s)=>match jP hi s.length,jP lo 0 with
  |some (p,h),some (q,l)=>some (gT P T=true/\p/\q/\h<=s.length/\l<=h,{v:=.p (.str ((s.take h).drop l))})
  |_,_=>none
 | .p .aR=>match jP hi 0,jP lo 0 with
  |some (p,h),some (q,l)=>some ((cz P T).isSome=true/\p/\q/\h<=0/\l<=h,{v:=.p .aR})
  |_,_=>none
 | .p (.bH full es)=>match jP hi es.length,jP lo 0,cz P T with
  |some (p,h),some (q,l),some sz=>some (p/\q/\h<=es.length/\l<=h/\eS P sz (es.map .p),{v:=.p (.bH (full&&h==es.length) ((es.take h).drop l))})
  |_,_,_=>none
 | .p (.seq es)=>match jP hi es.length,jP lo 0,cz P T with
  |some (p,h),some (q,l),some sz=>some (p/\q/\h<=es.length/\l<=h/\eS P sz (es.map .p),{v:=.p (.seq ((es.take h).drop l))})
  |_,_,_=>none
 | .sl b ar ai off len=>match H[b]? with
  |some (.arr k c a es)=>match jP hi len,jP lo 0 with
   |some (p,h),some (q,l)=>some ((ar=c/\ai=a/\cz P T=some ai/\¬(k.gr=true/\es=[])/\off+len<=es.length)/\p/\q/\off+h<=es.length/\l<=h,
    if l=0 then{v:=.sl b ar ai off h,aj:=[(b,.arr k c a es)]}
    else if l=h then{v:=.p (.bH false []),aj:=[(b,.arr k c a es)]}
    else{v:=.sl b ar ai (off+l) (h-l),aj:=[(b,.arr k c a es)]})
   |_,_=>none
  |_=>none
 |_=>none
theorem UO{T:a6}{H:Heap}{x:AV}{lo hi:Option AV}:Can (mU P T H x lo hi none) (oA P T H x lo hi):=by
 intro K h;unfold oA at h;unfold mU;refine⟨rfl,?_⟩
 split at h
 ·split at h
  case h_2=>exact h.elim
  rename_i a b;simp only[aZ]at h;obtain⟨⟨c,a2,a3,a4,a5⟩,hk⟩:=h;exact⟨c,lZ a a2 (lZ b a3 ⟨a4,a5,hk⟩)⟩
 ·split at h
  case h_2=>exact h.elim
  rename_i a b;simp only[aZ]at h;obtain⟨⟨c,a2,a3,a4,a5⟩,hk⟩:=h;exact⟨c,lZ a a2 (lZ b a3 ⟨a4,a5,hk⟩)⟩
 ·split at h
  case h_2=>exact h.elim
  rename_i a b e;simp only[aZ]at h;obtain⟨⟨a2,a3,a4,a5,d⟩,hk⟩:=h;refine lZ a a2 (lZ b a3 ⟨a4,a5,?_⟩);simp only[e];exact⟨d,hk⟩
 ·split at h
  case h_2=>exact h.elim
  rename_i a b e;simp only[aZ]at h;obtain⟨⟨a2,a3,a4,a5,d⟩,hk⟩:=h;refine lZ a a2 (lZ b a3 ⟨a4,a5,?_⟩);simp only[e];exact⟨d,hk⟩
 ·split at h
  case h_2=>exact h.elim
  rename_i i
  split at h
  case h_2=>exact h.elim
  rename_i a b;simp only[aZ]at h;obtain⟨⟨⟨c,a2,a3,a4,a5⟩,d,f,g,a9⟩,hk⟩:=h;simp only[i];refine⟨c,a2,a3,a4,a5,lZ a d (lZ b f ⟨g,a9,?_⟩)⟩
  split
  ·rename_i hc;rw[if_pos hc]at hk;exact hk
  ·rename_i hc;rw[if_neg hc]at hk
   split
   ·rename_i hc;rw[if_pos hc]at hk;exact hk
   ·rename_i hc;rw[if_neg hc]at hk;exact hk
 ·exact h.elim
def qt(P:a7)(T:a6)(H:Heap)(x key:AV)(ok:Bool):ek:=
 match iI P T,key with
 |some (a,E),.p key=>match cE P E with
  |some z=>match x with
   | .p .fh=>some (fe P a key=true,{v:=.p (if ok then .aE [z,.bool false]else z)})
   | .p (.eL es)=>match fF P a es key with
    |some r=>some (fe P a key=true,{v:= .p (match r with
      |some v=>if ok then .aE [v,.bool true]else v
      |none=>if ok then .aE [z,.bool false]else z)})
    |none=>none
   | .map b=>match H[b]? with
    |some (.map fz es)=>match fF P a es key with
     |some r=>some (fe P a key=true,{v:= .p (match r with
       |some v=>if ok then .aE [v,.bool true]else v
       |none=>if ok then .aE [z,.bool false]else z),aj:=[(b,.map fz es)]})
     |none=>none
    |_=>none
   |_=>none
  |none=>none
 |_,_=>none
def lF(P:a7)(T:a6)(H:Heap)(m k x:AV):ek:=
 match iI P T,m,k,x with
 |some (a,_),.map b,.p key,.p v=>match H[b]? with
  |some (.map false es)=>match lg P a es key with
   |some _=>some (fe P a key=true,{v:=.p (.aE []),aj:=[(b,.map false es)],aI:=[(b,.map false (fV es key v))]})
   |none=>none
  |_=>none
 |_,_,_,_=>none
def pU(P:a7)(T:a6)(n:Nat)(x:AV):ek:=
 match x with
 | .p (.str s)=>some (gT P T=true,{v:=.ptr n [],aP:=[.dd s 0]})
 |_=>none
def qA(H:Heap)(it:AV):ek:=
 match it with
 | .ptr b []=>match H[b]? with
  |some (.dd s pos)=>some (True,if pos<s.length then
   {v:=.p (.aE [.bool true,.int .i64 pos,.int .i32 (cb (fR s) pos).1]),aj:=[(b,.dd s pos)],aI:=[(b,.dd s (pos+(cb (fR s) pos).2))]}
   else{v:=.p (.aE [.bool false]),aj:=[(b,.dd s pos)]})
  |_=>none
 |_=>none
def qC(P:a7)(T:a6)(n:Nat)(l c:AV):ek:=
 match cz P T,cE P (ez P T),l,c with
 |some sz,some z,.p (.int .i64 l),.p (.int .i64 c)=>some (bB P (aJ z)=sz/\0<=l/\l=c/\l<=cU,{v:=.sl n 0 sz 0 l.toNat,aP:=[.arr .exact 0 sz (c6 l.toNat (.p z))]})
 |_,_,_,_=>none
def copyV(P:a7)(T:a6)(H:Heap)(d x:AV):ek:=
 match cz P T,d,gq H x with
 |some sz,.sl b ar ai off len,some xs=>match H[b]? with
  |some (.arr k c a es)=>some ((ai=sz/\eS P sz xs)/\ar=c/\ai=a/\k≠ .frozen/\off+len<=es.length/\¬(k.gr=true/\es=[]),
   {v:=.p (.int .i64 (min xs.length len:Nat)),aj:=(b,.arr k c a es)::dh H x,aI:=[(b,.arr k c a (es.take off++xs.take (min xs.length len)++es.drop (off+min xs.length len)))]})
  |_=>none
 |_,_,_=>none
def pO(x:AV):ek:=
 match x with
 | .ptr _ _| .bQ _ _ _ _ _| .p (.b6 _)=>some (True,{v:=x})
 |_=>none
def jU(b:Bool)(c:List AV):ek:=
 match c with
 | .p (.int k a)::r=>match kU k b r a with
  |some n=>some (True,{v:=.p (.int k n)})
  |none=>none
 |_=>none
def qp(f:bb)(fi ca:List AV):ek:=
 match eB fi,eB ca with
 |some a,some b=>some (True,{v:=.p (.func f a b)})
 |_,_=>some (True,{v:=.func f fi ca})
end
section
variable{P:a7}{ag:bb->Bool}
def qx(c a b:AV):ek:=
 match c with
 | .p (.bool t)=>some (True,{v:=if t then a else b})
 |_=>none
def qf(P:a7)(T:a6)(n:Nat):ek:=
 match cE P T with
 |some z=>some (kindOf P T=aJ z/\aJ z≠.bad/\iK T (aJ z)=true,{v:=.ptr n [],aP:=[.box false (.p z)]})
 |none=>none
def sV(P:a7)(T:a6)(n:Nat)(x:AV):ek:=some (kindOf P T=ad x/\ad x≠.bad/\iK T (ad x)=true,{v:=.ptr n [],aP:=[.box false x]})
def pY(P:a7)(T:a6)(a:List (Nat×AV)):ek:=
 match kindOf P T,cE P T with
 | .agg u,some z=>match dC P u with
  |some l=>some (aJ z=.agg u/\kT P l a,{v:=gG u (gS ((cj z).map .p) a)})
  |none=>none
 |_,_=>none
def ph(P:a7)(T:a6)(n:Nat)(a:List (Nat×AV))(b:Nat):ek:=
 match cz P T,cE P (ez P T)with
 |some sz,some z=>some (bB P (aJ z)=sz/\n*sz<=1000000/\kT P (c6 n sz) a,{v:=.sl b 0 sz 0 n,aP:=[.arr .exact 0 sz (gS (c6 n (.p z)) a)]})
 |_,_=>none
def tf(op:be)(k:bk)(a b:Int):Prop×PV:=
 match op with
 | .add=>(True,.int k (k.wrap (a+b)))
 | .sub=>(True,.int k (k.wrap (a-b)))
 | .mul=>(True,.int k (k.wrap (a*b)))
 | .quo=>(b≠0,.int k (k.wrap (a.tdiv b)))
 | .rem=>(b≠0,.int k (a.tmod b))
 | .and=>(True,.int k (k.wrap (ay k.bits a&&&ay k.bits b).toNat))
 | .or=>(True,.int k (k.wrap (ay k.bits a|||ay k.bits b).toNat))
 | .xor=>(True,.int k (k.wrap (ay k.bits a^^^ay k.bits b).toNat))
 | .andNot=>(True,.int k (k.wrap (ay k.bits a&&&~~~ay k.bits b).toNat))
 | .eql=>(True,.bool (a==b))
 | .neq=>(True,.bool (a !=b))
 | .lss=>(True,.bool (decide (a<b)))
 | .leq=>(True,.bool (decide (a<=b)))
 | .gtr=>(True,.bool (decide (a>b)))
 | .geq=>(True,.bool (decide (a>=b)))
 | .shl=>(0<=b,.int k (k.wrap (a*2^(min b.toNat k.bits))))
 | .shr=>(0<=b,.int k (a.fdiv (2^(min b.toNat k.bits))))
theorem Yi{op:be}{k:bk}{a b:Int}{K:PV->Prop}(h:(tf op k a b).1)(hk:K (tf op k a b).2):oI op k a b K:=by
 cases op<;>simp only[tf,oI]at*<;>first|exact hk|exact⟨h,hk⟩
def Dx(op:be)(a b:List Nat):Option (Prop×PV):=
 match op with
 | .add=>some (a.length+b.length<9223372036854775808,.str (a++b))
 | .eql=>some (True,.bool (a==b))
 | .neq=>some (True,.bool (!(a==b)))
 | .lss=>some (True,.bool (iE a b))
 | .leq=>some (True,.bool (iE a b||a==b))
 | .gtr=>some (True,.bool (!(iE a b||a==b)))
 | .geq=>some (True,.bool (!(iE a b)))
 |_=>none
def iJ(P:a7)(op:be)(T:a6)(c:Bool)(H:Heap)(x y:AV):ek:=
 match x,y with
 | .p (.int k a),.p (.int d b)=>some ((k=d\/op=.shl\/op=.shr)/\(tf op k a b).1,{v:=.p (tf op k a b).2})
 | .p (.str a),.p (.str b)=>match Dx op a b with
  |some (p,v)=>some (p,{v:=.p v})
  |none=>none
 | .p (.bool a),.p (.bool b)=>match op with
  | .eql=>some (pR P T=true,{v:=.p (.bool (a==b))})
  | .neq=>some (pR P T=true,{v:=.p (.bool (!(a==b)))})
  |_=>none
 | .p (.st u fs),.p (.st u' gs)=>match ie P 9 T (.st u fs) (.st u' gs),op with
  |some r,.eql=>some (sZ P T=true,{v:=.p (.bool r)})
  |some r,.neq=>some (sZ P T=true,{v:=.p (.bool !r)})
  |_,_=>none
 |x,y=>match df P T c y with
  |some k=>match cG H k x,op with
   |some r,.eql=>some (True,{v:=.p (.bool r),aj:=dh H x})
   |some r,.neq=>some (True,{v:=.p (.bool !r),aj:=dh H x})
   |_,_=>none
  |none=>none
theorem Is{op:be}{T:a6}{c:Bool}{H:Heap}{x y:AV}{k:tA}{K:PV->Prop}(hk:df P T c y=some k):jK P op T c H x y K=(match cG H k x,op with
  |some r,.eql=>K (.bool r)
  |some r,.neq=>K (.bool !r)
  |_,_=>False):=by
 have a:=hk;rcases Hx hk with⟨rfl,rfl,_⟩|⟨rfl,rfl,_⟩|⟨rfl,rfl,_⟩|⟨rfl,rfl,_⟩|⟨rfl,rfl,_⟩
 all_goals
  unfold jK;cases x with
  |p v=>
   cases v<;>simp only[a]<;>(generalize cG H _ _=r;cases r<;>cases op<;>rfl)
  |_=>simp only[a];(generalize cG H _ _=r;cases r<;>cases op<;>rfl)
theorem WV{op:be}{T:a6}{c:Bool}{H:Heap}{x y:AV}:Can (fun K=>jK P op T c H x y (fun v=>K {v:=.p v,aj:=dh H x})) (iJ P op T c H x y):=by
 intro K h;unfold iJ at h;unfold jK
 split at h
 ·exact⟨h.1.1,Yi h.1.2 h.2⟩
 ·split at h
  ·rename_i p v a;simp only[aZ]at h;show oH op _ _ _;unfold Dx at a
   split at a<;>first
    |(simp only[fv,Prod.mk.injEq]at a
      obtain⟨b,d⟩:=a;rw[<-b,<-d]at h;simp only[oH]
      first|exact h.2|exact⟨h.1,h.2⟩)
    |cases a
  ·exact h.elim
 ·split at h
  ·exact⟨h.1,h.2⟩
  ·exact⟨h.1,h.2⟩
  ·exact h.elim
 ·split at h
  ·rename_i e;simp only[aZ]at h;simp only[e];exact⟨h.1,h.2⟩
  ·rename_i e;simp only[aZ]at h;simp only[e];exact⟨h.1,h.2⟩
  ·exact h.elim
 ·rename_i b d f g
  split at h
  case h_2=>exact h.elim
  rename_i k hk;clear b d f g;show jK P op T c H x y _;rw[Is hk];generalize cG H k x=q at h⊢;cases q<;>cases op<;>first|exact h.elim|exact h.2
def ri(op:UnOp)(x:AV):ek:=
 match op,x with
 | .not,.p (.bool b)=>some (True,{v:=.p (.bool (!b))})
 | .neg,.p (.int k n)=>some (True,{v:=.p (.int k (k.wrap (0-n)))})
 | .xor,.p (.int k n)=>some (True,{v:=.p (.int k (k.wrap (ay k.bits (if k.signed then -1 else k.max)^^^ay k.bits n).toNat))})
 |_,_=>none
def qm(P:a7)(S D:a6)(H:Heap)(x:AV):ek:=
 match P.underlying S,P.underlying D,x with
 |some _,some (.int k),.p (.int _ n)=>some (True,{v:=.p (.int k (k.wrap n))})
 |some _,some .string,.p (.str s)=>some (True,{v:=.p (.str s)})
 |some (.slice e),some .string,.sl b ar ai off len=>match H[b]? with
  |some (.arr k c a es)=>match bytesOf ((es.drop off).take len)with
   |some l=>some ((ar=c/\ai=a/\ai=1/\P.underlying e=some (.int .u8)/\0<len/\off+len<=es.length),{v:=.p (.str l),aj:=[(b,.arr k c a es)]})
   |none=>none
  |_=>none
 |_,_,_=>none
def pF(t:AV)(i:Nat):ek:=
 match t with
 | .p (.aE vs)=>match vs[i]? with
  |some v=>some (True,{v:=.p v})
  |none=>none
 | .aE vs=>match vs[i]? with
  |some v=>some (True,{v})
  |none=>none
 |_=>none
def qh(P:a7)(T:a6)(x i:AV):ek:=
 match x,i with
 | .p (.str s),.p (.int _ i)=>match s[i.toNat]? with
  |some c=>some (gT P T=true/\0<=i,{v:=.p (.int .u8 c)})
  |none=>none
 | .p (.st u es),.p (.int _ i)=>match fY P T,(iS P u)[i.toNat]?,es[i.toNat]? with
  |some (u',n),some F,some g=>some (u'=u/\0<=i/\i.toNat<n/\kindOf P F=aJ g,{v:=.p g})
  |_,_,_=>none
 |_,_=>none
def qR(P:a7)(T:a6)(n:Nat)(H:Heap)(x:AV):ek:=
 match lenOf H x with
 |some (m,aj)=>some (gC P T x=true/\0<n,{v:=.p (.int .i64 m),aj})
 |none=>none
def jV(P:a7)(ag:bb->Bool)(o:Oper)(e:Env)(H:Heap)(K:aS->Prop):Prop:=
 match o.op with
 | .move x| .assign x=>K {v:=ev e x}
 | .pick c a b=>aZ (qx (ev e c) (ev e a) (ev e b)) K
 | .alloc T=>aZ (qf P T H.length) K
 | .box T x=>aZ (sV P T H.length (ev e x)) K
 | .build T parts=>aZ (pY P T (parts.toList.map fun(i,x)=>(i,ev e x))) K
 | .buildSlice T n parts=>aZ (ph P T n (parts.toList.map fun(i,x)=>(i,ev e x)) H.length) K
 | .load T a=>aZ (oJ P T H (ev e a)) K
 | .store T a x=>aZ (ov P T H (ev e a) (ev e x)) K
 | .binOp op T x y _=>aZ (iJ P op T (lG y) H (ev e x) (ev e y)) K
 | .unOp op _ x=>aZ (ri op (ev e x)) K
 | .convert S D x=>aZ (qm P S D H (ev e x)) K
 | .extract t i=>aZ (pF (ev e t) i) K
 | .fieldAddr T a f=>aZ (nQ P T (ev e a) f) K
 | .indexAddr T x i=>aZ (nP P T H (ev e x) (ev e i)) K
 | .index T x i=>aZ (qh P T (ev e x) (ev e i)) K
 | .slice T x lo hi none=>aZ (oA P T H (ev e x) (lo.map (ev e)) (hi.map (ev e))) K
 | .lookup T x i ok=>aZ (qt P T H (ev e x) (ev e i) ok) K
 | .mapUpdate T m k x| .insert T m k x=>aZ (lF P T H (ev e m) (ev e k) (ev e x)) K
 | .range T x=>aZ (pU P T H.length (ev e x)) K
 | .next it true=>aZ (qA H (ev e it)) K
 | .makeSlice T l c=>aZ (qC P T H.length (ev e l) (ev e c)) K
 | .nilCheck x=>aZ (pO (ev e x)) K
 | .call c=>match c.callee with
  | .builtin .len=>(match c.args.toList with
   |[x]=>aZ (qR P (c.argTypes.getD 0 0) c.argTypes.size H (ev e x)) K
   |_=>False)
  | .builtin .append=>(match c.args.toList with
   |[s,x]=>c.argTypes.size=2/\aZ (ou P (c.argTypes.getD 0 0) (c.argTypes.getD 1 0) H (ev e s) (ev e x)) K
   |_=>False)
  | .builtin .copy=>(match c.args.toList with
   |[d,x]=>c.argTypes.size=2/\aZ (copyV P (c.argTypes.getD 0 0) H (ev e d) (ev e x)) K
   |_=>False)
  | .builtin .min=>aZ (jU false (c.args.toList.map (ev e))) K
  | .builtin .max=>aZ (jU true (c.args.toList.map (ev e))) K
  |_=>fk P ag o (ev e) H K
 |_=>fk P ag o (ev e) H K
theorem L3{o:Oper}{e:Env}{H:Heap}{K:aS->Prop}(h:jV P ag o e H K):fk P ag o (ev e) H K:=by
 unfold jV at h;unfold fk;cases w:o.op<;>simp only[w]at h<;>simp only
 case move|assign=>exact h
 case pick c a b=>
  unfold qx at h
  split at h
  ·rename_i hc;simp only[hc];exact h.2
  ·exact h.elim
 case alloc T=>
  unfold qf at h
  split at h
  ·rename_i v;simp only[aZ]at h;simp only[v];exact⟨h.1.1,h.1.2.1,h.1.2.2,h.2⟩
  ·exact h.elim
 case box T x=>exact⟨h.1.1,h.1.2.1,h.1.2.2,h.2⟩
 case build T parts=>
  unfold pY at h
  split at h
  ·rename_i hk v
   split at h
   ·rename_i A;simp only[aZ]at h;simp only[hk,v,A];exact⟨h.1.1,h.1.2,h.2⟩
   ·exact h.elim
  ·exact h.elim
 case buildSlice T n parts=>
  unfold ph at h
  split at h
  ·rename_i hk v;simp only[aZ]at h;simp only[hk,v];exact⟨h.1.1,h.1.2.1,h.1.2.2,h.2⟩
  ·exact h.elim
 case load T a=>exact V8 K h
 case store T a x=>exact UN K h
 case binOp op T x y O=>exact WV K h
 case unOp op T x=>
  unfold ri at h
  split at h
  ·rename_i hx;simp only[hx];exact h.2
  ·rename_i hx;simp only[hx];exact h.2
  ·rename_i hx;simp only[hx];exact h.2
  ·exact h.elim
 case convert S D x=>
  unfold qm at h
  split at h
  ·rename_i g j p;simp only[g,j,p];exact h.2
  ·rename_i g j p;simp only[g,j,p];exact h.2
  ·rename_i g j p
   split at h
   ·rename_i q
    split at h
    ·rename_i A;obtain⟨⟨B,a2,a3,a4,a5,C⟩,h⟩:=h;simp only[g,j,p,q,A];exact⟨B,a2,a3,a4,a5,C,h⟩
    ·exact h.elim
   ·exact h.elim
  ·exact h.elim
 case extract t i=>
  unfold pF at h
  split at h
  ·rename_i F
   split at h
   ·rename_i G;simp only[F,G];exact h.2
   ·exact h.elim
  ·rename_i F
   split at h
   ·rename_i G;simp only[F,G];exact h.2
   ·exact h.elim
  ·exact h.elim
 case fieldAddr T a f=>exact QX K h
 case indexAddr T x i=>exact QW K h
 case index T x i=>
  unfold qh at h
  split at h
  ·rename_i hx hi
   split at h
   ·rename_i c hc;obtain⟨L,rfl⟩:=cy.1 hc;simp only[hx,hi];exact⟨h.1.1,h.1.2,L,h.2⟩
   ·exact h.elim
  ·rename_i hx hi
   split at h
   ·rename_i g j p;obtain⟨⟨g1,g2,g3,g4⟩,h⟩:=h;simp only[hx,hi,g,j,p];exact⟨g1,g2,g3,g4,h⟩
   ·exact h.elim
  ·exact h.elim
 case slice T x lo hi N=>
  cases N with
  |none=>exact UO K h
  |some m=>simp only[fk,w]at h;exact h
 case lookup T x i ok=>
  unfold qt at h
  split at h
  case h_2=>exact h.elim
  rename_i M hi;simp only[M,hi]
  split at h
  case h_2=>exact h.elim
  rename_i z v;simp only[v]
  split at h
  ·rename_i hx;simp only[hx];exact h
  ·rename_i Q hx;simp only[hx]
   split at h
   case h_2=>exact h.elim
   rename_i r u;refine⟨h.1,?_⟩;simp only[u];cases r<;>exact h.2
  ·rename_i b hx;simp only[hx]
   split at h
   case h_2=>exact h.elim
   rename_i q
   split at h
   case h_2=>exact h.elim
   rename_i r u;refine⟨h.1,?_⟩;simp only[q,u];cases r<;>exact h.2
  ·exact h.elim
 case mapUpdate T m k x|insert T m k x=>
  unfold lF at h
  split at h
  case h_2=>exact h.elim
  rename_i g j p E;simp only[g,j,p,E]
  split at h
  case h_2=>exact h.elim
  rename_i q
  split at h
  case h_2=>exact h.elim
  rename_i u;refine⟨h.1,?_⟩;simp only[q,u];exact h.2
 case range T x=>
  unfold pU at h
  split at h
  ·rename_i hx;simp only[hx];exact h
  ·exact h.elim
 case next it s=>
  cases s with
  |false=>simp only[fk,w]at h
  |true=>
   dsimp only at h⊢;unfold qA at h
   split at h
   case h_2=>exact h.elim
   rename_i hx;simp only[hx]
   split at h
   case h_2=>exact h.elim
   rename_i q;simp only[q];have h:=h.2
   split
   ·rename_i hc;rw[if_pos hc]at h;exact h
   ·rename_i hc;rw[if_neg hc]at h;exact h
 case makeSlice T l c=>
  unfold qC at h
  split at h
  ·rename_i g j p E;simp only[g,j,p,E];exact⟨h.1.1,h.1.2.1,h.1.2.2.1,h.1.2.2.2,h.2⟩
  ·exact h.elim
 case nilCheck x=>
  unfold pO at h
  split at h
  ·rename_i hx;simp only[hx];rw[hx]at h;exact h.2
  ·rename_i hx;simp only[hx];rw[hx]at h;exact h.2
  ·rename_i hx;simp only[hx];rw[hx]at h;exact h.2
  ·exact h.elim
 case call c=>
  split at h
  ·rename_i hc
   split at h
   ·rename_i x hx;unfold qR at h
    split at h
    ·rename_i A;simp only[aZ]at h;simp only[hc,hx,dg,ea,A];exact⟨h.1.1,h.1.2,h.2⟩
    ·exact h.elim
   ·exact h.elim
  ·rename_i hc
   split at h
   ·rename_i s x hx;simp only[hc,hx,dg,ea];exact⟨h.1,Sv K h.2⟩
   ·exact h.elim
  ·rename_i hc
   split at h
   ·rename_i d x hx;simp only[hc,hx,dg,ea];obtain⟨J,h⟩:=h;unfold copyV at h
    split at h
    case h_2=>exact h.elim
    rename_i g j p
    split at h
    case h_2=>exact h.elim
    rename_i q;simp only[aZ]at h;obtain⟨⟨⟨B,a2⟩,a3,a4,a5,C,I⟩,hk⟩:=h;simp only[g,j,p,q];exact⟨B,a2,J,a3,a4,a5,C,I,hk⟩
   ·exact h.elim
  ·rename_i hc;unfold jU at h
   split at h
   case h_2=>exact h.elim
   rename_i hx
   split at h
   case h_2=>exact h.elim
   rename_i u;simp only[hc,hx,u];exact h.2
  ·rename_i hc;unfold jU at h
   split at h
   case h_2=>exact h.elim
   rename_i hx
   split at h
   case h_2=>exact h.elim
   rename_i u;simp only[hc,hx,u];exact h.2
  ·unfold fk at h;simp only[w]at h;exact h
 all_goals first
  |exact h
  |(unfold fk at h
    simp only[w]at h;exact h)
  |(unfold fk at h
    simp only[w]at h)
end
section
variable{P:a7}{ag:bb->Bool}
def dU(dst:Option Tmp)(s:St)(K:St->Prop)(e:aS):Prop:=K (e.app dst s)
def ze(dst:Option Tmp)(s:St)(K:St->Prop)(v:AV)(H:Heap):Prop:=K ⟨put dst v s.env,H⟩
def qo(P:a7)(f:AV)(args:List AV)(H:Heap)(K:AV->Heap->Prop):Prop:=
 match f with
 | .p (.func g fi ca)=>gz P false g (fi.map .p++args++ca.map .p) H K
 | .func g fi ca=>gz P false g (fi++args++ca) H K
 | .map b=>∃H' v,gV P b H args H' v/\K v H'
 |_=>False
def pX(P:a7)(f:AV)(args:List AV)(H:Heap)(K:aS->Prop):Prop:=
 match f with
 | .p (.func g fi ca)=>gF P g (fi.map .p++args++ca.map .p) H K
 | .func g fi ca=>gF P g (fi++args++ca) H K
 | .map b=>∃e,sB P b args H.length e/\oL H e/\K e
 |_=>False
def cV(P:a7)(ag:bb->Bool)(o:Oper)(K:St->Prop)(s:St):Prop:=
 match o.op with
 | .call {callee:=.value f,args,.. }=>qo P (ev s.env f) (args.toList.map (ev s.env)) s.heap (ze o.dst s K)
 |_=>jV P ag o s.env s.heap (dU o.dst s K)
def cW(P:a7)(ag:bb->Bool)(o:Oper)(s:St)(K:aS->Prop):Prop:=
 match o.op with
 | .call {callee:=.value f,args,.. }=>pX P (ev s.env f) (args.toList.map (ev s.env)) s.heap K
 |_=>jV P ag o s.env s.heap K
theorem T0{o:Oper}{K:St->Prop}{s:St}(h:cV P ag o K s):ja P ag false o K s:=by
 unfold cV at h;unfold ja
 split at h
 ·rename_i f args b a;simp only[a];unfold qo at h
  split at h
  ·rename_i hf;simp only[hf];exact h
  ·rename_i hf;simp only[hf];exact h
  ·rename_i hf;simp only[hf];exact h
  ·exact h.elim
 ·rename_i c
  split
  ·rename_i f args b a;exact(c _ _ _ a).elim
  ·exact L3 h
theorem Ua{o:Oper}{K:aS->Prop}{s:St}(h:cW P ag o s K):iL P ag o s K:=by
 unfold cW at h;unfold iL
 split at h
 ·rename_i f args b a;simp only[a];unfold pX at h
  split at h
  ·rename_i hf;simp only[hf];exact h
  ·rename_i hf;simp only[hf];exact h
  ·rename_i hf;simp only[hf];exact h
  ·exact h.elim
 ·rename_i c
  split
  ·rename_i f args b a;exact(c _ _ _ a).elim
  ·exact L3 h
def fH(P:a7)(ag:bb->Bool)(a:Array Oper):List Oper->(St->Prop)->St->Prop
 |[],K,s=>K s
 |o::r,K,s=>match o.guard with
  |none=>cV P ag o (fH P ag a r K) s
  |some (j,want)=>match guardOf a j s.env with
   | .p (.bool t)=>if t=want then cV P ag o (fH P ag a r K) s else fH P ag a r K ⟨put o.dst (.p (.aE [])) s.env,s.heap⟩
   | .p (.aE [])=>fH P ag a r K ⟨put o.dst (.p (.aE [])) s.env,s.heap⟩
   |_=>False
def fO(P:a7)(ag:bb->Bool)(a:Array Oper):List Oper->Nat->List Touch->(St->Prop)->St->Prop
 |[],_,acc,K,s=>jE a acc=true/\K s
 |o::r,i,acc,K,s=>match o.guard with
  |none=>cW P ag o s fun e=>fO P ag a r (i+1) (gA i s.heap.length e acc) K (e.app o.dst s)
  |some (j,want)=>match guardOf a j s.env with
   | .p (.bool t)=>if t=want then cW P ag o s fun e=>fO P ag a r (i+1) (gA i s.heap.length e acc) K (e.app o.dst s)
    else fO P ag a r (i+1) acc K ⟨put o.dst (.p (.aE [])) s.env,s.heap⟩
   | .p (.aE [])=>fO P ag a r (i+1) acc K ⟨put o.dst (.p (.aE [])) s.env,s.heap⟩
   |_=>False
theorem xT{b:Array Oper}:∀(l:List Oper){K a:St->Prop}{s:St},(∀s,K s->a s)->fH P ag b l K s->gB P ag false b l a s
 |[],K,a,s,hk,h=>by simp only[fH]at h;simp only[gB];exact hk s h
 |o::l,K,a,s,hk,h=>by
  have go:cV P ag o (fH P ag b l K) s->ja P ag false o (gB P ag false b l a) s:=fun h=>by
   obtain⟨t,f,g⟩:=H7 false o s _ (T0 h);exact g _ (xT l hk f)
  simp only[fH]at h;simp only[gB]
  split at h
  ·rename_i c;simp only[c];exact go h
  ·rename_i j i c;simp only[c]
   split at h
   ·rename_i t d;simp only[d]
    split at h
    ·rename_i e;rw[if_pos e];exact go h
    ·rename_i e;rw[if_neg e];exact xT l hk h
   ·rename_i d;simp only[d];exact xT l hk h
   ·exact h.elim
theorem xn{c:Array Oper}:∀(l:List Oper){i:Nat}{a:List Touch}{K b:St->Prop}{s:St},(∀s,K s->b s)->fO P ag c l i a K s->fN P ag c l i a b s
 |[],i,a,K,b,s,hk,h=>by simp only[fO]at h;simp only[fN];exact⟨h.1,hk s h.2⟩
 |o::l,i,a,K,b,s,hk,h=>by
  have go:cW P ag o s (fun e=>fO P ag c l (i+1) (gA i s.heap.length e a) K (e.app o.dst s))->iL P ag o s (fun e=>fN P ag c l (i+1) (gA i s.heap.length e a) b (e.app o.dst s)):=fun h=>by
   obtain⟨e,k,m⟩:=H8 o s _ (Ua h);exact m _ (xn l hk k)
  simp only[fO]at h;simp only[fN]
  split at h
  ·rename_i d;simp only[d];exact go h
  ·rename_i j n d;simp only[d]
   split at h
   ·rename_i t f;simp only[f]
    split at h
    ·rename_i g;rw[if_pos g];exact go h
    ·rename_i g;rw[if_neg g];exact xn l hk h
   ·rename_i f;simp only[f];exact xn l hk h
   ·exact h.elim
def sK(v:AV)(a b:St->Prop)(s:St):Prop:=
 match v with
 | .p (.bool t)=>if t then a s else b s
 |_=>False
def tj(K:St->Prop)(Q:bn->St->Prop)(e:bn)(s:St):Prop:=
 match e with
 | .normal=>K s
 |e=>Q e s
def cT(P:a7)(ag:bb->Bool)(q:Cx):Code->(bn->St->Prop)->St->Prop
 | .skip,Q,s| .label _,Q,s=>Q .normal s
 | .region _ ops draw,Q,s=>if draw then fO P ag ops ops.toList 0 [] (Q .normal) s else fH P ag ops ops.toList (Q .normal) s
 | .seq a b,Q,s=>cT P ag q a (tj (cT P ag q b Q) Q) s
 | .cond c a b,Q,s=>sK (ev s.env c) (cT P ag q a Q) (cT P ag q b Q) s
 | .block id b,Q,s=>cT P ag q b (ng id Q) s
 | .scope b,Q,s=>cT P ag q b Q s
 | .loop b,Q,s=>∃I:Nat->St->Prop,(∃n t,dj q.2 s t/\I n t)/\∀n t,I n t->cT P ag q b (sD q.2 n I Q) t
 | .rangeFunc f d a b,Q,s=>q.2<=s.heap.length/\ji P (ev s.env f) s.heap.length (s.heap++[.loop ⟨.ready,none,q.1,d.toList,a,b,s.env⟩]) (iq s.heap.length s.env Q)
 | .exit id,Q,s=>Q (.exit id) s
 | .ret,Q,s=>Q .ret s
 |_,_,_=>False
theorem Uj{Q a:bn->St->Prop}(hq:∀e s,Q e s->a e s){j:Option Code}{s:St}(h:jl Q j s):jl a j s:=by
 unfold jl at h⊢
 split at h
 ·exact hq _ _ h
 ·exact hq _ _ h
 ·exact hq _ _ h
 ·exact h.elim
theorem HN{Q a:bn->St->Prop}(hq:∀e s,Q e s->a e s){b:Nat}{env:Env}{H:Heap}(h:iq b env Q H):iq b env a H:=by
 unfold iq at h⊢
 split at h
 ·exact⟨h.1,Uj hq h.2⟩
 ·exact h.elim
theorem HJ{it:AV}{b:Nat}{H:Heap}{K d:Heap->Prop}(hk:∀H,K H->d H)(h:ji P it b H K):ji P it b H d:=by
 unfold ji at h⊢
 split at h
 ·obtain⟨H',v,a,c⟩:=h;exact⟨H',v,a,hk _ c⟩
 ·obtain⟨H',v,a,c⟩:=h;exact⟨H',v,a,hk _ c⟩
 ·exact h.elim
theorem kL{q:Cx}:∀(c:Code){Q Q':bn->St->Prop}{s:St},(∀e s,Q e s->Q' e s)->cT P ag q c Q s->bU P ag q c Q' s
 | .skip,Q,Q',s,hq,h| .label _,Q,Q',s,hq,h=>by simp only[cT]at h;simp only[bU];exact hq _ _ h
 | .exit _,Q,Q',s,hq,h| .ret,Q,Q',s,hq,h=>by simp only[cT]at h;simp only[bU];exact hq _ _ h
 | .region id ops draw,Q,Q',s,hq,h=>by
  simp only[cT]at h;simp only[bU]
  split at h
  ·rename_i j;rw[if_pos j];exact xn _ (hq _) h
  ·rename_i j;rw[if_neg j];exact xT _ (hq _) h
 | .seq a b,Q,Q',s,hq,h=>by
  simp only[cT]at h;simp only[bU];refine kL a (fun e s d=>?_) h;cases e with
  |normal=>exact kL b hq d
  |exit id=>exact hq _ _ d
  |ret=>exact hq _ _ d
 | .cond c a b,Q,Q',s,hq,h=>by
  simp only[cT]at h;simp only[bU];unfold sK at h
  split at h
  ·rename_i t m;simp only[m]
   split at h
   ·rename_i g;rw[if_pos g];exact kL a hq h
   ·rename_i g;rw[if_neg g];exact kL b hq h
  ·exact h.elim
 | .block id b,Q,Q',s,hq,h=>by
  simp only[cT]at h;simp only[bU];refine kL b (fun e s d=>?_) h;cases e with
  |normal=>exact hq _ _ d
  |exit i=>
   simp only[ng]at d
   by_cases hi:i=id
   ·simp only[hi,if_true]at d⊢;exact hq _ _ d
   ·simp only[hi,if_false]at d⊢;exact hq _ _ d
  |ret=>exact hq _ _ d
 | .scope b,Q,Q',s,hq,h=>by simp only[cT]at h;simp only[bU];exact kL b hq h
 | .loop b,Q,Q',s,hq,h=>by
  simp only[cT]at h;simp only[bU];obtain⟨I,k,l⟩:=h;refine⟨I,k,fun n t hI=>kL b (fun e s d=>?_) (l n t hI)⟩;cases e with
  |normal=>exact d
  |exit id=>exact hq _ _ d
  |ret=>exact hq _ _ d
 | .rangeFunc f o a b,Q,Q',s,hq,h=>by
  simp only[cT]at h;simp only[bU];exact⟨h.1,s.env,fun _=>rfl,HJ (fun H=>HN hq) h.2⟩
 | .goto _,_,_,_,_,h| .refuse _,_,_,_,_,h=>by simp[cT]at h
end
section
variable{P:a7}{ag:bb->Bool}{q:Cx}
theorem Ly{Q:bn->St->Prop}{s:St}:cT P ag q .skip Q s=Q .normal s:=(rfl)
theorem Kn{l:Nat}{Q:bn->St->Prop}{s:St}:cT P ag q (.label l) Q s=Q .normal s:=(rfl)
theorem Lz{id:Nat}{Q:bn->St->Prop}{s:St}:cT P ag q (.exit id) Q s=Q (.exit id) s:=(rfl)
theorem Pk{Q:bn->St->Prop}{s:St}:cT P ag q .ret Q s=Q .ret s:=(rfl)
theorem Kl{b:Code}{Q:bn->St->Prop}{s:St}:cT P ag q (.scope b) Q s=cT P ag q b Q s:=(rfl)
theorem LA{id:Nat}{l:List Oper}{Q:bn->St->Prop}{s:St}:cT P ag q (.region id l.toArray true) Q s=fO P ag l.toArray l 0 [] (Q .normal) s:=by simp[cT]
theorem Km{id:Nat}{l:List Oper}{Q:bn->St->Prop}{s:St}:cT P ag q (.region id l.toArray false) Q s=fH P ag l.toArray l (Q .normal) s:=by simp[cT]
theorem Pm{a b:Code}{Q:bn->St->Prop}{s:St}:cT P ag q (.seq a b) Q s=cT P ag q a (tj (cT P ag q b Q) Q) s:=(rfl)
theorem Ko{id:Nat}{b:Code}{Q:bn->St->Prop}{s:St}:cT P ag q (.block id b) Q s=cT P ag q b (ng id Q) s:=(rfl)
theorem LB{c:a8}{a b:Code}{Q:bn->St->Prop}{s:St}:cT P ag q (.cond c a b) Q s=sK (ev s.env c) (cT P ag q a Q) (cT P ag q b Q) s:=(rfl)
theorem GK{K:St->Prop}{Q:bn->St->Prop}{s:St}:tj K Q .normal s=K s:=(rfl)
theorem Ia{id:Nat}{K:St->Prop}{Q:bn->St->Prop}{s:St}:tj K Q (.exit id) s=Q (.exit id) s:=(rfl)
theorem I7{K:St->Prop}{Q:bn->St->Prop}{s:St}:tj K Q .ret s=Q .ret s:=(rfl)
theorem G7{t:Bool}{a b:St->Prop}{s:St}:sK (.p (.bool t)) a b s=if t then a s else b s:=(rfl)
def vq(P:a7)(ag:bb->Bool)(b:Array Oper)(r:List Oper)(i:Nat)(a:List Touch)(K:St->Prop)(dst:Option Tmp)(s:St)(e:aS):Prop:=
 fO P ag b r (i+1) (gA i s.heap.length e a) K (e.app dst s)
theorem JA{b:Array Oper}{r:List Oper}{i:Nat}{a:List Touch}{K:St->Prop}{dst:Option Tmp}{env:Env}{heap:Heap}{v:AV}{aj aI:List (Nat×Obj)}{aP:List Obj}:
 vq P ag b r i a K dst ⟨env,heap⟩ ⟨v,aj,aI,aP⟩=fO P ag b r (i+1) (gA i heap.length ⟨v,aj,aI,aP⟩ a) K ⟨put dst v env,br heap aI++aP⟩:=(rfl)
theorem La{dst:Option Tmp}{env:Env}{heap:Heap}{K:St->Prop}{v:AV}{aj aI:List (Nat×Obj)}{aP:List Obj}:dU dst ⟨env,heap⟩ K ⟨v,aj,aI,aP⟩=K ⟨put dst v env,br heap aI++aP⟩:=(rfl)
theorem KI{dst:Option Tmp}{env:Env}{heap H:Heap}{K:St->Prop}{v:AV}:ze dst ⟨env,heap⟩ K v H=K ⟨put dst v env,H⟩:=(rfl)
def xX(P:a7)(ag:bb->Bool)(b:Array Oper)(o:Oper)(r:List Oper)(i:Nat)(a:List Touch)(K:St->Prop)(c:Bool)(s:St)(g:AV):Prop:=
 match g with
 | .p (.bool t)=>if t=c then cW P ag o s (vq P ag b r i a K o.dst s)else fO P ag b r (i+1) a K ⟨put o.dst (.p (.aE [])) s.env,s.heap⟩
 | .p (.aE [])=>fO P ag b r (i+1) a K ⟨put o.dst (.p (.aE [])) s.env,s.heap⟩
 |_=>False
def ym(P:a7)(ag:bb->Bool)(a:Array Oper)(o:Oper)(r:List Oper)(K:St->Prop)(b:Bool)(s:St)(g:AV):Prop:=
 match g with
 | .p (.bool t)=>if t=b then cV P ag o (fH P ag a r K) s else fH P ag a r K ⟨put o.dst (.p (.aE [])) s.env,s.heap⟩
 | .p (.aE [])=>fH P ag a r K ⟨put o.dst (.p (.aE [])) s.env,s.heap⟩
 |_=>False
theorem Lx{b:Array Oper}{i:Nat}{a:List Touch}{K:St->Prop}{s:St}:fO P ag b [] i a K s=(jE b a=true/\K s):=(rfl)
theorem Kk{b:Array Oper}{i c:Nat}{pos:String}{a:List Touch}{K:St->Prop}{s:St}{dst:Option Tmp}{op:Op}{af:Array Edge}{r:List Oper}:
 fO P ag b ({dst,op,type:=c,pos,after:=af,guard:=none}::r) i a K s=cW P ag {dst,op,type:=c,pos,after:=af,guard:=none} s (vq P ag b r i a K dst s):=(rfl)
theorem Jd{a:Array Oper}{i d j:Nat}{b:Bool}{pos:String}{c:List Touch}{K:St->Prop}{s:St}{dst:Option Tmp}{op:Op}{af:Array Edge}{r:List Oper}:
 fO P ag a ({dst,op,type:=d,pos,after:=af,guard:=some (j,b)}::r) i c K s=xX P ag a {dst,op,type:=d,pos,after:=af,guard:=some (j,b)} r i c K b s (guardOf a j s.env):=(rfl)
theorem Lv{a:Array Oper}{K:St->Prop}{s:St}:fH P ag a [] K s=K s:=(rfl)
theorem Ki{a:Array Oper}{b:Nat}{pos:String}{K:St->Prop}{s:St}{dst:Option Tmp}{op:Op}{af:Array Edge}{r:List Oper}:
 fH P ag a ({dst,op,type:=b,pos,after:=af,guard:=none}::r) K s=cV P ag {dst,op,type:=b,pos,after:=af,guard:=none} (fH P ag a r K) s:=(rfl)
theorem Jc{a:Array Oper}{c j:Nat}{b:Bool}{pos:String}{K:St->Prop}{s:St}{dst:Option Tmp}{op:Op}{af:Array Edge}{r:List Oper}:
 fH P ag a ({dst,op,type:=c,pos,after:=af,guard:=some (j,b)}::r) K s=ym P ag a {dst,op,type:=c,pos,after:=af,guard:=some (j,b)} r K b s (guardOf a j s.env):=(rfl)
end
section CS
variable{P:a7}{ag:bb->Bool}{q:Cx}
end CS
section ops
variable{P:a7}{ag:bb->Bool}{dst:Option Tmp}{ty:Nat}{pos:String}{af:Array Edge}{g:Option (Nat×Bool)}{env:Env}{heap:Heap}{K:aS->Prop}{L:St->Prop}
theorem Mt{x:a8}:cW P ag ⟨dst,.move x,ty,pos,af,g⟩ ⟨env,heap⟩ K=K {v:=ev env x}:=(rfl)
theorem Jy{x:a8}:cW P ag ⟨dst,.assign x,ty,pos,af,g⟩ ⟨env,heap⟩ K=K {v:=ev env x}:=(rfl)
theorem Mr{c a b:a8}:cW P ag ⟨dst,.pick c a b,ty,pos,af,g⟩ ⟨env,heap⟩ K=aZ (qx (ev env c) (ev env a) (ev env b)) K:=(rfl)
theorem KY{T:a6}:cW P ag ⟨dst,.alloc T,ty,pos,af,g⟩ ⟨env,heap⟩ K=aZ (qf P T heap.length) K:=(rfl)
theorem Ng{T:a6}{x:a8}:cW P ag ⟨dst,.box T x,ty,pos,af,g⟩ ⟨env,heap⟩ K=aZ (sV P T heap.length (ev env x)) K:=(rfl)
theorem KX{T:a6}{a:Array (Nat×a8)}:cW P ag ⟨dst,.build T a,ty,pos,af,g⟩ ⟨env,heap⟩ K=aZ (pY P T (a.toList.map fun(i,x)=>(i,ev env x))) K:=(rfl)
theorem Gj{T:a6}{n:Nat}{a:Array (Nat×a8)}:cW P ag ⟨dst,.buildSlice T n a,ty,pos,af,g⟩ ⟨env,heap⟩ K=aZ (ph P T n (a.toList.map fun(i,x)=>(i,ev env x)) heap.length) K:=(rfl)
theorem L8{T:a6}{a:a8}:cW P ag ⟨dst,.load T a,ty,pos,af,g⟩ ⟨env,heap⟩ K=aZ (oJ P T heap (ev env a)) K:=(rfl)
theorem KS{T:a6}{a x:a8}:cW P ag ⟨dst,.store T a x,ty,pos,af,g⟩ ⟨env,heap⟩ K=aZ (ov P T heap (ev env a) (ev env x)) K:=(rfl)
theorem Nf{op:be}{T a:a6}{x y:a8}:cW P ag ⟨dst,.binOp op T x y a,ty,pos,af,g⟩ ⟨env,heap⟩ K=aZ (iJ P op T (lG y) heap (ev env x) (ev env y)) K:=(rfl)
theorem Nk{op:UnOp}{T:a6}{x:a8}:cW P ag ⟨dst,.unOp op T x,ty,pos,af,g⟩ ⟨env,heap⟩ K=aZ (ri op (ev env x)) K:=(rfl)
theorem Ma{S D:a6}{x:a8}:cW P ag ⟨dst,.convert S D x,ty,pos,af,g⟩ ⟨env,heap⟩ K=aZ (qm P S D heap (ev env x)) K:=(rfl)
theorem IE{t:a8}{i:Nat}:cW P ag ⟨dst,.extract t i,ty,pos,af,g⟩ ⟨env,heap⟩ K=aZ (pF (ev env t) i) K:=(rfl)
theorem GM{T:a6}{a:a8}{f:Nat}:cW P ag ⟨dst,.fieldAddr T a f,ty,pos,af,g⟩ ⟨env,heap⟩ K=aZ (nQ P T (ev env a) f) K:=(rfl)
theorem GL{T:a6}{x i:a8}:cW P ag ⟨dst,.indexAddr T x i,ty,pos,af,g⟩ ⟨env,heap⟩ K=aZ (nP P T heap (ev env x) (ev env i)) K:=(rfl)
theorem FO{T:a6}{x i:a8}:cW P ag ⟨dst,.index T x i,ty,pos,af,g⟩ ⟨env,heap⟩ K=aZ (qh P T (ev env x) (ev env i)) K:=(rfl)
theorem Nh{x:a8}{a:Array a6}:cW P ag ⟨dst,.call {callee:=.builtin .len,args:=#[x],argTypes:=a},ty,pos,af,g⟩ ⟨env,heap⟩ K=aZ (qR P (a.getD 0 0) a.size heap (ev env x)) K:=(rfl)
theorem Mb{f:a8}{args:List a8}{a:Array a6}:cW P ag ⟨dst,.call {callee:=.value f,args:=args.toArray,argTypes:=a},ty,pos,af,g⟩ ⟨env,heap⟩ K=pX P (ev env f) (args.map (ev env)) heap K:=(rfl)
theorem LS{x:a8}:cV P ag ⟨dst,.move x,ty,pos,af,g⟩ L ⟨env,heap⟩=dU dst ⟨env,heap⟩ L {v:=ev env x}:=(rfl)
theorem IP{x:a8}:cV P ag ⟨dst,.assign x,ty,pos,af,g⟩ L ⟨env,heap⟩=dU dst ⟨env,heap⟩ L {v:=ev env x}:=(rfl)
theorem LQ{c a b:a8}:cV P ag ⟨dst,.pick c a b,ty,pos,af,g⟩ L ⟨env,heap⟩=aZ (qx (ev env c) (ev env a) (ev env b)) (dU dst ⟨env,heap⟩ L):=(rfl)
theorem Kx{T:a6}:cV P ag ⟨dst,.alloc T,ty,pos,af,g⟩ L ⟨env,heap⟩=aZ (qf P T heap.length) (dU dst ⟨env,heap⟩ L):=(rfl)
theorem OQ{T:a6}{x:a8}:cV P ag ⟨dst,.box T x,ty,pos,af,g⟩ L ⟨env,heap⟩=aZ (sV P T heap.length (ev env x)) (dU dst ⟨env,heap⟩ L):=(rfl)
theorem Kw{T:a6}{a:Array (Nat×a8)}:cV P ag ⟨dst,.build T a,ty,pos,af,g⟩ L ⟨env,heap⟩=aZ (pY P T (a.toList.map fun(i,x)=>(i,ev env x))) (dU dst ⟨env,heap⟩ L):=(rfl)
theorem Gc{T:a6}{n:Nat}{a:Array (Nat×a8)}:cV P ag ⟨dst,.buildSlice T n a,ty,pos,af,g⟩ L ⟨env,heap⟩=aZ (ph P T n (a.toList.map fun(i,x)=>(i,ev env x)) heap.length) (dU dst ⟨env,heap⟩ L):=(rfl)
theorem LU{T:a6}{a:a8}:cV P ag ⟨dst,.load T a,ty,pos,af,g⟩ L ⟨env,heap⟩=aZ (oJ P T heap (ev env a)) (dU dst ⟨env,heap⟩ L):=(rfl)
theorem KK{T:a6}{a x:a8}:cV P ag ⟨dst,.store T a x,ty,pos,af,g⟩ L ⟨env,heap⟩=aZ (ov P T heap (ev env a) (ev env x)) (dU dst ⟨env,heap⟩ L):=(rfl)
theorem OP{op:be}{T a:a6}{x y:a8}:cV P ag ⟨dst,.binOp op T x y a,ty,pos,af,g⟩ L ⟨env,heap⟩=aZ (iJ P op T (lG y) heap (ev env x) (ev env y)) (dU dst ⟨env,heap⟩ L):=(rfl)
theorem OU{op:UnOp}{T:a6}{x:a8}:cV P ag ⟨dst,.unOp op T x,ty,pos,af,g⟩ L ⟨env,heap⟩=aZ (ri op (ev env x)) (dU dst ⟨env,heap⟩ L):=(rfl)
theorem LW{S D:a6}{x:a8}:cV P ag ⟨dst,.convert S D x,ty,pos,af,g⟩ L ⟨env,heap⟩=aZ (qm P S D heap (ev env x)) (dU dst ⟨env,heap⟩ L):=(rfl)
theorem HM{t:a8}{i:Nat}:cV P ag ⟨dst,.extract t i,ty,pos,af,g⟩ L ⟨env,heap⟩=aZ (pF (ev env t) i) (dU dst ⟨env,heap⟩ L):=(rfl)
theorem GC{T:a6}{a:a8}{f:Nat}:cV P ag ⟨dst,.fieldAddr T a f,ty,pos,af,g⟩ L ⟨env,heap⟩=aZ (nQ P T (ev env a) f) (dU dst ⟨env,heap⟩ L):=(rfl)
theorem GB{T:a6}{x i:a8}:cV P ag ⟨dst,.indexAddr T x i,ty,pos,af,g⟩ L ⟨env,heap⟩=aZ (nP P T heap (ev env x) (ev env i)) (dU dst ⟨env,heap⟩ L):=(rfl)
theorem Kv{T:a6}{x i:a8}:cV P ag ⟨dst,.index T x i,ty,pos,af,g⟩ L ⟨env,heap⟩=aZ (qh P T (ev env x) (ev env i)) (dU dst ⟨env,heap⟩ L):=(rfl)
theorem OR{x:a8}{a:Array a6}:cV P ag ⟨dst,.call {callee:=.builtin .len,args:=#[x],argTypes:=a},ty,pos,af,g⟩ L ⟨env,heap⟩=aZ (qR P (a.getD 0 0) a.size heap (ev env x)) (dU dst ⟨env,heap⟩ L):=(rfl)
theorem LX{f:a8}{args:List a8}{a:Array a6}:cV P ag ⟨dst,.call {callee:=.value f,args:=args.toArray,argTypes:=a},ty,pos,af,g⟩ L ⟨env,heap⟩=qo P (ev env f) (args.map (ev env)) heap (ze dst ⟨env,heap⟩ L):=(rfl)
theorem KU{T:a6}{x:a8}{lo hi:Option a8}:cW P ag ⟨dst,.slice T x lo hi none,ty,pos,af,g⟩ ⟨env,heap⟩ K=aZ (oA P T heap (ev env x) (lo.map (ev env)) (hi.map (ev env))) K:=(rfl)
theorem Kt{T:a6}{x:a8}{lo hi:Option a8}:cV P ag ⟨dst,.slice T x lo hi none,ty,pos,af,g⟩ L ⟨env,heap⟩=aZ (oA P T heap (ev env x) (lo.map (ev env)) (hi.map (ev env))) (dU dst ⟨env,heap⟩ L):=(rfl)
theorem Jw{T:a6}{x i:a8}{ok:Bool}:cW P ag ⟨dst,.lookup T x i ok,ty,pos,af,g⟩ ⟨env,heap⟩ K=aZ (qt P T heap (ev env x) (ev env i) ok) K:=(rfl)
theorem IL{T:a6}{x i:a8}{ok:Bool}:cV P ag ⟨dst,.lookup T x i ok,ty,pos,af,g⟩ L ⟨env,heap⟩=aZ (qt P T heap (ev env x) (ev env i) ok) (dU dst ⟨env,heap⟩ L):=(rfl)
theorem G0{T:a6}{m k x:a8}:cW P ag ⟨dst,.mapUpdate T m k x,ty,pos,af,g⟩ ⟨env,heap⟩ K=aZ (lF P T heap (ev env m) (ev env k) (ev env x)) K:=(rfl)
theorem Gz{T:a6}{m k x:a8}:cV P ag ⟨dst,.mapUpdate T m k x,ty,pos,af,g⟩ L ⟨env,heap⟩=aZ (lF P T heap (ev env m) (ev env k) (ev env x)) (dU dst ⟨env,heap⟩ L):=(rfl)
theorem Jx{T:a6}{m k x:a8}:cW P ag ⟨dst,.insert T m k x,ty,pos,af,g⟩ ⟨env,heap⟩ K=aZ (lF P T heap (ev env m) (ev env k) (ev env x)) K:=(rfl)
theorem IM{T:a6}{m k x:a8}:cV P ag ⟨dst,.insert T m k x,ty,pos,af,g⟩ L ⟨env,heap⟩=aZ (lF P T heap (ev env m) (ev env k) (ev env x)) (dU dst ⟨env,heap⟩ L):=(rfl)
theorem KW{T:a6}{x:a8}:cW P ag ⟨dst,.range T x,ty,pos,af,g⟩ ⟨env,heap⟩ K=aZ (pU P T heap.length (ev env x)) K:=(rfl)
theorem Ku{T:a6}{x:a8}:cV P ag ⟨dst,.range T x,ty,pos,af,g⟩ L ⟨env,heap⟩=aZ (pU P T heap.length (ev env x)) (dU dst ⟨env,heap⟩ L):=(rfl)
theorem Ms{it:a8}:cW P ag ⟨dst,.next it true,ty,pos,af,g⟩ ⟨env,heap⟩ K=aZ (qA heap (ev env it)) K:=(rfl)
theorem LR{it:a8}:cV P ag ⟨dst,.next it true,ty,pos,af,g⟩ L ⟨env,heap⟩=aZ (qA heap (ev env it)) (dU dst ⟨env,heap⟩ L):=(rfl)
theorem G1{T:a6}{l c:a8}:cW P ag ⟨dst,.makeSlice T l c,ty,pos,af,g⟩ ⟨env,heap⟩ K=aZ (qC P T heap.length (ev env l) (ev env c)) K:=(rfl)
theorem GA{T:a6}{l c:a8}:cV P ag ⟨dst,.makeSlice T l c,ty,pos,af,g⟩ L ⟨env,heap⟩=aZ (qC P T heap.length (ev env l) (ev env c)) (dU dst ⟨env,heap⟩ L):=(rfl)
theorem G4{x:a8}:cW P ag ⟨dst,.nilCheck x,ty,pos,af,g⟩ ⟨env,heap⟩ K=aZ (pO (ev env x)) K:=(rfl)
theorem Hu{x:a8}:cV P ag ⟨dst,.nilCheck x,ty,pos,af,g⟩ L ⟨env,heap⟩=aZ (pO (ev env x)) (dU dst ⟨env,heap⟩ L):=(rfl)
theorem Nj{args:Array a8}{a:Array a6}:cW P ag ⟨dst,.call {callee:=.builtin .min,args,argTypes:=a},ty,pos,af,g⟩ ⟨env,heap⟩ K=aZ (jU false (args.toList.map (ev env))) K:=(rfl)
theorem OT{args:Array a8}{a:Array a6}:cV P ag ⟨dst,.call {callee:=.builtin .min,args,argTypes:=a},ty,pos,af,g⟩ L ⟨env,heap⟩=aZ (jU false (args.toList.map (ev env))) (dU dst ⟨env,heap⟩ L):=(rfl)
theorem Ni{args:Array a8}{a:Array a6}:cW P ag ⟨dst,.call {callee:=.builtin .max,args,argTypes:=a},ty,pos,af,g⟩ ⟨env,heap⟩ K=aZ (jU true (args.toList.map (ev env))) K:=(rfl)
theorem OS{args:Array a8}{a:Array a6}:cV P ag ⟨dst,.call {callee:=.builtin .max,args,argTypes:=a},ty,pos,af,g⟩ L ⟨env,heap⟩=aZ (jU true (args.toList.map (ev env))) (dU dst ⟨env,heap⟩ L):=(rfl)
theorem ID{T:a6}:cW P ag ⟨dst,.makeMap T none,ty,pos,af,g⟩ ⟨env,heap⟩ K=K {v:=.map heap.length,aP:=[.map false []]}:=(rfl)
theorem Ip{T:a6}:cV P ag ⟨dst,.makeMap T none,ty,pos,af,g⟩ L ⟨env,heap⟩=dU dst ⟨env,heap⟩ L {v:=.map heap.length,aP:=[.map false []]}:=(rfl)
theorem Jz{s x:a8}{T X:a6}:cW P ag ⟨dst,.call {callee:=.builtin .append,args:=#[s,x],argTypes:=#[T,X]},ty,pos,af,g⟩ ⟨env,heap⟩ K=aZ (ou P T X heap (ev env s) (ev env x)) K:=by simp[cW,jV]
theorem IQ{s x:a8}{T X:a6}:cV P ag ⟨dst,.call {callee:=.builtin .append,args:=#[s,x],argTypes:=#[T,X]},ty,pos,af,g⟩ L ⟨env,heap⟩=aZ (ou P T X heap (ev env s) (ev env x)) (dU dst ⟨env,heap⟩ L):=by simp[cV,jV]
theorem L9{s x:a8}{T X:a6}:cW P ag ⟨dst,.call {callee:=.builtin .copy,args:=#[s,x],argTypes:=#[T,X]},ty,pos,af,g⟩ ⟨env,heap⟩ K=aZ (copyV P T heap (ev env s) (ev env x)) K:=by simp[cW,jV]
theorem LV{s x:a8}{T X:a6}:cV P ag ⟨dst,.call {callee:=.builtin .copy,args:=#[s,x],argTypes:=#[T,X]},ty,pos,af,g⟩ L ⟨env,heap⟩=aZ (copyV P T heap (ev env s) (ev env x)) (dU dst ⟨env,heap⟩ L):=by simp[cV,jV]
theorem Nb{f:bb}{fi ca:List AV}{args:List AV}{M:AV->Heap->Prop}:qo P (.func f fi ca) args heap M=gz P false f (fi++args++ca) heap M:=(rfl)
theorem Mc{f:bb}{fi ca:List AV}{args:List AV}:pX P (.func f fi ca) args heap K=gF P f (fi++args++ca) heap K:=(rfl)
theorem Nc{f:bb}{fi ca:List PV}{args:List AV}{M:AV->Heap->Prop}:qo P (.p (.func f fi ca)) args heap M=gz P false f (fi.map .p++args++ca.map .p) heap M:=(rfl)
theorem Nd{f:bb}{fi ca:List PV}{args:List AV}:pX P (.p (.func f fi ca)) args heap K=gF P f (fi.map .p++args++ca.map .p) heap K:=(rfl)
end ops
section
variable{P:a7}
@[simp] theorem aHk{b:Bool}:aJ (.bool b)=.leaf:=(rfl)
@[simp] theorem aIs{k:bk}{n:Int}:aJ (.int k n)=.leaf:=(rfl)
@[simp] theorem aIB{l:List Nat}:aJ (.str l)=.leaf:=(rfl)
@[simp] theorem aIv:aJ .aR=.leaf:=(rfl)
@[simp] theorem aIx{l:List PV}:aJ (.seq l)=.leaf:=(rfl)
@[simp] theorem aIz{u:a6}{fs:List PV}:aJ (.st u fs)=.agg u:=(rfl)
@[simp] theorem aHg{v:PV}:ad (.p v)=aJ v:=(rfl)
@[simp] theorem aHi{u:a6}{fs:List AV}:ad (.st u fs)=.agg u:=(rfl)
@[simp] theorem aHh{b v e o l:Nat}:ad (.sl b v e o l)=.leaf:=(rfl)
@[simp] theorem aF6{u:a6}{fs:List PV}:cj (.st u fs)=fs:=(rfl)
theorem T9{a:List bo}{Q:PV->Prop}{s:St}:yM P a Q .ret s=∃vs,fq P s a=some vs/\∃v,dV s.heap 9 (oneOf vs)=some v/\Q v:=by simp[yM]
theorem RN{a:List bo}{Q:PV->Prop}{s:St}:yM P a Q .normal s=∃vs,fq P s a=some vs/\∃v,dV s.heap 9 (oneOf vs)=some v/\Q v:=by simp[yM]
attribute [simp] T9 RN iG Ly Kn Lz Pk Kl LA Km Pm Ko LB GK Ia I7 G7 JA La KI Lx Kk Lv Ki Jd Jc
 Mt Jy Mr KY Ng KX Gj L8 KS Nf Nk Ma IE GM GL FO Nh Mb
 LS IP LQ Kx OQ Kw Gc LU KK OP OU LW HM GC GB Kv OR LX Nc Nd KU Kt Jw IL G0 Gz Jx IM KW Ku Ms LR G1 GA G4 Hu Nj OT Ni OS ID Ip Jz IQ L9 LV Nb Mc ou jP oA qt lF pU qA qC copyV pO jU gq dh eS fe iI oR lg so gk gT kU Tk TV
 Q0 Sp Ty QP Rz Ta
 aK put ib ev ofConst br gA gJ mW eE jZ fC gG eB qx qf sV iK pY ph iJ tf Dx ri qm pF qh qR oJ ov nQ nP lenOf gC gS kT bB
 lG fq oB oneOf dV
end
section
variable{P:a7}{ag:bb->Bool}
def sE:iN->iN->Bool
 | .leaf,.leaf=>true
 | .agg u,.agg v=>ey u v
 |_,_=>false
theorem ic{a b:iN}(h:sE a b=true):a=b/\b≠.bad:=by
 cases a<;>cases b<;>simp_all [sE]
def kE:AK->AK->Bool
 | .exact,.exact| .grow,.grow| .frozen,.frozen| .bytes,.bytes=>true
 |_,_=>false
def vL:AK->Bool
 | .frozen=>false
 |_=>true
theorem Cn{k:AK}(h:vL k=true):k≠.frozen:=by cases k<;>simp_all [vL]
def ny(k:AK)(a:List AV):Bool:=match k.gr,a with
 |true,[]=>false
 |_,_=>true
theorem uY{k:AK}{a:List AV}(h:ny k a=true):¬(k.gr=true/\a=[]):=by
 rintro⟨b,rfl⟩;simp[ny,b]at h
theorem c7{a b:Nat}(h:ey a b=true):a=b:=Nat.eq_of_beq_eq_true h
theorem cK{a b:Nat}(h:e6 a b=true):a<=b:=Nat.le_of_ble_eq_true h
def NC:bk->bk->Bool:=fun a b=>decide (a=b)
def uZ(P:a7)(l:List Nat):List (Nat×AV)->Bool
 |[]=>true
 |(i,v)::r=>(match l[i]? with
  |some n=>ey (bB P (ad v)) n&&(match ad v with
   | .bad=>false
   |_=>true)
  |none=>false)&&uZ P l r
theorem AG{l:List Nat}:∀{r:List (Nat×AV)},uZ P l r=true->kT P l r
 |[],_=>trivial
 |(i,v)::r,h=>by
  simp only[uZ,a0]at h;refine⟨?_,AG h.2⟩;have a:=h.1
  split at a
  ·rename_i n c;simp only[a0]at a;refine⟨n,c,c7 a.1,fun b=>?_⟩;rw[b]at a;simp at a
  ·simp at a
def oK(P:a7)(sz:Nat):List AV->Bool
 |[]=>true
 |v::r=>(match ad v with
  | .bad=>false
  |s=>ey (bB P s) sz)&&oK P sz r
theorem sx{sz:Nat}:∀{r:List AV},oK P sz r=true->eS P sz r
 |[],_=>trivial
 |v::r,h=>by
  simp only[oK,a0]at h;refine⟨?_,sx h.2⟩;have a:=h.1
  split at a
  ·simp at a
  ·rename_i b;exact⟨b,c7 a⟩
def Df(P:a7)(T:a6)(H:Heap)(a:AV):Option aS:=
 match a with
 | .ptr b path=>match H[b]? with
  |some (.box fz t)=>match eE t path with
   |some s=>bif sE (kindOf P T) (ad s)then some {v:=s,aj:=[(b,.box fz t)]}else none
   |none=>none
  |_=>none
 | .bQ b ar ai i path=>match H[b]? with
  |some (.arr k d c es)=>bif ey ar d&&ey ai c then match es[i]? with
   |some x=>match eE x path with
    |some s=>bif sE (kindOf P T) (ad s)then some {v:=s,aj:=[(b,.arr k d c es)]}else none
    |none=>none
   |none=>none
   else none
  |_=>none
 | .p (.b6 t)=>bif sE (kindOf P T) (aJ t)then some {v:=.p t}else none
 |_=>none
theorem Vg{T:a6}{H:Heap}{a:AV}{e:aS}{K:aS->Prop}(h:Df P T H a=some e)(hk:K e):nj P T H a K:=by
 unfold Df at h;unfold nj
 split at h
 ·split at h
  ·split at h
   ·rename_i hs;simp only[aT,fl,fv]at h;rename_i c _ _;obtain⟨b,rfl⟩:=h;simp only[c,hs];exact⟨(ic b).1,hk⟩
   ·simp at h
  ·simp at h
 ·split at h
  ·rename_i c;simp only[aT,fl,a0]at h;obtain⟨⟨b,d⟩,h⟩:=h
   split at h
   ·rename_i hx
    split at h
    ·rename_i hs;simp only[fl,fv]at h;obtain⟨f,rfl⟩:=h;obtain⟨hi,rfl⟩:=cy.1 hx;simp only[c];refine⟨c7 b,c7 d,hi,?_⟩;simp only[hs];exact⟨(ic f).1,hk⟩
    ·simp at h
   ·simp at h
  ·simp at h
 ·simp only[aT,fl,fv]at h;obtain⟨b,rfl⟩:=h;exact⟨(ic b).1,hk⟩
 ·simp at h
def Ce(P:a7)(T:a6)(H:Heap)(a x:AV):Option aS:=
 bif sE (kindOf P T) (ad x)then match a with
 | .ptr b path=>match H[b]? with
  |some (.box false t)=>match eE t path,fC t path x with
   |some s,some d=>bif sE (ad s) (ad x)then some {v:=.p (.aE []),aj:=[(b,.box false t)],aI:=[(b,.box false d)]}else none
   |_,_=>none
  |_=>none
 | .bQ b ar ai i path=>match H[b]? with
  |some (.arr k e c es)=>bif ey ar e&&(ey ai c&&vL k)then match es[i]? with
   |some y=>match eE y path,fC y path x with
    |some s,some d=>bif sE (ad s) (ad x)then some {v:=.p (.aE []),aj:=[(b,.arr k e c es)],aI:=[(b,.arr k e c (es.set i d))]}else none
    |_,_=>none
   |none=>none
   else none
  |_=>none
 |_=>none
 else none
theorem To{T:a6}{H:Heap}{a x:AV}{e:aS}{K:aS->Prop}(h:Ce P T H a x=some e)(hk:K e):mT P T H a x K:=by
 unfold Ce at h;unfold mT;simp only[aT,fl]at h;obtain⟨f,h⟩:=h;refine⟨(ic f).1,(ic f).2,?_⟩
 split at h
 ·split at h
  ·rename_i c
   split at h
   ·rename_i hs d;simp only[fl,fv]at h;obtain⟨b,rfl⟩:=h;simp only[c,hs,d];exact⟨(ic b).1,hk⟩
   ·simp at h
  ·simp at h
 ·split at h
  ·rename_i c;simp only[fl,a0]at h;obtain⟨⟨b,g,i⟩,h⟩:=h
   split at h
   ·rename_i k
    split at h
    ·rename_i hs d;simp only[fl,fv]at h;obtain⟨j,rfl⟩:=h;obtain⟨hi,rfl⟩:=cy.1 k;simp only[c];refine⟨c7 b,c7 g,Cn i,hi,?_⟩;simp only[hs,d];exact⟨(ic j).1,hk⟩
    ·simp at h
   ·simp at h
  ·simp at h
 ·simp at h
def C6(op:be)(k:bk)(a b:Int):Option PV:=
 match op with
 | .add=>some (.int k (k.wrap (a+b)))
 | .sub=>some (.int k (k.wrap (a-b)))
 | .mul=>some (.int k (k.wrap (a*b)))
 | .quo=>match b with
  | .ofNat 0=>none
  |b=>some (.int k (k.wrap (a.tdiv b)))
 | .rem=>match b with
  | .ofNat 0=>none
  |b=>some (.int k (a.tmod b))
 | .and=>some (.int k (k.wrap (ay k.bits a&&&ay k.bits b).toNat))
 | .or=>some (.int k (k.wrap (ay k.bits a|||ay k.bits b).toNat))
 | .xor=>some (.int k (k.wrap (ay k.bits a^^^ay k.bits b).toNat))
 | .andNot=>some (.int k (k.wrap (ay k.bits a&&&~~~ay k.bits b).toNat))
 | .eql=>some (.bool (a==b))
 | .neq=>some (.bool (a !=b))
 | .lss=>some (.bool (decide (a<b)))
 | .leq=>some (.bool (decide (a<=b)))
 | .gtr=>some (.bool (decide (a>b)))
 | .geq=>some (.bool (decide (a>=b)))
 | .shl=>match b with
  | .ofNat _=>some (.int k (k.wrap (a*2^(min b.toNat k.bits))))
  |_=>none
 | .shr=>match b with
  | .ofNat _=>some (.int k (a.fdiv (2^(min b.toNat k.bits))))
  |_=>none
theorem Yj{op:be}{k:bk}{a b:Int}{v:PV}{K:PV->Prop}(h:C6 op k a b=some v)(hk:K v):oI op k a b K:=by
 cases op<;>simp only[C6]at h<;>simp only[oI]
 case quo|rem=>
  split at h
  ·simp at h
  ·rename_i d;simp only[fv]at h;subst h;exact⟨fun c=>d (by rw[c];rfl),hk⟩
 case shl|shr=>
  split at h
  ·simp only[fv]at h;subst h;exact⟨cc _,hk⟩
  ·simp at h
 all_goals (simp only[fv]at h;subst h;exact hk)
def CM(P:a7)(op:be)(T:a6)(c:Bool)(H:Heap)(x y:AV):Option PV:=
 match x,y with
 | .p (.int k a),.p (.int d b)=>bif NC k d||(match op with
  | .shl| .shr=>true
  |_=>false)then C6 op k a b else none
 | .p (.str a),.p (.str b)=>match op with
  | .add=>bif e6 (a.length+b.length) 9223372036854775807 then some (.str (a++b))else none
  | .eql=>some (.bool (a==b))
  | .neq=>some (.bool (!(a==b)))
  | .lss=>some (.bool (iE a b))
  | .leq=>some (.bool (iE a b||a==b))
  | .gtr=>some (.bool (!(iE a b||a==b)))
  | .geq=>some (.bool (!(iE a b)))
  |_=>none
 | .p (.bool a),.p (.bool b)=>bif pR P T then match op with
  | .eql=>some (.bool (a==b))
  | .neq=>some (.bool (!(a==b)))
  |_=>none
  else none
 | .p (.st u fs),.p (.st u' gs)=>bif sZ P T then match ie P 9 T (.st u fs) (.st u' gs),op with
  |some r,.eql=>some (.bool r)
  |some r,.neq=>some (.bool !r)
  |_,_=>none
  else none
 |x,y=>match df P T c y with
  |some k=>match cG H k x,op with
   |some r,.eql=>some (.bool r)
   |some r,.neq=>some (.bool !r)
   |_,_=>none
  |none=>none
theorem Wi{op:be}{T:a6}{c:Bool}{H:Heap}{x y:AV}{v:PV}{K:PV->Prop}(h:CM P op T c H x y=some v)(hk:K v):jK P op T c H x y K:=by
 unfold CM at h;unfold jK
 split at h
 ·simp only[aT,fl,Bool.or_eq_true,NC,decide_eq_true_eq]at h;refine⟨?_,Yj h.2 hk⟩;rcases h.1 with b|b
  ·exact .inl b
  ·cases op<;>simp at b<;>simp
 ·split at h<;>simp only[oH]
  ·simp only[aT,fl,fv]at h;obtain⟨b,rfl⟩:=h;exact⟨by have:=cK b;omega,hk⟩
  ·simp only[fv]at h;subst h;exact hk
  ·simp only[fv]at h;subst h;exact hk
  ·simp only[fv]at h;subst h;exact hk
  ·simp only[fv]at h;subst h;exact hk
  ·simp only[fv]at h;subst h;exact hk
  ·simp only[fv]at h;subst h;exact hk
  ·simp at h
 ·simp only[aT,fl]at h;refine⟨h.1,?_⟩;have a:=h.2
  split at a
  ·simp only[fv]at a;subst a;exact hk
  ·simp only[fv]at a;subst a;exact hk
  ·simp at a
 ·simp only[aT,fl]at h;refine⟨h.1,?_⟩;have a:=h.2
  split at a
  ·rename_i d;simp only[fv]at a;subst a;simp only[d];exact hk
  ·rename_i d;simp only[fv]at a;subst a;simp only[d];exact hk
  ·simp at a
 ·split at h
  case h_2=>simp at h
  rename_i k f;show jK P op T c H x y _;rw[Is f];obtain⟨r,e,d⟩:∃r,cG H k x=some r/\((op=.eql/\v=.bool r)\/(op=.neq/\v=.bool !r)):=by
   revert h;generalize cG H k x=q;intro h;cases q with
   |none=>simp at h
   |some r=>cases op<;>simp at h<;>exact⟨r,rfl,by simp[h]⟩
  rw[e];rcases d with⟨rfl,rfl⟩|⟨rfl,rfl⟩<;>exact hk
def Av(P:a7)(T:a6)(a:AV)(f:Nat):Option aS:=
 match fM P T with
 |some (u,n)=>bif e6 (f+1) n then match a with
  | .ptr b path=>some {v:=.ptr b (path++[(u,f)])}
  | .bQ b ar ai i path=>some {v:=.bQ b ar ai i (path++[(u,f)])}
  | .p (.b6 t)=>bif sE (aJ t) (.agg u)then match(cj t)[f]? with
   |some g=>some {v:=.p (.b6 g)}
   |none=>none
   else none
  |_=>none
  else none
 |_=>none
theorem QT{T:a6}{a:AV}{f:Nat}{e:aS}{K:aS->Prop}(h:Av P T a f=some e)(hk:K e):mK P T a f K:=by
 unfold Av at h;unfold mK
 split at h
 ·rename_i hs;simp only[aT,fl]at h;obtain⟨b,h⟩:=h;simp only[hs];refine⟨by have:=cK b;omega,?_⟩
  split at h
  ·simp only[fv]at h;subst h;exact hk
  ·simp only[fv]at h;subst h;exact hk
  ·simp only[fl]at h;obtain⟨c,h⟩:=h
   split at h
   ·rename_i d;simp only[fv]at h;subst h;simp only[d];exact⟨(ic c).1,hk⟩
   ·simp at h
  ·simp at h
 ·simp at h
def oE(a:Option Nat)(b:Nat):Bool:=match a with
 |some x=>ey x b
 |none=>false
theorem vm{a:Option Nat}{b:Nat}(h:oE a b=true):a=some b:=by
 unfold oE at h;split at h
 ·rw[c7 h]
 ·simp at h
def Ar(P:a7)(T:a6)(H:Heap)(x i:AV):Option aS:=
 match i with
 | .p (.int _ (.ofNat i))=>match x with
  | .p (.bH _ es)=>match es[i]? with
   |some y=>bif oE (cz P T) (bB P (aJ y))then some {v:=.p (.b6 y)}else none
   |none=>none
  | .p (.seq es)=>match es[i]? with
   |some y=>bif oE (cz P T) (bB P (aJ y))then some {v:=.p (.b6 y)}else none
   |none=>none
  | .sl b ar ai off len=>bif oE (cz P T) ai&&e6 (i+1) len then match H[b]? with
   |some (.arr k c a es)=>bif ey ar c&&(ey ai a&&ny k es)then some {v:=.bQ b ar ai (off+i) [],aj:=[(b,.arr k c a es)]}else none
   |_=>none
   else none
  | .ptr b path=>match fY P T with
   |some (u,n)=>bif e6 (i+1) n then some {v:=.ptr b (path++[(u,i)])}else none
   |_=>none
  | .bQ b ar ai j path=>match fY P T with
   |some (u,n)=>bif e6 (i+1) n then some {v:=.bQ b ar ai j (path++[(u,i)])}else none
   |_=>none
  | .p (.b6 t)=>match fY P T with
   |some (u,n)=>bif sE (aJ t) (.agg u)&&e6 (i+1) n then match(cj t)[i]? with
    |some g=>some {v:=.p (.b6 g)}
    |none=>none
    else none
   |_=>none
  |_=>none
 |_=>none
theorem Q7{T:a6}{H:Heap}{x i:AV}{e:aS}{K:aS->Prop}(h:Ar P T H x i=some e)(hk:K e):mJ P T H x i K:=by
 unfold Ar at h;unfold mJ
 split at h
 case h_2=>simp at h
 rename_i i;refine⟨cc _,?_⟩;simp only[ce,ck]
 split at h
 ·split at h
  ·rename_i y d;simp only[aT,fl,fv]at h;obtain⟨a,rfl⟩:=h;obtain⟨hi,rfl⟩:=cy.1 d;exact⟨hi,vm a,hk⟩
  ·simp at h
 ·split at h
  ·rename_i y d;simp only[aT,fl,fv]at h;obtain⟨a,rfl⟩:=h;obtain⟨hi,rfl⟩:=cy.1 d;exact⟨hi,vm a,hk⟩
  ·simp at h
 ·simp only[aT,fl,a0]at h;obtain⟨⟨a,c⟩,h⟩:=h;refine⟨vm a,by have:=cK c;omega,?_⟩
  split at h
  ·rename_i k;simp only[fl,fv]at h;obtain⟨⟨f,g,j⟩,rfl⟩:=h;simp only[k];exact⟨c7 f,c7 g,uY j,hk⟩
  ·simp at h
 ·split at h
  ·rename_i b;simp only[aT,fl,fv]at h;obtain⟨a,rfl⟩:=h;simp only[b];exact⟨by have:=cK a;omega,hk⟩
  ·simp at h
 ·split at h
  ·rename_i b;simp only[aT,fl,fv]at h;obtain⟨a,rfl⟩:=h;simp only[b];exact⟨by have:=cK a;omega,hk⟩
  ·simp at h
 ·split at h
  ·rename_i b;simp only[aT,fl,a0]at h;obtain⟨⟨a,c⟩,h⟩:=h
   split at h
   ·rename_i l;simp only[fv]at h;subst h;simp only[b,l];exact⟨(ic a).1,by have:=cK c;omega,hk⟩
   ·simp at h
  ·simp at h
 ·simp at h
def B6(P:a7)(T X:a6)(H:Heap)(s x:AV):Option aS:=
 match cz P T,gq H x with
 |some sz,some xs=>bif iy P X&&((cE P (ez P T)).isSome&&oK P sz xs)then
  match s with
  | .p .aR=>match xs with
   |[]=>some {v:=s,aj:=dh H x}
   |y::r=>bif e6 (y::r).length cU then some {v:=.sl H.length 0 sz 0 (y::r).length,aj:=dh H x,aP:=[.arr (gk P T) 0 sz (y::r)]}else none
  | .p (.bH full es)=>bif oK P sz (es.map .p)then match xs with
   |[]=>some {v:=s,aj:=dh H x}
   |y::r=>bif full&&e6 (es.length+(y::r).length) cU then
    some {v:=.sl H.length 0 sz 0 (es.length+(y::r).length),aj:=dh H x,aP:=[.arr (gk P T) 0 sz (es.map .p++(y::r))]}else none
   else none
  | .sl b ar ai off len=>match H[b]? with
   |some (.arr k c a es)=>bif ey ar c&&(ey ai a&&(ey ai sz&&e6 (off+len) es.length))then
    match xs with
    |[]=>some {v:=s,aj:=(b,.arr k c a es)::dh H x}
    |y::r=>bif e6 (es.length+(y::r).length) cU then match k with
     | .frozen=>none
     | .exact=>bif e6 (off+len+(y::r).length) es.length then
      some {v:=.sl b ar ai off (len+(y::r).length),aj:=(b,.arr .exact c a es)::dh H x,aI:=[(b,.arr .exact ar ai (es.take (off+len)++(y::r)++es.drop (off+len+(y::r).length)))]}
      else some {v:=.sl H.length 0 sz 0 (len+(y::r).length),aj:=(b,.arr .exact c a es)::dh H x,aP:=[.arr (gk P T) 0 sz ((es.drop off).take len++(y::r))]}
     | .grow=>bif ey off 0 then some {v:=.sl b (ar+1) ai 0 (len+(y::r).length),aj:=(b,.arr .grow c a es)::dh H x,aI:=[(b,.arr .grow (ar+1) ai (es.take len++(y::r)))]}else none
     | .bytes=>bif ey off 0&&ey (ez P T) Gl.u8 then some {v:=.sl b (ar+1) ai 0 (len+(y::r).length),aj:=(b,.arr .bytes c a es)::dh H x,aI:=[(b,.arr .bytes (ar+1) ai (es.take len++(y::r)))]}else none
     else none
    else none
   |_=>none
  |_=>none
  else none
 |_,_=>none
theorem Qj{T X:a6}{H:Heap}{s x:AV}{e:aS}{K:aS->Prop}(h:B6 P T X H s x=some e)(hk:K e):mN P T X H s x K:=by
 unfold B6 at h;unfold mN
 split at h
 case h_2=>simp at h
 rename_i sz r n p;simp only[aT,fl,a0]at h;obtain⟨⟨g,j,k⟩,h⟩:=h;simp only[n,p];refine⟨g,j,sx k,?_⟩
 split at h
 ·split at h
  ·simp only[fv]at h;subst h;simpa using hk
  ·simp only[fl,fv]at h;obtain⟨a,rfl⟩:=h;simp only[dp,a1,if_false];exact⟨cK a,hk⟩
 ·simp only[fl]at h;obtain⟨a,h⟩:=h;refine⟨sx a,?_⟩
  split at h
  ·simp only[fv]at h;subst h;simpa using hk
  ·simp only[fl,fv]at h;obtain⟨⟨b,c⟩,rfl⟩:=h;simp only[dp,a1,if_false];exact⟨b,cK c,hk⟩
 ·split at h
  case h_2=>simp at h
  rename_i o;simp only[fl]at h;obtain⟨⟨a,b,c,l⟩,h⟩:=h;simp only[o];refine⟨c7 a,c7 b,c7 c,cK l,?_⟩
  split at h
  ·simp only[fv]at h;subst h;simpa using hk
  ·simp only[fl]at h;obtain⟨m,h⟩:=h;simp only[dp,a1,if_false];refine⟨cK m,?_⟩
   split at h
   ·simp at h
   ·split at h
    ·rename_i f;simp only[fv]at h;subst h;simp only[cK f,if_true];exact hk
    ·rename_i f;simp only[fv]at h;subst h;rw[if_neg (fun q=>f (e7 q))];exact hk
   ·simp only[fl,fv]at h;obtain⟨d,rfl⟩:=h;exact⟨c7 d,(fun h=>by cases h),hk⟩
   ·simp only[fl,fv]at h;obtain⟨⟨d,i⟩,rfl⟩:=h;exact⟨c7 d,fun _=>c7 i,hk⟩
 ·simp at h
end
section
variable{P:a7}{ag:bb->Bool}
def iY(x:Option AV)(d:Nat):Option Nat:=
 match x with
 |none=>some d
 |some (.p (.int _ (.ofNat i)))=>some i
 |_=>none
theorem jG{x:Option AV}{d n:Nat}{K:Nat->Prop}(h:iY x d=some n)(hk:K n):fW x d K:=by
 unfold iY at h;unfold fW
 split at h
 ·simp only[fv]at h;subst h;exact hk
 ·simp only[fv]at h;subst h;exact⟨cc _,hk⟩
 ·simp at h
def Cg(P:a7)(T:a6)(H:Heap)(x:AV)(lo hi e:Option AV):Option aS:=
 match e with
 |some _=>none
 |none=>match x with
  | .p (.str s)=>match iY hi s.length,iY lo 0 with
   |some h,some l=>bif gT P T&&(e6 h s.length&&e6 l h)then some {v:=.p (.str ((s.take h).drop l))}else none
   |_,_=>none
  | .p .aR=>match iY hi 0,iY lo 0 with
   |some h,some l=>bif (cz P T).isSome&&(e6 h 0&&e6 l h)then some {v:=x}else none
   |_,_=>none
  | .p (.bH full es)=>match iY hi es.length,iY lo 0,cz P T with
   |some h,some l,some sz=>bif e6 h es.length&&(e6 l h&&oK P sz (es.map .p))then some {v:=.p (.bH (full&&h==es.length) ((es.take h).drop l))}else none
   |_,_,_=>none
  | .p (.seq es)=>match iY hi es.length,iY lo 0,cz P T with
   |some h,some l,some sz=>bif e6 h es.length&&(e6 l h&&oK P sz (es.map .p))then some {v:=.p (.seq ((es.take h).drop l))}else none
   |_,_,_=>none
  | .sl b ar ai off len=>match H[b]? with
   |some (.arr k c a es)=>match iY hi len,iY lo 0 with
    |some h,some l=>bif ey ar c&&(ey ai a&&(oE (cz P T) ai&&(ny k es&&(e6 (off+len) es.length&&(e6 (off+h) es.length&&e6 l h)))))then
     match l with
     |0=>some {v:=.sl b ar ai off h,aj:=[(b,.arr k c a es)]}
     |d+1=>bif ey (d+1) h then some {v:=.p (.bH false []),aj:=[(b,.arr k c a es)]}else some {v:=.sl b ar ai (off+(d+1)) (h-(d+1)),aj:=[(b,.arr k c a es)]}
     else none
    |_,_=>none
   |_=>none
  |_=>none
theorem Tu{T:a6}{H:Heap}{x:AV}{lo hi j:Option AV}{e:aS}{K:aS->Prop}(h:Cg P T H x lo hi j=some e)(hk:K e):mU P T H x lo hi j K:=by
 unfold Cg at h;unfold mU
 split at h
 ·simp at h
 refine⟨rfl,?_⟩
 split at h
 ·split at h
  case h_2=>simp at h
  rename_i a b;simp only[aT,fl,a0,fv]at h;obtain⟨⟨c,d,f⟩,rfl⟩:=h;exact⟨c,jG a (jG b ⟨cK d,cK f,hk⟩)⟩
 ·split at h
  case h_2=>simp at h
  rename_i a b;simp only[aT,fl,a0,fv]at h;obtain⟨⟨c,d,f⟩,rfl⟩:=h;exact⟨c,jG a (jG b ⟨cK d,cK f,hk⟩)⟩
 ·split at h
  case h_2=>simp at h
  rename_i a b c;simp only[aT,fl,a0,fv]at h;obtain⟨⟨d,f,g⟩,rfl⟩:=h;refine jG a (jG b ⟨cK d,cK f,?_⟩);simp only[c];exact⟨sx g,hk⟩
 ·split at h
  case h_2=>simp at h
  rename_i a b c;simp only[aT,fl,a0,fv]at h;obtain⟨⟨d,f,g⟩,rfl⟩:=h;refine jG a (jG b ⟨cK d,cK f,?_⟩);simp only[c];exact⟨sx g,hk⟩
 ·split at h
  case h_2=>simp at h
  rename_i n
  split at h
  case h_2=>simp at h
  rename_i a b;simp only[aT,fl,a0]at h;obtain⟨⟨c,d,f,g,k,l,m⟩,h⟩:=h;simp only[n];refine⟨c7 c,c7 d,vm f,uY g,cK k,jG a (jG b ⟨cK l,cK m,?_⟩)⟩
  split at h
  ·simp only[fv]at h;subst h;simpa using hk
  ·rw[if_neg (by omega)]
   split at h
   ·rename_i i;simp only[fv]at h;subst h;rw[if_pos (c7 i)];exact hk
   ·rename_i i;simp only[fv]at h;subst h;rw[if_neg (fun e=>i (by rw[<-e];exact fd _))];exact hk
 ·simp at h
def BB(P:a7)(T:a6)(H:Heap)(x:AV)(lo hi:Option AV)(m:AV):Option aS:=
 match x with
 | .sl b ar ai off len=>match H[b]? with
  |some (.arr k c a es)=>match iY hi len,iY lo 0,iY (some m) 0 with
   |some h,some l,some m=>bif ey ar c&&(ey ai a&&((cz P T).isSome&&(ny k es&&(e6 (off+len) es.length&&(hi.isSome&&(e6 (off+m) es.length&&(e6 h m&&e6 l h)))))))then
    some {v:=.p .undef,aj:=[(b,.arr k c a es)]}else none
   |_,_,_=>none
  |_=>none
 |_=>none
theorem S5{T:a6}{H:Heap}{x:AV}{lo hi:Option AV}{m:AV}{e:aS}{K:aS->Prop}(h:BB P T H x lo hi m=some e)(hk:K e):pC P T H x lo hi m K:=by
 unfold BB at h;unfold pC
 split at h
 case h_2=>simp at h
 split at h
 case h_2=>simp at h
 rename_i d
 split at h
 case h_2=>simp at h
 rename_i a b c;simp only[aT,fl,a0,fv]at h;obtain⟨⟨g1,g2,g3,g4,g5,g6,g7,g8,g9⟩,rfl⟩:=h;simp only[d];exact⟨c7 g1,c7 g2,g3,uY g4,cK g5,g6,jG a (jG b (jG c ⟨cK g7,cK g8,cK g9,hk⟩))⟩
def yC(ok:Bool)(z:PV)(r:Option PV):PV:=
 match r with
 |some v=>bif ok then .aE [v,.bool true]else v
 |none=>bif ok then .aE [z,.bool false]else z
def azJ(ok:Bool)(z:PV)(r:Option AV):AV:=
 match r with
 |some v=>bif ok then .aE [v,.p (.bool true)]else v
 |none=>.p (bif ok then .aE [z,.bool false]else z)
def Ks(P:a7)(T:a6)(H:Heap)(x i:AV)(ok:Bool):Option aS:=
 match iI P T,i with
 |some (a,E),.p key=>match cE P E with
  |some z=>bif fe P a key then match x with
   | .p .fh=>some {v:=.p (yC ok z none)}
   | .p (.eL es)=>match fF P a es key with
    |some r=>some {v:=.p (yC ok z r)}
    |none=>none
   | .map b=>match H[b]? with
    |some (.map fz es)=>match fF P a es key with
     |some r=>some {v:=.p (yC ok z r),aj:=[(b,.map fz es)]}
     |none=>none
    |some (.cZ ks vs)=>bif mB key then match kg P a ks vs key with
     |some r=>some {v:=azJ ok z r,aj:=[(b,.cZ ks vs)]}
     |none=>none
     else none
    |_=>none
   |_=>none
   else none
  |none=>none
 |_,_=>none
def y7(P:a7)(c:a6)(b:Nat)(key:PV)(x:AV)(a:Obj):Option aS:=
 match ru a with
 |some (ks,vs)=>bif mB key then match kg P c ks vs key with
  |some none=>some {v:=.p (.aE []),aj:=[(b,a)],aI:=[(b,.cZ (ks++[key]) (vs++[x]))]}
  |_=>none
  else none
 |none=>none
theorem zL{P:a7}{a:a6}{b:Nat}{key:PV}{x:AV}{c:Obj}{e:aS}{K:aS->Prop}(h:y7 P a b key x c=some e)(hk:K e):nJ P a b key x c K:=by
 unfold y7 at h;unfold nJ
 split at h
 ·rename_i ks vs f;simp only[aT,fl]at h;obtain⟨d,h⟩:=h
  split at h
  ·rename_i g;simp only[fv]at h;subst h;simp only[f];exact⟨d,g,hk⟩
  ·cases h
 ·cases h
def Kp(P:a7)(T:a6)(H:Heap)(m k x:AV):Option aS:=
 match iI P T,m,k with
 |some (a,_),.map b,.p key=>bif fe P a key then match H[b]? with
  |some (.map false es)=>match x with
   | .p v=>match lg P a es key with
    |some _=>some {v:=.p (.aE []),aj:=[(b,.map false es)],aI:=[(b,.map false (fV es key v))]}
    |none=>none
   |x=>y7 P a b key x (.map false es)
  |some (.cZ ks vs)=>y7 P a b key x (.cZ ks vs)
  |_=>none
  else none
 |_,_,_=>none
def OG(H:Heap)(it:AV):Option aS:=
 match it with
 | .ptr b []=>match H[b]? with
  |some (.dd s pos)=>bif e6 (pos+1) s.length then
   some {v:=.p (.aE [.bool true,.int .i64 pos,.int .i32 (cb (fR s) pos).1]),aj:=[(b,.dd s pos)],aI:=[(b,.dd s (pos+(cb (fR s) pos).2))]}
   else some {v:=.p (.aE [.bool false]),aj:=[(b,.dd s pos)]}
  |_=>none
 |_=>none
def Jk(P:a7)(H:Heap)(b:Builtin)(c:Array a6)(args:List AV):Option aS:=
 match b,args with
 | .len,[x]=>match lenOf H x with
  |some (n,aj)=>bif gC P (c.getD 0 0) x&&e6 1 c.size then some {v:=.p (.int .i64 n),aj}else none
  |none=>none
 | .append,[s,x]=>bif ey c.size 2 then B6 P (c.getD 0 0) (c.getD 1 0) H s x else none
 | .min,.p (.int k a)::r=>match kU k false r a with
  |some n=>some {v:=.p (.int k n)}
  |none=>none
 | .max,.p (.int k a)::r=>match kU k true r a with
  |some n=>some {v:=.p (.int k n)}
  |none=>none
 | .copy,[d,x]=>match cz P (c.getD 0 0),d,gq H x with
  |some sz,.sl b ar ai off len,some xs=>bif ey ai sz&&(oK P sz xs&&ey c.size 2)then match H[b]? with
   |some (.arr k f e es)=>bif ey ar f&&(ey ai e&&(vL k&&(e6 (off+len) es.length&&ny k es)))then
    some {v:=.p (.int .i64 (min xs.length len:Nat)),aj:=(b,.arr k f e es)::dh H x,aI:=[(b,.arr k f e (es.take off++xs.take (min xs.length len)++es.drop (off+min xs.length len)))]}
    else none
   |_=>none
   else none
  |_,_,_=>none
 | .cap,[x]=>match yP H x with
  |some (n,aj)=>bif gC P (c.getD 0 0) x&&e6 1 c.size then some {v:=.p (.int .i64 n),aj}else none
  |none=>none
 | .clear,[x]=>match x with
  | .p .aR=>bif gC P (c.getD 0 0) x&&e6 1 c.size then some {v:=.p (.aE [])}else none
  | .sl b ar ai off len=>match cz P (c.getD 0 0),cE P (ez P (c.getD 0 0)),H[b]? with
   |some sz,some z,some (.arr k f e es)=>bif ey ar f&&(ey ai e&&(ey ai sz&&(ey (bB P (aJ z)) sz&&(vL k&&(e6 (off+len) es.length&&(ny k es&&(e6 1 c.size&&e6 1 len)))))))then
    some {v:=.p (.aE []),aj:=[(b,.arr k f e es)],aI:=[(b,.arr k f e (es.take off++c6 len (.p z)++es.drop (off+len)))]}else none
   |_,_,_=>none
  |_=>none
 | .unsafeSliceData,[x]=>match x with
  | .p .aR=>some {v:=.p .dw}
  | .sl b ar ai off len=>match H[b]? with
   |some (.arr k f e es)=>bif ey ar f&&ey ai e then
    bif ny k es then(bif e6 1 len&&e6 (off+len) es.length then some {v:=.bQ b ar ai off [],aj:=[(b,.arr k f e es)]}else none)
    else some {v:=.p .dw,aj:=[(b,.arr k f e es)]}
    else none
   |_=>none
  |_=>none
 | .unsafeString,[x,.p (.int .i64 (.ofNat n))]=>match x with
  | .p .dw=>bif ey n 0&&ey c.size 2 then some {v:=.p (.str [])}else none
  | .bQ b ar ai i []=>match H[b]? with
   |some (.arr .bytes f e es)=>bif ey ar f&&(ey ai e&&(ey ai 1&&(ey i 0&&(e6 1 n&&(e6 n es.length&&(e6 n 9223372036854775807&&(ey c.size 2&&(oE (ptrTo P (c.getD 0 0)) Gl.u8&&ey (P.cellsOf Gl.u8) 1))))))))then
    match bytesOf (es.take n)with
    |some l=>some {v:=.p (.str l),aj:=[(b,.arr .bytes f e es)],aI:=[(b,.dead)]}
    |none=>none
    else none
   |_=>none
  |_=>none
 |_,_=>none
def zb(P:a7)(ag:bb->Bool)(o:Oper)(ρ:a8->AV)(H:Heap):Option aS:=
 match o.op with
 | .move x| .assign x=>some {v:=ρ x}
 | .pick c a b=>match ρ c with
  | .p (.bool t)=>some {v:=bif t then ρ a else ρ b}
  |_=>none
 | .alloc T=>match cE P T with
  |some z=>bif sE (kindOf P T) (aJ z)&&iK T (aJ z)then some {v:=.ptr H.length [],aP:=[.box false (.p z)]}else none
  |none=>none
 | .box T x=>bif sE (kindOf P T) (ad (ρ x))&&iK T (ad (ρ x))then some {v:=.ptr H.length [],aP:=[.box false (ρ x)]}else none
 | .build T parts=>match kindOf P T,cE P T with
  | .agg u,some z=>match dC P u with
   |some l=>bif sE (aJ z) (.agg u)&&uZ P l (parts.toList.map fun(i,x)=>(i,ρ x))then some {v:=gG u (gS ((cj z).map .p) (parts.toList.map fun(i,x)=>(i,ρ x)))}else none
   |none=>none
  |_,_=>none
 | .buildSlice T n parts=>match cz P T,cE P (ez P T)with
  |some sz,some z=>bif ey (bB P (aJ z)) sz&&(e6 (n*sz) 1000000&&uZ P (c6 n sz) (parts.toList.map fun(i,x)=>(i,ρ x)))then
   some {v:=.sl H.length 0 sz 0 n,aP:=[.arr .exact 0 sz (gS (c6 n (.p z)) (parts.toList.map fun(i,x)=>(i,ρ x)))]}else none
  |_,_=>none
 | .load T a=>Df P T H (ρ a)
 | .store T a x=>Ce P T H (ρ a) (ρ x)
 | .binOp op T x y _=>match CM P op T (lG y) H (ρ x) (ρ y)with
  |some v=>some {v:=.p v,aj:=dh H (ρ x)}
  |none=>none
 | .unOp op _ x=>match op,ρ x with
  | .not,.p (.bool b)=>some {v:=.p (.bool (!b))}
  | .neg,.p (.int k n)=>some {v:=.p (.int k (k.wrap (0-n)))}
  | .xor,.p (.int k n)=>some {v:=.p (.int k (k.wrap (ay k.bits (if k.signed then -1 else k.max)^^^ay k.bits n).toNat))}
  |_,_=>none
 | .convert S D x=>match P.underlying S,P.underlying D,ρ x with
  |some _,some (.int k),.p (.int _ n)=>some {v:=.p (.int k (k.wrap n))}
  |some _,some .string,.p (.str s)=>some {v:=.p (.str s)}
  |_,_,_=>none
 | .extract t i=>match ρ t with
  | .p (.aE vs)=>match vs[i]? with
   |some v=>some {v:=.p v}
   |none=>none
  | .aE vs=>match vs[i]? with
   |some v=>some {v}
   |none=>none
  |_=>none
 | .fieldAddr T a f=>Av P T (ρ a) f
 | .indexAddr T x i=>Ar P T H (ρ x) (ρ i)
 | .field T x f=>match kindOf P T,P.underlying T,ρ x with
  | .agg u,some (.struct _),.p t=>match(cj t)[f]?,(iS P u)[f]? with
   |some g,some F=>bif sE (aJ t) (.agg u)&&sE (kindOf P F) (aJ g)then some {v:=.p g}else none
   |_,_=>none
  |_,_,_=>none
 | .index T x i=>match ρ x,ρ i with
  | .p (.str s),.p (.int _ (.ofNat i))=>match s[i]? with
   |some c=>bif gT P T then some {v:=.p (.int .u8 c)}else none
   |none=>none
  | .p (.st u es),.p (.int _ (.ofNat i))=>match fY P T,(iS P u)[i]?,es[i]? with
   |some (u',n),some F,some g=>bif ey u' u&&(e6 (i+1) n&&sE (kindOf P F) (aJ g))then some {v:=.p g}else none
   |_,_,_=>none
  |_,_=>none
 | .makeFunc (.func f) fi ca=>bif ag f then match ft H (fi.toList.map ρ),ft H (ca.toList.map ρ)with
   |some (a,[],[]),some (b,aj,aI)=>some {v:=.p (.func f a b),aj,aI}
   |_,_=>none
  else match eB (fi.toList.map ρ),eB (ca.toList.map ρ)with
   |some a,some b=>some {v:=.p (.func f a b)}
   |_,_=>some {v:=.func f (fi.toList.map ρ) (ca.toList.map ρ)}
 | .makeSlice T l c=>match cz P T,cE P (ez P T),ρ l,ρ c with
  |some sz,some z,.p (.int .i64 (.ofNat l)),.p (.int .i64 (.ofNat c))=>bif ey (bB P (aJ z)) sz&&(ey l c&&e6 l cU)then
   some {v:=.sl H.length 0 sz 0 l,aP:=[.arr .exact 0 sz (c6 l (.p z))]}else none
  |_,_,_,_=>none
 | .slice T x lo hi d=>match d with
  |none=>Cg P T H (ρ x) (lo.map ρ) (hi.map ρ) none
  |some m=>BB P T H (ρ x) (lo.map ρ) (hi.map ρ) (ρ m)
 | .makeMap _ none=>some {v:=.map H.length,aP:=[.map false []]}
 | .lookup T x i ok=>Ks P T H (ρ x) (ρ i) ok
 | .mapUpdate T m k x| .insert T m k x=>Kp P T H (ρ m) (ρ k) (ρ x)
 | .range T x=>match ρ x with
  | .p (.str s)=>bif gT P T then some {v:=.ptr H.length [],aP:=[.dd s 0]}else none
  |_=>none
 | .next it true=>OG H (ρ it)
 | .nilCheck x=>match ρ x with
  | .ptr _ _| .bQ _ _ _ _ _| .p (.b6 _)=>some {v:=ρ x}
  |_=>none
 | .call c=>match c.callee with
  | .builtin b=>Jk P H b c.argTypes (c.args.toList.map ρ)
  |_=>none
 |_=>none
theorem LZ{o:Oper}{ρ:a8->AV}{H:Heap}{e:aS}{K:aS->Prop}(h:zb P ag o ρ H=some e)(hk:K e):fk P ag o ρ H K:=by
 unfold zb at h;unfold fk;cases ad:o.op<;>simp only[ad]at h<;>simp only
 case move|assign=>simp only[fv]at h;subst h;exact hk
 case pick c a b=>
  split at h
  ·rename_i t hc;simp only[fv]at h;subst h;simp only[hc];cases t<;>exact hk
  ·simp at h
 case alloc T=>
  split at h
  ·rename_i z G;simp only[aT,fl,fv,a0]at h;obtain⟨⟨d,j⟩,rfl⟩:=h;simp only[G];exact⟨(ic d).1,(ic d).2,j,hk⟩
  ·simp at h
 case box T x=>
  simp only[aT,fl,fv,a0]at h;obtain⟨⟨d,j⟩,rfl⟩:=h;exact⟨(ic d).1,(ic d).2,j,hk⟩
 case build T parts=>
  split at h
  ·rename_i u z ae G
   split at h
   ·rename_i l E;simp only[aT,fl,fv,a0]at h;obtain⟨⟨d,j⟩,rfl⟩:=h;simp only[ae,G,E];exact⟨(ic d).1,AG j,hk⟩
   ·simp at h
  ·simp at h
 case buildSlice T n parts=>
  split at h
  ·rename_i sz z J G;simp only[aT,fl,fv,a0]at h;obtain⟨⟨d,j,q⟩,rfl⟩:=h;simp only[J,G];exact⟨c7 d,cK j,AG q,hk⟩
  ·simp at h
 case load T a=>exact Vg h hk
 case store T a x=>exact To h hk
 case binOp op T x y ah=>
  split at h
  ·rename_i v M;simp only[fv]at h;subst h;exact Wi (K:=fun v=>K {v:=.p v,aj:=dh H (ρ x)}) M hk
  ·simp at h
 case unOp op T x=>
  split at h
  all_goals first
   |(rename_i hx;simp only[fv]at h;subst h;simp only[hx];exact hk)
   |simp at h
 case convert S D x=>
  split at h
  ·rename_i d j q;simp only[fv]at h;subst h;simp only[d,j,q];exact hk
  ·rename_i d j q;simp only[fv]at h;subst h;simp only[d,j,q];exact hk
  ·simp at h
 case extract t i=>
  split at h
  ·rename_i U
   split at h
   ·rename_i M;simp only[fv]at h;subst h;simp only[U,M];exact hk
   ·simp at h
  ·rename_i U
   split at h
   ·rename_i M;simp only[fv]at h;subst h;simp only[U,M];exact hk
   ·simp at h
  ·simp at h
 case fieldAddr T a f=>exact QT h hk
 case indexAddr T x i=>exact Q7 h hk
 case field T x f=>
  split at h
  ·rename_i d j q
   split at h
   ·rename_i A w;simp only[aT,fl,fv,a0]at h;obtain⟨⟨B,C⟩,rfl⟩:=h;simp only[d,j,q,A,w];exact⟨(ic B).1,(ic C).1,hk⟩
   ·simp at h
  ·simp at h
 case index T x i=>
  split at h
  ·rename_i d j
   split at h
   ·rename_i c hc;simp only[aT,fl,fv]at h;obtain⟨q,rfl⟩:=h;obtain⟨hi,rfl⟩:=cy.1 hc;simp only[d,j];exact⟨q,cc _,hi,hk⟩
   ·simp at h
  ·rename_i u W am i d j
   split at h
   ·rename_i u' n F g q A w;simp only[aT,fl,fv,a0]at h;obtain⟨⟨g1,g2,g3⟩,rfl⟩:=h;have e:(Int.ofNat i).toNat=i:=rfl;simp only[d,j,e,q,A,w];exact⟨c7 g1,cc _,cK g2,(ic g3).1,hk⟩
   ·simp at h
  ·simp at h
 case makeFunc fn fi ca=>
  cases fn<;>simp only at h<;>try (simp at h;done)
  rename_i f;simp only;simp only[aT]at h
  split at h
  ·rename_i hf;rw[if_pos hf]
   split at h
   ·rename_i d j;simp only[fv]at h;subst h;simp only[d,j];exact hk
   ·simp at h
  ·rename_i hf;rw[if_neg hf]
   split at h
   ·rename_i d j;simp only[fv]at h;subst h;simp only[d,j];exact hk
   ·rename_i ac;simp only[fv]at h;subst h
    split
    ·rename_i d j;exact(ac _ _ d j).elim
    ·exact hk
 case makeSlice T l c=>
  split at h
  ·rename_i d j q A;simp only[aT,fl,fv,a0]at h;obtain⟨⟨w,B,C⟩,rfl⟩:=h;have e:=c7 B;simp only[d,j,q,A];refine⟨c7 w,cc _,by rw[e],?_,hk⟩;have:=cK C;show((_:Nat):Int)<=_
   exact_mod_cast this
  ·simp at h
 case slice T x lo hi af=>
  cases af with
  |none=>exact Tu h hk
  |some m=>exact S5 h hk
 case makeMap T r=>
  cases r<;>simp only at h
  ·simp only[fv]at h;subst h;exact hk
  ·simp at h
 case lookup T x i ok=>
  unfold Ks at h
  split at h
  case h_2=>simp at h
  rename_i d j
  split at h
  case h_2=>simp at h
  rename_i z G;simp only[aT,fl]at h;obtain⟨q,h⟩:=h;simp only[d,j,G];refine⟨q,?_⟩
  have N:∀r:Option PV,yC ok z r=match r with
    |some v=>if ok=true then .aE [v,.bool true]else v
    |none=>if ok=true then .aE [z,.bool false]else z:=by
   intro r;cases r<;>cases ok<;>rfl
  split at h
  ·rename_i hx;simp only[fv]at h;subst h;simp only[hx];rw[N]at hk;exact hk
  ·rename_i hx
   split at h
   ·rename_i r L;simp only[fv]at h;subst h;rw[N]at hk;simp only[hx,L];cases r<;>exact hk
   ·simp at h
  ·rename_i hx
   split at h
   ·rename_i s
    split at h
    ·rename_i r L;simp only[fv]at h;subst h;rw[N]at hk;simp only[hx,s,L];cases r<;>exact hk
    ·simp at h
   ·rename_i s;simp only[aT,fl]at h;obtain⟨aa,h⟩:=h
    split at h
    ·rename_i r L;simp only[fv]at h;subst h;simp only[hx,s,L];refine⟨aa,?_⟩;cases r<;>cases ok<;>exact hk
    ·simp at h
   ·simp at h
  ·simp at h
 case mapUpdate T m k x|insert T m k x=>
  unfold Kp at h
  split at h
  case h_2=>simp at h
  rename_i d j q;simp only[aT,fl]at h;obtain⟨w,h⟩:=h;simp only[d,j,q];generalize ρ x=X at*
  split at h
  ·rename_i s;cases X with
   |p v=>
    simp only at h;refine⟨w,?_⟩
    split at h
    ·rename_i E;simp only[fv]at h;subst h;simp only[s,E];exact hk
    ·simp at h
   |_=>
    refine⟨w,?_⟩;simp only[s];exact zL h hk
  ·rename_i s;cases X with
   |p v=>
    refine⟨w,?_⟩;simp only[s];exact zL h hk
   |_=>
    refine⟨w,?_⟩;simp only[s];exact zL h hk
  ·simp at h
 case range T x=>
  split at h
  ·rename_i hx;simp only[aT,fl,fv]at h;obtain⟨d,rfl⟩:=h;simp only[hx];exact⟨d,hk⟩
  ·simp at h
 case next it isStr=>
  cases isStr<;>simp only at h
  ·simp at h
  unfold OG at h
  split at h
  ·rename_i hx
   split at h
   ·rename_i s;simp only[hx,s];simp only[aT]at h
    split at h
    ·rename_i R;simp only[fv]at h;subst h;rw[if_pos (by have:=cK R;omega)];exact hk
    ·rename_i R;simp only[fv]at h;subst h;rw[if_neg (fun ab=>R (e7 (Nat.succ_le_of_lt ab)))];exact hk
   ·simp at h
  ·simp at h
 case nilCheck x=>
  split at h
  all_goals first
   |(rename_i hx;simp only[fv]at h;subst h;simp only[hx]at hk⊢;exact hk)
   |simp at h
 case call c=>
  split at h
  case h_2=>simp at h
  rename_i b hc;simp only[hc];generalize c.args.toList.map ρ=args at*;generalize c.argTypes=ai at*;unfold Jk at h
  split at h
  ·split at h
   ·rename_i E;simp only[aT,fl,fv,a0]at h;obtain⟨⟨d,j⟩,rfl⟩:=h;simp only[E];exact⟨d,cK j,hk⟩
   ·simp at h
  ·simp only[aT,fl]at h;exact⟨c7 h.1,Qj h.2 hk⟩
  ·split at h
   ·rename_i Q;simp only[fv]at h;subst h;simp only[Q];exact hk
   ·simp at h
  ·split at h
   ·rename_i Q;simp only[fv]at h;subst h;simp only[Q];exact hk
   ·simp at h
  ·split at h
   ·rename_i J Z;simp only[aT,fl,a0]at h;obtain⟨⟨d,j,q⟩,h⟩:=h;simp only[J,Z];refine⟨c7 d,sx j,c7 q,?_⟩
    split at h
    ·rename_i s;simp only[fl,fv]at h;obtain⟨⟨A,w,B,C,I⟩,rfl⟩:=h;simp only[s];exact⟨c7 A,c7 w,Cn B,cK C,uY I,hk⟩
    ·simp at h
   ·simp at h
  ·split at h
   ·rename_i E;simp only[aT,fl,fv,a0]at h;obtain⟨⟨d,j⟩,rfl⟩:=h;simp only[E];exact⟨d,cK j,hk⟩
   ·simp at h
  ·split at h
   ·simp only[aT,fl,fv,a0]at h;obtain⟨⟨d,j⟩,rfl⟩:=h;exact⟨d,cK j,hk⟩
   ·split at h
    ·rename_i J G s;simp only[aT,fl,fv,a0]at h;obtain⟨⟨d,j,q,A,w,B,C,I,O⟩,rfl⟩:=h;simp only[J,G,s];exact⟨c7 d,c7 j,c7 q,c7 A,Cn w,cK B,uY C,cK I,cK O,hk⟩
    ·simp at h
   ·simp at h
  ·split at h
   ·simp only[fv]at h;subst h;exact hk
   ·split at h
    ·rename_i s;simp only[aT,fl,a0]at h;obtain⟨⟨d,j⟩,h⟩:=h;simp only[s];refine⟨c7 d,c7 j,?_⟩
     split at h
     ·simp only[fl,fv]at h;obtain⟨⟨A,w⟩,rfl⟩:=h;exact .inr ⟨cK A,cK w,hk⟩
     ·rename_i V;simp only[fv]at h;subst h;rename_i k _ _ W _ _;refine .inl ⟨?_,?_,hk⟩<;>(unfold ny at V;split at V<;>simp_all)
    ·simp at h
   ·simp at h
  ·split at h
   ·simp only[aT,fl,fv,a0]at h;obtain⟨⟨d,j⟩,rfl⟩:=h;exact⟨by rw[c7 d];rfl,c7 j,hk⟩
   ·split at h
    ·rename_i s;simp only[aT,fl,a0]at h;obtain⟨⟨d,j,q,A,w,B,C,I,O,Y⟩,h⟩:=h;have ak:=cK w;have al:=cK C;simp only[s];refine⟨c7 d,c7 j,c7 q,c7 A,by simp;omega,by simpa using cK B,by simp;omega,c7 I,vm O,c7 Y,?_⟩;simp only[ce,ck]
     split at h
     ·rename_i E;simp only[fv]at h;subst h;simp only[E];exact hk
     ·simp at h
    ·simp at h
   ·simp at h
  ·simp at h
 all_goals simp at h
end
end Go.al
namespace Go.al
variable[Gl]
section
variable(σ:Nat->Nat)
mutual
def ct:AV->AV
 | .p v=>.p v
 | .ptr b path=>.ptr (σ b) path
 | .bQ b ar ai i path=>.bQ (σ b) ar ai i path
 | .sl b ar ai off len=>.sl (σ b) ar ai off len
 | .map b=>.map (σ b)
 | .func f fi ca=>.func f (cC fi) (cC ca)
 | .st u fs=>.st u (cC fs)
 | .aE vs=>.aE (cC vs)
def cC:List AV->List AV
 |[]=>[]
 |v::vs=>ct v::cC vs
end
def sF:Env->Env
 |[]=>[]
 |(x,v)::r=>(x,ct σ v)::sF r
def dc:Obj->Obj
 | .box fz t=>.box fz (ct σ t)
 | .arr k ar ai es=>.arr k ar ai (cC σ es)
 | .cZ ks vs=>.cZ ks (cC σ vs)
 | .loop L=>.loop {L with env:=sF σ L.env}
 |o=>o
end
section
variable{σ:Nat->Nat}
theorem Bt:∀(e:Env)(x:Nat),aK (sF σ e) x=ct σ (aK e x)
 |[],_=>rfl
 |(y,v)::r,x=>by
  simp only[sF,aK]
  split
  ·rfl
  ·exact Bt r x
theorem rz:∀l:List AV,(cC σ l).length=l.length
 |[]=>rfl
 |_::r=>by simp[cC,rz r]
theorem Vu{l:List AV}:cC σ l=[]↔l=[]:=by cases l<;>simp[cC]
theorem mV{k:AK}{a:List AV}:cO k (cC σ a)↔cO k a:=by simp[cO,Vu]
theorem K1{v:AV}:(ct σ v).qP↔v.qP:=by cases v<;>simp[ct,AV.qP]
theorem Ut{v:AV}:ad (ct σ v)=ad v:=by cases v<;>rfl
theorem JT:∀{l:List AV},(∀e∈cC σ l,e.qP)↔∀e∈l,e.qP
 |[]=>by simp[cC]
 |v::r=>by simp[cC,K1,JT (l:=r)]
theorem pE{o:Obj}:(dc σ o).live↔o.live:=by cases o<;>simp[dc,Obj.live,mV]
theorem K6{o:Obj}{v:Nat}:(dc σ o).has v↔o.has v:=by cases o<;>simp[dc,Obj.has]
theorem UT{o:Obj}:dc σ o=.hole↔o=.hole:=by cases o<;>simp[dc]
mutual
theorem A6{S:Nat×Nat->Prop}:∀(v:AV),aB S (ct σ v)↔aB (fun x=>S (σ x.1,x.2)) v
 | .p _=>by simp[ct,aB]
 | .ptr _ _| .bQ _ _ _ _ _| .sl _ _ _ _ _| .map _=>by simp[ct,aB]
 | .func _ fi ca=>by simp only[ct,aB];rw[rK fi,rK ca]
 | .st _ fs=>by simp only[ct,aB];exact rK fs
 | .aE vs=>by simp only[ct,aB];exact rK vs
theorem rK{S:Nat×Nat->Prop}:∀(l:List AV),aQ S (cC σ l)↔aQ (fun x=>S (σ x.1,x.2)) l
 |[]=>by simp[cC,aQ]
 |v::r=>by simp only[cC,aQ];rw[A6 v,rK r]
end
theorem TP{S:Nat×Nat->Prop}{o:Obj}:(dc σ o).refs S↔o.refs (fun x=>S (σ x.1,x.2)):=by
 cases o<;>simp only[dc,Obj.refs,A6,rK,Bt]
theorem Obj.refs.mono{S T:Nat×Nat->Prop}(h:∀x,S x->T x){o:Obj}(a:o.refs S):o.refs T:=by
 cases o with
 |box fz t=>exact aB.mono h _ a
 |arr k ar ai es=>exact aQ.mono h _ a
 |cZ ks vs=>exact aQ.mono h _ a
 |loop L=>exact fun x=>aB.mono h _ (a x)
 |_=>trivial
structure dJ(σ:Nat->Nat)(dI:Bd)(H0:Heap)(β:Bd)(H:Heap):Prop where
 obj:∀(b:Nat)(o:Obj),H0[b]?=some o->H[σ b]?=some (dc σ o)
 ak:∀b,b<H0.length->β.ak (σ b)=dI.ak b/\β.cap (σ b)=dI.cap b
section
variable{P:a7}{w:bl}{aa:Nat->Prop}{dI β:Bd}{H0 H:Heap}
theorem dJ.box(h:dJ σ dI H0 β H){b:Nat}(a:b<H0.length):l6 H (σ b)↔l6 H0 b:=by
 have c:=h.obj b _ (cx a);have d:=cx a;unfold l6;rw[c,d];cases H0[b]<;>simp[dc]
theorem dJ.it(h:dJ σ dI H0 β H){b:Nat}(a:b<H0.length):l7 H (σ b)↔l7 H0 b:=by
 have c:=h.obj b _ (cx a);have d:=cx a;unfold l7;rw[c,d];cases H0[b]<;>simp[dc]
theorem dJ.map(h:dJ σ dI H0 β H){b:Nat}(a:b<H0.length):mX H (σ b)↔mX H0 b:=by
 have h1:=h.obj b _ (cx a);have c:=cx a;unfold mX;rw[h1,c];cases H0[b]<;>simp[dc,Obj.tP]
theorem dJ.loop(h:dJ σ dI H0 β H){b:Nat}(a:b<H0.length):gv H (σ b)↔gv H0 b:=by
 have c:=h.obj b _ (cx a);have d:=cx a;unfold gv;rw[c,d];cases H0[b]<;>simp[dc]
theorem dJ.arr(h:dJ σ dI H0 β H){b ar ai:Nat}{k:AK}{es:List AV}(a:b<H0.length):et H (σ b) ar ai k es↔∃gd,et H0 b ar ai k gd/\es=cC σ gd:=by
 have c:=h.obj b _ (cx a);have d:=cx a;unfold et;rw[c,d];cases H0[b]<;>simp[dc];constructor
 ·rintro⟨rfl,rfl,rfl,rfl⟩;exact⟨_,⟨rfl,rfl,rfl,rfl⟩,rfl⟩
 ·rintro⟨_,⟨rfl,rfl,rfl,rfl⟩,rfl⟩;exact⟨rfl,rfl,rfl,rfl⟩
theorem dJ.C5(h:dJ σ dI H0 β H){x:Nat×Nat}(a:x.1<H0.length):aF H (σ x.1,x.2)↔aF H0 x:=by
 have b:=h.obj x.1 _ (cx a);have c:=cx a;unfold aF;rw[b,c];simp[K6]
def Small(n:Nat):Nat×Nat->Prop:=fun x=>x.1<n
theorem dJ.oY(h:dJ σ dI H0 β H):∀{a:AV}{v:bi},aB (Small H0.length) a->(bK P β H (ct σ a) v↔bK P dI H0 a v)
 | .p _,_,_| .func _ _ _,_,_| .st _ _,_,_| .aE _,_,_=>by simp[ct,bK]
 | .ptr b path,v,c=>by
  simp only[aB,Small]at c;simp only[ct,bK,h.box c,h.it c,(h.ak b c).1]
 | .bQ b ar ai i path,v,c=>by
  simp only[aB,Small]at c;simp only[ct,bK,h.arr c,(h.ak b c).1];constructor
  ·rintro⟨ak,off,o,f,g,j⟩;exact⟨ak,off,o,f,g,fun k d e m=>j k _ ⟨d,e,rfl⟩ (by rwa [mV])⟩
  ·rintro⟨ak,off,o,f,g,j⟩;refine⟨ak,off,o,f,g,?_⟩;rintro k _ ⟨d,e,rfl⟩ m;exact j k d e (by rwa [mV]at m)
 | .sl b ar ai off len,v,c=>by
  simp only[aB,Small]at c;simp only[ct,bK,h.arr c,(h.ak b c).1,(h.ak b c).2];constructor
  ·intro l k d e;have:=l k _ ⟨d,e,rfl⟩;simpa only[rz,mV]using this
  ·rintro l k _ ⟨d,e,rfl⟩;have:=l k d e;simpa only[rz,mV]using this
 | .map b,v,c=>by
  simp only[aB,Small]at c;simp only[ct,bK,h.map c,h.loop c,(h.ak b c).1]
mutual
theorem dJ.Ln(h:dJ σ dI H0 β H):∀(a:AV)(cs:List bi),aB (Small H0.length) a->(bd P w aa β H (ct σ a) cs↔bd P w aa dI H0 a cs)
 | .p _,_,_=>by simp[ct,bd]
 | .aE _,_,_=>by simp[ct,bd]
 | .st u fs,cs,d=>by
  simp only[aB]at d;simp only[ct,bd];exact exists_congr fun l=>exists_congr fun e=>and_congr_right fun _=>and_congr_left fun _=>dJ.yF h l fs e d
 | .func f fi ca,cs,d=>by
  simp only[aB]at d;simp only[ct,bd];exact exists_congr fun l=>exists_congr fun e=>and_congr (dJ.oN h fi l d.1) (and_congr_left fun _=>dJ.oN h ca e d.2)
 | .ptr b path,cs,d=>by
  have:=fun v=>h.oY (P:=P) (a:=.ptr b path) (v:=v) d;simp only[ct,bd,bG]at this⊢;simp only[this]
 | .bQ b ar ai i path,cs,d=>by
  have:=fun v=>h.oY (P:=P) (a:=.bQ b ar ai i path) (v:=v) d;simp only[ct,bd,bG]at this⊢;simp only[this]
 | .sl b ar ai off len,cs,d=>by
  have:=fun v=>h.oY (P:=P) (a:=.sl b ar ai off len) (v:=v) d;simp only[ct,bd,bG]at this⊢;simp only[this]
 | .map b,cs,d=>by
  have:=fun v=>h.oY (P:=P) (a:=.map b) (v:=v) d;simp only[ct,bd,bG]at this⊢;simp only[this]
theorem dJ.yF(h:dJ σ dI H0 β H):∀(g:List Nat)(l:List AV)(e:List (List bi)),aQ (Small H0.length) l->(bF P w aa β H g (cC σ l) e↔bF P w aa dI H0 g l e)
 |[],[],e,_=>by simp[cC,bF]
 |[],_::_,e,_=>by simp[cC,bF]
 |_::_,[],e,_=>by simp[cC,bF]
 |n::g,v::vs,e,d=>by
  simp only[aQ]at d;simp only[cC,bF];exact exists_congr fun c=>exists_congr fun cs=>and_congr_right fun _=>and_congr (dJ.Ln h v c d.1) (and_congr_right fun _=>dJ.yF h g vs cs d.2)
theorem dJ.CG(h:dJ σ dI H0 β H):∀(a:AV)(v:bi),aB (Small H0.length) a->(au P w aa β H (ct σ a) v↔au P w aa dI H0 a v)
 | .p _,_,_=>by simp[ct,au]
 | .aE vs,_,d=>by
  simp only[aB]at d;simp only[ct,au];exact exists_congr fun l=>and_congr_left fun _=>dJ.oN h vs l d
 | .st u fs,cs,d=>by
  simp only[aB]at d;simp only[ct,au];exact exists_congr fun l=>exists_congr fun e=>and_congr_right fun _=>and_congr_left fun _=>dJ.yF h l fs e d
 | .func f fi ca,cs,d=>by
  simp only[aB]at d;simp only[ct,au];exact exists_congr fun l=>exists_congr fun e=>and_congr (dJ.oN h fi l d.1) (and_congr_left fun _=>dJ.oN h ca e d.2)
 | .ptr b path,v,d=>by
  have:=h.oY (P:=P) (a:=.ptr b path) (v:=v) d;simp only[ct,au,bG]at this⊢;simp only[this]
 | .bQ b ar ai i path,v,d=>by
  have:=h.oY (P:=P) (a:=.bQ b ar ai i path) (v:=v) d;simp only[ct,au,bG]at this⊢;simp only[this]
 | .sl b ar ai off len,v,d=>by
  have:=h.oY (P:=P) (a:=.sl b ar ai off len) (v:=v) d;simp only[ct,au,bG]at this⊢;simp only[this]
 | .map b,v,d=>by
  have:=h.oY (P:=P) (a:=.map b) (v:=v) d;simp only[ct,au,bG]at this⊢;simp only[this]
theorem dJ.oN(h:dJ σ dI H0 β H):∀(l:List AV)(vs:List bi),aQ (Small H0.length) l->(bp P w aa β H (cC σ l) vs↔bp P w aa dI H0 l vs)
 |[],vs,_=>by simp[cC,bp]
 |a::l,vs,d=>by
  simp only[aQ]at d;simp only[cC,bp];exact exists_congr fun y=>exists_congr fun j=>and_congr_right fun _=>and_congr (dJ.CG h a y d.1) (dJ.oN h l j d.2)
end
theorem dJ.OO(h:dJ σ dI H0 β H){ah Prot0:Nat->Prop}{b:Nat}{o:Obj}(f:H0[b]?=some o)(c:o.refs (Small H0.length))(a:o.live->∀fz,b8 aa dI Prot0 fz b↔b8 aa β ah fz (σ b)):
 eP P w aa β H ah (σ b) (dc σ o)↔eP P w aa dI H0 Prot0 b o:=by
 have g:b<H0.length:=(cy.1 f).1;obtain⟨k1,k2⟩:=h.ak b g;cases o with
 |hole=>simp[dc,eP]
 |dead=>simp[dc,eP]
 |box fz t=>
  simp only[dc,eP,k1,<-a trivial,h.Ln t _ c,K1,Ut]
 |arr k ar ai es=>
  simp only[dc,eP,k1,k2,mV,rz,JT]
  by_cases e:cO k es
  ·simp[e]
  ·simp only[e,false_or,<-a e,h.yF _ es _ c]
 |map fz es=>
  simp only[dc,eP,k1,<-a trivial]
 |cZ ks vs=>
  simp only[dc,eP,k1,<-a trivial,h.oN vs _ c]
 |dd s pos=>
  simp only[dc,eP,k1,<-a trivial]
 |loop L=>
  simp only[dc,eP,k1,<-a trivial,Bt];exact exists_congr fun t=>exists_congr fun d=>exists_congr fun fn=>and_congr_right fun _=>and_congr_right fun _=>and_congr_left fun _=>forall_congr' fun x=>h.CG _ _ (c x)
end
end
end Go.al
namespace Go.al
variable[Gl]
def sig(bs:List Nat)(a i:Nat):Nat:=match bs[i]? with
 |some b=>b
 |none=>a+(i-bs.length)
theorem rX{bs:List Nat}{a i:Nat}(h:i<bs.length):sig bs a i=bs[i]:=by simp[sig,h]
theorem rY{bs:List Nat}{a i:Nat}(h:bs.length<=i):sig bs a i=a+(i-bs.length):=by simp[sig,h]
theorem aCD{bs:List Nat}{a:Nat}(e:bs.Nodup)(d:∀b∈bs,b<a){i j:Nat}(h:sig bs a i=sig bs a j):i=j:=by
 by_cases hi:i<bs.length<;>by_cases c:j<bs.length
 ·rw[rX hi,rX c]at h;exact(List.getElem_inj e).1 h
 ·rw[rX hi,rY (by omega)]at h;have:=d _ (em hi);omega
 ·rw[rY (by omega),rX c]at h;have:=d _ (em c);omega
 ·rw[rY (by omega),rY (by omega)]at h;omega
theorem Ag:∀{l:List (Nat×Obj)}{H:Heap}{x:Nat},(∀p∈l,p.1≠x)->(br H l)[x]?=H[x]?
 |[],_,_,_=>rfl
 |(b,o)::r,H,x,h=>by
  simp only[br];rw[Ag (fun p a=>h p (by simp[a])),List.getElem?_set_ne (h (b,o) (by simp))]
theorem AP:∀{l:List (Nat×Obj)}{H:Heap},(l.map (·.1)).Nodup->∀p∈l,p.1<H.length->(br H l)[p.1]?=some p.2
 |[],_,_,_,h,_=>by simp at h
 |(b,o)::r,H,a,p,c,d=>by
  simp only[dg,dz]at a;simp only[br];rcases da.1 c with rfl|c
  ·rw[Ag (fun q hq e=>a.1 (ew.2 ⟨q,hq,e⟩)),List.getElem?_set_self d]
  ·exact AP a.2 p c (by simpa using d)
theorem AJ(a:Nat):∀(l:List Obj),(newAt a l).map (·.1)=List.range' a l.length
 |[]=>rfl
 |o::r=>by simp[newAt,AJ (a+1) r,List.range'_succ]
theorem HW:∀(l:List Obj)(a j:Nat)(h:j<l.length),(a+j,l[j])∈newAt a l
 |[],_,_,h=>by simp at h
 |o::r,a,0,h=>by simp[newAt]
 |o::r,a,j+1,h=>by
  have:=HW r (a+1) j (by simpa using h);simp only[newAt,List.getElem_cons_succ,da];right;have e:a+(j+1)=a+1+j:=by omega
  rw[e];exact this
section
variable{P:a7}{w w':bl}{aa aD ah:Nat->Prop}{β aG:Bd}{H H':Heap}
theorem eP.mut{b:Nat}{o:Obj}(h:eP P w aa β H ah b o)(f:o.live)(l:¬aa (β.ak b)):¬ah (β.ak b):=by
 have held:∀{fz},b8 aa β ah fz b->¬ah (β.ak b):=by
  intro fz g;cases fz with
  |true=>exact(l (by simpa[b8]using g)).elim
  |false=>
   have:¬aa (β.ak b)/\¬ah (β.ak b):=by simpa[b8]using g
   exact this.2
 cases o with
 |hole=>exact f.elim
 |dead=>exact f.elim
 |box fz t=>
  obtain⟨cs,T,c,d,a,e⟩:=h;exact held a
 |arr k ar ai es=>
  rcases h with h|⟨cs,T,m,rest,c,d,a,e,n,p,j,q⟩
  ·exact(f h).elim
  ·exact held j
 |map fz es=>
  obtain⟨i,clock,c,d,a⟩:=h;exact held a
 |cZ ks vs=>
  obtain⟨i,clock,c,d,a,e⟩:=h;exact held e
 |dd s pos=>
  obtain⟨bs,c,d,a⟩:=h;exact held a
 |loop L=>
  obtain⟨tmps,defers,fn,c,d,a,e⟩:=h;exact held e
theorem eP.carry(hi:∀k,aa k->aD k)(hs:∀k,aa k->w'.heap[k]?=w.heap[k]?)(aH:bW β H aG H'){b:Nat}{o:Obj}(l:o.refs (aF H))
 (j:o.live->w'.heap[β.ak b]?=w.heap[β.ak b]?/\aG.ak b=β.ak b/\aG.cap b=β.cap b)(held:o.live->∀fz,b8 aa β ah fz b->b8 aD aG ah fz b)(h:eP P w aa β H ah b o):eP P w' aD aG H' ah b o:=by
 cases o with
 |hole=>trivial
 |dead=>trivial
 |box fz t=>
  obtain⟨cs,T,d,e,f,i⟩:=h;obtain⟨a,c,g⟩:=j trivial;exact⟨cs,T,by rw[c,a];exact d,bd.mono hi hs aH _ _ l e,held trivial _ f,i⟩
 |arr k ar ai es=>
  rcases h with h|⟨cs,T,p,rest,d,e,f,i,q,r,u,v⟩
  ·exact .inl h
  ·by_cases n:cO k es
   ·exact .inl n
   ·obtain⟨a,c,g⟩:=j n;exact .inr ⟨cs,T,p,rest,by rw[c,a];exact d,bF.mono hi hs aH _ _ _ l e,f,by rw[g];exact i,by rw[g];exact q,by rw[g];exact r,held n _ u,v⟩
 |map fz es=>
  obtain⟨m,clock,d,e,f⟩:=h;obtain⟨a,c,g⟩:=j trivial;exact⟨m,clock,by rw[c,a];exact d,b9.mono hi hs _ _ e,held trivial _ f⟩
 |cZ ks vs=>
  obtain⟨m,clock,d,e,f,i⟩:=h;obtain⟨a,c,g⟩:=j trivial;exact⟨m,clock,by rw[c,a];exact d,bm.mono hi hs _ _ e,bp.mono hi hs aH _ _ l f,held trivial _ i⟩
 |dd s pos=>
  obtain⟨bs,d,e,f⟩:=h;obtain⟨a,c,g⟩:=j trivial;exact⟨bs,by rw[c,a];exact d,e,held trivial _ f⟩
 |loop L=>
  obtain⟨tmps,defers,fn,d,e,f,i⟩:=h;obtain⟨a,c,g⟩:=j trivial;exact⟨tmps,defers,fn,by rw[c,a];exact d,e,fun x=>au.mono hi hs aH _ _ (l x) (f x),held trivial _ i⟩
def di(bs:List Nat)(a:Nat)(H0 bR:Heap)(b:AV):aS:=
 {v:=ct (sig bs a) b,aj:=bs.zip (H0.map (dc (sig bs a))),aI:=bs.zip ((bR.take H0.length).map (dc (sig bs a))),aP:=(bR.drop H0.length).map (dc (sig bs a))}
open Classical in
theorem HA{H0 bR:Heap}{fP:List AV}{v0:AV}(bs:List Nat)(base:Nat)(hlen:bs.length=H0.length)(hnd:bs.Nodup)(hlt:∀b∈bs,b<base)
 (hl:H0.length<=bR.length)(ha:aQ (aF H0) fP)(ho:∀(b:Nat)(o:Obj),H0[b]?=some o->o.refs (aF H0))
 {H:Heap}{w:bl}{aa ah:Nat->Prop}{β:Bd}{cargs:List bi}(hr:bL P w aa β H ah)(hargs:bp P w aa β H (cC (sig bs base) fP) cargs)
 (aj:∀p∈(di bs base H0 bR v0).aj,H[p.1]?=some p.2)(aP:∀i,i<(di bs base H0 bR v0).aP.length->H[base+i]?=some .hole):
 ∃(dI:Bd)(Prot0:Nat->Prop),(∀b,dI.ak b=β.ak (sig bs base b))/\bL P w aa dI H0 Prot0/\bp P w aa dI H0 fP cargs/\(∀b,b<H0.length->(gv H (sig bs base b)↔gv H0 b))/\
  ∀(cv:bi)(w':bl)(β0':Bd)(aD:Nat->Prop),bO P Prot0 aa w dI H0 aD w' β0' bR->au P w' aD β0' bR v0 cv->aB (aF bR) v0->
   ∃aG,bO P ah aa w β H aD w' aG (br H ((di bs base H0 bR v0).aI++newAt base (di bs base H0 bR v0).aP))/\
    au P w' aD aG (br H ((di bs base H0 bR v0).aI++newAt base (di bs base H0 bR v0).aP)) (di bs base H0 bR v0).v cv/\
    aB (aF (br H ((di bs base H0 bR v0).aI++newAt base (di bs base H0 bR v0).aP))) (di bs base H0 bR v0).v:=by
 obtain⟨σ,hσ⟩:∃σ,σ=sig bs base:=⟨_,rfl⟩
 have hinj:∀{i j},σ i=σ j->i=j:=fun{i j} h=>aCD hnd hlt (by rw[hσ]at h;exact h);have hold:∀{i}(hi:i<H0.length),σ i=bs[i]'(by omega):=fun hi=>by rw[hσ];exact rX _
 have hnw:∀{i},H0.length<=i->σ i=base+(i-H0.length):=fun hi=>by rw[hσ,rY (by omega),hlen]
 have hget:∀(b:Nat)(o:Obj),H0[b]?=some o->H[σ b]?=some (dc σ o):=by
  intro b o hb;obtain⟨hbl,rfl⟩:=cy.1 hb;have:=aj (bs[b]'(by omega),dc (sig bs base) H0[b]) (by
   simp only[di];rw[db];exact⟨b,by simp;omega,by simp⟩)
  rw[hold hbl,hσ];exact this
 have hnewH:∀i,H0.length<=i->i<bR.length->H[σ i]?=some .hole:=by
  intro i h1 h2;rw[hnw h1];exact aP (i-H0.length) (by simp[di];omega)
 obtain⟨H2,hH2⟩:∃H2,H2=br H ((di bs base H0 bR v0).aI++newAt base (di bs base H0 bR v0).aP):=⟨_,rfl⟩
 have hkeys:∀p∈(di bs base H0 bR v0).aI++newAt base (di bs base H0 bR v0).aP,∃i,i<bR.length/\p.1=σ i:=by
  intro p hp;rcases eo.1 hp with hp|hp
  ·simp only[di]at hp;have hm:=(dq hp).1;obtain⟨i,hi,he⟩:=db.1 hm;exact⟨i,by omega,by rw[hold (by omega)];exact he.symm⟩
  ·have hm:p.1∈(newAt base (di bs base H0 bR v0).aP).map (·.1):=ed hp
   rw[AJ,ee]at hm;simp only[di,List.length_map,List.length_drop]at hm;exact⟨H0.length+(p.1-base),by omega,by rw[hnw (by omega)];omega⟩
 have hndk:(((di bs base H0 bR v0).aI++newAt base (di bs base H0 bR v0).aP).map (·.1)).Nodup:=by
  rw[eq,AJ];have e:(di bs base H0 bR v0).aI.map (·.1)=bs:=by
   simp only[di];rw[List.map_fst_zip];simp;omega
  rw[e,List.nodup_append];refine⟨hnd,List.nodup_range',fun a h1 b h2 he=>?_⟩;subst he;have:=hlt _ h1;rw[ee]at h2;omega
 have hA:∀(i:Nat)(o:Obj),bR[i]?=some o->H2[σ i]?=some (dc σ o):=by
  intro i o hi;obtain⟨hil,rfl⟩:=cy.1 hi
  by_cases hi0:i<H0.length
  ·have hm:(bs[i]'(by omega),dc (sig bs base) bR[i])∈(di bs base H0 bR v0).aI++newAt base (di bs base H0 bR v0).aP:=by
    refine List.mem_append_left _ ?_;simp only[di];rw[db];exact⟨i,by simp;omega,by simp⟩
   have:=AP (H:=H) hndk _ hm (by
    have:=hget i _ (cx hi0);rw[hold hi0]at this;exact(cy.1 this).1)
   rw[hH2,hold hi0,this,hσ]
  ·have hm:(base+(i-H0.length),dc (sig bs base) bR[i])∈(di bs base H0 bR v0).aI++newAt base (di bs base H0 bR v0).aP:=by
    refine eb _ ?_;have:=HW (di bs base H0 bR v0).aP base (i-H0.length) (by simp[di];omega);have e:(di bs base H0 bR v0).aP[i-H0.length]'(by simp[di];omega)=dc (sig bs base) bR[i]:=by
     simp only[di,List.getElem_map,List.getElem_drop];congr 2;omega
    rw[e]at this;exact this
   have:=AP (H:=H) hndk _ hm (by
    have:=hnewH i (by omega) hil;rw[hnw (by omega)]at this;exact(cy.1 this).1)
   rw[hH2,hnw (by omega),this,hσ]
 have hB:∀x,(∀i,i<bR.length->σ i≠x)->H2[x]?=H[x]?:=by
  intro x hx;rw[hH2];refine Ag fun p hp=>?_;obtain⟨i,h1,h2⟩:=hkeys p hp;rw[h2];exact hx i h1
 let dI:Bd:=⟨fun b=>β.ak (σ b),fun b=>β.cap (σ b)⟩
 let Prot0:Nat->Prop:=fun k=>ah k\/∃x o,H[x]?=some o/\o.live/\(∀i,i<H0.length->σ i≠x)/\β.ak x=k
 have hemb:dJ σ dI H0 β H:=⟨hget,fun b _=>⟨rfl,rfl⟩⟩
 have small:∀x:Nat×Nat,aF H0 x->Small H0.length x:=fun x⟨o,ho,_⟩=>(cy.1 ho).1;have held0:∀{b:Nat}{o:Obj},H0[b]?=some o->o.live->∀fz,b8 aa dI Prot0 fz b↔b8 aa β ah fz (σ b):=by
  intro b o hb hlv fz;cases fz with
  |true=>simp[b8,dI]
  |false=>
   simp only[b8,a1,if_false];refine and_congr_right fun hni=>⟨fun h hp=>h (.inl hp),fun h hp=>?_⟩
   rcases hp with hp|⟨x,o',h1,h2,h3,h4⟩
   ·exact h hp
   ·exact h3 b (cy.1 hb).1 (hr.inj _ _ _ _ (hget b o hb) h1 (pE.2 hlv) h2 hni h4.symm)
 have hr0:bL P w aa dI H0 Prot0:=by
  refine⟨fun b o hb=>?_,fun b b' o o' h1 h2 l1 l2 hni he=>?_,ho,hr.bM,fun k hk=>?_,hr.gO⟩
  ·exact(hemb.OO hb ((ho b o hb).mono small) (held0 hb)).1 (hr.cg _ _ (hget b o hb))
  ·exact hinj (hr.inj _ _ _ _ (hget b o h1) (hget b' o' h2) (pE.2 l1) (pE.2 l2) hni he)
  ·rcases hk with hk|⟨x,o,h1,h2,_,rfl⟩
   ·exact hr.dQ k hk
   ·exact hr.lY h1 h2
 have hargs0:bp P w aa dI H0 fP cargs:=by
  rw[<-hσ]at hargs;exact(hemb.oN _ _ (aQ.mono small _ ha)).1 hargs
 refine⟨dI,Prot0,fun b=>by rw[<-hσ],hr0,hargs0,fun b hb=>by rw[<-hσ];exact hemb.loop hb,fun cv w' β0' aD hp hv hvr=>?_⟩
 let aG:Bd:=⟨fun x=>if h:∃i,i<bR.length/\σ i=x then β0'.ak h.choose else β.ak x,fun x=>if h:∃i,i<bR.length/\σ i=x then β0'.cap h.choose else β.cap x⟩
 have hβ:∀i,i<bR.length->aG.ak (σ i)=β0'.ak i/\aG.cap (σ i)=β0'.cap i:=by
  intro i hi;have hex:∃j,j<bR.length/\σ j=σ i:=⟨i,hi,rfl⟩
  have hc:hex.choose=i:=hinj hex.choose_spec.2;simp only[aG,dif_pos hex,hc,and_self]
 have hβn:∀x,(∀i,i<bR.length->σ i≠x)->aG.ak x=β.ak x/\aG.cap x=β.cap x:=by
  intro x hx;have hnex:¬∃i,i<bR.length/\σ i=x:=fun⟨i,h1,h2⟩=>hx i h1 h2;simp only[aG,dif_neg hnex,and_self]
 have hemb':dJ σ β0' bR aG H2:=⟨hA,fun b hb=>hβ b hb⟩
 have small':∀x:Nat×Nat,aF bR x->Small bR.length x:=fun x⟨o,ho,_⟩=>(cy.1 ho).1;have split:∀x,(∃i,i<bR.length/\σ i=x)\/∀i,i<bR.length->σ i≠x:=by
  intro x
  by_cases hx:∃i,i<bR.length/\σ i=x
  ·exact .inl hx
  ·exact .inr fun i h1 h2=>hx ⟨i,h1,h2⟩
 have inOld:∀{i v},i<bR.length->aF H (σ i,v)->aF H0 (i,v)/\i<H0.length:=by
  intro i v hi ⟨o,h1,h2⟩
  by_cases hi0:i<H0.length
  ·refine⟨?_,hi0⟩;have:=hget i _ (cx hi0);simp only at h1;rw[this]at h1;cases h1;exact⟨_,cx hi0,K6.1 h2⟩
  ·have:=hnewH i (by omega) hi;simp only at h1;rw[this]at h1;cases h1;exact h2.elim
 have gD:bW β H aG H2:=by
  refine⟨?_,?_,?_,?_,?_⟩
  ·intro b hb hlv;rcases split b with⟨i,hi,rfl⟩|hx
   ·obtain⟨k1,k2⟩:=inOld hi hb;obtain⟨g1,g2⟩:=hp.step.box i k1 ((hemb'.box hi).1 hlv);exact⟨(hemb.box k2).2 g1,(hβ i hi).1.trans g2⟩
   ·unfold l6 at hlv⊢;rw[hB b hx]at hlv;exact⟨hlv,(hβn b hx).1⟩
  ·intro b hb hlv;rcases split b with⟨i,hi,rfl⟩|hx
   ·obtain⟨k1,k2⟩:=inOld hi hb;obtain⟨g1,g2⟩:=hp.step.it i k1 ((hemb'.it hi).1 hlv);exact⟨(hemb.it k2).2 g1,(hβ i hi).1.trans g2⟩
   ·unfold l7 at hlv⊢;rw[hB b hx]at hlv;exact⟨hlv,(hβn b hx).1⟩
  ·intro b hb hlv;rcases split b with⟨i,hi,rfl⟩|hx
   ·obtain⟨k1,k2⟩:=inOld hi hb;obtain⟨g1,g2⟩:=hp.step.map i k1 ((hemb'.map hi).1 hlv);exact⟨(hemb.map k2).2 g1,(hβ i hi).1.trans g2⟩
   ·unfold mX at hlv⊢;rw[hB b hx]at hlv;exact⟨hlv,(hβn b hx).1⟩
  ·intro b ar ai k es hb hlv;rcases split b with⟨i,hi,rfl⟩|hx
   ·obtain⟨k1,k2⟩:=inOld hi hb;obtain⟨gd,g0,rfl⟩:=(hemb'.arr hi).1 hlv;obtain⟨k0,es1,g1,g2,g3,g4⟩:=hp.step.arr i ar ai k gd k1 g0;refine⟨k0,cC σ es1,(hemb.arr k2).2 ⟨_,g1,rfl⟩,by rw[rz,rz];exact g2,by rw[mV,mV];exact g3,fun hn=>?_⟩;rw[mV]at hn;rw[(hβ i hi).1,(hβ i hi).2];exact g4 hn
   ·unfold et at hlv⊢;rw[hB b hx]at hlv;exact⟨k,es,hlv,e9 _,Iff.rfl,fun _=>hβn b hx⟩
  ·intro b hb hlv;rcases split b with⟨i,hi,rfl⟩|hx
   ·obtain⟨k1,k2⟩:=inOld hi hb;obtain⟨g1,g2⟩:=hp.step.loop i k1 ((hemb'.loop hi).1 hlv);exact⟨(hemb.loop k2).2 g1,(hβ i hi).1.trans g2⟩
   ·unfold gv at hlv⊢;rw[hB b hx]at hlv;exact⟨hlv,(hβn b hx).1⟩
 have hinn:∀x,aF H x->aF H2 x:=by
  rintro⟨b,v⟩ hb;rcases split b with⟨i,hi,rfl⟩|hx
  ·obtain⟨k1,_⟩:=inOld hi hb;exact(hemb'.C5 (x:=(i,v)) hi).2 (hp.eM _ k1)
  ·obtain⟨o,h1,h2⟩:=hb;exact⟨o,by simp only;rw[hB b hx];exact h1,h2⟩
 have prot0:∀{x:Nat}{o:Obj},(∀i,i<bR.length->σ i≠x)->H[x]?=some o->o.live->Prot0 (β.ak x):=by
  intro x o hx h1 h2;exact .inr ⟨x,o,h1,h2,fun i hi=>hx i (by omega),rfl⟩
 have mut':∀{i:Nat}{o:Obj},bR[i]?=some o->o.live->¬aD (β0'.ak i)->¬Prot0 (β0'.ak i):=by
  intro i o h1 h2 h3;exact(hp.rel.cg i o h1).mut h2 h3
 have hrel:bL P w' aD aG H2 ah:=by
  refine⟨fun x o hx=>?_,fun x x' o o' h1 h2 l1 l2 hni he=>?_,fun x o hx=>?_,hp.rel.bM,fun k hk=>hp.rel.dQ k (.inl hk),hp.rel.gO⟩
  ·rcases split x with⟨i,hi,rfl⟩|hn
   ·have hg:=hA i _ (cx hi);rw[hg]at hx;cases hx;refine(hemb'.OO (Prot0:=Prot0) (cx hi) ((hp.rel.refs i _ (cx hi)).mono small') (fun hlv fz=>?_)).2 (hp.rel.cg i _ (cx hi));cases fz with
    |true=>simp[b8,(hβ i hi).1]
    |false=>
     simp only[b8,a1,if_false,(hβ i hi).1];exact⟨fun h=>⟨h.1,fun hp=>h.2 (.inl hp)⟩,fun h=>⟨h.1,mut' (cx hi) hlv h.1⟩⟩
   ·rw[hB x hn]at hx;refine eP.carry hp.bM (fun k hk=>hp.ext.same k (.inr hk)) gD (hr.refs x o hx) (fun hlv=>⟨hp.ext.same _ (.inl (prot0 hn hx hlv)),hβn x hn⟩) (fun hlv fz hh=>?_) (hr.cg x o hx);have hp0:=prot0 hn hx hlv;cases fz with
    |true=>
     simp only[b8,if_true]at hh⊢;rw[(hβn x hn).1];exact hp.bM _ hh
    |false=>
     simp only[b8,a1,if_false]at hh⊢;rw[(hβn x hn).1];exact⟨fun hi=>(hp.fresh _ hi).elim hh.1 (fun h=>h hp0),hh.2⟩
  ·rcases split x with⟨i,hi,rfl⟩|hn<;>rcases split x' with⟨j,hj,rfl⟩|hn'
   ·have g1:=hA i _ (cx hi);have g2:=hA j _ (cx hj);rw[g1]at h1;cases h1;rw[g2]at h2;cases h2;rw[(hβ i hi).1,(hβ j hj).1]at he;rw[(hβ i hi).1]at hni;rw[hp.rel.inj i j _ _ (cx hi) (cx hj) (pE.1 l1) (pE.1 l2) hni he]
   ·have g1:=hA i _ (cx hi);rw[g1]at h1;cases h1;rw[hB x' hn']at h2;rw[(hβ i hi).1,(hβn x' hn').1]at he;rw[(hβ i hi).1]at hni;exact(mut' (cx hi) (pE.1 l1) hni (he▸prot0 hn' h2 l2)).elim
   ·have g2:=hA j _ (cx hj);rw[g2]at h2;cases h2;rw[hB x hn]at h1;rw[(hβ j hj).1,(hβn x hn).1]at he;rw[(hβn x hn).1]at hni;exact(mut' (cx hj) (pE.1 l2) (he▸hni) (he▸prot0 hn h1 l1)).elim
   ·rw[hB x hn]at h1;rw[hB x' hn']at h2;rw[(hβn x hn).1,(hβn x' hn').1]at he;rw[(hβn x hn).1]at hni;exact hr.inj _ _ _ _ h1 h2 l1 l2 (fun hi=>hni (hp.bM _ hi)) he
  ·rcases split x with⟨i,hi,rfl⟩|hn
   ·have hg:=hA i _ (cx hi);rw[hg]at hx;cases hx;rw[TP];exact(hp.rel.refs i _ (cx hi)).mono (fun y hy=>(hemb'.C5 (small' y hy)).2 hy)
   ·rw[hB x hn]at hx;exact(hr.refs x o hx).mono hinn
 refine⟨aG,?_,?_,?_⟩
 ·rw[<-hH2];refine⟨hp.bM,fun k hk=>(hp.fresh k hk).imp id (fun h h'=>h (.inl h')),⟨hp.ext.size,fun k hk=>hp.ext.same k (hk.imp .inl id),hp.ext.io⟩,gD,hrel,hinn,fun b hb=>?_⟩;rcases split b with⟨i,hi,rfl⟩|hx
  ·by_cases hi0:i<H0.length
   ·exact(hemb'.loop hi).2 (hp.loop i ((hemb.loop hi0).1 hb))
   ·obtain⟨L,hL⟩:=hb;rw[hnewH i (by omega) hi]at hL;cases hL
  ·unfold gv at hb⊢;rw[hB b hx];exact hb
 ·rw[<-hH2];show au P w' aD aG H2 (ct (sig bs base) v0) cv;rw[<-hσ];exact(hemb'.CG _ _ (aB.mono small' _ hvr)).2 hv
 ·rw[<-hH2];show aB (aF H2) (ct (sig bs base) v0);rw[<-hσ,A6];exact aB.mono (fun y hy=>(hemb'.C5 (small' y hy)).2 hy) _ hvr
theorem cX.frame{f:bb}{H0 bR:Heap}{fP:List AV}{g:AV}(h:cX P f H0 fP bR g)(bs:List Nat)(a:Nat)(r:bs.length=H0.length)(t:bs.Nodup)(s:∀b∈bs,b<a)
 (q:H0.length<=bR.length)(d:aQ (aF H0) fP)(u:∀(b:Nat)(o:Obj),H0[b]?=some o->o.refs (aF H0)):
 qI P f (cC (sig bs a) fP) a (di bs a H0 bR g):=by
 refine⟨h.1,fun H w aa ah β m x n _ aj aP=>?_⟩;obtain⟨dI,i,-,y,p,-,back⟩:=HA bs a r t s q d u x n aj aP;refine(h.2 w aa i dI m y p d).mono ?_;rintro e w' ⟨c,B,aD,rfl,v,z,A⟩;obtain⟨aG,j,k,l⟩:=back c w' B aD v z A;exact⟨c,aG,aD,rfl,j,k,l⟩
theorem gV.frame{b:Nat}{H0 bR:Heap}{fP:List AV}{i:AV}(h:gV P b H0 fP bR i)(bs:List Nat)(a:Nat)(x:bs.length=H0.length)(A:bs.Nodup)(z:∀b∈bs,b<a)
 (v:H0.length<=bR.length)(g:aQ (aF H0) fP)(B:∀(b:Nat)(o:Obj),H0[b]?=some o->o.refs (aF H0)):
 sB P (sig bs a b) (cC (sig bs a) fP) a (di bs a H0 bR i):=by
 intro H w aa ah β p D r _ aj aP;obtain⟨dI,j,t,E,s,y,back⟩:=HA bs a x A z v g B D r aj aP;have u:b<H0.length:=by
  obtain⟨L,q⟩:=h.1;exact(cy.1 q).1
 refine⟨(y b u).2 h.1,?_⟩;obtain⟨f,tmps,assign,body,d,e⟩:=h.2 w aa j dI p E s g;rw[t]at d e;refine⟨f,tmps,assign,body,d,fun n I=>?_⟩;obtain⟨c,w',J,aD,g1,C,F,G⟩:=e n I;obtain⟨aG,k,l,m⟩:=back c w' J aD C F G;exact⟨c,w',aG,aD,g1,k,l,m⟩
end
end Go.al
namespace Go.al
variable[Gl]
def jS(b:Nat):List Nat->Nat->Option Nat
 |[],_=>none
 |x::r,i=>bif ey x b then some i else jS b r (i+1)
theorem JV{b:Nat}:∀{l:List Nat}{i j:Nat},jS b l i=some j->i<=j/\l[j-i]?=some b
 |[],_,_,h=>by simp[jS]at h
 |x::r,i,j,h=>by
  simp only[jS]at h;cases a:ey x b
  ·simp only[a,cond_false]at h;obtain⟨d,c⟩:=JV h;refine⟨by omega,?_⟩;have e:j-i=(j-(i+1))+1:=by omega
   rw[e,List.getElem?_cons_succ];exact c
  ·simp only[a,cond_true,fv]at h;subst h;simp[c7 a]
section
variable(bs:List Nat)
mutual
def lr:AV->Option AV
 | .p v=>some (.p v)
 | .ptr b path=>match jS b bs 0 with
  |some i=>some (.ptr i path)
  |none=>none
 | .bQ b ar ai i path=>match jS b bs 0 with
  |some j=>some (.bQ j ar ai i path)
  |none=>none
 | .sl b ar ai off len=>match jS b bs 0 with
  |some j=>some (.sl j ar ai off len)
  |none=>none
 | .map b=>match jS b bs 0 with
  |some j=>some (.map j)
  |none=>none
 | .func f fi ca=>match ld fi,ld ca with
  |some a,some b=>some (.func f a b)
  |_,_=>none
 | .st u fs=>match ld fs with
  |some a=>some (.st u a)
  |none=>none
 | .aE vs=>match ld vs with
  |some a=>some (.aE a)
  |none=>none
def ld:List AV->Option (List AV)
 |[]=>some []
 |v::r=>match lr v,ld r with
  |some a,some b=>some (a::b)
  |_,_=>none
end
def Cc:Obj->Option Obj
 | .box fz t=>match lr bs t with
  |some a=>some (.box fz a)
  |none=>none
 | .arr k ar ai es=>match ld bs es with
  |some a=>some (.arr k ar ai a)
  |none=>none
 | .map fz es=>some (.map fz es)
 | .cZ ks vs=>match ld bs vs with
  |some a=>some (.cZ ks a)
  |none=>none
 | .dd s n=>some (.dd s n)
 | .dead=>some .dead
 |_=>none
def uV(H:Heap):List Nat->Option Heap
 |[]=>some []
 |b::r=>match H[b]? with
  |some o=>match Cc bs o,uV H r with
   |some a,some t=>some (a::t)
   |_,_=>none
  |none=>none
end
section
variable{bs:List Nat}{base:Nat}
theorem xM{b i:Nat}(h:jS b bs 0=some i):sig bs base i=b:=by
 have:=(JV h).2;simp only[Nat.sub_zero]at this;simp[sig,this]
mutual
theorem IY:∀{a c:AV},lr bs a=some c->ct (sig bs base) c=a
 | .p v,c,h=>by simp only[lr,fv]at h;subst h;rfl
 | .ptr b path,c,h=>by
  simp only[lr]at h
  split at h
  ·rename_i i hi;simp only[fv]at h;subst h;simp only[ct,xM hi]
  ·simp at h
 | .bQ b ar ai i path,c,h=>by
  simp only[lr]at h
  split at h
  ·rename_i i hi;simp only[fv]at h;subst h;simp only[ct,xM hi]
  ·simp at h
 | .sl b ar ai off len,c,h=>by
  simp only[lr]at h
  split at h
  ·rename_i i hi;simp only[fv]at h;subst h;simp only[ct,xM hi]
  ·simp at h
 | .map b,c,h=>by
  simp only[lr]at h
  split at h
  ·rename_i i hi;simp only[fv]at h;subst h;simp only[ct,xM hi]
  ·simp at h
 | .func f fi ca,c,h=>by
  simp only[lr]at h
  split at h
  ·rename_i a b d g;simp only[fv]at h;subst h;simp only[ct,nT d,nT g]
  ·simp at h
 | .st u fs,c,h=>by
  simp only[lr]at h
  split at h
  ·rename_i a d;simp only[fv]at h;subst h;simp only[ct,nT d]
  ·simp at h
 | .aE vs,c,h=>by
  simp only[lr]at h
  split at h
  ·rename_i a d;simp only[fv]at h;subst h;simp only[ct,nT d]
  ·simp at h
theorem nT:∀{l e:List AV},ld bs l=some e->cC (sig bs base) e=l
 |[],e,h=>by simp only[ld,fv]at h;subst h;rfl
 |v::r,e,h=>by
  simp only[ld]at h
  split at h
  ·rename_i a b d g;simp only[fv]at h;subst h;simp only[cC,IY d,nT g]
  ·simp at h
end
theorem Tl{o c:Obj}(h:Cc bs o=some c):dc (sig bs base) c=o:=by
 cases o<;>simp only[Cc]at h
 case box fz t=>
  split at h
  ·rename_i a b;simp only[fv]at h;subst h;simp only[dc,IY b]
  ·simp at h
 case arr k ar ai es=>
  split at h
  ·rename_i a b;simp only[fv]at h;subst h;simp only[dc,nT b]
  ·simp at h
 case cZ ks vs=>
  split at h
  ·rename_i a b;simp only[fv]at h;subst h;simp only[dc,nT b]
  ·simp at h
 case hole=>simp at h
 case loop=>simp at h
 all_goals (simp only[fv]at h;subst h;rfl)
theorem HE{H:Heap}:∀{l:List Nat}{H0:Heap},uV bs H l=some H0->H0.length=l.length/\∀p∈l.zip (H0.map (dc (sig bs base))),H[p.1]?=some p.2
 |[],H0,h=>by simp only[uV,fv]at h;subst h;simp
 |b::r,H0,h=>by
  simp only[uV]at h
  split at h
  case h_2=>simp at h
  rename_i o f
  split at h
  case h_2=>simp at h
  rename_i a t d e;simp only[fv]at h;subst h;obtain⟨i1,i2⟩:=HE e;refine⟨by simp[i1],fun p c=>?_⟩;simp only[dg,List.zip_cons_cons,da]at c;rcases c with rfl|c
  ·simp only[Tl d];exact f
  ·exact i2 p c
end
mutual
def NA:AV->List Nat->List Nat
 | .p _,acc=>acc
 | .ptr b _,acc| .bQ b _ _ _ _,acc| .sl b _ _ _ _,acc| .map b,acc=>b::acc
 | .func _ fi ca,acc=>s9 fi (s9 ca acc)
 | .st _ fs,acc| .aE fs,acc=>s9 fs acc
def s9:List AV->List Nat->List Nat
 |[],acc=>acc
 |v::r,acc=>NA v (s9 r acc)
end
def Yf:Obj->List Nat
 | .box _ t=>NA t []
 | .arr _ _ _ es=>s9 es []
 |_=>[]
def Cp(H:Heap):Nat->List Nat->List Nat->List Nat
 |0,_,acc=>acc
 |_,[],acc=>acc
 |n+1,b::r,acc=>match jS b acc 0 with
  |some _=>Cp H n r acc
  |none=>Cp H n (match H[b]? with
   |some o=>Yf o++r
   |none=>r) (b::acc)
def nodupB:List Nat->Bool
 |[]=>true
 |x::r=>(match jS x r 0 with
  |some _=>false
  |none=>true)&&nodupB r
theorem HL{b:Nat}:∀{l:List Nat}{i:Nat},jS b l i=none->b∉l
 |[],_,_=>by simp
 |x::r,i,h=>by
  simp only[jS]at h;cases a:ey x b
  ·simp only[a,cond_false]at h;have:=HL h;simp only[da,not_or];refine⟨fun e=>?_,this⟩;subst e;rw[fd]at a;cases a
  ·simp[a]at h
theorem HT:∀{l:List Nat},nodupB l=true->l.Nodup
 |[],_=>List.nodup_nil
 |x::r,h=>by
  simp only[nodupB,a0]at h;rw[dz];refine⟨?_,HT h.2⟩;have a:=h.1
  split at a
  ·simp at a
  ·rename_i b;exact HL b
def y6(H:Heap)(b v:Nat):Bool:=match H[b]? with
 |some .hole|none=>false
 |some (.arr _ ar _ _)=>e6 v ar
 |some _=>true
theorem Yh{H:Heap}{b v:Nat}(h:y6 H b v=true):aF H (b,v):=by
 unfold y6 at h
 split at h
 ·simp at h
 ·simp at h
 ·rename_i k ar ai c a;exact⟨_,a,cK h⟩
 ·rename_i o d e a;refine⟨o,a,?_⟩;cases o with
  |hole=>exact(d rfl).elim
  |arr k ar ai c=>exact(e _ _ _ _ rfl).elim
  |_=>trivial
mutual
def qw(H:Heap):AV->Bool
 | .p _=>true
 | .ptr b _| .map b=>y6 H b 0
 | .bQ b ar _ _ _| .sl b ar _ _ _=>y6 H b ar
 | .func _ fi ca=>ma H fi&&ma H ca
 | .st _ fs| .aE fs=>ma H fs
def ma(H:Heap):List AV->Bool
 |[]=>true
 |v::r=>qw H v&&ma H r
end
mutual
theorem A7{H:Heap}:∀{a:AV},qw H a=true->aB (aF H) a
 | .p _,_=>by simp[aB]
 | .ptr _ _,h| .map _,h| .bQ _ _ _ _ _,h| .sl _ _ _ _ _,h=>by
  simp only[qw]at h;simp only[aB];exact Yh h
 | .func _ fi ca,h=>by
  simp only[qw,a0]at h;simp only[aB];exact⟨nU h.1,nU h.2⟩
 | .st _ _,h| .aE _,h=>by
  simp only[qw]at h;simp only[aB];exact nU h
theorem nU{H:Heap}:∀{l:List AV},ma H l=true->aQ (aF H) l
 |[],_=>by simp[aQ]
 |v::r,h=>by
  simp only[ma,a0]at h;simp only[aQ];exact⟨A7 h.1,nU h.2⟩
end
def yd(H:Heap):Obj->Bool
 | .box _ t=>qw H t
 | .arr _ _ _ es=>ma H es
 | .cZ _ vs=>ma H vs
 | .loop _=>false
 |_=>true
theorem HO{H:Heap}{o:Obj}(h:yd H o=true):o.refs (aF H):=by
 cases o<;>simp only[yd]at h<;>simp only[Obj.refs]
 ·exact A7 h
 ·exact nU h
 ·exact nU h
 ·simp at h
def qj(p:Obj->Bool):List Obj->Bool
 |[]=>true
 |o::r=>p o&&qj p r
theorem uO{p:Obj->Bool}:∀{l:List Obj},qj p l=true->∀o∈l,p o=true
 |[],_,o,h=>by simp at h
 |a::r,h,o,b=>by
  simp only[qj,a0]at h;rcases da.1 b with rfl|b
  ·exact h.1
  ·exact uO h.2 o b
def xY(n:Nat):List Nat->Bool
 |[]=>true
 |x::r=>e6 (x+1) n&&xY n r
theorem B7{n:Nat}:∀{l:List Nat},xY n l=true->∀x∈l,x<n
 |[],_,o,h=>by simp at h
 |a::r,h,o,b=>by
  simp only[xY,a0]at h;rcases da.1 b with rfl|b
  ·exact cK h.1
  ·exact B7 h.2 o b
def xV:Obj->Bool
 | .hole=>false
 |_=>true
def u9(run:List AV->Heap->Option (AV×Heap))(args:List AV)(H:Heap):Option aS:=
 let bs:=Cp H 1000 (s9 args []) []
 match ld bs args,uV bs H bs with
 |some fP,some H0=>bif nodupB bs&&(xY H.length bs&&(ma H0 fP&&qj (yd H0) H0))then
  match run fP H0 with
  |some (v0,H1)=>bif e6 H0.length H1.length&&(qj xV (H1.take H0.length))then some (di bs H.length H0 H1 v0)else none
  |none=>none
  else none
 |_,_=>none
theorem AY{P:a7}{f:bb}{run:List AV->Heap->Option (AV×Heap)}(n:∀args H v H',run args H=some (v,H')->cX P f H args H' v){args:List AV}{H:Heap}{e:aS}(h:u9 run args H=some e):
 qI P f args H.length e/\oL H e:=by
 unfold u9 at h;dsimp only at h
 split at h
 case h_2=>simp at h
 rename_i fP H0 g i;simp only[aT,fl,a0]at h;obtain⟨⟨g1,g2,g3,g4⟩,h⟩:=h
 split at h
 case h_2=>simp at h
 rename_i q H1 j;simp only[fl,fv]at h;obtain⟨⟨g5,g7⟩,rfl⟩:=h;obtain⟨k1,k2⟩:=HE (base:=H.length) i;have hf:=(n _ _ _ _ j).frame _ H.length k1.symm (HT g1) (B7 g2) (cK g5) (nU g3) (fun b o k=>HO (uO g4 o (dl k)));rw[nT g]at hf;refine⟨hf,k2,fun p d=>?_⟩;simp only[di]at d;have c:=dq d;refine⟨B7 g2 _ c.1,fun l=>?_⟩;obtain⟨o,m,a⟩:=ew.1 c.2;rw[l]at a;have:=uO g7 o m;rw[UT.1 a]at this;simp[xV]at this
mutual
theorem yc:∀v:AV,ct (fun i=>i) v=v
 | .p _| .sl .. | .bQ .. | .ptr .. | .map _=>rfl
 | .st u vs=>by simp only[ct,pJ vs]
 | .aE vs=>by simp only[ct,pJ vs]
 | .func f a b=>by simp only[ct,pJ a,pJ b]
theorem pJ:∀l:List AV,cC (fun i=>i) l=l
 |[]=>rfl
 |v::l=>by simp only[cC,yc v,pJ l]
end
theorem Ie:∀e:Env,sF (fun i=>i) e=e
 |[]=>rfl
 |(x,v)::r=>by simp only[sF,yc v,Ie r]
theorem aBP(o:Obj):dc (fun i=>i) o=o:=by
 cases o<;>simp only[dc,yc,pJ,Ie]
theorem Lr(n:Nat):sig (c9 n) n=fun i=>i:=by
 funext i
 by_cases h:i<n
 ·rw[rX (by simpa using h)];simp
 ·rw[rY (by simpa using h)];simp;omega
def vI(H:Heap):List (Nat×Obj):=(c9 H.length).zip H
theorem Yg{H:Heap}{p:Nat×Obj}(h:p∈vI H):H[p.1]?=some p.2:=by
 rw[vI,db]at h;obtain⟨i,hi,a⟩:=h;rw[List.getElem_zip]at a;subst a;simp
def yV(H:Heap):Env->Bool
 |[]=>true
 |(_,v)::r=>qw H v&&yV H r
theorem KP{H:Heap}:∀{e:Env},yV H e=true->∀x,aB (aF H) (aK e x)
 |[],_,x=>by simp[aK,aB]
 |(y,v)::r,h,x=>by
  simp only[yV,a0]at h;simp only[aK]
  split
  ·exact A7 h.1
  ·exact KP h.2 x
def LY(H:Heap):Obj->Bool
 | .loop L=>yV H L.env
 |o=>yd H o
theorem TQ{H:Heap}{o:Obj}(h:LY H o=true):o.refs (aF H):=by
 cases o<;>first
  |exact HO h
  |exact KP h
def BO(run:Nat->Heap->List AV->Option (Heap×AV))(b:Nat)(args:List AV)(H:Heap):Option aS:=
 bif ma H args&&qj (LY H) H then
  match run b H args with
  |some (H1,v)=>bif e6 H.length H1.length&&(qj xV (H1.take H.length))then some {v,aj:=vI H,aI:=(c9 H.length).zip (H1.take H.length),aP:=H1.drop H.length}else none
  |none=>none
 else none
theorem SS{P:a7}{run:Nat->Heap->List AV->Option (Heap×AV)}(k:∀b H args H' v,run b H args=some (H',v)->gV P b H args H' v){b:Nat}{args:List AV}{H:Heap}{e:aS}(h:BO run b args H=some e):
 sB P b args H.length e/\oL H e:=by
 unfold BO at h;simp only[aT,fl,a0]at h;obtain⟨⟨g3,g4⟩,h⟩:=h
 split at h
 case h_2=>simp at h
 rename_i H1 f g;simp only[fl,fv]at h;obtain⟨⟨g5,g7⟩,rfl⟩:=h;have hf:=(k _ _ _ _ _ g).frame (c9 H.length) H.length (by simp) ej (fun b a=>by simpa using a) (cK g5) (nU g3) (fun b o a=>TQ (uO g4 o (dl a)));have e:di (c9 H.length) H.length H H1 f={v:=f,aj:=vI H,aI:=(c9 H.length).zip (H1.take H.length),aP:=H1.drop H.length}:=by
  simp only[di,Lr,yc];rw[show(dc fun i=>i)=id from funext aBP,ec,ec,ec,vI]
 rw[e,Lr,pJ]at hf;refine⟨hf,fun p c=>Yg c,fun p c=>?_⟩;have d:=dq c;refine⟨by simpa using d.1,fun j=>?_⟩;have:=uO g7 p.2 d.2;rw[j]at this;simp[xV]at this
end Go.al
