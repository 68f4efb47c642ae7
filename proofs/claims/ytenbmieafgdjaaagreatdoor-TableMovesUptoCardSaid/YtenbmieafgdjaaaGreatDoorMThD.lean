import Derived.Test.YtenbmieafgdjaaaGreatDoorMThC
/- Parts of a proof. -/
set_option linter.unusedSimpArgs false
set_option linter.unusedVariables false
set_option linter.unusedSectionVars false
open Array renaming getElem?_eq_some_iff->ao, getElem?_eq_getElem->ap, replicate->av, getD_eq_getD_getElem?->ax
open BitVec renaming ofInt->ay
open Bool renaming cond_eq_ite->aT, and_eq_true->a0, false_eq_true->a1
open Go renaming TypeId->a6, Program->a7, Operand->a8, FuncId->bb, BinOp->be, Value->bi, IntKind->bk, World->bl, ResultVar->bo, mem_ready->bv, getD_set_ne->b0, Frame->b1
open Go.Region renaming ready->b2, schedule->b3, binds->b4
open Go.Region.linearise renaming go->b5
open Go.Utf8 renaming decode->cb
open Int renaming natCast_nonneg->cc, ofNat_eq_natCast->ce, toNat_natCast->ck
open List renaming getElem?_eq_getElem->cx, getElem?_eq_some_iff->cy, replicate->c6, range->c9, mem_cons->da, mem_iff_getElem->db, map_cons->dg, all_eq_true->dk, mem_of_getElem?->dl, isEmpty_cons->dp, of_mem_zip->dq, nodup_cons->dz, map_nil->ea, mem_append_right->eb, map_id->ec, mem_map_of_mem->ed, mem_range'_1->ee, countP_congr->ei, nodup_range->ej, getElem_mem->em, countP_cons->en, mem_append->eo, map_append->eq, mem_map->ew
open Nat renaming beq->e6, ble->e7, ble_eq_true_of_le->e8, zero_le->e9, le_refl->fb, strongRecOn->fd, beq_refl->fl
open Option renaming ite_none_right_eq_some->fm, getD_some->fv
open Option.some renaming injEq->fK
namespace Go.al
set_option linter.unusedSectionVars false
variable[Gl]
section
variable{P:a7}{ag:bb->Bool}{n:Nat}
variable{ops:Array Oper}{es:List (St×aU)}{s':St}
theorem cN.congr{ah aa:Nat->Prop}{β:Bd}{s u:St}{t:Array bi}{w:bl}(h:cN P n ah aa β s t w)(b:∀x,aN u.env x=aN s.env x)(a:u.heap=s.heap):cN P n ah aa β u t w:=by
 refine⟨by rw[a];exact h.heap,fun x=>?_,fun x=>?_,h.size⟩
 ·rw[b,a];exact h.env x
 ·rw[b,a];exact h.gh x
theorem cN.mr{ah aa:Nat->Prop}{β:Bd}{s:St}{t:Array bi}{w:bl}(m:Nat)(h:cN P n ah aa β s t w):cN P n ah aa β ⟨s.env,s.heap++c6 m .hole⟩ t w:=
 ⟨h.heap.mr m,fun x=>aw.mono (fun _ x=>x) (fun _ _=>rfl) (nY β s.heap m) _ _ (h.gh x) (h.env x),fun x=>aB.mono (lY _ _) _ (h.gh x),h.size⟩
theorem VE{o:Oper}{e e':Env}(h:∀x∈looks ops o,aN e' x=aN e x):∀x∈o.op.operands,ev e' x=ev e x:=by
 intro x hx;cases x with
 |tmp t=>
  simp only[ev];refine h t ?_;simp only[looks,eo,List.mem_filterMap];exact .inl ⟨.tmp t,by simpa using hx,rfl⟩
 |_=>rfl
theorem iJ.run(h:iJ P n ops es s'){D:Nat->Prop}(hc:u7 ops D){i:Nat}{o:Oper}(a:ops[i]?=some o)(x:¬D i)(z:∀e∈o.after,b4 .any e=true->D e.on){s:St}(m:At ops es s' D s)
 {fr:b1}{k:List Item}{cs:List b1}{r:List Nat}{ds:List Deferred}{ah aa:Nat->Prop}{β:Bd}{t:Array bi}{w:bl}(b:cN P n ah aa β s t w):
 ∃u aE aH d w',Steps P (lone (bA fr t ds (.inRegion ops (i::r)::k)) cs w) (lone (bA fr d ds (.inRegion ops r::k)) cs w')/\cN P n ah aE aH u d w'/\(∀N,dI N ah aa w β s.heap ah aE w' aH u.heap)/\At ops es s' (fun j=>D j\/j=i) u:=by
 obtain⟨g,A⟩:=h.reads hc a x z m;have hi:i<ops.size:=(ao.1 a).1;obtain⟨v,_⟩:=h.at_ i o a;have c:=h.next hc a x z m;have q:iI n o=true:=h.dst o (by rw[Array.mem_toList_iff];exact Array.mem_of_getElem? a);have H:=h.vG (k:=i) (by omega);rcases v.act with⟨f,C⟩|⟨f,E⟩
 ·obtain⟨aE,aH,d,w',B,a2,a3⟩:=C fr k cs ops i r ds ah aa β s t w a (f t s ah aa β w b g) q b (VE g) (by
   intro p y;rw[A p.1 (.inl (ed y))];have:=v.aj p y;unfold hx;rw[List.getElem?_append_left (cy.1 this).1];exact this) (by
   intro j G;have F:(cZ es s' i).heap.length+j∈wr es s' i:=by
    unfold wr tA;rw[eq,rJ];exact eb _ (GI.2 ⟨by omega,by omega⟩)
   rw[A _ (.inr F)];have l:=h.vG (k:=i+1) (by omega);rw[(h.at_ i o a).2]at l;simp only[aU.app,List.length_append,nW]at l;unfold hx;rw[jI,if_neg (by omega),if_pos (by omega)])
  exact⟨_,aE,aH,d,w',B,a2,a3,c⟩
 ·rw[E]at c;simp only[newAt,List.append_nil,ba]at c;exact⟨_,aa,β,_,w,.one (Im a (f t s ah aa β w b g)),b.put q (bV.refl b.heap) (by simp[aw,aA,bn,undef]) (by simp[aB]),fun _=>dI.refl _ _ _ _ _ _,c⟩
def isDone(a:Array Bool)(i:Nat):Prop:=a.getD i false=true
theorem Ho{p:Nat->Bool}{i:Nat}:∀{l:List Nat},l.Nodup->i∈l->p i=true->l.countP p=l.countP (fun x=>p x&&x !=i)+1
 |[],_,h,_=>by simp at h
 |a::l,c,h,d=>by
  rw[dz]at c
  by_cases b:a=i
  ·subst b;have e:l.countP (fun x=>p x&&x !=a)=l.countP p:=by
    refine ei fun x hx=>?_;have:x≠a:=fun e=>c.1 (e▸hx);simp[this]
   simp[d,e]
  ·have f:i∈l:=by
    rcases da.1 h with h|h
    ·exact(b h.symm).elim
    ·exact h
   have g:=Ho c.2 f d;rw[en,en,g];have:(a !=i)=true:=by simpa using b
   simp only[this,Bool.and_true];omega
def left(b:Array Oper)(a:Array Bool):Nat:=(c9 b.size).countP fun i=>!a.getD i true
theorem iJ.goes(h:iJ P n ops es s'){fr:b1}{k:List Item}{cs:List b1}{ds:List Deferred}{ah:Nat->Prop}:∀(c b:Nat)(a:Array Bool)(s:St)(aa:Nat->Prop)(β:Bd)(t:Array bi)(w:bl),a.size=ops.size->left ops a<=c->u7 ops (isDone a)->
 At ops es s' (isDone a) s->cN P n ah aa β s t w->
 ∃u D aE aH R w',Steps P (lone (bA fr t ds (.inRegion ops (b5 .any ops c b a [])::k)) cs w) (lone (bA fr R ds (.inRegion ops []::k)) cs w')/\cN P n ah aE aH u R w'/\(∀N,dI N ah aa w β s.heap ah aE w' aH u.heap)/\At ops es s' D u/\∀j,j<ops.size->D j:=by
 have L:∀(a:Array Bool),a.size=ops.size->b2 .any ops a=[]->∀j,j<ops.size->isDone a j:=by
  intro a q f j
  induction j using fd with
  |_ j K=>
   intro d
   by_cases A:isDone a j
   ·exact A
   ·exfalso;have G:j<a.size:=by omega
    have:j∈b2 .any ops a:=by
     rw[bv];refine⟨?_,ops[j],ap d,fun e B z=>?_⟩
     ·unfold isDone at A;simp only[ax,ap G,fv]at A⊢;simpa using A
     ·have H:=h.lower j _ (ap d) e B z;exact K e.on H (by omega)
    rw[f]at this;simp at this
 intro c
 induction c with
 |zero=>
  intro b a s aa β t w q O hc y C;have f:b2 .any ops a=[]:=by
   rw[List.eq_nil_iff_forall_not_mem];intro j d;rw[bv]at d;obtain⟨g,o,m,_⟩:=d;have G:j<ops.size:=(ao.1 m).1;have:0<left ops a:=by
    unfold left;rw[List.countP_pos_iff];exact⟨j,by simpa using G,by rw[g];rfl⟩
   omega
  exact⟨s,isDone a,aa,β,t,w,by simp only[b5,List.reverse_nil];exact Steps.refl _ _,C,fun _=>dI.refl _ _ _ _ _ _,y,L a q f⟩
 |succ c K=>
  intro b a s aa β t w q O hc y C;have ac:b5 .any ops (c+1) b a []=(match(b2 .any ops a)[b% (b2 .any ops a).length]? with
   |some i=>b5 .any ops c (b/(b2 .any ops a).length) (a.setIfInBounds i true) [i]
   |none=>[].reverse):=rfl
  rw[ac];cases hi:(b2 .any ops a)[b% (b2 .any ops a).length]? with
  |none=>
   have f:b2 .any ops a=[]:=by
    cases f:b2 .any ops a with
    |nil=>rfl
    |cons x xs=>
     rw[f]at hi;have H:b% (x::xs).length<(x::xs).length:=Nat.mod_lt _ (by simp);rw[cx H]at hi;cases hi
   exact⟨s,isDone a,aa,β,t,w,Steps.refl _ _,C,fun _=>dI.refl _ _ _ _ _ _,y,L a q f⟩
  |some i=>
   simp only;rw[linearise_go_acc,List.reverse_singleton,List.singleton_append];have af:=dl hi;obtain⟨g,o,m,Q⟩:=bv.1 af;have ad:i<ops.size:=(ao.1 m).1;have E:i<a.size:=by omega
   have ag:¬isDone a i:=by
    unfold isDone;simp only[ax,ap E,fv]at g⊢;simp[g]
   obtain⟨u,S,ak,t1,ai,U,a2,a3,a4⟩:=h.run (fr:=fr) (k:=k) (cs:=cs) (ds:=ds) (r:=b5 .any ops c (b/(b2 .any ops a).length) (a.setIfInBounds i true) []) hc m ag Q y C;have M:(fun j=>isDone a j\/j=i)=isDone (a.setIfInBounds i true):=by
    funext j
    unfold isDone
    by_cases F:j=i
    ·subst F;simp[E]
    ·have:(a.setIfInBounds i true).getD j false=a.getD j false:=b0 false (Ne.symm F);rw[this];simp[F]
   rw[M]at a4;have ab:u7 ops (isDone (a.setIfInBounds i true)):=by
    rw[<-M];intro j o' I d e B z;rcases d with d|rfl
    ·exact .inl (hc j o' I d e B z)
    ·rw[m]at I;cases I;exact .inl (Q e B z)
   have ae:left ops (a.setIfInBounds i true)<=c:=by
    have am:=Ho (p:=fun j=>!a.getD j true) (i:=i) (l:=c9 ops.size) ej (by simpa using ad) (by show(!a.getD i true)=true;rw[g];rfl);have:left ops (a.setIfInBounds i true)=(c9 ops.size).countP (fun x=>!a.getD x true&&x !=i):=by
     unfold left;refine ei fun x hx=>?_
     by_cases J:x=i
     ·subst J;simp[E]
     ·have:(a.setIfInBounds i true).getD x true=a.getD x true:=b0 true (Ne.symm J);rw[this];simp[J]
    unfold left at O;omega
   obtain⟨v,D,T,al,t2,aj,V,W,X,Y,Z⟩:=K (b/(b2 .any ops a).length) (a.setIfInBounds i true) u S ak t1 ai (by simpa using q) ae ab a4 a2;exact⟨v,D,T,al,t2,aj,U.trans V,W,fun N=>(a3 N).trans (X N),Y,Z⟩
theorem VC(h:fit n ops=true):(∀j o,ops[j]?=some o->∀e∈o.after,b4 .any e=true->e.on<j)/\
 (∀i j u o,i<j->ops[i]?=some u->ops[j]?=some o->pG ops u o=true->reach ops ops.size i j=true):=by
 unfold fit at h;rw[dk]at h;constructor
 ·intro j o a e f c;have b:j<ops.size:=(ao.1 a).1;have:=h j (by simpa using b);rw[a]at this;simp only[a0,dk]at this;have:=this.1 e (by simpa using f);simpa[c]using this
 ·intro i j u o g k a d;have b:j<ops.size:=(ao.1 a).1;have:=h j (by simpa using b);rw[a]at this;simp only[a0,dk]at this;have:=this.2 i (by simpa using g);rw[k]at this;simpa[d]using this
theorem w8(C:kU P ag)(Z:P.follows .mixedOrders=true):rM P ag fit:=by
 intro n N a fr k cs F f K s ah aa β t w T B h ab;obtain⟨es,s',I,J,M⟩:=Ji C B a.toList 0 [] s (fun _ h=>h) h;obtain⟨t1,t2,t3⟩:=I.at;obtain⟨_,_,O⟩:=HE es 0 [] M;obtain⟨f1,f2⟩:=VC (n:=n) T;have X:es.length=a.size:=by simpa using t1
 have hs:iJ P n a es s':=by
  refine⟨X,fun k o c=>t3 k o (by simpa using c),B,f1,f2,fun i j U ai v=>?_⟩;have hi:i<es.length:=by omega
  have A:j<es.length:=by omega
  have G:es[i]?=some (es[i].1,es[i].2):=by simp[cx hi]
  have H:es[j]?=some (es[j].1,es[j].2):=by simp[cx A]
  have:=O i j es[i].1 es[i].2 es[j].1 es[j].2 U G H;simp only[Nat.zero_add]at this;refine this ?_;have g:cZ es s' i=es[i].1/\ft es i=es[i].2:=by simp[cZ,ft,cx hi]
  have q:cZ es s' j=es[j].1/\ft es j=es[j].2:=by simp[cZ,ft,cx A]
  rw[g.1,g.2,q.1,q.2]at v;exact v
 have V:=hs.vG (k:=0) (e9 _);rw[t2]at V;obtain⟨m,Y⟩:∃m,m=s'.heap.length-s.heap.length:=⟨_,rfl⟩
 have ac:=ab.mr m;have Q:∀N,dI N ah aa w β s.heap ah aa w β (s.heap++c6 m .hole):=fun N=>⟨fun _ x=>x,fun _ x=>x,fun _ x=>.inl x,Ext.refl _ _ _,(nY _ _ _).n,fun x _=>lY _ _ x,fun b _⟨L,r⟩=>⟨L,by rw[jI,if_pos (cy.1 r).1];exact r⟩⟩
 have ad:b3 (P.follows .mixedOrders) a f=b5 .any a a.size f (av a.size false) []:=by
  simp[b3,Z,Region.linearise]
 have e:∀i,¬isDone (av a.size false) i:=by
  intro i hi;unfold isDone at hi
  by_cases z:i<a.size
  ·simp[z]at hi
  ·simp[z]at hi
 have R:At a es s' (isDone (av a.size false)) ⟨s.env,s.heap++c6 m .hole⟩:=by
  refine⟨fun x=>⟨0,e9 _,by rw[t2],fun i o _ _=>⟨fun h=>(e i h).elim,fun h=>by omega⟩⟩,by simp;omega,fun b=>⟨0,e9 _,by rw[t2];unfold hx;rw[<-Y],fun i _ _=>⟨fun h=>(e i h).elim,fun h=>by omega⟩⟩⟩
 have W:left a (av a.size false)<=a.size:=by
  unfold left;have:=List.countP_le_length (p:=fun i=>!(av a.size false).getD i true) (l:=c9 a.size);simpa using this
 obtain⟨u,D,aE,aH,af,w',E,a2,a3,a4,a5⟩:=hs.goes (fr:=fr) (k:=k) (cs:=cs) (ds:=F) a.size f (av a.size false) _ aa β t w (by simp) W (fun j o c d=>(e j d).elim) R ac;rw[ad];have S:∀x,aN s'.env x=aN u.env x:=by
  intro x;obtain⟨k,k1,k2,k3⟩:=a4.tmp x;rw[k2];have:=hs.Kt (x:=x) k1 (fb a.size) (fun i o c d=>by
   have hi:i<a.size:=(ao.1 c).1;have:=(k3 i o c d).1 (a5 i hi);exact⟨fun _=>hi,fun _=>this⟩)
  rw[hs.last]at this;exact this
 have y:s'.heap=u.heap:=by
  apply List.ext_getElem?;intro b;obtain⟨k,k1,k2,k3⟩:=a4.heap b;rw[k2];have:=hs.Ke (b:=b) k1 (fb a.size) (fun i hi ae=>by
   have:=(k3 i hi ae).1 (a5 i hi);exact⟨fun _=>hi,fun _=>this⟩)
  rw[hs.last]at this;rw[<-this];simp[hx]
 exact⟨s',aE,aH,af,w',J,E,a2.congr S y,(Q N).trans (y▸a3 N)⟩
end
section
variable{P:a7}
structure an(P:a7)(f:bb)(fn:Func):Prop where
 func:P.funcs[f]?=some fn
 stat:(fn.body.isSome&&(fn.name != "runtime.NumGoroutine")&&codeOk fit fn.ntmps (fn.body.getD .skip))=true
theorem an.enters{f:bb}{fn:Func}(h:an P f fn):Enters P f:=by
 intro args w;have hs:=h.stat;simp only[a0,bne_iff_ne]at hs;cases a:fn.body with
 |none=>rw[a]at hs;simp at hs
 |some c=>simp[callFunc,h.func,hs.1.2,a]
def Ends(P:a7)(a:List bo)(v:PV)(e:bu)(s:St):Prop:=
 (match e with
  | .exit _=>False
  |_=>True)/\∃vs,fu P s a=some vs/\dY s.heap 9 (oneOf vs)=some v
theorem ze{f:bb}{fn:Func}(ag:bb->Bool)(h:an P f fn)(b:P.follows .mixedOrders=true){args:List PV}{v:PV}(c:args.length<=fn.ntmps)
 (d:cd P ag (fn.ntmps,0) (fn.body.getD .skip) (Ends P fn.results.toList v) ⟨iu 0 (args.map .p),[]⟩):az P f args v:=by
 have hs:=h.stat;simp only[a0,bne_iff_ne]at hs;have a:fn.body=some (fn.body.getD .skip):=by
  have:=hs.1.1;cases e:fn.body<;>simp_all
 exact .inl (JE (nX ag) (w8 (nX ag) b) h.enters h.func a hs.2 c d)
class aE1(P:a7)(f:bb)(args:List PV)(pre:outParam Prop)(v:outParam PV):Prop where
 ze:pre->az P f args v
section calls
variable{f:bb}{H:Heap}{pre:Prop}{v:PV}
end calls
def qH(e:Env):Env->Prop
 |[]=>True
 |(x,v)::r=>aN e x=v/\qH e r
def jT:Heap->Heap->Prop
 |_,[]=>True
 |[],.hole::t=>jT [] t
 |_::h,.hole::t=>jT h t
 |o::h,o'::t=>o=o'/\jT h t
 |[],_::_=>False
theorem qH.get{e:Env}:∀{t:Env},qH e t->∀x,aN t x=aN e x\/aN t x=.p .undef
 |[],_,x=>.inr rfl
 |(y,v)::t,h,x=>by
  simp only[qH]at h;simp only[aN]
  split
  ·rename_i hx;subst hx;exact .inl h.1.symm
  ·exact qH.get h.2 x
theorem jT.get:∀{h t:Heap},jT h t->∀(b:Nat)(o:Obj),t[b]?=some o->o=.hole\/h[b]?=some o
 |_,[],_,b,o,a=>by simp at a
 |[],o'::t,hk,b,o,a=>by
  cases o'<;>simp only[jT]at hk;cases b with
  |zero=>simp at a;exact .inl a.symm
  |succ b=>exact(jT.get hk b o (by simpa using a)).imp id (fun h=>by simp at h)
 |c::h,o'::t,hk,b,o,a=>by
  cases b with
  |zero=>
   simp at a;cases o'<;>simp only[jT]at hk
   case hole=>exact .inl a.symm
   all_goals exact .inr (by rw[<-a,<-hk.1];simp)
  |succ b=>
   have:jT h t:=by cases o'<;>simp only[jT]at hk<;>first|exact hk|exact hk.2
   exact(jT.get this b o (by simpa using a)).imp id (fun h=>by simpa using h)
def iy(H:Heap):Env->Prop
 |[]=>True
 |(_,v)::r=>aB (aG H) v/\iy H r
def er(H:Heap):Heap->Prop
 |[]=>True
 |o::r=>o.refs (aG H)/\er H r
theorem iy.get{H:Heap}:∀{e:Env},iy H e->∀x,aB (aG H) (aN e x)
 |[],_,x=>by simp[aN,aB]
 |(y,v)::e,h,x=>by
  simp only[iy]at h;simp only[aN]
  split
  ·exact h.1
  ·exact iy.get h.2 x
theorem er.get{H:Heap}:∀{h:Heap},er H h->∀(b:Nat)(o:Obj),h[b]?=some o->o.refs (aG H)
 |[],_,b,o,a=>by simp at a
 |d::h,c,b,o,a=>by
  simp only[er]at c;cases b with
  |zero=>simp at a;subst a;exact c.1
  |succ b=>exact er.get c.2 b o (by simpa using a)
theorem oO.of{s t:St}(a:qH s.env t.env)(c:jT s.heap t.heap)(e:iy t.heap t.env)(f:er t.heap t.heap):oO s t:=
 ⟨fun x=>(a.get x).imp id .inl,fun b o d=>(c.get b o d).imp id .inl,e.get,f.get⟩
theorem cX.of{N:Nat}{s t:St}(e:t.heap.take N=s.heap.take N)(c:qH s.env t.env)(d:jT s.heap t.heap)(f:iy t.heap t.env)(g:er t.heap t.heap):cX N s t:=by
 refine .inr ⟨oO.of c d f g,fun b a=>?_⟩;have:=congrArg (fun l:Heap=>l[b]?) e;simpa[List.getElem?_take,a]using this
theorem NR{f:bb}{fn:Func}(ag:bb->Bool)(h:an P f fn)(b:P.follows .mixedOrders=true){args:List AV}{H H':Heap}{v:AV}(c:args.length<=fn.ntmps)
 (d:cd P ag (fn.ntmps,H.length) (fn.body.getD .skip) (sR P fn.results.toList H.length H' v) ⟨iu 0 args,H⟩):b9 P f H args H' v:=by
 have hs:=h.stat;simp only[a0,bne_iff_ne]at hs;have a:fn.body=some (fn.body.getD .skip):=by
  have:=hs.1.1;cases e:fn.body<;>simp_all
 exact VB (nX ag) (w8 (nX ag) b) h.enters h.func a hs.2 c d
theorem NT(ag:bb->Bool)(f:P.follows .mixedOrders=true){b:Nat}{L:fc}{H H':Heap}{args:List AV}{v:AV}(d:H[b]?=some (.loop L))(e:args.length=L.params.length)
 (a:(L.params.all (fun x=>decide (x<L.n))&&codeOk fit L.n L.assign&&codeOk fit L.n L.body)=true)(g:xN P ag L b args H (fun c h=>h=v/\cX H.length ⟨[],c⟩ ⟨[],H'⟩)):ic P b H args H' v:=by
 simp only[a0,dk,decide_eq_true_eq]at a;exact VA (nX ag) (w8 (nX ag) f) d e a.1.1 a.1.2 a.2 g
theorem again{N:Nat}{α:Type}{mk:α->St}{ok:α->Prop}{m:α->Nat}{n:Nat}{s':St}(a':α)(c:m a'<n)(d:ok a')(e:cX N s' (mk a')):∃a b,a<n/\cX N s' b/\∃a',ok a'/\b=mk a'/\a=m a':=
 ⟨m a',mk a',c,e,a',d,rfl,rfl⟩
end
section
variable{P:a7}{ag:bb->Bool}
def aP{α:Type}(F:(α->Prop)->Prop):Prop:=∀K,F K->∃a,K a/\∀b:α->Prop,b a->F b
theorem aP.one{α β:Type}(f:β->α)(b:β):aP (fun K:α->Prop=>K (f b)):=fun _ h=>⟨f b,h,fun _ h=>h⟩
theorem aP.false{α:Type}:aP (fun _:α->Prop=>False):=fun _ h=>h.elim
theorem aP.and{α:Type}{p:Prop}{F:(α->Prop)->Prop}(h:aP F):aP (fun K=>p/\F K):=fun K hk=>by
 obtain⟨a,c,d⟩:=h K hk.2;exact⟨a,c,fun b h=>⟨hk.1,d b h⟩⟩
theorem aP.ex{α:Type}{β:Sort _}{F:β->(α->Prop)->Prop}(h:∀b,aP (F b)):aP (fun K=>∃b,F b K):=fun K⟨b,f⟩=>by
 obtain⟨a,d,e⟩:=h b K f;exact⟨a,d,fun c h=>⟨b,e c h⟩⟩
theorem aP.or{α:Type}{F G:(α->Prop)->Prop}(h:aP F)(e:aP G):aP (fun K=>F K\/G K):=fun K hk=>by
 rcases hk with hk|hk
 ·obtain⟨a,c,d⟩:=h K hk;exact⟨a,c,fun b h=>.inl (d b h)⟩
 ·obtain⟨a,c,d⟩:=e K hk;exact⟨a,c,fun b h=>.inr (d b h)⟩
theorem aP.ite{α:Type}{p:Prop}[Decidable p]{F G:(α->Prop)->Prop}(h:aP F)(f:aP G):aP (fun K=>if p then F K else G K):=fun K hk=>by
 split at hk
 ·rename_i e;obtain⟨a,c,d⟩:=h K hk;exact⟨a,c,fun b h=>by simpa[e]using d b h⟩
 ·rename_i e;obtain⟨a,c,d⟩:=f K hk;exact⟨a,c,fun b h=>by simpa[e]using d b h⟩
theorem aP.bind{α β:Type}{F:(α->Prop)->Prop}{G:α->(β->Prop)->Prop}(h:aP F)(d:∀a,aP (G a)):aP (fun K=>F (fun a=>G a K)):=fun K hk=>by
 obtain⟨a,e,f⟩:=h _ hk;obtain⟨b,g,i⟩:=d a K e;exact⟨b,g,fun c h=>f _ (i c h)⟩
theorem aP.map{α β:Type}{F:(α->Prop)->Prop}(h:aP F)(f:α->β):aP (fun K=>F (fun a=>K (f a))):=h.bind fun a=>aP.one f a
theorem Uc(T:a6)(H:Heap)(a:AV):aP (nD P T H a):=by
 unfold nD
 repeat' first
  |exact aP.false
  |exact aP.one id _
  |refine aP.and ?_
  |refine aP.ex fun _=>?_
  |split
theorem TP(T:a6)(H:Heap)(a x:AV):aP (nq P T H a x):=by
 unfold nq
 repeat' first
  |exact aP.false
  |exact aP.one id _
  |refine aP.and ?_
  |refine aP.ex fun _=>?_
  |split
theorem Rs(T:a6)(a:AV)(f:Nat):aP (mV P T a f):=by
 unfold mV
 repeat' first
  |exact aP.false
  |exact aP.one id _
  |refine aP.and ?_
  |refine aP.ex fun _=>?_
  |split
theorem Rr(T:a6)(H:Heap)(a i:AV):aP (mU P T H a i):=by
 unfold mU
 repeat' first
  |exact aP.false
  |exact aP.one id _
  |refine aP.and ?_
  |refine aP.ex fun _=>?_
  |split
theorem Sg(T X:a6)(H:Heap)(s x:AV):aP (mY P T X H s x):=by
 unfold mY
 repeat' first
  |exact aP.false
  |exact aP.one id _
  |refine aP.and ?_
  |refine aP.ex fun _=>?_
  |refine aP.ite ?_ ?_
  |split
theorem Jm{α:Type}{F:Nat->(α->Prop)->Prop}(x:Option AV)(d:Nat)(h:∀n,aP (F n)):aP (fun K=>ga x d (fun n=>F n K)):=by
 unfold ga
 split
 ·exact h _
 ·exact aP.and (h _)
 ·exact aP.false
theorem TQ(T:a6)(H:Heap)(x:AV)(lo hi a:Option AV):aP (nr P T H x lo hi a):=by
 unfold nr;refine aP.and ?_
 repeat' first
  |exact aP.false
  |exact aP.one id _
  |refine aP.and ?_
  |refine Jm _ _ fun _=>?_
  |refine aP.ite ?_ ?_
  |split
theorem Sf(T:a6)(H:Heap)(x:AV)(lo hi:Option AV)(m:AV):aP (pH P T H x lo hi m):=by
 unfold pH
 repeat' first
  |exact aP.false
  |exact aP.one id _
  |refine aP.and ?_
  |refine Jm _ _ fun _=>?_
  |split
theorem U8(op:be)(T:a6)(c:Bool)(H:Heap)(x y:AV)(f:PV->aU):aP (fun K:aU->Prop=>jS P op T c H x y (fun v=>K (f v))):=by
 unfold jS
 repeat' first
  |exact aP.false
  |exact aP.one f _
  |refine aP.and ?_
  |(unfold oQ;split)
  |(unfold oP;split)
  |split
theorem QI(a:a6)(b:Nat)(key:PV)(x:AV)(c:Obj):aP (nV P a b key x c):=by
 unfold nV
 repeat' first
  |exact aP.false
  |exact aP.one id _
  |refine aP.and ?_
  |split
theorem BL(o:Oper)(ρ:a8->AV)(H:Heap):aP (fp P ag o ρ H):=by
 unfold fp
 repeat' first
  |exact aP.false
  |exact aP.one id _
  |exact Uc _ _ _
  |exact TP _ _ _ _
  |exact Rs _ _ _
  |exact Rr _ _ _ _
  |exact TQ _ _ _ _ _ _
  |exact Sf _ _ _ _ _ _
  |exact Sg _ _ _ _ _
  |exact QI _ _ _ _ _
  |exact U8 _ _ _ _ _ _ _
  |refine aP.and ?_
  |refine aP.ex fun _=>?_
  |refine aP.ite ?_ ?_
  |refine aP.or ?_ ?_
  |split
  |dsimp only
theorem Is(d:Bool)(f:bb)(args:List AV)(H:Heap){α:Type}(g:AV->Heap->α):aP (fun K:α->Prop=>gC P d f args H (fun v H'=>K (g v H'))):=by
 unfold gC;refine aP.or (aP.ex fun vs=>aP.ex fun v=>aP.and (aP.and ?_)) (aP.and (aP.or (aP.ex fun vs=>aP.ex fun H1=>aP.ex fun v=>aP.and (aP.and ?_)) (aP.or (aP.ex fun H'=>aP.ex fun v=>aP.and ?_) (aP.or (aP.ex fun e=>aP.and (aP.and ?_)) (aP.ex fun aj=>aP.ex fun v=>aP.and (aP.and ?_))))))
 ·exact aP.one (fun v=>g (.p v) H) v
 ·exact aP.one (fun v=>g (.p v) H1) v
 ·exact aP.one (fun v=>g v H') v
 ·exact aP.one (fun _:Unit=>g e.v (ba H e.aJ++e.aR)) ()
 ·exact aP.one (fun v=>g (.p v) H) v
theorem HG(f:bb)(args:List AV)(H:Heap):aP (gI P f args H):=by
 unfold gI;refine aP.or (aP.ex fun vs=>aP.ex fun v=>aP.and (aP.and (aP.one id _))) (aP.or (aP.ex fun vs=>aP.ex fun bs=>aP.ex fun aj=>aP.ex fun aJ=>aP.ex fun v=>aP.and (aP.and (aP.and (aP.one id _)))) (aP.or (aP.ex fun e=>aP.and (aP.and (aP.one id _))) (aP.ex fun aj=>aP.ex fun v=>aP.and (aP.and (aP.one id _)))))
theorem Iq(d:Bool)(o:Oper)(s:St):aP (fun K=>ji P ag d o K s):=by
 unfold ji
 split
 ·split
  ·exact Is _ _ _ _ (fun v H'=>(⟨put o.dst v s.env,H'⟩:St))
  ·exact Is _ _ _ _ (fun v H'=>(⟨put o.dst v s.env,H'⟩:St))
  ·exact aP.ex fun H'=>aP.ex fun v=>aP.and (aP.one (fun _:Unit=>(⟨put o.dst v s.env,H'⟩:St)) ())
  ·exact aP.false
 ·exact(BL o _ _).map (fun e=>e.app o.dst s)
theorem Ir(o:Oper)(s:St):aP (iW P ag o s):=by
 unfold iW
 split
 ·split
  ·exact HG _ _ _
  ·exact HG _ _ _
  ·exact aP.ex fun e=>aP.and (aP.and (aP.one id _))
  ·exact aP.false
 ·exact BL o _ _
theorem xF(d:Bool)(a:Array Oper):∀(l:List Oper)(s:St),aP (fun K=>gE P ag d a l K s)
 |[],s=>by simp only[gE];exact aP.one id s
 |o::l,s=>by
  have go:aP (fun K=>ji P ag d o (gE P ag d a l K) s):=(Iq d o s).bind fun t=>xF d a l t;simp only[gE]
  split
  ·exact go
  ·split
   ·split
    ·exact go
    ·exact xF d a l _
   ·exact xF d a l _
   ·exact aP.false
theorem xm(b:Array Oper):∀(l:List Oper)(i:Nat)(a:List Touch)(s:St),aP (fun K=>fP P ag b l i a K s)
 |[],i,a,s=>by simp only[fP];exact aP.and (aP.one id s)
 |o::l,i,a,s=>by
  have go:aP (fun K=>iW P ag o s fun e=>fP P ag b l (i+1) (gD i s.heap.length e a) K (e.app o.dst s)):=(Ir o s).bind fun e=>xm b l (i+1) _ _;simp only[fP]
  split
  ·exact go
  ·split
   ·split
    ·exact go
    ·exact xm b l (i+1) a _
   ·exact xm b l (i+1) a _
   ·exact aP.false
def yQ(F:(bu->St->Prop)->Prop):Prop:=∀Q,F Q->∃e s,Q e s/\∀a:bu->St->Prop,a e s->F a
inductive u5(P:a7)(ag:bb->Bool)(q:Cx)(b:Code)(e:bu)(s:St):Nat->St->Prop
 |stop {k:Nat} {u:St}:(∀Q:bu->St->Prop,Q e s->cd P ag q b Q u)->e≠.normal->u5 P ag q b e s k u
 |step {k m:Nat} {u s1 u':St}:(∀Q:bu->St->Prop,Q .normal s1->cd P ag q b Q u)->m<k->cX q.2 s1 u'->u5 P ag q b e s m u'->u5 P ag q b e s k u
theorem Ud(j:Option Code)(s:St):yQ (fun Q=>jR Q j s):=fun Q h=>by
 unfold jR at h
 split at h
 ·exact⟨.normal,s,h,fun _ h=>h⟩
 ·rename_i id;exact⟨.exit id,s,h,fun _ h=>h⟩
 ·exact⟨.ret,s,h,fun _ h=>h⟩
 ·exact h.elim
theorem Ip(b:Nat)(env:Env)(H:Heap):yQ (fun Q=>iF b env Q H):=fun Q h=>by
 unfold iF at h
 split at h
 ·rename_i L f;obtain⟨e,s,c,d⟩:=Ud _ _ Q h.2;exact⟨e,s,c,fun a hq=>by unfold iF;simp only[f];exact⟨h.1,d a hq⟩⟩
 ·exact h.elim
theorem TX(it:AV)(b:Nat)(H:Heap)(env:Env):yQ (fun Q=>ju P it b H (iF b env Q)):=fun Q h=>by
 unfold ju at h
 split at h
 ·obtain⟨H',v,c,d⟩:=h;obtain⟨e,s,k1,k2⟩:=Ip b env H' Q d;exact⟨e,s,k1,fun a hq=>by simp only[ju];exact⟨H',v,c,k2 a hq⟩⟩
 ·obtain⟨H',v,c,d⟩:=h;obtain⟨e,s,k1,k2⟩:=Ip b env H' Q d;exact⟨e,s,k1,fun a hq=>by simp only[ju];exact⟨H',v,c,k2 a hq⟩⟩
 ·exact h.elim
theorem mS{q:Cx}:∀(c:Code)(s:St),yQ (fun Q=>cd P ag q c Q s)
 | .skip,s| .label _,s=>fun Q h=>⟨.normal,s,h,fun _ h=>h⟩
 | .exit id,s=>fun Q h=>⟨.exit id,s,h,fun _ h=>h⟩
 | .ret,s=>fun Q h=>⟨.ret,s,h,fun _ h=>h⟩
 | .region id ops draw,s=>fun Q h=>by
  simp only[cd]at h⊢
  split at h
  ·rename_i l;obtain⟨t,d,g⟩:=xm ops _ _ _ _ _ h;exact⟨.normal,t,d,fun Q' h=>by simp only[l,if_true];exact g _ h⟩
  ·rename_i l;obtain⟨t,d,g⟩:=xF _ ops _ _ _ h;exact⟨.normal,t,d,fun Q' h=>by rw[if_neg l];exact g _ h⟩
 | .seq a b,s=>fun Q h=>by
  simp only[cd]at h⊢;obtain⟨e,t,d,g⟩:=mS a s _ h;cases e with
  |normal=>
   obtain⟨e',r,k,y⟩:=mS b t _ d;exact⟨e',r,k,fun Q' h=>g _ (y Q' h)⟩
  |exit id=>exact⟨.exit id,t,d,fun Q' h=>g _ h⟩
  |ret=>exact⟨.ret,t,d,fun Q' h=>g _ h⟩
 | .cond c a b,s=>fun Q h=>by
  simp only[cd]at h⊢
  split at h
  ·split at h
   ·rename_i p;obtain⟨e,t,d,g⟩:=mS a s _ h;exact⟨e,t,d,fun Q' h=>by rw[if_pos p];exact g _ h⟩
   ·rename_i p;obtain⟨e,t,d,g⟩:=mS b s _ h;exact⟨e,t,d,fun Q' h=>by rw[if_neg p];exact g _ h⟩
  ·exact h.elim
 | .block id b,s=>fun Q h=>by
  simp only[cd]at h⊢;obtain⟨e,t,d,g⟩:=mS b s _ h;cases e with
  |normal=>exact⟨.normal,t,d,fun Q' h=>g _ h⟩
  |exit i=>
   by_cases hi:i=id
   ·simp only[hi,if_true]at d;exact⟨.normal,t,d,fun Q' h=>g _ (by simp only[hi,if_true];exact h)⟩
   ·simp only[hi,if_false]at d;exact⟨.exit i,t,d,fun Q' h=>g _ (by simp only[hi,if_false];exact h)⟩
  |ret=>exact⟨.ret,t,d,fun Q' h=>g _ h⟩
 | .scope b,s=>fun Q h=>by simp only[cd]at h⊢;exact mS b s Q h
 | .loop b,s=>fun Q h=>by
  simp only[cd]at h⊢;obtain⟨I,⟨w,t0,hf,hI⟩,F⟩:=h;have key:∀(n:Nat)(t:St),I n t->∃e u,Q e u/\e≠.normal/\u5 P ag q b e u n t:=by
   intro n
   induction n using fd with
   |_ n G=>
    intro t hI;obtain⟨e,s1,d,g⟩:=mS b t _ (F n t hI);cases e with
    |normal=>
     obtain⟨m,r,j,o,z⟩:=d;obtain⟨e,u,k1,k2,k3⟩:=G m j r z;exact⟨e,u,k1,k2,.step g j o k3⟩
    |exit id=>exact⟨.exit id,s1,d,by simp,.stop g (by simp)⟩
    |ret=>exact⟨.ret,s1,d,by simp,.stop g (by simp)⟩
  obtain⟨e,u,d,g,k⟩:=key w t0 hI;refine⟨e,u,d,fun Q' v=>⟨u5 P ag q b e u,⟨w,t0,hf,k⟩,?_⟩⟩;intro n t C;cases C with
  |stop hs E=>
   refine hs _ ?_;cases e with
   |normal=>exact(E rfl).elim
   |exit id=>exact v
   |ret=>exact v
  |step hs j o D=>exact hs _ ⟨_,_,j,o,D⟩
 | .rangeFunc f H a b,s=>fun Q h=>by
  simp only[cd]at h;obtain⟨A,x,B,h⟩:=h;obtain⟨e,t,d,g⟩:=TX _ _ _ _ Q h;exact⟨e,t,d,fun Q' hq=>by simp only[cd];exact⟨A,x,B,g Q' hq⟩⟩
 | .goto _,_| .refuse _,_=>fun Q h=>by simp[cd]at h
def Spec(P:a7)(f:bb)(args:List PV)(Q:PV->Prop):Prop:=∃v,az P f args v/\Q v
def yT(P:a7)(a:List bo)(Q:PV->Prop)(e:bu)(s:St):Prop:=
 (match e with
  | .exit _=>False
  |_=>True)/\∃vs,fu P s a=some vs/\∃v,dY s.heap 9 (oneOf vs)=some v/\Q v
theorem Spec.mono{f:bb}{args:List PV}{Q a:PV->Prop}(h:Spec P f args Q)(hq:∀v,Q v->a v):Spec P f args a:=by
 obtain⟨v,b,c⟩:=h;exact⟨v,b,hq v c⟩
end
def nB(id:Nat)(Q:bu->St->Prop)(e:bu)(s:St):Prop:=
 match e with
 | .exit i=>if i=id then Q .normal s else Q (.exit i) s
 |e=>Q e s
theorem RI{id:Nat}{Q:bu->St->Prop}{s:St}:nB id Q .normal s=Q .normal s:=(rfl)
theorem S7{id i:Nat}{Q:bu->St->Prop}{s:St}:nB id Q (.exit i) s=if i=id then Q .normal s else Q (.exit i) s:=(rfl)
theorem Uf{id:Nat}{Q:bu->St->Prop}{s:St}:nB id Q .ret s=Q .ret s:=(rfl)
def sD(N n:Nat)(I:Nat->St->Prop)(Q:bu->St->Prop)(e:bu)(s:St):Prop:=
 match e with
 | .normal=>∃a b,a<n/\cX N s b/\I a b
 |e=>Q e s
theorem Rw{N n:Nat}{I:Nat->St->Prop}{Q:bu->St->Prop}{s:St}:sD N n I Q .normal s=∃a b,a<n/\cX N s b/\I a b:=(rfl)
theorem Sj{N n id:Nat}{I:Nat->St->Prop}{Q:bu->St->Prop}{s:St}:sD N n I Q (.exit id) s=Q (.exit id) s:=(rfl)
theorem TT{N n:Nat}{I:Nat->St->Prop}{Q:bu->St->Prop}{s:St}:sD N n I Q .ret s=Q .ret s:=(rfl)
section C4
variable{P:a7}
end C4
section
variable{P:a7}{ag:bb->Bool}
abbrev ez:=Option (Prop×aU)
def bf(r:ez)(K:aU->Prop):Prop:=
 match r with
 |some (p,e)=>p/\K e
 |none=>False
theorem T4{p:Prop}{e:aU}{K:aU->Prop}:bf (some (p,e)) K=(p/\K e):=(rfl)
theorem UB{K:aU->Prop}:bf none K=False:=(rfl)
@[congr] theorem aIV{r a:ez}{K:aU->Prop}(h:r=a):bf r K=bf a K:=by rw[h]
def Can(F:(aU->Prop)->Prop)(r:ez):Prop:=∀K,bf r K->F K
theorem Can.none{F:(aU->Prop)->Prop}:Can F none:=fun _ h=>h.elim
def oR(P:a7)(T:a6)(H:Heap)(a:AV):ez:=
 match a with
 | .ptr b path=>match H[b]? with
  |some (.box fz t)=>match eD t path with
   |some s=>some (kindOf P T=ad s,{v:=s,aj:=[(b,.box fz t)]})
   |none=>none
  |_=>none
 | .b6 b ar ai i path=>match H[b]? with
  |some (.arr k d c es)=>match es[i]? with
   |some x=>match eD x path with
    |some s=>some ((ar=d/\ai=c)/\kindOf P T=ad s,{v:=s,aj:=[(b,.arr k d c es)]})
    |none=>none
   |none=>none
  |_=>none
 | .p (.cr t)=>some (kindOf P T=aL t,{v:=.p t})
 |_=>none
theorem WL{T:a6}{H:Heap}{a:AV}:Can (nD P T H a) (oR P T H a):=by
 intro K h;unfold oR at h;unfold nD
 split at h
 ·split at h
  ·rename_i b
   split at h
   ·rename_i hs;simp only[bf]at h;simp only[b,hs];exact h
   ·exact h.elim
  ·exact h.elim
 ·split at h
  ·rename_i b
   split at h
   ·rename_i x hx;obtain⟨hi,hx⟩:=cy.1 hx
    split at h
    ·rename_i hs;simp only[bf]at h;simp only[b];exact⟨h.1.1.1,h.1.1.2,hi,by rw[hx,hs];exact⟨h.1.2,h.2⟩⟩
    ·exact h.elim
   ·exact h.elim
  ·exact h.elim
 ·exact h
 ·exact h.elim
def oJ(P:a7)(T:a6)(H:Heap)(a x:AV):ez:=
 match a with
 | .ptr b path=>match H[b]? with
  |some (.box false t)=>match eD t path,fD t path x with
   |some s,some d=>some ((kindOf P T=ad x/\ad x≠.bad)/\ad s=ad x,{v:=.p (.aD []),aj:=[(b,.box false t)],aJ:=[(b,.box false d)]})
   |_,_=>none
  |_=>none
 | .b6 b ar ai i path=>match H[b]? with
  |some (.arr k e c es)=>match es[i]? with
   |some y=>match eD y path,fD y path x with
    |some s,some d=>some ((kindOf P T=ad x/\ad x≠.bad)/\(ar=e/\ai=c/\k≠.frozen)/\ad s=ad x,{v:=.p (.aD []),aj:=[(b,.arr k e c es)],aJ:=[(b,.arr k e c (es.set i d))]})
    |_,_=>none
   |none=>none
  |_=>none
 |_=>none
theorem Vt{T:a6}{H:Heap}{a x:AV}:Can (nq P T H a x) (oJ P T H a x):=by
 intro K h;unfold oJ at h;unfold nq
 split at h
 ·split at h
  ·rename_i b
   split at h
   ·rename_i hs c;simp only[bf]at h;simp only[b,hs,c];exact⟨h.1.1.1,h.1.1.2,h.1.2,h.2⟩
   ·exact h.elim
  ·exact h.elim
 ·split at h
  ·rename_i b
   split at h
   ·rename_i y d;obtain⟨hi,d⟩:=cy.1 d
    split at h
    ·rename_i hs c;simp only[bf]at h;simp only[b];exact⟨h.1.1.1,h.1.1.2,h.1.2.1.1,h.1.2.1.2.1,h.1.2.1.2.2,hi,by rw[d,hs,c];exact⟨h.1.2.2,h.2⟩⟩
    ·exact h.elim
   ·exact h.elim
  ·exact h.elim
 ·exact h.elim
def n8(P:a7)(T:a6)(a:AV)(f:Nat):ez:=
 match fx P T with
 |some (u,n)=>match a with
  | .ptr b path=>some (f<n,{v:=.ptr b (path++[(u,f)])})
  | .b6 b ar ai i path=>some (f<n,{v:=.b6 b ar ai i (path++[(u,f)])})
  | .p (.cr t)=>match(cB t)[f]? with
   |some g=>some (f<n/\aL t=.agg u,{v:=.p (.cr g)})
   |none=>none
  |_=>none
 |_=>none
theorem RF{T:a6}{a:AV}{f:Nat}:Can (mV P T a f) (n8 P T a f):=by
 intro K h;unfold n8 at h;unfold mV
 split at h
 ·rename_i hs;simp only[hs]
  split at h
  ·exact h
  ·exact h
  ·split at h
   ·rename_i b;simp only[bf]at h;simp only[b];exact⟨h.1.1,h.1.2,h.2⟩
   ·exact h.elim
  ·exact h.elim
 ·exact h.elim
def n7(P:a7)(T:a6)(H:Heap)(x i:AV):ez:=
 match i with
 | .p (.int _ i)=>match x with
  | .p (.bI _ es)=>match es[i.toNat]? with
   |some y=>some (0<=i/\cL P T=some (bF P (aL y)),{v:=.p (.cr y)})
   |none=>none
  | .p (.seq es)=>match es[i.toNat]? with
   |some y=>some (0<=i/\cL P T=some (bF P (aL y)),{v:=.p (.cr y)})
   |none=>none
  | .sl b ar ai off len=>match H[b]? with
   |some (.arr k c a es)=>some (0<=i/\cL P T=some ai/\i.toNat<len/\ar=c/\ai=a/\¬(k.gr=true/\es=[]),{v:=.b6 b ar ai (off+i.toNat) [],aj:=[(b,.arr k c a es)]})
   |_=>none
  | .ptr b path=>match gK P T with
   |some (u,n)=>some (0<=i/\i.toNat<n,{v:=.ptr b (path++[(u,i.toNat)])})
   |_=>none
  | .b6 b ar ai j path=>match gK P T with
   |some (u,n)=>some (0<=i/\i.toNat<n,{v:=.b6 b ar ai j (path++[(u,i.toNat)])})
   |_=>none
  | .p (.cr t)=>match gK P T with
   |some (u,n)=>match(cB t)[i.toNat]? with
    |some g=>some (0<=i/\aL t=.agg u/\i.toNat<n,{v:=.p (.cr g)})
    |none=>none
   |_=>none
  |_=>none
 |_=>none
theorem RE{T:a6}{H:Heap}{x i:AV}:Can (mU P T H x i) (n7 P T H x i):=by
 intro K h;unfold n7 at h;unfold mU
 split at h
 case h_2=>exact h.elim
 split at h
 ·split at h
  ·rename_i y a;obtain⟨hi,a⟩:=cy.1 a;simp only[bf]at h;exact⟨h.1.1,hi,by rw[a];exact h.1.2,by rw[a];exact h.2⟩
  ·exact h.elim
 ·split at h
  ·rename_i y a;obtain⟨hi,a⟩:=cy.1 a;simp only[bf]at h;exact⟨h.1.1,hi,by rw[a];exact h.1.2,by rw[a];exact h.2⟩
  ·exact h.elim
 ·split at h
  ·rename_i l;simp only[bf]at h;obtain⟨⟨b,c,d,e,f,g⟩,j⟩:=h;refine⟨b,c,d,?_⟩;rw[l];exact⟨e,f,g,j⟩
  ·exact h.elim
 ·split at h
  ·rename_i hs;simp only[bf]at h;simp only[hs];exact⟨h.1.1,h.1.2,h.2⟩
  ·exact h.elim
 ·split at h
  ·rename_i hs;simp only[bf]at h;simp only[hs];exact⟨h.1.1,h.1.2,h.2⟩
  ·exact h.elim
 ·split at h
  ·rename_i hs
   split at h
   ·rename_i k;simp only[bf]at h;simp only[hs,k];exact⟨h.1.1,h.1.2.1,h.1.2.2,h.2⟩
   ·exact h.elim
  ·exact h.elim
 ·exact h.elim
end
section
variable{P:a7}{ag:bb->Bool}
def oI(P:a7)(T X:a6)(H:Heap)(s x:AV):ez:=
 match cL P T,gw H x with
 |some sz,some xs=>match s with
  | .p .aF=>some ((gJ P X=true/\(cJ P (dN P T)).isSome=true/\eH P sz xs)/\xs.length<=cC,
   if xs.isEmpty then{v:=s,aj:=dy H x}else{v:=.sl H.length 0 sz 0 xs.length,aj:=dy H x,aR:=[.arr (gk P T) 0 sz xs]})
  | .sl b ar ai off len=>match H[b]? with
   |some (.arr k c a es)=>some ((gJ P X=true/\(cJ P (dN P T)).isSome=true/\eH P sz xs)/\(ar=c/\ai=a/\ai=sz/\off+len<=es.length)/\es.length+xs.length<=cC/\k≠ .frozen/\(k≠ .exact->off=0)/\(k= .bytes->dN P T=Gl.u8),
    if xs.isEmpty then{v:=s,aj:=(b,.arr k c a es)::dy H x}
    else match k with
     | .exact=>if off+len+xs.length<=es.length then
      {v:=.sl b ar ai off (len+xs.length),aj:=(b,.arr k c a es)::dy H x,aJ:=[(b,.arr .exact ar ai (es.take (off+len)++xs++es.drop (off+len+xs.length)))]}
      else{v:=.sl H.length 0 sz 0 (len+xs.length),aj:=(b,.arr k c a es)::dy H x,aR:=[.arr (gk P T) 0 sz ((es.drop off).take len++xs)]}
     |_=>{v:=.sl b (ar+1) ai 0 (len+xs.length),aj:=(b,.arr k c a es)::dy H x,aJ:=[(b,.arr k (ar+1) ai (es.take len++xs))]})
   |_=>none
  |_=>none
 |_,_=>none
theorem Tc{T X:a6}{H:Heap}{s x:AV}:Can (mY P T X H s x) (oI P T X H s x):=by
 intro K h;unfold oI at h;unfold mY
 split at h
 case h_2=>exact h.elim
 rename_i sz p i j;simp only[i,j]
 split at h
 ·simp only[bf]at h;obtain⟨⟨⟨b,a2,a3⟩,a4⟩,hk⟩:=h;refine⟨b,a2,a3,?_⟩;dsimp only
  split
  ·rename_i a;rw[if_pos a]at hk;exact hk
  ·rename_i a;rw[if_neg a]at hk;exact⟨a4,hk⟩
 ·split at h
  case h_2=>exact h.elim
  rename_i k o n m l;simp only[bf]at h;obtain⟨⟨⟨b,a2,a3⟩,⟨rfl,rfl,e,f⟩,g,a9,c,d⟩,hk⟩:=h;refine⟨b,a2,a3,?_⟩;simp only[l];refine⟨trivial,trivial,e,f,?_⟩
  split
  ·rename_i a;rw[if_pos a]at hk;exact hk
  ·rename_i a;rw[if_neg a]at hk;refine⟨g,?_⟩;cases k with
   |frozen=>exact a9 rfl
   |exact=>
    simp only at hk⊢
    split
    ·rename_i hc;rw[if_pos hc]at hk;exact hk
    ·rename_i hc;rw[if_neg hc]at hk;exact hk
   |grow=>exact⟨c (by simp),fun h=>(by cases h),hk⟩
   |bytes=>exact⟨c (by simp),d,hk⟩
 ·exact h.elim
def jX(x:Option AV)(d:Nat):Option (Prop×Nat):=
 match x with
 |none=>some (True,d)
 |some (.p (.int _ i))=>some (0<=i,i.toNat)
 |_=>none
theorem l8{x:Option AV}{d n:Nat}{p:Prop}{K:Nat->Prop}(h:jX x d=some (p,n))(a:p)(hk:K n):ga x d K:=by
 unfold jX at h;unfold ga
 split at h
 ·simp only[fK,Prod.mk.injEq]at h;obtain⟨rfl,rfl⟩:=h;exact hk
 ·simp only[fK,Prod.mk.injEq]at h;obtain⟨rfl,rfl⟩:=h;exact⟨a,hk⟩
 ·cases h
def oL(P:a7)(T:a6)(H:Heap)(x:AV)(lo hi:Option AV):ez:=
 match x with
 | .p (.str s)=>match jX hi s.length,jX lo 0 with
  |some (p,h),some (q,l)=>some (ia P T=true/\p/\q/\h<=s.length/\l<=h,{v:=.p (.str ((s.take h).drop l))})
  |_,_=>none
 | .p .aF=>match jX hi 0,jX lo 0 with
  |some (p,h),some (q,l)=>some ((cL P T).isSome=true/\p/\q/\h<=0/\l<=h,{v:=.p .aF})
  |_,_=>none
 | .p (.bI full es)=>match jX hi es.length,jX lo 0,cL P T with
  |some (p,h),some (q,l),some sz=>some (p/\q/\h<=es.length/\l<=h/\eH P sz (es.map .p),{v:=.p (.bI (full&&h==es.length) ((es.take h).drop l))})
  |_,_,_=>none
 | .p (.seq es)=>match jX hi es.length,jX lo 0,cL P T with
  |some (p,h),some (q,l),some sz=>some (p/\q/\h<=es.length/\l<=h/\eH P sz (es.map .p),{v:=.p (.seq ((es.take h).drop l))})
  |_,_,_=>none
 | .sl b ar ai off len=>match H[b]? with
  |some (.arr k c a es)=>match jX hi len,jX lo 0 with
   |some (p,h),some (q,l)=>some ((ar=c/\ai=a/\cL P T=some ai/\¬(k.gr=true/\es=[])/\off+len<=es.length)/\p/\q/\off+h<=es.length/\l<=h,
    if l=0 then{v:=.sl b ar ai off h,aj:=[(b,.arr k c a es)]}
    else if l=h then{v:=.p (.bI false []),aj:=[(b,.arr k c a es)]}
    else{v:=.sl b ar ai (off+l) (h-l),aj:=[(b,.arr k c a es)]})
   |_,_=>none
  |_=>none
 |_=>none
theorem Vu{T:a6}{H:Heap}{x:AV}{lo hi:Option AV}:Can (nr P T H x lo hi none) (oL P T H x lo hi):=by
 intro K h;unfold oL at h;unfold nr;refine⟨rfl,?_⟩
 split at h
 ·split at h
  case h_2=>exact h.elim
  rename_i a b;simp only[bf]at h;obtain⟨⟨c,a2,a3,a4,a5⟩,hk⟩:=h;exact⟨c,l8 a a2 (l8 b a3 ⟨a4,a5,hk⟩)⟩
 ·split at h
  case h_2=>exact h.elim
  rename_i a b;simp only[bf]at h;obtain⟨⟨c,a2,a3,a4,a5⟩,hk⟩:=h;exact⟨c,l8 a a2 (l8 b a3 ⟨a4,a5,hk⟩)⟩
 ·split at h
  case h_2=>exact h.elim
  rename_i a b e;simp only[bf]at h;obtain⟨⟨a2,a3,a4,a5,d⟩,hk⟩:=h;refine l8 a a2 (l8 b a3 ⟨a4,a5,?_⟩);simp only[e];exact⟨d,hk⟩
 ·split at h
  case h_2=>exact h.elim
  rename_i a b e;simp only[bf]at h;obtain⟨⟨a2,a3,a4,a5,d⟩,hk⟩:=h;refine l8 a a2 (l8 b a3 ⟨a4,a5,?_⟩);simp only[e];exact⟨d,hk⟩
 ·split at h
  case h_2=>exact h.elim
  rename_i i
  split at h
  case h_2=>exact h.elim
  rename_i a b;simp only[bf]at h;obtain⟨⟨⟨c,a2,a3,a4,a5⟩,d,f,g,a9⟩,hk⟩:=h;simp only[i];refine⟨c,a2,a3,a4,a5,l8 a d (l8 b f ⟨g,a9,?_⟩)⟩
  split
  ·rename_i hc;rw[if_pos hc]at hk;exact hk
  ·rename_i hc;rw[if_neg hc]at hk
   split
   ·rename_i hc;rw[if_pos hc]at hk;exact hk
   ·rename_i hc;rw[if_neg hc]at hk;exact hk
 ·exact h.elim
def qt(P:a7)(T:a6)(H:Heap)(x key:AV)(ok:Bool):ez:=
 match iT P T,key with
 |some (a,E),.p key=>match cJ P E with
  |some z=>match x with
   | .p .fo=>some (fj P a key=true,{v:=.p (if ok then .aD [z,.bool false]else z)})
   | .p (.eK es)=>match fF P a es key with
    |some r=>some (fj P a key=true,{v:= .p (match r with
      |some v=>if ok then .aD [v,.bool true]else v
      |none=>if ok then .aD [z,.bool false]else z)})
    |none=>none
   | .map b=>match H[b]? with
    |some (.map fz es)=>match fF P a es key with
     |some r=>some (fj P a key=true,{v:= .p (match r with
       |some v=>if ok then .aD [v,.bool true]else v
       |none=>if ok then .aD [z,.bool false]else z),aj:=[(b,.map fz es)]})
     |none=>none
    |_=>none
   |_=>none
  |none=>none
 |_,_=>none
def lI(P:a7)(T:a6)(H:Heap)(m k x:AV):ez:=
 match iT P T,m,k,x with
 |some (a,_),.map b,.p key,.p v=>match H[b]? with
  |some (.map false es)=>match lx P a es key with
   |some _=>some (fj P a key=true,{v:=.p (.aD []),aj:=[(b,.map false es)],aJ:=[(b,.map false (fZ es key v))]})
   |none=>none
  |_=>none
 |_,_,_,_=>none
def pX(P:a7)(T:a6)(n:Nat)(x:AV):ez:=
 match x with
 | .p (.str s)=>some (ia P T=true,{v:=.ptr n [],aR:=[.dv s 0]})
 |_=>none
def qB(H:Heap)(it:AV):ez:=
 match it with
 | .ptr b []=>match H[b]? with
  |some (.dv s pos)=>some (True,if pos<s.length then
   {v:=.p (.aD [.bool true,.int .i64 pos,.int .i32 (cb (fT s) pos).1]),aj:=[(b,.dv s pos)],aJ:=[(b,.dv s (pos+(cb (fT s) pos).2))]}
   else{v:=.p (.aD [.bool false]),aj:=[(b,.dv s pos)]})
  |_=>none
 |_=>none
def qD(P:a7)(T:a6)(n:Nat)(l c:AV):ez:=
 match cL P T,cJ P (dN P T),l,c with
 |some sz,some z,.p (.int .i64 l),.p (.int .i64 c)=>some (bF P (aL z)=sz/\0<=l/\l=c/\l<=cC,{v:=.sl n 0 sz 0 l.toNat,aR:=[.arr .exact 0 sz (c6 l.toNat (.p z))]})
 |_,_,_,_=>none
def copyV(P:a7)(T:a6)(H:Heap)(d x:AV):ez:=
 match cL P T,d,gw H x with
 |some sz,.sl b ar ai off len,some xs=>match H[b]? with
  |some (.arr k c a es)=>some ((ai=sz/\eH P sz xs)/\ar=c/\ai=a/\k≠ .frozen/\off+len<=es.length/\¬(k.gr=true/\es=[]),
   {v:=.p (.int .i64 (min xs.length len:Nat)),aj:=(b,.arr k c a es)::dy H x,aJ:=[(b,.arr k c a (es.take off++xs.take (min xs.length len)++es.drop (off+min xs.length len)))]})
  |_=>none
 |_,_,_=>none
def pR(x:AV):ez:=
 match x with
 | .ptr _ _| .b6 _ _ _ _ _| .p (.cr _)=>some (True,{v:=x})
 |_=>none
def ke(b:Bool)(c:List AV):ez:=
 match c with
 | .p (.int k a)::r=>match ld k b r a with
  |some n=>some (True,{v:=.p (.int k n)})
  |none=>none
 |_=>none
def qp(f:bb)(fi ca:List AV):ez:=
 match eB fi,eB ca with
 |some a,some b=>some (True,{v:=.p (.func f a b)})
 |_,_=>some (True,{v:=.func f fi ca})
end
section
variable{P:a7}{ag:bb->Bool}
def qx(c a b:AV):ez:=
 match c with
 | .p (.bool t)=>some (True,{v:=if t then a else b})
 |_=>none
def qf(P:a7)(T:a6)(n:Nat):ez:=
 match cJ P T with
 |some z=>some (kindOf P T=aL z/\aL z≠.bad/\iV T (aL z)=true,{v:=.ptr n [],aR:=[.box false (.p z)]})
 |none=>none
def sW(P:a7)(T:a6)(n:Nat)(x:AV):ez:=some (kindOf P T=ad x/\ad x≠.bad/\iV T (ad x)=true,{v:=.ptr n [],aR:=[.box false x]})
def qd(P:a7)(T:a6)(a:List (Nat×AV)):ez:=
 match kindOf P T,cJ P T with
 | .agg u,some z=>match dH P u with
  |some l=>some (aL z=.agg u/\kZ P l a,{v:=gM u (hJ ((cB z).map .p) a)})
  |none=>none
 |_,_=>none
def pz(P:a7)(T:a6)(n:Nat)(a:List (Nat×AV))(b:Nat):ez:=
 match cL P T,cJ P (dN P T)with
 |some sz,some z=>some (bF P (aL z)=sz/\n*sz<=1000000/\kZ P (c6 n sz) a,{v:=.sl b 0 sz 0 n,aR:=[.arr .exact 0 sz (hJ (c6 n (.p z)) a)]})
 |_,_=>none
def th(op:be)(k:bk)(a b:Int):Prop×PV:=
 match op with
 | .add=>(True,.int k (k.wrap (a+b)))
 | .sub=>(True,.int k (k.wrap (a-b)))
 | .mul=>(True,.int k (k.wrap (a*b)))
 | .quo=>(b≠0,.int k (k.wrap (a.tdiv b)))
 | .rem=>(b≠0,.int k (a.tmod b))
 | .and=>(True,.int k (k.wrap (ay k.bits a&&&ay k.bits b).toNat))
 | .or=>(True,.int k (k.wrap (ay k.bits a|||ay k.bits b).toNat))
 | .xor=>(True,.int k (k.wrap (ay k.bits a^^^ay k.bits b).toNat))
 | .andNot=>(True,.int k (k.wrap (ay k.bits a&&&~~~ay k.bits b).toNat))
 | .eql=>(True,.bool (a==b))
 | .neq=>(True,.bool (a !=b))
 | .lss=>(True,.bool (decide (a<b)))
 | .leq=>(True,.bool (decide (a<=b)))
 | .gtr=>(True,.bool (decide (a>b)))
 | .geq=>(True,.bool (decide (a>=b)))
 | .shl=>(0<=b,.int k (k.wrap (a*2^(min b.toNat k.bits))))
 | .shr=>(0<=b,.int k (a.fdiv (2^(min b.toNat k.bits))))
theorem Y2{op:be}{k:bk}{a b:Int}{K:PV->Prop}(h:(th op k a b).1)(hk:K (th op k a b).2):oQ op k a b K:=by
 cases op<;>simp only[th,oQ]at*<;>first|exact hk|exact⟨h,hk⟩
def DG(op:be)(a b:List Nat):Option (Prop×PV):=
 match op with
 | .add=>some (a.length+b.length<9223372036854775808,.str (a++b))
 | .eql=>some (True,.bool (a==b))
 | .neq=>some (True,.bool (!(a==b)))
 | .lss=>some (True,.bool (iN a b))
 | .leq=>some (True,.bool (iN a b||a==b))
 | .gtr=>some (True,.bool (!(iN a b||a==b)))
 | .geq=>some (True,.bool (!(iN a b)))
 |_=>none
def iU(P:a7)(op:be)(T:a6)(c:Bool)(H:Heap)(x y:AV):ez:=
 match x,y with
 | .p (.int k a),.p (.int d b)=>some ((k=d\/op=.shl\/op=.shr)/\(th op k a b).1,{v:=.p (th op k a b).2})
 | .p (.str a),.p (.str b)=>match DG op a b with
  |some (p,v)=>some (p,{v:=.p v})
  |none=>none
 | .p (.bool a),.p (.bool b)=>match op with
  | .eql=>some (pU P T=true,{v:=.p (.bool (a==b))})
  | .neq=>some (pU P T=true,{v:=.p (.bool (!(a==b)))})
  |_=>none
 | .p (.st u fs),.p (.st u' gs)=>match eZ P 9 T (.st u fs) (.st u' gs),op with
  |some r,.eql=>some (mA P T=true,{v:=.p (.bool r)})
  |some r,.neq=>some (mA P T=true,{v:=.p (.bool !r)})
  |_,_=>none
 |x,y=>match dh P T c y with
  |some k=>match cO H k x,op with
   |some r,.eql=>some (True,{v:=.p (.bool r),aj:=dy H x})
   |some r,.neq=>some (True,{v:=.p (.bool !r),aj:=dy H x})
   |_,_=>none
  |none=>none
theorem IJ{op:be}{T:a6}{c:Bool}{H:Heap}{x y:AV}{k:tC}{K:PV->Prop}(hk:dh P T c y=some k):jS P op T c H x y K=(match cO H k x,op with
  |some r,.eql=>K (.bool r)
  |some r,.neq=>K (.bool !r)
  |_,_=>False):=by
 have a:=hk;rcases HN hk with⟨rfl,rfl,_⟩|⟨rfl,rfl,_⟩|⟨rfl,rfl,_⟩|⟨rfl,rfl,_⟩|⟨rfl,rfl,_⟩
 all_goals
  unfold jS;cases x with
  |p v=>
   cases v<;>simp only[a]<;>(generalize cO H _ _=r;cases r<;>cases op<;>rfl)
  |_=>simp only[a];(generalize cO H _ _=r;cases r<;>cases op<;>rfl)
theorem Xw{op:be}{T:a6}{c:Bool}{H:Heap}{x y:AV}:Can (fun K=>jS P op T c H x y (fun v=>K {v:=.p v,aj:=dy H x})) (iU P op T c H x y):=by
 intro K h;unfold iU at h;unfold jS
 split at h
 ·exact⟨h.1.1,Y2 h.1.2 h.2⟩
 ·split at h
  ·rename_i p v a;simp only[bf]at h;show oP op _ _ _;unfold DG at a
   split at a<;>first
    |(simp only[fK,Prod.mk.injEq]at a
      obtain⟨b,d⟩:=a;rw[<-b,<-d]at h;simp only[oP]
      first|exact h.2|exact⟨h.1,h.2⟩)
    |cases a
  ·exact h.elim
 ·split at h
  ·exact⟨h.1,h.2⟩
  ·exact⟨h.1,h.2⟩
  ·exact h.elim
 ·split at h
  ·rename_i e;simp only[bf]at h;simp only[e];exact⟨h.1,h.2⟩
  ·rename_i e;simp only[bf]at h;simp only[e];exact⟨h.1,h.2⟩
  ·exact h.elim
 ·rename_i b d f g
  split at h
  case h_2=>exact h.elim
  rename_i k hk;clear b d f g;show jS P op T c H x y _;rw[IJ hk];generalize cO H k x=q at h⊢;cases q<;>cases op<;>first|exact h.elim|exact h.2
def q8(op:UnOp)(x:AV):ez:=
 match op,x with
 | .not,.p (.bool b)=>some (True,{v:=.p (.bool (!b))})
 | .neg,.p (.int k n)=>some (True,{v:=.p (.int k (k.wrap (0-n)))})
 | .xor,.p (.int k n)=>some (True,{v:=.p (.int k (k.wrap (ay k.bits (if k.signed then -1 else k.max)^^^ay k.bits n).toNat))})
 |_,_=>none
def qm(P:a7)(S D:a6)(H:Heap)(x:AV):ez:=
 match P.underlying S,P.underlying D,x with
 |some _,some (.int k),.p (.int _ n)=>some (True,{v:=.p (.int k (k.wrap n))})
 |some _,some .string,.p (.str s)=>some (True,{v:=.p (.str s)})
 |some (.slice e),some .string,.sl b ar ai off len=>match H[b]? with
  |some (.arr k c a es)=>match bytesOf ((es.drop off).take len)with
   |some l=>some ((ar=c/\ai=a/\ai=1/\P.underlying e=some (.int .u8)/\0<len/\off+len<=es.length),{v:=.p (.str l),aj:=[(b,.arr k c a es)]})
   |none=>none
  |_=>none
 |_,_,_=>none
def pK(t:AV)(i:Nat):ez:=
 match t with
 | .p (.aD vs)=>match vs[i]? with
  |some v=>some (True,{v:=.p v})
  |none=>none
 | .aD vs=>match vs[i]? with
  |some v=>some (True,{v})
  |none=>none
 |_=>none
def qh(P:a7)(T:a6)(x i:AV):ez:=
 match x,i with
 | .p (.str s),.p (.int _ i)=>match s[i.toNat]? with
  |some c=>some (ia P T=true/\0<=i,{v:=.p (.int .u8 c)})
  |none=>none
 | .p (.st u es),.p (.int _ i)=>match gK P T,(jc P u)[i.toNat]?,es[i.toNat]? with
  |some (u',n),some F,some g=>some (u'=u/\0<=i/\i.toNat<n/\kindOf P F=aL g,{v:=.p g})
  |_,_,_=>none
 |_,_=>none
def qP(P:a7)(T:a6)(n:Nat)(H:Heap)(x:AV):ez:=
 match lenOf H x with
 |some (m,aj)=>some (gF P T x=true/\0<n,{v:=.p (.int .i64 m),aj})
 |none=>none
def kf(P:a7)(ag:bb->Bool)(o:Oper)(e:Env)(H:Heap)(K:aU->Prop):Prop:=
 match o.op with
 | .move x| .assign x=>K {v:=ev e x}
 | .pick c a b=>bf (qx (ev e c) (ev e a) (ev e b)) K
 | .alloc T=>bf (qf P T H.length) K
 | .box T x=>bf (sW P T H.length (ev e x)) K
 | .build T parts=>bf (qd P T (parts.toList.map fun(i,x)=>(i,ev e x))) K
 | .buildSlice T n parts=>bf (pz P T n (parts.toList.map fun(i,x)=>(i,ev e x)) H.length) K
 | .load T a=>bf (oR P T H (ev e a)) K
 | .store T a x=>bf (oJ P T H (ev e a) (ev e x)) K
 | .binOp op T x y _=>bf (iU P op T (lJ y) H (ev e x) (ev e y)) K
 | .unOp op _ x=>bf (q8 op (ev e x)) K
 | .convert S D x=>bf (qm P S D H (ev e x)) K
 | .extract t i=>bf (pK (ev e t) i) K
 | .fieldAddr T a f=>bf (n8 P T (ev e a) f) K
 | .indexAddr T x i=>bf (n7 P T H (ev e x) (ev e i)) K
 | .index T x i=>bf (qh P T (ev e x) (ev e i)) K
 | .slice T x lo hi none=>bf (oL P T H (ev e x) (lo.map (ev e)) (hi.map (ev e))) K
 | .lookup T x i ok=>bf (qt P T H (ev e x) (ev e i) ok) K
 | .mapUpdate T m k x| .insert T m k x=>bf (lI P T H (ev e m) (ev e k) (ev e x)) K
 | .range T x=>bf (pX P T H.length (ev e x)) K
 | .next it true=>bf (qB H (ev e it)) K
 | .makeSlice T l c=>bf (qD P T H.length (ev e l) (ev e c)) K
 | .nilCheck x=>bf (pR (ev e x)) K
 | .call c=>match c.callee with
  | .builtin .len=>(match c.args.toList with
   |[x]=>bf (qP P (c.argTypes.getD 0 0) c.argTypes.size H (ev e x)) K
   |_=>False)
  | .builtin .append=>(match c.args.toList with
   |[s,x]=>c.argTypes.size=2/\bf (oI P (c.argTypes.getD 0 0) (c.argTypes.getD 1 0) H (ev e s) (ev e x)) K
   |_=>False)
  | .builtin .copy=>(match c.args.toList with
   |[d,x]=>c.argTypes.size=2/\bf (copyV P (c.argTypes.getD 0 0) H (ev e d) (ev e x)) K
   |_=>False)
  | .builtin .min=>bf (ke false (c.args.toList.map (ev e))) K
  | .builtin .max=>bf (ke true (c.args.toList.map (ev e))) K
  |_=>fp P ag o (ev e) H K
 |_=>fp P ag o (ev e) H K
theorem Mh{o:Oper}{e:Env}{H:Heap}{K:aU->Prop}(h:kf P ag o e H K):fp P ag o (ev e) H K:=by
 unfold kf at h;unfold fp;cases w:o.op<;>simp only[w]at h<;>simp only
 case move|assign=>exact h
 case pick c a b=>
  unfold qx at h
  split at h
  ·rename_i hc;simp only[hc];exact h.2
  ·exact h.elim
 case alloc T=>
  unfold qf at h
  split at h
  ·rename_i v;simp only[bf]at h;simp only[v];exact⟨h.1.1,h.1.2.1,h.1.2.2,h.2⟩
  ·exact h.elim
 case box T x=>exact⟨h.1.1,h.1.2.1,h.1.2.2,h.2⟩
 case build T parts=>
  unfold qd at h
  split at h
  ·rename_i hk v
   split at h
   ·rename_i A;simp only[bf]at h;simp only[hk,v,A];exact⟨h.1.1,h.1.2,h.2⟩
   ·exact h.elim
  ·exact h.elim
 case buildSlice T n parts=>
  unfold pz at h
  split at h
  ·rename_i hk v;simp only[bf]at h;simp only[hk,v];exact⟨h.1.1,h.1.2.1,h.1.2.2,h.2⟩
  ·exact h.elim
 case load T a=>exact WL K h
 case store T a x=>exact Vt K h
 case binOp op T x y O=>exact Xw K h
 case unOp op T x=>
  unfold q8 at h
  split at h
  ·rename_i hx;simp only[hx];exact h.2
  ·rename_i hx;simp only[hx];exact h.2
  ·rename_i hx;simp only[hx];exact h.2
  ·exact h.elim
 case convert S D x=>
  unfold qm at h
  split at h
  ·rename_i g j p;simp only[g,j,p];exact h.2
  ·rename_i g j p;simp only[g,j,p];exact h.2
  ·rename_i g j p
   split at h
   ·rename_i q
    split at h
    ·rename_i A;obtain⟨⟨B,a2,a3,a4,a5,C⟩,h⟩:=h;simp only[g,j,p,q,A];exact⟨B,a2,a3,a4,a5,C,h⟩
    ·exact h.elim
   ·exact h.elim
  ·exact h.elim
 case extract t i=>
  unfold pK at h
  split at h
  ·rename_i F
   split at h
   ·rename_i G;simp only[F,G];exact h.2
   ·exact h.elim
  ·rename_i F
   split at h
   ·rename_i G;simp only[F,G];exact h.2
   ·exact h.elim
  ·exact h.elim
 case fieldAddr T a f=>exact RF K h
 case indexAddr T x i=>exact RE K h
 case index T x i=>
  unfold qh at h
  split at h
  ·rename_i hx hi
   split at h
   ·rename_i c hc;obtain⟨L,rfl⟩:=cy.1 hc;simp only[hx,hi];exact⟨h.1.1,h.1.2,L,h.2⟩
   ·exact h.elim
  ·rename_i hx hi
   split at h
   ·rename_i g j p;obtain⟨⟨g1,g2,g3,g4⟩,h⟩:=h;simp only[hx,hi,g,j,p];exact⟨g1,g2,g3,g4,h⟩
   ·exact h.elim
  ·exact h.elim
 case slice T x lo hi N=>
  cases N with
  |none=>exact Vu K h
  |some m=>simp only[fp,w]at h;exact h
 case lookup T x i ok=>
  unfold qt at h
  split at h
  case h_2=>exact h.elim
  rename_i M hi;simp only[M,hi]
  split at h
  case h_2=>exact h.elim
  rename_i z v;simp only[v]
  split at h
  ·rename_i hx;simp only[hx];exact h
  ·rename_i Q hx;simp only[hx]
   split at h
   case h_2=>exact h.elim
   rename_i r u;refine⟨h.1,?_⟩;simp only[u];cases r<;>exact h.2
  ·rename_i b hx;simp only[hx]
   split at h
   case h_2=>exact h.elim
   rename_i q
   split at h
   case h_2=>exact h.elim
   rename_i r u;refine⟨h.1,?_⟩;simp only[q,u];cases r<;>exact h.2
  ·exact h.elim
 case mapUpdate T m k x|insert T m k x=>
  unfold lI at h
  split at h
  case h_2=>exact h.elim
  rename_i g j p E;simp only[g,j,p,E]
  split at h
  case h_2=>exact h.elim
  rename_i q
  split at h
  case h_2=>exact h.elim
  rename_i u;refine⟨h.1,?_⟩;simp only[q,u];exact h.2
 case range T x=>
  unfold pX at h
  split at h
  ·rename_i hx;simp only[hx];exact h
  ·exact h.elim
 case next it s=>
  cases s with
  |false=>simp only[fp,w]at h
  |true=>
   dsimp only at h⊢;unfold qB at h
   split at h
   case h_2=>exact h.elim
   rename_i hx;simp only[hx]
   split at h
   case h_2=>exact h.elim
   rename_i q;simp only[q];have h:=h.2
   split
   ·rename_i hc;rw[if_pos hc]at h;exact h
   ·rename_i hc;rw[if_neg hc]at h;exact h
 case makeSlice T l c=>
  unfold qD at h
  split at h
  ·rename_i g j p E;simp only[g,j,p,E];exact⟨h.1.1,h.1.2.1,h.1.2.2.1,h.1.2.2.2,h.2⟩
  ·exact h.elim
 case nilCheck x=>
  unfold pR at h
  split at h
  ·rename_i hx;simp only[hx];rw[hx]at h;exact h.2
  ·rename_i hx;simp only[hx];rw[hx]at h;exact h.2
  ·rename_i hx;simp only[hx];rw[hx]at h;exact h.2
  ·exact h.elim
 case call c=>
  split at h
  ·rename_i hc
   split at h
   ·rename_i x hx;unfold qP at h
    split at h
    ·rename_i A;simp only[bf]at h;simp only[hc,hx,dg,ea,A];exact⟨h.1.1,h.1.2,h.2⟩
    ·exact h.elim
   ·exact h.elim
  ·rename_i hc
   split at h
   ·rename_i s x hx;simp only[hc,hx,dg,ea];exact⟨h.1,Tc K h.2⟩
   ·exact h.elim
  ·rename_i hc
   split at h
   ·rename_i d x hx;simp only[hc,hx,dg,ea];obtain⟨J,h⟩:=h;unfold copyV at h
    split at h
    case h_2=>exact h.elim
    rename_i g j p
    split at h
    case h_2=>exact h.elim
    rename_i q;simp only[bf]at h;obtain⟨⟨⟨B,a2⟩,a3,a4,a5,C,I⟩,hk⟩:=h;simp only[g,j,p,q];exact⟨B,a2,J,a3,a4,a5,C,I,hk⟩
   ·exact h.elim
  ·rename_i hc;unfold ke at h
   split at h
   case h_2=>exact h.elim
   rename_i hx
   split at h
   case h_2=>exact h.elim
   rename_i u;simp only[hc,hx,u];exact h.2
  ·rename_i hc;unfold ke at h
   split at h
   case h_2=>exact h.elim
   rename_i hx
   split at h
   case h_2=>exact h.elim
   rename_i u;simp only[hc,hx,u];exact h.2
  ·unfold fp at h;simp only[w]at h;exact h
 all_goals first
  |exact h
  |(unfold fp at h
    simp only[w]at h;exact h)
  |(unfold fp at h
    simp only[w]at h)
end
section
variable{P:a7}{ag:bb->Bool}
def dX(dst:Option Tmp)(s:St)(K:St->Prop)(e:aU):Prop:=K (e.app dst s)
def zo(dst:Option Tmp)(s:St)(K:St->Prop)(v:AV)(H:Heap):Prop:=K ⟨put dst v s.env,H⟩
def qo(P:a7)(f:AV)(args:List AV)(H:Heap)(K:AV->Heap->Prop):Prop:=
 match f with
 | .p (.func g fi ca)=>gC P false g (fi.map .p++args++ca.map .p) H K
 | .func g fi ca=>gC P false g (fi++args++ca) H K
 | .map b=>∃H' v,ic P b H args H' v/\K v H'
 |_=>False
def qc(P:a7)(f:AV)(args:List AV)(H:Heap)(K:aU->Prop):Prop:=
 match f with
 | .p (.func g fi ca)=>gI P g (fi.map .p++args++ca.map .p) H K
 | .func g fi ca=>gI P g (fi++args++ca) H K
 | .map b=>∃e,sB P b args H.length e/\oT H e/\K e
 |_=>False
def di(P:a7)(ag:bb->Bool)(o:Oper)(K:St->Prop)(s:St):Prop:=
 match o.op with
 | .call {callee:=.value f,args,.. }=>qo P (ev s.env f) (args.toList.map (ev s.env)) s.heap (zo o.dst s K)
 |_=>kf P ag o s.env s.heap (dX o.dst s K)
def dj(P:a7)(ag:bb->Bool)(o:Oper)(s:St)(K:aU->Prop):Prop:=
 match o.op with
 | .call {callee:=.value f,args,.. }=>qc P (ev s.env f) (args.toList.map (ev s.env)) s.heap K
 |_=>kf P ag o s.env s.heap K
theorem UG{o:Oper}{K:St->Prop}{s:St}(h:di P ag o K s):ji P ag false o K s:=by
 unfold di at h;unfold ji
 split at h
 ·rename_i f args b a;simp only[a];unfold qo at h
  split at h
  ·rename_i hf;simp only[hf];exact h
  ·rename_i hf;simp only[hf];exact h
  ·rename_i hf;simp only[hf];exact h
  ·exact h.elim
 ·rename_i c
  split
  ·rename_i f args b a;exact(c _ _ _ a).elim
  ·exact Mh h
theorem UO{o:Oper}{K:aU->Prop}{s:St}(h:dj P ag o s K):iW P ag o s K:=by
 unfold dj at h;unfold iW
 split at h
 ·rename_i f args b a;simp only[a];unfold qc at h
  split at h
  ·rename_i hf;simp only[hf];exact h
  ·rename_i hf;simp only[hf];exact h
  ·rename_i hf;simp only[hf];exact h
  ·exact h.elim
 ·rename_i c
  split
  ·rename_i f args b a;exact(c _ _ _ a).elim
  ·exact Mh h
def fH(P:a7)(ag:bb->Bool)(a:Array Oper):List Oper->(St->Prop)->St->Prop
 |[],K,s=>K s
 |o::r,K,s=>match o.guard with
  |none=>di P ag o (fH P ag a r K) s
  |some (j,want)=>match guardOf a j s.env with
   | .p (.bool t)=>if t=want then di P ag o (fH P ag a r K) s else fH P ag a r K ⟨put o.dst (.p (.aD [])) s.env,s.heap⟩
   | .p (.aD [])=>fH P ag a r K ⟨put o.dst (.p (.aD [])) s.env,s.heap⟩
   |_=>False
def fQ(P:a7)(ag:bb->Bool)(a:Array Oper):List Oper->Nat->List Touch->(St->Prop)->St->Prop
 |[],_,acc,K,s=>jL a acc=true/\K s
 |o::r,i,acc,K,s=>match o.guard with
  |none=>dj P ag o s fun e=>fQ P ag a r (i+1) (gD i s.heap.length e acc) K (e.app o.dst s)
  |some (j,want)=>match guardOf a j s.env with
   | .p (.bool t)=>if t=want then dj P ag o s fun e=>fQ P ag a r (i+1) (gD i s.heap.length e acc) K (e.app o.dst s)
    else fQ P ag a r (i+1) acc K ⟨put o.dst (.p (.aD [])) s.env,s.heap⟩
   | .p (.aD [])=>fQ P ag a r (i+1) acc K ⟨put o.dst (.p (.aD [])) s.env,s.heap⟩
   |_=>False
theorem xZ{b:Array Oper}:∀(l:List Oper){K a:St->Prop}{s:St},(∀s,K s->a s)->fH P ag b l K s->gE P ag false b l a s
 |[],K,a,s,hk,h=>by simp only[fH]at h;simp only[gE];exact hk s h
 |o::l,K,a,s,hk,h=>by
  have go:di P ag o (fH P ag b l K) s->ji P ag false o (gE P ag false b l a) s:=fun h=>by
   obtain⟨t,f,g⟩:=Iq false o s _ (UG h);exact g _ (xZ l hk f)
  simp only[fH]at h;simp only[gE]
  split at h
  ·rename_i c;simp only[c];exact go h
  ·rename_i j i c;simp only[c]
   split at h
   ·rename_i t d;simp only[d]
    split at h
    ·rename_i e;rw[if_pos e];exact go h
    ·rename_i e;rw[if_neg e];exact xZ l hk h
   ·rename_i d;simp only[d];exact xZ l hk h
   ·exact h.elim
theorem xt{c:Array Oper}:∀(l:List Oper){i:Nat}{a:List Touch}{K b:St->Prop}{s:St},(∀s,K s->b s)->fQ P ag c l i a K s->fP P ag c l i a b s
 |[],i,a,K,b,s,hk,h=>by simp only[fQ]at h;simp only[fP];exact⟨h.1,hk s h.2⟩
 |o::l,i,a,K,b,s,hk,h=>by
  have go:dj P ag o s (fun e=>fQ P ag c l (i+1) (gD i s.heap.length e a) K (e.app o.dst s))->iW P ag o s (fun e=>fP P ag c l (i+1) (gD i s.heap.length e a) b (e.app o.dst s)):=fun h=>by
   obtain⟨e,k,m⟩:=Ir o s _ (UO h);exact m _ (xt l hk k)
  simp only[fQ]at h;simp only[fP]
  split at h
  ·rename_i d;simp only[d];exact go h
  ·rename_i j n d;simp only[d]
   split at h
   ·rename_i t f;simp only[f]
    split at h
    ·rename_i g;rw[if_pos g];exact go h
    ·rename_i g;rw[if_neg g];exact xt l hk h
   ·rename_i f;simp only[f];exact xt l hk h
   ·exact h.elim
def sL(v:AV)(a b:St->Prop)(s:St):Prop:=
 match v with
 | .p (.bool t)=>if t then a s else b s
 |_=>False
def tt(K:St->Prop)(Q:bu->St->Prop)(e:bu)(s:St):Prop:=
 match e with
 | .normal=>K s
 |e=>Q e s
def de(P:a7)(ag:bb->Bool)(q:Cx):Code->(bu->St->Prop)->St->Prop
 | .skip,Q,s| .label _,Q,s=>Q .normal s
 | .region _ ops draw,Q,s=>if draw then fQ P ag ops ops.toList 0 [] (Q .normal) s else fH P ag ops ops.toList (Q .normal) s
 | .seq a b,Q,s=>de P ag q a (tt (de P ag q b Q) Q) s
 | .cond c a b,Q,s=>sL (ev s.env c) (de P ag q a Q) (de P ag q b Q) s
 | .block id b,Q,s=>de P ag q b (nB id Q) s
 | .scope b,Q,s=>de P ag q b Q s
 | .loop b,Q,s=>∃I:Nat->St->Prop,(∃n t,cX q.2 s t/\I n t)/\∀n t,I n t->de P ag q b (sD q.2 n I Q) t
 | .rangeFunc f d a b,Q,s=>q.2<=s.heap.length/\ju P (ev s.env f) s.heap.length (s.heap++[.loop ⟨.ready,none,q.1,d.toList,a,b,s.env⟩]) (iF s.heap.length s.env Q)
 | .exit id,Q,s=>Q (.exit id) s
 | .ret,Q,s=>Q .ret s
 |_,_,_=>False
theorem UY{Q a:bu->St->Prop}(hq:∀e s,Q e s->a e s){j:Option Code}{s:St}(h:jR Q j s):jR a j s:=by
 unfold jR at h⊢
 split at h
 ·exact hq _ _ h
 ·exact hq _ _ h
 ·exact hq _ _ h
 ·exact h.elim
theorem H7{Q a:bu->St->Prop}(hq:∀e s,Q e s->a e s){b:Nat}{env:Env}{H:Heap}(h:iF b env Q H):iF b env a H:=by
 unfold iF at h⊢
 split at h
 ·exact⟨h.1,UY hq h.2⟩
 ·exact h.elim
theorem H4{it:AV}{b:Nat}{H:Heap}{K d:Heap->Prop}(hk:∀H,K H->d H)(h:ju P it b H K):ju P it b H d:=by
 unfold ju at h⊢
 split at h
 ·obtain⟨H',v,a,c⟩:=h;exact⟨H',v,a,hk _ c⟩
 ·obtain⟨H',v,a,c⟩:=h;exact⟨H',v,a,hk _ c⟩
 ·exact h.elim
theorem kT{q:Cx}:∀(c:Code){Q Q':bu->St->Prop}{s:St},(∀e s,Q e s->Q' e s)->de P ag q c Q s->cd P ag q c Q' s
 | .skip,Q,Q',s,hq,h| .label _,Q,Q',s,hq,h=>by simp only[de]at h;simp only[cd];exact hq _ _ h
 | .exit _,Q,Q',s,hq,h| .ret,Q,Q',s,hq,h=>by simp only[de]at h;simp only[cd];exact hq _ _ h
 | .region id ops draw,Q,Q',s,hq,h=>by
  simp only[de]at h;simp only[cd]
  split at h
  ·rename_i j;rw[if_pos j];exact xt _ (hq _) h
  ·rename_i j;rw[if_neg j];exact xZ _ (hq _) h
 | .seq a b,Q,Q',s,hq,h=>by
  simp only[de]at h;simp only[cd];refine kT a (fun e s d=>?_) h;cases e with
  |normal=>exact kT b hq d
  |exit id=>exact hq _ _ d
  |ret=>exact hq _ _ d
 | .cond c a b,Q,Q',s,hq,h=>by
  simp only[de]at h;simp only[cd];unfold sL at h
  split at h
  ·rename_i t m;simp only[m]
   split at h
   ·rename_i g;rw[if_pos g];exact kT a hq h
   ·rename_i g;rw[if_neg g];exact kT b hq h
  ·exact h.elim
 | .block id b,Q,Q',s,hq,h=>by
  simp only[de]at h;simp only[cd];refine kT b (fun e s d=>?_) h;cases e with
  |normal=>exact hq _ _ d
  |exit i=>
   simp only[nB]at d
   by_cases hi:i=id
   ·simp only[hi,if_true]at d⊢;exact hq _ _ d
   ·simp only[hi,if_false]at d⊢;exact hq _ _ d
  |ret=>exact hq _ _ d
 | .scope b,Q,Q',s,hq,h=>by simp only[de]at h;simp only[cd];exact kT b hq h
 | .loop b,Q,Q',s,hq,h=>by
  simp only[de]at h;simp only[cd];obtain⟨I,k,l⟩:=h;refine⟨I,k,fun n t hI=>kT b (fun e s d=>?_) (l n t hI)⟩;cases e with
  |normal=>exact d
  |exit id=>exact hq _ _ d
  |ret=>exact hq _ _ d
 | .rangeFunc f o a b,Q,Q',s,hq,h=>by
  simp only[de]at h;simp only[cd];exact⟨h.1,s.env,fun _=>rfl,H4 (fun H=>H7 hq) h.2⟩
 | .goto _,_,_,_,_,h| .refuse _,_,_,_,_,h=>by simp[de]at h
end
section
variable{P:a7}{ag:bb->Bool}{q:Cx}
theorem LN{Q:bu->St->Prop}{s:St}:de P ag q .skip Q s=Q .normal s:=(rfl)
theorem KB{l:Nat}{Q:bu->St->Prop}{s:St}:de P ag q (.label l) Q s=Q .normal s:=(rfl)
theorem LO{id:Nat}{Q:bu->St->Prop}{s:St}:de P ag q (.exit id) Q s=Q (.exit id) s:=(rfl)
theorem PH{Q:bu->St->Prop}{s:St}:de P ag q .ret Q s=Q .ret s:=(rfl)
theorem Kz{b:Code}{Q:bu->St->Prop}{s:St}:de P ag q (.scope b) Q s=de P ag q b Q s:=(rfl)
theorem LP{id:Nat}{l:List Oper}{Q:bu->St->Prop}{s:St}:de P ag q (.region id l.toArray true) Q s=fQ P ag l.toArray l 0 [] (Q .normal) s:=by simp[de]
theorem KA{id:Nat}{l:List Oper}{Q:bu->St->Prop}{s:St}:de P ag q (.region id l.toArray false) Q s=fH P ag l.toArray l (Q .normal) s:=by simp[de]
theorem PI{a b:Code}{Q:bu->St->Prop}{s:St}:de P ag q (.seq a b) Q s=de P ag q a (tt (de P ag q b Q) Q) s:=(rfl)
theorem KC{id:Nat}{b:Code}{Q:bu->St->Prop}{s:St}:de P ag q (.block id b) Q s=de P ag q b (nB id Q) s:=(rfl)
theorem LQ{c:a8}{a b:Code}{Q:bu->St->Prop}{s:St}:de P ag q (.cond c a b) Q s=sL (ev s.env c) (de P ag q a Q) (de P ag q b Q) s:=(rfl)
theorem GZ{K:St->Prop}{Q:bu->St->Prop}{s:St}:tt K Q .normal s=K s:=(rfl)
theorem It{id:Nat}{K:St->Prop}{Q:bu->St->Prop}{s:St}:tt K Q (.exit id) s=Q (.exit id) s:=(rfl)
theorem Jo{K:St->Prop}{Q:bu->St->Prop}{s:St}:tt K Q .ret s=Q .ret s:=(rfl)
theorem Hp{t:Bool}{a b:St->Prop}{s:St}:sL (.p (.bool t)) a b s=if t then a s else b s:=(rfl)
def vo(P:a7)(ag:bb->Bool)(b:Array Oper)(r:List Oper)(i:Nat)(a:List Touch)(K:St->Prop)(dst:Option Tmp)(s:St)(e:aU):Prop:=
 fQ P ag b r (i+1) (gD i s.heap.length e a) K (e.app dst s)
theorem JP{b:Array Oper}{r:List Oper}{i:Nat}{a:List Touch}{K:St->Prop}{dst:Option Tmp}{env:Env}{heap:Heap}{v:AV}{aj aJ:List (Nat×Obj)}{aR:List Obj}:
 vo P ag b r i a K dst ⟨env,heap⟩ ⟨v,aj,aJ,aR⟩=fQ P ag b r (i+1) (gD i heap.length ⟨v,aj,aJ,aR⟩ a) K ⟨put dst v env,ba heap aJ++aR⟩:=(rfl)
theorem Lq{dst:Option Tmp}{env:Env}{heap:Heap}{K:St->Prop}{v:AV}{aj aJ:List (Nat×Obj)}{aR:List Obj}:dX dst ⟨env,heap⟩ K ⟨v,aj,aJ,aR⟩=K ⟨put dst v env,ba heap aJ++aR⟩:=(rfl)
theorem K0{dst:Option Tmp}{env:Env}{heap H:Heap}{K:St->Prop}{v:AV}:zo dst ⟨env,heap⟩ K v H=K ⟨put dst v env,H⟩:=(rfl)
def yc(P:a7)(ag:bb->Bool)(b:Array Oper)(o:Oper)(r:List Oper)(i:Nat)(a:List Touch)(K:St->Prop)(c:Bool)(s:St)(g:AV):Prop:=
 match g with
 | .p (.bool t)=>if t=c then dj P ag o s (vo P ag b r i a K o.dst s)else fQ P ag b r (i+1) a K ⟨put o.dst (.p (.aD [])) s.env,s.heap⟩
 | .p (.aD [])=>fQ P ag b r (i+1) a K ⟨put o.dst (.p (.aD [])) s.env,s.heap⟩
 |_=>False
def yt(P:a7)(ag:bb->Bool)(a:Array Oper)(o:Oper)(r:List Oper)(K:St->Prop)(b:Bool)(s:St)(g:AV):Prop:=
 match g with
 | .p (.bool t)=>if t=b then di P ag o (fH P ag a r K) s else fH P ag a r K ⟨put o.dst (.p (.aD [])) s.env,s.heap⟩
 | .p (.aD [])=>fH P ag a r K ⟨put o.dst (.p (.aD [])) s.env,s.heap⟩
 |_=>False
theorem LM{b:Array Oper}{i:Nat}{a:List Touch}{K:St->Prop}{s:St}:fQ P ag b [] i a K s=(jL b a=true/\K s):=(rfl)
theorem Ky{b:Array Oper}{i c:Nat}{pos:String}{a:List Touch}{K:St->Prop}{s:St}{dst:Option Tmp}{op:Op}{af:Array Edge}{r:List Oper}:
 fQ P ag b ({dst,op,type:=c,pos,after:=af,guard:=none}::r) i a K s=dj P ag {dst,op,type:=c,pos,after:=af,guard:=none} s (vo P ag b r i a K dst s):=(rfl)
theorem Jt{a:Array Oper}{i d j:Nat}{b:Bool}{pos:String}{c:List Touch}{K:St->Prop}{s:St}{dst:Option Tmp}{op:Op}{af:Array Edge}{r:List Oper}:
 fQ P ag a ({dst,op,type:=d,pos,after:=af,guard:=some (j,b)}::r) i c K s=yc P ag a {dst,op,type:=d,pos,after:=af,guard:=some (j,b)} r i c K b s (guardOf a j s.env):=(rfl)
theorem LK{a:Array Oper}{K:St->Prop}{s:St}:fH P ag a [] K s=K s:=(rfl)
theorem Kw{a:Array Oper}{b:Nat}{pos:String}{K:St->Prop}{s:St}{dst:Option Tmp}{op:Op}{af:Array Edge}{r:List Oper}:
 fH P ag a ({dst,op,type:=b,pos,after:=af,guard:=none}::r) K s=di P ag {dst,op,type:=b,pos,after:=af,guard:=none} (fH P ag a r K) s:=(rfl)
theorem Js{a:Array Oper}{c j:Nat}{b:Bool}{pos:String}{K:St->Prop}{s:St}{dst:Option Tmp}{op:Op}{af:Array Edge}{r:List Oper}:
 fH P ag a ({dst,op,type:=c,pos,after:=af,guard:=some (j,b)}::r) K s=yt P ag a {dst,op,type:=c,pos,after:=af,guard:=some (j,b)} r K b s (guardOf a j s.env):=(rfl)
end
section C4
variable{P:a7}{ag:bb->Bool}{q:Cx}
end C4
section ops
variable{P:a7}{ag:bb->Bool}{dst:Option Tmp}{ty:Nat}{pos:String}{af:Array Edge}{g:Option (Nat×Bool)}{env:Env}{heap:Heap}{K:aU->Prop}{L:St->Prop}
theorem MP{x:a8}:dj P ag ⟨dst,.move x,ty,pos,af,g⟩ ⟨env,heap⟩ K=K {v:=ev env x}:=(rfl)
theorem JN{x:a8}:dj P ag ⟨dst,.assign x,ty,pos,af,g⟩ ⟨env,heap⟩ K=K {v:=ev env x}:=(rfl)
theorem MN{c a b:a8}:dj P ag ⟨dst,.pick c a b,ty,pos,af,g⟩ ⟨env,heap⟩ K=bf (qx (ev env c) (ev env a) (ev env b)) K:=(rfl)
theorem Ld{T:a6}:dj P ag ⟨dst,.alloc T,ty,pos,af,g⟩ ⟨env,heap⟩ K=bf (qf P T heap.length) K:=(rfl)
theorem Nw{T:a6}{x:a8}:dj P ag ⟨dst,.box T x,ty,pos,af,g⟩ ⟨env,heap⟩ K=bf (sW P T heap.length (ev env x)) K:=(rfl)
theorem Lc{T:a6}{a:Array (Nat×a8)}:dj P ag ⟨dst,.build T a,ty,pos,af,g⟩ ⟨env,heap⟩ K=bf (qd P T (a.toList.map fun(i,x)=>(i,ev env x))) K:=(rfl)
theorem GB{T:a6}{n:Nat}{a:Array (Nat×a8)}:dj P ag ⟨dst,.buildSlice T n a,ty,pos,af,g⟩ ⟨env,heap⟩ K=bf (pz P T n (a.toList.map fun(i,x)=>(i,ev env x)) heap.length) K:=(rfl)
theorem Mp{T:a6}{a:a8}:dj P ag ⟨dst,.load T a,ty,pos,af,g⟩ ⟨env,heap⟩ K=bf (oR P T heap (ev env a)) K:=(rfl)
theorem K8{T:a6}{a x:a8}:dj P ag ⟨dst,.store T a x,ty,pos,af,g⟩ ⟨env,heap⟩ K=bf (oJ P T heap (ev env a) (ev env x)) K:=(rfl)
theorem Nv{op:be}{T a:a6}{x y:a8}:dj P ag ⟨dst,.binOp op T x y a,ty,pos,af,g⟩ ⟨env,heap⟩ K=bf (iU P op T (lJ y) heap (ev env x) (ev env y)) K:=(rfl)
theorem NA{op:UnOp}{T:a6}{x:a8}:dj P ag ⟨dst,.unOp op T x,ty,pos,af,g⟩ ⟨env,heap⟩ K=bf (q8 op (ev env x)) K:=(rfl)
theorem Mr{S D:a6}{x:a8}:dj P ag ⟨dst,.convert S D x,ty,pos,af,g⟩ ⟨env,heap⟩ K=bf (qm P S D heap (ev env x)) K:=(rfl)
theorem I0{t:a8}{i:Nat}:dj P ag ⟨dst,.extract t i,ty,pos,af,g⟩ ⟨env,heap⟩ K=bf (pK (ev env t) i) K:=(rfl)
theorem G1{T:a6}{a:a8}{f:Nat}:dj P ag ⟨dst,.fieldAddr T a f,ty,pos,af,g⟩ ⟨env,heap⟩ K=bf (n8 P T (ev env a) f) K:=(rfl)
theorem G0{T:a6}{x i:a8}:dj P ag ⟨dst,.indexAddr T x i,ty,pos,af,g⟩ ⟨env,heap⟩ K=bf (n7 P T heap (ev env x) (ev env i)) K:=(rfl)
theorem Lb{T:a6}{x i:a8}:dj P ag ⟨dst,.index T x i,ty,pos,af,g⟩ ⟨env,heap⟩ K=bf (qh P T (ev env x) (ev env i)) K:=(rfl)
theorem Nx{x:a8}{a:Array a6}:dj P ag ⟨dst,.call {callee:=.builtin .len,args:=#[x],argTypes:=a},ty,pos,af,g⟩ ⟨env,heap⟩ K=bf (qP P (a.getD 0 0) a.size heap (ev env x)) K:=(rfl)
theorem Ms{f:a8}{args:List a8}{a:Array a6}:dj P ag ⟨dst,.call {callee:=.value f,args:=args.toArray,argTypes:=a},ty,pos,af,g⟩ ⟨env,heap⟩ K=qc P (ev env f) (args.map (ev env)) heap K:=(rfl)
theorem Ma{x:a8}:di P ag ⟨dst,.move x,ty,pos,af,g⟩ L ⟨env,heap⟩=dX dst ⟨env,heap⟩ L {v:=ev env x}:=(rfl)
theorem I8{x:a8}:di P ag ⟨dst,.assign x,ty,pos,af,g⟩ L ⟨env,heap⟩=dX dst ⟨env,heap⟩ L {v:=ev env x}:=(rfl)
theorem L8{c a b:a8}:di P ag ⟨dst,.pick c a b,ty,pos,af,g⟩ L ⟨env,heap⟩=bf (qx (ev env c) (ev env a) (ev env b)) (dX dst ⟨env,heap⟩ L):=(rfl)
theorem KL{T:a6}:di P ag ⟨dst,.alloc T,ty,pos,af,g⟩ L ⟨env,heap⟩=bf (qf P T heap.length) (dX dst ⟨env,heap⟩ L):=(rfl)
theorem Pa{T:a6}{x:a8}:di P ag ⟨dst,.box T x,ty,pos,af,g⟩ L ⟨env,heap⟩=bf (sW P T heap.length (ev env x)) (dX dst ⟨env,heap⟩ L):=(rfl)
theorem KK{T:a6}{a:Array (Nat×a8)}:di P ag ⟨dst,.build T a,ty,pos,af,g⟩ L ⟨env,heap⟩=bf (qd P T (a.toList.map fun(i,x)=>(i,ev env x))) (dX dst ⟨env,heap⟩ L):=(rfl)
theorem Gv{T:a6}{n:Nat}{a:Array (Nat×a8)}:di P ag ⟨dst,.buildSlice T n a,ty,pos,af,g⟩ L ⟨env,heap⟩=bf (pz P T n (a.toList.map fun(i,x)=>(i,ev env x)) heap.length) (dX dst ⟨env,heap⟩ L):=(rfl)
theorem Mb{T:a6}{a:a8}:di P ag ⟨dst,.load T a,ty,pos,af,g⟩ L ⟨env,heap⟩=bf (oR P T heap (ev env a)) (dX dst ⟨env,heap⟩ L):=(rfl)
theorem K2{T:a6}{a x:a8}:di P ag ⟨dst,.store T a x,ty,pos,af,g⟩ L ⟨env,heap⟩=bf (oJ P T heap (ev env a) (ev env x)) (dX dst ⟨env,heap⟩ L):=(rfl)
theorem O9{op:be}{T a:a6}{x y:a8}:di P ag ⟨dst,.binOp op T x y a,ty,pos,af,g⟩ L ⟨env,heap⟩=bf (iU P op T (lJ y) heap (ev env x) (ev env y)) (dX dst ⟨env,heap⟩ L):=(rfl)
theorem Pe{op:UnOp}{T:a6}{x:a8}:di P ag ⟨dst,.unOp op T x,ty,pos,af,g⟩ L ⟨env,heap⟩=bf (q8 op (ev env x)) (dX dst ⟨env,heap⟩ L):=(rfl)
theorem Md{S D:a6}{x:a8}:di P ag ⟨dst,.convert S D x,ty,pos,af,g⟩ L ⟨env,heap⟩=bf (qm P S D heap (ev env x)) (dX dst ⟨env,heap⟩ L):=(rfl)
theorem H6{t:a8}{i:Nat}:di P ag ⟨dst,.extract t i,ty,pos,af,g⟩ L ⟨env,heap⟩=bf (pK (ev env t) i) (dX dst ⟨env,heap⟩ L):=(rfl)
theorem GU{T:a6}{a:a8}{f:Nat}:di P ag ⟨dst,.fieldAddr T a f,ty,pos,af,g⟩ L ⟨env,heap⟩=bf (n8 P T (ev env a) f) (dX dst ⟨env,heap⟩ L):=(rfl)
theorem GS{T:a6}{x i:a8}:di P ag ⟨dst,.indexAddr T x i,ty,pos,af,g⟩ L ⟨env,heap⟩=bf (n7 P T heap (ev env x) (ev env i)) (dX dst ⟨env,heap⟩ L):=(rfl)
theorem KJ{T:a6}{x i:a8}:di P ag ⟨dst,.index T x i,ty,pos,af,g⟩ L ⟨env,heap⟩=bf (qh P T (ev env x) (ev env i)) (dX dst ⟨env,heap⟩ L):=(rfl)
theorem Pb{x:a8}{a:Array a6}:di P ag ⟨dst,.call {callee:=.builtin .len,args:=#[x],argTypes:=a},ty,pos,af,g⟩ L ⟨env,heap⟩=bf (qP P (a.getD 0 0) a.size heap (ev env x)) (dX dst ⟨env,heap⟩ L):=(rfl)
theorem Me{f:a8}{args:List a8}{a:Array a6}:di P ag ⟨dst,.call {callee:=.value f,args:=args.toArray,argTypes:=a},ty,pos,af,g⟩ L ⟨env,heap⟩=qo P (ev env f) (args.map (ev env)) heap (zo dst ⟨env,heap⟩ L):=(rfl)
theorem K9{T:a6}{x:a8}{lo hi:Option a8}:dj P ag ⟨dst,.slice T x lo hi none,ty,pos,af,g⟩ ⟨env,heap⟩ K=bf (oL P T heap (ev env x) (lo.map (ev env)) (hi.map (ev env))) K:=(rfl)
theorem KH{T:a6}{x:a8}{lo hi:Option a8}:di P ag ⟨dst,.slice T x lo hi none,ty,pos,af,g⟩ L ⟨env,heap⟩=bf (oL P T heap (ev env x) (lo.map (ev env)) (hi.map (ev env))) (dX dst ⟨env,heap⟩ L):=(rfl)
theorem JL{T:a6}{x i:a8}{ok:Bool}:dj P ag ⟨dst,.lookup T x i ok,ty,pos,af,g⟩ ⟨env,heap⟩ K=bf (qt P T heap (ev env x) (ev env i) ok) K:=(rfl)
theorem I6{T:a6}{x i:a8}{ok:Bool}:di P ag ⟨dst,.lookup T x i ok,ty,pos,af,g⟩ L ⟨env,heap⟩=bf (qt P T heap (ev env x) (ev env i) ok) (dX dst ⟨env,heap⟩ L):=(rfl)
theorem Hh{T:a6}{m k x:a8}:dj P ag ⟨dst,.mapUpdate T m k x,ty,pos,af,g⟩ ⟨env,heap⟩ K=bf (lI P T heap (ev env m) (ev env k) (ev env x)) K:=(rfl)
theorem GQ{T:a6}{m k x:a8}:di P ag ⟨dst,.mapUpdate T m k x,ty,pos,af,g⟩ L ⟨env,heap⟩=bf (lI P T heap (ev env m) (ev env k) (ev env x)) (dX dst ⟨env,heap⟩ L):=(rfl)
theorem JM{T:a6}{m k x:a8}:dj P ag ⟨dst,.insert T m k x,ty,pos,af,g⟩ ⟨env,heap⟩ K=bf (lI P T heap (ev env m) (ev env k) (ev env x)) K:=(rfl)
theorem I7{T:a6}{m k x:a8}:di P ag ⟨dst,.insert T m k x,ty,pos,af,g⟩ L ⟨env,heap⟩=bf (lI P T heap (ev env m) (ev env k) (ev env x)) (dX dst ⟨env,heap⟩ L):=(rfl)
theorem La{T:a6}{x:a8}:dj P ag ⟨dst,.range T x,ty,pos,af,g⟩ ⟨env,heap⟩ K=bf (pX P T heap.length (ev env x)) K:=(rfl)
theorem KI{T:a6}{x:a8}:di P ag ⟨dst,.range T x,ty,pos,af,g⟩ L ⟨env,heap⟩=bf (pX P T heap.length (ev env x)) (dX dst ⟨env,heap⟩ L):=(rfl)
theorem MO{it:a8}:dj P ag ⟨dst,.next it true,ty,pos,af,g⟩ ⟨env,heap⟩ K=bf (qB heap (ev env it)) K:=(rfl)
theorem L9{it:a8}:di P ag ⟨dst,.next it true,ty,pos,af,g⟩ L ⟨env,heap⟩=bf (qB heap (ev env it)) (dX dst ⟨env,heap⟩ L):=(rfl)
theorem Hi{T:a6}{l c:a8}:dj P ag ⟨dst,.makeSlice T l c,ty,pos,af,g⟩ ⟨env,heap⟩ K=bf (qD P T heap.length (ev env l) (ev env c)) K:=(rfl)
theorem GR{T:a6}{l c:a8}:di P ag ⟨dst,.makeSlice T l c,ty,pos,af,g⟩ L ⟨env,heap⟩=bf (qD P T heap.length (ev env l) (ev env c)) (dX dst ⟨env,heap⟩ L):=(rfl)
theorem Hm{x:a8}:dj P ag ⟨dst,.nilCheck x,ty,pos,af,g⟩ ⟨env,heap⟩ K=bf (pR (ev env x)) K:=(rfl)
theorem HK{x:a8}:di P ag ⟨dst,.nilCheck x,ty,pos,af,g⟩ L ⟨env,heap⟩=bf (pR (ev env x)) (dX dst ⟨env,heap⟩ L):=(rfl)
theorem Nz{args:Array a8}{a:Array a6}:dj P ag ⟨dst,.call {callee:=.builtin .min,args,argTypes:=a},ty,pos,af,g⟩ ⟨env,heap⟩ K=bf (ke false (args.toList.map (ev env))) K:=(rfl)
theorem Pd{args:Array a8}{a:Array a6}:di P ag ⟨dst,.call {callee:=.builtin .min,args,argTypes:=a},ty,pos,af,g⟩ L ⟨env,heap⟩=bf (ke false (args.toList.map (ev env))) (dX dst ⟨env,heap⟩ L):=(rfl)
theorem Ny{args:Array a8}{a:Array a6}:dj P ag ⟨dst,.call {callee:=.builtin .max,args,argTypes:=a},ty,pos,af,g⟩ ⟨env,heap⟩ K=bf (ke true (args.toList.map (ev env))) K:=(rfl)
theorem Pc{args:Array a8}{a:Array a6}:di P ag ⟨dst,.call {callee:=.builtin .max,args,argTypes:=a},ty,pos,af,g⟩ L ⟨env,heap⟩=bf (ke true (args.toList.map (ev env))) (dX dst ⟨env,heap⟩ L):=(rfl)
theorem IZ{T:a6}:dj P ag ⟨dst,.makeMap T none,ty,pos,af,g⟩ ⟨env,heap⟩ K=K {v:=.map heap.length,aR:=[.map false []]}:=(rfl)
theorem IG{T:a6}:di P ag ⟨dst,.makeMap T none,ty,pos,af,g⟩ L ⟨env,heap⟩=dX dst ⟨env,heap⟩ L {v:=.map heap.length,aR:=[.map false []]}:=(rfl)
theorem JO{s x:a8}{T X:a6}:dj P ag ⟨dst,.call {callee:=.builtin .append,args:=#[s,x],argTypes:=#[T,X]},ty,pos,af,g⟩ ⟨env,heap⟩ K=bf (oI P T X heap (ev env s) (ev env x)) K:=by simp[dj,kf]
theorem I9{s x:a8}{T X:a6}:di P ag ⟨dst,.call {callee:=.builtin .append,args:=#[s,x],argTypes:=#[T,X]},ty,pos,af,g⟩ L ⟨env,heap⟩=bf (oI P T X heap (ev env s) (ev env x)) (dX dst ⟨env,heap⟩ L):=by simp[di,kf]
theorem Mq{s x:a8}{T X:a6}:dj P ag ⟨dst,.call {callee:=.builtin .copy,args:=#[s,x],argTypes:=#[T,X]},ty,pos,af,g⟩ ⟨env,heap⟩ K=bf (copyV P T heap (ev env s) (ev env x)) K:=by simp[dj,kf]
theorem Mc{s x:a8}{T X:a6}:di P ag ⟨dst,.call {callee:=.builtin .copy,args:=#[s,x],argTypes:=#[T,X]},ty,pos,af,g⟩ L ⟨env,heap⟩=bf (copyV P T heap (ev env s) (ev env x)) (dX dst ⟨env,heap⟩ L):=by simp[di,kf]
theorem Ns{f:bb}{fi ca:List AV}{args:List AV}{M:AV->Heap->Prop}:qo P (.func f fi ca) args heap M=gC P false f (fi++args++ca) heap M:=(rfl)
theorem Mt{f:bb}{fi ca:List AV}{args:List AV}:qc P (.func f fi ca) args heap K=gI P f (fi++args++ca) heap K:=(rfl)
theorem Nt{f:bb}{fi ca:List PV}{args:List AV}{M:AV->Heap->Prop}:qo P (.p (.func f fi ca)) args heap M=gC P false f (fi.map .p++args++ca.map .p) heap M:=(rfl)
theorem Nu{f:bb}{fi ca:List PV}{args:List AV}:qc P (.p (.func f fi ca)) args heap K=gI P f (fi.map .p++args++ca.map .p) heap K:=(rfl)
end ops
section
variable{P:a7}
@[simp] theorem aI5{b:Bool}:aL (.bool b)=.leaf:=(rfl)
@[simp] theorem aKd{k:bk}{n:Int}:aL (.int k n)=.leaf:=(rfl)
@[simp] theorem aKi{l:List Nat}:aL (.str l)=.leaf:=(rfl)
@[simp] theorem aKe:aL .aF=.leaf:=(rfl)
@[simp] theorem aKf{l:List PV}:aL (.seq l)=.leaf:=(rfl)
@[simp] theorem aKh{u:a6}{fs:List PV}:aL (.st u fs)=.agg u:=(rfl)
@[simp] theorem aI2{v:PV}:ad (.p v)=aL v:=(rfl)
@[simp] theorem aI4{u:a6}{fs:List AV}:ad (.st u fs)=.agg u:=(rfl)
@[simp] theorem aI3{b v e o l:Nat}:ad (.sl b v e o l)=.leaf:=(rfl)
@[simp] theorem aHg{u:a6}{fs:List PV}:cB (.st u fs)=fs:=(rfl)
theorem UN{a:List bo}{Q:PV->Prop}{s:St}:yT P a Q .ret s=∃vs,fu P s a=some vs/\∃v,dY s.heap 9 (oneOf vs)=some v/\Q v:=by simp[yT]
theorem Sw{a:List bo}{Q:PV->Prop}{s:St}:yT P a Q .normal s=∃vs,fu P s a=some vs/\∃v,dY s.heap 9 (oneOf vs)=some v/\Q v:=by simp[yT]
attribute [simp] UN Sw iQ LN KB LO PH Kz LP KA PI KC LQ GZ It Jo Hp JP Lq K0 LM Ky LK Kw Jt Js
 MP JN MN Ld Nw Lc GB Mp K8 Nv NA Mr I0 G1 G0 Lb Nx Ms
 Ma I8 L8 KL Pa KK Gv Mb K2 O9 Pe Md H6 GU GS KJ Pb Me Nt Nu K9 KH JL I6 Hh GQ JM I7 La KI MO L9 Hi GR Hm HK Nz Pd Ny Pc IZ IG JO I9 Mq Mc Ns Mt oI jX oL qt lI pX qB qD copyV pR ke gw dy eH fj iT o5 lx sj gk ia ld T4 UB
 RI S7 Uf Rw Sj TT
 aN put iu ev ofConst ba gD gR nu eD kn fD gM eB qx qf sW iV qd pz iU th DG q8 qm pK qh qP oR oJ n8 n7 lenOf gF hJ kZ bF
 lJ fu oM oneOf dY
end
section
variable{P:a7}{ag:bb->Bool}
def sE:iZ->iZ->Bool
 | .leaf,.leaf=>true
 | .agg u,.agg v=>e6 u v
 |_,_=>false
theorem iw{a b:iZ}(h:sE a b=true):a=b/\b≠.bad:=by
 cases a<;>cases b<;>simp_all [sE]
def kE:AK->AK->Bool
 | .exact,.exact| .grow,.grow| .frozen,.frozen| .bytes,.bytes=>true
 |_,_=>false
def vI:AK->Bool
 | .frozen=>false
 |_=>true
theorem Cw{k:AK}(h:vI k=true):k≠.frozen:=by cases k<;>simp_all [vI]
def nM(k:AK)(a:List AV):Bool:=match k.gr,a with
 |true,[]=>false
 |_,_=>true
theorem uW{k:AK}{a:List AV}(h:nM k a=true):¬(k.gr=true/\a=[]):=by
 rintro⟨b,rfl⟩;simp[nM,b]at h
theorem dt{a b:Nat}(h:e6 a b=true):a=b:=Nat.eq_of_beq_eq_true h
theorem cU{a b:Nat}(h:e7 a b=true):a<=b:=Nat.le_of_ble_eq_true h
def NZ:bk->bk->Bool:=fun a b=>decide (a=b)
def uY(P:a7)(l:List Nat):List (Nat×AV)->Bool
 |[]=>true
 |(i,v)::r=>(match l[i]? with
  |some n=>e6 (bF P (ad v)) n&&(match ad v with
   | .bad=>false
   |_=>true)
  |none=>false)&&uY P l r
theorem AY{l:List Nat}:∀{r:List (Nat×AV)},uY P l r=true->kZ P l r
 |[],_=>trivial
 |(i,v)::r,h=>by
  simp only[uY,a0]at h;refine⟨?_,AY h.2⟩;have a:=h.1
  split at a
  ·rename_i n c;simp only[a0]at a;refine⟨n,c,dt a.1,fun b=>?_⟩;rw[b]at a;simp at a
  ·simp at a
def oS(P:a7)(sz:Nat):List AV->Bool
 |[]=>true
 |v::r=>(match ad v with
  | .bad=>false
  |s=>e6 (bF P s) sz)&&oS P sz r
theorem sv{sz:Nat}:∀{r:List AV},oS P sz r=true->eH P sz r
 |[],_=>trivial
 |v::r,h=>by
  simp only[oS,a0]at h;refine⟨?_,sv h.2⟩;have a:=h.1
  split at a
  ·simp at a
  ·rename_i b;exact⟨b,dt a⟩
def Dq(P:a7)(T:a6)(H:Heap)(a:AV):Option aU:=
 match a with
 | .ptr b path=>match H[b]? with
  |some (.box fz t)=>match eD t path with
   |some s=>bif sE (kindOf P T) (ad s)then some {v:=s,aj:=[(b,.box fz t)]}else none
   |none=>none
  |_=>none
 | .b6 b ar ai i path=>match H[b]? with
  |some (.arr k d c es)=>bif e6 ar d&&e6 ai c then match es[i]? with
   |some x=>match eD x path with
    |some s=>bif sE (kindOf P T) (ad s)then some {v:=s,aj:=[(b,.arr k d c es)]}else none
    |none=>none
   |none=>none
   else none
  |_=>none
 | .p (.cr t)=>bif sE (kindOf P T) (aL t)then some {v:=.p t}else none
 |_=>none
theorem VT{T:a6}{H:Heap}{a:AV}{e:aU}{K:aU->Prop}(h:Dq P T H a=some e)(hk:K e):nD P T H a K:=by
 unfold Dq at h;unfold nD
 split at h
 ·split at h
  ·split at h
   ·rename_i hs;simp only[aT,fm,fK]at h;rename_i c _ _;obtain⟨b,rfl⟩:=h;simp only[c,hs];exact⟨(iw b).1,hk⟩
   ·simp at h
  ·simp at h
 ·split at h
  ·rename_i c;simp only[aT,fm,a0]at h;obtain⟨⟨b,d⟩,h⟩:=h
   split at h
   ·rename_i hx
    split at h
    ·rename_i hs;simp only[fm,fK]at h;obtain⟨f,rfl⟩:=h;obtain⟨hi,rfl⟩:=cy.1 hx;simp only[c];refine⟨dt b,dt d,hi,?_⟩;simp only[hs];exact⟨(iw f).1,hk⟩
    ·simp at h
   ·simp at h
  ·simp at h
 ·simp only[aT,fm,fK]at h;obtain⟨b,rfl⟩:=h;exact⟨(iw b).1,hk⟩
 ·simp at h
def Cn(P:a7)(T:a6)(H:Heap)(a x:AV):Option aU:=
 bif sE (kindOf P T) (ad x)then match a with
 | .ptr b path=>match H[b]? with
  |some (.box false t)=>match eD t path,fD t path x with
   |some s,some d=>bif sE (ad s) (ad x)then some {v:=.p (.aD []),aj:=[(b,.box false t)],aJ:=[(b,.box false d)]}else none
   |_,_=>none
  |_=>none
 | .b6 b ar ai i path=>match H[b]? with
  |some (.arr k e c es)=>bif e6 ar e&&(e6 ai c&&vI k)then match es[i]? with
   |some y=>match eD y path,fD y path x with
    |some s,some d=>bif sE (ad s) (ad x)then some {v:=.p (.aD []),aj:=[(b,.arr k e c es)],aJ:=[(b,.arr k e c (es.set i d))]}else none
    |_,_=>none
   |none=>none
   else none
  |_=>none
 |_=>none
 else none
theorem T8{T:a6}{H:Heap}{a x:AV}{e:aU}{K:aU->Prop}(h:Cn P T H a x=some e)(hk:K e):nq P T H a x K:=by
 unfold Cn at h;unfold nq;simp only[aT,fm]at h;obtain⟨f,h⟩:=h;refine⟨(iw f).1,(iw f).2,?_⟩
 split at h
 ·split at h
  ·rename_i c
   split at h
   ·rename_i hs d;simp only[fm,fK]at h;obtain⟨b,rfl⟩:=h;simp only[c,hs,d];exact⟨(iw b).1,hk⟩
   ·simp at h
  ·simp at h
 ·split at h
  ·rename_i c;simp only[fm,a0]at h;obtain⟨⟨b,g,i⟩,h⟩:=h
   split at h
   ·rename_i k
    split at h
    ·rename_i hs d;simp only[fm,fK]at h;obtain⟨j,rfl⟩:=h;obtain⟨hi,rfl⟩:=cy.1 k;simp only[c];refine⟨dt b,dt g,Cw i,hi,?_⟩;simp only[hs,d];exact⟨(iw j).1,hk⟩
    ·simp at h
   ·simp at h
  ·simp at h
 ·simp at h
def Dh(op:be)(k:bk)(a b:Int):Option PV:=
 match op with
 | .add=>some (.int k (k.wrap (a+b)))
 | .sub=>some (.int k (k.wrap (a-b)))
 | .mul=>some (.int k (k.wrap (a*b)))
 | .quo=>match b with
  | .ofNat 0=>none
  |b=>some (.int k (k.wrap (a.tdiv b)))
 | .rem=>match b with
  | .ofNat 0=>none
  |b=>some (.int k (a.tmod b))
 | .and=>some (.int k (k.wrap (ay k.bits a&&&ay k.bits b).toNat))
 | .or=>some (.int k (k.wrap (ay k.bits a|||ay k.bits b).toNat))
 | .xor=>some (.int k (k.wrap (ay k.bits a^^^ay k.bits b).toNat))
 | .andNot=>some (.int k (k.wrap (ay k.bits a&&&~~~ay k.bits b).toNat))
 | .eql=>some (.bool (a==b))
 | .neq=>some (.bool (a !=b))
 | .lss=>some (.bool (decide (a<b)))
 | .leq=>some (.bool (decide (a<=b)))
 | .gtr=>some (.bool (decide (a>b)))
 | .geq=>some (.bool (decide (a>=b)))
 | .shl=>match b with
  | .ofNat _=>some (.int k (k.wrap (a*2^(min b.toNat k.bits))))
  |_=>none
 | .shr=>match b with
  | .ofNat _=>some (.int k (a.fdiv (2^(min b.toNat k.bits))))
  |_=>none
theorem Y3{op:be}{k:bk}{a b:Int}{v:PV}{K:PV->Prop}(h:Dh op k a b=some v)(hk:K v):oQ op k a b K:=by
 cases op<;>simp only[Dh]at h<;>simp only[oQ]
 case quo|rem=>
  split at h
  ·simp at h
  ·rename_i d;simp only[fK]at h;subst h;exact⟨fun c=>d (by rw[c];rfl),hk⟩
 case shl|shr=>
  split at h
  ·simp only[fK]at h;subst h;exact⟨cc _,hk⟩
  ·simp at h
 all_goals (simp only[fK]at h;subst h;exact hk)
def CZ(P:a7)(op:be)(T:a6)(c:Bool)(H:Heap)(x y:AV):Option PV:=
 match x,y with
 | .p (.int k a),.p (.int d b)=>bif NZ k d||(match op with
  | .shl| .shr=>true
  |_=>false)then Dh op k a b else none
 | .p (.str a),.p (.str b)=>match op with
  | .add=>bif e7 (a.length+b.length) 9223372036854775807 then some (.str (a++b))else none
  | .eql=>some (.bool (a==b))
  | .neq=>some (.bool (!(a==b)))
  | .lss=>some (.bool (iN a b))
  | .leq=>some (.bool (iN a b||a==b))
  | .gtr=>some (.bool (!(iN a b||a==b)))
  | .geq=>some (.bool (!(iN a b)))
  |_=>none
 | .p (.bool a),.p (.bool b)=>bif pU P T then match op with
  | .eql=>some (.bool (a==b))
  | .neq=>some (.bool (!(a==b)))
  |_=>none
  else none
 | .p (.st u fs),.p (.st u' gs)=>bif mA P T then match eZ P 9 T (.st u fs) (.st u' gs),op with
  |some r,.eql=>some (.bool r)
  |some r,.neq=>some (.bool !r)
  |_,_=>none
  else none
 |x,y=>match dh P T c y with
  |some k=>match cO H k x,op with
   |some r,.eql=>some (.bool r)
   |some r,.neq=>some (.bool !r)
   |_,_=>none
  |none=>none
theorem WX{op:be}{T:a6}{c:Bool}{H:Heap}{x y:AV}{v:PV}{K:PV->Prop}(h:CZ P op T c H x y=some v)(hk:K v):jS P op T c H x y K:=by
 unfold CZ at h;unfold jS
 split at h
 ·simp only[aT,fm,Bool.or_eq_true,NZ,decide_eq_true_eq]at h;refine⟨?_,Y3 h.2 hk⟩;rcases h.1 with b|b
  ·exact .inl b
  ·cases op<;>simp at b<;>simp
 ·split at h<;>simp only[oP]
  ·simp only[aT,fm,fK]at h;obtain⟨b,rfl⟩:=h;exact⟨by have:=cU b;omega,hk⟩
  ·simp only[fK]at h;subst h;exact hk
  ·simp only[fK]at h;subst h;exact hk
  ·simp only[fK]at h;subst h;exact hk
  ·simp only[fK]at h;subst h;exact hk
  ·simp only[fK]at h;subst h;exact hk
  ·simp only[fK]at h;subst h;exact hk
  ·simp at h
 ·simp only[aT,fm]at h;refine⟨h.1,?_⟩;have a:=h.2
  split at a
  ·simp only[fK]at a;subst a;exact hk
  ·simp only[fK]at a;subst a;exact hk
  ·simp at a
 ·simp only[aT,fm]at h;refine⟨h.1,?_⟩;have a:=h.2
  split at a
  ·rename_i d;simp only[fK]at a;subst a;simp only[d];exact hk
  ·rename_i d;simp only[fK]at a;subst a;simp only[d];exact hk
  ·simp at a
 ·split at h
  case h_2=>simp at h
  rename_i k f;show jS P op T c H x y _;rw[IJ f];obtain⟨r,e,d⟩:∃r,cO H k x=some r/\((op=.eql/\v=.bool r)\/(op=.neq/\v=.bool !r)):=by
   revert h;generalize cO H k x=q;intro h;cases q with
   |none=>simp at h
   |some r=>cases op<;>simp at h<;>exact⟨r,rfl,by simp[h]⟩
  rw[e];rcases d with⟨rfl,rfl⟩|⟨rfl,rfl⟩<;>exact hk
def AN(P:a7)(T:a6)(a:AV)(f:Nat):Option aU:=
 match fx P T with
 |some (u,n)=>bif e7 (f+1) n then match a with
  | .ptr b path=>some {v:=.ptr b (path++[(u,f)])}
  | .b6 b ar ai i path=>some {v:=.b6 b ar ai i (path++[(u,f)])}
  | .p (.cr t)=>bif sE (aL t) (.agg u)then match(cB t)[f]? with
   |some g=>some {v:=.p (.cr g)}
   |none=>none
   else none
  |_=>none
  else none
 |_=>none
theorem RA{T:a6}{a:AV}{f:Nat}{e:aU}{K:aU->Prop}(h:AN P T a f=some e)(hk:K e):mV P T a f K:=by
 unfold AN at h;unfold mV
 split at h
 ·rename_i hs;simp only[aT,fm]at h;obtain⟨b,h⟩:=h;simp only[hs];refine⟨by have:=cU b;omega,?_⟩
  split at h
  ·simp only[fK]at h;subst h;exact hk
  ·simp only[fK]at h;subst h;exact hk
  ·simp only[fm]at h;obtain⟨c,h⟩:=h
   split at h
   ·rename_i d;simp only[fK]at h;subst h;simp only[d];exact⟨(iw c).1,hk⟩
   ·simp at h
  ·simp at h
 ·simp at h
def oE(a:Option Nat)(b:Nat):Bool:=match a with
 |some x=>e6 x b
 |none=>false
theorem vk{a:Option Nat}{b:Nat}(h:oE a b=true):a=some b:=by
 unfold oE at h;split at h
 ·rw[dt h]
 ·simp at h
def AJ(P:a7)(T:a6)(H:Heap)(x i:AV):Option aU:=
 match i with
 | .p (.int _ (.ofNat i))=>match x with
  | .p (.bI _ es)=>match es[i]? with
   |some y=>bif oE (cL P T) (bF P (aL y))then some {v:=.p (.cr y)}else none
   |none=>none
  | .p (.seq es)=>match es[i]? with
   |some y=>bif oE (cL P T) (bF P (aL y))then some {v:=.p (.cr y)}else none
   |none=>none
  | .sl b ar ai off len=>bif oE (cL P T) ai&&e7 (i+1) len then match H[b]? with
   |some (.arr k c a es)=>bif e6 ar c&&(e6 ai a&&nM k es)then some {v:=.b6 b ar ai (off+i) [],aj:=[(b,.arr k c a es)]}else none
   |_=>none
   else none
  | .ptr b path=>match gK P T with
   |some (u,n)=>bif e7 (i+1) n then some {v:=.ptr b (path++[(u,i)])}else none
   |_=>none
  | .b6 b ar ai j path=>match gK P T with
   |some (u,n)=>bif e7 (i+1) n then some {v:=.b6 b ar ai j (path++[(u,i)])}else none
   |_=>none
  | .p (.cr t)=>match gK P T with
   |some (u,n)=>bif sE (aL t) (.agg u)&&e7 (i+1) n then match(cB t)[i]? with
    |some g=>some {v:=.p (.cr g)}
    |none=>none
    else none
   |_=>none
  |_=>none
 |_=>none
theorem RO{T:a6}{H:Heap}{x i:AV}{e:aU}{K:aU->Prop}(h:AJ P T H x i=some e)(hk:K e):mU P T H x i K:=by
 unfold AJ at h;unfold mU
 split at h
 case h_2=>simp at h
 rename_i i;refine⟨cc _,?_⟩;simp only[ce,ck]
 split at h
 ·split at h
  ·rename_i y d;simp only[aT,fm,fK]at h;obtain⟨a,rfl⟩:=h;obtain⟨hi,rfl⟩:=cy.1 d;exact⟨hi,vk a,hk⟩
  ·simp at h
 ·split at h
  ·rename_i y d;simp only[aT,fm,fK]at h;obtain⟨a,rfl⟩:=h;obtain⟨hi,rfl⟩:=cy.1 d;exact⟨hi,vk a,hk⟩
  ·simp at h
 ·simp only[aT,fm,a0]at h;obtain⟨⟨a,c⟩,h⟩:=h;refine⟨vk a,by have:=cU c;omega,?_⟩
  split at h
  ·rename_i k;simp only[fm,fK]at h;obtain⟨⟨f,g,j⟩,rfl⟩:=h;simp only[k];exact⟨dt f,dt g,uW j,hk⟩
  ·simp at h
 ·split at h
  ·rename_i b;simp only[aT,fm,fK]at h;obtain⟨a,rfl⟩:=h;simp only[b];exact⟨by have:=cU a;omega,hk⟩
  ·simp at h
 ·split at h
  ·rename_i b;simp only[aT,fm,fK]at h;obtain⟨a,rfl⟩:=h;simp only[b];exact⟨by have:=cU a;omega,hk⟩
  ·simp at h
 ·split at h
  ·rename_i b;simp only[aT,fm,a0]at h;obtain⟨⟨a,c⟩,h⟩:=h
   split at h
   ·rename_i l;simp only[fK]at h;subst h;simp only[b,l];exact⟨(iw a).1,by have:=cU c;omega,hk⟩
   ·simp at h
  ·simp at h
 ·simp at h
def Cf(P:a7)(T X:a6)(H:Heap)(s x:AV):Option aU:=
 match cL P T,gw H x with
 |some sz,some xs=>bif gJ P X&&((cJ P (dN P T)).isSome&&oS P sz xs)then
  match s with
  | .p .aF=>match xs with
   |[]=>some {v:=s,aj:=dy H x}
   |y::r=>bif e7 (y::r).length cC then some {v:=.sl H.length 0 sz 0 (y::r).length,aj:=dy H x,aR:=[.arr (gk P T) 0 sz (y::r)]}else none
  | .p (.bI full es)=>bif oS P sz (es.map .p)then match xs with
   |[]=>some {v:=s,aj:=dy H x}
   |y::r=>bif full&&e7 (es.length+(y::r).length) cC then
    some {v:=.sl H.length 0 sz 0 (es.length+(y::r).length),aj:=dy H x,aR:=[.arr (gk P T) 0 sz (es.map .p++(y::r))]}else none
   else none
  | .sl b ar ai off len=>match H[b]? with
   |some (.arr k c a es)=>bif e6 ar c&&(e6 ai a&&(e6 ai sz&&e7 (off+len) es.length))then
    match xs with
    |[]=>some {v:=s,aj:=(b,.arr k c a es)::dy H x}
    |y::r=>bif e7 (es.length+(y::r).length) cC then match k with
     | .frozen=>none
     | .exact=>bif e7 (off+len+(y::r).length) es.length then
      some {v:=.sl b ar ai off (len+(y::r).length),aj:=(b,.arr .exact c a es)::dy H x,aJ:=[(b,.arr .exact ar ai (es.take (off+len)++(y::r)++es.drop (off+len+(y::r).length)))]}
      else some {v:=.sl H.length 0 sz 0 (len+(y::r).length),aj:=(b,.arr .exact c a es)::dy H x,aR:=[.arr (gk P T) 0 sz ((es.drop off).take len++(y::r))]}
     | .grow=>bif e6 off 0 then some {v:=.sl b (ar+1) ai 0 (len+(y::r).length),aj:=(b,.arr .grow c a es)::dy H x,aJ:=[(b,.arr .grow (ar+1) ai (es.take len++(y::r)))]}else none
     | .bytes=>bif e6 off 0&&e6 (dN P T) Gl.u8 then some {v:=.sl b (ar+1) ai 0 (len+(y::r).length),aj:=(b,.arr .bytes c a es)::dy H x,aJ:=[(b,.arr .bytes (ar+1) ai (es.take len++(y::r)))]}else none
     else none
    else none
   |_=>none
  |_=>none
  else none
 |_,_=>none
theorem QG{T X:a6}{H:Heap}{s x:AV}{e:aU}{K:aU->Prop}(h:Cf P T X H s x=some e)(hk:K e):mY P T X H s x K:=by
 unfold Cf at h;unfold mY
 split at h
 case h_2=>simp at h
 rename_i sz r n p;simp only[aT,fm,a0]at h;obtain⟨⟨g,j,k⟩,h⟩:=h;simp only[n,p];refine⟨g,j,sv k,?_⟩
 split at h
 ·split at h
  ·simp only[fK]at h;subst h;simpa using hk
  ·simp only[fm,fK]at h;obtain⟨a,rfl⟩:=h;simp only[dp,a1,if_false];exact⟨cU a,hk⟩
 ·simp only[fm]at h;obtain⟨a,h⟩:=h;refine⟨sv a,?_⟩
  split at h
  ·simp only[fK]at h;subst h;simpa using hk
  ·simp only[fm,fK]at h;obtain⟨⟨b,c⟩,rfl⟩:=h;simp only[dp,a1,if_false];exact⟨b,cU c,hk⟩
 ·split at h
  case h_2=>simp at h
  rename_i o;simp only[fm]at h;obtain⟨⟨a,b,c,l⟩,h⟩:=h;simp only[o];refine⟨dt a,dt b,dt c,cU l,?_⟩
  split at h
  ·simp only[fK]at h;subst h;simpa using hk
  ·simp only[fm]at h;obtain⟨m,h⟩:=h;simp only[dp,a1,if_false];refine⟨cU m,?_⟩
   split at h
   ·simp at h
   ·split at h
    ·rename_i f;simp only[fK]at h;subst h;simp only[cU f,if_true];exact hk
    ·rename_i f;simp only[fK]at h;subst h;rw[if_neg (fun q=>f (e8 q))];exact hk
   ·simp only[fm,fK]at h;obtain⟨d,rfl⟩:=h;exact⟨dt d,(fun h=>by cases h),hk⟩
   ·simp only[fm,fK]at h;obtain⟨⟨d,i⟩,rfl⟩:=h;exact⟨dt d,fun _=>dt i,hk⟩
 ·simp at h
end
section
variable{P:a7}{ag:bb->Bool}
def jh(x:Option AV)(d:Nat):Option Nat:=
 match x with
 |none=>some d
 |some (.p (.int _ (.ofNat i)))=>some i
 |_=>none
theorem jN{x:Option AV}{d n:Nat}{K:Nat->Prop}(h:jh x d=some n)(hk:K n):ga x d K:=by
 unfold jh at h;unfold ga
 split at h
 ·simp only[fK]at h;subst h;exact hk
 ·simp only[fK]at h;subst h;exact⟨cc _,hk⟩
 ·simp at h
def Cp(P:a7)(T:a6)(H:Heap)(x:AV)(lo hi e:Option AV):Option aU:=
 match e with
 |some _=>none
 |none=>match x with
  | .p (.str s)=>match jh hi s.length,jh lo 0 with
   |some h,some l=>bif ia P T&&(e7 h s.length&&e7 l h)then some {v:=.p (.str ((s.take h).drop l))}else none
   |_,_=>none
  | .p .aF=>match jh hi 0,jh lo 0 with
   |some h,some l=>bif (cL P T).isSome&&(e7 h 0&&e7 l h)then some {v:=x}else none
   |_,_=>none
  | .p (.bI full es)=>match jh hi es.length,jh lo 0,cL P T with
   |some h,some l,some sz=>bif e7 h es.length&&(e7 l h&&oS P sz (es.map .p))then some {v:=.p (.bI (full&&h==es.length) ((es.take h).drop l))}else none
   |_,_,_=>none
  | .p (.seq es)=>match jh hi es.length,jh lo 0,cL P T with
   |some h,some l,some sz=>bif e7 h es.length&&(e7 l h&&oS P sz (es.map .p))then some {v:=.p (.seq ((es.take h).drop l))}else none
   |_,_,_=>none
  | .sl b ar ai off len=>match H[b]? with
   |some (.arr k c a es)=>match jh hi len,jh lo 0 with
    |some h,some l=>bif e6 ar c&&(e6 ai a&&(oE (cL P T) ai&&(nM k es&&(e7 (off+len) es.length&&(e7 (off+h) es.length&&e7 l h)))))then
     match l with
     |0=>some {v:=.sl b ar ai off h,aj:=[(b,.arr k c a es)]}
     |d+1=>bif e6 (d+1) h then some {v:=.p (.bI false []),aj:=[(b,.arr k c a es)]}else some {v:=.sl b ar ai (off+(d+1)) (h-(d+1)),aj:=[(b,.arr k c a es)]}
     else none
    |_,_=>none
   |_=>none
  |_=>none
theorem Ub{T:a6}{H:Heap}{x:AV}{lo hi j:Option AV}{e:aU}{K:aU->Prop}(h:Cp P T H x lo hi j=some e)(hk:K e):nr P T H x lo hi j K:=by
 unfold Cp at h;unfold nr
 split at h
 ·simp at h
 refine⟨rfl,?_⟩
 split at h
 ·split at h
  case h_2=>simp at h
  rename_i a b;simp only[aT,fm,a0,fK]at h;obtain⟨⟨c,d,f⟩,rfl⟩:=h;exact⟨c,jN a (jN b ⟨cU d,cU f,hk⟩)⟩
 ·split at h
  case h_2=>simp at h
  rename_i a b;simp only[aT,fm,a0,fK]at h;obtain⟨⟨c,d,f⟩,rfl⟩:=h;exact⟨c,jN a (jN b ⟨cU d,cU f,hk⟩)⟩
 ·split at h
  case h_2=>simp at h
  rename_i a b c;simp only[aT,fm,a0,fK]at h;obtain⟨⟨d,f,g⟩,rfl⟩:=h;refine jN a (jN b ⟨cU d,cU f,?_⟩);simp only[c];exact⟨sv g,hk⟩
 ·split at h
  case h_2=>simp at h
  rename_i a b c;simp only[aT,fm,a0,fK]at h;obtain⟨⟨d,f,g⟩,rfl⟩:=h;refine jN a (jN b ⟨cU d,cU f,?_⟩);simp only[c];exact⟨sv g,hk⟩
 ·split at h
  case h_2=>simp at h
  rename_i n
  split at h
  case h_2=>simp at h
  rename_i a b;simp only[aT,fm,a0]at h;obtain⟨⟨c,d,f,g,k,l,m⟩,h⟩:=h;simp only[n];refine⟨dt c,dt d,vk f,uW g,cU k,jN a (jN b ⟨cU l,cU m,?_⟩)⟩
  split at h
  ·simp only[fK]at h;subst h;simpa using hk
  ·rw[if_neg (by omega)]
   split at h
   ·rename_i i;simp only[fK]at h;subst h;rw[if_pos (dt i)];exact hk
   ·rename_i i;simp only[fK]at h;subst h;rw[if_neg (fun e=>i (by rw[<-e];exact fl _))];exact hk
 ·simp at h
def BK(P:a7)(T:a6)(H:Heap)(x:AV)(lo hi:Option AV)(m:AV):Option aU:=
 match x with
 | .sl b ar ai off len=>match H[b]? with
  |some (.arr k c a es)=>match jh hi len,jh lo 0,jh (some m) 0 with
   |some h,some l,some m=>bif e6 ar c&&(e6 ai a&&((cL P T).isSome&&(nM k es&&(e7 (off+len) es.length&&(hi.isSome&&(e7 (off+m) es.length&&(e7 h m&&e7 l h)))))))then
    some {v:=.p .undef,aj:=[(b,.arr k c a es)]}else none
   |_,_,_=>none
  |_=>none
 |_=>none
theorem TO{T:a6}{H:Heap}{x:AV}{lo hi:Option AV}{m:AV}{e:aU}{K:aU->Prop}(h:BK P T H x lo hi m=some e)(hk:K e):pH P T H x lo hi m K:=by
 unfold BK at h;unfold pH
 split at h
 case h_2=>simp at h
 split at h
 case h_2=>simp at h
 rename_i d
 split at h
 case h_2=>simp at h
 rename_i a b c;simp only[aT,fm,a0,fK]at h;obtain⟨⟨g1,g2,g3,g4,g5,g6,g7,g8,g9⟩,rfl⟩:=h;simp only[d];exact⟨dt g1,dt g2,g3,uW g4,cU g5,g6,jN a (jN b (jN c ⟨cU g7,cU g8,cU g9,hk⟩))⟩
def yI(ok:Bool)(z:PV)(r:Option PV):PV:=
 match r with
 |some v=>bif ok then .aD [v,.bool true]else v
 |none=>bif ok then .aD [z,.bool false]else z
def az0(ok:Bool)(z:PV)(r:Option AV):AV:=
 match r with
 |some v=>bif ok then .aD [v,.p (.bool true)]else v
 |none=>.p (bif ok then .aD [z,.bool false]else z)
def KG(P:a7)(T:a6)(H:Heap)(x i:AV)(ok:Bool):Option aU:=
 match iT P T,i with
 |some (a,E),.p key=>match cJ P E with
  |some z=>bif fj P a key then match x with
   | .p .fo=>some {v:=.p (yI ok z none)}
   | .p (.eK es)=>match fF P a es key with
    |some r=>some {v:=.p (yI ok z r)}
    |none=>none
   | .map b=>match H[b]? with
    |some (.map fz es)=>match fF P a es key with
     |some r=>some {v:=.p (yI ok z r),aj:=[(b,.map fz es)]}
     |none=>none
    |some (.dm ks vs)=>bif mM key then match ku P a ks vs key with
     |some r=>some {v:=az0 ok z r,aj:=[(b,.dm ks vs)]}
     |none=>none
     else none
    |_=>none
   |_=>none
   else none
  |none=>none
 |_,_=>none
def zi(P:a7)(c:a6)(b:Nat)(key:PV)(x:AV)(a:Obj):Option aU:=
 match rp a with
 |some (ks,vs)=>bif mM key then match ku P c ks vs key with
  |some none=>some {v:=.p (.aD []),aj:=[(b,a)],aJ:=[(b,.dm (ks++[key]) (vs++[x]))]}
  |_=>none
  else none
 |none=>none
theorem zZ{P:a7}{a:a6}{b:Nat}{key:PV}{x:AV}{c:Obj}{e:aU}{K:aU->Prop}(h:zi P a b key x c=some e)(hk:K e):nV P a b key x c K:=by
 unfold zi at h;unfold nV
 split at h
 ·rename_i ks vs f;simp only[aT,fm]at h;obtain⟨d,h⟩:=h
  split at h
  ·rename_i g;simp only[fK]at h;subst h;simp only[f];exact⟨d,g,hk⟩
  ·cases h
 ·cases h
def KD(P:a7)(T:a6)(H:Heap)(m k x:AV):Option aU:=
 match iT P T,m,k with
 |some (a,_),.map b,.p key=>bif fj P a key then match H[b]? with
  |some (.map false es)=>match x with
   | .p v=>match lx P a es key with
    |some _=>some {v:=.p (.aD []),aj:=[(b,.map false es)],aJ:=[(b,.map false (fZ es key v))]}
    |none=>none
   |x=>zi P a b key x (.map false es)
  |some (.dm ks vs)=>zi P a b key x (.dm ks vs)
  |_=>none
  else none
 |_,_,_=>none
def O1(H:Heap)(it:AV):Option aU:=
 match it with
 | .ptr b []=>match H[b]? with
  |some (.dv s pos)=>bif e7 (pos+1) s.length then
   some {v:=.p (.aD [.bool true,.int .i64 pos,.int .i32 (cb (fT s) pos).1]),aj:=[(b,.dv s pos)],aJ:=[(b,.dv s (pos+(cb (fT s) pos).2))]}
   else some {v:=.p (.aD [.bool false]),aj:=[(b,.dv s pos)]}
  |_=>none
 |_=>none
def Jz(P:a7)(H:Heap)(b:Builtin)(c:Array a6)(args:List AV):Option aU:=
 match b,args with
 | .len,[x]=>match lenOf H x with
  |some (n,aj)=>bif gF P (c.getD 0 0) x&&e7 1 c.size then some {v:=.p (.int .i64 n),aj}else none
  |none=>none
 | .append,[s,x]=>bif e6 c.size 2 then Cf P (c.getD 0 0) (c.getD 1 0) H s x else none
 | .min,.p (.int k a)::r=>match ld k false r a with
  |some n=>some {v:=.p (.int k n)}
  |none=>none
 | .max,.p (.int k a)::r=>match ld k true r a with
  |some n=>some {v:=.p (.int k n)}
  |none=>none
 | .copy,[d,x]=>match cL P (c.getD 0 0),d,gw H x with
  |some sz,.sl b ar ai off len,some xs=>bif e6 ai sz&&(oS P sz xs&&e6 c.size 2)then match H[b]? with
   |some (.arr k f e es)=>bif e6 ar f&&(e6 ai e&&(vI k&&(e7 (off+len) es.length&&nM k es)))then
    some {v:=.p (.int .i64 (min xs.length len:Nat)),aj:=(b,.arr k f e es)::dy H x,aJ:=[(b,.arr k f e (es.take off++xs.take (min xs.length len)++es.drop (off+min xs.length len)))]}
    else none
   |_=>none
   else none
  |_,_,_=>none
 | .cap,[x]=>match yW H x with
  |some (n,aj)=>bif gF P (c.getD 0 0) x&&e7 1 c.size then some {v:=.p (.int .i64 n),aj}else none
  |none=>none
 | .clear,[x]=>match x with
  | .p .aF=>bif gF P (c.getD 0 0) x&&e7 1 c.size then some {v:=.p (.aD [])}else none
  | .sl b ar ai off len=>match cL P (c.getD 0 0),cJ P (dN P (c.getD 0 0)),H[b]? with
   |some sz,some z,some (.arr k f e es)=>bif e6 ar f&&(e6 ai e&&(e6 ai sz&&(e6 (bF P (aL z)) sz&&(vI k&&(e7 (off+len) es.length&&(nM k es&&(e7 1 c.size&&e7 1 len)))))))then
    some {v:=.p (.aD []),aj:=[(b,.arr k f e es)],aJ:=[(b,.arr k f e (es.take off++c6 len (.p z)++es.drop (off+len)))]}else none
   |_,_,_=>none
  |_=>none
 | .unsafeSliceData,[x]=>match x with
  | .p .aF=>some {v:=.p .dD}
  | .sl b ar ai off len=>match H[b]? with
   |some (.arr k f e es)=>bif e6 ar f&&e6 ai e then
    bif nM k es then(bif e7 1 len&&e7 (off+len) es.length then some {v:=.b6 b ar ai off [],aj:=[(b,.arr k f e es)]}else none)
    else some {v:=.p .dD,aj:=[(b,.arr k f e es)]}
    else none
   |_=>none
  |_=>none
 | .unsafeString,[x,.p (.int .i64 (.ofNat n))]=>match x with
  | .p .dD=>bif e6 n 0&&e6 c.size 2 then some {v:=.p (.str [])}else none
  | .b6 b ar ai i []=>match H[b]? with
   |some (.arr .bytes f e es)=>bif e6 ar f&&(e6 ai e&&(e6 ai 1&&(e6 i 0&&(e7 1 n&&(e7 n es.length&&(e7 n 9223372036854775807&&(e6 c.size 2&&(oE (ptrTo P (c.getD 0 0)) Gl.u8&&e6 (P.cellsOf Gl.u8) 1))))))))then
    match bytesOf (es.take n)with
    |some l=>some {v:=.p (.str l),aj:=[(b,.arr .bytes f e es)],aJ:=[(b,.dead)]}
    |none=>none
    else none
   |_=>none
  |_=>none
 |_,_=>none
def zm(P:a7)(ag:bb->Bool)(o:Oper)(ρ:a8->AV)(H:Heap):Option aU:=
 match o.op with
 | .move x| .assign x=>some {v:=ρ x}
 | .pick c a b=>match ρ c with
  | .p (.bool t)=>some {v:=bif t then ρ a else ρ b}
  |_=>none
 | .alloc T=>match cJ P T with
  |some z=>bif sE (kindOf P T) (aL z)&&iV T (aL z)then some {v:=.ptr H.length [],aR:=[.box false (.p z)]}else none
  |none=>none
 | .box T x=>bif sE (kindOf P T) (ad (ρ x))&&iV T (ad (ρ x))then some {v:=.ptr H.length [],aR:=[.box false (ρ x)]}else none
 | .build T parts=>match kindOf P T,cJ P T with
  | .agg u,some z=>match dH P u with
   |some l=>bif sE (aL z) (.agg u)&&uY P l (parts.toList.map fun(i,x)=>(i,ρ x))then some {v:=gM u (hJ ((cB z).map .p) (parts.toList.map fun(i,x)=>(i,ρ x)))}else none
   |none=>none
  |_,_=>none
 | .buildSlice T n parts=>match cL P T,cJ P (dN P T)with
  |some sz,some z=>bif e6 (bF P (aL z)) sz&&(e7 (n*sz) 1000000&&uY P (c6 n sz) (parts.toList.map fun(i,x)=>(i,ρ x)))then
   some {v:=.sl H.length 0 sz 0 n,aR:=[.arr .exact 0 sz (hJ (c6 n (.p z)) (parts.toList.map fun(i,x)=>(i,ρ x)))]}else none
  |_,_=>none
 | .load T a=>Dq P T H (ρ a)
 | .store T a x=>Cn P T H (ρ a) (ρ x)
 | .binOp op T x y _=>match CZ P op T (lJ y) H (ρ x) (ρ y)with
  |some v=>some {v:=.p v,aj:=dy H (ρ x)}
  |none=>none
 | .unOp op _ x=>match op,ρ x with
  | .not,.p (.bool b)=>some {v:=.p (.bool (!b))}
  | .neg,.p (.int k n)=>some {v:=.p (.int k (k.wrap (0-n)))}
  | .xor,.p (.int k n)=>some {v:=.p (.int k (k.wrap (ay k.bits (if k.signed then -1 else k.max)^^^ay k.bits n).toNat))}
  |_,_=>none
 | .convert S D x=>match P.underlying S,P.underlying D,ρ x with
  |some _,some (.int k),.p (.int _ n)=>some {v:=.p (.int k (k.wrap n))}
  |some _,some .string,.p (.str s)=>some {v:=.p (.str s)}
  |_,_,_=>none
 | .extract t i=>match ρ t with
  | .p (.aD vs)=>match vs[i]? with
   |some v=>some {v:=.p v}
   |none=>none
  | .aD vs=>match vs[i]? with
   |some v=>some {v}
   |none=>none
  |_=>none
 | .fieldAddr T a f=>AN P T (ρ a) f
 | .indexAddr T x i=>AJ P T H (ρ x) (ρ i)
 | .field T x f=>match kindOf P T,P.underlying T,ρ x with
  | .agg u,some (.struct _),.p t=>match(cB t)[f]?,(jc P u)[f]? with
   |some g,some F=>bif sE (aL t) (.agg u)&&sE (kindOf P F) (aL g)then some {v:=.p g}else none
   |_,_=>none
  |_,_,_=>none
 | .index T x i=>match ρ x,ρ i with
  | .p (.str s),.p (.int _ (.ofNat i))=>match s[i]? with
   |some c=>bif ia P T then some {v:=.p (.int .u8 c)}else none
   |none=>none
  | .p (.st u es),.p (.int _ (.ofNat i))=>match gK P T,(jc P u)[i]?,es[i]? with
   |some (u',n),some F,some g=>bif e6 u' u&&(e7 (i+1) n&&sE (kindOf P F) (aL g))then some {v:=.p g}else none
   |_,_,_=>none
  |_,_=>none
 | .makeFunc (.func f) fi ca=>bif ag f then match fw H (fi.toList.map ρ),fw H (ca.toList.map ρ)with
   |some (a,[],[]),some (b,aj,aJ)=>some {v:=.p (.func f a b),aj,aJ}
   |_,_=>none
  else match eB (fi.toList.map ρ),eB (ca.toList.map ρ)with
   |some a,some b=>some {v:=.p (.func f a b)}
   |_,_=>some {v:=.func f (fi.toList.map ρ) (ca.toList.map ρ)}
 | .makeSlice T l c=>match cL P T,cJ P (dN P T),ρ l,ρ c with
  |some sz,some z,.p (.int .i64 (.ofNat l)),.p (.int .i64 (.ofNat c))=>bif e6 (bF P (aL z)) sz&&(e6 l c&&e7 l cC)then
   some {v:=.sl H.length 0 sz 0 l,aR:=[.arr .exact 0 sz (c6 l (.p z))]}else none
  |_,_,_,_=>none
 | .slice T x lo hi d=>match d with
  |none=>Cp P T H (ρ x) (lo.map ρ) (hi.map ρ) none
  |some m=>BK P T H (ρ x) (lo.map ρ) (hi.map ρ) (ρ m)
 | .makeMap _ none=>some {v:=.map H.length,aR:=[.map false []]}
 | .lookup T x i ok=>KG P T H (ρ x) (ρ i) ok
 | .mapUpdate T m k x| .insert T m k x=>KD P T H (ρ m) (ρ k) (ρ x)
 | .range T x=>match ρ x with
  | .p (.str s)=>bif ia P T then some {v:=.ptr H.length [],aR:=[.dv s 0]}else none
  |_=>none
 | .next it true=>O1 H (ρ it)
 | .nilCheck x=>match ρ x with
  | .ptr _ _| .b6 _ _ _ _ _| .p (.cr _)=>some {v:=ρ x}
  |_=>none
 | .call c=>match c.callee with
  | .builtin b=>Jz P H b c.argTypes (c.args.toList.map ρ)
  |_=>none
 |_=>none
theorem Mg{o:Oper}{ρ:a8->AV}{H:Heap}{e:aU}{K:aU->Prop}(h:zm P ag o ρ H=some e)(hk:K e):fp P ag o ρ H K:=by
 unfold zm at h;unfold fp;cases ad:o.op<;>simp only[ad]at h<;>simp only
 case move|assign=>simp only[fK]at h;subst h;exact hk
 case pick c a b=>
  split at h
  ·rename_i t hc;simp only[fK]at h;subst h;simp only[hc];cases t<;>exact hk
  ·simp at h
 case alloc T=>
  split at h
  ·rename_i z G;simp only[aT,fm,fK,a0]at h;obtain⟨⟨d,j⟩,rfl⟩:=h;simp only[G];exact⟨(iw d).1,(iw d).2,j,hk⟩
  ·simp at h
 case box T x=>
  simp only[aT,fm,fK,a0]at h;obtain⟨⟨d,j⟩,rfl⟩:=h;exact⟨(iw d).1,(iw d).2,j,hk⟩
 case build T parts=>
  split at h
  ·rename_i u z ae G
   split at h
   ·rename_i l E;simp only[aT,fm,fK,a0]at h;obtain⟨⟨d,j⟩,rfl⟩:=h;simp only[ae,G,E];exact⟨(iw d).1,AY j,hk⟩
   ·simp at h
  ·simp at h
 case buildSlice T n parts=>
  split at h
  ·rename_i sz z J G;simp only[aT,fm,fK,a0]at h;obtain⟨⟨d,j,q⟩,rfl⟩:=h;simp only[J,G];exact⟨dt d,cU j,AY q,hk⟩
  ·simp at h
 case load T a=>exact VT h hk
 case store T a x=>exact T8 h hk
 case binOp op T x y ah=>
  split at h
  ·rename_i v M;simp only[fK]at h;subst h;exact WX (K:=fun v=>K {v:=.p v,aj:=dy H (ρ x)}) M hk
  ·simp at h
 case unOp op T x=>
  split at h
  all_goals first
   |(rename_i hx;simp only[fK]at h;subst h;simp only[hx];exact hk)
   |simp at h
 case convert S D x=>
  split at h
  ·rename_i d j q;simp only[fK]at h;subst h;simp only[d,j,q];exact hk
  ·rename_i d j q;simp only[fK]at h;subst h;simp only[d,j,q];exact hk
  ·simp at h
 case extract t i=>
  split at h
  ·rename_i U
   split at h
   ·rename_i M;simp only[fK]at h;subst h;simp only[U,M];exact hk
   ·simp at h
  ·rename_i U
   split at h
   ·rename_i M;simp only[fK]at h;subst h;simp only[U,M];exact hk
   ·simp at h
  ·simp at h
 case fieldAddr T a f=>exact RA h hk
 case indexAddr T x i=>exact RO h hk
 case field T x f=>
  split at h
  ·rename_i d j q
   split at h
   ·rename_i A w;simp only[aT,fm,fK,a0]at h;obtain⟨⟨B,C⟩,rfl⟩:=h;simp only[d,j,q,A,w];exact⟨(iw B).1,(iw C).1,hk⟩
   ·simp at h
  ·simp at h
 case index T x i=>
  split at h
  ·rename_i d j
   split at h
   ·rename_i c hc;simp only[aT,fm,fK]at h;obtain⟨q,rfl⟩:=h;obtain⟨hi,rfl⟩:=cy.1 hc;simp only[d,j];exact⟨q,cc _,hi,hk⟩
   ·simp at h
  ·rename_i u W am i d j
   split at h
   ·rename_i u' n F g q A w;simp only[aT,fm,fK,a0]at h;obtain⟨⟨g1,g2,g3⟩,rfl⟩:=h;have e:(Int.ofNat i).toNat=i:=rfl;simp only[d,j,e,q,A,w];exact⟨dt g1,cc _,cU g2,(iw g3).1,hk⟩
   ·simp at h
  ·simp at h
 case makeFunc fn fi ca=>
  cases fn<;>simp only at h<;>try (simp at h;done)
  rename_i f;simp only;simp only[aT]at h
  split at h
  ·rename_i hf;rw[if_pos hf]
   split at h
   ·rename_i d j;simp only[fK]at h;subst h;simp only[d,j];exact hk
   ·simp at h
  ·rename_i hf;rw[if_neg hf]
   split at h
   ·rename_i d j;simp only[fK]at h;subst h;simp only[d,j];exact hk
   ·rename_i ac;simp only[fK]at h;subst h
    split
    ·rename_i d j;exact(ac _ _ d j).elim
    ·exact hk
 case makeSlice T l c=>
  split at h
  ·rename_i d j q A;simp only[aT,fm,fK,a0]at h;obtain⟨⟨w,B,C⟩,rfl⟩:=h;have e:=dt B;simp only[d,j,q,A];refine⟨dt w,cc _,by rw[e],?_,hk⟩;have:=cU C;show((_:Nat):Int)<=_
   exact_mod_cast this
  ·simp at h
 case slice T x lo hi af=>
  cases af with
  |none=>exact Ub h hk
  |some m=>exact TO h hk
 case makeMap T r=>
  cases r<;>simp only at h
  ·simp only[fK]at h;subst h;exact hk
  ·simp at h
 case lookup T x i ok=>
  unfold KG at h
  split at h
  case h_2=>simp at h
  rename_i d j
  split at h
  case h_2=>simp at h
  rename_i z G;simp only[aT,fm]at h;obtain⟨q,h⟩:=h;simp only[d,j,G];refine⟨q,?_⟩
  have N:∀r:Option PV,yI ok z r=match r with
    |some v=>if ok=true then .aD [v,.bool true]else v
    |none=>if ok=true then .aD [z,.bool false]else z:=by
   intro r;cases r<;>cases ok<;>rfl
  split at h
  ·rename_i hx;simp only[fK]at h;subst h;simp only[hx];rw[N]at hk;exact hk
  ·rename_i hx
   split at h
   ·rename_i r L;simp only[fK]at h;subst h;rw[N]at hk;simp only[hx,L];cases r<;>exact hk
   ·simp at h
  ·rename_i hx
   split at h
   ·rename_i s
    split at h
    ·rename_i r L;simp only[fK]at h;subst h;rw[N]at hk;simp only[hx,s,L];cases r<;>exact hk
    ·simp at h
   ·rename_i s;simp only[aT,fm]at h;obtain⟨aa,h⟩:=h
    split at h
    ·rename_i r L;simp only[fK]at h;subst h;simp only[hx,s,L];refine⟨aa,?_⟩;cases r<;>cases ok<;>exact hk
    ·simp at h
   ·simp at h
  ·simp at h
 case mapUpdate T m k x|insert T m k x=>
  unfold KD at h
  split at h
  case h_2=>simp at h
  rename_i d j q;simp only[aT,fm]at h;obtain⟨w,h⟩:=h;simp only[d,j,q];generalize ρ x=X at*
  split at h
  ·rename_i s;cases X with
   |p v=>
    simp only at h;refine⟨w,?_⟩
    split at h
    ·rename_i E;simp only[fK]at h;subst h;simp only[s,E];exact hk
    ·simp at h
   |_=>
    refine⟨w,?_⟩;simp only[s];exact zZ h hk
  ·rename_i s;cases X with
   |p v=>
    refine⟨w,?_⟩;simp only[s];exact zZ h hk
   |_=>
    refine⟨w,?_⟩;simp only[s];exact zZ h hk
  ·simp at h
 case range T x=>
  split at h
  ·rename_i hx;simp only[aT,fm,fK]at h;obtain⟨d,rfl⟩:=h;simp only[hx];exact⟨d,hk⟩
  ·simp at h
 case next it isStr=>
  cases isStr<;>simp only at h
  ·simp at h
  unfold O1 at h
  split at h
  ·rename_i hx
   split at h
   ·rename_i s;simp only[hx,s];simp only[aT]at h
    split at h
    ·rename_i R;simp only[fK]at h;subst h;rw[if_pos (by have:=cU R;omega)];exact hk
    ·rename_i R;simp only[fK]at h;subst h;rw[if_neg (fun ab=>R (e8 (Nat.succ_le_of_lt ab)))];exact hk
   ·simp at h
  ·simp at h
 case nilCheck x=>
  split at h
  all_goals first
   |(rename_i hx;simp only[fK]at h;subst h;simp only[hx]at hk⊢;exact hk)
   |simp at h
 case call c=>
  split at h
  case h_2=>simp at h
  rename_i b hc;simp only[hc];generalize c.args.toList.map ρ=args at*;generalize c.argTypes=ai at*;unfold Jz at h
  split at h
  ·split at h
   ·rename_i E;simp only[aT,fm,fK,a0]at h;obtain⟨⟨d,j⟩,rfl⟩:=h;simp only[E];exact⟨d,cU j,hk⟩
   ·simp at h
  ·simp only[aT,fm]at h;exact⟨dt h.1,QG h.2 hk⟩
  ·split at h
   ·rename_i Q;simp only[fK]at h;subst h;simp only[Q];exact hk
   ·simp at h
  ·split at h
   ·rename_i Q;simp only[fK]at h;subst h;simp only[Q];exact hk
   ·simp at h
  ·split at h
   ·rename_i J Z;simp only[aT,fm,a0]at h;obtain⟨⟨d,j,q⟩,h⟩:=h;simp only[J,Z];refine⟨dt d,sv j,dt q,?_⟩
    split at h
    ·rename_i s;simp only[fm,fK]at h;obtain⟨⟨A,w,B,C,I⟩,rfl⟩:=h;simp only[s];exact⟨dt A,dt w,Cw B,cU C,uW I,hk⟩
    ·simp at h
   ·simp at h
  ·split at h
   ·rename_i E;simp only[aT,fm,fK,a0]at h;obtain⟨⟨d,j⟩,rfl⟩:=h;simp only[E];exact⟨d,cU j,hk⟩
   ·simp at h
  ·split at h
   ·simp only[aT,fm,fK,a0]at h;obtain⟨⟨d,j⟩,rfl⟩:=h;exact⟨d,cU j,hk⟩
   ·split at h
    ·rename_i J G s;simp only[aT,fm,fK,a0]at h;obtain⟨⟨d,j,q,A,w,B,C,I,O⟩,rfl⟩:=h;simp only[J,G,s];exact⟨dt d,dt j,dt q,dt A,Cw w,cU B,uW C,cU I,cU O,hk⟩
    ·simp at h
   ·simp at h
  ·split at h
   ·simp only[fK]at h;subst h;exact hk
   ·split at h
    ·rename_i s;simp only[aT,fm,a0]at h;obtain⟨⟨d,j⟩,h⟩:=h;simp only[s];refine⟨dt d,dt j,?_⟩
     split at h
     ·simp only[fm,fK]at h;obtain⟨⟨A,w⟩,rfl⟩:=h;exact .inr ⟨cU A,cU w,hk⟩
     ·rename_i V;simp only[fK]at h;subst h;rename_i k _ _ W _ _;refine .inl ⟨?_,?_,hk⟩<;>(unfold nM at V;split at V<;>simp_all)
    ·simp at h
   ·simp at h
  ·split at h
   ·simp only[aT,fm,fK,a0]at h;obtain⟨⟨d,j⟩,rfl⟩:=h;exact⟨by rw[dt d];rfl,dt j,hk⟩
   ·split at h
    ·rename_i s;simp only[aT,fm,a0]at h;obtain⟨⟨d,j,q,A,w,B,C,I,O,Y⟩,h⟩:=h;have ak:=cU w;have al:=cU C;simp only[s];refine⟨dt d,dt j,dt q,dt A,by simp;omega,by simpa using cU B,by simp;omega,dt I,vk O,dt Y,?_⟩;simp only[ce,ck]
     split at h
     ·rename_i E;simp only[fK]at h;subst h;simp only[E];exact hk
     ·simp at h
    ·simp at h
   ·simp at h
  ·simp at h
 all_goals simp at h
end
end Go.al
namespace Go.al
variable[Gl]
section
variable(σ:Nat->Nat)
mutual
def cK:AV->AV
 | .p v=>.p v
 | .ptr b path=>.ptr (σ b) path
 | .b6 b ar ai i path=>.b6 (σ b) ar ai i path
 | .sl b ar ai off len=>.sl (σ b) ar ai off len
 | .map b=>.map (σ b)
 | .func f fi ca=>.func f (cM fi) (cM ca)
 | .st u fs=>.st u (cM fs)
 | .aD vs=>.aD (cM vs)
def cM:List AV->List AV
 |[]=>[]
 |v::vs=>cK v::cM vs
end
def sF:Env->Env
 |[]=>[]
 |(x,v)::r=>(x,cK σ v)::sF r
def cV:Obj->Obj
 | .box fz t=>.box fz (cK σ t)
 | .arr k ar ai es=>.arr k ar ai (cM σ es)
 | .dm ks vs=>.dm ks (cM σ vs)
 | .loop L=>.loop {L with env:=sF σ L.env}
 |o=>o
end
section
variable{σ:Nat->Nat}
theorem BE:∀(e:Env)(x:Nat),aN (sF σ e) x=cK σ (aN e x)
 |[],_=>rfl
 |(y,v)::r,x=>by
  simp only[sF,aN]
  split
  ·rfl
  ·exact BE r x
theorem ry:∀l:List AV,(cM σ l).length=l.length
 |[]=>rfl
 |_::r=>by simp[cM,ry r]
theorem V8{l:List AV}:cM σ l=[]↔l=[]:=by cases l<;>simp[cM]
theorem nt{k:AK}{a:List AV}:c7 k (cM σ a)↔c7 k a:=by simp[c7,V8]
theorem Lg{v:AV}:(cK σ v).qN↔v.qN:=by cases v<;>simp[cK,AV.qN]
theorem U9{v:AV}:ad (cK σ v)=ad v:=by cases v<;>rfl
theorem J7:∀{l:List AV},(∀e∈cM σ l,e.qN)↔∀e∈l,e.qN
 |[]=>by simp[cM]
 |v::r=>by simp[cM,Lg,J7 (l:=r)]
theorem pJ{o:Obj}:(cV σ o).live↔o.live:=by cases o<;>simp[cV,Obj.live,nt]
theorem Lm{o:Obj}{v:Nat}:(cV σ o).has v↔o.has v:=by cases o<;>simp[cV,Obj.has]
theorem Vz{o:Obj}:cV σ o=.hole↔o=.hole:=by cases o<;>simp[cV]
mutual
theorem Bj{S:Nat×Nat->Prop}:∀(v:AV),aB S (cK σ v)↔aB (fun x=>S (σ x.1,x.2)) v
 | .p _=>by simp[cK,aB]
 | .ptr _ _| .b6 _ _ _ _ _| .sl _ _ _ _ _| .map _=>by simp[cK,aB]
 | .func _ fi ca=>by simp only[cK,aB];rw[rI fi,rI ca]
 | .st _ fs=>by simp only[cK,aB];exact rI fs
 | .aD vs=>by simp only[cK,aB];exact rI vs
theorem rI{S:Nat×Nat->Prop}:∀(l:List AV),aQ S (cM σ l)↔aQ (fun x=>S (σ x.1,x.2)) l
 |[]=>by simp[cM,aQ]
 |v::r=>by simp only[cM,aQ];rw[Bj v,rI r]
end
theorem Uv{S:Nat×Nat->Prop}{o:Obj}:(cV σ o).refs S↔o.refs (fun x=>S (σ x.1,x.2)):=by
 cases o<;>simp only[cV,Obj.refs,Bj,rI,BE]
theorem Obj.refs.mono{S T:Nat×Nat->Prop}(h:∀x,S x->T x){o:Obj}(a:o.refs S):o.refs T:=by
 cases o with
 |box fz t=>exact aB.mono h _ a
 |arr k ar ai es=>exact aQ.mono h _ a
 |dm ks vs=>exact aQ.mono h _ a
 |loop L=>exact fun x=>aB.mono h _ (a x)
 |_=>trivial
structure dL(σ:Nat->Nat)(dK:Bd)(H0:Heap)(β:Bd)(H:Heap):Prop where
 obj:∀(b:Nat)(o:Obj),H0[b]?=some o->H[σ b]?=some (cV σ o)
 ak:∀b,b<H0.length->β.ak (σ b)=dK.ak b/\β.cap (σ b)=dK.cap b
section
variable{P:a7}{w:bl}{aa:Nat->Prop}{dK β:Bd}{H0 H:Heap}
theorem dL.box(h:dL σ dK H0 β H){b:Nat}(a:b<H0.length):l9 H (σ b)↔l9 H0 b:=by
 have c:=h.obj b _ (cx a);have d:=cx a;unfold l9;rw[c,d];cases H0[b]<;>simp[cV]
theorem dL.it(h:dL σ dK H0 β H){b:Nat}(a:b<H0.length):ma H (σ b)↔ma H0 b:=by
 have c:=h.obj b _ (cx a);have d:=cx a;unfold ma;rw[c,d];cases H0[b]<;>simp[cV]
theorem dL.map(h:dL σ dK H0 β H){b:Nat}(a:b<H0.length):nw H (σ b)↔nw H0 b:=by
 have h1:=h.obj b _ (cx a);have c:=cx a;unfold nw;rw[h1,c];cases H0[b]<;>simp[cV,Obj.tI]
theorem dL.loop(h:dL σ dK H0 β H){b:Nat}(a:b<H0.length):gA H (σ b)↔gA H0 b:=by
 have c:=h.obj b _ (cx a);have d:=cx a;unfold gA;rw[c,d];cases H0[b]<;>simp[cV]
theorem dL.arr(h:dL σ dK H0 β H){b ar ai:Nat}{k:AK}{es:List AV}(a:b<H0.length):eA H (σ b) ar ai k es↔∃gl,eA H0 b ar ai k gl/\es=cM σ gl:=by
 have c:=h.obj b _ (cx a);have d:=cx a;unfold eA;rw[c,d];cases H0[b]<;>simp[cV];constructor
 ·rintro⟨rfl,rfl,rfl,rfl⟩;exact⟨_,⟨rfl,rfl,rfl,rfl⟩,rfl⟩
 ·rintro⟨_,⟨rfl,rfl,rfl,rfl⟩,rfl⟩;exact⟨rfl,rfl,rfl,rfl⟩
theorem dL.Dg(h:dL σ dK H0 β H){x:Nat×Nat}(a:x.1<H0.length):aG H (σ x.1,x.2)↔aG H0 x:=by
 have b:=h.obj x.1 _ (cx a);have c:=cx a;unfold aG;rw[b,c];simp[Lm]
def Small(n:Nat):Nat×Nat->Prop:=fun x=>x.1<n
theorem dL.pf(h:dL σ dK H0 β H):∀{a:AV}{v:bi},aB (Small H0.length) a->(bO P β H (cK σ a) v↔bO P dK H0 a v)
 | .p _,_,_| .func _ _ _,_,_| .st _ _,_,_| .aD _,_,_=>by simp[cK,bO]
 | .ptr b path,v,c=>by
  simp only[aB,Small]at c;simp only[cK,bO,h.box c,h.it c,(h.ak b c).1]
 | .b6 b ar ai i path,v,c=>by
  simp only[aB,Small]at c;simp only[cK,bO,h.arr c,(h.ak b c).1];constructor
  ·rintro⟨ak,off,o,f,g,j⟩;exact⟨ak,off,o,f,g,fun k d e m=>j k _ ⟨d,e,rfl⟩ (by rwa [nt])⟩
  ·rintro⟨ak,off,o,f,g,j⟩;refine⟨ak,off,o,f,g,?_⟩;rintro k _ ⟨d,e,rfl⟩ m;exact j k d e (by rwa [nt]at m)
 | .sl b ar ai off len,v,c=>by
  simp only[aB,Small]at c;simp only[cK,bO,h.arr c,(h.ak b c).1,(h.ak b c).2];constructor
  ·intro l k d e;have:=l k _ ⟨d,e,rfl⟩;simpa only[ry,nt]using this
  ·rintro l k _ ⟨d,e,rfl⟩;have:=l k d e;simpa only[ry,nt]using this
 | .map b,v,c=>by
  simp only[aB,Small]at c;simp only[cK,bO,h.map c,h.loop c,(h.ak b c).1]
mutual
theorem dL.LB(h:dL σ dK H0 β H):∀(a:AV)(cs:List bi),aB (Small H0.length) a->(bm P w aa β H (cK σ a) cs↔bm P w aa dK H0 a cs)
 | .p _,_,_=>by simp[cK,bm]
 | .aD _,_,_=>by simp[cK,bm]
 | .st u fs,cs,d=>by
  simp only[aB]at d;simp only[cK,bm];exact exists_congr fun l=>exists_congr fun e=>and_congr_right fun _=>and_congr_left fun _=>dL.yL h l fs e d
 | .func f fi ca,cs,d=>by
  simp only[aB]at d;simp only[cK,bm];exact exists_congr fun l=>exists_congr fun e=>and_congr (dL.oW h fi l d.1) (and_congr_left fun _=>dL.oW h ca e d.2)
 | .ptr b path,cs,d=>by
  have:=fun v=>h.pf (P:=P) (a:=.ptr b path) (v:=v) d;simp only[cK,bm,bK]at this⊢;simp only[this]
 | .b6 b ar ai i path,cs,d=>by
  have:=fun v=>h.pf (P:=P) (a:=.b6 b ar ai i path) (v:=v) d;simp only[cK,bm,bK]at this⊢;simp only[this]
 | .sl b ar ai off len,cs,d=>by
  have:=fun v=>h.pf (P:=P) (a:=.sl b ar ai off len) (v:=v) d;simp only[cK,bm,bK]at this⊢;simp only[this]
 | .map b,cs,d=>by
  have:=fun v=>h.pf (P:=P) (a:=.map b) (v:=v) d;simp only[cK,bm,bK]at this⊢;simp only[this]
theorem dL.yL(h:dL σ dK H0 β H):∀(g:List Nat)(l:List AV)(e:List (List bi)),aQ (Small H0.length) l->(bJ P w aa β H g (cM σ l) e↔bJ P w aa dK H0 g l e)
 |[],[],e,_=>by simp[cM,bJ]
 |[],_::_,e,_=>by simp[cM,bJ]
 |_::_,[],e,_=>by simp[cM,bJ]
 |n::g,v::vs,e,d=>by
  simp only[aQ]at d;simp only[cM,bJ];exact exists_congr fun c=>exists_congr fun cs=>and_congr_right fun _=>and_congr (dL.LB h v c d.1) (and_congr_right fun _=>dL.yL h g vs cs d.2)
theorem dL.CS(h:dL σ dK H0 β H):∀(a:AV)(v:bi),aB (Small H0.length) a->(aw P w aa β H (cK σ a) v↔aw P w aa dK H0 a v)
 | .p _,_,_=>by simp[cK,aw]
 | .aD vs,_,d=>by
  simp only[aB]at d;simp only[cK,aw];exact exists_congr fun l=>and_congr_left fun _=>dL.oW h vs l d
 | .st u fs,cs,d=>by
  simp only[aB]at d;simp only[cK,aw];exact exists_congr fun l=>exists_congr fun e=>and_congr_right fun _=>and_congr_left fun _=>dL.yL h l fs e d
 | .func f fi ca,cs,d=>by
  simp only[aB]at d;simp only[cK,aw];exact exists_congr fun l=>exists_congr fun e=>and_congr (dL.oW h fi l d.1) (and_congr_left fun _=>dL.oW h ca e d.2)
 | .ptr b path,v,d=>by
  have:=h.pf (P:=P) (a:=.ptr b path) (v:=v) d;simp only[cK,aw,bK]at this⊢;simp only[this]
 | .b6 b ar ai i path,v,d=>by
  have:=h.pf (P:=P) (a:=.b6 b ar ai i path) (v:=v) d;simp only[cK,aw,bK]at this⊢;simp only[this]
 | .sl b ar ai off len,v,d=>by
  have:=h.pf (P:=P) (a:=.sl b ar ai off len) (v:=v) d;simp only[cK,aw,bK]at this⊢;simp only[this]
 | .map b,v,d=>by
  have:=h.pf (P:=P) (a:=.map b) (v:=v) d;simp only[cK,aw,bK]at this⊢;simp only[this]
theorem dL.oW(h:dL σ dK H0 β H):∀(l:List AV)(vs:List bi),aQ (Small H0.length) l->(bw P w aa β H (cM σ l) vs↔bw P w aa dK H0 l vs)
 |[],vs,_=>by simp[cM,bw]
 |a::l,vs,d=>by
  simp only[aQ]at d;simp only[cM,bw];exact exists_congr fun y=>exists_congr fun j=>and_congr_right fun _=>and_congr (dL.CS h a y d.1) (dL.oW h l j d.2)
end
theorem dL.O8(h:dL σ dK H0 β H){ah Prot0:Nat->Prop}{b:Nat}{o:Obj}(f:H0[b]?=some o)(c:o.refs (Small H0.length))(a:o.live->∀fz,cw aa dK Prot0 fz b↔cw aa β ah fz (σ b)):
 eQ P w aa β H ah (σ b) (cV σ o)↔eQ P w aa dK H0 Prot0 b o:=by
 have g:b<H0.length:=(cy.1 f).1;obtain⟨k1,k2⟩:=h.ak b g;cases o with
 |hole=>simp[cV,eQ]
 |dead=>simp[cV,eQ]
 |box fz t=>
  simp only[cV,eQ,k1,<-a trivial,h.LB t _ c,Lg,U9]
 |arr k ar ai es=>
  simp only[cV,eQ,k1,k2,nt,ry,J7]
  by_cases e:c7 k es
  ·simp[e]
  ·simp only[e,false_or,<-a e,h.yL _ es _ c]
 |map fz es=>
  simp only[cV,eQ,k1,<-a trivial]
 |dm ks vs=>
  simp only[cV,eQ,k1,<-a trivial,h.oW vs _ c]
 |dv s pos=>
  simp only[cV,eQ,k1,<-a trivial]
 |loop L=>
  simp only[cV,eQ,k1,<-a trivial,BE];exact exists_congr fun t=>exists_congr fun d=>exists_congr fun fn=>and_congr_right fun _=>and_congr_right fun _=>and_congr_left fun _=>forall_congr' fun x=>h.CS _ _ (c x)
end
end
end Go.al
namespace Go.al
variable[Gl]
def sig(bs:List Nat)(a i:Nat):Nat:=match bs[i]? with
 |some b=>b
 |none=>a+(i-bs.length)
theorem rW{bs:List Nat}{a i:Nat}(h:i<bs.length):sig bs a i=bs[i]:=by simp[sig,h]
theorem rX{bs:List Nat}{a i:Nat}(h:bs.length<=i):sig bs a i=a+(i-bs.length):=by simp[sig,h]
theorem aCD{bs:List Nat}{a:Nat}(e:bs.Nodup)(d:∀b∈bs,b<a){i j:Nat}(h:sig bs a i=sig bs a j):i=j:=by
 by_cases hi:i<bs.length<;>by_cases c:j<bs.length
 ·rw[rW hi,rW c]at h;exact(List.getElem_inj e).1 h
 ·rw[rW hi,rX (by omega)]at h;have:=d _ (em hi);omega
 ·rw[rX (by omega),rW c]at h;have:=d _ (em c);omega
 ·rw[rX (by omega),rX (by omega)]at h;omega
theorem Av:∀{l:List (Nat×Obj)}{H:Heap}{x:Nat},(∀p∈l,p.1≠x)->(ba H l)[x]?=H[x]?
 |[],_,_,_=>rfl
 |(b,o)::r,H,x,h=>by
  simp only[ba];rw[Av (fun p a=>h p (by simp[a])),List.getElem?_set_ne (h (b,o) (by simp))]
theorem A4:∀{l:List (Nat×Obj)}{H:Heap},(l.map (·.1)).Nodup->∀p∈l,p.1<H.length->(ba H l)[p.1]?=some p.2
 |[],_,_,_,h,_=>by simp at h
 |(b,o)::r,H,a,p,c,d=>by
  simp only[dg,dz]at a;simp only[ba];rcases da.1 c with rfl|c
  ·rw[Av (fun q hq e=>a.1 (ew.2 ⟨q,hq,e⟩)),List.getElem?_set_self d]
  ·exact A4 a.2 p c (by simpa using d)
theorem AZ(a:Nat):∀(l:List Obj),(newAt a l).map (·.1)=List.range' a l.length
 |[]=>rfl
 |o::r=>by simp[newAt,AZ (a+1) r,List.range'_succ]
theorem Ih:∀(l:List Obj)(a j:Nat)(h:j<l.length),(a+j,l[j])∈newAt a l
 |[],_,_,h=>by simp at h
 |o::r,a,0,h=>by simp[newAt]
 |o::r,a,j+1,h=>by
  have:=Ih r (a+1) j (by simpa using h);simp only[newAt,List.getElem_cons_succ,da];right;have e:a+(j+1)=a+1+j:=by omega
  rw[e];exact this
section
variable{P:a7}{w w':bl}{aa aE ah:Nat->Prop}{β aH:Bd}{H H':Heap}
theorem eQ.mut{b:Nat}{o:Obj}(h:eQ P w aa β H ah b o)(f:o.live)(l:¬aa (β.ak b)):¬ah (β.ak b):=by
 have held:∀{fz},cw aa β ah fz b->¬ah (β.ak b):=by
  intro fz g;cases fz with
  |true=>exact(l (by simpa[cw]using g)).elim
  |false=>
   have:¬aa (β.ak b)/\¬ah (β.ak b):=by simpa[cw]using g
   exact this.2
 cases o with
 |hole=>exact f.elim
 |dead=>exact f.elim
 |box fz t=>
  obtain⟨cs,T,c,d,a,e⟩:=h;exact held a
 |arr k ar ai es=>
  rcases h with h|⟨cs,T,m,rest,c,d,a,e,n,p,j,q⟩
  ·exact(f h).elim
  ·exact held j
 |map fz es=>
  obtain⟨i,clock,c,d,a⟩:=h;exact held a
 |dm ks vs=>
  obtain⟨i,clock,c,d,a,e⟩:=h;exact held e
 |dv s pos=>
  obtain⟨bs,c,d,a⟩:=h;exact held a
 |loop L=>
  obtain⟨tmps,defers,fn,c,d,a,e⟩:=h;exact held e
theorem eQ.carry(hi:∀k,aa k->aE k)(hs:∀k,aa k->w'.heap[k]?=w.heap[k]?)(aK:ch β H aH H'){b:Nat}{o:Obj}(l:o.refs (aG H))
 (j:o.live->w'.heap[β.ak b]?=w.heap[β.ak b]?/\aH.ak b=β.ak b/\aH.cap b=β.cap b)(held:o.live->∀fz,cw aa β ah fz b->cw aE aH ah fz b)(h:eQ P w aa β H ah b o):eQ P w' aE aH H' ah b o:=by
 cases o with
 |hole=>trivial
 |dead=>trivial
 |box fz t=>
  obtain⟨cs,T,d,e,f,i⟩:=h;obtain⟨a,c,g⟩:=j trivial;exact⟨cs,T,by rw[c,a];exact d,bm.mono hi hs aK _ _ l e,held trivial _ f,i⟩
 |arr k ar ai es=>
  rcases h with h|⟨cs,T,p,rest,d,e,f,i,q,r,u,v⟩
  ·exact .inl h
  ·by_cases n:c7 k es
   ·exact .inl n
   ·obtain⟨a,c,g⟩:=j n;exact .inr ⟨cs,T,p,rest,by rw[c,a];exact d,bJ.mono hi hs aK _ _ _ l e,f,by rw[g];exact i,by rw[g];exact q,by rw[g];exact r,held n _ u,v⟩
 |map fz es=>
  obtain⟨m,clock,d,e,f⟩:=h;obtain⟨a,c,g⟩:=j trivial;exact⟨m,clock,by rw[c,a];exact d,cz.mono hi hs _ _ e,held trivial _ f⟩
 |dm ks vs=>
  obtain⟨m,clock,d,e,f,i⟩:=h;obtain⟨a,c,g⟩:=j trivial;exact⟨m,clock,by rw[c,a];exact d,bn.mono hi hs _ _ e,bw.mono hi hs aK _ _ l f,held trivial _ i⟩
 |dv s pos=>
  obtain⟨bs,d,e,f⟩:=h;obtain⟨a,c,g⟩:=j trivial;exact⟨bs,by rw[c,a];exact d,e,held trivial _ f⟩
 |loop L=>
  obtain⟨tmps,defers,fn,d,e,f,i⟩:=h;obtain⟨a,c,g⟩:=j trivial;exact⟨tmps,defers,fn,by rw[c,a];exact d,e,fun x=>aw.mono hi hs aK _ _ (l x) (f x),held trivial _ i⟩
def dA(bs:List Nat)(a:Nat)(H0 bS:Heap)(b:AV):aU:=
 {v:=cK (sig bs a) b,aj:=bs.zip (H0.map (cV (sig bs a))),aJ:=bs.zip ((bS.take H0.length).map (cV (sig bs a))),aR:=(bS.drop H0.length).map (cV (sig bs a))}
open Classical in
theorem HQ{H0 bS:Heap}{fy:List AV}{v0:AV}(bs:List Nat)(base:Nat)(hlen:bs.length=H0.length)(hnd:bs.Nodup)(hlt:∀b∈bs,b<base)
 (hl:H0.length<=bS.length)(ha:aQ (aG H0) fy)(ho:∀(b:Nat)(o:Obj),H0[b]?=some o->o.refs (aG H0))
 {H:Heap}{w:bl}{aa ah:Nat->Prop}{β:Bd}{cargs:List bi}(hr:bP P w aa β H ah)(hargs:bw P w aa β H (cM (sig bs base) fy) cargs)
 (aj:∀p∈(dA bs base H0 bS v0).aj,H[p.1]?=some p.2)(aR:∀i,i<(dA bs base H0 bS v0).aR.length->H[base+i]?=some .hole):
 ∃(dK:Bd)(Prot0:Nat->Prop),(∀b,dK.ak b=β.ak (sig bs base b))/\bP P w aa dK H0 Prot0/\bw P w aa dK H0 fy cargs/\(∀b,b<H0.length->(gA H (sig bs base b)↔gA H0 b))/\
  ∀(cv:bi)(w':bl)(β0':Bd)(aE:Nat->Prop),bV P Prot0 aa w dK H0 aE w' β0' bS->aw P w' aE β0' bS v0 cv->aB (aG bS) v0->
   ∃aH,bV P ah aa w β H aE w' aH (ba H ((dA bs base H0 bS v0).aJ++newAt base (dA bs base H0 bS v0).aR))/\
    aw P w' aE aH (ba H ((dA bs base H0 bS v0).aJ++newAt base (dA bs base H0 bS v0).aR)) (dA bs base H0 bS v0).v cv/\
    aB (aG (ba H ((dA bs base H0 bS v0).aJ++newAt base (dA bs base H0 bS v0).aR))) (dA bs base H0 bS v0).v:=by
 obtain⟨σ,hσ⟩:∃σ,σ=sig bs base:=⟨_,rfl⟩
 have hinj:∀{i j},σ i=σ j->i=j:=fun{i j} h=>aCD hnd hlt (by rw[hσ]at h;exact h);have hold:∀{i}(hi:i<H0.length),σ i=bs[i]'(by omega):=fun hi=>by rw[hσ];exact rW _
 have hnw:∀{i},H0.length<=i->σ i=base+(i-H0.length):=fun hi=>by rw[hσ,rX (by omega),hlen]
 have hget:∀(b:Nat)(o:Obj),H0[b]?=some o->H[σ b]?=some (cV σ o):=by
  intro b o hb;obtain⟨hbl,rfl⟩:=cy.1 hb;have:=aj (bs[b]'(by omega),cV (sig bs base) H0[b]) (by
   simp only[dA];rw[db];exact⟨b,by simp;omega,by simp⟩)
  rw[hold hbl,hσ];exact this
 have hnewH:∀i,H0.length<=i->i<bS.length->H[σ i]?=some .hole:=by
  intro i h1 h2;rw[hnw h1];exact aR (i-H0.length) (by simp[dA];omega)
 obtain⟨H2,hH2⟩:∃H2,H2=ba H ((dA bs base H0 bS v0).aJ++newAt base (dA bs base H0 bS v0).aR):=⟨_,rfl⟩
 have hkeys:∀p∈(dA bs base H0 bS v0).aJ++newAt base (dA bs base H0 bS v0).aR,∃i,i<bS.length/\p.1=σ i:=by
  intro p hp;rcases eo.1 hp with hp|hp
  ·simp only[dA]at hp;have hm:=(dq hp).1;obtain⟨i,hi,he⟩:=db.1 hm;exact⟨i,by omega,by rw[hold (by omega)];exact he.symm⟩
  ·have hm:p.1∈(newAt base (dA bs base H0 bS v0).aR).map (·.1):=ed hp
   rw[AZ,ee]at hm;simp only[dA,List.length_map,List.length_drop]at hm;exact⟨H0.length+(p.1-base),by omega,by rw[hnw (by omega)];omega⟩
 have hndk:(((dA bs base H0 bS v0).aJ++newAt base (dA bs base H0 bS v0).aR).map (·.1)).Nodup:=by
  rw[eq,AZ];have e:(dA bs base H0 bS v0).aJ.map (·.1)=bs:=by
   simp only[dA];rw[List.map_fst_zip];simp;omega
  rw[e,List.nodup_append];refine⟨hnd,List.nodup_range',fun a h1 b h2 he=>?_⟩;subst he;have:=hlt _ h1;rw[ee]at h2;omega
 have hA:∀(i:Nat)(o:Obj),bS[i]?=some o->H2[σ i]?=some (cV σ o):=by
  intro i o hi;obtain⟨hil,rfl⟩:=cy.1 hi
  by_cases hi0:i<H0.length
  ·have hm:(bs[i]'(by omega),cV (sig bs base) bS[i])∈(dA bs base H0 bS v0).aJ++newAt base (dA bs base H0 bS v0).aR:=by
    refine List.mem_append_left _ ?_;simp only[dA];rw[db];exact⟨i,by simp;omega,by simp⟩
   have:=A4 (H:=H) hndk _ hm (by
    have:=hget i _ (cx hi0);rw[hold hi0]at this;exact(cy.1 this).1)
   rw[hH2,hold hi0,this,hσ]
  ·have hm:(base+(i-H0.length),cV (sig bs base) bS[i])∈(dA bs base H0 bS v0).aJ++newAt base (dA bs base H0 bS v0).aR:=by
    refine eb _ ?_;have:=Ih (dA bs base H0 bS v0).aR base (i-H0.length) (by simp[dA];omega);have e:(dA bs base H0 bS v0).aR[i-H0.length]'(by simp[dA];omega)=cV (sig bs base) bS[i]:=by
     simp only[dA,List.getElem_map,List.getElem_drop];congr 2;omega
    rw[e]at this;exact this
   have:=A4 (H:=H) hndk _ hm (by
    have:=hnewH i (by omega) hil;rw[hnw (by omega)]at this;exact(cy.1 this).1)
   rw[hH2,hnw (by omega),this,hσ]
 have hB:∀x,(∀i,i<bS.length->σ i≠x)->H2[x]?=H[x]?:=by
  intro x hx;rw[hH2];refine Av fun p hp=>?_;obtain⟨i,h1,h2⟩:=hkeys p hp;rw[h2];exact hx i h1
 let dK:Bd:=⟨fun b=>β.ak (σ b),fun b=>β.cap (σ b)⟩
 let Prot0:Nat->Prop:=fun k=>ah k\/∃x o,H[x]?=some o/\o.live/\(∀i,i<H0.length->σ i≠x)/\β.ak x=k
 have hemb:dL σ dK H0 β H:=⟨hget,fun b _=>⟨rfl,rfl⟩⟩
 have small:∀x:Nat×Nat,aG H0 x->Small H0.length x:=fun x⟨o,ho,_⟩=>(cy.1 ho).1;have held0:∀{b:Nat}{o:Obj},H0[b]?=some o->o.live->∀fz,cw aa dK Prot0 fz b↔cw aa β ah fz (σ b):=by
  intro b o hb hlv fz;cases fz with
  |true=>simp[cw,dK]
  |false=>
   simp only[cw,a1,if_false];refine and_congr_right fun hni=>⟨fun h hp=>h (.inl hp),fun h hp=>?_⟩
   rcases hp with hp|⟨x,o',h1,h2,h3,h4⟩
   ·exact h hp
   ·exact h3 b (cy.1 hb).1 (hr.inj _ _ _ _ (hget b o hb) h1 (pJ.2 hlv) h2 hni h4.symm)
 have hr0:bP P w aa dK H0 Prot0:=by
  refine⟨fun b o hb=>?_,fun b b' o o' h1 h2 l1 l2 hni he=>?_,ho,hr.bR,fun k hk=>?_,hr.gV⟩
  ·exact(hemb.O8 hb ((ho b o hb).mono small) (held0 hb)).1 (hr.cE _ _ (hget b o hb))
  ·exact hinj (hr.inj _ _ _ _ (hget b o h1) (hget b' o' h2) (pJ.2 l1) (pJ.2 l2) hni he)
  ·rcases hk with hk|⟨x,o,h1,h2,_,rfl⟩
   ·exact hr.dS k hk
   ·exact hr.l7 h1 h2
 have hargs0:bw P w aa dK H0 fy cargs:=by
  rw[<-hσ]at hargs;exact(hemb.oW _ _ (aQ.mono small _ ha)).1 hargs
 refine⟨dK,Prot0,fun b=>by rw[<-hσ],hr0,hargs0,fun b hb=>by rw[<-hσ];exact hemb.loop hb,fun cv w' β0' aE hp hv hvr=>?_⟩
 let aH:Bd:=⟨fun x=>if h:∃i,i<bS.length/\σ i=x then β0'.ak h.choose else β.ak x,fun x=>if h:∃i,i<bS.length/\σ i=x then β0'.cap h.choose else β.cap x⟩
 have hβ:∀i,i<bS.length->aH.ak (σ i)=β0'.ak i/\aH.cap (σ i)=β0'.cap i:=by
  intro i hi;have hex:∃j,j<bS.length/\σ j=σ i:=⟨i,hi,rfl⟩
  have hc:hex.choose=i:=hinj hex.choose_spec.2;simp only[aH,dif_pos hex,hc,and_self]
 have hβn:∀x,(∀i,i<bS.length->σ i≠x)->aH.ak x=β.ak x/\aH.cap x=β.cap x:=by
  intro x hx;have hnex:¬∃i,i<bS.length/\σ i=x:=fun⟨i,h1,h2⟩=>hx i h1 h2;simp only[aH,dif_neg hnex,and_self]
 have hemb':dL σ β0' bS aH H2:=⟨hA,fun b hb=>hβ b hb⟩
 have small':∀x:Nat×Nat,aG bS x->Small bS.length x:=fun x⟨o,ho,_⟩=>(cy.1 ho).1;have split:∀x,(∃i,i<bS.length/\σ i=x)\/∀i,i<bS.length->σ i≠x:=by
  intro x
  by_cases hx:∃i,i<bS.length/\σ i=x
  ·exact .inl hx
  ·exact .inr fun i h1 h2=>hx ⟨i,h1,h2⟩
 have inOld:∀{i v},i<bS.length->aG H (σ i,v)->aG H0 (i,v)/\i<H0.length:=by
  intro i v hi ⟨o,h1,h2⟩
  by_cases hi0:i<H0.length
  ·refine⟨?_,hi0⟩;have:=hget i _ (cx hi0);simp only at h1;rw[this]at h1;cases h1;exact⟨_,cx hi0,Lm.1 h2⟩
  ·have:=hnewH i (by omega) hi;simp only at h1;rw[this]at h1;cases h1;exact h2.elim
 have gG:ch β H aH H2:=by
  refine⟨?_,?_,?_,?_,?_⟩
  ·intro b hb hlv;rcases split b with⟨i,hi,rfl⟩|hx
   ·obtain⟨k1,k2⟩:=inOld hi hb;obtain⟨g1,g2⟩:=hp.step.box i k1 ((hemb'.box hi).1 hlv);exact⟨(hemb.box k2).2 g1,(hβ i hi).1.trans g2⟩
   ·unfold l9 at hlv⊢;rw[hB b hx]at hlv;exact⟨hlv,(hβn b hx).1⟩
  ·intro b hb hlv;rcases split b with⟨i,hi,rfl⟩|hx
   ·obtain⟨k1,k2⟩:=inOld hi hb;obtain⟨g1,g2⟩:=hp.step.it i k1 ((hemb'.it hi).1 hlv);exact⟨(hemb.it k2).2 g1,(hβ i hi).1.trans g2⟩
   ·unfold ma at hlv⊢;rw[hB b hx]at hlv;exact⟨hlv,(hβn b hx).1⟩
  ·intro b hb hlv;rcases split b with⟨i,hi,rfl⟩|hx
   ·obtain⟨k1,k2⟩:=inOld hi hb;obtain⟨g1,g2⟩:=hp.step.map i k1 ((hemb'.map hi).1 hlv);exact⟨(hemb.map k2).2 g1,(hβ i hi).1.trans g2⟩
   ·unfold nw at hlv⊢;rw[hB b hx]at hlv;exact⟨hlv,(hβn b hx).1⟩
  ·intro b ar ai k es hb hlv;rcases split b with⟨i,hi,rfl⟩|hx
   ·obtain⟨k1,k2⟩:=inOld hi hb;obtain⟨gl,g0,rfl⟩:=(hemb'.arr hi).1 hlv;obtain⟨k0,es1,g1,g2,g3,g4⟩:=hp.step.arr i ar ai k gl k1 g0;refine⟨k0,cM σ es1,(hemb.arr k2).2 ⟨_,g1,rfl⟩,by rw[ry,ry];exact g2,by rw[nt,nt];exact g3,fun hn=>?_⟩;rw[nt]at hn;rw[(hβ i hi).1,(hβ i hi).2];exact g4 hn
   ·unfold eA at hlv⊢;rw[hB b hx]at hlv;exact⟨k,es,hlv,fb _,Iff.rfl,fun _=>hβn b hx⟩
  ·intro b hb hlv;rcases split b with⟨i,hi,rfl⟩|hx
   ·obtain⟨k1,k2⟩:=inOld hi hb;obtain⟨g1,g2⟩:=hp.step.loop i k1 ((hemb'.loop hi).1 hlv);exact⟨(hemb.loop k2).2 g1,(hβ i hi).1.trans g2⟩
   ·unfold gA at hlv⊢;rw[hB b hx]at hlv;exact⟨hlv,(hβn b hx).1⟩
 have hinn:∀x,aG H x->aG H2 x:=by
  rintro⟨b,v⟩ hb;rcases split b with⟨i,hi,rfl⟩|hx
  ·obtain⟨k1,_⟩:=inOld hi hb;exact(hemb'.Dg (x:=(i,v)) hi).2 (hp.eL _ k1)
  ·obtain⟨o,h1,h2⟩:=hb;exact⟨o,by simp only;rw[hB b hx];exact h1,h2⟩
 have prot0:∀{x:Nat}{o:Obj},(∀i,i<bS.length->σ i≠x)->H[x]?=some o->o.live->Prot0 (β.ak x):=by
  intro x o hx h1 h2;exact .inr ⟨x,o,h1,h2,fun i hi=>hx i (by omega),rfl⟩
 have mut':∀{i:Nat}{o:Obj},bS[i]?=some o->o.live->¬aE (β0'.ak i)->¬Prot0 (β0'.ak i):=by
  intro i o h1 h2 h3;exact(hp.rel.cE i o h1).mut h2 h3
 have hrel:bP P w' aE aH H2 ah:=by
  refine⟨fun x o hx=>?_,fun x x' o o' h1 h2 l1 l2 hni he=>?_,fun x o hx=>?_,hp.rel.bR,fun k hk=>hp.rel.dS k (.inl hk),hp.rel.gV⟩
  ·rcases split x with⟨i,hi,rfl⟩|hn
   ·have hg:=hA i _ (cx hi);rw[hg]at hx;cases hx;refine(hemb'.O8 (Prot0:=Prot0) (cx hi) ((hp.rel.refs i _ (cx hi)).mono small') (fun hlv fz=>?_)).2 (hp.rel.cE i _ (cx hi));cases fz with
    |true=>simp[cw,(hβ i hi).1]
    |false=>
     simp only[cw,a1,if_false,(hβ i hi).1];exact⟨fun h=>⟨h.1,fun hp=>h.2 (.inl hp)⟩,fun h=>⟨h.1,mut' (cx hi) hlv h.1⟩⟩
   ·rw[hB x hn]at hx;refine eQ.carry hp.bR (fun k hk=>hp.ext.same k (.inr hk)) gG (hr.refs x o hx) (fun hlv=>⟨hp.ext.same _ (.inl (prot0 hn hx hlv)),hβn x hn⟩) (fun hlv fz hh=>?_) (hr.cE x o hx);have hp0:=prot0 hn hx hlv;cases fz with
    |true=>
     simp only[cw,if_true]at hh⊢;rw[(hβn x hn).1];exact hp.bR _ hh
    |false=>
     simp only[cw,a1,if_false]at hh⊢;rw[(hβn x hn).1];exact⟨fun hi=>(hp.fresh _ hi).elim hh.1 (fun h=>h hp0),hh.2⟩
  ·rcases split x with⟨i,hi,rfl⟩|hn<;>rcases split x' with⟨j,hj,rfl⟩|hn'
   ·have g1:=hA i _ (cx hi);have g2:=hA j _ (cx hj);rw[g1]at h1;cases h1;rw[g2]at h2;cases h2;rw[(hβ i hi).1,(hβ j hj).1]at he;rw[(hβ i hi).1]at hni;rw[hp.rel.inj i j _ _ (cx hi) (cx hj) (pJ.1 l1) (pJ.1 l2) hni he]
   ·have g1:=hA i _ (cx hi);rw[g1]at h1;cases h1;rw[hB x' hn']at h2;rw[(hβ i hi).1,(hβn x' hn').1]at he;rw[(hβ i hi).1]at hni;exact(mut' (cx hi) (pJ.1 l1) hni (he▸prot0 hn' h2 l2)).elim
   ·have g2:=hA j _ (cx hj);rw[g2]at h2;cases h2;rw[hB x hn]at h1;rw[(hβ j hj).1,(hβn x hn).1]at he;rw[(hβn x hn).1]at hni;exact(mut' (cx hj) (pJ.1 l2) (he▸hni) (he▸prot0 hn h1 l1)).elim
   ·rw[hB x hn]at h1;rw[hB x' hn']at h2;rw[(hβn x hn).1,(hβn x' hn').1]at he;rw[(hβn x hn).1]at hni;exact hr.inj _ _ _ _ h1 h2 l1 l2 (fun hi=>hni (hp.bR _ hi)) he
  ·rcases split x with⟨i,hi,rfl⟩|hn
   ·have hg:=hA i _ (cx hi);rw[hg]at hx;cases hx;rw[Uv];exact(hp.rel.refs i _ (cx hi)).mono (fun y hy=>(hemb'.Dg (small' y hy)).2 hy)
   ·rw[hB x hn]at hx;exact(hr.refs x o hx).mono hinn
 refine⟨aH,?_,?_,?_⟩
 ·rw[<-hH2];refine⟨hp.bR,fun k hk=>(hp.fresh k hk).imp id (fun h h'=>h (.inl h')),⟨hp.ext.size,fun k hk=>hp.ext.same k (hk.imp .inl id),hp.ext.io⟩,gG,hrel,hinn,fun b hb=>?_⟩;rcases split b with⟨i,hi,rfl⟩|hx
  ·by_cases hi0:i<H0.length
   ·exact(hemb'.loop hi).2 (hp.loop i ((hemb.loop hi0).1 hb))
   ·obtain⟨L,hL⟩:=hb;rw[hnewH i (by omega) hi]at hL;cases hL
  ·unfold gA at hb⊢;rw[hB b hx];exact hb
 ·rw[<-hH2];show aw P w' aE aH H2 (cK (sig bs base) v0) cv;rw[<-hσ];exact(hemb'.CS _ _ (aB.mono small' _ hvr)).2 hv
 ·rw[<-hH2];show aB (aG H2) (cK (sig bs base) v0);rw[<-hσ,Bj];exact aB.mono (fun y hy=>(hemb'.Dg (small' y hy)).2 hy) _ hvr
theorem b9.frame{f:bb}{H0 bS:Heap}{fy:List AV}{g:AV}(h:b9 P f H0 fy bS g)(bs:List Nat)(a:Nat)(r:bs.length=H0.length)(t:bs.Nodup)(s:∀b∈bs,b<a)
 (q:H0.length<=bS.length)(d:aQ (aG H0) fy)(u:∀(b:Nat)(o:Obj),H0[b]?=some o->o.refs (aG H0)):
 qI P f (cM (sig bs a) fy) a (dA bs a H0 bS g):=by
 refine⟨h.1,fun H w aa ah β m x n _ aj aR=>?_⟩;obtain⟨dK,i,-,y,p,-,back⟩:=HQ bs a r t s q d u x n aj aR;refine(h.2 w aa i dK m y p d).mono ?_;rintro e w' ⟨c,B,aE,rfl,v,z,A⟩;obtain⟨aH,j,k,l⟩:=back c w' B aE v z A;exact⟨c,aH,aE,rfl,j,k,l⟩
theorem ic.frame{b:Nat}{H0 bS:Heap}{fy:List AV}{i:AV}(h:ic P b H0 fy bS i)(bs:List Nat)(a:Nat)(x:bs.length=H0.length)(A:bs.Nodup)(z:∀b∈bs,b<a)
 (v:H0.length<=bS.length)(g:aQ (aG H0) fy)(B:∀(b:Nat)(o:Obj),H0[b]?=some o->o.refs (aG H0)):
 sB P (sig bs a b) (cM (sig bs a) fy) a (dA bs a H0 bS i):=by
 intro H w aa ah β p D r _ aj aR;obtain⟨dK,j,t,E,s,y,back⟩:=HQ bs a x A z v g B D r aj aR;have u:b<H0.length:=by
  obtain⟨L,q⟩:=h.1;exact(cy.1 q).1
 refine⟨(y b u).2 h.1,?_⟩;obtain⟨f,tmps,assign,body,d,e⟩:=h.2 w aa j dK p E s g;rw[t]at d e;refine⟨f,tmps,assign,body,d,fun n I=>?_⟩;obtain⟨c,w',J,aE,g1,C,F,G⟩:=e n I;obtain⟨aH,k,l,m⟩:=back c w' J aE C F G;exact⟨c,w',aH,aE,g1,k,l,m⟩
end
end Go.al
namespace Go.al
variable[Gl]
def j0(b:Nat):List Nat->Nat->Option Nat
 |[],_=>none
 |x::r,i=>bif e6 x b then some i else j0 b r (i+1)
theorem Ka{b:Nat}:∀{l:List Nat}{i j:Nat},j0 b l i=some j->i<=j/\l[j-i]?=some b
 |[],_,_,h=>by simp[j0]at h
 |x::r,i,j,h=>by
  simp only[j0]at h;cases a:e6 x b
  ·simp only[a,cond_false]at h;obtain⟨d,c⟩:=Ka h;refine⟨by omega,?_⟩;have e:j-i=(j-(i+1))+1:=by omega
   rw[e,List.getElem?_cons_succ];exact c
  ·simp only[a,cond_true,fK]at h;subst h;simp[dt a]
section
variable(bs:List Nat)
mutual
def lC:AV->Option AV
 | .p v=>some (.p v)
 | .ptr b path=>match j0 b bs 0 with
  |some i=>some (.ptr i path)
  |none=>none
 | .b6 b ar ai i path=>match j0 b bs 0 with
  |some j=>some (.b6 j ar ai i path)
  |none=>none
 | .sl b ar ai off len=>match j0 b bs 0 with
  |some j=>some (.sl j ar ai off len)
  |none=>none
 | .map b=>match j0 b bs 0 with
  |some j=>some (.map j)
  |none=>none
 | .func f fi ca=>match lr fi,lr ca with
  |some a,some b=>some (.func f a b)
  |_,_=>none
 | .st u fs=>match lr fs with
  |some a=>some (.st u a)
  |none=>none
 | .aD vs=>match lr vs with
  |some a=>some (.aD a)
  |none=>none
def lr:List AV->Option (List AV)
 |[]=>some []
 |v::r=>match lC v,lr r with
  |some a,some b=>some (a::b)
  |_,_=>none
end
def Cl:Obj->Option Obj
 | .box fz t=>match lC bs t with
  |some a=>some (.box fz a)
  |none=>none
 | .arr k ar ai es=>match lr bs es with
  |some a=>some (.arr k ar ai a)
  |none=>none
 | .map fz es=>some (.map fz es)
 | .dm ks vs=>match lr bs vs with
  |some a=>some (.dm ks a)
  |none=>none
 | .dv s n=>some (.dv s n)
 | .dead=>some .dead
 |_=>none
def uT(H:Heap):List Nat->Option Heap
 |[]=>some []
 |b::r=>match H[b]? with
  |some o=>match Cl bs o,uT H r with
   |some a,some t=>some (a::t)
   |_,_=>none
  |none=>none
end
section
variable{bs:List Nat}{base:Nat}
theorem xR{b i:Nat}(h:j0 b bs 0=some i):sig bs base i=b:=by
 have:=(Ka h).2;simp only[Nat.sub_zero]at this;simp[sig,this]
mutual
theorem Jf:∀{a c:AV},lC bs a=some c->cK (sig bs base) c=a
 | .p v,c,h=>by simp only[lC,fK]at h;subst h;rfl
 | .ptr b path,c,h=>by
  simp only[lC]at h
  split at h
  ·rename_i i hi;simp only[fK]at h;subst h;simp only[cK,xR hi]
  ·simp at h
 | .b6 b ar ai i path,c,h=>by
  simp only[lC]at h
  split at h
  ·rename_i i hi;simp only[fK]at h;subst h;simp only[cK,xR hi]
  ·simp at h
 | .sl b ar ai off len,c,h=>by
  simp only[lC]at h
  split at h
  ·rename_i i hi;simp only[fK]at h;subst h;simp only[cK,xR hi]
  ·simp at h
 | .map b,c,h=>by
  simp only[lC]at h
  split at h
  ·rename_i i hi;simp only[fK]at h;subst h;simp only[cK,xR hi]
  ·simp at h
 | .func f fi ca,c,h=>by
  simp only[lC]at h
  split at h
  ·rename_i a b d g;simp only[fK]at h;subst h;simp only[cK,od d,od g]
  ·simp at h
 | .st u fs,c,h=>by
  simp only[lC]at h
  split at h
  ·rename_i a d;simp only[fK]at h;subst h;simp only[cK,od d]
  ·simp at h
 | .aD vs,c,h=>by
  simp only[lC]at h
  split at h
  ·rename_i a d;simp only[fK]at h;subst h;simp only[cK,od d]
  ·simp at h
theorem od:∀{l e:List AV},lr bs l=some e->cM (sig bs base) e=l
 |[],e,h=>by simp only[lr,fK]at h;subst h;rfl
 |v::r,e,h=>by
  simp only[lr]at h
  split at h
  ·rename_i a b d g;simp only[fK]at h;subst h;simp only[cM,Jf d,od g]
  ·simp at h
end
theorem T5{o c:Obj}(h:Cl bs o=some c):cV (sig bs base) c=o:=by
 cases o<;>simp only[Cl]at h
 case box fz t=>
  split at h
  ·rename_i a b;simp only[fK]at h;subst h;simp only[cV,Jf b]
  ·simp at h
 case arr k ar ai es=>
  split at h
  ·rename_i a b;simp only[fK]at h;subst h;simp only[cV,od b]
  ·simp at h
 case dm ks vs=>
  split at h
  ·rename_i a b;simp only[fK]at h;subst h;simp only[cV,od b]
  ·simp at h
 case hole=>simp at h
 case loop=>simp at h
 all_goals (simp only[fK]at h;subst h;rfl)
theorem HU{H:Heap}:∀{l:List Nat}{H0:Heap},uT bs H l=some H0->H0.length=l.length/\∀p∈l.zip (H0.map (cV (sig bs base))),H[p.1]?=some p.2
 |[],H0,h=>by simp only[uT,fK]at h;subst h;simp
 |b::r,H0,h=>by
  simp only[uT]at h
  split at h
  case h_2=>simp at h
  rename_i o f
  split at h
  case h_2=>simp at h
  rename_i a t d e;simp only[fK]at h;subst h;obtain⟨i1,i2⟩:=HU e;refine⟨by simp[i1],fun p c=>?_⟩;simp only[dg,List.zip_cons_cons,da]at c;rcases c with rfl|c
  ·simp only[T5 d];exact f
  ·exact i2 p c
end
mutual
def NY:AV->List Nat->List Nat
 | .p _,acc=>acc
 | .ptr b _,acc| .b6 b _ _ _ _,acc| .sl b _ _ _ _,acc| .map b,acc=>b::acc
 | .func _ fi ca,acc=>tg fi (tg ca acc)
 | .st _ fs,acc| .aD fs,acc=>tg fs acc
def tg:List AV->List Nat->List Nat
 |[],acc=>acc
 |v::r,acc=>NY v (tg r acc)
end
def YZ:Obj->List Nat
 | .box _ t=>NY t []
 | .arr _ _ _ es=>tg es []
 |_=>[]
def Cz(H:Heap):Nat->List Nat->List Nat->List Nat
 |0,_,acc=>acc
 |_,[],acc=>acc
 |n+1,b::r,acc=>match j0 b acc 0 with
  |some _=>Cz H n r acc
  |none=>Cz H n (match H[b]? with
   |some o=>YZ o++r
   |none=>r) (b::acc)
def nodupB:List Nat->Bool
 |[]=>true
 |x::r=>(match j0 x r 0 with
  |some _=>false
  |none=>true)&&nodupB r
theorem H5{b:Nat}:∀{l:List Nat}{i:Nat},j0 b l i=none->b∉l
 |[],_,_=>by simp
 |x::r,i,h=>by
  simp only[j0]at h;cases a:e6 x b
  ·simp only[a,cond_false]at h;have:=H5 h;simp only[da,not_or];refine⟨fun e=>?_,this⟩;subst e;rw[fl]at a;cases a
  ·simp[a]at h
theorem Ic:∀{l:List Nat},nodupB l=true->l.Nodup
 |[],_=>List.nodup_nil
 |x::r,h=>by
  simp only[nodupB,a0]at h;rw[dz];refine⟨?_,Ic h.2⟩;have a:=h.1
  split at a
  ·simp at a
  ·rename_i b;exact H5 b
def zh(H:Heap)(b v:Nat):Bool:=match H[b]? with
 |some .hole|none=>false
 |some (.arr _ ar _ _)=>e7 v ar
 |some _=>true
theorem Y1{H:Heap}{b v:Nat}(h:zh H b v=true):aG H (b,v):=by
 unfold zh at h
 split at h
 ·simp at h
 ·simp at h
 ·rename_i k ar ai c a;exact⟨_,a,cU h⟩
 ·rename_i o d e a;refine⟨o,a,?_⟩;cases o with
  |hole=>exact(d rfl).elim
  |arr k ar ai c=>exact(e _ _ _ _ rfl).elim
  |_=>trivial
mutual
def qw(H:Heap):AV->Bool
 | .p _=>true
 | .ptr b _| .map b=>zh H b 0
 | .b6 b ar _ _ _| .sl b ar _ _ _=>zh H b ar
 | .func _ fi ca=>mf H fi&&mf H ca
 | .st _ fs| .aD fs=>mf H fs
def mf(H:Heap):List AV->Bool
 |[]=>true
 |v::r=>qw H v&&mf H r
end
mutual
theorem Bk{H:Heap}:∀{a:AV},qw H a=true->aB (aG H) a
 | .p _,_=>by simp[aB]
 | .ptr _ _,h| .map _,h| .b6 _ _ _ _ _,h| .sl _ _ _ _ _,h=>by
  simp only[qw]at h;simp only[aB];exact Y1 h
 | .func _ fi ca,h=>by
  simp only[qw,a0]at h;simp only[aB];exact⟨oh h.1,oh h.2⟩
 | .st _ _,h| .aD _,h=>by
  simp only[qw]at h;simp only[aB];exact oh h
theorem oh{H:Heap}:∀{l:List AV},mf H l=true->aQ (aG H) l
 |[],_=>by simp[aQ]
 |v::r,h=>by
  simp only[mf,a0]at h;simp only[aQ];exact⟨Bk h.1,oh h.2⟩
end
def yi(H:Heap):Obj->Bool
 | .box _ t=>qw H t
 | .arr _ _ _ es=>mf H es
 | .dm _ vs=>mf H vs
 | .loop _=>false
 |_=>true
theorem H8{H:Heap}{o:Obj}(h:yi H o=true):o.refs (aG H):=by
 cases o<;>simp only[yi]at h<;>simp only[Obj.refs]
 ·exact Bk h
 ·exact oh h
 ·exact oh h
 ·simp at h
def qj(p:Obj->Bool):List Obj->Bool
 |[]=>true
 |o::r=>p o&&qj p r
theorem uM{p:Obj->Bool}:∀{l:List Obj},qj p l=true->∀o∈l,p o=true
 |[],_,o,h=>by simp at h
 |a::r,h,o,b=>by
  simp only[qj,a0]at h;rcases da.1 b with rfl|b
  ·exact h.1
  ·exact uM h.2 o b
def yd(n:Nat):List Nat->Bool
 |[]=>true
 |x::r=>e7 (x+1) n&&yd n r
theorem Cg{n:Nat}:∀{l:List Nat},yd n l=true->∀x∈l,x<n
 |[],_,o,h=>by simp at h
 |a::r,h,o,b=>by
  simp only[yd,a0]at h;rcases da.1 b with rfl|b
  ·exact cU h.1
  ·exact Cg h.2 o b
def ya:Obj->Bool
 | .hole=>false
 |_=>true
def vf(run:List AV->Heap->Option (AV×Heap))(args:List AV)(H:Heap):Option aU:=
 let bs:=Cz H 1000 (tg args []) []
 match lr bs args,uT bs H bs with
 |some fy,some H0=>bif nodupB bs&&(yd H.length bs&&(mf H0 fy&&qj (yi H0) H0))then
  match run fy H0 with
  |some (v0,H1)=>bif e7 H0.length H1.length&&(qj ya (H1.take H0.length))then some (dA bs H.length H0 H1 v0)else none
  |none=>none
  else none
 |_,_=>none
theorem Ba{P:a7}{f:bb}{run:List AV->Heap->Option (AV×Heap)}(n:∀args H v H',run args H=some (v,H')->b9 P f H args H' v){args:List AV}{H:Heap}{e:aU}(h:vf run args H=some e):
 qI P f args H.length e/\oT H e:=by
 unfold vf at h;dsimp only at h
 split at h
 case h_2=>simp at h
 rename_i fy H0 g i;simp only[aT,fm,a0]at h;obtain⟨⟨g1,g2,g3,g4⟩,h⟩:=h
 split at h
 case h_2=>simp at h
 rename_i q H1 j;simp only[fm,fK]at h;obtain⟨⟨g5,g7⟩,rfl⟩:=h;obtain⟨k1,k2⟩:=HU (base:=H.length) i;have hf:=(n _ _ _ _ j).frame _ H.length k1.symm (Ic g1) (Cg g2) (cU g5) (oh g3) (fun b o k=>H8 (uM g4 o (dl k)));rw[od g]at hf;refine⟨hf,k2,fun p d=>?_⟩;simp only[dA]at d;have c:=dq d;refine⟨Cg g2 _ c.1,fun l=>?_⟩;obtain⟨o,m,a⟩:=ew.1 c.2;rw[l]at a;have:=uM g7 o m;rw[Vz.1 a]at this;simp[ya]at this
mutual
theorem yg:∀v:AV,cK (fun i=>i) v=v
 | .p _| .sl .. | .b6 .. | .ptr .. | .map _=>rfl
 | .st u vs=>by simp only[cK,pN vs]
 | .aD vs=>by simp only[cK,pN vs]
 | .func f a b=>by simp only[cK,pN a,pN b]
theorem pN:∀l:List AV,cM (fun i=>i) l=l
 |[]=>rfl
 |v::l=>by simp only[cM,yg v,pN l]
end
theorem Iw:∀e:Env,sF (fun i=>i) e=e
 |[]=>rfl
 |(x,v)::r=>by simp only[sF,yg v,Iw r]
theorem aBV(o:Obj):cV (fun i=>i) o=o:=by
 cases o<;>simp only[cV,yg,pN,Iw]
theorem LG(n:Nat):sig (c9 n) n=fun i=>i:=by
 funext i
 by_cases h:i<n
 ·rw[rW (by simpa using h)];simp
 ·rw[rX (by simpa using h)];simp;omega
def vF(H:Heap):List (Nat×Obj):=(c9 H.length).zip H
theorem Y0{H:Heap}{p:Nat×Obj}(h:p∈vF H):H[p.1]?=some p.2:=by
 rw[vF,db]at h;obtain⟨i,hi,a⟩:=h;rw[List.getElem_zip]at a;subst a;simp
def za(H:Heap):Env->Bool
 |[]=>true
 |(_,v)::r=>qw H v&&za H r
theorem K5{H:Heap}:∀{e:Env},za H e=true->∀x,aB (aG H) (aN e x)
 |[],_,x=>by simp[aN,aB]
 |(y,v)::r,h,x=>by
  simp only[za,a0]at h;simp only[aN]
  split
  ·exact Bk h.1
  ·exact K5 h.2 x
def Mf(H:Heap):Obj->Bool
 | .loop L=>za H L.env
 |o=>yi H o
theorem Uw{H:Heap}{o:Obj}(h:Mf H o=true):o.refs (aG H):=by
 cases o<;>first
  |exact H8 h
  |exact K5 h
def BX(run:Nat->Heap->List AV->Option (Heap×AV))(b:Nat)(args:List AV)(H:Heap):Option aU:=
 bif mf H args&&qj (Mf H) H then
  match run b H args with
  |some (H1,v)=>bif e7 H.length H1.length&&(qj ya (H1.take H.length))then some {v,aj:=vF H,aJ:=(c9 H.length).zip (H1.take H.length),aR:=H1.drop H.length}else none
  |none=>none
 else none
theorem TD{P:a7}{run:Nat->Heap->List AV->Option (Heap×AV)}(k:∀b H args H' v,run b H args=some (H',v)->ic P b H args H' v){b:Nat}{args:List AV}{H:Heap}{e:aU}(h:BX run b args H=some e):
 sB P b args H.length e/\oT H e:=by
 unfold BX at h;simp only[aT,fm,a0]at h;obtain⟨⟨g3,g4⟩,h⟩:=h
 split at h
 case h_2=>simp at h
 rename_i H1 f g;simp only[fm,fK]at h;obtain⟨⟨g5,g7⟩,rfl⟩:=h;have hf:=(k _ _ _ _ _ g).frame (c9 H.length) H.length (by simp) ej (fun b a=>by simpa using a) (cU g5) (oh g3) (fun b o a=>Uw (uM g4 o (dl a)));have e:dA (c9 H.length) H.length H H1 f={v:=f,aj:=vF H,aJ:=(c9 H.length).zip (H1.take H.length),aR:=H1.drop H.length}:=by
  simp only[dA,LG,yg];rw[show(cV fun i=>i)=id from funext aBV,ec,ec,ec,vF]
 rw[e,LG,pN]at hf;refine⟨hf,fun p c=>Y0 c,fun p c=>?_⟩;have d:=dq c;refine⟨by simpa using d.1,fun j=>?_⟩;have:=uM g7 p.2 d.2;rw[j]at this;simp[ya]at this
end Go.al
