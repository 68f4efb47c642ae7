import Derived.Test.YtenbmieafgdjaaaGreatDoorNThC
/- Parts of a proof. -/
set_option linter.unusedSimpArgs false
set_option linter.unusedVariables false
set_option linter.unusedSectionVars false
open Array renaming getElem?_eq_some_iff->am, getElem?_eq_getElem->ao, replicate->ap, getD_eq_getD_getElem?->av
open BitVec renaming ofInt->ax
open Bool renaming cond_eq_ite->ay, and_eq_true->aT, false_eq_true->a0
open Go renaming TypeId->a1, Program->a6, Operand->a7, FuncId->a8, BinOp->bb, Value->be, IntKind->bi, World->bk, ResultVar->bl, mem_ready->bo, getD_set_ne->br, Frame->bv
open Go.Region renaming ready->b0, schedule->b1, binds->b2
open Go.Region.linearise renaming go->b3
open Go.Utf8 renaming decode->b4
open Int renaming natCast_nonneg->b5, ofNat_eq_natCast->cb, toNat_natCast->cc
open List renaming getElem?_eq_getElem->ce, getElem?_eq_some_iff->ck, replicate->cx, range->cy, mem_cons->c6, mem_iff_getElem->c9, map_cons->da, all_eq_true->db, mem_of_getElem?->dg, isEmpty_cons->dk, of_mem_zip->dl, nodup_cons->dp, map_nil->dq, mem_append_right->dz, map_id->ea, mem_map_of_mem->eb, mem_range'_1->ec, countP_congr->ed, nodup_range->ee, getElem_mem->ei, countP_cons->ej, mem_append->em, map_append->en, mem_map->eo
open Nat renaming beq->eq, ble->ew, ble_eq_true_of_le->e6, zero_le->e7, le_refl->e8, strongRecOn->e9, beq_refl->fb
open Option renaming ite_none_right_eq_some->fd, getD_some->fl
open Option.some renaming injEq->fm
namespace Go.au
set_option linter.unusedSectionVars false
variable[Gl]
section
variable{P:a6}{ag:a8->Bool}{n:Nat}
variable{ops:Array Oper}{es:List (St×aU)}{s':St}
theorem cL.congr{ah aa:Nat->Prop}{β:Bd}{s u:St}{t:Array be}{w:bk}(h:cL P n ah aa β s t w)(b:∀x,aM u.env x=aM s.env x)(a:u.heap=s.heap):cL P n ah aa β u t w:=by
 refine⟨by rw[a];exact h.heap,fun x=>?_,fun x=>?_,h.size⟩
 ·rw[b,a];exact h.env x
 ·rw[b,a];exact h.gn x
theorem cL.my{ah aa:Nat->Prop}{β:Bd}{s:St}{t:Array be}{w:bk}(m:Nat)(h:cL P n ah aa β s t w):cL P n ah aa β ⟨s.env,s.heap++cx m .hole⟩ t w:=
 ⟨h.heap.my m,fun x=>ar.mono (fun _ x=>x) (fun _ _=>rfl) (nZ β s.heap m) _ _ (h.gn x) (h.env x),fun x=>aB.mono (l8 _ _) _ (h.gn x),h.size⟩
theorem UR{o:Oper}{e e':Env}(h:∀x∈looks ops o,aM e' x=aM e x):∀x∈o.op.operands,ev e' x=ev e x:=by
 intro x hx;cases x with
 |tmp t=>
  simp only[ev];refine h t ?_;simp only[looks,em,List.mem_filterMap];exact .inl ⟨.tmp t,by simpa using hx,rfl⟩
 |_=>rfl
theorem iH.run(h:iH P n ops es s'){D:Nat->Prop}(hc:uW ops D){i:Nat}{o:Oper}(a:ops[i]?=some o)(x:¬D i)(z:∀e∈o.after,b2 .any e=true->D e.on){s:St}(m:At ops es s' D s)
 {fr:bv}{k:List Item}{cs:List bv}{r:List Nat}{ds:List Deferred}{ah aa:Nat->Prop}{β:Bd}{t:Array be}{w:bk}(b:cL P n ah aa β s t w):
 ∃u aD aJ d w',Steps P (lone (bA fr t ds (.inRegion ops (i::r)::k)) cs w) (lone (bA fr d ds (.inRegion ops r::k)) cs w')/\cL P n ah aD aJ u d w'/\(∀N,dI N ah aa w β s.heap ah aD w' aJ u.heap)/\At ops es s' (fun j=>D j\/j=i) u:=by
 obtain⟨g,A⟩:=h.reads hc a x z m;have hi:i<ops.size:=(am.1 a).1;obtain⟨v,_⟩:=h.at_ i o a;have c:=h.next hc a x z m;have q:iG n o=true:=h.dst o (by rw[Array.mem_toList_iff];exact Array.mem_of_getElem? a);have H:=h.vq (k:=i) (by omega);rcases v.act with⟨f,C⟩|⟨f,E⟩
 ·obtain⟨aD,aJ,d,w',B,a2,a3⟩:=C fr k cs ops i r ds ah aa β s t w a (f t s ah aa β w b g) q b (UR g) (by
   intro p y;rw[A p.1 (.inl (eb y))];have:=v.aj p y;unfold hx;rw[List.getElem?_append_left (ck.1 this).1];exact this) (by
   intro j G;have F:(c7 es s' i).heap.length+j∈wr es s' i:=by
    unfold wr tt;rw[en,rI];exact dz _ (Gr.2 ⟨by omega,by omega⟩)
   rw[A _ (.inr F)];have l:=h.vq (k:=i+1) (by omega);rw[(h.at_ i o a).2]at l;simp only[aU.app,List.length_append,nX]at l;unfold hx;rw[jG,if_neg (by omega),if_pos (by omega)])
  exact⟨_,aD,aJ,d,w',B,a2,a3,c⟩
 ·rw[E]at c;simp only[newAt,List.append_nil,bd]at c;exact⟨_,aa,β,_,w,.one (H4 a (f t s ah aa β w b g)),b.put q (bU.refl b.heap) (by simp[ar,aw,bg,undef]) (by simp[aB]),fun _=>dI.refl _ _ _ _ _ _,c⟩
def isDone(a:Array Bool)(i:Nat):Prop:=a.getD i false=true
theorem G5{p:Nat->Bool}{i:Nat}:∀{l:List Nat},l.Nodup->i∈l->p i=true->l.countP p=l.countP (fun x=>p x&&x !=i)+1
 |[],_,h,_=>by simp at h
 |a::l,c,h,d=>by
  rw[dp]at c
  by_cases b:a=i
  ·subst b;have e:l.countP (fun x=>p x&&x !=a)=l.countP p:=by
    refine ed fun x hx=>?_;have:x≠a:=fun e=>c.1 (e▸hx);simp[this]
   simp[d,e]
  ·have f:i∈l:=by
    rcases c6.1 h with h|h
    ·exact(b h.symm).elim
    ·exact h
   have g:=G5 c.2 f d;rw[ej,ej,g];have:(a !=i)=true:=by simpa using b
   simp only[this,Bool.and_true];omega
def left(b:Array Oper)(a:Array Bool):Nat:=(cy b.size).countP fun i=>!a.getD i true
theorem iH.goes(h:iH P n ops es s'){fr:bv}{k:List Item}{cs:List bv}{ds:List Deferred}{ah:Nat->Prop}:∀(c b:Nat)(a:Array Bool)(s:St)(aa:Nat->Prop)(β:Bd)(t:Array be)(w:bk),a.size=ops.size->left ops a<=c->uW ops (isDone a)->
 At ops es s' (isDone a) s->cL P n ah aa β s t w->
 ∃u D aD aJ Q w',Steps P (lone (bA fr t ds (.inRegion ops (b3 .any ops c b a [])::k)) cs w) (lone (bA fr Q ds (.inRegion ops []::k)) cs w')/\cL P n ah aD aJ u Q w'/\(∀N,dI N ah aa w β s.heap ah aD w' aJ u.heap)/\At ops es s' D u/\∀j,j<ops.size->D j:=by
 have L:∀(a:Array Bool),a.size=ops.size->b0 .any ops a=[]->∀j,j<ops.size->isDone a j:=by
  intro a q f j
  induction j using e9 with
  |_ j K=>
   intro d
   by_cases A:isDone a j
   ·exact A
   ·exfalso;have G:j<a.size:=by omega
    have:j∈b0 .any ops a:=by
     rw[bo];refine⟨?_,ops[j],ao d,fun e B z=>?_⟩
     ·unfold isDone at A;simp only[av,ao G,fl]at A⊢;simpa using A
     ·have H:=h.lower j _ (ao d) e B z;exact K e.on H (by omega)
    rw[f]at this;simp at this
 intro c
 induction c with
 |zero=>
  intro b a s aa β t w q hl hc y C;have f:b0 .any ops a=[]:=by
   rw[List.eq_nil_iff_forall_not_mem];intro j d;rw[bo]at d;obtain⟨g,o,m,_⟩:=d;have G:j<ops.size:=(am.1 m).1;have:0<left ops a:=by
    unfold left;rw[List.countP_pos_iff];exact⟨j,by simpa using G,by rw[g];rfl⟩
   omega
  exact⟨s,isDone a,aa,β,t,w,by simp only[b3,List.reverse_nil];exact Steps.refl _ _,C,fun _=>dI.refl _ _ _ _ _ _,y,L a q f⟩
 |succ c K=>
  intro b a s aa β t w q hl hc y C;have ab:b3 .any ops (c+1) b a []=(match(b0 .any ops a)[b% (b0 .any ops a).length]? with
   |some i=>b3 .any ops c (b/(b0 .any ops a).length) (a.setIfInBounds i true) [i]
   |none=>[].reverse):=rfl
  rw[ab];cases hi:(b0 .any ops a)[b% (b0 .any ops a).length]? with
  |none=>
   have f:b0 .any ops a=[]:=by
    cases f:b0 .any ops a with
    |nil=>rfl
    |cons x xs=>
     rw[f]at hi;have H:b% (x::xs).length<(x::xs).length:=Nat.mod_lt _ (by simp);rw[ce H]at hi;cases hi
   exact⟨s,isDone a,aa,β,t,w,Steps.refl _ _,C,fun _=>dI.refl _ _ _ _ _ _,y,L a q f⟩
  |some i=>
   simp only;rw[linearise_go_acc,List.reverse_singleton,List.singleton_append];have ae:=dg hi;obtain⟨g,o,m,O⟩:=bo.1 ae;have ac:i<ops.size:=(am.1 m).1;have E:i<a.size:=by omega
   have af:¬isDone a i:=by
    unfold isDone;simp only[av,ao E,fl]at g⊢;simp[g]
   obtain⟨u,R,aj,t1,ag,T,a2,a3,a4⟩:=h.run (fr:=fr) (k:=k) (cs:=cs) (ds:=ds) (r:=b3 .any ops c (b/(b0 .any ops a).length) (a.setIfInBounds i true) []) hc m af O y C;have M:(fun j=>isDone a j\/j=i)=isDone (a.setIfInBounds i true):=by
    funext j
    unfold isDone
    by_cases F:j=i
    ·subst F;simp[E]
    ·have:(a.setIfInBounds i true).getD j false=a.getD j false:=br false (Ne.symm F);rw[this];simp[F]
   rw[M]at a4;have Z:uW ops (isDone (a.setIfInBounds i true)):=by
    rw[<-M];intro j o' I d e B z;rcases d with d|rfl
    ·exact .inl (hc j o' I d e B z)
    ·rw[m]at I;cases I;exact .inl (O e B z)
   have ad:left ops (a.setIfInBounds i true)<=c:=by
    have al:=G5 (p:=fun j=>!a.getD j true) (i:=i) (l:=cy ops.size) ee (by simpa using ac) (by show(!a.getD i true)=true;rw[g];rfl);have:left ops (a.setIfInBounds i true)=(cy ops.size).countP (fun x=>!a.getD x true&&x !=i):=by
     unfold left;refine ed fun x hx=>?_
     by_cases J:x=i
     ·subst J;simp[E]
     ·have:(a.setIfInBounds i true).getD x true=a.getD x true:=br true (Ne.symm J);rw[this];simp[J]
    unfold left at hl;omega
   obtain⟨v,D,S,ak,t2,ai,U,V,W,X,Y⟩:=K (b/(b0 .any ops a).length) (a.setIfInBounds i true) u R aj t1 ag (by simpa using q) ad Z a4 a2;exact⟨v,D,S,ak,t2,ai,T.trans U,V,fun N=>(a3 N).trans (W N),X,Y⟩
theorem UP(h:fit n ops=true):(∀j o,ops[j]?=some o->∀e∈o.after,b2 .any e=true->e.on<j)/\
 (∀i j u o,i<j->ops[i]?=some u->ops[j]?=some o->pE ops u o=true->reach ops ops.size i j=true):=by
 unfold fit at h;rw[db]at h;constructor
 ·intro j o a e f c;have b:j<ops.size:=(am.1 a).1;have:=h j (by simpa using b);rw[a]at this;simp only[aT,db]at this;have:=this.1 e (by simpa using f);simpa[c]using this
 ·intro i j u o g k a d;have b:j<ops.size:=(am.1 a).1;have:=h j (by simpa using b);rw[a]at this;simp only[aT,db]at this;have:=this.2 i (by simpa using g);rw[k]at this;simpa[d]using this
theorem wM(C:kZ P ag)(Z:P.follows .mixedOrders=true):rL P ag fit:=by
 intro n N a fr k cs F f K s ah aa β t w T B h ab;obtain⟨es,s',I,J,M⟩:=I0 C B a.toList 0 [] s (fun _ h=>h) h;obtain⟨t1,t2,t3⟩:=I.at;obtain⟨_,_,O⟩:=Hm es 0 [] M;obtain⟨f1,f2⟩:=UP (n:=n) T;have X:es.length=a.size:=by simpa using t1
 have hs:iH P n a es s':=by
  refine⟨X,fun k o c=>t3 k o (by simpa using c),B,f1,f2,fun i j U ai v=>?_⟩;have hi:i<es.length:=by omega
  have A:j<es.length:=by omega
  have G:es[i]?=some (es[i].1,es[i].2):=by simp[ce hi]
  have H:es[j]?=some (es[j].1,es[j].2):=by simp[ce A]
  have:=O i j es[i].1 es[i].2 es[j].1 es[j].2 U G H;simp only[Nat.zero_add]at this;refine this ?_;have g:c7 es s' i=es[i].1/\fk es i=es[i].2:=by simp[c7,fk,ce hi]
  have q:c7 es s' j=es[j].1/\fk es j=es[j].2:=by simp[c7,fk,ce A]
  rw[g.1,g.2,q.1,q.2]at v;exact v
 have V:=hs.vq (k:=0) (e7 _);rw[t2]at V;obtain⟨m,Y⟩:∃m,m=s'.heap.length-s.heap.length:=⟨_,rfl⟩
 have ac:=ab.my m;have Q:∀N,dI N ah aa w β s.heap ah aa w β (s.heap++cx m .hole):=fun N=>⟨fun _ x=>x,fun _ x=>x,fun _ x=>.inl x,Ext.refl _ _ _,(nZ _ _ _).n,fun x _=>l8 _ _ x,fun b _⟨L,r⟩=>⟨L,by rw[jG,if_pos (ck.1 r).1];exact r⟩⟩
 have ad:b1 (P.follows .mixedOrders) a f=b3 .any a a.size f (ap a.size false) []:=by
  simp[b1,Z,Region.linearise]
 have e:∀i,¬isDone (ap a.size false) i:=by
  intro i hi;unfold isDone at hi
  by_cases z:i<a.size
  ·simp[z]at hi
  ·simp[z]at hi
 have R:At a es s' (isDone (ap a.size false)) ⟨s.env,s.heap++cx m .hole⟩:=by
  refine⟨fun x=>⟨0,e7 _,by rw[t2],fun i o _ _=>⟨fun h=>(e i h).elim,fun h=>by omega⟩⟩,by simp;omega,fun b=>⟨0,e7 _,by rw[t2];unfold hx;rw[<-Y],fun i _ _=>⟨fun h=>(e i h).elim,fun h=>by omega⟩⟩⟩
 have W:left a (ap a.size false)<=a.size:=by
  unfold left;have:=List.countP_le_length (p:=fun i=>!(ap a.size false).getD i true) (l:=cy a.size);simpa using this
 obtain⟨u,D,aD,aJ,af,w',E,a2,a3,a4,a5⟩:=hs.goes (fr:=fr) (k:=k) (cs:=cs) (ds:=F) a.size f (ap a.size false) _ aa β t w (by simp) W (fun j o c d=>(e j d).elim) R ac;rw[ad];have S:∀x,aM s'.env x=aM u.env x:=by
  intro x;obtain⟨k,k1,k2,k3⟩:=a4.tmp x;rw[k2];have:=hs.Ke (x:=x) k1 (e8 a.size) (fun i o c d=>by
   have hi:i<a.size:=(am.1 c).1;have:=(k3 i o c d).1 (a5 i hi);exact⟨fun _=>hi,fun _=>this⟩)
  rw[hs.last]at this;exact this
 have y:s'.heap=u.heap:=by
  apply List.ext_getElem?;intro b;obtain⟨k,k1,k2,k3⟩:=a4.heap b;rw[k2];have:=hs.JX (b:=b) k1 (e8 a.size) (fun i hi ae=>by
   have:=(k3 i hi ae).1 (a5 i hi);exact⟨fun _=>hi,fun _=>this⟩)
  rw[hs.last]at this;rw[<-this];simp[hx]
 exact⟨s',aD,aJ,af,w',J,E,a2.congr S y,(Q N).trans (y▸a3 N)⟩
end
section
variable{P:a6}
structure an(P:a6)(f:a8)(fn:Func):Prop where
 func:P.funcs[f]?=some fn
 stat:(fn.body.isSome&&(fn.name != "runtime.NumGoroutine")&&codeOk fit fn.ntmps (fn.body.getD .skip))=true
theorem an.enters{f:a8}{fn:Func}(h:an P f fn):Enters P f:=by
 intro args w;have hs:=h.stat;simp only[aT,bne_iff_ne]at hs;cases a:fn.body with
 |none=>rw[a]at hs;simp at hs
 |some c=>simp[callFunc,h.func,hs.1.2,a]
def Ends(P:a6)(a:List bl)(v:PV)(e:bn)(s:St):Prop:=
 (match e with
  | .exit _=>False
  |_=>True)/\∃vs,fo P s a=some vs/\dZ s.heap 9 (oneOf vs)=some v
theorem yZ{f:a8}{fn:Func}(ag:a8->Bool)(h:an P f fn)(b:P.follows .mixedOrders=true){args:List PV}{v:PV}(c:args.length<=fn.ntmps)
 (d:b6 P ag (fn.ntmps,0) (fn.body.getD .skip) (Ends P fn.results.toList v) ⟨iq 0 (args.map .p),[]⟩):az P f args v:=by
 have hs:=h.stat;simp only[aT,bne_iff_ne]at hs;have a:fn.body=some (fn.body.getD .skip):=by
  have:=hs.1.1;cases e:fn.body<;>simp_all
 exact .inl (Jm (nY ag) (wM (nY ag) b) h.enters h.func a hs.2 c d)
class aDo(P:a6)(f:a8)(args:List PV)(pre:outParam Prop)(v:outParam PV):Prop where
 yZ:pre->az P f args v
section calls
variable{f:a8}{H:Heap}{pre:Prop}{v:PV}
end calls
def qH(e:Env):Env->Prop
 |[]=>True
 |(x,v)::r=>aM e x=v/\qH e r
def jR:Heap->Heap->Prop
 |_,[]=>True
 |[],.hole::t=>jR [] t
 |_::h,.hole::t=>jR h t
 |o::h,o'::t=>o=o'/\jR h t
 |[],_::_=>False
theorem qH.get{e:Env}:∀{t:Env},qH e t->∀x,aM t x=aM e x\/aM t x=.p .undef
 |[],_,x=>.inr rfl
 |(y,v)::t,h,x=>by
  simp only[qH]at h;simp only[aM]
  split
  ·rename_i hx;subst hx;exact .inl h.1.symm
  ·exact qH.get h.2 x
theorem jR.get:∀{h t:Heap},jR h t->∀(b:Nat)(o:Obj),t[b]?=some o->o=.hole\/h[b]?=some o
 |_,[],_,b,o,a=>by simp at a
 |[],o'::t,hk,b,o,a=>by
  cases o'<;>simp only[jR]at hk;cases b with
  |zero=>simp at a;exact .inl a.symm
  |succ b=>exact(jR.get hk b o (by simpa using a)).imp id (fun h=>by simp at h)
 |c::h,o'::t,hk,b,o,a=>by
  cases b with
  |zero=>
   simp at a;cases o'<;>simp only[jR]at hk
   case hole=>exact .inl a.symm
   all_goals exact .inr (by rw[<-a,<-hk.1];simp)
  |succ b=>
   have:jR h t:=by cases o'<;>simp only[jR]at hk<;>first|exact hk|exact hk.2
   exact(jR.get this b o (by simpa using a)).imp id (fun h=>by simpa using h)
def iu(H:Heap):Env->Prop
 |[]=>True
 |(_,v)::r=>aB (aH H) v/\iu H r
def cr(H:Heap):Heap->Prop
 |[]=>True
 |o::r=>o.refs (aH H)/\cr H r
theorem iu.get{H:Heap}:∀{e:Env},iu H e->∀x,aB (aH H) (aM e x)
 |[],_,x=>by simp[aM,aB]
 |(y,v)::e,h,x=>by
  simp only[iu]at h;simp only[aM]
  split
  ·exact h.1
  ·exact iu.get h.2 x
theorem cr.get{H:Heap}:∀{h:Heap},cr H h->∀(b:Nat)(o:Obj),h[b]?=some o->o.refs (aH H)
 |[],_,b,o,a=>by simp at a
 |d::h,c,b,o,a=>by
  simp only[cr]at c;cases b with
  |zero=>simp at a;subst a;exact c.1
  |succ b=>exact cr.get c.2 b o (by simpa using a)
theorem oP.of{s t:St}(a:qH s.env t.env)(c:jR s.heap t.heap)(e:iu t.heap t.env)(f:cr t.heap t.heap):oP s t:=
 ⟨fun x=>(a.get x).imp id .inl,fun b o d=>(c.get b o d).imp id .inl,e.get,f.get⟩
theorem dJ.of{N:Nat}{s t:St}(e:t.heap.take N=s.heap.take N)(c:qH s.env t.env)(d:jR s.heap t.heap)(f:iu t.heap t.env)(g:cr t.heap t.heap):dJ N s t:=by
 refine .inr ⟨oP.of c d f g,fun b a=>?_⟩;have:=congrArg (fun l:Heap=>l[b]?) e;simpa[List.getElem?_take,a]using this
theorem Nr{f:a8}{fn:Func}(ag:a8->Bool)(h:an P f fn)(b:P.follows .mixedOrders=true){args:List AV}{H H':Heap}{v:AV}(c:args.length<=fn.ntmps)
 (d:b6 P ag (fn.ntmps,H.length) (fn.body.getD .skip) (sL P fn.results.toList H.length H' v) ⟨iq 0 args,H⟩):cR P f H args H' v:=by
 have hs:=h.stat;simp only[aT,bne_iff_ne]at hs;have a:fn.body=some (fn.body.getD .skip):=by
  have:=hs.1.1;cases e:fn.body<;>simp_all
 exact UO (nY ag) (wM (nY ag) b) h.enters h.func a hs.2 c d
theorem Ns(ag:a8->Bool)(f:P.follows .mixedOrders=true){b:Nat}{L:eU}{H H':Heap}{args:List AV}{v:AV}(d:H[b]?=some (.loop L))(e:args.length=L.params.length)
 (a:(L.params.all (fun x=>decide (x<L.n))&&codeOk fit L.n L.assign&&codeOk fit L.n L.body)=true)(g:xC P ag L b args H (fun c h=>h=v/\dJ H.length ⟨[],c⟩ ⟨[],H'⟩)):ia P b H args H' v:=by
 simp only[aT,db,decide_eq_true_eq]at a;exact UN (nY ag) (wM (nY ag) f) d e a.1.1 a.1.2 a.2 g
theorem again{N:Nat}{α:Type}{mk:α->St}{ok:α->Prop}{m:α->Nat}{n:Nat}{s':St}(a':α)(c:m a'<n)(d:ok a')(e:dJ N s' (mk a')):∃a b,a<n/\dJ N s' b/\∃a',ok a'/\b=mk a'/\a=m a':=
 ⟨m a',mk a',c,e,a',d,rfl,rfl⟩
end
section
variable{P:a6}{ag:a8->Bool}
def aQ{α:Type}(F:(α->Prop)->Prop):Prop:=∀K,F K->∃a,K a/\∀b:α->Prop,b a->F b
theorem aQ.one{α β:Type}(f:β->α)(b:β):aQ (fun K:α->Prop=>K (f b)):=fun _ h=>⟨f b,h,fun _ h=>h⟩
theorem aQ.false{α:Type}:aQ (fun _:α->Prop=>False):=fun _ h=>h.elim
theorem aQ.and{α:Type}{p:Prop}{F:(α->Prop)->Prop}(h:aQ F):aQ (fun K=>p/\F K):=fun K hk=>by
 obtain⟨a,c,d⟩:=h K hk.2;exact⟨a,c,fun b h=>⟨hk.1,d b h⟩⟩
theorem aQ.ex{α:Type}{β:Sort _}{F:β->(α->Prop)->Prop}(h:∀b,aQ (F b)):aQ (fun K=>∃b,F b K):=fun K⟨b,f⟩=>by
 obtain⟨a,d,e⟩:=h b K f;exact⟨a,d,fun c h=>⟨b,e c h⟩⟩
theorem aQ.or{α:Type}{F G:(α->Prop)->Prop}(h:aQ F)(e:aQ G):aQ (fun K=>F K\/G K):=fun K hk=>by
 rcases hk with hk|hk
 ·obtain⟨a,c,d⟩:=h K hk;exact⟨a,c,fun b h=>.inl (d b h)⟩
 ·obtain⟨a,c,d⟩:=e K hk;exact⟨a,c,fun b h=>.inr (d b h)⟩
theorem aQ.ite{α:Type}{p:Prop}[Decidable p]{F G:(α->Prop)->Prop}(h:aQ F)(f:aQ G):aQ (fun K=>if p then F K else G K):=fun K hk=>by
 split at hk
 ·rename_i e;obtain⟨a,c,d⟩:=h K hk;exact⟨a,c,fun b h=>by simpa[e]using d b h⟩
 ·rename_i e;obtain⟨a,c,d⟩:=f K hk;exact⟨a,c,fun b h=>by simpa[e]using d b h⟩
theorem aQ.bind{α β:Type}{F:(α->Prop)->Prop}{G:α->(β->Prop)->Prop}(h:aQ F)(d:∀a,aQ (G a)):aQ (fun K=>F (fun a=>G a K)):=fun K hk=>by
 obtain⟨a,e,f⟩:=h _ hk;obtain⟨b,g,i⟩:=d a K e;exact⟨b,g,fun c h=>f _ (i c h)⟩
theorem aQ.map{α β:Type}{F:(α->Prop)->Prop}(h:aQ F)(f:α->β):aQ (fun K=>F (fun a=>K (f a))):=h.bind fun a=>aQ.one f a
theorem Tm(T:a1)(H:Heap)(a:AV):aQ (nD P T H a):=by
 unfold nD
 repeat' first
  |exact aQ.false
  |exact aQ.one id _
  |refine aQ.and ?_
  |refine aQ.ex fun _=>?_
  |split
theorem SZ(T:a1)(H:Heap)(a x:AV):aQ (nq P T H a x):=by
 unfold nq
 repeat' first
  |exact aQ.false
  |exact aQ.one id _
  |refine aQ.and ?_
  |refine aQ.ex fun _=>?_
  |split
theorem QH(T:a1)(a:AV)(f:Nat):aQ (mV P T a f):=by
 unfold mV
 repeat' first
  |exact aQ.false
  |exact aQ.one id _
  |refine aQ.and ?_
  |refine aQ.ex fun _=>?_
  |split
theorem QG(T:a1)(H:Heap)(a i:AV):aQ (mU P T H a i):=by
 unfold mU
 repeat' first
  |exact aQ.false
  |exact aQ.one id _
  |refine aQ.and ?_
  |refine aQ.ex fun _=>?_
  |split
theorem Rr(T X:a1)(H:Heap)(s x:AV):aQ (mY P T X H s x):=by
 unfold mY
 repeat' first
  |exact aQ.false
  |exact aQ.one id _
  |refine aQ.and ?_
  |refine aQ.ex fun _=>?_
  |refine aQ.ite ?_ ?_
  |split
theorem I4{α:Type}{F:Nat->(α->Prop)->Prop}(x:Option AV)(d:Nat)(h:∀n,aQ (F n)):aQ (fun K=>fY x d (fun n=>F n K)):=by
 unfold fY
 split
 ·exact h _
 ·exact aQ.and (h _)
 ·exact aQ.false
theorem S0(T:a1)(H:Heap)(x:AV)(lo hi a:Option AV):aQ (nr P T H x lo hi a):=by
 unfold nr;refine aQ.and ?_
 repeat' first
  |exact aQ.false
  |exact aQ.one id _
  |refine aQ.and ?_
  |refine I4 _ _ fun _=>?_
  |refine aQ.ite ?_ ?_
  |split
theorem Rq(T:a1)(H:Heap)(x:AV)(lo hi:Option AV)(m:AV):aQ (pF P T H x lo hi m):=by
 unfold pF
 repeat' first
  |exact aQ.false
  |exact aQ.one id _
  |refine aQ.and ?_
  |refine I4 _ _ fun _=>?_
  |split
theorem Ul(op:bb)(T:a1)(c:Bool)(H:Heap)(x y:AV)(f:PV->aU):aQ (fun K:aU->Prop=>jQ P op T c H x y (fun v=>K (f v))):=by
 unfold jQ
 repeat' first
  |exact aQ.false
  |exact aQ.one f _
  |refine aQ.and ?_
  |(unfold oR;split)
  |(unfold oQ;split)
  |split
theorem P3(a:a1)(b:Nat)(key:PV)(x:AV)(c:Obj):aQ (nV P a b key x c):=by
 unfold nV
 repeat' first
  |exact aQ.false
  |exact aQ.one id _
  |refine aQ.and ?_
  |split
theorem Bw(o:Oper)(ρ:a7->AV)(H:Heap):aQ (fh P ag o ρ H):=by
 unfold fh
 repeat' first
  |exact aQ.false
  |exact aQ.one id _
  |exact Tm _ _ _
  |exact SZ _ _ _ _
  |exact QH _ _ _
  |exact QG _ _ _ _
  |exact S0 _ _ _ _ _ _
  |exact Rq _ _ _ _ _ _
  |exact Rr _ _ _ _ _
  |exact P3 _ _ _ _ _
  |exact Ul _ _ _ _ _ _ _
  |refine aQ.and ?_
  |refine aQ.ex fun _=>?_
  |refine aQ.ite ?_ ?_
  |refine aQ.or ?_ ?_
  |split
  |dsimp only
theorem H9(d:Bool)(f:a8)(args:List AV)(H:Heap){α:Type}(g:AV->Heap->α):aQ (fun K:α->Prop=>gE P d f args H (fun v H'=>K (g v H'))):=by
 unfold gE;refine aQ.or (aQ.ex fun vs=>aQ.ex fun v=>aQ.and (aQ.and ?_)) (aQ.and (aQ.or (aQ.ex fun vs=>aQ.ex fun H1=>aQ.ex fun v=>aQ.and (aQ.and ?_)) (aQ.or (aQ.ex fun H'=>aQ.ex fun v=>aQ.and ?_) (aQ.or (aQ.ex fun e=>aQ.and (aQ.and ?_)) (aQ.ex fun aj=>aQ.ex fun v=>aQ.and (aQ.and ?_))))))
 ·exact aQ.one (fun v=>g (.p v) H) v
 ·exact aQ.one (fun v=>g (.p v) H1) v
 ·exact aQ.one (fun v=>g v H') v
 ·exact aQ.one (fun _:Unit=>g e.v (bd H e.aK++e.aS)) ()
 ·exact aQ.one (fun v=>g (.p v) H) v
theorem Ho(f:a8)(args:List AV)(H:Heap):aQ (gL P f args H):=by
 unfold gL;refine aQ.or (aQ.ex fun vs=>aQ.ex fun v=>aQ.and (aQ.and (aQ.one id _))) (aQ.or (aQ.ex fun vs=>aQ.ex fun bs=>aQ.ex fun aj=>aQ.ex fun aK=>aQ.ex fun v=>aQ.and (aQ.and (aQ.and (aQ.one id _)))) (aQ.or (aQ.ex fun e=>aQ.and (aQ.and (aQ.one id _))) (aQ.ex fun aj=>aQ.ex fun v=>aQ.and (aQ.and (aQ.one id _)))))
theorem H7(d:Bool)(o:Oper)(s:St):aQ (fun K=>jl P ag d o K s):=by
 unfold jl
 split
 ·split
  ·exact H9 _ _ _ _ (fun v H'=>(⟨put o.dst v s.env,H'⟩:St))
  ·exact H9 _ _ _ _ (fun v H'=>(⟨put o.dst v s.env,H'⟩:St))
  ·exact aQ.ex fun H'=>aQ.ex fun v=>aQ.and (aQ.one (fun _:Unit=>(⟨put o.dst v s.env,H'⟩:St)) ())
  ·exact aQ.false
 ·exact(Bw o _ _).map (fun e=>e.app o.dst s)
theorem H8(o:Oper)(s:St):aQ (iW P ag o s):=by
 unfold iW
 split
 ·split
  ·exact Ho _ _ _
  ·exact Ho _ _ _
  ·exact aQ.ex fun e=>aQ.and (aQ.and (aQ.one id _))
  ·exact aQ.false
 ·exact Bw o _ _
theorem xo(d:Bool)(a:Array Oper):∀(l:List Oper)(s:St),aQ (fun K=>gG P ag d a l K s)
 |[],s=>by simp only[gG];exact aQ.one id s
 |o::l,s=>by
  have go:aQ (fun K=>jl P ag d o (gG P ag d a l K) s):=(H7 d o s).bind fun t=>xo d a l t;simp only[gG]
  split
  ·exact go
  ·split
   ·split
    ·exact go
    ·exact xo d a l _
   ·exact xo d a l _
   ·exact aQ.false
theorem wY(b:Array Oper):∀(l:List Oper)(i:Nat)(a:List Touch)(s:St),aQ (fun K=>fO P ag b l i a K s)
 |[],i,a,s=>by simp only[fO];exact aQ.and (aQ.one id s)
 |o::l,i,a,s=>by
  have go:aQ (fun K=>iW P ag o s fun e=>fO P ag b l (i+1) (gF i s.heap.length e a) K (e.app o.dst s)):=(H8 o s).bind fun e=>wY b l (i+1) _ _;simp only[fO]
  split
  ·exact go
  ·split
   ·split
    ·exact go
    ·exact wY b l (i+1) a _
   ·exact wY b l (i+1) a _
   ·exact aQ.false
def yH(F:(bn->St->Prop)->Prop):Prop:=∀Q,F Q->∃e s,Q e s/\∀a:bn->St->Prop,a e s->F a
inductive uU(P:a6)(ag:a8->Bool)(q:Cx)(b:Code)(e:bn)(s:St):Nat->St->Prop
 |stop {k:Nat} {u:St}:(∀Q:bn->St->Prop,Q e s->b6 P ag q b Q u)->e≠.normal->uU P ag q b e s k u
 |step {k m:Nat} {u s1 u':St}:(∀Q:bn->St->Prop,Q .normal s1->b6 P ag q b Q u)->m<k->dJ q.2 s1 u'->uU P ag q b e s m u'->uU P ag q b e s k u
theorem Tn(j:Option Code)(s:St):yH (fun Q=>jP Q j s):=fun Q h=>by
 unfold jP at h
 split at h
 ·exact⟨.normal,s,h,fun _ h=>h⟩
 ·rename_i id;exact⟨.exit id,s,h,fun _ h=>h⟩
 ·exact⟨.ret,s,h,fun _ h=>h⟩
 ·exact h.elim
theorem H6(b:Nat)(env:Env)(H:Heap):yH (fun Q=>iE b env Q H):=fun Q h=>by
 unfold iE at h
 split at h
 ·rename_i L f;obtain⟨e,s,c,d⟩:=Tn _ _ Q h.2;exact⟨e,s,c,fun a hq=>by unfold iE;simp only[f];exact⟨h.1,d a hq⟩⟩
 ·exact h.elim
theorem S8(it:AV)(b:Nat)(H:Heap)(env:Env):yH (fun Q=>jw P it b H (iE b env Q)):=fun Q h=>by
 unfold jw at h
 split at h
 ·obtain⟨H',v,c,d⟩:=h;obtain⟨e,s,k1,k2⟩:=H6 b env H' Q d;exact⟨e,s,k1,fun a hq=>by simp only[jw];exact⟨H',v,c,k2 a hq⟩⟩
 ·obtain⟨H',v,c,d⟩:=h;obtain⟨e,s,k1,k2⟩:=H6 b env H' Q d;exact⟨e,s,k1,fun a hq=>by simp only[jw];exact⟨H',v,c,k2 a hq⟩⟩
 ·exact h.elim
theorem mS{q:Cx}:∀(c:Code)(s:St),yH (fun Q=>b6 P ag q c Q s)
 | .skip,s| .label _,s=>fun Q h=>⟨.normal,s,h,fun _ h=>h⟩
 | .exit id,s=>fun Q h=>⟨.exit id,s,h,fun _ h=>h⟩
 | .ret,s=>fun Q h=>⟨.ret,s,h,fun _ h=>h⟩
 | .region id ops draw,s=>fun Q h=>by
  simp only[b6]at h⊢
  split at h
  ·rename_i l;obtain⟨t,d,g⟩:=wY ops _ _ _ _ _ h;exact⟨.normal,t,d,fun Q' h=>by simp only[l,if_true];exact g _ h⟩
  ·rename_i l;obtain⟨t,d,g⟩:=xo _ ops _ _ _ h;exact⟨.normal,t,d,fun Q' h=>by rw[if_neg l];exact g _ h⟩
 | .seq a b,s=>fun Q h=>by
  simp only[b6]at h⊢;obtain⟨e,t,d,g⟩:=mS a s _ h;cases e with
  |normal=>
   obtain⟨e',r,k,y⟩:=mS b t _ d;exact⟨e',r,k,fun Q' h=>g _ (y Q' h)⟩
  |exit id=>exact⟨.exit id,t,d,fun Q' h=>g _ h⟩
  |ret=>exact⟨.ret,t,d,fun Q' h=>g _ h⟩
 | .cond c a b,s=>fun Q h=>by
  simp only[b6]at h⊢
  split at h
  ·split at h
   ·rename_i p;obtain⟨e,t,d,g⟩:=mS a s _ h;exact⟨e,t,d,fun Q' h=>by rw[if_pos p];exact g _ h⟩
   ·rename_i p;obtain⟨e,t,d,g⟩:=mS b s _ h;exact⟨e,t,d,fun Q' h=>by rw[if_neg p];exact g _ h⟩
  ·exact h.elim
 | .block id b,s=>fun Q h=>by
  simp only[b6]at h⊢;obtain⟨e,t,d,g⟩:=mS b s _ h;cases e with
  |normal=>exact⟨.normal,t,d,fun Q' h=>g _ h⟩
  |exit i=>
   by_cases hi:i=id
   ·simp only[hi,if_true]at d;exact⟨.normal,t,d,fun Q' h=>g _ (by simp only[hi,if_true];exact h)⟩
   ·simp only[hi,if_false]at d;exact⟨.exit i,t,d,fun Q' h=>g _ (by simp only[hi,if_false];exact h)⟩
  |ret=>exact⟨.ret,t,d,fun Q' h=>g _ h⟩
 | .scope b,s=>fun Q h=>by simp only[b6]at h⊢;exact mS b s Q h
 | .loop b,s=>fun Q h=>by
  simp only[b6]at h⊢;obtain⟨I,⟨w,t0,hf,hI⟩,E⟩:=h;have key:∀(n:Nat)(t:St),I n t->∃e u,Q e u/\e≠.normal/\uU P ag q b e u n t:=by
   intro n
   induction n using e9 with
   |_ n F=>
    intro t hI;obtain⟨e,s1,d,g⟩:=mS b t _ (E n t hI);cases e with
    |normal=>
     obtain⟨m,r,j,o,z⟩:=d;obtain⟨e,u,k1,k2,k3⟩:=F m j r z;exact⟨e,u,k1,k2,.step g j o k3⟩
    |exit id=>exact⟨.exit id,s1,d,by simp,.stop g (by simp)⟩
    |ret=>exact⟨.ret,s1,d,by simp,.stop g (by simp)⟩
  obtain⟨e,u,d,g,k⟩:=key w t0 hI;refine⟨e,u,d,fun Q' v=>⟨uU P ag q b e u,⟨w,t0,hf,k⟩,?_⟩⟩;intro n t hl;cases hl with
  |stop hs D=>
   refine hs _ ?_;cases e with
   |normal=>exact(D rfl).elim
   |exit id=>exact v
   |ret=>exact v
  |step hs j o C=>exact hs _ ⟨_,_,j,o,C⟩
 | .rangeFunc f G a b,s=>fun Q h=>by
  simp only[b6]at h;obtain⟨A,x,B,h⟩:=h;obtain⟨e,t,d,g⟩:=S8 _ _ _ _ Q h;exact⟨e,t,d,fun Q' hq=>by simp only[b6];exact⟨A,x,B,g Q' hq⟩⟩
 | .goto _,_| .refuse _,_=>fun Q h=>by simp[b6]at h
def Spec(P:a6)(f:a8)(args:List PV)(Q:PV->Prop):Prop:=∃v,az P f args v/\Q v
def yK(P:a6)(a:List bl)(Q:PV->Prop)(e:bn)(s:St):Prop:=
 (match e with
  | .exit _=>False
  |_=>True)/\∃vs,fo P s a=some vs/\∃v,dZ s.heap 9 (oneOf vs)=some v/\Q v
theorem Spec.mono{f:a8}{args:List PV}{Q a:PV->Prop}(h:Spec P f args Q)(hq:∀v,Q v->a v):Spec P f args a:=by
 obtain⟨v,b,c⟩:=h;exact⟨v,b,hq v c⟩
end
def nB(id:Nat)(Q:bn->St->Prop)(e:bn)(s:St):Prop:=
 match e with
 | .exit i=>if i=id then Q .normal s else Q (.exit i) s
 |e=>Q e s
theorem QW{id:Nat}{Q:bn->St->Prop}{s:St}:nB id Q .normal s=Q .normal s:=(rfl)
theorem Sk{id i:Nat}{Q:bn->St->Prop}{s:St}:nB id Q (.exit i) s=if i=id then Q .normal s else Q (.exit i) s:=(rfl)
theorem Tp{id:Nat}{Q:bn->St->Prop}{s:St}:nB id Q .ret s=Q .ret s:=(rfl)
def sy(N n:Nat)(I:Nat->St->Prop)(Q:bn->St->Prop)(e:bn)(s:St):Prop:=
 match e with
 | .normal=>∃a b,a<n/\dJ N s b/\I a b
 |e=>Q e s
theorem QL{N n:Nat}{I:Nat->St->Prop}{Q:bn->St->Prop}{s:St}:sy N n I Q .normal s=∃a b,a<n/\dJ N s b/\I a b:=(rfl)
theorem Ru{N n id:Nat}{I:Nat->St->Prop}{Q:bn->St->Prop}{s:St}:sy N n I Q (.exit id) s=Q (.exit id) s:=(rfl)
theorem S4{N n:Nat}{I:Nat->St->Prop}{Q:bn->St->Prop}{s:St}:sy N n I Q .ret s=Q .ret s:=(rfl)
section CR
variable{P:a6}
end CR
section
variable{P:a6}{ag:a8->Bool}
abbrev ey:=Option (Prop×aU)
def aZ(r:ey)(K:aU->Prop):Prop:=
 match r with
 |some (p,e)=>p/\K e
 |none=>False
theorem Td{p:Prop}{e:aU}{K:aU->Prop}:aZ (some (p,e)) K=(p/\K e):=(rfl)
theorem TO{K:aU->Prop}:aZ none K=False:=(rfl)
@[congr] theorem aGM{r a:ey}{K:aU->Prop}(h:r=a):aZ r K=aZ a K:=by rw[h]
def Can(F:(aU->Prop)->Prop)(r:ey):Prop:=∀K,aZ r K->F K
theorem Can.none{F:(aU->Prop)->Prop}:Can F none:=fun _ h=>h.elim
def oS(P:a6)(T:a1)(H:Heap)(a:AV):ey:=
 match a with
 | .ptr b path=>match H[b]? with
  |some (.box fz t)=>match eB t path with
   |some s=>some (kindOf P T=ad s,{v:=s,aj:=[(b,.box fz t)]})
   |none=>none
  |_=>none
 | .bX b al ai i path=>match H[b]? with
  |some (.arr k d c es)=>match es[i]? with
   |some x=>match eB x path with
    |some s=>some ((al=d/\ai=c)/\kindOf P T=ad s,{v:=s,aj:=[(b,.arr k d c es)]})
    |none=>none
   |none=>none
  |_=>none
 | .p (.cz t)=>some (kindOf P T=aL t,{v:=.p t})
 |_=>none
theorem VW{T:a1}{H:Heap}{a:AV}:Can (nD P T H a) (oS P T H a):=by
 intro K h;unfold oS at h;unfold nD
 split at h
 ·split at h
  ·rename_i b
   split at h
   ·rename_i hs;simp only[aZ]at h;simp only[b,hs];exact h
   ·exact h.elim
  ·exact h.elim
 ·split at h
  ·rename_i b
   split at h
   ·rename_i x hx;obtain⟨hi,hx⟩:=ck.1 hx
    split at h
    ·rename_i hs;simp only[aZ]at h;simp only[b];exact⟨h.1.1.1,h.1.1.2,hi,by rw[hx,hs];exact⟨h.1.2,h.2⟩⟩
    ·exact h.elim
   ·exact h.elim
  ·exact h.elim
 ·exact h
 ·exact h.elim
def oK(P:a6)(T:a1)(H:Heap)(a x:AV):ey:=
 match a with
 | .ptr b path=>match H[b]? with
  |some (.box false t)=>match eB t path,fB t path x with
   |some s,some d=>some ((kindOf P T=ad x/\ad x≠.bad)/\ad s=ad x,{v:=.p (.aC []),aj:=[(b,.box false t)],aK:=[(b,.box false d)]})
   |_,_=>none
  |_=>none
 | .bX b al ai i path=>match H[b]? with
  |some (.arr k e c es)=>match es[i]? with
   |some y=>match eB y path,fB y path x with
    |some s,some d=>some ((kindOf P T=ad x/\ad x≠.bad)/\(al=e/\ai=c/\k≠.frozen)/\ad s=ad x,{v:=.p (.aC []),aj:=[(b,.arr k e c es)],aK:=[(b,.arr k e c (es.set i d))]})
    |_,_=>none
   |none=>none
  |_=>none
 |_=>none
theorem UG{T:a1}{H:Heap}{a x:AV}:Can (nq P T H a x) (oK P T H a x):=by
 intro K h;unfold oK at h;unfold nq
 split at h
 ·split at h
  ·rename_i b
   split at h
   ·rename_i hs c;simp only[aZ]at h;simp only[b,hs,c];exact⟨h.1.1.1,h.1.1.2,h.1.2,h.2⟩
   ·exact h.elim
  ·exact h.elim
 ·split at h
  ·rename_i b
   split at h
   ·rename_i y d;obtain⟨hi,d⟩:=ck.1 d
    split at h
    ·rename_i hs c;simp only[aZ]at h;simp only[b];exact⟨h.1.1.1,h.1.1.2,h.1.2.1.1,h.1.2.1.2.1,h.1.2.1.2.2,hi,by rw[d,hs,c];exact⟨h.1.2.2,h.2⟩⟩
    ·exact h.elim
   ·exact h.elim
  ·exact h.elim
 ·exact h.elim
def n9(P:a6)(T:a1)(a:AV)(f:Nat):ey:=
 match fZ P T with
 |some (u,n)=>match a with
  | .ptr b path=>some (f<n,{v:=.ptr b (path++[(u,f)])})
  | .bX b al ai i path=>some (f<n,{v:=.bX b al ai i (path++[(u,f)])})
  | .p (.cz t)=>match(cE t)[f]? with
   |some g=>some (f<n/\aL t=.agg u,{v:=.p (.cz g)})
   |none=>none
  |_=>none
 |_=>none
theorem QT{T:a1}{a:AV}{f:Nat}:Can (mV P T a f) (n9 P T a f):=by
 intro K h;unfold n9 at h;unfold mV
 split at h
 ·rename_i hs;simp only[hs]
  split at h
  ·exact h
  ·exact h
  ·split at h
   ·rename_i b;simp only[aZ]at h;simp only[b];exact⟨h.1.1,h.1.2,h.2⟩
   ·exact h.elim
  ·exact h.elim
 ·exact h.elim
def n8(P:a6)(T:a1)(H:Heap)(x i:AV):ey:=
 match i with
 | .p (.int _ i)=>match x with
  | .p (.bw _ es)=>match es[i.toNat]? with
   |some y=>some (0<=i/\cN P T=some (bE P (aL y)),{v:=.p (.cz y)})
   |none=>none
  | .p (.seq es)=>match es[i.toNat]? with
   |some y=>some (0<=i/\cN P T=some (bE P (aL y)),{v:=.p (.cz y)})
   |none=>none
  | .sl b al ai off len=>match H[b]? with
   |some (.arr k c a es)=>some (0<=i/\cN P T=some ai/\i.toNat<len/\al=c/\ai=a/\¬(k.gr=true/\es=[]),{v:=.bX b al ai (off+i.toNat) [],aj:=[(b,.arr k c a es)]})
   |_=>none
  | .ptr b path=>match gM P T with
   |some (u,n)=>some (0<=i/\i.toNat<n,{v:=.ptr b (path++[(u,i.toNat)])})
   |_=>none
  | .bX b al ai j path=>match gM P T with
   |some (u,n)=>some (0<=i/\i.toNat<n,{v:=.bX b al ai j (path++[(u,i.toNat)])})
   |_=>none
  | .p (.cz t)=>match gM P T with
   |some (u,n)=>match(cE t)[i.toNat]? with
    |some g=>some (0<=i/\aL t=.agg u/\i.toNat<n,{v:=.p (.cz g)})
    |none=>none
   |_=>none
  |_=>none
 |_=>none
theorem QS{T:a1}{H:Heap}{x i:AV}:Can (mU P T H x i) (n8 P T H x i):=by
 intro K h;unfold n8 at h;unfold mU
 split at h
 case h_2=>exact h.elim
 split at h
 ·split at h
  ·rename_i y a;obtain⟨hi,a⟩:=ck.1 a;simp only[aZ]at h;exact⟨h.1.1,hi,by rw[a];exact h.1.2,by rw[a];exact h.2⟩
  ·exact h.elim
 ·split at h
  ·rename_i y a;obtain⟨hi,a⟩:=ck.1 a;simp only[aZ]at h;exact⟨h.1.1,hi,by rw[a];exact h.1.2,by rw[a];exact h.2⟩
  ·exact h.elim
 ·split at h
  ·rename_i l;simp only[aZ]at h;obtain⟨⟨b,c,d,e,f,g⟩,j⟩:=h;refine⟨b,c,d,?_⟩;rw[l];exact⟨e,f,g,j⟩
  ·exact h.elim
 ·split at h
  ·rename_i hs;simp only[aZ]at h;simp only[hs];exact⟨h.1.1,h.1.2,h.2⟩
  ·exact h.elim
 ·split at h
  ·rename_i hs;simp only[aZ]at h;simp only[hs];exact⟨h.1.1,h.1.2,h.2⟩
  ·exact h.elim
 ·split at h
  ·rename_i hs
   split at h
   ·rename_i k;simp only[aZ]at h;simp only[hs,k];exact⟨h.1.1,h.1.2.1,h.1.2.2,h.2⟩
   ·exact h.elim
  ·exact h.elim
 ·exact h.elim
end
section
variable{P:a6}{ag:a8->Bool}
def oJ(P:a6)(T X:a1)(H:Heap)(s x:AV):ey:=
 match cN P T,gA H x with
 |some sz,some xs=>match s with
  | .p .aG=>some ((ib P X=true/\(cK P (dQ P T)).isSome=true/\dV P sz xs)/\xs.length<=cT,
   if xs.isEmpty then{v:=s,aj:=dx H x}else{v:=.sl H.length 0 sz 0 xs.length,aj:=dx H x,aS:=[.arr (gk P T) 0 sz xs]})
  | .sl b al ai off len=>match H[b]? with
   |some (.arr k c a es)=>some ((ib P X=true/\(cK P (dQ P T)).isSome=true/\dV P sz xs)/\(al=c/\ai=a/\ai=sz/\off+len<=es.length)/\es.length+xs.length<=cT/\k≠ .frozen/\(k≠ .exact->off=0)/\(k= .bytes->dQ P T=Gl.u8),
    if xs.isEmpty then{v:=s,aj:=(b,.arr k c a es)::dx H x}
    else match k with
     | .exact=>if off+len+xs.length<=es.length then
      {v:=.sl b al ai off (len+xs.length),aj:=(b,.arr k c a es)::dx H x,aK:=[(b,.arr .exact al ai (es.take (off+len)++xs++es.drop (off+len+xs.length)))]}
      else{v:=.sl H.length 0 sz 0 (len+xs.length),aj:=(b,.arr k c a es)::dx H x,aS:=[.arr (gk P T) 0 sz ((es.drop off).take len++xs)]}
     |_=>{v:=.sl b (al+1) ai 0 (len+xs.length),aj:=(b,.arr k c a es)::dx H x,aK:=[(b,.arr k (al+1) ai (es.take len++xs))]})
   |_=>none
  |_=>none
 |_,_=>none
theorem Sp{T X:a1}{H:Heap}{s x:AV}:Can (mY P T X H s x) (oJ P T X H s x):=by
 intro K h;unfold oJ at h;unfold mY
 split at h
 case h_2=>exact h.elim
 rename_i sz p i j;simp only[i,j]
 split at h
 ·simp only[aZ]at h;obtain⟨⟨⟨b,a2,a3⟩,a4⟩,hk⟩:=h;refine⟨b,a2,a3,?_⟩;dsimp only
  split
  ·rename_i a;rw[if_pos a]at hk;exact hk
  ·rename_i a;rw[if_neg a]at hk;exact⟨a4,hk⟩
 ·split at h
  case h_2=>exact h.elim
  rename_i k o n m l;simp only[aZ]at h;obtain⟨⟨⟨b,a2,a3⟩,⟨rfl,rfl,e,f⟩,g,a9,c,d⟩,hk⟩:=h;refine⟨b,a2,a3,?_⟩;simp only[l];refine⟨trivial,trivial,e,f,?_⟩
  split
  ·rename_i a;rw[if_pos a]at hk;exact hk
  ·rename_i a;rw[if_neg a]at hk;refine⟨g,?_⟩;cases k with
   |frozen=>exact a9 rfl
   |exact=>
    simp only at hk⊢
    split
    ·rename_i hc;rw[if_pos hc]at hk;exact hk
    ·rename_i hc;rw[if_neg hc]at hk;exact hk
   |grow=>exact⟨c (by simp),fun h=>(by cases h),hk⟩
   |bytes=>exact⟨c (by simp),d,hk⟩
 ·exact h.elim
def jV(x:Option AV)(d:Nat):Option (Prop×Nat):=
 match x with
 |none=>some (True,d)
 |some (.p (.int _ i))=>some (0<=i,i.toNat)
 |_=>none
theorem mc{x:Option AV}{d n:Nat}{p:Prop}{K:Nat->Prop}(h:jV x d=some (p,n))(a:p)(hk:K n):fY x d K:=by
 unfold jV at h;unfold fY
 split at h
 ·simp only[fm,Prod.mk.injEq]at h;obtain⟨rfl,rfl⟩:=h;exact hk
 ·simp only[fm,Prod.mk.injEq]at h;obtain⟨rfl,rfl⟩:=h;exact⟨a,hk⟩
 ·cases h
def oM(P:a6)(T:a1)(H:Heap)(x:AV)(lo hi:Option AV):ey:=
 match x with
 | .p (.str s)=>match jV hi s.length,jV lo 0 with
  |some (p,h),some (q,l)=>some (gY P T=true/\p/\q/\h<=s.length/\l<=h,{v:=.p (.str ((s.take h).drop l))})
  |_,_=>none
 | .p .aG=>match jV hi 0,jV lo 0 with
  |some (p,h),some (q,l)=>some ((cN P T).isSome=true/\p/\q/\h<=0/\l<=h,{v:=.p .aG})
  |_,_=>none
 | .p (.bw full es)=>match jV hi es.length,jV lo 0,cN P T with
  |some (p,h),some (q,l),some sz=>some (p/\q/\h<=es.length/\l<=h/\dV P sz (es.map .p),{v:=.p (.bw (full&&h==es.length) ((es.take h).drop l))})
  |_,_,_=>none
 | .p (.seq es)=>match jV hi es.length,jV lo 0,cN P T with
  |some (p,h),some (q,l),some sz=>some (p/\q/\h<=es.length/\l<=h/\dV P sz (es.map .p),{v:=.p (.seq ((es.take h).drop l))})
  |_,_,_=>none
 | .sl b al ai off len=>match H[b]? with
  |some (.arr k c a es)=>match jV hi len,jV lo 0 with
   |some (p,h),some (q,l)=>some ((al=c/\ai=a/\cN P T=some ai/\¬(k.gr=true/\es=[])/\off+len<=es.length)/\p/\q/\off+h<=es.length/\l<=h,
    if l=0 then{v:=.sl b al ai off h,aj:=[(b,.arr k c a es)]}
    else if l=h then{v:=.p (.bw false []),aj:=[(b,.arr k c a es)]}
    else{v:=.sl b al ai (off+l) (h-l),aj:=[(b,.arr k c a es)]})
   |_,_=>none
  |_=>none
 |_=>none
theorem UH{T:a1}{H:Heap}{x:AV}{lo hi:Option AV}:Can (nr P T H x lo hi none) (oM P T H x lo hi):=by
 intro K h;unfold oM at h;unfold nr;refine⟨rfl,?_⟩
 split at h
 ·split at h
  case h_2=>exact h.elim
  rename_i a b;simp only[aZ]at h;obtain⟨⟨c,a2,a3,a4,a5⟩,hk⟩:=h;exact⟨c,mc a a2 (mc b a3 ⟨a4,a5,hk⟩)⟩
 ·split at h
  case h_2=>exact h.elim
  rename_i a b;simp only[aZ]at h;obtain⟨⟨c,a2,a3,a4,a5⟩,hk⟩:=h;exact⟨c,mc a a2 (mc b a3 ⟨a4,a5,hk⟩)⟩
 ·split at h
  case h_2=>exact h.elim
  rename_i a b e;simp only[aZ]at h;obtain⟨⟨a2,a3,a4,a5,d⟩,hk⟩:=h;refine mc a a2 (mc b a3 ⟨a4,a5,?_⟩);simp only[e];exact⟨d,hk⟩
 ·split at h
  case h_2=>exact h.elim
  rename_i a b e;simp only[aZ]at h;obtain⟨⟨a2,a3,a4,a5,d⟩,hk⟩:=h;refine mc a a2 (mc b a3 ⟨a4,a5,?_⟩);simp only[e];exact⟨d,hk⟩
 ·split at h
  case h_2=>exact h.elim
  rename_i i
  split at h
  case h_2=>exact h.elim
  rename_i a b;simp only[aZ]at h;obtain⟨⟨⟨c,a2,a3,a4,a5⟩,d,f,g,a9⟩,hk⟩:=h;simp only[i];refine⟨c,a2,a3,a4,a5,mc a d (mc b f ⟨g,a9,?_⟩)⟩
  split
  ·rename_i hc;rw[if_pos hc]at hk;exact hk
  ·rename_i hc;rw[if_neg hc]at hk
   split
   ·rename_i hc;rw[if_pos hc]at hk;exact hk
   ·rename_i hc;rw[if_neg hc]at hk;exact hk
 ·exact h.elim
def qu(P:a6)(T:a1)(H:Heap)(x key:AV)(ok:Bool):ey:=
 match iS P T,key with
 |some (a,E),.p key=>match cK P E with
  |some z=>match x with
   | .p .ff=>some (fc P a key=true,{v:=.p (if ok then .aC [z,.bool false]else z)})
   | .p (.eE es)=>match fE P a es key with
    |some r=>some (fc P a key=true,{v:= .p (match r with
      |some v=>if ok then .aC [v,.bool true]else v
      |none=>if ok then .aC [z,.bool false]else z)})
    |none=>none
   | .map b=>match H[b]? with
    |some (.map fz es)=>match fE P a es key with
     |some r=>some (fc P a key=true,{v:= .p (match r with
       |some v=>if ok then .aC [v,.bool true]else v
       |none=>if ok then .aC [z,.bool false]else z),aj:=[(b,.map fz es)]})
     |none=>none
    |_=>none
   |_=>none
  |none=>none
 |_,_=>none
def lM(P:a6)(T:a1)(H:Heap)(m k x:AV):ey:=
 match iS P T,m,k,x with
 |some (a,_),.map b,.p key,.p v=>match H[b]? with
  |some (.map false es)=>match lD P a es key with
   |some _=>some (fc P a key=true,{v:=.p (.aC []),aj:=[(b,.map false es)],aK:=[(b,.map false (fX es key v))]})
   |none=>none
  |_=>none
 |_,_,_,_=>none
def pX(P:a6)(T:a1)(n:Nat)(x:AV):ey:=
 match x with
 | .p (.str s)=>some (gY P T=true,{v:=.ptr n [],aS:=[.dv s 0]})
 |_=>none
def qB(H:Heap)(it:AV):ey:=
 match it with
 | .ptr b []=>match H[b]? with
  |some (.dv s pos)=>some (True,if pos<s.length then
   {v:=.p (.aC [.bool true,.int .i64 pos,.int .i32 (b4 (fS s) pos).1]),aj:=[(b,.dv s pos)],aK:=[(b,.dv s (pos+(b4 (fS s) pos).2))]}
   else{v:=.p (.aC [.bool false]),aj:=[(b,.dv s pos)]})
  |_=>none
 |_=>none
def qD(P:a6)(T:a1)(n:Nat)(l c:AV):ey:=
 match cN P T,cK P (dQ P T),l,c with
 |some sz,some z,.p (.int .i64 l),.p (.int .i64 c)=>some (bE P (aL z)=sz/\0<=l/\l=c/\l<=cT,{v:=.sl n 0 sz 0 l.toNat,aS:=[.arr .exact 0 sz (cx l.toNat (.p z))]})
 |_,_,_,_=>none
def copyV(P:a6)(T:a1)(H:Heap)(d x:AV):ey:=
 match cN P T,d,gA H x with
 |some sz,.sl b al ai off len,some xs=>match H[b]? with
  |some (.arr k c a es)=>some ((ai=sz/\dV P sz xs)/\al=c/\ai=a/\k≠ .frozen/\off+len<=es.length/\¬(k.gr=true/\es=[]),
   {v:=.p (.int .i64 (min xs.length len:Nat)),aj:=(b,.arr k c a es)::dx H x,aK:=[(b,.arr k c a (es.take off++xs.take (min xs.length len)++es.drop (off+min xs.length len)))]})
  |_=>none
 |_,_,_=>none
def pQ(x:AV):ey:=
 match x with
 | .ptr _ _| .bX _ _ _ _ _| .p (.cz _)=>some (True,{v:=x})
 |_=>none
def j0(b:Bool)(c:List AV):ey:=
 match c with
 | .p (.int k a)::r=>match lr k b r a with
  |some n=>some (True,{v:=.p (.int k n)})
  |none=>none
 |_=>none
def qq(f:a8)(fi ca:List AV):ey:=
 match eA fi,eA ca with
 |some a,some b=>some (True,{v:=.p (.func f a b)})
 |_,_=>some (True,{v:=.func f fi ca})
end
section
variable{P:a6}{ag:a8->Bool}
def qy(c a b:AV):ey:=
 match c with
 | .p (.bool t)=>some (True,{v:=if t then a else b})
 |_=>none
def qf(P:a6)(T:a1)(n:Nat):ey:=
 match cK P T with
 |some z=>some (kindOf P T=aL z/\aL z≠.bad/\iU T (aL z)=true,{v:=.ptr n [],aS:=[.box false (.p z)]})
 |none=>none
def sO(P:a6)(T:a1)(n:Nat)(x:AV):ey:=some (kindOf P T=ad x/\ad x≠.bad/\iU T (ad x)=true,{v:=.ptr n [],aS:=[.box false x]})
def qd(P:a6)(T:a1)(a:List (Nat×AV)):ey:=
 match kindOf P T,cK P T with
 | .agg u,some z=>match dH P u with
  |some l=>some (aL z=.agg u/\ln P l a,{v:=gN u (gX ((cE z).map .p) a)})
  |none=>none
 |_,_=>none
def px(P:a6)(T:a1)(n:Nat)(a:List (Nat×AV))(b:Nat):ey:=
 match cN P T,cK P (dQ P T)with
 |some sz,some z=>some (bE P (aL z)=sz/\n*sz<=1000000/\ln P (cx n sz) a,{v:=.sl b 0 sz 0 n,aS:=[.arr .exact 0 sz (gX (cx n (.p z)) a)]})
 |_,_=>none
def sW(op:bb)(k:bi)(a b:Int):Prop×PV:=
 match op with
 | .add=>(True,.int k (k.wrap (a+b)))
 | .sub=>(True,.int k (k.wrap (a-b)))
 | .mul=>(True,.int k (k.wrap (a*b)))
 | .quo=>(b≠0,.int k (k.wrap (a.tdiv b)))
 | .rem=>(b≠0,.int k (a.tmod b))
 | .and=>(True,.int k (k.wrap (ax k.bits a&&&ax k.bits b).toNat))
 | .or=>(True,.int k (k.wrap (ax k.bits a|||ax k.bits b).toNat))
 | .xor=>(True,.int k (k.wrap (ax k.bits a^^^ax k.bits b).toNat))
 | .andNot=>(True,.int k (k.wrap (ax k.bits a&&&~~~ax k.bits b).toNat))
 | .eql=>(True,.bool (a==b))
 | .neq=>(True,.bool (a !=b))
 | .lss=>(True,.bool (decide (a<b)))
 | .leq=>(True,.bool (decide (a<=b)))
 | .gtr=>(True,.bool (decide (a>b)))
 | .geq=>(True,.bool (decide (a>=b)))
 | .shl=>(0<=b,.int k (k.wrap (a*2^(min b.toNat k.bits))))
 | .shr=>(0<=b,.int k (a.fdiv (2^(min b.toNat k.bits))))
theorem Ym{op:bb}{k:bi}{a b:Int}{K:PV->Prop}(h:(sW op k a b).1)(hk:K (sW op k a b).2):oR op k a b K:=by
 cases op<;>simp only[sW,oR]at*<;>first|exact hk|exact⟨h,hk⟩
def Dr(op:bb)(a b:List Nat):Option (Prop×PV):=
 match op with
 | .add=>some (a.length+b.length<9223372036854775808,.str (a++b))
 | .eql=>some (True,.bool (a==b))
 | .neq=>some (True,.bool (!(a==b)))
 | .lss=>some (True,.bool (fN a b))
 | .leq=>some (True,.bool (fN a b||a==b))
 | .gtr=>some (True,.bool (!(fN a b||a==b)))
 | .geq=>some (True,.bool (!(fN a b)))
 |_=>none
def iT(P:a6)(op:bb)(T:a1)(c:Bool)(H:Heap)(x y:AV):ey:=
 match x,y with
 | .p (.int k a),.p (.int d b)=>some ((k=d\/op=.shl\/op=.shr)/\(sW op k a b).1,{v:=.p (sW op k a b).2})
 | .p (.str a),.p (.str b)=>match Dr op a b with
  |some (p,v)=>some (p,{v:=.p v})
  |none=>none
 | .p (.bool a),.p (.bool b)=>match op with
  | .eql=>some (pU P T=true,{v:=.p (.bool (a==b))})
  | .neq=>some (pU P T=true,{v:=.p (.bool (!(a==b)))})
  |_=>none
 | .p (.st u fs),.p (.st u' gs)=>match dC P 9 T (.st u fs) (.st u' gs),op with
  |some r,.eql=>some (lL P T=true,{v:=.p (.bool r)})
  |some r,.neq=>some (lL P T=true,{v:=.p (.bool !r)})
  |_,_=>none
 |x,y=>match di P T c y with
  |some k=>match cM H k x,op with
   |some r,.eql=>some (True,{v:=.p (.bool r),aj:=dx H x})
   |some r,.neq=>some (True,{v:=.p (.bool !r),aj:=dx H x})
   |_,_=>none
  |none=>none
theorem Ir{op:bb}{T:a1}{c:Bool}{H:Heap}{x y:AV}{k:tu}{K:PV->Prop}(hk:di P T c y=some k):jQ P op T c H x y K=(match cM H k x,op with
  |some r,.eql=>K (.bool r)
  |some r,.neq=>K (.bool !r)
  |_,_=>False):=by
 have a:=hk;rcases Hw hk with⟨rfl,rfl,_⟩|⟨rfl,rfl,_⟩|⟨rfl,rfl,_⟩|⟨rfl,rfl,_⟩|⟨rfl,rfl,_⟩
 all_goals
  unfold jQ;cases x with
  |p v=>
   cases v<;>simp only[a]<;>(generalize cM H _ _=r;cases r<;>cases op<;>rfl)
  |_=>simp only[a];(generalize cM H _ _=r;cases r<;>cases op<;>rfl)
theorem WR{op:bb}{T:a1}{c:Bool}{H:Heap}{x y:AV}:Can (fun K=>jQ P op T c H x y (fun v=>K {v:=.p v,aj:=dx H x})) (iT P op T c H x y):=by
 intro K h;unfold iT at h;unfold jQ
 split at h
 ·exact⟨h.1.1,Ym h.1.2 h.2⟩
 ·split at h
  ·rename_i p v a;simp only[aZ]at h;show oQ op _ _ _;unfold Dr at a
   split at a<;>first
    |(simp only[fm,Prod.mk.injEq]at a
      obtain⟨b,d⟩:=a;rw[<-b,<-d]at h;simp only[oQ]
      first|exact h.2|exact⟨h.1,h.2⟩)
    |cases a
  ·exact h.elim
 ·split at h
  ·exact⟨h.1,h.2⟩
  ·exact⟨h.1,h.2⟩
  ·exact h.elim
 ·split at h
  ·rename_i e;simp only[aZ]at h;simp only[e];exact⟨h.1,h.2⟩
  ·rename_i e;simp only[aZ]at h;simp only[e];exact⟨h.1,h.2⟩
  ·exact h.elim
 ·rename_i b d f g
  split at h
  case h_2=>exact h.elim
  rename_i k hk;clear b d f g;show jQ P op T c H x y _;rw[Ir hk];generalize cM H k x=q at h⊢;cases q<;>cases op<;>first|exact h.elim|exact h.2
def ri(op:UnOp)(x:AV):ey:=
 match op,x with
 | .not,.p (.bool b)=>some (True,{v:=.p (.bool (!b))})
 | .neg,.p (.int k n)=>some (True,{v:=.p (.int k (k.wrap (0-n)))})
 | .xor,.p (.int k n)=>some (True,{v:=.p (.int k (k.wrap (ax k.bits (if k.signed then -1 else k.max)^^^ax k.bits n).toNat))})
 |_,_=>none
def qo(P:a6)(S D:a1)(H:Heap)(x:AV):ey:=
 match P.underlying S,P.underlying D,x with
 |some _,some (.int k),.p (.int _ n)=>some (True,{v:=.p (.int k (k.wrap n))})
 |some _,some .string,.p (.str s)=>some (True,{v:=.p (.str s)})
 |some (.slice e),some .string,.sl b al ai off len=>match H[b]? with
  |some (.arr k c a es)=>match bytesOf ((es.drop off).take len)with
   |some l=>some ((al=c/\ai=a/\ai=1/\P.underlying e=some (.int .u8)/\0<len/\off+len<=es.length),{v:=.p (.str l),aj:=[(b,.arr k c a es)]})
   |none=>none
  |_=>none
 |_,_,_=>none
def pI(t:AV)(i:Nat):ey:=
 match t with
 | .p (.aC vs)=>match vs[i]? with
  |some v=>some (True,{v:=.p v})
  |none=>none
 | .aC vs=>match vs[i]? with
  |some v=>some (True,{v})
  |none=>none
 |_=>none
def qh(P:a6)(T:a1)(x i:AV):ey:=
 match x,i with
 | .p (.str s),.p (.int _ i)=>match s[i.toNat]? with
  |some c=>some (gY P T=true/\0<=i,{v:=.p (.int .u8 c)})
  |none=>none
 | .p (.st u es),.p (.int _ i)=>match gM P T,(je P u)[i.toNat]?,es[i.toNat]? with
  |some (u',n),some F,some g=>some (u'=u/\0<=i/\i.toNat<n/\kindOf P F=aL g,{v:=.p g})
  |_,_,_=>none
 |_,_=>none
def qR(P:a6)(T:a1)(n:Nat)(H:Heap)(x:AV):ey:=
 match lenOf H x with
 |some (m,aj)=>some (gI P T x=true/\0<n,{v:=.p (.int .i64 m),aj})
 |none=>none
def ka(P:a6)(ag:a8->Bool)(o:Oper)(e:Env)(H:Heap)(K:aU->Prop):Prop:=
 match o.op with
 | .move x| .assign x=>K {v:=ev e x}
 | .pick c a b=>aZ (qy (ev e c) (ev e a) (ev e b)) K
 | .alloc T=>aZ (qf P T H.length) K
 | .box T x=>aZ (sO P T H.length (ev e x)) K
 | .build T parts=>aZ (qd P T (parts.toList.map fun(i,x)=>(i,ev e x))) K
 | .buildSlice T n parts=>aZ (px P T n (parts.toList.map fun(i,x)=>(i,ev e x)) H.length) K
 | .load T a=>aZ (oS P T H (ev e a)) K
 | .store T a x=>aZ (oK P T H (ev e a) (ev e x)) K
 | .binOp op T x y _=>aZ (iT P op T (lN y) H (ev e x) (ev e y)) K
 | .unOp op _ x=>aZ (ri op (ev e x)) K
 | .convert S D x=>aZ (qo P S D H (ev e x)) K
 | .extract t i=>aZ (pI (ev e t) i) K
 | .fieldAddr T a f=>aZ (n9 P T (ev e a) f) K
 | .indexAddr T x i=>aZ (n8 P T H (ev e x) (ev e i)) K
 | .index T x i=>aZ (qh P T (ev e x) (ev e i)) K
 | .slice T x lo hi none=>aZ (oM P T H (ev e x) (lo.map (ev e)) (hi.map (ev e))) K
 | .lookup T x i ok=>aZ (qu P T H (ev e x) (ev e i) ok) K
 | .mapUpdate T m k x| .insert T m k x=>aZ (lM P T H (ev e m) (ev e k) (ev e x)) K
 | .range T x=>aZ (pX P T H.length (ev e x)) K
 | .next it true=>aZ (qB H (ev e it)) K
 | .makeSlice T l c=>aZ (qD P T H.length (ev e l) (ev e c)) K
 | .nilCheck x=>aZ (pQ (ev e x)) K
 | .call c=>match c.callee with
  | .builtin .len=>(match c.args.toList with
   |[x]=>aZ (qR P (c.argTypes.getD 0 0) c.argTypes.size H (ev e x)) K
   |_=>False)
  | .builtin .append=>(match c.args.toList with
   |[s,x]=>c.argTypes.size=2/\aZ (oJ P (c.argTypes.getD 0 0) (c.argTypes.getD 1 0) H (ev e s) (ev e x)) K
   |_=>False)
  | .builtin .copy=>(match c.args.toList with
   |[d,x]=>c.argTypes.size=2/\aZ (copyV P (c.argTypes.getD 0 0) H (ev e d) (ev e x)) K
   |_=>False)
  | .builtin .min=>aZ (j0 false (c.args.toList.map (ev e))) K
  | .builtin .max=>aZ (j0 true (c.args.toList.map (ev e))) K
  |_=>fh P ag o (ev e) H K
 |_=>fh P ag o (ev e) H K
theorem L6{o:Oper}{e:Env}{H:Heap}{K:aU->Prop}(h:ka P ag o e H K):fh P ag o (ev e) H K:=by
 unfold ka at h;unfold fh;cases w:o.op<;>simp only[w]at h<;>simp only
 case move|assign=>exact h
 case pick c a b=>
  unfold qy at h
  split at h
  ·rename_i hc;simp only[hc];exact h.2
  ·exact h.elim
 case alloc T=>
  unfold qf at h
  split at h
  ·rename_i v;simp only[aZ]at h;simp only[v];exact⟨h.1.1,h.1.2.1,h.1.2.2,h.2⟩
  ·exact h.elim
 case box T x=>exact⟨h.1.1,h.1.2.1,h.1.2.2,h.2⟩
 case build T parts=>
  unfold qd at h
  split at h
  ·rename_i hk v
   split at h
   ·rename_i hl;simp only[aZ]at h;simp only[hk,v,hl];exact⟨h.1.1,h.1.2,h.2⟩
   ·exact h.elim
  ·exact h.elim
 case buildSlice T n parts=>
  unfold px at h
  split at h
  ·rename_i hk v;simp only[aZ]at h;simp only[hk,v];exact⟨h.1.1,h.1.2.1,h.1.2.2,h.2⟩
  ·exact h.elim
 case load T a=>exact VW K h
 case store T a x=>exact UG K h
 case binOp op T x y N=>exact WR K h
 case unOp op T x=>
  unfold ri at h
  split at h
  ·rename_i hx;simp only[hx];exact h.2
  ·rename_i hx;simp only[hx];exact h.2
  ·rename_i hx;simp only[hx];exact h.2
  ·exact h.elim
 case convert S D x=>
  unfold qo at h
  split at h
  ·rename_i g j p;simp only[g,j,p];exact h.2
  ·rename_i g j p;simp only[g,j,p];exact h.2
  ·rename_i g j p
   split at h
   ·rename_i q
    split at h
    ·rename_i hl;obtain⟨⟨A,a2,a3,a4,a5,B⟩,h⟩:=h;simp only[g,j,p,q,hl];exact⟨A,a2,a3,a4,a5,B,h⟩
    ·exact h.elim
   ·exact h.elim
  ·exact h.elim
 case extract t i=>
  unfold pI at h
  split at h
  ·rename_i E
   split at h
   ·rename_i F;simp only[E,F];exact h.2
   ·exact h.elim
  ·rename_i E
   split at h
   ·rename_i F;simp only[E,F];exact h.2
   ·exact h.elim
  ·exact h.elim
 case fieldAddr T a f=>exact QT K h
 case indexAddr T x i=>exact QS K h
 case index T x i=>
  unfold qh at h
  split at h
  ·rename_i hx hi
   split at h
   ·rename_i c hc;obtain⟨J,rfl⟩:=ck.1 hc;simp only[hx,hi];exact⟨h.1.1,h.1.2,J,h.2⟩
   ·exact h.elim
  ·rename_i hx hi
   split at h
   ·rename_i g j p;obtain⟨⟨g1,g2,g3,g4⟩,h⟩:=h;simp only[hx,hi,g,j,p];exact⟨g1,g2,g3,g4,h⟩
   ·exact h.elim
  ·exact h.elim
 case slice T x lo hi M=>
  cases M with
  |none=>exact UH K h
  |some m=>simp only[fh,w]at h;exact h
 case lookup T x i ok=>
  unfold qu at h
  split at h
  case h_2=>exact h.elim
  rename_i L hi;simp only[L,hi]
  split at h
  case h_2=>exact h.elim
  rename_i z v;simp only[v]
  split at h
  ·rename_i hx;simp only[hx];exact h
  ·rename_i O hx;simp only[hx]
   split at h
   case h_2=>exact h.elim
   rename_i r u;refine⟨h.1,?_⟩;simp only[u];cases r<;>exact h.2
  ·rename_i b hx;simp only[hx]
   split at h
   case h_2=>exact h.elim
   rename_i q
   split at h
   case h_2=>exact h.elim
   rename_i r u;refine⟨h.1,?_⟩;simp only[q,u];cases r<;>exact h.2
  ·exact h.elim
 case mapUpdate T m k x|insert T m k x=>
  unfold lM at h
  split at h
  case h_2=>exact h.elim
  rename_i g j p C;simp only[g,j,p,C]
  split at h
  case h_2=>exact h.elim
  rename_i q
  split at h
  case h_2=>exact h.elim
  rename_i u;refine⟨h.1,?_⟩;simp only[q,u];exact h.2
 case range T x=>
  unfold pX at h
  split at h
  ·rename_i hx;simp only[hx];exact h
  ·exact h.elim
 case next it s=>
  cases s with
  |false=>simp only[fh,w]at h
  |true=>
   dsimp only at h⊢;unfold qB at h
   split at h
   case h_2=>exact h.elim
   rename_i hx;simp only[hx]
   split at h
   case h_2=>exact h.elim
   rename_i q;simp only[q];have h:=h.2
   split
   ·rename_i hc;rw[if_pos hc]at h;exact h
   ·rename_i hc;rw[if_neg hc]at h;exact h
 case makeSlice T l c=>
  unfold qD at h
  split at h
  ·rename_i g j p C;simp only[g,j,p,C];exact⟨h.1.1,h.1.2.1,h.1.2.2.1,h.1.2.2.2,h.2⟩
  ·exact h.elim
 case nilCheck x=>
  unfold pQ at h
  split at h
  ·rename_i hx;simp only[hx];rw[hx]at h;exact h.2
  ·rename_i hx;simp only[hx];rw[hx]at h;exact h.2
  ·rename_i hx;simp only[hx];rw[hx]at h;exact h.2
  ·exact h.elim
 case call c=>
  split at h
  ·rename_i hc
   split at h
   ·rename_i x hx;unfold qR at h
    split at h
    ·rename_i hl;simp only[aZ]at h;simp only[hc,hx,da,dq,hl];exact⟨h.1.1,h.1.2,h.2⟩
    ·exact h.elim
   ·exact h.elim
  ·rename_i hc
   split at h
   ·rename_i s x hx;simp only[hc,hx,da,dq];exact⟨h.1,Sp K h.2⟩
   ·exact h.elim
  ·rename_i hc
   split at h
   ·rename_i d x hx;simp only[hc,hx,da,dq];obtain⟨I,h⟩:=h;unfold copyV at h
    split at h
    case h_2=>exact h.elim
    rename_i g j p
    split at h
    case h_2=>exact h.elim
    rename_i q;simp only[aZ]at h;obtain⟨⟨⟨A,a2⟩,a3,a4,a5,B,G⟩,hk⟩:=h;simp only[g,j,p,q];exact⟨A,a2,I,a3,a4,a5,B,G,hk⟩
   ·exact h.elim
  ·rename_i hc;unfold j0 at h
   split at h
   case h_2=>exact h.elim
   rename_i hx
   split at h
   case h_2=>exact h.elim
   rename_i u;simp only[hc,hx,u];exact h.2
  ·rename_i hc;unfold j0 at h
   split at h
   case h_2=>exact h.elim
   rename_i hx
   split at h
   case h_2=>exact h.elim
   rename_i u;simp only[hc,hx,u];exact h.2
  ·unfold fh at h;simp only[w]at h;exact h
 all_goals first
  |exact h
  |(unfold fh at h
    simp only[w]at h;exact h)
  |(unfold fh at h
    simp only[w]at h)
end
section
variable{P:a6}{ag:a8->Bool}
def dX(dst:Option Tmp)(s:St)(K:St->Prop)(e:aU):Prop:=K (e.app dst s)
def ze(dst:Option Tmp)(s:St)(K:St->Prop)(v:AV)(H:Heap):Prop:=K ⟨put dst v s.env,H⟩
def qp(P:a6)(f:AV)(args:List AV)(H:Heap)(K:AV->Heap->Prop):Prop:=
 match f with
 | .p (.func g fi ca)=>gE P false g (fi.map .p++args++ca.map .p) H K
 | .func g fi ca=>gE P false g (fi++args++ca) H K
 | .map b=>∃H' v,ia P b H args H' v/\K v H'
 |_=>False
def qc(P:a6)(f:AV)(args:List AV)(H:Heap)(K:aU->Prop):Prop:=
 match f with
 | .p (.func g fi ca)=>gL P g (fi.map .p++args++ca.map .p) H K
 | .func g fi ca=>gL P g (fi++args++ca) H K
 | .map b=>∃e,sv P b args H.length e/\oU H e/\K e
 |_=>False
def dj(P:a6)(ag:a8->Bool)(o:Oper)(K:St->Prop)(s:St):Prop:=
 match o.op with
 | .call {callee:=.value f,args,.. }=>qp P (ev s.env f) (args.toList.map (ev s.env)) s.heap (ze o.dst s K)
 |_=>ka P ag o s.env s.heap (dX o.dst s K)
def dm(P:a6)(ag:a8->Bool)(o:Oper)(s:St)(K:aU->Prop):Prop:=
 match o.op with
 | .call {callee:=.value f,args,.. }=>qc P (ev s.env f) (args.toList.map (ev s.env)) s.heap K
 |_=>ka P ag o s.env s.heap K
theorem TT{o:Oper}{K:St->Prop}{s:St}(h:dj P ag o K s):jl P ag false o K s:=by
 unfold dj at h;unfold jl
 split at h
 ·rename_i f args b a;simp only[a];unfold qp at h
  split at h
  ·rename_i hf;simp only[hf];exact h
  ·rename_i hf;simp only[hf];exact h
  ·rename_i hf;simp only[hf];exact h
  ·exact h.elim
 ·rename_i c
  split
  ·rename_i f args b a;exact(c _ _ _ a).elim
  ·exact L6 h
theorem T3{o:Oper}{K:aU->Prop}{s:St}(h:dm P ag o s K):iW P ag o s K:=by
 unfold dm at h;unfold iW
 split at h
 ·rename_i f args b a;simp only[a];unfold qc at h
  split at h
  ·rename_i hf;simp only[hf];exact h
  ·rename_i hf;simp only[hf];exact h
  ·rename_i hf;simp only[hf];exact h
  ·exact h.elim
 ·rename_i c
  split
  ·rename_i f args b a;exact(c _ _ _ a).elim
  ·exact L6 h
def fG(P:a6)(ag:a8->Bool)(a:Array Oper):List Oper->(St->Prop)->St->Prop
 |[],K,s=>K s
 |o::r,K,s=>match o.guard with
  |none=>dj P ag o (fG P ag a r K) s
  |some (j,want)=>match guardOf a j s.env with
   | .p (.bool t)=>if t=want then dj P ag o (fG P ag a r K) s else fG P ag a r K ⟨put o.dst (.p (.aC [])) s.env,s.heap⟩
   | .p (.aC [])=>fG P ag a r K ⟨put o.dst (.p (.aC [])) s.env,s.heap⟩
   |_=>False
def fP(P:a6)(ag:a8->Bool)(a:Array Oper):List Oper->Nat->List Touch->(St->Prop)->St->Prop
 |[],_,acc,K,s=>jJ a acc=true/\K s
 |o::r,i,acc,K,s=>match o.guard with
  |none=>dm P ag o s fun e=>fP P ag a r (i+1) (gF i s.heap.length e acc) K (e.app o.dst s)
  |some (j,want)=>match guardOf a j s.env with
   | .p (.bool t)=>if t=want then dm P ag o s fun e=>fP P ag a r (i+1) (gF i s.heap.length e acc) K (e.app o.dst s)
    else fP P ag a r (i+1) acc K ⟨put o.dst (.p (.aC [])) s.env,s.heap⟩
   | .p (.aC [])=>fP P ag a r (i+1) acc K ⟨put o.dst (.p (.aC [])) s.env,s.heap⟩
   |_=>False
theorem xM{b:Array Oper}:∀(l:List Oper){K a:St->Prop}{s:St},(∀s,K s->a s)->fG P ag b l K s->gG P ag false b l a s
 |[],K,a,s,hk,h=>by simp only[fG]at h;simp only[gG];exact hk s h
 |o::l,K,a,s,hk,h=>by
  have go:dj P ag o (fG P ag b l K) s->jl P ag false o (gG P ag false b l a) s:=fun h=>by
   obtain⟨t,f,g⟩:=H7 false o s _ (TT h);exact g _ (xM l hk f)
  simp only[fG]at h;simp only[gG]
  split at h
  ·rename_i c;simp only[c];exact go h
  ·rename_i j i c;simp only[c]
   split at h
   ·rename_i t d;simp only[d]
    split at h
    ·rename_i e;rw[if_pos e];exact go h
    ·rename_i e;rw[if_neg e];exact xM l hk h
   ·rename_i d;simp only[d];exact xM l hk h
   ·exact h.elim
theorem xd{c:Array Oper}:∀(l:List Oper){i:Nat}{a:List Touch}{K b:St->Prop}{s:St},(∀s,K s->b s)->fP P ag c l i a K s->fO P ag c l i a b s
 |[],i,a,K,b,s,hk,h=>by simp only[fP]at h;simp only[fO];exact⟨h.1,hk s h.2⟩
 |o::l,i,a,K,b,s,hk,h=>by
  have go:dm P ag o s (fun e=>fP P ag c l (i+1) (gF i s.heap.length e a) K (e.app o.dst s))->iW P ag o s (fun e=>fO P ag c l (i+1) (gF i s.heap.length e a) b (e.app o.dst s)):=fun h=>by
   obtain⟨e,k,m⟩:=H8 o s _ (T3 h);exact m _ (xd l hk k)
  simp only[fP]at h;simp only[fO]
  split at h
  ·rename_i d;simp only[d];exact go h
  ·rename_i j n d;simp only[d]
   split at h
   ·rename_i t f;simp only[f]
    split at h
    ·rename_i g;rw[if_pos g];exact go h
    ·rename_i g;rw[if_neg g];exact xd l hk h
   ·rename_i f;simp only[f];exact xd l hk h
   ·exact h.elim
def sD(v:AV)(a b:St->Prop)(s:St):Prop:=
 match v with
 | .p (.bool t)=>if t then a s else b s
 |_=>False
def tf(K:St->Prop)(Q:bn->St->Prop)(e:bn)(s:St):Prop:=
 match e with
 | .normal=>K s
 |e=>Q e s
def dh(P:a6)(ag:a8->Bool)(q:Cx):Code->(bn->St->Prop)->St->Prop
 | .skip,Q,s| .label _,Q,s=>Q .normal s
 | .region _ ops draw,Q,s=>if draw then fP P ag ops ops.toList 0 [] (Q .normal) s else fG P ag ops ops.toList (Q .normal) s
 | .seq a b,Q,s=>dh P ag q a (tf (dh P ag q b Q) Q) s
 | .cond c a b,Q,s=>sD (ev s.env c) (dh P ag q a Q) (dh P ag q b Q) s
 | .block id b,Q,s=>dh P ag q b (nB id Q) s
 | .scope b,Q,s=>dh P ag q b Q s
 | .loop b,Q,s=>∃I:Nat->St->Prop,(∃n t,dJ q.2 s t/\I n t)/\∀n t,I n t->dh P ag q b (sy q.2 n I Q) t
 | .rangeFunc f d a b,Q,s=>q.2<=s.heap.length/\jw P (ev s.env f) s.heap.length (s.heap++[.loop ⟨.ready,none,q.1,d.toList,a,b,s.env⟩]) (iE s.heap.length s.env Q)
 | .exit id,Q,s=>Q (.exit id) s
 | .ret,Q,s=>Q .ret s
 |_,_,_=>False
theorem Uc{Q a:bn->St->Prop}(hq:∀e s,Q e s->a e s){j:Option Code}{s:St}(h:jP Q j s):jP a j s:=by
 unfold jP at h⊢
 split at h
 ·exact hq _ _ h
 ·exact hq _ _ h
 ·exact hq _ _ h
 ·exact h.elim
theorem HN{Q a:bn->St->Prop}(hq:∀e s,Q e s->a e s){b:Nat}{env:Env}{H:Heap}(h:iE b env Q H):iE b env a H:=by
 unfold iE at h⊢
 split at h
 ·exact⟨h.1,Uc hq h.2⟩
 ·exact h.elim
theorem HK{it:AV}{b:Nat}{H:Heap}{K d:Heap->Prop}(hk:∀H,K H->d H)(h:jw P it b H K):jw P it b H d:=by
 unfold jw at h⊢
 split at h
 ·obtain⟨H',v,a,c⟩:=h;exact⟨H',v,a,hk _ c⟩
 ·obtain⟨H',v,a,c⟩:=h;exact⟨H',v,a,hk _ c⟩
 ·exact h.elim
theorem kY{q:Cx}:∀(c:Code){Q Q':bn->St->Prop}{s:St},(∀e s,Q e s->Q' e s)->dh P ag q c Q s->b6 P ag q c Q' s
 | .skip,Q,Q',s,hq,h| .label _,Q,Q',s,hq,h=>by simp only[dh]at h;simp only[b6];exact hq _ _ h
 | .exit _,Q,Q',s,hq,h| .ret,Q,Q',s,hq,h=>by simp only[dh]at h;simp only[b6];exact hq _ _ h
 | .region id ops draw,Q,Q',s,hq,h=>by
  simp only[dh]at h;simp only[b6]
  split at h
  ·rename_i j;rw[if_pos j];exact xd _ (hq _) h
  ·rename_i j;rw[if_neg j];exact xM _ (hq _) h
 | .seq a b,Q,Q',s,hq,h=>by
  simp only[dh]at h;simp only[b6];refine kY a (fun e s d=>?_) h;cases e with
  |normal=>exact kY b hq d
  |exit id=>exact hq _ _ d
  |ret=>exact hq _ _ d
 | .cond c a b,Q,Q',s,hq,h=>by
  simp only[dh]at h;simp only[b6];unfold sD at h
  split at h
  ·rename_i t m;simp only[m]
   split at h
   ·rename_i g;rw[if_pos g];exact kY a hq h
   ·rename_i g;rw[if_neg g];exact kY b hq h
  ·exact h.elim
 | .block id b,Q,Q',s,hq,h=>by
  simp only[dh]at h;simp only[b6];refine kY b (fun e s d=>?_) h;cases e with
  |normal=>exact hq _ _ d
  |exit i=>
   simp only[nB]at d
   by_cases hi:i=id
   ·simp only[hi,if_true]at d⊢;exact hq _ _ d
   ·simp only[hi,if_false]at d⊢;exact hq _ _ d
  |ret=>exact hq _ _ d
 | .scope b,Q,Q',s,hq,h=>by simp only[dh]at h;simp only[b6];exact kY b hq h
 | .loop b,Q,Q',s,hq,h=>by
  simp only[dh]at h;simp only[b6];obtain⟨I,k,l⟩:=h;refine⟨I,k,fun n t hI=>kY b (fun e s d=>?_) (l n t hI)⟩;cases e with
  |normal=>exact d
  |exit id=>exact hq _ _ d
  |ret=>exact hq _ _ d
 | .rangeFunc f o a b,Q,Q',s,hq,h=>by
  simp only[dh]at h;simp only[b6];exact⟨h.1,s.env,fun _=>rfl,HK (fun H=>HN hq) h.2⟩
 | .goto _,_,_,_,_,h| .refuse _,_,_,_,_,h=>by simp[dh]at h
end
section
variable{P:a6}{ag:a8->Bool}{q:Cx}
theorem LA{Q:bn->St->Prop}{s:St}:dh P ag q .skip Q s=Q .normal s:=(rfl)
theorem Km{l:Nat}{Q:bn->St->Prop}{s:St}:dh P ag q (.label l) Q s=Q .normal s:=(rfl)
theorem LB{id:Nat}{Q:bn->St->Prop}{s:St}:dh P ag q (.exit id) Q s=Q (.exit id) s:=(rfl)
theorem O6{Q:bn->St->Prop}{s:St}:dh P ag q .ret Q s=Q .ret s:=(rfl)
theorem Kk{b:Code}{Q:bn->St->Prop}{s:St}:dh P ag q (.scope b) Q s=dh P ag q b Q s:=(rfl)
theorem LC{id:Nat}{l:List Oper}{Q:bn->St->Prop}{s:St}:dh P ag q (.region id l.toArray true) Q s=fP P ag l.toArray l 0 [] (Q .normal) s:=by simp[dh]
theorem Kl{id:Nat}{l:List Oper}{Q:bn->St->Prop}{s:St}:dh P ag q (.region id l.toArray false) Q s=fG P ag l.toArray l (Q .normal) s:=by simp[dh]
theorem O7{a b:Code}{Q:bn->St->Prop}{s:St}:dh P ag q (.seq a b) Q s=dh P ag q a (tf (dh P ag q b Q) Q) s:=(rfl)
theorem Kn{id:Nat}{b:Code}{Q:bn->St->Prop}{s:St}:dh P ag q (.block id b) Q s=dh P ag q b (nB id Q) s:=(rfl)
theorem LD{c:a7}{a b:Code}{Q:bn->St->Prop}{s:St}:dh P ag q (.cond c a b) Q s=sD (ev s.env c) (dh P ag q a Q) (dh P ag q b Q) s:=(rfl)
theorem GI{K:St->Prop}{Q:bn->St->Prop}{s:St}:tf K Q .normal s=K s:=(rfl)
theorem Ia{id:Nat}{K:St->Prop}{Q:bn->St->Prop}{s:St}:tf K Q (.exit id) s=Q (.exit id) s:=(rfl)
theorem I6{K:St->Prop}{Q:bn->St->Prop}{s:St}:tf K Q .ret s=Q .ret s:=(rfl)
theorem G6{t:Bool}{a b:St->Prop}{s:St}:sD (.p (.bool t)) a b s=if t then a s else b s:=(rfl)
def u9(P:a6)(ag:a8->Bool)(b:Array Oper)(r:List Oper)(i:Nat)(a:List Touch)(K:St->Prop)(dst:Option Tmp)(s:St)(e:aU):Prop:=
 fP P ag b r (i+1) (gF i s.heap.length e a) K (e.app dst s)
theorem Jx{b:Array Oper}{r:List Oper}{i:Nat}{a:List Touch}{K:St->Prop}{dst:Option Tmp}{env:Env}{heap:Heap}{v:AV}{aj aK:List (Nat×Obj)}{aS:List Obj}:
 u9 P ag b r i a K dst ⟨env,heap⟩ ⟨v,aj,aK,aS⟩=fP P ag b r (i+1) (gF i heap.length ⟨v,aj,aK,aS⟩ a) K ⟨put dst v env,bd heap aK++aS⟩:=(rfl)
theorem Ld{dst:Option Tmp}{env:Env}{heap:Heap}{K:St->Prop}{v:AV}{aj aK:List (Nat×Obj)}{aS:List Obj}:dX dst ⟨env,heap⟩ K ⟨v,aj,aK,aS⟩=K ⟨put dst v env,bd heap aK++aS⟩:=(rfl)
theorem KH{dst:Option Tmp}{env:Env}{heap H:Heap}{K:St->Prop}{v:AV}:ze dst ⟨env,heap⟩ K v H=K ⟨put dst v env,H⟩:=(rfl)
def xQ(P:a6)(ag:a8->Bool)(b:Array Oper)(o:Oper)(r:List Oper)(i:Nat)(a:List Touch)(K:St->Prop)(c:Bool)(s:St)(g:AV):Prop:=
 match g with
 | .p (.bool t)=>if t=c then dm P ag o s (u9 P ag b r i a K o.dst s)else fP P ag b r (i+1) a K ⟨put o.dst (.p (.aC [])) s.env,s.heap⟩
 | .p (.aC [])=>fP P ag b r (i+1) a K ⟨put o.dst (.p (.aC [])) s.env,s.heap⟩
 |_=>False
def yg(P:a6)(ag:a8->Bool)(a:Array Oper)(o:Oper)(r:List Oper)(K:St->Prop)(b:Bool)(s:St)(g:AV):Prop:=
 match g with
 | .p (.bool t)=>if t=b then dj P ag o (fG P ag a r K) s else fG P ag a r K ⟨put o.dst (.p (.aC [])) s.env,s.heap⟩
 | .p (.aC [])=>fG P ag a r K ⟨put o.dst (.p (.aC [])) s.env,s.heap⟩
 |_=>False
theorem Lz{b:Array Oper}{i:Nat}{a:List Touch}{K:St->Prop}{s:St}:fP P ag b [] i a K s=(jJ b a=true/\K s):=(rfl)
theorem Kj{b:Array Oper}{i c:Nat}{pos:String}{a:List Touch}{K:St->Prop}{s:St}{dst:Option Tmp}{op:Op}{af:Array Edge}{r:List Oper}:
 fP P ag b ({dst,op,type:=c,pos,after:=af,guard:=none}::r) i a K s=dm P ag {dst,op,type:=c,pos,after:=af,guard:=none} s (u9 P ag b r i a K dst s):=(rfl)
theorem Jb{a:Array Oper}{i d j:Nat}{b:Bool}{pos:String}{c:List Touch}{K:St->Prop}{s:St}{dst:Option Tmp}{op:Op}{af:Array Edge}{r:List Oper}:
 fP P ag a ({dst,op,type:=d,pos,after:=af,guard:=some (j,b)}::r) i c K s=xQ P ag a {dst,op,type:=d,pos,after:=af,guard:=some (j,b)} r i c K b s (guardOf a j s.env):=(rfl)
theorem Lx{a:Array Oper}{K:St->Prop}{s:St}:fG P ag a [] K s=K s:=(rfl)
theorem Kh{a:Array Oper}{b:Nat}{pos:String}{K:St->Prop}{s:St}{dst:Option Tmp}{op:Op}{af:Array Edge}{r:List Oper}:
 fG P ag a ({dst,op,type:=b,pos,after:=af,guard:=none}::r) K s=dj P ag {dst,op,type:=b,pos,after:=af,guard:=none} (fG P ag a r K) s:=(rfl)
theorem Ja{a:Array Oper}{c j:Nat}{b:Bool}{pos:String}{K:St->Prop}{s:St}{dst:Option Tmp}{op:Op}{af:Array Edge}{r:List Oper}:
 fG P ag a ({dst,op,type:=c,pos,after:=af,guard:=some (j,b)}::r) K s=yg P ag a {dst,op,type:=c,pos,after:=af,guard:=some (j,b)} r K b s (guardOf a j s.env):=(rfl)
end
section CR
variable{P:a6}{ag:a8->Bool}{q:Cx}
end CR
section ops
variable{P:a6}{ag:a8->Bool}{dst:Option Tmp}{ty:Nat}{pos:String}{af:Array Edge}{g:Option (Nat×Bool)}{env:Env}{heap:Heap}{K:aU->Prop}{L:St->Prop}
theorem Mx{x:a7}:dm P ag ⟨dst,.move x,ty,pos,af,g⟩ ⟨env,heap⟩ K=K {v:=ev env x}:=(rfl)
theorem Jv{x:a7}:dm P ag ⟨dst,.assign x,ty,pos,af,g⟩ ⟨env,heap⟩ K=K {v:=ev env x}:=(rfl)
theorem Mv{c a b:a7}:dm P ag ⟨dst,.pick c a b,ty,pos,af,g⟩ ⟨env,heap⟩ K=aZ (qy (ev env c) (ev env a) (ev env b)) K:=(rfl)
theorem K0{T:a1}:dm P ag ⟨dst,.alloc T,ty,pos,af,g⟩ ⟨env,heap⟩ K=aZ (qf P T heap.length) K:=(rfl)
theorem M8{T:a1}{x:a7}:dm P ag ⟨dst,.box T x,ty,pos,af,g⟩ ⟨env,heap⟩ K=aZ (sO P T heap.length (ev env x)) K:=(rfl)
theorem KZ{T:a1}{a:Array (Nat×a7)}:dm P ag ⟨dst,.build T a,ty,pos,af,g⟩ ⟨env,heap⟩ K=aZ (qd P T (a.toList.map fun(i,x)=>(i,ev env x))) K:=(rfl)
theorem Gj{T:a1}{n:Nat}{a:Array (Nat×a7)}:dm P ag ⟨dst,.buildSlice T n a,ty,pos,af,g⟩ ⟨env,heap⟩ K=aZ (px P T n (a.toList.map fun(i,x)=>(i,ev env x)) heap.length) K:=(rfl)
theorem Me{T:a1}{a:a7}:dm P ag ⟨dst,.load T a,ty,pos,af,g⟩ ⟨env,heap⟩ K=aZ (oS P T heap (ev env a)) K:=(rfl)
theorem KU{T:a1}{a x:a7}:dm P ag ⟨dst,.store T a x,ty,pos,af,g⟩ ⟨env,heap⟩ K=aZ (oK P T heap (ev env a) (ev env x)) K:=(rfl)
theorem M7{op:bb}{T a:a1}{x y:a7}:dm P ag ⟨dst,.binOp op T x y a,ty,pos,af,g⟩ ⟨env,heap⟩ K=aZ (iT P op T (lN y) heap (ev env x) (ev env y)) K:=(rfl)
theorem Nc{op:UnOp}{T:a1}{x:a7}:dm P ag ⟨dst,.unOp op T x,ty,pos,af,g⟩ ⟨env,heap⟩ K=aZ (ri op (ev env x)) K:=(rfl)
theorem Mg{S D:a1}{x:a7}:dm P ag ⟨dst,.convert S D x,ty,pos,af,g⟩ ⟨env,heap⟩ K=aZ (qo P S D heap (ev env x)) K:=(rfl)
theorem ID{t:a7}{i:Nat}:dm P ag ⟨dst,.extract t i,ty,pos,af,g⟩ ⟨env,heap⟩ K=aZ (pI (ev env t) i) K:=(rfl)
theorem GK{T:a1}{a:a7}{f:Nat}:dm P ag ⟨dst,.fieldAddr T a f,ty,pos,af,g⟩ ⟨env,heap⟩ K=aZ (n9 P T (ev env a) f) K:=(rfl)
theorem GJ{T:a1}{x i:a7}:dm P ag ⟨dst,.indexAddr T x i,ty,pos,af,g⟩ ⟨env,heap⟩ K=aZ (n8 P T heap (ev env x) (ev env i)) K:=(rfl)
theorem KY{T:a1}{x i:a7}:dm P ag ⟨dst,.index T x i,ty,pos,af,g⟩ ⟨env,heap⟩ K=aZ (qh P T (ev env x) (ev env i)) K:=(rfl)
theorem M9{x:a7}{a:Array a1}:dm P ag ⟨dst,.call {callee:=.builtin .len,args:=#[x],argTypes:=a},ty,pos,af,g⟩ ⟨env,heap⟩ K=aZ (qR P (a.getD 0 0) a.size heap (ev env x)) K:=(rfl)
theorem Mh{f:a7}{args:List a7}{a:Array a1}:dm P ag ⟨dst,.call {callee:=.value f,args:=args.toArray,argTypes:=a},ty,pos,af,g⟩ ⟨env,heap⟩ K=qc P (ev env f) (args.map (ev env)) heap K:=(rfl)
theorem LW{x:a7}:dj P ag ⟨dst,.move x,ty,pos,af,g⟩ L ⟨env,heap⟩=dX dst ⟨env,heap⟩ L {v:=ev env x}:=(rfl)
theorem IL{x:a7}:dj P ag ⟨dst,.assign x,ty,pos,af,g⟩ L ⟨env,heap⟩=dX dst ⟨env,heap⟩ L {v:=ev env x}:=(rfl)
theorem LU{c a b:a7}:dj P ag ⟨dst,.pick c a b,ty,pos,af,g⟩ L ⟨env,heap⟩=aZ (qy (ev env c) (ev env a) (ev env b)) (dX dst ⟨env,heap⟩ L):=(rfl)
theorem Kw{T:a1}:dj P ag ⟨dst,.alloc T,ty,pos,af,g⟩ L ⟨env,heap⟩=aZ (qf P T heap.length) (dX dst ⟨env,heap⟩ L):=(rfl)
theorem OA{T:a1}{x:a7}:dj P ag ⟨dst,.box T x,ty,pos,af,g⟩ L ⟨env,heap⟩=aZ (sO P T heap.length (ev env x)) (dX dst ⟨env,heap⟩ L):=(rfl)
theorem Kv{T:a1}{a:Array (Nat×a7)}:dj P ag ⟨dst,.build T a,ty,pos,af,g⟩ L ⟨env,heap⟩=aZ (qd P T (a.toList.map fun(i,x)=>(i,ev env x))) (dX dst ⟨env,heap⟩ L):=(rfl)
theorem Gc{T:a1}{n:Nat}{a:Array (Nat×a7)}:dj P ag ⟨dst,.buildSlice T n a,ty,pos,af,g⟩ L ⟨env,heap⟩=aZ (px P T n (a.toList.map fun(i,x)=>(i,ev env x)) heap.length) (dX dst ⟨env,heap⟩ L):=(rfl)
theorem LX{T:a1}{a:a7}:dj P ag ⟨dst,.load T a,ty,pos,af,g⟩ L ⟨env,heap⟩=aZ (oS P T heap (ev env a)) (dX dst ⟨env,heap⟩ L):=(rfl)
theorem KJ{T:a1}{a x:a7}:dj P ag ⟨dst,.store T a x,ty,pos,af,g⟩ L ⟨env,heap⟩=aZ (oK P T heap (ev env a) (ev env x)) (dX dst ⟨env,heap⟩ L):=(rfl)
theorem Oz{op:bb}{T a:a1}{x y:a7}:dj P ag ⟨dst,.binOp op T x y a,ty,pos,af,g⟩ L ⟨env,heap⟩=aZ (iT P op T (lN y) heap (ev env x) (ev env y)) (dX dst ⟨env,heap⟩ L):=(rfl)
theorem OE{op:UnOp}{T:a1}{x:a7}:dj P ag ⟨dst,.unOp op T x,ty,pos,af,g⟩ L ⟨env,heap⟩=aZ (ri op (ev env x)) (dX dst ⟨env,heap⟩ L):=(rfl)
theorem LZ{S D:a1}{x:a7}:dj P ag ⟨dst,.convert S D x,ty,pos,af,g⟩ L ⟨env,heap⟩=aZ (qo P S D heap (ev env x)) (dX dst ⟨env,heap⟩ L):=(rfl)
theorem HM{t:a7}{i:Nat}:dj P ag ⟨dst,.extract t i,ty,pos,af,g⟩ L ⟨env,heap⟩=aZ (pI (ev env t) i) (dX dst ⟨env,heap⟩ L):=(rfl)
theorem GC{T:a1}{a:a7}{f:Nat}:dj P ag ⟨dst,.fieldAddr T a f,ty,pos,af,g⟩ L ⟨env,heap⟩=aZ (n9 P T (ev env a) f) (dX dst ⟨env,heap⟩ L):=(rfl)
theorem GB{T:a1}{x i:a7}:dj P ag ⟨dst,.indexAddr T x i,ty,pos,af,g⟩ L ⟨env,heap⟩=aZ (n8 P T heap (ev env x) (ev env i)) (dX dst ⟨env,heap⟩ L):=(rfl)
theorem Ku{T:a1}{x i:a7}:dj P ag ⟨dst,.index T x i,ty,pos,af,g⟩ L ⟨env,heap⟩=aZ (qh P T (ev env x) (ev env i)) (dX dst ⟨env,heap⟩ L):=(rfl)
theorem OB{x:a7}{a:Array a1}:dj P ag ⟨dst,.call {callee:=.builtin .len,args:=#[x],argTypes:=a},ty,pos,af,g⟩ L ⟨env,heap⟩=aZ (qR P (a.getD 0 0) a.size heap (ev env x)) (dX dst ⟨env,heap⟩ L):=(rfl)
theorem L3{f:a7}{args:List a7}{a:Array a1}:dj P ag ⟨dst,.call {callee:=.value f,args:=args.toArray,argTypes:=a},ty,pos,af,g⟩ L ⟨env,heap⟩=qp P (ev env f) (args.map (ev env)) heap (ze dst ⟨env,heap⟩ L):=(rfl)
theorem KW{T:a1}{x:a7}{lo hi:Option a7}:dm P ag ⟨dst,.slice T x lo hi none,ty,pos,af,g⟩ ⟨env,heap⟩ K=aZ (oM P T heap (ev env x) (lo.map (ev env)) (hi.map (ev env))) K:=(rfl)
theorem Ks{T:a1}{x:a7}{lo hi:Option a7}:dj P ag ⟨dst,.slice T x lo hi none,ty,pos,af,g⟩ L ⟨env,heap⟩=aZ (oM P T heap (ev env x) (lo.map (ev env)) (hi.map (ev env))) (dX dst ⟨env,heap⟩ L):=(rfl)
theorem Jt{T:a1}{x i:a7}{ok:Bool}:dm P ag ⟨dst,.lookup T x i ok,ty,pos,af,g⟩ ⟨env,heap⟩ K=aZ (qu P T heap (ev env x) (ev env i) ok) K:=(rfl)
theorem IJ{T:a1}{x i:a7}{ok:Bool}:dj P ag ⟨dst,.lookup T x i ok,ty,pos,af,g⟩ L ⟨env,heap⟩=aZ (qu P T heap (ev env x) (ev env i) ok) (dX dst ⟨env,heap⟩ L):=(rfl)
theorem GZ{T:a1}{m k x:a7}:dm P ag ⟨dst,.mapUpdate T m k x,ty,pos,af,g⟩ ⟨env,heap⟩ K=aZ (lM P T heap (ev env m) (ev env k) (ev env x)) K:=(rfl)
theorem Gz{T:a1}{m k x:a7}:dj P ag ⟨dst,.mapUpdate T m k x,ty,pos,af,g⟩ L ⟨env,heap⟩=aZ (lM P T heap (ev env m) (ev env k) (ev env x)) (dX dst ⟨env,heap⟩ L):=(rfl)
theorem Ju{T:a1}{m k x:a7}:dm P ag ⟨dst,.insert T m k x,ty,pos,af,g⟩ ⟨env,heap⟩ K=aZ (lM P T heap (ev env m) (ev env k) (ev env x)) K:=(rfl)
theorem IK{T:a1}{m k x:a7}:dj P ag ⟨dst,.insert T m k x,ty,pos,af,g⟩ L ⟨env,heap⟩=aZ (lM P T heap (ev env m) (ev env k) (ev env x)) (dX dst ⟨env,heap⟩ L):=(rfl)
theorem KX{T:a1}{x:a7}:dm P ag ⟨dst,.range T x,ty,pos,af,g⟩ ⟨env,heap⟩ K=aZ (pX P T heap.length (ev env x)) K:=(rfl)
theorem Kt{T:a1}{x:a7}:dj P ag ⟨dst,.range T x,ty,pos,af,g⟩ L ⟨env,heap⟩=aZ (pX P T heap.length (ev env x)) (dX dst ⟨env,heap⟩ L):=(rfl)
theorem Mw{it:a7}:dm P ag ⟨dst,.next it true,ty,pos,af,g⟩ ⟨env,heap⟩ K=aZ (qB heap (ev env it)) K:=(rfl)
theorem LV{it:a7}:dj P ag ⟨dst,.next it true,ty,pos,af,g⟩ L ⟨env,heap⟩=aZ (qB heap (ev env it)) (dX dst ⟨env,heap⟩ L):=(rfl)
theorem G0{T:a1}{l c:a7}:dm P ag ⟨dst,.makeSlice T l c,ty,pos,af,g⟩ ⟨env,heap⟩ K=aZ (qD P T heap.length (ev env l) (ev env c)) K:=(rfl)
theorem GA{T:a1}{l c:a7}:dj P ag ⟨dst,.makeSlice T l c,ty,pos,af,g⟩ L ⟨env,heap⟩=aZ (qD P T heap.length (ev env l) (ev env c)) (dX dst ⟨env,heap⟩ L):=(rfl)
theorem G3{x:a7}:dm P ag ⟨dst,.nilCheck x,ty,pos,af,g⟩ ⟨env,heap⟩ K=aZ (pQ (ev env x)) K:=(rfl)
theorem Ht{x:a7}:dj P ag ⟨dst,.nilCheck x,ty,pos,af,g⟩ L ⟨env,heap⟩=aZ (pQ (ev env x)) (dX dst ⟨env,heap⟩ L):=(rfl)
theorem Nb{args:Array a7}{a:Array a1}:dm P ag ⟨dst,.call {callee:=.builtin .min,args,argTypes:=a},ty,pos,af,g⟩ ⟨env,heap⟩ K=aZ (j0 false (args.toList.map (ev env))) K:=(rfl)
theorem OD{args:Array a7}{a:Array a1}:dj P ag ⟨dst,.call {callee:=.builtin .min,args,argTypes:=a},ty,pos,af,g⟩ L ⟨env,heap⟩=aZ (j0 false (args.toList.map (ev env))) (dX dst ⟨env,heap⟩ L):=(rfl)
theorem Na{args:Array a7}{a:Array a1}:dm P ag ⟨dst,.call {callee:=.builtin .max,args,argTypes:=a},ty,pos,af,g⟩ ⟨env,heap⟩ K=aZ (j0 true (args.toList.map (ev env))) K:=(rfl)
theorem OC{args:Array a7}{a:Array a1}:dj P ag ⟨dst,.call {callee:=.builtin .max,args,argTypes:=a},ty,pos,af,g⟩ L ⟨env,heap⟩=aZ (j0 true (args.toList.map (ev env))) (dX dst ⟨env,heap⟩ L):=(rfl)
theorem IC{T:a1}:dm P ag ⟨dst,.makeMap T none,ty,pos,af,g⟩ ⟨env,heap⟩ K=K {v:=.map heap.length,aS:=[.map false []]}:=(rfl)
theorem Im{T:a1}:dj P ag ⟨dst,.makeMap T none,ty,pos,af,g⟩ L ⟨env,heap⟩=dX dst ⟨env,heap⟩ L {v:=.map heap.length,aS:=[.map false []]}:=(rfl)
theorem Jw{s x:a7}{T X:a1}:dm P ag ⟨dst,.call {callee:=.builtin .append,args:=#[s,x],argTypes:=#[T,X]},ty,pos,af,g⟩ ⟨env,heap⟩ K=aZ (oJ P T X heap (ev env s) (ev env x)) K:=by simp[dm,ka]
theorem IM{s x:a7}{T X:a1}:dj P ag ⟨dst,.call {callee:=.builtin .append,args:=#[s,x],argTypes:=#[T,X]},ty,pos,af,g⟩ L ⟨env,heap⟩=aZ (oJ P T X heap (ev env s) (ev env x)) (dX dst ⟨env,heap⟩ L):=by simp[dj,ka]
theorem Mf{s x:a7}{T X:a1}:dm P ag ⟨dst,.call {callee:=.builtin .copy,args:=#[s,x],argTypes:=#[T,X]},ty,pos,af,g⟩ ⟨env,heap⟩ K=aZ (copyV P T heap (ev env s) (ev env x)) K:=by simp[dm,ka]
theorem LY{s x:a7}{T X:a1}:dj P ag ⟨dst,.call {callee:=.builtin .copy,args:=#[s,x],argTypes:=#[T,X]},ty,pos,af,g⟩ L ⟨env,heap⟩=aZ (copyV P T heap (ev env s) (ev env x)) (dX dst ⟨env,heap⟩ L):=by simp[dj,ka]
theorem M0{f:a8}{fi ca:List AV}{args:List AV}{M:AV->Heap->Prop}:qp P (.func f fi ca) args heap M=gE P false f (fi++args++ca) heap M:=(rfl)
theorem Mi{f:a8}{fi ca:List AV}{args:List AV}:qc P (.func f fi ca) args heap K=gL P f (fi++args++ca) heap K:=(rfl)
theorem M5{f:a8}{fi ca:List PV}{args:List AV}{M:AV->Heap->Prop}:qp P (.p (.func f fi ca)) args heap M=gE P false f (fi.map .p++args++ca.map .p) heap M:=(rfl)
theorem M6{f:a8}{fi ca:List PV}{args:List AV}:qc P (.p (.func f fi ca)) args heap K=gL P f (fi.map .p++args++ca.map .p) heap K:=(rfl)
end ops
section
variable{P:a6}
@[simp] theorem aG3{b:Bool}:aL (.bool b)=.leaf:=(rfl)
@[simp] theorem aHp{k:bi}{n:Int}:aL (.int k n)=.leaf:=(rfl)
@[simp] theorem aHu{l:List Nat}:aL (.str l)=.leaf:=(rfl)
@[simp] theorem aHq:aL .aG=.leaf:=(rfl)
@[simp] theorem aHr{l:List PV}:aL (.seq l)=.leaf:=(rfl)
@[simp] theorem aHt{u:a1}{fs:List PV}:aL (.st u fs)=.agg u:=(rfl)
@[simp] theorem aGV{v:PV}:ad (.p v)=aL v:=(rfl)
@[simp] theorem aG2{u:a1}{fs:List AV}:ad (.st u fs)=.agg u:=(rfl)
@[simp] theorem aG0{b v e o l:Nat}:ad (.sl b v e o l)=.leaf:=(rfl)
@[simp] theorem aFD{u:a1}{fs:List PV}:cE (.st u fs)=fs:=(rfl)
theorem T0{a:List bl}{Q:PV->Prop}{s:St}:yK P a Q .ret s=∃vs,fo P s a=some vs/\∃v,dZ s.heap 9 (oneOf vs)=some v/\Q v:=by simp[yK]
theorem RH{a:List bl}{Q:PV->Prop}{s:St}:yK P a Q .normal s=∃vs,fo P s a=some vs/\∃v,dZ s.heap 9 (oneOf vs)=some v/\Q v:=by simp[yK]
attribute [simp] T0 RH iO LA Km LB O6 Kk LC Kl O7 Kn LD GI Ia I6 G6 Jx Ld KH Lz Kj Lx Kh Jb Ja
 Mx Jv Mv K0 M8 KZ Gj Me KU M7 Nc Mg ID GK GJ KY M9 Mh
 LW IL LU Kw OA Kv Gc LX KJ Oz OE LZ HM GC GB Ku OB L3 M5 M6 KW Ks Jt IJ GZ Gz Ju IK KX Kt Mw LV G0 GA G3 Ht Nb OD Na OC IC Im Jw IM Mf LY M0 Mi oJ jV oM qu lM pX qB qD copyV pQ j0 gA dx dV fc iS o6 lD se gk gY lr Td TO
 QW Sk Tp QL Ru S4
 aM put iq ev ofConst bd gF gP nu eB kl fB gN eA qy qf sO iU qd px iT sW Dr ri qo pI qh qR oS oK n9 n8 lenOf gI gX ln bE
 lN fo oN oneOf dZ
end
section
variable{P:a6}{ag:a8->Bool}
def sE:jc->jc->Bool
 | .leaf,.leaf=>true
 | .agg u,.agg v=>eq u v
 |_,_=>false
theorem ir{a b:jc}(h:sE a b=true):a=b/\b≠.bad:=by
 cases a<;>cases b<;>simp_all [sE]
def kE:AK->AK->Bool
 | .exact,.exact| .grow,.grow| .frozen,.frozen| .bytes,.bytes=>true
 |_,_=>false
def vr:AK->Bool
 | .frozen=>false
 |_=>true
theorem Ci{k:AK}(h:vr k=true):k≠.frozen:=by cases k<;>simp_all [vr]
def nK(k:AK)(a:List AV):Bool:=match k.gr,a with
 |true,[]=>false
 |_,_=>true
theorem uQ{k:AK}{a:List AV}(h:nK k a=true):¬(k.gr=true/\a=[]):=by
 rintro⟨b,rfl⟩;simp[nK,b]at h
theorem du{a b:Nat}(h:eq a b=true):a=b:=Nat.eq_of_beq_eq_true h
theorem cW{a b:Nat}(h:ew a b=true):a<=b:=Nat.le_of_ble_eq_true h
def Nx:bi->bi->Bool:=fun a b=>decide (a=b)
def uR(P:a6)(l:List Nat):List (Nat×AV)->Bool
 |[]=>true
 |(i,v)::r=>(match l[i]? with
  |some n=>eq (bE P (ad v)) n&&(match ad v with
   | .bad=>false
   |_=>true)
  |none=>false)&&uR P l r
theorem AG{l:List Nat}:∀{r:List (Nat×AV)},uR P l r=true->ln P l r
 |[],_=>trivial
 |(i,v)::r,h=>by
  simp only[uR,aT]at h;refine⟨?_,AG h.2⟩;have a:=h.1
  split at a
  ·rename_i n c;simp only[aT]at a;refine⟨n,c,du a.1,fun b=>?_⟩;rw[b]at a;simp at a
  ·simp at a
def oT(P:a6)(sz:Nat):List AV->Bool
 |[]=>true
 |v::r=>(match ad v with
  | .bad=>false
  |s=>eq (bE P s) sz)&&oT P sz r
theorem sq{sz:Nat}:∀{r:List AV},oT P sz r=true->dV P sz r
 |[],_=>trivial
 |v::r,h=>by
  simp only[oT,aT]at h;refine⟨?_,sq h.2⟩;have a:=h.1
  split at a
  ·simp at a
  ·rename_i b;exact⟨b,du a⟩
def Da(P:a6)(T:a1)(H:Heap)(a:AV):Option aU:=
 match a with
 | .ptr b path=>match H[b]? with
  |some (.box fz t)=>match eB t path with
   |some s=>bif sE (kindOf P T) (ad s)then some {v:=s,aj:=[(b,.box fz t)]}else none
   |none=>none
  |_=>none
 | .bX b al ai i path=>match H[b]? with
  |some (.arr k d c es)=>bif eq al d&&eq ai c then match es[i]? with
   |some x=>match eB x path with
    |some s=>bif sE (kindOf P T) (ad s)then some {v:=s,aj:=[(b,.arr k d c es)]}else none
    |none=>none
   |none=>none
   else none
  |_=>none
 | .p (.cz t)=>bif sE (kindOf P T) (aL t)then some {v:=.p t}else none
 |_=>none
theorem U7{T:a1}{H:Heap}{a:AV}{e:aU}{K:aU->Prop}(h:Da P T H a=some e)(hk:K e):nD P T H a K:=by
 unfold Da at h;unfold nD
 split at h
 ·split at h
  ·split at h
   ·rename_i hs;simp only[ay,fd,fm]at h;rename_i c _ _;obtain⟨b,rfl⟩:=h;simp only[c,hs];exact⟨(ir b).1,hk⟩
   ·simp at h
  ·simp at h
 ·split at h
  ·rename_i c;simp only[ay,fd,aT]at h;obtain⟨⟨b,d⟩,h⟩:=h
   split at h
   ·rename_i hx
    split at h
    ·rename_i hs;simp only[fd,fm]at h;obtain⟨f,rfl⟩:=h;obtain⟨hi,rfl⟩:=ck.1 hx;simp only[c];refine⟨du b,du d,hi,?_⟩;simp only[hs];exact⟨(ir f).1,hk⟩
    ·simp at h
   ·simp at h
  ·simp at h
 ·simp only[ay,fd,fm]at h;obtain⟨b,rfl⟩:=h;exact⟨(ir b).1,hk⟩
 ·simp at h
def B9(P:a6)(T:a1)(H:Heap)(a x:AV):Option aU:=
 bif sE (kindOf P T) (ad x)then match a with
 | .ptr b path=>match H[b]? with
  |some (.box false t)=>match eB t path,fB t path x with
   |some s,some d=>bif sE (ad s) (ad x)then some {v:=.p (.aC []),aj:=[(b,.box false t)],aK:=[(b,.box false d)]}else none
   |_,_=>none
  |_=>none
 | .bX b al ai i path=>match H[b]? with
  |some (.arr k e c es)=>bif eq al e&&(eq ai c&&vr k)then match es[i]? with
   |some y=>match eB y path,fB y path x with
    |some s,some d=>bif sE (ad s) (ad x)then some {v:=.p (.aC []),aj:=[(b,.arr k e c es)],aK:=[(b,.arr k e c (es.set i d))]}else none
    |_,_=>none
   |none=>none
   else none
  |_=>none
 |_=>none
 else none
theorem Ti{T:a1}{H:Heap}{a x:AV}{e:aU}{K:aU->Prop}(h:B9 P T H a x=some e)(hk:K e):nq P T H a x K:=by
 unfold B9 at h;unfold nq;simp only[ay,fd]at h;obtain⟨f,h⟩:=h;refine⟨(ir f).1,(ir f).2,?_⟩
 split at h
 ·split at h
  ·rename_i c
   split at h
   ·rename_i hs d;simp only[fd,fm]at h;obtain⟨b,rfl⟩:=h;simp only[c,hs,d];exact⟨(ir b).1,hk⟩
   ·simp at h
  ·simp at h
 ·split at h
  ·rename_i c;simp only[fd,aT]at h;obtain⟨⟨b,g,i⟩,h⟩:=h
   split at h
   ·rename_i k
    split at h
    ·rename_i hs d;simp only[fd,fm]at h;obtain⟨j,rfl⟩:=h;obtain⟨hi,rfl⟩:=ck.1 k;simp only[c];refine⟨du b,du g,Ci i,hi,?_⟩;simp only[hs,d];exact⟨(ir j).1,hk⟩
    ·simp at h
   ·simp at h
  ·simp at h
 ·simp at h
def C3(op:bb)(k:bi)(a b:Int):Option PV:=
 match op with
 | .add=>some (.int k (k.wrap (a+b)))
 | .sub=>some (.int k (k.wrap (a-b)))
 | .mul=>some (.int k (k.wrap (a*b)))
 | .quo=>match b with
  | .ofNat 0=>none
  |b=>some (.int k (k.wrap (a.tdiv b)))
 | .rem=>match b with
  | .ofNat 0=>none
  |b=>some (.int k (a.tmod b))
 | .and=>some (.int k (k.wrap (ax k.bits a&&&ax k.bits b).toNat))
 | .or=>some (.int k (k.wrap (ax k.bits a|||ax k.bits b).toNat))
 | .xor=>some (.int k (k.wrap (ax k.bits a^^^ax k.bits b).toNat))
 | .andNot=>some (.int k (k.wrap (ax k.bits a&&&~~~ax k.bits b).toNat))
 | .eql=>some (.bool (a==b))
 | .neq=>some (.bool (a !=b))
 | .lss=>some (.bool (decide (a<b)))
 | .leq=>some (.bool (decide (a<=b)))
 | .gtr=>some (.bool (decide (a>b)))
 | .geq=>some (.bool (decide (a>=b)))
 | .shl=>match b with
  | .ofNat _=>some (.int k (k.wrap (a*2^(min b.toNat k.bits))))
  |_=>none
 | .shr=>match b with
  | .ofNat _=>some (.int k (a.fdiv (2^(min b.toNat k.bits))))
  |_=>none
theorem Yn{op:bb}{k:bi}{a b:Int}{v:PV}{K:PV->Prop}(h:C3 op k a b=some v)(hk:K v):oR op k a b K:=by
 cases op<;>simp only[C3]at h<;>simp only[oR]
 case quo|rem=>
  split at h
  ·simp at h
  ·rename_i d;simp only[fm]at h;subst h;exact⟨fun c=>d (by rw[c];rfl),hk⟩
 case shl|shr=>
  split at h
  ·simp only[fm]at h;subst h;exact⟨b5 _,hk⟩
  ·simp at h
 all_goals (simp only[fm]at h;subst h;exact hk)
def CM(P:a6)(op:bb)(T:a1)(c:Bool)(H:Heap)(x y:AV):Option PV:=
 match x,y with
 | .p (.int k a),.p (.int d b)=>bif Nx k d||(match op with
  | .shl| .shr=>true
  |_=>false)then C3 op k a b else none
 | .p (.str a),.p (.str b)=>match op with
  | .add=>bif ew (a.length+b.length) 9223372036854775807 then some (.str (a++b))else none
  | .eql=>some (.bool (a==b))
  | .neq=>some (.bool (!(a==b)))
  | .lss=>some (.bool (fN a b))
  | .leq=>some (.bool (fN a b||a==b))
  | .gtr=>some (.bool (!(fN a b||a==b)))
  | .geq=>some (.bool (!(fN a b)))
  |_=>none
 | .p (.bool a),.p (.bool b)=>bif pU P T then match op with
  | .eql=>some (.bool (a==b))
  | .neq=>some (.bool (!(a==b)))
  |_=>none
  else none
 | .p (.st u fs),.p (.st u' gs)=>bif lL P T then match dC P 9 T (.st u fs) (.st u' gs),op with
  |some r,.eql=>some (.bool r)
  |some r,.neq=>some (.bool !r)
  |_,_=>none
  else none
 |x,y=>match di P T c y with
  |some k=>match cM H k x,op with
   |some r,.eql=>some (.bool r)
   |some r,.neq=>some (.bool !r)
   |_,_=>none
  |none=>none
theorem V7{op:bb}{T:a1}{c:Bool}{H:Heap}{x y:AV}{v:PV}{K:PV->Prop}(h:CM P op T c H x y=some v)(hk:K v):jQ P op T c H x y K:=by
 unfold CM at h;unfold jQ
 split at h
 ·simp only[ay,fd,Bool.or_eq_true,Nx,decide_eq_true_eq]at h;refine⟨?_,Yn h.2 hk⟩;rcases h.1 with b|b
  ·exact .inl b
  ·cases op<;>simp at b<;>simp
 ·split at h<;>simp only[oQ]
  ·simp only[ay,fd,fm]at h;obtain⟨b,rfl⟩:=h;exact⟨by have:=cW b;omega,hk⟩
  ·simp only[fm]at h;subst h;exact hk
  ·simp only[fm]at h;subst h;exact hk
  ·simp only[fm]at h;subst h;exact hk
  ·simp only[fm]at h;subst h;exact hk
  ·simp only[fm]at h;subst h;exact hk
  ·simp only[fm]at h;subst h;exact hk
  ·simp at h
 ·simp only[ay,fd]at h;refine⟨h.1,?_⟩;have a:=h.2
  split at a
  ·simp only[fm]at a;subst a;exact hk
  ·simp only[fm]at a;subst a;exact hk
  ·simp at a
 ·simp only[ay,fd]at h;refine⟨h.1,?_⟩;have a:=h.2
  split at a
  ·rename_i d;simp only[fm]at a;subst a;simp only[d];exact hk
  ·rename_i d;simp only[fm]at a;subst a;simp only[d];exact hk
  ·simp at a
 ·split at h
  case h_2=>simp at h
  rename_i k f;show jQ P op T c H x y _;rw[Ir f];obtain⟨r,e,d⟩:∃r,cM H k x=some r/\((op=.eql/\v=.bool r)\/(op=.neq/\v=.bool !r)):=by
   revert h;generalize cM H k x=q;intro h;cases q with
   |none=>simp at h
   |some r=>cases op<;>simp at h<;>exact⟨r,rfl,by simp[h]⟩
  rw[e];rcases d with⟨rfl,rfl⟩|⟨rfl,rfl⟩<;>exact hk
def Ax(P:a6)(T:a1)(a:AV)(f:Nat):Option aU:=
 match fZ P T with
 |some (u,n)=>bif ew (f+1) n then match a with
  | .ptr b path=>some {v:=.ptr b (path++[(u,f)])}
  | .bX b al ai i path=>some {v:=.bX b al ai i (path++[(u,f)])}
  | .p (.cz t)=>bif sE (aL t) (.agg u)then match(cE t)[f]? with
   |some g=>some {v:=.p (.cz g)}
   |none=>none
   else none
  |_=>none
  else none
 |_=>none
theorem QP{T:a1}{a:AV}{f:Nat}{e:aU}{K:aU->Prop}(h:Ax P T a f=some e)(hk:K e):mV P T a f K:=by
 unfold Ax at h;unfold mV
 split at h
 ·rename_i hs;simp only[ay,fd]at h;obtain⟨b,h⟩:=h;simp only[hs];refine⟨by have:=cW b;omega,?_⟩
  split at h
  ·simp only[fm]at h;subst h;exact hk
  ·simp only[fm]at h;subst h;exact hk
  ·simp only[fd]at h;obtain⟨c,h⟩:=h
   split at h
   ·rename_i d;simp only[fm]at h;subst h;simp only[d];exact⟨(ir c).1,hk⟩
   ·simp at h
  ·simp at h
 ·simp at h
def oE(a:Option Nat)(b:Nat):Bool:=match a with
 |some x=>eq x b
 |none=>false
theorem u6{a:Option Nat}{b:Nat}(h:oE a b=true):a=some b:=by
 unfold oE at h;split at h
 ·rw[du h]
 ·simp at h
def Au(P:a6)(T:a1)(H:Heap)(x i:AV):Option aU:=
 match i with
 | .p (.int _ (.ofNat i))=>match x with
  | .p (.bw _ es)=>match es[i]? with
   |some y=>bif oE (cN P T) (bE P (aL y))then some {v:=.p (.cz y)}else none
   |none=>none
  | .p (.seq es)=>match es[i]? with
   |some y=>bif oE (cN P T) (bE P (aL y))then some {v:=.p (.cz y)}else none
   |none=>none
  | .sl b al ai off len=>bif oE (cN P T) ai&&ew (i+1) len then match H[b]? with
   |some (.arr k c a es)=>bif eq al c&&(eq ai a&&nK k es)then some {v:=.bX b al ai (off+i) [],aj:=[(b,.arr k c a es)]}else none
   |_=>none
   else none
  | .ptr b path=>match gM P T with
   |some (u,n)=>bif ew (i+1) n then some {v:=.ptr b (path++[(u,i)])}else none
   |_=>none
  | .bX b al ai j path=>match gM P T with
   |some (u,n)=>bif ew (i+1) n then some {v:=.bX b al ai j (path++[(u,i)])}else none
   |_=>none
  | .p (.cz t)=>match gM P T with
   |some (u,n)=>bif sE (aL t) (.agg u)&&ew (i+1) n then match(cE t)[i]? with
    |some g=>some {v:=.p (.cz g)}
    |none=>none
    else none
   |_=>none
  |_=>none
 |_=>none
theorem Q2{T:a1}{H:Heap}{x i:AV}{e:aU}{K:aU->Prop}(h:Au P T H x i=some e)(hk:K e):mU P T H x i K:=by
 unfold Au at h;unfold mU
 split at h
 case h_2=>simp at h
 rename_i i;refine⟨b5 _,?_⟩;simp only[cb,cc]
 split at h
 ·split at h
  ·rename_i y d;simp only[ay,fd,fm]at h;obtain⟨a,rfl⟩:=h;obtain⟨hi,rfl⟩:=ck.1 d;exact⟨hi,u6 a,hk⟩
  ·simp at h
 ·split at h
  ·rename_i y d;simp only[ay,fd,fm]at h;obtain⟨a,rfl⟩:=h;obtain⟨hi,rfl⟩:=ck.1 d;exact⟨hi,u6 a,hk⟩
  ·simp at h
 ·simp only[ay,fd,aT]at h;obtain⟨⟨a,c⟩,h⟩:=h;refine⟨u6 a,by have:=cW c;omega,?_⟩
  split at h
  ·rename_i k;simp only[fd,fm]at h;obtain⟨⟨f,g,j⟩,rfl⟩:=h;simp only[k];exact⟨du f,du g,uQ j,hk⟩
  ·simp at h
 ·split at h
  ·rename_i b;simp only[ay,fd,fm]at h;obtain⟨a,rfl⟩:=h;simp only[b];exact⟨by have:=cW a;omega,hk⟩
  ·simp at h
 ·split at h
  ·rename_i b;simp only[ay,fd,fm]at h;obtain⟨a,rfl⟩:=h;simp only[b];exact⟨by have:=cW a;omega,hk⟩
  ·simp at h
 ·split at h
  ·rename_i b;simp only[ay,fd,aT]at h;obtain⟨⟨a,c⟩,h⟩:=h
   split at h
   ·rename_i l;simp only[fm]at h;subst h;simp only[b,l];exact⟨(ir a).1,by have:=cW c;omega,hk⟩
   ·simp at h
  ·simp at h
 ·simp at h
def B2(P:a6)(T X:a1)(H:Heap)(s x:AV):Option aU:=
 match cN P T,gA H x with
 |some sz,some xs=>bif ib P X&&((cK P (dQ P T)).isSome&&oT P sz xs)then
  match s with
  | .p .aG=>match xs with
   |[]=>some {v:=s,aj:=dx H x}
   |y::r=>bif ew (y::r).length cT then some {v:=.sl H.length 0 sz 0 (y::r).length,aj:=dx H x,aS:=[.arr (gk P T) 0 sz (y::r)]}else none
  | .p (.bw full es)=>bif oT P sz (es.map .p)then match xs with
   |[]=>some {v:=s,aj:=dx H x}
   |y::r=>bif full&&ew (es.length+(y::r).length) cT then
    some {v:=.sl H.length 0 sz 0 (es.length+(y::r).length),aj:=dx H x,aS:=[.arr (gk P T) 0 sz (es.map .p++(y::r))]}else none
   else none
  | .sl b al ai off len=>match H[b]? with
   |some (.arr k c a es)=>bif eq al c&&(eq ai a&&(eq ai sz&&ew (off+len) es.length))then
    match xs with
    |[]=>some {v:=s,aj:=(b,.arr k c a es)::dx H x}
    |y::r=>bif ew (es.length+(y::r).length) cT then match k with
     | .frozen=>none
     | .exact=>bif ew (off+len+(y::r).length) es.length then
      some {v:=.sl b al ai off (len+(y::r).length),aj:=(b,.arr .exact c a es)::dx H x,aK:=[(b,.arr .exact al ai (es.take (off+len)++(y::r)++es.drop (off+len+(y::r).length)))]}
      else some {v:=.sl H.length 0 sz 0 (len+(y::r).length),aj:=(b,.arr .exact c a es)::dx H x,aS:=[.arr (gk P T) 0 sz ((es.drop off).take len++(y::r))]}
     | .grow=>bif eq off 0 then some {v:=.sl b (al+1) ai 0 (len+(y::r).length),aj:=(b,.arr .grow c a es)::dx H x,aK:=[(b,.arr .grow (al+1) ai (es.take len++(y::r)))]}else none
     | .bytes=>bif eq off 0&&eq (dQ P T) Gl.u8 then some {v:=.sl b (al+1) ai 0 (len+(y::r).length),aj:=(b,.arr .bytes c a es)::dx H x,aK:=[(b,.arr .bytes (al+1) ai (es.take len++(y::r)))]}else none
     else none
    else none
   |_=>none
  |_=>none
  else none
 |_,_=>none
theorem P2{T X:a1}{H:Heap}{s x:AV}{e:aU}{K:aU->Prop}(h:B2 P T X H s x=some e)(hk:K e):mY P T X H s x K:=by
 unfold B2 at h;unfold mY
 split at h
 case h_2=>simp at h
 rename_i sz r n p;simp only[ay,fd,aT]at h;obtain⟨⟨g,j,k⟩,h⟩:=h;simp only[n,p];refine⟨g,j,sq k,?_⟩
 split at h
 ·split at h
  ·simp only[fm]at h;subst h;simpa using hk
  ·simp only[fd,fm]at h;obtain⟨a,rfl⟩:=h;simp only[dk,a0,if_false];exact⟨cW a,hk⟩
 ·simp only[fd]at h;obtain⟨a,h⟩:=h;refine⟨sq a,?_⟩
  split at h
  ·simp only[fm]at h;subst h;simpa using hk
  ·simp only[fd,fm]at h;obtain⟨⟨b,c⟩,rfl⟩:=h;simp only[dk,a0,if_false];exact⟨b,cW c,hk⟩
 ·split at h
  case h_2=>simp at h
  rename_i o;simp only[fd]at h;obtain⟨⟨a,b,c,l⟩,h⟩:=h;simp only[o];refine⟨du a,du b,du c,cW l,?_⟩
  split at h
  ·simp only[fm]at h;subst h;simpa using hk
  ·simp only[fd]at h;obtain⟨m,h⟩:=h;simp only[dk,a0,if_false];refine⟨cW m,?_⟩
   split at h
   ·simp at h
   ·split at h
    ·rename_i f;simp only[fm]at h;subst h;simp only[cW f,if_true];exact hk
    ·rename_i f;simp only[fm]at h;subst h;rw[if_neg (fun q=>f (e6 q))];exact hk
   ·simp only[fd,fm]at h;obtain⟨d,rfl⟩:=h;exact⟨du d,(fun h=>by cases h),hk⟩
   ·simp only[fd,fm]at h;obtain⟨⟨d,i⟩,rfl⟩:=h;exact⟨du d,fun _=>du i,hk⟩
 ·simp at h
end
section
variable{P:a6}{ag:a8->Bool}
def jj(x:Option AV)(d:Nat):Option Nat:=
 match x with
 |none=>some d
 |some (.p (.int _ (.ofNat i)))=>some i
 |_=>none
theorem jL{x:Option AV}{d n:Nat}{K:Nat->Prop}(h:jj x d=some n)(hk:K n):fY x d K:=by
 unfold jj at h;unfold fY
 split at h
 ·simp only[fm]at h;subst h;exact hk
 ·simp only[fm]at h;subst h;exact⟨b5 _,hk⟩
 ·simp at h
def Cb(P:a6)(T:a1)(H:Heap)(x:AV)(lo hi e:Option AV):Option aU:=
 match e with
 |some _=>none
 |none=>match x with
  | .p (.str s)=>match jj hi s.length,jj lo 0 with
   |some h,some l=>bif gY P T&&(ew h s.length&&ew l h)then some {v:=.p (.str ((s.take h).drop l))}else none
   |_,_=>none
  | .p .aG=>match jj hi 0,jj lo 0 with
   |some h,some l=>bif (cN P T).isSome&&(ew h 0&&ew l h)then some {v:=x}else none
   |_,_=>none
  | .p (.bw full es)=>match jj hi es.length,jj lo 0,cN P T with
   |some h,some l,some sz=>bif ew h es.length&&(ew l h&&oT P sz (es.map .p))then some {v:=.p (.bw (full&&h==es.length) ((es.take h).drop l))}else none
   |_,_,_=>none
  | .p (.seq es)=>match jj hi es.length,jj lo 0,cN P T with
   |some h,some l,some sz=>bif ew h es.length&&(ew l h&&oT P sz (es.map .p))then some {v:=.p (.seq ((es.take h).drop l))}else none
   |_,_,_=>none
  | .sl b al ai off len=>match H[b]? with
   |some (.arr k c a es)=>match jj hi len,jj lo 0 with
    |some h,some l=>bif eq al c&&(eq ai a&&(oE (cN P T) ai&&(nK k es&&(ew (off+len) es.length&&(ew (off+h) es.length&&ew l h)))))then
     match l with
     |0=>some {v:=.sl b al ai off h,aj:=[(b,.arr k c a es)]}
     |d+1=>bif eq (d+1) h then some {v:=.p (.bw false []),aj:=[(b,.arr k c a es)]}else some {v:=.sl b al ai (off+(d+1)) (h-(d+1)),aj:=[(b,.arr k c a es)]}
     else none
    |_,_=>none
   |_=>none
  |_=>none
theorem Tl{T:a1}{H:Heap}{x:AV}{lo hi i:Option AV}{e:aU}{K:aU->Prop}(h:Cb P T H x lo hi i=some e)(hk:K e):nr P T H x lo hi i K:=by
 unfold Cb at h;unfold nr
 split at h
 ·simp at h
 refine⟨rfl,?_⟩
 split at h
 ·split at h
  case h_2=>simp at h
  rename_i a b;simp only[ay,fd,aT,fm]at h;obtain⟨⟨c,d,f⟩,rfl⟩:=h;exact⟨c,jL a (jL b ⟨cW d,cW f,hk⟩)⟩
 ·split at h
  case h_2=>simp at h
  rename_i a b;simp only[ay,fd,aT,fm]at h;obtain⟨⟨c,d,f⟩,rfl⟩:=h;exact⟨c,jL a (jL b ⟨cW d,cW f,hk⟩)⟩
 ·split at h
  case h_2=>simp at h
  rename_i a b c;simp only[ay,fd,aT,fm]at h;obtain⟨⟨d,f,g⟩,rfl⟩:=h;refine jL a (jL b ⟨cW d,cW f,?_⟩);simp only[c];exact⟨sq g,hk⟩
 ·split at h
  case h_2=>simp at h
  rename_i a b c;simp only[ay,fd,aT,fm]at h;obtain⟨⟨d,f,g⟩,rfl⟩:=h;refine jL a (jL b ⟨cW d,cW f,?_⟩);simp only[c];exact⟨sq g,hk⟩
 ·split at h
  case h_2=>simp at h
  rename_i m
  split at h
  case h_2=>simp at h
  rename_i a b;simp only[ay,fd,aT]at h;obtain⟨⟨c,d,f,g,j,k,l⟩,h⟩:=h;simp only[m];refine⟨du c,du d,u6 f,uQ g,cW j,jL a (jL b ⟨cW k,cW l,?_⟩)⟩
  split at h
  ·simp only[fm]at h;subst h;simpa using hk
  ·rw[if_neg (by omega)]
   split at h
   ·rename_i hl;simp only[fm]at h;subst h;rw[if_pos (du hl)];exact hk
   ·rename_i hl;simp only[fm]at h;subst h;rw[if_neg (fun e=>hl (by rw[<-e];exact fb _))];exact hk
 ·simp at h
def Bv(P:a6)(T:a1)(H:Heap)(x:AV)(lo hi:Option AV)(m:AV):Option aU:=
 match x with
 | .sl b al ai off len=>match H[b]? with
  |some (.arr k c a es)=>match jj hi len,jj lo 0,jj (some m) 0 with
   |some h,some l,some m=>bif eq al c&&(eq ai a&&((cN P T).isSome&&(nK k es&&(ew (off+len) es.length&&(hi.isSome&&(ew (off+m) es.length&&(ew h m&&ew l h)))))))then
    some {v:=.p .undef,aj:=[(b,.arr k c a es)]}else none
   |_,_,_=>none
  |_=>none
 |_=>none
theorem SY{T:a1}{H:Heap}{x:AV}{lo hi:Option AV}{m:AV}{e:aU}{K:aU->Prop}(h:Bv P T H x lo hi m=some e)(hk:K e):pF P T H x lo hi m K:=by
 unfold Bv at h;unfold pF
 split at h
 case h_2=>simp at h
 split at h
 case h_2=>simp at h
 rename_i d
 split at h
 case h_2=>simp at h
 rename_i a b c;simp only[ay,fd,aT,fm]at h;obtain⟨⟨g1,g2,g3,g4,g5,g6,g7,g8,g9⟩,rfl⟩:=h;simp only[d];exact⟨du g1,du g2,g3,uQ g4,cW g5,g6,jL a (jL b (jL c ⟨cW g7,cW g8,cW g9,hk⟩))⟩
def yz(ok:Bool)(z:PV)(r:Option PV):PV:=
 match r with
 |some v=>bif ok then .aC [v,.bool true]else v
 |none=>bif ok then .aC [z,.bool false]else z
def azp(ok:Bool)(z:PV)(r:Option AV):AV:=
 match r with
 |some v=>bif ok then .aC [v,.p (.bool true)]else v
 |none=>.p (bif ok then .aC [z,.bool false]else z)
def Kr(P:a6)(T:a1)(H:Heap)(x i:AV)(ok:Bool):Option aU:=
 match iS P T,i with
 |some (a,E),.p key=>match cK P E with
  |some z=>bif fc P a key then match x with
   | .p .ff=>some {v:=.p (yz ok z none)}
   | .p (.eE es)=>match fE P a es key with
    |some r=>some {v:=.p (yz ok z r)}
    |none=>none
   | .map b=>match H[b]? with
    |some (.map fz es)=>match fE P a es key with
     |some r=>some {v:=.p (yz ok z r),aj:=[(b,.map fz es)]}
     |none=>none
    |some (.dt ks vs)=>bif mL key then match kx P a ks vs key with
     |some r=>some {v:=azp ok z r,aj:=[(b,.dt ks vs)]}
     |none=>none
     else none
    |_=>none
   |_=>none
   else none
  |none=>none
 |_,_=>none
def y7(P:a6)(c:a1)(b:Nat)(key:PV)(x:AV)(a:Obj):Option aU:=
 match rl a with
 |some (ks,vs)=>bif mL key then match kx P c ks vs key with
  |some none=>some {v:=.p (.aC []),aj:=[(b,a)],aK:=[(b,.dt (ks++[key]) (vs++[x]))]}
  |_=>none
  else none
 |none=>none
theorem zN{P:a6}{a:a1}{b:Nat}{key:PV}{x:AV}{c:Obj}{e:aU}{K:aU->Prop}(h:y7 P a b key x c=some e)(hk:K e):nV P a b key x c K:=by
 unfold y7 at h;unfold nV
 split at h
 ·rename_i ks vs f;simp only[ay,fd]at h;obtain⟨d,h⟩:=h
  split at h
  ·rename_i hl;simp only[fm]at h;subst h;simp only[f];exact⟨d,hl,hk⟩
  ·cases h
 ·cases h
def Ko(P:a6)(T:a1)(H:Heap)(m k x:AV):Option aU:=
 match iS P T,m,k with
 |some (a,_),.map b,.p key=>bif fc P a key then match H[b]? with
  |some (.map false es)=>match x with
   | .p v=>match lD P a es key with
    |some _=>some {v:=.p (.aC []),aj:=[(b,.map false es)],aK:=[(b,.map false (fX es key v))]}
    |none=>none
   |x=>y7 P a b key x (.map false es)
  |some (.dt ks vs)=>y7 P a b key x (.dt ks vs)
  |_=>none
  else none
 |_,_,_=>none
def Oq(H:Heap)(it:AV):Option aU:=
 match it with
 | .ptr b []=>match H[b]? with
  |some (.dv s pos)=>bif ew (pos+1) s.length then
   some {v:=.p (.aC [.bool true,.int .i64 pos,.int .i32 (b4 (fS s) pos).1]),aj:=[(b,.dv s pos)],aK:=[(b,.dv s (pos+(b4 (fS s) pos).2))]}
   else some {v:=.p (.aC [.bool false]),aj:=[(b,.dv s pos)]}
  |_=>none
 |_=>none
def Jh(P:a6)(H:Heap)(b:Builtin)(c:Array a1)(args:List AV):Option aU:=
 match b,args with
 | .len,[x]=>match lenOf H x with
  |some (n,aj)=>bif gI P (c.getD 0 0) x&&ew 1 c.size then some {v:=.p (.int .i64 n),aj}else none
  |none=>none
 | .append,[s,x]=>bif eq c.size 2 then B2 P (c.getD 0 0) (c.getD 1 0) H s x else none
 | .min,.p (.int k a)::r=>match lr k false r a with
  |some n=>some {v:=.p (.int k n)}
  |none=>none
 | .max,.p (.int k a)::r=>match lr k true r a with
  |some n=>some {v:=.p (.int k n)}
  |none=>none
 | .copy,[d,x]=>match cN P (c.getD 0 0),d,gA H x with
  |some sz,.sl b al ai off len,some xs=>bif eq ai sz&&(oT P sz xs&&eq c.size 2)then match H[b]? with
   |some (.arr k f e es)=>bif eq al f&&(eq ai e&&(vr k&&(ew (off+len) es.length&&nK k es)))then
    some {v:=.p (.int .i64 (min xs.length len:Nat)),aj:=(b,.arr k f e es)::dx H x,aK:=[(b,.arr k f e (es.take off++xs.take (min xs.length len)++es.drop (off+min xs.length len)))]}
    else none
   |_=>none
   else none
  |_,_,_=>none
 | .cap,[x]=>match yN H x with
  |some (n,aj)=>bif gI P (c.getD 0 0) x&&ew 1 c.size then some {v:=.p (.int .i64 n),aj}else none
  |none=>none
 | .clear,[x]=>match x with
  | .p .aG=>bif gI P (c.getD 0 0) x&&ew 1 c.size then some {v:=.p (.aC [])}else none
  | .sl b al ai off len=>match cN P (c.getD 0 0),cK P (dQ P (c.getD 0 0)),H[b]? with
   |some sz,some z,some (.arr k f e es)=>bif eq al f&&(eq ai e&&(eq ai sz&&(eq (bE P (aL z)) sz&&(vr k&&(ew (off+len) es.length&&(nK k es&&(ew 1 c.size&&ew 1 len)))))))then
    some {v:=.p (.aC []),aj:=[(b,.arr k f e es)],aK:=[(b,.arr k f e (es.take off++cx len (.p z)++es.drop (off+len)))]}else none
   |_,_,_=>none
  |_=>none
 | .unsafeSliceData,[x]=>match x with
  | .p .aG=>some {v:=.p .dD}
  | .sl b al ai off len=>match H[b]? with
   |some (.arr k f e es)=>bif eq al f&&eq ai e then
    bif nK k es then(bif ew 1 len&&ew (off+len) es.length then some {v:=.bX b al ai off [],aj:=[(b,.arr k f e es)]}else none)
    else some {v:=.p .dD,aj:=[(b,.arr k f e es)]}
    else none
   |_=>none
  |_=>none
 | .unsafeString,[x,.p (.int .i64 (.ofNat n))]=>match x with
  | .p .dD=>bif eq n 0&&eq c.size 2 then some {v:=.p (.str [])}else none
  | .bX b al ai i []=>match H[b]? with
   |some (.arr .bytes f e es)=>bif eq al f&&(eq ai e&&(eq ai 1&&(eq i 0&&(ew 1 n&&(ew n es.length&&(ew n 9223372036854775807&&(eq c.size 2&&(oE (ptrTo P (c.getD 0 0)) Gl.u8&&eq (P.cellsOf Gl.u8) 1))))))))then
    match bytesOf (es.take n)with
    |some l=>some {v:=.p (.str l),aj:=[(b,.arr .bytes f e es)],aK:=[(b,.dead)]}
    |none=>none
    else none
   |_=>none
  |_=>none
 |_,_=>none
def zb(P:a6)(ag:a8->Bool)(o:Oper)(ρ:a7->AV)(H:Heap):Option aU:=
 match o.op with
 | .move x| .assign x=>some {v:=ρ x}
 | .pick c a b=>match ρ c with
  | .p (.bool t)=>some {v:=bif t then ρ a else ρ b}
  |_=>none
 | .alloc T=>match cK P T with
  |some z=>bif sE (kindOf P T) (aL z)&&iU T (aL z)then some {v:=.ptr H.length [],aS:=[.box false (.p z)]}else none
  |none=>none
 | .box T x=>bif sE (kindOf P T) (ad (ρ x))&&iU T (ad (ρ x))then some {v:=.ptr H.length [],aS:=[.box false (ρ x)]}else none
 | .build T parts=>match kindOf P T,cK P T with
  | .agg u,some z=>match dH P u with
   |some l=>bif sE (aL z) (.agg u)&&uR P l (parts.toList.map fun(i,x)=>(i,ρ x))then some {v:=gN u (gX ((cE z).map .p) (parts.toList.map fun(i,x)=>(i,ρ x)))}else none
   |none=>none
  |_,_=>none
 | .buildSlice T n parts=>match cN P T,cK P (dQ P T)with
  |some sz,some z=>bif eq (bE P (aL z)) sz&&(ew (n*sz) 1000000&&uR P (cx n sz) (parts.toList.map fun(i,x)=>(i,ρ x)))then
   some {v:=.sl H.length 0 sz 0 n,aS:=[.arr .exact 0 sz (gX (cx n (.p z)) (parts.toList.map fun(i,x)=>(i,ρ x)))]}else none
  |_,_=>none
 | .load T a=>Da P T H (ρ a)
 | .store T a x=>B9 P T H (ρ a) (ρ x)
 | .binOp op T x y _=>match CM P op T (lN y) H (ρ x) (ρ y)with
  |some v=>some {v:=.p v,aj:=dx H (ρ x)}
  |none=>none
 | .unOp op _ x=>match op,ρ x with
  | .not,.p (.bool b)=>some {v:=.p (.bool (!b))}
  | .neg,.p (.int k n)=>some {v:=.p (.int k (k.wrap (0-n)))}
  | .xor,.p (.int k n)=>some {v:=.p (.int k (k.wrap (ax k.bits (if k.signed then -1 else k.max)^^^ax k.bits n).toNat))}
  |_,_=>none
 | .convert S D x=>match P.underlying S,P.underlying D,ρ x with
  |some _,some (.int k),.p (.int _ n)=>some {v:=.p (.int k (k.wrap n))}
  |some _,some .string,.p (.str s)=>some {v:=.p (.str s)}
  |_,_,_=>none
 | .extract t i=>match ρ t with
  | .p (.aC vs)=>match vs[i]? with
   |some v=>some {v:=.p v}
   |none=>none
  | .aC vs=>match vs[i]? with
   |some v=>some {v}
   |none=>none
  |_=>none
 | .fieldAddr T a f=>Ax P T (ρ a) f
 | .indexAddr T x i=>Au P T H (ρ x) (ρ i)
 | .field T x f=>match kindOf P T,P.underlying T,ρ x with
  | .agg u,some (.struct _),.p t=>match(cE t)[f]?,(je P u)[f]? with
   |some g,some F=>bif sE (aL t) (.agg u)&&sE (kindOf P F) (aL g)then some {v:=.p g}else none
   |_,_=>none
  |_,_,_=>none
 | .index T x i=>match ρ x,ρ i with
  | .p (.str s),.p (.int _ (.ofNat i))=>match s[i]? with
   |some c=>bif gY P T then some {v:=.p (.int .u8 c)}else none
   |none=>none
  | .p (.st u es),.p (.int _ (.ofNat i))=>match gM P T,(je P u)[i]?,es[i]? with
   |some (u',n),some F,some g=>bif eq u' u&&(ew (i+1) n&&sE (kindOf P F) (aL g))then some {v:=.p g}else none
   |_,_,_=>none
  |_,_=>none
 | .makeFunc (.func f) fi ca=>bif ag f then match fp H (fi.toList.map ρ),fp H (ca.toList.map ρ)with
   |some (a,[],[]),some (b,aj,aK)=>some {v:=.p (.func f a b),aj,aK}
   |_,_=>none
  else match eA (fi.toList.map ρ),eA (ca.toList.map ρ)with
   |some a,some b=>some {v:=.p (.func f a b)}
   |_,_=>some {v:=.func f (fi.toList.map ρ) (ca.toList.map ρ)}
 | .makeSlice T l c=>match cN P T,cK P (dQ P T),ρ l,ρ c with
  |some sz,some z,.p (.int .i64 (.ofNat l)),.p (.int .i64 (.ofNat c))=>bif eq (bE P (aL z)) sz&&(eq l c&&ew l cT)then
   some {v:=.sl H.length 0 sz 0 l,aS:=[.arr .exact 0 sz (cx l (.p z))]}else none
  |_,_,_,_=>none
 | .slice T x lo hi d=>match d with
  |none=>Cb P T H (ρ x) (lo.map ρ) (hi.map ρ) none
  |some m=>Bv P T H (ρ x) (lo.map ρ) (hi.map ρ) (ρ m)
 | .makeMap _ none=>some {v:=.map H.length,aS:=[.map false []]}
 | .lookup T x i ok=>Kr P T H (ρ x) (ρ i) ok
 | .mapUpdate T m k x| .insert T m k x=>Ko P T H (ρ m) (ρ k) (ρ x)
 | .range T x=>match ρ x with
  | .p (.str s)=>bif gY P T then some {v:=.ptr H.length [],aS:=[.dv s 0]}else none
  |_=>none
 | .next it true=>Oq H (ρ it)
 | .nilCheck x=>match ρ x with
  | .ptr _ _| .bX _ _ _ _ _| .p (.cz _)=>some {v:=ρ x}
  |_=>none
 | .call c=>match c.callee with
  | .builtin b=>Jh P H b c.argTypes (c.args.toList.map ρ)
  |_=>none
 |_=>none
theorem L5{o:Oper}{ρ:a7->AV}{H:Heap}{e:aU}{K:aU->Prop}(h:zb P ag o ρ H=some e)(hk:K e):fh P ag o ρ H K:=by
 unfold zb at h;unfold fh;cases ac:o.op<;>simp only[ac]at h<;>simp only
 case move|assign=>simp only[fm]at h;subst h;exact hk
 case pick c a b=>
  split at h
  ·rename_i t hc;simp only[fm]at h;subst h;simp only[hc];cases t<;>exact hk
  ·simp at h
 case alloc T=>
  split at h
  ·rename_i z E;simp only[ay,fd,fm,aT]at h;obtain⟨⟨d,j⟩,rfl⟩:=h;simp only[E];exact⟨(ir d).1,(ir d).2,j,hk⟩
  ·simp at h
 case box T x=>
  simp only[ay,fd,fm,aT]at h;obtain⟨⟨d,j⟩,rfl⟩:=h;exact⟨(ir d).1,(ir d).2,j,hk⟩
 case build T parts=>
  split at h
  ·rename_i u z ad E
   split at h
   ·rename_i l hl;simp only[ay,fd,fm,aT]at h;obtain⟨⟨d,j⟩,rfl⟩:=h;simp only[ad,E,hl];exact⟨(ir d).1,AG j,hk⟩
   ·simp at h
  ·simp at h
 case buildSlice T n parts=>
  split at h
  ·rename_i sz z I E;simp only[ay,fd,fm,aT]at h;obtain⟨⟨d,j,q⟩,rfl⟩:=h;simp only[I,E];exact⟨du d,cW j,AG q,hk⟩
  ·simp at h
 case load T a=>exact U7 h hk
 case store T a x=>exact Ti h hk
 case binOp op T x y af=>
  split at h
  ·rename_i v L;simp only[fm]at h;subst h;exact V7 (K:=fun v=>K {v:=.p v,aj:=dx H (ρ x)}) L hk
  ·simp at h
 case unOp op T x=>
  split at h
  all_goals first
   |(rename_i hx;simp only[fm]at h;subst h;simp only[hx];exact hk)
   |simp at h
 case convert S D x=>
  split at h
  ·rename_i d j q;simp only[fm]at h;subst h;simp only[d,j,q];exact hk
  ·rename_i d j q;simp only[fm]at h;subst h;simp only[d,j,q];exact hk
  ·simp at h
 case extract t i=>
  split at h
  ·rename_i R
   split at h
   ·rename_i L;simp only[fm]at h;subst h;simp only[R,L];exact hk
   ·simp at h
  ·rename_i R
   split at h
   ·rename_i L;simp only[fm]at h;subst h;simp only[R,L];exact hk
   ·simp at h
  ·simp at h
 case fieldAddr T a f=>exact QP h hk
 case indexAddr T x i=>exact Q2 h hk
 case field T x f=>
  split at h
  ·rename_i d j q
   split at h
   ·rename_i A w;simp only[ay,fd,fm,aT]at h;obtain⟨⟨B,C⟩,rfl⟩:=h;simp only[d,j,q,A,w];exact⟨(ir B).1,(ir C).1,hk⟩
   ·simp at h
  ·simp at h
 case index T x i=>
  split at h
  ·rename_i d j
   split at h
   ·rename_i c hc;simp only[ay,fd,fm]at h;obtain⟨q,rfl⟩:=h;obtain⟨hi,rfl⟩:=ck.1 hc;simp only[d,j];exact⟨q,b5 _,hi,hk⟩
   ·simp at h
  ·rename_i u V al i d j
   split at h
   ·rename_i u' n F g q A w;simp only[ay,fd,fm,aT]at h;obtain⟨⟨g1,g2,g3⟩,rfl⟩:=h;have e:(Int.ofNat i).toNat=i:=rfl;simp only[d,j,e,q,A,w];exact⟨du g1,b5 _,cW g2,(ir g3).1,hk⟩
   ·simp at h
  ·simp at h
 case makeFunc fn fi ca=>
  cases fn<;>simp only at h<;>try (simp at h;done)
  rename_i f;simp only;simp only[ay]at h
  split at h
  ·rename_i hf;rw[if_pos hf]
   split at h
   ·rename_i d j;simp only[fm]at h;subst h;simp only[d,j];exact hk
   ·simp at h
  ·rename_i hf;rw[if_neg hf]
   split at h
   ·rename_i d j;simp only[fm]at h;subst h;simp only[d,j];exact hk
   ·rename_i ab;simp only[fm]at h;subst h
    split
    ·rename_i d j;exact(ab _ _ d j).elim
    ·exact hk
 case makeSlice T l c=>
  split at h
  ·rename_i d j q A;simp only[ay,fd,fm,aT]at h;obtain⟨⟨w,B,C⟩,rfl⟩:=h;have e:=du B;simp only[d,j,q,A];refine⟨du w,b5 _,by rw[e],?_,hk⟩;have:=cW C;show((_:Nat):Int)<=_
   exact_mod_cast this
  ·simp at h
 case slice T x lo hi ae=>
  cases ae with
  |none=>exact Tl h hk
  |some m=>exact SY h hk
 case makeMap T r=>
  cases r<;>simp only at h
  ·simp only[fm]at h;subst h;exact hk
  ·simp at h
 case lookup T x i ok=>
  unfold Kr at h
  split at h
  case h_2=>simp at h
  rename_i d j
  split at h
  case h_2=>simp at h
  rename_i z E;simp only[ay,fd]at h;obtain⟨q,h⟩:=h;simp only[d,j,E];refine⟨q,?_⟩
  have M:∀r:Option PV,yz ok z r=match r with
    |some v=>if ok=true then .aC [v,.bool true]else v
    |none=>if ok=true then .aC [z,.bool false]else z:=by
   intro r;cases r<;>cases ok<;>rfl
  split at h
  ·rename_i hx;simp only[fm]at h;subst h;simp only[hx];rw[M]at hk;exact hk
  ·rename_i hx
   split at h
   ·rename_i r J;simp only[fm]at h;subst h;rw[M]at hk;simp only[hx,J];cases r<;>exact hk
   ·simp at h
  ·rename_i hx
   split at h
   ·rename_i s
    split at h
    ·rename_i r J;simp only[fm]at h;subst h;rw[M]at hk;simp only[hx,s,J];cases r<;>exact hk
    ·simp at h
   ·rename_i s;simp only[ay,fd]at h;obtain⟨Z,h⟩:=h
    split at h
    ·rename_i r J;simp only[fm]at h;subst h;simp only[hx,s,J];refine⟨Z,?_⟩;cases r<;>cases ok<;>exact hk
    ·simp at h
   ·simp at h
  ·simp at h
 case mapUpdate T m k x|insert T m k x=>
  unfold Ko at h
  split at h
  case h_2=>simp at h
  rename_i d j q;simp only[ay,fd]at h;obtain⟨w,h⟩:=h;simp only[d,j,q];generalize ρ x=X at*
  split at h
  ·rename_i s;cases X with
   |p v=>
    simp only at h;refine⟨w,?_⟩
    split at h
    ·rename_i hl;simp only[fm]at h;subst h;simp only[s,hl];exact hk
    ·simp at h
   |_=>
    refine⟨w,?_⟩;simp only[s];exact zN h hk
  ·rename_i s;cases X with
   |p v=>
    refine⟨w,?_⟩;simp only[s];exact zN h hk
   |_=>
    refine⟨w,?_⟩;simp only[s];exact zN h hk
  ·simp at h
 case range T x=>
  split at h
  ·rename_i hx;simp only[ay,fd,fm]at h;obtain⟨d,rfl⟩:=h;simp only[hx];exact⟨d,hk⟩
  ·simp at h
 case next it isStr=>
  cases isStr<;>simp only at h
  ·simp at h
  unfold Oq at h
  split at h
  ·rename_i hx
   split at h
   ·rename_i s;simp only[hx,s];simp only[ay]at h
    split at h
    ·rename_i Q;simp only[fm]at h;subst h;rw[if_pos (by have:=cW Q;omega)];exact hk
    ·rename_i Q;simp only[fm]at h;subst h;rw[if_neg (fun aa=>Q (e6 (Nat.succ_le_of_lt aa)))];exact hk
   ·simp at h
  ·simp at h
 case nilCheck x=>
  split at h
  all_goals first
   |(rename_i hx;simp only[fm]at h;subst h;simp only[hx]at hk⊢;exact hk)
   |simp at h
 case call c=>
  split at h
  case h_2=>simp at h
  rename_i b hc;simp only[hc];generalize c.args.toList.map ρ=args at*;generalize c.argTypes=ah at*;unfold Jh at h
  split at h
  ·split at h
   ·rename_i hl;simp only[ay,fd,fm,aT]at h;obtain⟨⟨d,j⟩,rfl⟩:=h;simp only[hl];exact⟨d,cW j,hk⟩
   ·simp at h
  ·simp only[ay,fd]at h;exact⟨du h.1,P2 h.2 hk⟩
  ·split at h
   ·rename_i O;simp only[fm]at h;subst h;simp only[O];exact hk
   ·simp at h
  ·split at h
   ·rename_i O;simp only[fm]at h;subst h;simp only[O];exact hk
   ·simp at h
  ·split at h
   ·rename_i I Y;simp only[ay,fd,aT]at h;obtain⟨⟨d,j,q⟩,h⟩:=h;simp only[I,Y];refine⟨du d,sq j,du q,?_⟩
    split at h
    ·rename_i s;simp only[fd,fm]at h;obtain⟨⟨A,w,B,C,G⟩,rfl⟩:=h;simp only[s];exact⟨du A,du w,Ci B,cW C,uQ G,hk⟩
    ·simp at h
   ·simp at h
  ·split at h
   ·rename_i hl;simp only[ay,fd,fm,aT]at h;obtain⟨⟨d,j⟩,rfl⟩:=h;simp only[hl];exact⟨d,cW j,hk⟩
   ·simp at h
  ·split at h
   ·simp only[ay,fd,fm,aT]at h;obtain⟨⟨d,j⟩,rfl⟩:=h;exact⟨d,cW j,hk⟩
   ·split at h
    ·rename_i I E s;simp only[ay,fd,fm,aT]at h;obtain⟨⟨d,j,q,A,w,B,C,G,N⟩,rfl⟩:=h;simp only[I,E,s];exact⟨du d,du j,du q,du A,Ci w,cW B,uQ C,cW G,cW N,hk⟩
    ·simp at h
   ·simp at h
  ·split at h
   ·simp only[fm]at h;subst h;exact hk
   ·split at h
    ·rename_i s;simp only[ay,fd,aT]at h;obtain⟨⟨d,j⟩,h⟩:=h;simp only[s];refine⟨du d,du j,?_⟩
     split at h
     ·simp only[fd,fm]at h;obtain⟨⟨A,w⟩,rfl⟩:=h;exact .inr ⟨cW A,cW w,hk⟩
     ·rename_i U;simp only[fm]at h;subst h;rename_i k _ _ V _ _;refine .inl ⟨?_,?_,hk⟩<;>(unfold nK at U;split at U<;>simp_all)
    ·simp at h
   ·simp at h
  ·split at h
   ·simp only[ay,fd,fm,aT]at h;obtain⟨⟨d,j⟩,rfl⟩:=h;exact⟨by rw[du d];rfl,du j,hk⟩
   ·split at h
    ·rename_i s;simp only[ay,fd,aT]at h;obtain⟨⟨d,j,q,A,w,B,C,G,N,W⟩,h⟩:=h;have ai:=cW w;have ak:=cW C;simp only[s];refine⟨du d,du j,du q,du A,by simp;omega,by simpa using cW B,by simp;omega,du G,u6 N,du W,?_⟩;simp only[cb,cc]
     split at h
     ·rename_i hl;simp only[fm]at h;subst h;simp only[hl];exact hk
     ·simp at h
    ·simp at h
   ·simp at h
  ·simp at h
 all_goals simp at h
end
end Go.au
namespace Go.au
variable[Gl]
section
variable(σ:Nat->Nat)
mutual
def cH:AV->AV
 | .p v=>.p v
 | .ptr b path=>.ptr (σ b) path
 | .bX b al ai i path=>.bX (σ b) al ai i path
 | .sl b al ai off len=>.sl (σ b) al ai off len
 | .map b=>.map (σ b)
 | .func f fi ca=>.func f (cA fi) (cA ca)
 | .st u fs=>.st u (cA fs)
 | .aC vs=>.aC (cA vs)
def cA:List AV->List AV
 |[]=>[]
 |v::vs=>cH v::cA vs
end
def sA:Env->Env
 |[]=>[]
 |(x,v)::r=>(x,cH σ v)::sA r
def cX:Obj->Obj
 | .box fz t=>.box fz (cH σ t)
 | .arr k al ai es=>.arr k al ai (cA σ es)
 | .dt ks vs=>.dt ks (cA σ vs)
 | .loop L=>.loop {L with env:=sA σ L.env}
 |o=>o
end
section
variable{σ:Nat->Nat}
theorem Bq:∀(e:Env)(x:Nat),aM (sA σ e) x=cH σ (aM e x)
 |[],_=>rfl
 |(y,v)::r,x=>by
  simp only[sA,aM]
  split
  ·rfl
  ·exact Bq r x
theorem rq:∀l:List AV,(cA σ l).length=l.length
 |[]=>rfl
 |_::r=>by simp[cA,rq r]
theorem Vl{l:List AV}:cA σ l=[]↔l=[]:=by cases l<;>simp[cA]
theorem nt{k:AK}{a:List AV}:c8 k (cA σ a)↔c8 k a:=by simp[c8,Vl]
theorem K3{v:AV}:(cH σ v).qP↔v.qP:=by cases v<;>simp[cH,AV.qP]
theorem Um{v:AV}:ad (cH σ v)=ad v:=by cases v<;>rfl
theorem JQ:∀{l:List AV},(∀e∈cA σ l,e.qP)↔∀e∈l,e.qP
 |[]=>by simp[cA]
 |v::r=>by simp[cA,K3,JQ (l:=r)]
theorem pH{o:Obj}:(cX σ o).live↔o.live:=by cases o<;>simp[cX,Obj.live,nt]
theorem K8{o:Obj}{v:Nat}:(cX σ o).has v↔o.has v:=by cases o<;>simp[cX,Obj.has]
theorem UM{o:Obj}:cX σ o=.hole↔o=.hole:=by cases o<;>simp[cX]
mutual
theorem A6{S:Nat×Nat->Prop}:∀(v:AV),aB S (cH σ v)↔aB (fun x=>S (σ x.1,x.2)) v
 | .p _=>by simp[cH,aB]
 | .ptr _ _| .bX _ _ _ _ _| .sl _ _ _ _ _| .map _=>by simp[cH,aB]
 | .func _ fi ca=>by simp only[cH,aB];rw[rH fi,rH ca]
 | .st _ fs=>by simp only[cH,aB];exact rH fs
 | .aC vs=>by simp only[cH,aB];exact rH vs
theorem rH{S:Nat×Nat->Prop}:∀(l:List AV),aP S (cA σ l)↔aP (fun x=>S (σ x.1,x.2)) l
 |[]=>by simp[cA,aP]
 |v::r=>by simp only[cA,aP];rw[A6 v,rH r]
end
theorem TI{S:Nat×Nat->Prop}{o:Obj}:(cX σ o).refs S↔o.refs (fun x=>S (σ x.1,x.2)):=by
 cases o<;>simp only[cX,Obj.refs,A6,rH,Bq]
theorem Obj.refs.mono{S T:Nat×Nat->Prop}(h:∀x,S x->T x){o:Obj}(a:o.refs S):o.refs T:=by
 cases o with
 |box fz t=>exact aB.mono h _ a
 |arr k al ai es=>exact aP.mono h _ a
 |dt ks vs=>exact aP.mono h _ a
 |loop L=>exact fun x=>aB.mono h _ (a x)
 |_=>trivial
structure dM(σ:Nat->Nat)(dL:Bd)(H0:Heap)(β:Bd)(H:Heap):Prop where
 obj:∀(b:Nat)(o:Obj),H0[b]?=some o->H[σ b]?=some (cX σ o)
 ak:∀b,b<H0.length->β.ak (σ b)=dL.ak b/\β.cap (σ b)=dL.cap b
section
variable{P:a6}{w:bk}{aa:Nat->Prop}{dL β:Bd}{H0 H:Heap}
theorem dM.box(h:dM σ dL H0 β H){b:Nat}(a:b<H0.length):me H (σ b)↔me H0 b:=by
 have c:=h.obj b _ (ce a);have d:=ce a;unfold me;rw[c,d];cases H0[b]<;>simp[cX]
theorem dM.it(h:dM σ dL H0 β H){b:Nat}(a:b<H0.length):mf H (σ b)↔mf H0 b:=by
 have c:=h.obj b _ (ce a);have d:=ce a;unfold mf;rw[c,d];cases H0[b]<;>simp[cX]
theorem dM.map(h:dM σ dL H0 β H){b:Nat}(a:b<H0.length):nw H (σ b)↔nw H0 b:=by
 have h1:=h.obj b _ (ce a);have c:=ce a;unfold nw;rw[h1,c];cases H0[b]<;>simp[cX,Obj.tC]
theorem dM.loop(h:dM σ dL H0 β H){b:Nat}(a:b<H0.length):gC H (σ b)↔gC H0 b:=by
 have c:=h.obj b _ (ce a);have d:=ce a;unfold gC;rw[c,d];cases H0[b]<;>simp[cX]
theorem dM.arr(h:dM σ dL H0 β H){b al ai:Nat}{k:AK}{es:List AV}(a:b<H0.length):ez H (σ b) al ai k es↔∃gp,ez H0 b al ai k gp/\es=cA σ gp:=by
 have c:=h.obj b _ (ce a);have d:=ce a;unfold ez;rw[c,d];cases H0[b]<;>simp[cX];constructor
 ·rintro⟨rfl,rfl,rfl,rfl⟩;exact⟨_,⟨rfl,rfl,rfl,rfl⟩,rfl⟩
 ·rintro⟨_,⟨rfl,rfl,rfl,rfl⟩,rfl⟩;exact⟨rfl,rfl,rfl,rfl⟩
theorem dM.C2(h:dM σ dL H0 β H){x:Nat×Nat}(a:x.1<H0.length):aH H (σ x.1,x.2)↔aH H0 x:=by
 have b:=h.obj x.1 _ (ce a);have c:=ce a;unfold aH;rw[b,c];simp[K8]
def Small(n:Nat):Nat×Nat->Prop:=fun x=>x.1<n
theorem dM.pf(h:dM σ dL H0 β H):∀{a:AV}{v:be},aB (Small H0.length) a->(bO P β H (cH σ a) v↔bO P dL H0 a v)
 | .p _,_,_| .func _ _ _,_,_| .st _ _,_,_| .aC _,_,_=>by simp[cH,bO]
 | .ptr b path,v,c=>by
  simp only[aB,Small]at c;simp only[cH,bO,h.box c,h.it c,(h.ak b c).1]
 | .bX b al ai i path,v,c=>by
  simp only[aB,Small]at c;simp only[cH,bO,h.arr c,(h.ak b c).1];constructor
  ·rintro⟨ak,off,o,e,f,g⟩;exact⟨ak,off,o,e,f,fun k d hl l=>g k _ ⟨d,hl,rfl⟩ (by rwa [nt])⟩
  ·rintro⟨ak,off,o,e,f,g⟩;refine⟨ak,off,o,e,f,?_⟩;rintro k _ ⟨d,hl,rfl⟩ l;exact g k d hl (by rwa [nt]at l)
 | .sl b al ai off len,v,c=>by
  simp only[aB,Small]at c;simp only[cH,bO,h.arr c,(h.ak b c).1,(h.ak b c).2];constructor
  ·intro j k d hl;have:=j k _ ⟨d,hl,rfl⟩;simpa only[rq,nt]using this
  ·rintro j k _ ⟨d,hl,rfl⟩;have:=j k d hl;simpa only[rq,nt]using this
 | .map b,v,c=>by
  simp only[aB,Small]at c;simp only[cH,bO,h.map c,h.loop c,(h.ak b c).1]
mutual
theorem dM.Lp(h:dM σ dL H0 β H):∀(a:AV)(cs:List be),aB (Small H0.length) a->(bf P w aa β H (cH σ a) cs↔bf P w aa dL H0 a cs)
 | .p _,_,_=>by simp[cH,bf]
 | .aC _,_,_=>by simp[cH,bf]
 | .st u fs,cs,d=>by
  simp only[aB]at d;simp only[cH,bf];exact exists_congr fun l=>exists_congr fun e=>and_congr_right fun _=>and_congr_left fun _=>dM.yC h l fs e d
 | .func f fi ca,cs,d=>by
  simp only[aB]at d;simp only[cH,bf];exact exists_congr fun l=>exists_congr fun e=>and_congr (dM.oY h fi l d.1) (and_congr_left fun _=>dM.oY h ca e d.2)
 | .ptr b path,cs,d=>by
  have:=fun v=>h.pf (P:=P) (a:=.ptr b path) (v:=v) d;simp only[cH,bf,bI]at this⊢;simp only[this]
 | .bX b al ai i path,cs,d=>by
  have:=fun v=>h.pf (P:=P) (a:=.bX b al ai i path) (v:=v) d;simp only[cH,bf,bI]at this⊢;simp only[this]
 | .sl b al ai off len,cs,d=>by
  have:=fun v=>h.pf (P:=P) (a:=.sl b al ai off len) (v:=v) d;simp only[cH,bf,bI]at this⊢;simp only[this]
 | .map b,cs,d=>by
  have:=fun v=>h.pf (P:=P) (a:=.map b) (v:=v) d;simp only[cH,bf,bI]at this⊢;simp only[this]
theorem dM.yC(h:dM σ dL H0 β H):∀(g:List Nat)(l:List AV)(e:List (List be)),aP (Small H0.length) l->(bH P w aa β H g (cA σ l) e↔bH P w aa dL H0 g l e)
 |[],[],e,_=>by simp[cA,bH]
 |[],_::_,e,_=>by simp[cA,bH]
 |_::_,[],e,_=>by simp[cA,bH]
 |n::g,v::vs,e,d=>by
  simp only[aP]at d;simp only[cA,bH];exact exists_congr fun c=>exists_congr fun cs=>and_congr_right fun _=>and_congr (dM.Lp h v c d.1) (and_congr_right fun _=>dM.yC h g vs cs d.2)
theorem dM.CE(h:dM σ dL H0 β H):∀(a:AV)(v:be),aB (Small H0.length) a->(ar P w aa β H (cH σ a) v↔ar P w aa dL H0 a v)
 | .p _,_,_=>by simp[cH,ar]
 | .aC vs,_,d=>by
  simp only[aB]at d;simp only[cH,ar];exact exists_congr fun l=>and_congr_left fun _=>dM.oY h vs l d
 | .st u fs,cs,d=>by
  simp only[aB]at d;simp only[cH,ar];exact exists_congr fun l=>exists_congr fun e=>and_congr_right fun _=>and_congr_left fun _=>dM.yC h l fs e d
 | .func f fi ca,cs,d=>by
  simp only[aB]at d;simp only[cH,ar];exact exists_congr fun l=>exists_congr fun e=>and_congr (dM.oY h fi l d.1) (and_congr_left fun _=>dM.oY h ca e d.2)
 | .ptr b path,v,d=>by
  have:=h.pf (P:=P) (a:=.ptr b path) (v:=v) d;simp only[cH,ar,bI]at this⊢;simp only[this]
 | .bX b al ai i path,v,d=>by
  have:=h.pf (P:=P) (a:=.bX b al ai i path) (v:=v) d;simp only[cH,ar,bI]at this⊢;simp only[this]
 | .sl b al ai off len,v,d=>by
  have:=h.pf (P:=P) (a:=.sl b al ai off len) (v:=v) d;simp only[cH,ar,bI]at this⊢;simp only[this]
 | .map b,v,d=>by
  have:=h.pf (P:=P) (a:=.map b) (v:=v) d;simp only[cH,ar,bI]at this⊢;simp only[this]
theorem dM.oY(h:dM σ dL H0 β H):∀(l:List AV)(vs:List be),aP (Small H0.length) l->(bt P w aa β H (cA σ l) vs↔bt P w aa dL H0 l vs)
 |[],vs,_=>by simp[cA,bt]
 |a::l,vs,d=>by
  simp only[aP]at d;simp only[cA,bt];exact exists_congr fun y=>exists_congr fun j=>and_congr_right fun _=>and_congr (dM.CE h a y d.1) (dM.oY h l j d.2)
end
theorem dM.Oy(h:dM σ dL H0 β H){ah Prot0:Nat->Prop}{b:Nat}{o:Obj}(f:H0[b]?=some o)(c:o.refs (Small H0.length))(a:o.live->∀fz,cB aa dL Prot0 fz b↔cB aa β ah fz (σ b)):
 eL P w aa β H ah (σ b) (cX σ o)↔eL P w aa dL H0 Prot0 b o:=by
 have g:b<H0.length:=(ck.1 f).1;obtain⟨k1,k2⟩:=h.ak b g;cases o with
 |hole=>simp[cX,eL]
 |dead=>simp[cX,eL]
 |box fz t=>
  simp only[cX,eL,k1,<-a trivial,h.Lp t _ c,K3,Um]
 |arr k al ai es=>
  simp only[cX,eL,k1,k2,nt,rq,JQ]
  by_cases e:c8 k es
  ·simp[e]
  ·simp only[e,false_or,<-a e,h.yC _ es _ c]
 |map fz es=>
  simp only[cX,eL,k1,<-a trivial]
 |dt ks vs=>
  simp only[cX,eL,k1,<-a trivial,h.oY vs _ c]
 |dv s pos=>
  simp only[cX,eL,k1,<-a trivial]
 |loop L=>
  simp only[cX,eL,k1,<-a trivial,Bq];exact exists_congr fun t=>exists_congr fun d=>exists_congr fun fn=>and_congr_right fun _=>and_congr_right fun _=>and_congr_left fun _=>forall_congr' fun x=>h.CE _ _ (c x)
end
end
end Go.au
namespace Go.au
variable[Gl]
def sig(bs:List Nat)(a i:Nat):Nat:=match bs[i]? with
 |some b=>b
 |none=>a+(i-bs.length)
theorem rV{bs:List Nat}{a i:Nat}(h:i<bs.length):sig bs a i=bs[i]:=by simp[sig,h]
theorem rW{bs:List Nat}{a i:Nat}(h:bs.length<=i):sig bs a i=a+(i-bs.length):=by simp[sig,h]
theorem aAN{bs:List Nat}{a:Nat}(e:bs.Nodup)(d:∀b∈bs,b<a){i j:Nat}(h:sig bs a i=sig bs a j):i=j:=by
 by_cases hi:i<bs.length<;>by_cases c:j<bs.length
 ·rw[rV hi,rV c]at h;exact(List.getElem_inj e).1 h
 ·rw[rV hi,rW (by omega)]at h;have:=d _ (ei hi);omega
 ·rw[rW (by omega),rV c]at h;have:=d _ (ei c);omega
 ·rw[rW (by omega),rW (by omega)]at h;omega
theorem Ah:∀{l:List (Nat×Obj)}{H:Heap}{x:Nat},(∀p∈l,p.1≠x)->(bd H l)[x]?=H[x]?
 |[],_,_,_=>rfl
 |(b,o)::r,H,x,h=>by
  simp only[bd];rw[Ah (fun p a=>h p (by simp[a])),List.getElem?_set_ne (h (b,o) (by simp))]
theorem AP:∀{l:List (Nat×Obj)}{H:Heap},(l.map (·.1)).Nodup->∀p∈l,p.1<H.length->(bd H l)[p.1]?=some p.2
 |[],_,_,_,h,_=>by simp at h
 |(b,o)::r,H,a,p,c,hl=>by
  simp only[da,dp]at a;simp only[bd];rcases c6.1 c with rfl|c
  ·rw[Ah (fun q hq d=>a.1 (eo.2 ⟨q,hq,d⟩)),List.getElem?_set_self hl]
  ·exact AP a.2 p c (by simpa using hl)
theorem AJ(a:Nat):∀(l:List Obj),(newAt a l).map (·.1)=List.range' a l.length
 |[]=>rfl
 |o::r=>by simp[newAt,AJ (a+1) r,List.range'_succ]
theorem HW:∀(l:List Obj)(a j:Nat)(h:j<l.length),(a+j,l[j])∈newAt a l
 |[],_,_,h=>by simp at h
 |o::r,a,0,h=>by simp[newAt]
 |o::r,a,j+1,h=>by
  have:=HW r (a+1) j (by simpa using h);simp only[newAt,List.getElem_cons_succ,c6];right;have e:a+(j+1)=a+1+j:=by omega
  rw[e];exact this
section
variable{P:a6}{w w':bk}{aa aD ah:Nat->Prop}{β aJ:Bd}{H H':Heap}
theorem eL.mut{b:Nat}{o:Obj}(h:eL P w aa β H ah b o)(hl:o.live)(j:¬aa (β.ak b)):¬ah (β.ak b):=by
 have held:∀{fz},cB aa β ah fz b->¬ah (β.ak b):=by
  intro fz f;cases fz with
  |true=>exact(j (by simpa[cB]using f)).elim
  |false=>
   have:¬aa (β.ak b)/\¬ah (β.ak b):=by simpa[cB]using f
   exact this.2
 cases o with
 |hole=>exact hl.elim
 |dead=>exact hl.elim
 |box fz t=>
  obtain⟨cs,T,c,d,a,e⟩:=h;exact held a
 |arr k al ai es=>
  rcases h with h|⟨cs,T,l,rest,c,d,a,e,m,n,i,p⟩
  ·exact(hl h).elim
  ·exact held i
 |map fz es=>
  obtain⟨g,clock,c,d,a⟩:=h;exact held a
 |dt ks vs=>
  obtain⟨g,clock,c,d,a,e⟩:=h;exact held e
 |dv s pos=>
  obtain⟨bs,c,d,a⟩:=h;exact held a
 |loop L=>
  obtain⟨tmps,defers,fn,c,d,a,e⟩:=h;exact held e
theorem eL.carry(hi:∀k,aa k->aD k)(hs:∀k,aa k->w'.heap[k]?=w.heap[k]?)(aI:b8 β H aJ H'){b:Nat}{o:Obj}(l:o.refs (aH H))
 (j:o.live->w'.heap[β.ak b]?=w.heap[β.ak b]?/\aJ.ak b=β.ak b/\aJ.cap b=β.cap b)(held:o.live->∀fz,cB aa β ah fz b->cB aD aJ ah fz b)(h:eL P w aa β H ah b o):eL P w' aD aJ H' ah b o:=by
 cases o with
 |hole=>trivial
 |dead=>trivial
 |box fz t=>
  obtain⟨cs,T,d,e,f,i⟩:=h;obtain⟨a,c,g⟩:=j trivial;exact⟨cs,T,by rw[c,a];exact d,bf.mono hi hs aI _ _ l e,held trivial _ f,i⟩
 |arr k al ai es=>
  rcases h with h|⟨cs,T,n,rest,d,e,f,i,p,q,r,u⟩
  ·exact .inl h
  ·by_cases hl:c8 k es
   ·exact .inl hl
   ·obtain⟨a,c,g⟩:=j hl;exact .inr ⟨cs,T,n,rest,by rw[c,a];exact d,bH.mono hi hs aI _ _ _ l e,f,by rw[g];exact i,by rw[g];exact p,by rw[g];exact q,held hl _ r,u⟩
 |map fz es=>
  obtain⟨m,clock,d,e,f⟩:=h;obtain⟨a,c,g⟩:=j trivial;exact⟨m,clock,by rw[c,a];exact d,cC.mono hi hs _ _ e,held trivial _ f⟩
 |dt ks vs=>
  obtain⟨m,clock,d,e,f,i⟩:=h;obtain⟨a,c,g⟩:=j trivial;exact⟨m,clock,by rw[c,a];exact d,bg.mono hi hs _ _ e,bt.mono hi hs aI _ _ l f,held trivial _ i⟩
 |dv s pos=>
  obtain⟨bs,d,e,f⟩:=h;obtain⟨a,c,g⟩:=j trivial;exact⟨bs,by rw[c,a];exact d,e,held trivial _ f⟩
 |loop L=>
  obtain⟨tmps,defers,fn,d,e,f,i⟩:=h;obtain⟨a,c,g⟩:=j trivial;exact⟨tmps,defers,fn,by rw[c,a];exact d,e,fun x=>ar.mono hi hs aI _ _ (l x) (f x),held trivial _ i⟩
def dA(bs:List Nat)(a:Nat)(H0 bS:Heap)(b:AV):aU:=
 {v:=cH (sig bs a) b,aj:=bs.zip (H0.map (cX (sig bs a))),aK:=bs.zip ((bS.take H0.length).map (cX (sig bs a))),aS:=(bS.drop H0.length).map (cX (sig bs a))}
open Classical in
theorem Hz{H0 bS:Heap}{fq:List AV}{v0:AV}(bs:List Nat)(base:Nat)(hlen:bs.length=H0.length)(hnd:bs.Nodup)(hlt:∀b∈bs,b<base)
 (hl:H0.length<=bS.length)(ha:aP (aH H0) fq)(ho:∀(b:Nat)(o:Obj),H0[b]?=some o->o.refs (aH H0))
 {H:Heap}{w:bk}{aa ah:Nat->Prop}{β:Bd}{cargs:List be}(hr:bQ P w aa β H ah)(hargs:bt P w aa β H (cA (sig bs base) fq) cargs)
 (aj:∀p∈(dA bs base H0 bS v0).aj,H[p.1]?=some p.2)(aS:∀i,i<(dA bs base H0 bS v0).aS.length->H[base+i]?=some .hole):
 ∃(dL:Bd)(Prot0:Nat->Prop),(∀b,dL.ak b=β.ak (sig bs base b))/\bQ P w aa dL H0 Prot0/\bt P w aa dL H0 fq cargs/\(∀b,b<H0.length->(gC H (sig bs base b)↔gC H0 b))/\
  ∀(cv:be)(w':bk)(β0':Bd)(aD:Nat->Prop),bU P Prot0 aa w dL H0 aD w' β0' bS->ar P w' aD β0' bS v0 cv->aB (aH bS) v0->
   ∃aJ,bU P ah aa w β H aD w' aJ (bd H ((dA bs base H0 bS v0).aK++newAt base (dA bs base H0 bS v0).aS))/\
    ar P w' aD aJ (bd H ((dA bs base H0 bS v0).aK++newAt base (dA bs base H0 bS v0).aS)) (dA bs base H0 bS v0).v cv/\
    aB (aH (bd H ((dA bs base H0 bS v0).aK++newAt base (dA bs base H0 bS v0).aS))) (dA bs base H0 bS v0).v:=by
 obtain⟨σ,hσ⟩:∃σ,σ=sig bs base:=⟨_,rfl⟩
 have hinj:∀{i j},σ i=σ j->i=j:=fun{i j} h=>aAN hnd hlt (by rw[hσ]at h;exact h);have hold:∀{i}(hi:i<H0.length),σ i=bs[i]'(by omega):=fun hi=>by rw[hσ];exact rV _
 have hnw:∀{i},H0.length<=i->σ i=base+(i-H0.length):=fun hi=>by rw[hσ,rW (by omega),hlen]
 have hget:∀(b:Nat)(o:Obj),H0[b]?=some o->H[σ b]?=some (cX σ o):=by
  intro b o hb;obtain⟨hbl,rfl⟩:=ck.1 hb;have:=aj (bs[b]'(by omega),cX (sig bs base) H0[b]) (by
   simp only[dA];rw[c9];exact⟨b,by simp;omega,by simp⟩)
  rw[hold hbl,hσ];exact this
 have hnewH:∀i,H0.length<=i->i<bS.length->H[σ i]?=some .hole:=by
  intro i h1 h2;rw[hnw h1];exact aS (i-H0.length) (by simp[dA];omega)
 obtain⟨H2,hH2⟩:∃H2,H2=bd H ((dA bs base H0 bS v0).aK++newAt base (dA bs base H0 bS v0).aS):=⟨_,rfl⟩
 have hkeys:∀p∈(dA bs base H0 bS v0).aK++newAt base (dA bs base H0 bS v0).aS,∃i,i<bS.length/\p.1=σ i:=by
  intro p hp;rcases em.1 hp with hp|hp
  ·simp only[dA]at hp;have hm:=(dl hp).1;obtain⟨i,hi,he⟩:=c9.1 hm;exact⟨i,by omega,by rw[hold (by omega)];exact he.symm⟩
  ·have hm:p.1∈(newAt base (dA bs base H0 bS v0).aS).map (·.1):=eb hp
   rw[AJ,ec]at hm;simp only[dA,List.length_map,List.length_drop]at hm;exact⟨H0.length+(p.1-base),by omega,by rw[hnw (by omega)];omega⟩
 have hndk:(((dA bs base H0 bS v0).aK++newAt base (dA bs base H0 bS v0).aS).map (·.1)).Nodup:=by
  rw[en,AJ];have e:(dA bs base H0 bS v0).aK.map (·.1)=bs:=by
   simp only[dA];rw[List.map_fst_zip];simp;omega
  rw[e,List.nodup_append];refine⟨hnd,List.nodup_range',fun a h1 b h2 he=>?_⟩;subst he;have:=hlt _ h1;rw[ec]at h2;omega
 have hA:∀(i:Nat)(o:Obj),bS[i]?=some o->H2[σ i]?=some (cX σ o):=by
  intro i o hi;obtain⟨hil,rfl⟩:=ck.1 hi
  by_cases hi0:i<H0.length
  ·have hm:(bs[i]'(by omega),cX (sig bs base) bS[i])∈(dA bs base H0 bS v0).aK++newAt base (dA bs base H0 bS v0).aS:=by
    refine List.mem_append_left _ ?_;simp only[dA];rw[c9];exact⟨i,by simp;omega,by simp⟩
   have:=AP (H:=H) hndk _ hm (by
    have:=hget i _ (ce hi0);rw[hold hi0]at this;exact(ck.1 this).1)
   rw[hH2,hold hi0,this,hσ]
  ·have hm:(base+(i-H0.length),cX (sig bs base) bS[i])∈(dA bs base H0 bS v0).aK++newAt base (dA bs base H0 bS v0).aS:=by
    refine dz _ ?_;have:=HW (dA bs base H0 bS v0).aS base (i-H0.length) (by simp[dA];omega);have e:(dA bs base H0 bS v0).aS[i-H0.length]'(by simp[dA];omega)=cX (sig bs base) bS[i]:=by
     simp only[dA,List.getElem_map,List.getElem_drop];congr 2;omega
    rw[e]at this;exact this
   have:=AP (H:=H) hndk _ hm (by
    have:=hnewH i (by omega) hil;rw[hnw (by omega)]at this;exact(ck.1 this).1)
   rw[hH2,hnw (by omega),this,hσ]
 have hB:∀x,(∀i,i<bS.length->σ i≠x)->H2[x]?=H[x]?:=by
  intro x hx;rw[hH2];refine Ah fun p hp=>?_;obtain⟨i,h1,h2⟩:=hkeys p hp;rw[h2];exact hx i h1
 let dL:Bd:=⟨fun b=>β.ak (σ b),fun b=>β.cap (σ b)⟩
 let Prot0:Nat->Prop:=fun k=>ah k\/∃x o,H[x]?=some o/\o.live/\(∀i,i<H0.length->σ i≠x)/\β.ak x=k
 have hemb:dM σ dL H0 β H:=⟨hget,fun b _=>⟨rfl,rfl⟩⟩
 have small:∀x:Nat×Nat,aH H0 x->Small H0.length x:=fun x⟨o,ho,_⟩=>(ck.1 ho).1;have held0:∀{b:Nat}{o:Obj},H0[b]?=some o->o.live->∀fz,cB aa dL Prot0 fz b↔cB aa β ah fz (σ b):=by
  intro b o hb hlv fz;cases fz with
  |true=>simp[cB,dL]
  |false=>
   simp only[cB,a0,if_false];refine and_congr_right fun hni=>⟨fun h hp=>h (.inl hp),fun h hp=>?_⟩
   rcases hp with hp|⟨x,o',h1,h2,h3,h4⟩
   ·exact h hp
   ·exact h3 b (ck.1 hb).1 (hr.inj _ _ _ _ (hget b o hb) h1 (pH.2 hlv) h2 hni h4.symm)
 have hr0:bQ P w aa dL H0 Prot0:=by
  refine⟨fun b o hb=>?_,fun b b' o o' h1 h2 l1 l2 hni he=>?_,ho,hr.bR,fun k hk=>?_,hr.gU⟩
  ·exact(hemb.Oy hb ((ho b o hb).mono small) (held0 hb)).1 (hr.cF _ _ (hget b o hb))
  ·exact hinj (hr.inj _ _ _ _ (hget b o h1) (hget b' o' h2) (pH.2 l1) (pH.2 l2) hni he)
  ·rcases hk with hk|⟨x,o,h1,h2,_,rfl⟩
   ·exact hr.dT k hk
   ·exact hr.mb h1 h2
 have hargs0:bt P w aa dL H0 fq cargs:=by
  rw[<-hσ]at hargs;exact(hemb.oY _ _ (aP.mono small _ ha)).1 hargs
 refine⟨dL,Prot0,fun b=>by rw[<-hσ],hr0,hargs0,fun b hb=>by rw[<-hσ];exact hemb.loop hb,fun cv w' β0' aD hp hv hvr=>?_⟩
 let aJ:Bd:=⟨fun x=>if h:∃i,i<bS.length/\σ i=x then β0'.ak h.choose else β.ak x,fun x=>if h:∃i,i<bS.length/\σ i=x then β0'.cap h.choose else β.cap x⟩
 have hβ:∀i,i<bS.length->aJ.ak (σ i)=β0'.ak i/\aJ.cap (σ i)=β0'.cap i:=by
  intro i hi;have hex:∃j,j<bS.length/\σ j=σ i:=⟨i,hi,rfl⟩
  have hc:hex.choose=i:=hinj hex.choose_spec.2;simp only[aJ,dif_pos hex,hc,and_self]
 have hβn:∀x,(∀i,i<bS.length->σ i≠x)->aJ.ak x=β.ak x/\aJ.cap x=β.cap x:=by
  intro x hx;have hnex:¬∃i,i<bS.length/\σ i=x:=fun⟨i,h1,h2⟩=>hx i h1 h2;simp only[aJ,dif_neg hnex,and_self]
 have hemb':dM σ β0' bS aJ H2:=⟨hA,fun b hb=>hβ b hb⟩
 have small':∀x:Nat×Nat,aH bS x->Small bS.length x:=fun x⟨o,ho,_⟩=>(ck.1 ho).1;have split:∀x,(∃i,i<bS.length/\σ i=x)\/∀i,i<bS.length->σ i≠x:=by
  intro x
  by_cases hx:∃i,i<bS.length/\σ i=x
  ·exact .inl hx
  ·exact .inr fun i h1 h2=>hx ⟨i,h1,h2⟩
 have inOld:∀{i v},i<bS.length->aH H (σ i,v)->aH H0 (i,v)/\i<H0.length:=by
  intro i v hi ⟨o,h1,h2⟩
  by_cases hi0:i<H0.length
  ·refine⟨?_,hi0⟩;have:=hget i _ (ce hi0);simp only at h1;rw[this]at h1;cases h1;exact⟨_,ce hi0,K8.1 h2⟩
  ·have:=hnewH i (by omega) hi;simp only at h1;rw[this]at h1;cases h1;exact h2.elim
 have gJ:b8 β H aJ H2:=by
  refine⟨?_,?_,?_,?_,?_⟩
  ·intro b hb hlv;rcases split b with⟨i,hi,rfl⟩|hx
   ·obtain⟨k1,k2⟩:=inOld hi hb;obtain⟨g1,g2⟩:=hp.step.box i k1 ((hemb'.box hi).1 hlv);exact⟨(hemb.box k2).2 g1,(hβ i hi).1.trans g2⟩
   ·unfold me at hlv⊢;rw[hB b hx]at hlv;exact⟨hlv,(hβn b hx).1⟩
  ·intro b hb hlv;rcases split b with⟨i,hi,rfl⟩|hx
   ·obtain⟨k1,k2⟩:=inOld hi hb;obtain⟨g1,g2⟩:=hp.step.it i k1 ((hemb'.it hi).1 hlv);exact⟨(hemb.it k2).2 g1,(hβ i hi).1.trans g2⟩
   ·unfold mf at hlv⊢;rw[hB b hx]at hlv;exact⟨hlv,(hβn b hx).1⟩
  ·intro b hb hlv;rcases split b with⟨i,hi,rfl⟩|hx
   ·obtain⟨k1,k2⟩:=inOld hi hb;obtain⟨g1,g2⟩:=hp.step.map i k1 ((hemb'.map hi).1 hlv);exact⟨(hemb.map k2).2 g1,(hβ i hi).1.trans g2⟩
   ·unfold nw at hlv⊢;rw[hB b hx]at hlv;exact⟨hlv,(hβn b hx).1⟩
  ·intro b al ai k es hb hlv;rcases split b with⟨i,hi,rfl⟩|hx
   ·obtain⟨k1,k2⟩:=inOld hi hb;obtain⟨gp,g0,rfl⟩:=(hemb'.arr hi).1 hlv;obtain⟨k0,es1,g1,g2,g3,g4⟩:=hp.step.arr i al ai k gp k1 g0;refine⟨k0,cA σ es1,(hemb.arr k2).2 ⟨_,g1,rfl⟩,by rw[rq,rq];exact g2,by rw[nt,nt];exact g3,fun hn=>?_⟩;rw[nt]at hn;rw[(hβ i hi).1,(hβ i hi).2];exact g4 hn
   ·unfold ez at hlv⊢;rw[hB b hx]at hlv;exact⟨k,es,hlv,e8 _,Iff.rfl,fun _=>hβn b hx⟩
  ·intro b hb hlv;rcases split b with⟨i,hi,rfl⟩|hx
   ·obtain⟨k1,k2⟩:=inOld hi hb;obtain⟨g1,g2⟩:=hp.step.loop i k1 ((hemb'.loop hi).1 hlv);exact⟨(hemb.loop k2).2 g1,(hβ i hi).1.trans g2⟩
   ·unfold gC at hlv⊢;rw[hB b hx]at hlv;exact⟨hlv,(hβn b hx).1⟩
 have hinn:∀x,aH H x->aH H2 x:=by
  rintro⟨b,v⟩ hb;rcases split b with⟨i,hi,rfl⟩|hx
  ·obtain⟨k1,_⟩:=inOld hi hb;exact(hemb'.C2 (x:=(i,v)) hi).2 (hp.eH _ k1)
  ·obtain⟨o,h1,h2⟩:=hb;exact⟨o,by simp only;rw[hB b hx];exact h1,h2⟩
 have prot0:∀{x:Nat}{o:Obj},(∀i,i<bS.length->σ i≠x)->H[x]?=some o->o.live->Prot0 (β.ak x):=by
  intro x o hx h1 h2;exact .inr ⟨x,o,h1,h2,fun i hi=>hx i (by omega),rfl⟩
 have mut':∀{i:Nat}{o:Obj},bS[i]?=some o->o.live->¬aD (β0'.ak i)->¬Prot0 (β0'.ak i):=by
  intro i o h1 h2 h3;exact(hp.rel.cF i o h1).mut h2 h3
 have hrel:bQ P w' aD aJ H2 ah:=by
  refine⟨fun x o hx=>?_,fun x x' o o' h1 h2 l1 l2 hni he=>?_,fun x o hx=>?_,hp.rel.bR,fun k hk=>hp.rel.dT k (.inl hk),hp.rel.gU⟩
  ·rcases split x with⟨i,hi,rfl⟩|hn
   ·have hg:=hA i _ (ce hi);rw[hg]at hx;cases hx;refine(hemb'.Oy (Prot0:=Prot0) (ce hi) ((hp.rel.refs i _ (ce hi)).mono small') (fun hlv fz=>?_)).2 (hp.rel.cF i _ (ce hi));cases fz with
    |true=>simp[cB,(hβ i hi).1]
    |false=>
     simp only[cB,a0,if_false,(hβ i hi).1];exact⟨fun h=>⟨h.1,fun hp=>h.2 (.inl hp)⟩,fun h=>⟨h.1,mut' (ce hi) hlv h.1⟩⟩
   ·rw[hB x hn]at hx;refine eL.carry hp.bR (fun k hk=>hp.ext.same k (.inr hk)) gJ (hr.refs x o hx) (fun hlv=>⟨hp.ext.same _ (.inl (prot0 hn hx hlv)),hβn x hn⟩) (fun hlv fz hh=>?_) (hr.cF x o hx);have hp0:=prot0 hn hx hlv;cases fz with
    |true=>
     simp only[cB,if_true]at hh⊢;rw[(hβn x hn).1];exact hp.bR _ hh
    |false=>
     simp only[cB,a0,if_false]at hh⊢;rw[(hβn x hn).1];exact⟨fun hi=>(hp.fresh _ hi).elim hh.1 (fun h=>h hp0),hh.2⟩
  ·rcases split x with⟨i,hi,rfl⟩|hn<;>rcases split x' with⟨j,hj,rfl⟩|hn'
   ·have g1:=hA i _ (ce hi);have g2:=hA j _ (ce hj);rw[g1]at h1;cases h1;rw[g2]at h2;cases h2;rw[(hβ i hi).1,(hβ j hj).1]at he;rw[(hβ i hi).1]at hni;rw[hp.rel.inj i j _ _ (ce hi) (ce hj) (pH.1 l1) (pH.1 l2) hni he]
   ·have g1:=hA i _ (ce hi);rw[g1]at h1;cases h1;rw[hB x' hn']at h2;rw[(hβ i hi).1,(hβn x' hn').1]at he;rw[(hβ i hi).1]at hni;exact(mut' (ce hi) (pH.1 l1) hni (he▸prot0 hn' h2 l2)).elim
   ·have g2:=hA j _ (ce hj);rw[g2]at h2;cases h2;rw[hB x hn]at h1;rw[(hβ j hj).1,(hβn x hn).1]at he;rw[(hβn x hn).1]at hni;exact(mut' (ce hj) (pH.1 l2) (he▸hni) (he▸prot0 hn h1 l1)).elim
   ·rw[hB x hn]at h1;rw[hB x' hn']at h2;rw[(hβn x hn).1,(hβn x' hn').1]at he;rw[(hβn x hn).1]at hni;exact hr.inj _ _ _ _ h1 h2 l1 l2 (fun hi=>hni (hp.bR _ hi)) he
  ·rcases split x with⟨i,hi,rfl⟩|hn
   ·have hg:=hA i _ (ce hi);rw[hg]at hx;cases hx;rw[TI];exact(hp.rel.refs i _ (ce hi)).mono (fun y hy=>(hemb'.C2 (small' y hy)).2 hy)
   ·rw[hB x hn]at hx;exact(hr.refs x o hx).mono hinn
 refine⟨aJ,?_,?_,?_⟩
 ·rw[<-hH2];refine⟨hp.bR,fun k hk=>(hp.fresh k hk).imp id (fun h h'=>h (.inl h')),⟨hp.ext.size,fun k hk=>hp.ext.same k (hk.imp .inl id),hp.ext.io⟩,gJ,hrel,hinn,fun b hb=>?_⟩;rcases split b with⟨i,hi,rfl⟩|hx
  ·by_cases hi0:i<H0.length
   ·exact(hemb'.loop hi).2 (hp.loop i ((hemb.loop hi0).1 hb))
   ·obtain⟨L,hL⟩:=hb;rw[hnewH i (by omega) hi]at hL;cases hL
  ·unfold gC at hb⊢;rw[hB b hx];exact hb
 ·rw[<-hH2];show ar P w' aD aJ H2 (cH (sig bs base) v0) cv;rw[<-hσ];exact(hemb'.CE _ _ (aB.mono small' _ hvr)).2 hv
 ·rw[<-hH2];show aB (aH H2) (cH (sig bs base) v0);rw[<-hσ,A6];exact aB.mono (fun y hy=>(hemb'.C2 (small' y hy)).2 hy) _ hvr
theorem cR.frame{f:a8}{H0 bS:Heap}{fq:List AV}{g:AV}(h:cR P f H0 fq bS g)(bs:List Nat)(a:Nat)(q:bs.length=H0.length)(s:bs.Nodup)(r:∀b∈bs,b<a)
 (hl:H0.length<=bS.length)(d:aP (aH H0) fq)(t:∀(b:Nat)(o:Obj),H0[b]?=some o->o.refs (aH H0)):
 qI P f (cA (sig bs a) fq) a (dA bs a H0 bS g):=by
 refine⟨h.1,fun H w aa ah β m v n _ aj aS=>?_⟩;obtain⟨dL,i,-,x,p,-,back⟩:=Hz bs a q s r hl d t v n aj aS;refine(h.2 w aa i dL m x p d).mono ?_;rintro e w' ⟨c,A,aD,rfl,u,y,z⟩;obtain⟨aJ,j,k,l⟩:=back c w' A aD u y z;exact⟨c,aJ,aD,rfl,j,k,l⟩
theorem ia.frame{b:Nat}{H0 bS:Heap}{fq:List AV}{i:AV}(h:ia P b H0 fq bS i)(bs:List Nat)(a:Nat)(v:bs.length=H0.length)(z:bs.Nodup)(y:∀b∈bs,b<a)
 (hl:H0.length<=bS.length)(g:aP (aH H0) fq)(A:∀(b:Nat)(o:Obj),H0[b]?=some o->o.refs (aH H0)):
 sv P (sig bs a b) (cA (sig bs a) fq) a (dA bs a H0 bS i):=by
 intro H w aa ah β p C r _ aj aS;obtain⟨dL,j,t,D,s,x,back⟩:=Hz bs a v z y hl g A C r aj aS;have u:b<H0.length:=by
  obtain⟨L,q⟩:=h.1;exact(ck.1 q).1
 refine⟨(x b u).2 h.1,?_⟩;obtain⟨f,tmps,assign,body,d,e⟩:=h.2 w aa j dL p D s g;rw[t]at d e;refine⟨f,tmps,assign,body,d,fun n G=>?_⟩;obtain⟨c,w',I,aD,g1,B,E,F⟩:=e n G;obtain⟨aJ,k,l,m⟩:=back c w' I aD B E F;exact⟨c,w',aJ,aD,g1,k,l,m⟩
end
end Go.au
namespace Go.au
variable[Gl]
def jZ(b:Nat):List Nat->Nat->Option Nat
 |[],_=>none
 |x::r,i=>bif eq x b then some i else jZ b r (i+1)
theorem JT{b:Nat}:∀{l:List Nat}{i j:Nat},jZ b l i=some j->i<=j/\l[j-i]?=some b
 |[],_,_,h=>by simp[jZ]at h
 |x::r,i,j,h=>by
  simp only[jZ]at h;cases a:eq x b
  ·simp only[a,cond_false]at h;obtain⟨d,c⟩:=JT h;refine⟨by omega,?_⟩;have e:j-i=(j-(i+1))+1:=by omega
   rw[e,List.getElem?_cons_succ];exact c
  ·simp only[a,cond_true,fm]at h;subst h;simp[du a]
section
variable(bs:List Nat)
mutual
def lH:AV->Option AV
 | .p v=>some (.p v)
 | .ptr b path=>match jZ b bs 0 with
  |some i=>some (.ptr i path)
  |none=>none
 | .bX b al ai i path=>match jZ b bs 0 with
  |some j=>some (.bX j al ai i path)
  |none=>none
 | .sl b al ai off len=>match jZ b bs 0 with
  |some j=>some (.sl j al ai off len)
  |none=>none
 | .map b=>match jZ b bs 0 with
  |some j=>some (.map j)
  |none=>none
 | .func f fi ca=>match lC fi,lC ca with
  |some a,some b=>some (.func f a b)
  |_,_=>none
 | .st u fs=>match lC fs with
  |some a=>some (.st u a)
  |none=>none
 | .aC vs=>match lC vs with
  |some a=>some (.aC a)
  |none=>none
def lC:List AV->Option (List AV)
 |[]=>some []
 |v::r=>match lH v,lC r with
  |some a,some b=>some (a::b)
  |_,_=>none
end
def B7:Obj->Option Obj
 | .box fz t=>match lH bs t with
  |some a=>some (.box fz a)
  |none=>none
 | .arr k al ai es=>match lC bs es with
  |some a=>some (.arr k al ai a)
  |none=>none
 | .map fz es=>some (.map fz es)
 | .dt ks vs=>match lC bs vs with
  |some a=>some (.dt ks a)
  |none=>none
 | .dv s n=>some (.dv s n)
 | .dead=>some .dead
 |_=>none
def uN(H:Heap):List Nat->Option Heap
 |[]=>some []
 |b::r=>match H[b]? with
  |some o=>match B7 bs o,uN H r with
   |some a,some t=>some (a::t)
   |_,_=>none
  |none=>none
end
section
variable{bs:List Nat}{base:Nat}
theorem xF{b i:Nat}(h:jZ b bs 0=some i):sig bs base i=b:=by
 have:=(JT h).2;simp only[Nat.sub_zero]at this;simp[sig,this]
mutual
theorem IX:∀{a c:AV},lH bs a=some c->cH (sig bs base) c=a
 | .p v,c,h=>by simp only[lH,fm]at h;subst h;rfl
 | .ptr b path,c,h=>by
  simp only[lH]at h
  split at h
  ·rename_i i hi;simp only[fm]at h;subst h;simp only[cH,xF hi]
  ·simp at h
 | .bX b al ai i path,c,h=>by
  simp only[lH]at h
  split at h
  ·rename_i i hi;simp only[fm]at h;subst h;simp only[cH,xF hi]
  ·simp at h
 | .sl b al ai off len,c,h=>by
  simp only[lH]at h
  split at h
  ·rename_i i hi;simp only[fm]at h;subst h;simp only[cH,xF hi]
  ·simp at h
 | .map b,c,h=>by
  simp only[lH]at h
  split at h
  ·rename_i i hi;simp only[fm]at h;subst h;simp only[cH,xF hi]
  ·simp at h
 | .func f fi ca,c,h=>by
  simp only[lH]at h
  split at h
  ·rename_i a b d g;simp only[fm]at h;subst h;simp only[cH,oh d,oh g]
  ·simp at h
 | .st u fs,c,h=>by
  simp only[lH]at h
  split at h
  ·rename_i a d;simp only[fm]at h;subst h;simp only[cH,oh d]
  ·simp at h
 | .aC vs,c,h=>by
  simp only[lH]at h
  split at h
  ·rename_i a d;simp only[fm]at h;subst h;simp only[cH,oh d]
  ·simp at h
theorem oh:∀{l e:List AV},lC bs l=some e->cA (sig bs base) e=l
 |[],e,h=>by simp only[lC,fm]at h;subst h;rfl
 |v::r,e,h=>by
  simp only[lC]at h
  split at h
  ·rename_i a b d g;simp only[fm]at h;subst h;simp only[cA,IX d,oh g]
  ·simp at h
end
theorem Te{o c:Obj}(h:B7 bs o=some c):cX (sig bs base) c=o:=by
 cases o<;>simp only[B7]at h
 case box fz t=>
  split at h
  ·rename_i a b;simp only[fm]at h;subst h;simp only[cX,IX b]
  ·simp at h
 case arr k al ai es=>
  split at h
  ·rename_i a b;simp only[fm]at h;subst h;simp only[cX,oh b]
  ·simp at h
 case dt ks vs=>
  split at h
  ·rename_i a b;simp only[fm]at h;subst h;simp only[cX,oh b]
  ·simp at h
 case hole=>simp at h
 case loop=>simp at h
 all_goals (simp only[fm]at h;subst h;rfl)
theorem HC{H:Heap}:∀{l:List Nat}{H0:Heap},uN bs H l=some H0->H0.length=l.length/\∀p∈l.zip (H0.map (cX (sig bs base))),H[p.1]?=some p.2
 |[],H0,h=>by simp only[uN,fm]at h;subst h;simp
 |b::r,H0,h=>by
  simp only[uN]at h
  split at h
  case h_2=>simp at h
  rename_i o f
  split at h
  case h_2=>simp at h
  rename_i a t d e;simp only[fm]at h;subst h;obtain⟨i1,i2⟩:=HC e;refine⟨by simp[i1],fun p c=>?_⟩;simp only[da,List.zip_cons_cons,c6]at c;rcases c with rfl|c
  ·simp only[Te d];exact f
  ·exact i2 p c
end
mutual
def Nw:AV->List Nat->List Nat
 | .p _,acc=>acc
 | .ptr b _,acc| .bX b _ _ _ _,acc| .sl b _ _ _ _,acc| .map b,acc=>b::acc
 | .func _ fi ca,acc=>sV fi (sV ca acc)
 | .st _ fs,acc| .aC fs,acc=>sV fs acc
def sV:List AV->List Nat->List Nat
 |[],acc=>acc
 |v::r,acc=>Nw v (sV r acc)
end
def Yi:Obj->List Nat
 | .box _ t=>Nw t []
 | .arr _ _ _ es=>sV es []
 |_=>[]
def Ck(H:Heap):Nat->List Nat->List Nat->List Nat
 |0,_,acc=>acc
 |_,[],acc=>acc
 |n+1,b::r,acc=>match jZ b acc 0 with
  |some _=>Ck H n r acc
  |none=>Ck H n (match H[b]? with
   |some o=>Yi o++r
   |none=>r) (b::acc)
def nodupB:List Nat->Bool
 |[]=>true
 |x::r=>(match jZ x r 0 with
  |some _=>false
  |none=>true)&&nodupB r
theorem HL{b:Nat}:∀{l:List Nat}{i:Nat},jZ b l i=none->b∉l
 |[],_,_=>by simp
 |x::r,i,h=>by
  simp only[jZ]at h;cases a:eq x b
  ·simp only[a,cond_false]at h;have:=HL h;simp only[c6,not_or];refine⟨fun e=>?_,this⟩;subst e;rw[fb]at a;cases a
  ·simp[a]at h
theorem HT:∀{l:List Nat},nodupB l=true->l.Nodup
 |[],_=>List.nodup_nil
 |x::r,h=>by
  simp only[nodupB,aT]at h;rw[dp];refine⟨?_,HT h.2⟩;have a:=h.1
  split at a
  ·simp at a
  ·rename_i b;exact HL b
def y6(H:Heap)(b v:Nat):Bool:=match H[b]? with
 |some .hole|none=>false
 |some (.arr _ al _ _)=>ew v al
 |some _=>true
theorem Yk{H:Heap}{b v:Nat}(h:y6 H b v=true):aH H (b,v):=by
 unfold y6 at h
 split at h
 ·simp at h
 ·simp at h
 ·rename_i k al ai c a;exact⟨_,a,cW h⟩
 ·rename_i o d e a;refine⟨o,a,?_⟩;cases o with
  |hole=>exact(d rfl).elim
  |arr k al ai c=>exact(e _ _ _ _ rfl).elim
  |_=>trivial
mutual
def qx(H:Heap):AV->Bool
 | .p _=>true
 | .ptr b _| .map b=>y6 H b 0
 | .bX b al _ _ _| .sl b al _ _ _=>y6 H b al
 | .func _ fi ca=>mj H fi&&mj H ca
 | .st _ fs| .aC fs=>mj H fs
def mj(H:Heap):List AV->Bool
 |[]=>true
 |v::r=>qx H v&&mj H r
end
mutual
theorem A7{H:Heap}:∀{a:AV},qx H a=true->aB (aH H) a
 | .p _,_=>by simp[aB]
 | .ptr _ _,h| .map _,h| .bX _ _ _ _ _,h| .sl _ _ _ _ _,h=>by
  simp only[qx]at h;simp only[aB];exact Yk h
 | .func _ fi ca,h=>by
  simp only[qx,aT]at h;simp only[aB];exact⟨oi h.1,oi h.2⟩
 | .st _ _,h| .aC _,h=>by
  simp only[qx]at h;simp only[aB];exact oi h
theorem oi{H:Heap}:∀{l:List AV},mj H l=true->aP (aH H) l
 |[],_=>by simp[aP]
 |v::r,h=>by
  simp only[mj,aT]at h;simp only[aP];exact⟨A7 h.1,oi h.2⟩
end
def xX(H:Heap):Obj->Bool
 | .box _ t=>qx H t
 | .arr _ _ _ es=>mj H es
 | .dt _ vs=>mj H vs
 | .loop _=>false
 |_=>true
theorem HO{H:Heap}{o:Obj}(h:xX H o=true):o.refs (aH H):=by
 cases o<;>simp only[xX]at h<;>simp only[Obj.refs]
 ·exact A7 h
 ·exact oi h
 ·exact oi h
 ·simp at h
def ql(p:Obj->Bool):List Obj->Bool
 |[]=>true
 |o::r=>p o&&ql p r
theorem uG{p:Obj->Bool}:∀{l:List Obj},ql p l=true->∀o∈l,p o=true
 |[],_,o,h=>by simp at h
 |a::r,h,o,b=>by
  simp only[ql,aT]at h;rcases c6.1 b with rfl|b
  ·exact h.1
  ·exact uG h.2 o b
def xR(n:Nat):List Nat->Bool
 |[]=>true
 |x::r=>ew (x+1) n&&xR n r
theorem B3{n:Nat}:∀{l:List Nat},xR n l=true->∀x∈l,x<n
 |[],_,o,h=>by simp at h
 |a::r,h,o,b=>by
  simp only[xR,aT]at h;rcases c6.1 b with rfl|b
  ·exact cW h.1
  ·exact B3 h.2 o b
def xO:Obj->Bool
 | .hole=>false
 |_=>true
def uY(run:List AV->Heap->Option (AV×Heap))(args:List AV)(H:Heap):Option aU:=
 let bs:=Ck H 1000 (sV args []) []
 match lC bs args,uN bs H bs with
 |some fq,some H0=>bif nodupB bs&&(xR H.length bs&&(mj H0 fq&&ql (xX H0) H0))then
  match run fq H0 with
  |some (v0,H1)=>bif ew H0.length H1.length&&(ql xO (H1.take H0.length))then some (dA bs H.length H0 H1 v0)else none
  |none=>none
  else none
 |_,_=>none
theorem AY{P:a6}{f:a8}{run:List AV->Heap->Option (AV×Heap)}(n:∀args H v H',run args H=some (v,H')->cR P f H args H' v){args:List AV}{H:Heap}{e:aU}(h:uY run args H=some e):
 qI P f args H.length e/\oU H e:=by
 unfold uY at h;dsimp only at h
 split at h
 case h_2=>simp at h
 rename_i fq H0 g i;simp only[ay,fd,aT]at h;obtain⟨⟨g1,g2,g3,g4⟩,h⟩:=h
 split at h
 case h_2=>simp at h
 rename_i q H1 j;simp only[fd,fm]at h;obtain⟨⟨g5,g7⟩,rfl⟩:=h;obtain⟨k1,k2⟩:=HC (base:=H.length) i;have hf:=(n _ _ _ _ j).frame _ H.length k1.symm (HT g1) (B3 g2) (cW g5) (oi g3) (fun b o k=>HO (uG g4 o (dg k)));rw[oh g]at hf;refine⟨hf,k2,fun p d=>?_⟩;simp only[dA]at d;have c:=dl d;refine⟨B3 g2 _ c.1,fun l=>?_⟩;obtain⟨o,m,a⟩:=eo.1 c.2;rw[l]at a;have:=uG g7 o m;rw[UM.1 a]at this;simp[xO]at this
mutual
theorem xW:∀v:AV,cH (fun i=>i) v=v
 | .p _| .sl .. | .bX .. | .ptr .. | .map _=>rfl
 | .st u vs=>by simp only[cH,pL vs]
 | .aC vs=>by simp only[cH,pL vs]
 | .func f a b=>by simp only[cH,pL a,pL b]
theorem pL:∀l:List AV,cA (fun i=>i) l=l
 |[]=>rfl
 |v::l=>by simp only[cA,xW v,pL l]
end
theorem Ie:∀e:Env,sA (fun i=>i) e=e
 |[]=>rfl
 |(x,v)::r=>by simp only[sA,xW v,Ie r]
theorem aAw(o:Obj):cX (fun i=>i) o=o:=by
 cases o<;>simp only[cX,xW,pL,Ie]
theorem Lt(n:Nat):sig (cy n) n=fun i=>i:=by
 funext i
 by_cases h:i<n
 ·rw[rV (by simpa using h)];simp
 ·rw[rW (by simpa using h)];simp;omega
def vp(H:Heap):List (Nat×Obj):=(cy H.length).zip H
theorem Yj{H:Heap}{p:Nat×Obj}(h:p∈vp H):H[p.1]?=some p.2:=by
 rw[vp,c9]at h;obtain⟨i,hi,a⟩:=h;rw[List.getElem_zip]at a;subst a;simp
def yW(H:Heap):Env->Bool
 |[]=>true
 |(_,v)::r=>qx H v&&yW H r
theorem KM{H:Heap}:∀{e:Env},yW H e=true->∀x,aB (aH H) (aM e x)
 |[],_,x=>by simp[aM,aB]
 |(y,v)::r,h,x=>by
  simp only[yW,aT]at h;simp only[aM]
  split
  ·exact A7 h.1
  ·exact KM h.2 x
def L4(H:Heap):Obj->Bool
 | .loop L=>yW H L.env
 |o=>xX H o
theorem TJ{H:Heap}{o:Obj}(h:L4 H o=true):o.refs (aH H):=by
 cases o<;>first
  |exact HO h
  |exact KM h
def BJ(run:Nat->Heap->List AV->Option (Heap×AV))(b:Nat)(args:List AV)(H:Heap):Option aU:=
 bif mj H args&&ql (L4 H) H then
  match run b H args with
  |some (H1,v)=>bif ew H.length H1.length&&(ql xO (H1.take H.length))then some {v,aj:=vp H,aK:=(cy H.length).zip (H1.take H.length),aS:=H1.drop H.length}else none
  |none=>none
 else none
theorem SM{P:a6}{run:Nat->Heap->List AV->Option (Heap×AV)}(k:∀b H args H' v,run b H args=some (H',v)->ia P b H args H' v){b:Nat}{args:List AV}{H:Heap}{e:aU}(h:BJ run b args H=some e):
 sv P b args H.length e/\oU H e:=by
 unfold BJ at h;simp only[ay,fd,aT]at h;obtain⟨⟨g3,g4⟩,h⟩:=h
 split at h
 case h_2=>simp at h
 rename_i H1 f g;simp only[fd,fm]at h;obtain⟨⟨g5,g7⟩,rfl⟩:=h;have hf:=(k _ _ _ _ _ g).frame (cy H.length) H.length (by simp) ee (fun b a=>by simpa using a) (cW g5) (oi g3) (fun b o a=>TJ (uG g4 o (dg a)));have e:dA (cy H.length) H.length H H1 f={v:=f,aj:=vp H,aK:=(cy H.length).zip (H1.take H.length),aS:=H1.drop H.length}:=by
  simp only[dA,Lt,xW];rw[show(cX fun i=>i)=id from funext aAw,ea,ea,ea,vp]
 rw[e,Lt,pL]at hf;refine⟨hf,fun p c=>Yj c,fun p c=>?_⟩;have d:=dl c;refine⟨by simpa using d.1,fun j=>?_⟩;have:=uG g7 p.2 d.2;rw[j]at this;simp[xO]at this
end Go.au
