import Derived.Test.YtenbmieafgdjaaaGreatDoorRThC
/- Parts of a proof. -/
set_option linter.unusedSimpArgs false
set_option linter.unusedVariables false
set_option linter.unusedSectionVars false
open Array renaming getElem?_eq_some_iff->ao, getElem?_eq_getElem->ap, replicate->av, getD_eq_getD_getElem?->ax
open BitVec renaming ofInt->ay
open Bool renaming cond_eq_ite->aT, and_eq_true->a0, false_eq_true->a1
open Go renaming TypeId->a6, Program->a7, Operand->a8, FuncId->bb, BinOp->be, Value->bi, IntKind->bk, World->bl, ResultVar->bo, mem_ready->bv, getD_set_ne->b0, Frame->b1
open Go.Region renaming ready->b2, schedule->b3, binds->b4
open Go.Region.linearise renaming go->b5
open Go.Utf8 renaming decode->cb
open Int renaming natCast_nonneg->cc, ofNat_eq_natCast->ce, toNat_natCast->ck
open List renaming getElem?_eq_getElem->cx, getElem?_eq_some_iff->cy, replicate->c6, range->c9, mem_cons->da, mem_iff_getElem->db, map_cons->dg, all_eq_true->dk, mem_of_getElem?->dl, isEmpty_cons->dp, of_mem_zip->dq, nodup_cons->dz, map_nil->ea, mem_append_right->eb, map_id->ec, mem_map_of_mem->ed, mem_range'_1->ee, countP_congr->ei, nodup_range->ej, getElem_mem->em, countP_cons->en, mem_append->eo, map_append->eq, mem_map->ew
open Nat renaming beq->ey, ble->e6, ble_eq_true_of_le->e7, zero_le->e8, le_refl->e9, strongRecOn->fb, beq_refl->fd
open Option renaming ite_none_right_eq_some->fl, getD_some->fm
open Option.some renaming injEq->fv
namespace Go.aj
set_option linter.unusedSectionVars false
variable[Gl]
section
variable{P:a7}{ag:bb->Bool}{n:Nat}
variable{ops:Array Oper}{es:List (St×aS)}{s':St}
theorem cK.congr{ah ad:Nat->Prop}{β:Bd}{s u:St}{t:Array bi}{w:bl}(h:cK P n ah ad β s t w)(b:∀x,aM u.env x=aM s.env x)(a:u.heap=s.heap):cK P n ah ad β u t w:=by
 refine⟨by rw[a];exact h.heap,fun x=>?_,fun x=>?_,h.size⟩
 ·rw[b,a];exact h.env x
 ·rw[b,a];exact h.gD x
theorem cK.mS{ah ad:Nat->Prop}{β:Bd}{s:St}{t:Array bi}{w:bl}(m:Nat)(h:cK P n ah ad β s t w):cK P n ah ad β ⟨s.env,s.heap++c6 m .hole⟩ t w:=
 ⟨h.heap.mS m,fun x=>au.mono (fun _ x=>x) (fun _ _=>rfl) (oJ β s.heap m) _ _ (h.gD x) (h.env x),fun x=>aC.mono (mz _ _) _ (h.gD x),h.size⟩
theorem WG{o:Oper}{e e':Env}(h:∀x∈looks ops o,aM e' x=aM e x):∀x∈o.op.operands,ev e' x=ev e x:=by
 intro x hx;cases x with
 |tmp t=>
  simp only[ev];refine h t ?_;simp only[looks,eo,List.mem_filterMap];exact .inl ⟨.tmp t,by simpa using hx,rfl⟩
 |_=>rfl
theorem iU.run(h:iU P n ops es s'){D:Nat->Prop}(hc:vU ops D){i:Nat}{o:Oper}(a:ops[i]?=some o)(x:¬D i)(z:∀e∈o.after,b4 .any e=true->D e.on){s:St}(m:At ops es s' D s)
 {fr:b1}{k:List Item}{cs:List b1}{r:List Nat}{ds:List Deferred}{ah ad:Nat->Prop}{β:Bd}{t:Array bi}{w:bl}(b:cK P n ah ad β s t w):
 ∃u aD aH d w',Steps P (lone (bw fr t ds (.inRegion ops (i::r)::k)) cs w) (lone (bw fr d ds (.inRegion ops r::k)) cs w')/\cK P n ah aD aH u d w'/\(∀N,dJ N ah ad w β s.heap ah aD w' aH u.heap)/\At ops es s' (fun j=>D j\/j=i) u:=by
 obtain⟨g,A⟩:=h.reads hc a x z m;have hi:i<ops.size:=(ao.1 a).1;obtain⟨v,_⟩:=h.at_ i o a;have c:=h.next hc a x z m;have q:iT n o=true:=h.dst o (by rw[Array.mem_toList_iff];exact Array.mem_of_getElem? a);have H:=h.wM (k:=i) (by omega);rcases v.act with⟨f,C⟩|⟨f,E⟩
 ·obtain⟨aD,aH,d,w',B,a2,a3⟩:=C fr k cs ops i r ds ah ad β s t w a (f t s ah ad β w b g) q b (WG g) (by
   intro p y;rw[A p.1 (.inl (ed y))];have:=v.ak p y;unfold hx;rw[List.getElem?_append_left (cy.1 this).1];exact this) (by
   intro j G;have F:(cW es s' i).heap.length+j∈wr es s' i:=by
    unfold wr um;rw[eq,sH];exact eb _ (H4.2 ⟨by omega,by omega⟩)
   rw[A _ (.inr F)];have l:=h.wM (k:=i+1) (by omega);rw[(h.at_ i o a).2]at l;simp only[aS.app,List.length_append,oH]at l;unfold hx;rw[jZ,if_neg (by omega),if_pos (by omega)])
  exact⟨_,aD,aH,d,w',B,a2,a3,c⟩
 ·rw[E]at c;simp only[newAt,List.append_nil,bm]at c;exact⟨_,ad,β,_,w,.one (JE a (f t s ah ad β w b g)),b.put q (bR.refl b.heap) (by simp[au,aA,bn,undef]) (by simp[aC]),fun _=>dJ.refl _ _ _ _ _ _,c⟩
def isDone(a:Array Bool)(i:Nat):Prop:=a.getD i false=true
theorem IK{p:Nat->Bool}{i:Nat}:∀{l:List Nat},l.Nodup->i∈l->p i=true->l.countP p=l.countP (fun x=>p x&&x !=i)+1
 |[],_,h,_=>by simp at h
 |a::l,c,h,d=>by
  rw[dz]at c
  by_cases b:a=i
  ·subst b;have e:l.countP (fun x=>p x&&x !=a)=l.countP p:=by
    refine ei fun x hx=>?_;have:x≠a:=fun e=>c.1 (e▸hx);simp[this]
   simp[d,e]
  ·have f:i∈l:=by
    rcases da.1 h with h|h
    ·exact(b h.symm).elim
    ·exact h
   have g:=IK c.2 f d;rw[en,en,g];have:(a !=i)=true:=by simpa using b
   simp only[this,Bool.and_true];omega
def left(b:Array Oper)(a:Array Bool):Nat:=(c9 b.size).countP fun i=>!a.getD i true
theorem iU.goes(h:iU P n ops es s'){fr:b1}{k:List Item}{cs:List b1}{ds:List Deferred}{ah:Nat->Prop}:∀(c b:Nat)(a:Array Bool)(s:St)(ad:Nat->Prop)(β:Bd)(t:Array bi)(w:bl),a.size=ops.size->left ops a<=c->vU ops (isDone a)->
 At ops es s' (isDone a) s->cK P n ah ad β s t w->
 ∃u D aD aH R w',Steps P (lone (bw fr t ds (.inRegion ops (b5 .any ops c b a [])::k)) cs w) (lone (bw fr R ds (.inRegion ops []::k)) cs w')/\cK P n ah aD aH u R w'/\(∀N,dJ N ah ad w β s.heap ah aD w' aH u.heap)/\At ops es s' D u/\∀j,j<ops.size->D j:=by
 have L:∀(a:Array Bool),a.size=ops.size->b2 .any ops a=[]->∀j,j<ops.size->isDone a j:=by
  intro a q f j
  induction j using fb with
  |_ j K=>
   intro d
   by_cases A:isDone a j
   ·exact A
   ·exfalso;have G:j<a.size:=by omega
    have:j∈b2 .any ops a:=by
     rw[bv];refine⟨?_,ops[j],ap d,fun e B z=>?_⟩
     ·unfold isDone at A;simp only[ax,ap G,fm]at A⊢;simpa using A
     ·have H:=h.lower j _ (ap d) e B z;exact K e.on H (by omega)
    rw[f]at this;simp at this
 intro c
 induction c with
 |zero=>
  intro b a s ad β t w q O hc y C;have f:b2 .any ops a=[]:=by
   rw[List.eq_nil_iff_forall_not_mem];intro j d;rw[bv]at d;obtain⟨g,o,m,_⟩:=d;have G:j<ops.size:=(ao.1 m).1;have:0<left ops a:=by
    unfold left;rw[List.countP_pos_iff];exact⟨j,by simpa using G,by rw[g];rfl⟩
   omega
  exact⟨s,isDone a,ad,β,t,w,by simp only[b5,List.reverse_nil];exact Steps.refl _ _,C,fun _=>dJ.refl _ _ _ _ _ _,y,L a q f⟩
 |succ c K=>
  intro b a s ad β t w q O hc y C;have ab:b5 .any ops (c+1) b a []=(match(b2 .any ops a)[b% (b2 .any ops a).length]? with
   |some i=>b5 .any ops c (b/(b2 .any ops a).length) (a.setIfInBounds i true) [i]
   |none=>[].reverse):=rfl
  rw[ab];cases hi:(b2 .any ops a)[b% (b2 .any ops a).length]? with
  |none=>
   have f:b2 .any ops a=[]:=by
    cases f:b2 .any ops a with
    |nil=>rfl
    |cons x xs=>
     rw[f]at hi;have H:b% (x::xs).length<(x::xs).length:=Nat.mod_lt _ (by simp);rw[cx H]at hi;cases hi
   exact⟨s,isDone a,ad,β,t,w,Steps.refl _ _,C,fun _=>dJ.refl _ _ _ _ _ _,y,L a q f⟩
  |some i=>
   simp only;rw[linearise_go_acc,List.reverse_singleton,List.singleton_append];have af:=dl hi;obtain⟨g,o,m,Q⟩:=bv.1 af;have ac:i<ops.size:=(ao.1 m).1;have E:i<a.size:=by omega
   have ag:¬isDone a i:=by
    unfold isDone;simp only[ax,ap E,fm]at g⊢;simp[g]
   obtain⟨u,S,ak,t1,ai,U,a2,a3,a4⟩:=h.run (fr:=fr) (k:=k) (cs:=cs) (ds:=ds) (r:=b5 .any ops c (b/(b2 .any ops a).length) (a.setIfInBounds i true) []) hc m ag Q y C;have M:(fun j=>isDone a j\/j=i)=isDone (a.setIfInBounds i true):=by
    funext j
    unfold isDone
    by_cases F:j=i
    ·subst F;simp[E]
    ·have:(a.setIfInBounds i true).getD j false=a.getD j false:=b0 false (Ne.symm F);rw[this];simp[F]
   rw[M]at a4;have aa:vU ops (isDone (a.setIfInBounds i true)):=by
    rw[<-M];intro j o' I d e B z;rcases d with d|rfl
    ·exact .inl (hc j o' I d e B z)
    ·rw[m]at I;cases I;exact .inl (Q e B z)
   have ae:left ops (a.setIfInBounds i true)<=c:=by
    have am:=IK (p:=fun j=>!a.getD j true) (i:=i) (l:=c9 ops.size) ej (by simpa using ac) (by show(!a.getD i true)=true;rw[g];rfl);have:left ops (a.setIfInBounds i true)=(c9 ops.size).countP (fun x=>!a.getD x true&&x !=i):=by
     unfold left;refine ei fun x hx=>?_
     by_cases J:x=i
     ·subst J;simp[E]
     ·have:(a.setIfInBounds i true).getD x true=a.getD x true:=b0 true (Ne.symm J);rw[this];simp[J]
    unfold left at O;omega
   obtain⟨v,D,T,al,t2,aj,V,W,X,Y,Z⟩:=K (b/(b2 .any ops a).length) (a.setIfInBounds i true) u S ak t1 ai (by simpa using q) ae aa a4 a2;exact⟨v,D,T,al,t2,aj,U.trans V,W,fun N=>(a3 N).trans (X N),Y,Z⟩
theorem WD(h:fit n ops=true):(∀j o,ops[j]?=some o->∀e∈o.after,b4 .any e=true->e.on<j)/\
 (∀i j u o,i<j->ops[i]?=some u->ops[j]?=some o->qx ops u o=true->reach ops ops.size i j=true):=by
 unfold fit at h;rw[dk]at h;constructor
 ·intro j o a e f c;have b:j<ops.size:=(ao.1 a).1;have:=h j (by simpa using b);rw[a]at this;simp only[a0,dk]at this;have:=this.1 e (by simpa using f);simpa[c]using this
 ·intro i j u o g k a d;have b:j<ops.size:=(ao.1 a).1;have:=h j (by simpa using b);rw[a]at this;simp only[a0,dk]at this;have:=this.2 i (by simpa using g);rw[k]at this;simpa[d]using this
theorem xK(C:lJ P ag)(Z:P.follows .mixedOrders=true):sL P ag fit:=by
 intro n N a fr k cs F f K s ah ad β t w T B h aa;obtain⟨es,s',I,J,M⟩:=Kw C B a.toList 0 [] s (fun _ h=>h) h;obtain⟨t1,t2,t3⟩:=I.at;obtain⟨_,_,O⟩:=I3 es 0 [] M;obtain⟨f1,f2⟩:=WD (n:=n) T;have X:es.length=a.size:=by simpa using t1
 have hs:iU P n a es s':=by
  refine⟨X,fun k o c=>t3 k o (by simpa using c),B,f1,f2,fun i j U ai v=>?_⟩;have hi:i<es.length:=by omega
  have A:j<es.length:=by omega
  have G:es[i]?=some (es[i].1,es[i].2):=by simp[cx hi]
  have H:es[j]?=some (es[j].1,es[j].2):=by simp[cx A]
  have:=O i j es[i].1 es[i].2 es[j].1 es[j].2 U G H;simp only[Nat.zero_add]at this;refine this ?_;have g:cW es s' i=es[i].1/\fB es i=es[i].2:=by simp[cW,fB,cx hi]
  have q:cW es s' j=es[j].1/\fB es j=es[j].2:=by simp[cW,fB,cx A]
  rw[g.1,g.2,q.1,q.2]at v;exact v
 have V:=hs.wM (k:=0) (e8 _);rw[t2]at V;obtain⟨m,Y⟩:∃m,m=s'.heap.length-s.heap.length:=⟨_,rfl⟩
 have ab:=aa.mS m;have Q:∀N,dJ N ah ad w β s.heap ah ad w β (s.heap++c6 m .hole):=fun N=>⟨fun _ x=>x,fun _ x=>x,fun _ x=>.inl x,Ext.refl _ _ _,(oJ _ _ _).n,fun x _=>mz _ _ x,fun b _⟨L,r⟩=>⟨L,by rw[jZ,if_pos (cy.1 r).1];exact r⟩⟩
 have ac:b3 (P.follows .mixedOrders) a f=b5 .any a a.size f (av a.size false) []:=by
  simp[b3,Z,Region.linearise]
 have e:∀i,¬isDone (av a.size false) i:=by
  intro i hi;unfold isDone at hi
  by_cases z:i<a.size
  ·simp[z]at hi
  ·simp[z]at hi
 have R:At a es s' (isDone (av a.size false)) ⟨s.env,s.heap++c6 m .hole⟩:=by
  refine⟨fun x=>⟨0,e8 _,by rw[t2],fun i o _ _=>⟨fun h=>(e i h).elim,fun h=>by omega⟩⟩,by simp;omega,fun b=>⟨0,e8 _,by rw[t2];unfold hx;rw[<-Y],fun i _ _=>⟨fun h=>(e i h).elim,fun h=>by omega⟩⟩⟩
 have W:left a (av a.size false)<=a.size:=by
  unfold left;have:=List.countP_le_length (p:=fun i=>!(av a.size false).getD i true) (l:=c9 a.size);simpa using this
 obtain⟨u,D,aD,aH,af,w',E,a2,a3,a4,a5⟩:=hs.goes (fr:=fr) (k:=k) (cs:=cs) (ds:=F) a.size f (av a.size false) _ ad β t w (by simp) W (fun j o c d=>(e j d).elim) R ab;rw[ac];have S:∀x,aM s'.env x=aM u.env x:=by
  intro x;obtain⟨k,k1,k2,k3⟩:=a4.tmp x;rw[k2];have:=hs.LQ (x:=x) k1 (e9 a.size) (fun i o c d=>by
   have hi:i<a.size:=(ao.1 c).1;have:=(k3 i o c d).1 (a5 i hi);exact⟨fun _=>hi,fun _=>this⟩)
  rw[hs.last]at this;exact this
 have y:s'.heap=u.heap:=by
  apply List.ext_getElem?;intro b;obtain⟨k,k1,k2,k3⟩:=a4.heap b;rw[k2];have:=hs.Ly (b:=b) k1 (e9 a.size) (fun i hi ae=>by
   have:=(k3 i hi ae).1 (a5 i hi);exact⟨fun _=>hi,fun _=>this⟩)
  rw[hs.last]at this;rw[<-this];simp[hx]
 exact⟨s',aD,aH,af,w',J,E,a2.congr S y,(Q N).trans (y▸a3 N)⟩
end
section
variable{P:a7}
structure an(P:a7)(f:bb)(fn:Func):Prop where
 func:P.funcs[f]?=some fn
 stat:(fn.body.isSome&&(fn.name != "runtime.NumGoroutine")&&codeOk fit fn.ntmps (fn.body.getD .skip))=true
theorem an.enters{f:bb}{fn:Func}(h:an P f fn):Enters P f:=by
 intro args w;have hs:=h.stat;simp only[a0,bne_iff_ne]at hs;cases a:fn.body with
 |none=>rw[a]at hs;simp at hs
 |some c=>simp[callFunc,h.func,hs.1.2,a]
def Ends(P:a7)(a:List bo)(v:PV)(e:bp)(s:St):Prop:=
 (match e with
  | .exit _=>False
  |_=>True)/\∃vs,fE P s a=some vs/\eh s.heap 9 (oneOf vs)=some v
theorem tY{f:bb}{fn:Func}(ag:bb->Bool)(h:an P f fn)(b:P.follows .mixedOrders=true){args:List PV}{v:PV}(c:args.length<=fn.ntmps)
 (d:b7 P ag (fn.ntmps,0) (fn.body.getD .skip) (Ends P fn.results.toList v) ⟨iD 0 (args.map .p),[]⟩):aw P f args v:=by
 have hs:=h.stat;simp only[a0,bne_iff_ne]at hs;have a:fn.body=some (fn.body.getD .skip):=by
  have:=hs.1.1;cases e:fn.body<;>simp_all
 exact .inl (KX (oI ag) (xK (oI ag) b) h.enters h.func a hs.2 c d)
class aHz(P:a7)(f:bb)(args:List PV)(pre:outParam Prop)(v:outParam PV):Prop where
 tY:pre->aw P f args v
section calls
variable{f:bb}{H:Heap}{pre:Prop}{v:PV}
end calls
def rE(e:Env):Env->Prop
 |[]=>True
 |(x,v)::r=>aM e x=v/\rE e r
def ku:Heap->Heap->Prop
 |_,[]=>True
 |[],.hole::t=>ku [] t
 |_::h,.hole::t=>ku h t
 |o::h,o'::t=>o=o'/\ku h t
 |[],_::_=>False
theorem rE.get{e:Env}:∀{t:Env},rE e t->∀x,aM t x=aM e x\/aM t x=.p .undef
 |[],_,x=>.inr rfl
 |(y,v)::t,h,x=>by
  simp only[rE]at h;simp only[aM]
  split
  ·rename_i hx;subst hx;exact .inl h.1.symm
  ·exact rE.get h.2 x
theorem ku.get:∀{h t:Heap},ku h t->∀(b:Nat)(o:Obj),t[b]?=some o->o=.hole\/h[b]?=some o
 |_,[],_,b,o,a=>by simp at a
 |[],o'::t,hk,b,o,a=>by
  cases o'<;>simp only[ku]at hk;cases b with
  |zero=>simp at a;exact .inl a.symm
  |succ b=>exact(ku.get hk b o (by simpa using a)).imp id (fun h=>by simp at h)
 |c::h,o'::t,hk,b,o,a=>by
  cases b with
  |zero=>
   simp at a;cases o'<;>simp only[ku]at hk
   case hole=>exact .inl a.symm
   all_goals exact .inr (by rw[<-a,<-hk.1];simp)
  |succ b=>
   have:ku h t:=by cases o'<;>simp only[ku]at hk<;>first|exact hk|exact hk.2
   exact(ku.get this b o (by simpa using a)).imp id (fun h=>by simpa using h)
def iF(H:Heap):Env->Prop
 |[]=>True
 |(_,v)::r=>aC (aG H) v/\iF H r
def eE(H:Heap):Heap->Prop
 |[]=>True
 |o::r=>o.refs (aG H)/\eE H r
theorem iF.get{H:Heap}:∀{e:Env},iF H e->∀x,aC (aG H) (aM e x)
 |[],_,x=>by simp[aM,aC]
 |(y,v)::e,h,x=>by
  simp only[iF]at h;simp only[aM]
  split
  ·exact h.1
  ·exact iF.get h.2 x
theorem eE.get{H:Heap}:∀{h:Heap},eE H h->∀(b:Nat)(o:Obj),h[b]?=some o->o.refs (aG H)
 |[],_,b,o,a=>by simp at a
 |d::h,c,b,o,a=>by
  simp only[eE]at c;cases b with
  |zero=>simp at a;subst a;exact c.1
  |succ b=>exact eE.get c.2 b o (by simpa using a)
theorem pF.of{s t:St}(a:rE s.env t.env)(c:ku s.heap t.heap)(e:iF t.heap t.env)(f:eE t.heap t.heap):pF s t:=
 ⟨fun x=>(a.get x).imp id .inl,fun b o d=>(c.get b o d).imp id .inl,e.get,f.get⟩
theorem dE.of{N:Nat}{s t:St}(e:t.heap.take N=s.heap.take N)(c:rE s.env t.env)(d:ku s.heap t.heap)(f:iF t.heap t.env)(g:eE t.heap t.heap):dE N s t:=by
 refine .inr ⟨pF.of c d f g,fun b a=>?_⟩;have:=congrArg (fun l:Heap=>l[b]?) e;simpa[List.getElem?_take,a]using this
theorem Pg{f:bb}{fn:Func}(ag:bb->Bool)(h:an P f fn)(b:P.follows .mixedOrders=true){args:List AV}{H H':Heap}{v:AV}(c:args.length<=fn.ntmps)
 (d:b7 P ag (fn.ntmps,H.length) (fn.body.getD .skip) (tR P fn.results.toList H.length H' v) ⟨iD 0 args,H⟩):c7 P f H args H' v:=by
 have hs:=h.stat;simp only[a0,bne_iff_ne]at hs;have a:fn.body=some (fn.body.getD .skip):=by
  have:=hs.1.1;cases e:fn.body<;>simp_all
 exact WC (oI ag) (xK (oI ag) b) h.enters h.func a hs.2 c d
theorem Ph(ag:bb->Bool)(f:P.follows .mixedOrders=true){b:Nat}{L:fg}{H H':Heap}{args:List AV}{v:AV}(d:H[b]?=some (.loop L))(e:args.length=L.params.length)
 (a:(L.params.all (fun x=>decide (x<L.n))&&codeOk fit L.n L.assign&&codeOk fit L.n L.body)=true)(g:yw P ag L b args H (fun c h=>h=v/\dE H.length ⟨[],c⟩ ⟨[],H'⟩)):ir P b H args H' v:=by
 simp only[a0,dk,decide_eq_true_eq]at a;exact WA (oI ag) (xK (oI ag) f) d e a.1.1 a.1.2 a.2 g
theorem again{N:Nat}{α:Type}{mk:α->St}{ok:α->Prop}{m:α->Nat}{n:Nat}{s':St}(a':α)(c:m a'<n)(d:ok a')(e:dE N s' (mk a')):∃a b,a<n/\dE N s' b/\∃a',ok a'/\b=mk a'/\a=m a':=
 ⟨m a',mk a',c,e,a',d,rfl,rfl⟩
end
section
variable{P:a7}{ag:bb->Bool}
def aO{α:Type}(F:(α->Prop)->Prop):Prop:=∀K,F K->∃a,K a/\∀b:α->Prop,b a->F b
theorem aO.one{α β:Type}(f:β->α)(b:β):aO (fun K:α->Prop=>K (f b)):=fun _ h=>⟨f b,h,fun _ h=>h⟩
theorem aO.false{α:Type}:aO (fun _:α->Prop=>False):=fun _ h=>h.elim
theorem aO.and{α:Type}{p:Prop}{F:(α->Prop)->Prop}(h:aO F):aO (fun K=>p/\F K):=fun K hk=>by
 obtain⟨a,c,d⟩:=h K hk.2;exact⟨a,c,fun b h=>⟨hk.1,d b h⟩⟩
theorem aO.ex{α:Type}{β:Sort _}{F:β->(α->Prop)->Prop}(h:∀b,aO (F b)):aO (fun K=>∃b,F b K):=fun K⟨b,f⟩=>by
 obtain⟨a,d,e⟩:=h b K f;exact⟨a,d,fun c h=>⟨b,e c h⟩⟩
theorem aO.or{α:Type}{F G:(α->Prop)->Prop}(h:aO F)(e:aO G):aO (fun K=>F K\/G K):=fun K hk=>by
 rcases hk with hk|hk
 ·obtain⟨a,c,d⟩:=h K hk;exact⟨a,c,fun b h=>.inl (d b h)⟩
 ·obtain⟨a,c,d⟩:=e K hk;exact⟨a,c,fun b h=>.inr (d b h)⟩
theorem aO.ite{α:Type}{p:Prop}[Decidable p]{F G:(α->Prop)->Prop}(h:aO F)(f:aO G):aO (fun K=>if p then F K else G K):=fun K hk=>by
 split at hk
 ·rename_i e;obtain⟨a,c,d⟩:=h K hk;exact⟨a,c,fun b h=>by simpa[e]using d b h⟩
 ·rename_i e;obtain⟨a,c,d⟩:=f K hk;exact⟨a,c,fun b h=>by simpa[e]using d b h⟩
theorem aO.bind{α β:Type}{F:(α->Prop)->Prop}{G:α->(β->Prop)->Prop}(h:aO F)(d:∀a,aO (G a)):aO (fun K=>F (fun a=>G a K)):=fun K hk=>by
 obtain⟨a,e,f⟩:=h _ hk;obtain⟨b,g,i⟩:=d a K e;exact⟨b,g,fun c h=>f _ (i c h)⟩
theorem aO.map{α β:Type}{F:(α->Prop)->Prop}(h:aO F)(f:α->β):aO (fun K=>F (fun a=>K (f a))):=h.bind fun a=>aO.one f a
theorem Vd(T:a6)(H:Heap)(a:AV):aO (nT P T H a):=by
 unfold nT
 repeat' first
  |exact aO.false
  |exact aO.one id _
  |refine aO.and ?_
  |refine aO.ex fun _=>?_
  |split
theorem UR(T:a6)(H:Heap)(a x:AV):aO (nI P T H a x):=by
 unfold nI
 repeat' first
  |exact aO.false
  |exact aO.one id _
  |refine aO.and ?_
  |refine aO.ex fun _=>?_
  |split
theorem SF(T:a6)(a:AV)(f:Nat):aO (nw P T a f):=by
 unfold nw
 repeat' first
  |exact aO.false
  |exact aO.one id _
  |refine aO.and ?_
  |refine aO.ex fun _=>?_
  |split
theorem SE(T:a6)(H:Heap)(a i:AV):aO (nv P T H a i):=by
 unfold nv
 repeat' first
  |exact aO.false
  |exact aO.one id _
  |refine aO.and ?_
  |refine aO.ex fun _=>?_
  |split
theorem Tq(T X:a6)(H:Heap)(s x:AV):aO (nB P T X H s x):=by
 unfold nB
 repeat' first
  |exact aO.false
  |exact aO.one id _
  |refine aO.and ?_
  |refine aO.ex fun _=>?_
  |refine aO.ite ?_ ?_
  |split
theorem KA{α:Type}{F:Nat->(α->Prop)->Prop}(x:Option AV)(d:Nat)(h:∀n,aO (F n)):aO (fun K=>gC x d (fun n=>F n K)):=by
 unfold gC
 split
 ·exact h _
 ·exact aO.and (h _)
 ·exact aO.false
theorem US(T:a6)(H:Heap)(x:AV)(lo hi a:Option AV):aO (nJ P T H x lo hi a):=by
 unfold nJ;refine aO.and ?_
 repeat' first
  |exact aO.false
  |exact aO.one id _
  |refine aO.and ?_
  |refine KA _ _ fun _=>?_
  |refine aO.ite ?_ ?_
  |split
theorem Tp(T:a6)(H:Heap)(x:AV)(lo hi:Option AV)(m:AV):aO (qy P T H x lo hi m):=by
 unfold qy
 repeat' first
  |exact aO.false
  |exact aO.one id _
  |refine aO.and ?_
  |refine KA _ _ fun _=>?_
  |split
theorem V8(op:be)(T:a6)(c:Bool)(H:Heap)(x y:AV)(f:PV->aS):aO (fun K:aS->Prop=>kt P op T c H x y (fun v=>K (f v))):=by
 unfold kt
 repeat' first
  |exact aO.false
  |exact aO.one f _
  |refine aO.and ?_
  |(unfold pI;split)
  |(unfold pH;split)
  |split
theorem Sa(a:a6)(b:Nat)(key:PV)(x:AV)(c:Obj):aO (oG P a b key x c):=by
 unfold oG
 repeat' first
  |exact aO.false
  |exact aO.one id _
  |refine aO.and ?_
  |split
theorem Ct(o:Oper)(ρ:a8->AV)(H:Heap):aO (fy P ag o ρ H):=by
 unfold fy
 repeat' first
  |exact aO.false
  |exact aO.one id _
  |exact Vd _ _ _
  |exact UR _ _ _ _
  |exact SF _ _ _
  |exact SE _ _ _ _
  |exact US _ _ _ _ _ _
  |exact Tp _ _ _ _ _ _
  |exact Tq _ _ _ _ _
  |exact Sa _ _ _ _ _
  |exact V8 _ _ _ _ _ _ _
  |refine aO.and ?_
  |refine aO.ex fun _=>?_
  |refine aO.ite ?_ ?_
  |refine aO.or ?_ ?_
  |split
  |dsimp only
theorem JJ(d:Bool)(f:bb)(args:List AV)(H:Heap){α:Type}(g:AV->Heap->α):aO (fun K:α->Prop=>gP P d f args H (fun v H'=>K (g v H'))):=by
 unfold gP;refine aO.or (aO.ex fun vs=>aO.ex fun v=>aO.and (aO.and ?_)) (aO.and (aO.or (aO.ex fun vs=>aO.ex fun H1=>aO.ex fun v=>aO.and (aO.and ?_)) (aO.or (aO.ex fun H'=>aO.ex fun v=>aO.and ?_) (aO.or (aO.ex fun e=>aO.and (aO.and ?_)) (aO.ex fun ak=>aO.ex fun v=>aO.and (aO.and ?_))))))
 ·exact aO.one (fun v=>g (.p v) H) v
 ·exact aO.one (fun v=>g (.p v) H1) v
 ·exact aO.one (fun v=>g v H') v
 ·exact aO.one (fun _:Unit=>g e.v (bm H e.aJ++e.aQ)) ()
 ·exact aO.one (fun v=>g (.p v) H) v
theorem I5(f:bb)(args:List AV)(H:Heap):aO (gV P f args H):=by
 unfold gV;refine aO.or (aO.ex fun vs=>aO.ex fun v=>aO.and (aO.and (aO.one id _))) (aO.or (aO.ex fun vs=>aO.ex fun bs=>aO.ex fun ak=>aO.ex fun aJ=>aO.ex fun v=>aO.and (aO.and (aO.and (aO.one id _)))) (aO.or (aO.ex fun e=>aO.and (aO.and (aO.one id _))) (aO.ex fun ak=>aO.ex fun v=>aO.and (aO.and (aO.one id _)))))
theorem JH(d:Bool)(o:Oper)(s:St):aO (fun K=>jw P ag d o K s):=by
 unfold jw
 split
 ·split
  ·exact JJ _ _ _ _ (fun v H'=>(⟨put o.dst v s.env,H'⟩:St))
  ·exact JJ _ _ _ _ (fun v H'=>(⟨put o.dst v s.env,H'⟩:St))
  ·exact aO.ex fun H'=>aO.ex fun v=>aO.and (aO.one (fun _:Unit=>(⟨put o.dst v s.env,H'⟩:St)) ())
  ·exact aO.false
 ·exact(Ct o _ _).map (fun e=>e.app o.dst s)
theorem JI(o:Oper)(s:St):aO (jh P ag o s):=by
 unfold jh
 split
 ·split
  ·exact I5 _ _ _
  ·exact I5 _ _ _
  ·exact aO.ex fun e=>aO.and (aO.and (aO.one id _))
  ·exact aO.false
 ·exact Ct o _ _
theorem yk(d:Bool)(a:Array Oper):∀(l:List Oper)(s:St),aO (fun K=>gR P ag d a l K s)
 |[],s=>by simp only[gR];exact aO.one id s
 |o::l,s=>by
  have go:aO (fun K=>jw P ag d o (gR P ag d a l K) s):=(JH d o s).bind fun t=>yk d a l t;simp only[gR]
  split
  ·exact go
  ·split
   ·split
    ·exact go
    ·exact yk d a l _
   ·exact yk d a l _
   ·exact aO.false
theorem xW(b:Array Oper):∀(l:List Oper)(i:Nat)(a:List Touch)(s:St),aO (fun K=>ga P ag b l i a K s)
 |[],i,a,s=>by simp only[ga];exact aO.and (aO.one id s)
 |o::l,i,a,s=>by
  have go:aO (fun K=>jh P ag o s fun e=>ga P ag b l (i+1) (gQ i s.heap.length e a) K (e.app o.dst s)):=(JI o s).bind fun e=>xW b l (i+1) _ _;simp only[ga]
  split
  ·exact go
  ·split
   ·split
    ·exact go
    ·exact xW b l (i+1) a _
   ·exact xW b l (i+1) a _
   ·exact aO.false
def zx(F:(bp->St->Prop)->Prop):Prop:=∀Q,F Q->∃e s,Q e s/\∀a:bp->St->Prop,a e s->F a
inductive vS(P:a7)(ag:bb->Bool)(q:Cx)(b:Code)(e:bp)(s:St):Nat->St->Prop
 |stop {k:Nat} {u:St}:(∀Q:bp->St->Prop,Q e s->b7 P ag q b Q u)->e≠.normal->vS P ag q b e s k u
 |step {k m:Nat} {u s1 u':St}:(∀Q:bp->St->Prop,Q .normal s1->b7 P ag q b Q u)->m<k->dE q.2 s1 u'->vS P ag q b e s m u'->vS P ag q b e s k u
theorem Ve(j:Option Code)(s:St):zx (fun Q=>kq Q j s):=fun Q h=>by
 unfold kq at h
 split at h
 ·exact⟨.normal,s,h,fun _ h=>h⟩
 ·rename_i id;exact⟨.exit id,s,h,fun _ h=>h⟩
 ·exact⟨.ret,s,h,fun _ h=>h⟩
 ·exact h.elim
theorem JG(b:Nat)(env:Env)(H:Heap):zx (fun Q=>iQ b env Q H):=fun Q h=>by
 unfold iQ at h
 split at h
 ·rename_i L f;obtain⟨e,s,c,d⟩:=Ve _ _ Q h.2;exact⟨e,s,c,fun a hq=>by unfold iQ;simp only[f];exact⟨h.1,d a hq⟩⟩
 ·exact h.elim
theorem U0(it:AV)(b:Nat)(H:Heap)(env:Env):zx (fun Q=>jF P it b H (iQ b env Q)):=fun Q h=>by
 unfold jF at h
 split at h
 ·obtain⟨H',v,c,d⟩:=h;obtain⟨e,s,k1,k2⟩:=JG b env H' Q d;exact⟨e,s,k1,fun a hq=>by simp only[jF];exact⟨H',v,c,k2 a hq⟩⟩
 ·obtain⟨H',v,c,d⟩:=h;obtain⟨e,s,k1,k2⟩:=JG b env H' Q d;exact⟨e,s,k1,fun a hq=>by simp only[jF];exact⟨H',v,c,k2 a hq⟩⟩
 ·exact h.elim
theorem nt{q:Cx}:∀(c:Code)(s:St),zx (fun Q=>b7 P ag q c Q s)
 | .skip,s| .label _,s=>fun Q h=>⟨.normal,s,h,fun _ h=>h⟩
 | .exit id,s=>fun Q h=>⟨.exit id,s,h,fun _ h=>h⟩
 | .ret,s=>fun Q h=>⟨.ret,s,h,fun _ h=>h⟩
 | .region id ops draw,s=>fun Q h=>by
  simp only[b7]at h⊢
  split at h
  ·rename_i l;obtain⟨t,d,g⟩:=xW ops _ _ _ _ _ h;exact⟨.normal,t,d,fun Q' h=>by simp only[l,if_true];exact g _ h⟩
  ·rename_i l;obtain⟨t,d,g⟩:=yk _ ops _ _ _ h;exact⟨.normal,t,d,fun Q' h=>by rw[if_neg l];exact g _ h⟩
 | .seq a b,s=>fun Q h=>by
  simp only[b7]at h⊢;obtain⟨e,t,d,g⟩:=nt a s _ h;cases e with
  |normal=>
   obtain⟨e',r,k,y⟩:=nt b t _ d;exact⟨e',r,k,fun Q' h=>g _ (y Q' h)⟩
  |exit id=>exact⟨.exit id,t,d,fun Q' h=>g _ h⟩
  |ret=>exact⟨.ret,t,d,fun Q' h=>g _ h⟩
 | .cond c a b,s=>fun Q h=>by
  simp only[b7]at h⊢
  split at h
  ·split at h
   ·rename_i p;obtain⟨e,t,d,g⟩:=nt a s _ h;exact⟨e,t,d,fun Q' h=>by rw[if_pos p];exact g _ h⟩
   ·rename_i p;obtain⟨e,t,d,g⟩:=nt b s _ h;exact⟨e,t,d,fun Q' h=>by rw[if_neg p];exact g _ h⟩
  ·exact h.elim
 | .block id b,s=>fun Q h=>by
  simp only[b7]at h⊢;obtain⟨e,t,d,g⟩:=nt b s _ h;cases e with
  |normal=>exact⟨.normal,t,d,fun Q' h=>g _ h⟩
  |exit i=>
   by_cases hi:i=id
   ·simp only[hi,if_true]at d;exact⟨.normal,t,d,fun Q' h=>g _ (by simp only[hi,if_true];exact h)⟩
   ·simp only[hi,if_false]at d;exact⟨.exit i,t,d,fun Q' h=>g _ (by simp only[hi,if_false];exact h)⟩
  |ret=>exact⟨.ret,t,d,fun Q' h=>g _ h⟩
 | .scope b,s=>fun Q h=>by simp only[b7]at h⊢;exact nt b s Q h
 | .loop b,s=>fun Q h=>by
  simp only[b7]at h⊢;obtain⟨I,⟨w,t0,hf,hI⟩,F⟩:=h;have key:∀(n:Nat)(t:St),I n t->∃e u,Q e u/\e≠.normal/\vS P ag q b e u n t:=by
   intro n
   induction n using fb with
   |_ n G=>
    intro t hI;obtain⟨e,s1,d,g⟩:=nt b t _ (F n t hI);cases e with
    |normal=>
     obtain⟨m,r,j,o,z⟩:=d;obtain⟨e,u,k1,k2,k3⟩:=G m j r z;exact⟨e,u,k1,k2,.step g j o k3⟩
    |exit id=>exact⟨.exit id,s1,d,by simp,.stop g (by simp)⟩
    |ret=>exact⟨.ret,s1,d,by simp,.stop g (by simp)⟩
  obtain⟨e,u,d,g,k⟩:=key w t0 hI;refine⟨e,u,d,fun Q' v=>⟨vS P ag q b e u,⟨w,t0,hf,k⟩,?_⟩⟩;intro n t C;cases C with
  |stop hs E=>
   refine hs _ ?_;cases e with
   |normal=>exact(E rfl).elim
   |exit id=>exact v
   |ret=>exact v
  |step hs j o D=>exact hs _ ⟨_,_,j,o,D⟩
 | .rangeFunc f H a b,s=>fun Q h=>by
  simp only[b7]at h;obtain⟨A,x,B,h⟩:=h;obtain⟨e,t,d,g⟩:=U0 _ _ _ _ Q h;exact⟨e,t,d,fun Q' hq=>by simp only[b7];exact⟨A,x,B,g Q' hq⟩⟩
 | .goto _,_| .refuse _,_=>fun Q h=>by simp[b7]at h
def Spec(P:a7)(f:bb)(args:List PV)(Q:PV->Prop):Prop:=∃v,aw P f args v/\Q v
def zA(P:a7)(a:List bo)(Q:PV->Prop)(e:bp)(s:St):Prop:=
 (match e with
  | .exit _=>False
  |_=>True)/\∃vs,fE P s a=some vs/\∃v,eh s.heap 9 (oneOf vs)=some v/\Q v
theorem Spec.mono{f:bb}{args:List PV}{Q a:PV->Prop}(h:Spec P f args Q)(hq:∀v,Q v->a v):Spec P f args a:=by
 obtain⟨v,b,c⟩:=h;exact⟨v,b,hq v c⟩
end
def nQ(id:Nat)(Q:bp->St->Prop)(e:bp)(s:St):Prop:=
 match e with
 | .exit i=>if i=id then Q .normal s else Q (.exit i) s
 |e=>Q e s
theorem SV{id:Nat}{Q:bp->St->Prop}{s:St}:nQ id Q .normal s=Q .normal s:=(rfl)
theorem Uh{id i:Nat}{Q:bp->St->Prop}{s:St}:nQ id Q (.exit i) s=if i=id then Q .normal s else Q (.exit i) s:=(rfl)
theorem Vg{id:Nat}{Q:bp->St->Prop}{s:St}:nQ id Q .ret s=Q .ret s:=(rfl)
def tD(N n:Nat)(I:Nat->St->Prop)(Q:bp->St->Prop)(e:bp)(s:St):Prop:=
 match e with
 | .normal=>∃a b,a<n/\dE N s b/\I a b
 |e=>Q e s
theorem SJ{N n:Nat}{I:Nat->St->Prop}{Q:bp->St->Prop}{s:St}:tD N n I Q .normal s=∃a b,a<n/\dE N s b/\I a b:=(rfl)
theorem Tv{N n id:Nat}{I:Nat->St->Prop}{Q:bp->St->Prop}{s:St}:tD N n I Q (.exit id) s=Q (.exit id) s:=(rfl)
theorem UW{N n:Nat}{I:Nat->St->Prop}{Q:bp->St->Prop}{s:St}:tD N n I Q .ret s=Q .ret s:=(rfl)
section DQ
variable{P:a7}
end DQ
section
variable{P:a7}{ag:bb->Bool}
abbrev eC:=Option (Prop×aS)
def ba(r:eC)(K:aS->Prop):Prop:=
 match r with
 |some (p,e)=>p/\K e
 |none=>False
theorem U5{p:Prop}{e:aS}{K:aS->Prop}:ba (some (p,e)) K=(p/\K e):=(rfl)
theorem VC{K:aS->Prop}:ba none K=False:=(rfl)
@[congr] theorem aKE{r a:eC}{K:aS->Prop}(h:r=a):ba r K=ba a K:=by rw[h]
def Can(F:(aS->Prop)->Prop)(r:eC):Prop:=∀K,ba r K->F K
theorem Can.none{F:(aS->Prop)->Prop}:Can F none:=fun _ h=>h.elim
def pJ(P:a7)(T:a6)(H:Heap)(a:AV):eC:=
 match a with
 | .ptr b path=>match H[b]? with
  |some (.box fz t)=>match eM t path with
   |some s=>some (kindOf P T=aa s,{v:=s,ak:=[(b,.box fz t)]})
   |none=>none
  |_=>none
 | .bV b ar ai i path=>match H[b]? with
  |some (.arr k d c es)=>match es[i]? with
   |some x=>match eM x path with
    |some s=>some ((ar=d/\ai=c)/\kindOf P T=aa s,{v:=s,ak:=[(b,.arr k d c es)]})
    |none=>none
   |none=>none
  |_=>none
 | .p (.ct t)=>some (kindOf P T=aL t,{v:=.p t})
 |_=>none
theorem XQ{T:a6}{H:Heap}{a:AV}:Can (nT P T H a) (pJ P T H a):=by
 intro K h;unfold pJ at h;unfold nT
 split at h
 ·split at h
  ·rename_i b
   split at h
   ·rename_i hs;simp only[ba]at h;simp only[b,hs];exact h
   ·exact h.elim
  ·exact h.elim
 ·split at h
  ·rename_i b
   split at h
   ·rename_i x hx;obtain⟨hi,hx⟩:=cy.1 hx
    split at h
    ·rename_i hs;simp only[ba]at h;simp only[b];exact⟨h.1.1.1,h.1.1.2,hi,by rw[hx,hs];exact⟨h.1.2,h.2⟩⟩
    ·exact h.elim
   ·exact h.elim
  ·exact h.elim
 ·exact h
 ·exact h.elim
def pA(P:a7)(T:a6)(H:Heap)(a x:AV):eC:=
 match a with
 | .ptr b path=>match H[b]? with
  |some (.box false t)=>match eM t path,fO t path x with
   |some s,some d=>some ((kindOf P T=aa x/\aa x≠.bad)/\aa s=aa x,{v:=.p (.aE []),ak:=[(b,.box false t)],aJ:=[(b,.box false d)]})
   |_,_=>none
  |_=>none
 | .bV b ar ai i path=>match H[b]? with
  |some (.arr k e c es)=>match es[i]? with
   |some y=>match eM y path,fO y path x with
    |some s,some d=>some ((kindOf P T=aa x/\aa x≠.bad)/\(ar=e/\ai=c/\k≠.frozen)/\aa s=aa x,{v:=.p (.aE []),ak:=[(b,.arr k e c es)],aJ:=[(b,.arr k e c (es.set i d))]})
    |_,_=>none
   |none=>none
  |_=>none
 |_=>none
theorem Wt{T:a6}{H:Heap}{a x:AV}:Can (nI P T H a x) (pA P T H a x):=by
 intro K h;unfold pA at h;unfold nI
 split at h
 ·split at h
  ·rename_i b
   split at h
   ·rename_i hs c;simp only[ba]at h;simp only[b,hs,c];exact⟨h.1.1.1,h.1.1.2,h.1.2,h.2⟩
   ·exact h.elim
  ·exact h.elim
 ·split at h
  ·rename_i b
   split at h
   ·rename_i y d;obtain⟨hi,d⟩:=cy.1 d
    split at h
    ·rename_i hs c;simp only[ba]at h;simp only[b];exact⟨h.1.1.1,h.1.1.2,h.1.2.1.1,h.1.2.1.2.1,h.1.2.1.2.2,hi,by rw[d,hs,c];exact⟨h.1.2.2,h.2⟩⟩
    ·exact h.elim
   ·exact h.elim
  ·exact h.elim
 ·exact h.elim
def oN(P:a7)(T:a6)(a:AV)(f:Nat):eC:=
 match fQ P T with
 |some (u,n)=>match a with
  | .ptr b path=>some (f<n,{v:=.ptr b (path++[(u,f)])})
  | .bV b ar ai i path=>some (f<n,{v:=.bV b ar ai i (path++[(u,f)])})
  | .p (.ct t)=>match(cF t)[f]? with
   |some g=>some (f<n/\aL t=.agg u,{v:=.p (.ct g)})
   |none=>none
  |_=>none
 |_=>none
theorem SR{T:a6}{a:AV}{f:Nat}:Can (nw P T a f) (oN P T a f):=by
 intro K h;unfold oN at h;unfold nw
 split at h
 ·rename_i hs;simp only[hs]
  split at h
  ·exact h
  ·exact h
  ·split at h
   ·rename_i b;simp only[ba]at h;simp only[b];exact⟨h.1.1,h.1.2,h.2⟩
   ·exact h.elim
  ·exact h.elim
 ·exact h.elim
def oM(P:a7)(T:a6)(H:Heap)(x i:AV):eC:=
 match i with
 | .p (.int _ i)=>match x with
  | .p (.bL _ es)=>match es[i.toNat]? with
   |some y=>some (0<=i/\cL P T=some (bD P (aL y)),{v:=.p (.ct y)})
   |none=>none
  | .p (.seq es)=>match es[i.toNat]? with
   |some y=>some (0<=i/\cL P T=some (bD P (aL y)),{v:=.p (.ct y)})
   |none=>none
  | .sl b ar ai off len=>match H[b]? with
   |some (.arr k c a es)=>some (0<=i/\cL P T=some ai/\i.toNat<len/\ar=c/\ai=a/\¬(k.gr=true/\es=[]),{v:=.bV b ar ai (off+i.toNat) [],ak:=[(b,.arr k c a es)]})
   |_=>none
  | .ptr b path=>match gh P T with
   |some (u,n)=>some (0<=i/\i.toNat<n,{v:=.ptr b (path++[(u,i.toNat)])})
   |_=>none
  | .bV b ar ai j path=>match gh P T with
   |some (u,n)=>some (0<=i/\i.toNat<n,{v:=.bV b ar ai j (path++[(u,i.toNat)])})
   |_=>none
  | .p (.ct t)=>match gh P T with
   |some (u,n)=>match(cF t)[i.toNat]? with
    |some g=>some (0<=i/\aL t=.agg u/\i.toNat<n,{v:=.p (.ct g)})
    |none=>none
   |_=>none
  |_=>none
 |_=>none
theorem SQ{T:a6}{H:Heap}{x i:AV}:Can (nv P T H x i) (oM P T H x i):=by
 intro K h;unfold oM at h;unfold nv
 split at h
 case h_2=>exact h.elim
 split at h
 ·split at h
  ·rename_i y a;obtain⟨hi,a⟩:=cy.1 a;simp only[ba]at h;exact⟨h.1.1,hi,by rw[a];exact h.1.2,by rw[a];exact h.2⟩
  ·exact h.elim
 ·split at h
  ·rename_i y a;obtain⟨hi,a⟩:=cy.1 a;simp only[ba]at h;exact⟨h.1.1,hi,by rw[a];exact h.1.2,by rw[a];exact h.2⟩
  ·exact h.elim
 ·split at h
  ·rename_i l;simp only[ba]at h;obtain⟨⟨b,c,d,e,f,g⟩,j⟩:=h;refine⟨b,c,d,?_⟩;rw[l];exact⟨e,f,g,j⟩
  ·exact h.elim
 ·split at h
  ·rename_i hs;simp only[ba]at h;simp only[hs];exact⟨h.1.1,h.1.2,h.2⟩
  ·exact h.elim
 ·split at h
  ·rename_i hs;simp only[ba]at h;simp only[hs];exact⟨h.1.1,h.1.2,h.2⟩
  ·exact h.elim
 ·split at h
  ·rename_i hs
   split at h
   ·rename_i k;simp only[ba]at h;simp only[hs,k];exact⟨h.1.1,h.1.2.1,h.1.2.2,h.2⟩
   ·exact h.elim
  ·exact h.elim
 ·exact h.elim
end
section
variable{P:a7}{ag:bb->Bool}
def pz(P:a7)(T X:a6)(H:Heap)(s x:AV):eC:=
 match cL P T,gL H x with
 |some sz,some xs=>match s with
  | .p .aN=>some ((iu P X=true/\(cH P (et P T)).isSome=true/\fc P sz xs)/\xs.length<=cO,
   if xs.isEmpty then{v:=s,ak:=dv H x}else{v:=.sl H.length 0 sz 0 xs.length,ak:=dv H x,aQ:=[.arr (gk P T) 0 sz xs]})
  | .sl b ar ai off len=>match H[b]? with
   |some (.arr k c a es)=>some ((iu P X=true/\(cH P (et P T)).isSome=true/\fc P sz xs)/\(ar=c/\ai=a/\ai=sz/\off+len<=es.length)/\es.length+xs.length<=cO/\k≠ .frozen/\(k≠ .exact->off=0)/\(k= .bytes->et P T=Gl.u8),
    if xs.isEmpty then{v:=s,ak:=(b,.arr k c a es)::dv H x}
    else match k with
     | .exact=>if off+len+xs.length<=es.length then
      {v:=.sl b ar ai off (len+xs.length),ak:=(b,.arr k c a es)::dv H x,aJ:=[(b,.arr .exact ar ai (es.take (off+len)++xs++es.drop (off+len+xs.length)))]}
      else{v:=.sl H.length 0 sz 0 (len+xs.length),ak:=(b,.arr k c a es)::dv H x,aQ:=[.arr (gk P T) 0 sz ((es.drop off).take len++xs)]}
     |_=>{v:=.sl b (ar+1) ai 0 (len+xs.length),ak:=(b,.arr k c a es)::dv H x,aJ:=[(b,.arr k (ar+1) ai (es.take len++xs))]})
   |_=>none
  |_=>none
 |_,_=>none
theorem Um{T X:a6}{H:Heap}{s x:AV}:Can (nB P T X H s x) (pz P T X H s x):=by
 intro K h;unfold pz at h;unfold nB
 split at h
 case h_2=>exact h.elim
 rename_i sz p i j;simp only[i,j]
 split at h
 ·simp only[ba]at h;obtain⟨⟨⟨b,a2,a3⟩,a4⟩,hk⟩:=h;refine⟨b,a2,a3,?_⟩;dsimp only
  split
  ·rename_i a;rw[if_pos a]at hk;exact hk
  ·rename_i a;rw[if_neg a]at hk;exact⟨a4,hk⟩
 ·split at h
  case h_2=>exact h.elim
  rename_i k o n m l;simp only[ba]at h;obtain⟨⟨⟨b,a2,a3⟩,⟨rfl,rfl,e,f⟩,g,a9,c,d⟩,hk⟩:=h;refine⟨b,a2,a3,?_⟩;simp only[l];refine⟨trivial,trivial,e,f,?_⟩
  split
  ·rename_i a;rw[if_pos a]at hk;exact hk
  ·rename_i a;rw[if_neg a]at hk;refine⟨g,?_⟩;cases k with
   |frozen=>exact a9 rfl
   |exact=>
    simp only at hk⊢
    split
    ·rename_i hc;rw[if_pos hc]at hk;exact hk
    ·rename_i hc;rw[if_neg hc]at hk;exact hk
   |grow=>exact⟨c (by simp),fun h=>(by cases h),hk⟩
   |bytes=>exact⟨c (by simp),d,hk⟩
 ·exact h.elim
def kC(x:Option AV)(d:Nat):Option (Prop×Nat):=
 match x with
 |none=>some (True,d)
 |some (.p (.int _ i))=>some (0<=i,i.toNat)
 |_=>none
theorem mF{x:Option AV}{d n:Nat}{p:Prop}{K:Nat->Prop}(h:kC x d=some (p,n))(a:p)(hk:K n):gC x d K:=by
 unfold kC at h;unfold gC
 split at h
 ·simp only[fv,Prod.mk.injEq]at h;obtain⟨rfl,rfl⟩:=h;exact hk
 ·simp only[fv,Prod.mk.injEq]at h;obtain⟨rfl,rfl⟩:=h;exact⟨a,hk⟩
 ·cases h
def pC(P:a7)(T:a6)(H:Heap)(x:AV)(lo hi:Option AV):eC:=
 match x with
 | .p (.str s)=>match kC hi s.length,kC lo 0 with
  |some (p,h),some (q,l)=>some (im P T=true/\p/\q/\h<=s.length/\l<=h,{v:=.p (.str ((s.take h).drop l))})
  |_,_=>none
 | .p .aN=>match kC hi 0,kC lo 0 with
  |some (p,h),some (q,l)=>some ((cL P T).isSome=true/\p/\q/\h<=0/\l<=h,{v:=.p .aN})
  |_,_=>none
 | .p (.bL full es)=>match kC hi es.length,kC lo 0,cL P T with
  |some (p,h),some (q,l),some sz=>some (p/\q/\h<=es.length/\l<=h/\fc P sz (es.map .p),{v:=.p (.bL (full&&h==es.length) ((es.take h).drop l))})
  |_,_,_=>none
 | .p (.seq es)=>match kC hi es.length,kC lo 0,cL P T with
  |some (p,h),some (q,l),some sz=>some (p/\q/\h<=es.length/\l<=h/\fc P sz (es.map .p),{v:=.p (.seq ((es.take h).drop l))})
  |_,_,_=>none
 | .sl b ar ai off len=>match H[b]? with
  |some (.arr k c a es)=>match kC hi len,kC lo 0 with
   |some (p,h),some (q,l)=>some ((ar=c/\ai=a/\cL P T=some ai/\¬(k.gr=true/\es=[])/\off+len<=es.length)/\p/\q/\off+h<=es.length/\l<=h,
    if l=0 then{v:=.sl b ar ai off h,ak:=[(b,.arr k c a es)]}
    else if l=h then{v:=.p (.bL false []),ak:=[(b,.arr k c a es)]}
    else{v:=.sl b ar ai (off+l) (h-l),ak:=[(b,.arr k c a es)]})
   |_,_=>none
  |_=>none
 |_=>none
theorem Wu{T:a6}{H:Heap}{x:AV}{lo hi:Option AV}:Can (nJ P T H x lo hi none) (pC P T H x lo hi):=by
 intro K h;unfold pC at h;unfold nJ;refine⟨rfl,?_⟩
 split at h
 ·split at h
  case h_2=>exact h.elim
  rename_i a b;simp only[ba]at h;obtain⟨⟨c,a2,a3,a4,a5⟩,hk⟩:=h;exact⟨c,mF a a2 (mF b a3 ⟨a4,a5,hk⟩)⟩
 ·split at h
  case h_2=>exact h.elim
  rename_i a b;simp only[ba]at h;obtain⟨⟨c,a2,a3,a4,a5⟩,hk⟩:=h;exact⟨c,mF a a2 (mF b a3 ⟨a4,a5,hk⟩)⟩
 ·split at h
  case h_2=>exact h.elim
  rename_i a b e;simp only[ba]at h;obtain⟨⟨a2,a3,a4,a5,d⟩,hk⟩:=h;refine mF a a2 (mF b a3 ⟨a4,a5,?_⟩);simp only[e];exact⟨d,hk⟩
 ·split at h
  case h_2=>exact h.elim
  rename_i a b e;simp only[ba]at h;obtain⟨⟨a2,a3,a4,a5,d⟩,hk⟩:=h;refine mF a a2 (mF b a3 ⟨a4,a5,?_⟩);simp only[e];exact⟨d,hk⟩
 ·split at h
  case h_2=>exact h.elim
  rename_i i
  split at h
  case h_2=>exact h.elim
  rename_i a b;simp only[ba]at h;obtain⟨⟨⟨c,a2,a3,a4,a5⟩,d,f,g,a9⟩,hk⟩:=h;simp only[i];refine⟨c,a2,a3,a4,a5,mF a d (mF b f ⟨g,a9,?_⟩)⟩
  split
  ·rename_i hc;rw[if_pos hc]at hk;exact hk
  ·rename_i hc;rw[if_neg hc]at hk
   split
   ·rename_i hc;rw[if_pos hc]at hk;exact hk
   ·rename_i hc;rw[if_neg hc]at hk;exact hk
 ·exact h.elim
def rl(P:a7)(T:a6)(H:Heap)(x key:AV)(ok:Bool):eC:=
 match jf P T,key with
 |some (a,E),.p key=>match cH P E with
  |some z=>match x with
   | .p .fw=>some (ft P a key=true,{v:=.p (if ok then .aE [z,.bool false]else z)})
   | .p (.eJ es)=>match dH P a es key with
    |some r=>some (ft P a key=true,{v:= .p (match r with
      |some v=>if ok then .aE [v,.bool true]else v
      |none=>if ok then .aE [z,.bool false]else z)})
    |none=>none
   | .map b=>match H[b]? with
    |some (.map fz es)=>match dH P a es key with
     |some r=>some (ft P a key=true,{v:= .p (match r with
       |some v=>if ok then .aE [v,.bool true]else v
       |none=>if ok then .aE [z,.bool false]else z),ak:=[(b,.map fz es)]})
     |none=>none
    |_=>none
   |_=>none
  |none=>none
 |_,_=>none
def mc(P:a7)(T:a6)(H:Heap)(m k x:AV):eC:=
 match jf P T,m,k,x with
 |some (a,_),.map b,.p key,.p v=>match H[b]? with
  |some (.map false es)=>match lW P a es key with
   |some _=>some (ft P a key=true,{v:=.p (.aE []),ak:=[(b,.map false es)],aJ:=[(b,.map false (fX es key v))]})
   |none=>none
  |_=>none
 |_,_,_,_=>none
def qR(P:a7)(T:a6)(n:Nat)(x:AV):eC:=
 match x with
 | .p (.str s)=>some (im P T=true,{v:=.ptr n [],aQ:=[.dt s 0]})
 |_=>none
def rz(H:Heap)(it:AV):eC:=
 match it with
 | .ptr b []=>match H[b]? with
  |some (.dt s pos)=>some (True,if pos<s.length then
   {v:=.p (.aE [.bool true,.int .i64 pos,.int .i32 (cb (gq s) pos).1]),ak:=[(b,.dt s pos)],aJ:=[(b,.dt s (pos+(cb (gq s) pos).2))]}
   else{v:=.p (.aE [.bool false]),ak:=[(b,.dt s pos)]})
  |_=>none
 |_=>none
def rB(P:a7)(T:a6)(n:Nat)(l c:AV):eC:=
 match cL P T,cH P (et P T),l,c with
 |some sz,some z,.p (.int .i64 l),.p (.int .i64 c)=>some (bD P (aL z)=sz/\0<=l/\l=c/\l<=cO,{v:=.sl n 0 sz 0 l.toNat,aQ:=[.arr .exact 0 sz (c6 l.toNat (.p z))]})
 |_,_,_,_=>none
def copyV(P:a7)(T:a6)(H:Heap)(d x:AV):eC:=
 match cL P T,d,gL H x with
 |some sz,.sl b ar ai off len,some xs=>match H[b]? with
  |some (.arr k c a es)=>some ((ai=sz/\fc P sz xs)/\ar=c/\ai=a/\k≠ .frozen/\off+len<=es.length/\¬(k.gr=true/\es=[]),
   {v:=.p (.int .i64 (min xs.length len:Nat)),ak:=(b,.arr k c a es)::dv H x,aJ:=[(b,.arr k c a (es.take off++xs.take (min xs.length len)++es.drop (off+min xs.length len)))]})
  |_=>none
 |_,_,_=>none
def qL(x:AV):eC:=
 match x with
 | .ptr _ _| .bV _ _ _ _ _| .p (.ct _)=>some (True,{v:=x})
 |_=>none
def kH(b:Bool)(c:List AV):eC:=
 match c with
 | .p (.int k a)::r=>match lQ k b r a with
  |some n=>some (True,{v:=.p (.int k n)})
  |none=>none
 |_=>none
def rj(f:bb)(fi ca:List AV):eC:=
 match ef fi,ef ca with
 |some a,some b=>some (True,{v:=.p (.func f a b)})
 |_,_=>some (True,{v:=.func f fi ca})
end
section
variable{P:a7}{ag:bb->Bool}
def rr(c a b:AV):eC:=
 match c with
 | .p (.bool t)=>some (True,{v:=if t then a else b})
 |_=>none
def qZ(P:a7)(T:a6)(n:Nat):eC:=
 match cH P T with
 |some z=>some (kindOf P T=aL z/\aL z≠.bad/\jg T (aL z)=true,{v:=.ptr n [],aQ:=[.box false (.p z)]})
 |none=>none
def tT(P:a7)(T:a6)(n:Nat)(x:AV):eC:=some (kindOf P T=aa x/\aa x≠.bad/\jg T (aa x)=true,{v:=.ptr n [],aQ:=[.box false x]})
def qX(P:a7)(T:a6)(a:List (Nat×AV)):eC:=
 match kindOf P T,cH P T with
 | .agg u,some z=>match dD P u with
  |some l=>some (aL z=.agg u/\lP P l a,{v:=gW u (il ((cF z).map .p) a)})
  |none=>none
 |_,_=>none
def qo(P:a7)(T:a6)(n:Nat)(a:List (Nat×AV))(b:Nat):eC:=
 match cL P T,cH P (et P T)with
 |some sz,some z=>some (bD P (aL z)=sz/\n*sz<=1000000/\lP P (c6 n sz) a,{v:=.sl b 0 sz 0 n,aQ:=[.arr .exact 0 sz (il (c6 n (.p z)) a)]})
 |_,_=>none
def ub(op:be)(k:bk)(a b:Int):Prop×PV:=
 match op with
 | .add=>(True,.int k (k.wrap (a+b)))
 | .sub=>(True,.int k (k.wrap (a-b)))
 | .mul=>(True,.int k (k.wrap (a*b)))
 | .quo=>(b≠0,.int k (k.wrap (a.tdiv b)))
 | .rem=>(b≠0,.int k (a.tmod b))
 | .and=>(True,.int k (k.wrap (ay k.bits a&&&ay k.bits b).toNat))
 | .or=>(True,.int k (k.wrap (ay k.bits a|||ay k.bits b).toNat))
 | .xor=>(True,.int k (k.wrap (ay k.bits a^^^ay k.bits b).toNat))
 | .andNot=>(True,.int k (k.wrap (ay k.bits a&&&~~~ay k.bits b).toNat))
 | .eql=>(True,.bool (a==b))
 | .neq=>(True,.bool (a !=b))
 | .lss=>(True,.bool (decide (a<b)))
 | .leq=>(True,.bool (decide (a<=b)))
 | .gtr=>(True,.bool (decide (a>b)))
 | .geq=>(True,.bool (decide (a>=b)))
 | .shl=>(0<=b,.int k (k.wrap (a*2^(min b.toNat k.bits))))
 | .shr=>(0<=b,.int k (a.fdiv (2^(min b.toNat k.bits))))
theorem ZW{op:be}{k:bk}{a b:Int}{K:PV->Prop}(h:(ub op k a b).1)(hk:K (ub op k a b).2):pI op k a b K:=by
 cases op<;>simp only[ub,pI]at*<;>first|exact hk|exact⟨h,hk⟩
def EN(op:be)(a b:List Nat):Option (Prop×PV):=
 match op with
 | .add=>some (a.length+b.length<9223372036854775808,.str (a++b))
 | .eql=>some (True,.bool (a==b))
 | .neq=>some (True,.bool (!(a==b)))
 | .lss=>some (True,.bool (ja a b))
 | .leq=>some (True,.bool (ja a b||a==b))
 | .gtr=>some (True,.bool (!(ja a b||a==b)))
 | .geq=>some (True,.bool (!(ja a b)))
 |_=>none
def bG(P:a7)(op:be)(T:a6)(c:Bool)(H:Heap)(x y:AV):eC:=
 match x,y with
 | .p (.int k a),.p (.int d b)=>some ((k=d\/op=.shl\/op=.shr)/\(ub op k a b).1,{v:=.p (ub op k a b).2})
 | .p (.str a),.p (.str b)=>match EN op a b with
  |some (p,v)=>some (p,{v:=.p v})
  |none=>none
 | .p (.bool a),.p (.bool b)=>match op with
  | .eql=>some (qO P T=true,{v:=.p (.bool (a==b))})
  | .neq=>some (qO P T=true,{v:=.p (.bool (!(a==b)))})
  |_=>none
 | .p (.st u fs),.p (.st u' gs)=>match ie P 9 T (.st u fs) (.st u' gs),op with
  |some r,.eql=>some (rM P T=true,{v:=.p (.bool r)})
  |some r,.neq=>some (rM P T=true,{v:=.p (.bool !r)})
  |_,_=>none
 |x,y=>match du P T c y with
  |some k=>match cS H k x,op with
   |some r,.eql=>some (True,{v:=.p (.bool r),ak:=dv H x})
   |some r,.neq=>some (True,{v:=.p (.bool !r),ak:=dv H x})
   |_,_=>none
  |none=>none
theorem J0{op:be}{T:a6}{c:Bool}{H:Heap}{x y:AV}{k:uq}{K:PV->Prop}(hk:du P T c y=some k):kt P op T c H x y K=(match cS H k x,op with
  |some r,.eql=>K (.bool r)
  |some r,.neq=>K (.bool !r)
  |_,_=>False):=by
 have a:=hk;rcases Jc hk with⟨rfl,rfl,_⟩|⟨rfl,rfl,_⟩|⟨rfl,rfl,_⟩|⟨rfl,rfl,_⟩|⟨rfl,rfl,_⟩
 all_goals
  unfold kt;cases x with
  |p v=>
   cases v<;>simp only[a]<;>(generalize cS H _ _=r;cases r<;>cases op<;>rfl)
  |_=>simp only[a];(generalize cS H _ _=r;cases r<;>cases op<;>rfl)
theorem YC{op:be}{T:a6}{c:Bool}{H:Heap}{x y:AV}:Can (fun K=>kt P op T c H x y (fun v=>K {v:=.p v,ak:=dv H x})) (bG P op T c H x y):=by
 intro K h;unfold bG at h;unfold kt
 split at h
 ·exact⟨h.1.1,ZW h.1.2 h.2⟩
 ·split at h
  ·rename_i p v a;simp only[ba]at h;show pH op _ _ _;unfold EN at a
   split at a<;>first
    |(simp only[fv,Prod.mk.injEq]at a
      obtain⟨b,d⟩:=a;rw[<-b,<-d]at h;simp only[pH]
      first|exact h.2|exact⟨h.1,h.2⟩)
    |cases a
  ·exact h.elim
 ·split at h
  ·exact⟨h.1,h.2⟩
  ·exact⟨h.1,h.2⟩
  ·exact h.elim
 ·split at h
  ·rename_i e;simp only[ba]at h;simp only[e];exact⟨h.1,h.2⟩
  ·rename_i e;simp only[ba]at h;simp only[e];exact⟨h.1,h.2⟩
  ·exact h.elim
 ·rename_i b d f g
  split at h
  case h_2=>exact h.elim
  rename_i k hk;clear b d f g;show kt P op T c H x y _;rw[J0 hk];generalize cS H k x=q at h⊢;cases q<;>cases op<;>first|exact h.elim|exact h.2
def rZ(op:UnOp)(x:AV):eC:=
 match op,x with
 | .not,.p (.bool b)=>some (True,{v:=.p (.bool (!b))})
 | .neg,.p (.int k n)=>some (True,{v:=.p (.int k (k.wrap (0-n)))})
 | .xor,.p (.int k n)=>some (True,{v:=.p (.int k (k.wrap (ay k.bits (if k.signed then -1 else k.max)^^^ay k.bits n).toNat))})
 |_,_=>none
def rh(P:a7)(S D:a6)(H:Heap)(x:AV):eC:=
 match P.underlying S,P.underlying D,x with
 |some _,some (.int k),.p (.int _ n)=>some (True,{v:=.p (.int k (k.wrap n))})
 |some _,some .string,.p (.str s)=>some (True,{v:=.p (.str s)})
 |some (.slice e),some .string,.sl b ar ai off len=>match H[b]? with
  |some (.arr k c a es)=>match bytesOf ((es.drop off).take len)with
   |some l=>some ((ar=c/\ai=a/\ai=1/\P.underlying e=some (.int .u8)/\0<len/\off+len<=es.length),{v:=.p (.str l),ak:=[(b,.arr k c a es)]})
   |none=>none
  |_=>none
 |_,_,_=>none
def qB(t:AV)(i:Nat):eC:=
 match t with
 | .p (.aE vs)=>match vs[i]? with
  |some v=>some (True,{v:=.p v})
  |none=>none
 | .aE vs=>match vs[i]? with
  |some v=>some (True,{v})
  |none=>none
 |_=>none
def q8(P:a7)(T:a6)(x i:AV):eC:=
 match x,i with
 | .p (.str s),.p (.int _ i)=>match s[i.toNat]? with
  |some c=>some (im P T=true/\0<=i,{v:=.p (.int .u8 c)})
  |none=>none
 | .p (.st u es),.p (.int _ i)=>match gh P T,(jm P u)[i.toNat]?,es[i.toNat]? with
  |some (u',n),some F,some g=>some (u'=u/\0<=i/\i.toNat<n/\kindOf P F=aL g,{v:=.p g})
  |_,_,_=>none
 |_,_=>none
def rQ(P:a7)(T:a6)(n:Nat)(H:Heap)(x:AV):eC:=
 match lenOf H x with
 |some (m,ak)=>some (gS P T x=true/\0<n,{v:=.p (.int .i64 m),ak})
 |none=>none
def kI(P:a7)(ag:bb->Bool)(o:Oper)(e:Env)(H:Heap)(K:aS->Prop):Prop:=
 match o.op with
 | .move x| .assign x=>K {v:=ev e x}
 | .pick c a b=>ba (rr (ev e c) (ev e a) (ev e b)) K
 | .alloc T=>ba (qZ P T H.length) K
 | .box T x=>ba (tT P T H.length (ev e x)) K
 | .build T parts=>ba (qX P T (parts.toList.map fun(i,x)=>(i,ev e x))) K
 | .buildSlice T n parts=>ba (qo P T n (parts.toList.map fun(i,x)=>(i,ev e x)) H.length) K
 | .load T a=>ba (pJ P T H (ev e a)) K
 | .store T a x=>ba (pA P T H (ev e a) (ev e x)) K
 | .binOp op T x y _=>ba (bG P op T (me y) H (ev e x) (ev e y)) K
 | .unOp op _ x=>ba (rZ op (ev e x)) K
 | .convert S D x=>ba (rh P S D H (ev e x)) K
 | .extract t i=>ba (qB (ev e t) i) K
 | .fieldAddr T a f=>ba (oN P T (ev e a) f) K
 | .indexAddr T x i=>ba (oM P T H (ev e x) (ev e i)) K
 | .index T x i=>ba (q8 P T (ev e x) (ev e i)) K
 | .slice T x lo hi none=>ba (pC P T H (ev e x) (lo.map (ev e)) (hi.map (ev e))) K
 | .lookup T x i ok=>ba (rl P T H (ev e x) (ev e i) ok) K
 | .mapUpdate T m k x| .insert T m k x=>ba (mc P T H (ev e m) (ev e k) (ev e x)) K
 | .range T x=>ba (qR P T H.length (ev e x)) K
 | .next it true=>ba (rz H (ev e it)) K
 | .makeSlice T l c=>ba (rB P T H.length (ev e l) (ev e c)) K
 | .nilCheck x=>ba (qL (ev e x)) K
 | .call c=>match c.callee with
  | .builtin .len=>(match c.args.toList with
   |[x]=>ba (rQ P (c.argTypes.getD 0 0) c.argTypes.size H (ev e x)) K
   |_=>False)
  | .builtin .append=>(match c.args.toList with
   |[s,x]=>c.argTypes.size=2/\ba (pz P (c.argTypes.getD 0 0) (c.argTypes.getD 1 0) H (ev e s) (ev e x)) K
   |_=>False)
  | .builtin .copy=>(match c.args.toList with
   |[d,x]=>c.argTypes.size=2/\ba (copyV P (c.argTypes.getD 0 0) H (ev e d) (ev e x)) K
   |_=>False)
  | .builtin .min=>ba (kH false (c.args.toList.map (ev e))) K
  | .builtin .max=>ba (kH true (c.args.toList.map (ev e))) K
  |_=>fy P ag o (ev e) H K
 |_=>fy P ag o (ev e) H K
theorem NQ{o:Oper}{e:Env}{H:Heap}{K:aS->Prop}(h:kI P ag o e H K):fy P ag o (ev e) H K:=by
 unfold kI at h;unfold fy;cases w:o.op<;>simp only[w]at h<;>simp only
 case move|assign=>exact h
 case pick c a b=>
  unfold rr at h
  split at h
  ·rename_i hc;simp only[hc];exact h.2
  ·exact h.elim
 case alloc T=>
  unfold qZ at h
  split at h
  ·rename_i v;simp only[ba]at h;simp only[v];exact⟨h.1.1,h.1.2.1,h.1.2.2,h.2⟩
  ·exact h.elim
 case box T x=>exact⟨h.1.1,h.1.2.1,h.1.2.2,h.2⟩
 case build T parts=>
  unfold qX at h
  split at h
  ·rename_i hk v
   split at h
   ·rename_i A;simp only[ba]at h;simp only[hk,v,A];exact⟨h.1.1,h.1.2,h.2⟩
   ·exact h.elim
  ·exact h.elim
 case buildSlice T n parts=>
  unfold qo at h
  split at h
  ·rename_i hk v;simp only[ba]at h;simp only[hk,v];exact⟨h.1.1,h.1.2.1,h.1.2.2,h.2⟩
  ·exact h.elim
 case load T a=>exact XQ K h
 case store T a x=>exact Wt K h
 case binOp op T x y O=>exact YC K h
 case unOp op T x=>
  unfold rZ at h
  split at h
  ·rename_i hx;simp only[hx];exact h.2
  ·rename_i hx;simp only[hx];exact h.2
  ·rename_i hx;simp only[hx];exact h.2
  ·exact h.elim
 case convert S D x=>
  unfold rh at h
  split at h
  ·rename_i g j p;simp only[g,j,p];exact h.2
  ·rename_i g j p;simp only[g,j,p];exact h.2
  ·rename_i g j p
   split at h
   ·rename_i q
    split at h
    ·rename_i A;obtain⟨⟨B,a2,a3,a4,a5,C⟩,h⟩:=h;simp only[g,j,p,q,A];exact⟨B,a2,a3,a4,a5,C,h⟩
    ·exact h.elim
   ·exact h.elim
  ·exact h.elim
 case extract t i=>
  unfold qB at h
  split at h
  ·rename_i F
   split at h
   ·rename_i G;simp only[F,G];exact h.2
   ·exact h.elim
  ·rename_i F
   split at h
   ·rename_i G;simp only[F,G];exact h.2
   ·exact h.elim
  ·exact h.elim
 case fieldAddr T a f=>exact SR K h
 case indexAddr T x i=>exact SQ K h
 case index T x i=>
  unfold q8 at h
  split at h
  ·rename_i hx hi
   split at h
   ·rename_i c hc;obtain⟨L,rfl⟩:=cy.1 hc;simp only[hx,hi];exact⟨h.1.1,h.1.2,L,h.2⟩
   ·exact h.elim
  ·rename_i hx hi
   split at h
   ·rename_i g j p;obtain⟨⟨g1,g2,g3,g4⟩,h⟩:=h;simp only[hx,hi,g,j,p];exact⟨g1,g2,g3,g4,h⟩
   ·exact h.elim
  ·exact h.elim
 case slice T x lo hi N=>
  cases N with
  |none=>exact Wu K h
  |some m=>simp only[fy,w]at h;exact h
 case lookup T x i ok=>
  unfold rl at h
  split at h
  case h_2=>exact h.elim
  rename_i M hi;simp only[M,hi]
  split at h
  case h_2=>exact h.elim
  rename_i z v;simp only[v]
  split at h
  ·rename_i hx;simp only[hx];exact h
  ·rename_i Q hx;simp only[hx]
   split at h
   case h_2=>exact h.elim
   rename_i r u;refine⟨h.1,?_⟩;simp only[u];cases r<;>exact h.2
  ·rename_i b hx;simp only[hx]
   split at h
   case h_2=>exact h.elim
   rename_i q
   split at h
   case h_2=>exact h.elim
   rename_i r u;refine⟨h.1,?_⟩;simp only[q,u];cases r<;>exact h.2
  ·exact h.elim
 case mapUpdate T m k x|insert T m k x=>
  unfold mc at h
  split at h
  case h_2=>exact h.elim
  rename_i g j p E;simp only[g,j,p,E]
  split at h
  case h_2=>exact h.elim
  rename_i q
  split at h
  case h_2=>exact h.elim
  rename_i u;refine⟨h.1,?_⟩;simp only[q,u];exact h.2
 case range T x=>
  unfold qR at h
  split at h
  ·rename_i hx;simp only[hx];exact h
  ·exact h.elim
 case next it s=>
  cases s with
  |false=>simp only[fy,w]at h
  |true=>
   dsimp only at h⊢;unfold rz at h
   split at h
   case h_2=>exact h.elim
   rename_i hx;simp only[hx]
   split at h
   case h_2=>exact h.elim
   rename_i q;simp only[q];have h:=h.2
   split
   ·rename_i hc;rw[if_pos hc]at h;exact h
   ·rename_i hc;rw[if_neg hc]at h;exact h
 case makeSlice T l c=>
  unfold rB at h
  split at h
  ·rename_i g j p E;simp only[g,j,p,E];exact⟨h.1.1,h.1.2.1,h.1.2.2.1,h.1.2.2.2,h.2⟩
  ·exact h.elim
 case nilCheck x=>
  unfold qL at h
  split at h
  ·rename_i hx;simp only[hx];rw[hx]at h;exact h.2
  ·rename_i hx;simp only[hx];rw[hx]at h;exact h.2
  ·rename_i hx;simp only[hx];rw[hx]at h;exact h.2
  ·exact h.elim
 case call c=>
  split at h
  ·rename_i hc
   split at h
   ·rename_i x hx;unfold rQ at h
    split at h
    ·rename_i A;simp only[ba]at h;simp only[hc,hx,dg,ea,A];exact⟨h.1.1,h.1.2,h.2⟩
    ·exact h.elim
   ·exact h.elim
  ·rename_i hc
   split at h
   ·rename_i s x hx;simp only[hc,hx,dg,ea];exact⟨h.1,Um K h.2⟩
   ·exact h.elim
  ·rename_i hc
   split at h
   ·rename_i d x hx;simp only[hc,hx,dg,ea];obtain⟨J,h⟩:=h;unfold copyV at h
    split at h
    case h_2=>exact h.elim
    rename_i g j p
    split at h
    case h_2=>exact h.elim
    rename_i q;simp only[ba]at h;obtain⟨⟨⟨B,a2⟩,a3,a4,a5,C,I⟩,hk⟩:=h;simp only[g,j,p,q];exact⟨B,a2,J,a3,a4,a5,C,I,hk⟩
   ·exact h.elim
  ·rename_i hc;unfold kH at h
   split at h
   case h_2=>exact h.elim
   rename_i hx
   split at h
   case h_2=>exact h.elim
   rename_i u;simp only[hc,hx,u];exact h.2
  ·rename_i hc;unfold kH at h
   split at h
   case h_2=>exact h.elim
   rename_i hx
   split at h
   case h_2=>exact h.elim
   rename_i u;simp only[hc,hx,u];exact h.2
  ·unfold fy at h;simp only[w]at h;exact h
 all_goals first
  |exact h
  |(unfold fy at h
    simp only[w]at h;exact h)
  |(unfold fy at h
    simp only[w]at h)
end
section
variable{P:a7}{ag:bb->Bool}
def eg(dst:Option Tmp)(s:St)(K:St->Prop)(e:aS):Prop:=K (e.app dst s)
def zZ(dst:Option Tmp)(s:St)(K:St->Prop)(v:AV)(H:Heap):Prop:=K ⟨put dst v s.env,H⟩
def ri(P:a7)(f:AV)(args:List AV)(H:Heap)(K:AV->Heap->Prop):Prop:=
 match f with
 | .p (.func g fi ca)=>gP P false g (fi.map .p++args++ca.map .p) H K
 | .func g fi ca=>gP P false g (fi++args++ca) H K
 | .map b=>∃H' v,ir P b H args H' v/\K v H'
 |_=>False
def qW(P:a7)(f:AV)(args:List AV)(H:Heap)(K:aS->Prop):Prop:=
 match f with
 | .p (.func g fi ca)=>gV P g (fi.map .p++args++ca.map .p) H K
 | .func g fi ca=>gV P g (fi++args++ca) H K
 | .map b=>∃e,tA P b args H.length e/\pL H e/\K e
 |_=>False
def df(P:a7)(ag:bb->Bool)(o:Oper)(K:St->Prop)(s:St):Prop:=
 match o.op with
 | .call {callee:=.value f,args,.. }=>ri P (ev s.env f) (args.toList.map (ev s.env)) s.heap (zZ o.dst s K)
 |_=>kI P ag o s.env s.heap (eg o.dst s K)
def dh(P:a7)(ag:bb->Bool)(o:Oper)(s:St)(K:aS->Prop):Prop:=
 match o.op with
 | .call {callee:=.value f,args,.. }=>qW P (ev s.env f) (args.toList.map (ev s.env)) s.heap K
 |_=>kI P ag o s.env s.heap K
theorem VH{o:Oper}{K:St->Prop}{s:St}(h:df P ag o K s):jw P ag false o K s:=by
 unfold df at h;unfold jw
 split at h
 ·rename_i f args b a;simp only[a];unfold ri at h
  split at h
  ·rename_i hf;simp only[hf];exact h
  ·rename_i hf;simp only[hf];exact h
  ·rename_i hf;simp only[hf];exact h
  ·exact h.elim
 ·rename_i c
  split
  ·rename_i f args b a;exact(c _ _ _ a).elim
  ·exact NQ h
theorem VP{o:Oper}{K:aS->Prop}{s:St}(h:dh P ag o s K):jh P ag o s K:=by
 unfold dh at h;unfold jh
 split at h
 ·rename_i f args b a;simp only[a];unfold qW at h
  split at h
  ·rename_i hf;simp only[hf];exact h
  ·rename_i hf;simp only[hf];exact h
  ·rename_i hf;simp only[hf];exact h
  ·exact h.elim
 ·rename_i c
  split
  ·rename_i f args b a;exact(c _ _ _ a).elim
  ·exact NQ h
def fT(P:a7)(ag:bb->Bool)(a:Array Oper):List Oper->(St->Prop)->St->Prop
 |[],K,s=>K s
 |o::r,K,s=>match o.guard with
  |none=>df P ag o (fT P ag a r K) s
  |some (j,want)=>match guardOf a j s.env with
   | .p (.bool t)=>if t=want then df P ag o (fT P ag a r K) s else fT P ag a r K ⟨put o.dst (.p (.aE [])) s.env,s.heap⟩
   | .p (.aE [])=>fT P ag a r K ⟨put o.dst (.p (.aE [])) s.env,s.heap⟩
   |_=>False
def gd(P:a7)(ag:bb->Bool)(a:Array Oper):List Oper->Nat->List Touch->(St->Prop)->St->Prop
 |[],_,acc,K,s=>ke a acc=true/\K s
 |o::r,i,acc,K,s=>match o.guard with
  |none=>dh P ag o s fun e=>gd P ag a r (i+1) (gQ i s.heap.length e acc) K (e.app o.dst s)
  |some (j,want)=>match guardOf a j s.env with
   | .p (.bool t)=>if t=want then dh P ag o s fun e=>gd P ag a r (i+1) (gQ i s.heap.length e acc) K (e.app o.dst s)
    else gd P ag a r (i+1) acc K ⟨put o.dst (.p (.aE [])) s.env,s.heap⟩
   | .p (.aE [])=>gd P ag a r (i+1) acc K ⟨put o.dst (.p (.aE [])) s.env,s.heap⟩
   |_=>False
theorem yG{b:Array Oper}:∀(l:List Oper){K a:St->Prop}{s:St},(∀s,K s->a s)->fT P ag b l K s->gR P ag false b l a s
 |[],K,a,s,hk,h=>by simp only[fT]at h;simp only[gR];exact hk s h
 |o::l,K,a,s,hk,h=>by
  have go:df P ag o (fT P ag b l K) s->jw P ag false o (gR P ag false b l a) s:=fun h=>by
   obtain⟨t,f,g⟩:=JH false o s _ (VH h);exact g _ (yG l hk f)
  simp only[fT]at h;simp only[gR]
  split at h
  ·rename_i c;simp only[c];exact go h
  ·rename_i j i c;simp only[c]
   split at h
   ·rename_i t d;simp only[d]
    split at h
    ·rename_i e;rw[if_pos e];exact go h
    ·rename_i e;rw[if_neg e];exact yG l hk h
   ·rename_i d;simp only[d];exact yG l hk h
   ·exact h.elim
theorem yb{c:Array Oper}:∀(l:List Oper){i:Nat}{a:List Touch}{K b:St->Prop}{s:St},(∀s,K s->b s)->gd P ag c l i a K s->ga P ag c l i a b s
 |[],i,a,K,b,s,hk,h=>by simp only[gd]at h;simp only[ga];exact⟨h.1,hk s h.2⟩
 |o::l,i,a,K,b,s,hk,h=>by
  have go:dh P ag o s (fun e=>gd P ag c l (i+1) (gQ i s.heap.length e a) K (e.app o.dst s))->jh P ag o s (fun e=>ga P ag c l (i+1) (gQ i s.heap.length e a) b (e.app o.dst s)):=fun h=>by
   obtain⟨e,k,m⟩:=JI o s _ (VP h);exact m _ (yb l hk k)
  simp only[gd]at h;simp only[ga]
  split at h
  ·rename_i d;simp only[d];exact go h
  ·rename_i j n d;simp only[d]
   split at h
   ·rename_i t f;simp only[f]
    split at h
    ·rename_i g;rw[if_pos g];exact go h
    ·rename_i g;rw[if_neg g];exact yb l hk h
   ·rename_i f;simp only[f];exact yb l hk h
   ·exact h.elim
def tK(v:AV)(a b:St->Prop)(s:St):Prop:=
 match v with
 | .p (.bool t)=>if t then a s else b s
 |_=>False
def uf(K:St->Prop)(Q:bp->St->Prop)(e:bp)(s:St):Prop:=
 match e with
 | .normal=>K s
 |e=>Q e s
def dd(P:a7)(ag:bb->Bool)(q:Cx):Code->(bp->St->Prop)->St->Prop
 | .skip,Q,s| .label _,Q,s=>Q .normal s
 | .region _ ops draw,Q,s=>if draw then gd P ag ops ops.toList 0 [] (Q .normal) s else fT P ag ops ops.toList (Q .normal) s
 | .seq a b,Q,s=>dd P ag q a (uf (dd P ag q b Q) Q) s
 | .cond c a b,Q,s=>tK (ev s.env c) (dd P ag q a Q) (dd P ag q b Q) s
 | .block id b,Q,s=>dd P ag q b (nQ id Q) s
 | .scope b,Q,s=>dd P ag q b Q s
 | .loop b,Q,s=>∃I:Nat->St->Prop,(∃n t,dE q.2 s t/\I n t)/\∀n t,I n t->dd P ag q b (tD q.2 n I Q) t
 | .rangeFunc f d a b,Q,s=>q.2<=s.heap.length/\jF P (ev s.env f) s.heap.length (s.heap++[.loop ⟨.ready,none,q.1,d.toList,a,b,s.env⟩]) (iQ s.heap.length s.env Q)
 | .exit id,Q,s=>Q (.exit id) s
 | .ret,Q,s=>Q .ret s
 |_,_,_=>False
theorem VX{Q a:bp->St->Prop}(hq:∀e s,Q e s->a e s){j:Option Code}{s:St}(h:kq Q j s):kq a j s:=by
 unfold kq at h⊢
 split at h
 ·exact hq _ _ h
 ·exact hq _ _ h
 ·exact hq _ _ h
 ·exact h.elim
theorem Jr{Q a:bp->St->Prop}(hq:∀e s,Q e s->a e s){b:Nat}{env:Env}{H:Heap}(h:iQ b env Q H):iQ b env a H:=by
 unfold iQ at h⊢
 split at h
 ·exact⟨h.1,VX hq h.2⟩
 ·exact h.elim
theorem Jo{it:AV}{b:Nat}{H:Heap}{K d:Heap->Prop}(hk:∀H,K H->d H)(h:jF P it b H K):jF P it b H d:=by
 unfold jF at h⊢
 split at h
 ·obtain⟨H',v,a,c⟩:=h;exact⟨H',v,a,hk _ c⟩
 ·obtain⟨H',v,a,c⟩:=h;exact⟨H',v,a,hk _ c⟩
 ·exact h.elim
theorem lI{q:Cx}:∀(c:Code){Q Q':bp->St->Prop}{s:St},(∀e s,Q e s->Q' e s)->dd P ag q c Q s->b7 P ag q c Q' s
 | .skip,Q,Q',s,hq,h| .label _,Q,Q',s,hq,h=>by simp only[dd]at h;simp only[b7];exact hq _ _ h
 | .exit _,Q,Q',s,hq,h| .ret,Q,Q',s,hq,h=>by simp only[dd]at h;simp only[b7];exact hq _ _ h
 | .region id ops draw,Q,Q',s,hq,h=>by
  simp only[dd]at h;simp only[b7]
  split at h
  ·rename_i j;rw[if_pos j];exact yb _ (hq _) h
  ·rename_i j;rw[if_neg j];exact yG _ (hq _) h
 | .seq a b,Q,Q',s,hq,h=>by
  simp only[dd]at h;simp only[b7];refine lI a (fun e s d=>?_) h;cases e with
  |normal=>exact lI b hq d
  |exit id=>exact hq _ _ d
  |ret=>exact hq _ _ d
 | .cond c a b,Q,Q',s,hq,h=>by
  simp only[dd]at h;simp only[b7];unfold tK at h
  split at h
  ·rename_i t m;simp only[m]
   split at h
   ·rename_i g;rw[if_pos g];exact lI a hq h
   ·rename_i g;rw[if_neg g];exact lI b hq h
  ·exact h.elim
 | .block id b,Q,Q',s,hq,h=>by
  simp only[dd]at h;simp only[b7];refine lI b (fun e s d=>?_) h;cases e with
  |normal=>exact hq _ _ d
  |exit i=>
   simp only[nQ]at d
   by_cases hi:i=id
   ·simp only[hi,if_true]at d⊢;exact hq _ _ d
   ·simp only[hi,if_false]at d⊢;exact hq _ _ d
  |ret=>exact hq _ _ d
 | .scope b,Q,Q',s,hq,h=>by simp only[dd]at h;simp only[b7];exact lI b hq h
 | .loop b,Q,Q',s,hq,h=>by
  simp only[dd]at h;simp only[b7];obtain⟨I,k,l⟩:=h;refine⟨I,k,fun n t hI=>lI b (fun e s d=>?_) (l n t hI)⟩;cases e with
  |normal=>exact d
  |exit id=>exact hq _ _ d
  |ret=>exact hq _ _ d
 | .rangeFunc f o a b,Q,Q',s,hq,h=>by
  simp only[dd]at h;simp only[b7];exact⟨h.1,s.env,fun _=>rfl,Jo (fun H=>Jr hq) h.2⟩
 | .goto _,_,_,_,_,h| .refuse _,_,_,_,_,h=>by simp[dd]at h
end
section
variable{P:a7}{ag:bb->Bool}{q:Cx}
theorem Nh{Q:bp->St->Prop}{s:St}:dd P ag q .skip Q s=Q .normal s:=(rfl)
theorem L3{l:Nat}{Q:bp->St->Prop}{s:St}:dd P ag q (.label l) Q s=Q .normal s:=(rfl)
theorem Ni{id:Nat}{Q:bp->St->Prop}{s:St}:dd P ag q (.exit id) Q s=Q (.exit id) s:=(rfl)
theorem Q6{Q:bp->St->Prop}{s:St}:dd P ag q .ret Q s=Q .ret s:=(rfl)
theorem LY{b:Code}{Q:bp->St->Prop}{s:St}:dd P ag q (.scope b) Q s=dd P ag q b Q s:=(rfl)
theorem Nj{id:Nat}{l:List Oper}{Q:bp->St->Prop}{s:St}:dd P ag q (.region id l.toArray true) Q s=gd P ag l.toArray l 0 [] (Q .normal) s:=by simp[dd]
theorem LZ{id:Nat}{l:List Oper}{Q:bp->St->Prop}{s:St}:dd P ag q (.region id l.toArray false) Q s=fT P ag l.toArray l (Q .normal) s:=by simp[dd]
theorem Q7{a b:Code}{Q:bp->St->Prop}{s:St}:dd P ag q (.seq a b) Q s=dd P ag q a (uf (dd P ag q b Q) Q) s:=(rfl)
theorem L4{id:Nat}{b:Code}{Q:bp->St->Prop}{s:St}:dd P ag q (.block id b) Q s=dd P ag q b (nQ id Q) s:=(rfl)
theorem Nk{c:a8}{a b:Code}{Q:bp->St->Prop}{s:St}:dd P ag q (.cond c a b) Q s=tK (ev s.env c) (dd P ag q a Q) (dd P ag q b Q) s:=(rfl)
theorem Io{K:St->Prop}{Q:bp->St->Prop}{s:St}:uf K Q .normal s=K s:=(rfl)
theorem JK{id:Nat}{K:St->Prop}{Q:bp->St->Prop}{s:St}:uf K Q (.exit id) s=Q (.exit id) s:=(rfl)
theorem KC{K:St->Prop}{Q:bp->St->Prop}{s:St}:uf K Q .ret s=Q .ret s:=(rfl)
theorem IL{t:Bool}{a b:St->Prop}{s:St}:tK (.p (.bool t)) a b s=if t then a s else b s:=(rfl)
def wu(P:a7)(ag:bb->Bool)(b:Array Oper)(r:List Oper)(i:Nat)(a:List Touch)(K:St->Prop)(dst:Option Tmp)(s:St)(e:aS):Prop:=
 gd P ag b r (i+1) (gQ i s.heap.length e a) K (e.app dst s)
theorem K8{b:Array Oper}{r:List Oper}{i:Nat}{a:List Touch}{K:St->Prop}{dst:Option Tmp}{env:Env}{heap:Heap}{v:AV}{ak aJ:List (Nat×Obj)}{aQ:List Obj}:
 wu P ag b r i a K dst ⟨env,heap⟩ ⟨v,ak,aJ,aQ⟩=gd P ag b r (i+1) (gQ i heap.length ⟨v,ak,aJ,aQ⟩ a) K ⟨put dst v env,bm heap aJ++aQ⟩:=(rfl)
theorem MN{dst:Option Tmp}{env:Env}{heap:Heap}{K:St->Prop}{v:AV}{ak aJ:List (Nat×Obj)}{aQ:List Obj}:eg dst ⟨env,heap⟩ K ⟨v,ak,aJ,aQ⟩=K ⟨put dst v env,bm heap aJ++aQ⟩:=(rfl)
theorem Mo{dst:Option Tmp}{env:Env}{heap H:Heap}{K:St->Prop}{v:AV}:zZ dst ⟨env,heap⟩ K v H=K ⟨put dst v env,H⟩:=(rfl)
def yK(P:a7)(ag:bb->Bool)(b:Array Oper)(o:Oper)(r:List Oper)(i:Nat)(a:List Touch)(K:St->Prop)(c:Bool)(s:St)(g:AV):Prop:=
 match g with
 | .p (.bool t)=>if t=c then dh P ag o s (wu P ag b r i a K o.dst s)else gd P ag b r (i+1) a K ⟨put o.dst (.p (.aE [])) s.env,s.heap⟩
 | .p (.aE [])=>gd P ag b r (i+1) a K ⟨put o.dst (.p (.aE [])) s.env,s.heap⟩
 |_=>False
def yZ(P:a7)(ag:bb->Bool)(a:Array Oper)(o:Oper)(r:List Oper)(K:St->Prop)(b:Bool)(s:St)(g:AV):Prop:=
 match g with
 | .p (.bool t)=>if t=b then df P ag o (fT P ag a r K) s else fT P ag a r K ⟨put o.dst (.p (.aE [])) s.env,s.heap⟩
 | .p (.aE [])=>fT P ag a r K ⟨put o.dst (.p (.aE [])) s.env,s.heap⟩
 |_=>False
theorem Ng{b:Array Oper}{i:Nat}{a:List Touch}{K:St->Prop}{s:St}:gd P ag b [] i a K s=(ke b a=true/\K s):=(rfl)
theorem LX{b:Array Oper}{i c:Nat}{pos:String}{a:List Touch}{K:St->Prop}{s:St}{dst:Option Tmp}{op:Op}{af:Array Edge}{r:List Oper}:
 gd P ag b ({dst,op,type:=c,pos,after:=af,guard:=none}::r) i a K s=dh P ag {dst,op,type:=c,pos,after:=af,guard:=none} s (wu P ag b r i a K dst s):=(rfl)
theorem KI{a:Array Oper}{i d j:Nat}{b:Bool}{pos:String}{c:List Touch}{K:St->Prop}{s:St}{dst:Option Tmp}{op:Op}{af:Array Edge}{r:List Oper}:
 gd P ag a ({dst,op,type:=d,pos,after:=af,guard:=some (j,b)}::r) i c K s=yK P ag a {dst,op,type:=d,pos,after:=af,guard:=some (j,b)} r i c K b s (guardOf a j s.env):=(rfl)
theorem Nd{a:Array Oper}{K:St->Prop}{s:St}:fT P ag a [] K s=K s:=(rfl)
theorem LV{a:Array Oper}{b:Nat}{pos:String}{K:St->Prop}{s:St}{dst:Option Tmp}{op:Op}{af:Array Edge}{r:List Oper}:
 fT P ag a ({dst,op,type:=b,pos,after:=af,guard:=none}::r) K s=df P ag {dst,op,type:=b,pos,after:=af,guard:=none} (fT P ag a r K) s:=(rfl)
theorem KH{a:Array Oper}{c j:Nat}{b:Bool}{pos:String}{K:St->Prop}{s:St}{dst:Option Tmp}{op:Op}{af:Array Edge}{r:List Oper}:
 fT P ag a ({dst,op,type:=c,pos,after:=af,guard:=some (j,b)}::r) K s=yZ P ag a {dst,op,type:=c,pos,after:=af,guard:=some (j,b)} r K b s (guardOf a j s.env):=(rfl)
end
section DQ
variable{P:a7}{ag:bb->Bool}{q:Cx}
end DQ
section ops
variable{P:a7}{ag:bb->Bool}{dst:Option Tmp}{ty:Nat}{pos:String}{af:Array Edge}{g:Option (Nat×Bool)}{env:Env}{heap:Heap}{K:aS->Prop}{L:St->Prop}
theorem Om{x:a8}:dh P ag ⟨dst,.move x,ty,pos,af,g⟩ ⟨env,heap⟩ K=K {v:=ev env x}:=(rfl)
theorem K6{x:a8}:dh P ag ⟨dst,.assign x,ty,pos,af,g⟩ ⟨env,heap⟩ K=K {v:=ev env x}:=(rfl)
theorem Ok{c a b:a8}:dh P ag ⟨dst,.pick c a b,ty,pos,af,g⟩ ⟨env,heap⟩ K=ba (rr (ev env c) (ev env a) (ev env b)) K:=(rfl)
theorem MB{T:a6}:dh P ag ⟨dst,.alloc T,ty,pos,af,g⟩ ⟨env,heap⟩ K=ba (qZ P T heap.length) K:=(rfl)
theorem O1{T:a6}{x:a8}:dh P ag ⟨dst,.box T x,ty,pos,af,g⟩ ⟨env,heap⟩ K=ba (tT P T heap.length (ev env x)) K:=(rfl)
theorem MA{T:a6}{a:Array (Nat×a8)}:dh P ag ⟨dst,.build T a,ty,pos,af,g⟩ ⟨env,heap⟩ K=ba (qX P T (a.toList.map fun(i,x)=>(i,ev env x))) K:=(rfl)
theorem HV{T:a6}{n:Nat}{a:Array (Nat×a8)}:dh P ag ⟨dst,.buildSlice T n a,ty,pos,af,g⟩ ⟨env,heap⟩ K=ba (qo P T n (a.toList.map fun(i,x)=>(i,ev env x)) heap.length) K:=(rfl)
theorem N1{T:a6}{a:a8}:dh P ag ⟨dst,.load T a,ty,pos,af,g⟩ ⟨env,heap⟩ K=ba (pJ P T heap (ev env a)) K:=(rfl)
theorem Mw{T:a6}{a x:a8}:dh P ag ⟨dst,.store T a x,ty,pos,af,g⟩ ⟨env,heap⟩ K=ba (pA P T heap (ev env a) (ev env x)) K:=(rfl)
theorem O0{op:be}{T a:a6}{x y:a8}:dh P ag ⟨dst,.binOp op T x y a,ty,pos,af,g⟩ ⟨env,heap⟩ K=ba (bG P op T (me y) heap (ev env x) (ev env y)) K:=(rfl)
theorem O5{op:UnOp}{T:a6}{x:a8}:dh P ag ⟨dst,.unOp op T x,ty,pos,af,g⟩ ⟨env,heap⟩ K=ba (rZ op (ev env x)) K:=(rfl)
theorem N4{S D:a6}{x:a8}:dh P ag ⟨dst,.convert S D x,ty,pos,af,g⟩ ⟨env,heap⟩ K=ba (rh P S D heap (ev env x)) K:=(rfl)
theorem Kc{t:a8}{i:Nat}:dh P ag ⟨dst,.extract t i,ty,pos,af,g⟩ ⟨env,heap⟩ K=ba (qB (ev env t) i) K:=(rfl)
theorem Iq{T:a6}{a:a8}{f:Nat}:dh P ag ⟨dst,.fieldAddr T a f,ty,pos,af,g⟩ ⟨env,heap⟩ K=ba (oN P T (ev env a) f) K:=(rfl)
theorem Ip{T:a6}{x i:a8}:dh P ag ⟨dst,.indexAddr T x i,ty,pos,af,g⟩ ⟨env,heap⟩ K=ba (oM P T heap (ev env x) (ev env i)) K:=(rfl)
theorem Mz{T:a6}{x i:a8}:dh P ag ⟨dst,.index T x i,ty,pos,af,g⟩ ⟨env,heap⟩ K=ba (q8 P T (ev env x) (ev env i)) K:=(rfl)
theorem O2{x:a8}{a:Array a6}:dh P ag ⟨dst,.call {callee:=.builtin .len,args:=#[x],argTypes:=a},ty,pos,af,g⟩ ⟨env,heap⟩ K=ba (rQ P (a.getD 0 0) a.size heap (ev env x)) K:=(rfl)
theorem N5{f:a8}{args:List a8}{a:Array a6}:dh P ag ⟨dst,.call {callee:=.value f,args:=args.toArray,argTypes:=a},ty,pos,af,g⟩ ⟨env,heap⟩ K=qW P (ev env f) (args.map (ev env)) heap K:=(rfl)
theorem NG{x:a8}:df P ag ⟨dst,.move x,ty,pos,af,g⟩ L ⟨env,heap⟩=eg dst ⟨env,heap⟩ L {v:=ev env x}:=(rfl)
theorem Kn{x:a8}:df P ag ⟨dst,.assign x,ty,pos,af,g⟩ L ⟨env,heap⟩=eg dst ⟨env,heap⟩ L {v:=ev env x}:=(rfl)
theorem NC{c a b:a8}:df P ag ⟨dst,.pick c a b,ty,pos,af,g⟩ L ⟨env,heap⟩=ba (rr (ev env c) (ev env a) (ev env b)) (eg dst ⟨env,heap⟩ L):=(rfl)
theorem Md{T:a6}:df P ag ⟨dst,.alloc T,ty,pos,af,g⟩ L ⟨env,heap⟩=ba (qZ P T heap.length) (eg dst ⟨env,heap⟩ L):=(rfl)
theorem QA{T:a6}{x:a8}:df P ag ⟨dst,.box T x,ty,pos,af,g⟩ L ⟨env,heap⟩=ba (tT P T heap.length (ev env x)) (eg dst ⟨env,heap⟩ L):=(rfl)
theorem Mc{T:a6}{a:Array (Nat×a8)}:df P ag ⟨dst,.build T a,ty,pos,af,g⟩ L ⟨env,heap⟩=ba (qX P T (a.toList.map fun(i,x)=>(i,ev env x))) (eg dst ⟨env,heap⟩ L):=(rfl)
theorem HO{T:a6}{n:Nat}{a:Array (Nat×a8)}:df P ag ⟨dst,.buildSlice T n a,ty,pos,af,g⟩ L ⟨env,heap⟩=ba (qo P T n (a.toList.map fun(i,x)=>(i,ev env x)) heap.length) (eg dst ⟨env,heap⟩ L):=(rfl)
theorem NH{T:a6}{a:a8}:df P ag ⟨dst,.load T a,ty,pos,af,g⟩ L ⟨env,heap⟩=ba (pJ P T heap (ev env a)) (eg dst ⟨env,heap⟩ L):=(rfl)
theorem Mq{T:a6}{a x:a8}:df P ag ⟨dst,.store T a x,ty,pos,af,g⟩ L ⟨env,heap⟩=ba (pA P T heap (ev env a) (ev env x)) (eg dst ⟨env,heap⟩ L):=(rfl)
theorem Qz{op:be}{T a:a6}{x y:a8}:df P ag ⟨dst,.binOp op T x y a,ty,pos,af,g⟩ L ⟨env,heap⟩=ba (bG P op T (me y) heap (ev env x) (ev env y)) (eg dst ⟨env,heap⟩ L):=(rfl)
theorem QF{op:UnOp}{T:a6}{x:a8}:df P ag ⟨dst,.unOp op T x,ty,pos,af,g⟩ L ⟨env,heap⟩=ba (rZ op (ev env x)) (eg dst ⟨env,heap⟩ L):=(rfl)
theorem NK{S D:a6}{x:a8}:df P ag ⟨dst,.convert S D x,ty,pos,af,g⟩ L ⟨env,heap⟩=ba (rh P S D heap (ev env x)) (eg dst ⟨env,heap⟩ L):=(rfl)
theorem Jq{t:a8}{i:Nat}:df P ag ⟨dst,.extract t i,ty,pos,af,g⟩ L ⟨env,heap⟩=ba (qB (ev env t) i) (eg dst ⟨env,heap⟩ L):=(rfl)
theorem Ig{T:a6}{a:a8}{f:Nat}:df P ag ⟨dst,.fieldAddr T a f,ty,pos,af,g⟩ L ⟨env,heap⟩=ba (oN P T (ev env a) f) (eg dst ⟨env,heap⟩ L):=(rfl)
theorem Ie{T:a6}{x i:a8}:df P ag ⟨dst,.indexAddr T x i,ty,pos,af,g⟩ L ⟨env,heap⟩=ba (oM P T heap (ev env x) (ev env i)) (eg dst ⟨env,heap⟩ L):=(rfl)
theorem Mb{T:a6}{x i:a8}:df P ag ⟨dst,.index T x i,ty,pos,af,g⟩ L ⟨env,heap⟩=ba (q8 P T (ev env x) (ev env i)) (eg dst ⟨env,heap⟩ L):=(rfl)
theorem QB{x:a8}{a:Array a6}:df P ag ⟨dst,.call {callee:=.builtin .len,args:=#[x],argTypes:=a},ty,pos,af,g⟩ L ⟨env,heap⟩=ba (rQ P (a.getD 0 0) a.size heap (ev env x)) (eg dst ⟨env,heap⟩ L):=(rfl)
theorem NL{f:a8}{args:List a8}{a:Array a6}:df P ag ⟨dst,.call {callee:=.value f,args:=args.toArray,argTypes:=a},ty,pos,af,g⟩ L ⟨env,heap⟩=ri P (ev env f) (args.map (ev env)) heap (zZ dst ⟨env,heap⟩ L):=(rfl)
theorem Mx{T:a6}{x:a8}{lo hi:Option a8}:dh P ag ⟨dst,.slice T x lo hi none,ty,pos,af,g⟩ ⟨env,heap⟩ K=ba (pC P T heap (ev env x) (lo.map (ev env)) (hi.map (ev env))) K:=(rfl)
theorem L9{T:a6}{x:a8}{lo hi:Option a8}:df P ag ⟨dst,.slice T x lo hi none,ty,pos,af,g⟩ L ⟨env,heap⟩=ba (pC P T heap (ev env x) (lo.map (ev env)) (hi.map (ev env))) (eg dst ⟨env,heap⟩ L):=(rfl)
theorem K4{T:a6}{x i:a8}{ok:Bool}:dh P ag ⟨dst,.lookup T x i ok,ty,pos,af,g⟩ ⟨env,heap⟩ K=ba (rl P T heap (ev env x) (ev env i) ok) K:=(rfl)
theorem Kl{T:a6}{x i:a8}{ok:Bool}:df P ag ⟨dst,.lookup T x i ok,ty,pos,af,g⟩ L ⟨env,heap⟩=ba (rl P T heap (ev env x) (ev env i) ok) (eg dst ⟨env,heap⟩ L):=(rfl)
theorem IE{T:a6}{m k x:a8}:dh P ag ⟨dst,.mapUpdate T m k x,ty,pos,af,g⟩ ⟨env,heap⟩ K=ba (mc P T heap (ev env m) (ev env k) (ev env x)) K:=(rfl)
theorem Ib{T:a6}{m k x:a8}:df P ag ⟨dst,.mapUpdate T m k x,ty,pos,af,g⟩ L ⟨env,heap⟩=ba (mc P T heap (ev env m) (ev env k) (ev env x)) (eg dst ⟨env,heap⟩ L):=(rfl)
theorem K5{T:a6}{m k x:a8}:dh P ag ⟨dst,.insert T m k x,ty,pos,af,g⟩ ⟨env,heap⟩ K=ba (mc P T heap (ev env m) (ev env k) (ev env x)) K:=(rfl)
theorem Km{T:a6}{m k x:a8}:df P ag ⟨dst,.insert T m k x,ty,pos,af,g⟩ L ⟨env,heap⟩=ba (mc P T heap (ev env m) (ev env k) (ev env x)) (eg dst ⟨env,heap⟩ L):=(rfl)
theorem My{T:a6}{x:a8}:dh P ag ⟨dst,.range T x,ty,pos,af,g⟩ ⟨env,heap⟩ K=ba (qR P T heap.length (ev env x)) K:=(rfl)
theorem Ma{T:a6}{x:a8}:df P ag ⟨dst,.range T x,ty,pos,af,g⟩ L ⟨env,heap⟩=ba (qR P T heap.length (ev env x)) (eg dst ⟨env,heap⟩ L):=(rfl)
theorem Ol{it:a8}:dh P ag ⟨dst,.next it true,ty,pos,af,g⟩ ⟨env,heap⟩ K=ba (rz heap (ev env it)) K:=(rfl)
theorem ND{it:a8}:df P ag ⟨dst,.next it true,ty,pos,af,g⟩ L ⟨env,heap⟩=ba (rz heap (ev env it)) (eg dst ⟨env,heap⟩ L):=(rfl)
theorem IF{T:a6}{l c:a8}:dh P ag ⟨dst,.makeSlice T l c,ty,pos,af,g⟩ ⟨env,heap⟩ K=ba (rB P T heap.length (ev env l) (ev env c)) K:=(rfl)
theorem Ic{T:a6}{l c:a8}:df P ag ⟨dst,.makeSlice T l c,ty,pos,af,g⟩ L ⟨env,heap⟩=ba (rB P T heap.length (ev env l) (ev env c)) (eg dst ⟨env,heap⟩ L):=(rfl)
theorem II{x:a8}:dh P ag ⟨dst,.nilCheck x,ty,pos,af,g⟩ ⟨env,heap⟩ K=ba (qL (ev env x)) K:=(rfl)
theorem I9{x:a8}:df P ag ⟨dst,.nilCheck x,ty,pos,af,g⟩ L ⟨env,heap⟩=ba (qL (ev env x)) (eg dst ⟨env,heap⟩ L):=(rfl)
theorem O4{args:Array a8}{a:Array a6}:dh P ag ⟨dst,.call {callee:=.builtin .min,args,argTypes:=a},ty,pos,af,g⟩ ⟨env,heap⟩ K=ba (kH false (args.toList.map (ev env))) K:=(rfl)
theorem QD{args:Array a8}{a:Array a6}:df P ag ⟨dst,.call {callee:=.builtin .min,args,argTypes:=a},ty,pos,af,g⟩ L ⟨env,heap⟩=ba (kH false (args.toList.map (ev env))) (eg dst ⟨env,heap⟩ L):=(rfl)
theorem O3{args:Array a8}{a:Array a6}:dh P ag ⟨dst,.call {callee:=.builtin .max,args,argTypes:=a},ty,pos,af,g⟩ ⟨env,heap⟩ K=ba (kH true (args.toList.map (ev env))) K:=(rfl)
theorem QC{args:Array a8}{a:Array a6}:df P ag ⟨dst,.call {callee:=.builtin .max,args,argTypes:=a},ty,pos,af,g⟩ L ⟨env,heap⟩=ba (kH true (args.toList.map (ev env))) (eg dst ⟨env,heap⟩ L):=(rfl)
theorem Kb{T:a6}:dh P ag ⟨dst,.makeMap T none,ty,pos,af,g⟩ ⟨env,heap⟩ K=K {v:=.map heap.length,aQ:=[.map false []]}:=(rfl)
theorem JX{T:a6}:df P ag ⟨dst,.makeMap T none,ty,pos,af,g⟩ L ⟨env,heap⟩=eg dst ⟨env,heap⟩ L {v:=.map heap.length,aQ:=[.map false []]}:=(rfl)
theorem K7{s x:a8}{T X:a6}:dh P ag ⟨dst,.call {callee:=.builtin .append,args:=#[s,x],argTypes:=#[T,X]},ty,pos,af,g⟩ ⟨env,heap⟩ K=ba (pz P T X heap (ev env s) (ev env x)) K:=by simp[dh,kI]
theorem Ko{s x:a8}{T X:a6}:df P ag ⟨dst,.call {callee:=.builtin .append,args:=#[s,x],argTypes:=#[T,X]},ty,pos,af,g⟩ L ⟨env,heap⟩=ba (pz P T X heap (ev env s) (ev env x)) (eg dst ⟨env,heap⟩ L):=by simp[df,kI]
theorem N2{s x:a8}{T X:a6}:dh P ag ⟨dst,.call {callee:=.builtin .copy,args:=#[s,x],argTypes:=#[T,X]},ty,pos,af,g⟩ ⟨env,heap⟩ K=ba (copyV P T heap (ev env s) (ev env x)) K:=by simp[dh,kI]
theorem NJ{s x:a8}{T X:a6}:df P ag ⟨dst,.call {callee:=.builtin .copy,args:=#[s,x],argTypes:=#[T,X]},ty,pos,af,g⟩ L ⟨env,heap⟩=ba (copyV P T heap (ev env s) (ev env x)) (eg dst ⟨env,heap⟩ L):=by simp[df,kI]
theorem OX{f:bb}{fi ca:List AV}{args:List AV}{M:AV->Heap->Prop}:ri P (.func f fi ca) args heap M=gP P false f (fi++args++ca) heap M:=(rfl)
theorem N6{f:bb}{fi ca:List AV}{args:List AV}:qW P (.func f fi ca) args heap K=gV P f (fi++args++ca) heap K:=(rfl)
theorem OY{f:bb}{fi ca:List PV}{args:List AV}{M:AV->Heap->Prop}:ri P (.p (.func f fi ca)) args heap M=gP P false f (fi.map .p++args++ca.map .p) heap M:=(rfl)
theorem OZ{f:bb}{fi ca:List PV}{args:List AV}:qW P (.p (.func f fi ca)) args heap K=gV P f (fi.map .p++args++ca.map .p) heap K:=(rfl)
end ops
section
variable{P:a7}
@[simp] theorem aKO{b:Bool}:aL (.bool b)=.leaf:=(rfl)
@[simp] theorem aK5{k:bk}{n:Int}:aL (.int k n)=.leaf:=(rfl)
@[simp] theorem aLa{l:List Nat}:aL (.str l)=.leaf:=(rfl)
@[simp] theorem aK6:aL .aN=.leaf:=(rfl)
@[simp] theorem aK7{l:List PV}:aL (.seq l)=.leaf:=(rfl)
@[simp] theorem aK4{f:bb}{a b:List PV}:aL (.func f a b)=.leaf:=(rfl)
@[simp] theorem aK9{u:a6}{fs:List PV}:aL (.st u fs)=.agg u:=(rfl)
@[simp] theorem aKL{v:PV}:aa (.p v)=aL v:=(rfl)
@[simp] theorem aKN{u:a6}{fs:List AV}:aa (.st u fs)=.agg u:=(rfl)
@[simp] theorem aKM{b v e o l:Nat}:aa (.sl b v e o l)=.leaf:=(rfl)
@[simp] theorem aJQ{u:a6}{fs:List PV}:cF (.st u fs)=fs:=(rfl)
theorem VO{a:List bo}{Q:PV->Prop}{s:St}:zA P a Q .ret s=∃vs,fE P s a=some vs/\∃v,eh s.heap 9 (oneOf vs)=some v/\Q v:=by simp[zA]
theorem TI{a:List bo}{Q:PV->Prop}{s:St}:zA P a Q .normal s=∃vs,fE P s a=some vs/\∃v,eh s.heap 9 (oneOf vs)=some v/\Q v:=by simp[zA]
attribute [simp] VO TI jd Nh L3 Ni Q6 LY Nj LZ Q7 L4 Nk Io JK KC IL K8 MN Mo Ng LX Nd LV KI KH
 Om K6 Ok MB O1 MA HV N1 Mw O0 O5 N4 Kc Iq Ip Mz O2 N5
 NG Kn NC Md QA Mc HO NH Mq Qz QF NK Jq Ig Ie Mb QB NL OY OZ Mx L9 K4 Kl IE Ib K5 Km My Ma Ol ND IF Ic II I9 O4 QD O3 QC Kb JX K7 Ko N2 NJ OX N6 pz kC pC rl mc qR rz rB copyV qL kH gL dv fc ft jf fR lW tg gk im lQ U5 VC
 SV Uh Vg SJ Tv UW
 aM put iD ev ofConst bm gQ hJ nL eM kT fO gW ef rr qZ tT jg qX qo bG ub EN rZ rh qB q8 rQ pJ pA oN oM lenOf gS il lP bD
 me fE pD oneOf eh
end
section
variable{P:a7}{ag:bb->Bool}
def sE:jk->jk->Bool
 | .leaf,.leaf=>true
 | .agg u,.agg v=>ey u v
 |_,_=>false
theorem iE{a b:jk}(h:sE a b=true):a=b/\b≠.bad:=by
 cases a<;>cases b<;>simp_all [sE]
def kE:AK->AK->Bool
 | .exact,.exact| .grow,.grow| .frozen,.frozen| .bytes,.bytes=>true
 |_,_=>false
def wO:AK->Bool
 | .frozen=>false
 |_=>true
theorem Df{k:AK}(h:wO k=true):k≠.frozen:=by cases k<;>simp_all [wO]
def n9(k:AK)(a:List AV):Bool:=match k.gr,a with
 |true,[]=>false
 |_,_=>true
theorem vN{k:AK}{a:List AV}(h:n9 k a=true):¬(k.gr=true/\a=[]):=by
 rintro⟨b,rfl⟩;simp[n9,b]at h
theorem dj{a b:Nat}(h:ey a b=true):a=b:=Nat.eq_of_beq_eq_true h
theorem cU{a b:Nat}(h:e6 a b=true):a<=b:=Nat.le_of_ble_eq_true h
def Po:bk->bk->Bool:=fun a b=>decide (a=b)
def vO(P:a7)(l:List Nat):List (Nat×AV)->Bool
 |[]=>true
 |(i,v)::r=>(match l[i]? with
  |some n=>ey (bD P (aa v)) n&&(match aa v with
   | .bad=>false
   |_=>true)
  |none=>false)&&vO P l r
theorem BF{l:List Nat}:∀{r:List (Nat×AV)},vO P l r=true->lP P l r
 |[],_=>trivial
 |(i,v)::r,h=>by
  simp only[vO,a0]at h;refine⟨?_,BF h.2⟩;have a:=h.1
  split at a
  ·rename_i n c;simp only[a0]at a;refine⟨n,c,dj a.1,fun b=>?_⟩;rw[b]at a;simp at a
  ·simp at a
def pK(P:a7)(sz:Nat):List AV->Bool
 |[]=>true
 |v::r=>(match aa v with
  | .bad=>false
  |s=>ey (bD P s) sz)&&pK P sz r
theorem tu{sz:Nat}:∀{r:List AV},pK P sz r=true->fc P sz r
 |[],_=>trivial
 |v::r,h=>by
  simp only[pK,a0]at h;refine⟨?_,tu h.2⟩;have a:=h.1
  split at a
  ·simp at a
  ·rename_i b;exact⟨b,dj a⟩
def Ev(P:a7)(T:a6)(H:Heap)(a:AV):Option aS:=
 match a with
 | .ptr b path=>match H[b]? with
  |some (.box fz t)=>match eM t path with
   |some s=>bif sE (kindOf P T) (aa s)then some {v:=s,ak:=[(b,.box fz t)]}else none
   |none=>none
  |_=>none
 | .bV b ar ai i path=>match H[b]? with
  |some (.arr k d c es)=>bif ey ar d&&ey ai c then match es[i]? with
   |some x=>match eM x path with
    |some s=>bif sE (kindOf P T) (aa s)then some {v:=s,ak:=[(b,.arr k d c es)]}else none
    |none=>none
   |none=>none
   else none
  |_=>none
 | .p (.ct t)=>bif sE (kindOf P T) (aL t)then some {v:=.p t}else none
 |_=>none
theorem WW{T:a6}{H:Heap}{a:AV}{e:aS}{K:aS->Prop}(h:Ev P T H a=some e)(hk:K e):nT P T H a K:=by
 unfold Ev at h;unfold nT
 split at h
 ·split at h
  ·split at h
   ·rename_i hs;simp only[aT,fl,fv]at h;rename_i c _ _;obtain⟨b,rfl⟩:=h;simp only[c,hs];exact⟨(iE b).1,hk⟩
   ·simp at h
  ·simp at h
 ·split at h
  ·rename_i c;simp only[aT,fl,a0]at h;obtain⟨⟨b,d⟩,h⟩:=h
   split at h
   ·rename_i hx
    split at h
    ·rename_i hs;simp only[fl,fv]at h;obtain⟨f,rfl⟩:=h;obtain⟨hi,rfl⟩:=cy.1 hx;simp only[c];refine⟨dj b,dj d,hi,?_⟩;simp only[hs];exact⟨(iE f).1,hk⟩
    ·simp at h
   ·simp at h
  ·simp at h
 ·simp only[aT,fl,fv]at h;obtain⟨b,rfl⟩:=h;exact⟨(iE b).1,hk⟩
 ·simp at h
def C6(P:a7)(T:a6)(H:Heap)(a x:AV):Option aS:=
 bif sE (kindOf P T) (aa x)then match a with
 | .ptr b path=>match H[b]? with
  |some (.box false t)=>match eM t path,fO t path x with
   |some s,some d=>bif sE (aa s) (aa x)then some {v:=.p (.aE []),ak:=[(b,.box false t)],aJ:=[(b,.box false d)]}else none
   |_,_=>none
  |_=>none
 | .bV b ar ai i path=>match H[b]? with
  |some (.arr k e c es)=>bif ey ar e&&(ey ai c&&wO k)then match es[i]? with
   |some y=>match eM y path,fO y path x with
    |some s,some d=>bif sE (aa s) (aa x)then some {v:=.p (.aE []),ak:=[(b,.arr k e c es)],aJ:=[(b,.arr k e c (es.set i d))]}else none
    |_,_=>none
   |none=>none
   else none
  |_=>none
 |_=>none
 else none
theorem U9{T:a6}{H:Heap}{a x:AV}{e:aS}{K:aS->Prop}(h:C6 P T H a x=some e)(hk:K e):nI P T H a x K:=by
 unfold C6 at h;unfold nI;simp only[aT,fl]at h;obtain⟨f,h⟩:=h;refine⟨(iE f).1,(iE f).2,?_⟩
 split at h
 ·split at h
  ·rename_i c
   split at h
   ·rename_i hs d;simp only[fl,fv]at h;obtain⟨b,rfl⟩:=h;simp only[c,hs,d];exact⟨(iE b).1,hk⟩
   ·simp at h
  ·simp at h
 ·split at h
  ·rename_i c;simp only[fl,a0]at h;obtain⟨⟨b,g,i⟩,h⟩:=h
   split at h
   ·rename_i k
    split at h
    ·rename_i hs d;simp only[fl,fv]at h;obtain⟨j,rfl⟩:=h;obtain⟨hi,rfl⟩:=cy.1 k;simp only[c];refine⟨dj b,dj g,Df i,hi,?_⟩;simp only[hs,d];exact⟨(iE j).1,hk⟩
    ·simp at h
   ·simp at h
  ·simp at h
 ·simp at h
def D2(op:be)(k:bk)(a b:Int):Option PV:=
 match op with
 | .add=>some (.int k (k.wrap (a+b)))
 | .sub=>some (.int k (k.wrap (a-b)))
 | .mul=>some (.int k (k.wrap (a*b)))
 | .quo=>match b with
  | .ofNat 0=>none
  |b=>some (.int k (k.wrap (a.tdiv b)))
 | .rem=>match b with
  | .ofNat 0=>none
  |b=>some (.int k (a.tmod b))
 | .and=>some (.int k (k.wrap (ay k.bits a&&&ay k.bits b).toNat))
 | .or=>some (.int k (k.wrap (ay k.bits a|||ay k.bits b).toNat))
 | .xor=>some (.int k (k.wrap (ay k.bits a^^^ay k.bits b).toNat))
 | .andNot=>some (.int k (k.wrap (ay k.bits a&&&~~~ay k.bits b).toNat))
 | .eql=>some (.bool (a==b))
 | .neq=>some (.bool (a !=b))
 | .lss=>some (.bool (decide (a<b)))
 | .leq=>some (.bool (decide (a<=b)))
 | .gtr=>some (.bool (decide (a>b)))
 | .geq=>some (.bool (decide (a>=b)))
 | .shl=>match b with
  | .ofNat _=>some (.int k (k.wrap (a*2^(min b.toNat k.bits))))
  |_=>none
 | .shr=>match b with
  | .ofNat _=>some (.int k (a.fdiv (2^(min b.toNat k.bits))))
  |_=>none
theorem ZX{op:be}{k:bk}{a b:Int}{v:PV}{K:PV->Prop}(h:D2 op k a b=some v)(hk:K v):pI op k a b K:=by
 cases op<;>simp only[D2]at h<;>simp only[pI]
 case quo|rem=>
  split at h
  ·simp at h
  ·rename_i d;simp only[fv]at h;subst h;exact⟨fun c=>d (by rw[c];rfl),hk⟩
 case shl|shr=>
  split at h
  ·simp only[fv]at h;subst h;exact⟨cc _,hk⟩
  ·simp at h
 all_goals (simp only[fv]at h;subst h;exact hk)
def DJ(P:a7)(op:be)(T:a6)(c:Bool)(H:Heap)(x y:AV):Option PV:=
 match x,y with
 | .p (.int k a),.p (.int d b)=>bif Po k d||(match op with
  | .shl| .shr=>true
  |_=>false)then D2 op k a b else none
 | .p (.str a),.p (.str b)=>match op with
  | .add=>bif e6 (a.length+b.length) 9223372036854775807 then some (.str (a++b))else none
  | .eql=>some (.bool (a==b))
  | .neq=>some (.bool (!(a==b)))
  | .lss=>some (.bool (ja a b))
  | .leq=>some (.bool (ja a b||a==b))
  | .gtr=>some (.bool (!(ja a b||a==b)))
  | .geq=>some (.bool (!(ja a b)))
  |_=>none
 | .p (.bool a),.p (.bool b)=>bif qO P T then match op with
  | .eql=>some (.bool (a==b))
  | .neq=>some (.bool (!(a==b)))
  |_=>none
  else none
 | .p (.st u fs),.p (.st u' gs)=>bif rM P T then match ie P 9 T (.st u fs) (.st u' gs),op with
  |some r,.eql=>some (.bool r)
  |some r,.neq=>some (.bool !r)
  |_,_=>none
  else none
 |x,y=>match du P T c y with
  |some k=>match cS H k x,op with
   |some r,.eql=>some (.bool r)
   |some r,.neq=>some (.bool !r)
   |_,_=>none
  |none=>none
theorem X0{op:be}{T:a6}{c:Bool}{H:Heap}{x y:AV}{v:PV}{K:PV->Prop}(h:DJ P op T c H x y=some v)(hk:K v):kt P op T c H x y K:=by
 unfold DJ at h;unfold kt
 split at h
 ·simp only[aT,fl,Bool.or_eq_true,Po,decide_eq_true_eq]at h;refine⟨?_,ZX h.2 hk⟩;rcases h.1 with b|b
  ·exact .inl b
  ·cases op<;>simp at b<;>simp
 ·split at h<;>simp only[pH]
  ·simp only[aT,fl,fv]at h;obtain⟨b,rfl⟩:=h;exact⟨by have:=cU b;omega,hk⟩
  ·simp only[fv]at h;subst h;exact hk
  ·simp only[fv]at h;subst h;exact hk
  ·simp only[fv]at h;subst h;exact hk
  ·simp only[fv]at h;subst h;exact hk
  ·simp only[fv]at h;subst h;exact hk
  ·simp only[fv]at h;subst h;exact hk
  ·simp at h
 ·simp only[aT,fl]at h;refine⟨h.1,?_⟩;have a:=h.2
  split at a
  ·simp only[fv]at a;subst a;exact hk
  ·simp only[fv]at a;subst a;exact hk
  ·simp at a
 ·simp only[aT,fl]at h;refine⟨h.1,?_⟩;have a:=h.2
  split at a
  ·rename_i d;simp only[fv]at a;subst a;simp only[d];exact hk
  ·rename_i d;simp only[fv]at a;subst a;simp only[d];exact hk
  ·simp at a
 ·split at h
  case h_2=>simp at h
  rename_i k f;show kt P op T c H x y _;rw[J0 f];obtain⟨r,e,d⟩:∃r,cS H k x=some r/\((op=.eql/\v=.bool r)\/(op=.neq/\v=.bool !r)):=by
   revert h;generalize cS H k x=q;intro h;cases q with
   |none=>simp at h
   |some r=>cases op<;>simp at h<;>exact⟨r,rfl,by simp[h]⟩
  rw[e];rcases d with⟨rfl,rfl⟩|⟨rfl,rfl⟩<;>exact hk
def Bw(P:a7)(T:a6)(a:AV)(f:Nat):Option aS:=
 match fQ P T with
 |some (u,n)=>bif e6 (f+1) n then match a with
  | .ptr b path=>some {v:=.ptr b (path++[(u,f)])}
  | .bV b ar ai i path=>some {v:=.bV b ar ai i (path++[(u,f)])}
  | .p (.ct t)=>bif sE (aL t) (.agg u)then match(cF t)[f]? with
   |some g=>some {v:=.p (.ct g)}
   |none=>none
   else none
  |_=>none
  else none
 |_=>none
theorem SN{T:a6}{a:AV}{f:Nat}{e:aS}{K:aS->Prop}(h:Bw P T a f=some e)(hk:K e):nw P T a f K:=by
 unfold Bw at h;unfold nw
 split at h
 ·rename_i hs;simp only[aT,fl]at h;obtain⟨b,h⟩:=h;simp only[hs];refine⟨by have:=cU b;omega,?_⟩
  split at h
  ·simp only[fv]at h;subst h;exact hk
  ·simp only[fv]at h;subst h;exact hk
  ·simp only[fl]at h;obtain⟨c,h⟩:=h
   split at h
   ·rename_i d;simp only[fv]at h;subst h;simp only[d];exact⟨(iE c).1,hk⟩
   ·simp at h
  ·simp at h
 ·simp at h
def oE(a:Option Nat)(b:Nat):Bool:=match a with
 |some x=>ey x b
 |none=>false
theorem v8{a:Option Nat}{b:Nat}(h:oE a b=true):a=some b:=by
 unfold oE at h;split at h
 ·rw[dj h]
 ·simp at h
def Bt(P:a7)(T:a6)(H:Heap)(x i:AV):Option aS:=
 match i with
 | .p (.int _ (.ofNat i))=>match x with
  | .p (.bL _ es)=>match es[i]? with
   |some y=>bif oE (cL P T) (bD P (aL y))then some {v:=.p (.ct y)}else none
   |none=>none
  | .p (.seq es)=>match es[i]? with
   |some y=>bif oE (cL P T) (bD P (aL y))then some {v:=.p (.ct y)}else none
   |none=>none
  | .sl b ar ai off len=>bif oE (cL P T) ai&&e6 (i+1) len then match H[b]? with
   |some (.arr k c a es)=>bif ey ar c&&(ey ai a&&n9 k es)then some {v:=.bV b ar ai (off+i) [],ak:=[(b,.arr k c a es)]}else none
   |_=>none
   else none
  | .ptr b path=>match gh P T with
   |some (u,n)=>bif e6 (i+1) n then some {v:=.ptr b (path++[(u,i)])}else none
   |_=>none
  | .bV b ar ai j path=>match gh P T with
   |some (u,n)=>bif e6 (i+1) n then some {v:=.bV b ar ai j (path++[(u,i)])}else none
   |_=>none
  | .p (.ct t)=>match gh P T with
   |some (u,n)=>bif sE (aL t) (.agg u)&&e6 (i+1) n then match(cF t)[i]? with
    |some g=>some {v:=.p (.ct g)}
    |none=>none
    else none
   |_=>none
  |_=>none
 |_=>none
theorem S1{T:a6}{H:Heap}{x i:AV}{e:aS}{K:aS->Prop}(h:Bt P T H x i=some e)(hk:K e):nv P T H x i K:=by
 unfold Bt at h;unfold nv
 split at h
 case h_2=>simp at h
 rename_i i;refine⟨cc _,?_⟩;simp only[ce,ck]
 split at h
 ·split at h
  ·rename_i y d;simp only[aT,fl,fv]at h;obtain⟨a,rfl⟩:=h;obtain⟨hi,rfl⟩:=cy.1 d;exact⟨hi,v8 a,hk⟩
  ·simp at h
 ·split at h
  ·rename_i y d;simp only[aT,fl,fv]at h;obtain⟨a,rfl⟩:=h;obtain⟨hi,rfl⟩:=cy.1 d;exact⟨hi,v8 a,hk⟩
  ·simp at h
 ·simp only[aT,fl,a0]at h;obtain⟨⟨a,c⟩,h⟩:=h;refine⟨v8 a,by have:=cU c;omega,?_⟩
  split at h
  ·rename_i k;simp only[fl,fv]at h;obtain⟨⟨f,g,j⟩,rfl⟩:=h;simp only[k];exact⟨dj f,dj g,vN j,hk⟩
  ·simp at h
 ·split at h
  ·rename_i b;simp only[aT,fl,fv]at h;obtain⟨a,rfl⟩:=h;simp only[b];exact⟨by have:=cU a;omega,hk⟩
  ·simp at h
 ·split at h
  ·rename_i b;simp only[aT,fl,fv]at h;obtain⟨a,rfl⟩:=h;simp only[b];exact⟨by have:=cU a;omega,hk⟩
  ·simp at h
 ·split at h
  ·rename_i b;simp only[aT,fl,a0]at h;obtain⟨⟨a,c⟩,h⟩:=h
   split at h
   ·rename_i l;simp only[fv]at h;subst h;simp only[b,l];exact⟨(iE a).1,by have:=cU c;omega,hk⟩
   ·simp at h
  ·simp at h
 ·simp at h
def CX(P:a7)(T X:a6)(H:Heap)(s x:AV):Option aS:=
 match cL P T,gL H x with
 |some sz,some xs=>bif iu P X&&((cH P (et P T)).isSome&&pK P sz xs)then
  match s with
  | .p .aN=>match xs with
   |[]=>some {v:=s,ak:=dv H x}
   |y::r=>bif e6 (y::r).length cO then some {v:=.sl H.length 0 sz 0 (y::r).length,ak:=dv H x,aQ:=[.arr (gk P T) 0 sz (y::r)]}else none
  | .p (.bL full es)=>bif pK P sz (es.map .p)then match xs with
   |[]=>some {v:=s,ak:=dv H x}
   |y::r=>bif full&&e6 (es.length+(y::r).length) cO then
    some {v:=.sl H.length 0 sz 0 (es.length+(y::r).length),ak:=dv H x,aQ:=[.arr (gk P T) 0 sz (es.map .p++(y::r))]}else none
   else none
  | .sl b ar ai off len=>match H[b]? with
   |some (.arr k c a es)=>bif ey ar c&&(ey ai a&&(ey ai sz&&e6 (off+len) es.length))then
    match xs with
    |[]=>some {v:=s,ak:=(b,.arr k c a es)::dv H x}
    |y::r=>bif e6 (es.length+(y::r).length) cO then match k with
     | .frozen=>none
     | .exact=>bif e6 (off+len+(y::r).length) es.length then
      some {v:=.sl b ar ai off (len+(y::r).length),ak:=(b,.arr .exact c a es)::dv H x,aJ:=[(b,.arr .exact ar ai (es.take (off+len)++(y::r)++es.drop (off+len+(y::r).length)))]}
      else some {v:=.sl H.length 0 sz 0 (len+(y::r).length),ak:=(b,.arr .exact c a es)::dv H x,aQ:=[.arr (gk P T) 0 sz ((es.drop off).take len++(y::r))]}
     | .grow=>bif ey off 0 then some {v:=.sl b (ar+1) ai 0 (len+(y::r).length),ak:=(b,.arr .grow c a es)::dv H x,aJ:=[(b,.arr .grow (ar+1) ai (es.take len++(y::r)))]}else none
     | .bytes=>bif ey off 0&&ey (et P T) Gl.u8 then some {v:=.sl b (ar+1) ai 0 (len+(y::r).length),ak:=(b,.arr .bytes c a es)::dv H x,aJ:=[(b,.arr .bytes (ar+1) ai (es.take len++(y::r)))]}else none
     else none
    else none
   |_=>none
  |_=>none
  else none
 |_,_=>none
theorem R7{T X:a6}{H:Heap}{s x:AV}{e:aS}{K:aS->Prop}(h:CX P T X H s x=some e)(hk:K e):nB P T X H s x K:=by
 unfold CX at h;unfold nB
 split at h
 case h_2=>simp at h
 rename_i sz r n p;simp only[aT,fl,a0]at h;obtain⟨⟨g,j,k⟩,h⟩:=h;simp only[n,p];refine⟨g,j,tu k,?_⟩
 split at h
 ·split at h
  ·simp only[fv]at h;subst h;simpa using hk
  ·simp only[fl,fv]at h;obtain⟨a,rfl⟩:=h;simp only[dp,a1,if_false];exact⟨cU a,hk⟩
 ·simp only[fl]at h;obtain⟨a,h⟩:=h;refine⟨tu a,?_⟩
  split at h
  ·simp only[fv]at h;subst h;simpa using hk
  ·simp only[fl,fv]at h;obtain⟨⟨b,c⟩,rfl⟩:=h;simp only[dp,a1,if_false];exact⟨b,cU c,hk⟩
 ·split at h
  case h_2=>simp at h
  rename_i o;simp only[fl]at h;obtain⟨⟨a,b,c,l⟩,h⟩:=h;simp only[o];refine⟨dj a,dj b,dj c,cU l,?_⟩
  split at h
  ·simp only[fv]at h;subst h;simpa using hk
  ·simp only[fl]at h;obtain⟨m,h⟩:=h;simp only[dp,a1,if_false];refine⟨cU m,?_⟩
   split at h
   ·simp at h
   ·split at h
    ·rename_i f;simp only[fv]at h;subst h;simp only[cU f,if_true];exact hk
    ·rename_i f;simp only[fv]at h;subst h;rw[if_neg (fun q=>f (e7 q))];exact hk
   ·simp only[fl,fv]at h;obtain⟨d,rfl⟩:=h;exact⟨dj d,(fun h=>by cases h),hk⟩
   ·simp only[fl,fv]at h;obtain⟨⟨d,i⟩,rfl⟩:=h;exact⟨dj d,fun _=>dj i,hk⟩
 ·simp at h
end
section
variable{P:a7}{ag:bb->Bool}
def jv(x:Option AV)(d:Nat):Option Nat:=
 match x with
 |none=>some d
 |some (.p (.int _ (.ofNat i)))=>some i
 |_=>none
theorem kg{x:Option AV}{d n:Nat}{K:Nat->Prop}(h:jv x d=some n)(hk:K n):gC x d K:=by
 unfold jv at h;unfold gC
 split at h
 ·simp only[fv]at h;subst h;exact hk
 ·simp only[fv]at h;subst h;exact⟨cc _,hk⟩
 ·simp at h
def C8(P:a7)(T:a6)(H:Heap)(x:AV)(lo hi e:Option AV):Option aS:=
 match e with
 |some _=>none
 |none=>match x with
  | .p (.str s)=>match jv hi s.length,jv lo 0 with
   |some h,some l=>bif im P T&&(e6 h s.length&&e6 l h)then some {v:=.p (.str ((s.take h).drop l))}else none
   |_,_=>none
  | .p .aN=>match jv hi 0,jv lo 0 with
   |some h,some l=>bif (cL P T).isSome&&(e6 h 0&&e6 l h)then some {v:=x}else none
   |_,_=>none
  | .p (.bL full es)=>match jv hi es.length,jv lo 0,cL P T with
   |some h,some l,some sz=>bif e6 h es.length&&(e6 l h&&pK P sz (es.map .p))then some {v:=.p (.bL (full&&h==es.length) ((es.take h).drop l))}else none
   |_,_,_=>none
  | .p (.seq es)=>match jv hi es.length,jv lo 0,cL P T with
   |some h,some l,some sz=>bif e6 h es.length&&(e6 l h&&pK P sz (es.map .p))then some {v:=.p (.seq ((es.take h).drop l))}else none
   |_,_,_=>none
  | .sl b ar ai off len=>match H[b]? with
   |some (.arr k c a es)=>match jv hi len,jv lo 0 with
    |some h,some l=>bif ey ar c&&(ey ai a&&(oE (cL P T) ai&&(n9 k es&&(e6 (off+len) es.length&&(e6 (off+h) es.length&&e6 l h)))))then
     match l with
     |0=>some {v:=.sl b ar ai off h,ak:=[(b,.arr k c a es)]}
     |d+1=>bif ey (d+1) h then some {v:=.p (.bL false []),ak:=[(b,.arr k c a es)]}else some {v:=.sl b ar ai (off+(d+1)) (h-(d+1)),ak:=[(b,.arr k c a es)]}
     else none
    |_,_=>none
   |_=>none
  |_=>none
theorem Vc{T:a6}{H:Heap}{x:AV}{lo hi j:Option AV}{e:aS}{K:aS->Prop}(h:C8 P T H x lo hi j=some e)(hk:K e):nJ P T H x lo hi j K:=by
 unfold C8 at h;unfold nJ
 split at h
 ·simp at h
 refine⟨rfl,?_⟩
 split at h
 ·split at h
  case h_2=>simp at h
  rename_i a b;simp only[aT,fl,a0,fv]at h;obtain⟨⟨c,d,f⟩,rfl⟩:=h;exact⟨c,kg a (kg b ⟨cU d,cU f,hk⟩)⟩
 ·split at h
  case h_2=>simp at h
  rename_i a b;simp only[aT,fl,a0,fv]at h;obtain⟨⟨c,d,f⟩,rfl⟩:=h;exact⟨c,kg a (kg b ⟨cU d,cU f,hk⟩)⟩
 ·split at h
  case h_2=>simp at h
  rename_i a b c;simp only[aT,fl,a0,fv]at h;obtain⟨⟨d,f,g⟩,rfl⟩:=h;refine kg a (kg b ⟨cU d,cU f,?_⟩);simp only[c];exact⟨tu g,hk⟩
 ·split at h
  case h_2=>simp at h
  rename_i a b c;simp only[aT,fl,a0,fv]at h;obtain⟨⟨d,f,g⟩,rfl⟩:=h;refine kg a (kg b ⟨cU d,cU f,?_⟩);simp only[c];exact⟨tu g,hk⟩
 ·split at h
  case h_2=>simp at h
  rename_i n
  split at h
  case h_2=>simp at h
  rename_i a b;simp only[aT,fl,a0]at h;obtain⟨⟨c,d,f,g,k,l,m⟩,h⟩:=h;simp only[n];refine⟨dj c,dj d,v8 f,vN g,cU k,kg a (kg b ⟨cU l,cU m,?_⟩)⟩
  split at h
  ·simp only[fv]at h;subst h;simpa using hk
  ·rw[if_neg (by omega)]
   split at h
   ·rename_i i;simp only[fv]at h;subst h;rw[if_pos (dj i)];exact hk
   ·rename_i i;simp only[fv]at h;subst h;rw[if_neg (fun e=>i (by rw[<-e];exact fd _))];exact hk
 ·simp at h
def Cs(P:a7)(T:a6)(H:Heap)(x:AV)(lo hi:Option AV)(m:AV):Option aS:=
 match x with
 | .sl b ar ai off len=>match H[b]? with
  |some (.arr k c a es)=>match jv hi len,jv lo 0,jv (some m) 0 with
   |some h,some l,some m=>bif ey ar c&&(ey ai a&&((cL P T).isSome&&(n9 k es&&(e6 (off+len) es.length&&(hi.isSome&&(e6 (off+m) es.length&&(e6 h m&&e6 l h)))))))then
    some {v:=.p .undef,ak:=[(b,.arr k c a es)]}else none
   |_,_,_=>none
  |_=>none
 |_=>none
theorem UQ{T:a6}{H:Heap}{x:AV}{lo hi:Option AV}{m:AV}{e:aS}{K:aS->Prop}(h:Cs P T H x lo hi m=some e)(hk:K e):qy P T H x lo hi m K:=by
 unfold Cs at h;unfold qy
 split at h
 case h_2=>simp at h
 split at h
 case h_2=>simp at h
 rename_i d
 split at h
 case h_2=>simp at h
 rename_i a b c;simp only[aT,fl,a0,fv]at h;obtain⟨⟨g1,g2,g3,g4,g5,g6,g7,g8,g9⟩,rfl⟩:=h;simp only[d];exact⟨dj g1,dj g2,g3,vN g4,cU g5,g6,kg a (kg b (kg c ⟨cU g7,cU g8,cU g9,hk⟩))⟩
def zl(ok:Bool)(z:PV)(r:Option PV):PV:=
 match r with
 |some v=>bif ok then .aE [v,.bool true]else v
 |none=>bif ok then .aE [z,.bool false]else z
def aCB(ok:Bool)(z:PV)(r:Option AV):AV:=
 match r with
 |some v=>bif ok then .aE [v,.p (.bool true)]else v
 |none=>.p (bif ok then .aE [z,.bool false]else z)
def L8(P:a7)(T:a6)(H:Heap)(x i:AV)(ok:Bool):Option aS:=
 match jf P T,i with
 |some (a,E),.p key=>match cH P E with
  |some z=>bif ft P a key then match x with
   | .p .fw=>some {v:=.p (zl ok z none)}
   | .p (.eJ es)=>match dH P a es key with
    |some r=>some {v:=.p (zl ok z r)}
    |none=>none
   | .map b=>match H[b]? with
    |some (.map fz es)=>match dH P a es key with
     |some r=>some {v:=.p (zl ok z r),ak:=[(b,.map fz es)]}
     |none=>none
    |some (.di ks vs)=>bif ni key then match kZ P a ks vs key with
     |some r=>some {v:=aCB ok z r,ak:=[(b,.di ks vs)]}
     |none=>none
     else none
    |_=>none
   |_=>none
   else none
  |none=>none
 |_,_=>none
def zT(P:a7)(c:a6)(b:Nat)(key:PV)(x:AV)(a:Obj):Option aS:=
 match so a with
 |some (ks,vs)=>bif ni key then match kZ P c ks vs key with
  |some none=>some {v:=.p (.aE []),ak:=[(b,a)],aJ:=[(b,.di (ks++[key]) (vs++[x]))]}
  |_=>none
  else none
 |none=>none
theorem AO{P:a7}{a:a6}{b:Nat}{key:PV}{x:AV}{c:Obj}{e:aS}{K:aS->Prop}(h:zT P a b key x c=some e)(hk:K e):oG P a b key x c K:=by
 unfold zT at h;unfold oG
 split at h
 ·rename_i ks vs f;simp only[aT,fl]at h;obtain⟨d,h⟩:=h
  split at h
  ·rename_i g;simp only[fv]at h;subst h;simp only[f];exact⟨d,g,hk⟩
  ·cases h
 ·cases h
def L5(P:a7)(T:a6)(H:Heap)(m k x:AV):Option aS:=
 match jf P T,m,k with
 |some (a,_),.map b,.p key=>bif ft P a key then match H[b]? with
  |some (.map false es)=>match x with
   | .p v=>match lW P a es key with
    |some _=>some {v:=.p (.aE []),ak:=[(b,.map false es)],aJ:=[(b,.map false (fX es key v))]}
    |none=>none
   |x=>zT P a b key x (.map false es)
  |some (.di ks vs)=>zT P a b key x (.di ks vs)
  |_=>none
  else none
 |_,_,_=>none
def Qq(H:Heap)(it:AV):Option aS:=
 match it with
 | .ptr b []=>match H[b]? with
  |some (.dt s pos)=>bif e6 (pos+1) s.length then
   some {v:=.p (.aE [.bool true,.int .i64 pos,.int .i32 (cb (gq s) pos).1]),ak:=[(b,.dt s pos)],aJ:=[(b,.dt s (pos+(cb (gq s) pos).2))]}
   else some {v:=.p (.aE [.bool false]),ak:=[(b,.dt s pos)]}
  |_=>none
 |_=>none
def KQ(P:a7)(H:Heap)(b:Builtin)(c:Array a6)(args:List AV):Option aS:=
 match b,args with
 | .len,[x]=>match lenOf H x with
  |some (n,ak)=>bif gS P (c.getD 0 0) x&&e6 1 c.size then some {v:=.p (.int .i64 n),ak}else none
  |none=>none
 | .append,[s,x]=>bif ey c.size 2 then CX P (c.getD 0 0) (c.getD 1 0) H s x else none
 | .min,.p (.int k a)::r=>match lQ k false r a with
  |some n=>some {v:=.p (.int k n)}
  |none=>none
 | .max,.p (.int k a)::r=>match lQ k true r a with
  |some n=>some {v:=.p (.int k n)}
  |none=>none
 | .copy,[d,x]=>match cL P (c.getD 0 0),d,gL H x with
  |some sz,.sl b ar ai off len,some xs=>bif ey ai sz&&(pK P sz xs&&ey c.size 2)then match H[b]? with
   |some (.arr k f e es)=>bif ey ar f&&(ey ai e&&(wO k&&(e6 (off+len) es.length&&n9 k es)))then
    some {v:=.p (.int .i64 (min xs.length len:Nat)),ak:=(b,.arr k f e es)::dv H x,aJ:=[(b,.arr k f e (es.take off++xs.take (min xs.length len)++es.drop (off+min xs.length len)))]}
    else none
   |_=>none
   else none
  |_,_,_=>none
 | .cap,[x]=>match zD H x with
  |some (n,ak)=>bif gS P (c.getD 0 0) x&&e6 1 c.size then some {v:=.p (.int .i64 n),ak}else none
  |none=>none
 | .clear,[x]=>match x with
  | .p .aN=>bif gS P (c.getD 0 0) x&&e6 1 c.size then some {v:=.p (.aE [])}else none
  | .sl b ar ai off len=>match cL P (c.getD 0 0),cH P (et P (c.getD 0 0)),H[b]? with
   |some sz,some z,some (.arr k f e es)=>bif ey ar f&&(ey ai e&&(ey ai sz&&(ey (bD P (aL z)) sz&&(wO k&&(e6 (off+len) es.length&&(n9 k es&&(e6 1 c.size&&e6 1 len)))))))then
    some {v:=.p (.aE []),ak:=[(b,.arr k f e es)],aJ:=[(b,.arr k f e (es.take off++c6 len (.p z)++es.drop (off+len)))]}else none
   |_,_,_=>none
  |_=>none
 | .unsafeSliceData,[x]=>match x with
  | .p .aN=>some {v:=.p .dC}
  | .sl b ar ai off len=>match H[b]? with
   |some (.arr k f e es)=>bif ey ar f&&ey ai e then
    bif n9 k es then(bif e6 1 len&&e6 (off+len) es.length then some {v:=.bV b ar ai off [],ak:=[(b,.arr k f e es)]}else none)
    else some {v:=.p .dC,ak:=[(b,.arr k f e es)]}
    else none
   |_=>none
  |_=>none
 | .unsafeString,[x,.p (.int .i64 (.ofNat n))]=>match x with
  | .p .dC=>bif ey n 0&&ey c.size 2 then some {v:=.p (.str [])}else none
  | .bV b ar ai i []=>match H[b]? with
   |some (.arr .bytes f e es)=>bif ey ar f&&(ey ai e&&(ey ai 1&&(ey i 0&&(e6 1 n&&(e6 n es.length&&(e6 n 9223372036854775807&&(ey c.size 2&&(oE (ptrTo P (c.getD 0 0)) Gl.u8&&ey (P.cellsOf Gl.u8) 1))))))))then
    match bytesOf (es.take n)with
    |some l=>some {v:=.p (.str l),ak:=[(b,.arr .bytes f e es)],aJ:=[(b,.dead)]}
    |none=>none
    else none
   |_=>none
  |_=>none
 |_,_=>none
def zX(P:a7)(ag:bb->Bool)(o:Oper)(ρ:a8->AV)(H:Heap):Option aS:=
 match o.op with
 | .move x| .assign x=>some {v:=ρ x}
 | .pick c a b=>match ρ c with
  | .p (.bool t)=>some {v:=bif t then ρ a else ρ b}
  |_=>none
 | .alloc T=>match cH P T with
  |some z=>bif sE (kindOf P T) (aL z)&&jg T (aL z)then some {v:=.ptr H.length [],aQ:=[.box false (.p z)]}else none
  |none=>none
 | .box T x=>bif sE (kindOf P T) (aa (ρ x))&&jg T (aa (ρ x))then some {v:=.ptr H.length [],aQ:=[.box false (ρ x)]}else none
 | .build T parts=>match kindOf P T,cH P T with
  | .agg u,some z=>match dD P u with
   |some l=>bif sE (aL z) (.agg u)&&vO P l (parts.toList.map fun(i,x)=>(i,ρ x))then some {v:=gW u (il ((cF z).map .p) (parts.toList.map fun(i,x)=>(i,ρ x)))}else none
   |none=>none
  |_,_=>none
 | .buildSlice T n parts=>match cL P T,cH P (et P T)with
  |some sz,some z=>bif ey (bD P (aL z)) sz&&(e6 (n*sz) 1000000&&vO P (c6 n sz) (parts.toList.map fun(i,x)=>(i,ρ x)))then
   some {v:=.sl H.length 0 sz 0 n,aQ:=[.arr .exact 0 sz (il (c6 n (.p z)) (parts.toList.map fun(i,x)=>(i,ρ x)))]}else none
  |_,_=>none
 | .load T a=>Ev P T H (ρ a)
 | .store T a x=>C6 P T H (ρ a) (ρ x)
 | .binOp op T x y _=>match DJ P op T (me y) H (ρ x) (ρ y)with
  |some v=>some {v:=.p v,ak:=dv H (ρ x)}
  |none=>none
 | .unOp op _ x=>match op,ρ x with
  | .not,.p (.bool b)=>some {v:=.p (.bool (!b))}
  | .neg,.p (.int k n)=>some {v:=.p (.int k (k.wrap (0-n)))}
  | .xor,.p (.int k n)=>some {v:=.p (.int k (k.wrap (ay k.bits (if k.signed then -1 else k.max)^^^ay k.bits n).toNat))}
  |_,_=>none
 | .convert S D x=>match P.underlying S,P.underlying D,ρ x with
  |some _,some (.int k),.p (.int _ n)=>some {v:=.p (.int k (k.wrap n))}
  |some _,some .string,.p (.str s)=>some {v:=.p (.str s)}
  |_,_,_=>none
 | .extract t i=>match ρ t with
  | .p (.aE vs)=>match vs[i]? with
   |some v=>some {v:=.p v}
   |none=>none
  | .aE vs=>match vs[i]? with
   |some v=>some {v}
   |none=>none
  |_=>none
 | .fieldAddr T a f=>Bw P T (ρ a) f
 | .indexAddr T x i=>Bt P T H (ρ x) (ρ i)
 | .field T x f=>match kindOf P T,P.underlying T,ρ x with
  | .agg u,some (.struct _),.p t=>match(cF t)[f]?,(jm P u)[f]? with
   |some g,some F=>bif sE (aL t) (.agg u)&&sE (kindOf P F) (aL g)then some {v:=.p g}else none
   |_,_=>none
  |_,_,_=>none
 | .index T x i=>match ρ x,ρ i with
  | .p (.str s),.p (.int _ (.ofNat i))=>match s[i]? with
   |some c=>bif im P T then some {v:=.p (.int .u8 c)}else none
   |none=>none
  | .p (.st u es),.p (.int _ (.ofNat i))=>match gh P T,(jm P u)[i]?,es[i]? with
   |some (u',n),some F,some g=>bif ey u' u&&(e6 (i+1) n&&sE (kindOf P F) (aL g))then some {v:=.p g}else none
   |_,_,_=>none
  |_,_=>none
 | .makeFunc (.func f) fi ca=>bif ag f then match fF H (fi.toList.map ρ),fF H (ca.toList.map ρ)with
   |some (a,[],[]),some (b,ak,aJ)=>some {v:=.p (.func f a b),ak,aJ}
   |_,_=>none
  else match ef (fi.toList.map ρ),ef (ca.toList.map ρ)with
   |some a,some b=>some {v:=.p (.func f a b)}
   |_,_=>some {v:=.func f (fi.toList.map ρ) (ca.toList.map ρ)}
 | .makeSlice T l c=>match cL P T,cH P (et P T),ρ l,ρ c with
  |some sz,some z,.p (.int .i64 (.ofNat l)),.p (.int .i64 (.ofNat c))=>bif ey (bD P (aL z)) sz&&(ey l c&&e6 l cO)then
   some {v:=.sl H.length 0 sz 0 l,aQ:=[.arr .exact 0 sz (c6 l (.p z))]}else none
  |_,_,_,_=>none
 | .slice T x lo hi d=>match d with
  |none=>C8 P T H (ρ x) (lo.map ρ) (hi.map ρ) none
  |some m=>Cs P T H (ρ x) (lo.map ρ) (hi.map ρ) (ρ m)
 | .makeMap _ none=>some {v:=.map H.length,aQ:=[.map false []]}
 | .lookup T x i ok=>L8 P T H (ρ x) (ρ i) ok
 | .mapUpdate T m k x| .insert T m k x=>L5 P T H (ρ m) (ρ k) (ρ x)
 | .range T x=>match ρ x with
  | .p (.str s)=>bif im P T then some {v:=.ptr H.length [],aQ:=[.dt s 0]}else none
  |_=>none
 | .next it true=>Qq H (ρ it)
 | .nilCheck x=>match ρ x with
  | .ptr _ _| .bV _ _ _ _ _| .p (.ct _)=>some {v:=ρ x}
  |_=>none
 | .call c=>match c.callee with
  | .builtin b=>KQ P H b c.argTypes (c.args.toList.map ρ)
  |_=>none
 |_=>none
theorem NP{o:Oper}{ρ:a8->AV}{H:Heap}{e:aS}{K:aS->Prop}(h:zX P ag o ρ H=some e)(hk:K e):fy P ag o ρ H K:=by
 unfold zX at h;unfold fy;cases ad:o.op<;>simp only[ad]at h<;>simp only
 case move|assign=>simp only[fv]at h;subst h;exact hk
 case pick c a b=>
  split at h
  ·rename_i t hc;simp only[fv]at h;subst h;simp only[hc];cases t<;>exact hk
  ·simp at h
 case alloc T=>
  split at h
  ·rename_i z G;simp only[aT,fl,fv,a0]at h;obtain⟨⟨d,j⟩,rfl⟩:=h;simp only[G];exact⟨(iE d).1,(iE d).2,j,hk⟩
  ·simp at h
 case box T x=>
  simp only[aT,fl,fv,a0]at h;obtain⟨⟨d,j⟩,rfl⟩:=h;exact⟨(iE d).1,(iE d).2,j,hk⟩
 case build T parts=>
  split at h
  ·rename_i u z ae G
   split at h
   ·rename_i l E;simp only[aT,fl,fv,a0]at h;obtain⟨⟨d,j⟩,rfl⟩:=h;simp only[ae,G,E];exact⟨(iE d).1,BF j,hk⟩
   ·simp at h
  ·simp at h
 case buildSlice T n parts=>
  split at h
  ·rename_i sz z J G;simp only[aT,fl,fv,a0]at h;obtain⟨⟨d,j,q⟩,rfl⟩:=h;simp only[J,G];exact⟨dj d,cU j,BF q,hk⟩
  ·simp at h
 case load T a=>exact WW h hk
 case store T a x=>exact U9 h hk
 case binOp op T x y ah=>
  split at h
  ·rename_i v M;simp only[fv]at h;subst h;exact X0 (K:=fun v=>K {v:=.p v,ak:=dv H (ρ x)}) M hk
  ·simp at h
 case unOp op T x=>
  split at h
  all_goals first
   |(rename_i hx;simp only[fv]at h;subst h;simp only[hx];exact hk)
   |simp at h
 case convert S D x=>
  split at h
  ·rename_i d j q;simp only[fv]at h;subst h;simp only[d,j,q];exact hk
  ·rename_i d j q;simp only[fv]at h;subst h;simp only[d,j,q];exact hk
  ·simp at h
 case extract t i=>
  split at h
  ·rename_i U
   split at h
   ·rename_i M;simp only[fv]at h;subst h;simp only[U,M];exact hk
   ·simp at h
  ·rename_i U
   split at h
   ·rename_i M;simp only[fv]at h;subst h;simp only[U,M];exact hk
   ·simp at h
  ·simp at h
 case fieldAddr T a f=>exact SN h hk
 case indexAddr T x i=>exact S1 h hk
 case field T x f=>
  split at h
  ·rename_i d j q
   split at h
   ·rename_i A w;simp only[aT,fl,fv,a0]at h;obtain⟨⟨B,C⟩,rfl⟩:=h;simp only[d,j,q,A,w];exact⟨(iE B).1,(iE C).1,hk⟩
   ·simp at h
  ·simp at h
 case index T x i=>
  split at h
  ·rename_i d j
   split at h
   ·rename_i c hc;simp only[aT,fl,fv]at h;obtain⟨q,rfl⟩:=h;obtain⟨hi,rfl⟩:=cy.1 hc;simp only[d,j];exact⟨q,cc _,hi,hk⟩
   ·simp at h
  ·rename_i u W am i d j
   split at h
   ·rename_i u' n F g q A w;simp only[aT,fl,fv,a0]at h;obtain⟨⟨g1,g2,g3⟩,rfl⟩:=h;have e:(Int.ofNat i).toNat=i:=rfl;simp only[d,j,e,q,A,w];exact⟨dj g1,cc _,cU g2,(iE g3).1,hk⟩
   ·simp at h
  ·simp at h
 case makeFunc fn fi ca=>
  cases fn<;>simp only at h<;>try (simp at h;done)
  rename_i f;simp only;simp only[aT]at h
  split at h
  ·rename_i hf;rw[if_pos hf]
   split at h
   ·rename_i d j;simp only[fv]at h;subst h;simp only[d,j];exact hk
   ·simp at h
  ·rename_i hf;rw[if_neg hf]
   split at h
   ·rename_i d j;simp only[fv]at h;subst h;simp only[d,j];exact hk
   ·rename_i ac;simp only[fv]at h;subst h
    split
    ·rename_i d j;exact(ac _ _ d j).elim
    ·exact hk
 case makeSlice T l c=>
  split at h
  ·rename_i d j q A;simp only[aT,fl,fv,a0]at h;obtain⟨⟨w,B,C⟩,rfl⟩:=h;have e:=dj B;simp only[d,j,q,A];refine⟨dj w,cc _,by rw[e],?_,hk⟩;have:=cU C;show((_:Nat):Int)<=_
   exact_mod_cast this
  ·simp at h
 case slice T x lo hi af=>
  cases af with
  |none=>exact Vc h hk
  |some m=>exact UQ h hk
 case makeMap T r=>
  cases r<;>simp only at h
  ·simp only[fv]at h;subst h;exact hk
  ·simp at h
 case lookup T x i ok=>
  unfold L8 at h
  split at h
  case h_2=>simp at h
  rename_i d j
  split at h
  case h_2=>simp at h
  rename_i z G;simp only[aT,fl]at h;obtain⟨q,h⟩:=h;simp only[d,j,G];refine⟨q,?_⟩
  have N:∀r:Option PV,zl ok z r=match r with
    |some v=>if ok=true then .aE [v,.bool true]else v
    |none=>if ok=true then .aE [z,.bool false]else z:=by
   intro r;cases r<;>cases ok<;>rfl
  split at h
  ·rename_i hx;simp only[fv]at h;subst h;simp only[hx];rw[N]at hk;exact hk
  ·rename_i hx
   split at h
   ·rename_i r L;simp only[fv]at h;subst h;rw[N]at hk;simp only[hx,L];cases r<;>exact hk
   ·simp at h
  ·rename_i hx
   split at h
   ·rename_i s
    split at h
    ·rename_i r L;simp only[fv]at h;subst h;rw[N]at hk;simp only[hx,s,L];cases r<;>exact hk
    ·simp at h
   ·rename_i s;simp only[aT,fl]at h;obtain⟨aa,h⟩:=h
    split at h
    ·rename_i r L;simp only[fv]at h;subst h;simp only[hx,s,L];refine⟨aa,?_⟩;cases r<;>cases ok<;>exact hk
    ·simp at h
   ·simp at h
  ·simp at h
 case mapUpdate T m k x|insert T m k x=>
  unfold L5 at h
  split at h
  case h_2=>simp at h
  rename_i d j q;simp only[aT,fl]at h;obtain⟨w,h⟩:=h;simp only[d,j,q];generalize ρ x=X at*
  split at h
  ·rename_i s;cases X with
   |p v=>
    simp only at h;refine⟨w,?_⟩
    split at h
    ·rename_i E;simp only[fv]at h;subst h;simp only[s,E];exact hk
    ·simp at h
   |_=>
    refine⟨w,?_⟩;simp only[s];exact AO h hk
  ·rename_i s;cases X with
   |p v=>
    refine⟨w,?_⟩;simp only[s];exact AO h hk
   |_=>
    refine⟨w,?_⟩;simp only[s];exact AO h hk
  ·simp at h
 case range T x=>
  split at h
  ·rename_i hx;simp only[aT,fl,fv]at h;obtain⟨d,rfl⟩:=h;simp only[hx];exact⟨d,hk⟩
  ·simp at h
 case next it isStr=>
  cases isStr<;>simp only at h
  ·simp at h
  unfold Qq at h
  split at h
  ·rename_i hx
   split at h
   ·rename_i s;simp only[hx,s];simp only[aT]at h
    split at h
    ·rename_i R;simp only[fv]at h;subst h;rw[if_pos (by have:=cU R;omega)];exact hk
    ·rename_i R;simp only[fv]at h;subst h;rw[if_neg (fun ab=>R (e7 (Nat.succ_le_of_lt ab)))];exact hk
   ·simp at h
  ·simp at h
 case nilCheck x=>
  split at h
  all_goals first
   |(rename_i hx;simp only[fv]at h;subst h;simp only[hx]at hk⊢;exact hk)
   |simp at h
 case call c=>
  split at h
  case h_2=>simp at h
  rename_i b hc;simp only[hc];generalize c.args.toList.map ρ=args at*;generalize c.argTypes=ai at*;unfold KQ at h
  split at h
  ·split at h
   ·rename_i E;simp only[aT,fl,fv,a0]at h;obtain⟨⟨d,j⟩,rfl⟩:=h;simp only[E];exact⟨d,cU j,hk⟩
   ·simp at h
  ·simp only[aT,fl]at h;exact⟨dj h.1,R7 h.2 hk⟩
  ·split at h
   ·rename_i Q;simp only[fv]at h;subst h;simp only[Q];exact hk
   ·simp at h
  ·split at h
   ·rename_i Q;simp only[fv]at h;subst h;simp only[Q];exact hk
   ·simp at h
  ·split at h
   ·rename_i J Z;simp only[aT,fl,a0]at h;obtain⟨⟨d,j,q⟩,h⟩:=h;simp only[J,Z];refine⟨dj d,tu j,dj q,?_⟩
    split at h
    ·rename_i s;simp only[fl,fv]at h;obtain⟨⟨A,w,B,C,I⟩,rfl⟩:=h;simp only[s];exact⟨dj A,dj w,Df B,cU C,vN I,hk⟩
    ·simp at h
   ·simp at h
  ·split at h
   ·rename_i E;simp only[aT,fl,fv,a0]at h;obtain⟨⟨d,j⟩,rfl⟩:=h;simp only[E];exact⟨d,cU j,hk⟩
   ·simp at h
  ·split at h
   ·simp only[aT,fl,fv,a0]at h;obtain⟨⟨d,j⟩,rfl⟩:=h;exact⟨d,cU j,hk⟩
   ·split at h
    ·rename_i J G s;simp only[aT,fl,fv,a0]at h;obtain⟨⟨d,j,q,A,w,B,C,I,O⟩,rfl⟩:=h;simp only[J,G,s];exact⟨dj d,dj j,dj q,dj A,Df w,cU B,vN C,cU I,cU O,hk⟩
    ·simp at h
   ·simp at h
  ·split at h
   ·simp only[fv]at h;subst h;exact hk
   ·split at h
    ·rename_i s;simp only[aT,fl,a0]at h;obtain⟨⟨d,j⟩,h⟩:=h;simp only[s];refine⟨dj d,dj j,?_⟩
     split at h
     ·simp only[fl,fv]at h;obtain⟨⟨A,w⟩,rfl⟩:=h;exact .inr ⟨cU A,cU w,hk⟩
     ·rename_i V;simp only[fv]at h;subst h;rename_i k _ _ W _ _;refine .inl ⟨?_,?_,hk⟩<;>(unfold n9 at V;split at V<;>simp_all)
    ·simp at h
   ·simp at h
  ·split at h
   ·simp only[aT,fl,fv,a0]at h;obtain⟨⟨d,j⟩,rfl⟩:=h;exact⟨by rw[dj d];rfl,dj j,hk⟩
   ·split at h
    ·rename_i s;simp only[aT,fl,a0]at h;obtain⟨⟨d,j,q,A,w,B,C,I,O,Y⟩,h⟩:=h;have aj:=cU w;have al:=cU C;simp only[s];refine⟨dj d,dj j,dj q,dj A,by simp;omega,by simpa using cU B,by simp;omega,dj I,v8 O,dj Y,?_⟩;simp only[ce,ck]
     split at h
     ·rename_i E;simp only[fv]at h;subst h;simp only[E];exact hk
     ·simp at h
    ·simp at h
   ·simp at h
  ·simp at h
 all_goals simp at h
end
end Go.aj
namespace Go.aj
variable[Gl]
section
variable(σ:Nat->Nat)
mutual
def cJ:AV->AV
 | .p v=>.p v
 | .ptr b path=>.ptr (σ b) path
 | .bV b ar ai i path=>.bV (σ b) ar ai i path
 | .sl b ar ai off len=>.sl (σ b) ar ai off len
 | .map b=>.map (σ b)
 | .func f fi ca=>.func f (cQ fi) (cQ ca)
 | .st u fs=>.st u (cQ fs)
 | .aE vs=>.aE (cQ vs)
def cQ:List AV->List AV
 |[]=>[]
 |v::vs=>cJ v::cQ vs
end
def tE:Env->Env
 |[]=>[]
 |(x,v)::r=>(x,cJ σ v)::tE r
def dm:Obj->Obj
 | .box fz t=>.box fz (cJ σ t)
 | .arr k ar ai es=>.arr k ar ai (cQ σ es)
 | .di ks vs=>.di ks (cQ σ vs)
 | .loop L=>.loop {L with env:=tE σ L.env}
 |o=>o
end
section
variable{σ:Nat->Nat}
theorem Cm:∀(e:Env)(x:Nat),aM (tE σ e) x=cJ σ (aM e x)
 |[],_=>rfl
 |(y,v)::r,x=>by
  simp only[tE,aM]
  split
  ·rfl
  ·exact Cm r x
theorem sq:∀l:List AV,(cQ σ l).length=l.length
 |[]=>rfl
 |_::r=>by simp[cQ,sq r]
theorem Xf{l:List AV}:cQ σ l=[]↔l=[]:=by cases l<;>simp[cQ]
theorem nK{k:AK}{a:List AV}:cX k (cQ σ a)↔cX k a:=by simp[cX,Xf]
theorem ME{v:AV}:(cJ σ v).rO↔v.rO:=by cases v<;>simp[cJ,AV.rO]
theorem V9{v:AV}:aa (cJ σ v)=aa v:=by cases v<;>rfl
theorem Lr:∀{l:List AV},(∀e∈cQ σ l,e.rO)↔∀e∈l,e.rO
 |[]=>by simp[cQ]
 |v::r=>by simp[cQ,ME,Lr (l:=r)]
theorem qA{o:Obj}:(dm σ o).live↔o.live:=by cases o<;>simp[dm,Obj.live,nK]
theorem MJ{o:Obj}{v:Nat}:(dm σ o).has v↔o.has v:=by cases o<;>simp[dm,Obj.has]
theorem Wz{o:Obj}:dm σ o=.hole↔o=.hole:=by cases o<;>simp[dm]
mutual
theorem BZ{S:Nat×Nat->Prop}:∀(v:AV),aC S (cJ σ v)↔aC (fun x=>S (σ x.1,x.2)) v
 | .p _=>by simp[cJ,aC]
 | .ptr _ _| .bV _ _ _ _ _| .sl _ _ _ _ _| .map _=>by simp[cJ,aC]
 | .func _ fi ca=>by simp only[cJ,aC];rw[sG fi,sG ca]
 | .st _ fs=>by simp only[cJ,aC];exact sG fs
 | .aE vs=>by simp only[cJ,aC];exact sG vs
theorem sG{S:Nat×Nat->Prop}:∀(l:List AV),aR S (cQ σ l)↔aR (fun x=>S (σ x.1,x.2)) l
 |[]=>by simp[cQ,aR]
 |v::r=>by simp only[cQ,aR];rw[BZ v,sG r]
end
theorem Vw{S:Nat×Nat->Prop}{o:Obj}:(dm σ o).refs S↔o.refs (fun x=>S (σ x.1,x.2)):=by
 cases o<;>simp only[dm,Obj.refs,BZ,sG,Cm]
theorem Obj.refs.mono{S T:Nat×Nat->Prop}(h:∀x,S x->T x){o:Obj}(a:o.refs S):o.refs T:=by
 cases o with
 |box fz t=>exact aC.mono h _ a
 |arr k ar ai es=>exact aR.mono h _ a
 |di ks vs=>exact aR.mono h _ a
 |loop L=>exact fun x=>aC.mono h _ (a x)
 |_=>trivial
structure dP(σ:Nat->Nat)(dO:Bd)(H0:Heap)(β:Bd)(H:Heap):Prop where
 obj:∀(b:Nat)(o:Obj),H0[b]?=some o->H[σ b]?=some (dm σ o)
 al:∀b,b<H0.length->β.al (σ b)=dO.al b/\β.cap (σ b)=dO.cap b
section
variable{P:a7}{w:bl}{ad:Nat->Prop}{dO β:Bd}{H0 H:Heap}
theorem dP.box(h:dP σ dO H0 β H){b:Nat}(a:b<H0.length):mG H (σ b)↔mG H0 b:=by
 have c:=h.obj b _ (cx a);have d:=cx a;unfold mG;rw[c,d];cases H0[b]<;>simp[dm]
theorem dP.it(h:dP σ dO H0 β H){b:Nat}(a:b<H0.length):mH H (σ b)↔mH H0 b:=by
 have c:=h.obj b _ (cx a);have d:=cx a;unfold mH;rw[c,d];cases H0[b]<;>simp[dm]
theorem dP.map(h:dP σ dO H0 β H){b:Nat}(a:b<H0.length):nM H (σ b)↔nM H0 b:=by
 have h1:=h.obj b _ (cx a);have c:=cx a;unfold nM;rw[h1,c];cases H0[b]<;>simp[dm,Obj.uD]
theorem dP.loop(h:dP σ dO H0 β H){b:Nat}(a:b<H0.length):gN H (σ b)↔gN H0 b:=by
 have c:=h.obj b _ (cx a);have d:=cx a;unfold gN;rw[c,d];cases H0[b]<;>simp[dm]
theorem dP.arr(h:dP σ dO H0 β H){b ar ai:Nat}{k:AK}{es:List AV}(a:b<H0.length):eD H (σ b) ar ai k es↔∃gE,eD H0 b ar ai k gE/\es=cQ σ gE:=by
 have c:=h.obj b _ (cx a);have d:=cx a;unfold eD;rw[c,d];cases H0[b]<;>simp[dm];constructor
 ·rintro⟨rfl,rfl,rfl,rfl⟩;exact⟨_,⟨rfl,rfl,rfl,rfl⟩,rfl⟩
 ·rintro⟨_,⟨rfl,rfl,rfl,rfl⟩,rfl⟩;exact⟨rfl,rfl,rfl,rfl⟩
theorem dP.D1(h:dP σ dO H0 β H){x:Nat×Nat}(a:x.1<H0.length):aG H (σ x.1,x.2)↔aG H0 x:=by
 have b:=h.obj x.1 _ (cx a);have c:=cx a;unfold aG;rw[b,c];simp[MJ]
def Small(n:Nat):Nat×Nat->Prop:=fun x=>x.1<n
theorem dP.pX(h:dP σ dO H0 β H):∀{a:AV}{v:bi},aC (Small H0.length) a->(bO P β H (cJ σ a) v↔bO P dO H0 a v)
 | .p _,_,_| .func _ _ _,_,_| .st _ _,_,_| .aE _,_,_=>by simp[cJ,bO]
 | .ptr b path,v,c=>by
  simp only[aC,Small]at c;simp only[cJ,bO,h.box c,h.it c,(h.al b c).1]
 | .bV b ar ai i path,v,c=>by
  simp only[aC,Small]at c;simp only[cJ,bO,h.arr c,(h.al b c).1];constructor
  ·rintro⟨al,off,o,f,g,j⟩;exact⟨al,off,o,f,g,fun k d e m=>j k _ ⟨d,e,rfl⟩ (by rwa [nK])⟩
  ·rintro⟨al,off,o,f,g,j⟩;refine⟨al,off,o,f,g,?_⟩;rintro k _ ⟨d,e,rfl⟩ m;exact j k d e (by rwa [nK]at m)
 | .sl b ar ai off len,v,c=>by
  simp only[aC,Small]at c;simp only[cJ,bO,h.arr c,(h.al b c).1,(h.al b c).2];constructor
  ·intro l k d e;have:=l k _ ⟨d,e,rfl⟩;simpa only[sq,nK]using this
  ·rintro l k _ ⟨d,e,rfl⟩;have:=l k d e;simpa only[sq,nK]using this
 | .map b,v,c=>by
  simp only[aC,Small]at c;simp only[cJ,bO,h.map c,h.loop c,(h.al b c).1]
mutual
theorem dP.M5(h:dP σ dO H0 β H):∀(a:AV)(cs:List bi),aC (Small H0.length) a->(bf P w ad β H (cJ σ a) cs↔bf P w ad dO H0 a cs)
 | .p _,_,_=>by simp[cJ,bf]
 | .aE _,_,_=>by simp[cJ,bf]
 | .st u fs,cs,d=>by
  simp only[aC]at d;simp only[cJ,bf];exact exists_congr fun l=>exists_congr fun e=>and_congr_right fun _=>and_congr_left fun _=>dP.zo h l fs e d
 | .func f fi ca,cs,d=>by
  simp only[aC]at d;simp only[cJ,bf];exact exists_congr fun l=>exists_congr fun e=>and_congr (dP.pO h fi l d.1) (and_congr_left fun _=>dP.pO h ca e d.2)
 | .ptr b path,cs,d=>by
  have:=fun v=>h.pX (P:=P) (a:=.ptr b path) (v:=v) d;simp only[cJ,bf,bK]at this⊢;simp only[this]
 | .bV b ar ai i path,cs,d=>by
  have:=fun v=>h.pX (P:=P) (a:=.bV b ar ai i path) (v:=v) d;simp only[cJ,bf,bK]at this⊢;simp only[this]
 | .sl b ar ai off len,cs,d=>by
  have:=fun v=>h.pX (P:=P) (a:=.sl b ar ai off len) (v:=v) d;simp only[cJ,bf,bK]at this⊢;simp only[this]
 | .map b,cs,d=>by
  have:=fun v=>h.pX (P:=P) (a:=.map b) (v:=v) d;simp only[cJ,bf,bK]at this⊢;simp only[this]
theorem dP.zo(h:dP σ dO H0 β H):∀(g:List Nat)(l:List AV)(e:List (List bi)),aR (Small H0.length) l->(bJ P w ad β H g (cQ σ l) e↔bJ P w ad dO H0 g l e)
 |[],[],e,_=>by simp[cQ,bJ]
 |[],_::_,e,_=>by simp[cQ,bJ]
 |_::_,[],e,_=>by simp[cQ,bJ]
 |n::g,v::vs,e,d=>by
  simp only[aR]at d;simp only[cQ,bJ];exact exists_congr fun c=>exists_congr fun cs=>and_congr_right fun _=>and_congr (dP.M5 h v c d.1) (and_congr_right fun _=>dP.zo h g vs cs d.2)
theorem dP.DB(h:dP σ dO H0 β H):∀(a:AV)(v:bi),aC (Small H0.length) a->(au P w ad β H (cJ σ a) v↔au P w ad dO H0 a v)
 | .p _,_,_=>by simp[cJ,au]
 | .aE vs,_,d=>by
  simp only[aC]at d;simp only[cJ,au];exact exists_congr fun l=>and_congr_left fun _=>dP.pO h vs l d
 | .st u fs,cs,d=>by
  simp only[aC]at d;simp only[cJ,au];exact exists_congr fun l=>exists_congr fun e=>and_congr_right fun _=>and_congr_left fun _=>dP.zo h l fs e d
 | .func f fi ca,cs,d=>by
  simp only[aC]at d;simp only[cJ,au];exact exists_congr fun l=>exists_congr fun e=>and_congr (dP.pO h fi l d.1) (and_congr_left fun _=>dP.pO h ca e d.2)
 | .ptr b path,v,d=>by
  have:=h.pX (P:=P) (a:=.ptr b path) (v:=v) d;simp only[cJ,au,bK]at this⊢;simp only[this]
 | .bV b ar ai i path,v,d=>by
  have:=h.pX (P:=P) (a:=.bV b ar ai i path) (v:=v) d;simp only[cJ,au,bK]at this⊢;simp only[this]
 | .sl b ar ai off len,v,d=>by
  have:=h.pX (P:=P) (a:=.sl b ar ai off len) (v:=v) d;simp only[cJ,au,bK]at this⊢;simp only[this]
 | .map b,v,d=>by
  have:=h.pX (P:=P) (a:=.map b) (v:=v) d;simp only[cJ,au,bK]at this⊢;simp only[this]
theorem dP.pO(h:dP σ dO H0 β H):∀(l:List AV)(vs:List bi),aR (Small H0.length) l->(br P w ad β H (cQ σ l) vs↔br P w ad dO H0 l vs)
 |[],vs,_=>by simp[cQ,br]
 |a::l,vs,d=>by
  simp only[aR]at d;simp only[cQ,br];exact exists_congr fun y=>exists_congr fun j=>and_congr_right fun _=>and_congr (dP.DB h a y d.1) (dP.pO h l j d.2)
end
theorem dP.Qy(h:dP σ dO H0 β H){ah Prot0:Nat->Prop}{b:Nat}{o:Obj}(f:H0[b]?=some o)(c:o.refs (Small H0.length))(a:o.live->∀fz,cw ad dO Prot0 fz b↔cw ad β ah fz (σ b)):
 eZ P w ad β H ah (σ b) (dm σ o)↔eZ P w ad dO H0 Prot0 b o:=by
 have g:b<H0.length:=(cy.1 f).1;obtain⟨k1,k2⟩:=h.al b g;cases o with
 |hole=>simp[dm,eZ]
 |dead=>simp[dm,eZ]
 |box fz t=>
  simp only[dm,eZ,k1,<-a trivial,h.M5 t _ c,ME,V9]
 |arr k ar ai es=>
  simp only[dm,eZ,k1,k2,nK,sq,Lr]
  by_cases e:cX k es
  ·simp[e]
  ·simp only[e,false_or,<-a e,h.zo _ es _ c]
 |map fz es=>
  simp only[dm,eZ,k1,<-a trivial]
 |di ks vs=>
  simp only[dm,eZ,k1,<-a trivial,h.pO vs _ c]
 |dt s pos=>
  simp only[dm,eZ,k1,<-a trivial]
 |loop L=>
  simp only[dm,eZ,k1,<-a trivial,Cm];exact exists_congr fun t=>exists_congr fun d=>exists_congr fun fn=>and_congr_right fun _=>and_congr_right fun _=>and_congr_left fun _=>forall_congr' fun x=>h.DB _ _ (c x)
end
end
end Go.aj
namespace Go.aj
variable[Gl]
def sig(bs:List Nat)(a i:Nat):Nat:=match bs[i]? with
 |some b=>b
 |none=>a+(i-bs.length)
theorem sU{bs:List Nat}{a i:Nat}(h:i<bs.length):sig bs a i=bs[i]:=by simp[sig,h]
theorem sV{bs:List Nat}{a i:Nat}(h:bs.length<=i):sig bs a i=a+(i-bs.length):=by simp[sig,h]
theorem aFJ{bs:List Nat}{a:Nat}(e:bs.Nodup)(d:∀b∈bs,b<a){i j:Nat}(h:sig bs a i=sig bs a j):i=j:=by
 by_cases hi:i<bs.length<;>by_cases c:j<bs.length
 ·rw[sU hi,sU c]at h;exact(List.getElem_inj e).1 h
 ·rw[sU hi,sV (by omega)]at h;have:=d _ (em hi);omega
 ·rw[sV (by omega),sU c]at h;have:=d _ (em c);omega
 ·rw[sV (by omega),sV (by omega)]at h;omega
theorem Bi:∀{l:List (Nat×Obj)}{H:Heap}{x:Nat},(∀p∈l,p.1≠x)->(bm H l)[x]?=H[x]?
 |[],_,_,_=>rfl
 |(b,o)::r,H,x,h=>by
  simp only[bm];rw[Bi (fun p a=>h p (by simp[a])),List.getElem?_set_ne (h (b,o) (by simp))]
theorem BK:∀{l:List (Nat×Obj)}{H:Heap},(l.map (·.1)).Nodup->∀p∈l,p.1<H.length->(bm H l)[p.1]?=some p.2
 |[],_,_,_,h,_=>by simp at h
 |(b,o)::r,H,a,p,c,d=>by
  simp only[dg,dz]at a;simp only[bm];rcases da.1 c with rfl|c
  ·rw[Bi (fun q hq e=>a.1 (ew.2 ⟨q,hq,e⟩)),List.getElem?_set_self d]
  ·exact BK a.2 p c (by simpa using d)
theorem BG(a:Nat):∀(l:List Obj),(newAt a l).map (·.1)=List.range' a l.length
 |[]=>rfl
 |o::r=>by simp[newAt,BG (a+1) r,List.range'_succ]
theorem Jz:∀(l:List Obj)(a j:Nat)(h:j<l.length),(a+j,l[j])∈newAt a l
 |[],_,_,h=>by simp at h
 |o::r,a,0,h=>by simp[newAt]
 |o::r,a,j+1,h=>by
  have:=Jz r (a+1) j (by simpa using h);simp only[newAt,List.getElem_cons_succ,da];right;have e:a+(j+1)=a+1+j:=by omega
  rw[e];exact this
section
variable{P:a7}{w w':bl}{ad aD ah:Nat->Prop}{β aH:Bd}{H H':Heap}
theorem eZ.mut{b:Nat}{o:Obj}(h:eZ P w ad β H ah b o)(f:o.live)(l:¬ad (β.al b)):¬ah (β.al b):=by
 have held:∀{fz},cw ad β ah fz b->¬ah (β.al b):=by
  intro fz g;cases fz with
  |true=>exact(l (by simpa[cw]using g)).elim
  |false=>
   have:¬ad (β.al b)/\¬ah (β.al b):=by simpa[cw]using g
   exact this.2
 cases o with
 |hole=>exact f.elim
 |dead=>exact f.elim
 |box fz t=>
  obtain⟨cs,T,c,d,a,e⟩:=h;exact held a
 |arr k ar ai es=>
  rcases h with h|⟨cs,T,m,rest,c,d,a,e,n,p,j,q⟩
  ·exact(f h).elim
  ·exact held j
 |map fz es=>
  obtain⟨i,clock,c,d,a⟩:=h;exact held a
 |di ks vs=>
  obtain⟨i,clock,c,d,a,e⟩:=h;exact held e
 |dt s pos=>
  obtain⟨bs,c,d,a⟩:=h;exact held a
 |loop L=>
  obtain⟨tmps,defers,fn,c,d,a,e⟩:=h;exact held e
theorem eZ.carry(hi:∀k,ad k->aD k)(hs:∀k,ad k->w'.heap[k]?=w.heap[k]?)(aB:b9 β H aH H'){b:Nat}{o:Obj}(l:o.refs (aG H))
 (j:o.live->w'.heap[β.al b]?=w.heap[β.al b]?/\aH.al b=β.al b/\aH.cap b=β.cap b)(held:o.live->∀fz,cw ad β ah fz b->cw aD aH ah fz b)(h:eZ P w ad β H ah b o):eZ P w' aD aH H' ah b o:=by
 cases o with
 |hole=>trivial
 |dead=>trivial
 |box fz t=>
  obtain⟨cs,T,d,e,f,i⟩:=h;obtain⟨a,c,g⟩:=j trivial;exact⟨cs,T,by rw[c,a];exact d,bf.mono hi hs aB _ _ l e,held trivial _ f,i⟩
 |arr k ar ai es=>
  rcases h with h|⟨cs,T,p,rest,d,e,f,i,q,r,u,v⟩
  ·exact .inl h
  ·by_cases n:cX k es
   ·exact .inl n
   ·obtain⟨a,c,g⟩:=j n;exact .inr ⟨cs,T,p,rest,by rw[c,a];exact d,bJ.mono hi hs aB _ _ _ l e,f,by rw[g];exact i,by rw[g];exact q,by rw[g];exact r,held n _ u,v⟩
 |map fz es=>
  obtain⟨m,clock,d,e,f⟩:=h;obtain⟨a,c,g⟩:=j trivial;exact⟨m,clock,by rw[c,a];exact d,cz.mono hi hs _ _ e,held trivial _ f⟩
 |di ks vs=>
  obtain⟨m,clock,d,e,f,i⟩:=h;obtain⟨a,c,g⟩:=j trivial;exact⟨m,clock,by rw[c,a];exact d,bn.mono hi hs _ _ e,br.mono hi hs aB _ _ l f,held trivial _ i⟩
 |dt s pos=>
  obtain⟨bs,d,e,f⟩:=h;obtain⟨a,c,g⟩:=j trivial;exact⟨bs,by rw[c,a];exact d,e,held trivial _ f⟩
 |loop L=>
  obtain⟨tmps,defers,fn,d,e,f,i⟩:=h;obtain⟨a,c,g⟩:=j trivial;exact⟨tmps,defers,fn,by rw[c,a];exact d,e,fun x=>au.mono hi hs aB _ _ (l x) (f x),held trivial _ i⟩
def dw(bs:List Nat)(a:Nat)(H0 bY:Heap)(b:AV):aS:=
 {v:=cJ (sig bs a) b,ak:=bs.zip (H0.map (dm (sig bs a))),aJ:=bs.zip ((bY.take H0.length).map (dm (sig bs a))),aQ:=(bY.drop H0.length).map (dm (sig bs a))}
open Classical in
theorem Jf{H0 bY:Heap}{gf:List AV}{v0:AV}(bs:List Nat)(base:Nat)(hlen:bs.length=H0.length)(hnd:bs.Nodup)(hlt:∀b∈bs,b<base)
 (hl:H0.length<=bY.length)(ha:aR (aG H0) gf)(ho:∀(b:Nat)(o:Obj),H0[b]?=some o->o.refs (aG H0))
 {H:Heap}{w:bl}{ad ah:Nat->Prop}{β:Bd}{cargs:List bi}(hr:bP P w ad β H ah)(hargs:br P w ad β H (cQ (sig bs base) gf) cargs)
 (ak:∀p∈(dw bs base H0 bY v0).ak,H[p.1]?=some p.2)(aQ:∀i,i<(dw bs base H0 bY v0).aQ.length->H[base+i]?=some .hole):
 ∃(dO:Bd)(Prot0:Nat->Prop),(∀b,dO.al b=β.al (sig bs base b))/\bP P w ad dO H0 Prot0/\br P w ad dO H0 gf cargs/\(∀b,b<H0.length->(gN H (sig bs base b)↔gN H0 b))/\
  ∀(cv:bi)(w':bl)(β0':Bd)(aD:Nat->Prop),bR P Prot0 ad w dO H0 aD w' β0' bY->au P w' aD β0' bY v0 cv->aC (aG bY) v0->
   ∃aH,bR P ah ad w β H aD w' aH (bm H ((dw bs base H0 bY v0).aJ++newAt base (dw bs base H0 bY v0).aQ))/\
    au P w' aD aH (bm H ((dw bs base H0 bY v0).aJ++newAt base (dw bs base H0 bY v0).aQ)) (dw bs base H0 bY v0).v cv/\
    aC (aG (bm H ((dw bs base H0 bY v0).aJ++newAt base (dw bs base H0 bY v0).aQ))) (dw bs base H0 bY v0).v:=by
 obtain⟨σ,hσ⟩:∃σ,σ=sig bs base:=⟨_,rfl⟩
 have hinj:∀{i j},σ i=σ j->i=j:=fun{i j} h=>aFJ hnd hlt (by rw[hσ]at h;exact h);have hold:∀{i}(hi:i<H0.length),σ i=bs[i]'(by omega):=fun hi=>by rw[hσ];exact sU _
 have hnw:∀{i},H0.length<=i->σ i=base+(i-H0.length):=fun hi=>by rw[hσ,sV (by omega),hlen]
 have hget:∀(b:Nat)(o:Obj),H0[b]?=some o->H[σ b]?=some (dm σ o):=by
  intro b o hb;obtain⟨hbl,rfl⟩:=cy.1 hb;have:=ak (bs[b]'(by omega),dm (sig bs base) H0[b]) (by
   simp only[dw];rw[db];exact⟨b,by simp;omega,by simp⟩)
  rw[hold hbl,hσ];exact this
 have hnewH:∀i,H0.length<=i->i<bY.length->H[σ i]?=some .hole:=by
  intro i h1 h2;rw[hnw h1];exact aQ (i-H0.length) (by simp[dw];omega)
 obtain⟨H2,hH2⟩:∃H2,H2=bm H ((dw bs base H0 bY v0).aJ++newAt base (dw bs base H0 bY v0).aQ):=⟨_,rfl⟩
 have hkeys:∀p∈(dw bs base H0 bY v0).aJ++newAt base (dw bs base H0 bY v0).aQ,∃i,i<bY.length/\p.1=σ i:=by
  intro p hp;rcases eo.1 hp with hp|hp
  ·simp only[dw]at hp;have hm:=(dq hp).1;obtain⟨i,hi,he⟩:=db.1 hm;exact⟨i,by omega,by rw[hold (by omega)];exact he.symm⟩
  ·have hm:p.1∈(newAt base (dw bs base H0 bY v0).aQ).map (·.1):=ed hp
   rw[BG,ee]at hm;simp only[dw,List.length_map,List.length_drop]at hm;exact⟨H0.length+(p.1-base),by omega,by rw[hnw (by omega)];omega⟩
 have hndk:(((dw bs base H0 bY v0).aJ++newAt base (dw bs base H0 bY v0).aQ).map (·.1)).Nodup:=by
  rw[eq,BG];have e:(dw bs base H0 bY v0).aJ.map (·.1)=bs:=by
   simp only[dw];rw[List.map_fst_zip];simp;omega
  rw[e,List.nodup_append];refine⟨hnd,List.nodup_range',fun a h1 b h2 he=>?_⟩;subst he;have:=hlt _ h1;rw[ee]at h2;omega
 have hA:∀(i:Nat)(o:Obj),bY[i]?=some o->H2[σ i]?=some (dm σ o):=by
  intro i o hi;obtain⟨hil,rfl⟩:=cy.1 hi
  by_cases hi0:i<H0.length
  ·have hm:(bs[i]'(by omega),dm (sig bs base) bY[i])∈(dw bs base H0 bY v0).aJ++newAt base (dw bs base H0 bY v0).aQ:=by
    refine List.mem_append_left _ ?_;simp only[dw];rw[db];exact⟨i,by simp;omega,by simp⟩
   have:=BK (H:=H) hndk _ hm (by
    have:=hget i _ (cx hi0);rw[hold hi0]at this;exact(cy.1 this).1)
   rw[hH2,hold hi0,this,hσ]
  ·have hm:(base+(i-H0.length),dm (sig bs base) bY[i])∈(dw bs base H0 bY v0).aJ++newAt base (dw bs base H0 bY v0).aQ:=by
    refine eb _ ?_;have:=Jz (dw bs base H0 bY v0).aQ base (i-H0.length) (by simp[dw];omega);have e:(dw bs base H0 bY v0).aQ[i-H0.length]'(by simp[dw];omega)=dm (sig bs base) bY[i]:=by
     simp only[dw,List.getElem_map,List.getElem_drop];congr 2;omega
    rw[e]at this;exact this
   have:=BK (H:=H) hndk _ hm (by
    have:=hnewH i (by omega) hil;rw[hnw (by omega)]at this;exact(cy.1 this).1)
   rw[hH2,hnw (by omega),this,hσ]
 have hB:∀x,(∀i,i<bY.length->σ i≠x)->H2[x]?=H[x]?:=by
  intro x hx;rw[hH2];refine Bi fun p hp=>?_;obtain⟨i,h1,h2⟩:=hkeys p hp;rw[h2];exact hx i h1
 let dO:Bd:=⟨fun b=>β.al (σ b),fun b=>β.cap (σ b)⟩
 let Prot0:Nat->Prop:=fun k=>ah k\/∃x o,H[x]?=some o/\o.live/\(∀i,i<H0.length->σ i≠x)/\β.al x=k
 have hemb:dP σ dO H0 β H:=⟨hget,fun b _=>⟨rfl,rfl⟩⟩
 have small:∀x:Nat×Nat,aG H0 x->Small H0.length x:=fun x⟨o,ho,_⟩=>(cy.1 ho).1;have held0:∀{b:Nat}{o:Obj},H0[b]?=some o->o.live->∀fz,cw ad dO Prot0 fz b↔cw ad β ah fz (σ b):=by
  intro b o hb hlv fz;cases fz with
  |true=>simp[cw,dO]
  |false=>
   simp only[cw,a1,if_false];refine and_congr_right fun hni=>⟨fun h hp=>h (.inl hp),fun h hp=>?_⟩
   rcases hp with hp|⟨x,o',h1,h2,h3,h4⟩
   ·exact h hp
   ·exact h3 b (cy.1 hb).1 (hr.inj _ _ _ _ (hget b o hb) h1 (qA.2 hlv) h2 hni h4.symm)
 have hr0:bP P w ad dO H0 Prot0:=by
  refine⟨fun b o hb=>?_,fun b b' o o' h1 h2 l1 l2 hni he=>?_,ho,hr.bQ,fun k hk=>?_,hr.ig⟩
  ·exact(hemb.Qy hb ((ho b o hb).mono small) (held0 hb)).1 (hr.cB _ _ (hget b o hb))
  ·exact hinj (hr.inj _ _ _ _ (hget b o h1) (hget b' o' h2) (qA.2 l1) (qA.2 l2) hni he)
  ·rcases hk with hk|⟨x,o,h1,h2,_,rfl⟩
   ·exact hr.dX k hk
   ·exact hr.mE h1 h2
 have hargs0:br P w ad dO H0 gf cargs:=by
  rw[<-hσ]at hargs;exact(hemb.pO _ _ (aR.mono small _ ha)).1 hargs
 refine⟨dO,Prot0,fun b=>by rw[<-hσ],hr0,hargs0,fun b hb=>by rw[<-hσ];exact hemb.loop hb,fun cv w' β0' aD hp hv hvr=>?_⟩
 let aH:Bd:=⟨fun x=>if h:∃i,i<bY.length/\σ i=x then β0'.al h.choose else β.al x,fun x=>if h:∃i,i<bY.length/\σ i=x then β0'.cap h.choose else β.cap x⟩
 have hβ:∀i,i<bY.length->aH.al (σ i)=β0'.al i/\aH.cap (σ i)=β0'.cap i:=by
  intro i hi;have hex:∃j,j<bY.length/\σ j=σ i:=⟨i,hi,rfl⟩
  have hc:hex.choose=i:=hinj hex.choose_spec.2;simp only[aH,dif_pos hex,hc,and_self]
 have hβn:∀x,(∀i,i<bY.length->σ i≠x)->aH.al x=β.al x/\aH.cap x=β.cap x:=by
  intro x hx;have hnex:¬∃i,i<bY.length/\σ i=x:=fun⟨i,h1,h2⟩=>hx i h1 h2;simp only[aH,dif_neg hnex,and_self]
 have hemb':dP σ β0' bY aH H2:=⟨hA,fun b hb=>hβ b hb⟩
 have small':∀x:Nat×Nat,aG bY x->Small bY.length x:=fun x⟨o,ho,_⟩=>(cy.1 ho).1;have split:∀x,(∃i,i<bY.length/\σ i=x)\/∀i,i<bY.length->σ i≠x:=by
  intro x
  by_cases hx:∃i,i<bY.length/\σ i=x
  ·exact .inl hx
  ·exact .inr fun i h1 h2=>hx ⟨i,h1,h2⟩
 have inOld:∀{i v},i<bY.length->aG H (σ i,v)->aG H0 (i,v)/\i<H0.length:=by
  intro i v hi ⟨o,h1,h2⟩
  by_cases hi0:i<H0.length
  ·refine⟨?_,hi0⟩;have:=hget i _ (cx hi0);simp only at h1;rw[this]at h1;cases h1;exact⟨_,cx hi0,MJ.1 h2⟩
  ·have:=hnewH i (by omega) hi;simp only at h1;rw[this]at h1;cases h1;exact h2.elim
 have gT:b9 β H aH H2:=by
  refine⟨?_,?_,?_,?_,?_⟩
  ·intro b hb hlv;rcases split b with⟨i,hi,rfl⟩|hx
   ·obtain⟨k1,k2⟩:=inOld hi hb;obtain⟨g1,g2⟩:=hp.step.box i k1 ((hemb'.box hi).1 hlv);exact⟨(hemb.box k2).2 g1,(hβ i hi).1.trans g2⟩
   ·unfold mG at hlv⊢;rw[hB b hx]at hlv;exact⟨hlv,(hβn b hx).1⟩
  ·intro b hb hlv;rcases split b with⟨i,hi,rfl⟩|hx
   ·obtain⟨k1,k2⟩:=inOld hi hb;obtain⟨g1,g2⟩:=hp.step.it i k1 ((hemb'.it hi).1 hlv);exact⟨(hemb.it k2).2 g1,(hβ i hi).1.trans g2⟩
   ·unfold mH at hlv⊢;rw[hB b hx]at hlv;exact⟨hlv,(hβn b hx).1⟩
  ·intro b hb hlv;rcases split b with⟨i,hi,rfl⟩|hx
   ·obtain⟨k1,k2⟩:=inOld hi hb;obtain⟨g1,g2⟩:=hp.step.map i k1 ((hemb'.map hi).1 hlv);exact⟨(hemb.map k2).2 g1,(hβ i hi).1.trans g2⟩
   ·unfold nM at hlv⊢;rw[hB b hx]at hlv;exact⟨hlv,(hβn b hx).1⟩
  ·intro b ar ai k es hb hlv;rcases split b with⟨i,hi,rfl⟩|hx
   ·obtain⟨k1,k2⟩:=inOld hi hb;obtain⟨gE,g0,rfl⟩:=(hemb'.arr hi).1 hlv;obtain⟨k0,es1,g1,g2,g3,g4⟩:=hp.step.arr i ar ai k gE k1 g0;refine⟨k0,cQ σ es1,(hemb.arr k2).2 ⟨_,g1,rfl⟩,by rw[sq,sq];exact g2,by rw[nK,nK];exact g3,fun hn=>?_⟩;rw[nK]at hn;rw[(hβ i hi).1,(hβ i hi).2];exact g4 hn
   ·unfold eD at hlv⊢;rw[hB b hx]at hlv;exact⟨k,es,hlv,e9 _,Iff.rfl,fun _=>hβn b hx⟩
  ·intro b hb hlv;rcases split b with⟨i,hi,rfl⟩|hx
   ·obtain⟨k1,k2⟩:=inOld hi hb;obtain⟨g1,g2⟩:=hp.step.loop i k1 ((hemb'.loop hi).1 hlv);exact⟨(hemb.loop k2).2 g1,(hβ i hi).1.trans g2⟩
   ·unfold gN at hlv⊢;rw[hB b hx]at hlv;exact⟨hlv,(hβn b hx).1⟩
 have hinn:∀x,aG H x->aG H2 x:=by
  rintro⟨b,v⟩ hb;rcases split b with⟨i,hi,rfl⟩|hx
  ·obtain⟨k1,_⟩:=inOld hi hb;exact(hemb'.D1 (x:=(i,v)) hi).2 (hp.eQ _ k1)
  ·obtain⟨o,h1,h2⟩:=hb;exact⟨o,by simp only;rw[hB b hx];exact h1,h2⟩
 have prot0:∀{x:Nat}{o:Obj},(∀i,i<bY.length->σ i≠x)->H[x]?=some o->o.live->Prot0 (β.al x):=by
  intro x o hx h1 h2;exact .inr ⟨x,o,h1,h2,fun i hi=>hx i (by omega),rfl⟩
 have mut':∀{i:Nat}{o:Obj},bY[i]?=some o->o.live->¬aD (β0'.al i)->¬Prot0 (β0'.al i):=by
  intro i o h1 h2 h3;exact(hp.rel.cB i o h1).mut h2 h3
 have hrel:bP P w' aD aH H2 ah:=by
  refine⟨fun x o hx=>?_,fun x x' o o' h1 h2 l1 l2 hni he=>?_,fun x o hx=>?_,hp.rel.bQ,fun k hk=>hp.rel.dX k (.inl hk),hp.rel.ig⟩
  ·rcases split x with⟨i,hi,rfl⟩|hn
   ·have hg:=hA i _ (cx hi);rw[hg]at hx;cases hx;refine(hemb'.Qy (Prot0:=Prot0) (cx hi) ((hp.rel.refs i _ (cx hi)).mono small') (fun hlv fz=>?_)).2 (hp.rel.cB i _ (cx hi));cases fz with
    |true=>simp[cw,(hβ i hi).1]
    |false=>
     simp only[cw,a1,if_false,(hβ i hi).1];exact⟨fun h=>⟨h.1,fun hp=>h.2 (.inl hp)⟩,fun h=>⟨h.1,mut' (cx hi) hlv h.1⟩⟩
   ·rw[hB x hn]at hx;refine eZ.carry hp.bQ (fun k hk=>hp.ext.same k (.inr hk)) gT (hr.refs x o hx) (fun hlv=>⟨hp.ext.same _ (.inl (prot0 hn hx hlv)),hβn x hn⟩) (fun hlv fz hh=>?_) (hr.cB x o hx);have hp0:=prot0 hn hx hlv;cases fz with
    |true=>
     simp only[cw,if_true]at hh⊢;rw[(hβn x hn).1];exact hp.bQ _ hh
    |false=>
     simp only[cw,a1,if_false]at hh⊢;rw[(hβn x hn).1];exact⟨fun hi=>(hp.fresh _ hi).elim hh.1 (fun h=>h hp0),hh.2⟩
  ·rcases split x with⟨i,hi,rfl⟩|hn<;>rcases split x' with⟨j,hj,rfl⟩|hn'
   ·have g1:=hA i _ (cx hi);have g2:=hA j _ (cx hj);rw[g1]at h1;cases h1;rw[g2]at h2;cases h2;rw[(hβ i hi).1,(hβ j hj).1]at he;rw[(hβ i hi).1]at hni;rw[hp.rel.inj i j _ _ (cx hi) (cx hj) (qA.1 l1) (qA.1 l2) hni he]
   ·have g1:=hA i _ (cx hi);rw[g1]at h1;cases h1;rw[hB x' hn']at h2;rw[(hβ i hi).1,(hβn x' hn').1]at he;rw[(hβ i hi).1]at hni;exact(mut' (cx hi) (qA.1 l1) hni (he▸prot0 hn' h2 l2)).elim
   ·have g2:=hA j _ (cx hj);rw[g2]at h2;cases h2;rw[hB x hn]at h1;rw[(hβ j hj).1,(hβn x hn).1]at he;rw[(hβn x hn).1]at hni;exact(mut' (cx hj) (qA.1 l2) (he▸hni) (he▸prot0 hn h1 l1)).elim
   ·rw[hB x hn]at h1;rw[hB x' hn']at h2;rw[(hβn x hn).1,(hβn x' hn').1]at he;rw[(hβn x hn).1]at hni;exact hr.inj _ _ _ _ h1 h2 l1 l2 (fun hi=>hni (hp.bQ _ hi)) he
  ·rcases split x with⟨i,hi,rfl⟩|hn
   ·have hg:=hA i _ (cx hi);rw[hg]at hx;cases hx;rw[Vw];exact(hp.rel.refs i _ (cx hi)).mono (fun y hy=>(hemb'.D1 (small' y hy)).2 hy)
   ·rw[hB x hn]at hx;exact(hr.refs x o hx).mono hinn
 refine⟨aH,?_,?_,?_⟩
 ·rw[<-hH2];refine⟨hp.bQ,fun k hk=>(hp.fresh k hk).imp id (fun h h'=>h (.inl h')),⟨hp.ext.size,fun k hk=>hp.ext.same k (hk.imp .inl id),hp.ext.io⟩,gT,hrel,hinn,fun b hb=>?_⟩;rcases split b with⟨i,hi,rfl⟩|hx
  ·by_cases hi0:i<H0.length
   ·exact(hemb'.loop hi).2 (hp.loop i ((hemb.loop hi0).1 hb))
   ·obtain⟨L,hL⟩:=hb;rw[hnewH i (by omega) hi]at hL;cases hL
  ·unfold gN at hb⊢;rw[hB b hx];exact hb
 ·rw[<-hH2];show au P w' aD aH H2 (cJ (sig bs base) v0) cv;rw[<-hσ];exact(hemb'.DB _ _ (aC.mono small' _ hvr)).2 hv
 ·rw[<-hH2];show aC (aG H2) (cJ (sig bs base) v0);rw[<-hσ,BZ];exact aC.mono (fun y hy=>(hemb'.D1 (small' y hy)).2 hy) _ hvr
theorem c7.frame{f:bb}{H0 bY:Heap}{gf:List AV}{g:AV}(h:c7 P f H0 gf bY g)(bs:List Nat)(a:Nat)(r:bs.length=H0.length)(t:bs.Nodup)(s:∀b∈bs,b<a)
 (q:H0.length<=bY.length)(d:aR (aG H0) gf)(u:∀(b:Nat)(o:Obj),H0[b]?=some o->o.refs (aG H0)):
 rG P f (cQ (sig bs a) gf) a (dw bs a H0 bY g):=by
 refine⟨h.1,fun H w ad ah β m x n _ ak aQ=>?_⟩;obtain⟨dO,i,-,y,p,-,back⟩:=Jf bs a r t s q d u x n ak aQ;refine(h.2 w ad i dO m y p d).mono ?_;rintro e w' ⟨c,B,aD,rfl,v,z,A⟩;obtain⟨aH,j,k,l⟩:=back c w' B aD v z A;exact⟨c,aH,aD,rfl,j,k,l⟩
theorem ir.frame{b:Nat}{H0 bY:Heap}{gf:List AV}{i:AV}(h:ir P b H0 gf bY i)(bs:List Nat)(a:Nat)(x:bs.length=H0.length)(A:bs.Nodup)(z:∀b∈bs,b<a)
 (v:H0.length<=bY.length)(g:aR (aG H0) gf)(B:∀(b:Nat)(o:Obj),H0[b]?=some o->o.refs (aG H0)):
 tA P (sig bs a b) (cQ (sig bs a) gf) a (dw bs a H0 bY i):=by
 intro H w ad ah β p D r _ ak aQ;obtain⟨dO,j,t,E,s,y,back⟩:=Jf bs a x A z v g B D r ak aQ;have u:b<H0.length:=by
  obtain⟨L,q⟩:=h.1;exact(cy.1 q).1
 refine⟨(y b u).2 h.1,?_⟩;obtain⟨f,tmps,assign,body,d,e⟩:=h.2 w ad j dO p E s g;rw[t]at d e;refine⟨f,tmps,assign,body,d,fun n I=>?_⟩;obtain⟨c,w',J,aD,g1,C,F,G⟩:=e n I;obtain⟨aH,k,l,m⟩:=back c w' J aD C F G;exact⟨c,w',aH,aD,g1,k,l,m⟩
end
end Go.aj
namespace Go.aj
variable[Gl]
def kF(b:Nat):List Nat->Nat->Option Nat
 |[],_=>none
 |x::r,i=>bif ey x b then some i else kF b r (i+1)
theorem Lu{b:Nat}:∀{l:List Nat}{i j:Nat},kF b l i=some j->i<=j/\l[j-i]?=some b
 |[],_,_,h=>by simp[kF]at h
 |x::r,i,j,h=>by
  simp only[kF]at h;cases a:ey x b
  ·simp only[a,cond_false]at h;obtain⟨d,c⟩:=Lu h;refine⟨by omega,?_⟩;have e:j-i=(j-(i+1))+1:=by omega
   rw[e,List.getElem?_cons_succ];exact c
  ·simp only[a,cond_true,fv]at h;subst h;simp[dj a]
section
variable(bs:List Nat)
mutual
def l6:AV->Option AV
 | .p v=>some (.p v)
 | .ptr b path=>match kF b bs 0 with
  |some i=>some (.ptr i path)
  |none=>none
 | .bV b ar ai i path=>match kF b bs 0 with
  |some j=>some (.bV j ar ai i path)
  |none=>none
 | .sl b ar ai off len=>match kF b bs 0 with
  |some j=>some (.sl j ar ai off len)
  |none=>none
 | .map b=>match kF b bs 0 with
  |some j=>some (.map j)
  |none=>none
 | .func f fi ca=>match lV fi,lV ca with
  |some a,some b=>some (.func f a b)
  |_,_=>none
 | .st u fs=>match lV fs with
  |some a=>some (.st u a)
  |none=>none
 | .aE vs=>match lV vs with
  |some a=>some (.aE a)
  |none=>none
def lV:List AV->Option (List AV)
 |[]=>some []
 |v::r=>match l6 v,lV r with
  |some a,some b=>some (a::b)
  |_,_=>none
end
def C4:Obj->Option Obj
 | .box fz t=>match l6 bs t with
  |some a=>some (.box fz a)
  |none=>none
 | .arr k ar ai es=>match lV bs es with
  |some a=>some (.arr k ar ai a)
  |none=>none
 | .map fz es=>some (.map fz es)
 | .di ks vs=>match lV bs vs with
  |some a=>some (.di ks a)
  |none=>none
 | .dt s n=>some (.dt s n)
 | .dead=>some .dead
 |_=>none
def vJ(H:Heap):List Nat->Option Heap
 |[]=>some []
 |b::r=>match H[b]? with
  |some o=>match C4 bs o,vJ H r with
   |some a,some t=>some (a::t)
   |_,_=>none
  |none=>none
end
section
variable{bs:List Nat}{base:Nat}
theorem yz{b i:Nat}(h:kF b bs 0=some i):sig bs base i=b:=by
 have:=(Lu h).2;simp only[Nat.sub_zero]at this;simp[sig,this]
mutual
theorem Kt:∀{a c:AV},l6 bs a=some c->cJ (sig bs base) c=a
 | .p v,c,h=>by simp only[l6,fv]at h;subst h;rfl
 | .ptr b path,c,h=>by
  simp only[l6]at h
  split at h
  ·rename_i i hi;simp only[fv]at h;subst h;simp only[cJ,yz hi]
  ·simp at h
 | .bV b ar ai i path,c,h=>by
  simp only[l6]at h
  split at h
  ·rename_i i hi;simp only[fv]at h;subst h;simp only[cJ,yz hi]
  ·simp at h
 | .sl b ar ai off len,c,h=>by
  simp only[l6]at h
  split at h
  ·rename_i i hi;simp only[fv]at h;subst h;simp only[cJ,yz hi]
  ·simp at h
 | .map b,c,h=>by
  simp only[l6]at h
  split at h
  ·rename_i i hi;simp only[fv]at h;subst h;simp only[cJ,yz hi]
  ·simp at h
 | .func f fi ca,c,h=>by
  simp only[l6]at h
  split at h
  ·rename_i a b d g;simp only[fv]at h;subst h;simp only[cJ,oS d,oS g]
  ·simp at h
 | .st u fs,c,h=>by
  simp only[l6]at h
  split at h
  ·rename_i a d;simp only[fv]at h;subst h;simp only[cJ,oS d]
  ·simp at h
 | .aE vs,c,h=>by
  simp only[l6]at h
  split at h
  ·rename_i a d;simp only[fv]at h;subst h;simp only[cJ,oS d]
  ·simp at h
theorem oS:∀{l e:List AV},lV bs l=some e->cQ (sig bs base) e=l
 |[],e,h=>by simp only[lV,fv]at h;subst h;rfl
 |v::r,e,h=>by
  simp only[lV]at h
  split at h
  ·rename_i a b d g;simp only[fv]at h;subst h;simp only[cQ,Kt d,oS g]
  ·simp at h
end
theorem U6{o c:Obj}(h:C4 bs o=some c):dm (sig bs base) c=o:=by
 cases o<;>simp only[C4]at h
 case box fz t=>
  split at h
  ·rename_i a b;simp only[fv]at h;subst h;simp only[dm,Kt b]
  ·simp at h
 case arr k ar ai es=>
  split at h
  ·rename_i a b;simp only[fv]at h;subst h;simp only[dm,oS b]
  ·simp at h
 case di ks vs=>
  split at h
  ·rename_i a b;simp only[fv]at h;subst h;simp only[dm,oS b]
  ·simp at h
 case hole=>simp at h
 case loop=>simp at h
 all_goals (simp only[fv]at h;subst h;rfl)
theorem Ji{H:Heap}:∀{l:List Nat}{H0:Heap},vJ bs H l=some H0->H0.length=l.length/\∀p∈l.zip (H0.map (dm (sig bs base))),H[p.1]?=some p.2
 |[],H0,h=>by simp only[vJ,fv]at h;subst h;simp
 |b::r,H0,h=>by
  simp only[vJ]at h
  split at h
  case h_2=>simp at h
  rename_i o f
  split at h
  case h_2=>simp at h
  rename_i a t d e;simp only[fv]at h;subst h;obtain⟨i1,i2⟩:=Ji e;refine⟨by simp[i1],fun p c=>?_⟩;simp only[dg,List.zip_cons_cons,da]at c;rcases c with rfl|c
  ·simp only[U6 d];exact f
  ·exact i2 p c
end
mutual
def Pn:AV->List Nat->List Nat
 | .p _,acc=>acc
 | .ptr b _,acc| .bV b _ _ _ _,acc| .sl b _ _ _ _,acc| .map b,acc=>b::acc
 | .func _ fi ca,acc=>ua fi (ua ca acc)
 | .st _ fs,acc| .aE fs,acc=>ua fs acc
def ua:List AV->List Nat->List Nat
 |[],acc=>acc
 |v::r,acc=>Pn v (ua r acc)
end
def ZT:Obj->List Nat
 | .box _ t=>Pn t []
 | .arr _ _ _ es=>ua es []
 |_=>[]
def Dh(H:Heap):Nat->List Nat->List Nat->List Nat
 |0,_,acc=>acc
 |_,[],acc=>acc
 |n+1,b::r,acc=>match kF b acc 0 with
  |some _=>Dh H n r acc
  |none=>Dh H n (match H[b]? with
   |some o=>ZT o++r
   |none=>r) (b::acc)
def nodupB:List Nat->Bool
 |[]=>true
 |x::r=>(match kF x r 0 with
  |some _=>false
  |none=>true)&&nodupB r
theorem Jp{b:Nat}:∀{l:List Nat}{i:Nat},kF b l i=none->b∉l
 |[],_,_=>by simp
 |x::r,i,h=>by
  simp only[kF]at h;cases a:ey x b
  ·simp only[a,cond_false]at h;have:=Jp h;simp only[da,not_or];refine⟨fun e=>?_,this⟩;subst e;rw[fd]at a;cases a
  ·simp[a]at h
theorem Jw:∀{l:List Nat},nodupB l=true->l.Nodup
 |[],_=>List.nodup_nil
 |x::r,h=>by
  simp only[nodupB,a0]at h;rw[dz];refine⟨?_,Jw h.2⟩;have a:=h.1
  split at a
  ·simp at a
  ·rename_i b;exact Jp b
def zS(H:Heap)(b v:Nat):Bool:=match H[b]? with
 |some .hole|none=>false
 |some (.arr _ ar _ _)=>e6 v ar
 |some _=>true
theorem ZV{H:Heap}{b v:Nat}(h:zS H b v=true):aG H (b,v):=by
 unfold zS at h
 split at h
 ·simp at h
 ·simp at h
 ·rename_i k ar ai c a;exact⟨_,a,cU h⟩
 ·rename_i o d e a;refine⟨o,a,?_⟩;cases o with
  |hole=>exact(d rfl).elim
  |arr k ar ai c=>exact(e _ _ _ _ rfl).elim
  |_=>trivial
mutual
def rq(H:Heap):AV->Bool
 | .p _=>true
 | .ptr b _| .map b=>zS H b 0
 | .bV b ar _ _ _| .sl b ar _ _ _=>zS H b ar
 | .func _ fi ca=>mK H fi&&mK H ca
 | .st _ fs| .aE fs=>mK H fs
def mK(H:Heap):List AV->Bool
 |[]=>true
 |v::r=>rq H v&&mK H r
end
mutual
theorem B0{H:Heap}:∀{a:AV},rq H a=true->aC (aG H) a
 | .p _,_=>by simp[aC]
 | .ptr _ _,h| .map _,h| .bV _ _ _ _ _,h| .sl _ _ _ _ _,h=>by
  simp only[rq]at h;simp only[aC];exact ZV h
 | .func _ fi ca,h=>by
  simp only[rq,a0]at h;simp only[aC];exact⟨oU h.1,oU h.2⟩
 | .st _ _,h| .aE _,h=>by
  simp only[rq]at h;simp only[aC];exact oU h
theorem oU{H:Heap}:∀{l:List AV},mK H l=true->aR (aG H) l
 |[],_=>by simp[aR]
 |v::r,h=>by
  simp only[mK,a0]at h;simp only[aR];exact⟨B0 h.1,oU h.2⟩
end
def yQ(H:Heap):Obj->Bool
 | .box _ t=>rq H t
 | .arr _ _ _ es=>mK H es
 | .di _ vs=>mK H vs
 | .loop _=>false
 |_=>true
theorem Js{H:Heap}{o:Obj}(h:yQ H o=true):o.refs (aG H):=by
 cases o<;>simp only[yQ]at h<;>simp only[Obj.refs]
 ·exact B0 h
 ·exact oU h
 ·exact oU h
 ·simp at h
def re(p:Obj->Bool):List Obj->Bool
 |[]=>true
 |o::r=>p o&&re p r
theorem vC{p:Obj->Bool}:∀{l:List Obj},re p l=true->∀o∈l,p o=true
 |[],_,o,h=>by simp at h
 |a::r,h,o,b=>by
  simp only[re,a0]at h;rcases da.1 b with rfl|b
  ·exact h.1
  ·exact vC h.2 o b
def yL(n:Nat):List Nat->Bool
 |[]=>true
 |x::r=>e6 (x+1) n&&yL n r
theorem CY{n:Nat}:∀{l:List Nat},yL n l=true->∀x∈l,x<n
 |[],_,o,h=>by simp at h
 |a::r,h,o,b=>by
  simp only[yL,a0]at h;rcases da.1 b with rfl|b
  ·exact cU h.1
  ·exact CY h.2 o b
def yI:Obj->Bool
 | .hole=>false
 |_=>true
def vV(run:List AV->Heap->Option (AV×Heap))(args:List AV)(H:Heap):Option aS:=
 let bs:=Dh H 1000 (ua args []) []
 match lV bs args,vJ bs H bs with
 |some gf,some H0=>bif nodupB bs&&(yL H.length bs&&(mK H0 gf&&re (yQ H0) H0))then
  match run gf H0 with
  |some (v0,H1)=>bif e6 H0.length H1.length&&(re yI (H1.take H0.length))then some (dw bs H.length H0 H1 v0)else none
  |none=>none
  else none
 |_,_=>none
theorem BQ{P:a7}{f:bb}{run:List AV->Heap->Option (AV×Heap)}(n:∀args H v H',run args H=some (v,H')->c7 P f H args H' v){args:List AV}{H:Heap}{e:aS}(h:vV run args H=some e):
 rG P f args H.length e/\pL H e:=by
 unfold vV at h;dsimp only at h
 split at h
 case h_2=>simp at h
 rename_i gf H0 g i;simp only[aT,fl,a0]at h;obtain⟨⟨g1,g2,g3,g4⟩,h⟩:=h
 split at h
 case h_2=>simp at h
 rename_i q H1 j;simp only[fl,fv]at h;obtain⟨⟨g5,g7⟩,rfl⟩:=h;obtain⟨k1,k2⟩:=Ji (base:=H.length) i;have hf:=(n _ _ _ _ j).frame _ H.length k1.symm (Jw g1) (CY g2) (cU g5) (oU g3) (fun b o k=>Js (vC g4 o (dl k)));rw[oS g]at hf;refine⟨hf,k2,fun p d=>?_⟩;simp only[dw]at d;have c:=dq d;refine⟨CY g2 _ c.1,fun l=>?_⟩;obtain⟨o,m,a⟩:=ew.1 c.2;rw[l]at a;have:=vC g7 o m;rw[Wz.1 a]at this;simp[yI]at this
mutual
theorem yP:∀v:AV,cJ (fun i=>i) v=v
 | .p _| .sl .. | .bV .. | .ptr .. | .map _=>rfl
 | .st u vs=>by simp only[cJ,qG vs]
 | .aE vs=>by simp only[cJ,qG vs]
 | .func f a b=>by simp only[cJ,qG a,qG b]
theorem qG:∀l:List AV,cQ (fun i=>i) l=l
 |[]=>rfl
 |v::l=>by simp only[cQ,yP v,qG l]
end
theorem JN:∀e:Env,tE (fun i=>i) e=e
 |[]=>rfl
 |(x,v)::r=>by simp only[tE,yP v,JN r]
theorem aEY(o:Obj):dm (fun i=>i) o=o:=by
 cases o<;>simp only[dm,yP,qG,JN]
theorem M9(n:Nat):sig (c9 n) n=fun i=>i:=by
 funext i
 by_cases h:i<n
 ·rw[sU (by simpa using h)];simp
 ·rw[sV (by simpa using h)];simp;omega
def wL(H:Heap):List (Nat×Obj):=(c9 H.length).zip H
theorem ZU{H:Heap}{p:Nat×Obj}(h:p∈wL H):H[p.1]?=some p.2:=by
 rw[wL,db]at h;obtain⟨i,hi,a⟩:=h;rw[List.getElem_zip]at a;subst a;simp
def zN(H:Heap):Env->Bool
 |[]=>true
 |(_,v)::r=>rq H v&&zN H r
theorem Mt{H:Heap}:∀{e:Env},zN H e=true->∀x,aC (aG H) (aM e x)
 |[],_,x=>by simp[aM,aC]
 |(y,v)::r,h,x=>by
  simp only[zN,a0]at h;simp only[aM]
  split
  ·exact B0 h.1
  ·exact Mt h.2 x
def NO(H:Heap):Obj->Bool
 | .loop L=>zN H L.env
 |o=>yQ H o
theorem Vx{H:Heap}{o:Obj}(h:NO H o=true):o.refs (aG H):=by
 cases o<;>first
  |exact Js h
  |exact Mt h
def CG(run:Nat->Heap->List AV->Option (Heap×AV))(b:Nat)(args:List AV)(H:Heap):Option aS:=
 bif mK H args&&re (NO H) H then
  match run b H args with
  |some (H1,v)=>bif e6 H.length H1.length&&(re yI (H1.take H.length))then some {v,ak:=wL H,aJ:=(c9 H.length).zip (H1.take H.length),aQ:=H1.drop H.length}else none
  |none=>none
 else none
theorem UG{P:a7}{run:Nat->Heap->List AV->Option (Heap×AV)}(k:∀b H args H' v,run b H args=some (H',v)->ir P b H args H' v){b:Nat}{args:List AV}{H:Heap}{e:aS}(h:CG run b args H=some e):
 tA P b args H.length e/\pL H e:=by
 unfold CG at h;simp only[aT,fl,a0]at h;obtain⟨⟨g3,g4⟩,h⟩:=h
 split at h
 case h_2=>simp at h
 rename_i H1 f g;simp only[fl,fv]at h;obtain⟨⟨g5,g7⟩,rfl⟩:=h;have hf:=(k _ _ _ _ _ g).frame (c9 H.length) H.length (by simp) ej (fun b a=>by simpa using a) (cU g5) (oU g3) (fun b o a=>Vx (vC g4 o (dl a)));have e:dw (c9 H.length) H.length H H1 f={v:=f,ak:=wL H,aJ:=(c9 H.length).zip (H1.take H.length),aQ:=H1.drop H.length}:=by
  simp only[dw,M9,yP];rw[show(dm fun i=>i)=id from funext aEY,ec,ec,ec,wL]
 rw[e,M9,qG]at hf;refine⟨hf,fun p c=>ZU c,fun p c=>?_⟩;have d:=dq c;refine⟨by simpa using d.1,fun j=>?_⟩;have:=vC g7 p.2 d.2;rw[j]at this;simp[yI]at this
end Go.aj
