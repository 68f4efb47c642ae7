import Derived.Calls
import Derived.Laws.Sem
import Derived.IntWalk
import Derived.Laws.Cells
import Derived.Laws.CopyRow
import Derived.Laws.Entries
/- Parts of a proof. -/
set_option linter.unusedSimpArgs false
set_option linter.unusedVariables false
set_option linter.unusedSectionVars false
open Array renaming getElem?_eq_some_iff->av, getElem?_push->ax, toList->ay
open BitVec renaming ofInt->aT
open Go renaming Program->a0, TypeId->a1, Value->a5, step_lone_go->a6, World->a7, FuncId->a8, Operand->a9, Frame->bb, execOp->be, step_leave_returned->bi, Deferred->bk, MapEntry->bl, IntKind->bo, Calls->bv
open Go.Region renaming wanted->b0, binds->b1
open Go.Steps renaming trans->b2, one->b3
open Go.stepG renaming exec->b4, apply->b5, oper->cb
open List renaming replicate->cc, getElem?_set_ne->ce, getElem?_eq_some_iff->ck, getElem?_set_self->cv, getElem?_append_left->cx, map_cons->cy, getElem?_append_right->c6, mem_or_eq_of_mem_set->c9, length_eq_zero_iff->da, take_append_drop->db, mem_of_getElem?->dg, replicate_succ->dk, set_cons_zero->dl, length_append->dp, append_assoc->dq, length_cons->dz, cons_append->ea
open Nat renaming le_refl->eb, le_trans->ec, lt_of_lt_of_le->ed, ne_of_lt->ee
open Ne renaming symm->ei
namespace Go.al
set_option linter.unusedSectionVars false
inductive PV where
 |undef
 |bool (b:Bool)
 |int (k:bo) (n:Int)
 |str (s:List Nat)
 |dD
 |cr (t:PV)
 |aF
 |bI (full:Bool) (es:List PV)
 |seq (es:List PV)
 |fo
 |eK (es:List (PV×PV))
 |func (f:a8) (first gU:List PV)
 |gX
 |fG
 |st (u:a1) (fs:List PV)
 |aD (vs:List PV)
 deriving Inhabited
inductive AV where
 |p (v:PV)
 |ptr (b:Nat) (path:List (a1×Nat))
 |b6 (b ar ai i:Nat) (path:List (a1×Nat))
 |sl (b ar ai off len:Nat)
 |map (b:Nat)
 |func (f:a8) (first gU:List AV)
 |st (u:a1) (fs:List AV)
 |aD (vs:List AV)
 deriving Inhabited
inductive AK where|exact|grow|frozen|bytes
 deriving DecidableEq
def AK.gr:AK->Bool
 | .grow| .bytes=>true
 |_=>false
structure fc where
 st:LoopState
 pending:Option Code
 n:Nat
 params:List Tmp
 assign:Code
 body:Code
 env:List (Nat×AV)
inductive Obj where
 |hole
 |dead
 |box (fz:Bool) (t:AV)
 |arr (k:AK) (ar ai:Nat) (es:List AV)
 |map (fz:Bool) (es:List (PV×PV))
 |dm (ks:List PV) (vs:List AV)
 |dv (s:List Nat) (pos:Nat)
 |loop (L:fc)
 deriving Inhabited
abbrev Heap:=List Obj
abbrev Env:=List (Nat×AV)
structure St where
 env:Env
 heap:Heap
def aN(e:Env)(t:Nat):AV:=
 match e with
 |[]=>.p .undef
 |(k,v)::r=>if t=k then v else aN r t
inductive iZ where|bad|leaf|agg (u:a1)
 deriving DecidableEq
def aL:PV->iZ
 | .undef| .aD _=>.bad
 | .st u _=>.agg u
 |_=>.leaf
def ad:AV->iZ
 | .p v=>aL v
 | .aD _=>.bad
 | .st u _=>.agg u
 |_=>.leaf
def cB:PV->List PV
 | .st _ fs=>fs
 |_=>[]
section tables
variable(P:a0)
def dH(u:a1):Option (List Nat):=
 match(P.info? u).map (fun i:TypeInfo=>i.desc)with
 |some (.struct fs)=>
  let l:=fs.toList.map fun f=>P.cellsOf f.type
  if l.all (0<·)&&l.sum==P.cellsOf u&&(fs.toList.zipIdx.all fun(f,i)=>f.offset==(l.take i).sum)then some l else none
 |some (.array n e)=>if 0<P.cellsOf e&&n*P.cellsOf e==P.cellsOf u then some (cc n (P.cellsOf e))else none
 |_=>none
def kindOf(T:a1):iZ:=
 match P.underlying T with
 |some (.struct _)|some (.array _ _)=>
  if(dH P (P.underlyingId T)).isSome&&P.cellsOf T==P.cellsOf (P.underlyingId T)then .agg (P.underlyingId T)else .bad
 |some _=>if P.cellsOf T==1 then .leaf else .bad
 |none=>.bad
def bF:iZ->Nat
 | .bad=>0
 | .leaf=>1
 | .agg u=>P.cellsOf u
def jc(u:a1):List a1:=
 match(P.info? u).map (fun i:TypeInfo=>i.desc)with
 |some (.struct fs)=>fs.toList.map (·.type)
 |some (.array n e)=>cc n e
 |_=>[]
end tables
def ofConst:a5->PV
 | .bool b=>.bool b
 | .int k n=>.int k n
 | .string s=>.str (s.data.toList.map (·.toNat))
 | .pointer none=>.dD
 | .slice none 0 0=>.aF
 | .map none=>.fo
 | .nilFunc=>.gX
 | .nilIface=>.fG
 |_=>.undef
def ov(P:a0)(a:a1->List a5->Option PV):List a1->List Nat->List a5->Option (List PV)
 |[],[],[]=>some []
 |T::b,s::c,cs=>
  if(cs.take s).length=s then
   match a T (cs.take s),ov P a b c (cs.drop s)with
   |some v,some vs=>if bF P (aL v)=s then some (v::vs)else none
   |_,_=>none
  else none
 |_,_,_=>none
def sC(P:a0):Nat->a1->List a5->Option PV
 |0,_,_=>none
 |n+1,T,cs=>
  match kindOf P T with
  | .leaf=>match cs with
   |[c]=>match ofConst c with
    | .undef=>none
    |v=>some v
   |_=>none
  | .agg u=>match dH P u with
   |some l=>
    match ov P (sC P n) (jc P u) l cs with
    |some fs=>some (.st u fs)
    |none=>none
   |none=>none
  | .bad=>none
def yP:a5->iZ->Bool
 | .agg _,.agg _=>true
 | .agg _,_=>false
 |_,.agg _=>false
 |_,_=>true
def cJ(P:a0)(T:a1):Option PV:=
 match(P.info? T).bind (·.zero)with
 |some z=>if yP z (kindOf P T)then sC P 40 T z.cells.toList else none
 |none=>none
section relation
variable(P:a0)(w:a7)(aa:Nat->Prop)
def gz(ak off:Nat)(cs:List a5):Prop:=∀i(h:i<cs.length),w.cell? ⟨ak,off+i,none⟩=some cs[i]
mutual
def aS:PV->List a5->Prop
 | .undef,_| .aD _,_=>False
 | .bool b,cs=>cs=[.bool b]
 | .int k n,cs=>cs=[.int k n]
 | .str s,cs=>∃bs:ByteArray,cs=[.string bs]/\s=bs.data.toList.map (·.toNat)
 | .dD,cs=>cs=[.pointer none]
 | .cr t,cs=>∃ak off ts,aS t ts/\aa ak/\gz w ak off ts/\cs=[.pointer (some ⟨ak,off,none⟩)]
 | .aF,cs=>cs=[.slice none 0 0]
 | .bI full es,cs=>∃ak off cap ai a,bc (cc es.length ai) es a/\(es≠[]->aa ak)/\gz w ak off a.flatten/\
  (full=true->cap=es.length)/\es.length<=cap/\∃sp,(sp=none\/cap=0)/\cs=[.slice (some ⟨ak,off,sp⟩) es.length cap]
 | .seq es,cs=>(es=[]/\cs=[.slice none 0 0])\/∃ak off cap ai a,bc (cc es.length ai) es a/\(es≠[]->aa ak)/\gz w ak off a.flatten/\
  es.length<=cap/\∃sp,(sp=none\/cap=0)/\cs=[.slice (some ⟨ak,off,sp⟩) es.length cap]
 | .fo,cs=>cs=[.map none]
 | .eK es,cs=>∃r h j,aa r/\w.heap[r]?=some (.map h j)/\cz es h.toList/\cs=[.map (some r)]
 | .func f first gU,cs=>∃i g,bn first i/\bn gU g/\cs=[.func (.func f) i.toArray g.toArray]
 | .gX,cs=>cs=[.nilFunc]
 | .fG,cs=>cs=[.nilIface]
 | .st u fs,cs=>∃l a,dH P u=some l/\bc l fs a/\cs=a.flatten
def bc:List Nat->List PV->List (List a5)->Prop
 |[],[],a=>a=[]
 |n::p,v::vs,a=>∃c cs,a=c::cs/\aS v c/\c.length=n/\bc p vs cs
 |_,_,_=>False
def aA:PV->a5->Prop
 | .undef,_=>True
 | .aD vs,v=>∃d,bn vs d/\v=.tuple d.toArray
 | .st u fs,v=>∃l a,dH P u=some l/\bc l fs a/\v=.agg a.flatten.toArray
 | .bool b,v=>v=.bool b
 | .int k n,v=>v=.int k n
 | .str s,v=>∃bs:ByteArray,v=.string bs/\s=bs.data.toList.map (·.toNat)
 | .dD,v=>v=.pointer none
 | .cr t,v=>∃ak off ts,aS t ts/\aa ak/\gz w ak off ts/\v=.pointer (some ⟨ak,off,none⟩)
 | .aF,v=>v=.slice none 0 0
 | .bI full es,v=>∃ak off cap ai a,bc (cc es.length ai) es a/\(es≠[]->aa ak)/\gz w ak off a.flatten/\
  (full=true->cap=es.length)/\es.length<=cap/\∃sp,(sp=none\/cap=0)/\v=.slice (some ⟨ak,off,sp⟩) es.length cap
 | .seq es,v=>(es=[]/\v= .slice none 0 0)\/∃ak off cap ai a,bc (cc es.length ai) es a/\(es≠[]->aa ak)/\gz w ak off a.flatten/\
  es.length<=cap/\∃sp,(sp=none\/cap=0)/\v=.slice (some ⟨ak,off,sp⟩) es.length cap
 | .fo,v=>v=.map none
 | .eK es,v=>∃r h j,aa r/\w.heap[r]?=some (.map h j)/\cz es h.toList/\v=.map (some r)
 | .func f first gU,v=>∃i g,bn first i/\bn gU g/\v=.func (.func f) i.toArray g.toArray
 | .gX,v=>v=.nilFunc
 | .fG,v=>v=.nilIface
def bn:List PV->List a5->Prop
 |[],d=>d=[]
 |v::vs,d=>∃y o,d=y::o/\aA v y/\bn vs o
def cz:List (PV×PV)->List bl->Prop
 |[],es=>es=[]
 |(k,v)::r,es=>∃e m,es=e::m/\aA k e.key/\aA v e.val/\cz r m
end
end relation
class Gl where
 g:Nat->PV
 u8:a1
 raw:Nat->Option (Array a5)
 bx:a1->Option a1
def iV[Gl](T:a1)(s:iZ):Bool:=match s with
 | .agg u=>match Gl.bx u with
  |some a=>Nat.beq T a
  |none=>true
 |_=>true
structure mb[Gl](P:a0)(w:a7)(aa:Nat->Prop):Prop where
 val:∀g,aA P w aa (Gl.g g) (.pointer (some ⟨g,0,none⟩))
 raw:∀g cs,Gl.raw g=some cs->aa g/\∃T,w.heap[g]?=some (.cells cs T (0,0))
end Go.al
namespace Go.al
variable[Gl]
structure Bd where
 ak:Nat->Nat
 cap:Nat->Nat
def fN(P:a0):List (a1×Nat)->Option Nat
 |[]=>some 0
 |(u,i)::r=>
  match dH P u,fN P r with
  |some l,some o=>if i<l.length then some ((l.take i).sum+o)else none
  |_,_=>none
def Obj.tI:Obj->Prop
 | .map _ _| .dm _ _=>True
 |_=>False
section
variable(P:a0)(w:a7)(aa:Nat->Prop)(β:Bd)(H:Heap)
def l9(b:Nat):Prop:=∃fz t,H[b]?=some (.box fz t)
def eA(b ar ai:Nat)(k:AK)(a:List AV):Prop:=H[b]?=some (.arr k ar ai a)
def c7(k:AK)(a:List AV):Prop:=k.gr=true/\a=[]
def nw(b:Nat):Prop:=∃o,H[b]?=some o/\o.tI
def ma(b:Nat):Prop:=(∃s pos,H[b]?=some (.dv s pos))
def gA(b:Nat):Prop:=(∃L,H[b]?=some (.loop L))
def bO:AV->a5->Prop
 | .ptr b path,v=>∃ak off o,v=.pointer (some ⟨ak,off,none⟩)/\fN P path=some o/\(l9 H b\/ma H b->ak=β.ak b/\off=o)
 | .b6 b ar ai i path,v=>∃ak off o,v=.pointer (some ⟨ak,off,none⟩)/\fN P path=some o/\∀k a,eA H b ar ai k a->¬c7 k a->ak=β.ak b/\off=i*ai+o
 | .sl b ar ai off len,v=>∀k a,eA H b ar ai k a->
  off+len<=a.length/\(c7 k a->v=.slice none 0 0)/\(¬c7 k a->v=.slice (some ⟨β.ak b,off*ai,none⟩) len (β.cap b-off))
 | .map b,v=>(nw H b->v=.map (some (β.ak b)))/\(gA H b->v=.func (.yield (β.ak b)) #[] #[])
 |_,_=>False
def bK(v:AV)(x:a5):Prop:=x.oneCell'=true/\bO P β H v x
mutual
def bm:AV->List a5->Prop
 | .p t,cs=>aS P w aa t cs
 | .st u fs,cs=>∃l a,dH P u=some l/\bJ l fs a/\cs=a.flatten
 | .func f first gU,cs=>∃e d,bw first e/\bw gU d/\cs=[.func (.func f) e.toArray d.toArray]
 | .aD _,_=>False
 | .ptr b path,cs=>∃v,cs=[v]/\bK P β H (.ptr b path) v
 | .b6 b ar ai i path,cs=>∃v,cs=[v]/\bK P β H (.b6 b ar ai i path) v
 | .sl b ar ai off len,cs=>∃v,cs=[v]/\bK P β H (.sl b ar ai off len) v
 | .map b,cs=>∃v,cs=[v]/\bK P β H (.map b) v
def bJ:List Nat->List AV->List (List a5)->Prop
 |[],[],a=>a=[]
 |n::h,v::vs,a=>∃c cs,a=c::cs/\bm v c/\c.length=n/\bJ h vs cs
 |_,_,_=>False
def aw:AV->a5->Prop
 | .p t,v=>aA P w aa t v
 | .st u fs,v=>∃l a,dH P u=some l/\bJ l fs a/\v=.agg a.flatten.toArray
 | .func f first gU,v=>∃e d,bw first e/\bw gU d/\v=.func (.func f) e.toArray d.toArray
 | .aD vs,v=>∃xs,bw vs xs/\v=.tuple xs.toArray
 | .ptr b path,v=>bK P β H (.ptr b path) v
 | .b6 b ar ai i path,v=>bK P β H (.b6 b ar ai i path) v
 | .sl b ar ai off len,v=>bK P β H (.sl b ar ai off len) v
 | .map b,v=>bK P β H (.map b) v
def bw:List AV->List a5->Prop
 |[],xs=>xs=[]
 |v::vs,xs=>∃y g,xs=y::g/\aw v y/\bw vs g
end
mutual
def aB(n:Nat×Nat->Prop):AV->Prop
 | .p _=>True
 | .ptr b _| .map b=>n (b,0)
 | .b6 b ar _ _ _| .sl b ar _ _ _=>n (b,ar)
 | .func _ first gU=>aQ n first/\aQ n gU
 | .st _ fs=>aQ n fs
 | .aD vs=>aQ n vs
def aQ(n:Nat×Nat->Prop):List AV->Prop
 |[]=>True
 |v::vs=>aB n v/\aQ n vs
end
def Obj.has:Obj->Nat->Prop
 | .hole,_=>False
 | .arr _ ar _ _,v=>v<=ar
 |_,_=>True
def aG(H:Heap)(x:Nat×Nat):Prop:=∃o,H[x.1]?=some o/\o.has x.2
def AV.qN:AV->Prop
 | .p _=>True
 |_=>False
def Obj.refs(n:Nat×Nat->Prop):Obj->Prop
 | .box _ t=>aB n t
 | .arr _ _ _ es=>aQ n es
 | .dm _ vs=>aQ n vs
 | .loop L=>∀x,aB n (aN L.env x)
 |_=>True
def Obj.live:Obj->Prop
 | .hole| .dead=>False
 | .arr k _ _ es=>¬c7 k es
 |_=>True
variable(ah:Nat->Prop)
def cw(fz:Bool)(b:Nat):Prop:=if fz then aa (β.ak b)else¬aa (β.ak b)/\¬ah (β.ak b)
def eQ(b:Nat):Obj->Prop
 | .hole| .dead=>True
 | .box fz t=>∃cs T,w.heap[β.ak b]?=some (.cells cs T (0,0))/\bm P w aa β H t cs.toList/\cw aa β ah fz b/\(fz=true->t.qN)/\iV T (ad t)=true
 | .arr k _ver ai es=>c7 k es\/
  ∃cs T d f,w.heap[β.ak b]?=some (.cells cs T (0,0))/\bJ P w aa β H (cc es.length ai) es d/\cs.toList=d.flatten++f/\
   cs.size=β.cap b*ai/\es.length<=β.cap b/\(k=.exact->β.cap b=es.length)/\cw aa β ah (k== .frozen) b/\(k=.frozen->∀e∈es,e.qN)/\(k=.bytes->T=Gl.u8)
 | .map fz es=>∃a c,w.heap[β.ak b]?=some (.map a c)/\cz P w aa es a.toList/\cw aa β ah fz b
 | .dm ks vs=>∃a c,w.heap[β.ak b]?=some (.map a c)/\bn P w aa ks (a.toList.map (·.key))/\bw P w aa β H vs (a.toList.map (·.val))/\cw aa β ah false b
 | .dv s pos=>∃bs:ByteArray,w.heap[β.ak b]?=some (.stringIter bs pos)/\s=bs.data.toList.map (·.toNat)/\cw aa β ah false b
 | .loop L=>∃tmps defers fn,w.heap[β.ak b]?=some (.loop {state:=L.st,pending:=L.pending,fn,tmps,params:=L.params.toArray,assign:=L.assign,body:=L.body,defers})/\tmps.size=L.n/\
  (∀x,aw P w aa β H (aN L.env x) (tmps.getD x undef))/\cw aa β ah false b
structure bP:Prop where
 cE:∀b o,H[b]?=some o->eQ P w aa β H ah b o
 inj:∀b b' o o',H[b]?=some o->H[b']?=some o'->o.live->o'.live->¬aa (β.ak b)->β.ak b=β.ak b'->b=b'
 refs:∀(b:Nat)(o:Obj),H[b]?=some o->o.refs (aG H)
 bR:∀k,aa k->k<w.heap.size
 dS:∀k,ah k->k<w.heap.size
 gV:mb P w aa
end
structure Ext(ah aa:Nat->Prop)(w w':a7):Prop where
 size:w.heap.size<=w'.heap.size
 same:∀k,ah k\/aa k->w'.heap[k]?=w.heap[k]?
 io:w'.os=w.os/\w'.output=w.output
structure ch(β:Bd)(H:Heap)(aH:Bd)(H':Heap):Prop where
 box:∀b,aG H (b,0)->l9 H' b->l9 H b/\aH.ak b=β.ak b
 it:∀b,aG H (b,0)->ma H' b->ma H b/\aH.ak b=β.ak b
 map:∀b,aG H (b,0)->nw H' b->nw H b/\aH.ak b=β.ak b
 arr:∀b ar ai k es,aG H (b,ar)->eA H' b ar ai k es->∃k0 gl,eA H b ar ai k0 gl/\gl.length<=es.length/\(c7 k es↔c7 k0 gl)/\(¬c7 k es->aH.ak b=β.ak b/\aH.cap b=β.cap b)
 loop:∀b,aG H (b,0)->gA H' b->gA H b/\aH.ak b=β.ak b
theorem ch.refl(β:Bd)(H:Heap):ch β H β H:=
 ⟨fun _ _ h=>⟨h,rfl⟩,fun _ _ h=>⟨h,rfl⟩,fun _ _ h=>⟨h,rfl⟩,fun _ _ _ k a _ h=>⟨k,a,h,eb _,Iff.rfl,fun _=>⟨rfl,rfl⟩⟩,fun _ _ h=>⟨h,rfl⟩⟩
theorem Ext.refl(ah aa:Nat->Prop)(w:a7):Ext ah aa w w:=⟨eb _,fun _ _=>rfl,rfl,rfl⟩
section mono
variable{P:a0}{w w':a7}{aa aE:Nat->Prop}
theorem Vs{ak off:Nat}(h:w'.heap[ak]?=w.heap[ak]?):w'.cell? ⟨ak,off,none⟩=w.cell? ⟨ak,off,none⟩:=by
 simp[World.cell?,h]
theorem gz.same{ak off:Nat}{cs:List a5}(h:w'.heap[ak]?=w.heap[ak]?)(hc:gz w ak off cs):gz w' ak off cs:=
 fun i hi=>(Vs h).trans (hc i hi)
theorem tS{n:List Nat}{a:List (List a5)}(h:bc P w aa n [] a):a=[]:=by
 cases n<;>simp[bc]at h;exact h
theorem PZ{a:List PV}{v:a5}:aA P w aa (.seq a) v↔(a=[]/\aA P w aa .aF v)\/aA P w aa (.bI false a) v:=by
 simp[aA]
variable(hI:∀k,aa k->aE k)(hs:∀k,aa k->w'.heap[k]?=w.heap[k]?)
include hI hs
mutual
theorem aS.mono:∀(v:PV)(cs:List a5),aS P w aa v cs->aS P w' aE v cs
 | .undef,_,h| .aD _,_,h=>by simp[aS]at h
 | .bool _,_,h| .int _ _,_,h| .str _,_,h| .dD,_,h| .aF,_,h| .fo,_,h| .gX,_,h| .fG,_,h=>by simpa[aS]using h
 | .cr t,cs,h=>by
  simp only[aS]at h⊢;obtain⟨ak,off,ts,a,b,d,j⟩:=h;exact⟨ak,off,ts,aS.mono t ts a,hI _ b,d.same (hs _ b),j⟩
 | .bI full o,cs,h=>by
  simp only[aS]at h⊢;obtain⟨ak,off,cap,ai,g,a,b,d,j⟩:=h;refine⟨ak,off,cap,ai,g,bc.mono _ o g a,fun m=>hI _ (b m),?_,j⟩
  by_cases m:o=[]
  ·subst m;have:=tS a;subst this;intro i hi;simp at hi
  ·exact d.same (hs _ (b m))
 | .seq o,cs,h=>by
  simp only[aS]at h⊢;rcases h with h|⟨ak,off,cap,ai,g,a,b,d,j⟩
  ·exact .inl h
  refine .inr ⟨ak,off,cap,ai,g,bc.mono _ o g a,fun m=>hI _ (b m),?_,j⟩
  by_cases m:o=[]
  ·subst m;have:=tS a;subst this;intro i hi;simp at hi
  ·exact d.same (hs _ (b m))
 | .eK o,cs,h=>by
  simp only[aS]at h⊢;obtain⟨r,p,clock,a,b,d,j⟩:=h;exact⟨r,p,clock,hI _ a,(hs _ a).trans b,cz.mono o _ d,j⟩
 | .func f first gU,cs,h=>by
  simp only[aS]at h⊢;obtain⟨z,s,a,b,d⟩:=h;exact⟨z,s,bn.mono first z a,bn.mono gU s b,d⟩
 | .st u fs,cs,h=>by
  simp only[aS]at h⊢;obtain⟨l,g,a,b,d⟩:=h;exact⟨l,g,a,bc.mono l fs g b,d⟩
theorem bc.mono:∀(l:List Nat)(vs:List PV)(g:List (List a5)),bc P w aa l vs g->bc P w' aE l vs g
 |[],[],_,h=>by simpa[bc]using h
 |[],_::_,_,h=>by simp[bc]at h
 |_::_,[],_,h=>by simp[bc]at h
 |n::B,v::vs,g,h=>by
  simp only[bc]at h⊢;obtain⟨c,cs,a,b,d,j⟩:=h;exact⟨c,cs,a,aS.mono v c b,d,bc.mono B vs cs j⟩
theorem aA.mono:∀(v:PV)(x:a5),aA P w aa v x->aA P w' aE v x
 | .undef,_,h=>by simp[aA]
 | .aD vs,x,h=>by
  simp only[aA]at h⊢;obtain⟨q,a,b⟩:=h;exact⟨q,bn.mono vs q a,b⟩
 | .bool _,_,h| .int _ _,_,h| .str _,_,h| .dD,_,h| .aF,_,h| .fo,_,h| .gX,_,h| .fG,_,h=>by simpa[aA]using h
 | .cr t,cs,h=>by
  simp only[aA]at h⊢;obtain⟨ak,off,ts,a,b,d,j⟩:=h;exact⟨ak,off,ts,aS.mono t ts a,hI _ b,d.same (hs _ b),j⟩
 | .bI full o,cs,h=>by
  simp only[aA]at h⊢;obtain⟨ak,off,cap,ai,g,a,b,d,j⟩:=h;refine⟨ak,off,cap,ai,g,bc.mono _ o g a,fun m=>hI _ (b m),?_,j⟩
  by_cases m:o=[]
  ·subst m;have:=tS a;subst this;intro i hi;simp at hi
  ·exact d.same (hs _ (b m))
 | .seq o,cs,h=>by
  simp only[aA]at h⊢;rcases h with h|⟨ak,off,cap,ai,g,a,b,d,j⟩
  ·exact .inl h
  refine .inr ⟨ak,off,cap,ai,g,bc.mono _ o g a,fun m=>hI _ (b m),?_,j⟩
  by_cases m:o=[]
  ·subst m;have:=tS a;subst this;intro i hi;simp at hi
  ·exact d.same (hs _ (b m))
 | .eK o,cs,h=>by
  simp only[aA]at h⊢;obtain⟨r,p,clock,a,b,d,j⟩:=h;exact⟨r,p,clock,hI _ a,(hs _ a).trans b,cz.mono o _ d,j⟩
 | .func f first gU,cs,h=>by
  simp only[aA]at h⊢;obtain⟨z,s,a,b,d⟩:=h;exact⟨z,s,bn.mono first z a,bn.mono gU s b,d⟩
 | .st u fs,cs,h=>by
  simp only[aA]at h⊢;obtain⟨l,g,a,b,d⟩:=h;exact⟨l,g,a,bc.mono l fs g b,d⟩
theorem bn.mono:∀(vs:List PV)(q:List a5),bn P w aa vs q->bn P w' aE vs q
 |[],_,h=>by simpa[bn]using h
 |v::vs,q,h=>by
  simp only[bn]at h⊢;obtain⟨y,A,a,b,d⟩:=h;exact⟨y,A,a,aA.mono v y b,bn.mono vs A d⟩
theorem cz.mono:∀(o:List (PV×PV))(p:List bl),cz P w aa o p->cz P w' aE o p
 |[],_,h=>by simpa[cz]using h
 |(k,v)::r,p,h=>by
  simp only[cz]at h⊢;obtain⟨e,rest,a,b,d,j⟩:=h;exact⟨e,rest,a,aA.mono k _ b,aA.mono v _ d,cz.mono r rest j⟩
end
theorem mb.mono(h:mb P w aa):mb P w' aE:=⟨fun g=>aA.mono hI hs _ _ (h.val g),fun g cs c=>by
 obtain⟨a,T,b⟩:=h.raw g cs c;exact⟨hI _ a,T,(hs _ a).trans b⟩⟩
variable{β aH:Bd}{H H':Heap}(aK:ch β H aH H')
include aK
omit hI hs in
theorem bO.mono:∀(v:AV)(x:a5),aB (aG H) v->bO P β H v x->bO P aH H' v x
 | .ptr b path,x,d,h=>by
  simp only[bO,aB]at*;obtain⟨ak,off,o,c,f,g⟩:=h;refine⟨ak,off,o,c,f,fun a=>?_⟩;rcases a with a|a
  ·obtain⟨k1,k2⟩:=aK.box b d a;rw[k2];exact g (.inl k1)
  ·obtain⟨k1,k2⟩:=aK.it b d a;rw[k2];exact g (.inr k1)
 | .b6 b ar ai i path,x,d,h=>by
  simp only[bO,aB]at*;obtain⟨ak,off,o,g1,g2,g3⟩:=h;refine⟨ak,off,o,g1,g2,fun k l a e=>?_⟩;obtain⟨k0,gl,c,f,g,j⟩:=aK.arr b ar ai k l d a;rw[(j e).1];exact g3 k0 gl c (fun hh=>e (g.2 hh))
 | .sl b ar ai off len,x,d,h=>by
  simp only[bO,aB]at*;intro k l a;obtain⟨k0,gl,c,f,g,j⟩:=aK.arr b ar ai k l d a;obtain⟨q,m,n⟩:=h k0 gl c;refine⟨by omega,fun e=>m (g.1 e),fun e=>?_⟩;rw[(j e).1,(j e).2];exact n (fun hh=>e (g.2 hh))
 | .map b,x,d,h=>by
  simp only[bO,aB]at*;refine⟨fun a=>?_,fun a=>?_⟩
  ·obtain⟨c,f⟩:=aK.map b d a;rw[f];exact h.1 c
  ·obtain⟨c,f⟩:=aK.loop b d a;rw[f];exact h.2 c
 | .p _,_,_,h| .st _ _,_,_,h| .func _ _ _,_,_,h| .aD _,_,_,h=>by simp[bO]at h
omit hI hs in
theorem bK.mono(v:AV)(x:a5)(a:aB (aG H) v)(h:bK P β H v x):bK P aH H' v x:=⟨h.1,bO.mono aK v x a h.2⟩
mutual
theorem bm.mono:∀(v:AV)(cs:List a5),aB (aG H) v->bm P w aa β H v cs->bm P w' aE aH H' v cs
 | .p t,cs,_,h=>by simp only[bm]at h⊢;exact aS.mono hI hs t cs h
 | .st u fs,cs,a,h=>by
  simp only[bm,aB]at*;obtain⟨l,j,d,e,g⟩:=h;exact⟨l,j,d,bJ.mono l fs j a e,g⟩
 | .func f first gU,cs,a,h=>by
  simp only[bm,aB]at*;obtain⟨m,k,d,e,g⟩:=h;exact⟨m,k,bw.mono first m a.1 d,bw.mono gU k a.2 e,g⟩
 | .aD _,_,_,h=>by simp[bm]at h
 | .ptr b path,cs,a,h=>by
  simp only[bm]at*;obtain⟨v,d,e⟩:=h;exact⟨v,d,bK.mono aK _ _ a e⟩
 | .b6 b ar ai i path,cs,a,h=>by
  simp only[bm]at*;obtain⟨v,d,e⟩:=h;exact⟨v,d,bK.mono aK _ _ a e⟩
 | .sl b ar ai off len,cs,a,h=>by
  simp only[bm]at*;obtain⟨v,d,e⟩:=h;exact⟨v,d,bK.mono aK _ _ a e⟩
 | .map b,cs,a,h=>by
  simp only[bm]at*;obtain⟨v,d,e⟩:=h;exact⟨v,d,bK.mono aK _ _ a e⟩
theorem bJ.mono:∀(l:List Nat)(vs:List AV)(j:List (List a5)),aQ (aG H) vs->bJ P w aa β H l vs j->bJ P w' aE aH H' l vs j
 |[],[],_,_,h=>by simpa[bJ]using h
 |[],_::_,_,_,h=>by simp[bJ]at h
 |_::_,[],_,_,h=>by simp[bJ]at h
 |n::r,v::vs,j,a,h=>by
  simp only[bJ,aQ]at*;obtain⟨c,cs,d,e,g,q⟩:=h;exact⟨c,cs,d,bm.mono v c a.1 e,g,bJ.mono r vs cs a.2 q⟩
theorem aw.mono:∀(v:AV)(x:a5),aB (aG H) v->aw P w aa β H v x->aw P w' aE aH H' v x
 | .p t,cs,_,h=>by simp only[aw]at h⊢;exact aA.mono hI hs t cs h
 | .st u fs,cs,a,h=>by
  simp only[aw,aB]at*;obtain⟨l,j,d,e,g⟩:=h;exact⟨l,j,d,bJ.mono l fs j a e,g⟩
 | .func f first gU,cs,a,h=>by
  simp only[aw,aB]at*;obtain⟨m,k,d,e,g⟩:=h;exact⟨m,k,bw.mono first m a.1 d,bw.mono gU k a.2 e,g⟩
 | .aD vs,cs,a,h=>by
  simp only[aw,aB]at*;obtain⟨xs,d,e⟩:=h;exact⟨xs,bw.mono vs xs a d,e⟩
 | .ptr b path,cs,a,h=>by simp only[aw]at*;exact bK.mono aK _ _ a h
 | .b6 b ar ai i path,cs,a,h=>by simp only[aw]at*;exact bK.mono aK _ _ a h
 | .sl b ar ai off len,cs,a,h=>by simp only[aw]at*;exact bK.mono aK _ _ a h
 | .map b,cs,a,h=>by simp only[aw]at*;exact bK.mono aK _ _ a h
theorem bw.mono:∀(vs:List AV)(xs:List a5),aQ (aG H) vs->bw P w aa β H vs xs->bw P w' aE aH H' vs xs
 |[],_,_,h=>by simpa[bw]using h
 |v::vs,xs,a,h=>by
  simp only[bw,aQ]at*;obtain⟨y,o,d,e,g⟩:=h;exact⟨y,o,d,aw.mono v y a.1 e,bw.mono vs o a.2 g⟩
end
end mono
def eB:List AV->Option (List PV)
 |[]=>some []
 | .p v::r=>match eB r with
  |some l=>some (v::l)
  |none=>none
 |_::_=>none
def gM(u:a1)(fs:List AV):AV:=
 match eB fs with
 |some l=>.p (.st u l)
 |none=>.st u fs
def kn:PV->List (a1×Nat)->Option PV
 |t,[]=>some t
 |t,(u,i)::r=>if aL t=.agg u then(match(cB t)[i]? with
  |some f=>kn f r
  |none=>none)else none
def eD:AV->List (a1×Nat)->Option AV
 |t,[]=>some t
 | .p t,(u,i)::r=>match kn t ((u,i)::r)with
  |some s=>some (.p s)
  |none=>none
 | .st u' fs,(u,i)::r=>if u'=u then(match fs[i]? with
  |some f=>eD f r
  |none=>none)else none
 |_,_=>none
def fD(t:AV)(b:List (a1×Nat))(x:AV):Option AV:=
 match b with
 |[]=>some x
 |(u,i)::r=>
  match t with
  | .p t=>if aL t=.agg u then(match(cB t)[i]? with
   |some f=>(match fD (.p f) r x with
    |some a=>some (gM u (((cB t).map .p).set i a))
    |none=>none)
   |none=>none)else none
  | .st u' fs=>if u'=u then(match fs[i]? with
   |some f=>(match fD f r x with
    |some a=>some (gM u (fs.set i a))
    |none=>none)
   |none=>none)else none
  |_=>none
section
variable{P:a0}{w:a7}{aa:Nat->Prop}{β:Bd}{H:Heap}
theorem tU:∀{l:List Nat}{vs:List PV}{a:List (List a5)},bc P w aa l vs a->a.map (·.length)=l/\vs.length=l.length/\a.length=l.length
 |[],[],_,h=>by simp[bc]at h;subst h;simp
 |[],_::_,_,h=>by simp[bc]at h
 |_::_,[],_,h=>by simp[bc]at h
 |n::f,v::vs,a,h=>by
  simp only[bc]at h;obtain⟨c,cs,rfl,e,b,d⟩:=h;have:=tU d;simp[b,this]
theorem wP:∀{l:List Nat}{vs:List AV}{a:List (List a5)},bJ P w aa β H l vs a->a.map (·.length)=l/\vs.length=l.length/\a.length=l.length
 |[],[],_,h=>by simp[bJ]at h;subst h;simp
 |[],_::_,_,h=>by simp[bJ]at h
 |_::_,[],_,h=>by simp[bJ]at h
 |n::f,v::vs,a,h=>by
  simp only[bJ]at h;obtain⟨c,cs,rfl,e,b,d⟩:=h;have:=wP d;simp[b,this]
theorem Ku{u:a1}{l:List Nat}(h:dH P u=some l):l.sum=P.cellsOf u/\∀n∈l,0<n:=by
 unfold dH at h
 split at h
 ·dsimp only at h
  split at h
  ·rename_i hc;simp at hc;obtain⟨⟨b,c⟩,d⟩:=hc;simp at h;subst h;refine⟨c,?_⟩;intro n a;simp at a;obtain⟨f,hf,rfl⟩:=a;obtain⟨i,hi,rfl⟩:=Array.mem_iff_getElem.1 hf;exact b i hi
  ·simp at h
 ·split at h
  ·rename_i hc;simp at hc;simp at h;subst h;refine⟨by simp[List.sum_replicate_nat,hc.2],?_⟩;intro n a;have:=List.eq_of_mem_replicate a;omega
  ·simp at h
 ·simp at h
theorem mW:∀{v:PV}{cs:List a5},aS P w aa v cs->cs.length=bF P (aL v)/\aL v≠.bad:=by
 intro v cs h;cases v<;>simp only[aS]at h
 case st u fs=>
  obtain⟨l,c,a,b,rfl⟩:=h;have:=tU b;simp[aL,bF,this.1,(Ku a).1]
 case str=>obtain⟨_,h,_⟩:=h;subst h;simp[aL,bF]
 case seq=>
  rcases h with⟨_,rfl⟩|⟨_,_,_,_,_,_,_,_,_,_,_,rfl⟩<;>simp[aL,bF]
 all_goals first
  |(subst h;simp[aL,bF])
  |(obtain⟨_,_,_,_,_,_,rfl⟩:=h;simp[aL,bF])
  |(obtain⟨_,_,_,_,_,rfl⟩:=h;simp[aL,bF])
  |(obtain⟨_,_,_,_,_,_,_,_,_,_,_,_,rfl⟩:=h;simp[aL,bF])
  |(obtain⟨_,_,_,_,_,_,_,rfl⟩:=h;simp[aL,bF])
  |(obtain⟨_,_,_,_,rfl⟩:=h;simp[aL,bF])
  |(obtain⟨_,h,_⟩:=h;subst h;simp[aL,bF])
  |exact h.elim
theorem ng{v:AV}{cs:List a5}(h:bm P w aa β H v cs):cs.length=bF P (ad v)/\ad v≠.bad:=by
 cases v<;>simp only[bm]at h
 case p t=>exact mW h
 case st u fs=>
  obtain⟨l,c,a,b,rfl⟩:=h;have:=wP b;simp[ad,bF,this.1,(Ku a).1]
 all_goals first
  |(obtain⟨_,rfl,_⟩:=h;simp[ad,bF])
  |(obtain⟨_,_,_,_,rfl⟩:=h;simp[ad,bF])
theorem rS{v:PV}(hs:aL v=.leaf)(cs:List a5):aS P w aa v cs↔∃c,cs=[c]/\aA P w aa v c:=by
 cases v<;>simp[aL]at hs<;>simp only[aS,aA]
 case bool|int|dD|aF|fo|gX|fG=>exact⟨fun h=>⟨_,h,rfl⟩,fun⟨c,g,i⟩=>by rw[g,i]⟩
 case str s=>exact⟨fun⟨bs,g,i⟩=>⟨_,g,bs,rfl,i⟩,fun⟨c,g,bs,i,j⟩=>⟨bs,by rw[g,i],j⟩⟩
 case cr t=>exact⟨fun⟨a,b,c,g,i,j,k⟩=>⟨_,k,a,b,c,g,i,j,rfl⟩,fun⟨v,g,a,b,c,i,j,k,l⟩=>⟨a,b,c,i,j,k,by rw[g,l]⟩⟩
 case bI f es=>exact⟨fun⟨a,b,c,d,e,g,i,j,k,l,sp,n,m⟩=>⟨_,m,a,b,c,d,e,g,i,j,k,l,sp,n,rfl⟩,fun⟨v,h,a,b,c,d,e,g,i,j,k,l,sp,n,m⟩=>⟨a,b,c,d,e,g,i,j,k,l,sp,n,by rw[h,m]⟩⟩
 case seq es=>
  constructor
  ·rintro(⟨g,i⟩|⟨a,b,c,d,e,g,i,j,l,sp,n,m⟩)
   ·exact⟨_,i,.inl ⟨g,rfl⟩⟩
   ·exact⟨_,m,.inr ⟨a,b,c,d,e,g,i,j,l,sp,n,rfl⟩⟩
  ·rintro⟨v,h,(⟨g,i⟩|⟨a,b,c,d,e,g,i,j,l,sp,n,m⟩)⟩
   ·exact .inl ⟨g,by rw[h,i]⟩
   ·exact .inr ⟨a,b,c,d,e,g,i,j,l,sp,n,by rw[h,m]⟩
 case eK es=>exact⟨fun⟨a,b,c,g,i,j,k⟩=>⟨_,k,a,b,c,g,i,j,rfl⟩,fun⟨v,h,a,b,c,g,i,j,k⟩=>⟨a,b,c,g,i,j,by rw[h,k]⟩⟩
 case func f x y=>exact⟨fun⟨a,b,g,i,j⟩=>⟨_,j,a,b,g,i,rfl⟩,fun⟨v,h,a,b,g,i,j⟩=>⟨a,b,g,i,by rw[h,j]⟩⟩
theorem uP{v:PV}{u:a1}(hs:aL v=.agg u)(cs:List a5):aS P w aa v cs↔aA P w aa v (.agg cs.toArray):=by
 cases v<;>simp[aL]at hs;subst hs;simp only[aS,aA];constructor
 ·rintro⟨l,a,b,c,rfl⟩;exact⟨l,a,b,c,rfl⟩
 ·rintro⟨l,a,b,c,d⟩;refine⟨l,a,b,c,?_⟩;injection d with d;simpa using congrArg ay d
theorem Bu{v:AV}(hs:ad v=.leaf)(cs:List a5):bm P w aa β H v cs↔∃c,cs=[c]/\aw P w aa β H v c:=by
 cases v<;>simp[ad]at hs<;>simp only[bm,aw]
 case p t=>exact rS hs cs
 case func f x y=>exact⟨fun⟨a,b,d,e,g⟩=>⟨_,g,a,b,d,e,rfl⟩,fun⟨v,h,a,b,d,e,g⟩=>⟨a,b,d,e,by rw[h,g]⟩⟩
theorem Lu{v:AV}{u:a1}(hs:ad v=.agg u)(cs:List a5):bm P w aa β H v cs↔aw P w aa β H v (.agg cs.toArray):=by
 cases v<;>simp[ad]at hs
 case p t=>simp only[bm,aw];exact uP hs cs
 case st u' fs=>
  subst hs;simp only[bm,aw];constructor
  ·rintro⟨l,a,b,c,rfl⟩;exact⟨l,a,b,c,rfl⟩
  ·rintro⟨l,a,b,c,d⟩;refine⟨l,a,b,c,?_⟩;injection d with d;simpa using congrArg ay d
theorem xj{v:AV}{x:a5}(h:aw P w aa β H v x)(hs:ad v≠.bad):bm P w aa β H v x.cells.toList:=by
 cases a:ad v with
 |bad=>exact absurd a hs
 |leaf=>
  rw[Bu a];refine⟨x,?_,h⟩;cases v<;>simp[ad]at a<;>simp only[aw]at h
  case p t=>
   cases t<;>simp[aL]at a<;>simp only[aA]at h
   case bool|int|dD|aF|fo|gX|fG=>subst h;rfl
   case str=>obtain⟨_,rfl,_⟩:=h;rfl
   case cr=>obtain⟨_,_,_,_,_,_,rfl⟩:=h;rfl
   case bI=>obtain⟨_,_,_,_,_,_,_,_,_,_,_,_,rfl⟩:=h;rfl
   case seq=>rcases h with⟨_,rfl⟩|⟨_,_,_,_,_,_,_,_,_,_,_,rfl⟩<;>rfl
   case eK=>obtain⟨_,_,_,_,_,_,rfl⟩:=h;rfl
   case func=>obtain⟨_,_,_,_,rfl⟩:=h;rfl
  case func=>obtain⟨_,_,_,_,rfl⟩:=h;rfl
  all_goals (have b:=h.1;cases x<;>first|rfl|(simp[Value.oneCell']at b))
 |agg u=>
  cases v<;>simp[ad]at a
  case p t=>
   cases t<;>simp[aL]at a;simp only[aw,aA]at h;obtain⟨l,c,b,d,rfl⟩:=h;simp only[bm,aS];exact⟨l,c,b,d,by simp[Value.cells]⟩
  case st u' fs=>
   simp only[aw]at h;obtain⟨l,c,b,d,rfl⟩:=h;simp only[bm];exact⟨l,c,b,d,by simp[Value.cells]⟩
end
mutual
def Wk:PV->PV->Prop
 | .undef,v=>v=.undef
 | .bool b,v=>v=.bool b
 | .int k n,v=>v=.int k n
 | .str s,v=>v=.str s
 | .dD,v=>v=.dD
 | .fo,v=>v=.fo
 | .gX,v=>v=.gX
 | .fG,v=>v=.fG
 | .aF,v=>v=.aF\/v=.seq []
 | .cr t,v=>match v with
  | .cr h=>Wk t h
  |_=>False
 | .bI f es,v=>match v with
  | .bI g fs=>(g=true->f=true)/\bB es fs
  | .seq fs=>bB es fs
  |_=>False
 | .seq es,v=>match v with
  | .seq fs=>bB es fs
  |_=>False
 | .eK es,v=>match v with
  | .eK fs=>kr es fs
  |_=>False
 | .func f a b,v=>match v with
  | .func g c d=>f=g/\bB a c/\bB b d
  |_=>False
 | .st u es,v=>match v with
  | .st u' fs=>u=u'/\bB es fs
  |_=>False
 | .aD es,v=>match v with
  | .aD fs=>bB es fs
  |_=>False
def bB:List PV->List PV->Prop
 |[],fs=>fs=[]
 |v::vs,fs=>match fs with
  |f::fs=>Wk v f/\bB vs fs
  |[]=>False
def kr:List (PV×PV)->List (PV×PV)->Prop
 |[],fs=>fs=[]
 |(k,v)::vs,fs=>match fs with
  |(e,f)::fs=>k=e/\Wk v f/\kr vs fs
  |[]=>False
end
mutual
theorem Wk.refl:∀v,Wk v v
 | .undef| .bool _| .int _ _| .str _| .dD| .fo| .gX| .fG=>by simp[Wk]
 | .aF=>by simp[Wk]
 | .cr t=>by simp only[Wk];exact Wk.refl t
 | .bI f c=>by simp only[Wk];exact⟨id,bB.refl c⟩
 | .seq c=>by simp only[Wk];exact bB.refl c
 | .eK c=>by simp only[Wk];exact kr.refl c
 | .func f a b=>by simp only[Wk];exact⟨trivial,bB.refl a,bB.refl b⟩
 | .st u c=>by simp only[Wk];exact⟨trivial,bB.refl c⟩
 | .aD c=>by simp only[Wk];exact bB.refl c
theorem bB.refl:∀vs,bB vs vs
 |[]=>by simp[bB]
 |v::vs=>by simp only[bB];exact⟨Wk.refl v,bB.refl vs⟩
theorem kr.refl:∀c,kr c c
 |[]=>by simp[kr]
 |(k,v)::vs=>by simp only[kr];exact⟨trivial,Wk.refl v,kr.refl vs⟩
end
theorem bB.length:∀{es fs:List PV},bB es fs->fs.length=es.length
 |[],fs,h=>by simp only[bB]at h;subst h;rfl
 |v::vs,fs,h=>by
  cases fs with
  |nil=>simp[bB]at h
  |cons f fs=>simp only[bB]at h;simp[bB.length h.2]
theorem bB.oC{a fs:List PV}(h:bB a fs):fs=[]↔a=[]:=by
 have:=h.length;rw[<-da,<-da,this]
theorem Wk.aL:∀{v v':PV},Wk v v'->al.aL v'=al.aL v
 | .undef,v',h| .bool _,v',h| .int _ _,v',h| .str _,v',h| .dD,v',h| .fo,v',h| .gX,v',h| .fG,v',h=>by simp only[Wk]at h;subst h;rfl
 | .aF,v',h=>by simp only[Wk]at h;rcases h with rfl|rfl<;>rfl
 | .cr _,v',h| .bI _ _,v',h| .seq _,v',h| .eK _,v',h| .func _ _ _,v',h| .aD _,v',h=>by cases v'<;>simp only[Wk]at h<;>rfl
 | .st _ _,v',h=>by
  cases v'<;>simp only[Wk]at h;simp[al.aL,h.1]
section
variable{P:a0}{w:a7}{aa:Nat->Prop}
mutual
theorem aS.cW:∀(v v':PV)(cs:List a5),Wk v v'->aS P w aa v cs->aS P w aa v' cs
 | .undef,v',cs,h,hc| .bool _,v',cs,h,hc| .int _ _,v',cs,h,hc| .str _,v',cs,h,hc| .dD,v',cs,h,hc| .fo,v',cs,h,hc| .gX,v',cs,h,hc| .fG,v',cs,h,hc=>by simp only[Wk]at h;subst h;exact hc
 | .aF,v',cs,h,hc=>by
  simp only[Wk]at h;rcases h with rfl|rfl
  ·exact hc
  ·simp only[aS]at hc⊢;exact .inl ⟨trivial,hc⟩
 | .cr t,v',cs,h,hc=>by
  cases v'<;>simp only[Wk]at h;simp only[aS]at hc⊢;obtain⟨ak,off,ts,d,i⟩:=hc;exact⟨ak,off,ts,aS.cW _ _ _ h d,i⟩
 | .bI f o,v',cs,h,hc=>by
  cases v' with
  |bI g fs=>
   simp only[Wk]at h;simp only[aS]at hc⊢;obtain⟨ak,off,cap,ai,m,d,i,j,p,q,s⟩:=hc;have z:=h.2.length;rw[z];exact⟨ak,off,cap,ai,m,bc.cW _ _ _ _ h.2 d,fun A=>i (fun e=>A (h.2.oC.2 e)),j,fun e=>p (h.1 e),q,s⟩
  |seq fs=>
   simp only[Wk]at h;simp only[aS]at hc⊢;obtain⟨ak,off,cap,ai,m,d,i,j,p,q,s⟩:=hc;have z:=h.length;rw[z];exact .inr ⟨ak,off,cap,ai,m,bc.cW _ _ _ _ h d,fun A=>i (fun e=>A (h.oC.2 e)),j,q,s⟩
  |_=>simp only[Wk]at h
 | .seq o,v',cs,h,hc=>by
  cases v'<;>simp only[Wk]at h;simp only[aS]at hc⊢;rcases hc with⟨d,i⟩|⟨ak,off,cap,ai,m,d,i,j,q,s⟩
  ·exact .inl ⟨h.oC.2 d,i⟩
  ·have z:=h.length;rw[z];exact .inr ⟨ak,off,cap,ai,m,bc.cW _ _ _ _ h d,fun A=>i (fun e=>A (h.oC.2 e)),j,q,s⟩
 | .eK o,v',cs,h,hc=>by
  cases v'<;>simp only[Wk]at h;simp only[aS]at hc⊢;obtain⟨r,C,clock,d,i,j,p⟩:=hc;exact⟨r,C,clock,d,i,cz.cW _ _ _ h j,p⟩
 | .func f a b,v',cs,h,hc=>by
  cases v'<;>simp only[Wk]at h;obtain⟨rfl,F,G⟩:=h;simp only[aS]at hc⊢;obtain⟨E,D,d,i,j⟩:=hc;exact⟨E,D,bn.cW _ _ _ F d,bn.cW _ _ _ G i,j⟩
 | .st u o,v',cs,h,hc=>by
  cases v'<;>simp only[Wk]at h;obtain⟨rfl,h⟩:=h;simp only[aS]at hc⊢;obtain⟨l,m,d,i,j⟩:=hc;exact⟨l,m,d,bc.cW _ _ _ _ h i,j⟩
 | .aD o,v',cs,h,hc=>by simp[aS]at hc
theorem bc.cW:∀(l:List Nat)(o fs:List PV)(m:List (List a5)),bB o fs->bc P w aa l o m->bc P w aa l fs m
 |l,[],fs,m,h,hc=>by simp only[bB]at h;subst h;exact hc
 |l,v::vs,fs,m,h,hc=>by
  cases fs with
  |nil=>simp[bB]at h
  |cons f fs=>
   simp only[bB]at h;cases l with
   |nil=>simp[bc]at hc
   |cons n l=>
    simp only[bc]at hc⊢;obtain⟨c,cs,d,i,j,p⟩:=hc;exact⟨c,cs,d,aS.cW _ _ _ h.1 i,j,bc.cW _ _ _ _ h.2 p⟩
theorem aA.cW:∀(v v':PV)(x:a5),Wk v v'->aA P w aa v x->aA P w aa v' x
 | .undef,v',cs,h,hc| .bool _,v',cs,h,hc| .int _ _,v',cs,h,hc| .str _,v',cs,h,hc| .dD,v',cs,h,hc| .fo,v',cs,h,hc| .gX,v',cs,h,hc| .fG,v',cs,h,hc=>by simp only[Wk]at h;subst h;exact hc
 | .aF,v',cs,h,hc=>by
  simp only[Wk]at h;rcases h with rfl|rfl
  ·exact hc
  ·simp only[aA]at hc⊢;exact .inl ⟨trivial,hc⟩
 | .cr t,v',cs,h,hc=>by
  cases v'<;>simp only[Wk]at h;simp only[aA]at hc⊢;obtain⟨ak,off,ts,d,i⟩:=hc;exact⟨ak,off,ts,aS.cW _ _ _ h d,i⟩
 | .bI f o,v',cs,h,hc=>by
  cases v' with
  |bI g fs=>
   simp only[Wk]at h;simp only[aA]at hc⊢;obtain⟨ak,off,cap,ai,m,d,i,j,p,q,s⟩:=hc;have z:=h.2.length;rw[z];exact⟨ak,off,cap,ai,m,bc.cW _ _ _ _ h.2 d,fun A=>i (fun e=>A (h.2.oC.2 e)),j,fun e=>p (h.1 e),q,s⟩
  |seq fs=>
   simp only[Wk]at h;simp only[aA]at hc⊢;obtain⟨ak,off,cap,ai,m,d,i,j,p,q,s⟩:=hc;have z:=h.length;rw[z];exact .inr ⟨ak,off,cap,ai,m,bc.cW _ _ _ _ h d,fun A=>i (fun e=>A (h.oC.2 e)),j,q,s⟩
  |_=>simp only[Wk]at h
 | .seq o,v',cs,h,hc=>by
  cases v'<;>simp only[Wk]at h;simp only[aA]at hc⊢;rcases hc with⟨d,i⟩|⟨ak,off,cap,ai,m,d,i,j,q,s⟩
  ·exact .inl ⟨h.oC.2 d,i⟩
  ·have z:=h.length;rw[z];exact .inr ⟨ak,off,cap,ai,m,bc.cW _ _ _ _ h d,fun A=>i (fun e=>A (h.oC.2 e)),j,q,s⟩
 | .eK o,v',cs,h,hc=>by
  cases v'<;>simp only[Wk]at h;simp only[aA]at hc⊢;obtain⟨r,C,clock,d,i,j,p⟩:=hc;exact⟨r,C,clock,d,i,cz.cW _ _ _ h j,p⟩
 | .func f a b,v',cs,h,hc=>by
  cases v'<;>simp only[Wk]at h;obtain⟨rfl,F,G⟩:=h;simp only[aA]at hc⊢;obtain⟨E,D,d,i,j⟩:=hc;exact⟨E,D,bn.cW _ _ _ F d,bn.cW _ _ _ G i,j⟩
 | .st u o,v',cs,h,hc=>by
  cases v'<;>simp only[Wk]at h;obtain⟨rfl,h⟩:=h;simp only[aA]at hc⊢;obtain⟨l,m,d,i,j⟩:=hc;exact⟨l,m,d,bc.cW _ _ _ _ h i,j⟩
 | .aD o,v',cs,h,hc=>by
  cases v'<;>simp only[Wk]at h;simp only[aA]at hc⊢;obtain⟨B,d,i⟩:=hc;exact⟨B,bn.cW _ _ _ h d,i⟩
theorem bn.cW:∀(o fs:List PV)(B:List a5),bB o fs->bn P w aa o B->bn P w aa fs B
 |[],fs,B,h,hc=>by simp only[bB]at h;subst h;exact hc
 |v::vs,fs,B,h,hc=>by
  cases fs with
  |nil=>simp[bB]at h
  |cons f fs=>
   simp only[bB]at h;simp only[bn]at hc⊢;obtain⟨y,H,d,i,j⟩:=hc;exact⟨y,H,d,aA.cW _ _ _ h.1 i,bn.cW _ _ _ h.2 j⟩
theorem cz.cW:∀(o fs:List (PV×PV))(C:List bl),kr o fs->cz P w aa o C->cz P w aa fs C
 |[],fs,B,h,hc=>by simp only[kr]at h;subst h;exact hc
 |(k,v)::vs,fs,B,h,hc=>by
  cases fs with
  |nil=>simp[kr]at h
  |cons f fs=>
   simp only[kr]at h;obtain⟨rfl,d,i⟩:=h;simp only[cz]at hc⊢;obtain⟨e,rest,e1,e2,e3,e4⟩:=hc;exact⟨e,rest,e1,e2,aA.cW _ _ _ d e3,cz.cW _ _ _ i e4⟩
end
end
section
variable{P:a0}{w:a7}{aa:Nat->Prop}{β:Bd}{H:Heap}
theorem lg:∀{fs:List AV}{l:List PV},eB fs=some l->fs=l.map .p
 |[],l,h=>by simp[eB]at h;subst h;rfl
 | .p v::r,l,h=>by
  simp only[eB]at h;cases a:eB r with
  |none=>simp[a]at h
  |some b=>simp[a]at h;subst h;simp[lg a]
 | .ptr ..::_,_,h| .b6 ..::_,_,h| .sl ..::_,_,h| .map ..::_,_,h| .func ..::_,_,h| .st ..::_,_,h| .aD ..::_,_,h=>by simp[eB]at h
theorem mZ:∀{l:List Nat}{fs:List PV}{a:List (List a5)},bJ P w aa β H l (fs.map .p) a↔bc P w aa l fs a
 |[],[],_=>by simp[bJ,bc]
 |[],_::_,_=>by simp[bJ,bc]
 |_::_,[],_=>by simp[bJ,bc]
 |n::g,v::vs,a=>by
  simp only[cy,bJ,bc,bm];constructor
  ·rintro⟨c,cs,b,d,e,f⟩;exact⟨c,cs,b,d,e,mZ.1 f⟩
  ·rintro⟨c,cs,b,d,e,f⟩;exact⟨c,cs,b,d,e,mZ.2 f⟩
theorem jf:∀{fs:List PV}{d:List a5},bw P w aa β H (fs.map .p) d↔bn P w aa fs d
 |[],_=>by simp[bw,bn]
 |v::vs,d=>by
  simp only[cy,bw,bn,aw];constructor
  ·rintro⟨y,e,a,b,c⟩;exact⟨y,e,a,b,jf.1 c⟩
  ·rintro⟨y,e,a,b,c⟩;exact⟨y,e,a,b,jf.2 c⟩
theorem Km{u:a1}{fs:List AV}{cs:List a5}:bm P w aa β H (gM u fs) cs↔bm P w aa β H (.st u fs) cs:=by
 unfold gM;cases h:eB fs with
 |none=>rfl
 |some l=>have:=lg h;subst this;simp[bm,aS,mZ]
theorem Wy{u:a1}{fs:List AV}{x:a5}:aw P w aa β H (gM u fs) x↔aw P w aa β H (.st u fs) x:=by
 unfold gM;cases h:eB fs with
 |none=>rfl
 |some l=>have:=lg h;subst this;simp[aw,aA,mZ]
theorem iM(n:Nat×Nat->Prop):∀l:List PV,aQ n (l.map .p)
 |[]=>by simp[aQ]
 |v::l=>by simp only[cy,aQ,aB,true_and];exact iM n l
theorem Ao{n:Nat×Nat->Prop}{u:a1}{fs:List AV}(h:aQ n fs):aB n (gM u fs):=by
 unfold gM;cases eB fs with
 |none=>exact h
 |some l=>simp[aB]
theorem cG{n:Nat×Nat->Prop}:∀{fs:List AV},aQ n fs↔∀v∈fs,aB n v
 |[]=>by simp[aQ]
 |v::vs=>by simp[aQ,cG (fs:=vs)]
theorem sc:∀{l:List Nat}{fs:List AV}{d:List (List a5)}{i:Nat}{f:AV},bJ P w aa β H l fs d->fs[i]?=some f->
 ∃pre c post,d.flatten=pre++c++post/\pre.length=(l.take i).sum/\i<l.length/\l[i]?=some c.length/\bm P w aa β H f c/\
  ∀b c',bm P w aa β H b c'->c'.length=c.length->∃a,a.flatten=pre++c'++post/\bJ P w aa β H l (fs.set i b) a
 |[],[],_,i,f,_,hf=>by simp at hf
 |[],_::_,_,_,_,h,_=>by simp[bJ]at h
 |_::_,[],_,_,_,h,_=>by simp[bJ]at h
 |n::m,v::vs,d,0,f,h,hf=>by
  simp only[bJ]at h;obtain⟨c,cs,rfl,g,e,j⟩:=h;simp at hf;subst hf;refine⟨[],c,cs.flatten,by simp,by simp,by simp,by simp[e],g,?_⟩;intro b c' hc k;exact⟨c'::cs,by simp,by simp only[dl,bJ];exact⟨c',cs,rfl,hc,by omega,j⟩⟩
 |n::m,v::vs,d,i+1,f,h,hf=>by
  simp only[bJ]at h;obtain⟨c,cs,rfl,g,e,j⟩:=h;simp at hf;obtain⟨pre,x,post,k1,k2,k3,k4,k5,k6⟩:=sc j hf;refine⟨c++pre,x,post,by simp[k1],by simp[k2,e],by simpa using k3,by simpa using k4,k5,?_⟩;intro b c' hc k;obtain⟨a,e1,e2⟩:=k6 b c' hc k;exact⟨c::a,by simp[e1],by simp only[List.set_cons_succ,bJ];exact⟨c,a,rfl,g,e,e2⟩⟩
theorem Jn{t:AV}{u:a1}{cs:List a5}(hs:ad t= .agg u)(h:bm P w aa β H t cs):
 ∃l fs a,dH P u=some l/\bJ P w aa β H l fs a/\cs=a.flatten/\(∀c,t=.p c->fs=(cB c).map .p)/\(∀u' g,t=.st u' g->fs=g/\u'=u):=by
 cases t<;>simp[ad]at hs
 case p t=>
  cases t<;>simp[aL]at hs;subst hs;simp only[bm,aS]at h;obtain⟨l,a,d,e,f⟩:=h;exact⟨l,_,a,d,mZ.2 e,f,fun c b=>by cases b;rfl,fun _ _ h=>by cases h⟩
 case st u' fs=>
  subst hs;simp only[bm]at h;obtain⟨l,a,d,e,f⟩:=h;exact⟨l,fs,a,d,e,f,(fun c b=>by cases b),(fun j i b=>by cases b;exact⟨rfl,rfl⟩)⟩
theorem ym{t:PV}{a:List (a1×Nat)}:eD (.p t) a=(kn t a).map .p:=by
 cases a with
 |nil=>rfl
 |cons x r=>obtain⟨u,i⟩:=x;simp only[eD];cases kn t ((u,i)::r)<;>rfl
theorem oB:∀{z:List (a1×Nat)}{t s:AV}{cs:List a5}{o:Nat},bm P w aa β H t cs->eD t z=some s->fN P z=some o->
 ∃n q post,cs=n++q++post/\n.length=o/\bm P w aa β H s q/\
  ∀x k a,fD t z x=some a->bm P w aa β H x k->k.length=q.length->bm P w aa β H a (n++k++post)
 |[],t,s,cs,o,h,hs,d=>by
  simp[fN]at d;subst d;simp[eD]at hs;subst hs;refine⟨[],cs,[],by simp,by simp,h,?_⟩;intro x k a hx y _;simp[fD]at hx;subst hx;simpa using y
 |(u,i)::r,t,s,cs,o,h,hs,d=>by
  simp only[fN]at d;cases m:dH P u with
  |none=>simp[m]at d
  |some l=>
   cases v:fN P r with
   |none=>simp[m,v]at d
   |some o'=>
    simp[m,v]at d;obtain⟨J,rfl⟩:=d
    have key:∃fs f,(∃j e,dH P u=some j/\bJ P w aa β H j fs e/\cs=e.flatten)/\fs[i]?=some f/\eD f r=some s/\
     (∀x a,fD t ((u,i)::r) x=some a->∃b,fD f r x=some b/\a=gM u (fs.set i b)):=by
     cases t
     case p t=>
      rw[ym]at hs;simp only[kn]at hs
      by_cases g:aL t=.agg u
      ·simp only[g,if_true]at hs;obtain⟨j,fs,e,k1,k2,k3,k4,_⟩:=Jn (t:=.p t) (by simpa[ad]using g) h;have:=k4 t rfl;subst this;cases hf:(cB t)[i]? with
       |none=>simp[hf]at hs
       |some f=>
        simp only[hf]at hs;refine⟨_,.p f,⟨j,e,k1,k2,k3⟩,by simp[hf],by rw[ym];exact hs,?_⟩;intro x a hx;simp only[fD,g,if_true,hf]at hx;cases hq:fD (.p f) r x with
        |none=>simp[hq]at hx
        |some b=>simp[hq]at hx;exact⟨b,rfl,hx.symm⟩
      ·simp[g]at hs
     case st u' fs=>
      simp only[eD]at hs
      by_cases g:u'=u
      ·subst g;simp only[if_true]at hs;obtain⟨j,D,e,k1,k2,k3,_,k4⟩:=Jn (t:=.st u' fs) rfl h;have:=(k4 _ _ rfl).1;subst this;cases hf:D[i]? with
       |none=>simp[hf]at hs
       |some f=>
        simp only[hf]at hs;refine⟨_,f,⟨j,e,k1,k2,k3⟩,hf,hs,?_⟩;intro x a hx;simp only[fD,if_true,hf]at hx;cases hq:fD f r x with
        |none=>simp[hq]at hx
        |some b=>simp[hq]at hx;exact⟨b,rfl,hx.symm⟩
      ·simp[g]at hs
     all_goals simp[eD]at hs
    obtain⟨fs,f,⟨j,e,k1,k2,k3⟩,hf,F,aJ⟩:=key;rw[m]at k1;cases k1;obtain⟨n,c,post,e1,e2,e3,e4,e5,C⟩:=sc k2 hf;obtain⟨I,q,G,g1,g2,g3,g4⟩:=oB e5 F v;refine⟨n++I,q,G++post,by rw[k3,e1,g1];simp,by simp[e2,g2],g3,?_⟩;intro x k a hx y A;obtain⟨b,E,rfl⟩:=aJ x a hx;have aR:=g4 x k b E y A;obtain⟨B,c1,c2⟩:=C b _ aR (by rw[g1];simp[A]);rw[Km];simp only[bm];exact⟨l,B,m,c2,by rw[c1];simp⟩
theorem xK{path:List (a1×Nat)}{t s:PV}{cs:List a5}{o:Nat}(h:aS P w aa t cs)(hs:kn t path=some s)(f:fN P path=some o):
 ∃a b post,cs=a++b++post/\a.length=o/\aS P w aa s b:=by
 obtain⟨a,b,post,c,d,e,_⟩:=oB (β:=⟨id,id⟩) (H:=[]) (t:=.p t) (s:=.p s) (by simpa[bm]using h) (by rw[ym,hs];rfl) f;exact⟨a,b,post,c,d,by simpa[bm]using e⟩
theorem ur{n:Nat×Nat->Prop}:∀{a:List (a1×Nat)}{t s:AV},eD t a=some s->aB n t->aB n s
 |[],t,s,hs,h=>by simp[eD]at hs;subst hs;exact h
 |(u,i)::r,.p t,s,hs,h=>by
  rw[ym]at hs;cases hq:kn t ((u,i)::r)with
  |none=>simp[hq]at hs
  |some q=>simp[hq]at hs;subst hs;simp[aB]
 |(u,i)::r,.st u' fs,s,hs,h=>by
  simp only[eD]at hs
  split at hs
  ·split at hs
   ·rename_i f hf;simp only[aB]at h;exact ur hs (cG.1 h f (dg hf))
   ·simp at hs
  ·simp at hs
 |_::_,.ptr ..,_,hs,_|_::_,.b6 ..,_,hs,_|_::_,.sl ..,_,hs,_|_::_,.map ..,_,hs,_|_::_,.func ..,_,hs,_|_::_,.aD ..,_,hs,_=>by simp[eD]at hs
theorem uu{n:Nat×Nat->Prop}:∀{e:List (a1×Nat)}{t b x:AV},fD t e x=some b->aB n t->aB n x->aB n b
 |[],t,b,x,hs,h,hx=>by simp[fD]at hs;subst hs;exact hx
 |(u,i)::r,.p t,b,x,hs,h,hx=>by
  simp only[fD]at hs
  split at hs
  ·split at hs
   ·split at hs
    ·rename_i f hf d c;simp at hs;subst hs;refine Ao (cG.2 ?_);intro v a;rcases c9 a with a|rfl
     ·exact cG.1 (iM n _) v a
     ·exact uu c (by simp[aB]) hx
    ·simp at hs
   ·simp at hs
  ·simp at hs
 |(u,i)::r,.st u' fs,b,x,hs,h,hx=>by
  simp only[fD]at hs
  split at hs
  ·split at hs
   ·split at hs
    ·rename_i _ f hf _ d c;simp at hs;subst hs;simp only[aB]at h;refine Ao (cG.2 ?_);intro v a;rcases c9 a with a|rfl
     ·exact cG.1 h v a
     ·exact uu c (cG.1 h f (dg hf)) hx
    ·simp at hs
   ·simp at hs
  ·simp at hs
 |_::_,.ptr ..,_,_,hs,_,_|_::_,.b6 ..,_,_,hs,_,_|_::_,.sl ..,_,_,hs,_,_|_::_,.map ..,_,_,hs,_,_|_::_,.func ..,_,_,hs,_,_|_::_,.aD ..,_,_,hs,_,_=>by simp[fD]at hs
end
structure aU where
 v:AV
 aj:List (Nat×Obj):=[]
 aJ:List (Nat×Obj):=[]
 aR:List Obj:=[]
def ba(H:Heap)(l:List (Nat×Obj)):Heap:=
 match l with
 |[]=>H
 |(b,o)::r=>ba (H.set b o) r
def put(dst:Option Tmp)(v:AV)(e:Env):Env:=
 match dst with
 |some d=>(d,v)::e
 |none=>e
def aU.app(e:aU)(dst:Option Tmp)(s:St):St:=⟨put dst e.v s.env,ba s.heap e.aJ++e.aR⟩
def ev(e:Env):a9->AV
 | .tmp t=>aN e t
 | .const v=>.p (ofConst v)
 | .global g=>.p (Gl.g g)
 | .func f=>.p (.func f [] [])
def fT(s:List Nat):ByteArray:=⟨(s.map UInt8.ofNat).toArray⟩
mutual
def jY:PV->PV->Option Bool
 | .bool a,.bool b=>some (a==b)
 | .int k a,.int c b=>if k=c then some (a==b)else none
 | .str a,.str b=>some (a==b)
 | .st u fs,.st u' gs=>if u=u' then vD fs gs else none
 |_,_=>none
def vD:List PV->List PV->Option Bool
 |[],[]=>some true
 |a::as,b::bs=>match jY a b with
  |some true=>vD as bs
  |some false=>some false
  |none=>none
 |_,_=>none
end
def gL(P:a0)(c:a1->PV->PV->Option Bool):List a1->List PV->List PV->Option Bool
 |[],[],[]=>some true
 |T::d,a::as,b::bs=>
  if kindOf P T=aL a/\kindOf P T=aL b then
   (match c T a b,gL P c d as bs with
   |some r,some s=>some (r&&s)
   |_,_=>none)
  else none
 |_,_,_=>none
def eZ(P:a0):Nat->a1->PV->PV->Option Bool
 |0,_,_,_=>none
 |n+1,T,v,v'=>
  match P.underlying T,v,v' with
  |some .bool,.bool a,.bool b=>some (a==b)
  |some (.int _),.int k a,.int d b=>if k=d then some (a==b)else none
  |some .string,.str a,.str b=>some (a==b)
  |some (.struct fs),.st u xs,.st u' c=>
   if kindOf P T= .agg u/\u'=u/\P.stoodInHeld T=false/\fs.toList.all (fun f=>f.name != "_")=true then gL P (eZ P n) (fs.toList.map (·.type)) xs c else none
  |some (.array m e),.st u xs,.st u' c=>
   if kindOf P T=.agg u/\u'=u/\(P.info? e).isSome=true then gL P (eZ P n) (cc m e) xs c else none
  |_,_,_=>none
def mA(P:a0)(T:a1):Bool:=!P.eqGuardType P.depth T
def pU(P:a0)(T:a1):Bool:=match P.underlying T with|some .bool=>true|_=>false
def aHm(P:a0)(T:a1):Bool:=match P.underlying T with|some (.int _)=>true|_=>false
def ia(P:a0)(T:a1):Bool:=match P.underlying T with|some .string=>true|_=>false
inductive tC where|ptr|slice|map|func|iface
 deriving DecidableEq
def lJ:a9->Bool
 | .const _=>true
 |_=>false
def dh(P:a0)(T:a1)(c:Bool):AV->Option tC
 | .p .dD=>match P.underlying T with
  |some (.pointer _)=>some .ptr
  |_=>none
 | .p .aF=>match P.underlying T with
  |some (.slice _)=>some .slice
  |_=>none
 | .p .fo=>match P.underlying T with
  |some (.map _ _)=>some .map
  |_=>none
 | .p .gX=>match P.underlying T with
  |some (.func _ _ _)=>some .func
  |_=>none
 | .p .fG=>match c,P.underlying T with
  |true,some (.interface _)=>some .iface
  |_,_=>none
 |_=>none
def cO(H:Heap)(k:tC)(x:AV):Option Bool:=
 match k,x with
 | .ptr,.p .dD| .slice,.p .aF| .map,.p .fo| .func,.p .gX| .iface,.p .fG=>some true
 | .ptr,.p (.cr _)| .slice,.p (.bI _ _)| .map,.p (.eK _)| .func,.p (.func _ _ _)| .func,.func _ _ _=>some false
 | .ptr,.ptr b _=>match H[b]? with
  |some (.box _ _)=>some false
  |_=>none
 | .map,.map b=>match H[b]? with
  |some (.map _ _)=>some false
  |_=>none
 | .slice,.p (.seq (_::_))=>some false
 | .slice,.sl b ar ai _ _=>match H[b]? with
  |some (.arr k c a es)=>if ar=c/\ai=a then some (k.gr&&es.isEmpty)else none
  |_=>none
 |_,_=>none
def oQ(op:BinOp)(k:bo)(a b:Int)(K:PV->Prop):Prop:=
 match op with
 | .add=>K (.int k (k.wrap (a+b)))
 | .sub=>K (.int k (k.wrap (a-b)))
 | .mul=>K (.int k (k.wrap (a*b)))
 | .quo=>b≠0/\K (.int k (k.wrap (a.tdiv b)))
 | .rem=>b≠0/\K (.int k (a.tmod b))
 | .and=>K (.int k (k.wrap (aT k.bits a&&&aT k.bits b).toNat))
 | .or=>K (.int k (k.wrap (aT k.bits a|||aT k.bits b).toNat))
 | .xor=>K (.int k (k.wrap (aT k.bits a^^^aT k.bits b).toNat))
 | .andNot=>K (.int k (k.wrap (aT k.bits a&&&~~~aT k.bits b).toNat))
 | .eql=>K (.bool (a==b))
 | .neq=>K (.bool (a !=b))
 | .lss=>K (.bool (decide (a<b)))
 | .leq=>K (.bool (decide (a<=b)))
 | .gtr=>K (.bool (decide (a>b)))
 | .geq=>K (.bool (decide (a>=b)))
 | .shl=>0<=b/\K (.int k (k.wrap (a*2^(min b.toNat k.bits))))
 | .shr=>0<=b/\K (.int k (a.fdiv (2^(min b.toNat k.bits))))
def iN:List Nat->List Nat->Bool
 |_,[]=>false
 |[],_::_=>true
 |a::x,b::y=>decide (a<b)||(a==b&&iN x y)
def oP(op:BinOp)(a b:List Nat)(K:PV->Prop):Prop:=
 match op with
 | .add=>a.length+b.length<9223372036854775808/\K (.str (a++b))
 | .eql=>K (.bool (a==b))
 | .neq=>K (.bool (!(a==b)))
 | .lss=>K (.bool (iN a b))
 | .leq=>K (.bool (iN a b||a==b))
 | .gtr=>K (.bool (!(iN a b||a==b)))
 | .geq=>K (.bool (!(iN a b)))
 |_=>False
def jS(P:a0)(op:BinOp)(T:a1)(c:Bool)(H:Heap)(x y:AV)(K:PV->Prop):Prop:=
 match x,y with
 | .p (.int k a),.p (.int d b)=>(k=d\/op=.shl\/op=.shr)/\oQ op k a b K
 | .p (.str a),.p (.str b)=>oP op a b K
 | .p (.bool a),.p (.bool b)=>pU P T=true/\match op with
  | .eql=>K (.bool (a==b))
  | .neq=>K (.bool (!(a==b)))
  |_=>False
 | .p (.st u fs),.p (.st u' gs)=>mA P T=true/\(match eZ P 9 T (.st u fs) (.st u' gs),op with
  |some r,.eql=>K (.bool r)
  |some r,.neq=>K (.bool !r)
  |_,_=>False)
 |x,y=>
  (match dh P T c y with
  |some k=>(match cO H k x,op with
   |some r,.eql=>K (.bool r)
   |some r,.neq=>K (.bool !r)
   |_,_=>False)
  |none=>False)
def cC:Nat:=1073741824
def gw(H:Heap):AV->Option (List AV)
 | .p .aF=>some []
 | .p (.bI _ es)=>some (es.map .p)
 | .p (.seq es)=>some (es.map .p)
 | .p (.str s)=>some (s.map fun c=>.p (.int .u8 (c:Nat)))
 | .sl b ar ai off len=>match H[b]? with
  |some (.arr _ d a es)=>if ar=d/\ai=a/\off+len<=es.length then some ((es.drop off).take len)else none
  |_=>none
 |_=>none
def dy(H:Heap):AV->List (Nat×Obj)
 | .sl b _ _ _ _| .ptr b _| .b6 b _ _ _ _| .map b=>match H[b]? with
  |some o=>[(b,o)]
  |none=>[]
 |_=>[]
def eH(P:a0)(ai:Nat):List AV->Prop
 |[]=>True
 |v::vs=>(ad v≠.bad/\bF P (ad v)=ai)/\eH P ai vs
def cL(P:a0)(T:a1):Option Nat:=
 match P.underlying T with
 |some (.slice e)=>match P.info? e with
  |some i=>if i.bytes<32768/\0<i.size/\0<i.bytes then some i.size else none
  |none=>none
 |_=>none
def dN(P:a0)(T:a1):a1:=
 match P.underlying T with
 |some (.slice e)=>e
 |_=>0
def gJ(P:a0)(X:a1):Bool:=
 match P.underlying X with
 |some (.int _)=>false
 |some _=>true
 |none=>false
def gk(P:a0)(T:a1):AK:=if dN P T=Gl.u8 then .bytes else .grow
def mY(P:a0)(T X:a1)(H:Heap)(s x:AV)(K:aU->Prop):Prop:=
 match cL P T,gw H x with
 |some sz,some xs=>gJ P X=true/\(cJ P (dN P T)).isSome=true/\eH P sz xs/\
  (match s with
  | .p .aF=>if xs.isEmpty then K {v:=s,aj:=dy H x}else xs.length<=cC/\K {v:=.sl H.length 0 sz 0 xs.length,aj:=dy H x,aR:=[.arr (gk P T) 0 sz xs]}
  | .p (.bI full es)=>eH P sz (es.map .p)/\if xs.isEmpty then K {v:=s,aj:=dy H x}else full=true/\es.length+xs.length<=cC/\
   K {v:=.sl H.length 0 sz 0 (es.length+xs.length),aj:=dy H x,aR:=[.arr (gk P T) 0 sz (es.map .p++xs)]}
  | .sl b ar ai off len=>match H[b]? with
   |some (.arr k c a es)=>ar=c/\ai=a/\ai=sz/\off+len<=es.length/\
    if xs.isEmpty then K {v:=s,aj:=(b,.arr k c a es)::dy H x}
    else es.length+xs.length<=cC/\(match k with
     | .frozen=>False
     | .exact=>if off+len+xs.length<=es.length then
      K {v:=.sl b ar ai off (len+xs.length),aj:=(b,.arr k c a es)::dy H x,aJ:=[(b,.arr .exact ar ai (es.take (off+len)++xs++es.drop (off+len+xs.length)))]}
      else K {v:=.sl H.length 0 sz 0 (len+xs.length),aj:=(b,.arr k c a es)::dy H x,aR:=[.arr (gk P T) 0 sz ((es.drop off).take len++xs)]}
     |_=>off=0/\(k=.bytes->dN P T=Gl.u8)/\K {v:=.sl b (ar+1) ai 0 (len+xs.length),aj:=(b,.arr k c a es)::dy H x,aJ:=[(b,.arr k (ar+1) ai (es.take len++xs))]})
   |_=>False
  |_=>False)
 |_,_=>False
def ga(x:Option AV)(d:Nat)(K:Nat->Prop):Prop:=
 match x with
 |none=>K d
 |some (.p (.int _ i))=>0<=i/\K i.toNat
 |_=>False
def nr(P:a0)(T:a1)(H:Heap)(x:AV)(lo hi d:Option AV)(K:aU->Prop):Prop:=
 d.isNone/\match x with
 | .p (.str s)=>ia P T=true/\ga hi s.length fun h=>ga lo 0 fun l=>h<=s.length/\l<=h/\K {v:=.p (.str ((s.take h).drop l))}
 | .p .aF=>(cL P T).isSome=true/\ga hi 0 fun h=>ga lo 0 fun l=>h<=0/\l<=h/\K {v:=x}
 | .p (.bI full es)=>ga hi es.length fun h=>ga lo 0 fun l=>h<=es.length/\l<=h/\
  (match cL P T with
  |some sz=>eH P sz (es.map .p)/\K {v:=.p (.bI (full&&h==es.length) ((es.take h).drop l))}
  |none=>False)
 | .p (.seq es)=>ga hi es.length fun h=>ga lo 0 fun l=>h<=es.length/\l<=h/\
  (match cL P T with
  |some sz=>eH P sz (es.map .p)/\K {v:=.p (.seq ((es.take h).drop l))}
  |none=>False)
 | .sl b ar ai off len=>match H[b]? with
  |some (.arr k c a es)=>ar=c/\ai=a/\cL P T=some ai/\¬(k.gr=true/\es=[])/\off+len<=es.length/\
   ga hi len fun h=>ga lo 0 fun l=>off+h<=es.length/\l<=h/\
    (if l=0 then K {v:=.sl b ar ai off h,aj:=[(b,.arr k c a es)]}
    else if l=h then K {v:=.p (.bI false []),aj:=[(b,.arr k c a es)]}
    else K {v:=.sl b ar ai (off+l) (h-l),aj:=[(b,.arr k c a es)]})
  |_=>False
 |_=>False
def pH(P:a0)(T:a1)(H:Heap)(x:AV)(lo hi:Option AV)(m:AV)(K:aU->Prop):Prop:=
 match x with
 | .sl b ar ai off len=>match H[b]? with
  |some (.arr k c a es)=>ar=c/\ai=a/\(cL P T).isSome=true/\¬(k.gr=true/\es=[])/\off+len<=es.length/\hi.isSome=true/\
   ga hi len fun h=>ga lo 0 fun l=>ga (some m) 0 fun m=>off+m<=es.length/\h<=m/\l<=h/\K {v:=.p .undef,aj:=[(b,.arr k c a es)]}
  |_=>False
 |_=>False
def o5(P:a0)(T:a1)(x k:PV):Option Bool:=match x with
 | .st u fs=>match eZ P 9 T (.st u fs) k,jY (.st u fs) k with
  |some a,some b=>bif a==b then some a else none
  |_,_=>none
 |x=>jY x k
def fF(P:a0)(T:a1):List (PV×PV)->PV->Option (Option PV)
 |[],_=>some none
 |(k,v)::r,x=>match o5 P T x k with
  |some true=>some (some v)
  |some false=>fF P T r x
  |none=>none
def lx(P:a0)(T:a1)(a:List (PV×PV))(x:PV):Option (Option PV):=match x with
 | .st u fs=>match fF P T a (.st u fs)with
  |some none=>some none
  |_=>none
 |x=>fF P T a x
def mM:PV->Bool
 | .st _ _=>false
 |_=>true
def ku(P:a0)(T:a1):List PV->List AV->PV->Option (Option AV)
 |[],[],_=>some none
 |k::ks,v::vs,x=>match o5 P T x k with
  |some true=>some (some v)
  |some false=>ku P T ks vs x
  |none=>none
 |_,_,_=>none
def rp:Obj->Option (List PV×List AV)
 | .map false es=>some (es.map (·.1),es.map fun e=>.p e.2)
 | .dm ks vs=>some (ks,vs)
 |_=>none
def fZ:List (PV×PV)->PV->PV->List (PV×PV)
 |[],k,v=>[(k,v)]
 |(a,v')::r,k,v=>if jY k a=some true then(k,v)::r else(a,v')::fZ r k v
def sj(P:a0)(T:a1):Bool:=match P.underlying T with
 |some (.int _)|some .string|some .bool=>true
 |_=>false
def fj(P:a0)(T:a1):PV->Bool
 | .int k _=>match P.underlying T with
  |some (.int a)=>decide (k=a)
  |_=>false
 | .str _=>ia P T
 | .st u fs=>match P.underlying T with
  |some (.struct cB)=>cB.toList.all (fun f=>f.name != "_" &&sj P f.type)&&(eZ P 9 T (.st u fs) (.st u fs)).isSome
  |_=>false
 |_=>false
def iT(P:a0)(T:a1):Option (a1×a1):=
 match P.underlying T with
 |some (.map k e)=>some (k,e)
 |_=>none
def lenOf(H:Heap):AV->Option (Nat×List (Nat×Obj))
 | .p (.str s)=>some (s.length,[])
 | .p .aF| .p .fo=>some (0,[])
 | .p (.bI _ es)| .p (.seq es)=>some (es.length,[])
 | .p (.eK es)=>some (es.length,[])
 | .sl b ar ai _off len=>match H[b]? with
  |some (.arr k c a es)=>if ar=c/\ai=a then some (len,[(b,.arr k c a es)])else none
  |_=>none
 | .map b=>match H[b]? with
  |some (.map fz es)=>some (es.length,[(b,.map fz es)])
  |_=>none
 |_=>none
def gF(P:a0)(T:a1):AV->Bool
 | .p (.str _)=>ia P T
 | .p .aF| .p (.bI _ _)| .p (.seq _)| .sl ..=>match P.underlying T with
  |some (.slice _)=>true
  |_=>false
 | .p .fo| .p (.eK _)| .map _=>match P.underlying T with
  |some (.map _ _)=>true
  |_=>false
 |_=>false
def yW(H:Heap):AV->Option (Nat×List (Nat×Obj))
 | .p .aF=>some (0,[])
 | .p (.bI true es)=>some (es.length,[])
 | .sl b ar ai off _len=>match H[b]? with
  |some (.arr .exact c a es)=>if ar=c/\ai=a/\off<=es.length then some (es.length-off,[(b,.arr .exact c a es)])else none
  |_=>none
 |_=>none
def bytesOf:List AV->Option (List Nat)
 |[]=>some []
 | .p (.int .u8 c)::r=>if 0<=c/\c<256 then match bytesOf r with
  |some l=>some (c.toNat::l)
  |none=>none
  else none
 |_=>none
def ptrTo(P:a0)(T:a1):Option a1:=
 match P.underlying T with
 |some (.pointer e)=>some e
 |_=>none
def ld(k:bo)(c:Bool):List AV->Int->Option Int
 |[],a=>some a
 | .p (.int d b)::r,a=>if k=d then ld k c r (if c then(if b>a then b else a)else(if b<a then b else a))else none
 |_,_=>none
def hJ(a:List AV):List (Nat×AV)->List AV
 |[]=>a
 |(i,v)::r=>hJ (a.set i v) r
def kZ(P:a0)(l:List Nat):List (Nat×AV)->Prop
 |[]=>True
 |(i,v)::r=>(∃n,l[i]?=some n/\bF P (ad v)=n/\ad v≠.bad)/\kZ P l r
def fw(H:Heap):List AV->Option (List PV×List (Nat×Obj)×List (Nat×Obj))
 |[]=>some ([],[],[])
 | .p v::r=>match fw H r with
  |some (a,aj,aJ)=>some (v::a,aj,aJ)
  |none=>none
 | .ptr b []::r=>match H[b]?,fw H r with
  |some (.box fz (.p t)),some (a,aj,aJ)=>some (.cr t::a,(b,.box fz (.p t))::aj,(b,.box true (.p t))::aJ)
  |_,_=>none
 |_=>none
def nD(P:a0)(T:a1)(H:Heap)(a:AV)(K:aU->Prop):Prop:=
 match a with
 | .ptr b path=>match H[b]? with
  |some (.box fz t)=>match eD t path with
   |some s=>kindOf P T=ad s/\K {v:=s,aj:=[(b,.box fz t)]}
   |none=>False
  |_=>False
 | .b6 b ar ai i path=>match H[b]? with
  |some (.arr k d c es)=>ar=d/\ai=c/\∃h:i<es.length,match eD (es[i]'h) path with
   |some s=>kindOf P T=ad s/\K {v:=s,aj:=[(b,.arr k d c es)]}
   |none=>False
  |_=>False
 | .p (.cr t)=>kindOf P T=aL t/\K {v:=.p t}
 |_=>False
def nq(P:a0)(T:a1)(H:Heap)(a x:AV)(K:aU->Prop):Prop:=
 kindOf P T=ad x/\ad x≠.bad/\match a with
 | .ptr b path=>match H[b]? with
  |some (.box false t)=>match eD t path,fD t path x with
   |some s,some d=>ad s=ad x/\K {v:=.p (.aD []),aj:=[(b,.box false t)],aJ:=[(b,.box false d)]}
   |_,_=>False
  |_=>False
 | .b6 b ar ai i path=>match H[b]? with
  |some (.arr k e c es)=>ar=e/\ai=c/\k≠.frozen/\∃h:i<es.length,match eD (es[i]'h) path,fD (es[i]'h) path x with
   |some s,some d=>ad s=ad x/\K {v:=.p (.aD []),aj:=[(b,.arr k e c es)],aJ:=[(b,.arr k e c (es.set i d))]}
   |_,_=>False
  |_=>False
 |_=>False
def nV(P:a0)(a:a1)(b:Nat)(key:PV)(x:AV)(o:Obj)(K:aU->Prop):Prop:=match rp o with
 |some (ks,vs)=>mM key=true/\ku P a ks vs key=some none/\K {v:=.p (.aD []),aj:=[(b,o)],aJ:=[(b,.dm (ks++[key]) (vs++[x]))]}
 |none=>False
def fx(P:a0)(T:a1):Option (a1×Nat):=
 match kindOf P T,P.underlying T with
 | .agg u,some (.struct fs)=>some (u,fs.size)
 |_,_=>none
def gK(P:a0)(T:a1):Option (a1×Nat):=
 match kindOf P T,P.underlying T with
 | .agg u,some (.array n _)=>some (u,n)
 |_,_=>none
def mV(P:a0)(T:a1)(a:AV)(f:Nat)(K:aU->Prop):Prop:=
 match fx P T with
 |some (u,n)=>f<n/\(match a with
  | .ptr b path=>K {v:=.ptr b (path++[(u,f)])}
  | .b6 b ar ai i path=>K {v:=.b6 b ar ai i (path++[(u,f)])}
  | .p (.cr t)=>aL t=.agg u/\(match(cB t)[f]? with
   |some g=>K {v:=.p (.cr g)}
   |none=>False)
  |_=>False)
 |_=>False
def mU(P:a0)(T:a1)(H:Heap)(x i:AV)(K:aU->Prop):Prop:=
 match i with
 | .p (.int _ i)=>0<=i/\(match x with
  | .p (.bI _ es)=>∃h:i.toNat<es.length,cL P T=some (bF P (aL (es[i.toNat]'h)))/\K {v:=.p (.cr (es[i.toNat]'h))}
  | .p (.seq es)=>∃h:i.toNat<es.length,cL P T=some (bF P (aL (es[i.toNat]'h)))/\K {v:=.p (.cr (es[i.toNat]'h))}
  | .sl b ar ai off len=>cL P T=some ai/\i.toNat<len/\(match H[b]? with
   |some (.arr k c a es)=>ar=c/\ai=a/\¬(k.gr=true/\es=[])/\K {v:=.b6 b ar ai (off+i.toNat) [],aj:=[(b,.arr k c a es)]}
   |_=>False)
  | .ptr b path=>(match gK P T with
   |some (u,n)=>i.toNat<n/\K {v:=.ptr b (path++[(u,i.toNat)])}
   |_=>False)
  | .b6 b ar ai j path=>(match gK P T with
   |some (u,n)=>i.toNat<n/\K {v:=.b6 b ar ai j (path++[(u,i.toNat)])}
   |_=>False)
  | .p (.cr t)=>(match gK P T with
   |some (u,n)=>aL t=.agg u/\i.toNat<n/\(match(cB t)[i.toNat]? with
    |some g=>K {v:=.p (.cr g)}
    |none=>False)
   |_=>False)
  |_=>False)
 |_=>False
def fp(P:a0)(ag:a8->Bool)(o:Oper)(ρ:a9->AV)(H:Heap)(K:aU->Prop):Prop:=
 match o.op with
 | .move x| .assign x=>K {v:=ρ x}
 | .pick c a b=>match ρ c with
  | .p (.bool t)=>K {v:=if t then ρ a else ρ b}
  |_=>False
 | .alloc T=>match cJ P T with
  |some z=>kindOf P T=aL z/\aL z≠.bad/\iV T (aL z)=true/\K {v:=.ptr H.length [],aR:=[.box false (.p z)]}
  |none=>False
 | .box T x=>kindOf P T=ad (ρ x)/\ad (ρ x)≠.bad/\iV T (ad (ρ x))=true/\K {v:=.ptr H.length [],aR:=[.box false (ρ x)]}
 | .build T parts=>match kindOf P T,cJ P T with
  | .agg u,some z=>(match dH P u with
   |some l=>aL z=.agg u/\kZ P l (parts.toList.map fun(i,x)=>(i,ρ x))/\K {v:=gM u (hJ ((cB z).map .p) (parts.toList.map fun(i,x)=>(i,ρ x)))}
   |none=>False)
  |_,_=>False
 | .buildSlice T n parts=>match cL P T,cJ P (dN P T)with
  |some sz,some z=>bF P (aL z)=sz/\n*sz<=1000000/\kZ P (cc n sz) (parts.toList.map fun(i,x)=>(i,ρ x))/\
   K {v:=.sl H.length 0 sz 0 n,aR:=[.arr .exact 0 sz (hJ (cc n (.p z)) (parts.toList.map fun(i,x)=>(i,ρ x)))]}
  |_,_=>False
 | .load T a=>nD P T H (ρ a) K
 | .store T a x=>nq P T H (ρ a) (ρ x) K
 | .binOp op T x y _=>jS P op T (lJ y) H (ρ x) (ρ y) (fun v=>K {v:=.p v,aj:=dy H (ρ x)})
 | .unOp op _ x=>match op,ρ x with
  | .not,.p (.bool b)=>K {v:=.p (.bool (!b))}
  | .neg,.p (.int k n)=>K {v:=.p (.int k (k.wrap (0-n)))}
  | .xor,.p (.int k n)=>K {v:=.p (.int k (k.wrap (aT k.bits (if k.signed then -1 else k.max)^^^aT k.bits n).toNat))}
  |_,_=>False
 | .convert S D x=>match P.underlying S,P.underlying D,ρ x with
  |some _,some (.int k),.p (.int _ n)=>K {v:=.p (.int k (k.wrap n))}
  |some _,some .string,.p (.str s)=>K {v:=.p (.str s)}
  |some (.slice e),some .string,.sl b ar ai off len=>(match H[b]? with
   |some (.arr k q j es)=>ar=q/\ai=j/\ai=1/\P.underlying e=some (.int .u8)/\0<len/\off+len<=es.length/\(match bytesOf ((es.drop off).take len)with
    |some l=>K {v:=.p (.str l),aj:=[(b,.arr k q j es)]}
    |none=>False)
   |_=>False)
  |_,_,_=>False
 | .extract t i=>match ρ t with
  | .p (.aD vs)=>(match vs[i]? with
   |some v=>K {v:=.p v}
   |none=>False)
  | .aD vs=>(match vs[i]? with
   |some v=>K {v}
   |none=>False)
  |_=>False
 | .fieldAddr T a f=>mV P T (ρ a) f K
 | .indexAddr T x i=>mU P T H (ρ x) (ρ i) K
 | .field T x f=>match kindOf P T,P.underlying T,ρ x with
  | .agg u,some (.struct _),.p t=>aL t=.agg u/\(match(cB t)[f]?,(jc P u)[f]? with
   |some g,some F=>kindOf P F=aL g/\K {v:=.p g}
   |_,_=>False)
  |_,_,_=>False
 | .index T x i=>match ρ x,ρ i with
  | .p (.str s),.p (.int _ i)=>ia P T=true/\0<=i/\∃h:i.toNat<s.length,K {v:=.p (.int .u8 (s[i.toNat]'h))}
  | .p (.st u es),.p (.int _ i)=>(match gK P T,(jc P u)[i.toNat]?,es[i.toNat]? with
   |some (u',n),some F,some g=>u'=u/\0<=i/\i.toNat<n/\kindOf P F=aL g/\K {v:=.p g}
   |_,_,_=>False)
  |_,_=>False
 | .makeFunc (.func f) fi ca=>if ag f then(match fw H (fi.toList.map ρ),fw H (ca.toList.map ρ)with
   |some (a,[],[]),some (b,aj,aJ)=>K {v:=.p (.func f a b),aj,aJ}
   |_,_=>False)
  else match eB (fi.toList.map ρ),eB (ca.toList.map ρ)with
   |some a,some b=>K {v:=.p (.func f a b)}
   |_,_=>K {v:=.func f (fi.toList.map ρ) (ca.toList.map ρ)}
 | .makeSlice T l c=>match cL P T,cJ P (dN P T),ρ l,ρ c with
  |some sz,some z,.p (.int .i64 l),.p (.int .i64 c)=>bF P (aL z)=sz/\0<=l/\l=c/\l<=cC/\K {v:=.sl H.length 0 sz 0 l.toNat,aR:=[.arr .exact 0 sz (cc l.toNat (.p z))]}
  |_,_,_,_=>False
 | .slice T x lo hi A=>match A with
  |none=>nr P T H (ρ x) (lo.map ρ) (hi.map ρ) none K
  |some m=>pH P T H (ρ x) (lo.map ρ) (hi.map ρ) (ρ m) K
 | .makeMap _ none=>K {v:=.map H.length,aR:=[.map false []]}
 | .lookup T x i ok=>match iT P T,ρ i with
  |some (w,E),.p key=>(match cJ P E with
   |some z=>fj P w key=true/\(match ρ x with
    | .p .fo=>K {v:=.p (if ok then .aD [z,.bool false]else z)}
    | .p (.eK es)=>(match fF P w es key with
     |some (some v)=>K {v:=.p (if ok then .aD [v,.bool true]else v)}
     |some none=>K {v:=.p (if ok then .aD [z,.bool false]else z)}
     |none=>False)
    | .map b=>(match H[b]? with
     |some (.map fz es)=>(match fF P w es key with
      |some (some v)=>K {v:=.p (if ok then .aD [v,.bool true]else v),aj:=[(b,.map fz es)]}
      |some none=>K {v:=.p (if ok then .aD [z,.bool false]else z),aj:=[(b,.map fz es)]}
      |none=>False)
     |some (.dm ks vs)=>mM key=true/\(match ku P w ks vs key with
      |some (some v)=>K {v:=if ok then .aD [v,.p (.bool true)]else v,aj:=[(b,.dm ks vs)]}
      |some none=>K {v:=.p (if ok then .aD [z,.bool false]else z),aj:=[(b,.dm ks vs)]}
      |none=>False)
     |_=>False)
    |_=>False)
   |none=>False)
  |_,_=>False
 | .mapUpdate T m k x| .insert T m k x=>match iT P T,ρ m,ρ k,ρ x with
  |some (w,_),.map b,.p key,.p v=>fj P w key=true/\(match H[b]? with
   |some (.map false es)=>(match lx P w es key with
    |some _=>K {v:=.p (.aD []),aj:=[(b,.map false es)],aJ:=[(b,.map false (fZ es key v))]}
    |none=>False)
   |some (.dm ks vs)=>nV P w b key (.p v) (.dm ks vs) K
   |_=>False)
  |some (w,_),.map b,.p key,x=>fj P w key=true/\(match H[b]? with
   |some o=>nV P w b key x o K
   |none=>False)
  |_,_,_,_=>False
 | .range T x=>match ρ x with
  | .p (.str s)=>ia P T=true/\K {v:=.ptr H.length [],aR:=[.dv s 0]}
  |_=>False
 | .next it true=>match ρ it with
  | .ptr b []=>(match H[b]? with
   |some (.dv s pos)=>if pos<s.length then
    K {v:=.p (.aD [.bool true,.int .i64 pos,.int .i32 (Utf8.decode (fT s) pos).1]),aj:=[(b,.dv s pos)],aJ:=[(b,.dv s (pos+(Utf8.decode (fT s) pos).2))]}
    else K {v:=.p (.aD [.bool false]),aj:=[(b,.dv s pos)]}
   |_=>False)
  |_=>False
 | .nilCheck x=>match ρ x with
  | .ptr _ _| .b6 _ _ _ _ _| .p (.cr _)=>K {v:=ρ x}
  |_=>False
 | .call c=>match c.callee with
  | .builtin b=>let args:=c.args.toList.map ρ
   let T:=c.argTypes.getD 0 0
   (match b,args with
   | .len,[x]=>(match lenOf H x with
    |some (n,aj)=>gF P T x=true/\0<c.argTypes.size/\K {v:=.p (.int .i64 n),aj}
    |none=>False)
   | .append,[s,x]=>c.argTypes.size=2/\mY P T (c.argTypes.getD 1 0) H s x K
   | .min,.p (.int k a)::r=>(match ld k false r a with
    |some n=>K {v:=.p (.int k n)}
    |none=>False)
   | .max,.p (.int k a)::r=>(match ld k true r a with
    |some n=>K {v:=.p (.int k n)}
    |none=>False)
   | .copy,[d,x]=>(match cL P T,d,gw H x with
    |some sz,.sl b ar ai off len,some xs=>ai=sz/\eH P sz xs/\c.argTypes.size=2/\(match H[b]? with
     |some (.arr k q j es)=>ar=q/\ai=j/\k≠.frozen/\off+len<=es.length/\¬(k.gr=true/\es=[])/\
      K {v:=.p (.int .i64 (min xs.length len:Nat)),aj:=(b,.arr k q j es)::dy H x,aJ:=[(b,.arr k q j (es.take off++xs.take (min xs.length len)++es.drop (off+min xs.length len)))]}
     |_=>False)
    |_,_,_=>False)
   | .cap,[x]=>(match yW H x with
    |some (n,aj)=>gF P T x=true/\0<c.argTypes.size/\K {v:=.p (.int .i64 n),aj}
    |none=>False)
   | .clear,[x]=>(match x with
    | .p .aF=>gF P T x=true/\0<c.argTypes.size/\K {v:=.p (.aD [])}
    | .sl b ar ai off len=>(match cL P T,cJ P (dN P T),H[b]? with
     |some sz,some z,some (.arr k q j es)=>ar=q/\ai=j/\ai=sz/\bF P (aL z)=sz/\k≠.frozen/\off+len<=es.length/\¬(k.gr=true/\es=[])/\0<c.argTypes.size/\0<len/\
      K {v:=.p (.aD []),aj:=[(b,.arr k q j es)],aJ:=[(b,.arr k q j (es.take off++cc len (.p z)++es.drop (off+len)))]}
     |_,_,_=>False)
    |_=>False)
   | .unsafeSliceData,[x]=>(match x with
    | .p .aF=>K {v:=.p .dD}
    | .sl b ar ai off len=>(match H[b]? with
     |some (.arr k q j es)=>ar=q/\ai=j/\((k.gr=true/\es=[]/\K {v:=.p .dD,aj:=[(b,.arr k q j es)]})\/(0<len/\off+len<=es.length/\K {v:=.b6 b ar ai off [],aj:=[(b,.arr k q j es)]}))
     |_=>False)
    |_=>False)
   | .unsafeString,[x,.p (.int .i64 n)]=>(match x with
    | .p .dD=>n=0/\c.argTypes.size=2/\K {v:=.p (.str [])}
    | .b6 b ar ai i []=>(match H[b]? with
     |some (.arr .bytes q j es)=>ar=q/\ai=j/\ai=1/\i=0/\0<n/\n.toNat<=es.length/\n<=9223372036854775807/\c.argTypes.size=2/\ptrTo P T=some Gl.u8/\P.cellsOf Gl.u8=1/\(match bytesOf (es.take n.toNat)with
      |some l=>K {v:=.p (.str l),aj:=[(b,.arr .bytes q j es)],aJ:=[(b,.dead)]}
      |none=>False)
     |_=>False)
    |_=>False)
   |_,_=>False)
  |_=>False
 |_=>False
def newAt(a:Nat):List Obj->List (Nat×Obj)
 |[]=>[]
 |o::r=>(a,o)::newAt (a+1) r
structure bV(P:a0)(ah aa:Nat->Prop)(w:a7)(β:Bd)(H:Heap)(aE:Nat->Prop)(w':a7)(aH:Bd)(H':Heap):Prop where
 bR:∀k,aa k->aE k
 fresh:∀k,aE k->aa k\/¬ah k
 ext:Ext ah aa w w'
 step:ch β H aH H'
 rel:bP P w' aE aH H' ah
 eL:∀x,aG H x->aG H' x
 loop:∀b,gA H b->gA H' b
def Enters(P:a0)(f:a8):Prop:=∀(args:Array a5)(w:a7),(callFunc f args).run P w=.ok (.enter f args) w
def b9(P:a0)(f:a8)(H:Heap)(args:List AV)(H':Heap)(v:AV):Prop:=
 Enters P f/\∀(w:a7)(aa ah:Nat->Prop)(β:Bd)(a:List a5),bP P w aa β H ah->bw P w aa β H args a->aQ (aG H) args->
  bv P f a.toArray w fun e w'=>∃b aH aE,e=.returned b/\bV P ah aa w β H aE w' aH H'/\aw P w' aE aH H' v b/\aB (aG H') v
def ic(P:a0)(b:Nat)(H:Heap)(args:List AV)(H':Heap)(v:AV):Prop:=
 gA H b/\∀(w:a7)(aa ah:Nat->Prop)(β:Bd)(c:List a5),bP P w aa β H ah->bw P w aa β H args c->aQ (aG H) args->
  ∃f tmps assign body,(Instr.yield (β.ak b) c.toArray).run P w=.ok (.round (β.ak b) f tmps assign body) w/\
   ∀(a:bb)(e:List bb),∃d w' aH aE,Steps P (lone (Frame.round (β.ak b) f tmps assign body .normal) (a::e) w) (lone (a.finish d) e w')/\
    bV P ah aa w β H aE w' aH H'/\aw P w' aE aH H' v d/\aB (aG H') v
def qI(P:a0)(f:a8)(args:List AV)(base:Nat)(e:aU):Prop:=
 Enters P f/\∀(H:Heap)(w:a7)(aa ah:Nat->Prop)(β:Bd)(a:List a5),bP P w aa β H ah->bw P w aa β H args a->aQ (aG H) args->
  (∀p∈e.aj,H[p.1]?=some p.2)->(∀i,i<e.aR.length->H[base+i]?=some .hole)->
  bv P f a.toArray w fun x w'=>∃b aH aE,x=.returned b/\bV P ah aa w β H aE w' aH (ba H (e.aJ++newAt base e.aR))/\
   aw P w' aE aH (ba H (e.aJ++newAt base e.aR)) e.v b/\aB (aG (ba H (e.aJ++newAt base e.aR))) e.v
def sB(P:a0)(b:Nat)(args:List AV)(a:Nat)(e:aU):Prop:=
 ∀(H:Heap)(w:a7)(aa ah:Nat->Prop)(β:Bd)(d:List a5),bP P w aa β H ah->bw P w aa β H args d->aQ (aG H) args->
  (∀p∈e.aj,H[p.1]?=some p.2)->(∀i,i<e.aR.length->H[a+i]?=some .hole)->
  gA H b/\∃f tmps assign body,(Instr.yield (β.ak b) d.toArray).run P w=.ok (.round (β.ak b) f tmps assign body) w/\
   ∀(c:bb)(h:List bb),∃g w' aH aE,Steps P (lone (Frame.round (β.ak b) f tmps assign body .normal) (c::h) w) (lone (c.finish g) h w')/\
    bV P ah aa w β H aE w' aH (ba H (e.aJ++newAt a e.aR))/\
    aw P w' aE aH (ba H (e.aJ++newAt a e.aR)) e.v g/\aB (aG (ba H (e.aJ++newAt a e.aR))) e.v
def CK(P:a0)(f:a8)(args:List AV)(aj:List (Nat×Obj))(v:PV):Prop:=
 ∀(H:Heap)(w:a7)(aa ah:Nat->Prop)(β:Bd)(a:List a5),bP P w aa β H ah->bw P w aa β H args a->aQ (aG H) args->(∀p∈aj,H[p.1]?=some p.2)->
  ∃b,(callFunc f a.toArray).run P w=.ok (.value b) w/\aA P w aa v b
def oT(H:Heap)(e:aU):Prop:=(∀p∈e.aj,H[p.1]?=some p.2)/\(∀p∈e.aJ,p.1<H.length/\p.2≠.hole)
def mu(P:a0)(f:a8)(args:List PV)(v:PV):Prop:=
 Enters P f/\∀(w:a7)(aa:Nat->Prop)(a:List a5),(∀k,aa k->k<w.heap.size)->mb P w aa->bn P w aa args a->
  bv P f a.toArray w fun e w'=>∃b,∃aE:Nat->Prop,e=.returned b/\(∀k,aa k->aE k)/\(∀k,aE k->aa k\/w.heap.size<=k)/\(∀k,aE k->k<w'.heap.size)/\
   w.heap.size<=w'.heap.size/\(∀k,k<w.heap.size->w'.heap[k]?=w.heap[k]?)/\(w'.os=w.os/\w'.output=w.output)/\aA P w' aE v b
def PM(P:a0)(f:a8)(args:List PV)(v:PV):Prop:=
 ∀(w:a7)(aa:Nat->Prop)(a:List a5),bn P w aa args a->∃b,(callFunc f a.toArray).run P w=.ok (.value b) w/\aA P w aa v b
def az(P:a0)(f:a8)(args:List PV)(v:PV):Prop:=mu P f args v\/PM P f args v
def kj(H:Heap):AV->Option (PV×Heap)
 | .p v=>some (v,H)
 | .sl b ar ai off len=>match H[b]? with
  |some (.arr k d a es)=>
   if ar=d/\ai=a/\off+len<=es.length then
    if k.gr=true/\es=[]then some (.aF,H)else
    match eB es with
    |some c=>some (.bI (k== .exact&&off+len==es.length) ((c.drop off).take len),H.set b (.arr .frozen ar ai es))
    |none=>none
   else none
  |_=>none
 | .ptr b path=>match H[b]? with
  |some (.box _ (.p t))=>match kn t path with
   |some s=>some (.cr s,H.set b (.box true (.p t)))
   |none=>none
  |_=>none
 | .map b=>match H[b]? with
  |some (.map _ es)=>some (.eK es,H.set b (.map true es))
  |_=>none
 |_=>none
def mG(H:Heap):List AV->Option (List PV×Heap)
 |[]=>some ([],H)
 |x::r=>match kj H x with
  |some (v,H1)=>match mG H1 r with
   |some (vs,a)=>some (v::vs,a)
   |none=>none
  |none=>none
def gC(P:a0)(draw:Bool)(f:a8)(args:List AV)(H:Heap)(K:AV->Heap->Prop):Prop:=
 (∃vs v,args=vs.map .p/\az P f vs v/\K (.p v) H)\/
 (draw=false/\((∃vs H1 v,mG H args=some (vs,H1)/\az P f vs v/\K (.p v) H1)\/(∃H' v,b9 P f H args H' v/\K v H')\/
  (∃e,qI P f args H.length e/\oT H e/\K e.v (ba H e.aJ++e.aR))\/(∃aj v,CK P f args aj v/\(∀p∈aj,H[p.1]?=some p.2)/\K (.p v) H)))
def ji(P:a0)(ag:a8->Bool)(draw:Bool)(o:Oper)(K:St->Prop)(s:St):Prop:=
 match o.op with
 | .call {callee:=.value f,args,.. }=>(match ev s.env f with
  | .p (.func g fi ca)=>gC P draw g (fi.map .p++args.toList.map (ev s.env)++ca.map .p) s.heap (fun v H'=>K ⟨put o.dst v s.env,H'⟩)
  | .func g fi ca=>gC P draw g (fi++args.toList.map (ev s.env)++ca) s.heap (fun v H'=>K ⟨put o.dst v s.env,H'⟩)
  | .map b=>∃H' v,ic P b s.heap (args.toList.map (ev s.env)) H' v/\K ⟨put o.dst v s.env,H'⟩
  |_=>False)
 |_=>fp P ag o (ev s.env) s.heap fun e=>K (e.app o.dst s)
def guardOf(a:Array Oper)(j:Nat)(e:Env):AV:=
 match(a[j]?).bind (·.dst)with
 |some d=>aN e d
 |none=>.p (.aD [])
def gE(P:a0)(ag:a8->Bool)(draw:Bool)(a:Array Oper):List Oper->(St->Prop)->St->Prop
 |[],K,s=>K s
 |o::r,K,s=>match o.guard with
  |none=>ji P ag draw o (gE P ag draw a r K) s
  |some (j,want)=>match guardOf a j s.env with
   | .p (.bool t)=>if t=want then ji P ag draw o (gE P ag draw a r K) s else gE P ag draw a r K ⟨put o.dst (.p (.aD [])) s.env,s.heap⟩
   | .p (.aD [])=>gE P ag draw a r K ⟨put o.dst (.p (.aD [])) s.env,s.heap⟩
   |_=>False
def lF:Obj->Option Obj
 | .box _ (.p t)=>some (.box true (.p t))
 | .arr k ar ai es=>if k.gr=true/\es=[]then none else match eB es with
  |some _=>some (.arr .frozen ar ai es)
  |none=>none
 | .map _ es=>some (.map true es)
 |_=>none
def lN(H:Heap):AV->Option (PV×List Nat)
 | .p v=>some (v,[])
 | .sl b ar ai off len=>match H[b]? with
  |some (.arr k d a es)=>
   if ar=d/\ai=a/\off+len<=es.length then
    if k.gr=true/\es=[]then none else
    match eB es with
    |some c=>some (.bI (k== .exact&&off+len==es.length) ((c.drop off).take len),[b])
    |none=>none
   else none
  |_=>none
 | .ptr b path=>match H[b]? with
  |some (.box _ (.p t))=>match kn t path with
   |some s=>some (.cr s,[b])
   |none=>none
  |_=>none
 | .map b=>match H[b]? with
  |some (.map _ es)=>some (.eK es,[b])
  |_=>none
 |_=>none
def nF(H:Heap):List AV->Option (List PV×List Nat)
 |[]=>some ([],[])
 |x::r=>match lN H x,nF H r with
  |some (v,bs),some (vs,cs)=>some (v::vs,bs++cs)
  |_,_=>none
def kC(H:Heap):List Nat->Option (List (Nat×Obj)×List (Nat×Obj))
 |[]=>some ([],[])
 |b::r=>match H[b]?,kC H r with
  |some o,some (aj,aJ)=>(match lF o with
   |some o'=>some ((b,o)::aj,(b,o')::aJ)
   |none=>none)
  |_,_=>none
def gI(P:a0)(f:a8)(args:List AV)(H:Heap)(K:aU->Prop):Prop:=
 (∃vs v,args=vs.map .p/\az P f vs v/\K {v:=.p v})\/
 (∃vs bs aj aJ v,nF H args=some (vs,bs)/\kC H bs=some (aj,aJ)/\az P f vs v/\K {v:=.p v,aj,aJ})\/
 (∃e,qI P f args H.length e/\oT H e/\K e)\/
 (∃aj v,CK P f args aj v/\(∀p∈aj,H[p.1]?=some p.2)/\K {v:=.p v,aj})
def iW(P:a0)(ag:a8->Bool)(o:Oper)(s:St)(K:aU->Prop):Prop:=
 match o.op with
 | .call {callee:=.value f,args,.. }=>(match ev s.env f with
  | .p (.func g fi ca)=>gI P g (fi.map .p++args.toList.map (ev s.env)++ca.map .p) s.heap K
  | .func g fi ca=>gI P g (fi++args.toList.map (ev s.env)++ca) s.heap K
  | .map b=>∃e,sB P b (args.toList.map (ev s.env)) s.heap.length e/\oT s.heap e/\K e
  |_=>False)
 |_=>fp P ag o (ev s.env) s.heap K
structure Touch where
 i:Nat
 rd:List Nat
 wr:List Nat
def nu(a:Nat):List Obj->List Nat
 |[]=>[]
 |_::r=>a::nu (a+1) r
def gR(i a:Nat)(e:aU):Touch:=⟨i,e.aj.map (·.1),e.aJ.map (·.1)++nu a e.aR⟩
def gD(i b:Nat)(e:aU)(a:List Touch):List Touch:=
 match e.aj,e.aJ,e.aR with
 |[],[],[]=>a
 |_,_,_=>gR i b e::a
def reach(a:Array Oper):Nat->Nat->Nat->Bool
 |0,_,_=>false
 |f+1,i,j=>match a[j]? with
  |some o=>o.after.toList.any (fun e=>b1 .any e&&e.on==i)||o.after.toList.any (fun e=>b1 .any e&&decide (i<e.on)&&reach a f i e.on)
  |none=>false
def iQ(u t:Touch):Bool:=u.wr.any (fun b=>t.rd.contains b||t.wr.contains b)||u.rd.any (fun b=>t.wr.contains b)
def jL(a:Array Oper):List Touch->Bool
 |[]=>true
 |t::r=>r.all (fun u=>!iQ u t||reach a a.size u.i t.i)&&jL a r
def fP(P:a0)(ag:a8->Bool)(a:Array Oper):List Oper->Nat->List Touch->(St->Prop)->St->Prop
 |[],_,acc,K,s=>jL a acc=true/\K s
 |o::r,i,acc,K,s=>match o.guard with
  |none=>iW P ag o s fun e=>fP P ag a r (i+1) (gD i s.heap.length e acc) K (e.app o.dst s)
  |some (j,want)=>match guardOf a j s.env with
   | .p (.bool t)=>if t=want then iW P ag o s fun e=>fP P ag a r (i+1) (gD i s.heap.length e acc) K (e.app o.dst s)
    else fP P ag a r (i+1) acc K ⟨put o.dst (.p (.aD [])) s.env,s.heap⟩
   | .p (.aD [])=>fP P ag a r (i+1) acc K ⟨put o.dst (.p (.aD [])) s.env,s.heap⟩
   |_=>False
inductive bu where|normal|exit (id:Nat)|ret
mutual
def fE(T:Heap):PV->AV->Prop
 | .aF,x=>x=.p .aF\/match x with
  | .sl b ar _ off len=>ar=0/\off=0/\len=0/\∃k z,T[b]?=some (.arr k 0 z [])/\k.gr=true
  |_=>False
 | .st u fs,x=>x=.p (.st u fs)\/match x with
  | .st u' gs=>u=u'/\kq T fs gs
  |_=>False
 |v,x=>x=.p v
def kq(T:Heap):List PV->List AV->Prop
 |[],gs=>gs=[]
 |v::vs,gs=>match gs with
  |g::gs=>fE T v g/\kq T vs gs
  |[]=>False
end
mutual
def Gh(T:Heap):AV->AV->Prop
 | .p v,x=>fE T v x
 | .st u fs,x=>match x with
  | .st u' gs=>u=u'/\lO T fs gs
  |_=>False
 |a,x=>x=a
def lO(T:Heap):List AV->List AV->Prop
 |[],gs=>gs=[]
 |v::vs,gs=>match gs with
  |g::gs=>Gh T v g/\lO T vs gs
  |[]=>False
end
structure oO(s t:St):Prop where
 env:∀x,aN t.env x=aN s.env x\/aN t.env x=.p .undef\/Gh t.heap (aN s.env x) (aN t.env x)
 heap:∀(b:Nat)(o:Obj),t.heap[b]?=some o->o=.hole\/s.heap[b]?=some o\/((s.heap[b]?=none\/s.heap[b]?=some .hole)/\∃k z,o=.arr k 0 z []/\k.gr=true)\/(∃v v',s.heap[b]?=some (.box false v)/\o=.box false v'/\Gh t.heap v v')
 gh:∀x,aB (aG t.heap) (aN t.env x)
 hrefs:∀(b:Nat)(o:Obj),t.heap[b]?=some o->o.refs (aG t.heap)
def cX(N:Nat)(s t:St):Prop:=t=s\/(oO s t/\∀b,b<N->t.heap[b]?=s.heap[b]?)
def jR(Q:bu->St->Prop)(j:Option Code)(s:St):Prop:=
 match j with
 |none=>Q .normal s
 |some (.exit id)=>Q (.exit id) s
 |some .ret=>Q .ret s
 |_=>False
def ju(P:a0)(it:AV)(b:Nat)(H:Heap)(K:Heap->Prop):Prop:=
 match it with
 | .p (.func g fi ca)=>∃H' v,b9 P g H (fi.map .p++[.map b]++ca.map .p) H' v/\K H'
 | .func g fi ca=>∃H' v,b9 P g H (fi++[.map b]++ca) H' v/\K H'
 |_=>False
def iF(b:Nat)(env:Env)(Q:bu->St->Prop)(H:Heap):Prop:=
 match H[b]? with
 |some (.loop L)=>L.st≠.busy/\jR Q L.pending ⟨env,H.set b (.loop {L with st:=.exhausted})⟩
 |_=>False
abbrev Cx:=Nat×Nat
def cd(P:a0)(ag:a8->Bool)(q:Cx):Code->(bu->St->Prop)->St->Prop
 | .skip,Q,s| .label _,Q,s=>Q .normal s
 | .region _ ops draw,Q,s=>if draw then fP P ag ops ops.toList 0 [] (Q .normal) s else gE P ag false ops ops.toList (Q .normal) s
 | .seq a b,Q,s=>cd P ag q a (fun e s'=>match e with
  | .normal=>cd P ag q b Q s'
  |e=>Q e s') s
 | .cond c a b,Q,s=>match ev s.env c with
  | .p (.bool t)=>if t then cd P ag q a Q s else cd P ag q b Q s
  |_=>False
 | .block id b,Q,s=>cd P ag q b (fun e s'=>match e with
  | .exit i=>if i=id then Q .normal s' else Q (.exit i) s'
  |e=>Q e s') s
 | .scope b,Q,s=>cd P ag q b Q s
 | .loop b,Q,s=>∃I:Nat->St->Prop,(∃n t,cX q.2 s t/\I n t)/\∀n t,I n t->cd P ag q b (fun e s'=>match e with
  | .normal=>∃m g,m<n/\cX q.2 s' g/\I m g
  |e=>Q e s') t
 | .rangeFunc f h a b,Q,s=>q.2<=s.heap.length/\∃d:Env,(∀x,aN d x=aN s.env x)/\ju P (ev s.env f) s.heap.length (s.heap++[.loop ⟨.ready,none,q.1,h.toList,a,b,d⟩]) (iF s.heap.length s.env Q)
 | .exit id,Q,s=>Q (.exit id) s
 | .ret,Q,s=>Q .ret s
 |_,_,_=>False
def bA(fr:bb)(t:Array a5)(ds:List bk)(todo:List Item):bb:={fr with tmps:=t,defers:=ds,todo,mode:=.run}
section
variable{P:a0}{fr:bb}{t:Array a5}{ds:List bk}{k:List Item}{cs:List bb}{w:a7}
def fq(t:Array a5):a9->a5
 | .tmp x=>t.getD x undef
 | .const v=>v
 | .global g=>.pointer (some ⟨g,0,none⟩)
 | .func f=>.func (.func f) #[] #[]
theorem eval_eq(fr:bb):fr.eval=fq fr.tmps:=by funext x;cases x<;>rfl
theorem aC2:step P (lone (bA fr t ds (.code .skip::k)) cs w)=.next (lone (bA fr t ds k) cs w):=
 a6 (by simp[stepG,b4,bA])
theorem U6{l:Nat}:step P (lone (bA fr t ds (.code (.label l)::k)) cs w)=.next (lone (bA fr t ds k) cs w):=
 a6 (by simp[stepG,b4,bA])
theorem TN{id:Nat}:step P (lone (bA fr t ds (.inBlock id::k)) cs w)=.next (lone (bA fr t ds k) cs w):=
 a6 (by simp[stepG,b4,bA])
theorem TM{b:Code}:step P (lone (bA fr t ds (.inScope b::k)) cs w)=.next (lone (bA fr t ds k) cs w):=
 a6 (by simp[stepG,b4,bA])
theorem Co{a b:Code}:step P (lone (bA fr t ds (.code (.seq a b)::k)) cs w)=.next (lone (bA fr t ds (.code a::.code b::k)) cs w):=
 a6 (by simp[stepG,b4,bA])
theorem aCV{c:a9}{x y:Code}{b:Bool}(h:fq t c= .bool b):
 step P (lone (bA fr t ds (.code (.cond c x y)::k)) cs w)=.next (lone (bA fr t ds (.code (if b then x else y)::k)) cs w):=
 a6 (by simp[stepG,b4,bA,eval_eq,h])
theorem xE{id:Nat}{c:Code}:step P (lone (bA fr t ds (.code (.block id c)::k)) cs w)=.next (lone (bA fr t ds (.code c::.inBlock id::k)) cs w):=
 a6 (by simp[stepG,b4,bA])
theorem Bn{c:Code}:step P (lone (bA fr t ds (.code (.scope c)::k)) cs w)=.next (lone (bA fr t ds (.code c::.inScope c::k)) cs w):=
 a6 (by simp[stepG,b4,bA])
theorem aC0{c:Code}:step P (lone (bA fr t ds (.code (.loop c)::k)) cs w)=.next (lone (bA fr t ds (.code c::.inLoop c::k)) cs w):=
 a6 (by simp[stepG,b4,bA])
theorem Ua{c:Code}:step P (lone (bA fr t ds (.inLoop c::k)) cs w)=.next (lone (bA fr t ds (.code c::.inLoop c::k)) cs w):=
 a6 (by simp[stepG,b4,bA])
theorem aCX{id:Nat}{a:List Item}(h:exitTo id k=some a):step P (lone (bA fr t ds (.code (.exit id)::k)) cs w)=.next (lone (bA fr t ds a) cs w):=
 a6 (by simp[stepG,b4,bA,h])
theorem QF{id:Nat}{a:Array Oper}:
 step P (lone (bA fr t ds (.code (.region id a false)::k)) cs w)=.next (lone (bA fr t ds (.inRegion a (List.range a.size)::k)) cs w):=
 a6 (by simp[stepG,b4,bA])
theorem aCW{id:Nat}{a:Array Oper}:
 step P (lone (bA fr t ds (.code (.region id a true)::k)) cs w)=
  .next (lone (bA fr t ds (.inRegion a (Region.schedule (P.follows .mixedOrders) a (w.tape w.drawn (.order fr.fn id)))::k)) cs {w with drawn:=w.drawn+1}):=
 a6 (by simp[stepG,b4,bA,choose,Sem.run,Question.forced,Question.cut])
theorem Gu{a:Array Oper}:step P (lone (bA fr t ds (.inRegion a []::k)) cs w)=.next (lone (bA fr t ds k) cs w):=
 a6 (by simp[stepG,b4,bA])
def mH(dst:Option Tmp)(v:a5)(t:Array a5):Array a5:=
 match dst with
 |some d=>t.setIfInBounds d v
 |none=>t
theorem mQ{a:Array Oper}{i:Nat}{r:List Nat}{o:Oper}(c:a[i]?=some o)(v:a5):
 (bA fr t ds (.inRegion a (i::r)::k)).finish v=bA fr (mH o.dst v t) ds (.inRegion a r::k):=by
 cases b:o.dst<;>simp[Frame.finish,bA,c,b,mH]
theorem Im{a:Array Oper}{i:Nat}{r:List Nat}{o:Oper}(b:a[i]?=some o)(c:b0 o (yielded a t)=false):
 step P (lone (bA fr t ds (.inRegion a (i::r)::k)) cs w)=.next (lone (bA fr (mH o.dst undef t) ds (.inRegion a r::k)) cs w):=by
 rw[<-mQ b];exact a6 (by simp only[bA];simp[stepG,b4,b,c])
theorem Tm{o:Oper}(a:∀c,o.op≠ .defer c)(r:Option Nat)(A:Nat->Call->GStep)(B:GStep):
 (match r,o.op with
  |some l,.defer c=>A l c
  |_,_=>B)=B:=by
 cases r with
 |none=>rfl
 |some l=>cases h:o.op<;>first|rfl|exact absurd h (a _)
theorem aC1{a:Array Oper}{i:Nat}{r:List Nat}{o:Oper}{fr:bb}(e:fr.todo= .inRegion a (i::r)::k)(d:a[i]?=some o)(b:∀c,o.op≠ .defer c):
 cb P true fr cs none w=b5 P true fr cs none (be (fq fr.tmps) o) w:=by
 simp only[cb,Frame.oper?,e,d,eval_eq];exact Tm b _ _ _
theorem Bf{f:Bool}{a:Array Oper}{i:Nat}{r:List Nat}{o:Oper}(b:a[i]?=some o)(e:b0 o (yielded a t)=true)(d:∀c,o.op≠ .defer c):
 stepG P f {frame:=bA fr t ds (.inRegion a (i::r)::k),callers:=cs,status:=.running,dying:=none} w=
  b5 P true (bA fr t ds (.inRegion a (i::r)::k)) cs none (be (fq t) o) w:=by
 have h:=aC1 (P:=P) (cs:=cs) (w:=w) (fr:=bA fr t ds (.inRegion a (i::r)::k)) rfl b d;simp only[bA]at h⊢;simp[stepG,b4,b,e,h]
theorem rC{a:Array Oper}{i:Nat}{r:List Nat}{o:Oper}{n:Next}{b:a5}{w':a7}(d:a[i]?=some o)(h:b0 o (yielded a t)=true)
 (e:∀c,o.op≠.defer c)(g:(be (fq t) o).run P w=.ok n w')(f:n=.value b\/n=.skip/\b=undef):
 step P (lone (bA fr t ds (.inRegion a (i::r)::k)) cs w)=.next (lone (bA fr (mH o.dst b t) ds (.inRegion a r::k)) cs w'):=by
 rw[<-mQ d];refine a6 ?_;rw[Bf d h e];rcases f with rfl|⟨rfl,rfl⟩<;>simp[b5,g,bA]
theorem ub{a:Array Oper}{i:Nat}{r:List Nat}{o:Oper}{f:a8}{args:Array a5}{w':a7}(d:a[i]?=some o)(g:b0 o (yielded a t)=true)
 (b:∀c,o.op≠.defer c)(e:(be (fq t) o).run P w=.ok (.enter f args) w'):
 step P (lone (bA fr t ds (.inRegion a (i::r)::k)) cs w)=.next (lone (Frame.enter P f args .normal) (bA fr t ds (.inRegion a (i::r)::k)::cs) w'):=by
 refine a6 ?_;rw[Bf d g b];simp[b5,e,bA]
theorem HF{a:Array Oper}{i:Nat}{r:List Nat}{o:Oper}{l:Nat}{f:a8}{tmps:Array a5}{assign body:Code}{w':a7}(d:a[i]?=some o)(g:b0 o (yielded a t)=true)
 (b:∀c,o.op≠.defer c)(e:(be (fq t) o).run P w=.ok (.round l f tmps assign body) w'):
 step P (lone (bA fr t ds (.inRegion a (i::r)::k)) cs w)=.next (lone (Frame.round l f tmps assign body .normal) (bA fr t ds (.inRegion a (i::r)::k)::cs) w'):=by
 refine a6 ?_;rw[Bf d g b];simp[b5,e,bA]
end
end Go.al
namespace Go.al
variable[Gl]
mutual
theorem aB.mono{S T:Nat×Nat->Prop}(h:∀x,S x->T x):∀v,aB S v->aB T v
 | .p _,_=>by simp[aB]
 | .ptr b _,c| .b6 b _ _ _ _,c| .sl b _ _ _ _,c| .map b,c=>by simp only[aB]at*;exact h _ c
 | .func _ a b,c=>by simp only[aB]at*;exact⟨aQ.mono h a c.1,aQ.mono h b c.2⟩
 | .st _ fs,c=>by simp only[aB]at*;exact aQ.mono h fs c
 | .aD vs,c=>by simp only[aB]at*;exact aQ.mono h vs c
theorem aQ.mono{S T:Nat×Nat->Prop}(h:∀x,S x->T x):∀vs,aQ S vs->aQ T vs
 |[],_=>by simp[aQ]
 |v::vs,c=>by simp only[aQ]at*;exact⟨aB.mono h v c.1,aQ.mono h vs c.2⟩
end
structure cN(P:a0)(n:Nat)(ah aa:Nat->Prop)(β:Bd)(s:St)(t:Array a5)(w:a7):Prop where
 heap:bP P w aa β s.heap ah
 env:∀x,aw P w aa β s.heap (aN s.env x) (t.getD x undef)
 gh:∀x,aB (aG s.heap) (aN s.env x)
 size:t.size=n
structure oN(N:Nat)(β:Bd)(H:Heap)(aH:Bd)(H':Heap):Prop where
 box:∀b,b<N->aG H (b,0)->l9 H' b->l9 H b/\aH.ak b=β.ak b
 it:∀b,b<N->aG H (b,0)->ma H' b->ma H b/\aH.ak b=β.ak b
 map:∀b,b<N->aG H (b,0)->nw H' b->nw H b/\aH.ak b=β.ak b
 arr:∀b ar ai k es,b<N->aG H (b,ar)->eA H' b ar ai k es->∃k0 gl,eA H b ar ai k0 gl/\gl.length<=es.length/\(c7 k es↔c7 k0 gl)/\(¬c7 k es->aH.ak b=β.ak b/\aH.cap b=β.cap b)
 loop:∀b,b<N->aG H (b,0)->gA H' b->gA H b/\aH.ak b=β.ak b
theorem ch.n{N:Nat}{β:Bd}{H:Heap}{aH:Bd}{H':Heap}(h:ch β H aH H'):oN N β H aH H':=
 ⟨fun b _=>h.box b,fun b _=>h.it b,fun b _=>h.map b,fun b ar ai k es _=>h.arr b ar ai k es,fun b _=>h.loop b⟩
theorem oN.full{β:Bd}{H:Heap}{aH:Bd}{H':Heap}(h:oN H.length β H aH H'):ch β H aH H':=by
 have lt:∀b v,aG H (b,v)->b<H.length:=fun b v⟨o,c,_⟩=>(ck.1 c).1;exact⟨fun b x=>h.box b (lt _ _ x) x,fun b x=>h.it b (lt _ _ x) x,fun b x=>h.map b (lt _ _ x) x,fun b ar ai k a x=>h.arr b ar ai k a (lt _ _ x) x,fun b x=>h.loop b (lt _ _ x) x⟩
theorem oN.trans{N:Nat}{β l m:Bd}{H H1 j:Heap}(h:oN N β H l H1)(hi:∀x,x.1<N->aG H x->aG H1 x)(i:oN N l H1 m j):oN N β H m j:=by
 refine⟨?_,?_,?_,?_,?_⟩
 ·intro b a c g;obtain⟨d,a2⟩:=i.box b a (hi (b,0) a c) g;obtain⟨e,f⟩:=h.box b a c d;exact⟨e,a2.trans f⟩
 ·intro b a c g;obtain⟨d,a2⟩:=i.it b a (hi (b,0) a c) g;obtain⟨e,f⟩:=h.it b a c d;exact⟨e,a2.trans f⟩
 ·intro b a c g;obtain⟨d,a2⟩:=i.map b a (hi (b,0) a c) g;obtain⟨e,f⟩:=h.map b a c d;exact⟨e,a2.trans f⟩
 ·intro b ar ai k p a c g;obtain⟨k1,q,d,a2,a3,a4⟩:=i.arr b ar ai k p a (hi (b,ar) a c) g;obtain⟨k0,gl,e,f,n,o⟩:=h.arr b ar ai k1 q a c d;refine⟨k0,gl,e,ec f a2,a3.trans n,fun a=>?_⟩;obtain⟨c1,c2⟩:=a4 a;obtain⟨d1,d2⟩:=o (fun x=>a (a3.2 x));exact⟨c1.trans d1,c2.trans d2⟩
 ·intro b a c g;obtain⟨d,a2⟩:=i.loop b a (hi (b,0) a c) g;obtain⟨e,f⟩:=h.loop b a c d;exact⟨e,a2.trans f⟩
structure dI(N:Nat)(ah aa:Nat->Prop)(w:a7)(β:Bd)(H:Heap)(jF aE:Nat->Prop)(w':a7)(aH:Bd)(H':Heap):Prop where
 dS:∀k,ah k->jF k
 bR:∀k,aa k->aE k
 fresh:∀k,aE k->aa k\/¬ah k
 ext:Ext ah aa w w'
 step:oN N β H aH H'
 eL:∀x,x.1<N->aG H x->aG H' x
 loop:∀b,b<N->gA H b->gA H' b
theorem dI.refl(N:Nat)(ah aa:Nat->Prop)(w:a7)(β:Bd)(H:Heap):dI N ah aa w β H ah aa w β H:=
 ⟨fun _ h=>h,fun _ h=>h,fun _ h=>.inl h,Ext.refl _ _ _,(ch.refl _ _).n,fun _ _ h=>h,fun _ _ h=>h⟩
theorem Ext.trans{ah aa jF aE:Nat->Prop}{w w1 b:a7}(c:∀k,ah k->jF k)(hi:∀k,aa k->aE k)(h:Ext ah aa w w1)(a:Ext jF aE w1 b):Ext ah aa w b:=
 ⟨ec h.size a.size,fun k hk=>(a.same k (hk.imp (c k) (hi k))).trans (h.same k hk),a.io.1.trans h.io.1,a.io.2.trans h.io.2⟩
theorem dI.trans{N:Nat}{ah aa g e i f:Nat->Prop}{w w1 j:a7}{β l m:Bd}{H H1 d:Heap}(h:dI N ah aa w β H g e w1 l H1)(a:dI N g e w1 l H1 i f j m d):dI N ah aa w β H i f j m d:=
 ⟨fun k x=>a.dS k (h.dS k x),fun k x=>a.bR k (h.bR k x),fun k x=>(a.fresh k x).elim (fun y=>h.fresh k y) (fun y=>.inr fun z=>y (h.dS k z)),h.ext.trans h.dS h.bR a.ext,
  h.step.trans h.eL a.step,fun x c hx=>a.eL x c (h.eL x c hx),fun b c n=>a.loop b c (h.loop b c n)⟩
theorem bV.eU{P:a0}{N:Nat}{ah aa aE:Nat->Prop}{w w':a7}{β aH:Bd}{H H':Heap}(h:bV P ah aa w β H aE w' aH H'):dI N ah aa w β H ah aE w' aH H':=
 ⟨fun _ x=>x,h.bR,h.fresh,h.ext,h.step.n,fun x _=>h.eL x,fun b _=>h.loop b⟩
section
variable{P:a0}{ah aa aE:Nat->Prop}{w w':a7}{β aH:Bd}{H H':Heap}
theorem eQ.uv(a:w'.heap=w.heap){b:Nat}{o:Obj}(h:eQ P w aa β H ah b o)(g:o.refs (aG H)):eQ P w' aa β H ah b o:=by
 have p:=fun(v:AV) cs m=>bm.mono (P:=P) (w:=w) (w':=w') (aa:=aa) (aE:=aa) (β:=β) (aH:=β) (H:=H) (H':=H) (fun _ x=>x) (fun k _=>by rw[a]) (ch.refl β H) v cs m;have q:=fun l(v:List AV) cs m=>bJ.mono (P:=P) (w:=w) (w':=w') (aa:=aa) (aE:=aa) (β:=β) (aH:=β) (H:=H) (H':=H) (fun _ x=>x) (fun k _=>by rw[a]) (ch.refl β H) l v cs m;have r:=fun(i:List (PV×PV)) f=>cz.mono (P:=P) (w:=w) (w':=w') (aa:=aa) (aE:=aa) (fun _ x=>x) (fun k _=>by rw[a]) i f;cases o with
 |hole=>trivial
 |dead=>trivial
 |box fz t=>
  obtain⟨cs,T,c,d,e⟩:=h;exact⟨cs,T,by rw[a];exact c,p _ _ g d,e⟩
 |arr k ar ai i=>
  rcases h with h|⟨cs,T,n,rest,c,d,e⟩
  ·exact .inl h
  ·exact .inr ⟨cs,T,n,rest,by rw[a];exact c,q _ _ _ g d,e⟩
 |map fz i=>
  obtain⟨f,clock,c,d,e⟩:=h;exact⟨f,clock,by rw[a];exact c,r _ _ d,e⟩
 |dm ks vs=>
  obtain⟨f,clock,c,d,e,j⟩:=h;exact⟨f,clock,by rw[a];exact c,bn.mono (fun _ x=>x) (fun _ _=>by rw[a]) _ _ d,bw.mono (fun _ x=>x) (fun _ _=>by rw[a]) (ch.refl _ _) _ _ g e,j⟩
 |dv s pos=>
  obtain⟨bs,c,d⟩:=h;exact⟨bs,by rw[a];exact c,d⟩
 |loop L=>
  obtain⟨tmps,defers,fn,c,d,e,j⟩:=h;exact⟨tmps,defers,fn,by rw[a];exact c,d,fun x=>aw.mono (fun _ x=>x) (fun _ _=>by rw[a]) (ch.refl _ _) _ _ (g x) (e x),j⟩
theorem bP.uv(a:w'.heap=w.heap)(h:bP P w aa β H ah):bP P w' aa β H ah:=
 ⟨fun b o c=>(h.cE b o c).uv a (h.refs b o c),h.inj,h.refs,fun k hk=>by rw[a];exact h.bR k hk,fun k hk=>by rw[a];exact h.dS k hk,h.gV.mono (fun _ x=>x) (fun _ _=>by rw[a])⟩
theorem bP.l7(h:bP P w aa β H ah){b:Nat}{o:Obj}(f:H[b]?=some o)(d:o.live):β.ak b<w.heap.size:=by
 have c:=h.cE b o f;cases o with
 |hole=>exact d.elim
 |dead=>exact d.elim
 |box fz t=>obtain⟨cs,T,a,_⟩:=c;exact(av.1 a).1
 |arr k ar ai es=>
  rcases c with c|⟨cs,T,g,rest,a,_⟩
  ·exact(d c).elim
  ·exact(av.1 a).1
 |map fz es=>obtain⟨e,clock,a,_⟩:=c;exact(av.1 a).1
 |dm ks vs=>obtain⟨e,clock,a,_⟩:=c;exact(av.1 a).1
 |dv s pos=>obtain⟨bs,a,_⟩:=c;exact(av.1 a).1
 |loop L=>obtain⟨_,_,_,a,_⟩:=c;exact(av.1 a).1
theorem bV.set{b:Nat}{o':Obj}(i:bP P w aa β H ah)(r:b<H.length)(n:∀x,x≠b->aH.ak x=β.ak x/\aH.cap x=β.cap x)
 (g:∀k,aa k->aE k)(Q:∀k,aE k->aa k\/(k=aH.ak b/\o'.live))(ag:∀k,aE k->k<w'.heap.size)
 (V:w.heap.size<=w'.heap.size)(J:∀k,(k≠aH.ak b\/¬o'.live)->k<w.heap.size->w'.heap[k]?=w.heap[k]?)
 (F:o'.live->w.heap.size<=aH.ak b\/(aH.ak b=β.ak b/\(∃o,H[b]?=some o/\o.live)/\((∀k,k=β.ak b->w'.heap[k]?=w.heap[k]?)\/¬aa (β.ak b))/\¬ah (β.ak b)))
 (aK:ch β H aH (H.set b o'))(al:eQ P w' aE aH (H.set b o') ah b o')(am:o'.refs (aG (H.set b o')))(ak:∀(o:Obj)(v:Nat),H[b]?=some o->o.has v->o'.has v)(af:∀L,H[b]?=some (.loop L)->∃C,o'=.loop C)(ae:w'.os=w.os/\w'.output=w.output:=by exact⟨rfl,rfl⟩):
 bV P ah aa w β H aE w' aH (H.set b o'):=by
 have A:∀x o,x≠b->H[x]?=some o->o.live->¬aa (β.ak x)->o'.live->β.ak x≠aH.ak b:=by
  intro x o hx d e j u he;rcases F u with a|⟨a,⟨an,c,f⟩,_⟩
  ·have:=i.l7 d e;omega
  ·rw[a]at he;exact hx (i.inj x b o an d c e f j he)
 have U:o'.live->¬ah (aH.ak b):=by
  intro e G;rcases F e with a|⟨a,_,_,c⟩
  ·have:=i.dS _ G;omega
  ·rw[a]at G;exact c G
 have l:∀k,ah k\/aa k->w'.heap[k]?=w.heap[k]?:=by
  intro k hk;have R:k<w.heap.size:=hk.elim (i.dS k) (i.bR k)
  by_cases z:k=aH.ak b
  ·by_cases e:o'.live
   ·rcases hk with hk|hk
    ·exact(U e (z▸hk)).elim
    ·rcases F e with a|⟨a,_,c,_⟩
     ·omega
     ·rcases c with c|c
      ·exact c k (z.trans a)
      ·exact(c (by rw[<-a,<-z];exact hk)).elim
   ·exact J k (.inr e) R
  ·exact J k (.inl z) R
 have aj:∀x,aG H x->aG (H.set b o') x:=by
  rintro⟨x,v⟩ ⟨o,d,S⟩
  by_cases hx:x=b
  ·subst hx;exact⟨o',by simp[cv r],ak o v d S⟩
  ·exact⟨o,by simp only;rw[ce (ei hx)];exact d,S⟩
 have hrefs:∀v,aB (aG H) v->aB (aG (H.set b o')) v:=aB.mono aj;refine⟨g,fun k hk=>(Q k hk).imp id (fun(h:k=aH.ak b/\o'.live)=>h.1▸U h.2),⟨V,l,ae⟩,aK,⟨?_,?_,?_,ag,fun k hk=>ed (i.dS k hk) V,i.gV.mono g (fun k hk=>l k (.inr hk))⟩,aj,?_⟩
 ·intro x o d
  by_cases hx:x=b
  ·subst hx;rw[cv r]at d;cases d;exact al
  ·rw[ce (ei hx)]at d;have m:=i.cE x o d;have B:=i.refs x o d;have O:=(n x hx).1;have E:=(n x hx).2;have hs:o.live->w'.heap[aH.ak x]?=w.heap[β.ak x]?:=by
    intro e;rw[O]
    by_cases j:aa (β.ak x)
    ·exact l _ (.inr j)
    refine J _ ?_ (i.l7 d e)
    by_cases u:o'.live
    ·exact .inl (A x o hx d e j u)
    ·exact .inr u
   have held:∀fz,o.live->cw aa β ah fz x->cw aE aH ah fz x:=by
    intro fz e q;unfold cw at q⊢;rw[O];cases fz with
    |true=>simp only[if_true]at q⊢;exact g _ q
    |false=>
     simp only[Bool.false_eq_true,if_false]at q⊢;refine⟨fun h=>?_,q.2⟩;rcases Q _ h with h|⟨h,u⟩
     ·exact q.1 h
     ·exact A x o hx d e q.1 u h
   cases o with
   |hole=>trivial
   |dead=>trivial
   |box fz t=>
    obtain⟨cs,T,a,c,f,p⟩:=m;exact⟨cs,T,(hs trivial).trans a,bm.mono g (fun k hk=>l k (.inr hk)) aK _ _ B c,held _ trivial f,p⟩
   |arr k ar ai es=>
    rcases m with m|⟨cs,T,Y,rest,a,c,f,p,Z,ab,ac,ad⟩
    ·exact .inl m
    ·by_cases e:c7 k es
     ·exact .inl e
     ·refine .inr ⟨cs,T,Y,rest,(hs e).trans a,bJ.mono g (fun k hk=>l k (.inr hk)) aK _ _ _ B c,f,?_,?_,?_,held _ e ac,ad⟩
      ·rw[E];exact p
      ·rw[E];exact Z
      ·rw[E];exact ab
   |map fz es=>
    obtain⟨D,clock,a,c,f⟩:=m;exact⟨D,clock,(hs trivial).trans a,cz.mono g (fun k hk=>l k (.inr hk)) _ _ c,held _ trivial f⟩
   |dm ks vs=>
    obtain⟨D,clock,a,c,f,p⟩:=m;exact⟨D,clock,(hs trivial).trans a,bn.mono g (fun k hk=>l k (.inr hk)) _ _ c,bw.mono g (fun k hk=>l k (.inr hk)) aK _ _ B f,held _ trivial p⟩
   |dv s pos=>
    obtain⟨bs,a,c,f⟩:=m;exact⟨bs,(hs trivial).trans a,c,held _ trivial f⟩
   |loop L=>
    obtain⟨tmps,defers,fn,a,c,f,p⟩:=m;exact⟨tmps,defers,fn,(hs trivial).trans a,c,fun x=>aw.mono g (fun k hk=>l k (.inr hk)) aK _ _ (B x) (f x),held _ trivial p⟩
 ·intro x y W X a c K M j he
  by_cases hx:x=b<;>by_cases hy:y=b
  ·rw[hx,hy]
  ·subst hx;rw[cv r]at a;cases a;rw[ce (ei hy)]at c;rw[(n y hy).1]at he;exact(A y X hy c M (fun hi=>j (he▸g _ hi)) K he.symm).elim
  ·subst hy;rw[cv r]at c;cases c;rw[ce (ei hx)]at a;rw[(n x hx).1]at he;rw[(n x hx).1]at j;exact(A x W hx a K (fun hi=>j (g _ hi)) M he).elim
  ·rw[ce (ei hx)]at a;rw[ce (ei hy)]at c;rw[(n x hx).1,(n y hy).1]at he;rw[(n x hx).1]at j;exact i.inj x y W X a c K M (fun hi=>j (g _ hi)) he
 ·intro x o d
  by_cases hx:x=b
  ·subst hx;rw[cv r]at d;cases d;exact am
  ·rw[ce (ei hx)]at d;have:=i.refs x o d;cases o with
   |box fz t=>exact hrefs _ this
   |arr k ar ai es=>exact cG.2 fun v I=>hrefs v (cG.1 this v I)
   |dm ks vs=>exact cG.2 fun v I=>hrefs v (cG.1 this v I)
   |loop L=>exact fun x=>hrefs _ (this x)
   |_=>trivial
 ·rintro x ⟨L,N⟩
  by_cases hx:x=b
  ·subst hx;obtain⟨C,rfl⟩:=af L N;exact⟨C,cv r⟩
  ·exact⟨L,by rw[ce (ei hx)];exact N⟩
end
end Go.al
namespace Go.al
variable[Gl]
def bp(P:a0)(o:Oper)(ρ:a9->AV)(a:Nat)(e:aU):Prop:=
 ∀(H:Heap)(w:a7)(aa ah:Nat->Prop)(β:Bd)(ρc:a9->a5),
  bP P w aa β H ah->(∀x∈o.op.operands,aw P w aa β H (ρ x) (ρc x)/\aB (aG H) (ρ x))->(∀p∈e.aj,H[p.1]?=some p.2)->(∀i,i<e.aR.length->H[a+i]?=some .hole)->
  ∃n b w' aH aE,(be ρc o).run P w=.ok n w'/\(n=.value b\/n=.skip/\b=undef)/\
   bV P ah aa w β H aE w' aH (ba H (e.aJ++newAt a e.aR))/\aw P w' aE aH (ba H (e.aJ++newAt a e.aR)) e.v b/\
   aB (aG (ba H (e.aJ++newAt a e.aR))) e.v
section
variable{P:a0}{ah aa aE:Nat->Prop}{w w':a7}{β aH:Bd}{H H':Heap}
theorem bV.refl(h:bP P w aa β H ah):bV P ah aa w β H aa w β H:=
 ⟨fun _ x=>x,fun _ x=>.inl x,Ext.refl _ _ _,ch.refl _ _,h,fun _ x=>x,fun _ x=>x⟩
theorem bp.same{o:Oper}{ρ:a9->AV}{c:Nat}{v:AV}{aj:List (Nat×Obj)}
 (h:∀(H:Heap)(w:a7)(aa ah:Nat->Prop)(β:Bd)(ρc:a9->a5),bP P w aa β H ah->(∀x∈o.op.operands,aw P w aa β H (ρ x) (ρc x)/\aB (aG H) (ρ x))->
  (∀p∈aj,H[p.1]?=some p.2)->∃a,(be ρc o).run P w=.ok (.value a) w/\aw P w aa β H v a/\aB (aG H) v):
 bp P o ρ c {v,aj}:=by
 intro H w aa ah β ρc b i g _;obtain⟨a,d,e,f⟩:=h H w aa ah β ρc b i g;exact⟨_,a,w,β,aa,d,.inl rfl,by simpa[newAt,ba]using bV.refl b,by simpa[newAt,ba]using e,by simpa[newAt,ba]using f⟩
theorem bV.trans{j l:Nat->Prop}{w1 n:a7}{o p:Bd}{H1 i:Heap}(h:bV P ah aa w β H j w1 o H1)(c:bV P ah j w1 o H1 l n p i):bV P ah aa w β H l n p i:=by
 refine⟨fun k x=>c.bR k (h.bR k x),fun k x=>(c.fresh k x).elim (h.fresh k) .inr,h.ext.trans (fun _ x=>x) h.bR c.ext,⟨?_,?_,?_,?_,?_⟩,c.rel,fun b a=>c.eL b (h.eL _ a),fun b a=>c.loop b (h.loop b a)⟩
 ·intro b a g;obtain⟨d,a2⟩:=c.step.box b (h.eL _ a) g;obtain⟨e,f⟩:=h.step.box b a d;exact⟨e,a2.trans f⟩
 ·intro b a g;obtain⟨d,a2⟩:=c.step.it b (h.eL _ a) g;obtain⟨e,f⟩:=h.step.it b a d;exact⟨e,a2.trans f⟩
 ·intro b a g;obtain⟨d,a2⟩:=c.step.map b (h.eL _ a) g;obtain⟨e,f⟩:=h.step.map b a d;exact⟨e,a2.trans f⟩
 ·intro b ar ai k s a g;obtain⟨k1,t,d,a2,a3,a4⟩:=c.step.arr b ar ai k s (h.eL _ a) g;obtain⟨k0,gl,e,f,q,r⟩:=h.step.arr b ar ai k1 t a d;refine⟨k0,gl,e,ec f a2,a3.trans q,fun m=>?_⟩;obtain⟨c1,c2⟩:=a4 m;obtain⟨d1,d2⟩:=r (fun x=>m (a3.2 x));exact⟨c1.trans d1,c2.trans d2⟩
 ·intro b a g;obtain⟨d,a2⟩:=c.step.loop b (h.eL _ a) g;obtain⟨e,f⟩:=h.step.loop b a d;exact⟨e,a2.trans f⟩
theorem Ah(H:Heap)(l r:List (Nat×Obj)):ba H (l++r)=ba (ba H l) r:=by
 induction l generalizing H with
 |nil=>rfl
 |cons p l a=>obtain⟨b,o⟩:=p;simp[ba,a]
theorem nW(H:Heap)(l:List (Nat×Obj)):(ba H l).length=H.length:=by
 induction l generalizing H with
 |nil=>rfl
 |cons p l a=>obtain⟨b,o⟩:=p;simp[ba,a]
theorem wQ(H T:Heap)(l:List (Nat×Obj))(h:∀p∈l,p.1<H.length):ba (H++T) l=ba H l++T:=by
 induction l generalizing H with
 |nil=>rfl
 |cons p l c=>
  obtain⟨b,o⟩:=p;have a:b<H.length:=h (b,o) (by simp);simp only[ba];rw[List.set_append_left _ _ a,c];intro q hq;rw[List.length_set];exact h q (by simp[hq])
theorem Aw(H:Heap)(l:List Obj):ba (H++cc l.length .hole) (newAt H.length l)=H++l:=by
 induction l generalizing H with
 |nil=>simp[newAt,ba]
 |cons o l a=>
  simp only[newAt,ba,dz,dk];rw[List.set_append_right _ _ (eb _)];simp only[Nat.sub_self,dl];have:=a (H++[o]);simp only[dp,List.length_singleton,dq,List.singleton_append]at this;exact this
theorem jI(H:Heap)(m b:Nat):(H++cc m Obj.hole)[b]?=if b<H.length then H[b]? else if b<H.length+m then some .hole else none:=by
 by_cases h:b<H.length
 ·simp[h,cx]
 ·rw[c6 (by omega)];simp only[List.getElem?_replicate,h,if_false]
  by_cases a:b<H.length+m
  ·simp[a,show b-H.length<m by omega]
  ·simp[a,show¬(b-H.length<m)by omega]
theorem mP{H:Heap}{m b:Nat}{o:Obj}(h:(H++cc m Obj.hole)[b]?=some o):H[b]?=some o\/o=.hole:=by
 rw[jI]at h
 split at h
 ·exact .inl h
 ·split at h
  ·exact .inr (by simpa using h.symm)
  ·simp at h
theorem lY(H:Heap)(m:Nat)(b:Nat×Nat)(h:aG H b):aG (H++cc m Obj.hole) b:=by
 obtain⟨o,a,d⟩:=h;have c:b.1<H.length:=(ck.1 a).1;exact⟨o,by rw[jI,if_pos c];exact a,d⟩
theorem nY(β:Bd)(H:Heap)(m:Nat):ch β H β (H++cc m .hole):=by
 refine⟨?_,?_,?_,?_,?_⟩
 ·rintro b _ ⟨fz,t,h⟩;rcases mP h with h|h<;>simp_all [l9]
 ·rintro b _ ⟨fz,t,h⟩;rcases mP h with h|h<;>simp_all [ma]
 ·rintro b _ ⟨o,h,a⟩;rcases mP h with h|rfl
  ·exact⟨⟨o,h,a⟩,rfl⟩
  ·exact a.elim
 ·intro b ar ai k c _ h;rcases mP h with h|h
  ·exact⟨k,c,h,eb _,Iff.rfl,fun _=>⟨rfl,rfl⟩⟩
  ·simp at h
 ·rintro b _ ⟨L,h⟩;rcases mP h with h|h<;>simp_all [gA]
theorem Obj.ux{S T:Nat×Nat->Prop}(h:∀x,S x->T x):∀{o:Obj},o.refs S->o.refs T
 | .box _ t,a=>aB.mono h t a
 | .arr _ _ _ es,a=>aQ.mono h es a
 | .dm _ vs,a=>aQ.mono h vs a
 | .loop _L,a=>fun x=>aB.mono h _ (a x)
 | .hole,_| .dead,_| .map _ _,_| .dv _ _,_=>trivial
theorem bP.mr(m:Nat)(h:bP P w aa β H ah):bP P w aa β (H++cc m .hole) ah:=by
 refine⟨?_,?_,?_,h.bR,h.dS,h.gV⟩
 ·intro b o d;rcases mP d with d|rfl
  ·have e:=h.cE b o d;have g:=h.refs b o d;have st:=nY β H m;cases o with
   |hole=>trivial
   |dead=>trivial
   |box fz t=>
    obtain⟨cs,T,a,c,f⟩:=e;exact⟨cs,T,a,bm.mono (fun _ x=>x) (fun _ _=>rfl) st _ _ g c,f⟩
   |arr k ar ai es=>
    rcases e with e|⟨cs,T,n,rest,a,c,f⟩
    ·exact .inl e
    ·exact .inr ⟨cs,T,n,rest,a,bJ.mono (fun _ x=>x) (fun _ _=>rfl) st _ _ _ g c,f⟩
   |map fz es=>exact e
   |dm ks vs=>
    obtain⟨p,clock,a,c,f,i⟩:=e;exact⟨p,clock,a,c,bw.mono (fun _ x=>x) (fun _ _=>rfl) st _ _ g f,i⟩
   |dv s pos=>exact e
   |loop L=>
    obtain⟨tmps,defers,fn,a,c,f,i⟩:=e;exact⟨tmps,defers,fn,a,c,fun x=>aw.mono (fun _ x=>x) (fun _ _=>rfl) st _ _ (g x) (f x),i⟩
  ·trivial
 ·intro x y u v a c j l r q;rcases mP a with a|rfl
  ·rcases mP c with c|rfl
   ·exact h.inj x y u v a c j l r q
   ·exact l.elim
  ·exact j.elim
 ·intro b o d;rcases mP d with d|rfl
  ·exact Obj.ux (lY H m) (h.refs b o d)
  ·trivial
theorem bp.use{o:Oper}{ρ:a9->AV}{e:aU}(h:bp P o ρ H.length e){ρc:a9->a5}(k:bP P w aa β H ah)
 (c:∀x∈o.op.operands,aw P w aa β H (ρ x) (ρc x)/\aB (aG H) (ρ x))(aj:∀p∈e.aj,H[p.1]?=some p.2)(aJ:∀p∈e.aJ,p.1<H.length):
 ∃n a w' aH aE,(be ρc o).run P w=.ok n w'/\(n=.value a\/n=.skip/\a=undef)/\
  bV P ah aa w β H aE w' aH (ba H e.aJ++e.aR)/\aw P w' aE aH (ba H e.aJ++e.aR) e.v a/\aB (aG (ba H e.aJ++e.aR)) e.v:=by
 have aK:=nY β H e.aR.length;obtain⟨n,a,w',aH,aE,m,q,d,f,g⟩:=h (H++cc e.aR.length .hole) w aa ah β ρc (k.mr _)
  (fun x hx=>⟨aw.mono (fun _ x=>x) (fun _ _=>rfl) aK _ _ (c x hx).2 (c x hx).1,aB.mono (lY _ _) _ (c x hx).2⟩)
  (fun p s=>by have:=aj p s;rw[jI,if_pos (ck.1 this).1];exact this)
  (fun i hi=>by rw[jI,if_neg (by omega),if_pos (by omega)])
 have r:ba (H++cc e.aR.length .hole) (e.aJ++newAt H.length e.aR)=ba H e.aJ++e.aR:=by
  rw[Ah,wQ _ _ _ aJ];have:=Aw (ba H e.aJ) e.aR
  rwa [nW]at this
 rw[r]at d f g;refine⟨n,a,w',aH,aE,m,q,?_,f,g⟩;have l:bV P ah aa w β H aa w β (H++cc e.aR.length .hole):=⟨fun _ x=>x,fun _ x=>.inl x,Ext.refl _ _ _,aK,k.mr _,lY _ _,fun b⟨L,j⟩=>⟨L,by rw[jI,if_pos (ck.1 j).1];exact j⟩⟩
 exact l.trans d
theorem qI.use{f:a8}{args:List AV}{e:aU}(h:qI P f args H.length e)(m:oT H e){c:List a5}(n:bP P w aa β H ah)(r:bw P w aa β H args c)(o:aQ (aG H) args):
 bv P f c.toArray w fun x w'=>∃a aH aE,x=.returned a/\bV P ah aa w β H aE w' aH (ba H e.aJ++e.aR)/\aw P w' aE aH (ba H e.aJ++e.aR) e.v a/\aB (aG (ba H e.aJ++e.aR)) e.v:=by
 have aK:=nY β H e.aR.length;refine(h.2 (H++cc e.aR.length .hole) w aa ah β c (n.mr _)
  (bw.mono (fun _ x=>x) (fun _ _=>rfl) aK _ _ o r) (aQ.mono (lY _ _) _ o)
  (fun p d=>by have:=m.1 p d;rw[jI,if_pos (ck.1 this).1];exact this)
  (fun i hi=>by rw[jI,if_neg (by omega),if_pos (by omega)])).mono ?_
 rintro x w' ⟨a,aH,aE,rfl,g,j,k⟩;have s:ba (H++cc e.aR.length .hole) (e.aJ++newAt H.length e.aR)=ba H e.aJ++e.aR:=by
  rw[Ah,wQ _ _ _ (fun p d=>(m.2 p d).1)];have:=Aw (ba H e.aJ) e.aR
  rwa [nW]at this
 rw[s]at g j k;have q:bV P ah aa w β H aa w β (H++cc e.aR.length .hole):=⟨fun _ x=>x,fun _ x=>.inl x,Ext.refl _ _ _,aK,n.mr _,lY _ _,fun b⟨L,l⟩=>⟨L,by rw[jI,if_pos (ck.1 l).1];exact l⟩⟩
 exact⟨a,aH,aE,rfl,q.trans g,j,k⟩
end
def kU(P:a0)(ag:a8->Bool):Prop:=
 ∀(o:Oper)(ρ:a9->AV)(H:Heap)(K:aU->Prop),(∀v,ρ (.const v)=.p (ofConst v))->fp P ag o ρ H K->
  ∃e,K e/\bp P o ρ H.length e/\(∀p∈e.aj,H[p.1]?=some p.2)/\(∀p∈e.aJ,p.1<H.length/\p.2≠.hole)
section
variable{P:a0}{ag:a8->Bool}{n:Nat}
theorem GV{w:a7}{aa:Nat->Prop}(v:a5):aA P w aa (ofConst v) v:=by
 unfold ofConst
 split<;>simp[aA]
theorem ny{ah aa:Nat->Prop}{β:Bd}{s:St}{t:Array a5}{w:a7}(h:cN P n ah aa β s t w)(x:a9):
 aw P w aa β s.heap (ev s.env x) (fq t x)/\aB (aG s.heap) (ev s.env x):=by
 cases x with
 |tmp x=>exact⟨h.env x,h.gh x⟩
 |const v=>exact⟨by simp only[ev,fq,aw];exact GV v,by simp[ev,aB]⟩
 |global g=>exact⟨by simp only[ev,fq,aw];exact h.heap.gV.val g,by simp[ev,aB]⟩
 |func f=>exact⟨by simp[ev,fq,aw,aA,bn],by simp[ev,aB]⟩
def iI(n:Nat)(o:Oper):Bool:=
 match o.dst with
 |some d=>decide (d<n)
 |none=>true
theorem ui(e:Env)(dst:Option Tmp)(v:AV)(x:Nat):aN (put dst v e) x=if dst=some x then v else aN e x:=by
 cases dst with
 |none=>simp[put]
 |some d=>
  simp only[put,aN,Option.some.injEq]
  by_cases h:x=d
  ·simp[h]
  ·simp[h,ei h]
theorem U3{n:Nat}{o:Oper}(a:iI n o=true){t:Array a5}(c:t.size=n)(v:a5)(x:Nat):(mH o.dst v t).getD x undef=if o.dst=some x then v else t.getD x undef:=by
 unfold iI at a;cases b:o.dst with
 |none=>simp[mH]
 |some d=>
  simp only[b,decide_eq_true_eq]at a;simp only[mH,Option.some.injEq]
  by_cases h:d=x
  ·subst h;simp[c,a]
  ·simp only[h,if_false,Array.getD_eq_getD_getElem?,Array.getElem?_setIfInBounds_ne h]
theorem UF{t:Array a5}(dst:Option Tmp)(v:a5):(mH dst v t).size=t.size:=by cases dst<;>simp[mH]
theorem cN.put{ah aa aE:Nat->Prop}{β aH:Bd}{s:St}{H':Heap}{t:Array a5}{w w':a7}{o:Oper}{v:AV}{b:a5}(h:cN P n ah aa β s t w)(c:iI n o=true)
 (a:bV P ah aa w β s.heap aE w' aH H')(e:aw P w' aE aH H' v b)(d:aB (aG H') v):
 cN P n ah aE aH ⟨put o.dst v s.env,H'⟩ (mH o.dst b t) w':=by
 refine⟨a.rel,fun x=>?_,fun x=>?_,by rw[UF];exact h.size⟩
 ·rw[ui,U3 c h.size]
  split
  ·exact e
  ·exact aw.mono a.bR (fun k hk=>a.ext.same k (.inr hk)) a.step _ _ (h.gh x) (h.env x)
 ·rw[ui]
  split
  ·exact d
  ·exact aB.mono a.eL _ (h.gh x)
theorem IK{H T:Heap}{b:Nat×Nat}(h:aG H b):aG (H++T) b:=by
 obtain⟨o,a,c⟩:=h;exact⟨o,by rw[cx (ck.1 a).1];exact a,c⟩
theorem bP.later{ah aa aE:Nat->Prop}{w w':a7}{β:Bd}{H:Heap}(h:bP P w aa β H ah)(e:∀k,aa k->aE k)(hf:∀k,aE k->aa k\/w.heap.size<=k)
 (B:∀k,aE k->k<w'.heap.size)(q:w.heap.size<=w'.heap.size)(hs:∀k,k<w.heap.size->w'.heap[k]?=w.heap[k]?)(A:w'.os=w.os/\w'.output=w.output:=by exact⟨rfl,rfl⟩):bV P ah aa w β H aE w' β H:=by
 have same:∀k,aa k->w'.heap[k]?=w.heap[k]?:=fun k hk=>hs k (h.bR k hk);refine⟨e,fun k hk=>(hf k hk).imp id (fun c a=>by have:=h.dS k a;omega),⟨q,fun k hk=>hs k (hk.elim (h.dS k) (h.bR k)),A⟩,ch.refl _ _,?_,fun _ x=>x,fun _ x=>x⟩;refine⟨fun b o m=>?_,fun b b' o o' c a D E C=>h.inj b b' o o' c a D E (fun hi=>C (e _ hi)),h.refs,B,fun k hk=>ed (h.dS k hk) q,h.gV.mono e same⟩;have f:=h.cE b o m;have n:=h.refs b o m;have held:∀fz,o.live->cw aa β ah fz b->cw aE β ah fz b:=by
  intro fz i l;have:=h.l7 m i;unfold cw at l⊢;cases fz with
  |true=>exact e _ l
  |false=>exact⟨fun x=>(hf _ x).elim l.1 (by omega),l.2⟩
 have j:o.live->w'.heap[β.ak b]?=w.heap[β.ak b]?:=fun i=>hs _ (h.l7 m i);cases o with
 |hole=>trivial
 |dead=>trivial
 |box fz t=>
  obtain⟨cs,T,c,a,d,g⟩:=f;exact⟨cs,T,(j trivial).trans c,bm.mono e same (ch.refl _ _) _ _ n a,held _ trivial d,g⟩
 |arr k ar ai es=>
  rcases f with f|⟨cs,T,r,rest,c,a,d,g,u,v,y,z⟩
  ·exact .inl f
  ·by_cases i:c7 k es
   ·exact .inl i
   ·exact .inr ⟨cs,T,r,rest,(j i).trans c,bJ.mono e same (ch.refl _ _) _ _ _ n a,d,g,u,v,held _ i y,z⟩
 |map fz es=>
  obtain⟨p,clock,c,a,d⟩:=f;exact⟨p,clock,(j trivial).trans c,cz.mono e same _ _ a,held _ trivial d⟩
 |dm ks vs=>
  obtain⟨p,clock,c,a,d,g⟩:=f;exact⟨p,clock,(j trivial).trans c,bn.mono e same _ _ a,bw.mono e same (ch.refl _ _) _ _ n d,held _ trivial g⟩
 |dv s pos=>
  obtain⟨bs,c,a,d⟩:=f;exact⟨bs,(j trivial).trans c,a,held _ trivial d⟩
 |loop L=>
  obtain⟨tmps,defers,fn,c,a,d,g⟩:=f;exact⟨tmps,defers,fn,(j trivial).trans c,a,fun x=>aw.mono e same (ch.refl _ _) _ _ (n x) (d x),held _ trivial g⟩
theorem n6{w:a7}{aa:Nat->Prop}{β:Bd}{H:Heap}:∀{a b:List AV}{x y:List a5},bw P w aa β H a x->bw P w aa β H b y->bw P w aa β H (a++b) (x++y)
 |[],b,x,y,h,c=>by simp only[bw]at h;subst h;simpa using c
 |v::a,b,x,y,h,c=>by
  simp only[bw]at h;obtain⟨z,f,rfl,d,e⟩:=h;simp only[ea,bw];exact⟨z,f++y,rfl,d,n6 e c⟩
theorem jo{S:Nat×Nat->Prop}{a b:List AV}(h:aQ S a)(d:aQ S b):aQ S (a++b):=by
 rw[cG]at*;intro v c;rcases List.mem_append.1 c with c|c
 ·exact h v c
 ·exact d v c
theorem um{ah aa:Nat->Prop}{β:Bd}{s:St}{t:Array a5}{w:a7}(h:cN P n ah aa β s t w):∀l:List a9,
 bw P w aa β s.heap (l.map (ev s.env)) (l.map (fq t))/\aQ (aG s.heap) (l.map (ev s.env))
 |[]=>by simp[bw,aQ]
 |x::l=>by
  have a:=ny h x;have b:=um h l;simp only[cy,bw,aQ];exact⟨⟨_,_,rfl,a.1,b.1⟩,a.2,b.2⟩
end
section
variable{P:a0}{w:a7}{aa ah:Nat->Prop}{β:Bd}{H:Heap}
def Bd.at(β:Bd)(b ak cap:Nat):Bd:=⟨fun x=>if x=b then ak else β.ak x,fun x=>if x=b then cap else β.cap x⟩
theorem xu{b:Nat}(f:H[b]?=some .hole)(o':Obj)(ak cap:Nat):ch β H (β.at b ak cap) (H.set b o'):=by
 have a:∀{x v},aG H (x,v)->x≠b:=by
  rintro x v ⟨o,d,i⟩ rfl;simp only at d;rw[f]at d;cases d;exact i
 have c:∀{x v},aG H (x,v)->(H.set b o')[x]?=H[x]?:=fun hx=>ce (ei (a hx));refine⟨?_,?_,?_,?_,?_⟩
 ·rintro x hx ⟨fz,t,h⟩;rw[c hx]at h;exact⟨⟨fz,t,h⟩,by simp[Bd.at,a hx]⟩
 ·rintro x hx ⟨fz,t,h⟩;rw[c hx]at h;exact⟨⟨fz,t,h⟩,by simp[Bd.at,a hx]⟩
 ·rintro x hx ⟨o,h,g⟩;rw[c hx]at h;exact⟨⟨o,h,g⟩,by simp[Bd.at,a hx]⟩
 ·intro x ar ai k e hx h;unfold eA at h;rw[c hx]at h;exact⟨k,e,h,eb _,Iff.rfl,fun _=>by simp[Bd.at,a hx]⟩
 ·rintro x hx ⟨L,h⟩;rw[c hx]at h;exact⟨⟨L,h⟩,by simp[Bd.at,a hx]⟩
theorem rP(e:bP P w aa β H ah){a:Nat}(b:H[a]?=some .hole){ob:Go.Obj}{o':Obj}{cap:Nat}
 (g:eQ P {w with heap:=w.heap.push ob} aa (β.at a w.heap.size cap) (H.set a o') ah a o')(h:o'.refs (aG (H.set a o'))):
 bV P ah aa w β H aa {w with heap:=w.heap.push ob} (β.at a w.heap.size cap) (H.set a o'):=by
 refine bV.set e (ck.1 b).1 (fun x hx=>by simp[Bd.at,hx]) (fun _ x=>x) (fun _ x=>.inl x) (fun k hk=>by have:=e.bR k hk;simp;omega) (by simp)
  (fun k _ hk=>by simp[ax,ee hk]) (fun _=>.inl (by simp[Bd.at])) (xu b _ _ _) g h (fun i v c f=>by rw[b]at c;cases c;exact f.elim) (fun L d=>by rw[b]at d;cases d)
theorem ue(w:a7)(a:Go.Obj){k:Nat}(hk:k<w.heap.size):({w with heap:=w.heap.push a}:a7).heap[k]?=w.heap[k]?:=by
 simp[ax,ee hk]
end
section
variable{P:a0}{w:a7}{aa aE ah:Nat->Prop}{β:Bd}{H:Heap}
def Row(P:a0)(w:a7)(aa:Nat->Prop)(β:Bd)(H:Heap)(ai:Nat)(a:List AV)(b:List (List a5)):Prop:=bJ P w aa β H (cc a.length ai) a b
theorem gT{ai:Nat}{a:List (List a5)}:Row P w aa β H ai [] a↔a=[]:=by simp[Row,bJ]
theorem pD{ai:Nat}{v:AV}{b:List AV}{a:List (List a5)}:Row P w aa β H ai (v::b) a↔∃c cs,a=c::cs/\bm P w aa β H v c/\c.length=ai/\Row P w aa β H ai b cs:=by
 simp[Row,dk,bJ]
theorem kx{ai:Nat}:∀{a b:List AV}{d:List (List a5)},Row P w aa β H ai (a++b) d↔∃c1 c2,d=c1++c2/\Row P w aa β H ai a c1/\Row P w aa β H ai b c2
 |[],b,d=>by
  simp only[List.nil_append];constructor
  ·intro h;exact⟨[],d,rfl,gT.2 rfl,h⟩
  ·rintro⟨c1,c2,rfl,e,f⟩;rw[gT.1 e];simpa using f
 |v::a,b,d=>by
  simp only[ea,pD];constructor
  ·rintro⟨c,cs,rfl,e,f,g⟩;obtain⟨c1,c2,rfl,i,j⟩:=kx.1 g;exact⟨c::c1,c2,rfl,⟨c,c1,rfl,e,f,i⟩,j⟩
  ·rintro⟨c1,c2,rfl,⟨c,cs,rfl,e,f,g⟩,i⟩;exact⟨c,cs++c2,rfl,e,f,kx.2 ⟨cs,c2,rfl,g,i⟩⟩
theorem fB{ai:Nat}:∀{b:List AV}{a:List (List a5)},Row P w aa β H ai b a->a.length=b.length/\a.flatten.length=b.length*ai
 |[],a,h=>by rw[gT]at h;subst h;simp
 |v::b,a,h=>by
  rw[pD]at h;obtain⟨c,cs,rfl,f,d,e⟩:=h;have:=fB e;simp only[dz,List.flatten_cons,dp,this,d,Nat.succ_mul];exact⟨trivial,by omega⟩
theorem lh{ai:Nat}{a:List PV}{b:List (List a5)}:Row P w aa β H ai (a.map .p) b↔bc P w aa (cc a.length ai) a b:=by
 unfold Row;rw[List.length_map];exact mZ
theorem jq{ai:Nat}{d:List AV}{e:List (List a5)}(h:Row P w aa β H ai d e)(off len:Nat)(k:off+len<=d.length):
 ∃a b c,e=a++b++c/\Row P w aa β H ai ((d.drop off).take len) b/\a.flatten.length=off*ai/\Row P w aa β H ai (d.take off) a/\Row P w aa β H ai (d.drop (off+len)) c:=by
 have e1:d=d.take off++((d.drop off).take len++d.drop (off+len)):=by
  rw[<-List.drop_drop,db,db]
 rw[e1,kx]at h;obtain⟨a,r,rfl,f,g⟩:=h;rw[kx]at g;obtain⟨b,c,rfl,i,j⟩:=g;refine⟨a,b,c,by simp,i,?_,f,j⟩;have:=(fB f).2;rw[this,List.length_take,Nat.min_eq_left (by omega)]
theorem kW{cs:Array a5}{T:a1}{fz:Nat×Nat}{ak:Nat}(a:w.heap[ak]?=some (.cells cs T fz)){pre xs post:List a5}(hc:cs.toList=pre++xs++post):
 gz w ak pre.length xs:=by
 intro i hi;have:cs[pre.length+i]?=some xs[i]:=by
  rw[<-Array.getElem?_toList,hc,dq,c6 (by omega)];simp only[Nat.add_sub_cancel_left];rw[cx hi,List.getElem?_eq_getElem hi]
 simp[World.cell?,a,this]
theorem Al(a:List PV)(off len:Nat):(((a.map AV.p).drop off).take len)=((a.drop off).take len).map .p:=by
 rw[<-List.map_drop,<-List.map_take]
theorem lj{H:Heap}{b:Nat}{d o:Obj}(c:H[b]?=some d)(e:∀v,d.has v->o.has v):∀x,aG H x->aG (H.set b o) x:=by
 rintro⟨x,v⟩ ⟨f,a,h⟩
 by_cases hx:b=x
 ·subst hx;simp only at a;rw[c]at a;cases a;exact⟨o,by simp only;rw[cv (ck.1 c).1],e v h⟩
 ·exact⟨f,by simp only;rw[ce hx];exact a,h⟩
theorem rz{b:Nat}{o o':Obj}(m:H[b]?=some o)(hk:(∃f g t,o= .box f t/\o'= .box g t)\/(∃k n v z c,o= .arr k v z c/\o'= .arr n v z c/\¬c7 k c/\¬c7 n c)\/(∃f g c,o= .map f c/\o'= .map g c)):
 ch β H β (H.set b o'):=by
 have u:b<H.length:=(ck.1 m).1;have i:∀x,x≠b->(H.set b o')[x]?=H[x]?:=fun x hx=>ce (ei hx);have e:(H.set b o')[b]?=some o':=cv u;refine⟨?_,?_,?_,?_,?_⟩
 ·rintro x _ ⟨fz,t,h⟩;refine⟨?_,rfl⟩
  by_cases hx:x=b
  ·subst hx;rw[e]at h;cases h;rcases hk with⟨f,g,l,d,a⟩|⟨_,_,_,_,_,_,a,_⟩|⟨_,_,_,_,a⟩
   ·exact⟨f,l,by rw[m,d]⟩
   ·cases a
   ·cases a
  ·rw[i x hx]at h;exact⟨fz,t,h⟩
 ·rintro x _ ⟨s,p,h⟩;refine⟨?_,rfl⟩
  by_cases hx:x=b
  ·subst hx;rw[e]at h;cases h;rcases hk with⟨f,g,l,d,a⟩|⟨_,_,_,_,_,_,a,_⟩|⟨_,_,_,_,a⟩<;>cases a
  ·rw[i x hx]at h;exact⟨s,p,h⟩
 ·rintro x _ ⟨w,h,j⟩;refine⟨?_,rfl⟩
  by_cases hx:x=b
  ·subst hx;rw[e]at h;cases h;rcases hk with⟨f,g,l,d,a⟩|⟨_,_,_,_,_,_,a,_⟩|⟨f,g,c,d,a⟩
   ·rw[a]at j;exact j.elim
   ·rw[a]at j;exact j.elim
   ·exact⟨o,m,by rw[d];trivial⟩
  ·rw[i x hx]at h;exact⟨w,h,j⟩
 ·intro x ar ai k c _ h
  by_cases hx:x=b
  ·subst hx;unfold eA at h⊢;rw[e]at h;cases h;rcases hk with⟨f,g,l,d,a⟩|⟨k0,n,v,z,y,d,a,q,r⟩|⟨f,g,c,d,a⟩
   ·cases a
   ·cases a;exact⟨k0,c,by rw[m,d],eb _,⟨fun x=>(r x).elim,fun x=>(q x).elim⟩,fun _=>⟨rfl,rfl⟩⟩
   ·cases a
  ·unfold eA at h⊢;rw[i x hx]at h;exact⟨k,c,h,eb _,Iff.rfl,fun _=>⟨rfl,rfl⟩⟩
 ·rintro x _ ⟨L,h⟩;refine⟨?_,rfl⟩
  by_cases hx:x=b
  ·subst hx;rw[e]at h;cases h;rcases hk with⟨f,g,l,d,a⟩|⟨_,_,_,_,_,_,a,_⟩|⟨_,_,_,_,a⟩<;>cases a
  ·rw[i x hx]at h;exact⟨L,h⟩
theorem cw.sG{fz:Bool}{b:Nat}(h:cw aa β ah fz b):aa (β.ak b)\/(¬aa (β.ak b)/\¬ah (β.ak b)):=by
 cases fz with
 |true=>exact .inl h
 |false=>exact .inr h
theorem rE(e:bP P w aa β H ah){b:Nat}{o o':Obj}(f:H[b]?=some o)(r:o.live)(Q:o'.live)(A:∀v,o.has v->o'.has v)(u:∀L,o≠ .loop L)
 (aK:ch β H β (H.set b o'))(O:aa (β.ak b)\/(¬aa (β.ak b)/\¬ah (β.ak b)))
 (aR:∀aE:Nat->Prop,(∀k,aa k->aE k)->aE (β.ak b)->eQ P w aE β (H.set b o') ah b o')(B:o'.refs (aG (H.set b o'))):
 ∃aE,bV P ah aa w β H aE w β (H.set b o')/\aE (β.ak b):=by
 have q:b<H.length:=(ck.1 f).1
 by_cases hi:aa (β.ak b)
 ·
  refine⟨aa,?_,hi⟩;have aj:=lj f A;refine⟨fun _ x=>x,fun _ x=>.inl x,Ext.refl _ _ _,aK,⟨?_,?_,?_,e.bR,e.dS,e.gV⟩,aj,fun x⟨L,j⟩=>⟨L,by
   by_cases hx:b=x
   ·subst hx;rw[f]at j;cases j;exact(u L rfl).elim
   ·rw[ce hx];exact j⟩⟩
  ·intro x l d
   by_cases hx:x=b
   ·subst hx;rw[cv q]at d;cases d;exact aR aa (fun _ x=>x) hi
   ·rw[ce (ei hx)]at d;have g:=e.cE x l d;have m:=e.refs x l d;cases l with
    |hole=>trivial
    |dead=>trivial
    |box fz t=>
     obtain⟨cs,T,a,c,i⟩:=g;exact⟨cs,T,a,bm.mono (fun _ x=>x) (fun _ _=>rfl) aK _ _ m c,i⟩
    |arr k ar ai es=>
     rcases g with g|⟨cs,T,K,rest,a,c,i⟩
     ·exact .inl g
     ·exact .inr ⟨cs,T,K,rest,a,bJ.mono (fun _ x=>x) (fun _ _=>rfl) aK _ _ _ m c,i⟩
    |map fz es=>exact g
    |dm ks vs=>
     obtain⟨M,clock,a,c,i,p⟩:=g;exact⟨M,clock,a,c,bw.mono (fun _ x=>x) (fun _ _=>rfl) aK _ _ m i,p⟩
    |dv s pos=>exact g
    |loop L=>
     obtain⟨tmps,defers,fn,a,c,i,p⟩:=g;exact⟨tmps,defers,fn,a,c,fun x=>aw.mono (fun _ x=>x) (fun _ _=>rfl) aK _ _ (m x) (i x),p⟩
  ·intro x y E X a c U V R N;have conv:∀(z:Nat)(n:Obj),(H.set b o')[z]?=some n->n.live->∃F:Obj,H[z]?=some F/\F.live:=by
    intro z n C W
    by_cases D:z=b
    ·subst D;exact⟨o,f,r⟩
    ·rw[ce (ei D)]at C;exact⟨n,C,W⟩
   obtain⟨G,I,c1⟩:=conv x E a U;obtain⟨a2,J,c2⟩:=conv y X c V;exact e.inj x y G a2 I J c1 c2 R N
  ·intro x l d
   by_cases hx:x=b
   ·subst hx;rw[cv q]at d;cases d;exact B
   ·rw[ce (ei hx)]at d;exact Obj.ux aj (e.refs x l d)
 ·refine⟨fun k=>aa k\/k=β.ak b,?_,.inr rfl⟩;have S:=O.resolve_left hi;exact bV.set e q (fun _ _=>⟨rfl,rfl⟩) (fun _ x=>.inl x) (fun k hk=>hk.imp id (fun h=>⟨h,Q⟩)) (fun k hk=>hk.elim (e.bR k) (fun h=>h▸e.l7 f r)) (eb _)
   (fun _ _ _=>rfl) (fun _=>.inr ⟨rfl,⟨o,f,r⟩,.inl (fun _ _=>rfl),S.2⟩) aK (aR _ (fun _ x=>.inl x) (.inr rfl)) B (fun E v a c=>by rw[f]at a;cases a;exact A v c) (fun L j=>by rw[f]at j;cases j;exact(u L rfl).elim)
theorem IB{z:AV}{pv:PV}{H1:Heap}{v:a5}(d:kj H z=some (pv,H1))(i:bP P w aa β H ah)(f:aw P w aa β H z v)(Z:aB (aG H) z):
 ∃aE,bV P ah aa w β H aE w β H1/\aA P w aE pv v:=by
 cases z with
 |p t=>
  simp[kj]at d;obtain⟨rfl,rfl⟩:=d;exact⟨aa,bV.refl i,by simpa[aw]using f⟩
 |sl b ar ai off len=>
  simp only[kj]at d
  split at d
  case h_2=>simp at d
  rename_i k ab W j g
  split at d
  case isFalse=>simp at d
  rename_i O;obtain⟨rfl,rfl,Y⟩:=O;simp only[aw]at f;obtain⟨_,f⟩:=f;simp only[bO]at f;obtain⟨v1,v2,v3⟩:=f k j g
  split at d
  ·rename_i u;simp at d;obtain⟨rfl,rfl⟩:=d;exact⟨aa,bV.refl i,by simp[aA,v2 u]⟩
  ·rename_i u
   split at d
   case h_2=>simp at d
   rename_i J R;simp at d;obtain⟨rfl,rfl⟩:=d;have A:=lg R;have E:=i.cE b _ g;rcases E with E|⟨cs,T,F,rest,n,l,r,B,L,M,N,X⟩
   ·exact(u E).elim
   have I:¬c7 .frozen j:=fun h=>by cases h.1
   have aK:ch β H β (H.set b (.arr .frozen ar ai j)):=rz g (.inr (.inl ⟨_,_,_,_,_,rfl,rfl,u,I⟩));obtain⟨aE,q,y⟩:=rE i g u (o':=.arr .frozen ar ai j) I (fun _ h=>h) (fun _ h=>by cases h) aK N.sG
    (fun aE hi x=>.inr ⟨cs,T,F,rest,n,bJ.mono hi (fun _ _=>rfl) aK _ _ _ (i.refs b _ g) l,r,B,L,(fun h=>by cases h),x,fun _ e C=>(by rw[A]at C;simp at C;obtain⟨a,_,rfl⟩:=C;trivial),fun h=>by cases h⟩)
    (by rw[A];exact iM _ _)
   refine⟨aE,q,?_⟩;rw[v3 u];have S:Row P w aE β H ai j F:=bJ.mono q.bR (fun _ _=>rfl) (ch.refl _ _) _ _ _ (i.refs b _ g) l;obtain⟨a,m,c,e1,e2,e3,e4,e5⟩:=jq S off len v1;rw[A,Al,lh]at e2;have D:((J.drop off).take len).length=len:=by
    have:j.length=J.length:=by rw[A];simp
    simp;omega
   simp only[aA];refine⟨β.ak b,off*ai,β.cap b-off,ai,m,e2,fun _=>y,?_,?_,?_,none,.inl rfl,?_⟩
   ·rw[<-e3];exact kW n (post:=c.flatten++rest) (by rw[r,e1];simp)
   ·intro hf;simp at hf;rw[D,M hf.1];omega
   ·rw[D];omega
   ·rw[D]
 |ptr b path=>
  simp only[kj]at d
  split at d
  case h_2=>simp at d
  rename_i fz t g
  split at d
  case h_2=>simp at d
  rename_i s hs;simp at d;obtain⟨rfl,rfl⟩:=d;simp only[aw]at f;obtain⟨_,f⟩:=f;simp only[bO]at f;obtain⟨V,U,o,rfl,Q,f⟩:=f;obtain⟨rfl,rfl⟩:=f (.inl ⟨fz,_,g⟩);obtain⟨cs,T,n,l,r,B⟩:=i.cE b _ g;have aK:ch β H β (H.set b (.box true (.p t))):=rz g (.inl ⟨_,_,_,rfl,rfl⟩);obtain⟨aE,q,y⟩:=rE i g trivial (o':=.box true (.p t)) trivial (fun _ h=>h) (fun _ h=>by cases h) aK r.sG
   (fun aE hi x=>⟨cs,T,n,bm.mono hi (fun _ _=>rfl) aK _ _ (by simp[aB]) l,x,fun _=>trivial,B.2⟩) (by simp[Obj.refs,aB])
  refine⟨aE,q,?_⟩;have K:aS P w aE t cs.toList:=by simp only[bm]at l;exact aS.mono q.bR (fun _ _=>rfl) _ _ l
  obtain⟨pre,xs,post,e1,e2,e3⟩:=xK K hs Q;simp only[aA];refine⟨β.ak b,U,xs,e3,y,?_,rfl⟩;rw[<-e2];exact kW n e1
 |map b=>
  simp only[kj]at d
  split at d
  case h_2=>simp at d
  rename_i fz j g;simp at d;obtain⟨rfl,rfl⟩:=d;simp only[aw]at f;obtain⟨_,f⟩:=f;simp only[bO]at f;have f:=f.1 ⟨_,g,trivial⟩;obtain⟨G,clock,n,l,r⟩:=i.cE b _ g;have aK:ch β H β (H.set b (.map true j)):=rz g (.inr (.inr ⟨_,_,_,rfl,rfl⟩));obtain⟨aE,q,y⟩:=rE i g trivial (o':=.map true j) trivial (fun _ h=>h) (fun _ h=>by cases h) aK r.sG
   (fun aE hi x=>⟨G,clock,n,cz.mono hi (fun _ _=>rfl) _ _ l,x⟩) trivial
  refine⟨aE,q,?_⟩;simp only[aA];exact⟨β.ak b,G,clock,y,n,cz.mono q.bR (fun _ _=>rfl) _ _ l,f⟩
 |b6=>simp[kj]at d
 |func=>simp[kj]at d
 |st=>simp[kj]at d
 |aD=>simp[kj]at d
end
section
variable{P:a0}{ag:a8->Bool}{n N:Nat}
theorem AX{w:a7}{β:Bd}{ah:Nat->Prop}:∀{e:List AV}{g:List PV}{H H1:Heap}{aa:Nat->Prop}{vs:List a5},mG H e=some (g,H1)->bP P w aa β H ah->
 bw P w aa β H e vs->aQ (aG H) e->∃aE,bV P ah aa w β H aE w β H1/\bn P w aE g vs
 |[],g,H,H1,aa,vs,b,h,c,_=>by
  simp[mG]at b;obtain⟨rfl,rfl⟩:=b;simp only[bw]at c;exact⟨aa,bV.refl h,by simpa[bn]using c⟩
 |a::e,g,H,H1,aa,vs,b,h,c,f=>by
  simp only[mG]at b
  split at b
  case h_2=>simp at b
  rename_i v o j
  split at b
  case h_2=>simp at b
  rename_i r p k;simp at b;obtain⟨rfl,rfl⟩:=b;simp only[bw]at c;obtain⟨y,n,rfl,k1,k2⟩:=c;simp only[aQ]at f;obtain⟨q,d,l⟩:=IB j h k1 f.1;obtain⟨i,q1,m⟩:=AX k d.rel (bw.mono d.bR (fun _ _=>rfl) d.step _ _ f.2 k2) (aQ.mono d.eL _ f.2);refine⟨i,d.trans q1,?_⟩;simp only[bn];exact⟨y,n,rfl,aA.mono q1.bR (fun _ _=>rfl) _ _ l,m⟩
def jP(P:a0)(n N:Nat)(fr:bb)(k:List Item)(cs:List bb)(c:Array Oper)(ah aa:Nat->Prop)(w:a7)(β:Bd)(H:Heap)(m:Machine)(r:List Nat)(b:List bk)(K:St->Prop):Prop:=
 ∃s' aE aH a w',K s'/\Steps P m (lone (bA fr a b (.inRegion c r::k)) cs w')/\cN P n ah aE aH s' a w'/\dI N ah aa w β H ah aE w' aH s'.heap
theorem R3{d:Bool}{o:Oper}{K:St->Prop}{s:St}(h:ji P ag d o K s)(c:Call):o.op≠.defer c:=by
 intro hc;unfold ji at h;rw[hc]at h;simp[fp,hc]at h
variable{fr:bb}{k:List Item}{cs:List bb}{ops:Array Oper}{i:Nat}{r:List Nat}{ds:List bk}
theorem Ht{d:Bool}{o:Oper}{f:a9}{F:Array a9}{Z:Array a1}{g:a8}{fi ca:List AV}{K:St->Prop}{s:St}{ah aa:Nat->Prop}{β:Bd}{t:Array a5}{w:a7}
 (W:o.op=.call {callee:=.value f,args:=F,argTypes:=Z})
 (hf:(ev s.env f=.func g fi ca)\/(∃a b,ev s.env f=.p (.func g a b)/\fi=a.map .p/\ca=b.map .p))
 (h:gC P d g (fi++F.toList.map (ev s.env)++ca) s.heap (fun v H'=>K ⟨put o.dst v s.env,H'⟩))
 (m:cN P n ah aa β s t w)(G:iI n o=true)(C:ops[i]?=some o)(M:b0 o (yielded ops t)=true):
 jP P n N fr k cs ops ah aa w β s.heap (lone (bA fr t ds (.inRegion ops (i::r)::k)) cs w) r ds K:=by
 have E:=ny m f;obtain⟨y,u,al,ak,ai,ap,ao⟩:∃y u:List a5,fq t f=.func (.func g) y.toArray u.toArray/\bw P w aa β s.heap fi y/\bw P w aa β s.heap ca u/\aQ (aG s.heap) fi/\aQ (aG s.heap) ca:=by
  rcases hf with hf|⟨a,b,hf,rfl,rfl⟩
  ·rw[hf]at E;simp only[aw,aB]at E;obtain⟨⟨y,u,l,j,z⟩,ac,ad⟩:=E;exact⟨y,u,z,l,j,ac,ad⟩
  ·rw[hf]at E;simp only[aw,aA]at E;obtain⟨⟨y,u,l,j,z⟩,_⟩:=E;exact⟨y,u,z,jf.2 l,jf.2 j,iM _ _,iM _ _⟩
 obtain⟨af,ag⟩:=um m F.toList;have D:=n6 (n6 ak af) ai;have Q:=jo (jo ap ag) ao;have q:(be (fq t) o).run P w=(callFunc g (y++F.toList.map (fq t)++u).toArray).run P w:=by
  simp only[be,W,resolve,al,Deferred.ofValue,Sem.run_bind,Sem.run_pure,Result.andThen_ok,invoke];congr 2;simp
 have L:∀c,o.op≠.defer c:=fun c hc=>by rw[W]at hc;cases hc
 have pure:∀(H1:Heap)(B:Nat->Prop)(vs:List PV)(v:PV),bV P ah aa w β s.heap B w β H1->bn P w B vs (y++F.toList.map (fq t)++u)->az P g vs v->
  K ⟨put o.dst (.p v) s.env,H1⟩->jP P n N fr k cs ops ah aa w β s.heap (lone (bA fr t ds (.inRegion ops (i::r)::k)) cs w) r ds K:=by
  intro H1 B vs v A Y I U;rcases I with⟨R,I⟩|I
  ·rw[R]at q;obtain⟨e,w',S,⟨O,aE,H,g1,g2,g3,g4,g5,ab,g6⟩,aK,V,J⟩:=I w B _ A.rel.bR A.rel.gV Y (bA fr t ds (.inRegion ops (i::r)::k)::cs);subst H;have X:=A.trans (A.rel.later g1 g2 g3 g4 g5 ab);refine⟨_,aE,β,_,w',U,?_,m.put G X (by simpa[aw]using g6) (by simp[aB]),X.eU⟩;rw[<-mQ C];exact(b3 (ub C M L q)).trans (b2 aK (.one (bi J)))
  ·obtain⟨O,l,j⟩:=I w B _ Y;rw[l]at q;exact⟨_,B,β,_,w,U,.one (rC C M L q (.inl rfl)),m.put G A (by simpa[aw]using j) (by simp[aB]),A.eU⟩
 rcases h with⟨vs,v,l,j,z⟩|⟨_,⟨vs,H1,v,l,j,z⟩|⟨H',v,⟨R,l⟩,j⟩|⟨e,T,an,j⟩|⟨aj,v,ae,am,j⟩⟩
 ·exact pure s.heap aa vs v (bV.refl m.heap) (by rw[l]at D;exact jf.1 D) j z
 ·obtain⟨B,aq,ar⟩:=AX l m.heap D Q;exact pure H1 B vs v aq ar j z
 ·rw[R]at q;obtain⟨e,w',S,⟨O,aH,aE,H,g1,g2,g3⟩,aK,V,J⟩:=l w aa ah β _ m.heap D Q (bA fr t ds (.inRegion ops (i::r)::k)::cs);subst H;refine⟨_,aE,aH,_,w',j,?_,m.put G g1 g2 g3,g1.eU⟩;rw[<-mQ C];exact(b3 (ub C M L q)).trans (b2 aK (.one (bi J)))
 ·rw[T.1]at q;obtain⟨x,w',S,⟨O,aH,aE,H,g1,g2,g3⟩,aK,V,J⟩:=T.use an m.heap D Q (bA fr t ds (.inRegion ops (i::r)::k)::cs);subst H;refine⟨_,aE,aH,_,w',j,?_,m.put G g1 g2 g3,g1.eU⟩;rw[<-mQ C];exact(b3 (ub C M L q)).trans (b2 aK (.one (bi J)))
 ·obtain⟨O,l,z⟩:=ae s.heap w aa ah β _ m.heap D Q am;rw[l]at q;have A:=bV.refl m.heap;exact⟨_,aa,β,_,w,j,.one (rC C M L q (.inl rfl)),m.put G A (by simpa[aw]using z) (by simp[aB]),A.eU⟩
end
end Go.al
