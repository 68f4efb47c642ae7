import Derived.Calls
import Derived.Laws.Sem
import Derived.IntWalk
import Derived.Laws.Cells
import Derived.Laws.CopyRow
import Derived.Laws.Entries
/- Parts of a proof. -/
set_option linter.unusedSimpArgs false
set_option linter.unusedVariables false
set_option linter.unusedSectionVars false
open Array renaming getElem?_eq_some_iff->av, getElem?_push->ax, toList->ay
open BitVec renaming ofInt->aT
open Go renaming Program->a0, TypeId->a1, Value->a5, step_lone_go->a6, World->a7, FuncId->a8, Operand->a9, Frame->bb, execOp->be, step_leave_returned->bi, Deferred->bk, MapEntry->bl, IntKind->bo, Calls->bv
open Go.Region renaming wanted->b0, binds->b1
open Go.Steps renaming trans->b2, one->b3
open Go.stepG renaming exec->b4, apply->b5, oper->cb
open List renaming replicate->cc, getElem?_set_ne->ce, getElem?_eq_some_iff->ck, getElem?_set_self->cv, getElem?_append_left->cx, map_cons->cy, getElem?_append_right->cA, mem_or_eq_of_mem_set->cB, length_eq_zero_iff->cC, take_append_drop->cN, mem_of_getElem?->c6, replicate_succ->c9, set_cons_zero->da, length_append->db, append_assoc->dg, length_cons->dk, cons_append->dl
open Nat renaming le_refl->dp, le_trans->dq, lt_of_lt_of_le->dz, ne_of_lt->ea
open Ne renaming symm->eb
namespace Go.au
set_option linter.unusedSectionVars false
inductive PV where
 |undef
 |bool (b:Bool)
 |int (k:bo) (n:Int)
 |str (s:List Nat)
 |dM
 |cE (t:PV)
 |aP
 |bP (full:Bool) (es:List PV)
 |seq (es:List PV)
 |fF
 |fo (es:List (PV×PV))
 |func (f:a8) (first iq:List PV)
 |iv
 |ga
 |st (u:a1) (fs:List PV)
 |aG (vs:List PV)
 deriving Inhabited
inductive AV where
 |p (v:PV)
 |ptr (b:Nat) (path:List (a1×Nat))
 |b6 (b aA ai i:Nat) (path:List (a1×Nat))
 |sl (b aA ai off len:Nat)
 |map (b:Nat)
 |func (f:a8) (first iq:List AV)
 |st (u:a1) (fs:List AV)
 |aG (vs:List AV)
 deriving Inhabited
inductive AK where|exact|grow|frozen|bytes
 deriving DecidableEq
def AK.gr:AK->Bool
 | .grow| .bytes=>true
 |_=>false
structure fh where
 st:LoopState
 pending:Option Code
 n:Nat
 params:List Tmp
 assign:Code
 body:Code
 env:List (Nat×AV)
inductive Obj where
 |hole
 |dead
 |box (fz:Bool) (t:AV)
 |arr (k:AK) (aA ai:Nat) (es:List AV)
 |map (fz:Bool) (es:List (PV×PV))
 |dy (ks:List PV) (vs:List AV)
 |dC (s:List Nat) (pos:Nat)
 |loop (L:fh)
 deriving Inhabited
abbrev Heap:=List Obj
abbrev Env:=List (Nat×AV)
structure St where
 env:Env
 heap:Heap
def aN(e:Env)(t:Nat):AV:=
 match e with
 |[]=>.p .undef
 |(k,v)::r=>if t=k then v else aN r t
inductive jr where|bad|leaf|agg (u:a1)
 deriving DecidableEq
def aL:PV->jr
 | .undef| .aG _=>.bad
 | .st u _=>.agg u
 |_=>.leaf
def ad:AV->jr
 | .p v=>aL v
 | .aG _=>.bad
 | .st u _=>.agg u
 |_=>.leaf
def cM:PV->List PV
 | .st _ fs=>fs
 |_=>[]
section tables
variable(P:a0)
def dR(u:a1):Option (List Nat):=
 match(P.info? u).map (fun i:TypeInfo=>i.desc)with
 |some (.struct fs)=>
  let l:=fs.toList.map fun f=>P.cellsOf f.type
  if l.all (0<·)&&l.sum==P.cellsOf u&&(fs.toList.zipIdx.all fun(f,i)=>f.offset==(l.take i).sum)then some l else none
 |some (.array n e)=>if 0<P.cellsOf e&&n*P.cellsOf e==P.cellsOf u then some (cc n (P.cellsOf e))else none
 |_=>none
def kindOf(T:a1):jr:=
 match P.underlying T with
 |some (.struct _)|some (.array _ _)=>
  if(dR P (P.underlyingId T)).isSome&&P.cellsOf T==P.cellsOf (P.underlyingId T)then .agg (P.underlyingId T)else .bad
 |some _=>if P.cellsOf T==1 then .leaf else .bad
 |none=>.bad
def bI:jr->Nat
 | .bad=>0
 | .leaf=>1
 | .agg u=>P.cellsOf u
def jv(u:a1):List a1:=
 match(P.info? u).map (fun i:TypeInfo=>i.desc)with
 |some (.struct fs)=>fs.toList.map (·.type)
 |some (.array n e)=>cc n e
 |_=>[]
end tables
def ofConst:a5->PV
 | .bool b=>.bool b
 | .int k n=>.int k n
 | .string s=>.str (s.data.toList.map (·.toNat))
 | .pointer none=>.dM
 | .slice none 0 0=>.aP
 | .map none=>.fF
 | .nilFunc=>.iv
 | .nilIface=>.ga
 |_=>.undef
def pF(P:a0)(a:a1->List a5->Option PV):List a1->List Nat->List a5->Option (List PV)
 |[],[],[]=>some []
 |T::b,s::c,cs=>
  if(cs.take s).length=s then
   match a T (cs.take s),pF P a b c (cs.drop s)with
   |some v,some vs=>if bI P (aL v)=s then some (v::vs)else none
   |_,_=>none
  else none
 |_,_,_=>none
def um(P:a0):Nat->a1->List a5->Option PV
 |0,_,_=>none
 |n+1,T,cs=>
  match kindOf P T with
  | .leaf=>match cs with
   |[c]=>match ofConst c with
    | .undef=>none
    |v=>some v
   |_=>none
  | .agg u=>match dR P u with
   |some l=>
    match pF P (um P n) (jv P u) l cs with
    |some fs=>some (.st u fs)
    |none=>none
   |none=>none
  | .bad=>none
def As:a5->jr->Bool
 | .agg _,.agg _=>true
 | .agg _,_=>false
 |_,.agg _=>false
 |_,_=>true
def cT(P:a0)(T:a1):Option PV:=
 match(P.info? T).bind (·.zero)with
 |some z=>if As z (kindOf P T)then um P 40 T z.cells.toList else none
 |none=>none
section relation
variable(P:a0)(w:a7)(aa:Nat->Prop)
def gP(al off:Nat)(cs:List a5):Prop:=∀i(h:i<cs.length),w.cell? ⟨al,off+i,none⟩=some cs[i]
mutual
def aR:PV->List a5->Prop
 | .undef,_| .aG _,_=>False
 | .bool b,cs=>cs=[.bool b]
 | .int k n,cs=>cs=[.int k n]
 | .str s,cs=>∃bs:ByteArray,cs=[.string bs]/\s=bs.data.toList.map (·.toNat)
 | .dM,cs=>cs=[.pointer none]
 | .cE t,cs=>∃al off ts,aR t ts/\aa al/\gP w al off ts/\cs=[.pointer (some ⟨al,off,none⟩)]
 | .aP,cs=>cs=[.slice none 0 0]
 | .bP full es,cs=>∃al off cap ai a,bg (cc es.length ai) es a/\(es≠[]->aa al)/\gP w al off a.flatten/\
  (full=true->cap=es.length)/\es.length<=cap/\∃sp,(sp=none\/cap=0)/\cs=[.slice (some ⟨al,off,sp⟩) es.length cap]
 | .seq es,cs=>(es=[]/\cs=[.slice none 0 0])\/∃al off cap ai a,bg (cc es.length ai) es a/\(es≠[]->aa al)/\gP w al off a.flatten/\
  es.length<=cap/\∃sp,(sp=none\/cap=0)/\cs=[.slice (some ⟨al,off,sp⟩) es.length cap]
 | .fF,cs=>cs=[.map none]
 | .fo es,cs=>∃r h j,aa r/\w.heap[r]?=some (.map h j)/\cH es h.toList/\cs=[.map (some r)]
 | .func f first iq,cs=>∃i g,bt first i/\bt iq g/\cs=[.func (.func f) i.toArray g.toArray]
 | .iv,cs=>cs=[.nilFunc]
 | .ga,cs=>cs=[.nilIface]
 | .st u fs,cs=>∃l a,dR P u=some l/\bg l fs a/\cs=a.flatten
def bg:List Nat->List PV->List (List a5)->Prop
 |[],[],a=>a=[]
 |n::p,v::vs,a=>∃c cs,a=c::cs/\aR v c/\c.length=n/\bg p vs cs
 |_,_,_=>False
def aD:PV->a5->Prop
 | .undef,_=>True
 | .aG vs,v=>∃d,bt vs d/\v=.tuple d.toArray
 | .st u fs,v=>∃l a,dR P u=some l/\bg l fs a/\v=.agg a.flatten.toArray
 | .bool b,v=>v=.bool b
 | .int k n,v=>v=.int k n
 | .str s,v=>∃bs:ByteArray,v=.string bs/\s=bs.data.toList.map (·.toNat)
 | .dM,v=>v=.pointer none
 | .cE t,v=>∃al off ts,aR t ts/\aa al/\gP w al off ts/\v=.pointer (some ⟨al,off,none⟩)
 | .aP,v=>v=.slice none 0 0
 | .bP full es,v=>∃al off cap ai a,bg (cc es.length ai) es a/\(es≠[]->aa al)/\gP w al off a.flatten/\
  (full=true->cap=es.length)/\es.length<=cap/\∃sp,(sp=none\/cap=0)/\v=.slice (some ⟨al,off,sp⟩) es.length cap
 | .seq es,v=>(es=[]/\v= .slice none 0 0)\/∃al off cap ai a,bg (cc es.length ai) es a/\(es≠[]->aa al)/\gP w al off a.flatten/\
  es.length<=cap/\∃sp,(sp=none\/cap=0)/\v=.slice (some ⟨al,off,sp⟩) es.length cap
 | .fF,v=>v=.map none
 | .fo es,v=>∃r h j,aa r/\w.heap[r]?=some (.map h j)/\cH es h.toList/\v=.map (some r)
 | .func f first iq,v=>∃i g,bt first i/\bt iq g/\v=.func (.func f) i.toArray g.toArray
 | .iv,v=>v=.nilFunc
 | .ga,v=>v=.nilIface
def bt:List PV->List a5->Prop
 |[],d=>d=[]
 |v::vs,d=>∃y o,d=y::o/\aD v y/\bt vs o
def cH:List (PV×PV)->List bl->Prop
 |[],es=>es=[]
 |(k,v)::r,es=>∃e m,es=e::m/\aD k e.key/\aD v e.val/\cH r m
end
end relation
class Gl where
 g:Nat->PV
 u8:a1
 raw:Nat->Option (Array a5)
 bx:a1->Option a1
def jo[Gl](T:a1)(s:jr):Bool:=match s with
 | .agg u=>match Gl.bx u with
  |some a=>Nat.beq T a
  |none=>true
 |_=>true
structure mU[Gl](P:a0)(w:a7)(aa:Nat->Prop):Prop where
 val:∀g,aD P w aa (Gl.g g) (.pointer (some ⟨g,0,none⟩))
 raw:∀g cs,Gl.raw g=some cs->aa g/\∃T,w.heap[g]?=some (.cells cs T (0,0))
end Go.au
namespace Go.au
variable[Gl]
structure Bd where
 al:Nat->Nat
 cap:Nat->Nat
def gn(P:a0):List (a1×Nat)->Option Nat
 |[]=>some 0
 |(u,i)::r=>
  match dR P u,gn P r with
  |some l,some o=>if i<l.length then some ((l.take i).sum+o)else none
  |_,_=>none
def Obj.vq:Obj->Prop
 | .map _ _| .dy _ _=>True
 |_=>False
section
variable(P:a0)(w:a7)(aa:Nat->Prop)(β:Bd)(H:Heap)
def mS(b:Nat):Prop:=∃fz t,H[b]?=some (.box fz t)
def eX(b aA ai:Nat)(k:AK)(a:List AV):Prop:=H[b]?=some (.arr k aA ai a)
def df(k:AK)(a:List AV):Prop:=k.gr=true/\a=[]
def n6(b:Nat):Prop:=∃o,H[b]?=some o/\o.vq
def mT(b:Nat):Prop:=(∃s pos,H[b]?=some (.dC s pos))
def gQ(b:Nat):Prop:=(∃L,H[b]?=some (.loop L))
def bU:AV->a5->Prop
 | .ptr b path,v=>∃al off o,v=.pointer (some ⟨al,off,none⟩)/\gn P path=some o/\(mS H b\/mT H b->al=β.al b/\off=o)
 | .b6 b aA ai i path,v=>∃al off o,v=.pointer (some ⟨al,off,none⟩)/\gn P path=some o/\∀k a,eX H b aA ai k a->¬df k a->al=β.al b/\off=i*ai+o
 | .sl b aA ai off len,v=>∀k a,eX H b aA ai k a->
  off+len<=a.length/\(df k a->v=.slice none 0 0)/\(¬df k a->v=.slice (some ⟨β.al b,off*ai,none⟩) len (β.cap b-off))
 | .map b,v=>(n6 H b->v=.map (some (β.al b)))/\(gQ H b->v=.func (.yield (β.al b)) #[] #[])
 |_,_=>False
def bO(v:AV)(x:a5):Prop:=x.oneCell'=true/\bU P β H v x
mutual
def br:AV->List a5->Prop
 | .p t,cs=>aR P w aa t cs
 | .st u fs,cs=>∃l a,dR P u=some l/\bM l fs a/\cs=a.flatten
 | .func f first iq,cs=>∃e d,bB first e/\bB iq d/\cs=[.func (.func f) e.toArray d.toArray]
 | .aG _,_=>False
 | .ptr b path,cs=>∃v,cs=[v]/\bO P β H (.ptr b path) v
 | .b6 b aA ai i path,cs=>∃v,cs=[v]/\bO P β H (.b6 b aA ai i path) v
 | .sl b aA ai off len,cs=>∃v,cs=[v]/\bO P β H (.sl b aA ai off len) v
 | .map b,cs=>∃v,cs=[v]/\bO P β H (.map b) v
def bM:List Nat->List AV->List (List a5)->Prop
 |[],[],a=>a=[]
 |n::h,v::vs,a=>∃c cs,a=c::cs/\br v c/\c.length=n/\bM h vs cs
 |_,_,_=>False
def aB:AV->a5->Prop
 | .p t,v=>aD P w aa t v
 | .st u fs,v=>∃l a,dR P u=some l/\bM l fs a/\v=.agg a.flatten.toArray
 | .func f first iq,v=>∃e d,bB first e/\bB iq d/\v=.func (.func f) e.toArray d.toArray
 | .aG vs,v=>∃xs,bB vs xs/\v=.tuple xs.toArray
 | .ptr b path,v=>bO P β H (.ptr b path) v
 | .b6 b aA ai i path,v=>bO P β H (.b6 b aA ai i path) v
 | .sl b aA ai off len,v=>bO P β H (.sl b aA ai off len) v
 | .map b,v=>bO P β H (.map b) v
def bB:List AV->List a5->Prop
 |[],xs=>xs=[]
 |v::vs,xs=>∃y g,xs=y::g/\aB v y/\bB vs g
end
mutual
def aE(n:Nat×Nat->Prop):AV->Prop
 | .p _=>True
 | .ptr b _| .map b=>n (b,0)
 | .b6 b aA _ _ _| .sl b aA _ _ _=>n (b,aA)
 | .func _ first iq=>aS n first/\aS n iq
 | .st _ fs=>aS n fs
 | .aG vs=>aS n vs
def aS(n:Nat×Nat->Prop):List AV->Prop
 |[]=>True
 |v::vs=>aE n v/\aS n vs
end
def Obj.has:Obj->Nat->Prop
 | .hole,_=>False
 | .arr _ aA _ _,v=>v<=aA
 |_,_=>True
def aI(H:Heap)(x:Nat×Nat):Prop:=∃o,H[x.1]?=some o/\o.has x.2
def AV.sD:AV->Prop
 | .p _=>True
 |_=>False
def Obj.refs(n:Nat×Nat->Prop):Obj->Prop
 | .box _ t=>aE n t
 | .arr _ _ _ es=>aS n es
 | .dy _ vs=>aS n vs
 | .loop L=>∀x,aE n (aN L.env x)
 |_=>True
def Obj.live:Obj->Prop
 | .hole| .dead=>False
 | .arr k _ _ es=>¬df k es
 |_=>True
variable(ah:Nat->Prop)
def cG(fz:Bool)(b:Nat):Prop:=if fz then aa (β.al b)else¬aa (β.al b)/\¬ah (β.al b)
def ft(b:Nat):Obj->Prop
 | .hole| .dead=>True
 | .box fz t=>∃cs T,w.heap[β.al b]?=some (.cells cs T (0,0))/\br P w aa β H t cs.toList/\cG aa β ah fz b/\(fz=true->t.sD)/\jo T (ad t)=true
 | .arr k _ver ai es=>df k es\/
  ∃cs T d f,w.heap[β.al b]?=some (.cells cs T (0,0))/\bM P w aa β H (cc es.length ai) es d/\cs.toList=d.flatten++f/\
   cs.size=β.cap b*ai/\es.length<=β.cap b/\(k=.exact->β.cap b=es.length)/\cG aa β ah (k== .frozen) b/\(k=.frozen->∀e∈es,e.sD)/\(k=.bytes->T=Gl.u8)
 | .map fz es=>∃a c,w.heap[β.al b]?=some (.map a c)/\cH P w aa es a.toList/\cG aa β ah fz b
 | .dy ks vs=>∃a c,w.heap[β.al b]?=some (.map a c)/\bt P w aa ks (a.toList.map (·.key))/\bB P w aa β H vs (a.toList.map (·.val))/\cG aa β ah false b
 | .dC s pos=>∃bs:ByteArray,w.heap[β.al b]?=some (.stringIter bs pos)/\s=bs.data.toList.map (·.toNat)/\cG aa β ah false b
 | .loop L=>∃tmps defers fn,w.heap[β.al b]?=some (.loop {state:=L.st,pending:=L.pending,fn,tmps,params:=L.params.toArray,assign:=L.assign,body:=L.body,defers})/\tmps.size=L.n/\
  (∀x,aB P w aa β H (aN L.env x) (tmps.getD x undef))/\cG aa β ah false b
structure bS:Prop where
 cF:∀b o,H[b]?=some o->ft P w aa β H ah b o
 inj:∀b b' o o',H[b]?=some o->H[b']?=some o'->o.live->o'.live->¬aa (β.al b)->β.al b=β.al b'->b=b'
 refs:∀(b:Nat)(o:Obj),H[b]?=some o->o.refs (aI H)
 bR:∀k,aa k->k<w.heap.size
 er:∀k,ah k->k<w.heap.size
 ia:mU P w aa
end
structure Ext(ah aa:Nat->Prop)(w w':a7):Prop where
 size:w.heap.size<=w'.heap.size
 same:∀k,ah k\/aa k->w'.heap[k]?=w.heap[k]?
 io:w'.os=w.os/\w'.output=w.output
structure cd(β:Bd)(H:Heap)(aJ:Bd)(H':Heap):Prop where
 box:∀b,aI H (b,0)->mS H' b->mS H b/\aJ.al b=β.al b
 it:∀b,aI H (b,0)->mT H' b->mT H b/\aJ.al b=β.al b
 map:∀b,aI H (b,0)->n6 H' b->n6 H b/\aJ.al b=β.al b
 arr:∀b aA ai k es,aI H (b,aA)->eX H' b aA ai k es->∃k0 gI,eX H b aA ai k0 gI/\gI.length<=es.length/\(df k es↔df k0 gI)/\(¬df k es->aJ.al b=β.al b/\aJ.cap b=β.cap b)
 loop:∀b,aI H (b,0)->gQ H' b->gQ H b/\aJ.al b=β.al b
theorem cd.refl(β:Bd)(H:Heap):cd β H β H:=
 ⟨fun _ _ h=>⟨h,rfl⟩,fun _ _ h=>⟨h,rfl⟩,fun _ _ h=>⟨h,rfl⟩,fun _ _ _ k a _ h=>⟨k,a,h,dp _,Iff.rfl,fun _=>⟨rfl,rfl⟩⟩,fun _ _ h=>⟨h,rfl⟩⟩
theorem Ext.refl(ah aa:Nat->Prop)(w:a7):Ext ah aa w w:=⟨dp _,fun _ _=>rfl,rfl,rfl⟩
section mono
variable{P:a0}{w w':a7}{aa aF:Nat->Prop}
theorem XI{al off:Nat}(h:w'.heap[al]?=w.heap[al]?):w'.cell? ⟨al,off,none⟩=w.cell? ⟨al,off,none⟩:=by
 simp[World.cell?,h]
theorem gP.same{al off:Nat}{cs:List a5}(h:w'.heap[al]?=w.heap[al]?)(hc:gP w al off cs):gP w' al off cs:=
 fun i hi=>(XI h).trans (hc i hi)
theorem vC{n:List Nat}{a:List (List a5)}(h:bg P w aa n [] a):a=[]:=by
 cases n<;>simp[bg]at h;exact h
variable(hI:∀k,aa k->aF k)(hs:∀k,aa k->w'.heap[k]?=w.heap[k]?)
include hI hs
mutual
theorem aR.mono:∀(v:PV)(cs:List a5),aR P w aa v cs->aR P w' aF v cs
 | .undef,_,h| .aG _,_,h=>by simp[aR]at h
 | .bool _,_,h| .int _ _,_,h| .str _,_,h| .dM,_,h| .aP,_,h| .fF,_,h| .iv,_,h| .ga,_,h=>by simpa[aR]using h
 | .cE t,cs,h=>by
  simp only[aR]at h⊢;obtain⟨al,off,ts,a,b,d,j⟩:=h;exact⟨al,off,ts,aR.mono t ts a,hI _ b,d.same (hs _ b),j⟩
 | .bP full o,cs,h=>by
  simp only[aR]at h⊢;obtain⟨al,off,cap,ai,g,a,b,d,j⟩:=h;refine⟨al,off,cap,ai,g,bg.mono _ o g a,fun m=>hI _ (b m),?_,j⟩
  by_cases m:o=[]
  ·subst m;have:=vC a;subst this;intro i hi;simp at hi
  ·exact d.same (hs _ (b m))
 | .seq o,cs,h=>by
  simp only[aR]at h⊢;rcases h with h|⟨al,off,cap,ai,g,a,b,d,j⟩
  ·exact .inl h
  refine .inr ⟨al,off,cap,ai,g,bg.mono _ o g a,fun m=>hI _ (b m),?_,j⟩
  by_cases m:o=[]
  ·subst m;have:=vC a;subst this;intro i hi;simp at hi
  ·exact d.same (hs _ (b m))
 | .fo o,cs,h=>by
  simp only[aR]at h⊢;obtain⟨r,p,clock,a,b,d,j⟩:=h;exact⟨r,p,clock,hI _ a,(hs _ a).trans b,cH.mono o _ d,j⟩
 | .func f first iq,cs,h=>by
  simp only[aR]at h⊢;obtain⟨z,s,a,b,d⟩:=h;exact⟨z,s,bt.mono first z a,bt.mono iq s b,d⟩
 | .st u fs,cs,h=>by
  simp only[aR]at h⊢;obtain⟨l,g,a,b,d⟩:=h;exact⟨l,g,a,bg.mono l fs g b,d⟩
theorem bg.mono:∀(l:List Nat)(vs:List PV)(g:List (List a5)),bg P w aa l vs g->bg P w' aF l vs g
 |[],[],_,h=>by simpa[bg]using h
 |[],_::_,_,h=>by simp[bg]at h
 |_::_,[],_,h=>by simp[bg]at h
 |n::B,v::vs,g,h=>by
  simp only[bg]at h⊢;obtain⟨c,cs,a,b,d,j⟩:=h;exact⟨c,cs,a,aR.mono v c b,d,bg.mono B vs cs j⟩
theorem aD.mono:∀(v:PV)(x:a5),aD P w aa v x->aD P w' aF v x
 | .undef,_,h=>by simp[aD]
 | .aG vs,x,h=>by
  simp only[aD]at h⊢;obtain⟨q,a,b⟩:=h;exact⟨q,bt.mono vs q a,b⟩
 | .bool _,_,h| .int _ _,_,h| .str _,_,h| .dM,_,h| .aP,_,h| .fF,_,h| .iv,_,h| .ga,_,h=>by simpa[aD]using h
 | .cE t,cs,h=>by
  simp only[aD]at h⊢;obtain⟨al,off,ts,a,b,d,j⟩:=h;exact⟨al,off,ts,aR.mono t ts a,hI _ b,d.same (hs _ b),j⟩
 | .bP full o,cs,h=>by
  simp only[aD]at h⊢;obtain⟨al,off,cap,ai,g,a,b,d,j⟩:=h;refine⟨al,off,cap,ai,g,bg.mono _ o g a,fun m=>hI _ (b m),?_,j⟩
  by_cases m:o=[]
  ·subst m;have:=vC a;subst this;intro i hi;simp at hi
  ·exact d.same (hs _ (b m))
 | .seq o,cs,h=>by
  simp only[aD]at h⊢;rcases h with h|⟨al,off,cap,ai,g,a,b,d,j⟩
  ·exact .inl h
  refine .inr ⟨al,off,cap,ai,g,bg.mono _ o g a,fun m=>hI _ (b m),?_,j⟩
  by_cases m:o=[]
  ·subst m;have:=vC a;subst this;intro i hi;simp at hi
  ·exact d.same (hs _ (b m))
 | .fo o,cs,h=>by
  simp only[aD]at h⊢;obtain⟨r,p,clock,a,b,d,j⟩:=h;exact⟨r,p,clock,hI _ a,(hs _ a).trans b,cH.mono o _ d,j⟩
 | .func f first iq,cs,h=>by
  simp only[aD]at h⊢;obtain⟨z,s,a,b,d⟩:=h;exact⟨z,s,bt.mono first z a,bt.mono iq s b,d⟩
 | .st u fs,cs,h=>by
  simp only[aD]at h⊢;obtain⟨l,g,a,b,d⟩:=h;exact⟨l,g,a,bg.mono l fs g b,d⟩
theorem bt.mono:∀(vs:List PV)(q:List a5),bt P w aa vs q->bt P w' aF vs q
 |[],_,h=>by simpa[bt]using h
 |v::vs,q,h=>by
  simp only[bt]at h⊢;obtain⟨y,A,a,b,d⟩:=h;exact⟨y,A,a,aD.mono v y b,bt.mono vs A d⟩
theorem cH.mono:∀(o:List (PV×PV))(p:List bl),cH P w aa o p->cH P w' aF o p
 |[],_,h=>by simpa[cH]using h
 |(k,v)::r,p,h=>by
  simp only[cH]at h⊢;obtain⟨e,rest,a,b,d,j⟩:=h;exact⟨e,rest,a,aD.mono k _ b,aD.mono v _ d,cH.mono r rest j⟩
end
theorem mU.mono(h:mU P w aa):mU P w' aF:=⟨fun g=>aD.mono hI hs _ _ (h.val g),fun g cs c=>by
 obtain⟨a,T,b⟩:=h.raw g cs c;exact⟨hI _ a,T,(hs _ a).trans b⟩⟩
variable{β aJ:Bd}{H H':Heap}(aH:cd β H aJ H')
include aH
omit hI hs in
theorem bU.mono:∀(v:AV)(x:a5),aE (aI H) v->bU P β H v x->bU P aJ H' v x
 | .ptr b path,x,d,h=>by
  simp only[bU,aE]at*;obtain⟨al,off,o,c,f,g⟩:=h;refine⟨al,off,o,c,f,fun a=>?_⟩;rcases a with a|a
  ·obtain⟨k1,k2⟩:=aH.box b d a;rw[k2];exact g (.inl k1)
  ·obtain⟨k1,k2⟩:=aH.it b d a;rw[k2];exact g (.inr k1)
 | .b6 b aA ai i path,x,d,h=>by
  simp only[bU,aE]at*;obtain⟨al,off,o,g1,g2,g3⟩:=h;refine⟨al,off,o,g1,g2,fun k l a e=>?_⟩;obtain⟨k0,gI,c,f,g,j⟩:=aH.arr b aA ai k l d a;rw[(j e).1];exact g3 k0 gI c (fun m=>e (g.2 m))
 | .sl b aA ai off len,x,d,h=>by
  simp only[bU,aE]at*;intro k l a;obtain⟨k0,gI,c,f,g,j⟩:=aH.arr b aA ai k l d a;obtain⟨r,n,q⟩:=h k0 gI c;refine⟨by omega,fun e=>n (g.1 e),fun e=>?_⟩;rw[(j e).1,(j e).2];exact q (fun m=>e (g.2 m))
 | .map b,x,d,h=>by
  simp only[bU,aE]at*;refine⟨fun a=>?_,fun a=>?_⟩
  ·obtain⟨c,f⟩:=aH.map b d a;rw[f];exact h.1 c
  ·obtain⟨c,f⟩:=aH.loop b d a;rw[f];exact h.2 c
 | .p _,_,_,h| .st _ _,_,_,h| .func _ _ _,_,_,h| .aG _,_,_,h=>by simp[bU]at h
omit hI hs in
theorem bO.mono(v:AV)(x:a5)(a:aE (aI H) v)(h:bO P β H v x):bO P aJ H' v x:=⟨h.1,bU.mono aH v x a h.2⟩
mutual
theorem br.mono:∀(v:AV)(cs:List a5),aE (aI H) v->br P w aa β H v cs->br P w' aF aJ H' v cs
 | .p t,cs,_,h=>by simp only[br]at h⊢;exact aR.mono hI hs t cs h
 | .st u fs,cs,a,h=>by
  simp only[br,aE]at*;obtain⟨l,j,d,e,g⟩:=h;exact⟨l,j,d,bM.mono l fs j a e,g⟩
 | .func f first iq,cs,a,h=>by
  simp only[br,aE]at*;obtain⟨m,k,d,e,g⟩:=h;exact⟨m,k,bB.mono first m a.1 d,bB.mono iq k a.2 e,g⟩
 | .aG _,_,_,h=>by simp[br]at h
 | .ptr b path,cs,a,h=>by
  simp only[br]at*;obtain⟨v,d,e⟩:=h;exact⟨v,d,bO.mono aH _ _ a e⟩
 | .b6 b aA ai i path,cs,a,h=>by
  simp only[br]at*;obtain⟨v,d,e⟩:=h;exact⟨v,d,bO.mono aH _ _ a e⟩
 | .sl b aA ai off len,cs,a,h=>by
  simp only[br]at*;obtain⟨v,d,e⟩:=h;exact⟨v,d,bO.mono aH _ _ a e⟩
 | .map b,cs,a,h=>by
  simp only[br]at*;obtain⟨v,d,e⟩:=h;exact⟨v,d,bO.mono aH _ _ a e⟩
theorem bM.mono:∀(l:List Nat)(vs:List AV)(j:List (List a5)),aS (aI H) vs->bM P w aa β H l vs j->bM P w' aF aJ H' l vs j
 |[],[],_,_,h=>by simpa[bM]using h
 |[],_::_,_,_,h=>by simp[bM]at h
 |_::_,[],_,_,h=>by simp[bM]at h
 |n::r,v::vs,j,a,h=>by
  simp only[bM,aS]at*;obtain⟨c,cs,d,e,g,q⟩:=h;exact⟨c,cs,d,br.mono v c a.1 e,g,bM.mono r vs cs a.2 q⟩
theorem aB.mono:∀(v:AV)(x:a5),aE (aI H) v->aB P w aa β H v x->aB P w' aF aJ H' v x
 | .p t,cs,_,h=>by simp only[aB]at h⊢;exact aD.mono hI hs t cs h
 | .st u fs,cs,a,h=>by
  simp only[aB,aE]at*;obtain⟨l,j,d,e,g⟩:=h;exact⟨l,j,d,bM.mono l fs j a e,g⟩
 | .func f first iq,cs,a,h=>by
  simp only[aB,aE]at*;obtain⟨m,k,d,e,g⟩:=h;exact⟨m,k,bB.mono first m a.1 d,bB.mono iq k a.2 e,g⟩
 | .aG vs,cs,a,h=>by
  simp only[aB,aE]at*;obtain⟨xs,d,e⟩:=h;exact⟨xs,bB.mono vs xs a d,e⟩
 | .ptr b path,cs,a,h=>by simp only[aB]at*;exact bO.mono aH _ _ a h
 | .b6 b aA ai i path,cs,a,h=>by simp only[aB]at*;exact bO.mono aH _ _ a h
 | .sl b aA ai off len,cs,a,h=>by simp only[aB]at*;exact bO.mono aH _ _ a h
 | .map b,cs,a,h=>by simp only[aB]at*;exact bO.mono aH _ _ a h
theorem bB.mono:∀(vs:List AV)(xs:List a5),aS (aI H) vs->bB P w aa β H vs xs->bB P w' aF aJ H' vs xs
 |[],_,_,h=>by simpa[bB]using h
 |v::vs,xs,a,h=>by
  simp only[bB,aS]at*;obtain⟨y,o,d,e,g⟩:=h;exact⟨y,o,d,aB.mono v y a.1 e,bB.mono vs o a.2 g⟩
end
end mono
def dO:List AV->Option (List PV)
 |[]=>some []
 | .p v::r=>match dO r with
  |some l=>some (v::l)
  |none=>none
 |_::_=>none
def ib(u:a1)(fs:List AV):AV:=
 match dO fs with
 |some l=>.p (.st u l)
 |none=>.st u fs
def kV:PV->List (a1×Nat)->Option PV
 |t,[]=>some t
 |t,(u,i)::r=>if aL t=.agg u then(match(cM t)[i]? with
  |some f=>kV f r
  |none=>none)else none
def fe:AV->List (a1×Nat)->Option AV
 |t,[]=>some t
 | .p t,(u,i)::r=>match kV t ((u,i)::r)with
  |some s=>some (.p s)
  |none=>none
 | .st u' fs,(u,i)::r=>if u'=u then(match fs[i]? with
  |some f=>fe f r
  |none=>none)else none
 |_,_=>none
def fX(t:AV)(b:List (a1×Nat))(x:AV):Option AV:=
 match b with
 |[]=>some x
 |(u,i)::r=>
  match t with
  | .p t=>if aL t=.agg u then(match(cM t)[i]? with
   |some f=>(match fX (.p f) r x with
    |some a=>some (ib u (((cM t).map .p).set i a))
    |none=>none)
   |none=>none)else none
  | .st u' fs=>if u'=u then(match fs[i]? with
   |some f=>(match fX f r x with
    |some a=>some (ib u (fs.set i a))
    |none=>none)
   |none=>none)else none
  |_=>none
section
variable{P:a0}{w:a7}{aa:Nat->Prop}{β:Bd}{H:Heap}
theorem vE:∀{l:List Nat}{vs:List PV}{a:List (List a5)},bg P w aa l vs a->a.map (·.length)=l/\vs.length=l.length/\a.length=l.length
 |[],[],_,h=>by simp[bg]at h;subst h;simp
 |[],_::_,_,h=>by simp[bg]at h
 |_::_,[],_,h=>by simp[bg]at h
 |n::f,v::vs,a,h=>by
  simp only[bg]at h;obtain⟨c,cs,rfl,e,b,d⟩:=h;have:=vE d;simp[b,this]
theorem yw:∀{l:List Nat}{vs:List AV}{a:List (List a5)},bM P w aa β H l vs a->a.map (·.length)=l/\vs.length=l.length/\a.length=l.length
 |[],[],_,h=>by simp[bM]at h;subst h;simp
 |[],_::_,_,h=>by simp[bM]at h
 |_::_,[],_,h=>by simp[bM]at h
 |n::f,v::vs,a,h=>by
  simp only[bM]at h;obtain⟨c,cs,rfl,e,b,d⟩:=h;have:=yw d;simp[b,this]
theorem MW{u:a1}{l:List Nat}(h:dR P u=some l):l.sum=P.cellsOf u/\∀n∈l,0<n:=by
 unfold dR at h
 split at h
 ·dsimp only at h
  split at h
  ·rename_i hc;simp at hc;obtain⟨⟨b,c⟩,d⟩:=hc;simp at h;subst h;refine⟨c,?_⟩;intro n a;simp at a;obtain⟨f,hf,rfl⟩:=a;obtain⟨i,hi,rfl⟩:=Array.mem_iff_getElem.1 hf;exact b i hi
  ·simp at h
 ·split at h
  ·rename_i hc;simp at hc;simp at h;subst h;refine⟨by simp[List.sum_replicate_nat,hc.2],?_⟩;intro n a;have:=List.eq_of_mem_replicate a;omega
  ·simp at h
 ·simp at h
theorem nO:∀{v:PV}{cs:List a5},aR P w aa v cs->cs.length=bI P (aL v)/\aL v≠.bad:=by
 intro v cs h;cases v<;>simp only[aR]at h
 case st u fs=>
  obtain⟨l,c,a,b,rfl⟩:=h;have:=vE b;simp[aL,bI,this.1,(MW a).1]
 case str=>obtain⟨_,h,_⟩:=h;subst h;simp[aL,bI]
 case seq=>
  rcases h with⟨_,rfl⟩|⟨_,_,_,_,_,_,_,_,_,_,_,rfl⟩<;>simp[aL,bI]
 all_goals first
  |(subst h;simp[aL,bI])
  |(obtain⟨_,_,_,_,_,_,rfl⟩:=h;simp[aL,bI])
  |(obtain⟨_,_,_,_,_,rfl⟩:=h;simp[aL,bI])
  |(obtain⟨_,_,_,_,_,_,_,_,_,_,_,_,rfl⟩:=h;simp[aL,bI])
  |(obtain⟨_,_,_,_,_,_,_,rfl⟩:=h;simp[aL,bI])
  |(obtain⟨_,_,_,_,rfl⟩:=h;simp[aL,bI])
  |(obtain⟨_,h,_⟩:=h;subst h;simp[aL,bI])
  |exact h.elim
theorem nS{v:AV}{cs:List a5}(h:br P w aa β H v cs):cs.length=bI P (ad v)/\ad v≠.bad:=by
 cases v<;>simp only[br]at h
 case p t=>exact nO h
 case st u fs=>
  obtain⟨l,c,a,b,rfl⟩:=h;have:=yw b;simp[ad,bI,this.1,(MW a).1]
 all_goals first
  |(obtain⟨_,rfl,_⟩:=h;simp[ad,bI])
  |(obtain⟨_,_,_,_,rfl⟩:=h;simp[ad,bI])
theorem tO{v:PV}(hs:aL v=.leaf)(cs:List a5):aR P w aa v cs↔∃c,cs=[c]/\aD P w aa v c:=by
 cases v<;>simp[aL]at hs<;>simp only[aR,aD]
 case bool|int|dM|aP|fF|iv|ga=>exact⟨fun h=>⟨_,h,rfl⟩,fun⟨c,g,i⟩=>by rw[g,i]⟩
 case str s=>exact⟨fun⟨bs,g,i⟩=>⟨_,g,bs,rfl,i⟩,fun⟨c,g,bs,i,j⟩=>⟨bs,by rw[g,i],j⟩⟩
 case cE t=>exact⟨fun⟨a,b,c,g,i,j,k⟩=>⟨_,k,a,b,c,g,i,j,rfl⟩,fun⟨v,g,a,b,c,i,j,k,l⟩=>⟨a,b,c,i,j,k,by rw[g,l]⟩⟩
 case bP f es=>exact⟨fun⟨a,b,c,d,e,g,i,j,k,l,sp,n,m⟩=>⟨_,m,a,b,c,d,e,g,i,j,k,l,sp,n,rfl⟩,fun⟨v,h,a,b,c,d,e,g,i,j,k,l,sp,n,m⟩=>⟨a,b,c,d,e,g,i,j,k,l,sp,n,by rw[h,m]⟩⟩
 case seq es=>
  constructor
  ·rintro(⟨g,i⟩|⟨a,b,c,d,e,g,i,j,l,sp,n,m⟩)
   ·exact⟨_,i,.inl ⟨g,rfl⟩⟩
   ·exact⟨_,m,.inr ⟨a,b,c,d,e,g,i,j,l,sp,n,rfl⟩⟩
  ·rintro⟨v,h,(⟨g,i⟩|⟨a,b,c,d,e,g,i,j,l,sp,n,m⟩)⟩
   ·exact .inl ⟨g,by rw[h,i]⟩
   ·exact .inr ⟨a,b,c,d,e,g,i,j,l,sp,n,by rw[h,m]⟩
 case fo es=>exact⟨fun⟨a,b,c,g,i,j,k⟩=>⟨_,k,a,b,c,g,i,j,rfl⟩,fun⟨v,h,a,b,c,g,i,j,k⟩=>⟨a,b,c,g,i,j,by rw[h,k]⟩⟩
 case func f x y=>exact⟨fun⟨a,b,g,i,j⟩=>⟨_,j,a,b,g,i,rfl⟩,fun⟨v,h,a,b,g,i,j⟩=>⟨a,b,g,i,by rw[h,j]⟩⟩
theorem wO{v:PV}{u:a1}(hs:aL v=.agg u)(cs:List a5):aR P w aa v cs↔aD P w aa v (.agg cs.toArray):=by
 cases v<;>simp[aL]at hs;subst hs;simp only[aR,aD];constructor
 ·rintro⟨l,a,b,c,rfl⟩;exact⟨l,a,b,c,rfl⟩
 ·rintro⟨l,a,b,c,d⟩;refine⟨l,a,b,c,?_⟩;injection d with d;simpa using congrArg ay d
theorem C0{v:AV}(hs:ad v=.leaf)(cs:List a5):br P w aa β H v cs↔∃c,cs=[c]/\aB P w aa β H v c:=by
 cases v<;>simp[ad]at hs<;>simp only[br,aB]
 case p t=>exact tO hs cs
 case func f x y=>exact⟨fun⟨a,b,d,e,g⟩=>⟨_,g,a,b,d,e,rfl⟩,fun⟨v,h,a,b,d,e,g⟩=>⟨a,b,d,e,by rw[h,g]⟩⟩
theorem N7{v:AV}{u:a1}(hs:ad v=.agg u)(cs:List a5):br P w aa β H v cs↔aB P w aa β H v (.agg cs.toArray):=by
 cases v<;>simp[ad]at hs
 case p t=>simp only[br,aB];exact wO hs cs
 case st u' fs=>
  subst hs;simp only[br,aB];constructor
  ·rintro⟨l,a,b,c,rfl⟩;exact⟨l,a,b,c,rfl⟩
  ·rintro⟨l,a,b,c,d⟩;refine⟨l,a,b,c,?_⟩;injection d with d;simpa using congrArg ay d
theorem yO{v:AV}{x:a5}(h:aB P w aa β H v x)(hs:ad v≠.bad):br P w aa β H v x.cells.toList:=by
 cases a:ad v with
 |bad=>exact absurd a hs
 |leaf=>
  rw[C0 a];refine⟨x,?_,h⟩;cases v<;>simp[ad]at a<;>simp only[aB]at h
  case p t=>
   cases t<;>simp[aL]at a<;>simp only[aD]at h
   case bool|int|dM|aP|fF|iv|ga=>subst h;rfl
   case str=>obtain⟨_,rfl,_⟩:=h;rfl
   case cE=>obtain⟨_,_,_,_,_,_,rfl⟩:=h;rfl
   case bP=>obtain⟨_,_,_,_,_,_,_,_,_,_,_,_,rfl⟩:=h;rfl
   case seq=>rcases h with⟨_,rfl⟩|⟨_,_,_,_,_,_,_,_,_,_,_,rfl⟩<;>rfl
   case fo=>obtain⟨_,_,_,_,_,_,rfl⟩:=h;rfl
   case func=>obtain⟨_,_,_,_,rfl⟩:=h;rfl
  case func=>obtain⟨_,_,_,_,rfl⟩:=h;rfl
  all_goals (have b:=h.1;cases x<;>first|rfl|(simp[Value.oneCell']at b))
 |agg u=>
  cases v<;>simp[ad]at a
  case p t=>
   cases t<;>simp[aL]at a;simp only[aB,aD]at h;obtain⟨l,c,b,d,rfl⟩:=h;simp only[br,aR];exact⟨l,c,b,d,by simp[Value.cells]⟩
  case st u' fs=>
   simp only[aB]at h;obtain⟨l,c,b,d,rfl⟩:=h;simp only[br];exact⟨l,c,b,d,by simp[Value.cells]⟩
end
mutual
def Wk:PV->PV->Prop
 | .undef,v=>v=.undef
 | .bool b,v=>v=.bool b
 | .int k n,v=>v=.int k n
 | .str s,v=>v=.str s
 | .dM,v=>v=.dM
 | .fF,v=>v=.fF
 | .iv,v=>v=.iv
 | .ga,v=>v=.ga
 | .aP,v=>v=.aP\/v=.seq []
 | .cE t,v=>match v with
  | .cE h=>Wk t h
  |_=>False
 | .bP f es,v=>match v with
  | .bP g fs=>(g=true->f=true)/\bG es fs
  | .seq fs=>bG es fs
  |_=>False
 | .seq es,v=>match v with
  | .seq fs=>bG es fs
  |_=>False
 | .fo es,v=>match v with
  | .fo fs=>kX es fs
  |_=>False
 | .func f a b,v=>match v with
  | .func g c d=>f=g/\bG a c/\bG b d
  |_=>False
 | .st u es,v=>match v with
  | .st u' fs=>u=u'/\bG es fs
  |_=>False
 | .aG es,v=>match v with
  | .aG fs=>bG es fs
  |_=>False
def bG:List PV->List PV->Prop
 |[],fs=>fs=[]
 |v::vs,fs=>match fs with
  |f::fs=>Wk v f/\bG vs fs
  |[]=>False
def kX:List (PV×PV)->List (PV×PV)->Prop
 |[],fs=>fs=[]
 |(k,v)::vs,fs=>match fs with
  |(e,f)::fs=>k=e/\Wk v f/\kX vs fs
  |[]=>False
end
mutual
theorem Wk.refl:∀v,Wk v v
 | .undef| .bool _| .int _ _| .str _| .dM| .fF| .iv| .ga=>by simp[Wk]
 | .aP=>by simp[Wk]
 | .cE t=>by simp only[Wk];exact Wk.refl t
 | .bP f c=>by simp only[Wk];exact⟨id,bG.refl c⟩
 | .seq c=>by simp only[Wk];exact bG.refl c
 | .fo c=>by simp only[Wk];exact kX.refl c
 | .func f a b=>by simp only[Wk];exact⟨trivial,bG.refl a,bG.refl b⟩
 | .st u c=>by simp only[Wk];exact⟨trivial,bG.refl c⟩
 | .aG c=>by simp only[Wk];exact bG.refl c
theorem bG.refl:∀vs,bG vs vs
 |[]=>by simp[bG]
 |v::vs=>by simp only[bG];exact⟨Wk.refl v,bG.refl vs⟩
theorem kX.refl:∀c,kX c c
 |[]=>by simp[kX]
 |(k,v)::vs=>by simp only[kX];exact⟨trivial,Wk.refl v,kX.refl vs⟩
end
theorem bG.length:∀{es fs:List PV},bG es fs->fs.length=es.length
 |[],fs,h=>by simp only[bG]at h;subst h;rfl
 |v::vs,fs,h=>by
  cases fs with
  |nil=>simp[bG]at h
  |cons f fs=>simp only[bG]at h;simp[bG.length h.2]
theorem bG.pJ{a fs:List PV}(h:bG a fs):fs=[]↔a=[]:=by
 have:=h.length;rw[<-cC,<-cC,this]
theorem Wk.aL:∀{v v':PV},Wk v v'->au.aL v'=au.aL v
 | .undef,v',h| .bool _,v',h| .int _ _,v',h| .str _,v',h| .dM,v',h| .fF,v',h| .iv,v',h| .ga,v',h=>by simp only[Wk]at h;subst h;rfl
 | .aP,v',h=>by simp only[Wk]at h;rcases h with rfl|rfl<;>rfl
 | .cE _,v',h| .bP _ _,v',h| .seq _,v',h| .fo _,v',h| .func _ _ _,v',h| .aG _,v',h=>by cases v'<;>simp only[Wk]at h<;>rfl
 | .st _ _,v',h=>by
  cases v'<;>simp only[Wk]at h;simp[au.aL,h.1]
section
variable{P:a0}{w:a7}{aa:Nat->Prop}
mutual
theorem aR.dd:∀(v v':PV)(cs:List a5),Wk v v'->aR P w aa v cs->aR P w aa v' cs
 | .undef,v',cs,h,hc| .bool _,v',cs,h,hc| .int _ _,v',cs,h,hc| .str _,v',cs,h,hc| .dM,v',cs,h,hc| .fF,v',cs,h,hc| .iv,v',cs,h,hc| .ga,v',cs,h,hc=>by simp only[Wk]at h;subst h;exact hc
 | .aP,v',cs,h,hc=>by
  simp only[Wk]at h;rcases h with rfl|rfl
  ·exact hc
  ·simp only[aR]at hc⊢;exact .inl ⟨trivial,hc⟩
 | .cE t,v',cs,h,hc=>by
  cases v'<;>simp only[Wk]at h;simp only[aR]at hc⊢;obtain⟨al,off,ts,d,i⟩:=hc;exact⟨al,off,ts,aR.dd _ _ _ h d,i⟩
 | .bP f o,v',cs,h,hc=>by
  cases v' with
  |bP g fs=>
   simp only[Wk]at h;simp only[aR]at hc⊢;obtain⟨al,off,cap,ai,m,d,i,j,p,q,s⟩:=hc;have z:=h.2.length;rw[z];exact⟨al,off,cap,ai,m,bg.dd _ _ _ _ h.2 d,fun A=>i (fun e=>A (h.2.pJ.2 e)),j,fun e=>p (h.1 e),q,s⟩
  |seq fs=>
   simp only[Wk]at h;simp only[aR]at hc⊢;obtain⟨al,off,cap,ai,m,d,i,j,p,q,s⟩:=hc;have z:=h.length;rw[z];exact .inr ⟨al,off,cap,ai,m,bg.dd _ _ _ _ h d,fun A=>i (fun e=>A (h.pJ.2 e)),j,q,s⟩
  |_=>simp only[Wk]at h
 | .seq o,v',cs,h,hc=>by
  cases v'<;>simp only[Wk]at h;simp only[aR]at hc⊢;rcases hc with⟨d,i⟩|⟨al,off,cap,ai,m,d,i,j,q,s⟩
  ·exact .inl ⟨h.pJ.2 d,i⟩
  ·have z:=h.length;rw[z];exact .inr ⟨al,off,cap,ai,m,bg.dd _ _ _ _ h d,fun A=>i (fun e=>A (h.pJ.2 e)),j,q,s⟩
 | .fo o,v',cs,h,hc=>by
  cases v'<;>simp only[Wk]at h;simp only[aR]at hc⊢;obtain⟨r,C,clock,d,i,j,p⟩:=hc;exact⟨r,C,clock,d,i,cH.dd _ _ _ h j,p⟩
 | .func f a b,v',cs,h,hc=>by
  cases v'<;>simp only[Wk]at h;obtain⟨rfl,F,G⟩:=h;simp only[aR]at hc⊢;obtain⟨E,D,d,i,j⟩:=hc;exact⟨E,D,bt.dd _ _ _ F d,bt.dd _ _ _ G i,j⟩
 | .st u o,v',cs,h,hc=>by
  cases v'<;>simp only[Wk]at h;obtain⟨rfl,h⟩:=h;simp only[aR]at hc⊢;obtain⟨l,m,d,i,j⟩:=hc;exact⟨l,m,d,bg.dd _ _ _ _ h i,j⟩
 | .aG o,v',cs,h,hc=>by simp[aR]at hc
theorem bg.dd:∀(l:List Nat)(o fs:List PV)(m:List (List a5)),bG o fs->bg P w aa l o m->bg P w aa l fs m
 |l,[],fs,m,h,hc=>by simp only[bG]at h;subst h;exact hc
 |l,v::vs,fs,m,h,hc=>by
  cases fs with
  |nil=>simp[bG]at h
  |cons f fs=>
   simp only[bG]at h;cases l with
   |nil=>simp[bg]at hc
   |cons n l=>
    simp only[bg]at hc⊢;obtain⟨c,cs,d,i,j,p⟩:=hc;exact⟨c,cs,d,aR.dd _ _ _ h.1 i,j,bg.dd _ _ _ _ h.2 p⟩
theorem aD.dd:∀(v v':PV)(x:a5),Wk v v'->aD P w aa v x->aD P w aa v' x
 | .undef,v',cs,h,hc| .bool _,v',cs,h,hc| .int _ _,v',cs,h,hc| .str _,v',cs,h,hc| .dM,v',cs,h,hc| .fF,v',cs,h,hc| .iv,v',cs,h,hc| .ga,v',cs,h,hc=>by simp only[Wk]at h;subst h;exact hc
 | .aP,v',cs,h,hc=>by
  simp only[Wk]at h;rcases h with rfl|rfl
  ·exact hc
  ·simp only[aD]at hc⊢;exact .inl ⟨trivial,hc⟩
 | .cE t,v',cs,h,hc=>by
  cases v'<;>simp only[Wk]at h;simp only[aD]at hc⊢;obtain⟨al,off,ts,d,i⟩:=hc;exact⟨al,off,ts,aR.dd _ _ _ h d,i⟩
 | .bP f o,v',cs,h,hc=>by
  cases v' with
  |bP g fs=>
   simp only[Wk]at h;simp only[aD]at hc⊢;obtain⟨al,off,cap,ai,m,d,i,j,p,q,s⟩:=hc;have z:=h.2.length;rw[z];exact⟨al,off,cap,ai,m,bg.dd _ _ _ _ h.2 d,fun A=>i (fun e=>A (h.2.pJ.2 e)),j,fun e=>p (h.1 e),q,s⟩
  |seq fs=>
   simp only[Wk]at h;simp only[aD]at hc⊢;obtain⟨al,off,cap,ai,m,d,i,j,p,q,s⟩:=hc;have z:=h.length;rw[z];exact .inr ⟨al,off,cap,ai,m,bg.dd _ _ _ _ h d,fun A=>i (fun e=>A (h.pJ.2 e)),j,q,s⟩
  |_=>simp only[Wk]at h
 | .seq o,v',cs,h,hc=>by
  cases v'<;>simp only[Wk]at h;simp only[aD]at hc⊢;rcases hc with⟨d,i⟩|⟨al,off,cap,ai,m,d,i,j,q,s⟩
  ·exact .inl ⟨h.pJ.2 d,i⟩
  ·have z:=h.length;rw[z];exact .inr ⟨al,off,cap,ai,m,bg.dd _ _ _ _ h d,fun A=>i (fun e=>A (h.pJ.2 e)),j,q,s⟩
 | .fo o,v',cs,h,hc=>by
  cases v'<;>simp only[Wk]at h;simp only[aD]at hc⊢;obtain⟨r,C,clock,d,i,j,p⟩:=hc;exact⟨r,C,clock,d,i,cH.dd _ _ _ h j,p⟩
 | .func f a b,v',cs,h,hc=>by
  cases v'<;>simp only[Wk]at h;obtain⟨rfl,F,G⟩:=h;simp only[aD]at hc⊢;obtain⟨E,D,d,i,j⟩:=hc;exact⟨E,D,bt.dd _ _ _ F d,bt.dd _ _ _ G i,j⟩
 | .st u o,v',cs,h,hc=>by
  cases v'<;>simp only[Wk]at h;obtain⟨rfl,h⟩:=h;simp only[aD]at hc⊢;obtain⟨l,m,d,i,j⟩:=hc;exact⟨l,m,d,bg.dd _ _ _ _ h i,j⟩
 | .aG o,v',cs,h,hc=>by
  cases v'<;>simp only[Wk]at h;simp only[aD]at hc⊢;obtain⟨B,d,i⟩:=hc;exact⟨B,bt.dd _ _ _ h d,i⟩
theorem bt.dd:∀(o fs:List PV)(B:List a5),bG o fs->bt P w aa o B->bt P w aa fs B
 |[],fs,B,h,hc=>by simp only[bG]at h;subst h;exact hc
 |v::vs,fs,B,h,hc=>by
  cases fs with
  |nil=>simp[bG]at h
  |cons f fs=>
   simp only[bG]at h;simp only[bt]at hc⊢;obtain⟨y,H,d,i,j⟩:=hc;exact⟨y,H,d,aD.dd _ _ _ h.1 i,bt.dd _ _ _ h.2 j⟩
theorem cH.dd:∀(o fs:List (PV×PV))(C:List bl),kX o fs->cH P w aa o C->cH P w aa fs C
 |[],fs,B,h,hc=>by simp only[kX]at h;subst h;exact hc
 |(k,v)::vs,fs,B,h,hc=>by
  cases fs with
  |nil=>simp[kX]at h
  |cons f fs=>
   simp only[kX]at h;obtain⟨rfl,d,i⟩:=h;simp only[cH]at hc⊢;obtain⟨e,rest,e1,e2,e3,e4⟩:=hc;exact⟨e,rest,e1,e2,aD.dd _ _ _ d e3,cH.dd _ _ _ i e4⟩
end
end
section
variable{P:a0}{w:a7}{aa:Nat->Prop}{β:Bd}{H:Heap}
theorem lC:∀{fs:List AV}{l:List PV},dO fs=some l->fs=l.map .p
 |[],l,h=>by simp[dO]at h;subst h;rfl
 | .p v::r,l,h=>by
  simp only[dO]at h;cases a:dO r with
  |none=>simp[a]at h
  |some b=>simp[a]at h;subst h;simp[lC a]
 | .ptr ..::_,_,h| .b6 ..::_,_,h| .sl ..::_,_,h| .map ..::_,_,h| .func ..::_,_,h| .st ..::_,_,h| .aG ..::_,_,h=>by simp[dO]at h
theorem nR:∀{l:List Nat}{fs:List PV}{a:List (List a5)},bM P w aa β H l (fs.map .p) a↔bg P w aa l fs a
 |[],[],_=>by simp[bM,bg]
 |[],_::_,_=>by simp[bM,bg]
 |_::_,[],_=>by simp[bM,bg]
 |n::g,v::vs,a=>by
  simp only[cy,bM,bg,br];constructor
  ·rintro⟨c,cs,b,d,e,f⟩;exact⟨c,cs,b,d,e,nR.1 f⟩
  ·rintro⟨c,cs,b,d,e,f⟩;exact⟨c,cs,b,d,e,nR.2 f⟩
theorem jz:∀{fs:List PV}{d:List a5},bB P w aa β H (fs.map .p) d↔bt P w aa fs d
 |[],_=>by simp[bB,bt]
 |v::vs,d=>by
  simp only[cy,bB,bt,aB];constructor
  ·rintro⟨y,e,a,b,c⟩;exact⟨y,e,a,b,jz.1 c⟩
  ·rintro⟨y,e,a,b,c⟩;exact⟨y,e,a,b,jz.2 c⟩
theorem MM{u:a1}{fs:List AV}{cs:List a5}:br P w aa β H (ib u fs) cs↔br P w aa β H (.st u fs) cs:=by
 unfold ib;cases h:dO fs with
 |none=>rfl
 |some l=>have:=lC h;subst this;simp[br,aR,nR]
theorem YN{u:a1}{fs:List AV}{x:a5}:aB P w aa β H (ib u fs) x↔aB P w aa β H (.st u fs) x:=by
 unfold ib;cases h:dO fs with
 |none=>rfl
 |some l=>have:=lC h;subst this;simp[aB,aD,nR]
theorem iW(n:Nat×Nat->Prop):∀l:List PV,aS n (l.map .p)
 |[]=>by simp[aS]
 |v::l=>by simp only[cy,aS,aE,true_and];exact iW n l
theorem B3{n:Nat×Nat->Prop}{u:a1}{fs:List AV}(h:aS n fs):aE n (ib u fs):=by
 unfold ib;cases dO fs with
 |none=>exact h
 |some l=>simp[aE]
theorem cL{n:Nat×Nat->Prop}:∀{fs:List AV},aS n fs↔∀v∈fs,aE n v
 |[]=>by simp[aS]
 |v::vs=>by simp[aS,cL (fs:=vs)]
theorem tX:∀{l:List Nat}{fs:List AV}{d:List (List a5)}{i:Nat}{f:AV},bM P w aa β H l fs d->fs[i]?=some f->
 ∃pre c post,d.flatten=pre++c++post/\pre.length=(l.take i).sum/\i<l.length/\l[i]?=some c.length/\br P w aa β H f c/\
  ∀b c',br P w aa β H b c'->c'.length=c.length->∃a,a.flatten=pre++c'++post/\bM P w aa β H l (fs.set i b) a
 |[],[],_,i,f,_,hf=>by simp at hf
 |[],_::_,_,_,_,h,_=>by simp[bM]at h
 |_::_,[],_,_,_,h,_=>by simp[bM]at h
 |n::m,v::vs,d,0,f,h,hf=>by
  simp only[bM]at h;obtain⟨c,cs,rfl,g,e,j⟩:=h;simp at hf;subst hf;refine⟨[],c,cs.flatten,by simp,by simp,by simp,by simp[e],g,?_⟩;intro b c' hc k;exact⟨c'::cs,by simp,by simp only[da,bM];exact⟨c',cs,rfl,hc,by omega,j⟩⟩
 |n::m,v::vs,d,i+1,f,h,hf=>by
  simp only[bM]at h;obtain⟨c,cs,rfl,g,e,j⟩:=h;simp at hf;obtain⟨pre,x,post,k1,k2,k3,k4,k5,k6⟩:=tX j hf;refine⟨c++pre,x,post,by simp[k1],by simp[k2,e],by simpa using k3,by simpa using k4,k5,?_⟩;intro b c' hc k;obtain⟨a,e1,e2⟩:=k6 b c' hc k;exact⟨c::a,by simp[e1],by simp only[List.set_cons_succ,bM];exact⟨c,a,rfl,g,e,e2⟩⟩
theorem LH{t:AV}{u:a1}{cs:List a5}(hs:ad t= .agg u)(h:br P w aa β H t cs):
 ∃l fs a,dR P u=some l/\bM P w aa β H l fs a/\cs=a.flatten/\(∀c,t=.p c->fs=(cM c).map .p)/\(∀u' g,t=.st u' g->fs=g/\u'=u):=by
 cases t<;>simp[ad]at hs
 case p t=>
  cases t<;>simp[aL]at hs;subst hs;simp only[br,aR]at h;obtain⟨l,a,d,e,f⟩:=h;exact⟨l,_,a,d,nR.2 e,f,fun c b=>by cases b;rfl,fun _ _ h=>by cases h⟩
 case st u' fs=>
  subst hs;simp only[br]at h;obtain⟨l,a,d,e,f⟩:=h;exact⟨l,fs,a,d,e,f,(fun c b=>by cases b),(fun j i b=>by cases b;exact⟨rfl,rfl⟩)⟩
theorem zU{t:PV}{a:List (a1×Nat)}:fe (.p t) a=(kV t a).map .p:=by
 cases a with
 |nil=>rfl
 |cons x r=>obtain⟨u,i⟩:=x;simp only[fe];cases kV t ((u,i)::r)<;>rfl
theorem pI:∀{z:List (a1×Nat)}{t s:AV}{cs:List a5}{o:Nat},br P w aa β H t cs->fe t z=some s->gn P z=some o->
 ∃n q post,cs=n++q++post/\n.length=o/\br P w aa β H s q/\
  ∀x k a,fX t z x=some a->br P w aa β H x k->k.length=q.length->br P w aa β H a (n++k++post)
 |[],t,s,cs,o,h,hs,d=>by
  simp[gn]at d;subst d;simp[fe]at hs;subst hs;refine⟨[],cs,[],by simp,by simp,h,?_⟩;intro x k a hx y _;simp[fX]at hx;subst hx;simpa using y
 |(u,i)::r,t,s,cs,o,h,hs,d=>by
  simp only[gn]at d;cases m:dR P u with
  |none=>simp[m]at d
  |some l=>
   cases v:gn P r with
   |none=>simp[m,v]at d
   |some o'=>
    simp[m,v]at d;obtain⟨J,rfl⟩:=d
    have key:∃fs f,(∃j e,dR P u=some j/\bM P w aa β H j fs e/\cs=e.flatten)/\fs[i]?=some f/\fe f r=some s/\
     (∀x a,fX t ((u,i)::r) x=some a->∃b,fX f r x=some b/\a=ib u (fs.set i b)):=by
     cases t
     case p t=>
      rw[zU]at hs;simp only[kV]at hs
      by_cases g:aL t=.agg u
      ·simp only[g,if_true]at hs;obtain⟨j,fs,e,k1,k2,k3,k4,_⟩:=LH (t:=.p t) (by simpa[ad]using g) h;have:=k4 t rfl;subst this;cases hf:(cM t)[i]? with
       |none=>simp[hf]at hs
       |some f=>
        simp only[hf]at hs;refine⟨_,.p f,⟨j,e,k1,k2,k3⟩,by simp[hf],by rw[zU];exact hs,?_⟩;intro x a hx;simp only[fX,g,if_true,hf]at hx;cases hq:fX (.p f) r x with
        |none=>simp[hq]at hx
        |some b=>simp[hq]at hx;exact⟨b,rfl,hx.symm⟩
      ·simp[g]at hs
     case st u' fs=>
      simp only[fe]at hs
      by_cases g:u'=u
      ·subst g;simp only[if_true]at hs;obtain⟨j,D,e,k1,k2,k3,_,k4⟩:=LH (t:=.st u' fs) rfl h;have:=(k4 _ _ rfl).1;subst this;cases hf:D[i]? with
       |none=>simp[hf]at hs
       |some f=>
        simp only[hf]at hs;refine⟨_,f,⟨j,e,k1,k2,k3⟩,hf,hs,?_⟩;intro x a hx;simp only[fX,if_true,hf]at hx;cases hq:fX f r x with
        |none=>simp[hq]at hx
        |some b=>simp[hq]at hx;exact⟨b,rfl,hx.symm⟩
      ·simp[g]at hs
     all_goals simp[fe]at hs
    obtain⟨fs,f,⟨j,e,k1,k2,k3⟩,hf,F,aK⟩:=key;rw[m]at k1;cases k1;obtain⟨n,c,post,e1,e2,e3,e4,e5,C⟩:=tX k2 hf;obtain⟨I,q,G,g1,g2,g3,g4⟩:=pI e5 F v;refine⟨n++I,q,G++post,by rw[k3,e1,g1];simp,by simp[e2,g2],g3,?_⟩;intro x k a hx y A;obtain⟨b,E,rfl⟩:=aK x a hx;have aV:=g4 x k b E y A;obtain⟨B,c1,c2⟩:=C b _ aV (by rw[g1];simp[A]);rw[MM];simp only[br];exact⟨l,B,m,c2,by rw[c1];simp⟩
theorem zh{path:List (a1×Nat)}{t s:PV}{cs:List a5}{o:Nat}(h:aR P w aa t cs)(hs:kV t path=some s)(f:gn P path=some o):
 ∃a b post,cs=a++b++post/\a.length=o/\aR P w aa s b:=by
 obtain⟨a,b,post,c,d,e,_⟩:=pI (β:=⟨id,id⟩) (H:=[]) (t:=.p t) (s:=.p s) (by simpa[br]using h) (by rw[zU,hs];rfl) f;exact⟨a,b,post,c,d,by simpa[br]using e⟩
theorem vY{n:Nat×Nat->Prop}:∀{a:List (a1×Nat)}{t s:AV},fe t a=some s->aE n t->aE n s
 |[],t,s,hs,h=>by simp[fe]at hs;subst hs;exact h
 |(u,i)::r,.p t,s,hs,h=>by
  rw[zU]at hs;cases hq:kV t ((u,i)::r)with
  |none=>simp[hq]at hs
  |some q=>simp[hq]at hs;subst hs;simp[aE]
 |(u,i)::r,.st u' fs,s,hs,h=>by
  simp only[fe]at hs
  split at hs
  ·split at hs
   ·rename_i f hf;simp only[aE]at h;exact vY hs (cL.1 h f (c6 hf))
   ·simp at hs
  ·simp at hs
 |_::_,.ptr ..,_,hs,_|_::_,.b6 ..,_,hs,_|_::_,.sl ..,_,hs,_|_::_,.map ..,_,hs,_|_::_,.func ..,_,hs,_|_::_,.aG ..,_,hs,_=>by simp[fe]at hs
theorem vZ{n:Nat×Nat->Prop}:∀{e:List (a1×Nat)}{t b x:AV},fX t e x=some b->aE n t->aE n x->aE n b
 |[],t,b,x,hs,h,hx=>by simp[fX]at hs;subst hs;exact hx
 |(u,i)::r,.p t,b,x,hs,h,hx=>by
  simp only[fX]at hs
  split at hs
  ·split at hs
   ·split at hs
    ·rename_i f hf d c;simp at hs;subst hs;refine B3 (cL.2 ?_);intro v a;rcases cB a with a|rfl
     ·exact cL.1 (iW n _) v a
     ·exact vZ c (by simp[aE]) hx
    ·simp at hs
   ·simp at hs
  ·simp at hs
 |(u,i)::r,.st u' fs,b,x,hs,h,hx=>by
  simp only[fX]at hs
  split at hs
  ·split at hs
   ·split at hs
    ·rename_i _ f hf _ d c;simp at hs;subst hs;simp only[aE]at h;refine B3 (cL.2 ?_);intro v a;rcases cB a with a|rfl
     ·exact cL.1 h v a
     ·exact vZ c (cL.1 h f (c6 hf)) hx
    ·simp at hs
   ·simp at hs
  ·simp at hs
 |_::_,.ptr ..,_,_,hs,_,_|_::_,.b6 ..,_,_,hs,_,_|_::_,.sl ..,_,_,hs,_,_|_::_,.map ..,_,_,hs,_,_|_::_,.func ..,_,_,hs,_,_|_::_,.aG ..,_,_,hs,_,_=>by simp[fX]at hs
end
structure aW where
 v:AV
 ak:List (Nat×Obj):=[]
 aK:List (Nat×Obj):=[]
 aV:List Obj:=[]
def bd(H:Heap)(l:List (Nat×Obj)):Heap:=
 match l with
 |[]=>H
 |(b,o)::r=>bd (H.set b o) r
def put(dst:Option Tmp)(v:AV)(e:Env):Env:=
 match dst with
 |some d=>(d,v)::e
 |none=>e
def aW.app(e:aW)(dst:Option Tmp)(s:St):St:=⟨put dst e.v s.env,bd s.heap e.aK++e.aV⟩
def ev(e:Env):a9->AV
 | .tmp t=>aN e t
 | .const v=>.p (ofConst v)
 | .global g=>.p (Gl.g g)
 | .func f=>.p (.func f [] [])
def gw(s:List Nat):ByteArray:=⟨(s.map UInt8.ofNat).toArray⟩
mutual
def kG:PV->PV->Option Bool
 | .bool a,.bool b=>some (a==b)
 | .int k a,.int c b=>if k=c then some (a==b)else none
 | .str a,.str b=>some (a==b)
 | .st u fs,.st u' gs=>if u=u' then xA fs gs else none
 |_,_=>none
def xA:List PV->List PV->Option Bool
 |[],[]=>some true
 |a::as,b::bs=>match kG a b with
  |some true=>xA as bs
  |some false=>some false
  |none=>none
 |_,_=>none
end
def je(P:a0)(c:a1->PV->PV->Option Bool):List a1->List PV->List PV->Option Bool
 |[],[],[]=>some true
 |T::d,a::as,b::bs=>
  if kindOf P T=aL a/\kindOf P T=aL b then
   (match c T a b,je P c d as bs with
   |some r,some s=>some (r&&s)
   |_,_=>none)
  else none
 |_,_,_=>none
def ir(P:a0):Nat->a1->PV->PV->Option Bool
 |0,_,_,_=>none
 |n+1,T,v,v'=>
  match P.underlying T,v,v' with
  |some .bool,.bool a,.bool b=>some (a==b)
  |some (.int _),.int k a,.int d b=>if k=d then some (a==b)else none
  |some .string,.str a,.str b=>some (a==b)
  |some (.struct fs),.st u xs,.st u' c=>
   if kindOf P T= .agg u/\u'=u/\P.stoodInHeld T=false/\fs.toList.all (fun f=>f.name != "_")=true then je P (ir P n) (fs.toList.map (·.type)) xs c else none
  |some (.array m e),.st u xs,.st u' c=>
   if kindOf P T=.agg u/\u'=u/\(P.info? e).isSome=true then je P (ir P n) (cc m e) xs c else none
  |_,_,_=>none
def su(P:a0)(T:a1):Bool:=!P.eqGuardType P.depth T
def rq(P:a0)(T:a1):Bool:=match P.underlying T with|some .bool=>true|_=>false
def aLX(P:a0)(T:a1):Bool:=match P.underlying T with|some (.int _)=>true|_=>false
def iB(P:a0)(T:a1):Bool:=match P.underlying T with|some .string=>true|_=>false
inductive u9 where|ptr|slice|map|func|iface
 deriving DecidableEq
def mv:a9->Bool
 | .const _=>true
 |_=>false
def dD(P:a0)(T:a1)(c:Bool):AV->Option u9
 | .p .dM=>match P.underlying T with
  |some (.pointer _)=>some .ptr
  |_=>none
 | .p .aP=>match P.underlying T with
  |some (.slice _)=>some .slice
  |_=>none
 | .p .fF=>match P.underlying T with
  |some (.map _ _)=>some .map
  |_=>none
 | .p .iv=>match P.underlying T with
  |some (.func _ _ _)=>some .func
  |_=>none
 | .p .ga=>match c,P.underlying T with
  |true,some (.interface _)=>some .iface
  |_,_=>none
 |_=>none
def cX(H:Heap)(k:u9)(x:AV):Option Bool:=
 match k,x with
 | .ptr,.p .dM| .slice,.p .aP| .map,.p .fF| .func,.p .iv| .iface,.p .ga=>some true
 | .ptr,.p (.cE _)| .slice,.p (.bP _ _)| .map,.p (.fo _)| .func,.p (.func _ _ _)| .func,.func _ _ _=>some false
 | .ptr,.ptr b _=>match H[b]? with
  |some (.box _ _)=>some false
  |_=>none
 | .map,.map b=>match H[b]? with
  |some (.map _ _)=>some false
  |_=>none
 | .slice,.p (.seq (_::_))=>some false
 | .slice,.sl b aA ai _ _=>match H[b]? with
  |some (.arr k c a es)=>if aA=c/\ai=a then some (k.gr&&es.isEmpty)else none
  |_=>none
 |_,_=>none
def pZ(op:BinOp)(k:bo)(a b:Int)(K:PV->Prop):Prop:=
 match op with
 | .add=>K (.int k (k.wrap (a+b)))
 | .sub=>K (.int k (k.wrap (a-b)))
 | .mul=>K (.int k (k.wrap (a*b)))
 | .quo=>b≠0/\K (.int k (k.wrap (a.tdiv b)))
 | .rem=>b≠0/\K (.int k (a.tmod b))
 | .and=>K (.int k (k.wrap (aT k.bits a&&&aT k.bits b).toNat))
 | .or=>K (.int k (k.wrap (aT k.bits a|||aT k.bits b).toNat))
 | .xor=>K (.int k (k.wrap (aT k.bits a^^^aT k.bits b).toNat))
 | .andNot=>K (.int k (k.wrap (aT k.bits a&&&~~~aT k.bits b).toNat))
 | .eql=>K (.bool (a==b))
 | .neq=>K (.bool (a !=b))
 | .lss=>K (.bool (decide (a<b)))
 | .leq=>K (.bool (decide (a<=b)))
 | .gtr=>K (.bool (decide (a>b)))
 | .geq=>K (.bool (decide (a>=b)))
 | .shl=>0<=b/\K (.int k (k.wrap (a*2^(min b.toNat k.bits))))
 | .shr=>0<=b/\K (.int k (a.fdiv (2^(min b.toNat k.bits))))
def jj:List Nat->List Nat->Bool
 |_,[]=>false
 |[],_::_=>true
 |a::x,b::y=>decide (a<b)||(a==b&&jj x y)
def pY(op:BinOp)(a b:List Nat)(K:PV->Prop):Prop:=
 match op with
 | .add=>a.length+b.length<9223372036854775808/\K (.str (a++b))
 | .eql=>K (.bool (a==b))
 | .neq=>K (.bool (!(a==b)))
 | .lss=>K (.bool (jj a b))
 | .leq=>K (.bool (jj a b||a==b))
 | .gtr=>K (.bool (!(jj a b||a==b)))
 | .geq=>K (.bool (!(jj a b)))
 |_=>False
def kt(P:a0)(op:BinOp)(T:a1)(c:Bool)(H:Heap)(x y:AV)(K:PV->Prop):Prop:=
 match x,y with
 | .p (.int k a),.p (.int d b)=>(k=d\/op=.shl\/op=.shr)/\pZ op k a b K
 | .p (.str a),.p (.str b)=>pY op a b K
 | .p (.bool a),.p (.bool b)=>rq P T=true/\match op with
  | .eql=>K (.bool (a==b))
  | .neq=>K (.bool (!(a==b)))
  |_=>False
 | .p (.st u fs),.p (.st u' gs)=>su P T=true/\(match ir P 9 T (.st u fs) (.st u' gs),op with
  |some r,.eql=>K (.bool r)
  |some r,.neq=>K (.bool !r)
  |_,_=>False)
 |x,y=>
  (match dD P T c y with
  |some k=>(match cX H k x,op with
   |some r,.eql=>K (.bool r)
   |some r,.neq=>K (.bool !r)
   |_,_=>False)
  |none=>False)
def cZ:Nat:=1073741824
def gO(H:Heap):AV->Option (List AV)
 | .p .aP=>some []
 | .p (.bP _ es)=>some (es.map .p)
 | .p (.seq es)=>some (es.map .p)
 | .p (.str s)=>some (s.map fun c=>.p (.int .u8 (c:Nat)))
 | .sl b aA ai off len=>match H[b]? with
  |some (.arr _ d a es)=>if aA=d/\ai=a/\off+len<=es.length then some ((es.drop off).take len)else none
  |_=>none
 |_=>none
def dE(H:Heap):AV->List (Nat×Obj)
 | .sl b _ _ _ _| .ptr b _| .b6 b _ _ _ _| .map b=>match H[b]? with
  |some o=>[(b,o)]
  |none=>[]
 |_=>[]
def fg(P:a0)(ai:Nat):List AV->Prop
 |[]=>True
 |v::vs=>(ad v≠.bad/\bI P (ad v)=ai)/\fg P ai vs
def cR(P:a0)(T:a1):Option Nat:=
 match P.underlying T with
 |some (.slice e)=>match P.info? e with
  |some i=>if i.bytes<32768/\0<i.size/\0<i.bytes then some i.size else none
  |none=>none
 |_=>none
def eB(P:a0)(T:a1):a1:=
 match P.underlying T with
 |some (.slice e)=>e
 |_=>0
def iF(P:a0)(X:a1):Bool:=
 match P.underlying X with
 |some (.int _)=>false
 |some _=>true
 |none=>false
def gk(P:a0)(T:a1):AK:=if eB P T=Gl.u8 then .bytes else .grow
def nQ(P:a0)(T X:a1)(H:Heap)(s x:AV)(K:aW->Prop):Prop:=
 match cR P T,gO H x with
 |some sz,some xs=>iF P X=true/\(cT P (eB P T)).isSome=true/\fg P sz xs/\
  (match s with
  | .p .aP=>if xs.isEmpty then K {v:=s,ak:=dE H x}else xs.length<=cZ/\K {v:=.sl H.length 0 sz 0 xs.length,ak:=dE H x,aV:=[.arr (gk P T) 0 sz xs]}
  | .p (.bP full es)=>fg P sz (es.map .p)/\if xs.isEmpty then K {v:=s,ak:=dE H x}else full=true/\es.length+xs.length<=cZ/\
   K {v:=.sl H.length 0 sz 0 (es.length+xs.length),ak:=dE H x,aV:=[.arr (gk P T) 0 sz (es.map .p++xs)]}
  | .sl b aA ai off len=>match H[b]? with
   |some (.arr k c a es)=>aA=c/\ai=a/\ai=sz/\off+len<=es.length/\
    if xs.isEmpty then K {v:=s,ak:=(b,.arr k c a es)::dE H x}
    else es.length+xs.length<=cZ/\(match k with
     | .frozen=>False
     | .exact=>if off+len+xs.length<=es.length then
      K {v:=.sl b aA ai off (len+xs.length),ak:=(b,.arr k c a es)::dE H x,aK:=[(b,.arr .exact aA ai (es.take (off+len)++xs++es.drop (off+len+xs.length)))]}
      else K {v:=.sl H.length 0 sz 0 (len+xs.length),ak:=(b,.arr k c a es)::dE H x,aV:=[.arr (gk P T) 0 sz ((es.drop off).take len++xs)]}
     |_=>off=0/\(k=.bytes->eB P T=Gl.u8)/\K {v:=.sl b (aA+1) ai 0 (len+xs.length),ak:=(b,.arr k c a es)::dE H x,aK:=[(b,.arr k (aA+1) ai (es.take len++xs))]})
   |_=>False
  |_=>False)
 |_,_=>False
def gG(x:Option AV)(d:Nat)(K:Nat->Prop):Prop:=
 match x with
 |none=>K d
 |some (.p (.int _ i))=>0<=i/\K i.toNat
 |_=>False
def nX(P:a0)(T:a1)(H:Heap)(x:AV)(lo hi d:Option AV)(K:aW->Prop):Prop:=
 d.isNone/\match x with
 | .p (.str s)=>iB P T=true/\gG hi s.length fun h=>gG lo 0 fun l=>h<=s.length/\l<=h/\K {v:=.p (.str ((s.take h).drop l))}
 | .p .aP=>(cR P T).isSome=true/\gG hi 0 fun h=>gG lo 0 fun l=>h<=0/\l<=h/\K {v:=x}
 | .p (.bP full es)=>gG hi es.length fun h=>gG lo 0 fun l=>h<=es.length/\l<=h/\
  (match cR P T with
  |some sz=>fg P sz (es.map .p)/\K {v:=.p (.bP (full&&h==es.length) ((es.take h).drop l))}
  |none=>False)
 | .p (.seq es)=>gG hi es.length fun h=>gG lo 0 fun l=>h<=es.length/\l<=h/\
  (match cR P T with
  |some sz=>fg P sz (es.map .p)/\K {v:=.p (.seq ((es.take h).drop l))}
  |none=>False)
 | .sl b aA ai off len=>match H[b]? with
  |some (.arr k c a es)=>aA=c/\ai=a/\cR P T=some ai/\¬(k.gr=true/\es=[])/\off+len<=es.length/\
   gG hi len fun h=>gG lo 0 fun l=>off+h<=es.length/\l<=h/\
    (if l=0 then K {v:=.sl b aA ai off h,ak:=[(b,.arr k c a es)]}
    else if l=h then K {v:=.p (.bP false []),ak:=[(b,.arr k c a es)]}
    else K {v:=.sl b aA ai (off+l) (h-l),ak:=[(b,.arr k c a es)]})
  |_=>False
 |_=>False
def qS(P:a0)(T:a1)(H:Heap)(x:AV)(lo hi:Option AV)(m:AV)(K:aW->Prop):Prop:=
 match x with
 | .sl b aA ai off len=>match H[b]? with
  |some (.arr k c a es)=>aA=c/\ai=a/\(cR P T).isSome=true/\¬(k.gr=true/\es=[])/\off+len<=es.length/\hi.isSome=true/\
   gG hi len fun h=>gG lo 0 fun l=>gG (some m) 0 fun m=>off+m<=es.length/\h<=m/\l<=h/\K {v:=.p .undef,ak:=[(b,.arr k c a es)]}
  |_=>False
 |_=>False
def qp(P:a0)(T:a1)(x k:PV):Option Bool:=match x with
 | .st u fs=>match ir P 9 T (.st u fs) k,kG (.st u fs) k with
  |some a,some b=>bif a==b then some a else none
  |_,_=>none
 |x=>kG x k
def fZ(P:a0)(T:a1):List (PV×PV)->PV->Option (Option PV)
 |[],_=>some none
 |(k,v)::r,x=>match qp P T x k with
  |some true=>some (some v)
  |some false=>fZ P T r x
  |none=>none
def mf(P:a0)(T:a1)(a:List (PV×PV))(x:PV):Option (Option PV):=match x with
 | .st u fs=>match fZ P T a (.st u fs)with
  |some none=>some none
  |_=>none
 |x=>fZ P T a x
def nF:PV->Bool
 | .st _ _=>false
 |_=>true
def lj(P:a0)(T:a1):List PV->List AV->PV->Option (Option AV)
 |[],[],_=>some none
 |k::ks,v::vs,x=>match qp P T x k with
  |some true=>some (some v)
  |some false=>lj P T ks vs x
  |none=>none
 |_,_,_=>none
def s8:Obj->Option (List PV×List AV)
 | .map false es=>some (es.map (·.1),es.map fun e=>.p e.2)
 | .dy ks vs=>some (ks,vs)
 |_=>none
def gF:List (PV×PV)->PV->PV->List (PV×PV)
 |[],k,v=>[(k,v)]
 |(a,v')::r,k,v=>if kG k a=some true then(k,v)::r else(a,v')::gF r k v
def ub(P:a0)(T:a1):Bool:=match P.underlying T with
 |some (.int _)|some .string|some .bool=>true
 |_=>false
def fD(P:a0)(T:a1):PV->Bool
 | .int k _=>match P.underlying T with
  |some (.int a)=>decide (k=a)
  |_=>false
 | .str _=>iB P T
 | .st u fs=>match P.underlying T with
  |some (.struct cM)=>cM.toList.all (fun f=>f.name != "_" &&ub P f.type)&&(ir P 9 T (.st u fs) (.st u fs)).isSome
  |_=>false
 |_=>false
def jn(P:a0)(T:a1):Option (a1×a1):=
 match P.underlying T with
 |some (.map k e)=>some (k,e)
 |_=>none
def lenOf(H:Heap):AV->Option (Nat×List (Nat×Obj))
 | .p (.str s)=>some (s.length,[])
 | .p .aP| .p .fF=>some (0,[])
 | .p (.bP _ es)| .p (.seq es)=>some (es.length,[])
 | .p (.fo es)=>some (es.length,[])
 | .sl b aA ai _off len=>match H[b]? with
  |some (.arr k c a es)=>if aA=c/\ai=a then some (len,[(b,.arr k c a es)])else none
  |_=>none
 | .map b=>match H[b]? with
  |some (.map fz es)=>some (es.length,[(b,.map fz es)])
  |_=>none
 |_=>none
def gW(P:a0)(T:a1):AV->Bool
 | .p (.str _)=>iB P T
 | .p .aP| .p (.bP _ _)| .p (.seq _)| .sl ..=>match P.underlying T with
  |some (.slice _)=>true
  |_=>false
 | .p .fF| .p (.fo _)| .map _=>match P.underlying T with
  |some (.map _ _)=>true
  |_=>false
 |_=>false
def AA(H:Heap):AV->Option (Nat×List (Nat×Obj))
 | .p .aP=>some (0,[])
 | .p (.bP true es)=>some (es.length,[])
 | .sl b aA ai off _len=>match H[b]? with
  |some (.arr .exact c a es)=>if aA=c/\ai=a/\off<=es.length then some (es.length-off,[(b,.arr .exact c a es)])else none
  |_=>none
 |_=>none
def bytesOf:List AV->Option (List Nat)
 |[]=>some []
 | .p (.int .u8 c)::r=>if 0<=c/\c<256 then match bytesOf r with
  |some l=>some (c.toNat::l)
  |none=>none
  else none
 |_=>none
def ptrTo(P:a0)(T:a1):Option a1:=
 match P.underlying T with
 |some (.pointer e)=>some e
 |_=>none
def l8(k:bo)(c:Bool):List AV->Int->Option Int
 |[],a=>some a
 | .p (.int d b)::r,a=>if k=d then l8 k c r (if c then(if b>a then b else a)else(if b<a then b else a))else none
 |_,_=>none
def iA(a:List AV):List (Nat×AV)->List AV
 |[]=>a
 |(i,v)::r=>iA (a.set i v) r
def l7(P:a0)(l:List Nat):List (Nat×AV)->Prop
 |[]=>True
 |(i,v)::r=>(∃n,l[i]?=some n/\bI P (ad v)=n/\ad v≠.bad)/\l7 P l r
def fL(H:Heap):List AV->Option (List PV×List (Nat×Obj)×List (Nat×Obj))
 |[]=>some ([],[],[])
 | .p v::r=>match fL H r with
  |some (a,ak,aK)=>some (v::a,ak,aK)
  |none=>none
 | .ptr b []::r=>match H[b]?,fL H r with
  |some (.box fz (.p t)),some (a,ak,aK)=>some (.cE t::a,(b,.box fz (.p t))::ak,(b,.box true (.p t))::aK)
  |_,_=>none
 |_=>none
def od(P:a0)(T:a1)(H:Heap)(a:AV)(K:aW->Prop):Prop:=
 match a with
 | .ptr b path=>match H[b]? with
  |some (.box fz t)=>match fe t path with
   |some s=>kindOf P T=ad s/\K {v:=s,ak:=[(b,.box fz t)]}
   |none=>False
  |_=>False
 | .b6 b aA ai i path=>match H[b]? with
  |some (.arr k d c es)=>aA=d/\ai=c/\∃h:i<es.length,match fe (es[i]'h) path with
   |some s=>kindOf P T=ad s/\K {v:=s,ak:=[(b,.arr k d c es)]}
   |none=>False
  |_=>False
 | .p (.cE t)=>kindOf P T=aL t/\K {v:=.p t}
 |_=>False
def nW(P:a0)(T:a1)(H:Heap)(a x:AV)(K:aW->Prop):Prop:=
 kindOf P T=ad x/\ad x≠.bad/\match a with
 | .ptr b path=>match H[b]? with
  |some (.box false t)=>match fe t path,fX t path x with
   |some s,some d=>ad s=ad x/\K {v:=.p (.aG []),ak:=[(b,.box false t)],aK:=[(b,.box false d)]}
   |_,_=>False
  |_=>False
 | .b6 b aA ai i path=>match H[b]? with
  |some (.arr k e c es)=>aA=e/\ai=c/\k≠.frozen/\∃h:i<es.length,match fe (es[i]'h) path,fX (es[i]'h) path x with
   |some s,some d=>ad s=ad x/\K {v:=.p (.aG []),ak:=[(b,.arr k e c es)],aK:=[(b,.arr k e c (es.set i d))]}
   |_,_=>False
  |_=>False
 |_=>False
def oZ(P:a0)(a:a1)(b:Nat)(key:PV)(x:AV)(o:Obj)(K:aW->Prop):Prop:=match s8 o with
 |some (ks,vs)=>nF key=true/\lj P a ks vs key=some none/\K {v:=.p (.aG []),ak:=[(b,o)],aK:=[(b,.dy (ks++[key]) (vs++[x]))]}
 |none=>False
def fU(P:a0)(T:a1):Option (a1×Nat):=
 match kindOf P T,P.underlying T with
 | .agg u,some (.struct fs)=>some (u,fs.size)
 |_,_=>none
def hJ(P:a0)(T:a1):Option (a1×Nat):=
 match kindOf P T,P.underlying T with
 | .agg u,some (.array n _)=>some (u,n)
 |_,_=>none
def nN(P:a0)(T:a1)(a:AV)(f:Nat)(K:aW->Prop):Prop:=
 match fU P T with
 |some (u,n)=>f<n/\(match a with
  | .ptr b path=>K {v:=.ptr b (path++[(u,f)])}
  | .b6 b aA ai i path=>K {v:=.b6 b aA ai i (path++[(u,f)])}
  | .p (.cE t)=>aL t=.agg u/\(match(cM t)[f]? with
   |some g=>K {v:=.p (.cE g)}
   |none=>False)
  |_=>False)
 |_=>False
def nM(P:a0)(T:a1)(H:Heap)(x i:AV)(K:aW->Prop):Prop:=
 match i with
 | .p (.int _ i)=>0<=i/\(match x with
  | .p (.bP _ es)=>∃h:i.toNat<es.length,cR P T=some (bI P (aL (es[i.toNat]'h)))/\K {v:=.p (.cE (es[i.toNat]'h))}
  | .p (.seq es)=>∃h:i.toNat<es.length,cR P T=some (bI P (aL (es[i.toNat]'h)))/\K {v:=.p (.cE (es[i.toNat]'h))}
  | .sl b aA ai off len=>cR P T=some ai/\i.toNat<len/\(match H[b]? with
   |some (.arr k c a es)=>aA=c/\ai=a/\¬(k.gr=true/\es=[])/\K {v:=.b6 b aA ai (off+i.toNat) [],ak:=[(b,.arr k c a es)]}
   |_=>False)
  | .ptr b path=>(match hJ P T with
   |some (u,n)=>i.toNat<n/\K {v:=.ptr b (path++[(u,i.toNat)])}
   |_=>False)
  | .b6 b aA ai j path=>(match hJ P T with
   |some (u,n)=>i.toNat<n/\K {v:=.b6 b aA ai j (path++[(u,i.toNat)])}
   |_=>False)
  | .p (.cE t)=>(match hJ P T with
   |some (u,n)=>aL t=.agg u/\i.toNat<n/\(match(cM t)[i.toNat]? with
    |some g=>K {v:=.p (.cE g)}
    |none=>False)
   |_=>False)
  |_=>False)
 |_=>False
def fG(P:a0)(ag:a8->Bool)(o:Oper)(ρ:a9->AV)(H:Heap)(K:aW->Prop):Prop:=
 match o.op with
 | .move x| .assign x=>K {v:=ρ x}
 | .pick c a b=>match ρ c with
  | .p (.bool t)=>K {v:=if t then ρ a else ρ b}
  |_=>False
 | .alloc T=>match cT P T with
  |some z=>kindOf P T=aL z/\aL z≠.bad/\jo T (aL z)=true/\K {v:=.ptr H.length [],aV:=[.box false (.p z)]}
  |none=>False
 | .box T x=>kindOf P T=ad (ρ x)/\ad (ρ x)≠.bad/\jo T (ad (ρ x))=true/\K {v:=.ptr H.length [],aV:=[.box false (ρ x)]}
 | .build T parts=>match kindOf P T,cT P T with
  | .agg u,some z=>(match dR P u with
   |some l=>aL z=.agg u/\l7 P l (parts.toList.map fun(i,x)=>(i,ρ x))/\K {v:=ib u (iA ((cM z).map .p) (parts.toList.map fun(i,x)=>(i,ρ x)))}
   |none=>False)
  |_,_=>False
 | .buildSlice T n parts=>match cR P T,cT P (eB P T)with
  |some sz,some z=>bI P (aL z)=sz/\n*sz<=1000000/\l7 P (cc n sz) (parts.toList.map fun(i,x)=>(i,ρ x))/\
   K {v:=.sl H.length 0 sz 0 n,aV:=[.arr .exact 0 sz (iA (cc n (.p z)) (parts.toList.map fun(i,x)=>(i,ρ x)))]}
  |_,_=>False
 | .load T a=>od P T H (ρ a) K
 | .store T a x=>nW P T H (ρ a) (ρ x) K
 | .binOp op T x y _=>kt P op T (mv y) H (ρ x) (ρ y) (fun v=>K {v:=.p v,ak:=dE H (ρ x)})
 | .unOp op _ x=>match op,ρ x with
  | .not,.p (.bool b)=>K {v:=.p (.bool (!b))}
  | .neg,.p (.int k n)=>K {v:=.p (.int k (k.wrap (0-n)))}
  | .xor,.p (.int k n)=>K {v:=.p (.int k (k.wrap (aT k.bits (if k.signed then -1 else k.max)^^^aT k.bits n).toNat))}
  |_,_=>False
 | .convert S D x=>match P.underlying S,P.underlying D,ρ x with
  |some _,some (.int k),.p (.int _ n)=>K {v:=.p (.int k (k.wrap n))}
  |some _,some .string,.p (.str s)=>K {v:=.p (.str s)}
  |some (.slice e),some .string,.sl b aA ai off len=>(match H[b]? with
   |some (.arr k q j es)=>aA=q/\ai=j/\ai=1/\P.underlying e=some (.int .u8)/\0<len/\off+len<=es.length/\(match bytesOf ((es.drop off).take len)with
    |some l=>K {v:=.p (.str l),ak:=[(b,.arr k q j es)]}
    |none=>False)
   |_=>False)
  |_,_,_=>False
 | .extract t i=>match ρ t with
  | .p (.aG vs)=>(match vs[i]? with
   |some v=>K {v:=.p v}
   |none=>False)
  | .aG vs=>(match vs[i]? with
   |some v=>K {v}
   |none=>False)
  |_=>False
 | .fieldAddr T a f=>nN P T (ρ a) f K
 | .indexAddr T x i=>nM P T H (ρ x) (ρ i) K
 | .field T x f=>match kindOf P T,P.underlying T,ρ x with
  | .agg u,some (.struct _),.p t=>aL t=.agg u/\(match(cM t)[f]?,(jv P u)[f]? with
   |some g,some F=>kindOf P F=aL g/\K {v:=.p g}
   |_,_=>False)
  |_,_,_=>False
 | .index T x i=>match ρ x,ρ i with
  | .p (.str s),.p (.int _ i)=>iB P T=true/\0<=i/\∃h:i.toNat<s.length,K {v:=.p (.int .u8 (s[i.toNat]'h))}
  | .p (.st u es),.p (.int _ i)=>(match hJ P T,(jv P u)[i.toNat]?,es[i.toNat]? with
   |some (u',n),some F,some g=>u'=u/\0<=i/\i.toNat<n/\kindOf P F=aL g/\K {v:=.p g}
   |_,_,_=>False)
  |_,_=>False
 | .makeFunc (.func f) fi ca=>if ag f then(match fL H (fi.toList.map ρ),fL H (ca.toList.map ρ)with
   |some (a,[],[]),some (b,ak,aK)=>K {v:=.p (.func f a b),ak,aK}
   |_,_=>False)
  else match dO (fi.toList.map ρ),dO (ca.toList.map ρ)with
   |some a,some b=>K {v:=.p (.func f a b)}
   |_,_=>K {v:=.func f (fi.toList.map ρ) (ca.toList.map ρ)}
 | .makeSlice T l c=>match cR P T,cT P (eB P T),ρ l,ρ c with
  |some sz,some z,.p (.int .i64 l),.p (.int .i64 c)=>bI P (aL z)=sz/\0<=l/\l=c/\l<=cZ/\K {v:=.sl H.length 0 sz 0 l.toNat,aV:=[.arr .exact 0 sz (cc l.toNat (.p z))]}
  |_,_,_,_=>False
 | .slice T x lo hi A=>match A with
  |none=>nX P T H (ρ x) (lo.map ρ) (hi.map ρ) none K
  |some m=>qS P T H (ρ x) (lo.map ρ) (hi.map ρ) (ρ m) K
 | .makeMap _ none=>K {v:=.map H.length,aV:=[.map false []]}
 | .lookup T x i ok=>match jn P T,ρ i with
  |some (w,E),.p key=>(match cT P E with
   |some z=>fD P w key=true/\(match ρ x with
    | .p .fF=>K {v:=.p (if ok then .aG [z,.bool false]else z)}
    | .p (.fo es)=>(match fZ P w es key with
     |some (some v)=>K {v:=.p (if ok then .aG [v,.bool true]else v)}
     |some none=>K {v:=.p (if ok then .aG [z,.bool false]else z)}
     |none=>False)
    | .map b=>(match H[b]? with
     |some (.map fz es)=>(match fZ P w es key with
      |some (some v)=>K {v:=.p (if ok then .aG [v,.bool true]else v),ak:=[(b,.map fz es)]}
      |some none=>K {v:=.p (if ok then .aG [z,.bool false]else z),ak:=[(b,.map fz es)]}
      |none=>False)
     |some (.dy ks vs)=>nF key=true/\(match lj P w ks vs key with
      |some (some v)=>K {v:=if ok then .aG [v,.p (.bool true)]else v,ak:=[(b,.dy ks vs)]}
      |some none=>K {v:=.p (if ok then .aG [z,.bool false]else z),ak:=[(b,.dy ks vs)]}
      |none=>False)
     |_=>False)
    |_=>False)
   |none=>False)
  |_,_=>False
 | .mapUpdate T m k x| .insert T m k x=>match jn P T,ρ m,ρ k,ρ x with
  |some (w,_),.map b,.p key,.p v=>fD P w key=true/\(match H[b]? with
   |some (.map false es)=>(match mf P w es key with
    |some _=>K {v:=.p (.aG []),ak:=[(b,.map false es)],aK:=[(b,.map false (gF es key v))]}
    |none=>False)
   |some (.dy ks vs)=>oZ P w b key (.p v) (.dy ks vs) K
   |_=>False)
  |some (w,_),.map b,.p key,x=>fD P w key=true/\(match H[b]? with
   |some o=>oZ P w b key x o K
   |none=>False)
  |_,_,_,_=>False
 | .range T x=>match ρ x with
  | .p (.str s)=>iB P T=true/\K {v:=.ptr H.length [],aV:=[.dC s 0]}
  |_=>False
 | .next it true=>match ρ it with
  | .ptr b []=>(match H[b]? with
   |some (.dC s pos)=>if pos<s.length then
    K {v:=.p (.aG [.bool true,.int .i64 pos,.int .i32 (Utf8.decode (gw s) pos).1]),ak:=[(b,.dC s pos)],aK:=[(b,.dC s (pos+(Utf8.decode (gw s) pos).2))]}
    else K {v:=.p (.aG [.bool false]),ak:=[(b,.dC s pos)]}
   |_=>False)
  |_=>False
 | .nilCheck x=>match ρ x with
  | .ptr _ _| .b6 _ _ _ _ _| .p (.cE _)=>K {v:=ρ x}
  |_=>False
 | .call c=>match c.callee with
  | .builtin b=>let args:=c.args.toList.map ρ
   let T:=c.argTypes.getD 0 0
   (match b,args with
   | .len,[x]=>(match lenOf H x with
    |some (n,ak)=>gW P T x=true/\0<c.argTypes.size/\K {v:=.p (.int .i64 n),ak}
    |none=>False)
   | .append,[s,x]=>c.argTypes.size=2/\nQ P T (c.argTypes.getD 1 0) H s x K
   | .min,.p (.int k a)::r=>(match l8 k false r a with
    |some n=>K {v:=.p (.int k n)}
    |none=>False)
   | .max,.p (.int k a)::r=>(match l8 k true r a with
    |some n=>K {v:=.p (.int k n)}
    |none=>False)
   | .copy,[d,x]=>(match cR P T,d,gO H x with
    |some sz,.sl b aA ai off len,some xs=>ai=sz/\fg P sz xs/\c.argTypes.size=2/\(match H[b]? with
     |some (.arr k q j es)=>aA=q/\ai=j/\k≠.frozen/\off+len<=es.length/\¬(k.gr=true/\es=[])/\
      K {v:=.p (.int .i64 (min xs.length len:Nat)),ak:=(b,.arr k q j es)::dE H x,aK:=[(b,.arr k q j (es.take off++xs.take (min xs.length len)++es.drop (off+min xs.length len)))]}
     |_=>False)
    |_,_,_=>False)
   | .cap,[x]=>(match AA H x with
    |some (n,ak)=>gW P T x=true/\0<c.argTypes.size/\K {v:=.p (.int .i64 n),ak}
    |none=>False)
   | .clear,[x]=>(match x with
    | .p .aP=>gW P T x=true/\0<c.argTypes.size/\K {v:=.p (.aG [])}
    | .sl b aA ai off len=>(match cR P T,cT P (eB P T),H[b]? with
     |some sz,some z,some (.arr k q j es)=>aA=q/\ai=j/\ai=sz/\bI P (aL z)=sz/\k≠.frozen/\off+len<=es.length/\¬(k.gr=true/\es=[])/\0<c.argTypes.size/\0<len/\
      K {v:=.p (.aG []),ak:=[(b,.arr k q j es)],aK:=[(b,.arr k q j (es.take off++cc len (.p z)++es.drop (off+len)))]}
     |_,_,_=>False)
    |_=>False)
   | .unsafeSliceData,[x]=>(match x with
    | .p .aP=>K {v:=.p .dM}
    | .sl b aA ai off len=>(match H[b]? with
     |some (.arr k q j es)=>aA=q/\ai=j/\((k.gr=true/\es=[]/\K {v:=.p .dM,ak:=[(b,.arr k q j es)]})\/(0<len/\off+len<=es.length/\K {v:=.b6 b aA ai off [],ak:=[(b,.arr k q j es)]}))
     |_=>False)
    |_=>False)
   | .unsafeString,[x,.p (.int .i64 n)]=>(match x with
    | .p .dM=>n=0/\c.argTypes.size=2/\K {v:=.p (.str [])}
    | .b6 b aA ai i []=>(match H[b]? with
     |some (.arr .bytes q j es)=>aA=q/\ai=j/\ai=1/\i=0/\0<n/\n.toNat<=es.length/\n<=9223372036854775807/\c.argTypes.size=2/\ptrTo P T=some Gl.u8/\P.cellsOf Gl.u8=1/\(match bytesOf (es.take n.toNat)with
      |some l=>K {v:=.p (.str l),ak:=[(b,.arr .bytes q j es)],aK:=[(b,.dead)]}
      |none=>False)
     |_=>False)
    |_=>False)
   |_,_=>False)
  |_=>False
 |_=>False
def newAt(a:Nat):List Obj->List (Nat×Obj)
 |[]=>[]
 |o::r=>(a,o)::newAt (a+1) r
structure bY(P:a0)(ah aa:Nat->Prop)(w:a7)(β:Bd)(H:Heap)(aF:Nat->Prop)(w':a7)(aJ:Bd)(H':Heap):Prop where
 bR:∀k,aa k->aF k
 fresh:∀k,aF k->aa k\/¬ah k
 ext:Ext ah aa w w'
 step:cd β H aJ H'
 rel:bS P w' aF aJ H' ah
 fp:∀x,aI H x->aI H' x
 loop:∀b,gQ H b->gQ H' b
def Enters(P:a0)(f:a8):Prop:=∀(args:Array a5)(w:a7),(callFunc f args).run P w=.ok (.enter f args) w
def cw(P:a0)(f:a8)(H:Heap)(args:List AV)(H':Heap)(v:AV):Prop:=
 Enters P f/\∀(w:a7)(aa ah:Nat->Prop)(β:Bd)(a:List a5),bS P w aa β H ah->bB P w aa β H args a->aS (aI H) args->
  bv P f a.toArray w fun e w'=>∃b aJ aF,e=.returned b/\bY P ah aa w β H aF w' aJ H'/\aB P w' aF aJ H' v b/\aE (aI H') v
def iD(P:a0)(b:Nat)(H:Heap)(args:List AV)(H':Heap)(v:AV):Prop:=
 gQ H b/\∀(w:a7)(aa ah:Nat->Prop)(β:Bd)(c:List a5),bS P w aa β H ah->bB P w aa β H args c->aS (aI H) args->
  ∃f tmps assign body,(Instr.yield (β.al b) c.toArray).run P w=.ok (.round (β.al b) f tmps assign body) w/\
   ∀(a:bb)(e:List bb),∃d w' aJ aF,Steps P (lone (Frame.round (β.al b) f tmps assign body .normal) (a::e) w) (lone (a.finish d) e w')/\
    bY P ah aa w β H aF w' aJ H'/\aB P w' aF aJ H' v d/\aE (aI H') v
def sc(P:a0)(f:a8)(args:List AV)(base:Nat)(e:aW):Prop:=
 Enters P f/\∀(H:Heap)(w:a7)(aa ah:Nat->Prop)(β:Bd)(a:List a5),bS P w aa β H ah->bB P w aa β H args a->aS (aI H) args->
  (∀p∈e.ak,H[p.1]?=some p.2)->(∀i,i<e.aV.length->H[base+i]?=some .hole)->
  bv P f a.toArray w fun x w'=>∃b aJ aF,x=.returned b/\bY P ah aa w β H aF w' aJ (bd H (e.aK++newAt base e.aV))/\
   aB P w' aF aJ (bd H (e.aK++newAt base e.aV)) e.v b/\aE (aI (bd H (e.aK++newAt base e.aV))) e.v
def uk(P:a0)(b:Nat)(args:List AV)(a:Nat)(e:aW):Prop:=
 ∀(H:Heap)(w:a7)(aa ah:Nat->Prop)(β:Bd)(d:List a5),bS P w aa β H ah->bB P w aa β H args d->aS (aI H) args->
  (∀p∈e.ak,H[p.1]?=some p.2)->(∀i,i<e.aV.length->H[a+i]?=some .hole)->
  gQ H b/\∃f tmps assign body,(Instr.yield (β.al b) d.toArray).run P w=.ok (.round (β.al b) f tmps assign body) w/\
   ∀(c:bb)(h:List bb),∃g w' aJ aF,Steps P (lone (Frame.round (β.al b) f tmps assign body .normal) (c::h) w) (lone (c.finish g) h w')/\
    bY P ah aa w β H aF w' aJ (bd H (e.aK++newAt a e.aV))/\
    aB P w' aF aJ (bd H (e.aK++newAt a e.aV)) e.v g/\aE (aI (bd H (e.aK++newAt a e.aV))) e.v
def Ef(P:a0)(f:a8)(args:List AV)(ak:List (Nat×Obj))(v:PV):Prop:=
 ∀(H:Heap)(w:a7)(aa ah:Nat->Prop)(β:Bd)(a:List a5),bS P w aa β H ah->bB P w aa β H args a->aS (aI H) args->(∀p∈ak,H[p.1]?=some p.2)->
  ∃b,(callFunc f a.toArray).run P w=.ok (.value b) w/\aD P w aa v b
def qe(H:Heap)(e:aW):Prop:=(∀p∈e.ak,H[p.1]?=some p.2)/\(∀p∈e.aK,p.1<H.length/\p.2≠.hole)
def rZ(P:a0)(f:a8)(args:List PV)(v:PV):Prop:=
 Enters P f/\∀(w:a7)(aa:Nat->Prop)(a:List a5),(∀k,aa k->k<w.heap.size)->mU P w aa->bt P w aa args a->
  bv P f a.toArray w fun e w'=>∃b,∃aF:Nat->Prop,e=.returned b/\(∀k,aa k->aF k)/\(∀k,aF k->aa k\/w.heap.size<=k)/\(∀k,aF k->k<w'.heap.size)/\
   w.heap.size<=w'.heap.size/\(∀k,k<w.heap.size->w'.heap[k]?=w.heap[k]?)/\(w'.os=w.os/\w'.output=w.output)/\aD P w' aF v b
def Sd(P:a0)(f:a8)(args:List PV)(v:PV):Prop:=
 ∀(w:a7)(aa:Nat->Prop)(a:List a5),bt P w aa args a->∃b,(callFunc f a.toArray).run P w=.ok (.value b) w/\aD P w aa v b
def aC(P:a0)(f:a8)(args:List PV)(v:PV):Prop:=rZ P f args v\/Sd P f args v
def kT(H:Heap):AV->Option (PV×Heap)
 | .p v=>some (v,H)
 | .sl b aA ai off len=>match H[b]? with
  |some (.arr k d a es)=>
   if aA=d/\ai=a/\off+len<=es.length then
    if k.gr=true/\es=[]then some (.aP,H)else
    match dO es with
    |some c=>some (.bP (k== .exact&&off+len==es.length) ((c.drop off).take len),H.set b (.arr .frozen aA ai es))
    |none=>none
   else none
  |_=>none
 | .ptr b path=>match H[b]? with
  |some (.box _ (.p t))=>match kV t path with
   |some s=>some (.cE s,H.set b (.box true (.p t)))
   |none=>none
  |_=>none
 | .map b=>match H[b]? with
  |some (.map _ es)=>some (.fo es,H.set b (.map true es))
  |_=>none
 |_=>none
def nB(H:Heap):List AV->Option (List PV×Heap)
 |[]=>some ([],H)
 |x::r=>match kT H x with
  |some (v,H1)=>match nB H1 r with
   |some (vs,a)=>some (v::vs,a)
   |none=>none
  |none=>none
def gS(P:a0)(draw:Bool)(f:a8)(args:List AV)(H:Heap)(K:AV->Heap->Prop):Prop:=
 (∃vs v,args=vs.map .p/\aC P f vs v/\K (.p v) H)\/
 (draw=false/\((∃vs H1 v,nB H args=some (vs,H1)/\aC P f vs v/\K (.p v) H1)\/(∃H' v,cw P f H args H' v/\K v H')\/
  (∃e,sc P f args H.length e/\qe H e/\K e.v (bd H e.aK++e.aV))\/(∃ak v,Ef P f args ak v/\(∀p∈ak,H[p.1]?=some p.2)/\K (.p v) H)))
def jG(P:a0)(ag:a8->Bool)(draw:Bool)(o:Oper)(K:St->Prop)(s:St):Prop:=
 match o.op with
 | .call {callee:=.value f,args,.. }=>(match ev s.env f with
  | .p (.func g fi ca)=>gS P draw g (fi.map .p++args.toList.map (ev s.env)++ca.map .p) s.heap (fun v H'=>K ⟨put o.dst v s.env,H'⟩)
  | .func g fi ca=>gS P draw g (fi++args.toList.map (ev s.env)++ca) s.heap (fun v H'=>K ⟨put o.dst v s.env,H'⟩)
  | .map b=>∃H' v,iD P b s.heap (args.toList.map (ev s.env)) H' v/\K ⟨put o.dst v s.env,H'⟩
  |_=>False)
 |_=>fG P ag o (ev s.env) s.heap fun e=>K (e.app o.dst s)
def guardOf(a:Array Oper)(j:Nat)(e:Env):AV:=
 match(a[j]?).bind (·.dst)with
 |some d=>aN e d
 |none=>.p (.aG [])
def gU(P:a0)(ag:a8->Bool)(draw:Bool)(a:Array Oper):List Oper->(St->Prop)->St->Prop
 |[],K,s=>K s
 |o::r,K,s=>match o.guard with
  |none=>jG P ag draw o (gU P ag draw a r K) s
  |some (j,want)=>match guardOf a j s.env with
   | .p (.bool t)=>if t=want then jG P ag draw o (gU P ag draw a r K) s else gU P ag draw a r K ⟨put o.dst (.p (.aG [])) s.env,s.heap⟩
   | .p (.aG [])=>gU P ag draw a r K ⟨put o.dst (.p (.aG [])) s.env,s.heap⟩
   |_=>False
def mr:Obj->Option Obj
 | .box _ (.p t)=>some (.box true (.p t))
 | .arr k aA ai es=>if k.gr=true/\es=[]then none else match dO es with
  |some _=>some (.arr .frozen aA ai es)
  |none=>none
 | .map _ es=>some (.map true es)
 |_=>none
def mz(H:Heap):AV->Option (PV×List Nat)
 | .p v=>some (v,[])
 | .sl b aA ai off len=>match H[b]? with
  |some (.arr k d a es)=>
   if aA=d/\ai=a/\off+len<=es.length then
    if k.gr=true/\es=[]then none else
    match dO es with
    |some c=>some (.bP (k== .exact&&off+len==es.length) ((c.drop off).take len),[b])
    |none=>none
   else none
  |_=>none
 | .ptr b path=>match H[b]? with
  |some (.box _ (.p t))=>match kV t path with
   |some s=>some (.cE s,[b])
   |none=>none
  |_=>none
 | .map b=>match H[b]? with
  |some (.map _ es)=>some (.fo es,[b])
  |_=>none
 |_=>none
def oh(H:Heap):List AV->Option (List PV×List Nat)
 |[]=>some ([],[])
 |x::r=>match mz H x,oh H r with
  |some (v,bs),some (vs,cs)=>some (v::vs,bs++cs)
  |_,_=>none
def lD(H:Heap):List Nat->Option (List (Nat×Obj)×List (Nat×Obj))
 |[]=>some ([],[])
 |b::r=>match H[b]?,lD H r with
  |some o,some (ak,aK)=>(match mr o with
   |some o'=>some ((b,o)::ak,(b,o')::aK)
   |none=>none)
  |_,_=>none
def gZ(P:a0)(f:a8)(args:List AV)(H:Heap)(K:aW->Prop):Prop:=
 (∃vs v,args=vs.map .p/\aC P f vs v/\K {v:=.p v})\/
 (∃vs bs ak aK v,oh H args=some (vs,bs)/\lD H bs=some (ak,aK)/\aC P f vs v/\K {v:=.p v,ak,aK})\/
 (∃e,sc P f args H.length e/\qe H e/\K e)\/
 (∃ak v,Ef P f args ak v/\(∀p∈ak,H[p.1]?=some p.2)/\K {v:=.p v,ak})
def jq(P:a0)(ag:a8->Bool)(o:Oper)(s:St)(K:aW->Prop):Prop:=
 match o.op with
 | .call {callee:=.value f,args,.. }=>(match ev s.env f with
  | .p (.func g fi ca)=>gZ P g (fi.map .p++args.toList.map (ev s.env)++ca.map .p) s.heap K
  | .func g fi ca=>gZ P g (fi++args.toList.map (ev s.env)++ca) s.heap K
  | .map b=>∃e,uk P b (args.toList.map (ev s.env)) s.heap.length e/\qe s.heap e/\K e
  |_=>False)
 |_=>fG P ag o (ev s.env) s.heap K
structure Touch where
 i:Nat
 rd:List Nat
 wr:List Nat
def nZ(a:Nat):List Obj->List Nat
 |[]=>[]
 |_::r=>a::nZ (a+1) r
def ij(i a:Nat)(e:aW):Touch:=⟨i,e.ak.map (·.1),e.aK.map (·.1)++nZ a e.aV⟩
def gT(i b:Nat)(e:aW)(a:List Touch):List Touch:=
 match e.ak,e.aK,e.aV with
 |[],[],[]=>a
 |_,_,_=>ij i b e::a
def reach(a:Array Oper):Nat->Nat->Nat->Bool
 |0,_,_=>false
 |f+1,i,j=>match a[j]? with
  |some o=>o.after.toList.any (fun e=>b1 .any e&&e.on==i)||o.after.toList.any (fun e=>b1 .any e&&decide (i<e.on)&&reach a f i e.on)
  |none=>false
def jl(u t:Touch):Bool:=u.wr.any (fun b=>t.rd.contains b||t.wr.contains b)||u.rd.any (fun b=>t.wr.contains b)
def kg(a:Array Oper):List Touch->Bool
 |[]=>true
 |t::r=>r.all (fun u=>!jl u t||reach a a.size u.i t.i)&&kg a r
def gq(P:a0)(ag:a8->Bool)(a:Array Oper):List Oper->Nat->List Touch->(St->Prop)->St->Prop
 |[],_,acc,K,s=>kg a acc=true/\K s
 |o::r,i,acc,K,s=>match o.guard with
  |none=>jq P ag o s fun e=>gq P ag a r (i+1) (gT i s.heap.length e acc) K (e.app o.dst s)
  |some (j,want)=>match guardOf a j s.env with
   | .p (.bool t)=>if t=want then jq P ag o s fun e=>gq P ag a r (i+1) (gT i s.heap.length e acc) K (e.app o.dst s)
    else gq P ag a r (i+1) acc K ⟨put o.dst (.p (.aG [])) s.env,s.heap⟩
   | .p (.aG [])=>gq P ag a r (i+1) acc K ⟨put o.dst (.p (.aG [])) s.env,s.heap⟩
   |_=>False
inductive bC where|normal|exit (id:Nat)|ret
mutual
def fY(T:Heap):PV->AV->Prop
 | .aP,x=>x=.p .aP\/match x with
  | .sl b aA _ off len=>aA=0/\off=0/\len=0/\∃k z,T[b]?=some (.arr k 0 z [])/\k.gr=true
  |_=>False
 | .st u fs,x=>x=.p (.st u fs)\/match x with
  | .st u' gs=>u=u'/\kW T fs gs
  |_=>False
 |v,x=>x=.p v
def kW(T:Heap):List PV->List AV->Prop
 |[],gs=>gs=[]
 |v::vs,gs=>match gs with
  |g::gs=>fY T v g/\kW T vs gs
  |[]=>False
end
mutual
def Gh(T:Heap):AV->AV->Prop
 | .p v,x=>fY T v x
 | .st u fs,x=>match x with
  | .st u' gs=>u=u'/\mB T fs gs
  |_=>False
 |a,x=>x=a
def mB(T:Heap):List AV->List AV->Prop
 |[],gs=>gs=[]
 |v::vs,gs=>match gs with
  |g::gs=>Gh T v g/\mB T vs gs
  |[]=>False
end
structure pV(s t:St):Prop where
 env:∀x,aN t.env x=aN s.env x\/aN t.env x=.p .undef\/Gh t.heap (aN s.env x) (aN t.env x)
 heap:∀(b:Nat)(o:Obj),t.heap[b]?=some o->o=.hole\/s.heap[b]?=some o\/((s.heap[b]?=none\/s.heap[b]?=some .hole)/\∃k z,o=.arr k 0 z []/\k.gr=true)\/(∃v v',s.heap[b]?=some (.box false v)/\o=.box false v'/\Gh t.heap v v')
 gH:∀x,aE (aI t.heap) (aN t.env x)
 hrefs:∀(b:Nat)(o:Obj),t.heap[b]?=some o->o.refs (aI t.heap)
def dt(N:Nat)(s t:St):Prop:=t=s\/(pV s t/\∀b,b<N->t.heap[b]?=s.heap[b]?)
def kr(Q:bC->St->Prop)(j:Option Code)(s:St):Prop:=
 match j with
 |none=>Q .normal s
 |some (.exit id)=>Q (.exit id) s
 |some .ret=>Q .ret s
 |_=>False
def jP(P:a0)(it:AV)(b:Nat)(H:Heap)(K:Heap->Prop):Prop:=
 match it with
 | .p (.func g fi ca)=>∃H' v,cw P g H (fi.map .p++[.map b]++ca.map .p) H' v/\K H'
 | .func g fi ca=>∃H' v,cw P g H (fi++[.map b]++ca) H' v/\K H'
 |_=>False
def iZ(b:Nat)(env:Env)(Q:bC->St->Prop)(H:Heap):Prop:=
 match H[b]? with
 |some (.loop L)=>L.st≠.busy/\kr Q L.pending ⟨env,H.set b (.loop {L with st:=.exhausted})⟩
 |_=>False
abbrev Cx:=Nat×Nat
def cg(P:a0)(ag:a8->Bool)(q:Cx):Code->(bC->St->Prop)->St->Prop
 | .skip,Q,s| .label _,Q,s=>Q .normal s
 | .region _ ops draw,Q,s=>if draw then gq P ag ops ops.toList 0 [] (Q .normal) s else gU P ag false ops ops.toList (Q .normal) s
 | .seq a b,Q,s=>cg P ag q a (fun e s'=>match e with
  | .normal=>cg P ag q b Q s'
  |e=>Q e s') s
 | .cond c a b,Q,s=>match ev s.env c with
  | .p (.bool t)=>if t then cg P ag q a Q s else cg P ag q b Q s
  |_=>False
 | .block id b,Q,s=>cg P ag q b (fun e s'=>match e with
  | .exit i=>if i=id then Q .normal s' else Q (.exit i) s'
  |e=>Q e s') s
 | .scope b,Q,s=>cg P ag q b Q s
 | .loop b,Q,s=>∃I:Nat->St->Prop,(∃n t,dt q.2 s t/\I n t)/\∀n t,I n t->cg P ag q b (fun e s'=>match e with
  | .normal=>∃m g,m<n/\dt q.2 s' g/\I m g
  |e=>Q e s') t
 | .rangeFunc f h a b,Q,s=>q.2<=s.heap.length/\∃d:Env,(∀x,aN d x=aN s.env x)/\jP P (ev s.env f) s.heap.length (s.heap++[.loop ⟨.ready,none,q.1,h.toList,a,b,d⟩]) (iZ s.heap.length s.env Q)
 | .exit id,Q,s=>Q (.exit id) s
 | .ret,Q,s=>Q .ret s
 |_,_,_=>False
def bD(fr:bb)(t:Array a5)(ds:List bk)(todo:List Item):bb:={fr with tmps:=t,defers:=ds,todo,mode:=.run}
section
variable{P:a0}{fr:bb}{t:Array a5}{ds:List bk}{k:List Item}{cs:List bb}{w:a7}
def fH(t:Array a5):a9->a5
 | .tmp x=>t.getD x undef
 | .const v=>v
 | .global g=>.pointer (some ⟨g,0,none⟩)
 | .func f=>.func (.func f) #[] #[]
theorem eval_eq(fr:bb):fr.eval=fH fr.tmps:=by funext x;cases x<;>rfl
theorem aJX:step P (lone (bD fr t ds (.code .skip::k)) cs w)=.next (lone (bD fr t ds k) cs w):=
 a6 (by simp[stepG,b4,bD])
theorem Xn{l:Nat}:step P (lone (bD fr t ds (.code (.label l)::k)) cs w)=.next (lone (bD fr t ds k) cs w):=
 a6 (by simp[stepG,b4,bD])
theorem V5{id:Nat}:step P (lone (bD fr t ds (.inBlock id::k)) cs w)=.next (lone (bD fr t ds k) cs w):=
 a6 (by simp[stepG,b4,bD])
theorem V4{b:Code}:step P (lone (bD fr t ds (.inScope b::k)) cs w)=.next (lone (bD fr t ds k) cs w):=
 a6 (by simp[stepG,b4,bD])
theorem DU{a b:Code}:step P (lone (bD fr t ds (.code (.seq a b)::k)) cs w)=.next (lone (bD fr t ds (.code a::.code b::k)) cs w):=
 a6 (by simp[stepG,b4,bD])
theorem aJS{c:a9}{x y:Code}{b:Bool}(h:fH t c= .bool b):
 step P (lone (bD fr t ds (.code (.cond c x y)::k)) cs w)=.next (lone (bD fr t ds (.code (if b then x else y)::k)) cs w):=
 a6 (by simp[stepG,b4,bD,eval_eq,h])
theorem y8{id:Nat}{c:Code}:step P (lone (bD fr t ds (.code (.block id c)::k)) cs w)=.next (lone (bD fr t ds (.code c::.inBlock id::k)) cs w):=
 a6 (by simp[stepG,b4,bD])
theorem CT{c:Code}:step P (lone (bD fr t ds (.code (.scope c)::k)) cs w)=.next (lone (bD fr t ds (.code c::.inScope c::k)) cs w):=
 a6 (by simp[stepG,b4,bD])
theorem aJV{c:Code}:step P (lone (bD fr t ds (.code (.loop c)::k)) cs w)=.next (lone (bD fr t ds (.code c::.inLoop c::k)) cs w):=
 a6 (by simp[stepG,b4,bD])
theorem Wr{c:Code}:step P (lone (bD fr t ds (.inLoop c::k)) cs w)=.next (lone (bD fr t ds (.code c::.inLoop c::k)) cs w):=
 a6 (by simp[stepG,b4,bD])
theorem aJU{id:Nat}{a:List Item}(h:exitTo id k=some a):step P (lone (bD fr t ds (.code (.exit id)::k)) cs w)=.next (lone (bD fr t ds a) cs w):=
 a6 (by simp[stepG,b4,bD,h])
theorem S7{id:Nat}{a:Array Oper}:
 step P (lone (bD fr t ds (.code (.region id a false)::k)) cs w)=.next (lone (bD fr t ds (.inRegion a (List.range a.size)::k)) cs w):=
 a6 (by simp[stepG,b4,bD])
theorem aJT{id:Nat}{a:Array Oper}:
 step P (lone (bD fr t ds (.code (.region id a true)::k)) cs w)=
  .next (lone (bD fr t ds (.inRegion a (Region.schedule (P.follows .mixedOrders) a (w.tape w.drawn (.order fr.fn id)))::k)) cs {w with drawn:=w.drawn+1}):=
 a6 (by simp[stepG,b4,bD,choose,Sem.run,Question.forced,Question.cut])
theorem IX{a:Array Oper}:step P (lone (bD fr t ds (.inRegion a []::k)) cs w)=.next (lone (bD fr t ds k) cs w):=
 a6 (by simp[stepG,b4,bD])
def nC(dst:Option Tmp)(v:a5)(t:Array a5):Array a5:=
 match dst with
 |some d=>t.setIfInBounds d v
 |none=>t
theorem nI{a:Array Oper}{i:Nat}{r:List Nat}{o:Oper}(c:a[i]?=some o)(v:a5):
 (bD fr t ds (.inRegion a (i::r)::k)).finish v=bD fr (nC o.dst v t) ds (.inRegion a r::k):=by
 cases b:o.dst<;>simp[Frame.finish,bD,c,b,nC]
theorem KE{a:Array Oper}{i:Nat}{r:List Nat}{o:Oper}(b:a[i]?=some o)(c:b0 o (yielded a t)=false):
 step P (lone (bD fr t ds (.inRegion a (i::r)::k)) cs w)=.next (lone (bD fr (nC o.dst undef t) ds (.inRegion a r::k)) cs w):=by
 rw[<-nI b];exact a6 (by simp only[bD];simp[stepG,b4,b,c])
theorem VJ{o:Oper}(a:∀c,o.op≠ .defer c)(r:Option Nat)(A:Nat->Call->GStep)(B:GStep):
 (match r,o.op with
  |some l,.defer c=>A l c
  |_,_=>B)=B:=by
 cases r with
 |none=>rfl
 |some l=>cases h:o.op<;>first|rfl|exact absurd h (a _)
theorem aJW{a:Array Oper}{i:Nat}{r:List Nat}{o:Oper}{fr:bb}(e:fr.todo= .inRegion a (i::r)::k)(d:a[i]?=some o)(b:∀c,o.op≠ .defer c):
 cb P true fr cs none w=b5 P true fr cs none (be (fH fr.tmps) o) w:=by
 simp only[cb,Frame.oper?,e,d,eval_eq];exact VJ b _ _ _
theorem CL{f:Bool}{a:Array Oper}{i:Nat}{r:List Nat}{o:Oper}(b:a[i]?=some o)(e:b0 o (yielded a t)=true)(d:∀c,o.op≠ .defer c):
 stepG P f {frame:=bD fr t ds (.inRegion a (i::r)::k),callers:=cs,status:=.running,dying:=none} w=
  b5 P true (bD fr t ds (.inRegion a (i::r)::k)) cs none (be (fH t) o) w:=by
 have h:=aJW (P:=P) (cs:=cs) (w:=w) (fr:=bD fr t ds (.inRegion a (i::r)::k)) rfl b d;simp only[bD]at h⊢;simp[stepG,b4,b,e,h]
theorem tv{a:Array Oper}{i:Nat}{r:List Nat}{o:Oper}{n:Next}{b:a5}{w':a7}(d:a[i]?=some o)(h:b0 o (yielded a t)=true)
 (e:∀c,o.op≠.defer c)(g:(be (fH t) o).run P w=.ok n w')(f:n=.value b\/n=.skip/\b=undef):
 step P (lone (bD fr t ds (.inRegion a (i::r)::k)) cs w)=.next (lone (bD fr (nC o.dst b t) ds (.inRegion a r::k)) cs w'):=by
 rw[<-nI d];refine a6 ?_;rw[CL d h e];rcases f with rfl|⟨rfl,rfl⟩<;>simp[b5,g,bD]
theorem vL{a:Array Oper}{i:Nat}{r:List Nat}{o:Oper}{f:a8}{args:Array a5}{w':a7}(d:a[i]?=some o)(g:b0 o (yielded a t)=true)
 (b:∀c,o.op≠.defer c)(e:(be (fH t) o).run P w=.ok (.enter f args) w'):
 step P (lone (bD fr t ds (.inRegion a (i::r)::k)) cs w)=.next (lone (Frame.enter P f args .normal) (bD fr t ds (.inRegion a (i::r)::k)::cs) w'):=by
 refine a6 ?_;rw[CL d g b];simp[b5,e,bD]
theorem J5{a:Array Oper}{i:Nat}{r:List Nat}{o:Oper}{l:Nat}{f:a8}{tmps:Array a5}{assign body:Code}{w':a7}(d:a[i]?=some o)(g:b0 o (yielded a t)=true)
 (b:∀c,o.op≠.defer c)(e:(be (fH t) o).run P w=.ok (.round l f tmps assign body) w'):
 step P (lone (bD fr t ds (.inRegion a (i::r)::k)) cs w)=.next (lone (Frame.round l f tmps assign body .normal) (bD fr t ds (.inRegion a (i::r)::k)::cs) w'):=by
 refine a6 ?_;rw[CL d g b];simp[b5,e,bD]
end
end Go.au
namespace Go.au
variable[Gl]
mutual
theorem aE.mono{S T:Nat×Nat->Prop}(h:∀x,S x->T x):∀v,aE S v->aE T v
 | .p _,_=>by simp[aE]
 | .ptr b _,c| .b6 b _ _ _ _,c| .sl b _ _ _ _,c| .map b,c=>by simp only[aE]at*;exact h _ c
 | .func _ a b,c=>by simp only[aE]at*;exact⟨aS.mono h a c.1,aS.mono h b c.2⟩
 | .st _ fs,c=>by simp only[aE]at*;exact aS.mono h fs c
 | .aG vs,c=>by simp only[aE]at*;exact aS.mono h vs c
theorem aS.mono{S T:Nat×Nat->Prop}(h:∀x,S x->T x):∀vs,aS S vs->aS T vs
 |[],_=>by simp[aS]
 |v::vs,c=>by simp only[aS]at*;exact⟨aE.mono h v c.1,aS.mono h vs c.2⟩
end
structure cS(P:a0)(n:Nat)(ah aa:Nat->Prop)(β:Bd)(s:St)(t:Array a5)(w:a7):Prop where
 heap:bS P w aa β s.heap ah
 env:∀x,aB P w aa β s.heap (aN s.env x) (t.getD x undef)
 gH:∀x,aE (aI s.heap) (aN s.env x)
 size:t.size=n
structure pU(N:Nat)(β:Bd)(H:Heap)(aJ:Bd)(H':Heap):Prop where
 box:∀b,b<N->aI H (b,0)->mS H' b->mS H b/\aJ.al b=β.al b
 it:∀b,b<N->aI H (b,0)->mT H' b->mT H b/\aJ.al b=β.al b
 map:∀b,b<N->aI H (b,0)->n6 H' b->n6 H b/\aJ.al b=β.al b
 arr:∀b aA ai k es,b<N->aI H (b,aA)->eX H' b aA ai k es->∃k0 gI,eX H b aA ai k0 gI/\gI.length<=es.length/\(df k es↔df k0 gI)/\(¬df k es->aJ.al b=β.al b/\aJ.cap b=β.cap b)
 loop:∀b,b<N->aI H (b,0)->gQ H' b->gQ H b/\aJ.al b=β.al b
theorem cd.n{N:Nat}{β:Bd}{H:Heap}{aJ:Bd}{H':Heap}(h:cd β H aJ H'):pU N β H aJ H':=
 ⟨fun b _=>h.box b,fun b _=>h.it b,fun b _=>h.map b,fun b aA ai k es _=>h.arr b aA ai k es,fun b _=>h.loop b⟩
theorem pU.full{β:Bd}{H:Heap}{aJ:Bd}{H':Heap}(h:pU H.length β H aJ H'):cd β H aJ H':=by
 have lt:∀b v,aI H (b,v)->b<H.length:=fun b v⟨o,c,_⟩=>(ck.1 c).1;exact⟨fun b x=>h.box b (lt _ _ x) x,fun b x=>h.it b (lt _ _ x) x,fun b x=>h.map b (lt _ _ x) x,fun b aA ai k a x=>h.arr b aA ai k a (lt _ _ x) x,fun b x=>h.loop b (lt _ _ x) x⟩
theorem pU.trans{N:Nat}{β l m:Bd}{H H1 j:Heap}(h:pU N β H l H1)(hi:∀x,x.1<N->aI H x->aI H1 x)(i:pU N l H1 m j):pU N β H m j:=by
 refine⟨?_,?_,?_,?_,?_⟩
 ·intro b a c g;obtain⟨d,a2⟩:=i.box b a (hi (b,0) a c) g;obtain⟨e,f⟩:=h.box b a c d;exact⟨e,a2.trans f⟩
 ·intro b a c g;obtain⟨d,a2⟩:=i.it b a (hi (b,0) a c) g;obtain⟨e,f⟩:=h.it b a c d;exact⟨e,a2.trans f⟩
 ·intro b a c g;obtain⟨d,a2⟩:=i.map b a (hi (b,0) a c) g;obtain⟨e,f⟩:=h.map b a c d;exact⟨e,a2.trans f⟩
 ·intro b aA ai k p a c g;obtain⟨k1,q,d,a2,a3,a4⟩:=i.arr b aA ai k p a (hi (b,aA) a c) g;obtain⟨k0,gI,e,f,n,o⟩:=h.arr b aA ai k1 q a c d;refine⟨k0,gI,e,dq f a2,a3.trans n,fun a=>?_⟩;obtain⟨c1,c2⟩:=a4 a;obtain⟨d1,d2⟩:=o (fun x=>a (a3.2 x));exact⟨c1.trans d1,c2.trans d2⟩
 ·intro b a c g;obtain⟨d,a2⟩:=i.loop b a (hi (b,0) a c) g;obtain⟨e,f⟩:=h.loop b a c d;exact⟨e,a2.trans f⟩
structure dS(N:Nat)(ah aa:Nat->Prop)(w:a7)(β:Bd)(H:Heap)(jZ aF:Nat->Prop)(w':a7)(aJ:Bd)(H':Heap):Prop where
 er:∀k,ah k->jZ k
 bR:∀k,aa k->aF k
 fresh:∀k,aF k->aa k\/¬ah k
 ext:Ext ah aa w w'
 step:pU N β H aJ H'
 fp:∀x,x.1<N->aI H x->aI H' x
 loop:∀b,b<N->gQ H b->gQ H' b
theorem dS.refl(N:Nat)(ah aa:Nat->Prop)(w:a7)(β:Bd)(H:Heap):dS N ah aa w β H ah aa w β H:=
 ⟨fun _ h=>h,fun _ h=>h,fun _ h=>.inl h,Ext.refl _ _ _,(cd.refl _ _).n,fun _ _ h=>h,fun _ _ h=>h⟩
theorem Ext.trans{ah aa jZ aF:Nat->Prop}{w w1 b:a7}(c:∀k,ah k->jZ k)(hi:∀k,aa k->aF k)(h:Ext ah aa w w1)(a:Ext jZ aF w1 b):Ext ah aa w b:=
 ⟨dq h.size a.size,fun k hk=>(a.same k (hk.imp (c k) (hi k))).trans (h.same k hk),a.io.1.trans h.io.1,a.io.2.trans h.io.2⟩
theorem dS.trans{N:Nat}{ah aa g e i f:Nat->Prop}{w w1 j:a7}{β l m:Bd}{H H1 d:Heap}(h:dS N ah aa w β H g e w1 l H1)(a:dS N g e w1 l H1 i f j m d):dS N ah aa w β H i f j m d:=
 ⟨fun k x=>a.er k (h.er k x),fun k x=>a.bR k (h.bR k x),fun k x=>(a.fresh k x).elim (fun y=>h.fresh k y) (fun y=>.inr fun z=>y (h.er k z)),h.ext.trans h.er h.bR a.ext,
  h.step.trans h.fp a.step,fun x c hx=>a.fp x c (h.fp x c hx),fun b c n=>a.loop b c (h.loop b c n)⟩
theorem bY.fw{P:a0}{N:Nat}{ah aa aF:Nat->Prop}{w w':a7}{β aJ:Bd}{H H':Heap}(h:bY P ah aa w β H aF w' aJ H'):dS N ah aa w β H ah aF w' aJ H':=
 ⟨fun _ x=>x,h.bR,h.fresh,h.ext,h.step.n,fun x _=>h.fp x,fun b _=>h.loop b⟩
section
variable{P:a0}{ah aa aF:Nat->Prop}{w w':a7}{β aJ:Bd}{H H':Heap}
theorem ft.v7(a:w'.heap=w.heap){b:Nat}{o:Obj}(h:ft P w aa β H ah b o)(g:o.refs (aI H)):ft P w' aa β H ah b o:=by
 have p:=fun(v:AV) cs m=>br.mono (P:=P) (w:=w) (w':=w') (aa:=aa) (aF:=aa) (β:=β) (aJ:=β) (H:=H) (H':=H) (fun _ x=>x) (fun k _=>by rw[a]) (cd.refl β H) v cs m;have q:=fun l(v:List AV) cs m=>bM.mono (P:=P) (w:=w) (w':=w') (aa:=aa) (aF:=aa) (β:=β) (aJ:=β) (H:=H) (H':=H) (fun _ x=>x) (fun k _=>by rw[a]) (cd.refl β H) l v cs m;have r:=fun(i:List (PV×PV)) f=>cH.mono (P:=P) (w:=w) (w':=w') (aa:=aa) (aF:=aa) (fun _ x=>x) (fun k _=>by rw[a]) i f;cases o with
 |hole=>trivial
 |dead=>trivial
 |box fz t=>
  obtain⟨cs,T,c,d,e⟩:=h;exact⟨cs,T,by rw[a];exact c,p _ _ g d,e⟩
 |arr k aA ai i=>
  rcases h with h|⟨cs,T,n,rest,c,d,e⟩
  ·exact .inl h
  ·exact .inr ⟨cs,T,n,rest,by rw[a];exact c,q _ _ _ g d,e⟩
 |map fz i=>
  obtain⟨f,clock,c,d,e⟩:=h;exact⟨f,clock,by rw[a];exact c,r _ _ d,e⟩
 |dy ks vs=>
  obtain⟨f,clock,c,d,e,j⟩:=h;exact⟨f,clock,by rw[a];exact c,bt.mono (fun _ x=>x) (fun _ _=>by rw[a]) _ _ d,bB.mono (fun _ x=>x) (fun _ _=>by rw[a]) (cd.refl _ _) _ _ g e,j⟩
 |dC s pos=>
  obtain⟨bs,c,d⟩:=h;exact⟨bs,by rw[a];exact c,d⟩
 |loop L=>
  obtain⟨tmps,defers,fn,c,d,e,j⟩:=h;exact⟨tmps,defers,fn,by rw[a];exact c,d,fun x=>aB.mono (fun _ x=>x) (fun _ _=>by rw[a]) (cd.refl _ _) _ _ (g x) (e x),j⟩
theorem bS.v7(a:w'.heap=w.heap)(h:bS P w aa β H ah):bS P w' aa β H ah:=
 ⟨fun b o c=>(h.cF b o c).v7 a (h.refs b o c),h.inj,h.refs,fun k hk=>by rw[a];exact h.bR k hk,fun k hk=>by rw[a];exact h.er k hk,h.ia.mono (fun _ x=>x) (fun _ _=>by rw[a])⟩
theorem bS.mQ(h:bS P w aa β H ah){b:Nat}{o:Obj}(f:H[b]?=some o)(d:o.live):β.al b<w.heap.size:=by
 have c:=h.cF b o f;cases o with
 |hole=>exact d.elim
 |dead=>exact d.elim
 |box fz t=>obtain⟨cs,T,a,_⟩:=c;exact(av.1 a).1
 |arr k aA ai es=>
  rcases c with c|⟨cs,T,g,rest,a,_⟩
  ·exact(d c).elim
  ·exact(av.1 a).1
 |map fz es=>obtain⟨e,clock,a,_⟩:=c;exact(av.1 a).1
 |dy ks vs=>obtain⟨e,clock,a,_⟩:=c;exact(av.1 a).1
 |dC s pos=>obtain⟨bs,a,_⟩:=c;exact(av.1 a).1
 |loop L=>obtain⟨_,_,_,a,_⟩:=c;exact(av.1 a).1
theorem bY.set{b:Nat}{o':Obj}(i:bS P w aa β H ah)(r:b<H.length)(n:∀x,x≠b->aJ.al x=β.al x/\aJ.cap x=β.cap x)
 (g:∀k,aa k->aF k)(Q:∀k,aF k->aa k\/(k=aJ.al b/\o'.live))(ag:∀k,aF k->k<w'.heap.size)
 (V:w.heap.size<=w'.heap.size)(J:∀k,(k≠aJ.al b\/¬o'.live)->k<w.heap.size->w'.heap[k]?=w.heap[k]?)
 (F:o'.live->w.heap.size<=aJ.al b\/(aJ.al b=β.al b/\(∃o,H[b]?=some o/\o.live)/\((∀k,k=β.al b->w'.heap[k]?=w.heap[k]?)\/¬aa (β.al b))/\¬ah (β.al b)))
 (aH:cd β H aJ (H.set b o'))(al:ft P w' aF aJ (H.set b o') ah b o')(am:o'.refs (aI (H.set b o')))(aj:∀(o:Obj)(v:Nat),H[b]?=some o->o.has v->o'.has v)(af:∀L,H[b]?=some (.loop L)->∃C,o'=.loop C)(ae:w'.os=w.os/\w'.output=w.output:=by exact⟨rfl,rfl⟩):
 bY P ah aa w β H aF w' aJ (H.set b o'):=by
 have A:∀x o,x≠b->H[x]?=some o->o.live->¬aa (β.al x)->o'.live->β.al x≠aJ.al b:=by
  intro x o hx d e j u he;rcases F u with a|⟨a,⟨an,c,f⟩,_⟩
  ·have:=i.mQ d e;omega
  ·rw[a]at he;exact hx (i.inj x b o an d c e f j he)
 have U:o'.live->¬ah (aJ.al b):=by
  intro e G;rcases F e with a|⟨a,_,_,c⟩
  ·have:=i.er _ G;omega
  ·rw[a]at G;exact c G
 have l:∀k,ah k\/aa k->w'.heap[k]?=w.heap[k]?:=by
  intro k hk;have R:k<w.heap.size:=hk.elim (i.er k) (i.bR k)
  by_cases z:k=aJ.al b
  ·by_cases e:o'.live
   ·rcases hk with hk|hk
    ·exact(U e (z▸hk)).elim
    ·rcases F e with a|⟨a,_,c,_⟩
     ·omega
     ·rcases c with c|c
      ·exact c k (z.trans a)
      ·exact(c (by rw[<-a,<-z];exact hk)).elim
   ·exact J k (.inr e) R
  ·exact J k (.inl z) R
 have ak:∀x,aI H x->aI (H.set b o') x:=by
  rintro⟨x,v⟩ ⟨o,d,S⟩
  by_cases hx:x=b
  ·subst hx;exact⟨o',by simp[cv r],aj o v d S⟩
  ·exact⟨o,by simp only;rw[ce (eb hx)];exact d,S⟩
 have hrefs:∀v,aE (aI H) v->aE (aI (H.set b o')) v:=aE.mono ak;refine⟨g,fun k hk=>(Q k hk).imp id (fun(h:k=aJ.al b/\o'.live)=>h.1▸U h.2),⟨V,l,ae⟩,aH,⟨?_,?_,?_,ag,fun k hk=>dz (i.er k hk) V,i.ia.mono g (fun k hk=>l k (.inr hk))⟩,ak,?_⟩
 ·intro x o d
  by_cases hx:x=b
  ·subst hx;rw[cv r]at d;cases d;exact al
  ·rw[ce (eb hx)]at d;have m:=i.cF x o d;have B:=i.refs x o d;have O:=(n x hx).1;have E:=(n x hx).2;have hs:o.live->w'.heap[aJ.al x]?=w.heap[β.al x]?:=by
    intro e;rw[O]
    by_cases j:aa (β.al x)
    ·exact l _ (.inr j)
    refine J _ ?_ (i.mQ d e)
    by_cases u:o'.live
    ·exact .inl (A x o hx d e j u)
    ·exact .inr u
   have held:∀fz,o.live->cG aa β ah fz x->cG aF aJ ah fz x:=by
    intro fz e q;unfold cG at q⊢;rw[O];cases fz with
    |true=>simp only[if_true]at q⊢;exact g _ q
    |false=>
     simp only[Bool.false_eq_true,if_false]at q⊢;refine⟨fun h=>?_,q.2⟩;rcases Q _ h with h|⟨h,u⟩
     ·exact q.1 h
     ·exact A x o hx d e q.1 u h
   cases o with
   |hole=>trivial
   |dead=>trivial
   |box fz t=>
    obtain⟨cs,T,a,c,f,p⟩:=m;exact⟨cs,T,(hs trivial).trans a,br.mono g (fun k hk=>l k (.inr hk)) aH _ _ B c,held _ trivial f,p⟩
   |arr k aA ai es=>
    rcases m with m|⟨cs,T,Y,rest,a,c,f,p,Z,ab,ac,ad⟩
    ·exact .inl m
    ·by_cases e:df k es
     ·exact .inl e
     ·refine .inr ⟨cs,T,Y,rest,(hs e).trans a,bM.mono g (fun k hk=>l k (.inr hk)) aH _ _ _ B c,f,?_,?_,?_,held _ e ac,ad⟩
      ·rw[E];exact p
      ·rw[E];exact Z
      ·rw[E];exact ab
   |map fz es=>
    obtain⟨D,clock,a,c,f⟩:=m;exact⟨D,clock,(hs trivial).trans a,cH.mono g (fun k hk=>l k (.inr hk)) _ _ c,held _ trivial f⟩
   |dy ks vs=>
    obtain⟨D,clock,a,c,f,p⟩:=m;exact⟨D,clock,(hs trivial).trans a,bt.mono g (fun k hk=>l k (.inr hk)) _ _ c,bB.mono g (fun k hk=>l k (.inr hk)) aH _ _ B f,held _ trivial p⟩
   |dC s pos=>
    obtain⟨bs,a,c,f⟩:=m;exact⟨bs,(hs trivial).trans a,c,held _ trivial f⟩
   |loop L=>
    obtain⟨tmps,defers,fn,a,c,f,p⟩:=m;exact⟨tmps,defers,fn,(hs trivial).trans a,c,fun x=>aB.mono g (fun k hk=>l k (.inr hk)) aH _ _ (B x) (f x),held _ trivial p⟩
 ·intro x y W X a c K M j he
  by_cases hx:x=b<;>by_cases hy:y=b
  ·rw[hx,hy]
  ·subst hx;rw[cv r]at a;cases a;rw[ce (eb hy)]at c;rw[(n y hy).1]at he;exact(A y X hy c M (fun hi=>j (he▸g _ hi)) K he.symm).elim
  ·subst hy;rw[cv r]at c;cases c;rw[ce (eb hx)]at a;rw[(n x hx).1]at he;rw[(n x hx).1]at j;exact(A x W hx a K (fun hi=>j (g _ hi)) M he).elim
  ·rw[ce (eb hx)]at a;rw[ce (eb hy)]at c;rw[(n x hx).1,(n y hy).1]at he;rw[(n x hx).1]at j;exact i.inj x y W X a c K M (fun hi=>j (g _ hi)) he
 ·intro x o d
  by_cases hx:x=b
  ·subst hx;rw[cv r]at d;cases d;exact am
  ·rw[ce (eb hx)]at d;have:=i.refs x o d;cases o with
   |box fz t=>exact hrefs _ this
   |arr k aA ai es=>exact cL.2 fun v I=>hrefs v (cL.1 this v I)
   |dy ks vs=>exact cL.2 fun v I=>hrefs v (cL.1 this v I)
   |loop L=>exact fun x=>hrefs _ (this x)
   |_=>trivial
 ·rintro x ⟨L,N⟩
  by_cases hx:x=b
  ·subst hx;obtain⟨C,rfl⟩:=af L N;exact⟨C,cv r⟩
  ·exact⟨L,by rw[ce (eb hx)];exact N⟩
end
end Go.au
namespace Go.au
variable[Gl]
def bw(P:a0)(o:Oper)(ρ:a9->AV)(a:Nat)(e:aW):Prop:=
 ∀(H:Heap)(w:a7)(aa ah:Nat->Prop)(β:Bd)(ρc:a9->a5),
  bS P w aa β H ah->(∀x∈o.op.operands,aB P w aa β H (ρ x) (ρc x)/\aE (aI H) (ρ x))->(∀p∈e.ak,H[p.1]?=some p.2)->(∀i,i<e.aV.length->H[a+i]?=some .hole)->
  ∃n b w' aJ aF,(be ρc o).run P w=.ok n w'/\(n=.value b\/n=.skip/\b=undef)/\
   bY P ah aa w β H aF w' aJ (bd H (e.aK++newAt a e.aV))/\aB P w' aF aJ (bd H (e.aK++newAt a e.aV)) e.v b/\
   aE (aI (bd H (e.aK++newAt a e.aV))) e.v
section
variable{P:a0}{ah aa aF:Nat->Prop}{w w':a7}{β aJ:Bd}{H H':Heap}
theorem bY.refl(h:bS P w aa β H ah):bY P ah aa w β H aa w β H:=
 ⟨fun _ x=>x,fun _ x=>.inl x,Ext.refl _ _ _,cd.refl _ _,h,fun _ x=>x,fun _ x=>x⟩
theorem bw.same{o:Oper}{ρ:a9->AV}{c:Nat}{v:AV}{ak:List (Nat×Obj)}
 (h:∀(H:Heap)(w:a7)(aa ah:Nat->Prop)(β:Bd)(ρc:a9->a5),bS P w aa β H ah->(∀x∈o.op.operands,aB P w aa β H (ρ x) (ρc x)/\aE (aI H) (ρ x))->
  (∀p∈ak,H[p.1]?=some p.2)->∃a,(be ρc o).run P w=.ok (.value a) w/\aB P w aa β H v a/\aE (aI H) v):
 bw P o ρ c {v,ak}:=by
 intro H w aa ah β ρc b i g _;obtain⟨a,d,e,f⟩:=h H w aa ah β ρc b i g;exact⟨_,a,w,β,aa,d,.inl rfl,by simpa[newAt,bd]using bY.refl b,by simpa[newAt,bd]using e,by simpa[newAt,bd]using f⟩
theorem bY.trans{j l:Nat->Prop}{w1 n:a7}{o p:Bd}{H1 i:Heap}(h:bY P ah aa w β H j w1 o H1)(c:bY P ah j w1 o H1 l n p i):bY P ah aa w β H l n p i:=by
 refine⟨fun k x=>c.bR k (h.bR k x),fun k x=>(c.fresh k x).elim (h.fresh k) .inr,h.ext.trans (fun _ x=>x) h.bR c.ext,⟨?_,?_,?_,?_,?_⟩,c.rel,fun b a=>c.fp b (h.fp _ a),fun b a=>c.loop b (h.loop b a)⟩
 ·intro b a g;obtain⟨d,a2⟩:=c.step.box b (h.fp _ a) g;obtain⟨e,f⟩:=h.step.box b a d;exact⟨e,a2.trans f⟩
 ·intro b a g;obtain⟨d,a2⟩:=c.step.it b (h.fp _ a) g;obtain⟨e,f⟩:=h.step.it b a d;exact⟨e,a2.trans f⟩
 ·intro b a g;obtain⟨d,a2⟩:=c.step.map b (h.fp _ a) g;obtain⟨e,f⟩:=h.step.map b a d;exact⟨e,a2.trans f⟩
 ·intro b aA ai k s a g;obtain⟨k1,t,d,a2,a3,a4⟩:=c.step.arr b aA ai k s (h.fp _ a) g;obtain⟨k0,gI,e,f,q,r⟩:=h.step.arr b aA ai k1 t a d;refine⟨k0,gI,e,dq f a2,a3.trans q,fun m=>?_⟩;obtain⟨c1,c2⟩:=a4 m;obtain⟨d1,d2⟩:=r (fun x=>m (a3.2 x));exact⟨c1.trans d1,c2.trans d2⟩
 ·intro b a g;obtain⟨d,a2⟩:=c.step.loop b (h.fp _ a) g;obtain⟨e,f⟩:=h.step.loop b a d;exact⟨e,a2.trans f⟩
theorem BU(H:Heap)(l r:List (Nat×Obj)):bd H (l++r)=bd (bd H l) r:=by
 induction l generalizing H with
 |nil=>rfl
 |cons p l a=>obtain⟨b,o⟩:=p;simp[bd,a]
theorem o8(H:Heap)(l:List (Nat×Obj)):(bd H l).length=H.length:=by
 induction l generalizing H with
 |nil=>rfl
 |cons p l a=>obtain⟨b,o⟩:=p;simp[bd,a]
theorem yx(H T:Heap)(l:List (Nat×Obj))(h:∀p∈l,p.1<H.length):bd (H++T) l=bd H l++T:=by
 induction l generalizing H with
 |nil=>rfl
 |cons p l c=>
  obtain⟨b,o⟩:=p;have a:b<H.length:=h (b,o) (by simp);simp only[bd];rw[List.set_append_left _ _ a,c];intro q hq;rw[List.length_set];exact h q (by simp[hq])
theorem Ca(H:Heap)(l:List Obj):bd (H++cc l.length .hole) (newAt H.length l)=H++l:=by
 induction l generalizing H with
 |nil=>simp[newAt,bd]
 |cons o l a=>
  simp only[newAt,bd,dk,c9];rw[List.set_append_right _ _ (dp _)];simp only[Nat.sub_self,da];have:=a (H++[o]);simp only[db,List.length_singleton,dg,List.singleton_append]at this;exact this
theorem ka(H:Heap)(m b:Nat):(H++cc m Obj.hole)[b]?=if b<H.length then H[b]? else if b<H.length+m then some .hole else none:=by
 by_cases h:b<H.length
 ·simp[h,cx]
 ·rw[cA (by omega)];simp only[List.getElem?_replicate,h,if_false]
  by_cases a:b<H.length+m
  ·simp[a,show b-H.length<m by omega]
  ·simp[a,show¬(b-H.length<m)by omega]
theorem nH{H:Heap}{m b:Nat}{o:Obj}(h:(H++cc m Obj.hole)[b]?=some o):H[b]?=some o\/o=.hole:=by
 rw[ka]at h
 split at h
 ·exact .inl h
 ·split at h
  ·exact .inr (by simpa using h.symm)
  ·simp at h
theorem mM(H:Heap)(m:Nat)(b:Nat×Nat)(h:aI H b):aI (H++cc m Obj.hole) b:=by
 obtain⟨o,a,d⟩:=h;have c:b.1<H.length:=(ck.1 a).1;exact⟨o,by rw[ka,if_pos c];exact a,d⟩
theorem pc(β:Bd)(H:Heap)(m:Nat):cd β H β (H++cc m .hole):=by
 refine⟨?_,?_,?_,?_,?_⟩
 ·rintro b _ ⟨fz,t,h⟩;rcases nH h with h|h<;>simp_all [mS]
 ·rintro b _ ⟨fz,t,h⟩;rcases nH h with h|h<;>simp_all [mT]
 ·rintro b _ ⟨o,h,a⟩;rcases nH h with h|rfl
  ·exact⟨⟨o,h,a⟩,rfl⟩
  ·exact a.elim
 ·intro b aA ai k c _ h;rcases nH h with h|h
  ·exact⟨k,c,h,dp _,Iff.rfl,fun _=>⟨rfl,rfl⟩⟩
  ·simp at h
 ·rintro b _ ⟨L,h⟩;rcases nH h with h|h<;>simp_all [gQ]
theorem Obj.wj{S T:Nat×Nat->Prop}(h:∀x,S x->T x):∀{o:Obj},o.refs S->o.refs T
 | .box _ t,a=>aE.mono h t a
 | .arr _ _ _ es,a=>aS.mono h es a
 | .dy _ vs,a=>aS.mono h vs a
 | .loop _L,a=>fun x=>aE.mono h _ (a x)
 | .hole,_| .dead,_| .map _ _,_| .dC _ _,_=>trivial
theorem bS.nr(m:Nat)(h:bS P w aa β H ah):bS P w aa β (H++cc m .hole) ah:=by
 refine⟨?_,?_,?_,h.bR,h.er,h.ia⟩
 ·intro b o d;rcases nH d with d|rfl
  ·have e:=h.cF b o d;have g:=h.refs b o d;have st:=pc β H m;cases o with
   |hole=>trivial
   |dead=>trivial
   |box fz t=>
    obtain⟨cs,T,a,c,f⟩:=e;exact⟨cs,T,a,br.mono (fun _ x=>x) (fun _ _=>rfl) st _ _ g c,f⟩
   |arr k aA ai es=>
    rcases e with e|⟨cs,T,n,rest,a,c,f⟩
    ·exact .inl e
    ·exact .inr ⟨cs,T,n,rest,a,bM.mono (fun _ x=>x) (fun _ _=>rfl) st _ _ _ g c,f⟩
   |map fz es=>exact e
   |dy ks vs=>
    obtain⟨p,clock,a,c,f,i⟩:=e;exact⟨p,clock,a,c,bB.mono (fun _ x=>x) (fun _ _=>rfl) st _ _ g f,i⟩
   |dC s pos=>exact e
   |loop L=>
    obtain⟨tmps,defers,fn,a,c,f,i⟩:=e;exact⟨tmps,defers,fn,a,c,fun x=>aB.mono (fun _ x=>x) (fun _ _=>rfl) st _ _ (g x) (f x),i⟩
  ·trivial
 ·intro x y u v a c j l r q;rcases nH a with a|rfl
  ·rcases nH c with c|rfl
   ·exact h.inj x y u v a c j l r q
   ·exact l.elim
  ·exact j.elim
 ·intro b o d;rcases nH d with d|rfl
  ·exact Obj.wj (mM H m) (h.refs b o d)
  ·trivial
theorem bw.use{o:Oper}{ρ:a9->AV}{e:aW}(h:bw P o ρ H.length e){ρc:a9->a5}(k:bS P w aa β H ah)
 (c:∀x∈o.op.operands,aB P w aa β H (ρ x) (ρc x)/\aE (aI H) (ρ x))(ak:∀p∈e.ak,H[p.1]?=some p.2)(aK:∀p∈e.aK,p.1<H.length):
 ∃n a w' aJ aF,(be ρc o).run P w=.ok n w'/\(n=.value a\/n=.skip/\a=undef)/\
  bY P ah aa w β H aF w' aJ (bd H e.aK++e.aV)/\aB P w' aF aJ (bd H e.aK++e.aV) e.v a/\aE (aI (bd H e.aK++e.aV)) e.v:=by
 have aH:=pc β H e.aV.length;obtain⟨n,a,w',aJ,aF,m,q,d,f,g⟩:=h (H++cc e.aV.length .hole) w aa ah β ρc (k.nr _)
  (fun x hx=>⟨aB.mono (fun _ x=>x) (fun _ _=>rfl) aH _ _ (c x hx).2 (c x hx).1,aE.mono (mM _ _) _ (c x hx).2⟩)
  (fun p s=>by have:=ak p s;rw[ka,if_pos (ck.1 this).1];exact this)
  (fun i hi=>by rw[ka,if_neg (by omega),if_pos (by omega)])
 have r:bd (H++cc e.aV.length .hole) (e.aK++newAt H.length e.aV)=bd H e.aK++e.aV:=by
  rw[BU,yx _ _ _ aK];have:=Ca (bd H e.aK) e.aV
  rwa [o8]at this
 rw[r]at d f g;refine⟨n,a,w',aJ,aF,m,q,?_,f,g⟩;have l:bY P ah aa w β H aa w β (H++cc e.aV.length .hole):=⟨fun _ x=>x,fun _ x=>.inl x,Ext.refl _ _ _,aH,k.nr _,mM _ _,fun b⟨L,j⟩=>⟨L,by rw[ka,if_pos (ck.1 j).1];exact j⟩⟩
 exact l.trans d
theorem sc.use{f:a8}{args:List AV}{e:aW}(h:sc P f args H.length e)(m:qe H e){c:List a5}(n:bS P w aa β H ah)(r:bB P w aa β H args c)(o:aS (aI H) args):
 bv P f c.toArray w fun x w'=>∃a aJ aF,x=.returned a/\bY P ah aa w β H aF w' aJ (bd H e.aK++e.aV)/\aB P w' aF aJ (bd H e.aK++e.aV) e.v a/\aE (aI (bd H e.aK++e.aV)) e.v:=by
 have aH:=pc β H e.aV.length;refine(h.2 (H++cc e.aV.length .hole) w aa ah β c (n.nr _)
  (bB.mono (fun _ x=>x) (fun _ _=>rfl) aH _ _ o r) (aS.mono (mM _ _) _ o)
  (fun p d=>by have:=m.1 p d;rw[ka,if_pos (ck.1 this).1];exact this)
  (fun i hi=>by rw[ka,if_neg (by omega),if_pos (by omega)])).mono ?_
 rintro x w' ⟨a,aJ,aF,rfl,g,j,k⟩;have s:bd (H++cc e.aV.length .hole) (e.aK++newAt H.length e.aV)=bd H e.aK++e.aV:=by
  rw[BU,yx _ _ _ (fun p d=>(m.2 p d).1)];have:=Ca (bd H e.aK) e.aV
  rwa [o8]at this
 rw[s]at g j k;have q:bY P ah aa w β H aa w β (H++cc e.aV.length .hole):=⟨fun _ x=>x,fun _ x=>.inl x,Ext.refl _ _ _,aH,n.nr _,mM _ _,fun b⟨L,l⟩=>⟨L,by rw[ka,if_pos (ck.1 l).1];exact l⟩⟩
 exact⟨a,aJ,aF,rfl,q.trans g,j,k⟩
end
def lW(P:a0)(ag:a8->Bool):Prop:=
 ∀(o:Oper)(ρ:a9->AV)(H:Heap)(K:aW->Prop),(∀v,ρ (.const v)=.p (ofConst v))->fG P ag o ρ H K->
  ∃e,K e/\bw P o ρ H.length e/\(∀p∈e.ak,H[p.1]?=some p.2)/\(∀p∈e.aK,p.1<H.length/\p.2≠.hole)
section
variable{P:a0}{ag:a8->Bool}{n:Nat}
theorem Jp{w:a7}{aa:Nat->Prop}(v:a5):aD P w aa (ofConst v) v:=by
 unfold ofConst
 split<;>simp[aD]
theorem n7{ah aa:Nat->Prop}{β:Bd}{s:St}{t:Array a5}{w:a7}(h:cS P n ah aa β s t w)(x:a9):
 aB P w aa β s.heap (ev s.env x) (fH t x)/\aE (aI s.heap) (ev s.env x):=by
 cases x with
 |tmp x=>exact⟨h.env x,h.gH x⟩
 |const v=>exact⟨by simp only[ev,fH,aB];exact Jp v,by simp[ev,aE]⟩
 |global g=>exact⟨by simp only[ev,fH,aB];exact h.heap.ia.val g,by simp[ev,aE]⟩
 |func f=>exact⟨by simp[ev,fH,aB,aD,bt],by simp[ev,aE]⟩
def jc(n:Nat)(o:Oper):Bool:=
 match o.dst with
 |some d=>decide (d<n)
 |none=>true
theorem vU(e:Env)(dst:Option Tmp)(v:AV)(x:Nat):aN (put dst v e) x=if dst=some x then v else aN e x:=by
 cases dst with
 |none=>simp[put]
 |some d=>
  simp only[put,aN,Option.some.injEq]
  by_cases h:x=d
  ·simp[h]
  ·simp[h,eb h]
theorem Xk{n:Nat}{o:Oper}(a:jc n o=true){t:Array a5}(c:t.size=n)(v:a5)(x:Nat):(nC o.dst v t).getD x undef=if o.dst=some x then v else t.getD x undef:=by
 unfold jc at a;cases b:o.dst with
 |none=>simp[nC]
 |some d=>
  simp only[b,decide_eq_true_eq]at a;simp only[nC,Option.some.injEq]
  by_cases h:d=x
  ·subst h;simp[c,a]
  ·simp only[h,if_false,Array.getD_eq_getD_getElem?,Array.getElem?_setIfInBounds_ne h]
theorem WY{t:Array a5}(dst:Option Tmp)(v:a5):(nC dst v t).size=t.size:=by cases dst<;>simp[nC]
theorem cS.put{ah aa aF:Nat->Prop}{β aJ:Bd}{s:St}{H':Heap}{t:Array a5}{w w':a7}{o:Oper}{v:AV}{b:a5}(h:cS P n ah aa β s t w)(c:jc n o=true)
 (a:bY P ah aa w β s.heap aF w' aJ H')(e:aB P w' aF aJ H' v b)(d:aE (aI H') v):
 cS P n ah aF aJ ⟨put o.dst v s.env,H'⟩ (nC o.dst b t) w':=by
 refine⟨a.rel,fun x=>?_,fun x=>?_,by rw[WY];exact h.size⟩
 ·rw[vU,Xk c h.size]
  split
  ·exact e
  ·exact aB.mono a.bR (fun k hk=>a.ext.same k (.inr hk)) a.step _ _ (h.gH x) (h.env x)
 ·rw[vU]
  split
  ·exact d
  ·exact aE.mono a.fp _ (h.gH x)
theorem K6{H T:Heap}{b:Nat×Nat}(h:aI H b):aI (H++T) b:=by
 obtain⟨o,a,c⟩:=h;exact⟨o,by rw[cx (ck.1 a).1];exact a,c⟩
theorem bS.later{ah aa aF:Nat->Prop}{w w':a7}{β:Bd}{H:Heap}(h:bS P w aa β H ah)(e:∀k,aa k->aF k)(hf:∀k,aF k->aa k\/w.heap.size<=k)
 (B:∀k,aF k->k<w'.heap.size)(q:w.heap.size<=w'.heap.size)(hs:∀k,k<w.heap.size->w'.heap[k]?=w.heap[k]?)(A:w'.os=w.os/\w'.output=w.output:=by exact⟨rfl,rfl⟩):bY P ah aa w β H aF w' β H:=by
 have same:∀k,aa k->w'.heap[k]?=w.heap[k]?:=fun k hk=>hs k (h.bR k hk);refine⟨e,fun k hk=>(hf k hk).imp id (fun c a=>by have:=h.er k a;omega),⟨q,fun k hk=>hs k (hk.elim (h.er k) (h.bR k)),A⟩,cd.refl _ _,?_,fun _ x=>x,fun _ x=>x⟩;refine⟨fun b o m=>?_,fun b b' o o' c a D E C=>h.inj b b' o o' c a D E (fun hi=>C (e _ hi)),h.refs,B,fun k hk=>dz (h.er k hk) q,h.ia.mono e same⟩;have f:=h.cF b o m;have n:=h.refs b o m;have held:∀fz,o.live->cG aa β ah fz b->cG aF β ah fz b:=by
  intro fz i l;have:=h.mQ m i;unfold cG at l⊢;cases fz with
  |true=>exact e _ l
  |false=>exact⟨fun x=>(hf _ x).elim l.1 (by omega),l.2⟩
 have j:o.live->w'.heap[β.al b]?=w.heap[β.al b]?:=fun i=>hs _ (h.mQ m i);cases o with
 |hole=>trivial
 |dead=>trivial
 |box fz t=>
  obtain⟨cs,T,c,a,d,g⟩:=f;exact⟨cs,T,(j trivial).trans c,br.mono e same (cd.refl _ _) _ _ n a,held _ trivial d,g⟩
 |arr k aA ai es=>
  rcases f with f|⟨cs,T,r,rest,c,a,d,g,u,v,y,z⟩
  ·exact .inl f
  ·by_cases i:df k es
   ·exact .inl i
   ·exact .inr ⟨cs,T,r,rest,(j i).trans c,bM.mono e same (cd.refl _ _) _ _ _ n a,d,g,u,v,held _ i y,z⟩
 |map fz es=>
  obtain⟨p,clock,c,a,d⟩:=f;exact⟨p,clock,(j trivial).trans c,cH.mono e same _ _ a,held _ trivial d⟩
 |dy ks vs=>
  obtain⟨p,clock,c,a,d,g⟩:=f;exact⟨p,clock,(j trivial).trans c,bt.mono e same _ _ a,bB.mono e same (cd.refl _ _) _ _ n d,held _ trivial g⟩
 |dC s pos=>
  obtain⟨bs,c,a,d⟩:=f;exact⟨bs,(j trivial).trans c,a,held _ trivial d⟩
 |loop L=>
  obtain⟨tmps,defers,fn,c,a,d,g⟩:=f;exact⟨tmps,defers,fn,(j trivial).trans c,a,fun x=>aB.mono e same (cd.refl _ _) _ _ (n x) (d x),held _ trivial g⟩
theorem pg{w:a7}{aa:Nat->Prop}{β:Bd}{H:Heap}:∀{a b:List AV}{x y:List a5},bB P w aa β H a x->bB P w aa β H b y->bB P w aa β H (a++b) (x++y)
 |[],b,x,y,h,c=>by simp only[bB]at h;subst h;simpa using c
 |v::a,b,x,y,h,c=>by
  simp only[bB]at h;obtain⟨z,f,rfl,d,e⟩:=h;simp only[dl,bB];exact⟨z,f++y,rfl,d,pg e c⟩
theorem jL{S:Nat×Nat->Prop}{a b:List AV}(h:aS S a)(d:aS S b):aS S (a++b):=by
 rw[cL]at*;intro v c;rcases List.mem_append.1 c with c|c
 ·exact h v c
 ·exact d v c
theorem vW{ah aa:Nat->Prop}{β:Bd}{s:St}{t:Array a5}{w:a7}(h:cS P n ah aa β s t w):∀l:List a9,
 bB P w aa β s.heap (l.map (ev s.env)) (l.map (fH t))/\aS (aI s.heap) (l.map (ev s.env))
 |[]=>by simp[bB,aS]
 |x::l=>by
  have a:=n7 h x;have b:=vW h l;simp only[cy,bB,aS];exact⟨⟨_,_,rfl,a.1,b.1⟩,a.2,b.2⟩
end
section
variable{P:a0}{w:a7}{aa ah:Nat->Prop}{β:Bd}{H:Heap}
def Bd.at(β:Bd)(b al cap:Nat):Bd:=⟨fun x=>if x=b then al else β.al x,fun x=>if x=b then cap else β.cap x⟩
theorem yY{b:Nat}(f:H[b]?=some .hole)(o':Obj)(al cap:Nat):cd β H (β.at b al cap) (H.set b o'):=by
 have a:∀{x v},aI H (x,v)->x≠b:=by
  rintro x v ⟨o,d,i⟩ rfl;simp only at d;rw[f]at d;cases d;exact i
 have c:∀{x v},aI H (x,v)->(H.set b o')[x]?=H[x]?:=fun hx=>ce (eb (a hx));refine⟨?_,?_,?_,?_,?_⟩
 ·rintro x hx ⟨fz,t,h⟩;rw[c hx]at h;exact⟨⟨fz,t,h⟩,by simp[Bd.at,a hx]⟩
 ·rintro x hx ⟨fz,t,h⟩;rw[c hx]at h;exact⟨⟨fz,t,h⟩,by simp[Bd.at,a hx]⟩
 ·rintro x hx ⟨o,h,g⟩;rw[c hx]at h;exact⟨⟨o,h,g⟩,by simp[Bd.at,a hx]⟩
 ·intro x aA ai k e hx h;unfold eX at h;rw[c hx]at h;exact⟨k,e,h,dp _,Iff.rfl,fun _=>by simp[Bd.at,a hx]⟩
 ·rintro x hx ⟨L,h⟩;rw[c hx]at h;exact⟨⟨L,h⟩,by simp[Bd.at,a hx]⟩
theorem tL(e:bS P w aa β H ah){a:Nat}(b:H[a]?=some .hole){ob:Go.Obj}{o':Obj}{cap:Nat}
 (g:ft P {w with heap:=w.heap.push ob} aa (β.at a w.heap.size cap) (H.set a o') ah a o')(h:o'.refs (aI (H.set a o'))):
 bY P ah aa w β H aa {w with heap:=w.heap.push ob} (β.at a w.heap.size cap) (H.set a o'):=by
 refine bY.set e (ck.1 b).1 (fun x hx=>by simp[Bd.at,hx]) (fun _ x=>x) (fun _ x=>.inl x) (fun k hk=>by have:=e.bR k hk;simp;omega) (by simp)
  (fun k _ hk=>by simp[ax,ea hk]) (fun _=>.inl (by simp[Bd.at])) (yY b _ _ _) g h (fun i v c f=>by rw[b]at c;cases c;exact f.elim) (fun L d=>by rw[b]at d;cases d)
theorem vQ(w:a7)(a:Go.Obj){k:Nat}(hk:k<w.heap.size):({w with heap:=w.heap.push a}:a7).heap[k]?=w.heap[k]?:=by
 simp[ax,ea hk]
end
section
variable{P:a0}{w:a7}{aa aF ah:Nat->Prop}{β:Bd}{H:Heap}
def Row(P:a0)(w:a7)(aa:Nat->Prop)(β:Bd)(H:Heap)(ai:Nat)(a:List AV)(b:List (List a5)):Prop:=bM P w aa β H (cc a.length ai) a b
theorem im{ai:Nat}{a:List (List a5)}:Row P w aa β H ai [] a↔a=[]:=by simp[Row,bM]
theorem qP{ai:Nat}{v:AV}{b:List AV}{a:List (List a5)}:Row P w aa β H ai (v::b) a↔∃c cs,a=c::cs/\br P w aa β H v c/\c.length=ai/\Row P w aa β H ai b cs:=by
 simp[Row,c9,bM]
theorem lr{ai:Nat}:∀{a b:List AV}{d:List (List a5)},Row P w aa β H ai (a++b) d↔∃c1 c2,d=c1++c2/\Row P w aa β H ai a c1/\Row P w aa β H ai b c2
 |[],b,d=>by
  simp only[List.nil_append];constructor
  ·intro h;exact⟨[],d,rfl,im.2 rfl,h⟩
  ·rintro⟨c1,c2,rfl,e,f⟩;rw[im.1 e];simpa using f
 |v::a,b,d=>by
  simp only[dl,qP];constructor
  ·rintro⟨c,cs,rfl,e,f,g⟩;obtain⟨c1,c2,rfl,i,j⟩:=lr.1 g;exact⟨c::c1,c2,rfl,⟨c,c1,rfl,e,f,i⟩,j⟩
  ·rintro⟨c1,c2,rfl,⟨c,cs,rfl,e,f,g⟩,i⟩;exact⟨c,cs++c2,rfl,e,f,lr.2 ⟨cs,c2,rfl,g,i⟩⟩
theorem fT{ai:Nat}:∀{b:List AV}{a:List (List a5)},Row P w aa β H ai b a->a.length=b.length/\a.flatten.length=b.length*ai
 |[],a,h=>by rw[im]at h;subst h;simp
 |v::b,a,h=>by
  rw[qP]at h;obtain⟨c,cs,rfl,f,d,e⟩:=h;have:=fT e;simp only[dk,List.flatten_cons,db,this,d,Nat.succ_mul];exact⟨trivial,by omega⟩
theorem l9{ai:Nat}{a:List PV}{b:List (List a5)}:Row P w aa β H ai (a.map .p) b↔bg P w aa (cc a.length ai) a b:=by
 unfold Row;rw[List.length_map];exact nR
theorem jM{ai:Nat}{d:List AV}{e:List (List a5)}(h:Row P w aa β H ai d e)(off len:Nat)(k:off+len<=d.length):
 ∃a b c,e=a++b++c/\Row P w aa β H ai ((d.drop off).take len) b/\a.flatten.length=off*ai/\Row P w aa β H ai (d.take off) a/\Row P w aa β H ai (d.drop (off+len)) c:=by
 have e1:d=d.take off++((d.drop off).take len++d.drop (off+len)):=by
  rw[<-List.drop_drop,cN,cN]
 rw[e1,lr]at h;obtain⟨a,r,rfl,f,g⟩:=h;rw[lr]at g;obtain⟨b,c,rfl,i,j⟩:=g;refine⟨a,b,c,by simp,i,?_,f,j⟩;have:=(fT f).2;rw[this,List.length_take,Nat.min_eq_left (by omega)]
theorem lY{cs:Array a5}{T:a1}{fz:Nat×Nat}{al:Nat}(a:w.heap[al]?=some (.cells cs T fz)){pre xs post:List a5}(hc:cs.toList=pre++xs++post):
 gP w al pre.length xs:=by
 intro i hi;have:cs[pre.length+i]?=some xs[i]:=by
  rw[<-Array.getElem?_toList,hc,dg,cA (by omega)];simp only[Nat.add_sub_cancel_left];rw[cx hi,List.getElem?_eq_getElem hi]
 simp[World.cell?,a,this]
theorem BZ(a:List PV)(off len:Nat):(((a.map AV.p).drop off).take len)=((a.drop off).take len).map .p:=by
 rw[<-List.map_drop,<-List.map_take]
theorem ma{H:Heap}{b:Nat}{d o:Obj}(c:H[b]?=some d)(e:∀v,d.has v->o.has v):∀x,aI H x->aI (H.set b o) x:=by
 rintro⟨x,v⟩ ⟨f,a,h⟩
 by_cases hx:b=x
 ·subst hx;simp only at a;rw[c]at a;cases a;exact⟨o,by simp only;rw[cv (ck.1 c).1],e v h⟩
 ·exact⟨f,by simp only;rw[ce hx];exact a,h⟩
theorem qJ{b:Nat}{o o':Obj}(m:H[b]?=some o)(hk:(∃f g t,o= .box f t/\o'= .box g t)\/(∃k n v z c,o= .arr k v z c/\o'= .arr n v z c/\¬df k c/\¬df n c)\/(∃f g c,o= .map f c/\o'= .map g c)):
 cd β H β (H.set b o'):=by
 have u:b<H.length:=(ck.1 m).1;have i:∀x,x≠b->(H.set b o')[x]?=H[x]?:=fun x hx=>ce (eb hx);have e:(H.set b o')[b]?=some o':=cv u;refine⟨?_,?_,?_,?_,?_⟩
 ·rintro x _ ⟨fz,t,h⟩;refine⟨?_,rfl⟩
  by_cases hx:x=b
  ·subst hx;rw[e]at h;cases h;rcases hk with⟨f,g,l,d,a⟩|⟨_,_,_,_,_,_,a,_⟩|⟨_,_,_,_,a⟩
   ·exact⟨f,l,by rw[m,d]⟩
   ·cases a
   ·cases a
  ·rw[i x hx]at h;exact⟨fz,t,h⟩
 ·rintro x _ ⟨s,p,h⟩;refine⟨?_,rfl⟩
  by_cases hx:x=b
  ·subst hx;rw[e]at h;cases h;rcases hk with⟨f,g,l,d,a⟩|⟨_,_,_,_,_,_,a,_⟩|⟨_,_,_,_,a⟩<;>cases a
  ·rw[i x hx]at h;exact⟨s,p,h⟩
 ·rintro x _ ⟨w,h,j⟩;refine⟨?_,rfl⟩
  by_cases hx:x=b
  ·subst hx;rw[e]at h;cases h;rcases hk with⟨f,g,l,d,a⟩|⟨_,_,_,_,_,_,a,_⟩|⟨f,g,c,d,a⟩
   ·rw[a]at j;exact j.elim
   ·rw[a]at j;exact j.elim
   ·exact⟨o,m,by rw[d];trivial⟩
  ·rw[i x hx]at h;exact⟨w,h,j⟩
 ·intro x aA ai k c _ h
  by_cases hx:x=b
  ·subst hx;unfold eX at h⊢;rw[e]at h;cases h;rcases hk with⟨f,g,l,d,a⟩|⟨k0,n,v,z,y,d,a,q,r⟩|⟨f,g,c,d,a⟩
   ·cases a
   ·cases a;exact⟨k0,c,by rw[m,d],dp _,⟨fun x=>(r x).elim,fun x=>(q x).elim⟩,fun _=>⟨rfl,rfl⟩⟩
   ·cases a
  ·unfold eX at h⊢;rw[i x hx]at h;exact⟨k,c,h,dp _,Iff.rfl,fun _=>⟨rfl,rfl⟩⟩
 ·rintro x _ ⟨L,h⟩;refine⟨?_,rfl⟩
  by_cases hx:x=b
  ·subst hx;rw[e]at h;cases h;rcases hk with⟨f,g,l,d,a⟩|⟨_,_,_,_,_,_,a,_⟩|⟨_,_,_,_,a⟩<;>cases a
  ·rw[i x hx]at h;exact⟨L,h⟩
theorem cG.rG{fz:Bool}{b:Nat}(h:cG aa β ah fz b):aa (β.al b)\/(¬aa (β.al b)/\¬ah (β.al b)):=by
 cases fz with
 |true=>exact .inl h
 |false=>exact .inr h
theorem qN(e:bS P w aa β H ah){b:Nat}{o o':Obj}(f:H[b]?=some o)(r:o.live)(Q:o'.live)(A:∀v,o.has v->o'.has v)(u:∀L,o≠ .loop L)
 (aH:cd β H β (H.set b o'))(O:aa (β.al b)\/(¬aa (β.al b)/\¬ah (β.al b)))
 (aV:∀aF:Nat->Prop,(∀k,aa k->aF k)->aF (β.al b)->ft P w aF β (H.set b o') ah b o')(B:o'.refs (aI (H.set b o'))):
 ∃aF,bY P ah aa w β H aF w β (H.set b o')/\aF (β.al b):=by
 have q:b<H.length:=(ck.1 f).1
 by_cases hi:aa (β.al b)
 ·
  refine⟨aa,?_,hi⟩;have ak:=ma f A;refine⟨fun _ x=>x,fun _ x=>.inl x,Ext.refl _ _ _,aH,⟨?_,?_,?_,e.bR,e.er,e.ia⟩,ak,fun x⟨L,j⟩=>⟨L,by
   by_cases hx:b=x
   ·subst hx;rw[f]at j;cases j;exact(u L rfl).elim
   ·rw[ce hx];exact j⟩⟩
  ·intro x l d
   by_cases hx:x=b
   ·subst hx;rw[cv q]at d;cases d;exact aV aa (fun _ x=>x) hi
   ·rw[ce (eb hx)]at d;have g:=e.cF x l d;have m:=e.refs x l d;cases l with
    |hole=>trivial
    |dead=>trivial
    |box fz t=>
     obtain⟨cs,T,a,c,i⟩:=g;exact⟨cs,T,a,br.mono (fun _ x=>x) (fun _ _=>rfl) aH _ _ m c,i⟩
    |arr k aA ai es=>
     rcases g with g|⟨cs,T,K,rest,a,c,i⟩
     ·exact .inl g
     ·exact .inr ⟨cs,T,K,rest,a,bM.mono (fun _ x=>x) (fun _ _=>rfl) aH _ _ _ m c,i⟩
    |map fz es=>exact g
    |dy ks vs=>
     obtain⟨M,clock,a,c,i,p⟩:=g;exact⟨M,clock,a,c,bB.mono (fun _ x=>x) (fun _ _=>rfl) aH _ _ m i,p⟩
    |dC s pos=>exact g
    |loop L=>
     obtain⟨tmps,defers,fn,a,c,i,p⟩:=g;exact⟨tmps,defers,fn,a,c,fun x=>aB.mono (fun _ x=>x) (fun _ _=>rfl) aH _ _ (m x) (i x),p⟩
  ·intro x y E X a c U V R N;have conv:∀(z:Nat)(n:Obj),(H.set b o')[z]?=some n->n.live->∃F:Obj,H[z]?=some F/\F.live:=by
    intro z n C W
    by_cases D:z=b
    ·subst D;exact⟨o,f,r⟩
    ·rw[ce (eb D)]at C;exact⟨n,C,W⟩
   obtain⟨G,I,c1⟩:=conv x E a U;obtain⟨a2,J,c2⟩:=conv y X c V;exact e.inj x y G a2 I J c1 c2 R N
  ·intro x l d
   by_cases hx:x=b
   ·subst hx;rw[cv q]at d;cases d;exact B
   ·rw[ce (eb hx)]at d;exact Obj.wj ak (e.refs x l d)
 ·refine⟨fun k=>aa k\/k=β.al b,?_,.inr rfl⟩;have S:=O.resolve_left hi;exact bY.set e q (fun _ _=>⟨rfl,rfl⟩) (fun _ x=>.inl x) (fun k hk=>hk.imp id (fun h=>⟨h,Q⟩)) (fun k hk=>hk.elim (e.bR k) (fun h=>h▸e.mQ f r)) (dp _)
   (fun _ _ _=>rfl) (fun _=>.inr ⟨rfl,⟨o,f,r⟩,.inl (fun _ _=>rfl),S.2⟩) aH (aV _ (fun _ x=>.inl x) (.inr rfl)) B (fun E v a c=>by rw[f]at a;cases a;exact A v c) (fun L j=>by rw[f]at j;cases j;exact(u L rfl).elim)
theorem KW{z:AV}{pv:PV}{H1:Heap}{v:a5}(d:kT H z=some (pv,H1))(i:bS P w aa β H ah)(f:aB P w aa β H z v)(Z:aE (aI H) z):
 ∃aF,bY P ah aa w β H aF w β H1/\aD P w aF pv v:=by
 cases z with
 |p t=>
  simp[kT]at d;obtain⟨rfl,rfl⟩:=d;exact⟨aa,bY.refl i,by simpa[aB]using f⟩
 |sl b aA ai off len=>
  simp only[kT]at d
  split at d
  case h_2=>simp at d
  rename_i k ab W j g
  split at d
  case isFalse=>simp at d
  rename_i O;obtain⟨rfl,rfl,Y⟩:=O;simp only[aB]at f;obtain⟨_,f⟩:=f;simp only[bU]at f;obtain⟨v1,v2,v3⟩:=f k j g
  split at d
  ·rename_i u;simp at d;obtain⟨rfl,rfl⟩:=d;exact⟨aa,bY.refl i,by simp[aD,v2 u]⟩
  ·rename_i u
   split at d
   case h_2=>simp at d
   rename_i J R;simp at d;obtain⟨rfl,rfl⟩:=d;have A:=lC R;have E:=i.cF b _ g;rcases E with E|⟨cs,T,F,rest,n,l,r,B,L,M,N,X⟩
   ·exact(u E).elim
   have I:¬df .frozen j:=fun h=>by cases h.1
   have aH:cd β H β (H.set b (.arr .frozen aA ai j)):=qJ g (.inr (.inl ⟨_,_,_,_,_,rfl,rfl,u,I⟩));obtain⟨aF,q,y⟩:=qN i g u (o':=.arr .frozen aA ai j) I (fun _ h=>h) (fun _ h=>by cases h) aH N.rG
    (fun aF hi x=>.inr ⟨cs,T,F,rest,n,bM.mono hi (fun _ _=>rfl) aH _ _ _ (i.refs b _ g) l,r,B,L,(fun h=>by cases h),x,fun _ e C=>(by rw[A]at C;simp at C;obtain⟨a,_,rfl⟩:=C;trivial),fun h=>by cases h⟩)
    (by rw[A];exact iW _ _)
   refine⟨aF,q,?_⟩;rw[v3 u];have S:Row P w aF β H ai j F:=bM.mono q.bR (fun _ _=>rfl) (cd.refl _ _) _ _ _ (i.refs b _ g) l;obtain⟨a,m,c,e1,e2,e3,e4,e5⟩:=jM S off len v1;rw[A,BZ,l9]at e2;have D:((J.drop off).take len).length=len:=by
    have:j.length=J.length:=by rw[A];simp
    simp;omega
   simp only[aD];refine⟨β.al b,off*ai,β.cap b-off,ai,m,e2,fun _=>y,?_,?_,?_,none,.inl rfl,?_⟩
   ·rw[<-e3];exact lY n (post:=c.flatten++rest) (by rw[r,e1];simp)
   ·intro hf;simp at hf;rw[D,M hf.1];omega
   ·rw[D];omega
   ·rw[D]
 |ptr b path=>
  simp only[kT]at d
  split at d
  case h_2=>simp at d
  rename_i fz t g
  split at d
  case h_2=>simp at d
  rename_i s hs;simp at d;obtain⟨rfl,rfl⟩:=d;simp only[aB]at f;obtain⟨_,f⟩:=f;simp only[bU]at f;obtain⟨V,U,o,rfl,Q,f⟩:=f;obtain⟨rfl,rfl⟩:=f (.inl ⟨fz,_,g⟩);obtain⟨cs,T,n,l,r,B⟩:=i.cF b _ g;have aH:cd β H β (H.set b (.box true (.p t))):=qJ g (.inl ⟨_,_,_,rfl,rfl⟩);obtain⟨aF,q,y⟩:=qN i g trivial (o':=.box true (.p t)) trivial (fun _ h=>h) (fun _ h=>by cases h) aH r.rG
   (fun aF hi x=>⟨cs,T,n,br.mono hi (fun _ _=>rfl) aH _ _ (by simp[aE]) l,x,fun _=>trivial,B.2⟩) (by simp[Obj.refs,aE])
  refine⟨aF,q,?_⟩;have K:aR P w aF t cs.toList:=by simp only[br]at l;exact aR.mono q.bR (fun _ _=>rfl) _ _ l
  obtain⟨pre,xs,post,e1,e2,e3⟩:=zh K hs Q;simp only[aD];refine⟨β.al b,U,xs,e3,y,?_,rfl⟩;rw[<-e2];exact lY n e1
 |map b=>
  simp only[kT]at d
  split at d
  case h_2=>simp at d
  rename_i fz j g;simp at d;obtain⟨rfl,rfl⟩:=d;simp only[aB]at f;obtain⟨_,f⟩:=f;simp only[bU]at f;have f:=f.1 ⟨_,g,trivial⟩;obtain⟨G,clock,n,l,r⟩:=i.cF b _ g;have aH:cd β H β (H.set b (.map true j)):=qJ g (.inr (.inr ⟨_,_,_,rfl,rfl⟩));obtain⟨aF,q,y⟩:=qN i g trivial (o':=.map true j) trivial (fun _ h=>h) (fun _ h=>by cases h) aH r.rG
   (fun aF hi x=>⟨G,clock,n,cH.mono hi (fun _ _=>rfl) _ _ l,x⟩) trivial
  refine⟨aF,q,?_⟩;simp only[aD];exact⟨β.al b,G,clock,y,n,cH.mono q.bR (fun _ _=>rfl) _ _ l,f⟩
 |b6=>simp[kT]at d
 |func=>simp[kT]at d
 |st=>simp[kT]at d
 |aG=>simp[kT]at d
end
section
variable{P:a0}{ag:a8->Bool}{n N:Nat}
theorem Ct{w:a7}{β:Bd}{ah:Nat->Prop}:∀{e:List AV}{g:List PV}{H H1:Heap}{aa:Nat->Prop}{vs:List a5},nB H e=some (g,H1)->bS P w aa β H ah->
 bB P w aa β H e vs->aS (aI H) e->∃aF,bY P ah aa w β H aF w β H1/\bt P w aF g vs
 |[],g,H,H1,aa,vs,b,h,c,_=>by
  simp[nB]at b;obtain⟨rfl,rfl⟩:=b;simp only[bB]at c;exact⟨aa,bY.refl h,by simpa[bt]using c⟩
 |a::e,g,H,H1,aa,vs,b,h,c,f=>by
  simp only[nB]at b
  split at b
  case h_2=>simp at b
  rename_i v o j
  split at b
  case h_2=>simp at b
  rename_i r p k;simp at b;obtain⟨rfl,rfl⟩:=b;simp only[bB]at c;obtain⟨y,n,rfl,k1,k2⟩:=c;simp only[aS]at f;obtain⟨q,d,l⟩:=KW j h k1 f.1;obtain⟨i,q1,m⟩:=Ct k d.rel (bB.mono d.bR (fun _ _=>rfl) d.step _ _ f.2 k2) (aS.mono d.fp _ f.2);refine⟨i,d.trans q1,?_⟩;simp only[bt];exact⟨y,n,rfl,aD.mono q1.bR (fun _ _=>rfl) _ _ l,m⟩
def kn(P:a0)(n N:Nat)(fr:bb)(k:List Item)(cs:List bb)(c:Array Oper)(ah aa:Nat->Prop)(w:a7)(β:Bd)(H:Heap)(m:Machine)(r:List Nat)(b:List bk)(K:St->Prop):Prop:=
 ∃s' aF aJ a w',K s'/\Steps P m (lone (bD fr a b (.inRegion c r::k)) cs w')/\cS P n ah aF aJ s' a w'/\dS N ah aa w β H ah aF w' aJ s'.heap
theorem Ux{d:Bool}{o:Oper}{K:St->Prop}{s:St}(h:jG P ag d o K s)(c:Call):o.op≠.defer c:=by
 intro hc;unfold jG at h;rw[hc]at h;simp[fG,hc]at h
variable{fr:bb}{k:List Item}{cs:List bb}{ops:Array Oper}{i:Nat}{r:List Nat}{ds:List bk}
theorem JU{d:Bool}{o:Oper}{f:a9}{F:Array a9}{Z:Array a1}{g:a8}{fi ca:List AV}{K:St->Prop}{s:St}{ah aa:Nat->Prop}{β:Bd}{t:Array a5}{w:a7}
 (W:o.op=.call {callee:=.value f,args:=F,argTypes:=Z})
 (hf:(ev s.env f=.func g fi ca)\/(∃a b,ev s.env f=.p (.func g a b)/\fi=a.map .p/\ca=b.map .p))
 (h:gS P d g (fi++F.toList.map (ev s.env)++ca) s.heap (fun v H'=>K ⟨put o.dst v s.env,H'⟩))
 (m:cS P n ah aa β s t w)(G:jc n o=true)(C:ops[i]?=some o)(M:b0 o (yielded ops t)=true):
 kn P n N fr k cs ops ah aa w β s.heap (lone (bD fr t ds (.inRegion ops (i::r)::k)) cs w) r ds K:=by
 have E:=n7 m f;obtain⟨y,u,al,aj,ai,ap,ao⟩:∃y u:List a5,fH t f=.func (.func g) y.toArray u.toArray/\bB P w aa β s.heap fi y/\bB P w aa β s.heap ca u/\aS (aI s.heap) fi/\aS (aI s.heap) ca:=by
  rcases hf with hf|⟨a,b,hf,rfl,rfl⟩
  ·rw[hf]at E;simp only[aB,aE]at E;obtain⟨⟨y,u,l,j,z⟩,ac,ad⟩:=E;exact⟨y,u,z,l,j,ac,ad⟩
  ·rw[hf]at E;simp only[aB,aD]at E;obtain⟨⟨y,u,l,j,z⟩,_⟩:=E;exact⟨y,u,z,jz.2 l,jz.2 j,iW _ _,iW _ _⟩
 obtain⟨af,ag⟩:=vW m F.toList;have D:=pg (pg aj af) ai;have Q:=jL (jL ap ag) ao;have q:(be (fH t) o).run P w=(callFunc g (y++F.toList.map (fH t)++u).toArray).run P w:=by
  simp only[be,W,resolve,al,Deferred.ofValue,Sem.run_bind,Sem.run_pure,Result.andThen_ok,invoke];congr 2;simp
 have L:∀c,o.op≠.defer c:=fun c hc=>by rw[W]at hc;cases hc
 have pure:∀(H1:Heap)(B:Nat->Prop)(vs:List PV)(v:PV),bY P ah aa w β s.heap B w β H1->bt P w B vs (y++F.toList.map (fH t)++u)->aC P g vs v->
  K ⟨put o.dst (.p v) s.env,H1⟩->kn P n N fr k cs ops ah aa w β s.heap (lone (bD fr t ds (.inRegion ops (i::r)::k)) cs w) r ds K:=by
  intro H1 B vs v A Y I U;rcases I with⟨R,I⟩|I
  ·rw[R]at q;obtain⟨e,w',S,⟨O,aF,H,g1,g2,g3,g4,g5,ab,g6⟩,aH,V,J⟩:=I w B _ A.rel.bR A.rel.ia Y (bD fr t ds (.inRegion ops (i::r)::k)::cs);subst H;have X:=A.trans (A.rel.later g1 g2 g3 g4 g5 ab);refine⟨_,aF,β,_,w',U,?_,m.put G X (by simpa[aB]using g6) (by simp[aE]),X.fw⟩;rw[<-nI C];exact(b3 (vL C M L q)).trans (b2 aH (.one (bi J)))
  ·obtain⟨O,l,j⟩:=I w B _ Y;rw[l]at q;exact⟨_,B,β,_,w,U,.one (tv C M L q (.inl rfl)),m.put G A (by simpa[aB]using j) (by simp[aE]),A.fw⟩
 rcases h with⟨vs,v,l,j,z⟩|⟨_,⟨vs,H1,v,l,j,z⟩|⟨H',v,⟨R,l⟩,j⟩|⟨e,T,an,j⟩|⟨ak,v,ae,am,j⟩⟩
 ·exact pure s.heap aa vs v (bY.refl m.heap) (by rw[l]at D;exact jz.1 D) j z
 ·obtain⟨B,aq,ar⟩:=Ct l m.heap D Q;exact pure H1 B vs v aq ar j z
 ·rw[R]at q;obtain⟨e,w',S,⟨O,aJ,aF,H,g1,g2,g3⟩,aH,V,J⟩:=l w aa ah β _ m.heap D Q (bD fr t ds (.inRegion ops (i::r)::k)::cs);subst H;refine⟨_,aF,aJ,_,w',j,?_,m.put G g1 g2 g3,g1.fw⟩;rw[<-nI C];exact(b3 (vL C M L q)).trans (b2 aH (.one (bi J)))
 ·rw[T.1]at q;obtain⟨x,w',S,⟨O,aJ,aF,H,g1,g2,g3⟩,aH,V,J⟩:=T.use an m.heap D Q (bD fr t ds (.inRegion ops (i::r)::k)::cs);subst H;refine⟨_,aF,aJ,_,w',j,?_,m.put G g1 g2 g3,g1.fw⟩;rw[<-nI C];exact(b3 (vL C M L q)).trans (b2 aH (.one (bi J)))
 ·obtain⟨O,l,z⟩:=ae s.heap w aa ah β _ m.heap D Q am;rw[l]at q;have A:=bY.refl m.heap;exact⟨_,aa,β,_,w,j,.one (tv C M L q (.inl rfl)),m.put G A (by simpa[aB]using z) (by simp[aE]),A.fw⟩
end
end Go.au
