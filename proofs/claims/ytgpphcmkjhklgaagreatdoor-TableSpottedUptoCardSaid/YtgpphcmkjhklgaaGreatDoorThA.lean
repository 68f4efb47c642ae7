import Derived.Calls
import Derived.Laws.Sem
import Derived.IntWalk
import Derived.Laws.Cells
import Derived.Laws.CopyRow
import Derived.Laws.Entries
/- Parts of a proof. -/
set_option linter.unusedSimpArgs false
set_option linter.unusedVariables false
set_option linter.unusedSectionVars false
open Array renaming getElem?_eq_some_iff->av, getElem?_push->ax, toList->ay
open BitVec renaming ofInt->aT
open Go renaming Program->a0, TypeId->a1, Value->a5, step_lone_go->a6, World->a7, FuncId->a8, Operand->a9, Frame->bb, execOp->be, step_leave_returned->bi, Deferred->bk, MapEntry->bl, IntKind->bo, Calls->bv
open Go.Region renaming wanted->b0, binds->b1
open Go.Steps renaming trans->b2, one->b3
open Go.stepG renaming exec->b4, apply->b5, oper->cb
open List renaming replicate->cc, getElem?_set_ne->ce, getElem?_eq_some_iff->ck, getElem?_set_self->cv, getElem?_append_left->cx, map_cons->cy, getElem?_append_right->c6, mem_or_eq_of_mem_set->c9, length_eq_zero_iff->da, take_append_drop->db, mem_of_getElem?->dg, replicate_succ->dk, set_cons_zero->dl, length_append->dp, append_assoc->dq, length_cons->dz, cons_append->ea
open Nat renaming le_refl->eb, le_trans->ec, lt_of_lt_of_le->ed, ne_of_lt->ee
open Ne renaming symm->ei
namespace Go.ag
set_option linter.unusedSectionVars false
inductive PV where
 |undef
 |bool (b:Bool)
 |int (k:bo) (n:Int)
 |str (s:List Nat)
 |dJ
 |cw (t:PV)
 |aW
 |bP (full:Bool) (es:List PV)
 |seq (es:List PV)
 |fC
 |fg (es:List (PV×PV))
 |func (f:a8) (first ib:List PV)
 |ig
 |fV
 |st (u:a1) (fs:List PV)
 |aE (vs:List PV)
 deriving Inhabited
inductive AV where
 |p (v:PV)
 |ptr (b:Nat) (path:List (a1×Nat))
 |b7 (b aw aj i:Nat) (path:List (a1×Nat))
 |sl (b aw aj off len:Nat)
 |map (b:Nat)
 |func (f:a8) (first ib:List AV)
 |st (u:a1) (fs:List AV)
 |aE (vs:List AV)
 deriving Inhabited
inductive AK where|exact|grow|frozen|bytes
 deriving DecidableEq
def AK.gr:AK->Bool
 | .grow| .bytes=>true
 |_=>false
structure ek where
 st:LoopState
 pending:Option Code
 n:Nat
 params:List Tmp
 assign:Code
 body:Code
 env:List (Nat×AV)
inductive Obj where
 |hole
 |dead
 |box (fz:Bool) (t:AV)
 |arr (k:AK) (aw aj:Nat) (es:List AV)
 |map (fz:Bool) (es:List (PV×PV))
 |dx (ks:List PV) (vs:List AV)
 |dA (s:List Nat) (pos:Nat)
 |loop (L:ek)
 deriving Inhabited
abbrev Heap:=List Obj
abbrev Env:=List (Nat×AV)
structure St where
 env:Env
 heap:Heap
def aN(e:Env)(t:Nat):AV:=
 match e with
 |[]=>.p .undef
 |(k,v)::r=>if t=k then v else aN r t
inductive jl where|bad|leaf|agg (u:a1)
 deriving DecidableEq
def aM:PV->jl
 | .undef| .aE _=>.bad
 | .st u _=>.agg u
 |_=>.leaf
def aa:AV->jl
 | .p v=>aM v
 | .aE _=>.bad
 | .st u _=>.agg u
 |_=>.leaf
def cH:PV->List PV
 | .st _ fs=>fs
 |_=>[]
section tables
variable(P:a0)
def dO(u:a1):Option (List Nat):=
 match(P.info? u).map (fun i:TypeInfo=>i.desc)with
 |some (.struct fs)=>
  let l:=fs.toList.map fun f=>P.cellsOf f.type
  if l.all (0<·)&&l.sum==P.cellsOf u&&(fs.toList.zipIdx.all fun(f,i)=>f.offset==(l.take i).sum)then some l else none
 |some (.array n e)=>if 0<P.cellsOf e&&n*P.cellsOf e==P.cellsOf u then some (cc n (P.cellsOf e))else none
 |_=>none
def kindOf(T:a1):jl:=
 match P.underlying T with
 |some (.struct _)|some (.array _ _)=>
  if(dO P (P.underlyingId T)).isSome&&P.cellsOf T==P.cellsOf (P.underlyingId T)then .agg (P.underlyingId T)else .bad
 |some _=>if P.cellsOf T==1 then .leaf else .bad
 |none=>.bad
def bJ:jl->Nat
 | .bad=>0
 | .leaf=>1
 | .agg u=>P.cellsOf u
def jr(u:a1):List a1:=
 match(P.info? u).map (fun i:TypeInfo=>i.desc)with
 |some (.struct fs)=>fs.toList.map (·.type)
 |some (.array n e)=>cc n e
 |_=>[]
end tables
def ofConst:a5->PV
 | .bool b=>.bool b
 | .int k n=>.int k n
 | .string s=>.str (s.data.toList.map (·.toNat))
 | .pointer none=>.dJ
 | .slice none 0 0=>.aW
 | .map none=>.fC
 | .nilFunc=>.ig
 | .nilIface=>.fV
 |_=>.undef
def qg(P:a0)(a:a1->List a5->Option PV):List a1->List Nat->List a5->Option (List PV)
 |[],[],[]=>some []
 |T::b,s::c,cs=>
  if(cs.take s).length=s then
   match a T (cs.take s),qg P a b c (cs.drop s)with
   |some v,some vs=>if bJ P (aM v)=s then some (v::vs)else none
   |_,_=>none
  else none
 |_,_,_=>none
def uM(P:a0):Nat->a1->List a5->Option PV
 |0,_,_=>none
 |n+1,T,cs=>
  match kindOf P T with
  | .leaf=>match cs with
   |[c]=>match ofConst c with
    | .undef=>none
    |v=>some v
   |_=>none
  | .agg u=>match dO P u with
   |some l=>
    match qg P (uM P n) (jr P u) l cs with
    |some fs=>some (.st u fs)
    |none=>none
   |none=>none
  | .bad=>none
def A7:a5->jl->Bool
 | .agg _,.agg _=>true
 | .agg _,_=>false
 |_,.agg _=>false
 |_,_=>true
def cO(P:a0)(T:a1):Option PV:=
 match(P.info? T).bind (·.zero)with
 |some z=>if A7 z (kindOf P T)then uM P 40 T z.cells.toList else none
 |none=>none
section relation
variable(P:a0)(w:a7)(ad:Nat->Prop)
def gL(al off:Nat)(cs:List a5):Prop:=∀i(h:i<cs.length),w.cell? ⟨al,off+i,none⟩=some cs[i]
mutual
def aS:PV->List a5->Prop
 | .undef,_| .aE _,_=>False
 | .bool b,cs=>cs=[.bool b]
 | .int k n,cs=>cs=[.int k n]
 | .str s,cs=>∃bs:ByteArray,cs=[.string bs]/\s=bs.data.toList.map (·.toNat)
 | .dJ,cs=>cs=[.pointer none]
 | .cw t,cs=>∃al off ts,aS t ts/\ad al/\gL w al off ts/\cs=[.pointer (some ⟨al,off,none⟩)]
 | .aW,cs=>cs=[.slice none 0 0]
 | .bP full es,cs=>∃al off cap aj a,bd (cc es.length aj) es a/\(es≠[]->ad al)/\gL w al off a.flatten/\
  (full=true->cap=es.length)/\es.length<=cap/\∃sp,(sp=none\/cap=0)/\cs=[.slice (some ⟨al,off,sp⟩) es.length cap]
 | .seq es,cs=>(es=[]/\cs=[.slice none 0 0])\/∃al off cap aj a,bd (cc es.length aj) es a/\(es≠[]->ad al)/\gL w al off a.flatten/\
  es.length<=cap/\∃sp,(sp=none\/cap=0)/\cs=[.slice (some ⟨al,off,sp⟩) es.length cap]
 | .fC,cs=>cs=[.map none]
 | .fg es,cs=>∃r h j,ad r/\w.heap[r]?=some (.map h j)/\cA es h.toList/\cs=[.map (some r)]
 | .func f first ib,cs=>∃i g,bw first i/\bw ib g/\cs=[.func (.func f) i.toArray g.toArray]
 | .ig,cs=>cs=[.nilFunc]
 | .fV,cs=>cs=[.nilIface]
 | .st u fs,cs=>∃l a,dO P u=some l/\bd l fs a/\cs=a.flatten
def bd:List Nat->List PV->List (List a5)->Prop
 |[],[],a=>a=[]
 |n::p,v::vs,a=>∃c cs,a=c::cs/\aS v c/\c.length=n/\bd p vs cs
 |_,_,_=>False
def aC:PV->a5->Prop
 | .undef,_=>True
 | .aE vs,v=>∃d,bw vs d/\v=.tuple d.toArray
 | .st u fs,v=>∃l a,dO P u=some l/\bd l fs a/\v=.agg a.flatten.toArray
 | .bool b,v=>v=.bool b
 | .int k n,v=>v=.int k n
 | .str s,v=>∃bs:ByteArray,v=.string bs/\s=bs.data.toList.map (·.toNat)
 | .dJ,v=>v=.pointer none
 | .cw t,v=>∃al off ts,aS t ts/\ad al/\gL w al off ts/\v=.pointer (some ⟨al,off,none⟩)
 | .aW,v=>v=.slice none 0 0
 | .bP full es,v=>∃al off cap aj a,bd (cc es.length aj) es a/\(es≠[]->ad al)/\gL w al off a.flatten/\
  (full=true->cap=es.length)/\es.length<=cap/\∃sp,(sp=none\/cap=0)/\v=.slice (some ⟨al,off,sp⟩) es.length cap
 | .seq es,v=>(es=[]/\v= .slice none 0 0)\/∃al off cap aj a,bd (cc es.length aj) es a/\(es≠[]->ad al)/\gL w al off a.flatten/\
  es.length<=cap/\∃sp,(sp=none\/cap=0)/\v=.slice (some ⟨al,off,sp⟩) es.length cap
 | .fC,v=>v=.map none
 | .fg es,v=>∃r h j,ad r/\w.heap[r]?=some (.map h j)/\cA es h.toList/\v=.map (some r)
 | .func f first ib,v=>∃i g,bw first i/\bw ib g/\v=.func (.func f) i.toArray g.toArray
 | .ig,v=>v=.nilFunc
 | .fV,v=>v=.nilIface
def bw:List PV->List a5->Prop
 |[],d=>d=[]
 |v::vs,d=>∃y o,d=y::o/\aC v y/\bw vs o
def cA:List (PV×PV)->List bl->Prop
 |[],es=>es=[]
 |(k,v)::r,es=>∃e m,es=e::m/\aC k e.key/\aC v e.val/\cA r m
end
end relation
class Gl where
 g:Nat->PV
 u8:a1
 raw:Nat->Option (Array a5)
 bx:a1->Option a1
def ji[Gl](T:a1)(s:jl):Bool:=match s with
 | .agg u=>match Gl.bx u with
  |some a=>Nat.beq T a
  |none=>true
 |_=>true
structure mY[Gl](P:a0)(w:a7)(ad:Nat->Prop):Prop where
 val:∀g,aC P w ad (Gl.g g) (.pointer (some ⟨g,0,none⟩))
 raw:∀g cs,Gl.raw g=some cs->ad g/\∃T,w.heap[g]?=some (.cells cs T (0,0))
end Go.ag
namespace Go.ag
variable[Gl]
structure Bd where
 al:Nat->Nat
 cap:Nat->Nat
def gd(P:a0):List (a1×Nat)->Option Nat
 |[]=>some 0
 |(u,i)::r=>
  match dO P u,gd P r with
  |some l,some o=>if i<l.length then some ((l.take i).sum+o)else none
  |_,_=>none
def Obj.vV:Obj->Prop
 | .map _ _| .dx _ _=>True
 |_=>False
section
variable(P:a0)(w:a7)(ad:Nat->Prop)(β:Bd)(H:Heap)
def mW(b:Nat):Prop:=∃fz t,H[b]?=some (.box fz t)
def eS(b aw aj:Nat)(k:AK)(a:List AV):Prop:=H[b]?=some (.arr k aw aj a)
def df(k:AK)(a:List AV):Prop:=k.gr=true/\a=[]
def oi(b:Nat):Prop:=∃o,H[b]?=some o/\o.vV
def mX(b:Nat):Prop:=(∃s pos,H[b]?=some (.dA s pos))
def gM(b:Nat):Prop:=(∃L,H[b]?=some (.loop L))
def bR:AV->a5->Prop
 | .ptr b path,v=>∃al off o,v=.pointer (some ⟨al,off,none⟩)/\gd P path=some o/\(mW H b\/mX H b->al=β.al b/\off=o)
 | .b7 b aw aj i path,v=>∃al off o,v=.pointer (some ⟨al,off,none⟩)/\gd P path=some o/\∀k a,eS H b aw aj k a->¬df k a->al=β.al b/\off=i*aj+o
 | .sl b aw aj off len,v=>∀k a,eS H b aw aj k a->
  off+len<=a.length/\(df k a->v=.slice none 0 0)/\(¬df k a->v=.slice (some ⟨β.al b,off*aj,none⟩) len (β.cap b-off))
 | .map b,v=>(oi H b->v=.map (some (β.al b)))/\(gM H b->v=.func (.yield (β.al b)) #[] #[])
 |_,_=>False
def bN(v:AV)(x:a5):Prop:=x.oneCell'=true/\bR P β H v x
mutual
def bp:AV->List a5->Prop
 | .p t,cs=>aS P w ad t cs
 | .st u fs,cs=>∃l a,dO P u=some l/\bM l fs a/\cs=a.flatten
 | .func f first ib,cs=>∃e d,bB first e/\bB ib d/\cs=[.func (.func f) e.toArray d.toArray]
 | .aE _,_=>False
 | .ptr b path,cs=>∃v,cs=[v]/\bN P β H (.ptr b path) v
 | .b7 b aw aj i path,cs=>∃v,cs=[v]/\bN P β H (.b7 b aw aj i path) v
 | .sl b aw aj off len,cs=>∃v,cs=[v]/\bN P β H (.sl b aw aj off len) v
 | .map b,cs=>∃v,cs=[v]/\bN P β H (.map b) v
def bM:List Nat->List AV->List (List a5)->Prop
 |[],[],a=>a=[]
 |n::h,v::vs,a=>∃c cs,a=c::cs/\bp v c/\c.length=n/\bM h vs cs
 |_,_,_=>False
def az:AV->a5->Prop
 | .p t,v=>aC P w ad t v
 | .st u fs,v=>∃l a,dO P u=some l/\bM l fs a/\v=.agg a.flatten.toArray
 | .func f first ib,v=>∃e d,bB first e/\bB ib d/\v=.func (.func f) e.toArray d.toArray
 | .aE vs,v=>∃xs,bB vs xs/\v=.tuple xs.toArray
 | .ptr b path,v=>bN P β H (.ptr b path) v
 | .b7 b aw aj i path,v=>bN P β H (.b7 b aw aj i path) v
 | .sl b aw aj off len,v=>bN P β H (.sl b aw aj off len) v
 | .map b,v=>bN P β H (.map b) v
def bB:List AV->List a5->Prop
 |[],xs=>xs=[]
 |v::vs,xs=>∃y g,xs=y::g/\az v y/\bB vs g
end
mutual
def aD(n:Nat×Nat->Prop):AV->Prop
 | .p _=>True
 | .ptr b _| .map b=>n (b,0)
 | .b7 b aw _ _ _| .sl b aw _ _ _=>n (b,aw)
 | .func _ first ib=>aV n first/\aV n ib
 | .st _ fs=>aV n fs
 | .aE vs=>aV n vs
def aV(n:Nat×Nat->Prop):List AV->Prop
 |[]=>True
 |v::vs=>aD n v/\aV n vs
end
def Obj.has:Obj->Nat->Prop
 | .hole,_=>False
 | .arr _ aw _ _,v=>v<=aw
 |_,_=>True
def aH(H:Heap)(x:Nat×Nat):Prop:=∃o,H[x.1]?=some o/\o.has x.2
def AV.sX:AV->Prop
 | .p _=>True
 |_=>False
def Obj.refs(n:Nat×Nat->Prop):Obj->Prop
 | .box _ t=>aD n t
 | .arr _ _ _ es=>aV n es
 | .dx _ vs=>aV n vs
 | .loop L=>∀x,aD n (aN L.env x)
 |_=>True
def Obj.live:Obj->Prop
 | .hole| .dead=>False
 | .arr k _ _ es=>¬df k es
 |_=>True
variable(ai:Nat->Prop)
def cz(fz:Bool)(b:Nat):Prop:=if fz then ad (β.al b)else¬ad (β.al b)/\¬ai (β.al b)
def fk(b:Nat):Obj->Prop
 | .hole| .dead=>True
 | .box fz t=>∃cs T,w.heap[β.al b]?=some (.cells cs T (0,0))/\bp P w ad β H t cs.toList/\cz ad β ai fz b/\(fz=true->t.sX)/\ji T (aa t)=true
 | .arr k _ver aj es=>df k es\/
  ∃cs T d f,w.heap[β.al b]?=some (.cells cs T (0,0))/\bM P w ad β H (cc es.length aj) es d/\cs.toList=d.flatten++f/\
   cs.size=β.cap b*aj/\es.length<=β.cap b/\(k=.exact->β.cap b=es.length)/\cz ad β ai (k== .frozen) b/\(k=.frozen->∀e∈es,e.sX)/\(k=.bytes->T=Gl.u8)
 | .map fz es=>∃a c,w.heap[β.al b]?=some (.map a c)/\cA P w ad es a.toList/\cz ad β ai fz b
 | .dx ks vs=>∃a c,w.heap[β.al b]?=some (.map a c)/\bw P w ad ks (a.toList.map (·.key))/\bB P w ad β H vs (a.toList.map (·.val))/\cz ad β ai false b
 | .dA s pos=>∃bs:ByteArray,w.heap[β.al b]?=some (.stringIter bs pos)/\s=bs.data.toList.map (·.toNat)/\cz ad β ai false b
 | .loop L=>∃tmps defers fn,w.heap[β.al b]?=some (.loop {state:=L.st,pending:=L.pending,fn,tmps,params:=L.params.toArray,assign:=L.assign,body:=L.body,defers})/\tmps.size=L.n/\
  (∀x,az P w ad β H (aN L.env x) (tmps.getD x undef))/\cz ad β ai false b
structure bU:Prop where
 cC:∀b o,H[b]?=some o->fk P w ad β H ai b o
 inj:∀b b' o o',H[b]?=some o->H[b']?=some o'->o.live->o'.live->¬ad (β.al b)->β.al b=β.al b'->b=b'
 refs:∀(b:Nat)(o:Obj),H[b]?=some o->o.refs (aH H)
 bV:∀k,ad k->k<w.heap.size
 ey:∀k,ai k->k<w.heap.size
 ie:mY P w ad
end
structure Ext(ai ad:Nat->Prop)(w w':a7):Prop where
 size:w.heap.size<=w'.heap.size
 same:∀k,ai k\/ad k->w'.heap[k]?=w.heap[k]?
 io:w'.os=w.os/\w'.output=w.output
structure cj(β:Bd)(H:Heap)(aI:Bd)(H':Heap):Prop where
 box:∀b,aH H (b,0)->mW H' b->mW H b/\aI.al b=β.al b
 it:∀b,aH H (b,0)->mX H' b->mX H b/\aI.al b=β.al b
 map:∀b,aH H (b,0)->oi H' b->oi H b/\aI.al b=β.al b
 arr:∀b aw aj k es,aH H (b,aw)->eS H' b aw aj k es->∃k0 gD,eS H b aw aj k0 gD/\gD.length<=es.length/\(df k es↔df k0 gD)/\(¬df k es->aI.al b=β.al b/\aI.cap b=β.cap b)
 loop:∀b,aH H (b,0)->gM H' b->gM H b/\aI.al b=β.al b
theorem cj.refl(β:Bd)(H:Heap):cj β H β H:=
 ⟨fun _ _ h=>⟨h,rfl⟩,fun _ _ h=>⟨h,rfl⟩,fun _ _ h=>⟨h,rfl⟩,fun _ _ _ k a _ h=>⟨k,a,h,eb _,Iff.rfl,fun _=>⟨rfl,rfl⟩⟩,fun _ _ h=>⟨h,rfl⟩⟩
theorem Ext.refl(ai ad:Nat->Prop)(w:a7):Ext ai ad w w:=⟨eb _,fun _ _=>rfl,rfl,rfl⟩
section mono
variable{P:a0}{w w':a7}{ad aF:Nat->Prop}
theorem Xu{al off:Nat}(h:w'.heap[al]?=w.heap[al]?):w'.cell? ⟨al,off,none⟩=w.cell? ⟨al,off,none⟩:=by
 simp[World.cell?,h]
theorem gL.same{al off:Nat}{cs:List a5}(h:w'.heap[al]?=w.heap[al]?)(hc:gL w al off cs):gL w' al off cs:=
 fun i hi=>(Xu h).trans (hc i hi)
theorem wA{n:List Nat}{a:List (List a5)}(h:bd P w ad n [] a):a=[]:=by
 cases n<;>simp[bd]at h;exact h
variable(hI:∀k,ad k->aF k)(hs:∀k,ad k->w'.heap[k]?=w.heap[k]?)
include hI hs
mutual
theorem aS.mono:∀(v:PV)(cs:List a5),aS P w ad v cs->aS P w' aF v cs
 | .undef,_,h| .aE _,_,h=>by simp[aS]at h
 | .bool _,_,h| .int _ _,_,h| .str _,_,h| .dJ,_,h| .aW,_,h| .fC,_,h| .ig,_,h| .fV,_,h=>by simpa[aS]using h
 | .cw t,cs,h=>by
  simp only[aS]at h⊢;obtain⟨al,off,ts,a,b,d,j⟩:=h;exact⟨al,off,ts,aS.mono t ts a,hI _ b,d.same (hs _ b),j⟩
 | .bP full o,cs,h=>by
  simp only[aS]at h⊢;obtain⟨al,off,cap,aj,g,a,b,d,j⟩:=h;refine⟨al,off,cap,aj,g,bd.mono _ o g a,fun m=>hI _ (b m),?_,j⟩
  by_cases m:o=[]
  ·subst m;have:=wA a;subst this;intro i hi;simp at hi
  ·exact d.same (hs _ (b m))
 | .seq o,cs,h=>by
  simp only[aS]at h⊢;rcases h with h|⟨al,off,cap,aj,g,a,b,d,j⟩
  ·exact .inl h
  refine .inr ⟨al,off,cap,aj,g,bd.mono _ o g a,fun m=>hI _ (b m),?_,j⟩
  by_cases m:o=[]
  ·subst m;have:=wA a;subst this;intro i hi;simp at hi
  ·exact d.same (hs _ (b m))
 | .fg o,cs,h=>by
  simp only[aS]at h⊢;obtain⟨r,p,clock,a,b,d,j⟩:=h;exact⟨r,p,clock,hI _ a,(hs _ a).trans b,cA.mono o _ d,j⟩
 | .func f first ib,cs,h=>by
  simp only[aS]at h⊢;obtain⟨z,s,a,b,d⟩:=h;exact⟨z,s,bw.mono first z a,bw.mono ib s b,d⟩
 | .st u fs,cs,h=>by
  simp only[aS]at h⊢;obtain⟨l,g,a,b,d⟩:=h;exact⟨l,g,a,bd.mono l fs g b,d⟩
theorem bd.mono:∀(l:List Nat)(vs:List PV)(g:List (List a5)),bd P w ad l vs g->bd P w' aF l vs g
 |[],[],_,h=>by simpa[bd]using h
 |[],_::_,_,h=>by simp[bd]at h
 |_::_,[],_,h=>by simp[bd]at h
 |n::B,v::vs,g,h=>by
  simp only[bd]at h⊢;obtain⟨c,cs,a,b,d,j⟩:=h;exact⟨c,cs,a,aS.mono v c b,d,bd.mono B vs cs j⟩
theorem aC.mono:∀(v:PV)(x:a5),aC P w ad v x->aC P w' aF v x
 | .undef,_,h=>by simp[aC]
 | .aE vs,x,h=>by
  simp only[aC]at h⊢;obtain⟨q,a,b⟩:=h;exact⟨q,bw.mono vs q a,b⟩
 | .bool _,_,h| .int _ _,_,h| .str _,_,h| .dJ,_,h| .aW,_,h| .fC,_,h| .ig,_,h| .fV,_,h=>by simpa[aC]using h
 | .cw t,cs,h=>by
  simp only[aC]at h⊢;obtain⟨al,off,ts,a,b,d,j⟩:=h;exact⟨al,off,ts,aS.mono t ts a,hI _ b,d.same (hs _ b),j⟩
 | .bP full o,cs,h=>by
  simp only[aC]at h⊢;obtain⟨al,off,cap,aj,g,a,b,d,j⟩:=h;refine⟨al,off,cap,aj,g,bd.mono _ o g a,fun m=>hI _ (b m),?_,j⟩
  by_cases m:o=[]
  ·subst m;have:=wA a;subst this;intro i hi;simp at hi
  ·exact d.same (hs _ (b m))
 | .seq o,cs,h=>by
  simp only[aC]at h⊢;rcases h with h|⟨al,off,cap,aj,g,a,b,d,j⟩
  ·exact .inl h
  refine .inr ⟨al,off,cap,aj,g,bd.mono _ o g a,fun m=>hI _ (b m),?_,j⟩
  by_cases m:o=[]
  ·subst m;have:=wA a;subst this;intro i hi;simp at hi
  ·exact d.same (hs _ (b m))
 | .fg o,cs,h=>by
  simp only[aC]at h⊢;obtain⟨r,p,clock,a,b,d,j⟩:=h;exact⟨r,p,clock,hI _ a,(hs _ a).trans b,cA.mono o _ d,j⟩
 | .func f first ib,cs,h=>by
  simp only[aC]at h⊢;obtain⟨z,s,a,b,d⟩:=h;exact⟨z,s,bw.mono first z a,bw.mono ib s b,d⟩
 | .st u fs,cs,h=>by
  simp only[aC]at h⊢;obtain⟨l,g,a,b,d⟩:=h;exact⟨l,g,a,bd.mono l fs g b,d⟩
theorem bw.mono:∀(vs:List PV)(q:List a5),bw P w ad vs q->bw P w' aF vs q
 |[],_,h=>by simpa[bw]using h
 |v::vs,q,h=>by
  simp only[bw]at h⊢;obtain⟨y,A,a,b,d⟩:=h;exact⟨y,A,a,aC.mono v y b,bw.mono vs A d⟩
theorem cA.mono:∀(o:List (PV×PV))(p:List bl),cA P w ad o p->cA P w' aF o p
 |[],_,h=>by simpa[cA]using h
 |(k,v)::r,p,h=>by
  simp only[cA]at h⊢;obtain⟨e,rest,a,b,d,j⟩:=h;exact⟨e,rest,a,aC.mono k _ b,aC.mono v _ d,cA.mono r rest j⟩
end
theorem mY.mono(h:mY P w ad):mY P w' aF:=⟨fun g=>aC.mono hI hs _ _ (h.val g),fun g cs c=>by
 obtain⟨a,T,b⟩:=h.raw g cs c;exact⟨hI _ a,T,(hs _ a).trans b⟩⟩
variable{β aI:Bd}{H H':Heap}(aK:cj β H aI H')
include aK
omit hI hs in
theorem bR.mono:∀(v:AV)(x:a5),aD (aH H) v->bR P β H v x->bR P aI H' v x
 | .ptr b path,x,d,h=>by
  simp only[bR,aD]at*;obtain⟨al,off,o,c,f,g⟩:=h;refine⟨al,off,o,c,f,fun a=>?_⟩;rcases a with a|a
  ·obtain⟨k1,k2⟩:=aK.box b d a;rw[k2];exact g (.inl k1)
  ·obtain⟨k1,k2⟩:=aK.it b d a;rw[k2];exact g (.inr k1)
 | .b7 b aw aj i path,x,d,h=>by
  simp only[bR,aD]at*;obtain⟨al,off,o,g1,g2,g3⟩:=h;refine⟨al,off,o,g1,g2,fun k l a e=>?_⟩;obtain⟨k0,gD,c,f,g,j⟩:=aK.arr b aw aj k l d a;rw[(j e).1];exact g3 k0 gD c (fun m=>e (g.2 m))
 | .sl b aw aj off len,x,d,h=>by
  simp only[bR,aD]at*;intro k l a;obtain⟨k0,gD,c,f,g,j⟩:=aK.arr b aw aj k l d a;obtain⟨r,n,q⟩:=h k0 gD c;refine⟨by omega,fun e=>n (g.1 e),fun e=>?_⟩;rw[(j e).1,(j e).2];exact q (fun m=>e (g.2 m))
 | .map b,x,d,h=>by
  simp only[bR,aD]at*;refine⟨fun a=>?_,fun a=>?_⟩
  ·obtain⟨c,f⟩:=aK.map b d a;rw[f];exact h.1 c
  ·obtain⟨c,f⟩:=aK.loop b d a;rw[f];exact h.2 c
 | .p _,_,_,h| .st _ _,_,_,h| .func _ _ _,_,_,h| .aE _,_,_,h=>by simp[bR]at h
omit hI hs in
theorem bN.mono(v:AV)(x:a5)(a:aD (aH H) v)(h:bN P β H v x):bN P aI H' v x:=⟨h.1,bR.mono aK v x a h.2⟩
mutual
theorem bp.mono:∀(v:AV)(cs:List a5),aD (aH H) v->bp P w ad β H v cs->bp P w' aF aI H' v cs
 | .p t,cs,_,h=>by simp only[bp]at h⊢;exact aS.mono hI hs t cs h
 | .st u fs,cs,a,h=>by
  simp only[bp,aD]at*;obtain⟨l,j,d,e,g⟩:=h;exact⟨l,j,d,bM.mono l fs j a e,g⟩
 | .func f first ib,cs,a,h=>by
  simp only[bp,aD]at*;obtain⟨m,k,d,e,g⟩:=h;exact⟨m,k,bB.mono first m a.1 d,bB.mono ib k a.2 e,g⟩
 | .aE _,_,_,h=>by simp[bp]at h
 | .ptr b path,cs,a,h=>by
  simp only[bp]at*;obtain⟨v,d,e⟩:=h;exact⟨v,d,bN.mono aK _ _ a e⟩
 | .b7 b aw aj i path,cs,a,h=>by
  simp only[bp]at*;obtain⟨v,d,e⟩:=h;exact⟨v,d,bN.mono aK _ _ a e⟩
 | .sl b aw aj off len,cs,a,h=>by
  simp only[bp]at*;obtain⟨v,d,e⟩:=h;exact⟨v,d,bN.mono aK _ _ a e⟩
 | .map b,cs,a,h=>by
  simp only[bp]at*;obtain⟨v,d,e⟩:=h;exact⟨v,d,bN.mono aK _ _ a e⟩
theorem bM.mono:∀(l:List Nat)(vs:List AV)(j:List (List a5)),aV (aH H) vs->bM P w ad β H l vs j->bM P w' aF aI H' l vs j
 |[],[],_,_,h=>by simpa[bM]using h
 |[],_::_,_,_,h=>by simp[bM]at h
 |_::_,[],_,_,h=>by simp[bM]at h
 |n::r,v::vs,j,a,h=>by
  simp only[bM,aV]at*;obtain⟨c,cs,d,e,g,q⟩:=h;exact⟨c,cs,d,bp.mono v c a.1 e,g,bM.mono r vs cs a.2 q⟩
theorem az.mono:∀(v:AV)(x:a5),aD (aH H) v->az P w ad β H v x->az P w' aF aI H' v x
 | .p t,cs,_,h=>by simp only[az]at h⊢;exact aC.mono hI hs t cs h
 | .st u fs,cs,a,h=>by
  simp only[az,aD]at*;obtain⟨l,j,d,e,g⟩:=h;exact⟨l,j,d,bM.mono l fs j a e,g⟩
 | .func f first ib,cs,a,h=>by
  simp only[az,aD]at*;obtain⟨m,k,d,e,g⟩:=h;exact⟨m,k,bB.mono first m a.1 d,bB.mono ib k a.2 e,g⟩
 | .aE vs,cs,a,h=>by
  simp only[az,aD]at*;obtain⟨xs,d,e⟩:=h;exact⟨xs,bB.mono vs xs a d,e⟩
 | .ptr b path,cs,a,h=>by simp only[az]at*;exact bN.mono aK _ _ a h
 | .b7 b aw aj i path,cs,a,h=>by simp only[az]at*;exact bN.mono aK _ _ a h
 | .sl b aw aj off len,cs,a,h=>by simp only[az]at*;exact bN.mono aK _ _ a h
 | .map b,cs,a,h=>by simp only[az]at*;exact bN.mono aK _ _ a h
theorem bB.mono:∀(vs:List AV)(xs:List a5),aV (aH H) vs->bB P w ad β H vs xs->bB P w' aF aI H' vs xs
 |[],_,_,h=>by simpa[bB]using h
 |v::vs,xs,a,h=>by
  simp only[bB,aV]at*;obtain⟨y,o,d,e,g⟩:=h;exact⟨y,o,d,az.mono v y a.1 e,bB.mono vs o a.2 g⟩
end
end mono
def eU:List AV->Option (List PV)
 |[]=>some []
 | .p v::r=>match eU r with
  |some l=>some (v::l)
  |none=>none
 |_::_=>none
def gW(u:a1)(fs:List AV):AV:=
 match eU fs with
 |some l=>.p (.st u l)
 |none=>.st u fs
def kY:PV->List (a1×Nat)->Option PV
 |t,[]=>some t
 |t,(u,i)::r=>if aM t=.agg u then(match(cH t)[i]? with
  |some f=>kY f r
  |none=>none)else none
def eZ:AV->List (a1×Nat)->Option AV
 |t,[]=>some t
 | .p t,(u,i)::r=>match kY t ((u,i)::r)with
  |some s=>some (.p s)
  |none=>none
 | .st u' fs,(u,i)::r=>if u'=u then(match fs[i]? with
  |some f=>eZ f r
  |none=>none)else none
 |_,_=>none
def fQ(t:AV)(b:List (a1×Nat))(x:AV):Option AV:=
 match b with
 |[]=>some x
 |(u,i)::r=>
  match t with
  | .p t=>if aM t=.agg u then(match(cH t)[i]? with
   |some f=>(match fQ (.p f) r x with
    |some a=>some (gW u (((cH t).map .p).set i a))
    |none=>none)
   |none=>none)else none
  | .st u' fs=>if u'=u then(match fs[i]? with
   |some f=>(match fQ f r x with
    |some a=>some (gW u (fs.set i a))
    |none=>none)
   |none=>none)else none
  |_=>none
section
variable{P:a0}{w:a7}{ad:Nat->Prop}{β:Bd}{H:Heap}
theorem wE:∀{l:List Nat}{vs:List PV}{a:List (List a5)},bd P w ad l vs a->a.map (·.length)=l/\vs.length=l.length/\a.length=l.length
 |[],[],_,h=>by simp[bd]at h;subst h;simp
 |[],_::_,_,h=>by simp[bd]at h
 |_::_,[],_,h=>by simp[bd]at h
 |n::f,v::vs,a,h=>by
  simp only[bd]at h;obtain⟨c,cs,rfl,e,b,d⟩:=h;have:=wE d;simp[b,this]
theorem zf:∀{l:List Nat}{vs:List AV}{a:List (List a5)},bM P w ad β H l vs a->a.map (·.length)=l/\vs.length=l.length/\a.length=l.length
 |[],[],_,h=>by simp[bM]at h;subst h;simp
 |[],_::_,_,h=>by simp[bM]at h
 |_::_,[],_,h=>by simp[bM]at h
 |n::f,v::vs,a,h=>by
  simp only[bM]at h;obtain⟨c,cs,rfl,e,b,d⟩:=h;have:=zf d;simp[b,this]
theorem MK{u:a1}{l:List Nat}(h:dO P u=some l):l.sum=P.cellsOf u/\∀n∈l,0<n:=by
 unfold dO at h
 split at h
 ·dsimp only at h
  split at h
  ·rename_i hc;simp at hc;obtain⟨⟨b,c⟩,d⟩:=hc;simp at h;subst h;refine⟨c,?_⟩;intro n a;simp at a;obtain⟨f,hf,rfl⟩:=a;obtain⟨i,hi,rfl⟩:=Array.mem_iff_getElem.1 hf;exact b i hi
  ·simp at h
 ·split at h
  ·rename_i hc;simp at hc;simp at h;subst h;refine⟨by simp[List.sum_replicate_nat,hc.2],?_⟩;intro n a;have:=List.eq_of_mem_replicate a;omega
  ·simp at h
 ·simp at h
theorem nV:∀{v:PV}{cs:List a5},aS P w ad v cs->cs.length=bJ P (aM v)/\aM v≠.bad:=by
 intro v cs h;cases v<;>simp only[aS]at h
 case st u fs=>
  obtain⟨l,c,a,b,rfl⟩:=h;have:=wE b;simp[aM,bJ,this.1,(MK a).1]
 case str=>obtain⟨_,h,_⟩:=h;subst h;simp[aM,bJ]
 case seq=>
  rcases h with⟨_,rfl⟩|⟨_,_,_,_,_,_,_,_,_,_,_,rfl⟩<;>simp[aM,bJ]
 all_goals first
  |(subst h;simp[aM,bJ])
  |(obtain⟨_,_,_,_,_,_,rfl⟩:=h;simp[aM,bJ])
  |(obtain⟨_,_,_,_,_,rfl⟩:=h;simp[aM,bJ])
  |(obtain⟨_,_,_,_,_,_,_,_,_,_,_,_,rfl⟩:=h;simp[aM,bJ])
  |(obtain⟨_,_,_,_,_,_,_,rfl⟩:=h;simp[aM,bJ])
  |(obtain⟨_,_,_,_,rfl⟩:=h;simp[aM,bJ])
  |(obtain⟨_,h,_⟩:=h;subst h;simp[aM,bJ])
  |exact h.elim
theorem nZ{v:AV}{cs:List a5}(h:bp P w ad β H v cs):cs.length=bJ P (aa v)/\aa v≠.bad:=by
 cases v<;>simp only[bp]at h
 case p t=>exact nV h
 case st u fs=>
  obtain⟨l,c,a,b,rfl⟩:=h;have:=zf b;simp[aa,bJ,this.1,(MK a).1]
 all_goals first
  |(obtain⟨_,rfl,_⟩:=h;simp[aa,bJ])
  |(obtain⟨_,_,_,_,rfl⟩:=h;simp[aa,bJ])
theorem uk{v:PV}(hs:aM v=.leaf)(cs:List a5):aS P w ad v cs↔∃c,cs=[c]/\aC P w ad v c:=by
 cases v<;>simp[aM]at hs<;>simp only[aS,aC]
 case bool|int|dJ|aW|fC|ig|fV=>exact⟨fun h=>⟨_,h,rfl⟩,fun⟨c,g,i⟩=>by rw[g,i]⟩
 case str s=>exact⟨fun⟨bs,g,i⟩=>⟨_,g,bs,rfl,i⟩,fun⟨c,g,bs,i,j⟩=>⟨bs,by rw[g,i],j⟩⟩
 case cw t=>exact⟨fun⟨a,b,c,g,i,j,k⟩=>⟨_,k,a,b,c,g,i,j,rfl⟩,fun⟨v,g,a,b,c,i,j,k,l⟩=>⟨a,b,c,i,j,k,by rw[g,l]⟩⟩
 case bP f es=>exact⟨fun⟨a,b,c,d,e,g,i,j,k,l,sp,n,m⟩=>⟨_,m,a,b,c,d,e,g,i,j,k,l,sp,n,rfl⟩,fun⟨v,h,a,b,c,d,e,g,i,j,k,l,sp,n,m⟩=>⟨a,b,c,d,e,g,i,j,k,l,sp,n,by rw[h,m]⟩⟩
 case seq es=>
  constructor
  ·rintro(⟨g,i⟩|⟨a,b,c,d,e,g,i,j,l,sp,n,m⟩)
   ·exact⟨_,i,.inl ⟨g,rfl⟩⟩
   ·exact⟨_,m,.inr ⟨a,b,c,d,e,g,i,j,l,sp,n,rfl⟩⟩
  ·rintro⟨v,h,(⟨g,i⟩|⟨a,b,c,d,e,g,i,j,l,sp,n,m⟩)⟩
   ·exact .inl ⟨g,by rw[h,i]⟩
   ·exact .inr ⟨a,b,c,d,e,g,i,j,l,sp,n,by rw[h,m]⟩
 case fg es=>exact⟨fun⟨a,b,c,g,i,j,k⟩=>⟨_,k,a,b,c,g,i,j,rfl⟩,fun⟨v,h,a,b,c,g,i,j,k⟩=>⟨a,b,c,g,i,j,by rw[h,k]⟩⟩
 case func f x y=>exact⟨fun⟨a,b,g,i,j⟩=>⟨_,j,a,b,g,i,rfl⟩,fun⟨v,h,a,b,g,i,j⟩=>⟨a,b,g,i,by rw[h,j]⟩⟩
theorem xy{v:PV}{u:a1}(hs:aM v=.agg u)(cs:List a5):aS P w ad v cs↔aC P w ad v (.agg cs.toArray):=by
 cases v<;>simp[aM]at hs;subst hs;simp only[aS,aC];constructor
 ·rintro⟨l,a,b,c,rfl⟩;exact⟨l,a,b,c,rfl⟩
 ·rintro⟨l,a,b,c,d⟩;refine⟨l,a,b,c,?_⟩;injection d with d;simpa using congrArg ay d
theorem Du{v:AV}(hs:aa v=.leaf)(cs:List a5):bp P w ad β H v cs↔∃c,cs=[c]/\az P w ad β H v c:=by
 cases v<;>simp[aa]at hs<;>simp only[bp,az]
 case p t=>exact uk hs cs
 case func f x y=>exact⟨fun⟨a,b,d,e,g⟩=>⟨_,g,a,b,d,e,rfl⟩,fun⟨v,h,a,b,d,e,g⟩=>⟨a,b,d,e,by rw[h,g]⟩⟩
theorem NQ{v:AV}{u:a1}(hs:aa v=.agg u)(cs:List a5):bp P w ad β H v cs↔az P w ad β H v (.agg cs.toArray):=by
 cases v<;>simp[aa]at hs
 case p t=>simp only[bp,az];exact xy hs cs
 case st u' fs=>
  subst hs;simp only[bp,az];constructor
  ·rintro⟨l,a,b,c,rfl⟩;exact⟨l,a,b,c,rfl⟩
  ·rintro⟨l,a,b,c,d⟩;refine⟨l,a,b,c,?_⟩;injection d with d;simpa using congrArg ay d
theorem zB{v:AV}{x:a5}(h:az P w ad β H v x)(hs:aa v≠.bad):bp P w ad β H v x.cells.toList:=by
 cases a:aa v with
 |bad=>exact absurd a hs
 |leaf=>
  rw[Du a];refine⟨x,?_,h⟩;cases v<;>simp[aa]at a<;>simp only[az]at h
  case p t=>
   cases t<;>simp[aM]at a<;>simp only[aC]at h
   case bool|int|dJ|aW|fC|ig|fV=>subst h;rfl
   case str=>obtain⟨_,rfl,_⟩:=h;rfl
   case cw=>obtain⟨_,_,_,_,_,_,rfl⟩:=h;rfl
   case bP=>obtain⟨_,_,_,_,_,_,_,_,_,_,_,_,rfl⟩:=h;rfl
   case seq=>rcases h with⟨_,rfl⟩|⟨_,_,_,_,_,_,_,_,_,_,_,rfl⟩<;>rfl
   case fg=>obtain⟨_,_,_,_,_,_,rfl⟩:=h;rfl
   case func=>obtain⟨_,_,_,_,rfl⟩:=h;rfl
  case func=>obtain⟨_,_,_,_,rfl⟩:=h;rfl
  all_goals (have b:=h.1;cases x<;>first|rfl|(simp[Value.oneCell']at b))
 |agg u=>
  cases v<;>simp[aa]at a
  case p t=>
   cases t<;>simp[aM]at a;simp only[az,aC]at h;obtain⟨l,c,b,d,rfl⟩:=h;simp only[bp,aS];exact⟨l,c,b,d,by simp[Value.cells]⟩
  case st u' fs=>
   simp only[az]at h;obtain⟨l,c,b,d,rfl⟩:=h;simp only[bp];exact⟨l,c,b,d,by simp[Value.cells]⟩
end
mutual
def Wk:PV->PV->Prop
 | .undef,v=>v=.undef
 | .bool b,v=>v=.bool b
 | .int k n,v=>v=.int k n
 | .str s,v=>v=.str s
 | .dJ,v=>v=.dJ
 | .fC,v=>v=.fC
 | .ig,v=>v=.ig
 | .fV,v=>v=.fV
 | .aW,v=>v=.aW\/v=.seq []
 | .cw t,v=>match v with
  | .cw h=>Wk t h
  |_=>False
 | .bP f es,v=>match v with
  | .bP g fs=>(g=true->f=true)/\bG es fs
  | .seq fs=>bG es fs
  |_=>False
 | .seq es,v=>match v with
  | .seq fs=>bG es fs
  |_=>False
 | .fg es,v=>match v with
  | .fg fs=>ld es fs
  |_=>False
 | .func f a b,v=>match v with
  | .func g c d=>f=g/\bG a c/\bG b d
  |_=>False
 | .st u es,v=>match v with
  | .st u' fs=>u=u'/\bG es fs
  |_=>False
 | .aE es,v=>match v with
  | .aE fs=>bG es fs
  |_=>False
def bG:List PV->List PV->Prop
 |[],fs=>fs=[]
 |v::vs,fs=>match fs with
  |f::fs=>Wk v f/\bG vs fs
  |[]=>False
def ld:List (PV×PV)->List (PV×PV)->Prop
 |[],fs=>fs=[]
 |(k,v)::vs,fs=>match fs with
  |(e,f)::fs=>k=e/\Wk v f/\ld vs fs
  |[]=>False
end
mutual
theorem Wk.refl:∀v,Wk v v
 | .undef| .bool _| .int _ _| .str _| .dJ| .fC| .ig| .fV=>by simp[Wk]
 | .aW=>by simp[Wk]
 | .cw t=>by simp only[Wk];exact Wk.refl t
 | .bP f c=>by simp only[Wk];exact⟨id,bG.refl c⟩
 | .seq c=>by simp only[Wk];exact bG.refl c
 | .fg c=>by simp only[Wk];exact ld.refl c
 | .func f a b=>by simp only[Wk];exact⟨trivial,bG.refl a,bG.refl b⟩
 | .st u c=>by simp only[Wk];exact⟨trivial,bG.refl c⟩
 | .aE c=>by simp only[Wk];exact bG.refl c
theorem bG.refl:∀vs,bG vs vs
 |[]=>by simp[bG]
 |v::vs=>by simp only[bG];exact⟨Wk.refl v,bG.refl vs⟩
theorem ld.refl:∀c,ld c c
 |[]=>by simp[ld]
 |(k,v)::vs=>by simp only[ld];exact⟨trivial,Wk.refl v,ld.refl vs⟩
end
theorem bG.length:∀{es fs:List PV},bG es fs->fs.length=es.length
 |[],fs,h=>by simp only[bG]at h;subst h;rfl
 |v::vs,fs,h=>by
  cases fs with
  |nil=>simp[bG]at h
  |cons f fs=>simp only[bG]at h;simp[bG.length h.2]
theorem bG.qm{a fs:List PV}(h:bG a fs):fs=[]↔a=[]:=by
 have:=h.length;rw[<-da,<-da,this]
theorem Wk.aM:∀{v v':PV},Wk v v'->ag.aM v'=ag.aM v
 | .undef,v',h| .bool _,v',h| .int _ _,v',h| .str _,v',h| .dJ,v',h| .fC,v',h| .ig,v',h| .fV,v',h=>by simp only[Wk]at h;subst h;rfl
 | .aW,v',h=>by simp only[Wk]at h;rcases h with rfl|rfl<;>rfl
 | .cw _,v',h| .bP _ _,v',h| .seq _,v',h| .fg _,v',h| .func _ _ _,v',h| .aE _,v',h=>by cases v'<;>simp only[Wk]at h<;>rfl
 | .st _ _,v',h=>by
  cases v'<;>simp only[Wk]at h;simp[ag.aM,h.1]
section
variable{P:a0}{w:a7}{ad:Nat->Prop}
mutual
theorem aS.c8:∀(v v':PV)(cs:List a5),Wk v v'->aS P w ad v cs->aS P w ad v' cs
 | .undef,v',cs,h,hc| .bool _,v',cs,h,hc| .int _ _,v',cs,h,hc| .str _,v',cs,h,hc| .dJ,v',cs,h,hc| .fC,v',cs,h,hc| .ig,v',cs,h,hc| .fV,v',cs,h,hc=>by simp only[Wk]at h;subst h;exact hc
 | .aW,v',cs,h,hc=>by
  simp only[Wk]at h;rcases h with rfl|rfl
  ·exact hc
  ·simp only[aS]at hc⊢;exact .inl ⟨trivial,hc⟩
 | .cw t,v',cs,h,hc=>by
  cases v'<;>simp only[Wk]at h;simp only[aS]at hc⊢;obtain⟨al,off,ts,d,i⟩:=hc;exact⟨al,off,ts,aS.c8 _ _ _ h d,i⟩
 | .bP f o,v',cs,h,hc=>by
  cases v' with
  |bP g fs=>
   simp only[Wk]at h;simp only[aS]at hc⊢;obtain⟨al,off,cap,aj,m,d,i,j,p,q,s⟩:=hc;have z:=h.2.length;rw[z];exact⟨al,off,cap,aj,m,bd.c8 _ _ _ _ h.2 d,fun A=>i (fun e=>A (h.2.qm.2 e)),j,fun e=>p (h.1 e),q,s⟩
  |seq fs=>
   simp only[Wk]at h;simp only[aS]at hc⊢;obtain⟨al,off,cap,aj,m,d,i,j,p,q,s⟩:=hc;have z:=h.length;rw[z];exact .inr ⟨al,off,cap,aj,m,bd.c8 _ _ _ _ h d,fun A=>i (fun e=>A (h.qm.2 e)),j,q,s⟩
  |_=>simp only[Wk]at h
 | .seq o,v',cs,h,hc=>by
  cases v'<;>simp only[Wk]at h;simp only[aS]at hc⊢;rcases hc with⟨d,i⟩|⟨al,off,cap,aj,m,d,i,j,q,s⟩
  ·exact .inl ⟨h.qm.2 d,i⟩
  ·have z:=h.length;rw[z];exact .inr ⟨al,off,cap,aj,m,bd.c8 _ _ _ _ h d,fun A=>i (fun e=>A (h.qm.2 e)),j,q,s⟩
 | .fg o,v',cs,h,hc=>by
  cases v'<;>simp only[Wk]at h;simp only[aS]at hc⊢;obtain⟨r,C,clock,d,i,j,p⟩:=hc;exact⟨r,C,clock,d,i,cA.c8 _ _ _ h j,p⟩
 | .func f a b,v',cs,h,hc=>by
  cases v'<;>simp only[Wk]at h;obtain⟨rfl,F,G⟩:=h;simp only[aS]at hc⊢;obtain⟨E,D,d,i,j⟩:=hc;exact⟨E,D,bw.c8 _ _ _ F d,bw.c8 _ _ _ G i,j⟩
 | .st u o,v',cs,h,hc=>by
  cases v'<;>simp only[Wk]at h;obtain⟨rfl,h⟩:=h;simp only[aS]at hc⊢;obtain⟨l,m,d,i,j⟩:=hc;exact⟨l,m,d,bd.c8 _ _ _ _ h i,j⟩
 | .aE o,v',cs,h,hc=>by simp[aS]at hc
theorem bd.c8:∀(l:List Nat)(o fs:List PV)(m:List (List a5)),bG o fs->bd P w ad l o m->bd P w ad l fs m
 |l,[],fs,m,h,hc=>by simp only[bG]at h;subst h;exact hc
 |l,v::vs,fs,m,h,hc=>by
  cases fs with
  |nil=>simp[bG]at h
  |cons f fs=>
   simp only[bG]at h;cases l with
   |nil=>simp[bd]at hc
   |cons n l=>
    simp only[bd]at hc⊢;obtain⟨c,cs,d,i,j,p⟩:=hc;exact⟨c,cs,d,aS.c8 _ _ _ h.1 i,j,bd.c8 _ _ _ _ h.2 p⟩
theorem aC.c8:∀(v v':PV)(x:a5),Wk v v'->aC P w ad v x->aC P w ad v' x
 | .undef,v',cs,h,hc| .bool _,v',cs,h,hc| .int _ _,v',cs,h,hc| .str _,v',cs,h,hc| .dJ,v',cs,h,hc| .fC,v',cs,h,hc| .ig,v',cs,h,hc| .fV,v',cs,h,hc=>by simp only[Wk]at h;subst h;exact hc
 | .aW,v',cs,h,hc=>by
  simp only[Wk]at h;rcases h with rfl|rfl
  ·exact hc
  ·simp only[aC]at hc⊢;exact .inl ⟨trivial,hc⟩
 | .cw t,v',cs,h,hc=>by
  cases v'<;>simp only[Wk]at h;simp only[aC]at hc⊢;obtain⟨al,off,ts,d,i⟩:=hc;exact⟨al,off,ts,aS.c8 _ _ _ h d,i⟩
 | .bP f o,v',cs,h,hc=>by
  cases v' with
  |bP g fs=>
   simp only[Wk]at h;simp only[aC]at hc⊢;obtain⟨al,off,cap,aj,m,d,i,j,p,q,s⟩:=hc;have z:=h.2.length;rw[z];exact⟨al,off,cap,aj,m,bd.c8 _ _ _ _ h.2 d,fun A=>i (fun e=>A (h.2.qm.2 e)),j,fun e=>p (h.1 e),q,s⟩
  |seq fs=>
   simp only[Wk]at h;simp only[aC]at hc⊢;obtain⟨al,off,cap,aj,m,d,i,j,p,q,s⟩:=hc;have z:=h.length;rw[z];exact .inr ⟨al,off,cap,aj,m,bd.c8 _ _ _ _ h d,fun A=>i (fun e=>A (h.qm.2 e)),j,q,s⟩
  |_=>simp only[Wk]at h
 | .seq o,v',cs,h,hc=>by
  cases v'<;>simp only[Wk]at h;simp only[aC]at hc⊢;rcases hc with⟨d,i⟩|⟨al,off,cap,aj,m,d,i,j,q,s⟩
  ·exact .inl ⟨h.qm.2 d,i⟩
  ·have z:=h.length;rw[z];exact .inr ⟨al,off,cap,aj,m,bd.c8 _ _ _ _ h d,fun A=>i (fun e=>A (h.qm.2 e)),j,q,s⟩
 | .fg o,v',cs,h,hc=>by
  cases v'<;>simp only[Wk]at h;simp only[aC]at hc⊢;obtain⟨r,C,clock,d,i,j,p⟩:=hc;exact⟨r,C,clock,d,i,cA.c8 _ _ _ h j,p⟩
 | .func f a b,v',cs,h,hc=>by
  cases v'<;>simp only[Wk]at h;obtain⟨rfl,F,G⟩:=h;simp only[aC]at hc⊢;obtain⟨E,D,d,i,j⟩:=hc;exact⟨E,D,bw.c8 _ _ _ F d,bw.c8 _ _ _ G i,j⟩
 | .st u o,v',cs,h,hc=>by
  cases v'<;>simp only[Wk]at h;obtain⟨rfl,h⟩:=h;simp only[aC]at hc⊢;obtain⟨l,m,d,i,j⟩:=hc;exact⟨l,m,d,bd.c8 _ _ _ _ h i,j⟩
 | .aE o,v',cs,h,hc=>by
  cases v'<;>simp only[Wk]at h;simp only[aC]at hc⊢;obtain⟨B,d,i⟩:=hc;exact⟨B,bw.c8 _ _ _ h d,i⟩
theorem bw.c8:∀(o fs:List PV)(B:List a5),bG o fs->bw P w ad o B->bw P w ad fs B
 |[],fs,B,h,hc=>by simp only[bG]at h;subst h;exact hc
 |v::vs,fs,B,h,hc=>by
  cases fs with
  |nil=>simp[bG]at h
  |cons f fs=>
   simp only[bG]at h;simp only[bw]at hc⊢;obtain⟨y,H,d,i,j⟩:=hc;exact⟨y,H,d,aC.c8 _ _ _ h.1 i,bw.c8 _ _ _ h.2 j⟩
theorem cA.c8:∀(o fs:List (PV×PV))(C:List bl),ld o fs->cA P w ad o C->cA P w ad fs C
 |[],fs,B,h,hc=>by simp only[ld]at h;subst h;exact hc
 |(k,v)::vs,fs,B,h,hc=>by
  cases fs with
  |nil=>simp[ld]at h
  |cons f fs=>
   simp only[ld]at h;obtain⟨rfl,d,i⟩:=h;simp only[cA]at hc⊢;obtain⟨e,rest,e1,e2,e3,e4⟩:=hc;exact⟨e,rest,e1,e2,aC.c8 _ _ _ d e3,cA.c8 _ _ _ i e4⟩
end
end
section
variable{P:a0}{w:a7}{ad:Nat->Prop}{β:Bd}{H:Heap}
theorem me:∀{fs:List AV}{l:List PV},eU fs=some l->fs=l.map .p
 |[],l,h=>by simp[eU]at h;subst h;rfl
 | .p v::r,l,h=>by
  simp only[eU]at h;cases a:eU r with
  |none=>simp[a]at h
  |some b=>simp[a]at h;subst h;simp[me a]
 | .ptr ..::_,_,h| .b7 ..::_,_,h| .sl ..::_,_,h| .map ..::_,_,h| .func ..::_,_,h| .st ..::_,_,h| .aE ..::_,_,h=>by simp[eU]at h
theorem nY:∀{l:List Nat}{fs:List PV}{a:List (List a5)},bM P w ad β H l (fs.map .p) a↔bd P w ad l fs a
 |[],[],_=>by simp[bM,bd]
 |[],_::_,_=>by simp[bM,bd]
 |_::_,[],_=>by simp[bM,bd]
 |n::g,v::vs,a=>by
  simp only[cy,bM,bd,bp];constructor
  ·rintro⟨c,cs,b,d,e,f⟩;exact⟨c,cs,b,d,e,nY.1 f⟩
  ·rintro⟨c,cs,b,d,e,f⟩;exact⟨c,cs,b,d,e,nY.2 f⟩
theorem jw:∀{fs:List PV}{d:List a5},bB P w ad β H (fs.map .p) d↔bw P w ad fs d
 |[],_=>by simp[bB,bw]
 |v::vs,d=>by
  simp only[cy,bB,bw,az];constructor
  ·rintro⟨y,e,a,b,c⟩;exact⟨y,e,a,b,jw.1 c⟩
  ·rintro⟨y,e,a,b,c⟩;exact⟨y,e,a,b,jw.2 c⟩
theorem MB{u:a1}{fs:List AV}{cs:List a5}:bp P w ad β H (gW u fs) cs↔bp P w ad β H (.st u fs) cs:=by
 unfold gW;cases h:eU fs with
 |none=>rfl
 |some l=>have:=me h;subst this;simp[bp,aS,nY]
theorem Yy{u:a1}{fs:List AV}{x:a5}:az P w ad β H (gW u fs) x↔az P w ad β H (.st u fs) x:=by
 unfold gW;cases h:eU fs with
 |none=>rfl
 |some l=>have:=me h;subst this;simp[az,aC,nY]
theorem jb(n:Nat×Nat->Prop):∀l:List PV,aV n (l.map .p)
 |[]=>by simp[aV]
 |v::l=>by simp only[cy,aV,aD,true_and];exact jb n l
theorem Cs{n:Nat×Nat->Prop}{u:a1}{fs:List AV}(h:aV n fs):aD n (gW u fs):=by
 unfold gW;cases eU fs with
 |none=>exact h
 |some l=>simp[aD]
theorem cJ{n:Nat×Nat->Prop}:∀{fs:List AV},aV n fs↔∀v∈fs,aD n v
 |[]=>by simp[aV]
 |v::vs=>by simp[aV,cJ (fs:=vs)]
theorem uy:∀{l:List Nat}{fs:List AV}{d:List (List a5)}{i:Nat}{f:AV},bM P w ad β H l fs d->fs[i]?=some f->
 ∃pre c post,d.flatten=pre++c++post/\pre.length=(l.take i).sum/\i<l.length/\l[i]?=some c.length/\bp P w ad β H f c/\
  ∀b c',bp P w ad β H b c'->c'.length=c.length->∃a,a.flatten=pre++c'++post/\bM P w ad β H l (fs.set i b) a
 |[],[],_,i,f,_,hf=>by simp at hf
 |[],_::_,_,_,_,h,_=>by simp[bM]at h
 |_::_,[],_,_,_,h,_=>by simp[bM]at h
 |n::m,v::vs,d,0,f,h,hf=>by
  simp only[bM]at h;obtain⟨c,cs,rfl,g,e,j⟩:=h;simp at hf;subst hf;refine⟨[],c,cs.flatten,by simp,by simp,by simp,by simp[e],g,?_⟩;intro b c' hc k;exact⟨c'::cs,by simp,by simp only[dl,bM];exact⟨c',cs,rfl,hc,by omega,j⟩⟩
 |n::m,v::vs,d,i+1,f,h,hf=>by
  simp only[bM]at h;obtain⟨c,cs,rfl,g,e,j⟩:=h;simp at hf;obtain⟨pre,x,post,k1,k2,k3,k4,k5,k6⟩:=uy j hf;refine⟨c++pre,x,post,by simp[k1],by simp[k2,e],by simpa using k3,by simpa using k4,k5,?_⟩;intro b c' hc k;obtain⟨a,e1,e2⟩:=k6 b c' hc k;exact⟨c::a,by simp[e1],by simp only[List.set_cons_succ,bM];exact⟨c,a,rfl,g,e,e2⟩⟩
theorem Lw{t:AV}{u:a1}{cs:List a5}(hs:aa t= .agg u)(h:bp P w ad β H t cs):
 ∃l fs a,dO P u=some l/\bM P w ad β H l fs a/\cs=a.flatten/\(∀c,t=.p c->fs=(cH c).map .p)/\(∀u' g,t=.st u' g->fs=g/\u'=u):=by
 cases t<;>simp[aa]at hs
 case p t=>
  cases t<;>simp[aM]at hs;subst hs;simp only[bp,aS]at h;obtain⟨l,a,d,e,f⟩:=h;exact⟨l,_,a,d,nY.2 e,f,fun c b=>by cases b;rfl,fun _ _ h=>by cases h⟩
 case st u' fs=>
  subst hs;simp only[bp]at h;obtain⟨l,a,d,e,f⟩:=h;exact⟨l,fs,a,d,e,f,(fun c b=>by cases b),(fun j i b=>by cases b;exact⟨rfl,rfl⟩)⟩
theorem AB{t:PV}{a:List (a1×Nat)}:eZ (.p t) a=(kY t a).map .p:=by
 cases a with
 |nil=>rfl
 |cons x r=>obtain⟨u,i⟩:=x;simp only[eZ];cases kY t ((u,i)::r)<;>rfl
theorem ql:∀{z:List (a1×Nat)}{t s:AV}{cs:List a5}{o:Nat},bp P w ad β H t cs->eZ t z=some s->gd P z=some o->
 ∃n q post,cs=n++q++post/\n.length=o/\bp P w ad β H s q/\
  ∀x k a,fQ t z x=some a->bp P w ad β H x k->k.length=q.length->bp P w ad β H a (n++k++post)
 |[],t,s,cs,o,h,hs,d=>by
  simp[gd]at d;subst d;simp[eZ]at hs;subst hs;refine⟨[],cs,[],by simp,by simp,h,?_⟩;intro x k a hx y _;simp[fQ]at hx;subst hx;simpa using y
 |(u,i)::r,t,s,cs,o,h,hs,d=>by
  simp only[gd]at d;cases m:dO P u with
  |none=>simp[m]at d
  |some l=>
   cases v:gd P r with
   |none=>simp[m,v]at d
   |some o'=>
    simp[m,v]at d;obtain⟨J,rfl⟩:=d
    have key:∃fs f,(∃j e,dO P u=some j/\bM P w ad β H j fs e/\cs=e.flatten)/\fs[i]?=some f/\eZ f r=some s/\
     (∀x a,fQ t ((u,i)::r) x=some a->∃b,fQ f r x=some b/\a=gW u (fs.set i b)):=by
     cases t
     case p t=>
      rw[AB]at hs;simp only[kY]at hs
      by_cases g:aM t=.agg u
      ·simp only[g,if_true]at hs;obtain⟨j,fs,e,k1,k2,k3,k4,_⟩:=Lw (t:=.p t) (by simpa[aa]using g) h;have:=k4 t rfl;subst this;cases hf:(cH t)[i]? with
       |none=>simp[hf]at hs
       |some f=>
        simp only[hf]at hs;refine⟨_,.p f,⟨j,e,k1,k2,k3⟩,by simp[hf],by rw[AB];exact hs,?_⟩;intro x a hx;simp only[fQ,g,if_true,hf]at hx;cases hq:fQ (.p f) r x with
        |none=>simp[hq]at hx
        |some b=>simp[hq]at hx;exact⟨b,rfl,hx.symm⟩
      ·simp[g]at hs
     case st u' fs=>
      simp only[eZ]at hs
      by_cases g:u'=u
      ·subst g;simp only[if_true]at hs;obtain⟨j,D,e,k1,k2,k3,_,k4⟩:=Lw (t:=.st u' fs) rfl h;have:=(k4 _ _ rfl).1;subst this;cases hf:D[i]? with
       |none=>simp[hf]at hs
       |some f=>
        simp only[hf]at hs;refine⟨_,f,⟨j,e,k1,k2,k3⟩,hf,hs,?_⟩;intro x a hx;simp only[fQ,if_true,hf]at hx;cases hq:fQ f r x with
        |none=>simp[hq]at hx
        |some b=>simp[hq]at hx;exact⟨b,rfl,hx.symm⟩
      ·simp[g]at hs
     all_goals simp[eZ]at hs
    obtain⟨fs,f,⟨j,e,k1,k2,k3⟩,hf,F,aJ⟩:=key;rw[m]at k1;cases k1;obtain⟨n,c,post,e1,e2,e3,e4,e5,C⟩:=uy k2 hf;obtain⟨I,q,G,g1,g2,g3,g4⟩:=ql e5 F v;refine⟨n++I,q,G++post,by rw[k3,e1,g1];simp,by simp[e2,g2],g3,?_⟩;intro x k a hx y A;obtain⟨b,E,rfl⟩:=aJ x a hx;have aU:=g4 x k b E y A;obtain⟨B,c1,c2⟩:=C b _ aU (by rw[g1];simp[A]);rw[MB];simp only[bp];exact⟨l,B,m,c2,by rw[c1];simp⟩
theorem zY{path:List (a1×Nat)}{t s:PV}{cs:List a5}{o:Nat}(h:aS P w ad t cs)(hs:kY t path=some s)(f:gd P path=some o):
 ∃a b post,cs=a++b++post/\a.length=o/\aS P w ad s b:=by
 obtain⟨a,b,post,c,d,e,_⟩:=ql (β:=⟨id,id⟩) (H:=[]) (t:=.p t) (s:=.p s) (by simpa[bp]using h) (by rw[AB,hs];rfl) f;exact⟨a,b,post,c,d,by simpa[bp]using e⟩
theorem wZ{n:Nat×Nat->Prop}:∀{a:List (a1×Nat)}{t s:AV},eZ t a=some s->aD n t->aD n s
 |[],t,s,hs,h=>by simp[eZ]at hs;subst hs;exact h
 |(u,i)::r,.p t,s,hs,h=>by
  rw[AB]at hs;cases hq:kY t ((u,i)::r)with
  |none=>simp[hq]at hs
  |some q=>simp[hq]at hs;subst hs;simp[aD]
 |(u,i)::r,.st u' fs,s,hs,h=>by
  simp only[eZ]at hs
  split at hs
  ·split at hs
   ·rename_i f hf;simp only[aD]at h;exact wZ hs (cJ.1 h f (dg hf))
   ·simp at hs
  ·simp at hs
 |_::_,.ptr ..,_,hs,_|_::_,.b7 ..,_,hs,_|_::_,.sl ..,_,hs,_|_::_,.map ..,_,hs,_|_::_,.func ..,_,hs,_|_::_,.aE ..,_,hs,_=>by simp[eZ]at hs
theorem w8{n:Nat×Nat->Prop}:∀{e:List (a1×Nat)}{t b x:AV},fQ t e x=some b->aD n t->aD n x->aD n b
 |[],t,b,x,hs,h,hx=>by simp[fQ]at hs;subst hs;exact hx
 |(u,i)::r,.p t,b,x,hs,h,hx=>by
  simp only[fQ]at hs
  split at hs
  ·split at hs
   ·split at hs
    ·rename_i f hf d c;simp at hs;subst hs;refine Cs (cJ.2 ?_);intro v a;rcases c9 a with a|rfl
     ·exact cJ.1 (jb n _) v a
     ·exact w8 c (by simp[aD]) hx
    ·simp at hs
   ·simp at hs
  ·simp at hs
 |(u,i)::r,.st u' fs,b,x,hs,h,hx=>by
  simp only[fQ]at hs
  split at hs
  ·split at hs
   ·split at hs
    ·rename_i _ f hf _ d c;simp at hs;subst hs;simp only[aD]at h;refine Cs (cJ.2 ?_);intro v a;rcases c9 a with a|rfl
     ·exact cJ.1 h v a
     ·exact w8 c (cJ.1 h f (dg hf)) hx
    ·simp at hs
   ·simp at hs
  ·simp at hs
 |_::_,.ptr ..,_,_,hs,_,_|_::_,.b7 ..,_,_,hs,_,_|_::_,.sl ..,_,_,hs,_,_|_::_,.map ..,_,_,hs,_,_|_::_,.func ..,_,_,hs,_,_|_::_,.aE ..,_,_,hs,_,_=>by simp[fQ]at hs
end
structure aY where
 v:AV
 ak:List (Nat×Obj):=[]
 aJ:List (Nat×Obj):=[]
 aU:List Obj:=[]
def bf(H:Heap)(l:List (Nat×Obj)):Heap:=
 match l with
 |[]=>H
 |(b,o)::r=>bf (H.set b o) r
def put(dst:Option Tmp)(v:AV)(e:Env):Env:=
 match dst with
 |some d=>(d,v)::e
 |none=>e
def aY.app(e:aY)(dst:Option Tmp)(s:St):St:=⟨put dst e.v s.env,bf s.heap e.aJ++e.aU⟩
def ev(e:Env):a9->AV
 | .tmp t=>aN e t
 | .const v=>.p (ofConst v)
 | .global g=>.p (Gl.g g)
 | .func f=>.p (.func f [] [])
def gp(s:List Nat):ByteArray:=⟨(s.map UInt8.ofNat).toArray⟩
mutual
def kJ:PV->PV->Option Bool
 | .bool a,.bool b=>some (a==b)
 | .int k a,.int c b=>if k=c then some (a==b)else none
 | .str a,.str b=>some (a==b)
 | .st u fs,.st u' gs=>if u=u' then yu fs gs else none
 |_,_=>none
def yu:List PV->List PV->Option Bool
 |[],[]=>some true
 |a::as,b::bs=>match kJ a b with
  |some true=>yu as bs
  |some false=>some false
  |none=>none
 |_,_=>none
end
def iX(P:a0)(c:a1->PV->PV->Option Bool):List a1->List PV->List PV->Option Bool
 |[],[],[]=>some true
 |T::d,a::as,b::bs=>
  if kindOf P T=aM a/\kindOf P T=aM b then
   (match c T a b,iX P c d as bs with
   |some r,some s=>some (r&&s)
   |_,_=>none)
  else none
 |_,_,_=>none
def ic(P:a0):Nat->a1->PV->PV->Option Bool
 |0,_,_,_=>none
 |n+1,T,v,v'=>
  match P.underlying T,v,v' with
  |some .bool,.bool a,.bool b=>some (a==b)
  |some (.int _),.int k a,.int d b=>if k=d then some (a==b)else none
  |some .string,.str a,.str b=>some (a==b)
  |some (.struct fs),.st u xs,.st u' c=>
   if kindOf P T= .agg u/\u'=u/\P.stoodInHeld T=false/\fs.toList.all (fun f=>f.name != "_")=true then iX P (ic P n) (fs.toList.map (·.type)) xs c else none
  |some (.array m e),.st u xs,.st u' c=>
   if kindOf P T=.agg u/\u'=u/\(P.info? e).isSome=true then iX P (ic P n) (cc m e) xs c else none
  |_,_,_=>none
def sV(P:a0)(T:a1):Bool:=!P.eqGuardType P.depth T
def rU(P:a0)(T:a1):Bool:=match P.underlying T with|some .bool=>true|_=>false
def aLd(P:a0)(T:a1):Bool:=match P.underlying T with|some (.int _)=>true|_=>false
def il(P:a0)(T:a1):Bool:=match P.underlying T with|some .string=>true|_=>false
inductive vx where|ptr|slice|map|func|iface
 deriving DecidableEq
def mC:a9->Bool
 | .const _=>true
 |_=>false
def dC(P:a0)(T:a1)(c:Bool):AV->Option vx
 | .p .dJ=>match P.underlying T with
  |some (.pointer _)=>some .ptr
  |_=>none
 | .p .aW=>match P.underlying T with
  |some (.slice _)=>some .slice
  |_=>none
 | .p .fC=>match P.underlying T with
  |some (.map _ _)=>some .map
  |_=>none
 | .p .ig=>match P.underlying T with
  |some (.func _ _ _)=>some .func
  |_=>none
 | .p .fV=>match c,P.underlying T with
  |true,some (.interface _)=>some .iface
  |_,_=>none
 |_=>none
def cW(H:Heap)(k:vx)(x:AV):Option Bool:=
 match k,x with
 | .ptr,.p .dJ| .slice,.p .aW| .map,.p .fC| .func,.p .ig| .iface,.p .fV=>some true
 | .ptr,.p (.cw _)| .slice,.p (.bP _ _)| .map,.p (.fg _)| .func,.p (.func _ _ _)| .func,.func _ _ _=>some false
 | .ptr,.ptr b _=>match H[b]? with
  |some (.box _ _)=>some false
  |_=>none
 | .map,.map b=>match H[b]? with
  |some (.map _ _)=>some false
  |_=>none
 | .slice,.p (.seq (_::_))=>some false
 | .slice,.sl b aw aj _ _=>match H[b]? with
  |some (.arr k c a es)=>if aw=c/\aj=a then some (k.gr&&es.isEmpty)else none
  |_=>none
 |_,_=>none
def qG(op:BinOp)(k:bo)(a b:Int)(K:PV->Prop):Prop:=
 match op with
 | .add=>K (.int k (k.wrap (a+b)))
 | .sub=>K (.int k (k.wrap (a-b)))
 | .mul=>K (.int k (k.wrap (a*b)))
 | .quo=>b≠0/\K (.int k (k.wrap (a.tdiv b)))
 | .rem=>b≠0/\K (.int k (a.tmod b))
 | .and=>K (.int k (k.wrap (aT k.bits a&&&aT k.bits b).toNat))
 | .or=>K (.int k (k.wrap (aT k.bits a|||aT k.bits b).toNat))
 | .xor=>K (.int k (k.wrap (aT k.bits a^^^aT k.bits b).toNat))
 | .andNot=>K (.int k (k.wrap (aT k.bits a&&&~~~aT k.bits b).toNat))
 | .eql=>K (.bool (a==b))
 | .neq=>K (.bool (a !=b))
 | .lss=>K (.bool (decide (a<b)))
 | .leq=>K (.bool (decide (a<=b)))
 | .gtr=>K (.bool (decide (a>b)))
 | .geq=>K (.bool (decide (a>=b)))
 | .shl=>0<=b/\K (.int k (k.wrap (a*2^(min b.toNat k.bits))))
 | .shr=>0<=b/\K (.int k (a.fdiv (2^(min b.toNat k.bits))))
def jc:List Nat->List Nat->Bool
 |_,[]=>false
 |[],_::_=>true
 |a::x,b::y=>decide (a<b)||(a==b&&jc x y)
def qE(op:BinOp)(a b:List Nat)(K:PV->Prop):Prop:=
 match op with
 | .add=>a.length+b.length<9223372036854775808/\K (.str (a++b))
 | .eql=>K (.bool (a==b))
 | .neq=>K (.bool (!(a==b)))
 | .lss=>K (.bool (jc a b))
 | .leq=>K (.bool (jc a b||a==b))
 | .gtr=>K (.bool (!(jc a b||a==b)))
 | .geq=>K (.bool (!(jc a b)))
 |_=>False
def ku(P:a0)(op:BinOp)(T:a1)(c:Bool)(H:Heap)(x y:AV)(K:PV->Prop):Prop:=
 match x,y with
 | .p (.int k a),.p (.int d b)=>(k=d\/op=.shl\/op=.shr)/\qG op k a b K
 | .p (.str a),.p (.str b)=>qE op a b K
 | .p (.bool a),.p (.bool b)=>rU P T=true/\match op with
  | .eql=>K (.bool (a==b))
  | .neq=>K (.bool (!(a==b)))
  |_=>False
 | .p (.st u fs),.p (.st u' gs)=>sV P T=true/\(match ic P 9 T (.st u fs) (.st u' gs),op with
  |some r,.eql=>K (.bool r)
  |some r,.neq=>K (.bool !r)
  |_,_=>False)
 |x,y=>
  (match dC P T c y with
  |some k=>(match cW H k x,op with
   |some r,.eql=>K (.bool r)
   |some r,.neq=>K (.bool !r)
   |_,_=>False)
  |none=>False)
def di:Nat:=1073741824
def gK(H:Heap):AV->Option (List AV)
 | .p .aW=>some []
 | .p (.bP _ es)=>some (es.map .p)
 | .p (.seq es)=>some (es.map .p)
 | .p (.str s)=>some (s.map fun c=>.p (.int .u8 (c:Nat)))
 | .sl b aw aj off len=>match H[b]? with
  |some (.arr _ d a es)=>if aw=d/\aj=a/\off+len<=es.length then some ((es.drop off).take len)else none
  |_=>none
 |_=>none
def dD(H:Heap):AV->List (Nat×Obj)
 | .sl b _ _ _ _| .ptr b _| .b7 b _ _ _ _| .map b=>match H[b]? with
  |some o=>[(b,o)]
  |none=>[]
 |_=>[]
def fe(P:a0)(aj:Nat):List AV->Prop
 |[]=>True
 |v::vs=>(aa v≠.bad/\bJ P (aa v)=aj)/\fe P aj vs
def cL(P:a0)(T:a1):Option Nat:=
 match P.underlying T with
 |some (.slice e)=>match P.info? e with
  |some i=>if i.bytes<32768/\0<i.size/\0<i.bytes then some i.size else none
  |none=>none
 |_=>none
def eH(P:a0)(T:a1):a1:=
 match P.underlying T with
 |some (.slice e)=>e
 |_=>0
def iF(P:a0)(X:a1):Bool:=
 match P.underlying X with
 |some (.int _)=>false
 |some _=>true
 |none=>false
def gk(P:a0)(T:a1):AK:=if eH P T=Gl.u8 then .bytes else .grow
def nX(P:a0)(T X:a1)(H:Heap)(s x:AV)(K:aY->Prop):Prop:=
 match cL P T,gK H x with
 |some sz,some xs=>iF P X=true/\(cO P (eH P T)).isSome=true/\fe P sz xs/\
  (match s with
  | .p .aW=>if xs.isEmpty then K {v:=s,ak:=dD H x}else xs.length<=di/\K {v:=.sl H.length 0 sz 0 xs.length,ak:=dD H x,aU:=[.arr (gk P T) 0 sz xs]}
  | .p (.bP full es)=>fe P sz (es.map .p)/\if xs.isEmpty then K {v:=s,ak:=dD H x}else full=true/\es.length+xs.length<=di/\
   K {v:=.sl H.length 0 sz 0 (es.length+xs.length),ak:=dD H x,aU:=[.arr (gk P T) 0 sz (es.map .p++xs)]}
  | .sl b aw aj off len=>match H[b]? with
   |some (.arr k c a es)=>aw=c/\aj=a/\aj=sz/\off+len<=es.length/\
    if xs.isEmpty then K {v:=s,ak:=(b,.arr k c a es)::dD H x}
    else es.length+xs.length<=di/\(match k with
     | .frozen=>False
     | .exact=>if off+len+xs.length<=es.length then
      K {v:=.sl b aw aj off (len+xs.length),ak:=(b,.arr k c a es)::dD H x,aJ:=[(b,.arr .exact aw aj (es.take (off+len)++xs++es.drop (off+len+xs.length)))]}
      else K {v:=.sl H.length 0 sz 0 (len+xs.length),ak:=(b,.arr k c a es)::dD H x,aU:=[.arr (gk P T) 0 sz ((es.drop off).take len++xs)]}
     |_=>off=0/\(k=.bytes->eH P T=Gl.u8)/\K {v:=.sl b (aw+1) aj 0 (len+xs.length),ak:=(b,.arr k c a es)::dD H x,aJ:=[(b,.arr k (aw+1) aj (es.take len++xs))]})
   |_=>False
  |_=>False)
 |_,_=>False
def gA(x:Option AV)(d:Nat)(K:Nat->Prop):Prop:=
 match x with
 |none=>K d
 |some (.p (.int _ i))=>0<=i/\K i.toNat
 |_=>False
def oc(P:a0)(T:a1)(H:Heap)(x:AV)(lo hi d:Option AV)(K:aY->Prop):Prop:=
 d.isNone/\match x with
 | .p (.str s)=>il P T=true/\gA hi s.length fun h=>gA lo 0 fun l=>h<=s.length/\l<=h/\K {v:=.p (.str ((s.take h).drop l))}
 | .p .aW=>(cL P T).isSome=true/\gA hi 0 fun h=>gA lo 0 fun l=>h<=0/\l<=h/\K {v:=x}
 | .p (.bP full es)=>gA hi es.length fun h=>gA lo 0 fun l=>h<=es.length/\l<=h/\
  (match cL P T with
  |some sz=>fe P sz (es.map .p)/\K {v:=.p (.bP (full&&h==es.length) ((es.take h).drop l))}
  |none=>False)
 | .p (.seq es)=>gA hi es.length fun h=>gA lo 0 fun l=>h<=es.length/\l<=h/\
  (match cL P T with
  |some sz=>fe P sz (es.map .p)/\K {v:=.p (.seq ((es.take h).drop l))}
  |none=>False)
 | .sl b aw aj off len=>match H[b]? with
  |some (.arr k c a es)=>aw=c/\aj=a/\cL P T=some aj/\¬(k.gr=true/\es=[])/\off+len<=es.length/\
   gA hi len fun h=>gA lo 0 fun l=>off+h<=es.length/\l<=h/\
    (if l=0 then K {v:=.sl b aw aj off h,ak:=[(b,.arr k c a es)]}
    else if l=h then K {v:=.p (.bP false []),ak:=[(b,.arr k c a es)]}
    else K {v:=.sl b aw aj (off+l) (h-l),ak:=[(b,.arr k c a es)]})
  |_=>False
 |_=>False
def rG(P:a0)(T:a1)(H:Heap)(x:AV)(lo hi:Option AV)(m:AV)(K:aY->Prop):Prop:=
 match x with
 | .sl b aw aj off len=>match H[b]? with
  |some (.arr k c a es)=>aw=c/\aj=a/\(cL P T).isSome=true/\¬(k.gr=true/\es=[])/\off+len<=es.length/\hi.isSome=true/\
   gA hi len fun h=>gA lo 0 fun l=>gA (some m) 0 fun m=>off+m<=es.length/\h<=m/\l<=h/\K {v:=.p .undef,ak:=[(b,.arr k c a es)]}
  |_=>False
 |_=>False
def qU(P:a0)(T:a1)(x k:PV):Option Bool:=match x with
 | .st u fs=>match ic P 9 T (.st u fs) k,kJ (.st u fs) k with
  |some a,some b=>bif a==b then some a else none
  |_,_=>none
 |x=>kJ x k
def fT(P:a0)(T:a1):List (PV×PV)->PV->Option (Option PV)
 |[],_=>some none
 |(k,v)::r,x=>match qU P T x k with
  |some true=>some (some v)
  |some false=>fT P T r x
  |none=>none
def mj(P:a0)(T:a1)(a:List (PV×PV))(x:PV):Option (Option PV):=match x with
 | .st u fs=>match fT P T a (.st u fs)with
  |some none=>some none
  |_=>none
 |x=>fT P T a x
def nL:PV->Bool
 | .st _ _=>false
 |_=>true
def lA(P:a0)(T:a1):List PV->List AV->PV->Option (Option AV)
 |[],[],_=>some none
 |k::ks,v::vs,x=>match qU P T x k with
  |some true=>some (some v)
  |some false=>lA P T ks vs x
  |none=>none
 |_,_,_=>none
def tM:Obj->Option (List PV×List AV)
 | .map false es=>some (es.map (·.1),es.map fun e=>.p e.2)
 | .dx ks vs=>some (ks,vs)
 |_=>none
def gz:List (PV×PV)->PV->PV->List (PV×PV)
 |[],k,v=>[(k,v)]
 |(a,v')::r,k,v=>if kJ k a=some true then(k,v)::r else(a,v')::gz r k v
def uD(P:a0)(T:a1):Bool:=match P.underlying T with
 |some (.int _)|some .string|some .bool=>true
 |_=>false
def fA(P:a0)(T:a1):PV->Bool
 | .int k _=>match P.underlying T with
  |some (.int a)=>decide (k=a)
  |_=>false
 | .str _=>il P T
 | .st u fs=>match P.underlying T with
  |some (.struct cH)=>cH.toList.all (fun f=>f.name != "_" &&uD P f.type)&&(ic P 9 T (.st u fs) (.st u fs)).isSome
  |_=>false
 |_=>false
def jg(P:a0)(T:a1):Option (a1×a1):=
 match P.underlying T with
 |some (.map k e)=>some (k,e)
 |_=>none
def lenOf(H:Heap):AV->Option (Nat×List (Nat×Obj))
 | .p (.str s)=>some (s.length,[])
 | .p .aW| .p .fC=>some (0,[])
 | .p (.bP _ es)| .p (.seq es)=>some (es.length,[])
 | .p (.fg es)=>some (es.length,[])
 | .sl b aw aj _off len=>match H[b]? with
  |some (.arr k c a es)=>if aw=c/\aj=a then some (len,[(b,.arr k c a es)])else none
  |_=>none
 | .map b=>match H[b]? with
  |some (.map fz es)=>some (es.length,[(b,.map fz es)])
  |_=>none
 |_=>none
def gR(P:a0)(T:a1):AV->Bool
 | .p (.str _)=>il P T
 | .p .aW| .p (.bP _ _)| .p (.seq _)| .sl ..=>match P.underlying T with
  |some (.slice _)=>true
  |_=>false
 | .p .fC| .p (.fg _)| .map _=>match P.underlying T with
  |some (.map _ _)=>true
  |_=>false
 |_=>false
def Bf(H:Heap):AV->Option (Nat×List (Nat×Obj))
 | .p .aW=>some (0,[])
 | .p (.bP true es)=>some (es.length,[])
 | .sl b aw aj off _len=>match H[b]? with
  |some (.arr .exact c a es)=>if aw=c/\aj=a/\off<=es.length then some (es.length-off,[(b,.arr .exact c a es)])else none
  |_=>none
 |_=>none
def bytesOf:List AV->Option (List Nat)
 |[]=>some []
 | .p (.int .u8 c)::r=>if 0<=c/\c<256 then match bytesOf r with
  |some l=>some (c.toNat::l)
  |none=>none
  else none
 |_=>none
def ptrTo(P:a0)(T:a1):Option a1:=
 match P.underlying T with
 |some (.pointer e)=>some e
 |_=>none
def mc(k:bo)(c:Bool):List AV->Int->Option Int
 |[],a=>some a
 | .p (.int d b)::r,a=>if k=d then mc k c r (if c then(if b>a then b else a)else(if b<a then b else a))else none
 |_,_=>none
def ij(a:List AV):List (Nat×AV)->List AV
 |[]=>a
 |(i,v)::r=>ij (a.set i v) r
def mb(P:a0)(l:List Nat):List (Nat×AV)->Prop
 |[]=>True
 |(i,v)::r=>(∃n,l[i]?=some n/\bJ P (aa v)=n/\aa v≠.bad)/\mb P l r
def fI(H:Heap):List AV->Option (List PV×List (Nat×Obj)×List (Nat×Obj))
 |[]=>some ([],[],[])
 | .p v::r=>match fI H r with
  |some (a,ak,aJ)=>some (v::a,ak,aJ)
  |none=>none
 | .ptr b []::r=>match H[b]?,fI H r with
  |some (.box fz (.p t)),some (a,ak,aJ)=>some (.cw t::a,(b,.box fz (.p t))::ak,(b,.box true (.p t))::aJ)
  |_,_=>none
 |_=>none
def ow(P:a0)(T:a1)(H:Heap)(a:AV)(K:aY->Prop):Prop:=
 match a with
 | .ptr b path=>match H[b]? with
  |some (.box fz t)=>match eZ t path with
   |some s=>kindOf P T=aa s/\K {v:=s,ak:=[(b,.box fz t)]}
   |none=>False
  |_=>False
 | .b7 b aw aj i path=>match H[b]? with
  |some (.arr k d c es)=>aw=d/\aj=c/\∃h:i<es.length,match eZ (es[i]'h) path with
   |some s=>kindOf P T=aa s/\K {v:=s,ak:=[(b,.arr k d c es)]}
   |none=>False
  |_=>False
 | .p (.cw t)=>kindOf P T=aM t/\K {v:=.p t}
 |_=>False
def n9(P:a0)(T:a1)(H:Heap)(a x:AV)(K:aY->Prop):Prop:=
 kindOf P T=aa x/\aa x≠.bad/\match a with
 | .ptr b path=>match H[b]? with
  |some (.box false t)=>match eZ t path,fQ t path x with
   |some s,some d=>aa s=aa x/\K {v:=.p (.aE []),ak:=[(b,.box false t)],aJ:=[(b,.box false d)]}
   |_,_=>False
  |_=>False
 | .b7 b aw aj i path=>match H[b]? with
  |some (.arr k e c es)=>aw=e/\aj=c/\k≠.frozen/\∃h:i<es.length,match eZ (es[i]'h) path,fQ (es[i]'h) path x with
   |some s,some d=>aa s=aa x/\K {v:=.p (.aE []),ak:=[(b,.arr k e c es)],aJ:=[(b,.arr k e c (es.set i d))]}
   |_,_=>False
  |_=>False
 |_=>False
def pK(P:a0)(a:a1)(b:Nat)(key:PV)(x:AV)(o:Obj)(K:aY->Prop):Prop:=match tM o with
 |some (ks,vs)=>nL key=true/\lA P a ks vs key=some none/\K {v:=.p (.aE []),ak:=[(b,o)],aJ:=[(b,.dx (ks++[key]) (vs++[x]))]}
 |none=>False
def fO(P:a0)(T:a1):Option (a1×Nat):=
 match kindOf P T,P.underlying T with
 | .agg u,some (.struct fs)=>some (u,fs.size)
 |_,_=>none
def gV(P:a0)(T:a1):Option (a1×Nat):=
 match kindOf P T,P.underlying T with
 | .agg u,some (.array n _)=>some (u,n)
 |_,_=>none
def nU(P:a0)(T:a1)(a:AV)(f:Nat)(K:aY->Prop):Prop:=
 match fO P T with
 |some (u,n)=>f<n/\(match a with
  | .ptr b path=>K {v:=.ptr b (path++[(u,f)])}
  | .b7 b aw aj i path=>K {v:=.b7 b aw aj i (path++[(u,f)])}
  | .p (.cw t)=>aM t=.agg u/\(match(cH t)[f]? with
   |some g=>K {v:=.p (.cw g)}
   |none=>False)
  |_=>False)
 |_=>False
def nT(P:a0)(T:a1)(H:Heap)(x i:AV)(K:aY->Prop):Prop:=
 match i with
 | .p (.int _ i)=>0<=i/\(match x with
  | .p (.bP _ es)=>∃h:i.toNat<es.length,cL P T=some (bJ P (aM (es[i.toNat]'h)))/\K {v:=.p (.cw (es[i.toNat]'h))}
  | .p (.seq es)=>∃h:i.toNat<es.length,cL P T=some (bJ P (aM (es[i.toNat]'h)))/\K {v:=.p (.cw (es[i.toNat]'h))}
  | .sl b aw aj off len=>cL P T=some aj/\i.toNat<len/\(match H[b]? with
   |some (.arr k c a es)=>aw=c/\aj=a/\¬(k.gr=true/\es=[])/\K {v:=.b7 b aw aj (off+i.toNat) [],ak:=[(b,.arr k c a es)]}
   |_=>False)
  | .ptr b path=>(match gV P T with
   |some (u,n)=>i.toNat<n/\K {v:=.ptr b (path++[(u,i.toNat)])}
   |_=>False)
  | .b7 b aw aj j path=>(match gV P T with
   |some (u,n)=>i.toNat<n/\K {v:=.b7 b aw aj j (path++[(u,i.toNat)])}
   |_=>False)
  | .p (.cw t)=>(match gV P T with
   |some (u,n)=>aM t=.agg u/\i.toNat<n/\(match(cH t)[i.toNat]? with
    |some g=>K {v:=.p (.cw g)}
    |none=>False)
   |_=>False)
  |_=>False)
 |_=>False
def fE(P:a0)(ah:a8->Bool)(o:Oper)(ρ:a9->AV)(H:Heap)(K:aY->Prop):Prop:=
 match o.op with
 | .move x| .assign x=>K {v:=ρ x}
 | .pick c a b=>match ρ c with
  | .p (.bool t)=>K {v:=if t then ρ a else ρ b}
  |_=>False
 | .alloc T=>match cO P T with
  |some z=>kindOf P T=aM z/\aM z≠.bad/\ji T (aM z)=true/\K {v:=.ptr H.length [],aU:=[.box false (.p z)]}
  |none=>False
 | .box T x=>kindOf P T=aa (ρ x)/\aa (ρ x)≠.bad/\ji T (aa (ρ x))=true/\K {v:=.ptr H.length [],aU:=[.box false (ρ x)]}
 | .build T parts=>match kindOf P T,cO P T with
  | .agg u,some z=>(match dO P u with
   |some l=>aM z=.agg u/\mb P l (parts.toList.map fun(i,x)=>(i,ρ x))/\K {v:=gW u (ij ((cH z).map .p) (parts.toList.map fun(i,x)=>(i,ρ x)))}
   |none=>False)
  |_,_=>False
 | .buildSlice T n parts=>match cL P T,cO P (eH P T)with
  |some sz,some z=>bJ P (aM z)=sz/\n*sz<=1000000/\mb P (cc n sz) (parts.toList.map fun(i,x)=>(i,ρ x))/\
   K {v:=.sl H.length 0 sz 0 n,aU:=[.arr .exact 0 sz (ij (cc n (.p z)) (parts.toList.map fun(i,x)=>(i,ρ x)))]}
  |_,_=>False
 | .load T a=>ow P T H (ρ a) K
 | .store T a x=>n9 P T H (ρ a) (ρ x) K
 | .binOp op T x y _=>ku P op T (mC y) H (ρ x) (ρ y) (fun v=>K {v:=.p v,ak:=dD H (ρ x)})
 | .unOp op _ x=>match op,ρ x with
  | .not,.p (.bool b)=>K {v:=.p (.bool (!b))}
  | .neg,.p (.int k n)=>K {v:=.p (.int k (k.wrap (0-n)))}
  | .xor,.p (.int k n)=>K {v:=.p (.int k (k.wrap (aT k.bits (if k.signed then -1 else k.max)^^^aT k.bits n).toNat))}
  |_,_=>False
 | .convert S D x=>match P.underlying S,P.underlying D,ρ x with
  |some _,some (.int k),.p (.int _ n)=>K {v:=.p (.int k (k.wrap n))}
  |some _,some .string,.p (.str s)=>K {v:=.p (.str s)}
  |some (.slice e),some .string,.sl b aw aj off len=>(match H[b]? with
   |some (.arr k q j es)=>aw=q/\aj=j/\aj=1/\P.underlying e=some (.int .u8)/\0<len/\off+len<=es.length/\(match bytesOf ((es.drop off).take len)with
    |some l=>K {v:=.p (.str l),ak:=[(b,.arr k q j es)]}
    |none=>False)
   |_=>False)
  |_,_,_=>False
 | .extract t i=>match ρ t with
  | .p (.aE vs)=>(match vs[i]? with
   |some v=>K {v:=.p v}
   |none=>False)
  | .aE vs=>(match vs[i]? with
   |some v=>K {v}
   |none=>False)
  |_=>False
 | .fieldAddr T a f=>nU P T (ρ a) f K
 | .indexAddr T x i=>nT P T H (ρ x) (ρ i) K
 | .field T x f=>match kindOf P T,P.underlying T,ρ x with
  | .agg u,some (.struct _),.p t=>aM t=.agg u/\(match(cH t)[f]?,(jr P u)[f]? with
   |some g,some F=>kindOf P F=aM g/\K {v:=.p g}
   |_,_=>False)
  |_,_,_=>False
 | .index T x i=>match ρ x,ρ i with
  | .p (.str s),.p (.int _ i)=>il P T=true/\0<=i/\∃h:i.toNat<s.length,K {v:=.p (.int .u8 (s[i.toNat]'h))}
  | .p (.st u es),.p (.int _ i)=>(match gV P T,(jr P u)[i.toNat]?,es[i.toNat]? with
   |some (u',n),some F,some g=>u'=u/\0<=i/\i.toNat<n/\kindOf P F=aM g/\K {v:=.p g}
   |_,_,_=>False)
  |_,_=>False
 | .makeFunc (.func f) fi ca=>if ah f then(match fI H (fi.toList.map ρ),fI H (ca.toList.map ρ)with
   |some (a,[],[]),some (b,ak,aJ)=>K {v:=.p (.func f a b),ak,aJ}
   |_,_=>False)
  else match eU (fi.toList.map ρ),eU (ca.toList.map ρ)with
   |some a,some b=>K {v:=.p (.func f a b)}
   |_,_=>K {v:=.func f (fi.toList.map ρ) (ca.toList.map ρ)}
 | .makeSlice T l c=>match cL P T,cO P (eH P T),ρ l,ρ c with
  |some sz,some z,.p (.int .i64 l),.p (.int .i64 c)=>bJ P (aM z)=sz/\0<=l/\l=c/\l<=di/\K {v:=.sl H.length 0 sz 0 l.toNat,aU:=[.arr .exact 0 sz (cc l.toNat (.p z))]}
  |_,_,_,_=>False
 | .slice T x lo hi A=>match A with
  |none=>oc P T H (ρ x) (lo.map ρ) (hi.map ρ) none K
  |some m=>rG P T H (ρ x) (lo.map ρ) (hi.map ρ) (ρ m) K
 | .makeMap _ none=>K {v:=.map H.length,aU:=[.map false []]}
 | .lookup T x i ok=>match jg P T,ρ i with
  |some (w,E),.p key=>(match cO P E with
   |some z=>fA P w key=true/\(match ρ x with
    | .p .fC=>K {v:=.p (if ok then .aE [z,.bool false]else z)}
    | .p (.fg es)=>(match fT P w es key with
     |some (some v)=>K {v:=.p (if ok then .aE [v,.bool true]else v)}
     |some none=>K {v:=.p (if ok then .aE [z,.bool false]else z)}
     |none=>False)
    | .map b=>(match H[b]? with
     |some (.map fz es)=>(match fT P w es key with
      |some (some v)=>K {v:=.p (if ok then .aE [v,.bool true]else v),ak:=[(b,.map fz es)]}
      |some none=>K {v:=.p (if ok then .aE [z,.bool false]else z),ak:=[(b,.map fz es)]}
      |none=>False)
     |some (.dx ks vs)=>nL key=true/\(match lA P w ks vs key with
      |some (some v)=>K {v:=if ok then .aE [v,.p (.bool true)]else v,ak:=[(b,.dx ks vs)]}
      |some none=>K {v:=.p (if ok then .aE [z,.bool false]else z),ak:=[(b,.dx ks vs)]}
      |none=>False)
     |_=>False)
    |_=>False)
   |none=>False)
  |_,_=>False
 | .mapUpdate T m k x| .insert T m k x=>match jg P T,ρ m,ρ k,ρ x with
  |some (w,_),.map b,.p key,.p v=>fA P w key=true/\(match H[b]? with
   |some (.map false es)=>(match mj P w es key with
    |some _=>K {v:=.p (.aE []),ak:=[(b,.map false es)],aJ:=[(b,.map false (gz es key v))]}
    |none=>False)
   |some (.dx ks vs)=>pK P w b key (.p v) (.dx ks vs) K
   |_=>False)
  |some (w,_),.map b,.p key,x=>fA P w key=true/\(match H[b]? with
   |some o=>pK P w b key x o K
   |none=>False)
  |_,_,_,_=>False
 | .range T x=>match ρ x with
  | .p (.str s)=>il P T=true/\K {v:=.ptr H.length [],aU:=[.dA s 0]}
  |_=>False
 | .next it true=>match ρ it with
  | .ptr b []=>(match H[b]? with
   |some (.dA s pos)=>if pos<s.length then
    K {v:=.p (.aE [.bool true,.int .i64 pos,.int .i32 (Utf8.decode (gp s) pos).1]),ak:=[(b,.dA s pos)],aJ:=[(b,.dA s (pos+(Utf8.decode (gp s) pos).2))]}
    else K {v:=.p (.aE [.bool false]),ak:=[(b,.dA s pos)]}
   |_=>False)
  |_=>False
 | .nilCheck x=>match ρ x with
  | .ptr _ _| .b7 _ _ _ _ _| .p (.cw _)=>K {v:=ρ x}
  |_=>False
 | .call c=>match c.callee with
  | .builtin b=>let args:=c.args.toList.map ρ
   let T:=c.argTypes.getD 0 0
   (match b,args with
   | .len,[x]=>(match lenOf H x with
    |some (n,ak)=>gR P T x=true/\0<c.argTypes.size/\K {v:=.p (.int .i64 n),ak}
    |none=>False)
   | .append,[s,x]=>c.argTypes.size=2/\nX P T (c.argTypes.getD 1 0) H s x K
   | .min,.p (.int k a)::r=>(match mc k false r a with
    |some n=>K {v:=.p (.int k n)}
    |none=>False)
   | .max,.p (.int k a)::r=>(match mc k true r a with
    |some n=>K {v:=.p (.int k n)}
    |none=>False)
   | .copy,[d,x]=>(match cL P T,d,gK H x with
    |some sz,.sl b aw aj off len,some xs=>aj=sz/\fe P sz xs/\c.argTypes.size=2/\(match H[b]? with
     |some (.arr k q j es)=>aw=q/\aj=j/\k≠.frozen/\off+len<=es.length/\¬(k.gr=true/\es=[])/\
      K {v:=.p (.int .i64 (min xs.length len:Nat)),ak:=(b,.arr k q j es)::dD H x,aJ:=[(b,.arr k q j (es.take off++xs.take (min xs.length len)++es.drop (off+min xs.length len)))]}
     |_=>False)
    |_,_,_=>False)
   | .cap,[x]=>(match Bf H x with
    |some (n,ak)=>gR P T x=true/\0<c.argTypes.size/\K {v:=.p (.int .i64 n),ak}
    |none=>False)
   | .clear,[x]=>(match x with
    | .p .aW=>gR P T x=true/\0<c.argTypes.size/\K {v:=.p (.aE [])}
    | .sl b aw aj off len=>(match cL P T,cO P (eH P T),H[b]? with
     |some sz,some z,some (.arr k q j es)=>aw=q/\aj=j/\aj=sz/\bJ P (aM z)=sz/\k≠.frozen/\off+len<=es.length/\¬(k.gr=true/\es=[])/\0<c.argTypes.size/\0<len/\
      K {v:=.p (.aE []),ak:=[(b,.arr k q j es)],aJ:=[(b,.arr k q j (es.take off++cc len (.p z)++es.drop (off+len)))]}
     |_,_,_=>False)
    |_=>False)
   | .unsafeSliceData,[x]=>(match x with
    | .p .aW=>K {v:=.p .dJ}
    | .sl b aw aj off len=>(match H[b]? with
     |some (.arr k q j es)=>aw=q/\aj=j/\((k.gr=true/\es=[]/\K {v:=.p .dJ,ak:=[(b,.arr k q j es)]})\/(0<len/\off+len<=es.length/\K {v:=.b7 b aw aj off [],ak:=[(b,.arr k q j es)]}))
     |_=>False)
    |_=>False)
   | .unsafeString,[x,.p (.int .i64 n)]=>(match x with
    | .p .dJ=>n=0/\c.argTypes.size=2/\K {v:=.p (.str [])}
    | .b7 b aw aj i []=>(match H[b]? with
     |some (.arr .bytes q j es)=>aw=q/\aj=j/\aj=1/\i=0/\0<n/\n.toNat<=es.length/\n<=9223372036854775807/\c.argTypes.size=2/\ptrTo P T=some Gl.u8/\P.cellsOf Gl.u8=1/\(match bytesOf (es.take n.toNat)with
      |some l=>K {v:=.p (.str l),ak:=[(b,.arr .bytes q j es)],aJ:=[(b,.dead)]}
      |none=>False)
     |_=>False)
    |_=>False)
   |_,_=>False)
  |_=>False
 |_=>False
def newAt(a:Nat):List Obj->List (Nat×Obj)
 |[]=>[]
 |o::r=>(a,o)::newAt (a+1) r
structure bY(P:a0)(ai ad:Nat->Prop)(w:a7)(β:Bd)(H:Heap)(aF:Nat->Prop)(w':a7)(aI:Bd)(H':Heap):Prop where
 bV:∀k,ad k->aF k
 fresh:∀k,aF k->ad k\/¬ai k
 ext:Ext ai ad w w'
 step:cj β H aI H'
 rel:bU P w' aF aI H' ai
 fh:∀x,aH H x->aH H' x
 loop:∀b,gM H b->gM H' b
def Enters(P:a0)(f:a8):Prop:=∀(args:Array a5)(w:a7),(callFunc f args).run P w=.ok (.enter f args) w
def cB(P:a0)(f:a8)(H:Heap)(args:List AV)(H':Heap)(v:AV):Prop:=
 Enters P f/\∀(w:a7)(ad ai:Nat->Prop)(β:Bd)(a:List a5),bU P w ad β H ai->bB P w ad β H args a->aV (aH H) args->
  bv P f a.toArray w fun e w'=>∃b aI aF,e=.returned b/\bY P ai ad w β H aF w' aI H'/\az P w' aF aI H' v b/\aD (aH H') v
def iq(P:a0)(b:Nat)(H:Heap)(args:List AV)(H':Heap)(v:AV):Prop:=
 gM H b/\∀(w:a7)(ad ai:Nat->Prop)(β:Bd)(c:List a5),bU P w ad β H ai->bB P w ad β H args c->aV (aH H) args->
  ∃f tmps assign body,(Instr.yield (β.al b) c.toArray).run P w=.ok (.round (β.al b) f tmps assign body) w/\
   ∀(a:bb)(e:List bb),∃d w' aI aF,Steps P (lone (Frame.round (β.al b) f tmps assign body .normal) (a::e) w) (lone (a.finish d) e w')/\
    bY P ai ad w β H aF w' aI H'/\az P w' aF aI H' v d/\aD (aH H') v
def sQ(P:a0)(f:a8)(args:List AV)(base:Nat)(e:aY):Prop:=
 Enters P f/\∀(H:Heap)(w:a7)(ad ai:Nat->Prop)(β:Bd)(a:List a5),bU P w ad β H ai->bB P w ad β H args a->aV (aH H) args->
  (∀p∈e.ak,H[p.1]?=some p.2)->(∀i,i<e.aU.length->H[base+i]?=some .hole)->
  bv P f a.toArray w fun x w'=>∃b aI aF,x=.returned b/\bY P ai ad w β H aF w' aI (bf H (e.aJ++newAt base e.aU))/\
   az P w' aF aI (bf H (e.aJ++newAt base e.aU)) e.v b/\aD (aH (bf H (e.aJ++newAt base e.aU))) e.v
def uL(P:a0)(b:Nat)(args:List AV)(a:Nat)(e:aY):Prop:=
 ∀(H:Heap)(w:a7)(ad ai:Nat->Prop)(β:Bd)(d:List a5),bU P w ad β H ai->bB P w ad β H args d->aV (aH H) args->
  (∀p∈e.ak,H[p.1]?=some p.2)->(∀i,i<e.aU.length->H[a+i]?=some .hole)->
  gM H b/\∃f tmps assign body,(Instr.yield (β.al b) d.toArray).run P w=.ok (.round (β.al b) f tmps assign body) w/\
   ∀(c:bb)(h:List bb),∃g w' aI aF,Steps P (lone (Frame.round (β.al b) f tmps assign body .normal) (c::h) w) (lone (c.finish g) h w')/\
    bY P ai ad w β H aF w' aI (bf H (e.aJ++newAt a e.aU))/\
    az P w' aF aI (bf H (e.aJ++newAt a e.aU)) e.v g/\aD (aH (bf H (e.aJ++newAt a e.aU))) e.v
def EH(P:a0)(f:a8)(args:List AV)(ak:List (Nat×Obj))(v:PV):Prop:=
 ∀(H:Heap)(w:a7)(ad ai:Nat->Prop)(β:Bd)(a:List a5),bU P w ad β H ai->bB P w ad β H args a->aV (aH H) args->(∀p∈ak,H[p.1]?=some p.2)->
  ∃b,(callFunc f a.toArray).run P w=.ok (.value b) w/\aC P w ad v b
def qJ(H:Heap)(e:aY):Prop:=(∀p∈e.ak,H[p.1]?=some p.2)/\(∀p∈e.aJ,p.1<H.length/\p.2≠.hole)
def sP(P:a0)(f:a8)(args:List PV)(v:PV):Prop:=
 Enters P f/\∀(w:a7)(ad:Nat->Prop)(a:List a5),(∀k,ad k->k<w.heap.size)->mY P w ad->bw P w ad args a->
  bv P f a.toArray w fun e w'=>∃b,∃aF:Nat->Prop,e=.returned b/\(∀k,ad k->aF k)/\(∀k,aF k->ad k\/w.heap.size<=k)/\(∀k,aF k->k<w'.heap.size)/\
   w.heap.size<=w'.heap.size/\(∀k,k<w.heap.size->w'.heap[k]?=w.heap[k]?)/\(w'.os=w.os/\w'.output=w.output)/\aC P w' aF v b
def R6(P:a0)(f:a8)(args:List PV)(v:PV):Prop:=
 ∀(w:a7)(ad:Nat->Prop)(a:List a5),bw P w ad args a->∃b,(callFunc f a.toArray).run P w=.ok (.value b) w/\aC P w ad v b
def aA(P:a0)(f:a8)(args:List PV)(v:PV):Prop:=sP P f args v\/R6 P f args v
def kW(H:Heap):AV->Option (PV×Heap)
 | .p v=>some (v,H)
 | .sl b aw aj off len=>match H[b]? with
  |some (.arr k d a es)=>
   if aw=d/\aj=a/\off+len<=es.length then
    if k.gr=true/\es=[]then some (.aW,H)else
    match eU es with
    |some c=>some (.bP (k== .exact&&off+len==es.length) ((c.drop off).take len),H.set b (.arr .frozen aw aj es))
    |none=>none
   else none
  |_=>none
 | .ptr b path=>match H[b]? with
  |some (.box _ (.p t))=>match kY t path with
   |some s=>some (.cw s,H.set b (.box true (.p t)))
   |none=>none
  |_=>none
 | .map b=>match H[b]? with
  |some (.map _ es)=>some (.fg es,H.set b (.map true es))
  |_=>none
 |_=>none
def nE(H:Heap):List AV->Option (List PV×Heap)
 |[]=>some ([],H)
 |x::r=>match kW H x with
  |some (v,H1)=>match nE H1 r with
   |some (vs,a)=>some (v::vs,a)
   |none=>none
  |none=>none
def gO(P:a0)(draw:Bool)(f:a8)(args:List AV)(H:Heap)(K:AV->Heap->Prop):Prop:=
 (∃vs v,args=vs.map .p/\aA P f vs v/\K (.p v) H)\/
 (draw=false/\((∃vs H1 v,nE H args=some (vs,H1)/\aA P f vs v/\K (.p v) H1)\/(∃H' v,cB P f H args H' v/\K v H')\/
  (∃e,sQ P f args H.length e/\qJ H e/\K e.v (bf H e.aJ++e.aU))\/(∃ak v,EH P f args ak v/\(∀p∈ak,H[p.1]?=some p.2)/\K (.p v) H)))
def jA(P:a0)(ah:a8->Bool)(draw:Bool)(o:Oper)(K:St->Prop)(s:St):Prop:=
 match o.op with
 | .call {callee:=.value f,args,.. }=>(match ev s.env f with
  | .p (.func g fi ca)=>gO P draw g (fi.map .p++args.toList.map (ev s.env)++ca.map .p) s.heap (fun v H'=>K ⟨put o.dst v s.env,H'⟩)
  | .func g fi ca=>gO P draw g (fi++args.toList.map (ev s.env)++ca) s.heap (fun v H'=>K ⟨put o.dst v s.env,H'⟩)
  | .map b=>∃H' v,iq P b s.heap (args.toList.map (ev s.env)) H' v/\K ⟨put o.dst v s.env,H'⟩
  |_=>False)
 |_=>fE P ah o (ev s.env) s.heap fun e=>K (e.app o.dst s)
def guardOf(a:Array Oper)(j:Nat)(e:Env):AV:=
 match(a[j]?).bind (·.dst)with
 |some d=>aN e d
 |none=>.p (.aE [])
def gQ(P:a0)(ah:a8->Bool)(draw:Bool)(a:Array Oper):List Oper->(St->Prop)->St->Prop
 |[],K,s=>K s
 |o::r,K,s=>match o.guard with
  |none=>jA P ah draw o (gQ P ah draw a r K) s
  |some (j,want)=>match guardOf a j s.env with
   | .p (.bool t)=>if t=want then jA P ah draw o (gQ P ah draw a r K) s else gQ P ah draw a r K ⟨put o.dst (.p (.aE [])) s.env,s.heap⟩
   | .p (.aE [])=>gQ P ah draw a r K ⟨put o.dst (.p (.aE [])) s.env,s.heap⟩
   |_=>False
def mw:Obj->Option Obj
 | .box _ (.p t)=>some (.box true (.p t))
 | .arr k aw aj es=>if k.gr=true/\es=[]then none else match eU es with
  |some _=>some (.arr .frozen aw aj es)
  |none=>none
 | .map _ es=>some (.map true es)
 |_=>none
def mG(H:Heap):AV->Option (PV×List Nat)
 | .p v=>some (v,[])
 | .sl b aw aj off len=>match H[b]? with
  |some (.arr k d a es)=>
   if aw=d/\aj=a/\off+len<=es.length then
    if k.gr=true/\es=[]then none else
    match eU es with
    |some c=>some (.bP (k== .exact&&off+len==es.length) ((c.drop off).take len),[b])
    |none=>none
   else none
  |_=>none
 | .ptr b path=>match H[b]? with
  |some (.box _ (.p t))=>match kY t path with
   |some s=>some (.cw s,[b])
   |none=>none
  |_=>none
 | .map b=>match H[b]? with
  |some (.map _ es)=>some (.fg es,[b])
  |_=>none
 |_=>none
def oB(H:Heap):List AV->Option (List PV×List Nat)
 |[]=>some ([],[])
 |x::r=>match mG H x,oB H r with
  |some (v,bs),some (vs,cs)=>some (v::vs,bs++cs)
  |_,_=>none
def lF(H:Heap):List Nat->Option (List (Nat×Obj)×List (Nat×Obj))
 |[]=>some ([],[])
 |b::r=>match H[b]?,lF H r with
  |some o,some (ak,aJ)=>(match mw o with
   |some o'=>some ((b,o)::ak,(b,o')::aJ)
   |none=>none)
  |_,_=>none
def gU(P:a0)(f:a8)(args:List AV)(H:Heap)(K:aY->Prop):Prop:=
 (∃vs v,args=vs.map .p/\aA P f vs v/\K {v:=.p v})\/
 (∃vs bs ak aJ v,oB H args=some (vs,bs)/\lF H bs=some (ak,aJ)/\aA P f vs v/\K {v:=.p v,ak,aJ})\/
 (∃e,sQ P f args H.length e/\qJ H e/\K e)\/
 (∃ak v,EH P f args ak v/\(∀p∈ak,H[p.1]?=some p.2)/\K {v:=.p v,ak})
def jj(P:a0)(ah:a8->Bool)(o:Oper)(s:St)(K:aY->Prop):Prop:=
 match o.op with
 | .call {callee:=.value f,args,.. }=>(match ev s.env f with
  | .p (.func g fi ca)=>gU P g (fi.map .p++args.toList.map (ev s.env)++ca.map .p) s.heap K
  | .func g fi ca=>gU P g (fi++args.toList.map (ev s.env)++ca) s.heap K
  | .map b=>∃e,uL P b (args.toList.map (ev s.env)) s.heap.length e/\qJ s.heap e/\K e
  |_=>False)
 |_=>fE P ah o (ev s.env) s.heap K
structure Touch where
 i:Nat
 rd:List Nat
 wr:List Nat
def oh(a:Nat):List Obj->List Nat
 |[]=>[]
 |_::r=>a::oh (a+1) r
def gY(i a:Nat)(e:aY):Touch:=⟨i,e.ak.map (·.1),e.aJ.map (·.1)++oh a e.aU⟩
def gP(i b:Nat)(e:aY)(a:List Touch):List Touch:=
 match e.ak,e.aJ,e.aU with
 |[],[],[]=>a
 |_,_,_=>gY i b e::a
def reach(a:Array Oper):Nat->Nat->Nat->Bool
 |0,_,_=>false
 |f+1,i,j=>match a[j]? with
  |some o=>o.after.toList.any (fun e=>b1 .any e&&e.on==i)||o.after.toList.any (fun e=>b1 .any e&&decide (i<e.on)&&reach a f i e.on)
  |none=>false
def je(u t:Touch):Bool:=u.wr.any (fun b=>t.rd.contains b||t.wr.contains b)||u.rd.any (fun b=>t.wr.contains b)
def kj(a:Array Oper):List Touch->Bool
 |[]=>true
 |t::r=>r.all (fun u=>!je u t||reach a a.size u.i t.i)&&kj a r
def gh(P:a0)(ah:a8->Bool)(a:Array Oper):List Oper->Nat->List Touch->(St->Prop)->St->Prop
 |[],_,acc,K,s=>kj a acc=true/\K s
 |o::r,i,acc,K,s=>match o.guard with
  |none=>jj P ah o s fun e=>gh P ah a r (i+1) (gP i s.heap.length e acc) K (e.app o.dst s)
  |some (j,want)=>match guardOf a j s.env with
   | .p (.bool t)=>if t=want then jj P ah o s fun e=>gh P ah a r (i+1) (gP i s.heap.length e acc) K (e.app o.dst s)
    else gh P ah a r (i+1) acc K ⟨put o.dst (.p (.aE [])) s.env,s.heap⟩
   | .p (.aE [])=>gh P ah a r (i+1) acc K ⟨put o.dst (.p (.aE [])) s.env,s.heap⟩
   |_=>False
inductive bA where|normal|exit (id:Nat)|ret
mutual
def fR(T:Heap):PV->AV->Prop
 | .aW,x=>x=.p .aW\/match x with
  | .sl b aw _ off len=>aw=0/\off=0/\len=0/\∃k z,T[b]?=some (.arr k 0 z [])/\k.gr=true
  |_=>False
 | .st u fs,x=>x=.p (.st u fs)\/match x with
  | .st u' gs=>u=u'/\kZ T fs gs
  |_=>False
 |v,x=>x=.p v
def kZ(T:Heap):List PV->List AV->Prop
 |[],gs=>gs=[]
 |v::vs,gs=>match gs with
  |g::gs=>fR T v g/\kZ T vs gs
  |[]=>False
end
mutual
def Gh(T:Heap):AV->AV->Prop
 | .p v,x=>fR T v x
 | .st u fs,x=>match x with
  | .st u' gs=>u=u'/\mH T fs gs
  |_=>False
 |a,x=>x=a
def mH(T:Heap):List AV->List AV->Prop
 |[],gs=>gs=[]
 |v::vs,gs=>match gs with
  |g::gs=>Gh T v g/\mH T vs gs
  |[]=>False
end
structure qC(s t:St):Prop where
 env:∀x,aN t.env x=aN s.env x\/aN t.env x=.p .undef\/Gh t.heap (aN s.env x) (aN t.env x)
 heap:∀(b:Nat)(o:Obj),t.heap[b]?=some o->o=.hole\/s.heap[b]?=some o\/((s.heap[b]?=none\/s.heap[b]?=some .hole)/\∃k z,o=.arr k 0 z []/\k.gr=true)\/(∃v v',s.heap[b]?=some (.box false v)/\o=.box false v'/\Gh t.heap v v')
 gC:∀x,aD (aH t.heap) (aN t.env x)
 hrefs:∀(b:Nat)(o:Obj),t.heap[b]?=some o->o.refs (aH t.heap)
def cV(N:Nat)(s t:St):Prop:=t=s\/(qC s t/\∀b,b<N->t.heap[b]?=s.heap[b]?)
def jM(Q:bA->St->Prop)(j:Option Code)(s:St):Prop:=
 match j with
 |none=>Q .normal s
 |some (.exit id)=>Q (.exit id) s
 |some .ret=>Q .ret s
 |_=>False
def jJ(P:a0)(it:AV)(b:Nat)(H:Heap)(K:Heap->Prop):Prop:=
 match it with
 | .p (.func g fi ca)=>∃H' v,cB P g H (fi.map .p++[.map b]++ca.map .p) H' v/\K H'
 | .func g fi ca=>∃H' v,cB P g H (fi++[.map b]++ca) H' v/\K H'
 |_=>False
def iR(b:Nat)(env:Env)(Q:bA->St->Prop)(H:Heap):Prop:=
 match H[b]? with
 |some (.loop L)=>L.st≠.busy/\jM Q L.pending ⟨env,H.set b (.loop {L with st:=.exhausted})⟩
 |_=>False
abbrev Cx:=Nat×Nat
def cd(P:a0)(ah:a8->Bool)(q:Cx):Code->(bA->St->Prop)->St->Prop
 | .skip,Q,s| .label _,Q,s=>Q .normal s
 | .region _ ops draw,Q,s=>if draw then gh P ah ops ops.toList 0 [] (Q .normal) s else gQ P ah false ops ops.toList (Q .normal) s
 | .seq a b,Q,s=>cd P ah q a (fun e s'=>match e with
  | .normal=>cd P ah q b Q s'
  |e=>Q e s') s
 | .cond c a b,Q,s=>match ev s.env c with
  | .p (.bool t)=>if t then cd P ah q a Q s else cd P ah q b Q s
  |_=>False
 | .block id b,Q,s=>cd P ah q b (fun e s'=>match e with
  | .exit i=>if i=id then Q .normal s' else Q (.exit i) s'
  |e=>Q e s') s
 | .scope b,Q,s=>cd P ah q b Q s
 | .loop b,Q,s=>∃I:Nat->St->Prop,(∃n t,cV q.2 s t/\I n t)/\∀n t,I n t->cd P ah q b (fun e s'=>match e with
  | .normal=>∃m g,m<n/\cV q.2 s' g/\I m g
  |e=>Q e s') t
 | .rangeFunc f h a b,Q,s=>q.2<=s.heap.length/\∃d:Env,(∀x,aN d x=aN s.env x)/\jJ P (ev s.env f) s.heap.length (s.heap++[.loop ⟨.ready,none,q.1,h.toList,a,b,d⟩]) (iR s.heap.length s.env Q)
 | .exit id,Q,s=>Q (.exit id) s
 | .ret,Q,s=>Q .ret s
 |_,_,_=>False
def bE(fr:bb)(t:Array a5)(ds:List bk)(todo:List Item):bb:={fr with tmps:=t,defers:=ds,todo,mode:=.run}
section
variable{P:a0}{fr:bb}{t:Array a5}{ds:List bk}{k:List Item}{cs:List bb}{w:a7}
def fF(t:Array a5):a9->a5
 | .tmp x=>t.getD x undef
 | .const v=>v
 | .global g=>.pointer (some ⟨g,0,none⟩)
 | .func f=>.func (.func f) #[] #[]
theorem eval_eq(fr:bb):fr.eval=fF fr.tmps:=by funext x;cases x<;>rfl
theorem aGH:step P (lone (bE fr t ds (.code .skip::k)) cs w)=.next (lone (bE fr t ds k) cs w):=
 a6 (by simp[stepG,b4,bE])
theorem W9{l:Nat}:step P (lone (bE fr t ds (.code (.label l)::k)) cs w)=.next (lone (bE fr t ds k) cs w):=
 a6 (by simp[stepG,b4,bE])
theorem VP{id:Nat}:step P (lone (bE fr t ds (.inBlock id::k)) cs w)=.next (lone (bE fr t ds k) cs w):=
 a6 (by simp[stepG,b4,bE])
theorem VO{b:Code}:step P (lone (bE fr t ds (.inScope b::k)) cs w)=.next (lone (bE fr t ds k) cs w):=
 a6 (by simp[stepG,b4,bE])
theorem Em{a b:Code}:step P (lone (bE fr t ds (.code (.seq a b)::k)) cs w)=.next (lone (bE fr t ds (.code a::.code b::k)) cs w):=
 a6 (by simp[stepG,b4,bE])
theorem aGz{c:a9}{x y:Code}{b:Bool}(h:fF t c= .bool b):
 step P (lone (bE fr t ds (.code (.cond c x y)::k)) cs w)=.next (lone (bE fr t ds (.code (if b then x else y)::k)) cs w):=
 a6 (by simp[stepG,b4,bE,eval_eq,h])
theorem zS{id:Nat}{c:Code}:step P (lone (bE fr t ds (.code (.block id c)::k)) cs w)=.next (lone (bE fr t ds (.code c::.inBlock id::k)) cs w):=
 a6 (by simp[stepG,b4,bE])
theorem Dm{c:Code}:step P (lone (bE fr t ds (.code (.scope c)::k)) cs w)=.next (lone (bE fr t ds (.code c::.inScope c::k)) cs w):=
 a6 (by simp[stepG,b4,bE])
theorem aGF{c:Code}:step P (lone (bE fr t ds (.code (.loop c)::k)) cs w)=.next (lone (bE fr t ds (.code c::.inLoop c::k)) cs w):=
 a6 (by simp[stepG,b4,bE])
theorem Wc{c:Code}:step P (lone (bE fr t ds (.inLoop c::k)) cs w)=.next (lone (bE fr t ds (.code c::.inLoop c::k)) cs w):=
 a6 (by simp[stepG,b4,bE])
theorem aGE{id:Nat}{a:List Item}(h:exitTo id k=some a):step P (lone (bE fr t ds (.code (.exit id)::k)) cs w)=.next (lone (bE fr t ds a) cs w):=
 a6 (by simp[stepG,b4,bE,h])
theorem Wb{id:Nat}{a:Array Oper}:
 step P (lone (bE fr t ds (.code (.region id a false)::k)) cs w)=.next (lone (bE fr t ds (.inRegion a (List.range a.size)::k)) cs w):=
 a6 (by simp[stepG,b4,bE])
theorem aGD{id:Nat}{a:Array Oper}:
 step P (lone (bE fr t ds (.code (.region id a true)::k)) cs w)=
  .next (lone (bE fr t ds (.inRegion a (Region.schedule (P.follows .mixedOrders) a (w.tape w.drawn (.order fr.fn id)))::k)) cs {w with drawn:=w.drawn+1}):=
 a6 (by simp[stepG,b4,bE,choose,Sem.run,Question.forced,Question.cut])
theorem IU{a:Array Oper}:step P (lone (bE fr t ds (.inRegion a []::k)) cs w)=.next (lone (bE fr t ds k) cs w):=
 a6 (by simp[stepG,b4,bE])
def nF(dst:Option Tmp)(v:a5)(t:Array a5):Array a5:=
 match dst with
 |some d=>t.setIfInBounds d v
 |none=>t
theorem nP{a:Array Oper}{i:Nat}{r:List Nat}{o:Oper}(c:a[i]?=some o)(v:a5):
 (bE fr t ds (.inRegion a (i::r)::k)).finish v=bE fr (nF o.dst v t) ds (.inRegion a r::k):=by
 cases b:o.dst<;>simp[Frame.finish,bE,c,b,nF]
theorem Kw{a:Array Oper}{i:Nat}{r:List Nat}{o:Oper}(b:a[i]?=some o)(c:b0 o (yielded a t)=false):
 step P (lone (bE fr t ds (.inRegion a (i::r)::k)) cs w)=.next (lone (bE fr (nF o.dst undef t) ds (.inRegion a r::k)) cs w):=by
 rw[<-nP b];exact a6 (by simp only[bE];simp[stepG,b4,b,c])
theorem Vu{o:Oper}(a:∀c,o.op≠ .defer c)(r:Option Nat)(A:Nat->Call->GStep)(B:GStep):
 (match r,o.op with
  |some l,.defer c=>A l c
  |_,_=>B)=B:=by
 cases r with
 |none=>rfl
 |some l=>cases h:o.op<;>first|rfl|exact absurd h (a _)
theorem aGG{a:Array Oper}{i:Nat}{r:List Nat}{o:Oper}{fr:bb}(e:fr.todo= .inRegion a (i::r)::k)(d:a[i]?=some o)(b:∀c,o.op≠ .defer c):
 cb P true fr cs none w=b5 P true fr cs none (be (fF fr.tmps) o) w:=by
 simp only[cb,Frame.oper?,e,d,eval_eq];exact Vu b _ _ _
theorem De{f:Bool}{a:Array Oper}{i:Nat}{r:List Nat}{o:Oper}(b:a[i]?=some o)(e:b0 o (yielded a t)=true)(d:∀c,o.op≠ .defer c):
 stepG P f {frame:=bE fr t ds (.inRegion a (i::r)::k),callers:=cs,status:=.running,dying:=none} w=
  b5 P true (bE fr t ds (.inRegion a (i::r)::k)) cs none (be (fF t) o) w:=by
 have h:=aGG (P:=P) (cs:=cs) (w:=w) (fr:=bE fr t ds (.inRegion a (i::r)::k)) rfl b d;simp only[bE]at h⊢;simp[stepG,b4,b,e,h]
theorem tU{a:Array Oper}{i:Nat}{r:List Nat}{o:Oper}{n:Next}{b:a5}{w':a7}(d:a[i]?=some o)(h:b0 o (yielded a t)=true)
 (e:∀c,o.op≠.defer c)(g:(be (fF t) o).run P w=.ok n w')(f:n=.value b\/n=.skip/\b=undef):
 step P (lone (bE fr t ds (.inRegion a (i::r)::k)) cs w)=.next (lone (bE fr (nF o.dst b t) ds (.inRegion a r::k)) cs w'):=by
 rw[<-nP d];refine a6 ?_;rw[De d h e];rcases f with rfl|⟨rfl,rfl⟩<;>simp[b5,g,bE]
theorem wM{a:Array Oper}{i:Nat}{r:List Nat}{o:Oper}{f:a8}{args:Array a5}{w':a7}(d:a[i]?=some o)(g:b0 o (yielded a t)=true)
 (b:∀c,o.op≠.defer c)(e:(be (fF t) o).run P w=.ok (.enter f args) w'):
 step P (lone (bE fr t ds (.inRegion a (i::r)::k)) cs w)=.next (lone (Frame.enter P f args .normal) (bE fr t ds (.inRegion a (i::r)::k)::cs) w'):=by
 refine a6 ?_;rw[De d g b];simp[b5,e,bE]
theorem JX{a:Array Oper}{i:Nat}{r:List Nat}{o:Oper}{l:Nat}{f:a8}{tmps:Array a5}{assign body:Code}{w':a7}(d:a[i]?=some o)(g:b0 o (yielded a t)=true)
 (b:∀c,o.op≠.defer c)(e:(be (fF t) o).run P w=.ok (.round l f tmps assign body) w'):
 step P (lone (bE fr t ds (.inRegion a (i::r)::k)) cs w)=.next (lone (Frame.round l f tmps assign body .normal) (bE fr t ds (.inRegion a (i::r)::k)::cs) w'):=by
 refine a6 ?_;rw[De d g b];simp[b5,e,bE]
end
end Go.ag
namespace Go.ag
variable[Gl]
mutual
theorem aD.mono{S T:Nat×Nat->Prop}(h:∀x,S x->T x):∀v,aD S v->aD T v
 | .p _,_=>by simp[aD]
 | .ptr b _,c| .b7 b _ _ _ _,c| .sl b _ _ _ _,c| .map b,c=>by simp only[aD]at*;exact h _ c
 | .func _ a b,c=>by simp only[aD]at*;exact⟨aV.mono h a c.1,aV.mono h b c.2⟩
 | .st _ fs,c=>by simp only[aD]at*;exact aV.mono h fs c
 | .aE vs,c=>by simp only[aD]at*;exact aV.mono h vs c
theorem aV.mono{S T:Nat×Nat->Prop}(h:∀x,S x->T x):∀vs,aV S vs->aV T vs
 |[],_=>by simp[aV]
 |v::vs,c=>by simp only[aV]at*;exact⟨aD.mono h v c.1,aV.mono h vs c.2⟩
end
structure cN(P:a0)(n:Nat)(ai ad:Nat->Prop)(β:Bd)(s:St)(t:Array a5)(w:a7):Prop where
 heap:bU P w ad β s.heap ai
 env:∀x,az P w ad β s.heap (aN s.env x) (t.getD x undef)
 gC:∀x,aD (aH s.heap) (aN s.env x)
 size:t.size=n
structure qB(N:Nat)(β:Bd)(H:Heap)(aI:Bd)(H':Heap):Prop where
 box:∀b,b<N->aH H (b,0)->mW H' b->mW H b/\aI.al b=β.al b
 it:∀b,b<N->aH H (b,0)->mX H' b->mX H b/\aI.al b=β.al b
 map:∀b,b<N->aH H (b,0)->oi H' b->oi H b/\aI.al b=β.al b
 arr:∀b aw aj k es,b<N->aH H (b,aw)->eS H' b aw aj k es->∃k0 gD,eS H b aw aj k0 gD/\gD.length<=es.length/\(df k es↔df k0 gD)/\(¬df k es->aI.al b=β.al b/\aI.cap b=β.cap b)
 loop:∀b,b<N->aH H (b,0)->gM H' b->gM H b/\aI.al b=β.al b
theorem cj.n{N:Nat}{β:Bd}{H:Heap}{aI:Bd}{H':Heap}(h:cj β H aI H'):qB N β H aI H':=
 ⟨fun b _=>h.box b,fun b _=>h.it b,fun b _=>h.map b,fun b aw aj k es _=>h.arr b aw aj k es,fun b _=>h.loop b⟩
theorem qB.full{β:Bd}{H:Heap}{aI:Bd}{H':Heap}(h:qB H.length β H aI H'):cj β H aI H':=by
 have lt:∀b v,aH H (b,v)->b<H.length:=fun b v⟨o,c,_⟩=>(ck.1 c).1;exact⟨fun b x=>h.box b (lt _ _ x) x,fun b x=>h.it b (lt _ _ x) x,fun b x=>h.map b (lt _ _ x) x,fun b aw aj k a x=>h.arr b aw aj k a (lt _ _ x) x,fun b x=>h.loop b (lt _ _ x) x⟩
theorem qB.trans{N:Nat}{β l m:Bd}{H H1 j:Heap}(h:qB N β H l H1)(hi:∀x,x.1<N->aH H x->aH H1 x)(i:qB N l H1 m j):qB N β H m j:=by
 refine⟨?_,?_,?_,?_,?_⟩
 ·intro b a c g;obtain⟨d,a2⟩:=i.box b a (hi (b,0) a c) g;obtain⟨e,f⟩:=h.box b a c d;exact⟨e,a2.trans f⟩
 ·intro b a c g;obtain⟨d,a2⟩:=i.it b a (hi (b,0) a c) g;obtain⟨e,f⟩:=h.it b a c d;exact⟨e,a2.trans f⟩
 ·intro b a c g;obtain⟨d,a2⟩:=i.map b a (hi (b,0) a c) g;obtain⟨e,f⟩:=h.map b a c d;exact⟨e,a2.trans f⟩
 ·intro b aw aj k p a c g;obtain⟨k1,q,d,a2,a3,a4⟩:=i.arr b aw aj k p a (hi (b,aw) a c) g;obtain⟨k0,gD,e,f,n,o⟩:=h.arr b aw aj k1 q a c d;refine⟨k0,gD,e,ec f a2,a3.trans n,fun a=>?_⟩;obtain⟨c1,c2⟩:=a4 a;obtain⟨d1,d2⟩:=o (fun x=>a (a3.2 x));exact⟨c1.trans d1,c2.trans d2⟩
 ·intro b a c g;obtain⟨d,a2⟩:=i.loop b a (hi (b,0) a c) g;obtain⟨e,f⟩:=h.loop b a c d;exact⟨e,a2.trans f⟩
structure dP(N:Nat)(ai ad:Nat->Prop)(w:a7)(β:Bd)(H:Heap)(jY aF:Nat->Prop)(w':a7)(aI:Bd)(H':Heap):Prop where
 ey:∀k,ai k->jY k
 bV:∀k,ad k->aF k
 fresh:∀k,aF k->ad k\/¬ai k
 ext:Ext ai ad w w'
 step:qB N β H aI H'
 fh:∀x,x.1<N->aH H x->aH H' x
 loop:∀b,b<N->gM H b->gM H' b
theorem dP.refl(N:Nat)(ai ad:Nat->Prop)(w:a7)(β:Bd)(H:Heap):dP N ai ad w β H ai ad w β H:=
 ⟨fun _ h=>h,fun _ h=>h,fun _ h=>.inl h,Ext.refl _ _ _,(cj.refl _ _).n,fun _ _ h=>h,fun _ _ h=>h⟩
theorem Ext.trans{ai ad jY aF:Nat->Prop}{w w1 b:a7}(c:∀k,ai k->jY k)(hi:∀k,ad k->aF k)(h:Ext ai ad w w1)(a:Ext jY aF w1 b):Ext ai ad w b:=
 ⟨ec h.size a.size,fun k hk=>(a.same k (hk.imp (c k) (hi k))).trans (h.same k hk),a.io.1.trans h.io.1,a.io.2.trans h.io.2⟩
theorem dP.trans{N:Nat}{ai ad g e i f:Nat->Prop}{w w1 j:a7}{β l m:Bd}{H H1 d:Heap}(h:dP N ai ad w β H g e w1 l H1)(a:dP N g e w1 l H1 i f j m d):dP N ai ad w β H i f j m d:=
 ⟨fun k x=>a.ey k (h.ey k x),fun k x=>a.bV k (h.bV k x),fun k x=>(a.fresh k x).elim (fun y=>h.fresh k y) (fun y=>.inr fun z=>y (h.ey k z)),h.ext.trans h.ey h.bV a.ext,
  h.step.trans h.fh a.step,fun x c hx=>a.fh x c (h.fh x c hx),fun b c n=>a.loop b c (h.loop b c n)⟩
theorem bY.fq{P:a0}{N:Nat}{ai ad aF:Nat->Prop}{w w':a7}{β aI:Bd}{H H':Heap}(h:bY P ai ad w β H aF w' aI H'):dP N ai ad w β H ai aF w' aI H':=
 ⟨fun _ x=>x,h.bV,h.fresh,h.ext,h.step.n,fun x _=>h.fh x,fun b _=>h.loop b⟩
section
variable{P:a0}{ai ad aF:Nat->Prop}{w w':a7}{β aI:Bd}{H H':Heap}
theorem fk.xa(a:w'.heap=w.heap){b:Nat}{o:Obj}(h:fk P w ad β H ai b o)(g:o.refs (aH H)):fk P w' ad β H ai b o:=by
 have p:=fun(v:AV) cs m=>bp.mono (P:=P) (w:=w) (w':=w') (ad:=ad) (aF:=ad) (β:=β) (aI:=β) (H:=H) (H':=H) (fun _ x=>x) (fun k _=>by rw[a]) (cj.refl β H) v cs m;have q:=fun l(v:List AV) cs m=>bM.mono (P:=P) (w:=w) (w':=w') (ad:=ad) (aF:=ad) (β:=β) (aI:=β) (H:=H) (H':=H) (fun _ x=>x) (fun k _=>by rw[a]) (cj.refl β H) l v cs m;have r:=fun(i:List (PV×PV)) f=>cA.mono (P:=P) (w:=w) (w':=w') (ad:=ad) (aF:=ad) (fun _ x=>x) (fun k _=>by rw[a]) i f;cases o with
 |hole=>trivial
 |dead=>trivial
 |box fz t=>
  obtain⟨cs,T,c,d,e⟩:=h;exact⟨cs,T,by rw[a];exact c,p _ _ g d,e⟩
 |arr k aw aj i=>
  rcases h with h|⟨cs,T,n,rest,c,d,e⟩
  ·exact .inl h
  ·exact .inr ⟨cs,T,n,rest,by rw[a];exact c,q _ _ _ g d,e⟩
 |map fz i=>
  obtain⟨f,clock,c,d,e⟩:=h;exact⟨f,clock,by rw[a];exact c,r _ _ d,e⟩
 |dx ks vs=>
  obtain⟨f,clock,c,d,e,j⟩:=h;exact⟨f,clock,by rw[a];exact c,bw.mono (fun _ x=>x) (fun _ _=>by rw[a]) _ _ d,bB.mono (fun _ x=>x) (fun _ _=>by rw[a]) (cj.refl _ _) _ _ g e,j⟩
 |dA s pos=>
  obtain⟨bs,c,d⟩:=h;exact⟨bs,by rw[a];exact c,d⟩
 |loop L=>
  obtain⟨tmps,defers,fn,c,d,e,j⟩:=h;exact⟨tmps,defers,fn,by rw[a];exact c,d,fun x=>az.mono (fun _ x=>x) (fun _ _=>by rw[a]) (cj.refl _ _) _ _ (g x) (e x),j⟩
theorem bU.xa(a:w'.heap=w.heap)(h:bU P w ad β H ai):bU P w' ad β H ai:=
 ⟨fun b o c=>(h.cC b o c).xa a (h.refs b o c),h.inj,h.refs,fun k hk=>by rw[a];exact h.bV k hk,fun k hk=>by rw[a];exact h.ey k hk,h.ie.mono (fun _ x=>x) (fun _ _=>by rw[a])⟩
theorem bU.mU(h:bU P w ad β H ai){b:Nat}{o:Obj}(f:H[b]?=some o)(d:o.live):β.al b<w.heap.size:=by
 have c:=h.cC b o f;cases o with
 |hole=>exact d.elim
 |dead=>exact d.elim
 |box fz t=>obtain⟨cs,T,a,_⟩:=c;exact(av.1 a).1
 |arr k aw aj es=>
  rcases c with c|⟨cs,T,g,rest,a,_⟩
  ·exact(d c).elim
  ·exact(av.1 a).1
 |map fz es=>obtain⟨e,clock,a,_⟩:=c;exact(av.1 a).1
 |dx ks vs=>obtain⟨e,clock,a,_⟩:=c;exact(av.1 a).1
 |dA s pos=>obtain⟨bs,a,_⟩:=c;exact(av.1 a).1
 |loop L=>obtain⟨_,_,_,a,_⟩:=c;exact(av.1 a).1
theorem bY.set{b:Nat}{o':Obj}(i:bU P w ad β H ai)(r:b<H.length)(n:∀x,x≠b->aI.al x=β.al x/\aI.cap x=β.cap x)
 (g:∀k,ad k->aF k)(Q:∀k,aF k->ad k\/(k=aI.al b/\o'.live))(ag:∀k,aF k->k<w'.heap.size)
 (V:w.heap.size<=w'.heap.size)(J:∀k,(k≠aI.al b\/¬o'.live)->k<w.heap.size->w'.heap[k]?=w.heap[k]?)
 (F:o'.live->w.heap.size<=aI.al b\/(aI.al b=β.al b/\(∃o,H[b]?=some o/\o.live)/\((∀k,k=β.al b->w'.heap[k]?=w.heap[k]?)\/¬ad (β.al b))/\¬ai (β.al b)))
 (aK:cj β H aI (H.set b o'))(al:fk P w' aF aI (H.set b o') ai b o')(am:o'.refs (aH (H.set b o')))(ah:∀(o:Obj)(v:Nat),H[b]?=some o->o.has v->o'.has v)(af:∀L,H[b]?=some (.loop L)->∃C,o'=.loop C)(ae:w'.os=w.os/\w'.output=w.output:=by exact⟨rfl,rfl⟩):
 bY P ai ad w β H aF w' aI (H.set b o'):=by
 have A:∀x o,x≠b->H[x]?=some o->o.live->¬ad (β.al x)->o'.live->β.al x≠aI.al b:=by
  intro x o hx d e j u he;rcases F u with a|⟨a,⟨an,c,f⟩,_⟩
  ·have:=i.mU d e;omega
  ·rw[a]at he;exact hx (i.inj x b o an d c e f j he)
 have U:o'.live->¬ai (aI.al b):=by
  intro e G;rcases F e with a|⟨a,_,_,c⟩
  ·have:=i.ey _ G;omega
  ·rw[a]at G;exact c G
 have l:∀k,ai k\/ad k->w'.heap[k]?=w.heap[k]?:=by
  intro k hk;have R:k<w.heap.size:=hk.elim (i.ey k) (i.bV k)
  by_cases z:k=aI.al b
  ·by_cases e:o'.live
   ·rcases hk with hk|hk
    ·exact(U e (z▸hk)).elim
    ·rcases F e with a|⟨a,_,c,_⟩
     ·omega
     ·rcases c with c|c
      ·exact c k (z.trans a)
      ·exact(c (by rw[<-a,<-z];exact hk)).elim
   ·exact J k (.inr e) R
  ·exact J k (.inl z) R
 have ak:∀x,aH H x->aH (H.set b o') x:=by
  rintro⟨x,v⟩ ⟨o,d,S⟩
  by_cases hx:x=b
  ·subst hx;exact⟨o',by simp[cv r],ah o v d S⟩
  ·exact⟨o,by simp only;rw[ce (ei hx)];exact d,S⟩
 have hrefs:∀v,aD (aH H) v->aD (aH (H.set b o')) v:=aD.mono ak;refine⟨g,fun k hk=>(Q k hk).imp id (fun(h:k=aI.al b/\o'.live)=>h.1▸U h.2),⟨V,l,ae⟩,aK,⟨?_,?_,?_,ag,fun k hk=>ed (i.ey k hk) V,i.ie.mono g (fun k hk=>l k (.inr hk))⟩,ak,?_⟩
 ·intro x o d
  by_cases hx:x=b
  ·subst hx;rw[cv r]at d;cases d;exact al
  ·rw[ce (ei hx)]at d;have m:=i.cC x o d;have B:=i.refs x o d;have O:=(n x hx).1;have E:=(n x hx).2;have hs:o.live->w'.heap[aI.al x]?=w.heap[β.al x]?:=by
    intro e;rw[O]
    by_cases j:ad (β.al x)
    ·exact l _ (.inr j)
    refine J _ ?_ (i.mU d e)
    by_cases u:o'.live
    ·exact .inl (A x o hx d e j u)
    ·exact .inr u
   have held:∀fz,o.live->cz ad β ai fz x->cz aF aI ai fz x:=by
    intro fz e q;unfold cz at q⊢;rw[O];cases fz with
    |true=>simp only[if_true]at q⊢;exact g _ q
    |false=>
     simp only[Bool.false_eq_true,if_false]at q⊢;refine⟨fun h=>?_,q.2⟩;rcases Q _ h with h|⟨h,u⟩
     ·exact q.1 h
     ·exact A x o hx d e q.1 u h
   cases o with
   |hole=>trivial
   |dead=>trivial
   |box fz t=>
    obtain⟨cs,T,a,c,f,p⟩:=m;exact⟨cs,T,(hs trivial).trans a,bp.mono g (fun k hk=>l k (.inr hk)) aK _ _ B c,held _ trivial f,p⟩
   |arr k aw aj es=>
    rcases m with m|⟨cs,T,Y,rest,a,c,f,p,Z,aa,ab,ac⟩
    ·exact .inl m
    ·by_cases e:df k es
     ·exact .inl e
     ·refine .inr ⟨cs,T,Y,rest,(hs e).trans a,bM.mono g (fun k hk=>l k (.inr hk)) aK _ _ _ B c,f,?_,?_,?_,held _ e ab,ac⟩
      ·rw[E];exact p
      ·rw[E];exact Z
      ·rw[E];exact aa
   |map fz es=>
    obtain⟨D,clock,a,c,f⟩:=m;exact⟨D,clock,(hs trivial).trans a,cA.mono g (fun k hk=>l k (.inr hk)) _ _ c,held _ trivial f⟩
   |dx ks vs=>
    obtain⟨D,clock,a,c,f,p⟩:=m;exact⟨D,clock,(hs trivial).trans a,bw.mono g (fun k hk=>l k (.inr hk)) _ _ c,bB.mono g (fun k hk=>l k (.inr hk)) aK _ _ B f,held _ trivial p⟩
   |dA s pos=>
    obtain⟨bs,a,c,f⟩:=m;exact⟨bs,(hs trivial).trans a,c,held _ trivial f⟩
   |loop L=>
    obtain⟨tmps,defers,fn,a,c,f,p⟩:=m;exact⟨tmps,defers,fn,(hs trivial).trans a,c,fun x=>az.mono g (fun k hk=>l k (.inr hk)) aK _ _ (B x) (f x),held _ trivial p⟩
 ·intro x y W X a c K M j he
  by_cases hx:x=b<;>by_cases hy:y=b
  ·rw[hx,hy]
  ·subst hx;rw[cv r]at a;cases a;rw[ce (ei hy)]at c;rw[(n y hy).1]at he;exact(A y X hy c M (fun hi=>j (he▸g _ hi)) K he.symm).elim
  ·subst hy;rw[cv r]at c;cases c;rw[ce (ei hx)]at a;rw[(n x hx).1]at he;rw[(n x hx).1]at j;exact(A x W hx a K (fun hi=>j (g _ hi)) M he).elim
  ·rw[ce (ei hx)]at a;rw[ce (ei hy)]at c;rw[(n x hx).1,(n y hy).1]at he;rw[(n x hx).1]at j;exact i.inj x y W X a c K M (fun hi=>j (g _ hi)) he
 ·intro x o d
  by_cases hx:x=b
  ·subst hx;rw[cv r]at d;cases d;exact am
  ·rw[ce (ei hx)]at d;have:=i.refs x o d;cases o with
   |box fz t=>exact hrefs _ this
   |arr k aw aj es=>exact cJ.2 fun v I=>hrefs v (cJ.1 this v I)
   |dx ks vs=>exact cJ.2 fun v I=>hrefs v (cJ.1 this v I)
   |loop L=>exact fun x=>hrefs _ (this x)
   |_=>trivial
 ·rintro x ⟨L,N⟩
  by_cases hx:x=b
  ·subst hx;obtain⟨C,rfl⟩:=af L N;exact⟨C,cv r⟩
  ·exact⟨L,by rw[ce (ei hx)];exact N⟩
end
end Go.ag
namespace Go.ag
variable[Gl]
def bu(P:a0)(o:Oper)(ρ:a9->AV)(a:Nat)(e:aY):Prop:=
 ∀(H:Heap)(w:a7)(ad ai:Nat->Prop)(β:Bd)(ρc:a9->a5),
  bU P w ad β H ai->(∀x∈o.op.operands,az P w ad β H (ρ x) (ρc x)/\aD (aH H) (ρ x))->(∀p∈e.ak,H[p.1]?=some p.2)->(∀i,i<e.aU.length->H[a+i]?=some .hole)->
  ∃n b w' aI aF,(be ρc o).run P w=.ok n w'/\(n=.value b\/n=.skip/\b=undef)/\
   bY P ai ad w β H aF w' aI (bf H (e.aJ++newAt a e.aU))/\az P w' aF aI (bf H (e.aJ++newAt a e.aU)) e.v b/\
   aD (aH (bf H (e.aJ++newAt a e.aU))) e.v
section
variable{P:a0}{ai ad aF:Nat->Prop}{w w':a7}{β aI:Bd}{H H':Heap}
theorem bY.refl(h:bU P w ad β H ai):bY P ai ad w β H ad w β H:=
 ⟨fun _ x=>x,fun _ x=>.inl x,Ext.refl _ _ _,cj.refl _ _,h,fun _ x=>x,fun _ x=>x⟩
theorem bu.same{o:Oper}{ρ:a9->AV}{c:Nat}{v:AV}{ak:List (Nat×Obj)}
 (h:∀(H:Heap)(w:a7)(ad ai:Nat->Prop)(β:Bd)(ρc:a9->a5),bU P w ad β H ai->(∀x∈o.op.operands,az P w ad β H (ρ x) (ρc x)/\aD (aH H) (ρ x))->
  (∀p∈ak,H[p.1]?=some p.2)->∃a,(be ρc o).run P w=.ok (.value a) w/\az P w ad β H v a/\aD (aH H) v):
 bu P o ρ c {v,ak}:=by
 intro H w ad ai β ρc b i g _;obtain⟨a,d,e,f⟩:=h H w ad ai β ρc b i g;exact⟨_,a,w,β,ad,d,.inl rfl,by simpa[newAt,bf]using bY.refl b,by simpa[newAt,bf]using e,by simpa[newAt,bf]using f⟩
theorem bY.trans{j l:Nat->Prop}{w1 n:a7}{o p:Bd}{H1 i:Heap}(h:bY P ai ad w β H j w1 o H1)(c:bY P ai j w1 o H1 l n p i):bY P ai ad w β H l n p i:=by
 refine⟨fun k x=>c.bV k (h.bV k x),fun k x=>(c.fresh k x).elim (h.fresh k) .inr,h.ext.trans (fun _ x=>x) h.bV c.ext,⟨?_,?_,?_,?_,?_⟩,c.rel,fun b a=>c.fh b (h.fh _ a),fun b a=>c.loop b (h.loop b a)⟩
 ·intro b a g;obtain⟨d,a2⟩:=c.step.box b (h.fh _ a) g;obtain⟨e,f⟩:=h.step.box b a d;exact⟨e,a2.trans f⟩
 ·intro b a g;obtain⟨d,a2⟩:=c.step.it b (h.fh _ a) g;obtain⟨e,f⟩:=h.step.it b a d;exact⟨e,a2.trans f⟩
 ·intro b a g;obtain⟨d,a2⟩:=c.step.map b (h.fh _ a) g;obtain⟨e,f⟩:=h.step.map b a d;exact⟨e,a2.trans f⟩
 ·intro b aw aj k s a g;obtain⟨k1,t,d,a2,a3,a4⟩:=c.step.arr b aw aj k s (h.fh _ a) g;obtain⟨k0,gD,e,f,q,r⟩:=h.step.arr b aw aj k1 t a d;refine⟨k0,gD,e,ec f a2,a3.trans q,fun m=>?_⟩;obtain⟨c1,c2⟩:=a4 m;obtain⟨d1,d2⟩:=r (fun x=>m (a3.2 x));exact⟨c1.trans d1,c2.trans d2⟩
 ·intro b a g;obtain⟨d,a2⟩:=c.step.loop b (h.fh _ a) g;obtain⟨e,f⟩:=h.step.loop b a d;exact⟨e,a2.trans f⟩
theorem Ck(H:Heap)(l r:List (Nat×Obj)):bf H (l++r)=bf (bf H l) r:=by
 induction l generalizing H with
 |nil=>rfl
 |cons p l a=>obtain⟨b,o⟩:=p;simp[bf,a]
theorem pN(H:Heap)(l:List (Nat×Obj)):(bf H l).length=H.length:=by
 induction l generalizing H with
 |nil=>rfl
 |cons p l a=>obtain⟨b,o⟩:=p;simp[bf,a]
theorem zg(H T:Heap)(l:List (Nat×Obj))(h:∀p∈l,p.1<H.length):bf (H++T) l=bf H l++T:=by
 induction l generalizing H with
 |nil=>rfl
 |cons p l c=>
  obtain⟨b,o⟩:=p;have a:b<H.length:=h (b,o) (by simp);simp only[bf];rw[List.set_append_left _ _ a,c];intro q hq;rw[List.length_set];exact h q (by simp[hq])
theorem CB(H:Heap)(l:List Obj):bf (H++cc l.length .hole) (newAt H.length l)=H++l:=by
 induction l generalizing H with
 |nil=>simp[newAt,bf]
 |cons o l a=>
  simp only[newAt,bf,dz,dk];rw[List.set_append_right _ _ (eb _)];simp only[Nat.sub_self,dl];have:=a (H++[o]);simp only[dp,List.length_singleton,dq,List.singleton_append]at this;exact this
theorem kf(H:Heap)(m b:Nat):(H++cc m Obj.hole)[b]?=if b<H.length then H[b]? else if b<H.length+m then some .hole else none:=by
 by_cases h:b<H.length
 ·simp[h,cx]
 ·rw[c6 (by omega)];simp only[List.getElem?_replicate,h,if_false]
  by_cases a:b<H.length+m
  ·simp[a,show b-H.length<m by omega]
  ·simp[a,show¬(b-H.length<m)by omega]
theorem nO{H:Heap}{m b:Nat}{o:Obj}(h:(H++cc m Obj.hole)[b]?=some o):H[b]?=some o\/o=.hole:=by
 rw[kf]at h
 split at h
 ·exact .inl h
 ·split at h
  ·exact .inr (by simpa using h.symm)
  ·simp at h
theorem mR(H:Heap)(m:Nat)(b:Nat×Nat)(h:aH H b):aH (H++cc m Obj.hole) b:=by
 obtain⟨o,a,d⟩:=h;have c:b.1<H.length:=(ck.1 a).1;exact⟨o,by rw[kf,if_pos c];exact a,d⟩
theorem pP(β:Bd)(H:Heap)(m:Nat):cj β H β (H++cc m .hole):=by
 refine⟨?_,?_,?_,?_,?_⟩
 ·rintro b _ ⟨fz,t,h⟩;rcases nO h with h|h<;>simp_all [mW]
 ·rintro b _ ⟨fz,t,h⟩;rcases nO h with h|h<;>simp_all [mX]
 ·rintro b _ ⟨o,h,a⟩;rcases nO h with h|rfl
  ·exact⟨⟨o,h,a⟩,rfl⟩
  ·exact a.elim
 ·intro b aw aj k c _ h;rcases nO h with h|h
  ·exact⟨k,c,h,eb _,Iff.rfl,fun _=>⟨rfl,rfl⟩⟩
  ·simp at h
 ·rintro b _ ⟨L,h⟩;rcases nO h with h|h<;>simp_all [gM]
theorem Obj.xc{S T:Nat×Nat->Prop}(h:∀x,S x->T x):∀{o:Obj},o.refs S->o.refs T
 | .box _ t,a=>aD.mono h t a
 | .arr _ _ _ es,a=>aV.mono h es a
 | .dx _ vs,a=>aV.mono h vs a
 | .loop _L,a=>fun x=>aD.mono h _ (a x)
 | .hole,_| .dead,_| .map _ _,_| .dA _ _,_=>trivial
theorem bU.nw(m:Nat)(h:bU P w ad β H ai):bU P w ad β (H++cc m .hole) ai:=by
 refine⟨?_,?_,?_,h.bV,h.ey,h.ie⟩
 ·intro b o d;rcases nO d with d|rfl
  ·have e:=h.cC b o d;have g:=h.refs b o d;have st:=pP β H m;cases o with
   |hole=>trivial
   |dead=>trivial
   |box fz t=>
    obtain⟨cs,T,a,c,f⟩:=e;exact⟨cs,T,a,bp.mono (fun _ x=>x) (fun _ _=>rfl) st _ _ g c,f⟩
   |arr k aw aj es=>
    rcases e with e|⟨cs,T,n,rest,a,c,f⟩
    ·exact .inl e
    ·exact .inr ⟨cs,T,n,rest,a,bM.mono (fun _ x=>x) (fun _ _=>rfl) st _ _ _ g c,f⟩
   |map fz es=>exact e
   |dx ks vs=>
    obtain⟨p,clock,a,c,f,i⟩:=e;exact⟨p,clock,a,c,bB.mono (fun _ x=>x) (fun _ _=>rfl) st _ _ g f,i⟩
   |dA s pos=>exact e
   |loop L=>
    obtain⟨tmps,defers,fn,a,c,f,i⟩:=e;exact⟨tmps,defers,fn,a,c,fun x=>az.mono (fun _ x=>x) (fun _ _=>rfl) st _ _ (g x) (f x),i⟩
  ·trivial
 ·intro x y u v a c j l r q;rcases nO a with a|rfl
  ·rcases nO c with c|rfl
   ·exact h.inj x y u v a c j l r q
   ·exact l.elim
  ·exact j.elim
 ·intro b o d;rcases nO d with d|rfl
  ·exact Obj.xc (mR H m) (h.refs b o d)
  ·trivial
theorem bu.use{o:Oper}{ρ:a9->AV}{e:aY}(h:bu P o ρ H.length e){ρc:a9->a5}(k:bU P w ad β H ai)
 (c:∀x∈o.op.operands,az P w ad β H (ρ x) (ρc x)/\aD (aH H) (ρ x))(ak:∀p∈e.ak,H[p.1]?=some p.2)(aJ:∀p∈e.aJ,p.1<H.length):
 ∃n a w' aI aF,(be ρc o).run P w=.ok n w'/\(n=.value a\/n=.skip/\a=undef)/\
  bY P ai ad w β H aF w' aI (bf H e.aJ++e.aU)/\az P w' aF aI (bf H e.aJ++e.aU) e.v a/\aD (aH (bf H e.aJ++e.aU)) e.v:=by
 have aK:=pP β H e.aU.length;obtain⟨n,a,w',aI,aF,m,q,d,f,g⟩:=h (H++cc e.aU.length .hole) w ad ai β ρc (k.nw _)
  (fun x hx=>⟨az.mono (fun _ x=>x) (fun _ _=>rfl) aK _ _ (c x hx).2 (c x hx).1,aD.mono (mR _ _) _ (c x hx).2⟩)
  (fun p s=>by have:=ak p s;rw[kf,if_pos (ck.1 this).1];exact this)
  (fun i hi=>by rw[kf,if_neg (by omega),if_pos (by omega)])
 have r:bf (H++cc e.aU.length .hole) (e.aJ++newAt H.length e.aU)=bf H e.aJ++e.aU:=by
  rw[Ck,zg _ _ _ aJ];have:=CB (bf H e.aJ) e.aU
  rwa [pN]at this
 rw[r]at d f g;refine⟨n,a,w',aI,aF,m,q,?_,f,g⟩;have l:bY P ai ad w β H ad w β (H++cc e.aU.length .hole):=⟨fun _ x=>x,fun _ x=>.inl x,Ext.refl _ _ _,aK,k.nw _,mR _ _,fun b⟨L,j⟩=>⟨L,by rw[kf,if_pos (ck.1 j).1];exact j⟩⟩
 exact l.trans d
theorem sQ.use{f:a8}{args:List AV}{e:aY}(h:sQ P f args H.length e)(m:qJ H e){c:List a5}(n:bU P w ad β H ai)(r:bB P w ad β H args c)(o:aV (aH H) args):
 bv P f c.toArray w fun x w'=>∃a aI aF,x=.returned a/\bY P ai ad w β H aF w' aI (bf H e.aJ++e.aU)/\az P w' aF aI (bf H e.aJ++e.aU) e.v a/\aD (aH (bf H e.aJ++e.aU)) e.v:=by
 have aK:=pP β H e.aU.length;refine(h.2 (H++cc e.aU.length .hole) w ad ai β c (n.nw _)
  (bB.mono (fun _ x=>x) (fun _ _=>rfl) aK _ _ o r) (aV.mono (mR _ _) _ o)
  (fun p d=>by have:=m.1 p d;rw[kf,if_pos (ck.1 this).1];exact this)
  (fun i hi=>by rw[kf,if_neg (by omega),if_pos (by omega)])).mono ?_
 rintro x w' ⟨a,aI,aF,rfl,g,j,k⟩;have s:bf (H++cc e.aU.length .hole) (e.aJ++newAt H.length e.aU)=bf H e.aJ++e.aU:=by
  rw[Ck,zg _ _ _ (fun p d=>(m.2 p d).1)];have:=CB (bf H e.aJ) e.aU
  rwa [pN]at this
 rw[s]at g j k;have q:bY P ai ad w β H ad w β (H++cc e.aU.length .hole):=⟨fun _ x=>x,fun _ x=>.inl x,Ext.refl _ _ _,aK,n.nw _,mR _ _,fun b⟨L,l⟩=>⟨L,by rw[kf,if_pos (ck.1 l).1];exact l⟩⟩
 exact⟨a,aI,aF,rfl,q.trans g,j,k⟩
end
def l6(P:a0)(ah:a8->Bool):Prop:=
 ∀(o:Oper)(ρ:a9->AV)(H:Heap)(K:aY->Prop),(∀v,ρ (.const v)=.p (ofConst v))->fE P ah o ρ H K->
  ∃e,K e/\bu P o ρ H.length e/\(∀p∈e.ak,H[p.1]?=some p.2)/\(∀p∈e.aJ,p.1<H.length/\p.2≠.hole)
section
variable{P:a0}{ah:a8->Bool}{n:Nat}
theorem Jh{w:a7}{ad:Nat->Prop}(v:a5):aC P w ad (ofConst v) v:=by
 unfold ofConst
 split<;>simp[aC]
theorem om{ai ad:Nat->Prop}{β:Bd}{s:St}{t:Array a5}{w:a7}(h:cN P n ai ad β s t w)(x:a9):
 az P w ad β s.heap (ev s.env x) (fF t x)/\aD (aH s.heap) (ev s.env x):=by
 cases x with
 |tmp x=>exact⟨h.env x,h.gC x⟩
 |const v=>exact⟨by simp only[ev,fF,az];exact Jh v,by simp[ev,aD]⟩
 |global g=>exact⟨by simp only[ev,fF,az];exact h.heap.ie.val g,by simp[ev,aD]⟩
 |func f=>exact⟨by simp[ev,fF,az,aC,bw],by simp[ev,aD]⟩
def iU(n:Nat)(o:Oper):Bool:=
 match o.dst with
 |some d=>decide (d<n)
 |none=>true
theorem wT(e:Env)(dst:Option Tmp)(v:AV)(x:Nat):aN (put dst v e) x=if dst=some x then v else aN e x:=by
 cases dst with
 |none=>simp[put]
 |some d=>
  simp only[put,aN,Option.some.injEq]
  by_cases h:x=d
  ·simp[h]
  ·simp[h,ei h]
theorem W6{n:Nat}{o:Oper}(a:iU n o=true){t:Array a5}(c:t.size=n)(v:a5)(x:Nat):(nF o.dst v t).getD x undef=if o.dst=some x then v else t.getD x undef:=by
 unfold iU at a;cases b:o.dst with
 |none=>simp[nF]
 |some d=>
  simp only[b,decide_eq_true_eq]at a;simp only[nF,Option.some.injEq]
  by_cases h:d=x
  ·subst h;simp[c,a]
  ·simp only[h,if_false,Array.getD_eq_getD_getElem?,Array.getElem?_setIfInBounds_ne h]
theorem WJ{t:Array a5}(dst:Option Tmp)(v:a5):(nF dst v t).size=t.size:=by cases dst<;>simp[nF]
theorem cN.put{ai ad aF:Nat->Prop}{β aI:Bd}{s:St}{H':Heap}{t:Array a5}{w w':a7}{o:Oper}{v:AV}{b:a5}(h:cN P n ai ad β s t w)(c:iU n o=true)
 (a:bY P ai ad w β s.heap aF w' aI H')(e:az P w' aF aI H' v b)(d:aD (aH H') v):
 cN P n ai aF aI ⟨put o.dst v s.env,H'⟩ (nF o.dst b t) w':=by
 refine⟨a.rel,fun x=>?_,fun x=>?_,by rw[WJ];exact h.size⟩
 ·rw[wT,W6 c h.size]
  split
  ·exact e
  ·exact az.mono a.bV (fun k hk=>a.ext.same k (.inr hk)) a.step _ _ (h.gC x) (h.env x)
 ·rw[wT]
  split
  ·exact d
  ·exact aD.mono a.fh _ (h.gC x)
theorem KX{H T:Heap}{b:Nat×Nat}(h:aH H b):aH (H++T) b:=by
 obtain⟨o,a,c⟩:=h;exact⟨o,by rw[cx (ck.1 a).1];exact a,c⟩
theorem bU.later{ai ad aF:Nat->Prop}{w w':a7}{β:Bd}{H:Heap}(h:bU P w ad β H ai)(e:∀k,ad k->aF k)(hf:∀k,aF k->ad k\/w.heap.size<=k)
 (B:∀k,aF k->k<w'.heap.size)(q:w.heap.size<=w'.heap.size)(hs:∀k,k<w.heap.size->w'.heap[k]?=w.heap[k]?)(A:w'.os=w.os/\w'.output=w.output:=by exact⟨rfl,rfl⟩):bY P ai ad w β H aF w' β H:=by
 have same:∀k,ad k->w'.heap[k]?=w.heap[k]?:=fun k hk=>hs k (h.bV k hk);refine⟨e,fun k hk=>(hf k hk).imp id (fun c a=>by have:=h.ey k a;omega),⟨q,fun k hk=>hs k (hk.elim (h.ey k) (h.bV k)),A⟩,cj.refl _ _,?_,fun _ x=>x,fun _ x=>x⟩;refine⟨fun b o m=>?_,fun b b' o o' c a D E C=>h.inj b b' o o' c a D E (fun hi=>C (e _ hi)),h.refs,B,fun k hk=>ed (h.ey k hk) q,h.ie.mono e same⟩;have f:=h.cC b o m;have n:=h.refs b o m;have held:∀fz,o.live->cz ad β ai fz b->cz aF β ai fz b:=by
  intro fz i l;have:=h.mU m i;unfold cz at l⊢;cases fz with
  |true=>exact e _ l
  |false=>exact⟨fun x=>(hf _ x).elim l.1 (by omega),l.2⟩
 have j:o.live->w'.heap[β.al b]?=w.heap[β.al b]?:=fun i=>hs _ (h.mU m i);cases o with
 |hole=>trivial
 |dead=>trivial
 |box fz t=>
  obtain⟨cs,T,c,a,d,g⟩:=f;exact⟨cs,T,(j trivial).trans c,bp.mono e same (cj.refl _ _) _ _ n a,held _ trivial d,g⟩
 |arr k aw aj es=>
  rcases f with f|⟨cs,T,r,rest,c,a,d,g,u,v,y,z⟩
  ·exact .inl f
  ·by_cases i:df k es
   ·exact .inl i
   ·exact .inr ⟨cs,T,r,rest,(j i).trans c,bM.mono e same (cj.refl _ _) _ _ _ n a,d,g,u,v,held _ i y,z⟩
 |map fz es=>
  obtain⟨p,clock,c,a,d⟩:=f;exact⟨p,clock,(j trivial).trans c,cA.mono e same _ _ a,held _ trivial d⟩
 |dx ks vs=>
  obtain⟨p,clock,c,a,d,g⟩:=f;exact⟨p,clock,(j trivial).trans c,bw.mono e same _ _ a,bB.mono e same (cj.refl _ _) _ _ n d,held _ trivial g⟩
 |dA s pos=>
  obtain⟨bs,c,a,d⟩:=f;exact⟨bs,(j trivial).trans c,a,held _ trivial d⟩
 |loop L=>
  obtain⟨tmps,defers,fn,c,a,d,g⟩:=f;exact⟨tmps,defers,fn,(j trivial).trans c,a,fun x=>az.mono e same (cj.refl _ _) _ _ (n x) (d x),held _ trivial g⟩
theorem pR{w:a7}{ad:Nat->Prop}{β:Bd}{H:Heap}:∀{a b:List AV}{x y:List a5},bB P w ad β H a x->bB P w ad β H b y->bB P w ad β H (a++b) (x++y)
 |[],b,x,y,h,c=>by simp only[bB]at h;subst h;simpa using c
 |v::a,b,x,y,h,c=>by
  simp only[bB]at h;obtain⟨z,f,rfl,d,e⟩:=h;simp only[ea,bB];exact⟨z,f++y,rfl,d,pR e c⟩
theorem jF{S:Nat×Nat->Prop}{a b:List AV}(h:aV S a)(d:aV S b):aV S (a++b):=by
 rw[cJ]at*;intro v c;rcases List.mem_append.1 c with c|c
 ·exact h v c
 ·exact d v c
theorem wX{ai ad:Nat->Prop}{β:Bd}{s:St}{t:Array a5}{w:a7}(h:cN P n ai ad β s t w):∀l:List a9,
 bB P w ad β s.heap (l.map (ev s.env)) (l.map (fF t))/\aV (aH s.heap) (l.map (ev s.env))
 |[]=>by simp[bB,aV]
 |x::l=>by
  have a:=om h x;have b:=wX h l;simp only[cy,bB,aV];exact⟨⟨_,_,rfl,a.1,b.1⟩,a.2,b.2⟩
end
section
variable{P:a0}{w:a7}{ad ai:Nat->Prop}{β:Bd}{H:Heap}
def Bd.at(β:Bd)(b al cap:Nat):Bd:=⟨fun x=>if x=b then al else β.al x,fun x=>if x=b then cap else β.cap x⟩
theorem zM{b:Nat}(f:H[b]?=some .hole)(o':Obj)(al cap:Nat):cj β H (β.at b al cap) (H.set b o'):=by
 have a:∀{x v},aH H (x,v)->x≠b:=by
  rintro x v ⟨o,d,i⟩ rfl;simp only at d;rw[f]at d;cases d;exact i
 have c:∀{x v},aH H (x,v)->(H.set b o')[x]?=H[x]?:=fun hx=>ce (ei (a hx));refine⟨?_,?_,?_,?_,?_⟩
 ·rintro x hx ⟨fz,t,h⟩;rw[c hx]at h;exact⟨⟨fz,t,h⟩,by simp[Bd.at,a hx]⟩
 ·rintro x hx ⟨fz,t,h⟩;rw[c hx]at h;exact⟨⟨fz,t,h⟩,by simp[Bd.at,a hx]⟩
 ·rintro x hx ⟨o,h,g⟩;rw[c hx]at h;exact⟨⟨o,h,g⟩,by simp[Bd.at,a hx]⟩
 ·intro x aw aj k e hx h;unfold eS at h;rw[c hx]at h;exact⟨k,e,h,eb _,Iff.rfl,fun _=>by simp[Bd.at,a hx]⟩
 ·rintro x hx ⟨L,h⟩;rw[c hx]at h;exact⟨⟨L,h⟩,by simp[Bd.at,a hx]⟩
theorem uh(e:bU P w ad β H ai){a:Nat}(b:H[a]?=some .hole){ob:Go.Obj}{o':Obj}{cap:Nat}
 (g:fk P {w with heap:=w.heap.push ob} ad (β.at a w.heap.size cap) (H.set a o') ai a o')(h:o'.refs (aH (H.set a o'))):
 bY P ai ad w β H ad {w with heap:=w.heap.push ob} (β.at a w.heap.size cap) (H.set a o'):=by
 refine bY.set e (ck.1 b).1 (fun x hx=>by simp[Bd.at,hx]) (fun _ x=>x) (fun _ x=>.inl x) (fun k hk=>by have:=e.bV k hk;simp;omega) (by simp)
  (fun k _ hk=>by simp[ax,ee hk]) (fun _=>.inl (by simp[Bd.at])) (zM b _ _ _) g h (fun i v c f=>by rw[b]at c;cases c;exact f.elim) (fun L d=>by rw[b]at d;cases d)
theorem wP(w:a7)(a:Go.Obj){k:Nat}(hk:k<w.heap.size):({w with heap:=w.heap.push a}:a7).heap[k]?=w.heap[k]?:=by
 simp[ax,ee hk]
end
section
variable{P:a0}{w:a7}{ad aF ai:Nat->Prop}{β:Bd}{H:Heap}
def Row(P:a0)(w:a7)(ad:Nat->Prop)(β:Bd)(H:Heap)(aj:Nat)(a:List AV)(b:List (List a5)):Prop:=bM P w ad β H (cc a.length aj) a b
theorem hJ{aj:Nat}{a:List (List a5)}:Row P w ad β H aj [] a↔a=[]:=by simp[Row,bM]
theorem rD{aj:Nat}{v:AV}{b:List AV}{a:List (List a5)}:Row P w ad β H aj (v::b) a↔∃c cs,a=c::cs/\bp P w ad β H v c/\c.length=aj/\Row P w ad β H aj b cs:=by
 simp[Row,dk,bM]
theorem lB{aj:Nat}:∀{a b:List AV}{d:List (List a5)},Row P w ad β H aj (a++b) d↔∃c1 c2,d=c1++c2/\Row P w ad β H aj a c1/\Row P w ad β H aj b c2
 |[],b,d=>by
  simp only[List.nil_append];constructor
  ·intro h;exact⟨[],d,rfl,hJ.2 rfl,h⟩
  ·rintro⟨c1,c2,rfl,e,f⟩;rw[hJ.1 e];simpa using f
 |v::a,b,d=>by
  simp only[ea,rD];constructor
  ·rintro⟨c,cs,rfl,e,f,g⟩;obtain⟨c1,c2,rfl,i,j⟩:=lB.1 g;exact⟨c::c1,c2,rfl,⟨c,c1,rfl,e,f,i⟩,j⟩
  ·rintro⟨c1,c2,rfl,⟨c,cs,rfl,e,f,g⟩,i⟩;exact⟨c,cs++c2,rfl,e,f,lB.2 ⟨cs,c2,rfl,g,i⟩⟩
theorem fN{aj:Nat}:∀{b:List AV}{a:List (List a5)},Row P w ad β H aj b a->a.length=b.length/\a.flatten.length=b.length*aj
 |[],a,h=>by rw[hJ]at h;subst h;simp
 |v::b,a,h=>by
  rw[rD]at h;obtain⟨c,cs,rfl,f,d,e⟩:=h;have:=fN e;simp only[dz,List.flatten_cons,dp,this,d,Nat.succ_mul];exact⟨trivial,by omega⟩
theorem mf{aj:Nat}{a:List PV}{b:List (List a5)}:Row P w ad β H aj (a.map .p) b↔bd P w ad (cc a.length aj) a b:=by
 unfold Row;rw[List.length_map];exact nY
theorem jG{aj:Nat}{d:List AV}{e:List (List a5)}(h:Row P w ad β H aj d e)(off len:Nat)(k:off+len<=d.length):
 ∃a b c,e=a++b++c/\Row P w ad β H aj ((d.drop off).take len) b/\a.flatten.length=off*aj/\Row P w ad β H aj (d.take off) a/\Row P w ad β H aj (d.drop (off+len)) c:=by
 have e1:d=d.take off++((d.drop off).take len++d.drop (off+len)):=by
  rw[<-List.drop_drop,db,db]
 rw[e1,lB]at h;obtain⟨a,r,rfl,f,g⟩:=h;rw[lB]at g;obtain⟨b,c,rfl,i,j⟩:=g;refine⟨a,b,c,by simp,i,?_,f,j⟩;have:=(fN f).2;rw[this,List.length_take,Nat.min_eq_left (by omega)]
theorem l8{cs:Array a5}{T:a1}{fz:Nat×Nat}{al:Nat}(a:w.heap[al]?=some (.cells cs T fz)){pre xs post:List a5}(hc:cs.toList=pre++xs++post):
 gL w al pre.length xs:=by
 intro i hi;have:cs[pre.length+i]?=some xs[i]:=by
  rw[<-Array.getElem?_toList,hc,dq,c6 (by omega)];simp only[Nat.add_sub_cancel_left];rw[cx hi,List.getElem?_eq_getElem hi]
 simp[World.cell?,a,this]
theorem Co(a:List PV)(off len:Nat):(((a.map AV.p).drop off).take len)=((a.drop off).take len).map .p:=by
 rw[<-List.map_drop,<-List.map_take]
theorem mg{H:Heap}{b:Nat}{d o:Obj}(c:H[b]?=some d)(e:∀v,d.has v->o.has v):∀x,aH H x->aH (H.set b o) x:=by
 rintro⟨x,v⟩ ⟨f,a,h⟩
 by_cases hx:b=x
 ·subst hx;simp only at a;rw[c]at a;cases a;exact⟨o,by simp only;rw[cv (ck.1 c).1],e v h⟩
 ·exact⟨f,by simp only;rw[ce hx];exact a,h⟩
theorem tR{b:Nat}{o o':Obj}(m:H[b]?=some o)(hk:(∃f g t,o= .box f t/\o'= .box g t)\/(∃k n v z c,o= .arr k v z c/\o'= .arr n v z c/\¬df k c/\¬df n c)\/(∃f g c,o= .map f c/\o'= .map g c)):
 cj β H β (H.set b o'):=by
 have u:b<H.length:=(ck.1 m).1;have i:∀x,x≠b->(H.set b o')[x]?=H[x]?:=fun x hx=>ce (ei hx);have e:(H.set b o')[b]?=some o':=cv u;refine⟨?_,?_,?_,?_,?_⟩
 ·rintro x _ ⟨fz,t,h⟩;refine⟨?_,rfl⟩
  by_cases hx:x=b
  ·subst hx;rw[e]at h;cases h;rcases hk with⟨f,g,l,d,a⟩|⟨_,_,_,_,_,_,a,_⟩|⟨_,_,_,_,a⟩
   ·exact⟨f,l,by rw[m,d]⟩
   ·cases a
   ·cases a
  ·rw[i x hx]at h;exact⟨fz,t,h⟩
 ·rintro x _ ⟨s,p,h⟩;refine⟨?_,rfl⟩
  by_cases hx:x=b
  ·subst hx;rw[e]at h;cases h;rcases hk with⟨f,g,l,d,a⟩|⟨_,_,_,_,_,_,a,_⟩|⟨_,_,_,_,a⟩<;>cases a
  ·rw[i x hx]at h;exact⟨s,p,h⟩
 ·rintro x _ ⟨w,h,j⟩;refine⟨?_,rfl⟩
  by_cases hx:x=b
  ·subst hx;rw[e]at h;cases h;rcases hk with⟨f,g,l,d,a⟩|⟨_,_,_,_,_,_,a,_⟩|⟨f,g,c,d,a⟩
   ·rw[a]at j;exact j.elim
   ·rw[a]at j;exact j.elim
   ·exact⟨o,m,by rw[d];trivial⟩
  ·rw[i x hx]at h;exact⟨w,h,j⟩
 ·intro x aw aj k c _ h
  by_cases hx:x=b
  ·subst hx;unfold eS at h⊢;rw[e]at h;cases h;rcases hk with⟨f,g,l,d,a⟩|⟨k0,n,v,z,y,d,a,q,r⟩|⟨f,g,c,d,a⟩
   ·cases a
   ·cases a;exact⟨k0,c,by rw[m,d],eb _,⟨fun x=>(r x).elim,fun x=>(q x).elim⟩,fun _=>⟨rfl,rfl⟩⟩
   ·cases a
  ·unfold eS at h⊢;rw[i x hx]at h;exact⟨k,c,h,eb _,Iff.rfl,fun _=>⟨rfl,rfl⟩⟩
 ·rintro x _ ⟨L,h⟩;refine⟨?_,rfl⟩
  by_cases hx:x=b
  ·subst hx;rw[e]at h;cases h;rcases hk with⟨f,g,l,d,a⟩|⟨_,_,_,_,_,_,a,_⟩|⟨_,_,_,_,a⟩<;>cases a
  ·rw[i x hx]at h;exact⟨L,h⟩
theorem cz.uP{fz:Bool}{b:Nat}(h:cz ad β ai fz b):ad (β.al b)\/(¬ad (β.al b)/\¬ai (β.al b)):=by
 cases fz with
 |true=>exact .inl h
 |false=>exact .inr h
theorem tW(e:bU P w ad β H ai){b:Nat}{o o':Obj}(f:H[b]?=some o)(r:o.live)(Q:o'.live)(A:∀v,o.has v->o'.has v)(u:∀L,o≠ .loop L)
 (aK:cj β H β (H.set b o'))(O:ad (β.al b)\/(¬ad (β.al b)/\¬ai (β.al b)))
 (aU:∀aF:Nat->Prop,(∀k,ad k->aF k)->aF (β.al b)->fk P w aF β (H.set b o') ai b o')(B:o'.refs (aH (H.set b o'))):
 ∃aF,bY P ai ad w β H aF w β (H.set b o')/\aF (β.al b):=by
 have q:b<H.length:=(ck.1 f).1
 by_cases hi:ad (β.al b)
 ·
  refine⟨ad,?_,hi⟩;have ak:=mg f A;refine⟨fun _ x=>x,fun _ x=>.inl x,Ext.refl _ _ _,aK,⟨?_,?_,?_,e.bV,e.ey,e.ie⟩,ak,fun x⟨L,j⟩=>⟨L,by
   by_cases hx:b=x
   ·subst hx;rw[f]at j;cases j;exact(u L rfl).elim
   ·rw[ce hx];exact j⟩⟩
  ·intro x l d
   by_cases hx:x=b
   ·subst hx;rw[cv q]at d;cases d;exact aU ad (fun _ x=>x) hi
   ·rw[ce (ei hx)]at d;have g:=e.cC x l d;have m:=e.refs x l d;cases l with
    |hole=>trivial
    |dead=>trivial
    |box fz t=>
     obtain⟨cs,T,a,c,i⟩:=g;exact⟨cs,T,a,bp.mono (fun _ x=>x) (fun _ _=>rfl) aK _ _ m c,i⟩
    |arr k aw aj es=>
     rcases g with g|⟨cs,T,K,rest,a,c,i⟩
     ·exact .inl g
     ·exact .inr ⟨cs,T,K,rest,a,bM.mono (fun _ x=>x) (fun _ _=>rfl) aK _ _ _ m c,i⟩
    |map fz es=>exact g
    |dx ks vs=>
     obtain⟨M,clock,a,c,i,p⟩:=g;exact⟨M,clock,a,c,bB.mono (fun _ x=>x) (fun _ _=>rfl) aK _ _ m i,p⟩
    |dA s pos=>exact g
    |loop L=>
     obtain⟨tmps,defers,fn,a,c,i,p⟩:=g;exact⟨tmps,defers,fn,a,c,fun x=>az.mono (fun _ x=>x) (fun _ _=>rfl) aK _ _ (m x) (i x),p⟩
  ·intro x y E X a c U V R N;have conv:∀(z:Nat)(n:Obj),(H.set b o')[z]?=some n->n.live->∃F:Obj,H[z]?=some F/\F.live:=by
    intro z n C W
    by_cases D:z=b
    ·subst D;exact⟨o,f,r⟩
    ·rw[ce (ei D)]at C;exact⟨n,C,W⟩
   obtain⟨G,I,c1⟩:=conv x E a U;obtain⟨a2,J,c2⟩:=conv y X c V;exact e.inj x y G a2 I J c1 c2 R N
  ·intro x l d
   by_cases hx:x=b
   ·subst hx;rw[cv q]at d;cases d;exact B
   ·rw[ce (ei hx)]at d;exact Obj.xc ak (e.refs x l d)
 ·refine⟨fun k=>ad k\/k=β.al b,?_,.inr rfl⟩;have S:=O.resolve_left hi;exact bY.set e q (fun _ _=>⟨rfl,rfl⟩) (fun _ x=>.inl x) (fun k hk=>hk.imp id (fun h=>⟨h,Q⟩)) (fun k hk=>hk.elim (e.bV k) (fun h=>h▸e.mU f r)) (eb _)
   (fun _ _ _=>rfl) (fun _=>.inr ⟨rfl,⟨o,f,r⟩,.inl (fun _ _=>rfl),S.2⟩) aK (aU _ (fun _ x=>.inl x) (.inr rfl)) B (fun E v a c=>by rw[f]at a;cases a;exact A v c) (fun L j=>by rw[f]at j;cases j;exact(u L rfl).elim)
theorem KK{z:AV}{pv:PV}{H1:Heap}{v:a5}(d:kW H z=some (pv,H1))(i:bU P w ad β H ai)(f:az P w ad β H z v)(Z:aD (aH H) z):
 ∃aF,bY P ai ad w β H aF w β H1/\aC P w aF pv v:=by
 cases z with
 |p t=>
  simp[kW]at d;obtain⟨rfl,rfl⟩:=d;exact⟨ad,bY.refl i,by simpa[az]using f⟩
 |sl b aw aj off len=>
  simp only[kW]at d
  split at d
  case h_2=>simp at d
  rename_i k aa W j g
  split at d
  case isFalse=>simp at d
  rename_i O;obtain⟨rfl,rfl,Y⟩:=O;simp only[az]at f;obtain⟨_,f⟩:=f;simp only[bR]at f;obtain⟨v1,v2,v3⟩:=f k j g
  split at d
  ·rename_i u;simp at d;obtain⟨rfl,rfl⟩:=d;exact⟨ad,bY.refl i,by simp[aC,v2 u]⟩
  ·rename_i u
   split at d
   case h_2=>simp at d
   rename_i J R;simp at d;obtain⟨rfl,rfl⟩:=d;have A:=me R;have E:=i.cC b _ g;rcases E with E|⟨cs,T,F,rest,n,l,r,B,L,M,N,X⟩
   ·exact(u E).elim
   have I:¬df .frozen j:=fun h=>by cases h.1
   have aK:cj β H β (H.set b (.arr .frozen aw aj j)):=tR g (.inr (.inl ⟨_,_,_,_,_,rfl,rfl,u,I⟩));obtain⟨aF,q,y⟩:=tW i g u (o':=.arr .frozen aw aj j) I (fun _ h=>h) (fun _ h=>by cases h) aK N.uP
    (fun aF hi x=>.inr ⟨cs,T,F,rest,n,bM.mono hi (fun _ _=>rfl) aK _ _ _ (i.refs b _ g) l,r,B,L,(fun h=>by cases h),x,fun _ e C=>(by rw[A]at C;simp at C;obtain⟨a,_,rfl⟩:=C;trivial),fun h=>by cases h⟩)
    (by rw[A];exact jb _ _)
   refine⟨aF,q,?_⟩;rw[v3 u];have S:Row P w aF β H aj j F:=bM.mono q.bV (fun _ _=>rfl) (cj.refl _ _) _ _ _ (i.refs b _ g) l;obtain⟨a,m,c,e1,e2,e3,e4,e5⟩:=jG S off len v1;rw[A,Co,mf]at e2;have D:((J.drop off).take len).length=len:=by
    have:j.length=J.length:=by rw[A];simp
    simp;omega
   simp only[aC];refine⟨β.al b,off*aj,β.cap b-off,aj,m,e2,fun _=>y,?_,?_,?_,none,.inl rfl,?_⟩
   ·rw[<-e3];exact l8 n (post:=c.flatten++rest) (by rw[r,e1];simp)
   ·intro hf;simp at hf;rw[D,M hf.1];omega
   ·rw[D];omega
   ·rw[D]
 |ptr b path=>
  simp only[kW]at d
  split at d
  case h_2=>simp at d
  rename_i fz t g
  split at d
  case h_2=>simp at d
  rename_i s hs;simp at d;obtain⟨rfl,rfl⟩:=d;simp only[az]at f;obtain⟨_,f⟩:=f;simp only[bR]at f;obtain⟨V,U,o,rfl,Q,f⟩:=f;obtain⟨rfl,rfl⟩:=f (.inl ⟨fz,_,g⟩);obtain⟨cs,T,n,l,r,B⟩:=i.cC b _ g;have aK:cj β H β (H.set b (.box true (.p t))):=tR g (.inl ⟨_,_,_,rfl,rfl⟩);obtain⟨aF,q,y⟩:=tW i g trivial (o':=.box true (.p t)) trivial (fun _ h=>h) (fun _ h=>by cases h) aK r.uP
   (fun aF hi x=>⟨cs,T,n,bp.mono hi (fun _ _=>rfl) aK _ _ (by simp[aD]) l,x,fun _=>trivial,B.2⟩) (by simp[Obj.refs,aD])
  refine⟨aF,q,?_⟩;have K:aS P w aF t cs.toList:=by simp only[bp]at l;exact aS.mono q.bV (fun _ _=>rfl) _ _ l
  obtain⟨pre,xs,post,e1,e2,e3⟩:=zY K hs Q;simp only[aC];refine⟨β.al b,U,xs,e3,y,?_,rfl⟩;rw[<-e2];exact l8 n e1
 |map b=>
  simp only[kW]at d
  split at d
  case h_2=>simp at d
  rename_i fz j g;simp at d;obtain⟨rfl,rfl⟩:=d;simp only[az]at f;obtain⟨_,f⟩:=f;simp only[bR]at f;have f:=f.1 ⟨_,g,trivial⟩;obtain⟨G,clock,n,l,r⟩:=i.cC b _ g;have aK:cj β H β (H.set b (.map true j)):=tR g (.inr (.inr ⟨_,_,_,rfl,rfl⟩));obtain⟨aF,q,y⟩:=tW i g trivial (o':=.map true j) trivial (fun _ h=>h) (fun _ h=>by cases h) aK r.uP
   (fun aF hi x=>⟨G,clock,n,cA.mono hi (fun _ _=>rfl) _ _ l,x⟩) trivial
  refine⟨aF,q,?_⟩;simp only[aC];exact⟨β.al b,G,clock,y,n,cA.mono q.bV (fun _ _=>rfl) _ _ l,f⟩
 |b7=>simp[kW]at d
 |func=>simp[kW]at d
 |st=>simp[kW]at d
 |aE=>simp[kW]at d
end
section
variable{P:a0}{ah:a8->Bool}{n N:Nat}
theorem CX{w:a7}{β:Bd}{ai:Nat->Prop}:∀{e:List AV}{g:List PV}{H H1:Heap}{ad:Nat->Prop}{vs:List a5},nE H e=some (g,H1)->bU P w ad β H ai->
 bB P w ad β H e vs->aV (aH H) e->∃aF,bY P ai ad w β H aF w β H1/\bw P w aF g vs
 |[],g,H,H1,ad,vs,b,h,c,_=>by
  simp[nE]at b;obtain⟨rfl,rfl⟩:=b;simp only[bB]at c;exact⟨ad,bY.refl h,by simpa[bw]using c⟩
 |a::e,g,H,H1,ad,vs,b,h,c,f=>by
  simp only[nE]at b
  split at b
  case h_2=>simp at b
  rename_i v o j
  split at b
  case h_2=>simp at b
  rename_i r p k;simp at b;obtain⟨rfl,rfl⟩:=b;simp only[bB]at c;obtain⟨y,n,rfl,k1,k2⟩:=c;simp only[aV]at f;obtain⟨q,d,l⟩:=KK j h k1 f.1;obtain⟨i,q1,m⟩:=CX k d.rel (bB.mono d.bV (fun _ _=>rfl) d.step _ _ f.2 k2) (aV.mono d.fh _ f.2);refine⟨i,d.trans q1,?_⟩;simp only[bw];exact⟨y,n,rfl,aC.mono q1.bV (fun _ _=>rfl) _ _ l,m⟩
def kr(P:a0)(n N:Nat)(fr:bb)(k:List Item)(cs:List bb)(c:Array Oper)(ai ad:Nat->Prop)(w:a7)(β:Bd)(H:Heap)(m:Machine)(r:List Nat)(b:List bk)(K:St->Prop):Prop:=
 ∃s' aF aI a w',K s'/\Steps P m (lone (bE fr a b (.inRegion c r::k)) cs w')/\cN P n ai aF aI s' a w'/\dP N ai ad w β H ai aF w' aI s'.heap
theorem Uh{d:Bool}{o:Oper}{K:St->Prop}{s:St}(h:jA P ah d o K s)(c:Call):o.op≠.defer c:=by
 intro hc;unfold jA at h;rw[hc]at h;simp[fE,hc]at h
variable{fr:bb}{k:List Item}{cs:List bb}{ops:Array Oper}{i:Nat}{r:List Nat}{ds:List bk}
theorem JN{d:Bool}{o:Oper}{f:a9}{F:Array a9}{Z:Array a1}{g:a8}{fi ca:List AV}{K:St->Prop}{s:St}{ai ad:Nat->Prop}{β:Bd}{t:Array a5}{w:a7}
 (W:o.op=.call {callee:=.value f,args:=F,argTypes:=Z})
 (hf:(ev s.env f=.func g fi ca)\/(∃a b,ev s.env f=.p (.func g a b)/\fi=a.map .p/\ca=b.map .p))
 (h:gO P d g (fi++F.toList.map (ev s.env)++ca) s.heap (fun v H'=>K ⟨put o.dst v s.env,H'⟩))
 (m:cN P n ai ad β s t w)(G:iU n o=true)(C:ops[i]?=some o)(M:b0 o (yielded ops t)=true):
 kr P n N fr k cs ops ai ad w β s.heap (lone (bE fr t ds (.inRegion ops (i::r)::k)) cs w) r ds K:=by
 have E:=om m f;obtain⟨y,u,al,aj,ah,ap,ao⟩:∃y u:List a5,fF t f=.func (.func g) y.toArray u.toArray/\bB P w ad β s.heap fi y/\bB P w ad β s.heap ca u/\aV (aH s.heap) fi/\aV (aH s.heap) ca:=by
  rcases hf with hf|⟨a,b,hf,rfl,rfl⟩
  ·rw[hf]at E;simp only[az,aD]at E;obtain⟨⟨y,u,l,j,z⟩,ab,ac⟩:=E;exact⟨y,u,z,l,j,ab,ac⟩
  ·rw[hf]at E;simp only[az,aC]at E;obtain⟨⟨y,u,l,j,z⟩,_⟩:=E;exact⟨y,u,z,jw.2 l,jw.2 j,jb _ _,jb _ _⟩
 obtain⟨af,ag⟩:=wX m F.toList;have D:=pR (pR aj af) ah;have Q:=jF (jF ap ag) ao;have q:(be (fF t) o).run P w=(callFunc g (y++F.toList.map (fF t)++u).toArray).run P w:=by
  simp only[be,W,resolve,al,Deferred.ofValue,Sem.run_bind,Sem.run_pure,Result.andThen_ok,invoke];congr 2;simp
 have L:∀c,o.op≠.defer c:=fun c hc=>by rw[W]at hc;cases hc
 have pure:∀(H1:Heap)(B:Nat->Prop)(vs:List PV)(v:PV),bY P ai ad w β s.heap B w β H1->bw P w B vs (y++F.toList.map (fF t)++u)->aA P g vs v->
  K ⟨put o.dst (.p v) s.env,H1⟩->kr P n N fr k cs ops ai ad w β s.heap (lone (bE fr t ds (.inRegion ops (i::r)::k)) cs w) r ds K:=by
  intro H1 B vs v A Y I U;rcases I with⟨R,I⟩|I
  ·rw[R]at q;obtain⟨e,w',S,⟨O,aF,H,g1,g2,g3,g4,g5,aa,g6⟩,aK,V,J⟩:=I w B _ A.rel.bV A.rel.ie Y (bE fr t ds (.inRegion ops (i::r)::k)::cs);subst H;have X:=A.trans (A.rel.later g1 g2 g3 g4 g5 aa);refine⟨_,aF,β,_,w',U,?_,m.put G X (by simpa[az]using g6) (by simp[aD]),X.fq⟩;rw[<-nP C];exact(b3 (wM C M L q)).trans (b2 aK (.one (bi J)))
  ·obtain⟨O,l,j⟩:=I w B _ Y;rw[l]at q;exact⟨_,B,β,_,w,U,.one (tU C M L q (.inl rfl)),m.put G A (by simpa[az]using j) (by simp[aD]),A.fq⟩
 rcases h with⟨vs,v,l,j,z⟩|⟨_,⟨vs,H1,v,l,j,z⟩|⟨H',v,⟨R,l⟩,j⟩|⟨e,T,an,j⟩|⟨ak,v,ae,am,j⟩⟩
 ·exact pure s.heap ad vs v (bY.refl m.heap) (by rw[l]at D;exact jw.1 D) j z
 ·obtain⟨B,aq,ar⟩:=CX l m.heap D Q;exact pure H1 B vs v aq ar j z
 ·rw[R]at q;obtain⟨e,w',S,⟨O,aI,aF,H,g1,g2,g3⟩,aK,V,J⟩:=l w ad ai β _ m.heap D Q (bE fr t ds (.inRegion ops (i::r)::k)::cs);subst H;refine⟨_,aF,aI,_,w',j,?_,m.put G g1 g2 g3,g1.fq⟩;rw[<-nP C];exact(b3 (wM C M L q)).trans (b2 aK (.one (bi J)))
 ·rw[T.1]at q;obtain⟨x,w',S,⟨O,aI,aF,H,g1,g2,g3⟩,aK,V,J⟩:=T.use an m.heap D Q (bE fr t ds (.inRegion ops (i::r)::k)::cs);subst H;refine⟨_,aF,aI,_,w',j,?_,m.put G g1 g2 g3,g1.fq⟩;rw[<-nP C];exact(b3 (wM C M L q)).trans (b2 aK (.one (bi J)))
 ·obtain⟨O,l,z⟩:=ae s.heap w ad ai β _ m.heap D Q am;rw[l]at q;have A:=bY.refl m.heap;exact⟨_,ad,β,_,w,j,.one (tU C M L q (.inl rfl)),m.put G A (by simpa[az]using z) (by simp[aD]),A.fq⟩
end
end Go.ag
