import Derived.Calls
import Derived.Laws.Sem
import Derived.IntWalk
import Derived.Laws.Cells
import Derived.Laws.CopyRow
import Derived.Laws.Entries
/- Parts of a proof. -/
set_option linter.unusedSimpArgs false
set_option linter.unusedVariables false
set_option linter.unusedSectionVars false
open Array renaming getElem?_eq_some_iff->av, getElem?_push->ax, toList->ay
open BitVec renaming ofInt->aT
open Go renaming Program->a0, TypeId->a1, Value->a5, step_lone_go->a6, World->a7, FuncId->a8, Operand->a9, Frame->bb, execOp->be, step_leave_returned->bi, Deferred->bk, MapEntry->bl, IntKind->bo, Calls->bv
open Go.Region renaming wanted->b0, binds->b1
open Go.Steps renaming trans->b2, one->b3
open Go.stepG renaming exec->b4, apply->b5, oper->cb
open List renaming replicate->cc, getElem?_set_ne->ce, getElem?_eq_some_iff->ck, getElem?_set_self->cv, getElem?_append_left->cx, map_cons->cy, getElem?_append_right->c6, mem_or_eq_of_mem_set->c9, length_eq_zero_iff->da, take_append_drop->db, mem_of_getElem?->dg, replicate_succ->dk, set_cons_zero->dl, length_append->dp, append_assoc->dq, length_cons->dz, cons_append->ea
open Nat renaming le_refl->eb, le_trans->ec, lt_of_lt_of_le->ed, ne_of_lt->ee
open Ne renaming symm->ei
namespace Go.aw
set_option linter.unusedSectionVars false
inductive PV where
 |undef
 |bool (b:Bool)
 |int (k:bo) (n:Int)
 |str (s:List Nat)
 |du
 |bY (t:PV)
 |aO
 |bI (full:Bool) (es:List PV)
 |seq (es:List PV)
 |fa
 |eE (es:List (PV×PV))
 |func (f:a8) (first gS:List PV)
 |gV
 |fD
 |st (u:a1) (fs:List PV)
 |aE (vs:List PV)
 deriving Inhabited
inductive AV where
 |p (v:PV)
 |ptr (b:Nat) (path:List (a1×Nat))
 |bR (b ar ai i:Nat) (path:List (a1×Nat))
 |sl (b ar ai off len:Nat)
 |map (b:Nat)
 |func (f:a8) (first gS:List AV)
 |st (u:a1) (fs:List AV)
 |aE (vs:List AV)
 deriving Inhabited
inductive AK where|exact|grow|frozen|bytes
 deriving DecidableEq
def AK.gr:AK->Bool
 | .grow| .bytes=>true
 |_=>false
structure dC where
 st:LoopState
 pending:Option Code
 n:Nat
 params:List Tmp
 assign:Code
 body:Code
 env:List (Nat×AV)
inductive Obj where
 |hole
 |dead
 |box (fz:Bool) (t:AV)
 |arr (k:AK) (ar ai:Nat) (es:List AV)
 |map (fz:Bool) (es:List (PV×PV))
 |de (ks:List PV) (vs:List AV)
 |dh (s:List Nat) (pos:Nat)
 |loop (L:dC)
 deriving Inhabited
abbrev Heap:=List Obj
abbrev Env:=List (Nat×AV)
structure St where
 env:Env
 heap:Heap
def aK(e:Env)(t:Nat):AV:=
 match e with
 |[]=>.p .undef
 |(k,v)::r=>if t=k then v else aK r t
inductive iV where|bad|leaf|agg (u:a1)
 deriving DecidableEq
def aJ:PV->iV
 | .undef| .aE _=>.bad
 | .st u _=>.agg u
 |_=>.leaf
def ad:AV->iV
 | .p v=>aJ v
 | .aE _=>.bad
 | .st u _=>.agg u
 |_=>.leaf
def cj:PV->List PV
 | .st _ fs=>fs
 |_=>[]
section tables
variable(P:a0)
def dy(u:a1):Option (List Nat):=
 match(P.info? u).map (fun i:TypeInfo=>i.desc)with
 |some (.struct fs)=>
  let l:=fs.toList.map fun f=>P.cellsOf f.type
  if l.all (0<·)&&l.sum==P.cellsOf u&&(fs.toList.zipIdx.all fun(f,i)=>f.offset==(l.take i).sum)then some l else none
 |some (.array n e)=>if 0<P.cellsOf e&&n*P.cellsOf e==P.cellsOf u then some (cc n (P.cellsOf e))else none
 |_=>none
def kindOf(T:a1):iV:=
 match P.underlying T with
 |some (.struct _)|some (.array _ _)=>
  if(dy P (P.underlyingId T)).isSome&&P.cellsOf T==P.cellsOf (P.underlyingId T)then .agg (P.underlyingId T)else .bad
 |some _=>if P.cellsOf T==1 then .leaf else .bad
 |none=>.bad
def bB:iV->Nat
 | .bad=>0
 | .leaf=>1
 | .agg u=>P.cellsOf u
def iY(u:a1):List a1:=
 match(P.info? u).map (fun i:TypeInfo=>i.desc)with
 |some (.struct fs)=>fs.toList.map (·.type)
 |some (.array n e)=>cc n e
 |_=>[]
end tables
def ofConst:a5->PV
 | .bool b=>.bool b
 | .int k n=>.int k n
 | .string s=>.str (s.data.toList.map (·.toNat))
 | .pointer none=>.du
 | .slice none 0 0=>.aO
 | .map none=>.fa
 | .nilFunc=>.gV
 | .nilIface=>.fD
 |_=>.undef
def oB(P:a0)(a:a1->List a5->Option PV):List a1->List Nat->List a5->Option (List PV)
 |[],[],[]=>some []
 |T::b,s::c,cs=>
  if(cs.take s).length=s then
   match a T (cs.take s),oB P a b c (cs.drop s)with
   |some v,some vs=>if bB P (aJ v)=s then some (v::vs)else none
   |_,_=>none
  else none
 |_,_,_=>none
def sH(P:a0):Nat->a1->List a5->Option PV
 |0,_,_=>none
 |n+1,T,cs=>
  match kindOf P T with
  | .leaf=>match cs with
   |[c]=>match ofConst c with
    | .undef=>none
    |v=>some v
   |_=>none
  | .agg u=>match dy P u with
   |some l=>
    match oB P (sH P n) (iY P u) l cs with
    |some fs=>some (.st u fs)
    |none=>none
   |none=>none
  | .bad=>none
def yK:a5->iV->Bool
 | .agg _,.agg _=>true
 | .agg _,_=>false
 |_,.agg _=>false
 |_,_=>true
def cm(P:a0)(T:a1):Option PV:=
 match(P.info? T).bind (·.zero)with
 |some z=>if yK z (kindOf P T)then sH P 40 T z.cells.toList else none
 |none=>none
section relation
variable(P:a0)(w:a7)(aa:Nat->Prop)
def gw(ak off:Nat)(cs:List a5):Prop:=∀i(h:i<cs.length),w.cell? ⟨ak,off+i,none⟩=some cs[i]
mutual
def aS:PV->List a5->Prop
 | .undef,_| .aE _,_=>False
 | .bool b,cs=>cs=[.bool b]
 | .int k n,cs=>cs=[.int k n]
 | .str s,cs=>∃bs:ByteArray,cs=[.string bs]/\s=bs.data.toList.map (·.toNat)
 | .du,cs=>cs=[.pointer none]
 | .bY t,cs=>∃ak off ts,aS t ts/\aa ak/\gw w ak off ts/\cs=[.pointer (some ⟨ak,off,none⟩)]
 | .aO,cs=>cs=[.slice none 0 0]
 | .bI full es,cs=>∃ak off cap ai a,aY (cc es.length ai) es a/\(es≠[]->aa ak)/\gw w ak off a.flatten/\
  (full=true->cap=es.length)/\es.length<=cap/\∃sp,(sp=none\/cap=0)/\cs=[.slice (some ⟨ak,off,sp⟩) es.length cap]
 | .seq es,cs=>(es=[]/\cs=[.slice none 0 0])\/∃ak off cap ai a,aY (cc es.length ai) es a/\(es≠[]->aa ak)/\gw w ak off a.flatten/\
  es.length<=cap/\∃sp,(sp=none\/cap=0)/\cs=[.slice (some ⟨ak,off,sp⟩) es.length cap]
 | .fa,cs=>cs=[.map none]
 | .eE es,cs=>∃r h j,aa r/\w.heap[r]?=some (.map h j)/\cd es h.toList/\cs=[.map (some r)]
 | .func f first gS,cs=>∃i g,bp first i/\bp gS g/\cs=[.func (.func f) i.toArray g.toArray]
 | .gV,cs=>cs=[.nilFunc]
 | .fD,cs=>cs=[.nilIface]
 | .st u fs,cs=>∃l a,dy P u=some l/\aY l fs a/\cs=a.flatten
def aY:List Nat->List PV->List (List a5)->Prop
 |[],[],a=>a=[]
 |n::p,v::vs,a=>∃c cs,a=c::cs/\aS v c/\c.length=n/\aY p vs cs
 |_,_,_=>False
def aA:PV->a5->Prop
 | .undef,_=>True
 | .aE vs,v=>∃d,bp vs d/\v=.tuple d.toArray
 | .st u fs,v=>∃l a,dy P u=some l/\aY l fs a/\v=.agg a.flatten.toArray
 | .bool b,v=>v=.bool b
 | .int k n,v=>v=.int k n
 | .str s,v=>∃bs:ByteArray,v=.string bs/\s=bs.data.toList.map (·.toNat)
 | .du,v=>v=.pointer none
 | .bY t,v=>∃ak off ts,aS t ts/\aa ak/\gw w ak off ts/\v=.pointer (some ⟨ak,off,none⟩)
 | .aO,v=>v=.slice none 0 0
 | .bI full es,v=>∃ak off cap ai a,aY (cc es.length ai) es a/\(es≠[]->aa ak)/\gw w ak off a.flatten/\
  (full=true->cap=es.length)/\es.length<=cap/\∃sp,(sp=none\/cap=0)/\v=.slice (some ⟨ak,off,sp⟩) es.length cap
 | .seq es,v=>(es=[]/\v= .slice none 0 0)\/∃ak off cap ai a,aY (cc es.length ai) es a/\(es≠[]->aa ak)/\gw w ak off a.flatten/\
  es.length<=cap/\∃sp,(sp=none\/cap=0)/\v=.slice (some ⟨ak,off,sp⟩) es.length cap
 | .fa,v=>v=.map none
 | .eE es,v=>∃r h j,aa r/\w.heap[r]?=some (.map h j)/\cd es h.toList/\v=.map (some r)
 | .func f first gS,v=>∃i g,bp first i/\bp gS g/\v=.func (.func f) i.toArray g.toArray
 | .gV,v=>v=.nilFunc
 | .fD,v=>v=.nilIface
def bp:List PV->List a5->Prop
 |[],d=>d=[]
 |v::vs,d=>∃y o,d=y::o/\aA v y/\bp vs o
def cd:List (PV×PV)->List bl->Prop
 |[],es=>es=[]
 |(k,v)::r,es=>∃e m,es=e::m/\aA k e.key/\aA v e.val/\cd r m
end
end relation
class Gl where
 g:Nat->PV
 u8:a1
 raw:Nat->Option (Array a5)
 bx:a1->Option a1
def iS[Gl](T:a1)(s:iV):Bool:=match s with
 | .agg u=>match Gl.bx u with
  |some a=>Nat.beq T a
  |none=>true
 |_=>true
structure mn[Gl](P:a0)(w:a7)(aa:Nat->Prop):Prop where
 val:∀g,aA P w aa (Gl.g g) (.pointer (some ⟨g,0,none⟩))
 raw:∀g cs,Gl.raw g=some cs->aa g/\∃T,w.heap[g]?=some (.cells cs T (0,0))
end Go.aw
namespace Go.aw
variable[Gl]
structure Bd where
 ak:Nat->Nat
 cap:Nat->Nat
def fK(P:a0):List (a1×Nat)->Option Nat
 |[]=>some 0
 |(u,i)::r=>
  match dy P u,fK P r with
  |some l,some o=>if i<l.length then some ((l.take i).sum+o)else none
  |_,_=>none
def Obj.tI:Obj->Prop
 | .map _ _| .de _ _=>True
 |_=>False
section
variable(P:a0)(w:a7)(aa:Nat->Prop)(β:Bd)(H:Heap)
def mj(b:Nat):Prop:=∃fz t,H[b]?=some (.box fz t)
def et(b ar ai:Nat)(k:AK)(a:List AV):Prop:=H[b]?=some (.arr k ar ai a)
def cU(k:AK)(a:List AV):Prop:=k.gr=true/\a=[]
def ny(b:Nat):Prop:=∃o,H[b]?=some o/\o.tI
def ml(b:Nat):Prop:=(∃s pos,H[b]?=some (.dh s pos))
def gz(b:Nat):Prop:=(∃L,H[b]?=some (.loop L))
def bK:AV->a5->Prop
 | .ptr b path,v=>∃ak off o,v=.pointer (some ⟨ak,off,none⟩)/\fK P path=some o/\(mj H b\/ml H b->ak=β.ak b/\off=o)
 | .bR b ar ai i path,v=>∃ak off o,v=.pointer (some ⟨ak,off,none⟩)/\fK P path=some o/\∀k a,et H b ar ai k a->¬cU k a->ak=β.ak b/\off=i*ai+o
 | .sl b ar ai off len,v=>∀k a,et H b ar ai k a->
  off+len<=a.length/\(cU k a->v=.slice none 0 0)/\(¬cU k a->v=.slice (some ⟨β.ak b,off*ai,none⟩) len (β.cap b-off))
 | .map b,v=>(ny H b->v=.map (some (β.ak b)))/\(gz H b->v=.func (.yield (β.ak b)) #[] #[])
 |_,_=>False
def bG(v:AV)(x:a5):Prop:=x.oneCell'=true/\bK P β H v x
mutual
def bc:AV->List a5->Prop
 | .p t,cs=>aS P w aa t cs
 | .st u fs,cs=>∃l a,dy P u=some l/\bF l fs a/\cs=a.flatten
 | .func f first gS,cs=>∃e d,br first e/\br gS d/\cs=[.func (.func f) e.toArray d.toArray]
 | .aE _,_=>False
 | .ptr b path,cs=>∃v,cs=[v]/\bG P β H (.ptr b path) v
 | .bR b ar ai i path,cs=>∃v,cs=[v]/\bG P β H (.bR b ar ai i path) v
 | .sl b ar ai off len,cs=>∃v,cs=[v]/\bG P β H (.sl b ar ai off len) v
 | .map b,cs=>∃v,cs=[v]/\bG P β H (.map b) v
def bF:List Nat->List AV->List (List a5)->Prop
 |[],[],a=>a=[]
 |n::h,v::vs,a=>∃c cs,a=c::cs/\bc v c/\c.length=n/\bF h vs cs
 |_,_,_=>False
def au:AV->a5->Prop
 | .p t,v=>aA P w aa t v
 | .st u fs,v=>∃l a,dy P u=some l/\bF l fs a/\v=.agg a.flatten.toArray
 | .func f first gS,v=>∃e d,br first e/\br gS d/\v=.func (.func f) e.toArray d.toArray
 | .aE vs,v=>∃xs,br vs xs/\v=.tuple xs.toArray
 | .ptr b path,v=>bG P β H (.ptr b path) v
 | .bR b ar ai i path,v=>bG P β H (.bR b ar ai i path) v
 | .sl b ar ai off len,v=>bG P β H (.sl b ar ai off len) v
 | .map b,v=>bG P β H (.map b) v
def br:List AV->List a5->Prop
 |[],xs=>xs=[]
 |v::vs,xs=>∃y g,xs=y::g/\au v y/\br vs g
end
mutual
def aC(n:Nat×Nat->Prop):AV->Prop
 | .p _=>True
 | .ptr b _| .map b=>n (b,0)
 | .bR b ar _ _ _| .sl b ar _ _ _=>n (b,ar)
 | .func _ first gS=>aQ n first/\aQ n gS
 | .st _ fs=>aQ n fs
 | .aE vs=>aQ n vs
def aQ(n:Nat×Nat->Prop):List AV->Prop
 |[]=>True
 |v::vs=>aC n v/\aQ n vs
end
def Obj.has:Obj->Nat->Prop
 | .hole,_=>False
 | .arr _ ar _ _,v=>v<=ar
 |_,_=>True
def aG(H:Heap)(x:Nat×Nat):Prop:=∃o,H[x.1]?=some o/\o.has x.2
def AV.qW:AV->Prop
 | .p _=>True
 |_=>False
def Obj.refs(n:Nat×Nat->Prop):Obj->Prop
 | .box _ t=>aC n t
 | .arr _ _ _ es=>aQ n es
 | .de _ vs=>aQ n vs
 | .loop L=>∀x,aC n (aK L.env x)
 |_=>True
def Obj.live:Obj->Prop
 | .hole| .dead=>False
 | .arr k _ _ es=>¬cU k es
 |_=>True
variable(ah:Nat->Prop)
def b9(fz:Bool)(b:Nat):Prop:=if fz then aa (β.ak b)else¬aa (β.ak b)/\¬ah (β.ak b)
def eK(b:Nat):Obj->Prop
 | .hole| .dead=>True
 | .box fz t=>∃cs T,w.heap[β.ak b]?=some (.cells cs T (0,0))/\bc P w aa β H t cs.toList/\b9 aa β ah fz b/\(fz=true->t.qW)/\iS T (ad t)=true
 | .arr k _ver ai es=>cU k es\/
  ∃cs T d f,w.heap[β.ak b]?=some (.cells cs T (0,0))/\bF P w aa β H (cc es.length ai) es d/\cs.toList=d.flatten++f/\
   cs.size=β.cap b*ai/\es.length<=β.cap b/\(k=.exact->β.cap b=es.length)/\b9 aa β ah (k== .frozen) b/\(k=.frozen->∀e∈es,e.qW)/\(k=.bytes->T=Gl.u8)
 | .map fz es=>∃a c,w.heap[β.ak b]?=some (.map a c)/\cd P w aa es a.toList/\b9 aa β ah fz b
 | .de ks vs=>∃a c,w.heap[β.ak b]?=some (.map a c)/\bp P w aa ks (a.toList.map (·.key))/\br P w aa β H vs (a.toList.map (·.val))/\b9 aa β ah false b
 | .dh s pos=>∃bs:ByteArray,w.heap[β.ak b]?=some (.stringIter bs pos)/\s=bs.data.toList.map (·.toNat)/\b9 aa β ah false b
 | .loop L=>∃tmps defers fn,w.heap[β.ak b]?=some (.loop {state:=L.st,pending:=L.pending,fn,tmps,params:=L.params.toArray,assign:=L.assign,body:=L.body,defers})/\tmps.size=L.n/\
  (∀x,au P w aa β H (aK L.env x) (tmps.getD x undef))/\b9 aa β ah false b
structure bL:Prop where
 cg:∀b o,H[b]?=some o->eK P w aa β H ah b o
 inj:∀b b' o o',H[b]?=some o->H[b']?=some o'->o.live->o'.live->¬aa (β.ak b)->β.ak b=β.ak b'->b=b'
 refs:∀(b:Nat)(o:Obj),H[b]?=some o->o.refs (aG H)
 bM:∀k,aa k->k<w.heap.size
 dP:∀k,ah k->k<w.heap.size
 gU:mn P w aa
end
structure Ext(ah aa:Nat->Prop)(w w':a7):Prop where
 size:w.heap.size<=w'.heap.size
 same:∀k,ah k\/aa k->w'.heap[k]?=w.heap[k]?
 io:w'.os=w.os/\w'.output=w.output
structure bX(β:Bd)(H:Heap)(aH:Bd)(H':Heap):Prop where
 box:∀b,aG H (b,0)->mj H' b->mj H b/\aH.ak b=β.ak b
 it:∀b,aG H (b,0)->ml H' b->ml H b/\aH.ak b=β.ak b
 map:∀b,aG H (b,0)->ny H' b->ny H b/\aH.ak b=β.ak b
 arr:∀b ar ai k es,aG H (b,ar)->et H' b ar ai k es->∃k0 gf,et H b ar ai k0 gf/\gf.length<=es.length/\(cU k es↔cU k0 gf)/\(¬cU k es->aH.ak b=β.ak b/\aH.cap b=β.cap b)
 loop:∀b,aG H (b,0)->gz H' b->gz H b/\aH.ak b=β.ak b
theorem bX.refl(β:Bd)(H:Heap):bX β H β H:=
 ⟨fun _ _ h=>⟨h,rfl⟩,fun _ _ h=>⟨h,rfl⟩,fun _ _ h=>⟨h,rfl⟩,fun _ _ _ k a _ h=>⟨k,a,h,eb _,Iff.rfl,fun _=>⟨rfl,rfl⟩⟩,fun _ _ h=>⟨h,rfl⟩⟩
theorem Ext.refl(ah aa:Nat->Prop)(w:a7):Ext ah aa w w:=⟨eb _,fun _ _=>rfl,rfl,rfl⟩
section mono
variable{P:a0}{w w':a7}{aa aD:Nat->Prop}
theorem UH{ak off:Nat}(h:w'.heap[ak]?=w.heap[ak]?):w'.cell? ⟨ak,off,none⟩=w.cell? ⟨ak,off,none⟩:=by
 simp[World.cell?,h]
theorem gw.same{ak off:Nat}{cs:List a5}(h:w'.heap[ak]?=w.heap[ak]?)(hc:gw w ak off cs):gw w' ak off cs:=
 fun i hi=>(UH h).trans (hc i hi)
theorem tQ{n:List Nat}{a:List (List a5)}(h:aY P w aa n [] a):a=[]:=by
 cases n<;>simp[aY]at h;exact h
variable(hI:∀k,aa k->aD k)(hs:∀k,aa k->w'.heap[k]?=w.heap[k]?)
include hI hs
mutual
theorem aS.mono:∀(v:PV)(cs:List a5),aS P w aa v cs->aS P w' aD v cs
 | .undef,_,h| .aE _,_,h=>by simp[aS]at h
 | .bool _,_,h| .int _ _,_,h| .str _,_,h| .du,_,h| .aO,_,h| .fa,_,h| .gV,_,h| .fD,_,h=>by simpa[aS]using h
 | .bY t,cs,h=>by
  simp only[aS]at h⊢;obtain⟨ak,off,ts,a,b,d,j⟩:=h;exact⟨ak,off,ts,aS.mono t ts a,hI _ b,d.same (hs _ b),j⟩
 | .bI full o,cs,h=>by
  simp only[aS]at h⊢;obtain⟨ak,off,cap,ai,g,a,b,d,j⟩:=h;refine⟨ak,off,cap,ai,g,aY.mono _ o g a,fun m=>hI _ (b m),?_,j⟩
  by_cases m:o=[]
  ·subst m;have:=tQ a;subst this;intro i hi;simp at hi
  ·exact d.same (hs _ (b m))
 | .seq o,cs,h=>by
  simp only[aS]at h⊢;rcases h with h|⟨ak,off,cap,ai,g,a,b,d,j⟩
  ·exact .inl h
  refine .inr ⟨ak,off,cap,ai,g,aY.mono _ o g a,fun m=>hI _ (b m),?_,j⟩
  by_cases m:o=[]
  ·subst m;have:=tQ a;subst this;intro i hi;simp at hi
  ·exact d.same (hs _ (b m))
 | .eE o,cs,h=>by
  simp only[aS]at h⊢;obtain⟨r,p,clock,a,b,d,j⟩:=h;exact⟨r,p,clock,hI _ a,(hs _ a).trans b,cd.mono o _ d,j⟩
 | .func f first gS,cs,h=>by
  simp only[aS]at h⊢;obtain⟨z,s,a,b,d⟩:=h;exact⟨z,s,bp.mono first z a,bp.mono gS s b,d⟩
 | .st u fs,cs,h=>by
  simp only[aS]at h⊢;obtain⟨l,g,a,b,d⟩:=h;exact⟨l,g,a,aY.mono l fs g b,d⟩
theorem aY.mono:∀(l:List Nat)(vs:List PV)(g:List (List a5)),aY P w aa l vs g->aY P w' aD l vs g
 |[],[],_,h=>by simpa[aY]using h
 |[],_::_,_,h=>by simp[aY]at h
 |_::_,[],_,h=>by simp[aY]at h
 |n::B,v::vs,g,h=>by
  simp only[aY]at h⊢;obtain⟨c,cs,a,b,d,j⟩:=h;exact⟨c,cs,a,aS.mono v c b,d,aY.mono B vs cs j⟩
theorem aA.mono:∀(v:PV)(x:a5),aA P w aa v x->aA P w' aD v x
 | .undef,_,h=>by simp[aA]
 | .aE vs,x,h=>by
  simp only[aA]at h⊢;obtain⟨q,a,b⟩:=h;exact⟨q,bp.mono vs q a,b⟩
 | .bool _,_,h| .int _ _,_,h| .str _,_,h| .du,_,h| .aO,_,h| .fa,_,h| .gV,_,h| .fD,_,h=>by simpa[aA]using h
 | .bY t,cs,h=>by
  simp only[aA]at h⊢;obtain⟨ak,off,ts,a,b,d,j⟩:=h;exact⟨ak,off,ts,aS.mono t ts a,hI _ b,d.same (hs _ b),j⟩
 | .bI full o,cs,h=>by
  simp only[aA]at h⊢;obtain⟨ak,off,cap,ai,g,a,b,d,j⟩:=h;refine⟨ak,off,cap,ai,g,aY.mono _ o g a,fun m=>hI _ (b m),?_,j⟩
  by_cases m:o=[]
  ·subst m;have:=tQ a;subst this;intro i hi;simp at hi
  ·exact d.same (hs _ (b m))
 | .seq o,cs,h=>by
  simp only[aA]at h⊢;rcases h with h|⟨ak,off,cap,ai,g,a,b,d,j⟩
  ·exact .inl h
  refine .inr ⟨ak,off,cap,ai,g,aY.mono _ o g a,fun m=>hI _ (b m),?_,j⟩
  by_cases m:o=[]
  ·subst m;have:=tQ a;subst this;intro i hi;simp at hi
  ·exact d.same (hs _ (b m))
 | .eE o,cs,h=>by
  simp only[aA]at h⊢;obtain⟨r,p,clock,a,b,d,j⟩:=h;exact⟨r,p,clock,hI _ a,(hs _ a).trans b,cd.mono o _ d,j⟩
 | .func f first gS,cs,h=>by
  simp only[aA]at h⊢;obtain⟨z,s,a,b,d⟩:=h;exact⟨z,s,bp.mono first z a,bp.mono gS s b,d⟩
 | .st u fs,cs,h=>by
  simp only[aA]at h⊢;obtain⟨l,g,a,b,d⟩:=h;exact⟨l,g,a,aY.mono l fs g b,d⟩
theorem bp.mono:∀(vs:List PV)(q:List a5),bp P w aa vs q->bp P w' aD vs q
 |[],_,h=>by simpa[bp]using h
 |v::vs,q,h=>by
  simp only[bp]at h⊢;obtain⟨y,A,a,b,d⟩:=h;exact⟨y,A,a,aA.mono v y b,bp.mono vs A d⟩
theorem cd.mono:∀(o:List (PV×PV))(p:List bl),cd P w aa o p->cd P w' aD o p
 |[],_,h=>by simpa[cd]using h
 |(k,v)::r,p,h=>by
  simp only[cd]at h⊢;obtain⟨e,rest,a,b,d,j⟩:=h;exact⟨e,rest,a,aA.mono k _ b,aA.mono v _ d,cd.mono r rest j⟩
end
theorem mn.mono(h:mn P w aa):mn P w' aD:=⟨fun g=>aA.mono hI hs _ _ (h.val g),fun g cs c=>by
 obtain⟨a,T,b⟩:=h.raw g cs c;exact⟨hI _ a,T,(hs _ a).trans b⟩⟩
variable{β aH:Bd}{H H':Heap}(aF:bX β H aH H')
include aF
omit hI hs in
theorem bK.mono:∀(v:AV)(x:a5),aC (aG H) v->bK P β H v x->bK P aH H' v x
 | .ptr b path,x,d,h=>by
  simp only[bK,aC]at*;obtain⟨ak,off,o,c,f,g⟩:=h;refine⟨ak,off,o,c,f,fun a=>?_⟩;rcases a with a|a
  ·obtain⟨k1,k2⟩:=aF.box b d a;rw[k2];exact g (.inl k1)
  ·obtain⟨k1,k2⟩:=aF.it b d a;rw[k2];exact g (.inr k1)
 | .bR b ar ai i path,x,d,h=>by
  simp only[bK,aC]at*;obtain⟨ak,off,o,g1,g2,g3⟩:=h;refine⟨ak,off,o,g1,g2,fun k l a e=>?_⟩;obtain⟨k0,gf,c,f,g,j⟩:=aF.arr b ar ai k l d a;rw[(j e).1];exact g3 k0 gf c (fun m=>e (g.2 m))
 | .sl b ar ai off len,x,d,h=>by
  simp only[bK,aC]at*;intro k l a;obtain⟨k0,gf,c,f,g,j⟩:=aF.arr b ar ai k l d a;obtain⟨r,n,q⟩:=h k0 gf c;refine⟨by omega,fun e=>n (g.1 e),fun e=>?_⟩;rw[(j e).1,(j e).2];exact q (fun m=>e (g.2 m))
 | .map b,x,d,h=>by
  simp only[bK,aC]at*;refine⟨fun a=>?_,fun a=>?_⟩
  ·obtain⟨c,f⟩:=aF.map b d a;rw[f];exact h.1 c
  ·obtain⟨c,f⟩:=aF.loop b d a;rw[f];exact h.2 c
 | .p _,_,_,h| .st _ _,_,_,h| .func _ _ _,_,_,h| .aE _,_,_,h=>by simp[bK]at h
omit hI hs in
theorem bG.mono(v:AV)(x:a5)(a:aC (aG H) v)(h:bG P β H v x):bG P aH H' v x:=⟨h.1,bK.mono aF v x a h.2⟩
mutual
theorem bc.mono:∀(v:AV)(cs:List a5),aC (aG H) v->bc P w aa β H v cs->bc P w' aD aH H' v cs
 | .p t,cs,_,h=>by simp only[bc]at h⊢;exact aS.mono hI hs t cs h
 | .st u fs,cs,a,h=>by
  simp only[bc,aC]at*;obtain⟨l,j,d,e,g⟩:=h;exact⟨l,j,d,bF.mono l fs j a e,g⟩
 | .func f first gS,cs,a,h=>by
  simp only[bc,aC]at*;obtain⟨m,k,d,e,g⟩:=h;exact⟨m,k,br.mono first m a.1 d,br.mono gS k a.2 e,g⟩
 | .aE _,_,_,h=>by simp[bc]at h
 | .ptr b path,cs,a,h=>by
  simp only[bc]at*;obtain⟨v,d,e⟩:=h;exact⟨v,d,bG.mono aF _ _ a e⟩
 | .bR b ar ai i path,cs,a,h=>by
  simp only[bc]at*;obtain⟨v,d,e⟩:=h;exact⟨v,d,bG.mono aF _ _ a e⟩
 | .sl b ar ai off len,cs,a,h=>by
  simp only[bc]at*;obtain⟨v,d,e⟩:=h;exact⟨v,d,bG.mono aF _ _ a e⟩
 | .map b,cs,a,h=>by
  simp only[bc]at*;obtain⟨v,d,e⟩:=h;exact⟨v,d,bG.mono aF _ _ a e⟩
theorem bF.mono:∀(l:List Nat)(vs:List AV)(j:List (List a5)),aQ (aG H) vs->bF P w aa β H l vs j->bF P w' aD aH H' l vs j
 |[],[],_,_,h=>by simpa[bF]using h
 |[],_::_,_,_,h=>by simp[bF]at h
 |_::_,[],_,_,h=>by simp[bF]at h
 |n::r,v::vs,j,a,h=>by
  simp only[bF,aQ]at*;obtain⟨c,cs,d,e,g,q⟩:=h;exact⟨c,cs,d,bc.mono v c a.1 e,g,bF.mono r vs cs a.2 q⟩
theorem au.mono:∀(v:AV)(x:a5),aC (aG H) v->au P w aa β H v x->au P w' aD aH H' v x
 | .p t,cs,_,h=>by simp only[au]at h⊢;exact aA.mono hI hs t cs h
 | .st u fs,cs,a,h=>by
  simp only[au,aC]at*;obtain⟨l,j,d,e,g⟩:=h;exact⟨l,j,d,bF.mono l fs j a e,g⟩
 | .func f first gS,cs,a,h=>by
  simp only[au,aC]at*;obtain⟨m,k,d,e,g⟩:=h;exact⟨m,k,br.mono first m a.1 d,br.mono gS k a.2 e,g⟩
 | .aE vs,cs,a,h=>by
  simp only[au,aC]at*;obtain⟨xs,d,e⟩:=h;exact⟨xs,br.mono vs xs a d,e⟩
 | .ptr b path,cs,a,h=>by simp only[au]at*;exact bG.mono aF _ _ a h
 | .bR b ar ai i path,cs,a,h=>by simp only[au]at*;exact bG.mono aF _ _ a h
 | .sl b ar ai off len,cs,a,h=>by simp only[au]at*;exact bG.mono aF _ _ a h
 | .map b,cs,a,h=>by simp only[au]at*;exact bG.mono aF _ _ a h
theorem br.mono:∀(vs:List AV)(xs:List a5),aQ (aG H) vs->br P w aa β H vs xs->br P w' aD aH H' vs xs
 |[],_,_,h=>by simpa[br]using h
 |v::vs,xs,a,h=>by
  simp only[br,aQ]at*;obtain⟨y,o,d,e,g⟩:=h;exact⟨y,o,d,au.mono v y a.1 e,br.mono vs o a.2 g⟩
end
end mono
def ez:List AV->Option (List PV)
 |[]=>some []
 | .p v::r=>match ez r with
  |some l=>some (v::l)
  |none=>none
 |_::_=>none
def gK(u:a1)(fs:List AV):AV:=
 match ez fs with
 |some l=>.p (.st u l)
 |none=>.st u fs
def ke:PV->List (a1×Nat)->Option PV
 |t,[]=>some t
 |t,(u,i)::r=>if aJ t=.agg u then(match(cj t)[i]? with
  |some f=>ke f r
  |none=>none)else none
def eB:AV->List (a1×Nat)->Option AV
 |t,[]=>some t
 | .p t,(u,i)::r=>match ke t ((u,i)::r)with
  |some s=>some (.p s)
  |none=>none
 | .st u' fs,(u,i)::r=>if u'=u then(match fs[i]? with
  |some f=>eB f r
  |none=>none)else none
 |_,_=>none
def fx(t:AV)(b:List (a1×Nat))(x:AV):Option AV:=
 match b with
 |[]=>some x
 |(u,i)::r=>
  match t with
  | .p t=>if aJ t=.agg u then(match(cj t)[i]? with
   |some f=>(match fx (.p f) r x with
    |some a=>some (gK u (((cj t).map .p).set i a))
    |none=>none)
   |none=>none)else none
  | .st u' fs=>if u'=u then(match fs[i]? with
   |some f=>(match fx f r x with
    |some a=>some (gK u (fs.set i a))
    |none=>none)
   |none=>none)else none
  |_=>none
section
variable{P:a0}{w:a7}{aa:Nat->Prop}{β:Bd}{H:Heap}
theorem tS:∀{l:List Nat}{vs:List PV}{a:List (List a5)},aY P w aa l vs a->a.map (·.length)=l/\vs.length=l.length/\a.length=l.length
 |[],[],_,h=>by simp[aY]at h;subst h;simp
 |[],_::_,_,h=>by simp[aY]at h
 |_::_,[],_,h=>by simp[aY]at h
 |n::f,v::vs,a,h=>by
  simp only[aY]at h;obtain⟨c,cs,rfl,e,b,d⟩:=h;have:=tS d;simp[b,this]
theorem wy:∀{l:List Nat}{vs:List AV}{a:List (List a5)},bF P w aa β H l vs a->a.map (·.length)=l/\vs.length=l.length/\a.length=l.length
 |[],[],_,h=>by simp[bF]at h;subst h;simp
 |[],_::_,_,h=>by simp[bF]at h
 |_::_,[],_,h=>by simp[bF]at h
 |n::f,v::vs,a,h=>by
  simp only[bF]at h;obtain⟨c,cs,rfl,e,b,d⟩:=h;have:=wy d;simp[b,this]
theorem J4{u:a1}{l:List Nat}(h:dy P u=some l):l.sum=P.cellsOf u/\∀n∈l,0<n:=by
 unfold dy at h
 split at h
 ·dsimp only at h
  split at h
  ·rename_i hc;simp at hc;obtain⟨⟨b,c⟩,d⟩:=hc;simp at h;subst h;refine⟨c,?_⟩;intro n a;simp at a;obtain⟨f,hf,rfl⟩:=a;obtain⟨i,hi,rfl⟩:=Array.mem_iff_getElem.1 hf;exact b i hi
  ·simp at h
 ·split at h
  ·rename_i hc;simp at hc;simp at h;subst h;refine⟨by simp[List.sum_replicate_nat,hc.2],?_⟩;intro n a;have:=List.eq_of_mem_replicate a;omega
  ·simp at h
 ·simp at h
theorem mY:∀{v:PV}{cs:List a5},aS P w aa v cs->cs.length=bB P (aJ v)/\aJ v≠.bad:=by
 intro v cs h;cases v<;>simp only[aS]at h
 case st u fs=>
  obtain⟨l,c,a,b,rfl⟩:=h;have:=tS b;simp[aJ,bB,this.1,(J4 a).1]
 case str=>obtain⟨_,h,_⟩:=h;subst h;simp[aJ,bB]
 case seq=>
  rcases h with⟨_,rfl⟩|⟨_,_,_,_,_,_,_,_,_,_,_,rfl⟩<;>simp[aJ,bB]
 all_goals first
  |(subst h;simp[aJ,bB])
  |(obtain⟨_,_,_,_,_,_,rfl⟩:=h;simp[aJ,bB])
  |(obtain⟨_,_,_,_,_,rfl⟩:=h;simp[aJ,bB])
  |(obtain⟨_,_,_,_,_,_,_,_,_,_,_,_,rfl⟩:=h;simp[aJ,bB])
  |(obtain⟨_,_,_,_,_,_,_,rfl⟩:=h;simp[aJ,bB])
  |(obtain⟨_,_,_,_,rfl⟩:=h;simp[aJ,bB])
  |(obtain⟨_,h,_⟩:=h;subst h;simp[aJ,bB])
  |exact h.elim
theorem ni{v:AV}{cs:List a5}(h:bc P w aa β H v cs):cs.length=bB P (ad v)/\ad v≠.bad:=by
 cases v<;>simp only[bc]at h
 case p t=>exact mY h
 case st u fs=>
  obtain⟨l,c,a,b,rfl⟩:=h;have:=wy b;simp[ad,bB,this.1,(J4 a).1]
 all_goals first
  |(obtain⟨_,rfl,_⟩:=h;simp[ad,bB])
  |(obtain⟨_,_,_,_,rfl⟩:=h;simp[ad,bB])
theorem rY{v:PV}(hs:aJ v=.leaf)(cs:List a5):aS P w aa v cs↔∃c,cs=[c]/\aA P w aa v c:=by
 cases v<;>simp[aJ]at hs<;>simp only[aS,aA]
 case bool|int|du|aO|fa|gV|fD=>exact⟨fun h=>⟨_,h,rfl⟩,fun⟨c,g,i⟩=>by rw[g,i]⟩
 case str s=>exact⟨fun⟨bs,g,i⟩=>⟨_,g,bs,rfl,i⟩,fun⟨c,g,bs,i,j⟩=>⟨bs,by rw[g,i],j⟩⟩
 case bY t=>exact⟨fun⟨a,b,c,g,i,j,k⟩=>⟨_,k,a,b,c,g,i,j,rfl⟩,fun⟨v,g,a,b,c,i,j,k,l⟩=>⟨a,b,c,i,j,k,by rw[g,l]⟩⟩
 case bI f es=>exact⟨fun⟨a,b,c,d,e,g,i,j,k,l,sp,n,m⟩=>⟨_,m,a,b,c,d,e,g,i,j,k,l,sp,n,rfl⟩,fun⟨v,h,a,b,c,d,e,g,i,j,k,l,sp,n,m⟩=>⟨a,b,c,d,e,g,i,j,k,l,sp,n,by rw[h,m]⟩⟩
 case seq es=>
  constructor
  ·rintro(⟨g,i⟩|⟨a,b,c,d,e,g,i,j,l,sp,n,m⟩)
   ·exact⟨_,i,.inl ⟨g,rfl⟩⟩
   ·exact⟨_,m,.inr ⟨a,b,c,d,e,g,i,j,l,sp,n,rfl⟩⟩
  ·rintro⟨v,h,(⟨g,i⟩|⟨a,b,c,d,e,g,i,j,l,sp,n,m⟩)⟩
   ·exact .inl ⟨g,by rw[h,i]⟩
   ·exact .inr ⟨a,b,c,d,e,g,i,j,l,sp,n,by rw[h,m]⟩
 case eE es=>exact⟨fun⟨a,b,c,g,i,j,k⟩=>⟨_,k,a,b,c,g,i,j,rfl⟩,fun⟨v,h,a,b,c,g,i,j,k⟩=>⟨a,b,c,g,i,j,by rw[h,k]⟩⟩
 case func f x y=>exact⟨fun⟨a,b,g,i,j⟩=>⟨_,j,a,b,g,i,rfl⟩,fun⟨v,h,a,b,g,i,j⟩=>⟨a,b,g,i,by rw[h,j]⟩⟩
theorem uL{v:PV}{u:a1}(hs:aJ v=.agg u)(cs:List a5):aS P w aa v cs↔aA P w aa v (.agg cs.toArray):=by
 cases v<;>simp[aJ]at hs;subst hs;simp only[aS,aA];constructor
 ·rintro⟨l,a,b,c,rfl⟩;exact⟨l,a,b,c,rfl⟩
 ·rintro⟨l,a,b,c,d⟩;refine⟨l,a,b,c,?_⟩;injection d with d;simpa using congrArg ay d
theorem Bg{v:AV}(hs:ad v=.leaf)(cs:List a5):bc P w aa β H v cs↔∃c,cs=[c]/\au P w aa β H v c:=by
 cases v<;>simp[ad]at hs<;>simp only[bc,au]
 case p t=>exact rY hs cs
 case func f x y=>exact⟨fun⟨a,b,d,e,g⟩=>⟨_,g,a,b,d,e,rfl⟩,fun⟨v,h,a,b,d,e,g⟩=>⟨a,b,d,e,by rw[h,g]⟩⟩
theorem K2{v:AV}{u:a1}(hs:ad v=.agg u)(cs:List a5):bc P w aa β H v cs↔au P w aa β H v (.agg cs.toArray):=by
 cases v<;>simp[ad]at hs
 case p t=>simp only[bc,au];exact uL hs cs
 case st u' fs=>
  subst hs;simp only[bc,au];constructor
  ·rintro⟨l,a,b,c,rfl⟩;exact⟨l,a,b,c,rfl⟩
  ·rintro⟨l,a,b,c,d⟩;refine⟨l,a,b,c,?_⟩;injection d with d;simpa using congrArg ay d
theorem wW{v:AV}{x:a5}(h:au P w aa β H v x)(hs:ad v≠.bad):bc P w aa β H v x.cells.toList:=by
 cases a:ad v with
 |bad=>exact absurd a hs
 |leaf=>
  rw[Bg a];refine⟨x,?_,h⟩;cases v<;>simp[ad]at a<;>simp only[au]at h
  case p t=>
   cases t<;>simp[aJ]at a<;>simp only[aA]at h
   case bool|int|du|aO|fa|gV|fD=>subst h;rfl
   case str=>obtain⟨_,rfl,_⟩:=h;rfl
   case bY=>obtain⟨_,_,_,_,_,_,rfl⟩:=h;rfl
   case bI=>obtain⟨_,_,_,_,_,_,_,_,_,_,_,_,rfl⟩:=h;rfl
   case seq=>rcases h with⟨_,rfl⟩|⟨_,_,_,_,_,_,_,_,_,_,_,rfl⟩<;>rfl
   case eE=>obtain⟨_,_,_,_,_,_,rfl⟩:=h;rfl
   case func=>obtain⟨_,_,_,_,rfl⟩:=h;rfl
  case func=>obtain⟨_,_,_,_,rfl⟩:=h;rfl
  all_goals (have b:=h.1;cases x<;>first|rfl|(simp[Value.oneCell']at b))
 |agg u=>
  cases v<;>simp[ad]at a
  case p t=>
   cases t<;>simp[aJ]at a;simp only[au,aA]at h;obtain⟨l,c,b,d,rfl⟩:=h;simp only[bc,aS];exact⟨l,c,b,d,by simp[Value.cells]⟩
  case st u' fs=>
   simp only[au]at h;obtain⟨l,c,b,d,rfl⟩:=h;simp only[bc];exact⟨l,c,b,d,by simp[Value.cells]⟩
end
mutual
def Wk:PV->PV->Prop
 | .undef,v=>v=.undef
 | .bool b,v=>v=.bool b
 | .int k n,v=>v=.int k n
 | .str s,v=>v=.str s
 | .du,v=>v=.du
 | .fa,v=>v=.fa
 | .gV,v=>v=.gV
 | .fD,v=>v=.fD
 | .aO,v=>v=.aO\/v=.seq []
 | .bY t,v=>match v with
  | .bY h=>Wk t h
  |_=>False
 | .bI f es,v=>match v with
  | .bI g fs=>(g=true->f=true)/\bw es fs
  | .seq fs=>bw es fs
  |_=>False
 | .seq es,v=>match v with
  | .seq fs=>bw es fs
  |_=>False
 | .eE es,v=>match v with
  | .eE fs=>kg es fs
  |_=>False
 | .func f a b,v=>match v with
  | .func g c d=>f=g/\bw a c/\bw b d
  |_=>False
 | .st u es,v=>match v with
  | .st u' fs=>u=u'/\bw es fs
  |_=>False
 | .aE es,v=>match v with
  | .aE fs=>bw es fs
  |_=>False
def bw:List PV->List PV->Prop
 |[],fs=>fs=[]
 |v::vs,fs=>match fs with
  |f::fs=>Wk v f/\bw vs fs
  |[]=>False
def kg:List (PV×PV)->List (PV×PV)->Prop
 |[],fs=>fs=[]
 |(k,v)::vs,fs=>match fs with
  |(e,f)::fs=>k=e/\Wk v f/\kg vs fs
  |[]=>False
end
mutual
theorem Wk.refl:∀v,Wk v v
 | .undef| .bool _| .int _ _| .str _| .du| .fa| .gV| .fD=>by simp[Wk]
 | .aO=>by simp[Wk]
 | .bY t=>by simp only[Wk];exact Wk.refl t
 | .bI f c=>by simp only[Wk];exact⟨id,bw.refl c⟩
 | .seq c=>by simp only[Wk];exact bw.refl c
 | .eE c=>by simp only[Wk];exact kg.refl c
 | .func f a b=>by simp only[Wk];exact⟨trivial,bw.refl a,bw.refl b⟩
 | .st u c=>by simp only[Wk];exact⟨trivial,bw.refl c⟩
 | .aE c=>by simp only[Wk];exact bw.refl c
theorem bw.refl:∀vs,bw vs vs
 |[]=>by simp[bw]
 |v::vs=>by simp only[bw];exact⟨Wk.refl v,bw.refl vs⟩
theorem kg.refl:∀c,kg c c
 |[]=>by simp[kg]
 |(k,v)::vs=>by simp only[kg];exact⟨trivial,Wk.refl v,kg.refl vs⟩
end
theorem bw.length:∀{es fs:List PV},bw es fs->fs.length=es.length
 |[],fs,h=>by simp only[bw]at h;subst h;rfl
 |v::vs,fs,h=>by
  cases fs with
  |nil=>simp[bw]at h
  |cons f fs=>simp only[bw]at h;simp[bw.length h.2]
theorem bw.oG{a fs:List PV}(h:bw a fs):fs=[]↔a=[]:=by
 have:=h.length;rw[<-da,<-da,this]
theorem Wk.aJ:∀{v v':PV},Wk v v'->aw.aJ v'=aw.aJ v
 | .undef,v',h| .bool _,v',h| .int _ _,v',h| .str _,v',h| .du,v',h| .fa,v',h| .gV,v',h| .fD,v',h=>by simp only[Wk]at h;subst h;rfl
 | .aO,v',h=>by simp only[Wk]at h;rcases h with rfl|rfl<;>rfl
 | .bY _,v',h| .bI _ _,v',h| .seq _,v',h| .eE _,v',h| .func _ _ _,v',h| .aE _,v',h=>by cases v'<;>simp only[Wk]at h<;>rfl
 | .st _ _,v',h=>by
  cases v'<;>simp only[Wk]at h;simp[aw.aJ,h.1]
section
variable{P:a0}{w:a7}{aa:Nat->Prop}
mutual
theorem aS.cR:∀(v v':PV)(cs:List a5),Wk v v'->aS P w aa v cs->aS P w aa v' cs
 | .undef,v',cs,h,hc| .bool _,v',cs,h,hc| .int _ _,v',cs,h,hc| .str _,v',cs,h,hc| .du,v',cs,h,hc| .fa,v',cs,h,hc| .gV,v',cs,h,hc| .fD,v',cs,h,hc=>by simp only[Wk]at h;subst h;exact hc
 | .aO,v',cs,h,hc=>by
  simp only[Wk]at h;rcases h with rfl|rfl
  ·exact hc
  ·simp only[aS]at hc⊢;exact .inl ⟨trivial,hc⟩
 | .bY t,v',cs,h,hc=>by
  cases v'<;>simp only[Wk]at h;simp only[aS]at hc⊢;obtain⟨ak,off,ts,d,i⟩:=hc;exact⟨ak,off,ts,aS.cR _ _ _ h d,i⟩
 | .bI f o,v',cs,h,hc=>by
  cases v' with
  |bI g fs=>
   simp only[Wk]at h;simp only[aS]at hc⊢;obtain⟨ak,off,cap,ai,m,d,i,j,p,q,s⟩:=hc;have z:=h.2.length;rw[z];exact⟨ak,off,cap,ai,m,aY.cR _ _ _ _ h.2 d,fun A=>i (fun e=>A (h.2.oG.2 e)),j,fun e=>p (h.1 e),q,s⟩
  |seq fs=>
   simp only[Wk]at h;simp only[aS]at hc⊢;obtain⟨ak,off,cap,ai,m,d,i,j,p,q,s⟩:=hc;have z:=h.length;rw[z];exact .inr ⟨ak,off,cap,ai,m,aY.cR _ _ _ _ h d,fun A=>i (fun e=>A (h.oG.2 e)),j,q,s⟩
  |_=>simp only[Wk]at h
 | .seq o,v',cs,h,hc=>by
  cases v'<;>simp only[Wk]at h;simp only[aS]at hc⊢;rcases hc with⟨d,i⟩|⟨ak,off,cap,ai,m,d,i,j,q,s⟩
  ·exact .inl ⟨h.oG.2 d,i⟩
  ·have z:=h.length;rw[z];exact .inr ⟨ak,off,cap,ai,m,aY.cR _ _ _ _ h d,fun A=>i (fun e=>A (h.oG.2 e)),j,q,s⟩
 | .eE o,v',cs,h,hc=>by
  cases v'<;>simp only[Wk]at h;simp only[aS]at hc⊢;obtain⟨r,C,clock,d,i,j,p⟩:=hc;exact⟨r,C,clock,d,i,cd.cR _ _ _ h j,p⟩
 | .func f a b,v',cs,h,hc=>by
  cases v'<;>simp only[Wk]at h;obtain⟨rfl,F,G⟩:=h;simp only[aS]at hc⊢;obtain⟨E,D,d,i,j⟩:=hc;exact⟨E,D,bp.cR _ _ _ F d,bp.cR _ _ _ G i,j⟩
 | .st u o,v',cs,h,hc=>by
  cases v'<;>simp only[Wk]at h;obtain⟨rfl,h⟩:=h;simp only[aS]at hc⊢;obtain⟨l,m,d,i,j⟩:=hc;exact⟨l,m,d,aY.cR _ _ _ _ h i,j⟩
 | .aE o,v',cs,h,hc=>by simp[aS]at hc
theorem aY.cR:∀(l:List Nat)(o fs:List PV)(m:List (List a5)),bw o fs->aY P w aa l o m->aY P w aa l fs m
 |l,[],fs,m,h,hc=>by simp only[bw]at h;subst h;exact hc
 |l,v::vs,fs,m,h,hc=>by
  cases fs with
  |nil=>simp[bw]at h
  |cons f fs=>
   simp only[bw]at h;cases l with
   |nil=>simp[aY]at hc
   |cons n l=>
    simp only[aY]at hc⊢;obtain⟨c,cs,d,i,j,p⟩:=hc;exact⟨c,cs,d,aS.cR _ _ _ h.1 i,j,aY.cR _ _ _ _ h.2 p⟩
theorem aA.cR:∀(v v':PV)(x:a5),Wk v v'->aA P w aa v x->aA P w aa v' x
 | .undef,v',cs,h,hc| .bool _,v',cs,h,hc| .int _ _,v',cs,h,hc| .str _,v',cs,h,hc| .du,v',cs,h,hc| .fa,v',cs,h,hc| .gV,v',cs,h,hc| .fD,v',cs,h,hc=>by simp only[Wk]at h;subst h;exact hc
 | .aO,v',cs,h,hc=>by
  simp only[Wk]at h;rcases h with rfl|rfl
  ·exact hc
  ·simp only[aA]at hc⊢;exact .inl ⟨trivial,hc⟩
 | .bY t,v',cs,h,hc=>by
  cases v'<;>simp only[Wk]at h;simp only[aA]at hc⊢;obtain⟨ak,off,ts,d,i⟩:=hc;exact⟨ak,off,ts,aS.cR _ _ _ h d,i⟩
 | .bI f o,v',cs,h,hc=>by
  cases v' with
  |bI g fs=>
   simp only[Wk]at h;simp only[aA]at hc⊢;obtain⟨ak,off,cap,ai,m,d,i,j,p,q,s⟩:=hc;have z:=h.2.length;rw[z];exact⟨ak,off,cap,ai,m,aY.cR _ _ _ _ h.2 d,fun A=>i (fun e=>A (h.2.oG.2 e)),j,fun e=>p (h.1 e),q,s⟩
  |seq fs=>
   simp only[Wk]at h;simp only[aA]at hc⊢;obtain⟨ak,off,cap,ai,m,d,i,j,p,q,s⟩:=hc;have z:=h.length;rw[z];exact .inr ⟨ak,off,cap,ai,m,aY.cR _ _ _ _ h d,fun A=>i (fun e=>A (h.oG.2 e)),j,q,s⟩
  |_=>simp only[Wk]at h
 | .seq o,v',cs,h,hc=>by
  cases v'<;>simp only[Wk]at h;simp only[aA]at hc⊢;rcases hc with⟨d,i⟩|⟨ak,off,cap,ai,m,d,i,j,q,s⟩
  ·exact .inl ⟨h.oG.2 d,i⟩
  ·have z:=h.length;rw[z];exact .inr ⟨ak,off,cap,ai,m,aY.cR _ _ _ _ h d,fun A=>i (fun e=>A (h.oG.2 e)),j,q,s⟩
 | .eE o,v',cs,h,hc=>by
  cases v'<;>simp only[Wk]at h;simp only[aA]at hc⊢;obtain⟨r,C,clock,d,i,j,p⟩:=hc;exact⟨r,C,clock,d,i,cd.cR _ _ _ h j,p⟩
 | .func f a b,v',cs,h,hc=>by
  cases v'<;>simp only[Wk]at h;obtain⟨rfl,F,G⟩:=h;simp only[aA]at hc⊢;obtain⟨E,D,d,i,j⟩:=hc;exact⟨E,D,bp.cR _ _ _ F d,bp.cR _ _ _ G i,j⟩
 | .st u o,v',cs,h,hc=>by
  cases v'<;>simp only[Wk]at h;obtain⟨rfl,h⟩:=h;simp only[aA]at hc⊢;obtain⟨l,m,d,i,j⟩:=hc;exact⟨l,m,d,aY.cR _ _ _ _ h i,j⟩
 | .aE o,v',cs,h,hc=>by
  cases v'<;>simp only[Wk]at h;simp only[aA]at hc⊢;obtain⟨B,d,i⟩:=hc;exact⟨B,bp.cR _ _ _ h d,i⟩
theorem bp.cR:∀(o fs:List PV)(B:List a5),bw o fs->bp P w aa o B->bp P w aa fs B
 |[],fs,B,h,hc=>by simp only[bw]at h;subst h;exact hc
 |v::vs,fs,B,h,hc=>by
  cases fs with
  |nil=>simp[bw]at h
  |cons f fs=>
   simp only[bw]at h;simp only[bp]at hc⊢;obtain⟨y,H,d,i,j⟩:=hc;exact⟨y,H,d,aA.cR _ _ _ h.1 i,bp.cR _ _ _ h.2 j⟩
theorem cd.cR:∀(o fs:List (PV×PV))(C:List bl),kg o fs->cd P w aa o C->cd P w aa fs C
 |[],fs,B,h,hc=>by simp only[kg]at h;subst h;exact hc
 |(k,v)::vs,fs,B,h,hc=>by
  cases fs with
  |nil=>simp[kg]at h
  |cons f fs=>
   simp only[kg]at h;obtain⟨rfl,d,i⟩:=h;simp only[cd]at hc⊢;obtain⟨e,rest,e1,e2,e3,e4⟩:=hc;exact⟨e,rest,e1,e2,aA.cR _ _ _ d e3,cd.cR _ _ _ i e4⟩
end
end
section
variable{P:a0}{w:a7}{aa:Nat->Prop}{β:Bd}{H:Heap}
theorem lB:∀{fs:List AV}{l:List PV},ez fs=some l->fs=l.map .p
 |[],l,h=>by simp[ez]at h;subst h;rfl
 | .p v::r,l,h=>by
  simp only[ez]at h;cases a:ez r with
  |none=>simp[a]at h
  |some b=>simp[a]at h;subst h;simp[lB a]
 | .ptr ..::_,_,h| .bR ..::_,_,h| .sl ..::_,_,h| .map ..::_,_,h| .func ..::_,_,h| .st ..::_,_,h| .aE ..::_,_,h=>by simp[ez]at h
theorem nh:∀{l:List Nat}{fs:List PV}{a:List (List a5)},bF P w aa β H l (fs.map .p) a↔aY P w aa l fs a
 |[],[],_=>by simp[bF,aY]
 |[],_::_,_=>by simp[bF,aY]
 |_::_,[],_=>by simp[bF,aY]
 |n::g,v::vs,a=>by
  simp only[cy,bF,aY,bc];constructor
  ·rintro⟨c,cs,b,d,e,f⟩;exact⟨c,cs,b,d,e,nh.1 f⟩
  ·rintro⟨c,cs,b,d,e,f⟩;exact⟨c,cs,b,d,e,nh.2 f⟩
theorem jb:∀{fs:List PV}{d:List a5},br P w aa β H (fs.map .p) d↔bp P w aa fs d
 |[],_=>by simp[br,bp]
 |v::vs,d=>by
  simp only[cy,br,bp,au];constructor
  ·rintro⟨y,e,a,b,c⟩;exact⟨y,e,a,b,jb.1 c⟩
  ·rintro⟨y,e,a,b,c⟩;exact⟨y,e,a,b,jb.2 c⟩
theorem JW{u:a1}{fs:List AV}{cs:List a5}:bc P w aa β H (gK u fs) cs↔bc P w aa β H (.st u fs) cs:=by
 unfold gK;cases h:ez fs with
 |none=>rfl
 |some l=>have:=lB h;subst this;simp[bc,aS,nh]
theorem VN{u:a1}{fs:List AV}{x:a5}:au P w aa β H (gK u fs) x↔au P w aa β H (.st u fs) x:=by
 unfold gK;cases h:ez fs with
 |none=>rfl
 |some l=>have:=lB h;subst this;simp[au,aA,nh]
theorem iI(n:Nat×Nat->Prop):∀l:List PV,aQ n (l.map .p)
 |[]=>by simp[aQ]
 |v::l=>by simp only[cy,aQ,aC,true_and];exact iI n l
theorem z8{n:Nat×Nat->Prop}{u:a1}{fs:List AV}(h:aQ n fs):aC n (gK u fs):=by
 unfold gK;cases ez fs with
 |none=>exact h
 |some l=>simp[aC]
theorem cq{n:Nat×Nat->Prop}:∀{fs:List AV},aQ n fs↔∀v∈fs,aC n v
 |[]=>by simp[aQ]
 |v::vs=>by simp[aQ,cq (fs:=vs)]
theorem so:∀{l:List Nat}{fs:List AV}{d:List (List a5)}{i:Nat}{f:AV},bF P w aa β H l fs d->fs[i]?=some f->
 ∃pre c post,d.flatten=pre++c++post/\pre.length=(l.take i).sum/\i<l.length/\l[i]?=some c.length/\bc P w aa β H f c/\
  ∀b c',bc P w aa β H b c'->c'.length=c.length->∃a,a.flatten=pre++c'++post/\bF P w aa β H l (fs.set i b) a
 |[],[],_,i,f,_,hf=>by simp at hf
 |[],_::_,_,_,_,h,_=>by simp[bF]at h
 |_::_,[],_,_,_,h,_=>by simp[bF]at h
 |n::m,v::vs,d,0,f,h,hf=>by
  simp only[bF]at h;obtain⟨c,cs,rfl,g,e,j⟩:=h;simp at hf;subst hf;refine⟨[],c,cs.flatten,by simp,by simp,by simp,by simp[e],g,?_⟩;intro b c' hc k;exact⟨c'::cs,by simp,by simp only[dl,bF];exact⟨c',cs,rfl,hc,by omega,j⟩⟩
 |n::m,v::vs,d,i+1,f,h,hf=>by
  simp only[bF]at h;obtain⟨c,cs,rfl,g,e,j⟩:=h;simp at hf;obtain⟨pre,x,post,k1,k2,k3,k4,k5,k6⟩:=so j hf;refine⟨c++pre,x,post,by simp[k1],by simp[k2,e],by simpa using k3,by simpa using k4,k5,?_⟩;intro b c' hc k;obtain⟨a,e1,e2⟩:=k6 b c' hc k;exact⟨c::a,by simp[e1],by simp only[List.set_cons_succ,bF];exact⟨c,a,rfl,g,e,e2⟩⟩
theorem IX{t:AV}{u:a1}{cs:List a5}(hs:ad t= .agg u)(h:bc P w aa β H t cs):
 ∃l fs a,dy P u=some l/\bF P w aa β H l fs a/\cs=a.flatten/\(∀c,t=.p c->fs=(cj c).map .p)/\(∀u' g,t=.st u' g->fs=g/\u'=u):=by
 cases t<;>simp[ad]at hs
 case p t=>
  cases t<;>simp[aJ]at hs;subst hs;simp only[bc,aS]at h;obtain⟨l,a,d,e,f⟩:=h;exact⟨l,_,a,d,nh.2 e,f,fun c b=>by cases b;rfl,fun _ _ h=>by cases h⟩
 case st u' fs=>
  subst hs;simp only[bc]at h;obtain⟨l,a,d,e,f⟩:=h;exact⟨l,fs,a,d,e,f,(fun c b=>by cases b),(fun j i b=>by cases b;exact⟨rfl,rfl⟩)⟩
theorem ye{t:PV}{a:List (a1×Nat)}:eB (.p t) a=(ke t a).map .p:=by
 cases a with
 |nil=>rfl
 |cons x r=>obtain⟨u,i⟩:=x;simp only[eB];cases ke t ((u,i)::r)<;>rfl
theorem oF:∀{y:List (a1×Nat)}{t s:AV}{cs:List a5}{o:Nat},bc P w aa β H t cs->eB t y=some s->fK P y=some o->
 ∃pre n post,cs=pre++n++post/\pre.length=o/\bc P w aa β H s n/\
  ∀x k a,fx t y x=some a->bc P w aa β H x k->k.length=n.length->bc P w aa β H a (pre++k++post)
 |[],t,s,cs,o,h,hs,d=>by
  simp[fK]at d;subst d;simp[eB]at hs;subst hs;refine⟨[],cs,[],by simp,by simp,h,?_⟩;intro x k a hx v _;simp[fx]at hx;subst hx;simpa using v
 |(u,i)::r,t,s,cs,o,h,hs,d=>by
  simp only[fK]at d;cases m:dy P u with
  |none=>simp[m]at d
  |some l=>
   cases q:fK P r with
   |none=>simp[m,q]at d
   |some o'=>
    simp[m,q]at d;obtain⟨I,rfl⟩:=d
    have key:∃fs f,(∃j e,dy P u=some j/\bF P w aa β H j fs e/\cs=e.flatten)/\fs[i]?=some f/\eB f r=some s/\
     (∀x a,fx t ((u,i)::r) x=some a->∃b,fx f r x=some b/\a=gK u (fs.set i b)):=by
     cases t
     case p t=>
      rw[ye]at hs;simp only[ke]at hs
      by_cases g:aJ t=.agg u
      ·simp only[g,if_true]at hs;obtain⟨j,fs,e,k1,k2,k3,k4,_⟩:=IX (t:=.p t) (by simpa[ad]using g) h;have:=k4 t rfl;subst this;cases hf:(cj t)[i]? with
       |none=>simp[hf]at hs
       |some f=>
        simp only[hf]at hs;refine⟨_,.p f,⟨j,e,k1,k2,k3⟩,by simp[hf],by rw[ye];exact hs,?_⟩;intro x a hx;simp only[fx,g,if_true,hf]at hx;cases hq:fx (.p f) r x with
        |none=>simp[hq]at hx
        |some b=>simp[hq]at hx;exact⟨b,rfl,hx.symm⟩
      ·simp[g]at hs
     case st u' fs=>
      simp only[eB]at hs
      by_cases g:u'=u
      ·subst g;simp only[if_true]at hs;obtain⟨j,C,e,k1,k2,k3,_,k4⟩:=IX (t:=.st u' fs) rfl h;have:=(k4 _ _ rfl).1;subst this;cases hf:C[i]? with
       |none=>simp[hf]at hs
       |some f=>
        simp only[hf]at hs;refine⟨_,f,⟨j,e,k1,k2,k3⟩,hf,hs,?_⟩;intro x a hx;simp only[fx,if_true,hf]at hx;cases hq:fx f r x with
        |none=>simp[hq]at hx
        |some b=>simp[hq]at hx;exact⟨b,rfl,hx.symm⟩
      ·simp[g]at hs
     all_goals simp[eB]at hs
    obtain⟨fs,f,⟨j,e,k1,k2,k3⟩,hf,E,aI⟩:=key;rw[m]at k1;cases k1;obtain⟨pre,c,post,e1,e2,e3,e4,e5,B⟩:=so k2 hf;obtain⟨G,n,F,g1,g2,g3,g4⟩:=oF e5 E q;refine⟨pre++G,n,F++post,by rw[k3,e1,g1];simp,by simp[e2,g2],g3,?_⟩;intro x k a hx v z;obtain⟨b,D,rfl⟩:=aI x a hx;have aP:=g4 x k b D v z;obtain⟨A,c1,c2⟩:=B b _ aP (by rw[g1];simp[z]);rw[JW];simp only[bc];exact⟨l,A,m,c2,by rw[c1];simp⟩
theorem xA{path:List (a1×Nat)}{t s:PV}{cs:List a5}{o:Nat}(h:aS P w aa t cs)(hs:ke t path=some s)(e:fK P path=some o):
 ∃pre a post,cs=pre++a++post/\pre.length=o/\aS P w aa s a:=by
 obtain⟨pre,a,post,b,c,d,_⟩:=oF (β:=⟨id,id⟩) (H:=[]) (t:=.p t) (s:=.p s) (by simpa[bc]using h) (by rw[ye,hs];rfl) e;exact⟨pre,a,post,b,c,by simpa[bc]using d⟩
theorem uk{n:Nat×Nat->Prop}:∀{a:List (a1×Nat)}{t s:AV},eB t a=some s->aC n t->aC n s
 |[],t,s,hs,h=>by simp[eB]at hs;subst hs;exact h
 |(u,i)::r,.p t,s,hs,h=>by
  rw[ye]at hs;cases hq:ke t ((u,i)::r)with
  |none=>simp[hq]at hs
  |some q=>simp[hq]at hs;subst hs;simp[aC]
 |(u,i)::r,.st u' fs,s,hs,h=>by
  simp only[eB]at hs
  split at hs
  ·split at hs
   ·rename_i f hf;simp only[aC]at h;exact uk hs (cq.1 h f (dg hf))
   ·simp at hs
  ·simp at hs
 |_::_,.ptr ..,_,hs,_|_::_,.bR ..,_,hs,_|_::_,.sl ..,_,hs,_|_::_,.map ..,_,hs,_|_::_,.func ..,_,hs,_|_::_,.aE ..,_,hs,_=>by simp[eB]at hs
theorem um{n:Nat×Nat->Prop}:∀{e:List (a1×Nat)}{t b x:AV},fx t e x=some b->aC n t->aC n x->aC n b
 |[],t,b,x,hs,h,hx=>by simp[fx]at hs;subst hs;exact hx
 |(u,i)::r,.p t,b,x,hs,h,hx=>by
  simp only[fx]at hs
  split at hs
  ·split at hs
   ·split at hs
    ·rename_i f hf d c;simp at hs;subst hs;refine z8 (cq.2 ?_);intro v a;rcases c9 a with a|rfl
     ·exact cq.1 (iI n _) v a
     ·exact um c (by simp[aC]) hx
    ·simp at hs
   ·simp at hs
  ·simp at hs
 |(u,i)::r,.st u' fs,b,x,hs,h,hx=>by
  simp only[fx]at hs
  split at hs
  ·split at hs
   ·split at hs
    ·rename_i _ f hf _ d c;simp at hs;subst hs;simp only[aC]at h;refine z8 (cq.2 ?_);intro v a;rcases c9 a with a|rfl
     ·exact cq.1 h v a
     ·exact um c (cq.1 h f (dg hf)) hx
    ·simp at hs
   ·simp at hs
  ·simp at hs
 |_::_,.ptr ..,_,_,hs,_,_|_::_,.bR ..,_,_,hs,_,_|_::_,.sl ..,_,_,hs,_,_|_::_,.map ..,_,_,hs,_,_|_::_,.func ..,_,_,hs,_,_|_::_,.aE ..,_,_,hs,_,_=>by simp[fx]at hs
end
structure aR where
 v:AV
 aj:List (Nat×Obj):=[]
 aI:List (Nat×Obj):=[]
 aP:List Obj:=[]
def ba(H:Heap)(l:List (Nat×Obj)):Heap:=
 match l with
 |[]=>H
 |(b,o)::r=>ba (H.set b o) r
def put(dst:Option Tmp)(v:AV)(e:Env):Env:=
 match dst with
 |some d=>(d,v)::e
 |none=>e
def aR.app(e:aR)(dst:Option Tmp)(s:St):St:=⟨put dst e.v s.env,ba s.heap e.aI++e.aP⟩
def ev(e:Env):a9->AV
 | .tmp t=>aK e t
 | .const v=>.p (ofConst v)
 | .global g=>.p (Gl.g g)
 | .func f=>.p (.func f [] [])
def fR(s:List Nat):ByteArray:=⟨(s.map UInt8.ofNat).toArray⟩
mutual
def jS:PV->PV->Option Bool
 | .bool a,.bool b=>some (a==b)
 | .int k a,.int c b=>if k=c then some (a==b)else none
 | .str a,.str b=>some (a==b)
 | .st u fs,.st u' gs=>if u=u' then vr fs gs else none
 |_,_=>none
def vr:List PV->List PV->Option Bool
 |[],[]=>some true
 |a::as,b::bs=>match jS a b with
  |some true=>vr as bs
  |some false=>some false
  |none=>none
 |_,_=>none
end
def iE(P:a0)(c:a1->PV->PV->Option Bool):List a1->List PV->List PV->Option Bool
 |[],[],[]=>some true
 |T::d,a::as,b::bs=>
  if kindOf P T=aJ a/\kindOf P T=aJ b then
   (match c T a b,iE P c d as bs with
   |some r,some s=>some (r&&s)
   |_,_=>none)
  else none
 |_,_,_=>none
def gT(P:a0):Nat->a1->PV->PV->Option Bool
 |0,_,_,_=>none
 |n+1,T,v,v'=>
  match P.underlying T,v,v' with
  |some .bool,.bool a,.bool b=>some (a==b)
  |some (.int _),.int k a,.int d b=>if k=d then some (a==b)else none
  |some .string,.str a,.str b=>some (a==b)
  |some (.struct fs),.st u xs,.st u' c=>
   if kindOf P T= .agg u/\u'=u/\P.stoodInHeld T=false/\fs.toList.all (fun f=>f.name != "_")=true then iE P (gT P n) (fs.toList.map (·.type)) xs c else none
  |some (.array m e),.st u xs,.st u' c=>
   if kindOf P T=.agg u/\u'=u/\(P.info? e).isSome=true then iE P (gT P n) (cc m e) xs c else none
  |_,_,_=>none
def qU(P:a0)(T:a1):Bool:=!P.eqGuardType P.depth T
def pZ(P:a0)(T:a1):Bool:=match P.underlying T with|some .bool=>true|_=>false
def aFJ(P:a0)(T:a1):Bool:=match P.underlying T with|some (.int _)=>true|_=>false
def ib(P:a0)(T:a1):Bool:=match P.underlying T with|some .string=>true|_=>false
inductive tC where|ptr|slice|map|func|iface
 deriving DecidableEq
def lQ:a9->Bool
 | .const _=>true
 |_=>false
def di(P:a0)(T:a1)(c:Bool):AV->Option tC
 | .p .du=>match P.underlying T with
  |some (.pointer _)=>some .ptr
  |_=>none
 | .p .aO=>match P.underlying T with
  |some (.slice _)=>some .slice
  |_=>none
 | .p .fa=>match P.underlying T with
  |some (.map _ _)=>some .map
  |_=>none
 | .p .gV=>match P.underlying T with
  |some (.func _ _ _)=>some .func
  |_=>none
 | .p .fD=>match c,P.underlying T with
  |true,some (.interface _)=>some .iface
  |_,_=>none
 |_=>none
def cK(H:Heap)(k:tC)(x:AV):Option Bool:=
 match k,x with
 | .ptr,.p .du| .slice,.p .aO| .map,.p .fa| .func,.p .gV| .iface,.p .fD=>some true
 | .ptr,.p (.bY _)| .slice,.p (.bI _ _)| .map,.p (.eE _)| .func,.p (.func _ _ _)| .func,.func _ _ _=>some false
 | .ptr,.ptr b _=>match H[b]? with
  |some (.box _ _)=>some false
  |_=>none
 | .map,.map b=>match H[b]? with
  |some (.map _ _)=>some false
  |_=>none
 | .slice,.p (.seq (_::_))=>some false
 | .slice,.sl b ar ai _ _=>match H[b]? with
  |some (.arr k c a es)=>if ar=c/\ai=a then some (k.gr&&es.isEmpty)else none
  |_=>none
 |_,_=>none
def oT(op:BinOp)(k:bo)(a b:Int)(K:PV->Prop):Prop:=
 match op with
 | .add=>K (.int k (k.wrap (a+b)))
 | .sub=>K (.int k (k.wrap (a-b)))
 | .mul=>K (.int k (k.wrap (a*b)))
 | .quo=>b≠0/\K (.int k (k.wrap (a.tdiv b)))
 | .rem=>b≠0/\K (.int k (a.tmod b))
 | .and=>K (.int k (k.wrap (aT k.bits a&&&aT k.bits b).toNat))
 | .or=>K (.int k (k.wrap (aT k.bits a|||aT k.bits b).toNat))
 | .xor=>K (.int k (k.wrap (aT k.bits a^^^aT k.bits b).toNat))
 | .andNot=>K (.int k (k.wrap (aT k.bits a&&&~~~aT k.bits b).toNat))
 | .eql=>K (.bool (a==b))
 | .neq=>K (.bool (a !=b))
 | .lss=>K (.bool (decide (a<b)))
 | .leq=>K (.bool (decide (a<=b)))
 | .gtr=>K (.bool (decide (a>b)))
 | .geq=>K (.bool (decide (a>=b)))
 | .shl=>0<=b/\K (.int k (k.wrap (a*2^(min b.toNat k.bits))))
 | .shr=>0<=b/\K (.int k (a.fdiv (2^(min b.toNat k.bits))))
def iJ:List Nat->List Nat->Bool
 |_,[]=>false
 |[],_::_=>true
 |a::x,b::y=>decide (a<b)||(a==b&&iJ x y)
def oS(op:BinOp)(a b:List Nat)(K:PV->Prop):Prop:=
 match op with
 | .add=>a.length+b.length<9223372036854775808/\K (.str (a++b))
 | .eql=>K (.bool (a==b))
 | .neq=>K (.bool (!(a==b)))
 | .lss=>K (.bool (iJ a b))
 | .leq=>K (.bool (iJ a b||a==b))
 | .gtr=>K (.bool (!(iJ a b||a==b)))
 | .geq=>K (.bool (!(iJ a b)))
 |_=>False
def jM(P:a0)(op:BinOp)(T:a1)(c:Bool)(H:Heap)(x y:AV)(K:PV->Prop):Prop:=
 match x,y with
 | .p (.int k a),.p (.int d b)=>(k=d\/op=.shl\/op=.shr)/\oT op k a b K
 | .p (.str a),.p (.str b)=>oS op a b K
 | .p (.bool a),.p (.bool b)=>pZ P T=true/\match op with
  | .eql=>K (.bool (a==b))
  | .neq=>K (.bool (!(a==b)))
  |_=>False
 | .p (.st u fs),.p (.st u' gs)=>qU P T=true/\(match gT P 9 T (.st u fs) (.st u' gs),op with
  |some r,.eql=>K (.bool r)
  |some r,.neq=>K (.bool !r)
  |_,_=>False)
 |x,y=>
  (match di P T c y with
  |some k=>(match cK H k x,op with
   |some r,.eql=>K (.bool r)
   |some r,.neq=>K (.bool !r)
   |_,_=>False)
  |none=>False)
def cM:Nat:=1073741824
def gv(H:Heap):AV->Option (List AV)
 | .p .aO=>some []
 | .p (.bI _ es)=>some (es.map .p)
 | .p (.seq es)=>some (es.map .p)
 | .p (.str s)=>some (s.map fun c=>.p (.int .u8 (c:Nat)))
 | .sl b ar ai off len=>match H[b]? with
  |some (.arr _ d a es)=>if ar=d/\ai=a/\off+len<=es.length then some ((es.drop off).take len)else none
  |_=>none
 |_=>none
def dj(H:Heap):AV->List (Nat×Obj)
 | .sl b _ _ _ _| .ptr b _| .bR b _ _ _ _| .map b=>match H[b]? with
  |some o=>[(b,o)]
  |none=>[]
 |_=>[]
def eC(P:a0)(ai:Nat):List AV->Prop
 |[]=>True
 |v::vs=>(ad v≠.bad/\bB P (ad v)=ai)/\eC P ai vs
def cr(P:a0)(T:a1):Option Nat:=
 match P.underlying T with
 |some (.slice e)=>match P.info? e with
  |some i=>if i.bytes<32768/\0<i.size/\0<i.bytes then some i.size else none
  |none=>none
 |_=>none
def dR(P:a0)(T:a1):a1:=
 match P.underlying T with
 |some (.slice e)=>e
 |_=>0
def ie(P:a0)(X:a1):Bool:=
 match P.underlying X with
 |some (.int _)=>false
 |some _=>true
 |none=>false
def gk(P:a0)(T:a1):AK:=if dR P T=Gl.u8 then .bytes else .grow
def ng(P:a0)(T X:a1)(H:Heap)(s x:AV)(K:aR->Prop):Prop:=
 match cr P T,gv H x with
 |some sz,some xs=>ie P X=true/\(cm P (dR P T)).isSome=true/\eC P sz xs/\
  (match s with
  | .p .aO=>if xs.isEmpty then K {v:=s,aj:=dj H x}else xs.length<=cM/\K {v:=.sl H.length 0 sz 0 xs.length,aj:=dj H x,aP:=[.arr (gk P T) 0 sz xs]}
  | .p (.bI full es)=>eC P sz (es.map .p)/\if xs.isEmpty then K {v:=s,aj:=dj H x}else full=true/\es.length+xs.length<=cM/\
   K {v:=.sl H.length 0 sz 0 (es.length+xs.length),aj:=dj H x,aP:=[.arr (gk P T) 0 sz (es.map .p++xs)]}
  | .sl b ar ai off len=>match H[b]? with
   |some (.arr k c a es)=>ar=c/\ai=a/\ai=sz/\off+len<=es.length/\
    if xs.isEmpty then K {v:=s,aj:=(b,.arr k c a es)::dj H x}
    else es.length+xs.length<=cM/\(match k with
     | .frozen=>False
     | .exact=>if off+len+xs.length<=es.length then
      K {v:=.sl b ar ai off (len+xs.length),aj:=(b,.arr k c a es)::dj H x,aI:=[(b,.arr .exact ar ai (es.take (off+len)++xs++es.drop (off+len+xs.length)))]}
      else K {v:=.sl H.length 0 sz 0 (len+xs.length),aj:=(b,.arr k c a es)::dj H x,aP:=[.arr (gk P T) 0 sz ((es.drop off).take len++xs)]}
     |_=>off=0/\(k=.bytes->dR P T=Gl.u8)/\K {v:=.sl b (ar+1) ai 0 (len+xs.length),aj:=(b,.arr k c a es)::dj H x,aI:=[(b,.arr k (ar+1) ai (es.take len++xs))]})
   |_=>False
  |_=>False)
 |_,_=>False
def fX(x:Option AV)(d:Nat)(K:Nat->Prop):Prop:=
 match x with
 |none=>K d
 |some (.p (.int _ i))=>0<=i/\K i.toNat
 |_=>False
def nt(P:a0)(T:a1)(H:Heap)(x:AV)(lo hi d:Option AV)(K:aR->Prop):Prop:=
 d.isNone/\match x with
 | .p (.str s)=>ib P T=true/\fX hi s.length fun h=>fX lo 0 fun l=>h<=s.length/\l<=h/\K {v:=.p (.str ((s.take h).drop l))}
 | .p .aO=>(cr P T).isSome=true/\fX hi 0 fun h=>fX lo 0 fun l=>h<=0/\l<=h/\K {v:=x}
 | .p (.bI full es)=>fX hi es.length fun h=>fX lo 0 fun l=>h<=es.length/\l<=h/\
  (match cr P T with
  |some sz=>eC P sz (es.map .p)/\K {v:=.p (.bI (full&&h==es.length) ((es.take h).drop l))}
  |none=>False)
 | .p (.seq es)=>fX hi es.length fun h=>fX lo 0 fun l=>h<=es.length/\l<=h/\
  (match cr P T with
  |some sz=>eC P sz (es.map .p)/\K {v:=.p (.seq ((es.take h).drop l))}
  |none=>False)
 | .sl b ar ai off len=>match H[b]? with
  |some (.arr k c a es)=>ar=c/\ai=a/\cr P T=some ai/\¬(k.gr=true/\es=[])/\off+len<=es.length/\
   fX hi len fun h=>fX lo 0 fun l=>off+h<=es.length/\l<=h/\
    (if l=0 then K {v:=.sl b ar ai off h,aj:=[(b,.arr k c a es)]}
    else if l=h then K {v:=.p (.bI false []),aj:=[(b,.arr k c a es)]}
    else K {v:=.sl b ar ai (off+l) (h-l),aj:=[(b,.arr k c a es)]})
  |_=>False
 |_=>False
def pL(P:a0)(T:a1)(H:Heap)(x:AV)(lo hi:Option AV)(m:AV)(K:aR->Prop):Prop:=
 match x with
 | .sl b ar ai off len=>match H[b]? with
  |some (.arr k c a es)=>ar=c/\ai=a/\(cr P T).isSome=true/\¬(k.gr=true/\es=[])/\off+len<=es.length/\hi.isSome=true/\
   fX hi len fun h=>fX lo 0 fun l=>fX (some m) 0 fun m=>off+m<=es.length/\h<=m/\l<=h/\K {v:=.p .undef,aj:=[(b,.arr k c a es)]}
  |_=>False
 |_=>False
def o7(P:a0)(T:a1)(x k:PV):Option Bool:=match x with
 | .st u fs=>match gT P 9 T (.st u fs) k,jS (.st u fs) k with
  |some a,some b=>bif a==b then some a else none
  |_,_=>none
 |x=>jS x k
def fA(P:a0)(T:a1):List (PV×PV)->PV->Option (Option PV)
 |[],_=>some none
 |(k,v)::r,x=>match o7 P T x k with
  |some true=>some (some v)
  |some false=>fA P T r x
  |none=>none
def lG(P:a0)(T:a1)(a:List (PV×PV))(x:PV):Option (Option PV):=match x with
 | .st u fs=>match fA P T a (.st u fs)with
  |some none=>some none
  |_=>none
 |x=>fA P T a x
def mP:PV->Bool
 | .st _ _=>false
 |_=>true
def kj(P:a0)(T:a1):List PV->List AV->PV->Option (Option AV)
 |[],[],_=>some none
 |k::ks,v::vs,x=>match o7 P T x k with
  |some true=>some (some v)
  |some false=>kj P T ks vs x
  |none=>none
 |_,_,_=>none
def rC:Obj->Option (List PV×List AV)
 | .map false es=>some (es.map (·.1),es.map fun e=>.p e.2)
 | .de ks vs=>some (ks,vs)
 |_=>none
def fW:List (PV×PV)->PV->PV->List (PV×PV)
 |[],k,v=>[(k,v)]
 |(a,v')::r,k,v=>if jS k a=some true then(k,v)::r else(a,v')::fW r k v
def sv(P:a0)(T:a1):Bool:=match P.underlying T with
 |some (.int _)|some .string|some .bool=>true
 |_=>false
def eX(P:a0)(T:a1):PV->Bool
 | .int k _=>match P.underlying T with
  |some (.int a)=>decide (k=a)
  |_=>false
 | .str _=>ib P T
 | .st u fs=>match P.underlying T with
  |some (.struct cj)=>cj.toList.all (fun f=>f.name != "_" &&sv P f.type)&&(gT P 9 T (.st u fs) (.st u fs)).isSome
  |_=>false
 |_=>false
def iQ(P:a0)(T:a1):Option (a1×a1):=
 match P.underlying T with
 |some (.map k e)=>some (k,e)
 |_=>none
def lenOf(H:Heap):AV->Option (Nat×List (Nat×Obj))
 | .p (.str s)=>some (s.length,[])
 | .p .aO| .p .fa=>some (0,[])
 | .p (.bI _ es)| .p (.seq es)=>some (es.length,[])
 | .p (.eE es)=>some (es.length,[])
 | .sl b ar ai _off len=>match H[b]? with
  |some (.arr k c a es)=>if ar=c/\ai=a then some (len,[(b,.arr k c a es)])else none
  |_=>none
 | .map b=>match H[b]? with
  |some (.map fz es)=>some (es.length,[(b,.map fz es)])
  |_=>none
 |_=>none
def gF(P:a0)(T:a1):AV->Bool
 | .p (.str _)=>ib P T
 | .p .aO| .p (.bI _ _)| .p (.seq _)| .sl ..=>match P.underlying T with
  |some (.slice _)=>true
  |_=>false
 | .p .fa| .p (.eE _)| .map _=>match P.underlying T with
  |some (.map _ _)=>true
  |_=>false
 |_=>false
def yR(H:Heap):AV->Option (Nat×List (Nat×Obj))
 | .p .aO=>some (0,[])
 | .p (.bI true es)=>some (es.length,[])
 | .sl b ar ai off _len=>match H[b]? with
  |some (.arr .exact c a es)=>if ar=c/\ai=a/\off<=es.length then some (es.length-off,[(b,.arr .exact c a es)])else none
  |_=>none
 |_=>none
def bytesOf:List AV->Option (List Nat)
 |[]=>some []
 | .p (.int .u8 c)::r=>if 0<=c/\c<256 then match bytesOf r with
  |some l=>some (c.toNat::l)
  |none=>none
  else none
 |_=>none
def ptrTo(P:a0)(T:a1):Option a1:=
 match P.underlying T with
 |some (.pointer e)=>some e
 |_=>none
def lA(k:bo)(c:Bool):List AV->Int->Option Int
 |[],a=>some a
 | .p (.int d b)::r,a=>if k=d then lA k c r (if c then(if b>a then b else a)else(if b<a then b else a))else none
 |_,_=>none
def ia(a:List AV):List (Nat×AV)->List AV
 |[]=>a
 |(i,v)::r=>ia (a.set i v) r
def ly(P:a0)(l:List Nat):List (Nat×AV)->Prop
 |[]=>True
 |(i,v)::r=>(∃n,l[i]?=some n/\bB P (ad v)=n/\ad v≠.bad)/\ly P l r
def fh(H:Heap):List AV->Option (List PV×List (Nat×Obj)×List (Nat×Obj))
 |[]=>some ([],[],[])
 | .p v::r=>match fh H r with
  |some (a,aj,aI)=>some (v::a,aj,aI)
  |none=>none
 | .ptr b []::r=>match H[b]?,fh H r with
  |some (.box fz (.p t)),some (a,aj,aI)=>some (.bY t::a,(b,.box fz (.p t))::aj,(b,.box true (.p t))::aI)
  |_,_=>none
 |_=>none
def nE(P:a0)(T:a1)(H:Heap)(a:AV)(K:aR->Prop):Prop:=
 match a with
 | .ptr b path=>match H[b]? with
  |some (.box fz t)=>match eB t path with
   |some s=>kindOf P T=ad s/\K {v:=s,aj:=[(b,.box fz t)]}
   |none=>False
  |_=>False
 | .bR b ar ai i path=>match H[b]? with
  |some (.arr k d c es)=>ar=d/\ai=c/\∃h:i<es.length,match eB (es[i]'h) path with
   |some s=>kindOf P T=ad s/\K {v:=s,aj:=[(b,.arr k d c es)]}
   |none=>False
  |_=>False
 | .p (.bY t)=>kindOf P T=aJ t/\K {v:=.p t}
 |_=>False
def nr(P:a0)(T:a1)(H:Heap)(a x:AV)(K:aR->Prop):Prop:=
 kindOf P T=ad x/\ad x≠.bad/\match a with
 | .ptr b path=>match H[b]? with
  |some (.box false t)=>match eB t path,fx t path x with
   |some s,some d=>ad s=ad x/\K {v:=.p (.aE []),aj:=[(b,.box false t)],aI:=[(b,.box false d)]}
   |_,_=>False
  |_=>False
 | .bR b ar ai i path=>match H[b]? with
  |some (.arr k e c es)=>ar=e/\ai=c/\k≠.frozen/\∃h:i<es.length,match eB (es[i]'h) path,fx (es[i]'h) path x with
   |some s,some d=>ad s=ad x/\K {v:=.p (.aE []),aj:=[(b,.arr k e c es)],aI:=[(b,.arr k e c (es.set i d))]}
   |_,_=>False
  |_=>False
 |_=>False
def nX(P:a0)(a:a1)(b:Nat)(key:PV)(x:AV)(o:Obj)(K:aR->Prop):Prop:=match rC o with
 |some (ks,vs)=>mP key=true/\kj P a ks vs key=some none/\K {v:=.p (.aE []),aj:=[(b,o)],aI:=[(b,.de (ks++[key]) (vs++[x]))]}
 |none=>False
def fB(P:a0)(T:a1):Option (a1×Nat):=
 match kindOf P T,P.underlying T with
 | .agg u,some (.struct fs)=>some (u,fs.size)
 |_,_=>none
def gJ(P:a0)(T:a1):Option (a1×Nat):=
 match kindOf P T,P.underlying T with
 | .agg u,some (.array n _)=>some (u,n)
 |_,_=>none
def mX(P:a0)(T:a1)(a:AV)(f:Nat)(K:aR->Prop):Prop:=
 match fB P T with
 |some (u,n)=>f<n/\(match a with
  | .ptr b path=>K {v:=.ptr b (path++[(u,f)])}
  | .bR b ar ai i path=>K {v:=.bR b ar ai i (path++[(u,f)])}
  | .p (.bY t)=>aJ t=.agg u/\(match(cj t)[f]? with
   |some g=>K {v:=.p (.bY g)}
   |none=>False)
  |_=>False)
 |_=>False
def mW(P:a0)(T:a1)(H:Heap)(x i:AV)(K:aR->Prop):Prop:=
 match i with
 | .p (.int _ i)=>0<=i/\(match x with
  | .p (.bI _ es)=>∃h:i.toNat<es.length,cr P T=some (bB P (aJ (es[i.toNat]'h)))/\K {v:=.p (.bY (es[i.toNat]'h))}
  | .p (.seq es)=>∃h:i.toNat<es.length,cr P T=some (bB P (aJ (es[i.toNat]'h)))/\K {v:=.p (.bY (es[i.toNat]'h))}
  | .sl b ar ai off len=>cr P T=some ai/\i.toNat<len/\(match H[b]? with
   |some (.arr k c a es)=>ar=c/\ai=a/\¬(k.gr=true/\es=[])/\K {v:=.bR b ar ai (off+i.toNat) [],aj:=[(b,.arr k c a es)]}
   |_=>False)
  | .ptr b path=>(match gJ P T with
   |some (u,n)=>i.toNat<n/\K {v:=.ptr b (path++[(u,i.toNat)])}
   |_=>False)
  | .bR b ar ai j path=>(match gJ P T with
   |some (u,n)=>i.toNat<n/\K {v:=.bR b ar ai j (path++[(u,i.toNat)])}
   |_=>False)
  | .p (.bY t)=>(match gJ P T with
   |some (u,n)=>aJ t=.agg u/\i.toNat<n/\(match(cj t)[i.toNat]? with
    |some g=>K {v:=.p (.bY g)}
    |none=>False)
   |_=>False)
  |_=>False)
 |_=>False
def fc(P:a0)(ag:a8->Bool)(o:Oper)(ρ:a9->AV)(H:Heap)(K:aR->Prop):Prop:=
 match o.op with
 | .move x| .assign x=>K {v:=ρ x}
 | .pick c a b=>match ρ c with
  | .p (.bool t)=>K {v:=if t then ρ a else ρ b}
  |_=>False
 | .alloc T=>match cm P T with
  |some z=>kindOf P T=aJ z/\aJ z≠.bad/\iS T (aJ z)=true/\K {v:=.ptr H.length [],aP:=[.box false (.p z)]}
  |none=>False
 | .box T x=>kindOf P T=ad (ρ x)/\ad (ρ x)≠.bad/\iS T (ad (ρ x))=true/\K {v:=.ptr H.length [],aP:=[.box false (ρ x)]}
 | .build T parts=>match kindOf P T,cm P T with
  | .agg u,some z=>(match dy P u with
   |some l=>aJ z=.agg u/\ly P l (parts.toList.map fun(i,x)=>(i,ρ x))/\K {v:=gK u (ia ((cj z).map .p) (parts.toList.map fun(i,x)=>(i,ρ x)))}
   |none=>False)
  |_,_=>False
 | .buildSlice T n parts=>match cr P T,cm P (dR P T)with
  |some sz,some z=>bB P (aJ z)=sz/\n*sz<=1000000/\ly P (cc n sz) (parts.toList.map fun(i,x)=>(i,ρ x))/\
   K {v:=.sl H.length 0 sz 0 n,aP:=[.arr .exact 0 sz (ia (cc n (.p z)) (parts.toList.map fun(i,x)=>(i,ρ x)))]}
  |_,_=>False
 | .load T a=>nE P T H (ρ a) K
 | .store T a x=>nr P T H (ρ a) (ρ x) K
 | .binOp op T x y _=>jM P op T (lQ y) H (ρ x) (ρ y) (fun v=>K {v:=.p v,aj:=dj H (ρ x)})
 | .unOp op _ x=>match op,ρ x with
  | .not,.p (.bool b)=>K {v:=.p (.bool (!b))}
  | .neg,.p (.int k n)=>K {v:=.p (.int k (k.wrap (0-n)))}
  | .xor,.p (.int k n)=>K {v:=.p (.int k (k.wrap (aT k.bits (if k.signed then -1 else k.max)^^^aT k.bits n).toNat))}
  |_,_=>False
 | .convert S D x=>match P.underlying S,P.underlying D,ρ x with
  |some _,some (.int k),.p (.int _ n)=>K {v:=.p (.int k (k.wrap n))}
  |some _,some .string,.p (.str s)=>K {v:=.p (.str s)}
  |some (.slice e),some .string,.sl b ar ai off len=>(match H[b]? with
   |some (.arr k q j es)=>ar=q/\ai=j/\ai=1/\P.underlying e=some (.int .u8)/\0<len/\off+len<=es.length/\(match bytesOf ((es.drop off).take len)with
    |some l=>K {v:=.p (.str l),aj:=[(b,.arr k q j es)]}
    |none=>False)
   |_=>False)
  |_,_,_=>False
 | .extract t i=>match ρ t with
  | .p (.aE vs)=>(match vs[i]? with
   |some v=>K {v:=.p v}
   |none=>False)
  | .aE vs=>(match vs[i]? with
   |some v=>K {v}
   |none=>False)
  |_=>False
 | .fieldAddr T a f=>mX P T (ρ a) f K
 | .indexAddr T x i=>mW P T H (ρ x) (ρ i) K
 | .field T x f=>match kindOf P T,P.underlying T,ρ x with
  | .agg u,some (.struct _),.p t=>aJ t=.agg u/\(match(cj t)[f]?,(iY P u)[f]? with
   |some g,some F=>kindOf P F=aJ g/\K {v:=.p g}
   |_,_=>False)
  |_,_,_=>False
 | .index T x i=>match ρ x,ρ i with
  | .p (.str s),.p (.int _ i)=>ib P T=true/\0<=i/\∃h:i.toNat<s.length,K {v:=.p (.int .u8 (s[i.toNat]'h))}
  | .p (.st u es),.p (.int _ i)=>(match gJ P T,(iY P u)[i.toNat]?,es[i.toNat]? with
   |some (u',n),some F,some g=>u'=u/\0<=i/\i.toNat<n/\kindOf P F=aJ g/\K {v:=.p g}
   |_,_,_=>False)
  |_,_=>False
 | .makeFunc (.func f) fi ca=>if ag f then(match fh H (fi.toList.map ρ),fh H (ca.toList.map ρ)with
   |some (a,[],[]),some (b,aj,aI)=>K {v:=.p (.func f a b),aj,aI}
   |_,_=>False)
  else match ez (fi.toList.map ρ),ez (ca.toList.map ρ)with
   |some a,some b=>K {v:=.p (.func f a b)}
   |_,_=>K {v:=.func f (fi.toList.map ρ) (ca.toList.map ρ)}
 | .makeSlice T l c=>match cr P T,cm P (dR P T),ρ l,ρ c with
  |some sz,some z,.p (.int .i64 l),.p (.int .i64 c)=>bB P (aJ z)=sz/\0<=l/\l=c/\l<=cM/\K {v:=.sl H.length 0 sz 0 l.toNat,aP:=[.arr .exact 0 sz (cc l.toNat (.p z))]}
  |_,_,_,_=>False
 | .slice T x lo hi A=>match A with
  |none=>nt P T H (ρ x) (lo.map ρ) (hi.map ρ) none K
  |some m=>pL P T H (ρ x) (lo.map ρ) (hi.map ρ) (ρ m) K
 | .makeMap _ none=>K {v:=.map H.length,aP:=[.map false []]}
 | .lookup T x i ok=>match iQ P T,ρ i with
  |some (w,E),.p key=>(match cm P E with
   |some z=>eX P w key=true/\(match ρ x with
    | .p .fa=>K {v:=.p (if ok then .aE [z,.bool false]else z)}
    | .p (.eE es)=>(match fA P w es key with
     |some (some v)=>K {v:=.p (if ok then .aE [v,.bool true]else v)}
     |some none=>K {v:=.p (if ok then .aE [z,.bool false]else z)}
     |none=>False)
    | .map b=>(match H[b]? with
     |some (.map fz es)=>(match fA P w es key with
      |some (some v)=>K {v:=.p (if ok then .aE [v,.bool true]else v),aj:=[(b,.map fz es)]}
      |some none=>K {v:=.p (if ok then .aE [z,.bool false]else z),aj:=[(b,.map fz es)]}
      |none=>False)
     |some (.de ks vs)=>mP key=true/\(match kj P w ks vs key with
      |some (some v)=>K {v:=if ok then .aE [v,.p (.bool true)]else v,aj:=[(b,.de ks vs)]}
      |some none=>K {v:=.p (if ok then .aE [z,.bool false]else z),aj:=[(b,.de ks vs)]}
      |none=>False)
     |_=>False)
    |_=>False)
   |none=>False)
  |_,_=>False
 | .mapUpdate T m k x| .insert T m k x=>match iQ P T,ρ m,ρ k,ρ x with
  |some (w,_),.map b,.p key,.p v=>eX P w key=true/\(match H[b]? with
   |some (.map false es)=>(match lG P w es key with
    |some _=>K {v:=.p (.aE []),aj:=[(b,.map false es)],aI:=[(b,.map false (fW es key v))]}
    |none=>False)
   |some (.de ks vs)=>nX P w b key (.p v) (.de ks vs) K
   |_=>False)
  |some (w,_),.map b,.p key,x=>eX P w key=true/\(match H[b]? with
   |some o=>nX P w b key x o K
   |none=>False)
  |_,_,_,_=>False
 | .range T x=>match ρ x with
  | .p (.str s)=>ib P T=true/\K {v:=.ptr H.length [],aP:=[.dh s 0]}
  |_=>False
 | .next it true=>match ρ it with
  | .ptr b []=>(match H[b]? with
   |some (.dh s pos)=>if pos<s.length then
    K {v:=.p (.aE [.bool true,.int .i64 pos,.int .i32 (Utf8.decode (fR s) pos).1]),aj:=[(b,.dh s pos)],aI:=[(b,.dh s (pos+(Utf8.decode (fR s) pos).2))]}
    else K {v:=.p (.aE [.bool false]),aj:=[(b,.dh s pos)]}
   |_=>False)
  |_=>False
 | .nilCheck x=>match ρ x with
  | .ptr _ _| .bR _ _ _ _ _| .p (.bY _)=>K {v:=ρ x}
  |_=>False
 | .call c=>match c.callee with
  | .builtin b=>let args:=c.args.toList.map ρ
   let T:=c.argTypes.getD 0 0
   (match b,args with
   | .len,[x]=>(match lenOf H x with
    |some (n,aj)=>gF P T x=true/\0<c.argTypes.size/\K {v:=.p (.int .i64 n),aj}
    |none=>False)
   | .append,[s,x]=>c.argTypes.size=2/\ng P T (c.argTypes.getD 1 0) H s x K
   | .min,.p (.int k a)::r=>(match lA k false r a with
    |some n=>K {v:=.p (.int k n)}
    |none=>False)
   | .max,.p (.int k a)::r=>(match lA k true r a with
    |some n=>K {v:=.p (.int k n)}
    |none=>False)
   | .copy,[d,x]=>(match cr P T,d,gv H x with
    |some sz,.sl b ar ai off len,some xs=>ai=sz/\eC P sz xs/\c.argTypes.size=2/\(match H[b]? with
     |some (.arr k q j es)=>ar=q/\ai=j/\k≠.frozen/\off+len<=es.length/\¬(k.gr=true/\es=[])/\
      K {v:=.p (.int .i64 (min xs.length len:Nat)),aj:=(b,.arr k q j es)::dj H x,aI:=[(b,.arr k q j (es.take off++xs.take (min xs.length len)++es.drop (off+min xs.length len)))]}
     |_=>False)
    |_,_,_=>False)
   | .cap,[x]=>(match yR H x with
    |some (n,aj)=>gF P T x=true/\0<c.argTypes.size/\K {v:=.p (.int .i64 n),aj}
    |none=>False)
   | .clear,[x]=>(match x with
    | .p .aO=>gF P T x=true/\0<c.argTypes.size/\K {v:=.p (.aE [])}
    | .sl b ar ai off len=>(match cr P T,cm P (dR P T),H[b]? with
     |some sz,some z,some (.arr k q j es)=>ar=q/\ai=j/\ai=sz/\bB P (aJ z)=sz/\k≠.frozen/\off+len<=es.length/\¬(k.gr=true/\es=[])/\0<c.argTypes.size/\0<len/\
      K {v:=.p (.aE []),aj:=[(b,.arr k q j es)],aI:=[(b,.arr k q j (es.take off++cc len (.p z)++es.drop (off+len)))]}
     |_,_,_=>False)
    |_=>False)
   | .unsafeSliceData,[x]=>(match x with
    | .p .aO=>K {v:=.p .du}
    | .sl b ar ai off len=>(match H[b]? with
     |some (.arr k q j es)=>ar=q/\ai=j/\((k.gr=true/\es=[]/\K {v:=.p .du,aj:=[(b,.arr k q j es)]})\/(0<len/\off+len<=es.length/\K {v:=.bR b ar ai off [],aj:=[(b,.arr k q j es)]}))
     |_=>False)
    |_=>False)
   | .unsafeString,[x,.p (.int .i64 n)]=>(match x with
    | .p .du=>n=0/\c.argTypes.size=2/\K {v:=.p (.str [])}
    | .bR b ar ai i []=>(match H[b]? with
     |some (.arr .bytes q j es)=>ar=q/\ai=j/\ai=1/\i=0/\0<n/\n.toNat<=es.length/\n<=9223372036854775807/\c.argTypes.size=2/\ptrTo P T=some Gl.u8/\P.cellsOf Gl.u8=1/\(match bytesOf (es.take n.toNat)with
      |some l=>K {v:=.p (.str l),aj:=[(b,.arr .bytes q j es)],aI:=[(b,.dead)]}
      |none=>False)
     |_=>False)
    |_=>False)
   |_,_=>False)
  |_=>False
 |_=>False
def newAt(a:Nat):List Obj->List (Nat×Obj)
 |[]=>[]
 |o::r=>(a,o)::newAt (a+1) r
structure bO(P:a0)(ah aa:Nat->Prop)(w:a7)(β:Bd)(H:Heap)(aD:Nat->Prop)(w':a7)(aH:Bd)(H':Heap):Prop where
 bM:∀k,aa k->aD k
 fresh:∀k,aD k->aa k\/¬ah k
 ext:Ext ah aa w w'
 step:bX β H aH H'
 rel:bL P w' aD aH H' ah
 eH:∀x,aG H x->aG H' x
 loop:∀b,gz H b->gz H' b
def Enters(P:a0)(f:a8):Prop:=∀(args:Array a5)(w:a7),(callFunc f args).run P w=.ok (.enter f args) w
def cw(P:a0)(f:a8)(H:Heap)(args:List AV)(H':Heap)(v:AV):Prop:=
 Enters P f/\∀(w:a7)(aa ah:Nat->Prop)(β:Bd)(a:List a5),bL P w aa β H ah->br P w aa β H args a->aQ (aG H) args->
  bv P f a.toArray w fun e w'=>∃b aH aD,e=.returned b/\bO P ah aa w β H aD w' aH H'/\au P w' aD aH H' v b/\aC (aG H') v
def fO(P:a0)(b:Nat)(H:Heap)(args:List AV)(H':Heap)(v:AV):Prop:=
 gz H b/\∀(w:a7)(aa ah:Nat->Prop)(β:Bd)(c:List a5),bL P w aa β H ah->br P w aa β H args c->aQ (aG H) args->
  ∃f tmps assign body,(Instr.yield (β.ak b) c.toArray).run P w=.ok (.round (β.ak b) f tmps assign body) w/\
   ∀(a:bb)(e:List bb),∃d w' aH aD,Steps P (lone (Frame.round (β.ak b) f tmps assign body .normal) (a::e) w) (lone (a.finish d) e w')/\
    bO P ah aa w β H aD w' aH H'/\au P w' aD aH H' v d/\aC (aG H') v
def qN(P:a0)(f:a8)(args:List AV)(base:Nat)(e:aR):Prop:=
 Enters P f/\∀(H:Heap)(w:a7)(aa ah:Nat->Prop)(β:Bd)(a:List a5),bL P w aa β H ah->br P w aa β H args a->aQ (aG H) args->
  (∀p∈e.aj,H[p.1]?=some p.2)->(∀i,i<e.aP.length->H[base+i]?=some .hole)->
  bv P f a.toArray w fun x w'=>∃b aH aD,x=.returned b/\bO P ah aa w β H aD w' aH (ba H (e.aI++newAt base e.aP))/\
   au P w' aD aH (ba H (e.aI++newAt base e.aP)) e.v b/\aC (aG (ba H (e.aI++newAt base e.aP))) e.v
def sG(P:a0)(b:Nat)(args:List AV)(a:Nat)(e:aR):Prop:=
 ∀(H:Heap)(w:a7)(aa ah:Nat->Prop)(β:Bd)(d:List a5),bL P w aa β H ah->br P w aa β H args d->aQ (aG H) args->
  (∀p∈e.aj,H[p.1]?=some p.2)->(∀i,i<e.aP.length->H[a+i]?=some .hole)->
  gz H b/\∃f tmps assign body,(Instr.yield (β.ak b) d.toArray).run P w=.ok (.round (β.ak b) f tmps assign body) w/\
   ∀(c:bb)(h:List bb),∃g w' aH aD,Steps P (lone (Frame.round (β.ak b) f tmps assign body .normal) (c::h) w) (lone (c.finish g) h w')/\
    bO P ah aa w β H aD w' aH (ba H (e.aI++newAt a e.aP))/\
    au P w' aD aH (ba H (e.aI++newAt a e.aP)) e.v g/\aC (aG (ba H (e.aI++newAt a e.aP))) e.v
def Cr(P:a0)(f:a8)(args:List AV)(aj:List (Nat×Obj))(v:PV):Prop:=
 ∀(H:Heap)(w:a7)(aa ah:Nat->Prop)(β:Bd)(a:List a5),bL P w aa β H ah->br P w aa β H args a->aQ (aG H) args->(∀p∈aj,H[p.1]?=some p.2)->
  ∃b,(callFunc f a.toArray).run P w=.ok (.value b) w/\aA P w aa v b
def oW(H:Heap)(e:aR):Prop:=(∀p∈e.aj,H[p.1]?=some p.2)/\(∀p∈e.aI,p.1<H.length/\p.2≠.hole)
def qM(P:a0)(f:a8)(args:List PV)(v:PV):Prop:=
 Enters P f/\∀(w:a7)(aa:Nat->Prop)(a:List a5),(∀k,aa k->k<w.heap.size)->mn P w aa->bp P w aa args a->
  bv P f a.toArray w fun e w'=>∃b,∃aD:Nat->Prop,e=.returned b/\(∀k,aa k->aD k)/\(∀k,aD k->aa k\/w.heap.size<=k)/\(∀k,aD k->k<w'.heap.size)/\
   w.heap.size<=w'.heap.size/\(∀k,k<w.heap.size->w'.heap[k]?=w.heap[k]?)/\(w'.os=w.os/\w'.output=w.output)/\aA P w' aD v b
def O6(P:a0)(f:a8)(args:List PV)(v:PV):Prop:=
 ∀(w:a7)(aa:Nat->Prop)(a:List a5),bp P w aa args a->∃b,(callFunc f a.toArray).run P w=.ok (.value b) w/\aA P w aa v b
def az(P:a0)(f:a8)(args:List PV)(v:PV):Prop:=qM P f args v\/O6 P f args v
def j0(H:Heap):AV->Option (PV×Heap)
 | .p v=>some (v,H)
 | .sl b ar ai off len=>match H[b]? with
  |some (.arr k d a es)=>
   if ar=d/\ai=a/\off+len<=es.length then
    if k.gr=true/\es=[]then some (.aO,H)else
    match ez es with
    |some c=>some (.bI (k== .exact&&off+len==es.length) ((c.drop off).take len),H.set b (.arr .frozen ar ai es))
    |none=>none
   else none
  |_=>none
 | .ptr b path=>match H[b]? with
  |some (.box _ (.p t))=>match ke t path with
   |some s=>some (.bY s,H.set b (.box true (.p t)))
   |none=>none
  |_=>none
 | .map b=>match H[b]? with
  |some (.map _ es)=>some (.eE es,H.set b (.map true es))
  |_=>none
 |_=>none
def mL(H:Heap):List AV->Option (List PV×Heap)
 |[]=>some ([],H)
 |x::r=>match j0 H x with
  |some (v,H1)=>match mL H1 r with
   |some (vs,a)=>some (v::vs,a)
   |none=>none
  |none=>none
def gB(P:a0)(draw:Bool)(f:a8)(args:List AV)(H:Heap)(K:AV->Heap->Prop):Prop:=
 (∃vs v,args=vs.map .p/\az P f vs v/\K (.p v) H)\/
 (draw=false/\((∃vs H1 v,mL H args=some (vs,H1)/\az P f vs v/\K (.p v) H1)\/(∃H' v,cw P f H args H' v/\K v H')\/
  (∃e,qN P f args H.length e/\oW H e/\K e.v (ba H e.aI++e.aP))\/(∃aj v,Cr P f args aj v/\(∀p∈aj,H[p.1]?=some p.2)/\K (.p v) H)))
def jf(P:a0)(ag:a8->Bool)(draw:Bool)(o:Oper)(K:St->Prop)(s:St):Prop:=
 match o.op with
 | .call {callee:=.value f,args,.. }=>(match ev s.env f with
  | .p (.func g fi ca)=>gB P draw g (fi.map .p++args.toList.map (ev s.env)++ca.map .p) s.heap (fun v H'=>K ⟨put o.dst v s.env,H'⟩)
  | .func g fi ca=>gB P draw g (fi++args.toList.map (ev s.env)++ca) s.heap (fun v H'=>K ⟨put o.dst v s.env,H'⟩)
  | .map b=>∃H' v,fO P b s.heap (args.toList.map (ev s.env)) H' v/\K ⟨put o.dst v s.env,H'⟩
  |_=>False)
 |_=>fc P ag o (ev s.env) s.heap fun e=>K (e.app o.dst s)
def guardOf(a:Array Oper)(j:Nat)(e:Env):AV:=
 match(a[j]?).bind (·.dst)with
 |some d=>aK e d
 |none=>.p (.aE [])
def gD(P:a0)(ag:a8->Bool)(draw:Bool)(a:Array Oper):List Oper->(St->Prop)->St->Prop
 |[],K,s=>K s
 |o::r,K,s=>match o.guard with
  |none=>jf P ag draw o (gD P ag draw a r K) s
  |some (j,want)=>match guardOf a j s.env with
   | .p (.bool t)=>if t=want then jf P ag draw o (gD P ag draw a r K) s else gD P ag draw a r K ⟨put o.dst (.p (.aE [])) s.env,s.heap⟩
   | .p (.aE [])=>gD P ag draw a r K ⟨put o.dst (.p (.aE [])) s.env,s.heap⟩
   |_=>False
def lN:Obj->Option Obj
 | .box _ (.p t)=>some (.box true (.p t))
 | .arr k ar ai es=>if k.gr=true/\es=[]then none else match ez es with
  |some _=>some (.arr .frozen ar ai es)
  |none=>none
 | .map _ es=>some (.map true es)
 |_=>none
def lV(H:Heap):AV->Option (PV×List Nat)
 | .p v=>some (v,[])
 | .sl b ar ai off len=>match H[b]? with
  |some (.arr k d a es)=>
   if ar=d/\ai=a/\off+len<=es.length then
    if k.gr=true/\es=[]then none else
    match ez es with
    |some c=>some (.bI (k== .exact&&off+len==es.length) ((c.drop off).take len),[b])
    |none=>none
   else none
  |_=>none
 | .ptr b path=>match H[b]? with
  |some (.box _ (.p t))=>match ke t path with
   |some s=>some (.bY s,[b])
   |none=>none
  |_=>none
 | .map b=>match H[b]? with
  |some (.map _ es)=>some (.eE es,[b])
  |_=>none
 |_=>none
def nF(H:Heap):List AV->Option (List PV×List Nat)
 |[]=>some ([],[])
 |x::r=>match lV H x,nF H r with
  |some (v,bs),some (vs,cs)=>some (v::vs,bs++cs)
  |_,_=>none
def kx(H:Heap):List Nat->Option (List (Nat×Obj)×List (Nat×Obj))
 |[]=>some ([],[])
 |b::r=>match H[b]?,kx H r with
  |some o,some (aj,aI)=>(match lN o with
   |some o'=>some ((b,o)::aj,(b,o')::aI)
   |none=>none)
  |_,_=>none
def gI(P:a0)(f:a8)(args:List AV)(H:Heap)(K:aR->Prop):Prop:=
 (∃vs v,args=vs.map .p/\az P f vs v/\K {v:=.p v})\/
 (∃vs bs aj aI v,nF H args=some (vs,bs)/\kx H bs=some (aj,aI)/\az P f vs v/\K {v:=.p v,aj,aI})\/
 (∃e,qN P f args H.length e/\oW H e/\K e)\/
 (∃aj v,Cr P f args aj v/\(∀p∈aj,H[p.1]?=some p.2)/\K {v:=.p v,aj})
def iT(P:a0)(ag:a8->Bool)(o:Oper)(s:St)(K:aR->Prop):Prop:=
 match o.op with
 | .call {callee:=.value f,args,.. }=>(match ev s.env f with
  | .p (.func g fi ca)=>gI P g (fi.map .p++args.toList.map (ev s.env)++ca.map .p) s.heap K
  | .func g fi ca=>gI P g (fi++args.toList.map (ev s.env)++ca) s.heap K
  | .map b=>∃e,sG P b (args.toList.map (ev s.env)) s.heap.length e/\oW s.heap e/\K e
  |_=>False)
 |_=>fc P ag o (ev s.env) s.heap K
structure Touch where
 i:Nat
 rd:List Nat
 wr:List Nat
def nv(a:Nat):List Obj->List Nat
 |[]=>[]
 |_::r=>a::nv (a+1) r
def gN(i a:Nat)(e:aR):Touch:=⟨i,e.aj.map (·.1),e.aI.map (·.1)++nv a e.aP⟩
def gC(i b:Nat)(e:aR)(a:List Touch):List Touch:=
 match e.aj,e.aI,e.aP with
 |[],[],[]=>a
 |_,_,_=>gN i b e::a
def reach(a:Array Oper):Nat->Nat->Nat->Bool
 |0,_,_=>false
 |f+1,i,j=>match a[j]? with
  |some o=>o.after.toList.any (fun e=>b1 .any e&&e.on==i)||o.after.toList.any (fun e=>b1 .any e&&decide (i<e.on)&&reach a f i e.on)
  |none=>false
def iN(u t:Touch):Bool:=u.wr.any (fun b=>t.rd.contains b||t.wr.contains b)||u.rd.any (fun b=>t.wr.contains b)
def jG(a:Array Oper):List Touch->Bool
 |[]=>true
 |t::r=>r.all (fun u=>!iN u t||reach a a.size u.i t.i)&&jG a r
def fM(P:a0)(ag:a8->Bool)(a:Array Oper):List Oper->Nat->List Touch->(St->Prop)->St->Prop
 |[],_,acc,K,s=>jG a acc=true/\K s
 |o::r,i,acc,K,s=>match o.guard with
  |none=>iT P ag o s fun e=>fM P ag a r (i+1) (gC i s.heap.length e acc) K (e.app o.dst s)
  |some (j,want)=>match guardOf a j s.env with
   | .p (.bool t)=>if t=want then iT P ag o s fun e=>fM P ag a r (i+1) (gC i s.heap.length e acc) K (e.app o.dst s)
    else fM P ag a r (i+1) acc K ⟨put o.dst (.p (.aE [])) s.env,s.heap⟩
   | .p (.aE [])=>fM P ag a r (i+1) acc K ⟨put o.dst (.p (.aE [])) s.env,s.heap⟩
   |_=>False
inductive bn where|normal|exit (id:Nat)|ret
mutual
def fy(T:Heap):PV->AV->Prop
 | .aO,x=>x=.p .aO\/match x with
  | .sl b ar _ off len=>ar=0/\off=0/\len=0/\∃k z,T[b]?=some (.arr k 0 z [])/\k.gr=true
  |_=>False
 | .st u fs,x=>x=.p (.st u fs)\/match x with
  | .st u' gs=>u=u'/\kf T fs gs
  |_=>False
 |v,x=>x=.p v
def kf(T:Heap):List PV->List AV->Prop
 |[],gs=>gs=[]
 |v::vs,gs=>match gs with
  |g::gs=>fy T v g/\kf T vs gs
  |[]=>False
end
mutual
def Gh(T:Heap):AV->AV->Prop
 | .p v,x=>fy T v x
 | .st u fs,x=>match x with
  | .st u' gs=>u=u'/\lW T fs gs
  |_=>False
 |a,x=>x=a
def lW(T:Heap):List AV->List AV->Prop
 |[],gs=>gs=[]
 |v::vs,gs=>match gs with
  |g::gs=>Gh T v g/\lW T vs gs
  |[]=>False
end
structure oR(s t:St):Prop where
 env:∀x,aK t.env x=aK s.env x\/aK t.env x=.p .undef\/Gh t.heap (aK s.env x) (aK t.env x)
 heap:∀(b:Nat)(o:Obj),t.heap[b]?=some o->o=.hole\/s.heap[b]?=some o\/((s.heap[b]?=none\/s.heap[b]?=some .hole)/\∃k z,o=.arr k 0 z []/\k.gr=true)\/(∃v v',s.heap[b]?=some (.box false v)/\o=.box false v'/\Gh t.heap v v')
 gd:∀x,aC (aG t.heap) (aK t.env x)
 hrefs:∀(b:Nat)(o:Obj),t.heap[b]?=some o->o.refs (aG t.heap)
def cJ(N:Nat)(s t:St):Prop:=t=s\/(oR s t/\∀b,b<N->t.heap[b]?=s.heap[b]?)
def jd(Q:bn->St->Prop)(j:Option Code)(s:St):Prop:=
 match j with
 |none=>Q .normal s
 |some (.exit id)=>Q (.exit id) s
 |some .ret=>Q .ret s
 |_=>False
def iK(P:a0)(it:AV)(b:Nat)(H:Heap)(K:Heap->Prop):Prop:=
 match it with
 | .p (.func g fi ca)=>∃H' v,cw P g H (fi.map .p++[.map b]++ca.map .p) H' v/\K H'
 | .func g fi ca=>∃H' v,cw P g H (fi++[.map b]++ca) H' v/\K H'
 |_=>False
def gQ(b:Nat)(env:Env)(Q:bn->St->Prop)(H:Heap):Prop:=
 match H[b]? with
 |some (.loop L)=>L.st≠.busy/\jd Q L.pending ⟨env,H.set b (.loop {L with st:=.exhausted})⟩
 |_=>False
abbrev Cx:=Nat×Nat
def bV(P:a0)(ag:a8->Bool)(q:Cx):Code->(bn->St->Prop)->St->Prop
 | .skip,Q,s| .label _,Q,s=>Q .normal s
 | .region _ ops draw,Q,s=>if draw then fM P ag ops ops.toList 0 [] (Q .normal) s else gD P ag false ops ops.toList (Q .normal) s
 | .seq a b,Q,s=>bV P ag q a (fun e s'=>match e with
  | .normal=>bV P ag q b Q s'
  |e=>Q e s') s
 | .cond c a b,Q,s=>match ev s.env c with
  | .p (.bool t)=>if t then bV P ag q a Q s else bV P ag q b Q s
  |_=>False
 | .block id b,Q,s=>bV P ag q b (fun e s'=>match e with
  | .exit i=>if i=id then Q .normal s' else Q (.exit i) s'
  |e=>Q e s') s
 | .scope b,Q,s=>bV P ag q b Q s
 | .loop b,Q,s=>∃I:Nat->St->Prop,(∃n t,cJ q.2 s t/\I n t)/\∀n t,I n t->bV P ag q b (fun e s'=>match e with
  | .normal=>∃m g,m<n/\cJ q.2 s' g/\I m g
  |e=>Q e s') t
 | .rangeFunc f h a b,Q,s=>q.2<=s.heap.length/\∃d:Env,(∀x,aK d x=aK s.env x)/\iK P (ev s.env f) s.heap.length (s.heap++[.loop ⟨.ready,none,q.1,h.toList,a,b,d⟩]) (gQ s.heap.length s.env Q)
 | .exit id,Q,s=>Q (.exit id) s
 | .ret,Q,s=>Q .ret s
 |_,_,_=>False
def bu(fr:bb)(t:Array a5)(ds:List bk)(todo:List Item):bb:={fr with tmps:=t,defers:=ds,todo,mode:=.run}
section
variable{P:a0}{fr:bb}{t:Array a5}{ds:List bk}{k:List Item}{cs:List bb}{w:a7}
def fe(t:Array a5):a9->a5
 | .tmp x=>t.getD x undef
 | .const v=>v
 | .global g=>.pointer (some ⟨g,0,none⟩)
 | .func f=>.func (.func f) #[] #[]
theorem eval_eq(fr:bb):fr.eval=fe fr.tmps:=by funext x;cases x<;>rfl
theorem aAQ:step P (lone (bu fr t ds (.code .skip::k)) cs w)=.next (lone (bu fr t ds k) cs w):=
 a6 (by simp[stepG,b4,bu])
theorem Um{l:Nat}:step P (lone (bu fr t ds (.code (.label l)::k)) cs w)=.next (lone (bu fr t ds k) cs w):=
 a6 (by simp[stepG,b4,bu])
theorem SX{id:Nat}:step P (lone (bu fr t ds (.inBlock id::k)) cs w)=.next (lone (bu fr t ds k) cs w):=
 a6 (by simp[stepG,b4,bu])
theorem SW{b:Code}:step P (lone (bu fr t ds (.inScope b::k)) cs w)=.next (lone (bu fr t ds k) cs w):=
 a6 (by simp[stepG,b4,bu])
theorem B8{a b:Code}:step P (lone (bu fr t ds (.code (.seq a b)::k)) cs w)=.next (lone (bu fr t ds (.code a::.code b::k)) cs w):=
 a6 (by simp[stepG,b4,bu])
theorem aAL{c:a9}{x y:Code}{b:Bool}(h:fe t c= .bool b):
 step P (lone (bu fr t ds (.code (.cond c x y)::k)) cs w)=.next (lone (bu fr t ds (.code (if b then x else y)::k)) cs w):=
 a6 (by simp[stepG,b4,bu,eval_eq,h])
theorem xp{id:Nat}{c:Code}:step P (lone (bu fr t ds (.code (.block id c)::k)) cs w)=.next (lone (bu fr t ds (.code c::.inBlock id::k)) cs w):=
 a6 (by simp[stepG,b4,bu])
theorem A8{c:Code}:step P (lone (bu fr t ds (.code (.scope c)::k)) cs w)=.next (lone (bu fr t ds (.code c::.inScope c::k)) cs w):=
 a6 (by simp[stepG,b4,bu])
theorem aAO{c:Code}:step P (lone (bu fr t ds (.code (.loop c)::k)) cs w)=.next (lone (bu fr t ds (.code c::.inLoop c::k)) cs w):=
 a6 (by simp[stepG,b4,bu])
theorem Tl{c:Code}:step P (lone (bu fr t ds (.inLoop c::k)) cs w)=.next (lone (bu fr t ds (.code c::.inLoop c::k)) cs w):=
 a6 (by simp[stepG,b4,bu])
theorem aAN{id:Nat}{a:List Item}(h:exitTo id k=some a):step P (lone (bu fr t ds (.code (.exit id)::k)) cs w)=.next (lone (bu fr t ds a) cs w):=
 a6 (by simp[stepG,b4,bu,h])
theorem Tk{id:Nat}{a:Array Oper}:
 step P (lone (bu fr t ds (.code (.region id a false)::k)) cs w)=.next (lone (bu fr t ds (.inRegion a (List.range a.size)::k)) cs w):=
 a6 (by simp[stepG,b4,bu])
theorem aAM{id:Nat}{a:Array Oper}:
 step P (lone (bu fr t ds (.code (.region id a true)::k)) cs w)=
  .next (lone (bu fr t ds (.inRegion a (Region.schedule (P.follows .mixedOrders) a (w.tape w.drawn (.order fr.fn id)))::k)) cs {w with drawn:=w.drawn+1}):=
 a6 (by simp[stepG,b4,bu,choose,Sem.run,Question.forced,Question.cut])
theorem FX{a:Array Oper}:step P (lone (bu fr t ds (.inRegion a []::k)) cs w)=.next (lone (bu fr t ds k) cs w):=
 a6 (by simp[stepG,b4,bu])
def mM(dst:Option Tmp)(v:a5)(t:Array a5):Array a5:=
 match dst with
 |some d=>t.setIfInBounds d v
 |none=>t
theorem mS{a:Array Oper}{i:Nat}{r:List Nat}{o:Oper}(c:a[i]?=some o)(v:a5):
 (bu fr t ds (.inRegion a (i::r)::k)).finish v=bu fr (mM o.dst v t) ds (.inRegion a r::k):=by
 cases b:o.dst<;>simp[Frame.finish,bu,c,b,mM]
theorem HP{a:Array Oper}{i:Nat}{r:List Nat}{o:Oper}(b:a[i]?=some o)(c:b0 o (yielded a t)=false):
 step P (lone (bu fr t ds (.inRegion a (i::r)::k)) cs w)=.next (lone (bu fr (mM o.dst undef t) ds (.inRegion a r::k)) cs w):=by
 rw[<-mS b];exact a6 (by simp only[bu];simp[stepG,b4,b,c])
theorem Sz{o:Oper}(a:∀c,o.op≠ .defer c)(r:Option Nat)(A:Nat->Call->GStep)(B:GStep):
 (match r,o.op with
  |some l,.defer c=>A l c
  |_,_=>B)=B:=by
 cases r with
 |none=>rfl
 |some l=>cases h:o.op<;>first|rfl|exact absurd h (a _)
theorem aAP{a:Array Oper}{i:Nat}{r:List Nat}{o:Oper}{fr:bb}(e:fr.todo= .inRegion a (i::r)::k)(d:a[i]?=some o)(b:∀c,o.op≠ .defer c):
 cb P true fr cs none w=b5 P true fr cs none (be (fe fr.tmps) o) w:=by
 simp only[cb,Frame.oper?,e,d,eval_eq];exact Sz b _ _ _
theorem A0{f:Bool}{a:Array Oper}{i:Nat}{r:List Nat}{o:Oper}(b:a[i]?=some o)(e:b0 o (yielded a t)=true)(d:∀c,o.op≠ .defer c):
 stepG P f {frame:=bu fr t ds (.inRegion a (i::r)::k),callers:=cs,status:=.running,dying:=none} w=
  b5 P true (bu fr t ds (.inRegion a (i::r)::k)) cs none (be (fe t) o) w:=by
 have h:=aAP (P:=P) (cs:=cs) (w:=w) (fr:=bu fr t ds (.inRegion a (i::r)::k)) rfl b d;simp only[bu]at h⊢;simp[stepG,b4,b,e,h]
theorem rI{a:Array Oper}{i:Nat}{r:List Nat}{o:Oper}{n:Next}{b:a5}{w':a7}(d:a[i]?=some o)(h:b0 o (yielded a t)=true)
 (e:∀c,o.op≠.defer c)(g:(be (fe t) o).run P w=.ok n w')(f:n=.value b\/n=.skip/\b=undef):
 step P (lone (bu fr t ds (.inRegion a (i::r)::k)) cs w)=.next (lone (bu fr (mM o.dst b t) ds (.inRegion a r::k)) cs w'):=by
 rw[<-mS d];refine a6 ?_;rw[A0 d h e];rcases f with rfl|⟨rfl,rfl⟩<;>simp[b5,g,bu]
theorem tY{a:Array Oper}{i:Nat}{r:List Nat}{o:Oper}{f:a8}{args:Array a5}{w':a7}(d:a[i]?=some o)(g:b0 o (yielded a t)=true)
 (b:∀c,o.op≠.defer c)(e:(be (fe t) o).run P w=.ok (.enter f args) w'):
 step P (lone (bu fr t ds (.inRegion a (i::r)::k)) cs w)=.next (lone (Frame.enter P f args .normal) (bu fr t ds (.inRegion a (i::r)::k)::cs) w'):=by
 refine a6 ?_;rw[A0 d g b];simp[b5,e,bu]
theorem G7{a:Array Oper}{i:Nat}{r:List Nat}{o:Oper}{l:Nat}{f:a8}{tmps:Array a5}{assign body:Code}{w':a7}(d:a[i]?=some o)(g:b0 o (yielded a t)=true)
 (b:∀c,o.op≠.defer c)(e:(be (fe t) o).run P w=.ok (.round l f tmps assign body) w'):
 step P (lone (bu fr t ds (.inRegion a (i::r)::k)) cs w)=.next (lone (Frame.round l f tmps assign body .normal) (bu fr t ds (.inRegion a (i::r)::k)::cs) w'):=by
 refine a6 ?_;rw[A0 d g b];simp[b5,e,bu]
end
end Go.aw
namespace Go.aw
variable[Gl]
mutual
theorem aC.mono{S T:Nat×Nat->Prop}(h:∀x,S x->T x):∀v,aC S v->aC T v
 | .p _,_=>by simp[aC]
 | .ptr b _,c| .bR b _ _ _ _,c| .sl b _ _ _ _,c| .map b,c=>by simp only[aC]at*;exact h _ c
 | .func _ a b,c=>by simp only[aC]at*;exact⟨aQ.mono h a c.1,aQ.mono h b c.2⟩
 | .st _ fs,c=>by simp only[aC]at*;exact aQ.mono h fs c
 | .aE vs,c=>by simp only[aC]at*;exact aQ.mono h vs c
theorem aQ.mono{S T:Nat×Nat->Prop}(h:∀x,S x->T x):∀vs,aQ S vs->aQ T vs
 |[],_=>by simp[aQ]
 |v::vs,c=>by simp only[aQ]at*;exact⟨aC.mono h v c.1,aQ.mono h vs c.2⟩
end
structure cA(P:a0)(n:Nat)(ah aa:Nat->Prop)(β:Bd)(s:St)(t:Array a5)(w:a7):Prop where
 heap:bL P w aa β s.heap ah
 env:∀x,au P w aa β s.heap (aK s.env x) (t.getD x undef)
 gd:∀x,aC (aG s.heap) (aK s.env x)
 size:t.size=n
structure oQ(N:Nat)(β:Bd)(H:Heap)(aH:Bd)(H':Heap):Prop where
 box:∀b,b<N->aG H (b,0)->mj H' b->mj H b/\aH.ak b=β.ak b
 it:∀b,b<N->aG H (b,0)->ml H' b->ml H b/\aH.ak b=β.ak b
 map:∀b,b<N->aG H (b,0)->ny H' b->ny H b/\aH.ak b=β.ak b
 arr:∀b ar ai k es,b<N->aG H (b,ar)->et H' b ar ai k es->∃k0 gf,et H b ar ai k0 gf/\gf.length<=es.length/\(cU k es↔cU k0 gf)/\(¬cU k es->aH.ak b=β.ak b/\aH.cap b=β.cap b)
 loop:∀b,b<N->aG H (b,0)->gz H' b->gz H b/\aH.ak b=β.ak b
theorem bX.n{N:Nat}{β:Bd}{H:Heap}{aH:Bd}{H':Heap}(h:bX β H aH H'):oQ N β H aH H':=
 ⟨fun b _=>h.box b,fun b _=>h.it b,fun b _=>h.map b,fun b ar ai k es _=>h.arr b ar ai k es,fun b _=>h.loop b⟩
theorem oQ.full{β:Bd}{H:Heap}{aH:Bd}{H':Heap}(h:oQ H.length β H aH H'):bX β H aH H':=by
 have lt:∀b v,aG H (b,v)->b<H.length:=fun b v⟨o,c,_⟩=>(ck.1 c).1;exact⟨fun b x=>h.box b (lt _ _ x) x,fun b x=>h.it b (lt _ _ x) x,fun b x=>h.map b (lt _ _ x) x,fun b ar ai k a x=>h.arr b ar ai k a (lt _ _ x) x,fun b x=>h.loop b (lt _ _ x) x⟩
theorem oQ.trans{N:Nat}{β l m:Bd}{H H1 j:Heap}(h:oQ N β H l H1)(hi:∀x,x.1<N->aG H x->aG H1 x)(i:oQ N l H1 m j):oQ N β H m j:=by
 refine⟨?_,?_,?_,?_,?_⟩
 ·intro b a c g;obtain⟨d,a2⟩:=i.box b a (hi (b,0) a c) g;obtain⟨e,f⟩:=h.box b a c d;exact⟨e,a2.trans f⟩
 ·intro b a c g;obtain⟨d,a2⟩:=i.it b a (hi (b,0) a c) g;obtain⟨e,f⟩:=h.it b a c d;exact⟨e,a2.trans f⟩
 ·intro b a c g;obtain⟨d,a2⟩:=i.map b a (hi (b,0) a c) g;obtain⟨e,f⟩:=h.map b a c d;exact⟨e,a2.trans f⟩
 ·intro b ar ai k p a c g;obtain⟨k1,q,d,a2,a3,a4⟩:=i.arr b ar ai k p a (hi (b,ar) a c) g;obtain⟨k0,gf,e,f,n,o⟩:=h.arr b ar ai k1 q a c d;refine⟨k0,gf,e,ec f a2,a3.trans n,fun a=>?_⟩;obtain⟨c1,c2⟩:=a4 a;obtain⟨d1,d2⟩:=o (fun x=>a (a3.2 x));exact⟨c1.trans d1,c2.trans d2⟩
 ·intro b a c g;obtain⟨d,a2⟩:=i.loop b a (hi (b,0) a c) g;obtain⟨e,f⟩:=h.loop b a c d;exact⟨e,a2.trans f⟩
structure dA(N:Nat)(ah aa:Nat->Prop)(w:a7)(β:Bd)(H:Heap)(jy aD:Nat->Prop)(w':a7)(aH:Bd)(H':Heap):Prop where
 dP:∀k,ah k->jy k
 bM:∀k,aa k->aD k
 fresh:∀k,aD k->aa k\/¬ah k
 ext:Ext ah aa w w'
 step:oQ N β H aH H'
 eH:∀x,x.1<N->aG H x->aG H' x
 loop:∀b,b<N->gz H b->gz H' b
theorem dA.refl(N:Nat)(ah aa:Nat->Prop)(w:a7)(β:Bd)(H:Heap):dA N ah aa w β H ah aa w β H:=
 ⟨fun _ h=>h,fun _ h=>h,fun _ h=>.inl h,Ext.refl _ _ _,(bX.refl _ _).n,fun _ _ h=>h,fun _ _ h=>h⟩
theorem Ext.trans{ah aa jy aD:Nat->Prop}{w w1 b:a7}(c:∀k,ah k->jy k)(hi:∀k,aa k->aD k)(h:Ext ah aa w w1)(a:Ext jy aD w1 b):Ext ah aa w b:=
 ⟨ec h.size a.size,fun k hk=>(a.same k (hk.imp (c k) (hi k))).trans (h.same k hk),a.io.1.trans h.io.1,a.io.2.trans h.io.2⟩
theorem dA.trans{N:Nat}{ah aa g e i f:Nat->Prop}{w w1 j:a7}{β l m:Bd}{H H1 d:Heap}(h:dA N ah aa w β H g e w1 l H1)(a:dA N g e w1 l H1 i f j m d):dA N ah aa w β H i f j m d:=
 ⟨fun k x=>a.dP k (h.dP k x),fun k x=>a.bM k (h.bM k x),fun k x=>(a.fresh k x).elim (fun y=>h.fresh k y) (fun y=>.inr fun z=>y (h.dP k z)),h.ext.trans h.dP h.bM a.ext,
  h.step.trans h.eH a.step,fun x c hx=>a.eH x c (h.eH x c hx),fun b c n=>a.loop b c (h.loop b c n)⟩
theorem bO.eM{P:a0}{N:Nat}{ah aa aD:Nat->Prop}{w w':a7}{β aH:Bd}{H H':Heap}(h:bO P ah aa w β H aD w' aH H'):dA N ah aa w β H ah aD w' aH H':=
 ⟨fun _ x=>x,h.bM,h.fresh,h.ext,h.step.n,fun x _=>h.eH x,fun b _=>h.loop b⟩
section
variable{P:a0}{ah aa aD:Nat->Prop}{w w':a7}{β aH:Bd}{H H':Heap}
theorem eK.uo(a:w'.heap=w.heap){b:Nat}{o:Obj}(h:eK P w aa β H ah b o)(g:o.refs (aG H)):eK P w' aa β H ah b o:=by
 have p:=fun(v:AV) cs m=>bc.mono (P:=P) (w:=w) (w':=w') (aa:=aa) (aD:=aa) (β:=β) (aH:=β) (H:=H) (H':=H) (fun _ x=>x) (fun k _=>by rw[a]) (bX.refl β H) v cs m;have q:=fun l(v:List AV) cs m=>bF.mono (P:=P) (w:=w) (w':=w') (aa:=aa) (aD:=aa) (β:=β) (aH:=β) (H:=H) (H':=H) (fun _ x=>x) (fun k _=>by rw[a]) (bX.refl β H) l v cs m;have r:=fun(i:List (PV×PV)) f=>cd.mono (P:=P) (w:=w) (w':=w') (aa:=aa) (aD:=aa) (fun _ x=>x) (fun k _=>by rw[a]) i f;cases o with
 |hole=>trivial
 |dead=>trivial
 |box fz t=>
  obtain⟨cs,T,c,d,e⟩:=h;exact⟨cs,T,by rw[a];exact c,p _ _ g d,e⟩
 |arr k ar ai i=>
  rcases h with h|⟨cs,T,n,rest,c,d,e⟩
  ·exact .inl h
  ·exact .inr ⟨cs,T,n,rest,by rw[a];exact c,q _ _ _ g d,e⟩
 |map fz i=>
  obtain⟨f,clock,c,d,e⟩:=h;exact⟨f,clock,by rw[a];exact c,r _ _ d,e⟩
 |de ks vs=>
  obtain⟨f,clock,c,d,e,j⟩:=h;exact⟨f,clock,by rw[a];exact c,bp.mono (fun _ x=>x) (fun _ _=>by rw[a]) _ _ d,br.mono (fun _ x=>x) (fun _ _=>by rw[a]) (bX.refl _ _) _ _ g e,j⟩
 |dh s pos=>
  obtain⟨bs,c,d⟩:=h;exact⟨bs,by rw[a];exact c,d⟩
 |loop L=>
  obtain⟨tmps,defers,fn,c,d,e,j⟩:=h;exact⟨tmps,defers,fn,by rw[a];exact c,d,fun x=>au.mono (fun _ x=>x) (fun _ _=>by rw[a]) (bX.refl _ _) _ _ (g x) (e x),j⟩
theorem bL.uo(a:w'.heap=w.heap)(h:bL P w aa β H ah):bL P w' aa β H ah:=
 ⟨fun b o c=>(h.cg b o c).uo a (h.refs b o c),h.inj,h.refs,fun k hk=>by rw[a];exact h.bM k hk,fun k hk=>by rw[a];exact h.dP k hk,h.gU.mono (fun _ x=>x) (fun _ _=>by rw[a])⟩
theorem bL.mh(h:bL P w aa β H ah){b:Nat}{o:Obj}(f:H[b]?=some o)(d:o.live):β.ak b<w.heap.size:=by
 have c:=h.cg b o f;cases o with
 |hole=>exact d.elim
 |dead=>exact d.elim
 |box fz t=>obtain⟨cs,T,a,_⟩:=c;exact(av.1 a).1
 |arr k ar ai es=>
  rcases c with c|⟨cs,T,g,rest,a,_⟩
  ·exact(d c).elim
  ·exact(av.1 a).1
 |map fz es=>obtain⟨e,clock,a,_⟩:=c;exact(av.1 a).1
 |de ks vs=>obtain⟨e,clock,a,_⟩:=c;exact(av.1 a).1
 |dh s pos=>obtain⟨bs,a,_⟩:=c;exact(av.1 a).1
 |loop L=>obtain⟨_,_,_,a,_⟩:=c;exact(av.1 a).1
theorem bO.set{b:Nat}{o':Obj}(i:bL P w aa β H ah)(r:b<H.length)(n:∀x,x≠b->aH.ak x=β.ak x/\aH.cap x=β.cap x)
 (g:∀k,aa k->aD k)(Q:∀k,aD k->aa k\/(k=aH.ak b/\o'.live))(ag:∀k,aD k->k<w'.heap.size)
 (V:w.heap.size<=w'.heap.size)(J:∀k,(k≠aH.ak b\/¬o'.live)->k<w.heap.size->w'.heap[k]?=w.heap[k]?)
 (F:o'.live->w.heap.size<=aH.ak b\/(aH.ak b=β.ak b/\(∃o,H[b]?=some o/\o.live)/\((∀k,k=β.ak b->w'.heap[k]?=w.heap[k]?)\/¬aa (β.ak b))/\¬ah (β.ak b)))
 (aF:bX β H aH (H.set b o'))(al:eK P w' aD aH (H.set b o') ah b o')(am:o'.refs (aG (H.set b o')))(ak:∀(o:Obj)(v:Nat),H[b]?=some o->o.has v->o'.has v)(af:∀L,H[b]?=some (.loop L)->∃C,o'=.loop C)(ae:w'.os=w.os/\w'.output=w.output:=by exact⟨rfl,rfl⟩):
 bO P ah aa w β H aD w' aH (H.set b o'):=by
 have A:∀x o,x≠b->H[x]?=some o->o.live->¬aa (β.ak x)->o'.live->β.ak x≠aH.ak b:=by
  intro x o hx d e j u he;rcases F u with a|⟨a,⟨an,c,f⟩,_⟩
  ·have:=i.mh d e;omega
  ·rw[a]at he;exact hx (i.inj x b o an d c e f j he)
 have U:o'.live->¬ah (aH.ak b):=by
  intro e G;rcases F e with a|⟨a,_,_,c⟩
  ·have:=i.dP _ G;omega
  ·rw[a]at G;exact c G
 have l:∀k,ah k\/aa k->w'.heap[k]?=w.heap[k]?:=by
  intro k hk;have R:k<w.heap.size:=hk.elim (i.dP k) (i.bM k)
  by_cases z:k=aH.ak b
  ·by_cases e:o'.live
   ·rcases hk with hk|hk
    ·exact(U e (z▸hk)).elim
    ·rcases F e with a|⟨a,_,c,_⟩
     ·omega
     ·rcases c with c|c
      ·exact c k (z.trans a)
      ·exact(c (by rw[<-a,<-z];exact hk)).elim
   ·exact J k (.inr e) R
  ·exact J k (.inl z) R
 have aj:∀x,aG H x->aG (H.set b o') x:=by
  rintro⟨x,v⟩ ⟨o,d,S⟩
  by_cases hx:x=b
  ·subst hx;exact⟨o',by simp[cv r],ak o v d S⟩
  ·exact⟨o,by simp only;rw[ce (ei hx)];exact d,S⟩
 have hrefs:∀v,aC (aG H) v->aC (aG (H.set b o')) v:=aC.mono aj;refine⟨g,fun k hk=>(Q k hk).imp id (fun(h:k=aH.ak b/\o'.live)=>h.1▸U h.2),⟨V,l,ae⟩,aF,⟨?_,?_,?_,ag,fun k hk=>ed (i.dP k hk) V,i.gU.mono g (fun k hk=>l k (.inr hk))⟩,aj,?_⟩
 ·intro x o d
  by_cases hx:x=b
  ·subst hx;rw[cv r]at d;cases d;exact al
  ·rw[ce (ei hx)]at d;have m:=i.cg x o d;have B:=i.refs x o d;have O:=(n x hx).1;have E:=(n x hx).2;have hs:o.live->w'.heap[aH.ak x]?=w.heap[β.ak x]?:=by
    intro e;rw[O]
    by_cases j:aa (β.ak x)
    ·exact l _ (.inr j)
    refine J _ ?_ (i.mh d e)
    by_cases u:o'.live
    ·exact .inl (A x o hx d e j u)
    ·exact .inr u
   have held:∀fz,o.live->b9 aa β ah fz x->b9 aD aH ah fz x:=by
    intro fz e q;unfold b9 at q⊢;rw[O];cases fz with
    |true=>simp only[if_true]at q⊢;exact g _ q
    |false=>
     simp only[Bool.false_eq_true,if_false]at q⊢;refine⟨fun h=>?_,q.2⟩;rcases Q _ h with h|⟨h,u⟩
     ·exact q.1 h
     ·exact A x o hx d e q.1 u h
   cases o with
   |hole=>trivial
   |dead=>trivial
   |box fz t=>
    obtain⟨cs,T,a,c,f,p⟩:=m;exact⟨cs,T,(hs trivial).trans a,bc.mono g (fun k hk=>l k (.inr hk)) aF _ _ B c,held _ trivial f,p⟩
   |arr k ar ai es=>
    rcases m with m|⟨cs,T,Y,rest,a,c,f,p,Z,ab,ac,ad⟩
    ·exact .inl m
    ·by_cases e:cU k es
     ·exact .inl e
     ·refine .inr ⟨cs,T,Y,rest,(hs e).trans a,bF.mono g (fun k hk=>l k (.inr hk)) aF _ _ _ B c,f,?_,?_,?_,held _ e ac,ad⟩
      ·rw[E];exact p
      ·rw[E];exact Z
      ·rw[E];exact ab
   |map fz es=>
    obtain⟨D,clock,a,c,f⟩:=m;exact⟨D,clock,(hs trivial).trans a,cd.mono g (fun k hk=>l k (.inr hk)) _ _ c,held _ trivial f⟩
   |de ks vs=>
    obtain⟨D,clock,a,c,f,p⟩:=m;exact⟨D,clock,(hs trivial).trans a,bp.mono g (fun k hk=>l k (.inr hk)) _ _ c,br.mono g (fun k hk=>l k (.inr hk)) aF _ _ B f,held _ trivial p⟩
   |dh s pos=>
    obtain⟨bs,a,c,f⟩:=m;exact⟨bs,(hs trivial).trans a,c,held _ trivial f⟩
   |loop L=>
    obtain⟨tmps,defers,fn,a,c,f,p⟩:=m;exact⟨tmps,defers,fn,(hs trivial).trans a,c,fun x=>au.mono g (fun k hk=>l k (.inr hk)) aF _ _ (B x) (f x),held _ trivial p⟩
 ·intro x y W X a c K M j he
  by_cases hx:x=b<;>by_cases hy:y=b
  ·rw[hx,hy]
  ·subst hx;rw[cv r]at a;cases a;rw[ce (ei hy)]at c;rw[(n y hy).1]at he;exact(A y X hy c M (fun hi=>j (he▸g _ hi)) K he.symm).elim
  ·subst hy;rw[cv r]at c;cases c;rw[ce (ei hx)]at a;rw[(n x hx).1]at he;rw[(n x hx).1]at j;exact(A x W hx a K (fun hi=>j (g _ hi)) M he).elim
  ·rw[ce (ei hx)]at a;rw[ce (ei hy)]at c;rw[(n x hx).1,(n y hy).1]at he;rw[(n x hx).1]at j;exact i.inj x y W X a c K M (fun hi=>j (g _ hi)) he
 ·intro x o d
  by_cases hx:x=b
  ·subst hx;rw[cv r]at d;cases d;exact am
  ·rw[ce (ei hx)]at d;have:=i.refs x o d;cases o with
   |box fz t=>exact hrefs _ this
   |arr k ar ai es=>exact cq.2 fun v I=>hrefs v (cq.1 this v I)
   |de ks vs=>exact cq.2 fun v I=>hrefs v (cq.1 this v I)
   |loop L=>exact fun x=>hrefs _ (this x)
   |_=>trivial
 ·rintro x ⟨L,N⟩
  by_cases hx:x=b
  ·subst hx;obtain⟨C,rfl⟩:=af L N;exact⟨C,cv r⟩
  ·exact⟨L,by rw[ce (ei hx)];exact N⟩
end
end Go.aw
namespace Go.aw
variable[Gl]
def bf(P:a0)(o:Oper)(ρ:a9->AV)(a:Nat)(e:aR):Prop:=
 ∀(H:Heap)(w:a7)(aa ah:Nat->Prop)(β:Bd)(ρc:a9->a5),
  bL P w aa β H ah->(∀x∈o.op.operands,au P w aa β H (ρ x) (ρc x)/\aC (aG H) (ρ x))->(∀p∈e.aj,H[p.1]?=some p.2)->(∀i,i<e.aP.length->H[a+i]?=some .hole)->
  ∃n b w' aH aD,(be ρc o).run P w=.ok n w'/\(n=.value b\/n=.skip/\b=undef)/\
   bO P ah aa w β H aD w' aH (ba H (e.aI++newAt a e.aP))/\au P w' aD aH (ba H (e.aI++newAt a e.aP)) e.v b/\
   aC (aG (ba H (e.aI++newAt a e.aP))) e.v
section
variable{P:a0}{ah aa aD:Nat->Prop}{w w':a7}{β aH:Bd}{H H':Heap}
theorem bO.refl(h:bL P w aa β H ah):bO P ah aa w β H aa w β H:=
 ⟨fun _ x=>x,fun _ x=>.inl x,Ext.refl _ _ _,bX.refl _ _,h,fun _ x=>x,fun _ x=>x⟩
theorem bf.same{o:Oper}{ρ:a9->AV}{c:Nat}{v:AV}{aj:List (Nat×Obj)}
 (h:∀(H:Heap)(w:a7)(aa ah:Nat->Prop)(β:Bd)(ρc:a9->a5),bL P w aa β H ah->(∀x∈o.op.operands,au P w aa β H (ρ x) (ρc x)/\aC (aG H) (ρ x))->
  (∀p∈aj,H[p.1]?=some p.2)->∃a,(be ρc o).run P w=.ok (.value a) w/\au P w aa β H v a/\aC (aG H) v):
 bf P o ρ c {v,aj}:=by
 intro H w aa ah β ρc b i g _;obtain⟨a,d,e,f⟩:=h H w aa ah β ρc b i g;exact⟨_,a,w,β,aa,d,.inl rfl,by simpa[newAt,ba]using bO.refl b,by simpa[newAt,ba]using e,by simpa[newAt,ba]using f⟩
theorem bO.trans{j l:Nat->Prop}{w1 n:a7}{o p:Bd}{H1 i:Heap}(h:bO P ah aa w β H j w1 o H1)(c:bO P ah j w1 o H1 l n p i):bO P ah aa w β H l n p i:=by
 refine⟨fun k x=>c.bM k (h.bM k x),fun k x=>(c.fresh k x).elim (h.fresh k) .inr,h.ext.trans (fun _ x=>x) h.bM c.ext,⟨?_,?_,?_,?_,?_⟩,c.rel,fun b a=>c.eH b (h.eH _ a),fun b a=>c.loop b (h.loop b a)⟩
 ·intro b a g;obtain⟨d,a2⟩:=c.step.box b (h.eH _ a) g;obtain⟨e,f⟩:=h.step.box b a d;exact⟨e,a2.trans f⟩
 ·intro b a g;obtain⟨d,a2⟩:=c.step.it b (h.eH _ a) g;obtain⟨e,f⟩:=h.step.it b a d;exact⟨e,a2.trans f⟩
 ·intro b a g;obtain⟨d,a2⟩:=c.step.map b (h.eH _ a) g;obtain⟨e,f⟩:=h.step.map b a d;exact⟨e,a2.trans f⟩
 ·intro b ar ai k s a g;obtain⟨k1,t,d,a2,a3,a4⟩:=c.step.arr b ar ai k s (h.eH _ a) g;obtain⟨k0,gf,e,f,q,r⟩:=h.step.arr b ar ai k1 t a d;refine⟨k0,gf,e,ec f a2,a3.trans q,fun m=>?_⟩;obtain⟨c1,c2⟩:=a4 m;obtain⟨d1,d2⟩:=r (fun x=>m (a3.2 x));exact⟨c1.trans d1,c2.trans d2⟩
 ·intro b a g;obtain⟨d,a2⟩:=c.step.loop b (h.eH _ a) g;obtain⟨e,f⟩:=h.step.loop b a d;exact⟨e,a2.trans f⟩
theorem zV(H:Heap)(l r:List (Nat×Obj)):ba H (l++r)=ba (ba H l) r:=by
 induction l generalizing H with
 |nil=>rfl
 |cons p l a=>obtain⟨b,o⟩:=p;simp[ba,a]
theorem nY(H:Heap)(l:List (Nat×Obj)):(ba H l).length=H.length:=by
 induction l generalizing H with
 |nil=>rfl
 |cons p l a=>obtain⟨b,o⟩:=p;simp[ba,a]
theorem wz(H T:Heap)(l:List (Nat×Obj))(h:∀p∈l,p.1<H.length):ba (H++T) l=ba H l++T:=by
 induction l generalizing H with
 |nil=>rfl
 |cons p l c=>
  obtain⟨b,o⟩:=p;have a:b<H.length:=h (b,o) (by simp);simp only[ba];rw[List.set_append_left _ _ a,c];intro q hq;rw[List.length_set];exact h q (by simp[hq])
theorem Ag(H:Heap)(l:List Obj):ba (H++cc l.length .hole) (newAt H.length l)=H++l:=by
 induction l generalizing H with
 |nil=>simp[newAt,ba]
 |cons o l a=>
  simp only[newAt,ba,dz,dk];rw[List.set_append_right _ _ (eb _)];simp only[Nat.sub_self,dl];have:=a (H++[o]);simp only[dp,List.length_singleton,dq,List.singleton_append]at this;exact this
theorem jD(H:Heap)(m b:Nat):(H++cc m Obj.hole)[b]?=if b<H.length then H[b]? else if b<H.length+m then some .hole else none:=by
 by_cases h:b<H.length
 ·simp[h,cx]
 ·rw[c6 (by omega)];simp only[List.getElem?_replicate,h,if_false]
  by_cases a:b<H.length+m
  ·simp[a,show b-H.length<m by omega]
  ·simp[a,show¬(b-H.length<m)by omega]
theorem mR{H:Heap}{m b:Nat}{o:Obj}(h:(H++cc m Obj.hole)[b]?=some o):H[b]?=some o\/o=.hole:=by
 rw[jD]at h
 split at h
 ·exact .inl h
 ·split at h
  ·exact .inr (by simpa using h.symm)
  ·simp at h
theorem me(H:Heap)(m:Nat)(b:Nat×Nat)(h:aG H b):aG (H++cc m Obj.hole) b:=by
 obtain⟨o,a,d⟩:=h;have c:b.1<H.length:=(ck.1 a).1;exact⟨o,by rw[jD,if_pos c];exact a,d⟩
theorem n6(β:Bd)(H:Heap)(m:Nat):bX β H β (H++cc m .hole):=by
 refine⟨?_,?_,?_,?_,?_⟩
 ·rintro b _ ⟨fz,t,h⟩;rcases mR h with h|h<;>simp_all [mj]
 ·rintro b _ ⟨fz,t,h⟩;rcases mR h with h|h<;>simp_all [ml]
 ·rintro b _ ⟨o,h,a⟩;rcases mR h with h|rfl
  ·exact⟨⟨o,h,a⟩,rfl⟩
  ·exact a.elim
 ·intro b ar ai k c _ h;rcases mR h with h|h
  ·exact⟨k,c,h,eb _,Iff.rfl,fun _=>⟨rfl,rfl⟩⟩
  ·simp at h
 ·rintro b _ ⟨L,h⟩;rcases mR h with h|h<;>simp_all [gz]
theorem Obj.ur{S T:Nat×Nat->Prop}(h:∀x,S x->T x):∀{o:Obj},o.refs S->o.refs T
 | .box _ t,a=>aC.mono h t a
 | .arr _ _ _ es,a=>aQ.mono h es a
 | .de _ vs,a=>aQ.mono h vs a
 | .loop _L,a=>fun x=>aC.mono h _ (a x)
 | .hole,_| .dead,_| .map _ _,_| .dh _ _,_=>trivial
theorem bL.mC(m:Nat)(h:bL P w aa β H ah):bL P w aa β (H++cc m .hole) ah:=by
 refine⟨?_,?_,?_,h.bM,h.dP,h.gU⟩
 ·intro b o d;rcases mR d with d|rfl
  ·have e:=h.cg b o d;have g:=h.refs b o d;have st:=n6 β H m;cases o with
   |hole=>trivial
   |dead=>trivial
   |box fz t=>
    obtain⟨cs,T,a,c,f⟩:=e;exact⟨cs,T,a,bc.mono (fun _ x=>x) (fun _ _=>rfl) st _ _ g c,f⟩
   |arr k ar ai es=>
    rcases e with e|⟨cs,T,n,rest,a,c,f⟩
    ·exact .inl e
    ·exact .inr ⟨cs,T,n,rest,a,bF.mono (fun _ x=>x) (fun _ _=>rfl) st _ _ _ g c,f⟩
   |map fz es=>exact e
   |de ks vs=>
    obtain⟨p,clock,a,c,f,i⟩:=e;exact⟨p,clock,a,c,br.mono (fun _ x=>x) (fun _ _=>rfl) st _ _ g f,i⟩
   |dh s pos=>exact e
   |loop L=>
    obtain⟨tmps,defers,fn,a,c,f,i⟩:=e;exact⟨tmps,defers,fn,a,c,fun x=>au.mono (fun _ x=>x) (fun _ _=>rfl) st _ _ (g x) (f x),i⟩
  ·trivial
 ·intro x y u v a c j l r q;rcases mR a with a|rfl
  ·rcases mR c with c|rfl
   ·exact h.inj x y u v a c j l r q
   ·exact l.elim
  ·exact j.elim
 ·intro b o d;rcases mR d with d|rfl
  ·exact Obj.ur (me H m) (h.refs b o d)
  ·trivial
theorem bf.use{o:Oper}{ρ:a9->AV}{e:aR}(h:bf P o ρ H.length e){ρc:a9->a5}(k:bL P w aa β H ah)
 (c:∀x∈o.op.operands,au P w aa β H (ρ x) (ρc x)/\aC (aG H) (ρ x))(aj:∀p∈e.aj,H[p.1]?=some p.2)(aI:∀p∈e.aI,p.1<H.length):
 ∃n a w' aH aD,(be ρc o).run P w=.ok n w'/\(n=.value a\/n=.skip/\a=undef)/\
  bO P ah aa w β H aD w' aH (ba H e.aI++e.aP)/\au P w' aD aH (ba H e.aI++e.aP) e.v a/\aC (aG (ba H e.aI++e.aP)) e.v:=by
 have aF:=n6 β H e.aP.length;obtain⟨n,a,w',aH,aD,m,q,d,f,g⟩:=h (H++cc e.aP.length .hole) w aa ah β ρc (k.mC _)
  (fun x hx=>⟨au.mono (fun _ x=>x) (fun _ _=>rfl) aF _ _ (c x hx).2 (c x hx).1,aC.mono (me _ _) _ (c x hx).2⟩)
  (fun p s=>by have:=aj p s;rw[jD,if_pos (ck.1 this).1];exact this)
  (fun i hi=>by rw[jD,if_neg (by omega),if_pos (by omega)])
 have r:ba (H++cc e.aP.length .hole) (e.aI++newAt H.length e.aP)=ba H e.aI++e.aP:=by
  rw[zV,wz _ _ _ aI];have:=Ag (ba H e.aI) e.aP
  rwa [nY]at this
 rw[r]at d f g;refine⟨n,a,w',aH,aD,m,q,?_,f,g⟩;have l:bO P ah aa w β H aa w β (H++cc e.aP.length .hole):=⟨fun _ x=>x,fun _ x=>.inl x,Ext.refl _ _ _,aF,k.mC _,me _ _,fun b⟨L,j⟩=>⟨L,by rw[jD,if_pos (ck.1 j).1];exact j⟩⟩
 exact l.trans d
theorem qN.use{f:a8}{args:List AV}{e:aR}(h:qN P f args H.length e)(m:oW H e){c:List a5}(n:bL P w aa β H ah)(r:br P w aa β H args c)(o:aQ (aG H) args):
 bv P f c.toArray w fun x w'=>∃a aH aD,x=.returned a/\bO P ah aa w β H aD w' aH (ba H e.aI++e.aP)/\au P w' aD aH (ba H e.aI++e.aP) e.v a/\aC (aG (ba H e.aI++e.aP)) e.v:=by
 have aF:=n6 β H e.aP.length;refine(h.2 (H++cc e.aP.length .hole) w aa ah β c (n.mC _)
  (br.mono (fun _ x=>x) (fun _ _=>rfl) aF _ _ o r) (aQ.mono (me _ _) _ o)
  (fun p d=>by have:=m.1 p d;rw[jD,if_pos (ck.1 this).1];exact this)
  (fun i hi=>by rw[jD,if_neg (by omega),if_pos (by omega)])).mono ?_
 rintro x w' ⟨a,aH,aD,rfl,g,j,k⟩;have s:ba (H++cc e.aP.length .hole) (e.aI++newAt H.length e.aP)=ba H e.aI++e.aP:=by
  rw[zV,wz _ _ _ (fun p d=>(m.2 p d).1)];have:=Ag (ba H e.aI) e.aP
  rwa [nY]at this
 rw[s]at g j k;have q:bO P ah aa w β H aa w β (H++cc e.aP.length .hole):=⟨fun _ x=>x,fun _ x=>.inl x,Ext.refl _ _ _,aF,n.mC _,me _ _,fun b⟨L,l⟩=>⟨L,by rw[jD,if_pos (ck.1 l).1];exact l⟩⟩
 exact⟨a,aH,aD,rfl,q.trans g,j,k⟩
end
def lh(P:a0)(ag:a8->Bool):Prop:=
 ∀(o:Oper)(ρ:a9->AV)(H:Heap)(K:aR->Prop),(∀v,ρ (.const v)=.p (ofConst v))->fc P ag o ρ H K->
  ∃e,K e/\bf P o ρ H.length e/\(∀p∈e.aj,H[p.1]?=some p.2)/\(∀p∈e.aI,p.1<H.length/\p.2≠.hole)
section
variable{P:a0}{ag:a8->Bool}{n:Nat}
theorem Gp{w:a7}{aa:Nat->Prop}(v:a5):aA P w aa (ofConst v) v:=by
 unfold ofConst
 split<;>simp[aA]
theorem nA{ah aa:Nat->Prop}{β:Bd}{s:St}{t:Array a5}{w:a7}(h:cA P n ah aa β s t w)(x:a9):
 au P w aa β s.heap (ev s.env x) (fe t x)/\aC (aG s.heap) (ev s.env x):=by
 cases x with
 |tmp x=>exact⟨h.env x,h.gd x⟩
 |const v=>exact⟨by simp only[ev,fe,au];exact Gp v,by simp[ev,aC]⟩
 |global g=>exact⟨by simp only[ev,fe,au];exact h.heap.gU.val g,by simp[ev,aC]⟩
 |func f=>exact⟨by simp[ev,fe,au,aA,bp],by simp[ev,aC]⟩
def iC(n:Nat)(o:Oper):Bool:=
 match o.dst with
 |some d=>decide (d<n)
 |none=>true
theorem uf(e:Env)(dst:Option Tmp)(v:AV)(x:Nat):aK (put dst v e) x=if dst=some x then v else aK e x:=by
 cases dst with
 |none=>simp[put]
 |some d=>
  simp only[put,aK,Option.some.injEq]
  by_cases h:x=d
  ·simp[h]
  ·simp[h,ei h]
theorem Uj{n:Nat}{o:Oper}(a:iC n o=true){t:Array a5}(c:t.size=n)(v:a5)(x:Nat):(mM o.dst v t).getD x undef=if o.dst=some x then v else t.getD x undef:=by
 unfold iC at a;cases b:o.dst with
 |none=>simp[mM]
 |some d=>
  simp only[b,decide_eq_true_eq]at a;simp only[mM,Option.some.injEq]
  by_cases h:d=x
  ·subst h;simp[c,a]
  ·simp only[h,if_false,Array.getD_eq_getD_getElem?,Array.getElem?_setIfInBounds_ne h]
theorem TU{t:Array a5}(dst:Option Tmp)(v:a5):(mM dst v t).size=t.size:=by cases dst<;>simp[mM]
theorem cA.put{ah aa aD:Nat->Prop}{β aH:Bd}{s:St}{H':Heap}{t:Array a5}{w w':a7}{o:Oper}{v:AV}{b:a5}(h:cA P n ah aa β s t w)(c:iC n o=true)
 (a:bO P ah aa w β s.heap aD w' aH H')(e:au P w' aD aH H' v b)(d:aC (aG H') v):
 cA P n ah aD aH ⟨put o.dst v s.env,H'⟩ (mM o.dst b t) w':=by
 refine⟨a.rel,fun x=>?_,fun x=>?_,by rw[TU];exact h.size⟩
 ·rw[uf,Uj c h.size]
  split
  ·exact e
  ·exact au.mono a.bM (fun k hk=>a.ext.same k (.inr hk)) a.step _ _ (h.gd x) (h.env x)
 ·rw[uf]
  split
  ·exact d
  ·exact aC.mono a.eH _ (h.gd x)
theorem Ii{H T:Heap}{b:Nat×Nat}(h:aG H b):aG (H++T) b:=by
 obtain⟨o,a,c⟩:=h;exact⟨o,by rw[cx (ck.1 a).1];exact a,c⟩
theorem bL.later{ah aa aD:Nat->Prop}{w w':a7}{β:Bd}{H:Heap}(h:bL P w aa β H ah)(e:∀k,aa k->aD k)(hf:∀k,aD k->aa k\/w.heap.size<=k)
 (B:∀k,aD k->k<w'.heap.size)(q:w.heap.size<=w'.heap.size)(hs:∀k,k<w.heap.size->w'.heap[k]?=w.heap[k]?)(A:w'.os=w.os/\w'.output=w.output:=by exact⟨rfl,rfl⟩):bO P ah aa w β H aD w' β H:=by
 have same:∀k,aa k->w'.heap[k]?=w.heap[k]?:=fun k hk=>hs k (h.bM k hk);refine⟨e,fun k hk=>(hf k hk).imp id (fun c a=>by have:=h.dP k a;omega),⟨q,fun k hk=>hs k (hk.elim (h.dP k) (h.bM k)),A⟩,bX.refl _ _,?_,fun _ x=>x,fun _ x=>x⟩;refine⟨fun b o m=>?_,fun b b' o o' c a D E C=>h.inj b b' o o' c a D E (fun hi=>C (e _ hi)),h.refs,B,fun k hk=>ed (h.dP k hk) q,h.gU.mono e same⟩;have f:=h.cg b o m;have n:=h.refs b o m;have held:∀fz,o.live->b9 aa β ah fz b->b9 aD β ah fz b:=by
  intro fz i l;have:=h.mh m i;unfold b9 at l⊢;cases fz with
  |true=>exact e _ l
  |false=>exact⟨fun x=>(hf _ x).elim l.1 (by omega),l.2⟩
 have j:o.live->w'.heap[β.ak b]?=w.heap[β.ak b]?:=fun i=>hs _ (h.mh m i);cases o with
 |hole=>trivial
 |dead=>trivial
 |box fz t=>
  obtain⟨cs,T,c,a,d,g⟩:=f;exact⟨cs,T,(j trivial).trans c,bc.mono e same (bX.refl _ _) _ _ n a,held _ trivial d,g⟩
 |arr k ar ai es=>
  rcases f with f|⟨cs,T,r,rest,c,a,d,g,u,v,y,z⟩
  ·exact .inl f
  ·by_cases i:cU k es
   ·exact .inl i
   ·exact .inr ⟨cs,T,r,rest,(j i).trans c,bF.mono e same (bX.refl _ _) _ _ _ n a,d,g,u,v,held _ i y,z⟩
 |map fz es=>
  obtain⟨p,clock,c,a,d⟩:=f;exact⟨p,clock,(j trivial).trans c,cd.mono e same _ _ a,held _ trivial d⟩
 |de ks vs=>
  obtain⟨p,clock,c,a,d,g⟩:=f;exact⟨p,clock,(j trivial).trans c,bp.mono e same _ _ a,br.mono e same (bX.refl _ _) _ _ n d,held _ trivial g⟩
 |dh s pos=>
  obtain⟨bs,c,a,d⟩:=f;exact⟨bs,(j trivial).trans c,a,held _ trivial d⟩
 |loop L=>
  obtain⟨tmps,defers,fn,c,a,d,g⟩:=f;exact⟨tmps,defers,fn,(j trivial).trans c,a,fun x=>au.mono e same (bX.refl _ _) _ _ (n x) (d x),held _ trivial g⟩
theorem n8{w:a7}{aa:Nat->Prop}{β:Bd}{H:Heap}:∀{a b:List AV}{x y:List a5},br P w aa β H a x->br P w aa β H b y->br P w aa β H (a++b) (x++y)
 |[],b,x,y,h,c=>by simp only[br]at h;subst h;simpa using c
 |v::a,b,x,y,h,c=>by
  simp only[br]at h;obtain⟨z,f,rfl,d,e⟩:=h;simp only[ea,br];exact⟨z,f++y,rfl,d,n8 e c⟩
theorem ji{S:Nat×Nat->Prop}{a b:List AV}(h:aQ S a)(d:aQ S b):aQ S (a++b):=by
 rw[cq]at*;intro v c;rcases List.mem_append.1 c with c|c
 ·exact h v c
 ·exact d v c
theorem uh{ah aa:Nat->Prop}{β:Bd}{s:St}{t:Array a5}{w:a7}(h:cA P n ah aa β s t w):∀l:List a9,
 br P w aa β s.heap (l.map (ev s.env)) (l.map (fe t))/\aQ (aG s.heap) (l.map (ev s.env))
 |[]=>by simp[br,aQ]
 |x::l=>by
  have a:=nA h x;have b:=uh h l;simp only[cy,br,aQ];exact⟨⟨_,_,rfl,a.1,b.1⟩,a.2,b.2⟩
end
section
variable{P:a0}{w:a7}{aa ah:Nat->Prop}{β:Bd}{H:Heap}
def Bd.at(β:Bd)(b ak cap:Nat):Bd:=⟨fun x=>if x=b then ak else β.ak x,fun x=>if x=b then cap else β.cap x⟩
theorem xf{b:Nat}(f:H[b]?=some .hole)(o':Obj)(ak cap:Nat):bX β H (β.at b ak cap) (H.set b o'):=by
 have a:∀{x v},aG H (x,v)->x≠b:=by
  rintro x v ⟨o,d,i⟩ rfl;simp only at d;rw[f]at d;cases d;exact i
 have c:∀{x v},aG H (x,v)->(H.set b o')[x]?=H[x]?:=fun hx=>ce (ei (a hx));refine⟨?_,?_,?_,?_,?_⟩
 ·rintro x hx ⟨fz,t,h⟩;rw[c hx]at h;exact⟨⟨fz,t,h⟩,by simp[Bd.at,a hx]⟩
 ·rintro x hx ⟨fz,t,h⟩;rw[c hx]at h;exact⟨⟨fz,t,h⟩,by simp[Bd.at,a hx]⟩
 ·rintro x hx ⟨o,h,g⟩;rw[c hx]at h;exact⟨⟨o,h,g⟩,by simp[Bd.at,a hx]⟩
 ·intro x ar ai k e hx h;unfold et at h;rw[c hx]at h;exact⟨k,e,h,eb _,Iff.rfl,fun _=>by simp[Bd.at,a hx]⟩
 ·rintro x hx ⟨L,h⟩;rw[c hx]at h;exact⟨⟨L,h⟩,by simp[Bd.at,a hx]⟩
theorem rV(e:bL P w aa β H ah){a:Nat}(b:H[a]?=some .hole){ob:Go.Obj}{o':Obj}{cap:Nat}
 (g:eK P {w with heap:=w.heap.push ob} aa (β.at a w.heap.size cap) (H.set a o') ah a o')(h:o'.refs (aG (H.set a o'))):
 bO P ah aa w β H aa {w with heap:=w.heap.push ob} (β.at a w.heap.size cap) (H.set a o'):=by
 refine bO.set e (ck.1 b).1 (fun x hx=>by simp[Bd.at,hx]) (fun _ x=>x) (fun _ x=>.inl x) (fun k hk=>by have:=e.bM k hk;simp;omega) (by simp)
  (fun k _ hk=>by simp[ax,ee hk]) (fun _=>.inl (by simp[Bd.at])) (xf b _ _ _) g h (fun i v c f=>by rw[b]at c;cases c;exact f.elim) (fun L d=>by rw[b]at d;cases d)
theorem ub(w:a7)(a:Go.Obj){k:Nat}(hk:k<w.heap.size):({w with heap:=w.heap.push a}:a7).heap[k]?=w.heap[k]?:=by
 simp[ax,ee hk]
end
section
variable{P:a0}{w:a7}{aa aD ah:Nat->Prop}{β:Bd}{H:Heap}
def Row(P:a0)(w:a7)(aa:Nat->Prop)(β:Bd)(H:Heap)(ai:Nat)(a:List AV)(b:List (List a5)):Prop:=bF P w aa β H (cc a.length ai) a b
theorem gP{ai:Nat}{a:List (List a5)}:Row P w aa β H ai [] a↔a=[]:=by simp[Row,bF]
theorem pH{ai:Nat}{v:AV}{b:List AV}{a:List (List a5)}:Row P w aa β H ai (v::b) a↔∃c cs,a=c::cs/\bc P w aa β H v c/\c.length=ai/\Row P w aa β H ai b cs:=by
 simp[Row,dk,bF]
theorem kq{ai:Nat}:∀{a b:List AV}{d:List (List a5)},Row P w aa β H ai (a++b) d↔∃c1 c2,d=c1++c2/\Row P w aa β H ai a c1/\Row P w aa β H ai b c2
 |[],b,d=>by
  simp only[List.nil_append];constructor
  ·intro h;exact⟨[],d,rfl,gP.2 rfl,h⟩
  ·rintro⟨c1,c2,rfl,e,f⟩;rw[gP.1 e];simpa using f
 |v::a,b,d=>by
  simp only[ea,pH];constructor
  ·rintro⟨c,cs,rfl,e,f,g⟩;obtain⟨c1,c2,rfl,i,j⟩:=kq.1 g;exact⟨c::c1,c2,rfl,⟨c,c1,rfl,e,f,i⟩,j⟩
  ·rintro⟨c1,c2,rfl,⟨c,cs,rfl,e,f,g⟩,i⟩;exact⟨c,cs++c2,rfl,e,f,kq.2 ⟨cs,c2,rfl,g,i⟩⟩
theorem fw{ai:Nat}:∀{b:List AV}{a:List (List a5)},Row P w aa β H ai b a->a.length=b.length/\a.flatten.length=b.length*ai
 |[],a,h=>by rw[gP]at h;subst h;simp
 |v::b,a,h=>by
  rw[pH]at h;obtain⟨c,cs,rfl,f,d,e⟩:=h;have:=fw e;simp only[dz,List.flatten_cons,dp,this,d,Nat.succ_mul];exact⟨trivial,by omega⟩
theorem lC{ai:Nat}{a:List PV}{b:List (List a5)}:Row P w aa β H ai (a.map .p) b↔aY P w aa (cc a.length ai) a b:=by
 unfold Row;rw[List.length_map];exact nh
theorem jj{ai:Nat}{d:List AV}{e:List (List a5)}(h:Row P w aa β H ai d e)(off len:Nat)(k:off+len<=d.length):
 ∃a b c,e=a++b++c/\Row P w aa β H ai ((d.drop off).take len) b/\a.flatten.length=off*ai/\Row P w aa β H ai (d.take off) a/\Row P w aa β H ai (d.drop (off+len)) c:=by
 have e1:d=d.take off++((d.drop off).take len++d.drop (off+len)):=by
  rw[<-List.drop_drop,db,db]
 rw[e1,kq]at h;obtain⟨a,r,rfl,f,g⟩:=h;rw[kq]at g;obtain⟨b,c,rfl,i,j⟩:=g;refine⟨a,b,c,by simp,i,?_,f,j⟩;have:=(fw f).2;rw[this,List.length_take,Nat.min_eq_left (by omega)]
theorem ln{cs:Array a5}{T:a1}{fz:Nat×Nat}{ak:Nat}(a:w.heap[ak]?=some (.cells cs T fz)){pre xs post:List a5}(hc:cs.toList=pre++xs++post):
 gw w ak pre.length xs:=by
 intro i hi;have:cs[pre.length+i]?=some xs[i]:=by
  rw[<-Array.getElem?_toList,hc,dq,c6 (by omega)];simp only[Nat.add_sub_cancel_left];rw[cx hi,List.getElem?_eq_getElem hi]
 simp[World.cell?,a,this]
theorem zZ(a:List PV)(off len:Nat):(((a.map AV.p).drop off).take len)=((a.drop off).take len).map .p:=by
 rw[<-List.map_drop,<-List.map_take]
theorem lD{H:Heap}{b:Nat}{d o:Obj}(c:H[b]?=some d)(e:∀v,d.has v->o.has v):∀x,aG H x->aG (H.set b o) x:=by
 rintro⟨x,v⟩ ⟨f,a,h⟩
 by_cases hx:b=x
 ·subst hx;simp only at a;rw[c]at a;cases a;exact⟨o,by simp only;rw[cv (ck.1 c).1],e v h⟩
 ·exact⟨f,by simp only;rw[ce hx];exact a,h⟩
theorem rF{b:Nat}{o o':Obj}(m:H[b]?=some o)(hk:(∃f g t,o= .box f t/\o'= .box g t)\/(∃k n v z c,o= .arr k v z c/\o'= .arr n v z c/\¬cU k c/\¬cU n c)\/(∃f g c,o= .map f c/\o'= .map g c)):
 bX β H β (H.set b o'):=by
 have u:b<H.length:=(ck.1 m).1;have i:∀x,x≠b->(H.set b o')[x]?=H[x]?:=fun x hx=>ce (ei hx);have e:(H.set b o')[b]?=some o':=cv u;refine⟨?_,?_,?_,?_,?_⟩
 ·rintro x _ ⟨fz,t,h⟩;refine⟨?_,rfl⟩
  by_cases hx:x=b
  ·subst hx;rw[e]at h;cases h;rcases hk with⟨f,g,l,d,a⟩|⟨_,_,_,_,_,_,a,_⟩|⟨_,_,_,_,a⟩
   ·exact⟨f,l,by rw[m,d]⟩
   ·cases a
   ·cases a
  ·rw[i x hx]at h;exact⟨fz,t,h⟩
 ·rintro x _ ⟨s,p,h⟩;refine⟨?_,rfl⟩
  by_cases hx:x=b
  ·subst hx;rw[e]at h;cases h;rcases hk with⟨f,g,l,d,a⟩|⟨_,_,_,_,_,_,a,_⟩|⟨_,_,_,_,a⟩<;>cases a
  ·rw[i x hx]at h;exact⟨s,p,h⟩
 ·rintro x _ ⟨w,h,j⟩;refine⟨?_,rfl⟩
  by_cases hx:x=b
  ·subst hx;rw[e]at h;cases h;rcases hk with⟨f,g,l,d,a⟩|⟨_,_,_,_,_,_,a,_⟩|⟨f,g,c,d,a⟩
   ·rw[a]at j;exact j.elim
   ·rw[a]at j;exact j.elim
   ·exact⟨o,m,by rw[d];trivial⟩
  ·rw[i x hx]at h;exact⟨w,h,j⟩
 ·intro x ar ai k c _ h
  by_cases hx:x=b
  ·subst hx;unfold et at h⊢;rw[e]at h;cases h;rcases hk with⟨f,g,l,d,a⟩|⟨k0,n,v,z,y,d,a,q,r⟩|⟨f,g,c,d,a⟩
   ·cases a
   ·cases a;exact⟨k0,c,by rw[m,d],eb _,⟨fun x=>(r x).elim,fun x=>(q x).elim⟩,fun _=>⟨rfl,rfl⟩⟩
   ·cases a
  ·unfold et at h⊢;rw[i x hx]at h;exact⟨k,c,h,eb _,Iff.rfl,fun _=>⟨rfl,rfl⟩⟩
 ·rintro x _ ⟨L,h⟩;refine⟨?_,rfl⟩
  by_cases hx:x=b
  ·subst hx;rw[e]at h;cases h;rcases hk with⟨f,g,l,d,a⟩|⟨_,_,_,_,_,_,a,_⟩|⟨_,_,_,_,a⟩<;>cases a
  ·rw[i x hx]at h;exact⟨L,h⟩
theorem b9.sL{fz:Bool}{b:Nat}(h:b9 aa β ah fz b):aa (β.ak b)\/(¬aa (β.ak b)/\¬ah (β.ak b)):=by
 cases fz with
 |true=>exact .inl h
 |false=>exact .inr h
theorem rK(e:bL P w aa β H ah){b:Nat}{o o':Obj}(f:H[b]?=some o)(r:o.live)(Q:o'.live)(A:∀v,o.has v->o'.has v)(u:∀L,o≠ .loop L)
 (aF:bX β H β (H.set b o'))(O:aa (β.ak b)\/(¬aa (β.ak b)/\¬ah (β.ak b)))
 (aP:∀aD:Nat->Prop,(∀k,aa k->aD k)->aD (β.ak b)->eK P w aD β (H.set b o') ah b o')(B:o'.refs (aG (H.set b o'))):
 ∃aD,bO P ah aa w β H aD w β (H.set b o')/\aD (β.ak b):=by
 have q:b<H.length:=(ck.1 f).1
 by_cases hi:aa (β.ak b)
 ·
  refine⟨aa,?_,hi⟩;have aj:=lD f A;refine⟨fun _ x=>x,fun _ x=>.inl x,Ext.refl _ _ _,aF,⟨?_,?_,?_,e.bM,e.dP,e.gU⟩,aj,fun x⟨L,j⟩=>⟨L,by
   by_cases hx:b=x
   ·subst hx;rw[f]at j;cases j;exact(u L rfl).elim
   ·rw[ce hx];exact j⟩⟩
  ·intro x l d
   by_cases hx:x=b
   ·subst hx;rw[cv q]at d;cases d;exact aP aa (fun _ x=>x) hi
   ·rw[ce (ei hx)]at d;have g:=e.cg x l d;have m:=e.refs x l d;cases l with
    |hole=>trivial
    |dead=>trivial
    |box fz t=>
     obtain⟨cs,T,a,c,i⟩:=g;exact⟨cs,T,a,bc.mono (fun _ x=>x) (fun _ _=>rfl) aF _ _ m c,i⟩
    |arr k ar ai es=>
     rcases g with g|⟨cs,T,K,rest,a,c,i⟩
     ·exact .inl g
     ·exact .inr ⟨cs,T,K,rest,a,bF.mono (fun _ x=>x) (fun _ _=>rfl) aF _ _ _ m c,i⟩
    |map fz es=>exact g
    |de ks vs=>
     obtain⟨M,clock,a,c,i,p⟩:=g;exact⟨M,clock,a,c,br.mono (fun _ x=>x) (fun _ _=>rfl) aF _ _ m i,p⟩
    |dh s pos=>exact g
    |loop L=>
     obtain⟨tmps,defers,fn,a,c,i,p⟩:=g;exact⟨tmps,defers,fn,a,c,fun x=>au.mono (fun _ x=>x) (fun _ _=>rfl) aF _ _ (m x) (i x),p⟩
  ·intro x y E X a c U V R N;have conv:∀(z:Nat)(n:Obj),(H.set b o')[z]?=some n->n.live->∃F:Obj,H[z]?=some F/\F.live:=by
    intro z n C W
    by_cases D:z=b
    ·subst D;exact⟨o,f,r⟩
    ·rw[ce (ei D)]at C;exact⟨n,C,W⟩
   obtain⟨G,I,c1⟩:=conv x E a U;obtain⟨a2,J,c2⟩:=conv y X c V;exact e.inj x y G a2 I J c1 c2 R N
  ·intro x l d
   by_cases hx:x=b
   ·subst hx;rw[cv q]at d;cases d;exact B
   ·rw[ce (ei hx)]at d;exact Obj.ur aj (e.refs x l d)
 ·refine⟨fun k=>aa k\/k=β.ak b,?_,.inr rfl⟩;have S:=O.resolve_left hi;exact bO.set e q (fun _ _=>⟨rfl,rfl⟩) (fun _ x=>.inl x) (fun k hk=>hk.imp id (fun h=>⟨h,Q⟩)) (fun k hk=>hk.elim (e.bM k) (fun h=>h▸e.mh f r)) (eb _)
   (fun _ _ _=>rfl) (fun _=>.inr ⟨rfl,⟨o,f,r⟩,.inl (fun _ _=>rfl),S.2⟩) aF (aP _ (fun _ x=>.inl x) (.inr rfl)) B (fun E v a c=>by rw[f]at a;cases a;exact A v c) (fun L j=>by rw[f]at j;cases j;exact(u L rfl).elim)
theorem H7{z:AV}{pv:PV}{H1:Heap}{v:a5}(d:j0 H z=some (pv,H1))(i:bL P w aa β H ah)(f:au P w aa β H z v)(Z:aC (aG H) z):
 ∃aD,bO P ah aa w β H aD w β H1/\aA P w aD pv v:=by
 cases z with
 |p t=>
  simp[j0]at d;obtain⟨rfl,rfl⟩:=d;exact⟨aa,bO.refl i,by simpa[au]using f⟩
 |sl b ar ai off len=>
  simp only[j0]at d
  split at d
  case h_2=>simp at d
  rename_i k ab W j g
  split at d
  case isFalse=>simp at d
  rename_i O;obtain⟨rfl,rfl,Y⟩:=O;simp only[au]at f;obtain⟨_,f⟩:=f;simp only[bK]at f;obtain⟨v1,v2,v3⟩:=f k j g
  split at d
  ·rename_i u;simp at d;obtain⟨rfl,rfl⟩:=d;exact⟨aa,bO.refl i,by simp[aA,v2 u]⟩
  ·rename_i u
   split at d
   case h_2=>simp at d
   rename_i J R;simp at d;obtain⟨rfl,rfl⟩:=d;have A:=lB R;have E:=i.cg b _ g;rcases E with E|⟨cs,T,F,rest,n,l,r,B,L,M,N,X⟩
   ·exact(u E).elim
   have I:¬cU .frozen j:=fun h=>by cases h.1
   have aF:bX β H β (H.set b (.arr .frozen ar ai j)):=rF g (.inr (.inl ⟨_,_,_,_,_,rfl,rfl,u,I⟩));obtain⟨aD,q,y⟩:=rK i g u (o':=.arr .frozen ar ai j) I (fun _ h=>h) (fun _ h=>by cases h) aF N.sL
    (fun aD hi x=>.inr ⟨cs,T,F,rest,n,bF.mono hi (fun _ _=>rfl) aF _ _ _ (i.refs b _ g) l,r,B,L,(fun h=>by cases h),x,fun _ e C=>(by rw[A]at C;simp at C;obtain⟨a,_,rfl⟩:=C;trivial),fun h=>by cases h⟩)
    (by rw[A];exact iI _ _)
   refine⟨aD,q,?_⟩;rw[v3 u];have S:Row P w aD β H ai j F:=bF.mono q.bM (fun _ _=>rfl) (bX.refl _ _) _ _ _ (i.refs b _ g) l;obtain⟨a,m,c,e1,e2,e3,e4,e5⟩:=jj S off len v1;rw[A,zZ,lC]at e2;have D:((J.drop off).take len).length=len:=by
    have:j.length=J.length:=by rw[A];simp
    simp;omega
   simp only[aA];refine⟨β.ak b,off*ai,β.cap b-off,ai,m,e2,fun _=>y,?_,?_,?_,none,.inl rfl,?_⟩
   ·rw[<-e3];exact ln n (post:=c.flatten++rest) (by rw[r,e1];simp)
   ·intro hf;simp at hf;rw[D,M hf.1];omega
   ·rw[D];omega
   ·rw[D]
 |ptr b path=>
  simp only[j0]at d
  split at d
  case h_2=>simp at d
  rename_i fz t g
  split at d
  case h_2=>simp at d
  rename_i s hs;simp at d;obtain⟨rfl,rfl⟩:=d;simp only[au]at f;obtain⟨_,f⟩:=f;simp only[bK]at f;obtain⟨V,U,o,rfl,Q,f⟩:=f;obtain⟨rfl,rfl⟩:=f (.inl ⟨fz,_,g⟩);obtain⟨cs,T,n,l,r,B⟩:=i.cg b _ g;have aF:bX β H β (H.set b (.box true (.p t))):=rF g (.inl ⟨_,_,_,rfl,rfl⟩);obtain⟨aD,q,y⟩:=rK i g trivial (o':=.box true (.p t)) trivial (fun _ h=>h) (fun _ h=>by cases h) aF r.sL
   (fun aD hi x=>⟨cs,T,n,bc.mono hi (fun _ _=>rfl) aF _ _ (by simp[aC]) l,x,fun _=>trivial,B.2⟩) (by simp[Obj.refs,aC])
  refine⟨aD,q,?_⟩;have K:aS P w aD t cs.toList:=by simp only[bc]at l;exact aS.mono q.bM (fun _ _=>rfl) _ _ l
  obtain⟨pre,xs,post,e1,e2,e3⟩:=xA K hs Q;simp only[aA];refine⟨β.ak b,U,xs,e3,y,?_,rfl⟩;rw[<-e2];exact ln n e1
 |map b=>
  simp only[j0]at d
  split at d
  case h_2=>simp at d
  rename_i fz j g;simp at d;obtain⟨rfl,rfl⟩:=d;simp only[au]at f;obtain⟨_,f⟩:=f;simp only[bK]at f;have f:=f.1 ⟨_,g,trivial⟩;obtain⟨G,clock,n,l,r⟩:=i.cg b _ g;have aF:bX β H β (H.set b (.map true j)):=rF g (.inr (.inr ⟨_,_,_,rfl,rfl⟩));obtain⟨aD,q,y⟩:=rK i g trivial (o':=.map true j) trivial (fun _ h=>h) (fun _ h=>by cases h) aF r.sL
   (fun aD hi x=>⟨G,clock,n,cd.mono hi (fun _ _=>rfl) _ _ l,x⟩) trivial
  refine⟨aD,q,?_⟩;simp only[aA];exact⟨β.ak b,G,clock,y,n,cd.mono q.bM (fun _ _=>rfl) _ _ l,f⟩
 |bR=>simp[j0]at d
 |func=>simp[j0]at d
 |st=>simp[j0]at d
 |aE=>simp[j0]at d
end
section
variable{P:a0}{ag:a8->Bool}{n N:Nat}
theorem AD{w:a7}{β:Bd}{ah:Nat->Prop}:∀{e:List AV}{g:List PV}{H H1:Heap}{aa:Nat->Prop}{vs:List a5},mL H e=some (g,H1)->bL P w aa β H ah->
 br P w aa β H e vs->aQ (aG H) e->∃aD,bO P ah aa w β H aD w β H1/\bp P w aD g vs
 |[],g,H,H1,aa,vs,b,h,c,_=>by
  simp[mL]at b;obtain⟨rfl,rfl⟩:=b;simp only[br]at c;exact⟨aa,bO.refl h,by simpa[bp]using c⟩
 |a::e,g,H,H1,aa,vs,b,h,c,f=>by
  simp only[mL]at b
  split at b
  case h_2=>simp at b
  rename_i v o j
  split at b
  case h_2=>simp at b
  rename_i r p k;simp at b;obtain⟨rfl,rfl⟩:=b;simp only[br]at c;obtain⟨y,n,rfl,k1,k2⟩:=c;simp only[aQ]at f;obtain⟨q,d,l⟩:=H7 j h k1 f.1;obtain⟨i,q1,m⟩:=AD k d.rel (br.mono d.bM (fun _ _=>rfl) d.step _ _ f.2 k2) (aQ.mono d.eH _ f.2);refine⟨i,d.trans q1,?_⟩;simp only[bp];exact⟨y,n,rfl,aA.mono q1.bM (fun _ _=>rfl) _ _ l,m⟩
def jK(P:a0)(n N:Nat)(fr:bb)(k:List Item)(cs:List bb)(c:Array Oper)(ah aa:Nat->Prop)(w:a7)(β:Bd)(H:Heap)(m:Machine)(r:List Nat)(b:List bk)(K:St->Prop):Prop:=
 ∃s' aD aH a w',K s'/\Steps P m (lone (bu fr a b (.inRegion c r::k)) cs w')/\cA P n ah aD aH s' a w'/\dA N ah aa w β H ah aD w' aH s'.heap
theorem Re{d:Bool}{o:Oper}{K:St->Prop}{s:St}(h:jf P ag d o K s)(c:Call):o.op≠.defer c:=by
 intro hc;unfold jf at h;rw[hc]at h;simp[fc,hc]at h
variable{fr:bb}{k:List Item}{cs:List bb}{ops:Array Oper}{i:Nat}{r:List Nat}{ds:List bk}
theorem GV{d:Bool}{o:Oper}{f:a9}{F:Array a9}{Z:Array a1}{g:a8}{fi ca:List AV}{K:St->Prop}{s:St}{ah aa:Nat->Prop}{β:Bd}{t:Array a5}{w:a7}
 (W:o.op=.call {callee:=.value f,args:=F,argTypes:=Z})
 (hf:(ev s.env f=.func g fi ca)\/(∃a b,ev s.env f=.p (.func g a b)/\fi=a.map .p/\ca=b.map .p))
 (h:gB P d g (fi++F.toList.map (ev s.env)++ca) s.heap (fun v H'=>K ⟨put o.dst v s.env,H'⟩))
 (m:cA P n ah aa β s t w)(G:iC n o=true)(C:ops[i]?=some o)(M:b0 o (yielded ops t)=true):
 jK P n N fr k cs ops ah aa w β s.heap (lone (bu fr t ds (.inRegion ops (i::r)::k)) cs w) r ds K:=by
 have E:=nA m f;obtain⟨y,u,al,ak,ai,ap,ao⟩:∃y u:List a5,fe t f=.func (.func g) y.toArray u.toArray/\br P w aa β s.heap fi y/\br P w aa β s.heap ca u/\aQ (aG s.heap) fi/\aQ (aG s.heap) ca:=by
  rcases hf with hf|⟨a,b,hf,rfl,rfl⟩
  ·rw[hf]at E;simp only[au,aC]at E;obtain⟨⟨y,u,l,j,z⟩,ac,ad⟩:=E;exact⟨y,u,z,l,j,ac,ad⟩
  ·rw[hf]at E;simp only[au,aA]at E;obtain⟨⟨y,u,l,j,z⟩,_⟩:=E;exact⟨y,u,z,jb.2 l,jb.2 j,iI _ _,iI _ _⟩
 obtain⟨af,ag⟩:=uh m F.toList;have D:=n8 (n8 ak af) ai;have Q:=ji (ji ap ag) ao;have q:(be (fe t) o).run P w=(callFunc g (y++F.toList.map (fe t)++u).toArray).run P w:=by
  simp only[be,W,resolve,al,Deferred.ofValue,Sem.run_bind,Sem.run_pure,Result.andThen_ok,invoke];congr 2;simp
 have L:∀c,o.op≠.defer c:=fun c hc=>by rw[W]at hc;cases hc
 have pure:∀(H1:Heap)(B:Nat->Prop)(vs:List PV)(v:PV),bO P ah aa w β s.heap B w β H1->bp P w B vs (y++F.toList.map (fe t)++u)->az P g vs v->
  K ⟨put o.dst (.p v) s.env,H1⟩->jK P n N fr k cs ops ah aa w β s.heap (lone (bu fr t ds (.inRegion ops (i::r)::k)) cs w) r ds K:=by
  intro H1 B vs v A Y I U;rcases I with⟨R,I⟩|I
  ·rw[R]at q;obtain⟨e,w',S,⟨O,aD,H,g1,g2,g3,g4,g5,ab,g6⟩,aF,V,J⟩:=I w B _ A.rel.bM A.rel.gU Y (bu fr t ds (.inRegion ops (i::r)::k)::cs);subst H;have X:=A.trans (A.rel.later g1 g2 g3 g4 g5 ab);refine⟨_,aD,β,_,w',U,?_,m.put G X (by simpa[au]using g6) (by simp[aC]),X.eM⟩;rw[<-mS C];exact(b3 (tY C M L q)).trans (b2 aF (.one (bi J)))
  ·obtain⟨O,l,j⟩:=I w B _ Y;rw[l]at q;exact⟨_,B,β,_,w,U,.one (rI C M L q (.inl rfl)),m.put G A (by simpa[au]using j) (by simp[aC]),A.eM⟩
 rcases h with⟨vs,v,l,j,z⟩|⟨_,⟨vs,H1,v,l,j,z⟩|⟨H',v,⟨R,l⟩,j⟩|⟨e,T,an,j⟩|⟨aj,v,ae,am,j⟩⟩
 ·exact pure s.heap aa vs v (bO.refl m.heap) (by rw[l]at D;exact jb.1 D) j z
 ·obtain⟨B,aq,ar⟩:=AD l m.heap D Q;exact pure H1 B vs v aq ar j z
 ·rw[R]at q;obtain⟨e,w',S,⟨O,aH,aD,H,g1,g2,g3⟩,aF,V,J⟩:=l w aa ah β _ m.heap D Q (bu fr t ds (.inRegion ops (i::r)::k)::cs);subst H;refine⟨_,aD,aH,_,w',j,?_,m.put G g1 g2 g3,g1.eM⟩;rw[<-mS C];exact(b3 (tY C M L q)).trans (b2 aF (.one (bi J)))
 ·rw[T.1]at q;obtain⟨x,w',S,⟨O,aH,aD,H,g1,g2,g3⟩,aF,V,J⟩:=T.use an m.heap D Q (bu fr t ds (.inRegion ops (i::r)::k)::cs);subst H;refine⟨_,aD,aH,_,w',j,?_,m.put G g1 g2 g3,g1.eM⟩;rw[<-mS C];exact(b3 (tY C M L q)).trans (b2 aF (.one (bi J)))
 ·obtain⟨O,l,z⟩:=ae s.heap w aa ah β _ m.heap D Q am;rw[l]at q;have A:=bO.refl m.heap;exact⟨_,aa,β,_,w,j,.one (rI C M L q (.inl rfl)),m.put G A (by simpa[au]using z) (by simp[aC]),A.eM⟩
end
end Go.aw
