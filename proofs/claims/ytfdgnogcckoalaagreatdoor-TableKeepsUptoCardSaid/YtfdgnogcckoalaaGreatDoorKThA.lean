import Derived.Test.YtfdgnogcckoalaaGreatDoorKZ
import Derived.Calls
import Derived.Laws.Sem
import Derived.IntWalk
import Derived.Laws.Cells
import Derived.Laws.CopyRow
import Derived.Laws.Entries
import Derived.RangeFuncRecord
import Derived.RangeFuncNested
/- Parts of a proof. -/
set_option linter.unusedSimpArgs false
set_option linter.unusedVariables false
set_option linter.unusedSectionVars false
open Array renaming getElem?_eq_some_iff->bo, replicate->br, getD_eq_getD_getElem?->bv, getElem?_toList->b0, range->b1, mem_toList_iff->b2, getElem?_setIfInBounds_ne->b3, mapM_eq_mapM_toList->b4, mem_of_getElem?->b5, getElem_toList->cb, getElem?_push->cc, foldl_toList->ce, toList_map->cr, toList->cv, getD->cx, ext'->cy
open BitVec renaming ofInt->c6
open Bool renaming false_eq_true->c7, and_eq_true->c8
open Go renaming Value->c9, Program->da, TypeId->db, World->dg, run_underlying->dk, Operand->dl, step_lone_go->dp, execOp->dq, FuncId->dz, Deferred->ea, Frame->eb, step_leave_returned->ec, TypeInfo->ed, Steps->ee, ResultVar->ei, Machine->ej, IntKind->en, run_newObj->eo, setRow_other->eq, MapEntry->ew, Calls->e6, setRow_size->e7, setRow_heap->e8, BinOp->e9
open Go.Builtin renaming len_->fb
open Go.Deferred renaming ofValue->fl
open Go.Frame renaming round->fm, enter->fv
open Go.Instr renaming sureAddr->gb, indexAt->gc, yield->ge, fill->gg, build->gi
open Go.Op renaming operands->gj, unary->gl, intArith->gm, intBits->gp
open Go.Program renaming cellsOf->gt, underlying->gx, underlyingId->gy
open Go.Region renaming wanted->gA, schedule->gN, binds->gP
open Go.Result renaming andThen_ok->g0
open Go.Sem renaming run_bind->g7, run_pure->g8, run->g9, run_map->ha
open Go.Steps renaming one->hb, trans->hd, refl->hg
open Go.Value renaming oneCell'->hj, cells->hm
open Go.World renaming putObj_heap_other->hn, size_alloc->ho, cell?->hp
open Go.stepG renaming exec->hr, apply->ht, oper->hv
open Iff renaming rfl->hw
open List renaming getElem?_eq_some_iff->hz, replicate->hA, getElem?_set_self->hB, getElem?_set_ne->hC, sum_replicate_nat->hD, getElem?_eq_getElem->hE, take_replicate->hF, getElem?_replicate->hG, append_assoc->hH, mem_of_getElem?->hJ, mem_or_eq_of_mem_set->hK, getElem?_append_left->hL, length_eq_zero_iff->hM, map_cons->hN, replicate_succ->hO, getElem?_append_right->hP, flatten_cons->hQ, eq_of_mem_replicate->hR, length_cons->hS, mem_append->hT, length_append->hU, cons_append->hV, range'->hW, length->hX, getElem_append_right->hZ, getElem_append_left->h0, getElem?_cons_succ->h1, take_append_drop->h2, set_append_right->h3, set_cons_zero->h4, getElem?_map->h5, getElem_mem->h6, all_eq_true->h7, length_set->h8, append_nil->h9, mapM_cons->ih, drop_drop->ii, mem_map->ik, range->ip
open Nat renaming le_refl->ix, min_eq_left->iz, lt_irrefl->i0, add_sub_cancel_left->i1, le_trans->i2, add_zero->i3, lt_of_lt_of_le->i4, add_assoc->i5, succ_mul->i6, ne_of_lt->i7
open Ne renaming symm->i8
open Option renaming bind_some->i9, isSome_iff_exists->jp
open Option.some renaming injEq->js, inj->j1
open Prod renaming snd->j2, fst->j3
namespace Go.an
set_option linter.unusedSectionVars false
inductive PV where
 |undef
 |bool (b:Bool)
 |int (k:en) (n:Int)
 |str (s:List Nat)
 |dX
 |cG (t:PV)
 |aH
 |bF (full:Bool) (es:List PV)
 |seq (es:List PV)
 |fM
 |fu (es:List (PV×PV))
 |func (f:dz) (first ja:List PV)
 |jb
 |gK
 |st (u:db) (fs:List PV)
 |aD (vs:List PV)
 deriving Inhabited
inductive AV where
 |p (v:PV)
 |ptr (b:Nat) (path:List (db×Nat))
 |ct (b ar ak i:Nat) (path:List (db×Nat))
 |sl (b ar ak off len:Nat)
 |map (b:Nat)
 |func (f:dz) (first ja:List AV)
 |st (u:db) (fs:List AV)
 |aD (vs:List AV)
 deriving Inhabited
inductive AK where|exact|grow|frozen|bytes
 deriving DecidableEq
def AK.gr:AK->Bool
 | .grow| .bytes=>true
 |_=>false
structure ey where
 st:LoopState
 pending:Option Code
 n:Nat
 params:List Tmp
 assign:Code
 body:Code
 env:List (Nat×AV)
inductive Obj where
 |hole
 |dead
 |box (fz:Bool) (t:AV)
 |arr (k:AK) (ar ak:Nat) (es:List AV)
 |map (fz:Bool) (es:List (PV×PV))
 |dK (ks:List PV) (vs:List AV)
 |dO (s:List Nat) (pos:Nat)
 |loop (L:ey)
 deriving Inhabited
abbrev Heap:=List Obj
abbrev Env:=List (Nat×AV)
structure St where
 env:Env
 heap:Heap
def aS(e:Env)(t:Nat):AV:=
 match e with
 |[]=>.p .undef
 |(k,v)::r=>if t=k then v else aS r t
inductive jW where|bad|leaf|agg (u:db)
 deriving DecidableEq
def aP:PV->jW
 | .undef| .aD _=>.bad
 | .st u _=>.agg u
 |_=>.leaf
def aa:AV->jW
 | .p v=>aP v
 | .aD _=>.bad
 | .st u _=>.agg u
 |_=>.leaf
def cS:PV->List PV
 | .st _ fs=>fs
 |_=>[]
section tables
variable(P:da)
def dY(u:db):Option (List Nat):=
 match(P.info? u).map (fun i:ed=>i.desc)with
 |some (.struct fs)=>
  let l:=fs.toList.map fun f=>P.cellsOf f.type
  if l.all (0<·)&&l.sum==P.cellsOf u&&(fs.toList.zipIdx.all fun(f,i)=>f.offset==(l.take i).sum)then some l else none
 |some (.array n e)=>if 0<P.cellsOf e&&n*P.cellsOf e==P.cellsOf u then some (hA n (P.cellsOf e))else none
 |_=>none
def kindOf(T:db):jW:=
 match P.underlying T with
 |some (.struct _)|some (.array _ _)=>
  if(dY P (P.underlyingId T)).isSome&&P.cellsOf T==P.cellsOf (P.underlyingId T)then .agg (P.underlyingId T)else .bad
 |some _=>if P.cellsOf T==1 then .leaf else .bad
 |none=>.bad
def bO:jW->Nat
 | .bad=>0
 | .leaf=>1
 | .agg u=>P.cellsOf u
def j0(u:db):List db:=
 match(P.info? u).map (fun i:ed=>i.desc)with
 |some (.struct fs)=>fs.toList.map (·.type)
 |some (.array n e)=>hA n e
 |_=>[]
end tables
def ofConst:c9->PV
 | .bool b=>.bool b
 | .int k n=>.int k n
 | .string s=>.str (s.data.toList.map (·.toNat))
 | .pointer none=>.dX
 | .slice none 0 0=>.aH
 | .map none=>.fM
 | .nilFunc=>.jb
 | .nilIface=>.gK
 |_=>.undef
def qB(P:da)(a:db->List c9->Option PV):List db->List Nat->List c9->Option (List PV)
 |[],[],[]=>some []
 |T::b,s::c,cs=>
  if(cs.take s).length=s then
   match a T (cs.take s),qB P a b c (cs.drop s)with
   |some v,some vs=>if bO P (aP v)=s then some (v::vs)else none
   |_,_=>none
  else none
 |_,_,_=>none
def vm(P:da):Nat->db->List c9->Option PV
 |0,_,_=>none
 |n+1,T,cs=>
  match kindOf P T with
  | .leaf=>match cs with
   |[c]=>match ofConst c with
    | .undef=>none
    |v=>some v
   |_=>none
  | .agg u=>match dY P u with
   |some l=>
    match qB P (vm P n) (j0 P u) l cs with
    |some fs=>some (.st u fs)
    |none=>none
   |none=>none
  | .bad=>none
def BT:c9->jW->Bool
 | .agg _,.agg _=>true
 | .agg _,_=>false
 |_,.agg _=>false
 |_,_=>true
def cO(P:da)(T:db):Option PV:=
 match(P.info? T).bind (·.zero)with
 |some z=>if BT z (kindOf P T)then vm P 40 T z.cells.toList else none
 |none=>none
section relation
variable(P:da)(w:dg)(ad:Nat->Prop)
def iE(aq off:Nat)(cs:List c9):Prop:=∀i(h:i<cs.length),w.cell? ⟨aq,off+i,none⟩=some cs[i]
mutual
def aY:PV->List c9->Prop
 | .undef,_| .aD _,_=>False
 | .bool b,cs=>cs=[.bool b]
 | .int k n,cs=>cs=[.int k n]
 | .str s,cs=>∃bs:ByteArray,cs=[.string bs]/\s=bs.data.toList.map (·.toNat)
 | .dX,cs=>cs=[.pointer none]
 | .cG t,cs=>∃aq off ts,aY t ts/\ad aq/\iE w aq off ts/\cs=[.pointer (some ⟨aq,off,none⟩)]
 | .aH,cs=>cs=[.slice none 0 0]
 | .bF full es,cs=>∃aq off cap ak a,bm (hA es.length ak) es a/\(es≠[]->ad aq)/\iE w aq off a.flatten/\
  (full=true->cap=es.length)/\es.length<=cap/\∃sp,(sp=none\/cap=0)/\cs=[.slice (some ⟨aq,off,sp⟩) es.length cap]
 | .seq es,cs=>(es=[]/\cs=[.slice none 0 0])\/∃aq off cap ak a,bm (hA es.length ak) es a/\(es≠[]->ad aq)/\iE w aq off a.flatten/\
  es.length<=cap/\∃sp,(sp=none\/cap=0)/\cs=[.slice (some ⟨aq,off,sp⟩) es.length cap]
 | .fM,cs=>cs=[.map none]
 | .fu es,cs=>∃r h j,ad r/\w.heap[r]?=some (.map h j)/\cR es h.toList/\cs=[.map (some r)]
 | .func f first ja,cs=>∃i g,bu first i/\bu ja g/\cs=[.func (.func f) i.toArray g.toArray]
 | .jb,cs=>cs=[.nilFunc]
 | .gK,cs=>cs=[.nilIface]
 | .st u fs,cs=>∃l a,dY P u=some l/\bm l fs a/\cs=a.flatten
def bm:List Nat->List PV->List (List c9)->Prop
 |[],[],a=>a=[]
 |n::p,v::vs,a=>∃c cs,a=c::cs/\aY v c/\c.length=n/\bm p vs cs
 |_,_,_=>False
def aC:PV->c9->Prop
 | .undef,_=>True
 | .aD vs,v=>∃d,bu vs d/\v=.tuple d.toArray
 | .st u fs,v=>∃l a,dY P u=some l/\bm l fs a/\v=.agg a.flatten.toArray
 | .bool b,v=>v=.bool b
 | .int k n,v=>v=.int k n
 | .str s,v=>∃bs:ByteArray,v=.string bs/\s=bs.data.toList.map (·.toNat)
 | .dX,v=>v=.pointer none
 | .cG t,v=>∃aq off ts,aY t ts/\ad aq/\iE w aq off ts/\v=.pointer (some ⟨aq,off,none⟩)
 | .aH,v=>v=.slice none 0 0
 | .bF full es,v=>∃aq off cap ak a,bm (hA es.length ak) es a/\(es≠[]->ad aq)/\iE w aq off a.flatten/\
  (full=true->cap=es.length)/\es.length<=cap/\∃sp,(sp=none\/cap=0)/\v=.slice (some ⟨aq,off,sp⟩) es.length cap
 | .seq es,v=>(es=[]/\v= .slice none 0 0)\/∃aq off cap ak a,bm (hA es.length ak) es a/\(es≠[]->ad aq)/\iE w aq off a.flatten/\
  es.length<=cap/\∃sp,(sp=none\/cap=0)/\v=.slice (some ⟨aq,off,sp⟩) es.length cap
 | .fM,v=>v=.map none
 | .fu es,v=>∃r h j,ad r/\w.heap[r]?=some (.map h j)/\cR es h.toList/\v=.map (some r)
 | .func f first ja,v=>∃i g,bu first i/\bu ja g/\v=.func (.func f) i.toArray g.toArray
 | .jb,v=>v=.nilFunc
 | .gK,v=>v=.nilIface
def bu:List PV->List c9->Prop
 |[],d=>d=[]
 |v::vs,d=>∃y o,d=y::o/\aC v y/\bu vs o
def cR:List (PV×PV)->List ew->Prop
 |[],es=>es=[]
 |(k,v)::r,es=>∃e m,es=e::m/\aC k e.key/\aC v e.val/\cR r m
end
end relation
class Gl where
 g:Nat->PV
 u8:db
 raw:Nat->Option (Array c9)
 bx:db->Option db
 Cm:Nat->Bool
def jT[Gl](T:db)(s:jW):Bool:=match s with
 | .agg u=>match Gl.bx u with
  |some a=>Nat.beq T a
  |none=>true
 |_=>true
structure nT[Gl](P:da)(w:dg)(ad:Nat->Prop):Prop where
 val:∀g,aC P w ad (Gl.g g) (.pointer (some ⟨g,0,none⟩))
 raw:∀g cs,Gl.raw g=some cs->ad g/\∃T,w.heap[g]?=some (.cells cs T (0,0))
 Cm:∀g,Gl.Cm g=true->ad g/\∃te pe T,w.heap[g]?=some (.cells #[.iface te pe] T (0,0))
end Go.an
namespace Go.an
variable[Gl]
structure Bd where
 aq:Nat->Nat
 cap:Nat->Nat
def gT(P:da):List (db×Nat)->Option Nat
 |[]=>some 0
 |(u,i)::r=>
  match dY P u,gT P r with
  |some l,some o=>if i<l.length then some ((l.take i).sum+o)else none
  |_,_=>none
def Obj.wT:Obj->Prop
 | .map _ _| .dK _ _=>True
 |_=>False
section
variable(P:da)(w:dg)(ad:Nat->Prop)(β:Bd)(H:Heap)
def nR(b:Nat):Prop:=∃fz t,H[b]?=some (.box fz t)
def fp(b ar ak:Nat)(k:AK)(a:List AV):Prop:=H[b]?=some (.arr k ar ak a)
def dA(k:AK)(a:List AV):Prop:=k.gr=true/\a=[]
def pz(b:Nat):Prop:=∃o,H[b]?=some o/\o.wT
def nS(b:Nat):Prop:=(∃s pos,H[b]?=some (.dO s pos))
def iF(b:Nat):Prop:=(∃L,H[b]?=some (.loop L))
def b7:AV->c9->Prop
 | .ptr b path,v=>∃aq off o,v=.pointer (some ⟨aq,off,none⟩)/\gT P path=some o/\(nR H b\/nS H b->aq=β.aq b/\off=o)
 | .ct b ar ak i path,v=>∃aq off o,v=.pointer (some ⟨aq,off,none⟩)/\gT P path=some o/\∀k a,fp H b ar ak k a->¬dA k a->aq=β.aq b/\off=i*ak+o
 | .sl b ar ak off len,v=>∀k a,fp H b ar ak k a->
  off+len<=a.length/\(dA k a->v=.slice none 0 0)/\(¬dA k a->v=.slice (some ⟨β.aq b,off*ak,none⟩) len (β.cap b-off))
 | .map b,v=>(pz H b->v=.map (some (β.aq b)))/\(iF H b->v=.func (.yield (β.aq b)) #[] #[])
 |_,_=>False
def bY(v:AV)(x:c9):Prop:=x.oneCell'=true/\b7 P β H v x
mutual
def bw:AV->List c9->Prop
 | .p t,cs=>aY P w ad t cs
 | .st u fs,cs=>∃l a,dY P u=some l/\bX l fs a/\cs=a.flatten
 | .func f first ja,cs=>∃e d,bC first e/\bC ja d/\cs=[.func (.func f) e.toArray d.toArray]
 | .aD _,_=>False
 | .ptr b path,cs=>∃v,cs=[v]/\bY P β H (.ptr b path) v
 | .ct b ar ak i path,cs=>∃v,cs=[v]/\bY P β H (.ct b ar ak i path) v
 | .sl b ar ak off len,cs=>∃v,cs=[v]/\bY P β H (.sl b ar ak off len) v
 | .map b,cs=>∃v,cs=[v]/\bY P β H (.map b) v
def bX:List Nat->List AV->List (List c9)->Prop
 |[],[],a=>a=[]
 |n::h,v::vs,a=>∃c cs,a=c::cs/\bw v c/\c.length=n/\bX h vs cs
 |_,_,_=>False
def aA:AV->c9->Prop
 | .p t,v=>aC P w ad t v
 | .st u fs,v=>∃l a,dY P u=some l/\bX l fs a/\v=.agg a.flatten.toArray
 | .func f first ja,v=>∃e d,bC first e/\bC ja d/\v=.func (.func f) e.toArray d.toArray
 | .aD vs,v=>∃xs,bC vs xs/\v=.tuple xs.toArray
 | .ptr b path,v=>bY P β H (.ptr b path) v
 | .ct b ar ak i path,v=>bY P β H (.ct b ar ak i path) v
 | .sl b ar ak off len,v=>bY P β H (.sl b ar ak off len) v
 | .map b,v=>bY P β H (.map b) v
def bC:List AV->List c9->Prop
 |[],xs=>xs=[]
 |v::vs,xs=>∃y g,xs=y::g/\aA v y/\bC vs g
end
mutual
def aE(n:Nat×Nat->Prop):AV->Prop
 | .p _=>True
 | .ptr b _| .map b=>n (b,0)
 | .ct b ar _ _ _| .sl b ar _ _ _=>n (b,ar)
 | .func _ first ja=>aV n first/\aV n ja
 | .st _ fs=>aV n fs
 | .aD vs=>aV n vs
def aV(n:Nat×Nat->Prop):List AV->Prop
 |[]=>True
 |v::vs=>aE n v/\aV n vs
end
def Obj.has:Obj->Nat->Prop
 | .hole,_=>False
 | .arr _ ar _ _,v=>v<=ar
 |_,_=>True
def aL(H:Heap)(x:Nat×Nat):Prop:=∃o,H[x.1]?=some o/\o.has x.2
def AV.tQ:AV->Prop
 | .p _=>True
 |_=>False
def Obj.refs(n:Nat×Nat->Prop):Obj->Prop
 | .box _ t=>aE n t
 | .arr _ _ _ es=>aV n es
 | .dK _ vs=>aV n vs
 | .loop L=>∀x,aE n (aS L.env x)
 |_=>True
def Obj.live:Obj->Prop
 | .hole| .dead=>False
 | .arr k _ _ es=>¬dA k es
 |_=>True
variable(ai:Nat->Prop)
def cQ(fz:Bool)(b:Nat):Prop:=if fz then ad (β.aq b)else¬ad (β.aq b)/\¬ai (β.aq b)
def fH(b:Nat):Obj->Prop
 | .hole| .dead=>True
 | .box fz t=>∃cs T,w.heap[β.aq b]?=some (.cells cs T (0,0))/\bw P w ad β H t cs.toList/\cQ ad β ai fz b/\(fz=true->t.tQ)/\jT T (aa t)=true
 | .arr k _ver ak es=>dA k es\/
  ∃cs T d f,w.heap[β.aq b]?=some (.cells cs T (0,0))/\bX P w ad β H (hA es.length ak) es d/\cs.toList=d.flatten++f/\
   cs.size=β.cap b*ak/\es.length<=β.cap b/\(k=.exact->β.cap b=es.length)/\cQ ad β ai (k== .frozen) b/\(k=.frozen->∀e∈es,e.tQ)/\(k=.bytes->T=Gl.u8)
 | .map fz es=>∃a c,w.heap[β.aq b]?=some (.map a c)/\cR P w ad es a.toList/\cQ ad β ai fz b
 | .dK ks vs=>∃a c,w.heap[β.aq b]?=some (.map a c)/\bu P w ad ks (a.toList.map (·.key))/\bC P w ad β H vs (a.toList.map (·.val))/\cQ ad β ai false b
 | .dO s pos=>∃bs:ByteArray,w.heap[β.aq b]?=some (.stringIter bs pos)/\s=bs.data.toList.map (·.toNat)/\cQ ad β ai false b
 | .loop L=>∃tmps defers fn,w.heap[β.aq b]?=some (.loop {state:=L.st,pending:=L.pending,fn,tmps,params:=L.params.toArray,assign:=L.assign,body:=L.body,defers})/\tmps.size=L.n/\
  (∀x,aA P w ad β H (aS L.env x) (tmps.getD x undef))/\cQ ad β ai false b
structure cm:Prop where
 cX:∀b o,H[b]?=some o->fH P w ad β H ai b o
 inj:∀b b' o o',H[b]?=some o->H[b']?=some o'->o.live->o'.live->¬ad (β.aq b)->β.aq b=β.aq b'->b=b'
 refs:∀(b:Nat)(o:Obj),H[b]?=some o->o.refs (aL H)
 cd:∀k,ad k->k<w.heap.size
 fe:∀k,ai k->k<w.heap.size
 jG:nT P w ad
end
structure Ext(ai ad:Nat->Prop)(w w':dg):Prop where
 size:w.heap.size<=w'.heap.size
 same:∀k,ai k\/ad k->w'.heap[k]?=w.heap[k]?
 io:w'.os=w.os/\w'.output=w.output
structure cM(β:Bd)(H:Heap)(aO:Bd)(H':Heap):Prop where
 box:∀b,aL H (b,0)->nR H' b->nR H b/\aO.aq b=β.aq b
 it:∀b,aL H (b,0)->nS H' b->nS H b/\aO.aq b=β.aq b
 map:∀b,aL H (b,0)->pz H' b->pz H b/\aO.aq b=β.aq b
 arr:∀b ar ak k es,aL H (b,ar)->fp H' b ar ak k es->∃k0 iA,fp H b ar ak k0 iA/\iA.length<=es.length/\(dA k es↔dA k0 iA)/\(¬dA k es->aO.aq b=β.aq b/\aO.cap b=β.cap b)
 loop:∀b,aL H (b,0)->iF H' b->iF H b/\aO.aq b=β.aq b
theorem cM.refl(β:Bd)(H:Heap):cM β H β H:=
 ⟨fun _ _ h=>⟨h,rfl⟩,fun _ _ h=>⟨h,rfl⟩,fun _ _ h=>⟨h,rfl⟩,fun _ _ _ k a _ h=>⟨k,a,h,ix _,hw,fun _=>⟨rfl,rfl⟩⟩,fun _ _ h=>⟨h,rfl⟩⟩
theorem Ext.refl(ai ad:Nat->Prop)(w:dg):Ext ai ad w w:=⟨ix _,fun _ _=>rfl,rfl,rfl⟩
section mono
variable{P:da}{w w':dg}{ad aF:Nat->Prop}
theorem aub{aq off:Nat}(h:w'.heap[aq]?=w.heap[aq]?):w'.cell? ⟨aq,off,none⟩=w.cell? ⟨aq,off,none⟩:=by
 simp[hp,h]
theorem iE.same{aq off:Nat}{cs:List c9}(h:w'.heap[aq]?=w.heap[aq]?)(hc:iE w aq off cs):iE w' aq off cs:=
 fun i hi=>(aub h).trans (hc i hi)
theorem xf{n:List Nat}{a:List (List c9)}(h:bm P w ad n [] a):a=[]:=by
 cases n<;>simp[bm]at h;exact h
theorem Vg{a:List PV}{v:c9}:aC P w ad (.seq a) v↔(a=[]/\aC P w ad .aH v)\/aC P w ad (.bF false a) v:=by
 simp[aC]
variable(hI:∀k,ad k->aF k)(hs:∀k,ad k->w'.heap[k]?=w.heap[k]?)
include hI hs
mutual
theorem aY.mono:∀(v:PV)(cs:List c9),aY P w ad v cs->aY P w' aF v cs
 | .undef,_,h| .aD _,_,h=>by simp[aY]at h
 | .bool _,_,h| .int _ _,_,h| .str _,_,h| .dX,_,h| .aH,_,h| .fM,_,h| .jb,_,h| .gK,_,h=>by simpa[aY]using h
 | .cG t,cs,h=>by
  simp only[aY]at h⊢;obtain⟨aq,off,ts,a,b,d,j⟩:=h;exact⟨aq,off,ts,aY.mono t ts a,hI _ b,d.same (hs _ b),j⟩
 | .bF full o,cs,h=>by
  simp only[aY]at h⊢;obtain⟨aq,off,cap,ak,g,a,b,d,j⟩:=h;refine⟨aq,off,cap,ak,g,bm.mono _ o g a,fun m=>hI _ (b m),?_,j⟩
  by_cases m:o=[]
  ·subst m;have:=xf a;subst this;intro i hi;simp at hi
  ·exact d.same (hs _ (b m))
 | .seq o,cs,h=>by
  simp only[aY]at h⊢;rcases h with h|⟨aq,off,cap,ak,g,a,b,d,j⟩
  ·exact .inl h
  refine .inr ⟨aq,off,cap,ak,g,bm.mono _ o g a,fun m=>hI _ (b m),?_,j⟩
  by_cases m:o=[]
  ·subst m;have:=xf a;subst this;intro i hi;simp at hi
  ·exact d.same (hs _ (b m))
 | .fu o,cs,h=>by
  simp only[aY]at h⊢;obtain⟨r,p,clock,a,b,d,j⟩:=h;exact⟨r,p,clock,hI _ a,(hs _ a).trans b,cR.mono o _ d,j⟩
 | .func f first ja,cs,h=>by
  simp only[aY]at h⊢;obtain⟨z,s,a,b,d⟩:=h;exact⟨z,s,bu.mono first z a,bu.mono ja s b,d⟩
 | .st u fs,cs,h=>by
  simp only[aY]at h⊢;obtain⟨l,g,a,b,d⟩:=h;exact⟨l,g,a,bm.mono l fs g b,d⟩
theorem bm.mono:∀(l:List Nat)(vs:List PV)(g:List (List c9)),bm P w ad l vs g->bm P w' aF l vs g
 |[],[],_,h=>by simpa[bm]using h
 |[],_::_,_,h=>by simp[bm]at h
 |_::_,[],_,h=>by simp[bm]at h
 |n::B,v::vs,g,h=>by
  simp only[bm]at h⊢;obtain⟨c,cs,a,b,d,j⟩:=h;exact⟨c,cs,a,aY.mono v c b,d,bm.mono B vs cs j⟩
theorem aC.mono:∀(v:PV)(x:c9),aC P w ad v x->aC P w' aF v x
 | .undef,_,h=>by simp[aC]
 | .aD vs,x,h=>by
  simp only[aC]at h⊢;obtain⟨q,a,b⟩:=h;exact⟨q,bu.mono vs q a,b⟩
 | .bool _,_,h| .int _ _,_,h| .str _,_,h| .dX,_,h| .aH,_,h| .fM,_,h| .jb,_,h| .gK,_,h=>by simpa[aC]using h
 | .cG t,cs,h=>by
  simp only[aC]at h⊢;obtain⟨aq,off,ts,a,b,d,j⟩:=h;exact⟨aq,off,ts,aY.mono t ts a,hI _ b,d.same (hs _ b),j⟩
 | .bF full o,cs,h=>by
  simp only[aC]at h⊢;obtain⟨aq,off,cap,ak,g,a,b,d,j⟩:=h;refine⟨aq,off,cap,ak,g,bm.mono _ o g a,fun m=>hI _ (b m),?_,j⟩
  by_cases m:o=[]
  ·subst m;have:=xf a;subst this;intro i hi;simp at hi
  ·exact d.same (hs _ (b m))
 | .seq o,cs,h=>by
  simp only[aC]at h⊢;rcases h with h|⟨aq,off,cap,ak,g,a,b,d,j⟩
  ·exact .inl h
  refine .inr ⟨aq,off,cap,ak,g,bm.mono _ o g a,fun m=>hI _ (b m),?_,j⟩
  by_cases m:o=[]
  ·subst m;have:=xf a;subst this;intro i hi;simp at hi
  ·exact d.same (hs _ (b m))
 | .fu o,cs,h=>by
  simp only[aC]at h⊢;obtain⟨r,p,clock,a,b,d,j⟩:=h;exact⟨r,p,clock,hI _ a,(hs _ a).trans b,cR.mono o _ d,j⟩
 | .func f first ja,cs,h=>by
  simp only[aC]at h⊢;obtain⟨z,s,a,b,d⟩:=h;exact⟨z,s,bu.mono first z a,bu.mono ja s b,d⟩
 | .st u fs,cs,h=>by
  simp only[aC]at h⊢;obtain⟨l,g,a,b,d⟩:=h;exact⟨l,g,a,bm.mono l fs g b,d⟩
theorem bu.mono:∀(vs:List PV)(q:List c9),bu P w ad vs q->bu P w' aF vs q
 |[],_,h=>by simpa[bu]using h
 |v::vs,q,h=>by
  simp only[bu]at h⊢;obtain⟨y,A,a,b,d⟩:=h;exact⟨y,A,a,aC.mono v y b,bu.mono vs A d⟩
theorem cR.mono:∀(o:List (PV×PV))(p:List ew),cR P w ad o p->cR P w' aF o p
 |[],_,h=>by simpa[cR]using h
 |(k,v)::r,p,h=>by
  simp only[cR]at h⊢;obtain⟨e,rest,a,b,d,j⟩:=h;exact⟨e,rest,a,aC.mono k _ b,aC.mono v _ d,cR.mono r rest j⟩
end
theorem nT.mono(h:nT P w ad):nT P w' aF:=⟨fun g=>aC.mono hI hs _ _ (h.val g),fun g cs c=>by
 obtain⟨a,T,b⟩:=h.raw g cs c;exact⟨hI _ a,T,(hs _ a).trans b⟩,fun g c=>by
 obtain⟨a,te,pe,T,b⟩:=h.Cm g c;exact⟨hI _ a,te,pe,T,(hs _ a).trans b⟩⟩
variable{β aO:Bd}{H H':Heap}(aN:cM β H aO H')
include aN
omit hI hs in
theorem b7.mono:∀(v:AV)(x:c9),aE (aL H) v->b7 P β H v x->b7 P aO H' v x
 | .ptr b path,x,c,h=>by
  simp only[b7,aE]at*;obtain⟨aq,off,o,a,e,f⟩:=h;refine⟨aq,off,o,a,e,fun hl=>?_⟩;rcases hl with hl|hl
  ·obtain⟨k1,k2⟩:=aN.box b c hl;rw[k2];exact f (.inl k1)
  ·obtain⟨k1,k2⟩:=aN.it b c hl;rw[k2];exact f (.inr k1)
 | .ct b ar ak i path,x,c,h=>by
  simp only[b7,aE]at*;obtain⟨aq,off,o,g1,g2,g3⟩:=h;refine⟨aq,off,o,g1,g2,fun k j hl d=>?_⟩;obtain⟨k0,iA,a,e,f,g⟩:=aN.arr b ar ak k j c hl;rw[(g d).1];exact g3 k0 iA a (fun hh=>d (f.2 hh))
 | .sl b ar ak off len,x,c,h=>by
  simp only[b7,aE]at*;intro k j hl;obtain⟨k0,iA,a,e,f,g⟩:=aN.arr b ar ak k j c hl;obtain⟨n,l,m⟩:=h k0 iA a;refine⟨o_,fun d=>l (f.1 d),fun d=>?_⟩;rw[(g d).1,(g d).2];exact m (fun hh=>d (f.2 hh))
 | .map b,x,c,h=>by
  simp only[b7,aE]at*;refine⟨fun hl=>?_,fun hl=>?_⟩
  ·obtain⟨a,e⟩:=aN.map b c hl;rw[e];exact h.1 a
  ·obtain⟨a,e⟩:=aN.loop b c hl;rw[e];exact h.2 a
 | .p _,_,_,h| .st _ _,_,_,h| .func _ _ _,_,_,h| .aD _,_,_,h=>by simp[b7]at h
omit hI hs in
theorem bY.mono(v:AV)(x:c9)(a:aE (aL H) v)(h:bY P β H v x):bY P aO H' v x:=⟨h.1,b7.mono aN v x a h.2⟩
mutual
theorem bw.mono:∀(v:AV)(cs:List c9),aE (aL H) v->bw P w ad β H v cs->bw P w' aF aO H' v cs
 | .p t,cs,_,h=>by simp only[bw]at h⊢;exact aY.mono hI hs t cs h
 | .st u fs,cs,a,h=>by
  simp only[bw,aE]at*;obtain⟨l,j,d,e,g⟩:=h;exact⟨l,j,d,bX.mono l fs j a e,g⟩
 | .func f first ja,cs,a,h=>by
  simp only[bw,aE]at*;obtain⟨m,k,d,e,g⟩:=h;exact⟨m,k,bC.mono first m a.1 d,bC.mono ja k a.2 e,g⟩
 | .aD _,_,_,h=>by simp[bw]at h
 | .ptr b path,cs,a,h=>by
  simp only[bw]at*;obtain⟨v,d,e⟩:=h;exact⟨v,d,bY.mono aN _ _ a e⟩
 | .ct b ar ak i path,cs,a,h=>by
  simp only[bw]at*;obtain⟨v,d,e⟩:=h;exact⟨v,d,bY.mono aN _ _ a e⟩
 | .sl b ar ak off len,cs,a,h=>by
  simp only[bw]at*;obtain⟨v,d,e⟩:=h;exact⟨v,d,bY.mono aN _ _ a e⟩
 | .map b,cs,a,h=>by
  simp only[bw]at*;obtain⟨v,d,e⟩:=h;exact⟨v,d,bY.mono aN _ _ a e⟩
theorem bX.mono:∀(l:List Nat)(vs:List AV)(j:List (List c9)),aV (aL H) vs->bX P w ad β H l vs j->bX P w' aF aO H' l vs j
 |[],[],_,_,h=>by simpa[bX]using h
 |[],_::_,_,_,h=>by simp[bX]at h
 |_::_,[],_,_,h=>by simp[bX]at h
 |n::r,v::vs,j,a,h=>by
  simp only[bX,aV]at*;obtain⟨c,cs,d,e,g,q⟩:=h;exact⟨c,cs,d,bw.mono v c a.1 e,g,bX.mono r vs cs a.2 q⟩
theorem aA.mono:∀(v:AV)(x:c9),aE (aL H) v->aA P w ad β H v x->aA P w' aF aO H' v x
 | .p t,cs,_,h=>by simp only[aA]at h⊢;exact aC.mono hI hs t cs h
 | .st u fs,cs,a,h=>by
  simp only[aA,aE]at*;obtain⟨l,j,d,e,g⟩:=h;exact⟨l,j,d,bX.mono l fs j a e,g⟩
 | .func f first ja,cs,a,h=>by
  simp only[aA,aE]at*;obtain⟨m,k,d,e,g⟩:=h;exact⟨m,k,bC.mono first m a.1 d,bC.mono ja k a.2 e,g⟩
 | .aD vs,cs,a,h=>by
  simp only[aA,aE]at*;obtain⟨xs,d,e⟩:=h;exact⟨xs,bC.mono vs xs a d,e⟩
 | .ptr b path,cs,a,h=>by simp only[aA]at*;exact bY.mono aN _ _ a h
 | .ct b ar ak i path,cs,a,h=>by simp only[aA]at*;exact bY.mono aN _ _ a h
 | .sl b ar ak off len,cs,a,h=>by simp only[aA]at*;exact bY.mono aN _ _ a h
 | .map b,cs,a,h=>by simp only[aA]at*;exact bY.mono aN _ _ a h
theorem bC.mono:∀(vs:List AV)(xs:List c9),aV (aL H) vs->bC P w ad β H vs xs->bC P w' aF aO H' vs xs
 |[],_,_,h=>by simpa[bC]using h
 |v::vs,xs,a,h=>by
  simp only[bC,aV]at*;obtain⟨y,o,d,e,g⟩:=h;exact⟨y,o,d,aA.mono v y a.1 e,bC.mono vs o a.2 g⟩
end
end mono
def fj:List AV->Option (List PV)
 |[]=>some []
 | .p v::r=>match fj r with
  |some l=>some (v::l)
  |none=>none
 |_::_=>none
def iR(u:db)(fs:List AV):AV:=
 match fj fs with
 |some l=>.p (.st u l)
 |none=>.st u fs
def l6:PV->List (db×Nat)->Option PV
 |t,[]=>some t
 |t,(u,i)::r=>if aP t=.agg u then(match(cS t)[i]? with
  |some f=>l6 f r
  |none=>none)else none
def fk:AV->List (db×Nat)->Option AV
 |t,[]=>some t
 | .p t,(u,i)::r=>match l6 t ((u,i)::r)with
  |some s=>some (.p s)
  |none=>none
 | .st u' fs,(u,i)::r=>if u'=u then(match fs[i]? with
  |some f=>fk f r
  |none=>none)else none
 |_,_=>none
def gD(t:AV)(b:List (db×Nat))(x:AV):Option AV:=
 match b with
 |[]=>some x
 |(u,i)::r=>
  match t with
  | .p t=>if aP t=.agg u then(match(cS t)[i]? with
   |some f=>(match gD (.p f) r x with
    |some a=>some (iR u (((cS t).map .p).set i a))
    |none=>none)
   |none=>none)else none
  | .st u' fs=>if u'=u then(match fs[i]? with
   |some f=>(match gD f r x with
    |some a=>some (iR u (fs.set i a))
    |none=>none)
   |none=>none)else none
  |_=>none
section
variable{P:da}{w:dg}{ad:Nat->Prop}{β:Bd}{H:Heap}
theorem xk:∀{l:List Nat}{vs:List PV}{a:List (List c9)},bm P w ad l vs a->a.map (·.length)=l/\vs.length=l.length/\a.length=l.length
 |[],[],_,h=>by simp[bm]at h;subst h;simp
 |[],_::_,_,h=>by simp[bm]at h
 |_::_,[],_,h=>by simp[bm]at h
 |n::f,v::vs,a,h=>by
  simp only[bm]at h;obtain⟨c,cs,rfl,e,b,d⟩:=h;have:=xk d;simp[b,this]
theorem zZ:∀{l:List Nat}{vs:List AV}{a:List (List c9)},bX P w ad β H l vs a->a.map (·.length)=l/\vs.length=l.length/\a.length=l.length
 |[],[],_,h=>by simp[bX]at h;subst h;simp
 |[],_::_,_,h=>by simp[bX]at h
 |_::_,[],_,h=>by simp[bX]at h
 |n::f,v::vs,a,h=>by
  simp only[bX]at h;obtain⟨c,cs,rfl,e,b,d⟩:=h;have:=zZ d;simp[b,this]
theorem PG{u:db}{l:List Nat}(h:dY P u=some l):l.sum=P.cellsOf u/\∀n∈l,0<n:=by
 unfold dY at h
 split at h
 ·dsimp only at h
  split at h
  ·rename_i hc;simp at hc;obtain⟨⟨b,c⟩,d⟩:=hc;simp at h;subst h;refine⟨c,?_⟩;intro n a;simp at a;obtain⟨f,hf,rfl⟩:=a;obtain⟨i,hi,rfl⟩:=Array.mem_iff_getElem.1 hf;exact b i hi
  ·simp at h
 ·split at h
  ·rename_i hc;simp at hc;simp at h;subst h;refine⟨by simp[hD,hc.2],?_⟩;intro n a;have:=hR a;omega
  ·simp at h
 ·simp at h
theorem oX:∀{v:PV}{cs:List c9},aY P w ad v cs->cs.length=bO P (aP v)/\aP v≠.bad:=by
 intro v cs h;cases v<;>simp only[aY]at h
 case st u fs=>
  obtain⟨l,c,a,b,rfl⟩:=h;have:=xk b;simp[aP,bO,this.1,(PG a).1]
 case str=>obtain⟨_,h,_⟩:=h;subst h;simp[aP,bO]
 case seq=>
  rcases h with⟨_,rfl⟩|⟨_,_,_,_,_,_,_,_,_,_,_,rfl⟩<;>simp[aP,bO]
 all_goals first
  |(subst h;simp[aP,bO])
  |(obtain⟨_,_,_,_,_,_,rfl⟩:=h;simp[aP,bO])
  |(obtain⟨_,_,_,_,_,rfl⟩:=h;simp[aP,bO])
  |(obtain⟨_,_,_,_,_,_,_,_,_,_,_,_,rfl⟩:=h;simp[aP,bO])
  |(obtain⟨_,_,_,_,_,_,_,rfl⟩:=h;simp[aP,bO])
  |(obtain⟨_,_,_,_,rfl⟩:=h;simp[aP,bO])
  |(obtain⟨_,h,_⟩:=h;subst h;simp[aP,bO])
  |exact h.elim
theorem o7{v:AV}{cs:List c9}(h:bw P w ad β H v cs):cs.length=bO P (aa v)/\aa v≠.bad:=by
 cases v<;>simp only[bw]at h
 case p t=>exact oX h
 case st u fs=>
  obtain⟨l,c,a,b,rfl⟩:=h;have:=zZ b;simp[aa,bO,this.1,(PG a).1]
 all_goals first
  |(obtain⟨_,rfl,_⟩:=h;simp[aa,bO])
  |(obtain⟨_,_,_,_,rfl⟩:=h;simp[aa,bO])
theorem uP{v:PV}(hs:aP v=.leaf)(cs:List c9):aY P w ad v cs↔∃c,cs=[c]/\aC P w ad v c:=by
 cases v<;>simp[aP]at hs<;>simp only[aY,aC]
 case bool|int|dX|aH|fM|jb|gK=>exact⟨fun h=>⟨_,h,rfl⟩,fun⟨c,g,i⟩=>by rw[g,i]⟩
 case str s=>exact⟨fun⟨bs,g,i⟩=>⟨_,g,bs,rfl,i⟩,fun⟨c,g,bs,i,j⟩=>⟨bs,by rw[g,i],j⟩⟩
 case cG t=>exact⟨fun⟨a,b,c,g,i,j,k⟩=>⟨_,k,a,b,c,g,i,j,rfl⟩,fun⟨v,g,a,b,c,i,j,k,l⟩=>⟨a,b,c,i,j,k,by rw[g,l]⟩⟩
 case bF f es=>exact⟨fun⟨a,b,c,d,e,g,i,j,k,l,sp,n,m⟩=>⟨_,m,a,b,c,d,e,g,i,j,k,l,sp,n,rfl⟩,fun⟨v,h,a,b,c,d,e,g,i,j,k,l,sp,n,m⟩=>⟨a,b,c,d,e,g,i,j,k,l,sp,n,by rw[h,m]⟩⟩
 case seq es=>
  constructor
  ·rintro(⟨g,i⟩|⟨a,b,c,d,e,g,i,j,l,sp,n,m⟩)
   ·exact⟨_,i,.inl ⟨g,rfl⟩⟩
   ·exact⟨_,m,.inr ⟨a,b,c,d,e,g,i,j,l,sp,n,rfl⟩⟩
  ·rintro⟨v,h,(⟨g,i⟩|⟨a,b,c,d,e,g,i,j,l,sp,n,m⟩)⟩
   ·exact .inl ⟨g,by rw[h,i]⟩
   ·exact .inr ⟨a,b,c,d,e,g,i,j,l,sp,n,by rw[h,m]⟩
 case fu es=>exact⟨fun⟨a,b,c,g,i,j,k⟩=>⟨_,k,a,b,c,g,i,j,rfl⟩,fun⟨v,h,a,b,c,g,i,j,k⟩=>⟨a,b,c,g,i,j,by rw[h,k]⟩⟩
 case func f x y=>exact⟨fun⟨a,b,g,i,j⟩=>⟨_,j,a,b,g,i,rfl⟩,fun⟨v,h,a,b,g,i,j⟩=>⟨a,b,g,i,by rw[h,j]⟩⟩
theorem ya{v:PV}{u:db}(hs:aP v=.agg u)(cs:List c9):aY P w ad v cs↔aC P w ad v (.agg cs.toArray):=by
 cases v<;>simp[aP]at hs;subst hs;simp only[aY,aC];constructor
 ·rintro⟨l,a,b,c,rfl⟩;exact⟨l,a,b,c,rfl⟩
 ·rintro⟨l,a,b,c,d⟩;refine⟨l,a,b,c,?_⟩;injection d with d;simpa using congrArg cv d
theorem EO{v:AV}(hs:aa v=.leaf)(cs:List c9):bw P w ad β H v cs↔∃c,cs=[c]/\aA P w ad β H v c:=by
 cases v<;>simp[aa]at hs<;>simp only[bw,aA]
 case p t=>exact uP hs cs
 case func f x y=>exact⟨fun⟨a,b,d,e,g⟩=>⟨_,g,a,b,d,e,rfl⟩,fun⟨v,h,a,b,d,e,g⟩=>⟨a,b,d,e,by rw[h,g]⟩⟩
theorem QG{v:AV}{u:db}(hs:aa v=.agg u)(cs:List c9):bw P w ad β H v cs↔aA P w ad β H v (.agg cs.toArray):=by
 cases v<;>simp[aa]at hs
 case p t=>simp only[bw,aA];exact ya hs cs
 case st u' fs=>
  subst hs;simp only[bw,aA];constructor
  ·rintro⟨l,a,b,c,rfl⟩;exact⟨l,a,b,c,rfl⟩
  ·rintro⟨l,a,b,c,d⟩;refine⟨l,a,b,c,?_⟩;injection d with d;simpa using congrArg cv d
theorem Ap{v:AV}{x:c9}(h:aA P w ad β H v x)(hs:aa v≠.bad):bw P w ad β H v x.cells.toList:=by
 cases a:aa v with
 |bad=>exact absurd a hs
 |leaf=>
  rw[EO a];refine⟨x,?_,h⟩;cases v<;>simp[aa]at a<;>simp only[aA]at h
  case p t=>
   cases t<;>simp[aP]at a<;>simp only[aC]at h
   case bool|int|dX|aH|fM|jb|gK=>subst h;rfl
   case str=>obtain⟨_,rfl,_⟩:=h;rfl
   case cG=>obtain⟨_,_,_,_,_,_,rfl⟩:=h;rfl
   case bF=>obtain⟨_,_,_,_,_,_,_,_,_,_,_,_,rfl⟩:=h;rfl
   case seq=>rcases h with⟨_,rfl⟩|⟨_,_,_,_,_,_,_,_,_,_,_,rfl⟩<;>rfl
   case fu=>obtain⟨_,_,_,_,_,_,rfl⟩:=h;rfl
   case func=>obtain⟨_,_,_,_,rfl⟩:=h;rfl
  case func=>obtain⟨_,_,_,_,rfl⟩:=h;rfl
  all_goals (have b:=h.1;cases x<;>first|rfl|(simp[hj]at b))
 |agg u=>
  cases v<;>simp[aa]at a
  case p t=>
   cases t<;>simp[aP]at a;simp only[aA,aC]at h;obtain⟨l,c,b,d,rfl⟩:=h;simp only[bw,aY];exact⟨l,c,b,d,by simp[hm]⟩
  case st u' fs=>
   simp only[aA]at h;obtain⟨l,c,b,d,rfl⟩:=h;simp only[bw];exact⟨l,c,b,d,by simp[hm]⟩
end
mutual
def Wk:PV->PV->Prop
 | .undef,v=>v=.undef
 | .bool b,v=>v=.bool b
 | .int k n,v=>v=.int k n
 | .str s,v=>v=.str s
 | .dX,v=>v=.dX
 | .fM,v=>v=.fM
 | .jb,v=>v=.jb
 | .gK,v=>v=.gK
 | .aH,v=>v=.aH\/v=.seq []
 | .cG t,v=>match v with
  | .cG h=>Wk t h
  |_=>False
 | .bF f es,v=>match v with
  | .bF g fs=>(g=true->f=true)/\bI es fs
  | .seq fs=>bI es fs
  |_=>False
 | .seq es,v=>match v with
  | .seq fs=>bI es fs
  |_=>False
 | .fu es,v=>match v with
  | .fu fs=>l8 es fs
  |_=>False
 | .func f a b,v=>match v with
  | .func g c d=>f=g/\bI a c/\bI b d
  |_=>False
 | .st u es,v=>match v with
  | .st u' fs=>u=u'/\bI es fs
  |_=>False
 | .aD es,v=>match v with
  | .aD fs=>bI es fs
  |_=>False
def bI:List PV->List PV->Prop
 |[],fs=>fs=[]
 |v::vs,fs=>match fs with
  |f::fs=>Wk v f/\bI vs fs
  |[]=>False
def l8:List (PV×PV)->List (PV×PV)->Prop
 |[],fs=>fs=[]
 |(k,v)::vs,fs=>match fs with
  |(e,f)::fs=>k=e/\Wk v f/\l8 vs fs
  |[]=>False
end
mutual
theorem Wk.refl:∀v,Wk v v
 | .undef| .bool _| .int _ _| .str _| .dX| .fM| .jb| .gK=>by simp[Wk]
 | .aH=>by simp[Wk]
 | .cG t=>by simp only[Wk];exact Wk.refl t
 | .bF f c=>by simp only[Wk];exact⟨id,bI.refl c⟩
 | .seq c=>by simp only[Wk];exact bI.refl c
 | .fu c=>by simp only[Wk];exact l8.refl c
 | .func f a b=>by simp only[Wk];exact⟨trivial,bI.refl a,bI.refl b⟩
 | .st u c=>by simp only[Wk];exact⟨trivial,bI.refl c⟩
 | .aD c=>by simp only[Wk];exact bI.refl c
theorem bI.refl:∀vs,bI vs vs
 |[]=>by simp[bI]
 |v::vs=>by simp only[bI];exact⟨Wk.refl v,bI.refl vs⟩
theorem l8.refl:∀c,l8 c c
 |[]=>by simp[l8]
 |(k,v)::vs=>by simp only[l8];exact⟨trivial,Wk.refl v,l8.refl vs⟩
end
theorem bI.length:∀{es fs:List PV},bI es fs->fs.length=es.length
 |[],fs,h=>by simp only[bI]at h;subst h;rfl
 |v::vs,fs,h=>by
  cases fs with
  |nil=>simp[bI]at h
  |cons f fs=>simp only[bI]at h;simp[bI.length h.2]
theorem bI.qG{a fs:List PV}(h:bI a fs):fs=[]↔a=[]:=by
 have:=h.length;rw[<-hM,<-hM,this]
theorem Wk.aP:∀{v v':PV},Wk v v'->an.aP v'=an.aP v
 | .undef,v',h| .bool _,v',h| .int _ _,v',h| .str _,v',h| .dX,v',h| .fM,v',h| .jb,v',h| .gK,v',h=>by simp only[Wk]at h;subst h;rfl
 | .aH,v',h=>by simp only[Wk]at h;rcases h with rfl|rfl<;>rfl
 | .cG _,v',h| .bF _ _,v',h| .seq _,v',h| .fu _,v',h| .func _ _ _,v',h| .aD _,v',h=>by cases v'<;>simp only[Wk]at h<;>rfl
 | .st _ _,v',h=>by
  cases v'<;>simp only[Wk]at h;simp[an.aP,h.1]
section
variable{P:da}{w:dg}{ad:Nat->Prop}
mutual
theorem aY.dw:∀(v v':PV)(cs:List c9),Wk v v'->aY P w ad v cs->aY P w ad v' cs
 | .undef,v',cs,h,hc| .bool _,v',cs,h,hc| .int _ _,v',cs,h,hc| .str _,v',cs,h,hc| .dX,v',cs,h,hc| .fM,v',cs,h,hc| .jb,v',cs,h,hc| .gK,v',cs,h,hc=>by simp only[Wk]at h;subst h;exact hc
 | .aH,v',cs,h,hc=>by
  simp only[Wk]at h;rcases h with rfl|rfl
  ·exact hc
  ·simp only[aY]at hc⊢;exact .inl ⟨trivial,hc⟩
 | .cG t,v',cs,h,hc=>by
  cases v'<;>simp only[Wk]at h;simp only[aY]at hc⊢;obtain⟨aq,off,ts,d,i⟩:=hc;exact⟨aq,off,ts,aY.dw _ _ _ h d,i⟩
 | .bF f o,v',cs,h,hc=>by
  cases v' with
  |bF g fs=>
   simp only[Wk]at h;simp only[aY]at hc⊢;obtain⟨aq,off,cap,ak,m,d,i,j,p,q,s⟩:=hc;have hl:=h.2.length;rw[hl];exact⟨aq,off,cap,ak,m,bm.dw _ _ _ _ h.2 d,fun z=>i (fun e=>z (h.2.qG.2 e)),j,fun e=>p (h.1 e),q,s⟩
  |seq fs=>
   simp only[Wk]at h;simp only[aY]at hc⊢;obtain⟨aq,off,cap,ak,m,d,i,j,p,q,s⟩:=hc;have hl:=h.length;rw[hl];exact .inr ⟨aq,off,cap,ak,m,bm.dw _ _ _ _ h d,fun z=>i (fun e=>z (h.qG.2 e)),j,q,s⟩
  |_=>simp only[Wk]at h
 | .seq o,v',cs,h,hc=>by
  cases v'<;>simp only[Wk]at h;simp only[aY]at hc⊢;rcases hc with⟨d,i⟩|⟨aq,off,cap,ak,m,d,i,j,q,s⟩
  ·exact .inl ⟨h.qG.2 d,i⟩
  ·have hl:=h.length;rw[hl];exact .inr ⟨aq,off,cap,ak,m,bm.dw _ _ _ _ h d,fun z=>i (fun e=>z (h.qG.2 e)),j,q,s⟩
 | .fu o,v',cs,h,hc=>by
  cases v'<;>simp only[Wk]at h;simp only[aY]at hc⊢;obtain⟨r,B,clock,d,i,j,p⟩:=hc;exact⟨r,B,clock,d,i,cR.dw _ _ _ h j,p⟩
 | .func f a b,v',cs,h,hc=>by
  cases v'<;>simp only[Wk]at h;obtain⟨rfl,E,F⟩:=h;simp only[aY]at hc⊢;obtain⟨D,C,d,i,j⟩:=hc;exact⟨D,C,bu.dw _ _ _ E d,bu.dw _ _ _ F i,j⟩
 | .st u o,v',cs,h,hc=>by
  cases v'<;>simp only[Wk]at h;obtain⟨rfl,h⟩:=h;simp only[aY]at hc⊢;obtain⟨l,m,d,i,j⟩:=hc;exact⟨l,m,d,bm.dw _ _ _ _ h i,j⟩
 | .aD o,v',cs,h,hc=>by simp[aY]at hc
theorem bm.dw:∀(l:List Nat)(o fs:List PV)(m:List (List c9)),bI o fs->bm P w ad l o m->bm P w ad l fs m
 |l,[],fs,m,h,hc=>by simp only[bI]at h;subst h;exact hc
 |l,v::vs,fs,m,h,hc=>by
  cases fs with
  |nil=>simp[bI]at h
  |cons f fs=>
   simp only[bI]at h;cases l with
   |nil=>simp[bm]at hc
   |cons n l=>
    simp only[bm]at hc⊢;obtain⟨c,cs,d,i,j,p⟩:=hc;exact⟨c,cs,d,aY.dw _ _ _ h.1 i,j,bm.dw _ _ _ _ h.2 p⟩
theorem aC.dw:∀(v v':PV)(x:c9),Wk v v'->aC P w ad v x->aC P w ad v' x
 | .undef,v',cs,h,hc| .bool _,v',cs,h,hc| .int _ _,v',cs,h,hc| .str _,v',cs,h,hc| .dX,v',cs,h,hc| .fM,v',cs,h,hc| .jb,v',cs,h,hc| .gK,v',cs,h,hc=>by simp only[Wk]at h;subst h;exact hc
 | .aH,v',cs,h,hc=>by
  simp only[Wk]at h;rcases h with rfl|rfl
  ·exact hc
  ·simp only[aC]at hc⊢;exact .inl ⟨trivial,hc⟩
 | .cG t,v',cs,h,hc=>by
  cases v'<;>simp only[Wk]at h;simp only[aC]at hc⊢;obtain⟨aq,off,ts,d,i⟩:=hc;exact⟨aq,off,ts,aY.dw _ _ _ h d,i⟩
 | .bF f o,v',cs,h,hc=>by
  cases v' with
  |bF g fs=>
   simp only[Wk]at h;simp only[aC]at hc⊢;obtain⟨aq,off,cap,ak,m,d,i,j,p,q,s⟩:=hc;have hl:=h.2.length;rw[hl];exact⟨aq,off,cap,ak,m,bm.dw _ _ _ _ h.2 d,fun z=>i (fun e=>z (h.2.qG.2 e)),j,fun e=>p (h.1 e),q,s⟩
  |seq fs=>
   simp only[Wk]at h;simp only[aC]at hc⊢;obtain⟨aq,off,cap,ak,m,d,i,j,p,q,s⟩:=hc;have hl:=h.length;rw[hl];exact .inr ⟨aq,off,cap,ak,m,bm.dw _ _ _ _ h d,fun z=>i (fun e=>z (h.qG.2 e)),j,q,s⟩
  |_=>simp only[Wk]at h
 | .seq o,v',cs,h,hc=>by
  cases v'<;>simp only[Wk]at h;simp only[aC]at hc⊢;rcases hc with⟨d,i⟩|⟨aq,off,cap,ak,m,d,i,j,q,s⟩
  ·exact .inl ⟨h.qG.2 d,i⟩
  ·have hl:=h.length;rw[hl];exact .inr ⟨aq,off,cap,ak,m,bm.dw _ _ _ _ h d,fun z=>i (fun e=>z (h.qG.2 e)),j,q,s⟩
 | .fu o,v',cs,h,hc=>by
  cases v'<;>simp only[Wk]at h;simp only[aC]at hc⊢;obtain⟨r,B,clock,d,i,j,p⟩:=hc;exact⟨r,B,clock,d,i,cR.dw _ _ _ h j,p⟩
 | .func f a b,v',cs,h,hc=>by
  cases v'<;>simp only[Wk]at h;obtain⟨rfl,E,F⟩:=h;simp only[aC]at hc⊢;obtain⟨D,C,d,i,j⟩:=hc;exact⟨D,C,bu.dw _ _ _ E d,bu.dw _ _ _ F i,j⟩
 | .st u o,v',cs,h,hc=>by
  cases v'<;>simp only[Wk]at h;obtain⟨rfl,h⟩:=h;simp only[aC]at hc⊢;obtain⟨l,m,d,i,j⟩:=hc;exact⟨l,m,d,bm.dw _ _ _ _ h i,j⟩
 | .aD o,v',cs,h,hc=>by
  cases v'<;>simp only[Wk]at h;simp only[aC]at hc⊢;obtain⟨A,d,i⟩:=hc;exact⟨A,bu.dw _ _ _ h d,i⟩
theorem bu.dw:∀(o fs:List PV)(A:List c9),bI o fs->bu P w ad o A->bu P w ad fs A
 |[],fs,A,h,hc=>by simp only[bI]at h;subst h;exact hc
 |v::vs,fs,A,h,hc=>by
  cases fs with
  |nil=>simp[bI]at h
  |cons f fs=>
   simp only[bI]at h;simp only[bu]at hc⊢;obtain⟨y,G,d,i,j⟩:=hc;exact⟨y,G,d,aC.dw _ _ _ h.1 i,bu.dw _ _ _ h.2 j⟩
theorem cR.dw:∀(o fs:List (PV×PV))(B:List ew),l8 o fs->cR P w ad o B->cR P w ad fs B
 |[],fs,A,h,hc=>by simp only[l8]at h;subst h;exact hc
 |(k,v)::vs,fs,A,h,hc=>by
  cases fs with
  |nil=>simp[l8]at h
  |cons f fs=>
   simp only[l8]at h;obtain⟨rfl,d,i⟩:=h;simp only[cR]at hc⊢;obtain⟨e,rest,e1,e2,e3,e4⟩:=hc;exact⟨e,rest,e1,e2,aC.dw _ _ _ d e3,cR.dw _ _ _ i e4⟩
end
end
section
variable{P:da}{w:dg}{ad:Nat->Prop}{β:Bd}{H:Heap}
theorem mQ:∀{fs:List AV}{l:List PV},fj fs=some l->fs=l.map .p
 |[],l,h=>by simp[fj]at h;subst h;rfl
 | .p v::r,l,h=>by
  simp only[fj]at h;cases a:fj r with
  |none=>simp[a]at h
  |some b=>simp[a]at h;subst h;simp[mQ a]
 | .ptr ..::_,_,h| .ct ..::_,_,h| .sl ..::_,_,h| .map ..::_,_,h| .func ..::_,_,h| .st ..::_,_,h| .aD ..::_,_,h=>by simp[fj]at h
theorem o6:∀{l:List Nat}{fs:List PV}{a:List (List c9)},bX P w ad β H l (fs.map .p) a↔bm P w ad l fs a
 |[],[],_=>by simp[bX,bm]
 |[],_::_,_=>by simp[bX,bm]
 |_::_,[],_=>by simp[bX,bm]
 |n::g,v::vs,a=>by
  simp only[hN,bX,bm,bw];constructor
  ·rintro⟨c,cs,b,d,e,f⟩;exact⟨c,cs,b,d,e,o6.1 f⟩
  ·rintro⟨c,cs,b,d,e,f⟩;exact⟨c,cs,b,d,e,o6.2 f⟩
theorem ki:∀{fs:List PV}{d:List c9},bC P w ad β H (fs.map .p) d↔bu P w ad fs d
 |[],_=>by simp[bC,bu]
 |v::vs,d=>by
  simp only[hN,bC,bu,aA];constructor
  ·rintro⟨y,e,a,b,c⟩;exact⟨y,e,a,b,ki.1 c⟩
  ·rintro⟨y,e,a,b,c⟩;exact⟨y,e,a,b,ki.2 c⟩
theorem Px{u:db}{fs:List AV}{cs:List c9}:bw P w ad β H (iR u fs) cs↔bw P w ad β H (.st u fs) cs:=by
 unfold iR;cases h:fj fs with
 |none=>rfl
 |some l=>have:=mQ h;subst this;simp[bw,aY,o6]
theorem awS{u:db}{fs:List AV}{x:c9}:aA P w ad β H (iR u fs) x↔aA P w ad β H (.st u fs) x:=by
 unfold iR;cases h:fj fs with
 |none=>rfl
 |some l=>have:=mQ h;subst this;simp[aA,aC,o6]
theorem jz(n:Nat×Nat->Prop):∀l:List PV,aV n (l.map .p)
 |[]=>by simp[aV]
 |v::l=>by simp only[hN,aV,aE,true_and];exact jz n l
theorem DP{n:Nat×Nat->Prop}{u:db}{fs:List AV}(h:aV n fs):aE n (iR u fs):=by
 unfold iR;cases fj fs with
 |none=>exact h
 |some l=>simp[aE]
theorem cB{n:Nat×Nat->Prop}:∀{fs:List AV},aV n fs↔∀v∈fs,aE n v
 |[]=>by simp[aV]
 |v::vs=>by simp[aV,cB (fs:=vs)]
theorem uW:∀{l:List Nat}{fs:List AV}{d:List (List c9)}{i:Nat}{f:AV},bX P w ad β H l fs d->fs[i]?=some f->
 ∃pre c post,d.flatten=pre++c++post/\pre.length=(l.take i).sum/\i<l.length/\l[i]?=some c.length/\bw P w ad β H f c/\
  ∀b c',bw P w ad β H b c'->c'.length=c.length->∃a,a.flatten=pre++c'++post/\bX P w ad β H l (fs.set i b) a
 |[],[],_,i,f,_,hf=>by simp at hf
 |[],_::_,_,_,_,h,_=>by simp[bX]at h
 |_::_,[],_,_,_,h,_=>by simp[bX]at h
 |n::k,v::vs,d,0,f,h,hf=>by
  simp only[bX]at h;obtain⟨c,cs,rfl,g,e,j⟩:=h;simp at hf;subst hf;refine⟨[],c,cs.flatten,s_,s_,s_,by simp[e],g,?_⟩;intro b c' hc hl;exact⟨c'::cs,s_,by simp only[h4,bX];exact⟨c',cs,rfl,hc,o_,j⟩⟩
 |n::k,v::vs,d,i+1,f,h,hf=>by
  simp only[bX]at h;obtain⟨c,cs,rfl,g,e,j⟩:=h;simp at hf;obtain⟨pre,x,post,k1,k2,k3,k4,k5,k6⟩:=uW j hf;refine⟨c++pre,x,post,by simp[k1],by simp[k2,e],by simpa using k3,by simpa using k4,k5,?_⟩;intro b c' hc hl;obtain⟨a,e1,e2⟩:=k6 b c' hc hl;exact⟨c::a,by simp[e1],by simp only[List.set_cons_succ,bX];exact⟨c,a,rfl,g,e,e2⟩⟩
theorem Ou{t:AV}{u:db}{cs:List c9}(hs:aa t= .agg u)(h:bw P w ad β H t cs):
 ∃l fs a,dY P u=some l/\bX P w ad β H l fs a/\cs=a.flatten/\(∀c,t=.p c->fs=(cS c).map .p)/\(∀u' g,t=.st u' g->fs=g/\u'=u):=by
 cases t<;>simp[aa]at hs
 case p t=>
  cases t<;>simp[aP]at hs;subst hs;simp only[bw,aY]at h;obtain⟨l,a,d,e,f⟩:=h;exact⟨l,_,a,d,o6.2 e,f,fun c b=>by cases b;rfl,fun _ _ h=>by cases h⟩
 case st u' fs=>
  subst hs;simp only[bw]at h;obtain⟨l,a,d,e,f⟩:=h;exact⟨l,fs,a,d,e,f,(fun c b=>by cases b),(fun j i b=>by cases b;exact⟨rfl,rfl⟩)⟩
theorem Br{t:PV}{a:List (db×Nat)}:fk (.p t) a=(l6 t a).map .p:=by
 cases a with
 |nil=>rfl
 |cons x r=>obtain⟨u,i⟩:=x;simp only[fk];cases l6 t ((u,i)::r)<;>rfl
theorem qE:∀{y:List (db×Nat)}{t s:AV}{cs:List c9}{o:Nat},bw P w ad β H t cs->fk t y=some s->gT P y=some o->
 ∃pre n post,cs=pre++n++post/\pre.length=o/\bw P w ad β H s n/\
  ∀x k a,gD t y x=some a->bw P w ad β H x k->k.length=n.length->bw P w ad β H a (pre++k++post)
 |[],t,s,cs,o,h,hs,d=>by
  simp[gT]at d;subst d;simp[fk]at hs;subst hs;refine⟨[],cs,[],s_,s_,h,?_⟩;intro x k a hx v _;simp[gD]at hx;subst hx;simpa using v
 |(u,i)::r,t,s,cs,o,h,hs,d=>by
  simp only[gT]at d;cases m:dY P u with
  |none=>simp[m]at d
  |some l=>
   cases q:gT P r with
   |none=>simp[m,q]at d
   |some o'=>
    simp[m,q]at d;obtain⟨G,rfl⟩:=d
    have key:∃fs f,(∃j e,dY P u=some j/\bX P w ad β H j fs e/\cs=e.flatten)/\fs[i]?=some f/\fk f r=some s/\
     (∀x a,gD t ((u,i)::r) x=some a->∃b,gD f r x=some b/\a=iR u (fs.set i b)):=by
     cases t
     case p t=>
      rw[Br]at hs;simp only[l6]at hs
      by_cases g:aP t=.agg u
      ·simp only[g,if_true]at hs;obtain⟨j,fs,e,k1,k2,k3,k4,_⟩:=Ou (t:=.p t) (by simpa[aa]using g) h;have:=k4 t rfl;subst this;cases hf:(cS t)[i]? with
       |none=>simp[hf]at hs
       |some f=>
        simp only[hf]at hs;refine⟨_,.p f,⟨j,e,k1,k2,k3⟩,by simp[hf],by rw[Br];exact hs,?_⟩;intro x a hx;simp only[gD,g,if_true,hf]at hx;cases hq:gD (.p f) r x with
        |none=>simp[hq]at hx
        |some b=>simp[hq]at hx;exact⟨b,rfl,hx.symm⟩
      ·simp[g]at hs
     case st u' fs=>
      simp only[fk]at hs
      by_cases g:u'=u
      ·subst g;simp only[if_true]at hs;obtain⟨j,B,e,k1,k2,k3,_,k4⟩:=Ou (t:=.st u' fs) rfl h;have:=(k4 _ _ rfl).1;subst this;cases hf:B[i]? with
       |none=>simp[hf]at hs
       |some f=>
        simp only[hf]at hs;refine⟨_,f,⟨j,e,k1,k2,k3⟩,hf,hs,?_⟩;intro x a hx;simp only[gD,if_true,hf]at hx;cases hq:gD f r x with
        |none=>simp[hq]at hx
        |some b=>simp[hq]at hx;exact⟨b,rfl,hx.symm⟩
      ·simp[g]at hs
     all_goals simp[fk]at hs
    obtain⟨fs,f,⟨j,e,k1,k2,k3⟩,hf,D,aM⟩:=key;rw[m]at k1;cases k1;obtain⟨pre,c,post,e1,e2,e3,e4,e5,A⟩:=uW k2 hf;obtain⟨F,n,E,g1,g2,g3,g4⟩:=qE e5 D q;refine⟨pre++F,n,E++post,by rw[k3,e1,g1];simp,by simp[e2,g2],g3,?_⟩;intro x k a hx v hl;obtain⟨b,C,rfl⟩:=aM x a hx;have aX:=g4 x k b C v hl;obtain⟨z,c1,c2⟩:=A b _ aX (by rw[g1];simp[hl]);rw[Px];simp only[bw];exact⟨l,z,m,c2,by rw[c1];simp⟩
theorem AU{path:List (db×Nat)}{t s:PV}{cs:List c9}{o:Nat}(h:aY P w ad t cs)(hs:l6 t path=some s)(e:gT P path=some o):
 ∃pre a post,cs=pre++a++post/\pre.length=o/\aY P w ad s a:=by
 obtain⟨pre,a,post,b,c,d,_⟩:=qE (β:=⟨id,id⟩) (H:=[]) (t:=.p t) (s:=.p s) (by simpa[bw]using h) (by rw[Br,hs];rfl) e;exact⟨pre,a,post,b,c,by simpa[bw]using d⟩
theorem xH{n:Nat×Nat->Prop}:∀{a:List (db×Nat)}{t s:AV},fk t a=some s->aE n t->aE n s
 |[],t,s,hs,h=>by simp[fk]at hs;subst hs;exact h
 |(u,i)::r,.p t,s,hs,h=>by
  rw[Br]at hs;cases hq:l6 t ((u,i)::r)with
  |none=>simp[hq]at hs
  |some q=>simp[hq]at hs;subst hs;simp[aE]
 |(u,i)::r,.st u' fs,s,hs,h=>by
  simp only[fk]at hs
  split at hs
  ·split at hs
   ·rename_i f hf;simp only[aE]at h;exact xH hs (cB.1 h f (hJ hf))
   ·simp at hs
  ·simp at hs
 |_::_,.ptr ..,_,hs,_|_::_,.ct ..,_,hs,_|_::_,.sl ..,_,hs,_|_::_,.map ..,_,hs,_|_::_,.func ..,_,hs,_|_::_,.aD ..,_,hs,_=>by simp[fk]at hs
theorem xI{n:Nat×Nat->Prop}:∀{e:List (db×Nat)}{t b x:AV},gD t e x=some b->aE n t->aE n x->aE n b
 |[],t,b,x,hs,h,hx=>by simp[gD]at hs;subst hs;exact hx
 |(u,i)::r,.p t,b,x,hs,h,hx=>by
  simp only[gD]at hs
  split at hs
  ·split at hs
   ·split at hs
    ·rename_i f hf d c;simp at hs;subst hs;refine DP (cB.2 ?_);intro v a;rcases hK a with a|rfl
     ·exact cB.1 (jz n _) v a
     ·exact xI c (by simp[aE]) hx
    ·simp at hs
   ·simp at hs
  ·simp at hs
 |(u,i)::r,.st u' fs,b,x,hs,h,hx=>by
  simp only[gD]at hs
  split at hs
  ·split at hs
   ·split at hs
    ·rename_i _ f hf _ d c;simp at hs;subst hs;simp only[aE]at h;refine DP (cB.2 ?_);intro v a;rcases hK a with a|rfl
     ·exact cB.1 h v a
     ·exact xI c (cB.1 h f (hJ hf)) hx
    ·simp at hs
   ·simp at hs
  ·simp at hs
 |_::_,.ptr ..,_,_,hs,_,_|_::_,.ct ..,_,_,hs,_,_|_::_,.sl ..,_,_,hs,_,_|_::_,.map ..,_,_,hs,_,_|_::_,.func ..,_,_,hs,_,_|_::_,.aD ..,_,_,hs,_,_=>by simp[gD]at hs
end
structure aZ where
 v:AV
 al:List (Nat×Obj):=[]
 aM:List (Nat×Obj):=[]
 aX:List Obj:=[]
def ba(H:Heap)(l:List (Nat×Obj)):Heap:=
 match l with
 |[]=>H
 |(b,o)::r=>ba (H.set b o) r
def put(dst:Option Tmp)(v:AV)(e:Env):Env:=
 match dst with
 |some d=>(d,v)::e
 |none=>e
def aZ.app(e:aZ)(dst:Option Tmp)(s:St):St:=⟨put dst e.v s.env,ba s.heap e.aM++e.aX⟩
def ev(e:Env):dl->AV
 | .tmp t=>aS e t
 | .const v=>.p (ofConst v)
 | .global g=>.p (Gl.g g)
 | .func f=>.p (.func f [] [])
def ic(s:List Nat):ByteArray:=⟨(s.map UInt8.ofNat).toArray⟩
mutual
def lP:PV->PV->Option Bool
 | .bool a,.bool b=>some (a==b)
 | .int k a,.int c b=>if k=c then some (a==b)else none
 | .str a,.str b=>some (a==b)
 | .st u fs,.st u' gs=>if u=u' then yU fs gs else none
 |_,_=>none
def yU:List PV->List PV->Option Bool
 |[],[]=>some true
 |a::as,b::bs=>match lP a b with
  |some true=>yU as bs
  |some false=>some false
  |none=>none
 |_,_=>none
end
def gv(P:da)(c:db->PV->PV->Option Bool):List db->List PV->List PV->Option Bool
 |[],[],[]=>some true
 |T::d,a::as,b::bs=>
  if kindOf P T=aP a/\kindOf P T=aP b then
   (match c T a b,gv P c d as bs with
   |some r,some s=>some (r&&s)
   |_,_=>none)
  else none
 |_,_,_=>none
def eA(P:da):Nat->db->PV->PV->Option Bool
 |0,_,_,_=>none
 |n+1,T,v,v'=>
  match P.underlying T,v,v' with
  |some .bool,.bool a,.bool b=>some (a==b)
  |some (.int _),.int k a,.int d b=>if k=d then some (a==b)else none
  |some .string,.str a,.str b=>some (a==b)
  |some (.struct fs),.st u xs,.st u' c=>
   if kindOf P T= .agg u/\u'=u/\P.stoodInHeld T=false/\fs.toList.all (fun f=>f.name != "_")=true then gv P (eA P n) (fs.toList.map (·.type)) xs c else none
  |some (.array m e),.st u xs,.st u' c=>
   if kindOf P T=.agg u/\u'=u/\(P.info? e).isSome=true then gv P (eA P n) (hA m e) xs c else none
  |_,_,_=>none
def lO(P:da)(T:db):Bool:=!P.eqGuardType P.depth T
def sR(P:da)(T:db):Bool:=match P.underlying T with|some .bool=>true|_=>false
def aSV(P:da)(T:db):Bool:=match P.underlying T with|some (.int _)=>true|_=>false
def je(P:da)(T:db):Bool:=match P.underlying T with|some .string=>true|_=>false
inductive wv where|ptr|slice|map|func|iface
 deriving DecidableEq
def nr:dl->Bool
 | .const _=>true
 |_=>false
def dy(P:da)(T:db)(c:Bool):AV->Option wv
 | .p .dX=>match P.underlying T with
  |some (.pointer _)=>some .ptr
  |_=>none
 | .p .aH=>match P.underlying T with
  |some (.slice _)=>some .slice
  |_=>none
 | .p .fM=>match P.underlying T with
  |some (.map _ _)=>some .map
  |_=>none
 | .p .jb=>match P.underlying T with
  |some (.func _ _ _)=>some .func
  |_=>none
 | .p .gK=>match c,P.underlying T with
  |true,some (.interface _)=>some .iface
  |_,_=>none
 |_=>none
def cU(H:Heap)(k:wv)(x:AV):Option Bool:=
 match k,x with
 | .ptr,.p .dX| .slice,.p .aH| .map,.p .fM| .func,.p .jb| .iface,.p .gK=>some true
 | .ptr,.p (.cG _)| .slice,.p (.bF _ _)| .map,.p (.fu _)| .func,.p (.func _ _ _)| .func,.func _ _ _=>some false
 | .ptr,.ptr b _=>match H[b]? with
  |some (.box _ _)=>some false
  |_=>none
 | .map,.map b=>match H[b]? with
  |some (.map _ _)=>some false
  |_=>none
 | .slice,.p (.seq (_::_))=>some false
 | .slice,.sl b ar ak _ _=>match H[b]? with
  |some (.arr k c a es)=>if ar=c/\ak=a then some (k.gr&&es.isEmpty)else none
  |_=>none
 |_,_=>none
def qX(op:e9)(k:en)(a b:Int)(K:PV->Prop):Prop:=
 match op with
 | .add=>K (.int k (k.wrap (a+b)))
 | .sub=>K (.int k (k.wrap (a-b)))
 | .mul=>K (.int k (k.wrap (a*b)))
 | .quo=>b≠0/\K (.int k (k.wrap (a.tdiv b)))
 | .rem=>b≠0/\K (.int k (a.tmod b))
 | .and=>K (.int k (k.wrap (c6 k.bits a&&&c6 k.bits b).toNat))
 | .or=>K (.int k (k.wrap (c6 k.bits a|||c6 k.bits b).toNat))
 | .xor=>K (.int k (k.wrap (c6 k.bits a^^^c6 k.bits b).toNat))
 | .andNot=>K (.int k (k.wrap (c6 k.bits a&&&~~~c6 k.bits b).toNat))
 | .eql=>K (.bool (a==b))
 | .neq=>K (.bool (a !=b))
 | .lss=>K (.bool (decide (a<b)))
 | .leq=>K (.bool (decide (a<=b)))
 | .gtr=>K (.bool (decide (a>b)))
 | .geq=>K (.bool (decide (a>=b)))
 | .shl=>0<=b/\K (.int k (k.wrap (a*2^(min b.toNat k.bits))))
 | .shr=>0<=b/\K (.int k (a.fdiv (2^(min b.toNat k.bits))))
def jN:List Nat->List Nat->Bool
 |_,[]=>false
 |[],_::_=>true
 |a::x,b::y=>decide (a<b)||(a==b&&jN x y)
def qW(op:e9)(a b:List Nat)(K:PV->Prop):Prop:=
 match op with
 | .add=>a.length+b.length<9223372036854775808/\K (.str (a++b))
 | .eql=>K (.bool (a==b))
 | .neq=>K (.bool (!(a==b)))
 | .lss=>K (.bool (jN a b))
 | .leq=>K (.bool (jN a b||a==b))
 | .gtr=>K (.bool (!(jN a b||a==b)))
 | .geq=>K (.bool (!(jN a b)))
 |_=>False
def lI(P:da)(op:e9)(T:db)(c:Bool)(H:Heap)(x y:AV)(K:PV->Prop):Prop:=
 match x,y with
 | .p (.int k a),.p (.int d b)=>(k=d\/op=.shl\/op=.shr)/\qX op k a b K
 | .p (.str a),.p (.str b)=>qW op a b K
 | .p (.bool a),.p (.bool b)=>sR P T=true/\match op with
  | .eql=>K (.bool (a==b))
  | .neq=>K (.bool (!(a==b)))
  |_=>False
 | .p (.st u fs),.p (.st u' gs)=>lO P T=true/\(match eA P 9 T (.st u fs) (.st u' gs),op with
  |some r,.eql=>K (.bool r)
  |some r,.neq=>K (.bool !r)
  |_,_=>False)
 |x,y=>
  (match dy P T c y with
  |some k=>(match cU H k x,op with
   |some r,.eql=>K (.bool r)
   |some r,.neq=>K (.bool !r)
   |_,_=>False)
  |none=>False)
def cJ:Nat:=1073741824
def iD(H:Heap):AV->Option (List AV)
 | .p .aH=>some []
 | .p (.bF _ es)=>some (es.map .p)
 | .p (.seq es)=>some (es.map .p)
 | .p (.str s)=>some (s.map fun c=>.p (.int .u8 (c:Nat)))
 | .sl b ar ak off len=>match H[b]? with
  |some (.arr _ d a es)=>if ar=d/\ak=a/\off+len<=es.length then some ((es.drop off).take len)else none
  |_=>none
 |_=>none
def dR(H:Heap):AV->List (Nat×Obj)
 | .sl b _ _ _ _| .ptr b _| .ct b _ _ _ _| .map b=>match H[b]? with
  |some o=>[(b,o)]
  |none=>[]
 |_=>[]
def fh(P:da)(ak:Nat):List AV->Prop
 |[]=>True
 |v::vs=>(aa v≠.bad/\bO P (aa v)=ak)/\fh P ak vs
def cV(P:da)(T:db):Option Nat:=
 match P.underlying T with
 |some (.slice e)=>match P.info? e with
  |some i=>if i.bytes<32768/\0<i.size/\0<i.bytes then some i.size else none
  |none=>none
 |_=>none
def ez(P:da)(T:db):db:=
 match P.underlying T with
 |some (.slice e)=>e
 |_=>0
def iu(P:da)(X:db):Bool:=
 match P.underlying X with
 |some (.int _)=>false
 |some _=>true
 |none=>false
def gk(P:da)(T:db):AK:=if ez P T=Gl.u8 then .bytes else .grow
def oZ(P:da)(T X:db)(H:Heap)(s x:AV)(K:aZ->Prop):Prop:=
 match cV P T,iD H x with
 |some sz,some xs=>iu P X=true/\(cO P (ez P T)).isSome=true/\fh P sz xs/\
  (match s with
  | .p .aH=>if xs.isEmpty then K {v:=s,al:=dR H x}else xs.length<=cJ/\K {v:=.sl H.length 0 sz 0 xs.length,al:=dR H x,aX:=[.arr (gk P T) 0 sz xs]}
  | .p (.bF full es)=>fh P sz (es.map .p)/\if xs.isEmpty then K {v:=s,al:=dR H x}else full=true/\es.length+xs.length<=cJ/\
   K {v:=.sl H.length 0 sz 0 (es.length+xs.length),al:=dR H x,aX:=[.arr (gk P T) 0 sz (es.map .p++xs)]}
  | .sl b ar ak off len=>match H[b]? with
   |some (.arr k c a es)=>ar=c/\ak=a/\ak=sz/\off+len<=es.length/\
    if xs.isEmpty then K {v:=s,al:=(b,.arr k c a es)::dR H x}
    else es.length+xs.length<=cJ/\(match k with
     | .frozen=>False
     | .exact=>if off+len+xs.length<=es.length then
      K {v:=.sl b ar ak off (len+xs.length),al:=(b,.arr k c a es)::dR H x,aM:=[(b,.arr .exact ar ak (es.take (off+len)++xs++es.drop (off+len+xs.length)))]}
      else K {v:=.sl H.length 0 sz 0 (len+xs.length),al:=(b,.arr k c a es)::dR H x,aX:=[.arr (gk P T) 0 sz ((es.drop off).take len++xs)]}
     |_=>off=0/\(k=.bytes->ez P T=Gl.u8)/\K {v:=.sl b (ar+1) ak 0 (len+xs.length),al:=(b,.arr k c a es)::dR H x,aM:=[(b,.arr k (ar+1) ak (es.take len++xs))]})
   |_=>False
  |_=>False)
 |_,_=>False
def ir(x:Option AV)(d:Nat)(K:Nat->Prop):Prop:=
 match x with
 |none=>K d
 |some (.p (.int _ i))=>0<=i/\K i.toNat
 |_=>False
def ph(P:da)(T:db)(H:Heap)(x:AV)(lo hi d:Option AV)(K:aZ->Prop):Prop:=
 d.isNone/\match x with
 | .p (.str s)=>je P T=true/\ir hi s.length fun h=>ir lo 0 fun l=>h<=s.length/\l<=h/\K {v:=.p (.str ((s.take h).drop l))}
 | .p .aH=>(cV P T).isSome=true/\ir hi 0 fun h=>ir lo 0 fun l=>h<=0/\l<=h/\K {v:=x}
 | .p (.bF full es)=>ir hi es.length fun h=>ir lo 0 fun l=>h<=es.length/\l<=h/\
  (match cV P T with
  |some sz=>fh P sz (es.map .p)/\K {v:=.p (.bF (full&&h==es.length) ((es.take h).drop l))}
  |none=>False)
 | .p (.seq es)=>ir hi es.length fun h=>ir lo 0 fun l=>h<=es.length/\l<=h/\
  (match cV P T with
  |some sz=>fh P sz (es.map .p)/\K {v:=.p (.seq ((es.take h).drop l))}
  |none=>False)
 | .sl b ar ak off len=>match H[b]? with
  |some (.arr k c a es)=>ar=c/\ak=a/\cV P T=some ak/\¬(k.gr=true/\es=[])/\off+len<=es.length/\
   ir hi len fun h=>ir lo 0 fun l=>off+h<=es.length/\l<=h/\
    (if l=0 then K {v:=.sl b ar ak off h,al:=[(b,.arr k c a es)]}
    else if l=h then K {v:=.p (.bF false []),al:=[(b,.arr k c a es)]}
    else K {v:=.sl b ar ak (off+l) (h-l),al:=[(b,.arr k c a es)]})
  |_=>False
 |_=>False
def sy(P:da)(T:db)(H:Heap)(x:AV)(lo hi:Option AV)(m:AV)(K:aZ->Prop):Prop:=
 match x with
 | .sl b ar ak off len=>match H[b]? with
  |some (.arr k c a es)=>ar=c/\ak=a/\(cV P T).isSome=true/\¬(k.gr=true/\es=[])/\off+len<=es.length/\hi.isSome=true/\
   ir hi len fun h=>ir lo 0 fun l=>ir (some m) 0 fun m=>off+m<=es.length/\h<=m/\l<=h/\K {v:=.p .undef,al:=[(b,.arr k c a es)]}
  |_=>False
 |_=>False
def rD(P:da)(T:db)(x k:PV):Option Bool:=match x with
 | .st u fs=>match eA P 9 T (.st u fs) k,lP (.st u fs) k with
  |some a,some b=>bif a==b then some a else none
  |_,_=>none
 |x=>lP x k
def gI(P:da)(T:db):List (PV×PV)->PV->Option (Option PV)
 |[],_=>some none
 |(k,v)::r,x=>match rD P T x k with
  |some true=>some (some v)
  |some false=>gI P T r x
  |none=>none
def mV(P:da)(T:db)(a:List (PV×PV))(x:PV):Option (Option PV):=match x with
 | .st u fs=>match gI P T a (.st u fs)with
  |some none=>some none
  |_=>none
 |x=>gI P T a x
def oK:PV->Bool
 | .st _ _=>false
 |_=>true
def me(P:da)(T:db):List PV->List AV->PV->Option (Option AV)
 |[],[],_=>some none
 |k::ks,v::vs,x=>match rD P T x k with
  |some true=>some (some v)
  |some false=>me P T ks vs x
  |none=>none
 |_,_,_=>none
def um:Obj->Option (List PV×List AV)
 | .map false es=>some (es.map (·.1),es.map fun e=>.p e.2)
 | .dK ks vs=>some (ks,vs)
 |_=>none
def iq:List (PV×PV)->PV->PV->List (PV×PV)
 |[],k,v=>[(k,v)]
 |(a,v')::r,k,v=>if lP k a=some true then(k,v)::r else(a,v')::iq r k v
def uZ(P:da)(T:db):Bool:=match P.underlying T with
 |some (.int _)|some .string|some .bool=>true
 |_=>false
def fI(P:da)(T:db):PV->Bool
 | .int k _=>match P.underlying T with
  |some (.int a)=>decide (k=a)
  |_=>false
 | .str _=>je P T
 | .st u fs=>match P.underlying T with
  |some (.struct cS)=>cS.toList.all (fun f=>f.name != "_" &&uZ P f.type)&&(eA P 9 T (.st u fs) (.st u fs)).isSome
  |_=>false
 |_=>false
def jS(P:da)(T:db):Option (db×db):=
 match P.underlying T with
 |some (.map k e)=>some (k,e)
 |_=>none
def lenOf(H:Heap):AV->Option (Nat×List (Nat×Obj))
 | .p (.str s)=>some (s.length,[])
 | .p .aH| .p .fM=>some (0,[])
 | .p (.bF _ es)| .p (.seq es)=>some (es.length,[])
 | .p (.fu es)=>some (es.length,[])
 | .sl b ar ak _off len=>match H[b]? with
  |some (.arr k c a es)=>if ar=c/\ak=a then some (len,[(b,.arr k c a es)])else none
  |_=>none
 | .map b=>match H[b]? with
  |some (.map fz es)=>some (es.length,[(b,.map fz es)])
  |_=>none
 |_=>none
def iL(P:da)(T:db):AV->Bool
 | .p (.str _)=>je P T
 | .p .aH| .p (.bF _ _)| .p (.seq _)| .sl ..=>match P.underlying T with
  |some (.slice _)=>true
  |_=>false
 | .p .fM| .p (.fu _)| .map _=>match P.underlying T with
  |some (.map _ _)=>true
  |_=>false
 |_=>false
def B2(H:Heap):AV->Option (Nat×List (Nat×Obj))
 | .p .aH=>some (0,[])
 | .p (.bF true es)=>some (es.length,[])
 | .sl b ar ak off _len=>match H[b]? with
  |some (.arr .exact c a es)=>if ar=c/\ak=a/\off<=es.length then some (es.length-off,[(b,.arr .exact c a es)])else none
  |_=>none
 |_=>none
def bytesOf:List AV->Option (List Nat)
 |[]=>some []
 | .p (.int .u8 c)::r=>if 0<=c/\c<256 then match bytesOf r with
  |some l=>some (c.toNat::l)
  |none=>none
  else none
 |_=>none
def ptrTo(P:da)(T:db):Option db:=
 match P.underlying T with
 |some (.pointer e)=>some e
 |_=>none
def mP(k:en)(c:Bool):List AV->Int->Option Int
 |[],a=>some a
 | .p (.int d b)::r,a=>if k=d then mP k c r (if c then(if b>a then b else a)else(if b<a then b else a))else none
 |_,_=>none
def jd(a:List AV):List (Nat×AV)->List AV
 |[]=>a
 |(i,v)::r=>jd (a.set i v) r
def mO(P:da)(l:List Nat):List (Nat×AV)->Prop
 |[]=>True
 |(i,v)::r=>(∃n,l[i]?=some n/\bO P (aa v)=n/\aa v≠.bad)/\mO P l r
def fY(H:Heap):List AV->Option (List PV×List (Nat×Obj)×List (Nat×Obj))
 |[]=>some ([],[],[])
 | .p v::r=>match fY H r with
  |some (a,al,aM)=>some (v::a,al,aM)
  |none=>none
 | .ptr b []::r=>match H[b]?,fY H r with
  |some (.box fz (.p t)),some (a,al,aM)=>some (.cG t::a,(b,.box fz (.p t))::al,(b,.box true (.p t))::aM)
  |_,_=>none
 |_=>none
def pF(P:da)(T:db)(H:Heap)(a:AV)(K:aZ->Prop):Prop:=
 match a with
 | .ptr b path=>match H[b]? with
  |some (.box fz t)=>match fk t path with
   |some s=>kindOf P T=aa s/\K {v:=s,al:=[(b,.box fz t)]}
   |none=>False
  |_=>False
 | .ct b ar ak i path=>match H[b]? with
  |some (.arr k d c es)=>ar=d/\ak=c/\∃h:i<es.length,match fk (es[i]'h) path with
   |some s=>kindOf P T=aa s/\K {v:=s,al:=[(b,.arr k d c es)]}
   |none=>False
  |_=>False
 | .p (.cG t)=>kindOf P T=aP t/\K {v:=.p t}
 |_=>False
def pg(P:da)(T:db)(H:Heap)(a x:AV)(K:aZ->Prop):Prop:=
 kindOf P T=aa x/\aa x≠.bad/\match a with
 | .ptr b path=>match H[b]? with
  |some (.box false t)=>match fk t path,gD t path x with
   |some s,some d=>aa s=aa x/\K {v:=.p (.aD []),al:=[(b,.box false t)],aM:=[(b,.box false d)]}
   |_,_=>False
  |_=>False
 | .ct b ar ak i path=>match H[b]? with
  |some (.arr k e c es)=>ar=e/\ak=c/\k≠.frozen/\∃h:i<es.length,match fk (es[i]'h) path,gD (es[i]'h) path x with
   |some s,some d=>aa s=aa x/\K {v:=.p (.aD []),al:=[(b,.arr k e c es)],aM:=[(b,.arr k e c (es.set i d))]}
   |_,_=>False
  |_=>False
 |_=>False
def qc(P:da)(a:db)(b:Nat)(key:PV)(x:AV)(o:Obj)(K:aZ->Prop):Prop:=match um o with
 |some (ks,vs)=>oK key=true/\me P a ks vs key=some none/\K {v:=.p (.aD []),al:=[(b,o)],aM:=[(b,.dK (ks++[key]) (vs++[x]))]}
 |none=>False
def fZ(P:da)(T:db):Option (db×Nat):=
 match kindOf P T,P.underlying T with
 | .agg u,some (.struct fs)=>some (u,fs.size)
 |_,_=>none
def iQ(P:da)(T:db):Option (db×Nat):=
 match kindOf P T,P.underlying T with
 | .agg u,some (.array n _)=>some (u,n)
 |_,_=>none
def oV(P:da)(T:db)(a:AV)(f:Nat)(K:aZ->Prop):Prop:=
 match fZ P T with
 |some (u,n)=>f<n/\(match a with
  | .ptr b path=>K {v:=.ptr b (path++[(u,f)])}
  | .ct b ar ak i path=>K {v:=.ct b ar ak i (path++[(u,f)])}
  | .p (.cG t)=>aP t=.agg u/\(match(cS t)[f]? with
   |some g=>K {v:=.p (.cG g)}
   |none=>False)
  |_=>False)
 |_=>False
def oU(P:da)(T:db)(H:Heap)(x i:AV)(K:aZ->Prop):Prop:=
 match i with
 | .p (.int _ i)=>0<=i/\(match x with
  | .p (.bF _ es)=>∃h:i.toNat<es.length,cV P T=some (bO P (aP (es[i.toNat]'h)))/\K {v:=.p (.cG (es[i.toNat]'h))}
  | .p (.seq es)=>∃h:i.toNat<es.length,cV P T=some (bO P (aP (es[i.toNat]'h)))/\K {v:=.p (.cG (es[i.toNat]'h))}
  | .sl b ar ak off len=>cV P T=some ak/\i.toNat<len/\(match H[b]? with
   |some (.arr k c a es)=>ar=c/\ak=a/\¬(k.gr=true/\es=[])/\K {v:=.ct b ar ak (off+i.toNat) [],al:=[(b,.arr k c a es)]}
   |_=>False)
  | .ptr b path=>(match iQ P T with
   |some (u,n)=>i.toNat<n/\K {v:=.ptr b (path++[(u,i.toNat)])}
   |_=>False)
  | .ct b ar ak j path=>(match iQ P T with
   |some (u,n)=>i.toNat<n/\K {v:=.ct b ar ak j (path++[(u,i.toNat)])}
   |_=>False)
  | .p (.cG t)=>(match iQ P T with
   |some (u,n)=>aP t=.agg u/\i.toNat<n/\(match(cS t)[i.toNat]? with
    |some g=>K {v:=.p (.cG g)}
    |none=>False)
   |_=>False)
  |_=>False)
 |_=>False
def fR(P:da)(ah:dz->Bool)(o:Oper)(ρ:dl->AV)(H:Heap)(K:aZ->Prop):Prop:=
 match o.op with
 | .move x| .assign x=>K {v:=ρ x}
 | .pick c a b=>match ρ c with
  | .p (.bool t)=>K {v:=if t then ρ a else ρ b}
  |_=>False
 | .alloc T=>match cO P T with
  |some z=>kindOf P T=aP z/\aP z≠.bad/\jT T (aP z)=true/\K {v:=.ptr H.length [],aX:=[.box false (.p z)]}
  |none=>False
 | .box T x=>kindOf P T=aa (ρ x)/\aa (ρ x)≠.bad/\jT T (aa (ρ x))=true/\K {v:=.ptr H.length [],aX:=[.box false (ρ x)]}
 | .build T parts=>match kindOf P T,cO P T with
  | .agg u,some z=>(match dY P u with
   |some l=>aP z=.agg u/\mO P l (parts.toList.map fun(i,x)=>(i,ρ x))/\K {v:=iR u (jd ((cS z).map .p) (parts.toList.map fun(i,x)=>(i,ρ x)))}
   |none=>False)
  |_,_=>False
 | .buildSlice T n parts=>match cV P T,cO P (ez P T)with
  |some sz,some z=>bO P (aP z)=sz/\n*sz<=1000000/\mO P (hA n sz) (parts.toList.map fun(i,x)=>(i,ρ x))/\
   K {v:=.sl H.length 0 sz 0 n,aX:=[.arr .exact 0 sz (jd (hA n (.p z)) (parts.toList.map fun(i,x)=>(i,ρ x)))]}
  |_,_=>False
 | .load T a=>pF P T H (ρ a) K
 | .store T a x=>pg P T H (ρ a) (ρ x) K
 | .binOp op T x y _=>lI P op T (nr y) H (ρ x) (ρ y) (fun v=>K {v:=.p v,al:=dR H (ρ x)})
 | .unOp op _ x=>match op,ρ x with
  | .not,.p (.bool b)=>K {v:=.p (.bool (!b))}
  | .neg,.p (.int k n)=>K {v:=.p (.int k (k.wrap (0-n)))}
  | .xor,.p (.int k n)=>K {v:=.p (.int k (k.wrap (c6 k.bits (if k.signed then -1 else k.max)^^^c6 k.bits n).toNat))}
  |_,_=>False
 | .convert S D x=>match P.underlying S,P.underlying D,ρ x with
  |some _,some (.int k),.p (.int _ n)=>K {v:=.p (.int k (k.wrap n))}
  |some _,some .string,.p (.str s)=>K {v:=.p (.str s)}
  |some (.slice e),some .string,.sl b ar ak off len=>(match H[b]? with
   |some (.arr k q j es)=>ar=q/\ak=j/\ak=1/\P.underlying e=some (.int .u8)/\0<len/\off+len<=es.length/\(match bytesOf ((es.drop off).take len)with
    |some l=>K {v:=.p (.str l),al:=[(b,.arr k q j es)]}
    |none=>False)
   |_=>False)
  |_,_,_=>False
 | .extract t i=>match ρ t with
  | .p (.aD vs)=>(match vs[i]? with
   |some v=>K {v:=.p v}
   |none=>False)
  | .aD vs=>(match vs[i]? with
   |some v=>K {v}
   |none=>False)
  |_=>False
 | .fieldAddr T a f=>oV P T (ρ a) f K
 | .indexAddr T x i=>oU P T H (ρ x) (ρ i) K
 | .field T x f=>match kindOf P T,P.underlying T,ρ x with
  | .agg u,some (.struct _),.p t=>aP t=.agg u/\(match(cS t)[f]?,(j0 P u)[f]? with
   |some g,some F=>kindOf P F=aP g/\K {v:=.p g}
   |_,_=>False)
  |_,_,_=>False
 | .index T x i=>match ρ x,ρ i with
  | .p (.str s),.p (.int _ i)=>je P T=true/\0<=i/\∃h:i.toNat<s.length,K {v:=.p (.int .u8 (s[i.toNat]'h))}
  | .p (.st u es),.p (.int _ i)=>(match iQ P T,(j0 P u)[i.toNat]?,es[i.toNat]? with
   |some (u',n),some F,some g=>u'=u/\0<=i/\i.toNat<n/\kindOf P F=aP g/\K {v:=.p g}
   |_,_,_=>False)
  |_,_=>False
 | .makeFunc (.func f) fi ca=>if ah f then(match fY H (fi.toList.map ρ),fY H (ca.toList.map ρ)with
   |some (a,[],[]),some (b,al,aM)=>K {v:=.p (.func f a b),al,aM}
   |_,_=>False)
  else match fj (fi.toList.map ρ),fj (ca.toList.map ρ)with
   |some a,some b=>K {v:=.p (.func f a b)}
   |_,_=>K {v:=.func f (fi.toList.map ρ) (ca.toList.map ρ)}
 | .makeSlice T l c=>match cV P T,cO P (ez P T),ρ l,ρ c with
  |some sz,some z,.p (.int .i64 l),.p (.int .i64 c)=>bO P (aP z)=sz/\0<=l/\l=c/\l<=cJ/\K {v:=.sl H.length 0 sz 0 l.toNat,aX:=[.arr .exact 0 sz (hA l.toNat (.p z))]}
  |_,_,_,_=>False
 | .slice T x lo hi A=>match A with
  |none=>ph P T H (ρ x) (lo.map ρ) (hi.map ρ) none K
  |some m=>sy P T H (ρ x) (lo.map ρ) (hi.map ρ) (ρ m) K
 | .makeMap _ none=>K {v:=.map H.length,aX:=[.map false []]}
 | .lookup T x i ok=>match jS P T,ρ i with
  |some (w,E),.p key=>(match cO P E with
   |some z=>fI P w key=true/\(match ρ x with
    | .p .fM=>K {v:=.p (if ok then .aD [z,.bool false]else z)}
    | .p (.fu es)=>(match gI P w es key with
     |some (some v)=>K {v:=.p (if ok then .aD [v,.bool true]else v)}
     |some none=>K {v:=.p (if ok then .aD [z,.bool false]else z)}
     |none=>False)
    | .map b=>(match H[b]? with
     |some (.map fz es)=>(match gI P w es key with
      |some (some v)=>K {v:=.p (if ok then .aD [v,.bool true]else v),al:=[(b,.map fz es)]}
      |some none=>K {v:=.p (if ok then .aD [z,.bool false]else z),al:=[(b,.map fz es)]}
      |none=>False)
     |some (.dK ks vs)=>oK key=true/\(match me P w ks vs key with
      |some (some v)=>K {v:=if ok then .aD [v,.p (.bool true)]else v,al:=[(b,.dK ks vs)]}
      |some none=>K {v:=.p (if ok then .aD [z,.bool false]else z),al:=[(b,.dK ks vs)]}
      |none=>False)
     |_=>False)
    |_=>False)
   |none=>False)
  |_,_=>False
 | .mapUpdate T m k x| .insert T m k x=>match jS P T,ρ m,ρ k,ρ x with
  |some (w,_),.map b,.p key,.p v=>fI P w key=true/\(match H[b]? with
   |some (.map false es)=>(match mV P w es key with
    |some _=>K {v:=.p (.aD []),al:=[(b,.map false es)],aM:=[(b,.map false (iq es key v))]}
    |none=>False)
   |some (.dK ks vs)=>qc P w b key (.p v) (.dK ks vs) K
   |_=>False)
  |some (w,_),.map b,.p key,x=>fI P w key=true/\(match H[b]? with
   |some o=>qc P w b key x o K
   |none=>False)
  |_,_,_,_=>False
 | .range T x=>match ρ x with
  | .p (.str s)=>je P T=true/\K {v:=.ptr H.length [],aX:=[.dO s 0]}
  |_=>False
 | .next it true=>match ρ it with
  | .ptr b []=>(match H[b]? with
   |some (.dO s pos)=>if pos<s.length then
    K {v:=.p (.aD [.bool true,.int .i64 pos,.int .i32 (Utf8.decode (ic s) pos).1]),al:=[(b,.dO s pos)],aM:=[(b,.dO s (pos+(Utf8.decode (ic s) pos).2))]}
    else K {v:=.p (.aD [.bool false]),al:=[(b,.dO s pos)]}
   |_=>False)
  |_=>False
 | .nilCheck x=>match ρ x with
  | .ptr _ _| .ct _ _ _ _ _| .p (.cG _)=>K {v:=ρ x}
  |_=>False
 | .call c=>match c.callee with
  | .builtin b=>let args:=c.args.toList.map ρ
   let T:=c.argTypes.getD 0 0
   (match b,args with
   | .len,[x]=>(match lenOf H x with
    |some (n,al)=>iL P T x=true/\0<c.argTypes.size/\K {v:=.p (.int .i64 n),al}
    |none=>False)
   | .append,[s,x]=>c.argTypes.size=2/\oZ P T (c.argTypes.getD 1 0) H s x K
   | .min,.p (.int k a)::r=>(match mP k false r a with
    |some n=>K {v:=.p (.int k n)}
    |none=>False)
   | .max,.p (.int k a)::r=>(match mP k true r a with
    |some n=>K {v:=.p (.int k n)}
    |none=>False)
   | .copy,[d,x]=>(match cV P T,d,iD H x with
    |some sz,.sl b ar ak off len,some xs=>ak=sz/\fh P sz xs/\c.argTypes.size=2/\(match H[b]? with
     |some (.arr k q j es)=>ar=q/\ak=j/\k≠.frozen/\off+len<=es.length/\¬(k.gr=true/\es=[])/\
      K {v:=.p (.int .i64 (min xs.length len:Nat)),al:=(b,.arr k q j es)::dR H x,aM:=[(b,.arr k q j (es.take off++xs.take (min xs.length len)++es.drop (off+min xs.length len)))]}
     |_=>False)
    |_,_,_=>False)
   | .cap,[x]=>(match B2 H x with
    |some (n,al)=>iL P T x=true/\0<c.argTypes.size/\K {v:=.p (.int .i64 n),al}
    |none=>False)
   | .clear,[x]=>(match x with
    | .p .aH=>iL P T x=true/\0<c.argTypes.size/\K {v:=.p (.aD [])}
    | .sl b ar ak off len=>(match cV P T,cO P (ez P T),H[b]? with
     |some sz,some z,some (.arr k q j es)=>ar=q/\ak=j/\ak=sz/\bO P (aP z)=sz/\k≠.frozen/\off+len<=es.length/\¬(k.gr=true/\es=[])/\0<c.argTypes.size/\0<len/\
      K {v:=.p (.aD []),al:=[(b,.arr k q j es)],aM:=[(b,.arr k q j (es.take off++hA len (.p z)++es.drop (off+len)))]}
     |_,_,_=>False)
    |_=>False)
   | .unsafeSliceData,[x]=>(match x with
    | .p .aH=>K {v:=.p .dX}
    | .sl b ar ak off len=>(match H[b]? with
     |some (.arr k q j es)=>ar=q/\ak=j/\((k.gr=true/\es=[]/\K {v:=.p .dX,al:=[(b,.arr k q j es)]})\/(0<len/\off+len<=es.length/\K {v:=.ct b ar ak off [],al:=[(b,.arr k q j es)]}))
     |_=>False)
    |_=>False)
   | .unsafeString,[x,.p (.int .i64 n)]=>(match x with
    | .p .dX=>n=0/\c.argTypes.size=2/\K {v:=.p (.str [])}
    | .ct b ar ak i []=>(match H[b]? with
     |some (.arr .bytes q j es)=>ar=q/\ak=j/\ak=1/\i=0/\0<n/\n.toNat<=es.length/\n<=9223372036854775807/\c.argTypes.size=2/\ptrTo P T=some Gl.u8/\P.cellsOf Gl.u8=1/\(match bytesOf (es.take n.toNat)with
      |some l=>K {v:=.p (.str l),al:=[(b,.arr .bytes q j es)],aM:=[(b,.dead)]}
      |none=>False)
     |_=>False)
    |_=>False)
   |_,_=>False)
  |_=>False
 |_=>False
def newAt(a:Nat):List Obj->List (Nat×Obj)
 |[]=>[]
 |o::r=>(a,o)::newAt (a+1) r
structure cj(P:da)(ai ad:Nat->Prop)(w:dg)(β:Bd)(H:Heap)(aF:Nat->Prop)(w':dg)(aO:Bd)(H':Heap):Prop where
 cd:∀k,ad k->aF k
 fresh:∀k,aF k->ad k\/¬ai k
 ext:Ext ai ad w w'
 step:cM β H aO H'
 rel:cm P w' aF aO H' ai
 gh:∀x,aL H x->aL H' x
 loop:∀b,iF H b->iF H' b
def Enters(P:da)(f:dz):Prop:=∀(args:Array c9)(w:dg),(callFunc f args).run P w=.ok (.enter f args) w
def b8(P:da)(f:dz)(H:Heap)(args:List AV)(H':Heap)(v:AV):Prop:=
 Enters P f/\∀(w:dg)(ad ai:Nat->Prop)(β:Bd)(a:List c9),cm P w ad β H ai->bC P w ad β H args a->aV (aL H) args->
  e6 P f a.toArray w fun e w'=>∃b aO aF,e=.returned b/\cj P ai ad w β H aF w' aO H'/\aA P w' aF aO H' v b/\aE (aL H') v
def gX(P:da)(b:Nat)(H:Heap)(args:List AV)(H':Heap)(v:AV):Prop:=
 iF H b/\∀(w:dg)(ad ai:Nat->Prop)(β:Bd)(c:List c9),cm P w ad β H ai->bC P w ad β H args c->aV (aL H) args->
  ∃f tmps assign body,(ge (β.aq b) c.toArray).run P w=.ok (.round (β.aq b) f tmps assign body) w/\
   ∀(a:eb)(e:List eb),∃d w' aO aF,ee P (lone (fm (β.aq b) f tmps assign body .normal) (a::e) w) (lone (a.finish d) e w')/\
    cj P ai ad w β H aF w' aO H'/\aA P w' aF aO H' v d/\aE (aL H') v
def tK(P:da)(f:dz)(args:List AV)(base:Nat)(e:aZ):Prop:=
 Enters P f/\∀(H:Heap)(w:dg)(ad ai:Nat->Prop)(β:Bd)(a:List c9),cm P w ad β H ai->bC P w ad β H args a->aV (aL H) args->
  (∀p∈e.al,H[p.1]?=some p.2)->(∀i,i<e.aX.length->H[base+i]?=some .hole)->
  e6 P f a.toArray w fun x w'=>∃b aO aF,x=.returned b/\cj P ai ad w β H aF w' aO (ba H (e.aM++newAt base e.aX))/\
   aA P w' aF aO (ba H (e.aM++newAt base e.aX)) e.v b/\aE (aL (ba H (e.aM++newAt base e.aX))) e.v
def vk(P:da)(b:Nat)(args:List AV)(a:Nat)(e:aZ):Prop:=
 ∀(H:Heap)(w:dg)(ad ai:Nat->Prop)(β:Bd)(d:List c9),cm P w ad β H ai->bC P w ad β H args d->aV (aL H) args->
  (∀p∈e.al,H[p.1]?=some p.2)->(∀i,i<e.aX.length->H[a+i]?=some .hole)->
  iF H b/\∃f tmps assign body,(ge (β.aq b) d.toArray).run P w=.ok (.round (β.aq b) f tmps assign body) w/\
   ∀(c:eb)(h:List eb),∃g w' aO aF,ee P (lone (fm (β.aq b) f tmps assign body .normal) (c::h) w) (lone (c.finish g) h w')/\
    cj P ai ad w β H aF w' aO (ba H (e.aM++newAt a e.aX))/\
    aA P w' aF aO (ba H (e.aM++newAt a e.aX)) e.v g/\aE (aL (ba H (e.aM++newAt a e.aX))) e.v
def F1(P:da)(f:dz)(args:List AV)(al:List (Nat×Obj))(v:PV):Prop:=
 ∀(H:Heap)(w:dg)(ad ai:Nat->Prop)(β:Bd)(a:List c9),cm P w ad β H ai->bC P w ad β H args a->aV (aL H) args->(∀p∈al,H[p.1]?=some p.2)->
  ∃b,(callFunc f a.toArray).run P w=.ok (.value b) w/\aC P w ad v b
def re(H:Heap)(e:aZ):Prop:=(∀p∈e.al,H[p.1]?=some p.2)/\(∀p∈e.aM,p.1<H.length/\p.2≠.hole)
def oc(P:da)(f:dz)(args:List PV)(v:PV):Prop:=
 Enters P f/\∀(w:dg)(ad:Nat->Prop)(a:List c9),(∀k,ad k->k<w.heap.size)->nT P w ad->bu P w ad args a->
  e6 P f a.toArray w fun e w'=>∃b,∃aF:Nat->Prop,e=.returned b/\(∀k,ad k->aF k)/\(∀k,aF k->ad k\/w.heap.size<=k)/\(∀k,aF k->k<w'.heap.size)/\
   w.heap.size<=w'.heap.size/\(∀k,k<w.heap.size->w'.heap[k]?=w.heap[k]?)/\(w'.os=w.os/\w'.output=w.output)/\aC P w' aF v b
def U5(P:da)(f:dz)(args:List PV)(v:PV):Prop:=
 ∀(w:dg)(ad:Nat->Prop)(a:List c9),bu P w ad args a->∃b,(callFunc f a.toArray).run P w=.ok (.value b) w/\aC P w ad v b
def az(P:da)(f:dz)(args:List PV)(v:PV):Prop:=oc P f args v\/U5 P f args v
def lY(H:Heap):AV->Option (PV×Heap)
 | .p v=>some (v,H)
 | .sl b ar ak off len=>match H[b]? with
  |some (.arr k d a es)=>
   if ar=d/\ak=a/\off+len<=es.length then
    if k.gr=true/\es=[]then some (.aH,H)else
    match fj es with
    |some c=>some (.bF (k== .exact&&off+len==es.length) ((c.drop off).take len),H.set b (.arr .frozen ar ak es))
    |none=>none
   else none
  |_=>none
 | .ptr b path=>match H[b]? with
  |some (.box _ (.p t))=>match l6 t path with
   |some s=>some (.cG s,H.set b (.box true (.p t)))
   |none=>none
  |_=>none
 | .map b=>match H[b]? with
  |some (.map _ es)=>some (.fu es,H.set b (.map true es))
  |_=>none
 |_=>none
def oG(H:Heap):List AV->Option (List PV×Heap)
 |[]=>some ([],H)
 |x::r=>match lY H x with
  |some (v,H1)=>match oG H1 r with
   |some (vs,a)=>some (v::vs,a)
   |none=>none
  |none=>none
def iH(P:da)(draw:Bool)(f:dz)(args:List AV)(H:Heap)(K:AV->Heap->Prop):Prop:=
 (∃vs v,args=vs.map .p/\az P f vs v/\K (.p v) H)\/
 (draw=false/\((∃vs H1 v,oG H args=some (vs,H1)/\az P f vs v/\K (.p v) H1)\/(∃H' v,b8 P f H args H' v/\K v H')\/
  (∃e,tK P f args H.length e/\re H e/\K e.v (ba H e.aM++e.aX))\/(∃al v,F1 P f args al v/\(∀p∈al,H[p.1]?=some p.2)/\K (.p v) H)))
def kr(P:da)(ah:dz->Bool)(draw:Bool)(o:Oper)(K:St->Prop)(s:St):Prop:=
 match o.op with
 | .call {callee:=.value f,args,.. }=>(match ev s.env f with
  | .p (.func g fi ca)=>iH P draw g (fi.map .p++args.toList.map (ev s.env)++ca.map .p) s.heap (fun v H'=>K ⟨put o.dst v s.env,H'⟩)
  | .func g fi ca=>iH P draw g (fi++args.toList.map (ev s.env)++ca) s.heap (fun v H'=>K ⟨put o.dst v s.env,H'⟩)
  | .map b=>∃H' v,gX P b s.heap (args.toList.map (ev s.env)) H' v/\K ⟨put o.dst v s.env,H'⟩
  |_=>False)
 |_=>fR P ah o (ev s.env) s.heap fun e=>K (e.app o.dst s)
def guardOf(a:Array Oper)(j:Nat)(e:Env):AV:=
 match(a[j]?).bind (·.dst)with
 |some d=>aS e d
 |none=>.p (.aD [])
def iJ(P:da)(ah:dz->Bool)(draw:Bool)(a:Array Oper):List Oper->(St->Prop)->St->Prop
 |[],K,s=>K s
 |o::r,K,s=>match o.guard with
  |none=>kr P ah draw o (iJ P ah draw a r K) s
  |some (j,want)=>match guardOf a j s.env with
   | .p (.bool t)=>if t=want then kr P ah draw o (iJ P ah draw a r K) s else iJ P ah draw a r K ⟨put o.dst (.p (.aD [])) s.env,s.heap⟩
   | .p (.aD [])=>iJ P ah draw a r K ⟨put o.dst (.p (.aD [])) s.env,s.heap⟩
   |_=>False
def ni:Obj->Option Obj
 | .box _ (.p t)=>some (.box true (.p t))
 | .arr k ar ak es=>if k.gr=true/\es=[]then none else match fj es with
  |some _=>some (.arr .frozen ar ak es)
  |none=>none
 | .map _ es=>some (.map true es)
 |_=>none
def nu(H:Heap):AV->Option (PV×List Nat)
 | .p v=>some (v,[])
 | .sl b ar ak off len=>match H[b]? with
  |some (.arr k d a es)=>
   if ar=d/\ak=a/\off+len<=es.length then
    if k.gr=true/\es=[]then none else
    match fj es with
    |some c=>some (.bF (k== .exact&&off+len==es.length) ((c.drop off).take len),[b])
    |none=>none
   else none
  |_=>none
 | .ptr b path=>match H[b]? with
  |some (.box _ (.p t))=>match l6 t path with
   |some s=>some (.cG s,[b])
   |none=>none
  |_=>none
 | .map b=>match H[b]? with
  |some (.map _ es)=>some (.fu es,[b])
  |_=>none
 |_=>none
def pG(H:Heap):List AV->Option (List PV×List Nat)
 |[]=>some ([],[])
 |x::r=>match nu H x,pG H r with
  |some (v,bs),some (vs,cs)=>some (v::vs,bs++cs)
  |_,_=>none
def mh(H:Heap):List Nat->Option (List (Nat×Obj)×List (Nat×Obj))
 |[]=>some ([],[])
 |b::r=>match H[b]?,mh H r with
  |some o,some (al,aM)=>(match ni o with
   |some o'=>some ((b,o)::al,(b,o')::aM)
   |none=>none)
  |_,_=>none
def iO(P:da)(f:dz)(args:List AV)(H:Heap)(K:aZ->Prop):Prop:=
 (∃vs v,args=vs.map .p/\az P f vs v/\K {v:=.p v})\/
 (∃vs bs al aM v,pG H args=some (vs,bs)/\mh H bs=some (al,aM)/\az P f vs v/\K {v:=.p v,al,aM})\/
 (∃e,tK P f args H.length e/\re H e/\K e)\/
 (∃al v,F1 P f args al v/\(∀p∈al,H[p.1]?=some p.2)/\K {v:=.p v,al})
def jU(P:da)(ah:dz->Bool)(o:Oper)(s:St)(K:aZ->Prop):Prop:=
 match o.op with
 | .call {callee:=.value f,args,.. }=>(match ev s.env f with
  | .p (.func g fi ca)=>iO P g (fi.map .p++args.toList.map (ev s.env)++ca.map .p) s.heap K
  | .func g fi ca=>iO P g (fi++args.toList.map (ev s.env)++ca) s.heap K
  | .map b=>∃e,vk P b (args.toList.map (ev s.env)) s.heap.length e/\re s.heap e/\K e
  |_=>False)
 |_=>fR P ah o (ev s.env) s.heap K
structure Touch where
 i:Nat
 rd:List Nat
 wr:List Nat
def po(a:Nat):List Obj->List Nat
 |[]=>[]
 |_::r=>a::po (a+1) r
def iU(i a:Nat)(e:aZ):Touch:=⟨i,e.al.map (·.1),e.aM.map (·.1)++po a e.aX⟩
def iI(i b:Nat)(e:aZ)(a:List Touch):List Touch:=
 match e.al,e.aM,e.aX with
 |[],[],[]=>a
 |_,_,_=>iU i b e::a
def reach(a:Array Oper):Nat->Nat->Nat->Bool
 |0,_,_=>false
 |f+1,i,j=>match a[j]? with
  |some o=>o.after.toList.any (fun e=>gP .any e&&e.on==i)||o.after.toList.any (fun e=>gP .any e&&decide (i<e.on)&&reach a f i e.on)
  |none=>false
def jQ(u t:Touch):Bool:=u.wr.any (fun b=>t.rd.contains b||t.wr.contains b)||u.rd.any (fun b=>t.wr.contains b)
def lB(a:Array Oper):List Touch->Bool
 |[]=>true
 |t::r=>r.all (fun u=>!jQ u t||reach a a.size u.i t.i)&&lB a r
def gV(P:da)(ah:dz->Bool)(a:Array Oper):List Oper->Nat->List Touch->(St->Prop)->St->Prop
 |[],_,acc,K,s=>lB a acc=true/\K s
 |o::r,i,acc,K,s=>match o.guard with
  |none=>jU P ah o s fun e=>gV P ah a r (i+1) (iI i s.heap.length e acc) K (e.app o.dst s)
  |some (j,want)=>match guardOf a j s.env with
   | .p (.bool t)=>if t=want then jU P ah o s fun e=>gV P ah a r (i+1) (iI i s.heap.length e acc) K (e.app o.dst s)
    else gV P ah a r (i+1) acc K ⟨put o.dst (.p (.aD [])) s.env,s.heap⟩
   | .p (.aD [])=>gV P ah a r (i+1) acc K ⟨put o.dst (.p (.aD [])) s.env,s.heap⟩
   |_=>False
inductive bD where|normal|exit (id:Nat)|ret
mutual
def gE(T:Heap):PV->AV->Prop
 | .aH,x=>x=.p .aH\/match x with
  | .sl b ar _ off len=>ar=0/\off=0/\len=0/\∃k z,T[b]?=some (.arr k 0 z [])/\k.gr=true
  |_=>False
 | .st u fs,x=>x=.p (.st u fs)\/match x with
  | .st u' gs=>u=u'/\l7 T fs gs
  |_=>False
 |v,x=>x=.p v
def l7(T:Heap):List PV->List AV->Prop
 |[],gs=>gs=[]
 |v::vs,gs=>match gs with
  |g::gs=>gE T v g/\l7 T vs gs
  |[]=>False
end
mutual
def Gh(T:Heap):AV->AV->Prop
 | .p v,x=>gE T v x
 | .st u fs,x=>match x with
  | .st u' gs=>u=u'/\nw T fs gs
  |_=>False
 |a,x=>x=a
def nw(T:Heap):List AV->List AV->Prop
 |[],gs=>gs=[]
 |v::vs,gs=>match gs with
  |g::gs=>Gh T v g/\nw T vs gs
  |[]=>False
end
structure qS(s t:St):Prop where
 env:∀x,aS t.env x=aS s.env x\/aS t.env x=.p .undef\/Gh t.heap (aS s.env x) (aS t.env x)
 heap:∀(b:Nat)(o:Obj),t.heap[b]?=some o->o=.hole\/s.heap[b]?=some o\/((s.heap[b]?=none\/s.heap[b]?=some .hole)/\∃k z,o=.arr k 0 z []/\k.gr=true)\/(∃v v',s.heap[b]?=some (.box false v)/\o=.box false v'/\Gh t.heap v v')
 iy:∀x,aE (aL t.heap) (aS t.env x)
 hrefs:∀(b:Nat)(o:Obj),t.heap[b]?=some o->o.refs (aL t.heap)
def cW(N:Nat)(s t:St):Prop:=t=s\/(qS s t/\∀b,b<N->t.heap[b]?=s.heap[b]?)
def kl(Q:bD->St->Prop)(j:Option Code)(s:St):Prop:=
 match j with
 |none=>Q .normal s
 |some (.exit id)=>Q (.exit id) s
 |some .ret=>Q .ret s
 |_=>False
def jO(P:da)(it:AV)(b:Nat)(H:Heap)(K:Heap->Prop):Prop:=
 match it with
 | .p (.func g fi ca)=>∃H' v,b8 P g H (fi.map .p++[.map b]++ca.map .p) H' v/\K H'
 | .func g fi ca=>∃H' v,b8 P g H (fi++[.map b]++ca) H' v/\K H'
 |_=>False
def iX(b:Nat)(env:Env)(Q:bD->St->Prop)(H:Heap):Prop:=
 match H[b]? with
 |some (.loop L)=>L.st≠.busy/\kl Q L.pending ⟨env,H.set b (.loop {L with st:=.exhausted})⟩
 |_=>False
abbrev Cx:=Nat×Nat
def cC(P:da)(ah:dz->Bool)(q:Cx):Code->(bD->St->Prop)->St->Prop
 | .skip,Q,s| .label _,Q,s=>Q .normal s
 | .region _ ops draw,Q,s=>if draw then gV P ah ops ops.toList 0 [] (Q .normal) s else iJ P ah false ops ops.toList (Q .normal) s
 | .seq a b,Q,s=>cC P ah q a (fun e s'=>match e with
  | .normal=>cC P ah q b Q s'
  |e=>Q e s') s
 | .cond c a b,Q,s=>match ev s.env c with
  | .p (.bool t)=>if t then cC P ah q a Q s else cC P ah q b Q s
  |_=>False
 | .block id b,Q,s=>cC P ah q b (fun e s'=>match e with
  | .exit i=>if i=id then Q .normal s' else Q (.exit i) s'
  |e=>Q e s') s
 | .scope b,Q,s=>cC P ah q b Q s
 | .loop b,Q,s=>∃I:Nat->St->Prop,(∃n t,cW q.2 s t/\I n t)/\∀n t,I n t->cC P ah q b (fun e s'=>match e with
  | .normal=>∃m g,m<n/\cW q.2 s' g/\I m g
  |e=>Q e s') t
 | .rangeFunc f h a b,Q,s=>q.2<=s.heap.length/\∃d:Env,(∀x,aS d x=aS s.env x)/\jO P (ev s.env f) s.heap.length (s.heap++[.loop ⟨.ready,none,q.1,h.toList,a,b,d⟩]) (iX s.heap.length s.env Q)
 | .exit id,Q,s=>Q (.exit id) s
 | .ret,Q,s=>Q .ret s
 |_,_,_=>False
def bG(fr:eb)(t:Array c9)(ds:List ea)(todo:List Item):eb:={fr with tmps:=t,defers:=ds,todo,mode:=.run}
section
variable{P:da}{fr:eb}{t:Array c9}{ds:List ea}{k:List Item}{cs:List eb}{w:dg}
def fS(t:Array c9):dl->c9
 | .tmp x=>t.getD x undef
 | .const v=>v
 | .global g=>.pointer (some ⟨g,0,none⟩)
 | .func f=>.func (.func f) #[] #[]
theorem eval_eq(fr:eb):fr.eval=fS fr.tmps:=by funext x;cases x<;>rfl
theorem aQA:step P (lone (bG fr t ds (.code .skip::k)) cs w)=.next (lone (bG fr t ds k) cs w):=
 dp (by simp[stepG,hr,bG])
theorem au1{l:Nat}:step P (lone (bG fr t ds (.code (.label l)::k)) cs w)=.next (lone (bG fr t ds k) cs w):=
 dp (by simp[stepG,hr,bG])
theorem Zy{id:Nat}:step P (lone (bG fr t ds (.inBlock id::k)) cs w)=.next (lone (bG fr t ds k) cs w):=
 dp (by simp[stepG,hr,bG])
theorem Zx{b:Code}:step P (lone (bG fr t ds (.inScope b::k)) cs w)=.next (lone (bG fr t ds k) cs w):=
 dp (by simp[stepG,hr,bG])
theorem FI{a b:Code}:step P (lone (bG fr t ds (.code (.seq a b)::k)) cs w)=.next (lone (bG fr t ds (.code a::.code b::k)) cs w):=
 dp (by simp[stepG,hr,bG])
theorem aQv{c:dl}{x y:Code}{b:Bool}(h:fS t c= .bool b):
 step P (lone (bG fr t ds (.code (.cond c x y)::k)) cs w)=.next (lone (bG fr t ds (.code (if b then x else y)::k)) cs w):=
 dp (by simp[stepG,hr,bG,eval_eq,h])
theorem AL{id:Nat}{c:Code}:step P (lone (bG fr t ds (.code (.block id c)::k)) cs w)=.next (lone (bG fr t ds (.code c::.inBlock id::k)) cs w):=
 dp (by simp[stepG,hr,bG])
theorem EG{c:Code}:step P (lone (bG fr t ds (.code (.scope c)::k)) cs w)=.next (lone (bG fr t ds (.code c::.inScope c::k)) cs w):=
 dp (by simp[stepG,hr,bG])
theorem aQy{c:Code}:step P (lone (bG fr t ds (.code (.loop c)::k)) cs w)=.next (lone (bG fr t ds (.code c::.inLoop c::k)) cs w):=
 dp (by simp[stepG,hr,bG])
theorem ZU{c:Code}:step P (lone (bG fr t ds (.inLoop c::k)) cs w)=.next (lone (bG fr t ds (.code c::.inLoop c::k)) cs w):=
 dp (by simp[stepG,hr,bG])
theorem aQx{id:Nat}{a:List Item}(h:exitTo id k=some a):step P (lone (bG fr t ds (.code (.exit id)::k)) cs w)=.next (lone (bG fr t ds a) cs w):=
 dp (by simp[stepG,hr,bG,h])
theorem V6{id:Nat}{a:Array Oper}:
 step P (lone (bG fr t ds (.code (.region id a false)::k)) cs w)=.next (lone (bG fr t ds (.inRegion a (ip a.size)::k)) cs w):=
 dp (by simp[stepG,hr,bG])
theorem aQw{id:Nat}{a:Array Oper}:
 step P (lone (bG fr t ds (.code (.region id a true)::k)) cs w)=
  .next (lone (bG fr t ds (.inRegion a (gN (P.follows .mixedOrders) a (w.tape w.drawn (.order fr.fn id)))::k)) cs {w with drawn:=w.drawn+1}):=
 dp (by simp[stepG,hr,bG,choose,g9,Question.forced,Question.cut])
theorem Lx{a:Array Oper}:step P (lone (bG fr t ds (.inRegion a []::k)) cs w)=.next (lone (bG fr t ds k) cs w):=
 dp (by simp[stepG,hr,bG])
def oH(dst:Option Tmp)(v:c9)(t:Array c9):Array c9:=
 match dst with
 |some d=>t.setIfInBounds d v
 |none=>t
theorem oP{a:Array Oper}{i:Nat}{r:List Nat}{o:Oper}(c:a[i]?=some o)(v:c9):
 (bG fr t ds (.inRegion a (i::r)::k)).finish v=bG fr (oH o.dst v t) ds (.inRegion a r::k):=by
 cases b:o.dst<;>simp[Frame.finish,bG,c,b,oH]
theorem Nl{a:Array Oper}{i:Nat}{r:List Nat}{o:Oper}(b:a[i]?=some o)(c:gA o (yielded a t)=false):
 step P (lone (bG fr t ds (.inRegion a (i::r)::k)) cs w)=.next (lone (bG fr (oH o.dst undef t) ds (.inRegion a r::k)) cs w):=by
 rw[<-oP b];exact dp (by simp only[bG];simp[stepG,hr,b,c])
theorem Zb{o:Oper}(a:∀c,o.op≠ .defer c)(r:Option Nat)(A:Nat->Call->GStep)(B:GStep):
 (match r,o.op with
  |some l,.defer c=>A l c
  |_,_=>B)=B:=by
 cases r with
 |none=>rfl
 |some l=>cases h:o.op<;>first|rfl|exact absurd h (a _)
theorem aQz{a:Array Oper}{i:Nat}{r:List Nat}{o:Oper}{fr:eb}(e:fr.todo= .inRegion a (i::r)::k)(d:a[i]?=some o)(b:∀c,o.op≠ .defer c):
 hv P true fr cs none w=ht P true fr cs none (dq (fS fr.tmps) o) w:=by
 simp only[hv,Frame.oper?,e,d,eval_eq];exact Zb b _ _ _
theorem Ex{f:Bool}{a:Array Oper}{i:Nat}{r:List Nat}{o:Oper}(b:a[i]?=some o)(e:gA o (yielded a t)=true)(d:∀c,o.op≠ .defer c):
 stepG P f {frame:=bG fr t ds (.inRegion a (i::r)::k),callers:=cs,status:=.running,dying:=none} w=
  ht P true (bG fr t ds (.inRegion a (i::r)::k)) cs none (dq (fS t) o) w:=by
 have h:=aQz (P:=P) (cs:=cs) (w:=w) (fr:=bG fr t ds (.inRegion a (i::r)::k)) rfl b d;simp only[bG]at h⊢;simp[stepG,hr,b,e,h]
theorem ux{a:Array Oper}{i:Nat}{r:List Nat}{o:Oper}{n:Next}{b:c9}{w':dg}(d:a[i]?=some o)(h:gA o (yielded a t)=true)
 (e:∀c,o.op≠.defer c)(g:(dq (fS t) o).run P w=.ok n w')(f:n=.value b\/n=.skip/\b=undef):
 step P (lone (bG fr t ds (.inRegion a (i::r)::k)) cs w)=.next (lone (bG fr (oH o.dst b t) ds (.inRegion a r::k)) cs w'):=by
 rw[<-oP d];refine dp ?_;rw[Ex d h e];rcases f with rfl|⟨rfl,rfl⟩<;>simp[ht,g,bG]
theorem xt{a:Array Oper}{i:Nat}{r:List Nat}{o:Oper}{f:dz}{args:Array c9}{w':dg}(d:a[i]?=some o)(g:gA o (yielded a t)=true)
 (b:∀c,o.op≠.defer c)(e:(dq (fS t) o).run P w=.ok (.enter f args) w'):
 step P (lone (bG fr t ds (.inRegion a (i::r)::k)) cs w)=.next (lone (fv P f args .normal) (bG fr t ds (.inRegion a (i::r)::k)::cs) w'):=by
 refine dp ?_;rw[Ex d g b];simp[ht,e,bG]
theorem MG{a:Array Oper}{i:Nat}{r:List Nat}{o:Oper}{l:Nat}{f:dz}{tmps:Array c9}{assign body:Code}{w':dg}(d:a[i]?=some o)(g:gA o (yielded a t)=true)
 (b:∀c,o.op≠.defer c)(e:(dq (fS t) o).run P w=.ok (.round l f tmps assign body) w'):
 step P (lone (bG fr t ds (.inRegion a (i::r)::k)) cs w)=.next (lone (fm l f tmps assign body .normal) (bG fr t ds (.inRegion a (i::r)::k)::cs) w'):=by
 refine dp ?_;rw[Ex d g b];simp[ht,e,bG]
end
end Go.an
namespace Go.an
variable[Gl]
mutual
theorem aE.mono{S T:Nat×Nat->Prop}(h:∀x,S x->T x):∀v,aE S v->aE T v
 | .p _,_=>by simp[aE]
 | .ptr b _,c| .ct b _ _ _ _,c| .sl b _ _ _ _,c| .map b,c=>by simp only[aE]at*;exact h _ c
 | .func _ a b,c=>by simp only[aE]at*;exact⟨aV.mono h a c.1,aV.mono h b c.2⟩
 | .st _ fs,c=>by simp only[aE]at*;exact aV.mono h fs c
 | .aD vs,c=>by simp only[aE]at*;exact aV.mono h vs c
theorem aV.mono{S T:Nat×Nat->Prop}(h:∀x,S x->T x):∀vs,aV S vs->aV T vs
 |[],_=>by simp[aV]
 |v::vs,c=>by simp only[aV]at*;exact⟨aE.mono h v c.1,aV.mono h vs c.2⟩
end
structure dc(P:da)(n:Nat)(ai ad:Nat->Prop)(β:Bd)(s:St)(t:Array c9)(w:dg):Prop where
 heap:cm P w ad β s.heap ai
 env:∀x,aA P w ad β s.heap (aS s.env x) (t.getD x undef)
 iy:∀x,aE (aL s.heap) (aS s.env x)
 size:t.size=n
structure qR(N:Nat)(β:Bd)(H:Heap)(aO:Bd)(H':Heap):Prop where
 box:∀b,b<N->aL H (b,0)->nR H' b->nR H b/\aO.aq b=β.aq b
 it:∀b,b<N->aL H (b,0)->nS H' b->nS H b/\aO.aq b=β.aq b
 map:∀b,b<N->aL H (b,0)->pz H' b->pz H b/\aO.aq b=β.aq b
 arr:∀b ar ak k es,b<N->aL H (b,ar)->fp H' b ar ak k es->∃k0 iA,fp H b ar ak k0 iA/\iA.length<=es.length/\(dA k es↔dA k0 iA)/\(¬dA k es->aO.aq b=β.aq b/\aO.cap b=β.cap b)
 loop:∀b,b<N->aL H (b,0)->iF H' b->iF H b/\aO.aq b=β.aq b
theorem cM.n{N:Nat}{β:Bd}{H:Heap}{aO:Bd}{H':Heap}(h:cM β H aO H'):qR N β H aO H':=
 ⟨fun b _=>h.box b,fun b _=>h.it b,fun b _=>h.map b,fun b ar ak k es _=>h.arr b ar ak k es,fun b _=>h.loop b⟩
theorem qR.full{β:Bd}{H:Heap}{aO:Bd}{H':Heap}(h:qR H.length β H aO H'):cM β H aO H':=by
 have lt:∀b v,aL H (b,v)->b<H.length:=fun b v⟨o,c,_⟩=>(hz.1 c).1;exact⟨fun b x=>h.box b (lt _ _ x) x,fun b x=>h.it b (lt _ _ x) x,fun b x=>h.map b (lt _ _ x) x,fun b ar ak k a x=>h.arr b ar ak k a (lt _ _ x) x,fun b x=>h.loop b (lt _ _ x) x⟩
theorem qR.trans{N:Nat}{β j l:Bd}{H H1 i:Heap}(h:qR N β H j H1)(hi:∀x,x.1<N->aL H x->aL H1 x)(g:qR N j H1 l i):qR N β H l i:=by
 refine⟨?_,?_,?_,?_,?_⟩
 ·intro b a c hl;obtain⟨d,a2⟩:=g.box b a (hi (b,0) a c) hl;obtain⟨e,f⟩:=h.box b a c d;exact⟨e,a2.trans f⟩
 ·intro b a c hl;obtain⟨d,a2⟩:=g.it b a (hi (b,0) a c) hl;obtain⟨e,f⟩:=h.it b a c d;exact⟨e,a2.trans f⟩
 ·intro b a c hl;obtain⟨d,a2⟩:=g.map b a (hi (b,0) a c) hl;obtain⟨e,f⟩:=h.map b a c d;exact⟨e,a2.trans f⟩
 ·intro b ar ak k o a c hl;obtain⟨k1,p,d,a2,a3,a4⟩:=g.arr b ar ak k o a (hi (b,ar) a c) hl;obtain⟨k0,iA,e,f,m,n⟩:=h.arr b ar ak k1 p a c d;refine⟨k0,iA,e,i2 f a2,a3.trans m,fun a=>?_⟩;obtain⟨c1,c2⟩:=a4 a;obtain⟨d1,d2⟩:=n (fun x=>a (a3.2 x));exact⟨c1.trans d1,c2.trans d2⟩
 ·intro b a c hl;obtain⟨d,a2⟩:=g.loop b a (hi (b,0) a c) hl;obtain⟨e,f⟩:=h.loop b a c d;exact⟨e,a2.trans f⟩
structure ek(N:Nat)(ai ad:Nat->Prop)(w:dg)(β:Bd)(H:Heap)(lj aF:Nat->Prop)(w':dg)(aO:Bd)(H':Heap):Prop where
 fe:∀k,ai k->lj k
 cd:∀k,ad k->aF k
 fresh:∀k,aF k->ad k\/¬ai k
 ext:Ext ai ad w w'
 step:qR N β H aO H'
 gh:∀x,x.1<N->aL H x->aL H' x
 loop:∀b,b<N->iF H b->iF H' b
theorem ek.refl(N:Nat)(ai ad:Nat->Prop)(w:dg)(β:Bd)(H:Heap):ek N ai ad w β H ai ad w β H:=
 ⟨fun _ h=>h,fun _ h=>h,fun _ h=>.inl h,Ext.refl _ _ _,(cM.refl _ _).n,fun _ _ h=>h,fun _ _ h=>h⟩
theorem Ext.trans{ai ad lj aF:Nat->Prop}{w w1 b:dg}(c:∀k,ai k->lj k)(hi:∀k,ad k->aF k)(h:Ext ai ad w w1)(a:Ext lj aF w1 b):Ext ai ad w b:=
 ⟨i2 h.size a.size,fun k hk=>(a.same k (hk.imp (c k) (hi k))).trans (h.same k hk),a.io.1.trans h.io.1,a.io.2.trans h.io.2⟩
theorem ek.trans{N:Nat}{ai ad g e i f:Nat->Prop}{w w1 j:dg}{β l m:Bd}{H H1 d:Heap}(h:ek N ai ad w β H g e w1 l H1)(a:ek N g e w1 l H1 i f j m d):ek N ai ad w β H i f j m d:=
 ⟨fun k x=>a.fe k (h.fe k x),fun k x=>a.cd k (h.cd k x),fun k x=>(a.fresh k x).elim (fun y=>h.fresh k y) (fun y=>.inr fun z=>y (h.fe k z)),h.ext.trans h.fe h.cd a.ext,
  h.step.trans h.gh a.step,fun x c hx=>a.gh x c (h.gh x c hx),fun b c n=>a.loop b c (h.loop b c n)⟩
theorem cj.fB{P:da}{N:Nat}{ai ad aF:Nat->Prop}{w w':dg}{β aO:Bd}{H H':Heap}(h:cj P ai ad w β H aF w' aO H'):ek N ai ad w β H ai aF w' aO H':=
 ⟨fun _ x=>x,h.cd,h.fresh,h.ext,h.step.n,fun x _=>h.gh x,fun b _=>h.loop b⟩
section
variable{P:da}{ai ad aF:Nat->Prop}{w w':dg}{β aO:Bd}{H H':Heap}
theorem fH.xJ(a:w'.heap=w.heap){b:Nat}{o:Obj}(h:fH P w ad β H ai b o)(g:o.refs (aL H)):fH P w' ad β H ai b o:=by
 have p:=fun(v:AV) cs m=>bw.mono (P:=P) (w:=w) (w':=w') (ad:=ad) (aF:=ad) (β:=β) (aO:=β) (H:=H) (H':=H) (fun _ x=>x) (fun k _=>by rw[a]) (cM.refl β H) v cs m;have q:=fun l(v:List AV) cs m=>bX.mono (P:=P) (w:=w) (w':=w') (ad:=ad) (aF:=ad) (β:=β) (aO:=β) (H:=H) (H':=H) (fun _ x=>x) (fun k _=>by rw[a]) (cM.refl β H) l v cs m;have r:=fun(i:List (PV×PV)) f=>cR.mono (P:=P) (w:=w) (w':=w') (ad:=ad) (aF:=ad) (fun _ x=>x) (fun k _=>by rw[a]) i f;cases o with
 |hole=>trivial
 |dead=>trivial
 |box fz t=>
  obtain⟨cs,T,c,d,e⟩:=h;exact⟨cs,T,by rw[a];exact c,p _ _ g d,e⟩
 |arr k ar ak i=>
  rcases h with h|⟨cs,T,n,rest,c,d,e⟩
  ·exact .inl h
  ·exact .inr ⟨cs,T,n,rest,by rw[a];exact c,q _ _ _ g d,e⟩
 |map fz i=>
  obtain⟨f,clock,c,d,e⟩:=h;exact⟨f,clock,by rw[a];exact c,r _ _ d,e⟩
 |dK ks vs=>
  obtain⟨f,clock,c,d,e,j⟩:=h;exact⟨f,clock,by rw[a];exact c,bu.mono (fun _ x=>x) (fun _ _=>by rw[a]) _ _ d,bC.mono (fun _ x=>x) (fun _ _=>by rw[a]) (cM.refl _ _) _ _ g e,j⟩
 |dO s pos=>
  obtain⟨bs,c,d⟩:=h;exact⟨bs,by rw[a];exact c,d⟩
 |loop L=>
  obtain⟨tmps,defers,fn,c,d,e,j⟩:=h;exact⟨tmps,defers,fn,by rw[a];exact c,d,fun x=>aA.mono (fun _ x=>x) (fun _ _=>by rw[a]) (cM.refl _ _) _ _ (g x) (e x),j⟩
theorem cm.xJ(a:w'.heap=w.heap)(h:cm P w ad β H ai):cm P w' ad β H ai:=
 ⟨fun b o c=>(h.cX b o c).xJ a (h.refs b o c),h.inj,h.refs,fun k hk=>by rw[a];exact h.cd k hk,fun k hk=>by rw[a];exact h.fe k hk,h.jG.mono (fun _ x=>x) (fun _ _=>by rw[a])⟩
theorem cm.pq(h:cm P w ad β H ai){b:Nat}{o:Obj}(e:H[b]?=some o)(hl:o.live):β.aq b<w.heap.size:=by
 have c:=h.cX b o e;cases o with
 |hole=>exact hl.elim
 |dead=>exact hl.elim
 |box fz t=>obtain⟨cs,T,a,_⟩:=c;exact(bo.1 a).1
 |arr k ar ak es=>
  rcases c with c|⟨cs,T,f,rest,a,_⟩
  ·exact(hl c).elim
  ·exact(bo.1 a).1
 |map fz es=>obtain⟨d,clock,a,_⟩:=c;exact(bo.1 a).1
 |dK ks vs=>obtain⟨d,clock,a,_⟩:=c;exact(bo.1 a).1
 |dO s pos=>obtain⟨bs,a,_⟩:=c;exact(bo.1 a).1
 |loop L=>obtain⟨_,_,_,a,_⟩:=c;exact(bo.1 a).1
theorem cj.set{b:Nat}{o':Obj}(g:cm P w ad β H ai)(q:b<H.length)(m:∀x,x≠b->aO.aq x=β.aq x/\aO.cap x=β.cap x)
 (f:∀k,ad k->aF k)(O:∀k,aF k->ad k\/(k=aO.aq b/\o'.live))(af:∀k,aF k->k<w'.heap.size)
 (U:w.heap.size<=w'.heap.size)(I:∀k,(k≠aO.aq b\/¬o'.live)->k<w.heap.size->w'.heap[k]?=w.heap[k]?)
 (E:o'.live->w.heap.size<=aO.aq b\/(aO.aq b=β.aq b/\(∃o,H[b]?=some o/\o.live)/\((∀k,k=β.aq b->w'.heap[k]?=w.heap[k]?)\/¬ad (β.aq b))/\¬ai (β.aq b)))
 (aN:cM β H aO (H.set b o'))(ah:fH P w' aF aO (H.set b o') ai b o')(aj:o'.refs (aL (H.set b o')))(ag:∀(o:Obj)(v:Nat),H[b]?=some o->o.has v->o'.has v)(ae:∀L,H[b]?=some (.loop L)->∃B,o'=.loop B)(ac:w'.os=w.os/\w'.output=w.output:=by exact⟨rfl,rfl⟩):
 cj P ai ad w β H aF w' aO (H.set b o'):=by
 have z:∀x o,x≠b->H[x]?=some o->o.live->¬ad (β.aq x)->o'.live->β.aq x≠aO.aq b:=by
  intro x o hx d hl i r he;rcases E r with a|⟨a,⟨am,c,e⟩,_⟩
  ·have:=g.pq d hl;omega
  ·rw[a]at he;exact hx (g.inj x b o am d c hl e i he)
 have S:o'.live->¬ai (aO.aq b):=by
  intro hl F;rcases E hl with a|⟨a,_,_,c⟩
  ·have:=g.fe _ F;omega
  ·rw[a]at F;exact c F
 have j:∀k,ai k\/ad k->w'.heap[k]?=w.heap[k]?:=by
  intro k hk;have Q:k<w.heap.size:=hk.elim (g.fe k) (g.cd k)
  by_cases u:k=aO.aq b
  ·by_cases hl:o'.live
   ·rcases hk with hk|hk
    ·exact(S hl (u▸hk)).elim
    ·rcases E hl with a|⟨a,_,c,_⟩
     ·omega
     ·rcases c with c|c
      ·exact c k (u.trans a)
      ·exact(c (by rw[<-a,<-u];exact hk)).elim
   ·exact I k (.inr hl) Q
  ·exact I k (.inl u) Q
 have al:∀x,aL H x->aL (H.set b o') x:=by
  rintro⟨x,v⟩ ⟨o,d,R⟩
  by_cases hx:x=b
  ·subst hx;exact⟨o',by simp[hB q],ag o v d R⟩
  ·exact⟨o,by simp only;rw[hC (i8 hx)];exact d,R⟩
 have hrefs:∀v,aE (aL H) v->aE (aL (H.set b o')) v:=aE.mono al;refine⟨f,fun k hk=>(O k hk).imp id (fun(h:k=aO.aq b/\o'.live)=>h.1▸S h.2),⟨U,j,ac⟩,aN,⟨?_,?_,?_,af,fun k hk=>i4 (g.fe k hk) U,g.jG.mono f (fun k hk=>j k (.inr hk))⟩,al,?_⟩
 ·intro x o d
  by_cases hx:x=b
  ·subst hx;rw[hB q]at d;cases d;exact ah
  ·rw[hC (i8 hx)]at d;have l:=g.cX x o d;have A:=g.refs x o d;have N:=(m x hx).1;have D:=(m x hx).2;have hs:o.live->w'.heap[aO.aq x]?=w.heap[β.aq x]?:=by
    intro hl;rw[N]
    by_cases i:ad (β.aq x)
    ·exact j _ (.inr i)
    refine I _ ?_ (g.pq d hl)
    by_cases r:o'.live
    ·exact .inl (z x o hx d hl i r)
    ·exact .inr r
   have held:∀fz,o.live->cQ ad β ai fz x->cQ aF aO ai fz x:=by
    intro fz hl p;unfold cQ at p⊢;rw[N];cases fz with
    |true=>simp only[if_true]at p⊢;exact f _ p
    |false=>
     simp only[c7,if_false]at p⊢;refine⟨fun h=>?_,p.2⟩;rcases O _ h with h|⟨h,r⟩
     ·exact p.1 h
     ·exact z x o hx d hl p.1 r h
   cases o with
   |hole=>trivial
   |dead=>trivial
   |box fz t=>
    obtain⟨cs,T,a,c,e,n⟩:=l;exact⟨cs,T,(hs trivial).trans a,bw.mono f (fun k hk=>j k (.inr hk)) aN _ _ A c,held _ trivial e,n⟩
   |arr k ar ak es=>
    rcases l with l|⟨cs,T,X,rest,a,c,e,n,Y,Z,aa,ab⟩
    ·exact .inl l
    ·by_cases hl:dA k es
     ·exact .inl hl
     ·refine .inr ⟨cs,T,X,rest,(hs hl).trans a,bX.mono f (fun k hk=>j k (.inr hk)) aN _ _ _ A c,e,?_,?_,?_,held _ hl aa,ab⟩
      ·rw[D];exact n
      ·rw[D];exact Y
      ·rw[D];exact Z
   |map fz es=>
    obtain⟨C,clock,a,c,e⟩:=l;exact⟨C,clock,(hs trivial).trans a,cR.mono f (fun k hk=>j k (.inr hk)) _ _ c,held _ trivial e⟩
   |dK ks vs=>
    obtain⟨C,clock,a,c,e,n⟩:=l;exact⟨C,clock,(hs trivial).trans a,bu.mono f (fun k hk=>j k (.inr hk)) _ _ c,bC.mono f (fun k hk=>j k (.inr hk)) aN _ _ A e,held _ trivial n⟩
   |dO s pos=>
    obtain⟨bs,a,c,e⟩:=l;exact⟨bs,(hs trivial).trans a,c,held _ trivial e⟩
   |loop L=>
    obtain⟨tmps,defers,fn,a,c,e,n⟩:=l;exact⟨tmps,defers,fn,(hs trivial).trans a,c,fun x=>aA.mono f (fun k hk=>j k (.inr hk)) aN _ _ (A x) (e x),held _ trivial n⟩
 ·intro x y V W a c J K i he
  by_cases hx:x=b<;>by_cases hy:y=b
  ·rw[hx,hy]
  ·subst hx;rw[hB q]at a;cases a;rw[hC (i8 hy)]at c;rw[(m y hy).1]at he;exact(z y W hy c K (fun hi=>i (he▸f _ hi)) J he.symm).elim
  ·subst hy;rw[hB q]at c;cases c;rw[hC (i8 hx)]at a;rw[(m x hx).1]at he;rw[(m x hx).1]at i;exact(z x V hx a J (fun hi=>i (f _ hi)) K he).elim
  ·rw[hC (i8 hx)]at a;rw[hC (i8 hy)]at c;rw[(m x hx).1,(m y hy).1]at he;rw[(m x hx).1]at i;exact g.inj x y V W a c J K (fun hi=>i (f _ hi)) he
 ·intro x o d
  by_cases hx:x=b
  ·subst hx;rw[hB q]at d;cases d;exact aj
  ·rw[hC (i8 hx)]at d;have:=g.refs x o d;cases o with
   |box fz t=>exact hrefs _ this
   |arr k ar ak es=>exact cB.2 fun v G=>hrefs v (cB.1 this v G)
   |dK ks vs=>exact cB.2 fun v G=>hrefs v (cB.1 this v G)
   |loop L=>exact fun x=>hrefs _ (this x)
   |_=>trivial
 ·rintro x ⟨L,M⟩
  by_cases hx:x=b
  ·subst hx;obtain⟨B,rfl⟩:=ae L M;exact⟨B,hB q⟩
  ·exact⟨L,by rw[hC (i8 hx)];exact M⟩
end
end Go.an
namespace Go.an
variable[Gl]
def bA(P:da)(o:Oper)(ρ:dl->AV)(a:Nat)(e:aZ):Prop:=
 ∀(H:Heap)(w:dg)(ad ai:Nat->Prop)(β:Bd)(ρc:dl->c9),
  cm P w ad β H ai->(∀x∈o.op.operands,aA P w ad β H (ρ x) (ρc x)/\aE (aL H) (ρ x))->(∀p∈e.al,H[p.1]?=some p.2)->(∀i,i<e.aX.length->H[a+i]?=some .hole)->
  ∃n b w' aO aF,(dq ρc o).run P w=.ok n w'/\(n=.value b\/n=.skip/\b=undef)/\
   cj P ai ad w β H aF w' aO (ba H (e.aM++newAt a e.aX))/\aA P w' aF aO (ba H (e.aM++newAt a e.aX)) e.v b/\
   aE (aL (ba H (e.aM++newAt a e.aX))) e.v
section
variable{P:da}{ai ad aF:Nat->Prop}{w w':dg}{β aO:Bd}{H H':Heap}
theorem cj.refl(h:cm P w ad β H ai):cj P ai ad w β H ad w β H:=
 ⟨fun _ x=>x,fun _ x=>.inl x,Ext.refl _ _ _,cM.refl _ _,h,fun _ x=>x,fun _ x=>x⟩
theorem bA.same{o:Oper}{ρ:dl->AV}{c:Nat}{v:AV}{al:List (Nat×Obj)}
 (h:∀(H:Heap)(w:dg)(ad ai:Nat->Prop)(β:Bd)(ρc:dl->c9),cm P w ad β H ai->(∀x∈o.op.operands,aA P w ad β H (ρ x) (ρc x)/\aE (aL H) (ρ x))->
  (∀p∈al,H[p.1]?=some p.2)->∃a,(dq ρc o).run P w=.ok (.value a) w/\aA P w ad β H v a/\aE (aL H) v):
 bA P o ρ c {v,al}:=by
 intro H w ad ai β ρc b i g _;obtain⟨a,d,e,f⟩:=h H w ad ai β ρc b i g;exact⟨_,a,w,β,ad,d,.inl rfl,by simpa[newAt,ba]using cj.refl b,by simpa[newAt,ba]using e,by simpa[newAt,ba]using f⟩
theorem cj.trans{i j:Nat->Prop}{w1 m:dg}{n o:Bd}{H1 g:Heap}(h:cj P ai ad w β H i w1 n H1)(c:cj P ai i w1 n H1 j m o g):cj P ai ad w β H j m o g:=by
 refine⟨fun k x=>c.cd k (h.cd k x),fun k x=>(c.fresh k x).elim (h.fresh k) .inr,h.ext.trans (fun _ x=>x) h.cd c.ext,⟨?_,?_,?_,?_,?_⟩,c.rel,fun b a=>c.gh b (h.gh _ a),fun b a=>c.loop b (h.loop b a)⟩
 ·intro b a hl;obtain⟨d,a2⟩:=c.step.box b (h.gh _ a) hl;obtain⟨e,f⟩:=h.step.box b a d;exact⟨e,a2.trans f⟩
 ·intro b a hl;obtain⟨d,a2⟩:=c.step.it b (h.gh _ a) hl;obtain⟨e,f⟩:=h.step.it b a d;exact⟨e,a2.trans f⟩
 ·intro b a hl;obtain⟨d,a2⟩:=c.step.map b (h.gh _ a) hl;obtain⟨e,f⟩:=h.step.map b a d;exact⟨e,a2.trans f⟩
 ·intro b ar ak k r a hl;obtain⟨k1,s,d,a2,a3,a4⟩:=c.step.arr b ar ak k r (h.gh _ a) hl;obtain⟨k0,iA,e,f,p,q⟩:=h.step.arr b ar ak k1 s a d;refine⟨k0,iA,e,i2 f a2,a3.trans p,fun l=>?_⟩;obtain⟨c1,c2⟩:=a4 l;obtain⟨d1,d2⟩:=q (fun x=>l (a3.2 x));exact⟨c1.trans d1,c2.trans d2⟩
 ·intro b a hl;obtain⟨d,a2⟩:=c.step.loop b (h.gh _ a) hl;obtain⟨e,f⟩:=h.step.loop b a d;exact⟨e,a2.trans f⟩
theorem DI(H:Heap)(l r:List (Nat×Obj)):ba H (l++r)=ba (ba H l) r:=by
 induction l generalizing H with
 |nil=>rfl
 |cons p l a=>obtain⟨b,o⟩:=p;simp[ba,a]
theorem qf(H:Heap)(l:List (Nat×Obj)):(ba H l).length=H.length:=by
 induction l generalizing H with
 |nil=>rfl
 |cons p l a=>obtain⟨b,o⟩:=p;simp[ba,a]
theorem z6(H T:Heap)(l:List (Nat×Obj))(h:∀p∈l,p.1<H.length):ba (H++T) l=ba H l++T:=by
 induction l generalizing H with
 |nil=>rfl
 |cons p l c=>
  obtain⟨b,o⟩:=p;have a:b<H.length:=h (b,o) s_;simp only[ba];rw[List.set_append_left _ _ a,c];intro q hq;rw[h8];exact h q (by simp[hq])
theorem DW(H:Heap)(l:List Obj):ba (H++hA l.length .hole) (newAt H.length l)=H++l:=by
 induction l generalizing H with
 |nil=>simp[newAt,ba]
 |cons o l a=>
  simp only[newAt,ba,hS,hO];rw[h3 _ _ (ix _)];simp only[Nat.sub_self,h4];have:=a (H++[o]);simp only[hU,List.length_singleton,hH,List.singleton_append]at this;exact this
theorem lx(H:Heap)(m b:Nat):(H++hA m Obj.hole)[b]?=if b<H.length then H[b]? else if b<H.length+m then some .hole else none:=by
 by_cases h:b<H.length
 ·simp[h,hL]
 ·rw[hP o_];simp only[hG,h,if_false]
  by_cases a:b<H.length+m
  ·simp[a,show b-H.length<m by omega]
  ·simp[a,show¬(b-H.length<m)by omega]
theorem oO{H:Heap}{m b:Nat}{o:Obj}(h:(H++hA m Obj.hole)[b]?=some o):H[b]?=some o\/o=.hole:=by
 rw[lx]at h
 split at h
 ·exact .inl h
 ·split at h
  ·exact .inr (by simpa using h.symm)
  ·simp at h
theorem nM(H:Heap)(m:Nat)(b:Nat×Nat)(h:aL H b):aL (H++hA m Obj.hole) b:=by
 obtain⟨o,a,d⟩:=h;have c:b.1<H.length:=(hz.1 a).1;exact⟨o,by rw[lx,if_pos c];exact a,d⟩
theorem qh(β:Bd)(H:Heap)(m:Nat):cM β H β (H++hA m .hole):=by
 refine⟨?_,?_,?_,?_,?_⟩
 ·rintro b _ ⟨fz,t,h⟩;rcases oO h with h|h<;>simp_all [nR]
 ·rintro b _ ⟨fz,t,h⟩;rcases oO h with h|h<;>simp_all [nS]
 ·rintro b _ ⟨o,h,a⟩;rcases oO h with h|rfl
  ·exact⟨⟨o,h,a⟩,rfl⟩
  ·exact a.elim
 ·intro b ar ak k c _ h;rcases oO h with h|h
  ·exact⟨k,c,h,ix _,hw,fun _=>⟨rfl,rfl⟩⟩
  ·simp at h
 ·rintro b _ ⟨L,h⟩;rcases oO h with h|h<;>simp_all [iF]
theorem Obj.Aw{S T:Nat×Nat->Prop}(h:∀x,S x->T x):∀{o:Obj},o.refs S->o.refs T
 | .box _ t,a=>aE.mono h t a
 | .arr _ _ _ es,a=>aV.mono h es a
 | .dK _ vs,a=>aV.mono h vs a
 | .loop _L,a=>fun x=>aE.mono h _ (a x)
 | .hole,_| .dead,_| .map _ _,_| .dO _ _,_=>trivial
theorem cm.n9(m:Nat)(h:cm P w ad β H ai):cm P w ad β (H++hA m .hole) ai:=by
 refine⟨?_,?_,?_,h.cd,h.fe,h.jG⟩
 ·intro b o d;rcases oO d with d|rfl
  ·have e:=h.cX b o d;have g:=h.refs b o d;have st:=qh β H m;cases o with
   |hole=>trivial
   |dead=>trivial
   |box fz t=>
    obtain⟨cs,T,a,c,f⟩:=e;exact⟨cs,T,a,bw.mono (fun _ x=>x) (fun _ _=>rfl) st _ _ g c,f⟩
   |arr k ar ak es=>
    rcases e with e|⟨cs,T,n,rest,a,c,f⟩
    ·exact .inl e
    ·exact .inr ⟨cs,T,n,rest,a,bX.mono (fun _ x=>x) (fun _ _=>rfl) st _ _ _ g c,f⟩
   |map fz es=>exact e
   |dK ks vs=>
    obtain⟨p,clock,a,c,f,i⟩:=e;exact⟨p,clock,a,c,bC.mono (fun _ x=>x) (fun _ _=>rfl) st _ _ g f,i⟩
   |dO s pos=>exact e
   |loop L=>
    obtain⟨tmps,defers,fn,a,c,f,i⟩:=e;exact⟨tmps,defers,fn,a,c,fun x=>aA.mono (fun _ x=>x) (fun _ _=>rfl) st _ _ (g x) (f x),i⟩
  ·trivial
 ·intro x y u v a c j l r q;rcases oO a with a|rfl
  ·rcases oO c with c|rfl
   ·exact h.inj x y u v a c j l r q
   ·exact l.elim
  ·exact j.elim
 ·intro b o d;rcases oO d with d|rfl
  ·exact Obj.Aw (nM H m) (h.refs b o d)
  ·trivial
theorem bA.use{o:Oper}{ρ:dl->AV}{e:aZ}(h:bA P o ρ H.length e){ρc:dl->c9}(k:cm P w ad β H ai)
 (c:∀x∈o.op.operands,aA P w ad β H (ρ x) (ρc x)/\aE (aL H) (ρ x))(al:∀p∈e.al,H[p.1]?=some p.2)(aM:∀p∈e.aM,p.1<H.length):
 ∃n a w' aO aF,(dq ρc o).run P w=.ok n w'/\(n=.value a\/n=.skip/\a=undef)/\
  cj P ai ad w β H aF w' aO (ba H e.aM++e.aX)/\aA P w' aF aO (ba H e.aM++e.aX) e.v a/\aE (aL (ba H e.aM++e.aX)) e.v:=by
 have aN:=qh β H e.aX.length;obtain⟨n,a,w',aO,aF,m,q,d,f,g⟩:=h (H++hA e.aX.length .hole) w ad ai β ρc (k.n9 _)
  (fun x hx=>⟨aA.mono (fun _ x=>x) (fun _ _=>rfl) aN _ _ (c x hx).2 (c x hx).1,aE.mono (nM _ _) _ (c x hx).2⟩)
  (fun p s=>by have:=al p s;rw[lx,if_pos (hz.1 this).1];exact this)
  (fun i hi=>by rw[lx,if_neg o_,if_pos o_])
 have r:ba (H++hA e.aX.length .hole) (e.aM++newAt H.length e.aX)=ba H e.aM++e.aX:=by
  rw[DI,z6 _ _ _ aM];have:=DW (ba H e.aM) e.aX
  rwa [qf]at this
 rw[r]at d f g;refine⟨n,a,w',aO,aF,m,q,?_,f,g⟩;have l:cj P ai ad w β H ad w β (H++hA e.aX.length .hole):=⟨fun _ x=>x,fun _ x=>.inl x,Ext.refl _ _ _,aN,k.n9 _,nM _ _,fun b⟨L,j⟩=>⟨L,by rw[lx,if_pos (hz.1 j).1];exact j⟩⟩
 exact l.trans d
theorem tK.use{f:dz}{args:List AV}{e:aZ}(h:tK P f args H.length e)(m:re H e){c:List c9}(n:cm P w ad β H ai)(r:bC P w ad β H args c)(o:aV (aL H) args):
 e6 P f c.toArray w fun x w'=>∃a aO aF,x=.returned a/\cj P ai ad w β H aF w' aO (ba H e.aM++e.aX)/\aA P w' aF aO (ba H e.aM++e.aX) e.v a/\aE (aL (ba H e.aM++e.aX)) e.v:=by
 have aN:=qh β H e.aX.length;refine(h.2 (H++hA e.aX.length .hole) w ad ai β c (n.n9 _)
  (bC.mono (fun _ x=>x) (fun _ _=>rfl) aN _ _ o r) (aV.mono (nM _ _) _ o)
  (fun p d=>by have:=m.1 p d;rw[lx,if_pos (hz.1 this).1];exact this)
  (fun i hi=>by rw[lx,if_neg o_,if_pos o_])).mono ?_
 rintro x w' ⟨a,aO,aF,rfl,g,j,k⟩;have s:ba (H++hA e.aX.length .hole) (e.aM++newAt H.length e.aX)=ba H e.aM++e.aX:=by
  rw[DI,z6 _ _ _ (fun p d=>(m.2 p d).1)];have:=DW (ba H e.aM) e.aX
  rwa [qf]at this
 rw[s]at g j k;have q:cj P ai ad w β H ad w β (H++hA e.aX.length .hole):=⟨fun _ x=>x,fun _ x=>.inl x,Ext.refl _ _ _,aN,n.n9 _,nM _ _,fun b⟨L,l⟩=>⟨L,by rw[lx,if_pos (hz.1 l).1];exact l⟩⟩
 exact⟨a,aO,aF,rfl,q.trans g,j,k⟩
end
def mJ(P:da)(ah:dz->Bool):Prop:=
 ∀(o:Oper)(ρ:dl->AV)(H:Heap)(K:aZ->Prop),(∀v,ρ (.const v)=.p (ofConst v))->fR P ah o ρ H K->
  ∃e,K e/\bA P o ρ H.length e/\(∀p∈e.al,H[p.1]?=some p.2)/\(∀p∈e.aM,p.1<H.length/\p.2≠.hole)
section
variable{P:da}{ah:dz->Bool}{n:Nat}
theorem LX{w:dg}{ad:Nat->Prop}(v:c9):aC P w ad (ofConst v) v:=by
 unfold ofConst
 split<;>simp[aC]
theorem pB{ai ad:Nat->Prop}{β:Bd}{s:St}{t:Array c9}{w:dg}(h:dc P n ai ad β s t w)(x:dl):
 aA P w ad β s.heap (ev s.env x) (fS t x)/\aE (aL s.heap) (ev s.env x):=by
 cases x with
 |tmp x=>exact⟨h.env x,h.iy x⟩
 |const v=>exact⟨by simp only[ev,fS,aA];exact LX v,by simp[ev,aE]⟩
 |global g=>exact⟨by simp only[ev,fS,aA];exact h.heap.jG.val g,by simp[ev,aE]⟩
 |func f=>exact⟨by simp[ev,fS,aA,aC,bu],by simp[ev,aE]⟩
def jD(n:Nat)(o:Oper):Bool:=
 match o.dst with
 |some d=>decide (d<n)
 |none=>true
theorem xD(e:Env)(dst:Option Tmp)(v:AV)(x:Nat):aS (put dst v e) x=if dst=some x then v else aS e x:=by
 cases dst with
 |none=>simp[put]
 |some d=>
  simp only[put,aS,js]
  by_cases h:x=d
  ·simp[h]
  ·simp[h,i8 h]
theorem atx{n:Nat}{o:Oper}(a:jD n o=true){t:Array c9}(c:t.size=n)(v:c9)(x:Nat):(oH o.dst v t).getD x undef=if o.dst=some x then v else t.getD x undef:=by
 unfold jD at a;cases b:o.dst with
 |none=>simp[oH]
 |some d=>
  simp only[b,decide_eq_true_eq]at a;simp only[oH,js]
  by_cases h:d=x
  ·subst h;simp[c,a]
  ·simp only[h,if_false,bv,b3 h]
theorem ast{t:Array c9}(dst:Option Tmp)(v:c9):(oH dst v t).size=t.size:=by cases dst<;>simp[oH]
theorem dc.put{ai ad aF:Nat->Prop}{β aO:Bd}{s:St}{H':Heap}{t:Array c9}{w w':dg}{o:Oper}{v:AV}{b:c9}(h:dc P n ai ad β s t w)(c:jD n o=true)
 (a:cj P ai ad w β s.heap aF w' aO H')(e:aA P w' aF aO H' v b)(d:aE (aL H') v):
 dc P n ai aF aO ⟨put o.dst v s.env,H'⟩ (oH o.dst b t) w':=by
 refine⟨a.rel,fun x=>?_,fun x=>?_,by rw[ast];exact h.size⟩
 ·rw[xD,atx c h.size]
  split
  ·exact e
  ·exact aA.mono a.cd (fun k hk=>a.ext.same k (.inr hk)) a.step _ _ (h.iy x) (h.env x)
 ·rw[xD]
  split
  ·exact d
  ·exact aE.mono a.gh _ (h.iy x)
theorem NR{H T:Heap}{b:Nat×Nat}(h:aL H b):aL (H++T) b:=by
 obtain⟨o,a,c⟩:=h;exact⟨o,by rw[hL (hz.1 a).1];exact a,c⟩
theorem cm.later{ai ad aF:Nat->Prop}{w w':dg}{β:Bd}{H:Heap}(h:cm P w ad β H ai)(e:∀k,ad k->aF k)(hf:∀k,aF k->ad k\/w.heap.size<=k)
 (A:∀k,aF k->k<w'.heap.size)(p:w.heap.size<=w'.heap.size)(hs:∀k,k<w.heap.size->w'.heap[k]?=w.heap[k]?)(z:w'.os=w.os/\w'.output=w.output:=by exact⟨rfl,rfl⟩):cj P ai ad w β H aF w' β H:=by
 have same:∀k,ad k->w'.heap[k]?=w.heap[k]?:=fun k hk=>hs k (h.cd k hk);refine⟨e,fun k hk=>(hf k hk).imp id (fun c a=>by have:=h.fe k a;omega),⟨p,fun k hk=>hs k (hk.elim (h.fe k) (h.cd k)),z⟩,cM.refl _ _,?_,fun _ x=>x,fun _ x=>x⟩;refine⟨fun b o l=>?_,fun b b' o o' c a C D B=>h.inj b b' o o' c a C D (fun hi=>B (e _ hi)),h.refs,A,fun k hk=>i4 (h.fe k hk) p,h.jG.mono e same⟩;have f:=h.cX b o l;have m:=h.refs b o l;have held:∀fz,o.live->cQ ad β ai fz b->cQ aF β ai fz b:=by
  intro fz hl j;have:=h.pq l hl;unfold cQ at j⊢;cases fz with
  |true=>exact e _ j
  |false=>exact⟨fun x=>(hf _ x).elim j.1 o_,j.2⟩
 have i:o.live->w'.heap[β.aq b]?=w.heap[β.aq b]?:=fun hl=>hs _ (h.pq l hl);cases o with
 |hole=>trivial
 |dead=>trivial
 |box fz t=>
  obtain⟨cs,T,c,a,d,g⟩:=f;exact⟨cs,T,(i trivial).trans c,bw.mono e same (cM.refl _ _) _ _ m a,held _ trivial d,g⟩
 |arr k ar ak es=>
  rcases f with f|⟨cs,T,q,rest,c,a,d,g,r,u,v,y⟩
  ·exact .inl f
  ·by_cases hl:dA k es
   ·exact .inl hl
   ·exact .inr ⟨cs,T,q,rest,(i hl).trans c,bX.mono e same (cM.refl _ _) _ _ _ m a,d,g,r,u,held _ hl v,y⟩
 |map fz es=>
  obtain⟨n,clock,c,a,d⟩:=f;exact⟨n,clock,(i trivial).trans c,cR.mono e same _ _ a,held _ trivial d⟩
 |dK ks vs=>
  obtain⟨n,clock,c,a,d,g⟩:=f;exact⟨n,clock,(i trivial).trans c,bu.mono e same _ _ a,bC.mono e same (cM.refl _ _) _ _ m d,held _ trivial g⟩
 |dO s pos=>
  obtain⟨bs,c,a,d⟩:=f;exact⟨bs,(i trivial).trans c,a,held _ trivial d⟩
 |loop L=>
  obtain⟨tmps,defers,fn,c,a,d,g⟩:=f;exact⟨tmps,defers,fn,(i trivial).trans c,a,fun x=>aA.mono e same (cM.refl _ _) _ _ (m x) (d x),held _ trivial g⟩
theorem ql{w:dg}{ad:Nat->Prop}{β:Bd}{H:Heap}:∀{a b:List AV}{x y:List c9},bC P w ad β H a x->bC P w ad β H b y->bC P w ad β H (a++b) (x++y)
 |[],b,x,y,h,c=>by simp only[bC]at h;subst h;simpa using c
 |v::a,b,x,y,h,c=>by
  simp only[bC]at h;obtain⟨z,f,rfl,d,e⟩:=h;simp only[hV,bC];exact⟨z,f++y,rfl,d,ql e c⟩
theorem kD{S:Nat×Nat->Prop}{a b:List AV}(h:aV S a)(d:aV S b):aV S (a++b):=by
 rw[cB]at*;intro v c;rcases hT.1 c with c|c
 ·exact h v c
 ·exact d v c
theorem xF{ai ad:Nat->Prop}{β:Bd}{s:St}{t:Array c9}{w:dg}(h:dc P n ai ad β s t w):∀l:List dl,
 bC P w ad β s.heap (l.map (ev s.env)) (l.map (fS t))/\aV (aL s.heap) (l.map (ev s.env))
 |[]=>by simp[bC,aV]
 |x::l=>by
  have a:=pB h x;have b:=xF h l;simp only[hN,bC,aV];exact⟨⟨_,_,rfl,a.1,b.1⟩,a.2,b.2⟩
end
section
variable{P:da}{w:dg}{ad ai:Nat->Prop}{β:Bd}{H:Heap}
def Bd.at(β:Bd)(b aq cap:Nat):Bd:=⟨fun x=>if x=b then aq else β.aq x,fun x=>if x=b then cap else β.cap x⟩
theorem AB{b:Nat}(f:H[b]?=some .hole)(o':Obj)(aq cap:Nat):cM β H (β.at b aq cap) (H.set b o'):=by
 have a:∀{x v},aL H (x,v)->x≠b:=by
  rintro x v ⟨o,d,i⟩ rfl;simp only at d;rw[f]at d;cases d;exact i
 have c:∀{x v},aL H (x,v)->(H.set b o')[x]?=H[x]?:=fun hx=>hC (i8 (a hx));refine⟨?_,?_,?_,?_,?_⟩
 ·rintro x hx ⟨fz,t,h⟩;rw[c hx]at h;exact⟨⟨fz,t,h⟩,by simp[Bd.at,a hx]⟩
 ·rintro x hx ⟨fz,t,h⟩;rw[c hx]at h;exact⟨⟨fz,t,h⟩,by simp[Bd.at,a hx]⟩
 ·rintro x hx ⟨o,h,g⟩;rw[c hx]at h;exact⟨⟨o,h,g⟩,by simp[Bd.at,a hx]⟩
 ·intro x ar ak k e hx h;unfold fp at h;rw[c hx]at h;exact⟨k,e,h,ix _,hw,fun _=>by simp[Bd.at,a hx]⟩
 ·rintro x hx ⟨L,h⟩;rw[c hx]at h;exact⟨⟨L,h⟩,by simp[Bd.at,a hx]⟩
theorem uM(e:cm P w ad β H ai){a:Nat}(b:H[a]?=some .hole){ob:Go.Obj}{o':Obj}{cap:Nat}
 (g:fH P {w with heap:=w.heap.push ob} ad (β.at a w.heap.size cap) (H.set a o') ai a o')(h:o'.refs (aL (H.set a o'))):
 cj P ai ad w β H ad {w with heap:=w.heap.push ob} (β.at a w.heap.size cap) (H.set a o'):=by
 refine cj.set e (hz.1 b).1 (fun x hx=>by simp[Bd.at,hx]) (fun _ x=>x) (fun _ x=>.inl x) (fun k hk=>by have:=e.cd k hk;simp;omega) s_
  (fun k _ hk=>by simp[cc,i7 hk]) (fun _=>.inl (by simp[Bd.at])) (AB b _ _ _) g h (fun i v c f=>by rw[b]at c;cases c;exact f.elim) (fun L d=>by rw[b]at d;cases d)
theorem xy(w:dg)(a:Go.Obj){k:Nat}(hk:k<w.heap.size):({w with heap:=w.heap.push a}:dg).heap[k]?=w.heap[k]?:=by
 simp[cc,i7 hk]
end
section
variable{P:da}{w:dg}{ad aF ai:Nat->Prop}{β:Bd}{H:Heap}
def Row(P:da)(w:dg)(ad:Nat->Prop)(β:Bd)(H:Heap)(ak:Nat)(a:List AV)(b:List (List c9)):Prop:=bX P w ad β H (hA a.length ak) a b
theorem iW{ak:Nat}{a:List (List c9)}:Row P w ad β H ak [] a↔a=[]:=by simp[Row,bX]
theorem su{ak:Nat}{v:AV}{b:List AV}{a:List (List c9)}:Row P w ad β H ak (v::b) a↔∃c cs,a=c::cs/\bw P w ad β H v c/\c.length=ak/\Row P w ad β H ak b cs:=by
 simp[Row,hO,bX]
theorem mf{ak:Nat}:∀{a b:List AV}{d:List (List c9)},Row P w ad β H ak (a++b) d↔∃c1 c2,d=c1++c2/\Row P w ad β H ak a c1/\Row P w ad β H ak b c2
 |[],b,d=>by
  simp only[List.nil_append];constructor
  ·intro h;exact⟨[],d,rfl,iW.2 rfl,h⟩
  ·rintro⟨c1,c2,rfl,e,f⟩;rw[iW.1 e];simpa using f
 |v::a,b,d=>by
  simp only[hV,su];constructor
  ·rintro⟨c,cs,rfl,e,f,g⟩;obtain⟨c1,c2,rfl,i,j⟩:=mf.1 g;exact⟨c::c1,c2,rfl,⟨c,c1,rfl,e,f,i⟩,j⟩
  ·rintro⟨c1,c2,rfl,⟨c,cs,rfl,e,f,g⟩,i⟩;exact⟨c,cs++c2,rfl,e,f,mf.2 ⟨cs,c2,rfl,g,i⟩⟩
theorem gu{ak:Nat}:∀{b:List AV}{a:List (List c9)},Row P w ad β H ak b a->a.length=b.length/\a.flatten.length=b.length*ak
 |[],a,h=>by rw[iW]at h;subst h;simp
 |v::b,a,h=>by
  rw[su]at h;obtain⟨c,cs,rfl,f,d,e⟩:=h;have:=gu e;simp only[hS,hQ,hU,this,d,i6];exact⟨trivial,o_⟩
theorem mR{ak:Nat}{a:List PV}{b:List (List c9)}:Row P w ad β H ak (a.map .p) b↔bm P w ad (hA a.length ak) a b:=by
 unfold Row;rw[List.length_map];exact o6
theorem kF{ak:Nat}{d:List AV}{e:List (List c9)}(h:Row P w ad β H ak d e)(off len:Nat)(hl:off+len<=d.length):
 ∃a b c,e=a++b++c/\Row P w ad β H ak ((d.drop off).take len) b/\a.flatten.length=off*ak/\Row P w ad β H ak (d.take off) a/\Row P w ad β H ak (d.drop (off+len)) c:=by
 have e1:d=d.take off++((d.drop off).take len++d.drop (off+len)):=by
  rw[<-ii,h2,h2]
 rw[e1,mf]at h;obtain⟨a,r,rfl,f,g⟩:=h;rw[mf]at g;obtain⟨b,c,rfl,i,j⟩:=g;refine⟨a,b,c,s_,i,?_,f,j⟩;have:=(gu f).2;rw[this,List.length_take,iz o_]
theorem mL{cs:Array c9}{T:db}{fz:Nat×Nat}{aq:Nat}(a:w.heap[aq]?=some (.cells cs T fz)){pre xs post:List c9}(hc:cs.toList=pre++xs++post):
 iE w aq pre.length xs:=by
 intro i hi;have:cs[pre.length+i]?=some xs[i]:=by
  rw[<-b0,hc,hH,hP o_];simp only[i1];rw[hL hi,hE hi]
 simp[hp,a,this]
theorem DM(a:List PV)(off len:Nat):(((a.map AV.p).drop off).take len)=((a.drop off).take len).map .p:=by
 rw[<-List.map_drop,<-List.map_take]
theorem mS{H:Heap}{b:Nat}{d o:Obj}(c:H[b]?=some d)(e:∀v,d.has v->o.has v):∀x,aL H x->aL (H.set b o) x:=by
 rintro⟨x,v⟩ ⟨f,a,h⟩
 by_cases hx:b=x
 ·subst hx;simp only at a;rw[c]at a;cases a;exact⟨o,by simp only;rw[hB (hz.1 c).1],e v h⟩
 ·exact⟨f,by simp only;rw[hC hx];exact a,h⟩
theorem se{b:Nat}{o o':Obj}(m:H[b]?=some o)(hk:(∃f g t,o= .box f t/\o'= .box g t)\/(∃k n v z c,o= .arr k v z c/\o'= .arr n v z c/\¬dA k c/\¬dA n c)\/(∃f g c,o= .map f c/\o'= .map g c)):
 cM β H β (H.set b o'):=by
 have u:b<H.length:=(hz.1 m).1;have i:∀x,x≠b->(H.set b o')[x]?=H[x]?:=fun x hx=>hC (i8 hx);have e:(H.set b o')[b]?=some o':=hB u;refine⟨?_,?_,?_,?_,?_⟩
 ·rintro x _ ⟨fz,t,h⟩;refine⟨?_,rfl⟩
  by_cases hx:x=b
  ·subst hx;rw[e]at h;cases h;rcases hk with⟨f,g,l,d,a⟩|⟨_,_,_,_,_,_,a,_⟩|⟨_,_,_,_,a⟩
   ·exact⟨f,l,by rw[m,d]⟩
   ·cases a
   ·cases a
  ·rw[i x hx]at h;exact⟨fz,t,h⟩
 ·rintro x _ ⟨s,p,h⟩;refine⟨?_,rfl⟩
  by_cases hx:x=b
  ·subst hx;rw[e]at h;cases h;rcases hk with⟨f,g,l,d,a⟩|⟨_,_,_,_,_,_,a,_⟩|⟨_,_,_,_,a⟩<;>cases a
  ·rw[i x hx]at h;exact⟨s,p,h⟩
 ·rintro x _ ⟨w,h,j⟩;refine⟨?_,rfl⟩
  by_cases hx:x=b
  ·subst hx;rw[e]at h;cases h;rcases hk with⟨f,g,l,d,a⟩|⟨_,_,_,_,_,_,a,_⟩|⟨f,g,c,d,a⟩
   ·rw[a]at j;exact j.elim
   ·rw[a]at j;exact j.elim
   ·exact⟨o,m,by rw[d];trivial⟩
  ·rw[i x hx]at h;exact⟨w,h,j⟩
 ·intro x ar ak k c _ h
  by_cases hx:x=b
  ·subst hx;unfold fp at h⊢;rw[e]at h;cases h;rcases hk with⟨f,g,l,d,a⟩|⟨k0,n,v,z,y,d,a,q,r⟩|⟨f,g,c,d,a⟩
   ·cases a
   ·cases a;exact⟨k0,c,by rw[m,d],ix _,⟨fun x=>(r x).elim,fun x=>(q x).elim⟩,fun _=>⟨rfl,rfl⟩⟩
   ·cases a
  ·unfold fp at h⊢;rw[i x hx]at h;exact⟨k,c,h,ix _,hw,fun _=>⟨rfl,rfl⟩⟩
 ·rintro x _ ⟨L,h⟩;refine⟨?_,rfl⟩
  by_cases hx:x=b
  ·subst hx;rw[e]at h;cases h;rcases hk with⟨f,g,l,d,a⟩|⟨_,_,_,_,_,_,a,_⟩|⟨_,_,_,_,a⟩<;>cases a
  ·rw[i x hx]at h;exact⟨L,h⟩
theorem cQ.tf{fz:Bool}{b:Nat}(h:cQ ad β ai fz b):ad (β.aq b)\/(¬ad (β.aq b)/\¬ai (β.aq b)):=by
 cases fz with
 |true=>exact .inl h
 |false=>exact .inr h
theorem sq(e:cm P w ad β H ai){b:Nat}{o o':Obj}(f:H[b]?=some o)(hl:o.live)(O:o'.live)(u:∀v,o.has v->o'.has v)(r:∀L,o≠ .loop L)
 (aN:cM β H β (H.set b o'))(N:ad (β.aq b)\/(¬ad (β.aq b)/\¬ai (β.aq b)))
 (aX:∀aF:Nat->Prop,(∀k,ad k->aF k)->aF (β.aq b)->fH P w aF β (H.set b o') ai b o')(A:o'.refs (aL (H.set b o'))):
 ∃aF,cj P ai ad w β H aF w β (H.set b o')/\aF (β.aq b):=by
 have q:b<H.length:=(hz.1 f).1
 by_cases hi:ad (β.aq b)
 ·
  refine⟨ad,?_,hi⟩;have al:=mS f u;refine⟨fun _ x=>x,fun _ x=>.inl x,Ext.refl _ _ _,aN,⟨?_,?_,?_,e.cd,e.fe,e.jG⟩,al,fun x⟨L,j⟩=>⟨L,by
   by_cases hx:b=x
   ·subst hx;rw[f]at j;cases j;exact(r L rfl).elim
   ·rw[hC hx];exact j⟩⟩
  ·intro x l d
   by_cases hx:x=b
   ·subst hx;rw[hB q]at d;cases d;exact aX ad (fun _ x=>x) hi
   ·rw[hC (i8 hx)]at d;have g:=e.cX x l d;have m:=e.refs x l d;cases l with
    |hole=>trivial
    |dead=>trivial
    |box fz t=>
     obtain⟨cs,T,a,c,i⟩:=g;exact⟨cs,T,a,bw.mono (fun _ x=>x) (fun _ _=>rfl) aN _ _ m c,i⟩
    |arr k ar ak es=>
     rcases g with g|⟨cs,T,J,rest,a,c,i⟩
     ·exact .inl g
     ·exact .inr ⟨cs,T,J,rest,a,bX.mono (fun _ x=>x) (fun _ _=>rfl) aN _ _ _ m c,i⟩
    |map fz es=>exact g
    |dK ks vs=>
     obtain⟨K,clock,a,c,i,p⟩:=g;exact⟨K,clock,a,c,bC.mono (fun _ x=>x) (fun _ _=>rfl) aN _ _ m i,p⟩
    |dO s pos=>exact g
    |loop L=>
     obtain⟨tmps,defers,fn,a,c,i,p⟩:=g;exact⟨tmps,defers,fn,a,c,fun x=>aA.mono (fun _ x=>x) (fun _ _=>rfl) aN _ _ (m x) (i x),p⟩
  ·intro x y D W a c S U Q M;have conv:∀(z:Nat)(n:Obj),(H.set b o')[z]?=some n->n.live->∃E:Obj,H[z]?=some E/\E.live:=by
    intro z n B V
    by_cases C:z=b
    ·subst C;exact⟨o,f,hl⟩
    ·rw[hC (i8 C)]at B;exact⟨n,B,V⟩
   obtain⟨F,G,c1⟩:=conv x D a S;obtain⟨a2,I,c2⟩:=conv y W c U;exact e.inj x y F a2 G I c1 c2 Q M
  ·intro x l d
   by_cases hx:x=b
   ·subst hx;rw[hB q]at d;cases d;exact A
   ·rw[hC (i8 hx)]at d;exact Obj.Aw al (e.refs x l d)
 ·refine⟨fun k=>ad k\/k=β.aq b,?_,.inr rfl⟩;have R:=N.resolve_left hi;exact cj.set e q (fun _ _=>⟨rfl,rfl⟩) (fun _ x=>.inl x) (fun k hk=>hk.imp id (fun h=>⟨h,O⟩)) (fun k hk=>hk.elim (e.cd k) (fun h=>h▸e.pq f hl)) (ix _)
   (fun _ _ _=>rfl) (fun _=>.inr ⟨rfl,⟨o,f,hl⟩,.inl (fun _ _=>rfl),R.2⟩) aN (aX _ (fun _ x=>.inl x) (.inr rfl)) A (fun D v a c=>by rw[f]at a;cases a;exact u v c) (fun L j=>by rw[f]at j;cases j;exact(r L rfl).elim)
theorem ND{z:AV}{pv:PV}{H1:Heap}{v:c9}(d:lY H z=some (pv,H1))(i:cm P w ad β H ai)(f:aA P w ad β H z v)(Y:aE (aL H) z):
 ∃aF,cj P ai ad w β H aF w β H1/\aC P w aF pv v:=by
 cases z with
 |p t=>
  simp[lY]at d;obtain⟨rfl,rfl⟩:=d;exact⟨ad,cj.refl i,by simpa[aA]using f⟩
 |sl b ar ak off len=>
  simp only[lY]at d
  split at d
  case h_2=>simp at d
  rename_i k Z W j g
  split at d
  case isFalse=>simp at d
  rename_i O;obtain⟨rfl,rfl,hl⟩:=O;simp only[aA]at f;obtain⟨_,f⟩:=f;simp only[b7]at f;obtain⟨v1,v2,v3⟩:=f k j g
  split at d
  ·rename_i u;simp at d;obtain⟨rfl,rfl⟩:=d;exact⟨ad,cj.refl i,by simp[aC,v2 u]⟩
  ·rename_i u
   split at d
   case h_2=>simp at d
   rename_i J R;simp at d;obtain⟨rfl,rfl⟩:=d;have A:=mQ R;have E:=i.cX b _ g;rcases E with E|⟨cs,T,F,rest,n,l,r,B,L,M,N,X⟩
   ·exact(u E).elim
   have I:¬dA .frozen j:=fun h=>by cases h.1
   have aN:cM β H β (H.set b (.arr .frozen ar ak j)):=se g (.inr (.inl ⟨_,_,_,_,_,rfl,rfl,u,I⟩));obtain⟨aF,q,y⟩:=sq i g u (o':=.arr .frozen ar ak j) I (fun _ h=>h) (fun _ h=>by cases h) aN N.tf
    (fun aF hi x=>.inr ⟨cs,T,F,rest,n,bX.mono hi (fun _ _=>rfl) aN _ _ _ (i.refs b _ g) l,r,B,L,(fun h=>by cases h),x,fun _ e C=>(by rw[A]at C;simp at C;obtain⟨a,_,rfl⟩:=C;trivial),fun h=>by cases h⟩)
    (by rw[A];exact jz _ _)
   refine⟨aF,q,?_⟩;rw[v3 u];have S:Row P w aF β H ak j F:=bX.mono q.cd (fun _ _=>rfl) (cM.refl _ _) _ _ _ (i.refs b _ g) l;obtain⟨a,m,c,e1,e2,e3,e4,e5⟩:=kF S off len v1;rw[A,DM,mR]at e2;have D:((J.drop off).take len).length=len:=by
    have:j.length=J.length:=by rw[A];simp
    simp;omega
   simp only[aC];refine⟨β.aq b,off*ak,β.cap b-off,ak,m,e2,fun _=>y,?_,?_,?_,none,.inl rfl,?_⟩
   ·rw[<-e3];exact mL n (post:=c.flatten++rest) (by rw[r,e1];simp)
   ·intro hf;simp at hf;rw[D,M hf.1];omega
   ·rw[D];omega
   ·rw[D]
 |ptr b path=>
  simp only[lY]at d
  split at d
  case h_2=>simp at d
  rename_i fz t g
  split at d
  case h_2=>simp at d
  rename_i s hs;simp at d;obtain⟨rfl,rfl⟩:=d;simp only[aA]at f;obtain⟨_,f⟩:=f;simp only[b7]at f;obtain⟨V,U,o,rfl,Q,f⟩:=f;obtain⟨rfl,rfl⟩:=f (.inl ⟨fz,_,g⟩);obtain⟨cs,T,n,l,r,B⟩:=i.cX b _ g;have aN:cM β H β (H.set b (.box true (.p t))):=se g (.inl ⟨_,_,_,rfl,rfl⟩);obtain⟨aF,q,y⟩:=sq i g trivial (o':=.box true (.p t)) trivial (fun _ h=>h) (fun _ h=>by cases h) aN r.tf
   (fun aF hi x=>⟨cs,T,n,bw.mono hi (fun _ _=>rfl) aN _ _ (by simp[aE]) l,x,fun _=>trivial,B.2⟩) (by simp[Obj.refs,aE])
  refine⟨aF,q,?_⟩;have K:aY P w aF t cs.toList:=by simp only[bw]at l;exact aY.mono q.cd (fun _ _=>rfl) _ _ l
  obtain⟨pre,xs,post,e1,e2,e3⟩:=AU K hs Q;simp only[aC];refine⟨β.aq b,U,xs,e3,y,?_,rfl⟩;rw[<-e2];exact mL n e1
 |map b=>
  simp only[lY]at d
  split at d
  case h_2=>simp at d
  rename_i fz j g;simp at d;obtain⟨rfl,rfl⟩:=d;simp only[aA]at f;obtain⟨_,f⟩:=f;simp only[b7]at f;have f:=f.1 ⟨_,g,trivial⟩;obtain⟨G,clock,n,l,r⟩:=i.cX b _ g;have aN:cM β H β (H.set b (.map true j)):=se g (.inr (.inr ⟨_,_,_,rfl,rfl⟩));obtain⟨aF,q,y⟩:=sq i g trivial (o':=.map true j) trivial (fun _ h=>h) (fun _ h=>by cases h) aN r.tf
   (fun aF hi x=>⟨G,clock,n,cR.mono hi (fun _ _=>rfl) _ _ l,x⟩) trivial
  refine⟨aF,q,?_⟩;simp only[aC];exact⟨β.aq b,G,clock,y,n,cR.mono q.cd (fun _ _=>rfl) _ _ l,f⟩
 |ct=>simp[lY]at d
 |func=>simp[lY]at d
 |st=>simp[lY]at d
 |aD=>simp[lY]at d
end
section
variable{P:da}{ah:dz->Bool}{n N:Nat}
theorem Eg{w:dg}{β:Bd}{ai:Nat->Prop}:∀{e:List AV}{g:List PV}{H H1:Heap}{ad:Nat->Prop}{vs:List c9},oG H e=some (g,H1)->cm P w ad β H ai->
 bC P w ad β H e vs->aV (aL H) e->∃aF,cj P ai ad w β H aF w β H1/\bu P w aF g vs
 |[],g,H,H1,ad,vs,b,h,c,_=>by
  simp[oG]at b;obtain⟨rfl,rfl⟩:=b;simp only[bC]at c;exact⟨ad,cj.refl h,by simpa[bu]using c⟩
 |a::e,g,H,H1,ad,vs,b,h,c,f=>by
  simp only[oG]at b
  split at b
  case h_2=>simp at b
  rename_i v o j
  split at b
  case h_2=>simp at b
  rename_i r p k;simp at b;obtain⟨rfl,rfl⟩:=b;simp only[bC]at c;obtain⟨y,n,rfl,k1,k2⟩:=c;simp only[aV]at f;obtain⟨q,d,l⟩:=ND j h k1 f.1;obtain⟨i,q1,m⟩:=Eg k d.rel (bC.mono d.cd (fun _ _=>rfl) d.step _ _ f.2 k2) (aV.mono d.gh _ f.2);refine⟨i,d.trans q1,?_⟩;simp only[bu];exact⟨y,n,rfl,aC.mono q1.cd (fun _ _=>rfl) _ _ l,m⟩
def lG(P:da)(n N:Nat)(fr:eb)(k:List Item)(cs:List eb)(c:Array Oper)(ai ad:Nat->Prop)(w:dg)(β:Bd)(H:Heap)(m:ej)(r:List Nat)(b:List ea)(K:St->Prop):Prop:=
 ∃s' aF aO a w',K s'/\ee P m (lone (bG fr a b (.inRegion c r::k)) cs w')/\dc P n ai aF aO s' a w'/\ek N ai ad w β H ai aF w' aO s'.heap
theorem XV{d:Bool}{o:Oper}{K:St->Prop}{s:St}(h:kr P ah d o K s)(c:Call):o.op≠.defer c:=by
 intro hc;unfold kr at h;rw[hc]at h;simp[fR,hc]at h
variable{fr:eb}{k:List Item}{cs:List eb}{ops:Array Oper}{i:Nat}{r:List Nat}{ds:List ea}
theorem Mv{d:Bool}{o:Oper}{f:dl}{F:Array dl}{aa:Array db}{g:dz}{fi ca:List AV}{K:St->Prop}{s:St}{ai ad:Nat->Prop}{β:Bd}{t:Array c9}{w:dg}
 (W:o.op=.call {callee:=.value f,args:=F,argTypes:=aa})
 (hf:(ev s.env f=.func g fi ca)\/(∃a b,ev s.env f=.p (.func g a b)/\fi=a.map .p/\ca=b.map .p))
 (h:iH P d g (fi++F.toList.map (ev s.env)++ca) s.heap (fun v H'=>K ⟨put o.dst v s.env,H'⟩))
 (m:dc P n ai ad β s t w)(G:jD n o=true)(C:ops[i]?=some o)(M:gA o (yielded ops t)=true):
 lG P n N fr k cs ops ai ad w β s.heap (lone (bG fr t ds (.inRegion ops (i::r)::k)) cs w) r ds K:=by
 have E:=pB m f;obtain⟨y,u,am,ak,aj,aq,ap⟩:∃y u:List c9,fS t f=.func (.func g) y.toArray u.toArray/\bC P w ad β s.heap fi y/\bC P w ad β s.heap ca u/\aV (aL s.heap) fi/\aV (aL s.heap) ca:=by
  rcases hf with hf|⟨a,b,hf,rfl,rfl⟩
  ·rw[hf]at E;simp only[aA,aE]at E;obtain⟨⟨y,u,l,j,z⟩,ac,ae⟩:=E;exact⟨y,u,z,l,j,ac,ae⟩
  ·rw[hf]at E;simp only[aA,aC]at E;obtain⟨⟨y,u,l,j,z⟩,_⟩:=E;exact⟨y,u,z,ki.2 l,ki.2 j,jz _ _,jz _ _⟩
 obtain⟨ag,ah⟩:=xF m F.toList;have D:=ql (ql ak ag) aj;have Q:=kD (kD aq ah) ap;have q:(dq (fS t) o).run P w=(callFunc g (y++F.toList.map (fS t)++u).toArray).run P w:=by
  simp only[dq,W,resolve,am,fl,g7,g8,g0,invoke];congr 2;simp
 have L:∀c,o.op≠.defer c:=fun c hc=>by rw[W]at hc;cases hc
 have Z:∀(H1:Heap)(B:Nat->Prop)(vs:List PV)(v:PV),cj P ai ad w β s.heap B w β H1->bu P w B vs (y++F.toList.map (fS t)++u)->az P g vs v->
  K ⟨put o.dst (.p v) s.env,H1⟩->lG P n N fr k cs ops ai ad w β s.heap (lone (bG fr t ds (.inRegion ops (i::r)::k)) cs w) r ds K:=by
  intro H1 B vs v A Y I U;rcases I with⟨R,I⟩|I
  ·rw[R]at q;obtain⟨e,w',S,⟨O,aF,H,g1,g2,g3,g4,g5,ab,g6⟩,aN,V,J⟩:=I w B _ A.rel.cd A.rel.jG Y (bG fr t ds (.inRegion ops (i::r)::k)::cs);subst H;have X:=A.trans (A.rel.later g1 g2 g3 g4 g5 ab);refine⟨_,aF,β,_,w',U,?_,m.put G X (by simpa[aA]using g6) (by simp[aE]),X.fB⟩;rw[<-oP C];exact(hb (xt C M L q)).trans (hd aN (.one (ec J)))
  ·obtain⟨O,l,j⟩:=I w B _ Y;rw[l]at q;exact⟨_,B,β,_,w,U,.one (ux C M L q (.inl rfl)),m.put G A (by simpa[aA]using j) (by simp[aE]),A.fB⟩
 rcases h with⟨vs,v,l,j,z⟩|⟨_,⟨vs,H1,v,l,j,z⟩|⟨H',v,⟨R,l⟩,j⟩|⟨e,T,ao,j⟩|⟨al,v,af,an,j⟩⟩
 ·exact Z s.heap ad vs v (cj.refl m.heap) (by rw[l]at D;exact ki.1 D) j z
 ·obtain⟨B,ar,au⟩:=Eg l m.heap D Q;exact Z H1 B vs v ar au j z
 ·rw[R]at q;obtain⟨e,w',S,⟨O,aO,aF,H,g1,g2,g3⟩,aN,V,J⟩:=l w ad ai β _ m.heap D Q (bG fr t ds (.inRegion ops (i::r)::k)::cs);subst H;refine⟨_,aF,aO,_,w',j,?_,m.put G g1 g2 g3,g1.fB⟩;rw[<-oP C];exact(hb (xt C M L q)).trans (hd aN (.one (ec J)))
 ·rw[T.1]at q;obtain⟨x,w',S,⟨O,aO,aF,H,g1,g2,g3⟩,aN,V,J⟩:=T.use ao m.heap D Q (bG fr t ds (.inRegion ops (i::r)::k)::cs);subst H;refine⟨_,aF,aO,_,w',j,?_,m.put G g1 g2 g3,g1.fB⟩;rw[<-oP C];exact(hb (xt C M L q)).trans (hd aN (.one (ec J)))
 ·obtain⟨O,l,z⟩:=af s.heap w ad ai β _ m.heap D Q an;rw[l]at q;have A:=cj.refl m.heap;exact⟨_,ad,β,_,w,j,.one (ux C M L q (.inl rfl)),m.put G A (by simpa[aA]using z) (by simp[aE]),A.fB⟩
end
end Go.an
namespace Go.an
variable[Gl]
section
variable{P:da}{ah:dz->Bool}{n N:Nat}
variable{fr:eb}{k:List Item}{cs:List eb}{ops:Array Oper}{i:Nat}{r:List Nat}{ds:List ea}
theorem Yd{o:Oper}{f:dl}{a:Array dl}{p:Array db}{b:Nat}{H':Heap}{v:AV}{K:St->Prop}{s:St}{ai ad:Nat->Prop}{β:Bd}{t:Array c9}{w:dg}
 (l:o.op=.call {callee:=.value f,args:=a,argTypes:=p})(hf:ev s.env f=.map b)(m:gX P b s.heap (a.toList.map (ev s.env)) H' v)(x:K ⟨put o.dst v s.env,H'⟩)
 (d:dc P n ai ad β s t w)(A:jD n o=true)(j:ops[i]?=some o)(D:gA o (yielded ops t)=true):
 lG P n N fr k cs ops ai ad w β s.heap (lone (bG fr t ds (.inRegion ops (i::r)::k)) cs w) r ds K:=by
 have e:=(pB d f).1;rw[hf]at e;simp only[aA,bY,b7]at e;have B:=e.2.2 m.1;obtain⟨y,z⟩:=xF d a.toList;have h:(dq (fS t) o).run P w=(ge (β.aq b) (a.toList.map (fS t)).toArray).run P w:=by
  simp only[dq,l,resolve,B,fl,g7,g8,g0,invoke];congr 2;exact cy s_
 have C:∀c,o.op≠.defer c:=fun c hc=>by rw[l]at hc;cases hc
 obtain⟨g,tmps,assign,body,q,u⟩:=m.2 w ad ai β _ d.heap y z;rw[q]at h;obtain⟨E,w',aO,aF,g1,g2,g3,g4⟩:=u (bG fr t ds (.inRegion ops (i::r)::k)) cs;refine⟨_,aF,aO,_,w',x,?_,d.put A g2 g3 g4,g2.fB⟩;rw[<-oP j];exact(hb (MG j D C h)).trans g1
theorem Of(y:mJ P ah){d:Bool}{o:Oper}{K:St->Prop}{s:St}{ai ad:Nat->Prop}{β:Bd}{t:Array c9}{w:dg}
 (h:kr P ah d o K s)(a:dc P n ai ad β s t w)(c:jD n o=true)(j:ops[i]?=some o)(l:gA o (yielded ops t)=true):
 lG P n N fr k cs ops ai ad w β s.heap (lone (bG fr t ds (.inRegion ops (i::r)::k)) cs w) r ds K:=by
 have E:=XV h;have z:fR P ah o (ev s.env) s.heap (fun e=>K (e.app o.dst s))->lG P n N fr k cs ops ai ad w β s.heap (lone (bG fr t ds (.inRegion ops (i::r)::k)) cs w) r ds K:=by
  intro h;obtain⟨e,m,hs,al,aM⟩:=y o _ _ _ (fun v=>rfl) h;obtain⟨nx,I,w',aO,aF,A,B,u,C,D⟩:=hs.use a.heap (fun x _=>pB a x) al (fun p F=>(aM p F).1);exact⟨_,aF,aO,_,w',m,.one (ux j l E A B),a.put c u C D,u.fB⟩
 unfold kr at h
 split at h
 ·rename_i f args H q
  split at h
  ·rename_i g fi ca hf;exact Mv q (.inr ⟨fi,ca,hf,rfl,rfl⟩) h a c j l
  ·rename_i g fi ca hf;exact Mv q (.inl hf) h a c j l
  ·rename_i b hf;obtain⟨H',v,G,m⟩:=h;exact Yd q hf G m a c j l
  ·exact h.elim
 ·exact z h
theorem lG.mono{m:ej}{K a:St->Prop}{ai ad:Nat->Prop}{w:dg}{β:Bd}{H:Heap}(h:lG P n N fr k cs ops ai ad w β H m r ds K)(hk:∀s,K s->a s):lG P n N fr k cs ops ai ad w β H m r ds a:=by
 obtain⟨s',aF,aO,t',w',b,c⟩:=h;exact⟨s',aF,aO,t',w',hk _ b,c⟩
theorem Ak{s:St}{ai ad:Nat->Prop}{β:Bd}{t:Array c9}{w:dg}(e:dc P n ai ad β s t w)(l:∀o∈ops.toList,jD n o=true)(j:Nat):
 (∀b,guardOf ops j s.env=.p (.bool b)->yielded ops t j=some b)/\(guardOf ops j s.env=.p (.aD [])->yielded ops t j=none):=by
 unfold guardOf yielded;cases k:ops[j]? with
 |none=>simp
 |some f=>
  simp only[i9];cases g:f.dst with
  |none=>simp
  |some d=>
   simp only[i9];have h:d<t.size:=by
    have:=l f (by rw[b2];exact b5 k);unfold jD at this;rw[g]at this;rw[e.size];simpa using this
   have a:=e.env d;have i:t[d]?=some (t.getD d undef):=by simp[cx,h]
   rw[i];constructor
   ·intro b c;rw[c]at a;simp only[aA,aC]at a;rw[a]
   ·intro c;rw[c]at a;simp only[aA,aC,bu]at a;obtain⟨xs,rfl,a⟩:=a;rw[a]
theorem M9(f:mJ P ah){d:Bool}(v:∀o∈ops.toList,jD n o=true):∀(l:List Oper)(i:Nat){K:St->Prop}{s:St}{ai ad:Nat->Prop}{β:Bd}{t:Array c9}{w:dg},
 ops.toList.drop i=l->iJ P ah d ops l K s->dc P n ai ad β s t w->
 lG P n N fr k cs ops ai ad w β s.heap (lone (bG fr t ds (.inRegion ops (hW i l.length)::k)) cs w) [] ds K
 |[],i,K,s,ai,ad,β,t,w,hl,h,a=>⟨s,ad,β,t,w,h,hg _ _,a,ek.refl _ _ _ _ _ _⟩
 |o::l,i,K,s,ai,ad,β,t,w,hl,h,a=>by
  have e:ops[i]?=some o:=by
   have:(ops.toList.drop i)[0]?=some o:=by rw[hl];rfl
   rw[List.getElem?_drop]at this;simpa using this
  have E:ops.toList.drop (i+1)=l:=by
   rw[<-ii,hl];rfl
  have u:jD n o=true:=v o (by rw[b2];exact b5 e);have g:∀{ai ad w β H}{m:ej},lG P n N fr k cs ops ai ad w β H m (hW (i+1) l.length) ds (iJ P ah d ops l K)->lG P n N fr k cs ops ai ad w β H m [] ds K:=by
   intro ai ad w β H m D;obtain⟨s',aF,aO,J,w',z,A,B,C⟩:=D;obtain⟨s2,y,I,t2,G,g1,g2,g3,g4⟩:=M9 f v l (i+1) E z B;exact⟨s2,y,I,t2,G,g1,A.trans g2,g3,C.trans g4⟩
  rw[hS,List.range'_succ]
  have skip:iJ P ah d ops l K ⟨put o.dst (.p (.aD [])) s.env,s.heap⟩->gA o (yielded ops t)=false->
   lG P n N fr k cs ops ai ad w β s.heap (lone (bG fr t ds (.inRegion ops (i::hW (i+1) l.length)::k)) cs w) [] ds K:=by
   intro hk F;refine g ⟨_,ad,β,_,w,hk,.one (Nl e F),a.put u (cj.refl a.heap) (by simp[aA,aC,bu,undef]) (by simp[aE]),ek.refl _ _ _ _ _ _⟩
  simp only[iJ]at h
  split at h
  ·rename_i c;exact g (Of f h a u e (by simp[gA,c]))
  ·rename_i j L c;obtain⟨g1,g2⟩:=Ak a v j
   split at h
   ·rename_i b q;have x:=g1 b q
    split at h
    ·rename_i r;exact g (Of f h a u e (by simp[gA,c,x,r]))
    ·rename_i r;exact skip h (by simp[gA,c,x,r])
   ·rename_i q;exact skip h (by simp[gA,c,g2 q])
   ·exact h.elim
theorem aO3{H:Heap}{b v:Nat}(h:H[b]?=none\/H[b]?=some .hole):¬aL H (b,v):=by
 rintro⟨o,a,c⟩;rcases h with h|h
 ·simp only at a;rw[h]at a;cases a
 ·simp only at a;rw[h]at a;cases a;exact c
theorem qS.step{s s':St}{β:Bd}(hf:qS s s'):cM β s.heap β s'.heap:=by
 refine⟨?_,?_,?_,?_,?_⟩
 ·rintro b _ ⟨fz,t,a⟩;rcases hf.heap b _ a with h|h|⟨_,k,z,h,_⟩|⟨v,v',h,_,_⟩
  ·cases h
  ·exact⟨⟨fz,t,h⟩,rfl⟩
  ·cases h
  ·exact⟨⟨_,_,h⟩,rfl⟩
 ·rintro b _ ⟨fz,t,a⟩;rcases hf.heap b _ a with h|h|⟨_,k,z,h,_⟩|⟨v,v',_,h,_⟩
  ·cases h
  ·exact⟨⟨fz,t,h⟩,rfl⟩
  ·cases h
  ·cases h
 ·rintro b _ ⟨o,a,c⟩;rcases hf.heap b _ a with h|h|⟨_,k,z,h,_⟩|⟨v,v',_,h,_⟩
  ·rw[h]at c;exact c.elim
  ·exact⟨⟨o,h,c⟩,rfl⟩
  ·rw[h]at c;exact c.elim
  ·rw[h]at c;exact c.elim
 ·intro b ar ak k d hi a;rcases hf.heap b _ a with h|h|⟨e,_⟩|⟨v,v',_,h,_⟩
  ·cases h
  ·exact⟨k,d,h,ix _,hw,fun _=>⟨rfl,rfl⟩⟩
  ·exact(aO3 e hi).elim
  ·cases h
 ·rintro b _ ⟨L,a⟩;rcases hf.heap b _ a with h|h|⟨_,k,z,h,_⟩|⟨v,v',_,h,_⟩
  ·cases h
  ·exact⟨⟨L,h⟩,rfl⟩
  ·cases h
  ·cases h
section aLg
variable{w:dg}{ad:Nat->Prop}{β:Bd}{T:Heap}
theorem R3{b ar ak off len:Nat}(h:ar=0/\off=0/\len=0/\∃k z,T[b]?=some (.arr k 0 z [])/\k.gr=true):bY P β T (.sl b ar ak off len) (.slice none 0 0):=by
 obtain⟨rfl,rfl,rfl,k,z,a,c⟩:=h;refine⟨by simp[hj],fun e d hl=>?_⟩;unfold fp at hl;rw[a]at hl;cases hl;exact⟨s_,fun _=>rfl,fun h=>(h ⟨c,rfl⟩).elim⟩
mutual
theorem gE.cells:∀(v:PV)(x:AV)(cs:List c9),gE T v x->aY P w ad v cs->bw P w ad β T x cs
 | .aH,x,cs,h,hc=>by
  simp only[gE]at h;rcases h with rfl|h
  ·simpa only[bw]using hc
  ·cases x<;>simp only at h<;>try exact h.elim
   simp only[aY]at hc;simp only[bw];exact⟨_,hc,R3 h⟩
 | .st u fs,x,cs,h,hc=>by
  simp only[gE]at h;rcases h with rfl|h
  ·simpa only[bw]using hc
  ·cases x<;>simp only at h<;>try exact h.elim
   obtain⟨rfl,h⟩:=h;simp only[aY]at hc;obtain⟨l,a,d,e,f⟩:=hc;simp only[bw];exact⟨l,a,d,l7.cells l fs _ a h e,f⟩
 | .undef,x,cs,h,hc| .bool _,x,cs,h,hc| .int _ _,x,cs,h,hc| .str _,x,cs,h,hc| .dX,x,cs,h,hc| .cG _,x,cs,h,hc| .bF _ _,x,cs,h,hc| .seq _,x,cs,h,hc| .fM,x,cs,h,hc| .fu _,x,cs,h,hc| .func _ _ _,x,cs,h,hc| .jb,x,cs,h,hc| .gK,x,cs,h,hc| .aD _,x,cs,h,hc=>by
  simp only[gE]at h;subst h;simpa only[bw]using hc
theorem l7.cells:∀(l:List Nat)(fs:List PV)(b:List AV)(a:List (List c9)),l7 T fs b->bm P w ad l fs a->bX P w ad β T l b a
 |l,[],b,a,h,hc=>by
  simp only[l7]at h;subst h;cases l<;>simp_all [bX,bm]
 |l,v::vs,b,a,h,hc=>by
  cases b with
  |nil=>simp[l7]at h
  |cons g b=>
   simp only[l7]at h;cases l with
   |nil=>simp[bm]at hc
   |cons n l=>
    simp only[bm]at hc;obtain⟨c,cs,d,e,f,i⟩:=hc;simp only[bX];exact⟨c,cs,d,gE.cells v g c h.1 e,f,l7.cells l vs b cs h.2 i⟩
end
theorem gE.Hm(v:PV)(x:AV)(y:c9)(h:gE T v x)(hc:aC P w ad v y):aA P w ad β T x y:=by
 cases v
 case aH=>
  simp only[gE]at h;rcases h with rfl|h
  ·simpa only[aA]using hc
  ·cases x<;>simp only at h<;>try exact h.elim
   simp only[aC]at hc;subst hc;simp only[aA];exact R3 h
 case st u fs=>
  simp only[gE]at h;rcases h with rfl|h
  ·simpa only[aA]using hc
  ·cases x<;>simp only at h<;>try exact h.elim
   obtain⟨rfl,h⟩:=h;simp only[aC]at hc;obtain⟨l,a,b,c,d⟩:=hc;simp only[aA];exact⟨l,a,b,l7.cells l fs _ a h c,d⟩
 all_goals simp only[gE]at h;subst h;simpa only[aA]using hc
mutual
theorem Gh.cells:∀(v x:AV)(cs:List c9),Gh T v x->bw P w ad β T v cs->bw P w ad β T x cs
 | .p v,x,cs,h,hc=>by simp only[Gh]at h;simp only[bw]at hc;exact gE.cells v x cs h hc
 | .st u fs,x,cs,h,hc=>by
  simp only[Gh]at h;cases x<;>simp only at h<;>try exact h.elim
  obtain⟨rfl,h⟩:=h;simp only[bw]at hc⊢;obtain⟨l,a,d,e,f⟩:=hc;exact⟨l,a,d,nw.cells l fs _ a h e,f⟩
 | .ptr _ _,x,cs,h,hc| .ct _ _ _ _ _,x,cs,h,hc| .sl _ _ _ _ _,x,cs,h,hc| .map _,x,cs,h,hc| .func _ _ _,x,cs,h,hc| .aD _,x,cs,h,hc=>by simp only[Gh]at h;subst h;exact hc
theorem nw.cells:∀(l:List Nat)(fs b:List AV)(a:List (List c9)),nw T fs b->bX P w ad β T l fs a->bX P w ad β T l b a
 |l,[],b,a,h,hc=>by simp only[nw]at h;subst h;exact hc
 |l,v::vs,b,a,h,hc=>by
  cases b with
  |nil=>simp[nw]at h
  |cons g b=>
   simp only[nw]at h;cases l with
   |nil=>simp[bX]at hc
   |cons n l=>
    simp only[bX]at hc⊢;obtain⟨c,cs,d,e,f,i⟩:=hc;exact⟨c,cs,d,Gh.cells v g c h.1 e,f,nw.cells l vs b cs h.2 i⟩
end
theorem Gh.Hm(v x:AV)(y:c9)(h:Gh T v x)(hc:aA P w ad β T v y):aA P w ad β T x y:=by
 cases v
 case p v=>simp only[Gh]at h;simp only[aA]at hc;exact gE.Hm v x y h hc
 case st u fs=>
  simp only[Gh]at h;cases x<;>simp only at h<;>try exact h.elim
  obtain⟨rfl,h⟩:=h;simp only[aA]at hc⊢;obtain⟨l,a,b,c,d⟩:=hc;exact⟨l,a,b,nw.cells l fs _ a h c,d⟩
 all_goals simp only[Gh]at h;subst h;exact hc
theorem gE.aP{v:PV}{x:AV}(h:gE T v x):aa x=an.aP v:=by
 cases v
 case aH=>
  simp only[gE]at h;rcases h with rfl|h
  ·rfl
  ·cases x<;>simp only at h<;>first|exact h.elim|rfl
 case st u fs=>
  simp only[gE]at h;rcases h with rfl|h
  ·rfl
  ·cases x<;>simp only at h<;>try exact h.elim
   simp[aa,an.aP,h.1]
 all_goals simp only[gE]at h;subst h;rfl
theorem Gh.aP{v x:AV}(h:Gh T v x):aa x=aa v:=by
 cases v
 case p v=>simp only[Gh]at h;exact h.aP
 case st u fs=>
  simp only[Gh]at h;cases x<;>simp only at h<;>try exact h.elim
  simp[aa,h.1]
 all_goals simp only[Gh]at h;subst h;rfl
end aLg
theorem cW.fB{s s':St}{β:Bd}{ai ad:Nat->Prop}{w:dg}(hf:cW N s s'):ek N ai ad w β s.heap ai ad w β s'.heap:=by
 rcases hf with rfl|hf
 ·exact ek.refl _ _ _ _ _ _
 ·exact⟨fun _ h=>h,fun _ h=>h,fun _ h=>.inl h,Ext.refl _ _ _,hf.1.step.n,fun x a⟨o,e,d⟩=>⟨o,by rw[hf.2 _ a];exact e,d⟩,fun b a⟨L,c⟩=>⟨L,by rw[hf.2 _ a];exact c⟩⟩
theorem qS.rel{s s':St}{ai ad:Nat->Prop}{β:Bd}{t:Array c9}{w:dg}(hf:qS s s')(h:dc P n ai ad β s t w):dc P n ai ad β s' t w:=by
 have aN:cM β s.heap β s'.heap:=hf.step;refine⟨⟨?_,?_,hf.hrefs,h.heap.cd,h.heap.fe,h.heap.jG⟩,fun x=>?_,hf.iy,h.size⟩
 ·intro b o E;rcases hf.heap b o E with rfl|i|⟨_,k,z,rfl,hk⟩|⟨v,v',i,rfl,q⟩
  ·trivial
  rotate_left
  ·exact .inl ⟨hk,rfl⟩
  ·have d:=h.heap.cX b _ i;have g:=h.heap.refs b _ i;obtain⟨cs,T,a,c,e,l,C⟩:=d;exact⟨cs,T,a,Gh.cells _ _ _ q (bw.mono (fun _ x=>x) (fun _ _=>rfl) aN _ _ g c),e,(fun h=>by cases h),by rw[q.aP];exact C⟩
  ·have d:=h.heap.cX b o i;have g:=h.heap.refs b o i;cases o with
   |hole=>trivial
   |dead=>trivial
   |box fz t=>
    obtain⟨cs,T,a,c,e⟩:=d;exact⟨cs,T,a,bw.mono (fun _ x=>x) (fun _ _=>rfl) aN _ _ g c,e⟩
   |arr k ar ak es=>
    rcases d with d|⟨cs,T,A,rest,a,c,e⟩
    ·exact .inl d
    ·exact .inr ⟨cs,T,A,rest,a,bX.mono (fun _ x=>x) (fun _ _=>rfl) aN _ _ _ g c,e⟩
   |map fz es=>exact d
   |dK ks vs=>
    obtain⟨B,clock,a,c,e,l⟩:=d;exact⟨B,clock,a,c,bC.mono (fun _ x=>x) (fun _ _=>rfl) aN _ _ g e,l⟩
   |dO s pos=>exact d
   |loop L=>
    obtain⟨tmps,defers,fn,a,c,e,l⟩:=d;exact⟨tmps,defers,fn,a,c,fun x=>aA.mono (fun _ x=>x) (fun _ _=>rfl) aN _ _ (g x) (e x),l⟩
 ·intro x y H I a c m p D f;have u:∀{z:Nat}{o:Obj},s'.heap[z]?=some o->o.live->∃o',s.heap[z]?=some o'/\o'.live:=by
   intro z o j hl;rcases hf.heap z o j with rfl|j|⟨_,k,_,rfl,hk⟩|⟨v,v',j,_,_⟩
   ·exact hl.elim
   ·exact⟨o,j,hl⟩
   ·exact(hl ⟨hk,rfl⟩).elim
   ·exact⟨_,j,trivial⟩
  obtain⟨F,a,m⟩:=u a m;obtain⟨G,c,p⟩:=u c p;exact h.heap.inj x y F G a c m p D f
 ·have r:=aA.mono (fun _ x=>x) (fun _ _=>rfl) aN _ _ (h.iy x) (h.env x);rcases hf.env x with f|f|f
  ·rw[f];exact r
  ·rw[f];simp[aA,aC]
  ·exact Gh.Hm _ _ _ f r
theorem cW.rel{s s':St}{ai ad:Nat->Prop}{β:Bd}{t:Array c9}{w:dg}(hf:cW N s s')(h:dc P n ai ad β s t w):dc P n ai ad β s' t w:=by
 rcases hf with rfl|hf
 ·exact h
 ·exact hf.1.rel h
def n7(P:da)(fr:eb)(k:List Item)(cs:List eb)(m:ej)(t:Array c9)(ds:List ea)(w:dg):bD->Prop
 | .normal=>ee P m (lone (bG fr t ds k) cs w)
 | .exit id=>∃a,exitTo id a=exitTo id k/\ee P m (lone (bG fr t ds (.code (.exit id)::a)) cs w)
 | .ret=>∃a,ee P m (lone (bG fr t ds (.code .ret::a)) cs w)
theorem n7.of_steps{m f:ej}{t:Array c9}{ds:List ea}{w:dg}{e:bD}(h:ee P m f)(c:n7 P fr k cs f t ds w e):n7 P fr k cs m t ds w e:=by
 cases e with
 |normal=>exact h.trans c
 |exit id=>obtain⟨d,a,b⟩:=c;exact⟨d,a,h.trans b⟩
 |ret=>obtain⟨d,b⟩:=c;exact⟨d,h.trans b⟩
def mark(r:Nat):ea:={target:=.collected r,args:=#[]}
def Marks(fr:eb)(ai:Nat->Prop)(w:dg)(lj aF:Nat->Prop)(w':dg)(b c:List ea):Prop:=
 ∃a:List Nat,c=a.map mark++b/\a.Nodup/\(∀r∈a,w.heap.size<=r/\lj r/\¬aF r/\w'.heap[r]?=some (.deferred (some [])))/\(∀k,lj k->ai k\/k∈a)/\(fr.roundOf.isSome=true->a=[])
theorem Marks.refl(fr:eb)(ai aF:Nat->Prop)(w w':dg)(ds:List ea):Marks fr ai w ai aF w' ds ds:=⟨[],rfl,List.nodup_nil,s_,fun _ h=>.inl h,fun _=>rfl⟩
theorem Marks.trans{fr:eb}{N:Nat}{ai ad d e g f:Nat->Prop}{w w1 l:dg}{β p B:Bd}{H H1 q:Heap}{ds m n:List ea}(h:Marks fr ai w d e w1 ds m)(i:ek N ai ad w β H d e w1 p H1)
 (s:Marks fr d w1 g f l m n)(j:ek N d e w1 p H1 g f l B q):Marks fr ai w g f l ds n:=by
 obtain⟨rs,rfl,t,o,u,v⟩:=h;obtain⟨A,rfl,g2,g3,g4,g5⟩:=s;refine⟨A++rs,s_,?_,?_,?_,fun hx=>by simp[v hx,g5 hx]⟩
 ·rw[List.nodup_append];refine⟨g2,t,fun a i b y x=>?_⟩;subst x;have C:=(g3 a i).1;have D:=(bo.1 (o a y).2.2.2).1;omega
 ·intro r c;rcases hT.1 c with c|c
  ·obtain⟨k1,k2⟩:=g3 r c;exact⟨i2 i.ext.size k1,k2⟩
  ·obtain⟨k1,k2,k3,k4⟩:=o r c;exact⟨k1,j.fe _ k2,fun hx=>(j.fresh _ hx).elim k3 (fun z=>z k2),(j.ext.same _ (.inl k2)).trans k4⟩
 ·intro k hk;rcases g4 k hk with hk|hk
  ·rcases u k hk with hk|hk
   ·exact .inl hk
   ·exact .inr (by simp[hk])
  ·exact .inr (by simp[hk])
def s8(N:Nat)(fr:eb)(β:Bd)(H:Heap):Prop:=∀l,fr.roundOf=some l->∃b,b<N/\iF H b/\β.aq b=l
theorem s8.fB{fr:eb}{β aO:Bd}{H H':Heap}{ai ad lj aF:Nat->Prop}{w w':dg}(h:s8 N fr β H)(e:ek N ai ad w β H lj aF w' aO H'):s8 N fr aO H':=by
 intro l hl;obtain⟨b,a,c,f⟩:=h l hl;have d:=e.loop b a c;obtain⟨L,g⟩:=c;exact⟨b,a,d,((e.step.loop b a ⟨_,g,trivial⟩ d).2).trans f⟩
def sv(P:da)(n N:Nat)(fr:eb)(k:List Item)(cs:List eb)(ai ad:Nat->Prop)(w:dg)(β:Bd)(H:Heap)(m:ej)(c:List ea)(Q:bD->St->Prop):Prop:=
 ∃e s' lj aF aO b w' a,Q e s'/\n7 P fr k cs m b a w' e/\dc P n lj aF aO s' b w'/\ek N ai ad w β H lj aF w' aO s'.heap/\Marks fr ai w lj aF w' c a
theorem sv.of{k:List Item}{ai ad:Nat->Prop}{w:dg}{β:Bd}{H:Heap}{m:ej}{ds:List ea}{Q:bD->St->Prop}{e:bD}{s':St}{aF:Nat->Prop}{aO:Bd}{a:Array c9}{w':dg}(hq:Q e s')(hl:n7 P fr k cs m a ds w' e)
 (c:dc P n ai aF aO s' a w')(b:ek N ai ad w β H ai aF w' aO s'.heap):sv P n N fr k cs ai ad w β H m ds Q:=⟨e,s',ai,aF,aO,a,w',ds,hq,hl,c,b,Marks.refl _ _ _ _ _ _⟩
theorem sv.next{k:List Item}{ai ad b a:Nat->Prop}{w c:dg}{β i:Bd}{H H1:Heap}{m g:ej}{d e:List ea}{Q:bD->St->Prop}(f:ek N ai ad w β H b a c i H1)(p:Marks fr ai w b a c d e)(aN:ee P m g)
 (h:sv P n N fr k cs b a c i H1 g e Q):sv P n N fr k cs ai ad w β H m d Q:=by
 obtain⟨e2,s2,l,j,r,t2,q,o,g1,g2,g3,g4,g5⟩:=h;exact⟨e2,s2,l,j,r,t2,q,o,g1,.of_steps aN g2,g3,f.trans g4,p.trans f g5 g4⟩
def codeOk(fit:Nat->Array Oper->Bool)(n:Nat):Code->Bool
 | .region _ ops draw=>ops.toList.all (jD n)&&(!draw||fit n ops)
 | .seq a b=>codeOk fit n a&&codeOk fit n b
 | .cond _ a b=>codeOk fit n a&&codeOk fit n b
 | .block _ b| .scope b| .loop b=>codeOk fit n b
 | .rangeFunc _ _ a b=>codeOk fit n a&&codeOk fit n b
 |_=>true
def uJ(P:da)(ah:dz->Bool)(fit:Nat->Array Oper->Bool):Prop:=
 ∀(n N:Nat)(a:Array Oper)(fr:eb)(k:List Item)(cs:List eb)(b:List ea)(c:Nat)(K:St->Prop)(s:St)(ai ad:Nat->Prop)(β:Bd)(t:Array c9)(w:dg),
  fit n a=true->(∀o∈a.toList,jD n o=true)->gV P ah a a.toList 0 [] K s->dc P n ai ad β s t w->
  lG P n N fr k cs a ai ad w β s.heap (lone (bG fr t b (.inRegion a (gN (P.follows .mixedOrders) a c)::k)) cs w) [] b K
theorem dc.draw{s:St}{ai ad:Nat->Prop}{β:Bd}{t:Array c9}{w w':dg}(a:w'.heap=w.heap)(h:dc P n ai ad β s t w):dc P n ai ad β s t w':=
 ⟨h.heap.xJ a,fun x=>aA.mono (fun _ x=>x) (fun _ _=>by rw[a]) (cM.refl _ _) _ _ (h.iy x) (h.env x),h.iy,h.size⟩
section rf
variable{w w':dg}{ad ai:Nat->Prop}{β:Bd}{H:Heap}
theorem cm.Oa(h:cm P w ad β H ai){x:Nat}(hx:x<w.heap.size)(u:∀(b:Nat)(o:Obj),H[b]?=some o->o.live->β.aq b≠x):cm P w ad β H (fun k=>ai k\/k=x):=by
 refine⟨fun b o l=>?_,h.inj,h.refs,h.cd,fun k hk=>hk.elim (h.fe k) (fun e=>e▸hx),h.jG⟩;have held:∀fz,o.live->cQ ad β ai fz b->cQ ad β (fun k=>ai k\/k=x) fz b:=by
  intro fz hl i;unfold cQ at i⊢;cases fz with
  |true=>exact i
  |false=>exact⟨i.1,fun v=>v.elim i.2 (u b o l hl)⟩
 have f:=h.cX b o l;cases o with
 |hole=>trivial
 |dead=>trivial
 |box fz t=>obtain⟨cs,T,a,c,d,g⟩:=f;exact⟨cs,T,a,c,held _ trivial d,g⟩
 |arr k ar ak es=>
  rcases f with f|⟨cs,T,m,rest,a,c,d,g,n,p,q,r⟩
  ·exact .inl f
  ·by_cases hl:dA k es
   ·exact .inl hl
   ·exact .inr ⟨cs,T,m,rest,a,c,d,g,n,p,held _ hl q,r⟩
 |map fz es=>obtain⟨j,clock,a,c,d⟩:=f;exact⟨j,clock,a,c,held _ trivial d⟩
 |dK ks vs=>obtain⟨j,clock,a,c,d,g⟩:=f;exact⟨j,clock,a,c,d,held _ trivial g⟩
 |dO s pos=>obtain⟨bs,a,c,d⟩:=f;exact⟨bs,a,c,held _ trivial d⟩
 |loop L=>obtain⟨tmps,defers,fn,a,c,d,g⟩:=f;exact⟨tmps,defers,fn,a,c,d,held _ trivial g⟩
theorem cm.shut(h:cm P w ad β H ai){Prot0:Nat->Prop}(q:∀k,Prot0 k->ai k){R:Nat->Prop}(m:∀x,R x->ai x/\¬ad x)(r:w'.heap.size=w.heap.size)(hs:∀k,¬R k->w'.heap[k]?=w.heap[k]?):cm P w' ad β H Prot0:=by
 have same:∀k,ad k->w'.heap[k]?=w.heap[k]?:=fun k hk=>hs k (fun i=>(m k i).2 hk);refine⟨fun b o p=>?_,h.inj,h.refs,fun k hk=>r▸h.cd k hk,fun k hk=>r▸h.fe k (q k hk),h.jG.mono (fun _ x=>x) same⟩;have held:∀fz,cQ ad β ai fz b->cQ ad β Prot0 fz b:=by
  intro fz f;unfold cQ at f⊢;cases fz with
  |true=>exact f
  |false=>exact⟨f.1,fun A=>f.2 (q _ A)⟩
 have aq:∀fz,cQ ad β ai fz b->w'.heap[β.aq b]?=w.heap[β.aq b]?:=by
  intro fz f;refine hs _ (fun i=>?_);unfold cQ at f;cases fz with
  |true=>exact(m _ i).2 f
  |false=>exact f.2 (m _ i).1
 have g:=h.cX b o p;have j:=h.refs b o p;cases o with
 |hole=>trivial
 |dead=>trivial
 |box fz t=>obtain⟨cs,T,c,d,a,e⟩:=g;exact⟨cs,T,(aq _ a).trans c,bw.mono (fun _ x=>x) same (cM.refl _ _) _ _ j d,held _ a,e⟩
 |arr k ar ak es=>
  rcases g with g|⟨cs,T,u,rest,c,d,a,e,v,y,n,z⟩
  ·exact .inl g
  ·exact .inr ⟨cs,T,u,rest,(aq _ n).trans c,bX.mono (fun _ x=>x) same (cM.refl _ _) _ _ _ j d,a,e,v,y,held _ n,z⟩
 |map fz es=>obtain⟨l,clock,c,d,a⟩:=g;exact⟨l,clock,(aq _ a).trans c,cR.mono (fun _ x=>x) same _ _ d,held _ a⟩
 |dK ks vs=>obtain⟨l,clock,c,d,a,e⟩:=g;exact⟨l,clock,(aq _ e).trans c,bu.mono (fun _ x=>x) same _ _ d,bC.mono (fun _ x=>x) same (cM.refl _ _) _ _ j a,held _ e⟩
 |dO s pos=>obtain⟨bs,c,d,a⟩:=g;exact⟨bs,(aq _ a).trans c,d,held _ a⟩
 |loop L=>obtain⟨tmps,defers,fn,c,d,a,e⟩:=g;exact⟨tmps,defers,fn,(aq _ e).trans c,d,fun x=>aA.mono (fun _ x=>x) same (cM.refl _ _) _ _ (j x) (a x),held _ e⟩
theorem Ft(H:Heap)(o:Obj):(H++hA 1 Obj.hole).set H.length o=H++[o]:=by
 rw[h3 _ _ (ix _)];simp
theorem Pc(a:cm P w ad β H ai){L:ey}{tmps:Array c9}{defers fn:Nat}(h:tmps.size=L.n)(l:∀x,aA P w ad β H (aS L.env x) (tmps.getD x undef))(c:∀x,aE (aL H) (aS L.env x)):
 cj P ai ad w β H ad (w.alloc (.loop {state:=L.st,pending:=L.pending,fn,tmps,params:=L.params.toArray,assign:=L.assign,body:=L.body,defers})) (β.at H.length w.heap.size 0) (H++[.loop L]):=by
 have d:cj P ai ad w β H ad w β (H++hA 1 .hole):=⟨fun _ x=>x,fun _ x=>.inl x,Ext.refl _ _ _,qh _ _ _,a.n9 _,nM _ _,fun b⟨L,e⟩=>⟨L,by rw[lx,if_pos (hz.1 e).1];exact e⟩⟩
 have f:(H++hA 1 Obj.hole)[H.length]?=some .hole:=by rw[lx];simp
 have aN:=(qh β H 1)
 have j:=AB (β:=β) f (.loop L) w.heap.size 0;have hrefs:∀x,aE (aL ((H++hA 1 Obj.hole).set H.length (.loop L))) (aS L.env x):=by
  intro x;rw[Ft];exact aE.mono (fun y m=>NR m) _ (c x)
 have g:=uM (cap:=0) d.rel f (ob:=.loop {state:=L.st,pending:=L.pending,fn,tmps,params:=L.params.toArray,assign:=L.assign,body:=L.body,defers}) (o':=.loop L)
  ⟨tmps,defers,fn,by simp[Bd.at],h,fun x=>aA.mono (fun _ x=>x) (fun k hk=>xy w _ (a.cd k hk)) j _ _ (aE.mono (nM _ _) _ (c x)) (aA.mono (fun _ x=>x) (fun _ _=>rfl) aN _ _ (c x) (l x)),?_⟩ hrefs
 ·rw[Ft]at g;exact d.trans g
 ·unfold cQ;simp only[c7,if_false,Bd.at,if_true];exact⟨fun hi=>by have:=a.cd _ hi;omega,fun i=>by have:=a.fe _ i;omega⟩
theorem EV(g:cm P w ad β H ai){b:Nat}{L:ey}(a:H[b]?=some (.loop L))(st:LoopState)(d:Option Code):
 ∃rec:Loop,w.heap[β.aq b]?=some (.loop rec)/\rec.state=L.st/\rec.pending=L.pending/\rec.params=L.params.toArray/\rec.assign=L.assign/\rec.body=L.body/\rec.tmps.size=L.n/\(∀x,aA P w ad β H (aS L.env x) (rec.tmps.getD x undef))/\
  cj P ai ad w β H ad (w.putObj (β.aq b) (.loop {rec with state:=st,pending:=d})) β (H.set b (.loop {L with st:=st,pending:=d})):=by
 obtain⟨tmps,defers,fn,p,q,r,c⟩:=g.cX b _ a;refine⟨_,p,rfl,rfl,rfl,rfl,rfl,q,r,?_⟩;have v:=(bo.1 p).1;have s:=(hz.1 a).1;unfold cQ at c;simp only[c7,if_false]at c;have aN:cM β H β (H.set b (.loop {L with st:=st,pending:=d})):=by
  have j:∀(x:Nat)(o:Obj),(H.set b (Obj.loop {L with st:=st,pending:=d}))[x]?=some o->(∀i,o≠Obj.loop i)->H[x]?=some o:=by
   intro x o m y
   by_cases hx:b=x
   ·subst hx;rw[hB s]at m;cases m;exact(y _ rfl).elim
   ·rwa [hC hx]at m
  refine⟨?_,?_,?_,?_,?_⟩
  ·rintro x _ ⟨f,t,h⟩;exact⟨⟨f,t,j _ _ h s_⟩,rfl⟩
  ·rintro x _ ⟨f,t,h⟩;exact⟨⟨f,t,j _ _ h s_⟩,rfl⟩
  ·rintro x _ ⟨z,h,l⟩;exact⟨⟨z,j _ _ h (fun i e=>by rw[e]at l;exact l.elim),l⟩,rfl⟩
  ·intro x ar ak k u _ h;exact⟨k,u,j _ _ h s_,ix _,hw,fun _=>⟨rfl,rfl⟩⟩
  ·rintro x _ ⟨i,h⟩;refine⟨?_,rfl⟩
   by_cases hx:b=x
   ·subst hx;exact⟨L,a⟩
   ·rw[hC hx]at h;exact⟨i,h⟩
 have al:∀x,aL H x->aL (H.set b (Obj.loop {L with st:=st,pending:=d})) x:=mS a (fun _ _=>trivial);have same:∀k,ad k->(w.putObj (β.aq b) (.loop {state:=st,pending:=d,fn,tmps,params:=L.params.toArray,assign:=L.assign,body:=L.body,defers})).heap[k]?=w.heap[k]?:=fun k hk=>hn (fun e=>c.1 (e▸hk));refine cj.set g s (fun _ _=>⟨rfl,rfl⟩) (fun _ x=>x) (fun _ x=>.inl x) (fun k hk=>by simpa using g.cd k hk) s_
  (fun k hk _=>hn (hk.resolve_right (fun h=>h trivial))) (fun _=>.inr ⟨rfl,⟨_,a,trivial⟩,.inr c.1,c.2⟩) aN
  ⟨tmps,defers,fn,World.putObj_heap_same v,q,fun x=>aA.mono (fun _ x=>x) same aN _ _ (g.refs b _ a x) (r x),?_⟩ (fun x=>aE.mono al _ (g.refs b _ a x)) (fun _ _ _ _=>trivial) (fun _ _=>⟨_,rfl⟩)
 unfold cQ;simpa using c
end rf
theorem Zp{s:St}{ai ad:Nat->Prop}{β:Bd}{t:Array c9}{w:dg}(c:dc P n ai ad β s t w)(F:s8 N fr β s.heap)(e:Array Tmp)(a b:Code)(p:List ea){f:Env}(g:∀x,aS f x=aS s.env x):
 ∃l mk i m j,(Instr.enterLoop fr.fn t e a b fr.roundOf).run P w=.ok (l,mk) i/\cm P i ad j (s.heap++[.loop ⟨.ready,none,n,e.toList,a,b,f⟩]) m/\j.aq s.heap.length=l/\
  ek N ai ad w β s.heap m ad i j (s.heap++[.loop ⟨.ready,none,n,e.toList,a,b,f⟩])/\Marks fr ai w m ad i p (mk++p)/\
  cM β s.heap j (s.heap++[.loop ⟨.ready,none,n,e.toList,a,b,f⟩]):=by
 cases v:fr.roundOf with
 |none=>
  have q:cj P ai ad w β s.heap ad (w.alloc (.deferred (some []))) β s.heap:=c.heap.later (fun _ x=>x) (fun _ x=>.inl x) (fun k hk=>by have:=c.heap.cd k hk;rw[ho];omega) (by rw[ho];omega) (fun k hk=>xy w _ hk);have D:=q.rel.Oa (x:=w.heap.size) (by rw[ho];omega) (fun b o G hl g=>by have:=c.heap.pq G hl;omega);have d:=Pc (L:=⟨.ready,none,n,e.toList,a,b,f⟩) (tmps:=t) (defers:=w.heap.size) (fn:=fr.fn) D c.size (fun x=>by rw[g];exact aA.mono (fun _ x=>x) (fun k hk=>xy w _ (c.heap.cd k hk)) (cM.refl _ _) _ _ (c.iy x) (c.env x)) (fun x=>by rw[g];exact c.iy x);have C:ek N ai ad w β s.heap (fun k=>ai k\/k=w.heap.size) ad (w.alloc (.deferred (some []))) β s.heap:=⟨fun _ h=>.inl h,fun _ h=>h,fun _ h=>.inl h,q.ext,(cM.refl _ _).n,fun _ _ h=>h,fun _ _ h=>h⟩
  refine⟨_,_,_,_,_,run_enterLoop_outer fr.fn t e a b,d.rel,?_,C.trans d.fB,?_,d.step⟩
  ·simp[Bd.at,ho]
  ·refine⟨[w.heap.size],rfl,s_,?_,fun k hk=>hk.imp id (fun h=>by simp[h]),by simp[v]⟩;intro r u;simp only[List.mem_singleton]at u;subst u;refine⟨ix _,.inr rfl,fun hi=>by have:=c.heap.cd _ hi;omega,?_⟩;exact(d.ext.same _ (.inl (.inr rfl))).trans (World.alloc_heap_new w _)
 |some H=>
  obtain⟨y,K,A,B⟩:=F H v;obtain⟨I,E⟩:=A;obtain⟨M,z,J,g1,_⟩:=c.heap.cX y _ E;rw[B]at g1;have d:=Pc (L:=⟨.ready,none,n,e.toList,a,b,f⟩) (tmps:=t) (defers:=z) (fn:=fr.fn) c.heap c.size (fun x=>by rw[g];exact c.env x) (fun x=>by rw[g];exact c.iy x);exact⟨_,_,_,_,_,run_enterLoop_inner g1 fr.fn t e a b,d.rel,by simp[Bd.at],d.fB,Marks.refl _ _ _ _ _ _,d.step⟩
theorem nJ(M:mJ P ah){fit:Nat->Array Oper->Bool}(K:uJ P ah fit):∀(c:Code)(k:List Item){Q:bD->St->Prop}{s:St}{ai ad:Nat->Prop}{β:Bd}{t:Array c9}{w:dg}{ds:List ea},
 codeOk fit n c=true->cC P ah (n,N) c Q s->dc P n ai ad β s t w->s8 N fr β s.heap->sv P n N fr k cs ai ad w β s.heap (lone (bG fr t ds (.code c::k)) cs w) ds Q
 | .skip,k,Q,s,ai,ad,β,t,w,ds,_,h,i,_=>.of h (.one aQA:n7 P fr k cs _ t ds w .normal) i (ek.refl _ _ _ _ _ _)
 | .label l,k,Q,s,ai,ad,β,t,w,ds,_,h,i,_=>.of h (.one au1:n7 P fr k cs _ t ds w .normal) i (ek.refl _ _ _ _ _ _)
 | .exit id,k,Q,s,ai,ad,β,t,w,ds,_,h,i,_=>.of h (⟨k,rfl,hg _ _⟩:n7 P fr k cs _ t ds w (.exit id)) i (ek.refl _ _ _ _ _ _)
 | .ret,k,Q,s,ai,ad,β,t,w,ds,_,h,i,_=>.of h (⟨k,hg _ _⟩:n7 P fr k cs _ t ds w .ret) i (ek.refl _ _ _ _ _ _)
 | .region id ops draw,k,Q,s,ai,ad,β,t,w,ds,z,h,i,_=>by
  simp only[codeOk,c8,h7]at z;simp only[cC]at h;cases draw with
  |false=>
   simp only[c7,if_false]at h;obtain⟨s',aF,aO,ay,w',j,r,q,d⟩:=M9 (fr:=fr) (k:=k) (cs:=cs) (ds:=ds) (N:=N) M z.1 ops.toList 0 s_ h i;refine .of (e:=.normal) j ?_ q d;have e:ip ops.size=hW 0 ops.toList.length:=by rw[List.range_eq_range'];simp
   exact(hb V6).trans ((by rw[e];exact r:ee P _ _).trans (.one Lx))
  |true=>
   simp only[if_true]at h;have a3:dc P n ai ad β s t {w with drawn:=w.drawn+1}:=dc.draw (w:=w) (w':={w with drawn:=w.drawn+1}) rfl i;obtain⟨s',aF,aO,ay,w',j,r,q,d⟩:=K n N ops fr k cs ds (w.tape w.drawn (.order fr.fn id)) _ s ai ad β t _ (by simpa using z.2) z.1 h a3;exact .of (e:=.normal) j ((hb aQw).trans (r.trans (.one Lx)):n7 P fr k cs _ ay ds w' .normal) q ⟨d.fe,d.cd,d.fresh,⟨d.ext.size,d.ext.same,d.ext.io⟩,d.step,d.gh,d.loop⟩
 | .seq a b,k,Q,s,ai,ad,β,t,w,ds,z,h,i,D=>by
  simp only[codeOk,c8]at z;simp only[cC]at h;obtain⟨e,s1,p,C,A,t1,o,E,j,r,q,d,B⟩:=nJ M K a (.code b::k) z.1 h i D;cases e with
  |normal=>exact .next d B ((hb FI).trans r) (nJ M K b k z.2 j q (D.fB d))
  |exit id=>
   obtain⟨F,O,a2⟩:=r;exact⟨.exit id,s1,p,C,A,t1,o,E,j,⟨F,O.trans (by simp[exitTo]),(hb FI).trans a2⟩,q,d,B⟩
  |ret=>
   obtain⟨F,a2⟩:=r;exact⟨.ret,s1,p,C,A,t1,o,E,j,⟨F,(hb FI).trans a2⟩,q,d,B⟩
 | .cond c a b,k,Q,s,ai,ad,β,t,w,ds,z,h,i,D=>by
  simp only[codeOk,c8]at z;simp only[cC]at h
  split at h
  ·rename_i az aI;have ao:=(pB i c).1;rw[aI]at ao;simp only[aA,aC]at ao;have aN:=aQv (P:=P) (fr:=fr) (ds:=ds) (k:=k) (cs:=cs) (w:=w) (x:=a) (y:=b) ao;cases az with
   |true=>exact .next (ek.refl N ai ad w β s.heap) (Marks.refl _ _ _ _ _ _) (.one (by simpa using aN)) (nJ M K a k z.1 (by simpa using h) i D)
   |false=>exact .next (ek.refl N ai ad w β s.heap) (Marks.refl _ _ _ _ _ _) (.one (by simpa using aN)) (nJ M K b k z.2 (by simpa using h) i D)
  ·exact h.elim
 | .block id b,k,Q,s,ai,ad,β,t,w,ds,z,h,i,D=>by
  simp only[codeOk]at z;simp only[cC]at h;obtain⟨e,s1,p,C,A,t1,o,E,j,r,q,d,B⟩:=nJ M K b (.inBlock id::k) z h i D;cases e with
  |normal=>exact⟨.normal,s1,p,C,A,t1,o,E,j,(hb AL).trans (r.trans (.one Zy)),q,d,B⟩
  |exit ac=>
   obtain⟨F,O,a2⟩:=r;dsimp only at j
   split at j
   ·rename_i hid;subst hid;refine⟨.normal,s1,p,C,A,t1,o,E,j,(hb AL).trans (a2.trans (.one (aQx ?_))),q,d,B⟩;rw[O];simp[exitTo]
   ·rename_i hid;exact⟨.exit ac,s1,p,C,A,t1,o,E,j,⟨F,O.trans (by simp[exitTo,i8 hid]),(hb AL).trans a2⟩,q,d,B⟩
  |ret=>
   obtain⟨F,a2⟩:=r;exact⟨.ret,s1,p,C,A,t1,o,E,j,⟨F,(hb AL).trans a2⟩,q,d,B⟩
 | .scope b,k,Q,s,ai,ad,β,t,w,ds,z,h,i,D=>by
  simp only[codeOk]at z;simp only[cC]at h;obtain⟨e,s1,p,C,A,t1,o,E,j,r,q,d,B⟩:=nJ M K b (.inScope b::k) z h i D;cases e with
  |normal=>exact⟨.normal,s1,p,C,A,t1,o,E,j,(hb EG).trans (r.trans (.one Zx)),q,d,B⟩
  |exit ac=>
   obtain⟨F,O,a2⟩:=r;exact⟨.exit ac,s1,p,C,A,t1,o,E,j,⟨F,O.trans (by simp[exitTo]),(hb EG).trans a2⟩,q,d,B⟩
  |ret=>
   obtain⟨F,a2⟩:=r;exact⟨.ret,s1,p,C,A,t1,o,E,j,⟨F,(hb EG).trans a2⟩,q,d,B⟩
 | .loop b,k,Q,s,ai,ad,β,t,w,ds,z,h,i,D=>by
  simp only[codeOk]at z;simp only[cC]at h;obtain⟨I,⟨m0,t0,hf,hI⟩,a5⟩:=h
  have loop:∀(m:Nat)(u:St)(ai ad:Nat->Prop)(β:Bd)(t:Array c9)(w:dg)(ds:List ea),I m u->dc P n ai ad β u t w->s8 N fr β u.heap->
   sv P n N fr k cs ai ad w β u.heap (lone (bG fr t ds (.code b::.inLoop b::k)) cs w) ds Q:=by
   intro m
   induction m using Nat.strongRecOn with
   |_ m a8=>
    intro u ai ad β t w ds hI i D;obtain⟨e,s1,p,C,A,t1,o,E,j,r,q,d,B⟩:=nJ M K b (.inLoop b::k) z (a5 m u hI) i D;cases e with
    |normal=>
     obtain⟨a9,u',a0,ar,aB⟩:=j;have ab:=ar.fB (β:=A) (ai:=p) (ad:=C) (w:=o);exact .next (d.trans ab) B (hd r (.one ZU)) (a8 a9 a0 u' p C A t1 o E aB (ar.rel q) ((D.fB d).fB ab))
    |exit ac=>
     obtain⟨F,O,a2⟩:=r;exact⟨.exit ac,s1,p,C,A,t1,o,E,j,⟨F,O.trans (by simp[exitTo]),a2⟩,q,d,B⟩
    |ret=>
     obtain⟨F,a2⟩:=r;exact⟨.ret,s1,p,C,A,t1,o,E,j,⟨F,a2⟩,q,d,B⟩
  have ab:=hf.fB (β:=β) (ai:=ai) (ad:=ad) (w:=w);exact .next ab (Marks.refl _ _ _ _ _ _) (.one aQy) (loop m0 t0 ai ad β t w ds hI (hf.rel i) (D.fB ab))
 | .rangeFunc f G a b,k,Q,s,ai,ad,β,t,w,ds,z,h,i,D=>by
  simp only[cC]at h;obtain⟨be,R,aU,h⟩:=h;have Y:=pB i f
  obtain⟨g,fi,ca,J,H,aX,aW,aM,av,au,aa,v,aY,af⟩:∃g fi ca,∃J H:List c9,fS t f= .func (.func g) J.toArray H.toArray/\bC P w ad β s.heap fi J/\bC P w ad β s.heap ca H/\aV (aL s.heap) fi/\aV (aL s.heap) ca/\
   ∃aa v,b8 P g (s.heap++[.loop ⟨.ready,none,n,G.toList,a,b,R⟩]) (fi++[.map s.heap.length]++ca) aa v/\iX s.heap.length s.env Q aa:=by
   unfold jO at h
   split at h
   ·rename_i g fi ca hf;rw[hf]at Y;simp only[aA,aC]at Y;obtain⟨⟨J,H,j,r,q⟩,_⟩:=Y;exact⟨g,_,_,J,H,q,ki.2 j,ki.2 r,jz _ _,jz _ _,h⟩
   ·rename_i g fi ca hf;rw[hf]at Y;simp only[aA,aE]at Y;obtain⟨⟨J,H,j,r,q⟩,d,B⟩:=Y;exact⟨g,fi,ca,J,H,q,j,r,d,B,h⟩
   ·exact h.elim
  obtain⟨l,mk,o,p,A,e1,e2,e3,e4,e5,ag⟩:=Zp (fr:=fr) i D G a b ds aU;obtain⟨aS,aP⟩:=aY;have al:∀x,aL s.heap x->aL (s.heap++[.loop ⟨.ready,none,n,G.toList,a,b,R⟩]) x:=fun x hx=>NR hx;have an:∀k,ad k->o.heap[k]?=w.heap[k]?:=fun k hk=>e4.ext.same k (.inr hk);have a6:aA P o ad A (s.heap++[.loop ⟨.ready,none,n,G.toList,a,b,R⟩]) (.map s.heap.length) (.func (.yield l) #[] #[]):=by
   simp only[aA,bY,b7];refine⟨by simp[hj],fun W=>?_,fun _=>by rw[e3]⟩;obtain⟨bg,ap,W⟩:=W;simp at ap;subst ap;exact W.elim
  have a7:aE (aL (s.heap++[.loop ⟨.ready,none,n,G.toList,a,b,R⟩])) (.map s.heap.length):=by
   simp only[aE];exact⟨.loop ⟨.ready,none,n,G.toList,a,b,R⟩,s_,trivial⟩
  have aH:=ql (ql (bC.mono (fun _ x=>x) an ag _ _ av aW) (b:=[.map s.heap.length]) (y:=[.func (.yield l) #[] #[]]) (by simp only[bC];exact⟨_,_,rfl,a6,rfl⟩)) (bC.mono (fun _ x=>x) an ag _ _ au aM);have aG:=kD (kD (aV.mono al _ av) (b:=[.map s.heap.length]) (by simp only[aV];exact⟨a7,trivial⟩)) (aV.mono al _ au);have aZ:(invoke (.fn (.func g) H.toArray) (J.toArray++#[.func (.yield l) #[] #[]])).run P o=.ok (.enter g (J++[(.func (.yield l) #[] #[]:c9)]++H).toArray) o:=by
   have:=aS (J++[(.func (.yield l) #[] #[]:c9)]++H).toArray o;simp only[invoke];rw[<-this];congr 2;simp
  have a4:(resolve (Act.eval ⟨t,ds⟩) (rangeCall f l) 0).run P o=.ok (⟨.fn (.func g) H.toArray,J.toArray++#[.func (.yield l) #[] #[]]⟩:ea) o:=by
   have ak:(Act.eval ⟨t,ds⟩) f=fS t f:=by cases f<;>rfl
   have aQ:(rangeCall f l).args.map (Act.eval ⟨t,ds⟩)=#[.func (.yield l) #[] #[]]:=by simp[Act.eval]
   simp only[resolve,aQ];simp only[ak,aX,fl];rfl
  have aT:=stepR_rangeFunc (P:=P) (b:=fr) (a:=⟨t,ds⟩) (k:=k) (cs:=cs) (w:=w) (g:=f) (ps:=G) (assign:=a) (body:=b) e1 a4 aZ;obtain⟨e,ae,bd,⟨bc,X,U,ak,g1,g2,g3⟩,aN,bf,a1⟩:=aP o ad p A _ e2 aH aG (fr.atR ⟨t,mk++ds⟩ (.inRangeFunc l::k)::cs);subst ak;unfold iX at af
  split at af
  case h_2=>exact af.elim
  rename_i L aq;obtain⟨aK,Z⟩:=af;obtain⟨rec,aw,ba,bb,bh,bi,bj,bk,bl,ax⟩:=EV g1.rel aq .exhausted L.pending;have aD:aL (s.heap++[.loop ⟨.ready,none,n,G.toList,a,b,R⟩]) (s.heap.length,0):=⟨.loop ⟨.ready,none,n,G.toList,a,b,R⟩,s_,trivial⟩
  have aJ:X.aq s.heap.length=l:=((g1.step.loop _ aD ⟨_,aq⟩).2).trans e3;rw[aJ]at aw ax;have aR:=run_endLoop (P:=P) aw (by rw[ba];exact aK);have S:ee P (lone (bG fr t ds (.code (.rangeFunc f G a b)::k)) cs w) (lone (bG fr t (mk++ds) ((rec.pending.map Item.code).toList++k)) cs (ae.putObj l (.loop {rec with state:=.exhausted}))):=by
   refine(hb aT).trans (hd aN ?_);refine(hb (ec a1)).trans ?_;rw[finish_atR_inRangeFunc];exact .one (stepR_endRangeFunc aR)
  have S:ee P (lone (bG fr t ds (.code (.rangeFunc f G a b)::k)) cs w) (lone (bG fr t (mk++ds) ((L.pending.map Item.code).toList++k)) cs (ae.putObj l (.loop {rec with state:=.exhausted,pending:=L.pending}))):=by
   rw[<-bb];exact S
  have V:cj P p ad o A (s.heap++[.loop ⟨.ready,none,n,G.toList,a,b,R⟩]) U _ X _:=g1.trans ax;have am:dc P n p U X ⟨s.env,aa.set s.heap.length (.loop {L with st:=.exhausted})⟩ t (ae.putObj l (.loop {rec with state:=.exhausted,pending:=L.pending})):=by
   refine⟨V.rel,fun x=>?_,fun x=>?_,i.size⟩
   ·exact aA.mono V.cd (fun k hk=>V.ext.same k (.inr hk)) V.step _ _ (aE.mono al _ (i.iy x)) (aA.mono (fun _ x=>x) an ag _ _ (i.iy x) (i.env x))
   ·exact aE.mono V.gh _ (aE.mono al _ (i.iy x))
  have aj:ek N ai ad w β s.heap p U (ae.putObj l (.loop {rec with state:=.exhausted,pending:=L.pending})) X (aa.set s.heap.length (.loop {L with st:=.exhausted})):=e4.trans V.fB;have W:Marks fr ai w p U (ae.putObj l (.loop {rec with state:=.exhausted,pending:=L.pending})) ds (mk++ds):=e5.trans e4 (Marks.refl _ _ _ _ _ _) V.fB;unfold kl at Z
  split at Z
  ·rename_i T;rw[T]at S;exact⟨.normal,_,p,U,X,t,_,mk++ds,Z,by rw[T];exact S,am,aj,W⟩
  ·rename_i id T;rw[T]at S;exact⟨.exit id,_,p,U,X,t,_,mk++ds,Z,⟨k,rfl,by rw[T];exact S⟩,am,aj,W⟩
  ·rename_i T;rw[T]at S;exact⟨.ret,_,p,U,X,t,_,mk++ds,Z,⟨k,by rw[T];exact S⟩,am,aj,W⟩
  ·exact Z.elim
 | .goto _,_,_,_,_,_,_,_,_,_,_,h,_,_| .refuse _,_,_,_,_,_,_,_,_,_,_,h,_,_=>by simp[cC]at h
end
end Go.an
namespace Go.an
variable[Gl]
def jo(i:Nat):List AV->Env
 |[]=>[]
 |v::r=>(i,v)::jo (i+1) r
def qP(P:da)(s:St):ei->Option AV
 | .tmp t=>some (aS s.env t)
 | .cell a T=>match aS s.env a with
  | .ptr b path=>match s.heap[b]? with
   |some (.box _ t)=>match fk t path with
    |some v=>if kindOf P T=aa v then some v else none
    |none=>none
   |_=>none
  |_=>none
def fX(P:da)(s:St):List ei->Option (List AV)
 |[]=>some []
 |r::rs=>match qP P s r,fX P s rs with
  |some v,some vs=>some (v::vs)
  |_,_=>none
def oneOf:List AV->AV
 |[v]=>v
 |vs=>match fj vs with
  |some l=>.p (.aD l)
  |none=>.aD vs
def jH(f:AV->Option PV):List AV->Option (List PV)
 |[]=>some []
 |v::vs=>match f v,jH f vs with
  |some p,some a=>some (p::a)
  |_,_=>none
def eQ(H:Heap):Nat->AV->Option PV
 |0,.p v=>some v
 |0,_=>none
 |n+1,x=>match x with
  | .p v=>some v
  | .sl b ar ak off len=>match H[b]? with
   |some (.arr k e c es)=>
    if ar=e/\ak=c/\off+len<=es.length then
     if k.gr=true/\es=[]then some .aH else
     match jH (eQ H n) ((es.drop off).take len)with
     |some d=>some (.bF (k== .exact&&off+len==es.length) d)
     |none=>none
    else none
   |_=>none
  | .ptr b path=>match H[b]? with
   |some (.box _ t)=>match fk t path with
    |some s=>match eQ H n s with
     |some p=>some (.cG p)
     |none=>none
    |none=>none
   |_=>none
  | .map b=>match H[b]? with
   |some (.map _ es)=>some (.fu es)
   |_=>none
  | .func f fi ca=>match jH (eQ H n) fi,jH (eQ H n) ca with
   |some a,some b=>some (.func f a b)
   |_,_=>none
  | .st u fs=>match jH (eQ H n) fs with
   |some l=>some (.st u l)
   |none=>none
  | .aD vs=>match jH (eQ H n) vs with
   |some l=>some (.aD l)
   |none=>none
  | .ct _ _ _ _ _=>none
section
variable{P:da}{w:dg}{ad ai:Nat->Prop}{β:Bd}{H:Heap}
def BK(ad:Nat->Prop)(β:Bd)(H:Heap)(k:Nat):Prop:=ad k\/∃(b:Nat)(o:Obj),H[b]?=some o/\o.live/\β.aq b=k
theorem N9:∀{n:Nat}{v:AV}{p:PV},eQ H n v=some p->(aa v=aP p)
 |0,v,p,h=>by
  cases v<;>simp[eQ]at h;subst h;rfl
 |n+1,v,p,h=>by
  cases v<;>simp only[eQ]at h
  case p v=>simp at h;subst h;rfl
  case ct=>simp at h
  case sl b ar ak off len=>
   split at h
   ·split at h
    ·split at h
     ·simp at h;subst h;rfl
     ·split at h
      ·simp at h;subst h;rfl
      ·simp at h
    ·simp at h
   ·simp at h
  case ptr b path=>
   split at h
   ·split at h
    ·split at h
     ·simp at h;subst h;rfl
     ·simp at h
    ·simp at h
   ·simp at h
  all_goals
   split at h
   ·simp at h;subst h;rfl
   ·simp at h
theorem MB{v:AV}{p:PV}{cs:List c9}(hs:aa v=aP p)(hc:bw P w ad β H v cs){I:Nat->Prop}(h:∀x,aA P w ad β H v x->aC P w I p x):aY P w I p cs:=by
 cases a:aa v with
 |bad=>exact((o7 hc).2 a).elim
 |leaf=>
  obtain⟨c,rfl,b⟩:=(EO a cs).1 hc;exact(uP (hs▸a) _).2 ⟨c,rfl,h _ b⟩
 |agg u=>exact(ya (hs▸a) cs).2 (h _ ((QG a cs).1 hc))
section lists
variable{f:AV->Option PV}{I:Nat->Prop}(hf:∀v p,f v=some p->aa v=aP p/\(aE (aL H) v->∀x,aA P w ad β H v x->aC P w I p x))
include hf
theorem Ax:∀{vs:List AV}{a:List PV},jH f vs=some a->aV (aL H) vs->∀b,bC P w ad β H vs b->bu P w I a b
 |[],a,h,_,b,hx=>by
  simp[jH]at h;subst h;simpa[bC,bu]using hx
 |v::vs,a,h,c,b,hx=>by
  simp only[jH]at h
  split at h
  case h_2=>simp at h
  rename_i q qs hq d;simp at h;subst h;simp only[aV]at c;simp only[bC]at hx;obtain⟨y,e,rfl,k1,k2⟩:=hx;simp only[bu];exact⟨y,e,rfl,(hf _ _ hq).2 c.1 _ k1,Ax d c.2 _ k2⟩
theorem D3:∀{vs:List AV}{b:List PV},jH f vs=some b->aV (aL H) vs->∀l a,bX P w ad β H l vs a->bm P w I l b a
 |[],b,h,_,l,a,hx=>by
  simp[jH]at h;subst h;cases l<;>simp_all [bX,bm]
 |v::vs,b,h,d,l,a,hx=>by
  simp only[jH]at h
  split at h
  case h_2=>simp at h
  rename_i q qs hq e;simp at h;subst h;simp only[aV]at d;cases l with
  |nil=>simp[bX]at hx
  |cons m l=>
   simp only[bX]at hx;obtain⟨c,cs,rfl,k1,k2,k3⟩:=hx;simp only[bm];exact⟨c,cs,rfl,MB (hf _ _ hq).1 k1 ((hf _ _ hq).2 d.1),k2,D3 e d.2 _ _ k3⟩
end lists
theorem Af(e:cm P w ad β H ai):∀(n:Nat)(v:AV)(p:PV),eQ H n v=some p->aE (aL H) v->∀x,aA P w ad β H v x->aC P w (BK ad β H) p x
 |0,v,p,h,_,x,hx=>by
  cases v<;>simp[eQ]at h;subst h;simp only[aA]at hx;exact aC.mono (fun _=>.inl) (fun _ _=>rfl) _ _ hx
 |n+1,v,p,h,g,x,hx=>by
  have hf:∀v p,eQ H n v=some p->aa v=aP p/\(aE (aL H) v->∀x,aA P w ad β H v x->aC P w (BK ad β H) p x):=fun v p h=>⟨N9 h,Af e n v p h⟩
  cases v<;>simp only[eQ]at h
  case p v=>
   simp at h;subst h;simp only[aA]at hx;exact aC.mono (fun _=>.inl) (fun _ _=>rfl) _ _ hx
  case ct=>simp at h
  case sl b ar ak off len=>
   split at h
   case h_2=>simp at h
   rename_i k ac X y d
   split at h
   case isFalse=>simp at h
   rename_i K;obtain⟨rfl,rfl,hl⟩:=K;simp only[aA]at hx;obtain⟨_,hx⟩:=hx;simp only[b7]at hx;obtain⟨v1,v2,v3⟩:=hx k y d
   split at h
   ·rename_i r;simp at h;subst h;simp[aC,v2 r]
   ·rename_i r
    split at h
    case h_2=>simp at h
    rename_i V N;simp at h;subst h;rw[v3 r];rcases e.cX b _ d with hold|⟨cs,T,B,rest,i,j,A,F,Y,G,Z,ab⟩
    ·exact(r hold).elim
    obtain⟨a,m,c,e1,e2,e3,e4,e5⟩:=kF j off len v1;have Q:aV (aL H) ((y.drop off).take len):=by
     have:=e.refs b _ d;rw[cB];intro v R;exact cB.1 this v (List.mem_of_mem_drop (List.mem_of_mem_take R))
    have L:((y.drop off).take len).length=len:=by simp;omega
    have k1:=D3 hf N Q _ _ e2;have z:V.length=len:=by have:=(xk k1).2.1;simp at this;omega
    simp only[aC];refine⟨β.aq b,off*ak,β.cap b-off,ak,m,by rw[z,<-L];exact k1,fun _=>.inr ⟨b,_,d,r,rfl⟩,?_,?_,?_,none,.inl rfl,?_⟩
    ·rw[<-e3];exact mL i (post:=c.flatten++rest) (by rw[A,e1];simp)
    ·intro hf;simp at hf;rw[z,G hf.1];omega
    ·rw[z];omega
    ·rw[z]
  case ptr b path=>
   split at h
   case h_2=>simp at h
   rename_i fz t d
   split at h
   case h_2=>simp at h
   rename_i s hs
   split at h
   case h_2=>simp at h
   rename_i q hq;simp at h;subst h;simp only[aA]at hx;obtain⟨_,hx⟩:=hx;simp only[b7]at hx;obtain⟨W,U,o,rfl,M,hx⟩:=hx;obtain⟨rfl,rfl⟩:=hx (.inl ⟨fz,_,d⟩);obtain⟨cs,T,i,j,A,F⟩:=e.cX b _ d;obtain⟨pre,xs,post,e1,e2,e3,_⟩:=qE j hs M;have O:aE (aL H) s:=xH hs (e.refs b _ d);simp only[aC];refine⟨β.aq b,U,xs,MB (N9 hq) e3 (Af e n _ _ hq O),.inr ⟨b,_,d,trivial,rfl⟩,?_,rfl⟩;rw[<-e2];exact mL i e1
  case map b=>
   split at h
   case h_2=>simp at h
   rename_i fz y d;simp at h;subst h;simp only[aA]at hx;obtain⟨_,hx⟩:=hx;simp only[b7]at hx;have hx:=hx.1 ⟨_,d,trivial⟩;obtain⟨D,clock,i,j,A⟩:=e.cX b _ d;simp only[aC];exact⟨β.aq b,D,clock,.inr ⟨b,_,d,trivial,rfl⟩,i,cR.mono (fun _=>.inl) (fun _ _=>rfl) _ _ j,hx⟩
  case func f a b=>
   split at h
   case h_2=>simp at h
   rename_i a' b' I J;simp at h;subst h;simp only[aE]at g;simp only[aA]at hx;obtain⟨E,C,k1,k2,k3⟩:=hx;simp only[aC];exact⟨E,C,Ax hf I g.1 _ k1,Ax hf J g.2 _ k2,k3⟩
  case st u fs=>
   split at h
   case h_2=>simp at h
   rename_i l hl;simp at h;subst h;simp only[aE]at g;simp only[aA]at hx;obtain⟨S,B,k1,k2,k3⟩:=hx;simp only[aC];exact⟨S,B,k1,D3 hf hl g _ _ k2,k3⟩
  case aD vs=>
   split at h
   case h_2=>simp at h
   rename_i l hl;simp at h;subst h;simp only[aE]at g;simp only[aA]at hx;obtain⟨xs,k1,k2⟩:=hx;simp only[aC];exact⟨xs,Ax hf hl g _ k1,k2⟩
end
section
variable{P:da}{ah:dz->Bool}{fit:Nat->Array Oper->Bool}
theorem D1:∀(args:List AV)(i x:Nat),aS (jo i args) x=if i<=x then(args[x-i]?).getD (.p .undef)else .p .undef
 |[],i,x=>by simp[jo,aS]
 |v::r,i,x=>by
  simp only[jo,aS,D1 r]
  by_cases h:x=i
  ·subst h;simp
  ·by_cases b:i<=x
   ·have a:i+1<=x:=by omega
    simp only[h,b,a,if_true,if_false];rw[show x-i=(x-(i+1))+1 by omega,h1]
   ·have a:¬i+1<=x:=by omega
    simp[h,b,a]
theorem uQ{w:dg}{ad:Nat->Prop}{β:Bd}{H:Heap}:∀{vs:List AV}{xs:List c9},bC P w ad β H vs xs->xs.length=vs.length/\∀i:Nat,aA P w ad β H ((vs[i]?).getD (.p .undef)) ((xs[i]?).getD undef)
 |[],xs,h=>by simp only[bC]at h;subst h;simp[aA,aC]
 |v::vs,xs,h=>by
  simp only[bC]at h;obtain⟨y,c,rfl,a,b⟩:=h;have:=uQ b;refine⟨by simp[this.1],fun i=>?_⟩;cases i with
  |zero=>simpa using a
  |succ i=>simpa using this.2 i
theorem ZT{ai ad:Nat->Prop}{β:Bd}{w:dg}{H:Heap}{args:List AV}{a:List c9}{n:Nat}(f:cm P w ad β H ai)(d:bC P w ad β H args a)(g:aV (aL H) args)(i:args.length<=n):
 dc P n ai ad β ⟨jo 0 args,H⟩ (a.toArray++br (n-a.length) undef) w:=by
 obtain⟨b,c⟩:=uQ d;refine⟨f,fun x=>?_,fun x=>?_,by simp[b];omega⟩
 ·have e:(a.toArray++br (n-a.length) undef).getD x undef=(a[x]?).getD undef:=by
   rw[bv,<-b0];simp only[Array.toList_append,Array.toList_replicate]
   by_cases hx:x<a.length
   ·rw[hL (by simpa using hx)]
   ·rw[hP (by simpa using hx)];simp only[hG];rw[List.getElem?_eq_none (by simpa using hx)]
    split<;>rfl
  rw[e,D1];simpa using c x
 ·rw[D1];simp only[Nat.zero_le,if_true,Nat.sub_zero];cases h:args[x]? with
  |none=>simp[aE]
  |some v=>exact cB.1 g v (hJ h)
theorem LL{w:dg}{ad:Nat->Prop}{β:Bd}{H:Heap}{T:db}{v:AV}{aq off:Nat}{a:List c9}(hk:kindOf P T=aa v)(f:bw P w ad β H v a)(hc:iE w aq off a):
 ∃g,(loadVar T ⟨aq,off,none⟩).run P w=.ok g w/\aA P w ad β H v g:=by
 obtain⟨hl,n⟩:=o7 f;have m:∀j,(⟨aq,off,none⟩:Addr).add j=⟨aq,off+j,none⟩:=by intro j;unfold Addr.add;split<;>simp_all
 unfold kindOf at hk;cases hs:aa v with
 |bad=>exact(n hs).elim
 |leaf=>
  rw[hs]at hk;obtain⟨c,rfl,e⟩:=(EO hs a).1 f;refine⟨c,?_,e⟩;have h:=hc 0 s_;simp only[i3,List.getElem_cons_zero]at h;have b:(isAgg T).run P w=.ok false w:=by
   cases hu:P.underlying T with
   |none=>simp[hu]at hk
   |some d=>
    cases d<;>simp only[hu]at hk<;>first
     |(simp[isAgg,dk hu];done)
     |(split at hk<;>simp at hk)
  simp[loadVar,b,h]
 |agg u=>
  rw[hs]at hk;have e:=(QG hs a).1 f;refine⟨.agg a.toArray,?_,e⟩;have b:(isAgg T).run P w=.ok true w/\P.cellsOf T=a.length:=by
   rw[hl,hs];cases hu:P.underlying T with
   |none=>simp[hu]at hk
   |some d=>
    cases d<;>simp only[hu]at hk<;>first
     |(split at hk
       ·rename_i hc;simp at hk;subst hk;simp at hc;refine⟨by simp[isAgg,dk hu],hc.2⟩
       ·simp at hk)
     |(split at hk<;>simp at hk)
  obtain⟨i,hi⟩:∃i,P.info? T=some i:=by
   cases hi:P.info? T with
   |none=>
    have l:=b.1;simp[isAgg,underlying,gx,hi]at l
   |some i=>exact⟨i,rfl⟩
  have p:(sizeOf T).run P w=.ok a.length w:=by
   rw[<-b.2];simp[sizeOf,typeInfo,hi,gt]
  have o:=run_loadCells_list (P:=P) w ⟨aq,off,none⟩ a (fun j x hx=>by
   rw[m];have k:j<a.length:=(hz.1 hx).1;rw[hc j k];rw[hE k]at hx;exact hx)
  simp[loadVar,b.1,p,o]
theorem ZG{n:Nat}{ai ad:Nat->Prop}{β:Bd}{s:St}{t:Array c9}{w:dg}(h:dc P n ai ad β s t w){g:ei}{v:AV}(c:qP P s g=some v):
 ∃e,(match g with
  | .tmp x=>(pure (t.getD x undef):Sem c9)
  | .cell a T=>do loadVar T (<-asAddr (t.getD a undef))).run P w=.ok e w/\aA P w ad β s.heap v e/\aE (aL s.heap) v:=by
 cases g with
 |tmp x=>
  simp[qP]at c;subst c;exact⟨_,rfl,h.env x,h.iy x⟩
 |cell a T=>
  simp only[qP]at c;have d:=h.env a
  split at c
  case h_2=>simp at c
  rename_i b B k;rw[k]at d
  split at c
  case h_2=>simp at c
  rename_i fz r f
  split at c
  case h_2=>simp at c
  rename_i v' hs
  split at c
  case isFalse=>simp at c
  rename_i hc;simp at c;subst c;simp only[aA]at d;obtain⟨_,d⟩:=d;simp only[b7]at d;obtain⟨y,q,o,p,m,d⟩:=d;obtain⟨rfl,rfl⟩:=d (.inl ⟨fz,r,f⟩);obtain⟨cs,u,i,j,z,A⟩:=h.heap.cX b _ f;obtain⟨pre,xs,post,e1,e2,e3,_⟩:=qE j hs m;have l:iE w (β.aq b) q xs:=by rw[<-e2];exact mL i e1
  obtain⟨e,k1,k2⟩:=LL hc e3 l;refine⟨e,?_,k2,xH hs (h.heap.refs b _ f)⟩;simp only[p,asAddr];simp[k1]
theorem LO{n:Nat}{ai ad:Nat->Prop}{β:Bd}{s:St}{t:Array c9}{w:dg}(h:dc P n ai ad β s t w):∀{d:List ei}{vs:List AV},fX P s d=some vs->
 ∃c:List c9,(d.mapM (fun i:ei=>match i with
  | .tmp x=>(pure (t.getD x undef):Sem c9)
  | .cell a T=>do loadVar T (<-asAddr (t.getD a undef)))).run P w=.ok c w/\bC P w ad β s.heap vs c/\aV (aL s.heap) vs
 |[],vs,b=>by
  simp[fX]at b;subst b;exact⟨[],s_,by simp[bC],by simp[aV]⟩
 |r::d,vs,b=>by
  simp only[fX]at b
  split at b
  case h_2=>simp at b
  rename_i v j f g;simp at b;subst b;obtain⟨e,k1,k2,k3⟩:=ZG h f;obtain⟨c,g1,g2,g3⟩:=LO h g;refine⟨e::c,?_,by simp only[bC];exact⟨e,c,rfl,k2,g2⟩,by simp only[aV];exact⟨k3,g3⟩⟩;simp only[ih,g7,k1,g0,g1];rfl
theorem Nb{w:dg}{ad:Nat->Prop}{β:Bd}{H:Heap}{vs:List AV}{a:List c9}(h:bC P w ad β H vs a)(b:aV (aL H) vs):
 aA P w ad β H (oneOf vs) (if h:a.toArray.size=1 then a.toArray[0]else .tuple a.toArray)/\aE (aL H) (oneOf vs):=by
 have hl:=(uQ h).1
 match vs,a,h with
 |[v],[c],h=>
  simp only[bC]at h;obtain⟨y,i,f,d,g⟩:=h;cases f;simp only[aV]at b;exact⟨by simpa[oneOf]using d,by simpa[oneOf]using b.1⟩
 |[],[],h=>exact⟨by simp[oneOf,fj,aA,aC,bu],by simp[oneOf,fj,aE]⟩
 |v1::v2::vs,c1::c2::a,h=>
  have hs:¬(c1::c2::a).toArray.size=1:=s_
  rw[dif_neg hs];simp only[oneOf];cases e:fj (v1::v2::vs)with
  |none=>exact⟨by simp only[aA];exact⟨_,h,rfl⟩,by simpa only[aE]using b⟩
  |some l=>
   have:=mQ e;rw[this]at h;exact⟨by simp only[aA,aC];exact⟨_,ki.1 h,rfl⟩,by simp[aE]⟩
 |[],_::_,_=>simp at hl
 |[_],[],_=>simp at hl
 |[_],_::_::_,_=>simp at hl
 |_::_::_,[],_=>simp at hl
 |_::_::_,[_],_=>simp at hl
theorem takes{fr:eb}{cs:List eb}(c:fr.mode= .returning):∀(a:List Nat)(w:dg),a.Nodup->(∀r∈a,w.heap[r]?=some (.deferred (some [])))->
 ∃w',ee P (lone {fr with defers:=a.map mark} cs w) (lone {fr with defers:=[]} cs w')/\w'.heap.size=w.heap.size/\(∀k,k∉a->w'.heap[k]?=w.heap[k]?)/\(w'.os=w.os/\w'.output=w.output)
 |[],w,_,_=>⟨w,hg _ _,rfl,fun _ _=>rfl,rfl,rfl⟩
 |r::a,w,b,h=>by
  rw[List.nodup_cons]at b;have f:=h r s_;have hk:=run_takeDeferred (P:=P) f;have m:=(bo.1 f).1;obtain⟨w',g,i,j,l⟩:=takes c a (w.putObj r (.deferred none)) b.2 (fun x hx=>(hn (fun(e:x=r)=>b.1 (e▸hx))).trans (h x (by simp[hx])));refine⟨w',(hb (step_collected (fr:={fr with defers:=(r::a).map mark}) (d:=mark r) (ds:=a.map mark) (by simp[c]) rfl rfl hk)).trans g,by simpa using i,fun k hk=>?_,l⟩;simp only[List.mem_cons,not_or]at hk;exact(j k hk.2).trans (hn hk.1)
theorem Mb{N:Nat}{f:dz}{fn:Func}{c:Code}(A:mJ P ah)(z:uJ P ah fit)(hf:P.funcs[f]?=some fn)(G:fn.body=some c)(M:codeOk fit fn.ntmps c=true)
 {args:List AV}{H:Heap}{R:List AV->St->Prop}(K:args.length<=fn.ntmps)
 (T:cC P ah (fn.ntmps,N) c (fun e s=>(match e with
  | .exit _=>False
  |_=>True)/\∃vs,fX P s fn.results.toList=some vs/\R vs s) ⟨jo 0 args,H⟩)
 {w:dg}{ad ai:Nat->Prop}{β:Bd}{d:List c9}(i:cm P w ad β H ai)(u:bC P w ad β H args d)(O:aV (aL H) args):
 e6 P f d.toArray w fun e w'=>∃vs s a aF aO t,e=.returned (if h:a.toArray.size=1 then a.toArray[0]else .tuple a.toArray)/\R vs s/\dc P fn.ntmps ai aF aO s t w'/\ek N ai ad w β H ai aF w' aO s.heap/\
  bC P w' aF aO s.heap vs a/\aV (aL s.heap) vs:=by
 intro cs;have X:=(uQ u).1;obtain⟨g,j⟩:∃g:eb,g={fn:=f,tmps:=#[],todo:=[],defers:=[],mode:=.run,kind:=.normal}:=⟨_,rfl⟩
 have I:fv P f d.toArray .normal=bG g (d.toArray++br (fn.ntmps-d.length) undef) [] [.code c]:=by
  subst j;simp[fv,bG,hf,G]
 obtain⟨e,s,V,aF,aO,t,p,W,⟨B,vs,C,D⟩,o,m,b,E⟩:=nJ (fr:=g) (cs:=cs) (ds:=[]) A z c [] M T (ZT i u O K) (fun l hl=>by subst j;cases hl);obtain⟨rs,v,L,n,Y,_⟩:=E;rw[h9]at v;subst v;rw[I]
 have q:∀todo,ee P (lone (bG g (d.toArray++br (fn.ntmps-d.length) undef) [] [.code c]) cs w) (lone {bG g t (rs.map mark) todo with mode:= .returning} cs p)->
  ∃e w' fr,(∃vs s a aF aO t,e=.returned (if h:a.toArray.size=1 then a.toArray[0]else .tuple a.toArray)/\R vs s/\dc P fn.ntmps ai aF aO s t w'/\ek N ai ad w β H ai aF w' aO s.heap/\
   bC P w' aF aO s.heap vs a/\aV (aL s.heap) vs)/\Comes P (lone (bG g (d.toArray++br (fn.ntmps-d.length) undef) [] [.code c]) cs w) (lone fr cs w') e/\fr.fn=f/\fr.leaving P w' e:=by
  intro todo aN;obtain⟨w',t1,t2,t3,t4⟩:=takes (P:=P) (fr:={bG g t (rs.map mark) todo with mode:=.returning}) (cs:=cs) rfl rs p L (fun r i=>(n r i).2.2.2);have S:∀k,aF k->w'.heap[k]?=p.heap[k]?:=fun k hk=>t3 k (fun i=>(n k i).2.2.1 hk);have y:dc P fn.ntmps ai aF aO s t w':=⟨m.heap.shut b.fe (R:=fun k=>k∈rs) (fun x hx=>⟨(n x hx).2.1,(n x hx).2.2.1⟩) t2 t3,fun x=>aA.mono (fun _ x=>x) S (cM.refl _ _) _ _ (m.iy x) (m.env x),m.iy,m.size⟩
  have F:ek N ai ad w β H ai aF w' aO s.heap:=⟨fun _ x=>x,b.cd,b.fresh,⟨by rw[t2];exact b.ext.size,fun k hk=>(t3 k (fun J=>by
   have:=(n k J).1;have:=hk.elim (i.fe k) (i.cd k);omega)).trans (b.ext.same k hk),t4.1.trans b.ext.io.1,t4.2.trans b.ext.io.2⟩,b.step,b.gh,b.loop⟩
  obtain⟨a,g1,g2,g3⟩:=LO y C;have Q:(results fn t).run P w'=.ok (if h:a.toArray.size=1 then a.toArray[0]else .tuple a.toArray) w':=by
   simp only[results];rw[b4];rw[g7,ha]
   erw [g1]
   rfl
  refine⟨_,w',{bG g t [] todo with mode:=.returning},⟨vs,s,a,aF,aO,t,rfl,D,y,F,g2,g3⟩,hd aN t1,by subst j;rfl,?_⟩;subst j;exact⟨rfl,rfl,rfl,fn,hf,Q⟩
 cases e with
 |exit id=>exact B.elim
 |normal=>
  exact q [] (hd o (.one (dp (by subst j;simp[stepG,hr,bG]))))
 |ret=>
  obtain⟨U,o⟩:=o;exact q (.code .ret::U) (hd o (.one (dp (by subst j;simp[stepG,hr,bG]))))
theorem ON{f:dz}{fn:Func}{c:Code}(m:mJ P ah)(l:uJ P ah fit)(z:Enters P f)(hf:P.funcs[f]?=some fn)(y:fn.body=some c)(D:codeOk fit fn.ntmps c=true)
 {args:List PV}{v:PV}(C:args.length<=fn.ntmps)
 (H:cC P ah (fn.ntmps,0) c (fun e s=>(match e with
  | .exit _=>False
  |_=>True)/\∃vs,fX P s fn.results.toList=some vs/\eQ s.heap 9 (oneOf vs)=some v) ⟨jo 0 (args.map .p),[]⟩):oc P f args v:=by
 refine⟨z,fun w ad I B A x=>?_⟩;have E:cm P w ad ⟨id,id⟩ [] (fun k=>k<w.heap.size):=⟨s_,s_,s_,B,fun _ h=>h,A⟩
 refine(Mb m l hf y D (R:=fun vs s=>eQ s.heap 9 (oneOf vs)=some v) (by simpa using C) H E (ki.2 x) (jz _ _)).mono ?_;rintro e w' ⟨vs,s,J,aF,aO,t,rfl,u,hs,d,F,G⟩;obtain⟨n,q⟩:=Nb F G;have r:=Af hs.heap _ _ _ u q _ n;refine⟨_,BK aF aO s.heap,rfl,fun k hk=>.inl (d.cd k hk),?_,?_,d.ext.size,fun k hk=>d.ext.same k (.inl hk),d.ext.io,r⟩
 ·rintro k (hk|⟨b,o,i,hl,rfl⟩)
  ·rcases d.fresh k hk with h|h
   ·exact .inl h
   ·exact .inr o_
  ·by_cases j:aO.aq b<w.heap.size
   ·
    left;have a:=hs.heap.cX b o i;have:aF (aO.aq b)\/¬(aO.aq b<w.heap.size):=by
     have key:∀fz,cQ aF aO (fun k=>k<w.heap.size) fz b->aF (aO.aq b)\/¬(aO.aq b<w.heap.size):=fun fz h=>by
      cases fz with
      |true=>exact .inl h
      |false=>exact .inr h.2
     cases o with
     |hole=>exact hl.elim
     |dead=>exact hl.elim
     |box fz t=>obtain⟨_,_,_,_,h,_⟩:=a;exact key _ h
     |arr k ar ak es=>
      rcases a with a|⟨_,_,_,_,_,_,_,_,_,_,h,_⟩
      ·exact(hl a).elim
      ·exact key _ h
     |map fz es=>obtain⟨_,_,_,_,h⟩:=a;exact key _ h
     |dK ks vs=>obtain⟨_,_,_,_,_,h⟩:=a;exact key _ h
     |dO s pos=>obtain⟨_,_,_,h⟩:=a;exact key _ h
     |loop L=>obtain⟨_,_,_,_,_,_,h⟩:=a;exact key _ h
    rcases this with h|h
    ·rcases d.fresh _ h with g|g
     ·exact g
     ·exact(g j).elim
    ·exact(h j).elim
   ·exact .inr o_
 ·rintro k (hk|⟨b,o,i,hl,rfl⟩)
  ·exact hs.heap.cd k hk
  ·exact hs.heap.pq i hl
def vD(P:da)(a:List ei)(N:Nat)(H':Heap)(v:AV)(e:bD)(s:St):Prop:=
 (match e with
  | .exit _=>False
  |_=>True)/\∃vs,fX P s a=some vs/\oneOf vs=v/\(H'=s.heap\/(cW N s ⟨[],H'⟩/\aE (aL H') v))
theorem av4{f:dz}{fn:Func}{c:Code}(q:mJ P ah)(p:uJ P ah fit)(u:Enters P f)(hf:P.funcs[f]?=some fn)(j:fn.body=some c)(A:codeOk fit fn.ntmps c=true)
 {args:List AV}{H H':Heap}{v:AV}(z:args.length<=fn.ntmps)(G:cC P ah (fn.ntmps,H.length) c (vD P fn.results.toList H.length H' v) ⟨jo 0 args,H⟩):b8 P f H args H' v:=by
 refine⟨u,fun w ad ai β I B r C=>?_⟩;refine(Mb q p hf j A (R:=fun vs s=>oneOf vs=v/\(H'=s.heap\/(cW H.length s ⟨[],H'⟩/\aE (aL H') v))) z G B r C).mono ?_;rintro e w' ⟨vs,s,g,aF,aO,t,rfl,⟨rfl,a⟩,hs,m,F,E⟩;obtain⟨i,k⟩:=Nb F E;obtain⟨d,k1,k2,k3⟩:ek H.length ai ad w β H ai aF w' aO H'/\cm P w' aF aO H' ai/\aA P w' aF aO H' (oneOf vs) (if h:g.toArray.size=1 then g.toArray[0]else .tuple g.toArray)/\aE (aL H') (oneOf vs):=by
  rcases a with rfl|⟨a,D⟩
  ·exact⟨m,hs.heap,i,k⟩
  ·refine⟨m.trans (a.fB (β:=aO) (ai:=ai) (ad:=aF) (w:=w')),(a.rel hs).heap,?_,D⟩;rcases a with a|a
   ·have e:H'=s.heap:=by rw[<-a]
    rw[e];exact i
   ·exact aA.mono (fun _ x=>x) (fun _ _=>rfl) a.1.step _ _ k i
 refine⟨_,aO,aF,rfl,⟨d.cd,d.fresh,d.ext,d.step.full,k1,fun x hx=>?_,fun b j=>?_⟩,k2,k3⟩
 ·obtain⟨o,n,y⟩:=hx;exact d.gh x (hz.1 n).1 ⟨o,n,y⟩
 ·obtain⟨L,l⟩:=j;exact d.loop b (hz.1 l).1 ⟨L,l⟩
theorem dc.post{n:Nat}{ai ad aF:Nat->Prop}{β aO:Bd}{s:St}{H':Heap}{t:Array c9}{w w':dg}(h:dc P n ai ad β s t w)(a:cj P ai ad w β s.heap aF w' aO H'):dc P n ai aF aO ⟨s.env,H'⟩ t w':=
 ⟨a.rel,fun x=>aA.mono a.cd (fun k hk=>a.ext.same k (.inr hk)) a.step _ _ (h.iy x) (h.env x),fun x=>aE.mono a.gh _ (h.iy x),h.size⟩
def sV:List Tmp->List AV->Env->Env
 |t::ts,v::vs,e=>sV ts vs ((t,v)::e)
 |_,_,e=>e
def iG:bD->Option Code
 | .normal=>none
 | .exit id=>some (.exit id)
 | .ret=>some .ret
def uL(b:Nat)(K:Heap->AV->Prop)(e:bD)(s:St):Prop:=
 match s.heap[b]? with
 |some (.loop L)=>K (s.heap.set b (.loop {L with st:=if(iG e).isNone then .ready else .done,pending:=iG e})) (.p (.bool (iG e).isNone))
 |_=>False
def Ae(P:da)(ah:dz->Bool)(q:Cx)(b:Nat)(body:Code)(K:Heap->AV->Prop)(e:bD)(s:St):Prop:=
 match e,s.heap[b]? with
 | .normal,some (.loop L)=>L.st=.ready/\cC P ah q body (uL b K) ⟨s.env,s.heap.set b (.loop {L with st:=.busy})⟩
 |_,_=>False
def AY(P:da)(ah:dz->Bool)(L:ey)(b:Nat)(args:List AV)(H:Heap)(K:Heap->AV->Prop):Prop:=
 cC P ah (L.n,H.length) L.assign (Ae P ah (L.n,H.length) b L.body K) ⟨sV L.params args L.env,H⟩
def sJ(ts:List Tmp)(a:List c9)(t:Array c9):Array c9:=(ts.zip a).foldl (fun t(p,v)=>t.setIfInBounds p v) t
theorem MJ{w:dg}{ad:Nat->Prop}{β:Bd}{H:Heap}:∀{ts:List Tmp}{vs:List AV}{xs:List c9}{e:Env}{t:Array c9},(∀x∈ts,x<t.size)->bC P w ad β H vs xs->aV (aL H) vs->(∀x,aA P w ad β H (aS e x) (t.getD x undef))->(∀x,aE (aL H) (aS e x))->
 (sJ ts xs t).size=t.size/\(∀x,aA P w ad β H (aS (sV ts vs e) x) ((sJ ts xs t).getD x undef))/\(∀x,aE (aL H) (aS (sV ts vs e) x))
 |[],vs,xs,e,t,_,a,_,b,c=>by
  cases vs<;>exact⟨rfl,b,c⟩
 |p::ts,[],xs,e,t,_,a,_,b,c=>by
  simp only[bC]at a;subst a;exact⟨rfl,b,c⟩
 |p::ts,v::vs,xs,e,t,hl,a,d,b,c=>by
  simp only[bC]at a;obtain⟨y,g,rfl,k1,k2⟩:=a;simp only[aV]at d;have f:p<t.size:=hl p s_;obtain⟨g1,g2,g3⟩:=MJ (ts:=ts) (vs:=vs) (xs:=g) (e:=(p,v)::e) (t:=t.setIfInBounds p y) (fun x hx=>by simpa using hl x (by simp[hx])) k2 d.2
   (fun x=>by
    simp only[aS]
    by_cases hx:x=p
    ·subst hx;simp[f];exact k1
    ·simp only[hx,if_false,bv,b3 (i8 hx)];simpa using b x)
   (fun x=>by
    simp only[aS]
    split
    ·exact d.1
    ·exact c x)
  exact⟨by simpa[sJ]using g1,g2,g3⟩
theorem zip_toArray(a:List Tmp)(b:List c9)(t:Array c9):(a.toArray.zip b.toArray).foldl (fun t(p,v)=>t.setIfInBounds p v) t=sJ a b t:=by
 unfold sJ;rw[<-ce];simp
theorem av2(I:mJ P ah)(G:uJ P ah fit){b:Nat}{L:ey}{H H':Heap}{args:List AV}{v:AV}(f:H[b]?=some (.loop L))(az:args.length=L.params.length)(aB:∀x∈L.params,x<L.n)
 (aq:codeOk fit L.n L.assign=true)(hc:codeOk fit L.n L.body=true)(aI:AY P ah L b args H (fun ae aQ=>aQ=v/\cW H.length ⟨[],ae⟩ ⟨[],H'⟩)):gX P b H args H' v:=by
 refine⟨⟨L,f⟩,fun w ad ai β i B W au=>?_⟩;obtain⟨tmps,defers,fn,ao,M,ap,aV⟩:=B.cX b _ f;have s:b<H.length:=(hz.1 f).1;have aw:=(uQ W).1;have j:=run_yield (P:=P) (args:=i.toArray) ao (by simp[aw,az]);obtain⟨q1,aM,aN⟩:=MJ (ts:=L.params) (vs:=args) (xs:=i) (e:=L.env) (t:=tmps) (fun x hx=>by rw[M];exact aB x hx) W au ap (B.refs b _ f);rw[zip_toArray]at j;refine⟨fn,_,_,_,j,fun K ac=>?_⟩;obtain⟨c,z⟩:∃c:eb,c={fn:=fn,tmps:=#[],todo:=[],defers:=[],mode:=.run,kind:=.normal,roundOf:=some (β.aq b)}:=⟨_,rfl⟩
 have g:c.roundOf=some (β.aq b):=by subst z;rfl
 have A:c.kind=.normal:=by subst z;rfl
 have ax:fm (β.aq b) fn (sJ L.params i tmps) L.assign L.body .normal=bG c (sJ L.params i tmps) [] [.code L.assign,.beginRound,.code L.body]:=by subst z;rfl
 have V:s8 H.length c β H:=fun l hl=>by
  rw[g]at hl;cases hl;exact⟨b,s,⟨L,f⟩,rfl⟩
 obtain⟨e1,s1,aU,aT,aR,t1,bc,al,g1,an,g3,g4,g5⟩:=nJ (N:=H.length) (fr:=c) (cs:=K::ac) (ds:=[]) I G L.assign [.beginRound,.code L.body] aq aI ⟨B,aM,aN,q1.trans M⟩ V;unfold Ae at g1
 split at g1
 case h_2=>exact g1.elim
 rename_i q Q;obtain⟨g1,g6⟩:=g1;obtain⟨ba,m1,_,_,m4,m5⟩:=g5;have aG:=m5 (by rw[g];rfl);subst aG;obtain rfl:al=[]:=m1;have aj:aR.aq b=β.aq b:=(g4.step.loop b s ⟨_,f,trivial⟩ ⟨q,Q⟩).2;obtain⟨rec,ab,aO,aP,a5,a6,a7,a8,a9,D⟩:=EV g3.heap Q .busy q.pending;rw[aj]at ab D;have X:=run_beginRound (P:=P) ab (aO.trans g1);have av:({rec with state:=.busy}:Loop)={rec with state:=.busy,pending:=q.pending}:=by rw[<-aP]
 rw[av]at X;have T:=g4.trans (D.fB (N:=H.length));obtain⟨e2,s2,r,p,m,t2,F,am,k1,k2,k3,k4,k5⟩:=nJ (N:=H.length) (fr:=c) (cs:=K::ac) (ds:=[]) I G L.body [] hc g6 (g3.post D) (V.fB T);unfold uL at k1
 split at k1
 case h_2=>exact k1.elim
 rename_i J S;obtain⟨rfl,Y⟩:=k1;obtain⟨bb,aK,_,_,n4,aL⟩:=k5;have aH:=aL (by rw[g];rfl);subst aH;obtain rfl:am=[]:=aK;have aW:∀k,r k->ai k:=fun k hk=>(m4 k ((n4 k hk).resolve_right s_)).resolve_right s_;have U:=T.trans k4;have ak:m.aq b=β.aq b:=(U.step.loop b s ⟨_,f,trivial⟩ ⟨J,S⟩).2;obtain⟨E,aa,aX,aY,aZ,a0,a1,a3,a4,C⟩:=EV k3.heap S (if(iG e2).isNone then .ready else .done) (iG e2);rw[ak]at aa C;have u:=run_endRound (P:=P) (iG e2) aa;have ar:=U.trans (C.fB (N:=H.length));have d:=ar.trans (Y.fB (β:=m) (ai:=r) (ad:=p) (w:=F.putObj (β.aq b) (.loop {E with state:=if(iG e2).isNone then .ready else .done,pending:=iG e2})));refine⟨.bool (iG e2).isNone,F.putObj (β.aq b) (.loop {E with state:=if(iG e2).isNone then .ready else .done,pending:=iG e2}),m,p,?_,?_,by simp[aA,aC],by simp[aE]⟩
 ·rw[ax];refine hd (an:ee P _ _) ((hb (stepR_beginRound (b:=c) (a:=⟨t1,[]⟩) g X)).trans ?_);cases e2 with
  |normal=>exact hd (k2:ee P _ _) (.one (stepR_round_end (b:=c) (a:=⟨t2,[]⟩) g A u))
  |exit id=>
   obtain⟨aJ,ag,a2⟩:=k2;exact hd a2 (.one (stepR_round_exit (b:=c) (a:=⟨t2,[]⟩) g A (by rw[ag];rfl) u))
  |ret=>
   obtain⟨aJ,a2⟩:=k2;exact hd a2 (.one (stepR_round_ret (b:=c) (a:=⟨t2,[]⟩) g A u))
 ·have aD:dc P 0 r p m ⟨[],s2.heap.set b (.loop {J with st:=if(iG e2).isNone then .ready else .done,pending:=iG e2})⟩ #[] (F.putObj (β.aq b) (.loop {E with state:=if(iG e2).isNone then .ready else .done,pending:=iG e2})):=
   ⟨C.rel,fun x=>by simp[aS,aA,aC],fun x=>by simp[aS,aE],rfl⟩
  have aF:=(Y.rel aD).heap;refine⟨d.cd,d.fresh,d.ext,d.step.full,aF.shut d.fe (R:=fun _=>False) (fun _ h=>h.elim) rfl (fun _ _=>rfl),fun x hx=>?_,fun y j=>?_⟩
  ·obtain⟨o,Z,ay⟩:=hx;exact d.gh x (hz.1 Z).1 ⟨o,Z,ay⟩
  ·obtain⟨af,O⟩:=j;exact d.loop y (hz.1 O).1 ⟨af,O⟩
end
section
variable{P:da}
theorem Pt{w:dg}{ad:Nat->Prop}{b:Bool}{v:c9}:aC P w ad (.bool b) v↔v=.bool b:=by simp[aC]
theorem FB{w:dg}{ad:Nat->Prop}{k:en}{n:Int}{v:c9}:aC P w ad (.int k n) v↔v=.int k n:=by simp[aC]
theorem QD{w:dg}{ad:Nat->Prop}{s:List Nat}{v:c9}:aC P w ad (.str s) v↔∃bs:ByteArray,v=.string bs/\s=bs.data.toList.map (·.toNat):=by simp[aC]
theorem eX{s:Sem c9}{w:dg}{a:c9}(h:s.run P w=.ok a w):(do pure (Next.value (<-s)):Sem Next).run P w=.ok (.value a) w:=by simp[h]
theorem xg{s:Sem c9}{w w':dg}{a:c9}(h:s.run P w=.ok a w'):(do pure (Next.value (<-s)):Sem Next).run P w=.ok (.value a) w':=by simp[h]
theorem zX{T:db}{v:AV}{w:dg}{ad:Nat->Prop}{β:Bd}{H:Heap}{cs:List c9}(hk:kindOf P T=aa v)(c:bw P w ad β H v cs):P.cellsOf T=cs.length/\∃i,P.info? T=some i/\i.size=cs.length:=by
 obtain⟨hl,a⟩:=o7 c;have b:P.cellsOf T=cs.length:=by
  rw[hl,<-hk];unfold kindOf at hk⊢
  split at hk
  ·split at hk<;>rename_i hc
   ·simp at hc;rw[if_pos (by simpa using hc)];simp[bO,hc.2]
   ·exact(a hk.symm).elim
  ·split at hk<;>rename_i hc
   ·simp at hc;rw[if_pos (by simpa using hc)];simp[bO,hc]
   ·exact(a hk.symm).elim
  ·split at hk<;>rename_i hc
   ·simp at hc;rw[if_pos (by simpa using hc)];simp[bO,hc]
   ·exact(a hk.symm).elim
  ·exact(a hk.symm).elim
 refine⟨b,?_⟩;cases hi:P.info? T with
 |none=>
  have:kindOf P T=.bad:=by simp[kindOf,gx,hi]
  rw[this]at hk;exact(a hk.symm).elim
 |some i=>exact⟨i,rfl,by simpa[gt,hi]using b⟩
variable{o:Oper}{ρ:dl->AV}{base:Nat}
theorem Up{x:dl}(a:o.op=.move x\/o.op=.assign x):bA P o ρ base {v:=ρ x}:=by
 refine bA.same fun H w ad ai β c d b _=>?_;refine⟨c x,?_,b x ?_⟩
 ·rcases a with a|a<;>simp[dq,a]
 ·rcases a with a|a<;>simp[a,gj]
theorem aPj{c a b:dl}{t:Bool}(d:o.op=.pick c a b)(hc:ρ c=.p (.bool t)):bA P o ρ base {v:=if t then ρ a else ρ b}:=by
 refine bA.same fun H w ad ai β g h f _=>?_;have e:=(f c (by simp[d,gj])).1;rw[hc]at e;simp only[aA,Pt]at e;refine⟨if t then g a else g b,by simp[dq,d,e,asBool],?_⟩;cases t with
 |true=>exact f a (by simp[d,gj])
 |false=>exact f b (by simp[d,gj])
theorem MN{t:dl}{i:Nat}{vs:List AV}{v:AV}(h:o.op=.extract t i)(e:ρ t=.aD vs\/∃l,ρ t=.p (.aD l)/\vs=l.map .p)(hi:vs[i]?=some v):bA P o ρ base {v}:=by
 refine bA.same fun H w ad ai β k n j _=>?_;obtain⟨d,f⟩:=j t (by simp[h,gj]);obtain⟨c,k1,k2,k3⟩:∃c,bC P w ad β H vs c/\k t=.tuple c.toArray/\aV (aL H) vs:=by
  rcases e with e|⟨l,e,rfl⟩
  ·rw[e]at d f;simp only[aA,aE]at d f;obtain⟨c,a,b⟩:=d;exact⟨c,a,b,f⟩
  ·rw[e]at d;simp only[aA,aC]at d;obtain⟨c,a,b⟩:=d;exact⟨c,ki.2 a,b,jz _ _⟩
 obtain⟨g1,g2⟩:=uQ k1;have m:i<vs.length:=(hz.1 hi).1;have hx:c[i]?=some (c[i]' o_):=hE o_;have g:=g2 i;rw[hi,hx]at g;refine⟨c[i]' o_,?_,by simpa using g,cB.1 k3 v (hJ hi)⟩;simp only[dq,h,Instr.extract,k2];simp[hx]
theorem aPf{c:e9}{T j:db}{x y:dl}{k d:en}{a b:Int}{K:PV->Prop}(g:o.op= .binOp c T x y j)(hx:ρ x= .p (.int k a))(t:ρ y= .p (.int d b))(hk:k=d\/c= .shl\/c= .shr)
 (h:qX c k a b K)(al:List (Nat×Obj)):∃v,K v/\bA P o ρ base {v:=.p v,al}:=by
 have key:∀v,K v->(∀w:dg,(binOp c T (.int k a) (.int d b)).run P w= .ok (match v with| .int k n=> .int k n| .bool b=> .bool b|_=>undef) w)->(∀w ad,aC P w ad v (match v with| .int k n=> .int k n| .bool b=> .bool b|_=>undef))->
  ∃v,K v/\bA P o ρ base {v:=.p v,al}:=by
  intro v s r q;refine⟨v,s,bA.same fun H w ad ai β z u i _=>?_⟩;have e:=(i x (by simp[g,gj])).1;have f:=(i y (by simp[g,gj])).1;rw[hx]at e;rw[t]at f;simp only[aA,FB]at e f;refine⟨_,?_,by simp only[aA];exact q w ad,by simp[aE]⟩;simp only[dq,g,e,f];refine eX ?_;have m:(eqGuard c T x y (.int k a) (.int d b)).run P w=.ok () w:=by
   unfold eqGuard
   split<;>simp
  simp[m,r w]
 cases c<;>simp only[qX]at h
 case add|sub|mul|and|or|xor|andNot|eql|neq|lss|leq|gtr|geq=>
  obtain rfl:k=d:=by rcases hk with h|h|h<;>first|exact h|cases h
  exact key _ h (fun w=>by simp[binOp,gm,gp,Op.intCmp]) (fun w ad=>by simp[aC])
 case quo|rem=>
  obtain rfl:k=d:=by rcases hk with h|h|h<;>first|exact h|cases h
  exact key _ h.2 (fun w=>by simp[binOp,Op.intDiv,h.1]) (fun w ad=>by simp[aC])
 case shl|shr=>
  have l:¬b<0:=o_
  exact key _ h.2 (fun w=>by simp[binOp,Op.shift,l]) (fun w ad=>by simp[aC])
theorem G2{u:UnOp}{T:db}{x:dl}{v r:PV}(c:o.op= .unOp u T x)(hx:ρ x= .p v)
 (h:(u=.not/\∃b,v=.bool b/\r=.bool (!b))\/(u=.neg/\∃k n,v=.int k n/\r=.int k (k.wrap (0-n)))\/
  (u=.xor/\∃k n,v=.int k n/\r=.int k (k.wrap (c6 k.bits (if k.signed then -1 else k.max)^^^c6 k.bits n).toNat))):bA P o ρ base {v:=.p r}:=by
 refine bA.same fun H w ad ai β f e d _=>?_;have a:=(d x (by simp[c,gj])).1;rw[hx]at a;simp only[aA]at a;rcases h with⟨rfl,b,rfl,rfl⟩|⟨rfl,k,n,rfl,rfl⟩|⟨rfl,k,n,rfl,rfl⟩
 ·rw[Pt]at a;exact⟨_,by simp only[dq,c,a];exact eX (by simp[gl];rfl),by simp[aA,aC],by simp[aE]⟩
 ·rw[FB]at a;exact⟨_,by simp only[dq,c,a];exact eX (by simp[gl,gm];rfl),by simp[aA,aC],by simp[aE]⟩
 ·rw[FB]at a;exact⟨_,by simp only[dq,c,a];exact eX (by simp[gl,gp];rfl),by simp[aA,aC],by simp[aE]⟩
end
section
variable{P:da}{w:dg}{ad ai:Nat->Prop}{β:Bd}{H:Heap}
variable{o:Oper}{ρ:dl->AV}{base:Nat}
theorem mH(H:Heap)(b:Nat)(o':Obj):ba H ([]++newAt b [o'])=H.set b o':=rfl
theorem asN{x:AV}{T:db}(hs:aa x≠ .bad)(hx:jT T (aa x)=true)(hrefs:∀(H:Heap)(w:dg)(ad ai:Nat->Prop)(β:Bd)(d:dl->c9),cm P w ad β H ai->
 (∀y∈o.op.operands,aA P w ad β H (ρ y) (d y)/\aE (aL H) (ρ y))->∃a,aA P w ad β H x a/\aE (aL H) x/\
  (dq d o).run P w=.ok (.value (.pointer (some ⟨w.heap.size,0,none⟩))) {w with heap:=w.heap.push (.cells a.cells T)}):
 bA P o ρ base {v:=.ptr base [],aX:=[.box false x]}:=by
 intro H w ad ai β d b m _ j;obtain⟨a,f,e,g⟩:=hrefs H w ad ai β d b m;have c:H[base]?=some .hole:=by simpa using j 0 s_
 have i:=Ap f hs;have aN:=AB (β:=β) c (.box false x) w.heap.size 0;have al:∀y,aL H y->aL (H.set base (.box false x)) y:=mS c (fun _ h=>h.elim);have l:=uM (cap:=0) b c (ob:=.cells a.cells T) (o':=.box false x)
  ⟨a.cells,T,by simp[Bd.at],bw.mono (fun _ x=>x) (fun k hk=>xy _ _ (b.cd k hk)) aN _ _ e i,by
   simp only[cQ,Bd.at,if_true,c7,if_false];exact⟨fun h=>i0 _ (b.cd _ h),fun h=>i0 _ (b.fe _ h)⟩,s_,hx⟩ (aE.mono al _ e)
 refine⟨_,_,_,_,ad,g,.inl rfl,l,?_,?_⟩
 ·simp only[aA,bY,b7,mH];exact⟨rfl,_,_,0,rfl,rfl,fun _=>by simp[Bd.at]⟩
 ·simp only[aE,mH];exact⟨.box false x,by simp only;rw[hB (hz.1 c).1],trivial⟩
theorem aPc{T:db}{x:dl}(a:o.op=.box T x)(hs:aa (ρ x)≠.bad)(hx:jT T (aa (ρ x))=true):bA P o ρ base {v:=.ptr base [],aX:=[.box false (ρ x)]}:=by
 refine asN (T:=T) hs hx fun H w ad ai β e f d=>?_;obtain⟨b,c⟩:=d x (by simp[a,gj]);refine⟨e x,b,c,?_⟩;simp only[dq,a];simp[Instr.box,newVar,newRow]
theorem DR{w:dg}{ad:Nat->Prop}:∀(n:Nat)(T:db)(cs:List c9)(t:PV),vm P n T cs=some t->aY P w ad t cs/\kindOf P T=aP t
 |0,_,_,_,h=>by simp[vm]at h
 |n+1,T,cs,t,h=>by
  have go:∀(b:List db)(l:List Nat)(cs:List c9)(fs:List PV),qB P (vm P n) b l cs=some fs->∃a,bm P w ad l fs a/\a.flatten=cs:=by
   intro b
   induction b with
   |nil=>
    intro l cs fs h;cases l with
    |nil=>
     cases cs with
     |nil=>simp[qB]at h;subst h;exact⟨[],by simp[bm]⟩
     |cons c cs=>simp[qB]at h
    |cons s g=>simp[qB]at h
   |cons T b p=>
    intro l cs fs h;cases l with
    |nil=>simp[qB]at h
    |cons s g=>
     simp only[qB]at h
     split at h
     case isFalse=>simp at h
     rename_i k
     split at h
     case h_2=>simp at h
     rename_i v vs f o
     split at h
     case isFalse=>simp at h
     rename_i q;simp at h;subst h;obtain⟨d,_⟩:=DR n T _ v f;obtain⟨a,e,i⟩:=p g _ vs o;refine⟨cs.take s::a,by simp only[bm];exact⟨_,_,rfl,d,k,e⟩,?_⟩;simp[i]
  unfold vm at h
  split at h
  ·rename_i hk
   split at h
   case h_2=>simp at h
   rename_i c
   split at h
   ·simp at h
   ·rename_i v m;simp at h;subst h;have f:=LX (P:=P) (w:=w) (ad:=ad) c;have hl:aP (ofConst c)=.leaf:=by
     unfold ofConst at m⊢
     split<;>simp_all [aP]
    exact⟨(uP hl _).2 ⟨c,rfl,f⟩,by rw[hk,hl]⟩
  ·rename_i u hk
   split at h
   case h_2=>simp at h
   rename_i l hl
   split at h
   case h_2=>simp at h
   rename_i fs j;simp at h;subst h;obtain⟨a,d,e⟩:=go _ _ _ _ j;refine⟨by simp only[aY];exact⟨l,a,hl,d,e.symm⟩,by simp[aP,hk]⟩
  ·simp at h
theorem qj{T:db}{z:PV}(h:cO P T=some z):∃i a,P.info? T=some i/\i.zero=some a/\(∀(w:dg)(ad:Nat->Prop),aY P w ad z a.cells.toList)/\kindOf P T=aP z:=by
 unfold cO at h;cases hi:P.info? T with
 |none=>simp[hi]at h
 |some i=>
  simp only[hi,i9]at h;cases b:i.zero with
  |none=>simp[b]at h
  |some a=>
   simp only[b]at h
   split at h
   case isFalse=>simp at h
   exact⟨i,a,rfl,b,fun w ad=>(DR 40 T _ z h).1,(DR (w:=default) (ad:=fun _=>True) 40 T _ z h).2⟩
theorem PD{T:db}{z:PV}(h:cO P T=some z):∃a,(∀w:dg,(zeroValue T).run P w=.ok a w)/\∀(w:dg)(ad:Nat->Prop),aC P w ad z a:=by
 obtain⟨i,a,d,e,f,g⟩:=qj h;refine⟨a,fun w=>by simp[zeroValue,typeInfo,d,e],fun w ad=>?_⟩;have b:BT a (aP z)=true:=by
  unfold cO at h;simp only[d,i9,e]at h
  split at h
  ·rename_i j;rw[<-g];exact j
  ·simp at h
 have hc:=f w ad;cases hs:aP z with
 |bad=>exact((oX hc).2 hs).elim
 |leaf=>
  rw[hs]at b;obtain⟨c,k1,k2⟩:=(uP hs _).1 hc;cases a<;>simp[BT]at b<;>(simp[hm]at k1;subst k1;exact k2)
 |agg u=>
  rw[hs]at b;cases a<;>simp[BT]at b;have:=(ya hs _).1 hc;simpa[hm]using this
theorem uK{T:db}{i:ed}{a:c9}(h:P.info? T=some i)(b:i.zero=some a)(w:dg):(zeroValue T).run P w=.ok a w:=by
 simp[zeroValue,typeInfo,h,b]
theorem avF{T:db}{z:PV}(j:o.op=.alloc T)(m:cO P T=some z)(hx:jT T (aP z)=true):bA P o ρ base {v:=.ptr base [],aX:=[.box false (.p z)]}:=by
 obtain⟨i,b,d,e,f,q⟩:=qj m;intro H w ad ai β n a r _ g;have c:H[base]?=some .hole:=by simpa using g 0 s_
 have l:(dq n o).run P w=.ok (.value (.pointer (some ⟨w.heap.size,0,none⟩))) {w with heap:=w.heap.push (.cells b.cells T)}:=by
  simp only[dq,j];simp[Instr.alloc,uK d e,newVar,newRow]
 have k:=uM (cap:=0) a c (ob:=.cells b.cells T) (o':=.box false (.p z))
  ⟨b.cells,T,by simp[Bd.at],by simp only[bw];exact f _ _,by
   simp only[cQ,Bd.at,if_true,c7,if_false];exact⟨fun h=>i0 _ (a.cd _ h),fun h=>i0 _ (a.fe _ h)⟩,s_,by simpa[aa]using hx⟩ (by simp[Obj.refs,aE])
 refine⟨_,_,_,_,ad,l,.inl rfl,k,?_,?_⟩
 ·simp only[aA,bY,b7,mH];exact⟨rfl,_,_,0,rfl,rfl,fun _=>by simp[Bd.at]⟩
 ·simp only[aE,mH];exact⟨.box false (.p z),by simp only;rw[hB (hz.1 c).1],trivial⟩
theorem Fc{T:db}{a:dl}{v:AV}(h:o.op= .load T a){d:dl->c9}{aq off:Nat}{c:List c9}(g:d a= .pointer (some ⟨aq,off,none⟩))(hk:kindOf P T=aa v)
 (i:bw P w ad β H v c)(hc:iE w aq off c):∃b,(dq d o).run P w=.ok (.value b) w/\aA P w ad β H v b:=by
 obtain⟨b,e,f⟩:=LL hk i hc;refine⟨b,?_,f⟩;simp only[dq,h,Instr.loadAt,g,gb];simp[e]
theorem BF{ak:Nat}{b:List AV}{f:List (List c9)}(h:Row P w ad β H ak b f){i:Nat}(hi:i<b.length):
 ∃pre c post,f.flatten=pre++c++post/\pre.length=i*ak/\c.length=ak/\bw P w ad β H b[i] c/\
  ∀d c',bw P w ad β H d c'->c'.length=c.length->∃a,a.flatten=pre++c'++post/\Row P w ad β H ak (b.set i d) a:=by
 obtain⟨pre,c,post,g,j,m,e,k,l⟩:=uW h (hE hi);have hl:c.length=ak:=by
  rw[hG]at e;rw[if_pos hi]at e;simpa using e.symm
 refine⟨pre,c,post,g,?_,hl,k,?_⟩
 ·rw[j,hF,iz o_,hD]
 ·intro d c' hf hc;obtain⟨a,k1,k2⟩:=l d c' hf hc;exact⟨a,k1,by unfold Row;rw[h8];exact k2⟩
theorem aPh{T:db}{a:dl}(g:o.op= .load T a){H0:Heap}{K:aZ->Prop}(h:pF P T H0 (ρ a) K):
 ∃e,K e/\bA P o ρ base e/\(∀p∈e.al,H0[p.1]?=some p.2)/\(∀p∈e.aM,p.1<H0.length/\p.2≠.hole):=by
 unfold pF at h
 split at h
 ·rename_i b J m
  split at h
  case h_2=>exact h.elim
  rename_i fz t u
  split at h
  case h_2=>exact h.elim
  rename_i s hs;obtain⟨hk,h⟩:=h;refine⟨_,h,bA.same fun H w ad ai β C j n al=>?_,by simpa using u,s_⟩;obtain⟨d,y⟩:=n a (by simp[g,gj]);rw[m]at d;simp only[aA,bY,b7]at d;have f:H[b]?=some (.box fz t):=by simpa using al
  obtain⟨_,E,I,B,x,r,d⟩:=d;obtain⟨rfl,rfl⟩:=d (.inl ⟨fz,t,f⟩);obtain⟨cs,D,k1,k2,k3,k4⟩:=j.cX b _ f;obtain⟨pre,xs,post,e1,e2,e3,_⟩:=qE k2 hs r;obtain⟨l,g1,g2⟩:=Fc g x hk e3 (by rw[<-e2];exact mL k1 e1);exact⟨l,g1,g2,xH hs (j.refs b _ f)⟩
 ·rename_i b ar ak i J m
  split at h
  case h_2=>exact h.elim
  rename_i k W S q u;obtain⟨rfl,rfl,hi,h⟩:=h
  split at h
  case h_2=>exact h.elim
  rename_i s hs;obtain⟨hk,h⟩:=h;refine⟨_,h,bA.same fun H w ad ai β C j n al=>?_,by simpa using u,s_⟩;obtain⟨d,y⟩:=n a (by simp[g,gj]);rw[m]at d;simp only[aA,bY,b7]at d;have f:H[b]?=some (.arr k ar ak q):=by simpa using al
  have A:¬dA k q:=fun G=>by rw[G.2]at hi;simp at hi
  obtain⟨_,E,I,B,x,r,d⟩:=d;obtain⟨rfl,rfl⟩:=d k q f A;rcases j.cX b _ f with hold|⟨cs,D,R,rest,k1,k2,k3,_⟩
  ·exact(A hold).elim
  obtain⟨M,c,L,N,O,U,Q,_⟩:=BF k2 hi;obtain⟨pre,xs,post,e1,e2,e3,_⟩:=qE Q hs r;have F:iE w (β.aq b) (i*ak+B) xs:=by
   have:cs.toList=(M++pre)++xs++(post++L++rest):=by rw[k3,N,e1];simp
   have z:=mL k1 this;rw[hU,O,e2]at z;exact z
  obtain⟨l,g1,g2⟩:=Fc g x hk e3 F;exact⟨l,g1,g2,xH hs (cB.1 (j.refs b _ f) _ (h6 hi))⟩
 ·rename_i t m;obtain⟨hk,h⟩:=h;refine⟨_,h,bA.same fun H w ad ai β C j n al=>?_,s_,s_⟩;obtain⟨d,y⟩:=n a (by simp[g,gj]);rw[m]at d;simp only[aA,aC]at d;obtain⟨aq,off,V,k1,k2,k3,k4⟩:=d;obtain⟨l,g1,g2⟩:=Fc (β:=β) (H:=H) (v:=.p t) g k4 (by simpa[aa]using hk) (by simpa only[bw]using k1) k3;exact⟨l,g1,g2,by simp[aE]⟩
 ·exact h.elim
end
section
variable{P:da}{w:dg}{ad ai:Nat->Prop}{β:Bd}{H:Heap}
mutual
theorem QE:∀{v:PV}{cs:List c9},aY P w ad v cs->∀c∈cs,c.oneCell'=true
 | .undef,_,h| .aD _,_,h=>by simp[aY]at h
 | .bool _,_,h| .int _ _,_,h| .dX,_,h| .aH,_,h| .fM,_,h| .jb,_,h| .gK,_,h=>by simp only[aY]at h;subst h;simp[hj]
 | .str _,_,h=>by simp only[aY]at h;obtain⟨_,rfl,_⟩:=h;simp[hj]
 | .cG _,_,h=>by simp only[aY]at h;obtain⟨_,_,_,_,_,_,rfl⟩:=h;simp[hj]
 | .bF _ _,_,h=>by simp only[aY]at h;obtain⟨_,_,_,_,_,_,_,_,_,_,_,_,rfl⟩:=h;simp[hj]
 | .seq _,_,h=>by simp only[aY]at h;rcases h with⟨_,rfl⟩|⟨_,_,_,_,_,_,_,_,_,_,_,rfl⟩<;>simp[hj]
 | .fu _,_,h=>by simp only[aY]at h;obtain⟨_,_,_,_,_,_,rfl⟩:=h;simp[hj]
 | .func _ _ _,_,h=>by simp only[aY]at h;obtain⟨_,_,_,_,rfl⟩:=h;simp[hj]
 | .st u fs,_,h=>by
  simp only[aY]at h;obtain⟨l,a,b,d,rfl⟩:=h;exact Pv d
theorem Pv:∀{l:List Nat}{vs:List PV}{a:List (List c9)},bm P w ad l vs a->∀c∈a.flatten,c.oneCell'=true
 |[],[],_,h=>by simp only[bm]at h;subst h;simp
 |[],_::_,_,h=>by simp[bm]at h
 |_::_,[],_,h=>by simp[bm]at h
 |n::f,v::vs,a,h=>by
  simp only[bm]at h;obtain⟨c,cs,rfl,b,d,e⟩:=h;intro x hx;simp only[hQ,hT]at hx;exact hx.elim (QE b x) (Pv e x)
end
mutual
theorem A9:∀{v:AV}{cs:List c9},bw P w ad β H v cs->∀c∈cs,c.oneCell'=true
 | .p t,_,h=>by simp only[bw]at h;exact QE h
 | .ptr ..,_,h| .ct ..,_,h| .sl ..,_,h| .map ..,_,h=>by simp only[bw]at h;obtain⟨v,rfl,b,_⟩:=h;simpa using b
 | .func ..,_,h=>by simp only[bw]at h;obtain⟨_,_,_,_,rfl⟩:=h;simp[hj]
 | .aD _,_,h=>by simp[bw]at h
 | .st u fs,_,h=>by
  simp only[bw]at h;obtain⟨l,a,b,d,rfl⟩:=h;exact Pw d
theorem Pw:∀{l:List Nat}{vs:List AV}{a:List (List c9)},bX P w ad β H l vs a->∀c∈a.flatten,c.oneCell'=true
 |[],[],_,h=>by simp only[bX]at h;subst h;simp
 |[],_::_,_,h=>by simp[bX]at h
 |_::_,[],_,h=>by simp[bX]at h
 |n::f,v::vs,a,h=>by
  simp only[bX]at h;obtain⟨c,cs,rfl,b,d,e⟩:=h;intro x hx;simp only[hQ,hT]at hx;exact hx.elim (A9 b x) (Pw e x)
end
theorem sd(d:cm P w ad β H ai){b:Nat}{o o':Obj}(c:H[b]?=some o)(hl:o.live)(j:o'.live)(l:∀v,o.has v->o'.has v){p new:Array c9}{T:db}
 (i:w.heap[β.aq b]?=some (.cells p T (0,0)))(e:¬ad (β.aq b)/\¬ai (β.aq b))(aN:cM β H β (H.set b o'))
 (m:fH P (w.setRow (β.aq b) new) ad β (H.set b o') ai b o')(n:o'.refs (aL (H.set b o'))):
 cj P ai ad w β H ad (w.setRow (β.aq b) new) β (H.set b o'):=by
 refine cj.set d (hz.1 c).1 (fun _ _=>⟨rfl,rfl⟩) (fun _ x=>x) (fun _ x=>.inl x) (fun k hk=>by rw[e7];exact d.cd k hk) (by rw[e7];exact ix _)
  (fun k hk _=>eq w _ k _ (hk.resolve_right (fun h=>h j))) (fun _=>.inr ⟨rfl,⟨o,c,hl⟩,.inr e.1,e.2⟩) aN m n (fun q v a f=>by rw[c]at a;cases a;exact l v f) (fun L g=>by obtain⟨_,_,_,a,_⟩:=d.cX b _ g;rw[i]at a;cases a)
theorem qw{b:Nat}{o o':Obj}(l:H[b]?=some o)(hk:(∃f g t B,o= .box f t/\o'= .box g B)\/(∃k v z e m,o= .arr k v z e/\o'= .arr k v z m/\e.length=m.length)\/(∃f g e m,o= .map f e/\o'= .map g m)\/(∃s p y,o= .dO s p/\o'= .dO s y)):
 cM β H β (H.set b o'):=by
 have u:b<H.length:=(hz.1 l).1;have j:∀x,x≠b->(H.set b o')[x]?=H[x]?:=fun x hx=>hC (i8 hx);have i:(H.set b o')[b]?=some o':=hB u;refine⟨?_,?_,?_,?_,?_⟩
 ·rintro x _ ⟨fz,t,h⟩;refine⟨?_,rfl⟩
  by_cases hx:x=b
  ·subst hx;rw[i]at h;cases h;rcases hk with⟨f,g,t1,t2,c,a⟩|⟨_,_,_,_,_,_,a,_⟩|⟨_,_,_,_,_,a⟩|⟨_,_,_,_,a⟩
   ·exact⟨f,t1,by rw[l,c]⟩
   all_goals cases a
  ·rw[j x hx]at h;exact⟨fz,t,h⟩
 ·rintro x _ ⟨s,p,h⟩;refine⟨?_,rfl⟩
  by_cases hx:x=b
  ·subst hx;rw[i]at h;cases h;rcases hk with⟨f,g,t1,t2,c,a⟩|⟨_,_,_,_,_,_,a,_⟩|⟨_,_,_,_,_,a⟩|⟨s1,n,A,c,a⟩
   ·cases a
   ·cases a
   ·cases a
   ·exact⟨s1,n,by rw[l,c]⟩
  ·rw[j x hx]at h;exact⟨s,p,h⟩
 ·rintro x _ ⟨w,h,d⟩;refine⟨?_,rfl⟩
  by_cases hx:x=b
  ·subst hx;rw[i]at h;cases h;rcases hk with⟨f,g,t1,t2,c,a⟩|⟨_,_,_,_,_,_,a,_⟩|⟨f,g,e1,e2,c,a⟩|⟨s1,n,A,c,a⟩
   ·rw[a]at d;exact d.elim
   ·rw[a]at d;exact d.elim
   ·exact⟨o,l,by rw[c];trivial⟩
   ·rw[a]at d;exact d.elim
  ·rw[j x hx]at h;exact⟨w,h,d⟩
 ·intro x ar ak k e _ h
  by_cases hx:x=b
  ·subst hx;unfold fp at h⊢;rw[i]at h;cases h;rcases hk with⟨f,g,t1,t2,c,a⟩|⟨k0,v,z,q,C,c,a,r⟩|⟨_,_,_,_,_,a⟩|⟨_,_,_,_,a⟩
   ·cases a
   ·cases a;refine⟨k,q,by rw[l,c],o_,?_,fun _=>⟨rfl,rfl⟩⟩;unfold dA;rw[<-hM,<-hM,r]
   ·cases a
   ·cases a
  ·unfold fp at h⊢;rw[j x hx]at h;exact⟨k,e,h,ix _,hw,fun _=>⟨rfl,rfl⟩⟩
 ·rintro x _ ⟨L,h⟩;refine⟨?_,rfl⟩
  by_cases hx:x=b
  ·subst hx;rw[i]at h;cases h;rcases hk with⟨f,g,t1,t2,c,a⟩|⟨_,_,_,_,_,_,a,_⟩|⟨_,_,_,_,_,a⟩|⟨_,_,_,_,a⟩<;>cases a
  ·rw[j x hx]at h;exact⟨L,h⟩
variable{o:Oper}{ρ:dl->AV}{base:Nat}
theorem MX{T:db}{a x:dl}(n:o.op= .store T a x){e:dl->c9}{aq off:Nat}{b:List c9}{d:Array c9}{f:db}(j:e a= .pointer (some ⟨aq,off,none⟩))
 (hx:(e x).cells.toList=b)(p:P.cellsOf T=b.length/\∃i,P.info? T=some i/\i.size=b.length)(k:w.heap[aq]?=some (.cells d f (0,0)))(m:∀c∈b,c.oneCell'=true)(hl:off+b.length<=d.size):
 (dq e o).run P w=.ok .skip (w.setRow aq (d.toList.take off++b++d.toList.drop (off+b.length)).toArray):=by
 obtain⟨_,i,hi,l⟩:=p;have h:(sizeOf T).run P w=.ok b.length w:=by simp[sizeOf,typeInfo,hi,l]
 have g:=run_storeCells_at (P:=P) aq off f b 0 d w k (by simpa using hl) m;simp only[i3]at g;have q:(e x).cells.size=b.length:=by rw[<-hx];simp
 simp only[dq,n,Instr.storeAt,j,gb];simp[storeVar,h,q,hx,g]
theorem El(u:db)(fs:List AV):aa (iR u fs)=.agg u:=by
 unfold iR;split<;>rfl
theorem au8{t:AV}{c:List (db×Nat)}{x s d:AV}(hs:fk t c=some s)(a:gD t c x=some d)(e:aa s=aa x):aa d=aa t:=by
 cases c with
 |nil=>
  simp only[gD,js]at a;subst a;have:s=t:=by
   cases t<;>simp[fk]at hs<;>exact hs.symm
  rw[<-e,this]
 |cons p r=>
  obtain⟨u,i⟩:=p;cases t<;>simp only[gD]at a
  case p t=>
   split at a
   case isFalse=>simp at a
   rename_i b
   split at a
   case h_2=>simp at a
   split at a
   case h_2=>simp at a
   simp only[js]at a;subst a;rw[El];simp[aa,b]
  case st u' fs=>
   split at a
   case isFalse=>simp at a
   rename_i b
   split at a
   case h_2=>simp at a
   split at a
   case h_2=>simp at a
   simp only[js]at a;subst a;rw[El];simp[aa,b]
  all_goals simp at a
theorem avz{T:db}{a x:dl}(z:o.op= .store T a x){H0:Heap}{K:aZ->Prop}(h:pg P T H0 (ρ a) (ρ x) K):
 ∃e,K e/\bA P o ρ base e/\(∀p∈e.al,H0[p.1]?=some p.2)/\(∀p∈e.aM,p.1<H0.length/\p.2≠.hole):=by
 unfold pg at h;obtain⟨hk,ab,h⟩:=h
 split at h
 ·rename_i b ap N
  split at h
  case h_2=>exact h.elim
  rename_i t B
  split at h
  case h_2=>exact h.elim
  rename_i s j hs r;obtain⟨J,h⟩:=h;refine⟨_,h,?_,by simpa using B,by simpa using(hz.1 B).1⟩;intro H w ad ai β f l D al _;have d:H[b]?=some (.box false t):=by simpa using al
  obtain⟨g,_⟩:=D a (by simp[z,gj]);obtain⟨aa,M⟩:=D x (by simp[z,gj]);rw[N]at g;simp only[aA,bY,b7]at g;obtain⟨_,aj,Z,L,W,U,g⟩:=g;obtain⟨rfl,rfl⟩:=g (.inl ⟨false,t,d⟩);obtain⟨cs,A,k1,k2,k3,k4⟩:=l.cX b _ d;obtain⟨pre,xs,post,e1,e2,e3,e4⟩:=qE k2 hs U;have m:=Ap aa ab;have q:(f x).cells.toList.length=xs.length:=by rw[(o7 m).1,(o7 e3).1,J]
  have ae:cs.size=pre.length+xs.length+post.length:=by
   have:=congrArg hX e1;simp at this;omega
  have C:=MX z W rfl (zX hk m) k1 (A9 m) o_;have aX:(cs.toList.take Z++(f x).cells.toList++cs.toList.drop (Z+(f x).cells.toList.length))=pre++(f x).cells.toList++post:=by
   rw[e1,q,<-e2];simp
  rw[aX]at C;have aN:cM β H β (H.set b (.box false j)):=qw d (.inl ⟨_,_,_,_,rfl,rfl⟩);have Q:∀y,aL H y->aL (H.set b (.box false j)) y:=mS d (fun _ h=>h);have X:∀k,ad k->(w.setRow (β.aq b) (pre++(f x).cells.toList++post).toArray).heap[k]?=w.heap[k]?:=fun k S=>eq w _ k _ (fun O=>k3.1 (O▸S));have V:=sd l d trivial (o':=.box false j) trivial (fun _ h=>h) k1 (new:=(pre++(f x).cells.toList++post).toArray) k3 aN
   ⟨_,A,e8 w _ _ _ A _ k1,bw.mono (fun _ x=>x) X aN _ _ (xI r (l.refs b _ d) M) (e4 _ _ _ r m q),k3,s_,by rw[au8 hs r J];exact k4.2⟩
   (aE.mono Q _ (xI r (l.refs b _ d) M))
  exact⟨_,_,_,β,ad,C,.inr ⟨rfl,rfl⟩,V,by simp[aA,aC,bu,undef],by simp[aE]⟩
 ·rename_i b ar ak i ap N
  split at h
  case h_2=>exact h.elim
  rename_i k aB ay n B;obtain⟨rfl,rfl,ag,hi,h⟩:=h
  split at h
  case h_2=>exact h.elim
  rename_i s j hs r;obtain⟨J,h⟩:=h;refine⟨_,h,?_,by simpa using B,by simpa using(hz.1 B).1⟩;intro H w ad ai β f l D al _;have d:H[b]?=some (.arr k ar ak n):=by simpa using al
  obtain⟨g,_⟩:=D a (by simp[z,gj]);obtain⟨aa,M⟩:=D x (by simp[z,gj]);rw[N]at g;simp only[aA,bY,b7]at g;have I:¬dA k n:=fun G=>by rw[G.2]at hi;simp at hi
  obtain⟨_,aj,Z,L,W,U,g⟩:=g;obtain⟨rfl,rfl⟩:=g k n d I;rcases l.cX b _ d with hold|⟨cs,A,ax,rest,k1,k2,k3,k4,k5,k6,k7,k8⟩
  ·exact(I hold).elim
  have af:¬ad (β.aq b)/\¬ai (β.aq b):=by
   unfold cQ at k7;rw[if_neg (by simpa using ag)]at k7;exact k7
  obtain⟨u,c,F,aq,au,az,av,aw⟩:=BF k2 hi;obtain⟨pre,xs,post,e1,e2,e3,e4⟩:=qE av hs U;have m:=Ap aa ab;have q:(f x).cells.toList.length=xs.length:=by rw[(o7 m).1,(o7 e3).1,J]
  have ac:cs.toList=(u++pre)++xs++(post++F++rest):=by rw[k3,aq,e1];simp
  have ae:cs.size=(u++pre).length+xs.length+(post++F++rest).length:=by
   have:=congrArg hX ac;simp at this⊢;omega
  have ao:(u++pre).length=i*ak+L:=by simp[au,e2]
  have C:=MX z W rfl (zX hk m) k1 (A9 m) o_;have aX:(cs.toList.take (i*ak+L)++(f x).cells.toList++cs.toList.drop (i*ak+L+(f x).cells.toList.length))=(u++pre)++(f x).cells.toList++(post++F++rest):=by
   rw[ac,q,<-ao,hH (u++pre),List.take_left',List.drop_append,hH]
   ·simp
   ·rfl
  rw[aX]at C;obtain⟨am,c1,c2⟩:=aw j _ (e4 _ _ _ r m q) (by rw[e1];simp[q]);have aN:cM β H β (H.set b (.arr k ar ak (n.set i j))):=qw d (.inr (.inl ⟨_,_,_,_,_,rfl,rfl,s_⟩));have Q:∀y,aL H y->aL (H.set b (.arr k ar ak (n.set i j))) y:=mS d (fun _ h=>h);have an:¬dA k (n.set i j):=fun G=>I ⟨G.1,by have:=G.2;rw[List.set_eq_nil_iff]at this;exact this⟩;have ah:aV (aL H) (n.set i j):=by
   rw[cB];intro v Y;rcases hK Y with Y|rfl
   ·exact cB.1 (l.refs b _ d) v Y
   ·exact xI r (cB.1 (l.refs b _ d) _ (h6 hi)) M
  have X:∀E,ad E->(w.setRow (β.aq b) ((u++pre)++(f x).cells.toList++(post++F++rest)).toArray).heap[E]?=w.heap[E]?:=fun E S=>eq w _ E _ (fun O=>af.1 (O▸S));have V:=sd l d I (o':=.arr k ar ak (n.set i j)) an (fun _ h=>h) k1 (new:=((u++pre)++(f x).cells.toList++(post++F++rest)).toArray) af aN
   (.inr ⟨_,A,am,rest,e8 w _ _ _ A _ k1,bX.mono (fun _ x=>x) X aN _ _ _ ah c2,by rw[c1];simp,by
    rw[<-k4,ae];simp[q];omega,by simpa using k5,fun R=>by rw[k6 R];simp,k7,(fun R=>(ag R).elim),k8.2⟩)
   (aV.mono Q _ ah)
  exact⟨_,_,_,β,ad,C,.inr ⟨rfl,rfl⟩,V,by simp[aA,aC,bu,undef],by simp[aE]⟩
 ·exact h.elim
end
section
variable{P:da}{w:dg}{ad ai:Nat->Prop}{β:Bd}{H:Heap}
theorem DN(P:da)(T:db):P.underlying T=(P.info? (P.underlyingId T)).map (fun i:ed=>i.desc):=by
 unfold gx gy;cases hi:P.info? T with
 |none=>simp[hi]
 |some i=>
  obtain⟨d,_,_,_,_,_,_,_,_,_⟩:=i;cases d<;>simp[hi]
theorem D4{T u:db}(h:kindOf P T=.agg u):u=P.underlyingId T/\(∃l,dY P u=some l)/\P.cellsOf T=P.cellsOf u:=by
 unfold kindOf at h
 split at h
 ·split at h
  ·rename_i hc;simp at h;subst h;simp at hc;exact⟨rfl,jp.1 hc.1,hc.2⟩
  ·simp at h
 ·split at h
  ·rename_i hc;simp at h;subst h;simp at hc;exact⟨rfl,jp.1 hc.1,hc.2⟩
  ·simp at h
 ·split at h<;>simp at h
 ·simp at h
theorem xl{T u:db}{n:Nat}(h:fZ P T=some (u,n)):∃fs l,P.underlying T=some (.struct fs)/\fs.size=n/\kindOf P T= .agg u/\dY P u=some l/\l.length=n/\
 ∀(i:Nat)(_hi:i<n),∃f,fs[i]?=some f/\f.offset=(l.take i).sum/\l[i]?=some (P.cellsOf f.type)/\0<P.cellsOf f.type/\(j0 P u)[i]?=some f.type:=by
 unfold fZ at h
 split at h
 case h_2=>simp at h
 rename_i u' fs hk b;simp at h;obtain⟨rfl,rfl⟩:=h;obtain⟨e,⟨l,hl⟩,_⟩:=D4 hk;refine⟨fs,l,b,rfl,hk,hl,?_⟩;have a:(P.info? u').map (fun i:ed=>i.desc)=some (.struct fs):=by rw[e,<-DN,b]
 unfold dY at hl;rw[a]at hl;dsimp only at hl
 split at hl
 case isFalse=>simp at hl
 rename_i hc;simp at hl;simp only[c8,h7,decide_eq_true_eq,beq_iff_eq]at hc;obtain⟨⟨c,g⟩,d⟩:=hc;subst hl;refine⟨s_,fun i hi=>?_⟩;refine⟨fs[i],by simp[hi],?_,by simp[hi],?_,?_⟩
 ·have:=d (fs[i],i) (by rw[List.mem_iff_getElem?];exact⟨i,by simp[hi]⟩);simpa using this
 ·have:=c (P.cellsOf fs[i].type) (by simp;exact⟨fs[i],s_,rfl⟩);exact this
 ·unfold j0;rw[a];simp[hi]
theorem uR{T u:db}{n:Nat}(h:iQ P T=some (u,n)):∃e,P.underlying T=some (.array n e)/\kindOf P T=.agg u/\dY P u=some (hA n (P.cellsOf e))/\0<P.cellsOf e:=by
 unfold iQ at h
 split at h
 case h_2=>simp at h
 rename_i u' f e hk a;simp at h;obtain⟨rfl,rfl⟩:=h;obtain⟨c,⟨l,hl⟩,_⟩:=D4 hk;have b:(P.info? u').map (fun i:ed=>i.desc)=some (.array f e):=by rw[c,<-DN,a]
 have d:=hl;unfold dY at hl;rw[b]at hl;dsimp only at hl
 split at hl
 case isFalse=>simp at hl
 rename_i hc;simp at hl hc;exact⟨e,a,hk,by rw[d,hl],hc.1⟩
theorem zY{p q:List (db×Nat)}{a b:Nat}(c:gT P p=some a)(f:gT P q=some b):gT P (p++q)=some (a+b):=by
 induction p generalizing a with
 |nil=>simp[gT]at c;subst c;simpa using f
 |cons x p g=>
  obtain⟨u,i⟩:=x;simp only[gT]at c;cases d:dY P u with
  |none=>simp[d]at c
  |some l=>
   cases e:gT P p with
   |none=>simp[d,e]at c
   |some a'=>
    simp[d,e]at c;obtain⟨hi,rfl⟩:=c;simp only[hV,gT,d,g e,if_pos hi];congr 1;omega
theorem z8{u:db}{i:Nat}{l:List Nat}(hl:dY P u=some l)(hi:i<l.length):gT P [(u,i)]=some (l.take i).sum:=by
 simp[gT,hl,hi]
variable{o:Oper}{ρ:dl->AV}{base:Nat}
theorem lE(aq off n:Nat):(⟨aq,off,none⟩:Addr).add n=⟨aq,off+n,none⟩:=by unfold Addr.add;split<;>simp_all
theorem XT{T:db}{a:dl}{f:Nat}(v:o.op= .fieldAddr T a f){K:aZ->Prop}(h:oV P T (ρ a) f K):
 ∃e,K e/\bA P o ρ base e/\e.al=[]/\e.aM=[]:=by
 unfold oV at h
 split at h
 case h_2=>exact h.elim
 rename_i u n aN;obtain⟨hf,h⟩:=h;obtain⟨fs,l,J,x,hk,hl,N,E⟩:=xl aN;obtain⟨fd,g1,g2,g3,g4,g5⟩:=E f hf;have z:=z8 hl (by omega:f<l.length);have B:∀(w:dg)(d:dl->c9)(aq off:Nat),d a=.pointer (some ⟨aq,off,none⟩)->(dq d o).run P w=.ok (.value (.pointer (some ⟨aq,off+(l.take f).sum,none⟩))) w:=by
  intro w d aq off m;obtain⟨i,hi⟩:∃i,P.info? fd.type=some i:=by
   cases hi:P.info? fd.type with
   |none=>simp[gt,hi]at g4
   |some i=>exact⟨i,rfl⟩
  have I:(sizeOf fd.type).run P w=.ok (P.cellsOf fd.type) w:=by simp[sizeOf,typeInfo,hi,gt]
  simp only[dq,v];refine eX ?_;have G:¬P.cellsOf fd.type=0:=o_
  simp[Instr.fieldAt,dk J,g1,m,gb,fieldPlace,I,G,lE,g2]
 split at h
 ·rename_i b M m;refine⟨_,h,bA.same fun H w ad ai β d D r _=>?_,rfl,rfl⟩;obtain⟨c,j⟩:=r a (by simp[v,gj]);rw[m]at c j;simp only[aA,bY,b7,aE]at c j;obtain⟨_,aq,off,L,A,y,p⟩:=c;refine⟨_,B w d _ _ A,?_,by simpa[aE]using j⟩;simp only[aA,bY,b7];exact⟨rfl,_,_,_,rfl,zY y z,fun q=>⟨(p q).1,by rw[(p q).2]⟩⟩
 ·rename_i b ar ak i M m;refine⟨_,h,bA.same fun H w ad ai β d D r _=>?_,rfl,rfl⟩;obtain⟨c,j⟩:=r a (by simp[v,gj]);rw[m]at c j;simp only[aA,bY,b7,aE]at c j;obtain⟨_,aq,off,L,A,y,p⟩:=c;refine⟨_,B w d _ _ A,?_,by simpa[aE]using j⟩;simp only[aA,bY,b7];exact⟨rfl,_,_,_,rfl,zY y z,fun k C q x=>⟨(p k C q x).1,by rw[(p k C q x).2];omega⟩⟩
 ·rename_i t m;obtain⟨hs,h⟩:=h
  split at h
  case h_2=>exact h.elim
  rename_i g F;refine⟨_,h,?_,rfl,rfl⟩;refine bA.same fun H w ad ai β d D r _=>?_;obtain⟨c,_⟩:=r a (by simp[v,gj]);rw[m]at c;simp only[aA,aC]at c;obtain⟨aq,off,O,k1,k2,k3,k4⟩:=c;refine⟨_,B w d _ _ k4,?_,by simp[aE]⟩;obtain⟨pre,xs,post,e1,e2,e3⟩:=AU (path:=[(u,f)]) (s:=g) k1 (by simp[l6,hs,F]) z;simp only[aA,aC];refine⟨aq,off+(l.take f).sum,xs,e3,k2,?_,rfl⟩;intro i hi;have:=k3 (pre.length+i) (by rw[e1];simp;omega);rw[<-e2,i5,this];congr 1;simp only[e1,hH];rw[hZ o_];simp only[i1];rw[h0 hi]
 ·exact h.elim
end
section
variable{P:da}{w:dg}{ad ai:Nat->Prop}{β:Bd}{H:Heap}
variable{o:Oper}{ρ:dl->AV}{base:Nat}
theorem uC{aq off:Nat}{a pre xs post:List c9}(h:iE w aq off a)(e:a=pre++xs++post):iE w aq (off+pre.length) xs:=by
 intro i hi;have:=h (pre.length+i) (by rw[e];simp;omega);rw[i5,this];congr 1;simp only[e,hH];rw[hZ o_];simp only[i1];rw[h0 hi]
structure so(P:da)(T:db)(sz:Nat)(e:db)(i:ed):Prop where
 ig:P.underlying T=some (.slice e)
 info:P.info? e=some i
 size:i.size=sz
 pos:0<sz
 bytes:i.bytes<32768
 aRF:0<i.bytes
 rN:ez P T=e
theorem ly{T:db}{sz:Nat}(h:cV P T=some sz):∃e i,so P T sz e i:=by
 unfold cV at h
 split at h
 case h_2=>simp at h
 rename_i e a
 split at h
 case h_2=>simp at h
 rename_i i hi
 split at h
 case isFalse=>simp at h
 rename_i hc;simp at h;subst h;exact⟨e,i,a,hi,rfl,hc.2.1,hc.1,hc.2.2,by simp[ez,a]⟩
theorem so.run{T:db}{sz:Nat}{e:db}{i:ed}(h:so P T sz e i)(w:dg):(sizeOf e).run P w=.ok sz w:=by
 simp[sizeOf,typeInfo,h.info,h.size]
theorem XS{T:db}{x R:dl}(B:o.op= .indexAddr T x R){H0:Heap}{K:aZ->Prop}(h:oU P T H0 (ρ x) (ρ R) K):
 ∃e,K e/\bA P o ρ base e/\(∀p∈e.al,H0[p.1]?=some p.2)/\e.aM=[]:=by
 unfold oU at h
 split at h
 case h_2=>exact h.elim
 rename_i ap n aj;obtain⟨C,h⟩:=h;have E:x∈o.op.operands:=by simp[B,gj]
 have am:R∈o.op.operands:=by simp[B,gj]
 have D:∀{H:Heap}{w:dg}{ad:Nat->Prop}{β:Bd}{z:dl->c9},(∀y∈o.op.operands,aA P w ad β H (ρ y) (z y)/\aE (aL H) (ρ y))->z R=.int ap n:=by
  intro H w ad β z f;have:=(f R am).1;rw[aj]at this;simpa[aA,aC]using this
 split at h
 ·
  rename_i full d hx;obtain⟨j,r,h⟩:=h;obtain⟨e,ag,A⟩:=ly r;refine⟨_,h,bA.same fun H w ad ai β z N f _=>?_,s_,rfl⟩;obtain⟨a,_⟩:=f x E;rw[hx]at a;simp only[aA,aC]at a;obtain⟨aq,off,cap,ak,U,k1,k2,k3,k4,k5,sp,aa,k6⟩:=a;obtain rfl:sp=none:=aa.resolve_right o_;have Z:Row P w ad ⟨id,id⟩ [] ak (d.map .p) U:=mR.2 k1;obtain⟨pre,c,post,ab,ac,ae,S,_⟩:=BF Z (i:=n.toNat) (by simpa using j);have L:aY P w ad d[n.toNat] c:=by
   have:(d.map AV.p)[n.toNat]'(by simpa using j)=.p d[n.toNat]:=s_
   rw[this]at S;simpa only[bw]using S
  have W:bO P (aP d[n.toNat])=ak:=by rw[<-(oX L).1,ae]
  refine⟨.pointer (some ⟨aq,off+n.toNat*ak,none⟩),?_,?_,by simp[aE]⟩
  ·simp only[dq,B];refine eX ?_;have q:n<(d.length:Int):=by omega
   simp[gc,D f,asIntOf,dk A.ig,k6,C,q,A.run,W,lE]
  ·simp only[aA,aC];refine⟨aq,off+n.toNat*ak,c,L,k2 (by intro F;rw[F]at j;simp at j),?_,rfl⟩;rw[<-ac];exact uC k3 ab
 ·
  rename_i d hx;obtain⟨j,r,h⟩:=h;obtain⟨e,ag,A⟩:=ly r;refine⟨_,h,bA.same fun H w ad ai β z N f _=>?_,s_,rfl⟩;obtain⟨a,_⟩:=f x E;rw[hx]at a;simp only[aA,aC]at a;rcases a with⟨rfl,_⟩|⟨aq,off,cap,ak,U,k1,k2,k3,k5,sp,aa,k6⟩
  ·simp at j
  obtain rfl:sp=none:=aa.resolve_right o_;have Z:Row P w ad ⟨id,id⟩ [] ak (d.map .p) U:=mR.2 k1;obtain⟨pre,c,post,ab,ac,ae,S,_⟩:=BF Z (i:=n.toNat) (by simpa using j);have L:aY P w ad d[n.toNat] c:=by
   have:(d.map AV.p)[n.toNat]'(by simpa using j)=.p d[n.toNat]:=s_
   rw[this]at S;simpa only[bw]using S
  have W:bO P (aP d[n.toNat])=ak:=by rw[<-(oX L).1,ae]
  refine⟨.pointer (some ⟨aq,off+n.toNat*ak,none⟩),?_,?_,by simp[aE]⟩
  ·simp only[dq,B];refine eX ?_;have q:n<(d.length:Int):=by omega
   simp[gc,D f,asIntOf,dk A.ig,k6,C,q,A.run,W,lE]
  ·simp only[aA,aC];refine⟨aq,off+n.toNat*ak,c,L,k2 (by intro F;rw[F]at j;simp at j),?_,rfl⟩;rw[<-ac];exact uC k3 ab
 ·
  rename_i b ar ak off len hx;obtain⟨r,j,h⟩:=h;obtain⟨e,ag,A⟩:=ly r
  split at h
  case h_2=>exact h.elim
  rename_i k aD ax d ao;obtain⟨rfl,rfl,an,h⟩:=h;refine⟨_,h,bA.same fun H w ad ai β z N f al=>?_,by simpa using ao,rfl⟩;obtain⟨a,l⟩:=f x E;rw[hx]at a l;simp only[aA,bY,b7,aE]at a l;have af:H[b]?=some (.arr k ar ak d):=by simpa using al
  obtain⟨g1,g2,V⟩:=a.2 k d af;have V:=V an;refine⟨.pointer (some ⟨β.aq b,off*ak+n.toNat*ak,none⟩),?_,?_,by simpa[aE]using l⟩
  ·simp only[dq,B];refine eX ?_;have q:n<(len:Int):=by omega
   simp[gc,D f,asIntOf,dk A.ig,V,C,q,A.run,lE]
  ·simp only[aA,bY,b7];refine⟨rfl,_,_,0,rfl,rfl,fun az aw v ay=>?_⟩;unfold fp at v;rw[af]at v;cases v;exact⟨rfl,by rw[Nat.add_mul];simp⟩
 ·
  rename_i b av hx
  split at h
  case h_2=>exact h.elim
  rename_i u m G;obtain⟨j,h⟩:=h;obtain⟨e,Q,hk,hl,M⟩:=uR G;refine⟨_,h,bA.same fun H w ad ai β z N f _=>?_,s_,rfl⟩;obtain⟨a,l⟩:=f x E;rw[hx]at a l;simp only[aA,bY,b7,aE]at a l;obtain⟨_,aq,off,au,Y,X,v⟩:=a;have J:=z8 hl (i:=n.toNat) (by simpa using j);have O:((hA m (P.cellsOf e)).take n.toNat).sum=n.toNat*P.cellsOf e:=by rw[hF,iz o_,hD]
  have r:(sizeOf e).run P w=.ok (P.cellsOf e) w:=by
   cases hi:P.info? e with
   |none=>simp[gt,hi]at M
   |some i=>simp[sizeOf,typeInfo,hi,gt]
  refine⟨.pointer (some ⟨aq,off+n.toNat*P.cellsOf e,none⟩),?_,?_,by simpa[aE]using l⟩
  ·simp only[dq,B];refine eX ?_;have q:n<(m:Int):=by omega
   simp[gc,D f,asIntOf,dk Q,Y,gb,C,q,r,lE]
  ·simp only[aA,bY,b7];exact⟨rfl,_,_,_,rfl,zY X J,fun I=>⟨(v I).1,by rw[(v I).2,O]⟩⟩
 ·rename_i b ar ak i av hx
  split at h
  case h_2=>exact h.elim
  rename_i u m G;obtain⟨j,h⟩:=h;obtain⟨e,Q,hk,hl,M⟩:=uR G;refine⟨_,h,bA.same fun H w ad ai β z N f _=>?_,s_,rfl⟩;obtain⟨a,l⟩:=f x E;rw[hx]at a l;simp only[aA,bY,b7,aE]at a l;obtain⟨_,aq,off,au,Y,X,v⟩:=a;have J:=z8 hl (i:=n.toNat) (by simpa using j);have O:((hA m (P.cellsOf e)).take n.toNat).sum=n.toNat*P.cellsOf e:=by rw[hF,iz o_,hD]
  have r:(sizeOf e).run P w=.ok (P.cellsOf e) w:=by
   cases hi:P.info? e with
   |none=>simp[gt,hi]at M
   |some i=>simp[sizeOf,typeInfo,hi,gt]
  refine⟨.pointer (some ⟨aq,off+n.toNat*P.cellsOf e,none⟩),?_,?_,by simpa[aE]using l⟩
  ·simp only[dq,B];refine eX ?_;have q:n<(m:Int):=by omega
   simp[gc,D f,asIntOf,dk Q,Y,gb,C,q,r,lE]
  ·simp only[aA,bY,b7];exact⟨rfl,_,_,_,rfl,zY X J,fun k d I F=>⟨(v k d I F).1,by rw[(v k d I F).2,O];omega⟩⟩
 ·rename_i t hx
  split at h
  case h_2=>exact h.elim
  rename_i u m G;obtain⟨hs,j,h⟩:=h
  split at h
  case h_2=>exact h.elim
  rename_i g ah;obtain⟨e,Q,hk,hl,M⟩:=uR G;refine⟨_,h,bA.same fun H w ad ai β z N f _=>?_,s_,rfl⟩;obtain⟨a,_⟩:=f x E;rw[hx]at a;simp only[aA,aC]at a;obtain⟨aq,off,aB,k1,k2,k3,k4⟩:=a;have J:=z8 hl (i:=n.toNat) (by simpa using j);have O:((hA m (P.cellsOf e)).take n.toNat).sum=n.toNat*P.cellsOf e:=by rw[hF,iz o_,hD]
  have r:(sizeOf e).run P w=.ok (P.cellsOf e) w:=by
   cases hi:P.info? e with
   |none=>simp[gt,hi]at M
   |some i=>simp[sizeOf,typeInfo,hi,gt]
  obtain⟨pre,xs,post,e1,e2,e3⟩:=AU (path:=[(u,n.toNat)]) (s:=g) k1 (by simp[l6,hs,ah]) J;refine⟨.pointer (some ⟨aq,off+n.toNat*P.cellsOf e,none⟩),?_,?_,by simp[aE]⟩
  ·simp only[dq,B];refine eX ?_;have q:n<(m:Int):=by omega
   simp[gc,D f,asIntOf,dk Q,k4,gb,C,q,r,lE]
  ·simp only[aA,aC];refine⟨aq,_,xs,e3,k2,?_,rfl⟩;rw[<-O,<-e2];exact uC k3 e1
 ·exact h.elim
theorem aQB{bs:ByteArray}{s:List Nat}(h:s=bs.data.toList.map (·.toNat)){i:Nat}(hi:i<s.length):∃b:UInt8,bs[i]?=some b/\b.toNat=s[i]:=by
 subst h;have a:i<bs.size:=by simpa using hi
 refine⟨bs[i],by simp[a],?_⟩;simp only[List.getElem_map,cb];rfl
theorem YS{T:db}{x f:dl}{s:List Nat}{k:en}{n:Int}(e:o.op= .index T x f)(hx:ρ x= .p (.str s))(hi:ρ f= .p (.int k n))(d:je P T=true)(i:0<=n)(g:n.toNat<s.length):
 bA P o ρ base {v:=.p (.int .u8 (s[n.toNat]'g))}:=by
 refine bA.same fun H w ad ai β m l h _=>?_;have a:=(h x (by simp[e,gj])).1;have c:=(h f (by simp[e,gj])).1;rw[hx]at a;rw[hi]at c;simp only[aA,aC]at a c;obtain⟨bs,e1,e2⟩:=a;obtain⟨b,g1,g2⟩:=aQB e2 g;have j:P.underlying T=some .string:=by
  unfold je at d
  split at d
  ·assumption
  ·simp at d
 refine⟨.int .u8 b.toNat,?_,by simp[aA,aC,g2],by simp[aE]⟩;simp only[dq,e,e1,c];refine eX ?_;simp[Instr.index,asIntOf,dk j,i,g1]
theorem Ze{S D:db}{x:dl}{k k0:en}{n:Int}(b:o.op= .convert S D x)(e:∃d,P.underlying S=some d)(c:P.underlying D=some (.int k))(hx:ρ x= .p (.int k0 n)):
 bA P o ρ base {v:=.p (.int k (k.wrap n))}:=by
 refine bA.same fun H w ad ai β i h g _=>?_;have a:=(g x (by simp[b,gj])).1;rw[hx]at a;simp only[aA,aC]at a;obtain⟨d,f⟩:=e;refine⟨.int k (k.wrap n),?_,by simp[aA,aC],by simp[aE]⟩;simp only[dq,b,a];refine eX ?_;simp[convert,dk f,dk c,Conv.intToInt]
theorem Zd{S D:db}{x:dl}{s:List Nat}(b:o.op= .convert S D x)(e:∃d,P.underlying S=some d)(c:P.underlying D=some .string)(hx:ρ x= .p (.str s)):
 bA P o ρ base {v:=.p (.str s)}:=by
 refine bA.same fun H w ad ai β i h g _=>?_;have a:=(g x (by simp[b,gj])).1;rw[hx]at a;simp only[aA,aC]at a;obtain⟨bs,e1,e2⟩:=a;obtain⟨d,f⟩:=e;refine⟨.string bs,?_,by simp only[aA,aC];exact⟨bs,rfl,e2⟩,by simp[aE]⟩;simp only[dq,b,e1];refine eX ?_;simp only[convert,g7,dk f,dk c,g0];cases d<;>simp
theorem Z1{b ar ak off len:Nat}{k:AK}{d:List AV}{v:c9}(h:aA P w ad β H (.sl b ar ak off len) v)(j:H[b]?=some (.arr k ar ak d)):∃a c,v=.slice a len c:=by
 simp only[aA,bY,b7]at h;obtain⟨f,g,i⟩:=h.2 k d j
 by_cases e:dA k d
 ·rw[g e];have:len=0:=by rw[e.2]at f;simp at f;omega
  subst this;exact⟨_,_,rfl⟩
 ·exact⟨_,_,i e⟩
theorem Ea:∀{b:List (PV×PV)}{a:List ew},cR P w ad b a->a.length=b.length
 |[],a,h=>by simp only[cR]at h;subst h;rfl
 |(k,v)::r,a,h=>by
  simp only[cR]at h;obtain⟨e,rest,rfl,d,f,c⟩:=h;simp[Ea c]
theorem aPg{c:Call}{x:dl}{n:Nat}{al:List (Nat×Obj)}{H0:Heap}(F:o.op= .call c)(hc:c.callee= .builtin .len)(D:c.args.toList=[x])(hl:lenOf H0 (ρ x)=some (n,al))(d:iL P (c.argTypes.getD 0 0) (ρ x)=true)(N:0<c.argTypes.size):
 bA P o ρ base {v:=.p (.int .i64 n),al}/\(∀p∈al,H0[p.1]?=some p.2):=by
 have t:x∈o.op.operands:=by
  rw[F];simp only[gj,Call.operands,hc];simp;rw[<-b2,D];simp
 have I:c.args=#[x]:=by apply cy;simpa using D
 have m:c.argTypes[0]?=some (c.argTypes.getD 0 0):=by simp[cx,N]
 have q:∀{H:Heap}{w:dg}{ad:Nat->Prop}{β:Bd}{l:dl->c9},((fb c.argTypes o.type #[l x]).run P w= .ok (goInt n) w)->
  ∃C,(dq l o).run P w=.ok (.value C) w/\aA P w ad β H (.p (.int .i64 n)) C/\aE (aL H) (.p (.int .i64 n)):=by
  intro H w ad β l K;refine⟨goInt n,?_,by simp[aA,aC,goInt],by simp[aE]⟩;simp only[dq,F,resolve,hc,I];simp[invoke,builtin,K]
 have M:∀T:db,je P T=true->P.underlying T=some .string:=by
  intro T h;unfold je at h
  split at h
  ·assumption
  ·simp at h
 generalize Q:c.argTypes.getD 0 0=T at*;unfold lenOf at hl
 split at hl
 ·rename_i s hx;simp at hl;obtain⟨rfl,rfl⟩:=hl;rw[hx]at d;simp only[iL]at d;refine⟨bA.same fun H w ad ai β l u i _=>q ?_,s_⟩;have g:=(i x t).1;rw[hx]at g;simp only[aA,aC]at g;obtain⟨bs,e1,e2⟩:=g;have hs:s.length=bs.size:=by rw[e2];simp
  simp[fb,m,dk (M _ d),e1,hs]
 ·rename_i hx;simp at hl;obtain⟨rfl,rfl⟩:=hl;rw[hx]at d;refine⟨bA.same fun H w ad ai β l u i _=>q ?_,s_⟩;have g:=(i x t).1;rw[hx]at g;simp only[aA,aC]at g;simp only[iL]at d
  split at d
  ·rename_i e j;simp[fb,m,dk j,g]
  ·simp at d
 ·rename_i hx;simp at hl;obtain⟨rfl,rfl⟩:=hl;rw[hx]at d;refine⟨bA.same fun H w ad ai β l u i _=>q ?_,s_⟩;have g:=(i x t).1;rw[hx]at g;simp only[aA,aC]at g;simp only[iL]at d
  split at d
  ·rename_i k e j;simp[fb,m,dk j,g]
  ·simp at d
 ·rename_i f y hx;simp at hl;obtain⟨rfl,rfl⟩:=hl;rw[hx]at d;refine⟨bA.same fun H w ad ai β l u i _=>q ?_,s_⟩;have g:=(i x t).1;rw[hx]at g;simp only[aA,aC]at g;obtain⟨aq,off,cap,ak,G,k1,k2,k3,k4,k5,sp,L,k6⟩:=g;simp only[iL]at d
  split at d
  ·rename_i e j;simp[fb,m,dk j,k6]
  ·simp at d
 ·rename_i y hx;simp at hl;obtain⟨rfl,rfl⟩:=hl;rw[hx]at d;refine⟨bA.same fun H w ad ai β l u i _=>q ?_,s_⟩;have g:=(i x t).1;rw[hx]at g;simp only[aA,aC]at g;simp only[iL]at d
  split at d
  ·rename_i e j;rcases g with⟨rfl,k6⟩|⟨aq,off,cap,ak,G,k1,k2,k3,k5,sp,L,k6⟩
   ·simp[fb,m,dk j,k6]
   ·simp[fb,m,dk j,k6]
  ·simp at d
 ·rename_i y hx;simp at hl;obtain⟨rfl,rfl⟩:=hl;rw[hx]at d;refine⟨bA.same fun H w ad ai β l u i _=>q ?_,s_⟩;have g:=(i x t).1;rw[hx]at g;simp only[aA,aC]at g;obtain⟨r,z,clock,k1,k2,k3,k4⟩:=g;simp only[iL]at d
  split at d
  ·rename_i k e j;have:=Ea k3;have A:(getObj r).run P w=.ok (.map z clock) w:=by simp[getObj,g9,k2]
   simp at this;simp[fb,m,dk j,k4,A,this]
  ·simp at d
 ·rename_i b ar ak off len hx
  split at hl
  case h_2=>simp at hl
  rename_i k R O y B
  split at hl
  case isFalse=>simp at hl
  rename_i J;obtain⟨rfl,rfl⟩:=J;simp at hl;obtain⟨rfl,rfl⟩:=hl;rw[hx]at d;refine⟨bA.same fun H w ad ai β l u i al=>q ?_,by simpa using B⟩;have g:=(i x t).1;rw[hx]at g;obtain⟨a,cp,e1⟩:=Z1 g (by simpa using al);simp only[iL]at d
  split at d
  ·rename_i e j;simp[fb,m,dk j,e1]
  ·simp at d
 ·rename_i b hx
  split at hl
  case h_2=>simp at hl
  rename_i fz y B;simp at hl;obtain⟨rfl,rfl⟩:=hl;rw[hx]at d;refine⟨bA.same fun H w ad ai β l u i al=>q ?_,by simpa using B⟩;have g:=(i x t).1;rw[hx]at g;simp only[aA,bY,b7]at g;have E:H[b]?=some (.map fz y):=by simpa using al
  obtain⟨z,clock,k2,k3,_⟩:=u.cX b _ E;have e1:=g.2.1 ⟨_,E,trivial⟩;simp only[iL]at d
  split at d
  ·rename_i k e j;have:=Ea k3;have A:(getObj (β.aq b)).run P w=.ok (.map z clock) w:=by simp[getObj,g9,k2]
   simp at this;simp[fb,m,dk j,e1,A,this]
  ·simp at d
 ·simp at hl
end
section
variable{P:da}{w:dg}{ad ai:Nat->Prop}{β:Bd}{H:Heap}
variable{o:Oper}{ρ:dl->AV}{base:Nat}
theorem OP:∀(a:List c9)(off j:Nat)(cells:Array c9),off+j+a.length<=cells.size->
 ((a.zipIdx j).foldl (fun cs(p:c9×Nat)=>cs.setIfInBounds (off+p.2) p.1) cells).toList=cells.toList.take (off+j)++a++cells.toList.drop (off+j+a.length)
 |[],off,j,cells,_=>by simp
 |x::a,off,j,cells,h=>by
  simp only[List.zipIdx_cons,List.foldl_cons];rw[OP a off (j+1) _ (by simp at h⊢;omega)];simp only[Array.toList_setIfInBounds,hS];have d:off+j<cells.toList.length:=by simp at h⊢;omega
  rw[show off+(j+1)=off+j+1 by omega];have b:(cells.toList.set (off+j) x).take (off+j+1)=cells.toList.take (off+j)++[x]:=by
   rw[List.take_succ_eq_append_getElem (by simpa using d)];rw[List.take_set_of_le (ix _)];simp
  have c:(cells.toList.set (off+j) x).drop (off+j+1+a.length)=cells.toList.drop (off+j+(a.length+1)):=by
   rw[List.drop_set_of_lt o_];congr 1;omega
  rw[b,c];simp
theorem Ya{pre c post a:List c9}(h:a.length=c.length):((pre++c++post).take pre.length++a++(pre++c++post).drop (pre.length+a.length))=pre++a++post:=by
 rw[h];simp
theorem D8{l:List Nat}{place:Nat->Option (Nat×Nat)}(s:∀i n,l[i]?=some n->place i=some ((l.take i).sum,n)):
 ∀{f:List (Nat×AV)}{j:List (Nat×c9)}{fs:List AV}{e:List (List c9)}{cells:Array c9},j.map j3=f.map j3->(∀i:Nat,aA P w ad β H (((f[i]?).map j2).getD (.p .undef)) (((j[i]?).map j2).getD undef))->
  mO P l f->bX P w ad β H l fs e->cells.toList=e.flatten->
  ∃g m,gg place cells j=some g/\bX P w ad β H l (jd fs f) m/\g.toList=m.flatten
 |[],[],fs,e,cells,_,_,_,h,hc=>⟨cells,e,rfl,h,hc⟩
 |[],_::_,_,_,_,b,_,_,_,_=>by simp at b
 |_::_,[],_,_,_,b,_,_,_,_=>by simp at b
 |(i,a)::f,(d,v)::j,fs,e,cells,b,t,o,h,hc=>by
  simp only[hN,List.cons.injEq]at b;obtain⟨rfl,b⟩:=b;simp only[mO]at o;obtain⟨⟨n,q,hs,B⟩,o⟩:=o;have G:aA P w ad β H a v:=by simpa using t 0
  have y:=fun k=>t (k+1);simp only[h1]at y;have L:=zZ h;have K:d<l.length:=(hz.1 q).1;have C:d<fs.length:=o_
  obtain⟨pre,c,post,e1,e2,e3,e4,e5,A⟩:=uW h (hE C);have J:c.length=n:=by rw[q]at e4;simpa using e4.symm
  have u:=Ap G B;have x:v.cells.toList.length=n:=by rw[(o7 u).1,hs]
  obtain⟨m,k1,k2⟩:=A a _ u o_;have F:cells.size=pre.length+c.length+post.length:=by
   have:=congrArg hX (hc.trans e1);simp at this;omega
  have I:v.cells.size=n:=by simpa using x
  obtain⟨pC,r⟩:∃pC,(v.cells.zipIdx.foldl (fun cs(p:c9×Nat)=>cs.setIfInBounds ((l.take d).sum+p.2) p.1) cells)=pC:=⟨_,rfl⟩
  have D:pC.toList=m.flatten:=by
   rw[<-r,k1];have:=OP v.cells.toList (l.take d).sum 0 cells (by rw[<-e2];simp at x⊢;omega);rw[<-ce];simp only[Array.toList_zipIdx];rw[this,hc,e1,i3,<-e2];exact Ya o_
  obtain⟨g,z,g1,g2,g3⟩:=D8 s b y o k2 D;refine⟨g,z,?_,by simpa only[jd]using g2,g3⟩;have E:¬(v.cells.size≠n\/(l.take d).sum+v.cells.size>cells.size):=by
   rw[I,F,<-e2];omega
  simp only[gg,s d n q];simp only[Bool.or_eq_true,decide_eq_true_eq,E,if_false];simp only[<-r]at g1;exact g1
end
section
variable{P:da}{w:dg}{ad ai:Nat->Prop}{β:Bd}{H:Heap}
variable{o:Oper}{ρ:dl->AV}{base:Nat}
theorem LA{α γ:Type}(f:α->Sem γ)(g:α->γ)(w:dg):∀l:List α,(∀a∈l,(f a).run P w=.ok (g a) w)->(l.mapM f).run P w=.ok (l.map g) w
 |[],_=>by simp
 |a::l,h=>by
  simp only[ih,g7,h a s_,g0,LA f g w l (fun b c=>h b (by simp[c])),hN];rfl
theorem XF{α γ:Type}(f:α->Sem γ)(g:α->γ)(w:dg)(a:Array α)(h:∀x∈a.toList,(f x).run P w=.ok (g x) w):(a.mapM f).run P w=.ok (a.toList.map g).toArray w:=by
 rw[b4,ha,LA f g w _ h];rfl
theorem NH{ρc:dl->c9}{parts:Array (Nat×dl)}(h:∀p∈parts.toList,aA P w ad β H (ρ p.2) (ρc p.2)):
 ((parts.map fun(i,x)=>(i,ρc x)).toList).map j3=(parts.toList.map fun(i,x)=>(i,ρ x)).map j3/\
 ∀i:Nat,aA P w ad β H ((((parts.toList.map fun(i,x)=>(i,ρ x))[i]?).map j2).getD (.p .undef)) ((((parts.map fun(i,x)=>(i,ρc x)).toList[i]?).map j2).getD undef):=by
 refine⟨by simp[Function.comp_def],fun i=>?_⟩;simp only[cr,h5];cases a:parts.toList[i]? with
 |none=>simp[aA,aC]
 |some p=>simpa using h p (hJ a)
theorem Ew{S:Nat×Nat->Prop}:∀{b:List (Nat×AV)}{fs:List AV},aV S fs->(∀p∈b,aE S p.2)->aV S (jd fs b)
 |[],fs,h,_=>h
 |(i,v)::r,fs,h,a=>by
  simp only[jd];refine Ew ?_ (fun p c=>a p (by simp[c]));rw[cB]at h⊢;intro x hx;rcases hK hx with hx|rfl
  ·exact h x hx
  ·exact a (i,x) s_
theorem NJ{c:Array (Nat×dl)}{p:Nat×dl}(a:p∈c.toList):p.2∈((c.toList.map (·.2)).toArray:Array dl):=by
 simp;exact⟨p.1,by simpa using a⟩
theorem avE{T u:db}{z:PV}{l:List Nat}{c:Array (Nat×dl)}(t:o.op= .build T c)(hk:kindOf P T= .agg u)(U:cO P T=some z)(hl:dY P u=some l)(hs:aP z= .agg u)
 (O:mO P l (c.toList.map fun(i,x)=>(i,ρ x))):bA P o ρ base {v:=iR u (jd ((cS z).map .p) (c.toList.map fun(i,x)=>(i,ρ x)))}:=by
 obtain⟨i,ac,K,z2,z3,z4⟩:=qj U;refine bA.same fun H w ad ai β m ah V _=>?_;have F:∀p∈c.toList,aA P w ad β H (ρ p.2) (m p.2)/\aE (aL H) (ρ p.2):=fun p g=>V p.2 (by rw[t];exact NJ g);obtain⟨X,Y⟩:=NH (ρ:=ρ) (ρc:=m) (parts:=c) (fun p g=>(F p g).1);have G:=z3 w ad;obtain⟨fs,rfl⟩:∃fs,z=.st u fs:=by cases z<;>simp[aP]at hs;subst hs;exact⟨_,rfl⟩
 simp only[aY]at G;obtain⟨W,ae,q1,Z,aa⟩:=G;rw[hl]at q1;cases q1
 have D:∀y:Nat->Option (Nat×Nat),(∀i n,l[i]?=some n->y i=some ((l.take i).sum,n))->
  (∀cells,gg y ac.cells (c.map fun(i,x)=>(i,m x)).toList=some cells->(dq m o).run P w=.ok (.value (.agg cells)) w)->
  ∃B,(dq m o).run P w=.ok (.value B) w/\aA P w ad β H (iR u (jd ((cS (.st u fs)).map .p) (c.toList.map fun(i,x)=>(i,ρ x)))) B/\
   aE (aL H) (iR u (jd ((cS (.st u fs)).map .p) (c.toList.map fun(i,x)=>(i,ρ x)))):=by
  intro y Q S;obtain⟨L,M,g1,g2,g3⟩:=D8 Q X Y O (o6.2 Z) aa;refine⟨.agg L,S _ g1,?_,DP (Ew (jz _ _) ?_)⟩
  ·rw[awS];simp only[aA];exact⟨l,M,hl,g2,by rw[<-g3]⟩
  ·intro p g;simp only[ik]at g;obtain⟨q,hq,rfl⟩:=g;exact(F q hq).2
 have k:=hk;unfold kindOf at k
 split at k
 ·rename_i a d;have aN:fZ P T=some (u,a.size):=by unfold fZ;rw[hk,d]
  obtain⟨af,W,s1,s2,A,s,ab,I⟩:=xl aN;rw[d]at s1;cases s1;rw[hl]at s;cases s;have R:(a.mapM fun f=>(do pure (f.offset,<-sizeOf f.type):Sem (Nat×Nat))).run P w=.ok (a.toList.map fun f:Field=>(f.offset,P.cellsOf f.type)).toArray w:=by
   refine XF _ _ w _ (fun f hf=>?_);obtain⟨j,r,rfl⟩:=List.mem_iff_getElem.1 hf;obtain⟨C,g1,g2,g3,g4,g5⟩:=I j (by simpa using r);have:a[j]'(by simpa using r)=C:=by
    have E:a[j]?=some (a[j]'(by simpa using r)):=Array.getElem?_eq_getElem (by simpa using r);rw[g1]at E;exact(j1 E).symm
   simp only[cb,this];simp[J g4]
  refine D (fun i=>(a.toList.map fun f:Field=>(f.offset,P.cellsOf f.type)).toArray[i]?) ?_ (fun cells hc=>?_)
  ·intro i n b;have hi:i<a.size:=by rw[<-ab];exact(hz.1 b).1
   obtain⟨C,g1,g2,g3,g4,g5⟩:=I i hi;rw[b]at g3;simp only[List.getElem?_toArray,h5,b0,g1];simp[g2,j1 g3]
  ·simp only[dq,t];refine eX ?_;simp only[gi,g7,uK K z2,g0,dk d,R,hc,g8]
 ·rename_i n e d;have N:iQ P T=some (u,n):=by unfold iQ;rw[hk,d]
  obtain⟨e',s1,s2,A,s⟩:=uR N;rw[d]at s1;cases s1;rw[hl]at A;cases A;refine D (fun i=>some (i*P.cellsOf e,P.cellsOf e)) ?_ (fun cells hc=>?_)
  ·intro i aj b;rw[hG]at b
   split at b
   ·rename_i ag;simp at b;subst b;rw[hF,iz o_,hD]
   ·simp at b
  ·simp only[dq,t];refine eX ?_;simp only[gi,g7,uK K z2,g0,dk d,J s,hc,g8]
 ·split at k<;>simp at k
 ·simp at k
where
 J {P:da} {w:dg} {T:db} (h:0<P.cellsOf T):(sizeOf T).run P w=.ok (P.cellsOf T) w:=by
  cases hi:P.info? T with
  |none=>simp[gt,hi]at h
  |some i=>simp[sizeOf,typeInfo,hi,gt]
theorem Ah(a:Array c9)(n:Nat)(_h:0<a.size):((b1 (n*a.size)).map (a[·% a.size]!)).toList=(hA n a.toList).flatten:=by
 simp only[cr,Array.toList_range]
 induction n with
 |zero=>simp
 |succ n c=>
  rw[i6,List.range_add,List.map_append,c,List.replicate_succ',List.flatten_append];congr 1;simp only[List.map_map,hQ,List.flatten_nil,h9];refine List.ext_getElem s_ (fun i b d=>?_);simp at b;simp[Nat.mul_add_mod_self_right,Nat.mod_eq_of_lt b,b,getElem!_pos]
theorem xm{z:PV}{a:List c9}(h:aY P w ad z a):∀n:Nat,Row P w ad β H a.length (hA n (.p z)) (hA n a)
 |0=>iW.2 rfl
 |n+1=>by
  rw[hO,hO,su];exact⟨a,_,rfl,by simpa only[bw]using h,rfl,xm h n⟩
theorem Aq(d:cm P w ad β H ai){b:Nat}(c:H[b]?=some .hole){cells:Array c9}{T:db}{k:AK}{ak cap:Nat}{a:List AV}{e:List (List c9)}{rest:List c9}(f:k≠ .frozen)(m:¬dA k a)
 (n:Row P w ad β H ak a e)(g:aV (aL H) a)(hc:cells.toList=e.flatten++rest)(o:cells.size=cap*ak)(l:a.length<=cap)(j:k=.exact->cap=a.length)(p:k=.bytes->T=Gl.u8):
 cj P ai ad w β H ad {w with heap:=w.heap.push (.cells cells T)} (β.at b w.heap.size cap) (H.set b (.arr k 0 ak a))/\
 aA P {w with heap:=w.heap.push (.cells cells T)} ad (β.at b w.heap.size cap) (H.set b (.arr k 0 ak a)) (.sl b 0 ak 0 a.length) (.slice (some ⟨w.heap.size,0,none⟩) a.length cap):=by
 have aN:=AB (β:=β) c (.arr k 0 ak a) w.heap.size cap;have al:∀y,aL H y->aL (H.set b (.arr k 0 ak a)) y:=mS c (fun _ h=>h.elim);have i:=(hz.1 c).1;refine⟨uM (cap:=cap) d c (ob:=.cells cells T)
  (.inr ⟨cells,T,e,rest,by simp[Bd.at],bX.mono (fun _ x=>x) (fun k hk=>xy _ _ (d.cd k hk)) aN _ _ _ g n,hc,by simp[Bd.at,o],by simpa[Bd.at]using l,by simpa[Bd.at]using j,by
   unfold cQ;rw[if_neg (by simpa using f)];simp only[Bd.at,if_true];exact⟨fun h=>i0 _ (d.cd _ h),fun h=>i0 _ (d.fe _ h)⟩,(fun h=>(f h).elim),p⟩) (aV.mono al _ g),?_⟩
 simp only[aA,bY,b7];refine⟨rfl,fun r q hl=>?_⟩;unfold fp at hl;rw[hB i]at hl;cases hl;exact⟨o_,fun h=>(m h).elim,fun _=>by simp[Bd.at]⟩
theorem XI{T:db}{n sz:Nat}{z:PV}{a:Array (Nat×dl)}(C:o.op= .buildSlice T n a)(b:cV P T=some sz)(X:cO P (ez P T)=some z)(hs:bO P (aP z)=sz)(ae:n*sz<=1000000)
 (Q:mO P (hA n sz) (a.toList.map fun(i,x)=>(i,ρ x))):
 bA P o ρ base {v:=.sl base 0 sz 0 n,aX:=[.arr .exact 0 sz (jd (hA n (.p z)) (a.toList.map fun(i,x)=>(i,ρ x)))]}:=by
 obtain⟨e,ag,b⟩:=ly b;obtain⟨i,f,I,z2,z3,z4⟩:=qj X;rw[b.rN]at I;intro H w ad ai β t R Z _ N;have B:H[base]?=some .hole:=by simpa using N 0 s_
 have D:∀p∈a.toList,aA P w ad β H (ρ p.2) (t p.2)/\aE (aL H) (ρ p.2):=fun p d=>Z p.2 (by rw[C];exact NJ d);obtain⟨aa,ab⟩:=NH (ρ:=ρ) (ρc:=t) (parts:=a) (fun p d=>(D p d).1);have F:=z3 w ad;have s:f.cells.size=sz:=by have:=(oX F).1;simp at this;omega
 have r:=xm (β:=β) (H:=H) F n;have Y:f.cells.toList.length=sz:=by simpa using s
 rw[Y]at r;obtain⟨y,m⟩:∃c,c=(b1 (n*sz)).map (f.cells[·% f.cells.size]!):=⟨_,rfl⟩
 have O:y.toList=(hA n f.cells.toList).flatten:=by
  rw[m,<-s];exact Ah _ _ (by rw[s];exact b.pos)
 have U:bX P w ad β H (hA n sz) (hA n (.p z)) (hA n f.cells.toList):=by
  unfold Row at r;simpa using r
 obtain⟨u,J,g1,g2,g3⟩:=D8 (place:=fun i=>some (i*sz,sz)) (by
  intro i af j;rw[hG]at j
  split at j
  ·rename_i ac;simp at j;subst j;rw[hF,iz o_,hD]
  ·simp at j) aa ab Q U O
 have l:(jd (hA n (.p z)) (a.toList.map fun(i,x)=>(i,ρ x))).length=n:=by
  have:=(zZ g2).2.1;simpa using this
 have E:Row P w ad β H sz (jd (hA n (.p z)) (a.toList.map fun(i,x)=>(i,ρ x))) J:=by unfold Row;rw[l];exact g2
 have S:aV (aL H) (jd (hA n (.p z)) (a.toList.map fun(i,x)=>(i,ρ x))):=by
  refine Ew ?_ ?_
  ·rw[cB];intro v W;rw[hR W];simp[aE]
  ·intro p d;simp only[ik]at d;obtain⟨q,hq,rfl⟩:=d;exact(D q hq).2
 have M:u.size=n*sz:=by
  have A:=(gu E).2;rw[l,<-g3]at A;simpa using A
 have V:(dq t o).run P w=.ok (.value (.slice (some ⟨w.heap.size,0,none⟩) n n)) {w with heap:=w.heap.push (.cells u e)}:=by
  simp only[dq,C];have K:¬(n*sz>2^24):=o_
  have L:n*sz=0->(b1 (n*sz)).map ((#[]:Array c9)[·% (#[]:Array c9).size]!)=y:=by
   intro g;rw[m,g];simp
  refine xg ?_;simp only[Instr.buildSlice,g7,dk b.ig,g0,b.run,if_neg K]
  by_cases g:n*sz=0
  ·rw[if_pos g];simp only[g7,g8,g0,L g,g1,newRow,eo]
  ·rw[if_neg g];simp only[g7,g8,g0,uK I z2,<-m,g1,newRow,eo]
 obtain⟨q1,G⟩:=Aq (T:=e) (k:=.exact) R B s_ (by simp[dA,AK.gr]) E S (rest:=[]) (by simpa using g3) (by rw[M]) (by omega:_<=n) (fun _=>l.symm) (fun h=>by cases h);rw[l]at G;exact⟨_,_,_,_,ad,V,.inl rfl,q1,G,by
  simp only[aE,mH];exact⟨_,hB (hz.1 B).1,ix _⟩⟩
theorem XR{T:db}{lo q:dl}{sz:Nat}{z:PV}{l:Int}(t:o.op= .makeSlice T lo q)(a:cV P T=some sz)(W:cO P (ez P T)=some z)(hl:ρ lo= .p (.int .i64 l))(hc:ρ q= .p (.int .i64 l))
 (hs:bO P (aP z)=sz)(b:0<=l)(L:l<=cJ):bA P o ρ base {v:=.sl base 0 sz 0 l.toNat,aX:=[.arr .exact 0 sz (hA l.toNat (.p z))]}:=by
 obtain⟨e,d,a⟩:=ly a;obtain⟨i,g,D,z2,z3,z4⟩:=qj W;rw[a.rN]at D;intro H w ad ai β Y N B _ K;have u:H[base]?=some .hole:=by simpa using K 0 s_
 have r:=(B lo (by simp[t,gj])).1;have j:=(B q (by simp[t,gj])).1;rw[hl]at r;rw[hc]at j;simp only[aA,aC]at r j;have A:=z3 w ad;have m:g.cells.size=sz:=by have:=(oX A).1;simp at this;omega
 obtain⟨n,rfl⟩:=Int.eq_ofNat_of_zero_le b;have y:=xm (β:=β) (H:=H) A n;have X:g.cells.toList.length=sz:=by simpa using m
 rw[X]at y;obtain⟨f,s⟩:∃c,c=(b1 (n*sz)).map (g.cells[·% g.cells.size]!):=⟨_,rfl⟩
 have x:f.toList=(hA n g.cells.toList).flatten:=by
  rw[s,<-m];exact Ah _ _ (by rw[m];exact a.pos)
 have M:n<=1073741824:=by unfold cJ at L;omega
 have E:d.bytes*n<=32768*1073741824:=Nat.mul_le_mul (by have:=a.bytes;omega) M;have O:(dq Y o).run P w=.ok (.value (.slice (some ⟨w.heap.size,0,none⟩) n n)) {w with heap:=w.heap.push (.cells f e)}:=by
  simp only[dq,t,r,j];have V:IntKind.i64.wrap (n:Int)=n:=IntWalk.i64_in _ o_;have Q:¬((n:Int)<0):=o_
  have R:¬((d.bytes:Int)*n>2^48):=by
   intro J;have j:d.bytes*n<=35184372088832:=E;have Z:((d.bytes*n:Nat):Int)>281474976710656:=by rw[Int.natCast_mul];exact J
   omega
  have F:n*sz=0->(b1 (n*sz)).map ((#[]:Array c9)[·% (#[]:Array c9).size]!)=f:=by
   intro b;rw[s,b];simp
  have S:(typeInfo e).run P w=.ok d w:=by simp[typeInfo,a.info]
  have G:((decide ((n:Int)<0)||decide ((d.bytes:Int)*n>2^48))||decide ((n:Int)<0)||decide ((n:Int)>n))=false:=by
   simp only[Q,R,decide_false,Bool.or_false,Bool.false_or];simp
  refine xg ?_;simp only[Instr.makeSlice,g7,dk a.ig,g0,asInt,asIntOf,g8,S,V];rw[if_neg (by simpa using G)];simp only[g7,run_askRoom,g0,a.run,Int.toNat_natCast]
  by_cases b:n*sz=0
  ·rw[if_pos b];simp only[g7,g8,g0,F b,newRow,eo]
  ·rw[if_neg b];simp only[g7,g8,g0,uK D z2,<-s,newRow,eo]
 have I:f.size=n*sz:=by
  have:=congrArg hX x;simp at this;rw[this];simp[m]
 obtain⟨q1,C⟩:=Aq (T:=e) (k:=.exact) N u (cells:=f) (cap:=n) s_ (by simp[dA,AK.gr]) y (by
  rw[cB];intro v U;rw[hR U];simp[aE]) (rest:=[]) (by simpa using x) I s_ (fun _=>by simp) (fun h=>by cases h)
 simp only[List.length_replicate]at C;exact⟨_,_,_,_,ad,O,.inl rfl,q1,C,by
  simp only[aE,mH];exact⟨_,hB (hz.1 u).1,ix _⟩⟩
end
end Go.an
