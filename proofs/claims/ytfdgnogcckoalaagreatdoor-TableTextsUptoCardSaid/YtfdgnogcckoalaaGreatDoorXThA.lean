import Derived.Test.YtfdgnogcckoalaaGreatDoorXZ
import Derived.Calls
import Derived.Laws.Sem
import Derived.IntWalk
import Derived.Laws.Cells
import Derived.Laws.CopyRow
import Derived.Laws.Entries
import Derived.RangeFuncRecord
import Derived.RangeFuncNested
/- Parts of a proof. -/
set_option linter.unusedSimpArgs false
set_option linter.unusedVariables false
set_option linter.unusedSectionVars false
open Array renaming getElem?_eq_some_iff->bl, replicate->bo, getD_eq_getD_getElem?->bv, getElem?_toList->b0, range->b1, mem_toList_iff->b2, getElem?_setIfInBounds_ne->b3, mapM_eq_mapM_toList->b4, mem_of_getElem?->b5, getElem_toList->cb, getElem?_push->cc, foldl_toList->ce, toList_map->ck, toList->cv, getD->cx, ext'->cy
open BitVec renaming ofInt->cE
open Bool renaming false_eq_true->cN, and_eq_true->cR
open Go renaming Value->c6, Program->c7, TypeId->c8, World->c9, run_underlying->da, Operand->db, step_lone_go->dg, execOp->dk, FuncId->dl, Deferred->dp, Frame->dq, step_leave_returned->dz, TypeInfo->ea, Steps->eb, ResultVar->ec, Machine->ed, IntKind->ee, run_newObj->ei, setRow_other->ej, MapEntry->en, Calls->eo, setRow_size->eq, setRow_heap->et, BinOp->ew
open Go.Builtin renaming len_->ez
open Go.Deferred renaming ofValue->e6
open Go.Frame renaming round->e7, enter->e8
open Go.Instr renaming sureAddr->e9, indexAt->fb, yield->fl, fill->fm, build->fv
open Go.Op renaming operands->fZ, unary->gb, intArith->gc, intBits->ge
open Go.Program renaming cellsOf->gg, underlying->gi, underlyingId->gj
open Go.Region renaming wanted->gl, schedule->gm, binds->gt
open Go.Result renaming andThen_ok->gx
open Go.Sem renaming run_bind->gy, run_pure->g0, run->g7, run_map->g8
open Go.Steps renaming one->g9, trans->ha, refl->hb
open Go.Value renaming oneCell'->hd, cells->hg
open Go.World renaming putObj_heap_other->hh, size_alloc->hj, cell?->hm
open Go.stepG renaming exec->ho, apply->hp, oper->hr
open Iff renaming rfl->ht
open List renaming getElem?_eq_some_iff->hv, replicate->hw, getElem?_set_self->hz, getElem?_set_ne->hA, sum_replicate_nat->hB, getElem?_eq_getElem->hC, take_replicate->hD, getElem?_replicate->hE, append_assoc->hF, mem_of_getElem?->hG, mem_or_eq_of_mem_set->hH, getElem?_append_left->hK, length_eq_zero_iff->hL, map_cons->hM, replicate_succ->hN, getElem?_append_right->hO, flatten_cons->hP, eq_of_mem_replicate->hQ, length_cons->hR, mem_append->hS, length_append->hT, cons_append->hU, range'->hV, length->hW, getElem_append_right->hX, getElem_append_left->hZ, getElem?_cons_succ->h0, take_append_drop->h1, set_append_right->h2, set_cons_zero->h3, getElem?_map->h4, getElem_mem->h5, all_eq_true->h6, length_set->h7, append_nil->h8, mapM_cons->h9, drop_drop->ih, mem_map->ii, range->ik
open Nat renaming le_refl->ip, min_eq_left->ix, lt_irrefl->iz, add_sub_cancel_left->i0, le_trans->i1, add_zero->i2, lt_of_lt_of_le->i3, add_assoc->i4, succ_mul->i5, ne_of_lt->i6
open Ne renaming symm->i7
open Option renaming bind_some->i8, isSome_iff_exists->i9
open Option.some renaming injEq->jp, inj->js
open Prod renaming snd->j1, fst->j2
namespace Go.aw
set_option linter.unusedSectionVars false
inductive PV where
 |undef
 |bool (b:Bool)
 |int (k:ee) (n:Int)
 |str (s:List Nat)
 |dE
 |cq (t:PV)
 |aK
 |bE (full:Bool) (es:List PV)
 |seq (es:List PV)
 |fx
 |eS (es:List (PV×PV))
 |func (f:dl) (first ib:List PV)
 |gW
 |fP
 |st (u:c8) (fs:List PV)
 |aE (vs:List PV)
 deriving Inhabited
inductive AV where
 |p (v:PV)
 |ptr (b:Nat) (path:List (c8×Nat))
 |b6 (b an ai i:Nat) (path:List (c8×Nat))
 |sl (b an ai off len:Nat)
 |map (b:Nat)
 |func (f:dl) (first ib:List AV)
 |st (u:c8) (fs:List AV)
 |aE (vs:List AV)
 deriving Inhabited
inductive AK where|exact|grow|frozen|bytes
 deriving DecidableEq
def AK.gr:AK->Bool
 | .grow| .bytes=>true
 |_=>false
structure fo where
 st:LoopState
 pending:Option Code
 n:Nat
 params:List Tmp
 assign:Code
 body:Code
 env:List (Nat×AV)
inductive Obj where
 |hole
 |dead
 |box (fz:Bool) (t:AV)
 |arr (k:AK) (an ai:Nat) (es:List AV)
 |map (fz:Bool) (es:List (PV×PV))
 |cT (ks:List PV) (vs:List AV)
 |dx (s:List Nat) (pos:Nat)
 |loop (L:fo)
 deriving Inhabited
abbrev Heap:=List Obj
abbrev Env:=List (Nat×AV)
structure St where
 env:Env
 heap:Heap
def aO(e:Env)(t:Nat):AV:=
 match e with
 |[]=>.p .undef
 |(k,v)::r=>if t=k then v else aO r t
inductive ju where|bad|leaf|agg (u:c8)
 deriving DecidableEq
def aL:PV->ju
 | .undef| .aE _=>.bad
 | .st u _=>.agg u
 |_=>.leaf
def ad:AV->ju
 | .p v=>aL v
 | .aE _=>.bad
 | .st u _=>.agg u
 |_=>.leaf
def cA:PV->List PV
 | .st _ fs=>fs
 |_=>[]
section tables
variable(P:c7)
def dF(u:c8):Option (List Nat):=
 match(P.info? u).map (fun i:ea=>i.desc)with
 |some (.struct fs)=>
  let l:=fs.toList.map fun f=>P.cellsOf f.type
  if l.all (0<·)&&l.sum==P.cellsOf u&&(fs.toList.zipIdx.all fun(f,i)=>f.offset==(l.take i).sum)then some l else none
 |some (.array n e)=>if 0<P.cellsOf e&&n*P.cellsOf e==P.cellsOf u then some (hw n (P.cellsOf e))else none
 |_=>none
def kindOf(T:c8):ju:=
 match P.underlying T with
 |some (.struct _)|some (.array _ _)=>
  if(dF P (P.underlyingId T)).isSome&&P.cellsOf T==P.cellsOf (P.underlyingId T)then .agg (P.underlyingId T)else .bad
 |some _=>if P.cellsOf T==1 then .leaf else .bad
 |none=>.bad
def bB:ju->Nat
 | .bad=>0
 | .leaf=>1
 | .agg u=>P.cellsOf u
def jy(u:c8):List c8:=
 match(P.info? u).map (fun i:ea=>i.desc)with
 |some (.struct fs)=>fs.toList.map (·.type)
 |some (.array n e)=>hw n e
 |_=>[]
end tables
def ofConst:c6->PV
 | .bool b=>.bool b
 | .int k n=>.int k n
 | .string s=>.str (s.data.toList.map (·.toNat))
 | .pointer none=>.dE
 | .slice none 0 0=>.aK
 | .map none=>.fx
 | .nilFunc=>.gW
 | .nilIface=>.fP
 |_=>.undef
def oK(P:c7)(a:c8->List c6->Option PV):List c8->List Nat->List c6->Option (List PV)
 |[],[],[]=>some []
 |T::b,s::c,cs=>
  if(cs.take s).length=s then
   match a T (cs.take s),oK P a b c (cs.drop s)with
   |some v,some vs=>if bB P (aL v)=s then some (v::vs)else none
   |_,_=>none
  else none
 |_,_,_=>none
def sQ(P:c7):Nat->c8->List c6->Option PV
 |0,_,_=>none
 |n+1,T,cs=>
  match kindOf P T with
  | .leaf=>match cs with
   |[c]=>match ofConst c with
    | .undef=>none
    |v=>some v
   |_=>none
  | .agg u=>match dF P u with
   |some l=>
    match oK P (sQ P n) (jy P u) l cs with
    |some fs=>some (.st u fs)
    |none=>none
   |none=>none
  | .bad=>none
def yY:c6->ju->Bool
 | .agg _,.agg _=>true
 | .agg _,_=>false
 |_,.agg _=>false
 |_,_=>true
def cG(P:c7)(T:c8):Option PV:=
 match(P.info? T).bind (·.zero)with
 |some z=>if yY z (kindOf P T)then sQ P 40 T z.cells.toList else none
 |none=>none
section relation
variable(P:c7)(w:c9)(aa:Nat->Prop)
def gJ(ak off:Nat)(cs:List c6):Prop:=∀i(h:i<cs.length),w.cell? ⟨ak,off+i,none⟩=some cs[i]
mutual
def aV:PV->List c6->Prop
 | .undef,_| .aE _,_=>False
 | .bool b,cs=>cs=[.bool b]
 | .int k n,cs=>cs=[.int k n]
 | .str s,cs=>∃bs:ByteArray,cs=[.string bs]/\s=bs.data.toList.map (·.toNat)
 | .dE,cs=>cs=[.pointer none]
 | .cq t,cs=>∃ak off ts,aV t ts/\aa ak/\gJ w ak off ts/\cs=[.pointer (some ⟨ak,off,none⟩)]
 | .aK,cs=>cs=[.slice none 0 0]
 | .bE full es,cs=>∃ak off cap ai a,bc (hw es.length ai) es a/\(es≠[]->aa ak)/\gJ w ak off a.flatten/\
  (full=true->cap=es.length)/\es.length<=cap/\∃sp,(sp=none\/cap=0)/\cs=[.slice (some ⟨ak,off,sp⟩) es.length cap]
 | .seq es,cs=>(es=[]/\cs=[.slice none 0 0])\/∃ak off cap ai a,bc (hw es.length ai) es a/\(es≠[]->aa ak)/\gJ w ak off a.flatten/\
  es.length<=cap/\∃sp,(sp=none\/cap=0)/\cs=[.slice (some ⟨ak,off,sp⟩) es.length cap]
 | .fx,cs=>cs=[.map none]
 | .eS es,cs=>∃r h j,aa r/\w.heap[r]?=some (.map h j)/\cz es h.toList/\cs=[.map (some r)]
 | .func f first ib,cs=>∃i g,bf first i/\bf ib g/\cs=[.func (.func f) i.toArray g.toArray]
 | .gW,cs=>cs=[.nilFunc]
 | .fP,cs=>cs=[.nilIface]
 | .st u fs,cs=>∃l a,dF P u=some l/\bc l fs a/\cs=a.flatten
def bc:List Nat->List PV->List (List c6)->Prop
 |[],[],a=>a=[]
 |n::p,v::vs,a=>∃c cs,a=c::cs/\aV v c/\c.length=n/\bc p vs cs
 |_,_,_=>False
def aA:PV->c6->Prop
 | .undef,_=>True
 | .aE vs,v=>∃d,bf vs d/\v=.tuple d.toArray
 | .st u fs,v=>∃l a,dF P u=some l/\bc l fs a/\v=.agg a.flatten.toArray
 | .bool b,v=>v=.bool b
 | .int k n,v=>v=.int k n
 | .str s,v=>∃bs:ByteArray,v=.string bs/\s=bs.data.toList.map (·.toNat)
 | .dE,v=>v=.pointer none
 | .cq t,v=>∃ak off ts,aV t ts/\aa ak/\gJ w ak off ts/\v=.pointer (some ⟨ak,off,none⟩)
 | .aK,v=>v=.slice none 0 0
 | .bE full es,v=>∃ak off cap ai a,bc (hw es.length ai) es a/\(es≠[]->aa ak)/\gJ w ak off a.flatten/\
  (full=true->cap=es.length)/\es.length<=cap/\∃sp,(sp=none\/cap=0)/\v=.slice (some ⟨ak,off,sp⟩) es.length cap
 | .seq es,v=>(es=[]/\v= .slice none 0 0)\/∃ak off cap ai a,bc (hw es.length ai) es a/\(es≠[]->aa ak)/\gJ w ak off a.flatten/\
  es.length<=cap/\∃sp,(sp=none\/cap=0)/\v=.slice (some ⟨ak,off,sp⟩) es.length cap
 | .fx,v=>v=.map none
 | .eS es,v=>∃r h j,aa r/\w.heap[r]?=some (.map h j)/\cz es h.toList/\v=.map (some r)
 | .func f first ib,v=>∃i g,bf first i/\bf ib g/\v=.func (.func f) i.toArray g.toArray
 | .gW,v=>v=.nilFunc
 | .fP,v=>v=.nilIface
def bf:List PV->List c6->Prop
 |[],d=>d=[]
 |v::vs,d=>∃y o,d=y::o/\aA v y/\bf vs o
def cz:List (PV×PV)->List en->Prop
 |[],es=>es=[]
 |(k,v)::r,es=>∃e m,es=e::m/\aA k e.key/\aA v e.val/\cz r m
end
end relation
class Gl where
 g:Nat->PV
 u8:c8
 raw:Nat->Option (Array c6)
 bx:c8->Option c8
 tz:Nat->Bool
def jn[Gl](T:c8)(s:ju):Bool:=match s with
 | .agg u=>match Gl.bx u with
  |some a=>Nat.beq T a
  |none=>true
 |_=>true
structure lL[Gl](P:c7)(w:c9)(aa:Nat->Prop):Prop where
 val:∀g,aA P w aa (Gl.g g) (.pointer (some ⟨g,0,none⟩))
 raw:∀g cs,Gl.raw g=some cs->aa g/\∃T,w.heap[g]?=some (.cells cs T (0,0))
 tz:∀g,Gl.tz g=true->aa g/\∃te pe T,w.heap[g]?=some (.cells #[.iface te pe] T (0,0))
end Go.aw
namespace Go.aw
variable[Gl]
structure Bd where
 ak:Nat->Nat
 cap:Nat->Nat
def gd(P:c7):List (c8×Nat)->Option Nat
 |[]=>some 0
 |(u,i)::r=>
  match dF P u,gd P r with
  |some l,some o=>if i<l.length then some ((l.take i).sum+o)else none
  |_,_=>none
def Obj.tS:Obj->Prop
 | .map _ _| .cT _ _=>True
 |_=>False
section
variable(P:c7)(w:c9)(aa:Nat->Prop)(β:Bd)(H:Heap)
def mr(b:Nat):Prop:=∃fz t,H[b]?=some (.box fz t)
def dT(b an ai:Nat)(k:AK)(a:List AV):Prop:=H[b]?=some (.arr k an ai a)
def dc(k:AK)(a:List AV):Prop:=k.gr=true/\a=[]
def nG(b:Nat):Prop:=∃o,H[b]?=some o/\o.tS
def mu(b:Nat):Prop:=(∃s pos,H[b]?=some (.dx s pos))
def gK(b:Nat):Prop:=(∃L,H[b]?=some (.loop L))
def bP:AV->c6->Prop
 | .ptr b path,v=>∃ak off o,v=.pointer (some ⟨ak,off,none⟩)/\gd P path=some o/\(mr H b\/mu H b->ak=β.ak b/\off=o)
 | .b6 b an ai i path,v=>∃ak off o,v=.pointer (some ⟨ak,off,none⟩)/\gd P path=some o/\∀k a,dT H b an ai k a->¬dc k a->ak=β.ak b/\off=i*ai+o
 | .sl b an ai off len,v=>∀k a,dT H b an ai k a->
  off+len<=a.length/\(dc k a->v=.slice none 0 0)/\(¬dc k a->v=.slice (some ⟨β.ak b,off*ai,none⟩) len (β.cap b-off))
 | .map b,v=>(nG H b->v=.map (some (β.ak b)))/\(gK H b->v=.func (.yield (β.ak b)) #[] #[])
 |_,_=>False
def bH(v:AV)(x:c6):Prop:=x.oneCell'=true/\bP P β H v x
mutual
def bg:AV->List c6->Prop
 | .p t,cs=>aV P w aa t cs
 | .st u fs,cs=>∃l a,dF P u=some l/\bG l fs a/\cs=a.flatten
 | .func f first ib,cs=>∃e d,bh first e/\bh ib d/\cs=[.func (.func f) e.toArray d.toArray]
 | .aE _,_=>False
 | .ptr b path,cs=>∃v,cs=[v]/\bH P β H (.ptr b path) v
 | .b6 b an ai i path,cs=>∃v,cs=[v]/\bH P β H (.b6 b an ai i path) v
 | .sl b an ai off len,cs=>∃v,cs=[v]/\bH P β H (.sl b an ai off len) v
 | .map b,cs=>∃v,cs=[v]/\bH P β H (.map b) v
def bG:List Nat->List AV->List (List c6)->Prop
 |[],[],a=>a=[]
 |n::h,v::vs,a=>∃c cs,a=c::cs/\bg v c/\c.length=n/\bG h vs cs
 |_,_,_=>False
def ar:AV->c6->Prop
 | .p t,v=>aA P w aa t v
 | .st u fs,v=>∃l a,dF P u=some l/\bG l fs a/\v=.agg a.flatten.toArray
 | .func f first ib,v=>∃e d,bh first e/\bh ib d/\v=.func (.func f) e.toArray d.toArray
 | .aE vs,v=>∃xs,bh vs xs/\v=.tuple xs.toArray
 | .ptr b path,v=>bH P β H (.ptr b path) v
 | .b6 b an ai i path,v=>bH P β H (.b6 b an ai i path) v
 | .sl b an ai off len,v=>bH P β H (.sl b an ai off len) v
 | .map b,v=>bH P β H (.map b) v
def bh:List AV->List c6->Prop
 |[],xs=>xs=[]
 |v::vs,xs=>∃y g,xs=y::g/\ar v y/\bh vs g
end
mutual
def aB(n:Nat×Nat->Prop):AV->Prop
 | .p _=>True
 | .ptr b _| .map b=>n (b,0)
 | .b6 b an _ _ _| .sl b an _ _ _=>n (b,an)
 | .func _ first ib=>aR n first/\aR n ib
 | .st _ fs=>aR n fs
 | .aE vs=>aR n vs
def aR(n:Nat×Nat->Prop):List AV->Prop
 |[]=>True
 |v::vs=>aB n v/\aR n vs
end
def Obj.has:Obj->Nat->Prop
 | .hole,_=>False
 | .arr _ an _ _,v=>v<=an
 |_,_=>True
def aH(H:Heap)(x:Nat×Nat):Prop:=∃o,H[x.1]?=some o/\o.has x.2
def AV.rj:AV->Prop
 | .p _=>True
 |_=>False
def Obj.refs(n:Nat×Nat->Prop):Obj->Prop
 | .box _ t=>aB n t
 | .arr _ _ _ es=>aR n es
 | .cT _ vs=>aR n vs
 | .loop L=>∀x,aB n (aO L.env x)
 |_=>True
def Obj.live:Obj->Prop
 | .hole| .dead=>False
 | .arr k _ _ es=>¬dc k es
 |_=>True
variable(ag:Nat->Prop)
def cw(fz:Bool)(b:Nat):Prop:=if fz then aa (β.ak b)else¬aa (β.ak b)/\¬ag (β.ak b)
def ft(b:Nat):Obj->Prop
 | .hole| .dead=>True
 | .box fz t=>∃cs T,w.heap[β.ak b]?=some (.cells cs T (0,0))/\bg P w aa β H t cs.toList/\cw aa β ag fz b/\(fz=true->t.rj)/\jn T (ad t)=true
 | .arr k _ver ai es=>dc k es\/
  ∃cs T d f,w.heap[β.ak b]?=some (.cells cs T (0,0))/\bG P w aa β H (hw es.length ai) es d/\cs.toList=d.flatten++f/\
   cs.size=β.cap b*ai/\es.length<=β.cap b/\(k=.exact->β.cap b=es.length)/\cw aa β ag (k== .frozen) b/\(k=.frozen->∀e∈es,e.rj)/\(k=.bytes->T=Gl.u8)
 | .map fz es=>∃a c,w.heap[β.ak b]?=some (.map a c)/\cz P w aa es a.toList/\cw aa β ag fz b
 | .cT ks vs=>∃a c,w.heap[β.ak b]?=some (.map a c)/\bf P w aa ks (a.toList.map (·.key))/\bh P w aa β H vs (a.toList.map (·.val))/\cw aa β ag false b
 | .dx s pos=>∃bs:ByteArray,w.heap[β.ak b]?=some (.stringIter bs pos)/\s=bs.data.toList.map (·.toNat)/\cw aa β ag false b
 | .loop L=>∃tmps defers fn,w.heap[β.ak b]?=some (.loop {state:=L.st,pending:=L.pending,fn,tmps,params:=L.params.toArray,assign:=L.assign,body:=L.body,defers})/\tmps.size=L.n/\
  (∀x,ar P w aa β H (aO L.env x) (tmps.getD x undef))/\cw aa β ag false b
structure bX:Prop where
 cJ:∀b o,H[b]?=some o->ft P w aa β H ag b o
 inj:∀b b' o o',H[b]?=some o->H[b']?=some o'->o.live->o'.live->¬aa (β.ak b)->β.ak b=β.ak b'->b=b'
 refs:∀(b:Nat)(o:Obj),H[b]?=some o->o.refs (aH H)
 bR:∀k,aa k->k<w.heap.size
 eE:∀k,ag k->k<w.heap.size
 ja:lL P w aa
end
structure Ext(ag aa:Nat->Prop)(w w':c9):Prop where
 size:w.heap.size<=w'.heap.size
 same:∀k,ag k\/aa k->w'.heap[k]?=w.heap[k]?
 io:w'.os=w.os/\w'.output=w.output
structure cg(β:Bd)(H:Heap)(aI:Bd)(H':Heap):Prop where
 box:∀b,aH H (b,0)->mr H' b->mr H b/\aI.ak b=β.ak b
 it:∀b,aH H (b,0)->mu H' b->mu H b/\aI.ak b=β.ak b
 map:∀b,aH H (b,0)->nG H' b->nG H b/\aI.ak b=β.ak b
 arr:∀b an ai k es,aH H (b,an)->dT H' b an ai k es->∃k0 gE,dT H b an ai k0 gE/\gE.length<=es.length/\(dc k es↔dc k0 gE)/\(¬dc k es->aI.ak b=β.ak b/\aI.cap b=β.cap b)
 loop:∀b,aH H (b,0)->gK H' b->gK H b/\aI.ak b=β.ak b
theorem cg.refl(β:Bd)(H:Heap):cg β H β H:=
 ⟨fun _ _ h=>⟨h,rfl⟩,fun _ _ h=>⟨h,rfl⟩,fun _ _ h=>⟨h,rfl⟩,fun _ _ _ k a _ h=>⟨k,a,h,ip _,ht,fun _=>⟨rfl,rfl⟩⟩,fun _ _ h=>⟨h,rfl⟩⟩
theorem Ext.refl(ag aa:Nat->Prop)(w:c9):Ext ag aa w w:=⟨ip _,fun _ _=>rfl,rfl,rfl⟩
section mono
variable{P:c7}{w w':c9}{aa aD:Nat->Prop}
theorem Vm{ak off:Nat}(h:w'.heap[ak]?=w.heap[ak]?):w'.cell? ⟨ak,off,none⟩=w.cell? ⟨ak,off,none⟩:=by
 simp[hm,h]
theorem gJ.same{ak off:Nat}{cs:List c6}(h:w'.heap[ak]?=w.heap[ak]?)(hc:gJ w ak off cs):gJ w' ak off cs:=
 fun i hi=>(Vm h).trans (hc i hi)
theorem ub{n:List Nat}{a:List (List c6)}(h:bc P w aa n [] a):a=[]:=by
 cases n<;>simp[bc]at h;exact h
variable(hI:∀k,aa k->aD k)(hs:∀k,aa k->w'.heap[k]?=w.heap[k]?)
include hI hs
mutual
theorem aV.mono:∀(v:PV)(cs:List c6),aV P w aa v cs->aV P w' aD v cs
 | .undef,_,h| .aE _,_,h=>by simp[aV]at h
 | .bool _,_,h| .int _ _,_,h| .str _,_,h| .dE,_,h| .aK,_,h| .fx,_,h| .gW,_,h| .fP,_,h=>by simpa[aV]using h
 | .cq t,cs,h=>by
  simp only[aV]at h⊢;obtain⟨ak,off,ts,a,b,d,j⟩:=h;exact⟨ak,off,ts,aV.mono t ts a,hI _ b,d.same (hs _ b),j⟩
 | .bE full o,cs,h=>by
  simp only[aV]at h⊢;obtain⟨ak,off,cap,ai,g,a,b,d,j⟩:=h;refine⟨ak,off,cap,ai,g,bc.mono _ o g a,fun m=>hI _ (b m),?_,j⟩
  by_cases m:o=[]
  ·subst m;have:=ub a;subst this;intro i hi;simp at hi
  ·exact d.same (hs _ (b m))
 | .seq o,cs,h=>by
  simp only[aV]at h⊢;rcases h with h|⟨ak,off,cap,ai,g,a,b,d,j⟩
  ·exact .inl h
  refine .inr ⟨ak,off,cap,ai,g,bc.mono _ o g a,fun m=>hI _ (b m),?_,j⟩
  by_cases m:o=[]
  ·subst m;have:=ub a;subst this;intro i hi;simp at hi
  ·exact d.same (hs _ (b m))
 | .eS o,cs,h=>by
  simp only[aV]at h⊢;obtain⟨r,p,clock,a,b,d,j⟩:=h;exact⟨r,p,clock,hI _ a,(hs _ a).trans b,cz.mono o _ d,j⟩
 | .func f first ib,cs,h=>by
  simp only[aV]at h⊢;obtain⟨z,s,a,b,d⟩:=h;exact⟨z,s,bf.mono first z a,bf.mono ib s b,d⟩
 | .st u fs,cs,h=>by
  simp only[aV]at h⊢;obtain⟨l,g,a,b,d⟩:=h;exact⟨l,g,a,bc.mono l fs g b,d⟩
theorem bc.mono:∀(l:List Nat)(vs:List PV)(g:List (List c6)),bc P w aa l vs g->bc P w' aD l vs g
 |[],[],_,h=>by simpa[bc]using h
 |[],_::_,_,h=>by simp[bc]at h
 |_::_,[],_,h=>by simp[bc]at h
 |n::B,v::vs,g,h=>by
  simp only[bc]at h⊢;obtain⟨c,cs,a,b,d,j⟩:=h;exact⟨c,cs,a,aV.mono v c b,d,bc.mono B vs cs j⟩
theorem aA.mono:∀(v:PV)(x:c6),aA P w aa v x->aA P w' aD v x
 | .undef,_,h=>by simp[aA]
 | .aE vs,x,h=>by
  simp only[aA]at h⊢;obtain⟨q,a,b⟩:=h;exact⟨q,bf.mono vs q a,b⟩
 | .bool _,_,h| .int _ _,_,h| .str _,_,h| .dE,_,h| .aK,_,h| .fx,_,h| .gW,_,h| .fP,_,h=>by simpa[aA]using h
 | .cq t,cs,h=>by
  simp only[aA]at h⊢;obtain⟨ak,off,ts,a,b,d,j⟩:=h;exact⟨ak,off,ts,aV.mono t ts a,hI _ b,d.same (hs _ b),j⟩
 | .bE full o,cs,h=>by
  simp only[aA]at h⊢;obtain⟨ak,off,cap,ai,g,a,b,d,j⟩:=h;refine⟨ak,off,cap,ai,g,bc.mono _ o g a,fun m=>hI _ (b m),?_,j⟩
  by_cases m:o=[]
  ·subst m;have:=ub a;subst this;intro i hi;simp at hi
  ·exact d.same (hs _ (b m))
 | .seq o,cs,h=>by
  simp only[aA]at h⊢;rcases h with h|⟨ak,off,cap,ai,g,a,b,d,j⟩
  ·exact .inl h
  refine .inr ⟨ak,off,cap,ai,g,bc.mono _ o g a,fun m=>hI _ (b m),?_,j⟩
  by_cases m:o=[]
  ·subst m;have:=ub a;subst this;intro i hi;simp at hi
  ·exact d.same (hs _ (b m))
 | .eS o,cs,h=>by
  simp only[aA]at h⊢;obtain⟨r,p,clock,a,b,d,j⟩:=h;exact⟨r,p,clock,hI _ a,(hs _ a).trans b,cz.mono o _ d,j⟩
 | .func f first ib,cs,h=>by
  simp only[aA]at h⊢;obtain⟨z,s,a,b,d⟩:=h;exact⟨z,s,bf.mono first z a,bf.mono ib s b,d⟩
 | .st u fs,cs,h=>by
  simp only[aA]at h⊢;obtain⟨l,g,a,b,d⟩:=h;exact⟨l,g,a,bc.mono l fs g b,d⟩
theorem bf.mono:∀(vs:List PV)(q:List c6),bf P w aa vs q->bf P w' aD vs q
 |[],_,h=>by simpa[bf]using h
 |v::vs,q,h=>by
  simp only[bf]at h⊢;obtain⟨y,A,a,b,d⟩:=h;exact⟨y,A,a,aA.mono v y b,bf.mono vs A d⟩
theorem cz.mono:∀(o:List (PV×PV))(p:List en),cz P w aa o p->cz P w' aD o p
 |[],_,h=>by simpa[cz]using h
 |(k,v)::r,p,h=>by
  simp only[cz]at h⊢;obtain⟨e,rest,a,b,d,j⟩:=h;exact⟨e,rest,a,aA.mono k _ b,aA.mono v _ d,cz.mono r rest j⟩
end
theorem lL.mono(h:lL P w aa):lL P w' aD:=⟨fun g=>aA.mono hI hs _ _ (h.val g),fun g cs c=>by
 obtain⟨a,T,b⟩:=h.raw g cs c;exact⟨hI _ a,T,(hs _ a).trans b⟩,fun g c=>by
 obtain⟨a,te,pe,T,b⟩:=h.tz g c;exact⟨hI _ a,te,pe,T,(hs _ a).trans b⟩⟩
variable{β aI:Bd}{H H':Heap}(aJ:cg β H aI H')
include aJ
omit hI hs in
theorem bP.mono:∀(v:AV)(x:c6),aB (aH H) v->bP P β H v x->bP P aI H' v x
 | .ptr b path,x,c,h=>by
  simp only[bP,aB]at*;obtain⟨ak,off,o,a,e,f⟩:=h;refine⟨ak,off,o,a,e,fun hl=>?_⟩;rcases hl with hl|hl
  ·obtain⟨k1,k2⟩:=aJ.box b c hl;rw[k2];exact f (.inl k1)
  ·obtain⟨k1,k2⟩:=aJ.it b c hl;rw[k2];exact f (.inr k1)
 | .b6 b an ai i path,x,c,h=>by
  simp only[bP,aB]at*;obtain⟨ak,off,o,g1,g2,g3⟩:=h;refine⟨ak,off,o,g1,g2,fun k j hl d=>?_⟩;obtain⟨k0,gE,a,e,f,g⟩:=aJ.arr b an ai k j c hl;rw[(g d).1];exact g3 k0 gE a (fun l=>d (f.2 l))
 | .sl b an ai off len,x,c,h=>by
  simp only[bP,aB]at*;intro k j hl;obtain⟨k0,gE,a,e,f,g⟩:=aJ.arr b an ai k j c hl;obtain⟨q,m,n⟩:=h k0 gE a;refine⟨o_,fun d=>m (f.1 d),fun d=>?_⟩;rw[(g d).1,(g d).2];exact n (fun l=>d (f.2 l))
 | .map b,x,c,h=>by
  simp only[bP,aB]at*;refine⟨fun hl=>?_,fun hl=>?_⟩
  ·obtain⟨a,e⟩:=aJ.map b c hl;rw[e];exact h.1 a
  ·obtain⟨a,e⟩:=aJ.loop b c hl;rw[e];exact h.2 a
 | .p _,_,_,h| .st _ _,_,_,h| .func _ _ _,_,_,h| .aE _,_,_,h=>by simp[bP]at h
omit hI hs in
theorem bH.mono(v:AV)(x:c6)(a:aB (aH H) v)(h:bH P β H v x):bH P aI H' v x:=⟨h.1,bP.mono aJ v x a h.2⟩
mutual
theorem bg.mono:∀(v:AV)(cs:List c6),aB (aH H) v->bg P w aa β H v cs->bg P w' aD aI H' v cs
 | .p t,cs,_,h=>by simp only[bg]at h⊢;exact aV.mono hI hs t cs h
 | .st u fs,cs,a,h=>by
  simp only[bg,aB]at*;obtain⟨l,j,d,e,g⟩:=h;exact⟨l,j,d,bG.mono l fs j a e,g⟩
 | .func f first ib,cs,a,h=>by
  simp only[bg,aB]at*;obtain⟨m,k,d,e,g⟩:=h;exact⟨m,k,bh.mono first m a.1 d,bh.mono ib k a.2 e,g⟩
 | .aE _,_,_,h=>by simp[bg]at h
 | .ptr b path,cs,a,h=>by
  simp only[bg]at*;obtain⟨v,d,e⟩:=h;exact⟨v,d,bH.mono aJ _ _ a e⟩
 | .b6 b an ai i path,cs,a,h=>by
  simp only[bg]at*;obtain⟨v,d,e⟩:=h;exact⟨v,d,bH.mono aJ _ _ a e⟩
 | .sl b an ai off len,cs,a,h=>by
  simp only[bg]at*;obtain⟨v,d,e⟩:=h;exact⟨v,d,bH.mono aJ _ _ a e⟩
 | .map b,cs,a,h=>by
  simp only[bg]at*;obtain⟨v,d,e⟩:=h;exact⟨v,d,bH.mono aJ _ _ a e⟩
theorem bG.mono:∀(l:List Nat)(vs:List AV)(j:List (List c6)),aR (aH H) vs->bG P w aa β H l vs j->bG P w' aD aI H' l vs j
 |[],[],_,_,h=>by simpa[bG]using h
 |[],_::_,_,_,h=>by simp[bG]at h
 |_::_,[],_,_,h=>by simp[bG]at h
 |n::r,v::vs,j,a,h=>by
  simp only[bG,aR]at*;obtain⟨c,cs,d,e,g,q⟩:=h;exact⟨c,cs,d,bg.mono v c a.1 e,g,bG.mono r vs cs a.2 q⟩
theorem ar.mono:∀(v:AV)(x:c6),aB (aH H) v->ar P w aa β H v x->ar P w' aD aI H' v x
 | .p t,cs,_,h=>by simp only[ar]at h⊢;exact aA.mono hI hs t cs h
 | .st u fs,cs,a,h=>by
  simp only[ar,aB]at*;obtain⟨l,j,d,e,g⟩:=h;exact⟨l,j,d,bG.mono l fs j a e,g⟩
 | .func f first ib,cs,a,h=>by
  simp only[ar,aB]at*;obtain⟨m,k,d,e,g⟩:=h;exact⟨m,k,bh.mono first m a.1 d,bh.mono ib k a.2 e,g⟩
 | .aE vs,cs,a,h=>by
  simp only[ar,aB]at*;obtain⟨xs,d,e⟩:=h;exact⟨xs,bh.mono vs xs a d,e⟩
 | .ptr b path,cs,a,h=>by simp only[ar]at*;exact bH.mono aJ _ _ a h
 | .b6 b an ai i path,cs,a,h=>by simp only[ar]at*;exact bH.mono aJ _ _ a h
 | .sl b an ai off len,cs,a,h=>by simp only[ar]at*;exact bH.mono aJ _ _ a h
 | .map b,cs,a,h=>by simp only[ar]at*;exact bH.mono aJ _ _ a h
theorem bh.mono:∀(vs:List AV)(xs:List c6),aR (aH H) vs->bh P w aa β H vs xs->bh P w' aD aI H' vs xs
 |[],_,_,h=>by simpa[bh]using h
 |v::vs,xs,a,h=>by
  simp only[bh,aR]at*;obtain⟨y,o,d,e,g⟩:=h;exact⟨y,o,d,ar.mono v y a.1 e,bh.mono vs o a.2 g⟩
end
end mono
def eH:List AV->Option (List PV)
 |[]=>some []
 | .p v::r=>match eH r with
  |some l=>some (v::l)
  |none=>none
 |_::_=>none
def gV(u:c8)(fs:List AV):AV:=
 match eH fs with
 |some l=>.p (.st u l)
 |none=>.st u fs
def kJ:PV->List (c8×Nat)->Option PV
 |t,[]=>some t
 |t,(u,i)::r=>if aL t=.agg u then(match(cA t)[i]? with
  |some f=>kJ f r
  |none=>none)else none
def eL:AV->List (c8×Nat)->Option AV
 |t,[]=>some t
 | .p t,(u,i)::r=>match kJ t ((u,i)::r)with
  |some s=>some (.p s)
  |none=>none
 | .st u' fs,(u,i)::r=>if u'=u then(match fs[i]? with
  |some f=>eL f r
  |none=>none)else none
 |_,_=>none
def fQ(t:AV)(b:List (c8×Nat))(x:AV):Option AV:=
 match b with
 |[]=>some x
 |(u,i)::r=>
  match t with
  | .p t=>if aL t=.agg u then(match(cA t)[i]? with
   |some f=>(match fQ (.p f) r x with
    |some a=>some (gV u (((cA t).map .p).set i a))
    |none=>none)
   |none=>none)else none
  | .st u' fs=>if u'=u then(match fs[i]? with
   |some f=>(match fQ f r x with
    |some a=>some (gV u (fs.set i a))
    |none=>none)
   |none=>none)else none
  |_=>none
section
variable{P:c7}{w:c9}{aa:Nat->Prop}{β:Bd}{H:Heap}
theorem ud:∀{l:List Nat}{vs:List PV}{a:List (List c6)},bc P w aa l vs a->a.map (·.length)=l/\vs.length=l.length/\a.length=l.length
 |[],[],_,h=>by simp[bc]at h;subst h;simp
 |[],_::_,_,h=>by simp[bc]at h
 |_::_,[],_,h=>by simp[bc]at h
 |n::f,v::vs,a,h=>by
  simp only[bc]at h;obtain⟨c,cs,rfl,e,b,d⟩:=h;have:=ud d;simp[b,this]
theorem wV:∀{l:List Nat}{vs:List AV}{a:List (List c6)},bG P w aa β H l vs a->a.map (·.length)=l/\vs.length=l.length/\a.length=l.length
 |[],[],_,h=>by simp[bG]at h;subst h;simp
 |[],_::_,_,h=>by simp[bG]at h
 |_::_,[],_,h=>by simp[bG]at h
 |n::f,v::vs,a,h=>by
  simp only[bG]at h;obtain⟨c,cs,rfl,e,b,d⟩:=h;have:=wV d;simp[b,this]
theorem KH{u:c8}{l:List Nat}(h:dF P u=some l):l.sum=P.cellsOf u/\∀n∈l,0<n:=by
 unfold dF at h
 split at h
 ·dsimp only at h
  split at h
  ·rename_i hc;simp at hc;obtain⟨⟨b,c⟩,d⟩:=hc;simp at h;subst h;refine⟨c,?_⟩;intro n a;simp at a;obtain⟨f,hf,rfl⟩:=a;obtain⟨i,hi,rfl⟩:=Array.mem_iff_getElem.1 hf;exact b i hi
  ·simp at h
 ·split at h
  ·rename_i hc;simp at hc;simp at h;subst h;refine⟨by simp[hB,hc.2],?_⟩;intro n a;have:=hQ a;omega
  ·simp at h
 ·simp at h
theorem nj:∀{v:PV}{cs:List c6},aV P w aa v cs->cs.length=bB P (aL v)/\aL v≠.bad:=by
 intro v cs h;cases v<;>simp only[aV]at h
 case st u fs=>
  obtain⟨l,c,a,b,rfl⟩:=h;have:=ud b;simp[aL,bB,this.1,(KH a).1]
 case str=>obtain⟨_,h,_⟩:=h;subst h;simp[aL,bB]
 case seq=>
  rcases h with⟨_,rfl⟩|⟨_,_,_,_,_,_,_,_,_,_,_,rfl⟩<;>simp[aL,bB]
 all_goals first
  |(subst h;simp[aL,bB])
  |(obtain⟨_,_,_,_,_,_,rfl⟩:=h;simp[aL,bB])
  |(obtain⟨_,_,_,_,_,rfl⟩:=h;simp[aL,bB])
  |(obtain⟨_,_,_,_,_,_,_,_,_,_,_,_,rfl⟩:=h;simp[aL,bB])
  |(obtain⟨_,_,_,_,_,_,_,rfl⟩:=h;simp[aL,bB])
  |(obtain⟨_,_,_,_,rfl⟩:=h;simp[aL,bB])
  |(obtain⟨_,h,_⟩:=h;subst h;simp[aL,bB])
  |exact h.elim
theorem nt{v:AV}{cs:List c6}(h:bg P w aa β H v cs):cs.length=bB P (ad v)/\ad v≠.bad:=by
 cases v<;>simp only[bg]at h
 case p t=>exact nj h
 case st u fs=>
  obtain⟨l,c,a,b,rfl⟩:=h;have:=wV b;simp[ad,bB,this.1,(KH a).1]
 all_goals first
  |(obtain⟨_,rfl,_⟩:=h;simp[ad,bB])
  |(obtain⟨_,_,_,_,rfl⟩:=h;simp[ad,bB])
theorem su{v:PV}(hs:aL v=.leaf)(cs:List c6):aV P w aa v cs↔∃c,cs=[c]/\aA P w aa v c:=by
 cases v<;>simp[aL]at hs<;>simp only[aV,aA]
 case bool|int|dE|aK|fx|gW|fP=>exact⟨fun h=>⟨_,h,rfl⟩,fun⟨c,g,i⟩=>by rw[g,i]⟩
 case str s=>exact⟨fun⟨bs,g,i⟩=>⟨_,g,bs,rfl,i⟩,fun⟨c,g,bs,i,j⟩=>⟨bs,by rw[g,i],j⟩⟩
 case cq t=>exact⟨fun⟨a,b,c,g,i,j,k⟩=>⟨_,k,a,b,c,g,i,j,rfl⟩,fun⟨v,g,a,b,c,i,j,k,l⟩=>⟨a,b,c,i,j,k,by rw[g,l]⟩⟩
 case bE f es=>exact⟨fun⟨a,b,c,d,e,g,i,j,k,l,sp,n,m⟩=>⟨_,m,a,b,c,d,e,g,i,j,k,l,sp,n,rfl⟩,fun⟨v,h,a,b,c,d,e,g,i,j,k,l,sp,n,m⟩=>⟨a,b,c,d,e,g,i,j,k,l,sp,n,by rw[h,m]⟩⟩
 case seq es=>
  constructor
  ·rintro(⟨g,i⟩|⟨a,b,c,d,e,g,i,j,l,sp,n,m⟩)
   ·exact⟨_,i,.inl ⟨g,rfl⟩⟩
   ·exact⟨_,m,.inr ⟨a,b,c,d,e,g,i,j,l,sp,n,rfl⟩⟩
  ·rintro⟨v,h,(⟨g,i⟩|⟨a,b,c,d,e,g,i,j,l,sp,n,m⟩)⟩
   ·exact .inl ⟨g,by rw[h,i]⟩
   ·exact .inr ⟨a,b,c,d,e,g,i,j,l,sp,n,by rw[h,m]⟩
 case eS es=>exact⟨fun⟨a,b,c,g,i,j,k⟩=>⟨_,k,a,b,c,g,i,j,rfl⟩,fun⟨v,h,a,b,c,g,i,j,k⟩=>⟨a,b,c,g,i,j,by rw[h,k]⟩⟩
 case func f x y=>exact⟨fun⟨a,b,g,i,j⟩=>⟨_,j,a,b,g,i,rfl⟩,fun⟨v,h,a,b,g,i,j⟩=>⟨a,b,g,i,by rw[h,j]⟩⟩
theorem uV{v:PV}{u:c8}(hs:aL v=.agg u)(cs:List c6):aV P w aa v cs↔aA P w aa v (.agg cs.toArray):=by
 cases v<;>simp[aL]at hs;subst hs;simp only[aV,aA];constructor
 ·rintro⟨l,a,b,c,rfl⟩;exact⟨l,a,b,c,rfl⟩
 ·rintro⟨l,a,b,c,d⟩;refine⟨l,a,b,c,?_⟩;injection d with d;simpa using congrArg cv d
theorem BE{v:AV}(hs:ad v=.leaf)(cs:List c6):bg P w aa β H v cs↔∃c,cs=[c]/\ar P w aa β H v c:=by
 cases v<;>simp[ad]at hs<;>simp only[bg,ar]
 case p t=>exact su hs cs
 case func f x y=>exact⟨fun⟨a,b,d,e,g⟩=>⟨_,g,a,b,d,e,rfl⟩,fun⟨v,h,a,b,d,e,g⟩=>⟨a,b,d,e,by rw[h,g]⟩⟩
theorem LI{v:AV}{u:c8}(hs:ad v=.agg u)(cs:List c6):bg P w aa β H v cs↔ar P w aa β H v (.agg cs.toArray):=by
 cases v<;>simp[ad]at hs
 case p t=>simp only[bg,ar];exact uV hs cs
 case st u' fs=>
  subst hs;simp only[bg,ar];constructor
  ·rintro⟨l,a,b,c,rfl⟩;exact⟨l,a,b,c,rfl⟩
  ·rintro⟨l,a,b,c,d⟩;refine⟨l,a,b,c,?_⟩;injection d with d;simpa using congrArg cv d
theorem xq{v:AV}{x:c6}(h:ar P w aa β H v x)(hs:ad v≠.bad):bg P w aa β H v x.cells.toList:=by
 cases a:ad v with
 |bad=>exact absurd a hs
 |leaf=>
  rw[BE a];refine⟨x,?_,h⟩;cases v<;>simp[ad]at a<;>simp only[ar]at h
  case p t=>
   cases t<;>simp[aL]at a<;>simp only[aA]at h
   case bool|int|dE|aK|fx|gW|fP=>subst h;rfl
   case str=>obtain⟨_,rfl,_⟩:=h;rfl
   case cq=>obtain⟨_,_,_,_,_,_,rfl⟩:=h;rfl
   case bE=>obtain⟨_,_,_,_,_,_,_,_,_,_,_,_,rfl⟩:=h;rfl
   case seq=>rcases h with⟨_,rfl⟩|⟨_,_,_,_,_,_,_,_,_,_,_,rfl⟩<;>rfl
   case eS=>obtain⟨_,_,_,_,_,_,rfl⟩:=h;rfl
   case func=>obtain⟨_,_,_,_,rfl⟩:=h;rfl
  case func=>obtain⟨_,_,_,_,rfl⟩:=h;rfl
  all_goals (have b:=h.1;cases x<;>first|rfl|(simp[hd]at b))
 |agg u=>
  cases v<;>simp[ad]at a
  case p t=>
   cases t<;>simp[aL]at a;simp only[ar,aA]at h;obtain⟨l,c,b,d,rfl⟩:=h;simp only[bg,aV];exact⟨l,c,b,d,by simp[hg]⟩
  case st u' fs=>
   simp only[ar]at h;obtain⟨l,c,b,d,rfl⟩:=h;simp only[bg];exact⟨l,c,b,d,by simp[hg]⟩
end
mutual
def Wk:PV->PV->Prop
 | .undef,v=>v=.undef
 | .bool b,v=>v=.bool b
 | .int k n,v=>v=.int k n
 | .str s,v=>v=.str s
 | .dE,v=>v=.dE
 | .fx,v=>v=.fx
 | .gW,v=>v=.gW
 | .fP,v=>v=.fP
 | .aK,v=>v=.aK\/v=.seq []
 | .cq t,v=>match v with
  | .cq h=>Wk t h
  |_=>False
 | .bE f es,v=>match v with
  | .bE g fs=>(g=true->f=true)/\bu es fs
  | .seq fs=>bu es fs
  |_=>False
 | .seq es,v=>match v with
  | .seq fs=>bu es fs
  |_=>False
 | .eS es,v=>match v with
  | .eS fs=>kN es fs
  |_=>False
 | .func f a b,v=>match v with
  | .func g c d=>f=g/\bu a c/\bu b d
  |_=>False
 | .st u es,v=>match v with
  | .st u' fs=>u=u'/\bu es fs
  |_=>False
 | .aE es,v=>match v with
  | .aE fs=>bu es fs
  |_=>False
def bu:List PV->List PV->Prop
 |[],fs=>fs=[]
 |v::vs,fs=>match fs with
  |f::fs=>Wk v f/\bu vs fs
  |[]=>False
def kN:List (PV×PV)->List (PV×PV)->Prop
 |[],fs=>fs=[]
 |(k,v)::vs,fs=>match fs with
  |(e,f)::fs=>k=e/\Wk v f/\kN vs fs
  |[]=>False
end
mutual
theorem Wk.refl:∀v,Wk v v
 | .undef| .bool _| .int _ _| .str _| .dE| .fx| .gW| .fP=>by simp[Wk]
 | .aK=>by simp[Wk]
 | .cq t=>by simp only[Wk];exact Wk.refl t
 | .bE f c=>by simp only[Wk];exact⟨id,bu.refl c⟩
 | .seq c=>by simp only[Wk];exact bu.refl c
 | .eS c=>by simp only[Wk];exact kN.refl c
 | .func f a b=>by simp only[Wk];exact⟨trivial,bu.refl a,bu.refl b⟩
 | .st u c=>by simp only[Wk];exact⟨trivial,bu.refl c⟩
 | .aE c=>by simp only[Wk];exact bu.refl c
theorem bu.refl:∀vs,bu vs vs
 |[]=>by simp[bu]
 |v::vs=>by simp only[bu];exact⟨Wk.refl v,bu.refl vs⟩
theorem kN.refl:∀c,kN c c
 |[]=>by simp[kN]
 |(k,v)::vs=>by simp only[kN];exact⟨trivial,Wk.refl v,kN.refl vs⟩
end
theorem bu.length:∀{es fs:List PV},bu es fs->fs.length=es.length
 |[],fs,h=>by simp only[bu]at h;subst h;rfl
 |v::vs,fs,h=>by
  cases fs with
  |nil=>simp[bu]at h
  |cons f fs=>simp only[bu]at h;simp[bu.length h.2]
theorem bu.oO{a fs:List PV}(h:bu a fs):fs=[]↔a=[]:=by
 have:=h.length;rw[<-hL,<-hL,this]
theorem Wk.aL:∀{v v':PV},Wk v v'->aw.aL v'=aw.aL v
 | .undef,v',h| .bool _,v',h| .int _ _,v',h| .str _,v',h| .dE,v',h| .fx,v',h| .gW,v',h| .fP,v',h=>by simp only[Wk]at h;subst h;rfl
 | .aK,v',h=>by simp only[Wk]at h;rcases h with rfl|rfl<;>rfl
 | .cq _,v',h| .bE _ _,v',h| .seq _,v',h| .eS _,v',h| .func _ _ _,v',h| .aE _,v',h=>by cases v'<;>simp only[Wk]at h<;>rfl
 | .st _ _,v',h=>by
  cases v'<;>simp only[Wk]at h;simp[aw.aL,h.1]
section
variable{P:c7}{w:c9}{aa:Nat->Prop}
mutual
theorem aV.cZ:∀(v v':PV)(cs:List c6),Wk v v'->aV P w aa v cs->aV P w aa v' cs
 | .undef,v',cs,h,hc| .bool _,v',cs,h,hc| .int _ _,v',cs,h,hc| .str _,v',cs,h,hc| .dE,v',cs,h,hc| .fx,v',cs,h,hc| .gW,v',cs,h,hc| .fP,v',cs,h,hc=>by simp only[Wk]at h;subst h;exact hc
 | .aK,v',cs,h,hc=>by
  simp only[Wk]at h;rcases h with rfl|rfl
  ·exact hc
  ·simp only[aV]at hc⊢;exact .inl ⟨trivial,hc⟩
 | .cq t,v',cs,h,hc=>by
  cases v'<;>simp only[Wk]at h;simp only[aV]at hc⊢;obtain⟨ak,off,ts,d,i⟩:=hc;exact⟨ak,off,ts,aV.cZ _ _ _ h d,i⟩
 | .bE f o,v',cs,h,hc=>by
  cases v' with
  |bE g fs=>
   simp only[Wk]at h;simp only[aV]at hc⊢;obtain⟨ak,off,cap,ai,m,d,i,j,p,q,s⟩:=hc;have hl:=h.2.length;rw[hl];exact⟨ak,off,cap,ai,m,bc.cZ _ _ _ _ h.2 d,fun z=>i (fun e=>z (h.2.oO.2 e)),j,fun e=>p (h.1 e),q,s⟩
  |seq fs=>
   simp only[Wk]at h;simp only[aV]at hc⊢;obtain⟨ak,off,cap,ai,m,d,i,j,p,q,s⟩:=hc;have hl:=h.length;rw[hl];exact .inr ⟨ak,off,cap,ai,m,bc.cZ _ _ _ _ h d,fun z=>i (fun e=>z (h.oO.2 e)),j,q,s⟩
  |_=>simp only[Wk]at h
 | .seq o,v',cs,h,hc=>by
  cases v'<;>simp only[Wk]at h;simp only[aV]at hc⊢;rcases hc with⟨d,i⟩|⟨ak,off,cap,ai,m,d,i,j,q,s⟩
  ·exact .inl ⟨h.oO.2 d,i⟩
  ·have hl:=h.length;rw[hl];exact .inr ⟨ak,off,cap,ai,m,bc.cZ _ _ _ _ h d,fun z=>i (fun e=>z (h.oO.2 e)),j,q,s⟩
 | .eS o,v',cs,h,hc=>by
  cases v'<;>simp only[Wk]at h;simp only[aV]at hc⊢;obtain⟨r,B,clock,d,i,j,p⟩:=hc;exact⟨r,B,clock,d,i,cz.cZ _ _ _ h j,p⟩
 | .func f a b,v',cs,h,hc=>by
  cases v'<;>simp only[Wk]at h;obtain⟨rfl,E,F⟩:=h;simp only[aV]at hc⊢;obtain⟨D,C,d,i,j⟩:=hc;exact⟨D,C,bf.cZ _ _ _ E d,bf.cZ _ _ _ F i,j⟩
 | .st u o,v',cs,h,hc=>by
  cases v'<;>simp only[Wk]at h;obtain⟨rfl,h⟩:=h;simp only[aV]at hc⊢;obtain⟨l,m,d,i,j⟩:=hc;exact⟨l,m,d,bc.cZ _ _ _ _ h i,j⟩
 | .aE o,v',cs,h,hc=>by simp[aV]at hc
theorem bc.cZ:∀(l:List Nat)(o fs:List PV)(m:List (List c6)),bu o fs->bc P w aa l o m->bc P w aa l fs m
 |l,[],fs,m,h,hc=>by simp only[bu]at h;subst h;exact hc
 |l,v::vs,fs,m,h,hc=>by
  cases fs with
  |nil=>simp[bu]at h
  |cons f fs=>
   simp only[bu]at h;cases l with
   |nil=>simp[bc]at hc
   |cons n l=>
    simp only[bc]at hc⊢;obtain⟨c,cs,d,i,j,p⟩:=hc;exact⟨c,cs,d,aV.cZ _ _ _ h.1 i,j,bc.cZ _ _ _ _ h.2 p⟩
theorem aA.cZ:∀(v v':PV)(x:c6),Wk v v'->aA P w aa v x->aA P w aa v' x
 | .undef,v',cs,h,hc| .bool _,v',cs,h,hc| .int _ _,v',cs,h,hc| .str _,v',cs,h,hc| .dE,v',cs,h,hc| .fx,v',cs,h,hc| .gW,v',cs,h,hc| .fP,v',cs,h,hc=>by simp only[Wk]at h;subst h;exact hc
 | .aK,v',cs,h,hc=>by
  simp only[Wk]at h;rcases h with rfl|rfl
  ·exact hc
  ·simp only[aA]at hc⊢;exact .inl ⟨trivial,hc⟩
 | .cq t,v',cs,h,hc=>by
  cases v'<;>simp only[Wk]at h;simp only[aA]at hc⊢;obtain⟨ak,off,ts,d,i⟩:=hc;exact⟨ak,off,ts,aV.cZ _ _ _ h d,i⟩
 | .bE f o,v',cs,h,hc=>by
  cases v' with
  |bE g fs=>
   simp only[Wk]at h;simp only[aA]at hc⊢;obtain⟨ak,off,cap,ai,m,d,i,j,p,q,s⟩:=hc;have hl:=h.2.length;rw[hl];exact⟨ak,off,cap,ai,m,bc.cZ _ _ _ _ h.2 d,fun z=>i (fun e=>z (h.2.oO.2 e)),j,fun e=>p (h.1 e),q,s⟩
  |seq fs=>
   simp only[Wk]at h;simp only[aA]at hc⊢;obtain⟨ak,off,cap,ai,m,d,i,j,p,q,s⟩:=hc;have hl:=h.length;rw[hl];exact .inr ⟨ak,off,cap,ai,m,bc.cZ _ _ _ _ h d,fun z=>i (fun e=>z (h.oO.2 e)),j,q,s⟩
  |_=>simp only[Wk]at h
 | .seq o,v',cs,h,hc=>by
  cases v'<;>simp only[Wk]at h;simp only[aA]at hc⊢;rcases hc with⟨d,i⟩|⟨ak,off,cap,ai,m,d,i,j,q,s⟩
  ·exact .inl ⟨h.oO.2 d,i⟩
  ·have hl:=h.length;rw[hl];exact .inr ⟨ak,off,cap,ai,m,bc.cZ _ _ _ _ h d,fun z=>i (fun e=>z (h.oO.2 e)),j,q,s⟩
 | .eS o,v',cs,h,hc=>by
  cases v'<;>simp only[Wk]at h;simp only[aA]at hc⊢;obtain⟨r,B,clock,d,i,j,p⟩:=hc;exact⟨r,B,clock,d,i,cz.cZ _ _ _ h j,p⟩
 | .func f a b,v',cs,h,hc=>by
  cases v'<;>simp only[Wk]at h;obtain⟨rfl,E,F⟩:=h;simp only[aA]at hc⊢;obtain⟨D,C,d,i,j⟩:=hc;exact⟨D,C,bf.cZ _ _ _ E d,bf.cZ _ _ _ F i,j⟩
 | .st u o,v',cs,h,hc=>by
  cases v'<;>simp only[Wk]at h;obtain⟨rfl,h⟩:=h;simp only[aA]at hc⊢;obtain⟨l,m,d,i,j⟩:=hc;exact⟨l,m,d,bc.cZ _ _ _ _ h i,j⟩
 | .aE o,v',cs,h,hc=>by
  cases v'<;>simp only[Wk]at h;simp only[aA]at hc⊢;obtain⟨A,d,i⟩:=hc;exact⟨A,bf.cZ _ _ _ h d,i⟩
theorem bf.cZ:∀(o fs:List PV)(A:List c6),bu o fs->bf P w aa o A->bf P w aa fs A
 |[],fs,A,h,hc=>by simp only[bu]at h;subst h;exact hc
 |v::vs,fs,A,h,hc=>by
  cases fs with
  |nil=>simp[bu]at h
  |cons f fs=>
   simp only[bu]at h;simp only[bf]at hc⊢;obtain⟨y,G,d,i,j⟩:=hc;exact⟨y,G,d,aA.cZ _ _ _ h.1 i,bf.cZ _ _ _ h.2 j⟩
theorem cz.cZ:∀(o fs:List (PV×PV))(B:List en),kN o fs->cz P w aa o B->cz P w aa fs B
 |[],fs,A,h,hc=>by simp only[kN]at h;subst h;exact hc
 |(k,v)::vs,fs,A,h,hc=>by
  cases fs with
  |nil=>simp[kN]at h
  |cons f fs=>
   simp only[kN]at h;obtain⟨rfl,d,i⟩:=h;simp only[cz]at hc⊢;obtain⟨e,rest,e1,e2,e3,e4⟩:=hc;exact⟨e,rest,e1,e2,aA.cZ _ _ _ d e3,cz.cZ _ _ _ i e4⟩
end
end
section
variable{P:c7}{w:c9}{aa:Nat->Prop}{β:Bd}{H:Heap}
theorem lG:∀{fs:List AV}{l:List PV},eH fs=some l->fs=l.map .p
 |[],l,h=>by simp[eH]at h;subst h;rfl
 | .p v::r,l,h=>by
  simp only[eH]at h;cases a:eH r with
  |none=>simp[a]at h
  |some b=>simp[a]at h;subst h;simp[lG a]
 | .ptr ..::_,_,h| .b6 ..::_,_,h| .sl ..::_,_,h| .map ..::_,_,h| .func ..::_,_,h| .st ..::_,_,h| .aE ..::_,_,h=>by simp[eH]at h
theorem nr:∀{l:List Nat}{fs:List PV}{a:List (List c6)},bG P w aa β H l (fs.map .p) a↔bc P w aa l fs a
 |[],[],_=>by simp[bG,bc]
 |[],_::_,_=>by simp[bG,bc]
 |_::_,[],_=>by simp[bG,bc]
 |n::g,v::vs,a=>by
  simp only[hM,bG,bc,bg];constructor
  ·rintro⟨c,cs,b,d,e,f⟩;exact⟨c,cs,b,d,e,nr.1 f⟩
  ·rintro⟨c,cs,b,d,e,f⟩;exact⟨c,cs,b,d,e,nr.2 f⟩
theorem jB:∀{fs:List PV}{d:List c6},bh P w aa β H (fs.map .p) d↔bf P w aa fs d
 |[],_=>by simp[bh,bf]
 |v::vs,d=>by
  simp only[hM,bh,bf,ar];constructor
  ·rintro⟨y,e,a,b,c⟩;exact⟨y,e,a,b,jB.1 c⟩
  ·rintro⟨y,e,a,b,c⟩;exact⟨y,e,a,b,jB.2 c⟩
theorem Kz{u:c8}{fs:List AV}{cs:List c6}:bg P w aa β H (gV u fs) cs↔bg P w aa β H (.st u fs) cs:=by
 unfold gV;cases h:eH fs with
 |none=>rfl
 |some l=>have:=lG h;subst this;simp[bg,aV,nr]
theorem Wr{u:c8}{fs:List AV}{x:c6}:ar P w aa β H (gV u fs) x↔ar P w aa β H (.st u fs) x:=by
 unfold gV;cases h:eH fs with
 |none=>rfl
 |some l=>have:=lG h;subst this;simp[ar,aA,nr]
theorem iR(n:Nat×Nat->Prop):∀l:List PV,aR n (l.map .p)
 |[]=>by simp[aR]
 |v::l=>by simp only[hM,aR,aB,true_and];exact iR n l
theorem AA{n:Nat×Nat->Prop}{u:c8}{fs:List AV}(h:aR n fs):aB n (gV u fs):=by
 unfold gV;cases eH fs with
 |none=>exact h
 |some l=>simp[aB]
theorem cH{n:Nat×Nat->Prop}:∀{fs:List AV},aR n fs↔∀v∈fs,aB n v
 |[]=>by simp[aR]
 |v::vs=>by simp[aR,cH (fs:=vs)]
theorem sC:∀{l:List Nat}{fs:List AV}{d:List (List c6)}{i:Nat}{f:AV},bG P w aa β H l fs d->fs[i]?=some f->
 ∃pre c post,d.flatten=pre++c++post/\pre.length=(l.take i).sum/\i<l.length/\l[i]?=some c.length/\bg P w aa β H f c/\
  ∀b c',bg P w aa β H b c'->c'.length=c.length->∃a,a.flatten=pre++c'++post/\bG P w aa β H l (fs.set i b) a
 |[],[],_,i,f,_,hf=>by simp at hf
 |[],_::_,_,_,_,h,_=>by simp[bG]at h
 |_::_,[],_,_,_,h,_=>by simp[bG]at h
 |n::k,v::vs,d,0,f,h,hf=>by
  simp only[bG]at h;obtain⟨c,cs,rfl,g,e,j⟩:=h;simp at hf;subst hf;refine⟨[],c,cs.flatten,s_,s_,s_,by simp[e],g,?_⟩;intro b c' hc hl;exact⟨c'::cs,s_,by simp only[h3,bG];exact⟨c',cs,rfl,hc,o_,j⟩⟩
 |n::k,v::vs,d,i+1,f,h,hf=>by
  simp only[bG]at h;obtain⟨c,cs,rfl,g,e,j⟩:=h;simp at hf;obtain⟨pre,x,post,k1,k2,k3,k4,k5,k6⟩:=sC j hf;refine⟨c++pre,x,post,by simp[k1],by simp[k2,e],by simpa using k3,by simpa using k4,k5,?_⟩;intro b c' hc hl;obtain⟨a,e1,e2⟩:=k6 b c' hc hl;exact⟨c::a,by simp[e1],by simp only[List.set_cons_succ,bG];exact⟨c,a,rfl,g,e,e2⟩⟩
theorem JA{t:AV}{u:c8}{cs:List c6}(hs:ad t= .agg u)(h:bg P w aa β H t cs):
 ∃l fs a,dF P u=some l/\bG P w aa β H l fs a/\cs=a.flatten/\(∀c,t=.p c->fs=(cA c).map .p)/\(∀u' g,t=.st u' g->fs=g/\u'=u):=by
 cases t<;>simp[ad]at hs
 case p t=>
  cases t<;>simp[aL]at hs;subst hs;simp only[bg,aV]at h;obtain⟨l,a,d,e,f⟩:=h;exact⟨l,_,a,d,nr.2 e,f,fun c b=>by cases b;rfl,fun _ _ h=>by cases h⟩
 case st u' fs=>
  subst hs;simp only[bg]at h;obtain⟨l,a,d,e,f⟩:=h;exact⟨l,fs,a,d,e,f,(fun c b=>by cases b),(fun j i b=>by cases b;exact⟨rfl,rfl⟩)⟩
theorem yv{t:PV}{a:List (c8×Nat)}:eL (.p t) a=(kJ t a).map .p:=by
 cases a with
 |nil=>rfl
 |cons x r=>obtain⟨u,i⟩:=x;simp only[eL];cases kJ t ((u,i)::r)<;>rfl
theorem oN:∀{z:List (c8×Nat)}{t s:AV}{cs:List c6}{o:Nat},bg P w aa β H t cs->eL t z=some s->gd P z=some o->
 ∃n q post,cs=n++q++post/\n.length=o/\bg P w aa β H s q/\
  ∀x k a,fQ t z x=some a->bg P w aa β H x k->k.length=q.length->bg P w aa β H a (n++k++post)
 |[],t,s,cs,o,h,hs,d=>by
  simp[gd]at d;subst d;simp[eL]at hs;subst hs;refine⟨[],cs,[],s_,s_,h,?_⟩;intro x k a hx y _;simp[fQ]at hx;subst hx;simpa using y
 |(u,i)::r,t,s,cs,o,h,hs,d=>by
  simp only[gd]at d;cases m:dF P u with
  |none=>simp[m]at d
  |some l=>
   cases v:gd P r with
   |none=>simp[m,v]at d
   |some o'=>
    simp[m,v]at d;obtain⟨I,rfl⟩:=d
    have key:∃fs f,(∃j e,dF P u=some j/\bG P w aa β H j fs e/\cs=e.flatten)/\fs[i]?=some f/\eL f r=some s/\
     (∀x a,fQ t ((u,i)::r) x=some a->∃b,fQ f r x=some b/\a=gV u (fs.set i b)):=by
     cases t
     case p t=>
      rw[yv]at hs;simp only[kJ]at hs
      by_cases g:aL t=.agg u
      ·simp only[g,if_true]at hs;obtain⟨j,fs,e,k1,k2,k3,k4,_⟩:=JA (t:=.p t) (by simpa[ad]using g) h;have:=k4 t rfl;subst this;cases hf:(cA t)[i]? with
       |none=>simp[hf]at hs
       |some f=>
        simp only[hf]at hs;refine⟨_,.p f,⟨j,e,k1,k2,k3⟩,by simp[hf],by rw[yv];exact hs,?_⟩;intro x a hx;simp only[fQ,g,if_true,hf]at hx;cases hq:fQ (.p f) r x with
        |none=>simp[hq]at hx
        |some b=>simp[hq]at hx;exact⟨b,rfl,hx.symm⟩
      ·simp[g]at hs
     case st u' fs=>
      simp only[eL]at hs
      by_cases g:u'=u
      ·subst g;simp only[if_true]at hs;obtain⟨j,C,e,k1,k2,k3,_,k4⟩:=JA (t:=.st u' fs) rfl h;have:=(k4 _ _ rfl).1;subst this;cases hf:C[i]? with
       |none=>simp[hf]at hs
       |some f=>
        simp only[hf]at hs;refine⟨_,f,⟨j,e,k1,k2,k3⟩,hf,hs,?_⟩;intro x a hx;simp only[fQ,if_true,hf]at hx;cases hq:fQ f r x with
        |none=>simp[hq]at hx
        |some b=>simp[hq]at hx;exact⟨b,rfl,hx.symm⟩
      ·simp[g]at hs
     all_goals simp[eL]at hs
    obtain⟨fs,f,⟨j,e,k1,k2,k3⟩,hf,E,aG⟩:=key;rw[m]at k1;cases k1;obtain⟨n,c,post,e1,e2,e3,e4,e5,B⟩:=sC k2 hf;obtain⟨G,q,F,g1,g2,g3,g4⟩:=oN e5 E v;refine⟨n++G,q,F++post,by rw[k3,e1,g1];simp,by simp[e2,g2],g3,?_⟩;intro x k a hx y hl;obtain⟨b,D,rfl⟩:=aG x a hx;have aS:=g4 x k b D y hl;obtain⟨A,c1,c2⟩:=B b _ aS (by rw[g1];simp[hl]);rw[Kz];simp only[bg];exact⟨l,A,m,c2,by rw[c1];simp⟩
theorem xR{path:List (c8×Nat)}{t s:PV}{cs:List c6}{o:Nat}(h:aV P w aa t cs)(hs:kJ t path=some s)(f:gd P path=some o):
 ∃a b post,cs=a++b++post/\a.length=o/\aV P w aa s b:=by
 obtain⟨a,b,post,c,d,e,_⟩:=oN (β:=⟨id,id⟩) (H:=[]) (t:=.p t) (s:=.p s) (by simpa[bg]using h) (by rw[yv,hs];rfl) f;exact⟨a,b,post,c,d,by simpa[bg]using e⟩
theorem uz{n:Nat×Nat->Prop}:∀{a:List (c8×Nat)}{t s:AV},eL t a=some s->aB n t->aB n s
 |[],t,s,hs,h=>by simp[eL]at hs;subst hs;exact h
 |(u,i)::r,.p t,s,hs,h=>by
  rw[yv]at hs;cases hq:kJ t ((u,i)::r)with
  |none=>simp[hq]at hs
  |some q=>simp[hq]at hs;subst hs;simp[aB]
 |(u,i)::r,.st u' fs,s,hs,h=>by
  simp only[eL]at hs
  split at hs
  ·split at hs
   ·rename_i f hf;simp only[aB]at h;exact uz hs (cH.1 h f (hG hf))
   ·simp at hs
  ·simp at hs
 |_::_,.ptr ..,_,hs,_|_::_,.b6 ..,_,hs,_|_::_,.sl ..,_,hs,_|_::_,.map ..,_,hs,_|_::_,.func ..,_,hs,_|_::_,.aE ..,_,hs,_=>by simp[eL]at hs
theorem uC{n:Nat×Nat->Prop}:∀{e:List (c8×Nat)}{t b x:AV},fQ t e x=some b->aB n t->aB n x->aB n b
 |[],t,b,x,hs,h,hx=>by simp[fQ]at hs;subst hs;exact hx
 |(u,i)::r,.p t,b,x,hs,h,hx=>by
  simp only[fQ]at hs
  split at hs
  ·split at hs
   ·split at hs
    ·rename_i f hf d c;simp at hs;subst hs;refine AA (cH.2 ?_);intro v a;rcases hH a with a|rfl
     ·exact cH.1 (iR n _) v a
     ·exact uC c (by simp[aB]) hx
    ·simp at hs
   ·simp at hs
  ·simp at hs
 |(u,i)::r,.st u' fs,b,x,hs,h,hx=>by
  simp only[fQ]at hs
  split at hs
  ·split at hs
   ·split at hs
    ·rename_i _ f hf _ d c;simp at hs;subst hs;simp only[aB]at h;refine AA (cH.2 ?_);intro v a;rcases hH a with a|rfl
     ·exact cH.1 h v a
     ·exact uC c (cH.1 h f (hG hf)) hx
    ·simp at hs
   ·simp at hs
  ·simp at hs
 |_::_,.ptr ..,_,_,hs,_,_|_::_,.b6 ..,_,_,hs,_,_|_::_,.sl ..,_,_,hs,_,_|_::_,.map ..,_,_,hs,_,_|_::_,.func ..,_,_,hs,_,_|_::_,.aE ..,_,_,hs,_,_=>by simp[fQ]at hs
end
structure aU where
 v:AV
 aj:List (Nat×Obj):=[]
 aG:List (Nat×Obj):=[]
 aS:List Obj:=[]
def aX(H:Heap)(l:List (Nat×Obj)):Heap:=
 match l with
 |[]=>H
 |(b,o)::r=>aX (H.set b o) r
def put(dst:Option Tmp)(v:AV)(e:Env):Env:=
 match dst with
 |some d=>(d,v)::e
 |none=>e
def aU.app(e:aU)(dst:Option Tmp)(s:St):St:=⟨put dst e.v s.env,aX s.heap e.aG++e.aS⟩
def ev(e:Env):db->AV
 | .tmp t=>aO e t
 | .const v=>.p (ofConst v)
 | .global g=>.p (Gl.g g)
 | .func f=>.p (.func f [] [])
def gu(s:List Nat):ByteArray:=⟨(s.map UInt8.ofNat).toArray⟩
mutual
def iC:PV->PV->Option Bool
 | .bool a,.bool b=>some (a==b)
 | .int k a,.int c b=>if k=c then some (a==b)else none
 | .str a,.str b=>some (a==b)
 | .st u fs,.st u' gs=>if u=u' then vC fs gs else none
 |_,_=>none
def vC:List PV->List PV->Option Bool
 |[],[]=>some true
 |a::as,b::bs=>match iC a b with
  |some true=>vC as bs
  |some false=>some false
  |none=>none
 |_,_=>none
end
def ie(P:c7)(c:c8->PV->PV->Option Bool):List c8->List PV->List PV->Option Bool
 |[],[],[]=>some true
 |T::d,a::as,b::bs=>
  if kindOf P T=aL a/\kindOf P T=aL b then
   (match c T a b,ie P c d as bs with
   |some r,some s=>some (r&&s)
   |_,_=>none)
  else none
 |_,_,_=>none
def fu(P:c7):Nat->c8->PV->PV->Option Bool
 |0,_,_,_=>none
 |n+1,T,v,v'=>
  match P.underlying T,v,v' with
  |some .bool,.bool a,.bool b=>some (a==b)
  |some (.int _),.int k a,.int d b=>if k=d then some (a==b)else none
  |some .string,.str a,.str b=>some (a==b)
  |some (.struct fs),.st u xs,.st u' c=>
   if kindOf P T= .agg u/\u'=u/\P.stoodInHeld T=false/\fs.toList.all (fun f=>f.name != "_")=true then ie P (fu P n) (fs.toList.map (·.type)) xs c else none
  |some (.array m e),.st u xs,.st u' c=>
   if kindOf P T=.agg u/\u'=u/\(P.info? e).isSome=true then ie P (fu P n) (hw m e) xs c else none
  |_,_,_=>none
def nR(P:c7)(T:c8):Bool:=!P.eqGuardType P.depth T
def qm(P:c7)(T:c8):Bool:=match P.underlying T with|some .bool=>true|_=>false
def aGT(P:c7)(T:c8):Bool:=match P.underlying T with|some (.int _)=>true|_=>false
def iu(P:c7)(T:c8):Bool:=match P.underlying T with|some .string=>true|_=>false
inductive tO where|ptr|slice|map|func|iface
 deriving DecidableEq
def lX:db->Bool
 | .const _=>true
 |_=>false
def dA(P:c7)(T:c8)(c:Bool):AV->Option tO
 | .p .dE=>match P.underlying T with
  |some (.pointer _)=>some .ptr
  |_=>none
 | .p .aK=>match P.underlying T with
  |some (.slice _)=>some .slice
  |_=>none
 | .p .fx=>match P.underlying T with
  |some (.map _ _)=>some .map
  |_=>none
 | .p .gW=>match P.underlying T with
  |some (.func _ _ _)=>some .func
  |_=>none
 | .p .fP=>match c,P.underlying T with
  |true,some (.interface _)=>some .iface
  |_,_=>none
 |_=>none
def cV(H:Heap)(k:tO)(x:AV):Option Bool:=
 match k,x with
 | .ptr,.p .dE| .slice,.p .aK| .map,.p .fx| .func,.p .gW| .iface,.p .fP=>some true
 | .ptr,.p (.cq _)| .slice,.p (.bE _ _)| .map,.p (.eS _)| .func,.p (.func _ _ _)| .func,.func _ _ _=>some false
 | .ptr,.ptr b _=>match H[b]? with
  |some (.box _ _)=>some false
  |_=>none
 | .map,.map b=>match H[b]? with
  |some (.map _ _)=>some false
  |_=>none
 | .slice,.p (.seq (_::_))=>some false
 | .slice,.sl b an ai _ _=>match H[b]? with
  |some (.arr k c a es)=>if an=c/\ai=a then some (k.gr&&es.isEmpty)else none
  |_=>none
 |_,_=>none
def o7(op:ew)(k:ee)(a b:Int)(K:PV->Prop):Prop:=
 match op with
 | .add=>K (.int k (k.wrap (a+b)))
 | .sub=>K (.int k (k.wrap (a-b)))
 | .mul=>K (.int k (k.wrap (a*b)))
 | .quo=>b≠0/\K (.int k (k.wrap (a.tdiv b)))
 | .rem=>b≠0/\K (.int k (a.tmod b))
 | .and=>K (.int k (k.wrap (cE k.bits a&&&cE k.bits b).toNat))
 | .or=>K (.int k (k.wrap (cE k.bits a|||cE k.bits b).toNat))
 | .xor=>K (.int k (k.wrap (cE k.bits a^^^cE k.bits b).toNat))
 | .andNot=>K (.int k (k.wrap (cE k.bits a&&&~~~cE k.bits b).toNat))
 | .eql=>K (.bool (a==b))
 | .neq=>K (.bool (a !=b))
 | .lss=>K (.bool (decide (a<b)))
 | .leq=>K (.bool (decide (a<=b)))
 | .gtr=>K (.bool (decide (a>b)))
 | .geq=>K (.bool (decide (a>=b)))
 | .shl=>0<=b/\K (.int k (k.wrap (a*2^(min b.toNat k.bits))))
 | .shr=>0<=b/\K (.int k (a.fdiv (2^(min b.toNat k.bits))))
def jh:List Nat->List Nat->Bool
 |_,[]=>false
 |[],_::_=>true
 |a::x,b::y=>decide (a<b)||(a==b&&jh x y)
def o6(op:ew)(a b:List Nat)(K:PV->Prop):Prop:=
 match op with
 | .add=>a.length+b.length<9223372036854775808/\K (.str (a++b))
 | .eql=>K (.bool (a==b))
 | .neq=>K (.bool (!(a==b)))
 | .lss=>K (.bool (jh a b))
 | .leq=>K (.bool (jh a b||a==b))
 | .gtr=>K (.bool (!(jh a b||a==b)))
 | .geq=>K (.bool (!(jh a b)))
 |_=>False
def kj(P:c7)(op:ew)(T:c8)(c:Bool)(H:Heap)(x y:AV)(K:PV->Prop):Prop:=
 match x,y with
 | .p (.int k a),.p (.int d b)=>(k=d\/op=.shl\/op=.shr)/\o7 op k a b K
 | .p (.str a),.p (.str b)=>o6 op a b K
 | .p (.bool a),.p (.bool b)=>qm P T=true/\match op with
  | .eql=>K (.bool (a==b))
  | .neq=>K (.bool (!(a==b)))
  |_=>False
 | .p (.st u fs),.p (.st u' gs)=>nR P T=true/\(match fu P 9 T (.st u fs) (.st u' gs),op with
  |some r,.eql=>K (.bool r)
  |some r,.neq=>K (.bool !r)
  |_,_=>False)
 |x,y=>
  (match dA P T c y with
  |some k=>(match cV H k x,op with
   |some r,.eql=>K (.bool r)
   |some r,.neq=>K (.bool !r)
   |_,_=>False)
  |none=>False)
def cF:Nat:=1073741824
def gI(H:Heap):AV->Option (List AV)
 | .p .aK=>some []
 | .p (.bE _ es)=>some (es.map .p)
 | .p (.seq es)=>some (es.map .p)
 | .p (.str s)=>some (s.map fun c=>.p (.int .u8 (c:Nat)))
 | .sl b an ai off len=>match H[b]? with
  |some (.arr _ d a es)=>if an=d/\ai=a/\off+len<=es.length then some ((es.drop off).take len)else none
  |_=>none
 |_=>none
def dB(H:Heap):AV->List (Nat×Obj)
 | .sl b _ _ _ _| .ptr b _| .b6 b _ _ _ _| .map b=>match H[b]? with
  |some o=>[(b,o)]
  |none=>[]
 |_=>[]
def fc(P:c7)(ai:Nat):List AV->Prop
 |[]=>True
 |v::vs=>(ad v≠.bad/\bB P (ad v)=ai)/\fc P ai vs
def cQ(P:c7)(T:c8):Option Nat:=
 match P.underlying T with
 |some (.slice e)=>match P.info? e with
  |some i=>if i.bytes<32768/\0<i.size/\0<i.bytes then some i.size else none
  |none=>none
 |_=>none
def dU(P:c7)(T:c8):c8:=
 match P.underlying T with
 |some (.slice e)=>e
 |_=>0
def iy(P:c7)(X:c8):Bool:=
 match P.underlying X with
 |some (.int _)=>false
 |some _=>true
 |none=>false
def gk(P:c7)(T:c8):AK:=if dU P T=Gl.u8 then .bytes else .grow
def nq(P:c7)(T X:c8)(H:Heap)(s x:AV)(K:aU->Prop):Prop:=
 match cQ P T,gI H x with
 |some sz,some xs=>iy P X=true/\(cG P (dU P T)).isSome=true/\fc P sz xs/\
  (match s with
  | .p .aK=>if xs.isEmpty then K {v:=s,aj:=dB H x}else xs.length<=cF/\K {v:=.sl H.length 0 sz 0 xs.length,aj:=dB H x,aS:=[.arr (gk P T) 0 sz xs]}
  | .p (.bE full es)=>fc P sz (es.map .p)/\if xs.isEmpty then K {v:=s,aj:=dB H x}else full=true/\es.length+xs.length<=cF/\
   K {v:=.sl H.length 0 sz 0 (es.length+xs.length),aj:=dB H x,aS:=[.arr (gk P T) 0 sz (es.map .p++xs)]}
  | .sl b an ai off len=>match H[b]? with
   |some (.arr k c a es)=>an=c/\ai=a/\ai=sz/\off+len<=es.length/\
    if xs.isEmpty then K {v:=s,aj:=(b,.arr k c a es)::dB H x}
    else es.length+xs.length<=cF/\(match k with
     | .frozen=>False
     | .exact=>if off+len+xs.length<=es.length then
      K {v:=.sl b an ai off (len+xs.length),aj:=(b,.arr k c a es)::dB H x,aG:=[(b,.arr .exact an ai (es.take (off+len)++xs++es.drop (off+len+xs.length)))]}
      else K {v:=.sl H.length 0 sz 0 (len+xs.length),aj:=(b,.arr k c a es)::dB H x,aS:=[.arr (gk P T) 0 sz ((es.drop off).take len++xs)]}
     |_=>off=0/\(k=.bytes->dU P T=Gl.u8)/\K {v:=.sl b (an+1) ai 0 (len+xs.length),aj:=(b,.arr k c a es)::dB H x,aG:=[(b,.arr k (an+1) ai (es.take len++xs))]})
   |_=>False
  |_=>False)
 |_,_=>False
def gB(x:Option AV)(d:Nat)(K:Nat->Prop):Prop:=
 match x with
 |none=>K d
 |some (.p (.int _ i))=>0<=i/\K i.toNat
 |_=>False
def nB(P:c7)(T:c8)(H:Heap)(x:AV)(lo hi d:Option AV)(K:aU->Prop):Prop:=
 d.isNone/\match x with
 | .p (.str s)=>iu P T=true/\gB hi s.length fun h=>gB lo 0 fun l=>h<=s.length/\l<=h/\K {v:=.p (.str ((s.take h).drop l))}
 | .p .aK=>(cQ P T).isSome=true/\gB hi 0 fun h=>gB lo 0 fun l=>h<=0/\l<=h/\K {v:=x}
 | .p (.bE full es)=>gB hi es.length fun h=>gB lo 0 fun l=>h<=es.length/\l<=h/\
  (match cQ P T with
  |some sz=>fc P sz (es.map .p)/\K {v:=.p (.bE (full&&h==es.length) ((es.take h).drop l))}
  |none=>False)
 | .p (.seq es)=>gB hi es.length fun h=>gB lo 0 fun l=>h<=es.length/\l<=h/\
  (match cQ P T with
  |some sz=>fc P sz (es.map .p)/\K {v:=.p (.seq ((es.take h).drop l))}
  |none=>False)
 | .sl b an ai off len=>match H[b]? with
  |some (.arr k c a es)=>an=c/\ai=a/\cQ P T=some ai/\¬(k.gr=true/\es=[])/\off+len<=es.length/\
   gB hi len fun h=>gB lo 0 fun l=>off+h<=es.length/\l<=h/\
    (if l=0 then K {v:=.sl b an ai off h,aj:=[(b,.arr k c a es)]}
    else if l=h then K {v:=.p (.bE false []),aj:=[(b,.arr k c a es)]}
    else K {v:=.sl b an ai (off+l) (h-l),aj:=[(b,.arr k c a es)]})
  |_=>False
 |_=>False
def pT(P:c7)(T:c8)(H:Heap)(x:AV)(lo hi:Option AV)(m:AV)(K:aU->Prop):Prop:=
 match x with
 | .sl b an ai off len=>match H[b]? with
  |some (.arr k c a es)=>an=c/\ai=a/\(cQ P T).isSome=true/\¬(k.gr=true/\es=[])/\off+len<=es.length/\hi.isSome=true/\
   gB hi len fun h=>gB lo 0 fun l=>gB (some m) 0 fun m=>off+m<=es.length/\h<=m/\l<=h/\K {v:=.p .undef,aj:=[(b,.arr k c a es)]}
  |_=>False
 |_=>False
def po(P:c7)(T:c8)(x k:PV):Option Bool:=match x with
 | .st u fs=>match fu P 9 T (.st u fs) k,iC (.st u fs) k with
  |some a,some b=>bif a==b then some a else none
  |_,_=>none
 |x=>iC x k
def fT(P:c7)(T:c8):List (PV×PV)->PV->Option (Option PV)
 |[],_=>some none
 |(k,v)::r,x=>match po P T x k with
  |some true=>some (some v)
  |some false=>fT P T r x
  |none=>none
def lM(P:c7)(T:c8)(a:List (PV×PV))(x:PV):Option (Option PV):=match x with
 | .st u fs=>match fT P T a (.st u fs)with
  |some none=>some none
  |_=>none
 |x=>fT P T a x
def kS:PV->Bool
 | .st _ _=>false
 |_=>true
def jw(P:c7)(T:c8):List PV->List AV->PV->Option (Option AV)
 |[],[],_=>some none
 |k::ks,v::vs,x=>match po P T x k with
  |some true=>some (some v)
  |some false=>jw P T ks vs x
  |none=>none
 |_,_,_=>none
def oi:Obj->Option (List PV×List AV)
 | .map false es=>some (es.map (·.1),es.map fun e=>.p e.2)
 | .cT ks vs=>some (ks,vs)
 |_=>none
def gA:List (PV×PV)->PV->PV->List (PV×PV)
 |[],k,v=>[(k,v)]
 |(a,v')::r,k,v=>if iC k a=some true then(k,v)::r else(a,v')::gA r k v
def sG(P:c7)(T:c8):Bool:=match P.underlying T with
 |some (.int _)|some .string|some .bool=>true
 |_=>false
def eO(P:c7)(T:c8):PV->Bool
 | .int k _=>match P.underlying T with
  |some (.int a)=>decide (k=a)
  |_=>false
 | .str _=>iu P T
 | .st u fs=>match P.underlying T with
  |some (.struct cA)=>cA.toList.all (fun f=>f.name != "_" &&sG P f.type)&&(fu P 9 T (.st u fs) (.st u fs)).isSome
  |_=>false
 |_=>false
def jk(P:c7)(T:c8):Option (c8×c8):=
 match P.underlying T with
 |some (.map k e)=>some (k,e)
 |_=>none
def lenOf(H:Heap):AV->Option (Nat×List (Nat×Obj))
 | .p (.str s)=>some (s.length,[])
 | .p .aK| .p .fx=>some (0,[])
 | .p (.bE _ es)| .p (.seq es)=>some (es.length,[])
 | .p (.eS es)=>some (es.length,[])
 | .sl b an ai _off len=>match H[b]? with
  |some (.arr k c a es)=>if an=c/\ai=a then some (len,[(b,.arr k c a es)])else none
  |_=>none
 | .map b=>match H[b]? with
  |some (.map fz es)=>some (es.length,[(b,.map fz es)])
  |_=>none
 |_=>none
def gQ(P:c7)(T:c8):AV->Bool
 | .p (.str _)=>iu P T
 | .p .aK| .p (.bE _ _)| .p (.seq _)| .sl ..=>match P.underlying T with
  |some (.slice _)=>true
  |_=>false
 | .p .fx| .p (.eS _)| .map _=>match P.underlying T with
  |some (.map _ _)=>true
  |_=>false
 |_=>false
def y9(H:Heap):AV->Option (Nat×List (Nat×Obj))
 | .p .aK=>some (0,[])
 | .p (.bE true es)=>some (es.length,[])
 | .sl b an ai off _len=>match H[b]? with
  |some (.arr .exact c a es)=>if an=c/\ai=a/\off<=es.length then some (es.length-off,[(b,.arr .exact c a es)])else none
  |_=>none
 |_=>none
def bytesOf:List AV->Option (List Nat)
 |[]=>some []
 | .p (.int .u8 c)::r=>if 0<=c/\c<256 then match bytesOf r with
  |some l=>some (c.toNat::l)
  |none=>none
  else none
 |_=>none
def ptrTo(P:c7)(T:c8):Option c8:=
 match P.underlying T with
 |some (.pointer e)=>some e
 |_=>none
def lF(k:ee)(c:Bool):List AV->Int->Option Int
 |[],a=>some a
 | .p (.int d b)::r,a=>if k=d then lF k c r (if c then(if b>a then b else a)else(if b<a then b else a))else none
 |_,_=>none
def ir(a:List AV):List (Nat×AV)->List AV
 |[]=>a
 |(i,v)::r=>ir (a.set i v) r
def lE(P:c7)(l:List Nat):List (Nat×AV)->Prop
 |[]=>True
 |(i,v)::r=>(∃n,l[i]?=some n/\bB P (ad v)=n/\ad v≠.bad)/\lE P l r
def fD(H:Heap):List AV->Option (List PV×List (Nat×Obj)×List (Nat×Obj))
 |[]=>some ([],[],[])
 | .p v::r=>match fD H r with
  |some (a,aj,aG)=>some (v::a,aj,aG)
  |none=>none
 | .ptr b []::r=>match H[b]?,fD H r with
  |some (.box fz (.p t)),some (a,aj,aG)=>some (.cq t::a,(b,.box fz (.p t))::aj,(b,.box true (.p t))::aG)
  |_,_=>none
 |_=>none
def nM(P:c7)(T:c8)(H:Heap)(a:AV)(K:aU->Prop):Prop:=
 match a with
 | .ptr b path=>match H[b]? with
  |some (.box fz t)=>match eL t path with
   |some s=>kindOf P T=ad s/\K {v:=s,aj:=[(b,.box fz t)]}
   |none=>False
  |_=>False
 | .b6 b an ai i path=>match H[b]? with
  |some (.arr k d c es)=>an=d/\ai=c/\∃h:i<es.length,match eL (es[i]'h) path with
   |some s=>kindOf P T=ad s/\K {v:=s,aj:=[(b,.arr k d c es)]}
   |none=>False
  |_=>False
 | .p (.cq t)=>kindOf P T=aL t/\K {v:=.p t}
 |_=>False
def nA(P:c7)(T:c8)(H:Heap)(a x:AV)(K:aU->Prop):Prop:=
 kindOf P T=ad x/\ad x≠.bad/\match a with
 | .ptr b path=>match H[b]? with
  |some (.box false t)=>match eL t path,fQ t path x with
   |some s,some d=>ad s=ad x/\K {v:=.p (.aE []),aj:=[(b,.box false t)],aG:=[(b,.box false d)]}
   |_,_=>False
  |_=>False
 | .b6 b an ai i path=>match H[b]? with
  |some (.arr k e c es)=>an=e/\ai=c/\k≠.frozen/\∃h:i<es.length,match eL (es[i]'h) path,fQ (es[i]'h) path x with
   |some s,some d=>ad s=ad x/\K {v:=.p (.aE []),aj:=[(b,.arr k e c es)],aG:=[(b,.arr k e c (es.set i d))]}
   |_,_=>False
  |_=>False
 |_=>False
def mf(P:c7)(a:c8)(b:Nat)(key:PV)(x:AV)(o:Obj)(K:aU->Prop):Prop:=match oi o with
 |some (ks,vs)=>kS key=true/\jw P a ks vs key=some none/\K {v:=.p (.aE []),aj:=[(b,o)],aG:=[(b,.cT (ks++[key]) (vs++[x]))]}
 |none=>False
def fN(P:c7)(T:c8):Option (c8×Nat):=
 match kindOf P T,P.underlying T with
 | .agg u,some (.struct fs)=>some (u,fs.size)
 |_,_=>none
def gU(P:c7)(T:c8):Option (c8×Nat):=
 match kindOf P T,P.underlying T with
 | .agg u,some (.array n _)=>some (u,n)
 |_,_=>none
def ni(P:c7)(T:c8)(a:AV)(f:Nat)(K:aU->Prop):Prop:=
 match fN P T with
 |some (u,n)=>f<n/\(match a with
  | .ptr b path=>K {v:=.ptr b (path++[(u,f)])}
  | .b6 b an ai i path=>K {v:=.b6 b an ai i (path++[(u,f)])}
  | .p (.cq t)=>aL t=.agg u/\(match(cA t)[f]? with
   |some g=>K {v:=.p (.cq g)}
   |none=>False)
  |_=>False)
 |_=>False
def nh(P:c7)(T:c8)(H:Heap)(x i:AV)(K:aU->Prop):Prop:=
 match i with
 | .p (.int _ i)=>0<=i/\(match x with
  | .p (.bE _ es)=>∃h:i.toNat<es.length,cQ P T=some (bB P (aL (es[i.toNat]'h)))/\K {v:=.p (.cq (es[i.toNat]'h))}
  | .p (.seq es)=>∃h:i.toNat<es.length,cQ P T=some (bB P (aL (es[i.toNat]'h)))/\K {v:=.p (.cq (es[i.toNat]'h))}
  | .sl b an ai off len=>cQ P T=some ai/\i.toNat<len/\(match H[b]? with
   |some (.arr k c a es)=>an=c/\ai=a/\¬(k.gr=true/\es=[])/\K {v:=.b6 b an ai (off+i.toNat) [],aj:=[(b,.arr k c a es)]}
   |_=>False)
  | .ptr b path=>(match gU P T with
   |some (u,n)=>i.toNat<n/\K {v:=.ptr b (path++[(u,i.toNat)])}
   |_=>False)
  | .b6 b an ai j path=>(match gU P T with
   |some (u,n)=>i.toNat<n/\K {v:=.b6 b an ai j (path++[(u,i.toNat)])}
   |_=>False)
  | .p (.cq t)=>(match gU P T with
   |some (u,n)=>aL t=.agg u/\i.toNat<n/\(match(cA t)[i.toNat]? with
    |some g=>K {v:=.p (.cq g)}
    |none=>False)
   |_=>False)
  |_=>False)
 |_=>False
def fy(P:c7)(ah:dl->Bool)(o:Oper)(ρ:db->AV)(H:Heap)(K:aU->Prop):Prop:=
 match o.op with
 | .move x| .assign x=>K {v:=ρ x}
 | .pick c a b=>match ρ c with
  | .p (.bool t)=>K {v:=if t then ρ a else ρ b}
  |_=>False
 | .alloc T=>match cG P T with
  |some z=>kindOf P T=aL z/\aL z≠.bad/\jn T (aL z)=true/\K {v:=.ptr H.length [],aS:=[.box false (.p z)]}
  |none=>False
 | .box T x=>kindOf P T=ad (ρ x)/\ad (ρ x)≠.bad/\jn T (ad (ρ x))=true/\K {v:=.ptr H.length [],aS:=[.box false (ρ x)]}
 | .build T parts=>match kindOf P T,cG P T with
  | .agg u,some z=>(match dF P u with
   |some l=>aL z=.agg u/\lE P l (parts.toList.map fun(i,x)=>(i,ρ x))/\K {v:=gV u (ir ((cA z).map .p) (parts.toList.map fun(i,x)=>(i,ρ x)))}
   |none=>False)
  |_,_=>False
 | .buildSlice T n parts=>match cQ P T,cG P (dU P T)with
  |some sz,some z=>bB P (aL z)=sz/\n*sz<=1000000/\lE P (hw n sz) (parts.toList.map fun(i,x)=>(i,ρ x))/\
   K {v:=.sl H.length 0 sz 0 n,aS:=[.arr .exact 0 sz (ir (hw n (.p z)) (parts.toList.map fun(i,x)=>(i,ρ x)))]}
  |_,_=>False
 | .load T a=>nM P T H (ρ a) K
 | .store T a x=>nA P T H (ρ a) (ρ x) K
 | .binOp op T x y _=>kj P op T (lX y) H (ρ x) (ρ y) (fun v=>K {v:=.p v,aj:=dB H (ρ x)})
 | .unOp op _ x=>match op,ρ x with
  | .not,.p (.bool b)=>K {v:=.p (.bool (!b))}
  | .neg,.p (.int k n)=>K {v:=.p (.int k (k.wrap (0-n)))}
  | .xor,.p (.int k n)=>K {v:=.p (.int k (k.wrap (cE k.bits (if k.signed then -1 else k.max)^^^cE k.bits n).toNat))}
  |_,_=>False
 | .convert S D x=>match P.underlying S,P.underlying D,ρ x with
  |some _,some (.int k),.p (.int _ n)=>K {v:=.p (.int k (k.wrap n))}
  |some _,some .string,.p (.str s)=>K {v:=.p (.str s)}
  |some (.slice e),some .string,.sl b an ai off len=>(match H[b]? with
   |some (.arr k q j es)=>an=q/\ai=j/\ai=1/\P.underlying e=some (.int .u8)/\0<len/\off+len<=es.length/\(match bytesOf ((es.drop off).take len)with
    |some l=>K {v:=.p (.str l),aj:=[(b,.arr k q j es)]}
    |none=>False)
   |_=>False)
  |_,_,_=>False
 | .extract t i=>match ρ t with
  | .p (.aE vs)=>(match vs[i]? with
   |some v=>K {v:=.p v}
   |none=>False)
  | .aE vs=>(match vs[i]? with
   |some v=>K {v}
   |none=>False)
  |_=>False
 | .fieldAddr T a f=>ni P T (ρ a) f K
 | .indexAddr T x i=>nh P T H (ρ x) (ρ i) K
 | .field T x f=>match kindOf P T,P.underlying T,ρ x with
  | .agg u,some (.struct _),.p t=>aL t=.agg u/\(match(cA t)[f]?,(jy P u)[f]? with
   |some g,some F=>kindOf P F=aL g/\K {v:=.p g}
   |_,_=>False)
  |_,_,_=>False
 | .index T x i=>match ρ x,ρ i with
  | .p (.str s),.p (.int _ i)=>iu P T=true/\0<=i/\∃h:i.toNat<s.length,K {v:=.p (.int .u8 (s[i.toNat]'h))}
  | .p (.st u es),.p (.int _ i)=>(match gU P T,(jy P u)[i.toNat]?,es[i.toNat]? with
   |some (u',n),some F,some g=>u'=u/\0<=i/\i.toNat<n/\kindOf P F=aL g/\K {v:=.p g}
   |_,_,_=>False)
  |_,_=>False
 | .makeFunc (.func f) fi ca=>if ah f then(match fD H (fi.toList.map ρ),fD H (ca.toList.map ρ)with
   |some (a,[],[]),some (b,aj,aG)=>K {v:=.p (.func f a b),aj,aG}
   |_,_=>False)
  else match eH (fi.toList.map ρ),eH (ca.toList.map ρ)with
   |some a,some b=>K {v:=.p (.func f a b)}
   |_,_=>K {v:=.func f (fi.toList.map ρ) (ca.toList.map ρ)}
 | .makeSlice T l c=>match cQ P T,cG P (dU P T),ρ l,ρ c with
  |some sz,some z,.p (.int .i64 l),.p (.int .i64 c)=>bB P (aL z)=sz/\0<=l/\l=c/\l<=cF/\K {v:=.sl H.length 0 sz 0 l.toNat,aS:=[.arr .exact 0 sz (hw l.toNat (.p z))]}
  |_,_,_,_=>False
 | .slice T x lo hi A=>match A with
  |none=>nB P T H (ρ x) (lo.map ρ) (hi.map ρ) none K
  |some m=>pT P T H (ρ x) (lo.map ρ) (hi.map ρ) (ρ m) K
 | .makeMap _ none=>K {v:=.map H.length,aS:=[.map false []]}
 | .lookup T x i ok=>match jk P T,ρ i with
  |some (w,E),.p key=>(match cG P E with
   |some z=>eO P w key=true/\(match ρ x with
    | .p .fx=>K {v:=.p (if ok then .aE [z,.bool false]else z)}
    | .p (.eS es)=>(match fT P w es key with
     |some (some v)=>K {v:=.p (if ok then .aE [v,.bool true]else v)}
     |some none=>K {v:=.p (if ok then .aE [z,.bool false]else z)}
     |none=>False)
    | .map b=>(match H[b]? with
     |some (.map fz es)=>(match fT P w es key with
      |some (some v)=>K {v:=.p (if ok then .aE [v,.bool true]else v),aj:=[(b,.map fz es)]}
      |some none=>K {v:=.p (if ok then .aE [z,.bool false]else z),aj:=[(b,.map fz es)]}
      |none=>False)
     |some (.cT ks vs)=>kS key=true/\(match jw P w ks vs key with
      |some (some v)=>K {v:=if ok then .aE [v,.p (.bool true)]else v,aj:=[(b,.cT ks vs)]}
      |some none=>K {v:=.p (if ok then .aE [z,.bool false]else z),aj:=[(b,.cT ks vs)]}
      |none=>False)
     |_=>False)
    |_=>False)
   |none=>False)
  |_,_=>False
 | .mapUpdate T m k x| .insert T m k x=>match jk P T,ρ m,ρ k,ρ x with
  |some (w,_),.map b,.p key,.p v=>eO P w key=true/\(match H[b]? with
   |some (.map false es)=>(match lM P w es key with
    |some _=>K {v:=.p (.aE []),aj:=[(b,.map false es)],aG:=[(b,.map false (gA es key v))]}
    |none=>False)
   |some (.cT ks vs)=>mf P w b key (.p v) (.cT ks vs) K
   |_=>False)
  |some (w,_),.map b,.p key,x=>eO P w key=true/\(match H[b]? with
   |some o=>mf P w b key x o K
   |none=>False)
  |_,_,_,_=>False
 | .range T x=>match ρ x with
  | .p (.str s)=>iu P T=true/\K {v:=.ptr H.length [],aS:=[.dx s 0]}
  |_=>False
 | .next it true=>match ρ it with
  | .ptr b []=>(match H[b]? with
   |some (.dx s pos)=>if pos<s.length then
    K {v:=.p (.aE [.bool true,.int .i64 pos,.int .i32 (Utf8.decode (gu s) pos).1]),aj:=[(b,.dx s pos)],aG:=[(b,.dx s (pos+(Utf8.decode (gu s) pos).2))]}
    else K {v:=.p (.aE [.bool false]),aj:=[(b,.dx s pos)]}
   |_=>False)
  |_=>False
 | .nilCheck x=>match ρ x with
  | .ptr _ _| .b6 _ _ _ _ _| .p (.cq _)=>K {v:=ρ x}
  |_=>False
 | .call c=>match c.callee with
  | .builtin b=>let args:=c.args.toList.map ρ
   let T:=c.argTypes.getD 0 0
   (match b,args with
   | .len,[x]=>(match lenOf H x with
    |some (n,aj)=>gQ P T x=true/\0<c.argTypes.size/\K {v:=.p (.int .i64 n),aj}
    |none=>False)
   | .append,[s,x]=>c.argTypes.size=2/\nq P T (c.argTypes.getD 1 0) H s x K
   | .min,.p (.int k a)::r=>(match lF k false r a with
    |some n=>K {v:=.p (.int k n)}
    |none=>False)
   | .max,.p (.int k a)::r=>(match lF k true r a with
    |some n=>K {v:=.p (.int k n)}
    |none=>False)
   | .copy,[d,x]=>(match cQ P T,d,gI H x with
    |some sz,.sl b an ai off len,some xs=>ai=sz/\fc P sz xs/\c.argTypes.size=2/\(match H[b]? with
     |some (.arr k q j es)=>an=q/\ai=j/\k≠.frozen/\off+len<=es.length/\¬(k.gr=true/\es=[])/\
      K {v:=.p (.int .i64 (min xs.length len:Nat)),aj:=(b,.arr k q j es)::dB H x,aG:=[(b,.arr k q j (es.take off++xs.take (min xs.length len)++es.drop (off+min xs.length len)))]}
     |_=>False)
    |_,_,_=>False)
   | .cap,[x]=>(match y9 H x with
    |some (n,aj)=>gQ P T x=true/\0<c.argTypes.size/\K {v:=.p (.int .i64 n),aj}
    |none=>False)
   | .clear,[x]=>(match x with
    | .p .aK=>gQ P T x=true/\0<c.argTypes.size/\K {v:=.p (.aE [])}
    | .sl b an ai off len=>(match cQ P T,cG P (dU P T),H[b]? with
     |some sz,some z,some (.arr k q j es)=>an=q/\ai=j/\ai=sz/\bB P (aL z)=sz/\k≠.frozen/\off+len<=es.length/\¬(k.gr=true/\es=[])/\0<c.argTypes.size/\0<len/\
      K {v:=.p (.aE []),aj:=[(b,.arr k q j es)],aG:=[(b,.arr k q j (es.take off++hw len (.p z)++es.drop (off+len)))]}
     |_,_,_=>False)
    |_=>False)
   | .unsafeSliceData,[x]=>(match x with
    | .p .aK=>K {v:=.p .dE}
    | .sl b an ai off len=>(match H[b]? with
     |some (.arr k q j es)=>an=q/\ai=j/\((k.gr=true/\es=[]/\K {v:=.p .dE,aj:=[(b,.arr k q j es)]})\/(0<len/\off+len<=es.length/\K {v:=.b6 b an ai off [],aj:=[(b,.arr k q j es)]}))
     |_=>False)
    |_=>False)
   | .unsafeString,[x,.p (.int .i64 n)]=>(match x with
    | .p .dE=>n=0/\c.argTypes.size=2/\K {v:=.p (.str [])}
    | .b6 b an ai i []=>(match H[b]? with
     |some (.arr .bytes q j es)=>an=q/\ai=j/\ai=1/\i=0/\0<n/\n.toNat<=es.length/\n<=9223372036854775807/\c.argTypes.size=2/\ptrTo P T=some Gl.u8/\P.cellsOf Gl.u8=1/\(match bytesOf (es.take n.toNat)with
      |some l=>K {v:=.p (.str l),aj:=[(b,.arr .bytes q j es)],aG:=[(b,.dead)]}
      |none=>False)
     |_=>False)
    |_=>False)
   |_,_=>False)
  |_=>False
 |_=>False
def newAt(a:Nat):List Obj->List (Nat×Obj)
 |[]=>[]
 |o::r=>(a,o)::newAt (a+1) r
structure bV(P:c7)(ag aa:Nat->Prop)(w:c9)(β:Bd)(H:Heap)(aD:Nat->Prop)(w':c9)(aI:Bd)(H':Heap):Prop where
 bR:∀k,aa k->aD k
 fresh:∀k,aD k->aa k\/¬ag k
 ext:Ext ag aa w w'
 step:cg β H aI H'
 rel:bX P w' aD aI H' ag
 fp:∀x,aH H x->aH H' x
 loop:∀b,gK H b->gK H' b
def Enters(P:c7)(f:dl):Prop:=∀(args:Array c6)(w:c9),(callFunc f args).run P w=.ok (.enter f args) w
def cm(P:c7)(f:dl)(H:Heap)(args:List AV)(H':Heap)(v:AV):Prop:=
 Enters P f/\∀(w:c9)(aa ag:Nat->Prop)(β:Bd)(a:List c6),bX P w aa β H ag->bh P w aa β H args a->aR (aH H) args->
  eo P f a.toArray w fun e w'=>∃b aI aD,e=.returned b/\bV P ag aa w β H aD w' aI H'/\ar P w' aD aI H' v b/\aB (aH H') v
def iw(P:c7)(b:Nat)(H:Heap)(args:List AV)(H':Heap)(v:AV):Prop:=
 gK H b/\∀(w:c9)(aa ag:Nat->Prop)(β:Bd)(c:List c6),bX P w aa β H ag->bh P w aa β H args c->aR (aH H) args->
  ∃f tmps assign body,(fl (β.ak b) c.toArray).run P w=.ok (.round (β.ak b) f tmps assign body) w/\
   ∀(a:dq)(e:List dq),∃d w' aI aD,eb P (lone (e7 (β.ak b) f tmps assign body .normal) (a::e) w) (lone (a.finish d) e w')/\
    bV P ag aa w β H aD w' aI H'/\ar P w' aD aI H' v d/\aB (aH H') v
def q9(P:c7)(f:dl)(args:List AV)(base:Nat)(e:aU):Prop:=
 Enters P f/\∀(H:Heap)(w:c9)(aa ag:Nat->Prop)(β:Bd)(a:List c6),bX P w aa β H ag->bh P w aa β H args a->aR (aH H) args->
  (∀p∈e.aj,H[p.1]?=some p.2)->(∀i,i<e.aS.length->H[base+i]?=some .hole)->
  eo P f a.toArray w fun x w'=>∃b aI aD,x=.returned b/\bV P ag aa w β H aD w' aI (aX H (e.aG++newAt base e.aS))/\
   ar P w' aD aI (aX H (e.aG++newAt base e.aS)) e.v b/\aB (aH (aX H (e.aG++newAt base e.aS))) e.v
def sP(P:c7)(b:Nat)(args:List AV)(a:Nat)(e:aU):Prop:=
 ∀(H:Heap)(w:c9)(aa ag:Nat->Prop)(β:Bd)(d:List c6),bX P w aa β H ag->bh P w aa β H args d->aR (aH H) args->
  (∀p∈e.aj,H[p.1]?=some p.2)->(∀i,i<e.aS.length->H[a+i]?=some .hole)->
  gK H b/\∃f tmps assign body,(fl (β.ak b) d.toArray).run P w=.ok (.round (β.ak b) f tmps assign body) w/\
   ∀(c:dq)(h:List dq),∃g w' aI aD,eb P (lone (e7 (β.ak b) f tmps assign body .normal) (c::h) w) (lone (c.finish g) h w')/\
    bV P ag aa w β H aD w' aI (aX H (e.aG++newAt a e.aS))/\
    ar P w' aD aI (aX H (e.aG++newAt a e.aS)) e.v g/\aB (aH (aX H (e.aG++newAt a e.aS))) e.v
def CT(P:c7)(f:dl)(args:List AV)(aj:List (Nat×Obj))(v:PV):Prop:=
 ∀(H:Heap)(w:c9)(aa ag:Nat->Prop)(β:Bd)(a:List c6),bX P w aa β H ag->bh P w aa β H args a->aR (aH H) args->(∀p∈aj,H[p.1]?=some p.2)->
  ∃b,(callFunc f a.toArray).run P w=.ok (.value b) w/\aA P w aa v b
def pc(H:Heap)(e:aU):Prop:=(∀p∈e.aj,H[p.1]?=some p.2)/\(∀p∈e.aG,p.1<H.length/\p.2≠.hole)
def q8(P:c7)(f:dl)(args:List PV)(v:PV):Prop:=
 Enters P f/\∀(w:c9)(aa:Nat->Prop)(a:List c6),(∀k,aa k->k<w.heap.size)->lL P w aa->bf P w aa args a->
  eo P f a.toArray w fun e w'=>∃b,∃aD:Nat->Prop,e=.returned b/\(∀k,aa k->aD k)/\(∀k,aD k->aa k\/w.heap.size<=k)/\(∀k,aD k->k<w'.heap.size)/\
   w.heap.size<=w'.heap.size/\(∀k,k<w.heap.size->w'.heap[k]?=w.heap[k]?)/\(w'.os=w.os/\w'.output=w.output)/\aA P w' aD v b
def PI(P:c7)(f:dl)(args:List PV)(v:PV):Prop:=
 ∀(w:c9)(aa:Nat->Prop)(a:List c6),bf P w aa args a->∃b,(callFunc f a.toArray).run P w=.ok (.value b) w/\aA P w aa v b
def az(P:c7)(f:dl)(args:List PV)(v:PV):Prop:=q8 P f args v\/PI P f args v
def kH(H:Heap):AV->Option (PV×Heap)
 | .p v=>some (v,H)
 | .sl b an ai off len=>match H[b]? with
  |some (.arr k d a es)=>
   if an=d/\ai=a/\off+len<=es.length then
    if k.gr=true/\es=[]then some (.aK,H)else
    match eH es with
    |some c=>some (.bE (k== .exact&&off+len==es.length) ((c.drop off).take len),H.set b (.arr .frozen an ai es))
    |none=>none
   else none
  |_=>none
 | .ptr b path=>match H[b]? with
  |some (.box _ (.p t))=>match kJ t path with
   |some s=>some (.cq s,H.set b (.box true (.p t)))
   |none=>none
  |_=>none
 | .map b=>match H[b]? with
  |some (.map _ es)=>some (.eS es,H.set b (.map true es))
  |_=>none
 |_=>none
def mM(H:Heap):List AV->Option (List PV×Heap)
 |[]=>some ([],H)
 |x::r=>match kH H x with
  |some (v,H1)=>match mM H1 r with
   |some (vs,a)=>some (v::vs,a)
   |none=>none
  |none=>none
def gM(P:c7)(draw:Bool)(f:dl)(args:List AV)(H:Heap)(K:AV->Heap->Prop):Prop:=
 (∃vs v,args=vs.map .p/\az P f vs v/\K (.p v) H)\/
 (draw=false/\((∃vs H1 v,mM H args=some (vs,H1)/\az P f vs v/\K (.p v) H1)\/(∃H' v,cm P f H args H' v/\K v H')\/
  (∃e,q9 P f args H.length e/\pc H e/\K e.v (aX H e.aG++e.aS))\/(∃aj v,CT P f args aj v/\(∀p∈aj,H[p.1]?=some p.2)/\K (.p v) H)))
def jE(P:c7)(ah:dl->Bool)(draw:Bool)(o:Oper)(K:St->Prop)(s:St):Prop:=
 match o.op with
 | .call {callee:=.value f,args,.. }=>(match ev s.env f with
  | .p (.func g fi ca)=>gM P draw g (fi.map .p++args.toList.map (ev s.env)++ca.map .p) s.heap (fun v H'=>K ⟨put o.dst v s.env,H'⟩)
  | .func g fi ca=>gM P draw g (fi++args.toList.map (ev s.env)++ca) s.heap (fun v H'=>K ⟨put o.dst v s.env,H'⟩)
  | .map b=>∃H' v,iw P b s.heap (args.toList.map (ev s.env)) H' v/\K ⟨put o.dst v s.env,H'⟩
  |_=>False)
 |_=>fy P ah o (ev s.env) s.heap fun e=>K (e.app o.dst s)
def guardOf(a:Array Oper)(j:Nat)(e:Env):AV:=
 match(a[j]?).bind (·.dst)with
 |some d=>aO e d
 |none=>.p (.aE [])
def gP(P:c7)(ah:dl->Bool)(draw:Bool)(a:Array Oper):List Oper->(St->Prop)->St->Prop
 |[],K,s=>K s
 |o::r,K,s=>match o.guard with
  |none=>jE P ah draw o (gP P ah draw a r K) s
  |some (j,want)=>match guardOf a j s.env with
   | .p (.bool t)=>if t=want then jE P ah draw o (gP P ah draw a r K) s else gP P ah draw a r K ⟨put o.dst (.p (.aE [])) s.env,s.heap⟩
   | .p (.aE [])=>gP P ah draw a r K ⟨put o.dst (.p (.aE [])) s.env,s.heap⟩
   |_=>False
def lT:Obj->Option Obj
 | .box _ (.p t)=>some (.box true (.p t))
 | .arr k an ai es=>if k.gr=true/\es=[]then none else match eH es with
  |some _=>some (.arr .frozen an ai es)
  |none=>none
 | .map _ es=>some (.map true es)
 |_=>none
def l8(H:Heap):AV->Option (PV×List Nat)
 | .p v=>some (v,[])
 | .sl b an ai off len=>match H[b]? with
  |some (.arr k d a es)=>
   if an=d/\ai=a/\off+len<=es.length then
    if k.gr=true/\es=[]then none else
    match eH es with
    |some c=>some (.bE (k== .exact&&off+len==es.length) ((c.drop off).take len),[b])
    |none=>none
   else none
  |_=>none
 | .ptr b path=>match H[b]? with
  |some (.box _ (.p t))=>match kJ t path with
   |some s=>some (.cq s,[b])
   |none=>none
  |_=>none
 | .map b=>match H[b]? with
  |some (.map _ es)=>some (.eS es,[b])
  |_=>none
 |_=>none
def nN(H:Heap):List AV->Option (List PV×List Nat)
 |[]=>some ([],[])
 |x::r=>match l8 H x,nN H r with
  |some (v,bs),some (vs,cs)=>some (v::vs,bs++cs)
  |_,_=>none
def kW(H:Heap):List Nat->Option (List (Nat×Obj)×List (Nat×Obj))
 |[]=>some ([],[])
 |b::r=>match H[b]?,kW H r with
  |some o,some (aj,aG)=>(match lT o with
   |some o'=>some ((b,o)::aj,(b,o')::aG)
   |none=>none)
  |_,_=>none
def gT(P:c7)(f:dl)(args:List AV)(H:Heap)(K:aU->Prop):Prop:=
 (∃vs v,args=vs.map .p/\az P f vs v/\K {v:=.p v})\/
 (∃vs bs aj aG v,nN H args=some (vs,bs)/\kW H bs=some (aj,aG)/\az P f vs v/\K {v:=.p v,aj,aG})\/
 (∃e,q9 P f args H.length e/\pc H e/\K e)\/
 (∃aj v,CT P f args aj v/\(∀p∈aj,H[p.1]?=some p.2)/\K {v:=.p v,aj})
def jq(P:c7)(ah:dl->Bool)(o:Oper)(s:St)(K:aU->Prop):Prop:=
 match o.op with
 | .call {callee:=.value f,args,.. }=>(match ev s.env f with
  | .p (.func g fi ca)=>gT P g (fi.map .p++args.toList.map (ev s.env)++ca.map .p) s.heap K
  | .func g fi ca=>gT P g (fi++args.toList.map (ev s.env)++ca) s.heap K
  | .map b=>∃e,sP P b (args.toList.map (ev s.env)) s.heap.length e/\pc s.heap e/\K e
  |_=>False)
 |_=>fy P ah o (ev s.env) s.heap K
structure Touch where
 i:Nat
 rd:List Nat
 wr:List Nat
def nD(a:Nat):List Obj->List Nat
 |[]=>[]
 |_::r=>a::nD (a+1) r
def gZ(i a:Nat)(e:aU):Touch:=⟨i,e.aj.map (·.1),e.aG.map (·.1)++nD a e.aS⟩
def gO(i b:Nat)(e:aU)(a:List Touch):List Touch:=
 match e.aj,e.aG,e.aS with
 |[],[],[]=>a
 |_,_,_=>gZ i b e::a
def reach(a:Array Oper):Nat->Nat->Nat->Bool
 |0,_,_=>false
 |f+1,i,j=>match a[j]? with
  |some o=>o.after.toList.any (fun e=>gt .any e&&e.on==i)||o.after.toList.any (fun e=>gt .any e&&decide (i<e.on)&&reach a f i e.on)
  |none=>false
def jj(u t:Touch):Bool:=u.wr.any (fun b=>t.rd.contains b||t.wr.contains b)||u.rd.any (fun b=>t.wr.contains b)
def jZ(a:Array Oper):List Touch->Bool
 |[]=>true
 |t::r=>r.all (fun u=>!jj u t||reach a a.size u.i t.i)&&jZ a r
def gh(P:c7)(ah:dl->Bool)(a:Array Oper):List Oper->Nat->List Touch->(St->Prop)->St->Prop
 |[],_,acc,K,s=>jZ a acc=true/\K s
 |o::r,i,acc,K,s=>match o.guard with
  |none=>jq P ah o s fun e=>gh P ah a r (i+1) (gO i s.heap.length e acc) K (e.app o.dst s)
  |some (j,want)=>match guardOf a j s.env with
   | .p (.bool t)=>if t=want then jq P ah o s fun e=>gh P ah a r (i+1) (gO i s.heap.length e acc) K (e.app o.dst s)
    else gh P ah a r (i+1) acc K ⟨put o.dst (.p (.aE [])) s.env,s.heap⟩
   | .p (.aE [])=>gh P ah a r (i+1) acc K ⟨put o.dst (.p (.aE [])) s.env,s.heap⟩
   |_=>False
inductive bp where|normal|exit (id:Nat)|ret
mutual
def fS(T:Heap):PV->AV->Prop
 | .aK,x=>x=.p .aK\/match x with
  | .sl b an _ off len=>an=0/\off=0/\len=0/\∃k z,T[b]?=some (.arr k 0 z [])/\k.gr=true
  |_=>False
 | .st u fs,x=>x=.p (.st u fs)\/match x with
  | .st u' gs=>u=u'/\kL T fs gs
  |_=>False
 |v,x=>x=.p v
def kL(T:Heap):List PV->List AV->Prop
 |[],gs=>gs=[]
 |v::vs,gs=>match gs with
  |g::gs=>fS T v g/\kL T vs gs
  |[]=>False
end
mutual
def Gh(T:Heap):AV->AV->Prop
 | .p v,x=>fS T v x
 | .st u fs,x=>match x with
  | .st u' gs=>u=u'/\ma T fs gs
  |_=>False
 |a,x=>x=a
def ma(T:Heap):List AV->List AV->Prop
 |[],gs=>gs=[]
 |v::vs,gs=>match gs with
  |g::gs=>Gh T v g/\ma T vs gs
  |[]=>False
end
structure oY(s t:St):Prop where
 env:∀x,aO t.env x=aO s.env x\/aO t.env x=.p .undef\/Gh t.heap (aO s.env x) (aO t.env x)
 heap:∀(b:Nat)(o:Obj),t.heap[b]?=some o->o=.hole\/s.heap[b]?=some o\/((s.heap[b]?=none\/s.heap[b]?=some .hole)/\∃k z,o=.arr k 0 z []/\k.gr=true)\/(∃v v',s.heap[b]?=some (.box false v)/\o=.box false v'/\Gh t.heap v v')
 gD:∀x,aB (aH t.heap) (aO t.env x)
 hrefs:∀(b:Nat)(o:Obj),t.heap[b]?=some o->o.refs (aH t.heap)
def bC(N:Nat)(s t:St):Prop:=t=s\/(oY s t/\∀b,b<N->t.heap[b]?=s.heap[b]?)
def ki(Q:bp->St->Prop)(j:Option Code)(s:St):Prop:=
 match j with
 |none=>Q .normal s
 |some (.exit id)=>Q (.exit id) s
 |some .ret=>Q .ret s
 |_=>False
def jM(P:c7)(it:AV)(b:Nat)(H:Heap)(K:Heap->Prop):Prop:=
 match it with
 | .p (.func g fi ca)=>∃H' v,cm P g H (fi.map .p++[.map b]++ca.map .p) H' v/\K H'
 | .func g fi ca=>∃H' v,cm P g H (fi++[.map b]++ca) H' v/\K H'
 |_=>False
def iT(b:Nat)(env:Env)(Q:bp->St->Prop)(H:Heap):Prop:=
 match H[b]? with
 |some (.loop L)=>L.st≠.busy/\ki Q L.pending ⟨env,H.set b (.loop {L with st:=.exhausted})⟩
 |_=>False
abbrev Cx:=Nat×Nat
def b9(P:c7)(ah:dl->Bool)(q:Cx):Code->(bp->St->Prop)->St->Prop
 | .skip,Q,s| .label _,Q,s=>Q .normal s
 | .region _ ops draw,Q,s=>if draw then gh P ah ops ops.toList 0 [] (Q .normal) s else gP P ah false ops ops.toList (Q .normal) s
 | .seq a b,Q,s=>b9 P ah q a (fun e s'=>match e with
  | .normal=>b9 P ah q b Q s'
  |e=>Q e s') s
 | .cond c a b,Q,s=>match ev s.env c with
  | .p (.bool t)=>if t then b9 P ah q a Q s else b9 P ah q b Q s
  |_=>False
 | .block id b,Q,s=>b9 P ah q b (fun e s'=>match e with
  | .exit i=>if i=id then Q .normal s' else Q (.exit i) s'
  |e=>Q e s') s
 | .scope b,Q,s=>b9 P ah q b Q s
 | .loop b,Q,s=>∃I:Nat->St->Prop,(∃n t,bC q.2 s t/\I n t)/\∀n t,I n t->b9 P ah q b (fun e s'=>match e with
  | .normal=>∃m g,m<n/\bC q.2 s' g/\I m g
  |e=>Q e s') t
 | .rangeFunc f h a b,Q,s=>q.2<=s.heap.length/\∃d:Env,(∀x,aO d x=aO s.env x)/\jM P (ev s.env f) s.heap.length (s.heap++[.loop ⟨.ready,none,q.1,h.toList,a,b,d⟩]) (iT s.heap.length s.env Q)
 | .exit id,Q,s=>Q (.exit id) s
 | .ret,Q,s=>Q .ret s
 |_,_,_=>False
def bt(fr:dq)(t:Array c6)(ds:List dp)(todo:List Item):dq:={fr with tmps:=t,defers:=ds,todo,mode:=.run}
section
variable{P:c7}{fr:dq}{t:Array c6}{ds:List dp}{k:List Item}{cs:List dq}{w:c9}
def fA(t:Array c6):db->c6
 | .tmp x=>t.getD x undef
 | .const v=>v
 | .global g=>.pointer (some ⟨g,0,none⟩)
 | .func f=>.func (.func f) #[] #[]
theorem eval_eq(fr:dq):fr.eval=fA fr.tmps:=by funext x;cases x<;>rfl
theorem aDM:step P (lone (bt fr t ds (.code .skip::k)) cs w)=.next (lone (bt fr t ds k) cs w):=
 dg (by simp[stepG,ho,bt])
theorem U0{l:Nat}:step P (lone (bt fr t ds (.code (.label l)::k)) cs w)=.next (lone (bt fr t ds k) cs w):=
 dg (by simp[stepG,ho,bt])
theorem TJ{id:Nat}:step P (lone (bt fr t ds (.inBlock id::k)) cs w)=.next (lone (bt fr t ds k) cs w):=
 dg (by simp[stepG,ho,bt])
theorem TI{b:Code}:step P (lone (bt fr t ds (.inScope b::k)) cs w)=.next (lone (bt fr t ds k) cs w):=
 dg (by simp[stepG,ho,bt])
theorem CA{a b:Code}:step P (lone (bt fr t ds (.code (.seq a b)::k)) cs w)=.next (lone (bt fr t ds (.code a::.code b::k)) cs w):=
 dg (by simp[stepG,ho,bt])
theorem aDE{c:db}{x y:Code}{b:Bool}(h:fA t c= .bool b):
 step P (lone (bt fr t ds (.code (.cond c x y)::k)) cs w)=.next (lone (bt fr t ds (.code (if b then x else y)::k)) cs w):=
 dg (by simp[stepG,ho,bt,eval_eq,h])
theorem xM{id:Nat}{c:Code}:step P (lone (bt fr t ds (.code (.block id c)::k)) cs w)=.next (lone (bt fr t ds (.code c::.inBlock id::k)) cs w):=
 dg (by simp[stepG,ho,bt])
theorem Bx{c:Code}:step P (lone (bt fr t ds (.code (.scope c)::k)) cs w)=.next (lone (bt fr t ds (.code c::.inScope c::k)) cs w):=
 dg (by simp[stepG,ho,bt])
theorem aDK{c:Code}:step P (lone (bt fr t ds (.code (.loop c)::k)) cs w)=.next (lone (bt fr t ds (.code c::.inLoop c::k)) cs w):=
 dg (by simp[stepG,ho,bt])
theorem T6{c:Code}:step P (lone (bt fr t ds (.inLoop c::k)) cs w)=.next (lone (bt fr t ds (.code c::.inLoop c::k)) cs w):=
 dg (by simp[stepG,ho,bt])
theorem aDJ{id:Nat}{a:List Item}(h:exitTo id k=some a):step P (lone (bt fr t ds (.code (.exit id)::k)) cs w)=.next (lone (bt fr t ds a) cs w):=
 dg (by simp[stepG,ho,bt,h])
theorem QD{id:Nat}{a:Array Oper}:
 step P (lone (bt fr t ds (.code (.region id a false)::k)) cs w)=.next (lone (bt fr t ds (.inRegion a (ik a.size)::k)) cs w):=
 dg (by simp[stepG,ho,bt])
theorem aDH{id:Nat}{a:Array Oper}:
 step P (lone (bt fr t ds (.code (.region id a true)::k)) cs w)=
  .next (lone (bt fr t ds (.inRegion a (gm (P.follows .mixedOrders) a (w.tape w.drawn (.order fr.fn id)))::k)) cs {w with drawn:=w.drawn+1}):=
 dg (by simp[stepG,ho,bt,choose,g7,Question.forced,Question.cut])
theorem GJ{a:Array Oper}:step P (lone (bt fr t ds (.inRegion a []::k)) cs w)=.next (lone (bt fr t ds k) cs w):=
 dg (by simp[stepG,ho,bt])
def mN(dst:Option Tmp)(v:c6)(t:Array c6):Array c6:=
 match dst with
 |some d=>t.setIfInBounds d v
 |none=>t
theorem mX{a:Array Oper}{i:Nat}{r:List Nat}{o:Oper}(c:a[i]?=some o)(v:c6):
 (bt fr t ds (.inRegion a (i::r)::k)).finish v=bt fr (mN o.dst v t) ds (.inRegion a r::k):=by
 cases b:o.dst<;>simp[Frame.finish,bt,c,b,mN]
theorem IC{a:Array Oper}{i:Nat}{r:List Nat}{o:Oper}(b:a[i]?=some o)(c:gl o (yielded a t)=false):
 step P (lone (bt fr t ds (.inRegion a (i::r)::k)) cs w)=.next (lone (bt fr (mN o.dst undef t) ds (.inRegion a r::k)) cs w):=by
 rw[<-mX b];exact dg (by simp only[bt];simp[stepG,ho,b,c])
theorem Tj{o:Oper}(a:∀c,o.op≠ .defer c)(r:Option Nat)(A:Nat->Call->GStep)(B:GStep):
 (match r,o.op with
  |some l,.defer c=>A l c
  |_,_=>B)=B:=by
 cases r with
 |none=>rfl
 |some l=>cases h:o.op<;>first|rfl|exact absurd h (a _)
theorem aDL{a:Array Oper}{i:Nat}{r:List Nat}{o:Oper}{fr:dq}(e:fr.todo= .inRegion a (i::r)::k)(d:a[i]?=some o)(b:∀c,o.op≠ .defer c):
 hr P true fr cs none w=hp P true fr cs none (dk (fA fr.tmps) o) w:=by
 simp only[hr,Frame.oper?,e,d,eval_eq];exact Tj b _ _ _
theorem Bq{f:Bool}{a:Array Oper}{i:Nat}{r:List Nat}{o:Oper}(b:a[i]?=some o)(e:gl o (yielded a t)=true)(d:∀c,o.op≠ .defer c):
 stepG P f {frame:=bt fr t ds (.inRegion a (i::r)::k),callers:=cs,status:=.running,dying:=none} w=
  hp P true (bt fr t ds (.inRegion a (i::r)::k)) cs none (dk (fA t) o) w:=by
 have h:=aDL (P:=P) (cs:=cs) (w:=w) (fr:=bt fr t ds (.inRegion a (i::r)::k)) rfl b d;simp only[bt]at h⊢;simp[stepG,ho,b,e,h]
theorem rS{a:Array Oper}{i:Nat}{r:List Nat}{o:Oper}{n:Next}{b:c6}{w':c9}(d:a[i]?=some o)(h:gl o (yielded a t)=true)
 (e:∀c,o.op≠.defer c)(g:(dk (fA t) o).run P w=.ok n w')(f:n=.value b\/n=.skip/\b=undef):
 step P (lone (bt fr t ds (.inRegion a (i::r)::k)) cs w)=.next (lone (bt fr (mN o.dst b t) ds (.inRegion a r::k)) cs w'):=by
 rw[<-mX d];refine dg ?_;rw[Bq d h e];rcases f with rfl|⟨rfl,rfl⟩<;>simp[hp,g,bt]
theorem ui{a:Array Oper}{i:Nat}{r:List Nat}{o:Oper}{f:dl}{args:Array c6}{w':c9}(d:a[i]?=some o)(g:gl o (yielded a t)=true)
 (b:∀c,o.op≠.defer c)(e:(dk (fA t) o).run P w=.ok (.enter f args) w'):
 step P (lone (bt fr t ds (.inRegion a (i::r)::k)) cs w)=.next (lone (e8 P f args .normal) (bt fr t ds (.inRegion a (i::r)::k)::cs) w'):=by
 refine dg ?_;rw[Bq d g b];simp[hp,e,bt]
theorem HT{a:Array Oper}{i:Nat}{r:List Nat}{o:Oper}{l:Nat}{f:dl}{tmps:Array c6}{assign body:Code}{w':c9}(d:a[i]?=some o)(g:gl o (yielded a t)=true)
 (b:∀c,o.op≠.defer c)(e:(dk (fA t) o).run P w=.ok (.round l f tmps assign body) w'):
 step P (lone (bt fr t ds (.inRegion a (i::r)::k)) cs w)=.next (lone (e7 l f tmps assign body .normal) (bt fr t ds (.inRegion a (i::r)::k)::cs) w'):=by
 refine dg ?_;rw[Bq d g b];simp[hp,e,bt]
end
end Go.aw
namespace Go.aw
variable[Gl]
mutual
theorem aB.mono{S T:Nat×Nat->Prop}(h:∀x,S x->T x):∀v,aB S v->aB T v
 | .p _,_=>by simp[aB]
 | .ptr b _,c| .b6 b _ _ _ _,c| .sl b _ _ _ _,c| .map b,c=>by simp only[aB]at*;exact h _ c
 | .func _ a b,c=>by simp only[aB]at*;exact⟨aR.mono h a c.1,aR.mono h b c.2⟩
 | .st _ fs,c=>by simp only[aB]at*;exact aR.mono h fs c
 | .aE vs,c=>by simp only[aB]at*;exact aR.mono h vs c
theorem aR.mono{S T:Nat×Nat->Prop}(h:∀x,S x->T x):∀vs,aR S vs->aR T vs
 |[],_=>by simp[aR]
 |v::vs,c=>by simp only[aR]at*;exact⟨aB.mono h v c.1,aR.mono h vs c.2⟩
end
structure cL(P:c7)(n:Nat)(ag aa:Nat->Prop)(β:Bd)(s:St)(t:Array c6)(w:c9):Prop where
 heap:bX P w aa β s.heap ag
 env:∀x,ar P w aa β s.heap (aO s.env x) (t.getD x undef)
 gD:∀x,aB (aH s.heap) (aO s.env x)
 size:t.size=n
structure oX(N:Nat)(β:Bd)(H:Heap)(aI:Bd)(H':Heap):Prop where
 box:∀b,b<N->aH H (b,0)->mr H' b->mr H b/\aI.ak b=β.ak b
 it:∀b,b<N->aH H (b,0)->mu H' b->mu H b/\aI.ak b=β.ak b
 map:∀b,b<N->aH H (b,0)->nG H' b->nG H b/\aI.ak b=β.ak b
 arr:∀b an ai k es,b<N->aH H (b,an)->dT H' b an ai k es->∃k0 gE,dT H b an ai k0 gE/\gE.length<=es.length/\(dc k es↔dc k0 gE)/\(¬dc k es->aI.ak b=β.ak b/\aI.cap b=β.cap b)
 loop:∀b,b<N->aH H (b,0)->gK H' b->gK H b/\aI.ak b=β.ak b
theorem cg.n{N:Nat}{β:Bd}{H:Heap}{aI:Bd}{H':Heap}(h:cg β H aI H'):oX N β H aI H':=
 ⟨fun b _=>h.box b,fun b _=>h.it b,fun b _=>h.map b,fun b an ai k es _=>h.arr b an ai k es,fun b _=>h.loop b⟩
theorem oX.full{β:Bd}{H:Heap}{aI:Bd}{H':Heap}(h:oX H.length β H aI H'):cg β H aI H':=by
 have lt:∀b v,aH H (b,v)->b<H.length:=fun b v⟨o,c,_⟩=>(hv.1 c).1;exact⟨fun b x=>h.box b (lt _ _ x) x,fun b x=>h.it b (lt _ _ x) x,fun b x=>h.map b (lt _ _ x) x,fun b an ai k a x=>h.arr b an ai k a (lt _ _ x) x,fun b x=>h.loop b (lt _ _ x) x⟩
theorem oX.trans{N:Nat}{β j l:Bd}{H H1 i:Heap}(h:oX N β H j H1)(hi:∀x,x.1<N->aH H x->aH H1 x)(g:oX N j H1 l i):oX N β H l i:=by
 refine⟨?_,?_,?_,?_,?_⟩
 ·intro b a c hl;obtain⟨d,a2⟩:=g.box b a (hi (b,0) a c) hl;obtain⟨e,f⟩:=h.box b a c d;exact⟨e,a2.trans f⟩
 ·intro b a c hl;obtain⟨d,a2⟩:=g.it b a (hi (b,0) a c) hl;obtain⟨e,f⟩:=h.it b a c d;exact⟨e,a2.trans f⟩
 ·intro b a c hl;obtain⟨d,a2⟩:=g.map b a (hi (b,0) a c) hl;obtain⟨e,f⟩:=h.map b a c d;exact⟨e,a2.trans f⟩
 ·intro b an ai k o a c hl;obtain⟨k1,p,d,a2,a3,a4⟩:=g.arr b an ai k o a (hi (b,an) a c) hl;obtain⟨k0,gE,e,f,m,n⟩:=h.arr b an ai k1 p a c d;refine⟨k0,gE,e,i1 f a2,a3.trans m,fun a=>?_⟩;obtain⟨c1,c2⟩:=a4 a;obtain⟨d1,d2⟩:=n (fun x=>a (a3.2 x));exact⟨c1.trans d1,c2.trans d2⟩
 ·intro b a c hl;obtain⟨d,a2⟩:=g.loop b a (hi (b,0) a c) hl;obtain⟨e,f⟩:=h.loop b a c d;exact⟨e,a2.trans f⟩
structure dI(N:Nat)(ag aa:Nat->Prop)(w:c9)(β:Bd)(H:Heap)(jV aD:Nat->Prop)(w':c9)(aI:Bd)(H':Heap):Prop where
 eE:∀k,ag k->jV k
 bR:∀k,aa k->aD k
 fresh:∀k,aD k->aa k\/¬ag k
 ext:Ext ag aa w w'
 step:oX N β H aI H'
 fp:∀x,x.1<N->aH H x->aH H' x
 loop:∀b,b<N->gK H b->gK H' b
theorem dI.refl(N:Nat)(ag aa:Nat->Prop)(w:c9)(β:Bd)(H:Heap):dI N ag aa w β H ag aa w β H:=
 ⟨fun _ h=>h,fun _ h=>h,fun _ h=>.inl h,Ext.refl _ _ _,(cg.refl _ _).n,fun _ _ h=>h,fun _ _ h=>h⟩
theorem Ext.trans{ag aa jV aD:Nat->Prop}{w w1 b:c9}(c:∀k,ag k->jV k)(hi:∀k,aa k->aD k)(h:Ext ag aa w w1)(a:Ext jV aD w1 b):Ext ag aa w b:=
 ⟨i1 h.size a.size,fun k hk=>(a.same k (hk.imp (c k) (hi k))).trans (h.same k hk),a.io.1.trans h.io.1,a.io.2.trans h.io.2⟩
theorem dI.trans{N:Nat}{ag aa g e i f:Nat->Prop}{w w1 j:c9}{β l m:Bd}{H H1 d:Heap}(h:dI N ag aa w β H g e w1 l H1)(a:dI N g e w1 l H1 i f j m d):dI N ag aa w β H i f j m d:=
 ⟨fun k x=>a.eE k (h.eE k x),fun k x=>a.bR k (h.bR k x),fun k x=>(a.fresh k x).elim (fun y=>h.fresh k y) (fun y=>.inr fun z=>y (h.eE k z)),h.ext.trans h.eE h.bR a.ext,
  h.step.trans h.fp a.step,fun x c hx=>a.fp x c (h.fp x c hx),fun b c n=>a.loop b c (h.loop b c n)⟩
theorem bV.fe{P:c7}{N:Nat}{ag aa aD:Nat->Prop}{w w':c9}{β aI:Bd}{H H':Heap}(h:bV P ag aa w β H aD w' aI H'):dI N ag aa w β H ag aD w' aI H':=
 ⟨fun _ x=>x,h.bR,h.fresh,h.ext,h.step.n,fun x _=>h.fp x,fun b _=>h.loop b⟩
section
variable{P:c7}{ag aa aD:Nat->Prop}{w w':c9}{β aI:Bd}{H H':Heap}
theorem ft.uD(a:w'.heap=w.heap){b:Nat}{o:Obj}(h:ft P w aa β H ag b o)(g:o.refs (aH H)):ft P w' aa β H ag b o:=by
 have p:=fun(v:AV) cs m=>bg.mono (P:=P) (w:=w) (w':=w') (aa:=aa) (aD:=aa) (β:=β) (aI:=β) (H:=H) (H':=H) (fun _ x=>x) (fun k _=>by rw[a]) (cg.refl β H) v cs m;have q:=fun l(v:List AV) cs m=>bG.mono (P:=P) (w:=w) (w':=w') (aa:=aa) (aD:=aa) (β:=β) (aI:=β) (H:=H) (H':=H) (fun _ x=>x) (fun k _=>by rw[a]) (cg.refl β H) l v cs m;have r:=fun(i:List (PV×PV)) f=>cz.mono (P:=P) (w:=w) (w':=w') (aa:=aa) (aD:=aa) (fun _ x=>x) (fun k _=>by rw[a]) i f;cases o with
 |hole=>trivial
 |dead=>trivial
 |box fz t=>
  obtain⟨cs,T,c,d,e⟩:=h;exact⟨cs,T,by rw[a];exact c,p _ _ g d,e⟩
 |arr k an ai i=>
  rcases h with h|⟨cs,T,n,rest,c,d,e⟩
  ·exact .inl h
  ·exact .inr ⟨cs,T,n,rest,by rw[a];exact c,q _ _ _ g d,e⟩
 |map fz i=>
  obtain⟨f,clock,c,d,e⟩:=h;exact⟨f,clock,by rw[a];exact c,r _ _ d,e⟩
 |cT ks vs=>
  obtain⟨f,clock,c,d,e,j⟩:=h;exact⟨f,clock,by rw[a];exact c,bf.mono (fun _ x=>x) (fun _ _=>by rw[a]) _ _ d,bh.mono (fun _ x=>x) (fun _ _=>by rw[a]) (cg.refl _ _) _ _ g e,j⟩
 |dx s pos=>
  obtain⟨bs,c,d⟩:=h;exact⟨bs,by rw[a];exact c,d⟩
 |loop L=>
  obtain⟨tmps,defers,fn,c,d,e,j⟩:=h;exact⟨tmps,defers,fn,by rw[a];exact c,d,fun x=>ar.mono (fun _ x=>x) (fun _ _=>by rw[a]) (cg.refl _ _) _ _ (g x) (e x),j⟩
theorem bX.uD(a:w'.heap=w.heap)(h:bX P w aa β H ag):bX P w' aa β H ag:=
 ⟨fun b o c=>(h.cJ b o c).uD a (h.refs b o c),h.inj,h.refs,fun k hk=>by rw[a];exact h.bR k hk,fun k hk=>by rw[a];exact h.eE k hk,h.ja.mono (fun _ x=>x) (fun _ _=>by rw[a])⟩
theorem bX.nF(h:bX P w aa β H ag){b:Nat}{o:Obj}(e:H[b]?=some o)(hl:o.live):β.ak b<w.heap.size:=by
 have c:=h.cJ b o e;cases o with
 |hole=>exact hl.elim
 |dead=>exact hl.elim
 |box fz t=>obtain⟨cs,T,a,_⟩:=c;exact(bl.1 a).1
 |arr k an ai es=>
  rcases c with c|⟨cs,T,f,rest,a,_⟩
  ·exact(hl c).elim
  ·exact(bl.1 a).1
 |map fz es=>obtain⟨d,clock,a,_⟩:=c;exact(bl.1 a).1
 |cT ks vs=>obtain⟨d,clock,a,_⟩:=c;exact(bl.1 a).1
 |dx s pos=>obtain⟨bs,a,_⟩:=c;exact(bl.1 a).1
 |loop L=>obtain⟨_,_,_,a,_⟩:=c;exact(bl.1 a).1
theorem bV.set{b:Nat}{o':Obj}(g:bX P w aa β H ag)(q:b<H.length)(m:∀x,x≠b->aI.ak x=β.ak x/\aI.cap x=β.cap x)
 (f:∀k,aa k->aD k)(O:∀k,aD k->aa k\/(k=aI.ak b/\o'.live))(af:∀k,aD k->k<w'.heap.size)
 (U:w.heap.size<=w'.heap.size)(I:∀k,(k≠aI.ak b\/¬o'.live)->k<w.heap.size->w'.heap[k]?=w.heap[k]?)
 (E:o'.live->w.heap.size<=aI.ak b\/(aI.ak b=β.ak b/\(∃o,H[b]?=some o/\o.live)/\((∀k,k=β.ak b->w'.heap[k]?=w.heap[k]?)\/¬aa (β.ak b))/\¬ag (β.ak b)))
 (aJ:cg β H aI (H.set b o'))(ak:ft P w' aD aI (H.set b o') ag b o')(al:o'.refs (aH (H.set b o')))(ah:∀(o:Obj)(v:Nat),H[b]?=some o->o.has v->o'.has v)(ae:∀L,H[b]?=some (.loop L)->∃B,o'=.loop B)(ad:w'.os=w.os/\w'.output=w.output:=by exact⟨rfl,rfl⟩):
 bV P ag aa w β H aD w' aI (H.set b o'):=by
 have z:∀x o,x≠b->H[x]?=some o->o.live->¬aa (β.ak x)->o'.live->β.ak x≠aI.ak b:=by
  intro x o hx d hl i r he;rcases E r with a|⟨a,⟨am,c,e⟩,_⟩
  ·have:=g.nF d hl;omega
  ·rw[a]at he;exact hx (g.inj x b o am d c hl e i he)
 have S:o'.live->¬ag (aI.ak b):=by
  intro hl F;rcases E hl with a|⟨a,_,_,c⟩
  ·have:=g.eE _ F;omega
  ·rw[a]at F;exact c F
 have j:∀k,ag k\/aa k->w'.heap[k]?=w.heap[k]?:=by
  intro k hk;have Q:k<w.heap.size:=hk.elim (g.eE k) (g.bR k)
  by_cases u:k=aI.ak b
  ·by_cases hl:o'.live
   ·rcases hk with hk|hk
    ·exact(S hl (u▸hk)).elim
    ·rcases E hl with a|⟨a,_,c,_⟩
     ·omega
     ·rcases c with c|c
      ·exact c k (u.trans a)
      ·exact(c (by rw[<-a,<-u];exact hk)).elim
   ·exact I k (.inr hl) Q
  ·exact I k (.inl u) Q
 have aj:∀x,aH H x->aH (H.set b o') x:=by
  rintro⟨x,v⟩ ⟨o,d,R⟩
  by_cases hx:x=b
  ·subst hx;exact⟨o',by simp[hz q],ah o v d R⟩
  ·exact⟨o,by simp only;rw[hA (i7 hx)];exact d,R⟩
 have hrefs:∀v,aB (aH H) v->aB (aH (H.set b o')) v:=aB.mono aj;refine⟨f,fun k hk=>(O k hk).imp id (fun(h:k=aI.ak b/\o'.live)=>h.1▸S h.2),⟨U,j,ad⟩,aJ,⟨?_,?_,?_,af,fun k hk=>i3 (g.eE k hk) U,g.ja.mono f (fun k hk=>j k (.inr hk))⟩,aj,?_⟩
 ·intro x o d
  by_cases hx:x=b
  ·subst hx;rw[hz q]at d;cases d;exact ak
  ·rw[hA (i7 hx)]at d;have l:=g.cJ x o d;have A:=g.refs x o d;have N:=(m x hx).1;have D:=(m x hx).2;have hs:o.live->w'.heap[aI.ak x]?=w.heap[β.ak x]?:=by
    intro hl;rw[N]
    by_cases i:aa (β.ak x)
    ·exact j _ (.inr i)
    refine I _ ?_ (g.nF d hl)
    by_cases r:o'.live
    ·exact .inl (z x o hx d hl i r)
    ·exact .inr r
   have held:∀fz,o.live->cw aa β ag fz x->cw aD aI ag fz x:=by
    intro fz hl p;unfold cw at p⊢;rw[N];cases fz with
    |true=>simp only[if_true]at p⊢;exact f _ p
    |false=>
     simp only[cN,if_false]at p⊢;refine⟨fun h=>?_,p.2⟩;rcases O _ h with h|⟨h,r⟩
     ·exact p.1 h
     ·exact z x o hx d hl p.1 r h
   cases o with
   |hole=>trivial
   |dead=>trivial
   |box fz t=>
    obtain⟨cs,T,a,c,e,n⟩:=l;exact⟨cs,T,(hs trivial).trans a,bg.mono f (fun k hk=>j k (.inr hk)) aJ _ _ A c,held _ trivial e,n⟩
   |arr k an ai es=>
    rcases l with l|⟨cs,T,X,rest,a,c,e,n,Y,Z,ab,ac⟩
    ·exact .inl l
    ·by_cases hl:dc k es
     ·exact .inl hl
     ·refine .inr ⟨cs,T,X,rest,(hs hl).trans a,bG.mono f (fun k hk=>j k (.inr hk)) aJ _ _ _ A c,e,?_,?_,?_,held _ hl ab,ac⟩
      ·rw[D];exact n
      ·rw[D];exact Y
      ·rw[D];exact Z
   |map fz es=>
    obtain⟨C,clock,a,c,e⟩:=l;exact⟨C,clock,(hs trivial).trans a,cz.mono f (fun k hk=>j k (.inr hk)) _ _ c,held _ trivial e⟩
   |cT ks vs=>
    obtain⟨C,clock,a,c,e,n⟩:=l;exact⟨C,clock,(hs trivial).trans a,bf.mono f (fun k hk=>j k (.inr hk)) _ _ c,bh.mono f (fun k hk=>j k (.inr hk)) aJ _ _ A e,held _ trivial n⟩
   |dx s pos=>
    obtain⟨bs,a,c,e⟩:=l;exact⟨bs,(hs trivial).trans a,c,held _ trivial e⟩
   |loop L=>
    obtain⟨tmps,defers,fn,a,c,e,n⟩:=l;exact⟨tmps,defers,fn,(hs trivial).trans a,c,fun x=>ar.mono f (fun k hk=>j k (.inr hk)) aJ _ _ (A x) (e x),held _ trivial n⟩
 ·intro x y V W a c J K i he
  by_cases hx:x=b<;>by_cases hy:y=b
  ·rw[hx,hy]
  ·subst hx;rw[hz q]at a;cases a;rw[hA (i7 hy)]at c;rw[(m y hy).1]at he;exact(z y W hy c K (fun hi=>i (he▸f _ hi)) J he.symm).elim
  ·subst hy;rw[hz q]at c;cases c;rw[hA (i7 hx)]at a;rw[(m x hx).1]at he;rw[(m x hx).1]at i;exact(z x V hx a J (fun hi=>i (f _ hi)) K he).elim
  ·rw[hA (i7 hx)]at a;rw[hA (i7 hy)]at c;rw[(m x hx).1,(m y hy).1]at he;rw[(m x hx).1]at i;exact g.inj x y V W a c J K (fun hi=>i (f _ hi)) he
 ·intro x o d
  by_cases hx:x=b
  ·subst hx;rw[hz q]at d;cases d;exact al
  ·rw[hA (i7 hx)]at d;have:=g.refs x o d;cases o with
   |box fz t=>exact hrefs _ this
   |arr k an ai es=>exact cH.2 fun v G=>hrefs v (cH.1 this v G)
   |cT ks vs=>exact cH.2 fun v G=>hrefs v (cH.1 this v G)
   |loop L=>exact fun x=>hrefs _ (this x)
   |_=>trivial
 ·rintro x ⟨L,M⟩
  by_cases hx:x=b
  ·subst hx;obtain⟨B,rfl⟩:=ae L M;exact⟨B,hz q⟩
  ·exact⟨L,by rw[hA (i7 hx)];exact M⟩
end
end Go.aw
namespace Go.aw
variable[Gl]
def bm(P:c7)(o:Oper)(ρ:db->AV)(a:Nat)(e:aU):Prop:=
 ∀(H:Heap)(w:c9)(aa ag:Nat->Prop)(β:Bd)(ρc:db->c6),
  bX P w aa β H ag->(∀x∈o.op.operands,ar P w aa β H (ρ x) (ρc x)/\aB (aH H) (ρ x))->(∀p∈e.aj,H[p.1]?=some p.2)->(∀i,i<e.aS.length->H[a+i]?=some .hole)->
  ∃n b w' aI aD,(dk ρc o).run P w=.ok n w'/\(n=.value b\/n=.skip/\b=undef)/\
   bV P ag aa w β H aD w' aI (aX H (e.aG++newAt a e.aS))/\ar P w' aD aI (aX H (e.aG++newAt a e.aS)) e.v b/\
   aB (aH (aX H (e.aG++newAt a e.aS))) e.v
section
variable{P:c7}{ag aa aD:Nat->Prop}{w w':c9}{β aI:Bd}{H H':Heap}
theorem bV.refl(h:bX P w aa β H ag):bV P ag aa w β H aa w β H:=
 ⟨fun _ x=>x,fun _ x=>.inl x,Ext.refl _ _ _,cg.refl _ _,h,fun _ x=>x,fun _ x=>x⟩
theorem bm.same{o:Oper}{ρ:db->AV}{c:Nat}{v:AV}{aj:List (Nat×Obj)}
 (h:∀(H:Heap)(w:c9)(aa ag:Nat->Prop)(β:Bd)(ρc:db->c6),bX P w aa β H ag->(∀x∈o.op.operands,ar P w aa β H (ρ x) (ρc x)/\aB (aH H) (ρ x))->
  (∀p∈aj,H[p.1]?=some p.2)->∃a,(dk ρc o).run P w=.ok (.value a) w/\ar P w aa β H v a/\aB (aH H) v):
 bm P o ρ c {v,aj}:=by
 intro H w aa ag β ρc b i g _;obtain⟨a,d,e,f⟩:=h H w aa ag β ρc b i g;exact⟨_,a,w,β,aa,d,.inl rfl,by simpa[newAt,aX]using bV.refl b,by simpa[newAt,aX]using e,by simpa[newAt,aX]using f⟩
theorem bV.trans{i j:Nat->Prop}{w1 m:c9}{n o:Bd}{H1 g:Heap}(h:bV P ag aa w β H i w1 n H1)(c:bV P ag i w1 n H1 j m o g):bV P ag aa w β H j m o g:=by
 refine⟨fun k x=>c.bR k (h.bR k x),fun k x=>(c.fresh k x).elim (h.fresh k) .inr,h.ext.trans (fun _ x=>x) h.bR c.ext,⟨?_,?_,?_,?_,?_⟩,c.rel,fun b a=>c.fp b (h.fp _ a),fun b a=>c.loop b (h.loop b a)⟩
 ·intro b a hl;obtain⟨d,a2⟩:=c.step.box b (h.fp _ a) hl;obtain⟨e,f⟩:=h.step.box b a d;exact⟨e,a2.trans f⟩
 ·intro b a hl;obtain⟨d,a2⟩:=c.step.it b (h.fp _ a) hl;obtain⟨e,f⟩:=h.step.it b a d;exact⟨e,a2.trans f⟩
 ·intro b a hl;obtain⟨d,a2⟩:=c.step.map b (h.fp _ a) hl;obtain⟨e,f⟩:=h.step.map b a d;exact⟨e,a2.trans f⟩
 ·intro b an ai k r a hl;obtain⟨k1,s,d,a2,a3,a4⟩:=c.step.arr b an ai k r (h.fp _ a) hl;obtain⟨k0,gE,e,f,p,q⟩:=h.step.arr b an ai k1 s a d;refine⟨k0,gE,e,i1 f a2,a3.trans p,fun l=>?_⟩;obtain⟨c1,c2⟩:=a4 l;obtain⟨d1,d2⟩:=q (fun x=>l (a3.2 x));exact⟨c1.trans d1,c2.trans d2⟩
 ·intro b a hl;obtain⟨d,a2⟩:=c.step.loop b (h.fp _ a) hl;obtain⟨e,f⟩:=h.step.loop b a d;exact⟨e,a2.trans f⟩
theorem As(H:Heap)(l r:List (Nat×Obj)):aX H (l++r)=aX (aX H l) r:=by
 induction l generalizing H with
 |nil=>rfl
 |cons p l a=>obtain⟨b,o⟩:=p;simp[aX,a]
theorem om(H:Heap)(l:List (Nat×Obj)):(aX H l).length=H.length:=by
 induction l generalizing H with
 |nil=>rfl
 |cons p l a=>obtain⟨b,o⟩:=p;simp[aX,a]
theorem wW(H T:Heap)(l:List (Nat×Obj))(h:∀p∈l,p.1<H.length):aX (H++T) l=aX H l++T:=by
 induction l generalizing H with
 |nil=>rfl
 |cons p l c=>
  obtain⟨b,o⟩:=p;have a:b<H.length:=h (b,o) s_;simp only[aX];rw[List.set_append_left _ _ a,c];intro q hq;rw[h7];exact h q (by simp[hq])
theorem AJ(H:Heap)(l:List Obj):aX (H++hw l.length .hole) (newAt H.length l)=H++l:=by
 induction l generalizing H with
 |nil=>simp[newAt,aX]
 |cons o l a=>
  simp only[newAt,aX,hR,hN];rw[h2 _ _ (ip _)];simp only[Nat.sub_self,h3];have:=a (H++[o]);simp only[hT,List.length_singleton,hF,List.singleton_append]at this;exact this
theorem jW(H:Heap)(m b:Nat):(H++hw m Obj.hole)[b]?=if b<H.length then H[b]? else if b<H.length+m then some .hole else none:=by
 by_cases h:b<H.length
 ·simp[h,hK]
 ·rw[hO o_];simp only[hE,h,if_false]
  by_cases a:b<H.length+m
  ·simp[a,show b-H.length<m by omega]
  ·simp[a,show¬(b-H.length<m)by omega]
theorem mW{H:Heap}{m b:Nat}{o:Obj}(h:(H++hw m Obj.hole)[b]?=some o):H[b]?=some o\/o=.hole:=by
 rw[jW]at h
 split at h
 ·exact .inl h
 ·split at h
  ·exact .inr (by simpa using h.symm)
  ·simp at h
theorem ml(H:Heap)(m:Nat)(b:Nat×Nat)(h:aH H b):aH (H++hw m Obj.hole) b:=by
 obtain⟨o,a,d⟩:=h;have c:b.1<H.length:=(hv.1 a).1;exact⟨o,by rw[jW,if_pos c];exact a,d⟩
theorem ou(β:Bd)(H:Heap)(m:Nat):cg β H β (H++hw m .hole):=by
 refine⟨?_,?_,?_,?_,?_⟩
 ·rintro b _ ⟨fz,t,h⟩;rcases mW h with h|h<;>simp_all [mr]
 ·rintro b _ ⟨fz,t,h⟩;rcases mW h with h|h<;>simp_all [mu]
 ·rintro b _ ⟨o,h,a⟩;rcases mW h with h|rfl
  ·exact⟨⟨o,h,a⟩,rfl⟩
  ·exact a.elim
 ·intro b an ai k c _ h;rcases mW h with h|h
  ·exact⟨k,c,h,ip _,ht,fun _=>⟨rfl,rfl⟩⟩
  ·simp at h
 ·rintro b _ ⟨L,h⟩;rcases mW h with h|h<;>simp_all [gK]
theorem Obj.xA{S T:Nat×Nat->Prop}(h:∀x,S x->T x):∀{o:Obj},o.refs S->o.refs T
 | .box _ t,a=>aB.mono h t a
 | .arr _ _ _ es,a=>aR.mono h es a
 | .cT _ vs,a=>aR.mono h vs a
 | .loop _L,a=>fun x=>aB.mono h _ (a x)
 | .hole,_| .dead,_| .map _ _,_| .dx _ _,_=>trivial
theorem bX.mG(m:Nat)(h:bX P w aa β H ag):bX P w aa β (H++hw m .hole) ag:=by
 refine⟨?_,?_,?_,h.bR,h.eE,h.ja⟩
 ·intro b o d;rcases mW d with d|rfl
  ·have e:=h.cJ b o d;have g:=h.refs b o d;have st:=ou β H m;cases o with
   |hole=>trivial
   |dead=>trivial
   |box fz t=>
    obtain⟨cs,T,a,c,f⟩:=e;exact⟨cs,T,a,bg.mono (fun _ x=>x) (fun _ _=>rfl) st _ _ g c,f⟩
   |arr k an ai es=>
    rcases e with e|⟨cs,T,n,rest,a,c,f⟩
    ·exact .inl e
    ·exact .inr ⟨cs,T,n,rest,a,bG.mono (fun _ x=>x) (fun _ _=>rfl) st _ _ _ g c,f⟩
   |map fz es=>exact e
   |cT ks vs=>
    obtain⟨p,clock,a,c,f,i⟩:=e;exact⟨p,clock,a,c,bh.mono (fun _ x=>x) (fun _ _=>rfl) st _ _ g f,i⟩
   |dx s pos=>exact e
   |loop L=>
    obtain⟨tmps,defers,fn,a,c,f,i⟩:=e;exact⟨tmps,defers,fn,a,c,fun x=>ar.mono (fun _ x=>x) (fun _ _=>rfl) st _ _ (g x) (f x),i⟩
  ·trivial
 ·intro x y u v a c j l r q;rcases mW a with a|rfl
  ·rcases mW c with c|rfl
   ·exact h.inj x y u v a c j l r q
   ·exact l.elim
  ·exact j.elim
 ·intro b o d;rcases mW d with d|rfl
  ·exact Obj.xA (ml H m) (h.refs b o d)
  ·trivial
theorem bm.use{o:Oper}{ρ:db->AV}{e:aU}(h:bm P o ρ H.length e){ρc:db->c6}(k:bX P w aa β H ag)
 (c:∀x∈o.op.operands,ar P w aa β H (ρ x) (ρc x)/\aB (aH H) (ρ x))(aj:∀p∈e.aj,H[p.1]?=some p.2)(aG:∀p∈e.aG,p.1<H.length):
 ∃n a w' aI aD,(dk ρc o).run P w=.ok n w'/\(n=.value a\/n=.skip/\a=undef)/\
  bV P ag aa w β H aD w' aI (aX H e.aG++e.aS)/\ar P w' aD aI (aX H e.aG++e.aS) e.v a/\aB (aH (aX H e.aG++e.aS)) e.v:=by
 have aJ:=ou β H e.aS.length;obtain⟨n,a,w',aI,aD,m,q,d,f,g⟩:=h (H++hw e.aS.length .hole) w aa ag β ρc (k.mG _)
  (fun x hx=>⟨ar.mono (fun _ x=>x) (fun _ _=>rfl) aJ _ _ (c x hx).2 (c x hx).1,aB.mono (ml _ _) _ (c x hx).2⟩)
  (fun p s=>by have:=aj p s;rw[jW,if_pos (hv.1 this).1];exact this)
  (fun i hi=>by rw[jW,if_neg o_,if_pos o_])
 have r:aX (H++hw e.aS.length .hole) (e.aG++newAt H.length e.aS)=aX H e.aG++e.aS:=by
  rw[As,wW _ _ _ aG];have:=AJ (aX H e.aG) e.aS
  rwa [om]at this
 rw[r]at d f g;refine⟨n,a,w',aI,aD,m,q,?_,f,g⟩;have l:bV P ag aa w β H aa w β (H++hw e.aS.length .hole):=⟨fun _ x=>x,fun _ x=>.inl x,Ext.refl _ _ _,aJ,k.mG _,ml _ _,fun b⟨L,j⟩=>⟨L,by rw[jW,if_pos (hv.1 j).1];exact j⟩⟩
 exact l.trans d
theorem q9.use{f:dl}{args:List AV}{e:aU}(h:q9 P f args H.length e)(m:pc H e){c:List c6}(n:bX P w aa β H ag)(r:bh P w aa β H args c)(o:aR (aH H) args):
 eo P f c.toArray w fun x w'=>∃a aI aD,x=.returned a/\bV P ag aa w β H aD w' aI (aX H e.aG++e.aS)/\ar P w' aD aI (aX H e.aG++e.aS) e.v a/\aB (aH (aX H e.aG++e.aS)) e.v:=by
 have aJ:=ou β H e.aS.length;refine(h.2 (H++hw e.aS.length .hole) w aa ag β c (n.mG _)
  (bh.mono (fun _ x=>x) (fun _ _=>rfl) aJ _ _ o r) (aR.mono (ml _ _) _ o)
  (fun p d=>by have:=m.1 p d;rw[jW,if_pos (hv.1 this).1];exact this)
  (fun i hi=>by rw[jW,if_neg o_,if_pos o_])).mono ?_
 rintro x w' ⟨a,aI,aD,rfl,g,j,k⟩;have s:aX (H++hw e.aS.length .hole) (e.aG++newAt H.length e.aS)=aX H e.aG++e.aS:=by
  rw[As,wW _ _ _ (fun p d=>(m.2 p d).1)];have:=AJ (aX H e.aG) e.aS
  rwa [om]at this
 rw[s]at g j k;have q:bV P ag aa w β H aa w β (H++hw e.aS.length .hole):=⟨fun _ x=>x,fun _ x=>.inl x,Ext.refl _ _ _,aJ,n.mG _,ml _ _,fun b⟨L,l⟩=>⟨L,by rw[jW,if_pos (hv.1 l).1];exact l⟩⟩
 exact⟨a,aI,aD,rfl,q.trans g,j,k⟩
end
def ly(P:c7)(ah:dl->Bool):Prop:=
 ∀(o:Oper)(ρ:db->AV)(H:Heap)(K:aU->Prop),(∀v,ρ (.const v)=.p (ofConst v))->fy P ah o ρ H K->
  ∃e,K e/\bm P o ρ H.length e/\(∀p∈e.aj,H[p.1]?=some p.2)/\(∀p∈e.aG,p.1<H.length/\p.2≠.hole)
section
variable{P:c7}{ah:dl->Bool}{n:Nat}
theorem G8{w:c9}{aa:Nat->Prop}(v:c6):aA P w aa (ofConst v) v:=by
 unfold ofConst
 split<;>simp[aA]
theorem nI{ag aa:Nat->Prop}{β:Bd}{s:St}{t:Array c6}{w:c9}(h:cL P n ag aa β s t w)(x:db):
 ar P w aa β s.heap (ev s.env x) (fA t x)/\aB (aH s.heap) (ev s.env x):=by
 cases x with
 |tmp x=>exact⟨h.env x,h.gD x⟩
 |const v=>exact⟨by simp only[ev,fA,ar];exact G8 v,by simp[ev,aB]⟩
 |global g=>exact⟨by simp only[ev,fA,ar];exact h.heap.ja.val g,by simp[ev,aB]⟩
 |func f=>exact⟨by simp[ev,fA,ar,aA,bf],by simp[ev,aB]⟩
def iW(n:Nat)(o:Oper):Bool:=
 match o.dst with
 |some d=>decide (d<n)
 |none=>true
theorem uu(e:Env)(dst:Option Tmp)(v:AV)(x:Nat):aO (put dst v e) x=if dst=some x then v else aO e x:=by
 cases dst with
 |none=>simp[put]
 |some d=>
  simp only[put,aO,jp]
  by_cases h:x=d
  ·simp[h]
  ·simp[h,i7 h]
theorem UX{n:Nat}{o:Oper}(a:iW n o=true){t:Array c6}(c:t.size=n)(v:c6)(x:Nat):(mN o.dst v t).getD x undef=if o.dst=some x then v else t.getD x undef:=by
 unfold iW at a;cases b:o.dst with
 |none=>simp[mN]
 |some d=>
  simp only[b,decide_eq_true_eq]at a;simp only[mN,jp]
  by_cases h:d=x
  ·subst h;simp[c,a]
  ·simp only[h,if_false,bv,b3 h]
theorem UA{t:Array c6}(dst:Option Tmp)(v:c6):(mN dst v t).size=t.size:=by cases dst<;>simp[mN]
theorem cL.put{ag aa aD:Nat->Prop}{β aI:Bd}{s:St}{H':Heap}{t:Array c6}{w w':c9}{o:Oper}{v:AV}{b:c6}(h:cL P n ag aa β s t w)(c:iW n o=true)
 (a:bV P ag aa w β s.heap aD w' aI H')(e:ar P w' aD aI H' v b)(d:aB (aH H') v):
 cL P n ag aD aI ⟨put o.dst v s.env,H'⟩ (mN o.dst b t) w':=by
 refine⟨a.rel,fun x=>?_,fun x=>?_,by rw[UA];exact h.size⟩
 ·rw[uu,UX c h.size]
  split
  ·exact e
  ·exact ar.mono a.bR (fun k hk=>a.ext.same k (.inr hk)) a.step _ _ (h.gD x) (h.env x)
 ·rw[uu]
  split
  ·exact d
  ·exact aB.mono a.fp _ (h.gD x)
theorem I2{H T:Heap}{b:Nat×Nat}(h:aH H b):aH (H++T) b:=by
 obtain⟨o,a,c⟩:=h;exact⟨o,by rw[hK (hv.1 a).1];exact a,c⟩
theorem bX.later{ag aa aD:Nat->Prop}{w w':c9}{β:Bd}{H:Heap}(h:bX P w aa β H ag)(e:∀k,aa k->aD k)(hf:∀k,aD k->aa k\/w.heap.size<=k)
 (A:∀k,aD k->k<w'.heap.size)(p:w.heap.size<=w'.heap.size)(hs:∀k,k<w.heap.size->w'.heap[k]?=w.heap[k]?)(z:w'.os=w.os/\w'.output=w.output:=by exact⟨rfl,rfl⟩):bV P ag aa w β H aD w' β H:=by
 have same:∀k,aa k->w'.heap[k]?=w.heap[k]?:=fun k hk=>hs k (h.bR k hk);refine⟨e,fun k hk=>(hf k hk).imp id (fun c a=>by have:=h.eE k a;omega),⟨p,fun k hk=>hs k (hk.elim (h.eE k) (h.bR k)),z⟩,cg.refl _ _,?_,fun _ x=>x,fun _ x=>x⟩;refine⟨fun b o l=>?_,fun b b' o o' c a C D B=>h.inj b b' o o' c a C D (fun hi=>B (e _ hi)),h.refs,A,fun k hk=>i3 (h.eE k hk) p,h.ja.mono e same⟩;have f:=h.cJ b o l;have m:=h.refs b o l;have held:∀fz,o.live->cw aa β ag fz b->cw aD β ag fz b:=by
  intro fz hl j;have:=h.nF l hl;unfold cw at j⊢;cases fz with
  |true=>exact e _ j
  |false=>exact⟨fun x=>(hf _ x).elim j.1 o_,j.2⟩
 have i:o.live->w'.heap[β.ak b]?=w.heap[β.ak b]?:=fun hl=>hs _ (h.nF l hl);cases o with
 |hole=>trivial
 |dead=>trivial
 |box fz t=>
  obtain⟨cs,T,c,a,d,g⟩:=f;exact⟨cs,T,(i trivial).trans c,bg.mono e same (cg.refl _ _) _ _ m a,held _ trivial d,g⟩
 |arr k an ai es=>
  rcases f with f|⟨cs,T,q,rest,c,a,d,g,r,u,v,y⟩
  ·exact .inl f
  ·by_cases hl:dc k es
   ·exact .inl hl
   ·exact .inr ⟨cs,T,q,rest,(i hl).trans c,bG.mono e same (cg.refl _ _) _ _ _ m a,d,g,r,u,held _ hl v,y⟩
 |map fz es=>
  obtain⟨n,clock,c,a,d⟩:=f;exact⟨n,clock,(i trivial).trans c,cz.mono e same _ _ a,held _ trivial d⟩
 |cT ks vs=>
  obtain⟨n,clock,c,a,d,g⟩:=f;exact⟨n,clock,(i trivial).trans c,bf.mono e same _ _ a,bh.mono e same (cg.refl _ _) _ _ m d,held _ trivial g⟩
 |dx s pos=>
  obtain⟨bs,c,a,d⟩:=f;exact⟨bs,(i trivial).trans c,a,held _ trivial d⟩
 |loop L=>
  obtain⟨tmps,defers,fn,c,a,d,g⟩:=f;exact⟨tmps,defers,fn,(i trivial).trans c,a,fun x=>ar.mono e same (cg.refl _ _) _ _ (m x) (d x),held _ trivial g⟩
theorem ow{w:c9}{aa:Nat->Prop}{β:Bd}{H:Heap}:∀{a b:List AV}{x y:List c6},bh P w aa β H a x->bh P w aa β H b y->bh P w aa β H (a++b) (x++y)
 |[],b,x,y,h,c=>by simp only[bh]at h;subst h;simpa using c
 |v::a,b,x,y,h,c=>by
  simp only[bh]at h;obtain⟨z,f,rfl,d,e⟩:=h;simp only[hU,bh];exact⟨z,f++y,rfl,d,ow e c⟩
theorem jJ{S:Nat×Nat->Prop}{a b:List AV}(h:aR S a)(d:aR S b):aR S (a++b):=by
 rw[cH]at*;intro v c;rcases hS.1 c with c|c
 ·exact h v c
 ·exact d v c
theorem uw{ag aa:Nat->Prop}{β:Bd}{s:St}{t:Array c6}{w:c9}(h:cL P n ag aa β s t w):∀l:List db,
 bh P w aa β s.heap (l.map (ev s.env)) (l.map (fA t))/\aR (aH s.heap) (l.map (ev s.env))
 |[]=>by simp[bh,aR]
 |x::l=>by
  have a:=nI h x;have b:=uw h l;simp only[hM,bh,aR];exact⟨⟨_,_,rfl,a.1,b.1⟩,a.2,b.2⟩
end
section
variable{P:c7}{w:c9}{aa ag:Nat->Prop}{β:Bd}{H:Heap}
def Bd.at(β:Bd)(b ak cap:Nat):Bd:=⟨fun x=>if x=b then ak else β.ak x,fun x=>if x=b then cap else β.cap x⟩
theorem xF{b:Nat}(f:H[b]?=some .hole)(o':Obj)(ak cap:Nat):cg β H (β.at b ak cap) (H.set b o'):=by
 have a:∀{x v},aH H (x,v)->x≠b:=by
  rintro x v ⟨o,d,i⟩ rfl;simp only at d;rw[f]at d;cases d;exact i
 have c:∀{x v},aH H (x,v)->(H.set b o')[x]?=H[x]?:=fun hx=>hA (i7 (a hx));refine⟨?_,?_,?_,?_,?_⟩
 ·rintro x hx ⟨fz,t,h⟩;rw[c hx]at h;exact⟨⟨fz,t,h⟩,by simp[Bd.at,a hx]⟩
 ·rintro x hx ⟨fz,t,h⟩;rw[c hx]at h;exact⟨⟨fz,t,h⟩,by simp[Bd.at,a hx]⟩
 ·rintro x hx ⟨o,h,g⟩;rw[c hx]at h;exact⟨⟨o,h,g⟩,by simp[Bd.at,a hx]⟩
 ·intro x an ai k e hx h;unfold dT at h;rw[c hx]at h;exact⟨k,e,h,ip _,ht,fun _=>by simp[Bd.at,a hx]⟩
 ·rintro x hx ⟨L,h⟩;rw[c hx]at h;exact⟨⟨L,h⟩,by simp[Bd.at,a hx]⟩
theorem sn(e:bX P w aa β H ag){a:Nat}(b:H[a]?=some .hole){ob:Go.Obj}{o':Obj}{cap:Nat}
 (g:ft P {w with heap:=w.heap.push ob} aa (β.at a w.heap.size cap) (H.set a o') ag a o')(h:o'.refs (aH (H.set a o'))):
 bV P ag aa w β H aa {w with heap:=w.heap.push ob} (β.at a w.heap.size cap) (H.set a o'):=by
 refine bV.set e (hv.1 b).1 (fun x hx=>by simp[Bd.at,hx]) (fun _ x=>x) (fun _ x=>.inl x) (fun k hk=>by have:=e.bR k hk;simp;omega) s_
  (fun k _ hk=>by simp[cc,i6 hk]) (fun _=>.inl (by simp[Bd.at])) (xF b _ _ _) g h (fun i v c f=>by rw[b]at c;cases c;exact f.elim) (fun L d=>by rw[b]at d;cases d)
theorem um(w:c9)(a:Go.Obj){k:Nat}(hk:k<w.heap.size):({w with heap:=w.heap.push a}:c9).heap[k]?=w.heap[k]?:=by
 simp[cc,i6 hk]
end
section
variable{P:c7}{w:c9}{aa aD ag:Nat->Prop}{β:Bd}{H:Heap}
def Row(P:c7)(w:c9)(aa:Nat->Prop)(β:Bd)(H:Heap)(ai:Nat)(a:List AV)(b:List (List c6)):Prop:=bG P w aa β H (hw a.length ai) a b
theorem ia{ai:Nat}{a:List (List c6)}:Row P w aa β H ai [] a↔a=[]:=by simp[Row,bG]
theorem pQ{ai:Nat}{v:AV}{b:List AV}{a:List (List c6)}:Row P w aa β H ai (v::b) a↔∃c cs,a=c::cs/\bg P w aa β H v c/\c.length=ai/\Row P w aa β H ai b cs:=by
 simp[Row,hN,bG]
theorem kT{ai:Nat}:∀{a b:List AV}{d:List (List c6)},Row P w aa β H ai (a++b) d↔∃c1 c2,d=c1++c2/\Row P w aa β H ai a c1/\Row P w aa β H ai b c2
 |[],b,d=>by
  simp only[List.nil_append];constructor
  ·intro h;exact⟨[],d,rfl,ia.2 rfl,h⟩
  ·rintro⟨c1,c2,rfl,e,f⟩;rw[ia.1 e];simpa using f
 |v::a,b,d=>by
  simp only[hU,pQ];constructor
  ·rintro⟨c,cs,rfl,e,f,g⟩;obtain⟨c1,c2,rfl,i,j⟩:=kT.1 g;exact⟨c::c1,c2,rfl,⟨c,c1,rfl,e,f,i⟩,j⟩
  ·rintro⟨c1,c2,rfl,⟨c,cs,rfl,e,f,g⟩,i⟩;exact⟨c,cs++c2,rfl,e,f,kT.2 ⟨cs,c2,rfl,g,i⟩⟩
theorem fM{ai:Nat}:∀{b:List AV}{a:List (List c6)},Row P w aa β H ai b a->a.length=b.length/\a.flatten.length=b.length*ai
 |[],a,h=>by rw[ia]at h;subst h;simp
 |v::b,a,h=>by
  rw[pQ]at h;obtain⟨c,cs,rfl,f,d,e⟩:=h;have:=fM e;simp only[hR,hP,hT,this,d,i5];exact⟨trivial,o_⟩
theorem lH{ai:Nat}{a:List PV}{b:List (List c6)}:Row P w aa β H ai (a.map .p) b↔bc P w aa (hw a.length ai) a b:=by
 unfold Row;rw[List.length_map];exact nr
theorem jK{ai:Nat}{d:List AV}{e:List (List c6)}(h:Row P w aa β H ai d e)(off len:Nat)(hl:off+len<=d.length):
 ∃a b c,e=a++b++c/\Row P w aa β H ai ((d.drop off).take len) b/\a.flatten.length=off*ai/\Row P w aa β H ai (d.take off) a/\Row P w aa β H ai (d.drop (off+len)) c:=by
 have e1:d=d.take off++((d.drop off).take len++d.drop (off+len)):=by
  rw[<-ih,h1,h1]
 rw[e1,kT]at h;obtain⟨a,r,rfl,f,g⟩:=h;rw[kT]at g;obtain⟨b,c,rfl,i,j⟩:=g;refine⟨a,b,c,s_,i,?_,f,j⟩;have:=(fM f).2;rw[this,List.length_take,ix o_]
theorem lB{cs:Array c6}{T:c8}{fz:Nat×Nat}{ak:Nat}(a:w.heap[ak]?=some (.cells cs T fz)){pre xs post:List c6}(hc:cs.toList=pre++xs++post):
 gJ w ak pre.length xs:=by
 intro i hi;have:cs[pre.length+i]?=some xs[i]:=by
  rw[<-b0,hc,hF,hO o_];simp only[i0];rw[hK hi,hC hi]
 simp[hm,a,this]
theorem Ax(a:List PV)(off len:Nat):(((a.map AV.p).drop off).take len)=((a.drop off).take len).map .p:=by
 rw[<-List.map_drop,<-List.map_take]
theorem lI{H:Heap}{b:Nat}{d o:Obj}(c:H[b]?=some d)(e:∀v,d.has v->o.has v):∀x,aH H x->aH (H.set b o) x:=by
 rintro⟨x,v⟩ ⟨f,a,h⟩
 by_cases hx:b=x
 ·subst hx;simp only at a;rw[c]at a;cases a;exact⟨o,by simp only;rw[hz (hv.1 c).1],e v h⟩
 ·exact⟨f,by simp only;rw[hA hx];exact a,h⟩
theorem pJ{b:Nat}{o o':Obj}(m:H[b]?=some o)(hk:(∃f g t,o= .box f t/\o'= .box g t)\/(∃k n v z c,o= .arr k v z c/\o'= .arr n v z c/\¬dc k c/\¬dc n c)\/(∃f g c,o= .map f c/\o'= .map g c)):
 cg β H β (H.set b o'):=by
 have u:b<H.length:=(hv.1 m).1;have i:∀x,x≠b->(H.set b o')[x]?=H[x]?:=fun x hx=>hA (i7 hx);have e:(H.set b o')[b]?=some o':=hz u;refine⟨?_,?_,?_,?_,?_⟩
 ·rintro x _ ⟨fz,t,h⟩;refine⟨?_,rfl⟩
  by_cases hx:x=b
  ·subst hx;rw[e]at h;cases h;rcases hk with⟨f,g,l,d,a⟩|⟨_,_,_,_,_,_,a,_⟩|⟨_,_,_,_,a⟩
   ·exact⟨f,l,by rw[m,d]⟩
   ·cases a
   ·cases a
  ·rw[i x hx]at h;exact⟨fz,t,h⟩
 ·rintro x _ ⟨s,p,h⟩;refine⟨?_,rfl⟩
  by_cases hx:x=b
  ·subst hx;rw[e]at h;cases h;rcases hk with⟨f,g,l,d,a⟩|⟨_,_,_,_,_,_,a,_⟩|⟨_,_,_,_,a⟩<;>cases a
  ·rw[i x hx]at h;exact⟨s,p,h⟩
 ·rintro x _ ⟨w,h,j⟩;refine⟨?_,rfl⟩
  by_cases hx:x=b
  ·subst hx;rw[e]at h;cases h;rcases hk with⟨f,g,l,d,a⟩|⟨_,_,_,_,_,_,a,_⟩|⟨f,g,c,d,a⟩
   ·rw[a]at j;exact j.elim
   ·rw[a]at j;exact j.elim
   ·exact⟨o,m,by rw[d];trivial⟩
  ·rw[i x hx]at h;exact⟨w,h,j⟩
 ·intro x an ai k c _ h
  by_cases hx:x=b
  ·subst hx;unfold dT at h⊢;rw[e]at h;cases h;rcases hk with⟨f,g,l,d,a⟩|⟨k0,n,v,z,y,d,a,q,r⟩|⟨f,g,c,d,a⟩
   ·cases a
   ·cases a;exact⟨k0,c,by rw[m,d],ip _,⟨fun x=>(r x).elim,fun x=>(q x).elim⟩,fun _=>⟨rfl,rfl⟩⟩
   ·cases a
  ·unfold dT at h⊢;rw[i x hx]at h;exact⟨k,c,h,ip _,ht,fun _=>⟨rfl,rfl⟩⟩
 ·rintro x _ ⟨L,h⟩;refine⟨?_,rfl⟩
  by_cases hx:x=b
  ·subst hx;rw[e]at h;cases h;rcases hk with⟨f,g,l,d,a⟩|⟨_,_,_,_,_,_,a,_⟩|⟨_,_,_,_,a⟩<;>cases a
  ·rw[i x hx]at h;exact⟨L,h⟩
theorem cw.qE{fz:Bool}{b:Nat}(h:cw aa β ag fz b):aa (β.ak b)\/(¬aa (β.ak b)/\¬ag (β.ak b)):=by
 cases fz with
 |true=>exact .inl h
 |false=>exact .inr h
theorem pN(e:bX P w aa β H ag){b:Nat}{o o':Obj}(f:H[b]?=some o)(hl:o.live)(O:o'.live)(u:∀v,o.has v->o'.has v)(r:∀L,o≠ .loop L)
 (aJ:cg β H β (H.set b o'))(N:aa (β.ak b)\/(¬aa (β.ak b)/\¬ag (β.ak b)))
 (aS:∀aD:Nat->Prop,(∀k,aa k->aD k)->aD (β.ak b)->ft P w aD β (H.set b o') ag b o')(A:o'.refs (aH (H.set b o'))):
 ∃aD,bV P ag aa w β H aD w β (H.set b o')/\aD (β.ak b):=by
 have q:b<H.length:=(hv.1 f).1
 by_cases hi:aa (β.ak b)
 ·
  refine⟨aa,?_,hi⟩;have aj:=lI f u;refine⟨fun _ x=>x,fun _ x=>.inl x,Ext.refl _ _ _,aJ,⟨?_,?_,?_,e.bR,e.eE,e.ja⟩,aj,fun x⟨L,j⟩=>⟨L,by
   by_cases hx:b=x
   ·subst hx;rw[f]at j;cases j;exact(r L rfl).elim
   ·rw[hA hx];exact j⟩⟩
  ·intro x l d
   by_cases hx:x=b
   ·subst hx;rw[hz q]at d;cases d;exact aS aa (fun _ x=>x) hi
   ·rw[hA (i7 hx)]at d;have g:=e.cJ x l d;have m:=e.refs x l d;cases l with
    |hole=>trivial
    |dead=>trivial
    |box fz t=>
     obtain⟨cs,T,a,c,i⟩:=g;exact⟨cs,T,a,bg.mono (fun _ x=>x) (fun _ _=>rfl) aJ _ _ m c,i⟩
    |arr k an ai es=>
     rcases g with g|⟨cs,T,J,rest,a,c,i⟩
     ·exact .inl g
     ·exact .inr ⟨cs,T,J,rest,a,bG.mono (fun _ x=>x) (fun _ _=>rfl) aJ _ _ _ m c,i⟩
    |map fz es=>exact g
    |cT ks vs=>
     obtain⟨K,clock,a,c,i,p⟩:=g;exact⟨K,clock,a,c,bh.mono (fun _ x=>x) (fun _ _=>rfl) aJ _ _ m i,p⟩
    |dx s pos=>exact g
    |loop L=>
     obtain⟨tmps,defers,fn,a,c,i,p⟩:=g;exact⟨tmps,defers,fn,a,c,fun x=>ar.mono (fun _ x=>x) (fun _ _=>rfl) aJ _ _ (m x) (i x),p⟩
  ·intro x y D W a c S U Q M;have conv:∀(z:Nat)(n:Obj),(H.set b o')[z]?=some n->n.live->∃E:Obj,H[z]?=some E/\E.live:=by
    intro z n B V
    by_cases C:z=b
    ·subst C;exact⟨o,f,hl⟩
    ·rw[hA (i7 C)]at B;exact⟨n,B,V⟩
   obtain⟨F,G,c1⟩:=conv x D a S;obtain⟨a2,I,c2⟩:=conv y W c U;exact e.inj x y F a2 G I c1 c2 Q M
  ·intro x l d
   by_cases hx:x=b
   ·subst hx;rw[hz q]at d;cases d;exact A
   ·rw[hA (i7 hx)]at d;exact Obj.xA aj (e.refs x l d)
 ·refine⟨fun k=>aa k\/k=β.ak b,?_,.inr rfl⟩;have R:=N.resolve_left hi;exact bV.set e q (fun _ _=>⟨rfl,rfl⟩) (fun _ x=>.inl x) (fun k hk=>hk.imp id (fun h=>⟨h,O⟩)) (fun k hk=>hk.elim (e.bR k) (fun h=>h▸e.nF f hl)) (ip _)
   (fun _ _ _=>rfl) (fun _=>.inr ⟨rfl,⟨o,f,hl⟩,.inl (fun _ _=>rfl),R.2⟩) aJ (aS _ (fun _ x=>.inl x) (.inr rfl)) A (fun D v a c=>by rw[f]at a;cases a;exact u v c) (fun L j=>by rw[f]at j;cases j;exact(r L rfl).elim)
theorem IU{z:AV}{pv:PV}{H1:Heap}{v:c6}(d:kH H z=some (pv,H1))(i:bX P w aa β H ag)(f:ar P w aa β H z v)(Y:aB (aH H) z):
 ∃aD,bV P ag aa w β H aD w β H1/\aA P w aD pv v:=by
 cases z with
 |p t=>
  simp[kH]at d;obtain⟨rfl,rfl⟩:=d;exact⟨aa,bV.refl i,by simpa[ar]using f⟩
 |sl b an ai off len=>
  simp only[kH]at d
  split at d
  case h_2=>simp at d
  rename_i k Z W j g
  split at d
  case isFalse=>simp at d
  rename_i O;obtain⟨rfl,rfl,hl⟩:=O;simp only[ar]at f;obtain⟨_,f⟩:=f;simp only[bP]at f;obtain⟨v1,v2,v3⟩:=f k j g
  split at d
  ·rename_i u;simp at d;obtain⟨rfl,rfl⟩:=d;exact⟨aa,bV.refl i,by simp[aA,v2 u]⟩
  ·rename_i u
   split at d
   case h_2=>simp at d
   rename_i J R;simp at d;obtain⟨rfl,rfl⟩:=d;have A:=lG R;have E:=i.cJ b _ g;rcases E with E|⟨cs,T,F,rest,n,l,r,B,L,M,N,X⟩
   ·exact(u E).elim
   have I:¬dc .frozen j:=fun h=>by cases h.1
   have aJ:cg β H β (H.set b (.arr .frozen an ai j)):=pJ g (.inr (.inl ⟨_,_,_,_,_,rfl,rfl,u,I⟩));obtain⟨aD,q,y⟩:=pN i g u (o':=.arr .frozen an ai j) I (fun _ h=>h) (fun _ h=>by cases h) aJ N.qE
    (fun aD hi x=>.inr ⟨cs,T,F,rest,n,bG.mono hi (fun _ _=>rfl) aJ _ _ _ (i.refs b _ g) l,r,B,L,(fun h=>by cases h),x,fun _ e C=>(by rw[A]at C;simp at C;obtain⟨a,_,rfl⟩:=C;trivial),fun h=>by cases h⟩)
    (by rw[A];exact iR _ _)
   refine⟨aD,q,?_⟩;rw[v3 u];have S:Row P w aD β H ai j F:=bG.mono q.bR (fun _ _=>rfl) (cg.refl _ _) _ _ _ (i.refs b _ g) l;obtain⟨a,m,c,e1,e2,e3,e4,e5⟩:=jK S off len v1;rw[A,Ax,lH]at e2;have D:((J.drop off).take len).length=len:=by
    have:j.length=J.length:=by rw[A];simp
    simp;omega
   simp only[aA];refine⟨β.ak b,off*ai,β.cap b-off,ai,m,e2,fun _=>y,?_,?_,?_,none,.inl rfl,?_⟩
   ·rw[<-e3];exact lB n (post:=c.flatten++rest) (by rw[r,e1];simp)
   ·intro hf;simp at hf;rw[D,M hf.1];omega
   ·rw[D];omega
   ·rw[D]
 |ptr b path=>
  simp only[kH]at d
  split at d
  case h_2=>simp at d
  rename_i fz t g
  split at d
  case h_2=>simp at d
  rename_i s hs;simp at d;obtain⟨rfl,rfl⟩:=d;simp only[ar]at f;obtain⟨_,f⟩:=f;simp only[bP]at f;obtain⟨V,U,o,rfl,Q,f⟩:=f;obtain⟨rfl,rfl⟩:=f (.inl ⟨fz,_,g⟩);obtain⟨cs,T,n,l,r,B⟩:=i.cJ b _ g;have aJ:cg β H β (H.set b (.box true (.p t))):=pJ g (.inl ⟨_,_,_,rfl,rfl⟩);obtain⟨aD,q,y⟩:=pN i g trivial (o':=.box true (.p t)) trivial (fun _ h=>h) (fun _ h=>by cases h) aJ r.qE
   (fun aD hi x=>⟨cs,T,n,bg.mono hi (fun _ _=>rfl) aJ _ _ (by simp[aB]) l,x,fun _=>trivial,B.2⟩) (by simp[Obj.refs,aB])
  refine⟨aD,q,?_⟩;have K:aV P w aD t cs.toList:=by simp only[bg]at l;exact aV.mono q.bR (fun _ _=>rfl) _ _ l
  obtain⟨pre,xs,post,e1,e2,e3⟩:=xR K hs Q;simp only[aA];refine⟨β.ak b,U,xs,e3,y,?_,rfl⟩;rw[<-e2];exact lB n e1
 |map b=>
  simp only[kH]at d
  split at d
  case h_2=>simp at d
  rename_i fz j g;simp at d;obtain⟨rfl,rfl⟩:=d;simp only[ar]at f;obtain⟨_,f⟩:=f;simp only[bP]at f;have f:=f.1 ⟨_,g,trivial⟩;obtain⟨G,clock,n,l,r⟩:=i.cJ b _ g;have aJ:cg β H β (H.set b (.map true j)):=pJ g (.inr (.inr ⟨_,_,_,rfl,rfl⟩));obtain⟨aD,q,y⟩:=pN i g trivial (o':=.map true j) trivial (fun _ h=>h) (fun _ h=>by cases h) aJ r.qE
   (fun aD hi x=>⟨G,clock,n,cz.mono hi (fun _ _=>rfl) _ _ l,x⟩) trivial
  refine⟨aD,q,?_⟩;simp only[aA];exact⟨β.ak b,G,clock,y,n,cz.mono q.bR (fun _ _=>rfl) _ _ l,f⟩
 |b6=>simp[kH]at d
 |func=>simp[kH]at d
 |st=>simp[kH]at d
 |aE=>simp[kH]at d
end
section
variable{P:c7}{ah:dl->Bool}{n N:Nat}
theorem A8{w:c9}{β:Bd}{ag:Nat->Prop}:∀{e:List AV}{g:List PV}{H H1:Heap}{aa:Nat->Prop}{vs:List c6},mM H e=some (g,H1)->bX P w aa β H ag->
 bh P w aa β H e vs->aR (aH H) e->∃aD,bV P ag aa w β H aD w β H1/\bf P w aD g vs
 |[],g,H,H1,aa,vs,b,h,c,_=>by
  simp[mM]at b;obtain⟨rfl,rfl⟩:=b;simp only[bh]at c;exact⟨aa,bV.refl h,by simpa[bf]using c⟩
 |a::e,g,H,H1,aa,vs,b,h,c,f=>by
  simp only[mM]at b
  split at b
  case h_2=>simp at b
  rename_i v o j
  split at b
  case h_2=>simp at b
  rename_i r p k;simp at b;obtain⟨rfl,rfl⟩:=b;simp only[bh]at c;obtain⟨y,n,rfl,k1,k2⟩:=c;simp only[aR]at f;obtain⟨q,d,l⟩:=IU j h k1 f.1;obtain⟨i,q1,m⟩:=A8 k d.rel (bh.mono d.bR (fun _ _=>rfl) d.step _ _ f.2 k2) (aR.mono d.fp _ f.2);refine⟨i,d.trans q1,?_⟩;simp only[bf];exact⟨y,n,rfl,aA.mono q1.bR (fun _ _=>rfl) _ _ l,m⟩
def ke(P:c7)(n N:Nat)(fr:dq)(k:List Item)(cs:List dq)(c:Array Oper)(ag aa:Nat->Prop)(w:c9)(β:Bd)(H:Heap)(m:ed)(r:List Nat)(b:List dp)(K:St->Prop):Prop:=
 ∃s' aD aI a w',K s'/\eb P m (lone (bt fr a b (.inRegion c r::k)) cs w')/\cL P n ag aD aI s' a w'/\dI N ag aa w β H ag aD w' aI s'.heap
theorem RZ{d:Bool}{o:Oper}{K:St->Prop}{s:St}(h:jE P ah d o K s)(c:Call):o.op≠.defer c:=by
 intro hc;unfold jE at h;rw[hc]at h;simp[fy,hc]at h
variable{fr:dq}{k:List Item}{cs:List dq}{ops:Array Oper}{i:Nat}{r:List Nat}{ds:List dp}
theorem HH{d:Bool}{o:Oper}{f:db}{F:Array db}{ab:Array c8}{g:dl}{fi ca:List AV}{K:St->Prop}{s:St}{ag aa:Nat->Prop}{β:Bd}{t:Array c6}{w:c9}
 (W:o.op=.call {callee:=.value f,args:=F,argTypes:=ab})
 (hf:(ev s.env f=.func g fi ca)\/(∃a b,ev s.env f=.p (.func g a b)/\fi=a.map .p/\ca=b.map .p))
 (h:gM P d g (fi++F.toList.map (ev s.env)++ca) s.heap (fun v H'=>K ⟨put o.dst v s.env,H'⟩))
 (m:cL P n ag aa β s t w)(G:iW n o=true)(C:ops[i]?=some o)(M:gl o (yielded ops t)=true):
 ke P n N fr k cs ops ag aa w β s.heap (lone (bt fr t ds (.inRegion ops (i::r)::k)) cs w) r ds K:=by
 have E:=nI m f;obtain⟨y,u,am,al,ak,aq,ap⟩:∃y u:List c6,fA t f=.func (.func g) y.toArray u.toArray/\bh P w aa β s.heap fi y/\bh P w aa β s.heap ca u/\aR (aH s.heap) fi/\aR (aH s.heap) ca:=by
  rcases hf with hf|⟨a,b,hf,rfl,rfl⟩
  ·rw[hf]at E;simp only[ar,aB]at E;obtain⟨⟨y,u,l,j,z⟩,ad,ae⟩:=E;exact⟨y,u,z,l,j,ad,ae⟩
  ·rw[hf]at E;simp only[ar,aA]at E;obtain⟨⟨y,u,l,j,z⟩,_⟩:=E;exact⟨y,u,z,jB.2 l,jB.2 j,iR _ _,iR _ _⟩
 obtain⟨ah,ai⟩:=uw m F.toList;have D:=ow (ow al ah) ak;have Q:=jJ (jJ aq ai) ap;have q:(dk (fA t) o).run P w=(callFunc g (y++F.toList.map (fA t)++u).toArray).run P w:=by
  simp only[dk,W,resolve,am,e6,gy,g0,gx,invoke];congr 2;simp
 have L:∀c,o.op≠.defer c:=fun c hc=>by rw[W]at hc;cases hc
 have Z:∀(H1:Heap)(B:Nat->Prop)(vs:List PV)(v:PV),bV P ag aa w β s.heap B w β H1->bf P w B vs (y++F.toList.map (fA t)++u)->az P g vs v->
  K ⟨put o.dst (.p v) s.env,H1⟩->ke P n N fr k cs ops ag aa w β s.heap (lone (bt fr t ds (.inRegion ops (i::r)::k)) cs w) r ds K:=by
  intro H1 B vs v A Y I U;rcases I with⟨R,I⟩|I
  ·rw[R]at q;obtain⟨e,w',S,⟨O,aD,H,g1,g2,g3,g4,g5,ac,g6⟩,aJ,V,J⟩:=I w B _ A.rel.bR A.rel.ja Y (bt fr t ds (.inRegion ops (i::r)::k)::cs);subst H;have X:=A.trans (A.rel.later g1 g2 g3 g4 g5 ac);refine⟨_,aD,β,_,w',U,?_,m.put G X (by simpa[ar]using g6) (by simp[aB]),X.fe⟩;rw[<-mX C];exact(g9 (ui C M L q)).trans (ha aJ (.one (dz J)))
  ·obtain⟨O,l,j⟩:=I w B _ Y;rw[l]at q;exact⟨_,B,β,_,w,U,.one (rS C M L q (.inl rfl)),m.put G A (by simpa[ar]using j) (by simp[aB]),A.fe⟩
 rcases h with⟨vs,v,l,j,z⟩|⟨_,⟨vs,H1,v,l,j,z⟩|⟨H',v,⟨R,l⟩,j⟩|⟨e,T,ao,j⟩|⟨aj,v,af,an,j⟩⟩
 ·exact Z s.heap aa vs v (bV.refl m.heap) (by rw[l]at D;exact jB.1 D) j z
 ·obtain⟨B,au,av⟩:=A8 l m.heap D Q;exact Z H1 B vs v au av j z
 ·rw[R]at q;obtain⟨e,w',S,⟨O,aI,aD,H,g1,g2,g3⟩,aJ,V,J⟩:=l w aa ag β _ m.heap D Q (bt fr t ds (.inRegion ops (i::r)::k)::cs);subst H;refine⟨_,aD,aI,_,w',j,?_,m.put G g1 g2 g3,g1.fe⟩;rw[<-mX C];exact(g9 (ui C M L q)).trans (ha aJ (.one (dz J)))
 ·rw[T.1]at q;obtain⟨x,w',S,⟨O,aI,aD,H,g1,g2,g3⟩,aJ,V,J⟩:=T.use ao m.heap D Q (bt fr t ds (.inRegion ops (i::r)::k)::cs);subst H;refine⟨_,aD,aI,_,w',j,?_,m.put G g1 g2 g3,g1.fe⟩;rw[<-mX C];exact(g9 (ui C M L q)).trans (ha aJ (.one (dz J)))
 ·obtain⟨O,l,z⟩:=af s.heap w aa ag β _ m.heap D Q an;rw[l]at q;have A:=bV.refl m.heap;exact⟨_,aa,β,_,w,j,.one (rS C M L q (.inl rfl)),m.put G A (by simpa[ar]using z) (by simp[aB]),A.fe⟩
end
end Go.aw
namespace Go.aw
variable[Gl]
section
variable{P:c7}{ah:dl->Bool}{n N:Nat}
variable{fr:dq}{k:List Item}{cs:List dq}{ops:Array Oper}{i:Nat}{r:List Nat}{ds:List dp}
theorem Sj{o:Oper}{f:db}{a:Array db}{p:Array c8}{b:Nat}{H':Heap}{v:AV}{K:St->Prop}{s:St}{ag aa:Nat->Prop}{β:Bd}{t:Array c6}{w:c9}
 (l:o.op=.call {callee:=.value f,args:=a,argTypes:=p})(hf:ev s.env f=.map b)(m:iw P b s.heap (a.toList.map (ev s.env)) H' v)(x:K ⟨put o.dst v s.env,H'⟩)
 (d:cL P n ag aa β s t w)(A:iW n o=true)(j:ops[i]?=some o)(D:gl o (yielded ops t)=true):
 ke P n N fr k cs ops ag aa w β s.heap (lone (bt fr t ds (.inRegion ops (i::r)::k)) cs w) r ds K:=by
 have e:=(nI d f).1;rw[hf]at e;simp only[ar,bH,bP]at e;have B:=e.2.2 m.1;obtain⟨y,z⟩:=uw d a.toList;have h:(dk (fA t) o).run P w=(fl (β.ak b) (a.toList.map (fA t)).toArray).run P w:=by
  simp only[dk,l,resolve,B,e6,gy,g0,gx,invoke];congr 2;exact cy s_
 have C:∀c,o.op≠.defer c:=fun c hc=>by rw[l]at hc;cases hc
 obtain⟨g,tmps,assign,body,q,u⟩:=m.2 w aa ag β _ d.heap y z;rw[q]at h;obtain⟨E,w',aI,aD,g1,g2,g3,g4⟩:=u (bt fr t ds (.inRegion ops (i::r)::k)) cs;refine⟨_,aD,aI,_,w',x,?_,d.put A g2 g3 g4,g2.fe⟩;rw[<-mX j];exact(g9 (HT j D C h)).trans g1
theorem Jn(y:ly P ah){d:Bool}{o:Oper}{K:St->Prop}{s:St}{ag aa:Nat->Prop}{β:Bd}{t:Array c6}{w:c9}
 (h:jE P ah d o K s)(a:cL P n ag aa β s t w)(c:iW n o=true)(j:ops[i]?=some o)(l:gl o (yielded ops t)=true):
 ke P n N fr k cs ops ag aa w β s.heap (lone (bt fr t ds (.inRegion ops (i::r)::k)) cs w) r ds K:=by
 have E:=RZ h;have z:fy P ah o (ev s.env) s.heap (fun e=>K (e.app o.dst s))->ke P n N fr k cs ops ag aa w β s.heap (lone (bt fr t ds (.inRegion ops (i::r)::k)) cs w) r ds K:=by
  intro h;obtain⟨e,m,hs,aj,aG⟩:=y o _ _ _ (fun v=>rfl) h;obtain⟨nx,I,w',aI,aD,A,B,u,C,D⟩:=hs.use a.heap (fun x _=>nI a x) aj (fun p F=>(aG p F).1);exact⟨_,aD,aI,_,w',m,.one (rS j l E A B),a.put c u C D,u.fe⟩
 unfold jE at h
 split at h
 ·rename_i f args H q
  split at h
  ·rename_i g fi ca hf;exact HH q (.inr ⟨fi,ca,hf,rfl,rfl⟩) h a c j l
  ·rename_i g fi ca hf;exact HH q (.inl hf) h a c j l
  ·rename_i b hf;obtain⟨H',v,G,m⟩:=h;exact Sj q hf G m a c j l
  ·exact h.elim
 ·exact z h
theorem ke.mono{m:ed}{K a:St->Prop}{ag aa:Nat->Prop}{w:c9}{β:Bd}{H:Heap}(h:ke P n N fr k cs ops ag aa w β H m r ds K)(hk:∀s,K s->a s):ke P n N fr k cs ops ag aa w β H m r ds a:=by
 obtain⟨s',aD,aI,t',w',b,c⟩:=h;exact⟨s',aD,aI,t',w',hk _ b,c⟩
theorem xl{s:St}{ag aa:Nat->Prop}{β:Bd}{t:Array c6}{w:c9}(e:cL P n ag aa β s t w)(l:∀o∈ops.toList,iW n o=true)(j:Nat):
 (∀b,guardOf ops j s.env=.p (.bool b)->yielded ops t j=some b)/\(guardOf ops j s.env=.p (.aE [])->yielded ops t j=none):=by
 unfold guardOf yielded;cases k:ops[j]? with
 |none=>simp
 |some f=>
  simp only[i8];cases g:f.dst with
  |none=>simp
  |some d=>
   simp only[i8];have h:d<t.size:=by
    have:=l f (by rw[b2];exact b5 k);unfold iW at this;rw[g]at this;rw[e.size];simpa using this
   have a:=e.env d;have i:t[d]?=some (t.getD d undef):=by simp[cx,h]
   rw[i];constructor
   ·intro b c;rw[c]at a;simp only[ar,aA]at a;rw[a]
   ·intro c;rw[c]at a;simp only[ar,aA,bf]at a;obtain⟨xs,rfl,a⟩:=a;rw[a]
theorem Ir(f:ly P ah){d:Bool}(v:∀o∈ops.toList,iW n o=true):∀(l:List Oper)(i:Nat){K:St->Prop}{s:St}{ag aa:Nat->Prop}{β:Bd}{t:Array c6}{w:c9},
 ops.toList.drop i=l->gP P ah d ops l K s->cL P n ag aa β s t w->
 ke P n N fr k cs ops ag aa w β s.heap (lone (bt fr t ds (.inRegion ops (hV i l.length)::k)) cs w) [] ds K
 |[],i,K,s,ag,aa,β,t,w,hl,h,a=>⟨s,aa,β,t,w,h,hb _ _,a,dI.refl _ _ _ _ _ _⟩
 |o::l,i,K,s,ag,aa,β,t,w,hl,h,a=>by
  have e:ops[i]?=some o:=by
   have:(ops.toList.drop i)[0]?=some o:=by rw[hl];rfl
   rw[List.getElem?_drop]at this;simpa using this
  have E:ops.toList.drop (i+1)=l:=by
   rw[<-ih,hl];rfl
  have u:iW n o=true:=v o (by rw[b2];exact b5 e);have g:∀{ag aa w β H}{m:ed},ke P n N fr k cs ops ag aa w β H m (hV (i+1) l.length) ds (gP P ah d ops l K)->ke P n N fr k cs ops ag aa w β H m [] ds K:=by
   intro ag aa w β H m D;obtain⟨s',aD,aI,J,w',z,A,B,C⟩:=D;obtain⟨s2,y,I,t2,G,g1,g2,g3,g4⟩:=Ir f v l (i+1) E z B;exact⟨s2,y,I,t2,G,g1,A.trans g2,g3,C.trans g4⟩
  rw[hR,List.range'_succ]
  have skip:gP P ah d ops l K ⟨put o.dst (.p (.aE [])) s.env,s.heap⟩->gl o (yielded ops t)=false->
   ke P n N fr k cs ops ag aa w β s.heap (lone (bt fr t ds (.inRegion ops (i::hV (i+1) l.length)::k)) cs w) [] ds K:=by
   intro hk F;refine g ⟨_,aa,β,_,w,hk,.one (IC e F),a.put u (bV.refl a.heap) (by simp[ar,aA,bf,undef]) (by simp[aB]),dI.refl _ _ _ _ _ _⟩
  simp only[gP]at h
  split at h
  ·rename_i c;exact g (Jn f h a u e (by simp[gl,c]))
  ·rename_i j L c;obtain⟨g1,g2⟩:=xl a v j
   split at h
   ·rename_i b q;have x:=g1 b q
    split at h
    ·rename_i r;exact g (Jn f h a u e (by simp[gl,c,x,r]))
    ·rename_i r;exact skip h (by simp[gl,c,x,r])
   ·rename_i q;exact skip h (by simp[gl,c,g2 q])
   ·exact h.elim
theorem aAd{H:Heap}{b v:Nat}(h:H[b]?=none\/H[b]?=some .hole):¬aH H (b,v):=by
 rintro⟨o,a,c⟩;rcases h with h|h
 ·simp only at a;rw[h]at a;cases a
 ·simp only at a;rw[h]at a;cases a;exact c
theorem oY.step{s s':St}{β:Bd}(hf:oY s s'):cg β s.heap β s'.heap:=by
 refine⟨?_,?_,?_,?_,?_⟩
 ·rintro b _ ⟨fz,t,a⟩;rcases hf.heap b _ a with h|h|⟨_,k,z,h,_⟩|⟨v,v',h,_,_⟩
  ·cases h
  ·exact⟨⟨fz,t,h⟩,rfl⟩
  ·cases h
  ·exact⟨⟨_,_,h⟩,rfl⟩
 ·rintro b _ ⟨fz,t,a⟩;rcases hf.heap b _ a with h|h|⟨_,k,z,h,_⟩|⟨v,v',_,h,_⟩
  ·cases h
  ·exact⟨⟨fz,t,h⟩,rfl⟩
  ·cases h
  ·cases h
 ·rintro b _ ⟨o,a,c⟩;rcases hf.heap b _ a with h|h|⟨_,k,z,h,_⟩|⟨v,v',_,h,_⟩
  ·rw[h]at c;exact c.elim
  ·exact⟨⟨o,h,c⟩,rfl⟩
  ·rw[h]at c;exact c.elim
  ·rw[h]at c;exact c.elim
 ·intro b an ai k d hi a;rcases hf.heap b _ a with h|h|⟨e,_⟩|⟨v,v',_,h,_⟩
  ·cases h
  ·exact⟨k,d,h,ip _,ht,fun _=>⟨rfl,rfl⟩⟩
  ·exact(aAd e hi).elim
  ·cases h
 ·rintro b _ ⟨L,a⟩;rcases hf.heap b _ a with h|h|⟨_,k,z,h,_⟩|⟨v,v',_,h,_⟩
  ·cases h
  ·exact⟨⟨L,h⟩,rfl⟩
  ·cases h
  ·cases h
section YI
variable{w:c9}{aa:Nat->Prop}{β:Bd}{T:Heap}
theorem M8{b an ai off len:Nat}(h:an=0/\off=0/\len=0/\∃k z,T[b]?=some (.arr k 0 z [])/\k.gr=true):bH P β T (.sl b an ai off len) (.slice none 0 0):=by
 obtain⟨rfl,rfl,rfl,k,z,a,c⟩:=h;refine⟨by simp[hd],fun e d hl=>?_⟩;unfold dT at hl;rw[a]at hl;cases hl;exact⟨s_,fun _=>rfl,fun h=>(h ⟨c,rfl⟩).elim⟩
mutual
theorem fS.cells:∀(v:PV)(x:AV)(cs:List c6),fS T v x->aV P w aa v cs->bg P w aa β T x cs
 | .aK,x,cs,h,hc=>by
  simp only[fS]at h;rcases h with rfl|h
  ·simpa only[bg]using hc
  ·cases x<;>simp only at h<;>try exact h.elim
   simp only[aV]at hc;simp only[bg];exact⟨_,hc,M8 h⟩
 | .st u fs,x,cs,h,hc=>by
  simp only[fS]at h;rcases h with rfl|h
  ·simpa only[bg]using hc
  ·cases x<;>simp only at h<;>try exact h.elim
   obtain⟨rfl,h⟩:=h;simp only[aV]at hc;obtain⟨l,a,d,e,f⟩:=hc;simp only[bg];exact⟨l,a,d,kL.cells l fs _ a h e,f⟩
 | .undef,x,cs,h,hc| .bool _,x,cs,h,hc| .int _ _,x,cs,h,hc| .str _,x,cs,h,hc| .dE,x,cs,h,hc| .cq _,x,cs,h,hc| .bE _ _,x,cs,h,hc| .seq _,x,cs,h,hc| .fx,x,cs,h,hc| .eS _,x,cs,h,hc| .func _ _ _,x,cs,h,hc| .gW,x,cs,h,hc| .fP,x,cs,h,hc| .aE _,x,cs,h,hc=>by
  simp only[fS]at h;subst h;simpa only[bg]using hc
theorem kL.cells:∀(l:List Nat)(fs:List PV)(b:List AV)(a:List (List c6)),kL T fs b->bc P w aa l fs a->bG P w aa β T l b a
 |l,[],b,a,h,hc=>by
  simp only[kL]at h;subst h;cases l<;>simp_all [bG,bc]
 |l,v::vs,b,a,h,hc=>by
  cases b with
  |nil=>simp[kL]at h
  |cons g b=>
   simp only[kL]at h;cases l with
   |nil=>simp[bc]at hc
   |cons n l=>
    simp only[bc]at hc;obtain⟨c,cs,d,e,f,i⟩:=hc;simp only[bG];exact⟨c,cs,d,fS.cells v g c h.1 e,f,kL.cells l vs b cs h.2 i⟩
end
theorem fS.DW(v:PV)(x:AV)(y:c6)(h:fS T v x)(hc:aA P w aa v y):ar P w aa β T x y:=by
 cases v
 case aK=>
  simp only[fS]at h;rcases h with rfl|h
  ·simpa only[ar]using hc
  ·cases x<;>simp only at h<;>try exact h.elim
   simp only[aA]at hc;subst hc;simp only[ar];exact M8 h
 case st u fs=>
  simp only[fS]at h;rcases h with rfl|h
  ·simpa only[ar]using hc
  ·cases x<;>simp only at h<;>try exact h.elim
   obtain⟨rfl,h⟩:=h;simp only[aA]at hc;obtain⟨l,a,b,c,d⟩:=hc;simp only[ar];exact⟨l,a,b,kL.cells l fs _ a h c,d⟩
 all_goals simp only[fS]at h;subst h;simpa only[ar]using hc
mutual
theorem Gh.cells:∀(v x:AV)(cs:List c6),Gh T v x->bg P w aa β T v cs->bg P w aa β T x cs
 | .p v,x,cs,h,hc=>by simp only[Gh]at h;simp only[bg]at hc;exact fS.cells v x cs h hc
 | .st u fs,x,cs,h,hc=>by
  simp only[Gh]at h;cases x<;>simp only at h<;>try exact h.elim
  obtain⟨rfl,h⟩:=h;simp only[bg]at hc⊢;obtain⟨l,a,d,e,f⟩:=hc;exact⟨l,a,d,ma.cells l fs _ a h e,f⟩
 | .ptr _ _,x,cs,h,hc| .b6 _ _ _ _ _,x,cs,h,hc| .sl _ _ _ _ _,x,cs,h,hc| .map _,x,cs,h,hc| .func _ _ _,x,cs,h,hc| .aE _,x,cs,h,hc=>by simp only[Gh]at h;subst h;exact hc
theorem ma.cells:∀(l:List Nat)(fs b:List AV)(a:List (List c6)),ma T fs b->bG P w aa β T l fs a->bG P w aa β T l b a
 |l,[],b,a,h,hc=>by simp only[ma]at h;subst h;exact hc
 |l,v::vs,b,a,h,hc=>by
  cases b with
  |nil=>simp[ma]at h
  |cons g b=>
   simp only[ma]at h;cases l with
   |nil=>simp[bG]at hc
   |cons n l=>
    simp only[bG]at hc⊢;obtain⟨c,cs,d,e,f,i⟩:=hc;exact⟨c,cs,d,Gh.cells v g c h.1 e,f,ma.cells l vs b cs h.2 i⟩
end
theorem Gh.DW(v x:AV)(y:c6)(h:Gh T v x)(hc:ar P w aa β T v y):ar P w aa β T x y:=by
 cases v
 case p v=>simp only[Gh]at h;simp only[ar]at hc;exact fS.DW v x y h hc
 case st u fs=>
  simp only[Gh]at h;cases x<;>simp only at h<;>try exact h.elim
  obtain⟨rfl,h⟩:=h;simp only[ar]at hc⊢;obtain⟨l,a,b,c,d⟩:=hc;exact⟨l,a,b,ma.cells l fs _ a h c,d⟩
 all_goals simp only[Gh]at h;subst h;exact hc
theorem fS.aL{v:PV}{x:AV}(h:fS T v x):ad x=aw.aL v:=by
 cases v
 case aK=>
  simp only[fS]at h;rcases h with rfl|h
  ·rfl
  ·cases x<;>simp only at h<;>first|exact h.elim|rfl
 case st u fs=>
  simp only[fS]at h;rcases h with rfl|h
  ·rfl
  ·cases x<;>simp only at h<;>try exact h.elim
   simp[ad,aw.aL,h.1]
 all_goals simp only[fS]at h;subst h;rfl
theorem Gh.aL{v x:AV}(h:Gh T v x):ad x=ad v:=by
 cases v
 case p v=>simp only[Gh]at h;exact h.aL
 case st u fs=>
  simp only[Gh]at h;cases x<;>simp only at h<;>try exact h.elim
  simp[ad,h.1]
 all_goals simp only[Gh]at h;subst h;rfl
end YI
theorem bC.fe{s s':St}{β:Bd}{ag aa:Nat->Prop}{w:c9}(hf:bC N s s'):dI N ag aa w β s.heap ag aa w β s'.heap:=by
 rcases hf with rfl|hf
 ·exact dI.refl _ _ _ _ _ _
 ·exact⟨fun _ h=>h,fun _ h=>h,fun _ h=>.inl h,Ext.refl _ _ _,hf.1.step.n,fun x hn⟨o,d,c⟩=>⟨o,by rw[hf.2 _ hn];exact d,c⟩,fun b hn⟨L,a⟩=>⟨L,by rw[hf.2 _ hn];exact a⟩⟩
theorem oY.rel{s s':St}{ag aa:Nat->Prop}{β:Bd}{t:Array c6}{w:c9}(hf:oY s s')(h:cL P n ag aa β s t w):cL P n ag aa β s' t w:=by
 have aJ:cg β s.heap β s'.heap:=hf.step;refine⟨⟨?_,?_,hf.hrefs,h.heap.bR,h.heap.eE,h.heap.ja⟩,fun x=>?_,hf.gD,h.size⟩
 ·intro b o E;rcases hf.heap b o E with rfl|i|⟨_,k,z,rfl,hk⟩|⟨v,v',i,rfl,q⟩
  ·trivial
  rotate_left
  ·exact .inl ⟨hk,rfl⟩
  ·have d:=h.heap.cJ b _ i;have g:=h.heap.refs b _ i;obtain⟨cs,T,a,c,e,l,C⟩:=d;exact⟨cs,T,a,Gh.cells _ _ _ q (bg.mono (fun _ x=>x) (fun _ _=>rfl) aJ _ _ g c),e,(fun h=>by cases h),by rw[q.aL];exact C⟩
  ·have d:=h.heap.cJ b o i;have g:=h.heap.refs b o i;cases o with
   |hole=>trivial
   |dead=>trivial
   |box fz t=>
    obtain⟨cs,T,a,c,e⟩:=d;exact⟨cs,T,a,bg.mono (fun _ x=>x) (fun _ _=>rfl) aJ _ _ g c,e⟩
   |arr k an ai es=>
    rcases d with d|⟨cs,T,A,rest,a,c,e⟩
    ·exact .inl d
    ·exact .inr ⟨cs,T,A,rest,a,bG.mono (fun _ x=>x) (fun _ _=>rfl) aJ _ _ _ g c,e⟩
   |map fz es=>exact d
   |cT ks vs=>
    obtain⟨B,clock,a,c,e,l⟩:=d;exact⟨B,clock,a,c,bh.mono (fun _ x=>x) (fun _ _=>rfl) aJ _ _ g e,l⟩
   |dx s pos=>exact d
   |loop L=>
    obtain⟨tmps,defers,fn,a,c,e,l⟩:=d;exact⟨tmps,defers,fn,a,c,fun x=>ar.mono (fun _ x=>x) (fun _ _=>rfl) aJ _ _ (g x) (e x),l⟩
 ·intro x y H I a c m p D f;have u:∀{z:Nat}{o:Obj},s'.heap[z]?=some o->o.live->∃o',s.heap[z]?=some o'/\o'.live:=by
   intro z o j hl;rcases hf.heap z o j with rfl|j|⟨_,k,_,rfl,hk⟩|⟨v,v',j,_,_⟩
   ·exact hl.elim
   ·exact⟨o,j,hl⟩
   ·exact(hl ⟨hk,rfl⟩).elim
   ·exact⟨_,j,trivial⟩
  obtain⟨F,a,m⟩:=u a m;obtain⟨G,c,p⟩:=u c p;exact h.heap.inj x y F G a c m p D f
 ·have r:=ar.mono (fun _ x=>x) (fun _ _=>rfl) aJ _ _ (h.gD x) (h.env x);rcases hf.env x with f|f|f
  ·rw[f];exact r
  ·rw[f];simp[ar,aA]
  ·exact Gh.DW _ _ _ f r
theorem bC.rel{s s':St}{ag aa:Nat->Prop}{β:Bd}{t:Array c6}{w:c9}(hf:bC N s s')(h:cL P n ag aa β s t w):cL P n ag aa β s' t w:=by
 rcases hf with rfl|hf
 ·exact h
 ·exact hf.1.rel h
def mE(P:c7)(fr:dq)(k:List Item)(cs:List dq)(m:ed)(t:Array c6)(ds:List dp)(w:c9):bp->Prop
 | .normal=>eb P m (lone (bt fr t ds k) cs w)
 | .exit id=>∃a,exitTo id a=exitTo id k/\eb P m (lone (bt fr t ds (.code (.exit id)::a)) cs w)
 | .ret=>∃a,eb P m (lone (bt fr t ds (.code .ret::a)) cs w)
theorem mE.of_steps{m f:ed}{t:Array c6}{ds:List dp}{w:c9}{e:bp}(h:eb P m f)(c:mE P fr k cs f t ds w e):mE P fr k cs m t ds w e:=by
 cases e with
 |normal=>exact h.trans c
 |exit id=>obtain⟨d,a,b⟩:=c;exact⟨d,a,h.trans b⟩
 |ret=>obtain⟨d,b⟩:=c;exact⟨d,h.trans b⟩
def mark(r:Nat):dp:={target:=.collected r,args:=#[]}
def Marks(fr:dq)(ag:Nat->Prop)(w:c9)(jV aD:Nat->Prop)(w':c9)(b c:List dp):Prop:=
 ∃a:List Nat,c=a.map mark++b/\a.Nodup/\(∀r∈a,w.heap.size<=r/\jV r/\¬aD r/\w'.heap[r]?=some (.deferred (some [])))/\(∀k,jV k->ag k\/k∈a)/\(fr.roundOf.isSome=true->a=[])
theorem Marks.refl(fr:dq)(ag aD:Nat->Prop)(w w':c9)(ds:List dp):Marks fr ag w ag aD w' ds ds:=⟨[],rfl,List.nodup_nil,s_,fun _ h=>.inl h,fun _=>rfl⟩
theorem Marks.trans{fr:dq}{N:Nat}{ag aa d e g f:Nat->Prop}{w w1 l:c9}{β p B:Bd}{H H1 q:Heap}{ds m n:List dp}(h:Marks fr ag w d e w1 ds m)(i:dI N ag aa w β H d e w1 p H1)
 (s:Marks fr d w1 g f l m n)(j:dI N d e w1 p H1 g f l B q):Marks fr ag w g f l ds n:=by
 obtain⟨rs,rfl,t,o,u,v⟩:=h;obtain⟨A,rfl,g2,g3,g4,g5⟩:=s;refine⟨A++rs,s_,?_,?_,?_,fun hx=>by simp[v hx,g5 hx]⟩
 ·rw[List.nodup_append];refine⟨g2,t,fun a i b y x=>?_⟩;subst x;have C:=(g3 a i).1;have D:=(bl.1 (o a y).2.2.2).1;omega
 ·intro r c;rcases hS.1 c with c|c
  ·obtain⟨k1,k2⟩:=g3 r c;exact⟨i1 i.ext.size k1,k2⟩
  ·obtain⟨k1,k2,k3,k4⟩:=o r c;exact⟨k1,j.eE _ k2,fun hx=>(j.fresh _ hx).elim k3 (fun z=>z k2),(j.ext.same _ (.inl k2)).trans k4⟩
 ·intro k hk;rcases g4 k hk with hk|hk
  ·rcases u k hk with hk|hk
   ·exact .inl hk
   ·exact .inr (by simp[hk])
  ·exact .inr (by simp[hk])
def qA(N:Nat)(fr:dq)(β:Bd)(H:Heap):Prop:=∀l,fr.roundOf=some l->∃b,b<N/\gK H b/\β.ak b=l
theorem qA.fe{fr:dq}{β aI:Bd}{H H':Heap}{ag aa jV aD:Nat->Prop}{w w':c9}(h:qA N fr β H)(e:dI N ag aa w β H jV aD w' aI H'):qA N fr aI H':=by
 intro l hl;obtain⟨b,a,c,f⟩:=h l hl;have d:=e.loop b a c;obtain⟨L,g⟩:=c;exact⟨b,a,d,((e.step.loop b a ⟨_,g,trivial⟩ d).2).trans f⟩
def pR(P:c7)(n N:Nat)(fr:dq)(k:List Item)(cs:List dq)(ag aa:Nat->Prop)(w:c9)(β:Bd)(H:Heap)(m:ed)(c:List dp)(Q:bp->St->Prop):Prop:=
 ∃e s' jV aD aI b w' a,Q e s'/\mE P fr k cs m b a w' e/\cL P n jV aD aI s' b w'/\dI N ag aa w β H jV aD w' aI s'.heap/\Marks fr ag w jV aD w' c a
theorem pR.of{k:List Item}{ag aa:Nat->Prop}{w:c9}{β:Bd}{H:Heap}{m:ed}{ds:List dp}{Q:bp->St->Prop}{e:bp}{s':St}{aD:Nat->Prop}{aI:Bd}{a:Array c6}{w':c9}(hq:Q e s')(hl:mE P fr k cs m a ds w' e)
 (c:cL P n ag aD aI s' a w')(b:dI N ag aa w β H ag aD w' aI s'.heap):pR P n N fr k cs ag aa w β H m ds Q:=⟨e,s',ag,aD,aI,a,w',ds,hq,hl,c,b,Marks.refl _ _ _ _ _ _⟩
theorem pR.next{k:List Item}{ag aa b a:Nat->Prop}{w c:c9}{β i:Bd}{H H1:Heap}{m g:ed}{d e:List dp}{Q:bp->St->Prop}(f:dI N ag aa w β H b a c i H1)(p:Marks fr ag w b a c d e)(aJ:eb P m g)
 (h:pR P n N fr k cs b a c i H1 g e Q):pR P n N fr k cs ag aa w β H m d Q:=by
 obtain⟨e2,s2,l,j,r,t2,q,o,g1,g2,g3,g4,g5⟩:=h;exact⟨e2,s2,l,j,r,t2,q,o,g1,.of_steps aJ g2,g3,f.trans g4,p.trans f g5 g4⟩
def codeOk(fit:Nat->Array Oper->Bool)(n:Nat):Code->Bool
 | .region _ ops draw=>ops.toList.all (iW n)&&(!draw||fit n ops)
 | .seq a b=>codeOk fit n a&&codeOk fit n b
 | .cond _ a b=>codeOk fit n a&&codeOk fit n b
 | .block _ b| .scope b| .loop b=>codeOk fit n b
 | .rangeFunc _ _ a b=>codeOk fit n a&&codeOk fit n b
 |_=>true
def se(P:c7)(ah:dl->Bool)(fit:Nat->Array Oper->Bool):Prop:=
 ∀(n N:Nat)(a:Array Oper)(fr:dq)(k:List Item)(cs:List dq)(b:List dp)(c:Nat)(K:St->Prop)(s:St)(ag aa:Nat->Prop)(β:Bd)(t:Array c6)(w:c9),
  fit n a=true->(∀o∈a.toList,iW n o=true)->gh P ah a a.toList 0 [] K s->cL P n ag aa β s t w->
  ke P n N fr k cs a ag aa w β s.heap (lone (bt fr t b (.inRegion a (gm (P.follows .mixedOrders) a c)::k)) cs w) [] b K
theorem cL.draw{s:St}{ag aa:Nat->Prop}{β:Bd}{t:Array c6}{w w':c9}(a:w'.heap=w.heap)(h:cL P n ag aa β s t w):cL P n ag aa β s t w':=
 ⟨h.heap.uD a,fun x=>ar.mono (fun _ x=>x) (fun _ _=>by rw[a]) (cg.refl _ _) _ _ (h.gD x) (h.env x),h.gD,h.size⟩
section rf
variable{w w':c9}{aa ag:Nat->Prop}{β:Bd}{H:Heap}
theorem bX.Ji(h:bX P w aa β H ag){x:Nat}(hx:x<w.heap.size)(u:∀(b:Nat)(o:Obj),H[b]?=some o->o.live->β.ak b≠x):bX P w aa β H (fun k=>ag k\/k=x):=by
 refine⟨fun b o l=>?_,h.inj,h.refs,h.bR,fun k hk=>hk.elim (h.eE k) (fun e=>e▸hx),h.ja⟩;have held:∀fz,o.live->cw aa β ag fz b->cw aa β (fun k=>ag k\/k=x) fz b:=by
  intro fz hl i;unfold cw at i⊢;cases fz with
  |true=>exact i
  |false=>exact⟨i.1,fun v=>v.elim i.2 (u b o l hl)⟩
 have f:=h.cJ b o l;cases o with
 |hole=>trivial
 |dead=>trivial
 |box fz t=>obtain⟨cs,T,a,c,d,g⟩:=f;exact⟨cs,T,a,c,held _ trivial d,g⟩
 |arr k an ai es=>
  rcases f with f|⟨cs,T,m,rest,a,c,d,g,n,p,q,r⟩
  ·exact .inl f
  ·by_cases hl:dc k es
   ·exact .inl hl
   ·exact .inr ⟨cs,T,m,rest,a,c,d,g,n,p,held _ hl q,r⟩
 |map fz es=>obtain⟨j,clock,a,c,d⟩:=f;exact⟨j,clock,a,c,held _ trivial d⟩
 |cT ks vs=>obtain⟨j,clock,a,c,d,g⟩:=f;exact⟨j,clock,a,c,d,held _ trivial g⟩
 |dx s pos=>obtain⟨bs,a,c,d⟩:=f;exact⟨bs,a,c,held _ trivial d⟩
 |loop L=>obtain⟨tmps,defers,fn,a,c,d,g⟩:=f;exact⟨tmps,defers,fn,a,c,d,held _ trivial g⟩
theorem bX.shut(h:bX P w aa β H ag){Prot0:Nat->Prop}(q:∀k,Prot0 k->ag k){R:Nat->Prop}(m:∀x,R x->ag x/\¬aa x)(r:w'.heap.size=w.heap.size)(hs:∀k,¬R k->w'.heap[k]?=w.heap[k]?):bX P w' aa β H Prot0:=by
 have same:∀k,aa k->w'.heap[k]?=w.heap[k]?:=fun k hk=>hs k (fun i=>(m k i).2 hk);refine⟨fun b o p=>?_,h.inj,h.refs,fun k hk=>r▸h.bR k hk,fun k hk=>r▸h.eE k (q k hk),h.ja.mono (fun _ x=>x) same⟩;have held:∀fz,cw aa β ag fz b->cw aa β Prot0 fz b:=by
  intro fz f;unfold cw at f⊢;cases fz with
  |true=>exact f
  |false=>exact⟨f.1,fun A=>f.2 (q _ A)⟩
 have ak:∀fz,cw aa β ag fz b->w'.heap[β.ak b]?=w.heap[β.ak b]?:=by
  intro fz f;refine hs _ (fun i=>?_);unfold cw at f;cases fz with
  |true=>exact(m _ i).2 f
  |false=>exact f.2 (m _ i).1
 have g:=h.cJ b o p;have j:=h.refs b o p;cases o with
 |hole=>trivial
 |dead=>trivial
 |box fz t=>obtain⟨cs,T,c,d,a,e⟩:=g;exact⟨cs,T,(ak _ a).trans c,bg.mono (fun _ x=>x) same (cg.refl _ _) _ _ j d,held _ a,e⟩
 |arr k an ai es=>
  rcases g with g|⟨cs,T,u,rest,c,d,a,e,v,y,n,z⟩
  ·exact .inl g
  ·exact .inr ⟨cs,T,u,rest,(ak _ n).trans c,bG.mono (fun _ x=>x) same (cg.refl _ _) _ _ _ j d,a,e,v,y,held _ n,z⟩
 |map fz es=>obtain⟨l,clock,c,d,a⟩:=g;exact⟨l,clock,(ak _ a).trans c,cz.mono (fun _ x=>x) same _ _ d,held _ a⟩
 |cT ks vs=>obtain⟨l,clock,c,d,a,e⟩:=g;exact⟨l,clock,(ak _ e).trans c,bf.mono (fun _ x=>x) same _ _ d,bh.mono (fun _ x=>x) same (cg.refl _ _) _ _ j a,held _ e⟩
 |dx s pos=>obtain⟨bs,c,d,a⟩:=g;exact⟨bs,(ak _ a).trans c,d,held _ a⟩
 |loop L=>obtain⟨tmps,defers,fn,c,d,a,e⟩:=g;exact⟨tmps,defers,fn,(ak _ e).trans c,d,fun x=>ar.mono (fun _ x=>x) same (cg.refl _ _) _ _ (j x) (a x),held _ e⟩
theorem Ck(H:Heap)(o:Obj):(H++hw 1 Obj.hole).set H.length o=H++[o]:=by
 rw[h2 _ _ (ip _)];simp
theorem Kh(a:bX P w aa β H ag){L:fo}{tmps:Array c6}{defers fn:Nat}(h:tmps.size=L.n)(l:∀x,ar P w aa β H (aO L.env x) (tmps.getD x undef))(c:∀x,aB (aH H) (aO L.env x)):
 bV P ag aa w β H aa (w.alloc (.loop {state:=L.st,pending:=L.pending,fn,tmps,params:=L.params.toArray,assign:=L.assign,body:=L.body,defers})) (β.at H.length w.heap.size 0) (H++[.loop L]):=by
 have d:bV P ag aa w β H aa w β (H++hw 1 .hole):=⟨fun _ x=>x,fun _ x=>.inl x,Ext.refl _ _ _,ou _ _ _,a.mG _,ml _ _,fun b⟨L,e⟩=>⟨L,by rw[jW,if_pos (hv.1 e).1];exact e⟩⟩
 have f:(H++hw 1 Obj.hole)[H.length]?=some .hole:=by rw[jW];simp
 have aJ:=(ou β H 1)
 have j:=xF (β:=β) f (.loop L) w.heap.size 0;have hrefs:∀x,aB (aH ((H++hw 1 Obj.hole).set H.length (.loop L))) (aO L.env x):=by
  intro x;rw[Ck];exact aB.mono (fun y m=>I2 m) _ (c x)
 have g:=sn (cap:=0) d.rel f (ob:=.loop {state:=L.st,pending:=L.pending,fn,tmps,params:=L.params.toArray,assign:=L.assign,body:=L.body,defers}) (o':=.loop L)
  ⟨tmps,defers,fn,by simp[Bd.at],h,fun x=>ar.mono (fun _ x=>x) (fun k hk=>um w _ (a.bR k hk)) j _ _ (aB.mono (ml _ _) _ (c x)) (ar.mono (fun _ x=>x) (fun _ _=>rfl) aJ _ _ (c x) (l x)),?_⟩ hrefs
 ·rw[Ck]at g;exact d.trans g
 ·unfold cw;simp only[cN,if_false,Bd.at,if_true];exact⟨fun hi=>by have:=a.bR _ hi;omega,fun i=>by have:=a.eE _ i;omega⟩
theorem BL(g:bX P w aa β H ag){b:Nat}{L:fo}(a:H[b]?=some (.loop L))(st:LoopState)(d:Option Code):
 ∃rec:Loop,w.heap[β.ak b]?=some (.loop rec)/\rec.state=L.st/\rec.pending=L.pending/\rec.params=L.params.toArray/\rec.assign=L.assign/\rec.body=L.body/\rec.tmps.size=L.n/\(∀x,ar P w aa β H (aO L.env x) (rec.tmps.getD x undef))/\
  bV P ag aa w β H aa (w.putObj (β.ak b) (.loop {rec with state:=st,pending:=d})) β (H.set b (.loop {L with st:=st,pending:=d})):=by
 obtain⟨tmps,defers,fn,p,q,r,c⟩:=g.cJ b _ a;refine⟨_,p,rfl,rfl,rfl,rfl,rfl,q,r,?_⟩;have v:=(bl.1 p).1;have s:=(hv.1 a).1;unfold cw at c;simp only[cN,if_false]at c;have aJ:cg β H β (H.set b (.loop {L with st:=st,pending:=d})):=by
  have j:∀(x:Nat)(o:Obj),(H.set b (Obj.loop {L with st:=st,pending:=d}))[x]?=some o->(∀i,o≠Obj.loop i)->H[x]?=some o:=by
   intro x o m y
   by_cases hx:b=x
   ·subst hx;rw[hz s]at m;cases m;exact(y _ rfl).elim
   ·rwa [hA hx]at m
  refine⟨?_,?_,?_,?_,?_⟩
  ·rintro x _ ⟨f,t,h⟩;exact⟨⟨f,t,j _ _ h s_⟩,rfl⟩
  ·rintro x _ ⟨f,t,h⟩;exact⟨⟨f,t,j _ _ h s_⟩,rfl⟩
  ·rintro x _ ⟨z,h,l⟩;exact⟨⟨z,j _ _ h (fun i e=>by rw[e]at l;exact l.elim),l⟩,rfl⟩
  ·intro x an ai k u _ h;exact⟨k,u,j _ _ h s_,ip _,ht,fun _=>⟨rfl,rfl⟩⟩
  ·rintro x _ ⟨i,h⟩;refine⟨?_,rfl⟩
   by_cases hx:b=x
   ·subst hx;exact⟨L,a⟩
   ·rw[hA hx]at h;exact⟨i,h⟩
 have aj:∀x,aH H x->aH (H.set b (Obj.loop {L with st:=st,pending:=d})) x:=lI a (fun _ _=>trivial);have same:∀k,aa k->(w.putObj (β.ak b) (.loop {state:=st,pending:=d,fn,tmps,params:=L.params.toArray,assign:=L.assign,body:=L.body,defers})).heap[k]?=w.heap[k]?:=fun k hk=>hh (fun e=>c.1 (e▸hk));refine bV.set g s (fun _ _=>⟨rfl,rfl⟩) (fun _ x=>x) (fun _ x=>.inl x) (fun k hk=>by simpa using g.bR k hk) s_
  (fun k hk _=>hh (hk.resolve_right (fun h=>h trivial))) (fun _=>.inr ⟨rfl,⟨_,a,trivial⟩,.inr c.1,c.2⟩) aJ
  ⟨tmps,defers,fn,World.putObj_heap_same v,q,fun x=>ar.mono (fun _ x=>x) same aJ _ _ (g.refs b _ a x) (r x),?_⟩ (fun x=>aB.mono aj _ (g.refs b _ a x)) (fun _ _ _ _=>trivial) (fun _ _=>⟨_,rfl⟩)
 unfold cw;simpa using c
end rf
theorem Tz{s:St}{ag aa:Nat->Prop}{β:Bd}{t:Array c6}{w:c9}(c:cL P n ag aa β s t w)(F:qA N fr β s.heap)(e:Array Tmp)(a b:Code)(p:List dp){f:Env}(g:∀x,aO f x=aO s.env x):
 ∃l mk i m j,(Instr.enterLoop fr.fn t e a b fr.roundOf).run P w=.ok (l,mk) i/\bX P i aa j (s.heap++[.loop ⟨.ready,none,n,e.toList,a,b,f⟩]) m/\j.ak s.heap.length=l/\
  dI N ag aa w β s.heap m aa i j (s.heap++[.loop ⟨.ready,none,n,e.toList,a,b,f⟩])/\Marks fr ag w m aa i p (mk++p)/\
  cg β s.heap j (s.heap++[.loop ⟨.ready,none,n,e.toList,a,b,f⟩]):=by
 cases v:fr.roundOf with
 |none=>
  have q:bV P ag aa w β s.heap aa (w.alloc (.deferred (some []))) β s.heap:=c.heap.later (fun _ x=>x) (fun _ x=>.inl x) (fun k hk=>by have:=c.heap.bR k hk;rw[hj];omega) (by rw[hj];omega) (fun k hk=>um w _ hk);have D:=q.rel.Ji (x:=w.heap.size) (by rw[hj];omega) (fun b o G hl g=>by have:=c.heap.nF G hl;omega);have d:=Kh (L:=⟨.ready,none,n,e.toList,a,b,f⟩) (tmps:=t) (defers:=w.heap.size) (fn:=fr.fn) D c.size (fun x=>by rw[g];exact ar.mono (fun _ x=>x) (fun k hk=>um w _ (c.heap.bR k hk)) (cg.refl _ _) _ _ (c.gD x) (c.env x)) (fun x=>by rw[g];exact c.gD x);have C:dI N ag aa w β s.heap (fun k=>ag k\/k=w.heap.size) aa (w.alloc (.deferred (some []))) β s.heap:=⟨fun _ h=>.inl h,fun _ h=>h,fun _ h=>.inl h,q.ext,(cg.refl _ _).n,fun _ _ h=>h,fun _ _ h=>h⟩
  refine⟨_,_,_,_,_,run_enterLoop_outer fr.fn t e a b,d.rel,?_,C.trans d.fe,?_,d.step⟩
  ·simp[Bd.at,hj]
  ·refine⟨[w.heap.size],rfl,s_,?_,fun k hk=>hk.imp id (fun h=>by simp[h]),by simp[v]⟩;intro r u;simp only[List.mem_singleton]at u;subst u;refine⟨ip _,.inr rfl,fun hi=>by have:=c.heap.bR _ hi;omega,?_⟩;exact(d.ext.same _ (.inl (.inr rfl))).trans (World.alloc_heap_new w _)
 |some H=>
  obtain⟨y,K,A,B⟩:=F H v;obtain⟨I,E⟩:=A;obtain⟨M,z,J,g1,_⟩:=c.heap.cJ y _ E;rw[B]at g1;have d:=Kh (L:=⟨.ready,none,n,e.toList,a,b,f⟩) (tmps:=t) (defers:=z) (fn:=fr.fn) c.heap c.size (fun x=>by rw[g];exact c.env x) (fun x=>by rw[g];exact c.gD x);exact⟨_,_,_,_,_,run_enterLoop_inner g1 fr.fn t e a b,d.rel,by simp[Bd.at],d.fe,Marks.refl _ _ _ _ _ _,d.step⟩
theorem mh(M:ly P ah){fit:Nat->Array Oper->Bool}(K:se P ah fit):∀(c:Code)(k:List Item){Q:bp->St->Prop}{s:St}{ag aa:Nat->Prop}{β:Bd}{t:Array c6}{w:c9}{ds:List dp},
 codeOk fit n c=true->b9 P ah (n,N) c Q s->cL P n ag aa β s t w->qA N fr β s.heap->pR P n N fr k cs ag aa w β s.heap (lone (bt fr t ds (.code c::k)) cs w) ds Q
 | .skip,k,Q,s,ag,aa,β,t,w,ds,_,h,i,_=>.of h (.one aDM:mE P fr k cs _ t ds w .normal) i (dI.refl _ _ _ _ _ _)
 | .label l,k,Q,s,ag,aa,β,t,w,ds,_,h,i,_=>.of h (.one U0:mE P fr k cs _ t ds w .normal) i (dI.refl _ _ _ _ _ _)
 | .exit id,k,Q,s,ag,aa,β,t,w,ds,_,h,i,_=>.of h (⟨k,rfl,hb _ _⟩:mE P fr k cs _ t ds w (.exit id)) i (dI.refl _ _ _ _ _ _)
 | .ret,k,Q,s,ag,aa,β,t,w,ds,_,h,i,_=>.of h (⟨k,hb _ _⟩:mE P fr k cs _ t ds w .ret) i (dI.refl _ _ _ _ _ _)
 | .region id ops draw,k,Q,s,ag,aa,β,t,w,ds,z,h,i,_=>by
  simp only[codeOk,cR,h6]at z;simp only[b9]at h;cases draw with
  |false=>
   simp only[cN,if_false]at h;obtain⟨s',aD,aI,ay,w',j,r,q,d⟩:=Ir (fr:=fr) (k:=k) (cs:=cs) (ds:=ds) (N:=N) M z.1 ops.toList 0 s_ h i;refine .of (e:=.normal) j ?_ q d;have e:ik ops.size=hV 0 ops.toList.length:=by rw[List.range_eq_range'];simp
   exact(g9 QD).trans ((by rw[e];exact r:eb P _ _).trans (.one GJ))
  |true=>
   simp only[if_true]at h;have a1:cL P n ag aa β s t {w with drawn:=w.drawn+1}:=cL.draw (w:=w) (w':={w with drawn:=w.drawn+1}) rfl i;obtain⟨s',aD,aI,ay,w',j,r,q,d⟩:=K n N ops fr k cs ds (w.tape w.drawn (.order fr.fn id)) _ s ag aa β t _ (by simpa using z.2) z.1 h a1;exact .of (e:=.normal) j ((g9 aDH).trans (r.trans (.one GJ)):mE P fr k cs _ ay ds w' .normal) q ⟨d.eE,d.bR,d.fresh,⟨d.ext.size,d.ext.same,d.ext.io⟩,d.step,d.fp,d.loop⟩
 | .seq a b,k,Q,s,ag,aa,β,t,w,ds,z,h,i,D=>by
  simp only[codeOk,cR]at z;simp only[b9]at h;obtain⟨e,s1,p,C,A,t1,o,E,j,r,q,d,B⟩:=mh M K a (.code b::k) z.1 h i D;cases e with
  |normal=>exact .next d B ((g9 CA).trans r) (mh M K b k z.2 j q (D.fe d))
  |exit id=>
   obtain⟨F,O,a2⟩:=r;exact⟨.exit id,s1,p,C,A,t1,o,E,j,⟨F,O.trans (by simp[exitTo]),(g9 CA).trans a2⟩,q,d,B⟩
  |ret=>
   obtain⟨F,a2⟩:=r;exact⟨.ret,s1,p,C,A,t1,o,E,j,⟨F,(g9 CA).trans a2⟩,q,d,B⟩
 | .cond c a b,k,Q,s,ag,aa,β,t,w,ds,z,h,i,D=>by
  simp only[codeOk,cR]at z;simp only[b9]at h
  split at h
  ·rename_i az aK;have ao:=(nI i c).1;rw[aK]at ao;simp only[ar,aA]at ao;have aJ:=aDE (P:=P) (fr:=fr) (ds:=ds) (k:=k) (cs:=cs) (w:=w) (x:=a) (y:=b) ao;cases az with
   |true=>exact .next (dI.refl N ag aa w β s.heap) (Marks.refl _ _ _ _ _ _) (.one (by simpa using aJ)) (mh M K a k z.1 (by simpa using h) i D)
   |false=>exact .next (dI.refl N ag aa w β s.heap) (Marks.refl _ _ _ _ _ _) (.one (by simpa using aJ)) (mh M K b k z.2 (by simpa using h) i D)
  ·exact h.elim
 | .block id b,k,Q,s,ag,aa,β,t,w,ds,z,h,i,D=>by
  simp only[codeOk]at z;simp only[b9]at h;obtain⟨e,s1,p,C,A,t1,o,E,j,r,q,d,B⟩:=mh M K b (.inBlock id::k) z h i D;cases e with
  |normal=>exact⟨.normal,s1,p,C,A,t1,o,E,j,(g9 xM).trans (r.trans (.one TJ)),q,d,B⟩
  |exit ad=>
   obtain⟨F,O,a2⟩:=r;dsimp only at j
   split at j
   ·rename_i hid;subst hid;refine⟨.normal,s1,p,C,A,t1,o,E,j,(g9 xM).trans (a2.trans (.one (aDJ ?_))),q,d,B⟩;rw[O];simp[exitTo]
   ·rename_i hid;exact⟨.exit ad,s1,p,C,A,t1,o,E,j,⟨F,O.trans (by simp[exitTo,i7 hid]),(g9 xM).trans a2⟩,q,d,B⟩
  |ret=>
   obtain⟨F,a2⟩:=r;exact⟨.ret,s1,p,C,A,t1,o,E,j,⟨F,(g9 xM).trans a2⟩,q,d,B⟩
 | .scope b,k,Q,s,ag,aa,β,t,w,ds,z,h,i,D=>by
  simp only[codeOk]at z;simp only[b9]at h;obtain⟨e,s1,p,C,A,t1,o,E,j,r,q,d,B⟩:=mh M K b (.inScope b::k) z h i D;cases e with
  |normal=>exact⟨.normal,s1,p,C,A,t1,o,E,j,(g9 Bx).trans (r.trans (.one TI)),q,d,B⟩
  |exit ad=>
   obtain⟨F,O,a2⟩:=r;exact⟨.exit ad,s1,p,C,A,t1,o,E,j,⟨F,O.trans (by simp[exitTo]),(g9 Bx).trans a2⟩,q,d,B⟩
  |ret=>
   obtain⟨F,a2⟩:=r;exact⟨.ret,s1,p,C,A,t1,o,E,j,⟨F,(g9 Bx).trans a2⟩,q,d,B⟩
 | .loop b,k,Q,s,ag,aa,β,t,w,ds,z,h,i,D=>by
  simp only[codeOk]at z;simp only[b9]at h;obtain⟨I,⟨m0,t0,hf,hI⟩,a4⟩:=h
  have loop:∀(m:Nat)(u:St)(ag aa:Nat->Prop)(β:Bd)(t:Array c6)(w:c9)(ds:List dp),I m u->cL P n ag aa β u t w->qA N fr β u.heap->
   pR P n N fr k cs ag aa w β u.heap (lone (bt fr t ds (.code b::.inLoop b::k)) cs w) ds Q:=by
   intro m
   induction m using Nat.strongRecOn with
   |_ m a7=>
    intro u ag aa β t w ds hI i D;obtain⟨e,s1,p,C,A,t1,o,E,j,r,q,d,B⟩:=mh M K b (.inLoop b::k) z (a4 m u hI) i D;cases e with
    |normal=>
     obtain⟨a8,u',aZ,au,aC⟩:=j;have ac:=au.fe (β:=A) (ag:=p) (aa:=C) (w:=o);exact .next (d.trans ac) B (ha r (.one T6)) (a7 a8 aZ u' p C A t1 o E aC (au.rel q) ((D.fe d).fe ac))
    |exit ad=>
     obtain⟨F,O,a2⟩:=r;exact⟨.exit ad,s1,p,C,A,t1,o,E,j,⟨F,O.trans (by simp[exitTo]),a2⟩,q,d,B⟩
    |ret=>
     obtain⟨F,a2⟩:=r;exact⟨.ret,s1,p,C,A,t1,o,E,j,⟨F,a2⟩,q,d,B⟩
  have ac:=hf.fe (β:=β) (ag:=ag) (aa:=aa) (w:=w);exact .next ac (Marks.refl _ _ _ _ _ _) (.one aDK) (loop m0 t0 ag aa β t w ds hI (hf.rel i) (D.fe ac))
 | .rangeFunc f G a b,k,Q,s,ag,aa,β,t,w,ds,z,h,i,D=>by
  simp only[b9]at h;obtain⟨bc,R,aU,h⟩:=h;have Y:=nI i f
  obtain⟨g,fi,ca,J,H,aW,aV,aN,aw,av,ab,v,aX,af⟩:∃g fi ca,∃J H:List c6,fA t f= .func (.func g) J.toArray H.toArray/\bh P w aa β s.heap fi J/\bh P w aa β s.heap ca H/\aR (aH s.heap) fi/\aR (aH s.heap) ca/\
   ∃ab v,cm P g (s.heap++[.loop ⟨.ready,none,n,G.toList,a,b,R⟩]) (fi++[.map s.heap.length]++ca) ab v/\iT s.heap.length s.env Q ab:=by
   unfold jM at h
   split at h
   ·rename_i g fi ca hf;rw[hf]at Y;simp only[ar,aA]at Y;obtain⟨⟨J,H,j,r,q⟩,_⟩:=Y;exact⟨g,_,_,J,H,q,jB.2 j,jB.2 r,iR _ _,iR _ _,h⟩
   ·rename_i g fi ca hf;rw[hf]at Y;simp only[ar,aB]at Y;obtain⟨⟨J,H,j,r,q⟩,d,B⟩:=Y;exact⟨g,fi,ca,J,H,q,j,r,d,B,h⟩
   ·exact h.elim
  obtain⟨l,mk,o,p,A,e1,e2,e3,e4,e5,ai⟩:=Tz (fr:=fr) i D G a b ds aU;obtain⟨aS,aO⟩:=aX;have aj:∀x,aH s.heap x->aH (s.heap++[.loop ⟨.ready,none,n,G.toList,a,b,R⟩]) x:=fun x hx=>I2 hx;have an:∀k,aa k->o.heap[k]?=w.heap[k]?:=fun k hk=>e4.ext.same k (.inr hk);have a5:ar P o aa A (s.heap++[.loop ⟨.ready,none,n,G.toList,a,b,R⟩]) (.map s.heap.length) (.func (.yield l) #[] #[]):=by
   simp only[ar,bH,bP];refine⟨by simp[hd],fun W=>?_,fun _=>by rw[e3]⟩;obtain⟨be,ap,W⟩:=W;simp at ap;subst ap;exact W.elim
  have a6:aB (aH (s.heap++[.loop ⟨.ready,none,n,G.toList,a,b,R⟩])) (.map s.heap.length):=by
   simp only[aB];exact⟨.loop ⟨.ready,none,n,G.toList,a,b,R⟩,s_,trivial⟩
  have aG:=ow (ow (bh.mono (fun _ x=>x) an ai _ _ aw aV) (b:=[.map s.heap.length]) (y:=[.func (.yield l) #[] #[]]) (by simp only[bh];exact⟨_,_,rfl,a5,rfl⟩)) (bh.mono (fun _ x=>x) an ai _ _ av aN);have aF:=jJ (jJ (aR.mono aj _ aw) (b:=[.map s.heap.length]) (by simp only[aR];exact⟨a6,trivial⟩)) (aR.mono aj _ av);have aY:(invoke (.fn (.func g) H.toArray) (J.toArray++#[.func (.yield l) #[] #[]])).run P o=.ok (.enter g (J++[(.func (.yield l) #[] #[]:c6)]++H).toArray) o:=by
   have:=aS (J++[(.func (.yield l) #[] #[]:c6)]++H).toArray o;simp only[invoke];rw[<-this];congr 2;simp
  have a3:(resolve (Act.eval ⟨t,ds⟩) (rangeCall f l) 0).run P o=.ok (⟨.fn (.func g) H.toArray,J.toArray++#[.func (.yield l) #[] #[]]⟩:dp) o:=by
   have al:(Act.eval ⟨t,ds⟩) f=fA t f:=by cases f<;>rfl
   have aP:(rangeCall f l).args.map (Act.eval ⟨t,ds⟩)=#[.func (.yield l) #[] #[]]:=by simp[Act.eval]
   simp only[resolve,aP];simp only[al,aW,e6];rfl
  have aT:=stepR_rangeFunc (P:=P) (b:=fr) (a:=⟨t,ds⟩) (k:=k) (cs:=cs) (w:=w) (g:=f) (ps:=G) (assign:=a) (body:=b) e1 a3 aY;obtain⟨e,ae,bb,⟨ba,X,U,al,g1,g2,g3⟩,aJ,bd,a0⟩:=aO o aa p A _ e2 aG aF (fr.atR ⟨t,mk++ds⟩ (.inRangeFunc l::k)::cs);subst al;unfold iT at af
  split at af
  case h_2=>exact af.elim
  rename_i L aq;obtain⟨aM,Z⟩:=af;obtain⟨rec,r1,r2,a9,bf,bg,bi,bj,bk,ax⟩:=BL g1.rel aq .exhausted L.pending;have aE:aH (s.heap++[.loop ⟨.ready,none,n,G.toList,a,b,R⟩]) (s.heap.length,0):=⟨.loop ⟨.ready,none,n,G.toList,a,b,R⟩,s_,trivial⟩
  have aL:X.ak s.heap.length=l:=((g1.step.loop _ aE ⟨_,aq⟩).2).trans e3;rw[aL]at r1 ax;have aQ:=run_endLoop (P:=P) r1 (by rw[r2];exact aM);have S:eb P (lone (bt fr t ds (.code (.rangeFunc f G a b)::k)) cs w) (lone (bt fr t (mk++ds) ((rec.pending.map Item.code).toList++k)) cs (ae.putObj l (.loop {rec with state:=.exhausted}))):=by
   refine(g9 aT).trans (ha aJ ?_);refine(g9 (dz a0)).trans ?_;rw[finish_atR_inRangeFunc];exact .one (stepR_endRangeFunc aQ)
  have S:eb P (lone (bt fr t ds (.code (.rangeFunc f G a b)::k)) cs w) (lone (bt fr t (mk++ds) ((L.pending.map Item.code).toList++k)) cs (ae.putObj l (.loop {rec with state:=.exhausted,pending:=L.pending}))):=by
   rw[<-a9];exact S
  have V:bV P p aa o A (s.heap++[.loop ⟨.ready,none,n,G.toList,a,b,R⟩]) U _ X _:=g1.trans ax;have am:cL P n p U X ⟨s.env,ab.set s.heap.length (.loop {L with st:=.exhausted})⟩ t (ae.putObj l (.loop {rec with state:=.exhausted,pending:=L.pending})):=by
   refine⟨V.rel,fun x=>?_,fun x=>?_,i.size⟩
   ·exact ar.mono V.bR (fun k hk=>V.ext.same k (.inr hk)) V.step _ _ (aB.mono aj _ (i.gD x)) (ar.mono (fun _ x=>x) an ai _ _ (i.gD x) (i.env x))
   ·exact aB.mono V.fp _ (aB.mono aj _ (i.gD x))
  have ak:dI N ag aa w β s.heap p U (ae.putObj l (.loop {rec with state:=.exhausted,pending:=L.pending})) X (ab.set s.heap.length (.loop {L with st:=.exhausted})):=e4.trans V.fe;have W:Marks fr ag w p U (ae.putObj l (.loop {rec with state:=.exhausted,pending:=L.pending})) ds (mk++ds):=e5.trans e4 (Marks.refl _ _ _ _ _ _) V.fe;unfold ki at Z
  split at Z
  ·rename_i T;rw[T]at S;exact⟨.normal,_,p,U,X,t,_,mk++ds,Z,by rw[T];exact S,am,ak,W⟩
  ·rename_i id T;rw[T]at S;exact⟨.exit id,_,p,U,X,t,_,mk++ds,Z,⟨k,rfl,by rw[T];exact S⟩,am,ak,W⟩
  ·rename_i T;rw[T]at S;exact⟨.ret,_,p,U,X,t,_,mk++ds,Z,⟨k,by rw[T];exact S⟩,am,ak,W⟩
  ·exact Z.elim
 | .goto _,_,_,_,_,_,_,_,_,_,_,h,_,_| .refuse _,_,_,_,_,_,_,_,_,_,_,h,_,_=>by simp[b9]at h
end
end Go.aw
namespace Go.aw
variable[Gl]
def iI(i:Nat):List AV->Env
 |[]=>[]
 |v::r=>(i,v)::iI (i+1) r
def oW(P:c7)(s:St):ec->Option AV
 | .tmp t=>some (aO s.env t)
 | .cell a T=>match aO s.env a with
  | .ptr b path=>match s.heap[b]? with
   |some (.box _ t)=>match eL t path with
    |some v=>if kindOf P T=ad v then some v else none
    |none=>none
   |_=>none
  |_=>none
def fC(P:c7)(s:St):List ec->Option (List AV)
 |[]=>some []
 |r::rs=>match oW P s r,fC P s rs with
  |some v,some vs=>some (v::vs)
  |_,_=>none
def oneOf:List AV->AV
 |[v]=>v
 |vs=>match eH vs with
  |some l=>.p (.aE l)
  |none=>.aE vs
def jb(f:AV->Option PV):List AV->Option (List PV)
 |[]=>some []
 |v::vs=>match f v,jb f vs with
  |some p,some a=>some (p::a)
  |_,_=>none
def dY(H:Heap):Nat->AV->Option PV
 |0,.p v=>some v
 |0,_=>none
 |n+1,x=>match x with
  | .p v=>some v
  | .sl b an ai off len=>match H[b]? with
   |some (.arr k e c es)=>
    if an=e/\ai=c/\off+len<=es.length then
     if k.gr=true/\es=[]then some .aK else
     match jb (dY H n) ((es.drop off).take len)with
     |some d=>some (.bE (k== .exact&&off+len==es.length) d)
     |none=>none
    else none
   |_=>none
  | .ptr b path=>match H[b]? with
   |some (.box _ t)=>match eL t path with
    |some s=>match dY H n s with
     |some p=>some (.cq p)
     |none=>none
    |none=>none
   |_=>none
  | .map b=>match H[b]? with
   |some (.map _ es)=>some (.eS es)
   |_=>none
  | .func f fi ca=>match jb (dY H n) fi,jb (dY H n) ca with
   |some a,some b=>some (.func f a b)
   |_,_=>none
  | .st u fs=>match jb (dY H n) fs with
   |some l=>some (.st u l)
   |none=>none
  | .aE vs=>match jb (dY H n) vs with
   |some l=>some (.aE l)
   |none=>none
  | .b6 _ _ _ _ _=>none
section
variable{P:c7}{w:c9}{aa ag:Nat->Prop}{β:Bd}{H:Heap}
def yP(aa:Nat->Prop)(β:Bd)(H:Heap)(k:Nat):Prop:=aa k\/∃(b:Nat)(o:Obj),H[b]?=some o/\o.live/\β.ak b=k
theorem Jh:∀{n:Nat}{v:AV}{p:PV},dY H n v=some p->(ad v=aL p)
 |0,v,p,h=>by
  cases v<;>simp[dY]at h;subst h;rfl
 |n+1,v,p,h=>by
  cases v<;>simp only[dY]at h
  case p v=>simp at h;subst h;rfl
  case b6=>simp at h
  case sl b an ai off len=>
   split at h
   ·split at h
    ·split at h
     ·simp at h;subst h;rfl
     ·split at h
      ·simp at h;subst h;rfl
      ·simp at h
    ·simp at h
   ·simp at h
  case ptr b path=>
   split at h
   ·split at h
    ·split at h
     ·simp at h;subst h;rfl
     ·simp at h
    ·simp at h
   ·simp at h
  all_goals
   split at h
   ·simp at h;subst h;rfl
   ·simp at h
theorem HN{v:AV}{p:PV}{cs:List c6}(hs:ad v=aL p)(hc:bg P w aa β H v cs){I:Nat->Prop}(h:∀x,ar P w aa β H v x->aA P w I p x):aV P w I p cs:=by
 cases a:ad v with
 |bad=>exact((nt hc).2 a).elim
 |leaf=>
  obtain⟨c,rfl,b⟩:=(BE a cs).1 hc;exact(su (hs▸a) _).2 ⟨c,rfl,h _ b⟩
 |agg u=>exact(uV (hs▸a) cs).2 (h _ ((LI a cs).1 hc))
section lists
variable{f:AV->Option PV}{I:Nat->Prop}(hf:∀v p,f v=some p->ad v=aL p/\(aB (aH H) v->∀x,ar P w aa β H v x->aA P w I p x))
include hf
theorem xB:∀{vs:List AV}{a:List PV},jb f vs=some a->aR (aH H) vs->∀b,bh P w aa β H vs b->bf P w I a b
 |[],a,h,_,b,hx=>by
  simp[jb]at h;subst h;simpa[bh,bf]using hx
 |v::vs,a,h,c,b,hx=>by
  simp only[jb]at h
  split at h
  case h_2=>simp at h
  rename_i q qs hq d;simp at h;subst h;simp only[aR]at c;simp only[bh]at hx;obtain⟨y,e,rfl,k1,k2⟩:=hx;simp only[bf];exact⟨y,e,rfl,(hf _ _ hq).2 c.1 _ k1,xB d c.2 _ k2⟩
theorem AR:∀{vs:List AV}{b:List PV},jb f vs=some b->aR (aH H) vs->∀l a,bG P w aa β H l vs a->bc P w I l b a
 |[],b,h,_,l,a,hx=>by
  simp[jb]at h;subst h;cases l<;>simp_all [bG,bc]
 |v::vs,b,h,d,l,a,hx=>by
  simp only[jb]at h
  split at h
  case h_2=>simp at h
  rename_i q qs hq e;simp at h;subst h;simp only[aR]at d;cases l with
  |nil=>simp[bG]at hx
  |cons m l=>
   simp only[bG]at hx;obtain⟨c,cs,rfl,k1,k2,k3⟩:=hx;simp only[bc];exact⟨c,cs,rfl,HN (hf _ _ hq).1 k1 ((hf _ _ hq).2 d.1),k2,AR e d.2 _ _ k3⟩
end lists
theorem xf(e:bX P w aa β H ag):∀(n:Nat)(v:AV)(p:PV),dY H n v=some p->aB (aH H) v->∀x,ar P w aa β H v x->aA P w (yP aa β H) p x
 |0,v,p,h,_,x,hx=>by
  cases v<;>simp[dY]at h;subst h;simp only[ar]at hx;exact aA.mono (fun _=>.inl) (fun _ _=>rfl) _ _ hx
 |n+1,v,p,h,g,x,hx=>by
  have hf:∀v p,dY H n v=some p->ad v=aL p/\(aB (aH H) v->∀x,ar P w aa β H v x->aA P w (yP aa β H) p x):=fun v p h=>⟨Jh h,xf e n v p h⟩
  cases v<;>simp only[dY]at h
  case p v=>
   simp at h;subst h;simp only[ar]at hx;exact aA.mono (fun _=>.inl) (fun _ _=>rfl) _ _ hx
  case b6=>simp at h
  case sl b an ai off len=>
   split at h
   case h_2=>simp at h
   rename_i k ac X y d
   split at h
   case isFalse=>simp at h
   rename_i K;obtain⟨rfl,rfl,hl⟩:=K;simp only[ar]at hx;obtain⟨_,hx⟩:=hx;simp only[bP]at hx;obtain⟨v1,v2,v3⟩:=hx k y d
   split at h
   ·rename_i r;simp at h;subst h;simp[aA,v2 r]
   ·rename_i r
    split at h
    case h_2=>simp at h
    rename_i V N;simp at h;subst h;rw[v3 r];rcases e.cJ b _ d with hold|⟨cs,T,B,rest,i,j,A,F,Y,G,Z,ab⟩
    ·exact(r hold).elim
    obtain⟨a,m,c,e1,e2,e3,e4,e5⟩:=jK j off len v1;have Q:aR (aH H) ((y.drop off).take len):=by
     have:=e.refs b _ d;rw[cH];intro v R;exact cH.1 this v (List.mem_of_mem_drop (List.mem_of_mem_take R))
    have L:((y.drop off).take len).length=len:=by simp;omega
    have k1:=AR hf N Q _ _ e2;have z:V.length=len:=by have:=(ud k1).2.1;simp at this;omega
    simp only[aA];refine⟨β.ak b,off*ai,β.cap b-off,ai,m,by rw[z,<-L];exact k1,fun _=>.inr ⟨b,_,d,r,rfl⟩,?_,?_,?_,none,.inl rfl,?_⟩
    ·rw[<-e3];exact lB i (post:=c.flatten++rest) (by rw[A,e1];simp)
    ·intro hf;simp at hf;rw[z,G hf.1];omega
    ·rw[z];omega
    ·rw[z]
  case ptr b path=>
   split at h
   case h_2=>simp at h
   rename_i fz t d
   split at h
   case h_2=>simp at h
   rename_i s hs
   split at h
   case h_2=>simp at h
   rename_i q hq;simp at h;subst h;simp only[ar]at hx;obtain⟨_,hx⟩:=hx;simp only[bP]at hx;obtain⟨W,U,o,rfl,M,hx⟩:=hx;obtain⟨rfl,rfl⟩:=hx (.inl ⟨fz,_,d⟩);obtain⟨cs,T,i,j,A,F⟩:=e.cJ b _ d;obtain⟨pre,xs,post,e1,e2,e3,_⟩:=oN j hs M;have O:aB (aH H) s:=uz hs (e.refs b _ d);simp only[aA];refine⟨β.ak b,U,xs,HN (Jh hq) e3 (xf e n _ _ hq O),.inr ⟨b,_,d,trivial,rfl⟩,?_,rfl⟩;rw[<-e2];exact lB i e1
  case map b=>
   split at h
   case h_2=>simp at h
   rename_i fz y d;simp at h;subst h;simp only[ar]at hx;obtain⟨_,hx⟩:=hx;simp only[bP]at hx;have hx:=hx.1 ⟨_,d,trivial⟩;obtain⟨D,clock,i,j,A⟩:=e.cJ b _ d;simp only[aA];exact⟨β.ak b,D,clock,.inr ⟨b,_,d,trivial,rfl⟩,i,cz.mono (fun _=>.inl) (fun _ _=>rfl) _ _ j,hx⟩
  case func f a b=>
   split at h
   case h_2=>simp at h
   rename_i a' b' I J;simp at h;subst h;simp only[aB]at g;simp only[ar]at hx;obtain⟨E,C,k1,k2,k3⟩:=hx;simp only[aA];exact⟨E,C,xB hf I g.1 _ k1,xB hf J g.2 _ k2,k3⟩
  case st u fs=>
   split at h
   case h_2=>simp at h
   rename_i l hl;simp at h;subst h;simp only[aB]at g;simp only[ar]at hx;obtain⟨S,B,k1,k2,k3⟩:=hx;simp only[aA];exact⟨S,B,k1,AR hf hl g _ _ k2,k3⟩
  case aE vs=>
   split at h
   case h_2=>simp at h
   rename_i l hl;simp at h;subst h;simp only[aB]at g;simp only[ar]at hx;obtain⟨xs,k1,k2⟩:=hx;simp only[aA];exact⟨xs,xB hf hl g _ k1,k2⟩
end
section
variable{P:c7}{ah:dl->Bool}{fit:Nat->Array Oper->Bool}
theorem AO:∀(args:List AV)(i x:Nat),aO (iI i args) x=if i<=x then(args[x-i]?).getD (.p .undef)else .p .undef
 |[],i,x=>by simp[iI,aO]
 |v::r,i,x=>by
  simp only[iI,aO,AO r]
  by_cases h:x=i
  ·subst h;simp
  ·by_cases b:i<=x
   ·have a:i+1<=x:=by omega
    simp only[h,b,a,if_true,if_false];rw[show x-i=(x-(i+1))+1 by omega,h0]
   ·have a:¬i+1<=x:=by omega
    simp[h,b,a]
theorem sv{w:c9}{aa:Nat->Prop}{β:Bd}{H:Heap}:∀{vs:List AV}{xs:List c6},bh P w aa β H vs xs->xs.length=vs.length/\∀i:Nat,ar P w aa β H ((vs[i]?).getD (.p .undef)) ((xs[i]?).getD undef)
 |[],xs,h=>by simp only[bh]at h;subst h;simp[ar,aA]
 |v::vs,xs,h=>by
  simp only[bh]at h;obtain⟨y,c,rfl,a,b⟩:=h;have:=sv b;refine⟨by simp[this.1],fun i=>?_⟩;cases i with
  |zero=>simpa using a
  |succ i=>simpa using this.2 i
theorem T5{ag aa:Nat->Prop}{β:Bd}{w:c9}{H:Heap}{args:List AV}{a:List c6}{n:Nat}(f:bX P w aa β H ag)(d:bh P w aa β H args a)(g:aR (aH H) args)(i:args.length<=n):
 cL P n ag aa β ⟨iI 0 args,H⟩ (a.toArray++bo (n-a.length) undef) w:=by
 obtain⟨b,c⟩:=sv d;refine⟨f,fun x=>?_,fun x=>?_,by simp[b];omega⟩
 ·have e:(a.toArray++bo (n-a.length) undef).getD x undef=(a[x]?).getD undef:=by
   rw[bv,<-b0];simp only[Array.toList_append,Array.toList_replicate]
   by_cases hx:x<a.length
   ·rw[hK (by simpa using hx)]
   ·rw[hO (by simpa using hx)];simp only[hE];rw[List.getElem?_eq_none (by simpa using hx)]
    split<;>rfl
  rw[e,AO];simpa using c x
 ·rw[AO];simp only[Nat.zero_le,if_true,Nat.sub_zero];cases h:args[x]? with
  |none=>simp[aB]
  |some v=>exact cH.1 g v (hG h)
theorem GX{w:c9}{aa:Nat->Prop}{β:Bd}{H:Heap}{T:c8}{v:AV}{ak off:Nat}{a:List c6}(hk:kindOf P T=ad v)(f:bg P w aa β H v a)(hc:gJ w ak off a):
 ∃g,(loadVar T ⟨ak,off,none⟩).run P w=.ok g w/\ar P w aa β H v g:=by
 obtain⟨hl,n⟩:=nt f;have m:∀j,(⟨ak,off,none⟩:Addr).add j=⟨ak,off+j,none⟩:=by intro j;unfold Addr.add;split<;>simp_all
 unfold kindOf at hk;cases hs:ad v with
 |bad=>exact(n hs).elim
 |leaf=>
  rw[hs]at hk;obtain⟨c,rfl,e⟩:=(BE hs a).1 f;refine⟨c,?_,e⟩;have h:=hc 0 s_;simp only[i2,List.getElem_cons_zero]at h;have b:(isAgg T).run P w=.ok false w:=by
   cases hu:P.underlying T with
   |none=>simp[hu]at hk
   |some d=>
    cases d<;>simp only[hu]at hk<;>first
     |(simp[isAgg,da hu];done)
     |(split at hk<;>simp at hk)
  simp[loadVar,b,h]
 |agg u=>
  rw[hs]at hk;have e:=(LI hs a).1 f;refine⟨.agg a.toArray,?_,e⟩;have b:(isAgg T).run P w=.ok true w/\P.cellsOf T=a.length:=by
   rw[hl,hs];cases hu:P.underlying T with
   |none=>simp[hu]at hk
   |some d=>
    cases d<;>simp only[hu]at hk<;>first
     |(split at hk
       ·rename_i hc;simp at hk;subst hk;simp at hc;refine⟨by simp[isAgg,da hu],hc.2⟩
       ·simp at hk)
     |(split at hk<;>simp at hk)
  obtain⟨i,hi⟩:∃i,P.info? T=some i:=by
   cases hi:P.info? T with
   |none=>
    have l:=b.1;simp[isAgg,underlying,gi,hi]at l
   |some i=>exact⟨i,rfl⟩
  have p:(sizeOf T).run P w=.ok a.length w:=by
   rw[<-b.2];simp[sizeOf,typeInfo,hi,gg]
  have o:=run_loadCells_list (P:=P) w ⟨ak,off,none⟩ a (fun j x hx=>by
   rw[m];have k:j<a.length:=(hv.1 hx).1;rw[hc j k];rw[hC k]at hx;exact hx)
  simp[loadVar,b.1,p,o]
theorem TQ{n:Nat}{ag aa:Nat->Prop}{β:Bd}{s:St}{t:Array c6}{w:c9}(h:cL P n ag aa β s t w){g:ec}{v:AV}(c:oW P s g=some v):
 ∃e,(match g with
  | .tmp x=>(pure (t.getD x undef):Sem c6)
  | .cell a T=>do loadVar T (<-asAddr (t.getD a undef))).run P w=.ok e w/\ar P w aa β s.heap v e/\aB (aH s.heap) v:=by
 cases g with
 |tmp x=>
  simp[oW]at c;subst c;exact⟨_,rfl,h.env x,h.gD x⟩
 |cell a T=>
  simp only[oW]at c;have d:=h.env a
  split at c
  case h_2=>simp at c
  rename_i b B k;rw[k]at d
  split at c
  case h_2=>simp at c
  rename_i fz r f
  split at c
  case h_2=>simp at c
  rename_i v' hs
  split at c
  case isFalse=>simp at c
  rename_i hc;simp at c;subst c;simp only[ar]at d;obtain⟨_,d⟩:=d;simp only[bP]at d;obtain⟨y,q,o,p,m,d⟩:=d;obtain⟨rfl,rfl⟩:=d (.inl ⟨fz,r,f⟩);obtain⟨cs,u,i,j,z,A⟩:=h.heap.cJ b _ f;obtain⟨pre,xs,post,e1,e2,e3,_⟩:=oN j hs m;have l:gJ w (β.ak b) q xs:=by rw[<-e2];exact lB i e1
  obtain⟨e,k1,k2⟩:=GX hc e3 l;refine⟨e,?_,k2,uz hs (h.heap.refs b _ f)⟩;simp only[p,asAddr];simp[k1]
theorem G0{n:Nat}{ag aa:Nat->Prop}{β:Bd}{s:St}{t:Array c6}{w:c9}(h:cL P n ag aa β s t w):∀{d:List ec}{vs:List AV},fC P s d=some vs->
 ∃c:List c6,(d.mapM (fun i:ec=>match i with
  | .tmp x=>(pure (t.getD x undef):Sem c6)
  | .cell a T=>do loadVar T (<-asAddr (t.getD a undef)))).run P w=.ok c w/\bh P w aa β s.heap vs c/\aR (aH s.heap) vs
 |[],vs,b=>by
  simp[fC]at b;subst b;exact⟨[],s_,by simp[bh],by simp[aR]⟩
 |r::d,vs,b=>by
  simp only[fC]at b
  split at b
  case h_2=>simp at b
  rename_i v j f g;simp at b;subst b;obtain⟨e,k1,k2,k3⟩:=TQ h f;obtain⟨c,g1,g2,g3⟩:=G0 h g;refine⟨e::c,?_,by simp only[bh];exact⟨e,c,rfl,k2,g2⟩,by simp only[aR];exact⟨k3,g3⟩⟩;simp only[h9,gy,k1,gx,g1];rfl
theorem It{w:c9}{aa:Nat->Prop}{β:Bd}{H:Heap}{vs:List AV}{a:List c6}(h:bh P w aa β H vs a)(b:aR (aH H) vs):
 ar P w aa β H (oneOf vs) (if h:a.toArray.size=1 then a.toArray[0]else .tuple a.toArray)/\aB (aH H) (oneOf vs):=by
 have hl:=(sv h).1
 match vs,a,h with
 |[v],[c],h=>
  simp only[bh]at h;obtain⟨y,i,f,d,g⟩:=h;cases f;simp only[aR]at b;exact⟨by simpa[oneOf]using d,by simpa[oneOf]using b.1⟩
 |[],[],h=>exact⟨by simp[oneOf,eH,ar,aA,bf],by simp[oneOf,eH,aB]⟩
 |v1::v2::vs,c1::c2::a,h=>
  have hs:¬(c1::c2::a).toArray.size=1:=s_
  rw[dif_neg hs];simp only[oneOf];cases e:eH (v1::v2::vs)with
  |none=>exact⟨by simp only[ar];exact⟨_,h,rfl⟩,by simpa only[aB]using b⟩
  |some l=>
   have:=lG e;rw[this]at h;exact⟨by simp only[ar,aA];exact⟨_,jB.1 h,rfl⟩,by simp[aB]⟩
 |[],_::_,_=>simp at hl
 |[_],[],_=>simp at hl
 |[_],_::_::_,_=>simp at hl
 |_::_::_,[],_=>simp at hl
 |_::_::_,[_],_=>simp at hl
theorem takes{fr:dq}{cs:List dq}(c:fr.mode= .returning):∀(a:List Nat)(w:c9),a.Nodup->(∀r∈a,w.heap[r]?=some (.deferred (some [])))->
 ∃w',eb P (lone {fr with defers:=a.map mark} cs w) (lone {fr with defers:=[]} cs w')/\w'.heap.size=w.heap.size/\(∀k,k∉a->w'.heap[k]?=w.heap[k]?)/\(w'.os=w.os/\w'.output=w.output)
 |[],w,_,_=>⟨w,hb _ _,rfl,fun _ _=>rfl,rfl,rfl⟩
 |r::a,w,b,h=>by
  rw[List.nodup_cons]at b;have f:=h r s_;have hk:=run_takeDeferred (P:=P) f;have m:=(bl.1 f).1;obtain⟨w',g,i,j,l⟩:=takes c a (w.putObj r (.deferred none)) b.2 (fun x hx=>(hh (fun(e:x=r)=>b.1 (e▸hx))).trans (h x (by simp[hx])));refine⟨w',(g9 (step_collected (fr:={fr with defers:=(r::a).map mark}) (d:=mark r) (ds:=a.map mark) (by simp[c]) rfl rfl hk)).trans g,by simpa using i,fun k hk=>?_,l⟩;simp only[List.mem_cons,not_or]at hk;exact(j k hk.2).trans (hh hk.1)
theorem Hl{N:Nat}{f:dl}{fn:Func}{c:Code}(A:ly P ah)(z:se P ah fit)(hf:P.funcs[f]?=some fn)(G:fn.body=some c)(M:codeOk fit fn.ntmps c=true)
 {args:List AV}{H:Heap}{R:List AV->St->Prop}(K:args.length<=fn.ntmps)
 (T:b9 P ah (fn.ntmps,N) c (fun e s=>(match e with
  | .exit _=>False
  |_=>True)/\∃vs,fC P s fn.results.toList=some vs/\R vs s) ⟨iI 0 args,H⟩)
 {w:c9}{aa ag:Nat->Prop}{β:Bd}{d:List c6}(i:bX P w aa β H ag)(u:bh P w aa β H args d)(O:aR (aH H) args):
 eo P f d.toArray w fun e w'=>∃vs s a aD aI t,e=.returned (if h:a.toArray.size=1 then a.toArray[0]else .tuple a.toArray)/\R vs s/\cL P fn.ntmps ag aD aI s t w'/\dI N ag aa w β H ag aD w' aI s.heap/\
  bh P w' aD aI s.heap vs a/\aR (aH s.heap) vs:=by
 intro cs;have X:=(sv u).1;obtain⟨g,j⟩:∃g:dq,g={fn:=f,tmps:=#[],todo:=[],defers:=[],mode:=.run,kind:=.normal}:=⟨_,rfl⟩
 have I:e8 P f d.toArray .normal=bt g (d.toArray++bo (fn.ntmps-d.length) undef) [] [.code c]:=by
  subst j;simp[e8,bt,hf,G]
 obtain⟨e,s,V,aD,aI,t,p,W,⟨B,vs,C,D⟩,o,m,b,E⟩:=mh (fr:=g) (cs:=cs) (ds:=[]) A z c [] M T (T5 i u O K) (fun l hl=>by subst j;cases hl);obtain⟨rs,v,L,n,Y,_⟩:=E;rw[h8]at v;subst v;rw[I]
 have q:∀todo,eb P (lone (bt g (d.toArray++bo (fn.ntmps-d.length) undef) [] [.code c]) cs w) (lone {bt g t (rs.map mark) todo with mode:= .returning} cs p)->
  ∃e w' fr,(∃vs s a aD aI t,e=.returned (if h:a.toArray.size=1 then a.toArray[0]else .tuple a.toArray)/\R vs s/\cL P fn.ntmps ag aD aI s t w'/\dI N ag aa w β H ag aD w' aI s.heap/\
   bh P w' aD aI s.heap vs a/\aR (aH s.heap) vs)/\Comes P (lone (bt g (d.toArray++bo (fn.ntmps-d.length) undef) [] [.code c]) cs w) (lone fr cs w') e/\fr.fn=f/\fr.leaving P w' e:=by
  intro todo aJ;obtain⟨w',t1,t2,t3,t4⟩:=takes (P:=P) (fr:={bt g t (rs.map mark) todo with mode:=.returning}) (cs:=cs) rfl rs p L (fun r i=>(n r i).2.2.2);have S:∀k,aD k->w'.heap[k]?=p.heap[k]?:=fun k hk=>t3 k (fun i=>(n k i).2.2.1 hk);have y:cL P fn.ntmps ag aD aI s t w':=⟨m.heap.shut b.eE (R:=fun k=>k∈rs) (fun x hx=>⟨(n x hx).2.1,(n x hx).2.2.1⟩) t2 t3,fun x=>ar.mono (fun _ x=>x) S (cg.refl _ _) _ _ (m.gD x) (m.env x),m.gD,m.size⟩
  have F:dI N ag aa w β H ag aD w' aI s.heap:=⟨fun _ x=>x,b.bR,b.fresh,⟨by rw[t2];exact b.ext.size,fun k hk=>(t3 k (fun J=>by
   have:=(n k J).1;have:=hk.elim (i.eE k) (i.bR k);omega)).trans (b.ext.same k hk),t4.1.trans b.ext.io.1,t4.2.trans b.ext.io.2⟩,b.step,b.fp,b.loop⟩
  obtain⟨a,g1,g2,g3⟩:=G0 y C;have Q:(results fn t).run P w'=.ok (if h:a.toArray.size=1 then a.toArray[0]else .tuple a.toArray) w':=by
   simp only[results];rw[b4];rw[gy,g8]
   erw [g1]
   rfl
  refine⟨_,w',{bt g t [] todo with mode:=.returning},⟨vs,s,a,aD,aI,t,rfl,D,y,F,g2,g3⟩,ha aJ t1,by subst j;rfl,?_⟩;subst j;exact⟨rfl,rfl,rfl,fn,hf,Q⟩
 cases e with
 |exit id=>exact B.elim
 |normal=>
  exact q [] (ha o (.one (dg (by subst j;simp[stepG,ho,bt]))))
 |ret=>
  obtain⟨U,o⟩:=o;exact q (.code .ret::U) (ha o (.one (dg (by subst j;simp[stepG,ho,bt]))))
theorem JR{f:dl}{fn:Func}{c:Code}(m:ly P ah)(l:se P ah fit)(z:Enters P f)(hf:P.funcs[f]?=some fn)(y:fn.body=some c)(D:codeOk fit fn.ntmps c=true)
 {args:List PV}{v:PV}(C:args.length<=fn.ntmps)
 (H:b9 P ah (fn.ntmps,0) c (fun e s=>(match e with
  | .exit _=>False
  |_=>True)/\∃vs,fC P s fn.results.toList=some vs/\dY s.heap 9 (oneOf vs)=some v) ⟨iI 0 (args.map .p),[]⟩):q8 P f args v:=by
 refine⟨z,fun w aa I B A x=>?_⟩;have E:bX P w aa ⟨id,id⟩ [] (fun k=>k<w.heap.size):=⟨s_,s_,s_,B,fun _ h=>h,A⟩
 refine(Hl m l hf y D (R:=fun vs s=>dY s.heap 9 (oneOf vs)=some v) (by simpa using C) H E (jB.2 x) (iR _ _)).mono ?_;rintro e w' ⟨vs,s,J,aD,aI,t,rfl,u,hs,d,F,G⟩;obtain⟨n,q⟩:=It F G;have r:=xf hs.heap _ _ _ u q _ n;refine⟨_,yP aD aI s.heap,rfl,fun k hk=>.inl (d.bR k hk),?_,?_,d.ext.size,fun k hk=>d.ext.same k (.inl hk),d.ext.io,r⟩
 ·rintro k (hk|⟨b,o,i,hl,rfl⟩)
  ·rcases d.fresh k hk with h|h
   ·exact .inl h
   ·exact .inr o_
  ·by_cases j:aI.ak b<w.heap.size
   ·
    left;have a:=hs.heap.cJ b o i;have:aD (aI.ak b)\/¬(aI.ak b<w.heap.size):=by
     have key:∀fz,cw aD aI (fun k=>k<w.heap.size) fz b->aD (aI.ak b)\/¬(aI.ak b<w.heap.size):=fun fz h=>by
      cases fz with
      |true=>exact .inl h
      |false=>exact .inr h.2
     cases o with
     |hole=>exact hl.elim
     |dead=>exact hl.elim
     |box fz t=>obtain⟨_,_,_,_,h,_⟩:=a;exact key _ h
     |arr k an ai es=>
      rcases a with a|⟨_,_,_,_,_,_,_,_,_,_,h,_⟩
      ·exact(hl a).elim
      ·exact key _ h
     |map fz es=>obtain⟨_,_,_,_,h⟩:=a;exact key _ h
     |cT ks vs=>obtain⟨_,_,_,_,_,h⟩:=a;exact key _ h
     |dx s pos=>obtain⟨_,_,_,h⟩:=a;exact key _ h
     |loop L=>obtain⟨_,_,_,_,_,_,h⟩:=a;exact key _ h
    rcases this with h|h
    ·rcases d.fresh _ h with g|g
     ·exact g
     ·exact(g j).elim
    ·exact(h j).elim
   ·exact .inr o_
 ·rintro k (hk|⟨b,o,i,hl,rfl⟩)
  ·exact hs.heap.bR k hk
  ·exact hs.heap.nF i hl
def s9(P:c7)(a:List ec)(N:Nat)(H':Heap)(v:AV)(e:bp)(s:St):Prop:=
 (match e with
  | .exit _=>False
  |_=>True)/\∃vs,fC P s a=some vs/\oneOf vs=v/\(H'=s.heap\/(bC N s ⟨[],H'⟩/\aB (aH H') v))
theorem Vw{f:dl}{fn:Func}{c:Code}(q:ly P ah)(p:se P ah fit)(u:Enters P f)(hf:P.funcs[f]?=some fn)(j:fn.body=some c)(A:codeOk fit fn.ntmps c=true)
 {args:List AV}{H H':Heap}{v:AV}(z:args.length<=fn.ntmps)(G:b9 P ah (fn.ntmps,H.length) c (s9 P fn.results.toList H.length H' v) ⟨iI 0 args,H⟩):cm P f H args H' v:=by
 refine⟨u,fun w aa ag β I B r C=>?_⟩;refine(Hl q p hf j A (R:=fun vs s=>oneOf vs=v/\(H'=s.heap\/(bC H.length s ⟨[],H'⟩/\aB (aH H') v))) z G B r C).mono ?_;rintro e w' ⟨vs,s,g,aD,aI,t,rfl,⟨rfl,a⟩,hs,m,F,E⟩;obtain⟨i,k⟩:=It F E;obtain⟨d,k1,k2,k3⟩:dI H.length ag aa w β H ag aD w' aI H'/\bX P w' aD aI H' ag/\ar P w' aD aI H' (oneOf vs) (if h:g.toArray.size=1 then g.toArray[0]else .tuple g.toArray)/\aB (aH H') (oneOf vs):=by
  rcases a with rfl|⟨a,D⟩
  ·exact⟨m,hs.heap,i,k⟩
  ·refine⟨m.trans (a.fe (β:=aI) (ag:=ag) (aa:=aD) (w:=w')),(a.rel hs).heap,?_,D⟩;rcases a with a|a
   ·have e:H'=s.heap:=by rw[<-a]
    rw[e];exact i
   ·exact ar.mono (fun _ x=>x) (fun _ _=>rfl) a.1.step _ _ k i
 refine⟨_,aI,aD,rfl,⟨d.bR,d.fresh,d.ext,d.step.full,k1,fun x hx=>?_,fun b j=>?_⟩,k2,k3⟩
 ·obtain⟨o,n,y⟩:=hx;exact d.fp x (hv.1 n).1 ⟨o,n,y⟩
 ·obtain⟨L,l⟩:=j;exact d.loop b (hv.1 l).1 ⟨L,l⟩
theorem cL.post{n:Nat}{ag aa aD:Nat->Prop}{β aI:Bd}{s:St}{H':Heap}{t:Array c6}{w w':c9}(h:cL P n ag aa β s t w)(a:bV P ag aa w β s.heap aD w' aI H'):cL P n ag aD aI ⟨s.env,H'⟩ t w':=
 ⟨a.rel,fun x=>ar.mono a.bR (fun k hk=>a.ext.same k (.inr hk)) a.step _ _ (h.gD x) (h.env x),fun x=>aB.mono a.fp _ (h.gD x),h.size⟩
def qt:List Tmp->List AV->Env->Env
 |t::ts,v::vs,e=>qt ts vs ((t,v)::e)
 |_,_,e=>e
def gL:bp->Option Code
 | .normal=>none
 | .exit id=>some (.exit id)
 | .ret=>some .ret
def sj(b:Nat)(K:Heap->AV->Prop)(e:bp)(s:St):Prop:=
 match s.heap[b]? with
 |some (.loop L)=>K (s.heap.set b (.loop {L with st:=if(gL e).isNone then .ready else .done,pending:=gL e})) (.p (.bool (gL e).isNone))
 |_=>False
def xe(P:c7)(ah:dl->Bool)(q:Cx)(b:Nat)(body:Code)(K:Heap->AV->Prop)(e:bp)(s:St):Prop:=
 match e,s.heap[b]? with
 | .normal,some (.loop L)=>L.st=.ready/\b9 P ah q body (sj b K) ⟨s.env,s.heap.set b (.loop {L with st:=.busy})⟩
 |_,_=>False
def xU(P:c7)(ah:dl->Bool)(L:fo)(b:Nat)(args:List AV)(H:Heap)(K:Heap->AV->Prop):Prop:=
 b9 P ah (L.n,H.length) L.assign (xe P ah (L.n,H.length) b L.body K) ⟨qt L.params args L.env,H⟩
def qc(ts:List Tmp)(a:List c6)(t:Array c6):Array c6:=(ts.zip a).foldl (fun t(p,v)=>t.setIfInBounds p v) t
theorem HW{w:c9}{aa:Nat->Prop}{β:Bd}{H:Heap}:∀{ts:List Tmp}{vs:List AV}{xs:List c6}{e:Env}{t:Array c6},(∀x∈ts,x<t.size)->bh P w aa β H vs xs->aR (aH H) vs->(∀x,ar P w aa β H (aO e x) (t.getD x undef))->(∀x,aB (aH H) (aO e x))->
 (qc ts xs t).size=t.size/\(∀x,ar P w aa β H (aO (qt ts vs e) x) ((qc ts xs t).getD x undef))/\(∀x,aB (aH H) (aO (qt ts vs e) x))
 |[],vs,xs,e,t,_,a,_,b,c=>by
  cases vs<;>exact⟨rfl,b,c⟩
 |p::ts,[],xs,e,t,_,a,_,b,c=>by
  simp only[bh]at a;subst a;exact⟨rfl,b,c⟩
 |p::ts,v::vs,xs,e,t,hl,a,d,b,c=>by
  simp only[bh]at a;obtain⟨y,g,rfl,k1,k2⟩:=a;simp only[aR]at d;have f:p<t.size:=hl p s_;obtain⟨g1,g2,g3⟩:=HW (ts:=ts) (vs:=vs) (xs:=g) (e:=(p,v)::e) (t:=t.setIfInBounds p y) (fun x hx=>by simpa using hl x (by simp[hx])) k2 d.2
   (fun x=>by
    simp only[aO]
    by_cases hx:x=p
    ·subst hx;simp[f];exact k1
    ·simp only[hx,if_false,bv,b3 (i7 hx)];simpa using b x)
   (fun x=>by
    simp only[aO]
    split
    ·exact d.1
    ·exact c x)
  exact⟨by simpa[qc]using g1,g2,g3⟩
theorem zip_toArray(a:List Tmp)(b:List c6)(t:Array c6):(a.toArray.zip b.toArray).foldl (fun t(p,v)=>t.setIfInBounds p v) t=qc a b t:=by
 unfold qc;rw[<-ce];simp
theorem Vu(I:ly P ah)(G:se P ah fit){b:Nat}{L:fo}{H H':Heap}{args:List AV}{v:AV}(f:H[b]?=some (.loop L))(az:args.length=L.params.length)(aC:∀x∈L.params,x<L.n)
 (ap:codeOk fit L.n L.assign=true)(hc:codeOk fit L.n L.body=true)(aH:xU P ah L b args H (fun ad aP=>aP=v/\bC H.length ⟨[],ad⟩ ⟨[],H'⟩)):iw P b H args H' v:=by
 refine⟨⟨L,f⟩,fun w aa ag β i B W au=>?_⟩;obtain⟨tmps,defers,fn,an,M,ao,aT⟩:=B.cJ b _ f;have s:b<H.length:=(hv.1 f).1;have aw:=(sv W).1;have j:=run_yield (P:=P) (args:=i.toArray) an (by simp[aw,az]);obtain⟨q1,aL,aM⟩:=HW (ts:=L.params) (vs:=args) (xs:=i) (e:=L.env) (t:=tmps) (fun x hx=>by rw[M];exact aC x hx) W au ao (B.refs b _ f);rw[zip_toArray]at j;refine⟨fn,_,_,_,j,fun K ac=>?_⟩;obtain⟨c,z⟩:∃c:dq,c={fn:=fn,tmps:=#[],todo:=[],defers:=[],mode:=.run,kind:=.normal,roundOf:=some (β.ak b)}:=⟨_,rfl⟩
 have g:c.roundOf=some (β.ak b):=by subst z;rfl
 have A:c.kind=.normal:=by subst z;rfl
 have ax:e7 (β.ak b) fn (qc L.params i tmps) L.assign L.body .normal=bt c (qc L.params i tmps) [] [.code L.assign,.beginRound,.code L.body]:=by subst z;rfl
 have V:qA H.length c β H:=fun l hl=>by
  rw[g]at hl;cases hl;exact⟨b,s,⟨L,f⟩,rfl⟩
 obtain⟨e1,s1,aS,aR,aQ,t1,ba,ak,g1,am,g3,g4,g5⟩:=mh (N:=H.length) (fr:=c) (cs:=K::ac) (ds:=[]) I G L.assign [.beginRound,.code L.body] ap aH ⟨B,aL,aM,q1.trans M⟩ V;unfold xe at g1
 split at g1
 case h_2=>exact g1.elim
 rename_i q Q;obtain⟨g1,g6⟩:=g1;obtain⟨a8,m1,_,_,m4,m5⟩:=g5;have aF:=m5 (by rw[g];rfl);subst aF;obtain rfl:ak=[]:=m1;have ai:aQ.ak b=β.ak b:=(g4.step.loop b s ⟨_,f,trivial⟩ ⟨q,Q⟩).2;obtain⟨rec,r1,r2,aN,a3,a4,a5,a6,a7,D⟩:=BL g3.heap Q .busy q.pending;rw[ai]at r1 D;have X:=run_beginRound (P:=P) r1 (r2.trans g1);have av:({rec with state:=.busy}:Loop)={rec with state:=.busy,pending:=q.pending}:=by rw[<-aN]
 rw[av]at X;have T:=g4.trans (D.fe (N:=H.length));obtain⟨e2,s2,r,p,m,t2,F,al,k1,k2,k3,k4,k5⟩:=mh (N:=H.length) (fr:=c) (cs:=K::ac) (ds:=[]) I G L.body [] hc g6 (g3.post D) (V.fe T);unfold sj at k1
 split at k1
 case h_2=>exact k1.elim
 rename_i J S;obtain⟨rfl,Y⟩:=k1;obtain⟨a9,aJ,_,_,n4,aK⟩:=k5;have aG:=aK (by rw[g];rfl);subst aG;obtain rfl:al=[]:=aJ;have aU:∀k,r k->ag k:=fun k hk=>(m4 k ((n4 k hk).resolve_right s_)).resolve_right s_;have U:=T.trans k4;have aj:m.ak b=β.ak b:=(U.step.loop b s ⟨_,f,trivial⟩ ⟨J,S⟩).2;obtain⟨E,ab,aV,aW,aX,aY,aZ,a0,a1,C⟩:=BL k3.heap S (if(gL e2).isNone then .ready else .done) (gL e2);rw[aj]at ab C;have u:=run_endRound (P:=P) (gL e2) ab;have aq:=U.trans (C.fe (N:=H.length));have d:=aq.trans (Y.fe (β:=m) (ag:=r) (aa:=p) (w:=F.putObj (β.ak b) (.loop {E with state:=if(gL e2).isNone then .ready else .done,pending:=gL e2})));refine⟨.bool (gL e2).isNone,F.putObj (β.ak b) (.loop {E with state:=if(gL e2).isNone then .ready else .done,pending:=gL e2}),m,p,?_,?_,by simp[ar,aA],by simp[aB]⟩
 ·rw[ax];refine ha (am:eb P _ _) ((g9 (stepR_beginRound (b:=c) (a:=⟨t1,[]⟩) g X)).trans ?_);cases e2 with
  |normal=>exact ha (k2:eb P _ _) (.one (stepR_round_end (b:=c) (a:=⟨t2,[]⟩) g A u))
  |exit id=>
   obtain⟨aI,af,a2⟩:=k2;exact ha a2 (.one (stepR_round_exit (b:=c) (a:=⟨t2,[]⟩) g A (by rw[af];rfl) u))
  |ret=>
   obtain⟨aI,a2⟩:=k2;exact ha a2 (.one (stepR_round_ret (b:=c) (a:=⟨t2,[]⟩) g A u))
 ·have aD:cL P 0 r p m ⟨[],s2.heap.set b (.loop {J with st:=if(gL e2).isNone then .ready else .done,pending:=gL e2})⟩ #[] (F.putObj (β.ak b) (.loop {E with state:=if(gL e2).isNone then .ready else .done,pending:=gL e2})):=
   ⟨C.rel,fun x=>by simp[aO,ar,aA],fun x=>by simp[aO,aB],rfl⟩
  have aE:=(Y.rel aD).heap;refine⟨d.bR,d.fresh,d.ext,d.step.full,aE.shut d.eE (R:=fun _=>False) (fun _ h=>h.elim) rfl (fun _ _=>rfl),fun x hx=>?_,fun y j=>?_⟩
  ·obtain⟨o,Z,ay⟩:=hx;exact d.fp x (hv.1 Z).1 ⟨o,Z,ay⟩
  ·obtain⟨ae,O⟩:=j;exact d.loop y (hv.1 O).1 ⟨ae,O⟩
end
section
variable{P:c7}
theorem Kv{w:c9}{aa:Nat->Prop}{b:Bool}{v:c6}:aA P w aa (.bool b) v↔v=.bool b:=by simp[aA]
theorem Cs{w:c9}{aa:Nat->Prop}{k:ee}{n:Int}{v:c6}:aA P w aa (.int k n) v↔v=.int k n:=by simp[aA]
theorem LF{w:c9}{aa:Nat->Prop}{s:List Nat}{v:c6}:aA P w aa (.str s) v↔∃bs:ByteArray,v=.string bs/\s=bs.data.toList.map (·.toNat):=by simp[aA]
theorem ek{s:Sem c6}{w:c9}{a:c6}(h:s.run P w=.ok a w):(do pure (Next.value (<-s)):Sem Next).run P w=.ok (.value a) w:=by simp[h]
theorem uc{s:Sem c6}{w w':c9}{a:c6}(h:s.run P w=.ok a w'):(do pure (Next.value (<-s)):Sem Next).run P w=.ok (.value a) w':=by simp[h]
theorem wT{T:c8}{v:AV}{w:c9}{aa:Nat->Prop}{β:Bd}{H:Heap}{cs:List c6}(hk:kindOf P T=ad v)(c:bg P w aa β H v cs):P.cellsOf T=cs.length/\∃i,P.info? T=some i/\i.size=cs.length:=by
 obtain⟨hl,a⟩:=nt c;have b:P.cellsOf T=cs.length:=by
  rw[hl,<-hk];unfold kindOf at hk⊢
  split at hk
  ·split at hk<;>rename_i hc
   ·simp at hc;rw[if_pos (by simpa using hc)];simp[bB,hc.2]
   ·exact(a hk.symm).elim
  ·split at hk<;>rename_i hc
   ·simp at hc;rw[if_pos (by simpa using hc)];simp[bB,hc]
   ·exact(a hk.symm).elim
  ·split at hk<;>rename_i hc
   ·simp at hc;rw[if_pos (by simpa using hc)];simp[bB,hc]
   ·exact(a hk.symm).elim
  ·exact(a hk.symm).elim
 refine⟨b,?_⟩;cases hi:P.info? T with
 |none=>
  have:kindOf P T=.bad:=by simp[kindOf,gi,hi]
  rw[this]at hk;exact(a hk.symm).elim
 |some i=>exact⟨i,rfl,by simpa[gg,hi]using b⟩
variable{o:Oper}{ρ:db->AV}{base:Nat}
theorem O7{x:db}(a:o.op=.move x\/o.op=.assign x):bm P o ρ base {v:=ρ x}:=by
 refine bm.same fun H w aa ag β c d b _=>?_;refine⟨c x,?_,b x ?_⟩
 ·rcases a with a|a<;>simp[dk,a]
 ·rcases a with a|a<;>simp[a,fZ]
theorem aAv{c a b:db}{t:Bool}(d:o.op=.pick c a b)(hc:ρ c=.p (.bool t)):bm P o ρ base {v:=if t then ρ a else ρ b}:=by
 refine bm.same fun H w aa ag β g h f _=>?_;have e:=(f c (by simp[d,fZ])).1;rw[hc]at e;simp only[ar,Kv]at e;refine⟨if t then g a else g b,by simp[dk,d,e,asBool],?_⟩;cases t with
 |true=>exact f a (by simp[d,fZ])
 |false=>exact f b (by simp[d,fZ])
theorem H3{t:db}{i:Nat}{vs:List AV}{v:AV}(h:o.op=.extract t i)(e:ρ t=.aE vs\/∃l,ρ t=.p (.aE l)/\vs=l.map .p)(hi:vs[i]?=some v):bm P o ρ base {v}:=by
 refine bm.same fun H w aa ag β k n j _=>?_;obtain⟨d,f⟩:=j t (by simp[h,fZ]);obtain⟨c,k1,k2,k3⟩:∃c,bh P w aa β H vs c/\k t=.tuple c.toArray/\aR (aH H) vs:=by
  rcases e with e|⟨l,e,rfl⟩
  ·rw[e]at d f;simp only[ar,aB]at d f;obtain⟨c,a,b⟩:=d;exact⟨c,a,b,f⟩
  ·rw[e]at d;simp only[ar,aA]at d;obtain⟨c,a,b⟩:=d;exact⟨c,jB.2 a,b,iR _ _⟩
 obtain⟨g1,g2⟩:=sv k1;have m:i<vs.length:=(hv.1 hi).1;have hx:c[i]?=some (c[i]' o_):=hC o_;have g:=g2 i;rw[hi,hx]at g;refine⟨c[i]' o_,?_,by simpa using g,cH.1 k3 v (hG hi)⟩;simp only[dk,h,Instr.extract,k2];simp[hx]
theorem aAr{c:ew}{T j:c8}{x y:db}{k d:ee}{a b:Int}{K:PV->Prop}(g:o.op= .binOp c T x y j)(hx:ρ x= .p (.int k a))(t:ρ y= .p (.int d b))(hk:k=d\/c= .shl\/c= .shr)
 (h:o7 c k a b K)(aj:List (Nat×Obj)):∃v,K v/\bm P o ρ base {v:=.p v,aj}:=by
 have key:∀v,K v->(∀w:c9,(binOp c T (.int k a) (.int d b)).run P w= .ok (match v with| .int k n=> .int k n| .bool b=> .bool b|_=>undef) w)->(∀w aa,aA P w aa v (match v with| .int k n=> .int k n| .bool b=> .bool b|_=>undef))->
  ∃v,K v/\bm P o ρ base {v:=.p v,aj}:=by
  intro v s r q;refine⟨v,s,bm.same fun H w aa ag β z u i _=>?_⟩;have e:=(i x (by simp[g,fZ])).1;have f:=(i y (by simp[g,fZ])).1;rw[hx]at e;rw[t]at f;simp only[ar,Cs]at e f;refine⟨_,?_,by simp only[ar];exact q w aa,by simp[aB]⟩;simp only[dk,g,e,f];refine ek ?_;have m:(eqGuard c T x y (.int k a) (.int d b)).run P w=.ok () w:=by
   unfold eqGuard
   split<;>simp
  simp[m,r w]
 cases c<;>simp only[o7]at h
 case add|sub|mul|and|or|xor|andNot|eql|neq|lss|leq|gtr|geq=>
  obtain rfl:k=d:=by rcases hk with h|h|h<;>first|exact h|cases h
  exact key _ h (fun w=>by simp[binOp,gc,ge,Op.intCmp]) (fun w aa=>by simp[aA])
 case quo|rem=>
  obtain rfl:k=d:=by rcases hk with h|h|h<;>first|exact h|cases h
  exact key _ h.2 (fun w=>by simp[binOp,Op.intDiv,h.1]) (fun w aa=>by simp[aA])
 case shl|shr=>
  have l:¬b<0:=o_
  exact key _ h.2 (fun w=>by simp[binOp,Op.shift,l]) (fun w aa=>by simp[aA])
theorem DE{u:UnOp}{T:c8}{x:db}{v r:PV}(c:o.op= .unOp u T x)(hx:ρ x= .p v)
 (h:(u=.not/\∃b,v=.bool b/\r=.bool (!b))\/(u=.neg/\∃k n,v=.int k n/\r=.int k (k.wrap (0-n)))\/
  (u=.xor/\∃k n,v=.int k n/\r=.int k (k.wrap (cE k.bits (if k.signed then -1 else k.max)^^^cE k.bits n).toNat))):bm P o ρ base {v:=.p r}:=by
 refine bm.same fun H w aa ag β f e d _=>?_;have a:=(d x (by simp[c,fZ])).1;rw[hx]at a;simp only[ar]at a;rcases h with⟨rfl,b,rfl,rfl⟩|⟨rfl,k,n,rfl,rfl⟩|⟨rfl,k,n,rfl,rfl⟩
 ·rw[Kv]at a;exact⟨_,by simp only[dk,c,a];exact ek (by simp[gb];rfl),by simp[ar,aA],by simp[aB]⟩
 ·rw[Cs]at a;exact⟨_,by simp only[dk,c,a];exact ek (by simp[gb,gc];rfl),by simp[ar,aA],by simp[aB]⟩
 ·rw[Cs]at a;exact⟨_,by simp only[dk,c,a];exact ek (by simp[gb,ge];rfl),by simp[ar,aA],by simp[aB]⟩
end
section
variable{P:c7}{w:c9}{aa ag:Nat->Prop}{β:Bd}{H:Heap}
variable{o:Oper}{ρ:db->AV}{base:Nat}
theorem lr(H:Heap)(b:Nat)(o':Obj):aX H ([]++newAt b [o'])=H.set b o':=rfl
theorem Ut{x:AV}{T:c8}(hs:ad x≠ .bad)(hx:jn T (ad x)=true)(hrefs:∀(H:Heap)(w:c9)(aa ag:Nat->Prop)(β:Bd)(d:db->c6),bX P w aa β H ag->
 (∀y∈o.op.operands,ar P w aa β H (ρ y) (d y)/\aB (aH H) (ρ y))->∃a,ar P w aa β H x a/\aB (aH H) x/\
  (dk d o).run P w=.ok (.value (.pointer (some ⟨w.heap.size,0,none⟩))) {w with heap:=w.heap.push (.cells a.cells T)}):
 bm P o ρ base {v:=.ptr base [],aS:=[.box false x]}:=by
 intro H w aa ag β d b m _ j;obtain⟨a,f,e,g⟩:=hrefs H w aa ag β d b m;have c:H[base]?=some .hole:=by simpa using j 0 s_
 have i:=xq f hs;have aJ:=xF (β:=β) c (.box false x) w.heap.size 0;have aj:∀y,aH H y->aH (H.set base (.box false x)) y:=lI c (fun _ h=>h.elim);have l:=sn (cap:=0) b c (ob:=.cells a.cells T) (o':=.box false x)
  ⟨a.cells,T,by simp[Bd.at],bg.mono (fun _ x=>x) (fun k hk=>um _ _ (b.bR k hk)) aJ _ _ e i,by
   simp only[cw,Bd.at,if_true,cN,if_false];exact⟨fun h=>iz _ (b.bR _ h),fun h=>iz _ (b.eE _ h)⟩,s_,hx⟩ (aB.mono aj _ e)
 refine⟨_,_,_,_,aa,g,.inl rfl,l,?_,?_⟩
 ·simp only[ar,bH,bP,lr];exact⟨rfl,_,_,0,rfl,rfl,fun _=>by simp[Bd.at]⟩
 ·simp only[aB,lr];exact⟨.box false x,by simp only;rw[hz (hv.1 c).1],trivial⟩
theorem aAo{T:c8}{x:db}(a:o.op=.box T x)(hs:ad (ρ x)≠.bad)(hx:jn T (ad (ρ x))=true):bm P o ρ base {v:=.ptr base [],aS:=[.box false (ρ x)]}:=by
 refine Ut (T:=T) hs hx fun H w aa ag β e f d=>?_;obtain⟨b,c⟩:=d x (by simp[a,fZ]);refine⟨e x,b,c,?_⟩;simp only[dk,a];simp[Instr.box,newVar,newRow]
theorem AD{w:c9}{aa:Nat->Prop}:∀(n:Nat)(T:c8)(cs:List c6)(t:PV),sQ P n T cs=some t->aV P w aa t cs/\kindOf P T=aL t
 |0,_,_,_,h=>by simp[sQ]at h
 |n+1,T,cs,t,h=>by
  have go:∀(b:List c8)(l:List Nat)(cs:List c6)(fs:List PV),oK P (sQ P n) b l cs=some fs->∃a,bc P w aa l fs a/\a.flatten=cs:=by
   intro b
   induction b with
   |nil=>
    intro l cs fs h;cases l with
    |nil=>
     cases cs with
     |nil=>simp[oK]at h;subst h;exact⟨[],by simp[bc]⟩
     |cons c cs=>simp[oK]at h
    |cons s g=>simp[oK]at h
   |cons T b p=>
    intro l cs fs h;cases l with
    |nil=>simp[oK]at h
    |cons s g=>
     simp only[oK]at h
     split at h
     case isFalse=>simp at h
     rename_i k
     split at h
     case h_2=>simp at h
     rename_i v vs f o
     split at h
     case isFalse=>simp at h
     rename_i q;simp at h;subst h;obtain⟨d,_⟩:=AD n T _ v f;obtain⟨a,e,i⟩:=p g _ vs o;refine⟨cs.take s::a,by simp only[bc];exact⟨_,_,rfl,d,k,e⟩,?_⟩;simp[i]
  unfold sQ at h
  split at h
  ·rename_i hk
   split at h
   case h_2=>simp at h
   rename_i c
   split at h
   ·simp at h
   ·rename_i v m;simp at h;subst h;have f:=G8 (P:=P) (w:=w) (aa:=aa) c;have hl:aL (ofConst c)=.leaf:=by
     unfold ofConst at m⊢
     split<;>simp_all [aL]
    exact⟨(su hl _).2 ⟨c,rfl,f⟩,by rw[hk,hl]⟩
  ·rename_i u hk
   split at h
   case h_2=>simp at h
   rename_i l hl
   split at h
   case h_2=>simp at h
   rename_i fs j;simp at h;subst h;obtain⟨a,d,e⟩:=go _ _ _ _ j;refine⟨by simp only[aV];exact⟨l,a,hl,d,e.symm⟩,by simp[aL,hk]⟩
  ·simp at h
theorem ov{T:c8}{z:PV}(h:cG P T=some z):∃i a,P.info? T=some i/\i.zero=some a/\(∀(w:c9)(aa:Nat->Prop),aV P w aa z a.cells.toList)/\kindOf P T=aL z:=by
 unfold cG at h;cases hi:P.info? T with
 |none=>simp[hi]at h
 |some i=>
  simp only[hi,i8]at h;cases b:i.zero with
  |none=>simp[b]at h
  |some a=>
   simp only[b]at h
   split at h
   case isFalse=>simp at h
   exact⟨i,a,rfl,b,fun w aa=>(AD 40 T _ z h).1,(AD (w:=default) (aa:=fun _=>True) 40 T _ z h).2⟩
theorem KF{T:c8}{z:PV}(h:cG P T=some z):∃a,(∀w:c9,(zeroValue T).run P w=.ok a w)/\∀(w:c9)(aa:Nat->Prop),aA P w aa z a:=by
 obtain⟨i,a,d,e,f,g⟩:=ov h;refine⟨a,fun w=>by simp[zeroValue,typeInfo,d,e],fun w aa=>?_⟩;have b:yY a (aL z)=true:=by
  unfold cG at h;simp only[d,i8,e]at h
  split at h
  ·rename_i j;rw[<-g];exact j
  ·simp at h
 have hc:=f w aa;cases hs:aL z with
 |bad=>exact((nj hc).2 hs).elim
 |leaf=>
  rw[hs]at b;obtain⟨c,k1,k2⟩:=(su hs _).1 hc;cases a<;>simp[yY]at b<;>(simp[hg]at k1;subst k1;exact k2)
 |agg u=>
  rw[hs]at b;cases a<;>simp[yY]at b;have:=(uV hs _).1 hc;simpa[hg]using this
theorem sf{T:c8}{i:ea}{a:c6}(h:P.info? T=some i)(b:i.zero=some a)(w:c9):(zeroValue T).run P w=.ok a w:=by
 simp[zeroValue,typeInfo,h,b]
theorem VH{T:c8}{z:PV}(j:o.op=.alloc T)(m:cG P T=some z)(hx:jn T (aL z)=true):bm P o ρ base {v:=.ptr base [],aS:=[.box false (.p z)]}:=by
 obtain⟨i,b,d,e,f,q⟩:=ov m;intro H w aa ag β n a r _ g;have c:H[base]?=some .hole:=by simpa using g 0 s_
 have l:(dk n o).run P w=.ok (.value (.pointer (some ⟨w.heap.size,0,none⟩))) {w with heap:=w.heap.push (.cells b.cells T)}:=by
  simp only[dk,j];simp[Instr.alloc,sf d e,newVar,newRow]
 have k:=sn (cap:=0) a c (ob:=.cells b.cells T) (o':=.box false (.p z))
  ⟨b.cells,T,by simp[Bd.at],by simp only[bg];exact f _ _,by
   simp only[cw,Bd.at,if_true,cN,if_false];exact⟨fun h=>iz _ (a.bR _ h),fun h=>iz _ (a.eE _ h)⟩,s_,by simpa[ad]using hx⟩ (by simp[Obj.refs,aB])
 refine⟨_,_,_,_,aa,l,.inl rfl,k,?_,?_⟩
 ·simp only[ar,bH,bP,lr];exact⟨rfl,_,_,0,rfl,rfl,fun _=>by simp[Bd.at]⟩
 ·simp only[aB,lr];exact⟨.box false (.p z),by simp only;rw[hz (hv.1 c).1],trivial⟩
theorem B6{T:c8}{a:db}{v:AV}(h:o.op= .load T a){d:db->c6}{ak off:Nat}{c:List c6}(g:d a= .pointer (some ⟨ak,off,none⟩))(hk:kindOf P T=ad v)
 (i:bg P w aa β H v c)(hc:gJ w ak off c):∃b,(dk d o).run P w=.ok (.value b) w/\ar P w aa β H v b:=by
 obtain⟨b,e,f⟩:=GX hk i hc;refine⟨b,?_,f⟩;simp only[dk,h,Instr.loadAt,g,e9];simp[e]
theorem yJ{ai:Nat}{d:List AV}{g:List (List c6)}(h:Row P w aa β H ai d g){i:Nat}(hi:i<d.length):
 ∃a c post,g.flatten=a++c++post/\a.length=i*ai/\c.length=ai/\bg P w aa β H d[i] c/\
  ∀e c',bg P w aa β H e c'->c'.length=c.length->∃b,b.flatten=a++c'++post/\Row P w aa β H ai (d.set i e) b:=by
 obtain⟨a,c,post,j,k,n,f,l,m⟩:=sC h (hC hi);have hl:c.length=ai:=by
  rw[hE]at f;rw[if_pos hi]at f;simpa using f.symm
 refine⟨a,c,post,j,?_,hl,l,?_⟩
 ·rw[k,hD,ix o_,hB]
 ·intro e c' hf hc;obtain⟨b,k1,k2⟩:=m e c' hf hc;exact⟨b,k1,by unfold Row;rw[h7];exact k2⟩
theorem aAt{T:c8}{a:db}(g:o.op= .load T a){H0:Heap}{K:aU->Prop}(h:nM P T H0 (ρ a) K):
 ∃e,K e/\bm P o ρ base e/\(∀p∈e.aj,H0[p.1]?=some p.2)/\(∀p∈e.aG,p.1<H0.length/\p.2≠.hole):=by
 unfold nM at h
 split at h
 ·rename_i b J m
  split at h
  case h_2=>exact h.elim
  rename_i fz t u
  split at h
  case h_2=>exact h.elim
  rename_i s hs;obtain⟨hk,h⟩:=h;refine⟨_,h,bm.same fun H w aa ag β C j n aj=>?_,by simpa using u,s_⟩;obtain⟨d,y⟩:=n a (by simp[g,fZ]);rw[m]at d;simp only[ar,bH,bP]at d;have f:H[b]?=some (.box fz t):=by simpa using aj
  obtain⟨_,E,I,B,x,r,d⟩:=d;obtain⟨rfl,rfl⟩:=d (.inl ⟨fz,t,f⟩);obtain⟨cs,D,k1,k2,k3,k4⟩:=j.cJ b _ f;obtain⟨pre,xs,post,e1,e2,e3,_⟩:=oN k2 hs r;obtain⟨l,g1,g2⟩:=B6 g x hk e3 (by rw[<-e2];exact lB k1 e1);exact⟨l,g1,g2,uz hs (j.refs b _ f)⟩
 ·rename_i b an ai i J m
  split at h
  case h_2=>exact h.elim
  rename_i k U Q q u;obtain⟨rfl,rfl,hi,h⟩:=h
  split at h
  case h_2=>exact h.elim
  rename_i s hs;obtain⟨hk,h⟩:=h;refine⟨_,h,bm.same fun H w aa ag β C j n aj=>?_,by simpa using u,s_⟩;obtain⟨d,y⟩:=n a (by simp[g,fZ]);rw[m]at d;simp only[ar,bH,bP]at d;have f:H[b]?=some (.arr k an ai q):=by simpa using aj
  have A:¬dc k q:=fun G=>by rw[G.2]at hi;simp at hi
  obtain⟨_,E,I,B,x,r,d⟩:=d;obtain⟨rfl,rfl⟩:=d k q f A;rcases j.cJ b _ f with hold|⟨cs,D,O,rest,k1,k2,k3,_⟩
  ·exact(A hold).elim
  obtain⟨M,c,L,r1,r2,R,N,_⟩:=yJ k2 hi;obtain⟨pre,xs,post,e1,e2,e3,_⟩:=oN N hs r;have F:gJ w (β.ak b) (i*ai+B) xs:=by
   have:cs.toList=(M++pre)++xs++(post++L++rest):=by rw[k3,r1,e1];simp
   have z:=lB k1 this;rw[hT,r2,e2]at z;exact z
  obtain⟨l,g1,g2⟩:=B6 g x hk e3 F;exact⟨l,g1,g2,uz hs (cH.1 (j.refs b _ f) _ (h5 hi))⟩
 ·rename_i t m;obtain⟨hk,h⟩:=h;refine⟨_,h,bm.same fun H w aa ag β C j n aj=>?_,s_,s_⟩;obtain⟨d,y⟩:=n a (by simp[g,fZ]);rw[m]at d;simp only[ar,aA]at d;obtain⟨ak,off,S,k1,k2,k3,k4⟩:=d;obtain⟨l,g1,g2⟩:=B6 (β:=β) (H:=H) (v:=.p t) g k4 (by simpa[ad]using hk) (by simpa only[bg]using k1) k3;exact⟨l,g1,g2,by simp[aB]⟩
 ·exact h.elim
end
section
variable{P:c7}{w:c9}{aa ag:Nat->Prop}{β:Bd}{H:Heap}
mutual
theorem LG:∀{v:PV}{cs:List c6},aV P w aa v cs->∀c∈cs,c.oneCell'=true
 | .undef,_,h| .aE _,_,h=>by simp[aV]at h
 | .bool _,_,h| .int _ _,_,h| .dE,_,h| .aK,_,h| .fx,_,h| .gW,_,h| .fP,_,h=>by simp only[aV]at h;subst h;simp[hd]
 | .str _,_,h=>by simp only[aV]at h;obtain⟨_,rfl,_⟩:=h;simp[hd]
 | .cq _,_,h=>by simp only[aV]at h;obtain⟨_,_,_,_,_,_,rfl⟩:=h;simp[hd]
 | .bE _ _,_,h=>by simp only[aV]at h;obtain⟨_,_,_,_,_,_,_,_,_,_,_,_,rfl⟩:=h;simp[hd]
 | .seq _,_,h=>by simp only[aV]at h;rcases h with⟨_,rfl⟩|⟨_,_,_,_,_,_,_,_,_,_,_,rfl⟩<;>simp[hd]
 | .eS _,_,h=>by simp only[aV]at h;obtain⟨_,_,_,_,_,_,rfl⟩:=h;simp[hd]
 | .func _ _ _,_,h=>by simp only[aV]at h;obtain⟨_,_,_,_,rfl⟩:=h;simp[hd]
 | .st u fs,_,h=>by
  simp only[aV]at h;obtain⟨l,a,b,d,rfl⟩:=h;exact Kx d
theorem Kx:∀{l:List Nat}{vs:List PV}{a:List (List c6)},bc P w aa l vs a->∀c∈a.flatten,c.oneCell'=true
 |[],[],_,h=>by simp only[bc]at h;subst h;simp
 |[],_::_,_,h=>by simp[bc]at h
 |_::_,[],_,h=>by simp[bc]at h
 |n::f,v::vs,a,h=>by
  simp only[bc]at h;obtain⟨c,cs,rfl,b,d,e⟩:=h;intro x hx;simp only[hP,hS]at hx;exact hx.elim (LG b x) (Kx e x)
end
mutual
theorem yd:∀{v:AV}{cs:List c6},bg P w aa β H v cs->∀c∈cs,c.oneCell'=true
 | .p t,_,h=>by simp only[bg]at h;exact LG h
 | .ptr ..,_,h| .b6 ..,_,h| .sl ..,_,h| .map ..,_,h=>by simp only[bg]at h;obtain⟨v,rfl,b,_⟩:=h;simpa using b
 | .func ..,_,h=>by simp only[bg]at h;obtain⟨_,_,_,_,rfl⟩:=h;simp[hd]
 | .aE _,_,h=>by simp[bg]at h
 | .st u fs,_,h=>by
  simp only[bg]at h;obtain⟨l,a,b,d,rfl⟩:=h;exact Ky d
theorem Ky:∀{l:List Nat}{vs:List AV}{a:List (List c6)},bG P w aa β H l vs a->∀c∈a.flatten,c.oneCell'=true
 |[],[],_,h=>by simp only[bG]at h;subst h;simp
 |[],_::_,_,h=>by simp[bG]at h
 |_::_,[],_,h=>by simp[bG]at h
 |n::f,v::vs,a,h=>by
  simp only[bG]at h;obtain⟨c,cs,rfl,b,d,e⟩:=h;intro x hx;simp only[hP,hS]at hx;exact hx.elim (yd b x) (Ky e x)
end
theorem pI(d:bX P w aa β H ag){b:Nat}{o o':Obj}(c:H[b]?=some o)(hl:o.live)(j:o'.live)(l:∀v,o.has v->o'.has v){p new:Array c6}{T:c8}
 (i:w.heap[β.ak b]?=some (.cells p T (0,0)))(e:¬aa (β.ak b)/\¬ag (β.ak b))(aJ:cg β H β (H.set b o'))
 (m:ft P (w.setRow (β.ak b) new) aa β (H.set b o') ag b o')(n:o'.refs (aH (H.set b o'))):
 bV P ag aa w β H aa (w.setRow (β.ak b) new) β (H.set b o'):=by
 refine bV.set d (hv.1 c).1 (fun _ _=>⟨rfl,rfl⟩) (fun _ x=>x) (fun _ x=>.inl x) (fun k hk=>by rw[eq];exact d.bR k hk) (by rw[eq];exact ip _)
  (fun k hk _=>ej w _ k _ (hk.resolve_right (fun h=>h j))) (fun _=>.inr ⟨rfl,⟨o,c,hl⟩,.inr e.1,e.2⟩) aJ m n (fun q v a f=>by rw[c]at a;cases a;exact l v f) (fun L g=>by obtain⟨_,_,_,a,_⟩:=d.cJ b _ g;rw[i]at a;cases a)
theorem oH{b:Nat}{o o':Obj}(l:H[b]?=some o)(hk:(∃f g t B,o= .box f t/\o'= .box g B)\/(∃k v z e m,o= .arr k v z e/\o'= .arr k v z m/\e.length=m.length)\/(∃f g e m,o= .map f e/\o'= .map g m)\/(∃s p y,o= .dx s p/\o'= .dx s y)):
 cg β H β (H.set b o'):=by
 have u:b<H.length:=(hv.1 l).1;have j:∀x,x≠b->(H.set b o')[x]?=H[x]?:=fun x hx=>hA (i7 hx);have i:(H.set b o')[b]?=some o':=hz u;refine⟨?_,?_,?_,?_,?_⟩
 ·rintro x _ ⟨fz,t,h⟩;refine⟨?_,rfl⟩
  by_cases hx:x=b
  ·subst hx;rw[i]at h;cases h;rcases hk with⟨f,g,t1,t2,c,a⟩|⟨_,_,_,_,_,_,a,_⟩|⟨_,_,_,_,_,a⟩|⟨_,_,_,_,a⟩
   ·exact⟨f,t1,by rw[l,c]⟩
   all_goals cases a
  ·rw[j x hx]at h;exact⟨fz,t,h⟩
 ·rintro x _ ⟨s,p,h⟩;refine⟨?_,rfl⟩
  by_cases hx:x=b
  ·subst hx;rw[i]at h;cases h;rcases hk with⟨f,g,t1,t2,c,a⟩|⟨_,_,_,_,_,_,a,_⟩|⟨_,_,_,_,_,a⟩|⟨s1,n,A,c,a⟩
   ·cases a
   ·cases a
   ·cases a
   ·exact⟨s1,n,by rw[l,c]⟩
  ·rw[j x hx]at h;exact⟨s,p,h⟩
 ·rintro x _ ⟨w,h,d⟩;refine⟨?_,rfl⟩
  by_cases hx:x=b
  ·subst hx;rw[i]at h;cases h;rcases hk with⟨f,g,t1,t2,c,a⟩|⟨_,_,_,_,_,_,a,_⟩|⟨f,g,e1,e2,c,a⟩|⟨s1,n,A,c,a⟩
   ·rw[a]at d;exact d.elim
   ·rw[a]at d;exact d.elim
   ·exact⟨o,l,by rw[c];trivial⟩
   ·rw[a]at d;exact d.elim
  ·rw[j x hx]at h;exact⟨w,h,d⟩
 ·intro x an ai k e _ h
  by_cases hx:x=b
  ·subst hx;unfold dT at h⊢;rw[i]at h;cases h;rcases hk with⟨f,g,t1,t2,c,a⟩|⟨k0,v,z,q,C,c,a,r⟩|⟨_,_,_,_,_,a⟩|⟨_,_,_,_,a⟩
   ·cases a
   ·cases a;refine⟨k,q,by rw[l,c],o_,?_,fun _=>⟨rfl,rfl⟩⟩;unfold dc;rw[<-hL,<-hL,r]
   ·cases a
   ·cases a
  ·unfold dT at h⊢;rw[j x hx]at h;exact⟨k,e,h,ip _,ht,fun _=>⟨rfl,rfl⟩⟩
 ·rintro x _ ⟨L,h⟩;refine⟨?_,rfl⟩
  by_cases hx:x=b
  ·subst hx;rw[i]at h;cases h;rcases hk with⟨f,g,t1,t2,c,a⟩|⟨_,_,_,_,_,_,a,_⟩|⟨_,_,_,_,_,a⟩|⟨_,_,_,_,a⟩<;>cases a
  ·rw[j x hx]at h;exact⟨L,h⟩
variable{o:Oper}{ρ:db->AV}{base:Nat}
theorem Ig{T:c8}{a x:db}(n:o.op= .store T a x){e:db->c6}{ak off:Nat}{b:List c6}{d:Array c6}{f:c8}(j:e a= .pointer (some ⟨ak,off,none⟩))
 (hx:(e x).cells.toList=b)(p:P.cellsOf T=b.length/\∃i,P.info? T=some i/\i.size=b.length)(k:w.heap[ak]?=some (.cells d f (0,0)))(m:∀c∈b,c.oneCell'=true)(hl:off+b.length<=d.size):
 (dk e o).run P w=.ok .skip (w.setRow ak (d.toList.take off++b++d.toList.drop (off+b.length)).toArray):=by
 obtain⟨_,i,hi,l⟩:=p;have h:(sizeOf T).run P w=.ok b.length w:=by simp[sizeOf,typeInfo,hi,l]
 have g:=run_storeCells_at (P:=P) ak off f b 0 d w k (by simpa using hl) m;simp only[i2]at g;have q:(e x).cells.size=b.length:=by rw[<-hx];simp
 simp only[dk,n,Instr.storeAt,j,e9];simp[storeVar,h,q,hx,g]
theorem Bf(u:c8)(fs:List AV):ad (gV u fs)=.agg u:=by
 unfold gV;split<;>rfl
theorem U6{t:AV}{c:List (c8×Nat)}{x s d:AV}(hs:eL t c=some s)(a:fQ t c x=some d)(e:ad s=ad x):ad d=ad t:=by
 cases c with
 |nil=>
  simp only[fQ,jp]at a;subst a;have:s=t:=by
   cases t<;>simp[eL]at hs<;>exact hs.symm
  rw[<-e,this]
 |cons p r=>
  obtain⟨u,i⟩:=p;cases t<;>simp only[fQ]at a
  case p t=>
   split at a
   case isFalse=>simp at a
   rename_i b
   split at a
   case h_2=>simp at a
   split at a
   case h_2=>simp at a
   simp only[jp]at a;subst a;rw[Bf];simp[ad,b]
  case st u' fs=>
   split at a
   case isFalse=>simp at a
   rename_i b
   split at a
   case h_2=>simp at a
   split at a
   case h_2=>simp at a
   simp only[jp]at a;subst a;rw[Bf];simp[ad,b]
  all_goals simp at a
theorem Wi{T:c8}{a x:db}(z:o.op= .store T a x){H0:Heap}{K:aU->Prop}(h:nA P T H0 (ρ a) (ρ x) K):
 ∃e,K e/\bm P o ρ base e/\(∀p∈e.aj,H0[p.1]?=some p.2)/\(∀p∈e.aG,p.1<H0.length/\p.2≠.hole):=by
 unfold nA at h;obtain⟨hk,ac,h⟩:=h
 split at h
 ·rename_i b aq N
  split at h
  case h_2=>exact h.elim
  rename_i t B
  split at h
  case h_2=>exact h.elim
  rename_i s j hs r;obtain⟨J,h⟩:=h;refine⟨_,h,?_,by simpa using B,by simpa using(hv.1 B).1⟩;intro H w aa ag β f l D aj _;have d:H[b]?=some (.box false t):=by simpa using aj
  obtain⟨g,_⟩:=D a (by simp[z,fZ]);obtain⟨ab,M⟩:=D x (by simp[z,fZ]);rw[N]at g;simp only[ar,bH,bP]at g;obtain⟨_,al,Z,L,W,U,g⟩:=g;obtain⟨rfl,rfl⟩:=g (.inl ⟨false,t,d⟩);obtain⟨cs,A,k1,k2,k3,k4⟩:=l.cJ b _ d;obtain⟨pre,xs,post,e1,e2,e3,e4⟩:=oN k2 hs U;have m:=xq ab ac;have q:(f x).cells.toList.length=xs.length:=by rw[(nt m).1,(nt e3).1,J]
  have ae:cs.size=pre.length+xs.length+post.length:=by
   have:=congrArg hW e1;simp at this;omega
  have C:=Ig z W rfl (wT hk m) k1 (yd m) o_;have aS:(cs.toList.take Z++(f x).cells.toList++cs.toList.drop (Z+(f x).cells.toList.length))=pre++(f x).cells.toList++post:=by
   rw[e1,q,<-e2];simp
  rw[aS]at C;have aJ:cg β H β (H.set b (.box false j)):=oH d (.inl ⟨_,_,_,_,rfl,rfl⟩);have Q:∀y,aH H y->aH (H.set b (.box false j)) y:=lI d (fun _ h=>h);have X:∀k,aa k->(w.setRow (β.ak b) (pre++(f x).cells.toList++post).toArray).heap[k]?=w.heap[k]?:=fun k S=>ej w _ k _ (fun O=>k3.1 (O▸S));have V:=pI l d trivial (o':=.box false j) trivial (fun _ h=>h) k1 (new:=(pre++(f x).cells.toList++post).toArray) k3 aJ
   ⟨_,A,et w _ _ _ A _ k1,bg.mono (fun _ x=>x) X aJ _ _ (uC r (l.refs b _ d) M) (e4 _ _ _ r m q),k3,s_,by rw[U6 hs r J];exact k4.2⟩
   (aB.mono Q _ (uC r (l.refs b _ d) M))
  exact⟨_,_,_,β,aa,C,.inr ⟨rfl,rfl⟩,V,by simp[ar,aA,bf,undef],by simp[aB]⟩
 ·rename_i b an ai i aq N
  split at h
  case h_2=>exact h.elim
  rename_i k az ax n B;obtain⟨rfl,rfl,ah,hi,h⟩:=h
  split at h
  case h_2=>exact h.elim
  rename_i s j hs r;obtain⟨J,h⟩:=h;refine⟨_,h,?_,by simpa using B,by simpa using(hv.1 B).1⟩;intro H w aa ag β f l D aj _;have d:H[b]?=some (.arr k an ai n):=by simpa using aj
  obtain⟨g,_⟩:=D a (by simp[z,fZ]);obtain⟨ab,M⟩:=D x (by simp[z,fZ]);rw[N]at g;simp only[ar,bH,bP]at g;have I:¬dc k n:=fun G=>by rw[G.2]at hi;simp at hi
  obtain⟨_,al,Z,L,W,U,g⟩:=g;obtain⟨rfl,rfl⟩:=g k n d I;rcases l.cJ b _ d with hold|⟨cs,A,aw,rest,k1,k2,k3,k4,k5,k6,k7,k8⟩
  ·exact(I hold).elim
  have af:¬aa (β.ak b)/\¬ag (β.ak b):=by
   unfold cw at k7;rw[if_neg (by simpa using ah)]at k7;exact k7
  obtain⟨u,c,F,r1,r2,ay,au,av⟩:=yJ k2 hi;obtain⟨pre,xs,post,e1,e2,e3,e4⟩:=oN au hs U;have m:=xq ab ac;have q:(f x).cells.toList.length=xs.length:=by rw[(nt m).1,(nt e3).1,J]
  have ad:cs.toList=(u++pre)++xs++(post++F++rest):=by rw[k3,r1,e1];simp
  have ae:cs.size=(u++pre).length+xs.length+(post++F++rest).length:=by
   have:=congrArg hW ad;simp at this⊢;omega
  have ap:(u++pre).length=i*ai+L:=by simp[r2,e2]
  have C:=Ig z W rfl (wT hk m) k1 (yd m) o_;have aS:(cs.toList.take (i*ai+L)++(f x).cells.toList++cs.toList.drop (i*ai+L+(f x).cells.toList.length))=(u++pre)++(f x).cells.toList++(post++F++rest):=by
   rw[ad,q,<-ap,hF (u++pre),List.take_left',List.drop_append,hF]
   ·simp
   ·rfl
  rw[aS]at C;obtain⟨am,c1,c2⟩:=av j _ (e4 _ _ _ r m q) (by rw[e1];simp[q]);have aJ:cg β H β (H.set b (.arr k an ai (n.set i j))):=oH d (.inr (.inl ⟨_,_,_,_,_,rfl,rfl,s_⟩));have Q:∀y,aH H y->aH (H.set b (.arr k an ai (n.set i j))) y:=lI d (fun _ h=>h);have ao:¬dc k (n.set i j):=fun G=>I ⟨G.1,by have:=G.2;rw[List.set_eq_nil_iff]at this;exact this⟩;have ak:aR (aH H) (n.set i j):=by
   rw[cH];intro v Y;rcases hH Y with Y|rfl
   ·exact cH.1 (l.refs b _ d) v Y
   ·exact uC r (cH.1 (l.refs b _ d) _ (h5 hi)) M
  have X:∀E,aa E->(w.setRow (β.ak b) ((u++pre)++(f x).cells.toList++(post++F++rest)).toArray).heap[E]?=w.heap[E]?:=fun E S=>ej w _ E _ (fun O=>af.1 (O▸S));have V:=pI l d I (o':=.arr k an ai (n.set i j)) ao (fun _ h=>h) k1 (new:=((u++pre)++(f x).cells.toList++(post++F++rest)).toArray) af aJ
   (.inr ⟨_,A,am,rest,et w _ _ _ A _ k1,bG.mono (fun _ x=>x) X aJ _ _ _ ak c2,by rw[c1];simp,by
    rw[<-k4,ae];simp[q];omega,by simpa using k5,fun R=>by rw[k6 R];simp,k7,(fun R=>(ah R).elim),k8.2⟩)
   (aR.mono Q _ ak)
  exact⟨_,_,_,β,aa,C,.inr ⟨rfl,rfl⟩,V,by simp[ar,aA,bf,undef],by simp[aB]⟩
 ·exact h.elim
end
section
variable{P:c7}{w:c9}{aa ag:Nat->Prop}{β:Bd}{H:Heap}
theorem Ay(P:c7)(T:c8):P.underlying T=(P.info? (P.underlyingId T)).map (fun i:ea=>i.desc):=by
 unfold gi gj;cases hi:P.info? T with
 |none=>simp[hi]
 |some i=>
  obtain⟨d,_,_,_,_,_,_,_,_,_⟩:=i;cases d<;>simp[hi]
theorem AU{T u:c8}(h:kindOf P T=.agg u):u=P.underlyingId T/\(∃l,dF P u=some l)/\P.cellsOf T=P.cellsOf u:=by
 unfold kindOf at h
 split at h
 ·split at h
  ·rename_i hc;simp at h;subst h;simp at hc;exact⟨rfl,i9.1 hc.1,hc.2⟩
  ·simp at h
 ·split at h
  ·rename_i hc;simp at h;subst h;simp at hc;exact⟨rfl,i9.1 hc.1,hc.2⟩
  ·simp at h
 ·split at h<;>simp at h
 ·simp at h
theorem ue{T u:c8}{n:Nat}(h:fN P T=some (u,n)):∃fs l,P.underlying T=some (.struct fs)/\fs.size=n/\kindOf P T= .agg u/\dF P u=some l/\l.length=n/\
 ∀(i:Nat)(_hi:i<n),∃f,fs[i]?=some f/\f.offset=(l.take i).sum/\l[i]?=some (P.cellsOf f.type)/\0<P.cellsOf f.type/\(jy P u)[i]?=some f.type:=by
 unfold fN at h
 split at h
 case h_2=>simp at h
 rename_i u' fs hk b;simp at h;obtain⟨rfl,rfl⟩:=h;obtain⟨e,⟨l,hl⟩,_⟩:=AU hk;refine⟨fs,l,b,rfl,hk,hl,?_⟩;have a:(P.info? u').map (fun i:ea=>i.desc)=some (.struct fs):=by rw[e,<-Ay,b]
 unfold dF at hl;rw[a]at hl;dsimp only at hl
 split at hl
 case isFalse=>simp at hl
 rename_i hc;simp at hl;simp only[cR,h6,decide_eq_true_eq,beq_iff_eq]at hc;obtain⟨⟨c,g⟩,d⟩:=hc;subst hl;refine⟨s_,fun i hi=>?_⟩;refine⟨fs[i],by simp[hi],?_,by simp[hi],?_,?_⟩
 ·have:=d (fs[i],i) (by rw[List.mem_iff_getElem?];exact⟨i,by simp[hi]⟩);simpa using this
 ·have:=c (P.cellsOf fs[i].type) (by simp;exact⟨fs[i],s_,rfl⟩);exact this
 ·unfold jy;rw[a];simp[hi]
theorem sx{T u:c8}{n:Nat}(h:gU P T=some (u,n)):∃e,P.underlying T=some (.array n e)/\kindOf P T=.agg u/\dF P u=some (hw n (P.cellsOf e))/\0<P.cellsOf e:=by
 unfold gU at h
 split at h
 case h_2=>simp at h
 rename_i u' f e hk a;simp at h;obtain⟨rfl,rfl⟩:=h;obtain⟨c,⟨l,hl⟩,_⟩:=AU hk;have b:(P.info? u').map (fun i:ea=>i.desc)=some (.array f e):=by rw[c,<-Ay,a]
 have d:=hl;unfold dF at hl;rw[b]at hl;dsimp only at hl
 split at hl
 case isFalse=>simp at hl
 rename_i hc;simp at hl hc;exact⟨e,a,hk,by rw[d,hl],hc.1⟩
theorem wU{p q:List (c8×Nat)}{a b:Nat}(c:gd P p=some a)(f:gd P q=some b):gd P (p++q)=some (a+b):=by
 induction p generalizing a with
 |nil=>simp[gd]at c;subst c;simpa using f
 |cons x p g=>
  obtain⟨u,i⟩:=x;simp only[gd]at c;cases d:dF P u with
  |none=>simp[d]at c
  |some l=>
   cases e:gd P p with
   |none=>simp[d,e]at c
   |some a'=>
    simp[d,e]at c;obtain⟨hi,rfl⟩:=c;simp only[hU,gd,d,g e,if_pos hi];congr 1;omega
theorem wY{u:c8}{i:Nat}{l:List Nat}(hl:dF P u=some l)(hi:i<l.length):gd P [(u,i)]=some (l.take i).sum:=by
 simp[gd,hl,hi]
variable{o:Oper}{ρ:db->AV}{base:Nat}
theorem kb(ak off n:Nat):(⟨ak,off,none⟩:Addr).add n=⟨ak,off+n,none⟩:=by unfold Addr.add;split<;>simp_all
theorem RX{T:c8}{a:db}{f:Nat}(v:o.op= .fieldAddr T a f){K:aU->Prop}(h:ni P T (ρ a) f K):
 ∃e,K e/\bm P o ρ base e/\e.aj=[]/\e.aG=[]:=by
 unfold ni at h
 split at h
 case h_2=>exact h.elim
 rename_i u n aJ;obtain⟨hf,h⟩:=h;obtain⟨fs,l,J,x,hk,hl,N,E⟩:=ue aJ;obtain⟨fd,g1,g2,g3,g4,g5⟩:=E f hf;have z:=wY hl (by omega:f<l.length);have B:∀(w:c9)(d:db->c6)(ak off:Nat),d a=.pointer (some ⟨ak,off,none⟩)->(dk d o).run P w=.ok (.value (.pointer (some ⟨ak,off+(l.take f).sum,none⟩))) w:=by
  intro w d ak off m;obtain⟨i,hi⟩:∃i,P.info? fd.type=some i:=by
   cases hi:P.info? fd.type with
   |none=>simp[gg,hi]at g4
   |some i=>exact⟨i,rfl⟩
  have I:(sizeOf fd.type).run P w=.ok (P.cellsOf fd.type) w:=by simp[sizeOf,typeInfo,hi,gg]
  simp only[dk,v];refine ek ?_;have G:¬P.cellsOf fd.type=0:=o_
  simp[Instr.fieldAt,da J,g1,m,e9,fieldPlace,I,G,kb,g2]
 split at h
 ·rename_i b M m;refine⟨_,h,bm.same fun H w aa ag β d D r _=>?_,rfl,rfl⟩;obtain⟨c,j⟩:=r a (by simp[v,fZ]);rw[m]at c j;simp only[ar,bH,bP,aB]at c j;obtain⟨_,ak,off,L,A,y,p⟩:=c;refine⟨_,B w d _ _ A,?_,by simpa[aB]using j⟩;simp only[ar,bH,bP];exact⟨rfl,_,_,_,rfl,wU y z,fun q=>⟨(p q).1,by rw[(p q).2]⟩⟩
 ·rename_i b an ai i M m;refine⟨_,h,bm.same fun H w aa ag β d D r _=>?_,rfl,rfl⟩;obtain⟨c,j⟩:=r a (by simp[v,fZ]);rw[m]at c j;simp only[ar,bH,bP,aB]at c j;obtain⟨_,ak,off,L,A,y,p⟩:=c;refine⟨_,B w d _ _ A,?_,by simpa[aB]using j⟩;simp only[ar,bH,bP];exact⟨rfl,_,_,_,rfl,wU y z,fun k C q x=>⟨(p k C q x).1,by rw[(p k C q x).2];omega⟩⟩
 ·rename_i t m;obtain⟨hs,h⟩:=h
  split at h
  case h_2=>exact h.elim
  rename_i g F;refine⟨_,h,?_,rfl,rfl⟩;refine bm.same fun H w aa ag β d D r _=>?_;obtain⟨c,_⟩:=r a (by simp[v,fZ]);rw[m]at c;simp only[ar,aA]at c;obtain⟨ak,off,O,k1,k2,k3,k4⟩:=c;refine⟨_,B w d _ _ k4,?_,by simp[aB]⟩;obtain⟨pre,xs,post,e1,e2,e3⟩:=xR (path:=[(u,f)]) (s:=g) k1 (by simp[kJ,hs,F]) z;simp only[ar,aA];refine⟨ak,off+(l.take f).sum,xs,e3,k2,?_,rfl⟩;intro i hi;have:=k3 (pre.length+i) (by rw[e1];simp;omega);rw[<-e2,i4,this];congr 1;simp only[e1,hF];rw[hX o_];simp only[i0];rw[hZ hi]
 ·exact h.elim
end
section
variable{P:c7}{w:c9}{aa ag:Nat->Prop}{β:Bd}{H:Heap}
variable{o:Oper}{ρ:db->AV}{base:Nat}
theorem rV{ak off:Nat}{a pre xs post:List c6}(h:gJ w ak off a)(e:a=pre++xs++post):gJ w ak (off+pre.length) xs:=by
 intro i hi;have:=h (pre.length+i) (by rw[e];simp;omega);rw[i4,this];congr 1;simp only[e,hF];rw[hX o_];simp only[i0];rw[hZ hi]
structure pM(P:c7)(T:c8)(sz:Nat)(e:c8)(i:ea):Prop where
 gv:P.underlying T=some (.slice e)
 info:P.info? e=some i
 size:i.size=sz
 pos:0<sz
 bytes:i.bytes<32768
 aFy:0<i.bytes
 pD:dU P T=e
theorem jX{T:c8}{sz:Nat}(h:cQ P T=some sz):∃e i,pM P T sz e i:=by
 unfold cQ at h
 split at h
 case h_2=>simp at h
 rename_i e a
 split at h
 case h_2=>simp at h
 rename_i i hi
 split at h
 case isFalse=>simp at h
 rename_i hc;simp at h;subst h;exact⟨e,i,a,hi,rfl,hc.2.1,hc.1,hc.2.2,by simp[dU,a]⟩
theorem pM.run{T:c8}{sz:Nat}{e:c8}{i:ea}(h:pM P T sz e i)(w:c9):(sizeOf e).run P w=.ok sz w:=by
 simp[sizeOf,typeInfo,h.info,h.size]
theorem RW{T:c8}{x R:db}(B:o.op= .indexAddr T x R){H0:Heap}{K:aU->Prop}(h:nh P T H0 (ρ x) (ρ R) K):
 ∃e,K e/\bm P o ρ base e/\(∀p∈e.aj,H0[p.1]?=some p.2)/\e.aG=[]:=by
 unfold nh at h
 split at h
 case h_2=>exact h.elim
 rename_i ap n ah;obtain⟨C,h⟩:=h;have E:x∈o.op.operands:=by simp[B,fZ]
 have al:R∈o.op.operands:=by simp[B,fZ]
 have D:∀{H:Heap}{w:c9}{aa:Nat->Prop}{β:Bd}{z:db->c6},(∀y∈o.op.operands,ar P w aa β H (ρ y) (z y)/\aB (aH H) (ρ y))->z R=.int ap n:=by
  intro H w aa β z f;have:=(f R al).1;rw[ah]at this;simpa[ar,aA]using this
 split at h
 ·
  rename_i full d hx;obtain⟨j,r,h⟩:=h;obtain⟨e,ae,A⟩:=jX r;refine⟨_,h,bm.same fun H w aa ag β z N f _=>?_,s_,rfl⟩;obtain⟨a,_⟩:=f x E;rw[hx]at a;simp only[ar,aA]at a;obtain⟨ak,off,cap,ai,U,k1,k2,k3,k4,k5,sp,ab,k6⟩:=a;obtain rfl:sp=none:=ab.resolve_right o_;have Z:Row P w aa ⟨id,id⟩ [] ai (d.map .p) U:=lH.2 k1;obtain⟨pre,c,post,r1,r2,ac,S,_⟩:=yJ Z (i:=n.toNat) (by simpa using j);have L:aV P w aa d[n.toNat] c:=by
   have:(d.map AV.p)[n.toNat]'(by simpa using j)=.p d[n.toNat]:=s_
   rw[this]at S;simpa only[bg]using S
  have W:bB P (aL d[n.toNat])=ai:=by rw[<-(nj L).1,ac]
  refine⟨.pointer (some ⟨ak,off+n.toNat*ai,none⟩),?_,?_,by simp[aB]⟩
  ·simp only[dk,B];refine ek ?_;have q:n<(d.length:Int):=by omega
   simp[fb,D f,asIntOf,da A.gv,k6,C,q,A.run,W,kb]
  ·simp only[ar,aA];refine⟨ak,off+n.toNat*ai,c,L,k2 (by intro F;rw[F]at j;simp at j),?_,rfl⟩;rw[<-r2];exact rV k3 r1
 ·
  rename_i d hx;obtain⟨j,r,h⟩:=h;obtain⟨e,ae,A⟩:=jX r;refine⟨_,h,bm.same fun H w aa ag β z N f _=>?_,s_,rfl⟩;obtain⟨a,_⟩:=f x E;rw[hx]at a;simp only[ar,aA]at a;rcases a with⟨rfl,_⟩|⟨ak,off,cap,ai,U,k1,k2,k3,k5,sp,ab,k6⟩
  ·simp at j
  obtain rfl:sp=none:=ab.resolve_right o_;have Z:Row P w aa ⟨id,id⟩ [] ai (d.map .p) U:=lH.2 k1;obtain⟨pre,c,post,r1,r2,ac,S,_⟩:=yJ Z (i:=n.toNat) (by simpa using j);have L:aV P w aa d[n.toNat] c:=by
   have:(d.map AV.p)[n.toNat]'(by simpa using j)=.p d[n.toNat]:=s_
   rw[this]at S;simpa only[bg]using S
  have W:bB P (aL d[n.toNat])=ai:=by rw[<-(nj L).1,ac]
  refine⟨.pointer (some ⟨ak,off+n.toNat*ai,none⟩),?_,?_,by simp[aB]⟩
  ·simp only[dk,B];refine ek ?_;have q:n<(d.length:Int):=by omega
   simp[fb,D f,asIntOf,da A.gv,k6,C,q,A.run,W,kb]
  ·simp only[ar,aA];refine⟨ak,off+n.toNat*ai,c,L,k2 (by intro F;rw[F]at j;simp at j),?_,rfl⟩;rw[<-r2];exact rV k3 r1
 ·
  rename_i b an ai off len hx;obtain⟨r,j,h⟩:=h;obtain⟨e,ae,A⟩:=jX r
  split at h
  case h_2=>exact h.elim
  rename_i k aC aw d ao;obtain⟨rfl,rfl,am,h⟩:=h;refine⟨_,h,bm.same fun H w aa ag β z N f aj=>?_,by simpa using ao,rfl⟩;obtain⟨a,l⟩:=f x E;rw[hx]at a l;simp only[ar,bH,bP,aB]at a l;have ad:H[b]?=some (.arr k an ai d):=by simpa using aj
  obtain⟨g1,g2,V⟩:=a.2 k d ad;have V:=V am;refine⟨.pointer (some ⟨β.ak b,off*ai+n.toNat*ai,none⟩),?_,?_,by simpa[aB]using l⟩
  ·simp only[dk,B];refine ek ?_;have q:n<(len:Int):=by omega
   simp[fb,D f,asIntOf,da A.gv,V,C,q,A.run,kb]
  ·simp only[ar,bH,bP];refine⟨rfl,_,_,0,rfl,rfl,fun ay av v ax=>?_⟩;unfold dT at v;rw[ad]at v;cases v;exact⟨rfl,by rw[Nat.add_mul];simp⟩
 ·
  rename_i b au hx
  split at h
  case h_2=>exact h.elim
  rename_i u m G;obtain⟨j,h⟩:=h;obtain⟨e,Q,hk,hl,M⟩:=sx G;refine⟨_,h,bm.same fun H w aa ag β z N f _=>?_,s_,rfl⟩;obtain⟨a,l⟩:=f x E;rw[hx]at a l;simp only[ar,bH,bP,aB]at a l;obtain⟨_,ak,off,aq,Y,X,v⟩:=a;have J:=wY hl (i:=n.toNat) (by simpa using j);have O:((hw m (P.cellsOf e)).take n.toNat).sum=n.toNat*P.cellsOf e:=by rw[hD,ix o_,hB]
  have r:(sizeOf e).run P w=.ok (P.cellsOf e) w:=by
   cases hi:P.info? e with
   |none=>simp[gg,hi]at M
   |some i=>simp[sizeOf,typeInfo,hi,gg]
  refine⟨.pointer (some ⟨ak,off+n.toNat*P.cellsOf e,none⟩),?_,?_,by simpa[aB]using l⟩
  ·simp only[dk,B];refine ek ?_;have q:n<(m:Int):=by omega
   simp[fb,D f,asIntOf,da Q,Y,e9,C,q,r,kb]
  ·simp only[ar,bH,bP];exact⟨rfl,_,_,_,rfl,wU X J,fun I=>⟨(v I).1,by rw[(v I).2,O]⟩⟩
 ·rename_i b an ai i au hx
  split at h
  case h_2=>exact h.elim
  rename_i u m G;obtain⟨j,h⟩:=h;obtain⟨e,Q,hk,hl,M⟩:=sx G;refine⟨_,h,bm.same fun H w aa ag β z N f _=>?_,s_,rfl⟩;obtain⟨a,l⟩:=f x E;rw[hx]at a l;simp only[ar,bH,bP,aB]at a l;obtain⟨_,ak,off,aq,Y,X,v⟩:=a;have J:=wY hl (i:=n.toNat) (by simpa using j);have O:((hw m (P.cellsOf e)).take n.toNat).sum=n.toNat*P.cellsOf e:=by rw[hD,ix o_,hB]
  have r:(sizeOf e).run P w=.ok (P.cellsOf e) w:=by
   cases hi:P.info? e with
   |none=>simp[gg,hi]at M
   |some i=>simp[sizeOf,typeInfo,hi,gg]
  refine⟨.pointer (some ⟨ak,off+n.toNat*P.cellsOf e,none⟩),?_,?_,by simpa[aB]using l⟩
  ·simp only[dk,B];refine ek ?_;have q:n<(m:Int):=by omega
   simp[fb,D f,asIntOf,da Q,Y,e9,C,q,r,kb]
  ·simp only[ar,bH,bP];exact⟨rfl,_,_,_,rfl,wU X J,fun k d I F=>⟨(v k d I F).1,by rw[(v k d I F).2,O];omega⟩⟩
 ·rename_i t hx
  split at h
  case h_2=>exact h.elim
  rename_i u m G;obtain⟨hs,j,h⟩:=h
  split at h
  case h_2=>exact h.elim
  rename_i g af;obtain⟨e,Q,hk,hl,M⟩:=sx G;refine⟨_,h,bm.same fun H w aa ag β z N f _=>?_,s_,rfl⟩;obtain⟨a,_⟩:=f x E;rw[hx]at a;simp only[ar,aA]at a;obtain⟨ak,off,az,k1,k2,k3,k4⟩:=a;have J:=wY hl (i:=n.toNat) (by simpa using j);have O:((hw m (P.cellsOf e)).take n.toNat).sum=n.toNat*P.cellsOf e:=by rw[hD,ix o_,hB]
  have r:(sizeOf e).run P w=.ok (P.cellsOf e) w:=by
   cases hi:P.info? e with
   |none=>simp[gg,hi]at M
   |some i=>simp[sizeOf,typeInfo,hi,gg]
  obtain⟨pre,xs,post,e1,e2,e3⟩:=xR (path:=[(u,n.toNat)]) (s:=g) k1 (by simp[kJ,hs,af]) J;refine⟨.pointer (some ⟨ak,off+n.toNat*P.cellsOf e,none⟩),?_,?_,by simp[aB]⟩
  ·simp only[dk,B];refine ek ?_;have q:n<(m:Int):=by omega
   simp[fb,D f,asIntOf,da Q,k4,e9,C,q,r,kb]
  ·simp only[ar,aA];refine⟨ak,_,xs,e3,k2,?_,rfl⟩;rw[<-O,<-e2];exact rV k3 e1
 ·exact h.elim
theorem aDQ{bs:ByteArray}{s:List Nat}(h:s=bs.data.toList.map (·.toNat)){i:Nat}(hi:i<s.length):∃b:UInt8,bs[i]?=some b/\b.toNat=s[i]:=by
 subst h;have a:i<bs.size:=by simpa using hi
 refine⟨bs[i],by simp[a],?_⟩;simp only[List.getElem_map,cb];rfl
theorem SZ{T:c8}{x f:db}{s:List Nat}{k:ee}{n:Int}(e:o.op= .index T x f)(hx:ρ x= .p (.str s))(hi:ρ f= .p (.int k n))(d:iu P T=true)(i:0<=n)(g:n.toNat<s.length):
 bm P o ρ base {v:=.p (.int .u8 (s[n.toNat]'g))}:=by
 refine bm.same fun H w aa ag β m l h _=>?_;have a:=(h x (by simp[e,fZ])).1;have c:=(h f (by simp[e,fZ])).1;rw[hx]at a;rw[hi]at c;simp only[ar,aA]at a c;obtain⟨bs,e1,e2⟩:=a;obtain⟨b,g1,g2⟩:=aDQ e2 g;have j:P.underlying T=some .string:=by
  unfold iu at d
  split at d
  ·assumption
  ·simp at d
 refine⟨.int .u8 b.toNat,?_,by simp[ar,aA,g2],by simp[aB]⟩;simp only[dk,e,e1,c];refine ek ?_;simp[Instr.index,asIntOf,da j,i,g1]
theorem Tm{S D:c8}{x:db}{k k0:ee}{n:Int}(b:o.op= .convert S D x)(e:∃d,P.underlying S=some d)(c:P.underlying D=some (.int k))(hx:ρ x= .p (.int k0 n)):
 bm P o ρ base {v:=.p (.int k (k.wrap n))}:=by
 refine bm.same fun H w aa ag β i h g _=>?_;have a:=(g x (by simp[b,fZ])).1;rw[hx]at a;simp only[ar,aA]at a;obtain⟨d,f⟩:=e;refine⟨.int k (k.wrap n),?_,by simp[ar,aA],by simp[aB]⟩;simp only[dk,b,a];refine ek ?_;simp[convert,da f,da c,Conv.intToInt]
theorem Tl{S D:c8}{x:db}{s:List Nat}(b:o.op= .convert S D x)(e:∃d,P.underlying S=some d)(c:P.underlying D=some .string)(hx:ρ x= .p (.str s)):
 bm P o ρ base {v:=.p (.str s)}:=by
 refine bm.same fun H w aa ag β i h g _=>?_;have a:=(g x (by simp[b,fZ])).1;rw[hx]at a;simp only[ar,aA]at a;obtain⟨bs,e1,e2⟩:=a;obtain⟨d,f⟩:=e;refine⟨.string bs,?_,by simp only[ar,aA];exact⟨bs,rfl,e2⟩,by simp[aB]⟩;simp only[dk,b,e1];refine ek ?_;simp only[convert,gy,da f,da c,gx];cases d<;>simp
theorem Ud{b an ai off len:Nat}{k:AK}{d:List AV}{v:c6}(h:ar P w aa β H (.sl b an ai off len) v)(j:H[b]?=some (.arr k an ai d)):∃a c,v=.slice a len c:=by
 simp only[ar,bH,bP]at h;obtain⟨f,g,i⟩:=h.2 k d j
 by_cases e:dc k d
 ·rw[g e];have:len=0:=by rw[e.2]at f;simp at f;omega
  subst this;exact⟨_,_,rfl⟩
 ·exact⟨_,_,i e⟩
theorem A1:∀{b:List (PV×PV)}{a:List en},cz P w aa b a->a.length=b.length
 |[],a,h=>by simp only[cz]at h;subst h;rfl
 |(k,v)::r,a,h=>by
  simp only[cz]at h;obtain⟨e,rest,rfl,d,f,c⟩:=h;simp[A1 c]
theorem aAs{c:Call}{x:db}{n:Nat}{aj:List (Nat×Obj)}{H0:Heap}(F:o.op= .call c)(hc:c.callee= .builtin .len)(D:c.args.toList=[x])(hl:lenOf H0 (ρ x)=some (n,aj))(d:gQ P (c.argTypes.getD 0 0) (ρ x)=true)(N:0<c.argTypes.size):
 bm P o ρ base {v:=.p (.int .i64 n),aj}/\(∀p∈aj,H0[p.1]?=some p.2):=by
 have t:x∈o.op.operands:=by
  rw[F];simp only[fZ,Call.operands,hc];simp;rw[<-b2,D];simp
 have I:c.args=#[x]:=by apply cy;simpa using D
 have m:c.argTypes[0]?=some (c.argTypes.getD 0 0):=by simp[cx,N]
 have q:∀{H:Heap}{w:c9}{aa:Nat->Prop}{β:Bd}{l:db->c6},((ez c.argTypes o.type #[l x]).run P w= .ok (goInt n) w)->
  ∃C,(dk l o).run P w=.ok (.value C) w/\ar P w aa β H (.p (.int .i64 n)) C/\aB (aH H) (.p (.int .i64 n)):=by
  intro H w aa β l K;refine⟨goInt n,?_,by simp[ar,aA,goInt],by simp[aB]⟩;simp only[dk,F,resolve,hc,I];simp[invoke,builtin,K]
 have M:∀T:c8,iu P T=true->P.underlying T=some .string:=by
  intro T h;unfold iu at h
  split at h
  ·assumption
  ·simp at h
 generalize Q:c.argTypes.getD 0 0=T at*;unfold lenOf at hl
 split at hl
 ·rename_i s hx;simp at hl;obtain⟨rfl,rfl⟩:=hl;rw[hx]at d;simp only[gQ]at d;refine⟨bm.same fun H w aa ag β l u i _=>q ?_,s_⟩;have g:=(i x t).1;rw[hx]at g;simp only[ar,aA]at g;obtain⟨bs,e1,e2⟩:=g;have hs:s.length=bs.size:=by rw[e2];simp
  simp[ez,m,da (M _ d),e1,hs]
 ·rename_i hx;simp at hl;obtain⟨rfl,rfl⟩:=hl;rw[hx]at d;refine⟨bm.same fun H w aa ag β l u i _=>q ?_,s_⟩;have g:=(i x t).1;rw[hx]at g;simp only[ar,aA]at g;simp only[gQ]at d
  split at d
  ·rename_i e j;simp[ez,m,da j,g]
  ·simp at d
 ·rename_i hx;simp at hl;obtain⟨rfl,rfl⟩:=hl;rw[hx]at d;refine⟨bm.same fun H w aa ag β l u i _=>q ?_,s_⟩;have g:=(i x t).1;rw[hx]at g;simp only[ar,aA]at g;simp only[gQ]at d
  split at d
  ·rename_i k e j;simp[ez,m,da j,g]
  ·simp at d
 ·rename_i f y hx;simp at hl;obtain⟨rfl,rfl⟩:=hl;rw[hx]at d;refine⟨bm.same fun H w aa ag β l u i _=>q ?_,s_⟩;have g:=(i x t).1;rw[hx]at g;simp only[ar,aA]at g;obtain⟨ak,off,cap,ai,G,k1,k2,k3,k4,k5,sp,L,k6⟩:=g;simp only[gQ]at d
  split at d
  ·rename_i e j;simp[ez,m,da j,k6]
  ·simp at d
 ·rename_i y hx;simp at hl;obtain⟨rfl,rfl⟩:=hl;rw[hx]at d;refine⟨bm.same fun H w aa ag β l u i _=>q ?_,s_⟩;have g:=(i x t).1;rw[hx]at g;simp only[ar,aA]at g;simp only[gQ]at d
  split at d
  ·rename_i e j;rcases g with⟨rfl,k6⟩|⟨ak,off,cap,ai,G,k1,k2,k3,k5,sp,L,k6⟩
   ·simp[ez,m,da j,k6]
   ·simp[ez,m,da j,k6]
  ·simp at d
 ·rename_i y hx;simp at hl;obtain⟨rfl,rfl⟩:=hl;rw[hx]at d;refine⟨bm.same fun H w aa ag β l u i _=>q ?_,s_⟩;have g:=(i x t).1;rw[hx]at g;simp only[ar,aA]at g;obtain⟨r,z,clock,k1,k2,k3,k4⟩:=g;simp only[gQ]at d
  split at d
  ·rename_i k e j;have:=A1 k3;have A:(getObj r).run P w=.ok (.map z clock) w:=by simp[getObj,g7,k2]
   simp at this;simp[ez,m,da j,k4,A,this]
  ·simp at d
 ·rename_i b an ai off len hx
  split at hl
  case h_2=>simp at hl
  rename_i k R O y B
  split at hl
  case isFalse=>simp at hl
  rename_i J;obtain⟨rfl,rfl⟩:=J;simp at hl;obtain⟨rfl,rfl⟩:=hl;rw[hx]at d;refine⟨bm.same fun H w aa ag β l u i aj=>q ?_,by simpa using B⟩;have g:=(i x t).1;rw[hx]at g;obtain⟨a,cp,e1⟩:=Ud g (by simpa using aj);simp only[gQ]at d
  split at d
  ·rename_i e j;simp[ez,m,da j,e1]
  ·simp at d
 ·rename_i b hx
  split at hl
  case h_2=>simp at hl
  rename_i fz y B;simp at hl;obtain⟨rfl,rfl⟩:=hl;rw[hx]at d;refine⟨bm.same fun H w aa ag β l u i aj=>q ?_,by simpa using B⟩;have g:=(i x t).1;rw[hx]at g;simp only[ar,bH,bP]at g;have E:H[b]?=some (.map fz y):=by simpa using aj
  obtain⟨z,clock,k2,k3,_⟩:=u.cJ b _ E;have e1:=g.2.1 ⟨_,E,trivial⟩;simp only[gQ]at d
  split at d
  ·rename_i k e j;have:=A1 k3;have A:(getObj (β.ak b)).run P w=.ok (.map z clock) w:=by simp[getObj,g7,k2]
   simp at this;simp[ez,m,da j,e1,A,this]
  ·simp at d
 ·simp at hl
end
section
variable{P:c7}{w:c9}{aa ag:Nat->Prop}{β:Bd}{H:Heap}
variable{o:Oper}{ρ:db->AV}{base:Nat}
theorem JT:∀(a:List c6)(off j:Nat)(cells:Array c6),off+j+a.length<=cells.size->
 ((a.zipIdx j).foldl (fun cs(p:c6×Nat)=>cs.setIfInBounds (off+p.2) p.1) cells).toList=cells.toList.take (off+j)++a++cells.toList.drop (off+j+a.length)
 |[],off,j,cells,_=>by simp
 |x::a,off,j,cells,h=>by
  simp only[List.zipIdx_cons,List.foldl_cons];rw[JT a off (j+1) _ (by simp at h⊢;omega)];simp only[Array.toList_setIfInBounds,hR];have d:off+j<cells.toList.length:=by simp at h⊢;omega
  rw[show off+(j+1)=off+j+1 by omega];have b:(cells.toList.set (off+j) x).take (off+j+1)=cells.toList.take (off+j)++[x]:=by
   rw[List.take_succ_eq_append_getElem (by simpa using d)];rw[List.take_set_of_le (ip _)];simp
  have c:(cells.toList.set (off+j) x).drop (off+j+1+a.length)=cells.toList.drop (off+j+(a.length+1)):=by
   rw[List.drop_set_of_lt o_];congr 1;omega
  rw[b,c];simp
theorem Sg{a c post b:List c6}(h:b.length=c.length):((a++c++post).take a.length++b++(a++c++post).drop (a.length+b.length))=a++b++post:=by
 rw[h];simp
theorem AZ{l:List Nat}{place:Nat->Option (Nat×Nat)}(s:∀i n,l[i]?=some n->place i=some ((l.take i).sum,n)):
 ∀{f:List (Nat×AV)}{j:List (Nat×c6)}{fs:List AV}{e:List (List c6)}{cells:Array c6},j.map j2=f.map j2->(∀i:Nat,ar P w aa β H (((f[i]?).map j1).getD (.p .undef)) (((j[i]?).map j1).getD undef))->
  lE P l f->bG P w aa β H l fs e->cells.toList=e.flatten->
  ∃g m,fm place cells j=some g/\bG P w aa β H l (ir fs f) m/\g.toList=m.flatten
 |[],[],fs,e,cells,_,_,_,h,hc=>⟨cells,e,rfl,h,hc⟩
 |[],_::_,_,_,_,b,_,_,_,_=>by simp at b
 |_::_,[],_,_,_,b,_,_,_,_=>by simp at b
 |(i,a)::f,(d,v)::j,fs,e,cells,b,t,o,h,hc=>by
  simp only[hM,List.cons.injEq]at b;obtain⟨rfl,b⟩:=b;simp only[lE]at o;obtain⟨⟨n,q,hs,B⟩,o⟩:=o;have G:ar P w aa β H a v:=by simpa using t 0
  have y:=fun k=>t (k+1);simp only[h0]at y;have L:=wV h;have K:d<l.length:=(hv.1 q).1;have C:d<fs.length:=o_
  obtain⟨pre,c,post,e1,e2,e3,e4,e5,A⟩:=sC h (hC C);have J:c.length=n:=by rw[q]at e4;simpa using e4.symm
  have u:=xq G B;have x:v.cells.toList.length=n:=by rw[(nt u).1,hs]
  obtain⟨m,k1,k2⟩:=A a _ u o_;have F:cells.size=pre.length+c.length+post.length:=by
   have:=congrArg hW (hc.trans e1);simp at this;omega
  have I:v.cells.size=n:=by simpa using x
  obtain⟨nJ,r⟩:∃nJ,(v.cells.zipIdx.foldl (fun cs(p:c6×Nat)=>cs.setIfInBounds ((l.take d).sum+p.2) p.1) cells)=nJ:=⟨_,rfl⟩
  have D:nJ.toList=m.flatten:=by
   rw[<-r,k1];have:=JT v.cells.toList (l.take d).sum 0 cells (by rw[<-e2];simp at x⊢;omega);rw[<-ce];simp only[Array.toList_zipIdx];rw[this,hc,e1,i2,<-e2];exact Sg o_
  obtain⟨g,z,g1,g2,g3⟩:=AZ s b y o k2 D;refine⟨g,z,?_,by simpa only[ir]using g2,g3⟩;have E:¬(v.cells.size≠n\/(l.take d).sum+v.cells.size>cells.size):=by
   rw[I,F,<-e2];omega
  simp only[fm,s d n q];simp only[Bool.or_eq_true,decide_eq_true_eq,E,if_false];simp only[<-r]at g1;exact g1
end
section
variable{P:c7}{w:c9}{aa ag:Nat->Prop}{β:Bd}{H:Heap}
variable{o:Oper}{ρ:db->AV}{base:Nat}
theorem GM{α γ:Type}(f:α->Sem γ)(g:α->γ)(w:c9):∀l:List α,(∀a∈l,(f a).run P w=.ok (g a) w)->(l.mapM f).run P w=.ok (l.map g) w
 |[],_=>by simp
 |a::l,h=>by
  simp only[h9,gy,h a s_,gx,GM f g w l (fun b c=>h b (by simp[c])),hM];rfl
theorem RG{α γ:Type}(f:α->Sem γ)(g:α->γ)(w:c9)(a:Array α)(h:∀x∈a.toList,(f x).run P w=.ok (g x) w):(a.mapM f).run P w=.ok (a.toList.map g).toArray w:=by
 rw[b4,g8,GM f g w _ h];rfl
theorem IW{ρc:db->c6}{parts:Array (Nat×db)}(h:∀p∈parts.toList,ar P w aa β H (ρ p.2) (ρc p.2)):
 ((parts.map fun(i,x)=>(i,ρc x)).toList).map j2=(parts.toList.map fun(i,x)=>(i,ρ x)).map j2/\
 ∀i:Nat,ar P w aa β H ((((parts.toList.map fun(i,x)=>(i,ρ x))[i]?).map j1).getD (.p .undef)) ((((parts.map fun(i,x)=>(i,ρc x)).toList[i]?).map j1).getD undef):=by
 refine⟨by simp[Function.comp_def],fun i=>?_⟩;simp only[ck,h4];cases a:parts.toList[i]? with
 |none=>simp[ar,aA]
 |some p=>simpa using h p (hG a)
theorem Bp{S:Nat×Nat->Prop}:∀{b:List (Nat×AV)}{fs:List AV},aR S fs->(∀p∈b,aB S p.2)->aR S (ir fs b)
 |[],fs,h,_=>h
 |(i,v)::r,fs,h,a=>by
  simp only[ir];refine Bp ?_ (fun p c=>a p (by simp[c]));rw[cH]at h⊢;intro x hx;rcases hH hx with hx|rfl
  ·exact h x hx
  ·exact a (i,x) s_
theorem IX{c:Array (Nat×db)}{p:Nat×db}(a:p∈c.toList):p.2∈((c.toList.map (·.2)).toArray:Array db):=by
 simp;exact⟨p.1,by simpa using a⟩
theorem VG{T u:c8}{z:PV}{l:List Nat}{c:Array (Nat×db)}(t:o.op= .build T c)(hk:kindOf P T= .agg u)(U:cG P T=some z)(hl:dF P u=some l)(hs:aL z= .agg u)
 (O:lE P l (c.toList.map fun(i,x)=>(i,ρ x))):bm P o ρ base {v:=gV u (ir ((cA z).map .p) (c.toList.map fun(i,x)=>(i,ρ x)))}:=by
 obtain⟨i,ad,K,z2,z3,z4⟩:=ov U;refine bm.same fun H w aa ag β m ai V _=>?_;have F:∀p∈c.toList,ar P w aa β H (ρ p.2) (m p.2)/\aB (aH H) (ρ p.2):=fun p g=>V p.2 (by rw[t];exact IX g);obtain⟨X,Y⟩:=IW (ρ:=ρ) (ρc:=m) (parts:=c) (fun p g=>(F p g).1);have G:=z3 w aa;obtain⟨fs,rfl⟩:∃fs,z=.st u fs:=by cases z<;>simp[aL]at hs;subst hs;exact⟨_,rfl⟩
 simp only[aV]at G;obtain⟨W,ae,q1,Z,ab⟩:=G;rw[hl]at q1;cases q1
 have D:∀y:Nat->Option (Nat×Nat),(∀i n,l[i]?=some n->y i=some ((l.take i).sum,n))->
  (∀cells,fm y ad.cells (c.map fun(i,x)=>(i,m x)).toList=some cells->(dk m o).run P w=.ok (.value (.agg cells)) w)->
  ∃B,(dk m o).run P w=.ok (.value B) w/\ar P w aa β H (gV u (ir ((cA (.st u fs)).map .p) (c.toList.map fun(i,x)=>(i,ρ x)))) B/\
   aB (aH H) (gV u (ir ((cA (.st u fs)).map .p) (c.toList.map fun(i,x)=>(i,ρ x)))):=by
  intro y Q S;obtain⟨L,M,g1,g2,g3⟩:=AZ Q X Y O (nr.2 Z) ab;refine⟨.agg L,S _ g1,?_,AA (Bp (iR _ _) ?_)⟩
  ·rw[Wr];simp only[ar];exact⟨l,M,hl,g2,by rw[<-g3]⟩
  ·intro p g;simp only[ii]at g;obtain⟨q,hq,rfl⟩:=g;exact(F q hq).2
 have k:=hk;unfold kindOf at k
 split at k
 ·rename_i a d;have aJ:fN P T=some (u,a.size):=by unfold fN;rw[hk,d]
  obtain⟨af,W,s1,s2,A,s,ac,I⟩:=ue aJ;rw[d]at s1;cases s1;rw[hl]at s;cases s;have R:(a.mapM fun f=>(do pure (f.offset,<-sizeOf f.type):Sem (Nat×Nat))).run P w=.ok (a.toList.map fun f:Field=>(f.offset,P.cellsOf f.type)).toArray w:=by
   refine RG _ _ w _ (fun f hf=>?_);obtain⟨j,r,rfl⟩:=List.mem_iff_getElem.1 hf;obtain⟨C,g1,g2,g3,g4,g5⟩:=I j (by simpa using r);have:a[j]'(by simpa using r)=C:=by
    have E:a[j]?=some (a[j]'(by simpa using r)):=Array.getElem?_eq_getElem (by simpa using r);rw[g1]at E;exact(js E).symm
   simp only[cb,this];simp[J g4]
  refine D (fun i=>(a.toList.map fun f:Field=>(f.offset,P.cellsOf f.type)).toArray[i]?) ?_ (fun cells hc=>?_)
  ·intro i n b;have hi:i<a.size:=by rw[<-ac];exact(hv.1 b).1
   obtain⟨C,g1,g2,g3,g4,g5⟩:=I i hi;rw[b]at g3;simp only[List.getElem?_toArray,h4,b0,g1];simp[g2,js g3]
  ·simp only[dk,t];refine ek ?_;simp only[fv,gy,sf K z2,gx,da d,R,hc,g0]
 ·rename_i n e d;have N:gU P T=some (u,n):=by unfold gU;rw[hk,d]
  obtain⟨e',s1,s2,A,s⟩:=sx N;rw[d]at s1;cases s1;rw[hl]at A;cases A;refine D (fun i=>some (i*P.cellsOf e,P.cellsOf e)) ?_ (fun cells hc=>?_)
  ·intro i aj b;rw[hE]at b
   split at b
   ·rename_i ah;simp at b;subst b;rw[hD,ix o_,hB]
   ·simp at b
  ·simp only[dk,t];refine ek ?_;simp only[fv,gy,sf K z2,gx,da d,J s,hc,g0]
 ·split at k<;>simp at k
 ·simp at k
where
 J {P:c7} {w:c9} {T:c8} (h:0<P.cellsOf T):(sizeOf T).run P w=.ok (P.cellsOf T) w:=by
  cases hi:P.info? T with
  |none=>simp[gg,hi]at h
  |some i=>simp[sizeOf,typeInfo,hi,gg]
theorem xi(a:Array c6)(n:Nat)(_h:0<a.size):((b1 (n*a.size)).map (a[·% a.size]!)).toList=(hw n a.toList).flatten:=by
 simp only[ck,Array.toList_range]
 induction n with
 |zero=>simp
 |succ n c=>
  rw[i5,List.range_add,List.map_append,c,List.replicate_succ',List.flatten_append];congr 1;simp only[List.map_map,hP,List.flatten_nil,h8];refine List.ext_getElem s_ (fun i b d=>?_);simp at b;simp[Nat.mul_add_mod_self_right,Nat.mod_eq_of_lt b,b,getElem!_pos]
theorem uf{z:PV}{a:List c6}(h:aV P w aa z a):∀n:Nat,Row P w aa β H a.length (hw n (.p z)) (hw n a)
 |0=>ia.2 rfl
 |n+1=>by
  rw[hN,hN,pQ];exact⟨a,_,rfl,by simpa only[bg]using h,rfl,uf h n⟩
theorem xt(d:bX P w aa β H ag){b:Nat}(c:H[b]?=some .hole){cells:Array c6}{T:c8}{k:AK}{ai cap:Nat}{a:List AV}{e:List (List c6)}{rest:List c6}(f:k≠ .frozen)(m:¬dc k a)
 (n:Row P w aa β H ai a e)(g:aR (aH H) a)(hc:cells.toList=e.flatten++rest)(o:cells.size=cap*ai)(l:a.length<=cap)(j:k=.exact->cap=a.length)(p:k=.bytes->T=Gl.u8):
 bV P ag aa w β H aa {w with heap:=w.heap.push (.cells cells T)} (β.at b w.heap.size cap) (H.set b (.arr k 0 ai a))/\
 ar P {w with heap:=w.heap.push (.cells cells T)} aa (β.at b w.heap.size cap) (H.set b (.arr k 0 ai a)) (.sl b 0 ai 0 a.length) (.slice (some ⟨w.heap.size,0,none⟩) a.length cap):=by
 have aJ:=xF (β:=β) c (.arr k 0 ai a) w.heap.size cap;have aj:∀y,aH H y->aH (H.set b (.arr k 0 ai a)) y:=lI c (fun _ h=>h.elim);have i:=(hv.1 c).1;refine⟨sn (cap:=cap) d c (ob:=.cells cells T)
  (.inr ⟨cells,T,e,rest,by simp[Bd.at],bG.mono (fun _ x=>x) (fun k hk=>um _ _ (d.bR k hk)) aJ _ _ _ g n,hc,by simp[Bd.at,o],by simpa[Bd.at]using l,by simpa[Bd.at]using j,by
   unfold cw;rw[if_neg (by simpa using f)];simp only[Bd.at,if_true];exact⟨fun h=>iz _ (d.bR _ h),fun h=>iz _ (d.eE _ h)⟩,(fun h=>(f h).elim),p⟩) (aR.mono aj _ g),?_⟩
 simp only[ar,bH,bP];refine⟨rfl,fun r q hl=>?_⟩;unfold dT at hl;rw[hz i]at hl;cases hl;exact⟨o_,fun h=>(m h).elim,fun _=>by simp[Bd.at]⟩
theorem RL{T:c8}{n sz:Nat}{z:PV}{a:Array (Nat×db)}(C:o.op= .buildSlice T n a)(b:cQ P T=some sz)(X:cG P (dU P T)=some z)(hs:bB P (aL z)=sz)(ae:n*sz<=1000000)
 (Q:lE P (hw n sz) (a.toList.map fun(i,x)=>(i,ρ x))):
 bm P o ρ base {v:=.sl base 0 sz 0 n,aS:=[.arr .exact 0 sz (ir (hw n (.p z)) (a.toList.map fun(i,x)=>(i,ρ x)))]}:=by
 obtain⟨e,ah,b⟩:=jX b;obtain⟨i,f,I,z2,z3,z4⟩:=ov X;rw[b.pD]at I;intro H w aa ag β t R Z _ N;have B:H[base]?=some .hole:=by simpa using N 0 s_
 have D:∀p∈a.toList,ar P w aa β H (ρ p.2) (t p.2)/\aB (aH H) (ρ p.2):=fun p d=>Z p.2 (by rw[C];exact IX d);obtain⟨ab,ac⟩:=IW (ρ:=ρ) (ρc:=t) (parts:=a) (fun p d=>(D p d).1);have F:=z3 w aa;have s:f.cells.size=sz:=by have:=(nj F).1;simp at this;omega
 have r:=uf (β:=β) (H:=H) F n;have Y:f.cells.toList.length=sz:=by simpa using s
 rw[Y]at r;obtain⟨y,m⟩:∃c,c=(b1 (n*sz)).map (f.cells[·% f.cells.size]!):=⟨_,rfl⟩
 have O:y.toList=(hw n f.cells.toList).flatten:=by
  rw[m,<-s];exact xi _ _ (by rw[s];exact b.pos)
 have U:bG P w aa β H (hw n sz) (hw n (.p z)) (hw n f.cells.toList):=by
  unfold Row at r;simpa using r
 obtain⟨u,J,g1,g2,g3⟩:=AZ (place:=fun i=>some (i*sz,sz)) (by
  intro i af j;rw[hE]at j
  split at j
  ·rename_i ad;simp at j;subst j;rw[hD,ix o_,hB]
  ·simp at j) ab ac Q U O
 have l:(ir (hw n (.p z)) (a.toList.map fun(i,x)=>(i,ρ x))).length=n:=by
  have:=(wV g2).2.1;simpa using this
 have E:Row P w aa β H sz (ir (hw n (.p z)) (a.toList.map fun(i,x)=>(i,ρ x))) J:=by unfold Row;rw[l];exact g2
 have S:aR (aH H) (ir (hw n (.p z)) (a.toList.map fun(i,x)=>(i,ρ x))):=by
  refine Bp ?_ ?_
  ·rw[cH];intro v W;rw[hQ W];simp[aB]
  ·intro p d;simp only[ii]at d;obtain⟨q,hq,rfl⟩:=d;exact(D q hq).2
 have M:u.size=n*sz:=by
  have A:=(fM E).2;rw[l,<-g3]at A;simpa using A
 have V:(dk t o).run P w=.ok (.value (.slice (some ⟨w.heap.size,0,none⟩) n n)) {w with heap:=w.heap.push (.cells u e)}:=by
  simp only[dk,C];have K:¬(n*sz>2^24):=o_
  have L:n*sz=0->(b1 (n*sz)).map ((#[]:Array c6)[·% (#[]:Array c6).size]!)=y:=by
   intro g;rw[m,g];simp
  refine uc ?_;simp only[Instr.buildSlice,gy,da b.gv,gx,b.run,if_neg K]
  by_cases g:n*sz=0
  ·rw[if_pos g];simp only[gy,g0,gx,L g,g1,newRow,ei]
  ·rw[if_neg g];simp only[gy,g0,gx,sf I z2,<-m,g1,newRow,ei]
 obtain⟨q1,G⟩:=xt (T:=e) (k:=.exact) R B s_ (by simp[dc,AK.gr]) E S (rest:=[]) (by simpa using g3) (by rw[M]) (by omega:_<=n) (fun _=>l.symm) (fun h=>by cases h);rw[l]at G;exact⟨_,_,_,_,aa,V,.inl rfl,q1,G,by
  simp only[aB,lr];exact⟨_,hz (hv.1 B).1,ip _⟩⟩
theorem RV{T:c8}{lo q:db}{sz:Nat}{z:PV}{l:Int}(t:o.op= .makeSlice T lo q)(a:cQ P T=some sz)(W:cG P (dU P T)=some z)(hl:ρ lo= .p (.int .i64 l))(hc:ρ q= .p (.int .i64 l))
 (hs:bB P (aL z)=sz)(b:0<=l)(L:l<=cF):bm P o ρ base {v:=.sl base 0 sz 0 l.toNat,aS:=[.arr .exact 0 sz (hw l.toNat (.p z))]}:=by
 obtain⟨e,d,a⟩:=jX a;obtain⟨i,g,D,z2,z3,z4⟩:=ov W;rw[a.pD]at D;intro H w aa ag β Y N B _ K;have u:H[base]?=some .hole:=by simpa using K 0 s_
 have r:=(B lo (by simp[t,fZ])).1;have j:=(B q (by simp[t,fZ])).1;rw[hl]at r;rw[hc]at j;simp only[ar,aA]at r j;have A:=z3 w aa;have m:g.cells.size=sz:=by have:=(nj A).1;simp at this;omega
 obtain⟨n,rfl⟩:=Int.eq_ofNat_of_zero_le b;have y:=uf (β:=β) (H:=H) A n;have X:g.cells.toList.length=sz:=by simpa using m
 rw[X]at y;obtain⟨f,s⟩:∃c,c=(b1 (n*sz)).map (g.cells[·% g.cells.size]!):=⟨_,rfl⟩
 have x:f.toList=(hw n g.cells.toList).flatten:=by
  rw[s,<-m];exact xi _ _ (by rw[m];exact a.pos)
 have M:n<=1073741824:=by unfold cF at L;omega
 have E:d.bytes*n<=32768*1073741824:=Nat.mul_le_mul (by have:=a.bytes;omega) M;have O:(dk Y o).run P w=.ok (.value (.slice (some ⟨w.heap.size,0,none⟩) n n)) {w with heap:=w.heap.push (.cells f e)}:=by
  simp only[dk,t,r,j];have V:IntKind.i64.wrap (n:Int)=n:=IntWalk.i64_in _ o_;have Q:¬((n:Int)<0):=o_
  have R:¬((d.bytes:Int)*n>2^48):=by
   intro J;have j:d.bytes*n<=35184372088832:=E;have Z:((d.bytes*n:Nat):Int)>281474976710656:=by rw[Int.natCast_mul];exact J
   omega
  have F:n*sz=0->(b1 (n*sz)).map ((#[]:Array c6)[·% (#[]:Array c6).size]!)=f:=by
   intro b;rw[s,b];simp
  have S:(typeInfo e).run P w=.ok d w:=by simp[typeInfo,a.info]
  have G:((decide ((n:Int)<0)||decide ((d.bytes:Int)*n>2^48))||decide ((n:Int)<0)||decide ((n:Int)>n))=false:=by
   simp only[Q,R,decide_false,Bool.or_false,Bool.false_or];simp
  refine uc ?_;simp only[Instr.makeSlice,gy,da a.gv,gx,asInt,asIntOf,g0,S,V];rw[if_neg (by simpa using G)];simp only[gy,run_askRoom,gx,a.run,Int.toNat_natCast]
  by_cases b:n*sz=0
  ·rw[if_pos b];simp only[gy,g0,gx,F b,newRow,ei]
  ·rw[if_neg b];simp only[gy,g0,gx,sf D z2,<-s,newRow,ei]
 have I:f.size=n*sz:=by
  have:=congrArg hW x;simp at this;rw[this];simp[m]
 obtain⟨q1,C⟩:=xt (T:=e) (k:=.exact) N u (cells:=f) (cap:=n) s_ (by simp[dc,AK.gr]) y (by
  rw[cH];intro v U;rw[hQ U];simp[aB]) (rest:=[]) (by simpa using x) I s_ (fun _=>by simp) (fun h=>by cases h)
 simp only[List.length_replicate]at C;exact⟨_,_,_,_,aa,O,.inl rfl,q1,C,by
  simp only[aB,lr];exact⟨_,hz (hv.1 u).1,ip _⟩⟩
end
end Go.aw
