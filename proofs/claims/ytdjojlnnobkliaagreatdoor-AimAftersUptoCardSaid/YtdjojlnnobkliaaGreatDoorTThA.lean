import Derived.Test.YtdjojlnnobkliaaGreatDoorTZ
import Derived.Calls
import Derived.Laws.Sem
import Derived.IntWalk
import Derived.Laws.Cells
import Derived.Laws.CopyRow
import Derived.Laws.Entries
import Derived.RangeFuncRecord
import Derived.RangeFuncNested
/- Parts of a proof. -/
set_option linter.unusedSimpArgs false
set_option linter.unusedVariables false
set_option linter.unusedSectionVars false
open Array renaming getElem?_eq_some_iff->bi, replicate->bl, getD_eq_getD_getElem?->bo, getElem?_toList->bv, range->bw, mem_toList_iff->b0, getElem?_setIfInBounds_ne->b1, mapM_eq_mapM_toList->b2, mem_of_getElem?->b3, getElem_toList->b4, getElem?_push->b5, foldl_toList->cb, toList_map->cc, toList->cd, getD->ce, ext'->ck
open BitVec renaming ofInt->cx
open Bool renaming false_eq_true->cy, and_eq_true->c6
open Go renaming Value->c9, Program->da, TypeId->db, World->dd, run_underlying->dg, Operand->dl, step_lone_go->dp, execOp->dq, FuncId->dx, Deferred->dy, Frame->dz, step_leave_returned->ea, TypeInfo->eb, Steps->ec, ResultVar->ed, Machine->ee, IntKind->ei, run_newObj->ej, setRow_other->em, MapEntry->eo, Calls->eq, setRow_size->er, setRow_heap->ew, BinOp->ey
open Go.Builtin renaming len_->eM
open Go.Deferred renaming ofValue->eP
open Go.Frame renaming round->e7, enter->e8
open Go.Instr renaming sureAddr->e9, indexAt->fb, yield->fl, fill->fm, build->fv
open Go.Op renaming operands->fw, unary->gb, intArith->gc, intBits->ge
open Go.Program renaming cellsOf->gg, underlying->gi, underlyingId->gj
open Go.Region renaming wanted->gm, schedule->gt, binds->gx
open Go.Result renaming andThen_ok->gy
open Go.Sem renaming run_bind->g0, run_pure->g7, run->g8, run_map->g9
open Go.Steps renaming one->ha, trans->hb, refl->hd
open Go.Value renaming oneCell'->hg, cells->hh
open Go.World renaming putObj_heap_other->hj, size_alloc->hl, cell?->hm
open Go.stepG renaming exec->ho, apply->hp, oper->hr
open Iff renaming rfl->ht
open List renaming getElem?_eq_some_iff->hv, replicate->hw, getElem?_set_self->hA, getElem?_set_ne->hB, sum_replicate_nat->hC, getElem?_eq_getElem->hD, take_replicate->hE, getElem?_replicate->hF, append_assoc->hG, mem_of_getElem?->hH, mem_or_eq_of_mem_set->hJ, getElem?_append_left->hK, length_eq_zero_iff->hL, map_cons->hM, replicate_succ->hN, getElem?_append_right->hO, flatten_cons->hP, eq_of_mem_replicate->hQ, length_cons->hR, mem_append->hS, length_append->hT, cons_append->hU, range'->hV, length->hW, getElem_append_right->hX, getElem_append_left->hZ, getElem?_cons_succ->h0, take_append_drop->h1, set_append_right->h2, set_cons_zero->h3, getElem?_map->h4, getElem_mem->h5, all_eq_true->h6, length_set->h7, append_nil->h8, mapM_cons->h9, drop_drop->ih, mem_map->ii, range->ik
open Nat renaming le_refl->ip, min_eq_left->ix, lt_irrefl->iz, add_sub_cancel_left->iA, le_trans->iB, add_zero->i0, lt_of_lt_of_le->i1, add_assoc->i2, succ_mul->i3, ne_of_lt->i4
open Ne renaming symm->i5
open Option renaming bind_some->i6, isSome_iff_exists->i7
open Option.some renaming injEq->i8, inj->i9
open Prod renaming snd->jp, fst->js
namespace Go.ag
set_option linter.unusedSectionVars false
inductive PV where
 |undef
 |bool (b:Bool)
 |int (k:ei) (n:Int)
 |str (s:List Nat)
 |eO
 |cM (t:PV)
 |aI
 |dw (full:Bool) (es:List PV)
 |seq (es:List PV)
 |gu
 |fu (es:List (PV×PV))
 |func (f:dx) (first jF:List PV)
 |jI
 |iG
 |st (u:db) (fs:List PV)
 |aC (vs:List PV)
 deriving Inhabited
inductive AV where
 |p (v:PV)
 |ptr (b:Nat) (path:List (db×Nat))
 |cA (b az ak i:Nat) (path:List (db×Nat))
 |sl (b az ak off len:Nat)
 |map (b:Nat)
 |func (f:dx) (first jF:List AV)
 |st (u:db) (fs:List AV)
 |aC (vs:List AV)
 deriving Inhabited
inductive AK where|exact|grow|frozen|bytes
 deriving DecidableEq
def AK.gr:AK->Bool
 | .grow| .bytes=>true
 |_=>false
structure fk where
 st:LoopState
 pending:Option Code
 n:Nat
 params:List Tmp
 assign:Code
 body:Code
 env:List (Nat×AV)
inductive Obj where
 |hole
 |dead
 |box (fz:Bool) (t:AV)
 |arr (k:AK) (az ak:Nat) (es:List AV)
 |map (fz:Bool) (es:List (PV×PV))
 |dF (ks:List PV) (vs:List AV)
 |dZ (s:List Nat) (pos:Nat)
 |loop (L:fk)
 deriving Inhabited
abbrev al:=List Obj
abbrev Env:=List (Nat×AV)
structure St where
 env:Env
 heap:al
def aQ(e:Env)(t:Nat):AV:=
 match e with
 |[]=>.p .undef
 |(k,v)::r=>if t=k then v else aQ r t
inductive ly where|bad|leaf|agg (u:db)
 deriving DecidableEq
def aK:PV->ly
 | .undef| .aC _=>.bad
 | .st u _=>.agg u
 |_=>.leaf
def aa:AV->ly
 | .p v=>aK v
 | .aC _=>.bad
 | .st u _=>.agg u
 |_=>.leaf
def cm:PV->List PV
 | .st _ fs=>fs
 |_=>[]
section tables
variable(P:da)
def dS(u:db):Option (List Nat):=
 match(P.info? u).map (fun i:eb=>i.desc)with
 |some (.struct fs)=>
  let l:=fs.toList.map fun f=>P.cellsOf f.type
  if l.all (0<·)&&l.sum==P.cellsOf u&&(fs.toList.zipIdx.all fun(f,i)=>f.offset==(l.take i).sum)then some l else none
 |some (.array n e)=>if 0<P.cellsOf e&&n*P.cellsOf e==P.cellsOf u then some (hw n (P.cellsOf e))else none
 |_=>none
def kindOf(T:db):ly:=
 match P.underlying T with
 |some (.struct _)|some (.array _ _)=>
  if(dS P (P.underlyingId T)).isSome&&P.cellsOf T==P.cellsOf (P.underlyingId T)then .agg (P.underlyingId T)else .bad
 |some _=>if P.cellsOf T==1 then .leaf else .bad
 |none=>.bad
def bU:ly->Nat
 | .bad=>0
 | .leaf=>1
 | .agg u=>P.cellsOf u
def lD(u:db):List db:=
 match(P.info? u).map (fun i:eb=>i.desc)with
 |some (.struct fs)=>fs.toList.map (·.type)
 |some (.array n e)=>hw n e
 |_=>[]
end tables
def ofConst:c9->PV
 | .bool b=>.bool b
 | .int k n=>.int k n
 | .string s=>.str (s.data.toList.map (·.toNat))
 | .pointer none=>.eO
 | .slice none 0 0=>.aI
 | .map none=>.gu
 | .nilFunc=>.jI
 | .nilIface=>.iG
 |_=>.undef
def sP(P:da)(a:db->List c9->Option PV):List db->List Nat->List c9->Option (List PV)
 |[],[],[]=>some []
 |T::b,s::c,cs=>
  if(cs.take s).length=s then
   match a T (cs.take s),sP P a b c (cs.drop s)with
   |some v,some vs=>if bU P (aK v)=s then some (v::vs)else none
   |_,_=>none
  else none
 |_,_,_=>none
def xV(P:da):Nat->db->List c9->Option PV
 |0,_,_=>none
 |n+1,T,cs=>
  match kindOf P T with
  | .leaf=>match cs with
   |[c]=>match ofConst c with
    | .undef=>none
    |v=>some v
   |_=>none
  | .agg u=>match dS P u with
   |some l=>
    match sP P (xV P n) (lD P u) l cs with
    |some fs=>some (.st u fs)
    |none=>none
   |none=>none
  | .bad=>none
def DT:c9->ly->Bool
 | .agg _,.agg _=>true
 | .agg _,_=>false
 |_,.agg _=>false
 |_,_=>true
def cF(P:da)(T:db):Option PV:=
 match(P.info? T).bind (·.zero)with
 |some z=>if DT z (kindOf P T)then xV P 40 T z.cells.toList else none
 |none=>none
section relation
variable(P:da)(w:dd)(ad:Nat->Prop)
def jc(au off:Nat)(cs:List c9):Prop:=∀i(h:i<cs.length),w.cell? ⟨au,off+i,none⟩=some cs[i]
mutual
def bd:PV->List c9->Prop
 | .undef,_| .aC _,_=>False
 | .bool b,cs=>cs=[.bool b]
 | .int k n,cs=>cs=[.int k n]
 | .str s,cs=>∃bs:ByteArray,cs=[.string bs]/\s=bs.data.toList.map (·.toNat)
 | .eO,cs=>cs=[.pointer none]
 | .cM t,cs=>∃au off ts,bd t ts/\ad au/\jc w au off ts/\cs=[.pointer (some ⟨au,off,none⟩)]
 | .aI,cs=>cs=[.slice none 0 0]
 | .dw full es,cs=>∃au off cap ak a,bt (hw es.length ak) es a/\(es≠[]->ad au)/\jc w au off a.flatten/\
  (full=true->cap=es.length)/\es.length<=cap/\∃sp,(sp=none\/cap=0)/\cs=[.slice (some ⟨au,off,sp⟩) es.length cap]
 | .seq es,cs=>(es=[]/\cs=[.slice none 0 0])\/∃au off cap ak a,bt (hw es.length ak) es a/\(es≠[]->ad au)/\jc w au off a.flatten/\
  es.length<=cap/\∃sp,(sp=none\/cap=0)/\cs=[.slice (some ⟨au,off,sp⟩) es.length cap]
 | .gu,cs=>cs=[.map none]
 | .fu es,cs=>∃r g i,ad r/\w.heap[r]?=some (.map g i)/\cT es g.toList/\cs=[.map (some r)]
 | .func f first jF,cs=>∃h cv,bG first h/\bG jF cv/\cs=[.func (.func f) h.toArray cv.toArray]
 | .jI,cs=>cs=[.nilFunc]
 | .iG,cs=>cs=[.nilIface]
 | .st u fs,cs=>∃l a,dS P u=some l/\bt l fs a/\cs=a.flatten
def bt:List Nat->List PV->List (List c9)->Prop
 |[],[],a=>a=[]
 |n::o,v::vs,a=>∃c cs,a=c::cs/\bd v c/\c.length=n/\bt o vs cs
 |_,_,_=>False
def aE:PV->c9->Prop
 | .undef,_=>True
 | .aC vs,v=>∃d,bG vs d/\v=.tuple d.toArray
 | .st u fs,v=>∃l a,dS P u=some l/\bt l fs a/\v=.agg a.flatten.toArray
 | .bool b,v=>v=.bool b
 | .int k n,v=>v=.int k n
 | .str s,v=>∃bs:ByteArray,v=.string bs/\s=bs.data.toList.map (·.toNat)
 | .eO,v=>v=.pointer none
 | .cM t,v=>∃au off ts,bd t ts/\ad au/\jc w au off ts/\v=.pointer (some ⟨au,off,none⟩)
 | .aI,v=>v=.slice none 0 0
 | .dw full es,v=>∃au off cap ak a,bt (hw es.length ak) es a/\(es≠[]->ad au)/\jc w au off a.flatten/\
  (full=true->cap=es.length)/\es.length<=cap/\∃sp,(sp=none\/cap=0)/\v=.slice (some ⟨au,off,sp⟩) es.length cap
 | .seq es,v=>(es=[]/\v= .slice none 0 0)\/∃au off cap ak a,bt (hw es.length ak) es a/\(es≠[]->ad au)/\jc w au off a.flatten/\
  es.length<=cap/\∃sp,(sp=none\/cap=0)/\v=.slice (some ⟨au,off,sp⟩) es.length cap
 | .gu,v=>v=.map none
 | .fu es,v=>∃r g i,ad r/\w.heap[r]?=some (.map g i)/\cT es g.toList/\v=.map (some r)
 | .func f first jF,v=>∃h cv,bG first h/\bG jF cv/\v=.func (.func f) h.toArray cv.toArray
 | .jI,v=>v=.nilFunc
 | .iG,v=>v=.nilIface
def bG:List PV->List c9->Prop
 |[],d=>d=[]
 |v::vs,d=>∃y m,d=y::m/\aE v y/\bG vs m
def cT:List (PV×PV)->List eo->Prop
 |[],es=>es=[]
 |(k,v)::r,es=>∃e j,es=e::j/\aE k e.key/\aE v e.val/\cT r j
end
end relation
class Gl where
 g:Nat->PV
 u8:db
 raw:Nat->Option (Array c9)
 bx:db->Option db
 Ej:Nat->Bool
def lj[Gl](T:db)(s:ly):Bool:=match s with
 | .agg u=>match Gl.bx u with
  |some a=>Nat.beq T a
  |none=>true
 |_=>true
structure p0[Gl](P:da)(w:dd)(ad:Nat->Prop):Prop where
 val:∀g,aE P w ad (Gl.g g) (.pointer (some ⟨g,0,none⟩))
 raw:∀g cs,Gl.raw g=some cs->ad g/\∃T,w.heap[g]?=some (.cells cs T (0,0))
 Ej:∀g,Gl.Ej g=true->ad g/\∃te pe T,w.heap[g]?=some (.cells #[.iface te pe] T (0,0))
end Go.ag
namespace Go.ag
variable[Gl]
structure Bd where
 au:Nat->Nat
 cap:Nat->Nat
def iv(P:da):List (db×Nat)->Option Nat
 |[]=>some 0
 |(u,i)::r=>
  match dS P u,iv P r with
  |some l,some o=>if i<l.length then some ((l.take i).sum+o)else none
  |_,_=>none
def Obj.yX:Obj->Prop
 | .map _ _| .dF _ _=>True
 |_=>False
section
variable(P:da)(w:dd)(ad:Nat->Prop)(β:Bd)(H:al)
def pY(b:Nat):Prop:=∃fz t,H[b]?=some (.box fz t)
def gn(b az ak:Nat)(k:AK)(a:List AV):Prop:=H[b]?=some (.arr k az ak a)
def dM(k:AK)(a:List AV):Prop:=k.gr=true/\a=[]
def rq(b:Nat):Prop:=∃o,H[b]?=some o/\o.yX
def pZ(b:Nat):Prop:=(∃s pos,H[b]?=some (.dZ s pos))
def je(b:Nat):Prop:=(∃L,H[b]?=some (.loop L))
def b7:AV->c9->Prop
 | .ptr b path,v=>∃au off o,v=.pointer (some ⟨au,off,none⟩)/\iv P path=some o/\(pY H b\/pZ H b->au=β.au b/\off=o)
 | .cA b az ak i path,v=>∃au off o,v=.pointer (some ⟨au,off,none⟩)/\iv P path=some o/\∀k a,gn H b az ak k a->¬dM k a->au=β.au b/\off=i*ak+o
 | .sl b az ak off len,v=>∀k a,gn H b az ak k a->
  off+len<=a.length/\(dM k a->v=.slice none 0 0)/\(¬dM k a->v=.slice (some ⟨β.au b,off*ak,none⟩) len (β.cap b-off))
 | .map b,v=>(rq H b->v=.map (some (β.au b)))/\(je H b->v=.func (.yield (β.au b)) #[] #[])
 |_,_=>False
def bY(v:AV)(x:c9):Prop:=x.oneCell'=true/\b7 P β H v x
mutual
def bC:AV->List c9->Prop
 | .p t,cs=>bd P w ad t cs
 | .st u fs,cs=>∃l a,dS P u=some l/\bX l fs a/\cs=a.flatten
 | .func f first jF,cs=>∃d cv,bH first d/\bH jF cv/\cs=[.func (.func f) d.toArray cv.toArray]
 | .aC _,_=>False
 | .ptr b path,cs=>∃v,cs=[v]/\bY P β H (.ptr b path) v
 | .cA b az ak i path,cs=>∃v,cs=[v]/\bY P β H (.cA b az ak i path) v
 | .sl b az ak off len,cs=>∃v,cs=[v]/\bY P β H (.sl b az ak off len) v
 | .map b,cs=>∃v,cs=[v]/\bY P β H (.map b) v
def bX:List Nat->List AV->List (List c9)->Prop
 |[],[],a=>a=[]
 |n::g,v::vs,a=>∃c cs,a=c::cs/\bC v c/\c.length=n/\bX g vs cs
 |_,_,_=>False
def aB:AV->c9->Prop
 | .p t,v=>aE P w ad t v
 | .st u fs,v=>∃l a,dS P u=some l/\bX l fs a/\v=.agg a.flatten.toArray
 | .func f first jF,v=>∃d cv,bH first d/\bH jF cv/\v=.func (.func f) d.toArray cv.toArray
 | .aC vs,v=>∃xs,bH vs xs/\v=.tuple xs.toArray
 | .ptr b path,v=>bY P β H (.ptr b path) v
 | .cA b az ak i path,v=>bY P β H (.cA b az ak i path) v
 | .sl b az ak off len,v=>bY P β H (.sl b az ak off len) v
 | .map b,v=>bY P β H (.map b) v
def bH:List AV->List c9->Prop
 |[],xs=>xs=[]
 |v::vs,xs=>∃y e,xs=y::e/\aB v y/\bH vs e
end
mutual
def aF(n:Nat×Nat->Prop):AV->Prop
 | .p _=>True
 | .ptr b _| .map b=>n (b,0)
 | .cA b az _ _ _| .sl b az _ _ _=>n (b,az)
 | .func _ first jF=>ba n first/\ba n jF
 | .st _ fs=>ba n fs
 | .aC vs=>ba n vs
def ba(n:Nat×Nat->Prop):List AV->Prop
 |[]=>True
 |v::vs=>aF n v/\ba n vs
end
def Obj.has:Obj->Nat->Prop
 | .hole,_=>False
 | .arr _ az _ _,v=>v<=az
 |_,_=>True
def aL(H:al)(x:Nat×Nat):Prop:=∃o,H[x.1]?=some o/\o.has x.2
def AV.vZ:AV->Prop
 | .p _=>True
 |_=>False
def Obj.refs(n:Nat×Nat->Prop):Obj->Prop
 | .box _ t=>aF n t
 | .arr _ _ _ es=>ba n es
 | .dF _ vs=>ba n vs
 | .loop L=>∀x,aF n (aQ L.env x)
 |_=>True
def Obj.live:Obj->Prop
 | .hole| .dead=>False
 | .arr k _ _ es=>¬dM k es
 |_=>True
variable(ai:Nat->Prop)
def cS(fz:Bool)(b:Nat):Prop:=if fz then ad (β.au b)else¬ad (β.au b)/\¬ai (β.au b)
def gC(b:Nat):Obj->Prop
 | .hole| .dead=>True
 | .box fz t=>∃cs T,w.heap[β.au b]?=some (.cells cs T (0,0))/\bC P w ad β H t cs.toList/\cS ad β ai fz b/\(fz=true->t.vZ)/\lj T (aa t)=true
 | .arr k _ver ak es=>dM k es\/
  ∃cs T d f,w.heap[β.au b]?=some (.cells cs T (0,0))/\bX P w ad β H (hw es.length ak) es d/\cs.toList=d.flatten++f/\
   cs.size=β.cap b*ak/\es.length<=β.cap b/\(k=.exact->β.cap b=es.length)/\cS ad β ai (k== .frozen) b/\(k=.frozen->∀e∈es,e.vZ)/\(k=.bytes->T=Gl.u8)
 | .map fz es=>∃a c,w.heap[β.au b]?=some (.map a c)/\cT P w ad es a.toList/\cS ad β ai fz b
 | .dF ks vs=>∃a c,w.heap[β.au b]?=some (.map a c)/\bG P w ad ks (a.toList.map (·.key))/\bH P w ad β H vs (a.toList.map (·.val))/\cS ad β ai false b
 | .dZ s pos=>∃bs:ByteArray,w.heap[β.au b]?=some (.stringIter bs pos)/\s=bs.data.toList.map (·.toNat)/\cS ad β ai false b
 | .loop L=>∃tmps defers fn,w.heap[β.au b]?=some (.loop {state:=L.st,pending:=L.pending,fn,tmps,params:=L.params.toArray,assign:=L.assign,body:=L.body,defers})/\tmps.size=L.n/\
  (∀x,aB P w ad β H (aQ L.env x) (tmps.getD x undef))/\cS ad β ai false b
structure cB:Prop where
 dj:∀b o,H[b]?=some o->gC P w ad β H ai b o
 inj:∀b b' o o',H[b]?=some o->H[b']?=some o'->o.live->o'.live->¬ad (β.au b)->β.au b=β.au b'->b=b'
 refs:∀(b:Nat)(o:Obj),H[b]?=some o->o.refs (aL H)
 cq:∀k,ad k->k<w.heap.size
 fO:∀k,ai k->k<w.heap.size
 lr:p0 P w ad
end
structure Ext(ai ad:Nat->Prop)(w w':dd):Prop where
 size:w.heap.size<=w'.heap.size
 same:∀k,ai k\/ad k->w'.heap[k]?=w.heap[k]?
 io:w'.os=w.os/\w'.output=w.output
structure cO(β:Bd)(H:al)(aN:Bd)(H':al):Prop where
 box:∀b,aL H (b,0)->pY H' b->pY H b/\aN.au b=β.au b
 it:∀b,aL H (b,0)->pZ H' b->pZ H b/\aN.au b=β.au b
 map:∀b,aL H (b,0)->rq H' b->rq H b/\aN.au b=β.au b
 arr:∀b az ak k es,aL H (b,az)->gn H' b az ak k es->∃k0 iT,gn H b az ak k0 iT/\iT.length<=es.length/\(dM k es↔dM k0 iT)/\(¬dM k es->aN.au b=β.au b/\aN.cap b=β.cap b)
 loop:∀b,aL H (b,0)->je H' b->je H b/\aN.au b=β.au b
theorem cO.refl(β:Bd)(H:al):cO β H β H:=
 ⟨fun _ _ h=>⟨h,rfl⟩,fun _ _ h=>⟨h,rfl⟩,fun _ _ h=>⟨h,rfl⟩,fun _ _ _ k a _ h=>⟨k,a,h,ip _,ht,fun _=>⟨rfl,rfl⟩⟩,fun _ _ h=>⟨h,rfl⟩⟩
theorem Ext.refl(ai ad:Nat->Prop)(w:dd):Ext ai ad w w:=⟨ip _,fun _ _=>rfl,rfl,rfl⟩
section mono
variable{P:da}{w w':dd}{ad aG:Nat->Prop}
theorem aub{au off:Nat}(h:w'.heap[au]?=w.heap[au]?):w'.cell? ⟨au,off,none⟩=w.cell? ⟨au,off,none⟩:=by
 simp[hm,h]
theorem jc.same{au off:Nat}{cs:List c9}(h:w'.heap[au]?=w.heap[au]?)(hc:jc w au off cs):jc w' au off cs:=
 fun i hi=>(aub h).trans (hc i hi)
theorem B9{n:List Nat}{a:List (List c9)}(h:bt P w ad n [] a):a=[]:=by
 cases n<;>simp[bt]at h;exact h
variable(hI:∀k,ad k->aG k)(hs:∀k,ad k->w'.heap[k]?=w.heap[k]?)
include hI hs
mutual
theorem bd.mono:∀(v:PV)(cs:List c9),bd P w ad v cs->bd P w' aG v cs
 | .undef,_,h| .aC _,_,h=>by simp[bd]at h
 | .bool _,_,h| .int _ _,_,h| .str _,_,h| .eO,_,h| .aI,_,h| .gu,_,h| .jI,_,h| .iG,_,h=>by simpa[bd]using h
 | .cM t,cs,h=>by
  simp only[bd]at h⊢;obtain⟨au,off,ts,a,b,d,j⟩:=h;exact⟨au,off,ts,bd.mono t ts a,hI _ b,d.same (hs _ b),j⟩
 | .dw full o,cs,h=>by
  simp only[bd]at h⊢;obtain⟨au,off,cap,ak,g,a,b,d,j⟩:=h;refine⟨au,off,cap,ak,g,bt.mono _ o g a,fun m=>hI _ (b m),?_,j⟩
  by_cases m:o=[]
  ·subst m;have:=B9 a;subst this;intro i hi;simp at hi
  ·exact d.same (hs _ (b m))
 | .seq o,cs,h=>by
  simp only[bd]at h⊢;rcases h with h|⟨au,off,cap,ak,g,a,b,d,j⟩
  ·exact .inl h
  refine .inr ⟨au,off,cap,ak,g,bt.mono _ o g a,fun m=>hI _ (b m),?_,j⟩
  by_cases m:o=[]
  ·subst m;have:=B9 a;subst this;intro i hi;simp at hi
  ·exact d.same (hs _ (b m))
 | .fu o,cs,h=>by
  simp only[bd]at h⊢;obtain⟨r,p,clock,a,b,d,j⟩:=h;exact⟨r,p,clock,hI _ a,(hs _ a).trans b,cT.mono o _ d,j⟩
 | .func f first jF,cs,h=>by
  simp only[bd]at h⊢;obtain⟨s,cv,a,b,d⟩:=h;exact⟨s,cv,bG.mono first s a,bG.mono jF cv b,d⟩
 | .st u fs,cs,h=>by
  simp only[bd]at h⊢;obtain⟨l,g,a,b,d⟩:=h;exact⟨l,g,a,bt.mono l fs g b,d⟩
theorem bt.mono:∀(l:List Nat)(vs:List PV)(g:List (List c9)),bt P w ad l vs g->bt P w' aG l vs g
 |[],[],_,h=>by simpa[bt]using h
 |[],_::_,_,h=>by simp[bt]at h
 |_::_,[],_,h=>by simp[bt]at h
 |n::A,v::vs,g,h=>by
  simp only[bt]at h⊢;obtain⟨c,cs,a,b,d,j⟩:=h;exact⟨c,cs,a,bd.mono v c b,d,bt.mono A vs cs j⟩
theorem aE.mono:∀(v:PV)(x:c9),aE P w ad v x->aE P w' aG v x
 | .undef,_,h=>by simp[aE]
 | .aC vs,x,h=>by
  simp only[aE]at h⊢;obtain⟨q,a,b⟩:=h;exact⟨q,bG.mono vs q a,b⟩
 | .bool _,_,h| .int _ _,_,h| .str _,_,h| .eO,_,h| .aI,_,h| .gu,_,h| .jI,_,h| .iG,_,h=>by simpa[aE]using h
 | .cM t,cs,h=>by
  simp only[aE]at h⊢;obtain⟨au,off,ts,a,b,d,j⟩:=h;exact⟨au,off,ts,bd.mono t ts a,hI _ b,d.same (hs _ b),j⟩
 | .dw full o,cs,h=>by
  simp only[aE]at h⊢;obtain⟨au,off,cap,ak,g,a,b,d,j⟩:=h;refine⟨au,off,cap,ak,g,bt.mono _ o g a,fun m=>hI _ (b m),?_,j⟩
  by_cases m:o=[]
  ·subst m;have:=B9 a;subst this;intro i hi;simp at hi
  ·exact d.same (hs _ (b m))
 | .seq o,cs,h=>by
  simp only[aE]at h⊢;rcases h with h|⟨au,off,cap,ak,g,a,b,d,j⟩
  ·exact .inl h
  refine .inr ⟨au,off,cap,ak,g,bt.mono _ o g a,fun m=>hI _ (b m),?_,j⟩
  by_cases m:o=[]
  ·subst m;have:=B9 a;subst this;intro i hi;simp at hi
  ·exact d.same (hs _ (b m))
 | .fu o,cs,h=>by
  simp only[aE]at h⊢;obtain⟨r,p,clock,a,b,d,j⟩:=h;exact⟨r,p,clock,hI _ a,(hs _ a).trans b,cT.mono o _ d,j⟩
 | .func f first jF,cs,h=>by
  simp only[aE]at h⊢;obtain⟨s,cv,a,b,d⟩:=h;exact⟨s,cv,bG.mono first s a,bG.mono jF cv b,d⟩
 | .st u fs,cs,h=>by
  simp only[aE]at h⊢;obtain⟨l,g,a,b,d⟩:=h;exact⟨l,g,a,bt.mono l fs g b,d⟩
theorem bG.mono:∀(vs:List PV)(q:List c9),bG P w ad vs q->bG P w' aG vs q
 |[],_,h=>by simpa[bG]using h
 |v::vs,q,h=>by
  simp only[bG]at h⊢;obtain⟨y,z,a,b,d⟩:=h;exact⟨y,z,a,aE.mono v y b,bG.mono vs z d⟩
theorem cT.mono:∀(o:List (PV×PV))(p:List eo),cT P w ad o p->cT P w' aG o p
 |[],_,h=>by simpa[cT]using h
 |(k,v)::r,p,h=>by
  simp only[cT]at h⊢;obtain⟨e,rest,a,b,d,j⟩:=h;exact⟨e,rest,a,aE.mono k _ b,aE.mono v _ d,cT.mono r rest j⟩
end
theorem p0.mono(h:p0 P w ad):p0 P w' aG:=⟨fun g=>aE.mono hI hs _ _ (h.val g),fun g cs c=>by
 obtain⟨a,T,b⟩:=h.raw g cs c;exact⟨hI _ a,T,(hs _ a).trans b⟩,fun g c=>by
 obtain⟨a,te,pe,T,b⟩:=h.Ej g c;exact⟨hI _ a,te,pe,T,(hs _ a).trans b⟩⟩
variable{β aN:Bd}{H H':al}(aO:cO β H aN H')
include aO
omit hI hs in
theorem b7.mono:∀(v:AV)(x:c9),aF (aL H) v->b7 P β H v x->b7 P aN H' v x
 | .ptr b path,x,d,h=>by
  simp only[b7,aF]at*;obtain⟨au,off,o,c,e,f⟩:=h;refine⟨au,off,o,c,e,fun a=>?_⟩;rcases a with a|a
  ·obtain⟨k1,k2⟩:=aO.box b d a;rw[k2];exact f (.inl k1)
  ·obtain⟨k1,k2⟩:=aO.it b d a;rw[k2];exact f (.inr k1)
 | .cA b az ak i path,x,d,h=>by
  simp only[b7,aF]at*;obtain⟨au,off,o,g1,g2,g3⟩:=h;refine⟨au,off,o,g1,g2,fun k j a hn=>?_⟩;obtain⟨k0,iT,c,e,f,g⟩:=aO.arr b az ak k j d a;rw[(g hn).1];exact g3 k0 iT c (fun l=>hn (f.2 l))
 | .sl b az ak off len,x,d,h=>by
  simp only[b7,aF]at*;intro k j a;obtain⟨k0,iT,c,e,f,g⟩:=aO.arr b az ak k j d a;obtain⟨q,m,n⟩:=h k0 iT c;refine⟨o_,fun hn=>m (f.1 hn),fun hn=>?_⟩;rw[(g hn).1,(g hn).2];exact n (fun l=>hn (f.2 l))
 | .map b,x,d,h=>by
  simp only[b7,aF]at*;refine⟨fun a=>?_,fun a=>?_⟩
  ·obtain⟨c,e⟩:=aO.map b d a;rw[e];exact h.1 c
  ·obtain⟨c,e⟩:=aO.loop b d a;rw[e];exact h.2 c
 | .p _,_,_,h| .st _ _,_,_,h| .func _ _ _,_,_,h| .aC _,_,_,h=>by simp[b7]at h
omit hI hs in
theorem bY.mono(v:AV)(x:c9)(a:aF (aL H) v)(h:bY P β H v x):bY P aN H' v x:=⟨h.1,b7.mono aO v x a h.2⟩
mutual
theorem bC.mono:∀(v:AV)(cs:List c9),aF (aL H) v->bC P w ad β H v cs->bC P w' aG aN H' v cs
 | .p t,cs,_,h=>by simp only[bC]at h⊢;exact bd.mono hI hs t cs h
 | .st u fs,cs,a,h=>by
  simp only[bC,aF]at*;obtain⟨l,j,d,e,g⟩:=h;exact⟨l,j,d,bX.mono l fs j a e,g⟩
 | .func f first jF,cs,a,h=>by
  simp only[bC,aF]at*;obtain⟨k,cv,d,e,g⟩:=h;exact⟨k,cv,bH.mono first k a.1 d,bH.mono jF cv a.2 e,g⟩
 | .aC _,_,_,h=>by simp[bC]at h
 | .ptr b path,cs,a,h=>by
  simp only[bC]at*;obtain⟨v,d,e⟩:=h;exact⟨v,d,bY.mono aO _ _ a e⟩
 | .cA b az ak i path,cs,a,h=>by
  simp only[bC]at*;obtain⟨v,d,e⟩:=h;exact⟨v,d,bY.mono aO _ _ a e⟩
 | .sl b az ak off len,cs,a,h=>by
  simp only[bC]at*;obtain⟨v,d,e⟩:=h;exact⟨v,d,bY.mono aO _ _ a e⟩
 | .map b,cs,a,h=>by
  simp only[bC]at*;obtain⟨v,d,e⟩:=h;exact⟨v,d,bY.mono aO _ _ a e⟩
theorem bX.mono:∀(l:List Nat)(vs:List AV)(j:List (List c9)),ba (aL H) vs->bX P w ad β H l vs j->bX P w' aG aN H' l vs j
 |[],[],_,_,h=>by simpa[bX]using h
 |[],_::_,_,_,h=>by simp[bX]at h
 |_::_,[],_,_,h=>by simp[bX]at h
 |n::q,v::vs,j,a,h=>by
  simp only[bX,ba]at*;obtain⟨c,cs,d,e,g,o⟩:=h;exact⟨c,cs,d,bC.mono v c a.1 e,g,bX.mono q vs cs a.2 o⟩
theorem aB.mono:∀(v:AV)(x:c9),aF (aL H) v->aB P w ad β H v x->aB P w' aG aN H' v x
 | .p t,cs,_,h=>by simp only[aB]at h⊢;exact aE.mono hI hs t cs h
 | .st u fs,cs,a,h=>by
  simp only[aB,aF]at*;obtain⟨l,j,d,e,g⟩:=h;exact⟨l,j,d,bX.mono l fs j a e,g⟩
 | .func f first jF,cs,a,h=>by
  simp only[aB,aF]at*;obtain⟨k,cv,d,e,g⟩:=h;exact⟨k,cv,bH.mono first k a.1 d,bH.mono jF cv a.2 e,g⟩
 | .aC vs,cs,a,h=>by
  simp only[aB,aF]at*;obtain⟨xs,d,e⟩:=h;exact⟨xs,bH.mono vs xs a d,e⟩
 | .ptr b path,cs,a,h=>by simp only[aB]at*;exact bY.mono aO _ _ a h
 | .cA b az ak i path,cs,a,h=>by simp only[aB]at*;exact bY.mono aO _ _ a h
 | .sl b az ak off len,cs,a,h=>by simp only[aB]at*;exact bY.mono aO _ _ a h
 | .map b,cs,a,h=>by simp only[aB]at*;exact bY.mono aO _ _ a h
theorem bH.mono:∀(vs:List AV)(xs:List c9),ba (aL H) vs->bH P w ad β H vs xs->bH P w' aG aN H' vs xs
 |[],_,_,h=>by simpa[bH]using h
 |v::vs,xs,a,h=>by
  simp only[bH,ba]at*;obtain⟨y,m,d,e,g⟩:=h;exact⟨y,m,d,aB.mono v y a.1 e,bH.mono vs m a.2 g⟩
end
end mono
def fq:List AV->Option (List PV)
 |[]=>some []
 | .p v::r=>match fq r with
  |some l=>some (v::l)
  |none=>none
 |_::_=>none
def jv(u:db)(fs:List AV):AV:=
 match fq fs with
 |some l=>.p (.st u l)
 |none=>.st u fs
def ng:PV->List (db×Nat)->Option PV
 |t,[]=>some t
 |t,(u,i)::r=>if aK t=.agg u then(match(cm t)[i]? with
  |some f=>ng f r
  |none=>none)else none
def fX:AV->List (db×Nat)->Option AV
 |t,[]=>some t
 | .p t,(u,i)::r=>match ng t ((u,i)::r)with
  |some s=>some (.p s)
  |none=>none
 | .st u' fs,(u,i)::r=>if u'=u then(match fs[i]? with
  |some f=>fX f r
  |none=>none)else none
 |_,_=>none
def ia(t:AV)(b:List (db×Nat))(x:AV):Option AV:=
 match b with
 |[]=>some x
 |(u,i)::r=>
  match t with
  | .p t=>if aK t=.agg u then(match(cm t)[i]? with
   |some f=>(match ia (.p f) r x with
    |some a=>some (jv u (((cm t).map .p).set i a))
    |none=>none)
   |none=>none)else none
  | .st u' fs=>if u'=u then(match fs[i]? with
   |some f=>(match ia f r x with
    |some a=>some (jv u (fs.set i a))
    |none=>none)
   |none=>none)else none
  |_=>none
section
variable{P:da}{w:dd}{ad:Nat->Prop}{β:Bd}{H:al}
theorem zp:∀{l:List Nat}{vs:List PV}{a:List (List c9)},bt P w ad l vs a->a.map (·.length)=l/\vs.length=l.length/\a.length=l.length
 |[],[],_,h=>by simp[bt]at h;subst h;simp
 |[],_::_,_,h=>by simp[bt]at h
 |_::_,[],_,h=>by simp[bt]at h
 |n::f,v::vs,a,h=>by
  simp only[bt]at h;obtain⟨c,cs,rfl,e,b,d⟩:=h;have:=zp d;simp[b,this]
theorem Ch:∀{l:List Nat}{vs:List AV}{a:List (List c9)},bX P w ad β H l vs a->a.map (·.length)=l/\vs.length=l.length/\a.length=l.length
 |[],[],_,h=>by simp[bX]at h;subst h;simp
 |[],_::_,_,h=>by simp[bX]at h
 |_::_,[],_,h=>by simp[bX]at h
 |n::f,v::vs,a,h=>by
  simp only[bX]at h;obtain⟨c,cs,rfl,e,b,d⟩:=h;have:=Ch d;simp[b,this]
theorem QK{u:db}{l:List Nat}(h:dS P u=some l):l.sum=P.cellsOf u/\∀n∈l,0<n:=by
 unfold dS at h
 split at h
 ·dsimp only at h
  split at h
  ·rename_i hc;simp at hc;obtain⟨⟨a,b⟩,c⟩:=hc;simp at h;subst h;refine⟨b,?_⟩;intro n hn;simp at hn;obtain⟨f,hf,rfl⟩:=hn;obtain⟨i,hi,rfl⟩:=Array.mem_iff_getElem.1 hf;exact a i hi
  ·simp at h
 ·split at h
  ·rename_i hc;simp at hc;simp at h;subst h;refine⟨by simp[hC,hc.2],?_⟩;intro n hn;have:=hQ hn;omega
  ·simp at h
 ·simp at h
theorem sH:∀{v:PV}{cs:List c9},bd P w ad v cs->cs.length=bU P (aK v)/\aK v≠.bad:=by
 intro v cs h;cases v<;>simp only[bd]at h
 case st u fs=>
  obtain⟨l,c,a,b,rfl⟩:=h;have:=zp b;simp[aK,bU,this.1,(QK a).1]
 case str=>obtain⟨_,h,_⟩:=h;subst h;simp[aK,bU]
 case seq=>
  rcases h with⟨_,rfl⟩|⟨_,_,_,_,_,_,_,_,_,_,_,rfl⟩<;>simp[aK,bU]
 all_goals first
  |(subst h;simp[aK,bU])
  |(obtain⟨_,_,_,_,_,_,rfl⟩:=h;simp[aK,bU])
  |(obtain⟨_,_,_,_,_,rfl⟩:=h;simp[aK,bU])
  |(obtain⟨_,_,_,_,_,_,_,_,_,_,_,_,rfl⟩:=h;simp[aK,bU])
  |(obtain⟨_,_,_,_,_,_,_,rfl⟩:=h;simp[aK,bU])
  |(obtain⟨_,_,_,_,rfl⟩:=h;simp[aK,bU])
  |(obtain⟨_,h,_⟩:=h;subst h;simp[aK,bU])
  |exact h.elim
theorem qY{v:AV}{cs:List c9}(h:bC P w ad β H v cs):cs.length=bU P (aa v)/\aa v≠.bad:=by
 cases v<;>simp only[bC]at h
 case p t=>exact sH h
 case st u fs=>
  obtain⟨l,c,a,b,rfl⟩:=h;have:=Ch b;simp[aa,bU,this.1,(QK a).1]
 all_goals first
  |(obtain⟨_,rfl,_⟩:=h;simp[aa,bU])
  |(obtain⟨_,_,_,_,rfl⟩:=h;simp[aa,bU])
theorem xB{v:PV}(hs:aK v=.leaf)(cs:List c9):bd P w ad v cs↔∃c,cs=[c]/\aE P w ad v c:=by
 cases v<;>simp[aK]at hs<;>simp only[bd,aE]
 case bool|int|eO|aI|gu|jI|iG=>exact⟨fun h=>⟨_,h,rfl⟩,fun⟨c,g,i⟩=>by rw[g,i]⟩
 case str s=>exact⟨fun⟨bs,g,i⟩=>⟨_,g,bs,rfl,i⟩,fun⟨c,g,bs,i,j⟩=>⟨bs,by rw[g,i],j⟩⟩
 case cM t=>exact⟨fun⟨a,b,c,g,i,j,k⟩=>⟨_,k,a,b,c,g,i,j,rfl⟩,fun⟨v,g,a,b,c,i,j,k,l⟩=>⟨a,b,c,i,j,k,by rw[g,l]⟩⟩
 case dw f es=>exact⟨fun⟨a,b,c,d,e,g,i,j,k,l,sp,n,m⟩=>⟨_,m,a,b,c,d,e,g,i,j,k,l,sp,n,rfl⟩,fun⟨v,h,a,b,c,d,e,g,i,j,k,l,sp,n,m⟩=>⟨a,b,c,d,e,g,i,j,k,l,sp,n,by rw[h,m]⟩⟩
 case seq es=>
  constructor
  ·rintro(⟨g,i⟩|⟨a,b,c,d,e,g,i,j,l,sp,n,m⟩)
   ·exact⟨_,i,.inl ⟨g,rfl⟩⟩
   ·exact⟨_,m,.inr ⟨a,b,c,d,e,g,i,j,l,sp,n,rfl⟩⟩
  ·rintro⟨v,h,(⟨g,i⟩|⟨a,b,c,d,e,g,i,j,l,sp,n,m⟩)⟩
   ·exact .inl ⟨g,by rw[h,i]⟩
   ·exact .inr ⟨a,b,c,d,e,g,i,j,l,sp,n,by rw[h,m]⟩
 case fu es=>exact⟨fun⟨a,b,c,g,i,j,k⟩=>⟨_,k,a,b,c,g,i,j,rfl⟩,fun⟨v,h,a,b,c,g,i,j,k⟩=>⟨a,b,c,g,i,j,by rw[h,k]⟩⟩
 case func f x y=>exact⟨fun⟨a,b,g,i,j⟩=>⟨_,j,a,b,g,i,rfl⟩,fun⟨v,h,a,b,g,i,j⟩=>⟨a,b,g,i,by rw[h,j]⟩⟩
theorem An{v:PV}{u:db}(hs:aK v=.agg u)(cs:List c9):bd P w ad v cs↔aE P w ad v (.agg cs.toArray):=by
 cases v<;>simp[aK]at hs;subst hs;simp only[bd,aE];constructor
 ·rintro⟨l,a,b,c,rfl⟩;exact⟨l,a,b,c,rfl⟩
 ·rintro⟨l,a,b,c,d⟩;refine⟨l,a,b,c,?_⟩;injection d with d;simpa using congrArg cd d
theorem GS{v:AV}(hs:aa v=.leaf)(cs:List c9):bC P w ad β H v cs↔∃c,cs=[c]/\aB P w ad β H v c:=by
 cases v<;>simp[aa]at hs<;>simp only[bC,aB]
 case p t=>exact xB hs cs
 case func f x y=>exact⟨fun⟨a,b,d,e,g⟩=>⟨_,g,a,b,d,e,rfl⟩,fun⟨v,h,a,b,d,e,g⟩=>⟨a,b,d,e,by rw[h,g]⟩⟩
theorem RD{v:AV}{u:db}(hs:aa v=.agg u)(cs:List c9):bC P w ad β H v cs↔aB P w ad β H v (.agg cs.toArray):=by
 cases v<;>simp[aa]at hs
 case p t=>simp only[bC,aB];exact An hs cs
 case st u' fs=>
  subst hs;simp only[bC,aB];constructor
  ·rintro⟨l,a,b,c,rfl⟩;exact⟨l,a,b,c,rfl⟩
  ·rintro⟨l,a,b,c,d⟩;refine⟨l,a,b,c,?_⟩;injection d with d;simpa using congrArg cd d
theorem Cy{v:AV}{x:c9}(h:aB P w ad β H v x)(hs:aa v≠.bad):bC P w ad β H v x.cells.toList:=by
 cases a:aa v with
 |bad=>exact absurd a hs
 |leaf=>
  rw[GS a];refine⟨x,?_,h⟩;cases v<;>simp[aa]at a<;>simp only[aB]at h
  case p t=>
   cases t<;>simp[aK]at a<;>simp only[aE]at h
   case bool|int|eO|aI|gu|jI|iG=>subst h;rfl
   case str=>obtain⟨_,rfl,_⟩:=h;rfl
   case cM=>obtain⟨_,_,_,_,_,_,rfl⟩:=h;rfl
   case dw=>obtain⟨_,_,_,_,_,_,_,_,_,_,_,_,rfl⟩:=h;rfl
   case seq=>rcases h with⟨_,rfl⟩|⟨_,_,_,_,_,_,_,_,_,_,_,rfl⟩<;>rfl
   case fu=>obtain⟨_,_,_,_,_,_,rfl⟩:=h;rfl
   case func=>obtain⟨_,_,_,_,rfl⟩:=h;rfl
  case func=>obtain⟨_,_,_,_,rfl⟩:=h;rfl
  all_goals (have b:=h.1;cases x<;>first|rfl|(simp[hg]at b))
 |agg u=>
  cases v<;>simp[aa]at a
  case p t=>
   cases t<;>simp[aK]at a;simp only[aB,aE]at h;obtain⟨l,c,b,d,rfl⟩:=h;simp only[bC,bd];exact⟨l,c,b,d,by simp[hh]⟩
  case st u' fs=>
   simp only[aB]at h;obtain⟨l,c,b,d,rfl⟩:=h;simp only[bC];exact⟨l,c,b,d,by simp[hh]⟩
end
mutual
def Wk:PV->PV->Prop
 | .undef,v=>v=.undef
 | .bool b,v=>v=.bool b
 | .int k n,v=>v=.int k n
 | .str s,v=>v=.str s
 | .eO,v=>v=.eO
 | .gu,v=>v=.gu
 | .jI,v=>v=.jI
 | .iG,v=>v=.iG
 | .aI,v=>v=.aI\/v=.seq []
 | .cM t,v=>match v with
  | .cM h=>Wk t h
  |_=>False
 | .dw f es,v=>match v with
  | .dw g fs=>(g=true->f=true)/\bL es fs
  | .seq fs=>bL es fs
  |_=>False
 | .seq es,v=>match v with
  | .seq fs=>bL es fs
  |_=>False
 | .fu es,v=>match v with
  | .fu fs=>nj es fs
  |_=>False
 | .func f a b,v=>match v with
  | .func g c d=>f=g/\bL a c/\bL b d
  |_=>False
 | .st u es,v=>match v with
  | .st u' fs=>u=u'/\bL es fs
  |_=>False
 | .aC es,v=>match v with
  | .aC fs=>bL es fs
  |_=>False
def bL:List PV->List PV->Prop
 |[],fs=>fs=[]
 |v::vs,fs=>match fs with
  |f::fs=>Wk v f/\bL vs fs
  |[]=>False
def nj:List (PV×PV)->List (PV×PV)->Prop
 |[],fs=>fs=[]
 |(k,v)::vs,fs=>match fs with
  |(e,f)::fs=>k=e/\Wk v f/\nj vs fs
  |[]=>False
end
mutual
theorem Wk.refl:∀v,Wk v v
 | .undef| .bool _| .int _ _| .str _| .eO| .gu| .jI| .iG=>by simp[Wk]
 | .aI=>by simp[Wk]
 | .cM t=>by simp only[Wk];exact Wk.refl t
 | .dw f c=>by simp only[Wk];exact⟨id,bL.refl c⟩
 | .seq c=>by simp only[Wk];exact bL.refl c
 | .fu c=>by simp only[Wk];exact nj.refl c
 | .func f a b=>by simp only[Wk];exact⟨trivial,bL.refl a,bL.refl b⟩
 | .st u c=>by simp only[Wk];exact⟨trivial,bL.refl c⟩
 | .aC c=>by simp only[Wk];exact bL.refl c
theorem bL.refl:∀vs,bL vs vs
 |[]=>by simp[bL]
 |v::vs=>by simp only[bL];exact⟨Wk.refl v,bL.refl vs⟩
theorem nj.refl:∀c,nj c c
 |[]=>by simp[nj]
 |(k,v)::vs=>by simp only[nj];exact⟨trivial,Wk.refl v,nj.refl vs⟩
end
theorem bL.length:∀{es fs:List PV},bL es fs->fs.length=es.length
 |[],fs,h=>by simp only[bL]at h;subst h;rfl
 |v::vs,fs,h=>by
  cases fs with
  |nil=>simp[bL]at h
  |cons f fs=>simp only[bL]at h;simp[bL.length h.2]
theorem bL.sT{a fs:List PV}(h:bL a fs):fs=[]↔a=[]:=by
 have:=h.length;rw[<-hL,<-hL,this]
theorem Wk.aK:∀{v v':PV},Wk v v'->ag.aK v'=ag.aK v
 | .undef,v',h| .bool _,v',h| .int _ _,v',h| .str _,v',h| .eO,v',h| .gu,v',h| .jI,v',h| .iG,v',h=>by simp only[Wk]at h;subst h;rfl
 | .aI,v',h=>by simp only[Wk]at h;rcases h with rfl|rfl<;>rfl
 | .cM _,v',h| .dw _ _,v',h| .seq _,v',h| .fu _,v',h| .func _ _ _,v',h| .aC _,v',h=>by cases v'<;>simp only[Wk]at h<;>rfl
 | .st _ _,v',h=>by
  cases v'<;>simp only[Wk]at h;simp[ag.aK,h.1]
section
variable{P:da}{w:dd}{ad:Nat->Prop}
mutual
theorem bd.dI:∀(v v':PV)(cs:List c9),Wk v v'->bd P w ad v cs->bd P w ad v' cs
 | .undef,v',cs,h,hc| .bool _,v',cs,h,hc| .int _ _,v',cs,h,hc| .str _,v',cs,h,hc| .eO,v',cs,h,hc| .gu,v',cs,h,hc| .jI,v',cs,h,hc| .iG,v',cs,h,hc=>by simp only[Wk]at h;subst h;exact hc
 | .aI,v',cs,h,hc=>by
  simp only[Wk]at h;rcases h with rfl|rfl
  ·exact hc
  ·simp only[bd]at hc⊢;exact .inl ⟨trivial,hc⟩
 | .cM t,v',cs,h,hc=>by
  cases v'<;>simp only[Wk]at h;simp only[bd]at hc⊢;obtain⟨au,off,ts,d,i⟩:=hc;exact⟨au,off,ts,bd.dI _ _ _ h d,i⟩
 | .dw f o,v',cs,h,hc=>by
  cases v' with
  |dw g fs=>
   simp only[Wk]at h;simp only[bd]at hc⊢;obtain⟨au,off,cap,ak,m,d,i,j,p,q,s⟩:=hc;have z:=h.2.length;rw[z];exact⟨au,off,cap,ak,m,bt.dI _ _ _ _ h.2 d,fun A=>i (fun e=>A (h.2.sT.2 e)),j,fun e=>p (h.1 e),q,s⟩
  |seq fs=>
   simp only[Wk]at h;simp only[bd]at hc⊢;obtain⟨au,off,cap,ak,m,d,i,j,p,q,s⟩:=hc;have z:=h.length;rw[z];exact .inr ⟨au,off,cap,ak,m,bt.dI _ _ _ _ h d,fun A=>i (fun e=>A (h.sT.2 e)),j,q,s⟩
  |_=>simp only[Wk]at h
 | .seq o,v',cs,h,hc=>by
  cases v'<;>simp only[Wk]at h;simp only[bd]at hc⊢;rcases hc with⟨d,i⟩|⟨au,off,cap,ak,m,d,i,j,q,s⟩
  ·exact .inl ⟨h.sT.2 d,i⟩
  ·have z:=h.length;rw[z];exact .inr ⟨au,off,cap,ak,m,bt.dI _ _ _ _ h d,fun A=>i (fun e=>A (h.sT.2 e)),j,q,s⟩
 | .fu o,v',cs,h,hc=>by
  cases v'<;>simp only[Wk]at h;simp only[bd]at hc⊢;obtain⟨r,C,clock,d,i,j,p⟩:=hc;exact⟨r,C,clock,d,i,cT.dI _ _ _ h j,p⟩
 | .func f a b,v',cs,h,hc=>by
  cases v'<;>simp only[Wk]at h;obtain⟨rfl,E,F⟩:=h;simp only[bd]at hc⊢;obtain⟨D,cv,d,i,j⟩:=hc;exact⟨D,cv,bG.dI _ _ _ E d,bG.dI _ _ _ F i,j⟩
 | .st u o,v',cs,h,hc=>by
  cases v'<;>simp only[Wk]at h;obtain⟨rfl,h⟩:=h;simp only[bd]at hc⊢;obtain⟨l,m,d,i,j⟩:=hc;exact⟨l,m,d,bt.dI _ _ _ _ h i,j⟩
 | .aC o,v',cs,h,hc=>by simp[bd]at hc
theorem bt.dI:∀(l:List Nat)(o fs:List PV)(m:List (List c9)),bL o fs->bt P w ad l o m->bt P w ad l fs m
 |l,[],fs,m,h,hc=>by simp only[bL]at h;subst h;exact hc
 |l,v::vs,fs,m,h,hc=>by
  cases fs with
  |nil=>simp[bL]at h
  |cons f fs=>
   simp only[bL]at h;cases l with
   |nil=>simp[bt]at hc
   |cons n l=>
    simp only[bt]at hc⊢;obtain⟨c,cs,d,i,j,p⟩:=hc;exact⟨c,cs,d,bd.dI _ _ _ h.1 i,j,bt.dI _ _ _ _ h.2 p⟩
theorem aE.dI:∀(v v':PV)(x:c9),Wk v v'->aE P w ad v x->aE P w ad v' x
 | .undef,v',cs,h,hc| .bool _,v',cs,h,hc| .int _ _,v',cs,h,hc| .str _,v',cs,h,hc| .eO,v',cs,h,hc| .gu,v',cs,h,hc| .jI,v',cs,h,hc| .iG,v',cs,h,hc=>by simp only[Wk]at h;subst h;exact hc
 | .aI,v',cs,h,hc=>by
  simp only[Wk]at h;rcases h with rfl|rfl
  ·exact hc
  ·simp only[aE]at hc⊢;exact .inl ⟨trivial,hc⟩
 | .cM t,v',cs,h,hc=>by
  cases v'<;>simp only[Wk]at h;simp only[aE]at hc⊢;obtain⟨au,off,ts,d,i⟩:=hc;exact⟨au,off,ts,bd.dI _ _ _ h d,i⟩
 | .dw f o,v',cs,h,hc=>by
  cases v' with
  |dw g fs=>
   simp only[Wk]at h;simp only[aE]at hc⊢;obtain⟨au,off,cap,ak,m,d,i,j,p,q,s⟩:=hc;have z:=h.2.length;rw[z];exact⟨au,off,cap,ak,m,bt.dI _ _ _ _ h.2 d,fun A=>i (fun e=>A (h.2.sT.2 e)),j,fun e=>p (h.1 e),q,s⟩
  |seq fs=>
   simp only[Wk]at h;simp only[aE]at hc⊢;obtain⟨au,off,cap,ak,m,d,i,j,p,q,s⟩:=hc;have z:=h.length;rw[z];exact .inr ⟨au,off,cap,ak,m,bt.dI _ _ _ _ h d,fun A=>i (fun e=>A (h.sT.2 e)),j,q,s⟩
  |_=>simp only[Wk]at h
 | .seq o,v',cs,h,hc=>by
  cases v'<;>simp only[Wk]at h;simp only[aE]at hc⊢;rcases hc with⟨d,i⟩|⟨au,off,cap,ak,m,d,i,j,q,s⟩
  ·exact .inl ⟨h.sT.2 d,i⟩
  ·have z:=h.length;rw[z];exact .inr ⟨au,off,cap,ak,m,bt.dI _ _ _ _ h d,fun A=>i (fun e=>A (h.sT.2 e)),j,q,s⟩
 | .fu o,v',cs,h,hc=>by
  cases v'<;>simp only[Wk]at h;simp only[aE]at hc⊢;obtain⟨r,C,clock,d,i,j,p⟩:=hc;exact⟨r,C,clock,d,i,cT.dI _ _ _ h j,p⟩
 | .func f a b,v',cs,h,hc=>by
  cases v'<;>simp only[Wk]at h;obtain⟨rfl,E,F⟩:=h;simp only[aE]at hc⊢;obtain⟨D,cv,d,i,j⟩:=hc;exact⟨D,cv,bG.dI _ _ _ E d,bG.dI _ _ _ F i,j⟩
 | .st u o,v',cs,h,hc=>by
  cases v'<;>simp only[Wk]at h;obtain⟨rfl,h⟩:=h;simp only[aE]at hc⊢;obtain⟨l,m,d,i,j⟩:=hc;exact⟨l,m,d,bt.dI _ _ _ _ h i,j⟩
 | .aC o,v',cs,h,hc=>by
  cases v'<;>simp only[Wk]at h;simp only[aE]at hc⊢;obtain⟨B,d,i⟩:=hc;exact⟨B,bG.dI _ _ _ h d,i⟩
theorem bG.dI:∀(o fs:List PV)(B:List c9),bL o fs->bG P w ad o B->bG P w ad fs B
 |[],fs,B,h,hc=>by simp only[bL]at h;subst h;exact hc
 |v::vs,fs,B,h,hc=>by
  cases fs with
  |nil=>simp[bL]at h
  |cons f fs=>
   simp only[bL]at h;simp only[bG]at hc⊢;obtain⟨y,G,d,i,j⟩:=hc;exact⟨y,G,d,aE.dI _ _ _ h.1 i,bG.dI _ _ _ h.2 j⟩
theorem cT.dI:∀(o fs:List (PV×PV))(C:List eo),nj o fs->cT P w ad o C->cT P w ad fs C
 |[],fs,B,h,hc=>by simp only[nj]at h;subst h;exact hc
 |(k,v)::vs,fs,B,h,hc=>by
  cases fs with
  |nil=>simp[nj]at h
  |cons f fs=>
   simp only[nj]at h;obtain⟨rfl,d,i⟩:=h;simp only[cT]at hc⊢;obtain⟨e,rest,e1,e2,e3,e4⟩:=hc;exact⟨e,rest,e1,e2,aE.dI _ _ _ d e3,cT.dI _ _ _ i e4⟩
end
end
section
variable{P:da}{w:dd}{ad:Nat->Prop}{β:Bd}{H:al}
theorem oC:∀{fs:List AV}{l:List PV},fq fs=some l->fs=l.map .p
 |[],l,h=>by simp[fq]at h;subst h;rfl
 | .p v::r,l,h=>by
  simp only[fq]at h;cases a:fq r with
  |none=>simp[a]at h
  |some b=>simp[a]at h;subst h;simp[oC a]
 | .ptr ..::_,_,h| .cA ..::_,_,h| .sl ..::_,_,h| .map ..::_,_,h| .func ..::_,_,h| .st ..::_,_,h| .aC ..::_,_,h=>by simp[fq]at h
theorem V6(l:List PV):fq (l.map .p)=some l:=by
 induction l with
 |nil=>rfl
 |cons v l a=>simp[fq,a]
theorem qX:∀{l:List Nat}{fs:List PV}{a:List (List c9)},bX P w ad β H l (fs.map .p) a↔bt P w ad l fs a
 |[],[],_=>by simp[bX,bt]
 |[],_::_,_=>by simp[bX,bt]
 |_::_,[],_=>by simp[bX,bt]
 |n::g,v::vs,a=>by
  simp only[hM,bX,bt,bC];constructor
  ·rintro⟨c,cs,b,d,e,f⟩;exact⟨c,cs,b,d,e,qX.1 f⟩
  ·rintro⟨c,cs,b,d,e,f⟩;exact⟨c,cs,b,d,e,qX.2 f⟩
theorem lG:∀{fs:List PV}{d:List c9},bH P w ad β H (fs.map .p) d↔bG P w ad fs d
 |[],_=>by simp[bH,bG]
 |v::vs,d=>by
  simp only[hM,bH,bG,aB];constructor
  ·rintro⟨y,e,a,b,c⟩;exact⟨y,e,a,b,lG.1 c⟩
  ·rintro⟨y,e,a,b,c⟩;exact⟨y,e,a,b,lG.2 c⟩
theorem QB{u:db}{fs:List AV}{cs:List c9}:bC P w ad β H (jv u fs) cs↔bC P w ad β H (.st u fs) cs:=by
 unfold jv;cases h:fq fs with
 |none=>rfl
 |some l=>have:=oC h;subst this;simp[bC,bd,qX]
theorem awS{u:db}{fs:List AV}{x:c9}:aB P w ad β H (jv u fs) x↔aB P w ad β H (.st u fs) x:=by
 unfold jv;cases h:fq fs with
 |none=>rfl
 |some l=>have:=oC h;subst this;simp[aB,aE,qX]
theorem kj(n:Nat×Nat->Prop):∀l:List PV,ba n (l.map .p)
 |[]=>by simp[ba]
 |v::l=>by simp only[hM,ba,aF,true_and];exact kj n l
theorem FN{n:Nat×Nat->Prop}{u:db}{fs:List AV}(h:ba n fs):aF n (jv u fs):=by
 unfold jv;cases fq fs with
 |none=>exact h
 |some l=>simp[aF]
theorem df{n:Nat×Nat->Prop}:∀{fs:List AV},ba n fs↔∀v∈fs,aF n v
 |[]=>by simp[ba]
 |v::vs=>by simp[ba,df (fs:=vs)]
theorem xK:∀{l:List Nat}{fs:List AV}{d:List (List c9)}{i:Nat}{f:AV},bX P w ad β H l fs d->fs[i]?=some f->
 ∃pre c post,d.flatten=pre++c++post/\pre.length=(l.take i).sum/\i<l.length/\l[i]?=some c.length/\bC P w ad β H f c/\
  ∀b c',bC P w ad β H b c'->c'.length=c.length->∃a,a.flatten=pre++c'++post/\bX P w ad β H l (fs.set i b) a
 |[],[],_,i,f,_,hf=>by simp at hf
 |[],_::_,_,_,_,h,_=>by simp[bX]at h
 |_::_,[],_,_,_,h,_=>by simp[bX]at h
 |n::m,v::vs,d,0,f,h,hf=>by
  simp only[bX]at h;obtain⟨c,cs,rfl,g,e,j⟩:=h;simp at hf;subst hf;refine⟨[],c,cs.flatten,s_,s_,s_,by simp[e],g,?_⟩;intro b c' hc k;exact⟨c'::cs,s_,by simp only[h3,bX];exact⟨c',cs,rfl,hc,o_,j⟩⟩
 |n::m,v::vs,d,i+1,f,h,hf=>by
  simp only[bX]at h;obtain⟨c,cs,rfl,g,e,j⟩:=h;simp at hf;obtain⟨pre,x,post,k1,k2,k3,k4,k5,k6⟩:=xK j hf;refine⟨c++pre,x,post,by simp[k1],by simp[k2,e],by simpa using k3,by simpa using k4,k5,?_⟩;intro b c' hc k;obtain⟨a,e1,e2⟩:=k6 b c' hc k;exact⟨c::a,by simp[e1],by simp only[List.set_cons_succ,bX];exact⟨c,a,rfl,g,e,e2⟩⟩
theorem Pv{t:AV}{u:db}{cs:List c9}(hs:aa t= .agg u)(h:bC P w ad β H t cs):
 ∃l fs a,dS P u=some l/\bX P w ad β H l fs a/\cs=a.flatten/\(∀c,t=.p c->fs=(cm c).map .p)/\(∀u' g,t=.st u' g->fs=g/\u'=u):=by
 cases t<;>simp[aa]at hs
 case p t=>
  cases t<;>simp[aK]at hs;subst hs;simp only[bC,bd]at h;obtain⟨l,a,d,e,f⟩:=h;exact⟨l,_,a,d,qX.2 e,f,fun c b=>by cases b;rfl,fun _ _ h=>by cases h⟩
 case st u' fs=>
  subst hs;simp only[bC]at h;obtain⟨l,a,d,e,f⟩:=h;exact⟨l,fs,a,d,e,f,(fun c b=>by cases b),(fun j i b=>by cases b;exact⟨rfl,rfl⟩)⟩
theorem Dp{t:PV}{a:List (db×Nat)}:fX (.p t) a=(ng t a).map .p:=by
 cases a with
 |nil=>rfl
 |cons x r=>obtain⟨u,i⟩:=x;simp only[fX];cases ng t ((u,i)::r)<;>rfl
theorem sS:∀{y:List (db×Nat)}{t s:AV}{cs:List c9}{o:Nat},bC P w ad β H t cs->fX t y=some s->iv P y=some o->
 ∃m n post,cs=m++n++post/\m.length=o/\bC P w ad β H s n/\
  ∀x k a,ia t y x=some a->bC P w ad β H x k->k.length=n.length->bC P w ad β H a (m++k++post)
 |[],t,s,cs,o,h,hs,d=>by
  simp[iv]at d;subst d;simp[fX]at hs;subst hs;refine⟨[],cs,[],s_,s_,h,?_⟩;intro x k a hx v _;simp[ia]at hx;subst hx;simpa using v
 |(u,i)::r,t,s,cs,o,h,hs,d=>by
  simp only[iv]at d;cases hz:dS P u with
  |none=>simp[hz]at d
  |some l=>
   cases q:iv P r with
   |none=>simp[hz,q]at d
   |some o'=>
    simp[hz,q]at d;obtain⟨G,rfl⟩:=d
    have key:∃fs f,(∃j e,dS P u=some j/\bX P w ad β H j fs e/\cs=e.flatten)/\fs[i]?=some f/\fX f r=some s/\
     (∀x a,ia t ((u,i)::r) x=some a->∃b,ia f r x=some b/\a=jv u (fs.set i b)):=by
     cases t
     case p t=>
      rw[Dp]at hs;simp only[ng]at hs
      by_cases g:aK t=.agg u
      ·simp only[g,if_true]at hs;obtain⟨j,fs,e,k1,k2,k3,k4,_⟩:=Pv (t:=.p t) (by simpa[aa]using g) h;have:=k4 t rfl;subst this;cases hf:(cm t)[i]? with
       |none=>simp[hf]at hs
       |some f=>
        simp only[hf]at hs;refine⟨_,.p f,⟨j,e,k1,k2,k3⟩,by simp[hf],by rw[Dp];exact hs,?_⟩;intro x a hx;simp only[ia,g,if_true,hf]at hx;cases hq:ia (.p f) r x with
        |none=>simp[hq]at hx
        |some b=>simp[hq]at hx;exact⟨b,rfl,hx.symm⟩
      ·simp[g]at hs
     case st u' fs=>
      simp only[fX]at hs
      by_cases g:u'=u
      ·subst g;simp only[if_true]at hs;obtain⟨j,B,e,k1,k2,k3,_,k4⟩:=Pv (t:=.st u' fs) rfl h;have:=(k4 _ _ rfl).1;subst this;cases hf:B[i]? with
       |none=>simp[hf]at hs
       |some f=>
        simp only[hf]at hs;refine⟨_,f,⟨j,e,k1,k2,k3⟩,hf,hs,?_⟩;intro x a hx;simp only[ia,if_true,hf]at hx;cases hq:ia f r x with
        |none=>simp[hq]at hx
        |some b=>simp[hq]at hx;exact⟨b,rfl,hx.symm⟩
      ·simp[g]at hs
     all_goals simp[fX]at hs
    obtain⟨fs,f,⟨j,e,k1,k2,k3⟩,hf,D,aM⟩:=key;rw[hz]at k1;cases k1;obtain⟨m,c,post,e1,e2,e3,e4,e5,e6⟩:=xK k2 hf;obtain⟨F,n,E,g1,g2,g3,g4⟩:=sS e5 D q;refine⟨m++F,n,E++post,by rw[k3,e1,g1];simp,by simp[e2,g2],g3,?_⟩;intro x k a hx v z;obtain⟨b,C,rfl⟩:=aM x a hx;have aY:=g4 x k b C v z;obtain⟨A,c1,c2⟩:=e6 b _ aY (by rw[g1];simp[z]);rw[QB];simp only[bC];exact⟨l,A,hz,c2,by rw[c1];simp⟩
theorem CY{path:List (db×Nat)}{t s:PV}{cs:List c9}{o:Nat}(h:bd P w ad t cs)(hs:ng t path=some s)(f:iv P path=some o):
 ∃a b post,cs=a++b++post/\a.length=o/\bd P w ad s b:=by
 obtain⟨a,b,post,c,d,e,_⟩:=sS (β:=⟨id,id⟩) (H:=[]) (t:=.p t) (s:=.p s) (by simpa[bC]using h) (by rw[Dp,hs];rfl) f;exact⟨a,b,post,c,d,by simpa[bC]using e⟩
theorem zR{n:Nat×Nat->Prop}:∀{a:List (db×Nat)}{t s:AV},fX t a=some s->aF n t->aF n s
 |[],t,s,hs,h=>by simp[fX]at hs;subst hs;exact h
 |(u,i)::r,.p t,s,hs,h=>by
  rw[Dp]at hs;cases hq:ng t ((u,i)::r)with
  |none=>simp[hq]at hs
  |some q=>simp[hq]at hs;subst hs;simp[aF]
 |(u,i)::r,.st u' fs,s,hs,h=>by
  simp only[fX]at hs
  split at hs
  ·split at hs
   ·rename_i f hf;simp only[aF]at h;exact zR hs (df.1 h f (hH hf))
   ·simp at hs
  ·simp at hs
 |_::_,.ptr ..,_,hs,_|_::_,.cA ..,_,hs,_|_::_,.sl ..,_,hs,_|_::_,.map ..,_,hs,_|_::_,.func ..,_,hs,_|_::_,.aC ..,_,hs,_=>by simp[fX]at hs
theorem zS{n:Nat×Nat->Prop}:∀{e:List (db×Nat)}{t b x:AV},ia t e x=some b->aF n t->aF n x->aF n b
 |[],t,b,x,hs,h,hx=>by simp[ia]at hs;subst hs;exact hx
 |(u,i)::r,.p t,b,x,hs,h,hx=>by
  simp only[ia]at hs
  split at hs
  ·split at hs
   ·split at hs
    ·rename_i f hf d c;simp at hs;subst hs;refine FN (df.2 ?_);intro v a;rcases hJ a with a|rfl
     ·exact df.1 (kj n _) v a
     ·exact zS c (by simp[aF]) hx
    ·simp at hs
   ·simp at hs
  ·simp at hs
 |(u,i)::r,.st u' fs,b,x,hs,h,hx=>by
  simp only[ia]at hs
  split at hs
  ·split at hs
   ·split at hs
    ·rename_i _ f hf _ d c;simp at hs;subst hs;simp only[aF]at h;refine FN (df.2 ?_);intro v a;rcases hJ a with a|rfl
     ·exact df.1 h v a
     ·exact zS c (df.1 h f (hH hf)) hx
    ·simp at hs
   ·simp at hs
  ·simp at hs
 |_::_,.ptr ..,_,_,hs,_,_|_::_,.cA ..,_,_,hs,_,_|_::_,.sl ..,_,_,hs,_,_|_::_,.map ..,_,_,hs,_,_|_::_,.func ..,_,_,hs,_,_|_::_,.aC ..,_,_,hs,_,_=>by simp[ia]at hs
end
structure aZ where
 v:AV
 ar:List (Nat×Obj):=[]
 aM:List (Nat×Obj):=[]
 aY:List Obj:=[]
def bA(H:al)(l:List (Nat×Obj)):al:=
 match l with
 |[]=>H
 |(b,o)::r=>bA (H.set b o) r
def put(dst:Option Tmp)(v:AV)(e:Env):Env:=
 match dst with
 |some d=>(d,v)::e
 |none=>e
def aZ.app(e:aZ)(dst:Option Tmp)(s:St):St:=⟨put dst e.v s.env,bA s.heap e.aM++e.aY⟩
def ev(e:Env):dl->AV
 | .tmp t=>aQ e t
 | .const v=>.p (ofConst v)
 | .global g=>.p (Gl.g g)
 | .func f=>.p (.func f [] [])
def iH(s:List Nat):ByteArray:=⟨(s.map UInt8.ofNat).toArray⟩
mutual
def kz:PV->PV->Option Bool
 | .bool a,.bool b=>some (a==b)
 | .int k a,.int c b=>if k=c then some (a==b)else none
 | .str a,.str b=>some (a==b)
 | .st u fs,.st u' gs=>if u=u' then A5 fs gs else none
 |_,_=>none
def A5:List PV->List PV->Option Bool
 |[],[]=>some true
 |a::as,b::bs=>match kz a b with
  |some true=>A5 as bs
  |some false=>some false
  |none=>none
 |_,_=>none
end
def ju(P:da)(c:db->PV->PV->Option Bool):List db->List PV->List PV->Option Bool
 |[],[],[]=>some true
 |T::d,a::as,b::bs=>
  if kindOf P T=aK a/\kindOf P T=aK b then
   (match c T a b,ju P c d as bs with
   |some r,some s=>some (r&&s)
   |_,_=>none)
  else none
 |_,_,_=>none
def gE(P:da):Nat->db->PV->PV->Option Bool
 |0,_,_,_=>none
 |n+1,T,v,v'=>
  match P.underlying T,v,v' with
  |some .bool,.bool a,.bool b=>some (a==b)
  |some (.int _),.int k a,.int d b=>if k=d then some (a==b)else none
  |some .string,.str a,.str b=>some (a==b)
  |some (.struct fs),.st u xs,.st u' c=>
   if kindOf P T= .agg u/\u'=u/\P.stoodInHeld T=false/\fs.toList.all (fun f=>f.name != "_")=true then ju P (gE P n) (fs.toList.map (·.type)) xs c else none
  |some (.array m e),.st u xs,.st u' c=>
   if kindOf P T=.agg u/\u'=u/\(P.info? e).isSome=true then ju P (gE P n) (hw m e) xs c else none
  |_,_,_=>none
def qp(P:da)(T:db):Bool:=!P.eqGuardType P.depth T
def uZ(P:da)(T:db):Bool:=match P.underlying T with|some .bool=>true|_=>false
def aTT(P:da)(T:db):Bool:=match P.underlying T with|some (.int _)=>true|_=>false
def jM(P:da)(T:db):Bool:=match P.underlying T with|some .string=>true|_=>false
inductive yR where|ptr|slice|map|func|iface
 deriving DecidableEq
def pC:dl->Bool
 | .const _=>true
 |_=>false
def et(P:da)(T:db)(c:Bool):AV->Option yR
 | .p .eO=>match P.underlying T with
  |some (.pointer _)=>some .ptr
  |_=>none
 | .p .aI=>match P.underlying T with
  |some (.slice _)=>some .slice
  |_=>none
 | .p .gu=>match P.underlying T with
  |some (.map _ _)=>some .map
  |_=>none
 | .p .jI=>match P.underlying T with
  |some (.func _ _ _)=>some .func
  |_=>none
 | .p .iG=>match c,P.underlying T with
  |true,some (.interface _)=>some .iface
  |_,_=>none
 |_=>none
def dB(H:al)(k:yR)(x:AV):Option Bool:=
 match k,x with
 | .ptr,.p .eO| .slice,.p .aI| .map,.p .gu| .func,.p .jI| .iface,.p .iG=>some true
 | .ptr,.p (.cM _)| .slice,.p (.dw _ _)| .map,.p (.fu _)| .func,.p (.func _ _ _)| .func,.func _ _ _=>some false
 | .ptr,.ptr b _=>match H[b]? with
  |some (.box _ _)=>some false
  |_=>none
 | .map,.map b=>match H[b]? with
  |some (.map _ _)=>some false
  |_=>none
 | .slice,.p (.seq (_::_))=>some false
 | .slice,.sl b az ak _ _=>match H[b]? with
  |some (.arr k c a es)=>if az=c/\ak=a then some (k.gr&&es.isEmpty)else none
  |_=>none
 |_,_=>none
def tt(op:ey)(k:ei)(a b:Int)(K:PV->Prop):Prop:=
 match op with
 | .add=>K (.int k (k.wrap (a+b)))
 | .sub=>K (.int k (k.wrap (a-b)))
 | .mul=>K (.int k (k.wrap (a*b)))
 | .quo=>b≠0/\K (.int k (k.wrap (a.tdiv b)))
 | .rem=>b≠0/\K (.int k (a.tmod b))
 | .and=>K (.int k (k.wrap (cx k.bits a&&&cx k.bits b).toNat))
 | .or=>K (.int k (k.wrap (cx k.bits a|||cx k.bits b).toNat))
 | .xor=>K (.int k (k.wrap (cx k.bits a^^^cx k.bits b).toNat))
 | .andNot=>K (.int k (k.wrap (cx k.bits a&&&~~~cx k.bits b).toNat))
 | .eql=>K (.bool (a==b))
 | .neq=>K (.bool (a !=b))
 | .lss=>K (.bool (decide (a<b)))
 | .leq=>K (.bool (decide (a<=b)))
 | .gtr=>K (.bool (decide (a>b)))
 | .geq=>K (.bool (decide (a>=b)))
 | .shl=>0<=b/\K (.int k (k.wrap (a*2^(min b.toNat k.bits))))
 | .shr=>0<=b/\K (.int k (a.fdiv (2^(min b.toNat k.bits))))
def kU:List Nat->List Nat->Bool
 |_,[]=>false
 |[],_::_=>true
 |a::x,b::y=>decide (a<b)||(a==b&&kU x y)
def tq(op:ey)(a b:List Nat)(K:PV->Prop):Prop:=
 match op with
 | .add=>a.length+b.length<9223372036854775808/\K (.str (a++b))
 | .eql=>K (.bool (a==b))
 | .neq=>K (.bool (!(a==b)))
 | .lss=>K (.bool (kU a b))
 | .leq=>K (.bool (kU a b||a==b))
 | .gtr=>K (.bool (!(kU a b||a==b)))
 | .geq=>K (.bool (!(kU a b)))
 |_=>False
def mI(P:da)(op:ey)(T:db)(c:Bool)(H:al)(x y:AV)(K:PV->Prop):Prop:=
 match x,y with
 | .p (.int k a),.p (.int d b)=>(k=d\/op=.shl\/op=.shr)/\tt op k a b K
 | .p (.str a),.p (.str b)=>tq op a b K
 | .p (.bool a),.p (.bool b)=>uZ P T=true/\match op with
  | .eql=>K (.bool (a==b))
  | .neq=>K (.bool (!(a==b)))
  |_=>False
 | .p (.st u fs),.p (.st u' gs)=>qp P T=true/\(match gE P 9 T (.st u fs) (.st u' gs),op with
  |some r,.eql=>K (.bool r)
  |some r,.neq=>K (.bool !r)
  |_,_=>False)
 |x,y=>
  (match et P T c y with
  |some k=>(match dB H k x,op with
   |some r,.eql=>K (.bool r)
   |some r,.neq=>K (.bool !r)
   |_,_=>False)
  |none=>False)
def dH:Nat:=1073741824
def jb(H:al):AV->Option (List AV)
 | .p .aI=>some []
 | .p (.dw _ es)=>some (es.map .p)
 | .p (.seq es)=>some (es.map .p)
 | .p (.str s)=>some (s.map fun c=>.p (.int .u8 (c:Nat)))
 | .sl b az ak off len=>match H[b]? with
  |some (.arr _ d a es)=>if az=d/\ak=a/\off+len<=es.length then some ((es.drop off).take len)else none
  |_=>none
 |_=>none
def ez(H:al):AV->List (Nat×Obj)
 | .sl b _ _ _ _| .ptr b _| .cA b _ _ _ _| .map b=>match H[b]? with
  |some o=>[(b,o)]
  |none=>[]
 |_=>[]
def fZ(P:da)(ak:Nat):List AV->Prop
 |[]=>True
 |v::vs=>(aa v≠.bad/\bU P (aa v)=ak)/\fZ P ak vs
def c7(P:da)(T:db):Option Nat:=
 match P.underlying T with
 |some (.slice e)=>match P.info? e with
  |some i=>if i.bytes<32768/\0<i.size/\0<i.bytes then some i.size else none
  |none=>none
 |_=>none
def fy(P:da)(T:db):db:=
 match P.underlying T with
 |some (.slice e)=>e
 |_=>0
def jO(P:da)(X:db):Bool:=
 match P.underlying X with
 |some (.int _)=>false
 |some _=>true
 |none=>false
def gk(P:da)(T:db):AK:=if fy P T=Gl.u8 then .bytes else .grow
def qW(P:da)(T X:db)(H:al)(s x:AV)(K:aZ->Prop):Prop:=
 match c7 P T,jb H x with
 |some sz,some xs=>jO P X=true/\(cF P (fy P T)).isSome=true/\fZ P sz xs/\
  (match s with
  | .p .aI=>if xs.isEmpty then K {v:=s,ar:=ez H x}else xs.length<=dH/\K {v:=.sl H.length 0 sz 0 xs.length,ar:=ez H x,aY:=[.arr (gk P T) 0 sz xs]}
  | .p (.dw full es)=>fZ P sz (es.map .p)/\if xs.isEmpty then K {v:=s,ar:=ez H x}else full=true/\es.length+xs.length<=dH/\
   K {v:=.sl H.length 0 sz 0 (es.length+xs.length),ar:=ez H x,aY:=[.arr (gk P T) 0 sz (es.map .p++xs)]}
  | .sl b az ak off len=>match H[b]? with
   |some (.arr k c a es)=>az=c/\ak=a/\ak=sz/\off+len<=es.length/\
    if xs.isEmpty then K {v:=s,ar:=(b,.arr k c a es)::ez H x}
    else es.length+xs.length<=dH/\(match k with
     | .frozen=>False
     | .exact=>if off+len+xs.length<=es.length then
      K {v:=.sl b az ak off (len+xs.length),ar:=(b,.arr k c a es)::ez H x,aM:=[(b,.arr .exact az ak (es.take (off+len)++xs++es.drop (off+len+xs.length)))]}
      else K {v:=.sl H.length 0 sz 0 (len+xs.length),ar:=(b,.arr k c a es)::ez H x,aY:=[.arr (gk P T) 0 sz ((es.drop off).take len++xs)]}
     |_=>off=0/\(k=.bytes->fy P T=Gl.u8)/\K {v:=.sl b (az+1) ak 0 (len+xs.length),ar:=(b,.arr k c a es)::ez H x,aM:=[(b,.arr k (az+1) ak (es.take len++xs))]})
   |_=>False
  |_=>False)
 |_,_=>False
def iO(x:Option AV)(d:Nat)(K:Nat->Prop):Prop:=
 match x with
 |none=>K d
 |some (.p (.int _ i))=>0<=i/\K i.toNat
 |_=>False
def rh(P:da)(T:db)(H:al)(x:AV)(lo hi d:Option AV)(K:aZ->Prop):Prop:=
 d.isNone/\match x with
 | .p (.str s)=>jM P T=true/\iO hi s.length fun h=>iO lo 0 fun l=>h<=s.length/\l<=h/\K {v:=.p (.str ((s.take h).drop l))}
 | .p .aI=>(c7 P T).isSome=true/\iO hi 0 fun h=>iO lo 0 fun l=>h<=0/\l<=h/\K {v:=x}
 | .p (.dw full es)=>iO hi es.length fun h=>iO lo 0 fun l=>h<=es.length/\l<=h/\
  (match c7 P T with
  |some sz=>fZ P sz (es.map .p)/\K {v:=.p (.dw (full&&h==es.length) ((es.take h).drop l))}
  |none=>False)
 | .p (.seq es)=>iO hi es.length fun h=>iO lo 0 fun l=>h<=es.length/\l<=h/\
  (match c7 P T with
  |some sz=>fZ P sz (es.map .p)/\K {v:=.p (.seq ((es.take h).drop l))}
  |none=>False)
 | .sl b az ak off len=>match H[b]? with
  |some (.arr k c a es)=>az=c/\ak=a/\c7 P T=some ak/\¬(k.gr=true/\es=[])/\off+len<=es.length/\
   iO hi len fun h=>iO lo 0 fun l=>off+h<=es.length/\l<=h/\
    (if l=0 then K {v:=.sl b az ak off h,ar:=[(b,.arr k c a es)]}
    else if l=h then K {v:=.p (.dw false []),ar:=[(b,.arr k c a es)]}
    else K {v:=.sl b az ak (off+l) (h-l),ar:=[(b,.arr k c a es)]})
  |_=>False
 |_=>False
def uI(P:da)(T:db)(H:al)(x:AV)(lo hi:Option AV)(m:AV)(K:aZ->Prop):Prop:=
 match x with
 | .sl b az ak off len=>match H[b]? with
  |some (.arr k c a es)=>az=c/\ak=a/\(c7 P T).isSome=true/\¬(k.gr=true/\es=[])/\off+len<=es.length/\hi.isSome=true/\
   iO hi len fun h=>iO lo 0 fun l=>iO (some m) 0 fun m=>off+m<=es.length/\h<=m/\l<=h/\K {v:=.p .undef,ar:=[(b,.arr k c a es)]}
  |_=>False
 |_=>False
def pA(P:da)(T:db)(x k:PV):Option Bool:=match x with
 | .st u fs=>match gE P 9 T (.st u fs) k,kz (.st u fs) k with
  |some a,some b=>bif a==b then some a else none
  |_,_=>none
 |x=>kz x k
def gp(P:da)(T:db):List (PV×PV)->PV->Option (Option PV)
 |[],_=>some none
 |(k,v)::r,x=>match pA P T x k with
  |some true=>some (some v)
  |some false=>gp P T r x
  |none=>none
def oO(P:da)(T:db)(a:List (PV×PV))(x:PV):Option (Option PV):=match x with
 | .st u fs=>match gp P T a (.st u fs)with
  |some none=>some none
  |_=>none
 |x=>gp P T a x
def nq:PV->Bool
 | .st _ _=>false
 |_=>true
def lB(P:da)(T:db):List PV->List AV->PV->Option (Option AV)
 |[],[],_=>some none
 |k::ks,v::vs,x=>match pA P T x k with
  |some true=>some (some v)
  |some false=>lB P T ks vs x
  |none=>none
 |_,_,_=>none
def sf:Obj->Option (List PV×List AV)
 | .map false es=>some (es.map (·.1),es.map fun e=>.p e.2)
 | .dF ks vs=>some (ks,vs)
 |_=>none
def gI:List (PV×PV)->PV->PV->List (PV×PV)
 |[],k,v=>[(k,v)]
 |(a,v')::r,k,v=>if kz k a=some true then(k,v)::r else(a,v')::gI r k v
def xN(P:da)(T:db):Bool:=match P.underlying T with
 |some (.int _)|some .string|some .bool=>true
 |_=>false
def fY(P:da)(T:db):PV->Bool
 | .int k _=>match P.underlying T with
  |some (.int a)=>decide (k=a)
  |_=>false
 | .str _=>jM P T
 | .st u fs=>match P.underlying T with
  |some (.struct cm)=>cm.toList.all (fun f=>f.name != "_" &&xN P f.type)&&(gE P 9 T (.st u fs) (.st u fs)).isSome
  |_=>false
 |_=>false
def ld(P:da)(T:db):Option (db×db):=
 match P.underlying T with
 |some (.map k e)=>some (k,e)
 |_=>none
def lenOf(H:al):AV->Option (Nat×List (Nat×Obj))
 | .p (.str s)=>some (s.length,[])
 | .p .aI| .p .gu=>some (0,[])
 | .p (.dw _ es)| .p (.seq es)=>some (es.length,[])
 | .p (.fu es)=>some (es.length,[])
 | .sl b az ak _off len=>match H[b]? with
  |some (.arr k c a es)=>if az=c/\ak=a then some (len,[(b,.arr k c a es)])else none
  |_=>none
 | .map b=>match H[b]? with
  |some (.map fz es)=>some (es.length,[(b,.map fz es)])
  |_=>none
 |_=>none
def jj(P:da)(T:db):AV->Bool
 | .p (.str _)=>jM P T
 | .p .aI| .p (.dw _ _)| .p (.seq _)| .sl ..=>match P.underlying T with
  |some (.slice _)=>true
  |_=>false
 | .p .gu| .p (.fu _)| .map _=>match P.underlying T with
  |some (.map _ _)=>true
  |_=>false
 |_=>false
def D0(H:al):AV->Option (Nat×List (Nat×Obj))
 | .p .aI=>some (0,[])
 | .p (.dw true es)=>some (es.length,[])
 | .sl b az ak off _len=>match H[b]? with
  |some (.arr .exact c a es)=>if az=c/\ak=a/\off<=es.length then some (es.length-off,[(b,.arr .exact c a es)])else none
  |_=>none
 |_=>none
def bytesOf:List AV->Option (List Nat)
 |[]=>some []
 | .p (.int .u8 c)::r=>if 0<=c/\c<256 then match bytesOf r with
  |some l=>some (c.toNat::l)
  |none=>none
  else none
 |_=>none
def ptrTo(P:da)(T:db):Option db:=
 match P.underlying T with
 |some (.pointer e)=>some e
 |_=>none
def oh(k:ei)(c:Bool):List AV->Int->Option Int
 |[],a=>some a
 | .p (.int d b)::r,a=>if k=d then oh k c r (if c then(if b>a then b else a)else(if b<a then b else a))else none
 |_,_=>none
def jK(a:List AV):List (Nat×AV)->List AV
 |[]=>a
 |(i,v)::r=>jK (a.set i v) r
def n9(P:da)(l:List Nat):List (Nat×AV)->Prop
 |[]=>True
 |(i,v)::r=>(∃n,l[i]?=some n/\bU P (aa v)=n/\aa v≠.bad)/\n9 P l r
def gO(H:al):List AV->Option (List PV×List (Nat×Obj)×List (Nat×Obj))
 |[]=>some ([],[],[])
 | .p v::r=>match gO H r with
  |some (a,ar,aM)=>some (v::a,ar,aM)
  |none=>none
 | .ptr b []::r=>match H[b]?,gO H r with
  |some (.box fz (.p t)),some (a,ar,aM)=>some (.cM t::a,(b,.box fz (.p t))::ar,(b,.box true (.p t))::aM)
  |_,_=>none
 |_=>none
def rB(P:da)(T:db)(H:al)(a:AV)(K:aZ->Prop):Prop:=
 match a with
 | .ptr b path=>match H[b]? with
  |some (.box fz t)=>match fX t path with
   |some s=>kindOf P T=aa s/\K {v:=s,ar:=[(b,.box fz t)]}
   |none=>False
  |_=>False
 | .cA b az ak i path=>match H[b]? with
  |some (.arr k d c es)=>az=d/\ak=c/\∃h:i<es.length,match fX (es[i]'h) path with
   |some s=>kindOf P T=aa s/\K {v:=s,ar:=[(b,.arr k d c es)]}
   |none=>False
  |_=>False
 | .p (.cM t)=>kindOf P T=aK t/\K {v:=.p t}
 |_=>False
def re(P:da)(T:db)(H:al)(a x:AV)(K:aZ->Prop):Prop:=
 kindOf P T=aa x/\aa x≠.bad/\match a with
 | .ptr b path=>match H[b]? with
  |some (.box false t)=>match fX t path,ia t path x with
   |some s,some d=>aa s=aa x/\K {v:=.p (.aC []),ar:=[(b,.box false t)],aM:=[(b,.box false d)]}
   |_,_=>False
  |_=>False
 | .cA b az ak i path=>match H[b]? with
  |some (.arr k e c es)=>az=e/\ak=c/\k≠.frozen/\∃h:i<es.length,match fX (es[i]'h) path,ia (es[i]'h) path x with
   |some s,some d=>aa s=aa x/\K {v:=.p (.aC []),ar:=[(b,.arr k e c es)],aM:=[(b,.arr k e c (es.set i d))]}
   |_,_=>False
  |_=>False
 |_=>False
def pO(P:da)(a:db)(b:Nat)(key:PV)(x:AV)(o:Obj)(K:aZ->Prop):Prop:=match sf o with
 |some (ks,vs)=>nq key=true/\lB P a ks vs key=some none/\K {v:=.p (.aC []),ar:=[(b,o)],aM:=[(b,.dF (ks++[key]) (vs++[x]))]}
 |none=>False
def fB(P:da)(T:db):Option (db×Nat):=
 match kindOf P T,P.underlying T with
 | .agg u,some (.struct fs)=>some (u,fs.size)
 |_,_=>none
def jr(P:da)(T:db):Option (db×Nat):=
 match kindOf P T,P.underlying T with
 | .agg u,some (.array n _)=>some (u,n)
 |_,_=>none
def qU(P:da)(T:db)(a:AV)(f:Nat)(K:aZ->Prop):Prop:=
 match fB P T with
 |some (u,n)=>f<n/\(match a with
  | .ptr b path=>K {v:=.ptr b (path++[(u,f)])}
  | .cA b az ak i path=>K {v:=.cA b az ak i (path++[(u,f)])}
  | .p (.cM t)=>aK t=.agg u/\(match(cm t)[f]? with
   |some g=>K {v:=.p (.cM g)}
   |none=>False)
  |_=>False)
 |_=>False
def qS(P:da)(T:db)(H:al)(x i:AV)(K:aZ->Prop):Prop:=
 match i with
 | .p (.int _ i)=>0<=i/\(match x with
  | .p (.dw _ es)=>∃h:i.toNat<es.length,c7 P T=some (bU P (aK (es[i.toNat]'h)))/\K {v:=.p (.cM (es[i.toNat]'h))}
  | .p (.seq es)=>∃h:i.toNat<es.length,c7 P T=some (bU P (aK (es[i.toNat]'h)))/\K {v:=.p (.cM (es[i.toNat]'h))}
  | .sl b az ak off len=>c7 P T=some ak/\i.toNat<len/\(match H[b]? with
   |some (.arr k c a es)=>az=c/\ak=a/\¬(k.gr=true/\es=[])/\K {v:=.cA b az ak (off+i.toNat) [],ar:=[(b,.arr k c a es)]}
   |_=>False)
  | .ptr b path=>(match jr P T with
   |some (u,n)=>i.toNat<n/\K {v:=.ptr b (path++[(u,i.toNat)])}
   |_=>False)
  | .cA b az ak j path=>(match jr P T with
   |some (u,n)=>i.toNat<n/\K {v:=.cA b az ak j (path++[(u,i.toNat)])}
   |_=>False)
  | .p (.cM t)=>(match jr P T with
   |some (u,n)=>aK t=.agg u/\i.toNat<n/\(match(cm t)[i.toNat]? with
    |some g=>K {v:=.p (.cM g)}
    |none=>False)
   |_=>False)
  |_=>False)
 |_=>False
def gJ(P:da)(ah:dx->Bool)(o:Oper)(ρ:dl->AV)(H:al)(K:aZ->Prop):Prop:=
 match o.op with
 | .move x| .assign x=>K {v:=ρ x}
 | .pick c a b=>match ρ c with
  | .p (.bool t)=>K {v:=if t then ρ a else ρ b}
  |_=>False
 | .alloc T=>match cF P T with
  |some z=>kindOf P T=aK z/\aK z≠.bad/\lj T (aK z)=true/\K {v:=.ptr H.length [],aY:=[.box false (.p z)]}
  |none=>False
 | .box T x=>kindOf P T=aa (ρ x)/\aa (ρ x)≠.bad/\lj T (aa (ρ x))=true/\K {v:=.ptr H.length [],aY:=[.box false (ρ x)]}
 | .build T parts=>match kindOf P T,cF P T with
  | .agg u,some z=>(match dS P u with
   |some l=>aK z=.agg u/\n9 P l (parts.toList.map fun(i,x)=>(i,ρ x))/\K {v:=jv u (jK ((cm z).map .p) (parts.toList.map fun(i,x)=>(i,ρ x)))}
   |none=>False)
  |_,_=>False
 | .buildSlice T n parts=>match c7 P T,cF P (fy P T)with
  |some sz,some z=>bU P (aK z)=sz/\n*sz<=1000000/\n9 P (hw n sz) (parts.toList.map fun(i,x)=>(i,ρ x))/\
   K {v:=.sl H.length 0 sz 0 n,aY:=[.arr .exact 0 sz (jK (hw n (.p z)) (parts.toList.map fun(i,x)=>(i,ρ x)))]}
  |_,_=>False
 | .load T a=>rB P T H (ρ a) K
 | .store T a x=>re P T H (ρ a) (ρ x) K
 | .binOp op T x y _=>mI P op T (pC y) H (ρ x) (ρ y) (fun v=>K {v:=.p v,ar:=ez H (ρ x)})
 | .unOp op _ x=>match op,ρ x with
  | .not,.p (.bool b)=>K {v:=.p (.bool (!b))}
  | .neg,.p (.int k n)=>K {v:=.p (.int k (k.wrap (0-n)))}
  | .xor,.p (.int k n)=>K {v:=.p (.int k (k.wrap (cx k.bits (if k.signed then -1 else k.max)^^^cx k.bits n).toNat))}
  |_,_=>False
 | .convert S D x=>match P.underlying S,P.underlying D,ρ x with
  |some _,some (.int k),.p (.int _ n)=>K {v:=.p (.int k (k.wrap n))}
  |some _,some .string,.p (.str s)=>K {v:=.p (.str s)}
  |some (.slice e),some .string,.sl b az ak off len=>(match H[b]? with
   |some (.arr k q j es)=>az=q/\ak=j/\ak=1/\P.underlying e=some (.int .u8)/\0<len/\off+len<=es.length/\(match bytesOf ((es.drop off).take len)with
    |some l=>K {v:=.p (.str l),ar:=[(b,.arr k q j es)]}
    |none=>False)
   |_=>False)
  |_,_,_=>False
 | .extract t i=>match ρ t with
  | .p (.aC vs)=>(match vs[i]? with
   |some v=>K {v:=.p v}
   |none=>False)
  | .aC vs=>(match vs[i]? with
   |some v=>K {v}
   |none=>False)
  |_=>False
 | .fieldAddr T a f=>qU P T (ρ a) f K
 | .indexAddr T x i=>qS P T H (ρ x) (ρ i) K
 | .field T x f=>match kindOf P T,P.underlying T,ρ x with
  | .agg u,some (.struct _),.p t=>aK t=.agg u/\(match(cm t)[f]?,(lD P u)[f]? with
   |some g,some F=>kindOf P F=aK g/\K {v:=.p g}
   |_,_=>False)
  |_,_,_=>False
 | .index T x i=>match ρ x,ρ i with
  | .p (.str s),.p (.int _ i)=>jM P T=true/\0<=i/\∃h:i.toNat<s.length,K {v:=.p (.int .u8 (s[i.toNat]'h))}
  | .p (.st u es),.p (.int _ i)=>(match jr P T,(lD P u)[i.toNat]?,es[i.toNat]? with
   |some (u',n),some F,some g=>u'=u/\0<=i/\i.toNat<n/\kindOf P F=aK g/\K {v:=.p g}
   |_,_,_=>False)
  |_,_=>False
 | .makeFunc (.func f) fi ca=>if ah f then(match gO H (fi.toList.map ρ),gO H (ca.toList.map ρ)with
   |some (a,[],[]),some (b,ar,aM)=>K {v:=.p (.func f a b),ar,aM}
   |_,_=>False)
  else match fq (fi.toList.map ρ),fq (ca.toList.map ρ)with
   |some a,some b=>K {v:=.p (.func f a b)}
   |_,_=>K {v:=.func f (fi.toList.map ρ) (ca.toList.map ρ)}
 | .makeSlice T l c=>match c7 P T,cF P (fy P T),ρ l,ρ c with
  |some sz,some z,.p (.int .i64 l),.p (.int .i64 c)=>bU P (aK z)=sz/\0<=l/\l=c/\l<=dH/\K {v:=.sl H.length 0 sz 0 l.toNat,aY:=[.arr .exact 0 sz (hw l.toNat (.p z))]}
  |_,_,_,_=>False
 | .slice T x lo hi A=>match A with
  |none=>rh P T H (ρ x) (lo.map ρ) (hi.map ρ) none K
  |some m=>uI P T H (ρ x) (lo.map ρ) (hi.map ρ) (ρ m) K
 | .makeMap _ none=>K {v:=.map H.length,aY:=[.map false []]}
 | .lookup T x i ok=>match ld P T,ρ i with
  |some (w,E),.p key=>(match cF P E with
   |some z=>fY P w key=true/\(match ρ x with
    | .p .gu=>K {v:=.p (if ok then .aC [z,.bool false]else z)}
    | .p (.fu es)=>(match gp P w es key with
     |some (some v)=>K {v:=.p (if ok then .aC [v,.bool true]else v)}
     |some none=>K {v:=.p (if ok then .aC [z,.bool false]else z)}
     |none=>False)
    | .map b=>(match H[b]? with
     |some (.map fz es)=>(match gp P w es key with
      |some (some v)=>K {v:=.p (if ok then .aC [v,.bool true]else v),ar:=[(b,.map fz es)]}
      |some none=>K {v:=.p (if ok then .aC [z,.bool false]else z),ar:=[(b,.map fz es)]}
      |none=>False)
     |some (.dF ks vs)=>nq key=true/\(match lB P w ks vs key with
      |some (some v)=>K {v:=if ok then .aC [v,.p (.bool true)]else v,ar:=[(b,.dF ks vs)]}
      |some none=>K {v:=.p (if ok then .aC [z,.bool false]else z),ar:=[(b,.dF ks vs)]}
      |none=>False)
     |_=>False)
    |_=>False)
   |none=>False)
  |_,_=>False
 | .mapUpdate T m k x| .insert T m k x=>match ld P T,ρ m,ρ k,ρ x with
  |some (w,_),.map b,.p key,.p v=>fY P w key=true/\(match H[b]? with
   |some (.map false es)=>(match oO P w es key with
    |some _=>K {v:=.p (.aC []),ar:=[(b,.map false es)],aM:=[(b,.map false (gI es key v))]}
    |none=>False)
   |some (.dF ks vs)=>pO P w b key (.p v) (.dF ks vs) K
   |_=>False)
  |some (w,_),.map b,.p key,x=>fY P w key=true/\(match H[b]? with
   |some o=>pO P w b key x o K
   |none=>False)
  |_,_,_,_=>False
 | .range T x=>match ρ x with
  | .p (.str s)=>jM P T=true/\K {v:=.ptr H.length [],aY:=[.dZ s 0]}
  |_=>False
 | .next it true=>match ρ it with
  | .ptr b []=>(match H[b]? with
   |some (.dZ s pos)=>if pos<s.length then
    K {v:=.p (.aC [.bool true,.int .i64 pos,.int .i32 (Utf8.decode (iH s) pos).1]),ar:=[(b,.dZ s pos)],aM:=[(b,.dZ s (pos+(Utf8.decode (iH s) pos).2))]}
    else K {v:=.p (.aC [.bool false]),ar:=[(b,.dZ s pos)]}
   |_=>False)
  |_=>False
 | .nilCheck x=>match ρ x with
  | .ptr _ _| .cA _ _ _ _ _| .p (.cM _)=>K {v:=ρ x}
  |_=>False
 | .call c=>match c.callee with
  | .builtin b=>let args:=c.args.toList.map ρ
   let T:=c.argTypes.getD 0 0
   (match b,args with
   | .len,[x]=>(match lenOf H x with
    |some (n,ar)=>jj P T x=true/\0<c.argTypes.size/\K {v:=.p (.int .i64 n),ar}
    |none=>False)
   | .append,[s,x]=>c.argTypes.size=2/\qW P T (c.argTypes.getD 1 0) H s x K
   | .min,.p (.int k a)::r=>(match oh k false r a with
    |some n=>K {v:=.p (.int k n)}
    |none=>False)
   | .max,.p (.int k a)::r=>(match oh k true r a with
    |some n=>K {v:=.p (.int k n)}
    |none=>False)
   | .copy,[d,x]=>(match c7 P T,d,jb H x with
    |some sz,.sl b az ak off len,some xs=>ak=sz/\fZ P sz xs/\c.argTypes.size=2/\(match H[b]? with
     |some (.arr k q j es)=>az=q/\ak=j/\k≠.frozen/\off+len<=es.length/\¬(k.gr=true/\es=[])/\
      K {v:=.p (.int .i64 (min xs.length len:Nat)),ar:=(b,.arr k q j es)::ez H x,aM:=[(b,.arr k q j (es.take off++xs.take (min xs.length len)++es.drop (off+min xs.length len)))]}
     |_=>False)
    |_,_,_=>False)
   | .cap,[x]=>(match D0 H x with
    |some (n,ar)=>jj P T x=true/\0<c.argTypes.size/\K {v:=.p (.int .i64 n),ar}
    |none=>False)
   | .clear,[x]=>(match x with
    | .p .aI=>jj P T x=true/\0<c.argTypes.size/\K {v:=.p (.aC [])}
    | .sl b az ak off len=>(match c7 P T,cF P (fy P T),H[b]? with
     |some sz,some z,some (.arr k q j es)=>az=q/\ak=j/\ak=sz/\bU P (aK z)=sz/\k≠.frozen/\off+len<=es.length/\¬(k.gr=true/\es=[])/\0<c.argTypes.size/\0<len/\
      K {v:=.p (.aC []),ar:=[(b,.arr k q j es)],aM:=[(b,.arr k q j (es.take off++hw len (.p z)++es.drop (off+len)))]}
     |_,_,_=>False)
    |_=>False)
   | .unsafeSliceData,[x]=>(match x with
    | .p .aI=>K {v:=.p .eO}
    | .sl b az ak off len=>(match H[b]? with
     |some (.arr k q j es)=>az=q/\ak=j/\((k.gr=true/\es=[]/\K {v:=.p .eO,ar:=[(b,.arr k q j es)]})\/(0<len/\off+len<=es.length/\K {v:=.cA b az ak off [],ar:=[(b,.arr k q j es)]}))
     |_=>False)
    |_=>False)
   | .unsafeString,[x,.p (.int .i64 n)]=>(match x with
    | .p .eO=>n=0/\c.argTypes.size=2/\K {v:=.p (.str [])}
    | .cA b az ak i []=>(match H[b]? with
     |some (.arr .bytes q j es)=>az=q/\ak=j/\ak=1/\i=0/\0<n/\n.toNat<=es.length/\n<=9223372036854775807/\c.argTypes.size=2/\ptrTo P T=some Gl.u8/\P.cellsOf Gl.u8=1/\(match bytesOf (es.take n.toNat)with
      |some l=>K {v:=.p (.str l),ar:=[(b,.arr .bytes q j es)],aM:=[(b,.dead)]}
      |none=>False)
     |_=>False)
    |_=>False)
   |_,_=>False)
  |_=>False
 |_=>False
def newAt(a:Nat):List Obj->List (Nat×Obj)
 |[]=>[]
 |o::r=>(a,o)::newAt (a+1) r
structure ct(P:da)(ai ad:Nat->Prop)(w:dd)(β:Bd)(H:al)(aG:Nat->Prop)(w':dd)(aN:Bd)(H':al):Prop where
 cq:∀k,ad k->aG k
 fresh:∀k,aG k->ad k\/¬ai k
 ext:Ext ai ad w w'
 step:cO β H aN H'
 rel:cB P w' aG aN H' ai
 gU:∀x,aL H x->aL H' x
 loop:∀b,je H b->je H' b
def Enters(P:da)(f:dx):Prop:=∀(args:Array c9)(w:dd),(callFunc f args).run P w=.ok (.enter f args) w
def dE(P:da)(f:dx)(H:al)(args:List AV)(H':al)(v:AV):Prop:=
 Enters P f/\∀(w:dd)(ad ai:Nat->Prop)(β:Bd)(a:List c9),cB P w ad β H ai->bH P w ad β H args a->ba (aL H) args->
  eq P f a.toArray w fun e w'=>∃cv aN aG,e=.returned cv/\ct P ai ad w β H aG w' aN H'/\aB P w' aG aN H' v cv/\aF (aL H') v
def gz(P:da)(b:Nat)(H:al)(args:List AV)(H':al)(v:AV):Prop:=
 je H b/\∀(w:dd)(ad ai:Nat->Prop)(β:Bd)(c:List c9),cB P w ad β H ai->bH P w ad β H args c->ba (aL H) args->
  ∃f tmps assign body,(fl (β.au b) c.toArray).run P w=.ok (.round (β.au b) f tmps assign body) w/\
   ∀(a:dz)(d:List dz),∃cv w' aN aG,ec P (lone (e7 (β.au b) f tmps assign body .normal) (a::d) w) (lone (a.finish cv) d w')/\
    ct P ai ad w β H aG w' aN H'/\aB P w' aG aN H' v cv/\aF (aL H') v
def vM(P:da)(f:dx)(args:List AV)(base:Nat)(e:aZ):Prop:=
 Enters P f/\∀(H:al)(w:dd)(ad ai:Nat->Prop)(β:Bd)(a:List c9),cB P w ad β H ai->bH P w ad β H args a->ba (aL H) args->
  (∀p∈e.ar,H[p.1]?=some p.2)->(∀i,i<e.aY.length->H[base+i]?=some .hole)->
  eq P f a.toArray w fun x w'=>∃cv aN aG,x=.returned cv/\ct P ai ad w β H aG w' aN (bA H (e.aM++newAt base e.aY))/\
   aB P w' aG aN (bA H (e.aM++newAt base e.aY)) e.v cv/\aF (aL (bA H (e.aM++newAt base e.aY))) e.v
def rD(P:da)(b:Nat)(args:List AV)(a:Nat)(e:aZ):Prop:=
 ∀(H:al)(w:dd)(ad ai:Nat->Prop)(β:Bd)(d:List c9),cB P w ad β H ai->bH P w ad β H args d->ba (aL H) args->
  (∀p∈e.ar,H[p.1]?=some p.2)->(∀i,i<e.aY.length->H[a+i]?=some .hole)->
  je H b/\∃f tmps assign body,(fl (β.au b) d.toArray).run P w=.ok (.round (β.au b) f tmps assign body) w/\
   ∀(c:dz)(g:List dz),∃cv w' aN aG,ec P (lone (e7 (β.au b) f tmps assign body .normal) (c::g) w) (lone (c.finish cv) g w')/\
    ct P ai ad w β H aG w' aN (bA H (e.aM++newAt a e.aY))/\
    aB P w' aG aN (bA H (e.aM++newAt a e.aY)) e.v cv/\aF (aL (bA H (e.aM++newAt a e.aY))) e.v
def Ib(P:da)(f:dx)(args:List AV)(ar:List (Nat×Obj))(v:PV):Prop:=
 ∀(H:al)(w:dd)(ad ai:Nat->Prop)(β:Bd)(a:List c9),cB P w ad β H ai->bH P w ad β H args a->ba (aL H) args->(∀p∈ar,H[p.1]?=some p.2)->
  ∃cv,(callFunc f a.toArray).run P w=.ok (.value cv) w/\aE P w ad v cv
def rH(H:al)(e:aZ):Prop:=(∀p∈e.ar,H[p.1]?=some p.2)/\(∀p∈e.aM,p.1<H.length/\p.2≠.hole)
def vL(P:da)(f:dx)(args:List PV)(v:PV):Prop:=
 Enters P f/\∀(w:dd)(ad:Nat->Prop)(a:List c9),(∀k,ad k->k<w.heap.size)->p0 P w ad->bG P w ad args a->
  eq P f a.toArray w fun e w'=>∃cv,∃aG:Nat->Prop,e=.returned cv/\(∀k,ad k->aG k)/\(∀k,aG k->ad k\/w.heap.size<=k)/\(∀k,aG k->k<w'.heap.size)/\
   w.heap.size<=w'.heap.size/\(∀k,k<w.heap.size->w'.heap[k]?=w.heap[k]?)/\(w'.os=w.os/\w'.output=w.output)/\aE P w' aG v cv
def Vo(P:da)(f:dx)(args:List PV)(v:PV):Prop:=
 ∀(w:dd)(ad:Nat->Prop)(a:List c9),bG P w ad args a->∃cv,(callFunc f a.toArray).run P w=.ok (.value cv) w/\aE P w ad v cv
def aq(P:da)(f:dx)(args:List PV)(v:PV):Prop:=vL P f args v\/Vo P f args v
def mh(H:al):AV->Option (PV×al)
 | .p v=>some (v,H)
 | .sl b az ak off len=>match H[b]? with
  |some (.arr k d a es)=>
   if az=d/\ak=a/\off+len<=es.length then
    if k.gr=true/\es=[]then some (.aI,H)else
    match fq es with
    |some c=>some (.dw (k== .exact&&off+len==es.length) ((c.drop off).take len),H.set b (.arr .frozen az ak es))
    |none=>none
   else none
  |_=>none
 | .ptr b path=>match H[b]? with
  |some (.box _ (.p t))=>match ng t path with
   |some s=>some (.cM s,H.set b (.box true (.p t)))
   |none=>none
  |_=>none
 | .map b=>match H[b]? with
  |some (.map _ es)=>some (.fu es,H.set b (.map true es))
  |_=>none
 |_=>none
def pG(H:al):List AV->Option (List PV×al)
 |[]=>some ([],H)
 |x::r=>match mh H x with
  |some (v,H1)=>match pG H1 r with
   |some (vs,a)=>some (v::vs,a)
   |none=>none
  |none=>none
def jg(P:da)(draw:Bool)(f:dx)(args:List AV)(H:al)(K:AV->al->Prop):Prop:=
 (∃vs v,args=vs.map .p/\aq P f vs v/\K (.p v) H)\/
 (draw=false/\((∃vs H1 v,pG H args=some (vs,H1)/\aq P f vs v/\K (.p v) H1)\/(∃H' v,dE P f H args H' v/\K v H')\/
  (∃e,vM P f args H.length e/\rH H e/\K e.v (bA H e.aM++e.aY))\/(∃ar v,Ib P f args ar v/\(∀p∈ar,H[p.1]?=some p.2)/\K (.p v) H)))
def lO(P:da)(ah:dx->Bool)(draw:Bool)(o:Oper)(K:St->Prop)(s:St):Prop:=
 match o.op with
 | .call {callee:=.value f,args,.. }=>(match ev s.env f with
  | .p (.func g fi ca)=>jg P draw g (fi.map .p++args.toList.map (ev s.env)++ca.map .p) s.heap (fun v H'=>K ⟨put o.dst v s.env,H'⟩)
  | .func g fi ca=>jg P draw g (fi++args.toList.map (ev s.env)++ca) s.heap (fun v H'=>K ⟨put o.dst v s.env,H'⟩)
  | .map b=>∃H' v,gz P b s.heap (args.toList.map (ev s.env)) H' v/\K ⟨put o.dst v s.env,H'⟩
  |_=>False)
 |_=>gJ P ah o (ev s.env) s.heap fun e=>K (e.app o.dst s)
def guardOf(a:Array Oper)(j:Nat)(e:Env):AV:=
 match(a[j]?).bind (·.dst)with
 |some d=>aQ e d
 |none=>.p (.aC [])
def jh(P:da)(ah:dx->Bool)(draw:Bool)(a:Array Oper):List Oper->(St->Prop)->St->Prop
 |[],K,s=>K s
 |o::r,K,s=>match o.guard with
  |none=>lO P ah draw o (jh P ah draw a r K) s
  |some (j,want)=>match guardOf a j s.env with
   | .p (.bool t)=>if t=want then lO P ah draw o (jh P ah draw a r K) s else jh P ah draw a r K ⟨put o.dst (.p (.aC [])) s.env,s.heap⟩
   | .p (.aC [])=>jh P ah draw a r K ⟨put o.dst (.p (.aC [])) s.env,s.heap⟩
   |_=>False
def pf:Obj->Option Obj
 | .box _ (.p t)=>some (.box true (.p t))
 | .arr k az ak es=>if k.gr=true/\es=[]then none else match fq es with
  |some _=>some (.arr .frozen az ak es)
  |none=>none
 | .map _ es=>some (.map true es)
 |_=>none
def pF(H:al):AV->Option (PV×List Nat)
 | .p v=>some (v,[])
 | .sl b az ak off len=>match H[b]? with
  |some (.arr k d a es)=>
   if az=d/\ak=a/\off+len<=es.length then
    if k.gr=true/\es=[]then none else
    match fq es with
    |some c=>some (.dw (k== .exact&&off+len==es.length) ((c.drop off).take len),[b])
    |none=>none
   else none
  |_=>none
 | .ptr b path=>match H[b]? with
  |some (.box _ (.p t))=>match ng t path with
   |some s=>some (.cM s,[b])
   |none=>none
  |_=>none
 | .map b=>match H[b]? with
  |some (.map _ es)=>some (.fu es,[b])
  |_=>none
 |_=>none
def rC(H:al):List AV->Option (List PV×List Nat)
 |[]=>some ([],[])
 |x::r=>match pF H x,rC H r with
  |some (v,bs),some (vs,cs)=>some (v::vs,bs++cs)
  |_,_=>none
def nA(H:al):List Nat->Option (List (Nat×Obj)×List (Nat×Obj))
 |[]=>some ([],[])
 |b::r=>match H[b]?,nA H r with
  |some o,some (ar,aM)=>(match pf o with
   |some o'=>some ((b,o)::ar,(b,o')::aM)
   |none=>none)
  |_,_=>none
def jn(P:da)(f:dx)(args:List AV)(H:al)(K:aZ->Prop):Prop:=
 (∃vs v,args=vs.map .p/\aq P f vs v/\K {v:=.p v})\/
 (∃vs bs ar aM v,rC H args=some (vs,bs)/\nA H bs=some (ar,aM)/\aq P f vs v/\K {v:=.p v,ar,aM})\/
 (∃e,vM P f args H.length e/\rH H e/\K e)\/
 (∃ar v,Ib P f args ar v/\(∀p∈ar,H[p.1]?=some p.2)/\K {v:=.p v,ar})
def ln(P:da)(ah:dx->Bool)(o:Oper)(s:St)(K:aZ->Prop):Prop:=
 match o.op with
 | .call {callee:=.value f,args,.. }=>(match ev s.env f with
  | .p (.func g fi ca)=>jn P g (fi.map .p++args.toList.map (ev s.env)++ca.map .p) s.heap K
  | .func g fi ca=>jn P g (fi++args.toList.map (ev s.env)++ca) s.heap K
  | .map b=>∃e,rD P b (args.toList.map (ev s.env)) s.heap.length e/\rH s.heap e/\K e
  |_=>False)
 |_=>gJ P ah o (ev s.env) s.heap K
structure Touch where
 i:Nat
 rd:List Nat
 wr:List Nat
def rj(a:Nat):List Obj->List Nat
 |[]=>[]
 |_::r=>a::rj (a+1) r
def jd(i a:Nat)(e:aZ):Touch:=⟨i,e.ar.map (·.1),e.aM.map (·.1)++rj a e.aY⟩
def ij(i b:Nat)(e:aZ)(a:List Touch):List Touch:=
 match e.ar,e.aM,e.aY with
 |[],[],[]=>a
 |_,_,_=>jd i b e::a
def reach(a:Array Oper):Nat->Nat->Nat->Bool
 |0,_,_=>false
 |f+1,i,j=>match a[j]? with
  |some o=>o.after.toList.any (fun e=>gx .any e&&e.on==i)||o.after.toList.any (fun e=>gx .any e&&decide (i<e.on)&&reach a f i e.on)
  |none=>false
def kZ(u t:Touch):Bool:=u.wr.any (fun b=>t.rd.contains b||t.wr.contains b)||u.rd.any (fun b=>t.wr.contains b)
def jL(a:Array Oper):List Touch->Bool
 |[]=>true
 |t::r=>r.all (fun u=>!kZ u t||reach a a.size u.i t.i)&&jL a r
def iw(P:da)(ah:dx->Bool)(a:Array Oper):List Oper->Nat->List Touch->(St->Prop)->St->Prop
 |[],_,acc,K,s=>jL a acc=true/\K s
 |o::r,i,acc,K,s=>match o.guard with
  |none=>ln P ah o s fun e=>iw P ah a r (i+1) (ij i s.heap.length e acc) K (e.app o.dst s)
  |some (j,want)=>match guardOf a j s.env with
   | .p (.bool t)=>if t=want then ln P ah o s fun e=>iw P ah a r (i+1) (ij i s.heap.length e acc) K (e.app o.dst s)
    else iw P ah a r (i+1) acc K ⟨put o.dst (.p (.aC [])) s.env,s.heap⟩
   | .p (.aC [])=>iw P ah a r (i+1) acc K ⟨put o.dst (.p (.aC [])) s.env,s.heap⟩
   |_=>False
inductive bF where|normal|exit (id:Nat)|ret
mutual
def ib(T:al):PV->AV->Prop
 | .aI,x=>x=.p .aI\/match x with
  | .sl b az _ off len=>az=0/\off=0/\len=0/\∃k z,T[b]?=some (.arr k 0 z [])/\k.gr=true
  |_=>False
 | .st u fs,x=>x=.p (.st u fs)\/match x with
  | .st u' gs=>u=u'/\ni T fs gs
  |_=>False
 |v,x=>x=.p v
def ni(T:al):List PV->List AV->Prop
 |[],gs=>gs=[]
 |v::vs,gs=>match gs with
  |g::gs=>ib T v g/\ni T vs gs
  |[]=>False
end
mutual
def Gh(T:al):AV->AV->Prop
 | .p v,x=>ib T v x
 | .st u fs,x=>match x with
  | .st u' gs=>u=u'/\pJ T fs gs
  |_=>False
 |a,x=>x=a
def pJ(T:al):List AV->List AV->Prop
 |[],gs=>gs=[]
 |v::vs,gs=>match gs with
  |g::gs=>Gh T v g/\pJ T vs gs
  |[]=>False
end
structure th(s t:St):Prop where
 env:∀x,aQ t.env x=aQ s.env x\/aQ t.env x=.p .undef\/Gh t.heap (aQ s.env x) (aQ t.env x)
 heap:∀(b:Nat)(o:Obj),t.heap[b]?=some o->o=.hole\/s.heap[b]?=some o\/((s.heap[b]?=none\/s.heap[b]?=some .hole)/\∃k z,o=.arr k 0 z []/\k.gr=true)\/(∃v v',s.heap[b]?=some (.box false v)/\o=.box false v'/\Gh t.heap v v')
 iS:∀x,aF (aL t.heap) (aQ t.env x)
 hrefs:∀(b:Nat)(o:Obj),t.heap[b]?=some o->o.refs (aL t.heap)
def dJ(N:Nat)(s t:St):Prop:=t=s\/(th s t/\∀b,b<N->t.heap[b]?=s.heap[b]?)
def lJ(Q:bF->St->Prop)(j:Option Code)(s:St):Prop:=
 match j with
 |none=>Q .normal s
 |some (.exit id)=>Q (.exit id) s
 |some .ret=>Q .ret s
 |_=>False
def kV(P:da)(it:AV)(b:Nat)(H:al)(K:al->Prop):Prop:=
 match it with
 | .p (.func g fi ca)=>∃H' v,dE P g H (fi.map .p++[.map b]++ca.map .p) H' v/\K H'
 | .func g fi ca=>∃H' v,dE P g H (fi++[.map b]++ca) H' v/\K H'
 |_=>False
def jD(b:Nat)(env:Env)(Q:bF->St->Prop)(H:al):Prop:=
 match H[b]? with
 |some (.loop L)=>L.st≠.busy/\lJ Q L.pending ⟨env,H.set b (.loop {L with st:=.exhausted})⟩
 |_=>False
abbrev Cx:=Nat×Nat
def cH(P:da)(ah:dx->Bool)(q:Cx):Code->(bF->St->Prop)->St->Prop
 | .skip,Q,s| .label _,Q,s=>Q .normal s
 | .region _ ops draw,Q,s=>if draw then iw P ah ops ops.toList 0 [] (Q .normal) s else jh P ah false ops ops.toList (Q .normal) s
 | .seq a b,Q,s=>cH P ah q a (fun e s'=>match e with
  | .normal=>cH P ah q b Q s'
  |e=>Q e s') s
 | .cond c a b,Q,s=>match ev s.env c with
  | .p (.bool t)=>if t then cH P ah q a Q s else cH P ah q b Q s
  |_=>False
 | .block id b,Q,s=>cH P ah q b (fun e s'=>match e with
  | .exit i=>if i=id then Q .normal s' else Q (.exit i) s'
  |e=>Q e s') s
 | .scope b,Q,s=>cH P ah q b Q s
 | .loop b,Q,s=>∃I:Nat->St->Prop,(∃n t,dJ q.2 s t/\I n t)/\∀n t,I n t->cH P ah q b (fun e s'=>match e with
  | .normal=>∃m g,m<n/\dJ q.2 s' g/\I m g
  |e=>Q e s') t
 | .rangeFunc f h a b,Q,s=>q.2<=s.heap.length/\∃d:Env,(∀x,aQ d x=aQ s.env x)/\kV P (ev s.env f) s.heap.length (s.heap++[.loop ⟨.ready,none,q.1,h.toList,a,b,d⟩]) (jD s.heap.length s.env Q)
 | .exit id,Q,s=>Q (.exit id) s
 | .ret,Q,s=>Q .ret s
 |_,_,_=>False
def bJ(fr:dz)(t:Array c9)(ds:List dy)(todo:List Item):dz:={fr with tmps:=t,defers:=ds,todo,mode:=.run}
section
variable{P:da}{fr:dz}{t:Array c9}{ds:List dy}{k:List Item}{cs:List dz}{w:dd}
def gK(t:Array c9):dl->c9
 | .tmp x=>t.getD x undef
 | .const v=>v
 | .global g=>.pointer (some ⟨g,0,none⟩)
 | .func f=>.func (.func f) #[] #[]
theorem eval_eq(fr:dz):fr.eval=gK fr.tmps:=by funext x;cases x<;>rfl
theorem aQY:step P (lone (bJ fr t ds (.code .skip::k)) cs w)=.next (lone (bJ fr t ds k) cs w):=
 dp (by simp[stepG,ho,bJ])
theorem au1{l:Nat}:step P (lone (bJ fr t ds (.code (.label l)::k)) cs w)=.next (lone (bJ fr t ds k) cs w):=
 dp (by simp[stepG,ho,bJ])
theorem Zx{id:Nat}:step P (lone (bJ fr t ds (.inBlock id::k)) cs w)=.next (lone (bJ fr t ds k) cs w):=
 dp (by simp[stepG,ho,bJ])
theorem Zw{b:Code}:step P (lone (bJ fr t ds (.inScope b::k)) cs w)=.next (lone (bJ fr t ds k) cs w):=
 dp (by simp[stepG,ho,bJ])
theorem HO{a b:Code}:step P (lone (bJ fr t ds (.code (.seq a b)::k)) cs w)=.next (lone (bJ fr t ds (.code a::.code b::k)) cs w):=
 dp (by simp[stepG,ho,bJ])
theorem aQT{c:dl}{x y:Code}{b:Bool}(h:gK t c= .bool b):
 step P (lone (bJ fr t ds (.code (.cond c x y)::k)) cs w)=.next (lone (bJ fr t ds (.code (if b then x else y)::k)) cs w):=
 dp (by simp[stepG,ho,bJ,eval_eq,h])
theorem CS{id:Nat}{c:Code}:step P (lone (bJ fr t ds (.code (.block id c)::k)) cs w)=.next (lone (bJ fr t ds (.code c::.inBlock id::k)) cs w):=
 dp (by simp[stepG,ho,bJ])
theorem GK{c:Code}:step P (lone (bJ fr t ds (.code (.scope c)::k)) cs w)=.next (lone (bJ fr t ds (.code c::.inScope c::k)) cs w):=
 dp (by simp[stepG,ho,bJ])
theorem aQW{c:Code}:step P (lone (bJ fr t ds (.code (.loop c)::k)) cs w)=.next (lone (bJ fr t ds (.code c::.inLoop c::k)) cs w):=
 dp (by simp[stepG,ho,bJ])
theorem ZU{c:Code}:step P (lone (bJ fr t ds (.inLoop c::k)) cs w)=.next (lone (bJ fr t ds (.code c::.inLoop c::k)) cs w):=
 dp (by simp[stepG,ho,bJ])
theorem aQV{id:Nat}{a:List Item}(h:exitTo id k=some a):step P (lone (bJ fr t ds (.code (.exit id)::k)) cs w)=.next (lone (bJ fr t ds a) cs w):=
 dp (by simp[stepG,ho,bJ,h])
theorem ZT{id:Nat}{a:Array Oper}:
 step P (lone (bJ fr t ds (.code (.region id a false)::k)) cs w)=.next (lone (bJ fr t ds (.inRegion a (ik a.size)::k)) cs w):=
 dp (by simp[stepG,ho,bJ])
theorem aQU{id:Nat}{a:Array Oper}:
 step P (lone (bJ fr t ds (.code (.region id a true)::k)) cs w)=
  .next (lone (bJ fr t ds (.inRegion a (gt (P.follows .mixedOrders) a (w.tape w.drawn (.order fr.fn id)))::k)) cs {w with drawn:=w.drawn+1}):=
 dp (by simp[stepG,ho,bJ,choose,g8,Question.forced,Question.cut])
theorem MC{a:Array Oper}:step P (lone (bJ fr t ds (.inRegion a []::k)) cs w)=.next (lone (bJ fr t ds k) cs w):=
 dp (by simp[stepG,ho,bJ])
def qx(dst:Option Tmp)(v:c9)(t:Array c9):Array c9:=
 match dst with
 |some d=>t.setIfInBounds d v
 |none=>t
theorem qO{a:Array Oper}{i:Nat}{r:List Nat}{o:Oper}(c:a[i]?=some o)(v:c9):
 (bJ fr t ds (.inRegion a (i::r)::k)).finish v=bJ fr (qx o.dst v t) ds (.inRegion a r::k):=by
 cases b:o.dst<;>simp[Frame.finish,bJ,c,b,qx]
theorem Ow{a:Array Oper}{i:Nat}{r:List Nat}{o:Oper}(b:a[i]?=some o)(c:gm o (yielded a t)=false):
 step P (lone (bJ fr t ds (.inRegion a (i::r)::k)) cs w)=.next (lone (bJ fr (qx o.dst undef t) ds (.inRegion a r::k)) cs w):=by
 rw[<-qO b];exact dp (by simp only[bJ];simp[stepG,ho,b,c])
theorem Za{o:Oper}(a:∀c,o.op≠ .defer c)(r:Option Nat)(A:Nat->Call->GStep)(B:GStep):
 (match r,o.op with
  |some l,.defer c=>A l c
  |_,_=>B)=B:=by
 cases r with
 |none=>rfl
 |some l=>cases h:o.op<;>first|rfl|exact absurd h (a _)
theorem aQX{a:Array Oper}{i:Nat}{r:List Nat}{o:Oper}{fr:dz}(e:fr.todo= .inRegion a (i::r)::k)(d:a[i]?=some o)(b:∀c,o.op≠ .defer c):
 hr P true fr cs none w=hp P true fr cs none (dq (gK fr.tmps) o) w:=by
 simp only[hr,Frame.oper?,e,d,eval_eq];exact Za b _ _ _
theorem GB{f:Bool}{a:Array Oper}{i:Nat}{r:List Nat}{o:Oper}(b:a[i]?=some o)(e:gm o (yielded a t)=true)(d:∀c,o.op≠ .defer c):
 stepG P f {frame:=bJ fr t ds (.inRegion a (i::r)::k),callers:=cs,status:=.running,dying:=none} w=
  hp P true (bJ fr t ds (.inRegion a (i::r)::k)) cs none (dq (gK t) o) w:=by
 have h:=aQX (P:=P) (cs:=cs) (w:=w) (fr:=bJ fr t ds (.inRegion a (i::r)::k)) rfl b d;simp only[bJ]at h⊢;simp[stepG,ho,b,e,h]
theorem w8{a:Array Oper}{i:Nat}{r:List Nat}{o:Oper}{n:Next}{cv:c9}{w':dd}(b:a[i]?=some o)(f:gm o (yielded a t)=true)
 (d:∀c,o.op≠.defer c)(e:(dq (gK t) o).run P w=.ok n w')(hn:n=.value cv\/n=.skip/\cv=undef):
 step P (lone (bJ fr t ds (.inRegion a (i::r)::k)) cs w)=.next (lone (bJ fr (qx o.dst cv t) ds (.inRegion a r::k)) cs w'):=by
 rw[<-qO b];refine dp ?_;rw[GB b f d];rcases hn with rfl|⟨rfl,rfl⟩<;>simp[hp,e,bJ]
theorem zA{a:Array Oper}{i:Nat}{r:List Nat}{o:Oper}{f:dx}{args:Array c9}{w':dd}(d:a[i]?=some o)(g:gm o (yielded a t)=true)
 (b:∀c,o.op≠.defer c)(e:(dq (gK t) o).run P w=.ok (.enter f args) w'):
 step P (lone (bJ fr t ds (.inRegion a (i::r)::k)) cs w)=.next (lone (e8 P f args .normal) (bJ fr t ds (.inRegion a (i::r)::k)::cs) w'):=by
 refine dp ?_;rw[GB d g b];simp[hp,e,bJ]
theorem NT{a:Array Oper}{i:Nat}{r:List Nat}{o:Oper}{l:Nat}{f:dx}{tmps:Array c9}{assign body:Code}{w':dd}(d:a[i]?=some o)(g:gm o (yielded a t)=true)
 (b:∀c,o.op≠.defer c)(e:(dq (gK t) o).run P w=.ok (.round l f tmps assign body) w'):
 step P (lone (bJ fr t ds (.inRegion a (i::r)::k)) cs w)=.next (lone (e7 l f tmps assign body .normal) (bJ fr t ds (.inRegion a (i::r)::k)::cs) w'):=by
 refine dp ?_;rw[GB d g b];simp[hp,e,bJ]
end
end Go.ag
namespace Go.ag
variable[Gl]
mutual
theorem aF.mono{S T:Nat×Nat->Prop}(h:∀x,S x->T x):∀v,aF S v->aF T v
 | .p _,_=>by simp[aF]
 | .ptr b _,c| .cA b _ _ _ _,c| .sl b _ _ _ _,c| .map b,c=>by simp only[aF]at*;exact h _ c
 | .func _ a b,c=>by simp only[aF]at*;exact⟨ba.mono h a c.1,ba.mono h b c.2⟩
 | .st _ fs,c=>by simp only[aF]at*;exact ba.mono h fs c
 | .aC vs,c=>by simp only[aF]at*;exact ba.mono h vs c
theorem ba.mono{S T:Nat×Nat->Prop}(h:∀x,S x->T x):∀vs,ba S vs->ba T vs
 |[],_=>by simp[ba]
 |v::vs,c=>by simp only[ba]at*;exact⟨aF.mono h v c.1,ba.mono h vs c.2⟩
end
structure dm(P:da)(n:Nat)(ai ad:Nat->Prop)(β:Bd)(s:St)(t:Array c9)(w:dd):Prop where
 heap:cB P w ad β s.heap ai
 env:∀x,aB P w ad β s.heap (aQ s.env x) (t.getD x undef)
 iS:∀x,aF (aL s.heap) (aQ s.env x)
 size:t.size=n
structure tg(N:Nat)(β:Bd)(H:al)(aN:Bd)(H':al):Prop where
 box:∀b,b<N->aL H (b,0)->pY H' b->pY H b/\aN.au b=β.au b
 it:∀b,b<N->aL H (b,0)->pZ H' b->pZ H b/\aN.au b=β.au b
 map:∀b,b<N->aL H (b,0)->rq H' b->rq H b/\aN.au b=β.au b
 arr:∀b az ak k es,b<N->aL H (b,az)->gn H' b az ak k es->∃k0 iT,gn H b az ak k0 iT/\iT.length<=es.length/\(dM k es↔dM k0 iT)/\(¬dM k es->aN.au b=β.au b/\aN.cap b=β.cap b)
 loop:∀b,b<N->aL H (b,0)->je H' b->je H b/\aN.au b=β.au b
theorem cO.n{N:Nat}{β:Bd}{H:al}{aN:Bd}{H':al}(h:cO β H aN H'):tg N β H aN H':=
 ⟨fun b _=>h.box b,fun b _=>h.it b,fun b _=>h.map b,fun b az ak k es _=>h.arr b az ak k es,fun b _=>h.loop b⟩
theorem tg.full{β:Bd}{H:al}{aN:Bd}{H':al}(h:tg H.length β H aN H'):cO β H aN H':=by
 have lt:∀b v,aL H (b,v)->b<H.length:=fun b v⟨o,c,_⟩=>(hv.1 c).1;exact⟨fun b x=>h.box b (lt _ _ x) x,fun b x=>h.it b (lt _ _ x) x,fun b x=>h.map b (lt _ _ x) x,fun b az ak k a x=>h.arr b az ak k a (lt _ _ x) x,fun b x=>h.loop b (lt _ _ x) x⟩
theorem tg.trans{N:Nat}{β j l:Bd}{H H1 i:al}(h:tg N β H j H1)(hi:∀x,x.1<N->aL H x->aL H1 x)(g:tg N j H1 l i):tg N β H l i:=by
 refine⟨?_,?_,?_,?_,?_⟩
 ·intro b hn a f;obtain⟨c,a2⟩:=g.box b hn (hi (b,0) hn a) f;obtain⟨d,e⟩:=h.box b hn a c;exact⟨d,a2.trans e⟩
 ·intro b hn a f;obtain⟨c,a2⟩:=g.it b hn (hi (b,0) hn a) f;obtain⟨d,e⟩:=h.it b hn a c;exact⟨d,a2.trans e⟩
 ·intro b hn a f;obtain⟨c,a2⟩:=g.map b hn (hi (b,0) hn a) f;obtain⟨d,e⟩:=h.map b hn a c;exact⟨d,a2.trans e⟩
 ·intro b az ak k o hn a f;obtain⟨k1,p,c,a2,a3,a4⟩:=g.arr b az ak k o hn (hi (b,az) hn a) f;obtain⟨k0,iT,d,e,m,n⟩:=h.arr b az ak k1 p hn a c;refine⟨k0,iT,d,iB e a2,a3.trans m,fun hn=>?_⟩;obtain⟨c1,c2⟩:=a4 hn;obtain⟨d1,d2⟩:=n (fun x=>hn (a3.2 x));exact⟨c1.trans d1,c2.trans d2⟩
 ·intro b hn a f;obtain⟨c,a2⟩:=g.loop b hn (hi (b,0) hn a) f;obtain⟨d,e⟩:=h.loop b hn a c;exact⟨d,a2.trans e⟩
structure eU(N:Nat)(ai ad:Nat->Prop)(w:dd)(β:Bd)(H:al)(ml aG:Nat->Prop)(w':dd)(aN:Bd)(H':al):Prop where
 fO:∀k,ai k->ml k
 cq:∀k,ad k->aG k
 fresh:∀k,aG k->ad k\/¬ai k
 ext:Ext ai ad w w'
 step:tg N β H aN H'
 gU:∀x,x.1<N->aL H x->aL H' x
 loop:∀b,b<N->je H b->je H' b
theorem eU.refl(N:Nat)(ai ad:Nat->Prop)(w:dd)(β:Bd)(H:al):eU N ai ad w β H ai ad w β H:=
 ⟨fun _ h=>h,fun _ h=>h,fun _ h=>.inl h,Ext.refl _ _ _,(cO.refl _ _).n,fun _ _ h=>h,fun _ _ h=>h⟩
theorem Ext.trans{ai ad ml aG:Nat->Prop}{w w1 b:dd}(c:∀k,ai k->ml k)(hi:∀k,ad k->aG k)(h:Ext ai ad w w1)(a:Ext ml aG w1 b):Ext ai ad w b:=
 ⟨iB h.size a.size,fun k hk=>(a.same k (hk.imp (c k) (hi k))).trans (h.same k hk),a.io.1.trans h.io.1,a.io.2.trans h.io.2⟩
theorem eU.trans{N:Nat}{ai ad f d g e:Nat->Prop}{w w1 i:dd}{β j l:Bd}{H H1 c:al}(h:eU N ai ad w β H f d w1 j H1)(a:eU N f d w1 j H1 g e i l c):eU N ai ad w β H g e i l c:=
 ⟨fun k x=>a.fO k (h.fO k x),fun k x=>a.cq k (h.cq k x),fun k x=>(a.fresh k x).elim (fun y=>h.fresh k y) (fun y=>.inr fun z=>y (h.fO k z)),h.ext.trans h.fO h.cq a.ext,
  h.step.trans h.gU a.step,fun x hn hx=>a.gU x hn (h.gU x hn hx),fun b hn m=>a.loop b hn (h.loop b hn m)⟩
theorem ct.gq{P:da}{N:Nat}{ai ad aG:Nat->Prop}{w w':dd}{β aN:Bd}{H H':al}(h:ct P ai ad w β H aG w' aN H'):eU N ai ad w β H ai aG w' aN H':=
 ⟨fun _ x=>x,h.cq,h.fresh,h.ext,h.step.n,fun x _=>h.gU x,fun b _=>h.loop b⟩
section
variable{P:da}{ai ad aG:Nat->Prop}{w w':dd}{β aN:Bd}{H H':al}
theorem gC.CD(a:w'.heap=w.heap){b:Nat}{o:Obj}(h:gC P w ad β H ai b o)(g:o.refs (aL H)):gC P w' ad β H ai b o:=by
 have p:=fun(v:AV) cs m=>bC.mono (P:=P) (w:=w) (w':=w') (ad:=ad) (aG:=ad) (β:=β) (aN:=β) (H:=H) (H':=H) (fun _ x=>x) (fun k _=>by rw[a]) (cO.refl β H) v cs m;have q:=fun l(v:List AV) cs m=>bX.mono (P:=P) (w:=w) (w':=w') (ad:=ad) (aG:=ad) (β:=β) (aN:=β) (H:=H) (H':=H) (fun _ x=>x) (fun k _=>by rw[a]) (cO.refl β H) l v cs m;have r:=fun(i:List (PV×PV)) f=>cT.mono (P:=P) (w:=w) (w':=w') (ad:=ad) (aG:=ad) (fun _ x=>x) (fun k _=>by rw[a]) i f;cases o with
 |hole=>trivial
 |dead=>trivial
 |box fz t=>
  obtain⟨cs,T,c,d,e⟩:=h;exact⟨cs,T,by rw[a];exact c,p _ _ g d,e⟩
 |arr k az ak i=>
  rcases h with h|⟨cs,T,n,rest,c,d,e⟩
  ·exact .inl h
  ·exact .inr ⟨cs,T,n,rest,by rw[a];exact c,q _ _ _ g d,e⟩
 |map fz i=>
  obtain⟨f,clock,c,d,e⟩:=h;exact⟨f,clock,by rw[a];exact c,r _ _ d,e⟩
 |dF ks vs=>
  obtain⟨f,clock,c,d,e,j⟩:=h;exact⟨f,clock,by rw[a];exact c,bG.mono (fun _ x=>x) (fun _ _=>by rw[a]) _ _ d,bH.mono (fun _ x=>x) (fun _ _=>by rw[a]) (cO.refl _ _) _ _ g e,j⟩
 |dZ s pos=>
  obtain⟨bs,c,d⟩:=h;exact⟨bs,by rw[a];exact c,d⟩
 |loop L=>
  obtain⟨tmps,defers,fn,c,d,e,j⟩:=h;exact⟨tmps,defers,fn,by rw[a];exact c,d,fun x=>aB.mono (fun _ x=>x) (fun _ _=>by rw[a]) (cO.refl _ _) _ _ (g x) (e x),j⟩
theorem cB.CD(a:w'.heap=w.heap)(h:cB P w ad β H ai):cB P w' ad β H ai:=
 ⟨fun b o c=>(h.dj b o c).CD a (h.refs b o c),h.inj,h.refs,fun k hk=>by rw[a];exact h.cq k hk,fun k hk=>by rw[a];exact h.fO k hk,h.lr.mono (fun _ x=>x) (fun _ _=>by rw[a])⟩
theorem cB.rl(h:cB P w ad β H ai){b:Nat}{o:Obj}(f:H[b]?=some o)(d:o.live):β.au b<w.heap.size:=by
 have c:=h.dj b o f;cases o with
 |hole=>exact d.elim
 |dead=>exact d.elim
 |box fz t=>obtain⟨cs,T,a,_⟩:=c;exact(bi.1 a).1
 |arr k az ak es=>
  rcases c with c|⟨cs,T,g,rest,a,_⟩
  ·exact(d c).elim
  ·exact(bi.1 a).1
 |map fz es=>obtain⟨e,clock,a,_⟩:=c;exact(bi.1 a).1
 |dF ks vs=>obtain⟨e,clock,a,_⟩:=c;exact(bi.1 a).1
 |dZ s pos=>obtain⟨bs,a,_⟩:=c;exact(bi.1 a).1
 |loop L=>obtain⟨_,_,_,a,_⟩:=c;exact(bi.1 a).1
theorem ct.set{b:Nat}{o':Obj}(i:cB P w ad β H ai)(r:b<H.length)(n:∀x,x≠b->aN.au x=β.au x/\aN.cap x=β.cap x)
 (g:∀k,ad k->aG k)(Q:∀k,aG k->ad k\/(k=aN.au b/\o'.live))(af:∀k,aG k->k<w'.heap.size)
 (U:w.heap.size<=w'.heap.size)(J:∀k,(k≠aN.au b\/¬o'.live)->k<w.heap.size->w'.heap[k]?=w.heap[k]?)
 (F:o'.live->w.heap.size<=aN.au b\/(aN.au b=β.au b/\(∃o,H[b]?=some o/\o.live)/\((∀k,k=β.au b->w'.heap[k]?=w.heap[k]?)\/¬ad (β.au b))/\¬ai (β.au b)))
 (aO:cO β H aN (H.set b o'))(ah:gC P w' aG aN (H.set b o') ai b o')(aj:o'.refs (aL (H.set b o')))(ag:∀(o:Obj)(v:Nat),H[b]?=some o->o.has v->o'.has v)(ae:∀L,H[b]?=some (.loop L)->∃C,o'=.loop C)(ac:w'.os=w.os/\w'.output=w.output:=by exact⟨rfl,rfl⟩):
 ct P ai ad w β H aG w' aN (H.set b o'):=by
 have A:∀x o,x≠b->H[x]?=some o->o.live->¬ad (β.au x)->o'.live->β.au x≠aN.au b:=by
  intro x o hx d e j u he;rcases F u with a|⟨a,⟨al,c,f⟩,_⟩
  ·have:=i.rl d e;omega
  ·rw[a]at he;exact hx (i.inj x b o al d c e f j he)
 have S:o'.live->¬ai (aN.au b):=by
  intro e G;rcases F e with a|⟨a,_,_,c⟩
  ·have:=i.fO _ G;omega
  ·rw[a]at G;exact c G
 have l:∀k,ai k\/ad k->w'.heap[k]?=w.heap[k]?:=by
  intro k hk;have R:k<w.heap.size:=hk.elim (i.fO k) (i.cq k)
  by_cases z:k=aN.au b
  ·by_cases e:o'.live
   ·rcases hk with hk|hk
    ·exact(S e (z▸hk)).elim
    ·rcases F e with a|⟨a,_,c,_⟩
     ·omega
     ·rcases c with c|c
      ·exact c k (z.trans a)
      ·exact(c (by rw[<-a,<-z];exact hk)).elim
   ·exact J k (.inr e) R
  ·exact J k (.inl z) R
 have ar:∀x,aL H x->aL (H.set b o') x:=by
  rintro⟨x,v⟩ ⟨o,d,hn⟩
  by_cases hx:x=b
  ·subst hx;exact⟨o',by simp[hA r],ag o v d hn⟩
  ·exact⟨o,by simp only;rw[hB (i5 hx)];exact d,hn⟩
 have hrefs:∀v,aF (aL H) v->aF (aL (H.set b o')) v:=aF.mono ar;refine⟨g,fun k hk=>(Q k hk).imp id (fun(h:k=aN.au b/\o'.live)=>h.1▸S h.2),⟨U,l,ac⟩,aO,⟨?_,?_,?_,af,fun k hk=>i1 (i.fO k hk) U,i.lr.mono g (fun k hk=>l k (.inr hk))⟩,ar,?_⟩
 ·intro x o d
  by_cases hx:x=b
  ·subst hx;rw[hA r]at d;cases d;exact ah
  ·rw[hB (i5 hx)]at d;have m:=i.dj x o d;have B:=i.refs x o d;have O:=(n x hx).1;have E:=(n x hx).2;have hs:o.live->w'.heap[aN.au x]?=w.heap[β.au x]?:=by
    intro e;rw[O]
    by_cases j:ad (β.au x)
    ·exact l _ (.inr j)
    refine J _ ?_ (i.rl d e)
    by_cases u:o'.live
    ·exact .inl (A x o hx d e j u)
    ·exact .inr u
   have held:∀fz,o.live->cS ad β ai fz x->cS aG aN ai fz x:=by
    intro fz e q;unfold cS at q⊢;rw[O];cases fz with
    |true=>simp only[if_true]at q⊢;exact g _ q
    |false=>
     simp only[cy,if_false]at q⊢;refine⟨fun h=>?_,q.2⟩;rcases Q _ h with h|⟨h,u⟩
     ·exact q.1 h
     ·exact A x o hx d e q.1 u h
   cases o with
   |hole=>trivial
   |dead=>trivial
   |box fz t=>
    obtain⟨cs,T,a,c,f,p⟩:=m;exact⟨cs,T,(hs trivial).trans a,bC.mono g (fun k hk=>l k (.inr hk)) aO _ _ B c,held _ trivial f,p⟩
   |arr k az ak es=>
    rcases m with m|⟨cs,T,X,rest,a,c,f,p,Y,Z,aa,ab⟩
    ·exact .inl m
    ·by_cases e:dM k es
     ·exact .inl e
     ·refine .inr ⟨cs,T,X,rest,(hs e).trans a,bX.mono g (fun k hk=>l k (.inr hk)) aO _ _ _ B c,f,?_,?_,?_,held _ e aa,ab⟩
      ·rw[E];exact p
      ·rw[E];exact Y
      ·rw[E];exact Z
   |map fz es=>
    obtain⟨D,clock,a,c,f⟩:=m;exact⟨D,clock,(hs trivial).trans a,cT.mono g (fun k hk=>l k (.inr hk)) _ _ c,held _ trivial f⟩
   |dF ks vs=>
    obtain⟨D,clock,a,c,f,p⟩:=m;exact⟨D,clock,(hs trivial).trans a,bG.mono g (fun k hk=>l k (.inr hk)) _ _ c,bH.mono g (fun k hk=>l k (.inr hk)) aO _ _ B f,held _ trivial p⟩
   |dZ s pos=>
    obtain⟨bs,a,c,f⟩:=m;exact⟨bs,(hs trivial).trans a,c,held _ trivial f⟩
   |loop L=>
    obtain⟨tmps,defers,fn,a,c,f,p⟩:=m;exact⟨tmps,defers,fn,(hs trivial).trans a,c,fun x=>aB.mono g (fun k hk=>l k (.inr hk)) aO _ _ (B x) (f x),held _ trivial p⟩
 ·intro x y V W a c K M j he
  by_cases hx:x=b<;>by_cases hy:y=b
  ·rw[hx,hy]
  ·subst hx;rw[hA r]at a;cases a;rw[hB (i5 hy)]at c;rw[(n y hy).1]at he;exact(A y W hy c M (fun hi=>j (he▸g _ hi)) K he.symm).elim
  ·subst hy;rw[hA r]at c;cases c;rw[hB (i5 hx)]at a;rw[(n x hx).1]at he;rw[(n x hx).1]at j;exact(A x V hx a K (fun hi=>j (g _ hi)) M he).elim
  ·rw[hB (i5 hx)]at a;rw[hB (i5 hy)]at c;rw[(n x hx).1,(n y hy).1]at he;rw[(n x hx).1]at j;exact i.inj x y V W a c K M (fun hi=>j (g _ hi)) he
 ·intro x o d
  by_cases hx:x=b
  ·subst hx;rw[hA r]at d;cases d;exact aj
  ·rw[hB (i5 hx)]at d;have:=i.refs x o d;cases o with
   |box fz t=>exact hrefs _ this
   |arr k az ak es=>exact df.2 fun v I=>hrefs v (df.1 this v I)
   |dF ks vs=>exact df.2 fun v I=>hrefs v (df.1 this v I)
   |loop L=>exact fun x=>hrefs _ (this x)
   |_=>trivial
 ·rintro x ⟨L,N⟩
  by_cases hx:x=b
  ·subst hx;obtain⟨C,rfl⟩:=ae L N;exact⟨C,hA r⟩
  ·exact⟨L,by rw[hB (i5 hx)];exact N⟩
end
end Go.ag
namespace Go.ag
variable[Gl]
def bD(P:da)(o:Oper)(ρ:dl->AV)(a:Nat)(e:aZ):Prop:=
 ∀(H:al)(w:dd)(ad ai:Nat->Prop)(β:Bd)(ρc:dl->c9),
  cB P w ad β H ai->(∀x∈o.op.operands,aB P w ad β H (ρ x) (ρc x)/\aF (aL H) (ρ x))->(∀p∈e.ar,H[p.1]?=some p.2)->(∀i,i<e.aY.length->H[a+i]?=some .hole)->
  ∃n cv w' aN aG,(dq ρc o).run P w=.ok n w'/\(n=.value cv\/n=.skip/\cv=undef)/\
   ct P ai ad w β H aG w' aN (bA H (e.aM++newAt a e.aY))/\aB P w' aG aN (bA H (e.aM++newAt a e.aY)) e.v cv/\
   aF (aL (bA H (e.aM++newAt a e.aY))) e.v
section
variable{P:da}{ai ad aG:Nat->Prop}{w w':dd}{β aN:Bd}{H H':al}
theorem ct.refl(h:cB P w ad β H ai):ct P ai ad w β H ad w β H:=
 ⟨fun _ x=>x,fun _ x=>.inl x,Ext.refl _ _ _,cO.refl _ _,h,fun _ x=>x,fun _ x=>x⟩
theorem bD.same{o:Oper}{ρ:dl->AV}{b:Nat}{v:AV}{ar:List (Nat×Obj)}
 (h:∀(H:al)(w:dd)(ad ai:Nat->Prop)(β:Bd)(ρc:dl->c9),cB P w ad β H ai->(∀x∈o.op.operands,aB P w ad β H (ρ x) (ρc x)/\aF (aL H) (ρ x))->
  (∀p∈ar,H[p.1]?=some p.2)->∃cv,(dq ρc o).run P w=.ok (.value cv) w/\aB P w ad β H v cv/\aF (aL H) v):
 bD P o ρ b {v,ar}:=by
 intro H w ad ai β ρc a g f _;obtain⟨cv,c,d,e⟩:=h H w ad ai β ρc a g f;exact⟨_,cv,w,β,ad,c,.inl rfl,by simpa[newAt,bA]using ct.refl a,by simpa[newAt,bA]using d,by simpa[newAt,bA]using e⟩
theorem ct.trans{j l:Nat->Prop}{w1 m:dd}{n o:Bd}{H1 i:al}(h:ct P ai ad w β H j w1 n H1)(c:ct P ai j w1 n H1 l m o i):ct P ai ad w β H l m o i:=by
 refine⟨fun k x=>c.cq k (h.cq k x),fun k x=>(c.fresh k x).elim (h.fresh k) .inr,h.ext.trans (fun _ x=>x) h.cq c.ext,⟨?_,?_,?_,?_,?_⟩,c.rel,fun b a=>c.gU b (h.gU _ a),fun b a=>c.loop b (h.loop b a)⟩
 ·intro b a g;obtain⟨d,a2⟩:=c.step.box b (h.gU _ a) g;obtain⟨e,f⟩:=h.step.box b a d;exact⟨e,a2.trans f⟩
 ·intro b a g;obtain⟨d,a2⟩:=c.step.it b (h.gU _ a) g;obtain⟨e,f⟩:=h.step.it b a d;exact⟨e,a2.trans f⟩
 ·intro b a g;obtain⟨d,a2⟩:=c.step.map b (h.gU _ a) g;obtain⟨e,f⟩:=h.step.map b a d;exact⟨e,a2.trans f⟩
 ·intro b az ak k r a g;obtain⟨k1,s,d,a2,a3,a4⟩:=c.step.arr b az ak k r (h.gU _ a) g;obtain⟨k0,iT,e,f,p,q⟩:=h.step.arr b az ak k1 s a d;refine⟨k0,iT,e,iB f a2,a3.trans p,fun hn=>?_⟩;obtain⟨c1,c2⟩:=a4 hn;obtain⟨d1,d2⟩:=q (fun x=>hn (a3.2 x));exact⟨c1.trans d1,c2.trans d2⟩
 ·intro b a g;obtain⟨d,a2⟩:=c.step.loop b (h.gU _ a) g;obtain⟨e,f⟩:=h.step.loop b a d;exact⟨e,a2.trans f⟩
theorem zw(H:al)(l r:List (Nat×Obj)):bA H (l++r)=bA (bA H l) r:=by
 induction l generalizing H with
 |nil=>rfl
 |cons p l a=>obtain⟨b,o⟩:=p;simp[bA,a]
theorem sv(H:al)(l:List (Nat×Obj)):(bA H l).length=H.length:=by
 induction l generalizing H with
 |nil=>rfl
 |cons p l a=>obtain⟨b,o⟩:=p;simp[bA,a]
theorem Ci(H T:al)(l:List (Nat×Obj))(h:∀p∈l,p.1<H.length):bA (H++T) l=bA H l++T:=by
 induction l generalizing H with
 |nil=>rfl
 |cons p l c=>
  obtain⟨b,o⟩:=p;have a:b<H.length:=h (b,o) s_;simp only[bA];rw[List.set_append_left _ _ a,c];intro q hq;rw[h7];exact h q (by simp[hq])
theorem FW(H:al)(l:List Obj):bA (H++hw l.length .hole) (newAt H.length l)=H++l:=by
 induction l generalizing H with
 |nil=>simp[newAt,bA]
 |cons o l a=>
  simp only[newAt,bA,hR,hN];rw[h2 _ _ (ip _)];simp only[Nat.sub_self,h3];have:=a (H++[o]);simp only[hT,List.length_singleton,hG,List.singleton_append]at this;exact this
theorem nv(H:al)(m b:Nat):(H++hw m Obj.hole)[b]?=if b<H.length then H[b]? else if b<H.length+m then some .hole else none:=by
 by_cases h:b<H.length
 ·simp[h,hK]
 ·rw[hO o_];simp only[hF,h,if_false]
  by_cases a:b<H.length+m
  ·simp[a,show b-H.length<m by omega]
  ·simp[a,show¬(b-H.length<m)by omega]
theorem qN{H:al}{m b:Nat}{o:Obj}(h:(H++hw m Obj.hole)[b]?=some o):H[b]?=some o\/o=.hole:=by
 rw[nv]at h
 split at h
 ·exact .inl h
 ·split at h
  ·exact .inr (by simpa using h.symm)
  ·simp at h
theorem q8(H:al)(m:Nat)(b:Nat×Nat)(h:aL H b):aL (H++hw m Obj.hole) b:=by
 obtain⟨o,a,hn⟩:=h;have c:b.1<H.length:=(hv.1 a).1;exact⟨o,by rw[nv,if_pos c];exact a,hn⟩
theorem ur(β:Bd)(H:al)(m:Nat):cO β H β (H++hw m .hole):=by
 refine⟨?_,?_,?_,?_,?_⟩
 ·rintro b _ ⟨fz,t,h⟩;rcases qN h with h|h<;>simp_all [pY]
 ·rintro b _ ⟨fz,t,h⟩;rcases qN h with h|h<;>simp_all [pZ]
 ·rintro b _ ⟨o,h,a⟩;rcases qN h with h|rfl
  ·exact⟨⟨o,h,a⟩,rfl⟩
  ·exact a.elim
 ·intro b az ak k c _ h;rcases qN h with h|h
  ·exact⟨k,c,h,ip _,ht,fun _=>⟨rfl,rfl⟩⟩
  ·simp at h
 ·rintro b _ ⟨L,h⟩;rcases qN h with h|h<;>simp_all [je]
theorem Obj.CE{S T:Nat×Nat->Prop}(h:∀x,S x->T x):∀{o:Obj},o.refs S->o.refs T
 | .box _ t,a=>aF.mono h t a
 | .arr _ _ _ es,a=>ba.mono h es a
 | .dF _ vs,a=>ba.mono h vs a
 | .loop _L,a=>fun x=>aF.mono h _ (a x)
 | .hole,_| .dead,_| .map _ _,_| .dZ _ _,_=>trivial
theorem cB.tx(m:Nat)(h:cB P w ad β H ai):cB P w ad β (H++hw m .hole) ai:=by
 refine⟨?_,?_,?_,h.cq,h.fO,h.lr⟩
 ·intro b o d;rcases qN d with d|rfl
  ·have e:=h.dj b o d;have g:=h.refs b o d;have st:=ur β H m;cases o with
   |hole=>trivial
   |dead=>trivial
   |box fz t=>
    obtain⟨cs,T,a,c,f⟩:=e;exact⟨cs,T,a,bC.mono (fun _ x=>x) (fun _ _=>rfl) st _ _ g c,f⟩
   |arr k az ak es=>
    rcases e with e|⟨cs,T,n,rest,a,c,f⟩
    ·exact .inl e
    ·exact .inr ⟨cs,T,n,rest,a,bX.mono (fun _ x=>x) (fun _ _=>rfl) st _ _ _ g c,f⟩
   |map fz es=>exact e
   |dF ks vs=>
    obtain⟨p,clock,a,c,f,i⟩:=e;exact⟨p,clock,a,c,bH.mono (fun _ x=>x) (fun _ _=>rfl) st _ _ g f,i⟩
   |dZ s pos=>exact e
   |loop L=>
    obtain⟨tmps,defers,fn,a,c,f,i⟩:=e;exact⟨tmps,defers,fn,a,c,fun x=>aB.mono (fun _ x=>x) (fun _ _=>rfl) st _ _ (g x) (f x),i⟩
  ·trivial
 ·intro x y u v a c j l r q;rcases qN a with a|rfl
  ·rcases qN c with c|rfl
   ·exact h.inj x y u v a c j l r q
   ·exact l.elim
  ·exact j.elim
 ·intro b o d;rcases qN d with d|rfl
  ·exact Obj.CE (q8 H m) (h.refs b o d)
  ·trivial
theorem bD.use{o:Oper}{ρ:dl->AV}{e:aZ}(h:bD P o ρ H.length e){ρc:dl->c9}(j:cB P w ad β H ai)
 (a:∀x∈o.op.operands,aB P w ad β H (ρ x) (ρc x)/\aF (aL H) (ρ x))(ar:∀p∈e.ar,H[p.1]?=some p.2)(aM:∀p∈e.aM,p.1<H.length):
 ∃n cv w' aN aG,(dq ρc o).run P w=.ok n w'/\(n=.value cv\/n=.skip/\cv=undef)/\
  ct P ai ad w β H aG w' aN (bA H e.aM++e.aY)/\aB P w' aG aN (bA H e.aM++e.aY) e.v cv/\aF (aL (bA H e.aM++e.aY)) e.v:=by
 have aO:=ur β H e.aY.length;obtain⟨n,cv,w',aN,aG,l,m,c,d,f⟩:=h (H++hw e.aY.length .hole) w ad ai β ρc (j.tx _)
  (fun x hx=>⟨aB.mono (fun _ x=>x) (fun _ _=>rfl) aO _ _ (a x hx).2 (a x hx).1,aF.mono (q8 _ _) _ (a x hx).2⟩)
  (fun p r=>by have:=ar p r;rw[nv,if_pos (hv.1 this).1];exact this)
  (fun i hi=>by rw[nv,if_neg o_,if_pos o_])
 have q:bA (H++hw e.aY.length .hole) (e.aM++newAt H.length e.aY)=bA H e.aM++e.aY:=by
  rw[zw,Ci _ _ _ aM];have:=FW (bA H e.aM) e.aY
  rwa [sv]at this
 rw[q]at c d f;refine⟨n,cv,w',aN,aG,l,m,?_,d,f⟩;have k:ct P ai ad w β H ad w β (H++hw e.aY.length .hole):=⟨fun _ x=>x,fun _ x=>.inl x,Ext.refl _ _ _,aO,j.tx _,q8 _ _,fun b⟨L,g⟩=>⟨L,by rw[nv,if_pos (hv.1 g).1];exact g⟩⟩
 exact k.trans c
theorem vM.use{f:dx}{args:List AV}{e:aZ}(h:vM P f args H.length e)(l:rH H e){a:List c9}(m:cB P w ad β H ai)(q:bH P w ad β H args a)(n:ba (aL H) args):
 eq P f a.toArray w fun x w'=>∃cv aN aG,x=.returned cv/\ct P ai ad w β H aG w' aN (bA H e.aM++e.aY)/\aB P w' aG aN (bA H e.aM++e.aY) e.v cv/\aF (aL (bA H e.aM++e.aY)) e.v:=by
 have aO:=ur β H e.aY.length;refine(h.2 (H++hw e.aY.length .hole) w ad ai β a (m.tx _)
  (bH.mono (fun _ x=>x) (fun _ _=>rfl) aO _ _ n q) (ba.mono (q8 _ _) _ n)
  (fun p c=>by have:=l.1 p c;rw[nv,if_pos (hv.1 this).1];exact this)
  (fun i hi=>by rw[nv,if_neg o_,if_pos o_])).mono ?_
 rintro x w' ⟨cv,aN,aG,rfl,d,g,j⟩;have r:bA (H++hw e.aY.length .hole) (e.aM++newAt H.length e.aY)=bA H e.aM++e.aY:=by
  rw[zw,Ci _ _ _ (fun p c=>(l.2 p c).1)];have:=FW (bA H e.aM) e.aY
  rwa [sv]at this
 rw[r]at d g j;have o:ct P ai ad w β H ad w β (H++hw e.aY.length .hole):=⟨fun _ x=>x,fun _ x=>.inl x,Ext.refl _ _ _,aO,m.tx _,q8 _ _,fun b⟨L,k⟩=>⟨L,by rw[nv,if_pos (hv.1 k).1];exact k⟩⟩
 exact⟨cv,aN,aG,rfl,o.trans d,g,j⟩
end
def nX(P:da)(ah:dx->Bool):Prop:=
 ∀(o:Oper)(ρ:dl->AV)(H:al)(K:aZ->Prop),(∀v,ρ (.const v)=.p (ofConst v))->gJ P ah o ρ H K->
  ∃e,K e/\bD P o ρ H.length e/\(∀p∈e.ar,H[p.1]?=some p.2)/\(∀p∈e.aM,p.1<H.length/\p.2≠.hole)
section
variable{P:da}{ah:dx->Bool}{n:Nat}
theorem M0{w:dd}{ad:Nat->Prop}(v:c9):aE P w ad (ofConst v) v:=by
 unfold ofConst
 split<;>simp[aE]
theorem rr{ai ad:Nat->Prop}{β:Bd}{s:St}{t:Array c9}{w:dd}(h:dm P n ai ad β s t w)(x:dl):
 aB P w ad β s.heap (ev s.env x) (gK t x)/\aF (aL s.heap) (ev s.env x):=by
 cases x with
 |tmp x=>exact⟨h.env x,h.iS x⟩
 |const v=>exact⟨by simp only[ev,gK,aB];exact M0 v,by simp[ev,aF]⟩
 |global g=>exact⟨by simp only[ev,gK,aB];exact h.heap.lr.val g,by simp[ev,aF]⟩
 |func f=>exact⟨by simp[ev,gK,aB,aE,bG],by simp[ev,aF]⟩
def kr(n:Nat)(o:Oper):Bool:=
 match o.dst with
 |some d=>decide (d<n)
 |none=>true
theorem zJ(e:Env)(dst:Option Tmp)(v:AV)(x:Nat):aQ (put dst v e) x=if dst=some x then v else aQ e x:=by
 cases dst with
 |none=>simp[put]
 |some d=>
  simp only[put,aQ,i8]
  by_cases h:x=d
  ·simp[h]
  ·simp[h,i5 h]
theorem atx{n:Nat}{o:Oper}(a:kr n o=true){t:Array c9}(c:t.size=n)(v:c9)(x:Nat):(qx o.dst v t).getD x undef=if o.dst=some x then v else t.getD x undef:=by
 unfold kr at a;cases b:o.dst with
 |none=>simp[qx]
 |some d=>
  simp only[b,decide_eq_true_eq]at a;simp only[qx,i8]
  by_cases h:d=x
  ·subst h;simp[c,a]
  ·simp only[h,if_false,bo,b1 h]
theorem ast{t:Array c9}(dst:Option Tmp)(v:c9):(qx dst v t).size=t.size:=by cases dst<;>simp[qx]
theorem dm.put{ai ad aG:Nat->Prop}{β aN:Bd}{s:St}{H':al}{t:Array c9}{w w':dd}{o:Oper}{v:AV}{cv:c9}(h:dm P n ai ad β s t w)(b:kr n o=true)
 (a:ct P ai ad w β s.heap aG w' aN H')(d:aB P w' aG aN H' v cv)(c:aF (aL H') v):
 dm P n ai aG aN ⟨put o.dst v s.env,H'⟩ (qx o.dst cv t) w':=by
 refine⟨a.rel,fun x=>?_,fun x=>?_,by rw[ast];exact h.size⟩
 ·rw[zJ,atx b h.size]
  split
  ·exact d
  ·exact aB.mono a.cq (fun k hk=>a.ext.same k (.inr hk)) a.step _ _ (h.iS x) (h.env x)
 ·rw[zJ]
  split
  ·exact c
  ·exact aF.mono a.gU _ (h.iS x)
theorem OU{H T:al}{b:Nat×Nat}(h:aL H b):aL (H++T) b:=by
 obtain⟨o,a,hn⟩:=h;exact⟨o,by rw[hK (hv.1 a).1];exact a,hn⟩
theorem cB.later{ai ad aG:Nat->Prop}{w w':dd}{β:Bd}{H:al}(h:cB P w ad β H ai)(e:∀k,ad k->aG k)(hf:∀k,aG k->ad k\/w.heap.size<=k)
 (B:∀k,aG k->k<w'.heap.size)(q:w.heap.size<=w'.heap.size)(hs:∀k,k<w.heap.size->w'.heap[k]?=w.heap[k]?)(A:w'.os=w.os/\w'.output=w.output:=by exact⟨rfl,rfl⟩):ct P ai ad w β H aG w' β H:=by
 have same:∀k,ad k->w'.heap[k]?=w.heap[k]?:=fun k hk=>hs k (h.cq k hk);refine⟨e,fun k hk=>(hf k hk).imp id (fun c a=>by have:=h.fO k a;omega),⟨q,fun k hk=>hs k (hk.elim (h.fO k) (h.cq k)),A⟩,cO.refl _ _,?_,fun _ x=>x,fun _ x=>x⟩;refine⟨fun b o m=>?_,fun b b' o o' c a D E C=>h.inj b b' o o' c a D E (fun hi=>C (e _ hi)),h.refs,B,fun k hk=>i1 (h.fO k hk) q,h.lr.mono e same⟩;have f:=h.dj b o m;have n:=h.refs b o m;have held:∀fz,o.live->cS ad β ai fz b->cS aG β ai fz b:=by
  intro fz i l;have:=h.rl m i;unfold cS at l⊢;cases fz with
  |true=>exact e _ l
  |false=>exact⟨fun x=>(hf _ x).elim l.1 o_,l.2⟩
 have j:o.live->w'.heap[β.au b]?=w.heap[β.au b]?:=fun i=>hs _ (h.rl m i);cases o with
 |hole=>trivial
 |dead=>trivial
 |box fz t=>
  obtain⟨cs,T,c,a,d,g⟩:=f;exact⟨cs,T,(j trivial).trans c,bC.mono e same (cO.refl _ _) _ _ n a,held _ trivial d,g⟩
 |arr k az ak es=>
  rcases f with f|⟨cs,T,r,rest,c,a,d,g,u,v,y,z⟩
  ·exact .inl f
  ·by_cases i:dM k es
   ·exact .inl i
   ·exact .inr ⟨cs,T,r,rest,(j i).trans c,bX.mono e same (cO.refl _ _) _ _ _ n a,d,g,u,v,held _ i y,z⟩
 |map fz es=>
  obtain⟨p,clock,c,a,d⟩:=f;exact⟨p,clock,(j trivial).trans c,cT.mono e same _ _ a,held _ trivial d⟩
 |dF ks vs=>
  obtain⟨p,clock,c,a,d,g⟩:=f;exact⟨p,clock,(j trivial).trans c,bG.mono e same _ _ a,bH.mono e same (cO.refl _ _) _ _ n d,held _ trivial g⟩
 |dZ s pos=>
  obtain⟨bs,c,a,d⟩:=f;exact⟨bs,(j trivial).trans c,a,held _ trivial d⟩
 |loop L=>
  obtain⟨tmps,defers,fn,c,a,d,g⟩:=f;exact⟨tmps,defers,fn,(j trivial).trans c,a,fun x=>aB.mono e same (cO.refl _ _) _ _ (n x) (d x),held _ trivial g⟩
theorem sB{w:dd}{ad:Nat->Prop}{β:Bd}{H:al}:∀{a b:List AV}{x y:List c9},bH P w ad β H a x->bH P w ad β H b y->bH P w ad β H (a++b) (x++y)
 |[],b,x,y,h,c=>by simp only[bH]at h;subst h;simpa using c
 |v::a,b,x,y,h,c=>by
  simp only[bH]at h;obtain⟨z,f,rfl,d,e⟩:=h;simp only[hU,bH];exact⟨z,f++y,rfl,d,sB e c⟩
theorem lU{S:Nat×Nat->Prop}{a b:List AV}(h:ba S a)(d:ba S b):ba S (a++b):=by
 rw[df]at*;intro v c;rcases hS.1 c with c|c
 ·exact h v c
 ·exact d v c
theorem zN{ai ad:Nat->Prop}{β:Bd}{s:St}{t:Array c9}{w:dd}(h:dm P n ai ad β s t w):∀l:List dl,
 bH P w ad β s.heap (l.map (ev s.env)) (l.map (gK t))/\ba (aL s.heap) (l.map (ev s.env))
 |[]=>by simp[bH,ba]
 |x::l=>by
  have a:=rr h x;have b:=zN h l;simp only[hM,bH,ba];exact⟨⟨_,_,rfl,a.1,b.1⟩,a.2,b.2⟩
theorem VY{vs:List PV}{l:List AV}(h:l=vs.map .p):fq l=some vs:=by rw[h,V6]
end
section
variable{P:da}{w:dd}{ad ai:Nat->Prop}{β:Bd}{H:al}
def Bd.at(β:Bd)(b au cap:Nat):Bd:=⟨fun x=>if x=b then au else β.au x,fun x=>if x=b then cap else β.cap x⟩
theorem CK{b:Nat}(f:H[b]?=some .hole)(o':Obj)(au cap:Nat):cO β H (β.at b au cap) (H.set b o'):=by
 have a:∀{x v},aL H (x,v)->x≠b:=by
  rintro x v ⟨o,d,hn⟩ rfl;simp only at d;rw[f]at d;cases d;exact hn
 have c:∀{x v},aL H (x,v)->(H.set b o')[x]?=H[x]?:=fun hx=>hB (i5 (a hx));refine⟨?_,?_,?_,?_,?_⟩
 ·rintro x hx ⟨fz,t,h⟩;rw[c hx]at h;exact⟨⟨fz,t,h⟩,by simp[Bd.at,a hx]⟩
 ·rintro x hx ⟨fz,t,h⟩;rw[c hx]at h;exact⟨⟨fz,t,h⟩,by simp[Bd.at,a hx]⟩
 ·rintro x hx ⟨o,h,g⟩;rw[c hx]at h;exact⟨⟨o,h,g⟩,by simp[Bd.at,a hx]⟩
 ·intro x az ak k e hx h;unfold gn at h;rw[c hx]at h;exact⟨k,e,h,ip _,ht,fun _=>by simp[Bd.at,a hx]⟩
 ·rintro x hx ⟨L,h⟩;rw[c hx]at h;exact⟨⟨L,h⟩,by simp[Bd.at,a hx]⟩
theorem xt(e:cB P w ad β H ai){a:Nat}(b:H[a]?=some .hole){ob:Go.Obj}{o':Obj}{cap:Nat}
 (g:gC P {w with heap:=w.heap.push ob} ad (β.at a w.heap.size cap) (H.set a o') ai a o')(h:o'.refs (aL (H.set a o'))):
 ct P ai ad w β H ad {w with heap:=w.heap.push ob} (β.at a w.heap.size cap) (H.set a o'):=by
 refine ct.set e (hv.1 b).1 (fun x hx=>by simp[Bd.at,hx]) (fun _ x=>x) (fun _ x=>.inl x) (fun k hk=>by have:=e.cq k hk;simp;omega) s_
  (fun k _ hk=>by simp[b5,i4 hk]) (fun _=>.inl (by simp[Bd.at])) (CK b _ _ _) g h (fun i v c f=>by rw[b]at c;cases c;exact f.elim) (fun L d=>by rw[b]at d;cases d)
theorem zE(w:dd)(a:Go.Obj){k:Nat}(hk:k<w.heap.size):({w with heap:=w.heap.push a}:dd).heap[k]?=w.heap[k]?:=by
 simp[b5,i4 hk]
end
section
variable{P:da}{w:dd}{ad aG ai:Nat->Prop}{β:Bd}{H:al}
def Row(P:da)(w:dd)(ad:Nat->Prop)(β:Bd)(H:al)(ak:Nat)(a:List AV)(b:List (List c9)):Prop:=bX P w ad β H (hw a.length ak) a b
theorem jC{ak:Nat}{a:List (List c9)}:Row P w ad β H ak [] a↔a=[]:=by simp[Row,bX]
theorem uD{ak:Nat}{v:AV}{b:List AV}{a:List (List c9)}:Row P w ad β H ak (v::b) a↔∃c cs,a=c::cs/\bC P w ad β H v c/\c.length=ak/\Row P w ad β H ak b cs:=by
 simp[Row,hN,bX]
theorem nu{ak:Nat}:∀{a b:List AV}{d:List (List c9)},Row P w ad β H ak (a++b) d↔∃c1 c2,d=c1++c2/\Row P w ad β H ak a c1/\Row P w ad β H ak b c2
 |[],b,d=>by
  simp only[List.nil_append];constructor
  ·intro h;exact⟨[],d,rfl,jC.2 rfl,h⟩
  ·rintro⟨c1,c2,rfl,e,f⟩;rw[jC.1 e];simpa using f
 |v::a,b,d=>by
  simp only[hU,uD];constructor
  ·rintro⟨c,cs,rfl,e,f,g⟩;obtain⟨c1,c2,rfl,i,j⟩:=nu.1 g;exact⟨c::c1,c2,rfl,⟨c,c1,rfl,e,f,i⟩,j⟩
  ·rintro⟨c1,c2,rfl,⟨c,cs,rfl,e,f,g⟩,i⟩;exact⟨c,cs++c2,rfl,e,f,nu.2 ⟨cs,c2,rfl,g,i⟩⟩
theorem gX{ak:Nat}:∀{b:List AV}{a:List (List c9)},Row P w ad β H ak b a->a.length=b.length/\a.flatten.length=b.length*ak
 |[],a,h=>by rw[jC]at h;subst h;simp
 |v::b,a,h=>by
  rw[uD]at h;obtain⟨c,cs,rfl,f,d,e⟩:=h;have:=gX e;simp only[hR,hP,hT,this,d,i3];exact⟨trivial,o_⟩
theorem oI{ak:Nat}{a:List PV}{b:List (List c9)}:Row P w ad β H ak (a.map .p) b↔bt P w ad (hw a.length ak) a b:=by
 unfold Row;rw[List.length_map];exact qX
theorem lV{ak:Nat}{d:List AV}{e:List (List c9)}(h:Row P w ad β H ak d e)(off len:Nat)(k:off+len<=d.length):
 ∃a b c,e=a++b++c/\Row P w ad β H ak ((d.drop off).take len) b/\a.flatten.length=off*ak/\Row P w ad β H ak (d.take off) a/\Row P w ad β H ak (d.drop (off+len)) c:=by
 have e1:d=d.take off++((d.drop off).take len++d.drop (off+len)):=by
  rw[<-ih,h1,h1]
 rw[e1,nu]at h;obtain⟨a,r,rfl,f,g⟩:=h;rw[nu]at g;obtain⟨b,c,rfl,i,j⟩:=g;refine⟨a,b,c,s_,i,?_,f,j⟩;have:=(gX f).2;rw[this,List.length_take,ix o_]
theorem n6{cs:Array c9}{T:db}{fz:Nat×Nat}{au:Nat}(a:w.heap[au]?=some (.cells cs T fz)){pre xs post:List c9}(hc:cs.toList=pre++xs++post):
 jc w au pre.length xs:=by
 intro i hi;have:cs[pre.length+i]?=some xs[i]:=by
  rw[<-bv,hc,hG,hO o_];simp only[iA];rw[hK hi,hD hi]
 simp[hm,a,this]
theorem FK(a:List PV)(off len:Nat):(((a.map AV.p).drop off).take len)=((a.drop off).take len).map .p:=by
 rw[<-List.map_drop,<-List.map_take]
theorem oJ{H:al}{b:Nat}{d o:Obj}(c:H[b]?=some d)(hn:∀v,d.has v->o.has v):∀x,aL H x->aL (H.set b o) x:=by
 rintro⟨x,v⟩ ⟨e,a,h⟩
 by_cases hx:b=x
 ·subst hx;simp only at a;rw[c]at a;cases a;exact⟨o,by simp only;rw[hA (hv.1 c).1],hn v h⟩
 ·exact⟨e,by simp only;rw[hB hx];exact a,h⟩
theorem wX{b:Nat}{o o':Obj}(m:H[b]?=some o)(hk:(∃f g t,o= .box f t/\o'= .box g t)\/(∃k n v z c,o= .arr k v z c/\o'= .arr n v z c/\¬dM k c/\¬dM n c)\/(∃f g c,o= .map f c/\o'= .map g c)):
 cO β H β (H.set b o'):=by
 have u:b<H.length:=(hv.1 m).1;have i:∀x,x≠b->(H.set b o')[x]?=H[x]?:=fun x hx=>hB (i5 hx);have e:(H.set b o')[b]?=some o':=hA u;refine⟨?_,?_,?_,?_,?_⟩
 ·rintro x _ ⟨fz,t,h⟩;refine⟨?_,rfl⟩
  by_cases hx:x=b
  ·subst hx;rw[e]at h;cases h;rcases hk with⟨f,g,l,d,a⟩|⟨_,_,_,_,_,_,a,_⟩|⟨_,_,_,_,a⟩
   ·exact⟨f,l,by rw[m,d]⟩
   ·cases a
   ·cases a
  ·rw[i x hx]at h;exact⟨fz,t,h⟩
 ·rintro x _ ⟨s,p,h⟩;refine⟨?_,rfl⟩
  by_cases hx:x=b
  ·subst hx;rw[e]at h;cases h;rcases hk with⟨f,g,l,d,a⟩|⟨_,_,_,_,_,_,a,_⟩|⟨_,_,_,_,a⟩<;>cases a
  ·rw[i x hx]at h;exact⟨s,p,h⟩
 ·rintro x _ ⟨w,h,j⟩;refine⟨?_,rfl⟩
  by_cases hx:x=b
  ·subst hx;rw[e]at h;cases h;rcases hk with⟨f,g,l,d,a⟩|⟨_,_,_,_,_,_,a,_⟩|⟨f,g,c,d,a⟩
   ·rw[a]at j;exact j.elim
   ·rw[a]at j;exact j.elim
   ·exact⟨o,m,by rw[d];trivial⟩
  ·rw[i x hx]at h;exact⟨w,h,j⟩
 ·intro x az ak k c _ h
  by_cases hx:x=b
  ·subst hx;unfold gn at h⊢;rw[e]at h;cases h;rcases hk with⟨f,g,l,d,a⟩|⟨k0,n,v,z,y,d,a,q,r⟩|⟨f,g,c,d,a⟩
   ·cases a
   ·cases a;exact⟨k0,c,by rw[m,d],ip _,⟨fun x=>(r x).elim,fun x=>(q x).elim⟩,fun _=>⟨rfl,rfl⟩⟩
   ·cases a
  ·unfold gn at h⊢;rw[i x hx]at h;exact⟨k,c,h,ip _,ht,fun _=>⟨rfl,rfl⟩⟩
 ·rintro x _ ⟨L,h⟩;refine⟨?_,rfl⟩
  by_cases hx:x=b
  ·subst hx;rw[e]at h;cases h;rcases hk with⟨f,g,l,d,a⟩|⟨_,_,_,_,_,_,a,_⟩|⟨_,_,_,_,a⟩<;>cases a
  ·rw[i x hx]at h;exact⟨L,h⟩
theorem cS.xY{fz:Bool}{b:Nat}(h:cS ad β ai fz b):ad (β.au b)\/(¬ad (β.au b)/\¬ai (β.au b)):=by
 cases fz with
 |true=>exact .inl h
 |false=>exact .inr h
theorem xd(e:cB P w ad β H ai){b:Nat}{o o':Obj}(f:H[b]?=some o)(r:o.live)(O:o'.live)(A:∀v,o.has v->o'.has v)(u:∀L,o≠ .loop L)
 (aO:cO β H β (H.set b o'))(N:ad (β.au b)\/(¬ad (β.au b)/\¬ai (β.au b)))
 (aY:∀aG:Nat->Prop,(∀k,ad k->aG k)->aG (β.au b)->gC P w aG β (H.set b o') ai b o')(B:o'.refs (aL (H.set b o'))):
 ∃aG,ct P ai ad w β H aG w β (H.set b o')/\aG (β.au b):=by
 have q:b<H.length:=(hv.1 f).1
 by_cases hi:ad (β.au b)
 ·
  refine⟨ad,?_,hi⟩;have ar:=oJ f A;refine⟨fun _ x=>x,fun _ x=>.inl x,Ext.refl _ _ _,aO,⟨?_,?_,?_,e.cq,e.fO,e.lr⟩,ar,fun x⟨L,j⟩=>⟨L,by
   by_cases hx:b=x
   ·subst hx;rw[f]at j;cases j;exact(u L rfl).elim
   ·rw[hB hx];exact j⟩⟩
  ·intro x l d
   by_cases hx:x=b
   ·subst hx;rw[hA q]at d;cases d;exact aY ad (fun _ x=>x) hi
   ·rw[hB (i5 hx)]at d;have g:=e.dj x l d;have m:=e.refs x l d;cases l with
    |hole=>trivial
    |dead=>trivial
    |box fz t=>
     obtain⟨cs,T,a,c,i⟩:=g;exact⟨cs,T,a,bC.mono (fun _ x=>x) (fun _ _=>rfl) aO _ _ m c,i⟩
    |arr k az ak es=>
     rcases g with g|⟨cs,T,J,rest,a,c,i⟩
     ·exact .inl g
     ·exact .inr ⟨cs,T,J,rest,a,bX.mono (fun _ x=>x) (fun _ _=>rfl) aO _ _ _ m c,i⟩
    |map fz es=>exact g
    |dF ks vs=>
     obtain⟨K,clock,a,c,i,p⟩:=g;exact⟨K,clock,a,c,bH.mono (fun _ x=>x) (fun _ _=>rfl) aO _ _ m i,p⟩
    |dZ s pos=>exact g
    |loop L=>
     obtain⟨tmps,defers,fn,a,c,i,p⟩:=g;exact⟨tmps,defers,fn,a,c,fun x=>aB.mono (fun _ x=>x) (fun _ _=>rfl) aO _ _ (m x) (i x),p⟩
  ·intro x y D W a c S U Q M;have conv:∀(z:Nat)(n:Obj),(H.set b o')[z]?=some n->n.live->∃E:Obj,H[z]?=some E/\E.live:=by
    intro z n hz V
    by_cases C:z=b
    ·subst C;exact⟨o,f,r⟩
    ·rw[hB (i5 C)]at hz;exact⟨n,hz,V⟩
   obtain⟨F,G,c1⟩:=conv x D a S;obtain⟨a2,I,c2⟩:=conv y W c U;exact e.inj x y F a2 G I c1 c2 Q M
  ·intro x l d
   by_cases hx:x=b
   ·subst hx;rw[hA q]at d;cases d;exact B
   ·rw[hB (i5 hx)]at d;exact Obj.CE ar (e.refs x l d)
 ·refine⟨fun k=>ad k\/k=β.au b,?_,.inr rfl⟩;have R:=N.resolve_left hi;exact ct.set e q (fun _ _=>⟨rfl,rfl⟩) (fun _ x=>.inl x) (fun k hk=>hk.imp id (fun h=>⟨h,O⟩)) (fun k hk=>hk.elim (e.cq k) (fun h=>h▸e.rl f r)) (ip _)
   (fun _ _ _=>rfl) (fun _=>.inr ⟨rfl,⟨o,f,r⟩,.inl (fun _ _=>rfl),R.2⟩) aO (aY _ (fun _ x=>.inl x) (.inr rfl)) B (fun D v a c=>by rw[f]at a;cases a;exact A v c) (fun L j=>by rw[f]at j;cases j;exact(u L rfl).elim)
theorem OL{y:AV}{pv:PV}{H1:al}{v:c9}(d:mh H y=some (pv,H1))(i:cB P w ad β H ai)(f:aB P w ad β H y v)(Y:aF (aL H) y):
 ∃aG,ct P ai ad w β H aG w β H1/\aE P w aG pv v:=by
 cases y with
 |p t=>
  simp[mh]at d;obtain⟨rfl,rfl⟩:=d;exact⟨ad,ct.refl i,by simpa[aB]using f⟩
 |sl b az ak off len=>
  simp only[mh]at d
  split at d
  case h_2=>simp at d
  rename_i k Z V j g
  split at d
  case isFalse=>simp at d
  rename_i N;obtain⟨rfl,rfl,X⟩:=N;simp only[aB]at f;obtain⟨_,f⟩:=f;simp only[b7]at f;obtain⟨v1,v2,v3⟩:=f k j g
  split at d
  ·rename_i hn;simp at d;obtain⟨rfl,rfl⟩:=d;exact⟨ad,ct.refl i,by simp[aE,v2 hn]⟩
  ·rename_i hn
   split at d
   case h_2=>simp at d
   rename_i I Q;simp at d;obtain⟨rfl,rfl⟩:=d;have z:=oC Q;have D:=i.dj b _ g;rcases D with D|⟨cs,T,E,rest,n,l,r,A,K,L,M,W⟩
   ·exact(hn D).elim
   have G:¬dM .frozen j:=fun h=>by cases h.1
   have aO:cO β H β (H.set b (.arr .frozen az ak j)):=wX g (.inr (.inl ⟨_,_,_,_,_,rfl,rfl,hn,G⟩));obtain⟨aG,q,x⟩:=xd i g hn (o':=.arr .frozen az ak j) G (fun _ h=>h) (fun _ h=>by cases h) aO M.xY
    (fun aG hi u=>.inr ⟨cs,T,E,rest,n,bX.mono hi (fun _ _=>rfl) aO _ _ _ (i.refs b _ g) l,r,A,K,(fun h=>by cases h),u,fun _ e B=>(by rw[z]at B;simp at B;obtain⟨a,_,rfl⟩:=B;trivial),fun h=>by cases h⟩)
    (by rw[z];exact kj _ _)
   refine⟨aG,q,?_⟩;rw[v3 hn];have R:Row P w aG β H ak j E:=bX.mono q.cq (fun _ _=>rfl) (cO.refl _ _) _ _ _ (i.refs b _ g) l;obtain⟨a,m,c,e1,e2,e3,e4,e5⟩:=lV R off len v1;rw[z,FK,oI]at e2;have C:((I.drop off).take len).length=len:=by
    have:j.length=I.length:=by rw[z];simp
    simp;omega
   simp only[aE];refine⟨β.au b,off*ak,β.cap b-off,ak,m,e2,fun _=>x,?_,?_,?_,none,.inl rfl,?_⟩
   ·rw[<-e3];exact n6 n (post:=c.flatten++rest) (by rw[r,e1];simp)
   ·intro hf;simp at hf;rw[C,L hf.1];omega
   ·rw[C];omega
   ·rw[C]
 |ptr b path=>
  simp only[mh]at d
  split at d
  case h_2=>simp at d
  rename_i fz t g
  split at d
  case h_2=>simp at d
  rename_i s hs;simp at d;obtain⟨rfl,rfl⟩:=d;simp only[aB]at f;obtain⟨_,f⟩:=f;simp only[b7]at f;obtain⟨U,S,o,rfl,O,f⟩:=f;obtain⟨rfl,rfl⟩:=f (.inl ⟨fz,_,g⟩);obtain⟨cs,T,n,l,r,A⟩:=i.dj b _ g;have aO:cO β H β (H.set b (.box true (.p t))):=wX g (.inl ⟨_,_,_,rfl,rfl⟩);obtain⟨aG,q,x⟩:=xd i g trivial (o':=.box true (.p t)) trivial (fun _ h=>h) (fun _ h=>by cases h) aO r.xY
   (fun aG hi u=>⟨cs,T,n,bC.mono hi (fun _ _=>rfl) aO _ _ (by simp[aF]) l,u,fun _=>trivial,A.2⟩) (by simp[Obj.refs,aF])
  refine⟨aG,q,?_⟩;have J:bd P w aG t cs.toList:=by simp only[bC]at l;exact bd.mono q.cq (fun _ _=>rfl) _ _ l
  obtain⟨pre,xs,post,e1,e2,e3⟩:=CY J hs O;simp only[aE];refine⟨β.au b,S,xs,e3,x,?_,rfl⟩;rw[<-e2];exact n6 n e1
 |map b=>
  simp only[mh]at d
  split at d
  case h_2=>simp at d
  rename_i fz j g;simp at d;obtain⟨rfl,rfl⟩:=d;simp only[aB]at f;obtain⟨_,f⟩:=f;simp only[b7]at f;have f:=f.1 ⟨_,g,trivial⟩;obtain⟨F,clock,n,l,r⟩:=i.dj b _ g;have aO:cO β H β (H.set b (.map true j)):=wX g (.inr (.inr ⟨_,_,_,rfl,rfl⟩));obtain⟨aG,q,x⟩:=xd i g trivial (o':=.map true j) trivial (fun _ h=>h) (fun _ h=>by cases h) aO r.xY
   (fun aG hi u=>⟨F,clock,n,cT.mono hi (fun _ _=>rfl) _ _ l,u⟩) trivial
  refine⟨aG,q,?_⟩;simp only[aE];exact⟨β.au b,F,clock,x,n,cT.mono q.cq (fun _ _=>rfl) _ _ l,f⟩
 |cA=>simp[mh]at d
 |func=>simp[mh]at d
 |st=>simp[mh]at d
 |aC=>simp[mh]at d
end
section
variable{P:da}{ah:dx->Bool}{n N:Nat}
theorem Gj{w:dd}{β:Bd}{ai:Nat->Prop}:∀{e:List AV}{g:List PV}{H H1:al}{ad:Nat->Prop}{vs:List c9},pG H e=some (g,H1)->cB P w ad β H ai->
 bH P w ad β H e vs->ba (aL H) e->∃aG,ct P ai ad w β H aG w β H1/\bG P w aG g vs
 |[],g,H,H1,ad,vs,b,h,c,_=>by
  simp[pG]at b;obtain⟨rfl,rfl⟩:=b;simp only[bH]at c;exact⟨ad,ct.refl h,by simpa[bG]using c⟩
 |a::e,g,H,H1,ad,vs,b,h,c,f=>by
  simp only[pG]at b
  split at b
  case h_2=>simp at b
  rename_i v o j
  split at b
  case h_2=>simp at b
  rename_i r p k;simp at b;obtain⟨rfl,rfl⟩:=b;simp only[bH]at c;obtain⟨y,n,rfl,k1,k2⟩:=c;simp only[ba]at f;obtain⟨q,d,l⟩:=OL j h k1 f.1;obtain⟨i,q1,m⟩:=Gj k d.rel (bH.mono d.cq (fun _ _=>rfl) d.step _ _ f.2 k2) (ba.mono d.gU _ f.2);refine⟨i,d.trans q1,?_⟩;simp only[bG];exact⟨y,n,rfl,aE.mono q1.cq (fun _ _=>rfl) _ _ l,m⟩
def mF(P:da)(n N:Nat)(fr:dz)(k:List Item)(cs:List dz)(c:Array Oper)(ai ad:Nat->Prop)(w:dd)(β:Bd)(H:al)(m:ee)(r:List Nat)(b:List dy)(K:St->Prop):Prop:=
 ∃s' aG aN a w',K s'/\ec P m (lone (bJ fr a b (.inRegion c r::k)) cs w')/\dm P n ai aG aN s' a w'/\eU N ai ad w β H ai aG w' aN s'.heap
theorem XT{d:Bool}{o:Oper}{K:St->Prop}{s:St}(h:lO P ah d o K s)(c:Call):o.op≠.defer c:=by
 intro hc;unfold lO at h;rw[hc]at h;simp[gJ,hc]at h
variable{fr:dz}{k:List Item}{cs:List dz}{ops:Array Oper}{i:Nat}{r:List Nat}{ds:List dy}
theorem NC{d:Bool}{o:Oper}{f:dl}{E:Array dl}{Z:Array db}{g:dx}{fi ca:List AV}{K:St->Prop}{s:St}{ai ad:Nat->Prop}{β:Bd}{t:Array c9}{w:dd}
 (V:o.op=.call {callee:=.value f,args:=E,argTypes:=Z})
 (hf:(ev s.env f=.func g fi ca)\/(∃a b,ev s.env f=.p (.func g a b)/\fi=a.map .p/\ca=b.map .p))
 (h:jg P d g (fi++E.toList.map (ev s.env)++ca) s.heap (fun v H'=>K ⟨put o.dst v s.env,H'⟩))
 (m:dm P n ai ad β s t w)(F:kr n o=true)(B:ops[i]?=some o)(L:gm o (yielded ops t)=true):
 mF P n N fr k cs ops ai ad w β s.heap (lone (bJ fr t ds (.inRegion ops (i::r)::k)) cs w) r ds K:=by
 have D:=rr m f;obtain⟨u,cv,ak,aj,ah,ap,ao⟩:∃u cv:List c9,gK t f=.func (.func g) u.toArray cv.toArray/\bH P w ad β s.heap fi u/\bH P w ad β s.heap ca cv/\ba (aL s.heap) fi/\ba (aL s.heap) ca:=by
  rcases hf with hf|⟨a,b,hf,rfl,rfl⟩
  ·rw[hf]at D;simp only[aB,aF]at D;obtain⟨⟨u,cv,l,j,y⟩,ab,ac⟩:=D;exact⟨u,cv,y,l,j,ab,ac⟩
  ·rw[hf]at D;simp only[aB,aE]at D;obtain⟨⟨u,cv,l,j,y⟩,_⟩:=D;exact⟨u,cv,y,lG.2 l,lG.2 j,kj _ _,kj _ _⟩
 obtain⟨af,ag⟩:=zN m E.toList;have C:=sB (sB aj af) ah;have O:=lU (lU ap ag) ao;have q:(dq (gK t) o).run P w=(callFunc g (u++E.toList.map (gK t)++cv).toArray).run P w:=by
  simp only[dq,V,resolve,ak,eP,g0,g7,gy,invoke];congr 2;simp
 have J:∀c,o.op≠.defer c:=fun c hc=>by rw[V]at hc;cases hc
 have Y:∀(H1:al)(A:Nat->Prop)(vs:List PV)(v:PV),ct P ai ad w β s.heap A w β H1->bG P w A vs (u++E.toList.map (gK t)++cv)->aq P g vs v->
  K ⟨put o.dst (.p v) s.env,H1⟩->mF P n N fr k cs ops ai ad w β s.heap (lone (bJ fr t ds (.inRegion ops (i::r)::k)) cs w) r ds K:=by
  intro H1 A vs v z X H T;rcases H with⟨Q,H⟩|H
  ·rw[Q]at q;obtain⟨e,w',R,⟨M,aG,G,g1,g2,g3,g4,g5,aa,g6⟩,aO,U,I⟩:=H w A _ z.rel.cq z.rel.lr X (bJ fr t ds (.inRegion ops (i::r)::k)::cs);subst G;have W:=z.trans (z.rel.later g1 g2 g3 g4 g5 aa);refine⟨_,aG,β,_,w',T,?_,m.put F W (by simpa[aB]using g6) (by simp[aF]),W.gq⟩;rw[<-qO B];exact(ha (zA B L J q)).trans (hb aO (.one (ea I)))
  ·obtain⟨M,l,j⟩:=H w A _ X;rw[l]at q;exact⟨_,A,β,_,w,T,.one (w8 B L J q (.inl rfl)),m.put F z (by simpa[aB]using j) (by simp[aF]),z.gq⟩
 rcases h with⟨vs,v,l,j,y⟩|⟨_,⟨vs,H1,v,l,j,y⟩|⟨H',v,⟨Q,l⟩,j⟩|⟨e,S,an,j⟩|⟨ar,v,ae,am,j⟩⟩
 ·exact Y s.heap ad vs v (ct.refl m.heap) (by rw[l]at C;exact lG.1 C) j y
 ·obtain⟨A,au,av⟩:=Gj l m.heap C O;exact Y H1 A vs v au av j y
 ·rw[Q]at q;obtain⟨e,w',R,⟨M,aN,aG,G,g1,g2,g3⟩,aO,U,I⟩:=l w ad ai β _ m.heap C O (bJ fr t ds (.inRegion ops (i::r)::k)::cs);subst G;refine⟨_,aG,aN,_,w',j,?_,m.put F g1 g2 g3,g1.gq⟩;rw[<-qO B];exact(ha (zA B L J q)).trans (hb aO (.one (ea I)))
 ·rw[S.1]at q;obtain⟨x,w',R,⟨M,aN,aG,G,g1,g2,g3⟩,aO,U,I⟩:=S.use an m.heap C O (bJ fr t ds (.inRegion ops (i::r)::k)::cs);subst G;refine⟨_,aG,aN,_,w',j,?_,m.put F g1 g2 g3,g1.gq⟩;rw[<-qO B];exact(ha (zA B L J q)).trans (hb aO (.one (ea I)))
 ·obtain⟨M,l,y⟩:=ae s.heap w ad ai β _ m.heap C O am;rw[l]at q;have z:=ct.refl m.heap;exact⟨_,ad,β,_,w,j,.one (w8 B L J q (.inl rfl)),m.put F z (by simpa[aB]using y) (by simp[aF]),z.gq⟩
end
end Go.ag
namespace Go.ag
variable[Gl]
section
variable{P:da}{ah:dx->Bool}{n N:Nat}
variable{fr:dz}{k:List Item}{cs:List dz}{ops:Array Oper}{i:Nat}{r:List Nat}{ds:List dy}
theorem Yc{o:Oper}{f:dl}{a:Array dl}{p:Array db}{b:Nat}{H':al}{v:AV}{K:St->Prop}{s:St}{ai ad:Nat->Prop}{β:Bd}{t:Array c9}{w:dd}
 (l:o.op=.call {callee:=.value f,args:=a,argTypes:=p})(hf:ev s.env f=.map b)(m:gz P b s.heap (a.toList.map (ev s.env)) H' v)(x:K ⟨put o.dst v s.env,H'⟩)
 (d:dm P n ai ad β s t w)(A:kr n o=true)(j:ops[i]?=some o)(D:gm o (yielded ops t)=true):
 mF P n N fr k cs ops ai ad w β s.heap (lone (bJ fr t ds (.inRegion ops (i::r)::k)) cs w) r ds K:=by
 have e:=(rr d f).1;rw[hf]at e;simp only[aB,bY,b7]at e;have B:=e.2.2 m.1;obtain⟨y,z⟩:=zN d a.toList;have h:(dq (gK t) o).run P w=(fl (β.au b) (a.toList.map (gK t)).toArray).run P w:=by
  simp only[dq,l,resolve,B,eP,g0,g7,gy,invoke];congr 2;exact ck s_
 have C:∀c,o.op≠.defer c:=fun c hc=>by rw[l]at hc;cases hc
 obtain⟨g,tmps,assign,body,q,u⟩:=m.2 w ad ai β _ d.heap y z;rw[q]at h;obtain⟨cv,w',aN,aG,g1,g2,g3,g4⟩:=u (bJ fr t ds (.inRegion ops (i::r)::k)) cs;refine⟨_,aG,aN,_,w',x,?_,d.put A g2 g3 g4,g2.gq⟩;rw[<-qO j];exact(ha (NT j D C h)).trans g1
theorem Ph(y:nX P ah){d:Bool}{o:Oper}{K:St->Prop}{s:St}{ai ad:Nat->Prop}{β:Bd}{t:Array c9}{w:dd}
 (h:lO P ah d o K s)(a:dm P n ai ad β s t w)(c:kr n o=true)(j:ops[i]?=some o)(l:gm o (yielded ops t)=true):
 mF P n N fr k cs ops ai ad w β s.heap (lone (bJ fr t ds (.inRegion ops (i::r)::k)) cs w) r ds K:=by
 have E:=XT h;have z:gJ P ah o (ev s.env) s.heap (fun e=>K (e.app o.dst s))->mF P n N fr k cs ops ai ad w β s.heap (lone (bJ fr t ds (.inRegion ops (i::r)::k)) cs w) r ds K:=by
  intro h;obtain⟨e,m,hs,ar,aM⟩:=y o _ _ _ (fun v=>rfl) h;obtain⟨nx,cv,w',aN,aG,A,B,u,C,D⟩:=hs.use a.heap (fun x _=>rr a x) ar (fun p F=>(aM p F).1);exact⟨_,aG,aN,_,w',m,.one (w8 j l E A B),a.put c u C D,u.gq⟩
 unfold lO at h
 split at h
 ·rename_i f args H q
  split at h
  ·rename_i g fi ca hf;exact NC q (.inr ⟨fi,ca,hf,rfl,rfl⟩) h a c j l
  ·rename_i g fi ca hf;exact NC q (.inl hf) h a c j l
  ·rename_i b hf;obtain⟨H',v,G,m⟩:=h;exact Yc q hf G m a c j l
  ·exact h.elim
 ·exact z h
theorem mF.mono{m:ee}{K a:St->Prop}{ai ad:Nat->Prop}{w:dd}{β:Bd}{H:al}(h:mF P n N fr k cs ops ai ad w β H m r ds K)(hk:∀s,K s->a s):mF P n N fr k cs ops ai ad w β H m r ds a:=by
 obtain⟨s',aG,aN,t',w',b,c⟩:=h;exact⟨s',aG,aN,t',w',hk _ b,c⟩
theorem Ct{s:St}{ai ad:Nat->Prop}{β:Bd}{t:Array c9}{w:dd}(e:dm P n ai ad β s t w)(l:∀o∈ops.toList,kr n o=true)(j:Nat):
 (∀b,guardOf ops j s.env=.p (.bool b)->yielded ops t j=some b)/\(guardOf ops j s.env=.p (.aC [])->yielded ops t j=none):=by
 unfold guardOf yielded;cases k:ops[j]? with
 |none=>simp
 |some f=>
  simp only[i6];cases g:f.dst with
  |none=>simp
  |some d=>
   simp only[i6];have h:d<t.size:=by
    have:=l f (by rw[b0];exact b3 k);unfold kr at this;rw[g]at this;rw[e.size];simpa using this
   have a:=e.env d;have i:t[d]?=some (t.getD d undef):=by simp[ce,h]
   rw[i];constructor
   ·intro b c;rw[c]at a;simp only[aB,aE]at a;rw[a]
   ·intro c;rw[c]at a;simp only[aB,aE,bG]at a;obtain⟨xs,rfl,a⟩:=a;rw[a]
theorem Oi(f:nX P ah){d:Bool}(x:∀o∈ops.toList,kr n o=true):∀(l:List Oper)(i:Nat){K:St->Prop}{s:St}{ai ad:Nat->Prop}{β:Bd}{t:Array c9}{w:dd},
 ops.toList.drop i=l->jh P ah d ops l K s->dm P n ai ad β s t w->
 mF P n N fr k cs ops ai ad w β s.heap (lone (bJ fr t ds (.inRegion ops (hV i l.length)::k)) cs w) [] ds K
 |[],i,K,s,ai,ad,β,t,w,v,h,a=>⟨s,ad,β,t,w,h,hd _ _,a,eU.refl _ _ _ _ _ _⟩
 |o::l,i,K,s,ai,ad,β,t,w,v,h,a=>by
  have e:ops[i]?=some o:=by
   have:(ops.toList.drop i)[0]?=some o:=by rw[v];rfl
   rw[List.getElem?_drop]at this;simpa using this
  have F:ops.toList.drop (i+1)=l:=by
   rw[<-ih,v];rfl
  have u:kr n o=true:=x o (by rw[b0];exact b3 e);have g:∀{ai ad w β H}{m:ee},mF P n N fr k cs ops ai ad w β H m (hV (i+1) l.length) ds (jh P ah d ops l K)->mF P n N fr k cs ops ai ad w β H m [] ds K:=by
   intro ai ad w β H m E;obtain⟨s',aG,aN,L,w',A,B,C,D⟩:=E;obtain⟨s2,z,J,t2,I,g1,g2,g3,g4⟩:=Oi f x l (i+1) F A C;exact⟨s2,z,J,t2,I,g1,B.trans g2,g3,D.trans g4⟩
  rw[hR,List.range'_succ]
  have skip:jh P ah d ops l K ⟨put o.dst (.p (.aC [])) s.env,s.heap⟩->gm o (yielded ops t)=false->
   mF P n N fr k cs ops ai ad w β s.heap (lone (bJ fr t ds (.inRegion ops (i::hV (i+1) l.length)::k)) cs w) [] ds K:=by
   intro hk G;refine g ⟨_,ad,β,_,w,hk,.one (Ow e G),a.put u (ct.refl a.heap) (by simp[aB,aE,bG,undef]) (by simp[aF]),eU.refl _ _ _ _ _ _⟩
  simp only[jh]at h
  split at h
  ·rename_i c;exact g (Ph f h a u e (by simp[gm,c]))
  ·rename_i j M c;obtain⟨g1,g2⟩:=Ct a x j
   split at h
   ·rename_i b q;have y:=g1 b q
    split at h
    ·rename_i r;exact g (Ph f h a u e (by simp[gm,c,y,r]))
    ·rename_i r;exact skip h (by simp[gm,c,y,r])
   ·rename_i q;exact skip h (by simp[gm,c,g2 q])
   ·exact h.elim
theorem aPl{H:al}{b v:Nat}(h:H[b]?=none\/H[b]?=some .hole):¬aL H (b,v):=by
 rintro⟨o,a,c⟩;rcases h with h|h
 ·simp only at a;rw[h]at a;cases a
 ·simp only at a;rw[h]at a;cases a;exact c
theorem th.step{s s':St}{β:Bd}(hf:th s s'):cO β s.heap β s'.heap:=by
 refine⟨?_,?_,?_,?_,?_⟩
 ·rintro b _ ⟨fz,t,a⟩;rcases hf.heap b _ a with h|h|⟨_,k,z,h,_⟩|⟨v,v',h,_,_⟩
  ·cases h
  ·exact⟨⟨fz,t,h⟩,rfl⟩
  ·cases h
  ·exact⟨⟨_,_,h⟩,rfl⟩
 ·rintro b _ ⟨fz,t,a⟩;rcases hf.heap b _ a with h|h|⟨_,k,z,h,_⟩|⟨v,v',_,h,_⟩
  ·cases h
  ·exact⟨⟨fz,t,h⟩,rfl⟩
  ·cases h
  ·cases h
 ·rintro b _ ⟨o,a,c⟩;rcases hf.heap b _ a with h|h|⟨_,k,z,h,_⟩|⟨v,v',_,h,_⟩
  ·rw[h]at c;exact c.elim
  ·exact⟨⟨o,h,c⟩,rfl⟩
  ·rw[h]at c;exact c.elim
  ·rw[h]at c;exact c.elim
 ·intro b az ak k d hi a;rcases hf.heap b _ a with h|h|⟨hn,_⟩|⟨v,v',_,h,_⟩
  ·cases h
  ·exact⟨k,d,h,ip _,ht,fun _=>⟨rfl,rfl⟩⟩
  ·exact(aPl hn hi).elim
  ·cases h
 ·rintro b _ ⟨L,a⟩;rcases hf.heap b _ a with h|h|⟨_,k,z,h,_⟩|⟨v,v',_,h,_⟩
  ·cases h
  ·exact⟨⟨L,h⟩,rfl⟩
  ·cases h
  ·cases h
section aGM
variable{w:dd}{ad:Nat->Prop}{β:Bd}{T:al}
theorem SX{b az ak off len:Nat}(h:az=0/\off=0/\len=0/\∃k z,T[b]?=some (.arr k 0 z [])/\k.gr=true):bY P β T (.sl b az ak off len) (.slice none 0 0):=by
 obtain⟨rfl,rfl,rfl,k,z,c,d⟩:=h;refine⟨by simp[hg],fun f e a=>?_⟩;unfold gn at a;rw[c]at a;cases a;exact⟨s_,fun _=>rfl,fun h=>(h ⟨d,rfl⟩).elim⟩
mutual
theorem ib.cells:∀(v:PV)(x:AV)(cs:List c9),ib T v x->bd P w ad v cs->bC P w ad β T x cs
 | .aI,x,cs,h,hc=>by
  simp only[ib]at h;rcases h with rfl|h
  ·simpa only[bC]using hc
  ·cases x<;>simp only at h<;>try exact h.elim
   simp only[bd]at hc;simp only[bC];exact⟨_,hc,SX h⟩
 | .st u fs,x,cs,h,hc=>by
  simp only[ib]at h;rcases h with rfl|h
  ·simpa only[bC]using hc
  ·cases x<;>simp only at h<;>try exact h.elim
   obtain⟨rfl,h⟩:=h;simp only[bd]at hc;obtain⟨l,a,d,e,f⟩:=hc;simp only[bC];exact⟨l,a,d,ni.cells l fs _ a h e,f⟩
 | .undef,x,cs,h,hc| .bool _,x,cs,h,hc| .int _ _,x,cs,h,hc| .str _,x,cs,h,hc| .eO,x,cs,h,hc| .cM _,x,cs,h,hc| .dw _ _,x,cs,h,hc| .seq _,x,cs,h,hc| .gu,x,cs,h,hc| .fu _,x,cs,h,hc| .func _ _ _,x,cs,h,hc| .jI,x,cs,h,hc| .iG,x,cs,h,hc| .aC _,x,cs,h,hc=>by
  simp only[ib]at h;subst h;simpa only[bC]using hc
theorem ni.cells:∀(l:List Nat)(fs:List PV)(b:List AV)(a:List (List c9)),ni T fs b->bt P w ad l fs a->bX P w ad β T l b a
 |l,[],b,a,h,hc=>by
  simp only[ni]at h;subst h;cases l<;>simp_all [bX,bt]
 |l,v::vs,b,a,h,hc=>by
  cases b with
  |nil=>simp[ni]at h
  |cons g b=>
   simp only[ni]at h;cases l with
   |nil=>simp[bt]at hc
   |cons n l=>
    simp only[bt]at hc;obtain⟨c,cs,d,e,f,i⟩:=hc;simp only[bX];exact⟨c,cs,d,ib.cells v g c h.1 e,f,ni.cells l vs b cs h.2 i⟩
end
theorem ib.Jn(v:PV)(x:AV)(y:c9)(h:ib T v x)(hc:aE P w ad v y):aB P w ad β T x y:=by
 cases v
 case aI=>
  simp only[ib]at h;rcases h with rfl|h
  ·simpa only[aB]using hc
  ·cases x<;>simp only at h<;>try exact h.elim
   simp only[aE]at hc;subst hc;simp only[aB];exact SX h
 case st u fs=>
  simp only[ib]at h;rcases h with rfl|h
  ·simpa only[aB]using hc
  ·cases x<;>simp only at h<;>try exact h.elim
   obtain⟨rfl,h⟩:=h;simp only[aE]at hc;obtain⟨l,a,b,c,d⟩:=hc;simp only[aB];exact⟨l,a,b,ni.cells l fs _ a h c,d⟩
 all_goals simp only[ib]at h;subst h;simpa only[aB]using hc
mutual
theorem Gh.cells:∀(v x:AV)(cs:List c9),Gh T v x->bC P w ad β T v cs->bC P w ad β T x cs
 | .p v,x,cs,h,hc=>by simp only[Gh]at h;simp only[bC]at hc;exact ib.cells v x cs h hc
 | .st u fs,x,cs,h,hc=>by
  simp only[Gh]at h;cases x<;>simp only at h<;>try exact h.elim
  obtain⟨rfl,h⟩:=h;simp only[bC]at hc⊢;obtain⟨l,a,d,e,f⟩:=hc;exact⟨l,a,d,pJ.cells l fs _ a h e,f⟩
 | .ptr _ _,x,cs,h,hc| .cA _ _ _ _ _,x,cs,h,hc| .sl _ _ _ _ _,x,cs,h,hc| .map _,x,cs,h,hc| .func _ _ _,x,cs,h,hc| .aC _,x,cs,h,hc=>by simp only[Gh]at h;subst h;exact hc
theorem pJ.cells:∀(l:List Nat)(fs b:List AV)(a:List (List c9)),pJ T fs b->bX P w ad β T l fs a->bX P w ad β T l b a
 |l,[],b,a,h,hc=>by simp only[pJ]at h;subst h;exact hc
 |l,v::vs,b,a,h,hc=>by
  cases b with
  |nil=>simp[pJ]at h
  |cons g b=>
   simp only[pJ]at h;cases l with
   |nil=>simp[bX]at hc
   |cons n l=>
    simp only[bX]at hc⊢;obtain⟨c,cs,d,e,f,i⟩:=hc;exact⟨c,cs,d,Gh.cells v g c h.1 e,f,pJ.cells l vs b cs h.2 i⟩
end
theorem Gh.Jn(v x:AV)(y:c9)(h:Gh T v x)(hc:aB P w ad β T v y):aB P w ad β T x y:=by
 cases v
 case p v=>simp only[Gh]at h;simp only[aB]at hc;exact ib.Jn v x y h hc
 case st u fs=>
  simp only[Gh]at h;cases x<;>simp only at h<;>try exact h.elim
  obtain⟨rfl,h⟩:=h;simp only[aB]at hc⊢;obtain⟨l,a,b,c,d⟩:=hc;exact⟨l,a,b,pJ.cells l fs _ a h c,d⟩
 all_goals simp only[Gh]at h;subst h;exact hc
theorem ib.aK{v:PV}{x:AV}(h:ib T v x):aa x=ag.aK v:=by
 cases v
 case aI=>
  simp only[ib]at h;rcases h with rfl|h
  ·rfl
  ·cases x<;>simp only at h<;>first|exact h.elim|rfl
 case st u fs=>
  simp only[ib]at h;rcases h with rfl|h
  ·rfl
  ·cases x<;>simp only at h<;>try exact h.elim
   simp[aa,ag.aK,h.1]
 all_goals simp only[ib]at h;subst h;rfl
theorem Gh.aK{v x:AV}(h:Gh T v x):aa x=aa v:=by
 cases v
 case p v=>simp only[Gh]at h;exact h.aK
 case st u fs=>
  simp only[Gh]at h;cases x<;>simp only at h<;>try exact h.elim
  simp[aa,h.1]
 all_goals simp only[Gh]at h;subst h;rfl
end aGM
theorem dJ.gq{s s':St}{β:Bd}{ai ad:Nat->Prop}{w:dd}(hf:dJ N s s'):eU N ai ad w β s.heap ai ad w β s'.heap:=by
 rcases hf with rfl|hf
 ·exact eU.refl _ _ _ _ _ _
 ·exact⟨fun _ h=>h,fun _ h=>h,fun _ h=>.inl h,Ext.refl _ _ _,hf.1.step.n,fun x hn⟨o,d,c⟩=>⟨o,by rw[hf.2 _ hn];exact d,c⟩,fun b hn⟨L,a⟩=>⟨L,by rw[hf.2 _ hn];exact a⟩⟩
theorem th.rel{s s':St}{ai ad:Nat->Prop}{β:Bd}{t:Array c9}{w:dd}(hf:th s s')(h:dm P n ai ad β s t w):dm P n ai ad β s' t w:=by
 have aO:cO β s.heap β s'.heap:=hf.step;refine⟨⟨?_,?_,hf.hrefs,h.heap.cq,h.heap.fO,h.heap.lr⟩,fun x=>?_,hf.iS,h.size⟩
 ·intro b o E;rcases hf.heap b o E with rfl|i|⟨_,k,z,rfl,hk⟩|⟨v,v',i,rfl,q⟩
  ·trivial
  rotate_left
  ·exact .inl ⟨hk,rfl⟩
  ·have d:=h.heap.dj b _ i;have g:=h.heap.refs b _ i;obtain⟨cs,T,a,c,e,j,C⟩:=d;exact⟨cs,T,a,Gh.cells _ _ _ q (bC.mono (fun _ x=>x) (fun _ _=>rfl) aO _ _ g c),e,(fun h=>by cases h),by rw[q.aK];exact C⟩
  ·have d:=h.heap.dj b o i;have g:=h.heap.refs b o i;cases o with
   |hole=>trivial
   |dead=>trivial
   |box fz t=>
    obtain⟨cs,T,a,c,e⟩:=d;exact⟨cs,T,a,bC.mono (fun _ x=>x) (fun _ _=>rfl) aO _ _ g c,e⟩
   |arr k az ak es=>
    rcases d with d|⟨cs,T,A,rest,a,c,e⟩
    ·exact .inl d
    ·exact .inr ⟨cs,T,A,rest,a,bX.mono (fun _ x=>x) (fun _ _=>rfl) aO _ _ _ g c,e⟩
   |map fz es=>exact d
   |dF ks vs=>
    obtain⟨B,clock,a,c,e,j⟩:=d;exact⟨B,clock,a,c,bH.mono (fun _ x=>x) (fun _ _=>rfl) aO _ _ g e,j⟩
   |dZ s pos=>exact d
   |loop L=>
    obtain⟨tmps,defers,fn,a,c,e,j⟩:=d;exact⟨tmps,defers,fn,a,c,fun x=>aB.mono (fun _ x=>x) (fun _ _=>rfl) aO _ _ (g x) (e x),j⟩
 ·intro x y H I a c m p D f;have u:∀{z:Nat}{o:Obj},s'.heap[z]?=some o->o.live->∃o',s.heap[z]?=some o'/\o'.live:=by
   intro z o hz l;rcases hf.heap z o hz with rfl|hz|⟨_,k,_,rfl,hk⟩|⟨v,v',hz,_,_⟩
   ·exact l.elim
   ·exact⟨o,hz,l⟩
   ·exact(l ⟨hk,rfl⟩).elim
   ·exact⟨_,hz,trivial⟩
  obtain⟨F,a,m⟩:=u a m;obtain⟨G,c,p⟩:=u c p;exact h.heap.inj x y F G a c m p D f
 ·have r:=aB.mono (fun _ x=>x) (fun _ _=>rfl) aO _ _ (h.iS x) (h.env x);rcases hf.env x with f|f|f
  ·rw[f];exact r
  ·rw[f];simp[aB,aE]
  ·exact Gh.Jn _ _ _ f r
theorem dJ.rel{s s':St}{ai ad:Nat->Prop}{β:Bd}{t:Array c9}{w:dd}(hf:dJ N s s')(h:dm P n ai ad β s t w):dm P n ai ad β s' t w:=by
 rcases hf with rfl|hf
 ·exact h
 ·exact hf.1.rel h
def qh(P:da)(fr:dz)(k:List Item)(cs:List dz)(m:ee)(t:Array c9)(ds:List dy)(w:dd):bF->Prop
 | .normal=>ec P m (lone (bJ fr t ds k) cs w)
 | .exit id=>∃a,exitTo id a=exitTo id k/\ec P m (lone (bJ fr t ds (.code (.exit id)::a)) cs w)
 | .ret=>∃a,ec P m (lone (bJ fr t ds (.code .ret::a)) cs w)
theorem qh.of_steps{m f:ee}{t:Array c9}{ds:List dy}{w:dd}{e:bF}(h:ec P m f)(c:qh P fr k cs f t ds w e):qh P fr k cs m t ds w e:=by
 cases e with
 |normal=>exact h.trans c
 |exit id=>obtain⟨d,a,b⟩:=c;exact⟨d,a,h.trans b⟩
 |ret=>obtain⟨d,b⟩:=c;exact⟨d,h.trans b⟩
def mark(r:Nat):dy:={target:=.collected r,args:=#[]}
def Marks(fr:dz)(ai:Nat->Prop)(w:dd)(ml aG:Nat->Prop)(w':dd)(b c:List dy):Prop:=
 ∃a:List Nat,c=a.map mark++b/\a.Nodup/\(∀r∈a,w.heap.size<=r/\ml r/\¬aG r/\w'.heap[r]?=some (.deferred (some [])))/\(∀k,ml k->ai k\/k∈a)/\(fr.roundOf.isSome=true->a=[])
theorem Marks.refl(fr:dz)(ai aG:Nat->Prop)(w w':dd)(ds:List dy):Marks fr ai w ai aG w' ds ds:=⟨[],rfl,List.nodup_nil,s_,fun _ h=>.inl h,fun _=>rfl⟩
theorem Marks.trans{fr:dz}{N:Nat}{ai ad d e g f:Nat->Prop}{w w1 l:dd}{β p B:Bd}{H H1 q:al}{ds m n:List dy}(h:Marks fr ai w d e w1 ds m)(i:eU N ai ad w β H d e w1 p H1)
 (s:Marks fr d w1 g f l m n)(j:eU N d e w1 p H1 g f l B q):Marks fr ai w g f l ds n:=by
 obtain⟨rs,rfl,t,o,u,v⟩:=h;obtain⟨A,rfl,g2,g3,g4,g5⟩:=s;refine⟨A++rs,s_,?_,?_,?_,fun hx=>by simp[v hx,g5 hx]⟩
 ·rw[List.nodup_append];refine⟨g2,t,fun a i b y x=>?_⟩;subst x;have C:=(g3 a i).1;have D:=(bi.1 (o a y).2.2.2).1;omega
 ·intro r c;rcases hS.1 c with c|c
  ·obtain⟨k1,k2⟩:=g3 r c;exact⟨iB i.ext.size k1,k2⟩
  ·obtain⟨k1,k2,k3,k4⟩:=o r c;exact⟨k1,j.fO _ k2,fun hx=>(j.fresh _ hx).elim k3 (fun z=>z k2),(j.ext.same _ (.inl k2)).trans k4⟩
 ·intro k hk;rcases g4 k hk with hk|hk
  ·rcases u k hk with hk|hk
   ·exact .inl hk
   ·exact .inr (by simp[hk])
  ·exact .inr (by simp[hk])
def vm(N:Nat)(fr:dz)(β:Bd)(H:al):Prop:=∀l,fr.roundOf=some l->∃b,b<N/\je H b/\β.au b=l
theorem vm.gq{fr:dz}{β aN:Bd}{H H':al}{ai ad ml aG:Nat->Prop}{w w':dd}(h:vm N fr β H)(e:eU N ai ad w β H ml aG w' aN H'):vm N fr aN H':=by
 intro l i;obtain⟨b,a,c,f⟩:=h l i;have d:=e.loop b a c;obtain⟨L,g⟩:=c;exact⟨b,a,d,((e.step.loop b a ⟨_,g,trivial⟩ d).2).trans f⟩
def uF(P:da)(n N:Nat)(fr:dz)(k:List Item)(cs:List dz)(ai ad:Nat->Prop)(w:dd)(β:Bd)(H:al)(m:ee)(c:List dy)(Q:bF->St->Prop):Prop:=
 ∃e s' ml aG aN b w' a,Q e s'/\qh P fr k cs m b a w' e/\dm P n ml aG aN s' b w'/\eU N ai ad w β H ml aG w' aN s'.heap/\Marks fr ai w ml aG w' c a
theorem uF.of{k:List Item}{ai ad:Nat->Prop}{w:dd}{β:Bd}{H:al}{m:ee}{ds:List dy}{Q:bF->St->Prop}{e:bF}{s':St}{aG:Nat->Prop}{aN:Bd}{a:Array c9}{w':dd}(hq:Q e s')(c:qh P fr k cs m a ds w' e)
 (d:dm P n ai aG aN s' a w')(b:eU N ai ad w β H ai aG w' aN s'.heap):uF P n N fr k cs ai ad w β H m ds Q:=⟨e,s',ai,aG,aN,a,w',ds,hq,c,d,b,Marks.refl _ _ _ _ _ _⟩
theorem uF.next{k:List Item}{ai ad b a:Nat->Prop}{w w1:dd}{β g:Bd}{H H1:al}{m f:ee}{c d:List dy}{Q:bF->St->Prop}(e:eU N ai ad w β H b a w1 g H1)(o:Marks fr ai w b a w1 c d)(aO:ec P m f)
 (h:uF P n N fr k cs b a w1 g H1 f d Q):uF P n N fr k cs ai ad w β H m c Q:=by
 obtain⟨e2,s2,j,i,q,t2,p,l,g1,g2,g3,g4,g5⟩:=h;exact⟨e2,s2,j,i,q,t2,p,l,g1,.of_steps aO g2,g3,e.trans g4,o.trans e g5 g4⟩
def codeOk(fit:Nat->Array Oper->Bool)(n:Nat):Code->Bool
 | .region _ ops draw=>ops.toList.all (kr n)&&(!draw||fit n ops)
 | .seq a b=>codeOk fit n a&&codeOk fit n b
 | .cond _ a b=>codeOk fit n a&&codeOk fit n b
 | .block _ b| .scope b| .loop b=>codeOk fit n b
 | .rangeFunc _ _ a b=>codeOk fit n a&&codeOk fit n b
 |_=>true
def xo(P:da)(ah:dx->Bool)(fit:Nat->Array Oper->Bool):Prop:=
 ∀(n N:Nat)(a:Array Oper)(fr:dz)(k:List Item)(cs:List dz)(b:List dy)(c:Nat)(K:St->Prop)(s:St)(ai ad:Nat->Prop)(β:Bd)(t:Array c9)(w:dd),
  fit n a=true->(∀o∈a.toList,kr n o=true)->iw P ah a a.toList 0 [] K s->dm P n ai ad β s t w->
  mF P n N fr k cs a ai ad w β s.heap (lone (bJ fr t b (.inRegion a (gt (P.follows .mixedOrders) a c)::k)) cs w) [] b K
theorem dm.draw{s:St}{ai ad:Nat->Prop}{β:Bd}{t:Array c9}{w w':dd}(a:w'.heap=w.heap)(h:dm P n ai ad β s t w):dm P n ai ad β s t w':=
 ⟨h.heap.CD a,fun x=>aB.mono (fun _ x=>x) (fun _ _=>by rw[a]) (cO.refl _ _) _ _ (h.iS x) (h.env x),h.iS,h.size⟩
section rf
variable{w w':dd}{ad ai:Nat->Prop}{β:Bd}{H:al}
theorem cB.Pb(h:cB P w ad β H ai){x:Nat}(hx:x<w.heap.size)(v:∀(b:Nat)(o:Obj),H[b]?=some o->o.live->β.au b≠x):cB P w ad β H (fun k=>ai k\/k=x):=by
 refine⟨fun b o m=>?_,h.inj,h.refs,h.cq,fun k hk=>hk.elim (h.fO k) (fun e=>e▸hx),h.lr⟩;have held:∀fz,o.live->cS ad β ai fz b->cS ad β (fun k=>ai k\/k=x) fz b:=by
  intro fz j i;unfold cS at i⊢;cases fz with
  |true=>exact i
  |false=>exact⟨i.1,fun y=>y.elim i.2 (v b o m j)⟩
 have f:=h.dj b o m;cases o with
 |hole=>trivial
 |dead=>trivial
 |box fz t=>obtain⟨cs,T,a,c,d,g⟩:=f;exact⟨cs,T,a,c,held _ trivial d,g⟩
 |arr k az ak es=>
  rcases f with f|⟨cs,T,n,rest,a,c,d,g,p,q,r,u⟩
  ·exact .inl f
  ·by_cases j:dM k es
   ·exact .inl j
   ·exact .inr ⟨cs,T,n,rest,a,c,d,g,p,q,held _ j r,u⟩
 |map fz es=>obtain⟨l,clock,a,c,d⟩:=f;exact⟨l,clock,a,c,held _ trivial d⟩
 |dF ks vs=>obtain⟨l,clock,a,c,d,g⟩:=f;exact⟨l,clock,a,c,d,held _ trivial g⟩
 |dZ s pos=>obtain⟨bs,a,c,d⟩:=f;exact⟨bs,a,c,held _ trivial d⟩
 |loop L=>obtain⟨tmps,defers,fn,a,c,d,g⟩:=f;exact⟨tmps,defers,fn,a,c,d,held _ trivial g⟩
theorem cB.shut(h:cB P w ad β H ai){Prot0:Nat->Prop}(q:∀k,Prot0 k->ai k){R:Nat->Prop}(m:∀x,R x->ai x/\¬ad x)(r:w'.heap.size=w.heap.size)(hs:∀k,¬R k->w'.heap[k]?=w.heap[k]?):cB P w' ad β H Prot0:=by
 have same:∀k,ad k->w'.heap[k]?=w.heap[k]?:=fun k hk=>hs k (fun i=>(m k i).2 hk);refine⟨fun b o p=>?_,h.inj,h.refs,fun k hk=>r▸h.cq k hk,fun k hk=>r▸h.fO k (q k hk),h.lr.mono (fun _ x=>x) same⟩;have held:∀fz,cS ad β ai fz b->cS ad β Prot0 fz b:=by
  intro fz f;unfold cS at f⊢;cases fz with
  |true=>exact f
  |false=>exact⟨f.1,fun A=>f.2 (q _ A)⟩
 have au:∀fz,cS ad β ai fz b->w'.heap[β.au b]?=w.heap[β.au b]?:=by
  intro fz f;refine hs _ (fun i=>?_);unfold cS at f;cases fz with
  |true=>exact(m _ i).2 f
  |false=>exact f.2 (m _ i).1
 have g:=h.dj b o p;have j:=h.refs b o p;cases o with
 |hole=>trivial
 |dead=>trivial
 |box fz t=>obtain⟨cs,T,c,d,a,e⟩:=g;exact⟨cs,T,(au _ a).trans c,bC.mono (fun _ x=>x) same (cO.refl _ _) _ _ j d,held _ a,e⟩
 |arr k az ak es=>
  rcases g with g|⟨cs,T,u,rest,c,d,a,e,v,y,n,z⟩
  ·exact .inl g
  ·exact .inr ⟨cs,T,u,rest,(au _ n).trans c,bX.mono (fun _ x=>x) same (cO.refl _ _) _ _ _ j d,a,e,v,y,held _ n,z⟩
 |map fz es=>obtain⟨l,clock,c,d,a⟩:=g;exact⟨l,clock,(au _ a).trans c,cT.mono (fun _ x=>x) same _ _ d,held _ a⟩
 |dF ks vs=>obtain⟨l,clock,c,d,a,e⟩:=g;exact⟨l,clock,(au _ e).trans c,bG.mono (fun _ x=>x) same _ _ d,bH.mono (fun _ x=>x) same (cO.refl _ _) _ _ j a,held _ e⟩
 |dZ s pos=>obtain⟨bs,c,d,a⟩:=g;exact⟨bs,(au _ a).trans c,d,held _ a⟩
 |loop L=>obtain⟨tmps,defers,fn,c,d,a,e⟩:=g;exact⟨tmps,defers,fn,(au _ e).trans c,d,fun x=>aB.mono (fun _ x=>x) same (cO.refl _ _) _ _ (j x) (a x),held _ e⟩
theorem Pw(H:al)(o:Obj):(H++hw 1 Obj.hole).set H.length o=H++[o]:=by
 rw[h2 _ _ (ip _)];simp
theorem Qi(a:cB P w ad β H ai){L:fk}{tmps:Array c9}{defers fn:Nat}(hn:tmps.size=L.n)(j:∀x,aB P w ad β H (aQ L.env x) (tmps.getD x undef))(c:∀x,aF (aL H) (aQ L.env x)):
 ct P ai ad w β H ad (w.alloc (.loop {state:=L.st,pending:=L.pending,fn,tmps,params:=L.params.toArray,assign:=L.assign,body:=L.body,defers})) (β.at H.length w.heap.size 0) (H++[.loop L]):=by
 have d:ct P ai ad w β H ad w β (H++hw 1 .hole):=⟨fun _ x=>x,fun _ x=>.inl x,Ext.refl _ _ _,ur _ _ _,a.tx _,q8 _ _,fun b⟨L,e⟩=>⟨L,by rw[nv,if_pos (hv.1 e).1];exact e⟩⟩
 have f:(H++hw 1 Obj.hole)[H.length]?=some .hole:=by rw[nv];simp
 have aO:=(ur β H 1)
 have i:=CK (β:=β) f (.loop L) w.heap.size 0;have hrefs:∀x,aF (aL ((H++hw 1 Obj.hole).set H.length (.loop L))) (aQ L.env x):=by
  intro x;rw[Pw];exact aF.mono (fun y l=>OU l) _ (c x)
 have g:=xt (cap:=0) d.rel f (ob:=.loop {state:=L.st,pending:=L.pending,fn,tmps,params:=L.params.toArray,assign:=L.assign,body:=L.body,defers}) (o':=.loop L)
  ⟨tmps,defers,fn,by simp[Bd.at],hn,fun x=>aB.mono (fun _ x=>x) (fun k hk=>zE w _ (a.cq k hk)) i _ _ (aF.mono (q8 _ _) _ (c x)) (aB.mono (fun _ x=>x) (fun _ _=>rfl) aO _ _ (c x) (j x)),?_⟩ hrefs
 ·rw[Pw]at g;exact d.trans g
 ·unfold cS;simp only[cy,if_false,Bd.at,if_true];exact⟨fun hi=>by have:=a.cq _ hi;omega,fun h=>by have:=a.fO _ h;omega⟩
theorem G1(g:cB P w ad β H ai){b:Nat}{L:fk}(a:H[b]?=some (.loop L))(st:LoopState)(d:Option Code):
 ∃rec:Loop,w.heap[β.au b]?=some (.loop rec)/\rec.state=L.st/\rec.pending=L.pending/\rec.params=L.params.toArray/\rec.assign=L.assign/\rec.body=L.body/\rec.tmps.size=L.n/\(∀x,aB P w ad β H (aQ L.env x) (rec.tmps.getD x undef))/\
  ct P ai ad w β H ad (w.putObj (β.au b) (.loop {rec with state:=st,pending:=d})) β (H.set b (.loop {L with st:=st,pending:=d})):=by
 obtain⟨tmps,defers,fn,p,q,r,c⟩:=g.dj b _ a;refine⟨_,p,rfl,rfl,rfl,rfl,rfl,q,r,?_⟩;have v:=(bi.1 p).1;have s:=(hv.1 a).1;unfold cS at c;simp only[cy,if_false]at c;have aO:cO β H β (H.set b (.loop {L with st:=st,pending:=d})):=by
  have j:∀(x:Nat)(o:Obj),(H.set b (Obj.loop {L with st:=st,pending:=d}))[x]?=some o->(∀i,o≠Obj.loop i)->H[x]?=some o:=by
   intro x o m y
   by_cases hx:b=x
   ·subst hx;rw[hA s]at m;cases m;exact(y _ rfl).elim
   ·rwa [hB hx]at m
  refine⟨?_,?_,?_,?_,?_⟩
  ·rintro x _ ⟨f,t,h⟩;exact⟨⟨f,t,j _ _ h s_⟩,rfl⟩
  ·rintro x _ ⟨f,t,h⟩;exact⟨⟨f,t,j _ _ h s_⟩,rfl⟩
  ·rintro x _ ⟨z,h,l⟩;exact⟨⟨z,j _ _ h (fun i e=>by rw[e]at l;exact l.elim),l⟩,rfl⟩
  ·intro x az ak k u _ h;exact⟨k,u,j _ _ h s_,ip _,ht,fun _=>⟨rfl,rfl⟩⟩
  ·rintro x _ ⟨i,h⟩;refine⟨?_,rfl⟩
   by_cases hx:b=x
   ·subst hx;exact⟨L,a⟩
   ·rw[hB hx]at h;exact⟨i,h⟩
 have ar:∀x,aL H x->aL (H.set b (Obj.loop {L with st:=st,pending:=d})) x:=oJ a (fun _ _=>trivial);have same:∀k,ad k->(w.putObj (β.au b) (.loop {state:=st,pending:=d,fn,tmps,params:=L.params.toArray,assign:=L.assign,body:=L.body,defers})).heap[k]?=w.heap[k]?:=fun k hk=>hj (fun e=>c.1 (e▸hk));refine ct.set g s (fun _ _=>⟨rfl,rfl⟩) (fun _ x=>x) (fun _ x=>.inl x) (fun k hk=>by simpa using g.cq k hk) s_
  (fun k hk _=>hj (hk.resolve_right (fun h=>h trivial))) (fun _=>.inr ⟨rfl,⟨_,a,trivial⟩,.inr c.1,c.2⟩) aO
  ⟨tmps,defers,fn,World.putObj_heap_same v,q,fun x=>aB.mono (fun _ x=>x) same aO _ _ (g.refs b _ a x) (r x),?_⟩ (fun x=>aF.mono ar _ (g.refs b _ a x)) (fun _ _ _ _=>trivial) (fun _ _=>⟨_,rfl⟩)
 unfold cS;simpa using c
end rf
theorem Zo{s:St}{ai ad:Nat->Prop}{β:Bd}{t:Array c9}{w:dd}(c:dm P n ai ad β s t w)(E:vm N fr β s.heap)(e:Array Tmp)(a b:Code)(m:List dy){f:Env}(g:∀x,aQ f x=aQ s.env x):
 ∃l mk w1 j i,(Instr.enterLoop fr.fn t e a b fr.roundOf).run P w=.ok (l,mk) w1/\cB P w1 ad i (s.heap++[.loop ⟨.ready,none,n,e.toList,a,b,f⟩]) j/\i.au s.heap.length=l/\
  eU N ai ad w β s.heap j ad w1 i (s.heap++[.loop ⟨.ready,none,n,e.toList,a,b,f⟩])/\Marks fr ai w j ad w1 m (mk++m)/\
  cO β s.heap i (s.heap++[.loop ⟨.ready,none,n,e.toList,a,b,f⟩]):=by
 cases u:fr.roundOf with
 |none=>
  have p:ct P ai ad w β s.heap ad (w.alloc (.deferred (some []))) β s.heap:=c.heap.later (fun _ x=>x) (fun _ x=>.inl x) (fun k hk=>by have:=c.heap.cq k hk;rw[hl];omega) (by rw[hl];omega) (fun k hk=>zE w _ hk);have C:=p.rel.Pb (x:=w.heap.size) (by rw[hl];omega) (fun b o G F g=>by have:=c.heap.rl G F;omega);have d:=Qi (L:=⟨.ready,none,n,e.toList,a,b,f⟩) (tmps:=t) (defers:=w.heap.size) (fn:=fr.fn) C c.size (fun x=>by rw[g];exact aB.mono (fun _ x=>x) (fun k hk=>zE w _ (c.heap.cq k hk)) (cO.refl _ _) _ _ (c.iS x) (c.env x)) (fun x=>by rw[g];exact c.iS x);have B:eU N ai ad w β s.heap (fun k=>ai k\/k=w.heap.size) ad (w.alloc (.deferred (some []))) β s.heap:=⟨fun _ h=>.inl h,fun _ h=>h,fun _ h=>.inl h,p.ext,(cO.refl _ _).n,fun _ _ h=>h,fun _ _ h=>h⟩
  refine⟨_,_,_,_,_,run_enterLoop_outer fr.fn t e a b,d.rel,?_,B.trans d.gq,?_,d.step⟩
  ·simp[Bd.at,hl]
  ·refine⟨[w.heap.size],rfl,s_,?_,fun k hk=>hk.imp id (fun h=>by simp[h]),by simp[u]⟩;intro r q;simp only[List.mem_singleton]at q;subst q;refine⟨ip _,.inr rfl,fun hi=>by have:=c.heap.cq _ hi;omega,?_⟩;exact(d.ext.same _ (.inl (.inr rfl))).trans (World.alloc_heap_new w _)
 |some H=>
  obtain⟨v,K,z,A⟩:=E H u;obtain⟨I,D⟩:=z;obtain⟨M,y,J,g1,_⟩:=c.heap.dj v _ D;rw[A]at g1;have d:=Qi (L:=⟨.ready,none,n,e.toList,a,b,f⟩) (tmps:=t) (defers:=y) (fn:=fr.fn) c.heap c.size (fun x=>by rw[g];exact c.env x) (fun x=>by rw[g];exact c.iS x);exact⟨_,_,_,_,_,run_enterLoop_inner g1 fr.fn t e a b,d.rel,by simp[Bd.at],d.gq,Marks.refl _ _ _ _ _ _,d.step⟩
theorem pU(J:nX P ah){fit:Nat->Array Oper->Bool}(H:xo P ah fit):∀(c:Code)(k:List Item){Q:bF->St->Prop}{s:St}{ai ad:Nat->Prop}{β:Bd}{t:Array c9}{w:dd}{ds:List dy},
 codeOk fit n c=true->cH P ah (n,N) c Q s->dm P n ai ad β s t w->vm N fr β s.heap->uF P n N fr k cs ai ad w β s.heap (lone (bJ fr t ds (.code c::k)) cs w) ds Q
 | .skip,k,Q,s,ai,ad,β,t,w,ds,_,h,i,_=>.of h (.one aQY:qh P fr k cs _ t ds w .normal) i (eU.refl _ _ _ _ _ _)
 | .label l,k,Q,s,ai,ad,β,t,w,ds,_,h,i,_=>.of h (.one au1:qh P fr k cs _ t ds w .normal) i (eU.refl _ _ _ _ _ _)
 | .exit id,k,Q,s,ai,ad,β,t,w,ds,_,h,i,_=>.of h (⟨k,rfl,hd _ _⟩:qh P fr k cs _ t ds w (.exit id)) i (eU.refl _ _ _ _ _ _)
 | .ret,k,Q,s,ai,ad,β,t,w,ds,_,h,i,_=>.of h (⟨k,hd _ _⟩:qh P fr k cs _ t ds w .ret) i (eU.refl _ _ _ _ _ _)
 | .region id ops draw,k,Q,s,ai,ad,β,t,w,ds,r,h,i,_=>by
  simp only[codeOk,c6,h6]at r;simp only[cH]at h;cases draw with
  |false=>
   simp only[cy,if_false]at h;obtain⟨s',aG,aN,au,w',j,q,p,d⟩:=Oi (fr:=fr) (k:=k) (cs:=cs) (ds:=ds) (N:=N) J r.1 ops.toList 0 s_ h i;refine .of (e:=.normal) j ?_ p d;have e:ik ops.size=hV 0 ops.toList.length:=by rw[List.range_eq_range'];simp
   exact(ha ZT).trans ((by rw[e];exact q:ec P _ _).trans (.one MC))
  |true=>
   simp only[if_true]at h;have aX:dm P n ai ad β s t {w with drawn:=w.drawn+1}:=dm.draw (w:=w) (w':={w with drawn:=w.drawn+1}) rfl i;obtain⟨s',aG,aN,au,w',j,q,p,d⟩:=H n N ops fr k cs ds (w.tape w.drawn (.order fr.fn id)) _ s ai ad β t _ (by simpa using r.2) r.1 h aX;exact .of (e:=.normal) j ((ha aQU).trans (q.trans (.one MC)):qh P fr k cs _ au ds w' .normal) p ⟨d.fO,d.cq,d.fresh,⟨d.ext.size,d.ext.same,d.ext.io⟩,d.step,d.gU,d.loop⟩
 | .seq a b,k,Q,s,ai,ad,β,t,w,ds,r,h,i,C=>by
  simp only[codeOk,c6]at r;simp only[cH]at h;obtain⟨e,s1,o,B,z,t1,w1,D,j,q,p,d,A⟩:=pU J H a (.code b::k) r.1 h i C;cases e with
  |normal=>exact .next d A ((ha HO).trans q) (pU J H b k r.2 j p (C.gq d))
  |exit id=>
   obtain⟨E,K,a2⟩:=q;exact⟨.exit id,s1,o,B,z,t1,w1,D,j,⟨E,K.trans (by simp[exitTo]),(ha HO).trans a2⟩,p,d,A⟩
  |ret=>
   obtain⟨E,a2⟩:=q;exact⟨.ret,s1,o,B,z,t1,w1,D,j,⟨E,(ha HO).trans a2⟩,p,d,A⟩
 | .cond c a b,k,Q,s,ai,ad,β,t,w,ds,r,h,i,C=>by
  simp only[codeOk,c6]at r;simp only[cH]at h
  split at h
  ·rename_i av aA;have ak:=(rr i c).1;rw[aA]at ak;simp only[aB,aE]at ak;have aO:=aQT (P:=P) (fr:=fr) (ds:=ds) (k:=k) (cs:=cs) (w:=w) (x:=a) (y:=b) ak;cases av with
   |true=>exact .next (eU.refl N ai ad w β s.heap) (Marks.refl _ _ _ _ _ _) (.one (by simpa using aO)) (pU J H a k r.1 (by simpa using h) i C)
   |false=>exact .next (eU.refl N ai ad w β s.heap) (Marks.refl _ _ _ _ _ _) (.one (by simpa using aO)) (pU J H b k r.2 (by simpa using h) i C)
  ·exact h.elim
 | .block id b,k,Q,s,ai,ad,β,t,w,ds,r,h,i,C=>by
  simp only[codeOk]at r;simp only[cH]at h;obtain⟨e,s1,o,B,z,t1,w1,D,j,q,p,d,A⟩:=pU J H b (.inBlock id::k) r h i C;cases e with
  |normal=>exact⟨.normal,s1,o,B,z,t1,w1,D,j,(ha CS).trans (q.trans (.one Zx)),p,d,A⟩
  |exit aa=>
   obtain⟨E,K,a2⟩:=q;dsimp only at j
   split at j
   ·rename_i hid;subst hid;refine⟨.normal,s1,o,B,z,t1,w1,D,j,(ha CS).trans (a2.trans (.one (aQV ?_))),p,d,A⟩;rw[K];simp[exitTo]
   ·rename_i hid;exact⟨.exit aa,s1,o,B,z,t1,w1,D,j,⟨E,K.trans (by simp[exitTo,i5 hid]),(ha CS).trans a2⟩,p,d,A⟩
  |ret=>
   obtain⟨E,a2⟩:=q;exact⟨.ret,s1,o,B,z,t1,w1,D,j,⟨E,(ha CS).trans a2⟩,p,d,A⟩
 | .scope b,k,Q,s,ai,ad,β,t,w,ds,r,h,i,C=>by
  simp only[codeOk]at r;simp only[cH]at h;obtain⟨e,s1,o,B,z,t1,w1,D,j,q,p,d,A⟩:=pU J H b (.inScope b::k) r h i C;cases e with
  |normal=>exact⟨.normal,s1,o,B,z,t1,w1,D,j,(ha GK).trans (q.trans (.one Zw)),p,d,A⟩
  |exit aa=>
   obtain⟨E,K,a2⟩:=q;exact⟨.exit aa,s1,o,B,z,t1,w1,D,j,⟨E,K.trans (by simp[exitTo]),(ha GK).trans a2⟩,p,d,A⟩
  |ret=>
   obtain⟨E,a2⟩:=q;exact⟨.ret,s1,o,B,z,t1,w1,D,j,⟨E,(ha GK).trans a2⟩,p,d,A⟩
 | .loop b,k,Q,s,ai,ad,β,t,w,ds,r,h,i,C=>by
  simp only[codeOk]at r;simp only[cH]at h;obtain⟨I,⟨m0,t0,hf,hI⟩,aZ⟩:=h
  have loop:∀(m:Nat)(u:St)(ai ad:Nat->Prop)(β:Bd)(t:Array c9)(w:dd)(ds:List dy),I m u->dm P n ai ad β u t w->vm N fr β u.heap->
   uF P n N fr k cs ai ad w β u.heap (lone (bJ fr t ds (.code b::.inLoop b::k)) cs w) ds Q:=by
   intro m
   induction m using Nat.strongRecOn with
   |_ m a3=>
    intro u ai ad β t w ds hI i C;obtain⟨e,s1,o,B,z,t1,w1,D,j,q,p,d,A⟩:=pU J H b (.inLoop b::k) r (aZ m u hI) i C;cases e with
    |normal=>
     obtain⟨a4,u',aV,an,aw⟩:=j;have Z:=an.gq (β:=z) (ai:=o) (ad:=B) (w:=w1);exact .next (d.trans Z) A (hb q (.one ZU)) (a3 a4 aV u' o B z t1 w1 D aw (an.rel p) ((C.gq d).gq Z))
    |exit aa=>
     obtain⟨E,K,a2⟩:=q;exact⟨.exit aa,s1,o,B,z,t1,w1,D,j,⟨E,K.trans (by simp[exitTo]),a2⟩,p,d,A⟩
    |ret=>
     obtain⟨E,a2⟩:=q;exact⟨.ret,s1,o,B,z,t1,w1,D,j,⟨E,a2⟩,p,d,A⟩
  have Z:=hf.gq (β:=β) (ai:=ai) (ad:=ad) (w:=w);exact .next Z (Marks.refl _ _ _ _ _ _) (.one aQW) (loop m0 t0 ai ad β t w ds hI (hf.rel i) (C.gq Z))
 | .rangeFunc f F a b,k,Q,s,ai,ad,β,t,w,ds,r,h,i,C=>by
  simp only[cH]at h;obtain⟨a9,M,aQ,h⟩:=h;have W:=rr i f
  obtain⟨g,fi,ca,G,cv,aS,aR,aH,ap,ao,Y,v,aT,ac⟩:∃g fi ca,∃G cv:List c9,gK t f= .func (.func g) G.toArray cv.toArray/\bH P w ad β s.heap fi G/\bH P w ad β s.heap ca cv/\ba (aL s.heap) fi/\ba (aL s.heap) ca/\
   ∃Y v,dE P g (s.heap++[.loop ⟨.ready,none,n,F.toList,a,b,M⟩]) (fi++[.map s.heap.length]++ca) Y v/\jD s.heap.length s.env Q Y:=by
   unfold kV at h
   split at h
   ·rename_i g fi ca hf;rw[hf]at W;simp only[aB,aE]at W;obtain⟨⟨G,cv,j,q,p⟩,_⟩:=W;exact⟨g,_,_,G,cv,p,lG.2 j,lG.2 q,kj _ _,kj _ _,h⟩
   ·rename_i g fi ca hf;rw[hf]at W;simp only[aB,aF]at W;obtain⟨⟨G,cv,j,q,p⟩,d,A⟩:=W;exact⟨g,fi,ca,G,cv,p,j,q,d,A,h⟩
   ·exact h.elim
  obtain⟨l,mk,w1,o,z,e1,e2,e3,e4,e5,e6⟩:=Zo (fr:=fr) i C F a b ds aQ;obtain⟨aM,aI⟩:=aT;have ar:∀x,aL s.heap x->aL (s.heap++[.loop ⟨.ready,none,n,F.toList,a,b,M⟩]) x:=fun x hx=>OU hx;have aj:∀k,ad k->w1.heap[k]?=w.heap[k]?:=fun k hk=>e4.ext.same k (.inr hk);have a0:aB P w1 ad z (s.heap++[.loop ⟨.ready,none,n,F.toList,a,b,M⟩]) (.map s.heap.length) (.func (.yield l) #[] #[]):=by
   simp only[aB,bY,b7];refine⟨by simp[hg],fun U=>?_,fun _=>by rw[e3]⟩;obtain⟨bc,al,U⟩:=U;simp at al;subst al;exact U.elim
  have a1:aF (aL (s.heap++[.loop ⟨.ready,none,n,F.toList,a,b,M⟩])) (.map s.heap.length):=by
   simp only[aF];exact⟨.loop ⟨.ready,none,n,F.toList,a,b,M⟩,s_,trivial⟩
  have az:=sB (sB (bH.mono (fun _ x=>x) aj e6 _ _ ap aR) (b:=[.map s.heap.length]) (y:=[.func (.yield l) #[] #[]]) (by simp only[bH];exact⟨_,_,rfl,a0,rfl⟩)) (bH.mono (fun _ x=>x) aj e6 _ _ ao aH);have ay:=lU (lU (ba.mono ar _ ap) (b:=[.map s.heap.length]) (by simp only[ba];exact⟨a1,trivial⟩)) (ba.mono ar _ ao);have aU:(invoke (.fn (.func g) cv.toArray) (G.toArray++#[.func (.yield l) #[] #[]])).run P w1=.ok (.enter g (G++[(.func (.yield l) #[] #[]:c9)]++cv).toArray) w1:=by
   have:=aM (G++[(.func (.yield l) #[] #[]:c9)]++cv).toArray w1;simp only[invoke];rw[<-this];congr 2;simp
  have aY:(resolve (Act.eval ⟨t,ds⟩) (rangeCall f l) 0).run P w1=.ok (⟨.fn (.func g) cv.toArray,G.toArray++#[.func (.yield l) #[] #[]]⟩:dy) w1:=by
   have af:(Act.eval ⟨t,ds⟩) f=gK t f:=by cases f<;>rfl
   have aJ:(rangeCall f l).args.map (Act.eval ⟨t,ds⟩)=#[.func (.yield l) #[] #[]]:=by simp[Act.eval]
   simp only[resolve,aJ];simp only[af,aS,eP];rfl
  have aP:=stepR_rangeFunc (P:=P) (b:=fr) (a:=⟨t,ds⟩) (k:=k) (cs:=cs) (w:=w) (g:=f) (ps:=F) (assign:=a) (body:=b) e1 aY aU;obtain⟨e,ab,a8,⟨a7,V,S,af,g1,g2,g3⟩,aO,bb,aW⟩:=aI w1 ad o z _ e2 az ay (fr.atR ⟨t,mk++ds⟩ (.inRangeFunc l::k)::cs);subst af;unfold jD at ac
  split at ac
  case h_2=>exact ac.elim
  rename_i L am;obtain⟨aD,X⟩:=ac;obtain⟨rec,r1,a5,a6,bd,be,bf,bg,bh,aq⟩:=G1 g1.rel am .exhausted L.pending;have ax:aL (s.heap++[.loop ⟨.ready,none,n,F.toList,a,b,M⟩]) (s.heap.length,0):=⟨.loop ⟨.ready,none,n,F.toList,a,b,M⟩,s_,trivial⟩
  have aC:V.au s.heap.length=l:=((g1.step.loop _ ax ⟨_,am⟩).2).trans e3;rw[aC]at r1 aq;have aK:=run_endLoop (P:=P) r1 (by rw[a5];exact aD);have O:ec P (lone (bJ fr t ds (.code (.rangeFunc f F a b)::k)) cs w) (lone (bJ fr t (mk++ds) ((rec.pending.map Item.code).toList++k)) cs (ab.putObj l (.loop {rec with state:=.exhausted}))):=by
   refine(ha aP).trans (hb aO ?_);refine(ha (ea aW)).trans ?_;rw[finish_atR_inRangeFunc];exact .one (stepR_endRangeFunc aK)
  have O:ec P (lone (bJ fr t ds (.code (.rangeFunc f F a b)::k)) cs w) (lone (bJ fr t (mk++ds) ((L.pending.map Item.code).toList++k)) cs (ab.putObj l (.loop {rec with state:=.exhausted,pending:=L.pending}))):=by
   rw[<-a6];exact O
  have T:ct P o ad w1 z (s.heap++[.loop ⟨.ready,none,n,F.toList,a,b,M⟩]) S _ V _:=g1.trans aq;have ag:dm P n o S V ⟨s.env,Y.set s.heap.length (.loop {L with st:=.exhausted})⟩ t (ab.putObj l (.loop {rec with state:=.exhausted,pending:=L.pending})):=by
   refine⟨T.rel,fun x=>?_,fun x=>?_,i.size⟩
   ·exact aB.mono T.cq (fun k hk=>T.ext.same k (.inr hk)) T.step _ _ (aF.mono ar _ (i.iS x)) (aB.mono (fun _ x=>x) aj e6 _ _ (i.iS x) (i.env x))
   ·exact aF.mono T.gU _ (aF.mono ar _ (i.iS x))
  have ae:eU N ai ad w β s.heap o S (ab.putObj l (.loop {rec with state:=.exhausted,pending:=L.pending})) V (Y.set s.heap.length (.loop {L with st:=.exhausted})):=e4.trans T.gq;have U:Marks fr ai w o S (ab.putObj l (.loop {rec with state:=.exhausted,pending:=L.pending})) ds (mk++ds):=e5.trans e4 (Marks.refl _ _ _ _ _ _) T.gq;unfold lJ at X
  split at X
  ·rename_i R;rw[R]at O;exact⟨.normal,_,o,S,V,t,_,mk++ds,X,by rw[R];exact O,ag,ae,U⟩
  ·rename_i id R;rw[R]at O;exact⟨.exit id,_,o,S,V,t,_,mk++ds,X,⟨k,rfl,by rw[R];exact O⟩,ag,ae,U⟩
  ·rename_i R;rw[R]at O;exact⟨.ret,_,o,S,V,t,_,mk++ds,X,⟨k,by rw[R];exact O⟩,ag,ae,U⟩
  ·exact X.elim
 | .goto _,_,_,_,_,_,_,_,_,_,_,h,_,_| .refuse _,_,_,_,_,_,_,_,_,_,_,h,_,_=>by simp[cH]at h
end
end Go.ag
namespace Go.ag
variable[Gl]
def j0(i:Nat):List AV->Env
 |[]=>[]
 |v::r=>(i,v)::j0 (i+1) r
def tf(P:da)(s:St):ed->Option AV
 | .tmp t=>some (aQ s.env t)
 | .cell a T=>match aQ s.env a with
  | .ptr b path=>match s.heap[b]? with
   |some (.box _ t)=>match fX t path with
    |some v=>if kindOf P T=aa v then some v else none
    |none=>none
   |_=>none
  |_=>none
def gN(P:da)(s:St):List ed->Option (List AV)
 |[]=>some []
 |r::rs=>match tf P s r,gN P s rs with
  |some v,some vs=>some (v::vs)
  |_,_=>none
def oneOf:List AV->AV
 |[v]=>v
 |vs=>match fq vs with
  |some l=>.p (.aC l)
  |none=>.aC vs
def mc(f:AV->Option PV):List AV->Option (List PV)
 |[]=>some []
 |v::vs=>match f v,mc f vs with
  |some p,some a=>some (p::a)
  |_,_=>none
def fP(H:al):Nat->AV->Option PV
 |0,.p v=>some v
 |0,_=>none
 |n+1,x=>match x with
  | .p v=>some v
  | .sl b az ak off len=>match H[b]? with
   |some (.arr k e c es)=>
    if az=e/\ak=c/\off+len<=es.length then
     if k.gr=true/\es=[]then some .aI else
     match mc (fP H n) ((es.drop off).take len)with
     |some d=>some (.dw (k== .exact&&off+len==es.length) d)
     |none=>none
    else none
   |_=>none
  | .ptr b path=>match H[b]? with
   |some (.box _ t)=>match fX t path with
    |some s=>match fP H n s with
     |some p=>some (.cM p)
     |none=>none
    |none=>none
   |_=>none
  | .map b=>match H[b]? with
   |some (.map _ es)=>some (.fu es)
   |_=>none
  | .func f fi ca=>match mc (fP H n) fi,mc (fP H n) ca with
   |some a,some b=>some (.func f a b)
   |_,_=>none
  | .st u fs=>match mc (fP H n) fs with
   |some l=>some (.st u l)
   |none=>none
  | .aC vs=>match mc (fP H n) vs with
   |some l=>some (.aC l)
   |none=>none
  | .cA _ _ _ _ _=>none
section
variable{P:da}{w:dd}{ad ai:Nat->Prop}{β:Bd}{H:al}
def Ia(ad:Nat->Prop)(β:Bd)(H:al)(k:Nat):Prop:=ad k\/∃(b:Nat)(o:Obj),H[b]?=some o/\o.live/\β.au b=k
theorem Pa:∀{n:Nat}{v:AV}{p:PV},fP H n v=some p->(aa v=aK p)
 |0,v,p,h=>by
  cases v<;>simp[fP]at h;subst h;rfl
 |n+1,v,p,h=>by
  cases v<;>simp only[fP]at h
  case p v=>simp at h;subst h;rfl
  case cA=>simp at h
  case sl b az ak off len=>
   split at h
   ·split at h
    ·split at h
     ·simp at h;subst h;rfl
     ·split at h
      ·simp at h;subst h;rfl
      ·simp at h
    ·simp at h
   ·simp at h
  case ptr b path=>
   split at h
   ·split at h
    ·split at h
     ·simp at h;subst h;rfl
     ·simp at h
    ·simp at h
   ·simp at h
  all_goals
   split at h
   ·simp at h;subst h;rfl
   ·simp at h
theorem NL{v:AV}{p:PV}{cs:List c9}(hs:aa v=aK p)(hc:bC P w ad β H v cs){I:Nat->Prop}(h:∀x,aB P w ad β H v x->aE P w I p x):bd P w I p cs:=by
 cases a:aa v with
 |bad=>exact((qY hc).2 a).elim
 |leaf=>
  obtain⟨c,rfl,b⟩:=(GS a cs).1 hc;exact(xB (hs▸a) _).2 ⟨c,rfl,h _ b⟩
 |agg u=>exact(An (hs▸a) cs).2 (h _ ((RD a cs).1 hc))
section lists
variable{f:AV->Option PV}{I:Nat->Prop}(hf:∀v p,f v=some p->aa v=aK p/\(aF (aL H) v->∀x,aB P w ad β H v x->aE P w I p x))
include hf
theorem CF:∀{vs:List AV}{a:List PV},mc f vs=some a->ba (aL H) vs->∀b,bH P w ad β H vs b->bG P w I a b
 |[],a,h,_,b,hx=>by
  simp[mc]at h;subst h;simpa[bH,bG]using hx
 |v::vs,a,h,c,b,hx=>by
  simp only[mc]at h
  split at h
  case h_2=>simp at h
  rename_i q g hq d;simp at h;subst h;simp only[ba]at c;simp only[bH]at hx;obtain⟨y,e,rfl,k1,k2⟩:=hx;simp only[bG];exact⟨y,e,rfl,(hf _ _ hq).2 c.1 _ k1,CF d c.2 _ k2⟩
theorem F3:∀{vs:List AV}{b:List PV},mc f vs=some b->ba (aL H) vs->∀l a,bX P w ad β H l vs a->bt P w I l b a
 |[],b,h,_,l,a,hx=>by
  simp[mc]at h;subst h;cases l<;>simp_all [bX,bt]
 |v::vs,b,h,d,l,a,hx=>by
  simp only[mc]at h
  split at h
  case h_2=>simp at h
  rename_i q g hq e;simp at h;subst h;simp only[ba]at d;cases l with
  |nil=>simp[bX]at hx
  |cons m l=>
   simp only[bX]at hx;obtain⟨c,cs,rfl,k1,k2,k3⟩:=hx;simp only[bt];exact⟨c,cs,rfl,NL (hf _ _ hq).1 k1 ((hf _ _ hq).2 d.1),k2,F3 e d.2 _ _ k3⟩
end lists
theorem FP(e:cB P w ad β H ai):∀(n:Nat)(v:AV)(p:PV),fP H n v=some p->aF (aL H) v->∀x,aB P w ad β H v x->aE P w (Ia ad β H) p x
 |0,v,p,h,_,x,hx=>by
  cases v<;>simp[fP]at h;subst h;simp only[aB]at hx;exact aE.mono (fun _=>.inl) (fun _ _=>rfl) _ _ hx
 |n+1,v,p,h,g,x,hx=>by
  have hf:∀v p,fP H n v=some p->aa v=aK p/\(aF (aL H) v->∀x,aB P w ad β H v x->aE P w (Ia ad β H) p x):=fun v p h=>⟨Pa h,FP e n v p h⟩
  cases v<;>simp only[fP]at h
  case p v=>
   simp at h;subst h;simp only[aB]at hx;exact aE.mono (fun _=>.inl) (fun _ _=>rfl) _ _ hx
  case cA=>simp at h
  case sl b az ak off len=>
   split at h
   case h_2=>simp at h
   rename_i k ab W r d
   split at h
   case isFalse=>simp at h
   rename_i J;obtain⟨rfl,rfl,y⟩:=J;simp only[aB]at hx;obtain⟨_,hx⟩:=hx;simp only[b7]at hx;obtain⟨v1,v2,v3⟩:=hx k r d
   split at h
   ·rename_i hn;simp at h;subst h;simp[aE,v2 hn]
   ·rename_i hn
    split at h
    case h_2=>simp at h
    rename_i U M;simp at h;subst h;rw[v3 hn];rcases e.dj b _ d with hold|⟨cs,T,B,rest,i,j,A,E,X,F,Y,Z⟩
    ·exact(hn hold).elim
    obtain⟨a,m,c,e1,e2,e3,e4,e5⟩:=lV j off len v1;have O:ba (aL H) ((r.drop off).take len):=by
     have:=e.refs b _ d;rw[df];intro v Q;exact df.1 this v (List.mem_of_mem_drop (List.mem_of_mem_take Q))
    have K:((r.drop off).take len).length=len:=by simp;omega
    have k1:=F3 hf M O _ _ e2;have z:U.length=len:=by have:=(zp k1).2.1;simp at this;omega
    simp only[aE];refine⟨β.au b,off*ak,β.cap b-off,ak,m,by rw[z,<-K];exact k1,fun _=>.inr ⟨b,_,d,hn,rfl⟩,?_,?_,?_,none,.inl rfl,?_⟩
    ·rw[<-e3];exact n6 i (post:=c.flatten++rest) (by rw[A,e1];simp)
    ·intro hf;simp at hf;rw[z,F hf.1];omega
    ·rw[z];omega
    ·rw[z]
  case ptr b path=>
   split at h
   case h_2=>simp at h
   rename_i fz t d
   split at h
   case h_2=>simp at h
   rename_i s hs
   split at h
   case h_2=>simp at h
   rename_i q hq;simp at h;subst h;simp only[aB]at hx;obtain⟨_,hx⟩:=hx;simp only[b7]at hx;obtain⟨V,S,o,rfl,L,hx⟩:=hx;obtain⟨rfl,rfl⟩:=hx (.inl ⟨fz,_,d⟩);obtain⟨cs,T,i,j,A,E⟩:=e.dj b _ d;obtain⟨pre,xs,post,e1,e2,e3,_⟩:=sS j hs L;have N:aF (aL H) s:=zR hs (e.refs b _ d);simp only[aE];refine⟨β.au b,S,xs,NL (Pa hq) e3 (FP e n _ _ hq N),.inr ⟨b,_,d,trivial,rfl⟩,?_,rfl⟩;rw[<-e2];exact n6 i e1
  case map b=>
   split at h
   case h_2=>simp at h
   rename_i fz r d;simp at h;subst h;simp only[aB]at hx;obtain⟨_,hx⟩:=hx;simp only[b7]at hx;have hx:=hx.1 ⟨_,d,trivial⟩;obtain⟨C,clock,i,j,A⟩:=e.dj b _ d;simp only[aE];exact⟨β.au b,C,clock,.inr ⟨b,_,d,trivial,rfl⟩,i,cT.mono (fun _=>.inl) (fun _ _=>rfl) _ _ j,hx⟩
  case func f a b=>
   split at h
   case h_2=>simp at h
   rename_i a' b' G I;simp at h;subst h;simp only[aF]at g;simp only[aB]at hx;obtain⟨D,cv,k1,k2,k3⟩:=hx;simp only[aE];exact⟨D,cv,CF hf G g.1 _ k1,CF hf I g.2 _ k2,k3⟩
  case st u fs=>
   split at h
   case h_2=>simp at h
   rename_i l y;simp at h;subst h;simp only[aF]at g;simp only[aB]at hx;obtain⟨R,B,k1,k2,k3⟩:=hx;simp only[aE];exact⟨R,B,k1,F3 hf y g _ _ k2,k3⟩
  case aC vs=>
   split at h
   case h_2=>simp at h
   rename_i l y;simp at h;subst h;simp only[aF]at g;simp only[aB]at hx;obtain⟨xs,k1,k2⟩:=hx;simp only[aE];exact⟨xs,CF hf y g _ k1,k2⟩
end
section
variable{P:da}{ah:dx->Bool}{fit:Nat->Array Oper->Bool}
theorem F1:∀(args:List AV)(i x:Nat),aQ (j0 i args) x=if i<=x then(args[x-i]?).getD (.p .undef)else .p .undef
 |[],i,x=>by simp[j0,aQ]
 |v::r,i,x=>by
  simp only[j0,aQ,F1 r]
  by_cases h:x=i
  ·subst h;simp
  ·by_cases b:i<=x
   ·have a:i+1<=x:=by omega
    simp only[h,b,a,if_true,if_false];rw[show x-i=(x-(i+1))+1 by omega,h0]
   ·have a:¬i+1<=x:=by omega
    simp[h,b,a]
theorem xC{w:dd}{ad:Nat->Prop}{β:Bd}{H:al}:∀{vs:List AV}{xs:List c9},bH P w ad β H vs xs->xs.length=vs.length/\∀i:Nat,aB P w ad β H ((vs[i]?).getD (.p .undef)) ((xs[i]?).getD undef)
 |[],xs,h=>by simp only[bH]at h;subst h;simp[aB,aE]
 |v::vs,xs,h=>by
  simp only[bH]at h;obtain⟨y,c,rfl,a,b⟩:=h;have:=xC b;refine⟨by simp[this.1],fun i=>?_⟩;cases i with
  |zero=>simpa using a
  |succ i=>simpa using this.2 i
theorem ZS{ai ad:Nat->Prop}{β:Bd}{w:dd}{H:al}{args:List AV}{a:List c9}{n:Nat}(f:cB P w ad β H ai)(d:bH P w ad β H args a)(g:ba (aL H) args)(hn:args.length<=n):
 dm P n ai ad β ⟨j0 0 args,H⟩ (a.toArray++bl (n-a.length) undef) w:=by
 obtain⟨b,c⟩:=xC d;refine⟨f,fun x=>?_,fun x=>?_,by simp[b];omega⟩
 ·have e:(a.toArray++bl (n-a.length) undef).getD x undef=(a[x]?).getD undef:=by
   rw[bo,<-bv];simp only[Array.toList_append,Array.toList_replicate]
   by_cases hx:x<a.length
   ·rw[hK (by simpa using hx)]
   ·rw[hO (by simpa using hx)];simp only[hF];rw[List.getElem?_eq_none (by simpa using hx)]
    split<;>rfl
  rw[e,F1];simpa using c x
 ·rw[F1];simp only[Nat.zero_le,if_true,Nat.sub_zero];cases h:args[x]? with
  |none=>simp[aF]
  |some v=>exact df.1 g v (hH h)
theorem MP{w:dd}{ad:Nat->Prop}{β:Bd}{H:al}{T:db}{v:AV}{au off:Nat}{a:List c9}(hk:kindOf P T=aa v)(f:bC P w ad β H v a)(hc:jc w au off a):
 ∃cv,(loadVar T ⟨au,off,none⟩).run P w=.ok cv w/\aB P w ad β H v cv:=by
 obtain⟨n,m⟩:=qY f;have l:∀j,(⟨au,off,none⟩:Addr).add j=⟨au,off+j,none⟩:=by intro j;unfold Addr.add;split<;>simp_all
 unfold kindOf at hk;cases hs:aa v with
 |bad=>exact(m hs).elim
 |leaf=>
  rw[hs]at hk;obtain⟨c,rfl,e⟩:=(GS hs a).1 f;refine⟨c,?_,e⟩;have g:=hc 0 s_;simp only[i0,List.getElem_cons_zero]at g;have b:(isAgg T).run P w=.ok false w:=by
   cases hu:P.underlying T with
   |none=>simp[hu]at hk
   |some d=>
    cases d<;>simp only[hu]at hk<;>first
     |(simp[isAgg,dg hu];done)
     |(split at hk<;>simp at hk)
  simp[loadVar,b,g]
 |agg u=>
  rw[hs]at hk;have e:=(RD hs a).1 f;refine⟨.agg a.toArray,?_,e⟩;have b:(isAgg T).run P w=.ok true w/\P.cellsOf T=a.length:=by
   rw[n,hs];cases hu:P.underlying T with
   |none=>simp[hu]at hk
   |some d=>
    cases d<;>simp only[hu]at hk<;>first
     |(split at hk
       ·rename_i hc;simp at hk;subst hk;simp at hc;refine⟨by simp[isAgg,dg hu],hc.2⟩
       ·simp at hk)
     |(split at hk<;>simp at hk)
  obtain⟨i,hi⟩:∃i,P.info? T=some i:=by
   cases hi:P.info? T with
   |none=>
    have k:=b.1;simp[isAgg,underlying,gi,hi]at k
   |some i=>exact⟨i,rfl⟩
  have p:(sizeOf T).run P w=.ok a.length w:=by
   rw[<-b.2];simp[sizeOf,typeInfo,hi,gg]
  have o:=run_loadCells_list (P:=P) w ⟨au,off,none⟩ a (fun j x hx=>by
   rw[l];have h:j<a.length:=(hv.1 hx).1;rw[hc j h];rw[hD h]at hx;exact hx)
  simp[loadVar,b.1,p,o]
theorem ZF{n:Nat}{ai ad:Nat->Prop}{β:Bd}{s:St}{t:Array c9}{w:dd}(h:dm P n ai ad β s t w){f:ed}{v:AV}(c:tf P s f=some v):
 ∃cv,(match f with
  | .tmp x=>(pure (t.getD x undef):Sem c9)
  | .cell a T=>do loadVar T (<-asAddr (t.getD a undef))).run P w=.ok cv w/\aB P w ad β s.heap v cv/\aF (aL s.heap) v:=by
 cases f with
 |tmp x=>
  simp[tf]at c;subst c;exact⟨_,rfl,h.env x,h.iS x⟩
 |cell a T=>
  simp only[tf]at c;have d:=h.env a
  split at c
  case h_2=>simp at c
  rename_i b A j;rw[j]at d
  split at c
  case h_2=>simp at c
  rename_i fz q e
  split at c
  case h_2=>simp at c
  rename_i v' hs
  split at c
  case isFalse=>simp at c
  rename_i hc;simp at c;subst c;simp only[aB]at d;obtain⟨_,d⟩:=d;simp only[b7]at d;obtain⟨u,p,o,m,l,d⟩:=d;obtain⟨rfl,rfl⟩:=d (.inl ⟨fz,q,e⟩);obtain⟨cs,r,g,i,y,z⟩:=h.heap.dj b _ e;obtain⟨pre,xs,post,e1,e2,e3,_⟩:=sS i hs l;have k:jc w (β.au b) p xs:=by rw[<-e2];exact n6 g e1
  obtain⟨cv,k1,k2⟩:=MP hc e3 k;refine⟨cv,?_,k2,zR hs (h.heap.refs b _ e)⟩;simp only[m,asAddr];simp[k1]
theorem MS{n:Nat}{ai ad:Nat->Prop}{β:Bd}{s:St}{t:Array c9}{w:dd}(h:dm P n ai ad β s t w):∀{d:List ed}{vs:List AV},gN P s d=some vs->
 ∃c:List c9,(d.mapM (fun g:ed=>match g with
  | .tmp x=>(pure (t.getD x undef):Sem c9)
  | .cell a T=>do loadVar T (<-asAddr (t.getD a undef)))).run P w=.ok c w/\bH P w ad β s.heap vs c/\ba (aL s.heap) vs
 |[],vs,b=>by
  simp[gN]at b;subst b;exact⟨[],s_,by simp[bH],by simp[ba]⟩
 |r::d,vs,b=>by
  simp only[gN]at b
  split at b
  case h_2=>simp at b
  rename_i v i e f;simp at b;subst b;obtain⟨cv,k1,k2,k3⟩:=ZF h e;obtain⟨c,g1,g2,g3⟩:=MS h f;refine⟨cv::c,?_,by simp only[bH];exact⟨cv,c,rfl,k2,g2⟩,by simp only[ba];exact⟨k3,g3⟩⟩;simp only[h9,g0,k1,gy,g1];rfl
theorem Ok{w:dd}{ad:Nat->Prop}{β:Bd}{H:al}{vs:List AV}{a:List c9}(h:bH P w ad β H vs a)(d:ba (aL H) vs):
 aB P w ad β H (oneOf vs) (if h:a.toArray.size=1 then a.toArray[0]else .tuple a.toArray)/\aF (aL H) (oneOf vs):=by
 have b:=(xC h).1
 match vs,a,h with
 |[v],[c],h=>
  simp only[bH]at h;obtain⟨y,j,g,e,i⟩:=h;cases g;simp only[ba]at d;exact⟨by simpa[oneOf]using e,by simpa[oneOf]using d.1⟩
 |[],[],h=>exact⟨by simp[oneOf,fq,aB,aE,bG],by simp[oneOf,fq,aF]⟩
 |v1::v2::vs,c1::c2::a,h=>
  have hs:¬(c1::c2::a).toArray.size=1:=s_
  rw[dif_neg hs];simp only[oneOf];cases f:fq (v1::v2::vs)with
  |none=>exact⟨by simp only[aB];exact⟨_,h,rfl⟩,by simpa only[aF]using d⟩
  |some l=>
   have:=oC f;rw[this]at h;exact⟨by simp only[aB,aE];exact⟨_,lG.1 h,rfl⟩,by simp[aF]⟩
 |[],_::_,_=>simp at b
 |[_],[],_=>simp at b
 |[_],_::_::_,_=>simp at b
 |_::_::_,[],_=>simp at b
 |_::_::_,[_],_=>simp at b
theorem takes{fr:dz}{cs:List dz}(b:fr.mode= .returning):∀(a:List Nat)(w:dd),a.Nodup->(∀r∈a,w.heap[r]?=some (.deferred (some [])))->
 ∃w',ec P (lone {fr with defers:=a.map mark} cs w) (lone {fr with defers:=[]} cs w')/\w'.heap.size=w.heap.size/\(∀k,k∉a->w'.heap[k]?=w.heap[k]?)/\(w'.os=w.os/\w'.output=w.output)
 |[],w,_,_=>⟨w,hd _ _,rfl,fun _ _=>rfl,rfl,rfl⟩
 |r::a,w,hn,h=>by
  rw[List.nodup_cons]at hn;have c:=h r s_;have hk:=run_takeDeferred (P:=P) c;have l:=(bi.1 c).1;obtain⟨w',f,g,i,j⟩:=takes b a (w.putObj r (.deferred none)) hn.2 (fun x hx=>(hj (fun(e:x=r)=>hn.1 (e▸hx))).trans (h x (by simp[hx])));refine⟨w',(ha (step_collected (fr:={fr with defers:=(r::a).map mark}) (d:=mark r) (ds:=a.map mark) (by simp[b]) rfl rfl hk)).trans f,by simpa using g,fun k hk=>?_,j⟩;simp only[List.mem_cons,not_or]at hk;exact(i k hk.2).trans (hj hk.1)
theorem Nf{N:Nat}{f:dx}{fn:Func}{c:Code}(z:nX P ah)(y:xo P ah fit)(hf:P.funcs[f]?=some fn)(F:fn.body=some c)(L:codeOk fit fn.ntmps c=true)
 {args:List AV}{H:al}{R:List AV->St->Prop}(hn:args.length<=fn.ntmps)
 (S:cH P ah (fn.ntmps,N) c (fun e s=>(match e with
  | .exit _=>False
  |_=>True)/\∃vs,gN P s fn.results.toList=some vs/\R vs s) ⟨j0 0 args,H⟩)
 {w:dd}{ad ai:Nat->Prop}{β:Bd}{d:List c9}(i:cB P w ad β H ai)(q:bH P w ad β H args d)(M:ba (aL H) args):
 eq P f d.toArray w fun e w'=>∃vs s a aG aN t,e=.returned (if h:a.toArray.size=1 then a.toArray[0]else .tuple a.toArray)/\R vs s/\dm P fn.ntmps ai aG aN s t w'/\eU N ai ad w β H ai aG w' aN s.heap/\
  bH P w' aG aN s.heap vs a/\ba (aL s.heap) vs:=by
 intro cs;have W:=(xC q).1;obtain⟨g,j⟩:∃g:dz,g={fn:=f,tmps:=#[],todo:=[],defers:=[],mode:=.run,kind:=.normal}:=⟨_,rfl⟩
 have G:e8 P f d.toArray .normal=bJ g (d.toArray++bl (fn.ntmps-d.length) undef) [] [.code c]:=by
  subst j;simp[e8,bJ,hf,F]
 obtain⟨e,s,U,aG,aN,t,w1,V,⟨A,vs,B,C⟩,o,m,b,D⟩:=pU (fr:=g) (cs:=cs) (ds:=[]) z y c [] L S (ZS i q M hn) (fun l I=>by subst j;cases I);obtain⟨rs,u,K,n,X,_⟩:=D;rw[h8]at u;subst u;rw[G]
 have p:∀todo,ec P (lone (bJ g (d.toArray++bl (fn.ntmps-d.length) undef) [] [.code c]) cs w) (lone {bJ g t (rs.map mark) todo with mode:= .returning} cs w1)->
  ∃e w' fr,(∃vs s a aG aN t,e=.returned (if h:a.toArray.size=1 then a.toArray[0]else .tuple a.toArray)/\R vs s/\dm P fn.ntmps ai aG aN s t w'/\eU N ai ad w β H ai aG w' aN s.heap/\
   bH P w' aG aN s.heap vs a/\ba (aL s.heap) vs)/\Comes P (lone (bJ g (d.toArray++bl (fn.ntmps-d.length) undef) [] [.code c]) cs w) (lone fr cs w') e/\fr.fn=f/\fr.leaving P w' e:=by
  intro todo aO;obtain⟨w',t1,t2,t3,t4⟩:=takes (P:=P) (fr:={bJ g t (rs.map mark) todo with mode:=.returning}) (cs:=cs) rfl rs w1 K (fun r i=>(n r i).2.2.2);have Q:∀k,aG k->w'.heap[k]?=w1.heap[k]?:=fun k hk=>t3 k (fun i=>(n k i).2.2.1 hk);have v:dm P fn.ntmps ai aG aN s t w':=⟨m.heap.shut b.fO (R:=fun k=>k∈rs) (fun x hx=>⟨(n x hx).2.1,(n x hx).2.2.1⟩) t2 t3,fun x=>aB.mono (fun _ x=>x) Q (cO.refl _ _) _ _ (m.iS x) (m.env x),m.iS,m.size⟩
  have E:eU N ai ad w β H ai aG w' aN s.heap:=⟨fun _ x=>x,b.cq,b.fresh,⟨by rw[t2];exact b.ext.size,fun k hk=>(t3 k (fun J=>by
   have:=(n k J).1;have:=hk.elim (i.fO k) (i.cq k);omega)).trans (b.ext.same k hk),t4.1.trans b.ext.io.1,t4.2.trans b.ext.io.2⟩,b.step,b.gU,b.loop⟩
  obtain⟨a,g1,g2,g3⟩:=MS v B;have O:(results fn t).run P w'=.ok (if h:a.toArray.size=1 then a.toArray[0]else .tuple a.toArray) w':=by
   simp only[results];rw[b2];rw[g0,g9]
   erw [g1]
   rfl
  refine⟨_,w',{bJ g t [] todo with mode:=.returning},⟨vs,s,a,aG,aN,t,rfl,C,v,E,g2,g3⟩,hb aO t1,by subst j;rfl,?_⟩;subst j;exact⟨rfl,rfl,rfl,fn,hf,O⟩
 cases e with
 |exit id=>exact A.elim
 |normal=>
  exact p [] (hb o (.one (dp (by subst j;simp[stepG,ho,bJ]))))
 |ret=>
  obtain⟨T,o⟩:=o;exact p (.code .ret::T) (hb o (.one (dp (by subst j;simp[stepG,ho,bJ]))))
theorem PN{f:dx}{fn:Func}{c:Code}(n:nX P ah)(m:xo P ah fit)(A:Enters P f)(hf:P.funcs[f]?=some fn)(z:fn.body=some c)(D:codeOk fit fn.ntmps c=true)
 {args:List PV}{v:PV}(hn:args.length<=fn.ntmps)
 (H:cH P ah (fn.ntmps,0) c (fun e s=>(match e with
  | .exit _=>False
  |_=>True)/\∃vs,gN P s fn.results.toList=some vs/\fP s.heap 9 (oneOf vs)=some v) ⟨j0 0 (args.map .p),[]⟩):vL P f args v:=by
 refine⟨A,fun w ad I C B y=>?_⟩;have E:cB P w ad ⟨id,id⟩ [] (fun k=>k<w.heap.size):=⟨s_,s_,s_,C,fun _ h=>h,B⟩
 refine(Nf n m hf z D (R:=fun vs s=>fP s.heap 9 (oneOf vs)=some v) (by simpa using hn) H E (lG.2 y) (kj _ _)).mono ?_;rintro e w' ⟨vs,s,J,aG,aN,t,rfl,x,hs,d,F,G⟩;obtain⟨q,r⟩:=Ok F G;have u:=FP hs.heap _ _ _ x r _ q;refine⟨_,Ia aG aN s.heap,rfl,fun k hk=>.inl (d.cq k hk),?_,?_,d.ext.size,fun k hk=>d.ext.same k (.inl hk),d.ext.io,u⟩
 ·rintro k (hk|⟨b,o,j,g,rfl⟩)
  ·rcases d.fresh k hk with h|h
   ·exact .inl h
   ·exact .inr o_
  ·by_cases l:aN.au b<w.heap.size
   ·
    left;have a:=hs.heap.dj b o j;have:aG (aN.au b)\/¬(aN.au b<w.heap.size):=by
     have key:∀fz,cS aG aN (fun k=>k<w.heap.size) fz b->aG (aN.au b)\/¬(aN.au b<w.heap.size):=fun fz h=>by
      cases fz with
      |true=>exact .inl h
      |false=>exact .inr h.2
     cases o with
     |hole=>exact g.elim
     |dead=>exact g.elim
     |box fz t=>obtain⟨_,_,_,_,h,_⟩:=a;exact key _ h
     |arr k az ak es=>
      rcases a with a|⟨_,_,_,_,_,_,_,_,_,_,h,_⟩
      ·exact(g a).elim
      ·exact key _ h
     |map fz es=>obtain⟨_,_,_,_,h⟩:=a;exact key _ h
     |dF ks vs=>obtain⟨_,_,_,_,_,h⟩:=a;exact key _ h
     |dZ s pos=>obtain⟨_,_,_,h⟩:=a;exact key _ h
     |loop L=>obtain⟨_,_,_,_,_,_,h⟩:=a;exact key _ h
    rcases this with h|h
    ·rcases d.fresh _ h with i|i
     ·exact i
     ·exact(i l).elim
    ·exact(h l).elim
   ·exact .inr o_
 ·rintro k (hk|⟨b,o,j,g,rfl⟩)
  ·exact hs.heap.cq k hk
  ·exact hs.heap.rl j g
def yl(P:da)(a:List ed)(N:Nat)(H':al)(v:AV)(e:bF)(s:St):Prop:=
 (match e with
  | .exit _=>False
  |_=>True)/\∃vs,gN P s a=some vs/\oneOf vs=v/\(H'=s.heap\/(dJ N s ⟨[],H'⟩/\aF (aL H') v))
theorem av4{f:dx}{fn:Func}{c:Code}(q:nX P ah)(p:xo P ah fit)(u:Enters P f)(hf:P.funcs[f]?=some fn)(j:fn.body=some c)(z:codeOk fit fn.ntmps c=true)
 {args:List AV}{H H':al}{v:AV}(hn:args.length<=fn.ntmps)(F:cH P ah (fn.ntmps,H.length) c (yl P fn.results.toList H.length H' v) ⟨j0 0 args,H⟩):dE P f H args H' v:=by
 refine⟨u,fun w ad ai β G A r B=>?_⟩;refine(Nf q p hf j z (R:=fun vs s=>oneOf vs=v/\(H'=s.heap\/(dJ H.length s ⟨[],H'⟩/\aF (aL H') v))) hn F A r B).mono ?_;rintro e w' ⟨vs,s,g,aG,aN,t,rfl,⟨rfl,a⟩,hs,m,E,D⟩;obtain⟨i,k⟩:=Ok E D;obtain⟨d,k1,k2,k3⟩:eU H.length ai ad w β H ai aG w' aN H'/\cB P w' aG aN H' ai/\aB P w' aG aN H' (oneOf vs) (if h:g.toArray.size=1 then g.toArray[0]else .tuple g.toArray)/\aF (aL H') (oneOf vs):=by
  rcases a with rfl|⟨a,C⟩
  ·exact⟨m,hs.heap,i,k⟩
  ·refine⟨m.trans (a.gq (β:=aN) (ai:=ai) (ad:=aG) (w:=w')),(a.rel hs).heap,?_,C⟩;rcases a with a|a
   ·have e:H'=s.heap:=by rw[<-a]
    rw[e];exact i
   ·exact aB.mono (fun _ x=>x) (fun _ _=>rfl) a.1.step _ _ k i
 refine⟨_,aN,aG,rfl,⟨d.cq,d.fresh,d.ext,d.step.full,k1,fun x hx=>?_,fun b j=>?_⟩,k2,k3⟩
 ·obtain⟨o,n,y⟩:=hx;exact d.gU x (hv.1 n).1 ⟨o,n,y⟩
 ·obtain⟨L,l⟩:=j;exact d.loop b (hv.1 l).1 ⟨L,l⟩
theorem dm.post{n:Nat}{ai ad aG:Nat->Prop}{β aN:Bd}{s:St}{H':al}{t:Array c9}{w w':dd}(h:dm P n ai ad β s t w)(a:ct P ai ad w β s.heap aG w' aN H'):dm P n ai aG aN ⟨s.env,H'⟩ t w':=
 ⟨a.rel,fun x=>aB.mono a.cq (fun k hk=>a.ext.same k (.inr hk)) a.step _ _ (h.iS x) (h.env x),fun x=>aF.mono a.gU _ (h.iS x),h.size⟩
def u9:List Tmp->List AV->Env->Env
 |t::ts,v::vs,e=>u9 ts vs ((t,v)::e)
 |_,_,e=>e
def jf:bF->Option Code
 | .normal=>none
 | .exit id=>some (.exit id)
 | .ret=>some .ret
def xq(b:Nat)(K:al->AV->Prop)(e:bF)(s:St):Prop:=
 match s.heap[b]? with
 |some (.loop L)=>K (s.heap.set b (.loop {L with st:=if(jf e).isNone then .ready else .done,pending:=jf e})) (.p (.bool (jf e).isNone))
 |_=>False
def Cp(P:da)(ah:dx->Bool)(q:Cx)(b:Nat)(body:Code)(K:al->AV->Prop)(e:bF)(s:St):Prop:=
 match e,s.heap[b]? with
 | .normal,some (.loop L)=>L.st=.ready/\cH P ah q body (xq b K) ⟨s.env,s.heap.set b (.loop {L with st:=.busy})⟩
 |_,_=>False
def C1(P:da)(ah:dx->Bool)(L:fk)(b:Nat)(args:List AV)(H:al)(K:al->AV->Prop):Prop:=
 cH P ah (L.n,H.length) L.assign (Cp P ah (L.n,H.length) b L.body K) ⟨u9 L.params args L.env,H⟩
def uQ(ts:List Tmp)(a:List c9)(t:Array c9):Array c9:=(ts.zip a).foldl (fun t(p,v)=>t.setIfInBounds p v) t
theorem NX{w:dd}{ad:Nat->Prop}{β:Bd}{H:al}:∀{ts:List Tmp}{vs:List AV}{xs:List c9}{e:Env}{t:Array c9},(∀x∈ts,x<t.size)->bH P w ad β H vs xs->ba (aL H) vs->(∀x,aB P w ad β H (aQ e x) (t.getD x undef))->(∀x,aF (aL H) (aQ e x))->
 (uQ ts xs t).size=t.size/\(∀x,aB P w ad β H (aQ (u9 ts vs e) x) ((uQ ts xs t).getD x undef))/\(∀x,aF (aL H) (aQ (u9 ts vs e) x))
 |[],vs,xs,e,t,_,a,_,b,c=>by
  cases vs<;>exact⟨rfl,b,c⟩
 |p::ts,[],xs,e,t,_,a,_,b,c=>by
  simp only[bH]at a;subst a;exact⟨rfl,b,c⟩
 |p::ts,v::vs,xs,e,t,f,a,d,b,c=>by
  simp only[bH]at a;obtain⟨y,h,rfl,k1,k2⟩:=a;simp only[ba]at d;have g:p<t.size:=f p s_;obtain⟨g1,g2,g3⟩:=NX (ts:=ts) (vs:=vs) (xs:=h) (e:=(p,v)::e) (t:=t.setIfInBounds p y) (fun x hx=>by simpa using f x (by simp[hx])) k2 d.2
   (fun x=>by
    simp only[aQ]
    by_cases hx:x=p
    ·subst hx;simp[g];exact k1
    ·simp only[hx,if_false,bo,b1 (i5 hx)];simpa using b x)
   (fun x=>by
    simp only[aQ]
    split
    ·exact d.1
    ·exact c x)
  exact⟨by simpa[uQ]using g1,g2,g3⟩
theorem zip_toArray(a:List Tmp)(b:List c9)(t:Array c9):(a.toArray.zip b.toArray).foldl (fun t(p,v)=>t.setIfInBounds p v) t=uQ a b t:=by
 unfold uQ;rw[<-cb];simp
theorem av2(I:nX P ah)(G:xo P ah fit){b:Nat}{L:fk}{H H':al}{args:List AV}{v:AV}(f:H[b]?=some (.loop L))(az:args.length=L.params.length)(aA:∀x∈L.params,x<L.n)
 (aq:codeOk fit L.n L.assign=true)(hc:codeOk fit L.n L.body=true)(aI:C1 P ah L b args H (fun ae aS=>aS=v/\dJ H.length ⟨[],ae⟩ ⟨[],H'⟩)):gz P b H args H' v:=by
 refine⟨⟨L,f⟩,fun w ad ai β i B W au=>?_⟩;obtain⟨tmps,defers,fn,ao,M,ap,aW⟩:=B.dj b _ f;have s:b<H.length:=(hv.1 f).1;have aw:=(xC W).1;have j:=run_yield (P:=P) (args:=i.toArray) ao (by simp[aw,az]);obtain⟨q1,aN,aO⟩:=NX (ts:=L.params) (vs:=args) (xs:=i) (e:=L.env) (t:=tmps) (fun x hx=>by rw[M];exact aA x hx) W au ap (B.refs b _ f);rw[zip_toArray]at j;refine⟨fn,_,_,_,j,fun K ac=>?_⟩;obtain⟨c,z⟩:∃c:dz,c={fn:=fn,tmps:=#[],todo:=[],defers:=[],mode:=.run,kind:=.normal,roundOf:=some (β.au b)}:=⟨_,rfl⟩
 have g:c.roundOf=some (β.au b):=by subst z;rfl
 have A:c.kind=.normal:=by subst z;rfl
 have ax:e7 (β.au b) fn (uQ L.params i tmps) L.assign L.body .normal=bJ c (uQ L.params i tmps) [] [.code L.assign,.beginRound,.code L.body]:=by subst z;rfl
 have V:vm H.length c β H:=fun l Z=>by
  rw[g]at Z;cases Z;exact⟨b,s,⟨L,f⟩,rfl⟩
 obtain⟨e1,s1,aV,aU,aT,t1,w1,am,g1,g2,g3,g4,g5⟩:=pU (N:=H.length) (fr:=c) (cs:=K::ac) (ds:=[]) I G L.assign [.beginRound,.code L.body] aq aI ⟨B,aN,aO,q1.trans M⟩ V;unfold Cp at g1
 split at g1
 case h_2=>exact g1.elim
 rename_i q Q;obtain⟨g1,g6⟩:=g1;obtain⟨bb,m1,_,_,m4,m5⟩:=g5;have aG:=m5 (by rw[g];rfl);subst aG;obtain rfl:am=[]:=m1;have aj:aT.au b=β.au b:=(g4.step.loop b s ⟨_,f,trivial⟩ ⟨q,Q⟩).2;obtain⟨rec,r1,aP,aR,a6,a7,a8,a9,ba,D⟩:=G1 g3.heap Q .busy q.pending;rw[aj]at r1 D;have X:=run_beginRound (P:=P) r1 (aP.trans g1);have av:({rec with state:=.busy}:Loop)={rec with state:=.busy,pending:=q.pending}:=by rw[<-aR]
 rw[av]at X;have T:=g4.trans (D.gq (N:=H.length));obtain⟨e2,s2,r,p,m,t2,F,an,k1,k2,k3,k4,k5⟩:=pU (N:=H.length) (fr:=c) (cs:=K::ac) (ds:=[]) I G L.body [] hc g6 (g3.post D) (V.gq T);unfold xq at k1
 split at k1
 case h_2=>exact k1.elim
 rename_i J S;obtain⟨rfl,Y⟩:=k1;obtain⟨bc,aK,_,_,aL,aM⟩:=k5;have aH:=aM (by rw[g];rfl);subst aH;obtain rfl:an=[]:=aK;have aX:∀k,r k->ai k:=fun k hk=>(m4 k ((aL k hk).resolve_right s_)).resolve_right s_;have U:=T.trans k4;have ak:m.au b=β.au b:=(U.step.loop b s ⟨_,f,trivial⟩ ⟨J,S⟩).2;obtain⟨E,ab,aY,aZ,a0,a1,a3,a4,a5,C⟩:=G1 k3.heap S (if(jf e2).isNone then .ready else .done) (jf e2);rw[ak]at ab C;have u:=run_endRound (P:=P) (jf e2) ab;have ar:=U.trans (C.gq (N:=H.length));have d:=ar.trans (Y.gq (β:=m) (ai:=r) (ad:=p) (w:=F.putObj (β.au b) (.loop {E with state:=if(jf e2).isNone then .ready else .done,pending:=jf e2})));refine⟨.bool (jf e2).isNone,F.putObj (β.au b) (.loop {E with state:=if(jf e2).isNone then .ready else .done,pending:=jf e2}),m,p,?_,?_,by simp[aB,aE],by simp[aF]⟩
 ·rw[ax];refine hb (g2:ec P _ _) ((ha (stepR_beginRound (b:=c) (a:=⟨t1,[]⟩) g X)).trans ?_);cases e2 with
  |normal=>exact hb (k2:ec P _ _) (.one (stepR_round_end (b:=c) (a:=⟨t2,[]⟩) g A u))
  |exit id=>
   obtain⟨aJ,ag,a2⟩:=k2;exact hb a2 (.one (stepR_round_exit (b:=c) (a:=⟨t2,[]⟩) g A (by rw[ag];rfl) u))
  |ret=>
   obtain⟨aJ,a2⟩:=k2;exact hb a2 (.one (stepR_round_ret (b:=c) (a:=⟨t2,[]⟩) g A u))
 ·have aC:dm P 0 r p m ⟨[],s2.heap.set b (.loop {J with st:=if(jf e2).isNone then .ready else .done,pending:=jf e2})⟩ #[] (F.putObj (β.au b) (.loop {E with state:=if(jf e2).isNone then .ready else .done,pending:=jf e2})):=
   ⟨C.rel,fun x=>by simp[aQ,aB,aE],fun x=>by simp[aQ,aF],rfl⟩
  have aD:=(Y.rel aC).heap;refine⟨d.cq,d.fresh,d.ext,d.step.full,aD.shut d.fO (R:=fun _=>False) (fun _ h=>h.elim) rfl (fun _ _=>rfl),fun x hx=>?_,fun y j=>?_⟩
  ·obtain⟨o,aa,ay⟩:=hx;exact d.gU x (hv.1 aa).1 ⟨o,aa,ay⟩
  ·obtain⟨af,O⟩:=j;exact d.loop y (hv.1 O).1 ⟨af,O⟩
end
section
variable{P:da}
theorem Qx{w:dd}{ad:Nat->Prop}{b:Bool}{v:c9}:aE P w ad (.bool b) v↔v=.bool b:=by simp[aE]
theorem HI{w:dd}{ad:Nat->Prop}{k:ei}{n:Int}{v:c9}:aE P w ad (.int k n) v↔v=.int k n:=by simp[aE]
theorem Rz{w:dd}{ad:Nat->Prop}{s:List Nat}{v:c9}:aE P w ad (.str s) v↔∃bs:ByteArray,v=.string bs/\s=bs.data.toList.map (·.toNat):=by simp[aE]
theorem fI{s:Sem c9}{w:dd}{cv:c9}(h:s.run P w=.ok cv w):(do pure (Next.value (<-s)):Sem Next).run P w=.ok (.value cv) w:=by simp[h]
theorem zo{s:Sem c9}{w w':dd}{cv:c9}(h:s.run P w=.ok cv w'):(do pure (Next.value (<-s)):Sem Next).run P w=.ok (.value cv) w':=by simp[h]
theorem Ce{T:db}{v:AV}{w:dd}{ad:Nat->Prop}{β:Bd}{H:al}{cs:List c9}(hk:kindOf P T=aa v)(d:bC P w ad β H v cs):P.cellsOf T=cs.length/\∃i,P.info? T=some i/\i.size=cs.length:=by
 obtain⟨c,a⟩:=qY d;have b:P.cellsOf T=cs.length:=by
  rw[c,<-hk];unfold kindOf at hk⊢
  split at hk
  ·split at hk<;>rename_i hc
   ·simp at hc;rw[if_pos (by simpa using hc)];simp[bU,hc.2]
   ·exact(a hk.symm).elim
  ·split at hk<;>rename_i hc
   ·simp at hc;rw[if_pos (by simpa using hc)];simp[bU,hc]
   ·exact(a hk.symm).elim
  ·split at hk<;>rename_i hc
   ·simp at hc;rw[if_pos (by simpa using hc)];simp[bU,hc]
   ·exact(a hk.symm).elim
  ·exact(a hk.symm).elim
 refine⟨b,?_⟩;cases hi:P.info? T with
 |none=>
  have:kindOf P T=.bad:=by simp[kindOf,gi,hi]
  rw[this]at hk;exact(a hk.symm).elim
 |some i=>exact⟨i,rfl,by simpa[gg,hi]using b⟩
variable{o:Oper}{ρ:dl->AV}{base:Nat}
theorem UE{x:dl}(a:o.op=.move x\/o.op=.assign x):bD P o ρ base {v:=ρ x}:=by
 refine bD.same fun H w ad ai β c d b _=>?_;refine⟨c x,?_,b x ?_⟩
 ·rcases a with a|a<;>simp[dq,a]
 ·rcases a with a|a<;>simp[a,fw]
theorem aPC{c a b:dl}{t:Bool}(d:o.op=.pick c a b)(hc:ρ c=.p (.bool t)):bD P o ρ base {v:=if t then ρ a else ρ b}:=by
 refine bD.same fun H w ad ai β g h f _=>?_;have e:=(f c (by simp[d,fw])).1;rw[hc]at e;simp only[aB,Qx]at e;refine⟨if t then g a else g b,by simp[dq,d,e,asBool],?_⟩;cases t with
 |true=>exact f a (by simp[d,fw])
 |false=>exact f b (by simp[d,fw])
theorem N2{t:dl}{i:Nat}{vs:List AV}{v:AV}(g:o.op=.extract t i)(e:ρ t=.aC vs\/∃l,ρ t=.p (.aC l)/\vs=l.map .p)(hi:vs[i]?=some v):bD P o ρ base {v}:=by
 refine bD.same fun H w ad ai β j m h _=>?_;obtain⟨d,f⟩:=h t (by simp[g,fw]);obtain⟨c,k1,k2,k3⟩:∃c,bH P w ad β H vs c/\j t=.tuple c.toArray/\ba (aL H) vs:=by
  rcases e with e|⟨l,e,rfl⟩
  ·rw[e]at d f;simp only[aB,aF]at d f;obtain⟨c,a,b⟩:=d;exact⟨c,a,b,f⟩
  ·rw[e]at d;simp only[aB,aE]at d;obtain⟨c,a,b⟩:=d;exact⟨c,lG.2 a,b,kj _ _⟩
 obtain⟨g1,g2⟩:=xC k1;have k:i<vs.length:=(hv.1 hi).1;have hx:c[i]?=some (c[i]' o_):=hD o_;have g3:=g2 i;rw[hi,hx]at g3;refine⟨c[i]' o_,?_,by simpa using g3,df.1 k3 v (hH hi)⟩;simp only[dq,g,Instr.extract,k2];simp[hx]
theorem aPy{c:ey}{T j:db}{x y:dl}{k d:ei}{a b:Int}{K:PV->Prop}(g:o.op= .binOp c T x y j)(hx:ρ x= .p (.int k a))(t:ρ y= .p (.int d b))(hk:k=d\/c= .shl\/c= .shr)
 (h:tt c k a b K)(ar:List (Nat×Obj)):∃v,K v/\bD P o ρ base {v:=.p v,ar}:=by
 have key:∀v,K v->(∀w:dd,(binOp c T (.int k a) (.int d b)).run P w= .ok (match v with| .int k n=> .int k n| .bool b=> .bool b|_=>undef) w)->(∀w ad,aE P w ad v (match v with| .int k n=> .int k n| .bool b=> .bool b|_=>undef))->
  ∃v,K v/\bD P o ρ base {v:=.p v,ar}:=by
  intro v s r q;refine⟨v,s,bD.same fun H w ad ai β z u i _=>?_⟩;have e:=(i x (by simp[g,fw])).1;have f:=(i y (by simp[g,fw])).1;rw[hx]at e;rw[t]at f;simp only[aB,HI]at e f;refine⟨_,?_,by simp only[aB];exact q w ad,by simp[aF]⟩;simp only[dq,g,e,f];refine fI ?_;have m:(eqGuard c T x y (.int k a) (.int d b)).run P w=.ok () w:=by
   unfold eqGuard
   split<;>simp
  simp[m,r w]
 cases c<;>simp only[tt]at h
 case add|sub|mul|and|or|xor|andNot|eql|neq|lss|leq|gtr|geq=>
  obtain rfl:k=d:=by rcases hk with h|h|h<;>first|exact h|cases h
  exact key _ h (fun w=>by simp[binOp,gc,ge,Op.intCmp]) (fun w ad=>by simp[aE])
 case quo|rem=>
  obtain rfl:k=d:=by rcases hk with h|h|h<;>first|exact h|cases h
  exact key _ h.2 (fun w=>by simp[binOp,Op.intDiv,h.1]) (fun w ad=>by simp[aE])
 case shl|shr=>
  have l:¬b<0:=o_
  exact key _ h.2 (fun w=>by simp[binOp,Op.shift,l]) (fun w ad=>by simp[aE])
theorem I6{u:UnOp}{T:db}{x:dl}{v r:PV}(c:o.op= .unOp u T x)(hx:ρ x= .p v)
 (h:(u=.not/\∃b,v=.bool b/\r=.bool (!b))\/(u=.neg/\∃k n,v=.int k n/\r=.int k (k.wrap (0-n)))\/
  (u=.xor/\∃k n,v=.int k n/\r=.int k (k.wrap (cx k.bits (if k.signed then -1 else k.max)^^^cx k.bits n).toNat))):bD P o ρ base {v:=.p r}:=by
 refine bD.same fun H w ad ai β f e d _=>?_;have a:=(d x (by simp[c,fw])).1;rw[hx]at a;simp only[aB]at a;rcases h with⟨rfl,b,rfl,rfl⟩|⟨rfl,k,n,rfl,rfl⟩|⟨rfl,k,n,rfl,rfl⟩
 ·rw[Qx]at a;exact⟨_,by simp only[dq,c,a];exact fI (by simp[gb];rfl),by simp[aB,aE],by simp[aF]⟩
 ·rw[HI]at a;exact⟨_,by simp only[dq,c,a];exact fI (by simp[gb,gc];rfl),by simp[aB,aE],by simp[aF]⟩
 ·rw[HI]at a;exact⟨_,by simp only[dq,c,a];exact fI (by simp[gb,ge];rfl),by simp[aB,aE],by simp[aF]⟩
end
section
variable{P:da}{w:dd}{ad ai:Nat->Prop}{β:Bd}{H:al}
variable{o:Oper}{ρ:dl->AV}{base:Nat}
theorem nV(H:al)(b:Nat)(o':Obj):bA H ([]++newAt b [o'])=H.set b o':=rfl
theorem asN{x:AV}{T:db}(hs:aa x≠ .bad)(hx:lj T (aa x)=true)(hrefs:∀(H:al)(w:dd)(ad ai:Nat->Prop)(β:Bd)(c:dl->c9),cB P w ad β H ai->
 (∀y∈o.op.operands,aB P w ad β H (ρ y) (c y)/\aF (aL H) (ρ y))->∃cv,aB P w ad β H x cv/\aF (aL H) x/\
  (dq c o).run P w=.ok (.value (.pointer (some ⟨w.heap.size,0,none⟩))) {w with heap:=w.heap.push (.cells cv.cells T)}):
 bD P o ρ base {v:=.ptr base [],aY:=[.box false x]}:=by
 intro H w ad ai β c a l _ i;obtain⟨cv,e,d,f⟩:=hrefs H w ad ai β c a l;have b:H[base]?=some .hole:=by simpa using i 0 s_
 have g:=Cy e hs;have aO:=CK (β:=β) b (.box false x) w.heap.size 0;have ar:∀y,aL H y->aL (H.set base (.box false x)) y:=oJ b (fun _ h=>h.elim);have j:=xt (cap:=0) a b (ob:=.cells cv.cells T) (o':=.box false x)
  ⟨cv.cells,T,by simp[Bd.at],bC.mono (fun _ x=>x) (fun k hk=>zE _ _ (a.cq k hk)) aO _ _ d g,by
   simp only[cS,Bd.at,if_true,cy,if_false];exact⟨fun h=>iz _ (a.cq _ h),fun h=>iz _ (a.fO _ h)⟩,s_,hx⟩ (aF.mono ar _ d)
 refine⟨_,_,_,_,ad,f,.inl rfl,j,?_,?_⟩
 ·simp only[aB,bY,b7,nV];exact⟨rfl,_,_,0,rfl,rfl,fun _=>by simp[Bd.at]⟩
 ·simp only[aF,nV];exact⟨.box false x,by simp only;rw[hA (hv.1 b).1],trivial⟩
theorem aPv{T:db}{x:dl}(a:o.op=.box T x)(hs:aa (ρ x)≠.bad)(hx:lj T (aa (ρ x))=true):bD P o ρ base {v:=.ptr base [],aY:=[.box false (ρ x)]}:=by
 refine asN (T:=T) hs hx fun H w ad ai β e f d=>?_;obtain⟨b,c⟩:=d x (by simp[a,fw]);refine⟨e x,b,c,?_⟩;simp only[dq,a];simp[Instr.box,newVar,newRow]
theorem FQ{w:dd}{ad:Nat->Prop}:∀(n:Nat)(T:db)(cs:List c9)(t:PV),xV P n T cs=some t->bd P w ad t cs/\kindOf P T=aK t
 |0,_,_,_,h=>by simp[xV]at h
 |n+1,T,cs,t,h=>by
  have go:∀(b:List db)(l:List Nat)(cs:List c9)(fs:List PV),sP P (xV P n) b l cs=some fs->∃a,bt P w ad l fs a/\a.flatten=cs:=by
   intro b
   induction b with
   |nil=>
    intro l cs fs h;cases l with
    |nil=>
     cases cs with
     |nil=>simp[sP]at h;subst h;exact⟨[],by simp[bt]⟩
     |cons c cs=>simp[sP]at h
    |cons s i=>simp[sP]at h
   |cons T b q=>
    intro l cs fs h;cases l with
    |nil=>simp[sP]at h
    |cons s i=>
     simp only[sP]at h
     split at h
     case isFalse=>simp at h
     rename_i m
     split at h
     case h_2=>simp at h
     rename_i v vs g p
     split at h
     case isFalse=>simp at h
     rename_i r;simp at h;subst h;obtain⟨e,_⟩:=FQ n T _ v g;obtain⟨a,f,j⟩:=q i _ vs p;refine⟨cs.take s::a,by simp only[bt];exact⟨_,_,rfl,e,m,f⟩,?_⟩;simp[j]
  unfold xV at h
  split at h
  ·rename_i hk
   split at h
   case h_2=>simp at h
   rename_i c
   split at h
   ·simp at h
   ·rename_i v o;simp at h;subst h;have g:=M0 (P:=P) (w:=w) (ad:=ad) c;have d:aK (ofConst c)=.leaf:=by
     unfold ofConst at o⊢
     split<;>simp_all [aK]
    exact⟨(xB d _).2 ⟨c,rfl,g⟩,by rw[hk,d]⟩
  ·rename_i u hk
   split at h
   case h_2=>simp at h
   rename_i l d
   split at h
   case h_2=>simp at h
   rename_i fs k;simp at h;subst h;obtain⟨a,e,f⟩:=go _ _ _ _ k;refine⟨by simp only[bd];exact⟨l,a,d,e,f.symm⟩,by simp[aK,hk]⟩
  ·simp at h
theorem uu{T:db}{z:PV}(h:cF P T=some z):∃i a,P.info? T=some i/\i.zero=some a/\(∀(w:dd)(ad:Nat->Prop),bd P w ad z a.cells.toList)/\kindOf P T=aK z:=by
 unfold cF at h;cases hi:P.info? T with
 |none=>simp[hi]at h
 |some i=>
  simp only[hi,i6]at h;cases hz:i.zero with
  |none=>simp[hz]at h
  |some a=>
   simp only[hz]at h
   split at h
   case isFalse=>simp at h
   exact⟨i,a,rfl,hz,fun w ad=>(FQ 40 T _ z h).1,(FQ (w:=default) (ad:=fun _=>True) 40 T _ z h).2⟩
theorem QH{T:db}{z:PV}(h:cF P T=some z):∃a,(∀w:dd,(zeroValue T).run P w=.ok a w)/\∀(w:dd)(ad:Nat->Prop),aE P w ad z a:=by
 obtain⟨i,a,d,e,f,g⟩:=uu h;refine⟨a,fun w=>by simp[zeroValue,typeInfo,d,e],fun w ad=>?_⟩;have b:DT a (aK z)=true:=by
  unfold cF at h;simp only[d,i6,e]at h
  split at h
  ·rename_i j;rw[<-g];exact j
  ·simp at h
 have hc:=f w ad;cases hs:aK z with
 |bad=>exact((sH hc).2 hs).elim
 |leaf=>
  rw[hs]at b;obtain⟨c,k1,k2⟩:=(xB hs _).1 hc;cases a<;>simp[DT]at b<;>(simp[hh]at k1;subst k1;exact k2)
 |agg u=>
  rw[hs]at b;cases a<;>simp[DT]at b;have:=(An hs _).1 hc;simpa[hh]using this
theorem xp{T:db}{i:eb}{a:c9}(h:P.info? T=some i)(hz:i.zero=some a)(w:dd):(zeroValue T).run P w=.ok a w:=by
 simp[zeroValue,typeInfo,h,hz]
theorem avF{T:db}{z:PV}(j:o.op=.alloc T)(hz:cF P T=some z)(hx:lj T (aK z)=true):bD P o ρ base {v:=.ptr base [],aY:=[.box false (.p z)]}:=by
 obtain⟨i,b,d,e,f,n⟩:=uu hz;intro H w ad ai β m a q _ g;have c:H[base]?=some .hole:=by simpa using g 0 s_
 have l:(dq m o).run P w=.ok (.value (.pointer (some ⟨w.heap.size,0,none⟩))) {w with heap:=w.heap.push (.cells b.cells T)}:=by
  simp only[dq,j];simp[Instr.alloc,xp d e,newVar,newRow]
 have k:=xt (cap:=0) a c (ob:=.cells b.cells T) (o':=.box false (.p z))
  ⟨b.cells,T,by simp[Bd.at],by simp only[bC];exact f _ _,by
   simp only[cS,Bd.at,if_true,cy,if_false];exact⟨fun h=>iz _ (a.cq _ h),fun h=>iz _ (a.fO _ h)⟩,s_,by simpa[aa]using hx⟩ (by simp[Obj.refs,aF])
 refine⟨_,_,_,_,ad,l,.inl rfl,k,?_,?_⟩
 ·simp only[aB,bY,b7,nV];exact⟨rfl,_,_,0,rfl,rfl,fun _=>by simp[Bd.at]⟩
 ·simp only[aF,nV];exact⟨.box false (.p z),by simp only;rw[hA (hv.1 c).1],trivial⟩
theorem Hj{T:db}{a:dl}{v:AV}(g:o.op= .load T a){c:dl->c9}{au off:Nat}{b:List c9}(f:c a= .pointer (some ⟨au,off,none⟩))(hk:kindOf P T=aa v)
 (h:bC P w ad β H v b)(hc:jc w au off b):∃cv,(dq c o).run P w=.ok (.value cv) w/\aB P w ad β H v cv:=by
 obtain⟨cv,d,e⟩:=MP hk h hc;refine⟨cv,?_,e⟩;simp only[dq,g,Instr.loadAt,f,e9];simp[d]
theorem DD{ak:Nat}{d:List AV}{g:List (List c9)}(h:Row P w ad β H ak d g){i:Nat}(hi:i<d.length):
 ∃a c post,g.flatten=a++c++post/\a.length=i*ak/\c.length=ak/\bC P w ad β H d[i] c/\
  ∀e c',bC P w ad β H e c'->c'.length=c.length->∃b,b.flatten=a++c'++post/\Row P w ad β H ak (d.set i e) b:=by
 obtain⟨a,c,post,j,k,o,f,l,m⟩:=xK h (hD hi);have n:c.length=ak:=by
  rw[hF]at f;rw[if_pos hi]at f;simpa using f.symm
 refine⟨a,c,post,j,?_,n,l,?_⟩
 ·rw[k,hE,ix o_,hC]
 ·intro e c' hf hc;obtain⟨b,k1,k2⟩:=m e c' hf hc;exact⟨b,k1,by unfold Row;rw[h7];exact k2⟩
theorem aPA{T:db}{a:dl}(g:o.op= .load T a){H0:al}{K:aZ->Prop}(h:rB P T H0 (ρ a) K):
 ∃e,K e/\bD P o ρ base e/\(∀p∈e.ar,H0[p.1]?=some p.2)/\(∀p∈e.aM,p.1<H0.length/\p.2≠.hole):=by
 unfold rB at h
 split at h
 ·rename_i b G l
  split at h
  case h_2=>exact h.elim
  rename_i fz t r
  split at h
  case h_2=>exact h.elim
  rename_i s hs;obtain⟨hk,h⟩:=h;refine⟨_,h,bD.same fun H w ad ai β B j m ar=>?_,by simpa using r,s_⟩;obtain⟨d,x⟩:=m a (by simp[g,fw]);rw[l]at d;simp only[aB,bY,b7]at d;have f:H[b]?=some (.box fz t):=by simpa using ar
  obtain⟨_,D,F,A,u,q,d⟩:=d;obtain⟨rfl,rfl⟩:=d (.inl ⟨fz,t,f⟩);obtain⟨cs,C,k1,k2,k3,k4⟩:=j.dj b _ f;obtain⟨pre,xs,post,e1,e2,e3,_⟩:=sS k2 hs q;obtain⟨cv,g1,g2⟩:=Hj g u hk e3 (by rw[<-e2];exact n6 k1 e1);exact⟨cv,g1,g2,zR hs (j.refs b _ f)⟩
 ·rename_i b az ak i G l
  split at h
  case h_2=>exact h.elim
  rename_i k S O n r;obtain⟨rfl,rfl,hi,h⟩:=h
  split at h
  case h_2=>exact h.elim
  rename_i s hs;obtain⟨hk,h⟩:=h;refine⟨_,h,bD.same fun H w ad ai β B j m ar=>?_,by simpa using r,s_⟩;obtain⟨d,x⟩:=m a (by simp[g,fw]);rw[l]at d;simp only[aB,bY,b7]at d;have f:H[b]?=some (.arr k az ak n):=by simpa using ar
  have z:¬dM k n:=fun hn=>by rw[hn.2]at hi;simp at hi
  obtain⟨_,D,F,A,u,q,d⟩:=d;obtain⟨rfl,rfl⟩:=d k n f z;rcases j.dj b _ f with hold|⟨cs,C,N,rest,k1,k2,k3,_⟩
  ·exact(z hold).elim
  obtain⟨J,c,I,r1,L,Q,M,_⟩:=DD k2 hi;obtain⟨pre,xs,post,e1,e2,e3,_⟩:=sS M hs q;have E:jc w (β.au b) (i*ak+A) xs:=by
   have:cs.toList=(J++pre)++xs++(post++I++rest):=by rw[k3,r1,e1];simp
   have y:=n6 k1 this;rw[hT,L,e2]at y;exact y
  obtain⟨cv,g1,g2⟩:=Hj g u hk e3 E;exact⟨cv,g1,g2,zR hs (df.1 (j.refs b _ f) _ (h5 hi))⟩
 ·rename_i t l;obtain⟨hk,h⟩:=h;refine⟨_,h,bD.same fun H w ad ai β B j m ar=>?_,s_,s_⟩;obtain⟨d,x⟩:=m a (by simp[g,fw]);rw[l]at d;simp only[aB,aE]at d;obtain⟨au,off,R,k1,k2,k3,k4⟩:=d;obtain⟨cv,g1,g2⟩:=Hj (β:=β) (H:=H) (v:=.p t) g k4 (by simpa[aa]using hk) (by simpa only[bC]using k1) k3;exact⟨cv,g1,g2,by simp[aF]⟩
 ·exact h.elim
end
section
variable{P:da}{w:dd}{ad ai:Nat->Prop}{β:Bd}{H:al}
mutual
theorem RA:∀{v:PV}{cs:List c9},bd P w ad v cs->∀c∈cs,c.oneCell'=true
 | .undef,_,h| .aC _,_,h=>by simp[bd]at h
 | .bool _,_,h| .int _ _,_,h| .eO,_,h| .aI,_,h| .gu,_,h| .jI,_,h| .iG,_,h=>by simp only[bd]at h;subst h;simp[hg]
 | .str _,_,h=>by simp only[bd]at h;obtain⟨_,rfl,_⟩:=h;simp[hg]
 | .cM _,_,h=>by simp only[bd]at h;obtain⟨_,_,_,_,_,_,rfl⟩:=h;simp[hg]
 | .dw _ _,_,h=>by simp only[bd]at h;obtain⟨_,_,_,_,_,_,_,_,_,_,_,_,rfl⟩:=h;simp[hg]
 | .seq _,_,h=>by simp only[bd]at h;rcases h with⟨_,rfl⟩|⟨_,_,_,_,_,_,_,_,_,_,_,rfl⟩<;>simp[hg]
 | .fu _,_,h=>by simp only[bd]at h;obtain⟨_,_,_,_,_,_,rfl⟩:=h;simp[hg]
 | .func _ _ _,_,h=>by simp only[bd]at h;obtain⟨_,_,_,_,rfl⟩:=h;simp[hg]
 | .st u fs,_,h=>by
  simp only[bd]at h;obtain⟨l,a,b,d,rfl⟩:=h;exact Qz d
theorem Qz:∀{l:List Nat}{vs:List PV}{a:List (List c9)},bt P w ad l vs a->∀c∈a.flatten,c.oneCell'=true
 |[],[],_,h=>by simp only[bt]at h;subst h;simp
 |[],_::_,_,h=>by simp[bt]at h
 |_::_,[],_,h=>by simp[bt]at h
 |n::f,v::vs,a,h=>by
  simp only[bt]at h;obtain⟨c,cs,rfl,b,d,e⟩:=h;intro x hx;simp only[hP,hS]at hx;exact hx.elim (RA b x) (Qz e x)
end
mutual
theorem Db:∀{v:AV}{cs:List c9},bC P w ad β H v cs->∀c∈cs,c.oneCell'=true
 | .p t,_,h=>by simp only[bC]at h;exact RA h
 | .ptr ..,_,h| .cA ..,_,h| .sl ..,_,h| .map ..,_,h=>by simp only[bC]at h;obtain⟨v,rfl,b,_⟩:=h;simpa using b
 | .func ..,_,h=>by simp only[bC]at h;obtain⟨_,_,_,_,rfl⟩:=h;simp[hg]
 | .aC _,_,h=>by simp[bC]at h
 | .st u fs,_,h=>by
  simp only[bC]at h;obtain⟨l,a,b,d,rfl⟩:=h;exact QA d
theorem QA:∀{l:List Nat}{vs:List AV}{a:List (List c9)},bX P w ad β H l vs a->∀c∈a.flatten,c.oneCell'=true
 |[],[],_,h=>by simp only[bX]at h;subst h;simp
 |[],_::_,_,h=>by simp[bX]at h
 |_::_,[],_,h=>by simp[bX]at h
 |n::f,v::vs,a,h=>by
  simp only[bX]at h;obtain⟨c,cs,rfl,b,d,e⟩:=h;intro x hx;simp only[hP,hS]at hx;exact hx.elim (Db b x) (QA e x)
end
theorem uq(d:cB P w ad β H ai){b:Nat}{o o':Obj}(c:H[b]?=some o)(j:o.live)(l:o'.live)(m:∀v,o.has v->o'.has v){q new:Array c9}{T:db}
 (i:w.heap[β.au b]?=some (.cells q T (0,0)))(e:¬ad (β.au b)/\¬ai (β.au b))(aO:cO β H β (H.set b o'))
 (n:gC P (w.setRow (β.au b) new) ad β (H.set b o') ai b o')(p:o'.refs (aL (H.set b o'))):
 ct P ai ad w β H ad (w.setRow (β.au b) new) β (H.set b o'):=by
 refine ct.set d (hv.1 c).1 (fun _ _=>⟨rfl,rfl⟩) (fun _ x=>x) (fun _ x=>.inl x) (fun k hk=>by rw[er];exact d.cq k hk) (by rw[er];exact ip _)
  (fun k hk _=>em w _ k _ (hk.resolve_right (fun h=>h l))) (fun _=>.inr ⟨rfl,⟨o,c,j⟩,.inr e.1,e.2⟩) aO n p (fun r v a f=>by rw[c]at a;cases a;exact m v f) (fun L g=>by obtain⟨_,_,_,a,_⟩:=d.dj b _ g;rw[i]at a;cases a)
theorem sL{b:Nat}{o o':Obj}(l:H[b]?=some o)(hk:(∃f g t B,o= .box f t/\o'= .box g B)\/(∃k v z e m,o= .arr k v z e/\o'= .arr k v z m/\e.length=m.length)\/(∃f g e m,o= .map f e/\o'= .map g m)\/(∃s p y,o= .dZ s p/\o'= .dZ s y)):
 cO β H β (H.set b o'):=by
 have u:b<H.length:=(hv.1 l).1;have j:∀x,x≠b->(H.set b o')[x]?=H[x]?:=fun x hx=>hB (i5 hx);have i:(H.set b o')[b]?=some o':=hA u;refine⟨?_,?_,?_,?_,?_⟩
 ·rintro x _ ⟨fz,t,h⟩;refine⟨?_,rfl⟩
  by_cases hx:x=b
  ·subst hx;rw[i]at h;cases h;rcases hk with⟨f,g,t1,t2,c,a⟩|⟨_,_,_,_,_,_,a,_⟩|⟨_,_,_,_,_,a⟩|⟨_,_,_,_,a⟩
   ·exact⟨f,t1,by rw[l,c]⟩
   all_goals cases a
  ·rw[j x hx]at h;exact⟨fz,t,h⟩
 ·rintro x _ ⟨s,p,h⟩;refine⟨?_,rfl⟩
  by_cases hx:x=b
  ·subst hx;rw[i]at h;cases h;rcases hk with⟨f,g,t1,t2,c,a⟩|⟨_,_,_,_,_,_,a,_⟩|⟨_,_,_,_,_,a⟩|⟨s1,n,A,c,a⟩
   ·cases a
   ·cases a
   ·cases a
   ·exact⟨s1,n,by rw[l,c]⟩
  ·rw[j x hx]at h;exact⟨s,p,h⟩
 ·rintro x _ ⟨w,h,d⟩;refine⟨?_,rfl⟩
  by_cases hx:x=b
  ·subst hx;rw[i]at h;cases h;rcases hk with⟨f,g,t1,t2,c,a⟩|⟨_,_,_,_,_,_,a,_⟩|⟨f,g,e1,e2,c,a⟩|⟨s1,n,A,c,a⟩
   ·rw[a]at d;exact d.elim
   ·rw[a]at d;exact d.elim
   ·exact⟨o,l,by rw[c];trivial⟩
   ·rw[a]at d;exact d.elim
  ·rw[j x hx]at h;exact⟨w,h,d⟩
 ·intro x az ak k e _ h
  by_cases hx:x=b
  ·subst hx;unfold gn at h⊢;rw[i]at h;cases h;rcases hk with⟨f,g,t1,t2,c,a⟩|⟨k0,v,z,q,C,c,a,r⟩|⟨_,_,_,_,_,a⟩|⟨_,_,_,_,a⟩
   ·cases a
   ·cases a;refine⟨k,q,by rw[l,c],o_,?_,fun _=>⟨rfl,rfl⟩⟩;unfold dM;rw[<-hL,<-hL,r]
   ·cases a
   ·cases a
  ·unfold gn at h⊢;rw[j x hx]at h;exact⟨k,e,h,ip _,ht,fun _=>⟨rfl,rfl⟩⟩
 ·rintro x _ ⟨L,h⟩;refine⟨?_,rfl⟩
  by_cases hx:x=b
  ·subst hx;rw[i]at h;cases h;rcases hk with⟨f,g,t1,t2,c,a⟩|⟨_,_,_,_,_,_,a,_⟩|⟨_,_,_,_,_,a⟩|⟨_,_,_,_,a⟩<;>cases a
  ·rw[j x hx]at h;exact⟨L,h⟩
variable{o:Oper}{ρ:dl->AV}{base:Nat}
theorem Oc{T:db}{a x:dl}(p:o.op= .store T a x){e:dl->c9}{au off:Nat}{b:List c9}{d:Array c9}{f:db}(j:e a= .pointer (some ⟨au,off,none⟩))
 (hx:(e x).cells.toList=b)(q:P.cellsOf T=b.length/\∃i,P.info? T=some i/\i.size=b.length)(k:w.heap[au]?=some (.cells d f (0,0)))(n:∀c∈b,c.oneCell'=true)(m:off+b.length<=d.size):
 (dq e o).run P w=.ok .skip (w.setRow au (d.toList.take off++b++d.toList.drop (off+b.length)).toArray):=by
 obtain⟨_,i,hi,l⟩:=q;have h:(sizeOf T).run P w=.ok b.length w:=by simp[sizeOf,typeInfo,hi,l]
 have g:=run_storeCells_at (P:=P) au off f b 0 d w k (by simpa using m) n;simp only[i0]at g;have r:(e x).cells.size=b.length:=by rw[<-hx];simp
 simp only[dq,p,Instr.storeAt,j,e9];simp[storeVar,h,r,hx,g]
theorem Gr(u:db)(fs:List AV):aa (jv u fs)=.agg u:=by
 unfold jv;split<;>rfl
theorem au8{t:AV}{c:List (db×Nat)}{x s d:AV}(hs:fX t c=some s)(a:ia t c x=some d)(e:aa s=aa x):aa d=aa t:=by
 cases c with
 |nil=>
  simp only[ia,i8]at a;subst a;have:s=t:=by
   cases t<;>simp[fX]at hs<;>exact hs.symm
  rw[<-e,this]
 |cons p r=>
  obtain⟨u,i⟩:=p;cases t<;>simp only[ia]at a
  case p t=>
   split at a
   case isFalse=>simp at a
   rename_i b
   split at a
   case h_2=>simp at a
   split at a
   case h_2=>simp at a
   simp only[i8]at a;subst a;rw[Gr];simp[aa,b]
  case st u' fs=>
   split at a
   case isFalse=>simp at a
   rename_i b
   split at a
   case h_2=>simp at a
   split at a
   case h_2=>simp at a
   simp only[i8]at a;subst a;rw[Gr];simp[aa,b]
  all_goals simp at a
theorem avz{T:db}{a x:dl}(z:o.op= .store T a x){H0:al}{K:aZ->Prop}(h:re P T H0 (ρ a) (ρ x) K):
 ∃e,K e/\bD P o ρ base e/\(∀p∈e.ar,H0[p.1]?=some p.2)/\(∀p∈e.aM,p.1<H0.length/\p.2≠.hole):=by
 unfold re at h;obtain⟨hk,aa,h⟩:=h
 split at h
 ·rename_i b ao M
  split at h
  case h_2=>exact h.elim
  rename_i t B
  split at h
  case h_2=>exact h.elim
  rename_i s j hs r;obtain⟨I,h⟩:=h;refine⟨_,h,?_,by simpa using B,by simpa using(hv.1 B).1⟩;intro H w ad ai β f l D ar _;have d:H[b]?=some (.box false t):=by simpa using ar
  obtain⟨g,_⟩:=D a (by simp[z,fw]);obtain⟨Z,L⟩:=D x (by simp[z,fw]);rw[M]at g;simp only[aB,bY,b7]at g;obtain⟨_,ah,Y,J,V,S,g⟩:=g;obtain⟨rfl,rfl⟩:=g (.inl ⟨false,t,d⟩);obtain⟨cs,A,k1,k2,k3,k4⟩:=l.dj b _ d;obtain⟨pre,xs,post,e1,e2,e3,e4⟩:=sS k2 hs S;have m:=Cy Z aa;have q:(f x).cells.toList.length=xs.length:=by rw[(qY m).1,(qY e3).1,I]
  have ac:cs.size=pre.length+xs.length+post.length:=by
   have:=congrArg hW e1;simp at this;omega
  have C:=Oc z V rfl (Ce hk m) k1 (Db m) o_;have aY:(cs.toList.take Y++(f x).cells.toList++cs.toList.drop (Y+(f x).cells.toList.length))=pre++(f x).cells.toList++post:=by
   rw[e1,q,<-e2];simp
  rw[aY]at C;have aO:cO β H β (H.set b (.box false j)):=sL d (.inl ⟨_,_,_,_,rfl,rfl⟩);have O:∀y,aL H y->aL (H.set b (.box false j)) y:=oJ d (fun _ h=>h);have W:∀k,ad k->(w.setRow (β.au b) (pre++(f x).cells.toList++post).toArray).heap[k]?=w.heap[k]?:=fun k R=>em w _ k _ (fun N=>k3.1 (N▸R));have U:=uq l d trivial (o':=.box false j) trivial (fun _ h=>h) k1 (new:=(pre++(f x).cells.toList++post).toArray) k3 aO
   ⟨_,A,ew w _ _ _ A _ k1,bC.mono (fun _ x=>x) W aO _ _ (zS r (l.refs b _ d) L) (e4 _ _ _ r m q),k3,s_,by rw[au8 hs r I];exact k4.2⟩
   (aF.mono O _ (zS r (l.refs b _ d) L))
  exact⟨_,_,_,β,ad,C,.inr ⟨rfl,rfl⟩,U,by simp[aB,aE,bG,undef],by simp[aF]⟩
 ·rename_i b az ak i ao M
  split at h
  case h_2=>exact h.elim
  rename_i k ay aw n B;obtain⟨rfl,rfl,af,hi,h⟩:=h
  split at h
  case h_2=>exact h.elim
  rename_i s j hs r;obtain⟨I,h⟩:=h;refine⟨_,h,?_,by simpa using B,by simpa using(hv.1 B).1⟩;intro H w ad ai β f l D ar _;have d:H[b]?=some (.arr k az ak n):=by simpa using ar
  obtain⟨g,_⟩:=D a (by simp[z,fw]);obtain⟨Z,L⟩:=D x (by simp[z,fw]);rw[M]at g;simp only[aB,bY,b7]at g;have G:¬dM k n:=fun hn=>by rw[hn.2]at hi;simp at hi
  obtain⟨_,ah,Y,J,V,S,g⟩:=g;obtain⟨rfl,rfl⟩:=g k n d G;rcases l.dj b _ d with hold|⟨cs,A,av,rest,k1,k2,k3,k4,k5,k6,k7,k8⟩
  ·exact(G hold).elim
  have ae:¬ad (β.au b)/\¬ai (β.au b):=by
   unfold cS at k7;rw[if_neg (by simpa using af)]at k7;exact k7
  obtain⟨u,c,F,r1,ap,ax,aq,au⟩:=DD k2 hi;obtain⟨pre,xs,post,e1,e2,e3,e4⟩:=sS aq hs S;have m:=Cy Z aa;have q:(f x).cells.toList.length=xs.length:=by rw[(qY m).1,(qY e3).1,I]
  have ab:cs.toList=(u++pre)++xs++(post++F++rest):=by rw[k3,r1,e1];simp
  have ac:cs.size=(u++pre).length+xs.length+(post++F++rest).length:=by
   have:=congrArg hW ab;simp at this⊢;omega
  have an:(u++pre).length=i*ak+J:=by simp[ap,e2]
  have C:=Oc z V rfl (Ce hk m) k1 (Db m) o_;have aY:(cs.toList.take (i*ak+J)++(f x).cells.toList++cs.toList.drop (i*ak+J+(f x).cells.toList.length))=(u++pre)++(f x).cells.toList++(post++F++rest):=by
   rw[ab,q,<-an,hG (u++pre),List.take_left',List.drop_append,hG]
   ·simp
   ·rfl
  rw[aY]at C;obtain⟨aj,c1,c2⟩:=au j _ (e4 _ _ _ r m q) (by rw[e1];simp[q]);have aO:cO β H β (H.set b (.arr k az ak (n.set i j))):=sL d (.inr (.inl ⟨_,_,_,_,_,rfl,rfl,s_⟩));have O:∀y,aL H y->aL (H.set b (.arr k az ak (n.set i j))) y:=oJ d (fun _ h=>h);have am:¬dM k (n.set i j):=fun hn=>G ⟨hn.1,by have:=hn.2;rw[List.set_eq_nil_iff]at this;exact this⟩;have ag:ba (aL H) (n.set i j):=by
   rw[df];intro v X;rcases hJ X with X|rfl
   ·exact df.1 (l.refs b _ d) v X
   ·exact zS r (df.1 (l.refs b _ d) _ (h5 hi)) L
  have W:∀E,ad E->(w.setRow (β.au b) ((u++pre)++(f x).cells.toList++(post++F++rest)).toArray).heap[E]?=w.heap[E]?:=fun E R=>em w _ E _ (fun N=>ae.1 (N▸R));have U:=uq l d G (o':=.arr k az ak (n.set i j)) am (fun _ h=>h) k1 (new:=((u++pre)++(f x).cells.toList++(post++F++rest)).toArray) ae aO
   (.inr ⟨_,A,aj,rest,ew w _ _ _ A _ k1,bX.mono (fun _ x=>x) W aO _ _ _ ag c2,by rw[c1];simp,by
    rw[<-k4,ac];simp[q];omega,by simpa using k5,fun Q=>by rw[k6 Q];simp,k7,(fun Q=>(af Q).elim),k8.2⟩)
   (ba.mono O _ ag)
  exact⟨_,_,_,β,ad,C,.inr ⟨rfl,rfl⟩,U,by simp[aB,aE,bG,undef],by simp[aF]⟩
 ·exact h.elim
end
section
variable{P:da}{w:dd}{ad ai:Nat->Prop}{β:Bd}{H:al}
theorem FL(P:da)(T:db):P.underlying T=(P.info? (P.underlyingId T)).map (fun i:eb=>i.desc):=by
 unfold gi gj;cases hi:P.info? T with
 |none=>simp[hi]
 |some i=>
  obtain⟨d,_,_,_,_,_,_,_,_,_⟩:=i;cases d<;>simp[hi]
theorem F4{T u:db}(h:kindOf P T=.agg u):u=P.underlyingId T/\(∃l,dS P u=some l)/\P.cellsOf T=P.cellsOf u:=by
 unfold kindOf at h
 split at h
 ·split at h
  ·rename_i hc;simp at h;subst h;simp at hc;exact⟨rfl,i7.1 hc.1,hc.2⟩
  ·simp at h
 ·split at h
  ·rename_i hc;simp at h;subst h;simp at hc;exact⟨rfl,i7.1 hc.1,hc.2⟩
  ·simp at h
 ·split at h<;>simp at h
 ·simp at h
theorem zt{T u:db}{n:Nat}(h:fB P T=some (u,n)):∃fs l,P.underlying T=some (.struct fs)/\fs.size=n/\kindOf P T= .agg u/\dS P u=some l/\l.length=n/\
 ∀(i:Nat)(_hi:i<n),∃f,fs[i]?=some f/\f.offset=(l.take i).sum/\l[i]?=some (P.cellsOf f.type)/\0<P.cellsOf f.type/\(lD P u)[i]?=some f.type:=by
 unfold fB at h
 split at h
 case h_2=>simp at h
 rename_i u' fs hk c;simp at h;obtain⟨rfl,rfl⟩:=h;obtain⟨g,⟨l,a⟩,_⟩:=F4 hk;refine⟨fs,l,c,rfl,hk,a,?_⟩;have b:(P.info? u').map (fun i:eb=>i.desc)=some (.struct fs):=by rw[g,<-FL,c]
 unfold dS at a;rw[b]at a;dsimp only at a
 split at a
 case isFalse=>simp at a
 rename_i hc;simp at a;simp only[c6,h6,decide_eq_true_eq,beq_iff_eq]at hc;obtain⟨⟨d,j⟩,e⟩:=hc;subst a;refine⟨s_,fun i hi=>?_⟩;refine⟨fs[i],by simp[hi],?_,by simp[hi],?_,?_⟩
 ·have:=e (fs[i],i) (by rw[List.mem_iff_getElem?];exact⟨i,by simp[hi]⟩);simpa using this
 ·have:=d (P.cellsOf fs[i].type) (by simp;exact⟨fs[i],s_,rfl⟩);exact this
 ·unfold lD;rw[b];simp[hi]
theorem xE{T u:db}{n:Nat}(h:jr P T=some (u,n)):∃e,P.underlying T=some (.array n e)/\kindOf P T=.agg u/\dS P u=some (hw n (P.cellsOf e))/\0<P.cellsOf e:=by
 unfold jr at h
 split at h
 case h_2=>simp at h
 rename_i u' g e hk b;simp at h;obtain⟨rfl,rfl⟩:=h;obtain⟨d,⟨l,a⟩,_⟩:=F4 hk;have c:(P.info? u').map (fun i:eb=>i.desc)=some (.array g e):=by rw[d,<-FL,b]
 have f:=a;unfold dS at a;rw[c]at a;dsimp only at a
 split at a
 case isFalse=>simp at a
 rename_i hc;simp at a hc;exact⟨e,b,hk,by rw[f,a],hc.1⟩
theorem Cf{p q:List (db×Nat)}{a b:Nat}(c:iv P p=some a)(e:iv P q=some b):iv P (p++q)=some (a+b):=by
 induction p generalizing a with
 |nil=>simp[iv]at c;subst c;simpa using e
 |cons x p f=>
  obtain⟨u,i⟩:=x;simp only[iv]at c;cases hz:dS P u with
  |none=>simp[hz]at c
  |some l=>
   cases d:iv P p with
   |none=>simp[hz,d]at c
   |some a'=>
    simp[hz,d]at c;obtain⟨hi,rfl⟩:=c;simp only[hU,iv,hz,f d,if_pos hi];congr 1;omega
theorem Ck{u:db}{i:Nat}{l:List Nat}(a:dS P u=some l)(hi:i<l.length):iv P [(u,i)]=some (l.take i).sum:=by
 simp[iv,a,hi]
variable{o:Oper}{ρ:dl->AV}{base:Nat}
theorem mC(au off n:Nat):(⟨au,off,none⟩:Addr).add n=⟨au,off+n,none⟩:=by unfold Addr.add;split<;>simp_all
theorem XR{T:db}{a:dl}{f:Nat}(v:o.op= .fieldAddr T a f){K:aZ->Prop}(h:qU P T (ρ a) f K):
 ∃e,K e/\bD P o ρ base e/\e.ar=[]/\e.aM=[]:=by
 unfold qU at h
 split at h
 case h_2=>exact h.elim
 rename_i u n aO;obtain⟨hf,h⟩:=h;obtain⟨fs,l,J,hn,hk,F,N,D⟩:=zt aO;obtain⟨fd,g1,g2,g3,g4,g5⟩:=D f hf;have y:=Ck F (by omega:f<l.length);have A:∀(w:dd)(d:dl->c9)(au off:Nat),d a=.pointer (some ⟨au,off,none⟩)->(dq d o).run P w=.ok (.value (.pointer (some ⟨au,off+(l.take f).sum,none⟩))) w:=by
  intro w d au off m;obtain⟨i,hi⟩:∃i,P.info? fd.type=some i:=by
   cases hi:P.info? fd.type with
   |none=>simp[gg,hi]at g4
   |some i=>exact⟨i,rfl⟩
  have I:(sizeOf fd.type).run P w=.ok (P.cellsOf fd.type) w:=by simp[sizeOf,typeInfo,hi,gg]
  simp only[dq,v];refine fI ?_;have G:¬P.cellsOf fd.type=0:=o_
  simp[Instr.fieldAt,dg J,g1,m,e9,fieldPlace,I,G,mC,g2]
 split at h
 ·rename_i b M m;refine⟨_,h,bD.same fun H w ad ai β d C r _=>?_,rfl,rfl⟩;obtain⟨c,j⟩:=r a (by simp[v,fw]);rw[m]at c j;simp only[aB,bY,b7,aF]at c j;obtain⟨_,au,off,L,z,x,p⟩:=c;refine⟨_,A w d _ _ z,?_,by simpa[aF]using j⟩;simp only[aB,bY,b7];exact⟨rfl,_,_,_,rfl,Cf x y,fun q=>⟨(p q).1,by rw[(p q).2]⟩⟩
 ·rename_i b az ak i M m;refine⟨_,h,bD.same fun H w ad ai β d C r _=>?_,rfl,rfl⟩;obtain⟨c,j⟩:=r a (by simp[v,fw]);rw[m]at c j;simp only[aB,bY,b7,aF]at c j;obtain⟨_,au,off,L,z,x,p⟩:=c;refine⟨_,A w d _ _ z,?_,by simpa[aF]using j⟩;simp only[aB,bY,b7];exact⟨rfl,_,_,_,rfl,Cf x y,fun k B q hn=>⟨(p k B q hn).1,by rw[(p k B q hn).2];omega⟩⟩
 ·rename_i t m;obtain⟨hs,h⟩:=h
  split at h
  case h_2=>exact h.elim
  rename_i g E;refine⟨_,h,?_,rfl,rfl⟩;refine bD.same fun H w ad ai β d C r _=>?_;obtain⟨c,_⟩:=r a (by simp[v,fw]);rw[m]at c;simp only[aB,aE]at c;obtain⟨au,off,O,k1,k2,k3,k4⟩:=c;refine⟨_,A w d _ _ k4,?_,by simp[aF]⟩;obtain⟨pre,xs,post,e1,e2,e3⟩:=CY (path:=[(u,f)]) (s:=g) k1 (by simp[ng,hs,E]) y;simp only[aB,aE];refine⟨au,off+(l.take f).sum,xs,e3,k2,?_,rfl⟩;intro i hi;have:=k3 (pre.length+i) (by rw[e1];simp;omega);rw[<-e2,i2,this];congr 1;simp only[e1,hG];rw[hX o_];simp only[iA];rw[hZ hi]
 ·exact h.elim
end
section
variable{P:da}{w:dd}{ad ai:Nat->Prop}{β:Bd}{H:al}
variable{o:Oper}{ρ:dl->AV}{base:Nat}
theorem xf{au off:Nat}{a pre xs post:List c9}(h:jc w au off a)(e:a=pre++xs++post):jc w au (off+pre.length) xs:=by
 intro i hi;have:=h (pre.length+i) (by rw[e];simp;omega);rw[i2,this];congr 1;simp only[e,hG];rw[hX o_];simp only[iA];rw[hZ hi]
structure uz(P:da)(T:db)(sz:Nat)(e:db)(i:eb):Prop where
 iJ:P.underlying T=some (.slice e)
 info:P.info? e=some i
 size:i.size=sz
 pos:0<sz
 bytes:i.bytes<32768
 aSv:0<i.bytes
 tY:fy P T=e
theorem mw{T:db}{sz:Nat}(h:c7 P T=some sz):∃e i,uz P T sz e i:=by
 unfold c7 at h
 split at h
 case h_2=>simp at h
 rename_i e a
 split at h
 case h_2=>simp at h
 rename_i i hi
 split at h
 case isFalse=>simp at h
 rename_i hc;simp at h;subst h;exact⟨e,i,a,hi,rfl,hc.2.1,hc.1,hc.2.2,by simp[fy,a]⟩
theorem uz.run{T:db}{sz:Nat}{e:db}{i:eb}(h:uz P T sz e i)(w:dd):(sizeOf e).run P w=.ok sz w:=by
 simp[sizeOf,typeInfo,h.info,h.size]
theorem XQ{T:db}{x R:dl}(B:o.op= .indexAddr T x R){H0:al}{K:aZ->Prop}(h:qS P T H0 (ρ x) (ρ R) K):
 ∃e,K e/\bD P o ρ base e/\(∀p∈e.ar,H0[p.1]?=some p.2)/\e.aM=[]:=by
 unfold qS at h
 split at h
 case h_2=>exact h.elim
 rename_i an n ag;obtain⟨C,h⟩:=h;have E:x∈o.op.operands:=by simp[B,fw]
 have ah:R∈o.op.operands:=by simp[B,fw]
 have D:∀{H:al}{w:dd}{ad:Nat->Prop}{β:Bd}{z:dl->c9},(∀y∈o.op.operands,aB P w ad β H (ρ y) (z y)/\aF (aL H) (ρ y))->z R=.int an n:=by
  intro H w ad β z f;have:=(f R ah).1;rw[ag]at this;simpa[aB,aE]using this
 split at h
 ·
  rename_i full d hx;obtain⟨j,r,h⟩:=h;obtain⟨e,ae,A⟩:=mw r;refine⟨_,h,bD.same fun H w ad ai β z N f _=>?_,s_,rfl⟩;obtain⟨a,_⟩:=f x E;rw[hx]at a;simp only[aB,aE]at a;obtain⟨au,off,cap,ak,U,k1,k2,k3,k4,k5,sp,Z,k6⟩:=a;obtain rfl:sp=none:=Z.resolve_right o_;have Y:Row P w ad ⟨id,id⟩ [] ak (d.map .p) U:=oI.2 k1;obtain⟨pre,c,post,r1,aa,ab,S,_⟩:=DD Y (i:=n.toNat) (by simpa using j);have L:bd P w ad d[n.toNat] c:=by
   have:(d.map AV.p)[n.toNat]'(by simpa using j)=.p d[n.toNat]:=s_
   rw[this]at S;simpa only[bC]using S
  have V:bU P (aK d[n.toNat])=ak:=by rw[<-(sH L).1,ab]
  refine⟨.pointer (some ⟨au,off+n.toNat*ak,none⟩),?_,?_,by simp[aF]⟩
  ·simp only[dq,B];refine fI ?_;have q:n<(d.length:Int):=by omega
   simp[fb,D f,asIntOf,dg A.iJ,k6,C,q,A.run,V,mC]
  ·simp only[aB,aE];refine⟨au,off+n.toNat*ak,c,L,k2 (by intro hn;rw[hn]at j;simp at j),?_,rfl⟩;rw[<-aa];exact xf k3 r1
 ·
  rename_i d hx;obtain⟨j,r,h⟩:=h;obtain⟨e,ae,A⟩:=mw r;refine⟨_,h,bD.same fun H w ad ai β z N f _=>?_,s_,rfl⟩;obtain⟨a,_⟩:=f x E;rw[hx]at a;simp only[aB,aE]at a;rcases a with⟨rfl,_⟩|⟨au,off,cap,ak,U,k1,k2,k3,k5,sp,Z,k6⟩
  ·simp at j
  obtain rfl:sp=none:=Z.resolve_right o_;have Y:Row P w ad ⟨id,id⟩ [] ak (d.map .p) U:=oI.2 k1;obtain⟨pre,c,post,r1,aa,ab,S,_⟩:=DD Y (i:=n.toNat) (by simpa using j);have L:bd P w ad d[n.toNat] c:=by
   have:(d.map AV.p)[n.toNat]'(by simpa using j)=.p d[n.toNat]:=s_
   rw[this]at S;simpa only[bC]using S
  have V:bU P (aK d[n.toNat])=ak:=by rw[<-(sH L).1,ab]
  refine⟨.pointer (some ⟨au,off+n.toNat*ak,none⟩),?_,?_,by simp[aF]⟩
  ·simp only[dq,B];refine fI ?_;have q:n<(d.length:Int):=by omega
   simp[fb,D f,asIntOf,dg A.iJ,k6,C,q,A.run,V,mC]
  ·simp only[aB,aE];refine⟨au,off+n.toNat*ak,c,L,k2 (by intro hn;rw[hn]at j;simp at j),?_,rfl⟩;rw[<-aa];exact xf k3 r1
 ·
  rename_i b az ak off len hx;obtain⟨r,j,h⟩:=h;obtain⟨e,ae,A⟩:=mw r
  split at h
  case h_2=>exact h.elim
  rename_i k aA av d am;obtain⟨rfl,rfl,aj,h⟩:=h;refine⟨_,h,bD.same fun H w ad ai β z N f ar=>?_,by simpa using am,rfl⟩;obtain⟨a,l⟩:=f x E;rw[hx]at a l;simp only[aB,bY,b7,aF]at a l;have ac:H[b]?=some (.arr k az ak d):=by simpa using ar
  obtain⟨g1,g2,g3⟩:=a.2 k d ac;have g3:=g3 aj;refine⟨.pointer (some ⟨β.au b,off*ak+n.toNat*ak,none⟩),?_,?_,by simpa[aF]using l⟩
  ·simp only[dq,B];refine fI ?_;have q:n<(len:Int):=by omega
   simp[fb,D f,asIntOf,dg A.iJ,g3,C,q,A.run,mC]
  ·simp only[aB,bY,b7];refine⟨rfl,_,_,0,rfl,rfl,fun ax aq v aw=>?_⟩;unfold gn at v;rw[ac]at v;cases v;exact⟨rfl,by rw[Nat.add_mul];simp⟩
 ·
  rename_i b ap hx
  split at h
  case h_2=>exact h.elim
  rename_i u m F;obtain⟨j,h⟩:=h;obtain⟨e,Q,hk,G,M⟩:=xE F;refine⟨_,h,bD.same fun H w ad ai β z N f _=>?_,s_,rfl⟩;obtain⟨a,l⟩:=f x E;rw[hx]at a l;simp only[aB,bY,b7,aF]at a l;obtain⟨_,au,off,ao,X,W,v⟩:=a;have J:=Ck G (i:=n.toNat) (by simpa using j);have O:((hw m (P.cellsOf e)).take n.toNat).sum=n.toNat*P.cellsOf e:=by rw[hE,ix o_,hC]
  have r:(sizeOf e).run P w=.ok (P.cellsOf e) w:=by
   cases hi:P.info? e with
   |none=>simp[gg,hi]at M
   |some i=>simp[sizeOf,typeInfo,hi,gg]
  refine⟨.pointer (some ⟨au,off+n.toNat*P.cellsOf e,none⟩),?_,?_,by simpa[aF]using l⟩
  ·simp only[dq,B];refine fI ?_;have q:n<(m:Int):=by omega
   simp[fb,D f,asIntOf,dg Q,X,e9,C,q,r,mC]
  ·simp only[aB,bY,b7];exact⟨rfl,_,_,_,rfl,Cf W J,fun I=>⟨(v I).1,by rw[(v I).2,O]⟩⟩
 ·rename_i b az ak i ap hx
  split at h
  case h_2=>exact h.elim
  rename_i u m F;obtain⟨j,h⟩:=h;obtain⟨e,Q,hk,G,M⟩:=xE F;refine⟨_,h,bD.same fun H w ad ai β z N f _=>?_,s_,rfl⟩;obtain⟨a,l⟩:=f x E;rw[hx]at a l;simp only[aB,bY,b7,aF]at a l;obtain⟨_,au,off,ao,X,W,v⟩:=a;have J:=Ck G (i:=n.toNat) (by simpa using j);have O:((hw m (P.cellsOf e)).take n.toNat).sum=n.toNat*P.cellsOf e:=by rw[hE,ix o_,hC]
  have r:(sizeOf e).run P w=.ok (P.cellsOf e) w:=by
   cases hi:P.info? e with
   |none=>simp[gg,hi]at M
   |some i=>simp[sizeOf,typeInfo,hi,gg]
  refine⟨.pointer (some ⟨au,off+n.toNat*P.cellsOf e,none⟩),?_,?_,by simpa[aF]using l⟩
  ·simp only[dq,B];refine fI ?_;have q:n<(m:Int):=by omega
   simp[fb,D f,asIntOf,dg Q,X,e9,C,q,r,mC]
  ·simp only[aB,bY,b7];exact⟨rfl,_,_,_,rfl,Cf W J,fun k d I hn=>⟨(v k d I hn).1,by rw[(v k d I hn).2,O];omega⟩⟩
 ·rename_i t hx
  split at h
  case h_2=>exact h.elim
  rename_i u m F;obtain⟨hs,j,h⟩:=h
  split at h
  case h_2=>exact h.elim
  rename_i g af;obtain⟨e,Q,hk,G,M⟩:=xE F;refine⟨_,h,bD.same fun H w ad ai β z N f _=>?_,s_,rfl⟩;obtain⟨a,_⟩:=f x E;rw[hx]at a;simp only[aB,aE]at a;obtain⟨au,off,ay,k1,k2,k3,k4⟩:=a;have J:=Ck G (i:=n.toNat) (by simpa using j);have O:((hw m (P.cellsOf e)).take n.toNat).sum=n.toNat*P.cellsOf e:=by rw[hE,ix o_,hC]
  have r:(sizeOf e).run P w=.ok (P.cellsOf e) w:=by
   cases hi:P.info? e with
   |none=>simp[gg,hi]at M
   |some i=>simp[sizeOf,typeInfo,hi,gg]
  obtain⟨pre,xs,post,e1,e2,e3⟩:=CY (path:=[(u,n.toNat)]) (s:=g) k1 (by simp[ng,hs,af]) J;refine⟨.pointer (some ⟨au,off+n.toNat*P.cellsOf e,none⟩),?_,?_,by simp[aF]⟩
  ·simp only[dq,B];refine fI ?_;have q:n<(m:Int):=by omega
   simp[fb,D f,asIntOf,dg Q,k4,e9,C,q,r,mC]
  ·simp only[aB,aE];refine⟨au,_,xs,e3,k2,?_,rfl⟩;rw[<-O,<-e2];exact xf k3 e1
 ·exact h.elim
theorem aQZ{bs:ByteArray}{s:List Nat}(h:s=bs.data.toList.map (·.toNat)){i:Nat}(hi:i<s.length):∃b:UInt8,bs[i]?=some b/\b.toNat=s[i]:=by
 subst h;have a:i<bs.size:=by simpa using hi
 refine⟨bs[i],by simp[a],?_⟩;simp only[List.getElem_map,b4];rfl
theorem YR{T:db}{x f:dl}{s:List Nat}{k:ei}{n:Int}(e:o.op= .index T x f)(hx:ρ x= .p (.str s))(hi:ρ f= .p (.int k n))(d:jM P T=true)(i:0<=n)(g:n.toNat<s.length):
 bD P o ρ base {v:=.p (.int .u8 (s[n.toNat]'g))}:=by
 refine bD.same fun H w ad ai β m l h _=>?_;have a:=(h x (by simp[e,fw])).1;have c:=(h f (by simp[e,fw])).1;rw[hx]at a;rw[hi]at c;simp only[aB,aE]at a c;obtain⟨bs,e1,e2⟩:=a;obtain⟨b,g1,g2⟩:=aQZ e2 g;have j:P.underlying T=some .string:=by
  unfold jM at d
  split at d
  ·assumption
  ·simp at d
 refine⟨.int .u8 b.toNat,?_,by simp[aB,aE,g2],by simp[aF]⟩;simp only[dq,e,e1,c];refine fI ?_;simp[Instr.index,asIntOf,dg j,i,g1]
theorem Zd{S D:db}{x:dl}{k k0:ei}{n:Int}(b:o.op= .convert S D x)(e:∃d,P.underlying S=some d)(c:P.underlying D=some (.int k))(hx:ρ x= .p (.int k0 n)):
 bD P o ρ base {v:=.p (.int k (k.wrap n))}:=by
 refine bD.same fun H w ad ai β i h g _=>?_;have a:=(g x (by simp[b,fw])).1;rw[hx]at a;simp only[aB,aE]at a;obtain⟨d,f⟩:=e;refine⟨.int k (k.wrap n),?_,by simp[aB,aE],by simp[aF]⟩;simp only[dq,b,a];refine fI ?_;simp[convert,dg f,dg c,Conv.intToInt]
theorem Zc{S D:db}{x:dl}{s:List Nat}(b:o.op= .convert S D x)(e:∃d,P.underlying S=some d)(c:P.underlying D=some .string)(hx:ρ x= .p (.str s)):
 bD P o ρ base {v:=.p (.str s)}:=by
 refine bD.same fun H w ad ai β i h g _=>?_;have a:=(g x (by simp[b,fw])).1;rw[hx]at a;simp only[aB,aE]at a;obtain⟨bs,e1,e2⟩:=a;obtain⟨d,f⟩:=e;refine⟨.string bs,?_,by simp only[aB,aE];exact⟨bs,rfl,e2⟩,by simp[aF]⟩;simp only[dq,b,e1];refine fI ?_;simp only[convert,g0,dg f,dg c,gy];cases d<;>simp
theorem Z2{b az ak off len:Nat}{k:AK}{d:List AV}{v:c9}(h:aB P w ad β H (.sl b az ak off len) v)(i:H[b]?=some (.arr k az ak d)):∃a c,v=.slice a len c:=by
 simp only[aB,bY,b7]at h;obtain⟨e,f,g⟩:=h.2 k d i
 by_cases hn:dM k d
 ·rw[f hn];have:len=0:=by rw[hn.2]at e;simp at e;omega
  subst this;exact⟨_,_,rfl⟩
 ·exact⟨_,_,g hn⟩
theorem Gb:∀{b:List (PV×PV)}{a:List eo},cT P w ad b a->a.length=b.length
 |[],a,h=>by simp only[cT]at h;subst h;rfl
 |(k,v)::r,a,h=>by
  simp only[cT]at h;obtain⟨e,rest,rfl,d,f,c⟩:=h;simp[Gb c]
theorem aPz{c:Call}{x:dl}{n:Nat}{ar:List (Nat×Obj)}{H0:al}(F:o.op= .call c)(hc:c.callee= .builtin .len)(D:c.args.toList=[x])(i:lenOf H0 (ρ x)=some (n,ar))(d:jj P (c.argTypes.getD 0 0) (ρ x)=true)(N:0<c.argTypes.size):
 bD P o ρ base {v:=.p (.int .i64 n),ar}/\(∀p∈ar,H0[p.1]?=some p.2):=by
 have u:x∈o.op.operands:=by
  rw[F];simp only[fw,Call.operands,hc];simp;rw[<-b0,D];simp
 have I:c.args=#[x]:=by apply ck;simpa using D
 have q:c.argTypes[0]?=some (c.argTypes.getD 0 0):=by simp[ce,N]
 have t:∀{H:al}{w:dd}{ad:Nat->Prop}{β:Bd}{m:dl->c9},((eM c.argTypes o.type #[m x]).run P w= .ok (goInt n) w)->
  ∃cv,(dq m o).run P w=.ok (.value cv) w/\aB P w ad β H (.p (.int .i64 n)) cv/\aF (aL H) (.p (.int .i64 n)):=by
  intro H w ad β m K;refine⟨goInt n,?_,by simp[aB,aE,goInt],by simp[aF]⟩;simp only[dq,F,resolve,hc,I];simp[invoke,builtin,K]
 have M:∀T:db,jM P T=true->P.underlying T=some .string:=by
  intro T h;unfold jM at h
  split at h
  ·assumption
  ·simp at h
 generalize Q:c.argTypes.getD 0 0=T at*;unfold lenOf at i
 split at i
 ·rename_i s hx;simp at i;obtain⟨rfl,rfl⟩:=i;rw[hx]at d;simp only[jj]at d;refine⟨bD.same fun H w ad ai β m y j _=>t ?_,s_⟩;have g:=(j x u).1;rw[hx]at g;simp only[aB,aE]at g;obtain⟨bs,e1,e2⟩:=g;have hs:s.length=bs.size:=by rw[e2];simp
  simp[eM,q,dg (M _ d),e1,hs]
 ·rename_i hx;simp at i;obtain⟨rfl,rfl⟩:=i;rw[hx]at d;refine⟨bD.same fun H w ad ai β m y j _=>t ?_,s_⟩;have g:=(j x u).1;rw[hx]at g;simp only[aB,aE]at g;simp only[jj]at d
  split at d
  ·rename_i e l;simp[eM,q,dg l,g]
  ·simp at d
 ·rename_i hx;simp at i;obtain⟨rfl,rfl⟩:=i;rw[hx]at d;refine⟨bD.same fun H w ad ai β m y j _=>t ?_,s_⟩;have g:=(j x u).1;rw[hx]at g;simp only[aB,aE]at g;simp only[jj]at d
  split at d
  ·rename_i k e l;simp[eM,q,dg l,g]
  ·simp at d
 ·rename_i f z hx;simp at i;obtain⟨rfl,rfl⟩:=i;rw[hx]at d;refine⟨bD.same fun H w ad ai β m y j _=>t ?_,s_⟩;have g:=(j x u).1;rw[hx]at g;simp only[aB,aE]at g;obtain⟨au,off,cap,ak,G,k1,k2,k3,k4,k5,sp,L,k6⟩:=g;simp only[jj]at d
  split at d
  ·rename_i e l;simp[eM,q,dg l,k6]
  ·simp at d
 ·rename_i z hx;simp at i;obtain⟨rfl,rfl⟩:=i;rw[hx]at d;refine⟨bD.same fun H w ad ai β m y j _=>t ?_,s_⟩;have g:=(j x u).1;rw[hx]at g;simp only[aB,aE]at g;simp only[jj]at d
  split at d
  ·rename_i e l;rcases g with⟨rfl,k6⟩|⟨au,off,cap,ak,G,k1,k2,k3,k5,sp,L,k6⟩
   ·simp[eM,q,dg l,k6]
   ·simp[eM,q,dg l,k6]
  ·simp at d
 ·rename_i z hx;simp at i;obtain⟨rfl,rfl⟩:=i;rw[hx]at d;refine⟨bD.same fun H w ad ai β m y j _=>t ?_,s_⟩;have g:=(j x u).1;rw[hx]at g;simp only[aB,aE]at g;obtain⟨r,A,clock,k1,k2,k3,k4⟩:=g;simp only[jj]at d
  split at d
  ·rename_i k e l;have:=Gb k3;have B:(getObj r).run P w=.ok (.map A clock) w:=by simp[getObj,g8,k2]
   simp at this;simp[eM,q,dg l,k4,B,this]
  ·simp at d
 ·rename_i b az ak off len hx
  split at i
  case h_2=>simp at i
  rename_i k R O z C
  split at i
  case isFalse=>simp at i
  rename_i J;obtain⟨rfl,rfl⟩:=J;simp at i;obtain⟨rfl,rfl⟩:=i;rw[hx]at d;refine⟨bD.same fun H w ad ai β m y j ar=>t ?_,by simpa using C⟩;have g:=(j x u).1;rw[hx]at g;obtain⟨a,cp,e1⟩:=Z2 g (by simpa using ar);simp only[jj]at d
  split at d
  ·rename_i e l;simp[eM,q,dg l,e1]
  ·simp at d
 ·rename_i b hx
  split at i
  case h_2=>simp at i
  rename_i fz z C;simp at i;obtain⟨rfl,rfl⟩:=i;rw[hx]at d;refine⟨bD.same fun H w ad ai β m y j ar=>t ?_,by simpa using C⟩;have g:=(j x u).1;rw[hx]at g;simp only[aB,bY,b7]at g;have E:H[b]?=some (.map fz z):=by simpa using ar
  obtain⟨A,clock,k2,k3,_⟩:=y.dj b _ E;have e1:=g.2.1 ⟨_,E,trivial⟩;simp only[jj]at d
  split at d
  ·rename_i k e l;have:=Gb k3;have B:(getObj (β.au b)).run P w=.ok (.map A clock) w:=by simp[getObj,g8,k2]
   simp at this;simp[eM,q,dg l,e1,B,this]
  ·simp at d
 ·simp at i
end
section
variable{P:da}{w:dd}{ad ai:Nat->Prop}{β:Bd}{H:al}
variable{o:Oper}{ρ:dl->AV}{base:Nat}
theorem PQ:∀(a:List c9)(off j:Nat)(cells:Array c9),off+j+a.length<=cells.size->
 ((a.zipIdx j).foldl (fun cs(p:c9×Nat)=>cs.setIfInBounds (off+p.2) p.1) cells).toList=cells.toList.take (off+j)++a++cells.toList.drop (off+j+a.length)
 |[],off,j,cells,_=>by simp
 |x::a,off,j,cells,h=>by
  simp only[List.zipIdx_cons,List.foldl_cons];rw[PQ a off (j+1) _ (by simp at h⊢;omega)];simp only[Array.toList_setIfInBounds,hR];have d:off+j<cells.toList.length:=by simp at h⊢;omega
  rw[show off+(j+1)=off+j+1 by omega];have b:(cells.toList.set (off+j) x).take (off+j+1)=cells.toList.take (off+j)++[x]:=by
   rw[List.take_succ_eq_append_getElem (by simpa using d)];rw[List.take_set_of_le (ip _)];simp
  have c:(cells.toList.set (off+j) x).drop (off+j+1+a.length)=cells.toList.drop (off+j+(a.length+1)):=by
   rw[List.drop_set_of_lt o_];congr 1;omega
  rw[b,c];simp
theorem X9{a c post b:List c9}(h:b.length=c.length):((a++c++post).take a.length++b++(a++c++post).drop (a.length+b.length))=a++b++post:=by
 rw[h];simp
theorem F8{l:List Nat}{place:Nat->Option (Nat×Nat)}(q:∀i n,l[i]?=some n->place i=some ((l.take i).sum,n)):
 ∀{parts:List (Nat×AV)}{g:List (Nat×c9)}{fs:List AV}{e:List (List c9)}{cells:Array c9},g.map js=parts.map js->(∀i:Nat,aB P w ad β H (((parts[i]?).map jp).getD (.p .undef)) (((g[i]?).map jp).getD undef))->
  n9 P l parts->bX P w ad β H l fs e->cells.toList=e.flatten->
  ∃f j,fm place cells g=some f/\bX P w ad β H l (jK fs parts) j/\f.toList=j.flatten
 |[],[],fs,e,cells,_,_,_,h,hc=>⟨cells,e,rfl,h,hc⟩
 |[],_::_,_,_,_,b,_,_,_,_=>by simp at b
 |_::_,[],_,_,_,b,_,_,_,_=>by simp at b
 |(i,a)::parts,(d,v)::g,fs,e,cells,b,r,m,h,hc=>by
  simp only[hM,List.cons.injEq]at b;obtain⟨rfl,b⟩:=b;simp only[n9]at m;obtain⟨⟨n,hn,hs,y⟩,m⟩:=m;have D:aB P w ad β H a v:=by simpa using r 0
  have u:=fun k=>r (k+1);simp only[h0]at u;have I:=Ch h;have G:d<l.length:=(hv.1 hn).1;have z:d<fs.length:=o_
  obtain⟨pre,c,post,e1,e2,e3,e4,e5,e6⟩:=xK h (hD z);have F:c.length=n:=by rw[hn]at e4;simpa using e4.symm
  have s:=Cy D y;have t:v.cells.toList.length=n:=by rw[(qY s).1,hs]
  obtain⟨j,k1,k2⟩:=e6 a _ s o_;have C:cells.size=pre.length+c.length+post.length:=by
   have:=congrArg hW (hc.trans e1);simp at this;omega
  have E:v.cells.size=n:=by simpa using t
  obtain⟨ru,o⟩:∃ru,(v.cells.zipIdx.foldl (fun cs(p:c9×Nat)=>cs.setIfInBounds ((l.take d).sum+p.2) p.1) cells)=ru:=⟨_,rfl⟩
  have A:ru.toList=j.flatten:=by
   rw[<-o,k1];have:=PQ v.cells.toList (l.take d).sum 0 cells (by rw[<-e2];simp at t⊢;omega);rw[<-cb];simp only[Array.toList_zipIdx];rw[this,hc,e1,i0,<-e2];exact X9 o_
  obtain⟨f,x,g1,g2,g3⟩:=F8 q b u m k2 A;refine⟨f,x,?_,by simpa only[jK]using g2,g3⟩;have B:¬(v.cells.size≠n\/(l.take d).sum+v.cells.size>cells.size):=by
   rw[E,C,<-e2];omega
  simp only[fm,q d n hn];simp only[Bool.or_eq_true,decide_eq_true_eq,B,if_false];simp only[<-o]at g1;exact g1
end
section
variable{P:da}{w:dd}{ad ai:Nat->Prop}{β:Bd}{H:al}
variable{o:Oper}{ρ:dl->AV}{base:Nat}
theorem MF{α γ:Type}(f:α->Sem γ)(g:α->γ)(w:dd):∀l:List α,(∀a∈l,(f a).run P w=.ok (g a) w)->(l.mapM f).run P w=.ok (l.map g) w
 |[],_=>by simp
 |a::l,h=>by
  simp only[h9,g0,h a s_,gy,MF f g w l (fun b c=>h b (by simp[c])),hM];rfl
theorem XC{α γ:Type}(f:α->Sem γ)(g:α->γ)(w:dd)(a:Array α)(h:∀x∈a.toList,(f x).run P w=.ok (g x) w):(a.mapM f).run P w=.ok (a.toList.map g).toArray w:=by
 rw[b2,g9,MF f g w _ h];rfl
theorem ON{ρc:dl->c9}{parts:Array (Nat×dl)}(h:∀p∈parts.toList,aB P w ad β H (ρ p.2) (ρc p.2)):
 ((parts.map fun(i,x)=>(i,ρc x)).toList).map js=(parts.toList.map fun(i,x)=>(i,ρ x)).map js/\
 ∀i:Nat,aB P w ad β H ((((parts.toList.map fun(i,x)=>(i,ρ x))[i]?).map jp).getD (.p .undef)) ((((parts.map fun(i,x)=>(i,ρc x)).toList[i]?).map jp).getD undef):=by
 refine⟨by simp[Function.comp_def],fun i=>?_⟩;simp only[cc,h4];cases a:parts.toList[i]? with
 |none=>simp[aB,aE]
 |some p=>simpa using h p (hH a)
theorem GA{S:Nat×Nat->Prop}:∀{parts:List (Nat×AV)}{fs:List AV},ba S fs->(∀p∈parts,aF S p.2)->ba S (jK fs parts)
 |[],fs,h,_=>h
 |(i,v)::r,fs,h,a=>by
  simp only[jK];refine GA ?_ (fun p b=>a p (by simp[b]));rw[df]at h⊢;intro x hx;rcases hJ hx with hx|rfl
  ·exact h x hx
  ·exact a (i,x) s_
theorem OO{c:Array (Nat×dl)}{p:Nat×dl}(a:p∈c.toList):p.2∈((c.toList.map (·.2)).toArray:Array dl):=by
 simp;exact⟨p.1,by simpa using a⟩
theorem avE{T u:db}{z:PV}{l:List Nat}{parts:Array (Nat×dl)}(s:o.op= .build T parts)(hk:kindOf P T= .agg u)(hz:cF P T=some z)(m:dS P u=some l)(hs:aK z= .agg u)
 (L:n9 P l (parts.toList.map fun(i,x)=>(i,ρ x))):bD P o ρ base {v:=jv u (jK ((cm z).map .p) (parts.toList.map fun(i,x)=>(i,ρ x)))}:=by
 obtain⟨i,Y,z1,z2,z3,z4⟩:=uu hz;refine bD.same fun H w ad ai β g ac Q _=>?_;have D:∀p∈parts.toList,aB P w ad β H (ρ p.2) (g p.2)/\aF (aL H) (ρ p.2):=fun p c=>Q p.2 (by rw[s];exact OO c);obtain⟨S,U⟩:=ON (ρ:=ρ) (ρc:=g) (parts:=parts) (fun p c=>(D p c).1);have E:=z3 w ad;obtain⟨fs,rfl⟩:∃fs,z=.st u fs:=by cases z<;>simp[aK]at hs;subst hs;exact⟨_,rfl⟩
 simp only[bd]at E;obtain⟨R,Z,q1,V,W⟩:=E;rw[m]at q1;cases q1
 have B:∀t:Nat->Option (Nat×Nat),(∀i n,l[i]?=some n->t i=some ((l.take i).sum,n))->
  (∀cells,fm t Y.cells (parts.map fun(i,x)=>(i,g x)).toList=some cells->(dq g o).run P w=.ok (.value (.agg cells)) w)->
  ∃cv,(dq g o).run P w=.ok (.value cv) w/\aB P w ad β H (jv u (jK ((cm (.st u fs)).map .p) (parts.toList.map fun(i,x)=>(i,ρ x)))) cv/\
   aF (aL H) (jv u (jK ((cm (.st u fs)).map .p) (parts.toList.map fun(i,x)=>(i,ρ x)))):=by
  intro t M O;obtain⟨I,J,g1,g2,g3⟩:=F8 M S U L (qX.2 V) W;refine⟨.agg I,O _ g1,?_,FN (GA (kj _ _) ?_)⟩
  ·rw[awS];simp only[aB];exact⟨l,J,m,g2,by rw[<-g3]⟩
  ·intro p c;simp only[ii]at c;obtain⟨q,hq,rfl⟩:=c;exact(D q hq).2
 have d:=hk;unfold kindOf at d
 split at d
 ·rename_i a b;have aO:fB P T=some (u,a.size):=by unfold fB;rw[hk,b]
  obtain⟨aa,R,s1,s2,y,r,X,F⟩:=zt aO;rw[b]at s1;cases s1;rw[m]at r;cases r;have N:(a.mapM fun f=>(do pure (f.offset,<-sizeOf f.type):Sem (Nat×Nat))).run P w=.ok (a.toList.map fun f:Field=>(f.offset,P.cellsOf f.type)).toArray w:=by
   refine XC _ _ w _ (fun f hf=>?_);obtain⟨j,k,rfl⟩:=List.mem_iff_getElem.1 hf;obtain⟨A,g1,g2,g3,g4,g5⟩:=F j (by simpa using k);have:a[j]'(by simpa using k)=A:=by
    have C:a[j]?=some (a[j]'(by simpa using k)):=Array.getElem?_eq_getElem (by simpa using k);rw[g1]at C;exact(i9 C).symm
   simp only[b4,this];simp[G g4]
  refine B (fun i=>(a.toList.map fun f:Field=>(f.offset,P.cellsOf f.type)).toArray[i]?) ?_ (fun cells hc=>?_)
  ·intro i n hn;have hi:i<a.size:=by rw[<-X];exact(hv.1 hn).1
   obtain⟨A,g1,g2,g3,g4,g5⟩:=F i hi;rw[hn]at g3;simp only[List.getElem?_toArray,h4,bv,g1];simp[g2,i9 g3]
  ·simp only[dq,s];refine fI ?_;simp only[fv,g0,xp z1 z2,gy,dg b,N,hc,g7]
 ·rename_i n e b;have K:jr P T=some (u,n):=by unfold jr;rw[hk,b]
  obtain⟨e',s1,s2,y,r⟩:=xE K;rw[b]at s1;cases s1;rw[m]at y;cases y;refine B (fun i=>some (i*P.cellsOf e,P.cellsOf e)) ?_ (fun cells hc=>?_)
  ·intro i ae hn;rw[hF]at hn
   split at hn
   ·rename_i ab;simp at hn;subst hn;rw[hE,ix o_,hC]
   ·simp at hn
  ·simp only[dq,s];refine fI ?_;simp only[fv,g0,xp z1 z2,gy,dg b,G r,hc,g7]
 ·split at d<;>simp at d
 ·simp at d
where
 G {P:da} {w:dd} {T:db} (h:0<P.cellsOf T):(sizeOf T).run P w=.ok (P.cellsOf T) w:=by
  cases hi:P.info? T with
  |none=>simp[gg,hi]at h
  |some i=>simp[sizeOf,typeInfo,hi,gg]
theorem FU(a:Array c9)(n:Nat)(_h:0<a.size):((bw (n*a.size)).map (a[·% a.size]!)).toList=(hw n a.toList).flatten:=by
 simp only[cc,Array.toList_range]
 induction n with
 |zero=>simp
 |succ n c=>
  rw[i3,List.range_add,List.map_append,c,List.replicate_succ',List.flatten_append];congr 1;simp only[List.map_map,hP,List.flatten_nil,h8];refine List.ext_getElem s_ (fun i b d=>?_);simp at b;simp[Nat.mul_add_mod_self_right,Nat.mod_eq_of_lt b,b,getElem!_pos]
theorem Cg{z:PV}{a:List c9}(h:bd P w ad z a):∀n:Nat,Row P w ad β H a.length (hw n (.p z)) (hw n a)
 |0=>jC.2 rfl
 |n+1=>by
  rw[hN,hN,uD];exact⟨a,_,rfl,by simpa only[bC]using h,rfl,Cg h n⟩
theorem F0(d:cB P w ad β H ai){b:Nat}(c:H[b]?=some .hole){cells:Array c9}{T:db}{k:AK}{ak cap:Nat}{a:List AV}{e:List (List c9)}{rest:List c9}(g:k≠ .frozen)(n:¬dM k a)
 (o:Row P w ad β H ak a e)(i:ba (aL H) a)(hc:cells.toList=e.flatten++rest)(p:cells.size=cap*ak)(m:a.length<=cap)(l:k=.exact->cap=a.length)(q:k=.bytes->T=Gl.u8):
 ct P ai ad w β H ad {w with heap:=w.heap.push (.cells cells T)} (β.at b w.heap.size cap) (H.set b (.arr k 0 ak a))/\
 aB P {w with heap:=w.heap.push (.cells cells T)} ad (β.at b w.heap.size cap) (H.set b (.arr k 0 ak a)) (.sl b 0 ak 0 a.length) (.slice (some ⟨w.heap.size,0,none⟩) a.length cap):=by
 have aO:=CK (β:=β) c (.arr k 0 ak a) w.heap.size cap;have ar:∀y,aL H y->aL (H.set b (.arr k 0 ak a)) y:=oJ c (fun _ h=>h.elim);have j:=(hv.1 c).1;refine⟨xt (cap:=cap) d c (ob:=.cells cells T)
  (.inr ⟨cells,T,e,rest,by simp[Bd.at],bX.mono (fun _ x=>x) (fun k hk=>zE _ _ (d.cq k hk)) aO _ _ _ i o,hc,by simp[Bd.at,p],by simpa[Bd.at]using m,by simpa[Bd.at]using l,by
   unfold cS;rw[if_neg (by simpa using g)];simp only[Bd.at,if_true];exact⟨fun h=>iz _ (d.cq _ h),fun h=>iz _ (d.fO _ h)⟩,(fun h=>(g h).elim),q⟩) (ba.mono ar _ i),?_⟩
 simp only[aB,bY,b7];refine⟨rfl,fun s r f=>?_⟩;unfold gn at f;rw[hA j]at f;cases f;exact⟨o_,fun h=>(n h).elim,fun _=>by simp[Bd.at]⟩
theorem XG{T:db}{n sz:Nat}{z:PV}{parts:Array (Nat×dl)}(B:o.op= .buildSlice T n parts)(a:c7 P T=some sz)(hz:cF P (fy P T)=some z)(hs:bU P (aK z)=sz)(hn:n*sz<=1000000)
 (N:n9 P (hw n sz) (parts.toList.map fun(i,x)=>(i,ρ x))):
 bD P o ρ base {v:=.sl base 0 sz 0 n,aY:=[.arr .exact 0 sz (jK (hw n (.p z)) (parts.toList.map fun(i,x)=>(i,ρ x)))]}:=by
 obtain⟨e,ab,a⟩:=mw a;obtain⟨i,d,z1,z2,z3,z4⟩:=uu hz;rw[a.tY]at z1;intro H w ad ai β s O W _ L;have A:H[base]?=some .hole:=by simpa using L 0 s_
 have C:∀p∈parts.toList,aB P w ad β H (ρ p.2) (s p.2)/\aF (aL H) (ρ p.2):=fun p b=>W p.2 (by rw[B];exact OO b);obtain⟨X,Y⟩:=ON (ρ:=ρ) (ρc:=s) (parts:=parts) (fun p b=>(C p b).1);have E:=z3 w ad;have r:d.cells.size=sz:=by have:=(sH E).1;simp at this;omega
 have m:=Cg (β:=β) (H:=H) E n;have V:d.cells.toList.length=sz:=by simpa using r
 rw[V]at m;obtain⟨u,l⟩:∃c,c=(bw (n*sz)).map (d.cells[·% d.cells.size]!):=⟨_,rfl⟩
 have M:u.toList=(hw n d.cells.toList).flatten:=by
  rw[l,<-r];exact FU _ _ (by rw[r];exact a.pos)
 have R:bX P w ad β H (hw n sz) (hw n (.p z)) (hw n d.cells.toList):=by
  unfold Row at m;simpa using m
 obtain⟨t,G,g1,g2,g3⟩:=F8 (place:=fun i=>some (i*sz,sz)) (by
  intro i aa g;rw[hF]at g
  split at g
  ·rename_i Z;simp at g;subst g;rw[hE,ix o_,hC]
  ·simp at g) X Y N R M
 have j:(jK (hw n (.p z)) (parts.toList.map fun(i,x)=>(i,ρ x))).length=n:=by
  have:=(Ch g2).2.1;simpa using this
 have D:Row P w ad β H sz (jK (hw n (.p z)) (parts.toList.map fun(i,x)=>(i,ρ x))) G:=by unfold Row;rw[j];exact g2
 have Q:ba (aL H) (jK (hw n (.p z)) (parts.toList.map fun(i,x)=>(i,ρ x))):=by
  refine GA ?_ ?_
  ·rw[df];intro v U;rw[hQ U];simp[aF]
  ·intro p b;simp only[ii]at b;obtain⟨q,hq,rfl⟩:=b;exact(C q hq).2
 have K:t.size=n*sz:=by
  have y:=(gX D).2;rw[j,<-g3]at y;simpa using y
 have S:(dq s o).run P w=.ok (.value (.slice (some ⟨w.heap.size,0,none⟩) n n)) {w with heap:=w.heap.push (.cells t e)}:=by
  simp only[dq,B];have I:¬(n*sz>2^24):=o_
  have J:n*sz=0->(bw (n*sz)).map ((#[]:Array c9)[·% (#[]:Array c9).size]!)=u:=by
   intro f;rw[l,f];simp
  refine zo ?_;simp only[Instr.buildSlice,g0,dg a.iJ,gy,a.run,if_neg I]
  by_cases f:n*sz=0
  ·rw[if_pos f];simp only[g0,g7,gy,J f,g1,newRow,ej]
  ·rw[if_neg f];simp only[g0,g7,gy,xp z1 z2,<-l,g1,newRow,ej]
 obtain⟨q1,F⟩:=F0 (T:=e) (k:=.exact) O A s_ (by simp[dM,AK.gr]) D Q (rest:=[]) (by simpa using g3) (by rw[K]) (by omega:_<=n) (fun _=>j.symm) (fun h=>by cases h);rw[j]at F;exact⟨_,_,_,_,ad,S,.inl rfl,q1,F,by
  simp only[aF,nV];exact⟨_,hA (hv.1 A).1,ip _⟩⟩
theorem XP{T:db}{lo q:dl}{sz:Nat}{z:PV}{l:Int}(t:o.op= .makeSlice T lo q)(a:c7 P T=some sz)(hz:cF P (fy P T)=some z)(K:ρ lo= .p (.int .i64 l))(hc:ρ q= .p (.int .i64 l))
 (hs:bU P (aK z)=sz)(b:0<=l)(L:l<=dH):bD P o ρ base {v:=.sl base 0 sz 0 l.toNat,aY:=[.arr .exact 0 sz (hw l.toNat (.p z))]}:=by
 obtain⟨e,d,a⟩:=mw a;obtain⟨i,g,z1,z2,z3,z4⟩:=uu hz;rw[a.tY]at z1;intro H w ad ai β W M B _ J;have u:H[base]?=some .hole:=by simpa using J 0 s_
 have r:=(B lo (by simp[t,fw])).1;have j:=(B q (by simp[t,fw])).1;rw[K]at r;rw[hc]at j;simp only[aB,aE]at r j;have A:=z3 w ad;have m:g.cells.size=sz:=by have:=(sH A).1;simp at this;omega
 obtain⟨n,rfl⟩:=Int.eq_ofNat_of_zero_le b;have y:=Cg (β:=β) (H:=H) A n;have V:g.cells.toList.length=sz:=by simpa using m
 rw[V]at y;obtain⟨f,s⟩:∃c,c=(bw (n*sz)).map (g.cells[·% g.cells.size]!):=⟨_,rfl⟩
 have x:f.toList=(hw n g.cells.toList).flatten:=by
  rw[s,<-m];exact FU _ _ (by rw[m];exact a.pos)
 have hn:n<=1073741824:=by unfold dH at L;omega
 have D:d.bytes*n<=32768*1073741824:=Nat.mul_le_mul (by have:=a.bytes;omega) hn;have N:(dq W o).run P w=.ok (.value (.slice (some ⟨w.heap.size,0,none⟩) n n)) {w with heap:=w.heap.push (.cells f e)}:=by
  simp only[dq,t,r,j];have U:IntKind.i64.wrap (n:Int)=n:=IntWalk.i64_in _ o_;have O:¬((n:Int)<0):=o_
  have Q:¬((d.bytes:Int)*n>2^48):=by
   intro I;have j:d.bytes*n<=35184372088832:=D;have X:((d.bytes*n:Nat):Int)>281474976710656:=by rw[Int.natCast_mul];exact I
   omega
  have E:n*sz=0->(bw (n*sz)).map ((#[]:Array c9)[·% (#[]:Array c9).size]!)=f:=by
   intro b;rw[s,b];simp
  have R:(typeInfo e).run P w=.ok d w:=by simp[typeInfo,a.info]
  have F:((decide ((n:Int)<0)||decide ((d.bytes:Int)*n>2^48))||decide ((n:Int)<0)||decide ((n:Int)>n))=false:=by
   simp only[O,Q,decide_false,Bool.or_false,Bool.false_or];simp
  refine zo ?_;simp only[Instr.makeSlice,g0,dg a.iJ,gy,asInt,asIntOf,g7,R,U];rw[if_neg (by simpa using F)];simp only[g0,run_askRoom,gy,a.run,Int.toNat_natCast]
  by_cases b:n*sz=0
  ·rw[if_pos b];simp only[g0,g7,gy,E b,newRow,ej]
  ·rw[if_neg b];simp only[g0,g7,gy,xp z1 z2,<-s,newRow,ej]
 have G:f.size=n*sz:=by
  have:=congrArg hW x;simp at this;rw[this];simp[m]
 obtain⟨q1,C⟩:=F0 (T:=e) (k:=.exact) M u (cells:=f) (cap:=n) s_ (by simp[dM,AK.gr]) y (by
  rw[df];intro v S;rw[hQ S];simp[aF]) (rest:=[]) (by simpa using x) G s_ (fun _=>by simp) (fun h=>by cases h)
 simp only[List.length_replicate]at C;exact⟨_,_,_,_,ad,N,.inl rfl,q1,C,by
  simp only[aF,nV];exact⟨_,hA (hv.1 u).1,ip _⟩⟩
end
end Go.ag
