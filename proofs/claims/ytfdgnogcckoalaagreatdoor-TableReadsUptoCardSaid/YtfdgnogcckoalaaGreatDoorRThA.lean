import Derived.Test.YtfdgnogcckoalaaGreatDoorRZ
import Derived.Calls
import Derived.Laws.Sem
import Derived.IntWalk
import Derived.Laws.Cells
import Derived.Laws.CopyRow
import Derived.Laws.Entries
import Derived.RangeFuncRecord
import Derived.RangeFuncNested
/- Parts of a proof. -/
set_option linter.unusedSimpArgs false
set_option linter.unusedVariables false
set_option linter.unusedSectionVars false
open Array renaming getElem?_eq_some_iff->bk, replicate->bl, getD_eq_getD_getElem?->bo, getElem?_toList->bv, range->b0, mem_toList_iff->b1, getElem?_setIfInBounds_ne->b2, mapM_eq_mapM_toList->b3, mem_of_getElem?->b4, getElem_toList->b5, getElem?_push->cb, foldl_toList->cc, toList_map->ce, toList->ck, getD->cv, ext'->cx
open BitVec renaming ofInt->cy
open Bool renaming false_eq_true->cE, and_eq_true->cN
open Go renaming Value->cR, Program->c6, TypeId->c7, World->c8, run_underlying->c9, Operand->da, step_lone_go->db, execOp->dg, FuncId->dk, Deferred->dl, Frame->dp, step_leave_returned->dq, TypeInfo->dz, Steps->ea, ResultVar->eb, Machine->ec, IntKind->ed, run_newObj->ee, setRow_other->ei, MapEntry->ej, Calls->en, setRow_size->eo, setRow_heap->eq, BinOp->er
open Go.Builtin renaming len_->et
open Go.Deferred renaming ofValue->ew
open Go.Frame renaming round->ez, enter->eL
open Go.Instr renaming sureAddr->e6, indexAt->e7, yield->e8, fill->e9, build->fb
open Go.Op renaming operands->fl, unary->fm, intArith->fv, intBits->gb
open Go.Program renaming cellsOf->gc, underlying->ge, underlyingId->gg
open Go.Region renaming wanted->gi, schedule->gj, binds->gm
open Go.Result renaming andThen_ok->gt
open Go.Sem renaming run_bind->gx, run_pure->gy, run->gD, run_map->g0
open Go.Steps renaming one->g7, trans->g8, refl->g9
open Go.Value renaming oneCell'->ha, cells->hb
open Go.World renaming putObj_heap_other->hd, size_alloc->hg, cell?->hh
open Go.stepG renaming exec->hj, apply->hm, oper->ho
open Iff renaming rfl->hp
open List renaming getElem?_eq_some_iff->hr, replicate->ht, getElem?_set_self->hv, getElem?_set_ne->hw, sum_replicate_nat->hz, getElem?_eq_getElem->hA, take_replicate->hB, getElem?_replicate->hC, append_assoc->hD, mem_of_getElem?->hE, mem_or_eq_of_mem_set->hF, getElem?_append_left->hG, length_eq_zero_iff->hH, map_cons->hK, replicate_succ->hL, getElem?_append_right->hM, flatten_cons->hN, eq_of_mem_replicate->hO, length_cons->hP, mem_append->hQ, length_append->hR, cons_append->hS, range'->hT, length->hU, getElem_append_right->hV, getElem_append_left->hW, getElem?_cons_succ->hX, take_append_drop->hZ, set_append_right->h0, set_cons_zero->h1, getElem?_map->h2, getElem_mem->h3, all_eq_true->h4, length_set->h5, append_nil->h6, mapM_cons->h7, drop_drop->h8, mem_map->h9, range->ih
open Nat renaming le_refl->ii, min_eq_left->ik, lt_irrefl->ip, add_sub_cancel_left->ix, le_trans->iz, add_zero->i0, lt_of_lt_of_le->i1, add_assoc->i2, succ_mul->i3, ne_of_lt->i4
open Ne renaming symm->i5
open Option renaming bind_some->i6, isSome_iff_exists->i7
open Option.some renaming injEq->i8, inj->i9
open Prod renaming snd->jp, fst->js
namespace Go.au
set_option linter.unusedSectionVars false
inductive PV where
 |undef
 |bool (b:Bool)
 |int (k:ed) (n:Int)
 |str (s:List Nat)
 |dc
 |cA (t:PV)
 |aK
 |bJ (full:Bool) (es:List PV)
 |seq (es:List PV)
 |fM
 |fq (es:List (PV×PV))
 |func (f:dk) (first iR:List PV)
 |iE
 |gl
 |st (u:c7) (fs:List PV)
 |aE (vs:List PV)
 deriving Inhabited
inductive AV where
 |p (v:PV)
 |ptr (b:Nat) (path:List (c7×Nat))
 |b8 (b aq ai i:Nat) (path:List (c7×Nat))
 |sl (b aq ai off len:Nat)
 |map (b:Nat)
 |func (f:dk) (first iR:List AV)
 |st (u:c7) (fs:List AV)
 |aE (vs:List AV)
 deriving Inhabited
inductive AK where|exact|grow|frozen|bytes
 deriving DecidableEq
def AK.gr:AK->Bool
 | .grow| .bytes=>true
 |_=>false
structure fD where
 st:LoopState
 pending:Option Code
 n:Nat
 params:List Tmp
 assign:Code
 body:Code
 env:List (Nat×AV)
inductive Obj where
 |hole
 |dead
 |box (fz:Bool) (t:AV)
 |arr (k:AK) (aq ai:Nat) (es:List AV)
 |map (fz:Bool) (es:List (PV×PV))
 |cQ (ks:List PV) (vs:List AV)
 |dD (s:List Nat) (pos:Nat)
 |loop (L:fD)
 deriving Inhabited
abbrev Heap:=List Obj
abbrev Env:=List (Nat×AV)
structure St where
 env:Env
 heap:Heap
def aN(e:Env)(t:Nat):AV:=
 match e with
 |[]=>.p .undef
 |(k,v)::r=>if t=k then v else aN r t
inductive jU where|bad|leaf|agg (u:c7)
 deriving DecidableEq
def aL:PV->jU
 | .undef| .aE _=>.bad
 | .st u _=>.agg u
 |_=>.leaf
def ad:AV->jU
 | .p v=>aL v
 | .aE _=>.bad
 | .st u _=>.agg u
 |_=>.leaf
def cH:PV->List PV
 | .st _ fs=>fs
 |_=>[]
section tables
variable(P:c6)
def dL(u:c7):Option (List Nat):=
 match(P.info? u).map (fun i:dz=>i.desc)with
 |some (.struct fs)=>
  let l:=fs.toList.map fun f=>P.cellsOf f.type
  if l.all (0<·)&&l.sum==P.cellsOf u&&(fs.toList.zipIdx.all fun(f,i)=>f.offset==(l.take i).sum)then some l else none
 |some (.array n e)=>if 0<P.cellsOf e&&n*P.cellsOf e==P.cellsOf u then some (ht n (P.cellsOf e))else none
 |_=>none
def kindOf(T:c7):jU:=
 match P.underlying T with
 |some (.struct _)|some (.array _ _)=>
  if(dL P (P.underlyingId T)).isSome&&P.cellsOf T==P.cellsOf (P.underlyingId T)then .agg (P.underlyingId T)else .bad
 |some _=>if P.cellsOf T==1 then .leaf else .bad
 |none=>.bad
def bG:jU->Nat
 | .bad=>0
 | .leaf=>1
 | .agg u=>P.cellsOf u
def jX(u:c7):List c7:=
 match(P.info? u).map (fun i:dz=>i.desc)with
 |some (.struct fs)=>fs.toList.map (·.type)
 |some (.array n e)=>ht n e
 |_=>[]
end tables
def ofConst:cR->PV
 | .bool b=>.bool b
 | .int k n=>.int k n
 | .string s=>.str (s.data.toList.map (·.toNat))
 | .pointer none=>.dc
 | .slice none 0 0=>.aK
 | .map none=>.fM
 | .nilFunc=>.iE
 | .nilIface=>.gl
 |_=>.undef
def pE(P:c6)(a:c7->List cR->Option PV):List c7->List Nat->List cR->Option (List PV)
 |[],[],[]=>some []
 |T::b,s::c,cs=>
  if(cs.take s).length=s then
   match a T (cs.take s),pE P a b c (cs.drop s)with
   |some v,some vs=>if bG P (aL v)=s then some (v::vs)else none
   |_,_=>none
  else none
 |_,_,_=>none
def ub(P:c6):Nat->c7->List cR->Option PV
 |0,_,_=>none
 |n+1,T,cs=>
  match kindOf P T with
  | .leaf=>match cs with
   |[c]=>match ofConst c with
    | .undef=>none
    |v=>some v
   |_=>none
  | .agg u=>match dL P u with
   |some l=>
    match pE P (ub P n) (jX P u) l cs with
    |some fs=>some (.st u fs)
    |none=>none
   |none=>none
  | .bad=>none
def An:cR->jU->Bool
 | .agg _,.agg _=>true
 | .agg _,_=>false
 |_,.agg _=>false
 |_,_=>true
def cK(P:c6)(T:c7):Option PV:=
 match(P.info? T).bind (·.zero)with
 |some z=>if An z (kindOf P T)then ub P 40 T z.cells.toList else none
 |none=>none
section relation
variable(P:c6)(w:c8)(aa:Nat->Prop)
def ic(al off:Nat)(cs:List cR):Prop:=∀i(h:i<cs.length),w.cell? ⟨al,off+i,none⟩=some cs[i]
mutual
def aV:PV->List cR->Prop
 | .undef,_| .aE _,_=>False
 | .bool b,cs=>cs=[.bool b]
 | .int k n,cs=>cs=[.int k n]
 | .str s,cs=>∃bs:ByteArray,cs=[.string bs]/\s=bs.data.toList.map (·.toNat)
 | .dc,cs=>cs=[.pointer none]
 | .cA t,cs=>∃al off ts,aV t ts/\aa al/\ic w al off ts/\cs=[.pointer (some ⟨al,off,none⟩)]
 | .aK,cs=>cs=[.slice none 0 0]
 | .bJ full es,cs=>∃al off cap ai a,bg (ht es.length ai) es a/\(es≠[]->aa al)/\ic w al off a.flatten/\
  (full=true->cap=es.length)/\es.length<=cap/\∃sp,(sp=none\/cap=0)/\cs=[.slice (some ⟨al,off,sp⟩) es.length cap]
 | .seq es,cs=>(es=[]/\cs=[.slice none 0 0])\/∃al off cap ai a,bg (ht es.length ai) es a/\(es≠[]->aa al)/\ic w al off a.flatten/\
  es.length<=cap/\∃sp,(sp=none\/cap=0)/\cs=[.slice (some ⟨al,off,sp⟩) es.length cap]
 | .fM,cs=>cs=[.map none]
 | .fq es,cs=>∃r h j,aa r/\w.heap[r]?=some (.map h j)/\cF es h.toList/\cs=[.map (some r)]
 | .func f first iR,cs=>∃i g,bm first i/\bm iR g/\cs=[.func (.func f) i.toArray g.toArray]
 | .iE,cs=>cs=[.nilFunc]
 | .gl,cs=>cs=[.nilIface]
 | .st u fs,cs=>∃l a,dL P u=some l/\bg l fs a/\cs=a.flatten
def bg:List Nat->List PV->List (List cR)->Prop
 |[],[],a=>a=[]
 |n::p,v::vs,a=>∃c cs,a=c::cs/\aV v c/\c.length=n/\bg p vs cs
 |_,_,_=>False
def aB:PV->cR->Prop
 | .undef,_=>True
 | .aE vs,v=>∃d,bm vs d/\v=.tuple d.toArray
 | .st u fs,v=>∃l a,dL P u=some l/\bg l fs a/\v=.agg a.flatten.toArray
 | .bool b,v=>v=.bool b
 | .int k n,v=>v=.int k n
 | .str s,v=>∃bs:ByteArray,v=.string bs/\s=bs.data.toList.map (·.toNat)
 | .dc,v=>v=.pointer none
 | .cA t,v=>∃al off ts,aV t ts/\aa al/\ic w al off ts/\v=.pointer (some ⟨al,off,none⟩)
 | .aK,v=>v=.slice none 0 0
 | .bJ full es,v=>∃al off cap ai a,bg (ht es.length ai) es a/\(es≠[]->aa al)/\ic w al off a.flatten/\
  (full=true->cap=es.length)/\es.length<=cap/\∃sp,(sp=none\/cap=0)/\v=.slice (some ⟨al,off,sp⟩) es.length cap
 | .seq es,v=>(es=[]/\v= .slice none 0 0)\/∃al off cap ai a,bg (ht es.length ai) es a/\(es≠[]->aa al)/\ic w al off a.flatten/\
  es.length<=cap/\∃sp,(sp=none\/cap=0)/\v=.slice (some ⟨al,off,sp⟩) es.length cap
 | .fM,v=>v=.map none
 | .fq es,v=>∃r h j,aa r/\w.heap[r]?=some (.map h j)/\cF es h.toList/\v=.map (some r)
 | .func f first iR,v=>∃i g,bm first i/\bm iR g/\v=.func (.func f) i.toArray g.toArray
 | .iE,v=>v=.nilFunc
 | .gl,v=>v=.nilIface
def bm:List PV->List cR->Prop
 |[],d=>d=[]
 |v::vs,d=>∃y o,d=y::o/\aB v y/\bm vs o
def cF:List (PV×PV)->List ej->Prop
 |[],es=>es=[]
 |(k,v)::r,es=>∃e m,es=e::m/\aB k e.key/\aB v e.val/\cF r m
end
end relation
class Gl where
 g:Nat->PV
 u8:c7
 raw:Nat->Option (Array cR)
 bx:c7->Option c7
 uF:Nat->Bool
def jS[Gl](T:c7)(s:jU):Bool:=match s with
 | .agg u=>match Gl.bx u with
  |some a=>Nat.beq T a
  |none=>true
 |_=>true
structure mr[Gl](P:c6)(w:c8)(aa:Nat->Prop):Prop where
 val:∀g,aB P w aa (Gl.g g) (.pointer (some ⟨g,0,none⟩))
 raw:∀g cs,Gl.raw g=some cs->aa g/\∃T,w.heap[g]?=some (.cells cs T (0,0))
 uF:∀g,Gl.uF g=true->aa g/\∃te pe T,w.heap[g]?=some (.cells #[.iface te pe] T (0,0))
end Go.au
namespace Go.au
variable[Gl]
structure Bd where
 al:Nat->Nat
 cap:Nat->Nat
def gG(P:c6):List (c7×Nat)->Option Nat
 |[]=>some 0
 |(u,i)::r=>
  match dL P u,gG P r with
  |some l,some o=>if i<l.length then some ((l.take i).sum+o)else none
  |_,_=>none
def Obj.vg:Obj->Prop
 | .map _ _| .cQ _ _=>True
 |_=>False
section
variable(P:c6)(w:c8)(aa:Nat->Prop)(β:Bd)(H:Heap)
def nh(b:Nat):Prop:=∃fz t,H[b]?=some (.box fz t)
def eA(b aq ai:Nat)(k:AK)(a:List AV):Prop:=H[b]?=some (.arr k aq ai a)
def di(k:AK)(a:List AV):Prop:=k.gr=true/\a=[]
def oF(b:Nat):Prop:=∃o,H[b]?=some o/\o.vg
def ni(b:Nat):Prop:=(∃s pos,H[b]?=some (.dD s pos))
def ie(b:Nat):Prop:=(∃L,H[b]?=some (.loop L))
def bV:AV->cR->Prop
 | .ptr b path,v=>∃al off o,v=.pointer (some ⟨al,off,none⟩)/\gG P path=some o/\(nh H b\/ni H b->al=β.al b/\off=o)
 | .b8 b aq ai i path,v=>∃al off o,v=.pointer (some ⟨al,off,none⟩)/\gG P path=some o/\∀k a,eA H b aq ai k a->¬di k a->al=β.al b/\off=i*ai+o
 | .sl b aq ai off len,v=>∀k a,eA H b aq ai k a->
  off+len<=a.length/\(di k a->v=.slice none 0 0)/\(¬di k a->v=.slice (some ⟨β.al b,off*ai,none⟩) len (β.cap b-off))
 | .map b,v=>(oF H b->v=.map (some (β.al b)))/\(ie H b->v=.func (.yield (β.al b)) #[] #[])
 |_,_=>False
def bO(v:AV)(x:cR):Prop:=x.oneCell'=true/\bV P β H v x
mutual
def bp:AV->List cR->Prop
 | .p t,cs=>aV P w aa t cs
 | .st u fs,cs=>∃l a,dL P u=some l/\bL l fs a/\cs=a.flatten
 | .func f first iR,cs=>∃e d,br first e/\br iR d/\cs=[.func (.func f) e.toArray d.toArray]
 | .aE _,_=>False
 | .ptr b path,cs=>∃v,cs=[v]/\bO P β H (.ptr b path) v
 | .b8 b aq ai i path,cs=>∃v,cs=[v]/\bO P β H (.b8 b aq ai i path) v
 | .sl b aq ai off len,cs=>∃v,cs=[v]/\bO P β H (.sl b aq ai off len) v
 | .map b,cs=>∃v,cs=[v]/\bO P β H (.map b) v
def bL:List Nat->List AV->List (List cR)->Prop
 |[],[],a=>a=[]
 |n::h,v::vs,a=>∃c cs,a=c::cs/\bp v c/\c.length=n/\bL h vs cs
 |_,_,_=>False
def aw:AV->cR->Prop
 | .p t,v=>aB P w aa t v
 | .st u fs,v=>∃l a,dL P u=some l/\bL l fs a/\v=.agg a.flatten.toArray
 | .func f first iR,v=>∃e d,br first e/\br iR d/\v=.func (.func f) e.toArray d.toArray
 | .aE vs,v=>∃xs,br vs xs/\v=.tuple xs.toArray
 | .ptr b path,v=>bO P β H (.ptr b path) v
 | .b8 b aq ai i path,v=>bO P β H (.b8 b aq ai i path) v
 | .sl b aq ai off len,v=>bO P β H (.sl b aq ai off len) v
 | .map b,v=>bO P β H (.map b) v
def br:List AV->List cR->Prop
 |[],xs=>xs=[]
 |v::vs,xs=>∃y g,xs=y::g/\aw v y/\br vs g
end
mutual
def aC(n:Nat×Nat->Prop):AV->Prop
 | .p _=>True
 | .ptr b _| .map b=>n (b,0)
 | .b8 b aq _ _ _| .sl b aq _ _ _=>n (b,aq)
 | .func _ first iR=>aR n first/\aR n iR
 | .st _ fs=>aR n fs
 | .aE vs=>aR n vs
def aR(n:Nat×Nat->Prop):List AV->Prop
 |[]=>True
 |v::vs=>aC n v/\aR n vs
end
def Obj.has:Obj->Nat->Prop
 | .hole,_=>False
 | .arr _ aq _ _,v=>v<=aq
 |_,_=>True
def aH(H:Heap)(x:Nat×Nat):Prop:=∃o,H[x.1]?=some o/\o.has x.2
def AV.sq:AV->Prop
 | .p _=>True
 |_=>False
def Obj.refs(n:Nat×Nat->Prop):Obj->Prop
 | .box _ t=>aC n t
 | .arr _ _ _ es=>aR n es
 | .cQ _ vs=>aR n vs
 | .loop L=>∀x,aC n (aN L.env x)
 |_=>True
def Obj.live:Obj->Prop
 | .hole| .dead=>False
 | .arr k _ _ es=>¬di k es
 |_=>True
variable(ah:Nat->Prop)
def cC(fz:Bool)(b:Nat):Prop:=if fz then aa (β.al b)else¬aa (β.al b)/\¬ah (β.al b)
def fJ(b:Nat):Obj->Prop
 | .hole| .dead=>True
 | .box fz t=>∃cs T,w.heap[β.al b]?=some (.cells cs T (0,0))/\bp P w aa β H t cs.toList/\cC aa β ah fz b/\(fz=true->t.sq)/\jS T (ad t)=true
 | .arr k _ver ai es=>di k es\/
  ∃cs T d f,w.heap[β.al b]?=some (.cells cs T (0,0))/\bL P w aa β H (ht es.length ai) es d/\cs.toList=d.flatten++f/\
   cs.size=β.cap b*ai/\es.length<=β.cap b/\(k=.exact->β.cap b=es.length)/\cC aa β ah (k== .frozen) b/\(k=.frozen->∀e∈es,e.sq)/\(k=.bytes->T=Gl.u8)
 | .map fz es=>∃a c,w.heap[β.al b]?=some (.map a c)/\cF P w aa es a.toList/\cC aa β ah fz b
 | .cQ ks vs=>∃a c,w.heap[β.al b]?=some (.map a c)/\bm P w aa ks (a.toList.map (·.key))/\br P w aa β H vs (a.toList.map (·.val))/\cC aa β ah false b
 | .dD s pos=>∃bs:ByteArray,w.heap[β.al b]?=some (.stringIter bs pos)/\s=bs.data.toList.map (·.toNat)/\cC aa β ah false b
 | .loop L=>∃tmps defers fn,w.heap[β.al b]?=some (.loop {state:=L.st,pending:=L.pending,fn,tmps,params:=L.params.toArray,assign:=L.assign,body:=L.body,defers})/\tmps.size=L.n/\
  (∀x,aw P w aa β H (aN L.env x) (tmps.getD x undef))/\cC aa β ah false b
structure b7:Prop where
 cS:∀b o,H[b]?=some o->fJ P w aa β H ah b o
 inj:∀b b' o o',H[b]?=some o->H[b']?=some o'->o.live->o'.live->¬aa (β.al b)->β.al b=β.al b'->b=b'
 refs:∀(b:Nat)(o:Obj),H[b]?=some o->o.refs (aH H)
 bX:∀k,aa k->k<w.heap.size
 eX:∀k,ah k->k<w.heap.size
 jD:mr P w aa
end
structure Ext(ah aa:Nat->Prop)(w w':c8):Prop where
 size:w.heap.size<=w'.heap.size
 same:∀k,ah k\/aa k->w'.heap[k]?=w.heap[k]?
 io:w'.os=w.os/\w'.output=w.output
structure cm(β:Bd)(H:Heap)(aJ:Bd)(H':Heap):Prop where
 box:∀b,aH H (b,0)->nh H' b->nh H b/\aJ.al b=β.al b
 it:∀b,aH H (b,0)->ni H' b->ni H b/\aJ.al b=β.al b
 map:∀b,aH H (b,0)->oF H' b->oF H b/\aJ.al b=β.al b
 arr:∀b aq ai k es,aH H (b,aq)->eA H' b aq ai k es->∃k0 gW,eA H b aq ai k0 gW/\gW.length<=es.length/\(di k es↔di k0 gW)/\(¬di k es->aJ.al b=β.al b/\aJ.cap b=β.cap b)
 loop:∀b,aH H (b,0)->ie H' b->ie H b/\aJ.al b=β.al b
theorem cm.refl(β:Bd)(H:Heap):cm β H β H:=
 ⟨fun _ _ h=>⟨h,rfl⟩,fun _ _ h=>⟨h,rfl⟩,fun _ _ h=>⟨h,rfl⟩,fun _ _ _ k a _ h=>⟨k,a,h,ii _,hp,fun _=>⟨rfl,rfl⟩⟩,fun _ _ h=>⟨h,rfl⟩⟩
theorem Ext.refl(ah aa:Nat->Prop)(w:c8):Ext ah aa w w:=⟨ii _,fun _ _=>rfl,rfl,rfl⟩
section mono
variable{P:c6}{w w':c8}{aa aD:Nat->Prop}
theorem YL{al off:Nat}(h:w'.heap[al]?=w.heap[al]?):w'.cell? ⟨al,off,none⟩=w.cell? ⟨al,off,none⟩:=by
 simp[hh,h]
theorem ic.same{al off:Nat}{cs:List cR}(h:w'.heap[al]?=w.heap[al]?)(hc:ic w al off cs):ic w' al off cs:=
 fun i hi=>(YL h).trans (hc i hi)
theorem vr{n:List Nat}{a:List (List cR)}(h:bg P w aa n [] a):a=[]:=by
 cases n<;>simp[bg]at h;exact h
variable(hI:∀k,aa k->aD k)(hs:∀k,aa k->w'.heap[k]?=w.heap[k]?)
include hI hs
mutual
theorem aV.mono:∀(v:PV)(cs:List cR),aV P w aa v cs->aV P w' aD v cs
 | .undef,_,h| .aE _,_,h=>by simp[aV]at h
 | .bool _,_,h| .int _ _,_,h| .str _,_,h| .dc,_,h| .aK,_,h| .fM,_,h| .iE,_,h| .gl,_,h=>by simpa[aV]using h
 | .cA t,cs,h=>by
  simp only[aV]at h⊢;obtain⟨al,off,ts,a,b,d,j⟩:=h;exact⟨al,off,ts,aV.mono t ts a,hI _ b,d.same (hs _ b),j⟩
 | .bJ full o,cs,h=>by
  simp only[aV]at h⊢;obtain⟨al,off,cap,ai,g,a,b,d,j⟩:=h;refine⟨al,off,cap,ai,g,bg.mono _ o g a,fun m=>hI _ (b m),?_,j⟩
  by_cases m:o=[]
  ·subst m;have:=vr a;subst this;intro i hi;simp at hi
  ·exact d.same (hs _ (b m))
 | .seq o,cs,h=>by
  simp only[aV]at h⊢;rcases h with h|⟨al,off,cap,ai,g,a,b,d,j⟩
  ·exact .inl h
  refine .inr ⟨al,off,cap,ai,g,bg.mono _ o g a,fun m=>hI _ (b m),?_,j⟩
  by_cases m:o=[]
  ·subst m;have:=vr a;subst this;intro i hi;simp at hi
  ·exact d.same (hs _ (b m))
 | .fq o,cs,h=>by
  simp only[aV]at h⊢;obtain⟨r,p,clock,a,b,d,j⟩:=h;exact⟨r,p,clock,hI _ a,(hs _ a).trans b,cF.mono o _ d,j⟩
 | .func f first iR,cs,h=>by
  simp only[aV]at h⊢;obtain⟨z,s,a,b,d⟩:=h;exact⟨z,s,bm.mono first z a,bm.mono iR s b,d⟩
 | .st u fs,cs,h=>by
  simp only[aV]at h⊢;obtain⟨l,g,a,b,d⟩:=h;exact⟨l,g,a,bg.mono l fs g b,d⟩
theorem bg.mono:∀(l:List Nat)(vs:List PV)(g:List (List cR)),bg P w aa l vs g->bg P w' aD l vs g
 |[],[],_,h=>by simpa[bg]using h
 |[],_::_,_,h=>by simp[bg]at h
 |_::_,[],_,h=>by simp[bg]at h
 |n::B,v::vs,g,h=>by
  simp only[bg]at h⊢;obtain⟨c,cs,a,b,d,j⟩:=h;exact⟨c,cs,a,aV.mono v c b,d,bg.mono B vs cs j⟩
theorem aB.mono:∀(v:PV)(x:cR),aB P w aa v x->aB P w' aD v x
 | .undef,_,h=>by simp[aB]
 | .aE vs,x,h=>by
  simp only[aB]at h⊢;obtain⟨q,a,b⟩:=h;exact⟨q,bm.mono vs q a,b⟩
 | .bool _,_,h| .int _ _,_,h| .str _,_,h| .dc,_,h| .aK,_,h| .fM,_,h| .iE,_,h| .gl,_,h=>by simpa[aB]using h
 | .cA t,cs,h=>by
  simp only[aB]at h⊢;obtain⟨al,off,ts,a,b,d,j⟩:=h;exact⟨al,off,ts,aV.mono t ts a,hI _ b,d.same (hs _ b),j⟩
 | .bJ full o,cs,h=>by
  simp only[aB]at h⊢;obtain⟨al,off,cap,ai,g,a,b,d,j⟩:=h;refine⟨al,off,cap,ai,g,bg.mono _ o g a,fun m=>hI _ (b m),?_,j⟩
  by_cases m:o=[]
  ·subst m;have:=vr a;subst this;intro i hi;simp at hi
  ·exact d.same (hs _ (b m))
 | .seq o,cs,h=>by
  simp only[aB]at h⊢;rcases h with h|⟨al,off,cap,ai,g,a,b,d,j⟩
  ·exact .inl h
  refine .inr ⟨al,off,cap,ai,g,bg.mono _ o g a,fun m=>hI _ (b m),?_,j⟩
  by_cases m:o=[]
  ·subst m;have:=vr a;subst this;intro i hi;simp at hi
  ·exact d.same (hs _ (b m))
 | .fq o,cs,h=>by
  simp only[aB]at h⊢;obtain⟨r,p,clock,a,b,d,j⟩:=h;exact⟨r,p,clock,hI _ a,(hs _ a).trans b,cF.mono o _ d,j⟩
 | .func f first iR,cs,h=>by
  simp only[aB]at h⊢;obtain⟨z,s,a,b,d⟩:=h;exact⟨z,s,bm.mono first z a,bm.mono iR s b,d⟩
 | .st u fs,cs,h=>by
  simp only[aB]at h⊢;obtain⟨l,g,a,b,d⟩:=h;exact⟨l,g,a,bg.mono l fs g b,d⟩
theorem bm.mono:∀(vs:List PV)(q:List cR),bm P w aa vs q->bm P w' aD vs q
 |[],_,h=>by simpa[bm]using h
 |v::vs,q,h=>by
  simp only[bm]at h⊢;obtain⟨y,A,a,b,d⟩:=h;exact⟨y,A,a,aB.mono v y b,bm.mono vs A d⟩
theorem cF.mono:∀(o:List (PV×PV))(p:List ej),cF P w aa o p->cF P w' aD o p
 |[],_,h=>by simpa[cF]using h
 |(k,v)::r,p,h=>by
  simp only[cF]at h⊢;obtain⟨e,rest,a,b,d,j⟩:=h;exact⟨e,rest,a,aB.mono k _ b,aB.mono v _ d,cF.mono r rest j⟩
end
theorem mr.mono(h:mr P w aa):mr P w' aD:=⟨fun g=>aB.mono hI hs _ _ (h.val g),fun g cs c=>by
 obtain⟨a,T,b⟩:=h.raw g cs c;exact⟨hI _ a,T,(hs _ a).trans b⟩,fun g c=>by
 obtain⟨a,te,pe,T,b⟩:=h.uF g c;exact⟨hI _ a,te,pe,T,(hs _ a).trans b⟩⟩
variable{β aJ:Bd}{H H':Heap}(aI:cm β H aJ H')
include aI
omit hI hs in
theorem bV.mono:∀(v:AV)(x:cR),aC (aH H) v->bV P β H v x->bV P aJ H' v x
 | .ptr b path,x,c,h=>by
  simp only[bV,aC]at*;obtain⟨al,off,o,a,e,f⟩:=h;refine⟨al,off,o,a,e,fun hl=>?_⟩;rcases hl with hl|hl
  ·obtain⟨k1,k2⟩:=aI.box b c hl;rw[k2];exact f (.inl k1)
  ·obtain⟨k1,k2⟩:=aI.it b c hl;rw[k2];exact f (.inr k1)
 | .b8 b aq ai i path,x,c,h=>by
  simp only[bV,aC]at*;obtain⟨al,off,o,g1,g2,g3⟩:=h;refine⟨al,off,o,g1,g2,fun k j hl d=>?_⟩;obtain⟨k0,gW,a,e,f,g⟩:=aI.arr b aq ai k j c hl;rw[(g d).1];exact g3 k0 gW a (fun l=>d (f.2 l))
 | .sl b aq ai off len,x,c,h=>by
  simp only[bV,aC]at*;intro k j hl;obtain⟨k0,gW,a,e,f,g⟩:=aI.arr b aq ai k j c hl;obtain⟨q,m,n⟩:=h k0 gW a;refine⟨o_,fun d=>m (f.1 d),fun d=>?_⟩;rw[(g d).1,(g d).2];exact n (fun l=>d (f.2 l))
 | .map b,x,c,h=>by
  simp only[bV,aC]at*;refine⟨fun hl=>?_,fun hl=>?_⟩
  ·obtain⟨a,e⟩:=aI.map b c hl;rw[e];exact h.1 a
  ·obtain⟨a,e⟩:=aI.loop b c hl;rw[e];exact h.2 a
 | .p _,_,_,h| .st _ _,_,_,h| .func _ _ _,_,_,h| .aE _,_,_,h=>by simp[bV]at h
omit hI hs in
theorem bO.mono(v:AV)(x:cR)(a:aC (aH H) v)(h:bO P β H v x):bO P aJ H' v x:=⟨h.1,bV.mono aI v x a h.2⟩
mutual
theorem bp.mono:∀(v:AV)(cs:List cR),aC (aH H) v->bp P w aa β H v cs->bp P w' aD aJ H' v cs
 | .p t,cs,_,h=>by simp only[bp]at h⊢;exact aV.mono hI hs t cs h
 | .st u fs,cs,a,h=>by
  simp only[bp,aC]at*;obtain⟨l,j,d,e,g⟩:=h;exact⟨l,j,d,bL.mono l fs j a e,g⟩
 | .func f first iR,cs,a,h=>by
  simp only[bp,aC]at*;obtain⟨m,k,d,e,g⟩:=h;exact⟨m,k,br.mono first m a.1 d,br.mono iR k a.2 e,g⟩
 | .aE _,_,_,h=>by simp[bp]at h
 | .ptr b path,cs,a,h=>by
  simp only[bp]at*;obtain⟨v,d,e⟩:=h;exact⟨v,d,bO.mono aI _ _ a e⟩
 | .b8 b aq ai i path,cs,a,h=>by
  simp only[bp]at*;obtain⟨v,d,e⟩:=h;exact⟨v,d,bO.mono aI _ _ a e⟩
 | .sl b aq ai off len,cs,a,h=>by
  simp only[bp]at*;obtain⟨v,d,e⟩:=h;exact⟨v,d,bO.mono aI _ _ a e⟩
 | .map b,cs,a,h=>by
  simp only[bp]at*;obtain⟨v,d,e⟩:=h;exact⟨v,d,bO.mono aI _ _ a e⟩
theorem bL.mono:∀(l:List Nat)(vs:List AV)(j:List (List cR)),aR (aH H) vs->bL P w aa β H l vs j->bL P w' aD aJ H' l vs j
 |[],[],_,_,h=>by simpa[bL]using h
 |[],_::_,_,_,h=>by simp[bL]at h
 |_::_,[],_,_,h=>by simp[bL]at h
 |n::r,v::vs,j,a,h=>by
  simp only[bL,aR]at*;obtain⟨c,cs,d,e,g,q⟩:=h;exact⟨c,cs,d,bp.mono v c a.1 e,g,bL.mono r vs cs a.2 q⟩
theorem aw.mono:∀(v:AV)(x:cR),aC (aH H) v->aw P w aa β H v x->aw P w' aD aJ H' v x
 | .p t,cs,_,h=>by simp only[aw]at h⊢;exact aB.mono hI hs t cs h
 | .st u fs,cs,a,h=>by
  simp only[aw,aC]at*;obtain⟨l,j,d,e,g⟩:=h;exact⟨l,j,d,bL.mono l fs j a e,g⟩
 | .func f first iR,cs,a,h=>by
  simp only[aw,aC]at*;obtain⟨m,k,d,e,g⟩:=h;exact⟨m,k,br.mono first m a.1 d,br.mono iR k a.2 e,g⟩
 | .aE vs,cs,a,h=>by
  simp only[aw,aC]at*;obtain⟨xs,d,e⟩:=h;exact⟨xs,br.mono vs xs a d,e⟩
 | .ptr b path,cs,a,h=>by simp only[aw]at*;exact bO.mono aI _ _ a h
 | .b8 b aq ai i path,cs,a,h=>by simp only[aw]at*;exact bO.mono aI _ _ a h
 | .sl b aq ai off len,cs,a,h=>by simp only[aw]at*;exact bO.mono aI _ _ a h
 | .map b,cs,a,h=>by simp only[aw]at*;exact bO.mono aI _ _ a h
theorem br.mono:∀(vs:List AV)(xs:List cR),aR (aH H) vs->br P w aa β H vs xs->br P w' aD aJ H' vs xs
 |[],_,_,h=>by simpa[br]using h
 |v::vs,xs,a,h=>by
  simp only[br,aR]at*;obtain⟨y,o,d,e,g⟩:=h;exact⟨y,o,d,aw.mono v y a.1 e,br.mono vs o a.2 g⟩
end
end mono
def eZ:List AV->Option (List PV)
 |[]=>some []
 | .p v::r=>match eZ r with
  |some l=>some (v::l)
  |none=>none
 |_::_=>none
def iC(u:c7)(fs:List AV):AV:=
 match eZ fs with
 |some l=>.p (.st u l)
 |none=>.st u fs
def lH:PV->List (c7×Nat)->Option PV
 |t,[]=>some t
 |t,(u,i)::r=>if aL t=.agg u then(match(cH t)[i]? with
  |some f=>lH f r
  |none=>none)else none
def fc:AV->List (c7×Nat)->Option AV
 |t,[]=>some t
 | .p t,(u,i)::r=>match lH t ((u,i)::r)with
  |some s=>some (.p s)
  |none=>none
 | .st u' fs,(u,i)::r=>if u'=u then(match fs[i]? with
  |some f=>fc f r
  |none=>none)else none
 |_,_=>none
def gn(t:AV)(b:List (c7×Nat))(x:AV):Option AV:=
 match b with
 |[]=>some x
 |(u,i)::r=>
  match t with
  | .p t=>if aL t=.agg u then(match(cH t)[i]? with
   |some f=>(match gn (.p f) r x with
    |some a=>some (iC u (((cH t).map .p).set i a))
    |none=>none)
   |none=>none)else none
  | .st u' fs=>if u'=u then(match fs[i]? with
   |some f=>(match gn f r x with
    |some a=>some (iC u (fs.set i a))
    |none=>none)
   |none=>none)else none
  |_=>none
section
variable{P:c6}{w:c8}{aa:Nat->Prop}{β:Bd}{H:Heap}
theorem vu:∀{l:List Nat}{vs:List PV}{a:List (List cR)},bg P w aa l vs a->a.map (·.length)=l/\vs.length=l.length/\a.length=l.length
 |[],[],_,h=>by simp[bg]at h;subst h;simp
 |[],_::_,_,h=>by simp[bg]at h
 |_::_,[],_,h=>by simp[bg]at h
 |n::f,v::vs,a,h=>by
  simp only[bg]at h;obtain⟨c,cs,rfl,e,b,d⟩:=h;have:=vu d;simp[b,this]
theorem yr:∀{l:List Nat}{vs:List AV}{a:List (List cR)},bL P w aa β H l vs a->a.map (·.length)=l/\vs.length=l.length/\a.length=l.length
 |[],[],_,h=>by simp[bL]at h;subst h;simp
 |[],_::_,_,h=>by simp[bL]at h
 |_::_,[],_,h=>by simp[bL]at h
 |n::f,v::vs,a,h=>by
  simp only[bL]at h;obtain⟨c,cs,rfl,e,b,d⟩:=h;have:=yr d;simp[b,this]
theorem NH{u:c7}{l:List Nat}(h:dL P u=some l):l.sum=P.cellsOf u/\∀n∈l,0<n:=by
 unfold dL at h
 split at h
 ·dsimp only at h
  split at h
  ·rename_i hc;simp at hc;obtain⟨⟨b,c⟩,d⟩:=hc;simp at h;subst h;refine⟨c,?_⟩;intro n a;simp at a;obtain⟨f,hf,rfl⟩:=a;obtain⟨i,hi,rfl⟩:=Array.mem_iff_getElem.1 hf;exact b i hi
  ·simp at h
 ·split at h
  ·rename_i hc;simp at hc;simp at h;subst h;refine⟨by simp[hz,hc.2],?_⟩;intro n a;have:=hO a;omega
  ·simp at h
 ·simp at h
theorem n8:∀{v:PV}{cs:List cR},aV P w aa v cs->cs.length=bG P (aL v)/\aL v≠.bad:=by
 intro v cs h;cases v<;>simp only[aV]at h
 case st u fs=>
  obtain⟨l,c,a,b,rfl⟩:=h;have:=vu b;simp[aL,bG,this.1,(NH a).1]
 case str=>obtain⟨_,h,_⟩:=h;subst h;simp[aL,bG]
 case seq=>
  rcases h with⟨_,rfl⟩|⟨_,_,_,_,_,_,_,_,_,_,_,rfl⟩<;>simp[aL,bG]
 all_goals first
  |(subst h;simp[aL,bG])
  |(obtain⟨_,_,_,_,_,_,rfl⟩:=h;simp[aL,bG])
  |(obtain⟨_,_,_,_,_,rfl⟩:=h;simp[aL,bG])
  |(obtain⟨_,_,_,_,_,_,_,_,_,_,_,_,rfl⟩:=h;simp[aL,bG])
  |(obtain⟨_,_,_,_,_,_,_,rfl⟩:=h;simp[aL,bG])
  |(obtain⟨_,_,_,_,rfl⟩:=h;simp[aL,bG])
  |(obtain⟨_,h,_⟩:=h;subst h;simp[aL,bG])
  |exact h.elim
theorem oh{v:AV}{cs:List cR}(h:bp P w aa β H v cs):cs.length=bG P (ad v)/\ad v≠.bad:=by
 cases v<;>simp only[bp]at h
 case p t=>exact n8 h
 case st u fs=>
  obtain⟨l,c,a,b,rfl⟩:=h;have:=yr b;simp[ad,bG,this.1,(NH a).1]
 all_goals first
  |(obtain⟨_,rfl,_⟩:=h;simp[ad,bG])
  |(obtain⟨_,_,_,_,rfl⟩:=h;simp[ad,bG])
theorem tH{v:PV}(hs:aL v=.leaf)(cs:List cR):aV P w aa v cs↔∃c,cs=[c]/\aB P w aa v c:=by
 cases v<;>simp[aL]at hs<;>simp only[aV,aB]
 case bool|int|dc|aK|fM|iE|gl=>exact⟨fun h=>⟨_,h,rfl⟩,fun⟨c,g,i⟩=>by rw[g,i]⟩
 case str s=>exact⟨fun⟨bs,g,i⟩=>⟨_,g,bs,rfl,i⟩,fun⟨c,g,bs,i,j⟩=>⟨bs,by rw[g,i],j⟩⟩
 case cA t=>exact⟨fun⟨a,b,c,g,i,j,k⟩=>⟨_,k,a,b,c,g,i,j,rfl⟩,fun⟨v,g,a,b,c,i,j,k,l⟩=>⟨a,b,c,i,j,k,by rw[g,l]⟩⟩
 case bJ f es=>exact⟨fun⟨a,b,c,d,e,g,i,j,k,l,sp,n,m⟩=>⟨_,m,a,b,c,d,e,g,i,j,k,l,sp,n,rfl⟩,fun⟨v,h,a,b,c,d,e,g,i,j,k,l,sp,n,m⟩=>⟨a,b,c,d,e,g,i,j,k,l,sp,n,by rw[h,m]⟩⟩
 case seq es=>
  constructor
  ·rintro(⟨g,i⟩|⟨a,b,c,d,e,g,i,j,l,sp,n,m⟩)
   ·exact⟨_,i,.inl ⟨g,rfl⟩⟩
   ·exact⟨_,m,.inr ⟨a,b,c,d,e,g,i,j,l,sp,n,rfl⟩⟩
  ·rintro⟨v,h,(⟨g,i⟩|⟨a,b,c,d,e,g,i,j,l,sp,n,m⟩)⟩
   ·exact .inl ⟨g,by rw[h,i]⟩
   ·exact .inr ⟨a,b,c,d,e,g,i,j,l,sp,n,by rw[h,m]⟩
 case fq es=>exact⟨fun⟨a,b,c,g,i,j,k⟩=>⟨_,k,a,b,c,g,i,j,rfl⟩,fun⟨v,h,a,b,c,g,i,j,k⟩=>⟨a,b,c,g,i,j,by rw[h,k]⟩⟩
 case func f x y=>exact⟨fun⟨a,b,g,i,j⟩=>⟨_,j,a,b,g,i,rfl⟩,fun⟨v,h,a,b,g,i,j⟩=>⟨a,b,g,i,by rw[h,j]⟩⟩
theorem wA{v:PV}{u:c7}(hs:aL v=.agg u)(cs:List cR):aV P w aa v cs↔aB P w aa v (.agg cs.toArray):=by
 cases v<;>simp[aL]at hs;subst hs;simp only[aV,aB];constructor
 ·rintro⟨l,a,b,c,rfl⟩;exact⟨l,a,b,c,rfl⟩
 ·rintro⟨l,a,b,c,d⟩;refine⟨l,a,b,c,?_⟩;injection d with d;simpa using congrArg ck d
theorem C8{v:AV}(hs:ad v=.leaf)(cs:List cR):bp P w aa β H v cs↔∃c,cs=[c]/\aw P w aa β H v c:=by
 cases v<;>simp[ad]at hs<;>simp only[bp,aw]
 case p t=>exact tH hs cs
 case func f x y=>exact⟨fun⟨a,b,d,e,g⟩=>⟨_,g,a,b,d,e,rfl⟩,fun⟨v,h,a,b,d,e,g⟩=>⟨a,b,d,e,by rw[h,g]⟩⟩
theorem OP{v:AV}{u:c7}(hs:ad v=.agg u)(cs:List cR):bp P w aa β H v cs↔aw P w aa β H v (.agg cs.toArray):=by
 cases v<;>simp[ad]at hs
 case p t=>simp only[bp,aw];exact wA hs cs
 case st u' fs=>
  subst hs;simp only[bp,aw];constructor
  ·rintro⟨l,a,b,c,rfl⟩;exact⟨l,a,b,c,rfl⟩
  ·rintro⟨l,a,b,c,d⟩;refine⟨l,a,b,c,?_⟩;injection d with d;simpa using congrArg ck d
theorem yL{v:AV}{x:cR}(h:aw P w aa β H v x)(hs:ad v≠.bad):bp P w aa β H v x.cells.toList:=by
 cases a:ad v with
 |bad=>exact absurd a hs
 |leaf=>
  rw[C8 a];refine⟨x,?_,h⟩;cases v<;>simp[ad]at a<;>simp only[aw]at h
  case p t=>
   cases t<;>simp[aL]at a<;>simp only[aB]at h
   case bool|int|dc|aK|fM|iE|gl=>subst h;rfl
   case str=>obtain⟨_,rfl,_⟩:=h;rfl
   case cA=>obtain⟨_,_,_,_,_,_,rfl⟩:=h;rfl
   case bJ=>obtain⟨_,_,_,_,_,_,_,_,_,_,_,_,rfl⟩:=h;rfl
   case seq=>rcases h with⟨_,rfl⟩|⟨_,_,_,_,_,_,_,_,_,_,_,rfl⟩<;>rfl
   case fq=>obtain⟨_,_,_,_,_,_,rfl⟩:=h;rfl
   case func=>obtain⟨_,_,_,_,rfl⟩:=h;rfl
  case func=>obtain⟨_,_,_,_,rfl⟩:=h;rfl
  all_goals (have b:=h.1;cases x<;>first|rfl|(simp[ha]at b))
 |agg u=>
  cases v<;>simp[ad]at a
  case p t=>
   cases t<;>simp[aL]at a;simp only[aw,aB]at h;obtain⟨l,c,b,d,rfl⟩:=h;simp only[bp,aV];exact⟨l,c,b,d,by simp[hb]⟩
  case st u' fs=>
   simp only[aw]at h;obtain⟨l,c,b,d,rfl⟩:=h;simp only[bp];exact⟨l,c,b,d,by simp[hb]⟩
end
mutual
def Wk:PV->PV->Prop
 | .undef,v=>v=.undef
 | .bool b,v=>v=.bool b
 | .int k n,v=>v=.int k n
 | .str s,v=>v=.str s
 | .dc,v=>v=.dc
 | .fM,v=>v=.fM
 | .iE,v=>v=.iE
 | .gl,v=>v=.gl
 | .aK,v=>v=.aK\/v=.seq []
 | .cA t,v=>match v with
  | .cA h=>Wk t h
  |_=>False
 | .bJ f es,v=>match v with
  | .bJ g fs=>(g=true->f=true)/\bB es fs
  | .seq fs=>bB es fs
  |_=>False
 | .seq es,v=>match v with
  | .seq fs=>bB es fs
  |_=>False
 | .fq es,v=>match v with
  | .fq fs=>lL es fs
  |_=>False
 | .func f a b,v=>match v with
  | .func g c d=>f=g/\bB a c/\bB b d
  |_=>False
 | .st u es,v=>match v with
  | .st u' fs=>u=u'/\bB es fs
  |_=>False
 | .aE es,v=>match v with
  | .aE fs=>bB es fs
  |_=>False
def bB:List PV->List PV->Prop
 |[],fs=>fs=[]
 |v::vs,fs=>match fs with
  |f::fs=>Wk v f/\bB vs fs
  |[]=>False
def lL:List (PV×PV)->List (PV×PV)->Prop
 |[],fs=>fs=[]
 |(k,v)::vs,fs=>match fs with
  |(e,f)::fs=>k=e/\Wk v f/\lL vs fs
  |[]=>False
end
mutual
theorem Wk.refl:∀v,Wk v v
 | .undef| .bool _| .int _ _| .str _| .dc| .fM| .iE| .gl=>by simp[Wk]
 | .aK=>by simp[Wk]
 | .cA t=>by simp only[Wk];exact Wk.refl t
 | .bJ f c=>by simp only[Wk];exact⟨id,bB.refl c⟩
 | .seq c=>by simp only[Wk];exact bB.refl c
 | .fq c=>by simp only[Wk];exact lL.refl c
 | .func f a b=>by simp only[Wk];exact⟨trivial,bB.refl a,bB.refl b⟩
 | .st u c=>by simp only[Wk];exact⟨trivial,bB.refl c⟩
 | .aE c=>by simp only[Wk];exact bB.refl c
theorem bB.refl:∀vs,bB vs vs
 |[]=>by simp[bB]
 |v::vs=>by simp only[bB];exact⟨Wk.refl v,bB.refl vs⟩
theorem lL.refl:∀c,lL c c
 |[]=>by simp[lL]
 |(k,v)::vs=>by simp only[lL];exact⟨trivial,Wk.refl v,lL.refl vs⟩
end
theorem bB.length:∀{es fs:List PV},bB es fs->fs.length=es.length
 |[],fs,h=>by simp only[bB]at h;subst h;rfl
 |v::vs,fs,h=>by
  cases fs with
  |nil=>simp[bB]at h
  |cons f fs=>simp only[bB]at h;simp[bB.length h.2]
theorem bB.pI{a fs:List PV}(h:bB a fs):fs=[]↔a=[]:=by
 have:=h.length;rw[<-hH,<-hH,this]
theorem Wk.aL:∀{v v':PV},Wk v v'->au.aL v'=au.aL v
 | .undef,v',h| .bool _,v',h| .int _ _,v',h| .str _,v',h| .dc,v',h| .fM,v',h| .iE,v',h| .gl,v',h=>by simp only[Wk]at h;subst h;rfl
 | .aK,v',h=>by simp only[Wk]at h;rcases h with rfl|rfl<;>rfl
 | .cA _,v',h| .bJ _ _,v',h| .seq _,v',h| .fq _,v',h| .func _ _ _,v',h| .aE _,v',h=>by cases v'<;>simp only[Wk]at h<;>rfl
 | .st _ _,v',h=>by
  cases v'<;>simp only[Wk]at h;simp[au.aL,h.1]
section
variable{P:c6}{w:c8}{aa:Nat->Prop}
mutual
theorem aV.df:∀(v v':PV)(cs:List cR),Wk v v'->aV P w aa v cs->aV P w aa v' cs
 | .undef,v',cs,h,hc| .bool _,v',cs,h,hc| .int _ _,v',cs,h,hc| .str _,v',cs,h,hc| .dc,v',cs,h,hc| .fM,v',cs,h,hc| .iE,v',cs,h,hc| .gl,v',cs,h,hc=>by simp only[Wk]at h;subst h;exact hc
 | .aK,v',cs,h,hc=>by
  simp only[Wk]at h;rcases h with rfl|rfl
  ·exact hc
  ·simp only[aV]at hc⊢;exact .inl ⟨trivial,hc⟩
 | .cA t,v',cs,h,hc=>by
  cases v'<;>simp only[Wk]at h;simp only[aV]at hc⊢;obtain⟨al,off,ts,d,i⟩:=hc;exact⟨al,off,ts,aV.df _ _ _ h d,i⟩
 | .bJ f o,v',cs,h,hc=>by
  cases v' with
  |bJ g fs=>
   simp only[Wk]at h;simp only[aV]at hc⊢;obtain⟨al,off,cap,ai,m,d,i,j,p,q,s⟩:=hc;have hl:=h.2.length;rw[hl];exact⟨al,off,cap,ai,m,bg.df _ _ _ _ h.2 d,fun z=>i (fun e=>z (h.2.pI.2 e)),j,fun e=>p (h.1 e),q,s⟩
  |seq fs=>
   simp only[Wk]at h;simp only[aV]at hc⊢;obtain⟨al,off,cap,ai,m,d,i,j,p,q,s⟩:=hc;have hl:=h.length;rw[hl];exact .inr ⟨al,off,cap,ai,m,bg.df _ _ _ _ h d,fun z=>i (fun e=>z (h.pI.2 e)),j,q,s⟩
  |_=>simp only[Wk]at h
 | .seq o,v',cs,h,hc=>by
  cases v'<;>simp only[Wk]at h;simp only[aV]at hc⊢;rcases hc with⟨d,i⟩|⟨al,off,cap,ai,m,d,i,j,q,s⟩
  ·exact .inl ⟨h.pI.2 d,i⟩
  ·have hl:=h.length;rw[hl];exact .inr ⟨al,off,cap,ai,m,bg.df _ _ _ _ h d,fun z=>i (fun e=>z (h.pI.2 e)),j,q,s⟩
 | .fq o,v',cs,h,hc=>by
  cases v'<;>simp only[Wk]at h;simp only[aV]at hc⊢;obtain⟨r,B,clock,d,i,j,p⟩:=hc;exact⟨r,B,clock,d,i,cF.df _ _ _ h j,p⟩
 | .func f a b,v',cs,h,hc=>by
  cases v'<;>simp only[Wk]at h;obtain⟨rfl,E,F⟩:=h;simp only[aV]at hc⊢;obtain⟨D,C,d,i,j⟩:=hc;exact⟨D,C,bm.df _ _ _ E d,bm.df _ _ _ F i,j⟩
 | .st u o,v',cs,h,hc=>by
  cases v'<;>simp only[Wk]at h;obtain⟨rfl,h⟩:=h;simp only[aV]at hc⊢;obtain⟨l,m,d,i,j⟩:=hc;exact⟨l,m,d,bg.df _ _ _ _ h i,j⟩
 | .aE o,v',cs,h,hc=>by simp[aV]at hc
theorem bg.df:∀(l:List Nat)(o fs:List PV)(m:List (List cR)),bB o fs->bg P w aa l o m->bg P w aa l fs m
 |l,[],fs,m,h,hc=>by simp only[bB]at h;subst h;exact hc
 |l,v::vs,fs,m,h,hc=>by
  cases fs with
  |nil=>simp[bB]at h
  |cons f fs=>
   simp only[bB]at h;cases l with
   |nil=>simp[bg]at hc
   |cons n l=>
    simp only[bg]at hc⊢;obtain⟨c,cs,d,i,j,p⟩:=hc;exact⟨c,cs,d,aV.df _ _ _ h.1 i,j,bg.df _ _ _ _ h.2 p⟩
theorem aB.df:∀(v v':PV)(x:cR),Wk v v'->aB P w aa v x->aB P w aa v' x
 | .undef,v',cs,h,hc| .bool _,v',cs,h,hc| .int _ _,v',cs,h,hc| .str _,v',cs,h,hc| .dc,v',cs,h,hc| .fM,v',cs,h,hc| .iE,v',cs,h,hc| .gl,v',cs,h,hc=>by simp only[Wk]at h;subst h;exact hc
 | .aK,v',cs,h,hc=>by
  simp only[Wk]at h;rcases h with rfl|rfl
  ·exact hc
  ·simp only[aB]at hc⊢;exact .inl ⟨trivial,hc⟩
 | .cA t,v',cs,h,hc=>by
  cases v'<;>simp only[Wk]at h;simp only[aB]at hc⊢;obtain⟨al,off,ts,d,i⟩:=hc;exact⟨al,off,ts,aV.df _ _ _ h d,i⟩
 | .bJ f o,v',cs,h,hc=>by
  cases v' with
  |bJ g fs=>
   simp only[Wk]at h;simp only[aB]at hc⊢;obtain⟨al,off,cap,ai,m,d,i,j,p,q,s⟩:=hc;have hl:=h.2.length;rw[hl];exact⟨al,off,cap,ai,m,bg.df _ _ _ _ h.2 d,fun z=>i (fun e=>z (h.2.pI.2 e)),j,fun e=>p (h.1 e),q,s⟩
  |seq fs=>
   simp only[Wk]at h;simp only[aB]at hc⊢;obtain⟨al,off,cap,ai,m,d,i,j,p,q,s⟩:=hc;have hl:=h.length;rw[hl];exact .inr ⟨al,off,cap,ai,m,bg.df _ _ _ _ h d,fun z=>i (fun e=>z (h.pI.2 e)),j,q,s⟩
  |_=>simp only[Wk]at h
 | .seq o,v',cs,h,hc=>by
  cases v'<;>simp only[Wk]at h;simp only[aB]at hc⊢;rcases hc with⟨d,i⟩|⟨al,off,cap,ai,m,d,i,j,q,s⟩
  ·exact .inl ⟨h.pI.2 d,i⟩
  ·have hl:=h.length;rw[hl];exact .inr ⟨al,off,cap,ai,m,bg.df _ _ _ _ h d,fun z=>i (fun e=>z (h.pI.2 e)),j,q,s⟩
 | .fq o,v',cs,h,hc=>by
  cases v'<;>simp only[Wk]at h;simp only[aB]at hc⊢;obtain⟨r,B,clock,d,i,j,p⟩:=hc;exact⟨r,B,clock,d,i,cF.df _ _ _ h j,p⟩
 | .func f a b,v',cs,h,hc=>by
  cases v'<;>simp only[Wk]at h;obtain⟨rfl,E,F⟩:=h;simp only[aB]at hc⊢;obtain⟨D,C,d,i,j⟩:=hc;exact⟨D,C,bm.df _ _ _ E d,bm.df _ _ _ F i,j⟩
 | .st u o,v',cs,h,hc=>by
  cases v'<;>simp only[Wk]at h;obtain⟨rfl,h⟩:=h;simp only[aB]at hc⊢;obtain⟨l,m,d,i,j⟩:=hc;exact⟨l,m,d,bg.df _ _ _ _ h i,j⟩
 | .aE o,v',cs,h,hc=>by
  cases v'<;>simp only[Wk]at h;simp only[aB]at hc⊢;obtain⟨A,d,i⟩:=hc;exact⟨A,bm.df _ _ _ h d,i⟩
theorem bm.df:∀(o fs:List PV)(A:List cR),bB o fs->bm P w aa o A->bm P w aa fs A
 |[],fs,A,h,hc=>by simp only[bB]at h;subst h;exact hc
 |v::vs,fs,A,h,hc=>by
  cases fs with
  |nil=>simp[bB]at h
  |cons f fs=>
   simp only[bB]at h;simp only[bm]at hc⊢;obtain⟨y,G,d,i,j⟩:=hc;exact⟨y,G,d,aB.df _ _ _ h.1 i,bm.df _ _ _ h.2 j⟩
theorem cF.df:∀(o fs:List (PV×PV))(B:List ej),lL o fs->cF P w aa o B->cF P w aa fs B
 |[],fs,A,h,hc=>by simp only[lL]at h;subst h;exact hc
 |(k,v)::vs,fs,A,h,hc=>by
  cases fs with
  |nil=>simp[lL]at h
  |cons f fs=>
   simp only[lL]at h;obtain⟨rfl,d,i⟩:=h;simp only[cF]at hc⊢;obtain⟨e,rest,e1,e2,e3,e4⟩:=hc;exact⟨e,rest,e1,e2,aB.df _ _ _ d e3,cF.df _ _ _ i e4⟩
end
end
section
variable{P:c6}{w:c8}{aa:Nat->Prop}{β:Bd}{H:Heap}
theorem mi:∀{fs:List AV}{l:List PV},eZ fs=some l->fs=l.map .p
 |[],l,h=>by simp[eZ]at h;subst h;rfl
 | .p v::r,l,h=>by
  simp only[eZ]at h;cases a:eZ r with
  |none=>simp[a]at h
  |some b=>simp[a]at h;subst h;simp[mi a]
 | .ptr ..::_,_,h| .b8 ..::_,_,h| .sl ..::_,_,h| .map ..::_,_,h| .func ..::_,_,h| .st ..::_,_,h| .aE ..::_,_,h=>by simp[eZ]at h
theorem od:∀{l:List Nat}{fs:List PV}{a:List (List cR)},bL P w aa β H l (fs.map .p) a↔bg P w aa l fs a
 |[],[],_=>by simp[bL,bg]
 |[],_::_,_=>by simp[bL,bg]
 |_::_,[],_=>by simp[bL,bg]
 |n::g,v::vs,a=>by
  simp only[hK,bL,bg,bp];constructor
  ·rintro⟨c,cs,b,d,e,f⟩;exact⟨c,cs,b,d,e,od.1 f⟩
  ·rintro⟨c,cs,b,d,e,f⟩;exact⟨c,cs,b,d,e,od.2 f⟩
theorem j0:∀{fs:List PV}{d:List cR},br P w aa β H (fs.map .p) d↔bm P w aa fs d
 |[],_=>by simp[br,bm]
 |v::vs,d=>by
  simp only[hK,br,bm,aw];constructor
  ·rintro⟨y,e,a,b,c⟩;exact⟨y,e,a,b,j0.1 c⟩
  ·rintro⟨y,e,a,b,c⟩;exact⟨y,e,a,b,j0.2 c⟩
theorem Nu{u:c7}{fs:List AV}{cs:List cR}:bp P w aa β H (iC u fs) cs↔bp P w aa β H (.st u fs) cs:=by
 unfold iC;cases h:eZ fs with
 |none=>rfl
 |some l=>have:=mi h;subst this;simp[bp,aV,od]
theorem ZO{u:c7}{fs:List AV}{x:cR}:aw P w aa β H (iC u fs) x↔aw P w aa β H (.st u fs) x:=by
 unfold iC;cases h:eZ fs with
 |none=>rfl
 |some l=>have:=mi h;subst this;simp[aw,aB,od]
theorem jw(n:Nat×Nat->Prop):∀l:List PV,aR n (l.map .p)
 |[]=>by simp[aR]
 |v::l=>by simp only[hK,aR,aC,true_and];exact jw n l
theorem Ce{n:Nat×Nat->Prop}{u:c7}{fs:List AV}(h:aR n fs):aC n (iC u fs):=by
 unfold iC;cases eZ fs with
 |none=>exact h
 |some l=>simp[aC]
theorem cO{n:Nat×Nat->Prop}:∀{fs:List AV},aR n fs↔∀v∈fs,aC n v
 |[]=>by simp[aR]
 |v::vs=>by simp[aR,cO (fs:=vs)]
theorem tO:∀{l:List Nat}{fs:List AV}{d:List (List cR)}{i:Nat}{f:AV},bL P w aa β H l fs d->fs[i]?=some f->
 ∃pre c post,d.flatten=pre++c++post/\pre.length=(l.take i).sum/\i<l.length/\l[i]?=some c.length/\bp P w aa β H f c/\
  ∀b c',bp P w aa β H b c'->c'.length=c.length->∃a,a.flatten=pre++c'++post/\bL P w aa β H l (fs.set i b) a
 |[],[],_,i,f,_,hf=>by simp at hf
 |[],_::_,_,_,_,h,_=>by simp[bL]at h
 |_::_,[],_,_,_,h,_=>by simp[bL]at h
 |n::k,v::vs,d,0,f,h,hf=>by
  simp only[bL]at h;obtain⟨c,cs,rfl,g,e,j⟩:=h;simp at hf;subst hf;refine⟨[],c,cs.flatten,s_,s_,s_,by simp[e],g,?_⟩;intro b c' hc hl;exact⟨c'::cs,s_,by simp only[h1,bL];exact⟨c',cs,rfl,hc,o_,j⟩⟩
 |n::k,v::vs,d,i+1,f,h,hf=>by
  simp only[bL]at h;obtain⟨c,cs,rfl,g,e,j⟩:=h;simp at hf;obtain⟨pre,x,post,k1,k2,k3,k4,k5,k6⟩:=tO j hf;refine⟨c++pre,x,post,by simp[k1],by simp[k2,e],by simpa using k3,by simpa using k4,k5,?_⟩;intro b c' hc hl;obtain⟨a,e1,e2⟩:=k6 b c' hc hl;exact⟨c::a,by simp[e1],by simp only[List.set_cons_succ,bL];exact⟨c,a,rfl,g,e,e2⟩⟩
theorem Mm{t:AV}{u:c7}{cs:List cR}(hs:ad t= .agg u)(h:bp P w aa β H t cs):
 ∃l fs a,dL P u=some l/\bL P w aa β H l fs a/\cs=a.flatten/\(∀c,t=.p c->fs=(cH c).map .p)/\(∀u' g,t=.st u' g->fs=g/\u'=u):=by
 cases t<;>simp[ad]at hs
 case p t=>
  cases t<;>simp[aL]at hs;subst hs;simp only[bp,aV]at h;obtain⟨l,a,d,e,f⟩:=h;exact⟨l,_,a,d,od.2 e,f,fun c b=>by cases b;rfl,fun _ _ h=>by cases h⟩
 case st u' fs=>
  subst hs;simp only[bp]at h;obtain⟨l,a,d,e,f⟩:=h;exact⟨l,fs,a,d,e,f,(fun c b=>by cases b),(fun j i b=>by cases b;exact⟨rfl,rfl⟩)⟩
theorem zN{t:PV}{a:List (c7×Nat)}:fc (.p t) a=(lH t a).map .p:=by
 cases a with
 |nil=>rfl
 |cons x r=>obtain⟨u,i⟩:=x;simp only[fc];cases lH t ((u,i)::r)<;>rfl
theorem pH:∀{y:List (c7×Nat)}{t s:AV}{cs:List cR}{o:Nat},bp P w aa β H t cs->fc t y=some s->gG P y=some o->
 ∃pre n post,cs=pre++n++post/\pre.length=o/\bp P w aa β H s n/\
  ∀x k a,gn t y x=some a->bp P w aa β H x k->k.length=n.length->bp P w aa β H a (pre++k++post)
 |[],t,s,cs,o,h,hs,d=>by
  simp[gG]at d;subst d;simp[fc]at hs;subst hs;refine⟨[],cs,[],s_,s_,h,?_⟩;intro x k a hx v _;simp[gn]at hx;subst hx;simpa using v
 |(u,i)::r,t,s,cs,o,h,hs,d=>by
  simp only[gG]at d;cases m:dL P u with
  |none=>simp[m]at d
  |some l=>
   cases q:gG P r with
   |none=>simp[m,q]at d
   |some o'=>
    simp[m,q]at d;obtain⟨G,rfl⟩:=d
    have key:∃fs f,(∃j e,dL P u=some j/\bL P w aa β H j fs e/\cs=e.flatten)/\fs[i]?=some f/\fc f r=some s/\
     (∀x a,gn t ((u,i)::r) x=some a->∃b,gn f r x=some b/\a=iC u (fs.set i b)):=by
     cases t
     case p t=>
      rw[zN]at hs;simp only[lH]at hs
      by_cases g:aL t=.agg u
      ·simp only[g,if_true]at hs;obtain⟨j,fs,e,k1,k2,k3,k4,_⟩:=Mm (t:=.p t) (by simpa[ad]using g) h;have:=k4 t rfl;subst this;cases hf:(cH t)[i]? with
       |none=>simp[hf]at hs
       |some f=>
        simp only[hf]at hs;refine⟨_,.p f,⟨j,e,k1,k2,k3⟩,by simp[hf],by rw[zN];exact hs,?_⟩;intro x a hx;simp only[gn,g,if_true,hf]at hx;cases hq:gn (.p f) r x with
        |none=>simp[hq]at hx
        |some b=>simp[hq]at hx;exact⟨b,rfl,hx.symm⟩
      ·simp[g]at hs
     case st u' fs=>
      simp only[fc]at hs
      by_cases g:u'=u
      ·subst g;simp only[if_true]at hs;obtain⟨j,B,e,k1,k2,k3,_,k4⟩:=Mm (t:=.st u' fs) rfl h;have:=(k4 _ _ rfl).1;subst this;cases hf:B[i]? with
       |none=>simp[hf]at hs
       |some f=>
        simp only[hf]at hs;refine⟨_,f,⟨j,e,k1,k2,k3⟩,hf,hs,?_⟩;intro x a hx;simp only[gn,if_true,hf]at hx;cases hq:gn f r x with
        |none=>simp[hq]at hx
        |some b=>simp[hq]at hx;exact⟨b,rfl,hx.symm⟩
      ·simp[g]at hs
     all_goals simp[fc]at hs
    obtain⟨fs,f,⟨j,e,k1,k2,k3⟩,hf,D,aG⟩:=key;rw[m]at k1;cases k1;obtain⟨pre,c,post,e1,e2,e3,e4,e5,A⟩:=tO k2 hf;obtain⟨F,n,E,g1,g2,g3,g4⟩:=pH e5 D q;refine⟨pre++F,n,E++post,by rw[k3,e1,g1];simp,by simp[e2,g2],g3,?_⟩;intro x k a hx v hl;obtain⟨b,C,rfl⟩:=aG x a hx;have aS:=g4 x k b C v hl;obtain⟨z,c1,c2⟩:=A b _ aS (by rw[g1];simp[hl]);rw[Nu];simp only[bp];exact⟨l,z,m,c2,by rw[c1];simp⟩
theorem zd{path:List (c7×Nat)}{t s:PV}{cs:List cR}{o:Nat}(h:aV P w aa t cs)(hs:lH t path=some s)(e:gG P path=some o):
 ∃pre a post,cs=pre++a++post/\pre.length=o/\aV P w aa s a:=by
 obtain⟨pre,a,post,b,c,d,_⟩:=pH (β:=⟨id,id⟩) (H:=[]) (t:=.p t) (s:=.p s) (by simpa[bp]using h) (by rw[zN,hs];rfl) e;exact⟨pre,a,post,b,c,by simpa[bp]using d⟩
theorem vN{n:Nat×Nat->Prop}:∀{a:List (c7×Nat)}{t s:AV},fc t a=some s->aC n t->aC n s
 |[],t,s,hs,h=>by simp[fc]at hs;subst hs;exact h
 |(u,i)::r,.p t,s,hs,h=>by
  rw[zN]at hs;cases hq:lH t ((u,i)::r)with
  |none=>simp[hq]at hs
  |some q=>simp[hq]at hs;subst hs;simp[aC]
 |(u,i)::r,.st u' fs,s,hs,h=>by
  simp only[fc]at hs
  split at hs
  ·split at hs
   ·rename_i f hf;simp only[aC]at h;exact vN hs (cO.1 h f (hE hf))
   ·simp at hs
  ·simp at hs
 |_::_,.ptr ..,_,hs,_|_::_,.b8 ..,_,hs,_|_::_,.sl ..,_,hs,_|_::_,.map ..,_,hs,_|_::_,.func ..,_,hs,_|_::_,.aE ..,_,hs,_=>by simp[fc]at hs
theorem vO{n:Nat×Nat->Prop}:∀{e:List (c7×Nat)}{t b x:AV},gn t e x=some b->aC n t->aC n x->aC n b
 |[],t,b,x,hs,h,hx=>by simp[gn]at hs;subst hs;exact hx
 |(u,i)::r,.p t,b,x,hs,h,hx=>by
  simp only[gn]at hs
  split at hs
  ·split at hs
   ·split at hs
    ·rename_i f hf d c;simp at hs;subst hs;refine Ce (cO.2 ?_);intro v a;rcases hF a with a|rfl
     ·exact cO.1 (jw n _) v a
     ·exact vO c (by simp[aC]) hx
    ·simp at hs
   ·simp at hs
  ·simp at hs
 |(u,i)::r,.st u' fs,b,x,hs,h,hx=>by
  simp only[gn]at hs
  split at hs
  ·split at hs
   ·split at hs
    ·rename_i _ f hf _ d c;simp at hs;subst hs;simp only[aC]at h;refine Ce (cO.2 ?_);intro v a;rcases hF a with a|rfl
     ·exact cO.1 h v a
     ·exact vO c (cO.1 h f (hE hf)) hx
    ·simp at hs
   ·simp at hs
  ·simp at hs
 |_::_,.ptr ..,_,_,hs,_,_|_::_,.b8 ..,_,_,hs,_,_|_::_,.sl ..,_,_,hs,_,_|_::_,.map ..,_,_,hs,_,_|_::_,.func ..,_,_,hs,_,_|_::_,.aE ..,_,_,hs,_,_=>by simp[gn]at hs
end
structure aU where
 v:AV
 ak:List (Nat×Obj):=[]
 aG:List (Nat×Obj):=[]
 aS:List Obj:=[]
def aW(H:Heap)(l:List (Nat×Obj)):Heap:=
 match l with
 |[]=>H
 |(b,o)::r=>aW (H.set b o) r
def put(dst:Option Tmp)(v:AV)(e:Env):Env:=
 match dst with
 |some d=>(d,v)::e
 |none=>e
def aU.app(e:aU)(dst:Option Tmp)(s:St):St:=⟨put dst e.v s.env,aW s.heap e.aG++e.aS⟩
def ev(e:Env):da->AV
 | .tmp t=>aN e t
 | .const v=>.p (ofConst v)
 | .global g=>.p (Gl.g g)
 | .func f=>.p (.func f [] [])
def gM(s:List Nat):ByteArray:=⟨(s.map UInt8.ofNat).toArray⟩
mutual
def gU:PV->PV->Option Bool
 | .bool a,.bool b=>some (a==b)
 | .int k a,.int c b=>if k=c then some (a==b)else none
 | .str a,.str b=>some (a==b)
 | .st u fs,.st u' gs=>if u=u' then xj fs gs else none
 |_,_=>none
def xj:List PV->List PV->Option Bool
 |[],[]=>some true
 |a::as,b::bs=>match gU a b with
  |some true=>xj as bs
  |some false=>some false
  |none=>none
 |_,_=>none
end
def iB(P:c6)(c:c7->PV->PV->Option Bool):List c7->List PV->List PV->Option Bool
 |[],[],[]=>some true
 |T::d,a::as,b::bs=>
  if kindOf P T=aL a/\kindOf P T=aL b then
   (match c T a b,iB P c d as bs with
   |some r,some s=>some (r&&s)
   |_,_=>none)
  else none
 |_,_,_=>none
def fy(P:c6):Nat->c7->PV->PV->Option Bool
 |0,_,_,_=>none
 |n+1,T,v,v'=>
  match P.underlying T,v,v' with
  |some .bool,.bool a,.bool b=>some (a==b)
  |some (.int _),.int k a,.int d b=>if k=d then some (a==b)else none
  |some .string,.str a,.str b=>some (a==b)
  |some (.struct fs),.st u xs,.st u' c=>
   if kindOf P T= .agg u/\u'=u/\P.stoodInHeld T=false/\fs.toList.all (fun f=>f.name != "_")=true then iB P (fy P n) (fs.toList.map (·.type)) xs c else none
  |some (.array m e),.st u xs,.st u' c=>
   if kindOf P T=.agg u/\u'=u/\(P.info? e).isSome=true then iB P (fy P n) (ht m e) xs c else none
  |_,_,_=>none
def nG(P:c6)(T:c7):Bool:=!P.eqGuardType P.depth T
def rq(P:c6)(T:c7):Bool:=match P.underlying T with|some .bool=>true|_=>false
def aOk(P:c6)(T:c7):Bool:=match P.underlying T with|some (.int _)=>true|_=>false
def iW(P:c6)(T:c7):Bool:=match P.underlying T with|some .string=>true|_=>false
inductive uU where|ptr|slice|map|func|iface
 deriving DecidableEq
def mI:da->Bool
 | .const _=>true
 |_=>false
def dF(P:c6)(T:c7)(c:Bool):AV->Option uU
 | .p .dc=>match P.underlying T with
  |some (.pointer _)=>some .ptr
  |_=>none
 | .p .aK=>match P.underlying T with
  |some (.slice _)=>some .slice
  |_=>none
 | .p .fM=>match P.underlying T with
  |some (.map _ _)=>some .map
  |_=>none
 | .p .iE=>match P.underlying T with
  |some (.func _ _ _)=>some .func
  |_=>none
 | .p .gl=>match c,P.underlying T with
  |true,some (.interface _)=>some .iface
  |_,_=>none
 |_=>none
def cZ(H:Heap)(k:uU)(x:AV):Option Bool:=
 match k,x with
 | .ptr,.p .dc| .slice,.p .aK| .map,.p .fM| .func,.p .iE| .iface,.p .gl=>some true
 | .ptr,.p (.cA _)| .slice,.p (.bJ _ _)| .map,.p (.fq _)| .func,.p (.func _ _ _)| .func,.func _ _ _=>some false
 | .ptr,.ptr b _=>match H[b]? with
  |some (.box _ _)=>some false
  |_=>none
 | .map,.map b=>match H[b]? with
  |some (.map _ _)=>some false
  |_=>none
 | .slice,.p (.seq (_::_))=>some false
 | .slice,.sl b aq ai _ _=>match H[b]? with
  |some (.arr k c a es)=>if aq=c/\ai=a then some (k.gr&&es.isEmpty)else none
  |_=>none
 |_,_=>none
def pW(op:er)(k:ed)(a b:Int)(K:PV->Prop):Prop:=
 match op with
 | .add=>K (.int k (k.wrap (a+b)))
 | .sub=>K (.int k (k.wrap (a-b)))
 | .mul=>K (.int k (k.wrap (a*b)))
 | .quo=>b≠0/\K (.int k (k.wrap (a.tdiv b)))
 | .rem=>b≠0/\K (.int k (a.tmod b))
 | .and=>K (.int k (k.wrap (cy k.bits a&&&cy k.bits b).toNat))
 | .or=>K (.int k (k.wrap (cy k.bits a|||cy k.bits b).toNat))
 | .xor=>K (.int k (k.wrap (cy k.bits a^^^cy k.bits b).toNat))
 | .andNot=>K (.int k (k.wrap (cy k.bits a&&&~~~cy k.bits b).toNat))
 | .eql=>K (.bool (a==b))
 | .neq=>K (.bool (a !=b))
 | .lss=>K (.bool (decide (a<b)))
 | .leq=>K (.bool (decide (a<=b)))
 | .gtr=>K (.bool (decide (a>b)))
 | .geq=>K (.bool (decide (a>=b)))
 | .shl=>0<=b/\K (.int k (k.wrap (a*2^(min b.toNat k.bits))))
 | .shr=>0<=b/\K (.int k (a.fdiv (2^(min b.toNat k.bits))))
def jM:List Nat->List Nat->Bool
 |_,[]=>false
 |[],_::_=>true
 |a::x,b::y=>decide (a<b)||(a==b&&jM x y)
def pV(op:er)(a b:List Nat)(K:PV->Prop):Prop:=
 match op with
 | .add=>a.length+b.length<9223372036854775808/\K (.str (a++b))
 | .eql=>K (.bool (a==b))
 | .neq=>K (.bool (!(a==b)))
 | .lss=>K (.bool (jM a b))
 | .leq=>K (.bool (jM a b||a==b))
 | .gtr=>K (.bool (!(jM a b||a==b)))
 | .geq=>K (.bool (!(jM a b)))
 |_=>False
def kY(P:c6)(op:er)(T:c7)(c:Bool)(H:Heap)(x y:AV)(K:PV->Prop):Prop:=
 match x,y with
 | .p (.int k a),.p (.int d b)=>(k=d\/op=.shl\/op=.shr)/\pW op k a b K
 | .p (.str a),.p (.str b)=>pV op a b K
 | .p (.bool a),.p (.bool b)=>rq P T=true/\match op with
  | .eql=>K (.bool (a==b))
  | .neq=>K (.bool (!(a==b)))
  |_=>False
 | .p (.st u fs),.p (.st u' gs)=>nG P T=true/\(match fy P 9 T (.st u fs) (.st u' gs),op with
  |some r,.eql=>K (.bool r)
  |some r,.neq=>K (.bool !r)
  |_,_=>False)
 |x,y=>
  (match dF P T c y with
  |some k=>(match cZ H k x,op with
   |some r,.eql=>K (.bool r)
   |some r,.neq=>K (.bool !r)
   |_,_=>False)
  |none=>False)
def cM:Nat:=1073741824
def ib(H:Heap):AV->Option (List AV)
 | .p .aK=>some []
 | .p (.bJ _ es)=>some (es.map .p)
 | .p (.seq es)=>some (es.map .p)
 | .p (.str s)=>some (s.map fun c=>.p (.int .u8 (c:Nat)))
 | .sl b aq ai off len=>match H[b]? with
  |some (.arr _ d a es)=>if aq=d/\ai=a/\off+len<=es.length then some ((es.drop off).take len)else none
  |_=>none
 |_=>none
def dH(H:Heap):AV->List (Nat×Obj)
 | .sl b _ _ _ _| .ptr b _| .b8 b _ _ _ _| .map b=>match H[b]? with
  |some o=>[(b,o)]
  |none=>[]
 |_=>[]
def fk(P:c6)(ai:Nat):List AV->Prop
 |[]=>True
 |v::vs=>(ad v≠.bad/\bG P (ad v)=ai)/\fk P ai vs
def cV(P:c6)(T:c7):Option Nat:=
 match P.underlying T with
 |some (.slice e)=>match P.info? e with
  |some i=>if i.bytes<32768/\0<i.size/\0<i.bytes then some i.size else none
  |none=>none
 |_=>none
def dW(P:c6)(T:c7):c7:=
 match P.underlying T with
 |some (.slice e)=>e
 |_=>0
def iy(P:c6)(X:c7):Bool:=
 match P.underlying X with
 |some (.int _)=>false
 |some _=>true
 |none=>false
def gk(P:c6)(T:c7):AK:=if dW P T=Gl.u8 then .bytes else .grow
def oc(P:c6)(T X:c7)(H:Heap)(s x:AV)(K:aU->Prop):Prop:=
 match cV P T,ib H x with
 |some sz,some xs=>iy P X=true/\(cK P (dW P T)).isSome=true/\fk P sz xs/\
  (match s with
  | .p .aK=>if xs.isEmpty then K {v:=s,ak:=dH H x}else xs.length<=cM/\K {v:=.sl H.length 0 sz 0 xs.length,ak:=dH H x,aS:=[.arr (gk P T) 0 sz xs]}
  | .p (.bJ full es)=>fk P sz (es.map .p)/\if xs.isEmpty then K {v:=s,ak:=dH H x}else full=true/\es.length+xs.length<=cM/\
   K {v:=.sl H.length 0 sz 0 (es.length+xs.length),ak:=dH H x,aS:=[.arr (gk P T) 0 sz (es.map .p++xs)]}
  | .sl b aq ai off len=>match H[b]? with
   |some (.arr k c a es)=>aq=c/\ai=a/\ai=sz/\off+len<=es.length/\
    if xs.isEmpty then K {v:=s,ak:=(b,.arr k c a es)::dH H x}
    else es.length+xs.length<=cM/\(match k with
     | .frozen=>False
     | .exact=>if off+len+xs.length<=es.length then
      K {v:=.sl b aq ai off (len+xs.length),ak:=(b,.arr k c a es)::dH H x,aG:=[(b,.arr .exact aq ai (es.take (off+len)++xs++es.drop (off+len+xs.length)))]}
      else K {v:=.sl H.length 0 sz 0 (len+xs.length),ak:=(b,.arr k c a es)::dH H x,aS:=[.arr (gk P T) 0 sz ((es.drop off).take len++xs)]}
     |_=>off=0/\(k=.bytes->dW P T=Gl.u8)/\K {v:=.sl b (aq+1) ai 0 (len+xs.length),ak:=(b,.arr k c a es)::dH H x,aG:=[(b,.arr k (aq+1) ai (es.take len++xs))]})
   |_=>False
  |_=>False)
 |_,_=>False
def gT(x:Option AV)(d:Nat)(K:Nat->Prop):Prop:=
 match x with
 |none=>K d
 |some (.p (.int _ i))=>0<=i/\K i.toNat
 |_=>False
def ow(P:c6)(T:c7)(H:Heap)(x:AV)(lo hi d:Option AV)(K:aU->Prop):Prop:=
 d.isNone/\match x with
 | .p (.str s)=>iW P T=true/\gT hi s.length fun h=>gT lo 0 fun l=>h<=s.length/\l<=h/\K {v:=.p (.str ((s.take h).drop l))}
 | .p .aK=>(cV P T).isSome=true/\gT hi 0 fun h=>gT lo 0 fun l=>h<=0/\l<=h/\K {v:=x}
 | .p (.bJ full es)=>gT hi es.length fun h=>gT lo 0 fun l=>h<=es.length/\l<=h/\
  (match cV P T with
  |some sz=>fk P sz (es.map .p)/\K {v:=.p (.bJ (full&&h==es.length) ((es.take h).drop l))}
  |none=>False)
 | .p (.seq es)=>gT hi es.length fun h=>gT lo 0 fun l=>h<=es.length/\l<=h/\
  (match cV P T with
  |some sz=>fk P sz (es.map .p)/\K {v:=.p (.seq ((es.take h).drop l))}
  |none=>False)
 | .sl b aq ai off len=>match H[b]? with
  |some (.arr k c a es)=>aq=c/\ai=a/\cV P T=some ai/\¬(k.gr=true/\es=[])/\off+len<=es.length/\
   gT hi len fun h=>gT lo 0 fun l=>off+h<=es.length/\l<=h/\
    (if l=0 then K {v:=.sl b aq ai off h,ak:=[(b,.arr k c a es)]}
    else if l=h then K {v:=.p (.bJ false []),ak:=[(b,.arr k c a es)]}
    else K {v:=.sl b aq ai (off+l) (h-l),ak:=[(b,.arr k c a es)]})
  |_=>False
 |_=>False
def qP(P:c6)(T:c7)(H:Heap)(x:AV)(lo hi:Option AV)(m:AV)(K:aU->Prop):Prop:=
 match x with
 | .sl b aq ai off len=>match H[b]? with
  |some (.arr k c a es)=>aq=c/\ai=a/\(cV P T).isSome=true/\¬(k.gr=true/\es=[])/\off+len<=es.length/\hi.isSome=true/\
   gT hi len fun h=>gT lo 0 fun l=>gT (some m) 0 fun m=>off+m<=es.length/\h<=m/\l<=h/\K {v:=.p .undef,ak:=[(b,.arr k c a es)]}
  |_=>False
 |_=>False
def qj(P:c6)(T:c7)(x k:PV):Option Bool:=match x with
 | .st u fs=>match fy P 9 T (.st u fs) k,gU (.st u fs) k with
  |some a,some b=>bif a==b then some a else none
  |_,_=>none
 |x=>gU x k
def gu(P:c6)(T:c7):List (PV×PV)->PV->Option (Option PV)
 |[],_=>some none
 |(k,v)::r,x=>match qj P T x k with
  |some true=>some (some v)
  |some false=>gu P T r x
  |none=>none
def mu(P:c6)(T:c7)(a:List (PV×PV))(x:PV):Option (Option PV):=match x with
 | .st u fs=>match gu P T a (.st u fs)with
  |some none=>some none
  |_=>none
 |x=>gu P T a x
def lN:PV->Bool
 | .st _ _=>false
 |_=>true
def jW(P:c6)(T:c7):List PV->List AV->PV->Option (Option AV)
 |[],[],_=>some none
 |k::ks,v::vs,x=>match qj P T x k with
  |some true=>some (some v)
  |some false=>jW P T ks vs x
  |none=>none
 |_,_,_=>none
def o9:Obj->Option (List PV×List AV)
 | .map false es=>some (es.map (·.1),es.map fun e=>.p e.2)
 | .cQ ks vs=>some (ks,vs)
 |_=>none
def gS:List (PV×PV)->PV->PV->List (PV×PV)
 |[],k,v=>[(k,v)]
 |(a,v')::r,k,v=>if gU k a=some true then(k,v)::r else(a,v')::gS r k v
def tS(P:c6)(T:c7):Bool:=match P.underlying T with
 |some (.int _)|some .string|some .bool=>true
 |_=>false
def fj(P:c6)(T:c7):PV->Bool
 | .int k _=>match P.underlying T with
  |some (.int a)=>decide (k=a)
  |_=>false
 | .str _=>iW P T
 | .st u fs=>match P.underlying T with
  |some (.struct cH)=>cH.toList.all (fun f=>f.name != "_" &&tS P f.type)&&(fy P 9 T (.st u fs) (.st u fs)).isSome
  |_=>false
 |_=>false
def jP(P:c6)(T:c7):Option (c7×c7):=
 match P.underlying T with
 |some (.map k e)=>some (k,e)
 |_=>none
def lenOf(H:Heap):AV->Option (Nat×List (Nat×Obj))
 | .p (.str s)=>some (s.length,[])
 | .p .aK| .p .fM=>some (0,[])
 | .p (.bJ _ es)| .p (.seq es)=>some (es.length,[])
 | .p (.fq es)=>some (es.length,[])
 | .sl b aq ai _off len=>match H[b]? with
  |some (.arr k c a es)=>if aq=c/\ai=a then some (len,[(b,.arr k c a es)])else none
  |_=>none
 | .map b=>match H[b]? with
  |some (.map fz es)=>some (es.length,[(b,.map fz es)])
  |_=>none
 |_=>none
def ir(P:c6)(T:c7):AV->Bool
 | .p (.str _)=>iW P T
 | .p .aK| .p (.bJ _ _)| .p (.seq _)| .sl ..=>match P.underlying T with
  |some (.slice _)=>true
  |_=>false
 | .p .fM| .p (.fq _)| .map _=>match P.underlying T with
  |some (.map _ _)=>true
  |_=>false
 |_=>false
def Av(H:Heap):AV->Option (Nat×List (Nat×Obj))
 | .p .aK=>some (0,[])
 | .p (.bJ true es)=>some (es.length,[])
 | .sl b aq ai off _len=>match H[b]? with
  |some (.arr .exact c a es)=>if aq=c/\ai=a/\off<=es.length then some (es.length-off,[(b,.arr .exact c a es)])else none
  |_=>none
 |_=>none
def bytesOf:List AV->Option (List Nat)
 |[]=>some []
 | .p (.int .u8 c)::r=>if 0<=c/\c<256 then match bytesOf r with
  |some l=>some (c.toNat::l)
  |none=>none
  else none
 |_=>none
def ptrTo(P:c6)(T:c7):Option c7:=
 match P.underlying T with
 |some (.pointer e)=>some e
 |_=>none
def mh(k:ed)(c:Bool):List AV->Int->Option Int
 |[],a=>some a
 | .p (.int d b)::r,a=>if k=d then mh k c r (if c then(if b>a then b else a)else(if b<a then b else a))else none
 |_,_=>none
def iV(a:List AV):List (Nat×AV)->List AV
 |[]=>a
 |(i,v)::r=>iV (a.set i v) r
def mg(P:c6)(l:List Nat):List (Nat×AV)->Prop
 |[]=>True
 |(i,v)::r=>(∃n,l[i]?=some n/\bG P (ad v)=n/\ad v≠.bad)/\mg P l r
def fT(H:Heap):List AV->Option (List PV×List (Nat×Obj)×List (Nat×Obj))
 |[]=>some ([],[],[])
 | .p v::r=>match fT H r with
  |some (a,ak,aG)=>some (v::a,ak,aG)
  |none=>none
 | .ptr b []::r=>match H[b]?,fT H r with
  |some (.box fz (.p t)),some (a,ak,aG)=>some (.cA t::a,(b,.box fz (.p t))::ak,(b,.box true (.p t))::aG)
  |_,_=>none
 |_=>none
def oK(P:c6)(T:c7)(H:Heap)(a:AV)(K:aU->Prop):Prop:=
 match a with
 | .ptr b path=>match H[b]? with
  |some (.box fz t)=>match fc t path with
   |some s=>kindOf P T=ad s/\K {v:=s,ak:=[(b,.box fz t)]}
   |none=>False
  |_=>False
 | .b8 b aq ai i path=>match H[b]? with
  |some (.arr k d c es)=>aq=d/\ai=c/\∃h:i<es.length,match fc (es[i]'h) path with
   |some s=>kindOf P T=ad s/\K {v:=s,ak:=[(b,.arr k d c es)]}
   |none=>False
  |_=>False
 | .p (.cA t)=>kindOf P T=aL t/\K {v:=.p t}
 |_=>False
def ov(P:c6)(T:c7)(H:Heap)(a x:AV)(K:aU->Prop):Prop:=
 kindOf P T=ad x/\ad x≠.bad/\match a with
 | .ptr b path=>match H[b]? with
  |some (.box false t)=>match fc t path,gn t path x with
   |some s,some d=>ad s=ad x/\K {v:=.p (.aE []),ak:=[(b,.box false t)],aG:=[(b,.box false d)]}
   |_,_=>False
  |_=>False
 | .b8 b aq ai i path=>match H[b]? with
  |some (.arr k e c es)=>aq=e/\ai=c/\k≠.frozen/\∃h:i<es.length,match fc (es[i]'h) path,gn (es[i]'h) path x with
   |some s,some d=>ad s=ad x/\K {v:=.p (.aE []),ak:=[(b,.arr k e c es)],aG:=[(b,.arr k e c (es.set i d))]}
   |_,_=>False
  |_=>False
 |_=>False
def mU(P:c6)(a:c7)(b:Nat)(key:PV)(x:AV)(o:Obj)(K:aU->Prop):Prop:=match o9 o with
 |some (ks,vs)=>lN key=true/\jW P a ks vs key=some none/\K {v:=.p (.aE []),ak:=[(b,o)],aG:=[(b,.cQ (ks++[key]) (vs++[x]))]}
 |none=>False
def fU(P:c6)(T:c7):Option (c7×Nat):=
 match kindOf P T,P.underlying T with
 | .agg u,some (.struct fs)=>some (u,fs.size)
 |_,_=>none
def iA(P:c6)(T:c7):Option (c7×Nat):=
 match kindOf P T,P.underlying T with
 | .agg u,some (.array n _)=>some (u,n)
 |_,_=>none
def n7(P:c6)(T:c7)(a:AV)(f:Nat)(K:aU->Prop):Prop:=
 match fU P T with
 |some (u,n)=>f<n/\(match a with
  | .ptr b path=>K {v:=.ptr b (path++[(u,f)])}
  | .b8 b aq ai i path=>K {v:=.b8 b aq ai i (path++[(u,f)])}
  | .p (.cA t)=>aL t=.agg u/\(match(cH t)[f]? with
   |some g=>K {v:=.p (.cA g)}
   |none=>False)
  |_=>False)
 |_=>False
def n6(P:c6)(T:c7)(H:Heap)(x i:AV)(K:aU->Prop):Prop:=
 match i with
 | .p (.int _ i)=>0<=i/\(match x with
  | .p (.bJ _ es)=>∃h:i.toNat<es.length,cV P T=some (bG P (aL (es[i.toNat]'h)))/\K {v:=.p (.cA (es[i.toNat]'h))}
  | .p (.seq es)=>∃h:i.toNat<es.length,cV P T=some (bG P (aL (es[i.toNat]'h)))/\K {v:=.p (.cA (es[i.toNat]'h))}
  | .sl b aq ai off len=>cV P T=some ai/\i.toNat<len/\(match H[b]? with
   |some (.arr k c a es)=>aq=c/\ai=a/\¬(k.gr=true/\es=[])/\K {v:=.b8 b aq ai (off+i.toNat) [],ak:=[(b,.arr k c a es)]}
   |_=>False)
  | .ptr b path=>(match iA P T with
   |some (u,n)=>i.toNat<n/\K {v:=.ptr b (path++[(u,i.toNat)])}
   |_=>False)
  | .b8 b aq ai j path=>(match iA P T with
   |some (u,n)=>i.toNat<n/\K {v:=.b8 b aq ai j (path++[(u,i.toNat)])}
   |_=>False)
  | .p (.cA t)=>(match iA P T with
   |some (u,n)=>aL t=.agg u/\i.toNat<n/\(match(cH t)[i.toNat]? with
    |some g=>K {v:=.p (.cA g)}
    |none=>False)
   |_=>False)
  |_=>False)
 |_=>False
def fC(P:c6)(ag:dk->Bool)(o:Oper)(ρ:da->AV)(H:Heap)(K:aU->Prop):Prop:=
 match o.op with
 | .move x| .assign x=>K {v:=ρ x}
 | .pick c a b=>match ρ c with
  | .p (.bool t)=>K {v:=if t then ρ a else ρ b}
  |_=>False
 | .alloc T=>match cK P T with
  |some z=>kindOf P T=aL z/\aL z≠.bad/\jS T (aL z)=true/\K {v:=.ptr H.length [],aS:=[.box false (.p z)]}
  |none=>False
 | .box T x=>kindOf P T=ad (ρ x)/\ad (ρ x)≠.bad/\jS T (ad (ρ x))=true/\K {v:=.ptr H.length [],aS:=[.box false (ρ x)]}
 | .build T parts=>match kindOf P T,cK P T with
  | .agg u,some z=>(match dL P u with
   |some l=>aL z=.agg u/\mg P l (parts.toList.map fun(i,x)=>(i,ρ x))/\K {v:=iC u (iV ((cH z).map .p) (parts.toList.map fun(i,x)=>(i,ρ x)))}
   |none=>False)
  |_,_=>False
 | .buildSlice T n parts=>match cV P T,cK P (dW P T)with
  |some sz,some z=>bG P (aL z)=sz/\n*sz<=1000000/\mg P (ht n sz) (parts.toList.map fun(i,x)=>(i,ρ x))/\
   K {v:=.sl H.length 0 sz 0 n,aS:=[.arr .exact 0 sz (iV (ht n (.p z)) (parts.toList.map fun(i,x)=>(i,ρ x)))]}
  |_,_=>False
 | .load T a=>oK P T H (ρ a) K
 | .store T a x=>ov P T H (ρ a) (ρ x) K
 | .binOp op T x y _=>kY P op T (mI y) H (ρ x) (ρ y) (fun v=>K {v:=.p v,ak:=dH H (ρ x)})
 | .unOp op _ x=>match op,ρ x with
  | .not,.p (.bool b)=>K {v:=.p (.bool (!b))}
  | .neg,.p (.int k n)=>K {v:=.p (.int k (k.wrap (0-n)))}
  | .xor,.p (.int k n)=>K {v:=.p (.int k (k.wrap (cy k.bits (if k.signed then -1 else k.max)^^^cy k.bits n).toNat))}
  |_,_=>False
 | .convert S D x=>match P.underlying S,P.underlying D,ρ x with
  |some _,some (.int k),.p (.int _ n)=>K {v:=.p (.int k (k.wrap n))}
  |some _,some .string,.p (.str s)=>K {v:=.p (.str s)}
  |some (.slice e),some .string,.sl b aq ai off len=>(match H[b]? with
   |some (.arr k q j es)=>aq=q/\ai=j/\ai=1/\P.underlying e=some (.int .u8)/\0<len/\off+len<=es.length/\(match bytesOf ((es.drop off).take len)with
    |some l=>K {v:=.p (.str l),ak:=[(b,.arr k q j es)]}
    |none=>False)
   |_=>False)
  |_,_,_=>False
 | .extract t i=>match ρ t with
  | .p (.aE vs)=>(match vs[i]? with
   |some v=>K {v:=.p v}
   |none=>False)
  | .aE vs=>(match vs[i]? with
   |some v=>K {v}
   |none=>False)
  |_=>False
 | .fieldAddr T a f=>n7 P T (ρ a) f K
 | .indexAddr T x i=>n6 P T H (ρ x) (ρ i) K
 | .field T x f=>match kindOf P T,P.underlying T,ρ x with
  | .agg u,some (.struct _),.p t=>aL t=.agg u/\(match(cH t)[f]?,(jX P u)[f]? with
   |some g,some F=>kindOf P F=aL g/\K {v:=.p g}
   |_,_=>False)
  |_,_,_=>False
 | .index T x i=>match ρ x,ρ i with
  | .p (.str s),.p (.int _ i)=>iW P T=true/\0<=i/\∃h:i.toNat<s.length,K {v:=.p (.int .u8 (s[i.toNat]'h))}
  | .p (.st u es),.p (.int _ i)=>(match iA P T,(jX P u)[i.toNat]?,es[i.toNat]? with
   |some (u',n),some F,some g=>u'=u/\0<=i/\i.toNat<n/\kindOf P F=aL g/\K {v:=.p g}
   |_,_,_=>False)
  |_,_=>False
 | .makeFunc (.func f) fi ca=>if ag f then(match fT H (fi.toList.map ρ),fT H (ca.toList.map ρ)with
   |some (a,[],[]),some (b,ak,aG)=>K {v:=.p (.func f a b),ak,aG}
   |_,_=>False)
  else match eZ (fi.toList.map ρ),eZ (ca.toList.map ρ)with
   |some a,some b=>K {v:=.p (.func f a b)}
   |_,_=>K {v:=.func f (fi.toList.map ρ) (ca.toList.map ρ)}
 | .makeSlice T l c=>match cV P T,cK P (dW P T),ρ l,ρ c with
  |some sz,some z,.p (.int .i64 l),.p (.int .i64 c)=>bG P (aL z)=sz/\0<=l/\l=c/\l<=cM/\K {v:=.sl H.length 0 sz 0 l.toNat,aS:=[.arr .exact 0 sz (ht l.toNat (.p z))]}
  |_,_,_,_=>False
 | .slice T x lo hi A=>match A with
  |none=>ow P T H (ρ x) (lo.map ρ) (hi.map ρ) none K
  |some m=>qP P T H (ρ x) (lo.map ρ) (hi.map ρ) (ρ m) K
 | .makeMap _ none=>K {v:=.map H.length,aS:=[.map false []]}
 | .lookup T x i ok=>match jP P T,ρ i with
  |some (w,E),.p key=>(match cK P E with
   |some z=>fj P w key=true/\(match ρ x with
    | .p .fM=>K {v:=.p (if ok then .aE [z,.bool false]else z)}
    | .p (.fq es)=>(match gu P w es key with
     |some (some v)=>K {v:=.p (if ok then .aE [v,.bool true]else v)}
     |some none=>K {v:=.p (if ok then .aE [z,.bool false]else z)}
     |none=>False)
    | .map b=>(match H[b]? with
     |some (.map fz es)=>(match gu P w es key with
      |some (some v)=>K {v:=.p (if ok then .aE [v,.bool true]else v),ak:=[(b,.map fz es)]}
      |some none=>K {v:=.p (if ok then .aE [z,.bool false]else z),ak:=[(b,.map fz es)]}
      |none=>False)
     |some (.cQ ks vs)=>lN key=true/\(match jW P w ks vs key with
      |some (some v)=>K {v:=if ok then .aE [v,.p (.bool true)]else v,ak:=[(b,.cQ ks vs)]}
      |some none=>K {v:=.p (if ok then .aE [z,.bool false]else z),ak:=[(b,.cQ ks vs)]}
      |none=>False)
     |_=>False)
    |_=>False)
   |none=>False)
  |_,_=>False
 | .mapUpdate T m k x| .insert T m k x=>match jP P T,ρ m,ρ k,ρ x with
  |some (w,_),.map b,.p key,.p v=>fj P w key=true/\(match H[b]? with
   |some (.map false es)=>(match mu P w es key with
    |some _=>K {v:=.p (.aE []),ak:=[(b,.map false es)],aG:=[(b,.map false (gS es key v))]}
    |none=>False)
   |some (.cQ ks vs)=>mU P w b key (.p v) (.cQ ks vs) K
   |_=>False)
  |some (w,_),.map b,.p key,x=>fj P w key=true/\(match H[b]? with
   |some o=>mU P w b key x o K
   |none=>False)
  |_,_,_,_=>False
 | .range T x=>match ρ x with
  | .p (.str s)=>iW P T=true/\K {v:=.ptr H.length [],aS:=[.dD s 0]}
  |_=>False
 | .next it true=>match ρ it with
  | .ptr b []=>(match H[b]? with
   |some (.dD s pos)=>if pos<s.length then
    K {v:=.p (.aE [.bool true,.int .i64 pos,.int .i32 (Utf8.decode (gM s) pos).1]),ak:=[(b,.dD s pos)],aG:=[(b,.dD s (pos+(Utf8.decode (gM s) pos).2))]}
    else K {v:=.p (.aE [.bool false]),ak:=[(b,.dD s pos)]}
   |_=>False)
  |_=>False
 | .nilCheck x=>match ρ x with
  | .ptr _ _| .b8 _ _ _ _ _| .p (.cA _)=>K {v:=ρ x}
  |_=>False
 | .call c=>match c.callee with
  | .builtin b=>let args:=c.args.toList.map ρ
   let T:=c.argTypes.getD 0 0
   (match b,args with
   | .len,[x]=>(match lenOf H x with
    |some (n,ak)=>ir P T x=true/\0<c.argTypes.size/\K {v:=.p (.int .i64 n),ak}
    |none=>False)
   | .append,[s,x]=>c.argTypes.size=2/\oc P T (c.argTypes.getD 1 0) H s x K
   | .min,.p (.int k a)::r=>(match mh k false r a with
    |some n=>K {v:=.p (.int k n)}
    |none=>False)
   | .max,.p (.int k a)::r=>(match mh k true r a with
    |some n=>K {v:=.p (.int k n)}
    |none=>False)
   | .copy,[d,x]=>(match cV P T,d,ib H x with
    |some sz,.sl b aq ai off len,some xs=>ai=sz/\fk P sz xs/\c.argTypes.size=2/\(match H[b]? with
     |some (.arr k q j es)=>aq=q/\ai=j/\k≠.frozen/\off+len<=es.length/\¬(k.gr=true/\es=[])/\
      K {v:=.p (.int .i64 (min xs.length len:Nat)),ak:=(b,.arr k q j es)::dH H x,aG:=[(b,.arr k q j (es.take off++xs.take (min xs.length len)++es.drop (off+min xs.length len)))]}
     |_=>False)
    |_,_,_=>False)
   | .cap,[x]=>(match Av H x with
    |some (n,ak)=>ir P T x=true/\0<c.argTypes.size/\K {v:=.p (.int .i64 n),ak}
    |none=>False)
   | .clear,[x]=>(match x with
    | .p .aK=>ir P T x=true/\0<c.argTypes.size/\K {v:=.p (.aE [])}
    | .sl b aq ai off len=>(match cV P T,cK P (dW P T),H[b]? with
     |some sz,some z,some (.arr k q j es)=>aq=q/\ai=j/\ai=sz/\bG P (aL z)=sz/\k≠.frozen/\off+len<=es.length/\¬(k.gr=true/\es=[])/\0<c.argTypes.size/\0<len/\
      K {v:=.p (.aE []),ak:=[(b,.arr k q j es)],aG:=[(b,.arr k q j (es.take off++ht len (.p z)++es.drop (off+len)))]}
     |_,_,_=>False)
    |_=>False)
   | .unsafeSliceData,[x]=>(match x with
    | .p .aK=>K {v:=.p .dc}
    | .sl b aq ai off len=>(match H[b]? with
     |some (.arr k q j es)=>aq=q/\ai=j/\((k.gr=true/\es=[]/\K {v:=.p .dc,ak:=[(b,.arr k q j es)]})\/(0<len/\off+len<=es.length/\K {v:=.b8 b aq ai off [],ak:=[(b,.arr k q j es)]}))
     |_=>False)
    |_=>False)
   | .unsafeString,[x,.p (.int .i64 n)]=>(match x with
    | .p .dc=>n=0/\c.argTypes.size=2/\K {v:=.p (.str [])}
    | .b8 b aq ai i []=>(match H[b]? with
     |some (.arr .bytes q j es)=>aq=q/\ai=j/\ai=1/\i=0/\0<n/\n.toNat<=es.length/\n<=9223372036854775807/\c.argTypes.size=2/\ptrTo P T=some Gl.u8/\P.cellsOf Gl.u8=1/\(match bytesOf (es.take n.toNat)with
      |some l=>K {v:=.p (.str l),ak:=[(b,.arr .bytes q j es)],aG:=[(b,.dead)]}
      |none=>False)
     |_=>False)
    |_=>False)
   |_,_=>False)
  |_=>False
 |_=>False
def newAt(a:Nat):List Obj->List (Nat×Obj)
 |[]=>[]
 |o::r=>(a,o)::newAt (a+1) r
structure bZ(P:c6)(ah aa:Nat->Prop)(w:c8)(β:Bd)(H:Heap)(aD:Nat->Prop)(w':c8)(aJ:Bd)(H':Heap):Prop where
 bX:∀k,aa k->aD k
 fresh:∀k,aD k->aa k\/¬ah k
 ext:Ext ah aa w w'
 step:cm β H aJ H'
 rel:b7 P w' aD aJ H' ah
 fG:∀x,aH H x->aH H' x
 loop:∀b,ie H b->ie H' b
def Enters(P:c6)(f:dk):Prop:=∀(args:Array cR)(w:c8),(callFunc f args).run P w=.ok (.enter f args) w
def bW(P:c6)(f:dk)(H:Heap)(args:List AV)(H':Heap)(v:AV):Prop:=
 Enters P f/\∀(w:c8)(aa ah:Nat->Prop)(β:Bd)(a:List cR),b7 P w aa β H ah->br P w aa β H args a->aR (aH H) args->
  en P f a.toArray w fun e w'=>∃b aJ aD,e=.returned b/\bZ P ah aa w β H aD w' aJ H'/\aw P w' aD aJ H' v b/\aC (aH H') v
def iY(P:c6)(b:Nat)(H:Heap)(args:List AV)(H':Heap)(v:AV):Prop:=
 ie H b/\∀(w:c8)(aa ah:Nat->Prop)(β:Bd)(c:List cR),b7 P w aa β H ah->br P w aa β H args c->aR (aH H) args->
  ∃f tmps assign body,(e8 (β.al b) c.toArray).run P w=.ok (.round (β.al b) f tmps assign body) w/\
   ∀(a:dp)(e:List dp),∃d w' aJ aD,ea P (lone (ez (β.al b) f tmps assign body .normal) (a::e) w) (lone (a.finish d) e w')/\
    bZ P ah aa w β H aD w' aJ H'/\aw P w' aD aJ H' v d/\aC (aH H') v
def sf(P:c6)(f:dk)(args:List AV)(base:Nat)(e:aU):Prop:=
 Enters P f/\∀(H:Heap)(w:c8)(aa ah:Nat->Prop)(β:Bd)(a:List cR),b7 P w aa β H ah->br P w aa β H args a->aR (aH H) args->
  (∀p∈e.ak,H[p.1]?=some p.2)->(∀i,i<e.aS.length->H[base+i]?=some .hole)->
  en P f a.toArray w fun x w'=>∃b aJ aD,x=.returned b/\bZ P ah aa w β H aD w' aJ (aW H (e.aG++newAt base e.aS))/\
   aw P w' aD aJ (aW H (e.aG++newAt base e.aS)) e.v b/\aC (aH (aW H (e.aG++newAt base e.aS))) e.v
def ua(P:c6)(b:Nat)(args:List AV)(a:Nat)(e:aU):Prop:=
 ∀(H:Heap)(w:c8)(aa ah:Nat->Prop)(β:Bd)(d:List cR),b7 P w aa β H ah->br P w aa β H args d->aR (aH H) args->
  (∀p∈e.ak,H[p.1]?=some p.2)->(∀i,i<e.aS.length->H[a+i]?=some .hole)->
  ie H b/\∃f tmps assign body,(e8 (β.al b) d.toArray).run P w=.ok (.round (β.al b) f tmps assign body) w/\
   ∀(c:dp)(h:List dp),∃g w' aJ aD,ea P (lone (ez (β.al b) f tmps assign body .normal) (c::h) w) (lone (c.finish g) h w')/\
    bZ P ah aa w β H aD w' aJ (aW H (e.aG++newAt a e.aS))/\
    aw P w' aD aJ (aW H (e.aG++newAt a e.aS)) e.v g/\aC (aH (aW H (e.aG++newAt a e.aS))) e.v
def En(P:c6)(f:dk)(args:List AV)(ak:List (Nat×Obj))(v:PV):Prop:=
 ∀(H:Heap)(w:c8)(aa ah:Nat->Prop)(β:Bd)(a:List cR),b7 P w aa β H ah->br P w aa β H args a->aR (aH H) args->(∀p∈ak,H[p.1]?=some p.2)->
  ∃b,(callFunc f a.toArray).run P w=.ok (.value b) w/\aB P w aa v b
def pZ(H:Heap)(e:aU):Prop:=(∀p∈e.ak,H[p.1]?=some p.2)/\(∀p∈e.aG,p.1<H.length/\p.2≠.hole)
def se(P:c6)(f:dk)(args:List PV)(v:PV):Prop:=
 Enters P f/\∀(w:c8)(aa:Nat->Prop)(a:List cR),(∀k,aa k->k<w.heap.size)->mr P w aa->bm P w aa args a->
  en P f a.toArray w fun e w'=>∃b,∃aD:Nat->Prop,e=.returned b/\(∀k,aa k->aD k)/\(∀k,aD k->aa k\/w.heap.size<=k)/\(∀k,aD k->k<w'.heap.size)/\
   w.heap.size<=w'.heap.size/\(∀k,k<w.heap.size->w'.heap[k]?=w.heap[k]?)/\(w'.os=w.os/\w'.output=w.output)/\aB P w' aD v b
def S9(P:c6)(f:dk)(args:List PV)(v:PV):Prop:=
 ∀(w:c8)(aa:Nat->Prop)(a:List cR),bm P w aa args a->∃b,(callFunc f a.toArray).run P w=.ok (.value b) w/\aB P w aa v b
def aA(P:c6)(f:dk)(args:List PV)(v:PV):Prop:=se P f args v\/S9 P f args v
def lE(H:Heap):AV->Option (PV×Heap)
 | .p v=>some (v,H)
 | .sl b aq ai off len=>match H[b]? with
  |some (.arr k d a es)=>
   if aq=d/\ai=a/\off+len<=es.length then
    if k.gr=true/\es=[]then some (.aK,H)else
    match eZ es with
    |some c=>some (.bJ (k== .exact&&off+len==es.length) ((c.drop off).take len),H.set b (.arr .frozen aq ai es))
    |none=>none
   else none
  |_=>none
 | .ptr b path=>match H[b]? with
  |some (.box _ (.p t))=>match lH t path with
   |some s=>some (.cA s,H.set b (.box true (.p t)))
   |none=>none
  |_=>none
 | .map b=>match H[b]? with
  |some (.map _ es)=>some (.fq es,H.set b (.map true es))
  |_=>none
 |_=>none
def nJ(H:Heap):List AV->Option (List PV×Heap)
 |[]=>some ([],H)
 |x::r=>match lE H x with
  |some (v,H1)=>match nJ H1 r with
   |some (vs,a)=>some (v::vs,a)
   |none=>none
  |none=>none
def ij(P:c6)(draw:Bool)(f:dk)(args:List AV)(H:Heap)(K:AV->Heap->Prop):Prop:=
 (∃vs v,args=vs.map .p/\aA P f vs v/\K (.p v) H)\/
 (draw=false/\((∃vs H1 v,nJ H args=some (vs,H1)/\aA P f vs v/\K (.p v) H1)\/(∃H' v,bW P f H args H' v/\K v H')\/
  (∃e,sf P f args H.length e/\pZ H e/\K e.v (aW H e.aG++e.aS))\/(∃ak v,En P f args ak v/\(∀p∈ak,H[p.1]?=some p.2)/\K (.p v) H)))
def kj(P:c6)(ag:dk->Bool)(draw:Bool)(o:Oper)(K:St->Prop)(s:St):Prop:=
 match o.op with
 | .call {callee:=.value f,args,.. }=>(match ev s.env f with
  | .p (.func g fi ca)=>ij P draw g (fi.map .p++args.toList.map (ev s.env)++ca.map .p) s.heap (fun v H'=>K ⟨put o.dst v s.env,H'⟩)
  | .func g fi ca=>ij P draw g (fi++args.toList.map (ev s.env)++ca) s.heap (fun v H'=>K ⟨put o.dst v s.env,H'⟩)
  | .map b=>∃H' v,iY P b s.heap (args.toList.map (ev s.env)) H' v/\K ⟨put o.dst v s.env,H'⟩
  |_=>False)
 |_=>fC P ag o (ev s.env) s.heap fun e=>K (e.app o.dst s)
def guardOf(a:Array Oper)(j:Nat)(e:Env):AV:=
 match(a[j]?).bind (·.dst)with
 |some d=>aN e d
 |none=>.p (.aE [])
def iq(P:c6)(ag:dk->Bool)(draw:Bool)(a:Array Oper):List Oper->(St->Prop)->St->Prop
 |[],K,s=>K s
 |o::r,K,s=>match o.guard with
  |none=>kj P ag draw o (iq P ag draw a r K) s
  |some (j,want)=>match guardOf a j s.env with
   | .p (.bool t)=>if t=want then kj P ag draw o (iq P ag draw a r K) s else iq P ag draw a r K ⟨put o.dst (.p (.aE [])) s.env,s.heap⟩
   | .p (.aE [])=>iq P ag draw a r K ⟨put o.dst (.p (.aE [])) s.env,s.heap⟩
   |_=>False
def mE:Obj->Option Obj
 | .box _ (.p t)=>some (.box true (.p t))
 | .arr k aq ai es=>if k.gr=true/\es=[]then none else match eZ es with
  |some _=>some (.arr .frozen aq ai es)
  |none=>none
 | .map _ es=>some (.map true es)
 |_=>none
def mL(H:Heap):AV->Option (PV×List Nat)
 | .p v=>some (v,[])
 | .sl b aq ai off len=>match H[b]? with
  |some (.arr k d a es)=>
   if aq=d/\ai=a/\off+len<=es.length then
    if k.gr=true/\es=[]then none else
    match eZ es with
    |some c=>some (.bJ (k== .exact&&off+len==es.length) ((c.drop off).take len),[b])
    |none=>none
   else none
  |_=>none
 | .ptr b path=>match H[b]? with
  |some (.box _ (.p t))=>match lH t path with
   |some s=>some (.cA s,[b])
   |none=>none
  |_=>none
 | .map b=>match H[b]? with
  |some (.map _ es)=>some (.fq es,[b])
  |_=>none
 |_=>none
def oL(H:Heap):List AV->Option (List PV×List Nat)
 |[]=>some ([],[])
 |x::r=>match mL H x,oL H r with
  |some (v,bs),some (vs,cs)=>some (v::vs,bs++cs)
  |_,_=>none
def lS(H:Heap):List Nat->Option (List (Nat×Obj)×List (Nat×Obj))
 |[]=>some ([],[])
 |b::r=>match H[b]?,lS H r with
  |some o,some (ak,aG)=>(match mE o with
   |some o'=>some ((b,o)::ak,(b,o')::aG)
   |none=>none)
  |_,_=>none
def iw(P:c6)(f:dk)(args:List AV)(H:Heap)(K:aU->Prop):Prop:=
 (∃vs v,args=vs.map .p/\aA P f vs v/\K {v:=.p v})\/
 (∃vs bs ak aG v,oL H args=some (vs,bs)/\lS H bs=some (ak,aG)/\aA P f vs v/\K {v:=.p v,ak,aG})\/
 (∃e,sf P f args H.length e/\pZ H e/\K e)\/
 (∃ak v,En P f args ak v/\(∀p∈ak,H[p.1]?=some p.2)/\K {v:=.p v,ak})
def jT(P:c6)(ag:dk->Bool)(o:Oper)(s:St)(K:aU->Prop):Prop:=
 match o.op with
 | .call {callee:=.value f,args,.. }=>(match ev s.env f with
  | .p (.func g fi ca)=>iw P g (fi.map .p++args.toList.map (ev s.env)++ca.map .p) s.heap K
  | .func g fi ca=>iw P g (fi++args.toList.map (ev s.env)++ca) s.heap K
  | .map b=>∃e,ua P b (args.toList.map (ev s.env)) s.heap.length e/\pZ s.heap e/\K e
  |_=>False)
 |_=>fC P ag o (ev s.env) s.heap K
structure Touch where
 i:Nat
 rd:List Nat
 wr:List Nat
def oB(a:Nat):List Obj->List Nat
 |[]=>[]
 |_::r=>a::oB (a+1) r
def iN(i a:Nat)(e:aU):Touch:=⟨i,e.ak.map (·.1),e.aG.map (·.1)++oB a e.aS⟩
def im(i b:Nat)(e:aU)(a:List Touch):List Touch:=
 match e.ak,e.aG,e.aS with
 |[],[],[]=>a
 |_,_,_=>iN i b e::a
def reach(a:Array Oper):Nat->Nat->Nat->Bool
 |0,_,_=>false
 |f+1,i,j=>match a[j]? with
  |some o=>o.after.toList.any (fun e=>gm .any e&&e.on==i)||o.after.toList.any (fun e=>gm .any e&&decide (i<e.on)&&reach a f i e.on)
  |none=>false
def jO(u t:Touch):Bool:=u.wr.any (fun b=>t.rd.contains b||t.wr.contains b)||u.rd.any (fun b=>t.wr.contains b)
def kP(a:Array Oper):List Touch->Bool
 |[]=>true
 |t::r=>r.all (fun u=>!jO u t||reach a a.size u.i t.i)&&kP a r
def gI(P:c6)(ag:dk->Bool)(a:Array Oper):List Oper->Nat->List Touch->(St->Prop)->St->Prop
 |[],_,acc,K,s=>kP a acc=true/\K s
 |o::r,i,acc,K,s=>match o.guard with
  |none=>jT P ag o s fun e=>gI P ag a r (i+1) (im i s.heap.length e acc) K (e.app o.dst s)
  |some (j,want)=>match guardOf a j s.env with
   | .p (.bool t)=>if t=want then jT P ag o s fun e=>gI P ag a r (i+1) (im i s.heap.length e acc) K (e.app o.dst s)
    else gI P ag a r (i+1) acc K ⟨put o.dst (.p (.aE [])) s.env,s.heap⟩
   | .p (.aE [])=>gI P ag a r (i+1) acc K ⟨put o.dst (.p (.aE [])) s.env,s.heap⟩
   |_=>False
inductive bw where|normal|exit (id:Nat)|ret
mutual
def gp(T:Heap):PV->AV->Prop
 | .aK,x=>x=.p .aK\/match x with
  | .sl b aq _ off len=>aq=0/\off=0/\len=0/\∃k z,T[b]?=some (.arr k 0 z [])/\k.gr=true
  |_=>False
 | .st u fs,x=>x=.p (.st u fs)\/match x with
  | .st u' gs=>u=u'/\lJ T fs gs
  |_=>False
 |v,x=>x=.p v
def lJ(T:Heap):List PV->List AV->Prop
 |[],gs=>gs=[]
 |v::vs,gs=>match gs with
  |g::gs=>gp T v g/\lJ T vs gs
  |[]=>False
end
mutual
def Gh(T:Heap):AV->AV->Prop
 | .p v,x=>gp T v x
 | .st u fs,x=>match x with
  | .st u' gs=>u=u'/\mN T fs gs
  |_=>False
 |a,x=>x=a
def mN(T:Heap):List AV->List AV->Prop
 |[],gs=>gs=[]
 |v::vs,gs=>match gs with
  |g::gs=>Gh T v g/\mN T vs gs
  |[]=>False
end
structure pS(s t:St):Prop where
 env:∀x,aN t.env x=aN s.env x\/aN t.env x=.p .undef\/Gh t.heap (aN s.env x) (aN t.env x)
 heap:∀(b:Nat)(o:Obj),t.heap[b]?=some o->o=.hole\/s.heap[b]?=some o\/((s.heap[b]?=none\/s.heap[b]?=some .hole)/\∃k z,o=.arr k 0 z []/\k.gr=true)\/(∃v v',s.heap[b]?=some (.box false v)/\o=.box false v'/\Gh t.heap v v')
 gV:∀x,aC (aH t.heap) (aN t.env x)
 hrefs:∀(b:Nat)(o:Obj),t.heap[b]?=some o->o.refs (aH t.heap)
def bE(N:Nat)(s t:St):Prop:=t=s\/(pS s t/\∀b,b<N->t.heap[b]?=s.heap[b]?)
def kX(Q:bw->St->Prop)(j:Option Code)(s:St):Prop:=
 match j with
 |none=>Q .normal s
 |some (.exit id)=>Q (.exit id) s
 |some .ret=>Q .ret s
 |_=>False
def kz(P:c6)(it:AV)(b:Nat)(H:Heap)(K:Heap->Prop):Prop:=
 match it with
 | .p (.func g fi ca)=>∃H' v,bW P g H (fi.map .p++[.map b]++ca.map .p) H' v/\K H'
 | .func g fi ca=>∃H' v,bW P g H (fi++[.map b]++ca) H' v/\K H'
 |_=>False
def jy(b:Nat)(env:Env)(Q:bw->St->Prop)(H:Heap):Prop:=
 match H[b]? with
 |some (.loop L)=>L.st≠.busy/\kX Q L.pending ⟨env,H.set b (.loop {L with st:=.exhausted})⟩
 |_=>False
abbrev Cx:=Nat×Nat
def cg(P:c6)(ag:dk->Bool)(q:Cx):Code->(bw->St->Prop)->St->Prop
 | .skip,Q,s| .label _,Q,s=>Q .normal s
 | .region _ ops draw,Q,s=>if draw then gI P ag ops ops.toList 0 [] (Q .normal) s else iq P ag false ops ops.toList (Q .normal) s
 | .seq a b,Q,s=>cg P ag q a (fun e s'=>match e with
  | .normal=>cg P ag q b Q s'
  |e=>Q e s') s
 | .cond c a b,Q,s=>match ev s.env c with
  | .p (.bool t)=>if t then cg P ag q a Q s else cg P ag q b Q s
  |_=>False
 | .block id b,Q,s=>cg P ag q b (fun e s'=>match e with
  | .exit i=>if i=id then Q .normal s' else Q (.exit i) s'
  |e=>Q e s') s
 | .scope b,Q,s=>cg P ag q b Q s
 | .loop b,Q,s=>∃I:Nat->St->Prop,(∃n t,bE q.2 s t/\I n t)/\∀n t,I n t->cg P ag q b (fun e s'=>match e with
  | .normal=>∃m g,m<n/\bE q.2 s' g/\I m g
  |e=>Q e s') t
 | .rangeFunc f h a b,Q,s=>q.2<=s.heap.length/\∃d:Env,(∀x,aN d x=aN s.env x)/\kz P (ev s.env f) s.heap.length (s.heap++[.loop ⟨.ready,none,q.1,h.toList,a,b,d⟩]) (jy s.heap.length s.env Q)
 | .exit id,Q,s=>Q (.exit id) s
 | .ret,Q,s=>Q .ret s
 |_,_,_=>False
def bA(fr:dp)(t:Array cR)(ds:List dl)(todo:List Item):dp:={fr with tmps:=t,defers:=ds,todo,mode:=.run}
section
variable{P:c6}{fr:dp}{t:Array cR}{ds:List dl}{k:List Item}{cs:List dp}{w:c8}
def fO(t:Array cR):da->cR
 | .tmp x=>t.getD x undef
 | .const v=>v
 | .global g=>.pointer (some ⟨g,0,none⟩)
 | .func f=>.func (.func f) #[] #[]
theorem eval_eq(fr:dp):fr.eval=fO fr.tmps:=by funext x;cases x<;>rfl
theorem aL6:step P (lone (bA fr t ds (.code .skip::k)) cs w)=.next (lone (bA fr t ds k) cs w):=
 db (by simp[stepG,hj,bA])
theorem Yp{l:Nat}:step P (lone (bA fr t ds (.code (.label l)::k)) cs w)=.next (lone (bA fr t ds k) cs w):=
 db (by simp[stepG,hj,bA])
theorem Xa{id:Nat}:step P (lone (bA fr t ds (.inBlock id::k)) cs w)=.next (lone (bA fr t ds k) cs w):=
 db (by simp[stepG,hj,bA])
theorem W9{b:Code}:step P (lone (bA fr t ds (.inScope b::k)) cs w)=.next (lone (bA fr t ds k) cs w):=
 db (by simp[stepG,hj,bA])
theorem D3{a b:Code}:step P (lone (bA fr t ds (.code (.seq a b)::k)) cs w)=.next (lone (bA fr t ds (.code a::.code b::k)) cs w):=
 db (by simp[stepG,hj,bA])
theorem aL1{c:da}{x y:Code}{b:Bool}(h:fO t c= .bool b):
 step P (lone (bA fr t ds (.code (.cond c x y)::k)) cs w)=.next (lone (bA fr t ds (.code (if b then x else y)::k)) cs w):=
 db (by simp[stepG,hj,bA,eval_eq,h])
theorem y6{id:Nat}{c:Code}:step P (lone (bA fr t ds (.code (.block id c)::k)) cs w)=.next (lone (bA fr t ds (.code c::.inBlock id::k)) cs w):=
 db (by simp[stepG,hj,bA])
theorem C2{c:Code}:step P (lone (bA fr t ds (.code (.scope c)::k)) cs w)=.next (lone (bA fr t ds (.code c::.inScope c::k)) cs w):=
 db (by simp[stepG,hj,bA])
theorem aL4{c:Code}:step P (lone (bA fr t ds (.code (.loop c)::k)) cs w)=.next (lone (bA fr t ds (.code c::.inLoop c::k)) cs w):=
 db (by simp[stepG,hj,bA])
theorem Xw{c:Code}:step P (lone (bA fr t ds (.inLoop c::k)) cs w)=.next (lone (bA fr t ds (.code c::.inLoop c::k)) cs w):=
 db (by simp[stepG,hj,bA])
theorem aL3{id:Nat}{a:List Item}(h:exitTo id k=some a):step P (lone (bA fr t ds (.code (.exit id)::k)) cs w)=.next (lone (bA fr t ds a) cs w):=
 db (by simp[stepG,hj,bA,h])
theorem Xv{id:Nat}{a:Array Oper}:
 step P (lone (bA fr t ds (.code (.region id a false)::k)) cs w)=.next (lone (bA fr t ds (.inRegion a (ih a.size)::k)) cs w):=
 db (by simp[stepG,hj,bA])
theorem aL2{id:Nat}{a:Array Oper}:
 step P (lone (bA fr t ds (.code (.region id a true)::k)) cs w)=
  .next (lone (bA fr t ds (.inRegion a (gj (P.follows .mixedOrders) a (w.tape w.drawn (.order fr.fn id)))::k)) cs {w with drawn:=w.drawn+1}):=
 db (by simp[stepG,hj,bA,choose,gD,Question.forced,Question.cut])
theorem JB{a:Array Oper}:step P (lone (bA fr t ds (.inRegion a []::k)) cs w)=.next (lone (bA fr t ds k) cs w):=
 db (by simp[stepG,hj,bA])
def nK(dst:Option Tmp)(v:cR)(t:Array cR):Array cR:=
 match dst with
 |some d=>t.setIfInBounds d v
 |none=>t
theorem nW{a:Array Oper}{i:Nat}{r:List Nat}{o:Oper}(c:a[i]?=some o)(v:cR):
 (bA fr t ds (.inRegion a (i::r)::k)).finish v=bA fr (nK o.dst v t) ds (.inRegion a r::k):=by
 cases b:o.dst<;>simp[Frame.finish,bA,c,b,nK]
theorem Ll{a:Array Oper}{i:Nat}{r:List Nat}{o:Oper}(b:a[i]?=some o)(c:gi o (yielded a t)=false):
 step P (lone (bA fr t ds (.inRegion a (i::r)::k)) cs w)=.next (lone (bA fr (nK o.dst undef t) ds (.inRegion a r::k)) cs w):=by
 rw[<-nW b];exact db (by simp only[bA];simp[stepG,hj,b,c])
theorem WO{o:Oper}(a:∀c,o.op≠ .defer c)(r:Option Nat)(A:Nat->Call->GStep)(B:GStep):
 (match r,o.op with
  |some l,.defer c=>A l c
  |_,_=>B)=B:=by
 cases r with
 |none=>rfl
 |some l=>cases h:o.op<;>first|rfl|exact absurd h (a _)
theorem aL5{a:Array Oper}{i:Nat}{r:List Nat}{o:Oper}{fr:dp}(e:fr.todo= .inRegion a (i::r)::k)(d:a[i]?=some o)(b:∀c,o.op≠ .defer c):
 ho P true fr cs none w=hm P true fr cs none (dg (fO fr.tmps) o) w:=by
 simp only[ho,Frame.oper?,e,d,eval_eq];exact WO b _ _ _
theorem CV{f:Bool}{a:Array Oper}{i:Nat}{r:List Nat}{o:Oper}(b:a[i]?=some o)(e:gi o (yielded a t)=true)(d:∀c,o.op≠ .defer c):
 stepG P f {frame:=bA fr t ds (.inRegion a (i::r)::k),callers:=cs,status:=.running,dying:=none} w=
  hm P true (bA fr t ds (.inRegion a (i::r)::k)) cs none (dg (fO t) o) w:=by
 have h:=aL5 (P:=P) (cs:=cs) (w:=w) (fr:=bA fr t ds (.inRegion a (i::r)::k)) rfl b d;simp only[bA]at h⊢;simp[stepG,hj,b,e,h]
theorem s9{a:Array Oper}{i:Nat}{r:List Nat}{o:Oper}{n:Next}{b:cR}{w':c8}(d:a[i]?=some o)(h:gi o (yielded a t)=true)
 (e:∀c,o.op≠.defer c)(g:(dg (fO t) o).run P w=.ok n w')(f:n=.value b\/n=.skip/\b=undef):
 step P (lone (bA fr t ds (.inRegion a (i::r)::k)) cs w)=.next (lone (bA fr (nK o.dst b t) ds (.inRegion a r::k)) cs w'):=by
 rw[<-nW d];refine db ?_;rw[CV d h e];rcases f with rfl|⟨rfl,rfl⟩<;>simp[hm,g,bA]
theorem vA{a:Array Oper}{i:Nat}{r:List Nat}{o:Oper}{f:dk}{args:Array cR}{w':c8}(d:a[i]?=some o)(g:gi o (yielded a t)=true)
 (b:∀c,o.op≠.defer c)(e:(dg (fO t) o).run P w=.ok (.enter f args) w'):
 step P (lone (bA fr t ds (.inRegion a (i::r)::k)) cs w)=.next (lone (eL P f args .normal) (bA fr t ds (.inRegion a (i::r)::k)::cs) w'):=by
 refine db ?_;rw[CV d g b];simp[hm,e,bA]
theorem KE{a:Array Oper}{i:Nat}{r:List Nat}{o:Oper}{l:Nat}{f:dk}{tmps:Array cR}{assign body:Code}{w':c8}(d:a[i]?=some o)(g:gi o (yielded a t)=true)
 (b:∀c,o.op≠.defer c)(e:(dg (fO t) o).run P w=.ok (.round l f tmps assign body) w'):
 step P (lone (bA fr t ds (.inRegion a (i::r)::k)) cs w)=.next (lone (ez l f tmps assign body .normal) (bA fr t ds (.inRegion a (i::r)::k)::cs) w'):=by
 refine db ?_;rw[CV d g b];simp[hm,e,bA]
end
end Go.au
namespace Go.au
variable[Gl]
mutual
theorem aC.mono{S T:Nat×Nat->Prop}(h:∀x,S x->T x):∀v,aC S v->aC T v
 | .p _,_=>by simp[aC]
 | .ptr b _,c| .b8 b _ _ _ _,c| .sl b _ _ _ _,c| .map b,c=>by simp only[aC]at*;exact h _ c
 | .func _ a b,c=>by simp only[aC]at*;exact⟨aR.mono h a c.1,aR.mono h b c.2⟩
 | .st _ fs,c=>by simp only[aC]at*;exact aR.mono h fs c
 | .aE vs,c=>by simp only[aC]at*;exact aR.mono h vs c
theorem aR.mono{S T:Nat×Nat->Prop}(h:∀x,S x->T x):∀vs,aR S vs->aR T vs
 |[],_=>by simp[aR]
 |v::vs,c=>by simp only[aR]at*;exact⟨aC.mono h v c.1,aR.mono h vs c.2⟩
end
structure cU(P:c6)(n:Nat)(ah aa:Nat->Prop)(β:Bd)(s:St)(t:Array cR)(w:c8):Prop where
 heap:b7 P w aa β s.heap ah
 env:∀x,aw P w aa β s.heap (aN s.env x) (t.getD x undef)
 gV:∀x,aC (aH s.heap) (aN s.env x)
 size:t.size=n
structure pR(N:Nat)(β:Bd)(H:Heap)(aJ:Bd)(H':Heap):Prop where
 box:∀b,b<N->aH H (b,0)->nh H' b->nh H b/\aJ.al b=β.al b
 it:∀b,b<N->aH H (b,0)->ni H' b->ni H b/\aJ.al b=β.al b
 map:∀b,b<N->aH H (b,0)->oF H' b->oF H b/\aJ.al b=β.al b
 arr:∀b aq ai k es,b<N->aH H (b,aq)->eA H' b aq ai k es->∃k0 gW,eA H b aq ai k0 gW/\gW.length<=es.length/\(di k es↔di k0 gW)/\(¬di k es->aJ.al b=β.al b/\aJ.cap b=β.cap b)
 loop:∀b,b<N->aH H (b,0)->ie H' b->ie H b/\aJ.al b=β.al b
theorem cm.n{N:Nat}{β:Bd}{H:Heap}{aJ:Bd}{H':Heap}(h:cm β H aJ H'):pR N β H aJ H':=
 ⟨fun b _=>h.box b,fun b _=>h.it b,fun b _=>h.map b,fun b aq ai k es _=>h.arr b aq ai k es,fun b _=>h.loop b⟩
theorem pR.full{β:Bd}{H:Heap}{aJ:Bd}{H':Heap}(h:pR H.length β H aJ H'):cm β H aJ H':=by
 have lt:∀b v,aH H (b,v)->b<H.length:=fun b v⟨o,c,_⟩=>(hr.1 c).1;exact⟨fun b x=>h.box b (lt _ _ x) x,fun b x=>h.it b (lt _ _ x) x,fun b x=>h.map b (lt _ _ x) x,fun b aq ai k a x=>h.arr b aq ai k a (lt _ _ x) x,fun b x=>h.loop b (lt _ _ x) x⟩
theorem pR.trans{N:Nat}{β j l:Bd}{H H1 i:Heap}(h:pR N β H j H1)(hi:∀x,x.1<N->aH H x->aH H1 x)(g:pR N j H1 l i):pR N β H l i:=by
 refine⟨?_,?_,?_,?_,?_⟩
 ·intro b a c hl;obtain⟨d,a2⟩:=g.box b a (hi (b,0) a c) hl;obtain⟨e,f⟩:=h.box b a c d;exact⟨e,a2.trans f⟩
 ·intro b a c hl;obtain⟨d,a2⟩:=g.it b a (hi (b,0) a c) hl;obtain⟨e,f⟩:=h.it b a c d;exact⟨e,a2.trans f⟩
 ·intro b a c hl;obtain⟨d,a2⟩:=g.map b a (hi (b,0) a c) hl;obtain⟨e,f⟩:=h.map b a c d;exact⟨e,a2.trans f⟩
 ·intro b aq ai k o a c hl;obtain⟨k1,p,d,a2,a3,a4⟩:=g.arr b aq ai k o a (hi (b,aq) a c) hl;obtain⟨k0,gW,e,f,m,n⟩:=h.arr b aq ai k1 p a c d;refine⟨k0,gW,e,iz f a2,a3.trans m,fun a=>?_⟩;obtain⟨c1,c2⟩:=a4 a;obtain⟨d1,d2⟩:=n (fun x=>a (a3.2 x));exact⟨c1.trans d1,c2.trans d2⟩
 ·intro b a c hl;obtain⟨d,a2⟩:=g.loop b a (hi (b,0) a c) hl;obtain⟨e,f⟩:=h.loop b a c d;exact⟨e,a2.trans f⟩
structure dM(N:Nat)(ah aa:Nat->Prop)(w:c8)(β:Bd)(H:Heap)(kL aD:Nat->Prop)(w':c8)(aJ:Bd)(H':Heap):Prop where
 eX:∀k,ah k->kL k
 bX:∀k,aa k->aD k
 fresh:∀k,aD k->aa k\/¬ah k
 ext:Ext ah aa w w'
 step:pR N β H aJ H'
 fG:∀x,x.1<N->aH H x->aH H' x
 loop:∀b,b<N->ie H b->ie H' b
theorem dM.refl(N:Nat)(ah aa:Nat->Prop)(w:c8)(β:Bd)(H:Heap):dM N ah aa w β H ah aa w β H:=
 ⟨fun _ h=>h,fun _ h=>h,fun _ h=>.inl h,Ext.refl _ _ _,(cm.refl _ _).n,fun _ _ h=>h,fun _ _ h=>h⟩
theorem Ext.trans{ah aa kL aD:Nat->Prop}{w w1 b:c8}(c:∀k,ah k->kL k)(hi:∀k,aa k->aD k)(h:Ext ah aa w w1)(a:Ext kL aD w1 b):Ext ah aa w b:=
 ⟨iz h.size a.size,fun k hk=>(a.same k (hk.imp (c k) (hi k))).trans (h.same k hk),a.io.1.trans h.io.1,a.io.2.trans h.io.2⟩
theorem dM.trans{N:Nat}{ah aa g e i f:Nat->Prop}{w w1 j:c8}{β l m:Bd}{H H1 d:Heap}(h:dM N ah aa w β H g e w1 l H1)(a:dM N g e w1 l H1 i f j m d):dM N ah aa w β H i f j m d:=
 ⟨fun k x=>a.eX k (h.eX k x),fun k x=>a.bX k (h.bX k x),fun k x=>(a.fresh k x).elim (fun y=>h.fresh k y) (fun y=>.inr fun z=>y (h.eX k z)),h.ext.trans h.eX h.bX a.ext,
  h.step.trans h.fG a.step,fun x c hx=>a.fG x c (h.fG x c hx),fun b c n=>a.loop b c (h.loop b c n)⟩
theorem bZ.fw{P:c6}{N:Nat}{ah aa aD:Nat->Prop}{w w':c8}{β aJ:Bd}{H H':Heap}(h:bZ P ah aa w β H aD w' aJ H'):dM N ah aa w β H ah aD w' aJ H':=
 ⟨fun _ x=>x,h.bX,h.fresh,h.ext,h.step.n,fun x _=>h.fG x,fun b _=>h.loop b⟩
section
variable{P:c6}{ah aa aD:Nat->Prop}{w w':c8}{β aJ:Bd}{H H':Heap}
theorem fJ.vQ(a:w'.heap=w.heap){b:Nat}{o:Obj}(h:fJ P w aa β H ah b o)(g:o.refs (aH H)):fJ P w' aa β H ah b o:=by
 have p:=fun(v:AV) cs m=>bp.mono (P:=P) (w:=w) (w':=w') (aa:=aa) (aD:=aa) (β:=β) (aJ:=β) (H:=H) (H':=H) (fun _ x=>x) (fun k _=>by rw[a]) (cm.refl β H) v cs m;have q:=fun l(v:List AV) cs m=>bL.mono (P:=P) (w:=w) (w':=w') (aa:=aa) (aD:=aa) (β:=β) (aJ:=β) (H:=H) (H':=H) (fun _ x=>x) (fun k _=>by rw[a]) (cm.refl β H) l v cs m;have r:=fun(i:List (PV×PV)) f=>cF.mono (P:=P) (w:=w) (w':=w') (aa:=aa) (aD:=aa) (fun _ x=>x) (fun k _=>by rw[a]) i f;cases o with
 |hole=>trivial
 |dead=>trivial
 |box fz t=>
  obtain⟨cs,T,c,d,e⟩:=h;exact⟨cs,T,by rw[a];exact c,p _ _ g d,e⟩
 |arr k aq ai i=>
  rcases h with h|⟨cs,T,n,rest,c,d,e⟩
  ·exact .inl h
  ·exact .inr ⟨cs,T,n,rest,by rw[a];exact c,q _ _ _ g d,e⟩
 |map fz i=>
  obtain⟨f,clock,c,d,e⟩:=h;exact⟨f,clock,by rw[a];exact c,r _ _ d,e⟩
 |cQ ks vs=>
  obtain⟨f,clock,c,d,e,j⟩:=h;exact⟨f,clock,by rw[a];exact c,bm.mono (fun _ x=>x) (fun _ _=>by rw[a]) _ _ d,br.mono (fun _ x=>x) (fun _ _=>by rw[a]) (cm.refl _ _) _ _ g e,j⟩
 |dD s pos=>
  obtain⟨bs,c,d⟩:=h;exact⟨bs,by rw[a];exact c,d⟩
 |loop L=>
  obtain⟨tmps,defers,fn,c,d,e,j⟩:=h;exact⟨tmps,defers,fn,by rw[a];exact c,d,fun x=>aw.mono (fun _ x=>x) (fun _ _=>by rw[a]) (cm.refl _ _) _ _ (g x) (e x),j⟩
theorem b7.vQ(a:w'.heap=w.heap)(h:b7 P w aa β H ah):b7 P w' aa β H ah:=
 ⟨fun b o c=>(h.cS b o c).vQ a (h.refs b o c),h.inj,h.refs,fun k hk=>by rw[a];exact h.bX k hk,fun k hk=>by rw[a];exact h.eX k hk,h.jD.mono (fun _ x=>x) (fun _ _=>by rw[a])⟩
theorem b7.oD(h:b7 P w aa β H ah){b:Nat}{o:Obj}(e:H[b]?=some o)(hl:o.live):β.al b<w.heap.size:=by
 have c:=h.cS b o e;cases o with
 |hole=>exact hl.elim
 |dead=>exact hl.elim
 |box fz t=>obtain⟨cs,T,a,_⟩:=c;exact(bk.1 a).1
 |arr k aq ai es=>
  rcases c with c|⟨cs,T,f,rest,a,_⟩
  ·exact(hl c).elim
  ·exact(bk.1 a).1
 |map fz es=>obtain⟨d,clock,a,_⟩:=c;exact(bk.1 a).1
 |cQ ks vs=>obtain⟨d,clock,a,_⟩:=c;exact(bk.1 a).1
 |dD s pos=>obtain⟨bs,a,_⟩:=c;exact(bk.1 a).1
 |loop L=>obtain⟨_,_,_,a,_⟩:=c;exact(bk.1 a).1
theorem bZ.set{b:Nat}{o':Obj}(g:b7 P w aa β H ah)(q:b<H.length)(m:∀x,x≠b->aJ.al x=β.al x/\aJ.cap x=β.cap x)
 (f:∀k,aa k->aD k)(O:∀k,aD k->aa k\/(k=aJ.al b/\o'.live))(af:∀k,aD k->k<w'.heap.size)
 (U:w.heap.size<=w'.heap.size)(I:∀k,(k≠aJ.al b\/¬o'.live)->k<w.heap.size->w'.heap[k]?=w.heap[k]?)
 (E:o'.live->w.heap.size<=aJ.al b\/(aJ.al b=β.al b/\(∃o,H[b]?=some o/\o.live)/\((∀k,k=β.al b->w'.heap[k]?=w.heap[k]?)\/¬aa (β.al b))/\¬ah (β.al b)))
 (aI:cm β H aJ (H.set b o'))(aj:fJ P w' aD aJ (H.set b o') ah b o')(al:o'.refs (aH (H.set b o')))(ag:∀(o:Obj)(v:Nat),H[b]?=some o->o.has v->o'.has v)(ae:∀L,H[b]?=some (.loop L)->∃B,o'=.loop B)(ad:w'.os=w.os/\w'.output=w.output:=by exact⟨rfl,rfl⟩):
 bZ P ah aa w β H aD w' aJ (H.set b o'):=by
 have z:∀x o,x≠b->H[x]?=some o->o.live->¬aa (β.al x)->o'.live->β.al x≠aJ.al b:=by
  intro x o hx d hl i r he;rcases E r with a|⟨a,⟨am,c,e⟩,_⟩
  ·have:=g.oD d hl;omega
  ·rw[a]at he;exact hx (g.inj x b o am d c hl e i he)
 have S:o'.live->¬ah (aJ.al b):=by
  intro hl F;rcases E hl with a|⟨a,_,_,c⟩
  ·have:=g.eX _ F;omega
  ·rw[a]at F;exact c F
 have j:∀k,ah k\/aa k->w'.heap[k]?=w.heap[k]?:=by
  intro k hk;have Q:k<w.heap.size:=hk.elim (g.eX k) (g.bX k)
  by_cases u:k=aJ.al b
  ·by_cases hl:o'.live
   ·rcases hk with hk|hk
    ·exact(S hl (u▸hk)).elim
    ·rcases E hl with a|⟨a,_,c,_⟩
     ·omega
     ·rcases c with c|c
      ·exact c k (u.trans a)
      ·exact(c (by rw[<-a,<-u];exact hk)).elim
   ·exact I k (.inr hl) Q
  ·exact I k (.inl u) Q
 have ak:∀x,aH H x->aH (H.set b o') x:=by
  rintro⟨x,v⟩ ⟨o,d,R⟩
  by_cases hx:x=b
  ·subst hx;exact⟨o',by simp[hv q],ag o v d R⟩
  ·exact⟨o,by simp only;rw[hw (i5 hx)];exact d,R⟩
 have hrefs:∀v,aC (aH H) v->aC (aH (H.set b o')) v:=aC.mono ak;refine⟨f,fun k hk=>(O k hk).imp id (fun(h:k=aJ.al b/\o'.live)=>h.1▸S h.2),⟨U,j,ad⟩,aI,⟨?_,?_,?_,af,fun k hk=>i1 (g.eX k hk) U,g.jD.mono f (fun k hk=>j k (.inr hk))⟩,ak,?_⟩
 ·intro x o d
  by_cases hx:x=b
  ·subst hx;rw[hv q]at d;cases d;exact aj
  ·rw[hw (i5 hx)]at d;have l:=g.cS x o d;have A:=g.refs x o d;have N:=(m x hx).1;have D:=(m x hx).2;have hs:o.live->w'.heap[aJ.al x]?=w.heap[β.al x]?:=by
    intro hl;rw[N]
    by_cases i:aa (β.al x)
    ·exact j _ (.inr i)
    refine I _ ?_ (g.oD d hl)
    by_cases r:o'.live
    ·exact .inl (z x o hx d hl i r)
    ·exact .inr r
   have held:∀fz,o.live->cC aa β ah fz x->cC aD aJ ah fz x:=by
    intro fz hl p;unfold cC at p⊢;rw[N];cases fz with
    |true=>simp only[if_true]at p⊢;exact f _ p
    |false=>
     simp only[cE,if_false]at p⊢;refine⟨fun h=>?_,p.2⟩;rcases O _ h with h|⟨h,r⟩
     ·exact p.1 h
     ·exact z x o hx d hl p.1 r h
   cases o with
   |hole=>trivial
   |dead=>trivial
   |box fz t=>
    obtain⟨cs,T,a,c,e,n⟩:=l;exact⟨cs,T,(hs trivial).trans a,bp.mono f (fun k hk=>j k (.inr hk)) aI _ _ A c,held _ trivial e,n⟩
   |arr k aq ai es=>
    rcases l with l|⟨cs,T,X,rest,a,c,e,n,Y,Z,ab,ac⟩
    ·exact .inl l
    ·by_cases hl:di k es
     ·exact .inl hl
     ·refine .inr ⟨cs,T,X,rest,(hs hl).trans a,bL.mono f (fun k hk=>j k (.inr hk)) aI _ _ _ A c,e,?_,?_,?_,held _ hl ab,ac⟩
      ·rw[D];exact n
      ·rw[D];exact Y
      ·rw[D];exact Z
   |map fz es=>
    obtain⟨C,clock,a,c,e⟩:=l;exact⟨C,clock,(hs trivial).trans a,cF.mono f (fun k hk=>j k (.inr hk)) _ _ c,held _ trivial e⟩
   |cQ ks vs=>
    obtain⟨C,clock,a,c,e,n⟩:=l;exact⟨C,clock,(hs trivial).trans a,bm.mono f (fun k hk=>j k (.inr hk)) _ _ c,br.mono f (fun k hk=>j k (.inr hk)) aI _ _ A e,held _ trivial n⟩
   |dD s pos=>
    obtain⟨bs,a,c,e⟩:=l;exact⟨bs,(hs trivial).trans a,c,held _ trivial e⟩
   |loop L=>
    obtain⟨tmps,defers,fn,a,c,e,n⟩:=l;exact⟨tmps,defers,fn,(hs trivial).trans a,c,fun x=>aw.mono f (fun k hk=>j k (.inr hk)) aI _ _ (A x) (e x),held _ trivial n⟩
 ·intro x y V W a c J K i he
  by_cases hx:x=b<;>by_cases hy:y=b
  ·rw[hx,hy]
  ·subst hx;rw[hv q]at a;cases a;rw[hw (i5 hy)]at c;rw[(m y hy).1]at he;exact(z y W hy c K (fun hi=>i (he▸f _ hi)) J he.symm).elim
  ·subst hy;rw[hv q]at c;cases c;rw[hw (i5 hx)]at a;rw[(m x hx).1]at he;rw[(m x hx).1]at i;exact(z x V hx a J (fun hi=>i (f _ hi)) K he).elim
  ·rw[hw (i5 hx)]at a;rw[hw (i5 hy)]at c;rw[(m x hx).1,(m y hy).1]at he;rw[(m x hx).1]at i;exact g.inj x y V W a c J K (fun hi=>i (f _ hi)) he
 ·intro x o d
  by_cases hx:x=b
  ·subst hx;rw[hv q]at d;cases d;exact al
  ·rw[hw (i5 hx)]at d;have:=g.refs x o d;cases o with
   |box fz t=>exact hrefs _ this
   |arr k aq ai es=>exact cO.2 fun v G=>hrefs v (cO.1 this v G)
   |cQ ks vs=>exact cO.2 fun v G=>hrefs v (cO.1 this v G)
   |loop L=>exact fun x=>hrefs _ (this x)
   |_=>trivial
 ·rintro x ⟨L,M⟩
  by_cases hx:x=b
  ·subst hx;obtain⟨B,rfl⟩:=ae L M;exact⟨B,hv q⟩
  ·exact⟨L,by rw[hw (i5 hx)];exact M⟩
end
end Go.au
namespace Go.au
variable[Gl]
def bt(P:c6)(o:Oper)(ρ:da->AV)(a:Nat)(e:aU):Prop:=
 ∀(H:Heap)(w:c8)(aa ah:Nat->Prop)(β:Bd)(ρc:da->cR),
  b7 P w aa β H ah->(∀x∈o.op.operands,aw P w aa β H (ρ x) (ρc x)/\aC (aH H) (ρ x))->(∀p∈e.ak,H[p.1]?=some p.2)->(∀i,i<e.aS.length->H[a+i]?=some .hole)->
  ∃n b w' aJ aD,(dg ρc o).run P w=.ok n w'/\(n=.value b\/n=.skip/\b=undef)/\
   bZ P ah aa w β H aD w' aJ (aW H (e.aG++newAt a e.aS))/\aw P w' aD aJ (aW H (e.aG++newAt a e.aS)) e.v b/\
   aC (aH (aW H (e.aG++newAt a e.aS))) e.v
section
variable{P:c6}{ah aa aD:Nat->Prop}{w w':c8}{β aJ:Bd}{H H':Heap}
theorem bZ.refl(h:b7 P w aa β H ah):bZ P ah aa w β H aa w β H:=
 ⟨fun _ x=>x,fun _ x=>.inl x,Ext.refl _ _ _,cm.refl _ _,h,fun _ x=>x,fun _ x=>x⟩
theorem bt.same{o:Oper}{ρ:da->AV}{c:Nat}{v:AV}{ak:List (Nat×Obj)}
 (h:∀(H:Heap)(w:c8)(aa ah:Nat->Prop)(β:Bd)(ρc:da->cR),b7 P w aa β H ah->(∀x∈o.op.operands,aw P w aa β H (ρ x) (ρc x)/\aC (aH H) (ρ x))->
  (∀p∈ak,H[p.1]?=some p.2)->∃a,(dg ρc o).run P w=.ok (.value a) w/\aw P w aa β H v a/\aC (aH H) v):
 bt P o ρ c {v,ak}:=by
 intro H w aa ah β ρc b i g _;obtain⟨a,d,e,f⟩:=h H w aa ah β ρc b i g;exact⟨_,a,w,β,aa,d,.inl rfl,by simpa[newAt,aW]using bZ.refl b,by simpa[newAt,aW]using e,by simpa[newAt,aW]using f⟩
theorem bZ.trans{i j:Nat->Prop}{w1 m:c8}{n o:Bd}{H1 g:Heap}(h:bZ P ah aa w β H i w1 n H1)(c:bZ P ah i w1 n H1 j m o g):bZ P ah aa w β H j m o g:=by
 refine⟨fun k x=>c.bX k (h.bX k x),fun k x=>(c.fresh k x).elim (h.fresh k) .inr,h.ext.trans (fun _ x=>x) h.bX c.ext,⟨?_,?_,?_,?_,?_⟩,c.rel,fun b a=>c.fG b (h.fG _ a),fun b a=>c.loop b (h.loop b a)⟩
 ·intro b a hl;obtain⟨d,a2⟩:=c.step.box b (h.fG _ a) hl;obtain⟨e,f⟩:=h.step.box b a d;exact⟨e,a2.trans f⟩
 ·intro b a hl;obtain⟨d,a2⟩:=c.step.it b (h.fG _ a) hl;obtain⟨e,f⟩:=h.step.it b a d;exact⟨e,a2.trans f⟩
 ·intro b a hl;obtain⟨d,a2⟩:=c.step.map b (h.fG _ a) hl;obtain⟨e,f⟩:=h.step.map b a d;exact⟨e,a2.trans f⟩
 ·intro b aq ai k r a hl;obtain⟨k1,s,d,a2,a3,a4⟩:=c.step.arr b aq ai k r (h.fG _ a) hl;obtain⟨k0,gW,e,f,p,q⟩:=h.step.arr b aq ai k1 s a d;refine⟨k0,gW,e,iz f a2,a3.trans p,fun l=>?_⟩;obtain⟨c1,c2⟩:=a4 l;obtain⟨d1,d2⟩:=q (fun x=>l (a3.2 x));exact⟨c1.trans d1,c2.trans d2⟩
 ·intro b a hl;obtain⟨d,a2⟩:=c.step.loop b (h.fG _ a) hl;obtain⟨e,f⟩:=h.step.loop b a d;exact⟨e,a2.trans f⟩
theorem B7(H:Heap)(l r:List (Nat×Obj)):aW H (l++r)=aW (aW H l) r:=by
 induction l generalizing H with
 |nil=>rfl
 |cons p l a=>obtain⟨b,o⟩:=p;simp[aW,a]
theorem pc(H:Heap)(l:List (Nat×Obj)):(aW H l).length=H.length:=by
 induction l generalizing H with
 |nil=>rfl
 |cons p l a=>obtain⟨b,o⟩:=p;simp[aW,a]
theorem yt(H T:Heap)(l:List (Nat×Obj))(h:∀p∈l,p.1<H.length):aW (H++T) l=aW H l++T:=by
 induction l generalizing H with
 |nil=>rfl
 |cons p l c=>
  obtain⟨b,o⟩:=p;have a:b<H.length:=h (b,o) s_;simp only[aW];rw[List.set_append_left _ _ a,c];intro q hq;rw[h5];exact h q (by simp[hq])
theorem Cl(H:Heap)(l:List Obj):aW (H++ht l.length .hole) (newAt H.length l)=H++l:=by
 induction l generalizing H with
 |nil=>simp[newAt,aW]
 |cons o l a=>
  simp only[newAt,aW,hP,hL];rw[h0 _ _ (ii _)];simp only[Nat.sub_self,h1];have:=a (H++[o]);simp only[hR,List.length_singleton,hD,List.singleton_append]at this;exact this
theorem kM(H:Heap)(m b:Nat):(H++ht m Obj.hole)[b]?=if b<H.length then H[b]? else if b<H.length+m then some .hole else none:=by
 by_cases h:b<H.length
 ·simp[h,hG]
 ·rw[hM o_];simp only[hC,h,if_false]
  by_cases a:b<H.length+m
  ·simp[a,show b-H.length<m by omega]
  ·simp[a,show¬(b-H.length<m)by omega]
theorem nV{H:Heap}{m b:Nat}{o:Obj}(h:(H++ht m Obj.hole)[b]?=some o):H[b]?=some o\/o=.hole:=by
 rw[kM]at h
 split at h
 ·exact .inl h
 ·split at h
  ·exact .inr (by simpa using h.symm)
  ·simp at h
theorem mY(H:Heap)(m:Nat)(b:Nat×Nat)(h:aH H b):aH (H++ht m Obj.hole) b:=by
 obtain⟨o,a,d⟩:=h;have c:b.1<H.length:=(hr.1 a).1;exact⟨o,by rw[kM,if_pos c];exact a,d⟩
theorem pg(β:Bd)(H:Heap)(m:Nat):cm β H β (H++ht m .hole):=by
 refine⟨?_,?_,?_,?_,?_⟩
 ·rintro b _ ⟨fz,t,h⟩;rcases nV h with h|h<;>simp_all [nh]
 ·rintro b _ ⟨fz,t,h⟩;rcases nV h with h|h<;>simp_all [ni]
 ·rintro b _ ⟨o,h,a⟩;rcases nV h with h|rfl
  ·exact⟨⟨o,h,a⟩,rfl⟩
  ·exact a.elim
 ·intro b aq ai k c _ h;rcases nV h with h|h
  ·exact⟨k,c,h,ii _,hp,fun _=>⟨rfl,rfl⟩⟩
  ·simp at h
 ·rintro b _ ⟨L,h⟩;rcases nV h with h|h<;>simp_all [ie]
theorem Obj.yR{S T:Nat×Nat->Prop}(h:∀x,S x->T x):∀{o:Obj},o.refs S->o.refs T
 | .box _ t,a=>aC.mono h t a
 | .arr _ _ _ es,a=>aR.mono h es a
 | .cQ _ vs,a=>aR.mono h vs a
 | .loop _L,a=>fun x=>aC.mono h _ (a x)
 | .hole,_| .dead,_| .map _ _,_| .dD _ _,_=>trivial
theorem b7.nA(m:Nat)(h:b7 P w aa β H ah):b7 P w aa β (H++ht m .hole) ah:=by
 refine⟨?_,?_,?_,h.bX,h.eX,h.jD⟩
 ·intro b o d;rcases nV d with d|rfl
  ·have e:=h.cS b o d;have g:=h.refs b o d;have st:=pg β H m;cases o with
   |hole=>trivial
   |dead=>trivial
   |box fz t=>
    obtain⟨cs,T,a,c,f⟩:=e;exact⟨cs,T,a,bp.mono (fun _ x=>x) (fun _ _=>rfl) st _ _ g c,f⟩
   |arr k aq ai es=>
    rcases e with e|⟨cs,T,n,rest,a,c,f⟩
    ·exact .inl e
    ·exact .inr ⟨cs,T,n,rest,a,bL.mono (fun _ x=>x) (fun _ _=>rfl) st _ _ _ g c,f⟩
   |map fz es=>exact e
   |cQ ks vs=>
    obtain⟨p,clock,a,c,f,i⟩:=e;exact⟨p,clock,a,c,br.mono (fun _ x=>x) (fun _ _=>rfl) st _ _ g f,i⟩
   |dD s pos=>exact e
   |loop L=>
    obtain⟨tmps,defers,fn,a,c,f,i⟩:=e;exact⟨tmps,defers,fn,a,c,fun x=>aw.mono (fun _ x=>x) (fun _ _=>rfl) st _ _ (g x) (f x),i⟩
  ·trivial
 ·intro x y u v a c j l r q;rcases nV a with a|rfl
  ·rcases nV c with c|rfl
   ·exact h.inj x y u v a c j l r q
   ·exact l.elim
  ·exact j.elim
 ·intro b o d;rcases nV d with d|rfl
  ·exact Obj.yR (mY H m) (h.refs b o d)
  ·trivial
theorem bt.use{o:Oper}{ρ:da->AV}{e:aU}(h:bt P o ρ H.length e){ρc:da->cR}(k:b7 P w aa β H ah)
 (c:∀x∈o.op.operands,aw P w aa β H (ρ x) (ρc x)/\aC (aH H) (ρ x))(ak:∀p∈e.ak,H[p.1]?=some p.2)(aG:∀p∈e.aG,p.1<H.length):
 ∃n a w' aJ aD,(dg ρc o).run P w=.ok n w'/\(n=.value a\/n=.skip/\a=undef)/\
  bZ P ah aa w β H aD w' aJ (aW H e.aG++e.aS)/\aw P w' aD aJ (aW H e.aG++e.aS) e.v a/\aC (aH (aW H e.aG++e.aS)) e.v:=by
 have aI:=pg β H e.aS.length;obtain⟨n,a,w',aJ,aD,m,q,d,f,g⟩:=h (H++ht e.aS.length .hole) w aa ah β ρc (k.nA _)
  (fun x hx=>⟨aw.mono (fun _ x=>x) (fun _ _=>rfl) aI _ _ (c x hx).2 (c x hx).1,aC.mono (mY _ _) _ (c x hx).2⟩)
  (fun p s=>by have:=ak p s;rw[kM,if_pos (hr.1 this).1];exact this)
  (fun i hi=>by rw[kM,if_neg o_,if_pos o_])
 have r:aW (H++ht e.aS.length .hole) (e.aG++newAt H.length e.aS)=aW H e.aG++e.aS:=by
  rw[B7,yt _ _ _ aG];have:=Cl (aW H e.aG) e.aS
  rwa [pc]at this
 rw[r]at d f g;refine⟨n,a,w',aJ,aD,m,q,?_,f,g⟩;have l:bZ P ah aa w β H aa w β (H++ht e.aS.length .hole):=⟨fun _ x=>x,fun _ x=>.inl x,Ext.refl _ _ _,aI,k.nA _,mY _ _,fun b⟨L,j⟩=>⟨L,by rw[kM,if_pos (hr.1 j).1];exact j⟩⟩
 exact l.trans d
theorem sf.use{f:dk}{args:List AV}{e:aU}(h:sf P f args H.length e)(m:pZ H e){c:List cR}(n:b7 P w aa β H ah)(r:br P w aa β H args c)(o:aR (aH H) args):
 en P f c.toArray w fun x w'=>∃a aJ aD,x=.returned a/\bZ P ah aa w β H aD w' aJ (aW H e.aG++e.aS)/\aw P w' aD aJ (aW H e.aG++e.aS) e.v a/\aC (aH (aW H e.aG++e.aS)) e.v:=by
 have aI:=pg β H e.aS.length;refine(h.2 (H++ht e.aS.length .hole) w aa ah β c (n.nA _)
  (br.mono (fun _ x=>x) (fun _ _=>rfl) aI _ _ o r) (aR.mono (mY _ _) _ o)
  (fun p d=>by have:=m.1 p d;rw[kM,if_pos (hr.1 this).1];exact this)
  (fun i hi=>by rw[kM,if_neg o_,if_pos o_])).mono ?_
 rintro x w' ⟨a,aJ,aD,rfl,g,j,k⟩;have s:aW (H++ht e.aS.length .hole) (e.aG++newAt H.length e.aS)=aW H e.aG++e.aS:=by
  rw[B7,yt _ _ _ (fun p d=>(m.2 p d).1)];have:=Cl (aW H e.aG) e.aS
  rwa [pc]at this
 rw[s]at g j k;have q:bZ P ah aa w β H aa w β (H++ht e.aS.length .hole):=⟨fun _ x=>x,fun _ x=>.inl x,Ext.refl _ _ _,aI,n.nA _,mY _ _,fun b⟨L,l⟩=>⟨L,by rw[kM,if_pos (hr.1 l).1];exact l⟩⟩
 exact⟨a,aJ,aD,rfl,q.trans g,j,k⟩
end
def ma(P:c6)(ag:dk->Bool):Prop:=
 ∀(o:Oper)(ρ:da->AV)(H:Heap)(K:aU->Prop),(∀v,ρ (.const v)=.p (ofConst v))->fC P ag o ρ H K->
  ∃e,K e/\bt P o ρ H.length e/\(∀p∈e.ak,H[p.1]?=some p.2)/\(∀p∈e.aG,p.1<H.length/\p.2≠.hole)
section
variable{P:c6}{ag:dk->Bool}{n:Nat}
theorem JY{w:c8}{aa:Nat->Prop}(v:cR):aB P w aa (ofConst v) v:=by
 unfold ofConst
 split<;>simp[aB]
theorem oG{ah aa:Nat->Prop}{β:Bd}{s:St}{t:Array cR}{w:c8}(h:cU P n ah aa β s t w)(x:da):
 aw P w aa β s.heap (ev s.env x) (fO t x)/\aC (aH s.heap) (ev s.env x):=by
 cases x with
 |tmp x=>exact⟨h.env x,h.gV x⟩
 |const v=>exact⟨by simp only[ev,fO,aw];exact JY v,by simp[ev,aC]⟩
 |global g=>exact⟨by simp only[ev,fO,aw];exact h.heap.jD.val g,by simp[ev,aC]⟩
 |func f=>exact⟨by simp[ev,fO,aw,aB,bm],by simp[ev,aC]⟩
def jB(n:Nat)(o:Oper):Bool:=
 match o.dst with
 |some d=>decide (d<n)
 |none=>true
theorem vH(e:Env)(dst:Option Tmp)(v:AV)(x:Nat):aN (put dst v e) x=if dst=some x then v else aN e x:=by
 cases dst with
 |none=>simp[put]
 |some d=>
  simp only[put,aN,i8]
  by_cases h:x=d
  ·simp[h]
  ·simp[h,i5 h]
theorem Ym{n:Nat}{o:Oper}(a:jB n o=true){t:Array cR}(c:t.size=n)(v:cR)(x:Nat):(nK o.dst v t).getD x undef=if o.dst=some x then v else t.getD x undef:=by
 unfold jB at a;cases b:o.dst with
 |none=>simp[nK]
 |some d=>
  simp only[b,decide_eq_true_eq]at a;simp only[nK,i8]
  by_cases h:d=x
  ·subst h;simp[c,a]
  ·simp only[h,if_false,bo,b2 h]
theorem X1{t:Array cR}(dst:Option Tmp)(v:cR):(nK dst v t).size=t.size:=by cases dst<;>simp[nK]
theorem cU.put{ah aa aD:Nat->Prop}{β aJ:Bd}{s:St}{H':Heap}{t:Array cR}{w w':c8}{o:Oper}{v:AV}{b:cR}(h:cU P n ah aa β s t w)(c:jB n o=true)
 (a:bZ P ah aa w β s.heap aD w' aJ H')(e:aw P w' aD aJ H' v b)(d:aC (aH H') v):
 cU P n ah aD aJ ⟨put o.dst v s.env,H'⟩ (nK o.dst b t) w':=by
 refine⟨a.rel,fun x=>?_,fun x=>?_,by rw[X1];exact h.size⟩
 ·rw[vH,Ym c h.size]
  split
  ·exact e
  ·exact aw.mono a.bX (fun k hk=>a.ext.same k (.inr hk)) a.step _ _ (h.gV x) (h.env x)
 ·rw[vH]
  split
  ·exact d
  ·exact aC.mono a.fG _ (h.gV x)
theorem LI{H T:Heap}{b:Nat×Nat}(h:aH H b):aH (H++T) b:=by
 obtain⟨o,a,c⟩:=h;exact⟨o,by rw[hG (hr.1 a).1];exact a,c⟩
theorem b7.later{ah aa aD:Nat->Prop}{w w':c8}{β:Bd}{H:Heap}(h:b7 P w aa β H ah)(e:∀k,aa k->aD k)(hf:∀k,aD k->aa k\/w.heap.size<=k)
 (A:∀k,aD k->k<w'.heap.size)(p:w.heap.size<=w'.heap.size)(hs:∀k,k<w.heap.size->w'.heap[k]?=w.heap[k]?)(z:w'.os=w.os/\w'.output=w.output:=by exact⟨rfl,rfl⟩):bZ P ah aa w β H aD w' β H:=by
 have same:∀k,aa k->w'.heap[k]?=w.heap[k]?:=fun k hk=>hs k (h.bX k hk);refine⟨e,fun k hk=>(hf k hk).imp id (fun c a=>by have:=h.eX k a;omega),⟨p,fun k hk=>hs k (hk.elim (h.eX k) (h.bX k)),z⟩,cm.refl _ _,?_,fun _ x=>x,fun _ x=>x⟩;refine⟨fun b o l=>?_,fun b b' o o' c a C D B=>h.inj b b' o o' c a C D (fun hi=>B (e _ hi)),h.refs,A,fun k hk=>i1 (h.eX k hk) p,h.jD.mono e same⟩;have f:=h.cS b o l;have m:=h.refs b o l;have held:∀fz,o.live->cC aa β ah fz b->cC aD β ah fz b:=by
  intro fz hl j;have:=h.oD l hl;unfold cC at j⊢;cases fz with
  |true=>exact e _ j
  |false=>exact⟨fun x=>(hf _ x).elim j.1 o_,j.2⟩
 have i:o.live->w'.heap[β.al b]?=w.heap[β.al b]?:=fun hl=>hs _ (h.oD l hl);cases o with
 |hole=>trivial
 |dead=>trivial
 |box fz t=>
  obtain⟨cs,T,c,a,d,g⟩:=f;exact⟨cs,T,(i trivial).trans c,bp.mono e same (cm.refl _ _) _ _ m a,held _ trivial d,g⟩
 |arr k aq ai es=>
  rcases f with f|⟨cs,T,q,rest,c,a,d,g,r,u,v,y⟩
  ·exact .inl f
  ·by_cases hl:di k es
   ·exact .inl hl
   ·exact .inr ⟨cs,T,q,rest,(i hl).trans c,bL.mono e same (cm.refl _ _) _ _ _ m a,d,g,r,u,held _ hl v,y⟩
 |map fz es=>
  obtain⟨n,clock,c,a,d⟩:=f;exact⟨n,clock,(i trivial).trans c,cF.mono e same _ _ a,held _ trivial d⟩
 |cQ ks vs=>
  obtain⟨n,clock,c,a,d,g⟩:=f;exact⟨n,clock,(i trivial).trans c,bm.mono e same _ _ a,br.mono e same (cm.refl _ _) _ _ m d,held _ trivial g⟩
 |dD s pos=>
  obtain⟨bs,c,a,d⟩:=f;exact⟨bs,(i trivial).trans c,a,held _ trivial d⟩
 |loop L=>
  obtain⟨tmps,defers,fn,c,a,d,g⟩:=f;exact⟨tmps,defers,fn,(i trivial).trans c,a,fun x=>aw.mono e same (cm.refl _ _) _ _ (m x) (d x),held _ trivial g⟩
theorem pj{w:c8}{aa:Nat->Prop}{β:Bd}{H:Heap}:∀{a b:List AV}{x y:List cR},br P w aa β H a x->br P w aa β H b y->br P w aa β H (a++b) (x++y)
 |[],b,x,y,h,c=>by simp only[br]at h;subst h;simpa using c
 |v::a,b,x,y,h,c=>by
  simp only[br]at h;obtain⟨z,f,rfl,d,e⟩:=h;simp only[hS,br];exact⟨z,f++y,rfl,d,pj e c⟩
theorem ku{S:Nat×Nat->Prop}{a b:List AV}(h:aR S a)(d:aR S b):aR S (a++b):=by
 rw[cO]at*;intro v c;rcases hQ.1 c with c|c
 ·exact h v c
 ·exact d v c
theorem vK{ah aa:Nat->Prop}{β:Bd}{s:St}{t:Array cR}{w:c8}(h:cU P n ah aa β s t w):∀l:List da,
 br P w aa β s.heap (l.map (ev s.env)) (l.map (fO t))/\aR (aH s.heap) (l.map (ev s.env))
 |[]=>by simp[br,aR]
 |x::l=>by
  have a:=oG h x;have b:=vK h l;simp only[hK,br,aR];exact⟨⟨_,_,rfl,a.1,b.1⟩,a.2,b.2⟩
end
section
variable{P:c6}{w:c8}{aa ah:Nat->Prop}{β:Bd}{H:Heap}
def Bd.at(β:Bd)(b al cap:Nat):Bd:=⟨fun x=>if x=b then al else β.al x,fun x=>if x=b then cap else β.cap x⟩
theorem yW{b:Nat}(f:H[b]?=some .hole)(o':Obj)(al cap:Nat):cm β H (β.at b al cap) (H.set b o'):=by
 have a:∀{x v},aH H (x,v)->x≠b:=by
  rintro x v ⟨o,d,i⟩ rfl;simp only at d;rw[f]at d;cases d;exact i
 have c:∀{x v},aH H (x,v)->(H.set b o')[x]?=H[x]?:=fun hx=>hw (i5 (a hx));refine⟨?_,?_,?_,?_,?_⟩
 ·rintro x hx ⟨fz,t,h⟩;rw[c hx]at h;exact⟨⟨fz,t,h⟩,by simp[Bd.at,a hx]⟩
 ·rintro x hx ⟨fz,t,h⟩;rw[c hx]at h;exact⟨⟨fz,t,h⟩,by simp[Bd.at,a hx]⟩
 ·rintro x hx ⟨o,h,g⟩;rw[c hx]at h;exact⟨⟨o,h,g⟩,by simp[Bd.at,a hx]⟩
 ·intro x aq ai k e hx h;unfold eA at h;rw[c hx]at h;exact⟨k,e,h,ii _,hp,fun _=>by simp[Bd.at,a hx]⟩
 ·rintro x hx ⟨L,h⟩;rw[c hx]at h;exact⟨⟨L,h⟩,by simp[Bd.at,a hx]⟩
theorem tD(e:b7 P w aa β H ah){a:Nat}(b:H[a]?=some .hole){ob:Go.Obj}{o':Obj}{cap:Nat}
 (g:fJ P {w with heap:=w.heap.push ob} aa (β.at a w.heap.size cap) (H.set a o') ah a o')(h:o'.refs (aH (H.set a o'))):
 bZ P ah aa w β H aa {w with heap:=w.heap.push ob} (β.at a w.heap.size cap) (H.set a o'):=by
 refine bZ.set e (hr.1 b).1 (fun x hx=>by simp[Bd.at,hx]) (fun _ x=>x) (fun _ x=>.inl x) (fun k hk=>by have:=e.bX k hk;simp;omega) s_
  (fun k _ hk=>by simp[cb,i4 hk]) (fun _=>.inl (by simp[Bd.at])) (yW b _ _ _) g h (fun i v c f=>by rw[b]at c;cases c;exact f.elim) (fun L d=>by rw[b]at d;cases d)
theorem vD(w:c8)(a:Go.Obj){k:Nat}(hk:k<w.heap.size):({w with heap:=w.heap.push a}:c8).heap[k]?=w.heap[k]?:=by
 simp[cb,i4 hk]
end
section
variable{P:c6}{w:c8}{aa aD ah:Nat->Prop}{β:Bd}{H:Heap}
def Row(P:c6)(w:c8)(aa:Nat->Prop)(β:Bd)(H:Heap)(ai:Nat)(a:List AV)(b:List (List cR)):Prop:=bL P w aa β H (ht a.length ai) a b
theorem iQ{ai:Nat}{a:List (List cR)}:Row P w aa β H ai [] a↔a=[]:=by simp[Row,bL]
theorem qM{ai:Nat}{v:AV}{b:List AV}{a:List (List cR)}:Row P w aa β H ai (v::b) a↔∃c cs,a=c::cs/\bp P w aa β H v c/\c.length=ai/\Row P w aa β H ai b cs:=by
 simp[Row,hL,bL]
theorem lO{ai:Nat}:∀{a b:List AV}{d:List (List cR)},Row P w aa β H ai (a++b) d↔∃c1 c2,d=c1++c2/\Row P w aa β H ai a c1/\Row P w aa β H ai b c2
 |[],b,d=>by
  simp only[List.nil_append];constructor
  ·intro h;exact⟨[],d,rfl,iQ.2 rfl,h⟩
  ·rintro⟨c1,c2,rfl,e,f⟩;rw[iQ.1 e];simpa using f
 |v::a,b,d=>by
  simp only[hS,qM];constructor
  ·rintro⟨c,cs,rfl,e,f,g⟩;obtain⟨c1,c2,rfl,i,j⟩:=lO.1 g;exact⟨c::c1,c2,rfl,⟨c,c1,rfl,e,f,i⟩,j⟩
  ·rintro⟨c1,c2,rfl,⟨c,cs,rfl,e,f,g⟩,i⟩;exact⟨c,cs++c2,rfl,e,f,lO.2 ⟨cs,c2,rfl,g,i⟩⟩
theorem gh{ai:Nat}:∀{b:List AV}{a:List (List cR)},Row P w aa β H ai b a->a.length=b.length/\a.flatten.length=b.length*ai
 |[],a,h=>by rw[iQ]at h;subst h;simp
 |v::b,a,h=>by
  rw[qM]at h;obtain⟨c,cs,rfl,f,d,e⟩:=h;have:=gh e;simp only[hP,hN,hR,this,d,i3];exact⟨trivial,o_⟩
theorem mj{ai:Nat}{a:List PV}{b:List (List cR)}:Row P w aa β H ai (a.map .p) b↔bg P w aa (ht a.length ai) a b:=by
 unfold Row;rw[List.length_map];exact od
theorem kx{ai:Nat}{d:List AV}{e:List (List cR)}(h:Row P w aa β H ai d e)(off len:Nat)(hl:off+len<=d.length):
 ∃a b c,e=a++b++c/\Row P w aa β H ai ((d.drop off).take len) b/\a.flatten.length=off*ai/\Row P w aa β H ai (d.take off) a/\Row P w aa β H ai (d.drop (off+len)) c:=by
 have e1:d=d.take off++((d.drop off).take len++d.drop (off+len)):=by
  rw[<-h8,hZ,hZ]
 rw[e1,lO]at h;obtain⟨a,r,rfl,f,g⟩:=h;rw[lO]at g;obtain⟨b,c,rfl,i,j⟩:=g;refine⟨a,b,c,s_,i,?_,f,j⟩;have:=(gh f).2;rw[this,List.length_take,ik o_]
theorem mc{cs:Array cR}{T:c7}{fz:Nat×Nat}{al:Nat}(a:w.heap[al]?=some (.cells cs T fz)){pre xs post:List cR}(hc:cs.toList=pre++xs++post):
 ic w al pre.length xs:=by
 intro i hi;have:cs[pre.length+i]?=some xs[i]:=by
  rw[<-bv,hc,hD,hM o_];simp only[ix];rw[hG hi,hA hi]
 simp[hh,a,this]
theorem Cb(a:List PV)(off len:Nat):(((a.map AV.p).drop off).take len)=((a.drop off).take len).map .p:=by
 rw[<-List.map_drop,<-List.map_take]
theorem ml{H:Heap}{b:Nat}{d o:Obj}(c:H[b]?=some d)(e:∀v,d.has v->o.has v):∀x,aH H x->aH (H.set b o) x:=by
 rintro⟨x,v⟩ ⟨f,a,h⟩
 by_cases hx:b=x
 ·subst hx;simp only at a;rw[c]at a;cases a;exact⟨o,by simp only;rw[hv (hr.1 c).1],e v h⟩
 ·exact⟨f,by simp only;rw[hw hx];exact a,h⟩
theorem qG{b:Nat}{o o':Obj}(m:H[b]?=some o)(hk:(∃f g t,o= .box f t/\o'= .box g t)\/(∃k n v z c,o= .arr k v z c/\o'= .arr n v z c/\¬di k c/\¬di n c)\/(∃f g c,o= .map f c/\o'= .map g c)):
 cm β H β (H.set b o'):=by
 have u:b<H.length:=(hr.1 m).1;have i:∀x,x≠b->(H.set b o')[x]?=H[x]?:=fun x hx=>hw (i5 hx);have e:(H.set b o')[b]?=some o':=hv u;refine⟨?_,?_,?_,?_,?_⟩
 ·rintro x _ ⟨fz,t,h⟩;refine⟨?_,rfl⟩
  by_cases hx:x=b
  ·subst hx;rw[e]at h;cases h;rcases hk with⟨f,g,l,d,a⟩|⟨_,_,_,_,_,_,a,_⟩|⟨_,_,_,_,a⟩
   ·exact⟨f,l,by rw[m,d]⟩
   ·cases a
   ·cases a
  ·rw[i x hx]at h;exact⟨fz,t,h⟩
 ·rintro x _ ⟨s,p,h⟩;refine⟨?_,rfl⟩
  by_cases hx:x=b
  ·subst hx;rw[e]at h;cases h;rcases hk with⟨f,g,l,d,a⟩|⟨_,_,_,_,_,_,a,_⟩|⟨_,_,_,_,a⟩<;>cases a
  ·rw[i x hx]at h;exact⟨s,p,h⟩
 ·rintro x _ ⟨w,h,j⟩;refine⟨?_,rfl⟩
  by_cases hx:x=b
  ·subst hx;rw[e]at h;cases h;rcases hk with⟨f,g,l,d,a⟩|⟨_,_,_,_,_,_,a,_⟩|⟨f,g,c,d,a⟩
   ·rw[a]at j;exact j.elim
   ·rw[a]at j;exact j.elim
   ·exact⟨o,m,by rw[d];trivial⟩
  ·rw[i x hx]at h;exact⟨w,h,j⟩
 ·intro x aq ai k c _ h
  by_cases hx:x=b
  ·subst hx;unfold eA at h⊢;rw[e]at h;cases h;rcases hk with⟨f,g,l,d,a⟩|⟨k0,n,v,z,y,d,a,q,r⟩|⟨f,g,c,d,a⟩
   ·cases a
   ·cases a;exact⟨k0,c,by rw[m,d],ii _,⟨fun x=>(r x).elim,fun x=>(q x).elim⟩,fun _=>⟨rfl,rfl⟩⟩
   ·cases a
  ·unfold eA at h⊢;rw[i x hx]at h;exact⟨k,c,h,ii _,hp,fun _=>⟨rfl,rfl⟩⟩
 ·rintro x _ ⟨L,h⟩;refine⟨?_,rfl⟩
  by_cases hx:x=b
  ·subst hx;rw[e]at h;cases h;rcases hk with⟨f,g,l,d,a⟩|⟨_,_,_,_,_,_,a,_⟩|⟨_,_,_,_,a⟩<;>cases a
  ·rw[i x hx]at h;exact⟨L,h⟩
theorem cC.rI{fz:Bool}{b:Nat}(h:cC aa β ah fz b):aa (β.al b)\/(¬aa (β.al b)/\¬ah (β.al b)):=by
 cases fz with
 |true=>exact .inl h
 |false=>exact .inr h
theorem qK(e:b7 P w aa β H ah){b:Nat}{o o':Obj}(f:H[b]?=some o)(hl:o.live)(O:o'.live)(u:∀v,o.has v->o'.has v)(r:∀L,o≠ .loop L)
 (aI:cm β H β (H.set b o'))(N:aa (β.al b)\/(¬aa (β.al b)/\¬ah (β.al b)))
 (aS:∀aD:Nat->Prop,(∀k,aa k->aD k)->aD (β.al b)->fJ P w aD β (H.set b o') ah b o')(A:o'.refs (aH (H.set b o'))):
 ∃aD,bZ P ah aa w β H aD w β (H.set b o')/\aD (β.al b):=by
 have q:b<H.length:=(hr.1 f).1
 by_cases hi:aa (β.al b)
 ·
  refine⟨aa,?_,hi⟩;have ak:=ml f u;refine⟨fun _ x=>x,fun _ x=>.inl x,Ext.refl _ _ _,aI,⟨?_,?_,?_,e.bX,e.eX,e.jD⟩,ak,fun x⟨L,j⟩=>⟨L,by
   by_cases hx:b=x
   ·subst hx;rw[f]at j;cases j;exact(r L rfl).elim
   ·rw[hw hx];exact j⟩⟩
  ·intro x l d
   by_cases hx:x=b
   ·subst hx;rw[hv q]at d;cases d;exact aS aa (fun _ x=>x) hi
   ·rw[hw (i5 hx)]at d;have g:=e.cS x l d;have m:=e.refs x l d;cases l with
    |hole=>trivial
    |dead=>trivial
    |box fz t=>
     obtain⟨cs,T,a,c,i⟩:=g;exact⟨cs,T,a,bp.mono (fun _ x=>x) (fun _ _=>rfl) aI _ _ m c,i⟩
    |arr k aq ai es=>
     rcases g with g|⟨cs,T,J,rest,a,c,i⟩
     ·exact .inl g
     ·exact .inr ⟨cs,T,J,rest,a,bL.mono (fun _ x=>x) (fun _ _=>rfl) aI _ _ _ m c,i⟩
    |map fz es=>exact g
    |cQ ks vs=>
     obtain⟨K,clock,a,c,i,p⟩:=g;exact⟨K,clock,a,c,br.mono (fun _ x=>x) (fun _ _=>rfl) aI _ _ m i,p⟩
    |dD s pos=>exact g
    |loop L=>
     obtain⟨tmps,defers,fn,a,c,i,p⟩:=g;exact⟨tmps,defers,fn,a,c,fun x=>aw.mono (fun _ x=>x) (fun _ _=>rfl) aI _ _ (m x) (i x),p⟩
  ·intro x y D W a c S U Q M;have conv:∀(z:Nat)(n:Obj),(H.set b o')[z]?=some n->n.live->∃E:Obj,H[z]?=some E/\E.live:=by
    intro z n B V
    by_cases C:z=b
    ·subst C;exact⟨o,f,hl⟩
    ·rw[hw (i5 C)]at B;exact⟨n,B,V⟩
   obtain⟨F,G,c1⟩:=conv x D a S;obtain⟨a2,I,c2⟩:=conv y W c U;exact e.inj x y F a2 G I c1 c2 Q M
  ·intro x l d
   by_cases hx:x=b
   ·subst hx;rw[hv q]at d;cases d;exact A
   ·rw[hw (i5 hx)]at d;exact Obj.yR ak (e.refs x l d)
 ·refine⟨fun k=>aa k\/k=β.al b,?_,.inr rfl⟩;have R:=N.resolve_left hi;exact bZ.set e q (fun _ _=>⟨rfl,rfl⟩) (fun _ x=>.inl x) (fun k hk=>hk.imp id (fun h=>⟨h,O⟩)) (fun k hk=>hk.elim (e.bX k) (fun h=>h▸e.oD f hl)) (ii _)
   (fun _ _ _=>rfl) (fun _=>.inr ⟨rfl,⟨o,f,hl⟩,.inl (fun _ _=>rfl),R.2⟩) aI (aS _ (fun _ x=>.inl x) (.inr rfl)) A (fun D v a c=>by rw[f]at a;cases a;exact u v c) (fun L j=>by rw[f]at j;cases j;exact(r L rfl).elim)
theorem Lz{z:AV}{pv:PV}{H1:Heap}{v:cR}(d:lE H z=some (pv,H1))(i:b7 P w aa β H ah)(f:aw P w aa β H z v)(Y:aC (aH H) z):
 ∃aD,bZ P ah aa w β H aD w β H1/\aB P w aD pv v:=by
 cases z with
 |p t=>
  simp[lE]at d;obtain⟨rfl,rfl⟩:=d;exact⟨aa,bZ.refl i,by simpa[aw]using f⟩
 |sl b aq ai off len=>
  simp only[lE]at d
  split at d
  case h_2=>simp at d
  rename_i k Z W j g
  split at d
  case isFalse=>simp at d
  rename_i O;obtain⟨rfl,rfl,hl⟩:=O;simp only[aw]at f;obtain⟨_,f⟩:=f;simp only[bV]at f;obtain⟨v1,v2,v3⟩:=f k j g
  split at d
  ·rename_i u;simp at d;obtain⟨rfl,rfl⟩:=d;exact⟨aa,bZ.refl i,by simp[aB,v2 u]⟩
  ·rename_i u
   split at d
   case h_2=>simp at d
   rename_i J R;simp at d;obtain⟨rfl,rfl⟩:=d;have A:=mi R;have E:=i.cS b _ g;rcases E with E|⟨cs,T,F,rest,n,l,r,B,L,M,N,X⟩
   ·exact(u E).elim
   have I:¬di .frozen j:=fun h=>by cases h.1
   have aI:cm β H β (H.set b (.arr .frozen aq ai j)):=qG g (.inr (.inl ⟨_,_,_,_,_,rfl,rfl,u,I⟩));obtain⟨aD,q,y⟩:=qK i g u (o':=.arr .frozen aq ai j) I (fun _ h=>h) (fun _ h=>by cases h) aI N.rI
    (fun aD hi x=>.inr ⟨cs,T,F,rest,n,bL.mono hi (fun _ _=>rfl) aI _ _ _ (i.refs b _ g) l,r,B,L,(fun h=>by cases h),x,fun _ e C=>(by rw[A]at C;simp at C;obtain⟨a,_,rfl⟩:=C;trivial),fun h=>by cases h⟩)
    (by rw[A];exact jw _ _)
   refine⟨aD,q,?_⟩;rw[v3 u];have S:Row P w aD β H ai j F:=bL.mono q.bX (fun _ _=>rfl) (cm.refl _ _) _ _ _ (i.refs b _ g) l;obtain⟨a,m,c,e1,e2,e3,e4,e5⟩:=kx S off len v1;rw[A,Cb,mj]at e2;have D:((J.drop off).take len).length=len:=by
    have:j.length=J.length:=by rw[A];simp
    simp;omega
   simp only[aB];refine⟨β.al b,off*ai,β.cap b-off,ai,m,e2,fun _=>y,?_,?_,?_,none,.inl rfl,?_⟩
   ·rw[<-e3];exact mc n (post:=c.flatten++rest) (by rw[r,e1];simp)
   ·intro hf;simp at hf;rw[D,M hf.1];omega
   ·rw[D];omega
   ·rw[D]
 |ptr b path=>
  simp only[lE]at d
  split at d
  case h_2=>simp at d
  rename_i fz t g
  split at d
  case h_2=>simp at d
  rename_i s hs;simp at d;obtain⟨rfl,rfl⟩:=d;simp only[aw]at f;obtain⟨_,f⟩:=f;simp only[bV]at f;obtain⟨V,U,o,rfl,Q,f⟩:=f;obtain⟨rfl,rfl⟩:=f (.inl ⟨fz,_,g⟩);obtain⟨cs,T,n,l,r,B⟩:=i.cS b _ g;have aI:cm β H β (H.set b (.box true (.p t))):=qG g (.inl ⟨_,_,_,rfl,rfl⟩);obtain⟨aD,q,y⟩:=qK i g trivial (o':=.box true (.p t)) trivial (fun _ h=>h) (fun _ h=>by cases h) aI r.rI
   (fun aD hi x=>⟨cs,T,n,bp.mono hi (fun _ _=>rfl) aI _ _ (by simp[aC]) l,x,fun _=>trivial,B.2⟩) (by simp[Obj.refs,aC])
  refine⟨aD,q,?_⟩;have K:aV P w aD t cs.toList:=by simp only[bp]at l;exact aV.mono q.bX (fun _ _=>rfl) _ _ l
  obtain⟨pre,xs,post,e1,e2,e3⟩:=zd K hs Q;simp only[aB];refine⟨β.al b,U,xs,e3,y,?_,rfl⟩;rw[<-e2];exact mc n e1
 |map b=>
  simp only[lE]at d
  split at d
  case h_2=>simp at d
  rename_i fz j g;simp at d;obtain⟨rfl,rfl⟩:=d;simp only[aw]at f;obtain⟨_,f⟩:=f;simp only[bV]at f;have f:=f.1 ⟨_,g,trivial⟩;obtain⟨G,clock,n,l,r⟩:=i.cS b _ g;have aI:cm β H β (H.set b (.map true j)):=qG g (.inr (.inr ⟨_,_,_,rfl,rfl⟩));obtain⟨aD,q,y⟩:=qK i g trivial (o':=.map true j) trivial (fun _ h=>h) (fun _ h=>by cases h) aI r.rI
   (fun aD hi x=>⟨G,clock,n,cF.mono hi (fun _ _=>rfl) _ _ l,x⟩) trivial
  refine⟨aD,q,?_⟩;simp only[aB];exact⟨β.al b,G,clock,y,n,cF.mono q.bX (fun _ _=>rfl) _ _ l,f⟩
 |b8=>simp[lE]at d
 |func=>simp[lE]at d
 |st=>simp[lE]at d
 |aE=>simp[lE]at d
end
section
variable{P:c6}{ag:dk->Bool}{n N:Nat}
theorem CF{w:c8}{β:Bd}{ah:Nat->Prop}:∀{e:List AV}{g:List PV}{H H1:Heap}{aa:Nat->Prop}{vs:List cR},nJ H e=some (g,H1)->b7 P w aa β H ah->
 br P w aa β H e vs->aR (aH H) e->∃aD,bZ P ah aa w β H aD w β H1/\bm P w aD g vs
 |[],g,H,H1,aa,vs,b,h,c,_=>by
  simp[nJ]at b;obtain⟨rfl,rfl⟩:=b;simp only[br]at c;exact⟨aa,bZ.refl h,by simpa[bm]using c⟩
 |a::e,g,H,H1,aa,vs,b,h,c,f=>by
  simp only[nJ]at b
  split at b
  case h_2=>simp at b
  rename_i v o j
  split at b
  case h_2=>simp at b
  rename_i r p k;simp at b;obtain⟨rfl,rfl⟩:=b;simp only[br]at c;obtain⟨y,n,rfl,k1,k2⟩:=c;simp only[aR]at f;obtain⟨q,d,l⟩:=Lz j h k1 f.1;obtain⟨i,q1,m⟩:=CF k d.rel (br.mono d.bX (fun _ _=>rfl) d.step _ _ f.2 k2) (aR.mono d.fG _ f.2);refine⟨i,d.trans q1,?_⟩;simp only[bm];exact⟨y,n,rfl,aB.mono q1.bX (fun _ _=>rfl) _ _ l,m⟩
def kV(P:c6)(n N:Nat)(fr:dp)(k:List Item)(cs:List dp)(c:Array Oper)(ah aa:Nat->Prop)(w:c8)(β:Bd)(H:Heap)(m:ec)(r:List Nat)(b:List dl)(K:St->Prop):Prop:=
 ∃s' aD aJ a w',K s'/\ea P m (lone (bA fr a b (.inRegion c r::k)) cs w')/\cU P n ah aD aJ s' a w'/\dM N ah aa w β H ah aD w' aJ s'.heap
theorem VB{d:Bool}{o:Oper}{K:St->Prop}{s:St}(h:kj P ag d o K s)(c:Call):o.op≠.defer c:=by
 intro hc;unfold kj at h;rw[hc]at h;simp[fC,hc]at h
variable{fr:dp}{k:List Item}{cs:List dp}{ops:Array Oper}{i:Nat}{r:List Nat}{ds:List dl}
theorem Kt{d:Bool}{o:Oper}{f:da}{F:Array da}{ab:Array c7}{g:dk}{fi ca:List AV}{K:St->Prop}{s:St}{ah aa:Nat->Prop}{β:Bd}{t:Array cR}{w:c8}
 (W:o.op=.call {callee:=.value f,args:=F,argTypes:=ab})
 (hf:(ev s.env f=.func g fi ca)\/(∃a b,ev s.env f=.p (.func g a b)/\fi=a.map .p/\ca=b.map .p))
 (h:ij P d g (fi++F.toList.map (ev s.env)++ca) s.heap (fun v H'=>K ⟨put o.dst v s.env,H'⟩))
 (m:cU P n ah aa β s t w)(G:jB n o=true)(C:ops[i]?=some o)(M:gi o (yielded ops t)=true):
 kV P n N fr k cs ops ah aa w β s.heap (lone (bA fr t ds (.inRegion ops (i::r)::k)) cs w) r ds K:=by
 have E:=oG m f;obtain⟨y,u,am,al,aj,aq,ap⟩:∃y u:List cR,fO t f=.func (.func g) y.toArray u.toArray/\br P w aa β s.heap fi y/\br P w aa β s.heap ca u/\aR (aH s.heap) fi/\aR (aH s.heap) ca:=by
  rcases hf with hf|⟨a,b,hf,rfl,rfl⟩
  ·rw[hf]at E;simp only[aw,aC]at E;obtain⟨⟨y,u,l,j,z⟩,ad,ae⟩:=E;exact⟨y,u,z,l,j,ad,ae⟩
  ·rw[hf]at E;simp only[aw,aB]at E;obtain⟨⟨y,u,l,j,z⟩,_⟩:=E;exact⟨y,u,z,j0.2 l,j0.2 j,jw _ _,jw _ _⟩
 obtain⟨ag,ai⟩:=vK m F.toList;have D:=pj (pj al ag) aj;have Q:=ku (ku aq ai) ap;have q:(dg (fO t) o).run P w=(callFunc g (y++F.toList.map (fO t)++u).toArray).run P w:=by
  simp only[dg,W,resolve,am,ew,gx,gy,gt,invoke];congr 2;simp
 have L:∀c,o.op≠.defer c:=fun c hc=>by rw[W]at hc;cases hc
 have Z:∀(H1:Heap)(B:Nat->Prop)(vs:List PV)(v:PV),bZ P ah aa w β s.heap B w β H1->bm P w B vs (y++F.toList.map (fO t)++u)->aA P g vs v->
  K ⟨put o.dst (.p v) s.env,H1⟩->kV P n N fr k cs ops ah aa w β s.heap (lone (bA fr t ds (.inRegion ops (i::r)::k)) cs w) r ds K:=by
  intro H1 B vs v A Y I U;rcases I with⟨R,I⟩|I
  ·rw[R]at q;obtain⟨e,w',S,⟨O,aD,H,g1,g2,g3,g4,g5,ac,g6⟩,aI,V,J⟩:=I w B _ A.rel.bX A.rel.jD Y (bA fr t ds (.inRegion ops (i::r)::k)::cs);subst H;have X:=A.trans (A.rel.later g1 g2 g3 g4 g5 ac);refine⟨_,aD,β,_,w',U,?_,m.put G X (by simpa[aw]using g6) (by simp[aC]),X.fw⟩;rw[<-nW C];exact(g7 (vA C M L q)).trans (g8 aI (.one (dq J)))
  ·obtain⟨O,l,j⟩:=I w B _ Y;rw[l]at q;exact⟨_,B,β,_,w,U,.one (s9 C M L q (.inl rfl)),m.put G A (by simpa[aw]using j) (by simp[aC]),A.fw⟩
 rcases h with⟨vs,v,l,j,z⟩|⟨_,⟨vs,H1,v,l,j,z⟩|⟨H',v,⟨R,l⟩,j⟩|⟨e,T,ao,j⟩|⟨ak,v,af,an,j⟩⟩
 ·exact Z s.heap aa vs v (bZ.refl m.heap) (by rw[l]at D;exact j0.1 D) j z
 ·obtain⟨B,ar,au⟩:=CF l m.heap D Q;exact Z H1 B vs v ar au j z
 ·rw[R]at q;obtain⟨e,w',S,⟨O,aJ,aD,H,g1,g2,g3⟩,aI,V,J⟩:=l w aa ah β _ m.heap D Q (bA fr t ds (.inRegion ops (i::r)::k)::cs);subst H;refine⟨_,aD,aJ,_,w',j,?_,m.put G g1 g2 g3,g1.fw⟩;rw[<-nW C];exact(g7 (vA C M L q)).trans (g8 aI (.one (dq J)))
 ·rw[T.1]at q;obtain⟨x,w',S,⟨O,aJ,aD,H,g1,g2,g3⟩,aI,V,J⟩:=T.use ao m.heap D Q (bA fr t ds (.inRegion ops (i::r)::k)::cs);subst H;refine⟨_,aD,aJ,_,w',j,?_,m.put G g1 g2 g3,g1.fw⟩;rw[<-nW C];exact(g7 (vA C M L q)).trans (g8 aI (.one (dq J)))
 ·obtain⟨O,l,z⟩:=af s.heap w aa ah β _ m.heap D Q an;rw[l]at q;have A:=bZ.refl m.heap;exact⟨_,aa,β,_,w,j,.one (s9 C M L q (.inl rfl)),m.put G A (by simpa[aw]using z) (by simp[aC]),A.fw⟩
end
end Go.au
namespace Go.au
variable[Gl]
section
variable{P:c6}{ag:dk->Bool}{n N:Nat}
variable{fr:dp}{k:List Item}{cs:List dp}{ops:Array Oper}{i:Nat}{r:List Nat}{ds:List dl}
theorem VS{o:Oper}{f:da}{a:Array da}{p:Array c7}{b:Nat}{H':Heap}{v:AV}{K:St->Prop}{s:St}{ah aa:Nat->Prop}{β:Bd}{t:Array cR}{w:c8}
 (l:o.op=.call {callee:=.value f,args:=a,argTypes:=p})(hf:ev s.env f=.map b)(m:iY P b s.heap (a.toList.map (ev s.env)) H' v)(x:K ⟨put o.dst v s.env,H'⟩)
 (d:cU P n ah aa β s t w)(A:jB n o=true)(j:ops[i]?=some o)(D:gi o (yielded ops t)=true):
 kV P n N fr k cs ops ah aa w β s.heap (lone (bA fr t ds (.inRegion ops (i::r)::k)) cs w) r ds K:=by
 have e:=(oG d f).1;rw[hf]at e;simp only[aw,bO,bV]at e;have B:=e.2.2 m.1;obtain⟨y,z⟩:=vK d a.toList;have h:(dg (fO t) o).run P w=(e8 (β.al b) (a.toList.map (fO t)).toArray).run P w:=by
  simp only[dg,l,resolve,B,ew,gx,gy,gt,invoke];congr 2;exact cx s_
 have C:∀c,o.op≠.defer c:=fun c hc=>by rw[l]at hc;cases hc
 obtain⟨g,tmps,assign,body,q,u⟩:=m.2 w aa ah β _ d.heap y z;rw[q]at h;obtain⟨E,w',aJ,aD,g1,g2,g3,g4⟩:=u (bA fr t ds (.inRegion ops (i::r)::k)) cs;refine⟨_,aD,aJ,_,w',x,?_,d.put A g2 g3 g4,g2.fw⟩;rw[<-nW j];exact(g7 (KE j D C h)).trans g1
theorem L9(y:ma P ag){d:Bool}{o:Oper}{K:St->Prop}{s:St}{ah aa:Nat->Prop}{β:Bd}{t:Array cR}{w:c8}
 (h:kj P ag d o K s)(a:cU P n ah aa β s t w)(c:jB n o=true)(j:ops[i]?=some o)(l:gi o (yielded ops t)=true):
 kV P n N fr k cs ops ah aa w β s.heap (lone (bA fr t ds (.inRegion ops (i::r)::k)) cs w) r ds K:=by
 have E:=VB h;have z:fC P ag o (ev s.env) s.heap (fun e=>K (e.app o.dst s))->kV P n N fr k cs ops ah aa w β s.heap (lone (bA fr t ds (.inRegion ops (i::r)::k)) cs w) r ds K:=by
  intro h;obtain⟨e,m,hs,ak,aG⟩:=y o _ _ _ (fun v=>rfl) h;obtain⟨nx,I,w',aJ,aD,A,B,u,C,D⟩:=hs.use a.heap (fun x _=>oG a x) ak (fun p F=>(aG p F).1);exact⟨_,aD,aJ,_,w',m,.one (s9 j l E A B),a.put c u C D,u.fw⟩
 unfold kj at h
 split at h
 ·rename_i f args H q
  split at h
  ·rename_i g fi ca hf;exact Kt q (.inr ⟨fi,ca,hf,rfl,rfl⟩) h a c j l
  ·rename_i g fi ca hf;exact Kt q (.inl hf) h a c j l
  ·rename_i b hf;obtain⟨H',v,G,m⟩:=h;exact VS q hf G m a c j l
  ·exact h.elim
 ·exact z h
theorem kV.mono{m:ec}{K a:St->Prop}{ah aa:Nat->Prop}{w:c8}{β:Bd}{H:Heap}(h:kV P n N fr k cs ops ah aa w β H m r ds K)(hk:∀s,K s->a s):kV P n N fr k cs ops ah aa w β H m r ds a:=by
 obtain⟨s',aD,aJ,t',w',b,c⟩:=h;exact⟨s',aD,aJ,t',w',hk _ b,c⟩
theorem yG{s:St}{ah aa:Nat->Prop}{β:Bd}{t:Array cR}{w:c8}(e:cU P n ah aa β s t w)(l:∀o∈ops.toList,jB n o=true)(j:Nat):
 (∀b,guardOf ops j s.env=.p (.bool b)->yielded ops t j=some b)/\(guardOf ops j s.env=.p (.aE [])->yielded ops t j=none):=by
 unfold guardOf yielded;cases k:ops[j]? with
 |none=>simp
 |some f=>
  simp only[i6];cases g:f.dst with
  |none=>simp
  |some d=>
   simp only[i6];have h:d<t.size:=by
    have:=l f (by rw[b1];exact b4 k);unfold jB at this;rw[g]at this;rw[e.size];simpa using this
   have a:=e.env d;have i:t[d]?=some (t.getD d undef):=by simp[cv,h]
   rw[i];constructor
   ·intro b c;rw[c]at a;simp only[aw,aB]at a;rw[a]
   ·intro c;rw[c]at a;simp only[aw,aB,bm]at a;obtain⟨xs,rfl,a⟩:=a;rw[a]
theorem K9(f:ma P ag){d:Bool}(v:∀o∈ops.toList,jB n o=true):∀(l:List Oper)(i:Nat){K:St->Prop}{s:St}{ah aa:Nat->Prop}{β:Bd}{t:Array cR}{w:c8},
 ops.toList.drop i=l->iq P ag d ops l K s->cU P n ah aa β s t w->
 kV P n N fr k cs ops ah aa w β s.heap (lone (bA fr t ds (.inRegion ops (hT i l.length)::k)) cs w) [] ds K
 |[],i,K,s,ah,aa,β,t,w,hl,h,a=>⟨s,aa,β,t,w,h,g9 _ _,a,dM.refl _ _ _ _ _ _⟩
 |o::l,i,K,s,ah,aa,β,t,w,hl,h,a=>by
  have e:ops[i]?=some o:=by
   have:(ops.toList.drop i)[0]?=some o:=by rw[hl];rfl
   rw[List.getElem?_drop]at this;simpa using this
  have E:ops.toList.drop (i+1)=l:=by
   rw[<-h8,hl];rfl
  have u:jB n o=true:=v o (by rw[b1];exact b4 e);have g:∀{ah aa w β H}{m:ec},kV P n N fr k cs ops ah aa w β H m (hT (i+1) l.length) ds (iq P ag d ops l K)->kV P n N fr k cs ops ah aa w β H m [] ds K:=by
   intro ah aa w β H m D;obtain⟨s',aD,aJ,J,w',z,A,B,C⟩:=D;obtain⟨s2,y,I,t2,G,g1,g2,g3,g4⟩:=K9 f v l (i+1) E z B;exact⟨s2,y,I,t2,G,g1,A.trans g2,g3,C.trans g4⟩
  rw[hP,List.range'_succ]
  have skip:iq P ag d ops l K ⟨put o.dst (.p (.aE [])) s.env,s.heap⟩->gi o (yielded ops t)=false->
   kV P n N fr k cs ops ah aa w β s.heap (lone (bA fr t ds (.inRegion ops (i::hT (i+1) l.length)::k)) cs w) [] ds K:=by
   intro hk F;refine g ⟨_,aa,β,_,w,hk,.one (Ll e F),a.put u (bZ.refl a.heap) (by simp[aw,aB,bm,undef]) (by simp[aC]),dM.refl _ _ _ _ _ _⟩
  simp only[iq]at h
  split at h
  ·rename_i c;exact g (L9 f h a u e (by simp[gi,c]))
  ·rename_i j L c;obtain⟨g1,g2⟩:=yG a v j
   split at h
   ·rename_i b q;have x:=g1 b q
    split at h
    ·rename_i r;exact g (L9 f h a u e (by simp[gi,c,x,r]))
    ·rename_i r;exact skip h (by simp[gi,c,x,r])
   ·rename_i q;exact skip h (by simp[gi,c,g2 q])
   ·exact h.elim
theorem aKu{H:Heap}{b v:Nat}(h:H[b]?=none\/H[b]?=some .hole):¬aH H (b,v):=by
 rintro⟨o,a,c⟩;rcases h with h|h
 ·simp only at a;rw[h]at a;cases a
 ·simp only at a;rw[h]at a;cases a;exact c
theorem pS.step{s s':St}{β:Bd}(hf:pS s s'):cm β s.heap β s'.heap:=by
 refine⟨?_,?_,?_,?_,?_⟩
 ·rintro b _ ⟨fz,t,a⟩;rcases hf.heap b _ a with h|h|⟨_,k,z,h,_⟩|⟨v,v',h,_,_⟩
  ·cases h
  ·exact⟨⟨fz,t,h⟩,rfl⟩
  ·cases h
  ·exact⟨⟨_,_,h⟩,rfl⟩
 ·rintro b _ ⟨fz,t,a⟩;rcases hf.heap b _ a with h|h|⟨_,k,z,h,_⟩|⟨v,v',_,h,_⟩
  ·cases h
  ·exact⟨⟨fz,t,h⟩,rfl⟩
  ·cases h
  ·cases h
 ·rintro b _ ⟨o,a,c⟩;rcases hf.heap b _ a with h|h|⟨_,k,z,h,_⟩|⟨v,v',_,h,_⟩
  ·rw[h]at c;exact c.elim
  ·exact⟨⟨o,h,c⟩,rfl⟩
  ·rw[h]at c;exact c.elim
  ·rw[h]at c;exact c.elim
 ·intro b aq ai k d hi a;rcases hf.heap b _ a with h|h|⟨e,_⟩|⟨v,v',_,h,_⟩
  ·cases h
  ·exact⟨k,d,h,ii _,hp,fun _=>⟨rfl,rfl⟩⟩
  ·exact(aKu e hi).elim
  ·cases h
 ·rintro b _ ⟨L,a⟩;rcases hf.heap b _ a with h|h|⟨_,k,z,h,_⟩|⟨v,v',_,h,_⟩
  ·cases h
  ·exact⟨⟨L,h⟩,rfl⟩
  ·cases h
  ·cases h
section azp
variable{w:c8}{aa:Nat->Prop}{β:Bd}{T:Heap}
theorem Qc{b aq ai off len:Nat}(h:aq=0/\off=0/\len=0/\∃k z,T[b]?=some (.arr k 0 z [])/\k.gr=true):bO P β T (.sl b aq ai off len) (.slice none 0 0):=by
 obtain⟨rfl,rfl,rfl,k,z,a,c⟩:=h;refine⟨by simp[ha],fun e d hl=>?_⟩;unfold eA at hl;rw[a]at hl;cases hl;exact⟨s_,fun _=>rfl,fun h=>(h ⟨c,rfl⟩).elim⟩
mutual
theorem gp.cells:∀(v:PV)(x:AV)(cs:List cR),gp T v x->aV P w aa v cs->bp P w aa β T x cs
 | .aK,x,cs,h,hc=>by
  simp only[gp]at h;rcases h with rfl|h
  ·simpa only[bp]using hc
  ·cases x<;>simp only at h<;>try exact h.elim
   simp only[aV]at hc;simp only[bp];exact⟨_,hc,Qc h⟩
 | .st u fs,x,cs,h,hc=>by
  simp only[gp]at h;rcases h with rfl|h
  ·simpa only[bp]using hc
  ·cases x<;>simp only at h<;>try exact h.elim
   obtain⟨rfl,h⟩:=h;simp only[aV]at hc;obtain⟨l,a,d,e,f⟩:=hc;simp only[bp];exact⟨l,a,d,lJ.cells l fs _ a h e,f⟩
 | .undef,x,cs,h,hc| .bool _,x,cs,h,hc| .int _ _,x,cs,h,hc| .str _,x,cs,h,hc| .dc,x,cs,h,hc| .cA _,x,cs,h,hc| .bJ _ _,x,cs,h,hc| .seq _,x,cs,h,hc| .fM,x,cs,h,hc| .fq _,x,cs,h,hc| .func _ _ _,x,cs,h,hc| .iE,x,cs,h,hc| .gl,x,cs,h,hc| .aE _,x,cs,h,hc=>by
  simp only[gp]at h;subst h;simpa only[bp]using hc
theorem lJ.cells:∀(l:List Nat)(fs:List PV)(b:List AV)(a:List (List cR)),lJ T fs b->bg P w aa l fs a->bL P w aa β T l b a
 |l,[],b,a,h,hc=>by
  simp only[lJ]at h;subst h;cases l<;>simp_all [bL,bg]
 |l,v::vs,b,a,h,hc=>by
  cases b with
  |nil=>simp[lJ]at h
  |cons g b=>
   simp only[lJ]at h;cases l with
   |nil=>simp[bg]at hc
   |cons n l=>
    simp only[bg]at hc;obtain⟨c,cs,d,e,f,i⟩:=hc;simp only[bL];exact⟨c,cs,d,gp.cells v g c h.1 e,f,lJ.cells l vs b cs h.2 i⟩
end
theorem gp.F2(v:PV)(x:AV)(y:cR)(h:gp T v x)(hc:aB P w aa v y):aw P w aa β T x y:=by
 cases v
 case aK=>
  simp only[gp]at h;rcases h with rfl|h
  ·simpa only[aw]using hc
  ·cases x<;>simp only at h<;>try exact h.elim
   simp only[aB]at hc;subst hc;simp only[aw];exact Qc h
 case st u fs=>
  simp only[gp]at h;rcases h with rfl|h
  ·simpa only[aw]using hc
  ·cases x<;>simp only at h<;>try exact h.elim
   obtain⟨rfl,h⟩:=h;simp only[aB]at hc;obtain⟨l,a,b,c,d⟩:=hc;simp only[aw];exact⟨l,a,b,lJ.cells l fs _ a h c,d⟩
 all_goals simp only[gp]at h;subst h;simpa only[aw]using hc
mutual
theorem Gh.cells:∀(v x:AV)(cs:List cR),Gh T v x->bp P w aa β T v cs->bp P w aa β T x cs
 | .p v,x,cs,h,hc=>by simp only[Gh]at h;simp only[bp]at hc;exact gp.cells v x cs h hc
 | .st u fs,x,cs,h,hc=>by
  simp only[Gh]at h;cases x<;>simp only at h<;>try exact h.elim
  obtain⟨rfl,h⟩:=h;simp only[bp]at hc⊢;obtain⟨l,a,d,e,f⟩:=hc;exact⟨l,a,d,mN.cells l fs _ a h e,f⟩
 | .ptr _ _,x,cs,h,hc| .b8 _ _ _ _ _,x,cs,h,hc| .sl _ _ _ _ _,x,cs,h,hc| .map _,x,cs,h,hc| .func _ _ _,x,cs,h,hc| .aE _,x,cs,h,hc=>by simp only[Gh]at h;subst h;exact hc
theorem mN.cells:∀(l:List Nat)(fs b:List AV)(a:List (List cR)),mN T fs b->bL P w aa β T l fs a->bL P w aa β T l b a
 |l,[],b,a,h,hc=>by simp only[mN]at h;subst h;exact hc
 |l,v::vs,b,a,h,hc=>by
  cases b with
  |nil=>simp[mN]at h
  |cons g b=>
   simp only[mN]at h;cases l with
   |nil=>simp[bL]at hc
   |cons n l=>
    simp only[bL]at hc⊢;obtain⟨c,cs,d,e,f,i⟩:=hc;exact⟨c,cs,d,Gh.cells v g c h.1 e,f,mN.cells l vs b cs h.2 i⟩
end
theorem Gh.F2(v x:AV)(y:cR)(h:Gh T v x)(hc:aw P w aa β T v y):aw P w aa β T x y:=by
 cases v
 case p v=>simp only[Gh]at h;simp only[aw]at hc;exact gp.F2 v x y h hc
 case st u fs=>
  simp only[Gh]at h;cases x<;>simp only at h<;>try exact h.elim
  obtain⟨rfl,h⟩:=h;simp only[aw]at hc⊢;obtain⟨l,a,b,c,d⟩:=hc;exact⟨l,a,b,mN.cells l fs _ a h c,d⟩
 all_goals simp only[Gh]at h;subst h;exact hc
theorem gp.aL{v:PV}{x:AV}(h:gp T v x):ad x=au.aL v:=by
 cases v
 case aK=>
  simp only[gp]at h;rcases h with rfl|h
  ·rfl
  ·cases x<;>simp only at h<;>first|exact h.elim|rfl
 case st u fs=>
  simp only[gp]at h;rcases h with rfl|h
  ·rfl
  ·cases x<;>simp only at h<;>try exact h.elim
   simp[ad,au.aL,h.1]
 all_goals simp only[gp]at h;subst h;rfl
theorem Gh.aL{v x:AV}(h:Gh T v x):ad x=ad v:=by
 cases v
 case p v=>simp only[Gh]at h;exact h.aL
 case st u fs=>
  simp only[Gh]at h;cases x<;>simp only at h<;>try exact h.elim
  simp[ad,h.1]
 all_goals simp only[Gh]at h;subst h;rfl
end azp
theorem bE.fw{s s':St}{β:Bd}{ah aa:Nat->Prop}{w:c8}(hf:bE N s s'):dM N ah aa w β s.heap ah aa w β s'.heap:=by
 rcases hf with rfl|hf
 ·exact dM.refl _ _ _ _ _ _
 ·exact⟨fun _ h=>h,fun _ h=>h,fun _ h=>.inl h,Ext.refl _ _ _,hf.1.step.n,fun x hn⟨o,d,c⟩=>⟨o,by rw[hf.2 _ hn];exact d,c⟩,fun b hn⟨L,a⟩=>⟨L,by rw[hf.2 _ hn];exact a⟩⟩
theorem pS.rel{s s':St}{ah aa:Nat->Prop}{β:Bd}{t:Array cR}{w:c8}(hf:pS s s')(h:cU P n ah aa β s t w):cU P n ah aa β s' t w:=by
 have aI:cm β s.heap β s'.heap:=hf.step;refine⟨⟨?_,?_,hf.hrefs,h.heap.bX,h.heap.eX,h.heap.jD⟩,fun x=>?_,hf.gV,h.size⟩
 ·intro b o E;rcases hf.heap b o E with rfl|i|⟨_,k,z,rfl,hk⟩|⟨v,v',i,rfl,q⟩
  ·trivial
  rotate_left
  ·exact .inl ⟨hk,rfl⟩
  ·have d:=h.heap.cS b _ i;have g:=h.heap.refs b _ i;obtain⟨cs,T,a,c,e,l,C⟩:=d;exact⟨cs,T,a,Gh.cells _ _ _ q (bp.mono (fun _ x=>x) (fun _ _=>rfl) aI _ _ g c),e,(fun h=>by cases h),by rw[q.aL];exact C⟩
  ·have d:=h.heap.cS b o i;have g:=h.heap.refs b o i;cases o with
   |hole=>trivial
   |dead=>trivial
   |box fz t=>
    obtain⟨cs,T,a,c,e⟩:=d;exact⟨cs,T,a,bp.mono (fun _ x=>x) (fun _ _=>rfl) aI _ _ g c,e⟩
   |arr k aq ai es=>
    rcases d with d|⟨cs,T,A,rest,a,c,e⟩
    ·exact .inl d
    ·exact .inr ⟨cs,T,A,rest,a,bL.mono (fun _ x=>x) (fun _ _=>rfl) aI _ _ _ g c,e⟩
   |map fz es=>exact d
   |cQ ks vs=>
    obtain⟨B,clock,a,c,e,l⟩:=d;exact⟨B,clock,a,c,br.mono (fun _ x=>x) (fun _ _=>rfl) aI _ _ g e,l⟩
   |dD s pos=>exact d
   |loop L=>
    obtain⟨tmps,defers,fn,a,c,e,l⟩:=d;exact⟨tmps,defers,fn,a,c,fun x=>aw.mono (fun _ x=>x) (fun _ _=>rfl) aI _ _ (g x) (e x),l⟩
 ·intro x y H I a c m p D f;have u:∀{z:Nat}{o:Obj},s'.heap[z]?=some o->o.live->∃o',s.heap[z]?=some o'/\o'.live:=by
   intro z o j hl;rcases hf.heap z o j with rfl|j|⟨_,k,_,rfl,hk⟩|⟨v,v',j,_,_⟩
   ·exact hl.elim
   ·exact⟨o,j,hl⟩
   ·exact(hl ⟨hk,rfl⟩).elim
   ·exact⟨_,j,trivial⟩
  obtain⟨F,a,m⟩:=u a m;obtain⟨G,c,p⟩:=u c p;exact h.heap.inj x y F G a c m p D f
 ·have r:=aw.mono (fun _ x=>x) (fun _ _=>rfl) aI _ _ (h.gV x) (h.env x);rcases hf.env x with f|f|f
  ·rw[f];exact r
  ·rw[f];simp[aw,aB]
  ·exact Gh.F2 _ _ _ f r
theorem bE.rel{s s':St}{ah aa:Nat->Prop}{β:Bd}{t:Array cR}{w:c8}(hf:bE N s s')(h:cU P n ah aa β s t w):cU P n ah aa β s' t w:=by
 rcases hf with rfl|hf
 ·exact h
 ·exact hf.1.rel h
def nw(P:c6)(fr:dp)(k:List Item)(cs:List dp)(m:ec)(t:Array cR)(ds:List dl)(w:c8):bw->Prop
 | .normal=>ea P m (lone (bA fr t ds k) cs w)
 | .exit id=>∃a,exitTo id a=exitTo id k/\ea P m (lone (bA fr t ds (.code (.exit id)::a)) cs w)
 | .ret=>∃a,ea P m (lone (bA fr t ds (.code .ret::a)) cs w)
theorem nw.of_steps{m f:ec}{t:Array cR}{ds:List dl}{w:c8}{e:bw}(h:ea P m f)(c:nw P fr k cs f t ds w e):nw P fr k cs m t ds w e:=by
 cases e with
 |normal=>exact h.trans c
 |exit id=>obtain⟨d,a,b⟩:=c;exact⟨d,a,h.trans b⟩
 |ret=>obtain⟨d,b⟩:=c;exact⟨d,h.trans b⟩
def mark(r:Nat):dl:={target:=.collected r,args:=#[]}
def Marks(fr:dp)(ah:Nat->Prop)(w:c8)(kL aD:Nat->Prop)(w':c8)(b c:List dl):Prop:=
 ∃a:List Nat,c=a.map mark++b/\a.Nodup/\(∀r∈a,w.heap.size<=r/\kL r/\¬aD r/\w'.heap[r]?=some (.deferred (some [])))/\(∀k,kL k->ah k\/k∈a)/\(fr.roundOf.isSome=true->a=[])
theorem Marks.refl(fr:dp)(ah aD:Nat->Prop)(w w':c8)(ds:List dl):Marks fr ah w ah aD w' ds ds:=⟨[],rfl,List.nodup_nil,s_,fun _ h=>.inl h,fun _=>rfl⟩
theorem Marks.trans{fr:dp}{N:Nat}{ah aa d e g f:Nat->Prop}{w w1 l:c8}{β p B:Bd}{H H1 q:Heap}{ds m n:List dl}(h:Marks fr ah w d e w1 ds m)(i:dM N ah aa w β H d e w1 p H1)
 (s:Marks fr d w1 g f l m n)(j:dM N d e w1 p H1 g f l B q):Marks fr ah w g f l ds n:=by
 obtain⟨rs,rfl,t,o,u,v⟩:=h;obtain⟨A,rfl,g2,g3,g4,g5⟩:=s;refine⟨A++rs,s_,?_,?_,?_,fun hx=>by simp[v hx,g5 hx]⟩
 ·rw[List.nodup_append];refine⟨g2,t,fun a i b y x=>?_⟩;subst x;have C:=(g3 a i).1;have D:=(bk.1 (o a y).2.2.2).1;omega
 ·intro r c;rcases hQ.1 c with c|c
  ·obtain⟨k1,k2⟩:=g3 r c;exact⟨iz i.ext.size k1,k2⟩
  ·obtain⟨k1,k2,k3,k4⟩:=o r c;exact⟨k1,j.eX _ k2,fun hx=>(j.fresh _ hx).elim k3 (fun z=>z k2),(j.ext.same _ (.inl k2)).trans k4⟩
 ·intro k hk;rcases g4 k hk with hk|hk
  ·rcases u k hk with hk|hk
   ·exact .inl hk
   ·exact .inr (by simp[hk])
  ·exact .inr (by simp[hk])
def rF(N:Nat)(fr:dp)(β:Bd)(H:Heap):Prop:=∀l,fr.roundOf=some l->∃b,b<N/\ie H b/\β.al b=l
theorem rF.fw{fr:dp}{β aJ:Bd}{H H':Heap}{ah aa kL aD:Nat->Prop}{w w':c8}(h:rF N fr β H)(e:dM N ah aa w β H kL aD w' aJ H'):rF N fr aJ H':=by
 intro l hl;obtain⟨b,a,c,f⟩:=h l hl;have d:=e.loop b a c;obtain⟨L,g⟩:=c;exact⟨b,a,d,((e.step.loop b a ⟨_,g,trivial⟩ d).2).trans f⟩
def qN(P:c6)(n N:Nat)(fr:dp)(k:List Item)(cs:List dp)(ah aa:Nat->Prop)(w:c8)(β:Bd)(H:Heap)(m:ec)(c:List dl)(Q:bw->St->Prop):Prop:=
 ∃e s' kL aD aJ b w' a,Q e s'/\nw P fr k cs m b a w' e/\cU P n kL aD aJ s' b w'/\dM N ah aa w β H kL aD w' aJ s'.heap/\Marks fr ah w kL aD w' c a
theorem qN.of{k:List Item}{ah aa:Nat->Prop}{w:c8}{β:Bd}{H:Heap}{m:ec}{ds:List dl}{Q:bw->St->Prop}{e:bw}{s':St}{aD:Nat->Prop}{aJ:Bd}{a:Array cR}{w':c8}(hq:Q e s')(hl:nw P fr k cs m a ds w' e)
 (c:cU P n ah aD aJ s' a w')(b:dM N ah aa w β H ah aD w' aJ s'.heap):qN P n N fr k cs ah aa w β H m ds Q:=⟨e,s',ah,aD,aJ,a,w',ds,hq,hl,c,b,Marks.refl _ _ _ _ _ _⟩
theorem qN.next{k:List Item}{ah aa b a:Nat->Prop}{w c:c8}{β i:Bd}{H H1:Heap}{m g:ec}{d e:List dl}{Q:bw->St->Prop}(f:dM N ah aa w β H b a c i H1)(p:Marks fr ah w b a c d e)(aI:ea P m g)
 (h:qN P n N fr k cs b a c i H1 g e Q):qN P n N fr k cs ah aa w β H m d Q:=by
 obtain⟨e2,s2,l,j,r,t2,q,o,g1,g2,g3,g4,g5⟩:=h;exact⟨e2,s2,l,j,r,t2,q,o,g1,.of_steps aI g2,g3,f.trans g4,p.trans f g5 g4⟩
def codeOk(fit:Nat->Array Oper->Bool)(n:Nat):Code->Bool
 | .region _ ops draw=>ops.toList.all (jB n)&&(!draw||fit n ops)
 | .seq a b=>codeOk fit n a&&codeOk fit n b
 | .cond _ a b=>codeOk fit n a&&codeOk fit n b
 | .block _ b| .scope b| .loop b=>codeOk fit n b
 | .rangeFunc _ _ a b=>codeOk fit n a&&codeOk fit n b
 |_=>true
def tz(P:c6)(ag:dk->Bool)(fit:Nat->Array Oper->Bool):Prop:=
 ∀(n N:Nat)(a:Array Oper)(fr:dp)(k:List Item)(cs:List dp)(b:List dl)(c:Nat)(K:St->Prop)(s:St)(ah aa:Nat->Prop)(β:Bd)(t:Array cR)(w:c8),
  fit n a=true->(∀o∈a.toList,jB n o=true)->gI P ag a a.toList 0 [] K s->cU P n ah aa β s t w->
  kV P n N fr k cs a ah aa w β s.heap (lone (bA fr t b (.inRegion a (gj (P.follows .mixedOrders) a c)::k)) cs w) [] b K
theorem cU.draw{s:St}{ah aa:Nat->Prop}{β:Bd}{t:Array cR}{w w':c8}(a:w'.heap=w.heap)(h:cU P n ah aa β s t w):cU P n ah aa β s t w':=
 ⟨h.heap.vQ a,fun x=>aw.mono (fun _ x=>x) (fun _ _=>by rw[a]) (cm.refl _ _) _ _ (h.gV x) (h.env x),h.gV,h.size⟩
section rf
variable{w w':c8}{aa ah:Nat->Prop}{β:Bd}{H:Heap}
theorem b7.L4(h:b7 P w aa β H ah){x:Nat}(hx:x<w.heap.size)(u:∀(b:Nat)(o:Obj),H[b]?=some o->o.live->β.al b≠x):b7 P w aa β H (fun k=>ah k\/k=x):=by
 refine⟨fun b o l=>?_,h.inj,h.refs,h.bX,fun k hk=>hk.elim (h.eX k) (fun e=>e▸hx),h.jD⟩;have held:∀fz,o.live->cC aa β ah fz b->cC aa β (fun k=>ah k\/k=x) fz b:=by
  intro fz hl i;unfold cC at i⊢;cases fz with
  |true=>exact i
  |false=>exact⟨i.1,fun v=>v.elim i.2 (u b o l hl)⟩
 have f:=h.cS b o l;cases o with
 |hole=>trivial
 |dead=>trivial
 |box fz t=>obtain⟨cs,T,a,c,d,g⟩:=f;exact⟨cs,T,a,c,held _ trivial d,g⟩
 |arr k aq ai es=>
  rcases f with f|⟨cs,T,m,rest,a,c,d,g,n,p,q,r⟩
  ·exact .inl f
  ·by_cases hl:di k es
   ·exact .inl hl
   ·exact .inr ⟨cs,T,m,rest,a,c,d,g,n,p,held _ hl q,r⟩
 |map fz es=>obtain⟨j,clock,a,c,d⟩:=f;exact⟨j,clock,a,c,held _ trivial d⟩
 |cQ ks vs=>obtain⟨j,clock,a,c,d,g⟩:=f;exact⟨j,clock,a,c,d,held _ trivial g⟩
 |dD s pos=>obtain⟨bs,a,c,d⟩:=f;exact⟨bs,a,c,held _ trivial d⟩
 |loop L=>obtain⟨tmps,defers,fn,a,c,d,g⟩:=f;exact⟨tmps,defers,fn,a,c,d,held _ trivial g⟩
theorem b7.shut(h:b7 P w aa β H ah){Prot0:Nat->Prop}(q:∀k,Prot0 k->ah k){R:Nat->Prop}(m:∀x,R x->ah x/\¬aa x)(r:w'.heap.size=w.heap.size)(hs:∀k,¬R k->w'.heap[k]?=w.heap[k]?):b7 P w' aa β H Prot0:=by
 have same:∀k,aa k->w'.heap[k]?=w.heap[k]?:=fun k hk=>hs k (fun i=>(m k i).2 hk);refine⟨fun b o p=>?_,h.inj,h.refs,fun k hk=>r▸h.bX k hk,fun k hk=>r▸h.eX k (q k hk),h.jD.mono (fun _ x=>x) same⟩;have held:∀fz,cC aa β ah fz b->cC aa β Prot0 fz b:=by
  intro fz f;unfold cC at f⊢;cases fz with
  |true=>exact f
  |false=>exact⟨f.1,fun A=>f.2 (q _ A)⟩
 have al:∀fz,cC aa β ah fz b->w'.heap[β.al b]?=w.heap[β.al b]?:=by
  intro fz f;refine hs _ (fun i=>?_);unfold cC at f;cases fz with
  |true=>exact(m _ i).2 f
  |false=>exact f.2 (m _ i).1
 have g:=h.cS b o p;have j:=h.refs b o p;cases o with
 |hole=>trivial
 |dead=>trivial
 |box fz t=>obtain⟨cs,T,c,d,a,e⟩:=g;exact⟨cs,T,(al _ a).trans c,bp.mono (fun _ x=>x) same (cm.refl _ _) _ _ j d,held _ a,e⟩
 |arr k aq ai es=>
  rcases g with g|⟨cs,T,u,rest,c,d,a,e,v,y,n,z⟩
  ·exact .inl g
  ·exact .inr ⟨cs,T,u,rest,(al _ n).trans c,bL.mono (fun _ x=>x) same (cm.refl _ _) _ _ _ j d,a,e,v,y,held _ n,z⟩
 |map fz es=>obtain⟨l,clock,c,d,a⟩:=g;exact⟨l,clock,(al _ a).trans c,cF.mono (fun _ x=>x) same _ _ d,held _ a⟩
 |cQ ks vs=>obtain⟨l,clock,c,d,a,e⟩:=g;exact⟨l,clock,(al _ e).trans c,bm.mono (fun _ x=>x) same _ _ d,br.mono (fun _ x=>x) same (cm.refl _ _) _ _ j a,held _ e⟩
 |dD s pos=>obtain⟨bs,c,d,a⟩:=g;exact⟨bs,(al _ a).trans c,d,held _ a⟩
 |loop L=>obtain⟨tmps,defers,fn,c,d,a,e⟩:=g;exact⟨tmps,defers,fn,(al _ e).trans c,d,fun x=>aw.mono (fun _ x=>x) same (cm.refl _ _) _ _ (j x) (a x),held _ e⟩
theorem DN(H:Heap)(o:Obj):(H++ht 1 Obj.hole).set H.length o=H++[o]:=by
 rw[h0 _ _ (ii _)];simp
theorem M8(a:b7 P w aa β H ah){L:fD}{tmps:Array cR}{defers fn:Nat}(h:tmps.size=L.n)(l:∀x,aw P w aa β H (aN L.env x) (tmps.getD x undef))(c:∀x,aC (aH H) (aN L.env x)):
 bZ P ah aa w β H aa (w.alloc (.loop {state:=L.st,pending:=L.pending,fn,tmps,params:=L.params.toArray,assign:=L.assign,body:=L.body,defers})) (β.at H.length w.heap.size 0) (H++[.loop L]):=by
 have d:bZ P ah aa w β H aa w β (H++ht 1 .hole):=⟨fun _ x=>x,fun _ x=>.inl x,Ext.refl _ _ _,pg _ _ _,a.nA _,mY _ _,fun b⟨L,e⟩=>⟨L,by rw[kM,if_pos (hr.1 e).1];exact e⟩⟩
 have f:(H++ht 1 Obj.hole)[H.length]?=some .hole:=by rw[kM];simp
 have aI:=(pg β H 1)
 have j:=yW (β:=β) f (.loop L) w.heap.size 0;have hrefs:∀x,aC (aH ((H++ht 1 Obj.hole).set H.length (.loop L))) (aN L.env x):=by
  intro x;rw[DN];exact aC.mono (fun y m=>LI m) _ (c x)
 have g:=tD (cap:=0) d.rel f (ob:=.loop {state:=L.st,pending:=L.pending,fn,tmps,params:=L.params.toArray,assign:=L.assign,body:=L.body,defers}) (o':=.loop L)
  ⟨tmps,defers,fn,by simp[Bd.at],h,fun x=>aw.mono (fun _ x=>x) (fun k hk=>vD w _ (a.bX k hk)) j _ _ (aC.mono (mY _ _) _ (c x)) (aw.mono (fun _ x=>x) (fun _ _=>rfl) aI _ _ (c x) (l x)),?_⟩ hrefs
 ·rw[DN]at g;exact d.trans g
 ·unfold cC;simp only[cE,if_false,Bd.at,if_true];exact⟨fun hi=>by have:=a.bX _ hi;omega,fun i=>by have:=a.eX _ i;omega⟩
theorem Dg(g:b7 P w aa β H ah){b:Nat}{L:fD}(a:H[b]?=some (.loop L))(st:LoopState)(d:Option Code):
 ∃rec:Loop,w.heap[β.al b]?=some (.loop rec)/\rec.state=L.st/\rec.pending=L.pending/\rec.params=L.params.toArray/\rec.assign=L.assign/\rec.body=L.body/\rec.tmps.size=L.n/\(∀x,aw P w aa β H (aN L.env x) (rec.tmps.getD x undef))/\
  bZ P ah aa w β H aa (w.putObj (β.al b) (.loop {rec with state:=st,pending:=d})) β (H.set b (.loop {L with st:=st,pending:=d})):=by
 obtain⟨tmps,defers,fn,p,q,r,c⟩:=g.cS b _ a;refine⟨_,p,rfl,rfl,rfl,rfl,rfl,q,r,?_⟩;have v:=(bk.1 p).1;have s:=(hr.1 a).1;unfold cC at c;simp only[cE,if_false]at c;have aI:cm β H β (H.set b (.loop {L with st:=st,pending:=d})):=by
  have j:∀(x:Nat)(o:Obj),(H.set b (Obj.loop {L with st:=st,pending:=d}))[x]?=some o->(∀i,o≠Obj.loop i)->H[x]?=some o:=by
   intro x o m y
   by_cases hx:b=x
   ·subst hx;rw[hv s]at m;cases m;exact(y _ rfl).elim
   ·rwa [hw hx]at m
  refine⟨?_,?_,?_,?_,?_⟩
  ·rintro x _ ⟨f,t,h⟩;exact⟨⟨f,t,j _ _ h s_⟩,rfl⟩
  ·rintro x _ ⟨f,t,h⟩;exact⟨⟨f,t,j _ _ h s_⟩,rfl⟩
  ·rintro x _ ⟨z,h,l⟩;exact⟨⟨z,j _ _ h (fun i e=>by rw[e]at l;exact l.elim),l⟩,rfl⟩
  ·intro x aq ai k u _ h;exact⟨k,u,j _ _ h s_,ii _,hp,fun _=>⟨rfl,rfl⟩⟩
  ·rintro x _ ⟨i,h⟩;refine⟨?_,rfl⟩
   by_cases hx:b=x
   ·subst hx;exact⟨L,a⟩
   ·rw[hw hx]at h;exact⟨i,h⟩
 have ak:∀x,aH H x->aH (H.set b (Obj.loop {L with st:=st,pending:=d})) x:=ml a (fun _ _=>trivial);have same:∀k,aa k->(w.putObj (β.al b) (.loop {state:=st,pending:=d,fn,tmps,params:=L.params.toArray,assign:=L.assign,body:=L.body,defers})).heap[k]?=w.heap[k]?:=fun k hk=>hd (fun e=>c.1 (e▸hk));refine bZ.set g s (fun _ _=>⟨rfl,rfl⟩) (fun _ x=>x) (fun _ x=>.inl x) (fun k hk=>by simpa using g.bX k hk) s_
  (fun k hk _=>hd (hk.resolve_right (fun h=>h trivial))) (fun _=>.inr ⟨rfl,⟨_,a,trivial⟩,.inr c.1,c.2⟩) aI
  ⟨tmps,defers,fn,World.putObj_heap_same v,q,fun x=>aw.mono (fun _ x=>x) same aI _ _ (g.refs b _ a x) (r x),?_⟩ (fun x=>aC.mono ak _ (g.refs b _ a x)) (fun _ _ _ _=>trivial) (fun _ _=>⟨_,rfl⟩)
 unfold cC;simpa using c
end rf
theorem W2{s:St}{ah aa:Nat->Prop}{β:Bd}{t:Array cR}{w:c8}(c:cU P n ah aa β s t w)(F:rF N fr β s.heap)(e:Array Tmp)(a b:Code)(p:List dl){f:Env}(g:∀x,aN f x=aN s.env x):
 ∃l mk i m j,(Instr.enterLoop fr.fn t e a b fr.roundOf).run P w=.ok (l,mk) i/\b7 P i aa j (s.heap++[.loop ⟨.ready,none,n,e.toList,a,b,f⟩]) m/\j.al s.heap.length=l/\
  dM N ah aa w β s.heap m aa i j (s.heap++[.loop ⟨.ready,none,n,e.toList,a,b,f⟩])/\Marks fr ah w m aa i p (mk++p)/\
  cm β s.heap j (s.heap++[.loop ⟨.ready,none,n,e.toList,a,b,f⟩]):=by
 cases v:fr.roundOf with
 |none=>
  have q:bZ P ah aa w β s.heap aa (w.alloc (.deferred (some []))) β s.heap:=c.heap.later (fun _ x=>x) (fun _ x=>.inl x) (fun k hk=>by have:=c.heap.bX k hk;rw[hg];omega) (by rw[hg];omega) (fun k hk=>vD w _ hk);have D:=q.rel.L4 (x:=w.heap.size) (by rw[hg];omega) (fun b o G hl g=>by have:=c.heap.oD G hl;omega);have d:=M8 (L:=⟨.ready,none,n,e.toList,a,b,f⟩) (tmps:=t) (defers:=w.heap.size) (fn:=fr.fn) D c.size (fun x=>by rw[g];exact aw.mono (fun _ x=>x) (fun k hk=>vD w _ (c.heap.bX k hk)) (cm.refl _ _) _ _ (c.gV x) (c.env x)) (fun x=>by rw[g];exact c.gV x);have C:dM N ah aa w β s.heap (fun k=>ah k\/k=w.heap.size) aa (w.alloc (.deferred (some []))) β s.heap:=⟨fun _ h=>.inl h,fun _ h=>h,fun _ h=>.inl h,q.ext,(cm.refl _ _).n,fun _ _ h=>h,fun _ _ h=>h⟩
  refine⟨_,_,_,_,_,run_enterLoop_outer fr.fn t e a b,d.rel,?_,C.trans d.fw,?_,d.step⟩
  ·simp[Bd.at,hg]
  ·refine⟨[w.heap.size],rfl,s_,?_,fun k hk=>hk.imp id (fun h=>by simp[h]),by simp[v]⟩;intro r u;simp only[List.mem_singleton]at u;subst u;refine⟨ii _,.inr rfl,fun hi=>by have:=c.heap.bX _ hi;omega,?_⟩;exact(d.ext.same _ (.inl (.inr rfl))).trans (World.alloc_heap_new w _)
 |some H=>
  obtain⟨y,K,A,B⟩:=F H v;obtain⟨I,E⟩:=A;obtain⟨M,z,J,g1,_⟩:=c.heap.cS y _ E;rw[B]at g1;have d:=M8 (L:=⟨.ready,none,n,e.toList,a,b,f⟩) (tmps:=t) (defers:=z) (fn:=fr.fn) c.heap c.size (fun x=>by rw[g];exact c.env x) (fun x=>by rw[g];exact c.gV x);exact⟨_,_,_,_,_,run_enterLoop_inner g1 fr.fn t e a b,d.rel,by simp[Bd.at],d.fw,Marks.refl _ _ _ _ _ _,d.step⟩
theorem mV(M:ma P ag){fit:Nat->Array Oper->Bool}(K:tz P ag fit):∀(c:Code)(k:List Item){Q:bw->St->Prop}{s:St}{ah aa:Nat->Prop}{β:Bd}{t:Array cR}{w:c8}{ds:List dl},
 codeOk fit n c=true->cg P ag (n,N) c Q s->cU P n ah aa β s t w->rF N fr β s.heap->qN P n N fr k cs ah aa w β s.heap (lone (bA fr t ds (.code c::k)) cs w) ds Q
 | .skip,k,Q,s,ah,aa,β,t,w,ds,_,h,i,_=>.of h (.one aL6:nw P fr k cs _ t ds w .normal) i (dM.refl _ _ _ _ _ _)
 | .label l,k,Q,s,ah,aa,β,t,w,ds,_,h,i,_=>.of h (.one Yp:nw P fr k cs _ t ds w .normal) i (dM.refl _ _ _ _ _ _)
 | .exit id,k,Q,s,ah,aa,β,t,w,ds,_,h,i,_=>.of h (⟨k,rfl,g9 _ _⟩:nw P fr k cs _ t ds w (.exit id)) i (dM.refl _ _ _ _ _ _)
 | .ret,k,Q,s,ah,aa,β,t,w,ds,_,h,i,_=>.of h (⟨k,g9 _ _⟩:nw P fr k cs _ t ds w .ret) i (dM.refl _ _ _ _ _ _)
 | .region id ops draw,k,Q,s,ah,aa,β,t,w,ds,z,h,i,_=>by
  simp only[codeOk,cN,h4]at z;simp only[cg]at h;cases draw with
  |false=>
   simp only[cE,if_false]at h;obtain⟨s',aD,aJ,ay,w',j,r,q,d⟩:=K9 (fr:=fr) (k:=k) (cs:=cs) (ds:=ds) (N:=N) M z.1 ops.toList 0 s_ h i;refine .of (e:=.normal) j ?_ q d;have e:ih ops.size=hT 0 ops.toList.length:=by rw[List.range_eq_range'];simp
   exact(g7 Xv).trans ((by rw[e];exact r:ea P _ _).trans (.one JB))
  |true=>
   simp only[if_true]at h;have a1:cU P n ah aa β s t {w with drawn:=w.drawn+1}:=cU.draw (w:=w) (w':={w with drawn:=w.drawn+1}) rfl i;obtain⟨s',aD,aJ,ay,w',j,r,q,d⟩:=K n N ops fr k cs ds (w.tape w.drawn (.order fr.fn id)) _ s ah aa β t _ (by simpa using z.2) z.1 h a1;exact .of (e:=.normal) j ((g7 aL2).trans (r.trans (.one JB)):nw P fr k cs _ ay ds w' .normal) q ⟨d.eX,d.bX,d.fresh,⟨d.ext.size,d.ext.same,d.ext.io⟩,d.step,d.fG,d.loop⟩
 | .seq a b,k,Q,s,ah,aa,β,t,w,ds,z,h,i,D=>by
  simp only[codeOk,cN]at z;simp only[cg]at h;obtain⟨e,s1,p,C,A,t1,o,E,j,r,q,d,B⟩:=mV M K a (.code b::k) z.1 h i D;cases e with
  |normal=>exact .next d B ((g7 D3).trans r) (mV M K b k z.2 j q (D.fw d))
  |exit id=>
   obtain⟨F,O,a2⟩:=r;exact⟨.exit id,s1,p,C,A,t1,o,E,j,⟨F,O.trans (by simp[exitTo]),(g7 D3).trans a2⟩,q,d,B⟩
  |ret=>
   obtain⟨F,a2⟩:=r;exact⟨.ret,s1,p,C,A,t1,o,E,j,⟨F,(g7 D3).trans a2⟩,q,d,B⟩
 | .cond c a b,k,Q,s,ah,aa,β,t,w,ds,z,h,i,D=>by
  simp only[codeOk,cN]at z;simp only[cg]at h
  split at h
  ·rename_i az aK;have ao:=(oG i c).1;rw[aK]at ao;simp only[aw,aB]at ao;have aI:=aL1 (P:=P) (fr:=fr) (ds:=ds) (k:=k) (cs:=cs) (w:=w) (x:=a) (y:=b) ao;cases az with
   |true=>exact .next (dM.refl N ah aa w β s.heap) (Marks.refl _ _ _ _ _ _) (.one (by simpa using aI)) (mV M K a k z.1 (by simpa using h) i D)
   |false=>exact .next (dM.refl N ah aa w β s.heap) (Marks.refl _ _ _ _ _ _) (.one (by simpa using aI)) (mV M K b k z.2 (by simpa using h) i D)
  ·exact h.elim
 | .block id b,k,Q,s,ah,aa,β,t,w,ds,z,h,i,D=>by
  simp only[codeOk]at z;simp only[cg]at h;obtain⟨e,s1,p,C,A,t1,o,E,j,r,q,d,B⟩:=mV M K b (.inBlock id::k) z h i D;cases e with
  |normal=>exact⟨.normal,s1,p,C,A,t1,o,E,j,(g7 y6).trans (r.trans (.one Xa)),q,d,B⟩
  |exit ad=>
   obtain⟨F,O,a2⟩:=r;dsimp only at j
   split at j
   ·rename_i hid;subst hid;refine⟨.normal,s1,p,C,A,t1,o,E,j,(g7 y6).trans (a2.trans (.one (aL3 ?_))),q,d,B⟩;rw[O];simp[exitTo]
   ·rename_i hid;exact⟨.exit ad,s1,p,C,A,t1,o,E,j,⟨F,O.trans (by simp[exitTo,i5 hid]),(g7 y6).trans a2⟩,q,d,B⟩
  |ret=>
   obtain⟨F,a2⟩:=r;exact⟨.ret,s1,p,C,A,t1,o,E,j,⟨F,(g7 y6).trans a2⟩,q,d,B⟩
 | .scope b,k,Q,s,ah,aa,β,t,w,ds,z,h,i,D=>by
  simp only[codeOk]at z;simp only[cg]at h;obtain⟨e,s1,p,C,A,t1,o,E,j,r,q,d,B⟩:=mV M K b (.inScope b::k) z h i D;cases e with
  |normal=>exact⟨.normal,s1,p,C,A,t1,o,E,j,(g7 C2).trans (r.trans (.one W9)),q,d,B⟩
  |exit ad=>
   obtain⟨F,O,a2⟩:=r;exact⟨.exit ad,s1,p,C,A,t1,o,E,j,⟨F,O.trans (by simp[exitTo]),(g7 C2).trans a2⟩,q,d,B⟩
  |ret=>
   obtain⟨F,a2⟩:=r;exact⟨.ret,s1,p,C,A,t1,o,E,j,⟨F,(g7 C2).trans a2⟩,q,d,B⟩
 | .loop b,k,Q,s,ah,aa,β,t,w,ds,z,h,i,D=>by
  simp only[codeOk]at z;simp only[cg]at h;obtain⟨I,⟨m0,t0,hf,hI⟩,a4⟩:=h
  have loop:∀(m:Nat)(u:St)(ah aa:Nat->Prop)(β:Bd)(t:Array cR)(w:c8)(ds:List dl),I m u->cU P n ah aa β u t w->rF N fr β u.heap->
   qN P n N fr k cs ah aa w β u.heap (lone (bA fr t ds (.code b::.inLoop b::k)) cs w) ds Q:=by
   intro m
   induction m using Nat.strongRecOn with
   |_ m a7=>
    intro u ah aa β t w ds hI i D;obtain⟨e,s1,p,C,A,t1,o,E,j,r,q,d,B⟩:=mV M K b (.inLoop b::k) z (a4 m u hI) i D;cases e with
    |normal=>
     obtain⟨a8,u',aZ,ar,aA⟩:=j;have ac:=ar.fw (β:=A) (ah:=p) (aa:=C) (w:=o);exact .next (d.trans ac) B (g8 r (.one Xw)) (a7 a8 aZ u' p C A t1 o E aA (ar.rel q) ((D.fw d).fw ac))
    |exit ad=>
     obtain⟨F,O,a2⟩:=r;exact⟨.exit ad,s1,p,C,A,t1,o,E,j,⟨F,O.trans (by simp[exitTo]),a2⟩,q,d,B⟩
    |ret=>
     obtain⟨F,a2⟩:=r;exact⟨.ret,s1,p,C,A,t1,o,E,j,⟨F,a2⟩,q,d,B⟩
  have ac:=hf.fw (β:=β) (ah:=ah) (aa:=aa) (w:=w);exact .next ac (Marks.refl _ _ _ _ _ _) (.one aL4) (loop m0 t0 ah aa β t w ds hI (hf.rel i) (D.fw ac))
 | .rangeFunc f G a b,k,Q,s,ah,aa,β,t,w,ds,z,h,i,D=>by
  simp only[cg]at h;obtain⟨bc,R,aU,h⟩:=h;have Y:=oG i f
  obtain⟨g,fi,ca,J,H,aW,aV,aN,av,au,ab,v,aX,af⟩:∃g fi ca,∃J H:List cR,fO t f= .func (.func g) J.toArray H.toArray/\br P w aa β s.heap fi J/\br P w aa β s.heap ca H/\aR (aH s.heap) fi/\aR (aH s.heap) ca/\
   ∃ab v,bW P g (s.heap++[.loop ⟨.ready,none,n,G.toList,a,b,R⟩]) (fi++[.map s.heap.length]++ca) ab v/\jy s.heap.length s.env Q ab:=by
   unfold kz at h
   split at h
   ·rename_i g fi ca hf;rw[hf]at Y;simp only[aw,aB]at Y;obtain⟨⟨J,H,j,r,q⟩,_⟩:=Y;exact⟨g,_,_,J,H,q,j0.2 j,j0.2 r,jw _ _,jw _ _,h⟩
   ·rename_i g fi ca hf;rw[hf]at Y;simp only[aw,aC]at Y;obtain⟨⟨J,H,j,r,q⟩,d,B⟩:=Y;exact⟨g,fi,ca,J,H,q,j,r,d,B,h⟩
   ·exact h.elim
  obtain⟨l,mk,o,p,A,e1,e2,e3,e4,e5,ai⟩:=W2 (fr:=fr) i D G a b ds aU;obtain⟨aS,aO⟩:=aX;have ak:∀x,aH s.heap x->aH (s.heap++[.loop ⟨.ready,none,n,G.toList,a,b,R⟩]) x:=fun x hx=>LI hx;have an:∀k,aa k->o.heap[k]?=w.heap[k]?:=fun k hk=>e4.ext.same k (.inr hk);have a5:aw P o aa A (s.heap++[.loop ⟨.ready,none,n,G.toList,a,b,R⟩]) (.map s.heap.length) (.func (.yield l) #[] #[]):=by
   simp only[aw,bO,bV];refine⟨by simp[ha],fun W=>?_,fun _=>by rw[e3]⟩;obtain⟨be,ap,W⟩:=W;simp at ap;subst ap;exact W.elim
  have a6:aC (aH (s.heap++[.loop ⟨.ready,none,n,G.toList,a,b,R⟩])) (.map s.heap.length):=by
   simp only[aC];exact⟨.loop ⟨.ready,none,n,G.toList,a,b,R⟩,s_,trivial⟩
  have aG:=pj (pj (br.mono (fun _ x=>x) an ai _ _ av aV) (b:=[.map s.heap.length]) (y:=[.func (.yield l) #[] #[]]) (by simp only[br];exact⟨_,_,rfl,a5,rfl⟩)) (br.mono (fun _ x=>x) an ai _ _ au aN);have aF:=ku (ku (aR.mono ak _ av) (b:=[.map s.heap.length]) (by simp only[aR];exact⟨a6,trivial⟩)) (aR.mono ak _ au);have aY:(invoke (.fn (.func g) H.toArray) (J.toArray++#[.func (.yield l) #[] #[]])).run P o=.ok (.enter g (J++[(.func (.yield l) #[] #[]:cR)]++H).toArray) o:=by
   have:=aS (J++[(.func (.yield l) #[] #[]:cR)]++H).toArray o;simp only[invoke];rw[<-this];congr 2;simp
  have a3:(resolve (Act.eval ⟨t,ds⟩) (rangeCall f l) 0).run P o=.ok (⟨.fn (.func g) H.toArray,J.toArray++#[.func (.yield l) #[] #[]]⟩:dl) o:=by
   have al:(Act.eval ⟨t,ds⟩) f=fO t f:=by cases f<;>rfl
   have aP:(rangeCall f l).args.map (Act.eval ⟨t,ds⟩)=#[.func (.yield l) #[] #[]]:=by simp[Act.eval]
   simp only[resolve,aP];simp only[al,aW,ew];rfl
  have aT:=stepR_rangeFunc (P:=P) (b:=fr) (a:=⟨t,ds⟩) (k:=k) (cs:=cs) (w:=w) (g:=f) (ps:=G) (assign:=a) (body:=b) e1 a3 aY;obtain⟨e,ae,bb,⟨ba,X,U,al,g1,g2,g3⟩,aI,bd,a0⟩:=aO o aa p A _ e2 aG aF (fr.atR ⟨t,mk++ds⟩ (.inRangeFunc l::k)::cs);subst al;unfold jy at af
  split at af
  case h_2=>exact af.elim
  rename_i L aq;obtain⟨aM,Z⟩:=af;obtain⟨rec,r1,r2,a9,bf,bg,bh,bi,bj,ax⟩:=Dg g1.rel aq .exhausted L.pending;have aE:aH (s.heap++[.loop ⟨.ready,none,n,G.toList,a,b,R⟩]) (s.heap.length,0):=⟨.loop ⟨.ready,none,n,G.toList,a,b,R⟩,s_,trivial⟩
  have aL:X.al s.heap.length=l:=((g1.step.loop _ aE ⟨_,aq⟩).2).trans e3;rw[aL]at r1 ax;have aQ:=run_endLoop (P:=P) r1 (by rw[r2];exact aM);have S:ea P (lone (bA fr t ds (.code (.rangeFunc f G a b)::k)) cs w) (lone (bA fr t (mk++ds) ((rec.pending.map Item.code).toList++k)) cs (ae.putObj l (.loop {rec with state:=.exhausted}))):=by
   refine(g7 aT).trans (g8 aI ?_);refine(g7 (dq a0)).trans ?_;rw[finish_atR_inRangeFunc];exact .one (stepR_endRangeFunc aQ)
  have S:ea P (lone (bA fr t ds (.code (.rangeFunc f G a b)::k)) cs w) (lone (bA fr t (mk++ds) ((L.pending.map Item.code).toList++k)) cs (ae.putObj l (.loop {rec with state:=.exhausted,pending:=L.pending}))):=by
   rw[<-a9];exact S
  have V:bZ P p aa o A (s.heap++[.loop ⟨.ready,none,n,G.toList,a,b,R⟩]) U _ X _:=g1.trans ax;have am:cU P n p U X ⟨s.env,ab.set s.heap.length (.loop {L with st:=.exhausted})⟩ t (ae.putObj l (.loop {rec with state:=.exhausted,pending:=L.pending})):=by
   refine⟨V.rel,fun x=>?_,fun x=>?_,i.size⟩
   ·exact aw.mono V.bX (fun k hk=>V.ext.same k (.inr hk)) V.step _ _ (aC.mono ak _ (i.gV x)) (aw.mono (fun _ x=>x) an ai _ _ (i.gV x) (i.env x))
   ·exact aC.mono V.fG _ (aC.mono ak _ (i.gV x))
  have aj:dM N ah aa w β s.heap p U (ae.putObj l (.loop {rec with state:=.exhausted,pending:=L.pending})) X (ab.set s.heap.length (.loop {L with st:=.exhausted})):=e4.trans V.fw;have W:Marks fr ah w p U (ae.putObj l (.loop {rec with state:=.exhausted,pending:=L.pending})) ds (mk++ds):=e5.trans e4 (Marks.refl _ _ _ _ _ _) V.fw;unfold kX at Z
  split at Z
  ·rename_i T;rw[T]at S;exact⟨.normal,_,p,U,X,t,_,mk++ds,Z,by rw[T];exact S,am,aj,W⟩
  ·rename_i id T;rw[T]at S;exact⟨.exit id,_,p,U,X,t,_,mk++ds,Z,⟨k,rfl,by rw[T];exact S⟩,am,aj,W⟩
  ·rename_i T;rw[T]at S;exact⟨.ret,_,p,U,X,t,_,mk++ds,Z,⟨k,by rw[T];exact S⟩,am,aj,W⟩
  ·exact Z.elim
 | .goto _,_,_,_,_,_,_,_,_,_,_,h,_,_| .refuse _,_,_,_,_,_,_,_,_,_,_,h,_,_=>by simp[cg]at h
end
end Go.au
namespace Go.au
variable[Gl]
def jg(i:Nat):List AV->Env
 |[]=>[]
 |v::r=>(i,v)::jg (i+1) r
def pQ(P:c6)(s:St):eb->Option AV
 | .tmp t=>some (aN s.env t)
 | .cell a T=>match aN s.env a with
  | .ptr b path=>match s.heap[b]? with
   |some (.box _ t)=>match fc t path with
    |some v=>if kindOf P T=ad v then some v else none
    |none=>none
   |_=>none
  |_=>none
def fS(P:c6)(s:St):List eb->Option (List AV)
 |[]=>some []
 |r::rs=>match pQ P s r,fS P s rs with
  |some v,some vs=>some (v::vs)
  |_,_=>none
def oneOf:List AV->AV
 |[v]=>v
 |vs=>match eZ vs with
  |some l=>.p (.aE l)
  |none=>.aE vs
def jE(f:AV->Option PV):List AV->Option (List PV)
 |[]=>some []
 |v::vs=>match f v,jE f vs with
  |some p,some a=>some (p::a)
  |_,_=>none
def eD(H:Heap):Nat->AV->Option PV
 |0,.p v=>some v
 |0,_=>none
 |n+1,x=>match x with
  | .p v=>some v
  | .sl b aq ai off len=>match H[b]? with
   |some (.arr k e c es)=>
    if aq=e/\ai=c/\off+len<=es.length then
     if k.gr=true/\es=[]then some .aK else
     match jE (eD H n) ((es.drop off).take len)with
     |some d=>some (.bJ (k== .exact&&off+len==es.length) d)
     |none=>none
    else none
   |_=>none
  | .ptr b path=>match H[b]? with
   |some (.box _ t)=>match fc t path with
    |some s=>match eD H n s with
     |some p=>some (.cA p)
     |none=>none
    |none=>none
   |_=>none
  | .map b=>match H[b]? with
   |some (.map _ es)=>some (.fq es)
   |_=>none
  | .func f fi ca=>match jE (eD H n) fi,jE (eD H n) ca with
   |some a,some b=>some (.func f a b)
   |_,_=>none
  | .st u fs=>match jE (eD H n) fs with
   |some l=>some (.st u l)
   |none=>none
  | .aE vs=>match jE (eD H n) vs with
   |some l=>some (.aE l)
   |none=>none
  | .b8 _ _ _ _ _=>none
section
variable{P:c6}{w:c8}{aa ah:Nat->Prop}{β:Bd}{H:Heap}
def Ae(aa:Nat->Prop)(β:Bd)(H:Heap)(k:Nat):Prop:=aa k\/∃(b:Nat)(o:Obj),H[b]?=some o/\o.live/\β.al b=k
theorem L3:∀{n:Nat}{v:AV}{p:PV},eD H n v=some p->(ad v=aL p)
 |0,v,p,h=>by
  cases v<;>simp[eD]at h;subst h;rfl
 |n+1,v,p,h=>by
  cases v<;>simp only[eD]at h
  case p v=>simp at h;subst h;rfl
  case b8=>simp at h
  case sl b aq ai off len=>
   split at h
   ·split at h
    ·split at h
     ·simp at h;subst h;rfl
     ·split at h
      ·simp at h;subst h;rfl
      ·simp at h
    ·simp at h
   ·simp at h
  case ptr b path=>
   split at h
   ·split at h
    ·split at h
     ·simp at h;subst h;rfl
     ·simp at h
    ·simp at h
   ·simp at h
  all_goals
   split at h
   ·simp at h;subst h;rfl
   ·simp at h
theorem Kz{v:AV}{p:PV}{cs:List cR}(hs:ad v=aL p)(hc:bp P w aa β H v cs){I:Nat->Prop}(h:∀x,aw P w aa β H v x->aB P w I p x):aV P w I p cs:=by
 cases a:ad v with
 |bad=>exact((oh hc).2 a).elim
 |leaf=>
  obtain⟨c,rfl,b⟩:=(C8 a cs).1 hc;exact(tH (hs▸a) _).2 ⟨c,rfl,h _ b⟩
 |agg u=>exact(wA (hs▸a) cs).2 (h _ ((OP a cs).1 hc))
section lists
variable{f:AV->Option PV}{I:Nat->Prop}(hf:∀v p,f v=some p->ad v=aL p/\(aC (aH H) v->∀x,aw P w aa β H v x->aB P w I p x))
include hf
theorem yS:∀{vs:List AV}{a:List PV},jE f vs=some a->aR (aH H) vs->∀b,br P w aa β H vs b->bm P w I a b
 |[],a,h,_,b,hx=>by
  simp[jE]at h;subst h;simpa[br,bm]using hx
 |v::vs,a,h,c,b,hx=>by
  simp only[jE]at h
  split at h
  case h_2=>simp at h
  rename_i q qs hq d;simp at h;subst h;simp only[aR]at c;simp only[br]at hx;obtain⟨y,e,rfl,k1,k2⟩:=hx;simp only[bm];exact⟨y,e,rfl,(hf _ _ hq).2 c.1 _ k1,yS d c.2 _ k2⟩
theorem Cr:∀{vs:List AV}{b:List PV},jE f vs=some b->aR (aH H) vs->∀l a,bL P w aa β H l vs a->bg P w I l b a
 |[],b,h,_,l,a,hx=>by
  simp[jE]at h;subst h;cases l<;>simp_all [bL,bg]
 |v::vs,b,h,d,l,a,hx=>by
  simp only[jE]at h
  split at h
  case h_2=>simp at h
  rename_i q qs hq e;simp at h;subst h;simp only[aR]at d;cases l with
  |nil=>simp[bL]at hx
  |cons m l=>
   simp only[bL]at hx;obtain⟨c,cs,rfl,k1,k2,k3⟩:=hx;simp only[bg];exact⟨c,cs,rfl,Kz (hf _ _ hq).1 k1 ((hf _ _ hq).2 d.1),k2,Cr e d.2 _ _ k3⟩
end lists
theorem yC(e:b7 P w aa β H ah):∀(n:Nat)(v:AV)(p:PV),eD H n v=some p->aC (aH H) v->∀x,aw P w aa β H v x->aB P w (Ae aa β H) p x
 |0,v,p,h,_,x,hx=>by
  cases v<;>simp[eD]at h;subst h;simp only[aw]at hx;exact aB.mono (fun _=>.inl) (fun _ _=>rfl) _ _ hx
 |n+1,v,p,h,g,x,hx=>by
  have hf:∀v p,eD H n v=some p->ad v=aL p/\(aC (aH H) v->∀x,aw P w aa β H v x->aB P w (Ae aa β H) p x):=fun v p h=>⟨L3 h,yC e n v p h⟩
  cases v<;>simp only[eD]at h
  case p v=>
   simp at h;subst h;simp only[aw]at hx;exact aB.mono (fun _=>.inl) (fun _ _=>rfl) _ _ hx
  case b8=>simp at h
  case sl b aq ai off len=>
   split at h
   case h_2=>simp at h
   rename_i k ac X y d
   split at h
   case isFalse=>simp at h
   rename_i K;obtain⟨rfl,rfl,hl⟩:=K;simp only[aw]at hx;obtain⟨_,hx⟩:=hx;simp only[bV]at hx;obtain⟨v1,v2,v3⟩:=hx k y d
   split at h
   ·rename_i r;simp at h;subst h;simp[aB,v2 r]
   ·rename_i r
    split at h
    case h_2=>simp at h
    rename_i V N;simp at h;subst h;rw[v3 r];rcases e.cS b _ d with hold|⟨cs,T,B,rest,i,j,A,F,Y,G,Z,ab⟩
    ·exact(r hold).elim
    obtain⟨a,m,c,e1,e2,e3,e4,e5⟩:=kx j off len v1;have Q:aR (aH H) ((y.drop off).take len):=by
     have:=e.refs b _ d;rw[cO];intro v R;exact cO.1 this v (List.mem_of_mem_drop (List.mem_of_mem_take R))
    have L:((y.drop off).take len).length=len:=by simp;omega
    have k1:=Cr hf N Q _ _ e2;have z:V.length=len:=by have:=(vu k1).2.1;simp at this;omega
    simp only[aB];refine⟨β.al b,off*ai,β.cap b-off,ai,m,by rw[z,<-L];exact k1,fun _=>.inr ⟨b,_,d,r,rfl⟩,?_,?_,?_,none,.inl rfl,?_⟩
    ·rw[<-e3];exact mc i (post:=c.flatten++rest) (by rw[A,e1];simp)
    ·intro hf;simp at hf;rw[z,G hf.1];omega
    ·rw[z];omega
    ·rw[z]
  case ptr b path=>
   split at h
   case h_2=>simp at h
   rename_i fz t d
   split at h
   case h_2=>simp at h
   rename_i s hs
   split at h
   case h_2=>simp at h
   rename_i q hq;simp at h;subst h;simp only[aw]at hx;obtain⟨_,hx⟩:=hx;simp only[bV]at hx;obtain⟨W,U,o,rfl,M,hx⟩:=hx;obtain⟨rfl,rfl⟩:=hx (.inl ⟨fz,_,d⟩);obtain⟨cs,T,i,j,A,F⟩:=e.cS b _ d;obtain⟨pre,xs,post,e1,e2,e3,_⟩:=pH j hs M;have O:aC (aH H) s:=vN hs (e.refs b _ d);simp only[aB];refine⟨β.al b,U,xs,Kz (L3 hq) e3 (yC e n _ _ hq O),.inr ⟨b,_,d,trivial,rfl⟩,?_,rfl⟩;rw[<-e2];exact mc i e1
  case map b=>
   split at h
   case h_2=>simp at h
   rename_i fz y d;simp at h;subst h;simp only[aw]at hx;obtain⟨_,hx⟩:=hx;simp only[bV]at hx;have hx:=hx.1 ⟨_,d,trivial⟩;obtain⟨D,clock,i,j,A⟩:=e.cS b _ d;simp only[aB];exact⟨β.al b,D,clock,.inr ⟨b,_,d,trivial,rfl⟩,i,cF.mono (fun _=>.inl) (fun _ _=>rfl) _ _ j,hx⟩
  case func f a b=>
   split at h
   case h_2=>simp at h
   rename_i a' b' I J;simp at h;subst h;simp only[aC]at g;simp only[aw]at hx;obtain⟨E,C,k1,k2,k3⟩:=hx;simp only[aB];exact⟨E,C,yS hf I g.1 _ k1,yS hf J g.2 _ k2,k3⟩
  case st u fs=>
   split at h
   case h_2=>simp at h
   rename_i l hl;simp at h;subst h;simp only[aC]at g;simp only[aw]at hx;obtain⟨S,B,k1,k2,k3⟩:=hx;simp only[aB];exact⟨S,B,k1,Cr hf hl g _ _ k2,k3⟩
  case aE vs=>
   split at h
   case h_2=>simp at h
   rename_i l hl;simp at h;subst h;simp only[aC]at g;simp only[aw]at hx;obtain⟨xs,k1,k2⟩:=hx;simp only[aB];exact⟨xs,yS hf hl g _ k1,k2⟩
end
section
variable{P:c6}{ag:dk->Bool}{fit:Nat->Array Oper->Bool}
theorem Cp:∀(args:List AV)(i x:Nat),aN (jg i args) x=if i<=x then(args[x-i]?).getD (.p .undef)else .p .undef
 |[],i,x=>by simp[jg,aN]
 |v::r,i,x=>by
  simp only[jg,aN,Cp r]
  by_cases h:x=i
  ·subst h;simp
  ·by_cases b:i<=x
   ·have a:i+1<=x:=by omega
    simp only[h,b,a,if_true,if_false];rw[show x-i=(x-(i+1))+1 by omega,hX]
   ·have a:¬i+1<=x:=by omega
    simp[h,b,a]
theorem tI{w:c8}{aa:Nat->Prop}{β:Bd}{H:Heap}:∀{vs:List AV}{xs:List cR},br P w aa β H vs xs->xs.length=vs.length/\∀i:Nat,aw P w aa β H ((vs[i]?).getD (.p .undef)) ((xs[i]?).getD undef)
 |[],xs,h=>by simp only[br]at h;subst h;simp[aw,aB]
 |v::vs,xs,h=>by
  simp only[br]at h;obtain⟨y,c,rfl,a,b⟩:=h;have:=tI b;refine⟨by simp[this.1],fun i=>?_⟩;cases i with
  |zero=>simpa using a
  |succ i=>simpa using this.2 i
theorem Xu{ah aa:Nat->Prop}{β:Bd}{w:c8}{H:Heap}{args:List AV}{a:List cR}{n:Nat}(f:b7 P w aa β H ah)(d:br P w aa β H args a)(g:aR (aH H) args)(i:args.length<=n):
 cU P n ah aa β ⟨jg 0 args,H⟩ (a.toArray++bl (n-a.length) undef) w:=by
 obtain⟨b,c⟩:=tI d;refine⟨f,fun x=>?_,fun x=>?_,by simp[b];omega⟩
 ·have e:(a.toArray++bl (n-a.length) undef).getD x undef=(a[x]?).getD undef:=by
   rw[bo,<-bv];simp only[Array.toList_append,Array.toList_replicate]
   by_cases hx:x<a.length
   ·rw[hG (by simpa using hx)]
   ·rw[hM (by simpa using hx)];simp only[hC];rw[List.getElem?_eq_none (by simpa using hx)]
    split<;>rfl
  rw[e,Cp];simpa using c x
 ·rw[Cp];simp only[Nat.zero_le,if_true,Nat.sub_zero];cases h:args[x]? with
  |none=>simp[aC]
  |some v=>exact cO.1 g v (hE h)
theorem JO{w:c8}{aa:Nat->Prop}{β:Bd}{H:Heap}{T:c7}{v:AV}{al off:Nat}{a:List cR}(hk:kindOf P T=ad v)(f:bp P w aa β H v a)(hc:ic w al off a):
 ∃g,(loadVar T ⟨al,off,none⟩).run P w=.ok g w/\aw P w aa β H v g:=by
 obtain⟨hl,n⟩:=oh f;have m:∀j,(⟨al,off,none⟩:Addr).add j=⟨al,off+j,none⟩:=by intro j;unfold Addr.add;split<;>simp_all
 unfold kindOf at hk;cases hs:ad v with
 |bad=>exact(n hs).elim
 |leaf=>
  rw[hs]at hk;obtain⟨c,rfl,e⟩:=(C8 hs a).1 f;refine⟨c,?_,e⟩;have h:=hc 0 s_;simp only[i0,List.getElem_cons_zero]at h;have b:(isAgg T).run P w=.ok false w:=by
   cases hu:P.underlying T with
   |none=>simp[hu]at hk
   |some d=>
    cases d<;>simp only[hu]at hk<;>first
     |(simp[isAgg,c9 hu];done)
     |(split at hk<;>simp at hk)
  simp[loadVar,b,h]
 |agg u=>
  rw[hs]at hk;have e:=(OP hs a).1 f;refine⟨.agg a.toArray,?_,e⟩;have b:(isAgg T).run P w=.ok true w/\P.cellsOf T=a.length:=by
   rw[hl,hs];cases hu:P.underlying T with
   |none=>simp[hu]at hk
   |some d=>
    cases d<;>simp only[hu]at hk<;>first
     |(split at hk
       ·rename_i hc;simp at hk;subst hk;simp at hc;refine⟨by simp[isAgg,c9 hu],hc.2⟩
       ·simp at hk)
     |(split at hk<;>simp at hk)
  obtain⟨i,hi⟩:∃i,P.info? T=some i:=by
   cases hi:P.info? T with
   |none=>
    have l:=b.1;simp[isAgg,underlying,ge,hi]at l
   |some i=>exact⟨i,rfl⟩
  have p:(sizeOf T).run P w=.ok a.length w:=by
   rw[<-b.2];simp[sizeOf,typeInfo,hi,gc]
  have o:=run_loadCells_list (P:=P) w ⟨al,off,none⟩ a (fun j x hx=>by
   rw[m];have k:j<a.length:=(hr.1 hx).1;rw[hc j k];rw[hA k]at hx;exact hx)
  simp[loadVar,b.1,p,o]
theorem Xh{n:Nat}{ah aa:Nat->Prop}{β:Bd}{s:St}{t:Array cR}{w:c8}(h:cU P n ah aa β s t w){g:eb}{v:AV}(c:pQ P s g=some v):
 ∃e,(match g with
  | .tmp x=>(pure (t.getD x undef):Sem cR)
  | .cell a T=>do loadVar T (<-asAddr (t.getD a undef))).run P w=.ok e w/\aw P w aa β s.heap v e/\aC (aH s.heap) v:=by
 cases g with
 |tmp x=>
  simp[pQ]at c;subst c;exact⟨_,rfl,h.env x,h.gV x⟩
 |cell a T=>
  simp only[pQ]at c;have d:=h.env a
  split at c
  case h_2=>simp at c
  rename_i b B k;rw[k]at d
  split at c
  case h_2=>simp at c
  rename_i fz r f
  split at c
  case h_2=>simp at c
  rename_i v' hs
  split at c
  case isFalse=>simp at c
  rename_i hc;simp at c;subst c;simp only[aw]at d;obtain⟨_,d⟩:=d;simp only[bV]at d;obtain⟨y,q,o,p,m,d⟩:=d;obtain⟨rfl,rfl⟩:=d (.inl ⟨fz,r,f⟩);obtain⟨cs,u,i,j,z,A⟩:=h.heap.cS b _ f;obtain⟨pre,xs,post,e1,e2,e3,_⟩:=pH j hs m;have l:ic w (β.al b) q xs:=by rw[<-e2];exact mc i e1
  obtain⟨e,k1,k2⟩:=JO hc e3 l;refine⟨e,?_,k2,vN hs (h.heap.refs b _ f)⟩;simp only[p,asAddr];simp[k1]
theorem JR{n:Nat}{ah aa:Nat->Prop}{β:Bd}{s:St}{t:Array cR}{w:c8}(h:cU P n ah aa β s t w):∀{d:List eb}{vs:List AV},fS P s d=some vs->
 ∃c:List cR,(d.mapM (fun i:eb=>match i with
  | .tmp x=>(pure (t.getD x undef):Sem cR)
  | .cell a T=>do loadVar T (<-asAddr (t.getD a undef)))).run P w=.ok c w/\br P w aa β s.heap vs c/\aR (aH s.heap) vs
 |[],vs,b=>by
  simp[fS]at b;subst b;exact⟨[],s_,by simp[br],by simp[aR]⟩
 |r::d,vs,b=>by
  simp only[fS]at b
  split at b
  case h_2=>simp at b
  rename_i v j f g;simp at b;subst b;obtain⟨e,k1,k2,k3⟩:=Xh h f;obtain⟨c,g1,g2,g3⟩:=JR h g;refine⟨e::c,?_,by simp only[br];exact⟨e,c,rfl,k2,g2⟩,by simp only[aR];exact⟨k3,g3⟩⟩;simp only[h7,gx,k1,gt,g1];rfl
theorem Lb{w:c8}{aa:Nat->Prop}{β:Bd}{H:Heap}{vs:List AV}{a:List cR}(h:br P w aa β H vs a)(b:aR (aH H) vs):
 aw P w aa β H (oneOf vs) (if h:a.toArray.size=1 then a.toArray[0]else .tuple a.toArray)/\aC (aH H) (oneOf vs):=by
 have hl:=(tI h).1
 match vs,a,h with
 |[v],[c],h=>
  simp only[br]at h;obtain⟨y,i,f,d,g⟩:=h;cases f;simp only[aR]at b;exact⟨by simpa[oneOf]using d,by simpa[oneOf]using b.1⟩
 |[],[],h=>exact⟨by simp[oneOf,eZ,aw,aB,bm],by simp[oneOf,eZ,aC]⟩
 |v1::v2::vs,c1::c2::a,h=>
  have hs:¬(c1::c2::a).toArray.size=1:=s_
  rw[dif_neg hs];simp only[oneOf];cases e:eZ (v1::v2::vs)with
  |none=>exact⟨by simp only[aw];exact⟨_,h,rfl⟩,by simpa only[aC]using b⟩
  |some l=>
   have:=mi e;rw[this]at h;exact⟨by simp only[aw,aB];exact⟨_,j0.1 h,rfl⟩,by simp[aC]⟩
 |[],_::_,_=>simp at hl
 |[_],[],_=>simp at hl
 |[_],_::_::_,_=>simp at hl
 |_::_::_,[],_=>simp at hl
 |_::_::_,[_],_=>simp at hl
theorem takes{fr:dp}{cs:List dp}(c:fr.mode= .returning):∀(a:List Nat)(w:c8),a.Nodup->(∀r∈a,w.heap[r]?=some (.deferred (some [])))->
 ∃w',ea P (lone {fr with defers:=a.map mark} cs w) (lone {fr with defers:=[]} cs w')/\w'.heap.size=w.heap.size/\(∀k,k∉a->w'.heap[k]?=w.heap[k]?)/\(w'.os=w.os/\w'.output=w.output)
 |[],w,_,_=>⟨w,g9 _ _,rfl,fun _ _=>rfl,rfl,rfl⟩
 |r::a,w,b,h=>by
  rw[List.nodup_cons]at b;have f:=h r s_;have hk:=run_takeDeferred (P:=P) f;have m:=(bk.1 f).1;obtain⟨w',g,i,j,l⟩:=takes c a (w.putObj r (.deferred none)) b.2 (fun x hx=>(hd (fun(e:x=r)=>b.1 (e▸hx))).trans (h x (by simp[hx])));refine⟨w',(g7 (step_collected (fr:={fr with defers:=(r::a).map mark}) (d:=mark r) (ds:=a.map mark) (by simp[c]) rfl rfl hk)).trans g,by simpa using i,fun k hk=>?_,l⟩;simp only[List.mem_cons,not_or]at hk;exact(j k hk.2).trans (hd hk.1)
theorem J9{N:Nat}{f:dk}{fn:Func}{c:Code}(A:ma P ag)(z:tz P ag fit)(hf:P.funcs[f]?=some fn)(G:fn.body=some c)(M:codeOk fit fn.ntmps c=true)
 {args:List AV}{H:Heap}{R:List AV->St->Prop}(K:args.length<=fn.ntmps)
 (T:cg P ag (fn.ntmps,N) c (fun e s=>(match e with
  | .exit _=>False
  |_=>True)/\∃vs,fS P s fn.results.toList=some vs/\R vs s) ⟨jg 0 args,H⟩)
 {w:c8}{aa ah:Nat->Prop}{β:Bd}{d:List cR}(i:b7 P w aa β H ah)(u:br P w aa β H args d)(O:aR (aH H) args):
 en P f d.toArray w fun e w'=>∃vs s a aD aJ t,e=.returned (if h:a.toArray.size=1 then a.toArray[0]else .tuple a.toArray)/\R vs s/\cU P fn.ntmps ah aD aJ s t w'/\dM N ah aa w β H ah aD w' aJ s.heap/\
  br P w' aD aJ s.heap vs a/\aR (aH s.heap) vs:=by
 intro cs;have X:=(tI u).1;obtain⟨g,j⟩:∃g:dp,g={fn:=f,tmps:=#[],todo:=[],defers:=[],mode:=.run,kind:=.normal}:=⟨_,rfl⟩
 have I:eL P f d.toArray .normal=bA g (d.toArray++bl (fn.ntmps-d.length) undef) [] [.code c]:=by
  subst j;simp[eL,bA,hf,G]
 obtain⟨e,s,V,aD,aJ,t,p,W,⟨B,vs,C,D⟩,o,m,b,E⟩:=mV (fr:=g) (cs:=cs) (ds:=[]) A z c [] M T (Xu i u O K) (fun l hl=>by subst j;cases hl);obtain⟨rs,v,L,n,Y,_⟩:=E;rw[h6]at v;subst v;rw[I]
 have q:∀todo,ea P (lone (bA g (d.toArray++bl (fn.ntmps-d.length) undef) [] [.code c]) cs w) (lone {bA g t (rs.map mark) todo with mode:= .returning} cs p)->
  ∃e w' fr,(∃vs s a aD aJ t,e=.returned (if h:a.toArray.size=1 then a.toArray[0]else .tuple a.toArray)/\R vs s/\cU P fn.ntmps ah aD aJ s t w'/\dM N ah aa w β H ah aD w' aJ s.heap/\
   br P w' aD aJ s.heap vs a/\aR (aH s.heap) vs)/\Comes P (lone (bA g (d.toArray++bl (fn.ntmps-d.length) undef) [] [.code c]) cs w) (lone fr cs w') e/\fr.fn=f/\fr.leaving P w' e:=by
  intro todo aI;obtain⟨w',t1,t2,t3,t4⟩:=takes (P:=P) (fr:={bA g t (rs.map mark) todo with mode:=.returning}) (cs:=cs) rfl rs p L (fun r i=>(n r i).2.2.2);have S:∀k,aD k->w'.heap[k]?=p.heap[k]?:=fun k hk=>t3 k (fun i=>(n k i).2.2.1 hk);have y:cU P fn.ntmps ah aD aJ s t w':=⟨m.heap.shut b.eX (R:=fun k=>k∈rs) (fun x hx=>⟨(n x hx).2.1,(n x hx).2.2.1⟩) t2 t3,fun x=>aw.mono (fun _ x=>x) S (cm.refl _ _) _ _ (m.gV x) (m.env x),m.gV,m.size⟩
  have F:dM N ah aa w β H ah aD w' aJ s.heap:=⟨fun _ x=>x,b.bX,b.fresh,⟨by rw[t2];exact b.ext.size,fun k hk=>(t3 k (fun J=>by
   have:=(n k J).1;have:=hk.elim (i.eX k) (i.bX k);omega)).trans (b.ext.same k hk),t4.1.trans b.ext.io.1,t4.2.trans b.ext.io.2⟩,b.step,b.fG,b.loop⟩
  obtain⟨a,g1,g2,g3⟩:=JR y C;have Q:(results fn t).run P w'=.ok (if h:a.toArray.size=1 then a.toArray[0]else .tuple a.toArray) w':=by
   simp only[results];rw[b3];rw[gx,g0]
   erw [g1]
   rfl
  refine⟨_,w',{bA g t [] todo with mode:=.returning},⟨vs,s,a,aD,aJ,t,rfl,D,y,F,g2,g3⟩,g8 aI t1,by subst j;rfl,?_⟩;subst j;exact⟨rfl,rfl,rfl,fn,hf,Q⟩
 cases e with
 |exit id=>exact B.elim
 |normal=>
  exact q [] (g8 o (.one (db (by subst j;simp[stepG,hj,bA]))))
 |ret=>
  obtain⟨U,o⟩:=o;exact q (.code .ret::U) (g8 o (.one (db (by subst j;simp[stepG,hj,bA]))))
theorem ME{f:dk}{fn:Func}{c:Code}(m:ma P ag)(l:tz P ag fit)(z:Enters P f)(hf:P.funcs[f]?=some fn)(y:fn.body=some c)(D:codeOk fit fn.ntmps c=true)
 {args:List PV}{v:PV}(C:args.length<=fn.ntmps)
 (H:cg P ag (fn.ntmps,0) c (fun e s=>(match e with
  | .exit _=>False
  |_=>True)/\∃vs,fS P s fn.results.toList=some vs/\eD s.heap 9 (oneOf vs)=some v) ⟨jg 0 (args.map .p),[]⟩):se P f args v:=by
 refine⟨z,fun w aa I B A x=>?_⟩;have E:b7 P w aa ⟨id,id⟩ [] (fun k=>k<w.heap.size):=⟨s_,s_,s_,B,fun _ h=>h,A⟩
 refine(J9 m l hf y D (R:=fun vs s=>eD s.heap 9 (oneOf vs)=some v) (by simpa using C) H E (j0.2 x) (jw _ _)).mono ?_;rintro e w' ⟨vs,s,J,aD,aJ,t,rfl,u,hs,d,F,G⟩;obtain⟨n,q⟩:=Lb F G;have r:=yC hs.heap _ _ _ u q _ n;refine⟨_,Ae aD aJ s.heap,rfl,fun k hk=>.inl (d.bX k hk),?_,?_,d.ext.size,fun k hk=>d.ext.same k (.inl hk),d.ext.io,r⟩
 ·rintro k (hk|⟨b,o,i,hl,rfl⟩)
  ·rcases d.fresh k hk with h|h
   ·exact .inl h
   ·exact .inr o_
  ·by_cases j:aJ.al b<w.heap.size
   ·
    left;have a:=hs.heap.cS b o i;have:aD (aJ.al b)\/¬(aJ.al b<w.heap.size):=by
     have key:∀fz,cC aD aJ (fun k=>k<w.heap.size) fz b->aD (aJ.al b)\/¬(aJ.al b<w.heap.size):=fun fz h=>by
      cases fz with
      |true=>exact .inl h
      |false=>exact .inr h.2
     cases o with
     |hole=>exact hl.elim
     |dead=>exact hl.elim
     |box fz t=>obtain⟨_,_,_,_,h,_⟩:=a;exact key _ h
     |arr k aq ai es=>
      rcases a with a|⟨_,_,_,_,_,_,_,_,_,_,h,_⟩
      ·exact(hl a).elim
      ·exact key _ h
     |map fz es=>obtain⟨_,_,_,_,h⟩:=a;exact key _ h
     |cQ ks vs=>obtain⟨_,_,_,_,_,h⟩:=a;exact key _ h
     |dD s pos=>obtain⟨_,_,_,h⟩:=a;exact key _ h
     |loop L=>obtain⟨_,_,_,_,_,_,h⟩:=a;exact key _ h
    rcases this with h|h
    ·rcases d.fresh _ h with g|g
     ·exact g
     ·exact(g j).elim
    ·exact(h j).elim
   ·exact .inr o_
 ·rintro k (hk|⟨b,o,i,hl,rfl⟩)
  ·exact hs.heap.bX k hk
  ·exact hs.heap.oD i hl
def um(P:c6)(a:List eb)(N:Nat)(H':Heap)(v:AV)(e:bw)(s:St):Prop:=
 (match e with
  | .exit _=>False
  |_=>True)/\∃vs,fS P s a=some vs/\oneOf vs=v/\(H'=s.heap\/(bE N s ⟨[],H'⟩/\aC (aH H') v))
theorem YV{f:dk}{fn:Func}{c:Code}(q:ma P ag)(p:tz P ag fit)(u:Enters P f)(hf:P.funcs[f]?=some fn)(j:fn.body=some c)(A:codeOk fit fn.ntmps c=true)
 {args:List AV}{H H':Heap}{v:AV}(z:args.length<=fn.ntmps)(G:cg P ag (fn.ntmps,H.length) c (um P fn.results.toList H.length H' v) ⟨jg 0 args,H⟩):bW P f H args H' v:=by
 refine⟨u,fun w aa ah β I B r C=>?_⟩;refine(J9 q p hf j A (R:=fun vs s=>oneOf vs=v/\(H'=s.heap\/(bE H.length s ⟨[],H'⟩/\aC (aH H') v))) z G B r C).mono ?_;rintro e w' ⟨vs,s,g,aD,aJ,t,rfl,⟨rfl,a⟩,hs,m,F,E⟩;obtain⟨i,k⟩:=Lb F E;obtain⟨d,k1,k2,k3⟩:dM H.length ah aa w β H ah aD w' aJ H'/\b7 P w' aD aJ H' ah/\aw P w' aD aJ H' (oneOf vs) (if h:g.toArray.size=1 then g.toArray[0]else .tuple g.toArray)/\aC (aH H') (oneOf vs):=by
  rcases a with rfl|⟨a,D⟩
  ·exact⟨m,hs.heap,i,k⟩
  ·refine⟨m.trans (a.fw (β:=aJ) (ah:=ah) (aa:=aD) (w:=w')),(a.rel hs).heap,?_,D⟩;rcases a with a|a
   ·have e:H'=s.heap:=by rw[<-a]
    rw[e];exact i
   ·exact aw.mono (fun _ x=>x) (fun _ _=>rfl) a.1.step _ _ k i
 refine⟨_,aJ,aD,rfl,⟨d.bX,d.fresh,d.ext,d.step.full,k1,fun x hx=>?_,fun b j=>?_⟩,k2,k3⟩
 ·obtain⟨o,n,y⟩:=hx;exact d.fG x (hr.1 n).1 ⟨o,n,y⟩
 ·obtain⟨L,l⟩:=j;exact d.loop b (hr.1 l).1 ⟨L,l⟩
theorem cU.post{n:Nat}{ah aa aD:Nat->Prop}{β aJ:Bd}{s:St}{H':Heap}{t:Array cR}{w w':c8}(h:cU P n ah aa β s t w)(a:bZ P ah aa w β s.heap aD w' aJ H'):cU P n ah aD aJ ⟨s.env,H'⟩ t w':=
 ⟨a.rel,fun x=>aw.mono a.bX (fun k hk=>a.ext.same k (.inr hk)) a.step _ _ (h.gV x) (h.env x),fun x=>aC.mono a.fG _ (h.gV x),h.size⟩
def rz:List Tmp->List AV->Env->Env
 |t::ts,v::vs,e=>rz ts vs ((t,v)::e)
 |_,_,e=>e
def ig:bw->Option Code
 | .normal=>none
 | .exit id=>some (.exit id)
 | .ret=>some .ret
def tC(b:Nat)(K:Heap->AV->Prop)(e:bw)(s:St):Prop:=
 match s.heap[b]? with
 |some (.loop L)=>K (s.heap.set b (.loop {L with st:=if(ig e).isNone then .ready else .done,pending:=ig e})) (.p (.bool (ig e).isNone))
 |_=>False
def yB(P:c6)(ag:dk->Bool)(q:Cx)(b:Nat)(body:Code)(K:Heap->AV->Prop)(e:bw)(s:St):Prop:=
 match e,s.heap[b]? with
 | .normal,some (.loop L)=>L.st=.ready/\cg P ag q body (tC b K) ⟨s.env,s.heap.set b (.loop {L with st:=.busy})⟩
 |_,_=>False
def zh(P:c6)(ag:dk->Bool)(L:fD)(b:Nat)(args:List AV)(H:Heap)(K:Heap->AV->Prop):Prop:=
 cg P ag (L.n,H.length) L.assign (yB P ag (L.n,H.length) b L.body K) ⟨rz L.params args L.env,H⟩
def qY(ts:List Tmp)(a:List cR)(t:Array cR):Array cR:=(ts.zip a).foldl (fun t(p,v)=>t.setIfInBounds p v) t
theorem KH{w:c8}{aa:Nat->Prop}{β:Bd}{H:Heap}:∀{ts:List Tmp}{vs:List AV}{xs:List cR}{e:Env}{t:Array cR},(∀x∈ts,x<t.size)->br P w aa β H vs xs->aR (aH H) vs->(∀x,aw P w aa β H (aN e x) (t.getD x undef))->(∀x,aC (aH H) (aN e x))->
 (qY ts xs t).size=t.size/\(∀x,aw P w aa β H (aN (rz ts vs e) x) ((qY ts xs t).getD x undef))/\(∀x,aC (aH H) (aN (rz ts vs e) x))
 |[],vs,xs,e,t,_,a,_,b,c=>by
  cases vs<;>exact⟨rfl,b,c⟩
 |p::ts,[],xs,e,t,_,a,_,b,c=>by
  simp only[br]at a;subst a;exact⟨rfl,b,c⟩
 |p::ts,v::vs,xs,e,t,hl,a,d,b,c=>by
  simp only[br]at a;obtain⟨y,g,rfl,k1,k2⟩:=a;simp only[aR]at d;have f:p<t.size:=hl p s_;obtain⟨g1,g2,g3⟩:=KH (ts:=ts) (vs:=vs) (xs:=g) (e:=(p,v)::e) (t:=t.setIfInBounds p y) (fun x hx=>by simpa using hl x (by simp[hx])) k2 d.2
   (fun x=>by
    simp only[aN]
    by_cases hx:x=p
    ·subst hx;simp[f];exact k1
    ·simp only[hx,if_false,bo,b2 (i5 hx)];simpa using b x)
   (fun x=>by
    simp only[aN]
    split
    ·exact d.1
    ·exact c x)
  exact⟨by simpa[qY]using g1,g2,g3⟩
theorem zip_toArray(a:List Tmp)(b:List cR)(t:Array cR):(a.toArray.zip b.toArray).foldl (fun t(p,v)=>t.setIfInBounds p v) t=qY a b t:=by
 unfold qY;rw[<-cc];simp
theorem YT(I:ma P ag)(G:tz P ag fit){b:Nat}{L:fD}{H H':Heap}{args:List AV}{v:AV}(f:H[b]?=some (.loop L))(az:args.length=L.params.length)(aA:∀x∈L.params,x<L.n)
 (ap:codeOk fit L.n L.assign=true)(hc:codeOk fit L.n L.body=true)(aH:zh P ag L b args H (fun ad aP=>aP=v/\bE H.length ⟨[],ad⟩ ⟨[],H'⟩)):iY P b H args H' v:=by
 refine⟨⟨L,f⟩,fun w aa ah β i B W ar=>?_⟩;obtain⟨tmps,defers,fn,an,M,ao,aT⟩:=B.cS b _ f;have s:b<H.length:=(hr.1 f).1;have av:=(tI W).1;have j:=run_yield (P:=P) (args:=i.toArray) an (by simp[av,az]);obtain⟨q1,aL,aM⟩:=KH (ts:=L.params) (vs:=args) (xs:=i) (e:=L.env) (t:=tmps) (fun x hx=>by rw[M];exact aA x hx) W ar ao (B.refs b _ f);rw[zip_toArray]at j;refine⟨fn,_,_,_,j,fun K ac=>?_⟩;obtain⟨c,z⟩:∃c:dp,c={fn:=fn,tmps:=#[],todo:=[],defers:=[],mode:=.run,kind:=.normal,roundOf:=some (β.al b)}:=⟨_,rfl⟩
 have g:c.roundOf=some (β.al b):=by subst z;rfl
 have A:c.kind=.normal:=by subst z;rfl
 have ax:ez (β.al b) fn (qY L.params i tmps) L.assign L.body .normal=bA c (qY L.params i tmps) [] [.code L.assign,.beginRound,.code L.body]:=by subst z;rfl
 have V:rF H.length c β H:=fun l hl=>by
  rw[g]at hl;cases hl;exact⟨b,s,⟨L,f⟩,rfl⟩
 obtain⟨e1,s1,aS,aR,aQ,t1,ba,ak,g1,am,g3,g4,g5⟩:=mV (N:=H.length) (fr:=c) (cs:=K::ac) (ds:=[]) I G L.assign [.beginRound,.code L.body] ap aH ⟨B,aL,aM,q1.trans M⟩ V;unfold yB at g1
 split at g1
 case h_2=>exact g1.elim
 rename_i q Q;obtain⟨g1,g6⟩:=g1;obtain⟨a8,m1,_,_,m4,m5⟩:=g5;have aF:=m5 (by rw[g];rfl);subst aF;obtain rfl:ak=[]:=m1;have ai:aQ.al b=β.al b:=(g4.step.loop b s ⟨_,f,trivial⟩ ⟨q,Q⟩).2;obtain⟨rec,r1,r2,aO,a3,a4,a5,a6,a7,D⟩:=Dg g3.heap Q .busy q.pending;rw[ai]at r1 D;have X:=run_beginRound (P:=P) r1 (r2.trans g1);have au:({rec with state:=.busy}:Loop)={rec with state:=.busy,pending:=q.pending}:=by rw[<-aO]
 rw[au]at X;have T:=g4.trans (D.fw (N:=H.length));obtain⟨e2,s2,r,p,m,t2,F,al,k1,k2,k3,k4,k5⟩:=mV (N:=H.length) (fr:=c) (cs:=K::ac) (ds:=[]) I G L.body [] hc g6 (g3.post D) (V.fw T);unfold tC at k1
 split at k1
 case h_2=>exact k1.elim
 rename_i J S;obtain⟨rfl,Y⟩:=k1;obtain⟨a9,aJ,_,_,n4,aK⟩:=k5;have aG:=aK (by rw[g];rfl);subst aG;obtain rfl:al=[]:=aJ;have aU:∀k,r k->ah k:=fun k hk=>(m4 k ((n4 k hk).resolve_right s_)).resolve_right s_;have U:=T.trans k4;have aj:m.al b=β.al b:=(U.step.loop b s ⟨_,f,trivial⟩ ⟨J,S⟩).2;obtain⟨E,ab,aV,aW,aX,aY,aZ,a0,a1,C⟩:=Dg k3.heap S (if(ig e2).isNone then .ready else .done) (ig e2);rw[aj]at ab C;have u:=run_endRound (P:=P) (ig e2) ab;have aq:=U.trans (C.fw (N:=H.length));have d:=aq.trans (Y.fw (β:=m) (ah:=r) (aa:=p) (w:=F.putObj (β.al b) (.loop {E with state:=if(ig e2).isNone then .ready else .done,pending:=ig e2})));refine⟨.bool (ig e2).isNone,F.putObj (β.al b) (.loop {E with state:=if(ig e2).isNone then .ready else .done,pending:=ig e2}),m,p,?_,?_,by simp[aw,aB],by simp[aC]⟩
 ·rw[ax];refine g8 (am:ea P _ _) ((g7 (stepR_beginRound (b:=c) (a:=⟨t1,[]⟩) g X)).trans ?_);cases e2 with
  |normal=>exact g8 (k2:ea P _ _) (.one (stepR_round_end (b:=c) (a:=⟨t2,[]⟩) g A u))
  |exit id=>
   obtain⟨aI,af,a2⟩:=k2;exact g8 a2 (.one (stepR_round_exit (b:=c) (a:=⟨t2,[]⟩) g A (by rw[af];rfl) u))
  |ret=>
   obtain⟨aI,a2⟩:=k2;exact g8 a2 (.one (stepR_round_ret (b:=c) (a:=⟨t2,[]⟩) g A u))
 ·have aD:cU P 0 r p m ⟨[],s2.heap.set b (.loop {J with st:=if(ig e2).isNone then .ready else .done,pending:=ig e2})⟩ #[] (F.putObj (β.al b) (.loop {E with state:=if(ig e2).isNone then .ready else .done,pending:=ig e2})):=
   ⟨C.rel,fun x=>by simp[aN,aw,aB],fun x=>by simp[aN,aC],rfl⟩
  have aE:=(Y.rel aD).heap;refine⟨d.bX,d.fresh,d.ext,d.step.full,aE.shut d.eX (R:=fun _=>False) (fun _ h=>h.elim) rfl (fun _ _=>rfl),fun x hx=>?_,fun y j=>?_⟩
  ·obtain⟨o,Z,ay⟩:=hx;exact d.fG x (hr.1 Z).1 ⟨o,Z,ay⟩
  ·obtain⟨ae,O⟩:=j;exact d.loop y (hr.1 O).1 ⟨ae,O⟩
end
section
variable{P:c6}
theorem Nq{w:c8}{aa:Nat->Prop}{b:Bool}{v:cR}:aB P w aa (.bool b) v↔v=.bool b:=by simp[aB]
theorem DV{w:c8}{aa:Nat->Prop}{k:ed}{n:Int}{v:cR}:aB P w aa (.int k n) v↔v=.int k n:=by simp[aB]
theorem OM{w:c8}{aa:Nat->Prop}{s:List Nat}{v:cR}:aB P w aa (.str s) v↔∃bs:ByteArray,v=.string bs/\s=bs.data.toList.map (·.toNat):=by simp[aB]
theorem eJ{s:Sem cR}{w:c8}{a:cR}(h:s.run P w=.ok a w):(do pure (Next.value (<-s)):Sem Next).run P w=.ok (.value a) w:=by simp[h]
theorem vt{s:Sem cR}{w w':c8}{a:cR}(h:s.run P w=.ok a w'):(do pure (Next.value (<-s)):Sem Next).run P w=.ok (.value a) w':=by simp[h]
theorem yo{T:c7}{v:AV}{w:c8}{aa:Nat->Prop}{β:Bd}{H:Heap}{cs:List cR}(hk:kindOf P T=ad v)(c:bp P w aa β H v cs):P.cellsOf T=cs.length/\∃i,P.info? T=some i/\i.size=cs.length:=by
 obtain⟨hl,a⟩:=oh c;have b:P.cellsOf T=cs.length:=by
  rw[hl,<-hk];unfold kindOf at hk⊢
  split at hk
  ·split at hk<;>rename_i hc
   ·simp at hc;rw[if_pos (by simpa using hc)];simp[bG,hc.2]
   ·exact(a hk.symm).elim
  ·split at hk<;>rename_i hc
   ·simp at hc;rw[if_pos (by simpa using hc)];simp[bG,hc]
   ·exact(a hk.symm).elim
  ·split at hk<;>rename_i hc
   ·simp at hc;rw[if_pos (by simpa using hc)];simp[bG,hc]
   ·exact(a hk.symm).elim
  ·exact(a hk.symm).elim
 refine⟨b,?_⟩;cases hi:P.info? T with
 |none=>
  have:kindOf P T=.bad:=by simp[kindOf,ge,hi]
  rw[this]at hk;exact(a hk.symm).elim
 |some i=>exact⟨i,rfl,by simpa[gc,hi]using b⟩
variable{o:Oper}{ρ:da->AV}{base:Nat}
theorem Sr{x:da}(a:o.op=.move x\/o.op=.assign x):bt P o ρ base {v:=ρ x}:=by
 refine bt.same fun H w aa ah β c d b _=>?_;refine⟨c x,?_,b x ?_⟩
 ·rcases a with a|a<;>simp[dg,a]
 ·rcases a with a|a<;>simp[a,fl]
theorem aKJ{c a b:da}{t:Bool}(d:o.op=.pick c a b)(hc:ρ c=.p (.bool t)):bt P o ρ base {v:=if t then ρ a else ρ b}:=by
 refine bt.same fun H w aa ah β g h f _=>?_;have e:=(f c (by simp[d,fl])).1;rw[hc]at e;simp only[aw,Nq]at e;refine⟨if t then g a else g b,by simp[dg,d,e,asBool],?_⟩;cases t with
 |true=>exact f a (by simp[d,fl])
 |false=>exact f b (by simp[d,fl])
theorem KL{t:da}{i:Nat}{vs:List AV}{v:AV}(h:o.op=.extract t i)(e:ρ t=.aE vs\/∃l,ρ t=.p (.aE l)/\vs=l.map .p)(hi:vs[i]?=some v):bt P o ρ base {v}:=by
 refine bt.same fun H w aa ah β k n j _=>?_;obtain⟨d,f⟩:=j t (by simp[h,fl]);obtain⟨c,k1,k2,k3⟩:∃c,br P w aa β H vs c/\k t=.tuple c.toArray/\aR (aH H) vs:=by
  rcases e with e|⟨l,e,rfl⟩
  ·rw[e]at d f;simp only[aw,aC]at d f;obtain⟨c,a,b⟩:=d;exact⟨c,a,b,f⟩
  ·rw[e]at d;simp only[aw,aB]at d;obtain⟨c,a,b⟩:=d;exact⟨c,j0.2 a,b,jw _ _⟩
 obtain⟨g1,g2⟩:=tI k1;have m:i<vs.length:=(hr.1 hi).1;have hx:c[i]?=some (c[i]' o_):=hA o_;have g:=g2 i;rw[hi,hx]at g;refine⟨c[i]' o_,?_,by simpa using g,cO.1 k3 v (hE hi)⟩;simp only[dg,h,Instr.extract,k2];simp[hx]
theorem aKF{c:er}{T j:c7}{x y:da}{k d:ed}{a b:Int}{K:PV->Prop}(g:o.op= .binOp c T x y j)(hx:ρ x= .p (.int k a))(t:ρ y= .p (.int d b))(hk:k=d\/c= .shl\/c= .shr)
 (h:pW c k a b K)(ak:List (Nat×Obj)):∃v,K v/\bt P o ρ base {v:=.p v,ak}:=by
 have key:∀v,K v->(∀w:c8,(binOp c T (.int k a) (.int d b)).run P w= .ok (match v with| .int k n=> .int k n| .bool b=> .bool b|_=>undef) w)->(∀w aa,aB P w aa v (match v with| .int k n=> .int k n| .bool b=> .bool b|_=>undef))->
  ∃v,K v/\bt P o ρ base {v:=.p v,ak}:=by
  intro v s r q;refine⟨v,s,bt.same fun H w aa ah β z u i _=>?_⟩;have e:=(i x (by simp[g,fl])).1;have f:=(i y (by simp[g,fl])).1;rw[hx]at e;rw[t]at f;simp only[aw,DV]at e f;refine⟨_,?_,by simp only[aw];exact q w aa,by simp[aC]⟩;simp only[dg,g,e,f];refine eJ ?_;have m:(eqGuard c T x y (.int k a) (.int d b)).run P w=.ok () w:=by
   unfold eqGuard
   split<;>simp
  simp[m,r w]
 cases c<;>simp only[pW]at h
 case add|sub|mul|and|or|xor|andNot|eql|neq|lss|leq|gtr|geq=>
  obtain rfl:k=d:=by rcases hk with h|h|h<;>first|exact h|cases h
  exact key _ h (fun w=>by simp[binOp,fv,gb,Op.intCmp]) (fun w aa=>by simp[aB])
 case quo|rem=>
  obtain rfl:k=d:=by rcases hk with h|h|h<;>first|exact h|cases h
  exact key _ h.2 (fun w=>by simp[binOp,Op.intDiv,h.1]) (fun w aa=>by simp[aB])
 case shl|shr=>
  have l:¬b<0:=o_
  exact key _ h.2 (fun w=>by simp[binOp,Op.shift,l]) (fun w aa=>by simp[aB])
theorem FK{u:UnOp}{T:c7}{x:da}{v r:PV}(c:o.op= .unOp u T x)(hx:ρ x= .p v)
 (h:(u=.not/\∃b,v=.bool b/\r=.bool (!b))\/(u=.neg/\∃k n,v=.int k n/\r=.int k (k.wrap (0-n)))\/
  (u=.xor/\∃k n,v=.int k n/\r=.int k (k.wrap (cy k.bits (if k.signed then -1 else k.max)^^^cy k.bits n).toNat))):bt P o ρ base {v:=.p r}:=by
 refine bt.same fun H w aa ah β f e d _=>?_;have a:=(d x (by simp[c,fl])).1;rw[hx]at a;simp only[aw]at a;rcases h with⟨rfl,b,rfl,rfl⟩|⟨rfl,k,n,rfl,rfl⟩|⟨rfl,k,n,rfl,rfl⟩
 ·rw[Nq]at a;exact⟨_,by simp only[dg,c,a];exact eJ (by simp[fm];rfl),by simp[aw,aB],by simp[aC]⟩
 ·rw[DV]at a;exact⟨_,by simp only[dg,c,a];exact eJ (by simp[fm,fv];rfl),by simp[aw,aB],by simp[aC]⟩
 ·rw[DV]at a;exact⟨_,by simp only[dg,c,a];exact eJ (by simp[fm,gb];rfl),by simp[aw,aB],by simp[aC]⟩
end
section
variable{P:c6}{w:c8}{aa ah:Nat->Prop}{β:Bd}{H:Heap}
variable{o:Oper}{ρ:da->AV}{base:Nat}
theorem l8(H:Heap)(b:Nat)(o':Obj):aW H ([]++newAt b [o'])=H.set b o':=rfl
theorem XU{x:AV}{T:c7}(hs:ad x≠ .bad)(hx:jS T (ad x)=true)(hrefs:∀(H:Heap)(w:c8)(aa ah:Nat->Prop)(β:Bd)(d:da->cR),b7 P w aa β H ah->
 (∀y∈o.op.operands,aw P w aa β H (ρ y) (d y)/\aC (aH H) (ρ y))->∃a,aw P w aa β H x a/\aC (aH H) x/\
  (dg d o).run P w=.ok (.value (.pointer (some ⟨w.heap.size,0,none⟩))) {w with heap:=w.heap.push (.cells a.cells T)}):
 bt P o ρ base {v:=.ptr base [],aS:=[.box false x]}:=by
 intro H w aa ah β d b m _ j;obtain⟨a,f,e,g⟩:=hrefs H w aa ah β d b m;have c:H[base]?=some .hole:=by simpa using j 0 s_
 have i:=yL f hs;have aI:=yW (β:=β) c (.box false x) w.heap.size 0;have ak:∀y,aH H y->aH (H.set base (.box false x)) y:=ml c (fun _ h=>h.elim);have l:=tD (cap:=0) b c (ob:=.cells a.cells T) (o':=.box false x)
  ⟨a.cells,T,by simp[Bd.at],bp.mono (fun _ x=>x) (fun k hk=>vD _ _ (b.bX k hk)) aI _ _ e i,by
   simp only[cC,Bd.at,if_true,cE,if_false];exact⟨fun h=>ip _ (b.bX _ h),fun h=>ip _ (b.eX _ h)⟩,s_,hx⟩ (aC.mono ak _ e)
 refine⟨_,_,_,_,aa,g,.inl rfl,l,?_,?_⟩
 ·simp only[aw,bO,bV,l8];exact⟨rfl,_,_,0,rfl,rfl,fun _=>by simp[Bd.at]⟩
 ·simp only[aC,l8];exact⟨.box false x,by simp only;rw[hv (hr.1 c).1],trivial⟩
theorem aKC{T:c7}{x:da}(a:o.op=.box T x)(hs:ad (ρ x)≠.bad)(hx:jS T (ad (ρ x))=true):bt P o ρ base {v:=.ptr base [],aS:=[.box false (ρ x)]}:=by
 refine XU (T:=T) hs hx fun H w aa ah β e f d=>?_;obtain⟨b,c⟩:=d x (by simp[a,fl]);refine⟨e x,b,c,?_⟩;simp only[dg,a];simp[Instr.box,newVar,newRow]
theorem Cg{w:c8}{aa:Nat->Prop}:∀(n:Nat)(T:c7)(cs:List cR)(t:PV),ub P n T cs=some t->aV P w aa t cs/\kindOf P T=aL t
 |0,_,_,_,h=>by simp[ub]at h
 |n+1,T,cs,t,h=>by
  have go:∀(b:List c7)(l:List Nat)(cs:List cR)(fs:List PV),pE P (ub P n) b l cs=some fs->∃a,bg P w aa l fs a/\a.flatten=cs:=by
   intro b
   induction b with
   |nil=>
    intro l cs fs h;cases l with
    |nil=>
     cases cs with
     |nil=>simp[pE]at h;subst h;exact⟨[],by simp[bg]⟩
     |cons c cs=>simp[pE]at h
    |cons s g=>simp[pE]at h
   |cons T b p=>
    intro l cs fs h;cases l with
    |nil=>simp[pE]at h
    |cons s g=>
     simp only[pE]at h
     split at h
     case isFalse=>simp at h
     rename_i k
     split at h
     case h_2=>simp at h
     rename_i v vs f o
     split at h
     case isFalse=>simp at h
     rename_i q;simp at h;subst h;obtain⟨d,_⟩:=Cg n T _ v f;obtain⟨a,e,i⟩:=p g _ vs o;refine⟨cs.take s::a,by simp only[bg];exact⟨_,_,rfl,d,k,e⟩,?_⟩;simp[i]
  unfold ub at h
  split at h
  ·rename_i hk
   split at h
   case h_2=>simp at h
   rename_i c
   split at h
   ·simp at h
   ·rename_i v m;simp at h;subst h;have f:=JY (P:=P) (w:=w) (aa:=aa) c;have hl:aL (ofConst c)=.leaf:=by
     unfold ofConst at m⊢
     split<;>simp_all [aL]
    exact⟨(tH hl _).2 ⟨c,rfl,f⟩,by rw[hk,hl]⟩
  ·rename_i u hk
   split at h
   case h_2=>simp at h
   rename_i l hl
   split at h
   case h_2=>simp at h
   rename_i fs j;simp at h;subst h;obtain⟨a,d,e⟩:=go _ _ _ _ j;refine⟨by simp only[aV];exact⟨l,a,hl,d,e.symm⟩,by simp[aL,hk]⟩
  ·simp at h
theorem ph{T:c7}{z:PV}(h:cK P T=some z):∃i a,P.info? T=some i/\i.zero=some a/\(∀(w:c8)(aa:Nat->Prop),aV P w aa z a.cells.toList)/\kindOf P T=aL z:=by
 unfold cK at h;cases hi:P.info? T with
 |none=>simp[hi]at h
 |some i=>
  simp only[hi,i6]at h;cases b:i.zero with
  |none=>simp[b]at h
  |some a=>
   simp only[b]at h
   split at h
   case isFalse=>simp at h
   exact⟨i,a,rfl,b,fun w aa=>(Cg 40 T _ z h).1,(Cg (w:=default) (aa:=fun _=>True) 40 T _ z h).2⟩
theorem NC{T:c7}{z:PV}(h:cK P T=some z):∃a,(∀w:c8,(zeroValue T).run P w=.ok a w)/\∀(w:c8)(aa:Nat->Prop),aB P w aa z a:=by
 obtain⟨i,a,d,e,f,g⟩:=ph h;refine⟨a,fun w=>by simp[zeroValue,typeInfo,d,e],fun w aa=>?_⟩;have b:An a (aL z)=true:=by
  unfold cK at h;simp only[d,i6,e]at h
  split at h
  ·rename_i j;rw[<-g];exact j
  ·simp at h
 have hc:=f w aa;cases hs:aL z with
 |bad=>exact((n8 hc).2 hs).elim
 |leaf=>
  rw[hs]at b;obtain⟨c,k1,k2⟩:=(tH hs _).1 hc;cases a<;>simp[An]at b<;>(simp[hb]at k1;subst k1;exact k2)
 |agg u=>
  rw[hs]at b;cases a<;>simp[An]at b;have:=(wA hs _).1 hc;simpa[hb]using this
theorem tA{T:c7}{i:dz}{a:cR}(h:P.info? T=some i)(b:i.zero=some a)(w:c8):(zeroValue T).run P w=.ok a w:=by
 simp[zeroValue,typeInfo,h,b]
theorem Y6{T:c7}{z:PV}(j:o.op=.alloc T)(m:cK P T=some z)(hx:jS T (aL z)=true):bt P o ρ base {v:=.ptr base [],aS:=[.box false (.p z)]}:=by
 obtain⟨i,b,d,e,f,q⟩:=ph m;intro H w aa ah β n a r _ g;have c:H[base]?=some .hole:=by simpa using g 0 s_
 have l:(dg n o).run P w=.ok (.value (.pointer (some ⟨w.heap.size,0,none⟩))) {w with heap:=w.heap.push (.cells b.cells T)}:=by
  simp only[dg,j];simp[Instr.alloc,tA d e,newVar,newRow]
 have k:=tD (cap:=0) a c (ob:=.cells b.cells T) (o':=.box false (.p z))
  ⟨b.cells,T,by simp[Bd.at],by simp only[bp];exact f _ _,by
   simp only[cC,Bd.at,if_true,cE,if_false];exact⟨fun h=>ip _ (a.bX _ h),fun h=>ip _ (a.eX _ h)⟩,s_,by simpa[ad]using hx⟩ (by simp[Obj.refs,aC])
 refine⟨_,_,_,_,aa,l,.inl rfl,k,?_,?_⟩
 ·simp only[aw,bO,bV,l8];exact⟨rfl,_,_,0,rfl,rfl,fun _=>by simp[Bd.at]⟩
 ·simp only[aC,l8];exact⟨.box false (.p z),by simp only;rw[hv (hr.1 c).1],trivial⟩
theorem Dz{T:c7}{a:da}{v:AV}(h:o.op= .load T a){d:da->cR}{al off:Nat}{c:List cR}(g:d a= .pointer (some ⟨al,off,none⟩))(hk:kindOf P T=ad v)
 (i:bp P w aa β H v c)(hc:ic w al off c):∃b,(dg d o).run P w=.ok (.value b) w/\aw P w aa β H v b:=by
 obtain⟨b,e,f⟩:=JO hk i hc;refine⟨b,?_,f⟩;simp only[dg,h,Instr.loadAt,g,e6];simp[e]
theorem z7{ai:Nat}{b:List AV}{f:List (List cR)}(h:Row P w aa β H ai b f){i:Nat}(hi:i<b.length):
 ∃pre c post,f.flatten=pre++c++post/\pre.length=i*ai/\c.length=ai/\bp P w aa β H b[i] c/\
  ∀d c',bp P w aa β H d c'->c'.length=c.length->∃a,a.flatten=pre++c'++post/\Row P w aa β H ai (b.set i d) a:=by
 obtain⟨pre,c,post,g,j,m,e,k,l⟩:=tO h (hA hi);have hl:c.length=ai:=by
  rw[hC]at e;rw[if_pos hi]at e;simpa using e.symm
 refine⟨pre,c,post,g,?_,hl,k,?_⟩
 ·rw[j,hB,ik o_,hz]
 ·intro d c' hf hc;obtain⟨a,k1,k2⟩:=l d c' hf hc;exact⟨a,k1,by unfold Row;rw[h5];exact k2⟩
theorem aKH{T:c7}{a:da}(g:o.op= .load T a){H0:Heap}{K:aU->Prop}(h:oK P T H0 (ρ a) K):
 ∃e,K e/\bt P o ρ base e/\(∀p∈e.ak,H0[p.1]?=some p.2)/\(∀p∈e.aG,p.1<H0.length/\p.2≠.hole):=by
 unfold oK at h
 split at h
 ·rename_i b J m
  split at h
  case h_2=>exact h.elim
  rename_i fz t u
  split at h
  case h_2=>exact h.elim
  rename_i s hs;obtain⟨hk,h⟩:=h;refine⟨_,h,bt.same fun H w aa ah β C j n ak=>?_,by simpa using u,s_⟩;obtain⟨d,y⟩:=n a (by simp[g,fl]);rw[m]at d;simp only[aw,bO,bV]at d;have f:H[b]?=some (.box fz t):=by simpa using ak
  obtain⟨_,E,I,B,x,r,d⟩:=d;obtain⟨rfl,rfl⟩:=d (.inl ⟨fz,t,f⟩);obtain⟨cs,D,k1,k2,k3,k4⟩:=j.cS b _ f;obtain⟨pre,xs,post,e1,e2,e3,_⟩:=pH k2 hs r;obtain⟨l,g1,g2⟩:=Dz g x hk e3 (by rw[<-e2];exact mc k1 e1);exact⟨l,g1,g2,vN hs (j.refs b _ f)⟩
 ·rename_i b aq ai i J m
  split at h
  case h_2=>exact h.elim
  rename_i k U Q q u;obtain⟨rfl,rfl,hi,h⟩:=h
  split at h
  case h_2=>exact h.elim
  rename_i s hs;obtain⟨hk,h⟩:=h;refine⟨_,h,bt.same fun H w aa ah β C j n ak=>?_,by simpa using u,s_⟩;obtain⟨d,y⟩:=n a (by simp[g,fl]);rw[m]at d;simp only[aw,bO,bV]at d;have f:H[b]?=some (.arr k aq ai q):=by simpa using ak
  have A:¬di k q:=fun G=>by rw[G.2]at hi;simp at hi
  obtain⟨_,E,I,B,x,r,d⟩:=d;obtain⟨rfl,rfl⟩:=d k q f A;rcases j.cS b _ f with hold|⟨cs,D,O,rest,k1,k2,k3,_⟩
  ·exact(A hold).elim
  obtain⟨M,c,L,r1,r2,R,N,_⟩:=z7 k2 hi;obtain⟨pre,xs,post,e1,e2,e3,_⟩:=pH N hs r;have F:ic w (β.al b) (i*ai+B) xs:=by
   have:cs.toList=(M++pre)++xs++(post++L++rest):=by rw[k3,r1,e1];simp
   have z:=mc k1 this;rw[hR,r2,e2]at z;exact z
  obtain⟨l,g1,g2⟩:=Dz g x hk e3 F;exact⟨l,g1,g2,vN hs (cO.1 (j.refs b _ f) _ (h3 hi))⟩
 ·rename_i t m;obtain⟨hk,h⟩:=h;refine⟨_,h,bt.same fun H w aa ah β C j n ak=>?_,s_,s_⟩;obtain⟨d,y⟩:=n a (by simp[g,fl]);rw[m]at d;simp only[aw,aB]at d;obtain⟨al,off,S,k1,k2,k3,k4⟩:=d;obtain⟨l,g1,g2⟩:=Dz (β:=β) (H:=H) (v:=.p t) g k4 (by simpa[ad]using hk) (by simpa only[bp]using k1) k3;exact⟨l,g1,g2,by simp[aC]⟩
 ·exact h.elim
end
section
variable{P:c6}{w:c8}{aa ah:Nat->Prop}{β:Bd}{H:Heap}
mutual
theorem ON:∀{v:PV}{cs:List cR},aV P w aa v cs->∀c∈cs,c.oneCell'=true
 | .undef,_,h| .aE _,_,h=>by simp[aV]at h
 | .bool _,_,h| .int _ _,_,h| .dc,_,h| .aK,_,h| .fM,_,h| .iE,_,h| .gl,_,h=>by simp only[aV]at h;subst h;simp[ha]
 | .str _,_,h=>by simp only[aV]at h;obtain⟨_,rfl,_⟩:=h;simp[ha]
 | .cA _,_,h=>by simp only[aV]at h;obtain⟨_,_,_,_,_,_,rfl⟩:=h;simp[ha]
 | .bJ _ _,_,h=>by simp only[aV]at h;obtain⟨_,_,_,_,_,_,_,_,_,_,_,_,rfl⟩:=h;simp[ha]
 | .seq _,_,h=>by simp only[aV]at h;rcases h with⟨_,rfl⟩|⟨_,_,_,_,_,_,_,_,_,_,_,rfl⟩<;>simp[ha]
 | .fq _,_,h=>by simp only[aV]at h;obtain⟨_,_,_,_,_,_,rfl⟩:=h;simp[ha]
 | .func _ _ _,_,h=>by simp only[aV]at h;obtain⟨_,_,_,_,rfl⟩:=h;simp[ha]
 | .st u fs,_,h=>by
  simp only[aV]at h;obtain⟨l,a,b,d,rfl⟩:=h;exact Ns d
theorem Ns:∀{l:List Nat}{vs:List PV}{a:List (List cR)},bg P w aa l vs a->∀c∈a.flatten,c.oneCell'=true
 |[],[],_,h=>by simp only[bg]at h;subst h;simp
 |[],_::_,_,h=>by simp[bg]at h
 |_::_,[],_,h=>by simp[bg]at h
 |n::f,v::vs,a,h=>by
  simp only[bg]at h;obtain⟨c,cs,rfl,b,d,e⟩:=h;intro x hx;simp only[hN,hQ]at hx;exact hx.elim (ON b x) (Ns e x)
end
mutual
theorem zu:∀{v:AV}{cs:List cR},bp P w aa β H v cs->∀c∈cs,c.oneCell'=true
 | .p t,_,h=>by simp only[bp]at h;exact ON h
 | .ptr ..,_,h| .b8 ..,_,h| .sl ..,_,h| .map ..,_,h=>by simp only[bp]at h;obtain⟨v,rfl,b,_⟩:=h;simpa using b
 | .func ..,_,h=>by simp only[bp]at h;obtain⟨_,_,_,_,rfl⟩:=h;simp[ha]
 | .aE _,_,h=>by simp[bp]at h
 | .st u fs,_,h=>by
  simp only[bp]at h;obtain⟨l,a,b,d,rfl⟩:=h;exact Nt d
theorem Nt:∀{l:List Nat}{vs:List AV}{a:List (List cR)},bL P w aa β H l vs a->∀c∈a.flatten,c.oneCell'=true
 |[],[],_,h=>by simp only[bL]at h;subst h;simp
 |[],_::_,_,h=>by simp[bL]at h
 |_::_,[],_,h=>by simp[bL]at h
 |n::f,v::vs,a,h=>by
  simp only[bL]at h;obtain⟨c,cs,rfl,b,d,e⟩:=h;intro x hx;simp only[hN,hQ]at hx;exact hx.elim (zu b x) (Nt e x)
end
theorem qE(d:b7 P w aa β H ah){b:Nat}{o o':Obj}(c:H[b]?=some o)(hl:o.live)(j:o'.live)(l:∀v,o.has v->o'.has v){p new:Array cR}{T:c7}
 (i:w.heap[β.al b]?=some (.cells p T (0,0)))(e:¬aa (β.al b)/\¬ah (β.al b))(aI:cm β H β (H.set b o'))
 (m:fJ P (w.setRow (β.al b) new) aa β (H.set b o') ah b o')(n:o'.refs (aH (H.set b o'))):
 bZ P ah aa w β H aa (w.setRow (β.al b) new) β (H.set b o'):=by
 refine bZ.set d (hr.1 c).1 (fun _ _=>⟨rfl,rfl⟩) (fun _ x=>x) (fun _ x=>.inl x) (fun k hk=>by rw[eo];exact d.bX k hk) (by rw[eo];exact ii _)
  (fun k hk _=>ei w _ k _ (hk.resolve_right (fun h=>h j))) (fun _=>.inr ⟨rfl,⟨o,c,hl⟩,.inr e.1,e.2⟩) aI m n (fun q v a f=>by rw[c]at a;cases a;exact l v f) (fun L g=>by obtain⟨_,_,_,a,_⟩:=d.cS b _ g;rw[i]at a;cases a)
theorem pB{b:Nat}{o o':Obj}(l:H[b]?=some o)(hk:(∃f g t B,o= .box f t/\o'= .box g B)\/(∃k v z e m,o= .arr k v z e/\o'= .arr k v z m/\e.length=m.length)\/(∃f g e m,o= .map f e/\o'= .map g m)\/(∃s p y,o= .dD s p/\o'= .dD s y)):
 cm β H β (H.set b o'):=by
 have u:b<H.length:=(hr.1 l).1;have j:∀x,x≠b->(H.set b o')[x]?=H[x]?:=fun x hx=>hw (i5 hx);have i:(H.set b o')[b]?=some o':=hv u;refine⟨?_,?_,?_,?_,?_⟩
 ·rintro x _ ⟨fz,t,h⟩;refine⟨?_,rfl⟩
  by_cases hx:x=b
  ·subst hx;rw[i]at h;cases h;rcases hk with⟨f,g,t1,t2,c,a⟩|⟨_,_,_,_,_,_,a,_⟩|⟨_,_,_,_,_,a⟩|⟨_,_,_,_,a⟩
   ·exact⟨f,t1,by rw[l,c]⟩
   all_goals cases a
  ·rw[j x hx]at h;exact⟨fz,t,h⟩
 ·rintro x _ ⟨s,p,h⟩;refine⟨?_,rfl⟩
  by_cases hx:x=b
  ·subst hx;rw[i]at h;cases h;rcases hk with⟨f,g,t1,t2,c,a⟩|⟨_,_,_,_,_,_,a,_⟩|⟨_,_,_,_,_,a⟩|⟨s1,n,A,c,a⟩
   ·cases a
   ·cases a
   ·cases a
   ·exact⟨s1,n,by rw[l,c]⟩
  ·rw[j x hx]at h;exact⟨s,p,h⟩
 ·rintro x _ ⟨w,h,d⟩;refine⟨?_,rfl⟩
  by_cases hx:x=b
  ·subst hx;rw[i]at h;cases h;rcases hk with⟨f,g,t1,t2,c,a⟩|⟨_,_,_,_,_,_,a,_⟩|⟨f,g,e1,e2,c,a⟩|⟨s1,n,A,c,a⟩
   ·rw[a]at d;exact d.elim
   ·rw[a]at d;exact d.elim
   ·exact⟨o,l,by rw[c];trivial⟩
   ·rw[a]at d;exact d.elim
  ·rw[j x hx]at h;exact⟨w,h,d⟩
 ·intro x aq ai k e _ h
  by_cases hx:x=b
  ·subst hx;unfold eA at h⊢;rw[i]at h;cases h;rcases hk with⟨f,g,t1,t2,c,a⟩|⟨k0,v,z,q,C,c,a,r⟩|⟨_,_,_,_,_,a⟩|⟨_,_,_,_,a⟩
   ·cases a
   ·cases a;refine⟨k,q,by rw[l,c],o_,?_,fun _=>⟨rfl,rfl⟩⟩;unfold di;rw[<-hH,<-hH,r]
   ·cases a
   ·cases a
  ·unfold eA at h⊢;rw[j x hx]at h;exact⟨k,e,h,ii _,hp,fun _=>⟨rfl,rfl⟩⟩
 ·rintro x _ ⟨L,h⟩;refine⟨?_,rfl⟩
  by_cases hx:x=b
  ·subst hx;rw[i]at h;cases h;rcases hk with⟨f,g,t1,t2,c,a⟩|⟨_,_,_,_,_,_,a,_⟩|⟨_,_,_,_,_,a⟩|⟨_,_,_,_,a⟩<;>cases a
  ·rw[j x hx]at h;exact⟨L,h⟩
variable{o:Oper}{ρ:da->AV}{base:Nat}
theorem K0{T:c7}{a x:da}(n:o.op= .store T a x){e:da->cR}{al off:Nat}{b:List cR}{d:Array cR}{f:c7}(j:e a= .pointer (some ⟨al,off,none⟩))
 (hx:(e x).cells.toList=b)(p:P.cellsOf T=b.length/\∃i,P.info? T=some i/\i.size=b.length)(k:w.heap[al]?=some (.cells d f (0,0)))(m:∀c∈b,c.oneCell'=true)(hl:off+b.length<=d.size):
 (dg e o).run P w=.ok .skip (w.setRow al (d.toList.take off++b++d.toList.drop (off+b.length)).toArray):=by
 obtain⟨_,i,hi,l⟩:=p;have h:(sizeOf T).run P w=.ok b.length w:=by simp[sizeOf,typeInfo,hi,l]
 have g:=run_storeCells_at (P:=P) al off f b 0 d w k (by simpa using hl) m;simp only[i0]at g;have q:(e x).cells.size=b.length:=by rw[<-hx];simp
 simp only[dg,n,Instr.storeAt,j,e6];simp[storeVar,h,q,hx,g]
theorem CK(u:c7)(fs:List AV):ad (iC u fs)=.agg u:=by
 unfold iC;split<;>rfl
theorem Yv{t:AV}{c:List (c7×Nat)}{x s d:AV}(hs:fc t c=some s)(a:gn t c x=some d)(e:ad s=ad x):ad d=ad t:=by
 cases c with
 |nil=>
  simp only[gn,i8]at a;subst a;have:s=t:=by
   cases t<;>simp[fc]at hs<;>exact hs.symm
  rw[<-e,this]
 |cons p r=>
  obtain⟨u,i⟩:=p;cases t<;>simp only[gn]at a
  case p t=>
   split at a
   case isFalse=>simp at a
   rename_i b
   split at a
   case h_2=>simp at a
   split at a
   case h_2=>simp at a
   simp only[i8]at a;subst a;rw[CK];simp[ad,b]
  case st u' fs=>
   split at a
   case isFalse=>simp at a
   rename_i b
   split at a
   case h_2=>simp at a
   split at a
   case h_2=>simp at a
   simp only[i8]at a;subst a;rw[CK];simp[ad,b]
  all_goals simp at a
theorem ZG{T:c7}{a x:da}(z:o.op= .store T a x){H0:Heap}{K:aU->Prop}(h:ov P T H0 (ρ a) (ρ x) K):
 ∃e,K e/\bt P o ρ base e/\(∀p∈e.ak,H0[p.1]?=some p.2)/\(∀p∈e.aG,p.1<H0.length/\p.2≠.hole):=by
 unfold ov at h;obtain⟨hk,ac,h⟩:=h
 split at h
 ·rename_i b ap N
  split at h
  case h_2=>exact h.elim
  rename_i t B
  split at h
  case h_2=>exact h.elim
  rename_i s j hs r;obtain⟨J,h⟩:=h;refine⟨_,h,?_,by simpa using B,by simpa using(hr.1 B).1⟩;intro H w aa ah β f l D ak _;have d:H[b]?=some (.box false t):=by simpa using ak
  obtain⟨g,_⟩:=D a (by simp[z,fl]);obtain⟨ab,M⟩:=D x (by simp[z,fl]);rw[N]at g;simp only[aw,bO,bV]at g;obtain⟨_,al,Z,L,W,U,g⟩:=g;obtain⟨rfl,rfl⟩:=g (.inl ⟨false,t,d⟩);obtain⟨cs,A,k1,k2,k3,k4⟩:=l.cS b _ d;obtain⟨pre,xs,post,e1,e2,e3,e4⟩:=pH k2 hs U;have m:=yL ab ac;have q:(f x).cells.toList.length=xs.length:=by rw[(oh m).1,(oh e3).1,J]
  have ae:cs.size=pre.length+xs.length+post.length:=by
   have:=congrArg hU e1;simp at this;omega
  have C:=K0 z W rfl (yo hk m) k1 (zu m) o_;have aS:(cs.toList.take Z++(f x).cells.toList++cs.toList.drop (Z+(f x).cells.toList.length))=pre++(f x).cells.toList++post:=by
   rw[e1,q,<-e2];simp
  rw[aS]at C;have aI:cm β H β (H.set b (.box false j)):=pB d (.inl ⟨_,_,_,_,rfl,rfl⟩);have Q:∀y,aH H y->aH (H.set b (.box false j)) y:=ml d (fun _ h=>h);have X:∀k,aa k->(w.setRow (β.al b) (pre++(f x).cells.toList++post).toArray).heap[k]?=w.heap[k]?:=fun k S=>ei w _ k _ (fun O=>k3.1 (O▸S));have V:=qE l d trivial (o':=.box false j) trivial (fun _ h=>h) k1 (new:=(pre++(f x).cells.toList++post).toArray) k3 aI
   ⟨_,A,eq w _ _ _ A _ k1,bp.mono (fun _ x=>x) X aI _ _ (vO r (l.refs b _ d) M) (e4 _ _ _ r m q),k3,s_,by rw[Yv hs r J];exact k4.2⟩
   (aC.mono Q _ (vO r (l.refs b _ d) M))
  exact⟨_,_,_,β,aa,C,.inr ⟨rfl,rfl⟩,V,by simp[aw,aB,bm,undef],by simp[aC]⟩
 ·rename_i b aq ai i ap N
  split at h
  case h_2=>exact h.elim
  rename_i k az ax n B;obtain⟨rfl,rfl,ag,hi,h⟩:=h
  split at h
  case h_2=>exact h.elim
  rename_i s j hs r;obtain⟨J,h⟩:=h;refine⟨_,h,?_,by simpa using B,by simpa using(hr.1 B).1⟩;intro H w aa ah β f l D ak _;have d:H[b]?=some (.arr k aq ai n):=by simpa using ak
  obtain⟨g,_⟩:=D a (by simp[z,fl]);obtain⟨ab,M⟩:=D x (by simp[z,fl]);rw[N]at g;simp only[aw,bO,bV]at g;have I:¬di k n:=fun G=>by rw[G.2]at hi;simp at hi
  obtain⟨_,al,Z,L,W,U,g⟩:=g;obtain⟨rfl,rfl⟩:=g k n d I;rcases l.cS b _ d with hold|⟨cs,A,av,rest,k1,k2,k3,k4,k5,k6,k7,k8⟩
  ·exact(I hold).elim
  have af:¬aa (β.al b)/\¬ah (β.al b):=by
   unfold cC at k7;rw[if_neg (by simpa using ag)]at k7;exact k7
  obtain⟨u,c,F,r1,r2,ay,ar,au⟩:=z7 k2 hi;obtain⟨pre,xs,post,e1,e2,e3,e4⟩:=pH ar hs U;have m:=yL ab ac;have q:(f x).cells.toList.length=xs.length:=by rw[(oh m).1,(oh e3).1,J]
  have ad:cs.toList=(u++pre)++xs++(post++F++rest):=by rw[k3,r1,e1];simp
  have ae:cs.size=(u++pre).length+xs.length+(post++F++rest).length:=by
   have:=congrArg hU ad;simp at this⊢;omega
  have ao:(u++pre).length=i*ai+L:=by simp[r2,e2]
  have C:=K0 z W rfl (yo hk m) k1 (zu m) o_;have aS:(cs.toList.take (i*ai+L)++(f x).cells.toList++cs.toList.drop (i*ai+L+(f x).cells.toList.length))=(u++pre)++(f x).cells.toList++(post++F++rest):=by
   rw[ad,q,<-ao,hD (u++pre),List.take_left',List.drop_append,hD]
   ·simp
   ·rfl
  rw[aS]at C;obtain⟨am,c1,c2⟩:=au j _ (e4 _ _ _ r m q) (by rw[e1];simp[q]);have aI:cm β H β (H.set b (.arr k aq ai (n.set i j))):=pB d (.inr (.inl ⟨_,_,_,_,_,rfl,rfl,s_⟩));have Q:∀y,aH H y->aH (H.set b (.arr k aq ai (n.set i j))) y:=ml d (fun _ h=>h);have an:¬di k (n.set i j):=fun G=>I ⟨G.1,by have:=G.2;rw[List.set_eq_nil_iff]at this;exact this⟩;have aj:aR (aH H) (n.set i j):=by
   rw[cO];intro v Y;rcases hF Y with Y|rfl
   ·exact cO.1 (l.refs b _ d) v Y
   ·exact vO r (cO.1 (l.refs b _ d) _ (h3 hi)) M
  have X:∀E,aa E->(w.setRow (β.al b) ((u++pre)++(f x).cells.toList++(post++F++rest)).toArray).heap[E]?=w.heap[E]?:=fun E S=>ei w _ E _ (fun O=>af.1 (O▸S));have V:=qE l d I (o':=.arr k aq ai (n.set i j)) an (fun _ h=>h) k1 (new:=((u++pre)++(f x).cells.toList++(post++F++rest)).toArray) af aI
   (.inr ⟨_,A,am,rest,eq w _ _ _ A _ k1,bL.mono (fun _ x=>x) X aI _ _ _ aj c2,by rw[c1];simp,by
    rw[<-k4,ae];simp[q];omega,by simpa using k5,fun R=>by rw[k6 R];simp,k7,(fun R=>(ag R).elim),k8.2⟩)
   (aR.mono Q _ aj)
  exact⟨_,_,_,β,aa,C,.inr ⟨rfl,rfl⟩,V,by simp[aw,aB,bm,undef],by simp[aC]⟩
 ·exact h.elim
end
section
variable{P:c6}{w:c8}{aa ah:Nat->Prop}{β:Bd}{H:Heap}
theorem Cc(P:c6)(T:c7):P.underlying T=(P.info? (P.underlyingId T)).map (fun i:dz=>i.desc):=by
 unfold ge gg;cases hi:P.info? T with
 |none=>simp[hi]
 |some i=>
  obtain⟨d,_,_,_,_,_,_,_,_,_⟩:=i;cases d<;>simp[hi]
theorem Cs{T u:c7}(h:kindOf P T=.agg u):u=P.underlyingId T/\(∃l,dL P u=some l)/\P.cellsOf T=P.cellsOf u:=by
 unfold kindOf at h
 split at h
 ·split at h
  ·rename_i hc;simp at h;subst h;simp at hc;exact⟨rfl,i7.1 hc.1,hc.2⟩
  ·simp at h
 ·split at h
  ·rename_i hc;simp at h;subst h;simp at hc;exact⟨rfl,i7.1 hc.1,hc.2⟩
  ·simp at h
 ·split at h<;>simp at h
 ·simp at h
theorem vw{T u:c7}{n:Nat}(h:fU P T=some (u,n)):∃fs l,P.underlying T=some (.struct fs)/\fs.size=n/\kindOf P T= .agg u/\dL P u=some l/\l.length=n/\
 ∀(i:Nat)(_hi:i<n),∃f,fs[i]?=some f/\f.offset=(l.take i).sum/\l[i]?=some (P.cellsOf f.type)/\0<P.cellsOf f.type/\(jX P u)[i]?=some f.type:=by
 unfold fU at h
 split at h
 case h_2=>simp at h
 rename_i u' fs hk b;simp at h;obtain⟨rfl,rfl⟩:=h;obtain⟨e,⟨l,hl⟩,_⟩:=Cs hk;refine⟨fs,l,b,rfl,hk,hl,?_⟩;have a:(P.info? u').map (fun i:dz=>i.desc)=some (.struct fs):=by rw[e,<-Cc,b]
 unfold dL at hl;rw[a]at hl;dsimp only at hl
 split at hl
 case isFalse=>simp at hl
 rename_i hc;simp at hl;simp only[cN,h4,decide_eq_true_eq,beq_iff_eq]at hc;obtain⟨⟨c,g⟩,d⟩:=hc;subst hl;refine⟨s_,fun i hi=>?_⟩;refine⟨fs[i],by simp[hi],?_,by simp[hi],?_,?_⟩
 ·have:=d (fs[i],i) (by rw[List.mem_iff_getElem?];exact⟨i,by simp[hi]⟩);simpa using this
 ·have:=c (P.cellsOf fs[i].type) (by simp;exact⟨fs[i],s_,rfl⟩);exact this
 ·unfold jX;rw[a];simp[hi]
theorem tJ{T u:c7}{n:Nat}(h:iA P T=some (u,n)):∃e,P.underlying T=some (.array n e)/\kindOf P T=.agg u/\dL P u=some (ht n (P.cellsOf e))/\0<P.cellsOf e:=by
 unfold iA at h
 split at h
 case h_2=>simp at h
 rename_i u' f e hk a;simp at h;obtain⟨rfl,rfl⟩:=h;obtain⟨c,⟨l,hl⟩,_⟩:=Cs hk;have b:(P.info? u').map (fun i:dz=>i.desc)=some (.array f e):=by rw[c,<-Cc,a]
 have d:=hl;unfold dL at hl;rw[b]at hl;dsimp only at hl
 split at hl
 case isFalse=>simp at hl
 rename_i hc;simp at hl hc;exact⟨e,a,hk,by rw[d,hl],hc.1⟩
theorem yp{p q:List (c7×Nat)}{a b:Nat}(c:gG P p=some a)(f:gG P q=some b):gG P (p++q)=some (a+b):=by
 induction p generalizing a with
 |nil=>simp[gG]at c;subst c;simpa using f
 |cons x p g=>
  obtain⟨u,i⟩:=x;simp only[gG]at c;cases d:dL P u with
  |none=>simp[d]at c
  |some l=>
   cases e:gG P p with
   |none=>simp[d,e]at c
   |some a'=>
    simp[d,e]at c;obtain⟨hi,rfl⟩:=c;simp only[hS,gG,d,g e,if_pos hi];congr 1;omega
theorem yv{u:c7}{i:Nat}{l:List Nat}(hl:dL P u=some l)(hi:i<l.length):gG P [(u,i)]=some (l.take i).sum:=by
 simp[gG,hl,hi]
variable{o:Oper}{ρ:da->AV}{base:Nat}
theorem kU(al off n:Nat):(⟨al,off,none⟩:Addr).add n=⟨al,off+n,none⟩:=by unfold Addr.add;split<;>simp_all
theorem Vz{T:c7}{a:da}{f:Nat}(v:o.op= .fieldAddr T a f){K:aU->Prop}(h:n7 P T (ρ a) f K):
 ∃e,K e/\bt P o ρ base e/\e.ak=[]/\e.aG=[]:=by
 unfold n7 at h
 split at h
 case h_2=>exact h.elim
 rename_i u n aI;obtain⟨hf,h⟩:=h;obtain⟨fs,l,J,x,hk,hl,N,E⟩:=vw aI;obtain⟨fd,g1,g2,g3,g4,g5⟩:=E f hf;have z:=yv hl (by omega:f<l.length);have B:∀(w:c8)(d:da->cR)(al off:Nat),d a=.pointer (some ⟨al,off,none⟩)->(dg d o).run P w=.ok (.value (.pointer (some ⟨al,off+(l.take f).sum,none⟩))) w:=by
  intro w d al off m;obtain⟨i,hi⟩:∃i,P.info? fd.type=some i:=by
   cases hi:P.info? fd.type with
   |none=>simp[gc,hi]at g4
   |some i=>exact⟨i,rfl⟩
  have I:(sizeOf fd.type).run P w=.ok (P.cellsOf fd.type) w:=by simp[sizeOf,typeInfo,hi,gc]
  simp only[dg,v];refine eJ ?_;have G:¬P.cellsOf fd.type=0:=o_
  simp[Instr.fieldAt,c9 J,g1,m,e6,fieldPlace,I,G,kU,g2]
 split at h
 ·rename_i b M m;refine⟨_,h,bt.same fun H w aa ah β d D r _=>?_,rfl,rfl⟩;obtain⟨c,j⟩:=r a (by simp[v,fl]);rw[m]at c j;simp only[aw,bO,bV,aC]at c j;obtain⟨_,al,off,L,A,y,p⟩:=c;refine⟨_,B w d _ _ A,?_,by simpa[aC]using j⟩;simp only[aw,bO,bV];exact⟨rfl,_,_,_,rfl,yp y z,fun q=>⟨(p q).1,by rw[(p q).2]⟩⟩
 ·rename_i b aq ai i M m;refine⟨_,h,bt.same fun H w aa ah β d D r _=>?_,rfl,rfl⟩;obtain⟨c,j⟩:=r a (by simp[v,fl]);rw[m]at c j;simp only[aw,bO,bV,aC]at c j;obtain⟨_,al,off,L,A,y,p⟩:=c;refine⟨_,B w d _ _ A,?_,by simpa[aC]using j⟩;simp only[aw,bO,bV];exact⟨rfl,_,_,_,rfl,yp y z,fun k C q x=>⟨(p k C q x).1,by rw[(p k C q x).2];omega⟩⟩
 ·rename_i t m;obtain⟨hs,h⟩:=h
  split at h
  case h_2=>exact h.elim
  rename_i g F;refine⟨_,h,?_,rfl,rfl⟩;refine bt.same fun H w aa ah β d D r _=>?_;obtain⟨c,_⟩:=r a (by simp[v,fl]);rw[m]at c;simp only[aw,aB]at c;obtain⟨al,off,O,k1,k2,k3,k4⟩:=c;refine⟨_,B w d _ _ k4,?_,by simp[aC]⟩;obtain⟨pre,xs,post,e1,e2,e3⟩:=zd (path:=[(u,f)]) (s:=g) k1 (by simp[lH,hs,F]) z;simp only[aw,aB];refine⟨al,off+(l.take f).sum,xs,e3,k2,?_,rfl⟩;intro i hi;have:=k3 (pre.length+i) (by rw[e1];simp;omega);rw[<-e2,i2,this];congr 1;simp only[e1,hD];rw[hV o_];simp only[ix];rw[hW hi]
 ·exact h.elim
end
section
variable{P:c6}{w:c8}{aa ah:Nat->Prop}{β:Bd}{H:Heap}
variable{o:Oper}{ρ:da->AV}{base:Nat}
theorem th{al off:Nat}{a pre xs post:List cR}(h:ic w al off a)(e:a=pre++xs++post):ic w al (off+pre.length) xs:=by
 intro i hi;have:=h (pre.length+i) (by rw[e];simp;omega);rw[i2,this];congr 1;simp only[e,hD];rw[hV o_];simp only[ix];rw[hW hi]
structure qJ(P:c6)(T:c7)(sz:Nat)(e:c7)(i:dz):Prop where
 gN:P.underlying T=some (.slice e)
 info:P.info? e=some i
 size:i.size=sz
 pos:0<sz
 bytes:i.bytes<32768
 aNe:0<i.bytes
 qA:dW P T=e
theorem kN{T:c7}{sz:Nat}(h:cV P T=some sz):∃e i,qJ P T sz e i:=by
 unfold cV at h
 split at h
 case h_2=>simp at h
 rename_i e a
 split at h
 case h_2=>simp at h
 rename_i i hi
 split at h
 case isFalse=>simp at h
 rename_i hc;simp at h;subst h;exact⟨e,i,a,hi,rfl,hc.2.1,hc.1,hc.2.2,by simp[dW,a]⟩
theorem qJ.run{T:c7}{sz:Nat}{e:c7}{i:dz}(h:qJ P T sz e i)(w:c8):(sizeOf e).run P w=.ok sz w:=by
 simp[sizeOf,typeInfo,h.info,h.size]
theorem Vy{T:c7}{x R:da}(B:o.op= .indexAddr T x R){H0:Heap}{K:aU->Prop}(h:n6 P T H0 (ρ x) (ρ R) K):
 ∃e,K e/\bt P o ρ base e/\(∀p∈e.ak,H0[p.1]?=some p.2)/\e.aG=[]:=by
 unfold n6 at h
 split at h
 case h_2=>exact h.elim
 rename_i ao n ag;obtain⟨C,h⟩:=h;have E:x∈o.op.operands:=by simp[B,fl]
 have aj:R∈o.op.operands:=by simp[B,fl]
 have D:∀{H:Heap}{w:c8}{aa:Nat->Prop}{β:Bd}{z:da->cR},(∀y∈o.op.operands,aw P w aa β H (ρ y) (z y)/\aC (aH H) (ρ y))->z R=.int ao n:=by
  intro H w aa β z f;have:=(f R aj).1;rw[ag]at this;simpa[aw,aB]using this
 split at h
 ·
  rename_i full d hx;obtain⟨j,r,h⟩:=h;obtain⟨e,ae,A⟩:=kN r;refine⟨_,h,bt.same fun H w aa ah β z N f _=>?_,s_,rfl⟩;obtain⟨a,_⟩:=f x E;rw[hx]at a;simp only[aw,aB]at a;obtain⟨al,off,cap,ai,U,k1,k2,k3,k4,k5,sp,ab,k6⟩:=a;obtain rfl:sp=none:=ab.resolve_right o_;have Z:Row P w aa ⟨id,id⟩ [] ai (d.map .p) U:=mj.2 k1;obtain⟨pre,c,post,r1,r2,ac,S,_⟩:=z7 Z (i:=n.toNat) (by simpa using j);have L:aV P w aa d[n.toNat] c:=by
   have:(d.map AV.p)[n.toNat]'(by simpa using j)=.p d[n.toNat]:=s_
   rw[this]at S;simpa only[bp]using S
  have W:bG P (aL d[n.toNat])=ai:=by rw[<-(n8 L).1,ac]
  refine⟨.pointer (some ⟨al,off+n.toNat*ai,none⟩),?_,?_,by simp[aC]⟩
  ·simp only[dg,B];refine eJ ?_;have q:n<(d.length:Int):=by omega
   simp[e7,D f,asIntOf,c9 A.gN,k6,C,q,A.run,W,kU]
  ·simp only[aw,aB];refine⟨al,off+n.toNat*ai,c,L,k2 (by intro F;rw[F]at j;simp at j),?_,rfl⟩;rw[<-r2];exact th k3 r1
 ·
  rename_i d hx;obtain⟨j,r,h⟩:=h;obtain⟨e,ae,A⟩:=kN r;refine⟨_,h,bt.same fun H w aa ah β z N f _=>?_,s_,rfl⟩;obtain⟨a,_⟩:=f x E;rw[hx]at a;simp only[aw,aB]at a;rcases a with⟨rfl,_⟩|⟨al,off,cap,ai,U,k1,k2,k3,k5,sp,ab,k6⟩
  ·simp at j
  obtain rfl:sp=none:=ab.resolve_right o_;have Z:Row P w aa ⟨id,id⟩ [] ai (d.map .p) U:=mj.2 k1;obtain⟨pre,c,post,r1,r2,ac,S,_⟩:=z7 Z (i:=n.toNat) (by simpa using j);have L:aV P w aa d[n.toNat] c:=by
   have:(d.map AV.p)[n.toNat]'(by simpa using j)=.p d[n.toNat]:=s_
   rw[this]at S;simpa only[bp]using S
  have W:bG P (aL d[n.toNat])=ai:=by rw[<-(n8 L).1,ac]
  refine⟨.pointer (some ⟨al,off+n.toNat*ai,none⟩),?_,?_,by simp[aC]⟩
  ·simp only[dg,B];refine eJ ?_;have q:n<(d.length:Int):=by omega
   simp[e7,D f,asIntOf,c9 A.gN,k6,C,q,A.run,W,kU]
  ·simp only[aw,aB];refine⟨al,off+n.toNat*ai,c,L,k2 (by intro F;rw[F]at j;simp at j),?_,rfl⟩;rw[<-r2];exact th k3 r1
 ·
  rename_i b aq ai off len hx;obtain⟨r,j,h⟩:=h;obtain⟨e,ae,A⟩:=kN r
  split at h
  case h_2=>exact h.elim
  rename_i k aA av d an;obtain⟨rfl,rfl,am,h⟩:=h;refine⟨_,h,bt.same fun H w aa ah β z N f ak=>?_,by simpa using an,rfl⟩;obtain⟨a,l⟩:=f x E;rw[hx]at a l;simp only[aw,bO,bV,aC]at a l;have ad:H[b]?=some (.arr k aq ai d):=by simpa using ak
  obtain⟨g1,g2,V⟩:=a.2 k d ad;have V:=V am;refine⟨.pointer (some ⟨β.al b,off*ai+n.toNat*ai,none⟩),?_,?_,by simpa[aC]using l⟩
  ·simp only[dg,B];refine eJ ?_;have q:n<(len:Int):=by omega
   simp[e7,D f,asIntOf,c9 A.gN,V,C,q,A.run,kU]
  ·simp only[aw,bO,bV];refine⟨rfl,_,_,0,rfl,rfl,fun ay au v ax=>?_⟩;unfold eA at v;rw[ad]at v;cases v;exact⟨rfl,by rw[Nat.add_mul];simp⟩
 ·
  rename_i b ar hx
  split at h
  case h_2=>exact h.elim
  rename_i u m G;obtain⟨j,h⟩:=h;obtain⟨e,Q,hk,hl,M⟩:=tJ G;refine⟨_,h,bt.same fun H w aa ah β z N f _=>?_,s_,rfl⟩;obtain⟨a,l⟩:=f x E;rw[hx]at a l;simp only[aw,bO,bV,aC]at a l;obtain⟨_,al,off,ap,Y,X,v⟩:=a;have J:=yv hl (i:=n.toNat) (by simpa using j);have O:((ht m (P.cellsOf e)).take n.toNat).sum=n.toNat*P.cellsOf e:=by rw[hB,ik o_,hz]
  have r:(sizeOf e).run P w=.ok (P.cellsOf e) w:=by
   cases hi:P.info? e with
   |none=>simp[gc,hi]at M
   |some i=>simp[sizeOf,typeInfo,hi,gc]
  refine⟨.pointer (some ⟨al,off+n.toNat*P.cellsOf e,none⟩),?_,?_,by simpa[aC]using l⟩
  ·simp only[dg,B];refine eJ ?_;have q:n<(m:Int):=by omega
   simp[e7,D f,asIntOf,c9 Q,Y,e6,C,q,r,kU]
  ·simp only[aw,bO,bV];exact⟨rfl,_,_,_,rfl,yp X J,fun I=>⟨(v I).1,by rw[(v I).2,O]⟩⟩
 ·rename_i b aq ai i ar hx
  split at h
  case h_2=>exact h.elim
  rename_i u m G;obtain⟨j,h⟩:=h;obtain⟨e,Q,hk,hl,M⟩:=tJ G;refine⟨_,h,bt.same fun H w aa ah β z N f _=>?_,s_,rfl⟩;obtain⟨a,l⟩:=f x E;rw[hx]at a l;simp only[aw,bO,bV,aC]at a l;obtain⟨_,al,off,ap,Y,X,v⟩:=a;have J:=yv hl (i:=n.toNat) (by simpa using j);have O:((ht m (P.cellsOf e)).take n.toNat).sum=n.toNat*P.cellsOf e:=by rw[hB,ik o_,hz]
  have r:(sizeOf e).run P w=.ok (P.cellsOf e) w:=by
   cases hi:P.info? e with
   |none=>simp[gc,hi]at M
   |some i=>simp[sizeOf,typeInfo,hi,gc]
  refine⟨.pointer (some ⟨al,off+n.toNat*P.cellsOf e,none⟩),?_,?_,by simpa[aC]using l⟩
  ·simp only[dg,B];refine eJ ?_;have q:n<(m:Int):=by omega
   simp[e7,D f,asIntOf,c9 Q,Y,e6,C,q,r,kU]
  ·simp only[aw,bO,bV];exact⟨rfl,_,_,_,rfl,yp X J,fun k d I F=>⟨(v k d I F).1,by rw[(v k d I F).2,O];omega⟩⟩
 ·rename_i t hx
  split at h
  case h_2=>exact h.elim
  rename_i u m G;obtain⟨hs,j,h⟩:=h
  split at h
  case h_2=>exact h.elim
  rename_i g af;obtain⟨e,Q,hk,hl,M⟩:=tJ G;refine⟨_,h,bt.same fun H w aa ah β z N f _=>?_,s_,rfl⟩;obtain⟨a,_⟩:=f x E;rw[hx]at a;simp only[aw,aB]at a;obtain⟨al,off,az,k1,k2,k3,k4⟩:=a;have J:=yv hl (i:=n.toNat) (by simpa using j);have O:((ht m (P.cellsOf e)).take n.toNat).sum=n.toNat*P.cellsOf e:=by rw[hB,ik o_,hz]
  have r:(sizeOf e).run P w=.ok (P.cellsOf e) w:=by
   cases hi:P.info? e with
   |none=>simp[gc,hi]at M
   |some i=>simp[sizeOf,typeInfo,hi,gc]
  obtain⟨pre,xs,post,e1,e2,e3⟩:=zd (path:=[(u,n.toNat)]) (s:=g) k1 (by simp[lH,hs,af]) J;refine⟨.pointer (some ⟨al,off+n.toNat*P.cellsOf e,none⟩),?_,?_,by simp[aC]⟩
  ·simp only[dg,B];refine eJ ?_;have q:n<(m:Int):=by omega
   simp[e7,D f,asIntOf,c9 Q,k4,e6,C,q,r,kU]
  ·simp only[aw,aB];refine⟨al,_,xs,e3,k2,?_,rfl⟩;rw[<-O,<-e2];exact th k3 e1
 ·exact h.elim
theorem aL7{bs:ByteArray}{s:List Nat}(h:s=bs.data.toList.map (·.toNat)){i:Nat}(hi:i<s.length):∃b:UInt8,bs[i]?=some b/\b.toNat=s[i]:=by
 subst h;have a:i<bs.size:=by simpa using hi
 refine⟨bs[i],by simp[a],?_⟩;simp only[List.getElem_map,b5];rfl
theorem Ww{T:c7}{x f:da}{s:List Nat}{k:ed}{n:Int}(e:o.op= .index T x f)(hx:ρ x= .p (.str s))(hi:ρ f= .p (.int k n))(d:iW P T=true)(i:0<=n)(g:n.toNat<s.length):
 bt P o ρ base {v:=.p (.int .u8 (s[n.toNat]'g))}:=by
 refine bt.same fun H w aa ah β m l h _=>?_;have a:=(h x (by simp[e,fl])).1;have c:=(h f (by simp[e,fl])).1;rw[hx]at a;rw[hi]at c;simp only[aw,aB]at a c;obtain⟨bs,e1,e2⟩:=a;obtain⟨b,g1,g2⟩:=aL7 e2 g;have j:P.underlying T=some .string:=by
  unfold iW at d
  split at d
  ·assumption
  ·simp at d
 refine⟨.int .u8 b.toNat,?_,by simp[aw,aB,g2],by simp[aC]⟩;simp only[dg,e,e1,c];refine eJ ?_;simp[Instr.index,asIntOf,c9 j,i,g1]
theorem WS{S D:c7}{x:da}{k k0:ed}{n:Int}(b:o.op= .convert S D x)(e:∃d,P.underlying S=some d)(c:P.underlying D=some (.int k))(hx:ρ x= .p (.int k0 n)):
 bt P o ρ base {v:=.p (.int k (k.wrap n))}:=by
 refine bt.same fun H w aa ah β i h g _=>?_;have a:=(g x (by simp[b,fl])).1;rw[hx]at a;simp only[aw,aB]at a;obtain⟨d,f⟩:=e;refine⟨.int k (k.wrap n),?_,by simp[aw,aB],by simp[aC]⟩;simp only[dg,b,a];refine eJ ?_;simp[convert,c9 f,c9 c,Conv.intToInt]
theorem WR{S D:c7}{x:da}{s:List Nat}(b:o.op= .convert S D x)(e:∃d,P.underlying S=some d)(c:P.underlying D=some .string)(hx:ρ x= .p (.str s)):
 bt P o ρ base {v:=.p (.str s)}:=by
 refine bt.same fun H w aa ah β i h g _=>?_;have a:=(g x (by simp[b,fl])).1;rw[hx]at a;simp only[aw,aB]at a;obtain⟨bs,e1,e2⟩:=a;obtain⟨d,f⟩:=e;refine⟨.string bs,?_,by simp only[aw,aB];exact⟨bs,rfl,e2⟩,by simp[aC]⟩;simp only[dg,b,e1];refine eJ ?_;simp only[convert,gx,c9 f,c9 c,gt];cases d<;>simp
theorem XD{b aq ai off len:Nat}{k:AK}{d:List AV}{v:cR}(h:aw P w aa β H (.sl b aq ai off len) v)(j:H[b]?=some (.arr k aq ai d)):∃a c,v=.slice a len c:=by
 simp only[aw,bO,bV]at h;obtain⟨f,g,i⟩:=h.2 k d j
 by_cases e:di k d
 ·rw[g e];have:len=0:=by rw[e.2]at f;simp at f;omega
  subst this;exact⟨_,_,rfl⟩
 ·exact⟨_,_,i e⟩
theorem Cz:∀{b:List (PV×PV)}{a:List ej},cF P w aa b a->a.length=b.length
 |[],a,h=>by simp only[cF]at h;subst h;rfl
 |(k,v)::r,a,h=>by
  simp only[cF]at h;obtain⟨e,rest,rfl,d,f,c⟩:=h;simp[Cz c]
theorem aKG{c:Call}{x:da}{n:Nat}{ak:List (Nat×Obj)}{H0:Heap}(F:o.op= .call c)(hc:c.callee= .builtin .len)(D:c.args.toList=[x])(hl:lenOf H0 (ρ x)=some (n,ak))(d:ir P (c.argTypes.getD 0 0) (ρ x)=true)(N:0<c.argTypes.size):
 bt P o ρ base {v:=.p (.int .i64 n),ak}/\(∀p∈ak,H0[p.1]?=some p.2):=by
 have t:x∈o.op.operands:=by
  rw[F];simp only[fl,Call.operands,hc];simp;rw[<-b1,D];simp
 have I:c.args=#[x]:=by apply cx;simpa using D
 have m:c.argTypes[0]?=some (c.argTypes.getD 0 0):=by simp[cv,N]
 have q:∀{H:Heap}{w:c8}{aa:Nat->Prop}{β:Bd}{l:da->cR},((et c.argTypes o.type #[l x]).run P w= .ok (goInt n) w)->
  ∃C,(dg l o).run P w=.ok (.value C) w/\aw P w aa β H (.p (.int .i64 n)) C/\aC (aH H) (.p (.int .i64 n)):=by
  intro H w aa β l K;refine⟨goInt n,?_,by simp[aw,aB,goInt],by simp[aC]⟩;simp only[dg,F,resolve,hc,I];simp[invoke,builtin,K]
 have M:∀T:c7,iW P T=true->P.underlying T=some .string:=by
  intro T h;unfold iW at h
  split at h
  ·assumption
  ·simp at h
 generalize Q:c.argTypes.getD 0 0=T at*;unfold lenOf at hl
 split at hl
 ·rename_i s hx;simp at hl;obtain⟨rfl,rfl⟩:=hl;rw[hx]at d;simp only[ir]at d;refine⟨bt.same fun H w aa ah β l u i _=>q ?_,s_⟩;have g:=(i x t).1;rw[hx]at g;simp only[aw,aB]at g;obtain⟨bs,e1,e2⟩:=g;have hs:s.length=bs.size:=by rw[e2];simp
  simp[et,m,c9 (M _ d),e1,hs]
 ·rename_i hx;simp at hl;obtain⟨rfl,rfl⟩:=hl;rw[hx]at d;refine⟨bt.same fun H w aa ah β l u i _=>q ?_,s_⟩;have g:=(i x t).1;rw[hx]at g;simp only[aw,aB]at g;simp only[ir]at d
  split at d
  ·rename_i e j;simp[et,m,c9 j,g]
  ·simp at d
 ·rename_i hx;simp at hl;obtain⟨rfl,rfl⟩:=hl;rw[hx]at d;refine⟨bt.same fun H w aa ah β l u i _=>q ?_,s_⟩;have g:=(i x t).1;rw[hx]at g;simp only[aw,aB]at g;simp only[ir]at d
  split at d
  ·rename_i k e j;simp[et,m,c9 j,g]
  ·simp at d
 ·rename_i f y hx;simp at hl;obtain⟨rfl,rfl⟩:=hl;rw[hx]at d;refine⟨bt.same fun H w aa ah β l u i _=>q ?_,s_⟩;have g:=(i x t).1;rw[hx]at g;simp only[aw,aB]at g;obtain⟨al,off,cap,ai,G,k1,k2,k3,k4,k5,sp,L,k6⟩:=g;simp only[ir]at d
  split at d
  ·rename_i e j;simp[et,m,c9 j,k6]
  ·simp at d
 ·rename_i y hx;simp at hl;obtain⟨rfl,rfl⟩:=hl;rw[hx]at d;refine⟨bt.same fun H w aa ah β l u i _=>q ?_,s_⟩;have g:=(i x t).1;rw[hx]at g;simp only[aw,aB]at g;simp only[ir]at d
  split at d
  ·rename_i e j;rcases g with⟨rfl,k6⟩|⟨al,off,cap,ai,G,k1,k2,k3,k5,sp,L,k6⟩
   ·simp[et,m,c9 j,k6]
   ·simp[et,m,c9 j,k6]
  ·simp at d
 ·rename_i y hx;simp at hl;obtain⟨rfl,rfl⟩:=hl;rw[hx]at d;refine⟨bt.same fun H w aa ah β l u i _=>q ?_,s_⟩;have g:=(i x t).1;rw[hx]at g;simp only[aw,aB]at g;obtain⟨r,z,clock,k1,k2,k3,k4⟩:=g;simp only[ir]at d
  split at d
  ·rename_i k e j;have:=Cz k3;have A:(getObj r).run P w=.ok (.map z clock) w:=by simp[getObj,gD,k2]
   simp at this;simp[et,m,c9 j,k4,A,this]
  ·simp at d
 ·rename_i b aq ai off len hx
  split at hl
  case h_2=>simp at hl
  rename_i k R O y B
  split at hl
  case isFalse=>simp at hl
  rename_i J;obtain⟨rfl,rfl⟩:=J;simp at hl;obtain⟨rfl,rfl⟩:=hl;rw[hx]at d;refine⟨bt.same fun H w aa ah β l u i ak=>q ?_,by simpa using B⟩;have g:=(i x t).1;rw[hx]at g;obtain⟨a,cp,e1⟩:=XD g (by simpa using ak);simp only[ir]at d
  split at d
  ·rename_i e j;simp[et,m,c9 j,e1]
  ·simp at d
 ·rename_i b hx
  split at hl
  case h_2=>simp at hl
  rename_i fz y B;simp at hl;obtain⟨rfl,rfl⟩:=hl;rw[hx]at d;refine⟨bt.same fun H w aa ah β l u i ak=>q ?_,by simpa using B⟩;have g:=(i x t).1;rw[hx]at g;simp only[aw,bO,bV]at g;have E:H[b]?=some (.map fz y):=by simpa using ak
  obtain⟨z,clock,k2,k3,_⟩:=u.cS b _ E;have e1:=g.2.1 ⟨_,E,trivial⟩;simp only[ir]at d
  split at d
  ·rename_i k e j;have:=Cz k3;have A:(getObj (β.al b)).run P w=.ok (.map z clock) w:=by simp[getObj,gD,k2]
   simp at this;simp[et,m,c9 j,e1,A,this]
  ·simp at d
 ·simp at hl
end
section
variable{P:c6}{w:c8}{aa ah:Nat->Prop}{β:Bd}{H:Heap}
variable{o:Oper}{ρ:da->AV}{base:Nat}
theorem MG:∀(a:List cR)(off j:Nat)(cells:Array cR),off+j+a.length<=cells.size->
 ((a.zipIdx j).foldl (fun cs(p:cR×Nat)=>cs.setIfInBounds (off+p.2) p.1) cells).toList=cells.toList.take (off+j)++a++cells.toList.drop (off+j+a.length)
 |[],off,j,cells,_=>by simp
 |x::a,off,j,cells,h=>by
  simp only[List.zipIdx_cons,List.foldl_cons];rw[MG a off (j+1) _ (by simp at h⊢;omega)];simp only[Array.toList_setIfInBounds,hP];have d:off+j<cells.toList.length:=by simp at h⊢;omega
  rw[show off+(j+1)=off+j+1 by omega];have b:(cells.toList.set (off+j) x).take (off+j+1)=cells.toList.take (off+j)++[x]:=by
   rw[List.take_succ_eq_append_getElem (by simpa using d)];rw[List.take_set_of_le (ii _)];simp
  have c:(cells.toList.set (off+j) x).drop (off+j+1+a.length)=cells.toList.drop (off+j+(a.length+1)):=by
   rw[List.drop_set_of_lt o_];congr 1;omega
  rw[b,c];simp
theorem VP{pre c post a:List cR}(h:a.length=c.length):((pre++c++post).take pre.length++a++(pre++c++post).drop (pre.length+a.length))=pre++a++post:=by
 rw[h];simp
theorem Cw{l:List Nat}{place:Nat->Option (Nat×Nat)}(s:∀i n,l[i]?=some n->place i=some ((l.take i).sum,n)):
 ∀{f:List (Nat×AV)}{j:List (Nat×cR)}{fs:List AV}{e:List (List cR)}{cells:Array cR},j.map js=f.map js->(∀i:Nat,aw P w aa β H (((f[i]?).map jp).getD (.p .undef)) (((j[i]?).map jp).getD undef))->
  mg P l f->bL P w aa β H l fs e->cells.toList=e.flatten->
  ∃g m,e9 place cells j=some g/\bL P w aa β H l (iV fs f) m/\g.toList=m.flatten
 |[],[],fs,e,cells,_,_,_,h,hc=>⟨cells,e,rfl,h,hc⟩
 |[],_::_,_,_,_,b,_,_,_,_=>by simp at b
 |_::_,[],_,_,_,b,_,_,_,_=>by simp at b
 |(i,a)::f,(d,v)::j,fs,e,cells,b,t,o,h,hc=>by
  simp only[hK,List.cons.injEq]at b;obtain⟨rfl,b⟩:=b;simp only[mg]at o;obtain⟨⟨n,q,hs,B⟩,o⟩:=o;have G:aw P w aa β H a v:=by simpa using t 0
  have y:=fun k=>t (k+1);simp only[hX]at y;have L:=yr h;have K:d<l.length:=(hr.1 q).1;have C:d<fs.length:=o_
  obtain⟨pre,c,post,e1,e2,e3,e4,e5,A⟩:=tO h (hA C);have J:c.length=n:=by rw[q]at e4;simpa using e4.symm
  have u:=yL G B;have x:v.cells.toList.length=n:=by rw[(oh u).1,hs]
  obtain⟨m,k1,k2⟩:=A a _ u o_;have F:cells.size=pre.length+c.length+post.length:=by
   have:=congrArg hU (hc.trans e1);simp at this;omega
  have I:v.cells.size=n:=by simpa using x
  obtain⟨oH,r⟩:∃oH,(v.cells.zipIdx.foldl (fun cs(p:cR×Nat)=>cs.setIfInBounds ((l.take d).sum+p.2) p.1) cells)=oH:=⟨_,rfl⟩
  have D:oH.toList=m.flatten:=by
   rw[<-r,k1];have:=MG v.cells.toList (l.take d).sum 0 cells (by rw[<-e2];simp at x⊢;omega);rw[<-cc];simp only[Array.toList_zipIdx];rw[this,hc,e1,i0,<-e2];exact VP o_
  obtain⟨g,z,g1,g2,g3⟩:=Cw s b y o k2 D;refine⟨g,z,?_,by simpa only[iV]using g2,g3⟩;have E:¬(v.cells.size≠n\/(l.take d).sum+v.cells.size>cells.size):=by
   rw[I,F,<-e2];omega
  simp only[e9,s d n q];simp only[Bool.or_eq_true,decide_eq_true_eq,E,if_false];simp only[<-r]at g1;exact g1
end
section
variable{P:c6}{w:c8}{aa ah:Nat->Prop}{β:Bd}{H:Heap}
variable{o:Oper}{ρ:da->AV}{base:Nat}
theorem JE{α γ:Type}(f:α->Sem γ)(g:α->γ)(w:c8):∀l:List α,(∀a∈l,(f a).run P w=.ok (g a) w)->(l.mapM f).run P w=.ok (l.map g) w
 |[],_=>by simp
 |a::l,h=>by
  simp only[h7,gx,h a s_,gt,JE f g w l (fun b c=>h b (by simp[c])),hK];rfl
theorem Vm{α γ:Type}(f:α->Sem γ)(g:α->γ)(w:c8)(a:Array α)(h:∀x∈a.toList,(f x).run P w=.ok (g x) w):(a.mapM f).run P w=.ok (a.toList.map g).toArray w:=by
 rw[b3,g0,JE f g w _ h];rfl
theorem LB{ρc:da->cR}{parts:Array (Nat×da)}(h:∀p∈parts.toList,aw P w aa β H (ρ p.2) (ρc p.2)):
 ((parts.map fun(i,x)=>(i,ρc x)).toList).map js=(parts.toList.map fun(i,x)=>(i,ρ x)).map js/\
 ∀i:Nat,aw P w aa β H ((((parts.toList.map fun(i,x)=>(i,ρ x))[i]?).map jp).getD (.p .undef)) ((((parts.map fun(i,x)=>(i,ρc x)).toList[i]?).map jp).getD undef):=by
 refine⟨by simp[Function.comp_def],fun i=>?_⟩;simp only[ce,h2];cases a:parts.toList[i]? with
 |none=>simp[aw,aB]
 |some p=>simpa using h p (hE a)
theorem CU{S:Nat×Nat->Prop}:∀{b:List (Nat×AV)}{fs:List AV},aR S fs->(∀p∈b,aC S p.2)->aR S (iV fs b)
 |[],fs,h,_=>h
 |(i,v)::r,fs,h,a=>by
  simp only[iV];refine CU ?_ (fun p c=>a p (by simp[c]));rw[cO]at h⊢;intro x hx;rcases hF hx with hx|rfl
  ·exact h x hx
  ·exact a (i,x) s_
theorem LC{c:Array (Nat×da)}{p:Nat×da}(a:p∈c.toList):p.2∈((c.toList.map (·.2)).toArray:Array da):=by
 simp;exact⟨p.1,by simpa using a⟩
theorem Y5{T u:c7}{z:PV}{l:List Nat}{c:Array (Nat×da)}(t:o.op= .build T c)(hk:kindOf P T= .agg u)(U:cK P T=some z)(hl:dL P u=some l)(hs:aL z= .agg u)
 (O:mg P l (c.toList.map fun(i,x)=>(i,ρ x))):bt P o ρ base {v:=iC u (iV ((cH z).map .p) (c.toList.map fun(i,x)=>(i,ρ x)))}:=by
 obtain⟨i,ad,K,z2,z3,z4⟩:=ph U;refine bt.same fun H w aa ah β m ai V _=>?_;have F:∀p∈c.toList,aw P w aa β H (ρ p.2) (m p.2)/\aC (aH H) (ρ p.2):=fun p g=>V p.2 (by rw[t];exact LC g);obtain⟨X,Y⟩:=LB (ρ:=ρ) (ρc:=m) (parts:=c) (fun p g=>(F p g).1);have G:=z3 w aa;obtain⟨fs,rfl⟩:∃fs,z=.st u fs:=by cases z<;>simp[aL]at hs;subst hs;exact⟨_,rfl⟩
 simp only[aV]at G;obtain⟨W,ae,q1,Z,ab⟩:=G;rw[hl]at q1;cases q1
 have D:∀y:Nat->Option (Nat×Nat),(∀i n,l[i]?=some n->y i=some ((l.take i).sum,n))->
  (∀cells,e9 y ad.cells (c.map fun(i,x)=>(i,m x)).toList=some cells->(dg m o).run P w=.ok (.value (.agg cells)) w)->
  ∃B,(dg m o).run P w=.ok (.value B) w/\aw P w aa β H (iC u (iV ((cH (.st u fs)).map .p) (c.toList.map fun(i,x)=>(i,ρ x)))) B/\
   aC (aH H) (iC u (iV ((cH (.st u fs)).map .p) (c.toList.map fun(i,x)=>(i,ρ x)))):=by
  intro y Q S;obtain⟨L,M,g1,g2,g3⟩:=Cw Q X Y O (od.2 Z) ab;refine⟨.agg L,S _ g1,?_,Ce (CU (jw _ _) ?_)⟩
  ·rw[ZO];simp only[aw];exact⟨l,M,hl,g2,by rw[<-g3]⟩
  ·intro p g;simp only[h9]at g;obtain⟨q,hq,rfl⟩:=g;exact(F q hq).2
 have k:=hk;unfold kindOf at k
 split at k
 ·rename_i a d;have aI:fU P T=some (u,a.size):=by unfold fU;rw[hk,d]
  obtain⟨af,W,s1,s2,A,s,ac,I⟩:=vw aI;rw[d]at s1;cases s1;rw[hl]at s;cases s;have R:(a.mapM fun f=>(do pure (f.offset,<-sizeOf f.type):Sem (Nat×Nat))).run P w=.ok (a.toList.map fun f:Field=>(f.offset,P.cellsOf f.type)).toArray w:=by
   refine Vm _ _ w _ (fun f hf=>?_);obtain⟨j,r,rfl⟩:=List.mem_iff_getElem.1 hf;obtain⟨C,g1,g2,g3,g4,g5⟩:=I j (by simpa using r);have:a[j]'(by simpa using r)=C:=by
    have E:a[j]?=some (a[j]'(by simpa using r)):=Array.getElem?_eq_getElem (by simpa using r);rw[g1]at E;exact(i9 E).symm
   simp only[b5,this];simp[J g4]
  refine D (fun i=>(a.toList.map fun f:Field=>(f.offset,P.cellsOf f.type)).toArray[i]?) ?_ (fun cells hc=>?_)
  ·intro i n b;have hi:i<a.size:=by rw[<-ac];exact(hr.1 b).1
   obtain⟨C,g1,g2,g3,g4,g5⟩:=I i hi;rw[b]at g3;simp only[List.getElem?_toArray,h2,bv,g1];simp[g2,i9 g3]
  ·simp only[dg,t];refine eJ ?_;simp only[fb,gx,tA K z2,gt,c9 d,R,hc,gy]
 ·rename_i n e d;have N:iA P T=some (u,n):=by unfold iA;rw[hk,d]
  obtain⟨e',s1,s2,A,s⟩:=tJ N;rw[d]at s1;cases s1;rw[hl]at A;cases A;refine D (fun i=>some (i*P.cellsOf e,P.cellsOf e)) ?_ (fun cells hc=>?_)
  ·intro i aj b;rw[hC]at b
   split at b
   ·rename_i ag;simp at b;subst b;rw[hB,ik o_,hz]
   ·simp at b
  ·simp only[dg,t];refine eJ ?_;simp only[fb,gx,tA K z2,gt,c9 d,J s,hc,gy]
 ·split at k<;>simp at k
 ·simp at k
where
 J {P:c6} {w:c8} {T:c7} (h:0<P.cellsOf T):(sizeOf T).run P w=.ok (P.cellsOf T) w:=by
  cases hi:P.info? T with
  |none=>simp[gc,hi]at h
  |some i=>simp[sizeOf,typeInfo,hi,gc]
theorem yE(a:Array cR)(n:Nat)(_h:0<a.size):((b0 (n*a.size)).map (a[·% a.size]!)).toList=(ht n a.toList).flatten:=by
 simp only[ce,Array.toList_range]
 induction n with
 |zero=>simp
 |succ n c=>
  rw[i3,List.range_add,List.map_append,c,List.replicate_succ',List.flatten_append];congr 1;simp only[List.map_map,hN,List.flatten_nil,h6];refine List.ext_getElem s_ (fun i b d=>?_);simp at b;simp[Nat.mul_add_mod_self_right,Nat.mod_eq_of_lt b,b,getElem!_pos]
theorem vx{z:PV}{a:List cR}(h:aV P w aa z a):∀n:Nat,Row P w aa β H a.length (ht n (.p z)) (ht n a)
 |0=>iQ.2 rfl
 |n+1=>by
  rw[hL,hL,qM];exact⟨a,_,rfl,by simpa only[bp]using h,rfl,vx h n⟩
theorem yM(d:b7 P w aa β H ah){b:Nat}(c:H[b]?=some .hole){cells:Array cR}{T:c7}{k:AK}{ai cap:Nat}{a:List AV}{e:List (List cR)}{rest:List cR}(f:k≠ .frozen)(m:¬di k a)
 (n:Row P w aa β H ai a e)(g:aR (aH H) a)(hc:cells.toList=e.flatten++rest)(o:cells.size=cap*ai)(l:a.length<=cap)(j:k=.exact->cap=a.length)(p:k=.bytes->T=Gl.u8):
 bZ P ah aa w β H aa {w with heap:=w.heap.push (.cells cells T)} (β.at b w.heap.size cap) (H.set b (.arr k 0 ai a))/\
 aw P {w with heap:=w.heap.push (.cells cells T)} aa (β.at b w.heap.size cap) (H.set b (.arr k 0 ai a)) (.sl b 0 ai 0 a.length) (.slice (some ⟨w.heap.size,0,none⟩) a.length cap):=by
 have aI:=yW (β:=β) c (.arr k 0 ai a) w.heap.size cap;have ak:∀y,aH H y->aH (H.set b (.arr k 0 ai a)) y:=ml c (fun _ h=>h.elim);have i:=(hr.1 c).1;refine⟨tD (cap:=cap) d c (ob:=.cells cells T)
  (.inr ⟨cells,T,e,rest,by simp[Bd.at],bL.mono (fun _ x=>x) (fun k hk=>vD _ _ (d.bX k hk)) aI _ _ _ g n,hc,by simp[Bd.at,o],by simpa[Bd.at]using l,by simpa[Bd.at]using j,by
   unfold cC;rw[if_neg (by simpa using f)];simp only[Bd.at,if_true];exact⟨fun h=>ip _ (d.bX _ h),fun h=>ip _ (d.eX _ h)⟩,(fun h=>(f h).elim),p⟩) (aR.mono ak _ g),?_⟩
 simp only[aw,bO,bV];refine⟨rfl,fun r q hl=>?_⟩;unfold eA at hl;rw[hv i]at hl;cases hl;exact⟨o_,fun h=>(m h).elim,fun _=>by simp[Bd.at]⟩
theorem Vp{T:c7}{n sz:Nat}{z:PV}{a:Array (Nat×da)}(C:o.op= .buildSlice T n a)(b:cV P T=some sz)(X:cK P (dW P T)=some z)(hs:bG P (aL z)=sz)(ae:n*sz<=1000000)
 (Q:mg P (ht n sz) (a.toList.map fun(i,x)=>(i,ρ x))):
 bt P o ρ base {v:=.sl base 0 sz 0 n,aS:=[.arr .exact 0 sz (iV (ht n (.p z)) (a.toList.map fun(i,x)=>(i,ρ x)))]}:=by
 obtain⟨e,ag,b⟩:=kN b;obtain⟨i,f,I,z2,z3,z4⟩:=ph X;rw[b.qA]at I;intro H w aa ah β t R Z _ N;have B:H[base]?=some .hole:=by simpa using N 0 s_
 have D:∀p∈a.toList,aw P w aa β H (ρ p.2) (t p.2)/\aC (aH H) (ρ p.2):=fun p d=>Z p.2 (by rw[C];exact LC d);obtain⟨ab,ac⟩:=LB (ρ:=ρ) (ρc:=t) (parts:=a) (fun p d=>(D p d).1);have F:=z3 w aa;have s:f.cells.size=sz:=by have:=(n8 F).1;simp at this;omega
 have r:=vx (β:=β) (H:=H) F n;have Y:f.cells.toList.length=sz:=by simpa using s
 rw[Y]at r;obtain⟨y,m⟩:∃c,c=(b0 (n*sz)).map (f.cells[·% f.cells.size]!):=⟨_,rfl⟩
 have O:y.toList=(ht n f.cells.toList).flatten:=by
  rw[m,<-s];exact yE _ _ (by rw[s];exact b.pos)
 have U:bL P w aa β H (ht n sz) (ht n (.p z)) (ht n f.cells.toList):=by
  unfold Row at r;simpa using r
 obtain⟨u,J,g1,g2,g3⟩:=Cw (place:=fun i=>some (i*sz,sz)) (by
  intro i af j;rw[hC]at j
  split at j
  ·rename_i ad;simp at j;subst j;rw[hB,ik o_,hz]
  ·simp at j) ab ac Q U O
 have l:(iV (ht n (.p z)) (a.toList.map fun(i,x)=>(i,ρ x))).length=n:=by
  have:=(yr g2).2.1;simpa using this
 have E:Row P w aa β H sz (iV (ht n (.p z)) (a.toList.map fun(i,x)=>(i,ρ x))) J:=by unfold Row;rw[l];exact g2
 have S:aR (aH H) (iV (ht n (.p z)) (a.toList.map fun(i,x)=>(i,ρ x))):=by
  refine CU ?_ ?_
  ·rw[cO];intro v W;rw[hO W];simp[aC]
  ·intro p d;simp only[h9]at d;obtain⟨q,hq,rfl⟩:=d;exact(D q hq).2
 have M:u.size=n*sz:=by
  have A:=(gh E).2;rw[l,<-g3]at A;simpa using A
 have V:(dg t o).run P w=.ok (.value (.slice (some ⟨w.heap.size,0,none⟩) n n)) {w with heap:=w.heap.push (.cells u e)}:=by
  simp only[dg,C];have K:¬(n*sz>2^24):=o_
  have L:n*sz=0->(b0 (n*sz)).map ((#[]:Array cR)[·% (#[]:Array cR).size]!)=y:=by
   intro g;rw[m,g];simp
  refine vt ?_;simp only[Instr.buildSlice,gx,c9 b.gN,gt,b.run,if_neg K]
  by_cases g:n*sz=0
  ·rw[if_pos g];simp only[gx,gy,gt,L g,g1,newRow,ee]
  ·rw[if_neg g];simp only[gx,gy,gt,tA I z2,<-m,g1,newRow,ee]
 obtain⟨q1,G⟩:=yM (T:=e) (k:=.exact) R B s_ (by simp[di,AK.gr]) E S (rest:=[]) (by simpa using g3) (by rw[M]) (by omega:_<=n) (fun _=>l.symm) (fun h=>by cases h);rw[l]at G;exact⟨_,_,_,_,aa,V,.inl rfl,q1,G,by
  simp only[aC,l8];exact⟨_,hv (hr.1 B).1,ii _⟩⟩
theorem Vx{T:c7}{lo q:da}{sz:Nat}{z:PV}{l:Int}(t:o.op= .makeSlice T lo q)(a:cV P T=some sz)(W:cK P (dW P T)=some z)(hl:ρ lo= .p (.int .i64 l))(hc:ρ q= .p (.int .i64 l))
 (hs:bG P (aL z)=sz)(b:0<=l)(L:l<=cM):bt P o ρ base {v:=.sl base 0 sz 0 l.toNat,aS:=[.arr .exact 0 sz (ht l.toNat (.p z))]}:=by
 obtain⟨e,d,a⟩:=kN a;obtain⟨i,g,D,z2,z3,z4⟩:=ph W;rw[a.qA]at D;intro H w aa ah β Y N B _ K;have u:H[base]?=some .hole:=by simpa using K 0 s_
 have r:=(B lo (by simp[t,fl])).1;have j:=(B q (by simp[t,fl])).1;rw[hl]at r;rw[hc]at j;simp only[aw,aB]at r j;have A:=z3 w aa;have m:g.cells.size=sz:=by have:=(n8 A).1;simp at this;omega
 obtain⟨n,rfl⟩:=Int.eq_ofNat_of_zero_le b;have y:=vx (β:=β) (H:=H) A n;have X:g.cells.toList.length=sz:=by simpa using m
 rw[X]at y;obtain⟨f,s⟩:∃c,c=(b0 (n*sz)).map (g.cells[·% g.cells.size]!):=⟨_,rfl⟩
 have x:f.toList=(ht n g.cells.toList).flatten:=by
  rw[s,<-m];exact yE _ _ (by rw[m];exact a.pos)
 have M:n<=1073741824:=by unfold cM at L;omega
 have E:d.bytes*n<=32768*1073741824:=Nat.mul_le_mul (by have:=a.bytes;omega) M;have O:(dg Y o).run P w=.ok (.value (.slice (some ⟨w.heap.size,0,none⟩) n n)) {w with heap:=w.heap.push (.cells f e)}:=by
  simp only[dg,t,r,j];have V:IntKind.i64.wrap (n:Int)=n:=IntWalk.i64_in _ o_;have Q:¬((n:Int)<0):=o_
  have R:¬((d.bytes:Int)*n>2^48):=by
   intro J;have j:d.bytes*n<=35184372088832:=E;have Z:((d.bytes*n:Nat):Int)>281474976710656:=by rw[Int.natCast_mul];exact J
   omega
  have F:n*sz=0->(b0 (n*sz)).map ((#[]:Array cR)[·% (#[]:Array cR).size]!)=f:=by
   intro b;rw[s,b];simp
  have S:(typeInfo e).run P w=.ok d w:=by simp[typeInfo,a.info]
  have G:((decide ((n:Int)<0)||decide ((d.bytes:Int)*n>2^48))||decide ((n:Int)<0)||decide ((n:Int)>n))=false:=by
   simp only[Q,R,decide_false,Bool.or_false,Bool.false_or];simp
  refine vt ?_;simp only[Instr.makeSlice,gx,c9 a.gN,gt,asInt,asIntOf,gy,S,V];rw[if_neg (by simpa using G)];simp only[gx,run_askRoom,gt,a.run,Int.toNat_natCast]
  by_cases b:n*sz=0
  ·rw[if_pos b];simp only[gx,gy,gt,F b,newRow,ee]
  ·rw[if_neg b];simp only[gx,gy,gt,tA D z2,<-s,newRow,ee]
 have I:f.size=n*sz:=by
  have:=congrArg hU x;simp at this;rw[this];simp[m]
 obtain⟨q1,C⟩:=yM (T:=e) (k:=.exact) N u (cells:=f) (cap:=n) s_ (by simp[di,AK.gr]) y (by
  rw[cO];intro v U;rw[hO U];simp[aC]) (rest:=[]) (by simpa using x) I s_ (fun _=>by simp) (fun h=>by cases h)
 simp only[List.length_replicate]at C;exact⟨_,_,_,_,aa,O,.inl rfl,q1,C,by
  simp only[aC,l8];exact⟨_,hv (hr.1 u).1,ii _⟩⟩
end
end Go.au
