import Derived.Test.YtpojdjgcpgnaeaaGreatDoorMZ
import Derived.Calls
import Derived.Laws.Sem
import Derived.IntWalk
import Derived.Laws.Cells
import Derived.Laws.CopyRow
import Derived.Laws.Entries
import Derived.RangeFuncRecord
import Derived.RangeFuncNested
import Derived.Lib.Strings
import Derived.Laws.Append
/- Parts of a proof. -/
set_option linter.unusedSimpArgs false
set_option linter.unusedVariables false
set_option linter.unusedSectionVars false
open Array renaming getElem?_eq_some_iff->bl, replicate->bo, getD_eq_getD_getElem?->bv, getElem?_toList->bw, range->b0, mem_toList_iff->b1, getElem?_setIfInBounds_ne->b2, ext'->b3, mapM_eq_mapM_toList->b4, mem_of_getElem?->b5, getElem_toList->ca, getElem?_push->cb, foldl_toList->cc, toList_map->ck, toList->cx, getD->cy
open BitVec renaming ofInt->c6
open Bool renaming false_eq_true->c9, and_eq_true->da
open Go renaming Value->db, run_underlying->dg, TypeId->dl, Program->dp, World->dq, Operand->dx, execOp->dy, step_lone_go->dz, FuncId->ea, Deferred->eb, Frame->ec, TypeInfo->ed, step_leave_returned->ee, Steps->ei, ResultVar->ej, Machine->ek, IntKind->em, run_newObj->en, setRow_other->eo, MapEntry->eq, run_firstCells_some->er, run_storeCells_at->ew, Calls->ey, Obj->eP, setRow_size->e7, setRow_heap->e8, BinOp->e9
open Go.Builtin renaming firstCells->fa, append_->fb, len_->fi, lenOf->fl, zeroCells->fm, nextslicecap->fp
open Go.Deferred renaming ofValue->fv
open Go.Frame renaming round->gb, enter->gc
open Go.Instr renaming slice->ge, sureAddr->gg, sliceBounds->gi, indexAt->gj, sliceAt->gm, sliceBound->gt, yield->gx, fill->gy, build->gU
open Go.Op renaming operands->g0, unary->g7, intArith->g8, intBits->g9
open Go.Program renaming cellsOf->ha, underlying->hb, underlyingId->hd
open Go.Region renaming wanted->hg, schedule->hh, binds->hj
open Go.Result renaming andThen_ok->hl
open Go.Sem renaming run_bind->hm, run_pure->ho, run->hp, run_map->hr
open Go.Steps renaming one->ht, trans->hv, refl->hw
open Go.Value renaming oneCell'->hA, cells->hB, int->hC
open Go.World renaming putObj_heap_other->hD, size_alloc->hE, cell?->hF
open Go.stepG renaming exec->hG, apply->hH, oper->hJ
open List renaming getElem?_eq_some_iff->hK, replicate->hL, getElem?_set_self->hM, getElem?_set_ne->hN, sum_replicate_nat->hO, length_eq_zero_iff->hP, getElem?_eq_getElem->hQ, take_replicate->hR, getElem?_replicate->hS, append_assoc->hT, mem_of_getElem?->hU, mem_or_eq_of_mem_set->hV, getElem?_append_left->hW, flatten_cons->hX, map_cons->hZ, mem_append->h0, replicate_succ->h1, getElem?_append_right->h2, eq_of_mem_replicate->h3, length_cons->h4, take_append_drop->h5, drop_take->h6, length_append->h7, cons_append->h8, range'->h9, length->ih, getElem_append_right->ii, map_take->ik, getElem_append_left->ip, getElem?_cons_succ->ix, set_append_right->iy, mem_of_mem_take->i0, mem_of_mem_drop->i1, flatten_append->i2, set_cons_zero->i3, mem_singleton->i4, getElem?_map->i5, getElem_mem->i6, all_eq_true->i7, nil_append->i8, length_set->i9, append_nil->jh, mapM_cons->jp, drop_drop->js, map_drop->j0, mem_map->j1, range->j2
open Nat renaming le_refl->j3, min_eq_left->j4, lt_irrefl->j5, add_sub_cancel_left->j6, add_zero->j7, le_trans->j8, lt_of_lt_of_le->j9, mul_le_mul->kb, add_assoc->kc, succ_mul->kk, ne_of_lt->km, add_mul->ko
open Ne renaming symm->kp
open Option renaming map_none->kr, isSome_iff_exists->kv, bind_some->kw
open Option.some renaming injEq->ky, inj->la
open Prod renaming snd->lb, fst->lc
namespace Go.az
set_option linter.unusedSectionVars false
inductive PV where
 |undef
 |bool (b:Bool)
 |int (k:em) (n:Int)
 |str (s:List Nat)
 |fU
 |cE (t:PV)
 |aK
 |cZ (full:Bool) (es:List PV)
 |seq (es:List PV)
 |fM
 |eJ (es:List (PV×PV))
 |func (f:ea) (first iV:List PV)
 |iX
 |ia
 |st (u:dl) (fs:List PV)
 |aD (vs:List PV)
 deriving Inhabited
inductive AV where
 |p (v:PV)
 |ptr (b:Nat) (path:List (dl×Nat))
 |cm (b aE al i:Nat) (path:List (dl×Nat))
 |sl (b aE al off len:Nat)
 |map (b:Nat)
 |func (f:ea) (first iV:List AV)
 |st (u:dl) (fs:List AV)
 |aD (vs:List AV)
 deriving Inhabited
inductive AK where|exact|grow|frozen|bytes
 deriving DecidableEq
def AK.gr:AK->Bool
 | .grow| .bytes=>true
 |_=>false
structure eA where
 st:LoopState
 pending:Option Code
 n:Nat
 params:List Tmp
 assign:Code
 body:Code
 env:List (Nat×AV)
inductive Obj where
 |hole
 |dead
 |box (fz:Bool) (t:AV)
 |arr (k:AK) (aE al:Nat) (es:List AV)
 |map (fz:Bool) (es:List (PV×PV))
 |eL (s:List Nat) (pos:Nat)
 |loop (L:eA)
 deriving Inhabited
abbrev ah:=List Obj
abbrev Env:=List (Nat×AV)
structure St where
 env:Env
 heap:ah
def aP(e:Env)(t:Nat):AV:=
 match e with
 |[]=>.p .undef
 |(k,v)::r=>if t=k then v else aP r t
inductive kz where|bad|leaf|agg (u:dl)
 deriving DecidableEq
def aL:PV->kz
 | .undef| .aD _=>.bad
 | .st u _=>.agg u
 |_=>.leaf
def ad:AV->kz
 | .p v=>aL v
 | .aD _=>.bad
 | .st u _=>.agg u
 |_=>.leaf
def bW:PV->List PV
 | .st _ fs=>fs
 |_=>[]
section tables
variable(P:dp)
def dw(u:dl):Option (List Nat):=
 match(P.info? u).map (fun i:ed=>i.desc)with
 |some (.struct fs)=>
  let l:=fs.toList.map fun f=>P.cellsOf f.type
  if l.all (0<·)&&l.sum==P.cellsOf u&&(fs.toList.zipIdx.all fun(f,i)=>f.offset==(l.take i).sum)then some l else none
 |some (.array n e)=>if 0<P.cellsOf e&&n*P.cellsOf e==P.cellsOf u then some (hL n (P.cellsOf e))else none
 |_=>none
def kindOf(T:dl):kz:=
 match P.underlying T with
 |some (.struct _)|some (.array _ _)=>
  if(dw P (P.underlyingId T)).isSome&&P.cellsOf T==P.cellsOf (P.underlyingId T)then .agg (P.underlyingId T)else .bad
 |some _=>if P.cellsOf T==1 then .leaf else .bad
 |none=>.bad
def bP:kz->Nat
 | .bad=>0
 | .leaf=>1
 | .agg u=>P.cellsOf u
def kC(u:dl):List dl:=
 match(P.info? u).map (fun i:ed=>i.desc)with
 |some (.struct fs)=>fs.toList.map (·.type)
 |some (.array n e)=>hL n e
 |_=>[]
end tables
def ofConst:db->PV
 | .bool b=>.bool b
 | .int k n=>.int k n
 | .string s=>.str (s.data.toList.map (·.toNat))
 | .pointer none=>.fU
 | .slice none 0 0=>.aK
 | .map none=>.fM
 | .nilFunc=>.iX
 | .nilIface=>.ia
 |_=>.undef
def qR(P:dp)(a:dl->List db->Option PV):List dl->List Nat->List db->Option (List PV)
 |[],[],[]=>some []
 |T::b,s::c,cs=>
  if(cs.take s).length=s then
   match a T (cs.take s),qR P a b c (cs.drop s)with
   |some v,some vs=>if bP P (aL v)=s then some (v::vs)else none
   |_,_=>none
  else none
 |_,_,_=>none
def vC(P:dp):Nat->dl->List db->Option PV
 |0,_,_=>none
 |n+1,T,cs=>
  match kindOf P T with
  | .leaf=>match cs with
   |[c]=>match ofConst c with
    | .undef=>none
    |v=>some v
   |_=>none
  | .agg u=>match dw P u with
   |some l=>
    match qR P (vC P n) (kC P u) l cs with
    |some fs=>some (.st u fs)
    |none=>none
   |none=>none
  | .bad=>none
def BX:db->kz->Bool
 | .agg _,.agg _=>true
 | .agg _,_=>false
 |_,.agg _=>false
 |_,_=>true
def cG(P:dp)(T:dl):Option PV:=
 match(P.info? T).bind (·.zero)with
 |some z=>if BX z (kindOf P T)then vC P 40 T z.cells.toList else none
 |none=>none
section relation
variable(P:dp)(w:dq)(aa:Nat->Prop)
def iB(aw off:Nat)(cs:List db):Prop:=∀i(h:i<cs.length),w.cell? ⟨aw,off+i,none⟩=some cs[i]
mutual
def aX:PV->List db->Prop
 | .undef,_| .aD _,_=>False
 | .bool b,cs=>cs=[.bool b]
 | .int k n,cs=>cs=[.int k n]
 | .str s,cs=>∃bs:ByteArray,cs=[.string bs]/\s=bs.data.toList.map (·.toNat)
 | .fU,cs=>cs=[.pointer none]
 | .cE t,cs=>∃aw off ts,aX t ts/\aa aw/\iB w aw off ts/\cs=[.pointer (some ⟨aw,off,none⟩)]
 | .aK,cs=>cs=[.slice none 0 0]
 | .cZ full es,cs=>∃aw off cap al a,bn (hL es.length al) es a/\(es≠[]->aa aw)/\iB w aw off a.flatten/\
  (full=true->cap=es.length)/\es.length<=cap/\∃sp,(sp=none\/cap=0)/\cs=[.slice (some ⟨aw,off,sp⟩) es.length cap]
 | .seq es,cs=>(es=[]/\cs=[.slice none 0 0])\/∃aw off cap al a,bn (hL es.length al) es a/\(es≠[]->aa aw)/\iB w aw off a.flatten/\
  es.length<=cap/\∃sp,(sp=none\/cap=0)/\cs=[.slice (some ⟨aw,off,sp⟩) es.length cap]
 | .fM,cs=>cs=[.map none]
 | .eJ es,cs=>∃r g i,aa r/\w.heap[r]?=some (.map g i)/\cW es g.toList/\cs=[.map (some r)]
 | .func f first iV,cs=>∃h cv,bO first h/\bO iV cv/\cs=[.func (.func f) h.toArray cv.toArray]
 | .iX,cs=>cs=[.nilFunc]
 | .ia,cs=>cs=[.nilIface]
 | .st u fs,cs=>∃l a,dw P u=some l/\bn l fs a/\cs=a.flatten
def bn:List Nat->List PV->List (List db)->Prop
 |[],[],a=>a=[]
 |n::o,v::vs,a=>∃c cs,a=c::cs/\aX v c/\c.length=n/\bn o vs cs
 |_,_,_=>False
def aF:PV->db->Prop
 | .undef,_=>True
 | .aD vs,v=>∃d,bO vs d/\v=.tuple d.toArray
 | .st u fs,v=>∃l a,dw P u=some l/\bn l fs a/\v=.agg a.flatten.toArray
 | .bool b,v=>v=.bool b
 | .int k n,v=>v=.int k n
 | .str s,v=>∃bs:ByteArray,v=.string bs/\s=bs.data.toList.map (·.toNat)
 | .fU,v=>v=.pointer none
 | .cE t,v=>∃aw off ts,aX t ts/\aa aw/\iB w aw off ts/\v=.pointer (some ⟨aw,off,none⟩)
 | .aK,v=>v=.slice none 0 0
 | .cZ full es,v=>∃aw off cap al a,bn (hL es.length al) es a/\(es≠[]->aa aw)/\iB w aw off a.flatten/\
  (full=true->cap=es.length)/\es.length<=cap/\∃sp,(sp=none\/cap=0)/\v=.slice (some ⟨aw,off,sp⟩) es.length cap
 | .seq es,v=>(es=[]/\v= .slice none 0 0)\/∃aw off cap al a,bn (hL es.length al) es a/\(es≠[]->aa aw)/\iB w aw off a.flatten/\
  es.length<=cap/\∃sp,(sp=none\/cap=0)/\v=.slice (some ⟨aw,off,sp⟩) es.length cap
 | .fM,v=>v=.map none
 | .eJ es,v=>∃r g i,aa r/\w.heap[r]?=some (.map g i)/\cW es g.toList/\v=.map (some r)
 | .func f first iV,v=>∃h cv,bO first h/\bO iV cv/\v=.func (.func f) h.toArray cv.toArray
 | .iX,v=>v=.nilFunc
 | .ia,v=>v=.nilIface
def bO:List PV->List db->Prop
 |[],d=>d=[]
 |v::vs,d=>∃y m,d=y::m/\aF v y/\bO vs m
def cW:List (PV×PV)->List eq->Prop
 |[],es=>es=[]
 |(k,v)::r,es=>∃e j,es=e::j/\aF k e.key/\aF v e.val/\cW r j
end
end relation
class Gl where
 g:Nat->PV
 u8:dl
 raw:Nat->Option (Array db)
 bx:dl->Option dl
 Cj:Nat->Bool
def kn[Gl](T:dl)(s:kz):Bool:=match s with
 | .agg u=>match Gl.bx u with
  |some a=>Nat.beq T a
  |none=>true
 |_=>true
structure oG[Gl](P:dp)(w:dq)(aa:Nat->Prop):Prop where
 val:∀g,aF P w aa (Gl.g g) (.pointer (some ⟨g,0,none⟩))
 raw:∀g cs,Gl.raw g=some cs->aa g/\∃T,w.heap[g]?=some (.cells cs T (0,0))
 Cj:∀g,Gl.Cj g=true->aa g/\∃te pe T,w.heap[g]?=some (.cells #[.iface te pe] T (0,0))
end Go.az
namespace Go.az
variable[Gl]
structure Bd where
 aw:Nat->Nat
 cap:Nat->Nat
def gT(P:dp):List (dl×Nat)->Option Nat
 |[]=>some 0
 |(u,i)::r=>
  match dw P u,gT P r with
  |some l,some o=>if i<l.length then some ((l.take i).sum+o)else none
  |_,_=>none
def Obj.kd:Obj->Nat
 | .box _ _| .eL _ _=>1
 | .map _ _=>2
 | .loop _=>3
 |_=>0
section
variable(P:dp)(w:dq)(aa:Nat->Prop)(β:Bd)(H:ah)
def mR(k b:Nat):Prop:=∃o,H[b]?=some o/\o.kd=k+1
abbrev SZ(b:Nat):Prop:=mR H 0 b
def iD(b aE al:Nat)(k:AK)(a:List AV):Prop:=H[b]?=some (.arr k aE al a)
def dQ(k:AK)(a:List AV):Prop:=k.gr=true/\a=[]
abbrev S0(b:Nat):Prop:=mR H 1 b
def ja(b:Nat):Prop:=(∃L,H[b]?=some (.loop L))
theorem uz{H:ah}{b:Nat}:mR H 2 b↔ja H b:=
 ⟨fun⟨o,h,hk⟩=>by cases o<;>first|exact⟨_,h⟩|simp[Obj.kd]at hk,fun⟨_,h⟩=>⟨_,h,rfl⟩⟩
def cg:AV->db->Prop
 | .ptr b path,v=>∃aw off o,v=.pointer (some ⟨aw,off,none⟩)/\gT P path=some o/\(SZ H b->aw=β.aw b/\off=o)
 | .cm b aE al i path,v=>∃aw off o,v=.pointer (some ⟨aw,off,none⟩)/\gT P path=some o/\∀k a,iD H b aE al k a->¬dQ k a->aw=β.aw b/\off=i*al+o
 | .sl b aE al off len,v=>∀k a,iD H b aE al k a->
  off+len<=a.length/\(dQ k a->v=.slice none 0 0)/\(¬dQ k a->v=.slice (some ⟨β.aw b,off*al,none⟩) len (β.cap b-off))
 | .map b,v=>(S0 H b->v=.map (some (β.aw b)))/\(ja H b->v=.func (.yield (β.aw b)) #[] #[])
 |_,_=>False
def bX(v:AV)(x:db):Prop:=x.oneCell'=true/\cg P β H v x
mutual
def bB:AV->List db->Prop
 | .p t,cs=>aX P w aa t cs
 | .st u fs,cs=>∃l a,dw P u=some l/\bV l fs a/\cs=a.flatten
 | .func f first iV,cs=>∃d cv,bK first d/\bK iV cv/\cs=[.func (.func f) d.toArray cv.toArray]
 | .aD _,_=>False
 | .ptr b path,cs=>∃v,cs=[v]/\bX P β H (.ptr b path) v
 | .cm b aE al i path,cs=>∃v,cs=[v]/\bX P β H (.cm b aE al i path) v
 | .sl b aE al off len,cs=>∃v,cs=[v]/\bX P β H (.sl b aE al off len) v
 | .map b,cs=>∃v,cs=[v]/\bX P β H (.map b) v
def bV:List Nat->List AV->List (List db)->Prop
 |[],[],a=>a=[]
 |n::g,v::vs,a=>∃c cs,a=c::cs/\bB v c/\c.length=n/\bV g vs cs
 |_,_,_=>False
def aC:AV->db->Prop
 | .p t,v=>aF P w aa t v
 | .st u fs,v=>∃l a,dw P u=some l/\bV l fs a/\v=.agg a.flatten.toArray
 | .func f first iV,v=>∃d cv,bK first d/\bK iV cv/\v=.func (.func f) d.toArray cv.toArray
 | .aD vs,v=>∃xs,bK vs xs/\v=.tuple xs.toArray
 | .ptr b path,v=>bX P β H (.ptr b path) v
 | .cm b aE al i path,v=>bX P β H (.cm b aE al i path) v
 | .sl b aE al off len,v=>bX P β H (.sl b aE al off len) v
 | .map b,v=>bX P β H (.map b) v
def bK:List AV->List db->Prop
 |[],xs=>xs=[]
 |v::vs,xs=>∃y e,xs=y::e/\aC v y/\bK vs e
end
mutual
def aH(n:Nat×Nat->Prop):AV->Prop
 | .p _=>True
 | .ptr b _| .map b=>n (b,0)
 | .cm b aE _ _ _| .sl b aE _ _ _=>n (b,aE)
 | .func _ first iV=>aZ n first/\aZ n iV
 | .st _ fs=>aZ n fs
 | .aD vs=>aZ n vs
def aZ(n:Nat×Nat->Prop):List AV->Prop
 |[]=>True
 |v::vs=>aH n v/\aZ n vs
end
def Obj.has:Obj->Nat->Prop
 | .hole,_=>False
 | .arr _ aE _ _,v=>v<=aE
 |_,_=>True
def aN(H:ah)(x:Nat×Nat):Prop:=∃o,H[x.1]?=some o/\o.has x.2
def AV.tR:AV->Prop
 | .p _=>True
 |_=>False
def Obj.refs(n:Nat×Nat->Prop):Obj->Prop
 | .box _ t=>aH n t
 | .arr _ _ _ es=>aZ n es
 | .loop L=>∀x,aH n (aP L.env x)
 |_=>True
def Obj.live:Obj->Prop
 | .hole| .dead=>False
 | .arr k _ _ es=>¬dQ k es
 |_=>True
variable(ag:Nat->Prop)
def dD(fz:Bool)(b:Nat):Prop:=if fz then aa (β.aw b)else¬aa (β.aw b)/\¬ag (β.aw b)
def fh(b:Nat):Obj->Prop
 | .hole| .dead=>True
 | .box fz t=>∃cs T,w.heap[β.aw b]?=some (.cells cs T (0,0))/\bB P w aa β H t cs.toList/\dD aa β ag fz b/\(fz=true->t.tR)/\kn T (ad t)=true
 | .arr k _ver al es=>dQ k es\/
  ∃cs T a f,w.heap[β.aw b]?=some (.cells cs T (0,0))/\bV P w aa β H (hL es.length al) es a/\cs.toList=a.flatten++f/\
   cs.size=β.cap b*al/\es.length<=β.cap b/\(k=.exact->β.cap b=es.length)/\dD aa β ag (k== .frozen) b/\(k=.frozen->∀e∈es,e.tR)/\(k=.bytes->T=Gl.u8)
 | .map fz es=>∃c d,w.heap[β.aw b]?=some (.map c d)/\cW P w aa es c.toList/\dD aa β ag fz b
 | .eL s pos=>∃bs:ByteArray,w.heap[β.aw b]?=some (.stringIter bs pos)/\s=bs.data.toList.map (·.toNat)/\dD aa β ag false b
 | .loop L=>∃tmps defers fn,w.heap[β.aw b]?=some (.loop {state:=L.st,pending:=L.pending,fn,tmps,params:=L.params.toArray,assign:=L.assign,body:=L.body,defers})/\tmps.size=L.n/\
  (∀x,aC P w aa β H (aP L.env x) (tmps.getD x undef))/\dD aa β ag false b
structure cj:Prop where
 du:∀b o,H[b]?=some o->fh P w aa β H ag b o
 inj:∀b b' o o',H[b]?=some o->H[b']?=some o'->o.live->o'.live->¬aa (β.aw b)->β.aw b=β.aw b'->b=b'
 refs:∀(b:Nat)(o:Obj),H[b]?=some o->o.refs (aN H)
 b8:∀k,aa k->k<w.heap.size
 fg:∀k,ag k->k<w.heap.size
 ks:oG P w aa
end
structure Ext(ag aa:Nat->Prop)(w w':dq):Prop where
 size:w.heap.size<=w'.heap.size
 same:∀k,ag k\/aa k->w'.heap[k]?=w.heap[k]?
 io:w'.os=w.os/\w'.output=w.output
structure cK(β:Bd)(H:ah)(aM:Bd)(H':ah):Prop where
 obj:∀k b,aN H (b,0)->mR H' k b->mR H k b/\aM.aw b=β.aw b
 arr:∀b aE al k es,aN H (b,aE)->iD H' b aE al k es->∃k0 jC,iD H b aE al k0 jC/\jC.length<=es.length/\(dQ k es↔dQ k0 jC)/\(¬dQ k es->aM.aw b=β.aw b/\aM.cap b=β.cap b)
theorem cK.loop{β aM:Bd}{H H':ah}(h:cK β H aM H')(b:Nat)(hi:aN H (b,0))(a:ja H' b):ja H b/\aM.aw b=β.aw b:=
 (h.obj 2 b hi (uz.2 a)).imp uz.1 id
theorem cK.refl(β:Bd)(H:ah):cK β H β H:=
 ⟨fun _ _ _ h=>⟨h,rfl⟩,fun _ _ _ k a _ h=>⟨k,a,h,j3 _,Iff.rfl,fun _=>⟨rfl,rfl⟩⟩⟩
theorem Ext.refl(ag aa:Nat->Prop)(w:dq):Ext ag aa w w:=⟨j3 _,fun _ _=>rfl,rfl,rfl⟩
section mono
variable{P:dp}{w w':dq}{aa aG:Nat->Prop}
theorem Yu{aw off:Nat}(h:w'.heap[aw]?=w.heap[aw]?):w'.cell? ⟨aw,off,none⟩=w.cell? ⟨aw,off,none⟩:=by
 simp[hF,h]
theorem iB.same{aw off:Nat}{cs:List db}(h:w'.heap[aw]?=w.heap[aw]?)(hc:iB w aw off cs):iB w' aw off cs:=
 fun i hi=>(Yu h).trans (hc i hi)
theorem zL{n:List Nat}{a:List (List db)}(h:bn P w aa n [] a):a=[]:=by
 cases n<;>simp[bn]at h;exact h
variable(hI:∀k,aa k->aG k)(hs:∀k,aa k->w'.heap[k]?=w.heap[k]?)
include hI hs
mutual
theorem aX.mono:∀(v:PV)(cs:List db),aX P w aa v cs->aX P w' aG v cs
 | .undef,_,h| .aD _,_,h=>by simp[aX]at h
 | .bool _,_,h| .int _ _,_,h| .str _,_,h| .fU,_,h| .aK,_,h| .fM,_,h| .iX,_,h| .ia,_,h=>by simpa[aX]using h
 | .cE t,cs,h=>by
  simp only[aX]at h⊢;obtain⟨aw,off,ts,a,b,d,j⟩:=h;exact⟨aw,off,ts,aX.mono t ts a,hI _ b,d.same (hs _ b),j⟩
 | .cZ full o,cs,h=>by
  simp only[aX]at h⊢;obtain⟨aw,off,cap,al,g,a,b,d,j⟩:=h;refine⟨aw,off,cap,al,g,bn.mono _ o g a,fun m=>hI _ (b m),?_,j⟩
  by_cases m:o=[]
  ·subst m;have:=zL a;subst this;intro i hi;simp at hi
  ·exact d.same (hs _ (b m))
 | .seq o,cs,h=>by
  simp only[aX]at h⊢;rcases h with h|⟨aw,off,cap,al,g,a,b,d,j⟩
  ·exact .inl h
  refine .inr ⟨aw,off,cap,al,g,bn.mono _ o g a,fun m=>hI _ (b m),?_,j⟩
  by_cases m:o=[]
  ·subst m;have:=zL a;subst this;intro i hi;simp at hi
  ·exact d.same (hs _ (b m))
 | .eJ o,cs,h=>by
  simp only[aX]at h⊢;obtain⟨r,p,clock,a,b,d,j⟩:=h;exact⟨r,p,clock,hI _ a,(hs _ a).trans b,cW.mono o _ d,j⟩
 | .func f first iV,cs,h=>by
  simp only[aX]at h⊢;obtain⟨s,cv,a,b,d⟩:=h;exact⟨s,cv,bO.mono first s a,bO.mono iV cv b,d⟩
 | .st u fs,cs,h=>by
  simp only[aX]at h⊢;obtain⟨l,g,a,b,d⟩:=h;exact⟨l,g,a,bn.mono l fs g b,d⟩
theorem bn.mono:∀(l:List Nat)(vs:List PV)(g:List (List db)),bn P w aa l vs g->bn P w' aG l vs g
 |[],[],_,h=>by simpa[bn]using h
 |[],_::_,_,h=>by simp[bn]at h
 |_::_,[],_,h=>by simp[bn]at h
 |n::A,v::vs,g,h=>by
  simp only[bn]at h⊢;obtain⟨c,cs,a,b,d,j⟩:=h;exact⟨c,cs,a,aX.mono v c b,d,bn.mono A vs cs j⟩
theorem aF.mono:∀(v:PV)(x:db),aF P w aa v x->aF P w' aG v x
 | .undef,_,h=>by simp[aF]
 | .aD vs,x,h=>by
  simp only[aF]at h⊢;obtain⟨q,a,b⟩:=h;exact⟨q,bO.mono vs q a,b⟩
 | .bool _,_,h| .int _ _,_,h| .str _,_,h| .fU,_,h| .aK,_,h| .fM,_,h| .iX,_,h| .ia,_,h=>by simpa[aF]using h
 | .cE t,cs,h=>by
  simp only[aF]at h⊢;obtain⟨aw,off,ts,a,b,d,j⟩:=h;exact⟨aw,off,ts,aX.mono t ts a,hI _ b,d.same (hs _ b),j⟩
 | .cZ full o,cs,h=>by
  simp only[aF]at h⊢;obtain⟨aw,off,cap,al,g,a,b,d,j⟩:=h;refine⟨aw,off,cap,al,g,bn.mono _ o g a,fun m=>hI _ (b m),?_,j⟩
  by_cases m:o=[]
  ·subst m;have:=zL a;subst this;intro i hi;simp at hi
  ·exact d.same (hs _ (b m))
 | .seq o,cs,h=>by
  simp only[aF]at h⊢;rcases h with h|⟨aw,off,cap,al,g,a,b,d,j⟩
  ·exact .inl h
  refine .inr ⟨aw,off,cap,al,g,bn.mono _ o g a,fun m=>hI _ (b m),?_,j⟩
  by_cases m:o=[]
  ·subst m;have:=zL a;subst this;intro i hi;simp at hi
  ·exact d.same (hs _ (b m))
 | .eJ o,cs,h=>by
  simp only[aF]at h⊢;obtain⟨r,p,clock,a,b,d,j⟩:=h;exact⟨r,p,clock,hI _ a,(hs _ a).trans b,cW.mono o _ d,j⟩
 | .func f first iV,cs,h=>by
  simp only[aF]at h⊢;obtain⟨s,cv,a,b,d⟩:=h;exact⟨s,cv,bO.mono first s a,bO.mono iV cv b,d⟩
 | .st u fs,cs,h=>by
  simp only[aF]at h⊢;obtain⟨l,g,a,b,d⟩:=h;exact⟨l,g,a,bn.mono l fs g b,d⟩
theorem bO.mono:∀(vs:List PV)(q:List db),bO P w aa vs q->bO P w' aG vs q
 |[],_,h=>by simpa[bO]using h
 |v::vs,q,h=>by
  simp only[bO]at h⊢;obtain⟨y,z,a,b,d⟩:=h;exact⟨y,z,a,aF.mono v y b,bO.mono vs z d⟩
theorem cW.mono:∀(o:List (PV×PV))(p:List eq),cW P w aa o p->cW P w' aG o p
 |[],_,h=>by simpa[cW]using h
 |(k,v)::r,p,h=>by
  simp only[cW]at h⊢;obtain⟨e,rest,a,b,d,j⟩:=h;exact⟨e,rest,a,aF.mono k _ b,aF.mono v _ d,cW.mono r rest j⟩
end
theorem oG.mono(h:oG P w aa):oG P w' aG:=⟨fun g=>aF.mono hI hs _ _ (h.val g),fun g cs c=>by
 obtain⟨a,T,b⟩:=h.raw g cs c;exact⟨hI _ a,T,(hs _ a).trans b⟩,fun g c=>by
 obtain⟨a,te,pe,T,b⟩:=h.Cj g c;exact⟨hI _ a,te,pe,T,(hs _ a).trans b⟩⟩
variable{β aM:Bd}{H H':ah}(aS:cK β H aM H')
include aS
omit hI hs in
theorem cg.mono:∀(v:AV)(x:db),aH (aN H) v->cg P β H v x->cg P aM H' v x
 | .ptr b path,x,d,h=>by
  simp only[cg,aH]at*;obtain⟨aw,off,o,a,e,f⟩:=h;refine⟨aw,off,o,a,e,fun c=>?_⟩;obtain⟨k1,k2⟩:=aS.obj 0 b d c;rw[k2];exact f k1
 | .cm b aE al i path,x,d,h=>by
  simp only[cg,aH]at*;obtain⟨aw,off,o,g1,g2,g3⟩:=h;refine⟨aw,off,o,g1,g2,fun k j c hn=>?_⟩;obtain⟨k0,jC,a,e,f,g⟩:=aS.arr b aE al k j d c;rw[(g hn).1];exact g3 k0 jC a (fun l=>hn (f.2 l))
 | .sl b aE al off len,x,d,h=>by
  simp only[cg,aH]at*;intro k j c;obtain⟨k0,jC,a,e,f,g⟩:=aS.arr b aE al k j d c;obtain⟨q,m,n⟩:=h k0 jC a;refine⟨o_,fun hn=>m (f.1 hn),fun hn=>?_⟩;rw[(g hn).1,(g hn).2];exact n (fun l=>hn (f.2 l))
 | .map b,x,d,h=>by
  simp only[cg,aH]at*;refine⟨fun c=>?_,fun c=>?_⟩
  ·obtain⟨a,e⟩:=aS.obj 1 b d c;rw[e];exact h.1 a
  ·obtain⟨a,e⟩:=aS.loop b d c;rw[e];exact h.2 a
 | .p _,_,_,h| .st _ _,_,_,h| .func _ _ _,_,_,h| .aD _,_,_,h=>by simp[cg]at h
omit hI hs in
theorem bX.mono(v:AV)(x:db)(a:aH (aN H) v)(h:bX P β H v x):bX P aM H' v x:=⟨h.1,cg.mono aS v x a h.2⟩
mutual
theorem bB.mono:∀(v:AV)(cs:List db),aH (aN H) v->bB P w aa β H v cs->bB P w' aG aM H' v cs
 | .p t,cs,_,h=>by simp only[bB]at h⊢;exact aX.mono hI hs t cs h
 | .st u fs,cs,a,h=>by
  simp only[bB,aH]at*;obtain⟨l,j,d,e,g⟩:=h;exact⟨l,j,d,bV.mono l fs j a e,g⟩
 | .func f first iV,cs,a,h=>by
  simp only[bB,aH]at*;obtain⟨k,cv,d,e,g⟩:=h;exact⟨k,cv,bK.mono first k a.1 d,bK.mono iV cv a.2 e,g⟩
 | .aD _,_,_,h=>by simp[bB]at h
 | .ptr b path,cs,a,h=>by
  simp only[bB]at*;obtain⟨v,d,e⟩:=h;exact⟨v,d,bX.mono aS _ _ a e⟩
 | .cm b aE al i path,cs,a,h=>by
  simp only[bB]at*;obtain⟨v,d,e⟩:=h;exact⟨v,d,bX.mono aS _ _ a e⟩
 | .sl b aE al off len,cs,a,h=>by
  simp only[bB]at*;obtain⟨v,d,e⟩:=h;exact⟨v,d,bX.mono aS _ _ a e⟩
 | .map b,cs,a,h=>by
  simp only[bB]at*;obtain⟨v,d,e⟩:=h;exact⟨v,d,bX.mono aS _ _ a e⟩
theorem bV.mono:∀(l:List Nat)(vs:List AV)(j:List (List db)),aZ (aN H) vs->bV P w aa β H l vs j->bV P w' aG aM H' l vs j
 |[],[],_,_,h=>by simpa[bV]using h
 |[],_::_,_,_,h=>by simp[bV]at h
 |_::_,[],_,_,h=>by simp[bV]at h
 |n::q,v::vs,j,a,h=>by
  simp only[bV,aZ]at*;obtain⟨c,cs,d,e,g,o⟩:=h;exact⟨c,cs,d,bB.mono v c a.1 e,g,bV.mono q vs cs a.2 o⟩
theorem aC.mono:∀(v:AV)(x:db),aH (aN H) v->aC P w aa β H v x->aC P w' aG aM H' v x
 | .p t,cs,_,h=>by simp only[aC]at h⊢;exact aF.mono hI hs t cs h
 | .st u fs,cs,a,h=>by
  simp only[aC,aH]at*;obtain⟨l,j,d,e,g⟩:=h;exact⟨l,j,d,bV.mono l fs j a e,g⟩
 | .func f first iV,cs,a,h=>by
  simp only[aC,aH]at*;obtain⟨k,cv,d,e,g⟩:=h;exact⟨k,cv,bK.mono first k a.1 d,bK.mono iV cv a.2 e,g⟩
 | .aD vs,cs,a,h=>by
  simp only[aC,aH]at*;obtain⟨xs,d,e⟩:=h;exact⟨xs,bK.mono vs xs a d,e⟩
 | .ptr b path,cs,a,h=>by simp only[aC]at*;exact bX.mono aS _ _ a h
 | .cm b aE al i path,cs,a,h=>by simp only[aC]at*;exact bX.mono aS _ _ a h
 | .sl b aE al off len,cs,a,h=>by simp only[aC]at*;exact bX.mono aS _ _ a h
 | .map b,cs,a,h=>by simp only[aC]at*;exact bX.mono aS _ _ a h
theorem bK.mono:∀(vs:List AV)(xs:List db),aZ (aN H) vs->bK P w aa β H vs xs->bK P w' aG aM H' vs xs
 |[],_,_,h=>by simpa[bK]using h
 |v::vs,xs,a,h=>by
  simp only[bK,aZ]at*;obtain⟨y,m,d,e,g⟩:=h;exact⟨y,m,d,aC.mono v y a.1 e,bK.mono vs m a.2 g⟩
end
end mono
def eE:List AV->Option (List PV)
 |[]=>some []
 | .p v::r=>match eE r with
  |some l=>some (v::l)
  |none=>none
 |_::_=>none
def iM(u:dl)(fs:List AV):AV:=
 match eE fs with
 |some l=>.p (.st u l)
 |none=>.st u fs
def l9:PV->List (dl×Nat)->Option PV
 |t,[]=>some t
 |t,(u,i)::r=>if aL t=.agg u then(match(bW t)[i]? with
  |some f=>l9 f r
  |none=>none)else none
def fq:AV->List (dl×Nat)->Option AV
 |t,[]=>some t
 | .p t,(u,i)::r=>match l9 t ((u,i)::r)with
  |some s=>some (.p s)
  |none=>none
 | .st u' fs,(u,i)::r=>if u'=u then(match fs[i]? with
  |some f=>fq f r
  |none=>none)else none
 |_,_=>none
def gJ(t:AV)(b:List (dl×Nat))(x:AV):Option AV:=
 match b with
 |[]=>some x
 |(u,i)::r=>
  match t with
  | .p t=>if aL t=.agg u then(match(bW t)[i]? with
   |some f=>(match gJ (.p f) r x with
    |some a=>some (iM u (((bW t).map .p).set i a))
    |none=>none)
   |none=>none)else none
  | .st u' fs=>if u'=u then(match fs[i]? with
   |some f=>(match gJ f r x with
    |some a=>some (iM u (fs.set i a))
    |none=>none)
   |none=>none)else none
  |_=>none
section
variable{P:dp}{w:dq}{aa:Nat->Prop}{β:Bd}{H:ah}
theorem xb:∀{l:List Nat}{vs:List PV}{a:List (List db)},bn P w aa l vs a->a.map (·.length)=l/\vs.length=l.length/\a.length=l.length
 |[],[],_,h=>by simp[bn]at h;subst h;simp
 |[],_::_,_,h=>by simp[bn]at h
 |_::_,[],_,h=>by simp[bn]at h
 |n::f,v::vs,a,h=>by
  simp only[bn]at h;obtain⟨c,cs,rfl,e,b,d⟩:=h;have:=xb d;simp[b,this]
theorem zS:∀{l:List Nat}{vs:List AV}{a:List (List db)},bV P w aa β H l vs a->a.map (·.length)=l/\vs.length=l.length/\a.length=l.length
 |[],[],_,h=>by simp[bV]at h;subst h;simp
 |[],_::_,_,h=>by simp[bV]at h
 |_::_,[],_,h=>by simp[bV]at h
 |n::f,v::vs,a,h=>by
  simp only[bV]at h;obtain⟨c,cs,rfl,e,b,d⟩:=h;have:=zS d;simp[b,this]
theorem NQ{u:dl}{l:List Nat}(h:dw P u=some l):l.sum=P.cellsOf u/\∀n∈l,0<n:=by
 unfold dw at h
 split at h
 ·dsimp only at h
  split at h
  ·rename_i hc;simp at hc;obtain⟨⟨a,b⟩,c⟩:=hc;simp at h;subst h;refine⟨b,?_⟩;intro n hn;simp at hn;obtain⟨f,hf,rfl⟩:=hn;obtain⟨i,hi,rfl⟩:=Array.mem_iff_getElem.1 hf;exact a i hi
  ·simp at h
 ·split at h
  ·rename_i hc;simp at hc;simp at h;subst h;refine⟨by simp[hO,hc.2],?_⟩;intro n hn;have:=h3 hn;omega
  ·simp at h
 ·simp at h
theorem sr:∀{v:PV}{cs:List db},aX P w aa v cs->cs.length=bP P (aL v)/\aL v≠.bad:=by
 intro v cs h;cases v<;>simp only[aX]at h
 case st u fs=>
  obtain⟨l,c,a,b,rfl⟩:=h;have:=xb b;simp[aL,bP,this.1,(NQ a).1]
 case str=>obtain⟨_,h,_⟩:=h;subst h;simp[aL,bP]
 case seq=>
  rcases h with⟨_,rfl⟩|⟨_,_,_,_,_,_,_,_,_,_,_,rfl⟩<;>simp[aL,bP]
 all_goals first
  |(subst h;simp[aL,bP])
  |(obtain⟨_,_,_,_,_,_,rfl⟩:=h;simp[aL,bP])
  |(obtain⟨_,_,_,_,_,rfl⟩:=h;simp[aL,bP])
  |(obtain⟨_,_,_,_,_,_,_,_,_,_,_,_,rfl⟩:=h;simp[aL,bP])
  |(obtain⟨_,_,_,_,_,_,_,rfl⟩:=h;simp[aL,bP])
  |(obtain⟨_,_,_,_,rfl⟩:=h;simp[aL,bP])
  |(obtain⟨_,h,_⟩:=h;subst h;simp[aL,bP])
  |exact h.elim
theorem pE{v:AV}{cs:List db}(h:bB P w aa β H v cs):cs.length=bP P (ad v)/\ad v≠.bad:=by
 cases v<;>simp only[bB]at h
 case p t=>exact sr h
 case st u fs=>
  obtain⟨l,c,a,b,rfl⟩:=h;have:=zS b;simp[ad,bP,this.1,(NQ a).1]
 all_goals first
  |(obtain⟨_,rfl,_⟩:=h;simp[ad,bP])
  |(obtain⟨_,_,_,_,rfl⟩:=h;simp[ad,bP])
theorem u7{v:PV}(hs:aL v=.leaf)(cs:List db):aX P w aa v cs↔∃c,cs=[c]/\aF P w aa v c:=by
 cases v<;>simp[aL]at hs<;>simp only[aX,aF]
 case bool|int|fU|aK|fM|iX|ia=>exact⟨fun h=>⟨_,h,rfl⟩,fun⟨c,g,i⟩=>by rw[g,i]⟩
 case str s=>exact⟨fun⟨bs,g,i⟩=>⟨_,g,bs,rfl,i⟩,fun⟨c,g,bs,i,j⟩=>⟨bs,by rw[g,i],j⟩⟩
 case cE t=>exact⟨fun⟨a,b,c,g,i,j,k⟩=>⟨_,k,a,b,c,g,i,j,rfl⟩,fun⟨v,g,a,b,c,i,j,k,l⟩=>⟨a,b,c,i,j,k,by rw[g,l]⟩⟩
 case cZ f es=>exact⟨fun⟨a,b,c,d,e,g,i,j,k,l,sp,n,m⟩=>⟨_,m,a,b,c,d,e,g,i,j,k,l,sp,n,rfl⟩,fun⟨v,h,a,b,c,d,e,g,i,j,k,l,sp,n,m⟩=>⟨a,b,c,d,e,g,i,j,k,l,sp,n,by rw[h,m]⟩⟩
 case seq es=>
  constructor
  ·rintro(⟨g,i⟩|⟨a,b,c,d,e,g,i,j,l,sp,n,m⟩)
   ·exact⟨_,i,.inl ⟨g,rfl⟩⟩
   ·exact⟨_,m,.inr ⟨a,b,c,d,e,g,i,j,l,sp,n,rfl⟩⟩
  ·rintro⟨v,h,(⟨g,i⟩|⟨a,b,c,d,e,g,i,j,l,sp,n,m⟩)⟩
   ·exact .inl ⟨g,by rw[h,i]⟩
   ·exact .inr ⟨a,b,c,d,e,g,i,j,l,sp,n,by rw[h,m]⟩
 case eJ es=>exact⟨fun⟨a,b,c,g,i,j,k⟩=>⟨_,k,a,b,c,g,i,j,rfl⟩,fun⟨v,h,a,b,c,g,i,j,k⟩=>⟨a,b,c,g,i,j,by rw[h,k]⟩⟩
 case func f x y=>exact⟨fun⟨a,b,g,i,j⟩=>⟨_,j,a,b,g,i,rfl⟩,fun⟨v,h,a,b,g,i,j⟩=>⟨a,b,g,i,by rw[h,j]⟩⟩
theorem xW{v:PV}{u:dl}(hs:aL v=.agg u)(cs:List db):aX P w aa v cs↔aF P w aa v (.agg cs.toArray):=by
 cases v<;>simp[aL]at hs;subst hs;simp only[aX,aF];constructor
 ·rintro⟨l,a,b,c,rfl⟩;exact⟨l,a,b,c,rfl⟩
 ·rintro⟨l,a,b,c,d⟩;refine⟨l,a,b,c,?_⟩;injection d with d;simpa using congrArg cx d
theorem Ev{v:AV}(hs:ad v=.leaf)(cs:List db):bB P w aa β H v cs↔∃c,cs=[c]/\aC P w aa β H v c:=by
 cases v<;>simp[ad]at hs<;>simp only[bB,aC]
 case p t=>exact u7 hs cs
 case func f x y=>exact⟨fun⟨a,b,d,e,g⟩=>⟨_,g,a,b,d,e,rfl⟩,fun⟨v,h,a,b,d,e,g⟩=>⟨a,b,d,e,by rw[h,g]⟩⟩
theorem Ox{v:AV}{u:dl}(hs:ad v=.agg u)(cs:List db):bB P w aa β H v cs↔aC P w aa β H v (.agg cs.toArray):=by
 cases v<;>simp[ad]at hs
 case p t=>simp only[bB,aC];exact xW hs cs
 case st u' fs=>
  subst hs;simp only[bB,aC];constructor
  ·rintro⟨l,a,b,c,rfl⟩;exact⟨l,a,b,c,rfl⟩
  ·rintro⟨l,a,b,c,d⟩;refine⟨l,a,b,c,?_⟩;injection d with d;simpa using congrArg cx d
theorem Ak{v:AV}{x:db}(h:aC P w aa β H v x)(hs:ad v≠.bad):bB P w aa β H v x.cells.toList:=by
 cases a:ad v with
 |bad=>exact absurd a hs
 |leaf=>
  rw[Ev a];refine⟨x,?_,h⟩;cases v<;>simp[ad]at a<;>simp only[aC]at h
  case p t=>
   cases t<;>simp[aL]at a<;>simp only[aF]at h
   case bool|int|fU|aK|fM|iX|ia=>subst h;rfl
   case str=>obtain⟨_,rfl,_⟩:=h;rfl
   case cE=>obtain⟨_,_,_,_,_,_,rfl⟩:=h;rfl
   case cZ=>obtain⟨_,_,_,_,_,_,_,_,_,_,_,_,rfl⟩:=h;rfl
   case seq=>rcases h with⟨_,rfl⟩|⟨_,_,_,_,_,_,_,_,_,_,_,rfl⟩<;>rfl
   case eJ=>obtain⟨_,_,_,_,_,_,rfl⟩:=h;rfl
   case func=>obtain⟨_,_,_,_,rfl⟩:=h;rfl
  case func=>obtain⟨_,_,_,_,rfl⟩:=h;rfl
  all_goals (have b:=h.1;cases x<;>first|rfl|(simp[hA]at b))
 |agg u=>
  cases v<;>simp[ad]at a
  case p t=>
   cases t<;>simp[aL]at a;simp only[aC,aF]at h;obtain⟨l,c,b,d,rfl⟩:=h;simp only[bB,aX];exact⟨l,c,b,d,by simp[hB]⟩
  case st u' fs=>
   simp only[aC]at h;obtain⟨l,c,b,d,rfl⟩:=h;simp only[bB];exact⟨l,c,b,d,by simp[hB]⟩
end
mutual
def Wk:PV->PV->Prop
 | .undef,v=>v=.undef
 | .bool b,v=>v=.bool b
 | .int k n,v=>v=.int k n
 | .str s,v=>v=.str s
 | .fU,v=>v=.fU
 | .fM,v=>v=.fM
 | .iX,v=>v=.iX
 | .ia,v=>v=.ia
 | .aK,v=>v=.aK\/v=.seq []
 | .cE t,v=>match v with
  | .cE h=>Wk t h
  |_=>False
 | .cZ f es,v=>match v with
  | .cZ g fs=>(g=true->f=true)/\bY es fs
  | .seq fs=>bY es fs
  |_=>False
 | .seq es,v=>match v with
  | .seq fs=>bY es fs
  |_=>False
 | .eJ es,v=>match v with
  | .eJ fs=>mf es fs
  |_=>False
 | .func f a b,v=>match v with
  | .func g c d=>f=g/\bY a c/\bY b d
  |_=>False
 | .st u es,v=>match v with
  | .st u' fs=>u=u'/\bY es fs
  |_=>False
 | .aD es,v=>match v with
  | .aD fs=>bY es fs
  |_=>False
def bY:List PV->List PV->Prop
 |[],fs=>fs=[]
 |v::vs,fs=>match fs with
  |f::fs=>Wk v f/\bY vs fs
  |[]=>False
def mf:List (PV×PV)->List (PV×PV)->Prop
 |[],fs=>fs=[]
 |(k,v)::vs,fs=>match fs with
  |(e,f)::fs=>k=e/\Wk v f/\mf vs fs
  |[]=>False
end
mutual
theorem Wk.refl:∀v,Wk v v
 | .undef| .bool _| .int _ _| .str _| .fU| .fM| .iX| .ia=>by simp[Wk]
 | .aK=>by simp[Wk]
 | .cE t=>by simp only[Wk];exact Wk.refl t
 | .cZ f c=>by simp only[Wk];exact⟨id,bY.refl c⟩
 | .seq c=>by simp only[Wk];exact bY.refl c
 | .eJ c=>by simp only[Wk];exact mf.refl c
 | .func f a b=>by simp only[Wk];exact⟨trivial,bY.refl a,bY.refl b⟩
 | .st u c=>by simp only[Wk];exact⟨trivial,bY.refl c⟩
 | .aD c=>by simp only[Wk];exact bY.refl c
theorem bY.refl:∀vs,bY vs vs
 |[]=>by simp[bY]
 |v::vs=>by simp only[bY];exact⟨Wk.refl v,bY.refl vs⟩
theorem mf.refl:∀c,mf c c
 |[]=>by simp[mf]
 |(k,v)::vs=>by simp only[mf];exact⟨trivial,Wk.refl v,mf.refl vs⟩
end
theorem bY.length:∀{es fs:List PV},bY es fs->fs.length=es.length
 |[],fs,h=>by simp only[bY]at h;subst h;rfl
 |v::vs,fs,h=>by
  cases fs with
  |nil=>simp[bY]at h
  |cons f fs=>simp only[bY]at h;simp[bY.length h.2]
theorem bY.qW{a fs:List PV}(h:bY a fs):fs=[]↔a=[]:=by
 have:=h.length;rw[<-hP,<-hP,this]
theorem Wk.aL:∀{v v':PV},Wk v v'->az.aL v'=az.aL v
 | .undef,v',h| .bool _,v',h| .int _ _,v',h| .str _,v',h| .fU,v',h| .fM,v',h| .iX,v',h| .ia,v',h=>by simp only[Wk]at h;subst h;rfl
 | .aK,v',h=>by simp only[Wk]at h;rcases h with rfl|rfl<;>rfl
 | .cE _,v',h| .cZ _ _,v',h| .seq _,v',h| .eJ _,v',h| .func _ _ _,v',h| .aD _,v',h=>by cases v'<;>simp only[Wk]at h<;>rfl
 | .st _ _,v',h=>by
  cases v'<;>simp only[Wk]at h;simp[az.aL,h.1]
section
variable{P:dp}{w:dq}{aa:Nat->Prop}
mutual
theorem aX.dL:∀(v v':PV)(cs:List db),Wk v v'->aX P w aa v cs->aX P w aa v' cs
 | .undef,v',cs,h,hc| .bool _,v',cs,h,hc| .int _ _,v',cs,h,hc| .str _,v',cs,h,hc| .fU,v',cs,h,hc| .fM,v',cs,h,hc| .iX,v',cs,h,hc| .ia,v',cs,h,hc=>by simp only[Wk]at h;subst h;exact hc
 | .aK,v',cs,h,hc=>by
  simp only[Wk]at h;rcases h with rfl|rfl
  ·exact hc
  ·simp only[aX]at hc⊢;exact .inl ⟨trivial,hc⟩
 | .cE t,v',cs,h,hc=>by
  cases v'<;>simp only[Wk]at h;simp only[aX]at hc⊢;obtain⟨aw,off,ts,d,i⟩:=hc;exact⟨aw,off,ts,aX.dL _ _ _ h d,i⟩
 | .cZ f o,v',cs,h,hc=>by
  cases v' with
  |cZ g fs=>
   simp only[Wk]at h;simp only[aX]at hc⊢;obtain⟨aw,off,cap,al,m,d,i,j,p,q,s⟩:=hc;have z:=h.2.length;rw[z];exact⟨aw,off,cap,al,m,bn.dL _ _ _ _ h.2 d,fun A=>i (fun e=>A (h.2.qW.2 e)),j,fun e=>p (h.1 e),q,s⟩
  |seq fs=>
   simp only[Wk]at h;simp only[aX]at hc⊢;obtain⟨aw,off,cap,al,m,d,i,j,p,q,s⟩:=hc;have z:=h.length;rw[z];exact .inr ⟨aw,off,cap,al,m,bn.dL _ _ _ _ h d,fun A=>i (fun e=>A (h.qW.2 e)),j,q,s⟩
  |_=>simp only[Wk]at h
 | .seq o,v',cs,h,hc=>by
  cases v'<;>simp only[Wk]at h;simp only[aX]at hc⊢;rcases hc with⟨d,i⟩|⟨aw,off,cap,al,m,d,i,j,q,s⟩
  ·exact .inl ⟨h.qW.2 d,i⟩
  ·have z:=h.length;rw[z];exact .inr ⟨aw,off,cap,al,m,bn.dL _ _ _ _ h d,fun A=>i (fun e=>A (h.qW.2 e)),j,q,s⟩
 | .eJ o,v',cs,h,hc=>by
  cases v'<;>simp only[Wk]at h;simp only[aX]at hc⊢;obtain⟨r,C,clock,d,i,j,p⟩:=hc;exact⟨r,C,clock,d,i,cW.dL _ _ _ h j,p⟩
 | .func f a b,v',cs,h,hc=>by
  cases v'<;>simp only[Wk]at h;obtain⟨rfl,E,F⟩:=h;simp only[aX]at hc⊢;obtain⟨D,cv,d,i,j⟩:=hc;exact⟨D,cv,bO.dL _ _ _ E d,bO.dL _ _ _ F i,j⟩
 | .st u o,v',cs,h,hc=>by
  cases v'<;>simp only[Wk]at h;obtain⟨rfl,h⟩:=h;simp only[aX]at hc⊢;obtain⟨l,m,d,i,j⟩:=hc;exact⟨l,m,d,bn.dL _ _ _ _ h i,j⟩
 | .aD o,v',cs,h,hc=>by simp[aX]at hc
theorem bn.dL:∀(l:List Nat)(o fs:List PV)(m:List (List db)),bY o fs->bn P w aa l o m->bn P w aa l fs m
 |l,[],fs,m,h,hc=>by simp only[bY]at h;subst h;exact hc
 |l,v::vs,fs,m,h,hc=>by
  cases fs with
  |nil=>simp[bY]at h
  |cons f fs=>
   simp only[bY]at h;cases l with
   |nil=>simp[bn]at hc
   |cons n l=>
    simp only[bn]at hc⊢;obtain⟨c,cs,d,i,j,p⟩:=hc;exact⟨c,cs,d,aX.dL _ _ _ h.1 i,j,bn.dL _ _ _ _ h.2 p⟩
theorem aF.dL:∀(v v':PV)(x:db),Wk v v'->aF P w aa v x->aF P w aa v' x
 | .undef,v',cs,h,hc| .bool _,v',cs,h,hc| .int _ _,v',cs,h,hc| .str _,v',cs,h,hc| .fU,v',cs,h,hc| .fM,v',cs,h,hc| .iX,v',cs,h,hc| .ia,v',cs,h,hc=>by simp only[Wk]at h;subst h;exact hc
 | .aK,v',cs,h,hc=>by
  simp only[Wk]at h;rcases h with rfl|rfl
  ·exact hc
  ·simp only[aF]at hc⊢;exact .inl ⟨trivial,hc⟩
 | .cE t,v',cs,h,hc=>by
  cases v'<;>simp only[Wk]at h;simp only[aF]at hc⊢;obtain⟨aw,off,ts,d,i⟩:=hc;exact⟨aw,off,ts,aX.dL _ _ _ h d,i⟩
 | .cZ f o,v',cs,h,hc=>by
  cases v' with
  |cZ g fs=>
   simp only[Wk]at h;simp only[aF]at hc⊢;obtain⟨aw,off,cap,al,m,d,i,j,p,q,s⟩:=hc;have z:=h.2.length;rw[z];exact⟨aw,off,cap,al,m,bn.dL _ _ _ _ h.2 d,fun A=>i (fun e=>A (h.2.qW.2 e)),j,fun e=>p (h.1 e),q,s⟩
  |seq fs=>
   simp only[Wk]at h;simp only[aF]at hc⊢;obtain⟨aw,off,cap,al,m,d,i,j,p,q,s⟩:=hc;have z:=h.length;rw[z];exact .inr ⟨aw,off,cap,al,m,bn.dL _ _ _ _ h d,fun A=>i (fun e=>A (h.qW.2 e)),j,q,s⟩
  |_=>simp only[Wk]at h
 | .seq o,v',cs,h,hc=>by
  cases v'<;>simp only[Wk]at h;simp only[aF]at hc⊢;rcases hc with⟨d,i⟩|⟨aw,off,cap,al,m,d,i,j,q,s⟩
  ·exact .inl ⟨h.qW.2 d,i⟩
  ·have z:=h.length;rw[z];exact .inr ⟨aw,off,cap,al,m,bn.dL _ _ _ _ h d,fun A=>i (fun e=>A (h.qW.2 e)),j,q,s⟩
 | .eJ o,v',cs,h,hc=>by
  cases v'<;>simp only[Wk]at h;simp only[aF]at hc⊢;obtain⟨r,C,clock,d,i,j,p⟩:=hc;exact⟨r,C,clock,d,i,cW.dL _ _ _ h j,p⟩
 | .func f a b,v',cs,h,hc=>by
  cases v'<;>simp only[Wk]at h;obtain⟨rfl,E,F⟩:=h;simp only[aF]at hc⊢;obtain⟨D,cv,d,i,j⟩:=hc;exact⟨D,cv,bO.dL _ _ _ E d,bO.dL _ _ _ F i,j⟩
 | .st u o,v',cs,h,hc=>by
  cases v'<;>simp only[Wk]at h;obtain⟨rfl,h⟩:=h;simp only[aF]at hc⊢;obtain⟨l,m,d,i,j⟩:=hc;exact⟨l,m,d,bn.dL _ _ _ _ h i,j⟩
 | .aD o,v',cs,h,hc=>by
  cases v'<;>simp only[Wk]at h;simp only[aF]at hc⊢;obtain⟨B,d,i⟩:=hc;exact⟨B,bO.dL _ _ _ h d,i⟩
theorem bO.dL:∀(o fs:List PV)(B:List db),bY o fs->bO P w aa o B->bO P w aa fs B
 |[],fs,B,h,hc=>by simp only[bY]at h;subst h;exact hc
 |v::vs,fs,B,h,hc=>by
  cases fs with
  |nil=>simp[bY]at h
  |cons f fs=>
   simp only[bY]at h;simp only[bO]at hc⊢;obtain⟨y,G,d,i,j⟩:=hc;exact⟨y,G,d,aF.dL _ _ _ h.1 i,bO.dL _ _ _ h.2 j⟩
theorem cW.dL:∀(o fs:List (PV×PV))(C:List eq),mf o fs->cW P w aa o C->cW P w aa fs C
 |[],fs,B,h,hc=>by simp only[mf]at h;subst h;exact hc
 |(k,v)::vs,fs,B,h,hc=>by
  cases fs with
  |nil=>simp[mf]at h
  |cons f fs=>
   simp only[mf]at h;obtain⟨rfl,d,i⟩:=h;simp only[cW]at hc⊢;obtain⟨e,rest,e1,e2,e3,e4⟩:=hc;exact⟨e,rest,e1,e2,aF.dL _ _ _ d e3,cW.dL _ _ _ i e4⟩
end
end
section
variable{P:dp}{w:dq}{aa:Nat->Prop}{β:Bd}{H:ah}
theorem nq:∀{fs:List AV}{l:List PV},eE fs=some l->fs=l.map .p
 |[],l,h=>by simp[eE]at h;subst h;rfl
 | .p v::r,l,h=>by
  simp only[eE]at h;cases a:eE r with
  |none=>simp[a]at h
  |some b=>simp[a]at h;subst h;simp[nq a]
 | .ptr ..::_,_,h| .cm ..::_,_,h| .sl ..::_,_,h| .map ..::_,_,h| .func ..::_,_,h| .st ..::_,_,h| .aD ..::_,_,h=>by simp[eE]at h
theorem TI(l:List PV):eE (l.map .p)=some l:=by
 induction l with
 |nil=>rfl
 |cons v l a=>simp[eE,a]
theorem pD:∀{l:List Nat}{fs:List PV}{a:List (List db)},bV P w aa β H l (fs.map .p) a↔bn P w aa l fs a
 |[],[],_=>by simp[bV,bn]
 |[],_::_,_=>by simp[bV,bn]
 |_::_,[],_=>by simp[bV,bn]
 |n::g,v::vs,a=>by
  simp only[hZ,bV,bn,bB];constructor
  ·rintro⟨c,cs,b,d,e,f⟩;exact⟨c,cs,b,d,e,pD.1 f⟩
  ·rintro⟨c,cs,b,d,e,f⟩;exact⟨c,cs,b,d,e,pD.2 f⟩
theorem kG:∀{fs:List PV}{d:List db},bK P w aa β H (fs.map .p) d↔bO P w aa fs d
 |[],_=>by simp[bK,bO]
 |v::vs,d=>by
  simp only[hZ,bK,bO,aC];constructor
  ·rintro⟨y,e,a,b,c⟩;exact⟨y,e,a,b,kG.1 c⟩
  ·rintro⟨y,e,a,b,c⟩;exact⟨y,e,a,b,kG.2 c⟩
theorem ND{u:dl}{fs:List AV}{cs:List db}:bB P w aa β H (iM u fs) cs↔bB P w aa β H (.st u fs) cs:=by
 unfold iM;cases h:eE fs with
 |none=>rfl
 |some l=>have:=nq h;subst this;simp[bB,aX,pD]
theorem Zt{u:dl}{fs:List AV}{x:db}:aC P w aa β H (iM u fs) x↔aC P w aa β H (.st u fs) x:=by
 unfold iM;cases h:eE fs with
 |none=>rfl
 |some l=>have:=nq h;subst this;simp[aC,aF,pD]
theorem jM(n:Nat×Nat->Prop):∀l:List PV,aZ n (l.map .p)
 |[]=>by simp[aZ]
 |v::l=>by simp only[hZ,aZ,aH,true_and];exact jM n l
theorem Dx{n:Nat×Nat->Prop}{u:dl}{fs:List AV}(h:aZ n fs):aH n (iM u fs):=by
 unfold iM;cases eE fs with
 |none=>exact h
 |some l=>simp[aH]
theorem dP{n:Nat×Nat->Prop}:∀{fs:List AV},aZ n fs↔∀v∈fs,aH n v
 |[]=>by simp[aZ]
 |v::vs=>by simp[aZ,dP (fs:=vs)]
theorem vo:∀{l:List Nat}{fs:List AV}{d:List (List db)}{i:Nat}{f:AV},bV P w aa β H l fs d->fs[i]?=some f->
 ∃pre c post,d.flatten=pre++c++post/\pre.length=(l.take i).sum/\i<l.length/\l[i]?=some c.length/\bB P w aa β H f c/\
  ∀b c',bB P w aa β H b c'->c'.length=c.length->∃a,a.flatten=pre++c'++post/\bV P w aa β H l (fs.set i b) a
 |[],[],_,i,f,_,hf=>by simp at hf
 |[],_::_,_,_,_,h,_=>by simp[bV]at h
 |_::_,[],_,_,_,h,_=>by simp[bV]at h
 |n::m,v::vs,d,0,f,h,hf=>by
  simp only[bV]at h;obtain⟨c,cs,rfl,g,e,j⟩:=h;simp at hf;subst hf;refine⟨[],c,cs.flatten,s_,s_,s_,by simp[e],g,?_⟩;intro b c' hc k;exact⟨c'::cs,s_,by simp only[i3,bV];exact⟨c',cs,rfl,hc,o_,j⟩⟩
 |n::m,v::vs,d,i+1,f,h,hf=>by
  simp only[bV]at h;obtain⟨c,cs,rfl,g,e,j⟩:=h;simp at hf;obtain⟨pre,x,post,k1,k2,k3,k4,k5,k6⟩:=vo j hf;refine⟨c++pre,x,post,by simp[k1],by simp[k2,e],by simpa using k3,by simpa using k4,k5,?_⟩;intro b c' hc k;obtain⟨a,e1,e2⟩:=k6 b c' hc k;exact⟨c::a,by simp[e1],by simp only[List.set_cons_succ,bV];exact⟨c,a,rfl,g,e,e2⟩⟩
theorem Mw{t:AV}{u:dl}{cs:List db}(hs:ad t= .agg u)(h:bB P w aa β H t cs):
 ∃l fs a,dw P u=some l/\bV P w aa β H l fs a/\cs=a.flatten/\(∀c,t=.p c->fs=(bW c).map .p)/\(∀u' g,t=.st u' g->fs=g/\u'=u):=by
 cases t<;>simp[ad]at hs
 case p t=>
  cases t<;>simp[aL]at hs;subst hs;simp only[bB,aX]at h;obtain⟨l,a,d,e,f⟩:=h;exact⟨l,_,a,d,pD.2 e,f,fun c b=>by cases b;rfl,fun _ _ h=>by cases h⟩
 case st u' fs=>
  subst hs;simp only[bB]at h;obtain⟨l,a,d,e,f⟩:=h;exact⟨l,fs,a,d,e,f,(fun c b=>by cases b),(fun j i b=>by cases b;exact⟨rfl,rfl⟩)⟩
theorem Bt{t:PV}{a:List (dl×Nat)}:fq (.p t) a=(l9 t a).map .p:=by
 cases a with
 |nil=>rfl
 |cons x r=>obtain⟨u,i⟩:=x;simp only[fq];cases l9 t ((u,i)::r)<;>rfl
theorem qV:∀{y:List (dl×Nat)}{t s:AV}{cs:List db}{o:Nat},bB P w aa β H t cs->fq t y=some s->gT P y=some o->
 ∃m n post,cs=m++n++post/\m.length=o/\bB P w aa β H s n/\
  ∀x k a,gJ t y x=some a->bB P w aa β H x k->k.length=n.length->bB P w aa β H a (m++k++post)
 |[],t,s,cs,o,h,hs,d=>by
  simp[gT]at d;subst d;simp[fq]at hs;subst hs;refine⟨[],cs,[],s_,s_,h,?_⟩;intro x k a hx v _;simp[gJ]at hx;subst hx;simpa using v
 |(u,i)::r,t,s,cs,o,h,hs,d=>by
  simp only[gT]at d;cases hz:dw P u with
  |none=>simp[hz]at d
  |some l=>
   cases q:gT P r with
   |none=>simp[hz,q]at d
   |some o'=>
    simp[hz,q]at d;obtain⟨G,rfl⟩:=d
    have key:∃fs f,(∃j e,dw P u=some j/\bV P w aa β H j fs e/\cs=e.flatten)/\fs[i]?=some f/\fq f r=some s/\
     (∀x a,gJ t ((u,i)::r) x=some a->∃b,gJ f r x=some b/\a=iM u (fs.set i b)):=by
     cases t
     case p t=>
      rw[Bt]at hs;simp only[l9]at hs
      by_cases g:aL t=.agg u
      ·simp only[g,if_true]at hs;obtain⟨j,fs,e,k1,k2,k3,k4,_⟩:=Mw (t:=.p t) (by simpa[ad]using g) h;have:=k4 t rfl;subst this;cases hf:(bW t)[i]? with
       |none=>simp[hf]at hs
       |some f=>
        simp only[hf]at hs;refine⟨_,.p f,⟨j,e,k1,k2,k3⟩,by simp[hf],by rw[Bt];exact hs,?_⟩;intro x a hx;simp only[gJ,g,if_true,hf]at hx;cases hq:gJ (.p f) r x with
        |none=>simp[hq]at hx
        |some b=>simp[hq]at hx;exact⟨b,rfl,hx.symm⟩
      ·simp[g]at hs
     case st u' fs=>
      simp only[fq]at hs
      by_cases g:u'=u
      ·subst g;simp only[if_true]at hs;obtain⟨j,B,e,k1,k2,k3,_,k4⟩:=Mw (t:=.st u' fs) rfl h;have:=(k4 _ _ rfl).1;subst this;cases hf:B[i]? with
       |none=>simp[hf]at hs
       |some f=>
        simp only[hf]at hs;refine⟨_,f,⟨j,e,k1,k2,k3⟩,hf,hs,?_⟩;intro x a hx;simp only[gJ,if_true,hf]at hx;cases hq:gJ f r x with
        |none=>simp[hq]at hx
        |some b=>simp[hq]at hx;exact⟨b,rfl,hx.symm⟩
      ·simp[g]at hs
     all_goals simp[fq]at hs
    obtain⟨fs,f,⟨j,e,k1,k2,k3⟩,hf,D,aO⟩:=key;rw[hz]at k1;cases k1;obtain⟨m,c,post,e1,e2,e3,e4,e5,e6⟩:=vo k2 hf;obtain⟨F,n,E,g1,g2,g3,g4⟩:=qV e5 D q;refine⟨m++F,n,E++post,by rw[k3,e1,g1];simp,by simp[e2,g2],g3,?_⟩;intro x k a hx v z;obtain⟨b,C,rfl⟩:=aO x a hx;have ba:=g4 x k b C v z;obtain⟨A,c1,c2⟩:=e6 b _ ba (by rw[g1];simp[z]);rw[ND];simp only[bB];exact⟨l,A,hz,c2,by rw[c1];simp⟩
theorem AO{path:List (dl×Nat)}{t s:PV}{cs:List db}{o:Nat}(h:aX P w aa t cs)(hs:l9 t path=some s)(f:gT P path=some o):
 ∃a b post,cs=a++b++post/\a.length=o/\aX P w aa s b:=by
 obtain⟨a,b,post,c,d,e,_⟩:=qV (β:=⟨id,id⟩) (H:=[]) (t:=.p t) (s:=.p s) (by simpa[bB]using h) (by rw[Bt,hs];rfl) f;exact⟨a,b,post,c,d,by simpa[bB]using e⟩
theorem xC{n:Nat×Nat->Prop}:∀{a:List (dl×Nat)}{t s:AV},fq t a=some s->aH n t->aH n s
 |[],t,s,hs,h=>by simp[fq]at hs;subst hs;exact h
 |(u,i)::r,.p t,s,hs,h=>by
  rw[Bt]at hs;cases hq:l9 t ((u,i)::r)with
  |none=>simp[hq]at hs
  |some q=>simp[hq]at hs;subst hs;simp[aH]
 |(u,i)::r,.st u' fs,s,hs,h=>by
  simp only[fq]at hs
  split at hs
  ·split at hs
   ·rename_i f hf;simp only[aH]at h;exact xC hs (dP.1 h f (hU hf))
   ·simp at hs
  ·simp at hs
 |_::_,.ptr ..,_,hs,_|_::_,.cm ..,_,hs,_|_::_,.sl ..,_,hs,_|_::_,.map ..,_,hs,_|_::_,.func ..,_,hs,_|_::_,.aD ..,_,hs,_=>by simp[fq]at hs
theorem xD{n:Nat×Nat->Prop}:∀{e:List (dl×Nat)}{t b x:AV},gJ t e x=some b->aH n t->aH n x->aH n b
 |[],t,b,x,hs,h,hx=>by simp[gJ]at hs;subst hs;exact hx
 |(u,i)::r,.p t,b,x,hs,h,hx=>by
  simp only[gJ]at hs
  split at hs
  ·split at hs
   ·split at hs
    ·rename_i f hf d c;simp at hs;subst hs;refine Dx (dP.2 ?_);intro v a;rcases hV a with a|rfl
     ·exact dP.1 (jM n _) v a
     ·exact xD c (by simp[aH]) hx
    ·simp at hs
   ·simp at hs
  ·simp at hs
 |(u,i)::r,.st u' fs,b,x,hs,h,hx=>by
  simp only[gJ]at hs
  split at hs
  ·split at hs
   ·split at hs
    ·rename_i _ f hf _ d c;simp at hs;subst hs;simp only[aH]at h;refine Dx (dP.2 ?_);intro v a;rcases hV a with a|rfl
     ·exact dP.1 h v a
     ·exact xD c (dP.1 h f (hU hf)) hx
    ·simp at hs
   ·simp at hs
  ·simp at hs
 |_::_,.ptr ..,_,_,hs,_,_|_::_,.cm ..,_,_,hs,_,_|_::_,.sl ..,_,_,hs,_,_|_::_,.map ..,_,_,hs,_,_|_::_,.func ..,_,_,hs,_,_|_::_,.aD ..,_,_,hs,_,_=>by simp[gJ]at hs
end
structure aY where
 v:AV
 aA:List (Nat×Obj):=[]
 aO:List (Nat×Obj):=[]
 ba:List Obj:=[]
def bt(H:ah)(l:List (Nat×Obj)):ah:=
 match l with
 |[]=>H
 |(b,o)::r=>bt (H.set b o) r
def put(dst:Option Tmp)(v:AV)(e:Env):Env:=
 match dst with
 |some d=>(d,v)::e
 |none=>e
def aY.app(e:aY)(dst:Option Tmp)(s:St):St:=⟨put dst e.v s.env,bt s.heap e.aO++e.ba⟩
def ev(e:Env):dx->AV
 | .tmp t=>aP e t
 | .const v=>.p (ofConst v)
 | .global g=>.p (Gl.g g)
 | .func f=>.p (.func f [] [])
def ib(s:List Nat):ByteArray:=⟨(s.map UInt8.ofNat).toArray⟩
mutual
def kJ:PV->PV->Option Bool
 | .bool a,.bool b=>some (a==b)
 | .int k a,.int c b=>if k=c then some (a==b)else none
 | .str a,.str b=>some (a==b)
 | .st u fs,.st u' gs=>if u=u' then yK fs gs else none
 |_,_=>none
def yK:List PV->List PV->Option Bool
 |[],[]=>some true
 |a::as,b::bs=>match kJ a b with
  |some true=>yK as bs
  |some false=>some false
  |none=>none
 |_,_=>none
end
def jS(P:dp)(c:dl->PV->PV->Option Bool):List dl->List PV->List PV->Option Bool
 |[],[],[]=>some true
 |T::d,a::as,b::bs=>
  if kindOf P T=aL a/\kindOf P T=aL b then
   (match c T a b,jS P c d as bs with
   |some r,some s=>some (r&&s)
   |_,_=>none)
  else none
 |_,_,_=>none
def iW(P:dp):Nat->dl->PV->PV->Option Bool
 |0,_,_,_=>none
 |n+1,T,v,v'=>
  match P.underlying T,v,v' with
  |some .bool,.bool a,.bool b=>some (a==b)
  |some (.int _),.int k a,.int d b=>if k=d then some (a==b)else none
  |some .string,.str a,.str b=>some (a==b)
  |some (.struct fs),.st u xs,.st u' c=>
   if kindOf P T= .agg u/\u'=u/\P.stoodInHeld T=false/\fs.toList.all (fun f=>f.name != "_")=true then jS P (iW P n) (fs.toList.map (·.type)) xs c else none
  |some (.array m e),.st u xs,.st u' c=>
   if kindOf P T=.agg u/\u'=u/\(P.info? e).isSome=true then jS P (iW P n) (hL m e) xs c else none
  |_,_,_=>none
def tP(P:dp)(T:dl):Bool:=!P.eqGuardType P.depth T
def sT(P:dp)(T:dl):Bool:=match P.underlying T with|some .bool=>true|_=>false
def aMj(P:dp)(T:dl):Bool:=match P.underlying T with|some (.int _)=>true|_=>false
def jc(P:dp)(T:dl):Bool:=match P.underlying T with|some .string=>true|_=>false
inductive wC where|ptr|slice|map|func|iface
 deriving DecidableEq
def rG:dx->Bool
 | .const _=>true
 |_=>false
def dF(P:dp)(T:dl)(c:Bool):AV->Option wC
 | .p .fU=>match P.underlying T with
  |some (.pointer _)=>some .ptr
  |_=>none
 | .p .aK=>match P.underlying T with
  |some (.slice _)=>some .slice
  |_=>none
 | .p .fM=>match P.underlying T with
  |some (.map _ _)=>some .map
  |_=>none
 | .p .iX=>match P.underlying T with
  |some (.func _ _ _)=>some .func
  |_=>none
 | .p .ia=>match c,P.underlying T with
  |true,some (.interface _)=>some .iface
  |_,_=>none
 |_=>none
def cX(H:ah)(k:wC)(x:AV):Option Bool:=
 match k,x with
 | .ptr,.p .fU| .slice,.p .aK| .map,.p .fM| .func,.p .iX| .iface,.p .ia=>some true
 | .ptr,.p (.cE _)| .slice,.p (.cZ _ _)| .map,.p (.eJ _)| .func,.p (.func _ _ _)| .func,.func _ _ _=>some false
 | .ptr,.ptr b _=>match H[b]? with
  |some (.box _ _)=>some false
  |_=>none
 | .map,.map b=>match H[b]? with
  |some (.map _ _)=>some false
  |_=>none
 | .slice,.p (.seq (_::_))=>some false
 | .slice,.sl b aE al _ _=>match H[b]? with
  |some (.arr k c a es)=>if aE=c/\al=a then some (k.gr&&es.isEmpty)else none
  |_=>none
 |_,_=>none
def rk(op:e9)(k:em)(a b:Int)(K:PV->Prop):Prop:=
 match op with
 | .add=>K (.int k (k.wrap (a+b)))
 | .sub=>K (.int k (k.wrap (a-b)))
 | .mul=>K (.int k (k.wrap (a*b)))
 | .quo=>b≠0/\K (.int k (k.wrap (a.tdiv b)))
 | .rem=>b≠0/\K (.int k (a.tmod b))
 | .and=>K (.int k (k.wrap (c6 k.bits a&&&c6 k.bits b).toNat))
 | .or=>K (.int k (k.wrap (c6 k.bits a|||c6 k.bits b).toNat))
 | .xor=>K (.int k (k.wrap (c6 k.bits a^^^c6 k.bits b).toNat))
 | .andNot=>K (.int k (k.wrap (c6 k.bits a&&&~~~c6 k.bits b).toNat))
 | .eql=>K (.bool (a==b))
 | .neq=>K (.bool (a !=b))
 | .lss=>K (.bool (decide (a<b)))
 | .leq=>K (.bool (decide (a<=b)))
 | .gtr=>K (.bool (decide (a>b)))
 | .geq=>K (.bool (decide (a>=b)))
 | .shl=>0<=b/\K (.int k (k.wrap (a*2^(min b.toNat k.bits))))
 | .shr=>0<=b/\K (.int k (a.fdiv (2^(min b.toNat k.bits))))
def ka:List Nat->List Nat->Bool
 |_,[]=>false
 |[],_::_=>true
 |a::x,b::y=>decide (a<b)||(a==b&&ka x y)
def rj(op:e9)(a b:List Nat)(K:PV->Prop):Prop:=
 match op with
 | .add=>a.length+b.length<9223372036854775808/\K (.str (a++b))
 | .eql=>K (.bool (a==b))
 | .neq=>K (.bool (!(a==b)))
 | .lss=>K (.bool (ka a b))
 | .leq=>K (.bool (ka a b||a==b))
 | .gtr=>K (.bool (!(ka a b||a==b)))
 | .geq=>K (.bool (!(ka a b)))
 |_=>False
def lM(P:dp)(op:e9)(T:dl)(c:Bool)(H:ah)(x y:AV)(K:PV->Prop):Prop:=
 match x,y with
 | .p (.int k a),.p (.int d b)=>(k=d\/op=.shl\/op=.shr)/\rk op k a b K
 | .p (.str a),.p (.str b)=>rj op a b K
 | .p (.bool a),.p (.bool b)=>sT P T=true/\match op with
  | .eql=>K (.bool (a==b))
  | .neq=>K (.bool (!(a==b)))
  |_=>False
 | .p (.st u fs),.p (.st u' gs)=>tP P T=true/\(match iW P 9 T (.st u fs) (.st u' gs),op with
  |some r,.eql=>K (.bool r)
  |some r,.neq=>K (.bool !r)
  |_,_=>False)
 |x,y=>
  (match dF P T c y with
  |some k=>(match cX H k x,op with
   |some r,.eql=>K (.bool r)
   |some r,.neq=>K (.bool !r)
   |_,_=>False)
  |none=>False)
def dc:Nat:=1073741824
def jL(H:ah):AV->Option (List AV)
 | .p .aK=>some []
 | .p (.cZ _ es)=>some (es.map .p)
 | .p (.seq es)=>some (es.map .p)
 | .p (.str s)=>some (s.map fun c=>.p (.int .u8 (c:Nat)))
 | .sl b aE al off len=>match H[b]? with
  |some (.arr _ d a es)=>if aE=d/\al=a/\off+len<=es.length then some ((es.drop off).take len)else none
  |_=>none
 |_=>none
def dR(H:ah):AV->List (Nat×Obj)
 | .sl b _ _ _ _| .ptr b _| .cm b _ _ _ _| .map b=>match H[b]? with
  |some o=>[(b,o)]
  |none=>[]
 |_=>[]
def gf(P:dp)(al:Nat):List AV->Prop
 |[]=>True
 |v::vs=>(ad v≠.bad/\bP P (ad v)=al)/\gf P al vs
def dj(P:dp)(T:dl):Option Nat:=
 match P.underlying T with
 |some (.slice e)=>match P.info? e with
  |some i=>if i.bytes<32768/\0<i.size/\0<i.bytes then some i.size else none
  |none=>none
 |_=>none
def fw(P:dp)(T:dl):dl:=
 match P.underlying T with
 |some (.slice e)=>e
 |_=>0
def je(P:dp)(X:dl):Bool:=
 match P.underlying X with
 |some (.int _)=>false
 |some _=>true
 |none=>false
def gk(P:dp)(T:dl):AK:=if fw P T=Gl.u8 then .bytes else .grow
def pC(P:dp)(T X:dl)(H:ah)(s x:AV)(K:aY->Prop):Prop:=
 match dj P T,jL H x with
 |some sz,some xs=>je P X=true/\(cG P (fw P T)).isSome=true/\gf P sz xs/\
  (match s with
  | .p .aK=>if xs.isEmpty then K {v:=s,aA:=dR H x}else xs.length<=dc/\K {v:=.sl H.length 0 sz 0 xs.length,aA:=dR H x,ba:=[.arr (gk P T) 0 sz xs]}
  | .p (.cZ full es)=>gf P sz (es.map .p)/\if xs.isEmpty then K {v:=s,aA:=dR H x}else full=true/\es.length+xs.length<=dc/\
   K {v:=.sl H.length 0 sz 0 (es.length+xs.length),aA:=dR H x,ba:=[.arr (gk P T) 0 sz (es.map .p++xs)]}
  | .sl b aE al off len=>match H[b]? with
   |some (.arr k c a es)=>aE=c/\al=a/\al=sz/\off+len<=es.length/\
    if xs.isEmpty then K {v:=s,aA:=(b,.arr k c a es)::dR H x}
    else es.length+xs.length<=dc/\(match k with
     | .frozen=>False
     | .exact=>if off+len+xs.length<=es.length then
      K {v:=.sl b aE al off (len+xs.length),aA:=(b,.arr k c a es)::dR H x,aO:=[(b,.arr .exact aE al (es.take (off+len)++xs++es.drop (off+len+xs.length)))]}
      else K {v:=.sl H.length 0 sz 0 (len+xs.length),aA:=(b,.arr k c a es)::dR H x,ba:=[.arr (gk P T) 0 sz ((es.drop off).take len++xs)]}
     |_=>off=0/\(k=.bytes->fw P T=Gl.u8)/\K {v:=.sl b (aE+1) al 0 (len+xs.length),aA:=(b,.arr k c a es)::dR H x,aO:=[(b,.arr k (aE+1) al (es.take len++xs))]})
   |_=>False
  |_=>False)
 |_,_=>False
def ju(x:Option AV)(d:Nat)(K:Nat->Prop):Prop:=
 match x with
 |none=>K d
 |some (.p (.int _ i))=>0<=i/\K i.toNat
 |_=>False
def pL(P:dp)(T:dl)(H:ah)(x:AV)(lo hi:Option AV)(K:aY->Prop):Prop:=
 match x with
 | .p (.str s)=>jc P T=true/\ju hi s.length fun h=>ju lo 0 fun l=>h<=s.length/\l<=h/\K {v:=.p (.str ((s.take h).drop l))}
 | .p .aK=>(dj P T).isSome=true/\ju hi 0 fun h=>ju lo 0 fun l=>h<=0/\l<=h/\K {v:=x}
 | .p (.cZ full es)=>ju hi es.length fun h=>ju lo 0 fun l=>h<=es.length/\l<=h/\
  (match dj P T with
  |some sz=>gf P sz (es.map .p)/\K {v:=.p (.cZ (full&&h==es.length) ((es.take h).drop l))}
  |none=>False)
 | .p (.seq es)=>ju hi es.length fun h=>ju lo 0 fun l=>h<=es.length/\l<=h/\
  (match dj P T with
  |some sz=>gf P sz (es.map .p)/\K {v:=.p (.seq ((es.take h).drop l))}
  |none=>False)
 | .sl b aE al off len=>match H[b]? with
  |some (.arr k c a es)=>aE=c/\al=a/\dj P T=some al/\¬(k.gr=true/\es=[])/\off+len<=es.length/\
   ju hi len fun h=>ju lo 0 fun l=>off+h<=es.length/\l<=h/\
    (if l=0 then K {v:=.sl b aE al off h,aA:=[(b,.arr k c a es)]}
    else if l=h then K {v:=.p (.cZ false []),aA:=[(b,.arr k c a es)]}
    else K {v:=.sl b aE al (off+l) (h-l),aA:=[(b,.arr k c a es)]})
  |_=>False
 |_=>False
def rE(P:dp)(T:dl)(x k:PV):Option Bool:=match x with
 | .st u fs=>match iW P 9 T (.st u fs) k,kJ (.st u fs) k with
  |some a,some b=>bif a==b then some a else none
  |_,_=>none
 |x=>kJ x k
def gA(P:dp)(T:dl):List (PV×PV)->PV->Option (Option PV)
 |[],_=>some none
 |(k,v)::r,x=>match rE P T x k with
  |some true=>some (some v)
  |some false=>gA P T r x
  |none=>none
def nu(P:dp)(T:dl)(a:List (PV×PV))(x:PV):Option (Option PV):=match x with
 | .st u fs=>match gA P T a (.st u fs)with
  |some none=>some none
  |_=>none
 |x=>gA P T a x
def gM:List (PV×PV)->PV->PV->List (PV×PV)
 |[],k,v=>[(k,v)]
 |(a,v')::r,k,v=>if kJ k a=some true then(k,v)::r else(a,v')::gM r k v
def vr(P:dp)(T:dl):Bool:=match P.underlying T with
 |some (.int _)|some .string|some .bool=>true
 |_=>false
def gN(P:dp)(T:dl):PV->Bool
 | .int k _=>match P.underlying T with
  |some (.int a)=>decide (k=a)
  |_=>false
 | .str _=>jc P T
 | .st u fs=>match P.underlying T with
  |some (.struct bW)=>bW.toList.all (fun f=>f.name != "_" &&vr P f.type)&&(iW P 9 T (.st u fs) (.st u fs)).isSome
  |_=>false
 |_=>false
def mA(P:dp)(T:dl):Option (dl×dl):=
 match P.underlying T with
 |some (.map k e)=>some (k,e)
 |_=>none
def lenOf(H:ah):AV->Option (Nat×List (Nat×Obj))
 | .p (.str s)=>some (s.length,[])
 | .p .aK| .p .fM=>some (0,[])
 | .p (.cZ _ es)| .p (.seq es)=>some (es.length,[])
 | .p (.eJ es)=>some (es.length,[])
 | .sl b aE al _off len=>match H[b]? with
  |some (.arr k c a es)=>if aE=c/\al=a then some (len,[(b,.arr k c a es)])else none
  |_=>none
 | .map b=>match H[b]? with
  |some (.map fz es)=>some (es.length,[(b,.map fz es)])
  |_=>none
 |_=>none
def lJ(P:dp)(T:dl):AV->Bool
 | .p (.str _)=>jc P T
 | .p .aK| .p (.cZ _ _)| .p (.seq _)| .sl ..=>match P.underlying T with
  |some (.slice _)=>true
  |_=>false
 | .p .fM| .p (.eJ _)| .map _=>match P.underlying T with
  |some (.map _ _)=>true
  |_=>false
 |_=>false
def bytesOf:List AV->Option (List Nat)
 |[]=>some []
 | .p (.int .u8 c)::r=>if 0<=c/\c<256 then match bytesOf r with
  |some l=>some (c.toNat::l)
  |none=>none
  else none
 |_=>none
def nj(k:em)(c:Bool):List AV->Int->Option Int
 |[],a=>some a
 | .p (.int d b)::r,a=>if k=d then nj k c r (if c then(if b>a then b else a)else(if b<a then b else a))else none
 |_,_=>none
def iZ(a:List AV):List (Nat×AV)->List AV
 |[]=>a
 |(i,v)::r=>iZ (a.set i v) r
def ni(P:dp)(l:List Nat):List (Nat×AV)->Prop
 |[]=>True
 |(i,v)::r=>(∃n,l[i]?=some n/\bP P (ad v)=n/\ad v≠.bad)/\ni P l r
def gz(H:ah):List AV->Option (List PV×List (Nat×Obj)×List (Nat×Obj))
 |[]=>some ([],[],[])
 | .p v::r=>match gz H r with
  |some (a,aA,aO)=>some (v::a,aA,aO)
  |none=>none
 | .ptr b []::r=>match H[b]?,gz H r with
  |some (.box fz (.p t)),some (a,aA,aO)=>some (.cE t::a,(b,.box fz (.p t))::aA,(b,.box true (.p t))::aO)
  |_,_=>none
 |_=>none
def pV(P:dp)(T:dl)(H:ah)(a:AV)(K:aY->Prop):Prop:=
 match a with
 | .ptr b path=>match H[b]? with
  |some (.box fz t)=>match fq t path with
   |some s=>kindOf P T=ad s/\K {v:=s,aA:=[(b,.box fz t)]}
   |none=>False
  |_=>False
 | .cm b aE al i path=>match H[b]? with
  |some (.arr k d c es)=>aE=d/\al=c/\∃h:i<es.length,match fq (es[i]'h) path with
   |some s=>kindOf P T=ad s/\K {v:=s,aA:=[(b,.arr k d c es)]}
   |none=>False
  |_=>False
 | .p (.cE t)=>kindOf P T=aL t/\K {v:=.p t}
 |_=>False
def pK(P:dp)(T:dl)(H:ah)(a x:AV)(K:aY->Prop):Prop:=
 kindOf P T=ad x/\ad x≠.bad/\match a with
 | .ptr b path=>match H[b]? with
  |some (.box false t)=>match fq t path,gJ t path x with
   |some s,some d=>ad s=ad x/\K {v:=.p (.aD []),aA:=[(b,.box false t)],aO:=[(b,.box false d)]}
   |_,_=>False
  |_=>False
 | .cm b aE al i path=>match H[b]? with
  |some (.arr k e c es)=>aE=e/\al=c/\k≠.frozen/\∃h:i<es.length,match fq (es[i]'h) path,gJ (es[i]'h) path x with
   |some s,some d=>ad s=ad x/\K {v:=.p (.aD []),aA:=[(b,.arr k e c es)],aO:=[(b,.arr k e c (es.set i d))]}
   |_,_=>False
  |_=>False
 |_=>False
def eC(P:dp)(T:dl):Option (dl×Nat):=
 match kindOf P T,P.underlying T with
 | .agg u,some (.struct fs)=>some (u,fs.size)
 |_,_=>none
def iJ(P:dp)(T:dl):Option (dl×Nat):=
 match kindOf P T,P.underlying T with
 | .agg u,some (.array n _)=>some (u,n)
 |_,_=>none
def pA(P:dp)(T:dl)(a:AV)(f:Nat)(K:aY->Prop):Prop:=
 match eC P T with
 |some (u,n)=>f<n/\(match a with
  | .ptr b path=>K {v:=.ptr b (path++[(u,f)])}
  | .cm b aE al i path=>K {v:=.cm b aE al i (path++[(u,f)])}
  | .p (.cE t)=>aL t=.agg u/\(match(bW t)[f]? with
   |some g=>K {v:=.p (.cE g)}
   |none=>False)
  |_=>False)
 |_=>False
def pz(P:dp)(T:dl)(H:ah)(x i:AV)(K:aY->Prop):Prop:=
 match i with
 | .p (.int _ i)=>0<=i/\(match x with
  | .p (.cZ _ es)=>∃h:i.toNat<es.length,dj P T=some (bP P (aL (es[i.toNat]'h)))/\K {v:=.p (.cE (es[i.toNat]'h))}
  | .p (.seq es)=>∃h:i.toNat<es.length,dj P T=some (bP P (aL (es[i.toNat]'h)))/\K {v:=.p (.cE (es[i.toNat]'h))}
  | .sl b aE al off len=>dj P T=some al/\i.toNat<len/\(match H[b]? with
   |some (.arr k c a es)=>aE=c/\al=a/\¬(k.gr=true/\es=[])/\K {v:=.cm b aE al (off+i.toNat) [],aA:=[(b,.arr k c a es)]}
   |_=>False)
  | .ptr b path=>(match iJ P T with
   |some (u,n)=>i.toNat<n/\K {v:=.ptr b (path++[(u,i.toNat)])}
   |_=>False)
  | .cm b aE al j path=>(match iJ P T with
   |some (u,n)=>i.toNat<n/\K {v:=.cm b aE al j (path++[(u,i.toNat)])}
   |_=>False)
  | .p (.cE t)=>(match iJ P T with
   |some (u,n)=>aL t=.agg u/\i.toNat<n/\(match(bW t)[i.toNat]? with
    |some g=>K {v:=.p (.cE g)}
    |none=>False)
   |_=>False)
  |_=>False)
 |_=>False
def gd(P:dp)(an:ea->Bool)(o:Oper)(ρ:dx->AV)(H:ah)(K:aY->Prop):Prop:=
 match o.op with
 | .move x| .assign x=>K {v:=ρ x}
 | .pick c a b=>match ρ c with
  | .p (.bool t)=>K {v:=if t then ρ a else ρ b}
  |_=>False
 | .alloc T=>match cG P T with
  |some z=>kindOf P T=aL z/\aL z≠.bad/\kn T (aL z)=true/\K {v:=.ptr H.length [],ba:=[.box false (.p z)]}
  |none=>False
 | .box T x=>kindOf P T=ad (ρ x)/\ad (ρ x)≠.bad/\kn T (ad (ρ x))=true/\K {v:=.ptr H.length [],ba:=[.box false (ρ x)]}
 | .build T parts=>match kindOf P T,cG P T with
  | .agg u,some z=>(match dw P u with
   |some l=>aL z=.agg u/\ni P l (parts.toList.map fun(i,x)=>(i,ρ x))/\K {v:=iM u (iZ ((bW z).map .p) (parts.toList.map fun(i,x)=>(i,ρ x)))}
   |none=>False)
  |_,_=>False
 | .buildSlice T n parts=>match dj P T,cG P (fw P T)with
  |some sz,some z=>bP P (aL z)=sz/\n*sz<=1000000/\ni P (hL n sz) (parts.toList.map fun(i,x)=>(i,ρ x))/\
   K {v:=.sl H.length 0 sz 0 n,ba:=[.arr .exact 0 sz (iZ (hL n (.p z)) (parts.toList.map fun(i,x)=>(i,ρ x)))]}
  |_,_=>False
 | .load T a=>pV P T H (ρ a) K
 | .store T a x=>pK P T H (ρ a) (ρ x) K
 | .binOp op T x y _=>lM P op T (rG y) H (ρ x) (ρ y) (fun v=>K {v:=.p v,aA:=dR H (ρ x)})
 | .unOp op _ x=>match op,ρ x with
  | .not,.p (.bool b)=>K {v:=.p (.bool (!b))}
  | .neg,.p (.int k n)=>K {v:=.p (.int k (k.wrap (0-n)))}
  | .xor,.p (.int k n)=>K {v:=.p (.int k (k.wrap (c6 k.bits (if k.signed then -1 else k.max)^^^c6 k.bits n).toNat))}
  |_,_=>False
 | .convert S D x=>match P.underlying S,P.underlying D,ρ x with
  |some _,some (.int k),.p (.int _ n)=>K {v:=.p (.int k (k.wrap n))}
  |some _,some .string,.p (.str s)=>K {v:=.p (.str s)}
  |_,_,_=>False
 | .extract t i=>match ρ t with
  | .p (.aD vs)=>(match vs[i]? with
   |some v=>K {v:=.p v}
   |none=>False)
  | .aD vs=>(match vs[i]? with
   |some v=>K {v}
   |none=>False)
  |_=>False
 | .fieldAddr T a f=>pA P T (ρ a) f K
 | .indexAddr T x i=>pz P T H (ρ x) (ρ i) K
 | .field T x f=>match kindOf P T,P.underlying T,ρ x with
  | .agg u,some (.struct _),.p t=>aL t=.agg u/\(match(bW t)[f]?,(kC P u)[f]? with
   |some g,some F=>kindOf P F=aL g/\K {v:=.p g}
   |_,_=>False)
  |_,_,_=>False
 | .index T x i=>match ρ x,ρ i with
  | .p (.str s),.p (.int _ i)=>jc P T=true/\0<=i/\∃h:i.toNat<s.length,K {v:=.p (.int .u8 (s[i.toNat]'h))}
  | .p (.st u es),.p (.int _ i)=>(match iJ P T,(kC P u)[i.toNat]?,es[i.toNat]? with
   |some (u',n),some F,some g=>u'=u/\0<=i/\i.toNat<n/\kindOf P F=aL g/\K {v:=.p g}
   |_,_,_=>False)
  |_,_=>False
 | .makeFunc (.func f) w q=>if an f then(match gz H (w.toList.map ρ),gz H (q.toList.map ρ)with
   |some (a,[],[]),some (b,aA,aO)=>K {v:=.p (.func f a b),aA,aO}
   |_,_=>False)
  else match eE (w.toList.map ρ),eE (q.toList.map ρ)with
   |some a,some b=>K {v:=.p (.func f a b)}
   |_,_=>K {v:=.func f (w.toList.map ρ) (q.toList.map ρ)}
 | .makeSlice T l c=>match dj P T,cG P (fw P T),ρ l,ρ c with
  |some sz,some z,.p (.int .i64 l),.p (.int .i64 c)=>bP P (aL z)=sz/\0<=l/\l=c/\l<=dc/\K {v:=.sl H.length 0 sz 0 l.toNat,ba:=[.arr .exact 0 sz (hL l.toNat (.p z))]}
  |_,_,_,_=>False
 | .slice T x lo hi none=>pL P T H (ρ x) (lo.map ρ) (hi.map ρ) K
 | .makeMap _ none=>K {v:=.map H.length,ba:=[.map false []]}
 | .lookup T x i ok=>match mA P T,ρ i with
  |some (d,E),.p key=>(match cG P E with
   |some z=>gN P d key=true/\(match ρ x with
    | .p .fM=>K {v:=.p (if ok then .aD [z,.bool false]else z)}
    | .p (.eJ es)=>(match gA P d es key with
     |some (some v)=>K {v:=.p (if ok then .aD [v,.bool true]else v)}
     |some none=>K {v:=.p (if ok then .aD [z,.bool false]else z)}
     |none=>False)
    | .map b=>(match H[b]? with
     |some (.map fz es)=>(match gA P d es key with
      |some (some v)=>K {v:=.p (if ok then .aD [v,.bool true]else v),aA:=[(b,.map fz es)]}
      |some none=>K {v:=.p (if ok then .aD [z,.bool false]else z),aA:=[(b,.map fz es)]}
      |none=>False)
     |_=>False)
    |_=>False)
   |none=>False)
  |_,_=>False
 | .mapUpdate T m k x| .insert T m k x=>match mA P T,ρ m,ρ k,ρ x with
  |some (d,_),.map b,.p key,.p v=>gN P d key=true/\(match H[b]? with
   |some (.map false es)=>(match nu P d es key with
    |some _=>K {v:=.p (.aD []),aA:=[(b,.map false es)],aO:=[(b,.map false (gM es key v))]}
    |none=>False)
   |_=>False)
  |_,_,_,_=>False
 | .range T x=>match ρ x with
  | .p (.str s)=>jc P T=true/\K {v:=.ptr H.length [],ba:=[.eL s 0]}
  |_=>False
 | .next it true=>match ρ it with
  | .ptr b []=>(match H[b]? with
   |some (.eL s pos)=>if pos<s.length then
    K {v:=.p (.aD [.bool true,.int .i64 pos,.int .i32 (Utf8.decode (ib s) pos).1]),aA:=[(b,.eL s pos)],aO:=[(b,.eL s (pos+(Utf8.decode (ib s) pos).2))]}
    else K {v:=.p (.aD [.bool false]),aA:=[(b,.eL s pos)]}
   |_=>False)
  |_=>False
 | .nilCheck x=>match ρ x with
  | .ptr _ _| .cm _ _ _ _ _| .p (.cE _)=>K {v:=ρ x}
  |_=>False
 | .call c=>match c.callee with
  | .builtin b=>let args:=c.args.toList.map ρ
   let T:=c.argTypes.getD 0 0
   (match b,args with
   | .len,[x]=>(match lenOf H x with
    |some (n,aA)=>lJ P T x=true/\0<c.argTypes.size/\K {v:=.p (.int .i64 n),aA}
    |none=>False)
   | .append,[s,x]=>c.argTypes.size=2/\pC P T (c.argTypes.getD 1 0) H s x K
   | .min,.p (.int k a)::r=>(match nj k false r a with
    |some n=>K {v:=.p (.int k n)}
    |none=>False)
   | .max,.p (.int k a)::r=>(match nj k true r a with
    |some n=>K {v:=.p (.int k n)}
    |none=>False)
   | .unsafeSliceData,[.sl b aE al off len]=>(match H[b]? with
    |some (.arr k j e es)=>aE=j/\al=e/\0<len/\off+len<=es.length/\K {v:=.cm b aE al off [],aA:=[(b,.arr k j e es)]}
    |_=>False)
   | .unsafeString,[.cm b aE al i [],.p (.int .i64 n)]=>(match H[b]? with
    |some (.arr .bytes j e es)=>aE=j/\al=e/\al=1/\i=0/\0<n/\n.toNat<=es.length/\n<=9223372036854775807/\c.argTypes.size=2/\P.underlying T=some (.pointer Gl.u8)/\P.cellsOf Gl.u8=1/\(match bytesOf (es.take n.toNat)with
     |some l=>K {v:=.p (.str l),aA:=[(b,.arr .bytes j e es)],aO:=[(b,.dead)]}
     |none=>False)
    |_=>False)
   |_,_=>False)
  |_=>False
 |_=>False
def newAt(a:Nat):List Obj->List (Nat×Obj)
 |[]=>[]
 |o::r=>(a,o)::newAt (a+1) r
structure cd(P:dp)(ag aa:Nat->Prop)(w:dq)(β:Bd)(H:ah)(aG:Nat->Prop)(w':dq)(aM:Bd)(H':ah):Prop where
 b8:∀k,aa k->aG k
 fresh:∀k,aG k->aa k\/¬ag k
 ext:Ext ag aa w w'
 step:cK β H aM H'
 rel:cj P w' aG aM H' ag
 ir:∀x,aN H x->aN H' x
 loop:∀b,ja H b->ja H' b
def Enters(P:dp)(f:ea):Prop:=∀(args:Array db)(w:dq),(callFunc f args).run P w=.ok (.enter f args) w
def c8(P:dp)(f:ea)(H:ah)(args:List AV)(H':ah)(v:AV):Prop:=
 Enters P f/\∀(w:dq)(aa ag:Nat->Prop)(β:Bd)(a:List db),cj P w aa β H ag->bK P w aa β H args a->aZ (aN H) args->
  ey P f a.toArray w fun e w'=>∃cv aM aG,e=.returned cv/\cd P ag aa w β H aG w' aM H'/\aC P w' aG aM H' v cv/\aH (aN H') v
def fQ(P:dp)(b:Nat)(H:ah)(args:List AV)(H':ah)(v:AV):Prop:=
 ja H b/\∀(w:dq)(aa ag:Nat->Prop)(β:Bd)(c:List db),cj P w aa β H ag->bK P w aa β H args c->aZ (aN H) args->
  ∃f tmps assign body,(gx (β.aw b) c.toArray).run P w=.ok (.round (β.aw b) f tmps assign body) w/\
   ∀(a:ec)(d:List ec),∃cv w' aM aG,ei P (lone (gb (β.aw b) f tmps assign body .normal) (a::d) w) (lone (a.finish cv) d w')/\
    cd P ag aa w β H aG w' aM H'/\aC P w' aG aM H' v cv/\aH (aN H') v
def tD(P:dp)(f:ea)(args:List AV)(base:Nat)(e:aY):Prop:=
 Enters P f/\∀(H:ah)(w:dq)(aa ag:Nat->Prop)(β:Bd)(a:List db),cj P w aa β H ag->bK P w aa β H args a->aZ (aN H) args->
  (∀p∈e.aA,H[p.1]?=some p.2)->(∀i,i<e.ba.length->H[base+i]?=some .hole)->
  ey P f a.toArray w fun x w'=>∃cv aM aG,x=.returned cv/\cd P ag aa w β H aG w' aM (bt H (e.aO++newAt base e.ba))/\
   aC P w' aG aM (bt H (e.aO++newAt base e.ba)) e.v cv/\aH (aN (bt H (e.aO++newAt base e.ba))) e.v
def pY(P:dp)(b:Nat)(args:List AV)(a:Nat)(e:aY):Prop:=
 ∀(H:ah)(w:dq)(aa ag:Nat->Prop)(β:Bd)(d:List db),cj P w aa β H ag->bK P w aa β H args d->aZ (aN H) args->
  (∀p∈e.aA,H[p.1]?=some p.2)->(∀i,i<e.ba.length->H[a+i]?=some .hole)->
  ja H b/\∃f tmps assign body,(gx (β.aw b) d.toArray).run P w=.ok (.round (β.aw b) f tmps assign body) w/\
   ∀(c:ec)(g:List ec),∃cv w' aM aG,ei P (lone (gb (β.aw b) f tmps assign body .normal) (c::g) w) (lone (c.finish cv) g w')/\
    cd P ag aa w β H aG w' aM (bt H (e.aO++newAt a e.ba))/\
    aC P w' aG aM (bt H (e.aO++newAt a e.ba)) e.v cv/\aH (aN (bt H (e.aO++newAt a e.ba))) e.v
def FG(P:dp)(f:ea)(args:List AV)(aA:List (Nat×Obj))(v:PV):Prop:=
 ∀(H:ah)(w:dq)(aa ag:Nat->Prop)(β:Bd)(a:List db),cj P w aa β H ag->bK P w aa β H args a->aZ (aN H) args->(∀p∈aA,H[p.1]?=some p.2)->
  ∃cv,(callFunc f a.toArray).run P w=.ok (.value cv) w/\aF P w aa v cv
def qc(H:ah)(e:aY):Prop:=(∀p∈e.aA,H[p.1]?=some p.2)/\(∀p∈e.aO,p.1<H.length/\p.2≠.hole)
def tC(P:dp)(f:ea)(args:List PV)(v:PV):Prop:=
 Enters P f/\∀(w:dq)(aa:Nat->Prop)(a:List db),(∀k,aa k->k<w.heap.size)->oG P w aa->bO P w aa args a->
  ey P f a.toArray w fun e w'=>∃cv,∃aG:Nat->Prop,e=.returned cv/\(∀k,aa k->aG k)/\(∀k,aG k->aa k\/w.heap.size<=k)/\(∀k,aG k->k<w'.heap.size)/\
   w.heap.size<=w'.heap.size/\(∀k,k<w.heap.size->w'.heap[k]?=w.heap[k]?)/\(w'.os=w.os/\w'.output=w.output)/\aF P w' aG v cv
def SN(P:dp)(f:ea)(args:List PV)(v:PV):Prop:=
 ∀(w:dq)(aa:Nat->Prop)(a:List db),bO P w aa args a->∃cv,(callFunc f a.toArray).run P w=.ok (.value cv) w/\aF P w aa v cv
def aq(P:dp)(f:ea)(args:List PV)(v:PV):Prop:=tC P f args v\/SN P f args v
def lx(H:ah):AV->Option (PV×ah)
 | .p v=>some (v,H)
 | .sl b aE al off len=>match H[b]? with
  |some (.arr k d a es)=>
   if aE=d/\al=a/\off+len<=es.length then
    if k.gr=true/\es=[]then some (.aK,H)else
    match eE es with
    |some c=>some (.cZ (k== .exact&&off+len==es.length) ((c.drop off).take len),H.set b (.arr .frozen aE al es))
    |none=>none
   else none
  |_=>none
 | .ptr b path=>match H[b]? with
  |some (.box _ (.p t))=>match l9 t path with
   |some s=>some (.cE s,H.set b (.box true (.p t)))
   |none=>none
  |_=>none
 | .map b=>match H[b]? with
  |some (.map _ es)=>some (.eJ es,H.set b (.map true es))
  |_=>none
 |_=>none
def nO(H:ah):List AV->Option (List PV×ah)
 |[]=>some ([],H)
 |x::r=>match lx H x with
  |some (v,H1)=>match nO H1 r with
   |some (vs,a)=>some (v::vs,a)
   |none=>none
  |none=>none
def kO(P:dp)(draw:Bool)(f:ea)(args:List AV)(H:ah)(K:AV->ah->Prop):Prop:=
 (∃vs v,args=vs.map .p/\aq P f vs v/\K (.p v) H)\/
 (draw=false/\((∃vs H1 v,nO H args=some (vs,H1)/\aq P f vs v/\K (.p v) H1)\/(∃H' v,c8 P f H args H' v/\K v H')\/
  (∃e,tD P f args H.length e/\qc H e/\K e.v (bt H e.aO++e.ba))\/(∃aA v,FG P f args aA v/\(∀p∈aA,H[p.1]?=some p.2)/\K (.p v) H)))
def kK(P:dp)(an:ea->Bool)(draw:Bool)(o:Oper)(K:St->Prop)(s:St):Prop:=
 match o.op with
 | .call {callee:=.value f,args,.. }=>(match ev s.env f with
  | .p (.func g c a)=>kO P draw g (c.map .p++args.toList.map (ev s.env)++a.map .p) s.heap (fun v H'=>K ⟨put o.dst v s.env,H'⟩)
  | .func g c a=>kO P draw g (c++args.toList.map (ev s.env)++a) s.heap (fun v H'=>K ⟨put o.dst v s.env,H'⟩)
  | .map b=>∃H' v,fQ P b s.heap (args.toList.map (ev s.env)) H' v/\K ⟨put o.dst v s.env,H'⟩
  |_=>False)
 |_=>gd P an o (ev s.env) s.heap fun e=>K (e.app o.dst s)
def guardOf(a:Array Oper)(j:Nat)(e:Env):AV:=
 match(a[j]?).bind (·.dst)with
 |some d=>aP e d
 |none=>.p (.aD [])
def iF(P:dp)(an:ea->Bool)(draw:Bool)(a:Array Oper):List Oper->(St->Prop)->St->Prop
 |[],K,s=>K s
 |o::r,K,s=>match o.guard with
  |none=>kK P an draw o (iF P an draw a r K) s
  |some (j,want)=>match guardOf a j s.env with
   | .p (.bool t)=>if t=want then kK P an draw o (iF P an draw a r K) s else iF P an draw a r K ⟨put o.dst (.p (.aD [])) s.env,s.heap⟩
   | .p (.aD [])=>iF P an draw a r K ⟨put o.dst (.p (.aD [])) s.env,s.heap⟩
   |_=>False
def nE:Obj->Option Obj
 | .box _ (.p t)=>some (.box true (.p t))
 | .arr k aE al es=>if k.gr=true/\es=[]then none else match eE es with
  |some _=>some (.arr .frozen aE al es)
  |none=>none
 | .map _ es=>some (.map true es)
 |_=>none
def nN(H:ah):AV->Option (PV×List Nat)
 | .p v=>some (v,[])
 | .sl b aE al off len=>match H[b]? with
  |some (.arr k d a es)=>
   if aE=d/\al=a/\off+len<=es.length then
    if k.gr=true/\es=[]then none else
    match eE es with
    |some c=>some (.cZ (k== .exact&&off+len==es.length) ((c.drop off).take len),[b])
    |none=>none
   else none
  |_=>none
 | .ptr b path=>match H[b]? with
  |some (.box _ (.p t))=>match l9 t path with
   |some s=>some (.cE s,[b])
   |none=>none
  |_=>none
 | .map b=>match H[b]? with
  |some (.map _ es)=>some (.eJ es,[b])
  |_=>none
 |_=>none
def pX(H:ah):List AV->Option (List PV×List Nat)
 |[]=>some ([],[])
 |x::r=>match nN H x,pX H r with
  |some (v,bs),some (vs,cs)=>some (v::vs,bs++cs)
  |_,_=>none
def mu(H:ah):List Nat->Option (List (Nat×Obj)×List (Nat×Obj))
 |[]=>some ([],[])
 |b::r=>match H[b]?,mu H r with
  |some o,some (aA,aO)=>(match nE o with
   |some o'=>some ((b,o)::aA,(b,o')::aO)
   |none=>none)
  |_,_=>none
def kS(P:dp)(f:ea)(args:List AV)(H:ah)(K:aY->Prop):Prop:=
 (∃vs v,args=vs.map .p/\aq P f vs v/\K {v:=.p v})\/
 (∃vs bs aA aO v,pX H args=some (vs,bs)/\mu H bs=some (aA,aO)/\aq P f vs v/\K {v:=.p v,aA,aO})\/
 (∃e,tD P f args H.length e/\qc H e/\K e)\/
 (∃aA v,FG P f args aA v/\(∀p∈aA,H[p.1]?=some p.2)/\K {v:=.p v,aA})
def kq(P:dp)(an:ea->Bool)(o:Oper)(s:St)(K:aY->Prop):Prop:=
 match o.op with
 | .call {callee:=.value f,args,.. }=>(match ev s.env f with
  | .p (.func g c a)=>kS P g (c.map .p++args.toList.map (ev s.env)++a.map .p) s.heap K
  | .func g c a=>kS P g (c++args.toList.map (ev s.env)++a) s.heap K
  | .map b=>∃e,pY P b (args.toList.map (ev s.env)) s.heap.length e/\qc s.heap e/\K e
  |_=>False)
 |_=>gd P an o (ev s.env) s.heap K
structure Touch where
 i:Nat
 rd:List Nat
 wr:List Nat
def pN(a:Nat):List Obj->List Nat
 |[]=>[]
 |_::r=>a::pN (a+1) r
def iC(i a:Nat)(e:aY):Touch:=⟨i,e.aA.map (·.1),e.aO.map (·.1)++pN a e.ba⟩
def gW(i b:Nat)(e:aY)(a:List Touch):List Touch:=
 match e.aA,e.aO,e.ba with
 |[],[],[]=>a
 |_,_,_=>iC i b e::a
def reach(a:Array Oper):Nat->Nat->Nat->Bool
 |0,_,_=>false
 |f+1,i,j=>match a[j]? with
  |some o=>o.after.toList.any (fun e=>hj .any e&&e.on==i)||o.after.toList.any (fun e=>hj .any e&&decide (i<e.on)&&reach a f i e.on)
  |none=>false
def kj(u t:Touch):Bool:=u.wr.any (fun b=>t.rd.contains b||t.wr.contains b)||u.rd.any (fun b=>t.wr.contains b)
def jw(a:Array Oper):List Touch->Bool
 |[]=>true
 |t::r=>r.all (fun u=>!kj u t||reach a a.size u.i t.i)&&jw a r
def gV(P:dp)(an:ea->Bool)(a:Array Oper):List Oper->Nat->List Touch->(St->Prop)->St->Prop
 |[],_,acc,K,s=>jw a acc=true/\K s
 |o::r,i,acc,K,s=>match o.guard with
  |none=>kq P an o s fun e=>gV P an a r (i+1) (gW i s.heap.length e acc) K (e.app o.dst s)
  |some (j,want)=>match guardOf a j s.env with
   | .p (.bool t)=>if t=want then kq P an o s fun e=>gV P an a r (i+1) (gW i s.heap.length e acc) K (e.app o.dst s)
    else gV P an a r (i+1) acc K ⟨put o.dst (.p (.aD [])) s.env,s.heap⟩
   | .p (.aD [])=>gV P an a r (i+1) acc K ⟨put o.dst (.p (.aD [])) s.env,s.heap⟩
   |_=>False
inductive bE where|normal|exit (id:Nat)|ret
mutual
def gK(T:ah):PV->AV->Prop
 | .aK,x=>x=.p .aK\/match x with
  | .sl b aE _ off len=>aE=0/\off=0/\len=0/\∃k z,T[b]?=some (.arr k 0 z [])/\k.gr=true
  |_=>False
 | .st u fs,x=>x=.p (.st u fs)\/match x with
  | .st u' gs=>u=u'/\mc T fs gs
  |_=>False
 |v,x=>x=.p v
def mc(T:ah):List PV->List AV->Prop
 |[],gs=>gs=[]
 |v::vs,gs=>match gs with
  |g::gs=>gK T v g/\mc T vs gs
  |[]=>False
end
mutual
def Gh(T:ah):AV->AV->Prop
 | .p v,x=>gK T v x
 | .st u fs,x=>match x with
  | .st u' gs=>u=u'/\nP T fs gs
  |_=>False
 |a,x=>x=a
def nP(T:ah):List AV->List AV->Prop
 |[],gs=>gs=[]
 |v::vs,gs=>match gs with
  |g::gs=>Gh T v g/\nP T vs gs
  |[]=>False
end
structure rh(s t:St):Prop where
 env:∀x,aP t.env x=aP s.env x\/aP t.env x=.p .undef\/Gh t.heap (aP s.env x) (aP t.env x)
 heap:∀(b:Nat)(o:Obj),t.heap[b]?=some o->o=.hole\/s.heap[b]?=some o\/((s.heap[b]?=none\/s.heap[b]?=some .hole)/\∃k z,o=.arr k 0 z []/\k.gr=true)\/(∃v v',s.heap[b]?=some (.box false v)/\o=.box false v'/\Gh t.heap v v')
 iq:∀x,aH (aN t.heap) (aP t.env x)
 hrefs:∀(b:Nat)(o:Obj),t.heap[b]?=some o->o.refs (aN t.heap)
def df(N:Nat)(s t:St):Prop:=t=s\/(rh s t/\∀b,b<N->t.heap[b]?=s.heap[b]?)
def kI(Q:bE->St->Prop)(j:Option Code)(s:St):Prop:=
 match j with
 |none=>Q .normal s
 |some (.exit id)=>Q (.exit id) s
 |some .ret=>Q .ret s
 |_=>False
def kg(P:dp)(d:AV)(b:Nat)(H:ah)(K:ah->Prop):Prop:=
 match d with
 | .p (.func g c a)=>∃H' v,c8 P g H (c.map .p++[.map b]++a.map .p) H' v/\K H'
 | .func g c a=>∃H' v,c8 P g H (c++[.map b]++a) H' v/\K H'
 |_=>False
def iT(b:Nat)(env:Env)(Q:bE->St->Prop)(H:ah):Prop:=
 match H[b]? with
 |some (.loop L)=>L.st≠.busy/\kI Q L.pending ⟨env,H.set b (.loop {L with st:=.exhausted})⟩
 |_=>False
abbrev Cx:=Nat×Nat
def cr(P:dp)(an:ea->Bool)(q:Cx):Code->(bE->St->Prop)->St->Prop
 | .skip,Q,s| .label _,Q,s=>Q .normal s
 | .region _ ops draw,Q,s=>if draw then gV P an ops ops.toList 0 [] (Q .normal) s else iF P an false ops ops.toList (Q .normal) s
 | .seq a b,Q,s=>cr P an q a (fun e s'=>match e with
  | .normal=>cr P an q b Q s'
  |e=>Q e s') s
 | .cond c a b,Q,s=>match ev s.env c with
  | .p (.bool t)=>if t then cr P an q a Q s else cr P an q b Q s
  |_=>False
 | .block id b,Q,s=>cr P an q b (fun e s'=>match e with
  | .exit i=>if i=id then Q .normal s' else Q (.exit i) s'
  |e=>Q e s') s
 | .scope b,Q,s=>cr P an q b Q s
 | .loop b,Q,s=>∃I:Nat->St->Prop,(∃n t,df q.2 s t/\I n t)/\∀n t,I n t->cr P an q b (fun e s'=>match e with
  | .normal=>∃m g,m<n/\df q.2 s' g/\I m g
  |e=>Q e s') t
 | .rangeFunc f h a b,Q,s=>q.2<=s.heap.length/\∃d:Env,(∀x,aP d x=aP s.env x)/\kg P (ev s.env f) s.heap.length (s.heap++[.loop ⟨.ready,none,q.1,h.toList,a,b,d⟩]) (iT s.heap.length s.env Q)
 | .exit id,Q,s=>Q (.exit id) s
 | .ret,Q,s=>Q .ret s
 |_,_,_=>False
def bD(fr:ec)(t:Array db)(ds:List eb)(todo:List Item):ec:={fr with tmps:=t,defers:=ds,todo,mode:=.run}
section
variable{P:dp}{fr:ec}{t:Array db}{ds:List eb}{k:List Item}{cs:List ec}{w:dq}
def gq(t:Array db):dx->db
 | .tmp x=>t.getD x undef
 | .const v=>v
 | .global g=>.pointer (some ⟨g,0,none⟩)
 | .func f=>.func (.func f) #[] #[]
theorem eval_eq(fr:ec):fr.eval=gq fr.tmps:=by funext x;cases x<;>rfl
theorem aGR:step P (lone (bD fr t ds (.code .skip::k)) cs w)=.next (lone (bD fr t ds k) cs w):=
 dz (by simp[stepG,hG,bD])
theorem X8{l:Nat}:step P (lone (bD fr t ds (.code (.label l)::k)) cs w)=.next (lone (bD fr t ds k) cs w):=
 dz (by simp[stepG,hG,bD])
theorem W1{id:Nat}:step P (lone (bD fr t ds (.inBlock id::k)) cs w)=.next (lone (bD fr t ds k) cs w):=
 dz (by simp[stepG,hG,bD])
theorem W0{b:Code}:step P (lone (bD fr t ds (.inScope b::k)) cs w)=.next (lone (bD fr t ds k) cs w):=
 dz (by simp[stepG,hG,bD])
theorem Fo{a b:Code}:step P (lone (bD fr t ds (.code (.seq a b)::k)) cs w)=.next (lone (bD fr t ds (.code a::.code b::k)) cs w):=
 dz (by simp[stepG,hG,bD])
theorem aGI{c:dx}{x y:Code}{b:Bool}(h:gq t c= .bool b):
 step P (lone (bD fr t ds (.code (.cond c x y)::k)) cs w)=.next (lone (bD fr t ds (.code (if b then x else y)::k)) cs w):=
 dz (by simp[stepG,hG,bD,eval_eq,h])
theorem AF{id:Nat}{c:Code}:step P (lone (bD fr t ds (.code (.block id c)::k)) cs w)=.next (lone (bD fr t ds (.code c::.inBlock id::k)) cs w):=
 dz (by simp[stepG,hG,bD])
theorem Em{c:Code}:step P (lone (bD fr t ds (.code (.scope c)::k)) cs w)=.next (lone (bD fr t ds (.code c::.inScope c::k)) cs w):=
 dz (by simp[stepG,hG,bD])
theorem aGM{c:Code}:step P (lone (bD fr t ds (.code (.loop c)::k)) cs w)=.next (lone (bD fr t ds (.code c::.inLoop c::k)) cs w):=
 dz (by simp[stepG,hG,bD])
theorem Xn{c:Code}:step P (lone (bD fr t ds (.inLoop c::k)) cs w)=.next (lone (bD fr t ds (.code c::.inLoop c::k)) cs w):=
 dz (by simp[stepG,hG,bD])
theorem aGL{id:Nat}{a:List Item}(h:exitTo id k=some a):step P (lone (bD fr t ds (.code (.exit id)::k)) cs w)=.next (lone (bD fr t ds a) cs w):=
 dz (by simp[stepG,hG,bD,h])
theorem Xm{id:Nat}{a:Array Oper}:
 step P (lone (bD fr t ds (.code (.region id a false)::k)) cs w)=.next (lone (bD fr t ds (.inRegion a (j2 a.size)::k)) cs w):=
 dz (by simp[stepG,hG,bD])
theorem aGK{id:Nat}{a:Array Oper}:
 step P (lone (bD fr t ds (.code (.region id a true)::k)) cs w)=
  .next (lone (bD fr t ds (.inRegion a (hh (P.follows .mixedOrders) a (w.tape w.drawn (.order fr.fn id)))::k)) cs {w with drawn:=w.drawn+1}):=
 dz (by simp[stepG,hG,bD,choose,hp,Question.forced,Question.cut])
theorem Kh{a:Array Oper}:step P (lone (bD fr t ds (.inRegion a []::k)) cs w)=.next (lone (bD fr t ds k) cs w):=
 dz (by simp[stepG,hG,bD])
def pf(dst:Option Tmp)(v:db)(t:Array db):Array db:=
 match dst with
 |some d=>t.setIfInBounds d v
 |none=>t
theorem pq{a:Array Oper}{i:Nat}{r:List Nat}{o:Oper}(c:a[i]?=some o)(v:db):
 (bD fr t ds (.inRegion a (i::r)::k)).finish v=bD fr (pf o.dst v t) ds (.inRegion a r::k):=by
 cases b:o.dst<;>simp[Frame.finish,bD,c,b,pf]
theorem LF{a:Array Oper}{i:Nat}{r:List Nat}{o:Oper}(b:a[i]?=some o)(c:hg o (yielded a t)=false):
 step P (lone (bD fr t ds (.inRegion a (i::r)::k)) cs w)=.next (lone (bD fr (pf o.dst undef t) ds (.inRegion a r::k)) cs w):=by
 rw[<-pq b];exact dz (by simp only[bD];simp[stepG,hG,b,c])
theorem WB{o:Oper}(a:∀c,o.op≠ .defer c)(r:Option Nat)(A:Nat->Call->GStep)(B:GStep):
 (match r,o.op with
  |some l,.defer c=>A l c
  |_,_=>B)=B:=by
 cases r with
 |none=>rfl
 |some l=>cases h:o.op<;>first|rfl|exact absurd h (a _)
theorem aGQ{a:Array Oper}{i:Nat}{r:List Nat}{o:Oper}{fr:ec}(e:fr.todo= .inRegion a (i::r)::k)(d:a[i]?=some o)(b:∀c,o.op≠ .defer c):
 hJ P true fr cs none w=hH P true fr cs none (dy (gq fr.tmps) o) w:=by
 simp only[hJ,Frame.oper?,e,d,eval_eq];exact WB b _ _ _
theorem Ee{f:Bool}{a:Array Oper}{i:Nat}{r:List Nat}{o:Oper}(b:a[i]?=some o)(e:hg o (yielded a t)=true)(d:∀c,o.op≠ .defer c):
 stepG P f {frame:=bD fr t ds (.inRegion a (i::r)::k),callers:=cs,status:=.running,dying:=none} w=
  hH P true (bD fr t ds (.inRegion a (i::r)::k)) cs none (dy (gq t) o) w:=by
 have h:=aGQ (P:=P) (cs:=cs) (w:=w) (fr:=bD fr t ds (.inRegion a (i::r)::k)) rfl b d;simp only[bD]at h⊢;simp[stepG,hG,b,e,h]
theorem uL{a:Array Oper}{i:Nat}{r:List Nat}{o:Oper}{n:Next}{cv:db}{w':dq}(b:a[i]?=some o)(f:hg o (yielded a t)=true)
 (d:∀c,o.op≠.defer c)(e:(dy (gq t) o).run P w=.ok n w')(hn:n=.value cv\/n=.skip/\cv=undef):
 step P (lone (bD fr t ds (.inRegion a (i::r)::k)) cs w)=.next (lone (bD fr (pf o.dst cv t) ds (.inRegion a r::k)) cs w'):=by
 rw[<-pq b];refine dz ?_;rw[Ee b f d];rcases hn with rfl|⟨rfl,rfl⟩<;>simp[hH,e,bD]
theorem xj{a:Array Oper}{i:Nat}{r:List Nat}{o:Oper}{f:ea}{args:Array db}{w':dq}(d:a[i]?=some o)(g:hg o (yielded a t)=true)
 (b:∀c,o.op≠.defer c)(e:(dy (gq t) o).run P w=.ok (.enter f args) w'):
 step P (lone (bD fr t ds (.inRegion a (i::r)::k)) cs w)=.next (lone (gc P f args .normal) (bD fr t ds (.inRegion a (i::r)::k)::cs) w'):=by
 refine dz ?_;rw[Ee d g b];simp[hH,e,bD]
theorem K8{a:Array Oper}{i:Nat}{r:List Nat}{o:Oper}{l:Nat}{f:ea}{tmps:Array db}{assign body:Code}{w':dq}(d:a[i]?=some o)(g:hg o (yielded a t)=true)
 (b:∀c,o.op≠.defer c)(e:(dy (gq t) o).run P w=.ok (.round l f tmps assign body) w'):
 step P (lone (bD fr t ds (.inRegion a (i::r)::k)) cs w)=.next (lone (gb l f tmps assign body .normal) (bD fr t ds (.inRegion a (i::r)::k)::cs) w'):=by
 refine dz ?_;rw[Ee d g b];simp[hH,e,bD]
end
end Go.az
namespace Go.az
variable[Gl]
mutual
theorem aH.mono{S T:Nat×Nat->Prop}(h:∀x,S x->T x):∀v,aH S v->aH T v
 | .p _,_=>by simp[aH]
 | .ptr b _,c| .cm b _ _ _ _,c| .sl b _ _ _ _,c| .map b,c=>by simp only[aH]at*;exact h _ c
 | .func _ a b,c=>by simp only[aH]at*;exact⟨aZ.mono h a c.1,aZ.mono h b c.2⟩
 | .st _ fs,c=>by simp only[aH]at*;exact aZ.mono h fs c
 | .aD vs,c=>by simp only[aH]at*;exact aZ.mono h vs c
theorem aZ.mono{S T:Nat×Nat->Prop}(h:∀x,S x->T x):∀vs,aZ S vs->aZ T vs
 |[],_=>by simp[aZ]
 |v::vs,c=>by simp only[aZ]at*;exact⟨aH.mono h v c.1,aZ.mono h vs c.2⟩
end
structure cQ(P:dp)(n:Nat)(ag aa:Nat->Prop)(β:Bd)(s:St)(t:Array db)(w:dq):Prop where
 heap:cj P w aa β s.heap ag
 env:∀x,aC P w aa β s.heap (aP s.env x) (t.getD x undef)
 iq:∀x,aH (aN s.heap) (aP s.env x)
 size:t.size=n
structure oH(N:Nat)(β:Bd)(H:ah)(aM:Bd)(H':ah):Prop where
 obj:∀k b,b<N->aN H (b,0)->mR H' k b->mR H k b/\aM.aw b=β.aw b
 arr:∀b aE al k es,b<N->aN H (b,aE)->iD H' b aE al k es->∃k0 jC,iD H b aE al k0 jC/\jC.length<=es.length/\(dQ k es↔dQ k0 jC)/\(¬dQ k es->aM.aw b=β.aw b/\aM.cap b=β.cap b)
theorem oH.loop{N:Nat}{β:Bd}{H:ah}{aM:Bd}{H':ah}(h:oH N β H aM H')(b:Nat)(hn:b<N)(hi:aN H (b,0))(a:ja H' b):ja H b/\aM.aw b=β.aw b:=
 (h.obj 2 b hn hi (uz.2 a)).imp uz.1 id
theorem cK.n{N:Nat}{β:Bd}{H:ah}{aM:Bd}{H':ah}(h:cK β H aM H'):oH N β H aM H':=
 ⟨fun k b _=>h.obj k b,fun b aE al k es _=>h.arr b aE al k es⟩
theorem oH.full{β:Bd}{H:ah}{aM:Bd}{H':ah}(h:oH H.length β H aM H'):cK β H aM H':=by
 have lt:∀b v,aN H (b,v)->b<H.length:=fun b v⟨o,c,_⟩=>(hK.1 c).1;exact⟨fun k b x=>h.obj k b (lt _ _ x) x,fun b aE al k a x=>h.arr b aE al k a (lt _ _ x) x⟩
theorem oH.trans{N:Nat}{β i j:Bd}{H H1 f:ah}(h:oH N β H i H1)(hi:∀x,x.1<N->aN H x->aN H1 x)(g:oH N i H1 j f):oH N β H j f:=by
 refine⟨?_,?_⟩
 ·intro k b hn a e;obtain⟨a1,a2⟩:=g.obj k b hn (hi (b,0) hn a) e;obtain⟨c,d⟩:=h.obj k b hn a a1;exact⟨c,a2.trans d⟩
 ·intro b aE al k n hn a e;obtain⟨k1,o,a1,a2,a3,a4⟩:=g.arr b aE al k n hn (hi (b,aE) hn a) e;obtain⟨k0,jC,c,d,l,m⟩:=h.arr b aE al k1 o hn a a1;refine⟨k0,jC,c,j8 d a2,a3.trans l,fun hn=>?_⟩;obtain⟨c1,c2⟩:=a4 hn;obtain⟨d1,d2⟩:=m (fun x=>hn (a3.2 x));exact⟨c1.trans d1,c2.trans d2⟩
theorem Obj.pT{S T:Nat×Nat->Prop}(h:∀x,S x->T x):∀{o:Obj},o.refs S->o.refs T
 | .box _ t,a=>aH.mono h t a
 | .arr _ _ _ es,a=>aZ.mono h es a
 | .loop _L,a=>fun x=>aH.mono h _ (a x)
 | .hole,_| .dead,_| .map _ _,_| .eL _ _,_=>trivial
theorem cK.trans{β b c:Bd}{H H1 a:ah}(h:cK β H b H1)(hi:∀x,aN H x->aN H1 x)(d:cK b H1 c a):cK β H c a:=
 (h.n.trans (N:=H.length) (fun x _=>hi x) d.n).full
structure dU(N:Nat)(ag aa:Nat->Prop)(w:dq)(β:Bd)(H:ah)(jU aG:Nat->Prop)(w':dq)(aM:Bd)(H':ah):Prop where
 fg:∀k,ag k->jU k
 b8:∀k,aa k->aG k
 fresh:∀k,aG k->aa k\/¬ag k
 ext:Ext ag aa w w'
 step:oH N β H aM H'
 ir:∀x,x.1<N->aN H x->aN H' x
 loop:∀b,b<N->ja H b->ja H' b
theorem dU.refl(N:Nat)(ag aa:Nat->Prop)(w:dq)(β:Bd)(H:ah):dU N ag aa w β H ag aa w β H:=
 ⟨fun _ h=>h,fun _ h=>h,fun _ h=>.inl h,Ext.refl _ _ _,(cK.refl _ _).n,fun _ _ h=>h,fun _ _ h=>h⟩
theorem Ext.trans{ag aa jU aG:Nat->Prop}{w w1 w2:dq}(b:∀k,ag k->jU k)(hi:∀k,aa k->aG k)(h:Ext ag aa w w1)(a:Ext jU aG w1 w2):Ext ag aa w w2:=
 ⟨j8 h.size a.size,fun k hk=>(a.same k (hk.imp (b k) (hi k))).trans (h.same k hk),a.io.1.trans h.io.1,a.io.2.trans h.io.2⟩
theorem dU.trans{N:Nat}{ag aa f d g e:Nat->Prop}{w w1 w2:dq}{β i j:Bd}{H H1 c:ah}(h:dU N ag aa w β H f d w1 i H1)(a:dU N f d w1 i H1 g e w2 j c):dU N ag aa w β H g e w2 j c:=
 ⟨fun k x=>a.fg k (h.fg k x),fun k x=>a.b8 k (h.b8 k x),fun k x=>(a.fresh k x).elim (fun y=>h.fresh k y) (fun y=>.inr fun z=>y (h.fg k z)),h.ext.trans h.fg h.b8 a.ext,
  h.step.trans h.ir a.step,fun x hn hx=>a.ir x hn (h.ir x hn hx),fun b hn l=>a.loop b hn (h.loop b hn l)⟩
theorem cd.fI{P:dp}{N:Nat}{ag aa aG:Nat->Prop}{w w':dq}{β aM:Bd}{H H':ah}(h:cd P ag aa w β H aG w' aM H'):dU N ag aa w β H ag aG w' aM H':=
 ⟨fun _ x=>x,h.b8,h.fresh,h.ext,h.step.n,fun x _=>h.ir x,fun b _=>h.loop b⟩
section
variable{P:dp}{ag aa aG:Nat->Prop}{w w':dq}{β aM:Bd}{H H':ah}
theorem fh.Gd{b:Nat}{o:Obj}(d:o.live)(h:fh P w aa β H ag b o):∃fz,dD aa β ag fz b/\β.aw b<w.heap.size:=by
 have lt:∀{x:eP},w.heap[β.aw b]?=some x->β.aw b<w.heap.size:=fun h=>(bl.1 h).1;cases o with
 |hole=>exact d.elim
 |dead=>exact d.elim
 |box fz t=>obtain⟨_,_,a,_,c,_⟩:=h;exact⟨_,c,lt a⟩
 |arr k aE al es=>
  rcases h with h|⟨_,_,_,_,a,_,_,_,_,_,c,_⟩
  ·exact(d h).elim
  ·exact⟨_,c,lt a⟩
 |map fz es=>obtain⟨_,_,a,_,c⟩:=h;exact⟨_,c,lt a⟩
 |eL s pos=>obtain⟨_,a,_,c⟩:=h;exact⟨_,c,lt a⟩
 |loop L=>obtain⟨_,_,_,a,_,_,c⟩:=h;exact⟨_,c,lt a⟩
theorem fh.move{jU:Nat->Prop}(f:∀k,aa k->aG k)(same:∀k,aa k->w'.heap[k]?=w.heap[k]?)(st:cK β H aM H'){b:Nat}{o:Obj}(i:o.refs (aN H))(hc:o.live->aM.cap b=β.cap b)
 (key:∀fz,o.live->dD aa β ag fz b->w'.heap[aM.aw b]?=w.heap[β.aw b]?/\dD aG aM jU fz b)(h:fh P w aa β H ag b o):fh P w' aG aM H' jU b o:=by
 cases o with
 |hole=>trivial
 |dead=>trivial
 |box fz t=>
  obtain⟨cs,T,a,c,d,e⟩:=h;obtain⟨k1,k2⟩:=key _ trivial d;exact⟨cs,T,k1.trans a,bB.mono f same st _ _ i c,k2,e⟩
 |arr k aE al es=>
  by_cases g:dQ k es
  ·exact .inl g
  obtain⟨cs,T,j,rest,a,c,d,e,m,n,p,q⟩:=h.resolve_left g;obtain⟨k1,k2⟩:=key _ g p;have hc:=hc g;exact .inr ⟨cs,T,j,rest,k1.trans a,bV.mono f same st _ _ _ i c,d,by rw[hc];exact e,by rw[hc];exact m,by rw[hc];exact n,k2,q⟩
 |map fz es=>
  obtain⟨l,clock,a,c,d⟩:=h;obtain⟨k1,k2⟩:=key _ trivial d;exact⟨l,clock,k1.trans a,cW.mono f same _ _ c,k2⟩
 |eL s pos=>
  obtain⟨bs,a,c,d⟩:=h;obtain⟨k1,k2⟩:=key _ trivial d;exact⟨bs,k1.trans a,c,k2⟩
 |loop L=>
  obtain⟨tmps,defers,fn,a,c,d,e⟩:=h;obtain⟨k1,k2⟩:=key _ trivial e;exact⟨tmps,defers,fn,k1.trans a,c,fun x=>aC.mono f same st _ _ (i x) (d x),k2⟩
theorem fh.Aq(a:w'.heap=w.heap){b:Nat}{o:Obj}(h:fh P w aa β H ag b o)(c:o.refs (aN H)):fh P w' aa β H ag b o:=
 h.move (fun _ x=>x) (fun _ _=>by rw[a]) (cK.refl _ _) c (fun _=>rfl) fun _ _ hf=>⟨by rw[a],hf⟩
theorem cj.Aq(a:w'.heap=w.heap)(h:cj P w aa β H ag):cj P w' aa β H ag:=
 ⟨fun b o c=>(h.du b o c).Aq a (h.refs b o c),h.inj,h.refs,fun k hk=>by rw[a];exact h.b8 k hk,fun k hk=>by rw[a];exact h.fg k hk,h.ks.mono (fun _ x=>x) (fun _ _=>by rw[a])⟩
theorem cj.pO(h:cj P w aa β H ag){b:Nat}{o:Obj}(d:H[b]?=some o)(c:o.live):β.aw b<w.heap.size:=by
 obtain⟨_,_,a⟩:=(h.du b o d).Gd c;exact a
theorem cd.set{b:Nat}{o':Obj}(f:cj P w aa β H ag)(m:b<H.length)(j:∀x,x≠b->aM.aw x=β.aw x/\aM.cap x=β.cap x)
 (l:∀k,aa k->aG k)(E:∀k,aG k->aa k\/(k=aM.aw b/\o'.live))(R:∀k,aG k->k<w'.heap.size)
 (I:w.heap.size<=w'.heap.size)(z:∀k,(k≠aM.aw b\/¬o'.live)->k<w.heap.size->w'.heap[k]?=w.heap[k]?)
 (t:o'.live->w.heap.size<=aM.aw b\/(aM.aw b=β.aw b/\(∃o,H[b]?=some o/\o.live)/\((∀k,k=β.aw b->w'.heap[k]?=w.heap[k]?)\/¬aa (β.aw b))/\¬ag (β.aw b)))
 (aS:cK β H aM (H.set b o'))(T:fh P w' aG aM (H.set b o') ag b o')(W:o'.refs (aN (H.set b o')))(S:∀(o:Obj)(v:Nat),H[b]?=some o->o.has v->o'.has v)(Q:∀L,H[b]?=some (.loop L)->∃s,o'=.loop s)(O:w'.os=w.os/\w'.output=w.output:=by exact⟨rfl,rfl⟩):
 cd P ag aa w β H aG w' aM (H.set b o'):=by
 have q:∀x o,x≠b->H[x]?=some o->o.live->¬aa (β.aw x)->o'.live->β.aw x≠aM.aw b:=by
  intro x o hx a e g n he;rcases t n with c|⟨c,⟨X,d,M⟩,_⟩
  ·have:=f.pO a e;omega
  ·rw[c]at he;exact hx (f.inj x b o X a d e M g he)
 have G:o'.live->¬ag (aM.aw b):=by
  intro e u;rcases t e with c|⟨c,_,_,d⟩
  ·have:=f.fg _ u;omega
  ·rw[c]at u;exact d u
 have r:∀k,ag k\/aa k->w'.heap[k]?=w.heap[k]?:=by
  intro k hk;have F:k<w.heap.size:=hk.elim (f.fg k) (f.b8 k)
  by_cases p:k=aM.aw b
  ·by_cases e:o'.live
   ·rcases hk with hk|hk
    ·exact(G e (p▸hk)).elim
    ·rcases t e with c|⟨c,_,d,_⟩
     ·omega
     ·rcases d with d|d
      ·exact d k (p.trans c)
      ·exact(d (by rw[<-c,<-p];exact hk)).elim
   ·exact z k (.inr e) F
  ·exact z k (.inl p) F
 have aA:∀x,aN H x->aN (H.set b o') x:=by
  rintro⟨x,v⟩ ⟨o,a,hn⟩
  by_cases hx:x=b
  ·subst hx;exact⟨o',by simp[hM m],S o v a hn⟩
  ·exact⟨o,by simp only;rw[hN (kp hx)];exact a,hn⟩
 refine⟨l,fun k hk=>(E k hk).imp id (fun(h:k=aM.aw b/\o'.live)=>h.1▸G h.2),⟨I,r,O⟩,aS,⟨?_,?_,?_,R,fun k hk=>j9 (f.fg k hk) I,f.ks.mono l (fun k hk=>r k (.inr hk))⟩,aA,?_⟩
 ·intro x o a
  by_cases hx:x=b
  ·subst hx;rw[hM m]at a;cases a;exact T
  ·rw[hN (kp hx)]at a;have U:=f.du x o a;have V:=f.refs x o a;have D:=(j x hx).1;have N:=(j x hx).2;have hs:o.live->w'.heap[aM.aw x]?=w.heap[β.aw x]?:=by
    intro e;rw[D]
    by_cases g:aa (β.aw x)
    ·exact r _ (.inr g)
    refine z _ ?_ (f.pO a e)
    by_cases n:o'.live
    ·exact .inl (q x o hx a e g n)
    ·exact .inr n
   have held:∀fz,o.live->dD aa β ag fz x->dD aG aM ag fz x:=by
    intro fz e i;unfold dD at i⊢;rw[D];cases fz with
    |true=>simp only[if_true]at i⊢;exact l _ i
    |false=>
     simp only[c9,if_false]at i⊢;refine⟨fun h=>?_,i.2⟩;rcases E _ h with h|⟨h,n⟩
     ·exact i.1 h
     ·exact q x o hx a e i.1 n h
   exact U.move l (fun k hk=>r k (.inr hk)) aS V (fun _=>N) fun fz e i=>⟨hs e,held fz e i⟩
 ·intro x y J K c d A B g he
  by_cases hx:x=b<;>by_cases hy:y=b
  ·rw[hx,hy]
  ·subst hx;rw[hM m]at c;cases c;rw[hN (kp hy)]at d;rw[(j y hy).1]at he;exact(q y K hy d B (fun hi=>g (he▸l _ hi)) A he.symm).elim
  ·subst hy;rw[hM m]at d;cases d;rw[hN (kp hx)]at c;rw[(j x hx).1]at he;rw[(j x hx).1]at g;exact(q x J hx c A (fun hi=>g (l _ hi)) B he).elim
  ·rw[hN (kp hx)]at c;rw[hN (kp hy)]at d;rw[(j x hx).1,(j y hy).1]at he;rw[(j x hx).1]at g;exact f.inj x y J K c d A B (fun hi=>g (l _ hi)) he
 ·intro x o a
  by_cases hx:x=b
  ·subst hx;rw[hM m]at a;cases a;exact W
  ·rw[hN (kp hx)]at a;exact Obj.pT aA (f.refs x o a)
 ·rintro x ⟨L,C⟩
  by_cases hx:x=b
  ·subst hx;obtain⟨s,rfl⟩:=Q L C;exact⟨s,hM m⟩
  ·exact⟨L,by rw[hN (kp hx)];exact C⟩
end
end Go.az
namespace Go.az
variable[Gl]
def bF(P:dp)(o:Oper)(ρ:dx->AV)(a:Nat)(e:aY):Prop:=
 ∀(H:ah)(w:dq)(aa ag:Nat->Prop)(β:Bd)(ρc:dx->db),
  cj P w aa β H ag->(∀x∈o.op.operands,aC P w aa β H (ρ x) (ρc x)/\aH (aN H) (ρ x))->(∀p∈e.aA,H[p.1]?=some p.2)->(∀i,i<e.ba.length->H[a+i]?=some .hole)->
  ∃n cv w' aM aG,(dy ρc o).run P w=.ok n w'/\(n=.value cv\/n=.skip/\cv=undef)/\
   cd P ag aa w β H aG w' aM (bt H (e.aO++newAt a e.ba))/\aC P w' aG aM (bt H (e.aO++newAt a e.ba)) e.v cv/\
   aH (aN (bt H (e.aO++newAt a e.ba))) e.v
section
variable{P:dp}{ag aa aG:Nat->Prop}{w w':dq}{β aM:Bd}{H H':ah}
theorem cd.refl(h:cj P w aa β H ag):cd P ag aa w β H aa w β H:=
 ⟨fun _ x=>x,fun _ x=>.inl x,Ext.refl _ _ _,cK.refl _ _,h,fun _ x=>x,fun _ x=>x⟩
theorem bF.same{o:Oper}{ρ:dx->AV}{b:Nat}{v:AV}{aA:List (Nat×Obj)}
 (h:∀(H:ah)(w:dq)(aa ag:Nat->Prop)(β:Bd)(ρc:dx->db),cj P w aa β H ag->(∀x∈o.op.operands,aC P w aa β H (ρ x) (ρc x)/\aH (aN H) (ρ x))->
  (∀p∈aA,H[p.1]?=some p.2)->∃cv,(dy ρc o).run P w=.ok (.value cv) w/\aC P w aa β H v cv/\aH (aN H) v):
 bF P o ρ b {v,aA}:=by
 intro H w aa ag β ρc a g f _;obtain⟨cv,c,d,e⟩:=h H w aa ag β ρc a g f;exact⟨_,cv,w,β,aa,c,.inl rfl,by simpa[newAt,bt]using cd.refl a,by simpa[newAt,bt]using d,by simpa[newAt,bt]using e⟩
theorem cd.trans{e f:Nat->Prop}{w1 w2:dq}{g i:Bd}{H1 d:ah}(h:cd P ag aa w β H e w1 g H1)(a:cd P ag e w1 g H1 f w2 i d):cd P ag aa w β H f w2 i d:=by
 refine⟨fun k x=>a.b8 k (h.b8 k x),fun k x=>(a.fresh k x).elim (h.fresh k) .inr,h.ext.trans (fun _ x=>x) h.b8 a.ext,h.step.trans h.ir a.step,a.rel,fun b c=>a.ir b (h.ir _ c),fun b c=>a.loop b (h.loop b c)⟩
theorem xd(H:ah)(l r:List (Nat×Obj)):bt H (l++r)=bt (bt H l) r:=by
 induction l generalizing H with
 |nil=>rfl
 |cons p l a=>obtain⟨b,o⟩:=p;simp[bt,a]
theorem qG(H:ah)(l:List (Nat×Obj)):(bt H l).length=H.length:=by
 induction l generalizing H with
 |nil=>rfl
 |cons p l a=>obtain⟨b,o⟩:=p;simp[bt,a]
theorem zT(H T:ah)(l:List (Nat×Obj))(h:∀p∈l,p.1<H.length):bt (H++T) l=bt H l++T:=by
 induction l generalizing H with
 |nil=>rfl
 |cons p l c=>
  obtain⟨b,o⟩:=p;have a:b<H.length:=h (b,o) s_;simp only[bt];rw[List.set_append_left _ _ a,c];intro q hq;rw[i9];exact h q (by simp[hq])
theorem DE(H:ah)(l:List Obj):bt (H++hL l.length .hole) (newAt H.length l)=H++l:=by
 induction l generalizing H with
 |nil=>simp[newAt,bt]
 |cons o l a=>
  simp only[newAt,bt,h4,h1];rw[iy _ _ (j3 _)];simp only[Nat.sub_self,i3];have:=a (H++[o]);simp only[h7,List.length_singleton,hT,List.singleton_append]at this;exact this
theorem mn(H:ah)(m b:Nat):(H++hL m Obj.hole)[b]?=if b<H.length then H[b]? else if b<H.length+m then some .hole else none:=by
 by_cases h:b<H.length
 ·simp[h,hW]
 ·rw[h2 o_];simp only[hS,h,if_false]
  by_cases a:b<H.length+m
  ·simp[a,show b-H.length<m by omega]
  ·simp[a,show¬(b-H.length<m)by omega]
theorem uG{H:ah}{m b:Nat}{o:Obj}(h:(H++hL m Obj.hole)[b]?=some o):H[b]?=some o\/o=.hole:=by
 rw[mn]at h
 split at h
 ·exact .inl h
 ·split at h
  ·exact .inr (by simpa using h.symm)
  ·simp at h
theorem pI(H:ah)(m:Nat)(b:Nat×Nat)(h:aN H b):aN (H++hL m Obj.hole) b:=by
 obtain⟨o,a,hn⟩:=h;have c:b.1<H.length:=(hK.1 a).1;exact⟨o,by rw[mn,if_pos c];exact a,hn⟩
theorem sj(β:Bd)(H:ah)(m:Nat):cK β H β (H++hL m .hole):=by
 refine⟨?_,?_⟩
 ·rintro k b _ ⟨o,h,a⟩;rcases uG h with h|rfl
  ·exact⟨⟨o,h,a⟩,rfl⟩
  ·cases a
 ·intro b aE al k c _ h;rcases uG h with h|h
  ·exact⟨k,c,h,j3 _,Iff.rfl,fun _=>⟨rfl,rfl⟩⟩
  ·simp at h
theorem cj.rq(m:Nat)(h:cj P w aa β H ag):cj P w aa β (H++hL m .hole) ag:=by
 refine⟨?_,?_,?_,h.b8,h.fg,h.ks⟩
 ·intro b o a;rcases uG a with a|rfl
  ·exact(h.du b o a).move (fun _ x=>x) (fun _ _=>rfl) (sj β H m) (h.refs b o a) (fun _=>rfl) fun _ _ hf=>⟨rfl,hf⟩
  ·trivial
 ·intro x y j k c d e f i g;rcases uG c with c|rfl
  ·rcases uG d with d|rfl
   ·exact h.inj x y j k c d e f i g
   ·exact f.elim
  ·exact e.elim
 ·intro b o a;rcases uG a with a|rfl
  ·exact Obj.pT (pI H m) (h.refs b o a)
  ·trivial
theorem bF.use{o:Oper}{ρ:dx->AV}{e:aY}(h:bF P o ρ H.length e){ρc:dx->db}(j:cj P w aa β H ag)
 (a:∀x∈o.op.operands,aC P w aa β H (ρ x) (ρc x)/\aH (aN H) (ρ x))(aA:∀p∈e.aA,H[p.1]?=some p.2)(aO:∀p∈e.aO,p.1<H.length):
 ∃n cv w' aM aG,(dy ρc o).run P w=.ok n w'/\(n=.value cv\/n=.skip/\cv=undef)/\
  cd P ag aa w β H aG w' aM (bt H e.aO++e.ba)/\aC P w' aG aM (bt H e.aO++e.ba) e.v cv/\aH (aN (bt H e.aO++e.ba)) e.v:=by
 have aS:=sj β H e.ba.length;obtain⟨n,cv,w',aM,aG,l,m,c,d,f⟩:=h (H++hL e.ba.length .hole) w aa ag β ρc (j.rq _)
  (fun x hx=>⟨aC.mono (fun _ x=>x) (fun _ _=>rfl) aS _ _ (a x hx).2 (a x hx).1,aH.mono (pI _ _) _ (a x hx).2⟩)
  (fun p r=>by have:=aA p r;rw[mn,if_pos (hK.1 this).1];exact this)
  (fun i hi=>by rw[mn,if_neg o_,if_pos o_])
 have q:bt (H++hL e.ba.length .hole) (e.aO++newAt H.length e.ba)=bt H e.aO++e.ba:=by
  rw[xd,zT _ _ _ aO];have:=DE (bt H e.aO) e.ba
  rwa [qG]at this
 rw[q]at c d f;refine⟨n,cv,w',aM,aG,l,m,?_,d,f⟩;have k:cd P ag aa w β H aa w β (H++hL e.ba.length .hole):=⟨fun _ x=>x,fun _ x=>.inl x,Ext.refl _ _ _,aS,j.rq _,pI _ _,fun b⟨L,g⟩=>⟨L,by rw[mn,if_pos (hK.1 g).1];exact g⟩⟩
 exact k.trans c
theorem tD.use{f:ea}{args:List AV}{e:aY}(h:tD P f args H.length e)(l:qc H e){a:List db}(m:cj P w aa β H ag)(q:bK P w aa β H args a)(n:aZ (aN H) args):
 ey P f a.toArray w fun x w'=>∃cv aM aG,x=.returned cv/\cd P ag aa w β H aG w' aM (bt H e.aO++e.ba)/\aC P w' aG aM (bt H e.aO++e.ba) e.v cv/\aH (aN (bt H e.aO++e.ba)) e.v:=by
 have aS:=sj β H e.ba.length;refine(h.2 (H++hL e.ba.length .hole) w aa ag β a (m.rq _)
  (bK.mono (fun _ x=>x) (fun _ _=>rfl) aS _ _ n q) (aZ.mono (pI _ _) _ n)
  (fun p c=>by have:=l.1 p c;rw[mn,if_pos (hK.1 this).1];exact this)
  (fun i hi=>by rw[mn,if_neg o_,if_pos o_])).mono ?_
 rintro x w' ⟨cv,aM,aG,rfl,d,g,j⟩;have r:bt (H++hL e.ba.length .hole) (e.aO++newAt H.length e.ba)=bt H e.aO++e.ba:=by
  rw[xd,zT _ _ _ (fun p c=>(l.2 p c).1)];have:=DE (bt H e.aO) e.ba
  rwa [qG]at this
 rw[r]at d g j;have o:cd P ag aa w β H aa w β (H++hL e.ba.length .hole):=⟨fun _ x=>x,fun _ x=>.inl x,Ext.refl _ _ _,aS,m.rq _,pI _ _,fun b⟨L,k⟩=>⟨L,by rw[mn,if_pos (hK.1 k).1];exact k⟩⟩
 exact⟨cv,aM,aG,rfl,o.trans d,g,j⟩
end
def mW(P:dp)(an:ea->Bool):Prop:=
 ∀(o:Oper)(ρ:dx->AV)(H:ah)(K:aY->Prop),(∀v,ρ (.const v)=.p (ofConst v))->gd P an o ρ H K->
  ∃e,K e/\bF P o ρ H.length e/\(∀p∈e.aA,H[p.1]?=some p.2)/\(∀p∈e.aO,p.1<H.length/\p.2≠.hole)
section
variable{P:dp}{an:ea->Bool}{n:Nat}
theorem Ky{w:dq}{aa:Nat->Prop}(v:db):aF P w aa (ofConst v) v:=by
 unfold ofConst
 split<;>simp[aF]
theorem pP{ag aa:Nat->Prop}{β:Bd}{s:St}{t:Array db}{w:dq}(h:cQ P n ag aa β s t w)(x:dx):
 aC P w aa β s.heap (ev s.env x) (gq t x)/\aH (aN s.heap) (ev s.env x):=by
 cases x with
 |tmp x=>exact⟨h.env x,h.iq x⟩
 |const v=>exact⟨by simp only[ev,gq,aC];exact Ky v,by simp[ev,aH]⟩
 |global g=>exact⟨by simp only[ev,gq,aC];exact h.heap.ks.val g,by simp[ev,aH]⟩
 |func f=>exact⟨by simp[ev,gq,aC,aF,bO],by simp[ev,aH]⟩
def jQ(n:Nat)(o:Oper):Bool:=
 match o.dst with
 |some d=>decide (d<n)
 |none=>true
theorem xu(e:Env)(dst:Option Tmp)(v:AV)(x:Nat):aP (put dst v e) x=if dst=some x then v else aP e x:=by
 cases dst with
 |none=>simp[put]
 |some d=>
  simp only[put,aP,ky]
  by_cases h:x=d
  ·simp[h]
  ·simp[h,kp h]
theorem X5{n:Nat}{o:Oper}(a:jQ n o=true){t:Array db}(c:t.size=n)(v:db)(x:Nat):(pf o.dst v t).getD x undef=if o.dst=some x then v else t.getD x undef:=by
 unfold jQ at a;cases b:o.dst with
 |none=>simp[pf]
 |some d=>
  simp only[b,decide_eq_true_eq]at a;simp only[pf,ky]
  by_cases h:d=x
  ·subst h;simp[c,a]
  ·simp only[h,if_false,bv,b2 h]
theorem XO{t:Array db}(dst:Option Tmp)(v:db):(pf dst v t).size=t.size:=by cases dst<;>simp[pf]
theorem cQ.put{ag aa aG:Nat->Prop}{β aM:Bd}{s:St}{H':ah}{t:Array db}{w w':dq}{o:Oper}{v:AV}{cv:db}(h:cQ P n ag aa β s t w)(b:jQ n o=true)
 (a:cd P ag aa w β s.heap aG w' aM H')(d:aC P w' aG aM H' v cv)(c:aH (aN H') v):
 cQ P n ag aG aM ⟨put o.dst v s.env,H'⟩ (pf o.dst cv t) w':=by
 refine⟨a.rel,fun x=>?_,fun x=>?_,by rw[XO];exact h.size⟩
 ·rw[xu,X5 b h.size]
  split
  ·exact d
  ·exact aC.mono a.b8 (fun k hk=>a.ext.same k (.inr hk)) a.step _ _ (h.iq x) (h.env x)
 ·rw[xu]
  split
  ·exact c
  ·exact aH.mono a.ir _ (h.iq x)
theorem L4{H T:ah}{b:Nat×Nat}(h:aN H b):aN (H++T) b:=by
 obtain⟨o,a,hn⟩:=h;exact⟨o,by rw[hW (hK.1 a).1];exact a,hn⟩
theorem cj.later{ag aa aG:Nat->Prop}{w w':dq}{β:Bd}{H:ah}(h:cj P w aa β H ag)(a:∀k,aa k->aG k)(hf:∀k,aG k->aa k\/w.heap.size<=k)
 (l:∀k,aG k->k<w'.heap.size)(i:w.heap.size<=w'.heap.size)(hs:∀k,k<w.heap.size->w'.heap[k]?=w.heap[k]?)(j:w'.os=w.os/\w'.output=w.output:=by exact⟨rfl,rfl⟩):cd P ag aa w β H aG w' β H:=by
 have same:∀k,aa k->w'.heap[k]?=w.heap[k]?:=fun k hk=>hs k (h.b8 k hk);refine⟨a,fun k hk=>(hf k hk).imp id (fun f e=>by have:=h.fg k e;omega),⟨i,fun k hk=>hs k (hk.elim (h.fg k) (h.b8 k)),j⟩,cK.refl _ _,?_,fun _ x=>x,fun _ x=>x⟩;refine⟨fun b o d=>?_,fun b b' o o' f e n p m=>h.inj b b' o o' f e n p (fun hi=>m (a _ hi)),h.refs,l,fun k hk=>j9 (h.fg k hk) i,h.ks.mono a same⟩;refine(h.du b o d).move a same (cK.refl _ _) (h.refs b o d) (fun _=>rfl) fun fz g c=>⟨hs _ (h.pO d g),?_⟩
 have:=h.pO d g;unfold dD at c⊢;cases fz with
 |true=>exact a _ c
 |false=>exact⟨fun x=>(hf _ x).elim c.1 o_,c.2⟩
theorem so{w:dq}{aa:Nat->Prop}{β:Bd}{H:ah}:∀{a b:List AV}{x y:List db},bK P w aa β H a x->bK P w aa β H b y->bK P w aa β H (a++b) (x++y)
 |[],b,x,y,h,c=>by simp only[bK]at h;subst h;simpa using c
 |v::a,b,x,y,h,c=>by
  simp only[bK]at h;obtain⟨z,f,rfl,d,e⟩:=h;simp only[h8,bK];exact⟨z,f++y,rfl,d,so e c⟩
theorem nZ{S:Nat×Nat->Prop}{a b:List AV}(h:aZ S a)(d:aZ S b):aZ S (a++b):=by
 rw[dP]at*;intro v c;rcases h0.1 c with c|c
 ·exact h v c
 ·exact d v c
theorem xy{ag aa:Nat->Prop}{β:Bd}{s:St}{t:Array db}{w:dq}(h:cQ P n ag aa β s t w):∀l:List dx,
 bK P w aa β s.heap (l.map (ev s.env)) (l.map (gq t))/\aZ (aN s.heap) (l.map (ev s.env))
 |[]=>by simp[bK,aZ]
 |x::l=>by
  have a:=pP h x;have b:=xy h l;simp only[hZ,bK,aZ];exact⟨⟨_,_,rfl,a.1,b.1⟩,a.2,b.2⟩
theorem Ty{vs:List PV}{l:List AV}(h:l=vs.map .p):eE l=some vs:=by rw[h,TI]
end
section
variable{P:dp}{w:dq}{aa ag:Nat->Prop}{β:Bd}{H:ah}
def Bd.at(β:Bd)(b aw cap:Nat):Bd:=⟨fun x=>if x=b then aw else β.aw x,fun x=>if x=b then cap else β.cap x⟩
theorem Ax{a:Nat}(f:H[a]?=some .hole)(o':Obj)(aw cap:Nat):cK β H (β.at a aw cap) (H.set a o'):=by
 have b:∀{x v},aN H (x,v)->x≠a:=by
  rintro x v ⟨o,c,hn⟩ rfl;simp only at c;rw[f]at c;cases c;exact hn
 have d:∀{x v},aN H (x,v)->(H.set a o')[x]?=H[x]?:=fun hx=>hN (kp (b hx));refine⟨?_,?_⟩
 ·rintro k x hx ⟨o,h,g⟩;rw[d hx]at h;exact⟨⟨o,h,g⟩,by simp[Bd.at,b hx]⟩
 ·intro x aE al k e hx h;unfold iD at h;rw[d hx]at h;exact⟨k,e,h,j3 _,Iff.rfl,fun _=>by simp[Bd.at,b hx]⟩
theorem uZ(e:cj P w aa β H ag){a:Nat}(b:H[a]?=some .hole){ob:eP}{o':Obj}{cap:Nat}
 (g:fh P {w with heap:=w.heap.push ob} aa (β.at a w.heap.size cap) (H.set a o') ag a o')(h:o'.refs (aN (H.set a o'))):
 cd P ag aa w β H aa {w with heap:=w.heap.push ob} (β.at a w.heap.size cap) (H.set a o'):=by
 refine cd.set e (hK.1 b).1 (fun x hx=>by simp[Bd.at,hx]) (fun _ x=>x) (fun _ x=>.inl x) (fun k hk=>by have:=e.b8 k hk;simp;omega) s_
  (fun k _ hk=>by simp[cb,km hk]) (fun _=>.inl (by simp[Bd.at])) (Ax b _ _ _) g h (fun i v c f=>by rw[b]at c;cases c;exact f.elim) (fun L d=>by rw[b]at d;cases d)
theorem xn(w:dq)(a:eP){k:Nat}(hk:k<w.heap.size):({w with heap:=w.heap.push a}:dq).heap[k]?=w.heap[k]?:=by
 simp[cb,km hk]
end
section
variable{P:dp}{w:dq}{aa aG ag:Nat->Prop}{β:Bd}{H:ah}
def Row(P:dp)(w:dq)(aa:Nat->Prop)(β:Bd)(H:ah)(al:Nat)(a:List AV)(b:List (List db)):Prop:=bV P w aa β H (hL a.length al) a b
theorem iS{al:Nat}{a:List (List db)}:Row P w aa β H al [] a↔a=[]:=by simp[Row,bV]
theorem sD{al:Nat}{v:AV}{b:List AV}{a:List (List db)}:Row P w aa β H al (v::b) a↔∃c cs,a=c::cs/\bB P w aa β H v c/\c.length=al/\Row P w aa β H al b cs:=by
 simp[Row,h1,bV]
theorem qE{al:Nat}:∀{a b:List AV}{d:List (List db)},Row P w aa β H al (a++b) d↔∃c1 c2,d=c1++c2/\Row P w aa β H al a c1/\Row P w aa β H al b c2
 |[],b,d=>by
  simp only[i8];constructor
  ·intro h;exact⟨[],d,rfl,iS.2 rfl,h⟩
  ·rintro⟨c1,c2,rfl,e,f⟩;rw[iS.1 e];simpa using f
 |v::a,b,d=>by
  simp only[h8,sD];constructor
  ·rintro⟨c,cs,rfl,e,f,g⟩;obtain⟨c1,c2,rfl,i,j⟩:=qE.1 g;exact⟨c::c1,c2,rfl,⟨c,c1,rfl,e,f,i⟩,j⟩
  ·rintro⟨c1,c2,rfl,⟨c,cs,rfl,e,f,g⟩,i⟩;exact⟨c,cs++c2,rfl,e,f,qE.2 ⟨cs,c2,rfl,g,i⟩⟩
theorem jb{al:Nat}:∀{b:List AV}{a:List (List db)},Row P w aa β H al b a->a.length=b.length/\a.flatten.length=b.length*al
 |[],a,h=>by rw[iS]at h;subst h;simp
 |v::b,a,h=>by
  rw[sD]at h;obtain⟨c,cs,rfl,f,d,e⟩:=h;have:=jb e;simp only[h4,hX,h7,this,d,kk];exact⟨trivial,o_⟩
theorem nr{al:Nat}{a:List PV}{b:List (List db)}:Row P w aa β H al (a.map .p) b↔bn P w aa (hL a.length al) a b:=by
 unfold Row;rw[List.length_map];exact pD
theorem n6{al:Nat}{d:List AV}{e:List (List db)}(h:Row P w aa β H al d e)(off len:Nat)(k:off+len<=d.length):
 ∃a b c,e=a++b++c/\Row P w aa β H al ((d.drop off).take len) b/\a.flatten.length=off*al/\Row P w aa β H al (d.take off) a/\Row P w aa β H al (d.drop (off+len)) c:=by
 have e1:d=d.take off++((d.drop off).take len++d.drop (off+len)):=by
  rw[<-js,h5,h5]
 rw[e1,qE]at h;obtain⟨a,r,rfl,f,g⟩:=h;rw[qE]at g;obtain⟨b,c,rfl,i,j⟩:=g;refine⟨a,b,c,s_,i,?_,f,j⟩;have:=(jb f).2;rw[this,List.length_take,j4 o_]
theorem mZ{cs:Array db}{T:dl}{fz:Nat×Nat}{aw:Nat}(a:w.heap[aw]?=some (.cells cs T fz)){pre xs post:List db}(hc:cs.toList=pre++xs++post):
 iB w aw pre.length xs:=by
 intro i hi;have:cs[pre.length+i]?=some xs[i]:=by
  rw[<-bw,hc,hT,h2 o_];simp only[j6];rw[hW hi,hQ hi]
 simp[hF,a,this]
theorem Dv(a:List PV)(off len:Nat):(((a.map AV.p).drop off).take len)=((a.drop off).take len).map .p:=by
 rw[<-j0,<-ik]
theorem pF{H:ah}{b:Nat}{d o:Obj}(c:H[b]?=some d)(hn:∀v,d.has v->o.has v):∀x,aN H x->aN (H.set b o) x:=by
 rintro⟨x,v⟩ ⟨e,a,h⟩
 by_cases hx:b=x
 ·subst hx;simp only at a;rw[c]at a;cases a;exact⟨o,by simp only;rw[hM (hK.1 c).1],hn v h⟩
 ·exact⟨e,by simp only;rw[hN hx];exact a,h⟩
theorem mq{b:Nat}{o o':Obj}(e:H[b]?=some o)(n:∀k v z a,o'= .arr k v z a->∃d c,o= .arr d v z c/\c.length<=a.length/\(dQ k a↔dQ d c):=by nofun)(hk:o.kd=o'.kd:=by rfl):
 cK β H β (H.set b o'):=by
 have p:b<H.length:=(hK.1 e).1;have g:∀x,x≠b->(H.set b o')[x]?=H[x]?:=fun x hx=>hN (kp hx);have f:(H.set b o')[b]?=some o':=hM p;refine⟨?_,?_⟩
 ·rintro k x _ ⟨q,h,i⟩;refine⟨?_,rfl⟩
  by_cases hx:x=b
  ·subst hx;rw[f]at h;cases h;exact⟨o,e,hk.trans i⟩
  ·rw[g x hx]at h;exact⟨q,h,i⟩
 ·intro x aE al k a _ h;unfold iD at h⊢
  by_cases hx:x=b
  ·subst hx;rw[f]at h;cases h;obtain⟨d,c,j,l,m⟩:=n _ _ _ _ rfl;exact⟨d,c,by rw[e,j],l,m,fun _=>⟨rfl,rfl⟩⟩
  ·rw[g x hx]at h;exact⟨k,a,h,j3 _,Iff.rfl,fun _=>⟨rfl,rfl⟩⟩
theorem IB{b v z:Nat}{k c:AK}{a:List AV}(f:H[b]?=some (.arr k v z a))(hn:¬dQ k a)(d:¬dQ c a):cK β H β (H.set b (.arr c v z a)):=
 mq f fun _ _ _ _ e=>by cases e;exact⟨_,_,rfl,j3 _,fun h=>(d h).elim,fun h=>(hn h).elim⟩
theorem IA{b v z:Nat}{k:AK}{a c:List AV}(f:H[b]?=some (.arr k v z a))(d:a.length=c.length):cK β H β (H.set b (.arr k v z c)):=
 mq f fun _ _ _ _ e=>by cases e;exact⟨_,_,rfl,Nat.le_of_eq d,by unfold dQ;rw[<-hP,<-hP,d]⟩
theorem dD.vF{fz:Bool}{b:Nat}(h:dD aa β ag fz b):aa (β.aw b)\/(¬aa (β.aw b)/\¬ag (β.aw b)):=by
 cases fz with
 |true=>exact .inl h
 |false=>exact .inr h
theorem uN(c:cj P w aa β H ag){b:Nat}{o o':Obj}(d:H[b]?=some o)(m:o.live)(D:o'.live)(p:∀v,o.has v->o'.has v)(n:∀L,o≠ .loop L)
 (aS:cK β H β (H.set b o'))(C:aa (β.aw b)\/(¬aa (β.aw b)/\¬ag (β.aw b)))
 (ba:∀aG:Nat->Prop,(∀k,aa k->aG k)->aG (β.aw b)->fh P w aG β (H.set b o') ag b o')(q:o'.refs (aN (H.set b o'))):
 ∃aG,cd P ag aa w β H aG w β (H.set b o')/\aG (β.aw b):=by
 have l:b<H.length:=(hK.1 d).1
 by_cases hi:aa (β.aw b)
 ·
  refine⟨aa,?_,hi⟩;have aA:=pF d p;refine⟨fun _ x=>x,fun _ x=>.inl x,Ext.refl _ _ _,aS,⟨?_,?_,?_,c.b8,c.fg,c.ks⟩,aA,fun x⟨L,e⟩=>⟨L,by
   by_cases hx:b=x
   ·subst hx;rw[d]at e;cases e;exact(n L rfl).elim
   ·rw[hN hx];exact e⟩⟩
  ·intro x g a
   by_cases hx:x=b
   ·subst hx;rw[hM l]at a;cases a;exact ba aa (fun _ x=>x) hi
   ·rw[hN (kp hx)]at a;exact(c.du x g a).move (fun _ x=>x) (fun _ _=>rfl) aS (c.refs x g a) (fun _=>rfl) fun _ _ hf=>⟨rfl,hf⟩
  ·intro x y s K f j G I E B;have conv:∀(z:Nat)(i:Obj),(H.set b o')[z]?=some i->i.live->∃t:Obj,H[z]?=some t/\t.live:=by
    intro z i hz J
    by_cases r:z=b
    ·subst r;exact⟨o,d,m⟩
    ·rw[hN (kp r)]at hz;exact⟨i,hz,J⟩
   obtain⟨a1,u,c1⟩:=conv x s f G;obtain⟨a2,A,c2⟩:=conv y K j I;exact c.inj x y a1 a2 u A c1 c2 E B
  ·intro x g a
   by_cases hx:x=b
   ·subst hx;rw[hM l]at a;cases a;exact q
   ·rw[hN (kp hx)]at a;exact Obj.pT aA (c.refs x g a)
 ·refine⟨fun k=>aa k\/k=β.aw b,?_,.inr rfl⟩;have F:=C.resolve_left hi;exact cd.set c l (fun _ _=>⟨rfl,rfl⟩) (fun _ x=>.inl x) (fun k hk=>hk.imp id (fun h=>⟨h,D⟩)) (fun k hk=>hk.elim (c.b8 k) (fun h=>h▸c.pO d m)) (j3 _)
   (fun _ _ _=>rfl) (fun _=>.inr ⟨rfl,⟨o,d,m⟩,.inl (fun _ _=>rfl),F.2⟩) aS (ba _ (fun _ x=>.inl x) (.inr rfl)) q (fun s v f j=>by rw[d]at f;cases f;exact p v j) (fun L e=>by rw[d]at e;cases e;exact(n L rfl).elim)
theorem LS{y:AV}{pv:PV}{H1:ah}{v:db}(d:lx H y=some (pv,H1))(i:cj P w aa β H ag)(f:aC P w aa β H y v)(Y:aH (aN H) y):
 ∃aG,cd P ag aa w β H aG w β H1/\aF P w aG pv v:=by
 cases y with
 |p t=>
  simp[lx]at d;obtain⟨rfl,rfl⟩:=d;exact⟨aa,cd.refl i,by simpa[aC]using f⟩
 |sl b aE al off len=>
  simp only[lx]at d
  split at d
  case h_2=>simp at d
  rename_i k Z V j g
  split at d
  case isFalse=>simp at d
  rename_i N;obtain⟨rfl,rfl,X⟩:=N;simp only[aC]at f;obtain⟨_,f⟩:=f;simp only[cg]at f;obtain⟨v1,v2,v3⟩:=f k j g
  split at d
  ·rename_i hn;simp at d;obtain⟨rfl,rfl⟩:=d;exact⟨aa,cd.refl i,by simp[aF,v2 hn]⟩
  ·rename_i hn
   split at d
   case h_2=>simp at d
   rename_i I Q;simp at d;obtain⟨rfl,rfl⟩:=d;have z:=nq Q;have D:=i.du b _ g;rcases D with D|⟨cs,T,E,rest,n,l,r,A,K,L,M,W⟩
   ·exact(hn D).elim
   have G:¬dQ .frozen j:=fun h=>by cases h.1
   have aS:cK β H β (H.set b (.arr .frozen aE al j)):=IB g hn G;obtain⟨aG,q,x⟩:=uN i g hn (o':=.arr .frozen aE al j) G (fun _ h=>h) (fun _ h=>by cases h) aS M.vF
    (fun aG hi u=>.inr ⟨cs,T,E,rest,n,bV.mono hi (fun _ _=>rfl) aS _ _ _ (i.refs b _ g) l,r,A,K,(fun h=>by cases h),u,fun _ e B=>(by rw[z]at B;simp at B;obtain⟨a,_,rfl⟩:=B;trivial),fun h=>by cases h⟩)
    (by rw[z];exact jM _ _)
   refine⟨aG,q,?_⟩;rw[v3 hn];have R:Row P w aG β H al j E:=bV.mono q.b8 (fun _ _=>rfl) (cK.refl _ _) _ _ _ (i.refs b _ g) l;obtain⟨a,m,c,e1,e2,e3,e4,e5⟩:=n6 R off len v1;rw[z,Dv,nr]at e2;have C:((I.drop off).take len).length=len:=by
    have:j.length=I.length:=by rw[z];simp
    simp;omega
   simp only[aF];refine⟨β.aw b,off*al,β.cap b-off,al,m,e2,fun _=>x,?_,?_,?_,none,.inl rfl,?_⟩
   ·rw[<-e3];exact mZ n (post:=c.flatten++rest) (by rw[r,e1];simp)
   ·intro hf;simp at hf;rw[C,L hf.1];omega
   ·rw[C];omega
   ·rw[C]
 |ptr b path=>
  simp only[lx]at d
  split at d
  case h_2=>simp at d
  rename_i fz t g
  split at d
  case h_2=>simp at d
  rename_i s hs;simp at d;obtain⟨rfl,rfl⟩:=d;simp only[aC]at f;obtain⟨_,f⟩:=f;simp only[cg]at f;obtain⟨U,S,o,rfl,O,f⟩:=f;obtain⟨rfl,rfl⟩:=f ⟨_,g,rfl⟩;obtain⟨cs,T,n,l,r,A⟩:=i.du b _ g;have aS:cK β H β (H.set b (.box true (.p t))):=mq g;obtain⟨aG,q,x⟩:=uN i g trivial (o':=.box true (.p t)) trivial (fun _ h=>h) (fun _ h=>by cases h) aS r.vF
   (fun aG hi u=>⟨cs,T,n,bB.mono hi (fun _ _=>rfl) aS _ _ (by simp[aH]) l,u,fun _=>trivial,A.2⟩) (by simp[Obj.refs,aH])
  refine⟨aG,q,?_⟩;have J:aX P w aG t cs.toList:=by simp only[bB]at l;exact aX.mono q.b8 (fun _ _=>rfl) _ _ l
  obtain⟨pre,xs,post,e1,e2,e3⟩:=AO J hs O;simp only[aF];refine⟨β.aw b,S,xs,e3,x,?_,rfl⟩;rw[<-e2];exact mZ n e1
 |map b=>
  simp only[lx]at d
  split at d
  case h_2=>simp at d
  rename_i fz j g;simp at d;obtain⟨rfl,rfl⟩:=d;simp only[aC]at f;obtain⟨_,f⟩:=f;simp only[cg]at f;have f:=f.1 ⟨_,g,rfl⟩;obtain⟨F,clock,n,l,r⟩:=i.du b _ g;have aS:cK β H β (H.set b (.map true j)):=mq g;obtain⟨aG,q,x⟩:=uN i g trivial (o':=.map true j) trivial (fun _ h=>h) (fun _ h=>by cases h) aS r.vF
   (fun aG hi u=>⟨F,clock,n,cW.mono hi (fun _ _=>rfl) _ _ l,u⟩) trivial
  refine⟨aG,q,?_⟩;simp only[aF];exact⟨β.aw b,F,clock,x,n,cW.mono q.b8 (fun _ _=>rfl) _ _ l,f⟩
 |cm=>simp[lx]at d
 |func=>simp[lx]at d
 |st=>simp[lx]at d
 |aD=>simp[lx]at d
end
section
variable{P:dp}{an:ea->Bool}{n N:Nat}
theorem DY{w:dq}{β:Bd}{ag:Nat->Prop}:∀{e:List AV}{g:List PV}{H H1:ah}{aa:Nat->Prop}{vs:List db},nO H e=some (g,H1)->cj P w aa β H ag->
 bK P w aa β H e vs->aZ (aN H) e->∃aG,cd P ag aa w β H aG w β H1/\bO P w aG g vs
 |[],g,H,H1,aa,vs,b,h,c,_=>by
  simp[nO]at b;obtain⟨rfl,rfl⟩:=b;simp only[bK]at c;exact⟨aa,cd.refl h,by simpa[bO]using c⟩
 |a::e,g,H,H1,aa,vs,b,h,c,f=>by
  simp only[nO]at b
  split at b
  case h_2=>simp at b
  rename_i v o j
  split at b
  case h_2=>simp at b
  rename_i r p k;simp at b;obtain⟨rfl,rfl⟩:=b;simp only[bK]at c;obtain⟨y,n,rfl,k1,k2⟩:=c;simp only[aZ]at f;obtain⟨q,d,l⟩:=LS j h k1 f.1;obtain⟨i,q1,m⟩:=DY k d.rel (bK.mono d.b8 (fun _ _=>rfl) d.step _ _ f.2 k2) (aZ.mono d.ir _ f.2);refine⟨i,d.trans q1,?_⟩;simp only[bO];exact⟨y,n,rfl,aF.mono q1.b8 (fun _ _=>rfl) _ _ l,m⟩
def lL(P:dp)(n N:Nat)(fr:ec)(k:List Item)(cs:List ec)(c:Array Oper)(ag aa:Nat->Prop)(w:dq)(β:Bd)(H:ah)(m:ek)(r:List Nat)(b:List eb)(K:St->Prop):Prop:=
 ∃s' aG aM a w',K s'/\ei P m (lone (bD fr a b (.inRegion c r::k)) cs w')/\cQ P n ag aG aM s' a w'/\dU N ag aa w β H ag aG w' aM s'.heap
theorem VA{d:Bool}{o:Oper}{K:St->Prop}{s:St}(h:kK P an d o K s)(c:Call):o.op≠.defer c:=by
 intro hc;unfold kK at h;rw[hc]at h;simp[gd,hc]at h
variable{fr:ec}{k:List Item}{cs:List ec}{ops:Array Oper}{i:Nat}{r:List Nat}{ds:List eb}
theorem KX{d:Bool}{o:Oper}{f:dx}{E:Array dx}{ac:Array dl}{g:ea}{G F:List AV}{K:St->Prop}{s:St}{ag aa:Nat->Prop}{β:Bd}{t:Array db}{w:dq}
 (X:o.op=.call {callee:=.value f,args:=E,argTypes:=ac})
 (hf:(ev s.env f=.func g G F)\/(∃a b,ev s.env f=.p (.func g a b)/\G=a.map .p/\F=b.map .p))
 (h:kO P d g (G++E.toList.map (ev s.env)++F) s.heap (fun v H'=>K ⟨put o.dst v s.env,H'⟩))
 (m:cQ P n ag aa β s t w)(H:jQ n o=true)(B:ops[i]?=some o)(O:hg o (yielded ops t)=true):
 lL P n N fr k cs ops ag aa w β s.heap (lone (bD fr t ds (.inRegion ops (i::r)::k)) cs w) r ds K:=by
 have D:=pP m f;obtain⟨u,cv,an,am,al,au,ar⟩:∃u cv:List db,gq t f=.func (.func g) u.toArray cv.toArray/\bK P w aa β s.heap G u/\bK P w aa β s.heap F cv/\aZ (aN s.heap) G/\aZ (aN s.heap) F:=by
  rcases hf with hf|⟨a,b,hf,rfl,rfl⟩
  ·rw[hf]at D;simp only[aC,aH]at D;obtain⟨⟨u,cv,l,j,y⟩,ae,af⟩:=D;exact⟨u,cv,y,l,j,ae,af⟩
  ·rw[hf]at D;simp only[aC,aF]at D;obtain⟨⟨u,cv,l,j,y⟩,_⟩:=D;exact⟨u,cv,y,kG.2 l,kG.2 j,jM _ _,jM _ _⟩
 obtain⟨aj,ak⟩:=xy m E.toList;have C:=so (so am aj) al;have R:=nZ (nZ au ak) ar;have q:(dy (gq t) o).run P w=(callFunc g (u++E.toList.map (gq t)++cv).toArray).run P w:=by
  simp only[dy,X,resolve,an,fv,hm,ho,hl,invoke];congr 2;simp
 have M:∀c,o.op≠.defer c:=fun c hc=>by rw[X]at hc;cases hc
 have ab:∀(H1:ah)(A:Nat->Prop)(vs:List PV)(v:PV),cd P ag aa w β s.heap A w β H1->bO P w A vs (u++E.toList.map (gq t)++cv)->aq P g vs v->
  K ⟨put o.dst (.p v) s.env,H1⟩->lL P n N fr k cs ops ag aa w β s.heap (lone (bD fr t ds (.inRegion ops (i::r)::k)) cs w) r ds K:=by
  intro H1 A vs v z Z J V;rcases J with⟨S,J⟩|J
  ·rw[S]at q;obtain⟨e,w',T,⟨Q,aG,I,g1,g2,g3,g4,g5,ad,g6⟩,aS,W,L⟩:=J w A _ z.rel.b8 z.rel.ks Z (bD fr t ds (.inRegion ops (i::r)::k)::cs);subst I;have Y:=z.trans (z.rel.later g1 g2 g3 g4 g5 ad);refine⟨_,aG,β,_,w',V,?_,m.put H Y (by simpa[aC]using g6) (by simp[aH]),Y.fI⟩;rw[<-pq B];exact(ht (xj B O M q)).trans (hv aS (.one (ee L)))
  ·obtain⟨Q,l,j⟩:=J w A _ Z;rw[l]at q;exact⟨_,A,β,_,w,V,.one (uL B O M q (.inl rfl)),m.put H z (by simpa[aC]using j) (by simp[aH]),z.fI⟩
 rcases h with⟨vs,v,l,j,y⟩|⟨_,⟨vs,H1,v,l,j,y⟩|⟨H',v,⟨S,l⟩,j⟩|⟨e,U,ap,j⟩|⟨aA,v,ai,ao,j⟩⟩
 ·exact ab s.heap aa vs v (cd.refl m.heap) (by rw[l]at C;exact kG.1 C) j y
 ·obtain⟨A,av,aw⟩:=DY l m.heap C R;exact ab H1 A vs v av aw j y
 ·rw[S]at q;obtain⟨e,w',T,⟨Q,aM,aG,I,g1,g2,g3⟩,aS,W,L⟩:=l w aa ag β _ m.heap C R (bD fr t ds (.inRegion ops (i::r)::k)::cs);subst I;refine⟨_,aG,aM,_,w',j,?_,m.put H g1 g2 g3,g1.fI⟩;rw[<-pq B];exact(ht (xj B O M q)).trans (hv aS (.one (ee L)))
 ·rw[U.1]at q;obtain⟨x,w',T,⟨Q,aM,aG,I,g1,g2,g3⟩,aS,W,L⟩:=U.use ap m.heap C R (bD fr t ds (.inRegion ops (i::r)::k)::cs);subst I;refine⟨_,aG,aM,_,w',j,?_,m.put H g1 g2 g3,g1.fI⟩;rw[<-pq B];exact(ht (xj B O M q)).trans (hv aS (.one (ee L)))
 ·obtain⟨Q,l,y⟩:=ai s.heap w aa ag β _ m.heap C R ao;rw[l]at q;have z:=cd.refl m.heap;exact⟨_,aa,β,_,w,j,.one (uL B O M q (.inl rfl)),m.put H z (by simpa[aC]using y) (by simp[aH]),z.fI⟩
end
end Go.az
namespace Go.az
variable[Gl]
section
variable{P:dp}{an:ea->Bool}{n N:Nat}
variable{fr:ec}{k:List Item}{cs:List ec}{ops:Array Oper}{i:Nat}{r:List Nat}{ds:List eb}
theorem VO{o:Oper}{f:dx}{a:Array dx}{p:Array dl}{b:Nat}{H':ah}{v:AV}{K:St->Prop}{s:St}{ag aa:Nat->Prop}{β:Bd}{t:Array db}{w:dq}
 (l:o.op=.call {callee:=.value f,args:=a,argTypes:=p})(hf:ev s.env f=.map b)(m:fQ P b s.heap (a.toList.map (ev s.env)) H' v)(x:K ⟨put o.dst v s.env,H'⟩)
 (d:cQ P n ag aa β s t w)(A:jQ n o=true)(j:ops[i]?=some o)(D:hg o (yielded ops t)=true):
 lL P n N fr k cs ops ag aa w β s.heap (lone (bD fr t ds (.inRegion ops (i::r)::k)) cs w) r ds K:=by
 have e:=(pP d f).1;rw[hf]at e;simp only[aC,bX,cg]at e;have B:=e.2.2 m.1;obtain⟨y,z⟩:=xy d a.toList;have h:(dy (gq t) o).run P w=(gx (β.aw b) (a.toList.map (gq t)).toArray).run P w:=by
  simp only[dy,l,resolve,B,fv,hm,ho,hl,invoke];congr 2;exact b3 s_
 have C:∀c,o.op≠.defer c:=fun c hc=>by rw[l]at hc;cases hc
 obtain⟨g,tmps,assign,body,q,u⟩:=m.2 w aa ag β _ d.heap y z;rw[q]at h;obtain⟨cv,w',aM,aG,g1,g2,g3,g4⟩:=u (bD fr t ds (.inRegion ops (i::r)::k)) cs;refine⟨_,aG,aM,_,w',x,?_,d.put A g2 g3 g4,g2.fI⟩;rw[<-pq j];exact(ht (K8 j D C h)).trans g1
theorem Mk(A:mW P an){d:Bool}{o:Oper}{K:St->Prop}{s:St}{ag aa:Nat->Prop}{β:Bd}{t:Array db}{w:dq}
 (h:kK P an d o K s)(a:cQ P n ag aa β s t w)(c:jQ n o=true)(j:ops[i]?=some o)(l:hg o (yielded ops t)=true):
 lL P n N fr k cs ops ag aa w β s.heap (lone (bD fr t ds (.inRegion ops (i::r)::k)) cs w) r ds K:=by
 have G:=VA h;have B:gd P an o (ev s.env) s.heap (fun e=>K (e.app o.dst s))->lL P n N fr k cs ops ag aa w β s.heap (lone (bD fr t ds (.inRegion ops (i::r)::k)) cs w) r ds K:=by
  intro h;obtain⟨e,m,hs,aA,aO⟩:=A o _ _ _ (fun v=>rfl) h;obtain⟨nx,cv,w',aM,aG,C,D,z,E,F⟩:=hs.use a.heap (fun x _=>pP a x) aA (fun p H=>(aO p H).1);exact⟨_,aG,aM,_,w',m,.one (uL j l G C D),a.put c z E F,z.fI⟩
 unfold kK at h
 split at h
 ·rename_i f args J q
  split at h
  ·rename_i g y u hf;exact KX q (.inr ⟨y,u,hf,rfl,rfl⟩) h a c j l
  ·rename_i g y u hf;exact KX q (.inl hf) h a c j l
  ·rename_i b hf;obtain⟨H',v,I,m⟩:=h;exact VO q hf I m a c j l
  ·exact h.elim
 ·exact B h
theorem lL.mono{m:ek}{K a:St->Prop}{ag aa:Nat->Prop}{w:dq}{β:Bd}{H:ah}(h:lL P n N fr k cs ops ag aa w β H m r ds K)(hk:∀s,K s->a s):lL P n N fr k cs ops ag aa w β H m r ds a:=by
 obtain⟨s',aG,aM,d,w',b,c⟩:=h;exact⟨s',aG,aM,d,w',hk _ b,c⟩
theorem Ae{s:St}{ag aa:Nat->Prop}{β:Bd}{t:Array db}{w:dq}(e:cQ P n ag aa β s t w)(l:∀o∈ops.toList,jQ n o=true)(j:Nat):
 (∀b,guardOf ops j s.env=.p (.bool b)->yielded ops t j=some b)/\(guardOf ops j s.env=.p (.aD [])->yielded ops t j=none):=by
 unfold guardOf yielded;cases k:ops[j]? with
 |none=>simp
 |some f=>
  simp only[kw];cases g:f.dst with
  |none=>simp
  |some d=>
   simp only[kw];have h:d<t.size:=by
    have:=l f (by rw[b1];exact b5 k);unfold jQ at this;rw[g]at this;rw[e.size];simpa using this
   have a:=e.env d;have i:t[d]?=some (t.getD d undef):=by simp[cy,h]
   rw[i];constructor
   ·intro b c;rw[c]at a;simp only[aC,aF]at a;rw[a]
   ·intro c;rw[c]at a;simp only[aC,aF,bO]at a;obtain⟨xs,rfl,a⟩:=a;rw[a]
theorem Ls(f:mW P an){d:Bool}(x:∀o∈ops.toList,jQ n o=true):∀(l:List Oper)(i:Nat){K:St->Prop}{s:St}{ag aa:Nat->Prop}{β:Bd}{t:Array db}{w:dq},
 ops.toList.drop i=l->iF P an d ops l K s->cQ P n ag aa β s t w->
 lL P n N fr k cs ops ag aa w β s.heap (lone (bD fr t ds (.inRegion ops (h9 i l.length)::k)) cs w) [] ds K
 |[],i,K,s,ag,aa,β,t,w,v,h,a=>⟨s,aa,β,t,w,h,hw _ _,a,dU.refl _ _ _ _ _ _⟩
 |o::l,i,K,s,ag,aa,β,t,w,v,h,a=>by
  have e:ops[i]?=some o:=by
   have:(ops.toList.drop i)[0]?=some o:=by rw[v];rfl
   rw[List.getElem?_drop]at this;simpa using this
  have F:ops.toList.drop (i+1)=l:=by
   rw[<-js,v];rfl
  have u:jQ n o=true:=x o (by rw[b1];exact b5 e);have g:∀{ag aa w β H}{m:ek},lL P n N fr k cs ops ag aa w β H m (h9 (i+1) l.length) ds (iF P an d ops l K)->lL P n N fr k cs ops ag aa w β H m [] ds K:=by
   intro ag aa w β H m E;obtain⟨s',aG,aM,J,w',A,B,C,D⟩:=E;obtain⟨s2,z,I,t2,w2,g1,g2,g3,g4⟩:=Ls f x l (i+1) F A C;exact⟨s2,z,I,t2,w2,g1,B.trans g2,g3,D.trans g4⟩
  rw[h4,List.range'_succ]
  have skip:iF P an d ops l K ⟨put o.dst (.p (.aD [])) s.env,s.heap⟩->hg o (yielded ops t)=false->
   lL P n N fr k cs ops ag aa w β s.heap (lone (bD fr t ds (.inRegion ops (i::h9 (i+1) l.length)::k)) cs w) [] ds K:=by
   intro hk G;refine g ⟨_,aa,β,_,w,hk,.one (LF e G),a.put u (cd.refl a.heap) (by simp[aC,aF,bO,undef]) (by simp[aH]),dU.refl _ _ _ _ _ _⟩
  simp only[iF]at h
  split at h
  ·rename_i c;exact g (Mk f h a u e (by simp[hg,c]))
  ·rename_i j L c;obtain⟨g1,g2⟩:=Ae a x j
   split at h
   ·rename_i b q;have y:=g1 b q
    split at h
    ·rename_i r;exact g (Mk f h a u e (by simp[hg,c,y,r]))
    ·rename_i r;exact skip h (by simp[hg,c,y,r])
   ·rename_i q;exact skip h (by simp[hg,c,g2 q])
   ·exact h.elim
theorem aAq{H:ah}{b v:Nat}(h:H[b]?=none\/H[b]?=some .hole):¬aN H (b,v):=by
 rintro⟨o,a,c⟩;rcases h with h|h
 ·simp only at a;rw[h]at a;cases a
 ·simp only at a;rw[h]at a;cases a;exact c
theorem rh.step{s s':St}{β:Bd}(hf:rh s s'):cK β s.heap β s'.heap:=by
 refine⟨?_,?_⟩
 ·rintro k b _ ⟨o,c,a⟩;rcases hf.heap b _ c with rfl|h|⟨_,k,z,rfl,_⟩|⟨v,v',h,rfl,_⟩
  ·cases a
  ·exact⟨⟨o,h,a⟩,rfl⟩
  ·cases a
  ·exact⟨⟨_,h,a⟩,rfl⟩
 ·intro b aE al k d hi c;rcases hf.heap b _ c with h|h|⟨hn,_⟩|⟨v,v',_,h,_⟩
  ·cases h
  ·exact⟨k,d,h,j3 _,Iff.rfl,fun _=>⟨rfl,rfl⟩⟩
  ·exact(aAq hn hi).elim
  ·cases h
section apR
variable{w:dq}{aa:Nat->Prop}{β:Bd}{T:ah}
theorem Py{b aE al off len:Nat}(h:aE=0/\off=0/\len=0/\∃k z,T[b]?=some (.arr k 0 z [])/\k.gr=true):bX P β T (.sl b aE al off len) (.slice none 0 0):=by
 obtain⟨rfl,rfl,rfl,k,z,c,d⟩:=h;refine⟨by simp[hA],fun f e a=>?_⟩;unfold iD at a;rw[c]at a;cases a;exact⟨s_,fun _=>rfl,fun h=>(h ⟨d,rfl⟩).elim⟩
mutual
theorem gK.cells:∀(v:PV)(x:AV)(cs:List db),gK T v x->aX P w aa v cs->bB P w aa β T x cs
 | .aK,x,cs,h,hc=>by
  simp only[gK]at h;rcases h with rfl|h
  ·simpa only[bB]using hc
  ·cases x<;>simp only at h<;>try exact h.elim
   simp only[aX]at hc;simp only[bB];exact⟨_,hc,Py h⟩
 | .st u fs,x,cs,h,hc=>by
  simp only[gK]at h;rcases h with rfl|h
  ·simpa only[bB]using hc
  ·cases x<;>simp only at h<;>try exact h.elim
   obtain⟨rfl,h⟩:=h;simp only[aX]at hc;obtain⟨l,a,d,e,f⟩:=hc;simp only[bB];exact⟨l,a,d,mc.cells l fs _ a h e,f⟩
 | .undef,x,cs,h,hc| .bool _,x,cs,h,hc| .int _ _,x,cs,h,hc| .str _,x,cs,h,hc| .fU,x,cs,h,hc| .cE _,x,cs,h,hc| .cZ _ _,x,cs,h,hc| .seq _,x,cs,h,hc| .fM,x,cs,h,hc| .eJ _,x,cs,h,hc| .func _ _ _,x,cs,h,hc| .iX,x,cs,h,hc| .ia,x,cs,h,hc| .aD _,x,cs,h,hc=>by
  simp only[gK]at h;subst h;simpa only[bB]using hc
theorem mc.cells:∀(l:List Nat)(fs:List PV)(b:List AV)(a:List (List db)),mc T fs b->bn P w aa l fs a->bV P w aa β T l b a
 |l,[],b,a,h,hc=>by
  simp only[mc]at h;subst h;cases l<;>simp_all [bV,bn]
 |l,v::vs,b,a,h,hc=>by
  cases b with
  |nil=>simp[mc]at h
  |cons g b=>
   simp only[mc]at h;cases l with
   |nil=>simp[bn]at hc
   |cons n l=>
    simp only[bn]at hc;obtain⟨c,cs,d,e,f,i⟩:=hc;simp only[bV];exact⟨c,cs,d,gK.cells v g c h.1 e,f,mc.cells l vs b cs h.2 i⟩
end
theorem gK.GP(v:PV)(x:AV)(y:db)(h:gK T v x)(hc:aF P w aa v y):aC P w aa β T x y:=by
 cases v
 case aK=>
  simp only[gK]at h;rcases h with rfl|h
  ·simpa only[aC]using hc
  ·cases x<;>simp only at h<;>try exact h.elim
   simp only[aF]at hc;subst hc;simp only[aC];exact Py h
 case st u fs=>
  simp only[gK]at h;rcases h with rfl|h
  ·simpa only[aC]using hc
  ·cases x<;>simp only at h<;>try exact h.elim
   obtain⟨rfl,h⟩:=h;simp only[aF]at hc;obtain⟨l,a,b,c,d⟩:=hc;simp only[aC];exact⟨l,a,b,mc.cells l fs _ a h c,d⟩
 all_goals simp only[gK]at h;subst h;simpa only[aC]using hc
mutual
theorem Gh.cells:∀(v x:AV)(cs:List db),Gh T v x->bB P w aa β T v cs->bB P w aa β T x cs
 | .p v,x,cs,h,hc=>by simp only[Gh]at h;simp only[bB]at hc;exact gK.cells v x cs h hc
 | .st u fs,x,cs,h,hc=>by
  simp only[Gh]at h;cases x<;>simp only at h<;>try exact h.elim
  obtain⟨rfl,h⟩:=h;simp only[bB]at hc⊢;obtain⟨l,a,d,e,f⟩:=hc;exact⟨l,a,d,nP.cells l fs _ a h e,f⟩
 | .ptr _ _,x,cs,h,hc| .cm _ _ _ _ _,x,cs,h,hc| .sl _ _ _ _ _,x,cs,h,hc| .map _,x,cs,h,hc| .func _ _ _,x,cs,h,hc| .aD _,x,cs,h,hc=>by simp only[Gh]at h;subst h;exact hc
theorem nP.cells:∀(l:List Nat)(fs b:List AV)(a:List (List db)),nP T fs b->bV P w aa β T l fs a->bV P w aa β T l b a
 |l,[],b,a,h,hc=>by simp only[nP]at h;subst h;exact hc
 |l,v::vs,b,a,h,hc=>by
  cases b with
  |nil=>simp[nP]at h
  |cons g b=>
   simp only[nP]at h;cases l with
   |nil=>simp[bV]at hc
   |cons n l=>
    simp only[bV]at hc⊢;obtain⟨c,cs,d,e,f,i⟩:=hc;exact⟨c,cs,d,Gh.cells v g c h.1 e,f,nP.cells l vs b cs h.2 i⟩
end
theorem Gh.GP(v x:AV)(y:db)(h:Gh T v x)(hc:aC P w aa β T v y):aC P w aa β T x y:=by
 cases v
 case p v=>simp only[Gh]at h;simp only[aC]at hc;exact gK.GP v x y h hc
 case st u fs=>
  simp only[Gh]at h;cases x<;>simp only at h<;>try exact h.elim
  obtain⟨rfl,h⟩:=h;simp only[aC]at hc⊢;obtain⟨l,a,b,c,d⟩:=hc;exact⟨l,a,b,nP.cells l fs _ a h c,d⟩
 all_goals simp only[Gh]at h;subst h;exact hc
theorem gK.aL{v:PV}{x:AV}(h:gK T v x):ad x=az.aL v:=by
 cases v
 case aK=>
  simp only[gK]at h;rcases h with rfl|h
  ·rfl
  ·cases x<;>simp only at h<;>first|exact h.elim|rfl
 case st u fs=>
  simp only[gK]at h;rcases h with rfl|h
  ·rfl
  ·cases x<;>simp only at h<;>try exact h.elim
   simp[ad,az.aL,h.1]
 all_goals simp only[gK]at h;subst h;rfl
theorem Gh.aL{v x:AV}(h:Gh T v x):ad x=ad v:=by
 cases v
 case p v=>simp only[Gh]at h;exact h.aL
 case st u fs=>
  simp only[Gh]at h;cases x<;>simp only at h<;>try exact h.elim
  simp[ad,h.1]
 all_goals simp only[Gh]at h;subst h;rfl
end apR
theorem df.fI{s s':St}{β:Bd}{ag aa:Nat->Prop}{w:dq}(hf:df N s s'):dU N ag aa w β s.heap ag aa w β s'.heap:=by
 rcases hf with rfl|hf
 ·exact dU.refl _ _ _ _ _ _
 ·exact⟨fun _ h=>h,fun _ h=>h,fun _ h=>.inl h,Ext.refl _ _ _,hf.1.step.n,fun x hn⟨o,d,c⟩=>⟨o,by rw[hf.2 _ hn];exact d,c⟩,fun b hn⟨L,a⟩=>⟨L,by rw[hf.2 _ hn];exact a⟩⟩
theorem rh.rel{s s':St}{ag aa:Nat->Prop}{β:Bd}{t:Array db}{w:dq}(hf:rh s s')(h:cQ P n ag aa β s t w):cQ P n ag aa β s' t w:=by
 have aS:cK β s.heap β s'.heap:=hf.step;refine⟨⟨?_,?_,hf.hrefs,h.heap.b8,h.heap.fg,h.heap.ks⟩,fun x=>?_,hf.iq,h.size⟩
 ·intro b o u;rcases hf.heap b o u with rfl|e|⟨_,k,z,rfl,hk⟩|⟨v,v',e,rfl,j⟩
  ·trivial
  rotate_left
  ·exact .inl ⟨hk,rfl⟩
  ·have A:=h.heap.du b _ e;have B:=h.heap.refs b _ e;obtain⟨cs,T,c,d,p,E,q⟩:=A;exact⟨cs,T,c,Gh.cells _ _ _ j (bB.mono (fun _ x=>x) (fun _ _=>rfl) aS _ _ B d),p,(fun h=>by cases h),by rw[j.aL];exact q⟩
  ·exact(h.heap.du b o e).move (fun _ x=>x) (fun _ _=>rfl) aS (h.heap.refs b o e) (fun _=>rfl) fun _ _ hf=>⟨rfl,hf⟩
 ·intro x y F G c d g i r a;have m:∀{z:Nat}{o:Obj},s'.heap[z]?=some o->o.live->∃o',s.heap[z]?=some o'/\o'.live:=by
   intro z o hz f;rcases hf.heap z o hz with rfl|hz|⟨_,k,_,rfl,hk⟩|⟨v,v',hz,_,_⟩
   ·exact f.elim
   ·exact⟨o,hz,f⟩
   ·exact(f ⟨hk,rfl⟩).elim
   ·exact⟨_,hz,trivial⟩
  obtain⟨C,c,g⟩:=m c g;obtain⟨D,d,i⟩:=m d i;exact h.heap.inj x y C D c d g i r a
 ·have l:=aC.mono (fun _ x=>x) (fun _ _=>rfl) aS _ _ (h.iq x) (h.env x);rcases hf.env x with a|a|a
  ·rw[a];exact l
  ·rw[a];simp[aC,aF]
  ·exact Gh.GP _ _ _ a l
theorem df.rel{s s':St}{ag aa:Nat->Prop}{β:Bd}{t:Array db}{w:dq}(hf:df N s s')(h:cQ P n ag aa β s t w):cQ P n ag aa β s' t w:=by
 rcases hf with rfl|hf
 ·exact h
 ·exact hf.1.rel h
def oM(P:dp)(fr:ec)(k:List Item)(cs:List ec)(m:ek)(t:Array db)(ds:List eb)(w:dq):bE->Prop
 | .normal=>ei P m (lone (bD fr t ds k) cs w)
 | .exit id=>∃a,exitTo id a=exitTo id k/\ei P m (lone (bD fr t ds (.code (.exit id)::a)) cs w)
 | .ret=>∃a,ei P m (lone (bD fr t ds (.code .ret::a)) cs w)
theorem oM.of_steps{m f:ek}{t:Array db}{ds:List eb}{w:dq}{e:bE}(h:ei P m f)(c:oM P fr k cs f t ds w e):oM P fr k cs m t ds w e:=by
 cases e with
 |normal=>exact h.trans c
 |exit id=>obtain⟨d,a,b⟩:=c;exact⟨d,a,h.trans b⟩
 |ret=>obtain⟨d,b⟩:=c;exact⟨d,h.trans b⟩
def mark(r:Nat):eb:={target:=.collected r,args:=#[]}
def Marks(fr:ec)(ag:Nat->Prop)(w:dq)(jU aG:Nat->Prop)(w':dq)(b c:List eb):Prop:=
 ∃a:List Nat,c=a.map mark++b/\a.Nodup/\(∀r∈a,w.heap.size<=r/\jU r/\¬aG r/\w'.heap[r]?=some (.deferred (some [])))/\(∀k,jU k->ag k\/k∈a)/\(fr.roundOf.isSome=true->a=[])
theorem Marks.refl(fr:ec)(ag aG:Nat->Prop)(w w':dq)(ds:List eb):Marks fr ag w ag aG w' ds ds:=⟨[],rfl,List.nodup_nil,s_,fun _ h=>.inl h,fun _=>rfl⟩
theorem Marks.trans{fr:ec}{N:Nat}{ag aa d e g f:Nat->Prop}{w w1 w2:dq}{β o A:Bd}{H H1 p:ah}{ds l m:List eb}(h:Marks fr ag w d e w1 ds l)(i:dU N ag aa w β H d e w1 o H1)
 (q:Marks fr d w1 g f w2 l m)(j:dU N d e w1 o H1 g f w2 A p):Marks fr ag w g f w2 ds m:=by
 obtain⟨rs,rfl,s,n,t,u⟩:=h;obtain⟨z,rfl,g2,g3,g4,g5⟩:=q;refine⟨z++rs,s_,?_,?_,?_,fun hx=>by simp[u hx,g5 hx]⟩
 ·rw[List.nodup_append];refine⟨g2,s,fun a i b x v=>?_⟩;subst v;have B:=(g3 a i).1;have C:=(bl.1 (n a x).2.2.2).1;omega
 ·intro r c;rcases h0.1 c with c|c
  ·obtain⟨k1,k2⟩:=g3 r c;exact⟨j8 i.ext.size k1,k2⟩
  ·obtain⟨k1,k2,k3,k4⟩:=n r c;exact⟨k1,j.fg _ k2,fun hx=>(j.fresh _ hx).elim k3 (fun y=>y k2),(j.ext.same _ (.inl k2)).trans k4⟩
 ·intro k hk;rcases g4 k hk with hk|hk
  ·rcases t k hk with hk|hk
   ·exact .inl hk
   ·exact .inr (by simp[hk])
  ·exact .inr (by simp[hk])
def s8(N:Nat)(fr:ec)(β:Bd)(H:ah):Prop:=∀l,fr.roundOf=some l->∃b,b<N/\ja H b/\β.aw b=l
theorem s8.fI{fr:ec}{β aM:Bd}{H H':ah}{ag aa jU aG:Nat->Prop}{w w':dq}(h:s8 N fr β H)(e:dU N ag aa w β H jU aG w' aM H'):s8 N fr aM H':=by
 intro l i;obtain⟨b,a,c,f⟩:=h l i;have d:=e.loop b a c;obtain⟨L,g⟩:=c;exact⟨b,a,d,((e.step.loop b a ⟨_,g,trivial⟩ d).2).trans f⟩
def sG(P:dp)(n N:Nat)(fr:ec)(k:List Item)(cs:List ec)(ag aa:Nat->Prop)(w:dq)(β:Bd)(H:ah)(m:ek)(c:List eb)(Q:bE->St->Prop):Prop:=
 ∃e s' jU aG aM b w' a,Q e s'/\oM P fr k cs m b a w' e/\cQ P n jU aG aM s' b w'/\dU N ag aa w β H jU aG w' aM s'.heap/\Marks fr ag w jU aG w' c a
theorem sG.of{k:List Item}{ag aa:Nat->Prop}{w:dq}{β:Bd}{H:ah}{m:ek}{ds:List eb}{Q:bE->St->Prop}{e:bE}{s':St}{aG:Nat->Prop}{aM:Bd}{a:Array db}{w':dq}(hq:Q e s')(c:oM P fr k cs m a ds w' e)
 (d:cQ P n ag aG aM s' a w')(b:dU N ag aa w β H ag aG w' aM s'.heap):sG P n N fr k cs ag aa w β H m ds Q:=⟨e,s',ag,aG,aM,a,w',ds,hq,c,d,b,Marks.refl _ _ _ _ _ _⟩
theorem sG.next{k:List Item}{ag aa b a:Nat->Prop}{w w1:dq}{β g:Bd}{H H1:ah}{m f:ek}{c d:List eb}{Q:bE->St->Prop}(e:dU N ag aa w β H b a w1 g H1)(o:Marks fr ag w b a w1 c d)(aS:ei P m f)
 (h:sG P n N fr k cs b a w1 g H1 f d Q):sG P n N fr k cs ag aa w β H m c Q:=by
 obtain⟨e2,s2,j,i,p,t2,w2,l,g1,g2,g3,g4,g5⟩:=h;exact⟨e2,s2,j,i,p,t2,w2,l,g1,.of_steps aS g2,g3,e.trans g4,o.trans e g5 g4⟩
def codeOk(fit:Nat->Array Oper->Bool)(n:Nat):Code->Bool
 | .region _ ops draw=>ops.toList.all (jQ n)&&(!draw||fit n ops)
 | .seq a b=>codeOk fit n a&&codeOk fit n b
 | .cond _ a b=>codeOk fit n a&&codeOk fit n b
 | .block _ b| .scope b| .loop b=>codeOk fit n b
 | .rangeFunc _ _ a b=>codeOk fit n a&&codeOk fit n b
 |_=>true
def uW(P:dp)(an:ea->Bool)(fit:Nat->Array Oper->Bool):Prop:=
 ∀(n N:Nat)(a:Array Oper)(fr:ec)(k:List Item)(cs:List ec)(b:List eb)(c:Nat)(K:St->Prop)(s:St)(ag aa:Nat->Prop)(β:Bd)(t:Array db)(w:dq),
  fit n a=true->(∀o∈a.toList,jQ n o=true)->gV P an a a.toList 0 [] K s->cQ P n ag aa β s t w->
  lL P n N fr k cs a ag aa w β s.heap (lone (bD fr t b (.inRegion a (hh (P.follows .mixedOrders) a c)::k)) cs w) [] b K
theorem cQ.draw{s:St}{ag aa:Nat->Prop}{β:Bd}{t:Array db}{w w':dq}(a:w'.heap=w.heap)(h:cQ P n ag aa β s t w):cQ P n ag aa β s t w':=
 ⟨h.heap.Aq a,fun x=>aC.mono (fun _ x=>x) (fun _ _=>by rw[a]) (cK.refl _ _) _ _ (h.iq x) (h.env x),h.iq,h.size⟩
section rf
variable{w w':dq}{aa ag:Nat->Prop}{β:Bd}{H:ah}
theorem cj.Mj(h:cj P w aa β H ag){x:Nat}(hx:x<w.heap.size)(d:∀(b:Nat)(o:Obj),H[b]?=some o->o.live->β.aw b≠x):cj P w aa β H (fun k=>ag k\/k=x):=by
 refine⟨fun b o c=>?_,h.inj,h.refs,h.b8,fun k hk=>hk.elim (h.fg k) (fun e=>e▸hx),h.ks⟩;refine(h.du b o c).move (fun _ x=>x) (fun _ _=>rfl) (cK.refl _ _) (h.refs b o c) (fun _=>rfl) fun fz f a=>⟨rfl,?_⟩
 unfold dD at a⊢;cases fz with
 |true=>exact a
 |false=>exact⟨a.1,fun g=>g.elim a.2 (d b o c f)⟩
theorem cj.shut(h:cj P w aa β H ag){Prot0:Nat->Prop}(f:∀k,Prot0 k->ag k){R:Nat->Prop}(d:∀x,R x->ag x/\¬aa x)(g:w'.heap.size=w.heap.size)(hs:∀k,¬R k->w'.heap[k]?=w.heap[k]?):cj P w' aa β H Prot0:=by
 have same:∀k,aa k->w'.heap[k]?=w.heap[k]?:=fun k hk=>hs k (fun c=>(d k c).2 hk);refine⟨fun b o e=>?_,h.inj,h.refs,fun k hk=>g▸h.b8 k hk,fun k hk=>g▸h.fg k (f k hk),h.ks.mono (fun _ x=>x) same⟩;refine(h.du b o e).move (fun _ x=>x) same (cK.refl _ _) (h.refs b o e) (fun _=>rfl) fun fz _ a=>?_;unfold dD at a⊢;cases fz with
 |true=>exact⟨hs _ fun c=>(d _ c).2 a,a⟩
 |false=>exact⟨hs _ fun c=>a.2 (d _ c).1,a.1,fun i=>a.2 (f _ i)⟩
theorem My(H:ah)(o:Obj):(H++hL 1 Obj.hole).set H.length o=H++[o]:=by
 rw[iy _ _ (j3 _)];simp
theorem Nd(a:cj P w aa β H ag){L:eA}{tmps:Array db}{defers fn:Nat}(hn:tmps.size=L.n)(j:∀x,aC P w aa β H (aP L.env x) (tmps.getD x undef))(c:∀x,aH (aN H) (aP L.env x)):
 cd P ag aa w β H aa (w.alloc (.loop {state:=L.st,pending:=L.pending,fn,tmps,params:=L.params.toArray,assign:=L.assign,body:=L.body,defers})) (β.at H.length w.heap.size 0) (H++[.loop L]):=by
 have d:cd P ag aa w β H aa w β (H++hL 1 .hole):=⟨fun _ x=>x,fun _ x=>.inl x,Ext.refl _ _ _,sj _ _ _,a.rq _,pI _ _,fun b⟨L,e⟩=>⟨L,by rw[mn,if_pos (hK.1 e).1];exact e⟩⟩
 have f:(H++hL 1 Obj.hole)[H.length]?=some .hole:=by rw[mn];simp
 have aS:=(sj β H 1)
 have i:=Ax (β:=β) f (.loop L) w.heap.size 0;have hrefs:∀x,aH (aN ((H++hL 1 Obj.hole).set H.length (.loop L))) (aP L.env x):=by
  intro x;rw[My];exact aH.mono (fun y l=>L4 l) _ (c x)
 have g:=uZ (cap:=0) d.rel f (ob:=.loop {state:=L.st,pending:=L.pending,fn,tmps,params:=L.params.toArray,assign:=L.assign,body:=L.body,defers}) (o':=.loop L)
  ⟨tmps,defers,fn,by simp[Bd.at],hn,fun x=>aC.mono (fun _ x=>x) (fun k hk=>xn w _ (a.b8 k hk)) i _ _ (aH.mono (pI _ _) _ (c x)) (aC.mono (fun _ x=>x) (fun _ _=>rfl) aS _ _ (c x) (j x)),?_⟩ hrefs
 ·rw[My]at g;exact d.trans g
 ·unfold dD;simp only[c9,if_false,Bd.at,if_true];exact⟨fun hi=>by have:=a.b8 _ hi;omega,fun h=>by have:=a.fg _ h;omega⟩
theorem EC(d:cj P w aa β H ag){b:Nat}{L:eA}(a:H[b]?=some (.loop L))(st:LoopState)(f:Option Code):
 ∃rec:Loop,w.heap[β.aw b]?=some (.loop rec)/\rec.state=L.st/\rec.pending=L.pending/\rec.params=L.params.toArray/\rec.assign=L.assign/\rec.body=L.body/\rec.tmps.size=L.n/\(∀x,aC P w aa β H (aP L.env x) (rec.tmps.getD x undef))/\
  cd P ag aa w β H aa (w.putObj (β.aw b) (.loop {rec with state:=st,pending:=f})) β (H.set b (.loop {L with st:=st,pending:=f})):=by
 obtain⟨tmps,defers,fn,g,i,j,c⟩:=d.du b _ a;refine⟨_,g,rfl,rfl,rfl,rfl,rfl,i,j,?_⟩;have m:=(bl.1 g).1;have l:=(hK.1 a).1;unfold dD at c;simp only[c9,if_false]at c;have aS:cK β H β (H.set b (.loop {L with st:=st,pending:=f})):=by
  exact mq a
 have aA:∀x,aN H x->aN (H.set b (Obj.loop {L with st:=st,pending:=f})) x:=pF a (fun _ _=>trivial);have same:∀k,aa k->(w.putObj (β.aw b) (.loop {state:=st,pending:=f,fn,tmps,params:=L.params.toArray,assign:=L.assign,body:=L.body,defers})).heap[k]?=w.heap[k]?:=fun k hk=>hD (fun e=>c.1 (e▸hk));refine cd.set d l (fun _ _=>⟨rfl,rfl⟩) (fun _ x=>x) (fun _ x=>.inl x) (fun k hk=>by simpa using d.b8 k hk) s_
  (fun k hk _=>hD (hk.resolve_right (fun h=>h trivial))) (fun _=>.inr ⟨rfl,⟨_,a,trivial⟩,.inr c.1,c.2⟩) aS
  ⟨tmps,defers,fn,World.putObj_heap_same m,i,fun x=>aC.mono (fun _ x=>x) same aS _ _ (d.refs b _ a x) (j x),?_⟩ (fun x=>aH.mono aA _ (d.refs b _ a x)) (fun _ _ _ _=>trivial) (fun _ _=>⟨_,rfl⟩)
 unfold dD;simpa using c
end rf
theorem WS{s:St}{ag aa:Nat->Prop}{β:Bd}{t:Array db}{w:dq}(c:cQ P n ag aa β s t w)(E:s8 N fr β s.heap)(e:Array Tmp)(a b:Code)(m:List eb){f:Env}(g:∀x,aP f x=aP s.env x):
 ∃l mk w1 j i,(Instr.enterLoop fr.fn t e a b fr.roundOf).run P w=.ok (l,mk) w1/\cj P w1 aa i (s.heap++[.loop ⟨.ready,none,n,e.toList,a,b,f⟩]) j/\i.aw s.heap.length=l/\
  dU N ag aa w β s.heap j aa w1 i (s.heap++[.loop ⟨.ready,none,n,e.toList,a,b,f⟩])/\Marks fr ag w j aa w1 m (mk++m)/\
  cK β s.heap i (s.heap++[.loop ⟨.ready,none,n,e.toList,a,b,f⟩]):=by
 cases u:fr.roundOf with
 |none=>
  have p:cd P ag aa w β s.heap aa (w.alloc (.deferred (some []))) β s.heap:=c.heap.later (fun _ x=>x) (fun _ x=>.inl x) (fun k hk=>by have:=c.heap.b8 k hk;rw[hE];omega) (by rw[hE];omega) (fun k hk=>xn w _ hk);have C:=p.rel.Mj (x:=w.heap.size) (by rw[hE];omega) (fun b o G F g=>by have:=c.heap.pO G F;omega);have d:=Nd (L:=⟨.ready,none,n,e.toList,a,b,f⟩) (tmps:=t) (defers:=w.heap.size) (fn:=fr.fn) C c.size (fun x=>by rw[g];exact aC.mono (fun _ x=>x) (fun k hk=>xn w _ (c.heap.b8 k hk)) (cK.refl _ _) _ _ (c.iq x) (c.env x)) (fun x=>by rw[g];exact c.iq x);have B:dU N ag aa w β s.heap (fun k=>ag k\/k=w.heap.size) aa (w.alloc (.deferred (some []))) β s.heap:=⟨fun _ h=>.inl h,fun _ h=>h,fun _ h=>.inl h,p.ext,(cK.refl _ _).n,fun _ _ h=>h,fun _ _ h=>h⟩
  refine⟨_,_,_,_,_,run_enterLoop_outer fr.fn t e a b,d.rel,?_,B.trans d.fI,?_,d.step⟩
  ·simp[Bd.at,hE]
  ·refine⟨[w.heap.size],rfl,s_,?_,fun k hk=>hk.imp id (fun h=>by simp[h]),by simp[u]⟩;intro r q;simp only[i4]at q;subst q;refine⟨j3 _,.inr rfl,fun hi=>by have:=c.heap.b8 _ hi;omega,?_⟩;exact(d.ext.same _ (.inl (.inr rfl))).trans (World.alloc_heap_new w _)
 |some H=>
  obtain⟨v,K,z,A⟩:=E H u;obtain⟨I,D⟩:=z;obtain⟨M,y,J,g1,_⟩:=c.heap.du v _ D;rw[A]at g1;have d:=Nd (L:=⟨.ready,none,n,e.toList,a,b,f⟩) (tmps:=t) (defers:=y) (fn:=fr.fn) c.heap c.size (fun x=>by rw[g];exact c.env x) (fun x=>by rw[g];exact c.iq x);exact⟨_,_,_,_,_,run_enterLoop_inner g1 fr.fn t e a b,d.rel,by simp[Bd.at],d.fI,Marks.refl _ _ _ _ _ _,d.step⟩
theorem n8(J:mW P an){fit:Nat->Array Oper->Bool}(H:uW P an fit):∀(c:Code)(k:List Item){Q:bE->St->Prop}{s:St}{ag aa:Nat->Prop}{β:Bd}{t:Array db}{w:dq}{ds:List eb},
 codeOk fit n c=true->cr P an (n,N) c Q s->cQ P n ag aa β s t w->s8 N fr β s.heap->sG P n N fr k cs ag aa w β s.heap (lone (bD fr t ds (.code c::k)) cs w) ds Q
 | .skip,k,Q,s,ag,aa,β,t,w,ds,_,h,i,_=>.of h (.one aGR:oM P fr k cs _ t ds w .normal) i (dU.refl _ _ _ _ _ _)
 | .label l,k,Q,s,ag,aa,β,t,w,ds,_,h,i,_=>.of h (.one X8:oM P fr k cs _ t ds w .normal) i (dU.refl _ _ _ _ _ _)
 | .exit id,k,Q,s,ag,aa,β,t,w,ds,_,h,i,_=>.of h (⟨k,rfl,hw _ _⟩:oM P fr k cs _ t ds w (.exit id)) i (dU.refl _ _ _ _ _ _)
 | .ret,k,Q,s,ag,aa,β,t,w,ds,_,h,i,_=>.of h (⟨k,hw _ _⟩:oM P fr k cs _ t ds w .ret) i (dU.refl _ _ _ _ _ _)
 | .region id ops draw,k,Q,s,ag,aa,β,t,w,ds,r,h,i,_=>by
  simp only[codeOk,da,i7]at r;simp only[cr]at h;cases draw with
  |false=>
   simp only[c9,if_false]at h;obtain⟨s',aG,aM,ar,w',j,q,p,d⟩:=Ls (fr:=fr) (k:=k) (cs:=cs) (ds:=ds) (N:=N) J r.1 ops.toList 0 s_ h i;refine .of (e:=.normal) j ?_ p d;have e:j2 ops.size=h9 0 ops.toList.length:=by rw[List.range_eq_range'];simp
   exact(ht Xm).trans ((by rw[e];exact q:ei P _ _).trans (.one Kh))
  |true=>
   simp only[if_true]at h;have aX:cQ P n ag aa β s t {w with drawn:=w.drawn+1}:=cQ.draw (w:=w) (w':={w with drawn:=w.drawn+1}) rfl i;obtain⟨s',aG,aM,ar,w',j,q,p,d⟩:=H n N ops fr k cs ds (w.tape w.drawn (.order fr.fn id)) _ s ag aa β t _ (by simpa using r.2) r.1 h aX;exact .of (e:=.normal) j ((ht aGK).trans (q.trans (.one Kh)):oM P fr k cs _ ar ds w' .normal) p ⟨d.fg,d.b8,d.fresh,⟨d.ext.size,d.ext.same,d.ext.io⟩,d.step,d.ir,d.loop⟩
 | .seq a b,k,Q,s,ag,aa,β,t,w,ds,r,h,i,C=>by
  simp only[codeOk,da]at r;simp only[cr]at h;obtain⟨e,s1,o,B,z,t1,w1,D,j,q,p,d,A⟩:=n8 J H a (.code b::k) r.1 h i C;cases e with
  |normal=>exact .next d A ((ht Fo).trans q) (n8 J H b k r.2 j p (C.fI d))
  |exit id=>
   obtain⟨E,a1,a2⟩:=q;exact⟨.exit id,s1,o,B,z,t1,w1,D,j,⟨E,a1.trans (by simp[exitTo]),(ht Fo).trans a2⟩,p,d,A⟩
  |ret=>
   obtain⟨E,a2⟩:=q;exact⟨.ret,s1,o,B,z,t1,w1,D,j,⟨E,(ht Fo).trans a2⟩,p,d,A⟩
 | .cond c a b,k,Q,s,ag,aa,β,t,w,ds,r,h,i,C=>by
  simp only[codeOk,da]at r;simp only[cr]at h
  split at h
  ·rename_i au az;have aj:=(pP i c).1;rw[az]at aj;simp only[aC,aF]at aj;have aS:=aGI (P:=P) (fr:=fr) (ds:=ds) (k:=k) (cs:=cs) (w:=w) (x:=a) (y:=b) aj;cases au with
   |true=>exact .next (dU.refl N ag aa w β s.heap) (Marks.refl _ _ _ _ _ _) (.one (by simpa using aS)) (n8 J H a k r.1 (by simpa using h) i C)
   |false=>exact .next (dU.refl N ag aa w β s.heap) (Marks.refl _ _ _ _ _ _) (.one (by simpa using aS)) (n8 J H b k r.2 (by simpa using h) i C)
  ·exact h.elim
 | .block id b,k,Q,s,ag,aa,β,t,w,ds,r,h,i,C=>by
  simp only[codeOk]at r;simp only[cr]at h;obtain⟨e,s1,o,B,z,t1,w1,D,j,q,p,d,A⟩:=n8 J H b (.inBlock id::k) r h i C;cases e with
  |normal=>exact⟨.normal,s1,o,B,z,t1,w1,D,j,(ht AF).trans (q.trans (.one W1)),p,d,A⟩
  |exit ac=>
   obtain⟨E,a1,a2⟩:=q;dsimp only at j
   split at j
   ·rename_i hid;subst hid;refine⟨.normal,s1,o,B,z,t1,w1,D,j,(ht AF).trans (a2.trans (.one (aGL ?_))),p,d,A⟩;rw[a1];simp[exitTo]
   ·rename_i hid;exact⟨.exit ac,s1,o,B,z,t1,w1,D,j,⟨E,a1.trans (by simp[exitTo,kp hid]),(ht AF).trans a2⟩,p,d,A⟩
  |ret=>
   obtain⟨E,a2⟩:=q;exact⟨.ret,s1,o,B,z,t1,w1,D,j,⟨E,(ht AF).trans a2⟩,p,d,A⟩
 | .scope b,k,Q,s,ag,aa,β,t,w,ds,r,h,i,C=>by
  simp only[codeOk]at r;simp only[cr]at h;obtain⟨e,s1,o,B,z,t1,w1,D,j,q,p,d,A⟩:=n8 J H b (.inScope b::k) r h i C;cases e with
  |normal=>exact⟨.normal,s1,o,B,z,t1,w1,D,j,(ht Em).trans (q.trans (.one W0)),p,d,A⟩
  |exit ac=>
   obtain⟨E,a1,a2⟩:=q;exact⟨.exit ac,s1,o,B,z,t1,w1,D,j,⟨E,a1.trans (by simp[exitTo]),(ht Em).trans a2⟩,p,d,A⟩
  |ret=>
   obtain⟨E,a2⟩:=q;exact⟨.ret,s1,o,B,z,t1,w1,D,j,⟨E,(ht Em).trans a2⟩,p,d,A⟩
 | .loop b,k,Q,s,ag,aa,β,t,w,ds,r,h,i,C=>by
  simp only[codeOk]at r;simp only[cr]at h;obtain⟨I,⟨m0,t0,hf,hI⟩,a0⟩:=h
  have loop:∀(m:Nat)(u:St)(ag aa:Nat->Prop)(β:Bd)(t:Array db)(w:dq)(ds:List eb),I m u->cQ P n ag aa β u t w->s8 N fr β u.heap->
   sG P n N fr k cs ag aa w β u.heap (lone (bD fr t ds (.code b::.inLoop b::k)) cs w) ds Q:=by
   intro m
   induction m using Nat.strongRecOn with
   |_ m a5=>
    intro u ag aa β t w ds hI i C;obtain⟨e,s1,o,B,z,t1,w1,D,j,q,p,d,A⟩:=n8 J H b (.inLoop b::k) r (a0 m u hI) i C;cases e with
    |normal=>
     obtain⟨a6,u',aV,am,av⟩:=j;have ab:=am.fI (β:=z) (ag:=o) (aa:=B) (w:=w1);exact .next (d.trans ab) A (hv q (.one Xn)) (a5 a6 aV u' o B z t1 w1 D av (am.rel p) ((C.fI d).fI ab))
    |exit ac=>
     obtain⟨E,a1,a2⟩:=q;exact⟨.exit ac,s1,o,B,z,t1,w1,D,j,⟨E,a1.trans (by simp[exitTo]),a2⟩,p,d,A⟩
    |ret=>
     obtain⟨E,a2⟩:=q;exact⟨.ret,s1,o,B,z,t1,w1,D,j,⟨E,a2⟩,p,d,A⟩
  have ab:=hf.fI (β:=β) (ag:=ag) (aa:=aa) (w:=w);exact .next ab (Marks.refl _ _ _ _ _ _) (.one aGM) (loop m0 t0 ag aa β t w ds hI (hf.rel i) (C.fI ab))
 | .rangeFunc f F a b,k,Q,s,ag,aa,β,t,w,ds,r,h,i,C=>by
  simp only[cr]at h;obtain⟨bb,K,aP,h⟩:=h;have X:=pP i f
  obtain⟨g,T,S,G,cv,aR,aQ,aE,ap,ao,Z,v,aT,ad⟩:∃g T S,∃G cv:List db,gq t f= .func (.func g) G.toArray cv.toArray/\bK P w aa β s.heap T G/\bK P w aa β s.heap S cv/\aZ (aN s.heap) T/\aZ (aN s.heap) S/\
   ∃Z v,c8 P g (s.heap++[.loop ⟨.ready,none,n,F.toList,a,b,K⟩]) (T++[.map s.heap.length]++S) Z v/\iT s.heap.length s.env Q Z:=by
   unfold kg at h
   split at h
   ·rename_i g T S hf;rw[hf]at X;simp only[aC,aF]at X;obtain⟨⟨G,cv,j,q,p⟩,_⟩:=X;exact⟨g,_,_,G,cv,p,kG.2 j,kG.2 q,jM _ _,jM _ _,h⟩
   ·rename_i g T S hf;rw[hf]at X;simp only[aC,aH]at X;obtain⟨⟨G,cv,j,q,p⟩,d,A⟩:=X;exact⟨g,T,S,G,cv,p,j,q,d,A,h⟩
   ·exact h.elim
  obtain⟨l,mk,w1,o,z,e1,e2,e3,e4,e5,e6⟩:=WS (fr:=fr) i C F a b ds aP;obtain⟨aL,aI⟩:=aT;have aA:∀x,aN s.heap x->aN (s.heap++[.loop ⟨.ready,none,n,F.toList,a,b,K⟩]) x:=fun x hx=>L4 hx;have ai:∀k,aa k->w1.heap[k]?=w.heap[k]?:=fun k hk=>e4.ext.same k (.inr hk);have a3:aC P w1 aa z (s.heap++[.loop ⟨.ready,none,n,F.toList,a,b,K⟩]) (.map s.heap.length) (.func (.yield l) #[] #[]):=by
   simp only[aC,bX,cg];refine⟨by simp[hA],fun V=>?_,fun _=>by rw[e3]⟩;obtain⟨bd,ak,V⟩:=V;simp at ak;subst ak;cases V
  have a4:aH (aN (s.heap++[.loop ⟨.ready,none,n,F.toList,a,b,K⟩])) (.map s.heap.length):=by
   simp only[aH];exact⟨.loop ⟨.ready,none,n,F.toList,a,b,K⟩,s_,trivial⟩
  have ay:=so (so (bK.mono (fun _ x=>x) ai e6 _ _ ap aQ) (b:=[.map s.heap.length]) (y:=[.func (.yield l) #[] #[]]) (by simp only[bK];exact⟨_,_,rfl,a3,rfl⟩)) (bK.mono (fun _ x=>x) ai e6 _ _ ao aE);have ax:=nZ (nZ (aZ.mono aA _ ap) (b:=[.map s.heap.length]) (by simp only[aZ];exact⟨a4,trivial⟩)) (aZ.mono aA _ ao);have aU:(invoke (.fn (.func g) cv.toArray) (G.toArray++#[.func (.yield l) #[] #[]])).run P w1=.ok (.enter g (G++[(.func (.yield l) #[] #[]:db)]++cv).toArray) w1:=by
   have:=aL (G++[(.func (.yield l) #[] #[]:db)]++cv).toArray w1;simp only[invoke];rw[<-this];congr 2;simp
  have aY:(resolve (Act.eval ⟨t,ds⟩) (rangeCall f l) 0).run P w1=.ok (⟨.fn (.func g) cv.toArray,G.toArray++#[.func (.yield l) #[] #[]]⟩:eb) w1:=by
   have af:(Act.eval ⟨t,ds⟩) f=gq t f:=by cases f<;>rfl
   have aJ:(rangeCall f l).args.map (Act.eval ⟨t,ds⟩)=#[.func (.yield l) #[] #[]]:=by simp[Act.eval]
   simp only[resolve,aJ];simp only[af,aR,fv];rfl
  have aO:=stepR_rangeFunc (P:=P) (b:=fr) (a:=⟨t,ds⟩) (k:=k) (cs:=cs) (w:=w) (g:=f) (ps:=F) (assign:=a) (body:=b) e1 aY aU;obtain⟨e,w2,ba,⟨a9,W,R,af,g1,g2,g3⟩,aS,bc,aW⟩:=aI w1 aa o z _ e2 ay ax (fr.atR ⟨t,mk++ds⟩ (.inRangeFunc l::k)::cs);subst af;unfold iT at ad
  split at ad
  case h_2=>exact ad.elim
  rename_i L al;obtain⟨aD,Y⟩:=ad;obtain⟨rec,r1,a7,a8,be,bf,bg,bh,bi,aq⟩:=EC g1.rel al .exhausted L.pending;have aw:aN (s.heap++[.loop ⟨.ready,none,n,F.toList,a,b,K⟩]) (s.heap.length,0):=⟨.loop ⟨.ready,none,n,F.toList,a,b,K⟩,s_,trivial⟩
  have aB:W.aw s.heap.length=l:=((g1.step.loop _ aw ⟨_,al⟩).2).trans e3;rw[aB]at r1 aq;have aK:=run_endLoop (P:=P) r1 (by rw[a7];exact aD);have M:ei P (lone (bD fr t ds (.code (.rangeFunc f F a b)::k)) cs w) (lone (bD fr t (mk++ds) ((rec.pending.map Item.code).toList++k)) cs (w2.putObj l (.loop {rec with state:=.exhausted}))):=by
   refine(ht aO).trans (hv aS ?_);refine(ht (ee aW)).trans ?_;rw[finish_atR_inRangeFunc];exact .one (stepR_endRangeFunc aK)
  have M:ei P (lone (bD fr t ds (.code (.rangeFunc f F a b)::k)) cs w) (lone (bD fr t (mk++ds) ((L.pending.map Item.code).toList++k)) cs (w2.putObj l (.loop {rec with state:=.exhausted,pending:=L.pending}))):=by
   rw[<-a8];exact M
  have U:cd P o aa w1 z (s.heap++[.loop ⟨.ready,none,n,F.toList,a,b,K⟩]) R _ W _:=g1.trans aq;have ah:cQ P n o R W ⟨s.env,Z.set s.heap.length (.loop {L with st:=.exhausted})⟩ t (w2.putObj l (.loop {rec with state:=.exhausted,pending:=L.pending})):=by
   refine⟨U.rel,fun x=>?_,fun x=>?_,i.size⟩
   ·exact aC.mono U.b8 (fun k hk=>U.ext.same k (.inr hk)) U.step _ _ (aH.mono aA _ (i.iq x)) (aC.mono (fun _ x=>x) ai e6 _ _ (i.iq x) (i.env x))
   ·exact aH.mono U.ir _ (aH.mono aA _ (i.iq x))
  have ae:dU N ag aa w β s.heap o R (w2.putObj l (.loop {rec with state:=.exhausted,pending:=L.pending})) W (Z.set s.heap.length (.loop {L with st:=.exhausted})):=e4.trans U.fI;have V:Marks fr ag w o R (w2.putObj l (.loop {rec with state:=.exhausted,pending:=L.pending})) ds (mk++ds):=e5.trans e4 (Marks.refl _ _ _ _ _ _) U.fI;unfold kI at Y
  split at Y
  ·rename_i O;rw[O]at M;exact⟨.normal,_,o,R,W,t,_,mk++ds,Y,by rw[O];exact M,ah,ae,V⟩
  ·rename_i id O;rw[O]at M;exact⟨.exit id,_,o,R,W,t,_,mk++ds,Y,⟨k,rfl,by rw[O];exact M⟩,ah,ae,V⟩
  ·rename_i O;rw[O]at M;exact⟨.ret,_,o,R,W,t,_,mk++ds,Y,⟨k,by rw[O];exact M⟩,ah,ae,V⟩
  ·exact Y.elim
 | .goto _,_,_,_,_,_,_,_,_,_,_,h,_,_| .refuse _,_,_,_,_,_,_,_,_,_,_,h,_,_=>by simp[cr]at h
end
end Go.az
namespace Go.az
variable[Gl]
def jv(i:Nat):List AV->Env
 |[]=>[]
 |v::r=>(i,v)::jv (i+1) r
def re(P:dp)(s:St):ej->Option AV
 | .tmp t=>some (aP s.env t)
 | .cell a T=>match aP s.env a with
  | .ptr b path=>match s.heap[b]? with
   |some (.box _ t)=>match fq t path with
    |some v=>if kindOf P T=ad v then some v else none
    |none=>none
   |_=>none
  |_=>none
def gS(P:dp)(s:St):List ej->Option (List AV)
 |[]=>some []
 |r::rs=>match re P s r,gS P s rs with
  |some v,some vs=>some (v::vs)
  |_,_=>none
def oneOf:List AV->AV
 |[v]=>v
 |vs=>match eE vs with
  |some l=>.p (.aD l)
  |none=>.aD vs
def lh(f:AV->Option PV):List AV->Option (List PV)
 |[]=>some []
 |v::vs=>match f v,lh f vs with
  |some p,some a=>some (p::a)
  |_,_=>none
def fN(H:ah):Nat->AV->Option PV
 |0,.p v=>some v
 |0,_=>none
 |n+1,x=>match x with
  | .p v=>some v
  | .sl b aE al off len=>match H[b]? with
   |some (.arr k h d es)=>
    if aE=h/\al=d/\off+len<=es.length then
     if k.gr=true/\es=[]then some .aK else
     match lh (fN H n) ((es.drop off).take len)with
     |some g=>some (.cZ (k== .exact&&off+len==es.length) g)
     |none=>none
    else none
   |_=>none
  | .ptr b path=>match H[b]? with
   |some (.box _ t)=>match fq t path with
    |some s=>match fN H n s with
     |some p=>some (.cE p)
     |none=>none
    |none=>none
   |_=>none
  | .map b=>match H[b]? with
   |some (.map _ es)=>some (.eJ es)
   |_=>none
  | .func f e c=>match lh (fN H n) e,lh (fN H n) c with
   |some a,some b=>some (.func f a b)
   |_,_=>none
  | .st u fs=>match lh (fN H n) fs with
   |some l=>some (.st u l)
   |none=>none
  | .aD vs=>match lh (fN H n) vs with
   |some l=>some (.aD l)
   |none=>none
  | .cm _ _ _ _ _=>none
section
variable{P:dp}{w:dq}{aa ag:Nat->Prop}{β:Bd}{H:ah}
def FF(aa:Nat->Prop)(β:Bd)(H:ah)(k:Nat):Prop:=aa k\/∃(b:Nat)(o:Obj),H[b]?=some o/\o.live/\β.aw b=k
theorem Mi:∀{n:Nat}{v:AV}{p:PV},fN H n v=some p->(ad v=aL p)
 |0,v,p,h=>by
  cases v<;>simp[fN]at h;subst h;rfl
 |n+1,v,p,h=>by
  cases v<;>simp only[fN]at h
  case p v=>simp at h;subst h;rfl
  case cm=>simp at h
  case sl b aE al off len=>
   split at h
   ·split at h
    ·split at h
     ·simp at h;subst h;rfl
     ·split at h
      ·simp at h;subst h;rfl
      ·simp at h
    ·simp at h
   ·simp at h
  case ptr b path=>
   split at h
   ·split at h
    ·split at h
     ·simp at h;subst h;rfl
     ·simp at h
    ·simp at h
   ·simp at h
  all_goals
   split at h
   ·simp at h;subst h;rfl
   ·simp at h
theorem K3{v:AV}{p:PV}{cs:List db}(hs:ad v=aL p)(hc:bB P w aa β H v cs){I:Nat->Prop}(h:∀x,aC P w aa β H v x->aF P w I p x):aX P w I p cs:=by
 cases a:ad v with
 |bad=>exact((pE hc).2 a).elim
 |leaf=>
  obtain⟨c,rfl,b⟩:=(Ev a cs).1 hc;exact(u7 (hs▸a) _).2 ⟨c,rfl,h _ b⟩
 |agg u=>exact(xW (hs▸a) cs).2 (h _ ((Ox a cs).1 hc))
section lists
variable{f:AV->Option PV}{I:Nat->Prop}(hf:∀v p,f v=some p->ad v=aL p/\(aH (aN H) v->∀x,aC P w aa β H v x->aF P w I p x))
include hf
theorem Ar:∀{vs:List AV}{a:List PV},lh f vs=some a->aZ (aN H) vs->∀b,bK P w aa β H vs b->bO P w I a b
 |[],a,h,_,b,hx=>by
  simp[lh]at h;subst h;simpa[bK,bO]using hx
 |v::vs,a,h,c,b,hx=>by
  simp only[lh]at h
  split at h
  case h_2=>simp at h
  rename_i q g hq d;simp at h;subst h;simp only[aZ]at c;simp only[bK]at hx;obtain⟨y,e,rfl,k1,k2⟩:=hx;simp only[bO];exact⟨y,e,rfl,(hf _ _ hq).2 c.1 _ k1,Ar d c.2 _ k2⟩
theorem DK:∀{vs:List AV}{b:List PV},lh f vs=some b->aZ (aN H) vs->∀l a,bV P w aa β H l vs a->bn P w I l b a
 |[],b,h,_,l,a,hx=>by
  simp[lh]at h;subst h;cases l<;>simp_all [bV,bn]
 |v::vs,b,h,d,l,a,hx=>by
  simp only[lh]at h
  split at h
  case h_2=>simp at h
  rename_i q g hq e;simp at h;subst h;simp only[aZ]at d;cases l with
  |nil=>simp[bV]at hx
  |cons m l=>
   simp only[bV]at hx;obtain⟨c,cs,rfl,k1,k2,k3⟩:=hx;simp only[bn];exact⟨c,cs,rfl,K3 (hf _ _ hq).1 k1 ((hf _ _ hq).2 d.1),k2,DK e d.2 _ _ k3⟩
end lists
theorem Dz(e:cj P w aa β H ag):∀(n:Nat)(v:AV)(p:PV),fN H n v=some p->aH (aN H) v->∀x,aC P w aa β H v x->aF P w (FF aa β H) p x
 |0,v,p,h,_,x,hx=>by
  cases v<;>simp[fN]at h;subst h;simp only[aC]at hx;exact aF.mono (fun _=>.inl) (fun _ _=>rfl) _ _ hx
 |n+1,v,p,h,g,x,hx=>by
  have hf:∀v p,fN H n v=some p->ad v=aL p/\(aH (aN H) v->∀x,aC P w aa β H v x->aF P w (FF aa β H) p x):=fun v p h=>⟨Mi h,Dz e n v p h⟩
  cases v<;>simp only[fN]at h
  case p v=>
   simp at h;subst h;simp only[aC]at hx;exact aF.mono (fun _=>.inl) (fun _ _=>rfl) _ _ hx
  case cm=>simp at h
  case sl b aE al off len=>
   split at h
   case h_2=>simp at h
   rename_i k ab W r d
   split at h
   case isFalse=>simp at h
   rename_i J;obtain⟨rfl,rfl,y⟩:=J;simp only[aC]at hx;obtain⟨_,hx⟩:=hx;simp only[cg]at hx;obtain⟨v1,v2,v3⟩:=hx k r d
   split at h
   ·rename_i hn;simp at h;subst h;simp[aF,v2 hn]
   ·rename_i hn
    split at h
    case h_2=>simp at h
    rename_i U M;simp at h;subst h;rw[v3 hn];rcases e.du b _ d with hold|⟨cs,T,B,rest,i,j,A,E,X,F,Y,Z⟩
    ·exact(hn hold).elim
    obtain⟨a,m,c,e1,e2,e3,e4,e5⟩:=n6 j off len v1;have O:aZ (aN H) ((r.drop off).take len):=by
     have:=e.refs b _ d;rw[dP];intro v Q;exact dP.1 this v (i1 (i0 Q))
    have K:((r.drop off).take len).length=len:=by simp;omega
    have k1:=DK hf M O _ _ e2;have z:U.length=len:=by have:=(xb k1).2.1;simp at this;omega
    simp only[aF];refine⟨β.aw b,off*al,β.cap b-off,al,m,by rw[z,<-K];exact k1,fun _=>.inr ⟨b,_,d,hn,rfl⟩,?_,?_,?_,none,.inl rfl,?_⟩
    ·rw[<-e3];exact mZ i (post:=c.flatten++rest) (by rw[A,e1];simp)
    ·intro hf;simp at hf;rw[z,F hf.1];omega
    ·rw[z];omega
    ·rw[z]
  case ptr b path=>
   split at h
   case h_2=>simp at h
   rename_i fz t d
   split at h
   case h_2=>simp at h
   rename_i s hs
   split at h
   case h_2=>simp at h
   rename_i q hq;simp at h;subst h;simp only[aC]at hx;obtain⟨_,hx⟩:=hx;simp only[cg]at hx;obtain⟨V,S,o,rfl,L,hx⟩:=hx;obtain⟨rfl,rfl⟩:=hx ⟨_,d,rfl⟩;obtain⟨cs,T,i,j,A,E⟩:=e.du b _ d;obtain⟨pre,xs,post,e1,e2,e3,_⟩:=qV j hs L;have N:aH (aN H) s:=xC hs (e.refs b _ d);simp only[aF];refine⟨β.aw b,S,xs,K3 (Mi hq) e3 (Dz e n _ _ hq N),.inr ⟨b,_,d,trivial,rfl⟩,?_,rfl⟩;rw[<-e2];exact mZ i e1
  case map b=>
   split at h
   case h_2=>simp at h
   rename_i fz r d;simp at h;subst h;simp only[aC]at hx;obtain⟨_,hx⟩:=hx;simp only[cg]at hx;have hx:=hx.1 ⟨_,d,rfl⟩;obtain⟨C,clock,i,j,A⟩:=e.du b _ d;simp only[aF];exact⟨β.aw b,C,clock,.inr ⟨b,_,d,trivial,rfl⟩,i,cW.mono (fun _=>.inl) (fun _ _=>rfl) _ _ j,hx⟩
  case func f a b=>
   split at h
   case h_2=>simp at h
   rename_i a' b' G I;simp at h;subst h;simp only[aH]at g;simp only[aC]at hx;obtain⟨D,cv,k1,k2,k3⟩:=hx;simp only[aF];exact⟨D,cv,Ar hf G g.1 _ k1,Ar hf I g.2 _ k2,k3⟩
  case st u fs=>
   split at h
   case h_2=>simp at h
   rename_i l y;simp at h;subst h;simp only[aH]at g;simp only[aC]at hx;obtain⟨R,B,k1,k2,k3⟩:=hx;simp only[aF];exact⟨R,B,k1,DK hf y g _ _ k2,k3⟩
  case aD vs=>
   split at h
   case h_2=>simp at h
   rename_i l y;simp at h;subst h;simp only[aH]at g;simp only[aC]at hx;obtain⟨xs,k1,k2⟩:=hx;simp only[aF];exact⟨xs,Ar hf y g _ k1,k2⟩
end
section
variable{P:dp}{an:ea->Bool}{fit:Nat->Array Oper->Bool}
theorem DI:∀(args:List AV)(i x:Nat),aP (jv i args) x=if i<=x then(args[x-i]?).getD (.p .undef)else .p .undef
 |[],i,x=>by simp[jv,aP]
 |v::r,i,x=>by
  simp only[jv,aP,DI r]
  by_cases h:x=i
  ·subst h;simp
  ·by_cases b:i<=x
   ·have a:i+1<=x:=by omega
    simp only[h,b,a,if_true,if_false];rw[show x-i=(x-(i+1))+1 by omega,ix]
   ·have a:¬i+1<=x:=by omega
    simp[h,b,a]
theorem u9{w:dq}{aa:Nat->Prop}{β:Bd}{H:ah}:∀{vs:List AV}{xs:List db},bK P w aa β H vs xs->xs.length=vs.length/\∀i:Nat,aC P w aa β H ((vs[i]?).getD (.p .undef)) ((xs[i]?).getD undef)
 |[],xs,h=>by simp only[bK]at h;subst h;simp[aC,aF]
 |v::vs,xs,h=>by
  simp only[bK]at h;obtain⟨y,c,rfl,a,b⟩:=h;have:=u9 b;refine⟨by simp[this.1],fun i=>?_⟩;cases i with
  |zero=>simpa using a
  |succ i=>simpa using this.2 i
theorem Xl{ag aa:Nat->Prop}{β:Bd}{w:dq}{H:ah}{args:List AV}{a:List db}{n:Nat}(f:cj P w aa β H ag)(d:bK P w aa β H args a)(g:aZ (aN H) args)(hn:args.length<=n):
 cQ P n ag aa β ⟨jv 0 args,H⟩ (a.toArray++bo (n-a.length) undef) w:=by
 obtain⟨b,c⟩:=u9 d;refine⟨f,fun x=>?_,fun x=>?_,by simp[b];omega⟩
 ·have e:(a.toArray++bo (n-a.length) undef).getD x undef=(a[x]?).getD undef:=by
   rw[bv,<-bw];simp only[Array.toList_append,Array.toList_replicate]
   by_cases hx:x<a.length
   ·rw[hW (by simpa using hx)]
   ·rw[h2 (by simpa using hx)];simp only[hS];rw[List.getElem?_eq_none (by simpa using hx)]
    split<;>rfl
  rw[e,DI];simpa using c x
 ·rw[DI];simp only[Nat.zero_le,if_true,Nat.sub_zero];cases h:args[x]? with
  |none=>simp[aH]
  |some v=>exact dP.1 g v (hU h)
theorem Kr{w:dq}{aa:Nat->Prop}{β:Bd}{H:ah}{T:dl}{v:AV}{aw off:Nat}{a:List db}(hk:kindOf P T=ad v)(f:bB P w aa β H v a)(hc:iB w aw off a):
 ∃cv,(loadVar T ⟨aw,off,none⟩).run P w=.ok cv w/\aC P w aa β H v cv:=by
 obtain⟨n,m⟩:=pE f;have l:∀j,(⟨aw,off,none⟩:Addr).add j=⟨aw,off+j,none⟩:=by intro j;unfold Addr.add;split<;>simp_all
 unfold kindOf at hk;cases hs:ad v with
 |bad=>exact(m hs).elim
 |leaf=>
  rw[hs]at hk;obtain⟨c,rfl,e⟩:=(Ev hs a).1 f;refine⟨c,?_,e⟩;have g:=hc 0 s_;simp only[j7,List.getElem_cons_zero]at g;have b:(isAgg T).run P w=.ok false w:=by
   cases hu:P.underlying T with
   |none=>simp[hu]at hk
   |some d=>
    cases d<;>simp only[hu]at hk<;>first
     |(simp[isAgg,dg hu];done)
     |(split at hk<;>simp at hk)
  simp[loadVar,b,g]
 |agg u=>
  rw[hs]at hk;have e:=(Ox hs a).1 f;refine⟨.agg a.toArray,?_,e⟩;have b:(isAgg T).run P w=.ok true w/\P.cellsOf T=a.length:=by
   rw[n,hs];cases hu:P.underlying T with
   |none=>simp[hu]at hk
   |some d=>
    cases d<;>simp only[hu]at hk<;>first
     |(split at hk
       ·rename_i hc;simp at hk;subst hk;simp at hc;refine⟨by simp[isAgg,dg hu],hc.2⟩
       ·simp at hk)
     |(split at hk<;>simp at hk)
  obtain⟨i,hi⟩:∃i,P.info? T=some i:=by
   cases hi:P.info? T with
   |none=>
    have k:=b.1;simp[isAgg,underlying,hb,hi]at k
   |some i=>exact⟨i,rfl⟩
  have p:(sizeOf T).run P w=.ok a.length w:=by
   rw[<-b.2];simp[sizeOf,typeInfo,hi,ha]
  have o:=run_loadCells_list (P:=P) w ⟨aw,off,none⟩ a (fun j x hx=>by
   rw[l];have h:j<a.length:=(hK.1 hx).1;rw[hc j h];rw[hQ h]at hx;exact hx)
  simp[loadVar,b.1,p,o]
theorem W7{n:Nat}{ag aa:Nat->Prop}{β:Bd}{s:St}{t:Array db}{w:dq}(h:cQ P n ag aa β s t w){f:ej}{v:AV}(c:re P s f=some v):
 ∃cv,(match f with
  | .tmp x=>(pure (t.getD x undef):Sem db)
  | .cell a T=>do loadVar T (<-asAddr (t.getD a undef))).run P w=.ok cv w/\aC P w aa β s.heap v cv/\aH (aN s.heap) v:=by
 cases f with
 |tmp x=>
  simp[re]at c;subst c;exact⟨_,rfl,h.env x,h.iq x⟩
 |cell a T=>
  simp only[re]at c;have d:=h.env a
  split at c
  case h_2=>simp at c
  rename_i b z j;rw[j]at d
  split at c
  case h_2=>simp at c
  rename_i fz A e
  split at c
  case h_2=>simp at c
  rename_i v' hs
  split at c
  case isFalse=>simp at c
  rename_i hc;simp at c;subst c;simp only[aC]at d;obtain⟨_,d⟩:=d;simp only[cg]at d;obtain⟨r,p,o,m,l,d⟩:=d;obtain⟨rfl,rfl⟩:=d ⟨_,e,rfl⟩;obtain⟨cs,q,g,i,u,y⟩:=h.heap.du b _ e;obtain⟨pre,xs,post,e1,e2,e3,_⟩:=qV i hs l;have k:iB w (β.aw b) p xs:=by rw[<-e2];exact mZ g e1
  obtain⟨cv,k1,k2⟩:=Kr hc e3 k;refine⟨cv,?_,k2,xC hs (h.heap.refs b _ e)⟩;simp only[m,asAddr];simp[k1]
theorem Ku{n:Nat}{ag aa:Nat->Prop}{β:Bd}{s:St}{t:Array db}{w:dq}(h:cQ P n ag aa β s t w):∀{d:List ej}{vs:List AV},gS P s d=some vs->
 ∃c:List db,(d.mapM (fun g:ej=>match g with
  | .tmp x=>(pure (t.getD x undef):Sem db)
  | .cell a T=>do loadVar T (<-asAddr (t.getD a undef)))).run P w=.ok c w/\bK P w aa β s.heap vs c/\aZ (aN s.heap) vs
 |[],vs,b=>by
  simp[gS]at b;subst b;exact⟨[],s_,by simp[bK],by simp[aZ]⟩
 |r::d,vs,b=>by
  simp only[gS]at b
  split at b
  case h_2=>simp at b
  rename_i v i e f;simp at b;subst b;obtain⟨cv,k1,k2,k3⟩:=W7 h e;obtain⟨c,g1,g2,g3⟩:=Ku h f;refine⟨cv::c,?_,by simp only[bK];exact⟨cv,c,rfl,k2,g2⟩,by simp only[aZ];exact⟨k3,g3⟩⟩;simp only[jp,hm,k1,hl,g1];rfl
theorem Lu{w:dq}{aa:Nat->Prop}{β:Bd}{H:ah}{vs:List AV}{a:List db}(h:bK P w aa β H vs a)(d:aZ (aN H) vs):
 aC P w aa β H (oneOf vs) (if h:a.toArray.size=1 then a.toArray[0]else .tuple a.toArray)/\aH (aN H) (oneOf vs):=by
 have b:=(u9 h).1
 match vs,a,h with
 |[v],[c],h=>
  simp only[bK]at h;obtain⟨y,j,g,e,i⟩:=h;cases g;simp only[aZ]at d;exact⟨by simpa[oneOf]using e,by simpa[oneOf]using d.1⟩
 |[],[],h=>exact⟨by simp[oneOf,eE,aC,aF,bO],by simp[oneOf,eE,aH]⟩
 |v1::v2::vs,c1::c2::a,h=>
  have hs:¬(c1::c2::a).toArray.size=1:=s_
  rw[dif_neg hs];simp only[oneOf];cases f:eE (v1::v2::vs)with
  |none=>exact⟨by simp only[aC];exact⟨_,h,rfl⟩,by simpa only[aH]using d⟩
  |some l=>
   have:=nq f;rw[this]at h;exact⟨by simp only[aC,aF];exact⟨_,kG.1 h,rfl⟩,by simp[aH]⟩
 |[],_::_,_=>simp at b
 |[_],[],_=>simp at b
 |[_],_::_::_,_=>simp at b
 |_::_::_,[],_=>simp at b
 |_::_::_,[_],_=>simp at b
theorem takes{fr:ec}{cs:List ec}(b:fr.mode= .returning):∀(a:List Nat)(w:dq),a.Nodup->(∀r∈a,w.heap[r]?=some (.deferred (some [])))->
 ∃w',ei P (lone {fr with defers:=a.map mark} cs w) (lone {fr with defers:=[]} cs w')/\w'.heap.size=w.heap.size/\(∀k,k∉a->w'.heap[k]?=w.heap[k]?)/\(w'.os=w.os/\w'.output=w.output)
 |[],w,_,_=>⟨w,hw _ _,rfl,fun _ _=>rfl,rfl,rfl⟩
 |r::a,w,hn,h=>by
  rw[List.nodup_cons]at hn;have c:=h r s_;have hk:=run_takeDeferred (P:=P) c;have l:=(bl.1 c).1;obtain⟨w',f,g,i,j⟩:=takes b a (w.putObj r (.deferred none)) hn.2 (fun x hx=>(hD (fun(e:x=r)=>hn.1 (e▸hx))).trans (h x (by simp[hx])));refine⟨w',(ht (step_collected (fr:={fr with defers:=(r::a).map mark}) (d:=mark r) (ds:=a.map mark) (by simp[b]) rfl rfl hk)).trans f,by simpa using g,fun k hk=>?_,j⟩;simp only[List.mem_cons,not_or]at hk;exact(i k hk.2).trans (hD hk.1)
theorem KH{N:Nat}{f:ea}{fn:Func}{c:Code}(z:mW P an)(y:uW P an fit)(hf:P.funcs[f]?=some fn)(F:fn.body=some c)(L:codeOk fit fn.ntmps c=true)
 {args:List AV}{H:ah}{R:List AV->St->Prop}(hn:args.length<=fn.ntmps)
 (S:cr P an (fn.ntmps,N) c (fun e s=>(match e with
  | .exit _=>False
  |_=>True)/\∃vs,gS P s fn.results.toList=some vs/\R vs s) ⟨jv 0 args,H⟩)
 {w:dq}{aa ag:Nat->Prop}{β:Bd}{d:List db}(i:cj P w aa β H ag)(q:bK P w aa β H args d)(M:aZ (aN H) args):
 ey P f d.toArray w fun e w'=>∃vs s a aG aM t,e=.returned (if h:a.toArray.size=1 then a.toArray[0]else .tuple a.toArray)/\R vs s/\cQ P fn.ntmps ag aG aM s t w'/\dU N ag aa w β H ag aG w' aM s.heap/\
  bK P w' aG aM s.heap vs a/\aZ (aN s.heap) vs:=by
 intro cs;have W:=(u9 q).1;obtain⟨g,j⟩:∃g:ec,g={fn:=f,tmps:=#[],todo:=[],defers:=[],mode:=.run,kind:=.normal}:=⟨_,rfl⟩
 have G:gc P f d.toArray .normal=bD g (d.toArray++bo (fn.ntmps-d.length) undef) [] [.code c]:=by
  subst j;simp[gc,bD,hf,F]
 obtain⟨e,s,U,aG,aM,t,w1,V,⟨A,vs,B,C⟩,o,m,b,D⟩:=n8 (fr:=g) (cs:=cs) (ds:=[]) z y c [] L S (Xl i q M hn) (fun l I=>by subst j;cases I);obtain⟨rs,u,K,n,X,_⟩:=D;rw[jh]at u;subst u;rw[G]
 have p:∀todo,ei P (lone (bD g (d.toArray++bo (fn.ntmps-d.length) undef) [] [.code c]) cs w) (lone {bD g t (rs.map mark) todo with mode:= .returning} cs w1)->
  ∃e w' fr,(∃vs s a aG aM t,e=.returned (if h:a.toArray.size=1 then a.toArray[0]else .tuple a.toArray)/\R vs s/\cQ P fn.ntmps ag aG aM s t w'/\dU N ag aa w β H ag aG w' aM s.heap/\
   bK P w' aG aM s.heap vs a/\aZ (aN s.heap) vs)/\Comes P (lone (bD g (d.toArray++bo (fn.ntmps-d.length) undef) [] [.code c]) cs w) (lone fr cs w') e/\fr.fn=f/\fr.leaving P w' e:=by
  intro todo aS;obtain⟨w',t1,t2,t3,t4⟩:=takes (P:=P) (fr:={bD g t (rs.map mark) todo with mode:=.returning}) (cs:=cs) rfl rs w1 K (fun r i=>(n r i).2.2.2);have Q:∀k,aG k->w'.heap[k]?=w1.heap[k]?:=fun k hk=>t3 k (fun i=>(n k i).2.2.1 hk);have v:cQ P fn.ntmps ag aG aM s t w':=⟨m.heap.shut b.fg (R:=fun k=>k∈rs) (fun x hx=>⟨(n x hx).2.1,(n x hx).2.2.1⟩) t2 t3,fun x=>aC.mono (fun _ x=>x) Q (cK.refl _ _) _ _ (m.iq x) (m.env x),m.iq,m.size⟩
  have E:dU N ag aa w β H ag aG w' aM s.heap:=⟨fun _ x=>x,b.b8,b.fresh,⟨by rw[t2];exact b.ext.size,fun k hk=>(t3 k (fun J=>by
   have:=(n k J).1;have:=hk.elim (i.fg k) (i.b8 k);omega)).trans (b.ext.same k hk),t4.1.trans b.ext.io.1,t4.2.trans b.ext.io.2⟩,b.step,b.ir,b.loop⟩
  obtain⟨a,g1,g2,g3⟩:=Ku v B;have O:(results fn t).run P w'=.ok (if h:a.toArray.size=1 then a.toArray[0]else .tuple a.toArray) w':=by
   simp only[results];rw[b4];rw[hm,hr]
   erw [g1]
   rfl
  refine⟨_,w',{bD g t [] todo with mode:=.returning},⟨vs,s,a,aG,aM,t,rfl,C,v,E,g2,g3⟩,hv aS t1,by subst j;rfl,?_⟩;subst j;exact⟨rfl,rfl,rfl,fn,hf,O⟩
 cases e with
 |exit id=>exact A.elim
 |normal=>
  exact p [] (hv o (.one (dz (by subst j;simp[stepG,hG,bD]))))
 |ret=>
  obtain⟨T,o⟩:=o;exact p (.code .ret::T) (hv o (.one (dz (by subst j;simp[stepG,hG,bD]))))
theorem MN{f:ea}{fn:Func}{c:Code}(m:mW P an)(l:uW P an fit)(z:Enters P f)(hf:P.funcs[f]?=some fn)(y:fn.body=some c)(C:codeOk fit fn.ntmps c=true)
 {args:List PV}{v:PV}(hn:args.length<=fn.ntmps)
 (G:cr P an (fn.ntmps,0) c (fun e s=>(match e with
  | .exit _=>False
  |_=>True)/\∃vs,gS P s fn.results.toList=some vs/\fN s.heap 9 (oneOf vs)=some v) ⟨jv 0 (args.map .p),[]⟩):tC P f args v:=by
 refine⟨z,fun w aa H B A x=>?_⟩;have D:cj P w aa ⟨id,id⟩ [] (fun k=>k<w.heap.size):=⟨s_,s_,s_,B,fun _ h=>h,A⟩
 refine(KH m l hf y C (R:=fun vs s=>fN s.heap 9 (oneOf vs)=some v) (by simpa using hn) G D (kG.2 x) (jM _ _)).mono ?_;rintro e w' ⟨vs,s,I,aG,aM,t,rfl,u,hs,a,E,F⟩;obtain⟨n,q⟩:=Lu E F;have r:=Dz hs.heap _ _ _ u q _ n;refine⟨_,FF aG aM s.heap,rfl,fun k hk=>.inl (a.b8 k hk),?_,?_,a.ext.size,fun k hk=>a.ext.same k (.inl hk),a.ext.io,r⟩
 ·rintro k (hk|⟨b,o,i,g,rfl⟩)
  ·rcases a.fresh k hk with h|h
   ·exact .inl h
   ·exact .inr o_
  ·by_cases j:aM.aw b<w.heap.size
   ·
    left;have:aG (aM.aw b)\/¬(aM.aw b<w.heap.size):=by
     obtain⟨fz,h,_⟩:=(hs.heap.du b o i).Gd g;cases fz with
     |true=>exact .inl h
     |false=>exact .inr h.2
    rcases this with h|h
    ·rcases a.fresh _ h with d|d
     ·exact d
     ·exact(d j).elim
    ·exact(h j).elim
   ·exact .inr o_
 ·rintro k (hk|⟨b,o,i,g,rfl⟩)
  ·exact hs.heap.b8 k hk
  ·exact hs.heap.pO i g
def vL(P:dp)(a:List ej)(N:Nat)(H':ah)(v:AV)(e:bE)(s:St):Prop:=
 (match e with
  | .exit _=>False
  |_=>True)/\∃vs,gS P s a=some vs/\oneOf vs=v/\(H'=s.heap\/(df N s ⟨[],H'⟩/\aH (aN H') v))
theorem YF{f:ea}{fn:Func}{c:Code}(q:mW P an)(p:uW P an fit)(u:Enters P f)(hf:P.funcs[f]?=some fn)(j:fn.body=some c)(z:codeOk fit fn.ntmps c=true)
 {args:List AV}{H H':ah}{v:AV}(hn:args.length<=fn.ntmps)(F:cr P an (fn.ntmps,H.length) c (vL P fn.results.toList H.length H' v) ⟨jv 0 args,H⟩):c8 P f H args H' v:=by
 refine⟨u,fun w aa ag β G A r B=>?_⟩;refine(KH q p hf j z (R:=fun vs s=>oneOf vs=v/\(H'=s.heap\/(df H.length s ⟨[],H'⟩/\aH (aN H') v))) hn F A r B).mono ?_;rintro e w' ⟨vs,s,g,aG,aM,t,rfl,⟨rfl,a⟩,hs,m,E,D⟩;obtain⟨i,k⟩:=Lu E D;obtain⟨d,k1,k2,k3⟩:dU H.length ag aa w β H ag aG w' aM H'/\cj P w' aG aM H' ag/\aC P w' aG aM H' (oneOf vs) (if h:g.toArray.size=1 then g.toArray[0]else .tuple g.toArray)/\aH (aN H') (oneOf vs):=by
  rcases a with rfl|⟨a,C⟩
  ·exact⟨m,hs.heap,i,k⟩
  ·refine⟨m.trans (a.fI (β:=aM) (ag:=ag) (aa:=aG) (w:=w')),(a.rel hs).heap,?_,C⟩;rcases a with a|a
   ·have e:H'=s.heap:=by rw[<-a]
    rw[e];exact i
   ·exact aC.mono (fun _ x=>x) (fun _ _=>rfl) a.1.step _ _ k i
 refine⟨_,aM,aG,rfl,⟨d.b8,d.fresh,d.ext,d.step.full,k1,fun x hx=>?_,fun b j=>?_⟩,k2,k3⟩
 ·obtain⟨o,n,y⟩:=hx;exact d.ir x (hK.1 n).1 ⟨o,n,y⟩
 ·obtain⟨L,l⟩:=j;exact d.loop b (hK.1 l).1 ⟨L,l⟩
theorem cQ.post{n:Nat}{ag aa aG:Nat->Prop}{β aM:Bd}{s:St}{H':ah}{t:Array db}{w w':dq}(h:cQ P n ag aa β s t w)(a:cd P ag aa w β s.heap aG w' aM H'):cQ P n ag aG aM ⟨s.env,H'⟩ t w':=
 ⟨a.rel,fun x=>aC.mono a.b8 (fun k hk=>a.ext.same k (.inr hk)) a.step _ _ (h.iq x) (h.env x),fun x=>aH.mono a.ir _ (h.iq x),h.size⟩
def sW:List Tmp->List AV->Env->Env
 |t::ts,v::vs,e=>sW ts vs ((t,v)::e)
 |_,_,e=>e
def iE:bE->Option Code
 | .normal=>none
 | .exit id=>some (.exit id)
 | .ret=>some .ret
def uY(b:Nat)(K:ah->AV->Prop)(e:bE)(s:St):Prop:=
 match s.heap[b]? with
 |some (.loop L)=>K (s.heap.set b (.loop {L with st:=if(iE e).isNone then .ready else .done,pending:=iE e})) (.p (.bool (iE e).isNone))
 |_=>False
def Ab(P:dp)(an:ea->Bool)(q:Cx)(b:Nat)(body:Code)(K:ah->AV->Prop)(e:bE)(s:St):Prop:=
 match e,s.heap[b]? with
 | .normal,some (.loop L)=>L.st=.ready/\cr P an q body (uY b K) ⟨s.env,s.heap.set b (.loop {L with st:=.busy})⟩
 |_,_=>False
def AZ(P:dp)(an:ea->Bool)(L:eA)(b:Nat)(args:List AV)(H:ah)(K:ah->AV->Prop):Prop:=
 cr P an (L.n,H.length) L.assign (Ab P an (L.n,H.length) b L.body K) ⟨sW L.params args L.env,H⟩
def sN(ts:List Tmp)(a:List db)(t:Array db):Array db:=(ts.zip a).foldl (fun t(p,v)=>t.setIfInBounds p v) t
theorem Lb{w:dq}{aa:Nat->Prop}{β:Bd}{H:ah}:∀{ts:List Tmp}{vs:List AV}{xs:List db}{e:Env}{t:Array db},(∀x∈ts,x<t.size)->bK P w aa β H vs xs->aZ (aN H) vs->(∀x,aC P w aa β H (aP e x) (t.getD x undef))->(∀x,aH (aN H) (aP e x))->
 (sN ts xs t).size=t.size/\(∀x,aC P w aa β H (aP (sW ts vs e) x) ((sN ts xs t).getD x undef))/\(∀x,aH (aN H) (aP (sW ts vs e) x))
 |[],vs,xs,e,t,_,a,_,b,c=>by
  cases vs<;>exact⟨rfl,b,c⟩
 |p::ts,[],xs,e,t,_,a,_,b,c=>by
  simp only[bK]at a;subst a;exact⟨rfl,b,c⟩
 |p::ts,v::vs,xs,e,t,f,a,d,b,c=>by
  simp only[bK]at a;obtain⟨y,h,rfl,k1,k2⟩:=a;simp only[aZ]at d;have g:p<t.size:=f p s_;obtain⟨g1,g2,g3⟩:=Lb (ts:=ts) (vs:=vs) (xs:=h) (e:=(p,v)::e) (t:=t.setIfInBounds p y) (fun x hx=>by simpa using f x (by simp[hx])) k2 d.2
   (fun x=>by
    simp only[aP]
    by_cases hx:x=p
    ·subst hx;simp[g];exact k1
    ·simp only[hx,if_false,bv,b2 (kp hx)];simpa using b x)
   (fun x=>by
    simp only[aP]
    split
    ·exact d.1
    ·exact c x)
  exact⟨by simpa[sN]using g1,g2,g3⟩
theorem zip_toArray(a:List Tmp)(b:List db)(t:Array db):(a.toArray.zip b.toArray).foldl (fun t(p,v)=>t.setIfInBounds p v) t=sN a b t:=by
 unfold sN;rw[<-cc];simp
theorem YD(G:mW P an)(F:uW P an fit){b:Nat}{L:eA}{H H':ah}{args:List AV}{v:AV}(f:H[b]?=some (.loop L))(ax:args.length=L.params.length)(ay:∀x∈L.params,x<L.n)
 (ao:codeOk fit L.n L.assign=true)(hc:codeOk fit L.n L.body=true)(aE:AZ P an L b args H (fun ad aM=>aM=v/\df H.length ⟨[],ad⟩ ⟨[],H'⟩)):fQ P b H args H' v:=by
 refine⟨⟨L,f⟩,fun w aa ag β i B V aq=>?_⟩;obtain⟨tmps,defers,fn,al,K,am,aR⟩:=B.du b _ f;have s:b<H.length:=(hK.1 f).1;have au:=(u9 V).1;have j:=run_yield (P:=P) (args:=i.toArray) al (by simp[au,ax]);obtain⟨q1,aI,aJ⟩:=Lb (ts:=L.params) (vs:=args) (xs:=i) (e:=L.env) (t:=tmps) (fun x hx=>by rw[K];exact ay x hx) V aq am (B.refs b _ f);rw[zip_toArray]at j;refine⟨fn,_,_,_,j,fun J ac=>?_⟩;obtain⟨c,z⟩:∃c:ec,c={fn:=fn,tmps:=#[],todo:=[],defers:=[],mode:=.run,kind:=.normal,roundOf:=some (β.aw b)}:=⟨_,rfl⟩
 have g:c.roundOf=some (β.aw b):=by subst z;rfl
 have A:c.kind=.normal:=by subst z;rfl
 have av:gb (β.aw b) fn (sN L.params i tmps) L.assign L.body .normal=bD c (sN L.params i tmps) [] [.code L.assign,.beginRound,.code L.body]:=by subst z;rfl
 have U:s8 H.length c β H:=fun l Y=>by
  rw[g]at Y;cases Y;exact⟨b,s,⟨L,f⟩,rfl⟩
 obtain⟨e1,s1,aQ,aO,aN,t1,w1,aj,g1,g2,g3,g4,g5⟩:=n8 (N:=H.length) (fr:=c) (cs:=J::ac) (ds:=[]) G F L.assign [.beginRound,.code L.body] ao aE ⟨B,aI,aJ,q1.trans K⟩ U;unfold Ab at g1
 split at g1
 case h_2=>exact g1.elim
 rename_i q O;obtain⟨g1,g6⟩:=g1;obtain⟨a7,m1,_,_,m4,m5⟩:=g5;have aB:=m5 (by rw[g];rfl);subst aB;obtain rfl:aj=[]:=m1;have af:aN.aw b=β.aw b:=(g4.step.loop b s ⟨_,f,trivial⟩ ⟨q,O⟩).2;obtain⟨rec,r1,aK,aL,a0,a3,a4,a5,a6,D⟩:=EC g3.heap O .busy q.pending;rw[af]at r1 D;have W:=run_beginRound (P:=P) r1 (aK.trans g1);have ar:({rec with state:=.busy}:Loop)={rec with state:=.busy,pending:=q.pending}:=by rw[<-aL]
 rw[ar]at W;have S:=g4.trans (D.fI (N:=H.length));obtain⟨e2,s2,r,p,m,t2,w2,ak,k1,k2,k3,k4,k5⟩:=n8 (N:=H.length) (fr:=c) (cs:=J::ac) (ds:=[]) G F L.body [] hc g6 (g3.post D) (U.fI S);unfold uY at k1
 split at k1
 case h_2=>exact k1.elim
 rename_i I Q;obtain⟨rfl,X⟩:=k1;obtain⟨a8,n1,_,_,n4,n5⟩:=k5;have aD:=n5 (by rw[g];rfl);subst aD;obtain rfl:ak=[]:=n1;have aS:∀k,r k->ag k:=fun k hk=>(m4 k ((n4 k hk).resolve_right s_)).resolve_right s_;have T:=S.trans k4;have ai:m.aw b=β.aw b:=(T.step.loop b s ⟨_,f,trivial⟩ ⟨I,Q⟩).2;obtain⟨E,ab,aT,aU,aV,aW,aX,aY,aZ,C⟩:=EC k3.heap Q (if(iE e2).isNone then .ready else .done) (iE e2);rw[ai]at ab C;have u:=run_endRound (P:=P) (iE e2) ab;have ap:=T.trans (C.fI (N:=H.length));have d:=ap.trans (X.fI (β:=m) (ag:=r) (aa:=p) (w:=w2.putObj (β.aw b) (.loop {E with state:=if(iE e2).isNone then .ready else .done,pending:=iE e2})));refine⟨.bool (iE e2).isNone,w2.putObj (β.aw b) (.loop {E with state:=if(iE e2).isNone then .ready else .done,pending:=iE e2}),m,p,?_,?_,by simp[aC,aF],by simp[aH]⟩
 ·rw[av];refine hv (g2:ei P _ _) ((ht (stepR_beginRound (b:=c) (a:=⟨t1,[]⟩) g W)).trans ?_);cases e2 with
  |normal=>exact hv (k2:ei P _ _) (.one (stepR_round_end (b:=c) (a:=⟨t2,[]⟩) g A u))
  |exit id=>
   obtain⟨aG,a1,a2⟩:=k2;exact hv a2 (.one (stepR_round_exit (b:=c) (a:=⟨t2,[]⟩) g A (by rw[a1];rfl) u))
  |ret=>
   obtain⟨aG,a2⟩:=k2;exact hv a2 (.one (stepR_round_ret (b:=c) (a:=⟨t2,[]⟩) g A u))
 ·have az:cQ P 0 r p m ⟨[],s2.heap.set b (.loop {I with st:=if(iE e2).isNone then .ready else .done,pending:=iE e2})⟩ #[] (w2.putObj (β.aw b) (.loop {E with state:=if(iE e2).isNone then .ready else .done,pending:=iE e2})):=
   ⟨C.rel,fun x=>by simp[aP,aC,aF],fun x=>by simp[aP,aH],rfl⟩
  have aA:=(X.rel az).heap;refine⟨d.b8,d.fresh,d.ext,d.step.full,aA.shut d.fg (R:=fun _=>False) (fun _ h=>h.elim) rfl (fun _ _=>rfl),fun x hx=>?_,fun y j=>?_⟩
  ·obtain⟨o,Z,aw⟩:=hx;exact d.ir x (hK.1 Z).1 ⟨o,Z,aw⟩
  ·obtain⟨ae,M⟩:=j;exact d.loop y (hK.1 M).1 ⟨ae,M⟩
end
section
variable{P:dp}
theorem Ny{w:dq}{aa:Nat->Prop}{b:Bool}{v:db}:aF P w aa (.bool b) v↔v=.bool b:=by simp[aF]
theorem Fg{w:dq}{aa:Nat->Prop}{k:em}{n:Int}{v:db}:aF P w aa (.int k n) v↔v=.int k n:=by simp[aF]
theorem Ou{w:dq}{aa:Nat->Prop}{s:List Nat}{v:db}:aF P w aa (.str s) v↔∃bs:ByteArray,v=.string bs/\s=bs.data.toList.map (·.toNat):=by simp[aF]
theorem fP{s:Sem db}{w:dq}{cv:db}(h:s.run P w=.ok cv w):(do pure (Next.value (<-s)):Sem Next).run P w=.ok (.value cv) w:=by simp[h]
theorem xa{s:Sem db}{w w':dq}{cv:db}(h:s.run P w=.ok cv w'):(do pure (Next.value (<-s)):Sem Next).run P w=.ok (.value cv) w':=by simp[h]
theorem zQ{T:dl}{v:AV}{w:dq}{aa:Nat->Prop}{β:Bd}{H:ah}{cs:List db}(hk:kindOf P T=ad v)(d:bB P w aa β H v cs):P.cellsOf T=cs.length/\∃i,P.info? T=some i/\i.size=cs.length:=by
 obtain⟨c,a⟩:=pE d;have b:P.cellsOf T=cs.length:=by
  rw[c,<-hk];unfold kindOf at hk⊢
  split at hk
  ·split at hk<;>rename_i hc
   ·simp at hc;rw[if_pos (by simpa using hc)];simp[bP,hc.2]
   ·exact(a hk.symm).elim
  ·split at hk<;>rename_i hc
   ·simp at hc;rw[if_pos (by simpa using hc)];simp[bP,hc]
   ·exact(a hk.symm).elim
  ·split at hk<;>rename_i hc
   ·simp at hc;rw[if_pos (by simpa using hc)];simp[bP,hc]
   ·exact(a hk.symm).elim
  ·exact(a hk.symm).elim
 refine⟨b,?_⟩;cases hi:P.info? T with
 |none=>
  have:kindOf P T=.bad:=by simp[kindOf,hb,hi]
  rw[this]at hk;exact(a hk.symm).elim
 |some i=>exact⟨i,rfl,by simpa[ha,hi]using b⟩
variable{o:Oper}{ρ:dx->AV}{base:Nat}
theorem R7{x:dx}(a:o.op=.move x\/o.op=.assign x):bF P o ρ base {v:=ρ x}:=by
 refine bF.same fun H w aa ag β c d b _=>?_;refine⟨c x,?_,b x ?_⟩
 ·rcases a with a|a<;>simp[dy,a]
 ·rcases a with a|a<;>simp[a,g0]
theorem aAS{c a b:dx}{t:Bool}(d:o.op=.pick c a b)(hc:ρ c=.p (.bool t)):bF P o ρ base {v:=if t then ρ a else ρ b}:=by
 refine bF.same fun H w aa ag β g h f _=>?_;have e:=(f c (by simp[d,g0])).1;rw[hc]at e;simp only[aC,Ny]at e;refine⟨if t then g a else g b,by simp[dy,d,e,asBool],?_⟩;cases t with
 |true=>exact f a (by simp[d,g0])
 |false=>exact f b (by simp[d,g0])
theorem Ld{t:dx}{i:Nat}{vs:List AV}{v:AV}(g:o.op=.extract t i)(e:ρ t=.aD vs\/∃l,ρ t=.p (.aD l)/\vs=l.map .p)(hi:vs[i]?=some v):bF P o ρ base {v}:=by
 refine bF.same fun H w aa ag β j m h _=>?_;obtain⟨d,f⟩:=h t (by simp[g,g0]);obtain⟨c,k1,k2,k3⟩:∃c,bK P w aa β H vs c/\j t=.tuple c.toArray/\aZ (aN H) vs:=by
  rcases e with e|⟨l,e,rfl⟩
  ·rw[e]at d f;simp only[aC,aH]at d f;obtain⟨c,a,b⟩:=d;exact⟨c,a,b,f⟩
  ·rw[e]at d;simp only[aC,aF]at d;obtain⟨c,a,b⟩:=d;exact⟨c,kG.2 a,b,jM _ _⟩
 obtain⟨g1,g2⟩:=u9 k1;have k:i<vs.length:=(hK.1 hi).1;have hx:c[i]?=some (c[i]' o_):=hQ o_;have g3:=g2 i;rw[hi,hx]at g3;refine⟨c[i]' o_,?_,by simpa using g3,dP.1 k3 v (hU hi)⟩;simp only[dy,g,Instr.extract,k2];simp[hx]
theorem aAO{c:e9}{T j:dl}{x y:dx}{k d:em}{a b:Int}{K:PV->Prop}(g:o.op= .binOp c T x y j)(hx:ρ x= .p (.int k a))(t:ρ y= .p (.int d b))(hk:k=d\/c= .shl\/c= .shr)
 (h:rk c k a b K)(aA:List (Nat×Obj)):∃v,K v/\bF P o ρ base {v:=.p v,aA}:=by
 have key:∀v,K v->(∀w:dq,(binOp c T (.int k a) (.int d b)).run P w= .ok (match v with| .int k n=> .int k n| .bool b=> .bool b|_=>undef) w)->(∀w aa,aF P w aa v (match v with| .int k n=> .int k n| .bool b=> .bool b|_=>undef))->
  ∃v,K v/\bF P o ρ base {v:=.p v,aA}:=by
  intro v s r q;refine⟨v,s,bF.same fun H w aa ag β z u i _=>?_⟩;have e:=(i x (by simp[g,g0])).1;have f:=(i y (by simp[g,g0])).1;rw[hx]at e;rw[t]at f;simp only[aC,Fg]at e f;refine⟨_,?_,by simp only[aC];exact q w aa,by simp[aH]⟩;simp only[dy,g,e,f];refine fP ?_;have m:(eqGuard c T x y (.int k a) (.int d b)).run P w=.ok () w:=by
   unfold eqGuard
   split<;>simp
  simp[m,r w]
 cases c<;>simp only[rk]at h
 case add|sub|mul|and|or|xor|andNot|eql|neq|lss|leq|gtr|geq=>
  obtain rfl:k=d:=by rcases hk with h|h|h<;>first|exact h|cases h
  exact key _ h (fun w=>by simp[binOp,g8,g9,Op.intCmp]) (fun w aa=>by simp[aF])
 case quo|rem=>
  obtain rfl:k=d:=by rcases hk with h|h|h<;>first|exact h|cases h
  exact key _ h.2 (fun w=>by simp[binOp,Op.intDiv,h.1]) (fun w aa=>by simp[aF])
 case shl|shr=>
  have l:¬b<0:=o_
  exact key _ h.2 (fun w=>by simp[binOp,Op.shift,l]) (fun w aa=>by simp[aF])
theorem Gy{u:UnOp}{T:dl}{x:dx}{v r:PV}(c:o.op= .unOp u T x)(hx:ρ x= .p v)
 (h:(u=.not/\∃b,v=.bool b/\r=.bool (!b))\/(u=.neg/\∃k n,v=.int k n/\r=.int k (k.wrap (0-n)))\/
  (u=.xor/\∃k n,v=.int k n/\r=.int k (k.wrap (c6 k.bits (if k.signed then -1 else k.max)^^^c6 k.bits n).toNat))):bF P o ρ base {v:=.p r}:=by
 refine bF.same fun H w aa ag β f e d _=>?_;have a:=(d x (by simp[c,g0])).1;rw[hx]at a;simp only[aC]at a;rcases h with⟨rfl,b,rfl,rfl⟩|⟨rfl,k,n,rfl,rfl⟩|⟨rfl,k,n,rfl,rfl⟩
 ·rw[Ny]at a;exact⟨_,by simp only[dy,c,a];exact fP (by simp[g7];rfl),by simp[aC,aF],by simp[aH]⟩
 ·rw[Fg]at a;exact⟨_,by simp only[dy,c,a];exact fP (by simp[g7,g8];rfl),by simp[aC,aF],by simp[aH]⟩
 ·rw[Fg]at a;exact⟨_,by simp only[dy,c,a];exact fP (by simp[g7,g9];rfl),by simp[aC,aF],by simp[aH]⟩
end
section
variable{P:dp}{w:dq}{aa ag:Nat->Prop}{β:Bd}{H:ah}
variable{o:Oper}{ρ:dx->AV}{base:Nat}
theorem mU(H:ah)(b:Nat)(o':Obj):bt H ([]++newAt b [o'])=H.set b o':=rfl
theorem XH{x:AV}{T:dl}(hs:ad x≠ .bad)(hx:kn T (ad x)=true)(hrefs:∀(H:ah)(w:dq)(aa ag:Nat->Prop)(β:Bd)(c:dx->db),cj P w aa β H ag->
 (∀y∈o.op.operands,aC P w aa β H (ρ y) (c y)/\aH (aN H) (ρ y))->∃cv,aC P w aa β H x cv/\aH (aN H) x/\
  (dy c o).run P w=.ok (.value (.pointer (some ⟨w.heap.size,0,none⟩))) {w with heap:=w.heap.push (.cells cv.cells T)}):
 bF P o ρ base {v:=.ptr base [],ba:=[.box false x]}:=by
 intro H w aa ag β c a l _ i;obtain⟨cv,e,d,f⟩:=hrefs H w aa ag β c a l;have b:H[base]?=some .hole:=by simpa using i 0 s_
 have g:=Ak e hs;have aS:=Ax (β:=β) b (.box false x) w.heap.size 0;have aA:∀y,aN H y->aN (H.set base (.box false x)) y:=pF b (fun _ h=>h.elim);have j:=uZ (cap:=0) a b (ob:=.cells cv.cells T) (o':=.box false x)
  ⟨cv.cells,T,by simp[Bd.at],bB.mono (fun _ x=>x) (fun k hk=>xn _ _ (a.b8 k hk)) aS _ _ d g,by
   simp only[dD,Bd.at,if_true,c9,if_false];exact⟨fun h=>j5 _ (a.b8 _ h),fun h=>j5 _ (a.fg _ h)⟩,s_,hx⟩ (aH.mono aA _ d)
 refine⟨_,_,_,_,aa,f,.inl rfl,j,?_,?_⟩
 ·simp only[aC,bX,cg,mU];exact⟨rfl,_,_,0,rfl,rfl,fun _=>by simp[Bd.at]⟩
 ·simp only[aH,mU];exact⟨.box false x,by simp only;rw[hM (hK.1 b).1],trivial⟩
theorem aAN{T:dl}{x:dx}(a:o.op=.box T x)(hs:ad (ρ x)≠.bad)(hx:kn T (ad (ρ x))=true):bF P o ρ base {v:=.ptr base [],ba:=[.box false (ρ x)]}:=by
 refine XH (T:=T) hs hx fun H w aa ag β e f d=>?_;obtain⟨b,c⟩:=d x (by simp[a,g0]);refine⟨e x,b,c,?_⟩;simp only[dy,a];simp[Instr.box,newVar,newRow]
theorem DB{w:dq}{aa:Nat->Prop}:∀(n:Nat)(T:dl)(cs:List db)(t:PV),vC P n T cs=some t->aX P w aa t cs/\kindOf P T=aL t
 |0,_,_,_,h=>by simp[vC]at h
 |n+1,T,cs,t,h=>by
  have go:∀(b:List dl)(l:List Nat)(cs:List db)(fs:List PV),qR P (vC P n) b l cs=some fs->∃a,bn P w aa l fs a/\a.flatten=cs:=by
   intro b
   induction b with
   |nil=>
    intro l cs fs h;cases l with
    |nil=>
     cases cs with
     |nil=>simp[qR]at h;subst h;exact⟨[],by simp[bn]⟩
     |cons c cs=>simp[qR]at h
    |cons s i=>simp[qR]at h
   |cons T b q=>
    intro l cs fs h;cases l with
    |nil=>simp[qR]at h
    |cons s i=>
     simp only[qR]at h
     split at h
     case isFalse=>simp at h
     rename_i m
     split at h
     case h_2=>simp at h
     rename_i v vs g p
     split at h
     case isFalse=>simp at h
     rename_i r;simp at h;subst h;obtain⟨e,_⟩:=DB n T _ v g;obtain⟨a,f,j⟩:=q i _ vs p;refine⟨cs.take s::a,by simp only[bn];exact⟨_,_,rfl,e,m,f⟩,?_⟩;simp[j]
  unfold vC at h
  split at h
  ·rename_i hk
   split at h
   case h_2=>simp at h
   rename_i c
   split at h
   ·simp at h
   ·rename_i v o;simp at h;subst h;have g:=Ky (P:=P) (w:=w) (aa:=aa) c;have d:aL (ofConst c)=.leaf:=by
     unfold ofConst at o⊢
     split<;>simp_all [aL]
    exact⟨(u7 d _).2 ⟨c,rfl,g⟩,by rw[hk,d]⟩
  ·rename_i u hk
   split at h
   case h_2=>simp at h
   rename_i l d
   split at h
   case h_2=>simp at h
   rename_i fs k;simp at h;subst h;obtain⟨a,e,f⟩:=go _ _ _ _ k;refine⟨by simp only[aX];exact⟨l,a,d,e,f.symm⟩,by simp[aL,hk]⟩
  ·simp at h
theorem uI{T:dl}{z:PV}(h:cG P T=some z):∃i a,P.info? T=some i/\i.zero=some a/\(∀(w:dq)(aa:Nat->Prop),aX P w aa z a.cells.toList)/\kindOf P T=aL z:=by
 unfold cG at h;cases hi:P.info? T with
 |none=>simp[hi]at h
 |some i=>
  simp only[hi,kw]at h;cases hz:i.zero with
  |none=>simp[hz]at h
  |some a=>
   simp only[hz]at h
   split at h
   case isFalse=>simp at h
   exact⟨i,a,rfl,hz,fun w aa=>(DB 40 T _ z h).1,(DB (w:=default) (aa:=fun _=>True) 40 T _ z h).2⟩
theorem Xh{T:dl}{z:PV}(h:cG P T=some z):∃a,(∀w:dq,(zeroValue T).run P w=.ok a w)/\∀(w:dq)(aa:Nat->Prop),aF P w aa z a:=by
 obtain⟨i,a,d,e,f,g⟩:=uI h;refine⟨a,fun w=>by simp[zeroValue,typeInfo,d,e],fun w aa=>?_⟩;have b:BX a (aL z)=true:=by
  unfold cG at h;simp only[d,kw,e]at h
  split at h
  ·rename_i j;rw[<-g];exact j
  ·simp at h
 have hc:=f w aa;cases hs:aL z with
 |bad=>exact((sr hc).2 hs).elim
 |leaf=>
  rw[hs]at b;obtain⟨c,k1,k2⟩:=(u7 hs _).1 hc;cases a<;>simp[BX]at b<;>(simp[hB]at k1;subst k1;exact k2)
 |agg u=>
  rw[hs]at b;cases a<;>simp[BX]at b;have:=(xW hs _).1 hc;simpa[hB]using this
theorem xl{T:dl}{i:ed}{a:db}(h:P.info? T=some i)(hz:i.zero=some a)(w:dq):(zeroValue T).run P w=.ok a w:=by
 simp[zeroValue,typeInfo,h,hz]
theorem YP{T:dl}{z:PV}(j:o.op=.alloc T)(hz:cG P T=some z)(hx:kn T (aL z)=true):bF P o ρ base {v:=.ptr base [],ba:=[.box false (.p z)]}:=by
 obtain⟨i,b,d,e,f,n⟩:=uI hz;intro H w aa ag β m a q _ g;have c:H[base]?=some .hole:=by simpa using g 0 s_
 have l:(dy m o).run P w=.ok (.value (.pointer (some ⟨w.heap.size,0,none⟩))) {w with heap:=w.heap.push (.cells b.cells T)}:=by
  simp only[dy,j];simp[Instr.alloc,xl d e,newVar,newRow]
 have k:=uZ (cap:=0) a c (ob:=.cells b.cells T) (o':=.box false (.p z))
  ⟨b.cells,T,by simp[Bd.at],by simp only[bB];exact f _ _,by
   simp only[dD,Bd.at,if_true,c9,if_false];exact⟨fun h=>j5 _ (a.b8 _ h),fun h=>j5 _ (a.fg _ h)⟩,s_,by simpa[ad]using hx⟩ (by simp[Obj.refs,aH])
 refine⟨_,_,_,_,aa,l,.inl rfl,k,?_,?_⟩
 ·simp only[aC,bX,cg,mU];exact⟨rfl,_,_,0,rfl,rfl,fun _=>by simp[Bd.at]⟩
 ·simp only[aH,mU];exact⟨.box false (.p z),by simp only;rw[hM (hK.1 c).1],trivial⟩
theorem ET{T:dl}{a:dx}{v:AV}(g:o.op= .load T a){c:dx->db}{aw off:Nat}{b:List db}(f:c a= .pointer (some ⟨aw,off,none⟩))(hk:kindOf P T=ad v)
 (h:bB P w aa β H v b)(hc:iB w aw off b):∃cv,(dy c o).run P w=.ok (.value cv) w/\aC P w aa β H v cv:=by
 obtain⟨cv,d,e⟩:=Kr hk h hc;refine⟨cv,?_,e⟩;simp only[dy,g,Instr.loadAt,f,gg];simp[d]
theorem BF{al:Nat}{d:List AV}{g:List (List db)}(h:Row P w aa β H al d g){i:Nat}(hi:i<d.length):
 ∃a c post,g.flatten=a++c++post/\a.length=i*al/\c.length=al/\bB P w aa β H d[i] c/\
  ∀e c',bB P w aa β H e c'->c'.length=c.length->∃b,b.flatten=a++c'++post/\Row P w aa β H al (d.set i e) b:=by
 obtain⟨a,c,post,j,k,o,f,l,m⟩:=vo h (hQ hi);have n:c.length=al:=by
  rw[hS]at f;rw[if_pos hi]at f;simpa using f.symm
 refine⟨a,c,post,j,?_,n,l,?_⟩
 ·rw[k,hR,j4 o_,hO]
 ·intro e c' hf hc;obtain⟨b,k1,k2⟩:=m e c' hf hc;exact⟨b,k1,by unfold Row;rw[i9];exact k2⟩
theorem aAQ{T:dl}{a:dx}(g:o.op= .load T a){H0:ah}{K:aY->Prop}(h:pV P T H0 (ρ a) K):
 ∃e,K e/\bF P o ρ base e/\(∀p∈e.aA,H0[p.1]?=some p.2)/\(∀p∈e.aO,p.1<H0.length/\p.2≠.hole):=by
 unfold pV at h
 split at h
 ·rename_i b G l
  split at h
  case h_2=>exact h.elim
  rename_i fz t r
  split at h
  case h_2=>exact h.elim
  rename_i s hs;obtain⟨hk,h⟩:=h;refine⟨_,h,bF.same fun H w aa ag β B j m aA=>?_,by simpa using r,s_⟩;obtain⟨d,x⟩:=m a (by simp[g,g0]);rw[l]at d;simp only[aC,bX,cg]at d;have f:H[b]?=some (.box fz t):=by simpa using aA
  obtain⟨_,D,F,A,u,q,d⟩:=d;obtain⟨rfl,rfl⟩:=d ⟨_,f,rfl⟩;obtain⟨cs,C,k1,k2,k3,k4⟩:=j.du b _ f;obtain⟨pre,xs,post,e1,e2,e3,_⟩:=qV k2 hs q;obtain⟨cv,g1,g2⟩:=ET g u hk e3 (by rw[<-e2];exact mZ k1 e1);exact⟨cv,g1,g2,xC hs (j.refs b _ f)⟩
 ·rename_i b aE al i G l
  split at h
  case h_2=>exact h.elim
  rename_i k S O n r;obtain⟨rfl,rfl,hi,h⟩:=h
  split at h
  case h_2=>exact h.elim
  rename_i s hs;obtain⟨hk,h⟩:=h;refine⟨_,h,bF.same fun H w aa ag β B j m aA=>?_,by simpa using r,s_⟩;obtain⟨d,x⟩:=m a (by simp[g,g0]);rw[l]at d;simp only[aC,bX,cg]at d;have f:H[b]?=some (.arr k aE al n):=by simpa using aA
  have z:¬dQ k n:=fun hn=>by rw[hn.2]at hi;simp at hi
  obtain⟨_,D,F,A,u,q,d⟩:=d;obtain⟨rfl,rfl⟩:=d k n f z;rcases j.du b _ f with hold|⟨cs,C,N,rest,k1,k2,k3,_⟩
  ·exact(z hold).elim
  obtain⟨J,c,I,r1,L,Q,M,_⟩:=BF k2 hi;obtain⟨pre,xs,post,e1,e2,e3,_⟩:=qV M hs q;have E:iB w (β.aw b) (i*al+A) xs:=by
   have:cs.toList=(J++pre)++xs++(post++I++rest):=by rw[k3,r1,e1];simp
   have y:=mZ k1 this;rw[h7,L,e2]at y;exact y
  obtain⟨cv,g1,g2⟩:=ET g u hk e3 E;exact⟨cv,g1,g2,xC hs (dP.1 (j.refs b _ f) _ (i6 hi))⟩
 ·rename_i t l;obtain⟨hk,h⟩:=h;refine⟨_,h,bF.same fun H w aa ag β B j m aA=>?_,s_,s_⟩;obtain⟨d,x⟩:=m a (by simp[g,g0]);rw[l]at d;simp only[aC,aF]at d;obtain⟨aw,off,R,k1,k2,k3,k4⟩:=d;obtain⟨cv,g1,g2⟩:=ET (β:=β) (H:=H) (v:=.p t) g k4 (by simpa[ad]using hk) (by simpa only[bB]using k1) k3;exact⟨cv,g1,g2,by simp[aH]⟩
 ·exact h.elim
end
section
variable{P:dp}{w:dq}{aa ag:Nat->Prop}{β:Bd}{H:ah}
mutual
theorem Ov:∀{v:PV}{cs:List db},aX P w aa v cs->∀c∈cs,c.oneCell'=true
 | .undef,_,h| .aD _,_,h=>by simp[aX]at h
 | .bool _,_,h| .int _ _,_,h| .fU,_,h| .aK,_,h| .fM,_,h| .iX,_,h| .ia,_,h=>by simp only[aX]at h;subst h;simp[hA]
 | .str _,_,h=>by simp only[aX]at h;obtain⟨_,rfl,_⟩:=h;simp[hA]
 | .cE _,_,h=>by simp only[aX]at h;obtain⟨_,_,_,_,_,_,rfl⟩:=h;simp[hA]
 | .cZ _ _,_,h=>by simp only[aX]at h;obtain⟨_,_,_,_,_,_,_,_,_,_,_,_,rfl⟩:=h;simp[hA]
 | .seq _,_,h=>by simp only[aX]at h;rcases h with⟨_,rfl⟩|⟨_,_,_,_,_,_,_,_,_,_,_,rfl⟩<;>simp[hA]
 | .eJ _,_,h=>by simp only[aX]at h;obtain⟨_,_,_,_,_,_,rfl⟩:=h;simp[hA]
 | .func _ _ _,_,h=>by simp only[aX]at h;obtain⟨_,_,_,_,rfl⟩:=h;simp[hA]
 | .st u fs,_,h=>by
  simp only[aX]at h;obtain⟨l,a,b,d,rfl⟩:=h;exact NA d
theorem NA:∀{l:List Nat}{vs:List PV}{a:List (List db)},bn P w aa l vs a->∀c∈a.flatten,c.oneCell'=true
 |[],[],_,h=>by simp only[bn]at h;subst h;simp
 |[],_::_,_,h=>by simp[bn]at h
 |_::_,[],_,h=>by simp[bn]at h
 |n::f,v::vs,a,h=>by
  simp only[bn]at h;obtain⟨c,cs,rfl,b,d,e⟩:=h;intro x hx;simp only[hX,h0]at hx;exact hx.elim (Ov b x) (NA e x)
end
mutual
theorem A9:∀{v:AV}{cs:List db},bB P w aa β H v cs->∀c∈cs,c.oneCell'=true
 | .p t,_,h=>by simp only[bB]at h;exact Ov h
 | .ptr ..,_,h| .cm ..,_,h| .sl ..,_,h| .map ..,_,h=>by simp only[bB]at h;obtain⟨v,rfl,b,_⟩:=h;simpa using b
 | .func ..,_,h=>by simp only[bB]at h;obtain⟨_,_,_,_,rfl⟩:=h;simp[hA]
 | .aD _,_,h=>by simp[bB]at h
 | .st u fs,_,h=>by
  simp only[bB]at h;obtain⟨l,a,b,d,rfl⟩:=h;exact NC d
theorem NC:∀{l:List Nat}{vs:List AV}{a:List (List db)},bV P w aa β H l vs a->∀c∈a.flatten,c.oneCell'=true
 |[],[],_,h=>by simp only[bV]at h;subst h;simp
 |[],_::_,_,h=>by simp[bV]at h
 |_::_,[],_,h=>by simp[bV]at h
 |n::f,v::vs,a,h=>by
  simp only[bV]at h;obtain⟨c,cs,rfl,b,d,e⟩:=h;intro x hx;simp only[hX,h0]at hx;exact hx.elim (A9 b x) (NC e x)
end
theorem wX(d:cj P w aa β H ag){b:Nat}{o o':Obj}(c:H[b]?=some o)(j:o.live)(l:o'.live)(m:∀v,o.has v->o'.has v){q new:Array db}{T:dl}
 (i:w.heap[β.aw b]?=some (.cells q T (0,0)))(e:¬aa (β.aw b)/\¬ag (β.aw b))(aS:cK β H β (H.set b o'))
 (n:fh P (w.setRow (β.aw b) new) aa β (H.set b o') ag b o')(p:o'.refs (aN (H.set b o'))):
 cd P ag aa w β H aa (w.setRow (β.aw b) new) β (H.set b o'):=by
 refine cd.set d (hK.1 c).1 (fun _ _=>⟨rfl,rfl⟩) (fun _ x=>x) (fun _ x=>.inl x) (fun k hk=>by rw[e7];exact d.b8 k hk) (by rw[e7];exact j3 _)
  (fun k hk _=>eo w _ k _ (hk.resolve_right (fun h=>h l))) (fun _=>.inr ⟨rfl,⟨o,c,j⟩,.inr e.1,e.2⟩) aS n p (fun r v a f=>by rw[c]at a;cases a;exact m v f) (fun L g=>by obtain⟨_,_,_,a,_⟩:=d.du b _ g;rw[i]at a;cases a)
variable{o:Oper}{ρ:dx->AV}{base:Nat}
theorem Lm{T:dl}{a x:dx}(p:o.op= .store T a x){e:dx->db}{aw off:Nat}{b:List db}{d:Array db}{f:dl}(j:e a= .pointer (some ⟨aw,off,none⟩))
 (hx:(e x).cells.toList=b)(q:P.cellsOf T=b.length/\∃i,P.info? T=some i/\i.size=b.length)(k:w.heap[aw]?=some (.cells d f (0,0)))(n:∀c∈b,c.oneCell'=true)(m:off+b.length<=d.size):
 (dy e o).run P w=.ok .skip (w.setRow aw (d.toList.take off++b++d.toList.drop (off+b.length)).toArray):=by
 obtain⟨_,i,hi,l⟩:=q;have h:(sizeOf T).run P w=.ok b.length w:=by simp[sizeOf,typeInfo,hi,l]
 have g:=ew (P:=P) aw off f b 0 d w k (by simpa using m) n;simp only[j7]at g;have r:(e x).cells.size=b.length:=by rw[<-hx];simp
 simp only[dy,p,Instr.storeAt,j,gg];simp[storeVar,h,r,hx,g]
theorem D3(u:dl)(fs:List AV):ad (iM u fs)=.agg u:=by
 unfold iM;split<;>rfl
theorem Ye{t:AV}{c:List (dl×Nat)}{x s d:AV}(hs:fq t c=some s)(a:gJ t c x=some d)(e:ad s=ad x):ad d=ad t:=by
 cases c with
 |nil=>
  simp only[gJ,ky]at a;subst a;have:s=t:=by
   cases t<;>simp[fq]at hs<;>exact hs.symm
  rw[<-e,this]
 |cons p r=>
  obtain⟨u,i⟩:=p;cases t<;>simp only[gJ]at a
  case p t=>
   split at a
   case isFalse=>simp at a
   rename_i b
   split at a
   case h_2=>simp at a
   split at a
   case h_2=>simp at a
   simp only[ky]at a;subst a;rw[D3];simp[ad,b]
  case st u' fs=>
   split at a
   case isFalse=>simp at a
   rename_i b
   split at a
   case h_2=>simp at a
   split at a
   case h_2=>simp at a
   simp only[ky]at a;subst a;rw[D3];simp[ad,b]
  all_goals simp at a
theorem Zj{T:dl}{a x:dx}(z:o.op= .store T a x){H0:ah}{K:aY->Prop}(h:pK P T H0 (ρ a) (ρ x) K):
 ∃e,K e/\bF P o ρ base e/\(∀p∈e.aA,H0[p.1]?=some p.2)/\(∀p∈e.aO,p.1<H0.length/\p.2≠.hole):=by
 unfold pK at h;obtain⟨hk,Y,h⟩:=h
 split at h
 ·rename_i b am L
  split at h
  case h_2=>exact h.elim
  rename_i t B
  split at h
  case h_2=>exact h.elim
  rename_i s j hs r;obtain⟨I,h⟩:=h;refine⟨_,h,?_,by simpa using B,by simpa using(hK.1 B).1⟩;intro H w aa ag β f l D aA _;have d:H[b]?=some (.box false t):=by simpa using aA
  obtain⟨g,_⟩:=D a (by simp[z,g0]);obtain⟨x1,x2⟩:=D x (by simp[z,g0]);rw[L]at g;simp only[aC,bX,cg]at g;obtain⟨_,af,X,J,U,R,g⟩:=g;obtain⟨rfl,rfl⟩:=g ⟨_,d,rfl⟩;obtain⟨cs,A,k1,k2,k3,k4⟩:=l.du b _ d;obtain⟨pre,xs,post,e1,e2,e3,e4⟩:=qV k2 hs R;have m:=Ak x1 Y;have q:(f x).cells.toList.length=xs.length:=by rw[(pE m).1,(pE e3).1,I]
  have ab:cs.size=pre.length+xs.length+post.length:=by
   have:=congrArg ih e1;simp at this;omega
  have C:=Lm z U rfl (zQ hk m) k1 (A9 m) o_;have ba:(cs.toList.take X++(f x).cells.toList++cs.toList.drop (X+(f x).cells.toList.length))=pre++(f x).cells.toList++post:=by
   rw[e1,q,<-e2];simp
  rw[ba]at C;have aS:cK β H β (H.set b (.box false j)):=mq d;have N:∀y,aN H y->aN (H.set b (.box false j)) y:=pF d (fun _ h=>h);have V:∀k,aa k->(w.setRow (β.aw b) (pre++(f x).cells.toList++post).toArray).heap[k]?=w.heap[k]?:=fun k Q=>eo w _ k _ (fun M=>k3.1 (M▸Q));have S:=wX l d trivial (o':=.box false j) trivial (fun _ h=>h) k1 (new:=(pre++(f x).cells.toList++post).toArray) k3 aS
   ⟨_,A,e8 w _ _ _ A _ k1,bB.mono (fun _ x=>x) V aS _ _ (xD r (l.refs b _ d) x2) (e4 _ _ _ r m q),k3,s_,by rw[Ye hs r I];exact k4.2⟩
   (aH.mono N _ (xD r (l.refs b _ d) x2))
  exact⟨_,_,_,β,aa,C,.inr ⟨rfl,rfl⟩,S,by simp[aC,aF,bO,undef],by simp[aH]⟩
 ·rename_i b aE al i am L
  split at h
  case h_2=>exact h.elim
  rename_i k av ar n B;obtain⟨rfl,rfl,ad,hi,h⟩:=h
  split at h
  case h_2=>exact h.elim
  rename_i s j hs r;obtain⟨I,h⟩:=h;refine⟨_,h,?_,by simpa using B,by simpa using(hK.1 B).1⟩;intro H w aa ag β f l D aA _;have d:H[b]?=some (.arr k aE al n):=by simpa using aA
  obtain⟨g,_⟩:=D a (by simp[z,g0]);obtain⟨x1,x2⟩:=D x (by simp[z,g0]);rw[L]at g;simp only[aC,bX,cg]at g;have G:¬dQ k n:=fun hn=>by rw[hn.2]at hi;simp at hi
  obtain⟨_,af,X,J,U,R,g⟩:=g;obtain⟨rfl,rfl⟩:=g k n d G;rcases l.du b _ d with hold|⟨cs,A,aq,rest,k1,k2,k3,k4,k5,k6,k7,k8⟩
  ·exact(G hold).elim
  have ac:¬aa (β.aw b)/\¬ag (β.aw b):=by
   unfold dD at k7;rw[if_neg (by simpa using ad)]at k7;exact k7
  obtain⟨u,c,F,r1,an,au,ao,ap⟩:=BF k2 hi;obtain⟨pre,xs,post,e1,e2,e3,e4⟩:=qV ao hs R;have m:=Ak x1 Y;have q:(f x).cells.toList.length=xs.length:=by rw[(pE m).1,(pE e3).1,I]
  have Z:cs.toList=(u++pre)++xs++(post++F++rest):=by rw[k3,r1,e1];simp
  have ab:cs.size=(u++pre).length+xs.length+(post++F++rest).length:=by
   have:=congrArg ih Z;simp at this⊢;omega
  have ak:(u++pre).length=i*al+J:=by simp[an,e2]
  have C:=Lm z U rfl (zQ hk m) k1 (A9 m) o_;have ba:(cs.toList.take (i*al+J)++(f x).cells.toList++cs.toList.drop (i*al+J+(f x).cells.toList.length))=(u++pre)++(f x).cells.toList++(post++F++rest):=by
   rw[Z,q,<-ak,hT (u++pre),List.take_left',List.drop_append,hT]
   ·simp
   ·rfl
  rw[ba]at C;obtain⟨ai,c1,c2⟩:=ap j _ (e4 _ _ _ r m q) (by rw[e1];simp[q]);have aS:cK β H β (H.set b (.arr k aE al (n.set i j))):=IA d s_;have N:∀y,aN H y->aN (H.set b (.arr k aE al (n.set i j))) y:=pF d (fun _ h=>h);have aj:¬dQ k (n.set i j):=fun hn=>G ⟨hn.1,by have:=hn.2;rw[List.set_eq_nil_iff]at this;exact this⟩;have ae:aZ (aN H) (n.set i j):=by
   rw[dP];intro v W;rcases hV W with W|rfl
   ·exact dP.1 (l.refs b _ d) v W
   ·exact xD r (dP.1 (l.refs b _ d) _ (i6 hi)) x2
  have V:∀E,aa E->(w.setRow (β.aw b) ((u++pre)++(f x).cells.toList++(post++F++rest)).toArray).heap[E]?=w.heap[E]?:=fun E Q=>eo w _ E _ (fun M=>ac.1 (M▸Q));have S:=wX l d G (o':=.arr k aE al (n.set i j)) aj (fun _ h=>h) k1 (new:=((u++pre)++(f x).cells.toList++(post++F++rest)).toArray) ac aS
   (.inr ⟨_,A,ai,rest,e8 w _ _ _ A _ k1,bV.mono (fun _ x=>x) V aS _ _ _ ae c2,by rw[c1];simp,by
    rw[<-k4,ab];simp[q];omega,by simpa using k5,fun O=>by rw[k6 O];simp,k7,(fun O=>(ad O).elim),k8.2⟩)
   (aZ.mono N _ ae)
  exact⟨_,_,_,β,aa,C,.inr ⟨rfl,rfl⟩,S,by simp[aC,aF,bO,undef],by simp[aH]⟩
 ·exact h.elim
end
section
variable{P:dp}{w:dq}{aa ag:Nat->Prop}{β:Bd}{H:ah}
theorem Dw(P:dp)(T:dl):P.underlying T=(P.info? (P.underlyingId T)).map (fun i:ed=>i.desc):=by
 unfold hb hd;cases hi:P.info? T with
 |none=>simp[hi]
 |some i=>
  obtain⟨d,_,_,_,_,_,_,_,_,_⟩:=i;cases d<;>simp[hi]
theorem DL{T u:dl}(h:kindOf P T=.agg u):u=P.underlyingId T/\(∃l,dw P u=some l)/\P.cellsOf T=P.cellsOf u:=by
 unfold kindOf at h
 split at h
 ·split at h
  ·rename_i hc;simp at h;subst h;simp at hc;exact⟨rfl,kv.1 hc.1,hc.2⟩
  ·simp at h
 ·split at h
  ·rename_i hc;simp at h;subst h;simp at hc;exact⟨rfl,kv.1 hc.1,hc.2⟩
  ·simp at h
 ·split at h<;>simp at h
 ·simp at h
theorem xc{T u:dl}{n:Nat}(h:eC P T=some (u,n)):∃fs l,P.underlying T=some (.struct fs)/\fs.size=n/\kindOf P T= .agg u/\dw P u=some l/\l.length=n/\
 ∀(i:Nat)(_hi:i<n),∃f,fs[i]?=some f/\f.offset=(l.take i).sum/\l[i]?=some (P.cellsOf f.type)/\0<P.cellsOf f.type/\(kC P u)[i]?=some f.type:=by
 unfold eC at h
 split at h
 case h_2=>simp at h
 rename_i u' fs hk c;simp at h;obtain⟨rfl,rfl⟩:=h;obtain⟨g,⟨l,a⟩,_⟩:=DL hk;refine⟨fs,l,c,rfl,hk,a,?_⟩;have b:(P.info? u').map (fun i:ed=>i.desc)=some (.struct fs):=by rw[g,<-Dw,c]
 unfold dw at a;rw[b]at a;dsimp only at a
 split at a
 case isFalse=>simp at a
 rename_i hc;simp at a;simp only[da,i7,decide_eq_true_eq,beq_iff_eq]at hc;obtain⟨⟨d,j⟩,e⟩:=hc;subst a;refine⟨s_,fun i hi=>?_⟩;refine⟨fs[i],by simp[hi],?_,by simp[hi],?_,?_⟩
 ·have:=e (fs[i],i) (by rw[List.mem_iff_getElem?];exact⟨i,by simp[hi]⟩);simpa using this
 ·have:=d (P.cellsOf fs[i].type) (by simp;exact⟨fs[i],s_,rfl⟩);exact this
 ·unfold kC;rw[b];simp[hi]
theorem vf{T u:dl}{n:Nat}(h:iJ P T=some (u,n)):∃e,P.underlying T=some (.array n e)/\kindOf P T=.agg u/\dw P u=some (hL n (P.cellsOf e))/\0<P.cellsOf e:=by
 unfold iJ at h
 split at h
 case h_2=>simp at h
 rename_i u' g e hk b;simp at h;obtain⟨rfl,rfl⟩:=h;obtain⟨d,⟨l,a⟩,_⟩:=DL hk;have c:(P.info? u').map (fun i:ed=>i.desc)=some (.array g e):=by rw[d,<-Dw,b]
 have f:=a;unfold dw at a;rw[c]at a;dsimp only at a
 split at a
 case isFalse=>simp at a
 rename_i hc;simp at a hc;exact⟨e,b,hk,by rw[f,a],hc.1⟩
theorem zR{p q:List (dl×Nat)}{a b:Nat}(c:gT P p=some a)(e:gT P q=some b):gT P (p++q)=some (a+b):=by
 induction p generalizing a with
 |nil=>simp[gT]at c;subst c;simpa using e
 |cons x p f=>
  obtain⟨u,i⟩:=x;simp only[gT]at c;cases hz:dw P u with
  |none=>simp[hz]at c
  |some l=>
   cases d:gT P p with
   |none=>simp[hz,d]at c
   |some a'=>
    simp[hz,d]at c;obtain⟨hi,rfl⟩:=c;simp only[h8,gT,hz,f d,if_pos hi];congr 1;omega
theorem zW{u:dl}{i:Nat}{l:List Nat}(a:dw P u=some l)(hi:i<l.length):gT P [(u,i)]=some (l.take i).sum:=by
 simp[gT,a,hi]
variable{o:Oper}{ρ:dx->AV}{base:Nat}
theorem lI(aw off n:Nat):(⟨aw,off,none⟩:Addr).add n=⟨aw,off+n,none⟩:=by unfold Addr.add;split<;>simp_all
theorem Vz{T:dl}{a:dx}{f:Nat}(v:o.op= .fieldAddr T a f){K:aY->Prop}(h:pA P T (ρ a) f K):
 ∃e,K e/\bF P o ρ base e/\e.aA=[]/\e.aO=[]:=by
 unfold pA at h
 split at h
 case h_2=>exact h.elim
 rename_i u n aS;obtain⟨hf,h⟩:=h;obtain⟨fs,l,J,hn,hk,F,N,D⟩:=xc aS;obtain⟨fd,g1,g2,g3,g4,g5⟩:=D f hf;have y:=zW F (by omega:f<l.length);have A:∀(w:dq)(d:dx->db)(aw off:Nat),d a=.pointer (some ⟨aw,off,none⟩)->(dy d o).run P w=.ok (.value (.pointer (some ⟨aw,off+(l.take f).sum,none⟩))) w:=by
  intro w d aw off m;obtain⟨i,hi⟩:∃i,P.info? fd.type=some i:=by
   cases hi:P.info? fd.type with
   |none=>simp[ha,hi]at g4
   |some i=>exact⟨i,rfl⟩
  have I:(sizeOf fd.type).run P w=.ok (P.cellsOf fd.type) w:=by simp[sizeOf,typeInfo,hi,ha]
  simp only[dy,v];refine fP ?_;have G:¬P.cellsOf fd.type=0:=o_
  simp[Instr.fieldAt,dg J,g1,m,gg,fieldPlace,I,G,lI,g2]
 split at h
 ·rename_i b M m;refine⟨_,h,bF.same fun H w aa ag β d C r _=>?_,rfl,rfl⟩;obtain⟨c,j⟩:=r a (by simp[v,g0]);rw[m]at c j;simp only[aC,bX,cg,aH]at c j;obtain⟨_,aw,off,L,z,x,p⟩:=c;refine⟨_,A w d _ _ z,?_,by simpa[aH]using j⟩;simp only[aC,bX,cg];exact⟨rfl,_,_,_,rfl,zR x y,fun q=>⟨(p q).1,by rw[(p q).2]⟩⟩
 ·rename_i b aE al i M m;refine⟨_,h,bF.same fun H w aa ag β d C r _=>?_,rfl,rfl⟩;obtain⟨c,j⟩:=r a (by simp[v,g0]);rw[m]at c j;simp only[aC,bX,cg,aH]at c j;obtain⟨_,aw,off,L,z,x,p⟩:=c;refine⟨_,A w d _ _ z,?_,by simpa[aH]using j⟩;simp only[aC,bX,cg];exact⟨rfl,_,_,_,rfl,zR x y,fun k B q hn=>⟨(p k B q hn).1,by rw[(p k B q hn).2];omega⟩⟩
 ·rename_i t m;obtain⟨hs,h⟩:=h
  split at h
  case h_2=>exact h.elim
  rename_i g E;refine⟨_,h,?_,rfl,rfl⟩;refine bF.same fun H w aa ag β d C r _=>?_;obtain⟨c,_⟩:=r a (by simp[v,g0]);rw[m]at c;simp only[aC,aF]at c;obtain⟨aw,off,O,k1,k2,k3,k4⟩:=c;refine⟨_,A w d _ _ k4,?_,by simp[aH]⟩;obtain⟨pre,xs,post,e1,e2,e3⟩:=AO (path:=[(u,f)]) (s:=g) k1 (by simp[l9,hs,E]) y;simp only[aC,aF];refine⟨aw,off+(l.take f).sum,xs,e3,k2,?_,rfl⟩;intro i hi;have:=k3 (pre.length+i) (by rw[e1];simp;omega);rw[<-e2,kc,this];congr 1;simp only[e1,hT];rw[ii o_];simp only[j6];rw[ip hi]
 ·exact h.elim
end
section
variable{P:dp}{w:dq}{aa ag:Nat->Prop}{β:Bd}{H:ah}
variable{o:Oper}{ρ:dx->AV}{base:Nat}
theorem uP{aw off:Nat}{a pre xs post:List db}(h:iB w aw off a)(e:a=pre++xs++post):iB w aw (off+pre.length) xs:=by
 intro i hi;have:=h (pre.length+i) (by rw[e];simp;omega);rw[kc,this];congr 1;simp only[e,hT];rw[ii o_];simp only[j6];rw[ip hi]
structure sB(P:dp)(T:dl)(sz:Nat)(e:dl)(i:ed):Prop where
 jo:P.underlying T=some (.slice e)
 info:P.info? e=some i
 size:i.size=sz
 pos:0<sz
 bytes:i.bytes<32768
 aJi:0<i.bytes
 ue:fw P T=e
theorem nY{T:dl}{sz:Nat}(h:dj P T=some sz):∃e i,sB P T sz e i:=by
 unfold dj at h
 split at h
 case h_2=>simp at h
 rename_i e a
 split at h
 case h_2=>simp at h
 rename_i i hi
 split at h
 case isFalse=>simp at h
 rename_i hc;simp at h;subst h;exact⟨e,i,a,hi,rfl,hc.2.1,hc.1,hc.2.2,by simp[fw,a]⟩
theorem sB.run{T:dl}{sz:Nat}{e:dl}{i:ed}(h:sB P T sz e i)(w:dq):(sizeOf e).run P w=.ok sz w:=by
 simp[sizeOf,typeInfo,h.info,h.size]
theorem Vy{T:dl}{x R:dx}(B:o.op= .indexAddr T x R){H0:ah}{K:aY->Prop}(h:pz P T H0 (ρ x) (ρ R) K):
 ∃e,K e/\bF P o ρ base e/\(∀p∈e.aA,H0[p.1]?=some p.2)/\e.aO=[]:=by
 unfold pz at h
 split at h
 case h_2=>exact h.elim
 rename_i an n ai;obtain⟨C,h⟩:=h;have E:x∈o.op.operands:=by simp[B,g0]
 have aj:R∈o.op.operands:=by simp[B,g0]
 have D:∀{H:ah}{w:dq}{aa:Nat->Prop}{β:Bd}{z:dx->db},(∀y∈o.op.operands,aC P w aa β H (ρ y) (z y)/\aH (aN H) (ρ y))->z R=.int an n:=by
  intro H w aa β z f;have:=(f R aj).1;rw[ai]at this;simpa[aC,aF]using this
 split at h
 ·
  rename_i full d hx;obtain⟨j,r,h⟩:=h;obtain⟨e,ae,A⟩:=nY r;refine⟨_,h,bF.same fun H w aa ag β z N f _=>?_,s_,rfl⟩;obtain⟨a,_⟩:=f x E;rw[hx]at a;simp only[aC,aF]at a;obtain⟨aw,off,cap,al,U,k1,k2,k3,k4,k5,sp,Z,k6⟩:=a;obtain rfl:sp=none:=Z.resolve_right o_;have Y:Row P w aa ⟨id,id⟩ [] al (d.map .p) U:=nr.2 k1;obtain⟨pre,c,post,r1,ab,ac,S,_⟩:=BF Y (i:=n.toNat) (by simpa using j);have L:aX P w aa d[n.toNat] c:=by
   have:(d.map AV.p)[n.toNat]'(by simpa using j)=.p d[n.toNat]:=s_
   rw[this]at S;simpa only[bB]using S
  have V:bP P (aL d[n.toNat])=al:=by rw[<-(sr L).1,ac]
  refine⟨.pointer (some ⟨aw,off+n.toNat*al,none⟩),?_,?_,by simp[aH]⟩
  ·simp only[dy,B];refine fP ?_;have q:n<(d.length:Int):=by omega
   simp[gj,D f,asIntOf,dg A.jo,k6,C,q,A.run,V,lI]
  ·simp only[aC,aF];refine⟨aw,off+n.toNat*al,c,L,k2 (by intro hn;rw[hn]at j;simp at j),?_,rfl⟩;rw[<-ab];exact uP k3 r1
 ·
  rename_i d hx;obtain⟨j,r,h⟩:=h;obtain⟨e,ae,A⟩:=nY r;refine⟨_,h,bF.same fun H w aa ag β z N f _=>?_,s_,rfl⟩;obtain⟨a,_⟩:=f x E;rw[hx]at a;simp only[aC,aF]at a;rcases a with⟨rfl,_⟩|⟨aw,off,cap,al,U,k1,k2,k3,k5,sp,Z,k6⟩
  ·simp at j
  obtain rfl:sp=none:=Z.resolve_right o_;have Y:Row P w aa ⟨id,id⟩ [] al (d.map .p) U:=nr.2 k1;obtain⟨pre,c,post,r1,ab,ac,S,_⟩:=BF Y (i:=n.toNat) (by simpa using j);have L:aX P w aa d[n.toNat] c:=by
   have:(d.map AV.p)[n.toNat]'(by simpa using j)=.p d[n.toNat]:=s_
   rw[this]at S;simpa only[bB]using S
  have V:bP P (aL d[n.toNat])=al:=by rw[<-(sr L).1,ac]
  refine⟨.pointer (some ⟨aw,off+n.toNat*al,none⟩),?_,?_,by simp[aH]⟩
  ·simp only[dy,B];refine fP ?_;have q:n<(d.length:Int):=by omega
   simp[gj,D f,asIntOf,dg A.jo,k6,C,q,A.run,V,lI]
  ·simp only[aC,aF];refine⟨aw,off+n.toNat*al,c,L,k2 (by intro hn;rw[hn]at j;simp at j),?_,rfl⟩;rw[<-ab];exact uP k3 r1
 ·
  rename_i b aE al off len hx;obtain⟨r,j,h⟩:=h;obtain⟨e,ae,A⟩:=nY r
  split at h
  case h_2=>exact h.elim
  rename_i k ay ar d am;obtain⟨rfl,rfl,ak,h⟩:=h;refine⟨_,h,bF.same fun H w aa ag β z N f aA=>?_,by simpa using am,rfl⟩;obtain⟨a,l⟩:=f x E;rw[hx]at a l;simp only[aC,bX,cg,aH]at a l;have ad:H[b]?=some (.arr k aE al d):=by simpa using aA
  obtain⟨g1,g2,g3⟩:=a.2 k d ad;have g3:=g3 ak;refine⟨.pointer (some ⟨β.aw b,off*al+n.toNat*al,none⟩),?_,?_,by simpa[aH]using l⟩
  ·simp only[dy,B];refine fP ?_;have q:n<(len:Int):=by omega
   simp[gj,D f,asIntOf,dg A.jo,g3,C,q,A.run,lI]
  ·simp only[aC,bX,cg];refine⟨rfl,_,_,0,rfl,rfl,fun av aq v au=>?_⟩;unfold iD at v;rw[ad]at v;cases v;exact⟨rfl,by rw[ko];simp⟩
 ·
  rename_i b ap hx
  split at h
  case h_2=>exact h.elim
  rename_i u m F;obtain⟨j,h⟩:=h;obtain⟨e,Q,hk,G,M⟩:=vf F;refine⟨_,h,bF.same fun H w aa ag β z N f _=>?_,s_,rfl⟩;obtain⟨a,l⟩:=f x E;rw[hx]at a l;simp only[aC,bX,cg,aH]at a l;obtain⟨_,aw,off,ao,X,W,v⟩:=a;have J:=zW G (i:=n.toNat) (by simpa using j);have O:((hL m (P.cellsOf e)).take n.toNat).sum=n.toNat*P.cellsOf e:=by rw[hR,j4 o_,hO]
  have r:(sizeOf e).run P w=.ok (P.cellsOf e) w:=by
   cases hi:P.info? e with
   |none=>simp[ha,hi]at M
   |some i=>simp[sizeOf,typeInfo,hi,ha]
  refine⟨.pointer (some ⟨aw,off+n.toNat*P.cellsOf e,none⟩),?_,?_,by simpa[aH]using l⟩
  ·simp only[dy,B];refine fP ?_;have q:n<(m:Int):=by omega
   simp[gj,D f,asIntOf,dg Q,X,gg,C,q,r,lI]
  ·simp only[aC,bX,cg];exact⟨rfl,_,_,_,rfl,zR W J,fun I=>⟨(v I).1,by rw[(v I).2,O]⟩⟩
 ·rename_i b aE al i ap hx
  split at h
  case h_2=>exact h.elim
  rename_i u m F;obtain⟨j,h⟩:=h;obtain⟨e,Q,hk,G,M⟩:=vf F;refine⟨_,h,bF.same fun H w aa ag β z N f _=>?_,s_,rfl⟩;obtain⟨a,l⟩:=f x E;rw[hx]at a l;simp only[aC,bX,cg,aH]at a l;obtain⟨_,aw,off,ao,X,W,v⟩:=a;have J:=zW G (i:=n.toNat) (by simpa using j);have O:((hL m (P.cellsOf e)).take n.toNat).sum=n.toNat*P.cellsOf e:=by rw[hR,j4 o_,hO]
  have r:(sizeOf e).run P w=.ok (P.cellsOf e) w:=by
   cases hi:P.info? e with
   |none=>simp[ha,hi]at M
   |some i=>simp[sizeOf,typeInfo,hi,ha]
  refine⟨.pointer (some ⟨aw,off+n.toNat*P.cellsOf e,none⟩),?_,?_,by simpa[aH]using l⟩
  ·simp only[dy,B];refine fP ?_;have q:n<(m:Int):=by omega
   simp[gj,D f,asIntOf,dg Q,X,gg,C,q,r,lI]
  ·simp only[aC,bX,cg];exact⟨rfl,_,_,_,rfl,zR W J,fun k d I hn=>⟨(v k d I hn).1,by rw[(v k d I hn).2,O];omega⟩⟩
 ·rename_i t hx
  split at h
  case h_2=>exact h.elim
  rename_i u m F;obtain⟨hs,j,h⟩:=h
  split at h
  case h_2=>exact h.elim
  rename_i g af;obtain⟨e,Q,hk,G,M⟩:=vf F;refine⟨_,h,bF.same fun H w aa ag β z N f _=>?_,s_,rfl⟩;obtain⟨a,_⟩:=f x E;rw[hx]at a;simp only[aC,aF]at a;obtain⟨aw,off,ax,k1,k2,k3,k4⟩:=a;have J:=zW G (i:=n.toNat) (by simpa using j);have O:((hL m (P.cellsOf e)).take n.toNat).sum=n.toNat*P.cellsOf e:=by rw[hR,j4 o_,hO]
  have r:(sizeOf e).run P w=.ok (P.cellsOf e) w:=by
   cases hi:P.info? e with
   |none=>simp[ha,hi]at M
   |some i=>simp[sizeOf,typeInfo,hi,ha]
  obtain⟨pre,xs,post,e1,e2,e3⟩:=AO (path:=[(u,n.toNat)]) (s:=g) k1 (by simp[l9,hs,af]) J;refine⟨.pointer (some ⟨aw,off+n.toNat*P.cellsOf e,none⟩),?_,?_,by simp[aH]⟩
  ·simp only[dy,B];refine fP ?_;have q:n<(m:Int):=by omega
   simp[gj,D f,asIntOf,dg Q,k4,gg,C,q,r,lI]
  ·simp only[aC,aF];refine⟨aw,_,xs,e3,k2,?_,rfl⟩;rw[<-O,<-e2];exact uP k3 e1
 ·exact h.elim
theorem aGS{bs:ByteArray}{s:List Nat}(h:s=bs.data.toList.map (·.toNat)){i:Nat}(hi:i<s.length):∃b:UInt8,bs[i]?=some b/\b.toNat=s[i]:=by
 subst h;have a:i<bs.size:=by simpa using hi
 refine⟨bs[i],by simp[a],?_⟩;simp only[List.getElem_map,ca];rfl
theorem Wl{T:dl}{x f:dx}{s:List Nat}{k:em}{n:Int}(e:o.op= .index T x f)(hx:ρ x= .p (.str s))(hi:ρ f= .p (.int k n))(d:jc P T=true)(i:0<=n)(g:n.toNat<s.length):
 bF P o ρ base {v:=.p (.int .u8 (s[n.toNat]'g))}:=by
 refine bF.same fun H w aa ag β m l h _=>?_;have a:=(h x (by simp[e,g0])).1;have c:=(h f (by simp[e,g0])).1;rw[hx]at a;rw[hi]at c;simp only[aC,aF]at a c;obtain⟨bs,e1,e2⟩:=a;obtain⟨b,g1,g2⟩:=aGS e2 g;have j:P.underlying T=some .string:=by
  unfold jc at d
  split at d
  ·assumption
  ·simp at d
 refine⟨.int .u8 b.toNat,?_,by simp[aC,aF,g2],by simp[aH]⟩;simp only[dy,e,e1,c];refine fP ?_;simp[Instr.index,asIntOf,dg j,i,g1]
theorem WE{S D:dl}{x:dx}{k k0:em}{n:Int}(b:o.op= .convert S D x)(e:∃d,P.underlying S=some d)(c:P.underlying D=some (.int k))(hx:ρ x= .p (.int k0 n)):
 bF P o ρ base {v:=.p (.int k (k.wrap n))}:=by
 refine bF.same fun H w aa ag β i h g _=>?_;have a:=(g x (by simp[b,g0])).1;rw[hx]at a;simp only[aC,aF]at a;obtain⟨d,f⟩:=e;refine⟨.int k (k.wrap n),?_,by simp[aC,aF],by simp[aH]⟩;simp only[dy,b,a];refine fP ?_;simp[convert,dg f,dg c,Conv.intToInt]
theorem WD{S D:dl}{x:dx}{s:List Nat}(b:o.op= .convert S D x)(e:∃d,P.underlying S=some d)(c:P.underlying D=some .string)(hx:ρ x= .p (.str s)):
 bF P o ρ base {v:=.p (.str s)}:=by
 refine bF.same fun H w aa ag β i h g _=>?_;have a:=(g x (by simp[b,g0])).1;rw[hx]at a;simp only[aC,aF]at a;obtain⟨bs,e1,e2⟩:=a;obtain⟨d,f⟩:=e;refine⟨.string bs,?_,by simp only[aC,aF];exact⟨bs,rfl,e2⟩,by simp[aH]⟩;simp only[dy,b,e1];refine fP ?_;simp only[convert,hm,dg f,dg c,hl];cases d<;>simp
theorem Xu{b aE al off len:Nat}{k:AK}{d:List AV}{v:db}(h:aC P w aa β H (.sl b aE al off len) v)(i:H[b]?=some (.arr k aE al d)):∃a c,v=.slice a len c:=by
 simp only[aC,bX,cg]at h;obtain⟨e,f,g⟩:=h.2 k d i
 by_cases hn:dQ k d
 ·rw[f hn];have:len=0:=by rw[hn.2]at e;simp at e;omega
  subst this;exact⟨_,_,rfl⟩
 ·exact⟨_,_,g hn⟩
theorem DR:∀{b:List (PV×PV)}{a:List eq},cW P w aa b a->a.length=b.length
 |[],a,h=>by simp only[cW]at h;subst h;rfl
 |(k,v)::r,a,h=>by
  simp only[cW]at h;obtain⟨e,rest,rfl,d,f,c⟩:=h;simp[DR c]
theorem aAP{c:Call}{x:dx}{n:Nat}{aA:List (Nat×Obj)}{H0:ah}(F:o.op= .call c)(hc:c.callee= .builtin .len)(D:c.args.toList=[x])(i:lenOf H0 (ρ x)=some (n,aA))(d:lJ P (c.argTypes.getD 0 0) (ρ x)=true)(N:0<c.argTypes.size):
 bF P o ρ base {v:=.p (.int .i64 n),aA}/\(∀p∈aA,H0[p.1]?=some p.2):=by
 have u:x∈o.op.operands:=by
  rw[F];simp only[g0,Call.operands,hc];simp;rw[<-b1,D];simp
 have I:c.args=#[x]:=by apply b3;simpa using D
 have q:c.argTypes[0]?=some (c.argTypes.getD 0 0):=by simp[cy,N]
 have t:∀{H:ah}{w:dq}{aa:Nat->Prop}{β:Bd}{m:dx->db},((fi c.argTypes o.type #[m x]).run P w= .ok (goInt n) w)->
  ∃cv,(dy m o).run P w=.ok (.value cv) w/\aC P w aa β H (.p (.int .i64 n)) cv/\aH (aN H) (.p (.int .i64 n)):=by
  intro H w aa β m K;refine⟨goInt n,?_,by simp[aC,aF,goInt],by simp[aH]⟩;simp only[dy,F,resolve,hc,I];simp[invoke,builtin,K]
 have M:∀T:dl,jc P T=true->P.underlying T=some .string:=by
  intro T h;unfold jc at h
  split at h
  ·assumption
  ·simp at h
 generalize Q:c.argTypes.getD 0 0=T at*;unfold lenOf at i
 split at i
 ·rename_i s hx;simp at i;obtain⟨rfl,rfl⟩:=i;rw[hx]at d;simp only[lJ]at d;refine⟨bF.same fun H w aa ag β m y j _=>t ?_,s_⟩;have g:=(j x u).1;rw[hx]at g;simp only[aC,aF]at g;obtain⟨bs,e1,e2⟩:=g;have hs:s.length=bs.size:=by rw[e2];simp
  simp[fi,q,dg (M _ d),e1,hs]
 ·rename_i hx;simp at i;obtain⟨rfl,rfl⟩:=i;rw[hx]at d;refine⟨bF.same fun H w aa ag β m y j _=>t ?_,s_⟩;have g:=(j x u).1;rw[hx]at g;simp only[aC,aF]at g;simp only[lJ]at d
  split at d
  ·rename_i e l;simp[fi,q,dg l,g]
  ·simp at d
 ·rename_i hx;simp at i;obtain⟨rfl,rfl⟩:=i;rw[hx]at d;refine⟨bF.same fun H w aa ag β m y j _=>t ?_,s_⟩;have g:=(j x u).1;rw[hx]at g;simp only[aC,aF]at g;simp only[lJ]at d
  split at d
  ·rename_i k e l;simp[fi,q,dg l,g]
  ·simp at d
 ·rename_i f z hx;simp at i;obtain⟨rfl,rfl⟩:=i;rw[hx]at d;refine⟨bF.same fun H w aa ag β m y j _=>t ?_,s_⟩;have g:=(j x u).1;rw[hx]at g;simp only[aC,aF]at g;obtain⟨aw,off,cap,al,G,k1,k2,k3,k4,k5,sp,L,k6⟩:=g;simp only[lJ]at d
  split at d
  ·rename_i e l;simp[fi,q,dg l,k6]
  ·simp at d
 ·rename_i z hx;simp at i;obtain⟨rfl,rfl⟩:=i;rw[hx]at d;refine⟨bF.same fun H w aa ag β m y j _=>t ?_,s_⟩;have g:=(j x u).1;rw[hx]at g;simp only[aC,aF]at g;simp only[lJ]at d
  split at d
  ·rename_i e l;rcases g with⟨rfl,k6⟩|⟨aw,off,cap,al,G,k1,k2,k3,k5,sp,L,k6⟩
   ·simp[fi,q,dg l,k6]
   ·simp[fi,q,dg l,k6]
  ·simp at d
 ·rename_i z hx;simp at i;obtain⟨rfl,rfl⟩:=i;rw[hx]at d;refine⟨bF.same fun H w aa ag β m y j _=>t ?_,s_⟩;have g:=(j x u).1;rw[hx]at g;simp only[aC,aF]at g;obtain⟨r,A,clock,k1,k2,k3,k4⟩:=g;simp only[lJ]at d
  split at d
  ·rename_i k e l;have:=DR k3;have B:(getObj r).run P w=.ok (.map A clock) w:=by simp[getObj,hp,k2]
   simp at this;simp[fi,q,dg l,k4,B,this]
  ·simp at d
 ·rename_i b aE al off len hx
  split at i
  case h_2=>simp at i
  rename_i k R O z C
  split at i
  case isFalse=>simp at i
  rename_i J;obtain⟨rfl,rfl⟩:=J;simp at i;obtain⟨rfl,rfl⟩:=i;rw[hx]at d;refine⟨bF.same fun H w aa ag β m y j aA=>t ?_,by simpa using C⟩;have g:=(j x u).1;rw[hx]at g;obtain⟨a,cp,e1⟩:=Xu g (by simpa using aA);simp only[lJ]at d
  split at d
  ·rename_i e l;simp[fi,q,dg l,e1]
  ·simp at d
 ·rename_i b hx
  split at i
  case h_2=>simp at i
  rename_i fz z C;simp at i;obtain⟨rfl,rfl⟩:=i;rw[hx]at d;refine⟨bF.same fun H w aa ag β m y j aA=>t ?_,by simpa using C⟩;have g:=(j x u).1;rw[hx]at g;simp only[aC,bX,cg]at g;have E:H[b]?=some (.map fz z):=by simpa using aA
  obtain⟨A,clock,k2,k3,_⟩:=y.du b _ E;have e1:=g.2.1 ⟨_,E,rfl⟩;simp only[lJ]at d
  split at d
  ·rename_i k e l;have:=DR k3;have B:(getObj (β.aw b)).run P w=.ok (.map A clock) w:=by simp[getObj,hp,k2]
   simp at this;simp[fi,q,dg l,e1,B,this]
  ·simp at d
 ·simp at i
end
section
variable{P:dp}{w:dq}{aa ag:Nat->Prop}{β:Bd}{H:ah}
variable{o:Oper}{ρ:dx->AV}{base:Nat}
theorem MP:∀(a:List db)(off j:Nat)(cells:Array db),off+j+a.length<=cells.size->
 ((a.zipIdx j).foldl (fun cs(p:db×Nat)=>cs.setIfInBounds (off+p.2) p.1) cells).toList=cells.toList.take (off+j)++a++cells.toList.drop (off+j+a.length)
 |[],off,j,cells,_=>by simp
 |x::a,off,j,cells,h=>by
  simp only[List.zipIdx_cons,List.foldl_cons];rw[MP a off (j+1) _ (by simp at h⊢;omega)];simp only[Array.toList_setIfInBounds,h4];have d:off+j<cells.toList.length:=by simp at h⊢;omega
  rw[show off+(j+1)=off+j+1 by omega];have b:(cells.toList.set (off+j) x).take (off+j+1)=cells.toList.take (off+j)++[x]:=by
   rw[List.take_succ_eq_append_getElem (by simpa using d)];rw[List.take_set_of_le (j3 _)];simp
  have c:(cells.toList.set (off+j) x).drop (off+j+1+a.length)=cells.toList.drop (off+j+(a.length+1)):=by
   rw[List.drop_set_of_lt o_];congr 1;omega
  rw[b,c];simp
theorem VL{a c post b:List db}(h:b.length=c.length):((a++c++post).take a.length++b++(a++c++post).drop (a.length+b.length))=a++b++post:=by
 rw[h];simp
theorem DP{l:List Nat}{place:Nat->Option (Nat×Nat)}(q:∀i n,l[i]?=some n->place i=some ((l.take i).sum,n)):
 ∀{parts:List (Nat×AV)}{g:List (Nat×db)}{fs:List AV}{e:List (List db)}{cells:Array db},g.map lc=parts.map lc->(∀i:Nat,aC P w aa β H (((parts[i]?).map lb).getD (.p .undef)) (((g[i]?).map lb).getD undef))->
  ni P l parts->bV P w aa β H l fs e->cells.toList=e.flatten->
  ∃f j,gy place cells g=some f/\bV P w aa β H l (iZ fs parts) j/\f.toList=j.flatten
 |[],[],fs,e,cells,_,_,_,h,hc=>⟨cells,e,rfl,h,hc⟩
 |[],_::_,_,_,_,b,_,_,_,_=>by simp at b
 |_::_,[],_,_,_,b,_,_,_,_=>by simp at b
 |(i,a)::parts,(d,v)::g,fs,e,cells,b,r,m,h,hc=>by
  simp only[hZ,List.cons.injEq]at b;obtain⟨rfl,b⟩:=b;simp only[ni]at m;obtain⟨⟨n,hn,hs,y⟩,m⟩:=m;have D:aC P w aa β H a v:=by simpa using r 0
  have u:=fun k=>r (k+1);simp only[ix]at u;have I:=zS h;have G:d<l.length:=(hK.1 hn).1;have z:d<fs.length:=o_
  obtain⟨pre,c,post,e1,e2,e3,e4,e5,e6⟩:=vo h (hQ z);have F:c.length=n:=by rw[hn]at e4;simpa using e4.symm
  have s:=Ak D y;have t:v.cells.toList.length=n:=by rw[(pE s).1,hs]
  obtain⟨j,k1,k2⟩:=e6 a _ s o_;have C:cells.size=pre.length+c.length+post.length:=by
   have:=congrArg ih (hc.trans e1);simp at this;omega
  have E:v.cells.size=n:=by simpa using t
  obtain⟨pQ,o⟩:∃pQ,(v.cells.zipIdx.foldl (fun cs(p:db×Nat)=>cs.setIfInBounds ((l.take d).sum+p.2) p.1) cells)=pQ:=⟨_,rfl⟩
  have A:pQ.toList=j.flatten:=by
   rw[<-o,k1];have:=MP v.cells.toList (l.take d).sum 0 cells (by rw[<-e2];simp at t⊢;omega);rw[<-cc];simp only[Array.toList_zipIdx];rw[this,hc,e1,j7,<-e2];exact VL o_
  obtain⟨f,x,g1,g2,g3⟩:=DP q b u m k2 A;refine⟨f,x,?_,by simpa only[iZ]using g2,g3⟩;have B:¬(v.cells.size≠n\/(l.take d).sum+v.cells.size>cells.size):=by
   rw[E,C,<-e2];omega
  simp only[gy,q d n hn];simp only[Bool.or_eq_true,decide_eq_true_eq,B,if_false];simp only[<-o]at g1;exact g1
end
section
variable{P:dp}{w:dq}{aa ag:Nat->Prop}{β:Bd}{H:ah}
variable{o:Oper}{ρ:dx->AV}{base:Nat}
theorem Kj{α γ:Type}(f:α->Sem γ)(g:α->γ)(w:dq):∀l:List α,(∀a∈l,(f a).run P w=.ok (g a) w)->(l.mapM f).run P w=.ok (l.map g) w
 |[],_=>by simp
 |a::l,h=>by
  simp only[jp,hm,h a s_,hl,Kj f g w l (fun b c=>h b (by simp[c])),hZ];rfl
theorem Vo{α γ:Type}(f:α->Sem γ)(g:α->γ)(w:dq)(a:Array α)(h:∀x∈a.toList,(f x).run P w=.ok (g x) w):(a.mapM f).run P w=.ok (a.toList.map g).toArray w:=by
 rw[b4,hr,Kj f g w _ h];rfl
theorem LV{ρc:dx->db}{parts:Array (Nat×dx)}(h:∀p∈parts.toList,aC P w aa β H (ρ p.2) (ρc p.2)):
 ((parts.map fun(i,x)=>(i,ρc x)).toList).map lc=(parts.toList.map fun(i,x)=>(i,ρ x)).map lc/\
 ∀i:Nat,aC P w aa β H ((((parts.toList.map fun(i,x)=>(i,ρ x))[i]?).map lb).getD (.p .undef)) ((((parts.map fun(i,x)=>(i,ρc x)).toList[i]?).map lb).getD undef):=by
 refine⟨by simp[Function.comp_def],fun i=>?_⟩;simp only[ck,i5];cases a:parts.toList[i]? with
 |none=>simp[aC,aF]
 |some p=>simpa using h p (hU a)
theorem Ed{S:Nat×Nat->Prop}:∀{parts:List (Nat×AV)}{fs:List AV},aZ S fs->(∀p∈parts,aH S p.2)->aZ S (iZ fs parts)
 |[],fs,h,_=>h
 |(i,v)::r,fs,h,a=>by
  simp only[iZ];refine Ed ?_ (fun p b=>a p (by simp[b]));rw[dP]at h⊢;intro x hx;rcases hV hx with hx|rfl
  ·exact h x hx
  ·exact a (i,x) s_
theorem LW{c:Array (Nat×dx)}{p:Nat×dx}(a:p∈c.toList):p.2∈((c.toList.map (·.2)).toArray:Array dx):=by
 simp;exact⟨p.1,by simpa using a⟩
theorem YO{T u:dl}{z:PV}{l:List Nat}{parts:Array (Nat×dx)}(s:o.op= .build T parts)(hk:kindOf P T= .agg u)(hz:cG P T=some z)(m:dw P u=some l)(hs:aL z= .agg u)
 (L:ni P l (parts.toList.map fun(i,x)=>(i,ρ x))):bF P o ρ base {v:=iM u (iZ ((bW z).map .p) (parts.toList.map fun(i,x)=>(i,ρ x)))}:=by
 obtain⟨i,Y,z1,z2,z3,z4⟩:=uI hz;refine bF.same fun H w aa ag β g ad Q _=>?_;have D:∀p∈parts.toList,aC P w aa β H (ρ p.2) (g p.2)/\aH (aN H) (ρ p.2):=fun p c=>Q p.2 (by rw[s];exact LW c);obtain⟨S,U⟩:=LV (ρ:=ρ) (ρc:=g) (parts:=parts) (fun p c=>(D p c).1);have E:=z3 w aa;obtain⟨fs,rfl⟩:∃fs,z=.st u fs:=by cases z<;>simp[aL]at hs;subst hs;exact⟨_,rfl⟩
 simp only[aX]at E;obtain⟨R,Z,q1,V,W⟩:=E;rw[m]at q1;cases q1
 have B:∀t:Nat->Option (Nat×Nat),(∀i n,l[i]?=some n->t i=some ((l.take i).sum,n))->
  (∀cells,gy t Y.cells (parts.map fun(i,x)=>(i,g x)).toList=some cells->(dy g o).run P w=.ok (.value (.agg cells)) w)->
  ∃cv,(dy g o).run P w=.ok (.value cv) w/\aC P w aa β H (iM u (iZ ((bW (.st u fs)).map .p) (parts.toList.map fun(i,x)=>(i,ρ x)))) cv/\
   aH (aN H) (iM u (iZ ((bW (.st u fs)).map .p) (parts.toList.map fun(i,x)=>(i,ρ x)))):=by
  intro t M O;obtain⟨I,J,g1,g2,g3⟩:=DP M S U L (pD.2 V) W;refine⟨.agg I,O _ g1,?_,Dx (Ed (jM _ _) ?_)⟩
  ·rw[Zt];simp only[aC];exact⟨l,J,m,g2,by rw[<-g3]⟩
  ·intro p c;simp only[j1]at c;obtain⟨q,hq,rfl⟩:=c;exact(D q hq).2
 have d:=hk;unfold kindOf at d
 split at d
 ·rename_i a b;have aS:eC P T=some (u,a.size):=by unfold eC;rw[hk,b]
  obtain⟨ab,R,s1,s2,y,r,X,F⟩:=xc aS;rw[b]at s1;cases s1;rw[m]at r;cases r;have N:(a.mapM fun f=>(do pure (f.offset,<-sizeOf f.type):Sem (Nat×Nat))).run P w=.ok (a.toList.map fun f:Field=>(f.offset,P.cellsOf f.type)).toArray w:=by
   refine Vo _ _ w _ (fun f hf=>?_);obtain⟨j,k,rfl⟩:=List.mem_iff_getElem.1 hf;obtain⟨A,g1,g2,g3,g4,g5⟩:=F j (by simpa using k);have:a[j]'(by simpa using k)=A:=by
    have C:a[j]?=some (a[j]'(by simpa using k)):=Array.getElem?_eq_getElem (by simpa using k);rw[g1]at C;exact(la C).symm
   simp only[ca,this];simp[G g4]
  refine B (fun i=>(a.toList.map fun f:Field=>(f.offset,P.cellsOf f.type)).toArray[i]?) ?_ (fun cells hc=>?_)
  ·intro i n hn;have hi:i<a.size:=by rw[<-X];exact(hK.1 hn).1
   obtain⟨A,g1,g2,g3,g4,g5⟩:=F i hi;rw[hn]at g3;simp only[List.getElem?_toArray,i5,bw,g1];simp[g2,la g3]
  ·simp only[dy,s];refine fP ?_;simp only[gU,hm,xl z1 z2,hl,dg b,N,hc,ho]
 ·rename_i n e b;have K:iJ P T=some (u,n):=by unfold iJ;rw[hk,b]
  obtain⟨e',s1,s2,y,r⟩:=vf K;rw[b]at s1;cases s1;rw[m]at y;cases y;refine B (fun i=>some (i*P.cellsOf e,P.cellsOf e)) ?_ (fun cells hc=>?_)
  ·intro i ae hn;rw[hS]at hn
   split at hn
   ·rename_i ac;simp at hn;subst hn;rw[hR,j4 o_,hO]
   ·simp at hn
  ·simp only[dy,s];refine fP ?_;simp only[gU,hm,xl z1 z2,hl,dg b,G r,hc,ho]
 ·split at d<;>simp at d
 ·simp at d
where
 G {P:dp} {w:dq} {T:dl} (h:0<P.cellsOf T):(sizeOf T).run P w=.ok (P.cellsOf T) w:=by
  cases hi:P.info? T with
  |none=>simp[ha,hi]at h
  |some i=>simp[sizeOf,typeInfo,hi,ha]
theorem Kd(a:Array db)(n:Nat)(_h:0<a.size):((b0 (n*a.size)).map (a[·% a.size]!)).toList=(hL n a.toList).flatten:=by
 simp only[ck,Array.toList_range]
 induction n with
 |zero=>simp
 |succ n c=>
  rw[kk,List.range_add,List.map_append,c,List.replicate_succ',i2];congr 1;simp only[List.map_map,hX,List.flatten_nil,jh];refine List.ext_getElem s_ (fun i b d=>?_);simp at b;simp[Nat.mul_add_mod_self_right,Nat.mod_eq_of_lt b,b,getElem!_pos]
theorem Dq{z:PV}{a:List db}(h:aX P w aa z a):∀n:Nat,Row P w aa β H a.length (hL n (.p z)) (hL n a)
 |0=>iS.2 rfl
 |n+1=>by
  rw[h1,h1,sD];exact⟨a,_,rfl,by simpa only[bB]using h,rfl,Dq h n⟩
theorem DH(d:cj P w aa β H ag){b:Nat}(c:H[b]?=some .hole){cells:Array db}{T:dl}{k:AK}{al cap:Nat}{a:List AV}{e:List (List db)}{rest:List db}(g:k≠ .frozen)(n:¬dQ k a)
 (o:Row P w aa β H al a e)(i:aZ (aN H) a)(hc:cells.toList=e.flatten++rest)(p:cells.size=cap*al)(m:a.length<=cap)(l:k=.exact->cap=a.length)(q:k=.bytes->T=Gl.u8):
 cd P ag aa w β H aa {w with heap:=w.heap.push (.cells cells T)} (β.at b w.heap.size cap) (H.set b (.arr k 0 al a))/\
 aC P {w with heap:=w.heap.push (.cells cells T)} aa (β.at b w.heap.size cap) (H.set b (.arr k 0 al a)) (.sl b 0 al 0 a.length) (.slice (some ⟨w.heap.size,0,none⟩) a.length cap):=by
 have aS:=Ax (β:=β) c (.arr k 0 al a) w.heap.size cap;have aA:∀y,aN H y->aN (H.set b (.arr k 0 al a)) y:=pF c (fun _ h=>h.elim);have j:=(hK.1 c).1;refine⟨uZ (cap:=cap) d c (ob:=.cells cells T)
  (.inr ⟨cells,T,e,rest,by simp[Bd.at],bV.mono (fun _ x=>x) (fun k hk=>xn _ _ (d.b8 k hk)) aS _ _ _ i o,hc,by simp[Bd.at,p],by simpa[Bd.at]using m,by simpa[Bd.at]using l,by
   unfold dD;rw[if_neg (by simpa using g)];simp only[Bd.at,if_true];exact⟨fun h=>j5 _ (d.b8 _ h),fun h=>j5 _ (d.fg _ h)⟩,(fun h=>(g h).elim),q⟩) (aZ.mono aA _ i),?_⟩
 simp only[aC,bX,cg];refine⟨rfl,fun s r f=>?_⟩;unfold iD at f;rw[hM j]at f;cases f;exact⟨o_,fun h=>(n h).elim,fun _=>by simp[Bd.at]⟩
theorem Vp{T:dl}{n sz:Nat}{z:PV}{parts:Array (Nat×dx)}(B:o.op= .buildSlice T n parts)(a:dj P T=some sz)(hz:cG P (fw P T)=some z)(hs:bP P (aL z)=sz)(hn:n*sz<=1000000)
 (N:ni P (hL n sz) (parts.toList.map fun(i,x)=>(i,ρ x))):
 bF P o ρ base {v:=.sl base 0 sz 0 n,ba:=[.arr .exact 0 sz (iZ (hL n (.p z)) (parts.toList.map fun(i,x)=>(i,ρ x)))]}:=by
 obtain⟨e,ac,a⟩:=nY a;obtain⟨i,d,z1,z2,z3,z4⟩:=uI hz;rw[a.ue]at z1;intro H w aa ag β s O W _ L;have A:H[base]?=some .hole:=by simpa using L 0 s_
 have C:∀p∈parts.toList,aC P w aa β H (ρ p.2) (s p.2)/\aH (aN H) (ρ p.2):=fun p b=>W p.2 (by rw[B];exact LW b);obtain⟨X,Y⟩:=LV (ρ:=ρ) (ρc:=s) (parts:=parts) (fun p b=>(C p b).1);have E:=z3 w aa;have r:d.cells.size=sz:=by have:=(sr E).1;simp at this;omega
 have m:=Dq (β:=β) (H:=H) E n;have V:d.cells.toList.length=sz:=by simpa using r
 rw[V]at m;obtain⟨u,l⟩:∃c,c=(b0 (n*sz)).map (d.cells[·% d.cells.size]!):=⟨_,rfl⟩
 have M:u.toList=(hL n d.cells.toList).flatten:=by
  rw[l,<-r];exact Kd _ _ (by rw[r];exact a.pos)
 have R:bV P w aa β H (hL n sz) (hL n (.p z)) (hL n d.cells.toList):=by
  unfold Row at m;simpa using m
 obtain⟨t,G,g1,g2,g3⟩:=DP (place:=fun i=>some (i*sz,sz)) (by
  intro i ab g;rw[hS]at g
  split at g
  ·rename_i Z;simp at g;subst g;rw[hR,j4 o_,hO]
  ·simp at g) X Y N R M
 have j:(iZ (hL n (.p z)) (parts.toList.map fun(i,x)=>(i,ρ x))).length=n:=by
  have:=(zS g2).2.1;simpa using this
 have D:Row P w aa β H sz (iZ (hL n (.p z)) (parts.toList.map fun(i,x)=>(i,ρ x))) G:=by unfold Row;rw[j];exact g2
 have Q:aZ (aN H) (iZ (hL n (.p z)) (parts.toList.map fun(i,x)=>(i,ρ x))):=by
  refine Ed ?_ ?_
  ·rw[dP];intro v U;rw[h3 U];simp[aH]
  ·intro p b;simp only[j1]at b;obtain⟨q,hq,rfl⟩:=b;exact(C q hq).2
 have K:t.size=n*sz:=by
  have y:=(jb D).2;rw[j,<-g3]at y;simpa using y
 have S:(dy s o).run P w=.ok (.value (.slice (some ⟨w.heap.size,0,none⟩) n n)) {w with heap:=w.heap.push (.cells t e)}:=by
  simp only[dy,B];have I:¬(n*sz>2^24):=o_
  have J:n*sz=0->(b0 (n*sz)).map ((#[]:Array db)[·% (#[]:Array db).size]!)=u:=by
   intro f;rw[l,f];simp
  refine xa ?_;simp only[Instr.buildSlice,hm,dg a.jo,hl,a.run,if_neg I]
  by_cases f:n*sz=0
  ·rw[if_pos f];simp only[hm,ho,hl,J f,g1,newRow,en]
  ·rw[if_neg f];simp only[hm,ho,hl,xl z1 z2,<-l,g1,newRow,en]
 obtain⟨q1,F⟩:=DH (T:=e) (k:=.exact) O A s_ (by simp[dQ,AK.gr]) D Q (rest:=[]) (by simpa using g3) (by rw[K]) (by omega:_<=n) (fun _=>j.symm) (fun h=>by cases h);rw[j]at F;exact⟨_,_,_,_,aa,S,.inl rfl,q1,F,by
  simp only[aH,mU];exact⟨_,hM (hK.1 A).1,j3 _⟩⟩
theorem Vx{T:dl}{lo q:dx}{sz:Nat}{z:PV}{l:Int}(t:o.op= .makeSlice T lo q)(a:dj P T=some sz)(hz:cG P (fw P T)=some z)(K:ρ lo= .p (.int .i64 l))(hc:ρ q= .p (.int .i64 l))
 (hs:bP P (aL z)=sz)(b:0<=l)(L:l<=dc):bF P o ρ base {v:=.sl base 0 sz 0 l.toNat,ba:=[.arr .exact 0 sz (hL l.toNat (.p z))]}:=by
 obtain⟨e,d,a⟩:=nY a;obtain⟨i,g,z1,z2,z3,z4⟩:=uI hz;rw[a.ue]at z1;intro H w aa ag β W M B _ J;have u:H[base]?=some .hole:=by simpa using J 0 s_
 have r:=(B lo (by simp[t,g0])).1;have j:=(B q (by simp[t,g0])).1;rw[K]at r;rw[hc]at j;simp only[aC,aF]at r j;have A:=z3 w aa;have m:g.cells.size=sz:=by have:=(sr A).1;simp at this;omega
 obtain⟨n,rfl⟩:=Int.eq_ofNat_of_zero_le b;have y:=Dq (β:=β) (H:=H) A n;have V:g.cells.toList.length=sz:=by simpa using m
 rw[V]at y;obtain⟨f,s⟩:∃c,c=(b0 (n*sz)).map (g.cells[·% g.cells.size]!):=⟨_,rfl⟩
 have x:f.toList=(hL n g.cells.toList).flatten:=by
  rw[s,<-m];exact Kd _ _ (by rw[m];exact a.pos)
 have hn:n<=1073741824:=by unfold dc at L;omega
 have D:d.bytes*n<=32768*1073741824:=kb (by have:=a.bytes;omega) hn;have N:(dy W o).run P w=.ok (.value (.slice (some ⟨w.heap.size,0,none⟩) n n)) {w with heap:=w.heap.push (.cells f e)}:=by
  simp only[dy,t,r,j];have U:IntKind.i64.wrap (n:Int)=n:=IntWalk.i64_in _ o_;have O:¬((n:Int)<0):=o_
  have Q:¬((d.bytes:Int)*n>2^48):=by
   intro I;have j:d.bytes*n<=35184372088832:=D;have X:((d.bytes*n:Nat):Int)>281474976710656:=by rw[Int.natCast_mul];exact I
   omega
  have E:n*sz=0->(b0 (n*sz)).map ((#[]:Array db)[·% (#[]:Array db).size]!)=f:=by
   intro b;rw[s,b];simp
  have R:(typeInfo e).run P w=.ok d w:=by simp[typeInfo,a.info]
  have F:((decide ((n:Int)<0)||decide ((d.bytes:Int)*n>2^48))||decide ((n:Int)<0)||decide ((n:Int)>n))=false:=by
   simp only[O,Q,decide_false,Bool.or_false,Bool.false_or];simp
  refine xa ?_;simp only[Instr.makeSlice,hm,dg a.jo,hl,asInt,asIntOf,ho,R,U];rw[if_neg (by simpa using F)];simp only[hm,run_askRoom,hl,a.run,Int.toNat_natCast]
  by_cases b:n*sz=0
  ·rw[if_pos b];simp only[hm,ho,hl,E b,newRow,en]
  ·rw[if_neg b];simp only[hm,ho,hl,xl z1 z2,<-s,newRow,en]
 have G:f.size=n*sz:=by
  have:=congrArg ih x;simp at this;rw[this];simp[m]
 obtain⟨q1,C⟩:=DH (T:=e) (k:=.exact) M u (cells:=f) (cap:=n) s_ (by simp[dQ,AK.gr]) y (by
  rw[dP];intro v S;rw[h3 S];simp[aH]) (rest:=[]) (by simpa using x) G s_ (fun _=>by simp) (fun h=>by cases h)
 simp only[List.length_replicate]at C;exact⟨_,_,_,_,aa,N,.inl rfl,q1,C,by
  simp only[aH,mU];exact⟨_,hM (hK.1 u).1,j3 _⟩⟩
end
section
variable{P:dp}{w:dq}{aa ag:Nat->Prop}{β:Bd}{H:ah}
variable{o:Oper}{ρ:dx->AV}{base:Nat}
theorem n7{x:Option dx}{d:Nat}{R:Nat->Prop}(h:ju (x.map ρ) d R):
 ∃n,R n/\((x=none/\n=d)\/∃y k,x=some y/\ρ y=.p (.int k n)):=by
 cases x with
 |none=>exact⟨d,h,.inl ⟨rfl,rfl⟩⟩
 |some y=>
  simp only[Option.map_some,ju]at h
  split at h
  ·rename_i hx;cases hx
  ·rename_i k i hx;simp at hx;obtain⟨a,h⟩:=h;refine⟨i.toNat,h,.inr ⟨y,k,rfl,?_⟩⟩;rw[hx,Int.toNat_of_nonneg a]
  ·exact h.elim
theorem uM{lo hi:Option dx}{ρc:dx->db}{b:Bool}{len cap d h l:Nat}(j:d=len)(m:(hi=none/\h=d)\/∃y k,hi=some y/\ρ y= .p (.int k h))(n:(lo=none/\l=0)\/∃y k,lo=some y/\ρ y= .p (.int k l))
 (f:h<=cap)(g:l<=h)(e:∀y,(hi=some y\/lo=some y)->aC P w aa β H (ρ y) (ρc y)):(gi b len cap (lo.map ρc) (hi.map ρc) none).run P w=.ok (l,h,cap) w:=by
 subst j;rcases m with⟨rfl,rfl⟩|⟨y,k,rfl,i⟩<;>rcases n with⟨rfl,rfl⟩|⟨z,o,rfl,hz⟩
 ·simp[gi]
 ·have c:=e z (.inr rfl);rw[hz]at c;simp only[aC,aF]at c;simp[gi,c,gt,asIntOf,g]
 ·have a:=e y (.inl rfl);rw[i]at a;simp only[aC,aF]at a;simp[gi,a,gt,asIntOf,f]
 ·have a:=e y (.inl rfl);rw[i]at a;simp only[aC,aF]at a;have c:=e z (.inr rfl);rw[hz]at c;simp only[aC,aF]at c;simp[gi,a,c,gt,asIntOf,f,g]
theorem wY{T e:dl}(b:P.underlying T=some (.slice e))(x:db)(lo hi a:Option db)(w:dq):(gm T x lo hi a).run P w=(ge T x lo hi a).run P w:=by
 simp only[gm,hm,dg b,hl]
theorem VI{T:dl}(b:P.underlying T=some .string)(x:db)(lo hi a:Option db)(w:dq):(gm T x lo hi a).run P w=(ge T x lo hi a).run P w:=by
 simp only[gm,hm,dg b,hl]
theorem uQ{T:dl}{x y:dx}{lo hi b:Option dx}(a:o.op=.slice T x lo hi b)(h:hi=some y\/lo=some y):y∈o.op.operands:=by
 rw[a];simp only[g0];rcases h with rfl|rfl<;>simp
theorem zX{T:dl}(h:jc P T=true):P.underlying T=some .string:=by
 unfold jc at h
 split at h
 ·assumption
 ·simp at h
theorem xm{al:Nat}:∀{l:List AV},gf P al l↔∀v∈l,ad v≠.bad/\bP P (ad v)=al
 |[]=>by simp[gf]
 |v::l=>by simp[gf,xm (l:=l)]
theorem u6{sz al:Nat}{a:List AV}{d:List (List db)}(b:Row P w aa β H al a d)(hs:gf P sz a)(g:a≠[]):al=sz:=by
 cases a with
 |nil=>exact(g rfl).elim
 |cons v a=>
  rw[sD]at b;obtain⟨c,cs,rfl,e,f,_⟩:=b;have:=(xm.1 hs v s_).2;rw[<-f,(pE e).1,this]
theorem Nz{al:Nat}{d:List PV}{e:List (List db)}(h:bn P w aa (hL d.length al) d e)(off len:Nat)(f:off+len<=d.length):
 ∃a b c,e=a++b++c/\bn P w aa (hL ((d.drop off).take len).length al) ((d.drop off).take len) b/\a.flatten.length=off*al:=by
 have g:Row P w aa ⟨id,id⟩ [] al (d.map .p) e:=nr.2 h;obtain⟨a,b,c,e1,e2,e3,_⟩:=n6 g off len (by simpa using f);rw[Dv,nr]at e2;exact⟨a,b,c,e1,e2,e3⟩
theorem YL{T:dl}{x:dx}{lo hi:Option dx}(q:o.op= .slice T x lo hi none){H0:ah}{K:aY->Prop}(h:pL P T H0 (ρ x) (lo.map ρ) (hi.map ρ) K):
 ∃e,K e/\bF P o ρ base e/\(∀p∈e.aA,H0[p.1]?=some p.2)/\e.aO=[]:=by
 unfold pL at h;have I:x∈o.op.operands:=by rw[q];simp[g0]
 split at h
 ·
  rename_i s hx;obtain⟨ac,h⟩:=h;have Y:=zX ac;obtain⟨l,h,B⟩:=n7 h;obtain⟨f,h,C⟩:=n7 h;obtain⟨z,A,h⟩:=h;refine⟨_,h,bF.same fun H w aa ag β n u m _=>?_,s_,rfl⟩;have j:=(m x I).1;rw[hx]at j;simp only[aC,aF]at j;obtain⟨bs,e1,e2⟩:=j;have ad:s.length=bs.size:=by rw[e2];simp
  have t:=uM (P:=P) (w:=w) (aa:=aa) (β:=β) (H:=H) (b:=false) (cap:=bs.size) (ρ:=ρ) (ρc:=n) ad B C o_ A (fun y v=>(m y (uQ q v)).1);refine⟨.string (bs.extract f l),?_,?_,by simp[aH]⟩
  ·simp only[dy,q,e1];refine fP ?_;rw[VI Y];simp only[ge,hm,dg Y,hl,kr,Option.isSome_none];simp[t]
  ·simp only[aC,aF];refine⟨_,rfl,?_⟩;rw[e2,<-ik,<-j0,Go.Lib.extract_data,h6]
 ·
  rename_i hx;obtain⟨g,h⟩:=h;obtain⟨sz,g⟩:=kv.1 g;obtain⟨e,U,g⟩:=nY g;obtain⟨l,h,B⟩:=n7 h;obtain⟨f,h,C⟩:=n7 h;obtain⟨z,A,E⟩:=h;obtain rfl:l=0:=o_
  obtain rfl:f=0:=o_
  refine⟨_,E,bF.same fun H w aa ag β n u m _=>?_,s_,rfl⟩;have j:=(m x I).1;rw[hx]at j;simp only[aC,aF]at j;have t:=uM (P:=P) (w:=w) (aa:=aa) (β:=β) (H:=H) (b:=true) (cap:=0) (ρ:=ρ) (ρc:=n) (len:=0) (d:=0) rfl B C o_ A (fun y v=>(m y (uQ q v)).1);refine⟨.slice none 0 0,?_,by rw[hx];simp[aC,aF],by rw[hx];simp[aH]⟩;simp only[dy,q,j];refine fP ?_;rw[wY g.jo];simp only[ge,hm,dg g.jo,hl,kr,t,g.run];simp
 ·
  rename_i full es hx;obtain⟨l,h,B⟩:=n7 h;obtain⟨f,h,C⟩:=n7 h;obtain⟨z,A,h⟩:=h
  split at h
  case h_2=>exact h.elim
  rename_i sz g;obtain⟨Q,h⟩:=h;obtain⟨e,U,g⟩:=nY g;refine⟨_,h,bF.same fun H w aa ag β n u m _=>?_,s_,rfl⟩;have j:=(m x I).1;rw[hx]at j;simp only[aC,aF]at j;obtain⟨aw,off,cap,al,V,v1,v2,v3,v4,v5,sp,R,v6⟩:=j;have S:cap≠f->sp=none:=fun h=>R.resolve_right o_;have t:=uM (P:=P) (w:=w) (aa:=aa) (β:=β) (H:=H) (b:=true) (cap:=cap) (ρ:=ρ) (ρc:=n) rfl B C o_ A (fun y v=>(m y (uQ q v)).1);refine⟨.slice (some (if cap=f then⟨aw,off,sp⟩else⟨aw,off+f*sz,none⟩)) (l-f) (cap-f),?_,?_,by simp[aH]⟩
  ·simp only[dy,q,v6];refine fP ?_;rw[wY g.jo];simp only[ge,hm,dg g.jo,hl,kr,t,g.run]
   by_cases hc:cap=f
   ·simp[hc]
   ·obtain rfl:=S hc;simp[hc,lI]
  ·have G:((es.take l).drop f).length=l-f:=by simp;omega
   simp only[aC,aF,G]
   by_cases D:es=[]
   ·subst D;simp at z;subst z;obtain rfl:f=0:=by omega
    by_cases hc:cap=0
    ·exact⟨aw,off,cap,sz,[],by simp[bn],s_,by intro i hi;simp at hi,fun _=>by simpa using hc,s_,sp,.inr hc,by simp[hc]⟩
    ·exact⟨aw,off,cap,sz,[],by simp[bn],s_,by intro i hi;simp at hi,fun hf=>by simp at hf;simpa using v4 hf,s_,none,.inl rfl,by simp[hc]⟩
   ·have N:al=sz:=u6 (w:=w) (aa:=aa) (β:=β) (H:=H) (nr.2 v1) Q (by simpa using D);subst N;obtain⟨a,b,c,e1,e2,e3⟩:=Nz v1 f (l-f) o_;rw[<-h6]at e2;have aj:(es.drop f).take (l-f)=(es.take l).drop f:=by rw[h6]
    rw[G]at e2
    by_cases hc:cap=f
    ·obtain rfl:l=f:=by omega
     have M:b=[]:=by
      have:=(xb e2).2.2;simpa using this
     subst M;refine⟨aw,off,cap-l,al,[],by simpa using e2,fun _=>v2 D,by intro i hi;simp at hi,?_,o_,sp,.inr o_,by simp[hc]⟩;intro _;omega
    ·refine⟨aw,off+f*al,cap-f,al,b,e2,fun _=>v2 D,?_,?_,o_,none,.inl rfl,by simp[hc]⟩
     ·have:=uP v3 (pre:=a.flatten) (xs:=b.flatten) (post:=c.flatten) (by rw[e1];simp);rw[e3]at this;exact this
     ·intro hf;simp at hf;have:=v4 hf.1;omega
 ·
  rename_i es hx;obtain⟨l,h,B⟩:=n7 h;obtain⟨f,h,C⟩:=n7 h;obtain⟨z,A,h⟩:=h
  split at h
  case h_2=>exact h.elim
  rename_i sz g;obtain⟨Q,h⟩:=h;obtain⟨e,U,g⟩:=nY g;refine⟨_,h,bF.same fun H w aa ag β n u m _=>?_,s_,rfl⟩;have j:=(m x I).1;rw[hx]at j;simp only[aC,aF]at j;rcases j with⟨rfl,j⟩|⟨aw,off,cap,al,V,v1,v2,v3,v5,sp,R,v6⟩
  ·simp at z;subst z;obtain rfl:f=0:=by omega
   have t:=uM (P:=P) (w:=w) (aa:=aa) (β:=β) (H:=H) (b:=true) (cap:=0) (ρ:=ρ) (ρc:=n) (len:=0) (d:=0) rfl B C o_ A (fun y v=>(m y (uQ q v)).1);refine⟨.slice none 0 0,?_,by simp[aC,aF],by simp[aH]⟩;simp only[dy,q,j];refine fP ?_;rw[wY g.jo];simp only[ge,hm,dg g.jo,hl,kr,t,g.run];simp
  have S:cap≠f->sp=none:=fun h=>R.resolve_right o_;have t:=uM (P:=P) (w:=w) (aa:=aa) (β:=β) (H:=H) (b:=true) (cap:=cap) (ρ:=ρ) (ρc:=n) rfl B C o_ A (fun y v=>(m y (uQ q v)).1);refine⟨.slice (some (if cap=f then⟨aw,off,sp⟩else⟨aw,off+f*sz,none⟩)) (l-f) (cap-f),?_,?_,by simp[aH]⟩
  ·simp only[dy,q,v6];refine fP ?_;rw[wY g.jo];simp only[ge,hm,dg g.jo,hl,kr,t,g.run]
   by_cases hc:cap=f
   ·simp[hc]
   ·obtain rfl:=S hc;simp[hc,lI]
  ·have G:((es.take l).drop f).length=l-f:=by simp;omega
   simp only[aC,aF,G];right
   by_cases D:es=[]
   ·subst D;simp at z;subst z;obtain rfl:f=0:=by omega
    by_cases hc:cap=0
    ·exact⟨aw,off,cap,sz,[],by simp[bn],s_,by intro i hi;simp at hi,s_,sp,.inr hc,by simp[hc]⟩
    ·exact⟨aw,off,cap,sz,[],by simp[bn],s_,by intro i hi;simp at hi,s_,none,.inl rfl,by simp[hc]⟩
   ·have N:al=sz:=u6 (w:=w) (aa:=aa) (β:=β) (H:=H) (nr.2 v1) Q (by simpa using D);subst N;obtain⟨a,b,c,e1,e2,e3⟩:=Nz v1 f (l-f) o_;rw[<-h6]at e2;rw[G]at e2
    by_cases hc:cap=f
    ·obtain rfl:l=f:=by omega
     have M:b=[]:=by
      have:=(xb e2).2.2;simpa using this
     subst M;exact⟨aw,off,cap-l,al,[],by simpa using e2,fun _=>v2 D,by intro i hi;simp at hi,o_,sp,.inr o_,by simp[hc]⟩
    ·refine⟨aw,off+f*al,cap-f,al,b,e2,fun _=>v2 D,?_,o_,none,.inl rfl,by simp[hc]⟩;have:=uP v3 (pre:=a.flatten) (xs:=b.flatten) (post:=c.flatten) (by rw[e1];simp);rw[e3]at this;exact this
 ·
  rename_i b aE al off len hx
  split at h
  case h_2=>exact h.elim
  rename_i k ak ai es O;obtain⟨rfl,rfl,g,L,hlen,h⟩:=h;obtain⟨l,h,B⟩:=n7 h;obtain⟨f,h,C⟩:=n7 h;obtain⟨z,A,E⟩:=h;obtain⟨e,U,g⟩:=nY g
  have key:∀(H:ah)(w:dq)(aa ag:Nat->Prop)(β:Bd)(n:dx->db),cj P w aa β H ag->(∀x∈o.op.operands,aC P w aa β H (ρ x) (n x)/\aH (aN H) (ρ x))->
   H[b]?=some (.arr k aE al es)->es.length<=β.cap b/\(dy n o).run P w=.ok (.value (.slice (some (if β.cap b-off=f then⟨β.aw b,off*al,none⟩else⟨β.aw b,off*al+f*al,none⟩)) (l-f) (β.cap b-off-f))) w:=by
   intro H w aa ag β n u m r;have j:=(m x I).1;rw[hx]at j;simp only[aC,bX,cg]at j;obtain⟨_,_,j⟩:=j.2 k es r;have j:=j L;rcases u.du b _ r with hold|⟨cs,af,V,rest,k1,k2,k3,k4,k5,k6⟩
   ·exact(L hold).elim
   have t:=uM (P:=P) (w:=w) (aa:=aa) (β:=β) (H:=H) (b:=true) (cap:=β.cap b-off) (ρ:=ρ) (ρc:=n) rfl B C o_ A (fun y v=>(m y (uQ q v)).1);refine⟨k5,?_⟩;simp only[dy,q,j];refine fP ?_;rw[wY g.jo];simp only[ge,hm,dg g.jo,hl,kr,t,g.run]
   by_cases hc:β.cap b-off=f
   ·simp[hc]
   ·simp[hc,lI]
  split at E
  ·rename_i W;subst W;refine⟨_,E,bF.same fun H w aa ag β n u m aA=>?_,by simpa using O,rfl⟩;have r:H[b]?=some (.arr k aE al es):=by simpa using aA
   obtain⟨Z,J⟩:=key H w aa ag β n u m r;refine⟨_,J,?_,?_⟩
   ·simp only[aC,bX,cg];refine⟨by simp[hA],fun ae ab F=>?_⟩;unfold iD at F;rw[r]at F;cases F;exact⟨o_,fun hn=>(L hn).elim,fun _=>by simp⟩
   ·simp only[aH];exact⟨_,r,j3 _⟩
  ·rename_i W
   split at E
   ·rename_i X;subst X;refine⟨_,E,bF.same fun H w aa ag β n u m aA=>?_,by simpa using O,rfl⟩;have r:H[b]?=some (.arr k aE al es):=by simpa using aA
    obtain⟨Z,J⟩:=key H w aa ag β n u m r;refine⟨_,J,?_,by simp[aH]⟩;simp only[aC,aF]
    by_cases hc:β.cap b-off=f
    ·exact⟨β.aw b,off*al,β.cap b-off-f,al,[],by simp[bn],s_,by intro i hi;simp at hi,s_,s_,by simp[hc]⟩
    ·exact⟨β.aw b,off*al+f*al,β.cap b-off-f,al,[],by simp[bn],s_,by intro i hi;simp at hi,s_,s_,by simp[hc]⟩
   ·rename_i X;refine⟨_,E,bF.same fun H w aa ag β n u m aA=>?_,by simpa using O,rfl⟩;have r:H[b]?=some (.arr k aE al es):=by simpa using aA
    obtain⟨Z,J⟩:=key H w aa ag β n u m r;refine⟨_,J,?_,?_⟩
    ·simp only[aC,bX,cg];refine⟨by simp[hA],fun ae ab F=>?_⟩;unfold iD at F;rw[r]at F;cases F;refine⟨o_,fun hn=>(L hn).elim,fun _=>?_⟩;have hc:¬(β.cap b-off=f):=by omega
     rw[if_neg hc,ko,Nat.sub_sub]
    ·simp only[aH];exact⟨_,r,j3 _⟩
 ·exact h.elim
end
section
variable{P:dp}{w:dq}{aa ag:Nat->Prop}{β:Bd}{H:ah}
variable{o:Oper}{ρ:dx->AV}{base:Nat}
theorem rX{H0 H:ah}{a:AV}{c:List AV}(h:jL H0 a=some c)(aA:∀p∈dR H0 a,H[p.1]?=some p.2):jL H a=some c:=by
 cases a with
 |sl b aE al off len=>
  simp only[jL]at h⊢;simp only[dR]at aA
  split at h
  case h_2=>simp at h
  rename_i k g f e d;rw[d]at aA;have:=aA _ (i4.2 rfl);simp only at this;rw[this];exact h
 |p v=>cases v<;>exact h
 |_=>simp[jL]at h
theorem qI{H0:ah}{a:AV}:∀p∈dR H0 a,H0[p.1]?=some p.2:=by
 intro p b;unfold dR at b
 split at b
 all_goals first
  |(split at b
    ·rename_i o c;simp at b;subst b;exact c
    ·simp at b)
  |simp at b
theorem wW{sz m:Nat}{aw off n c:Nat}{w:dq}{xs:List db}(e:xs.length=m*sz)(hc:iB w aw off xs):(fa sz m (.slice (some ⟨aw,off,none⟩) n c)).run P w=.ok xs.toArray w:=by
 refine er w sz m _ n c xs e ?_;intro j v a;rw[lI];obtain⟨b,d⟩:=hK.1 a;rw[hc j b,d]
theorem Dm{sz n c:Nat}{a:Addr}{w:dq}:(fa sz 0 (.slice (some a) n c)).run P w=.ok #[] w:=
 er w sz 0 a n c [] s_ (fun j v b=>by simp at b)
theorem AP{sz:Nat}{a:AV}{u:List AV}{v:db}(g:jL H a=some u)(G:cj P w aa β H ag)(i:aC P w aa β H a v)(R:aH (aN H) a)(hs:gf P sz u):
 ∃d,Row P w aa β H sz u d/\aZ (aN H) u/\fl v=pure u.length/\
  ∀w':dq,w'.heap=w.heap->∀m,m<=u.length->(fa sz m v).run P w'=.ok (d.take m).flatten.toArray w':=by
 have F:∀{f:List AV}{d:List (List db)}(m:Nat),Row P w aa β H sz f d->m<=f.length->(d.take m).flatten.length=m*sz:=by
  intro f d m h j;obtain⟨x,y,z,e1,e2,e3,e4,e5⟩:=n6 h 0 m o_;have hx:x=[]:=by have:=(jb e4).1;simpa using this
  have N:y.length=m:=by have:=(jb e2).1;simp at this;omega
  subst hx;have J:d.take m=y:=by rw[e1];simp[N]
  rw[J];have:=(jb e2).2;rw[this];simp[j]
 have cells:∀{aw off:Nat}{d:List (List db)}(w':dq),w'.heap=w.heap->iB w aw off d.flatten->∀m,iB w' aw off (d.take m).flatten:=by
  intro aw off d w' q hc m;have I:iB w' aw off d.flatten:=hc.same (by rw[q]);have:=uP I (pre:=[]) (xs:=(d.take m).flatten) (post:=(d.drop m).flatten) (by
   rw[i8,<-i2,h5])
  simpa using this
 cases a with
 |p t=>
  cases t with
  |aK=>
   simp[jL]at g;subst g;simp only[aC,aF]at i;subst i;exact⟨[],iS.2 rfl,by simp[aZ],rfl,fun w' _ m j=>by simp[fa]⟩
  |cZ full f=>
   simp[jL]at g;subst g;simp only[aC,aF]at i;obtain⟨aw,off,cap,al,d,v1,v2,v3,v4,v5,sp,D,rfl⟩:=i;rcases D with rfl|rfl
   case inr=>
    obtain rfl:f=[]:=hP.1 o_;exact⟨[],iS.2 rfl,by simp[aZ],rfl,fun w' _ m j=>by
     obtain rfl:m=0:=by simpa using j
     exact Dm⟩
   have h:Row P w aa β H al (f.map .p) d:=nr.2 v1;have o:Row P w aa β H sz (f.map .p) d:=by
    by_cases n:f.map AV.p=[]
    ·rw[n]at h⊢;rw[iS]at h⊢;exact h
    ·rw[<-u6 h hs n];exact h
   refine⟨d,o,jM _ _,by simp[fl],fun w' q m j=>?_⟩;exact wW (F m o j) (cells w' q v3 m)
  |seq f=>
   simp[jL]at g;subst g;simp only[aC,aF]at i;rcases i with⟨rfl,rfl⟩|⟨aw,off,cap,al,d,v1,v2,v3,v5,sp,D,rfl⟩
   ·exact⟨[],iS.2 rfl,by simp[aZ],rfl,fun w' _ m j=>by simp[fa]⟩
   rcases D with rfl|rfl
   case inr=>
    obtain rfl:f=[]:=hP.1 o_;exact⟨[],iS.2 rfl,by simp[aZ],rfl,fun w' _ m j=>by
     obtain rfl:m=0:=by simpa using j
     exact Dm⟩
   have h:Row P w aa β H al (f.map .p) d:=nr.2 v1;have o:Row P w aa β H sz (f.map .p) d:=by
    by_cases n:f.map AV.p=[]
    ·rw[n]at h⊢;rw[iS]at h⊢;exact h
    ·rw[<-u6 h hs n];exact h
   refine⟨d,o,jM _ _,by simp[fl],fun w' q m j=>?_⟩;exact wW (F m o j) (cells w' q v3 m)
  |str s=>
   simp[jL]at g;subst g;simp only[aC,aF]at i;obtain⟨bs,rfl,rfl⟩:=i;have M:sz=1\/bs.data.toList=[]:=by
    cases A:bs.data.toList with
    |nil=>exact .inr rfl
    |cons a r=>
     rw[A]at hs;simp[gf,ad,aL,bP]at hs;exact .inl hs.1.symm
   have h:Row P w aa β H sz ((bs.data.toList.map (·.toNat)).map fun c=>.p (.int .u8 (c:Nat))) (bs.data.toList.map fun c=>[hC .u8 c.toNat]):=by
    rcases M with rfl|A
    ·generalize bs.data.toList=l
     induction l with
     |nil=>exact iS.2 rfl
     |cons a r E=>exact sD.2 ⟨_,_,rfl,by simp[bB,aX],rfl,E⟩
    ·rw[A];exact iS.2 rfl
   refine⟨_,h,by rw[dP];intro v i;simp at i;obtain⟨a,_,rfl⟩:=i;simp[aH],by simp[fl],fun w' _ m _=>?_⟩;have e:((bs.data.toList.map fun c=>[hC .u8 c.toNat]).take m).flatten=(bs.data.toList.take m).map fun c=>hC .u8 c.toNat:=by
    rw[<-ik];generalize bs.data.toList.take m=l
    induction l with
    |nil=>rfl
    |cons a r E=>simp[E]
   rw[e];simp only[fa,ho];congr 1;apply b3;simp[ByteArray.data_extract]
  |_=>simp[jL]at g
 |sl b aE al off len=>
  simp only[jL]at g
  split at g
  case h_2=>simp at g
  rename_i k S Q f C
  split at g
  case isFalse=>simp at g
  rename_i hc;obtain⟨rfl,rfl,B⟩:=hc;simp at g;subst g;simp only[aC,bX,cg]at i;obtain⟨_,v2,v3⟩:=i.2 k f C;have L:((f.drop off).take len).length=len:=by simp;omega
  by_cases hn:dQ k f
  ·rw[v2 hn];have K:=hn.2;subst K;simp at B;obtain⟨rfl,rfl⟩:=B;exact⟨[],iS.2 s_,by simp[aZ],rfl,fun w' _ m j=>by simp[fa]⟩
  ·rw[v3 hn];rcases G.du b _ C with hold|⟨cs,O,d,rest,k1,k2,k3,k4,k5,k6⟩
   ·exact(hn hold).elim
   obtain⟨x,y,z,e1,e2,e3,e4,e5⟩:=n6 k2 off len B;have o:Row P w aa β H sz ((f.drop off).take len) y:=by
    by_cases n:(f.drop off).take len=[]
    ·rw[n]at e2⊢;rw[iS]at e2⊢;exact e2
    ·rw[<-u6 e2 hs n];exact e2
   refine⟨y,o,?_,by rw[L];rfl,fun w' q m j=>?_⟩
   ·rw[dP];intro v i;exact dP.1 (G.refs b _ C) v (i1 (i0 i))
   ·refine wW (F m o j) (cells w' q ?_ m);rw[<-e3];exact mZ k1 (post:=z.flatten++rest) (by rw[k3,e1];simp)
 |_=>simp[jL]at g
theorem Xt{T X e:dl}{i:ed}{f:db}{sz:Nat}(a:sB P T sz e i)(b:je P X=true)(hz:i.zero=some f)(y:dl){p:Option Addr}{sLen sCap n:Nat}{j h:Array db}(x:db)
 (hx:fl x=pure n)(r:(fa sz sLen (.slice p sLen sCap)).run P w.drew=.ok j w.drew)(ba:(fa sz n x).run P w.drew=.ok h w.drew)(q:sCap<sLen+n)(g:sLen+n<=dc):
 ∃cap,sLen+n<=cap/\(fb #[T,X] y #[.slice p sLen sCap,x]).run P w=
  .ok (.slice (some ⟨w.heap.size,0,none⟩) (sLen+n) cap) {w.drew with heap:=w.heap.push (.cells (j++h++fm f.cells (cap-(sLen+n))) e)}:=by
 refine⟨grownCap w (sLen+n) sCap e,by simp[grownCap,Question.cut],?_⟩;have o:∃d,P.underlying X=some d/\∀k,d≠.int k:=by
  unfold je at b
  split at b
  ·simp at b
  ·rename_i d c u;exact⟨_,u,c⟩
  ·simp at b
 obtain⟨d,c,z⟩:=o;have hn:¬(sLen+n<=sCap):=o_
 have m:¬(9223372036854775807<((sLen:Int)+(n:Int))):=by unfold dc at g;omega
 have A:fp (sLen+n) sCap*i.bytes<=281474976710656:=by
  refine growslice_fits q ?_;have:=kb g (Nat.le_of_lt a.bytes);unfold dc at this;omega
 have l:¬(281474976710656<fp (sLen+n) sCap*i.bytes):=o_
 have s:(sizeOf e).run P w=.ok sz w:=a.run w;have t:∀w:dq,(typeInfo e).run P w=.ok i w:=fun w=>by simp[typeInfo,a.info]
 have v:∀w:dq,(zeroValue e).run P w=.ok f w:=fun w=>by simp[zeroValue,typeInfo,a.info,hz]
 simp[fb,dg a.jo,dg c,s,t,v,hx,hn,m,l,Question.forced,r,ba,newRow,grownCap,Array.append_assoc];rfl
theorem KI{T X e:dl}{i:ed}{sz:Nat}(j:sB P T sz e i)(c:je P X=true)(t:dl){g off:Nat}{sLen sCap n:Nat}{b:Array db}{h:dl}{a:List db}(x:db)
 (hx:fl x=pure n)(o:w.heap[g]?=some (.cells b h (0,0)))(ba:(fa sz n x).run P w=.ok a.toArray w)(l:∀u∈a,u.oneCell'=true)(q:sLen+n<=sCap)(p:off+sLen*sz+a.length<=b.size):
 (fb #[T,X] t #[.slice (some ⟨g,off,none⟩) sLen sCap,x]).run P w=
  .ok (.slice (some ⟨g,off,none⟩) (sLen+n) sCap) (w.setRow g (b.toList.take (off+sLen*sz)++a++b.toList.drop (off+sLen*sz+a.length)).toArray):=by
 have m:∃d,P.underlying X=some d/\∀k,d≠.int k:=by
  unfold je at c
  split at c
  ·simp at c
  ·rename_i d f s;exact⟨_,s,f⟩
  ·simp at c
 obtain⟨d,f,v⟩:=m;have aS:=ew P g (off+sLen*sz) h a 0 b w o (by simpa using p) l;simp only[j7]at aS;have r:(sizeOf e).run P w=.ok sz w:=j.run w;simp[fb,dg j.jo,dg f,r,hx,q,ba,lI,aS]
theorem Wr{T X e:dl}{i:ed}{sz:Nat}(f:sB P T sz e i)(b:je P X=true)(m:dl){p:Option Addr}{sLen sCap:Nat}(x:db)
 (hx:fl x=pure 0)(ba:(fa sz 0 x).run P w=.ok #[] w)(g:sLen<=sCap):
 (fb #[T,X] m #[.slice p sLen sCap,x]).run P w=.ok (.slice p sLen sCap) w:=by
 have j:∃d,P.underlying X=some d/\∀k,d≠.int k:=by
  unfold je at b
  split at b
  ·simp at b
  ·rename_i d c l;exact⟨_,l,c⟩
  ·simp at b
 obtain⟨d,c,n⟩:=j;have h:(sizeOf e).run P w=.ok sz w:=f.run w;cases p with
 |none=>simp[fb,dg f.jo,dg c,h,hx,g,ba]
 |some a=>simp[fb,dg f.jo,dg c,h,hx,g,ba,storeCells]
theorem cd.drew{aG:Nat->Prop}{w1 w':dq}{aM:Bd}{H':ah}(a:w1.heap=w.heap)(b:w1.os=w.os/\w1.output=w.output)(h:cd P ag aa w1 β H aG w' aM H'):cd P ag aa w β H aG w' aM H':=
 ⟨h.b8,h.fresh,⟨by rw[<-a];exact h.ext.size,fun k hk=>by rw[<-a];exact h.ext.same k hk,h.ext.io.1.trans b.1,h.ext.io.2.trans b.2⟩,h.step,h.rel,h.ir,h.loop⟩
theorem Va(z:Array db)(n:Nat):(fm z n).size=n*z.size:=by simp[fm]
theorem D8{al:Nat}:∀{b:List AV}{a:List (List db)},Row P w aa β H al b a->∀c∈a.flatten,c.oneCell'=true
 |[],a,h=>by rw[iS]at h;subst h;simp
 |v::b,a,h=>by
  rw[sD]at h;obtain⟨c,cs,rfl,d,_,e⟩:=h;intro x hx;simp only[hX,h0]at hx;exact hx.elim (A9 d x) (D8 e x)
theorem Row.mono{w':dq}{aG:Nat->Prop}{aM:Bd}{H':ah}(hI:∀k,aa k->aG k)(hs:∀k,aa k->w'.heap[k]?=w.heap[k]?)(aS:cK β H aM H'){al:Nat}{a:List AV}{b:List (List db)}(c:aZ (aN H) a)
 (h:Row P w aa β H al a b):Row P w' aG aM H' al a b:=bV.mono hI hs aS _ _ _ c h
theorem zZ{c:Call}{s x:dx}(e:o.op= .call c)(hc:c.callee= .builtin .append)(b:c.args.toList=[s,x]){a:dx->db}{w w':dq}{v:db}
 (h:(fb c.argTypes o.type #[a s,a x]).run P w=.ok v w'):(dy a o).run P w=.ok (.value v) w':=by
 have d:c.args=#[s,x]:=by apply b3;simpa using b
 simp only[dy,e,resolve,hc,d];simp[invoke,builtin,h]
end
end Go.az
