import Derived.Test.YtembaldpmgjjbaaGreatDoorXZ
import Derived.Calls
import Derived.Laws.Sem
import Derived.IntWalk
import Derived.Laws.Cells
import Derived.Laws.CopyRow
import Derived.Laws.Entries
import Derived.RangeFuncRecord
import Derived.RangeFuncNested
import Derived.Lib.Strings
import Derived.Laws.Append
/- Parts of a proof. -/
set_option linter.unusedSimpArgs false
set_option linter.unusedVariables false
set_option linter.unusedSectionVars false
open Array renaming getElem?_eq_some_iff->bl, replicate->bo, getD_eq_getD_getElem?->bp, getElem?_toList->bv, range->bw, mem_toList_iff->bI, getElem?_setIfInBounds_ne->bV, ext'->b0, mapM_eq_mapM_toList->b1, mem_of_getElem?->b2, getElem_toList->b3, getElem?_push->b4, foldl_toList->b5, toList_map->ca, toList->cb, getD->cc
open BitVec renaming ofInt->cd
open Bool renaming false_eq_true->ck, and_eq_true->cx
open Go renaming Value->cy, run_underlying->c6, TypeId->c9, Program->da, World->db, Operand->dd, execOp->dg, step_lone_go->dl, FuncId->dp, Deferred->dq, Frame->dx, TypeInfo->dy, step_leave_returned->dz, Steps->ea, ResultVar->eb, Machine->ec, IntKind->ed, run_newObj->ee, setRow_other->ei, MapEntry->ej, run_firstCells_some->em, run_storeCells_at->eo, Calls->eq, Obj->er, setRow_size->ew, setRow_heap->ey, BinOp->eM
open Go.Builtin renaming firstCells->eP, append_->e7, len_->e8, lenOf->e9, zeroCells->fb, nextslicecap->fi
open Go.Deferred renaming ofValue->fl
open Go.Frame renaming round->fm, enter->fv
open Go.Instr renaming slice->fw, sureAddr->gb, sliceBounds->gc, indexAt->ge, sliceAt->gg, sliceBound->gi, yield->gj, fill->gm, build->gt
open Go.Op renaming operands->gx, unary->gy, intArith->g0, intBits->g7
open Go.Program renaming cellsOf->g8, underlying->g9, underlyingId->ha
open Go.Region renaming wanted->hb, schedule->hd, binds->hg
open Go.Result renaming andThen_ok->hj
open Go.Sem renaming run_bind->hl, run_pure->hm, run->ho, run_map->hp
open Go.Steps renaming one->hr, trans->ht, refl->hv
open Go.Value renaming oneCell'->hw, cells->hA, int->hB
open Go.World renaming putObj_heap_other->hC, size_alloc->hD, cell?->hE
open Go.stepG renaming exec->hF, apply->hG, oper->hH
open List renaming getElem?_eq_some_iff->hJ, replicate->hK, getElem?_set_self->hL, getElem?_set_ne->hM, sum_replicate_nat->hN, length_eq_zero_iff->hO, getElem?_eq_getElem->hP, take_replicate->hQ, getElem?_replicate->hR, append_assoc->hS, mem_of_getElem?->hT, mem_or_eq_of_mem_set->hU, getElem?_append_left->hV, flatten_cons->hW, map_cons->hX, mem_append->hZ, replicate_succ->h0, getElem?_append_right->h1, eq_of_mem_replicate->h2, length_cons->h3, take_append_drop->h4, drop_take->h5, length_append->h6, cons_append->h7, range'->h8, length->h9, getElem_append_right->ih, map_take->ii, getElem_append_left->ik, getElem?_cons_succ->ip, set_append_right->ix, mem_of_mem_take->iA, mem_of_mem_drop->iB, flatten_append->i0, set_cons_zero->i1, mem_singleton->i2, getElem?_map->i3, getElem_mem->i4, all_eq_true->i5, nil_append->i6, length_set->i7, append_nil->i8, mapM_cons->i9, drop_drop->jp, map_drop->js, mem_map->j1, range->j2
open Nat renaming le_refl->j3, min_eq_left->j4, lt_irrefl->j5, add_sub_cancel_left->j6, add_zero->j7, le_trans->j8, lt_of_lt_of_le->j9, mul_le_mul->kb, add_assoc->kc, succ_mul->kf, ne_of_lt->kk, add_mul->km
open Ne renaming symm->ko
open Option renaming map_none->kp, isSome_iff_exists->kv, bind_some->kw
open Option.some renaming injEq->kx, inj->kz
open Prod renaming snd->kC, fst->kD
namespace Go.ae
set_option linter.unusedSectionVars false
inductive PV where
 |undef
 |bool (b:Bool)
 |int (k:ed) (n:Int)
 |str (s:List Nat)
 |gL
 |cW (t:PV)
 |aM
 |dD (full:Bool) (es:List PV)
 |seq (es:List PV)
 |gB
 |fA (es:List (PV×PV))
 |func (f:dp) (first jy:List PV)
 |iV
 |iK
 |st (u:c9) (fs:List PV)
 |aE (vs:List PV)
 deriving Inhabited
inductive AV where
 |p (v:PV)
 |ptr (b:Nat) (path:List (c9×Nat))
 |cM (b aF an i:Nat) (path:List (c9×Nat))
 |sl (b aF an off len:Nat)
 |map (b:Nat)
 |func (f:dp) (first jy:List AV)
 |st (u:c9) (fs:List AV)
 |aE (vs:List AV)
 deriving Inhabited
inductive AK where|exact|grow|frozen|bytes
 deriving DecidableEq
def AK.gr:AK->Bool
 | .grow| .bytes=>true
 |_=>false
structure eK where
 st:LoopState
 pending:Option Code
 n:Nat
 params:List Tmp
 assign:Code
 body:Code
 env:List (Nat×AV)
inductive Obj where
 |hole
 |dead
 |box (fz:Bool) (t:AV)
 |arr (k:AK) (aF an:Nat) (es:List AV)
 |map (fz:Bool) (es:List (PV×PV))
 |fC (s:List Nat) (pos:Nat)
 |loop (L:eK)
 deriving Inhabited
abbrev ak:=List Obj
abbrev Env:=List (Nat×AV)
structure St where
 env:Env
 heap:ak
def aV(e:Env)(t:Nat):AV:=
 match e with
 |[]=>.p .undef
 |(k,v)::r=>if t=k then v else aV r t
inductive lX where|bad|leaf|agg (u:c9)
 deriving DecidableEq
def aP:PV->lX
 | .undef| .aE _=>.bad
 | .st u _=>.agg u
 |_=>.leaf
def aa:AV->lX
 | .p v=>aP v
 | .aE _=>.bad
 | .st u _=>.agg u
 |_=>.leaf
def cz:PV->List PV
 | .st _ fs=>fs
 |_=>[]
section tables
variable(P:da)
def dG(u:c9):Option (List Nat):=
 match(P.info? u).map (fun i:dy=>i.desc)with
 |some (.struct fs)=>
  let l:=fs.toList.map fun f=>P.cellsOf f.type
  if l.all (0<·)&&l.sum==P.cellsOf u&&(fs.toList.zipIdx.all fun(f,i)=>f.offset==(l.take i).sum)then some l else none
 |some (.array n e)=>if 0<P.cellsOf e&&n*P.cellsOf e==P.cellsOf u then some (hK n (P.cellsOf e))else none
 |_=>none
def kindOf(T:c9):lX:=
 match P.underlying T with
 |some (.struct _)|some (.array _ _)=>
  if(dG P (P.underlyingId T)).isSome&&P.cellsOf T==P.cellsOf (P.underlyingId T)then .agg (P.underlyingId T)else .bad
 |some _=>if P.cellsOf T==1 then .leaf else .bad
 |none=>.bad
def bZ:lX->Nat
 | .bad=>0
 | .leaf=>1
 | .agg u=>P.cellsOf u
def l6(u:c9):List c9:=
 match(P.info? u).map (fun i:dy=>i.desc)with
 |some (.struct fs)=>fs.toList.map (·.type)
 |some (.array n e)=>hK n e
 |_=>[]
end tables
def ofConst:cy->PV
 | .bool b=>.bool b
 | .int k n=>.int k n
 | .string s=>.str (s.data.toList.map (·.toNat))
 | .pointer none=>.gL
 | .slice none 0 0=>.aM
 | .map none=>.gB
 | .nilFunc=>.iV
 | .nilIface=>.iK
 |_=>.undef
def tC(P:da)(a:c9->List cy->Option PV):List c9->List Nat->List cy->Option (List PV)
 |[],[],[]=>some []
 |T::b,s::c,cs=>
  if(cs.take s).length=s then
   match a T (cs.take s),tC P a b c (cs.drop s)with
   |some v,some vs=>if bZ P (aP v)=s then some (v::vs)else none
   |_,_=>none
  else none
 |_,_,_=>none
def xR(P:da):Nat->c9->List cy->Option PV
 |0,_,_=>none
 |n+1,T,cs=>
  match kindOf P T with
  | .leaf=>match cs with
   |[c]=>match ofConst c with
    | .undef=>none
    |v=>some v
   |_=>none
  | .agg u=>match dG P u with
   |some l=>
    match tC P (xR P n) (l6 P u) l cs with
    |some fs=>some (.st u fs)
    |none=>none
   |none=>none
  | .bad=>none
def Ed:cy->lX->Bool
 | .agg _,.agg _=>true
 | .agg _,_=>false
 |_,.agg _=>false
 |_,_=>true
def cO(P:da)(T:c9):Option PV:=
 match(P.info? T).bind (·.zero)with
 |some z=>if Ed z (kindOf P T)then xR P 40 T z.cells.toList else none
 |none=>none
section relation
variable(P:da)(w:db)(ad:Nat->Prop)
def ja(az off:Nat)(cs:List cy):Prop:=∀i(h:i<cs.length),w.cell? ⟨az,off+i,none⟩=some cs[i]
mutual
def bc:PV->List cy->Prop
 | .undef,_| .aE _,_=>False
 | .bool b,cs=>cs=[.bool b]
 | .int k n,cs=>cs=[.int k n]
 | .str s,cs=>∃bs:ByteArray,cs=[.string bs]/\s=bs.data.toList.map (·.toNat)
 | .gL,cs=>cs=[.pointer none]
 | .cW t,cs=>∃az off ts,bc t ts/\ad az/\ja w az off ts/\cs=[.pointer (some ⟨az,off,none⟩)]
 | .aM,cs=>cs=[.slice none 0 0]
 | .dD full es,cs=>∃az off cap an a,bA (hK es.length an) es a/\(es≠[]->ad az)/\ja w az off a.flatten/\
  (full=true->cap=es.length)/\es.length<=cap/\∃sp,(sp=none\/cap=0)/\cs=[.slice (some ⟨az,off,sp⟩) es.length cap]
 | .seq es,cs=>(es=[]/\cs=[.slice none 0 0])\/∃az off cap an a,bA (hK es.length an) es a/\(es≠[]->ad az)/\ja w az off a.flatten/\
  es.length<=cap/\∃sp,(sp=none\/cap=0)/\cs=[.slice (some ⟨az,off,sp⟩) es.length cap]
 | .gB,cs=>cs=[.map none]
 | .fA es,cs=>∃r g i,ad r/\w.heap[r]?=some (.map g i)/\dB es g.toList/\cs=[.map (some r)]
 | .func f first jy,cs=>∃h cv,bY first h/\bY jy cv/\cs=[.func (.func f) h.toArray cv.toArray]
 | .iV,cs=>cs=[.nilFunc]
 | .iK,cs=>cs=[.nilIface]
 | .st u fs,cs=>∃l a,dG P u=some l/\bA l fs a/\cs=a.flatten
def bA:List Nat->List PV->List (List cy)->Prop
 |[],[],a=>a=[]
 |n::o,v::vs,a=>∃c cs,a=c::cs/\bc v c/\c.length=n/\bA o vs cs
 |_,_,_=>False
def aH:PV->cy->Prop
 | .undef,_=>True
 | .aE vs,v=>∃d,bY vs d/\v=.tuple d.toArray
 | .st u fs,v=>∃l a,dG P u=some l/\bA l fs a/\v=.agg a.flatten.toArray
 | .bool b,v=>v=.bool b
 | .int k n,v=>v=.int k n
 | .str s,v=>∃bs:ByteArray,v=.string bs/\s=bs.data.toList.map (·.toNat)
 | .gL,v=>v=.pointer none
 | .cW t,v=>∃az off ts,bc t ts/\ad az/\ja w az off ts/\v=.pointer (some ⟨az,off,none⟩)
 | .aM,v=>v=.slice none 0 0
 | .dD full es,v=>∃az off cap an a,bA (hK es.length an) es a/\(es≠[]->ad az)/\ja w az off a.flatten/\
  (full=true->cap=es.length)/\es.length<=cap/\∃sp,(sp=none\/cap=0)/\v=.slice (some ⟨az,off,sp⟩) es.length cap
 | .seq es,v=>(es=[]/\v= .slice none 0 0)\/∃az off cap an a,bA (hK es.length an) es a/\(es≠[]->ad az)/\ja w az off a.flatten/\
  es.length<=cap/\∃sp,(sp=none\/cap=0)/\v=.slice (some ⟨az,off,sp⟩) es.length cap
 | .gB,v=>v=.map none
 | .fA es,v=>∃r g i,ad r/\w.heap[r]?=some (.map g i)/\dB es g.toList/\v=.map (some r)
 | .func f first jy,v=>∃h cv,bY first h/\bY jy cv/\v=.func (.func f) h.toArray cv.toArray
 | .iV,v=>v=.nilFunc
 | .iK,v=>v=.nilIface
def bY:List PV->List cy->Prop
 |[],d=>d=[]
 |v::vs,d=>∃y m,d=y::m/\aH v y/\bY vs m
def dB:List (PV×PV)->List ej->Prop
 |[],es=>es=[]
 |(k,v)::r,es=>∃e j,es=e::j/\aH k e.key/\aH v e.val/\dB r j
end
end relation
class Gl where
 g:Nat->PV
 u8:c9
 raw:Nat->Option (Array cy)
 bx:c9->Option c9
 EA:Nat->Bool
def lQ[Gl](T:c9)(s:lX):Bool:=match s with
 | .agg u=>match Gl.bx u with
  |some a=>Nat.beq T a
  |none=>true
 |_=>true
structure qG[Gl](P:da)(w:db)(ad:Nat->Prop):Prop where
 val:∀g,aH P w ad (Gl.g g) (.pointer (some ⟨g,0,none⟩))
 raw:∀g cs,Gl.raw g=some cs->ad g/\∃T,w.heap[g]?=some (.cells cs T (0,0))
 EA:∀g,Gl.EA g=true->ad g/\∃te pe T,w.heap[g]?=some (.cells #[.iface te pe] T (0,0))
end Go.ae
namespace Go.ae
variable[Gl]
structure Bd where
 az:Nat->Nat
 cap:Nat->Nat
def iF(P:da):List (c9×Nat)->Option Nat
 |[]=>some 0
 |(u,i)::r=>
  match dG P u,iF P r with
  |some l,some o=>if i<l.length then some ((l.take i).sum+o)else none
  |_,_=>none
def Obj.kd:Obj->Nat
 | .box _ _| .fC _ _=>1
 | .map _ _=>2
 | .loop _=>3
 |_=>0
section
variable(P:da)(w:db)(ad:Nat->Prop)(β:Bd)(H:ak)
def oJ(k b:Nat):Prop:=∃o,H[b]?=some o/\o.kd=k+1
abbrev WQ(b:Nat):Prop:=oJ H 0 b
def jc(b aF an:Nat)(k:AK)(a:List AV):Prop:=H[b]?=some (.arr k aF an a)
def eU(k:AK)(a:List AV):Prop:=k.gr=true/\a=[]
abbrev WS(b:Nat):Prop:=oJ H 1 b
def jE(b:Nat):Prop:=(∃L,H[b]?=some (.loop L))
theorem wN{H:ak}{b:Nat}:oJ H 2 b↔jE H b:=
 ⟨fun⟨o,h,hk⟩=>by cases o<;>first|exact⟨_,h⟩|simp[Obj.kd]at hk,fun⟨_,h⟩=>⟨_,h,rfl⟩⟩
def cG:AV->cy->Prop
 | .ptr b path,v=>∃az off o,v=.pointer (some ⟨az,off,none⟩)/\iF P path=some o/\(WQ H b->az=β.az b/\off=o)
 | .cM b aF an i path,v=>∃az off o,v=.pointer (some ⟨az,off,none⟩)/\iF P path=some o/\∀k a,jc H b aF an k a->¬eU k a->az=β.az b/\off=i*an+o
 | .sl b aF an off len,v=>∀k a,jc H b aF an k a->
  off+len<=a.length/\(eU k a->v=.slice none 0 0)/\(¬eU k a->v=.slice (some ⟨β.az b,off*an,none⟩) len (β.cap b-off))
 | .map b,v=>(WS H b->v=.map (some (β.az b)))/\(jE H b->v=.func (.yield (β.az b)) #[] #[])
 |_,_=>False
def cg(v:AV)(x:cy):Prop:=x.oneCell'=true/\cG P β H v x
mutual
def bG:AV->List cy->Prop
 | .p t,cs=>bc P w ad t cs
 | .st u fs,cs=>∃l a,dG P u=some l/\b9 l fs a/\cs=a.flatten
 | .func f first jy,cs=>∃d cv,bX first d/\bX jy cv/\cs=[.func (.func f) d.toArray cv.toArray]
 | .aE _,_=>False
 | .ptr b path,cs=>∃v,cs=[v]/\cg P β H (.ptr b path) v
 | .cM b aF an i path,cs=>∃v,cs=[v]/\cg P β H (.cM b aF an i path) v
 | .sl b aF an off len,cs=>∃v,cs=[v]/\cg P β H (.sl b aF an off len) v
 | .map b,cs=>∃v,cs=[v]/\cg P β H (.map b) v
def b9:List Nat->List AV->List (List cy)->Prop
 |[],[],a=>a=[]
 |n::g,v::vs,a=>∃c cs,a=c::cs/\bG v c/\c.length=n/\b9 g vs cs
 |_,_,_=>False
def aD:AV->cy->Prop
 | .p t,v=>aH P w ad t v
 | .st u fs,v=>∃l a,dG P u=some l/\b9 l fs a/\v=.agg a.flatten.toArray
 | .func f first jy,v=>∃d cv,bX first d/\bX jy cv/\v=.func (.func f) d.toArray cv.toArray
 | .aE vs,v=>∃xs,bX vs xs/\v=.tuple xs.toArray
 | .ptr b path,v=>cg P β H (.ptr b path) v
 | .cM b aF an i path,v=>cg P β H (.cM b aF an i path) v
 | .sl b aF an off len,v=>cg P β H (.sl b aF an off len) v
 | .map b,v=>cg P β H (.map b) v
def bX:List AV->List cy->Prop
 |[],xs=>xs=[]
 |v::vs,xs=>∃y e,xs=y::e/\aD v y/\bX vs e
end
mutual
def aI(n:Nat×Nat->Prop):AV->Prop
 | .p _=>True
 | .ptr b _| .map b=>n (b,0)
 | .cM b aF _ _ _| .sl b aF _ _ _=>n (b,aF)
 | .func _ first jy=>bk n first/\bk n jy
 | .st _ fs=>bk n fs
 | .aE vs=>bk n vs
def bk(n:Nat×Nat->Prop):List AV->Prop
 |[]=>True
 |v::vs=>aI n v/\bk n vs
end
def Obj.has:Obj->Nat->Prop
 | .hole,_=>False
 | .arr _ aF _ _,v=>v<=aF
 |_,_=>True
def aQ(H:ak)(x:Nat×Nat):Prop:=∃o,H[x.1]?=some o/\o.has x.2
def AV.vS:AV->Prop
 | .p _=>True
 |_=>False
def Obj.refs(n:Nat×Nat->Prop):Obj->Prop
 | .box _ t=>aI n t
 | .arr _ _ _ es=>bk n es
 | .loop L=>∀x,aI n (aV L.env x)
 |_=>True
def Obj.live:Obj->Prop
 | .hole| .dead=>False
 | .arr k _ _ es=>¬eU k es
 |_=>True
variable(ai:Nat->Prop)
def dV(fz:Bool)(b:Nat):Prop:=if fz then ad (β.az b)else¬ad (β.az b)/\¬ai (β.az b)
def fP(b:Nat):Obj->Prop
 | .hole| .dead=>True
 | .box fz t=>∃cs T,w.heap[β.az b]?=some (.cells cs T (0,0))/\bG P w ad β H t cs.toList/\dV ad β ai fz b/\(fz=true->t.vS)/\lQ T (aa t)=true
 | .arr k _ver an es=>eU k es\/
  ∃cs T a f,w.heap[β.az b]?=some (.cells cs T (0,0))/\b9 P w ad β H (hK es.length an) es a/\cs.toList=a.flatten++f/\
   cs.size=β.cap b*an/\es.length<=β.cap b/\(k=.exact->β.cap b=es.length)/\dV ad β ai (k== .frozen) b/\(k=.frozen->∀e∈es,e.vS)/\(k=.bytes->T=Gl.u8)
 | .map fz es=>∃c d,w.heap[β.az b]?=some (.map c d)/\dB P w ad es c.toList/\dV ad β ai fz b
 | .fC s pos=>∃bs:ByteArray,w.heap[β.az b]?=some (.stringIter bs pos)/\s=bs.data.toList.map (·.toNat)/\dV ad β ai false b
 | .loop L=>∃tmps defers fn,w.heap[β.az b]?=some (.loop {state:=L.st,pending:=L.pending,fn,tmps,params:=L.params.toArray,assign:=L.assign,body:=L.body,defers})/\tmps.size=L.n/\
  (∀x,aD P w ad β H (aV L.env x) (tmps.getD x undef))/\dV ad β ai false b
structure cK:Prop where
 dQ:∀b o,H[b]?=some o->fP P w ad β H ai b o
 inj:∀b b' o o',H[b]?=some o->H[b']?=some o'->o.live->o'.live->¬ad (β.az b)->β.az b=β.az b'->b=b'
 refs:∀(b:Nat)(o:Obj),H[b]?=some o->o.refs (aQ H)
 cq:∀k,ad k->k<w.heap.size
 fN:∀k,ai k->k<w.heap.size
 lT:qG P w ad
end
structure Ext(ai ad:Nat->Prop)(w w':db):Prop where
 size:w.heap.size<=w'.heap.size
 same:∀k,ai k\/ad k->w'.heap[k]?=w.heap[k]?
 io:w'.os=w.os/\w'.output=w.output
structure cZ(β:Bd)(H:ak)(aR:Bd)(H':ak):Prop where
 obj:∀k b,aQ H (b,0)->oJ H' k b->oJ H k b/\aR.az b=β.az b
 arr:∀b aF an k es,aQ H (b,aF)->jc H' b aF an k es->∃k0 kn,jc H b aF an k0 kn/\kn.length<=es.length/\(eU k es↔eU k0 kn)/\(¬eU k es->aR.az b=β.az b/\aR.cap b=β.cap b)
theorem cZ.loop{β aR:Bd}{H H':ak}(h:cZ β H aR H')(b:Nat)(hi:aQ H (b,0))(a:jE H' b):jE H b/\aR.az b=β.az b:=
 (h.obj 2 b hi (wN.2 a)).imp wN.1 id
theorem cZ.refl(β:Bd)(H:ak):cZ β H β H:=
 ⟨fun _ _ _ h=>⟨h,rfl⟩,fun _ _ _ k a _ h=>⟨k,a,h,j3 _,Iff.rfl,fun _=>⟨rfl,rfl⟩⟩⟩
theorem Ext.refl(ai ad:Nat->Prop)(w:db):Ext ai ad w w:=⟨j3 _,fun _ _=>rfl,rfl,rfl⟩
section mono
variable{P:da}{w w':db}{ad aJ:Nat->Prop}
theorem aub{az off:Nat}(h:w'.heap[az]?=w.heap[az]?):w'.cell? ⟨az,off,none⟩=w.cell? ⟨az,off,none⟩:=by
 simp[hE,h]
theorem ja.same{az off:Nat}{cs:List cy}(h:w'.heap[az]?=w.heap[az]?)(hc:ja w az off cs):ja w' az off cs:=
 fun i hi=>(aub h).trans (hc i hi)
theorem Cm{n:List Nat}{a:List (List cy)}(h:bA P w ad n [] a):a=[]:=by
 cases n<;>simp[bA]at h;exact h
variable(hI:∀k,ad k->aJ k)(hs:∀k,ad k->w'.heap[k]?=w.heap[k]?)
include hI hs
mutual
theorem bc.mono:∀(v:PV)(cs:List cy),bc P w ad v cs->bc P w' aJ v cs
 | .undef,_,h| .aE _,_,h=>by simp[bc]at h
 | .bool _,_,h| .int _ _,_,h| .str _,_,h| .gL,_,h| .aM,_,h| .gB,_,h| .iV,_,h| .iK,_,h=>by simpa[bc]using h
 | .cW t,cs,h=>by
  simp only[bc]at h⊢;obtain⟨az,off,ts,a,b,d,j⟩:=h;exact⟨az,off,ts,bc.mono t ts a,hI _ b,d.same (hs _ b),j⟩
 | .dD full o,cs,h=>by
  simp only[bc]at h⊢;obtain⟨az,off,cap,an,g,a,b,d,j⟩:=h;refine⟨az,off,cap,an,g,bA.mono _ o g a,fun m=>hI _ (b m),?_,j⟩
  by_cases m:o=[]
  ·subst m;have:=Cm a;subst this;intro i hi;simp at hi
  ·exact d.same (hs _ (b m))
 | .seq o,cs,h=>by
  simp only[bc]at h⊢;rcases h with h|⟨az,off,cap,an,g,a,b,d,j⟩
  ·exact .inl h
  refine .inr ⟨az,off,cap,an,g,bA.mono _ o g a,fun m=>hI _ (b m),?_,j⟩
  by_cases m:o=[]
  ·subst m;have:=Cm a;subst this;intro i hi;simp at hi
  ·exact d.same (hs _ (b m))
 | .fA o,cs,h=>by
  simp only[bc]at h⊢;obtain⟨r,p,clock,a,b,d,j⟩:=h;exact⟨r,p,clock,hI _ a,(hs _ a).trans b,dB.mono o _ d,j⟩
 | .func f first jy,cs,h=>by
  simp only[bc]at h⊢;obtain⟨s,cv,a,b,d⟩:=h;exact⟨s,cv,bY.mono first s a,bY.mono jy cv b,d⟩
 | .st u fs,cs,h=>by
  simp only[bc]at h⊢;obtain⟨l,g,a,b,d⟩:=h;exact⟨l,g,a,bA.mono l fs g b,d⟩
theorem bA.mono:∀(l:List Nat)(vs:List PV)(g:List (List cy)),bA P w ad l vs g->bA P w' aJ l vs g
 |[],[],_,h=>by simpa[bA]using h
 |[],_::_,_,h=>by simp[bA]at h
 |_::_,[],_,h=>by simp[bA]at h
 |n::A,v::vs,g,h=>by
  simp only[bA]at h⊢;obtain⟨c,cs,a,b,d,j⟩:=h;exact⟨c,cs,a,bc.mono v c b,d,bA.mono A vs cs j⟩
theorem aH.mono:∀(v:PV)(x:cy),aH P w ad v x->aH P w' aJ v x
 | .undef,_,h=>by simp[aH]
 | .aE vs,x,h=>by
  simp only[aH]at h⊢;obtain⟨q,a,b⟩:=h;exact⟨q,bY.mono vs q a,b⟩
 | .bool _,_,h| .int _ _,_,h| .str _,_,h| .gL,_,h| .aM,_,h| .gB,_,h| .iV,_,h| .iK,_,h=>by simpa[aH]using h
 | .cW t,cs,h=>by
  simp only[aH]at h⊢;obtain⟨az,off,ts,a,b,d,j⟩:=h;exact⟨az,off,ts,bc.mono t ts a,hI _ b,d.same (hs _ b),j⟩
 | .dD full o,cs,h=>by
  simp only[aH]at h⊢;obtain⟨az,off,cap,an,g,a,b,d,j⟩:=h;refine⟨az,off,cap,an,g,bA.mono _ o g a,fun m=>hI _ (b m),?_,j⟩
  by_cases m:o=[]
  ·subst m;have:=Cm a;subst this;intro i hi;simp at hi
  ·exact d.same (hs _ (b m))
 | .seq o,cs,h=>by
  simp only[aH]at h⊢;rcases h with h|⟨az,off,cap,an,g,a,b,d,j⟩
  ·exact .inl h
  refine .inr ⟨az,off,cap,an,g,bA.mono _ o g a,fun m=>hI _ (b m),?_,j⟩
  by_cases m:o=[]
  ·subst m;have:=Cm a;subst this;intro i hi;simp at hi
  ·exact d.same (hs _ (b m))
 | .fA o,cs,h=>by
  simp only[aH]at h⊢;obtain⟨r,p,clock,a,b,d,j⟩:=h;exact⟨r,p,clock,hI _ a,(hs _ a).trans b,dB.mono o _ d,j⟩
 | .func f first jy,cs,h=>by
  simp only[aH]at h⊢;obtain⟨s,cv,a,b,d⟩:=h;exact⟨s,cv,bY.mono first s a,bY.mono jy cv b,d⟩
 | .st u fs,cs,h=>by
  simp only[aH]at h⊢;obtain⟨l,g,a,b,d⟩:=h;exact⟨l,g,a,bA.mono l fs g b,d⟩
theorem bY.mono:∀(vs:List PV)(q:List cy),bY P w ad vs q->bY P w' aJ vs q
 |[],_,h=>by simpa[bY]using h
 |v::vs,q,h=>by
  simp only[bY]at h⊢;obtain⟨y,z,a,b,d⟩:=h;exact⟨y,z,a,aH.mono v y b,bY.mono vs z d⟩
theorem dB.mono:∀(o:List (PV×PV))(p:List ej),dB P w ad o p->dB P w' aJ o p
 |[],_,h=>by simpa[dB]using h
 |(k,v)::r,p,h=>by
  simp only[dB]at h⊢;obtain⟨e,rest,a,b,d,j⟩:=h;exact⟨e,rest,a,aH.mono k _ b,aH.mono v _ d,dB.mono r rest j⟩
end
theorem qG.mono(h:qG P w ad):qG P w' aJ:=⟨fun g=>aH.mono hI hs _ _ (h.val g),fun g cs c=>by
 obtain⟨a,T,b⟩:=h.raw g cs c;exact⟨hI _ a,T,(hs _ a).trans b⟩,fun g c=>by
 obtain⟨a,te,pe,T,b⟩:=h.EA g c;exact⟨hI _ a,te,pe,T,(hs _ a).trans b⟩⟩
variable{β aR:Bd}{H H':ak}(aY:cZ β H aR H')
include aY
omit hI hs in
theorem cG.mono:∀(v:AV)(x:cy),aI (aQ H) v->cG P β H v x->cG P aR H' v x
 | .ptr b path,x,d,h=>by
  simp only[cG,aI]at*;obtain⟨az,off,o,a,e,f⟩:=h;refine⟨az,off,o,a,e,fun c=>?_⟩;obtain⟨k1,k2⟩:=aY.obj 0 b d c;rw[k2];exact f k1
 | .cM b aF an i path,x,d,h=>by
  simp only[cG,aI]at*;obtain⟨az,off,o,g1,g2,g3⟩:=h;refine⟨az,off,o,g1,g2,fun k j c hn=>?_⟩;obtain⟨k0,kn,a,e,f,g⟩:=aY.arr b aF an k j d c;rw[(g hn).1];exact g3 k0 kn a (fun hh=>hn (f.2 hh))
 | .sl b aF an off len,x,d,h=>by
  simp only[cG,aI]at*;intro k j c;obtain⟨k0,kn,a,e,f,g⟩:=aY.arr b aF an k j d c;obtain⟨n,l,m⟩:=h k0 kn a;refine⟨o_,fun hn=>l (f.1 hn),fun hn=>?_⟩;rw[(g hn).1,(g hn).2];exact m (fun hh=>hn (f.2 hh))
 | .map b,x,d,h=>by
  simp only[cG,aI]at*;refine⟨fun c=>?_,fun c=>?_⟩
  ·obtain⟨a,e⟩:=aY.obj 1 b d c;rw[e];exact h.1 a
  ·obtain⟨a,e⟩:=aY.loop b d c;rw[e];exact h.2 a
 | .p _,_,_,h| .st _ _,_,_,h| .func _ _ _,_,_,h| .aE _,_,_,h=>by simp[cG]at h
omit hI hs in
theorem cg.mono(v:AV)(x:cy)(a:aI (aQ H) v)(h:cg P β H v x):cg P aR H' v x:=⟨h.1,cG.mono aY v x a h.2⟩
mutual
theorem bG.mono:∀(v:AV)(cs:List cy),aI (aQ H) v->bG P w ad β H v cs->bG P w' aJ aR H' v cs
 | .p t,cs,_,h=>by simp only[bG]at h⊢;exact bc.mono hI hs t cs h
 | .st u fs,cs,a,h=>by
  simp only[bG,aI]at*;obtain⟨l,j,d,e,g⟩:=h;exact⟨l,j,d,b9.mono l fs j a e,g⟩
 | .func f first jy,cs,a,h=>by
  simp only[bG,aI]at*;obtain⟨k,cv,d,e,g⟩:=h;exact⟨k,cv,bX.mono first k a.1 d,bX.mono jy cv a.2 e,g⟩
 | .aE _,_,_,h=>by simp[bG]at h
 | .ptr b path,cs,a,h=>by
  simp only[bG]at*;obtain⟨v,d,e⟩:=h;exact⟨v,d,cg.mono aY _ _ a e⟩
 | .cM b aF an i path,cs,a,h=>by
  simp only[bG]at*;obtain⟨v,d,e⟩:=h;exact⟨v,d,cg.mono aY _ _ a e⟩
 | .sl b aF an off len,cs,a,h=>by
  simp only[bG]at*;obtain⟨v,d,e⟩:=h;exact⟨v,d,cg.mono aY _ _ a e⟩
 | .map b,cs,a,h=>by
  simp only[bG]at*;obtain⟨v,d,e⟩:=h;exact⟨v,d,cg.mono aY _ _ a e⟩
theorem b9.mono:∀(l:List Nat)(vs:List AV)(j:List (List cy)),bk (aQ H) vs->b9 P w ad β H l vs j->b9 P w' aJ aR H' l vs j
 |[],[],_,_,h=>by simpa[b9]using h
 |[],_::_,_,_,h=>by simp[b9]at h
 |_::_,[],_,_,h=>by simp[b9]at h
 |n::q,v::vs,j,a,h=>by
  simp only[b9,bk]at*;obtain⟨c,cs,d,e,g,o⟩:=h;exact⟨c,cs,d,bG.mono v c a.1 e,g,b9.mono q vs cs a.2 o⟩
theorem aD.mono:∀(v:AV)(x:cy),aI (aQ H) v->aD P w ad β H v x->aD P w' aJ aR H' v x
 | .p t,cs,_,h=>by simp only[aD]at h⊢;exact aH.mono hI hs t cs h
 | .st u fs,cs,a,h=>by
  simp only[aD,aI]at*;obtain⟨l,j,d,e,g⟩:=h;exact⟨l,j,d,b9.mono l fs j a e,g⟩
 | .func f first jy,cs,a,h=>by
  simp only[aD,aI]at*;obtain⟨k,cv,d,e,g⟩:=h;exact⟨k,cv,bX.mono first k a.1 d,bX.mono jy cv a.2 e,g⟩
 | .aE vs,cs,a,h=>by
  simp only[aD,aI]at*;obtain⟨xs,d,e⟩:=h;exact⟨xs,bX.mono vs xs a d,e⟩
 | .ptr b path,cs,a,h=>by simp only[aD]at*;exact cg.mono aY _ _ a h
 | .cM b aF an i path,cs,a,h=>by simp only[aD]at*;exact cg.mono aY _ _ a h
 | .sl b aF an off len,cs,a,h=>by simp only[aD]at*;exact cg.mono aY _ _ a h
 | .map b,cs,a,h=>by simp only[aD]at*;exact cg.mono aY _ _ a h
theorem bX.mono:∀(vs:List AV)(xs:List cy),bk (aQ H) vs->bX P w ad β H vs xs->bX P w' aJ aR H' vs xs
 |[],_,_,h=>by simpa[bX]using h
 |v::vs,xs,a,h=>by
  simp only[bX,bk]at*;obtain⟨y,m,d,e,g⟩:=h;exact⟨y,m,d,aD.mono v y a.1 e,bX.mono vs m a.2 g⟩
end
end mono
def fy:List AV->Option (List PV)
 |[]=>some []
 | .p v::r=>match fy r with
  |some l=>some (v::l)
  |none=>none
 |_::_=>none
def jm(u:c9)(fs:List AV):AV:=
 match fy fs with
 |some l=>.p (.st u l)
 |none=>.st u fs
def nC:PV->List (c9×Nat)->Option PV
 |t,[]=>some t
 |t,(u,i)::r=>if aP t=.agg u then(match(cz t)[i]? with
  |some f=>nC f r
  |none=>none)else none
def fY:AV->List (c9×Nat)->Option AV
 |t,[]=>some t
 | .p t,(u,i)::r=>match nC t ((u,i)::r)with
  |some s=>some (.p s)
  |none=>none
 | .st u' fs,(u,i)::r=>if u'=u then(match fs[i]? with
  |some f=>fY f r
  |none=>none)else none
 |_,_=>none
def iu(t:AV)(b:List (c9×Nat))(x:AV):Option AV:=
 match b with
 |[]=>some x
 |(u,i)::r=>
  match t with
  | .p t=>if aP t=.agg u then(match(cz t)[i]? with
   |some f=>(match iu (.p f) r x with
    |some a=>some (jm u (((cz t).map .p).set i a))
    |none=>none)
   |none=>none)else none
  | .st u' fs=>if u'=u then(match fs[i]? with
   |some f=>(match iu f r x with
    |some a=>some (jm u (fs.set i a))
    |none=>none)
   |none=>none)else none
  |_=>none
section
variable{P:da}{w:db}{ad:Nat->Prop}{β:Bd}{H:ak}
theorem zE:∀{l:List Nat}{vs:List PV}{a:List (List cy)},bA P w ad l vs a->a.map (·.length)=l/\vs.length=l.length/\a.length=l.length
 |[],[],_,h=>by simp[bA]at h;subst h;simp
 |[],_::_,_,h=>by simp[bA]at h
 |_::_,[],_,h=>by simp[bA]at h
 |n::f,v::vs,a,h=>by
  simp only[bA]at h;obtain⟨c,cs,rfl,e,b,d⟩:=h;have:=zE d;simp[b,this]
theorem Ct:∀{l:List Nat}{vs:List AV}{a:List (List cy)},b9 P w ad β H l vs a->a.map (·.length)=l/\vs.length=l.length/\a.length=l.length
 |[],[],_,h=>by simp[b9]at h;subst h;simp
 |[],_::_,_,h=>by simp[b9]at h
 |_::_,[],_,h=>by simp[b9]at h
 |n::f,v::vs,a,h=>by
  simp only[b9]at h;obtain⟨c,cs,rfl,e,b,d⟩:=h;have:=Ct d;simp[b,this]
theorem Rx{u:c9}{l:List Nat}(h:dG P u=some l):l.sum=P.cellsOf u/\∀n∈l,0<n:=by
 unfold dG at h
 split at h
 ·dsimp only at h
  split at h
  ·rename_i hc;simp at hc;obtain⟨⟨a,b⟩,c⟩:=hc;simp at h;subst h;refine⟨b,?_⟩;intro n hn;simp at hn;obtain⟨f,hf,rfl⟩:=hn;obtain⟨i,hi,rfl⟩:=Array.mem_iff_getElem.1 hf;exact a i hi
  ·simp at h
 ·split at h
  ·rename_i hc;simp at hc;simp at h;subst h;refine⟨by simp[hN,hc.2],?_⟩;intro n hn;have:=h2 hn;omega
  ·simp at h
 ·simp at h
theorem uK:∀{v:PV}{cs:List cy},bc P w ad v cs->cs.length=bZ P (aP v)/\aP v≠.bad:=by
 intro v cs h;cases v<;>simp only[bc]at h
 case st u fs=>
  obtain⟨l,c,a,b,rfl⟩:=h;have:=zE b;simp[aP,bZ,this.1,(Rx a).1]
 case str=>obtain⟨_,h,_⟩:=h;subst h;simp[aP,bZ]
 case seq=>
  rcases h with⟨_,rfl⟩|⟨_,_,_,_,_,_,_,_,_,_,_,rfl⟩<;>simp[aP,bZ]
 all_goals first
  |(subst h;simp[aP,bZ])
  |(obtain⟨_,_,_,_,_,_,rfl⟩:=h;simp[aP,bZ])
  |(obtain⟨_,_,_,_,_,rfl⟩:=h;simp[aP,bZ])
  |(obtain⟨_,_,_,_,_,_,_,_,_,_,_,_,rfl⟩:=h;simp[aP,bZ])
  |(obtain⟨_,_,_,_,_,_,_,rfl⟩:=h;simp[aP,bZ])
  |(obtain⟨_,_,_,_,rfl⟩:=h;simp[aP,bZ])
  |(obtain⟨_,h,_⟩:=h;subst h;simp[aP,bZ])
  |exact h.elim
theorem rO{v:AV}{cs:List cy}(h:bG P w ad β H v cs):cs.length=bZ P (aa v)/\aa v≠.bad:=by
 cases v<;>simp only[bG]at h
 case p t=>exact uK h
 case st u fs=>
  obtain⟨l,c,a,b,rfl⟩:=h;have:=Ct b;simp[aa,bZ,this.1,(Rx a).1]
 all_goals first
  |(obtain⟨_,rfl,_⟩:=h;simp[aa,bZ])
  |(obtain⟨_,_,_,_,rfl⟩:=h;simp[aa,bZ])
theorem xy{v:PV}(hs:aP v=.leaf)(cs:List cy):bc P w ad v cs↔∃c,cs=[c]/\aH P w ad v c:=by
 cases v<;>simp[aP]at hs<;>simp only[bc,aH]
 case bool|int|gL|aM|gB|iV|iK=>exact⟨fun h=>⟨_,h,rfl⟩,fun⟨c,g,i⟩=>by rw[g,i]⟩
 case str s=>exact⟨fun⟨bs,g,i⟩=>⟨_,g,bs,rfl,i⟩,fun⟨c,g,bs,i,j⟩=>⟨bs,by rw[g,i],j⟩⟩
 case cW t=>exact⟨fun⟨a,b,c,g,i,j,k⟩=>⟨_,k,a,b,c,g,i,j,rfl⟩,fun⟨v,g,a,b,c,i,j,k,l⟩=>⟨a,b,c,i,j,k,by rw[g,l]⟩⟩
 case dD f es=>exact⟨fun⟨a,b,c,d,e,g,i,j,k,l,sp,n,m⟩=>⟨_,m,a,b,c,d,e,g,i,j,k,l,sp,n,rfl⟩,fun⟨v,h,a,b,c,d,e,g,i,j,k,l,sp,n,m⟩=>⟨a,b,c,d,e,g,i,j,k,l,sp,n,by rw[h,m]⟩⟩
 case seq es=>
  constructor
  ·rintro(⟨g,i⟩|⟨a,b,c,d,e,g,i,j,l,sp,n,m⟩)
   ·exact⟨_,i,.inl ⟨g,rfl⟩⟩
   ·exact⟨_,m,.inr ⟨a,b,c,d,e,g,i,j,l,sp,n,rfl⟩⟩
  ·rintro⟨v,h,(⟨g,i⟩|⟨a,b,c,d,e,g,i,j,l,sp,n,m⟩)⟩
   ·exact .inl ⟨g,by rw[h,i]⟩
   ·exact .inr ⟨a,b,c,d,e,g,i,j,l,sp,n,by rw[h,m]⟩
 case fA es=>exact⟨fun⟨a,b,c,g,i,j,k⟩=>⟨_,k,a,b,c,g,i,j,rfl⟩,fun⟨v,h,a,b,c,g,i,j,k⟩=>⟨a,b,c,g,i,j,by rw[h,k]⟩⟩
 case func f x y=>exact⟨fun⟨a,b,g,i,j⟩=>⟨_,j,a,b,g,i,rfl⟩,fun⟨v,h,a,b,g,i,j⟩=>⟨a,b,g,i,by rw[h,j]⟩⟩
theorem AA{v:PV}{u:c9}(hs:aP v=.agg u)(cs:List cy):bc P w ad v cs↔aH P w ad v (.agg cs.toArray):=by
 cases v<;>simp[aP]at hs;subst hs;simp only[bc,aH];constructor
 ·rintro⟨l,a,b,c,rfl⟩;exact⟨l,a,b,c,rfl⟩
 ·rintro⟨l,a,b,c,d⟩;refine⟨l,a,b,c,?_⟩;injection d with d;simpa using congrArg cb d
theorem G6{v:AV}(hs:aa v=.leaf)(cs:List cy):bG P w ad β H v cs↔∃c,cs=[c]/\aD P w ad β H v c:=by
 cases v<;>simp[aa]at hs<;>simp only[bG,aD]
 case p t=>exact xy hs cs
 case func f x y=>exact⟨fun⟨a,b,d,e,g⟩=>⟨_,g,a,b,d,e,rfl⟩,fun⟨v,h,a,b,d,e,g⟩=>⟨a,b,d,e,by rw[h,g]⟩⟩
theorem Sf{v:AV}{u:c9}(hs:aa v=.agg u)(cs:List cy):bG P w ad β H v cs↔aD P w ad β H v (.agg cs.toArray):=by
 cases v<;>simp[aa]at hs
 case p t=>simp only[bG,aD];exact AA hs cs
 case st u' fs=>
  subst hs;simp only[bG,aD];constructor
  ·rintro⟨l,a,b,c,rfl⟩;exact⟨l,a,b,c,rfl⟩
  ·rintro⟨l,a,b,c,d⟩;refine⟨l,a,b,c,?_⟩;injection d with d;simpa using congrArg cb d
theorem CJ{v:AV}{x:cy}(h:aD P w ad β H v x)(hs:aa v≠.bad):bG P w ad β H v x.cells.toList:=by
 cases a:aa v with
 |bad=>exact absurd a hs
 |leaf=>
  rw[G6 a];refine⟨x,?_,h⟩;cases v<;>simp[aa]at a<;>simp only[aD]at h
  case p t=>
   cases t<;>simp[aP]at a<;>simp only[aH]at h
   case bool|int|gL|aM|gB|iV|iK=>subst h;rfl
   case str=>obtain⟨_,rfl,_⟩:=h;rfl
   case cW=>obtain⟨_,_,_,_,_,_,rfl⟩:=h;rfl
   case dD=>obtain⟨_,_,_,_,_,_,_,_,_,_,_,_,rfl⟩:=h;rfl
   case seq=>rcases h with⟨_,rfl⟩|⟨_,_,_,_,_,_,_,_,_,_,_,rfl⟩<;>rfl
   case fA=>obtain⟨_,_,_,_,_,_,rfl⟩:=h;rfl
   case func=>obtain⟨_,_,_,_,rfl⟩:=h;rfl
  case func=>obtain⟨_,_,_,_,rfl⟩:=h;rfl
  all_goals (have b:=h.1;cases x<;>first|rfl|(simp[hw]at b))
 |agg u=>
  cases v<;>simp[aa]at a
  case p t=>
   cases t<;>simp[aP]at a;simp only[aD,aH]at h;obtain⟨l,c,b,d,rfl⟩:=h;simp only[bG,bc];exact⟨l,c,b,d,by simp[hA]⟩
  case st u' fs=>
   simp only[aD]at h;obtain⟨l,c,b,d,rfl⟩:=h;simp only[bG];exact⟨l,c,b,d,by simp[hA]⟩
end
mutual
def Wk:PV->PV->Prop
 | .undef,v=>v=.undef
 | .bool b,v=>v=.bool b
 | .int k n,v=>v=.int k n
 | .str s,v=>v=.str s
 | .gL,v=>v=.gL
 | .gB,v=>v=.gB
 | .iV,v=>v=.iV
 | .iK,v=>v=.iK
 | .aM,v=>v=.aM\/v=.seq []
 | .cW t,v=>match v with
  | .cW h=>Wk t h
  |_=>False
 | .dD f es,v=>match v with
  | .dD g fs=>(g=true->f=true)/\ch es fs
  | .seq fs=>ch es fs
  |_=>False
 | .seq es,v=>match v with
  | .seq fs=>ch es fs
  |_=>False
 | .fA es,v=>match v with
  | .fA fs=>nG es fs
  |_=>False
 | .func f a b,v=>match v with
  | .func g c d=>f=g/\ch a c/\ch b d
  |_=>False
 | .st u es,v=>match v with
  | .st u' fs=>u=u'/\ch es fs
  |_=>False
 | .aE es,v=>match v with
  | .aE fs=>ch es fs
  |_=>False
def ch:List PV->List PV->Prop
 |[],fs=>fs=[]
 |v::vs,fs=>match fs with
  |f::fs=>Wk v f/\ch vs fs
  |[]=>False
def nG:List (PV×PV)->List (PV×PV)->Prop
 |[],fs=>fs=[]
 |(k,v)::vs,fs=>match fs with
  |(e,f)::fs=>k=e/\Wk v f/\nG vs fs
  |[]=>False
end
mutual
theorem Wk.refl:∀v,Wk v v
 | .undef| .bool _| .int _ _| .str _| .gL| .gB| .iV| .iK=>by simp[Wk]
 | .aM=>by simp[Wk]
 | .cW t=>by simp only[Wk];exact Wk.refl t
 | .dD f c=>by simp only[Wk];exact⟨id,ch.refl c⟩
 | .seq c=>by simp only[Wk];exact ch.refl c
 | .fA c=>by simp only[Wk];exact nG.refl c
 | .func f a b=>by simp only[Wk];exact⟨trivial,ch.refl a,ch.refl b⟩
 | .st u c=>by simp only[Wk];exact⟨trivial,ch.refl c⟩
 | .aE c=>by simp only[Wk];exact ch.refl c
theorem ch.refl:∀vs,ch vs vs
 |[]=>by simp[ch]
 |v::vs=>by simp only[ch];exact⟨Wk.refl v,ch.refl vs⟩
theorem nG.refl:∀c,nG c c
 |[]=>by simp[nG]
 |(k,v)::vs=>by simp only[nG];exact⟨trivial,Wk.refl v,nG.refl vs⟩
end
theorem ch.length:∀{es fs:List PV},ch es fs->fs.length=es.length
 |[],fs,h=>by simp only[ch]at h;subst h;rfl
 |v::vs,fs,h=>by
  cases fs with
  |nil=>simp[ch]at h
  |cons f fs=>simp only[ch]at h;simp[ch.length h.2]
theorem ch.tG{a fs:List PV}(h:ch a fs):fs=[]↔a=[]:=by
 have:=h.length;rw[<-hO,<-hO,this]
theorem Wk.aP:∀{v v':PV},Wk v v'->ae.aP v'=ae.aP v
 | .undef,v',h| .bool _,v',h| .int _ _,v',h| .str _,v',h| .gL,v',h| .gB,v',h| .iV,v',h| .iK,v',h=>by simp only[Wk]at h;subst h;rfl
 | .aM,v',h=>by simp only[Wk]at h;rcases h with rfl|rfl<;>rfl
 | .cW _,v',h| .dD _ _,v',h| .seq _,v',h| .fA _,v',h| .func _ _ _,v',h| .aE _,v',h=>by cases v'<;>simp only[Wk]at h<;>rfl
 | .st _ _,v',h=>by
  cases v'<;>simp only[Wk]at h;simp[ae.aP,h.1]
section
variable{P:da}{w:db}{ad:Nat->Prop}
mutual
theorem bc.eE:∀(v v':PV)(cs:List cy),Wk v v'->bc P w ad v cs->bc P w ad v' cs
 | .undef,v',cs,h,hc| .bool _,v',cs,h,hc| .int _ _,v',cs,h,hc| .str _,v',cs,h,hc| .gL,v',cs,h,hc| .gB,v',cs,h,hc| .iV,v',cs,h,hc| .iK,v',cs,h,hc=>by simp only[Wk]at h;subst h;exact hc
 | .aM,v',cs,h,hc=>by
  simp only[Wk]at h;rcases h with rfl|rfl
  ·exact hc
  ·simp only[bc]at hc⊢;exact .inl ⟨trivial,hc⟩
 | .cW t,v',cs,h,hc=>by
  cases v'<;>simp only[Wk]at h;simp only[bc]at hc⊢;obtain⟨az,off,ts,d,i⟩:=hc;exact⟨az,off,ts,bc.eE _ _ _ h d,i⟩
 | .dD f o,v',cs,h,hc=>by
  cases v' with
  |dD g fs=>
   simp only[Wk]at h;simp only[bc]at hc⊢;obtain⟨az,off,cap,an,m,d,i,j,p,q,s⟩:=hc;have z:=h.2.length;rw[z];exact⟨az,off,cap,an,m,bA.eE _ _ _ _ h.2 d,fun A=>i (fun e=>A (h.2.tG.2 e)),j,fun e=>p (h.1 e),q,s⟩
  |seq fs=>
   simp only[Wk]at h;simp only[bc]at hc⊢;obtain⟨az,off,cap,an,m,d,i,j,p,q,s⟩:=hc;have z:=h.length;rw[z];exact .inr ⟨az,off,cap,an,m,bA.eE _ _ _ _ h d,fun A=>i (fun e=>A (h.tG.2 e)),j,q,s⟩
  |_=>simp only[Wk]at h
 | .seq o,v',cs,h,hc=>by
  cases v'<;>simp only[Wk]at h;simp only[bc]at hc⊢;rcases hc with⟨d,i⟩|⟨az,off,cap,an,m,d,i,j,q,s⟩
  ·exact .inl ⟨h.tG.2 d,i⟩
  ·have z:=h.length;rw[z];exact .inr ⟨az,off,cap,an,m,bA.eE _ _ _ _ h d,fun A=>i (fun e=>A (h.tG.2 e)),j,q,s⟩
 | .fA o,v',cs,h,hc=>by
  cases v'<;>simp only[Wk]at h;simp only[bc]at hc⊢;obtain⟨r,C,clock,d,i,j,p⟩:=hc;exact⟨r,C,clock,d,i,dB.eE _ _ _ h j,p⟩
 | .func f a b,v',cs,h,hc=>by
  cases v'<;>simp only[Wk]at h;obtain⟨rfl,E,F⟩:=h;simp only[bc]at hc⊢;obtain⟨D,cv,d,i,j⟩:=hc;exact⟨D,cv,bY.eE _ _ _ E d,bY.eE _ _ _ F i,j⟩
 | .st u o,v',cs,h,hc=>by
  cases v'<;>simp only[Wk]at h;obtain⟨rfl,h⟩:=h;simp only[bc]at hc⊢;obtain⟨l,m,d,i,j⟩:=hc;exact⟨l,m,d,bA.eE _ _ _ _ h i,j⟩
 | .aE o,v',cs,h,hc=>by simp[bc]at hc
theorem bA.eE:∀(l:List Nat)(o fs:List PV)(m:List (List cy)),ch o fs->bA P w ad l o m->bA P w ad l fs m
 |l,[],fs,m,h,hc=>by simp only[ch]at h;subst h;exact hc
 |l,v::vs,fs,m,h,hc=>by
  cases fs with
  |nil=>simp[ch]at h
  |cons f fs=>
   simp only[ch]at h;cases l with
   |nil=>simp[bA]at hc
   |cons n l=>
    simp only[bA]at hc⊢;obtain⟨c,cs,d,i,j,p⟩:=hc;exact⟨c,cs,d,bc.eE _ _ _ h.1 i,j,bA.eE _ _ _ _ h.2 p⟩
theorem aH.eE:∀(v v':PV)(x:cy),Wk v v'->aH P w ad v x->aH P w ad v' x
 | .undef,v',cs,h,hc| .bool _,v',cs,h,hc| .int _ _,v',cs,h,hc| .str _,v',cs,h,hc| .gL,v',cs,h,hc| .gB,v',cs,h,hc| .iV,v',cs,h,hc| .iK,v',cs,h,hc=>by simp only[Wk]at h;subst h;exact hc
 | .aM,v',cs,h,hc=>by
  simp only[Wk]at h;rcases h with rfl|rfl
  ·exact hc
  ·simp only[aH]at hc⊢;exact .inl ⟨trivial,hc⟩
 | .cW t,v',cs,h,hc=>by
  cases v'<;>simp only[Wk]at h;simp only[aH]at hc⊢;obtain⟨az,off,ts,d,i⟩:=hc;exact⟨az,off,ts,bc.eE _ _ _ h d,i⟩
 | .dD f o,v',cs,h,hc=>by
  cases v' with
  |dD g fs=>
   simp only[Wk]at h;simp only[aH]at hc⊢;obtain⟨az,off,cap,an,m,d,i,j,p,q,s⟩:=hc;have z:=h.2.length;rw[z];exact⟨az,off,cap,an,m,bA.eE _ _ _ _ h.2 d,fun A=>i (fun e=>A (h.2.tG.2 e)),j,fun e=>p (h.1 e),q,s⟩
  |seq fs=>
   simp only[Wk]at h;simp only[aH]at hc⊢;obtain⟨az,off,cap,an,m,d,i,j,p,q,s⟩:=hc;have z:=h.length;rw[z];exact .inr ⟨az,off,cap,an,m,bA.eE _ _ _ _ h d,fun A=>i (fun e=>A (h.tG.2 e)),j,q,s⟩
  |_=>simp only[Wk]at h
 | .seq o,v',cs,h,hc=>by
  cases v'<;>simp only[Wk]at h;simp only[aH]at hc⊢;rcases hc with⟨d,i⟩|⟨az,off,cap,an,m,d,i,j,q,s⟩
  ·exact .inl ⟨h.tG.2 d,i⟩
  ·have z:=h.length;rw[z];exact .inr ⟨az,off,cap,an,m,bA.eE _ _ _ _ h d,fun A=>i (fun e=>A (h.tG.2 e)),j,q,s⟩
 | .fA o,v',cs,h,hc=>by
  cases v'<;>simp only[Wk]at h;simp only[aH]at hc⊢;obtain⟨r,C,clock,d,i,j,p⟩:=hc;exact⟨r,C,clock,d,i,dB.eE _ _ _ h j,p⟩
 | .func f a b,v',cs,h,hc=>by
  cases v'<;>simp only[Wk]at h;obtain⟨rfl,E,F⟩:=h;simp only[aH]at hc⊢;obtain⟨D,cv,d,i,j⟩:=hc;exact⟨D,cv,bY.eE _ _ _ E d,bY.eE _ _ _ F i,j⟩
 | .st u o,v',cs,h,hc=>by
  cases v'<;>simp only[Wk]at h;obtain⟨rfl,h⟩:=h;simp only[aH]at hc⊢;obtain⟨l,m,d,i,j⟩:=hc;exact⟨l,m,d,bA.eE _ _ _ _ h i,j⟩
 | .aE o,v',cs,h,hc=>by
  cases v'<;>simp only[Wk]at h;simp only[aH]at hc⊢;obtain⟨B,d,i⟩:=hc;exact⟨B,bY.eE _ _ _ h d,i⟩
theorem bY.eE:∀(o fs:List PV)(B:List cy),ch o fs->bY P w ad o B->bY P w ad fs B
 |[],fs,B,h,hc=>by simp only[ch]at h;subst h;exact hc
 |v::vs,fs,B,h,hc=>by
  cases fs with
  |nil=>simp[ch]at h
  |cons f fs=>
   simp only[ch]at h;simp only[bY]at hc⊢;obtain⟨y,G,d,i,j⟩:=hc;exact⟨y,G,d,aH.eE _ _ _ h.1 i,bY.eE _ _ _ h.2 j⟩
theorem dB.eE:∀(o fs:List (PV×PV))(C:List ej),nG o fs->dB P w ad o C->dB P w ad fs C
 |[],fs,B,h,hc=>by simp only[nG]at h;subst h;exact hc
 |(k,v)::vs,fs,B,h,hc=>by
  cases fs with
  |nil=>simp[nG]at h
  |cons f fs=>
   simp only[nG]at h;obtain⟨rfl,d,i⟩:=h;simp only[dB]at hc⊢;obtain⟨e,rest,e1,e2,e3,e4⟩:=hc;exact⟨e,rest,e1,e2,aH.eE _ _ _ d e3,dB.eE _ _ _ i e4⟩
end
end
section
variable{P:da}{w:db}{ad:Nat->Prop}{β:Bd}{H:ak}
theorem po:∀{fs:List AV}{l:List PV},fy fs=some l->fs=l.map .p
 |[],l,h=>by simp[fy]at h;subst h;rfl
 | .p v::r,l,h=>by
  simp only[fy]at h;cases a:fy r with
  |none=>simp[a]at h
  |some b=>simp[a]at h;subst h;simp[po a]
 | .ptr ..::_,_,h| .cM ..::_,_,h| .sl ..::_,_,h| .map ..::_,_,h| .func ..::_,_,h| .st ..::_,_,h| .aE ..::_,_,h=>by simp[fy]at h
theorem Xq(l:List PV):fy (l.map .p)=some l:=by
 induction l with
 |nil=>rfl
 |cons v l a=>simp[fy,a]
theorem rN:∀{l:List Nat}{fs:List PV}{a:List (List cy)},b9 P w ad β H l (fs.map .p) a↔bA P w ad l fs a
 |[],[],_=>by simp[b9,bA]
 |[],_::_,_=>by simp[b9,bA]
 |_::_,[],_=>by simp[b9,bA]
 |n::g,v::vs,a=>by
  simp only[hX,b9,bA,bG];constructor
  ·rintro⟨c,cs,b,d,e,f⟩;exact⟨c,cs,b,d,e,rN.1 f⟩
  ·rintro⟨c,cs,b,d,e,f⟩;exact⟨c,cs,b,d,e,rN.2 f⟩
theorem l9:∀{fs:List PV}{d:List cy},bX P w ad β H (fs.map .p) d↔bY P w ad fs d
 |[],_=>by simp[bX,bY]
 |v::vs,d=>by
  simp only[hX,bX,bY,aD];constructor
  ·rintro⟨y,e,a,b,c⟩;exact⟨y,e,a,b,l9.1 c⟩
  ·rintro⟨y,e,a,b,c⟩;exact⟨y,e,a,b,l9.2 c⟩
theorem Rp{u:c9}{fs:List AV}{cs:List cy}:bG P w ad β H (jm u fs) cs↔bG P w ad β H (.st u fs) cs:=by
 unfold jm;cases h:fy fs with
 |none=>rfl
 |some l=>have:=po h;subst this;simp[bG,bc,rN]
theorem awS{u:c9}{fs:List AV}{x:cy}:aD P w ad β H (jm u fs) x↔aD P w ad β H (.st u fs) x:=by
 unfold jm;cases h:fy fs with
 |none=>rfl
 |some l=>have:=po h;subst this;simp[aD,aH,rN]
theorem kU(n:Nat×Nat->Prop):∀l:List PV,bk n (l.map .p)
 |[]=>by simp[bk]
 |v::l=>by simp only[hX,bk,aI,true_and];exact kU n l
theorem F3{n:Nat×Nat->Prop}{u:c9}{fs:List AV}(h:bk n fs):aI n (jm u fs):=by
 unfold jm;cases fy fs with
 |none=>exact h
 |some l=>simp[aI]
theorem eQ{n:Nat×Nat->Prop}:∀{fs:List AV},bk n fs↔∀v∈fs,aI n v
 |[]=>by simp[bk]
 |v::vs=>by simp[bk,eQ (fs:=vs)]
theorem xH:∀{l:List Nat}{fs:List AV}{d:List (List cy)}{i:Nat}{f:AV},b9 P w ad β H l fs d->fs[i]?=some f->
 ∃pre c post,d.flatten=pre++c++post/\pre.length=(l.take i).sum/\i<l.length/\l[i]?=some c.length/\bG P w ad β H f c/\
  ∀b c',bG P w ad β H b c'->c'.length=c.length->∃a,a.flatten=pre++c'++post/\b9 P w ad β H l (fs.set i b) a
 |[],[],_,i,f,_,hf=>by simp at hf
 |[],_::_,_,_,_,h,_=>by simp[b9]at h
 |_::_,[],_,_,_,h,_=>by simp[b9]at h
 |n::m,v::vs,d,0,f,h,hf=>by
  simp only[b9]at h;obtain⟨c,cs,rfl,g,e,j⟩:=h;simp at hf;subst hf;refine⟨[],c,cs.flatten,s_,s_,s_,by simp[e],g,?_⟩;intro b c' hc k;exact⟨c'::cs,s_,by simp only[i1,b9];exact⟨c',cs,rfl,hc,o_,j⟩⟩
 |n::m,v::vs,d,i+1,f,h,hf=>by
  simp only[b9]at h;obtain⟨c,cs,rfl,g,e,j⟩:=h;simp at hf;obtain⟨pre,x,post,k1,k2,k3,k4,k5,k6⟩:=xH j hf;refine⟨c++pre,x,post,by simp[k1],by simp[k2,e],by simpa using k3,by simpa using k4,k5,?_⟩;intro b c' hc k;obtain⟨a,e1,e2⟩:=k6 b c' hc k;exact⟨c::a,by simp[e1],by simp only[List.set_cons_succ,b9];exact⟨c,a,rfl,g,e,e2⟩⟩
theorem Qs{t:AV}{u:c9}{cs:List cy}(hs:aa t= .agg u)(h:bG P w ad β H t cs):
 ∃l fs a,dG P u=some l/\b9 P w ad β H l fs a/\cs=a.flatten/\(∀c,t=.p c->fs=(cz c).map .p)/\(∀u' g,t=.st u' g->fs=g/\u'=u):=by
 cases t<;>simp[aa]at hs
 case p t=>
  cases t<;>simp[aP]at hs;subst hs;simp only[bG,bc]at h;obtain⟨l,a,d,e,f⟩:=h;exact⟨l,_,a,d,rN.2 e,f,fun c b=>by cases b;rfl,fun _ _ h=>by cases h⟩
 case st u' fs=>
  subst hs;simp only[bG]at h;obtain⟨l,a,d,e,f⟩:=h;exact⟨l,fs,a,d,e,f,(fun c b=>by cases b),(fun j i b=>by cases b;exact⟨rfl,rfl⟩)⟩
theorem DL{t:PV}{a:List (c9×Nat)}:fY (.p t) a=(nC t a).map .p:=by
 cases a with
 |nil=>rfl
 |cons x r=>obtain⟨u,i⟩:=x;simp only[fY];cases nC t ((u,i)::r)<;>rfl
theorem tF:∀{y:List (c9×Nat)}{t s:AV}{cs:List cy}{o:Nat},bG P w ad β H t cs->fY t y=some s->iF P y=some o->
 ∃m n post,cs=m++n++post/\m.length=o/\bG P w ad β H s n/\
  ∀x k a,iu t y x=some a->bG P w ad β H x k->k.length=n.length->bG P w ad β H a (m++k++post)
 |[],t,s,cs,o,h,hs,d=>by
  simp[iF]at d;subst d;simp[fY]at hs;subst hs;refine⟨[],cs,[],s_,s_,h,?_⟩;intro x k a hx v _;simp[iu]at hx;subst hx;simpa using v
 |(u,i)::r,t,s,cs,o,h,hs,d=>by
  simp only[iF]at d;cases hz:dG P u with
  |none=>simp[hz]at d
  |some l=>
   cases q:iF P r with
   |none=>simp[hz,q]at d
   |some o'=>
    simp[hz,q]at d;obtain⟨G,rfl⟩:=d
    have key:∃fs f,(∃j e,dG P u=some j/\b9 P w ad β H j fs e/\cs=e.flatten)/\fs[i]?=some f/\fY f r=some s/\
     (∀x a,iu t ((u,i)::r) x=some a->∃b,iu f r x=some b/\a=jm u (fs.set i b)):=by
     cases t
     case p t=>
      rw[DL]at hs;simp only[nC]at hs
      by_cases g:aP t=.agg u
      ·simp only[g,if_true]at hs;obtain⟨j,fs,e,k1,k2,k3,k4,_⟩:=Qs (t:=.p t) (by simpa[aa]using g) h;have:=k4 t rfl;subst this;cases hf:(cz t)[i]? with
       |none=>simp[hf]at hs
       |some f=>
        simp only[hf]at hs;refine⟨_,.p f,⟨j,e,k1,k2,k3⟩,by simp[hf],by rw[DL];exact hs,?_⟩;intro x a hx;simp only[iu,g,if_true,hf]at hx;cases hq:iu (.p f) r x with
        |none=>simp[hq]at hx
        |some b=>simp[hq]at hx;exact⟨b,rfl,hx.symm⟩
      ·simp[g]at hs
     case st u' fs=>
      simp only[fY]at hs
      by_cases g:u'=u
      ·subst g;simp only[if_true]at hs;obtain⟨j,B,e,k1,k2,k3,_,k4⟩:=Qs (t:=.st u' fs) rfl h;have:=(k4 _ _ rfl).1;subst this;cases hf:B[i]? with
       |none=>simp[hf]at hs
       |some f=>
        simp only[hf]at hs;refine⟨_,f,⟨j,e,k1,k2,k3⟩,hf,hs,?_⟩;intro x a hx;simp only[iu,if_true,hf]at hx;cases hq:iu f r x with
        |none=>simp[hq]at hx
        |some b=>simp[hq]at hx;exact⟨b,rfl,hx.symm⟩
      ·simp[g]at hs
     all_goals simp[fY]at hs
    obtain⟨fs,f,⟨j,e,k1,k2,k3⟩,hf,D,aW⟩:=key;rw[hz]at k1;cases k1;obtain⟨m,c,post,e1,e2,e3,e4,e5,e6⟩:=xH k2 hf;obtain⟨F,n,E,g1,g2,g3,g4⟩:=tF e5 D q;refine⟨m++F,n,E++post,by rw[k3,e1,g1];simp,by simp[e2,g2],g3,?_⟩;intro x k a hx v z;obtain⟨b,C,rfl⟩:=aW x a hx;have bm:=g4 x k b C v z;obtain⟨A,c1,c2⟩:=e6 b _ bm (by rw[g1];simp[z]);rw[Rp];simp only[bG];exact⟨l,A,hz,c2,by rw[c1];simp⟩
theorem Da{path:List (c9×Nat)}{t s:PV}{cs:List cy}{o:Nat}(h:bc P w ad t cs)(hs:nC t path=some s)(f:iF P path=some o):
 ∃a b post,cs=a++b++post/\a.length=o/\bc P w ad s b:=by
 obtain⟨a,b,post,c,d,e,_⟩:=tF (β:=⟨id,id⟩) (H:=[]) (t:=.p t) (s:=.p s) (by simpa[bG]using h) (by rw[DL,hs];rfl) f;exact⟨a,b,post,c,d,by simpa[bG]using e⟩
theorem Ad{n:Nat×Nat->Prop}:∀{a:List (c9×Nat)}{t s:AV},fY t a=some s->aI n t->aI n s
 |[],t,s,hs,h=>by simp[fY]at hs;subst hs;exact h
 |(u,i)::r,.p t,s,hs,h=>by
  rw[DL]at hs;cases hq:nC t ((u,i)::r)with
  |none=>simp[hq]at hs
  |some q=>simp[hq]at hs;subst hs;simp[aI]
 |(u,i)::r,.st u' fs,s,hs,h=>by
  simp only[fY]at hs
  split at hs
  ·split at hs
   ·rename_i f hf;simp only[aI]at h;exact Ad hs (eQ.1 h f (hT hf))
   ·simp at hs
  ·simp at hs
 |_::_,.ptr ..,_,hs,_|_::_,.cM ..,_,hs,_|_::_,.sl ..,_,hs,_|_::_,.map ..,_,hs,_|_::_,.func ..,_,hs,_|_::_,.aE ..,_,hs,_=>by simp[fY]at hs
theorem Ae{n:Nat×Nat->Prop}:∀{e:List (c9×Nat)}{t b x:AV},iu t e x=some b->aI n t->aI n x->aI n b
 |[],t,b,x,hs,h,hx=>by simp[iu]at hs;subst hs;exact hx
 |(u,i)::r,.p t,b,x,hs,h,hx=>by
  simp only[iu]at hs
  split at hs
  ·split at hs
   ·split at hs
    ·rename_i f hf d c;simp at hs;subst hs;refine F3 (eQ.2 ?_);intro v a;rcases hU a with a|rfl
     ·exact eQ.1 (kU n _) v a
     ·exact Ae c (by simp[aI]) hx
    ·simp at hs
   ·simp at hs
  ·simp at hs
 |(u,i)::r,.st u' fs,b,x,hs,h,hx=>by
  simp only[iu]at hs
  split at hs
  ·split at hs
   ·split at hs
    ·rename_i _ f hf _ d c;simp at hs;subst hs;simp only[aI]at h;refine F3 (eQ.2 ?_);intro v a;rcases hU a with a|rfl
     ·exact eQ.1 h v a
     ·exact Ae c (eQ.1 h f (hT hf)) hx
    ·simp at hs
   ·simp at hs
  ·simp at hs
 |_::_,.ptr ..,_,_,hs,_,_|_::_,.cM ..,_,_,hs,_,_|_::_,.sl ..,_,_,hs,_,_|_::_,.map ..,_,_,hs,_,_|_::_,.func ..,_,_,hs,_,_|_::_,.aE ..,_,_,hs,_,_=>by simp[iu]at hs
end
structure bg where
 v:AV
 aA:List (Nat×Obj):=[]
 aW:List (Nat×Obj):=[]
 bm:List Obj:=[]
def bu(H:ak)(l:List (Nat×Obj)):ak:=
 match l with
 |[]=>H
 |(b,o)::r=>bu (H.set b o) r
def put(dst:Option Tmp)(v:AV)(e:Env):Env:=
 match dst with
 |some d=>(d,v)::e
 |none=>e
def bg.app(e:bg)(dst:Option Tmp)(s:St):St:=⟨put dst e.v s.env,bu s.heap e.aW++e.bm⟩
def ev(e:Env):dd->AV
 | .tmp t=>aV e t
 | .const v=>.p (ofConst v)
 | .global g=>.p (Gl.g g)
 | .func f=>.p (.func f [] [])
def iL(s:List Nat):ByteArray:=⟨(s.map UInt8.ofNat).toArray⟩
mutual
def ln:PV->PV->Option Bool
 | .bool a,.bool b=>some (a==b)
 | .int k a,.int c b=>if k=c then some (a==b)else none
 | .str a,.str b=>some (a==b)
 | .st u fs,.st u' gs=>if u=u' then Bo fs gs else none
 |_,_=>none
def Bo:List PV->List PV->Option Bool
 |[],[]=>some true
 |a::as,b::bs=>match ln a b with
  |some true=>Bo as bs
  |some false=>some false
  |none=>none
 |_,_=>none
end
def lr(P:da)(c:c9->PV->PV->Option Bool):List c9->List PV->List PV->Option Bool
 |[],[],[]=>some true
 |T::d,a::as,b::bs=>
  if kindOf P T=aP a/\kindOf P T=aP b then
   (match c T a b,lr P c d as bs with
   |some r,some s=>some (r&&s)
   |_,_=>none)
  else none
 |_,_,_=>none
def jz(P:da):Nat->c9->PV->PV->Option Bool
 |0,_,_,_=>none
 |n+1,T,v,v'=>
  match P.underlying T,v,v' with
  |some .bool,.bool a,.bool b=>some (a==b)
  |some (.int _),.int k a,.int d b=>if k=d then some (a==b)else none
  |some .string,.str a,.str b=>some (a==b)
  |some (.struct fs),.st u xs,.st u' c=>
   if kindOf P T= .agg u/\u'=u/\P.stoodInHeld T=false/\fs.toList.all (fun f=>f.name != "_")=true then lr P (jz P n) (fs.toList.map (·.type)) xs c else none
  |some (.array m e),.st u xs,.st u' c=>
   if kindOf P T=.agg u/\u'=u/\(P.info? e).isSome=true then lr P (jz P n) (hK m e) xs c else none
  |_,_,_=>none
def vR(P:da)(T:c9):Bool:=!P.eqGuardType P.depth T
def vf(P:da)(T:c9):Bool:=match P.underlying T with|some .bool=>true|_=>false
def aTl(P:da)(T:c9):Bool:=match P.underlying T with|some (.int _)=>true|_=>false
def jG(P:da)(T:c9):Bool:=match P.underlying T with|some .string=>true|_=>false
inductive yN where|ptr|slice|map|func|iface
 deriving DecidableEq
def uf:dd->Bool
 | .const _=>true
 |_=>false
def eh(P:da)(T:c9)(c:Bool):AV->Option yN
 | .p .gL=>match P.underlying T with
  |some (.pointer _)=>some .ptr
  |_=>none
 | .p .aM=>match P.underlying T with
  |some (.slice _)=>some .slice
  |_=>none
 | .p .gB=>match P.underlying T with
  |some (.map _ _)=>some .map
  |_=>none
 | .p .iV=>match P.underlying T with
  |some (.func _ _ _)=>some .func
  |_=>none
 | .p .iK=>match c,P.underlying T with
  |true,some (.interface _)=>some .iface
  |_,_=>none
 |_=>none
def dC(H:ak)(k:yN)(x:AV):Option Bool:=
 match k,x with
 | .ptr,.p .gL| .slice,.p .aM| .map,.p .gB| .func,.p .iV| .iface,.p .iK=>some true
 | .ptr,.p (.cW _)| .slice,.p (.dD _ _)| .map,.p (.fA _)| .func,.p (.func _ _ _)| .func,.func _ _ _=>some false
 | .ptr,.ptr b _=>match H[b]? with
  |some (.box _ _)=>some false
  |_=>none
 | .map,.map b=>match H[b]? with
  |some (.map _ _)=>some false
  |_=>none
 | .slice,.p (.seq (_::_))=>some false
 | .slice,.sl b aF an _ _=>match H[b]? with
  |some (.arr k c a es)=>if aF=c/\an=a then some (k.gr&&es.isEmpty)else none
  |_=>none
 |_,_=>none
def tR(op:eM)(k:ed)(a b:Int)(K:PV->Prop):Prop:=
 match op with
 | .add=>K (.int k (k.wrap (a+b)))
 | .sub=>K (.int k (k.wrap (a-b)))
 | .mul=>K (.int k (k.wrap (a*b)))
 | .quo=>b≠0/\K (.int k (k.wrap (a.tdiv b)))
 | .rem=>b≠0/\K (.int k (a.tmod b))
 | .and=>K (.int k (k.wrap (cd k.bits a&&&cd k.bits b).toNat))
 | .or=>K (.int k (k.wrap (cd k.bits a|||cd k.bits b).toNat))
 | .xor=>K (.int k (k.wrap (cd k.bits a^^^cd k.bits b).toNat))
 | .andNot=>K (.int k (k.wrap (cd k.bits a&&&~~~cd k.bits b).toNat))
 | .eql=>K (.bool (a==b))
 | .neq=>K (.bool (a !=b))
 | .lss=>K (.bool (decide (a<b)))
 | .leq=>K (.bool (decide (a<=b)))
 | .gtr=>K (.bool (decide (a>b)))
 | .geq=>K (.bool (decide (a>=b)))
 | .shl=>0<=b/\K (.int k (k.wrap (a*2^(min b.toNat k.bits))))
 | .shr=>0<=b/\K (.int k (a.fdiv (2^(min b.toNat k.bits))))
def lH:List Nat->List Nat->Bool
 |_,[]=>false
 |[],_::_=>true
 |a::x,b::y=>decide (a<b)||(a==b&&lH x y)
def tQ(op:eM)(a b:List Nat)(K:PV->Prop):Prop:=
 match op with
 | .add=>a.length+b.length<9223372036854775808/\K (.str (a++b))
 | .eql=>K (.bool (a==b))
 | .neq=>K (.bool (!(a==b)))
 | .lss=>K (.bool (lH a b))
 | .leq=>K (.bool (lH a b||a==b))
 | .gtr=>K (.bool (!(lH a b||a==b)))
 | .geq=>K (.bool (!(lH a b)))
 |_=>False
def ng(P:da)(op:eM)(T:c9)(c:Bool)(H:ak)(x y:AV)(K:PV->Prop):Prop:=
 match x,y with
 | .p (.int k a),.p (.int d b)=>(k=d\/op=.shl\/op=.shr)/\tR op k a b K
 | .p (.str a),.p (.str b)=>tQ op a b K
 | .p (.bool a),.p (.bool b)=>vf P T=true/\match op with
  | .eql=>K (.bool (a==b))
  | .neq=>K (.bool (!(a==b)))
  |_=>False
 | .p (.st u fs),.p (.st u' gs)=>vR P T=true/\(match jz P 9 T (.st u fs) (.st u' gs),op with
  |some r,.eql=>K (.bool r)
  |some r,.neq=>K (.bool !r)
  |_,_=>False)
 |x,y=>
  (match eh P T c y with
  |some k=>(match dC H k x,op with
   |some r,.eql=>K (.bool r)
   |some r,.neq=>K (.bool !r)
   |_,_=>False)
  |none=>False)
def dA:Nat:=1073741824
def kT(H:ak):AV->Option (List AV)
 | .p .aM=>some []
 | .p (.dD _ es)=>some (es.map .p)
 | .p (.seq es)=>some (es.map .p)
 | .p (.str s)=>some (s.map fun c=>.p (.int .u8 (c:Nat)))
 | .sl b aF an off len=>match H[b]? with
  |some (.arr _ d a es)=>if aF=d/\an=a/\off+len<=es.length then some ((es.drop off).take len)else none
  |_=>none
 |_=>none
def eX(H:ak):AV->List (Nat×Obj)
 | .sl b _ _ _ _| .ptr b _| .cM b _ _ _ _| .map b=>match H[b]? with
  |some o=>[(b,o)]
  |none=>[]
 |_=>[]
def gP(P:da)(an:Nat):List AV->Prop
 |[]=>True
 |v::vs=>(aa v≠.bad/\bZ P (aa v)=an)/\gP P an vs
def dH(P:da)(T:c9):Option Nat:=
 match P.underlying T with
 |some (.slice e)=>match P.info? e with
  |some i=>if i.bytes<32768/\0<i.size/\0<i.bytes then some i.size else none
  |none=>none
 |_=>none
def fR(P:da)(T:c9):c9:=
 match P.underlying T with
 |some (.slice e)=>e
 |_=>0
def jI(P:da)(X:c9):Bool:=
 match P.underlying X with
 |some (.int _)=>false
 |some _=>true
 |none=>false
def gk(P:da)(T:c9):AK:=if fR P T=Gl.u8 then .bytes else .grow
def rM(P:da)(T X:c9)(H:ak)(s x:AV)(K:bg->Prop):Prop:=
 match dH P T,kT H x with
 |some sz,some xs=>jI P X=true/\(cO P (fR P T)).isSome=true/\gP P sz xs/\
  (match s with
  | .p .aM=>if xs.isEmpty then K {v:=s,aA:=eX H x}else xs.length<=dA/\K {v:=.sl H.length 0 sz 0 xs.length,aA:=eX H x,bm:=[.arr (gk P T) 0 sz xs]}
  | .p (.dD full es)=>gP P sz (es.map .p)/\if xs.isEmpty then K {v:=s,aA:=eX H x}else full=true/\es.length+xs.length<=dA/\
   K {v:=.sl H.length 0 sz 0 (es.length+xs.length),aA:=eX H x,bm:=[.arr (gk P T) 0 sz (es.map .p++xs)]}
  | .sl b aF an off len=>match H[b]? with
   |some (.arr k c a es)=>aF=c/\an=a/\an=sz/\off+len<=es.length/\
    if xs.isEmpty then K {v:=s,aA:=(b,.arr k c a es)::eX H x}
    else es.length+xs.length<=dA/\(match k with
     | .frozen=>False
     | .exact=>if off+len+xs.length<=es.length then
      K {v:=.sl b aF an off (len+xs.length),aA:=(b,.arr k c a es)::eX H x,aW:=[(b,.arr .exact aF an (es.take (off+len)++xs++es.drop (off+len+xs.length)))]}
      else K {v:=.sl H.length 0 sz 0 (len+xs.length),aA:=(b,.arr k c a es)::eX H x,bm:=[.arr (gk P T) 0 sz ((es.drop off).take len++xs)]}
     |_=>off=0/\(k=.bytes->fR P T=Gl.u8)/\K {v:=.sl b (aF+1) an 0 (len+xs.length),aA:=(b,.arr k c a es)::eX H x,aW:=[(b,.arr k (aF+1) an (es.take len++xs))]})
   |_=>False
  |_=>False)
 |_,_=>False
def jW(x:Option AV)(d:Nat)(K:Nat->Prop):Prop:=
 match x with
 |none=>K d
 |some (.p (.int _ i))=>0<=i/\K i.toNat
 |_=>False
def rV(P:da)(T:c9)(H:ak)(x:AV)(lo hi:Option AV)(K:bg->Prop):Prop:=
 match x with
 | .p (.str s)=>jG P T=true/\jW hi s.length fun h=>jW lo 0 fun l=>h<=s.length/\l<=h/\K {v:=.p (.str ((s.take h).drop l))}
 | .p .aM=>(dH P T).isSome=true/\jW hi 0 fun h=>jW lo 0 fun l=>h<=0/\l<=h/\K {v:=x}
 | .p (.dD full es)=>jW hi es.length fun h=>jW lo 0 fun l=>h<=es.length/\l<=h/\
  (match dH P T with
  |some sz=>gP P sz (es.map .p)/\K {v:=.p (.dD (full&&h==es.length) ((es.take h).drop l))}
  |none=>False)
 | .p (.seq es)=>jW hi es.length fun h=>jW lo 0 fun l=>h<=es.length/\l<=h/\
  (match dH P T with
  |some sz=>gP P sz (es.map .p)/\K {v:=.p (.seq ((es.take h).drop l))}
  |none=>False)
 | .sl b aF an off len=>match H[b]? with
  |some (.arr k c a es)=>aF=c/\an=a/\dH P T=some an/\¬(k.gr=true/\es=[])/\off+len<=es.length/\
   jW hi len fun h=>jW lo 0 fun l=>off+h<=es.length/\l<=h/\
    (if l=0 then K {v:=.sl b aF an off h,aA:=[(b,.arr k c a es)]}
    else if l=h then K {v:=.p (.dD false []),aA:=[(b,.arr k c a es)]}
    else K {v:=.sl b aF an (off+l) (h-l),aA:=[(b,.arr k c a es)]})
  |_=>False
 |_=>False
def qR(P:da)(T:c9)(x k:PV):Option Bool:=match x with
 | .st u fs=>match jz P 9 T (.st u fs) k,ln (.st u fs) k with
  |some a,some b=>bif a==b then some a else none
  |_,_=>none
 |x=>ln x k
def gw(P:da)(T:c9):List (PV×PV)->PV->Option (Option PV)
 |[],_=>some none
 |(k,v)::r,x=>match qR P T x k with
  |some true=>some (some v)
  |some false=>gw P T r x
  |none=>none
def pB(P:da)(T:c9)(a:List (PV×PV))(x:PV):Option (Option PV):=match x with
 | .st u fs=>match gw P T a (.st u fs)with
  |some none=>some none
  |_=>none
 |x=>gw P T a x
def gR:List (PV×PV)->PV->PV->List (PV×PV)
 |[],k,v=>[(k,v)]
 |(a,v')::r,k,v=>if ln k a=some true then(k,v)::r else(a,v')::gR r k v
def xK(P:da)(T:c9):Bool:=match P.underlying T with
 |some (.int _)|some .string|some .bool=>true
 |_=>false
def iw(P:da)(T:c9):PV->Bool
 | .int k _=>match P.underlying T with
  |some (.int a)=>decide (k=a)
  |_=>false
 | .str _=>jG P T
 | .st u fs=>match P.underlying T with
  |some (.struct cz)=>cz.toList.all (fun f=>f.name != "_" &&xK P f.type)&&(jz P 9 T (.st u fs) (.st u fs)).isSome
  |_=>false
 |_=>false
def nT(P:da)(T:c9):Option (c9×c9):=
 match P.underlying T with
 |some (.map k e)=>some (k,e)
 |_=>none
def lenOf(H:ak):AV->Option (Nat×List (Nat×Obj))
 | .p (.str s)=>some (s.length,[])
 | .p .aM| .p .gB=>some (0,[])
 | .p (.dD _ es)| .p (.seq es)=>some (es.length,[])
 | .p (.fA es)=>some (es.length,[])
 | .sl b aF an _off len=>match H[b]? with
  |some (.arr k c a es)=>if aF=c/\an=a then some (len,[(b,.arr k c a es)])else none
  |_=>none
 | .map b=>match H[b]? with
  |some (.map fz es)=>some (es.length,[(b,.map fz es)])
  |_=>none
 |_=>none
def mX(P:da)(T:c9):AV->Bool
 | .p (.str _)=>jG P T
 | .p .aM| .p (.dD _ _)| .p (.seq _)| .sl ..=>match P.underlying T with
  |some (.slice _)=>true
  |_=>false
 | .p .gB| .p (.fA _)| .map _=>match P.underlying T with
  |some (.map _ _)=>true
  |_=>false
 |_=>false
def bytesOf:List AV->Option (List Nat)
 |[]=>some []
 | .p (.int .u8 c)::r=>if 0<=c/\c<256 then match bytesOf r with
  |some l=>some (c.toNat::l)
  |none=>none
  else none
 |_=>none
def pj(k:ed)(c:Bool):List AV->Int->Option Int
 |[],a=>some a
 | .p (.int d b)::r,a=>if k=d then pj k c r (if c then(if b>a then b else a)else(if b<a then b else a))else none
 |_,_=>none
def jD(a:List AV):List (Nat×AV)->List AV
 |[]=>a
 |(i,v)::r=>jD (a.set i v) r
def ph(P:da)(l:List Nat):List (Nat×AV)->Prop
 |[]=>True
 |(i,v)::r=>(∃n,l[i]?=some n/\bZ P (aa v)=n/\aa v≠.bad)/\ph P l r
def gZ(H:ak):List AV->Option (List PV×List (Nat×Obj)×List (Nat×Obj))
 |[]=>some ([],[],[])
 | .p v::r=>match gZ H r with
  |some (a,aA,aW)=>some (v::a,aA,aW)
  |none=>none
 | .ptr b []::r=>match H[b]?,gZ H r with
  |some (.box fz (.p t)),some (a,aA,aW)=>some (.cW t::a,(b,.box fz (.p t))::aA,(b,.box true (.p t))::aW)
  |_,_=>none
 |_=>none
def sv(P:da)(T:c9)(H:ak)(a:AV)(K:bg->Prop):Prop:=
 match a with
 | .ptr b path=>match H[b]? with
  |some (.box fz t)=>match fY t path with
   |some s=>kindOf P T=aa s/\K {v:=s,aA:=[(b,.box fz t)]}
   |none=>False
  |_=>False
 | .cM b aF an i path=>match H[b]? with
  |some (.arr k d c es)=>aF=d/\an=c/\∃h:i<es.length,match fY (es[i]'h) path with
   |some s=>kindOf P T=aa s/\K {v:=s,aA:=[(b,.arr k d c es)]}
   |none=>False
  |_=>False
 | .p (.cW t)=>kindOf P T=aP t/\K {v:=.p t}
 |_=>False
def rU(P:da)(T:c9)(H:ak)(a x:AV)(K:bg->Prop):Prop:=
 kindOf P T=aa x/\aa x≠.bad/\match a with
 | .ptr b path=>match H[b]? with
  |some (.box false t)=>match fY t path,iu t path x with
   |some s,some d=>aa s=aa x/\K {v:=.p (.aE []),aA:=[(b,.box false t)],aW:=[(b,.box false d)]}
   |_,_=>False
  |_=>False
 | .cM b aF an i path=>match H[b]? with
  |some (.arr k e c es)=>aF=e/\an=c/\k≠.frozen/\∃h:i<es.length,match fY (es[i]'h) path,iu (es[i]'h) path x with
   |some s,some d=>aa s=aa x/\K {v:=.p (.aE []),aA:=[(b,.arr k e c es)],aW:=[(b,.arr k e c (es.set i d))]}
   |_,_=>False
  |_=>False
 |_=>False
def fp(P:da)(T:c9):Option (c9×Nat):=
 match kindOf P T,P.underlying T with
 | .agg u,some (.struct fs)=>some (u,fs.size)
 |_,_=>none
def iO(P:da)(T:c9):Option (c9×Nat):=
 match kindOf P T,P.underlying T with
 | .agg u,some (.array n _)=>some (u,n)
 |_,_=>none
def rK(P:da)(T:c9)(a:AV)(f:Nat)(K:bg->Prop):Prop:=
 match fp P T with
 |some (u,n)=>f<n/\(match a with
  | .ptr b path=>K {v:=.ptr b (path++[(u,f)])}
  | .cM b aF an i path=>K {v:=.cM b aF an i (path++[(u,f)])}
  | .p (.cW t)=>aP t=.agg u/\(match(cz t)[f]? with
   |some g=>K {v:=.p (.cW g)}
   |none=>False)
  |_=>False)
 |_=>False
def rJ(P:da)(T:c9)(H:ak)(x i:AV)(K:bg->Prop):Prop:=
 match i with
 | .p (.int _ i)=>0<=i/\(match x with
  | .p (.dD _ es)=>∃h:i.toNat<es.length,dH P T=some (bZ P (aP (es[i.toNat]'h)))/\K {v:=.p (.cW (es[i.toNat]'h))}
  | .p (.seq es)=>∃h:i.toNat<es.length,dH P T=some (bZ P (aP (es[i.toNat]'h)))/\K {v:=.p (.cW (es[i.toNat]'h))}
  | .sl b aF an off len=>dH P T=some an/\i.toNat<len/\(match H[b]? with
   |some (.arr k c a es)=>aF=c/\an=a/\¬(k.gr=true/\es=[])/\K {v:=.cM b aF an (off+i.toNat) [],aA:=[(b,.arr k c a es)]}
   |_=>False)
  | .ptr b path=>(match iO P T with
   |some (u,n)=>i.toNat<n/\K {v:=.ptr b (path++[(u,i.toNat)])}
   |_=>False)
  | .cM b aF an j path=>(match iO P T with
   |some (u,n)=>i.toNat<n/\K {v:=.cM b aF an j (path++[(u,i.toNat)])}
   |_=>False)
  | .p (.cW t)=>(match iO P T with
   |some (u,n)=>aP t=.agg u/\i.toNat<n/\(match(cz t)[i.toNat]? with
    |some g=>K {v:=.p (.cW g)}
    |none=>False)
   |_=>False)
  |_=>False)
 |_=>False
def gO(P:da)(aq:dp->Bool)(o:Oper)(ρ:dd->AV)(H:ak)(K:bg->Prop):Prop:=
 match o.op with
 | .move x| .assign x=>K {v:=ρ x}
 | .pick c a b=>match ρ c with
  | .p (.bool t)=>K {v:=if t then ρ a else ρ b}
  |_=>False
 | .alloc T=>match cO P T with
  |some z=>kindOf P T=aP z/\aP z≠.bad/\lQ T (aP z)=true/\K {v:=.ptr H.length [],bm:=[.box false (.p z)]}
  |none=>False
 | .box T x=>kindOf P T=aa (ρ x)/\aa (ρ x)≠.bad/\lQ T (aa (ρ x))=true/\K {v:=.ptr H.length [],bm:=[.box false (ρ x)]}
 | .build T parts=>match kindOf P T,cO P T with
  | .agg u,some z=>(match dG P u with
   |some l=>aP z=.agg u/\ph P l (parts.toList.map fun(i,x)=>(i,ρ x))/\K {v:=jm u (jD ((cz z).map .p) (parts.toList.map fun(i,x)=>(i,ρ x)))}
   |none=>False)
  |_,_=>False
 | .buildSlice T n parts=>match dH P T,cO P (fR P T)with
  |some sz,some z=>bZ P (aP z)=sz/\n*sz<=1000000/\ph P (hK n sz) (parts.toList.map fun(i,x)=>(i,ρ x))/\
   K {v:=.sl H.length 0 sz 0 n,bm:=[.arr .exact 0 sz (jD (hK n (.p z)) (parts.toList.map fun(i,x)=>(i,ρ x)))]}
  |_,_=>False
 | .load T a=>sv P T H (ρ a) K
 | .store T a x=>rU P T H (ρ a) (ρ x) K
 | .binOp op T x y _=>ng P op T (uf y) H (ρ x) (ρ y) (fun v=>K {v:=.p v,aA:=eX H (ρ x)})
 | .unOp op _ x=>match op,ρ x with
  | .not,.p (.bool b)=>K {v:=.p (.bool (!b))}
  | .neg,.p (.int k n)=>K {v:=.p (.int k (k.wrap (0-n)))}
  | .xor,.p (.int k n)=>K {v:=.p (.int k (k.wrap (cd k.bits (if k.signed then -1 else k.max)^^^cd k.bits n).toNat))}
  |_,_=>False
 | .convert S D x=>match P.underlying S,P.underlying D,ρ x with
  |some _,some (.int k),.p (.int _ n)=>K {v:=.p (.int k (k.wrap n))}
  |some _,some .string,.p (.str s)=>K {v:=.p (.str s)}
  |_,_,_=>False
 | .extract t i=>match ρ t with
  | .p (.aE vs)=>(match vs[i]? with
   |some v=>K {v:=.p v}
   |none=>False)
  | .aE vs=>(match vs[i]? with
   |some v=>K {v}
   |none=>False)
  |_=>False
 | .fieldAddr T a f=>rK P T (ρ a) f K
 | .indexAddr T x i=>rJ P T H (ρ x) (ρ i) K
 | .field T x f=>match kindOf P T,P.underlying T,ρ x with
  | .agg u,some (.struct _),.p t=>aP t=.agg u/\(match(cz t)[f]?,(l6 P u)[f]? with
   |some g,some F=>kindOf P F=aP g/\K {v:=.p g}
   |_,_=>False)
  |_,_,_=>False
 | .index T x i=>match ρ x,ρ i with
  | .p (.str s),.p (.int _ i)=>jG P T=true/\0<=i/\∃h:i.toNat<s.length,K {v:=.p (.int .u8 (s[i.toNat]'h))}
  | .p (.st u es),.p (.int _ i)=>(match iO P T,(l6 P u)[i.toNat]?,es[i.toNat]? with
   |some (u',n),some F,some g=>u'=u/\0<=i/\i.toNat<n/\kindOf P F=aP g/\K {v:=.p g}
   |_,_,_=>False)
  |_,_=>False
 | .makeFunc (.func f) w q=>if aq f then(match gZ H (w.toList.map ρ),gZ H (q.toList.map ρ)with
   |some (a,[],[]),some (b,aA,aW)=>K {v:=.p (.func f a b),aA,aW}
   |_,_=>False)
  else match fy (w.toList.map ρ),fy (q.toList.map ρ)with
   |some a,some b=>K {v:=.p (.func f a b)}
   |_,_=>K {v:=.func f (w.toList.map ρ) (q.toList.map ρ)}
 | .makeSlice T l c=>match dH P T,cO P (fR P T),ρ l,ρ c with
  |some sz,some z,.p (.int .i64 l),.p (.int .i64 c)=>bZ P (aP z)=sz/\0<=l/\l=c/\l<=dA/\K {v:=.sl H.length 0 sz 0 l.toNat,bm:=[.arr .exact 0 sz (hK l.toNat (.p z))]}
  |_,_,_,_=>False
 | .slice T x lo hi none=>rV P T H (ρ x) (lo.map ρ) (hi.map ρ) K
 | .makeMap _ none=>K {v:=.map H.length,bm:=[.map false []]}
 | .lookup T x i ok=>match nT P T,ρ i with
  |some (d,E),.p key=>(match cO P E with
   |some z=>iw P d key=true/\(match ρ x with
    | .p .gB=>K {v:=.p (if ok then .aE [z,.bool false]else z)}
    | .p (.fA es)=>(match gw P d es key with
     |some (some v)=>K {v:=.p (if ok then .aE [v,.bool true]else v)}
     |some none=>K {v:=.p (if ok then .aE [z,.bool false]else z)}
     |none=>False)
    | .map b=>(match H[b]? with
     |some (.map fz es)=>(match gw P d es key with
      |some (some v)=>K {v:=.p (if ok then .aE [v,.bool true]else v),aA:=[(b,.map fz es)]}
      |some none=>K {v:=.p (if ok then .aE [z,.bool false]else z),aA:=[(b,.map fz es)]}
      |none=>False)
     |_=>False)
    |_=>False)
   |none=>False)
  |_,_=>False
 | .mapUpdate T m k x| .insert T m k x=>match nT P T,ρ m,ρ k,ρ x with
  |some (d,_),.map b,.p key,.p v=>iw P d key=true/\(match H[b]? with
   |some (.map false es)=>(match pB P d es key with
    |some _=>K {v:=.p (.aE []),aA:=[(b,.map false es)],aW:=[(b,.map false (gR es key v))]}
    |none=>False)
   |_=>False)
  |_,_,_,_=>False
 | .range T x=>match ρ x with
  | .p (.str s)=>jG P T=true/\K {v:=.ptr H.length [],bm:=[.fC s 0]}
  |_=>False
 | .next it true=>match ρ it with
  | .ptr b []=>(match H[b]? with
   |some (.fC s pos)=>if pos<s.length then
    K {v:=.p (.aE [.bool true,.int .i64 pos,.int .i32 (Utf8.decode (iL s) pos).1]),aA:=[(b,.fC s pos)],aW:=[(b,.fC s (pos+(Utf8.decode (iL s) pos).2))]}
    else K {v:=.p (.aE [.bool false]),aA:=[(b,.fC s pos)]}
   |_=>False)
  |_=>False
 | .nilCheck x=>match ρ x with
  | .ptr _ _| .cM _ _ _ _ _| .p (.cW _)=>K {v:=ρ x}
  |_=>False
 | .call c=>match c.callee with
  | .builtin b=>let args:=c.args.toList.map ρ
   let T:=c.argTypes.getD 0 0
   (match b,args with
   | .len,[x]=>(match lenOf H x with
    |some (n,aA)=>mX P T x=true/\0<c.argTypes.size/\K {v:=.p (.int .i64 n),aA}
    |none=>False)
   | .append,[s,x]=>c.argTypes.size=2/\rM P T (c.argTypes.getD 1 0) H s x K
   | .min,.p (.int k a)::r=>(match pj k false r a with
    |some n=>K {v:=.p (.int k n)}
    |none=>False)
   | .max,.p (.int k a)::r=>(match pj k true r a with
    |some n=>K {v:=.p (.int k n)}
    |none=>False)
   | .unsafeSliceData,[.sl b aF an off len]=>(match H[b]? with
    |some (.arr k j e es)=>aF=j/\an=e/\0<len/\off+len<=es.length/\K {v:=.cM b aF an off [],aA:=[(b,.arr k j e es)]}
    |_=>False)
   | .unsafeString,[.cM b aF an i [],.p (.int .i64 n)]=>(match H[b]? with
    |some (.arr .bytes j e es)=>aF=j/\an=e/\an=1/\i=0/\0<n/\n.toNat<=es.length/\n<=9223372036854775807/\c.argTypes.size=2/\P.underlying T=some (.pointer Gl.u8)/\P.cellsOf Gl.u8=1/\(match bytesOf (es.take n.toNat)with
     |some l=>K {v:=.p (.str l),aA:=[(b,.arr .bytes j e es)],aW:=[(b,.dead)]}
     |none=>False)
    |_=>False)
   |_,_=>False)
  |_=>False
 |_=>False
def newAt(a:Nat):List Obj->List (Nat×Obj)
 |[]=>[]
 |o::r=>(a,o)::newAt (a+1) r
structure cF(P:da)(ai ad:Nat->Prop)(w:db)(β:Bd)(H:ak)(aJ:Nat->Prop)(w':db)(aR:Bd)(H':ak):Prop where
 cq:∀k,ad k->aJ k
 fresh:∀k,aJ k->ad k\/¬ai k
 ext:Ext ai ad w w'
 step:cZ β H aR H'
 rel:cK P w' aJ aR H' ai
 iS:∀x,aQ H x->aQ H' x
 loop:∀b,jE H b->jE H' b
def Enters(P:da)(f:dp):Prop:=∀(args:Array cy)(w:db),(callFunc f args).run P w=.ok (.enter f args) w
def c8(P:da)(f:dp)(H:ak)(args:List AV)(H':ak)(v:AV):Prop:=
 Enters P f/\∀(w:db)(ad ai:Nat->Prop)(β:Bd)(a:List cy),cK P w ad β H ai->bX P w ad β H args a->bk (aQ H) args->
  eq P f a.toArray w fun e w'=>∃cv aR aJ,e=.returned cv/\cF P ai ad w β H aJ w' aR H'/\aD P w' aJ aR H' v cv/\aI (aQ H') v
def gJ(P:da)(b:Nat)(H:ak)(args:List AV)(H':ak)(v:AV):Prop:=
 jE H b/\∀(w:db)(ad ai:Nat->Prop)(β:Bd)(c:List cy),cK P w ad β H ai->bX P w ad β H args c->bk (aQ H) args->
  ∃f tmps assign body,(gj (β.az b) c.toArray).run P w=.ok (.round (β.az b) f tmps assign body) w/\
   ∀(a:dx)(d:List dx),∃cv w' aR aJ,ea P (lone (fm (β.az b) f tmps assign body .normal) (a::d) w) (lone (a.finish cv) d w')/\
    cF P ai ad w β H aJ w' aR H'/\aD P w' aJ aR H' v cv/\aI (aQ H') v
def vG(P:da)(f:dp)(args:List AV)(base:Nat)(e:bg):Prop:=
 Enters P f/\∀(H:ak)(w:db)(ad ai:Nat->Prop)(β:Bd)(a:List cy),cK P w ad β H ai->bX P w ad β H args a->bk (aQ H) args->
  (∀p∈e.aA,H[p.1]?=some p.2)->(∀i,i<e.bm.length->H[base+i]?=some .hole)->
  eq P f a.toArray w fun x w'=>∃cv aR aJ,x=.returned cv/\cF P ai ad w β H aJ w' aR (bu H (e.aW++newAt base e.bm))/\
   aD P w' aJ aR (bu H (e.aW++newAt base e.bm)) e.v cv/\aI (aQ (bu H (e.aW++newAt base e.bm))) e.v
def sy(P:da)(b:Nat)(args:List AV)(a:Nat)(e:bg):Prop:=
 ∀(H:ak)(w:db)(ad ai:Nat->Prop)(β:Bd)(d:List cy),cK P w ad β H ai->bX P w ad β H args d->bk (aQ H) args->
  (∀p∈e.aA,H[p.1]?=some p.2)->(∀i,i<e.bm.length->H[a+i]?=some .hole)->
  jE H b/\∃f tmps assign body,(gj (β.az b) d.toArray).run P w=.ok (.round (β.az b) f tmps assign body) w/\
   ∀(c:dx)(g:List dx),∃cv w' aR aJ,ea P (lone (fm (β.az b) f tmps assign body .normal) (c::g) w) (lone (c.finish cv) g w')/\
    cF P ai ad w β H aJ w' aR (bu H (e.aW++newAt a e.bm))/\
    aD P w' aJ aR (bu H (e.aW++newAt a e.bm)) e.v cv/\aI (aQ (bu H (e.aW++newAt a e.bm))) e.v
def Ij(P:da)(f:dp)(args:List AV)(aA:List (Nat×Obj))(v:PV):Prop:=
 ∀(H:ak)(w:db)(ad ai:Nat->Prop)(β:Bd)(a:List cy),cK P w ad β H ai->bX P w ad β H args a->bk (aQ H) args->(∀p∈aA,H[p.1]?=some p.2)->
  ∃cv,(callFunc f a.toArray).run P w=.ok (.value cv) w/\aH P w ad v cv
def sC(H:ak)(e:bg):Prop:=(∀p∈e.aA,H[p.1]?=some p.2)/\(∀p∈e.aW,p.1<H.length/\p.2≠.hole)
def vF(P:da)(f:dp)(args:List PV)(v:PV):Prop:=
 Enters P f/\∀(w:db)(ad:Nat->Prop)(a:List cy),(∀k,ad k->k<w.heap.size)->qG P w ad->bY P w ad args a->
  eq P f a.toArray w fun e w'=>∃cv,∃aJ:Nat->Prop,e=.returned cv/\(∀k,ad k->aJ k)/\(∀k,aJ k->ad k\/w.heap.size<=k)/\(∀k,aJ k->k<w'.heap.size)/\
   w.heap.size<=w'.heap.size/\(∀k,k<w.heap.size->w'.heap[k]?=w.heap[k]?)/\(w'.os=w.os/\w'.output=w.output)/\aH P w' aJ v cv
def WD(P:da)(f:dp)(args:List PV)(v:PV):Prop:=
 ∀(w:db)(ad:Nat->Prop)(a:List cy),bY P w ad args a->∃cv,(callFunc f a.toArray).run P w=.ok (.value cv) w/\aH P w ad v cv
def al(P:da)(f:dp)(args:List PV)(v:PV):Prop:=vF P f args v\/WD P f args v
def mN(H:ak):AV->Option (PV×ak)
 | .p v=>some (v,H)
 | .sl b aF an off len=>match H[b]? with
  |some (.arr k d a es)=>
   if aF=d/\an=a/\off+len<=es.length then
    if k.gr=true/\es=[]then some (.aM,H)else
    match fy es with
    |some c=>some (.dD (k== .exact&&off+len==es.length) ((c.drop off).take len),H.set b (.arr .frozen aF an es))
    |none=>none
   else none
  |_=>none
 | .ptr b path=>match H[b]? with
  |some (.box _ (.p t))=>match nC t path with
   |some s=>some (.cW s,H.set b (.box true (.p t)))
   |none=>none
  |_=>none
 | .map b=>match H[b]? with
  |some (.map _ es)=>some (.fA es,H.set b (.map true es))
  |_=>none
 |_=>none
def p0(H:ak):List AV->Option (List PV×ak)
 |[]=>some ([],H)
 |x::r=>match mN H x with
  |some (v,H1)=>match p0 H1 r with
   |some (vs,a)=>some (v::vs,a)
   |none=>none
  |none=>none
def mu(P:da)(draw:Bool)(f:dp)(args:List AV)(H:ak)(K:AV->ak->Prop):Prop:=
 (∃vs v,args=vs.map .p/\al P f vs v/\K (.p v) H)\/
 (draw=false/\((∃vs H1 v,p0 H args=some (vs,H1)/\al P f vs v/\K (.p v) H1)\/(∃H' v,c8 P f H args H' v/\K v H')\/
  (∃e,vG P f args H.length e/\sC H e/\K e.v (bu H e.aW++e.bm))\/(∃aA v,Ij P f args aA v/\(∀p∈aA,H[p.1]?=some p.2)/\K (.p v) H)))
def mf(P:da)(aq:dp->Bool)(draw:Bool)(o:Oper)(K:St->Prop)(s:St):Prop:=
 match o.op with
 | .call {callee:=.value f,args,.. }=>(match ev s.env f with
  | .p (.func g c a)=>mu P draw g (c.map .p++args.toList.map (ev s.env)++a.map .p) s.heap (fun v H'=>K ⟨put o.dst v s.env,H'⟩)
  | .func g c a=>mu P draw g (c++args.toList.map (ev s.env)++a) s.heap (fun v H'=>K ⟨put o.dst v s.env,H'⟩)
  | .map b=>∃H' v,gJ P b s.heap (args.toList.map (ev s.env)) H' v/\K ⟨put o.dst v s.env,H'⟩
  |_=>False)
 |_=>gO P aq o (ev s.env) s.heap fun e=>K (e.app o.dst s)
def guardOf(a:Array Oper)(j:Nat)(e:Env):AV:=
 match(a[j]?).bind (·.dst)with
 |some d=>aV e d
 |none=>.p (.aE [])
def je(P:da)(aq:dp->Bool)(draw:Bool)(a:Array Oper):List Oper->(St->Prop)->St->Prop
 |[],K,s=>K s
 |o::r,K,s=>match o.guard with
  |none=>mf P aq draw o (je P aq draw a r K) s
  |some (j,want)=>match guardOf a j s.env with
   | .p (.bool t)=>if t=want then mf P aq draw o (je P aq draw a r K) s else je P aq draw a r K ⟨put o.dst (.p (.aE [])) s.env,s.heap⟩
   | .p (.aE [])=>je P aq draw a r K ⟨put o.dst (.p (.aE [])) s.env,s.heap⟩
   |_=>False
def pL:Obj->Option Obj
 | .box _ (.p t)=>some (.box true (.p t))
 | .arr k aF an es=>if k.gr=true/\es=[]then none else match fy es with
  |some _=>some (.arr .frozen aF an es)
  |none=>none
 | .map _ es=>some (.map true es)
 |_=>none
def pZ(H:ak):AV->Option (PV×List Nat)
 | .p v=>some (v,[])
 | .sl b aF an off len=>match H[b]? with
  |some (.arr k d a es)=>
   if aF=d/\an=a/\off+len<=es.length then
    if k.gr=true/\es=[]then none else
    match fy es with
    |some c=>some (.dD (k== .exact&&off+len==es.length) ((c.drop off).take len),[b])
    |none=>none
   else none
  |_=>none
 | .ptr b path=>match H[b]? with
  |some (.box _ (.p t))=>match nC t path with
   |some s=>some (.cW s,[b])
   |none=>none
  |_=>none
 | .map b=>match H[b]? with
  |some (.map _ es)=>some (.fA es,[b])
  |_=>none
 |_=>none
def sx(H:ak):List AV->Option (List PV×List Nat)
 |[]=>some ([],[])
 |x::r=>match pZ H x,sx H r with
  |some (v,bs),some (vs,cs)=>some (v::vs,bs++cs)
  |_,_=>none
def nP(H:ak):List Nat->Option (List (Nat×Obj)×List (Nat×Obj))
 |[]=>some ([],[])
 |b::r=>match H[b]?,nP H r with
  |some o,some (aA,aW)=>(match pL o with
   |some o'=>some ((b,o)::aA,(b,o')::aW)
   |none=>none)
  |_,_=>none
def mw(P:da)(f:dp)(args:List AV)(H:ak)(K:bg->Prop):Prop:=
 (∃vs v,args=vs.map .p/\al P f vs v/\K {v:=.p v})\/
 (∃vs bs aA aW v,sx H args=some (vs,bs)/\nP H bs=some (aA,aW)/\al P f vs v/\K {v:=.p v,aA,aW})\/
 (∃e,vG P f args H.length e/\sC H e/\K e)\/
 (∃aA v,Ij P f args aA v/\(∀p∈aA,H[p.1]?=some p.2)/\K {v:=.p v,aA})
def lS(P:da)(aq:dp->Bool)(o:Oper)(s:St)(K:bg->Prop):Prop:=
 match o.op with
 | .call {callee:=.value f,args,.. }=>(match ev s.env f with
  | .p (.func g c a)=>mw P g (c.map .p++args.toList.map (ev s.env)++a.map .p) s.heap K
  | .func g c a=>mw P g (c++args.toList.map (ev s.env)++a) s.heap K
  | .map b=>∃e,sy P b (args.toList.map (ev s.env)) s.heap.length e/\sC s.heap e/\K e
  |_=>False)
 |_=>gO P aq o (ev s.env) s.heap K
structure Touch where
 i:Nat
 rd:List Nat
 wr:List Nat
def rX(a:Nat):List Obj->List Nat
 |[]=>[]
 |_::r=>a::rX (a+1) r
def jb(i a:Nat)(e:bg):Touch:=⟨i,e.aA.map (·.1),e.aW.map (·.1)++rX a e.bm⟩
def iH(i b:Nat)(e:bg)(a:List Touch):List Touch:=
 match e.aA,e.aW,e.bm with
 |[],[],[]=>a
 |_,_,_=>jb i b e::a
def reach(a:Array Oper):Nat->Nat->Nat->Bool
 |0,_,_=>false
 |f+1,i,j=>match a[j]? with
  |some o=>o.after.toList.any (fun e=>hg .any e&&e.on==i)||o.after.toList.any (fun e=>hg .any e&&decide (i<e.on)&&reach a f i e.on)
  |none=>false
def lN(u t:Touch):Bool:=u.wr.any (fun b=>t.rd.contains b||t.wr.contains b)||u.rd.any (fun b=>t.wr.contains b)
def jY(a:Array Oper):List Touch->Bool
 |[]=>true
 |t::r=>r.all (fun u=>!lN u t||reach a a.size u.i t.i)&&jY a r
def iG(P:da)(aq:dp->Bool)(a:Array Oper):List Oper->Nat->List Touch->(St->Prop)->St->Prop
 |[],_,acc,K,s=>jY a acc=true/\K s
 |o::r,i,acc,K,s=>match o.guard with
  |none=>lS P aq o s fun e=>iG P aq a r (i+1) (iH i s.heap.length e acc) K (e.app o.dst s)
  |some (j,want)=>match guardOf a j s.env with
   | .p (.bool t)=>if t=want then lS P aq o s fun e=>iG P aq a r (i+1) (iH i s.heap.length e acc) K (e.app o.dst s)
    else iG P aq a r (i+1) acc K ⟨put o.dst (.p (.aE [])) s.env,s.heap⟩
   | .p (.aE [])=>iG P aq a r (i+1) acc K ⟨put o.dst (.p (.aE [])) s.env,s.heap⟩
   |_=>False
inductive bL where|normal|exit (id:Nat)|ret
mutual
def iv(T:ak):PV->AV->Prop
 | .aM,x=>x=.p .aM\/match x with
  | .sl b aF _ off len=>aF=0/\off=0/\len=0/\∃k z,T[b]?=some (.arr k 0 z [])/\k.gr=true
  |_=>False
 | .st u fs,x=>x=.p (.st u fs)\/match x with
  | .st u' gs=>u=u'/\nE T fs gs
  |_=>False
 |v,x=>x=.p v
def nE(T:ak):List PV->List AV->Prop
 |[],gs=>gs=[]
 |v::vs,gs=>match gs with
  |g::gs=>iv T v g/\nE T vs gs
  |[]=>False
end
mutual
def Gh(T:ak):AV->AV->Prop
 | .p v,x=>iv T v x
 | .st u fs,x=>match x with
  | .st u' gs=>u=u'/\qd T fs gs
  |_=>False
 |a,x=>x=a
def qd(T:ak):List AV->List AV->Prop
 |[],gs=>gs=[]
 |v::vs,gs=>match gs with
  |g::gs=>Gh T v g/\qd T vs gs
  |[]=>False
end
structure tO(s t:St):Prop where
 env:∀x,aV t.env x=aV s.env x\/aV t.env x=.p .undef\/Gh t.heap (aV s.env x) (aV t.env x)
 heap:∀(b:Nat)(o:Obj),t.heap[b]?=some o->o=.hole\/s.heap[b]?=some o\/((s.heap[b]?=none\/s.heap[b]?=some .hole)/\∃k z,o=.arr k 0 z []/\k.gr=true)\/(∃v v',s.heap[b]?=some (.box false v)/\o=.box false v'/\Gh t.heap v v')
 iR:∀x,aI (aQ t.heap) (aV t.env x)
 hrefs:∀(b:Nat)(o:Obj),t.heap[b]?=some o->o.refs (aQ t.heap)
def dh(N:Nat)(s t:St):Prop:=t=s\/(tO s t/\∀b,b<N->t.heap[b]?=s.heap[b]?)
def lO(Q:bL->St->Prop)(j:Option Code)(s:St):Prop:=
 match j with
 |none=>Q .normal s
 |some (.exit id)=>Q (.exit id) s
 |some .ret=>Q .ret s
 |_=>False
def lJ(P:da)(d:AV)(b:Nat)(H:ak)(K:ak->Prop):Prop:=
 match d with
 | .p (.func g c a)=>∃H' v,c8 P g H (c.map .p++[.map b]++a.map .p) H' v/\K H'
 | .func g c a=>∃H' v,c8 P g H (c++[.map b]++a) H' v/\K H'
 |_=>False
def jw(b:Nat)(env:Env)(Q:bL->St->Prop)(H:ak):Prop:=
 match H[b]? with
 |some (.loop L)=>L.st≠.busy/\lO Q L.pending ⟨env,H.set b (.loop {L with st:=.exhausted})⟩
 |_=>False
abbrev Cx:=Nat×Nat
def cQ(P:da)(aq:dp->Bool)(q:Cx):Code->(bL->St->Prop)->St->Prop
 | .skip,Q,s| .label _,Q,s=>Q .normal s
 | .region _ ops draw,Q,s=>if draw then iG P aq ops ops.toList 0 [] (Q .normal) s else je P aq false ops ops.toList (Q .normal) s
 | .seq a b,Q,s=>cQ P aq q a (fun e s'=>match e with
  | .normal=>cQ P aq q b Q s'
  |e=>Q e s') s
 | .cond c a b,Q,s=>match ev s.env c with
  | .p (.bool t)=>if t then cQ P aq q a Q s else cQ P aq q b Q s
  |_=>False
 | .block id b,Q,s=>cQ P aq q b (fun e s'=>match e with
  | .exit i=>if i=id then Q .normal s' else Q (.exit i) s'
  |e=>Q e s') s
 | .scope b,Q,s=>cQ P aq q b Q s
 | .loop b,Q,s=>∃I:Nat->St->Prop,(∃n t,dh q.2 s t/\I n t)/\∀n t,I n t->cQ P aq q b (fun e s'=>match e with
  | .normal=>∃m g,m<n/\dh q.2 s' g/\I m g
  |e=>Q e s') t
 | .rangeFunc f h a b,Q,s=>q.2<=s.heap.length/\∃d:Env,(∀x,aV d x=aV s.env x)/\lJ P (ev s.env f) s.heap.length (s.heap++[.loop ⟨.ready,none,q.1,h.toList,a,b,d⟩]) (jw s.heap.length s.env Q)
 | .exit id,Q,s=>Q (.exit id) s
 | .ret,Q,s=>Q .ret s
 |_,_,_=>False
def bJ(fr:dx)(t:Array cy)(ds:List dq)(todo:List Item):dx:={fr with tmps:=t,defers:=ds,todo,mode:=.run}
section
variable{P:da}{fr:dx}{t:Array cy}{ds:List dq}{k:List Item}{cs:List dx}{w:db}
def gS(t:Array cy):dd->cy
 | .tmp x=>t.getD x undef
 | .const v=>v
 | .global g=>.pointer (some ⟨g,0,none⟩)
 | .func f=>.func (.func f) #[] #[]
theorem eval_eq(fr:dx):fr.eval=gS fr.tmps:=by funext x;cases x<;>rfl
theorem aQt:step P (lone (bJ fr t ds (.code .skip::k)) cs w)=.next (lone (bJ fr t ds k) cs w):=
 dl (by simp[stepG,hF,bJ])
theorem au1{l:Nat}:step P (lone (bJ fr t ds (.code (.label l)::k)) cs w)=.next (lone (bJ fr t ds k) cs w):=
 dl (by simp[stepG,hF,bJ])
theorem aqq{id:Nat}:step P (lone (bJ fr t ds (.inBlock id::k)) cs w)=.next (lone (bJ fr t ds k) cs w):=
 dl (by simp[stepG,hF,bJ])
theorem aqp{b:Code}:step P (lone (bJ fr t ds (.inScope b::k)) cs w)=.next (lone (bJ fr t ds k) cs w):=
 dl (by simp[stepG,hF,bJ])
theorem HX{a b:Code}:step P (lone (bJ fr t ds (.code (.seq a b)::k)) cs w)=.next (lone (bJ fr t ds (.code a::.code b::k)) cs w):=
 dl (by simp[stepG,hF,bJ])
theorem aQo{c:dd}{x y:Code}{b:Bool}(h:gS t c= .bool b):
 step P (lone (bJ fr t ds (.code (.cond c x y)::k)) cs w)=.next (lone (bJ fr t ds (.code (if b then x else y)::k)) cs w):=
 dl (by simp[stepG,hF,bJ,eval_eq,h])
theorem C3{id:Nat}{c:Code}:step P (lone (bJ fr t ds (.code (.block id c)::k)) cs w)=.next (lone (bJ fr t ds (.code c::.inBlock id::k)) cs w):=
 dl (by simp[stepG,hF,bJ])
theorem GY{c:Code}:step P (lone (bJ fr t ds (.code (.scope c)::k)) cs w)=.next (lone (bJ fr t ds (.code c::.inScope c::k)) cs w):=
 dl (by simp[stepG,hF,bJ])
theorem aQr{c:Code}:step P (lone (bJ fr t ds (.code (.loop c)::k)) cs w)=.next (lone (bJ fr t ds (.code c::.inLoop c::k)) cs w):=
 dl (by simp[stepG,hF,bJ])
theorem arT{c:Code}:step P (lone (bJ fr t ds (.inLoop c::k)) cs w)=.next (lone (bJ fr t ds (.code c::.inLoop c::k)) cs w):=
 dl (by simp[stepG,hF,bJ])
theorem aQq{id:Nat}{a:List Item}(h:exitTo id k=some a):step P (lone (bJ fr t ds (.code (.exit id)::k)) cs w)=.next (lone (bJ fr t ds a) cs w):=
 dl (by simp[stepG,hF,bJ,h])
theorem arS{id:Nat}{a:Array Oper}:
 step P (lone (bJ fr t ds (.code (.region id a false)::k)) cs w)=.next (lone (bJ fr t ds (.inRegion a (j2 a.size)::k)) cs w):=
 dl (by simp[stepG,hF,bJ])
theorem aQp{id:Nat}{a:Array Oper}:
 step P (lone (bJ fr t ds (.code (.region id a true)::k)) cs w)=
  .next (lone (bJ fr t ds (.inRegion a (hd (P.follows .mixedOrders) a (w.tape w.drawn (.order fr.fn id)))::k)) cs {w with drawn:=w.drawn+1}):=
 dl (by simp[stepG,hF,bJ,choose,ho,Question.forced,Question.cut])
theorem Oc{a:Array Oper}:step P (lone (bJ fr t ds (.inRegion a []::k)) cs w)=.next (lone (bJ fr t ds k) cs w):=
 dl (by simp[stepG,hF,bJ])
def q7(dst:Option Tmp)(v:cy)(t:Array cy):Array cy:=
 match dst with
 |some d=>t.setIfInBounds d v
 |none=>t
theorem rG{a:Array Oper}{i:Nat}{r:List Nat}{o:Oper}(c:a[i]?=some o)(v:cy):
 (bJ fr t ds (.inRegion a (i::r)::k)).finish v=bJ fr (q7 o.dst v t) ds (.inRegion a r::k):=by
 cases b:o.dst<;>simp[Frame.finish,bJ,c,b,q7]
theorem PA{a:Array Oper}{i:Nat}{r:List Nat}{o:Oper}(b:a[i]?=some o)(c:hb o (yielded a t)=false):
 step P (lone (bJ fr t ds (.inRegion a (i::r)::k)) cs w)=.next (lone (bJ fr (q7 o.dst undef t) ds (.inRegion a r::k)) cs w):=by
 rw[<-rG b];exact dl (by simp only[bJ];simp[stepG,hF,b,c])
theorem aqF{o:Oper}(a:∀c,o.op≠ .defer c)(r:Option Nat)(A:Nat->Call->GStep)(B:GStep):
 (match r,o.op with
  |some l,.defer c=>A l c
  |_,_=>B)=B:=by
 cases r with
 |none=>rfl
 |some l=>cases h:o.op<;>first|rfl|exact absurd h (a _)
theorem aQs{a:Array Oper}{i:Nat}{r:List Nat}{o:Oper}{fr:dx}(e:fr.todo= .inRegion a (i::r)::k)(d:a[i]?=some o)(b:∀c,o.op≠ .defer c):
 hH P true fr cs none w=hG P true fr cs none (dg (gS fr.tmps) o) w:=by
 simp only[hH,Frame.oper?,e,d,eval_eq];exact aqF b _ _ _
theorem GP{f:Bool}{a:Array Oper}{i:Nat}{r:List Nat}{o:Oper}(b:a[i]?=some o)(e:hb o (yielded a t)=true)(d:∀c,o.op≠ .defer c):
 stepG P f {frame:=bJ fr t ds (.inRegion a (i::r)::k),callers:=cs,status:=.running,dying:=none} w=
  hG P true (bJ fr t ds (.inRegion a (i::r)::k)) cs none (dg (gS t) o) w:=by
 have h:=aQs (P:=P) (cs:=cs) (w:=w) (fr:=bJ fr t ds (.inRegion a (i::r)::k)) rfl b d;simp only[bJ]at h⊢;simp[stepG,hF,b,e,h]
theorem wY{a:Array Oper}{i:Nat}{r:List Nat}{o:Oper}{n:Next}{cv:cy}{w':db}(b:a[i]?=some o)(f:hb o (yielded a t)=true)
 (d:∀c,o.op≠.defer c)(e:(dg (gS t) o).run P w=.ok n w')(hn:n=.value cv\/n=.skip/\cv=undef):
 step P (lone (bJ fr t ds (.inRegion a (i::r)::k)) cs w)=.next (lone (bJ fr (q7 o.dst cv t) ds (.inRegion a r::k)) cs w'):=by
 rw[<-rG b];refine dl ?_;rw[GP b f d];rcases hn with rfl|⟨rfl,rfl⟩<;>simp[hG,e,bJ]
theorem zL{a:Array Oper}{i:Nat}{r:List Nat}{o:Oper}{f:dp}{args:Array cy}{w':db}(d:a[i]?=some o)(g:hb o (yielded a t)=true)
 (b:∀c,o.op≠.defer c)(e:(dg (gS t) o).run P w=.ok (.enter f args) w'):
 step P (lone (bJ fr t ds (.inRegion a (i::r)::k)) cs w)=.next (lone (fv P f args .normal) (bJ fr t ds (.inRegion a (i::r)::k)::cs) w'):=by
 refine dl ?_;rw[GP d g b];simp[hG,e,bJ]
theorem O2{a:Array Oper}{i:Nat}{r:List Nat}{o:Oper}{l:Nat}{f:dp}{tmps:Array cy}{assign body:Code}{w':db}(d:a[i]?=some o)(g:hb o (yielded a t)=true)
 (b:∀c,o.op≠.defer c)(e:(dg (gS t) o).run P w=.ok (.round l f tmps assign body) w'):
 step P (lone (bJ fr t ds (.inRegion a (i::r)::k)) cs w)=.next (lone (fm l f tmps assign body .normal) (bJ fr t ds (.inRegion a (i::r)::k)::cs) w'):=by
 refine dl ?_;rw[GP d g b];simp[hG,e,bJ]
end
end Go.ae
namespace Go.ae
variable[Gl]
mutual
theorem aI.mono{S T:Nat×Nat->Prop}(h:∀x,S x->T x):∀v,aI S v->aI T v
 | .p _,_=>by simp[aI]
 | .ptr b _,c| .cM b _ _ _ _,c| .sl b _ _ _ _,c| .map b,c=>by simp only[aI]at*;exact h _ c
 | .func _ a b,c=>by simp only[aI]at*;exact⟨bk.mono h a c.1,bk.mono h b c.2⟩
 | .st _ fs,c=>by simp only[aI]at*;exact bk.mono h fs c
 | .aE vs,c=>by simp only[aI]at*;exact bk.mono h vs c
theorem bk.mono{S T:Nat×Nat->Prop}(h:∀x,S x->T x):∀vs,bk S vs->bk T vs
 |[],_=>by simp[bk]
 |v::vs,c=>by simp only[bk]at*;exact⟨aI.mono h v c.1,bk.mono h vs c.2⟩
end
structure dj(P:da)(n:Nat)(ai ad:Nat->Prop)(β:Bd)(s:St)(t:Array cy)(w:db):Prop where
 heap:cK P w ad β s.heap ai
 env:∀x,aD P w ad β s.heap (aV s.env x) (t.getD x undef)
 iR:∀x,aI (aQ s.heap) (aV s.env x)
 size:t.size=n
structure qH(N:Nat)(β:Bd)(H:ak)(aR:Bd)(H':ak):Prop where
 obj:∀k b,b<N->aQ H (b,0)->oJ H' k b->oJ H k b/\aR.az b=β.az b
 arr:∀b aF an k es,b<N->aQ H (b,aF)->jc H' b aF an k es->∃k0 kn,jc H b aF an k0 kn/\kn.length<=es.length/\(eU k es↔eU k0 kn)/\(¬eU k es->aR.az b=β.az b/\aR.cap b=β.cap b)
theorem qH.loop{N:Nat}{β:Bd}{H:ak}{aR:Bd}{H':ak}(h:qH N β H aR H')(b:Nat)(hn:b<N)(hi:aQ H (b,0))(a:jE H' b):jE H b/\aR.az b=β.az b:=
 (h.obj 2 b hn hi (wN.2 a)).imp wN.1 id
theorem cZ.n{N:Nat}{β:Bd}{H:ak}{aR:Bd}{H':ak}(h:cZ β H aR H'):qH N β H aR H':=
 ⟨fun k b _=>h.obj k b,fun b aF an k es _=>h.arr b aF an k es⟩
theorem qH.full{β:Bd}{H:ak}{aR:Bd}{H':ak}(h:qH H.length β H aR H'):cZ β H aR H':=by
 have lt:∀b v,aQ H (b,v)->b<H.length:=fun b v⟨o,c,_⟩=>(hJ.1 c).1;exact⟨fun k b x=>h.obj k b (lt _ _ x) x,fun b aF an k a x=>h.arr b aF an k a (lt _ _ x) x⟩
theorem qH.trans{N:Nat}{β j l:Bd}{H H1 g:ak}(h:qH N β H j H1)(hi:∀x,x.1<N->aQ H x->aQ H1 x)(i:qH N j H1 l g):qH N β H l g:=by
 refine⟨?_,?_⟩
 ·intro k b hn a f;obtain⟨c,a2⟩:=i.obj k b hn (hi (b,0) hn a) f;obtain⟨d,e⟩:=h.obj k b hn a c;exact⟨d,a2.trans e⟩
 ·intro b aF an k o hn a f;obtain⟨k1,p,c,a2,a3,a4⟩:=i.arr b aF an k o hn (hi (b,aF) hn a) f;obtain⟨k0,kn,d,e,m,n⟩:=h.arr b aF an k1 p hn a c;refine⟨k0,kn,d,j8 e a2,a3.trans m,fun hn=>?_⟩;obtain⟨c1,c2⟩:=a4 hn;obtain⟨d1,d2⟩:=n (fun x=>hn (a3.2 x));exact⟨c1.trans d1,c2.trans d2⟩
theorem Obj.sr{S T:Nat×Nat->Prop}(h:∀x,S x->T x):∀{o:Obj},o.refs S->o.refs T
 | .box _ t,a=>aI.mono h t a
 | .arr _ _ _ es,a=>bk.mono h es a
 | .loop _L,a=>fun x=>aI.mono h _ (a x)
 | .hole,_| .dead,_| .map _ _,_| .fC _ _,_=>trivial
theorem cZ.trans{β b c:Bd}{H H1 a:ak}(h:cZ β H b H1)(hi:∀x,aQ H x->aQ H1 x)(d:cZ b H1 c a):cZ β H c a:=
 (h.n.trans (N:=H.length) (fun x _=>hi x) d.n).full
structure fa(N:Nat)(ai ad:Nat->Prop)(w:db)(β:Bd)(H:ak)(lA aJ:Nat->Prop)(w':db)(aR:Bd)(H':ak):Prop where
 fN:∀k,ai k->lA k
 cq:∀k,ad k->aJ k
 fresh:∀k,aJ k->ad k\/¬ai k
 ext:Ext ai ad w w'
 step:qH N β H aR H'
 iS:∀x,x.1<N->aQ H x->aQ H' x
 loop:∀b,b<N->jE H b->jE H' b
theorem fa.refl(N:Nat)(ai ad:Nat->Prop)(w:db)(β:Bd)(H:ak):fa N ai ad w β H ai ad w β H:=
 ⟨fun _ h=>h,fun _ h=>h,fun _ h=>.inl h,Ext.refl _ _ _,(cZ.refl _ _).n,fun _ _ h=>h,fun _ _ h=>h⟩
theorem Ext.trans{ai ad lA aJ:Nat->Prop}{w w1 b:db}(c:∀k,ai k->lA k)(hi:∀k,ad k->aJ k)(h:Ext ai ad w w1)(a:Ext lA aJ w1 b):Ext ai ad w b:=
 ⟨j8 h.size a.size,fun k hk=>(a.same k (hk.imp (c k) (hi k))).trans (h.same k hk),a.io.1.trans h.io.1,a.io.2.trans h.io.2⟩
theorem fa.trans{N:Nat}{ai ad f d g e:Nat->Prop}{w w1 i:db}{β j l:Bd}{H H1 c:ak}(h:fa N ai ad w β H f d w1 j H1)(a:fa N f d w1 j H1 g e i l c):fa N ai ad w β H g e i l c:=
 ⟨fun k x=>a.fN k (h.fN k x),fun k x=>a.cq k (h.cq k x),fun k x=>(a.fresh k x).elim (fun y=>h.fresh k y) (fun y=>.inr fun z=>y (h.fN k z)),h.ext.trans h.fN h.cq a.ext,
  h.step.trans h.iS a.step,fun x hn hx=>a.iS x hn (h.iS x hn hx),fun b hn m=>a.loop b hn (h.loop b hn m)⟩
theorem cF.gA{P:da}{N:Nat}{ai ad aJ:Nat->Prop}{w w':db}{β aR:Bd}{H H':ak}(h:cF P ai ad w β H aJ w' aR H'):fa N ai ad w β H ai aJ w' aR H':=
 ⟨fun _ x=>x,h.cq,h.fresh,h.ext,h.step.n,fun x _=>h.iS x,fun b _=>h.loop b⟩
section
variable{P:da}{ai ad aJ:Nat->Prop}{w w':db}{β aR:Bd}{H H':ak}
theorem fP.IU{b:Nat}{o:Obj}(d:o.live)(h:fP P w ad β H ai b o):∃fz,dV ad β ai fz b/\β.az b<w.heap.size:=by
 have lt:∀{x:er},w.heap[β.az b]?=some x->β.az b<w.heap.size:=fun h=>(bl.1 h).1;cases o with
 |hole=>exact d.elim
 |dead=>exact d.elim
 |box fz t=>obtain⟨_,_,a,_,c,_⟩:=h;exact⟨_,c,lt a⟩
 |arr k aF an es=>
  rcases h with h|⟨_,_,_,_,a,_,_,_,_,_,c,_⟩
  ·exact(d h).elim
  ·exact⟨_,c,lt a⟩
 |map fz es=>obtain⟨_,_,a,_,c⟩:=h;exact⟨_,c,lt a⟩
 |fC s pos=>obtain⟨_,a,_,c⟩:=h;exact⟨_,c,lt a⟩
 |loop L=>obtain⟨_,_,_,a,_,_,c⟩:=h;exact⟨_,c,lt a⟩
theorem fP.move{lA:Nat->Prop}(f:∀k,ad k->aJ k)(same:∀k,ad k->w'.heap[k]?=w.heap[k]?)(st:cZ β H aR H'){b:Nat}{o:Obj}(i:o.refs (aQ H))(hc:o.live->aR.cap b=β.cap b)
 (key:∀fz,o.live->dV ad β ai fz b->w'.heap[aR.az b]?=w.heap[β.az b]?/\dV aJ aR lA fz b)(h:fP P w ad β H ai b o):fP P w' aJ aR H' lA b o:=by
 cases o with
 |hole=>trivial
 |dead=>trivial
 |box fz t=>
  obtain⟨cs,T,a,c,d,e⟩:=h;obtain⟨k1,k2⟩:=key _ trivial d;exact⟨cs,T,k1.trans a,bG.mono f same st _ _ i c,k2,e⟩
 |arr k aF an es=>
  by_cases g:eU k es
  ·exact .inl g
  obtain⟨cs,T,j,rest,a,c,d,e,m,n,p,q⟩:=h.resolve_left g;obtain⟨k1,k2⟩:=key _ g p;have hc:=hc g;exact .inr ⟨cs,T,j,rest,k1.trans a,b9.mono f same st _ _ _ i c,d,by rw[hc];exact e,by rw[hc];exact m,by rw[hc];exact n,k2,q⟩
 |map fz es=>
  obtain⟨l,clock,a,c,d⟩:=h;obtain⟨k1,k2⟩:=key _ trivial d;exact⟨l,clock,k1.trans a,dB.mono f same _ _ c,k2⟩
 |fC s pos=>
  obtain⟨bs,a,c,d⟩:=h;obtain⟨k1,k2⟩:=key _ trivial d;exact⟨bs,k1.trans a,c,k2⟩
 |loop L=>
  obtain⟨tmps,defers,fn,a,c,d,e⟩:=h;obtain⟨k1,k2⟩:=key _ trivial e;exact⟨tmps,defers,fn,k1.trans a,c,fun x=>aD.mono f same st _ _ (i x) (d x),k2⟩
theorem fP.CP(a:w'.heap=w.heap){b:Nat}{o:Obj}(h:fP P w ad β H ai b o)(c:o.refs (aQ H)):fP P w' ad β H ai b o:=
 h.move (fun _ x=>x) (fun _ _=>by rw[a]) (cZ.refl _ _) c (fun _=>rfl) fun _ _ hf=>⟨by rw[a],hf⟩
theorem cK.CP(a:w'.heap=w.heap)(h:cK P w ad β H ai):cK P w' ad β H ai:=
 ⟨fun b o c=>(h.dQ b o c).CP a (h.refs b o c),h.inj,h.refs,fun k hk=>by rw[a];exact h.cq k hk,fun k hk=>by rw[a];exact h.fN k hk,h.lT.mono (fun _ x=>x) (fun _ _=>by rw[a])⟩
theorem cK.rZ(h:cK P w ad β H ai){b:Nat}{o:Obj}(d:H[b]?=some o)(c:o.live):β.az b<w.heap.size:=by
 obtain⟨_,_,a⟩:=(h.dQ b o d).IU c;exact a
theorem cF.set{b:Nat}{o':Obj}(f:cK P w ad β H ai)(m:b<H.length)(j:∀x,x≠b->aR.az x=β.az x/\aR.cap x=β.cap x)
 (l:∀k,ad k->aJ k)(E:∀k,aJ k->ad k\/(k=aR.az b/\o'.live))(R:∀k,aJ k->k<w'.heap.size)
 (I:w.heap.size<=w'.heap.size)(z:∀k,(k≠aR.az b\/¬o'.live)->k<w.heap.size->w'.heap[k]?=w.heap[k]?)
 (t:o'.live->w.heap.size<=aR.az b\/(aR.az b=β.az b/\(∃o,H[b]?=some o/\o.live)/\((∀k,k=β.az b->w'.heap[k]?=w.heap[k]?)\/¬ad (β.az b))/\¬ai (β.az b)))
 (aY:cZ β H aR (H.set b o'))(T:fP P w' aJ aR (H.set b o') ai b o')(W:o'.refs (aQ (H.set b o')))(S:∀(o:Obj)(v:Nat),H[b]?=some o->o.has v->o'.has v)(Q:∀L,H[b]?=some (.loop L)->∃s,o'=.loop s)(O:w'.os=w.os/\w'.output=w.output:=by exact⟨rfl,rfl⟩):
 cF P ai ad w β H aJ w' aR (H.set b o'):=by
 have q:∀x o,x≠b->H[x]?=some o->o.live->¬ad (β.az x)->o'.live->β.az x≠aR.az b:=by
  intro x o hx a e g n he;rcases t n with c|⟨c,⟨X,d,M⟩,_⟩
  ·have:=f.rZ a e;omega
  ·rw[c]at he;exact hx (f.inj x b o X a d e M g he)
 have G:o'.live->¬ai (aR.az b):=by
  intro e u;rcases t e with c|⟨c,_,_,d⟩
  ·have:=f.fN _ u;omega
  ·rw[c]at u;exact d u
 have r:∀k,ai k\/ad k->w'.heap[k]?=w.heap[k]?:=by
  intro k hk;have F:k<w.heap.size:=hk.elim (f.fN k) (f.cq k)
  by_cases p:k=aR.az b
  ·by_cases e:o'.live
   ·rcases hk with hk|hk
    ·exact(G e (p▸hk)).elim
    ·rcases t e with c|⟨c,_,d,_⟩
     ·omega
     ·rcases d with d|d
      ·exact d k (p.trans c)
      ·exact(d (by rw[<-c,<-p];exact hk)).elim
   ·exact z k (.inr e) F
  ·exact z k (.inl p) F
 have aA:∀x,aQ H x->aQ (H.set b o') x:=by
  rintro⟨x,v⟩ ⟨o,a,hn⟩
  by_cases hx:x=b
  ·subst hx;exact⟨o',by simp[hL m],S o v a hn⟩
  ·exact⟨o,by simp only;rw[hM (ko hx)];exact a,hn⟩
 refine⟨l,fun k hk=>(E k hk).imp id (fun(h:k=aR.az b/\o'.live)=>h.1▸G h.2),⟨I,r,O⟩,aY,⟨?_,?_,?_,R,fun k hk=>j9 (f.fN k hk) I,f.lT.mono l (fun k hk=>r k (.inr hk))⟩,aA,?_⟩
 ·intro x o a
  by_cases hx:x=b
  ·subst hx;rw[hL m]at a;cases a;exact T
  ·rw[hM (ko hx)]at a;have U:=f.dQ x o a;have V:=f.refs x o a;have D:=(j x hx).1;have N:=(j x hx).2;have hs:o.live->w'.heap[aR.az x]?=w.heap[β.az x]?:=by
    intro e;rw[D]
    by_cases g:ad (β.az x)
    ·exact r _ (.inr g)
    refine z _ ?_ (f.rZ a e)
    by_cases n:o'.live
    ·exact .inl (q x o hx a e g n)
    ·exact .inr n
   have held:∀fz,o.live->dV ad β ai fz x->dV aJ aR ai fz x:=by
    intro fz e i;unfold dV at i⊢;rw[D];cases fz with
    |true=>simp only[if_true]at i⊢;exact l _ i
    |false=>
     simp only[ck,if_false]at i⊢;refine⟨fun h=>?_,i.2⟩;rcases E _ h with h|⟨h,n⟩
     ·exact i.1 h
     ·exact q x o hx a e i.1 n h
   exact U.move l (fun k hk=>r k (.inr hk)) aY V (fun _=>N) fun fz e i=>⟨hs e,held fz e i⟩
 ·intro x y J K c d A B g he
  by_cases hx:x=b<;>by_cases hy:y=b
  ·rw[hx,hy]
  ·subst hx;rw[hL m]at c;cases c;rw[hM (ko hy)]at d;rw[(j y hy).1]at he;exact(q y K hy d B (fun hi=>g (he▸l _ hi)) A he.symm).elim
  ·subst hy;rw[hL m]at d;cases d;rw[hM (ko hx)]at c;rw[(j x hx).1]at he;rw[(j x hx).1]at g;exact(q x J hx c A (fun hi=>g (l _ hi)) B he).elim
  ·rw[hM (ko hx)]at c;rw[hM (ko hy)]at d;rw[(j x hx).1,(j y hy).1]at he;rw[(j x hx).1]at g;exact f.inj x y J K c d A B (fun hi=>g (l _ hi)) he
 ·intro x o a
  by_cases hx:x=b
  ·subst hx;rw[hL m]at a;cases a;exact W
  ·rw[hM (ko hx)]at a;exact Obj.sr aA (f.refs x o a)
 ·rintro x ⟨L,C⟩
  by_cases hx:x=b
  ·subst hx;obtain⟨s,rfl⟩:=Q L C;exact⟨s,hL m⟩
  ·exact⟨L,by rw[hM (ko hx)];exact C⟩
end
end Go.ae
namespace Go.ae
variable[Gl]
def bM(P:da)(o:Oper)(ρ:dd->AV)(a:Nat)(e:bg):Prop:=
 ∀(H:ak)(w:db)(ad ai:Nat->Prop)(β:Bd)(ρc:dd->cy),
  cK P w ad β H ai->(∀x∈o.op.operands,aD P w ad β H (ρ x) (ρc x)/\aI (aQ H) (ρ x))->(∀p∈e.aA,H[p.1]?=some p.2)->(∀i,i<e.bm.length->H[a+i]?=some .hole)->
  ∃n cv w' aR aJ,(dg ρc o).run P w=.ok n w'/\(n=.value cv\/n=.skip/\cv=undef)/\
   cF P ai ad w β H aJ w' aR (bu H (e.aW++newAt a e.bm))/\aD P w' aJ aR (bu H (e.aW++newAt a e.bm)) e.v cv/\
   aI (aQ (bu H (e.aW++newAt a e.bm))) e.v
section
variable{P:da}{ai ad aJ:Nat->Prop}{w w':db}{β aR:Bd}{H H':ak}
theorem cF.refl(h:cK P w ad β H ai):cF P ai ad w β H ad w β H:=
 ⟨fun _ x=>x,fun _ x=>.inl x,Ext.refl _ _ _,cZ.refl _ _,h,fun _ x=>x,fun _ x=>x⟩
theorem bM.same{o:Oper}{ρ:dd->AV}{b:Nat}{v:AV}{aA:List (Nat×Obj)}
 (h:∀(H:ak)(w:db)(ad ai:Nat->Prop)(β:Bd)(ρc:dd->cy),cK P w ad β H ai->(∀x∈o.op.operands,aD P w ad β H (ρ x) (ρc x)/\aI (aQ H) (ρ x))->
  (∀p∈aA,H[p.1]?=some p.2)->∃cv,(dg ρc o).run P w=.ok (.value cv) w/\aD P w ad β H v cv/\aI (aQ H) v):
 bM P o ρ b {v,aA}:=by
 intro H w ad ai β ρc a g f _;obtain⟨cv,c,d,e⟩:=h H w ad ai β ρc a g f;exact⟨_,cv,w,β,ad,c,.inl rfl,by simpa[newAt,bu]using cF.refl a,by simpa[newAt,bu]using d,by simpa[newAt,bu]using e⟩
theorem cF.trans{e f:Nat->Prop}{w1 g:db}{i j:Bd}{H1 d:ak}(h:cF P ai ad w β H e w1 i H1)(a:cF P ai e w1 i H1 f g j d):cF P ai ad w β H f g j d:=by
 refine⟨fun k x=>a.cq k (h.cq k x),fun k x=>(a.fresh k x).elim (h.fresh k) .inr,h.ext.trans (fun _ x=>x) h.cq a.ext,h.step.trans h.iS a.step,a.rel,fun b c=>a.iS b (h.iS _ c),fun b c=>a.loop b (h.loop b c)⟩
theorem zH(H:ak)(l r:List (Nat×Obj)):bu H (l++r)=bu (bu H l) r:=by
 induction l generalizing H with
 |nil=>rfl
 |cons p l a=>obtain⟨b,o⟩:=p;simp[bu,a]
theorem tg(H:ak)(l:List (Nat×Obj)):(bu H l).length=H.length:=by
 induction l generalizing H with
 |nil=>rfl
 |cons p l a=>obtain⟨b,o⟩:=p;simp[bu,a]
theorem Cu(H T:ak)(l:List (Nat×Obj))(h:∀p∈l,p.1<H.length):bu (H++T) l=bu H l++T:=by
 induction l generalizing H with
 |nil=>rfl
 |cons p l c=>
  obtain⟨b,o⟩:=p;have a:b<H.length:=h (b,o) s_;simp only[bu];rw[List.set_append_left _ _ a,c];intro q hq;rw[i7];exact h q (by simp[hq])
theorem Ga(H:ak)(l:List Obj):bu (H++hK l.length .hole) (newAt H.length l)=H++l:=by
 induction l generalizing H with
 |nil=>simp[newAt,bu]
 |cons o l a=>
  simp only[newAt,bu,h3,h0];rw[ix _ _ (j3 _)];simp only[Nat.sub_self,i1];have:=a (H++[o]);simp only[h6,List.length_singleton,hS,List.singleton_append]at this;exact this
theorem nL(H:ak)(m b:Nat):(H++hK m Obj.hole)[b]?=if b<H.length then H[b]? else if b<H.length+m then some .hole else none:=by
 by_cases h:b<H.length
 ·simp[h,hV]
 ·rw[h1 o_];simp only[hR,h,if_false]
  by_cases a:b<H.length+m
  ·simp[a,show b-H.length<m by omega]
  ·simp[a,show¬(b-H.length<m)by omega]
theorem wU{H:ak}{m b:Nat}{o:Obj}(h:(H++hK m Obj.hole)[b]?=some o):H[b]?=some o\/o=.hole:=by
 rw[nL]at h
 split at h
 ·exact .inl h
 ·split at h
  ·exact .inr (by simpa using h.symm)
  ·simp at h
theorem rS(H:ak)(m:Nat)(b:Nat×Nat)(h:aQ H b):aQ (H++hK m Obj.hole) b:=by
 obtain⟨o,a,hn⟩:=h;have c:b.1<H.length:=(hJ.1 a).1;exact⟨o,by rw[nL,if_pos c];exact a,hn⟩
theorem uI(β:Bd)(H:ak)(m:Nat):cZ β H β (H++hK m .hole):=by
 refine⟨?_,?_⟩
 ·rintro k b _ ⟨o,h,a⟩;rcases wU h with h|rfl
  ·exact⟨⟨o,h,a⟩,rfl⟩
  ·cases a
 ·intro b aF an k c _ h;rcases wU h with h|h
  ·exact⟨k,c,h,j3 _,Iff.rfl,fun _=>⟨rfl,rfl⟩⟩
  ·simp at h
theorem cK.tS(m:Nat)(h:cK P w ad β H ai):cK P w ad β (H++hK m .hole) ai:=by
 refine⟨?_,?_,?_,h.cq,h.fN,h.lT⟩
 ·intro b o a;rcases wU a with a|rfl
  ·exact(h.dQ b o a).move (fun _ x=>x) (fun _ _=>rfl) (uI β H m) (h.refs b o a) (fun _=>rfl) fun _ _ hf=>⟨rfl,hf⟩
  ·trivial
 ·intro x y j k c d e f i g;rcases wU c with c|rfl
  ·rcases wU d with d|rfl
   ·exact h.inj x y j k c d e f i g
   ·exact f.elim
  ·exact e.elim
 ·intro b o a;rcases wU a with a|rfl
  ·exact Obj.sr (rS H m) (h.refs b o a)
  ·trivial
theorem bM.use{o:Oper}{ρ:dd->AV}{e:bg}(h:bM P o ρ H.length e){ρc:dd->cy}(j:cK P w ad β H ai)
 (a:∀x∈o.op.operands,aD P w ad β H (ρ x) (ρc x)/\aI (aQ H) (ρ x))(aA:∀p∈e.aA,H[p.1]?=some p.2)(aW:∀p∈e.aW,p.1<H.length):
 ∃n cv w' aR aJ,(dg ρc o).run P w=.ok n w'/\(n=.value cv\/n=.skip/\cv=undef)/\
  cF P ai ad w β H aJ w' aR (bu H e.aW++e.bm)/\aD P w' aJ aR (bu H e.aW++e.bm) e.v cv/\aI (aQ (bu H e.aW++e.bm)) e.v:=by
 have aY:=uI β H e.bm.length;obtain⟨n,cv,w',aR,aJ,l,m,c,d,f⟩:=h (H++hK e.bm.length .hole) w ad ai β ρc (j.tS _)
  (fun x hx=>⟨aD.mono (fun _ x=>x) (fun _ _=>rfl) aY _ _ (a x hx).2 (a x hx).1,aI.mono (rS _ _) _ (a x hx).2⟩)
  (fun p r=>by have:=aA p r;rw[nL,if_pos (hJ.1 this).1];exact this)
  (fun i hi=>by rw[nL,if_neg o_,if_pos o_])
 have q:bu (H++hK e.bm.length .hole) (e.aW++newAt H.length e.bm)=bu H e.aW++e.bm:=by
  rw[zH,Cu _ _ _ aW];have:=Ga (bu H e.aW) e.bm
  rwa [tg]at this
 rw[q]at c d f;refine⟨n,cv,w',aR,aJ,l,m,?_,d,f⟩;have k:cF P ai ad w β H ad w β (H++hK e.bm.length .hole):=⟨fun _ x=>x,fun _ x=>.inl x,Ext.refl _ _ _,aY,j.tS _,rS _ _,fun b⟨L,g⟩=>⟨L,by rw[nL,if_pos (hJ.1 g).1];exact g⟩⟩
 exact k.trans c
theorem vG.use{f:dp}{args:List AV}{e:bg}(h:vG P f args H.length e)(l:sC H e){a:List cy}(m:cK P w ad β H ai)(q:bX P w ad β H args a)(n:bk (aQ H) args):
 eq P f a.toArray w fun x w'=>∃cv aR aJ,x=.returned cv/\cF P ai ad w β H aJ w' aR (bu H e.aW++e.bm)/\aD P w' aJ aR (bu H e.aW++e.bm) e.v cv/\aI (aQ (bu H e.aW++e.bm)) e.v:=by
 have aY:=uI β H e.bm.length;refine(h.2 (H++hK e.bm.length .hole) w ad ai β a (m.tS _)
  (bX.mono (fun _ x=>x) (fun _ _=>rfl) aY _ _ n q) (bk.mono (rS _ _) _ n)
  (fun p c=>by have:=l.1 p c;rw[nL,if_pos (hJ.1 this).1];exact this)
  (fun i hi=>by rw[nL,if_neg o_,if_pos o_])).mono ?_
 rintro x w' ⟨cv,aR,aJ,rfl,d,g,j⟩;have r:bu (H++hK e.bm.length .hole) (e.aW++newAt H.length e.bm)=bu H e.aW++e.bm:=by
  rw[zH,Cu _ _ _ (fun p c=>(l.2 p c).1)];have:=Ga (bu H e.aW) e.bm
  rwa [tg]at this
 rw[r]at d g j;have o:cF P ai ad w β H ad w β (H++hK e.bm.length .hole):=⟨fun _ x=>x,fun _ x=>.inl x,Ext.refl _ _ _,aY,m.tS _,rS _ _,fun b⟨L,k⟩=>⟨L,by rw[nL,if_pos (hJ.1 k).1];exact k⟩⟩
 exact⟨cv,aR,aJ,rfl,o.trans d,g,j⟩
end
def o7(P:da)(aq:dp->Bool):Prop:=
 ∀(o:Oper)(ρ:dd->AV)(H:ak)(K:bg->Prop),(∀v,ρ (.const v)=.p (ofConst v))->gO P aq o ρ H K->
  ∃e,K e/\bM P o ρ H.length e/\(∀p∈e.aA,H[p.1]?=some p.2)/\(∀p∈e.aW,p.1<H.length/\p.2≠.hole)
section
variable{P:da}{aq:dp->Bool}{n:Nat}
theorem Ov{w:db}{ad:Nat->Prop}(v:cy):aH P w ad (ofConst v) v:=by
 unfold ofConst
 split<;>simp[aH]
theorem sc{ai ad:Nat->Prop}{β:Bd}{s:St}{t:Array cy}{w:db}(h:dj P n ai ad β s t w)(x:dd):
 aD P w ad β s.heap (ev s.env x) (gS t x)/\aI (aQ s.heap) (ev s.env x):=by
 cases x with
 |tmp x=>exact⟨h.env x,h.iR x⟩
 |const v=>exact⟨by simp only[ev,gS,aD];exact Ov v,by simp[ev,aI]⟩
 |global g=>exact⟨by simp only[ev,gS,aD];exact h.heap.lT.val g,by simp[ev,aI]⟩
 |func f=>exact⟨by simp[ev,gS,aD,aH,bY],by simp[ev,aI]⟩
def ld(n:Nat)(o:Oper):Bool:=
 match o.dst with
 |some d=>decide (d<n)
 |none=>true
theorem zX(e:Env)(dst:Option Tmp)(v:AV)(x:Nat):aV (put dst v e) x=if dst=some x then v else aV e x:=by
 cases dst with
 |none=>simp[put]
 |some d=>
  simp only[put,aV,kx]
  by_cases h:x=d
  ·simp[h]
  ·simp[h,ko h]
theorem atx{n:Nat}{o:Oper}(a:ld n o=true){t:Array cy}(c:t.size=n)(v:cy)(x:Nat):(q7 o.dst v t).getD x undef=if o.dst=some x then v else t.getD x undef:=by
 unfold ld at a;cases b:o.dst with
 |none=>simp[q7]
 |some d=>
  simp only[b,decide_eq_true_eq]at a;simp only[q7,kx]
  by_cases h:d=x
  ·subst h;simp[c,a]
  ·simp only[h,if_false,bp,bV h]
theorem ast{t:Array cy}(dst:Option Tmp)(v:cy):(q7 dst v t).size=t.size:=by cases dst<;>simp[q7]
theorem dj.put{ai ad aJ:Nat->Prop}{β aR:Bd}{s:St}{H':ak}{t:Array cy}{w w':db}{o:Oper}{v:AV}{cv:cy}(h:dj P n ai ad β s t w)(b:ld n o=true)
 (a:cF P ai ad w β s.heap aJ w' aR H')(d:aD P w' aJ aR H' v cv)(c:aI (aQ H') v):
 dj P n ai aJ aR ⟨put o.dst v s.env,H'⟩ (q7 o.dst cv t) w':=by
 refine⟨a.rel,fun x=>?_,fun x=>?_,by rw[ast];exact h.size⟩
 ·rw[zX,atx b h.size]
  split
  ·exact d
  ·exact aD.mono a.cq (fun k hk=>a.ext.same k (.inr hk)) a.step _ _ (h.iR x) (h.env x)
 ·rw[zX]
  split
  ·exact c
  ·exact aI.mono a.iS _ (h.iR x)
theorem PX{H T:ak}{b:Nat×Nat}(h:aQ H b):aQ (H++T) b:=by
 obtain⟨o,a,hn⟩:=h;exact⟨o,by rw[hV (hJ.1 a).1];exact a,hn⟩
theorem cK.later{ai ad aJ:Nat->Prop}{w w':db}{β:Bd}{H:ak}(h:cK P w ad β H ai)(a:∀k,ad k->aJ k)(hf:∀k,aJ k->ad k\/w.heap.size<=k)
 (l:∀k,aJ k->k<w'.heap.size)(i:w.heap.size<=w'.heap.size)(hs:∀k,k<w.heap.size->w'.heap[k]?=w.heap[k]?)(j:w'.os=w.os/\w'.output=w.output:=by exact⟨rfl,rfl⟩):cF P ai ad w β H aJ w' β H:=by
 have same:∀k,ad k->w'.heap[k]?=w.heap[k]?:=fun k hk=>hs k (h.cq k hk);refine⟨a,fun k hk=>(hf k hk).imp id (fun f e=>by have:=h.fN k e;omega),⟨i,fun k hk=>hs k (hk.elim (h.fN k) (h.cq k)),j⟩,cZ.refl _ _,?_,fun _ x=>x,fun _ x=>x⟩;refine⟨fun b o d=>?_,fun b b' o o' f e n p m=>h.inj b b' o o' f e n p (fun hi=>m (a _ hi)),h.refs,l,fun k hk=>j9 (h.fN k hk) i,h.lT.mono a same⟩;refine(h.dQ b o d).move a same (cZ.refl _ _) (h.refs b o d) (fun _=>rfl) fun fz g c=>⟨hs _ (h.rZ d g),?_⟩
 have:=h.rZ d g;unfold dV at c⊢;cases fz with
 |true=>exact a _ c
 |false=>exact⟨fun x=>(hf _ x).elim c.1 o_,c.2⟩
theorem uJ{w:db}{ad:Nat->Prop}{β:Bd}{H:ak}:∀{a b:List AV}{x y:List cy},bX P w ad β H a x->bX P w ad β H b y->bX P w ad β H (a++b) (x++y)
 |[],b,x,y,h,c=>by simp only[bX]at h;subst h;simpa using c
 |v::a,b,x,y,h,c=>by
  simp only[bX]at h;obtain⟨z,f,rfl,d,e⟩:=h;simp only[h7,bX];exact⟨z,f++y,rfl,d,uJ e c⟩
theorem qp{S:Nat×Nat->Prop}{a b:List AV}(h:bk S a)(d:bk S b):bk S (a++b):=by
 rw[eQ]at*;intro v c;rcases hZ.1 c with c|c
 ·exact h v c
 ·exact d v c
theorem Aa{ai ad:Nat->Prop}{β:Bd}{s:St}{t:Array cy}{w:db}(h:dj P n ai ad β s t w):∀l:List dd,
 bX P w ad β s.heap (l.map (ev s.env)) (l.map (gS t))/\bk (aQ s.heap) (l.map (ev s.env))
 |[]=>by simp[bX,bk]
 |x::l=>by
  have a:=sc h x;have b:=Aa h l;simp only[hX,bX,bk];exact⟨⟨_,_,rfl,a.1,b.1⟩,a.2,b.2⟩
theorem Xj{vs:List PV}{l:List AV}(h:l=vs.map .p):fy l=some vs:=by rw[h,Xq]
end
section
variable{P:da}{w:db}{ad ai:Nat->Prop}{β:Bd}{H:ak}
def Bd.at(β:Bd)(b az cap:Nat):Bd:=⟨fun x=>if x=b then az else β.az x,fun x=>if x=b then cap else β.cap x⟩
theorem CW{a:Nat}(f:H[a]?=some .hole)(o':Obj)(az cap:Nat):cZ β H (β.at a az cap) (H.set a o'):=by
 have b:∀{x v},aQ H (x,v)->x≠a:=by
  rintro x v ⟨o,c,hn⟩ rfl;simp only at c;rw[f]at c;cases c;exact hn
 have d:∀{x v},aQ H (x,v)->(H.set a o')[x]?=H[x]?:=fun hx=>hM (ko (b hx));refine⟨?_,?_⟩
 ·rintro k x hx ⟨o,h,g⟩;rw[d hx]at h;exact⟨⟨o,h,g⟩,by simp[Bd.at,b hx]⟩
 ·intro x aF an k e hx h;unfold jc at h;rw[d hx]at h;exact⟨k,e,h,j3 _,Iff.rfl,fun _=>by simp[Bd.at,b hx]⟩
theorem xp(e:cK P w ad β H ai){a:Nat}(b:H[a]?=some .hole){ob:er}{o':Obj}{cap:Nat}
 (g:fP P {w with heap:=w.heap.push ob} ad (β.at a w.heap.size cap) (H.set a o') ai a o')(h:o'.refs (aQ (H.set a o'))):
 cF P ai ad w β H ad {w with heap:=w.heap.push ob} (β.at a w.heap.size cap) (H.set a o'):=by
 refine cF.set e (hJ.1 b).1 (fun x hx=>by simp[Bd.at,hx]) (fun _ x=>x) (fun _ x=>.inl x) (fun k hk=>by have:=e.cq k hk;simp;omega) s_
  (fun k _ hk=>by simp[b4,kk hk]) (fun _=>.inl (by simp[Bd.at])) (CW b _ _ _) g h (fun i v c f=>by rw[b]at c;cases c;exact f.elim) (fun L d=>by rw[b]at d;cases d)
theorem zR(w:db)(a:er){k:Nat}(hk:k<w.heap.size):({w with heap:=w.heap.push a}:db).heap[k]?=w.heap[k]?:=by
 simp[b4,kk hk]
end
section
variable{P:da}{w:db}{ad aJ ai:Nat->Prop}{β:Bd}{H:ak}
def Row(P:da)(w:db)(ad:Nat->Prop)(β:Bd)(H:ak)(an:Nat)(a:List AV)(b:List (List cy)):Prop:=b9 P w ad β H (hK a.length an) a b
theorem jv{an:Nat}{a:List (List cy)}:Row P w ad β H an [] a↔a=[]:=by simp[Row,b9]
theorem uQ{an:Nat}{v:AV}{b:List AV}{a:List (List cy)}:Row P w ad β H an (v::b) a↔∃c cs,a=c::cs/\bG P w ad β H v c/\c.length=an/\Row P w ad β H an b cs:=by
 simp[Row,h0,b9]
theorem tf{an:Nat}:∀{a b:List AV}{d:List (List cy)},Row P w ad β H an (a++b) d↔∃c1 c2,d=c1++c2/\Row P w ad β H an a c1/\Row P w ad β H an b c2
 |[],b,d=>by
  simp only[i6];constructor
  ·intro h;exact⟨[],d,rfl,jv.2 rfl,h⟩
  ·rintro⟨c1,c2,rfl,e,f⟩;rw[jv.1 e];simpa using f
 |v::a,b,d=>by
  simp only[h7,uQ];constructor
  ·rintro⟨c,cs,rfl,e,f,g⟩;obtain⟨c1,c2,rfl,i,j⟩:=tf.1 g;exact⟨c::c1,c2,rfl,⟨c,c1,rfl,e,f,i⟩,j⟩
  ·rintro⟨c1,c2,rfl,⟨c,cs,rfl,e,f,g⟩,i⟩;exact⟨c,cs++c2,rfl,e,f,tf.2 ⟨cs,c2,rfl,g,i⟩⟩
theorem jF{an:Nat}:∀{b:List AV}{a:List (List cy)},Row P w ad β H an b a->a.length=b.length/\a.flatten.length=b.length*an
 |[],a,h=>by rw[jv]at h;subst h;simp
 |v::b,a,h=>by
  rw[uQ]at h;obtain⟨c,cs,rfl,f,d,e⟩:=h;have:=jF e;simp only[h3,hW,h6,this,d,kf];exact⟨trivial,o_⟩
theorem pq{an:Nat}{a:List PV}{b:List (List cy)}:Row P w ad β H an (a.map .p) b↔bA P w ad (hK a.length an) a b:=by
 unfold Row;rw[List.length_map];exact rN
theorem qq{an:Nat}{d:List AV}{e:List (List cy)}(h:Row P w ad β H an d e)(off len:Nat)(k:off+len<=d.length):
 ∃a b c,e=a++b++c/\Row P w ad β H an ((d.drop off).take len) b/\a.flatten.length=off*an/\Row P w ad β H an (d.take off) a/\Row P w ad β H an (d.drop (off+len)) c:=by
 have e1:d=d.take off++((d.drop off).take len++d.drop (off+len)):=by
  rw[<-jp,h4,h4]
 rw[e1,tf]at h;obtain⟨a,r,rfl,f,g⟩:=h;rw[tf]at g;obtain⟨b,c,rfl,i,j⟩:=g;refine⟨a,b,c,s_,i,?_,f,j⟩;have:=(jF f).2;rw[this,List.length_take,j4 o_]
theorem pc{cs:Array cy}{T:c9}{fz:Nat×Nat}{az:Nat}(a:w.heap[az]?=some (.cells cs T fz)){pre xs post:List cy}(hc:cs.toList=pre++xs++post):
 ja w az pre.length xs:=by
 intro i hi;have:cs[pre.length+i]?=some xs[i]:=by
  rw[<-bv,hc,hS,h1 o_];simp only[j6];rw[hV hi,hP hi]
 simp[hE,a,this]
theorem F0(a:List PV)(off len:Nat):(((a.map AV.p).drop off).take len)=((a.drop off).take len).map .p:=by
 rw[<-js,<-ii]
theorem rP{H:ak}{b:Nat}{d o:Obj}(c:H[b]?=some d)(hn:∀v,d.has v->o.has v):∀x,aQ H x->aQ (H.set b o) x:=by
 rintro⟨x,v⟩ ⟨e,a,h⟩
 by_cases hx:b=x
 ·subst hx;simp only at a;rw[c]at a;cases a;exact⟨o,by simp only;rw[hL (hJ.1 c).1],hn v h⟩
 ·exact⟨e,by simp only;rw[hM hx];exact a,h⟩
theorem nM{b:Nat}{o o':Obj}(e:H[b]?=some o)(n:∀k v z a,o'= .arr k v z a->∃d c,o= .arr d v z c/\c.length<=a.length/\(eU k a↔eU d c):=by nofun)(hk:o.kd=o'.kd:=by rfl):
 cZ β H β (H.set b o'):=by
 have p:b<H.length:=(hJ.1 e).1;have g:∀x,x≠b->(H.set b o')[x]?=H[x]?:=fun x hx=>hM (ko hx);have f:(H.set b o')[b]?=some o':=hL p;refine⟨?_,?_⟩
 ·rintro k x _ ⟨q,h,i⟩;refine⟨?_,rfl⟩
  by_cases hx:x=b
  ·subst hx;rw[f]at h;cases h;exact⟨o,e,hk.trans i⟩
  ·rw[g x hx]at h;exact⟨q,h,i⟩
 ·intro x aF an k a _ h;unfold jc at h⊢
  by_cases hx:x=b
  ·subst hx;rw[f]at h;cases h;obtain⟨d,c,j,l,m⟩:=n _ _ _ _ rfl;exact⟨d,c,by rw[e,j],l,m,fun _=>⟨rfl,rfl⟩⟩
  ·rw[g x hx]at h;exact⟨k,a,h,j3 _,Iff.rfl,fun _=>⟨rfl,rfl⟩⟩
theorem LA{b v z:Nat}{k c:AK}{a:List AV}(f:H[b]?=some (.arr k v z a))(hn:¬eU k a)(d:¬eU c a):cZ β H β (H.set b (.arr c v z a)):=
 nM f fun _ _ _ _ e=>by cases e;exact⟨_,_,rfl,j3 _,fun h=>(d h).elim,fun h=>(hn h).elim⟩
theorem Lz{b v z:Nat}{k:AK}{a c:List AV}(f:H[b]?=some (.arr k v z a))(d:a.length=c.length):cZ β H β (H.set b (.arr k v z c)):=
 nM f fun _ _ _ _ e=>by cases e;exact⟨_,_,rfl,Nat.le_of_eq d,by unfold eU;rw[<-hO,<-hO,d]⟩
theorem dV.xU{fz:Bool}{b:Nat}(h:dV ad β ai fz b):ad (β.az b)\/(¬ad (β.az b)/\¬ai (β.az b)):=by
 cases fz with
 |true=>exact .inl h
 |false=>exact .inr h
theorem w8(c:cK P w ad β H ai){b:Nat}{o o':Obj}(d:H[b]?=some o)(m:o.live)(E:o'.live)(p:∀v,o.has v->o'.has v)(n:∀L,o≠ .loop L)
 (aY:cZ β H β (H.set b o'))(D:ad (β.az b)\/(¬ad (β.az b)/\¬ai (β.az b)))
 (bm:∀aJ:Nat->Prop,(∀k,ad k->aJ k)->aJ (β.az b)->fP P w aJ β (H.set b o') ai b o')(q:o'.refs (aQ (H.set b o'))):
 ∃aJ,cF P ai ad w β H aJ w β (H.set b o')/\aJ (β.az b):=by
 have l:b<H.length:=(hJ.1 d).1
 by_cases hi:ad (β.az b)
 ·
  refine⟨ad,?_,hi⟩;have aA:=rP d p;refine⟨fun _ x=>x,fun _ x=>.inl x,Ext.refl _ _ _,aY,⟨?_,?_,?_,c.cq,c.fN,c.lT⟩,aA,fun x⟨L,e⟩=>⟨L,by
   by_cases hx:b=x
   ·subst hx;rw[d]at e;cases e;exact(n L rfl).elim
   ·rw[hM hx];exact e⟩⟩
  ·intro x g a
   by_cases hx:x=b
   ·subst hx;rw[hL l]at a;cases a;exact bm ad (fun _ x=>x) hi
   ·rw[hM (ko hx)]at a;exact(c.dQ x g a).move (fun _ x=>x) (fun _ _=>rfl) aY (c.refs x g a) (fun _=>rfl) fun _ _ hf=>⟨rfl,hf⟩
  ·intro x y s M f j I J F C;have conv:∀(z:Nat)(i:Obj),(H.set b o')[z]?=some i->i.live->∃t:Obj,H[z]?=some t/\t.live:=by
    intro z i hz K
    by_cases r:z=b
    ·subst r;exact⟨o,d,m⟩
    ·rw[hM (ko r)]at hz;exact⟨i,hz,K⟩
   obtain⟨u,A,c1⟩:=conv x s f I;obtain⟨a2,B,c2⟩:=conv y M j J;exact c.inj x y u a2 A B c1 c2 F C
  ·intro x g a
   by_cases hx:x=b
   ·subst hx;rw[hL l]at a;cases a;exact q
   ·rw[hM (ko hx)]at a;exact Obj.sr aA (c.refs x g a)
 ·refine⟨fun k=>ad k\/k=β.az b,?_,.inr rfl⟩;have G:=D.resolve_left hi;exact cF.set c l (fun _ _=>⟨rfl,rfl⟩) (fun _ x=>.inl x) (fun k hk=>hk.imp id (fun h=>⟨h,E⟩)) (fun k hk=>hk.elim (c.cq k) (fun h=>h▸c.rZ d m)) (j3 _)
   (fun _ _ _=>rfl) (fun _=>.inr ⟨rfl,⟨o,d,m⟩,.inl (fun _ _=>rfl),G.2⟩) aY (bm _ (fun _ x=>.inl x) (.inr rfl)) q (fun s v f j=>by rw[d]at f;cases f;exact p v j) (fun L e=>by rw[d]at e;cases e;exact(n L rfl).elim)
theorem PN{y:AV}{pv:PV}{H1:ak}{v:cy}(d:mN H y=some (pv,H1))(i:cK P w ad β H ai)(f:aD P w ad β H y v)(Y:aI (aQ H) y):
 ∃aJ,cF P ai ad w β H aJ w β H1/\aH P w aJ pv v:=by
 cases y with
 |p t=>
  simp[mN]at d;obtain⟨rfl,rfl⟩:=d;exact⟨ad,cF.refl i,by simpa[aD]using f⟩
 |sl b aF an off len=>
  simp only[mN]at d
  split at d
  case h_2=>simp at d
  rename_i k Z V j g
  split at d
  case isFalse=>simp at d
  rename_i N;obtain⟨rfl,rfl,X⟩:=N;simp only[aD]at f;obtain⟨_,f⟩:=f;simp only[cG]at f;obtain⟨v1,v2,v3⟩:=f k j g
  split at d
  ·rename_i hn;simp at d;obtain⟨rfl,rfl⟩:=d;exact⟨ad,cF.refl i,by simp[aH,v2 hn]⟩
  ·rename_i hn
   split at d
   case h_2=>simp at d
   rename_i I Q;simp at d;obtain⟨rfl,rfl⟩:=d;have z:=po Q;have D:=i.dQ b _ g;rcases D with D|⟨cs,T,E,rest,n,l,r,A,K,L,M,W⟩
   ·exact(hn D).elim
   have G:¬eU .frozen j:=fun h=>by cases h.1
   have aY:cZ β H β (H.set b (.arr .frozen aF an j)):=LA g hn G;obtain⟨aJ,q,x⟩:=w8 i g hn (o':=.arr .frozen aF an j) G (fun _ h=>h) (fun _ h=>by cases h) aY M.xU
    (fun aJ hi u=>.inr ⟨cs,T,E,rest,n,b9.mono hi (fun _ _=>rfl) aY _ _ _ (i.refs b _ g) l,r,A,K,(fun h=>by cases h),u,fun _ e B=>(by rw[z]at B;simp at B;obtain⟨a,_,rfl⟩:=B;trivial),fun h=>by cases h⟩)
    (by rw[z];exact kU _ _)
   refine⟨aJ,q,?_⟩;rw[v3 hn];have R:Row P w aJ β H an j E:=b9.mono q.cq (fun _ _=>rfl) (cZ.refl _ _) _ _ _ (i.refs b _ g) l;obtain⟨a,m,c,e1,e2,e3,e4,e5⟩:=qq R off len v1;rw[z,F0,pq]at e2;have C:((I.drop off).take len).length=len:=by
    have:j.length=I.length:=by rw[z];simp
    simp;omega
   simp only[aH];refine⟨β.az b,off*an,β.cap b-off,an,m,e2,fun _=>x,?_,?_,?_,none,.inl rfl,?_⟩
   ·rw[<-e3];exact pc n (post:=c.flatten++rest) (by rw[r,e1];simp)
   ·intro hf;simp at hf;rw[C,L hf.1];omega
   ·rw[C];omega
   ·rw[C]
 |ptr b path=>
  simp only[mN]at d
  split at d
  case h_2=>simp at d
  rename_i fz t g
  split at d
  case h_2=>simp at d
  rename_i s hs;simp at d;obtain⟨rfl,rfl⟩:=d;simp only[aD]at f;obtain⟨_,f⟩:=f;simp only[cG]at f;obtain⟨U,S,o,rfl,O,f⟩:=f;obtain⟨rfl,rfl⟩:=f ⟨_,g,rfl⟩;obtain⟨cs,T,n,l,r,A⟩:=i.dQ b _ g;have aY:cZ β H β (H.set b (.box true (.p t))):=nM g;obtain⟨aJ,q,x⟩:=w8 i g trivial (o':=.box true (.p t)) trivial (fun _ h=>h) (fun _ h=>by cases h) aY r.xU
   (fun aJ hi u=>⟨cs,T,n,bG.mono hi (fun _ _=>rfl) aY _ _ (by simp[aI]) l,u,fun _=>trivial,A.2⟩) (by simp[Obj.refs,aI])
  refine⟨aJ,q,?_⟩;have J:bc P w aJ t cs.toList:=by simp only[bG]at l;exact bc.mono q.cq (fun _ _=>rfl) _ _ l
  obtain⟨pre,xs,post,e1,e2,e3⟩:=Da J hs O;simp only[aH];refine⟨β.az b,S,xs,e3,x,?_,rfl⟩;rw[<-e2];exact pc n e1
 |map b=>
  simp only[mN]at d
  split at d
  case h_2=>simp at d
  rename_i fz j g;simp at d;obtain⟨rfl,rfl⟩:=d;simp only[aD]at f;obtain⟨_,f⟩:=f;simp only[cG]at f;have f:=f.1 ⟨_,g,rfl⟩;obtain⟨F,clock,n,l,r⟩:=i.dQ b _ g;have aY:cZ β H β (H.set b (.map true j)):=nM g;obtain⟨aJ,q,x⟩:=w8 i g trivial (o':=.map true j) trivial (fun _ h=>h) (fun _ h=>by cases h) aY r.xU
   (fun aJ hi u=>⟨F,clock,n,dB.mono hi (fun _ _=>rfl) _ _ l,u⟩) trivial
  refine⟨aJ,q,?_⟩;simp only[aH];exact⟨β.az b,F,clock,x,n,dB.mono q.cq (fun _ _=>rfl) _ _ l,f⟩
 |cM=>simp[mN]at d
 |func=>simp[mN]at d
 |st=>simp[mN]at d
 |aE=>simp[mN]at d
end
section
variable{P:da}{aq:dp->Bool}{n N:Nat}
theorem Gz{w:db}{β:Bd}{ai:Nat->Prop}:∀{e:List AV}{g:List PV}{H H1:ak}{ad:Nat->Prop}{vs:List cy},p0 H e=some (g,H1)->cK P w ad β H ai->
 bX P w ad β H e vs->bk (aQ H) e->∃aJ,cF P ai ad w β H aJ w β H1/\bY P w aJ g vs
 |[],g,H,H1,ad,vs,b,h,c,_=>by
  simp[p0]at b;obtain⟨rfl,rfl⟩:=b;simp only[bX]at c;exact⟨ad,cF.refl h,by simpa[bY]using c⟩
 |a::e,g,H,H1,ad,vs,b,h,c,f=>by
  simp only[p0]at b
  split at b
  case h_2=>simp at b
  rename_i v o j
  split at b
  case h_2=>simp at b
  rename_i r p k;simp at b;obtain⟨rfl,rfl⟩:=b;simp only[bX]at c;obtain⟨y,n,rfl,k1,k2⟩:=c;simp only[bk]at f;obtain⟨q,d,l⟩:=PN j h k1 f.1;obtain⟨i,q1,m⟩:=Gz k d.rel (bX.mono d.cq (fun _ _=>rfl) d.step _ _ f.2 k2) (bk.mono d.iS _ f.2);refine⟨i,d.trans q1,?_⟩;simp only[bY];exact⟨y,n,rfl,aH.mono q1.cq (fun _ _=>rfl) _ _ l,m⟩
def mZ(P:da)(n N:Nat)(fr:dx)(k:List Item)(cs:List dx)(c:Array Oper)(ai ad:Nat->Prop)(w:db)(β:Bd)(H:ak)(m:ec)(r:List Nat)(b:List dq)(K:St->Prop):Prop:=
 ∃s' aJ aR a w',K s'/\ea P m (lone (bJ fr a b (.inRegion c r::k)) cs w')/\dj P n ai aJ aR s' a w'/\fa N ai ad w β H ai aJ w' aR s'.heap
theorem ZO{d:Bool}{o:Oper}{K:St->Prop}{s:St}(h:mf P aq d o K s)(c:Call):o.op≠.defer c:=by
 intro hc;unfold mf at h;rw[hc]at h;simp[gO,hc]at h
variable{fr:dx}{k:List Item}{cs:List dx}{ops:Array Oper}{i:Nat}{r:List Nat}{ds:List dq}
theorem OR{d:Bool}{o:Oper}{f:dd}{E:Array dd}{ab:Array c9}{g:dp}{G F:List AV}{K:St->Prop}{s:St}{ai ad:Nat->Prop}{β:Bd}{t:Array cy}{w:db}
 (X:o.op=.call {callee:=.value f,args:=E,argTypes:=ab})
 (hf:(ev s.env f=.func g G F)\/(∃a b,ev s.env f=.p (.func g a b)/\G=a.map .p/\F=b.map .p))
 (h:mu P d g (G++E.toList.map (ev s.env)++F) s.heap (fun v H'=>K ⟨put o.dst v s.env,H'⟩))
 (m:dj P n ai ad β s t w)(H:ld n o=true)(B:ops[i]?=some o)(O:hb o (yielded ops t)=true):
 mZ P n N fr k cs ops ai ad w β s.heap (lone (bJ fr t ds (.inRegion ops (i::r)::k)) cs w) r ds K:=by
 have D:=sc m f;obtain⟨u,cv,ao,an,am,au,ar⟩:∃u cv:List cy,gS t f=.func (.func g) u.toArray cv.toArray/\bX P w ad β s.heap G u/\bX P w ad β s.heap F cv/\bk (aQ s.heap) G/\bk (aQ s.heap) F:=by
  rcases hf with hf|⟨a,b,hf,rfl,rfl⟩
  ·rw[hf]at D;simp only[aD,aI]at D;obtain⟨⟨u,cv,l,j,y⟩,ae,af⟩:=D;exact⟨u,cv,y,l,j,ae,af⟩
  ·rw[hf]at D;simp only[aD,aH]at D;obtain⟨⟨u,cv,l,j,y⟩,_⟩:=D;exact⟨u,cv,y,l9.2 l,l9.2 j,kU _ _,kU _ _⟩
 obtain⟨ah,aj⟩:=Aa m E.toList;have C:=uJ (uJ an ah) am;have R:=qp (qp au aj) ar;have q:(dg (gS t) o).run P w=(callFunc g (u++E.toList.map (gS t)++cv).toArray).run P w:=by
  simp only[dg,X,resolve,ao,fl,hl,hm,hj,invoke];congr 2;simp
 have M:∀c,o.op≠.defer c:=fun c hc=>by rw[X]at hc;cases hc
 have aa:∀(H1:ak)(A:Nat->Prop)(vs:List PV)(v:PV),cF P ai ad w β s.heap A w β H1->bY P w A vs (u++E.toList.map (gS t)++cv)->al P g vs v->
  K ⟨put o.dst (.p v) s.env,H1⟩->mZ P n N fr k cs ops ai ad w β s.heap (lone (bJ fr t ds (.inRegion ops (i::r)::k)) cs w) r ds K:=by
  intro H1 A vs v z Z J V;rcases J with⟨S,J⟩|J
  ·rw[S]at q;obtain⟨e,w',T,⟨Q,aJ,I,g1,g2,g3,g4,g5,ac,g6⟩,aY,W,L⟩:=J w A _ z.rel.cq z.rel.lT Z (bJ fr t ds (.inRegion ops (i::r)::k)::cs);subst I;have Y:=z.trans (z.rel.later g1 g2 g3 g4 g5 ac);refine⟨_,aJ,β,_,w',V,?_,m.put H Y (by simpa[aD]using g6) (by simp[aI]),Y.gA⟩;rw[<-rG B];exact(hr (zL B O M q)).trans (ht aY (.one (dz L)))
  ·obtain⟨Q,l,j⟩:=J w A _ Z;rw[l]at q;exact⟨_,A,β,_,w,V,.one (wY B O M q (.inl rfl)),m.put H z (by simpa[aD]using j) (by simp[aI]),z.gA⟩
 rcases h with⟨vs,v,l,j,y⟩|⟨_,⟨vs,H1,v,l,j,y⟩|⟨H',v,⟨S,l⟩,j⟩|⟨e,U,aq,j⟩|⟨aA,v,ag,ap,j⟩⟩
 ·exact aa s.heap ad vs v (cF.refl m.heap) (by rw[l]at C;exact l9.1 C) j y
 ·obtain⟨A,av,aw⟩:=Gz l m.heap C R;exact aa H1 A vs v av aw j y
 ·rw[S]at q;obtain⟨e,w',T,⟨Q,aR,aJ,I,g1,g2,g3⟩,aY,W,L⟩:=l w ad ai β _ m.heap C R (bJ fr t ds (.inRegion ops (i::r)::k)::cs);subst I;refine⟨_,aJ,aR,_,w',j,?_,m.put H g1 g2 g3,g1.gA⟩;rw[<-rG B];exact(hr (zL B O M q)).trans (ht aY (.one (dz L)))
 ·rw[U.1]at q;obtain⟨x,w',T,⟨Q,aR,aJ,I,g1,g2,g3⟩,aY,W,L⟩:=U.use aq m.heap C R (bJ fr t ds (.inRegion ops (i::r)::k)::cs);subst I;refine⟨_,aJ,aR,_,w',j,?_,m.put H g1 g2 g3,g1.gA⟩;rw[<-rG B];exact(hr (zL B O M q)).trans (ht aY (.one (dz L)))
 ·obtain⟨Q,l,y⟩:=ag s.heap w ad ai β _ m.heap C R ap;rw[l]at q;have z:=cF.refl m.heap;exact⟨_,ad,β,_,w,j,.one (wY B O M q (.inl rfl)),m.put H z (by simpa[aD]using y) (by simp[aI]),z.gA⟩
end
end Go.ae
namespace Go.ae
variable[Gl]
section
variable{P:da}{aq:dp->Bool}{n N:Nat}
variable{fr:dx}{k:List Item}{cs:List dx}{ops:Array Oper}{i:Nat}{r:List Nat}{ds:List dq}
theorem Z2{o:Oper}{f:dd}{a:Array dd}{p:Array c9}{b:Nat}{H':ak}{v:AV}{K:St->Prop}{s:St}{ai ad:Nat->Prop}{β:Bd}{t:Array cy}{w:db}
 (l:o.op=.call {callee:=.value f,args:=a,argTypes:=p})(hf:ev s.env f=.map b)(m:gJ P b s.heap (a.toList.map (ev s.env)) H' v)(x:K ⟨put o.dst v s.env,H'⟩)
 (d:dj P n ai ad β s t w)(A:ld n o=true)(j:ops[i]?=some o)(D:hb o (yielded ops t)=true):
 mZ P n N fr k cs ops ai ad w β s.heap (lone (bJ fr t ds (.inRegion ops (i::r)::k)) cs w) r ds K:=by
 have e:=(sc d f).1;rw[hf]at e;simp only[aD,cg,cG]at e;have B:=e.2.2 m.1;obtain⟨y,z⟩:=Aa d a.toList;have h:(dg (gS t) o).run P w=(gj (β.az b) (a.toList.map (gS t)).toArray).run P w:=by
  simp only[dg,l,resolve,B,fl,hl,hm,hj,invoke];congr 2;exact b0 s_
 have C:∀c,o.op≠.defer c:=fun c hc=>by rw[l]at hc;cases hc
 obtain⟨g,tmps,assign,body,q,u⟩:=m.2 w ad ai β _ d.heap y z;rw[q]at h;obtain⟨cv,w',aR,aJ,g1,g2,g3,g4⟩:=u (bJ fr t ds (.inRegion ops (i::r)::k)) cs;refine⟨_,aJ,aR,_,w',x,?_,d.put A g2 g3 g4,g2.gA⟩;rw[<-rG j];exact(hr (O2 j D C h)).trans g1
theorem Qh(A:o7 P aq){d:Bool}{o:Oper}{K:St->Prop}{s:St}{ai ad:Nat->Prop}{β:Bd}{t:Array cy}{w:db}
 (h:mf P aq d o K s)(a:dj P n ai ad β s t w)(c:ld n o=true)(j:ops[i]?=some o)(l:hb o (yielded ops t)=true):
 mZ P n N fr k cs ops ai ad w β s.heap (lone (bJ fr t ds (.inRegion ops (i::r)::k)) cs w) r ds K:=by
 have G:=ZO h;have B:gO P aq o (ev s.env) s.heap (fun e=>K (e.app o.dst s))->mZ P n N fr k cs ops ai ad w β s.heap (lone (bJ fr t ds (.inRegion ops (i::r)::k)) cs w) r ds K:=by
  intro h;obtain⟨e,m,hs,aA,aW⟩:=A o _ _ _ (fun v=>rfl) h;obtain⟨nx,cv,w',aR,aJ,C,D,z,E,F⟩:=hs.use a.heap (fun x _=>sc a x) aA (fun p H=>(aW p H).1);exact⟨_,aJ,aR,_,w',m,.one (wY j l G C D),a.put c z E F,z.gA⟩
 unfold mf at h
 split at h
 ·rename_i f args J q
  split at h
  ·rename_i g y u hf;exact OR q (.inr ⟨y,u,hf,rfl,rfl⟩) h a c j l
  ·rename_i g y u hf;exact OR q (.inl hf) h a c j l
  ·rename_i b hf;obtain⟨H',v,I,m⟩:=h;exact Z2 q hf I m a c j l
  ·exact h.elim
 ·exact B h
theorem mZ.mono{m:ec}{K a:St->Prop}{ai ad:Nat->Prop}{w:db}{β:Bd}{H:ak}(h:mZ P n N fr k cs ops ai ad w β H m r ds K)(hk:∀s,K s->a s):mZ P n N fr k cs ops ai ad w β H m r ds a:=by
 obtain⟨s',aJ,aR,d,w',b,c⟩:=h;exact⟨s',aJ,aR,d,w',hk _ b,c⟩
theorem CF{s:St}{ai ad:Nat->Prop}{β:Bd}{t:Array cy}{w:db}(e:dj P n ai ad β s t w)(l:∀o∈ops.toList,ld n o=true)(j:Nat):
 (∀b,guardOf ops j s.env=.p (.bool b)->yielded ops t j=some b)/\(guardOf ops j s.env=.p (.aE [])->yielded ops t j=none):=by
 unfold guardOf yielded;cases k:ops[j]? with
 |none=>simp
 |some f=>
  simp only[kw];cases g:f.dst with
  |none=>simp
  |some d=>
   simp only[kw];have h:d<t.size:=by
    have:=l f (by rw[bI];exact b2 k);unfold ld at this;rw[g]at this;rw[e.size];simpa using this
   have a:=e.env d;have i:t[d]?=some (t.getD d undef):=by simp[cc,h]
   rw[i];constructor
   ·intro b c;rw[c]at a;simp only[aD,aH]at a;rw[a]
   ·intro c;rw[c]at a;simp only[aD,aH,bY]at a;obtain⟨xs,rfl,a⟩:=a;rw[a]
theorem Po(f:o7 P aq){d:Bool}(x:∀o∈ops.toList,ld n o=true):∀(l:List Oper)(i:Nat){K:St->Prop}{s:St}{ai ad:Nat->Prop}{β:Bd}{t:Array cy}{w:db},
 ops.toList.drop i=l->je P aq d ops l K s->dj P n ai ad β s t w->
 mZ P n N fr k cs ops ai ad w β s.heap (lone (bJ fr t ds (.inRegion ops (h8 i l.length)::k)) cs w) [] ds K
 |[],i,K,s,ai,ad,β,t,w,v,h,a=>⟨s,ad,β,t,w,h,hv _ _,a,fa.refl _ _ _ _ _ _⟩
 |o::l,i,K,s,ai,ad,β,t,w,v,h,a=>by
  have e:ops[i]?=some o:=by
   have:(ops.toList.drop i)[0]?=some o:=by rw[v];rfl
   rw[List.getElem?_drop]at this;simpa using this
  have F:ops.toList.drop (i+1)=l:=by
   rw[<-jp,v];rfl
  have u:ld n o=true:=x o (by rw[bI];exact b2 e);have g:∀{ai ad w β H}{m:ec},mZ P n N fr k cs ops ai ad w β H m (h8 (i+1) l.length) ds (je P aq d ops l K)->mZ P n N fr k cs ops ai ad w β H m [] ds K:=by
   intro ai ad w β H m E;obtain⟨s',aJ,aR,L,w',A,B,C,D⟩:=E;obtain⟨s2,z,J,t2,I,g1,g2,g3,g4⟩:=Po f x l (i+1) F A C;exact⟨s2,z,J,t2,I,g1,B.trans g2,g3,D.trans g4⟩
  rw[h3,List.range'_succ]
  have skip:je P aq d ops l K ⟨put o.dst (.p (.aE [])) s.env,s.heap⟩->hb o (yielded ops t)=false->
   mZ P n N fr k cs ops ai ad w β s.heap (lone (bJ fr t ds (.inRegion ops (i::h8 (i+1) l.length)::k)) cs w) [] ds K:=by
   intro hk G;refine g ⟨_,ad,β,_,w,hk,.one (PA e G),a.put u (cF.refl a.heap) (by simp[aD,aH,bY,undef]) (by simp[aI]),fa.refl _ _ _ _ _ _⟩
  simp only[je]at h
  split at h
  ·rename_i c;exact g (Qh f h a u e (by simp[hb,c]))
  ·rename_i j M c;obtain⟨g1,g2⟩:=CF a x j
   split at h
   ·rename_i b q;have y:=g1 b q
    split at h
    ·rename_i r;exact g (Qh f h a u e (by simp[hb,c,y,r]))
    ·rename_i r;exact skip h (by simp[hb,c,y,r])
   ·rename_i q;exact skip h (by simp[hb,c,g2 q])
   ·exact h.elim
theorem aOJ{H:ak}{b v:Nat}(h:H[b]?=none\/H[b]?=some .hole):¬aQ H (b,v):=by
 rintro⟨o,a,c⟩;rcases h with h|h
 ·simp only at a;rw[h]at a;cases a
 ·simp only at a;rw[h]at a;cases a;exact c
theorem tO.step{s s':St}{β:Bd}(hf:tO s s'):cZ β s.heap β s'.heap:=by
 refine⟨?_,?_⟩
 ·rintro k b _ ⟨o,c,a⟩;rcases hf.heap b _ c with rfl|h|⟨_,k,z,rfl,_⟩|⟨v,v',h,rfl,_⟩
  ·cases a
  ·exact⟨⟨o,h,a⟩,rfl⟩
  ·cases a
  ·exact⟨⟨_,h,a⟩,rfl⟩
 ·intro b aF an k d hi c;rcases hf.heap b _ c with h|h|⟨hn,_⟩|⟨v,v',_,h,_⟩
  ·cases h
  ·exact⟨k,d,h,j3 _,Iff.rfl,fun _=>⟨rfl,rfl⟩⟩
  ·exact(aOJ hn hi).elim
  ·cases h
section aMi
variable{w:db}{ad:Nat->Prop}{β:Bd}{T:ak}
theorem Ty{b aF an off len:Nat}(h:aF=0/\off=0/\len=0/\∃k z,T[b]?=some (.arr k 0 z [])/\k.gr=true):cg P β T (.sl b aF an off len) (.slice none 0 0):=by
 obtain⟨rfl,rfl,rfl,k,z,c,d⟩:=h;refine⟨by simp[hw],fun f e a=>?_⟩;unfold jc at a;rw[c]at a;cases a;exact⟨s_,fun _=>rfl,fun h=>(h ⟨d,rfl⟩).elim⟩
mutual
theorem iv.cells:∀(v:PV)(x:AV)(cs:List cy),iv T v x->bc P w ad v cs->bG P w ad β T x cs
 | .aM,x,cs,h,hc=>by
  simp only[iv]at h;rcases h with rfl|h
  ·simpa only[bG]using hc
  ·cases x<;>simp only at h<;>try exact h.elim
   simp only[bc]at hc;simp only[bG];exact⟨_,hc,Ty h⟩
 | .st u fs,x,cs,h,hc=>by
  simp only[iv]at h;rcases h with rfl|h
  ·simpa only[bG]using hc
  ·cases x<;>simp only at h<;>try exact h.elim
   obtain⟨rfl,h⟩:=h;simp only[bc]at hc;obtain⟨l,a,d,e,f⟩:=hc;simp only[bG];exact⟨l,a,d,nE.cells l fs _ a h e,f⟩
 | .undef,x,cs,h,hc| .bool _,x,cs,h,hc| .int _ _,x,cs,h,hc| .str _,x,cs,h,hc| .gL,x,cs,h,hc| .cW _,x,cs,h,hc| .dD _ _,x,cs,h,hc| .seq _,x,cs,h,hc| .gB,x,cs,h,hc| .fA _,x,cs,h,hc| .func _ _ _,x,cs,h,hc| .iV,x,cs,h,hc| .iK,x,cs,h,hc| .aE _,x,cs,h,hc=>by
  simp only[iv]at h;subst h;simpa only[bG]using hc
theorem nE.cells:∀(l:List Nat)(fs:List PV)(b:List AV)(a:List (List cy)),nE T fs b->bA P w ad l fs a->b9 P w ad β T l b a
 |l,[],b,a,h,hc=>by
  simp only[nE]at h;subst h;cases l<;>simp_all [b9,bA]
 |l,v::vs,b,a,h,hc=>by
  cases b with
  |nil=>simp[nE]at h
  |cons g b=>
   simp only[nE]at h;cases l with
   |nil=>simp[bA]at hc
   |cons n l=>
    simp only[bA]at hc;obtain⟨c,cs,d,e,f,i⟩:=hc;simp only[b9];exact⟨c,cs,d,iv.cells v g c h.1 e,f,nE.cells l vs b cs h.2 i⟩
end
theorem iv.Jy(v:PV)(x:AV)(y:cy)(h:iv T v x)(hc:aH P w ad v y):aD P w ad β T x y:=by
 cases v
 case aM=>
  simp only[iv]at h;rcases h with rfl|h
  ·simpa only[aD]using hc
  ·cases x<;>simp only at h<;>try exact h.elim
   simp only[aH]at hc;subst hc;simp only[aD];exact Ty h
 case st u fs=>
  simp only[iv]at h;rcases h with rfl|h
  ·simpa only[aD]using hc
  ·cases x<;>simp only at h<;>try exact h.elim
   obtain⟨rfl,h⟩:=h;simp only[aH]at hc;obtain⟨l,a,b,c,d⟩:=hc;simp only[aD];exact⟨l,a,b,nE.cells l fs _ a h c,d⟩
 all_goals simp only[iv]at h;subst h;simpa only[aD]using hc
mutual
theorem Gh.cells:∀(v x:AV)(cs:List cy),Gh T v x->bG P w ad β T v cs->bG P w ad β T x cs
 | .p v,x,cs,h,hc=>by simp only[Gh]at h;simp only[bG]at hc;exact iv.cells v x cs h hc
 | .st u fs,x,cs,h,hc=>by
  simp only[Gh]at h;cases x<;>simp only at h<;>try exact h.elim
  obtain⟨rfl,h⟩:=h;simp only[bG]at hc⊢;obtain⟨l,a,d,e,f⟩:=hc;exact⟨l,a,d,qd.cells l fs _ a h e,f⟩
 | .ptr _ _,x,cs,h,hc| .cM _ _ _ _ _,x,cs,h,hc| .sl _ _ _ _ _,x,cs,h,hc| .map _,x,cs,h,hc| .func _ _ _,x,cs,h,hc| .aE _,x,cs,h,hc=>by simp only[Gh]at h;subst h;exact hc
theorem qd.cells:∀(l:List Nat)(fs b:List AV)(a:List (List cy)),qd T fs b->b9 P w ad β T l fs a->b9 P w ad β T l b a
 |l,[],b,a,h,hc=>by simp only[qd]at h;subst h;exact hc
 |l,v::vs,b,a,h,hc=>by
  cases b with
  |nil=>simp[qd]at h
  |cons g b=>
   simp only[qd]at h;cases l with
   |nil=>simp[b9]at hc
   |cons n l=>
    simp only[b9]at hc⊢;obtain⟨c,cs,d,e,f,i⟩:=hc;exact⟨c,cs,d,Gh.cells v g c h.1 e,f,qd.cells l vs b cs h.2 i⟩
end
theorem Gh.Jy(v x:AV)(y:cy)(h:Gh T v x)(hc:aD P w ad β T v y):aD P w ad β T x y:=by
 cases v
 case p v=>simp only[Gh]at h;simp only[aD]at hc;exact iv.Jy v x y h hc
 case st u fs=>
  simp only[Gh]at h;cases x<;>simp only at h<;>try exact h.elim
  obtain⟨rfl,h⟩:=h;simp only[aD]at hc⊢;obtain⟨l,a,b,c,d⟩:=hc;exact⟨l,a,b,qd.cells l fs _ a h c,d⟩
 all_goals simp only[Gh]at h;subst h;exact hc
theorem iv.aP{v:PV}{x:AV}(h:iv T v x):aa x=ae.aP v:=by
 cases v
 case aM=>
  simp only[iv]at h;rcases h with rfl|h
  ·rfl
  ·cases x<;>simp only at h<;>first|exact h.elim|rfl
 case st u fs=>
  simp only[iv]at h;rcases h with rfl|h
  ·rfl
  ·cases x<;>simp only at h<;>try exact h.elim
   simp[aa,ae.aP,h.1]
 all_goals simp only[iv]at h;subst h;rfl
theorem Gh.aP{v x:AV}(h:Gh T v x):aa x=aa v:=by
 cases v
 case p v=>simp only[Gh]at h;exact h.aP
 case st u fs=>
  simp only[Gh]at h;cases x<;>simp only at h<;>try exact h.elim
  simp[aa,h.1]
 all_goals simp only[Gh]at h;subst h;rfl
end aMi
theorem dh.gA{s s':St}{β:Bd}{ai ad:Nat->Prop}{w:db}(hf:dh N s s'):fa N ai ad w β s.heap ai ad w β s'.heap:=by
 rcases hf with rfl|hf
 ·exact fa.refl _ _ _ _ _ _
 ·exact⟨fun _ h=>h,fun _ h=>h,fun _ h=>.inl h,Ext.refl _ _ _,hf.1.step.n,fun x hn⟨o,d,c⟩=>⟨o,by rw[hf.2 _ hn];exact d,c⟩,fun b hn⟨L,a⟩=>⟨L,by rw[hf.2 _ hn];exact a⟩⟩
theorem tO.rel{s s':St}{ai ad:Nat->Prop}{β:Bd}{t:Array cy}{w:db}(hf:tO s s')(h:dj P n ai ad β s t w):dj P n ai ad β s' t w:=by
 have aY:cZ β s.heap β s'.heap:=hf.step;refine⟨⟨?_,?_,hf.hrefs,h.heap.cq,h.heap.fN,h.heap.lT⟩,fun x=>?_,hf.iR,h.size⟩
 ·intro b o u;rcases hf.heap b o u with rfl|e|⟨_,k,z,rfl,hk⟩|⟨v,v',e,rfl,j⟩
  ·trivial
  rotate_left
  ·exact .inl ⟨hk,rfl⟩
  ·have A:=h.heap.dQ b _ e;have B:=h.heap.refs b _ e;obtain⟨cs,T,c,d,p,E,q⟩:=A;exact⟨cs,T,c,Gh.cells _ _ _ j (bG.mono (fun _ x=>x) (fun _ _=>rfl) aY _ _ B d),p,(fun h=>by cases h),by rw[j.aP];exact q⟩
  ·exact(h.heap.dQ b o e).move (fun _ x=>x) (fun _ _=>rfl) aY (h.heap.refs b o e) (fun _=>rfl) fun _ _ hf=>⟨rfl,hf⟩
 ·intro x y F G c d g i r a;have m:∀{z:Nat}{o:Obj},s'.heap[z]?=some o->o.live->∃o',s.heap[z]?=some o'/\o'.live:=by
   intro z o hz f;rcases hf.heap z o hz with rfl|hz|⟨_,k,_,rfl,hk⟩|⟨v,v',hz,_,_⟩
   ·exact f.elim
   ·exact⟨o,hz,f⟩
   ·exact(f ⟨hk,rfl⟩).elim
   ·exact⟨_,hz,trivial⟩
  obtain⟨C,c,g⟩:=m c g;obtain⟨D,d,i⟩:=m d i;exact h.heap.inj x y C D c d g i r a
 ·have l:=aD.mono (fun _ x=>x) (fun _ _=>rfl) aY _ _ (h.iR x) (h.env x);rcases hf.env x with a|a|a
  ·rw[a];exact l
  ·rw[a];simp[aD,aH]
  ·exact Gh.Jy _ _ _ a l
theorem dh.rel{s s':St}{ai ad:Nat->Prop}{β:Bd}{t:Array cy}{w:db}(hf:dh N s s')(h:dj P n ai ad β s t w):dj P n ai ad β s' t w:=by
 rcases hf with rfl|hf
 ·exact h
 ·exact hf.1.rel h
def qM(P:da)(fr:dx)(k:List Item)(cs:List dx)(m:ec)(t:Array cy)(ds:List dq)(w:db):bL->Prop
 | .normal=>ea P m (lone (bJ fr t ds k) cs w)
 | .exit id=>∃a,exitTo id a=exitTo id k/\ea P m (lone (bJ fr t ds (.code (.exit id)::a)) cs w)
 | .ret=>∃a,ea P m (lone (bJ fr t ds (.code .ret::a)) cs w)
theorem qM.of_steps{m f:ec}{t:Array cy}{ds:List dq}{w:db}{e:bL}(h:ea P m f)(c:qM P fr k cs f t ds w e):qM P fr k cs m t ds w e:=by
 cases e with
 |normal=>exact h.trans c
 |exit id=>obtain⟨d,a,b⟩:=c;exact⟨d,a,h.trans b⟩
 |ret=>obtain⟨d,b⟩:=c;exact⟨d,h.trans b⟩
def mark(r:Nat):dq:={target:=.collected r,args:=#[]}
def Marks(fr:dx)(ai:Nat->Prop)(w:db)(lA aJ:Nat->Prop)(w':db)(b c:List dq):Prop:=
 ∃a:List Nat,c=a.map mark++b/\a.Nodup/\(∀r∈a,w.heap.size<=r/\lA r/\¬aJ r/\w'.heap[r]?=some (.deferred (some [])))/\(∀k,lA k->ai k\/k∈a)/\(fr.roundOf.isSome=true->a=[])
theorem Marks.refl(fr:dx)(ai aJ:Nat->Prop)(w w':db)(ds:List dq):Marks fr ai w ai aJ w' ds ds:=⟨[],rfl,List.nodup_nil,s_,fun _ h=>.inl h,fun _=>rfl⟩
theorem Marks.trans{fr:dx}{N:Nat}{ai ad d e g f:Nat->Prop}{w w1 l:db}{β p B:Bd}{H H1 q:ak}{ds m n:List dq}(h:Marks fr ai w d e w1 ds m)(i:fa N ai ad w β H d e w1 p H1)
 (s:Marks fr d w1 g f l m n)(j:fa N d e w1 p H1 g f l B q):Marks fr ai w g f l ds n:=by
 obtain⟨rs,rfl,t,o,u,v⟩:=h;obtain⟨A,rfl,g2,g3,g4,g5⟩:=s;refine⟨A++rs,s_,?_,?_,?_,fun hx=>by simp[v hx,g5 hx]⟩
 ·rw[List.nodup_append];refine⟨g2,t,fun a i b y x=>?_⟩;subst x;have C:=(g3 a i).1;have D:=(bl.1 (o a y).2.2.2).1;omega
 ·intro r c;rcases hZ.1 c with c|c
  ·obtain⟨k1,k2⟩:=g3 r c;exact⟨j8 i.ext.size k1,k2⟩
  ·obtain⟨k1,k2,k3,k4⟩:=o r c;exact⟨k1,j.fN _ k2,fun hx=>(j.fresh _ hx).elim k3 (fun z=>z k2),(j.ext.same _ (.inl k2)).trans k4⟩
 ·intro k hk;rcases g4 k hk with hk|hk
  ·rcases u k hk with hk|hk
   ·exact .inl hk
   ·exact .inr (by simp[hk])
  ·exact .inr (by simp[hk])
def vp(N:Nat)(fr:dx)(β:Bd)(H:ak):Prop:=∀l,fr.roundOf=some l->∃b,b<N/\jE H b/\β.az b=l
theorem vp.gA{fr:dx}{β aR:Bd}{H H':ak}{ai ad lA aJ:Nat->Prop}{w w':db}(h:vp N fr β H)(e:fa N ai ad w β H lA aJ w' aR H'):vp N fr aR H':=by
 intro l i;obtain⟨b,a,c,f⟩:=h l i;have d:=e.loop b a c;obtain⟨L,g⟩:=c;exact⟨b,a,d,((e.step.loop b a ⟨_,g,trivial⟩ d).2).trans f⟩
def uS(P:da)(n N:Nat)(fr:dx)(k:List Item)(cs:List dx)(ai ad:Nat->Prop)(w:db)(β:Bd)(H:ak)(m:ec)(c:List dq)(Q:bL->St->Prop):Prop:=
 ∃e s' lA aJ aR b w' a,Q e s'/\qM P fr k cs m b a w' e/\dj P n lA aJ aR s' b w'/\fa N ai ad w β H lA aJ w' aR s'.heap/\Marks fr ai w lA aJ w' c a
theorem uS.of{k:List Item}{ai ad:Nat->Prop}{w:db}{β:Bd}{H:ak}{m:ec}{ds:List dq}{Q:bL->St->Prop}{e:bL}{s':St}{aJ:Nat->Prop}{aR:Bd}{a:Array cy}{w':db}(hq:Q e s')(c:qM P fr k cs m a ds w' e)
 (d:dj P n ai aJ aR s' a w')(b:fa N ai ad w β H ai aJ w' aR s'.heap):uS P n N fr k cs ai ad w β H m ds Q:=⟨e,s',ai,aJ,aR,a,w',ds,hq,c,d,b,Marks.refl _ _ _ _ _ _⟩
theorem uS.next{k:List Item}{ai ad b a:Nat->Prop}{w w1:db}{β g:Bd}{H H1:ak}{m f:ec}{c d:List dq}{Q:bL->St->Prop}(e:fa N ai ad w β H b a w1 g H1)(o:Marks fr ai w b a w1 c d)(aY:ea P m f)
 (h:uS P n N fr k cs b a w1 g H1 f d Q):uS P n N fr k cs ai ad w β H m c Q:=by
 obtain⟨e2,s2,j,i,q,t2,p,l,g1,g2,g3,g4,g5⟩:=h;exact⟨e2,s2,j,i,q,t2,p,l,g1,.of_steps aY g2,g3,e.trans g4,o.trans e g5 g4⟩
def codeOk(fit:Nat->Array Oper->Bool)(n:Nat):Code->Bool
 | .region _ ops draw=>ops.toList.all (ld n)&&(!draw||fit n ops)
 | .seq a b=>codeOk fit n a&&codeOk fit n b
 | .cond _ a b=>codeOk fit n a&&codeOk fit n b
 | .block _ b| .scope b| .loop b=>codeOk fit n b
 | .rangeFunc _ _ a b=>codeOk fit n a&&codeOk fit n b
 |_=>true
def xn(P:da)(aq:dp->Bool)(fit:Nat->Array Oper->Bool):Prop:=
 ∀(n N:Nat)(a:Array Oper)(fr:dx)(k:List Item)(cs:List dx)(b:List dq)(c:Nat)(K:St->Prop)(s:St)(ai ad:Nat->Prop)(β:Bd)(t:Array cy)(w:db),
  fit n a=true->(∀o∈a.toList,ld n o=true)->iG P aq a a.toList 0 [] K s->dj P n ai ad β s t w->
  mZ P n N fr k cs a ai ad w β s.heap (lone (bJ fr t b (.inRegion a (hd (P.follows .mixedOrders) a c)::k)) cs w) [] b K
theorem dj.draw{s:St}{ai ad:Nat->Prop}{β:Bd}{t:Array cy}{w w':db}(a:w'.heap=w.heap)(h:dj P n ai ad β s t w):dj P n ai ad β s t w':=
 ⟨h.heap.CP a,fun x=>aD.mono (fun _ x=>x) (fun _ _=>by rw[a]) (cZ.refl _ _) _ _ (h.iR x) (h.env x),h.iR,h.size⟩
section rf
variable{w w':db}{ad ai:Nat->Prop}{β:Bd}{H:ak}
theorem cK.Qg(h:cK P w ad β H ai){x:Nat}(hx:x<w.heap.size)(d:∀(b:Nat)(o:Obj),H[b]?=some o->o.live->β.az b≠x):cK P w ad β H (fun k=>ai k\/k=x):=by
 refine⟨fun b o c=>?_,h.inj,h.refs,h.cq,fun k hk=>hk.elim (h.fN k) (fun e=>e▸hx),h.lT⟩;refine(h.dQ b o c).move (fun _ x=>x) (fun _ _=>rfl) (cZ.refl _ _) (h.refs b o c) (fun _=>rfl) fun fz f a=>⟨rfl,?_⟩
 unfold dV at a⊢;cases fz with
 |true=>exact a
 |false=>exact⟨a.1,fun g=>g.elim a.2 (d b o c f)⟩
theorem cK.shut(h:cK P w ad β H ai){Prot0:Nat->Prop}(f:∀k,Prot0 k->ai k){R:Nat->Prop}(d:∀x,R x->ai x/\¬ad x)(g:w'.heap.size=w.heap.size)(hs:∀k,¬R k->w'.heap[k]?=w.heap[k]?):cK P w' ad β H Prot0:=by
 have same:∀k,ad k->w'.heap[k]?=w.heap[k]?:=fun k hk=>hs k (fun c=>(d k c).2 hk);refine⟨fun b o e=>?_,h.inj,h.refs,fun k hk=>g▸h.cq k hk,fun k hk=>g▸h.fN k (f k hk),h.lT.mono (fun _ x=>x) same⟩;refine(h.dQ b o e).move (fun _ x=>x) same (cZ.refl _ _) (h.refs b o e) (fun _=>rfl) fun fz _ a=>?_;unfold dV at a⊢;cases fz with
 |true=>exact⟨hs _ fun c=>(d _ c).2 a,a⟩
 |false=>exact⟨hs _ fun c=>a.2 (d _ c).1,a.1,fun i=>a.2 (f _ i)⟩
theorem Qu(H:ak)(o:Obj):(H++hK 1 Obj.hole).set H.length o=H++[o]:=by
 rw[ix _ _ (j3 _)];simp
theorem Q2(a:cK P w ad β H ai){L:eK}{tmps:Array cy}{defers fn:Nat}(hn:tmps.size=L.n)(j:∀x,aD P w ad β H (aV L.env x) (tmps.getD x undef))(c:∀x,aI (aQ H) (aV L.env x)):
 cF P ai ad w β H ad (w.alloc (.loop {state:=L.st,pending:=L.pending,fn,tmps,params:=L.params.toArray,assign:=L.assign,body:=L.body,defers})) (β.at H.length w.heap.size 0) (H++[.loop L]):=by
 have d:cF P ai ad w β H ad w β (H++hK 1 .hole):=⟨fun _ x=>x,fun _ x=>.inl x,Ext.refl _ _ _,uI _ _ _,a.tS _,rS _ _,fun b⟨L,e⟩=>⟨L,by rw[nL,if_pos (hJ.1 e).1];exact e⟩⟩
 have f:(H++hK 1 Obj.hole)[H.length]?=some .hole:=by rw[nL];simp
 have aY:=(uI β H 1)
 have i:=CW (β:=β) f (.loop L) w.heap.size 0;have hrefs:∀x,aI (aQ ((H++hK 1 Obj.hole).set H.length (.loop L))) (aV L.env x):=by
  intro x;rw[Qu];exact aI.mono (fun y l=>PX l) _ (c x)
 have g:=xp (cap:=0) d.rel f (ob:=.loop {state:=L.st,pending:=L.pending,fn,tmps,params:=L.params.toArray,assign:=L.assign,body:=L.body,defers}) (o':=.loop L)
  ⟨tmps,defers,fn,by simp[Bd.at],hn,fun x=>aD.mono (fun _ x=>x) (fun k hk=>zR w _ (a.cq k hk)) i _ _ (aI.mono (rS _ _) _ (c x)) (aD.mono (fun _ x=>x) (fun _ _=>rfl) aY _ _ (c x) (j x)),?_⟩ hrefs
 ·rw[Qu]at g;exact d.trans g
 ·unfold dV;simp only[ck,if_false,Bd.at,if_true];exact⟨fun hi=>by have:=a.cq _ hi;omega,fun h=>by have:=a.fN _ h;omega⟩
theorem He(d:cK P w ad β H ai){b:Nat}{L:eK}(a:H[b]?=some (.loop L))(st:LoopState)(f:Option Code):
 ∃rec:Loop,w.heap[β.az b]?=some (.loop rec)/\rec.state=L.st/\rec.pending=L.pending/\rec.params=L.params.toArray/\rec.assign=L.assign/\rec.body=L.body/\rec.tmps.size=L.n/\(∀x,aD P w ad β H (aV L.env x) (rec.tmps.getD x undef))/\
  cF P ai ad w β H ad (w.putObj (β.az b) (.loop {rec with state:=st,pending:=f})) β (H.set b (.loop {L with st:=st,pending:=f})):=by
 obtain⟨tmps,defers,fn,g,i,j,c⟩:=d.dQ b _ a;refine⟨_,g,rfl,rfl,rfl,rfl,rfl,i,j,?_⟩;have m:=(bl.1 g).1;have l:=(hJ.1 a).1;unfold dV at c;simp only[ck,if_false]at c;have aY:cZ β H β (H.set b (.loop {L with st:=st,pending:=f})):=by
  exact nM a
 have aA:∀x,aQ H x->aQ (H.set b (Obj.loop {L with st:=st,pending:=f})) x:=rP a (fun _ _=>trivial);have same:∀k,ad k->(w.putObj (β.az b) (.loop {state:=st,pending:=f,fn,tmps,params:=L.params.toArray,assign:=L.assign,body:=L.body,defers})).heap[k]?=w.heap[k]?:=fun k hk=>hC (fun e=>c.1 (e▸hk));refine cF.set d l (fun _ _=>⟨rfl,rfl⟩) (fun _ x=>x) (fun _ x=>.inl x) (fun k hk=>by simpa using d.cq k hk) s_
  (fun k hk _=>hC (hk.resolve_right (fun h=>h trivial))) (fun _=>.inr ⟨rfl,⟨_,a,trivial⟩,.inr c.1,c.2⟩) aY
  ⟨tmps,defers,fn,World.putObj_heap_same m,i,fun x=>aD.mono (fun _ x=>x) same aY _ _ (d.refs b _ a x) (j x),?_⟩ (fun x=>aI.mono aA _ (d.refs b _ a x)) (fun _ _ _ _=>trivial) (fun _ _=>⟨_,rfl⟩)
 unfold dV;simpa using c
end rf
theorem aqV{s:St}{ai ad:Nat->Prop}{β:Bd}{t:Array cy}{w:db}(c:dj P n ai ad β s t w)(E:vp N fr β s.heap)(e:Array Tmp)(a b:Code)(m:List dq){f:Env}(g:∀x,aV f x=aV s.env x):
 ∃l mk w1 j i,(Instr.enterLoop fr.fn t e a b fr.roundOf).run P w=.ok (l,mk) w1/\cK P w1 ad i (s.heap++[.loop ⟨.ready,none,n,e.toList,a,b,f⟩]) j/\i.az s.heap.length=l/\
  fa N ai ad w β s.heap j ad w1 i (s.heap++[.loop ⟨.ready,none,n,e.toList,a,b,f⟩])/\Marks fr ai w j ad w1 m (mk++m)/\
  cZ β s.heap i (s.heap++[.loop ⟨.ready,none,n,e.toList,a,b,f⟩]):=by
 cases u:fr.roundOf with
 |none=>
  have p:cF P ai ad w β s.heap ad (w.alloc (.deferred (some []))) β s.heap:=c.heap.later (fun _ x=>x) (fun _ x=>.inl x) (fun k hk=>by have:=c.heap.cq k hk;rw[hD];omega) (by rw[hD];omega) (fun k hk=>zR w _ hk);have C:=p.rel.Qg (x:=w.heap.size) (by rw[hD];omega) (fun b o G F g=>by have:=c.heap.rZ G F;omega);have d:=Q2 (L:=⟨.ready,none,n,e.toList,a,b,f⟩) (tmps:=t) (defers:=w.heap.size) (fn:=fr.fn) C c.size (fun x=>by rw[g];exact aD.mono (fun _ x=>x) (fun k hk=>zR w _ (c.heap.cq k hk)) (cZ.refl _ _) _ _ (c.iR x) (c.env x)) (fun x=>by rw[g];exact c.iR x);have B:fa N ai ad w β s.heap (fun k=>ai k\/k=w.heap.size) ad (w.alloc (.deferred (some []))) β s.heap:=⟨fun _ h=>.inl h,fun _ h=>h,fun _ h=>.inl h,p.ext,(cZ.refl _ _).n,fun _ _ h=>h,fun _ _ h=>h⟩
  refine⟨_,_,_,_,_,run_enterLoop_outer fr.fn t e a b,d.rel,?_,B.trans d.gA,?_,d.step⟩
  ·simp[Bd.at,hD]
  ·refine⟨[w.heap.size],rfl,s_,?_,fun k hk=>hk.imp id (fun h=>by simp[h]),by simp[u]⟩;intro r q;simp only[i2]at q;subst q;refine⟨j3 _,.inr rfl,fun hi=>by have:=c.heap.cq _ hi;omega,?_⟩;exact(d.ext.same _ (.inl (.inr rfl))).trans (World.alloc_heap_new w _)
 |some H=>
  obtain⟨v,K,z,A⟩:=E H u;obtain⟨I,D⟩:=z;obtain⟨M,y,J,g1,_⟩:=c.heap.dQ v _ D;rw[A]at g1;have d:=Q2 (L:=⟨.ready,none,n,e.toList,a,b,f⟩) (tmps:=t) (defers:=y) (fn:=fr.fn) c.heap c.size (fun x=>by rw[g];exact c.env x) (fun x=>by rw[g];exact c.iR x);exact⟨_,_,_,_,_,run_enterLoop_inner g1 fr.fn t e a b,d.rel,by simp[Bd.at],d.gA,Marks.refl _ _ _ _ _ _,d.step⟩
theorem qu(J:o7 P aq){fit:Nat->Array Oper->Bool}(H:xn P aq fit):∀(c:Code)(k:List Item){Q:bL->St->Prop}{s:St}{ai ad:Nat->Prop}{β:Bd}{t:Array cy}{w:db}{ds:List dq},
 codeOk fit n c=true->cQ P aq (n,N) c Q s->dj P n ai ad β s t w->vp N fr β s.heap->uS P n N fr k cs ai ad w β s.heap (lone (bJ fr t ds (.code c::k)) cs w) ds Q
 | .skip,k,Q,s,ai,ad,β,t,w,ds,_,h,i,_=>.of h (.one aQt:qM P fr k cs _ t ds w .normal) i (fa.refl _ _ _ _ _ _)
 | .label l,k,Q,s,ai,ad,β,t,w,ds,_,h,i,_=>.of h (.one au1:qM P fr k cs _ t ds w .normal) i (fa.refl _ _ _ _ _ _)
 | .exit id,k,Q,s,ai,ad,β,t,w,ds,_,h,i,_=>.of h (⟨k,rfl,hv _ _⟩:qM P fr k cs _ t ds w (.exit id)) i (fa.refl _ _ _ _ _ _)
 | .ret,k,Q,s,ai,ad,β,t,w,ds,_,h,i,_=>.of h (⟨k,hv _ _⟩:qM P fr k cs _ t ds w .ret) i (fa.refl _ _ _ _ _ _)
 | .region id ops draw,k,Q,s,ai,ad,β,t,w,ds,r,h,i,_=>by
  simp only[codeOk,cx,i5]at r;simp only[cQ]at h;cases draw with
  |false=>
   simp only[ck,if_false]at h;obtain⟨s',aJ,aR,av,w',j,q,p,d⟩:=Po (fr:=fr) (k:=k) (cs:=cs) (ds:=ds) (N:=N) J r.1 ops.toList 0 s_ h i;refine .of (e:=.normal) j ?_ p d;have e:j2 ops.size=h8 0 ops.toList.length:=by rw[List.range_eq_range'];simp
   exact(hr arS).trans ((by rw[e];exact q:ea P _ _).trans (.one Oc))
  |true=>
   simp only[if_true]at h;have aZ:dj P n ai ad β s t {w with drawn:=w.drawn+1}:=dj.draw (w:=w) (w':={w with drawn:=w.drawn+1}) rfl i;obtain⟨s',aJ,aR,av,w',j,q,p,d⟩:=H n N ops fr k cs ds (w.tape w.drawn (.order fr.fn id)) _ s ai ad β t _ (by simpa using r.2) r.1 h aZ;exact .of (e:=.normal) j ((hr aQp).trans (q.trans (.one Oc)):qM P fr k cs _ av ds w' .normal) p ⟨d.fN,d.cq,d.fresh,⟨d.ext.size,d.ext.same,d.ext.io⟩,d.step,d.iS,d.loop⟩
 | .seq a b,k,Q,s,ai,ad,β,t,w,ds,r,h,i,C=>by
  simp only[codeOk,cx]at r;simp only[cQ]at h;obtain⟨e,s1,o,B,z,t1,w1,D,j,q,p,d,A⟩:=qu J H a (.code b::k) r.1 h i C;cases e with
  |normal=>exact .next d A ((hr HX).trans q) (qu J H b k r.2 j p (C.gA d))
  |exit id=>
   obtain⟨E,K,a2⟩:=q;exact⟨.exit id,s1,o,B,z,t1,w1,D,j,⟨E,K.trans (by simp[exitTo]),(hr HX).trans a2⟩,p,d,A⟩
  |ret=>
   obtain⟨E,a2⟩:=q;exact⟨.ret,s1,o,B,z,t1,w1,D,j,⟨E,(hr HX).trans a2⟩,p,d,A⟩
 | .cond c a b,k,Q,s,ai,ad,β,t,w,ds,r,h,i,C=>by
  simp only[codeOk,cx]at r;simp only[cQ]at h
  split at h
  ·rename_i aw aC;have al:=(sc i c).1;rw[aC]at al;simp only[aD,aH]at al;have aY:=aQo (P:=P) (fr:=fr) (ds:=ds) (k:=k) (cs:=cs) (w:=w) (x:=a) (y:=b) al;cases aw with
   |true=>exact .next (fa.refl N ai ad w β s.heap) (Marks.refl _ _ _ _ _ _) (.one (by simpa using aY)) (qu J H a k r.1 (by simpa using h) i C)
   |false=>exact .next (fa.refl N ai ad w β s.heap) (Marks.refl _ _ _ _ _ _) (.one (by simpa using aY)) (qu J H b k r.2 (by simpa using h) i C)
  ·exact h.elim
 | .block id b,k,Q,s,ai,ad,β,t,w,ds,r,h,i,C=>by
  simp only[codeOk]at r;simp only[cQ]at h;obtain⟨e,s1,o,B,z,t1,w1,D,j,q,p,d,A⟩:=qu J H b (.inBlock id::k) r h i C;cases e with
  |normal=>exact⟨.normal,s1,o,B,z,t1,w1,D,j,(hr C3).trans (q.trans (.one aqq)),p,d,A⟩
  |exit ac=>
   obtain⟨E,K,a2⟩:=q;dsimp only at j
   split at j
   ·rename_i hid;subst hid;refine⟨.normal,s1,o,B,z,t1,w1,D,j,(hr C3).trans (a2.trans (.one (aQq ?_))),p,d,A⟩;rw[K];simp[exitTo]
   ·rename_i hid;exact⟨.exit ac,s1,o,B,z,t1,w1,D,j,⟨E,K.trans (by simp[exitTo,ko hid]),(hr C3).trans a2⟩,p,d,A⟩
  |ret=>
   obtain⟨E,a2⟩:=q;exact⟨.ret,s1,o,B,z,t1,w1,D,j,⟨E,(hr C3).trans a2⟩,p,d,A⟩
 | .scope b,k,Q,s,ai,ad,β,t,w,ds,r,h,i,C=>by
  simp only[codeOk]at r;simp only[cQ]at h;obtain⟨e,s1,o,B,z,t1,w1,D,j,q,p,d,A⟩:=qu J H b (.inScope b::k) r h i C;cases e with
  |normal=>exact⟨.normal,s1,o,B,z,t1,w1,D,j,(hr GY).trans (q.trans (.one aqp)),p,d,A⟩
  |exit ac=>
   obtain⟨E,K,a2⟩:=q;exact⟨.exit ac,s1,o,B,z,t1,w1,D,j,⟨E,K.trans (by simp[exitTo]),(hr GY).trans a2⟩,p,d,A⟩
  |ret=>
   obtain⟨E,a2⟩:=q;exact⟨.ret,s1,o,B,z,t1,w1,D,j,⟨E,(hr GY).trans a2⟩,p,d,A⟩
 | .loop b,k,Q,s,ai,ad,β,t,w,ds,r,h,i,C=>by
  simp only[codeOk]at r;simp only[cQ]at h;obtain⟨I,⟨m0,t0,hf,hI⟩,a1⟩:=h
  have loop:∀(m:Nat)(u:St)(ai ad:Nat->Prop)(β:Bd)(t:Array cy)(w:db)(ds:List dq),I m u->dj P n ai ad β u t w->vp N fr β u.heap->
   uS P n N fr k cs ai ad w β u.heap (lone (bJ fr t ds (.code b::.inLoop b::k)) cs w) ds Q:=by
   intro m
   induction m using Nat.strongRecOn with
   |_ m a5=>
    intro u ai ad β t w ds hI i C;obtain⟨e,s1,o,B,z,t1,w1,D,j,q,p,d,A⟩:=qu J H b (.inLoop b::k) r (a1 m u hI) i C;cases e with
    |normal=>
     obtain⟨a6,u',aW,ao,ax⟩:=j;have ab:=ao.gA (β:=z) (ai:=o) (ad:=B) (w:=w1);exact .next (d.trans ab) A (ht q (.one arT)) (a5 a6 aW u' o B z t1 w1 D ax (ao.rel p) ((C.gA d).gA ab))
    |exit ac=>
     obtain⟨E,K,a2⟩:=q;exact⟨.exit ac,s1,o,B,z,t1,w1,D,j,⟨E,K.trans (by simp[exitTo]),a2⟩,p,d,A⟩
    |ret=>
     obtain⟨E,a2⟩:=q;exact⟨.ret,s1,o,B,z,t1,w1,D,j,⟨E,a2⟩,p,d,A⟩
  have ab:=hf.gA (β:=β) (ai:=ai) (ad:=ad) (w:=w);exact .next ab (Marks.refl _ _ _ _ _ _) (.one aQr) (loop m0 t0 ai ad β t w ds hI (hf.rel i) (C.gA ab))
 | .rangeFunc f F a b,k,Q,s,ai,ad,β,t,w,ds,r,h,i,C=>by
  simp only[cQ]at h;obtain⟨bb,M,aP,h⟩:=h;have Y:=sc i f
  obtain⟨g,U,T,G,cv,aT,aS,aG,ar,ap,aa,v,aU,af⟩:∃g U T,∃G cv:List cy,gS t f= .func (.func g) G.toArray cv.toArray/\bX P w ad β s.heap U G/\bX P w ad β s.heap T cv/\bk (aQ s.heap) U/\bk (aQ s.heap) T/\
   ∃aa v,c8 P g (s.heap++[.loop ⟨.ready,none,n,F.toList,a,b,M⟩]) (U++[.map s.heap.length]++T) aa v/\jw s.heap.length s.env Q aa:=by
   unfold lJ at h
   split at h
   ·rename_i g U T hf;rw[hf]at Y;simp only[aD,aH]at Y;obtain⟨⟨G,cv,j,q,p⟩,_⟩:=Y;exact⟨g,_,_,G,cv,p,l9.2 j,l9.2 q,kU _ _,kU _ _,h⟩
   ·rename_i g U T hf;rw[hf]at Y;simp only[aD,aI]at Y;obtain⟨⟨G,cv,j,q,p⟩,d,A⟩:=Y;exact⟨g,U,T,G,cv,p,j,q,d,A,h⟩
   ·exact h.elim
  obtain⟨l,mk,w1,o,z,e1,e2,e3,e4,e5,e6⟩:=aqV (fr:=fr) i C F a b ds aP;obtain⟨aN,aK⟩:=aU;have aA:∀x,aQ s.heap x->aQ (s.heap++[.loop ⟨.ready,none,n,F.toList,a,b,M⟩]) x:=fun x hx=>PX hx;have ak:∀k,ad k->w1.heap[k]?=w.heap[k]?:=fun k hk=>e4.ext.same k (.inr hk);have a3:aD P w1 ad z (s.heap++[.loop ⟨.ready,none,n,F.toList,a,b,M⟩]) (.map s.heap.length) (.func (.yield l) #[] #[]):=by
   simp only[aD,cg,cG];refine⟨by simp[hw],fun W=>?_,fun _=>by rw[e3]⟩;obtain⟨bd,am,W⟩:=W;simp at am;subst am;cases W
  have a4:aI (aQ (s.heap++[.loop ⟨.ready,none,n,F.toList,a,b,M⟩])) (.map s.heap.length):=by
   simp only[aI];exact⟨.loop ⟨.ready,none,n,F.toList,a,b,M⟩,s_,trivial⟩
  have aB:=uJ (uJ (bX.mono (fun _ x=>x) ak e6 _ _ ar aS) (b:=[.map s.heap.length]) (y:=[.func (.yield l) #[] #[]]) (by simp only[bX];exact⟨_,_,rfl,a3,rfl⟩)) (bX.mono (fun _ x=>x) ak e6 _ _ ap aG);have az:=qp (qp (bk.mono aA _ ar) (b:=[.map s.heap.length]) (by simp only[bk];exact⟨a4,trivial⟩)) (bk.mono aA _ ap);have aV:(invoke (.fn (.func g) cv.toArray) (G.toArray++#[.func (.yield l) #[] #[]])).run P w1=.ok (.enter g (G++[(.func (.yield l) #[] #[]:cy)]++cv).toArray) w1:=by
   have:=aN (G++[(.func (.yield l) #[] #[]:cy)]++cv).toArray w1;simp only[invoke];rw[<-this];congr 2;simp
  have a0:(resolve (Act.eval ⟨t,ds⟩) (rangeCall f l) 0).run P w1=.ok (⟨.fn (.func g) cv.toArray,G.toArray++#[.func (.yield l) #[] #[]]⟩:dq) w1:=by
   have ah:(Act.eval ⟨t,ds⟩) f=gS t f:=by cases f<;>rfl
   have aL:(rangeCall f l).args.map (Act.eval ⟨t,ds⟩)=#[.func (.yield l) #[] #[]]:=by simp[Act.eval]
   simp only[resolve,aL];simp only[ah,aT,fl];rfl
  have aO:=stepR_rangeFunc (P:=P) (b:=fr) (a:=⟨t,ds⟩) (k:=k) (cs:=cs) (w:=w) (g:=f) (ps:=F) (assign:=a) (body:=b) e1 a0 aV;obtain⟨e,ae,ba,⟨a9,X,S,ah,g1,g2,g3⟩,aY,bc,aX⟩:=aK w1 ad o z _ e2 aB az (fr.atR ⟨t,mk++ds⟩ (.inRangeFunc l::k)::cs);subst ah;unfold jw at af
  split at af
  case h_2=>exact af.elim
  rename_i L an;obtain⟨aF,Z⟩:=af;obtain⟨rec,r1,a7,a8,be,bf,bg,bh,bi,au⟩:=He g1.rel an .exhausted L.pending;have ay:aQ (s.heap++[.loop ⟨.ready,none,n,F.toList,a,b,M⟩]) (s.heap.length,0):=⟨.loop ⟨.ready,none,n,F.toList,a,b,M⟩,s_,trivial⟩
  have aE:X.az s.heap.length=l:=((g1.step.loop _ ay ⟨_,an⟩).2).trans e3;rw[aE]at r1 au;have aM:=run_endLoop (P:=P) r1 (by rw[a7];exact aF);have O:ea P (lone (bJ fr t ds (.code (.rangeFunc f F a b)::k)) cs w) (lone (bJ fr t (mk++ds) ((rec.pending.map Item.code).toList++k)) cs (ae.putObj l (.loop {rec with state:=.exhausted}))):=by
   refine(hr aO).trans (ht aY ?_);refine(hr (dz aX)).trans ?_;rw[finish_atR_inRangeFunc];exact .one (stepR_endRangeFunc aM)
  have O:ea P (lone (bJ fr t ds (.code (.rangeFunc f F a b)::k)) cs w) (lone (bJ fr t (mk++ds) ((L.pending.map Item.code).toList++k)) cs (ae.putObj l (.loop {rec with state:=.exhausted,pending:=L.pending}))):=by
   rw[<-a8];exact O
  have V:cF P o ad w1 z (s.heap++[.loop ⟨.ready,none,n,F.toList,a,b,M⟩]) S _ X _:=g1.trans au;have aj:dj P n o S X ⟨s.env,aa.set s.heap.length (.loop {L with st:=.exhausted})⟩ t (ae.putObj l (.loop {rec with state:=.exhausted,pending:=L.pending})):=by
   refine⟨V.rel,fun x=>?_,fun x=>?_,i.size⟩
   ·exact aD.mono V.cq (fun k hk=>V.ext.same k (.inr hk)) V.step _ _ (aI.mono aA _ (i.iR x)) (aD.mono (fun _ x=>x) ak e6 _ _ (i.iR x) (i.env x))
   ·exact aI.mono V.iS _ (aI.mono aA _ (i.iR x))
  have ag:fa N ai ad w β s.heap o S (ae.putObj l (.loop {rec with state:=.exhausted,pending:=L.pending})) X (aa.set s.heap.length (.loop {L with st:=.exhausted})):=e4.trans V.gA;have W:Marks fr ai w o S (ae.putObj l (.loop {rec with state:=.exhausted,pending:=L.pending})) ds (mk++ds):=e5.trans e4 (Marks.refl _ _ _ _ _ _) V.gA;unfold lO at Z
  split at Z
  ·rename_i R;rw[R]at O;exact⟨.normal,_,o,S,X,t,_,mk++ds,Z,by rw[R];exact O,aj,ag,W⟩
  ·rename_i id R;rw[R]at O;exact⟨.exit id,_,o,S,X,t,_,mk++ds,Z,⟨k,rfl,by rw[R];exact O⟩,aj,ag,W⟩
  ·rename_i R;rw[R]at O;exact⟨.ret,_,o,S,X,t,_,mk++ds,Z,⟨k,by rw[R];exact O⟩,aj,ag,W⟩
  ·exact Z.elim
 | .goto _,_,_,_,_,_,_,_,_,_,_,h,_,_| .refuse _,_,_,_,_,_,_,_,_,_,_,h,_,_=>by simp[cQ]at h
end
end Go.ae
namespace Go.ae
variable[Gl]
def jX(i:Nat):List AV->Env
 |[]=>[]
 |v::r=>(i,v)::jX (i+1) r
def tN(P:da)(s:St):eb->Option AV
 | .tmp t=>some (aV s.env t)
 | .cell a T=>match aV s.env a with
  | .ptr b path=>match s.heap[b]? with
   |some (.box _ t)=>match fY t path with
    |some v=>if kindOf P T=aa v then some v else none
    |none=>none
   |_=>none
  |_=>none
def iE(P:da)(s:St):List eb->Option (List AV)
 |[]=>some []
 |r::rs=>match tN P s r,iE P s rs with
  |some v,some vs=>some (v::vs)
  |_,_=>none
def oneOf:List AV->AV
 |[v]=>v
 |vs=>match fy vs with
  |some l=>.p (.aE l)
  |none=>.aE vs
def mK(f:AV->Option PV):List AV->Option (List PV)
 |[]=>some []
 |v::vs=>match f v,mK f vs with
  |some p,some a=>some (p::a)
  |_,_=>none
def gC(H:ak):Nat->AV->Option PV
 |0,.p v=>some v
 |0,_=>none
 |n+1,x=>match x with
  | .p v=>some v
  | .sl b aF an off len=>match H[b]? with
   |some (.arr k h d es)=>
    if aF=h/\an=d/\off+len<=es.length then
     if k.gr=true/\es=[]then some .aM else
     match mK (gC H n) ((es.drop off).take len)with
     |some g=>some (.dD (k== .exact&&off+len==es.length) g)
     |none=>none
    else none
   |_=>none
  | .ptr b path=>match H[b]? with
   |some (.box _ t)=>match fY t path with
    |some s=>match gC H n s with
     |some p=>some (.cW p)
     |none=>none
    |none=>none
   |_=>none
  | .map b=>match H[b]? with
   |some (.map _ es)=>some (.fA es)
   |_=>none
  | .func f e c=>match mK (gC H n) e,mK (gC H n) c with
   |some a,some b=>some (.func f a b)
   |_,_=>none
  | .st u fs=>match mK (gC H n) fs with
   |some l=>some (.st u l)
   |none=>none
  | .aE vs=>match mK (gC H n) vs with
   |some l=>some (.aE l)
   |none=>none
  | .cM _ _ _ _ _=>none
section
variable{P:da}{w:db}{ad ai:Nat->Prop}{β:Bd}{H:ak}
def Ii(ad:Nat->Prop)(β:Bd)(H:ak)(k:Nat):Prop:=ad k\/∃(b:Nat)(o:Obj),H[b]?=some o/\o.live/\β.az b=k
theorem Qf:∀{n:Nat}{v:AV}{p:PV},gC H n v=some p->(aa v=aP p)
 |0,v,p,h=>by
  cases v<;>simp[gC]at h;subst h;rfl
 |n+1,v,p,h=>by
  cases v<;>simp only[gC]at h
  case p v=>simp at h;subst h;rfl
  case cM=>simp at h
  case sl b aF an off len=>
   split at h
   ·split at h
    ·split at h
     ·simp at h;subst h;rfl
     ·split at h
      ·simp at h;subst h;rfl
      ·simp at h
    ·simp at h
   ·simp at h
  case ptr b path=>
   split at h
   ·split at h
    ·split at h
     ·simp at h;subst h;rfl
     ·simp at h
    ·simp at h
   ·simp at h
  all_goals
   split at h
   ·simp at h;subst h;rfl
   ·simp at h
theorem OX{v:AV}{p:PV}{cs:List cy}(hs:aa v=aP p)(hc:bG P w ad β H v cs){I:Nat->Prop}(h:∀x,aD P w ad β H v x->aH P w I p x):bc P w I p cs:=by
 cases a:aa v with
 |bad=>exact((rO hc).2 a).elim
 |leaf=>
  obtain⟨c,rfl,b⟩:=(G6 a cs).1 hc;exact(xy (hs▸a) _).2 ⟨c,rfl,h _ b⟩
 |agg u=>exact(AA (hs▸a) cs).2 (h _ ((Sf a cs).1 hc))
section lists
variable{f:AV->Option PV}{I:Nat->Prop}(hf:∀v p,f v=some p->aa v=aP p/\(aI (aQ H) v->∀x,aD P w ad β H v x->aH P w I p x))
include hf
theorem CQ:∀{vs:List AV}{a:List PV},mK f vs=some a->bk (aQ H) vs->∀b,bX P w ad β H vs b->bY P w I a b
 |[],a,h,_,b,hx=>by
  simp[mK]at h;subst h;simpa[bX,bY]using hx
 |v::vs,a,h,c,b,hx=>by
  simp only[mK]at h
  split at h
  case h_2=>simp at h
  rename_i q g hq d;simp at h;subst h;simp only[bk]at c;simp only[bX]at hx;obtain⟨y,e,rfl,k1,k2⟩:=hx;simp only[bY];exact⟨y,e,rfl,(hf _ _ hq).2 c.1 _ k1,CQ d c.2 _ k2⟩
theorem Gi:∀{vs:List AV}{b:List PV},mK f vs=some b->bk (aQ H) vs->∀l a,b9 P w ad β H l vs a->bA P w I l b a
 |[],b,h,_,l,a,hx=>by
  simp[mK]at h;subst h;cases l<;>simp_all [b9,bA]
 |v::vs,b,h,d,l,a,hx=>by
  simp only[mK]at h
  split at h
  case h_2=>simp at h
  rename_i q g hq e;simp at h;subst h;simp only[bk]at d;cases l with
  |nil=>simp[b9]at hx
  |cons m l=>
   simp only[b9]at hx;obtain⟨c,cs,rfl,k1,k2,k3⟩:=hx;simp only[bA];exact⟨c,cs,rfl,OX (hf _ _ hq).1 k1 ((hf _ _ hq).2 d.1),k2,Gi e d.2 _ _ k3⟩
end lists
theorem F5(e:cK P w ad β H ai):∀(n:Nat)(v:AV)(p:PV),gC H n v=some p->aI (aQ H) v->∀x,aD P w ad β H v x->aH P w (Ii ad β H) p x
 |0,v,p,h,_,x,hx=>by
  cases v<;>simp[gC]at h;subst h;simp only[aD]at hx;exact aH.mono (fun _=>.inl) (fun _ _=>rfl) _ _ hx
 |n+1,v,p,h,g,x,hx=>by
  have hf:∀v p,gC H n v=some p->aa v=aP p/\(aI (aQ H) v->∀x,aD P w ad β H v x->aH P w (Ii ad β H) p x):=fun v p h=>⟨Qf h,F5 e n v p h⟩
  cases v<;>simp only[gC]at h
  case p v=>
   simp at h;subst h;simp only[aD]at hx;exact aH.mono (fun _=>.inl) (fun _ _=>rfl) _ _ hx
  case cM=>simp at h
  case sl b aF an off len=>
   split at h
   case h_2=>simp at h
   rename_i k ab W r d
   split at h
   case isFalse=>simp at h
   rename_i J;obtain⟨rfl,rfl,y⟩:=J;simp only[aD]at hx;obtain⟨_,hx⟩:=hx;simp only[cG]at hx;obtain⟨v1,v2,v3⟩:=hx k r d
   split at h
   ·rename_i hn;simp at h;subst h;simp[aH,v2 hn]
   ·rename_i hn
    split at h
    case h_2=>simp at h
    rename_i U M;simp at h;subst h;rw[v3 hn];rcases e.dQ b _ d with hold|⟨cs,T,B,rest,i,j,A,E,X,F,Y,Z⟩
    ·exact(hn hold).elim
    obtain⟨a,m,c,e1,e2,e3,e4,e5⟩:=qq j off len v1;have O:bk (aQ H) ((r.drop off).take len):=by
     have:=e.refs b _ d;rw[eQ];intro v Q;exact eQ.1 this v (iB (iA Q))
    have K:((r.drop off).take len).length=len:=by simp;omega
    have k1:=Gi hf M O _ _ e2;have z:U.length=len:=by have:=(zE k1).2.1;simp at this;omega
    simp only[aH];refine⟨β.az b,off*an,β.cap b-off,an,m,by rw[z,<-K];exact k1,fun _=>.inr ⟨b,_,d,hn,rfl⟩,?_,?_,?_,none,.inl rfl,?_⟩
    ·rw[<-e3];exact pc i (post:=c.flatten++rest) (by rw[A,e1];simp)
    ·intro hf;simp at hf;rw[z,F hf.1];omega
    ·rw[z];omega
    ·rw[z]
  case ptr b path=>
   split at h
   case h_2=>simp at h
   rename_i fz t d
   split at h
   case h_2=>simp at h
   rename_i s hs
   split at h
   case h_2=>simp at h
   rename_i q hq;simp at h;subst h;simp only[aD]at hx;obtain⟨_,hx⟩:=hx;simp only[cG]at hx;obtain⟨V,S,o,rfl,L,hx⟩:=hx;obtain⟨rfl,rfl⟩:=hx ⟨_,d,rfl⟩;obtain⟨cs,T,i,j,A,E⟩:=e.dQ b _ d;obtain⟨pre,xs,post,e1,e2,e3,_⟩:=tF j hs L;have N:aI (aQ H) s:=Ad hs (e.refs b _ d);simp only[aH];refine⟨β.az b,S,xs,OX (Qf hq) e3 (F5 e n _ _ hq N),.inr ⟨b,_,d,trivial,rfl⟩,?_,rfl⟩;rw[<-e2];exact pc i e1
  case map b=>
   split at h
   case h_2=>simp at h
   rename_i fz r d;simp at h;subst h;simp only[aD]at hx;obtain⟨_,hx⟩:=hx;simp only[cG]at hx;have hx:=hx.1 ⟨_,d,rfl⟩;obtain⟨C,clock,i,j,A⟩:=e.dQ b _ d;simp only[aH];exact⟨β.az b,C,clock,.inr ⟨b,_,d,trivial,rfl⟩,i,dB.mono (fun _=>.inl) (fun _ _=>rfl) _ _ j,hx⟩
  case func f a b=>
   split at h
   case h_2=>simp at h
   rename_i a' b' G I;simp at h;subst h;simp only[aI]at g;simp only[aD]at hx;obtain⟨D,cv,k1,k2,k3⟩:=hx;simp only[aH];exact⟨D,cv,CQ hf G g.1 _ k1,CQ hf I g.2 _ k2,k3⟩
  case st u fs=>
   split at h
   case h_2=>simp at h
   rename_i l y;simp at h;subst h;simp only[aI]at g;simp only[aD]at hx;obtain⟨R,B,k1,k2,k3⟩:=hx;simp only[aH];exact⟨R,B,k1,Gi hf y g _ _ k2,k3⟩
  case aE vs=>
   split at h
   case h_2=>simp at h
   rename_i l y;simp at h;subst h;simp only[aI]at g;simp only[aD]at hx;obtain⟨xs,k1,k2⟩:=hx;simp only[aH];exact⟨xs,CQ hf y g _ k1,k2⟩
end
section
variable{P:da}{aq:dp->Bool}{fit:Nat->Array Oper->Bool}
theorem Gf:∀(args:List AV)(i x:Nat),aV (jX i args) x=if i<=x then(args[x-i]?).getD (.p .undef)else .p .undef
 |[],i,x=>by simp[jX,aV]
 |v::r,i,x=>by
  simp only[jX,aV,Gf r]
  by_cases h:x=i
  ·subst h;simp
  ·by_cases b:i<=x
   ·have a:i+1<=x:=by omega
    simp only[h,b,a,if_true,if_false];rw[show x-i=(x-(i+1))+1 by omega,ip]
   ·have a:¬i+1<=x:=by omega
    simp[h,b,a]
theorem xA{w:db}{ad:Nat->Prop}{β:Bd}{H:ak}:∀{vs:List AV}{xs:List cy},bX P w ad β H vs xs->xs.length=vs.length/\∀i:Nat,aD P w ad β H ((vs[i]?).getD (.p .undef)) ((xs[i]?).getD undef)
 |[],xs,h=>by simp only[bX]at h;subst h;simp[aD,aH]
 |v::vs,xs,h=>by
  simp only[bX]at h;obtain⟨y,c,rfl,a,b⟩:=h;have:=xA b;refine⟨by simp[this.1],fun i=>?_⟩;cases i with
  |zero=>simpa using a
  |succ i=>simpa using this.2 i
theorem arQ{ai ad:Nat->Prop}{β:Bd}{w:db}{H:ak}{args:List AV}{a:List cy}{n:Nat}(f:cK P w ad β H ai)(d:bX P w ad β H args a)(g:bk (aQ H) args)(hn:args.length<=n):
 dj P n ai ad β ⟨jX 0 args,H⟩ (a.toArray++bo (n-a.length) undef) w:=by
 obtain⟨b,c⟩:=xA d;refine⟨f,fun x=>?_,fun x=>?_,by simp[b];omega⟩
 ·have e:(a.toArray++bo (n-a.length) undef).getD x undef=(a[x]?).getD undef:=by
   rw[bp,<-bv];simp only[Array.toList_append,Array.toList_replicate]
   by_cases hx:x<a.length
   ·rw[hV (by simpa using hx)]
   ·rw[h1 (by simpa using hx)];simp only[hR];rw[List.getElem?_eq_none (by simpa using hx)]
    split<;>rfl
  rw[e,Gf];simpa using c x
 ·rw[Gf];simp only[Nat.zero_le,if_true,Nat.sub_zero];cases h:args[x]? with
  |none=>simp[aI]
  |some v=>exact eQ.1 g v (hT h)
theorem Ol{w:db}{ad:Nat->Prop}{β:Bd}{H:ak}{T:c9}{v:AV}{az off:Nat}{a:List cy}(hk:kindOf P T=aa v)(f:bG P w ad β H v a)(hc:ja w az off a):
 ∃cv,(loadVar T ⟨az,off,none⟩).run P w=.ok cv w/\aD P w ad β H v cv:=by
 obtain⟨n,m⟩:=rO f;have l:∀j,(⟨az,off,none⟩:Addr).add j=⟨az,off+j,none⟩:=by intro j;unfold Addr.add;split<;>simp_all
 unfold kindOf at hk;cases hs:aa v with
 |bad=>exact(m hs).elim
 |leaf=>
  rw[hs]at hk;obtain⟨c,rfl,e⟩:=(G6 hs a).1 f;refine⟨c,?_,e⟩;have g:=hc 0 s_;simp only[j7,List.getElem_cons_zero]at g;have b:(isAgg T).run P w=.ok false w:=by
   cases hu:P.underlying T with
   |none=>simp[hu]at hk
   |some d=>
    cases d<;>simp only[hu]at hk<;>first
     |(simp[isAgg,c6 hu];done)
     |(split at hk<;>simp at hk)
  simp[loadVar,b,g]
 |agg u=>
  rw[hs]at hk;have e:=(Sf hs a).1 f;refine⟨.agg a.toArray,?_,e⟩;have b:(isAgg T).run P w=.ok true w/\P.cellsOf T=a.length:=by
   rw[n,hs];cases hu:P.underlying T with
   |none=>simp[hu]at hk
   |some d=>
    cases d<;>simp only[hu]at hk<;>first
     |(split at hk
       ·rename_i hc;simp at hk;subst hk;simp at hc;refine⟨by simp[isAgg,c6 hu],hc.2⟩
       ·simp at hk)
     |(split at hk<;>simp at hk)
  obtain⟨i,hi⟩:∃i,P.info? T=some i:=by
   cases hi:P.info? T with
   |none=>
    have k:=b.1;simp[isAgg,underlying,g9,hi]at k
   |some i=>exact⟨i,rfl⟩
  have p:(sizeOf T).run P w=.ok a.length w:=by
   rw[<-b.2];simp[sizeOf,typeInfo,hi,g8]
  have o:=run_loadCells_list (P:=P) w ⟨az,off,none⟩ a (fun j x hx=>by
   rw[l];have h:j<a.length:=(hJ.1 hx).1;rw[hc j h];rw[hP h]at hx;exact hx)
  simp[loadVar,b.1,p,o]
theorem aqx{n:Nat}{ai ad:Nat->Prop}{β:Bd}{s:St}{t:Array cy}{w:db}(h:dj P n ai ad β s t w){f:eb}{v:AV}(c:tN P s f=some v):
 ∃cv,(match f with
  | .tmp x=>(pure (t.getD x undef):Sem cy)
  | .cell a T=>do loadVar T (<-asAddr (t.getD a undef))).run P w=.ok cv w/\aD P w ad β s.heap v cv/\aI (aQ s.heap) v:=by
 cases f with
 |tmp x=>
  simp[tN]at c;subst c;exact⟨_,rfl,h.env x,h.iR x⟩
 |cell a T=>
  simp only[tN]at c;have d:=h.env a
  split at c
  case h_2=>simp at c
  rename_i b z j;rw[j]at d
  split at c
  case h_2=>simp at c
  rename_i fz A e
  split at c
  case h_2=>simp at c
  rename_i v' hs
  split at c
  case isFalse=>simp at c
  rename_i hc;simp at c;subst c;simp only[aD]at d;obtain⟨_,d⟩:=d;simp only[cG]at d;obtain⟨r,p,o,m,l,d⟩:=d;obtain⟨rfl,rfl⟩:=d ⟨_,e,rfl⟩;obtain⟨cs,q,g,i,u,y⟩:=h.heap.dQ b _ e;obtain⟨pre,xs,post,e1,e2,e3,_⟩:=tF i hs l;have k:ja w (β.az b) p xs:=by rw[<-e2];exact pc g e1
  obtain⟨cv,k1,k2⟩:=Ol hc e3 k;refine⟨cv,?_,k2,Ad hs (h.heap.refs b _ e)⟩;simp only[m,asAddr];simp[k1]
theorem Oo{n:Nat}{ai ad:Nat->Prop}{β:Bd}{s:St}{t:Array cy}{w:db}(h:dj P n ai ad β s t w):∀{d:List eb}{vs:List AV},iE P s d=some vs->
 ∃c:List cy,(d.mapM (fun g:eb=>match g with
  | .tmp x=>(pure (t.getD x undef):Sem cy)
  | .cell a T=>do loadVar T (<-asAddr (t.getD a undef)))).run P w=.ok c w/\bX P w ad β s.heap vs c/\bk (aQ s.heap) vs
 |[],vs,b=>by
  simp[iE]at b;subst b;exact⟨[],s_,by simp[bX],by simp[bk]⟩
 |r::d,vs,b=>by
  simp only[iE]at b
  split at b
  case h_2=>simp at b
  rename_i v i e f;simp at b;subst b;obtain⟨cv,k1,k2,k3⟩:=aqx h e;obtain⟨c,g1,g2,g3⟩:=Oo h f;refine⟨cv::c,?_,by simp only[bX];exact⟨cv,c,rfl,k2,g2⟩,by simp only[bk];exact⟨k3,g3⟩⟩;simp only[i9,hl,k1,hj,g1];rfl
theorem Pq{w:db}{ad:Nat->Prop}{β:Bd}{H:ak}{vs:List AV}{a:List cy}(h:bX P w ad β H vs a)(d:bk (aQ H) vs):
 aD P w ad β H (oneOf vs) (if h:a.toArray.size=1 then a.toArray[0]else .tuple a.toArray)/\aI (aQ H) (oneOf vs):=by
 have b:=(xA h).1
 match vs,a,h with
 |[v],[c],h=>
  simp only[bX]at h;obtain⟨y,j,g,e,i⟩:=h;cases g;simp only[bk]at d;exact⟨by simpa[oneOf]using e,by simpa[oneOf]using d.1⟩
 |[],[],h=>exact⟨by simp[oneOf,fy,aD,aH,bY],by simp[oneOf,fy,aI]⟩
 |v1::v2::vs,c1::c2::a,h=>
  have hs:¬(c1::c2::a).toArray.size=1:=s_
  rw[dif_neg hs];simp only[oneOf];cases f:fy (v1::v2::vs)with
  |none=>exact⟨by simp only[aD];exact⟨_,h,rfl⟩,by simpa only[aI]using d⟩
  |some l=>
   have:=po f;rw[this]at h;exact⟨by simp only[aD,aH];exact⟨_,l9.1 h,rfl⟩,by simp[aI]⟩
 |[],_::_,_=>simp at b
 |[_],[],_=>simp at b
 |[_],_::_::_,_=>simp at b
 |_::_::_,[],_=>simp at b
 |_::_::_,[_],_=>simp at b
theorem takes{fr:dx}{cs:List dx}(b:fr.mode= .returning):∀(a:List Nat)(w:db),a.Nodup->(∀r∈a,w.heap[r]?=some (.deferred (some [])))->
 ∃w',ea P (lone {fr with defers:=a.map mark} cs w) (lone {fr with defers:=[]} cs w')/\w'.heap.size=w.heap.size/\(∀k,k∉a->w'.heap[k]?=w.heap[k]?)/\(w'.os=w.os/\w'.output=w.output)
 |[],w,_,_=>⟨w,hv _ _,rfl,fun _ _=>rfl,rfl,rfl⟩
 |r::a,w,hn,h=>by
  rw[List.nodup_cons]at hn;have c:=h r s_;have hk:=run_takeDeferred (P:=P) c;have l:=(bl.1 c).1;obtain⟨w',f,g,i,j⟩:=takes b a (w.putObj r (.deferred none)) hn.2 (fun x hx=>(hC (fun(e:x=r)=>hn.1 (e▸hx))).trans (h x (by simp[hx])));refine⟨w',(hr (step_collected (fr:={fr with defers:=(r::a).map mark}) (d:=mark r) (ds:=a.map mark) (by simp[b]) rfl rfl hk)).trans f,by simpa using g,fun k hk=>?_,j⟩;simp only[List.mem_cons,not_or]at hk;exact(i k hk.2).trans (hC hk.1)
theorem OD{N:Nat}{f:dp}{fn:Func}{c:Code}(z:o7 P aq)(y:xn P aq fit)(hf:P.funcs[f]?=some fn)(F:fn.body=some c)(L:codeOk fit fn.ntmps c=true)
 {args:List AV}{H:ak}{R:List AV->St->Prop}(hn:args.length<=fn.ntmps)
 (S:cQ P aq (fn.ntmps,N) c (fun e s=>(match e with
  | .exit _=>False
  |_=>True)/\∃vs,iE P s fn.results.toList=some vs/\R vs s) ⟨jX 0 args,H⟩)
 {w:db}{ad ai:Nat->Prop}{β:Bd}{d:List cy}(i:cK P w ad β H ai)(q:bX P w ad β H args d)(M:bk (aQ H) args):
 eq P f d.toArray w fun e w'=>∃vs s a aJ aR t,e=.returned (if h:a.toArray.size=1 then a.toArray[0]else .tuple a.toArray)/\R vs s/\dj P fn.ntmps ai aJ aR s t w'/\fa N ai ad w β H ai aJ w' aR s.heap/\
  bX P w' aJ aR s.heap vs a/\bk (aQ s.heap) vs:=by
 intro cs;have W:=(xA q).1;obtain⟨g,j⟩:∃g:dx,g={fn:=f,tmps:=#[],todo:=[],defers:=[],mode:=.run,kind:=.normal}:=⟨_,rfl⟩
 have G:fv P f d.toArray .normal=bJ g (d.toArray++bo (fn.ntmps-d.length) undef) [] [.code c]:=by
  subst j;simp[fv,bJ,hf,F]
 obtain⟨e,s,U,aJ,aR,t,w1,V,⟨A,vs,B,C⟩,o,m,b,D⟩:=qu (fr:=g) (cs:=cs) (ds:=[]) z y c [] L S (arQ i q M hn) (fun l I=>by subst j;cases I);obtain⟨rs,u,K,n,X,_⟩:=D;rw[i8]at u;subst u;rw[G]
 have p:∀todo,ea P (lone (bJ g (d.toArray++bo (fn.ntmps-d.length) undef) [] [.code c]) cs w) (lone {bJ g t (rs.map mark) todo with mode:= .returning} cs w1)->
  ∃e w' fr,(∃vs s a aJ aR t,e=.returned (if h:a.toArray.size=1 then a.toArray[0]else .tuple a.toArray)/\R vs s/\dj P fn.ntmps ai aJ aR s t w'/\fa N ai ad w β H ai aJ w' aR s.heap/\
   bX P w' aJ aR s.heap vs a/\bk (aQ s.heap) vs)/\Comes P (lone (bJ g (d.toArray++bo (fn.ntmps-d.length) undef) [] [.code c]) cs w) (lone fr cs w') e/\fr.fn=f/\fr.leaving P w' e:=by
  intro todo aY;obtain⟨w',t1,t2,t3,t4⟩:=takes (P:=P) (fr:={bJ g t (rs.map mark) todo with mode:=.returning}) (cs:=cs) rfl rs w1 K (fun r i=>(n r i).2.2.2);have Q:∀k,aJ k->w'.heap[k]?=w1.heap[k]?:=fun k hk=>t3 k (fun i=>(n k i).2.2.1 hk);have v:dj P fn.ntmps ai aJ aR s t w':=⟨m.heap.shut b.fN (R:=fun k=>k∈rs) (fun x hx=>⟨(n x hx).2.1,(n x hx).2.2.1⟩) t2 t3,fun x=>aD.mono (fun _ x=>x) Q (cZ.refl _ _) _ _ (m.iR x) (m.env x),m.iR,m.size⟩
  have E:fa N ai ad w β H ai aJ w' aR s.heap:=⟨fun _ x=>x,b.cq,b.fresh,⟨by rw[t2];exact b.ext.size,fun k hk=>(t3 k (fun J=>by
   have:=(n k J).1;have:=hk.elim (i.fN k) (i.cq k);omega)).trans (b.ext.same k hk),t4.1.trans b.ext.io.1,t4.2.trans b.ext.io.2⟩,b.step,b.iS,b.loop⟩
  obtain⟨a,g1,g2,g3⟩:=Oo v B;have O:(results fn t).run P w'=.ok (if h:a.toArray.size=1 then a.toArray[0]else .tuple a.toArray) w':=by
   simp only[results];rw[b1];rw[hl,hp]
   erw [g1]
   rfl
  refine⟨_,w',{bJ g t [] todo with mode:=.returning},⟨vs,s,a,aJ,aR,t,rfl,C,v,E,g2,g3⟩,ht aY t1,by subst j;rfl,?_⟩;subst j;exact⟨rfl,rfl,rfl,fn,hf,O⟩
 cases e with
 |exit id=>exact A.elim
 |normal=>
  exact p [] (ht o (.one (dl (by subst j;simp[stepG,hF,bJ]))))
 |ret=>
  obtain⟨T,o⟩:=o;exact p (.code .ret::T) (ht o (.one (dl (by subst j;simp[stepG,hF,bJ]))))
theorem QI{f:dp}{fn:Func}{c:Code}(m:o7 P aq)(l:xn P aq fit)(z:Enters P f)(hf:P.funcs[f]?=some fn)(y:fn.body=some c)(C:codeOk fit fn.ntmps c=true)
 {args:List PV}{v:PV}(hn:args.length<=fn.ntmps)
 (G:cQ P aq (fn.ntmps,0) c (fun e s=>(match e with
  | .exit _=>False
  |_=>True)/\∃vs,iE P s fn.results.toList=some vs/\gC s.heap 9 (oneOf vs)=some v) ⟨jX 0 (args.map .p),[]⟩):vF P f args v:=by
 refine⟨z,fun w ad H B A x=>?_⟩;have D:cK P w ad ⟨id,id⟩ [] (fun k=>k<w.heap.size):=⟨s_,s_,s_,B,fun _ h=>h,A⟩
 refine(OD m l hf y C (R:=fun vs s=>gC s.heap 9 (oneOf vs)=some v) (by simpa using hn) G D (l9.2 x) (kU _ _)).mono ?_;rintro e w' ⟨vs,s,I,aJ,aR,t,rfl,u,hs,a,E,F⟩;obtain⟨n,q⟩:=Pq E F;have r:=F5 hs.heap _ _ _ u q _ n;refine⟨_,Ii aJ aR s.heap,rfl,fun k hk=>.inl (a.cq k hk),?_,?_,a.ext.size,fun k hk=>a.ext.same k (.inl hk),a.ext.io,r⟩
 ·rintro k (hk|⟨b,o,i,g,rfl⟩)
  ·rcases a.fresh k hk with h|h
   ·exact .inl h
   ·exact .inr o_
  ·by_cases j:aR.az b<w.heap.size
   ·
    left;have:aJ (aR.az b)\/¬(aR.az b<w.heap.size):=by
     obtain⟨fz,h,_⟩:=(hs.heap.dQ b o i).IU g;cases fz with
     |true=>exact .inl h
     |false=>exact .inr h.2
    rcases this with h|h
    ·rcases a.fresh _ h with d|d
     ·exact d
     ·exact(d j).elim
    ·exact(h j).elim
   ·exact .inr o_
 ·rintro k (hk|⟨b,o,i,g,rfl⟩)
  ·exact hs.heap.cq k hk
  ·exact hs.heap.rZ i g
def ye(P:da)(a:List eb)(N:Nat)(H':ak)(v:AV)(e:bL)(s:St):Prop:=
 (match e with
  | .exit _=>False
  |_=>True)/\∃vs,iE P s a=some vs/\oneOf vs=v/\(H'=s.heap\/(dh N s ⟨[],H'⟩/\aI (aQ H') v))
theorem av4{f:dp}{fn:Func}{c:Code}(q:o7 P aq)(p:xn P aq fit)(u:Enters P f)(hf:P.funcs[f]?=some fn)(j:fn.body=some c)(z:codeOk fit fn.ntmps c=true)
 {args:List AV}{H H':ak}{v:AV}(hn:args.length<=fn.ntmps)(F:cQ P aq (fn.ntmps,H.length) c (ye P fn.results.toList H.length H' v) ⟨jX 0 args,H⟩):c8 P f H args H' v:=by
 refine⟨u,fun w ad ai β G A r B=>?_⟩;refine(OD q p hf j z (R:=fun vs s=>oneOf vs=v/\(H'=s.heap\/(dh H.length s ⟨[],H'⟩/\aI (aQ H') v))) hn F A r B).mono ?_;rintro e w' ⟨vs,s,g,aJ,aR,t,rfl,⟨rfl,a⟩,hs,m,E,D⟩;obtain⟨i,k⟩:=Pq E D;obtain⟨d,k1,k2,k3⟩:fa H.length ai ad w β H ai aJ w' aR H'/\cK P w' aJ aR H' ai/\aD P w' aJ aR H' (oneOf vs) (if h:g.toArray.size=1 then g.toArray[0]else .tuple g.toArray)/\aI (aQ H') (oneOf vs):=by
  rcases a with rfl|⟨a,C⟩
  ·exact⟨m,hs.heap,i,k⟩
  ·refine⟨m.trans (a.gA (β:=aR) (ai:=ai) (ad:=aJ) (w:=w')),(a.rel hs).heap,?_,C⟩;rcases a with a|a
   ·have e:H'=s.heap:=by rw[<-a]
    rw[e];exact i
   ·exact aD.mono (fun _ x=>x) (fun _ _=>rfl) a.1.step _ _ k i
 refine⟨_,aR,aJ,rfl,⟨d.cq,d.fresh,d.ext,d.step.full,k1,fun x hx=>?_,fun b j=>?_⟩,k2,k3⟩
 ·obtain⟨o,n,y⟩:=hx;exact d.iS x (hJ.1 n).1 ⟨o,n,y⟩
 ·obtain⟨L,l⟩:=j;exact d.loop b (hJ.1 l).1 ⟨L,l⟩
theorem dj.post{n:Nat}{ai ad aJ:Nat->Prop}{β aR:Bd}{s:St}{H':ak}{t:Array cy}{w w':db}(h:dj P n ai ad β s t w)(a:cF P ai ad w β s.heap aJ w' aR H'):dj P n ai aJ aR ⟨s.env,H'⟩ t w':=
 ⟨a.rel,fun x=>aD.mono a.cq (fun k hk=>a.ext.same k (.inr hk)) a.step _ _ (h.iR x) (h.env x),fun x=>aI.mono a.iS _ (h.iR x),h.size⟩
def vi:List Tmp->List AV->Env->Env
 |t::ts,v::vs,e=>vi ts vs ((t,v)::e)
 |_,_,e=>e
def jd:bL->Option Code
 | .normal=>none
 | .exit id=>some (.exit id)
 | .ret=>some .ret
def xo(b:Nat)(K:ak->AV->Prop)(e:bL)(s:St):Prop:=
 match s.heap[b]? with
 |some (.loop L)=>K (s.heap.set b (.loop {L with st:=if(jd e).isNone then .ready else .done,pending:=jd e})) (.p (.bool (jd e).isNone))
 |_=>False
def CC(P:da)(aq:dp->Bool)(q:Cx)(b:Nat)(body:Code)(K:ak->AV->Prop)(e:bL)(s:St):Prop:=
 match e,s.heap[b]? with
 | .normal,some (.loop L)=>L.st=.ready/\cQ P aq q body (xo b K) ⟨s.env,s.heap.set b (.loop {L with st:=.busy})⟩
 |_,_=>False
def Dk(P:da)(aq:dp->Bool)(L:eK)(b:Nat)(args:List AV)(H:ak)(K:ak->AV->Prop):Prop:=
 cQ P aq (L.n,H.length) L.assign (CC P aq (L.n,H.length) b L.body K) ⟨vi L.params args L.env,H⟩
def uZ(ts:List Tmp)(a:List cy)(t:Array cy):Array cy:=(ts.zip a).foldl (fun t(p,v)=>t.setIfInBounds p v) t
theorem O5{w:db}{ad:Nat->Prop}{β:Bd}{H:ak}:∀{ts:List Tmp}{vs:List AV}{xs:List cy}{e:Env}{t:Array cy},(∀x∈ts,x<t.size)->bX P w ad β H vs xs->bk (aQ H) vs->(∀x,aD P w ad β H (aV e x) (t.getD x undef))->(∀x,aI (aQ H) (aV e x))->
 (uZ ts xs t).size=t.size/\(∀x,aD P w ad β H (aV (vi ts vs e) x) ((uZ ts xs t).getD x undef))/\(∀x,aI (aQ H) (aV (vi ts vs e) x))
 |[],vs,xs,e,t,_,a,_,b,c=>by
  cases vs<;>exact⟨rfl,b,c⟩
 |p::ts,[],xs,e,t,_,a,_,b,c=>by
  simp only[bX]at a;subst a;exact⟨rfl,b,c⟩
 |p::ts,v::vs,xs,e,t,f,a,d,b,c=>by
  simp only[bX]at a;obtain⟨y,h,rfl,k1,k2⟩:=a;simp only[bk]at d;have g:p<t.size:=f p s_;obtain⟨g1,g2,g3⟩:=O5 (ts:=ts) (vs:=vs) (xs:=h) (e:=(p,v)::e) (t:=t.setIfInBounds p y) (fun x hx=>by simpa using f x (by simp[hx])) k2 d.2
   (fun x=>by
    simp only[aV]
    by_cases hx:x=p
    ·subst hx;simp[g];exact k1
    ·simp only[hx,if_false,bp,bV (ko hx)];simpa using b x)
   (fun x=>by
    simp only[aV]
    split
    ·exact d.1
    ·exact c x)
  exact⟨by simpa[uZ]using g1,g2,g3⟩
theorem zip_toArray(a:List Tmp)(b:List cy)(t:Array cy):(a.toArray.zip b.toArray).foldl (fun t(p,v)=>t.setIfInBounds p v) t=uZ a b t:=by
 unfold uZ;rw[<-b5];simp
theorem av2(I:o7 P aq)(G:xn P aq fit){b:Nat}{L:eK}{H H':ak}{args:List AV}{v:AV}(f:H[b]?=some (.loop L))(az:args.length=L.params.length)(aA:∀x∈L.params,x<L.n)
 (ap:codeOk fit L.n L.assign=true)(hc:codeOk fit L.n L.body=true)(aG:Dk P aq L b args H (fun ae aR=>aR=v/\dh H.length ⟨[],ae⟩ ⟨[],H'⟩)):gJ P b H args H' v:=by
 refine⟨⟨L,f⟩,fun w ad ai β i B W au=>?_⟩;obtain⟨tmps,defers,fn,an,M,ao,aW⟩:=B.dQ b _ f;have s:b<H.length:=(hJ.1 f).1;have aw:=(xA W).1;have j:=run_yield (P:=P) (args:=i.toArray) an (by simp[aw,az]);obtain⟨q1,aN,aO⟩:=O5 (ts:=L.params) (vs:=args) (xs:=i) (e:=L.env) (t:=tmps) (fun x hx=>by rw[M];exact aA x hx) W au ao (B.refs b _ f);rw[zip_toArray]at j;refine⟨fn,_,_,_,j,fun K ac=>?_⟩;obtain⟨c,z⟩:∃c:dx,c={fn:=fn,tmps:=#[],todo:=[],defers:=[],mode:=.run,kind:=.normal,roundOf:=some (β.az b)}:=⟨_,rfl⟩
 have g:c.roundOf=some (β.az b):=by subst z;rfl
 have A:c.kind=.normal:=by subst z;rfl
 have ax:fm (β.az b) fn (uZ L.params i tmps) L.assign L.body .normal=bJ c (uZ L.params i tmps) [] [.code L.assign,.beginRound,.code L.body]:=by subst z;rfl
 have V:vp H.length c β H:=fun l Z=>by
  rw[g]at Z;cases Z;exact⟨b,s,⟨L,f⟩,rfl⟩
 obtain⟨e1,s1,aU,aT,aS,t1,w1,al,g1,g2,g3,g4,g5⟩:=qu (N:=H.length) (fr:=c) (cs:=K::ac) (ds:=[]) I G L.assign [.beginRound,.code L.body] ap aG ⟨B,aN,aO,q1.trans M⟩ V;unfold CC at g1
 split at g1
 case h_2=>exact g1.elim
 rename_i q Q;obtain⟨g1,g6⟩:=g1;obtain⟨bb,m1,_,_,m4,m5⟩:=g5;have aE:=m5 (by rw[g];rfl);subst aE;obtain rfl:al=[]:=m1;have ah:aS.az b=β.az b:=(g4.step.loop b s ⟨_,f,trivial⟩ ⟨q,Q⟩).2;obtain⟨rec,r1,aP,aQ,a6,a7,a8,a9,ba,D⟩:=He g3.heap Q .busy q.pending;rw[ah]at r1 D;have X:=run_beginRound (P:=P) r1 (aP.trans g1);have av:({rec with state:=.busy}:Loop)={rec with state:=.busy,pending:=q.pending}:=by rw[<-aQ]
 rw[av]at X;have T:=g4.trans (D.gA (N:=H.length));obtain⟨e2,s2,r,p,m,t2,F,am,k1,k2,k3,k4,k5⟩:=qu (N:=H.length) (fr:=c) (cs:=K::ac) (ds:=[]) I G L.body [] hc g6 (g3.post D) (V.gA T);unfold xo at k1
 split at k1
 case h_2=>exact k1.elim
 rename_i J S;obtain⟨rfl,Y⟩:=k1;obtain⟨bc,aK,_,_,aL,aM⟩:=k5;have aF:=aM (by rw[g];rfl);subst aF;obtain rfl:am=[]:=aK;have aX:∀k,r k->ai k:=fun k hk=>(m4 k ((aL k hk).resolve_right s_)).resolve_right s_;have U:=T.trans k4;have aj:m.az b=β.az b:=(U.step.loop b s ⟨_,f,trivial⟩ ⟨J,S⟩).2;obtain⟨E,ab,aY,aZ,a0,a1,a3,a4,a5,C⟩:=He k3.heap S (if(jd e2).isNone then .ready else .done) (jd e2);rw[aj]at ab C;have u:=run_endRound (P:=P) (jd e2) ab;have ar:=U.trans (C.gA (N:=H.length));have d:=ar.trans (Y.gA (β:=m) (ai:=r) (ad:=p) (w:=F.putObj (β.az b) (.loop {E with state:=if(jd e2).isNone then .ready else .done,pending:=jd e2})));refine⟨.bool (jd e2).isNone,F.putObj (β.az b) (.loop {E with state:=if(jd e2).isNone then .ready else .done,pending:=jd e2}),m,p,?_,?_,by simp[aD,aH],by simp[aI]⟩
 ·rw[ax];refine ht (g2:ea P _ _) ((hr (stepR_beginRound (b:=c) (a:=⟨t1,[]⟩) g X)).trans ?_);cases e2 with
  |normal=>exact ht (k2:ea P _ _) (.one (stepR_round_end (b:=c) (a:=⟨t2,[]⟩) g A u))
  |exit id=>
   obtain⟨aJ,ag,a2⟩:=k2;exact ht a2 (.one (stepR_round_exit (b:=c) (a:=⟨t2,[]⟩) g A (by rw[ag];rfl) u))
  |ret=>
   obtain⟨aJ,a2⟩:=k2;exact ht a2 (.one (stepR_round_ret (b:=c) (a:=⟨t2,[]⟩) g A u))
 ·have aB:dj P 0 r p m ⟨[],s2.heap.set b (.loop {J with st:=if(jd e2).isNone then .ready else .done,pending:=jd e2})⟩ #[] (F.putObj (β.az b) (.loop {E with state:=if(jd e2).isNone then .ready else .done,pending:=jd e2})):=
   ⟨C.rel,fun x=>by simp[aV,aD,aH],fun x=>by simp[aV,aI],rfl⟩
  have aC:=(Y.rel aB).heap;refine⟨d.cq,d.fresh,d.ext,d.step.full,aC.shut d.fN (R:=fun _=>False) (fun _ h=>h.elim) rfl (fun _ _=>rfl),fun x hx=>?_,fun y j=>?_⟩
  ·obtain⟨o,aa,ay⟩:=hx;exact d.iS x (hJ.1 aa).1 ⟨o,aa,ay⟩
  ·obtain⟨af,O⟩:=j;exact d.loop y (hJ.1 O).1 ⟨af,O⟩
end
section
variable{P:da}
theorem Rl{w:db}{ad:Nat->Prop}{b:Bool}{v:cy}:aH P w ad (.bool b) v↔v=.bool b:=by simp[aH]
theorem HR{w:db}{ad:Nat->Prop}{k:ed}{n:Int}{v:cy}:aH P w ad (.int k n) v↔v=.int k n:=by simp[aH]
theorem Sc{w:db}{ad:Nat->Prop}{s:List Nat}{v:cy}:aH P w ad (.str s) v↔∃bs:ByteArray,v=.string bs/\s=bs.data.toList.map (·.toNat):=by simp[aH]
theorem gI{s:Sem cy}{w:db}{cv:cy}(h:s.run P w=.ok cv w):(do pure (Next.value (<-s)):Sem Next).run P w=.ok (.value cv) w:=by simp[h]
theorem zD{s:Sem cy}{w w':db}{cv:cy}(h:s.run P w=.ok cv w'):(do pure (Next.value (<-s)):Sem Next).run P w=.ok (.value cv) w':=by simp[h]
theorem Cr{T:c9}{v:AV}{w:db}{ad:Nat->Prop}{β:Bd}{H:ak}{cs:List cy}(hk:kindOf P T=aa v)(d:bG P w ad β H v cs):P.cellsOf T=cs.length/\∃i,P.info? T=some i/\i.size=cs.length:=by
 obtain⟨c,a⟩:=rO d;have b:P.cellsOf T=cs.length:=by
  rw[c,<-hk];unfold kindOf at hk⊢
  split at hk
  ·split at hk<;>rename_i hc
   ·simp at hc;rw[if_pos (by simpa using hc)];simp[bZ,hc.2]
   ·exact(a hk.symm).elim
  ·split at hk<;>rename_i hc
   ·simp at hc;rw[if_pos (by simpa using hc)];simp[bZ,hc]
   ·exact(a hk.symm).elim
  ·split at hk<;>rename_i hc
   ·simp at hc;rw[if_pos (by simpa using hc)];simp[bZ,hc]
   ·exact(a hk.symm).elim
  ·exact(a hk.symm).elim
 refine⟨b,?_⟩;cases hi:P.info? T with
 |none=>
  have:kindOf P T=.bad:=by simp[kindOf,g9,hi]
  rw[this]at hk;exact(a hk.symm).elim
 |some i=>exact⟨i,rfl,by simpa[g8,hi]using b⟩
variable{o:Oper}{ρ:dd->AV}{base:Nat}
theorem VS{x:dd}(a:o.op=.move x\/o.op=.assign x):bM P o ρ base {v:=ρ x}:=by
 refine bM.same fun H w ad ai β c d b _=>?_;refine⟨c x,?_,b x ?_⟩
 ·rcases a with a|a<;>simp[dg,a]
 ·rcases a with a|a<;>simp[a,gx]
theorem aO3{c a b:dd}{t:Bool}(d:o.op=.pick c a b)(hc:ρ c=.p (.bool t)):bM P o ρ base {v:=if t then ρ a else ρ b}:=by
 refine bM.same fun H w ad ai β g h f _=>?_;have e:=(f c (by simp[d,gx])).1;rw[hc]at e;simp only[aD,Rl]at e;refine⟨if t then g a else g b,by simp[dg,d,e,asBool],?_⟩;cases t with
 |true=>exact f a (by simp[d,gx])
 |false=>exact f b (by simp[d,gx])
theorem O7{t:dd}{i:Nat}{vs:List AV}{v:AV}(g:o.op=.extract t i)(e:ρ t=.aE vs\/∃l,ρ t=.p (.aE l)/\vs=l.map .p)(hi:vs[i]?=some v):bM P o ρ base {v}:=by
 refine bM.same fun H w ad ai β j m h _=>?_;obtain⟨d,f⟩:=h t (by simp[g,gx]);obtain⟨c,k1,k2,k3⟩:∃c,bX P w ad β H vs c/\j t=.tuple c.toArray/\bk (aQ H) vs:=by
  rcases e with e|⟨l,e,rfl⟩
  ·rw[e]at d f;simp only[aD,aI]at d f;obtain⟨c,a,b⟩:=d;exact⟨c,a,b,f⟩
  ·rw[e]at d;simp only[aD,aH]at d;obtain⟨c,a,b⟩:=d;exact⟨c,l9.2 a,b,kU _ _⟩
 obtain⟨g1,g2⟩:=xA k1;have k:i<vs.length:=(hJ.1 hi).1;have hx:c[i]?=some (c[i]' o_):=hP o_;have g3:=g2 i;rw[hi,hx]at g3;refine⟨c[i]' o_,?_,by simpa using g3,eQ.1 k3 v (hT hi)⟩;simp only[dg,g,Instr.extract,k2];simp[hx]
theorem aOZ{c:eM}{T j:c9}{x y:dd}{k d:ed}{a b:Int}{K:PV->Prop}(g:o.op= .binOp c T x y j)(hx:ρ x= .p (.int k a))(t:ρ y= .p (.int d b))(hk:k=d\/c= .shl\/c= .shr)
 (h:tR c k a b K)(aA:List (Nat×Obj)):∃v,K v/\bM P o ρ base {v:=.p v,aA}:=by
 have key:∀v,K v->(∀w:db,(binOp c T (.int k a) (.int d b)).run P w= .ok (match v with| .int k n=> .int k n| .bool b=> .bool b|_=>undef) w)->(∀w ad,aH P w ad v (match v with| .int k n=> .int k n| .bool b=> .bool b|_=>undef))->
  ∃v,K v/\bM P o ρ base {v:=.p v,aA}:=by
  intro v s r q;refine⟨v,s,bM.same fun H w ad ai β z u i _=>?_⟩;have e:=(i x (by simp[g,gx])).1;have f:=(i y (by simp[g,gx])).1;rw[hx]at e;rw[t]at f;simp only[aD,HR]at e f;refine⟨_,?_,by simp only[aD];exact q w ad,by simp[aI]⟩;simp only[dg,g,e,f];refine gI ?_;have m:(eqGuard c T x y (.int k a) (.int d b)).run P w=.ok () w:=by
   unfold eqGuard
   split<;>simp
  simp[m,r w]
 cases c<;>simp only[tR]at h
 case add|sub|mul|and|or|xor|andNot|eql|neq|lss|leq|gtr|geq=>
  obtain rfl:k=d:=by rcases hk with h|h|h<;>first|exact h|cases h
  exact key _ h (fun w=>by simp[binOp,g0,g7,Op.intCmp]) (fun w ad=>by simp[aH])
 case quo|rem=>
  obtain rfl:k=d:=by rcases hk with h|h|h<;>first|exact h|cases h
  exact key _ h.2 (fun w=>by simp[binOp,Op.intDiv,h.1]) (fun w ad=>by simp[aH])
 case shl|shr=>
  have l:¬b<0:=o_
  exact key _ h.2 (fun w=>by simp[binOp,Op.shift,l]) (fun w ad=>by simp[aH])
theorem Jj{u:UnOp}{T:c9}{x:dd}{v r:PV}(c:o.op= .unOp u T x)(hx:ρ x= .p v)
 (h:(u=.not/\∃b,v=.bool b/\r=.bool (!b))\/(u=.neg/\∃k n,v=.int k n/\r=.int k (k.wrap (0-n)))\/
  (u=.xor/\∃k n,v=.int k n/\r=.int k (k.wrap (cd k.bits (if k.signed then -1 else k.max)^^^cd k.bits n).toNat))):bM P o ρ base {v:=.p r}:=by
 refine bM.same fun H w ad ai β f e d _=>?_;have a:=(d x (by simp[c,gx])).1;rw[hx]at a;simp only[aD]at a;rcases h with⟨rfl,b,rfl,rfl⟩|⟨rfl,k,n,rfl,rfl⟩|⟨rfl,k,n,rfl,rfl⟩
 ·rw[Rl]at a;exact⟨_,by simp only[dg,c,a];exact gI (by simp[gy];rfl),by simp[aD,aH],by simp[aI]⟩
 ·rw[HR]at a;exact⟨_,by simp only[dg,c,a];exact gI (by simp[gy,g0];rfl),by simp[aD,aH],by simp[aI]⟩
 ·rw[HR]at a;exact⟨_,by simp only[dg,c,a];exact gI (by simp[gy,g7];rfl),by simp[aD,aH],by simp[aI]⟩
end
section
variable{P:da}{w:db}{ad ai:Nat->Prop}{β:Bd}{H:ak}
variable{o:Oper}{ρ:dd->AV}{base:Nat}
theorem oZ(H:ak)(b:Nat)(o':Obj):bu H ([]++newAt b [o'])=H.set b o':=rfl
theorem asN{x:AV}{T:c9}(hs:aa x≠ .bad)(hx:lQ T (aa x)=true)(hrefs:∀(H:ak)(w:db)(ad ai:Nat->Prop)(β:Bd)(c:dd->cy),cK P w ad β H ai->
 (∀y∈o.op.operands,aD P w ad β H (ρ y) (c y)/\aI (aQ H) (ρ y))->∃cv,aD P w ad β H x cv/\aI (aQ H) x/\
  (dg c o).run P w=.ok (.value (.pointer (some ⟨w.heap.size,0,none⟩))) {w with heap:=w.heap.push (.cells cv.cells T)}):
 bM P o ρ base {v:=.ptr base [],bm:=[.box false x]}:=by
 intro H w ad ai β c a l _ i;obtain⟨cv,e,d,f⟩:=hrefs H w ad ai β c a l;have b:H[base]?=some .hole:=by simpa using i 0 s_
 have g:=CJ e hs;have aY:=CW (β:=β) b (.box false x) w.heap.size 0;have aA:∀y,aQ H y->aQ (H.set base (.box false x)) y:=rP b (fun _ h=>h.elim);have j:=xp (cap:=0) a b (ob:=.cells cv.cells T) (o':=.box false x)
  ⟨cv.cells,T,by simp[Bd.at],bG.mono (fun _ x=>x) (fun k hk=>zR _ _ (a.cq k hk)) aY _ _ d g,by
   simp only[dV,Bd.at,if_true,ck,if_false];exact⟨fun h=>j5 _ (a.cq _ h),fun h=>j5 _ (a.fN _ h)⟩,s_,hx⟩ (aI.mono aA _ d)
 refine⟨_,_,_,_,ad,f,.inl rfl,j,?_,?_⟩
 ·simp only[aD,cg,cG,oZ];exact⟨rfl,_,_,0,rfl,rfl,fun _=>by simp[Bd.at]⟩
 ·simp only[aI,oZ];exact⟨.box false x,by simp only;rw[hL (hJ.1 b).1],trivial⟩
theorem aOY{T:c9}{x:dd}(a:o.op=.box T x)(hs:aa (ρ x)≠.bad)(hx:lQ T (aa (ρ x))=true):bM P o ρ base {v:=.ptr base [],bm:=[.box false (ρ x)]}:=by
 refine asN (T:=T) hs hx fun H w ad ai β e f d=>?_;obtain⟨b,c⟩:=d x (by simp[a,gx]);refine⟨e x,b,c,?_⟩;simp only[dg,a];simp[Instr.box,newVar,newRow]
theorem F7{w:db}{ad:Nat->Prop}:∀(n:Nat)(T:c9)(cs:List cy)(t:PV),xR P n T cs=some t->bc P w ad t cs/\kindOf P T=aP t
 |0,_,_,_,h=>by simp[xR]at h
 |n+1,T,cs,t,h=>by
  have go:∀(b:List c9)(l:List Nat)(cs:List cy)(fs:List PV),tC P (xR P n) b l cs=some fs->∃a,bA P w ad l fs a/\a.flatten=cs:=by
   intro b
   induction b with
   |nil=>
    intro l cs fs h;cases l with
    |nil=>
     cases cs with
     |nil=>simp[tC]at h;subst h;exact⟨[],by simp[bA]⟩
     |cons c cs=>simp[tC]at h
    |cons s i=>simp[tC]at h
   |cons T b q=>
    intro l cs fs h;cases l with
    |nil=>simp[tC]at h
    |cons s i=>
     simp only[tC]at h
     split at h
     case isFalse=>simp at h
     rename_i m
     split at h
     case h_2=>simp at h
     rename_i v vs g p
     split at h
     case isFalse=>simp at h
     rename_i r;simp at h;subst h;obtain⟨e,_⟩:=F7 n T _ v g;obtain⟨a,f,j⟩:=q i _ vs p;refine⟨cs.take s::a,by simp only[bA];exact⟨_,_,rfl,e,m,f⟩,?_⟩;simp[j]
  unfold xR at h
  split at h
  ·rename_i hk
   split at h
   case h_2=>simp at h
   rename_i c
   split at h
   ·simp at h
   ·rename_i v o;simp at h;subst h;have g:=Ov (P:=P) (w:=w) (ad:=ad) c;have d:aP (ofConst c)=.leaf:=by
     unfold ofConst at o⊢
     split<;>simp_all [aP]
    exact⟨(xy d _).2 ⟨c,rfl,g⟩,by rw[hk,d]⟩
  ·rename_i u hk
   split at h
   case h_2=>simp at h
   rename_i l d
   split at h
   case h_2=>simp at h
   rename_i fs k;simp at h;subst h;obtain⟨a,e,f⟩:=go _ _ _ _ k;refine⟨by simp only[bc];exact⟨l,a,d,e,f.symm⟩,by simp[aP,hk]⟩
  ·simp at h
theorem wW{T:c9}{z:PV}(h:cO P T=some z):∃i a,P.info? T=some i/\i.zero=some a/\(∀(w:db)(ad:Nat->Prop),bc P w ad z a.cells.toList)/\kindOf P T=aP z:=by
 unfold cO at h;cases hi:P.info? T with
 |none=>simp[hi]at h
 |some i=>
  simp only[hi,kw]at h;cases hz:i.zero with
  |none=>simp[hz]at h
  |some a=>
   simp only[hz]at h
   split at h
   case isFalse=>simp at h
   exact⟨i,a,rfl,hz,fun w ad=>(F7 40 T _ z h).1,(F7 (w:=default) (ad:=fun _=>True) 40 T _ z h).2⟩
theorem arF{T:c9}{z:PV}(h:cO P T=some z):∃a,(∀w:db,(zeroValue T).run P w=.ok a w)/\∀(w:db)(ad:Nat->Prop),aH P w ad z a:=by
 obtain⟨i,a,d,e,f,g⟩:=wW h;refine⟨a,fun w=>by simp[zeroValue,typeInfo,d,e],fun w ad=>?_⟩;have b:Ed a (aP z)=true:=by
  unfold cO at h;simp only[d,kw,e]at h
  split at h
  ·rename_i j;rw[<-g];exact j
  ·simp at h
 have hc:=f w ad;cases hs:aP z with
 |bad=>exact((uK hc).2 hs).elim
 |leaf=>
  rw[hs]at b;obtain⟨c,k1,k2⟩:=(xy hs _).1 hc;cases a<;>simp[Ed]at b<;>(simp[hA]at k1;subst k1;exact k2)
 |agg u=>
  rw[hs]at b;cases a<;>simp[Ed]at b;have:=(AA hs _).1 hc;simpa[hA]using this
theorem zO{T:c9}{i:dy}{a:cy}(h:P.info? T=some i)(hz:i.zero=some a)(w:db):(zeroValue T).run P w=.ok a w:=by
 simp[zeroValue,typeInfo,h,hz]
theorem avF{T:c9}{z:PV}(j:o.op=.alloc T)(hz:cO P T=some z)(hx:lQ T (aP z)=true):bM P o ρ base {v:=.ptr base [],bm:=[.box false (.p z)]}:=by
 obtain⟨i,b,d,e,f,n⟩:=wW hz;intro H w ad ai β m a q _ g;have c:H[base]?=some .hole:=by simpa using g 0 s_
 have l:(dg m o).run P w=.ok (.value (.pointer (some ⟨w.heap.size,0,none⟩))) {w with heap:=w.heap.push (.cells b.cells T)}:=by
  simp only[dg,j];simp[Instr.alloc,zO d e,newVar,newRow]
 have k:=xp (cap:=0) a c (ob:=.cells b.cells T) (o':=.box false (.p z))
  ⟨b.cells,T,by simp[Bd.at],by simp only[bG];exact f _ _,by
   simp only[dV,Bd.at,if_true,ck,if_false];exact⟨fun h=>j5 _ (a.cq _ h),fun h=>j5 _ (a.fN _ h)⟩,s_,by simpa[aa]using hx⟩ (by simp[Obj.refs,aI])
 refine⟨_,_,_,_,ad,l,.inl rfl,k,?_,?_⟩
 ·simp only[aD,cg,cG,oZ];exact⟨rfl,_,_,0,rfl,rfl,fun _=>by simp[Bd.at]⟩
 ·simp only[aI,oZ];exact⟨.box false (.p z),by simp only;rw[hL (hJ.1 c).1],trivial⟩
theorem Hv{T:c9}{a:dd}{v:AV}(g:o.op= .load T a){c:dd->cy}{az off:Nat}{b:List cy}(f:c a= .pointer (some ⟨az,off,none⟩))(hk:kindOf P T=aa v)
 (h:bG P w ad β H v b)(hc:ja w az off b):∃cv,(dg c o).run P w=.ok (.value cv) w/\aD P w ad β H v cv:=by
 obtain⟨cv,d,e⟩:=Ol hk h hc;refine⟨cv,?_,e⟩;simp only[dg,g,Instr.loadAt,f,gb];simp[d]
theorem DW{an:Nat}{d:List AV}{g:List (List cy)}(h:Row P w ad β H an d g){i:Nat}(hi:i<d.length):
 ∃a c post,g.flatten=a++c++post/\a.length=i*an/\c.length=an/\bG P w ad β H d[i] c/\
  ∀e c',bG P w ad β H e c'->c'.length=c.length->∃b,b.flatten=a++c'++post/\Row P w ad β H an (d.set i e) b:=by
 obtain⟨a,c,post,j,k,o,f,l,m⟩:=xH h (hP hi);have n:c.length=an:=by
  rw[hR]at f;rw[if_pos hi]at f;simpa using f.symm
 refine⟨a,c,post,j,?_,n,l,?_⟩
 ·rw[k,hQ,j4 o_,hN]
 ·intro e c' hf hc;obtain⟨b,k1,k2⟩:=m e c' hf hc;exact⟨b,k1,by unfold Row;rw[i7];exact k2⟩
theorem aO1{T:c9}{a:dd}(g:o.op= .load T a){H0:ak}{K:bg->Prop}(h:sv P T H0 (ρ a) K):
 ∃e,K e/\bM P o ρ base e/\(∀p∈e.aA,H0[p.1]?=some p.2)/\(∀p∈e.aW,p.1<H0.length/\p.2≠.hole):=by
 unfold sv at h
 split at h
 ·rename_i b G l
  split at h
  case h_2=>exact h.elim
  rename_i fz t r
  split at h
  case h_2=>exact h.elim
  rename_i s hs;obtain⟨hk,h⟩:=h;refine⟨_,h,bM.same fun H w ad ai β B j m aA=>?_,by simpa using r,s_⟩;obtain⟨d,x⟩:=m a (by simp[g,gx]);rw[l]at d;simp only[aD,cg,cG]at d;have f:H[b]?=some (.box fz t):=by simpa using aA
  obtain⟨_,D,F,A,u,q,d⟩:=d;obtain⟨rfl,rfl⟩:=d ⟨_,f,rfl⟩;obtain⟨cs,C,k1,k2,k3,k4⟩:=j.dQ b _ f;obtain⟨pre,xs,post,e1,e2,e3,_⟩:=tF k2 hs q;obtain⟨cv,g1,g2⟩:=Hv g u hk e3 (by rw[<-e2];exact pc k1 e1);exact⟨cv,g1,g2,Ad hs (j.refs b _ f)⟩
 ·rename_i b aF an i G l
  split at h
  case h_2=>exact h.elim
  rename_i k S O n r;obtain⟨rfl,rfl,hi,h⟩:=h
  split at h
  case h_2=>exact h.elim
  rename_i s hs;obtain⟨hk,h⟩:=h;refine⟨_,h,bM.same fun H w ad ai β B j m aA=>?_,by simpa using r,s_⟩;obtain⟨d,x⟩:=m a (by simp[g,gx]);rw[l]at d;simp only[aD,cg,cG]at d;have f:H[b]?=some (.arr k aF an n):=by simpa using aA
  have z:¬eU k n:=fun hn=>by rw[hn.2]at hi;simp at hi
  obtain⟨_,D,F,A,u,q,d⟩:=d;obtain⟨rfl,rfl⟩:=d k n f z;rcases j.dQ b _ f with hold|⟨cs,C,N,rest,k1,k2,k3,_⟩
  ·exact(z hold).elim
  obtain⟨J,c,I,r1,L,Q,M,_⟩:=DW k2 hi;obtain⟨pre,xs,post,e1,e2,e3,_⟩:=tF M hs q;have E:ja w (β.az b) (i*an+A) xs:=by
   have:cs.toList=(J++pre)++xs++(post++I++rest):=by rw[k3,r1,e1];simp
   have y:=pc k1 this;rw[h6,L,e2]at y;exact y
  obtain⟨cv,g1,g2⟩:=Hv g u hk e3 E;exact⟨cv,g1,g2,Ad hs (eQ.1 (j.refs b _ f) _ (i4 hi))⟩
 ·rename_i t l;obtain⟨hk,h⟩:=h;refine⟨_,h,bM.same fun H w ad ai β B j m aA=>?_,s_,s_⟩;obtain⟨d,x⟩:=m a (by simp[g,gx]);rw[l]at d;simp only[aD,aH]at d;obtain⟨az,off,R,k1,k2,k3,k4⟩:=d;obtain⟨cv,g1,g2⟩:=Hv (β:=β) (H:=H) (v:=.p t) g k4 (by simpa[aa]using hk) (by simpa only[bG]using k1) k3;exact⟨cv,g1,g2,by simp[aI]⟩
 ·exact h.elim
end
section
variable{P:da}{w:db}{ad ai:Nat->Prop}{β:Bd}{H:ak}
mutual
theorem Sd:∀{v:PV}{cs:List cy},bc P w ad v cs->∀c∈cs,c.oneCell'=true
 | .undef,_,h| .aE _,_,h=>by simp[bc]at h
 | .bool _,_,h| .int _ _,_,h| .gL,_,h| .aM,_,h| .gB,_,h| .iV,_,h| .iK,_,h=>by simp only[bc]at h;subst h;simp[hw]
 | .str _,_,h=>by simp only[bc]at h;obtain⟨_,rfl,_⟩:=h;simp[hw]
 | .cW _,_,h=>by simp only[bc]at h;obtain⟨_,_,_,_,_,_,rfl⟩:=h;simp[hw]
 | .dD _ _,_,h=>by simp only[bc]at h;obtain⟨_,_,_,_,_,_,_,_,_,_,_,_,rfl⟩:=h;simp[hw]
 | .seq _,_,h=>by simp only[bc]at h;rcases h with⟨_,rfl⟩|⟨_,_,_,_,_,_,_,_,_,_,_,rfl⟩<;>simp[hw]
 | .fA _,_,h=>by simp only[bc]at h;obtain⟨_,_,_,_,_,_,rfl⟩:=h;simp[hw]
 | .func _ _ _,_,h=>by simp only[bc]at h;obtain⟨_,_,_,_,rfl⟩:=h;simp[hw]
 | .st u fs,_,h=>by
  simp only[bc]at h;obtain⟨l,a,b,d,rfl⟩:=h;exact Rn d
theorem Rn:∀{l:List Nat}{vs:List PV}{a:List (List cy)},bA P w ad l vs a->∀c∈a.flatten,c.oneCell'=true
 |[],[],_,h=>by simp only[bA]at h;subst h;simp
 |[],_::_,_,h=>by simp[bA]at h
 |_::_,[],_,h=>by simp[bA]at h
 |n::f,v::vs,a,h=>by
  simp only[bA]at h;obtain⟨c,cs,rfl,b,d,e⟩:=h;intro x hx;simp only[hW,hZ]at hx;exact hx.elim (Sd b x) (Rn e x)
end
mutual
theorem Dt:∀{v:AV}{cs:List cy},bG P w ad β H v cs->∀c∈cs,c.oneCell'=true
 | .p t,_,h=>by simp only[bG]at h;exact Sd h
 | .ptr ..,_,h| .cM ..,_,h| .sl ..,_,h| .map ..,_,h=>by simp only[bG]at h;obtain⟨v,rfl,b,_⟩:=h;simpa using b
 | .func ..,_,h=>by simp only[bG]at h;obtain⟨_,_,_,_,rfl⟩:=h;simp[hw]
 | .aE _,_,h=>by simp[bG]at h
 | .st u fs,_,h=>by
  simp only[bG]at h;obtain⟨l,a,b,d,rfl⟩:=h;exact Ro d
theorem Ro:∀{l:List Nat}{vs:List AV}{a:List (List cy)},b9 P w ad β H l vs a->∀c∈a.flatten,c.oneCell'=true
 |[],[],_,h=>by simp only[b9]at h;subst h;simp
 |[],_::_,_,h=>by simp[b9]at h
 |_::_,[],_,h=>by simp[b9]at h
 |n::f,v::vs,a,h=>by
  simp only[b9]at h;obtain⟨c,cs,rfl,b,d,e⟩:=h;intro x hx;simp only[hW,hZ]at hx;exact hx.elim (Dt b x) (Ro e x)
end
theorem zz(d:cK P w ad β H ai){b:Nat}{o o':Obj}(c:H[b]?=some o)(j:o.live)(l:o'.live)(m:∀v,o.has v->o'.has v){q new:Array cy}{T:c9}
 (i:w.heap[β.az b]?=some (.cells q T (0,0)))(e:¬ad (β.az b)/\¬ai (β.az b))(aY:cZ β H β (H.set b o'))
 (n:fP P (w.setRow (β.az b) new) ad β (H.set b o') ai b o')(p:o'.refs (aQ (H.set b o'))):
 cF P ai ad w β H ad (w.setRow (β.az b) new) β (H.set b o'):=by
 refine cF.set d (hJ.1 c).1 (fun _ _=>⟨rfl,rfl⟩) (fun _ x=>x) (fun _ x=>.inl x) (fun k hk=>by rw[ew];exact d.cq k hk) (by rw[ew];exact j3 _)
  (fun k hk _=>ei w _ k _ (hk.resolve_right (fun h=>h l))) (fun _=>.inr ⟨rfl,⟨o,c,j⟩,.inr e.1,e.2⟩) aY n p (fun r v a f=>by rw[c]at a;cases a;exact m v f) (fun L g=>by obtain⟨_,_,_,a,_⟩:=d.dQ b _ g;rw[i]at a;cases a)
variable{o:Oper}{ρ:dd->AV}{base:Nat}
theorem Pg{T:c9}{a x:dd}(p:o.op= .store T a x){e:dd->cy}{az off:Nat}{b:List cy}{d:Array cy}{f:c9}(j:e a= .pointer (some ⟨az,off,none⟩))
 (hx:(e x).cells.toList=b)(q:P.cellsOf T=b.length/\∃i,P.info? T=some i/\i.size=b.length)(k:w.heap[az]?=some (.cells d f (0,0)))(n:∀c∈b,c.oneCell'=true)(m:off+b.length<=d.size):
 (dg e o).run P w=.ok .skip (w.setRow az (d.toList.take off++b++d.toList.drop (off+b.length)).toArray):=by
 obtain⟨_,i,hi,l⟩:=q;have h:(sizeOf T).run P w=.ok b.length w:=by simp[sizeOf,typeInfo,hi,l]
 have g:=eo (P:=P) az off f b 0 d w k (by simpa using m) n;simp only[j7]at g;have r:(e x).cells.size=b.length:=by rw[<-hx];simp
 simp only[dg,p,Instr.storeAt,j,gb];simp[storeVar,h,r,hx,g]
theorem GG(u:c9)(fs:List AV):aa (jm u fs)=.agg u:=by
 unfold jm;split<;>rfl
theorem au8{t:AV}{c:List (c9×Nat)}{x s d:AV}(hs:fY t c=some s)(a:iu t c x=some d)(e:aa s=aa x):aa d=aa t:=by
 cases c with
 |nil=>
  simp only[iu,kx]at a;subst a;have:s=t:=by
   cases t<;>simp[fY]at hs<;>exact hs.symm
  rw[<-e,this]
 |cons p r=>
  obtain⟨u,i⟩:=p;cases t<;>simp only[iu]at a
  case p t=>
   split at a
   case isFalse=>simp at a
   rename_i b
   split at a
   case h_2=>simp at a
   split at a
   case h_2=>simp at a
   simp only[kx]at a;subst a;rw[GG];simp[aa,b]
  case st u' fs=>
   split at a
   case isFalse=>simp at a
   rename_i b
   split at a
   case h_2=>simp at a
   split at a
   case h_2=>simp at a
   simp only[kx]at a;subst a;rw[GG];simp[aa,b]
  all_goals simp at a
theorem avz{T:c9}{a x:dd}(z:o.op= .store T a x){H0:ak}{K:bg->Prop}(h:rU P T H0 (ρ a) (ρ x) K):
 ∃e,K e/\bM P o ρ base e/\(∀p∈e.aA,H0[p.1]?=some p.2)/\(∀p∈e.aW,p.1<H0.length/\p.2≠.hole):=by
 unfold rU at h;obtain⟨hk,aa,h⟩:=h
 split at h
 ·rename_i b ao M
  split at h
  case h_2=>exact h.elim
  rename_i t B
  split at h
  case h_2=>exact h.elim
  rename_i s j hs r;obtain⟨I,h⟩:=h;refine⟨_,h,?_,by simpa using B,by simpa using(hJ.1 B).1⟩;intro H w ad ai β f l D aA _;have d:H[b]?=some (.box false t):=by simpa using aA
  obtain⟨g,_⟩:=D a (by simp[z,gx]);obtain⟨Z,L⟩:=D x (by simp[z,gx]);rw[M]at g;simp only[aD,cg,cG]at g;obtain⟨_,ah,Y,J,V,S,g⟩:=g;obtain⟨rfl,rfl⟩:=g ⟨_,d,rfl⟩;obtain⟨cs,A,k1,k2,k3,k4⟩:=l.dQ b _ d;obtain⟨pre,xs,post,e1,e2,e3,e4⟩:=tF k2 hs S;have m:=CJ Z aa;have q:(f x).cells.toList.length=xs.length:=by rw[(rO m).1,(rO e3).1,I]
  have ac:cs.size=pre.length+xs.length+post.length:=by
   have:=congrArg h9 e1;simp at this;omega
  have C:=Pg z V rfl (Cr hk m) k1 (Dt m) o_;have bm:(cs.toList.take Y++(f x).cells.toList++cs.toList.drop (Y+(f x).cells.toList.length))=pre++(f x).cells.toList++post:=by
   rw[e1,q,<-e2];simp
  rw[bm]at C;have aY:cZ β H β (H.set b (.box false j)):=nM d;have O:∀y,aQ H y->aQ (H.set b (.box false j)) y:=rP d (fun _ h=>h);have W:∀k,ad k->(w.setRow (β.az b) (pre++(f x).cells.toList++post).toArray).heap[k]?=w.heap[k]?:=fun k R=>ei w _ k _ (fun N=>k3.1 (N▸R));have U:=zz l d trivial (o':=.box false j) trivial (fun _ h=>h) k1 (new:=(pre++(f x).cells.toList++post).toArray) k3 aY
   ⟨_,A,ey w _ _ _ A _ k1,bG.mono (fun _ x=>x) W aY _ _ (Ae r (l.refs b _ d) L) (e4 _ _ _ r m q),k3,s_,by rw[au8 hs r I];exact k4.2⟩
   (aI.mono O _ (Ae r (l.refs b _ d) L))
  exact⟨_,_,_,β,ad,C,.inr ⟨rfl,rfl⟩,U,by simp[aD,aH,bY,undef],by simp[aI]⟩
 ·rename_i b aF an i ao M
  split at h
  case h_2=>exact h.elim
  rename_i k ax av n B;obtain⟨rfl,rfl,af,hi,h⟩:=h
  split at h
  case h_2=>exact h.elim
  rename_i s j hs r;obtain⟨I,h⟩:=h;refine⟨_,h,?_,by simpa using B,by simpa using(hJ.1 B).1⟩;intro H w ad ai β f l D aA _;have d:H[b]?=some (.arr k aF an n):=by simpa using aA
  obtain⟨g,_⟩:=D a (by simp[z,gx]);obtain⟨Z,L⟩:=D x (by simp[z,gx]);rw[M]at g;simp only[aD,cg,cG]at g;have G:¬eU k n:=fun hn=>by rw[hn.2]at hi;simp at hi
  obtain⟨_,ah,Y,J,V,S,g⟩:=g;obtain⟨rfl,rfl⟩:=g k n d G;rcases l.dQ b _ d with hold|⟨cs,A,au,rest,k1,k2,k3,k4,k5,k6,k7,k8⟩
  ·exact(G hold).elim
  have ae:¬ad (β.az b)/\¬ai (β.az b):=by
   unfold dV at k7;rw[if_neg (by simpa using af)]at k7;exact k7
  obtain⟨u,c,F,r1,ap,aw,aq,ar⟩:=DW k2 hi;obtain⟨pre,xs,post,e1,e2,e3,e4⟩:=tF aq hs S;have m:=CJ Z aa;have q:(f x).cells.toList.length=xs.length:=by rw[(rO m).1,(rO e3).1,I]
  have ab:cs.toList=(u++pre)++xs++(post++F++rest):=by rw[k3,r1,e1];simp
  have ac:cs.size=(u++pre).length+xs.length+(post++F++rest).length:=by
   have:=congrArg h9 ab;simp at this⊢;omega
  have am:(u++pre).length=i*an+J:=by simp[ap,e2]
  have C:=Pg z V rfl (Cr hk m) k1 (Dt m) o_;have bm:(cs.toList.take (i*an+J)++(f x).cells.toList++cs.toList.drop (i*an+J+(f x).cells.toList.length))=(u++pre)++(f x).cells.toList++(post++F++rest):=by
   rw[ab,q,<-am,hS (u++pre),List.take_left',List.drop_append,hS]
   ·simp
   ·rfl
  rw[bm]at C;obtain⟨aj,c1,c2⟩:=ar j _ (e4 _ _ _ r m q) (by rw[e1];simp[q]);have aY:cZ β H β (H.set b (.arr k aF an (n.set i j))):=Lz d s_;have O:∀y,aQ H y->aQ (H.set b (.arr k aF an (n.set i j))) y:=rP d (fun _ h=>h);have al:¬eU k (n.set i j):=fun hn=>G ⟨hn.1,by have:=hn.2;rw[List.set_eq_nil_iff]at this;exact this⟩;have ag:bk (aQ H) (n.set i j):=by
   rw[eQ];intro v X;rcases hU X with X|rfl
   ·exact eQ.1 (l.refs b _ d) v X
   ·exact Ae r (eQ.1 (l.refs b _ d) _ (i4 hi)) L
  have W:∀E,ad E->(w.setRow (β.az b) ((u++pre)++(f x).cells.toList++(post++F++rest)).toArray).heap[E]?=w.heap[E]?:=fun E R=>ei w _ E _ (fun N=>ae.1 (N▸R));have U:=zz l d G (o':=.arr k aF an (n.set i j)) al (fun _ h=>h) k1 (new:=((u++pre)++(f x).cells.toList++(post++F++rest)).toArray) ae aY
   (.inr ⟨_,A,aj,rest,ey w _ _ _ A _ k1,b9.mono (fun _ x=>x) W aY _ _ _ ag c2,by rw[c1];simp,by
    rw[<-k4,ac];simp[q];omega,by simpa using k5,fun Q=>by rw[k6 Q];simp,k7,(fun Q=>(af Q).elim),k8.2⟩)
   (bk.mono O _ ag)
  exact⟨_,_,_,β,ad,C,.inr ⟨rfl,rfl⟩,U,by simp[aD,aH,bY,undef],by simp[aI]⟩
 ·exact h.elim
end
section
variable{P:da}{w:db}{ad ai:Nat->Prop}{β:Bd}{H:ak}
theorem F2(P:da)(T:c9):P.underlying T=(P.info? (P.underlyingId T)).map (fun i:dy=>i.desc):=by
 unfold g9 ha;cases hi:P.info? T with
 |none=>simp[hi]
 |some i=>
  obtain⟨d,_,_,_,_,_,_,_,_,_⟩:=i;cases d<;>simp[hi]
theorem Gj{T u:c9}(h:kindOf P T=.agg u):u=P.underlyingId T/\(∃l,dG P u=some l)/\P.cellsOf T=P.cellsOf u:=by
 unfold kindOf at h
 split at h
 ·split at h
  ·rename_i hc;simp at h;subst h;simp at hc;exact⟨rfl,kv.1 hc.1,hc.2⟩
  ·simp at h
 ·split at h
  ·rename_i hc;simp at h;subst h;simp at hc;exact⟨rfl,kv.1 hc.1,hc.2⟩
  ·simp at h
 ·split at h<;>simp at h
 ·simp at h
theorem zG{T u:c9}{n:Nat}(h:fp P T=some (u,n)):∃fs l,P.underlying T=some (.struct fs)/\fs.size=n/\kindOf P T= .agg u/\dG P u=some l/\l.length=n/\
 ∀(i:Nat)(_hi:i<n),∃f,fs[i]?=some f/\f.offset=(l.take i).sum/\l[i]?=some (P.cellsOf f.type)/\0<P.cellsOf f.type/\(l6 P u)[i]?=some f.type:=by
 unfold fp at h
 split at h
 case h_2=>simp at h
 rename_i u' fs hk c;simp at h;obtain⟨rfl,rfl⟩:=h;obtain⟨g,⟨l,a⟩,_⟩:=Gj hk;refine⟨fs,l,c,rfl,hk,a,?_⟩;have b:(P.info? u').map (fun i:dy=>i.desc)=some (.struct fs):=by rw[g,<-F2,c]
 unfold dG at a;rw[b]at a;dsimp only at a
 split at a
 case isFalse=>simp at a
 rename_i hc;simp at a;simp only[cx,i5,decide_eq_true_eq,beq_iff_eq]at hc;obtain⟨⟨d,j⟩,e⟩:=hc;subst a;refine⟨s_,fun i hi=>?_⟩;refine⟨fs[i],by simp[hi],?_,by simp[hi],?_,?_⟩
 ·have:=e (fs[i],i) (by rw[List.mem_iff_getElem?];exact⟨i,by simp[hi]⟩);simpa using this
 ·have:=d (P.cellsOf fs[i].type) (by simp;exact⟨fs[i],s_,rfl⟩);exact this
 ·unfold l6;rw[b];simp[hi]
theorem xB{T u:c9}{n:Nat}(h:iO P T=some (u,n)):∃e,P.underlying T=some (.array n e)/\kindOf P T=.agg u/\dG P u=some (hK n (P.cellsOf e))/\0<P.cellsOf e:=by
 unfold iO at h
 split at h
 case h_2=>simp at h
 rename_i u' g e hk b;simp at h;obtain⟨rfl,rfl⟩:=h;obtain⟨d,⟨l,a⟩,_⟩:=Gj hk;have c:(P.info? u').map (fun i:dy=>i.desc)=some (.array g e):=by rw[d,<-F2,b]
 have f:=a;unfold dG at a;rw[c]at a;dsimp only at a
 split at a
 case isFalse=>simp at a
 rename_i hc;simp at a hc;exact⟨e,b,hk,by rw[f,a],hc.1⟩
theorem Cs{p q:List (c9×Nat)}{a b:Nat}(c:iF P p=some a)(e:iF P q=some b):iF P (p++q)=some (a+b):=by
 induction p generalizing a with
 |nil=>simp[iF]at c;subst c;simpa using e
 |cons x p f=>
  obtain⟨u,i⟩:=x;simp only[iF]at c;cases hz:dG P u with
  |none=>simp[hz]at c
  |some l=>
   cases d:iF P p with
   |none=>simp[hz,d]at c
   |some a'=>
    simp[hz,d]at c;obtain⟨hi,rfl⟩:=c;simp only[h7,iF,hz,f d,if_pos hi];congr 1;omega
theorem Cw{u:c9}{i:Nat}{l:List Nat}(a:dG P u=some l)(hi:i<l.length):iF P [(u,i)]=some (l.take i).sum:=by
 simp[iF,a,hi]
variable{o:Oper}{ρ:dd->AV}{base:Nat}
theorem mW(az off n:Nat):(⟨az,off,none⟩:Addr).add n=⟨az,off+n,none⟩:=by unfold Addr.add;split<;>simp_all
theorem ZN{T:c9}{a:dd}{f:Nat}(v:o.op= .fieldAddr T a f){K:bg->Prop}(h:rK P T (ρ a) f K):
 ∃e,K e/\bM P o ρ base e/\e.aA=[]/\e.aW=[]:=by
 unfold rK at h
 split at h
 case h_2=>exact h.elim
 rename_i u n aY;obtain⟨hf,h⟩:=h;obtain⟨fs,l,J,hn,hk,F,N,D⟩:=zG aY;obtain⟨fd,g1,g2,g3,g4,g5⟩:=D f hf;have y:=Cw F (by omega:f<l.length);have A:∀(w:db)(d:dd->cy)(az off:Nat),d a=.pointer (some ⟨az,off,none⟩)->(dg d o).run P w=.ok (.value (.pointer (some ⟨az,off+(l.take f).sum,none⟩))) w:=by
  intro w d az off m;obtain⟨i,hi⟩:∃i,P.info? fd.type=some i:=by
   cases hi:P.info? fd.type with
   |none=>simp[g8,hi]at g4
   |some i=>exact⟨i,rfl⟩
  have I:(sizeOf fd.type).run P w=.ok (P.cellsOf fd.type) w:=by simp[sizeOf,typeInfo,hi,g8]
  simp only[dg,v];refine gI ?_;have G:¬P.cellsOf fd.type=0:=o_
  simp[Instr.fieldAt,c6 J,g1,m,gb,fieldPlace,I,G,mW,g2]
 split at h
 ·rename_i b M m;refine⟨_,h,bM.same fun H w ad ai β d C r _=>?_,rfl,rfl⟩;obtain⟨c,j⟩:=r a (by simp[v,gx]);rw[m]at c j;simp only[aD,cg,cG,aI]at c j;obtain⟨_,az,off,L,z,x,p⟩:=c;refine⟨_,A w d _ _ z,?_,by simpa[aI]using j⟩;simp only[aD,cg,cG];exact⟨rfl,_,_,_,rfl,Cs x y,fun q=>⟨(p q).1,by rw[(p q).2]⟩⟩
 ·rename_i b aF an i M m;refine⟨_,h,bM.same fun H w ad ai β d C r _=>?_,rfl,rfl⟩;obtain⟨c,j⟩:=r a (by simp[v,gx]);rw[m]at c j;simp only[aD,cg,cG,aI]at c j;obtain⟨_,az,off,L,z,x,p⟩:=c;refine⟨_,A w d _ _ z,?_,by simpa[aI]using j⟩;simp only[aD,cg,cG];exact⟨rfl,_,_,_,rfl,Cs x y,fun k B q hn=>⟨(p k B q hn).1,by rw[(p k B q hn).2];omega⟩⟩
 ·rename_i t m;obtain⟨hs,h⟩:=h
  split at h
  case h_2=>exact h.elim
  rename_i g E;refine⟨_,h,?_,rfl,rfl⟩;refine bM.same fun H w ad ai β d C r _=>?_;obtain⟨c,_⟩:=r a (by simp[v,gx]);rw[m]at c;simp only[aD,aH]at c;obtain⟨az,off,O,k1,k2,k3,k4⟩:=c;refine⟨_,A w d _ _ k4,?_,by simp[aI]⟩;obtain⟨pre,xs,post,e1,e2,e3⟩:=Da (path:=[(u,f)]) (s:=g) k1 (by simp[nC,hs,E]) y;simp only[aD,aH];refine⟨az,off+(l.take f).sum,xs,e3,k2,?_,rfl⟩;intro i hi;have:=k3 (pre.length+i) (by rw[e1];simp;omega);rw[<-e2,kc,this];congr 1;simp only[e1,hS];rw[ih o_];simp only[j6];rw[ik hi]
 ·exact h.elim
end
section
variable{P:da}{w:db}{ad ai:Nat->Prop}{β:Bd}{H:ak}
variable{o:Oper}{ρ:dd->AV}{base:Nat}
theorem xd{az off:Nat}{a pre xs post:List cy}(h:ja w az off a)(e:a=pre++xs++post):ja w az (off+pre.length) xs:=by
 intro i hi;have:=h (pre.length+i) (by rw[e];simp;omega);rw[kc,this];congr 1;simp only[e,hS];rw[ih o_];simp only[j6];rw[ik hi]
structure uO(P:da)(T:c9)(sz:Nat)(e:c9)(i:dy):Prop where
 jR:P.underlying T=some (.slice e)
 info:P.info? e=some i
 size:i.size=sz
 pos:0<sz
 bytes:i.bytes<32768
 aRY:0<i.bytes
 wx:fR P T=e
theorem qo{T:c9}{sz:Nat}(h:dH P T=some sz):∃e i,uO P T sz e i:=by
 unfold dH at h
 split at h
 case h_2=>simp at h
 rename_i e a
 split at h
 case h_2=>simp at h
 rename_i i hi
 split at h
 case isFalse=>simp at h
 rename_i hc;simp at h;subst h;exact⟨e,i,a,hi,rfl,hc.2.1,hc.1,hc.2.2,by simp[fR,a]⟩
theorem uO.run{T:c9}{sz:Nat}{e:c9}{i:dy}(h:uO P T sz e i)(w:db):(sizeOf e).run P w=.ok sz w:=by
 simp[sizeOf,typeInfo,h.info,h.size]
theorem ZM{T:c9}{x R:dd}(B:o.op= .indexAddr T x R){H0:ak}{K:bg->Prop}(h:rJ P T H0 (ρ x) (ρ R) K):
 ∃e,K e/\bM P o ρ base e/\(∀p∈e.aA,H0[p.1]?=some p.2)/\e.aW=[]:=by
 unfold rJ at h
 split at h
 case h_2=>exact h.elim
 rename_i am n ag;obtain⟨C,h⟩:=h;have E:x∈o.op.operands:=by simp[B,gx]
 have ah:R∈o.op.operands:=by simp[B,gx]
 have D:∀{H:ak}{w:db}{ad:Nat->Prop}{β:Bd}{z:dd->cy},(∀y∈o.op.operands,aD P w ad β H (ρ y) (z y)/\aI (aQ H) (ρ y))->z R=.int am n:=by
  intro H w ad β z f;have:=(f R ah).1;rw[ag]at this;simpa[aD,aH]using this
 split at h
 ·
  rename_i full d hx;obtain⟨j,r,h⟩:=h;obtain⟨e,ae,A⟩:=qo r;refine⟨_,h,bM.same fun H w ad ai β z N f _=>?_,s_,rfl⟩;obtain⟨a,_⟩:=f x E;rw[hx]at a;simp only[aD,aH]at a;obtain⟨az,off,cap,an,U,k1,k2,k3,k4,k5,sp,Z,k6⟩:=a;obtain rfl:sp=none:=Z.resolve_right o_;have Y:Row P w ad ⟨id,id⟩ [] an (d.map .p) U:=pq.2 k1;obtain⟨pre,c,post,r1,aa,ab,S,_⟩:=DW Y (i:=n.toNat) (by simpa using j);have L:bc P w ad d[n.toNat] c:=by
   have:(d.map AV.p)[n.toNat]'(by simpa using j)=.p d[n.toNat]:=s_
   rw[this]at S;simpa only[bG]using S
  have V:bZ P (aP d[n.toNat])=an:=by rw[<-(uK L).1,ab]
  refine⟨.pointer (some ⟨az,off+n.toNat*an,none⟩),?_,?_,by simp[aI]⟩
  ·simp only[dg,B];refine gI ?_;have q:n<(d.length:Int):=by omega
   simp[ge,D f,asIntOf,c6 A.jR,k6,C,q,A.run,V,mW]
  ·simp only[aD,aH];refine⟨az,off+n.toNat*an,c,L,k2 (by intro hn;rw[hn]at j;simp at j),?_,rfl⟩;rw[<-aa];exact xd k3 r1
 ·
  rename_i d hx;obtain⟨j,r,h⟩:=h;obtain⟨e,ae,A⟩:=qo r;refine⟨_,h,bM.same fun H w ad ai β z N f _=>?_,s_,rfl⟩;obtain⟨a,_⟩:=f x E;rw[hx]at a;simp only[aD,aH]at a;rcases a with⟨rfl,_⟩|⟨az,off,cap,an,U,k1,k2,k3,k5,sp,Z,k6⟩
  ·simp at j
  obtain rfl:sp=none:=Z.resolve_right o_;have Y:Row P w ad ⟨id,id⟩ [] an (d.map .p) U:=pq.2 k1;obtain⟨pre,c,post,r1,aa,ab,S,_⟩:=DW Y (i:=n.toNat) (by simpa using j);have L:bc P w ad d[n.toNat] c:=by
   have:(d.map AV.p)[n.toNat]'(by simpa using j)=.p d[n.toNat]:=s_
   rw[this]at S;simpa only[bG]using S
  have V:bZ P (aP d[n.toNat])=an:=by rw[<-(uK L).1,ab]
  refine⟨.pointer (some ⟨az,off+n.toNat*an,none⟩),?_,?_,by simp[aI]⟩
  ·simp only[dg,B];refine gI ?_;have q:n<(d.length:Int):=by omega
   simp[ge,D f,asIntOf,c6 A.jR,k6,C,q,A.run,V,mW]
  ·simp only[aD,aH];refine⟨az,off+n.toNat*an,c,L,k2 (by intro hn;rw[hn]at j;simp at j),?_,rfl⟩;rw[<-aa];exact xd k3 r1
 ·
  rename_i b aF an off len hx;obtain⟨r,j,h⟩:=h;obtain⟨e,ae,A⟩:=qo r
  split at h
  case h_2=>exact h.elim
  rename_i k ax ar d al;obtain⟨rfl,rfl,aj,h⟩:=h;refine⟨_,h,bM.same fun H w ad ai β z N f aA=>?_,by simpa using al,rfl⟩;obtain⟨a,l⟩:=f x E;rw[hx]at a l;simp only[aD,cg,cG,aI]at a l;have ac:H[b]?=some (.arr k aF an d):=by simpa using aA
  obtain⟨g1,g2,g3⟩:=a.2 k d ac;have g3:=g3 aj;refine⟨.pointer (some ⟨β.az b,off*an+n.toNat*an,none⟩),?_,?_,by simpa[aI]using l⟩
  ·simp only[dg,B];refine gI ?_;have q:n<(len:Int):=by omega
   simp[ge,D f,asIntOf,c6 A.jR,g3,C,q,A.run,mW]
  ·simp only[aD,cg,cG];refine⟨rfl,_,_,0,rfl,rfl,fun av aq v au=>?_⟩;unfold jc at v;rw[ac]at v;cases v;exact⟨rfl,by rw[km];simp⟩
 ·
  rename_i b ap hx
  split at h
  case h_2=>exact h.elim
  rename_i u m F;obtain⟨j,h⟩:=h;obtain⟨e,Q,hk,G,M⟩:=xB F;refine⟨_,h,bM.same fun H w ad ai β z N f _=>?_,s_,rfl⟩;obtain⟨a,l⟩:=f x E;rw[hx]at a l;simp only[aD,cg,cG,aI]at a l;obtain⟨_,az,off,ao,X,W,v⟩:=a;have J:=Cw G (i:=n.toNat) (by simpa using j);have O:((hK m (P.cellsOf e)).take n.toNat).sum=n.toNat*P.cellsOf e:=by rw[hQ,j4 o_,hN]
  have r:(sizeOf e).run P w=.ok (P.cellsOf e) w:=by
   cases hi:P.info? e with
   |none=>simp[g8,hi]at M
   |some i=>simp[sizeOf,typeInfo,hi,g8]
  refine⟨.pointer (some ⟨az,off+n.toNat*P.cellsOf e,none⟩),?_,?_,by simpa[aI]using l⟩
  ·simp only[dg,B];refine gI ?_;have q:n<(m:Int):=by omega
   simp[ge,D f,asIntOf,c6 Q,X,gb,C,q,r,mW]
  ·simp only[aD,cg,cG];exact⟨rfl,_,_,_,rfl,Cs W J,fun I=>⟨(v I).1,by rw[(v I).2,O]⟩⟩
 ·rename_i b aF an i ap hx
  split at h
  case h_2=>exact h.elim
  rename_i u m F;obtain⟨j,h⟩:=h;obtain⟨e,Q,hk,G,M⟩:=xB F;refine⟨_,h,bM.same fun H w ad ai β z N f _=>?_,s_,rfl⟩;obtain⟨a,l⟩:=f x E;rw[hx]at a l;simp only[aD,cg,cG,aI]at a l;obtain⟨_,az,off,ao,X,W,v⟩:=a;have J:=Cw G (i:=n.toNat) (by simpa using j);have O:((hK m (P.cellsOf e)).take n.toNat).sum=n.toNat*P.cellsOf e:=by rw[hQ,j4 o_,hN]
  have r:(sizeOf e).run P w=.ok (P.cellsOf e) w:=by
   cases hi:P.info? e with
   |none=>simp[g8,hi]at M
   |some i=>simp[sizeOf,typeInfo,hi,g8]
  refine⟨.pointer (some ⟨az,off+n.toNat*P.cellsOf e,none⟩),?_,?_,by simpa[aI]using l⟩
  ·simp only[dg,B];refine gI ?_;have q:n<(m:Int):=by omega
   simp[ge,D f,asIntOf,c6 Q,X,gb,C,q,r,mW]
  ·simp only[aD,cg,cG];exact⟨rfl,_,_,_,rfl,Cs W J,fun k d I hn=>⟨(v k d I hn).1,by rw[(v k d I hn).2,O];omega⟩⟩
 ·rename_i t hx
  split at h
  case h_2=>exact h.elim
  rename_i u m F;obtain⟨hs,j,h⟩:=h
  split at h
  case h_2=>exact h.elim
  rename_i g af;obtain⟨e,Q,hk,G,M⟩:=xB F;refine⟨_,h,bM.same fun H w ad ai β z N f _=>?_,s_,rfl⟩;obtain⟨a,_⟩:=f x E;rw[hx]at a;simp only[aD,aH]at a;obtain⟨az,off,aw,k1,k2,k3,k4⟩:=a;have J:=Cw G (i:=n.toNat) (by simpa using j);have O:((hK m (P.cellsOf e)).take n.toNat).sum=n.toNat*P.cellsOf e:=by rw[hQ,j4 o_,hN]
  have r:(sizeOf e).run P w=.ok (P.cellsOf e) w:=by
   cases hi:P.info? e with
   |none=>simp[g8,hi]at M
   |some i=>simp[sizeOf,typeInfo,hi,g8]
  obtain⟨pre,xs,post,e1,e2,e3⟩:=Da (path:=[(u,n.toNat)]) (s:=g) k1 (by simp[nC,hs,af]) J;refine⟨.pointer (some ⟨az,off+n.toNat*P.cellsOf e,none⟩),?_,?_,by simp[aI]⟩
  ·simp only[dg,B];refine gI ?_;have q:n<(m:Int):=by omega
   simp[ge,D f,asIntOf,c6 Q,k4,gb,C,q,r,mW]
  ·simp only[aD,aH];refine⟨az,_,xs,e3,k2,?_,rfl⟩;rw[<-O,<-e2];exact xd k3 e1
 ·exact h.elim
theorem aQv{bs:ByteArray}{s:List Nat}(h:s=bs.data.toList.map (·.toNat)){i:Nat}(hi:i<s.length):∃b:UInt8,bs[i]?=some b/\b.toNat=s[i]:=by
 subst h;have a:i<bs.size:=by simpa using hi
 refine⟨bs[i],by simp[a],?_⟩;simp only[List.getElem_map,b3];rfl
theorem ano{T:c9}{x f:dd}{s:List Nat}{k:ed}{n:Int}(e:o.op= .index T x f)(hx:ρ x= .p (.str s))(hi:ρ f= .p (.int k n))(d:jG P T=true)(i:0<=n)(g:n.toNat<s.length):
 bM P o ρ base {v:=.p (.int .u8 (s[n.toNat]'g))}:=by
 refine bM.same fun H w ad ai β m l h _=>?_;have a:=(h x (by simp[e,gx])).1;have c:=(h f (by simp[e,gx])).1;rw[hx]at a;rw[hi]at c;simp only[aD,aH]at a c;obtain⟨bs,e1,e2⟩:=a;obtain⟨b,g1,g2⟩:=aQv e2 g;have j:P.underlying T=some .string:=by
  unfold jG at d
  split at d
  ·assumption
  ·simp at d
 refine⟨.int .u8 b.toNat,?_,by simp[aD,aH,g2],by simp[aI]⟩;simp only[dg,e,e1,c];refine gI ?_;simp[Instr.index,asIntOf,c6 j,i,g1]
theorem aqI{S D:c9}{x:dd}{k k0:ed}{n:Int}(b:o.op= .convert S D x)(e:∃d,P.underlying S=some d)(c:P.underlying D=some (.int k))(hx:ρ x= .p (.int k0 n)):
 bM P o ρ base {v:=.p (.int k (k.wrap n))}:=by
 refine bM.same fun H w ad ai β i h g _=>?_;have a:=(g x (by simp[b,gx])).1;rw[hx]at a;simp only[aD,aH]at a;obtain⟨d,f⟩:=e;refine⟨.int k (k.wrap n),?_,by simp[aD,aH],by simp[aI]⟩;simp only[dg,b,a];refine gI ?_;simp[convert,c6 f,c6 c,Conv.intToInt]
theorem aqH{S D:c9}{x:dd}{s:List Nat}(b:o.op= .convert S D x)(e:∃d,P.underlying S=some d)(c:P.underlying D=some .string)(hx:ρ x= .p (.str s)):
 bM P o ρ base {v:=.p (.str s)}:=by
 refine bM.same fun H w ad ai β i h g _=>?_;have a:=(g x (by simp[b,gx])).1;rw[hx]at a;simp only[aD,aH]at a;obtain⟨bs,e1,e2⟩:=a;obtain⟨d,f⟩:=e;refine⟨.string bs,?_,by simp only[aD,aH];exact⟨bs,rfl,e2⟩,by simp[aI]⟩;simp only[dg,b,e1];refine gI ?_;simp only[convert,hl,c6 f,c6 c,hj];cases d<;>simp
theorem arh{b aF an off len:Nat}{k:AK}{d:List AV}{v:cy}(h:aD P w ad β H (.sl b aF an off len) v)(i:H[b]?=some (.arr k aF an d)):∃a c,v=.slice a len c:=by
 simp only[aD,cg,cG]at h;obtain⟨e,f,g⟩:=h.2 k d i
 by_cases hn:eU k d
 ·rw[f hn];have:len=0:=by rw[hn.2]at e;simp at e;omega
  subst this;exact⟨_,_,rfl⟩
 ·exact⟨_,_,g hn⟩
theorem Gs:∀{b:List (PV×PV)}{a:List ej},dB P w ad b a->a.length=b.length
 |[],a,h=>by simp only[dB]at h;subst h;rfl
 |(k,v)::r,a,h=>by
  simp only[dB]at h;obtain⟨e,rest,rfl,d,f,c⟩:=h;simp[Gs c]
theorem aO0{c:Call}{x:dd}{n:Nat}{aA:List (Nat×Obj)}{H0:ak}(F:o.op= .call c)(hc:c.callee= .builtin .len)(D:c.args.toList=[x])(i:lenOf H0 (ρ x)=some (n,aA))(d:mX P (c.argTypes.getD 0 0) (ρ x)=true)(N:0<c.argTypes.size):
 bM P o ρ base {v:=.p (.int .i64 n),aA}/\(∀p∈aA,H0[p.1]?=some p.2):=by
 have u:x∈o.op.operands:=by
  rw[F];simp only[gx,Call.operands,hc];simp;rw[<-bI,D];simp
 have I:c.args=#[x]:=by apply b0;simpa using D
 have q:c.argTypes[0]?=some (c.argTypes.getD 0 0):=by simp[cc,N]
 have t:∀{H:ak}{w:db}{ad:Nat->Prop}{β:Bd}{m:dd->cy},((e8 c.argTypes o.type #[m x]).run P w= .ok (goInt n) w)->
  ∃cv,(dg m o).run P w=.ok (.value cv) w/\aD P w ad β H (.p (.int .i64 n)) cv/\aI (aQ H) (.p (.int .i64 n)):=by
  intro H w ad β m K;refine⟨goInt n,?_,by simp[aD,aH,goInt],by simp[aI]⟩;simp only[dg,F,resolve,hc,I];simp[invoke,builtin,K]
 have M:∀T:c9,jG P T=true->P.underlying T=some .string:=by
  intro T h;unfold jG at h
  split at h
  ·assumption
  ·simp at h
 generalize Q:c.argTypes.getD 0 0=T at*;unfold lenOf at i
 split at i
 ·rename_i s hx;simp at i;obtain⟨rfl,rfl⟩:=i;rw[hx]at d;simp only[mX]at d;refine⟨bM.same fun H w ad ai β m y j _=>t ?_,s_⟩;have g:=(j x u).1;rw[hx]at g;simp only[aD,aH]at g;obtain⟨bs,e1,e2⟩:=g;have hs:s.length=bs.size:=by rw[e2];simp
  simp[e8,q,c6 (M _ d),e1,hs]
 ·rename_i hx;simp at i;obtain⟨rfl,rfl⟩:=i;rw[hx]at d;refine⟨bM.same fun H w ad ai β m y j _=>t ?_,s_⟩;have g:=(j x u).1;rw[hx]at g;simp only[aD,aH]at g;simp only[mX]at d
  split at d
  ·rename_i e l;simp[e8,q,c6 l,g]
  ·simp at d
 ·rename_i hx;simp at i;obtain⟨rfl,rfl⟩:=i;rw[hx]at d;refine⟨bM.same fun H w ad ai β m y j _=>t ?_,s_⟩;have g:=(j x u).1;rw[hx]at g;simp only[aD,aH]at g;simp only[mX]at d
  split at d
  ·rename_i k e l;simp[e8,q,c6 l,g]
  ·simp at d
 ·rename_i f z hx;simp at i;obtain⟨rfl,rfl⟩:=i;rw[hx]at d;refine⟨bM.same fun H w ad ai β m y j _=>t ?_,s_⟩;have g:=(j x u).1;rw[hx]at g;simp only[aD,aH]at g;obtain⟨az,off,cap,an,G,k1,k2,k3,k4,k5,sp,L,k6⟩:=g;simp only[mX]at d
  split at d
  ·rename_i e l;simp[e8,q,c6 l,k6]
  ·simp at d
 ·rename_i z hx;simp at i;obtain⟨rfl,rfl⟩:=i;rw[hx]at d;refine⟨bM.same fun H w ad ai β m y j _=>t ?_,s_⟩;have g:=(j x u).1;rw[hx]at g;simp only[aD,aH]at g;simp only[mX]at d
  split at d
  ·rename_i e l;rcases g with⟨rfl,k6⟩|⟨az,off,cap,an,G,k1,k2,k3,k5,sp,L,k6⟩
   ·simp[e8,q,c6 l,k6]
   ·simp[e8,q,c6 l,k6]
  ·simp at d
 ·rename_i z hx;simp at i;obtain⟨rfl,rfl⟩:=i;rw[hx]at d;refine⟨bM.same fun H w ad ai β m y j _=>t ?_,s_⟩;have g:=(j x u).1;rw[hx]at g;simp only[aD,aH]at g;obtain⟨r,A,clock,k1,k2,k3,k4⟩:=g;simp only[mX]at d
  split at d
  ·rename_i k e l;have:=Gs k3;have B:(getObj r).run P w=.ok (.map A clock) w:=by simp[getObj,ho,k2]
   simp at this;simp[e8,q,c6 l,k4,B,this]
  ·simp at d
 ·rename_i b aF an off len hx
  split at i
  case h_2=>simp at i
  rename_i k R O z C
  split at i
  case isFalse=>simp at i
  rename_i J;obtain⟨rfl,rfl⟩:=J;simp at i;obtain⟨rfl,rfl⟩:=i;rw[hx]at d;refine⟨bM.same fun H w ad ai β m y j aA=>t ?_,by simpa using C⟩;have g:=(j x u).1;rw[hx]at g;obtain⟨a,cp,e1⟩:=arh g (by simpa using aA);simp only[mX]at d
  split at d
  ·rename_i e l;simp[e8,q,c6 l,e1]
  ·simp at d
 ·rename_i b hx
  split at i
  case h_2=>simp at i
  rename_i fz z C;simp at i;obtain⟨rfl,rfl⟩:=i;rw[hx]at d;refine⟨bM.same fun H w ad ai β m y j aA=>t ?_,by simpa using C⟩;have g:=(j x u).1;rw[hx]at g;simp only[aD,cg,cG]at g;have E:H[b]?=some (.map fz z):=by simpa using aA
  obtain⟨A,clock,k2,k3,_⟩:=y.dQ b _ E;have e1:=g.2.1 ⟨_,E,rfl⟩;simp only[mX]at d
  split at d
  ·rename_i k e l;have:=Gs k3;have B:(getObj (β.az b)).run P w=.ok (.map A clock) w:=by simp[getObj,ho,k2]
   simp at this;simp[e8,q,c6 l,e1,B,this]
  ·simp at d
 ·simp at i
end
section
variable{P:da}{w:db}{ad ai:Nat->Prop}{β:Bd}{H:ak}
variable{o:Oper}{ρ:dd->AV}{base:Nat}
theorem QK:∀(a:List cy)(off j:Nat)(cells:Array cy),off+j+a.length<=cells.size->
 ((a.zipIdx j).foldl (fun cs(p:cy×Nat)=>cs.setIfInBounds (off+p.2) p.1) cells).toList=cells.toList.take (off+j)++a++cells.toList.drop (off+j+a.length)
 |[],off,j,cells,_=>by simp
 |x::a,off,j,cells,h=>by
  simp only[List.zipIdx_cons,List.foldl_cons];rw[QK a off (j+1) _ (by simp at h⊢;omega)];simp only[Array.toList_setIfInBounds,h3];have d:off+j<cells.toList.length:=by simp at h⊢;omega
  rw[show off+(j+1)=off+j+1 by omega];have b:(cells.toList.set (off+j) x).take (off+j+1)=cells.toList.take (off+j)++[x]:=by
   rw[List.take_succ_eq_append_getElem (by simpa using d)];rw[List.take_set_of_le (j3 _)];simp
  have c:(cells.toList.set (off+j) x).drop (off+j+1+a.length)=cells.toList.drop (off+j+(a.length+1)):=by
   rw[List.drop_set_of_lt o_];congr 1;omega
  rw[b,c];simp
theorem ZZ{a c post b:List cy}(h:b.length=c.length):((a++c++post).take a.length++b++(a++c++post).drop (a.length+b.length))=a++b++post:=by
 rw[h];simp
theorem Gp{l:List Nat}{place:Nat->Option (Nat×Nat)}(q:∀i n,l[i]?=some n->place i=some ((l.take i).sum,n)):
 ∀{parts:List (Nat×AV)}{g:List (Nat×cy)}{fs:List AV}{e:List (List cy)}{cells:Array cy},g.map kD=parts.map kD->(∀i:Nat,aD P w ad β H (((parts[i]?).map kC).getD (.p .undef)) (((g[i]?).map kC).getD undef))->
  ph P l parts->b9 P w ad β H l fs e->cells.toList=e.flatten->
  ∃f j,gm place cells g=some f/\b9 P w ad β H l (jD fs parts) j/\f.toList=j.flatten
 |[],[],fs,e,cells,_,_,_,h,hc=>⟨cells,e,rfl,h,hc⟩
 |[],_::_,_,_,_,b,_,_,_,_=>by simp at b
 |_::_,[],_,_,_,b,_,_,_,_=>by simp at b
 |(i,a)::parts,(d,v)::g,fs,e,cells,b,r,m,h,hc=>by
  simp only[hX,List.cons.injEq]at b;obtain⟨rfl,b⟩:=b;simp only[ph]at m;obtain⟨⟨n,hn,hs,y⟩,m⟩:=m;have D:aD P w ad β H a v:=by simpa using r 0
  have u:=fun k=>r (k+1);simp only[ip]at u;have I:=Ct h;have G:d<l.length:=(hJ.1 hn).1;have z:d<fs.length:=o_
  obtain⟨pre,c,post,e1,e2,e3,e4,e5,e6⟩:=xH h (hP z);have F:c.length=n:=by rw[hn]at e4;simpa using e4.symm
  have s:=CJ D y;have t:v.cells.toList.length=n:=by rw[(rO s).1,hs]
  obtain⟨j,k1,k2⟩:=e6 a _ s o_;have C:cells.size=pre.length+c.length+post.length:=by
   have:=congrArg h9 (hc.trans e1);simp at this;omega
  have E:v.cells.size=n:=by simpa using t
  obtain⟨se,o⟩:∃se,(v.cells.zipIdx.foldl (fun cs(p:cy×Nat)=>cs.setIfInBounds ((l.take d).sum+p.2) p.1) cells)=se:=⟨_,rfl⟩
  have A:se.toList=j.flatten:=by
   rw[<-o,k1];have:=QK v.cells.toList (l.take d).sum 0 cells (by rw[<-e2];simp at t⊢;omega);rw[<-b5];simp only[Array.toList_zipIdx];rw[this,hc,e1,j7,<-e2];exact ZZ o_
  obtain⟨f,x,g1,g2,g3⟩:=Gp q b u m k2 A;refine⟨f,x,?_,by simpa only[jD]using g2,g3⟩;have B:¬(v.cells.size≠n\/(l.take d).sum+v.cells.size>cells.size):=by
   rw[E,C,<-e2];omega
  simp only[gm,q d n hn];simp only[Bool.or_eq_true,decide_eq_true_eq,B,if_false];simp only[<-o]at g1;exact g1
end
section
variable{P:da}{w:db}{ad ai:Nat->Prop}{β:Bd}{H:ak}
variable{o:Oper}{ρ:dd->AV}{base:Nat}
theorem Oe{α γ:Type}(f:α->Sem γ)(g:α->γ)(w:db):∀l:List α,(∀a∈l,(f a).run P w=.ok (g a) w)->(l.mapM f).run P w=.ok (l.map g) w
 |[],_=>by simp
 |a::l,h=>by
  simp only[i9,hl,h a s_,hj,Oe f g w l (fun b c=>h b (by simp[c])),hX];rfl
theorem ZC{α γ:Type}(f:α->Sem γ)(g:α->γ)(w:db)(a:Array α)(h:∀x∈a.toList,(f x).run P w=.ok (g x) w):(a.mapM f).run P w=.ok (a.toList.map g).toArray w:=by
 rw[b1,hp,Oe f g w _ h];rfl
theorem PQ{ρc:dd->cy}{parts:Array (Nat×dd)}(h:∀p∈parts.toList,aD P w ad β H (ρ p.2) (ρc p.2)):
 ((parts.map fun(i,x)=>(i,ρc x)).toList).map kD=(parts.toList.map fun(i,x)=>(i,ρ x)).map kD/\
 ∀i:Nat,aD P w ad β H ((((parts.toList.map fun(i,x)=>(i,ρ x))[i]?).map kC).getD (.p .undef)) ((((parts.map fun(i,x)=>(i,ρc x)).toList[i]?).map kC).getD undef):=by
 refine⟨by simp[Function.comp_def],fun i=>?_⟩;simp only[ca,i3];cases a:parts.toList[i]? with
 |none=>simp[aD,aH]
 |some p=>simpa using h p (hT a)
theorem GO{S:Nat×Nat->Prop}:∀{parts:List (Nat×AV)}{fs:List AV},bk S fs->(∀p∈parts,aI S p.2)->bk S (jD fs parts)
 |[],fs,h,_=>h
 |(i,v)::r,fs,h,a=>by
  simp only[jD];refine GO ?_ (fun p b=>a p (by simp[b]));rw[eQ]at h⊢;intro x hx;rcases hU hx with hx|rfl
  ·exact h x hx
  ·exact a (i,x) s_
theorem PR{c:Array (Nat×dd)}{p:Nat×dd}(a:p∈c.toList):p.2∈((c.toList.map (·.2)).toArray:Array dd):=by
 simp;exact⟨p.1,by simpa using a⟩
theorem avE{T u:c9}{z:PV}{l:List Nat}{parts:Array (Nat×dd)}(s:o.op= .build T parts)(hk:kindOf P T= .agg u)(hz:cO P T=some z)(m:dG P u=some l)(hs:aP z= .agg u)
 (L:ph P l (parts.toList.map fun(i,x)=>(i,ρ x))):bM P o ρ base {v:=jm u (jD ((cz z).map .p) (parts.toList.map fun(i,x)=>(i,ρ x)))}:=by
 obtain⟨i,Y,z1,z2,z3,z4⟩:=wW hz;refine bM.same fun H w ad ai β g ac Q _=>?_;have D:∀p∈parts.toList,aD P w ad β H (ρ p.2) (g p.2)/\aI (aQ H) (ρ p.2):=fun p c=>Q p.2 (by rw[s];exact PR c);obtain⟨S,U⟩:=PQ (ρ:=ρ) (ρc:=g) (parts:=parts) (fun p c=>(D p c).1);have E:=z3 w ad;obtain⟨fs,rfl⟩:∃fs,z=.st u fs:=by cases z<;>simp[aP]at hs;subst hs;exact⟨_,rfl⟩
 simp only[bc]at E;obtain⟨R,Z,q1,V,W⟩:=E;rw[m]at q1;cases q1
 have B:∀t:Nat->Option (Nat×Nat),(∀i n,l[i]?=some n->t i=some ((l.take i).sum,n))->
  (∀cells,gm t Y.cells (parts.map fun(i,x)=>(i,g x)).toList=some cells->(dg g o).run P w=.ok (.value (.agg cells)) w)->
  ∃cv,(dg g o).run P w=.ok (.value cv) w/\aD P w ad β H (jm u (jD ((cz (.st u fs)).map .p) (parts.toList.map fun(i,x)=>(i,ρ x)))) cv/\
   aI (aQ H) (jm u (jD ((cz (.st u fs)).map .p) (parts.toList.map fun(i,x)=>(i,ρ x)))):=by
  intro t M O;obtain⟨I,J,g1,g2,g3⟩:=Gp M S U L (rN.2 V) W;refine⟨.agg I,O _ g1,?_,F3 (GO (kU _ _) ?_)⟩
  ·rw[awS];simp only[aD];exact⟨l,J,m,g2,by rw[<-g3]⟩
  ·intro p c;simp only[j1]at c;obtain⟨q,hq,rfl⟩:=c;exact(D q hq).2
 have d:=hk;unfold kindOf at d
 split at d
 ·rename_i a b;have aY:fp P T=some (u,a.size):=by unfold fp;rw[hk,b]
  obtain⟨aa,R,s1,s2,y,r,X,F⟩:=zG aY;rw[b]at s1;cases s1;rw[m]at r;cases r;have N:(a.mapM fun f=>(do pure (f.offset,<-sizeOf f.type):Sem (Nat×Nat))).run P w=.ok (a.toList.map fun f:Field=>(f.offset,P.cellsOf f.type)).toArray w:=by
   refine ZC _ _ w _ (fun f hf=>?_);obtain⟨j,k,rfl⟩:=List.mem_iff_getElem.1 hf;obtain⟨A,g1,g2,g3,g4,g5⟩:=F j (by simpa using k);have:a[j]'(by simpa using k)=A:=by
    have C:a[j]?=some (a[j]'(by simpa using k)):=Array.getElem?_eq_getElem (by simpa using k);rw[g1]at C;exact(kz C).symm
   simp only[b3,this];simp[G g4]
  refine B (fun i=>(a.toList.map fun f:Field=>(f.offset,P.cellsOf f.type)).toArray[i]?) ?_ (fun cells hc=>?_)
  ·intro i n hn;have hi:i<a.size:=by rw[<-X];exact(hJ.1 hn).1
   obtain⟨A,g1,g2,g3,g4,g5⟩:=F i hi;rw[hn]at g3;simp only[List.getElem?_toArray,i3,bv,g1];simp[g2,kz g3]
  ·simp only[dg,s];refine gI ?_;simp only[gt,hl,zO z1 z2,hj,c6 b,N,hc,hm]
 ·rename_i n e b;have K:iO P T=some (u,n):=by unfold iO;rw[hk,b]
  obtain⟨e',s1,s2,y,r⟩:=xB K;rw[b]at s1;cases s1;rw[m]at y;cases y;refine B (fun i=>some (i*P.cellsOf e,P.cellsOf e)) ?_ (fun cells hc=>?_)
  ·intro i ae hn;rw[hR]at hn
   split at hn
   ·rename_i ab;simp at hn;subst hn;rw[hQ,j4 o_,hN]
   ·simp at hn
  ·simp only[dg,s];refine gI ?_;simp only[gt,hl,zO z1 z2,hj,c6 b,G r,hc,hm]
 ·split at d<;>simp at d
 ·simp at d
where
 G {P:da} {w:db} {T:c9} (h:0<P.cellsOf T):(sizeOf T).run P w=.ok (P.cellsOf T) w:=by
  cases hi:P.info? T with
  |none=>simp[g8,hi]at h
  |some i=>simp[sizeOf,typeInfo,hi,g8]
theorem N8(a:Array cy)(n:Nat)(_h:0<a.size):((bw (n*a.size)).map (a[·% a.size]!)).toList=(hK n a.toList).flatten:=by
 simp only[ca,Array.toList_range]
 induction n with
 |zero=>simp
 |succ n c=>
  rw[kf,List.range_add,List.map_append,c,List.replicate_succ',i0];congr 1;simp only[List.map_map,hW,List.flatten_nil,i8];refine List.ext_getElem s_ (fun i b d=>?_);simp at b;simp[Nat.mul_add_mod_self_right,Nat.mod_eq_of_lt b,b,getElem!_pos]
theorem FW{z:PV}{a:List cy}(h:bc P w ad z a):∀n:Nat,Row P w ad β H a.length (hK n (.p z)) (hK n a)
 |0=>jv.2 rfl
 |n+1=>by
  rw[h0,h0,uQ];exact⟨a,_,rfl,by simpa only[bG]using h,rfl,FW h n⟩
theorem Ge(d:cK P w ad β H ai){b:Nat}(c:H[b]?=some .hole){cells:Array cy}{T:c9}{k:AK}{an cap:Nat}{a:List AV}{e:List (List cy)}{rest:List cy}(g:k≠ .frozen)(n:¬eU k a)
 (o:Row P w ad β H an a e)(i:bk (aQ H) a)(hc:cells.toList=e.flatten++rest)(p:cells.size=cap*an)(m:a.length<=cap)(l:k=.exact->cap=a.length)(q:k=.bytes->T=Gl.u8):
 cF P ai ad w β H ad {w with heap:=w.heap.push (.cells cells T)} (β.at b w.heap.size cap) (H.set b (.arr k 0 an a))/\
 aD P {w with heap:=w.heap.push (.cells cells T)} ad (β.at b w.heap.size cap) (H.set b (.arr k 0 an a)) (.sl b 0 an 0 a.length) (.slice (some ⟨w.heap.size,0,none⟩) a.length cap):=by
 have aY:=CW (β:=β) c (.arr k 0 an a) w.heap.size cap;have aA:∀y,aQ H y->aQ (H.set b (.arr k 0 an a)) y:=rP c (fun _ h=>h.elim);have j:=(hJ.1 c).1;refine⟨xp (cap:=cap) d c (ob:=.cells cells T)
  (.inr ⟨cells,T,e,rest,by simp[Bd.at],b9.mono (fun _ x=>x) (fun k hk=>zR _ _ (d.cq k hk)) aY _ _ _ i o,hc,by simp[Bd.at,p],by simpa[Bd.at]using m,by simpa[Bd.at]using l,by
   unfold dV;rw[if_neg (by simpa using g)];simp only[Bd.at,if_true];exact⟨fun h=>j5 _ (d.cq _ h),fun h=>j5 _ (d.fN _ h)⟩,(fun h=>(g h).elim),q⟩) (bk.mono aA _ i),?_⟩
 simp only[aD,cg,cG];refine⟨rfl,fun s r f=>?_⟩;unfold jc at f;rw[hL j]at f;cases f;exact⟨o_,fun h=>(n h).elim,fun _=>by simp[Bd.at]⟩
theorem ZD{T:c9}{n sz:Nat}{z:PV}{parts:Array (Nat×dd)}(B:o.op= .buildSlice T n parts)(a:dH P T=some sz)(hz:cO P (fR P T)=some z)(hs:bZ P (aP z)=sz)(hn:n*sz<=1000000)
 (N:ph P (hK n sz) (parts.toList.map fun(i,x)=>(i,ρ x))):
 bM P o ρ base {v:=.sl base 0 sz 0 n,bm:=[.arr .exact 0 sz (jD (hK n (.p z)) (parts.toList.map fun(i,x)=>(i,ρ x)))]}:=by
 obtain⟨e,ab,a⟩:=qo a;obtain⟨i,d,z1,z2,z3,z4⟩:=wW hz;rw[a.wx]at z1;intro H w ad ai β s O W _ L;have A:H[base]?=some .hole:=by simpa using L 0 s_
 have C:∀p∈parts.toList,aD P w ad β H (ρ p.2) (s p.2)/\aI (aQ H) (ρ p.2):=fun p b=>W p.2 (by rw[B];exact PR b);obtain⟨X,Y⟩:=PQ (ρ:=ρ) (ρc:=s) (parts:=parts) (fun p b=>(C p b).1);have E:=z3 w ad;have r:d.cells.size=sz:=by have:=(uK E).1;simp at this;omega
 have m:=FW (β:=β) (H:=H) E n;have V:d.cells.toList.length=sz:=by simpa using r
 rw[V]at m;obtain⟨u,l⟩:∃c,c=(bw (n*sz)).map (d.cells[·% d.cells.size]!):=⟨_,rfl⟩
 have M:u.toList=(hK n d.cells.toList).flatten:=by
  rw[l,<-r];exact N8 _ _ (by rw[r];exact a.pos)
 have R:b9 P w ad β H (hK n sz) (hK n (.p z)) (hK n d.cells.toList):=by
  unfold Row at m;simpa using m
 obtain⟨t,G,g1,g2,g3⟩:=Gp (place:=fun i=>some (i*sz,sz)) (by
  intro i aa g;rw[hR]at g
  split at g
  ·rename_i Z;simp at g;subst g;rw[hQ,j4 o_,hN]
  ·simp at g) X Y N R M
 have j:(jD (hK n (.p z)) (parts.toList.map fun(i,x)=>(i,ρ x))).length=n:=by
  have:=(Ct g2).2.1;simpa using this
 have D:Row P w ad β H sz (jD (hK n (.p z)) (parts.toList.map fun(i,x)=>(i,ρ x))) G:=by unfold Row;rw[j];exact g2
 have Q:bk (aQ H) (jD (hK n (.p z)) (parts.toList.map fun(i,x)=>(i,ρ x))):=by
  refine GO ?_ ?_
  ·rw[eQ];intro v U;rw[h2 U];simp[aI]
  ·intro p b;simp only[j1]at b;obtain⟨q,hq,rfl⟩:=b;exact(C q hq).2
 have K:t.size=n*sz:=by
  have y:=(jF D).2;rw[j,<-g3]at y;simpa using y
 have S:(dg s o).run P w=.ok (.value (.slice (some ⟨w.heap.size,0,none⟩) n n)) {w with heap:=w.heap.push (.cells t e)}:=by
  simp only[dg,B];have I:¬(n*sz>2^24):=o_
  have J:n*sz=0->(bw (n*sz)).map ((#[]:Array cy)[·% (#[]:Array cy).size]!)=u:=by
   intro f;rw[l,f];simp
  refine zD ?_;simp only[Instr.buildSlice,hl,c6 a.jR,hj,a.run,if_neg I]
  by_cases f:n*sz=0
  ·rw[if_pos f];simp only[hl,hm,hj,J f,g1,newRow,ee]
  ·rw[if_neg f];simp only[hl,hm,hj,zO z1 z2,<-l,g1,newRow,ee]
 obtain⟨q1,F⟩:=Ge (T:=e) (k:=.exact) O A s_ (by simp[eU,AK.gr]) D Q (rest:=[]) (by simpa using g3) (by rw[K]) (by omega:_<=n) (fun _=>j.symm) (fun h=>by cases h);rw[j]at F;exact⟨_,_,_,_,ad,S,.inl rfl,q1,F,by
  simp only[aI,oZ];exact⟨_,hL (hJ.1 A).1,j3 _⟩⟩
theorem ZL{T:c9}{lo q:dd}{sz:Nat}{z:PV}{l:Int}(t:o.op= .makeSlice T lo q)(a:dH P T=some sz)(hz:cO P (fR P T)=some z)(K:ρ lo= .p (.int .i64 l))(hc:ρ q= .p (.int .i64 l))
 (hs:bZ P (aP z)=sz)(b:0<=l)(L:l<=dA):bM P o ρ base {v:=.sl base 0 sz 0 l.toNat,bm:=[.arr .exact 0 sz (hK l.toNat (.p z))]}:=by
 obtain⟨e,d,a⟩:=qo a;obtain⟨i,g,z1,z2,z3,z4⟩:=wW hz;rw[a.wx]at z1;intro H w ad ai β W M B _ J;have u:H[base]?=some .hole:=by simpa using J 0 s_
 have r:=(B lo (by simp[t,gx])).1;have j:=(B q (by simp[t,gx])).1;rw[K]at r;rw[hc]at j;simp only[aD,aH]at r j;have A:=z3 w ad;have m:g.cells.size=sz:=by have:=(uK A).1;simp at this;omega
 obtain⟨n,rfl⟩:=Int.eq_ofNat_of_zero_le b;have y:=FW (β:=β) (H:=H) A n;have V:g.cells.toList.length=sz:=by simpa using m
 rw[V]at y;obtain⟨f,s⟩:∃c,c=(bw (n*sz)).map (g.cells[·% g.cells.size]!):=⟨_,rfl⟩
 have x:f.toList=(hK n g.cells.toList).flatten:=by
  rw[s,<-m];exact N8 _ _ (by rw[m];exact a.pos)
 have hn:n<=1073741824:=by unfold dA at L;omega
 have D:d.bytes*n<=32768*1073741824:=kb (by have:=a.bytes;omega) hn;have N:(dg W o).run P w=.ok (.value (.slice (some ⟨w.heap.size,0,none⟩) n n)) {w with heap:=w.heap.push (.cells f e)}:=by
  simp only[dg,t,r,j];have U:IntKind.i64.wrap (n:Int)=n:=IntWalk.i64_in _ o_;have O:¬((n:Int)<0):=o_
  have Q:¬((d.bytes:Int)*n>2^48):=by
   intro I;have j:d.bytes*n<=35184372088832:=D;have X:((d.bytes*n:Nat):Int)>281474976710656:=by rw[Int.natCast_mul];exact I
   omega
  have E:n*sz=0->(bw (n*sz)).map ((#[]:Array cy)[·% (#[]:Array cy).size]!)=f:=by
   intro b;rw[s,b];simp
  have R:(typeInfo e).run P w=.ok d w:=by simp[typeInfo,a.info]
  have F:((decide ((n:Int)<0)||decide ((d.bytes:Int)*n>2^48))||decide ((n:Int)<0)||decide ((n:Int)>n))=false:=by
   simp only[O,Q,decide_false,Bool.or_false,Bool.false_or];simp
  refine zD ?_;simp only[Instr.makeSlice,hl,c6 a.jR,hj,asInt,asIntOf,hm,R,U];rw[if_neg (by simpa using F)];simp only[hl,run_askRoom,hj,a.run,Int.toNat_natCast]
  by_cases b:n*sz=0
  ·rw[if_pos b];simp only[hl,hm,hj,E b,newRow,ee]
  ·rw[if_neg b];simp only[hl,hm,hj,zO z1 z2,<-s,newRow,ee]
 have G:f.size=n*sz:=by
  have:=congrArg h9 x;simp at this;rw[this];simp[m]
 obtain⟨q1,C⟩:=Ge (T:=e) (k:=.exact) M u (cells:=f) (cap:=n) s_ (by simp[eU,AK.gr]) y (by
  rw[eQ];intro v S;rw[h2 S];simp[aI]) (rest:=[]) (by simpa using x) G s_ (fun _=>by simp) (fun h=>by cases h)
 simp only[List.length_replicate]at C;exact⟨_,_,_,_,ad,N,.inl rfl,q1,C,by
  simp only[aI,oZ];exact⟨_,hL (hJ.1 u).1,j3 _⟩⟩
end
section
variable{P:da}{w:db}{ad ai:Nat->Prop}{β:Bd}{H:ak}
variable{o:Oper}{ρ:dd->AV}{base:Nat}
theorem qt{x:Option dd}{d:Nat}{R:Nat->Prop}(h:jW (x.map ρ) d R):
 ∃n,R n/\((x=none/\n=d)\/∃y k,x=some y/\ρ y=.p (.int k n)):=by
 cases x with
 |none=>exact⟨d,h,.inl ⟨rfl,rfl⟩⟩
 |some y=>
  simp only[Option.map_some,jW]at h
  split at h
  ·rename_i hx;cases hx
  ·rename_i k i hx;simp at hx;obtain⟨a,h⟩:=h;refine⟨i.toNat,h,.inr ⟨y,k,rfl,?_⟩⟩;rw[hx,Int.toNat_of_nonneg a]
  ·exact h.elim
theorem wZ{lo hi:Option dd}{ρc:dd->cy}{b:Bool}{len cap d h l:Nat}(j:d=len)(m:(hi=none/\h=d)\/∃y k,hi=some y/\ρ y= .p (.int k h))(n:(lo=none/\l=0)\/∃y k,lo=some y/\ρ y= .p (.int k l))
 (f:h<=cap)(g:l<=h)(e:∀y,(hi=some y\/lo=some y)->aD P w ad β H (ρ y) (ρc y)):(gc b len cap (lo.map ρc) (hi.map ρc) none).run P w=.ok (l,h,cap) w:=by
 subst j;rcases m with⟨rfl,rfl⟩|⟨y,k,rfl,i⟩<;>rcases n with⟨rfl,rfl⟩|⟨z,o,rfl,hz⟩
 ·simp[gc]
 ·have c:=e z (.inr rfl);rw[hz]at c;simp only[aD,aH]at c;simp[gc,c,gi,asIntOf,g]
 ·have a:=e y (.inl rfl);rw[i]at a;simp only[aD,aH]at a;simp[gc,a,gi,asIntOf,f]
 ·have a:=e y (.inl rfl);rw[i]at a;simp only[aD,aH]at a;have c:=e z (.inr rfl);rw[hz]at c;simp only[aD,aH]at c;simp[gc,a,c,gi,asIntOf,f,g]
theorem zA{T e:c9}(b:P.underlying T=some (.slice e))(x:cy)(lo hi a:Option cy)(w:db):(gg T x lo hi a).run P w=(fw T x lo hi a).run P w:=by
 simp only[gg,hl,c6 b,hj]
theorem ZW{T:c9}(b:P.underlying T=some .string)(x:cy)(lo hi a:Option cy)(w:db):(gg T x lo hi a).run P w=(fw T x lo hi a).run P w:=by
 simp only[gg,hl,c6 b,hj]
theorem xe{T:c9}{x y:dd}{lo hi b:Option dd}(a:o.op=.slice T x lo hi b)(h:hi=some y\/lo=some y):y∈o.op.operands:=by
 rw[a];simp only[gx];rcases h with rfl|rfl<;>simp
theorem Cy{T:c9}(h:jG P T=true):P.underlying T=some .string:=by
 unfold jG at h
 split at h
 ·assumption
 ·simp at h
theorem zQ{an:Nat}:∀{l:List AV},gP P an l↔∀v∈l,aa v≠.bad/\bZ P (aa v)=an
 |[]=>by simp[gP]
 |v::l=>by simp[gP,zQ (l:=l)]
theorem xu{sz an:Nat}{a:List AV}{d:List (List cy)}(b:Row P w ad β H an a d)(hs:gP P sz a)(g:a≠[]):an=sz:=by
 cases a with
 |nil=>exact(g rfl).elim
 |cons v a=>
  rw[uQ]at b;obtain⟨c,cs,rfl,e,f,_⟩:=b;have:=(zQ.1 hs v s_).2;rw[<-f,(rO e).1,this]
theorem Rm{an:Nat}{d:List PV}{e:List (List cy)}(h:bA P w ad (hK d.length an) d e)(off len:Nat)(f:off+len<=d.length):
 ∃a b c,e=a++b++c/\bA P w ad (hK ((d.drop off).take len).length an) ((d.drop off).take len) b/\a.flatten.length=off*an:=by
 have g:Row P w ad ⟨id,id⟩ [] an (d.map .p) e:=pq.2 h;obtain⟨a,b,c,e1,e2,e3,_⟩:=qq g off len (by simpa using f);rw[F0,pq]at e2;exact⟨a,b,c,e1,e2,e3⟩
theorem avA{T:c9}{x:dd}{lo hi:Option dd}(q:o.op= .slice T x lo hi none){H0:ak}{K:bg->Prop}(h:rV P T H0 (ρ x) (lo.map ρ) (hi.map ρ) K):
 ∃e,K e/\bM P o ρ base e/\(∀p∈e.aA,H0[p.1]?=some p.2)/\e.aW=[]:=by
 unfold rV at h;have I:x∈o.op.operands:=by rw[q];simp[gx]
 split at h
 ·
  rename_i s hx;obtain⟨ab,h⟩:=h;have Y:=Cy ab;obtain⟨l,h,B⟩:=qt h;obtain⟨f,h,C⟩:=qt h;obtain⟨z,A,h⟩:=h;refine⟨_,h,bM.same fun H w ad ai β n u m _=>?_,s_,rfl⟩;have j:=(m x I).1;rw[hx]at j;simp only[aD,aH]at j;obtain⟨bs,e1,e2⟩:=j;have ac:s.length=bs.size:=by rw[e2];simp
  have t:=wZ (P:=P) (w:=w) (ad:=ad) (β:=β) (H:=H) (b:=false) (cap:=bs.size) (ρ:=ρ) (ρc:=n) ac B C o_ A (fun y v=>(m y (xe q v)).1);refine⟨.string (bs.extract f l),?_,?_,by simp[aI]⟩
  ·simp only[dg,q,e1];refine gI ?_;rw[ZW Y];simp only[fw,hl,c6 Y,hj,kp,Option.isSome_none];simp[t]
  ·simp only[aD,aH];refine⟨_,rfl,?_⟩;rw[e2,<-ii,<-js,Go.Lib.extract_data,h5]
 ·
  rename_i hx;obtain⟨g,h⟩:=h;obtain⟨sz,g⟩:=kv.1 g;obtain⟨e,U,g⟩:=qo g;obtain⟨l,h,B⟩:=qt h;obtain⟨f,h,C⟩:=qt h;obtain⟨z,A,E⟩:=h;obtain rfl:l=0:=o_
  obtain rfl:f=0:=o_
  refine⟨_,E,bM.same fun H w ad ai β n u m _=>?_,s_,rfl⟩;have j:=(m x I).1;rw[hx]at j;simp only[aD,aH]at j;have t:=wZ (P:=P) (w:=w) (ad:=ad) (β:=β) (H:=H) (b:=true) (cap:=0) (ρ:=ρ) (ρc:=n) (len:=0) (d:=0) rfl B C o_ A (fun y v=>(m y (xe q v)).1);refine⟨.slice none 0 0,?_,by rw[hx];simp[aD,aH],by rw[hx];simp[aI]⟩;simp only[dg,q,j];refine gI ?_;rw[zA g.jR];simp only[fw,hl,c6 g.jR,hj,kp,t,g.run];simp
 ·
  rename_i full es hx;obtain⟨l,h,B⟩:=qt h;obtain⟨f,h,C⟩:=qt h;obtain⟨z,A,h⟩:=h
  split at h
  case h_2=>exact h.elim
  rename_i sz g;obtain⟨Q,h⟩:=h;obtain⟨e,U,g⟩:=qo g;refine⟨_,h,bM.same fun H w ad ai β n u m _=>?_,s_,rfl⟩;have j:=(m x I).1;rw[hx]at j;simp only[aD,aH]at j;obtain⟨az,off,cap,an,V,v1,v2,v3,v4,v5,sp,R,v6⟩:=j;have S:cap≠f->sp=none:=fun h=>R.resolve_right o_;have t:=wZ (P:=P) (w:=w) (ad:=ad) (β:=β) (H:=H) (b:=true) (cap:=cap) (ρ:=ρ) (ρc:=n) rfl B C o_ A (fun y v=>(m y (xe q v)).1);refine⟨.slice (some (if cap=f then⟨az,off,sp⟩else⟨az,off+f*sz,none⟩)) (l-f) (cap-f),?_,?_,by simp[aI]⟩
  ·simp only[dg,q,v6];refine gI ?_;rw[zA g.jR];simp only[fw,hl,c6 g.jR,hj,kp,t,g.run]
   by_cases hc:cap=f
   ·simp[hc]
   ·obtain rfl:=S hc;simp[hc,mW]
  ·have G:((es.take l).drop f).length=l-f:=by simp;omega
   simp only[aD,aH,G]
   by_cases D:es=[]
   ·subst D;simp at z;subst z;obtain rfl:f=0:=by omega
    by_cases hc:cap=0
    ·exact⟨az,off,cap,sz,[],by simp[bA],s_,by intro i hi;simp at hi,fun _=>by simpa using hc,s_,sp,.inr hc,by simp[hc]⟩
    ·exact⟨az,off,cap,sz,[],by simp[bA],s_,by intro i hi;simp at hi,fun hf=>by simp at hf;simpa using v4 hf,s_,none,.inl rfl,by simp[hc]⟩
   ·have N:an=sz:=xu (w:=w) (ad:=ad) (β:=β) (H:=H) (pq.2 v1) Q (by simpa using D);subst N;obtain⟨a,b,c,e1,e2,e3⟩:=Rm v1 f (l-f) o_;rw[<-h5]at e2;have ah:(es.drop f).take (l-f)=(es.take l).drop f:=by rw[h5]
    rw[G]at e2
    by_cases hc:cap=f
    ·obtain rfl:l=f:=by omega
     have M:b=[]:=by
      have:=(zE e2).2.2;simpa using this
     subst M;refine⟨az,off,cap-l,an,[],by simpa using e2,fun _=>v2 D,by intro i hi;simp at hi,?_,o_,sp,.inr o_,by simp[hc]⟩;intro _;omega
    ·refine⟨az,off+f*an,cap-f,an,b,e2,fun _=>v2 D,?_,?_,o_,none,.inl rfl,by simp[hc]⟩
     ·have:=xd v3 (pre:=a.flatten) (xs:=b.flatten) (post:=c.flatten) (by rw[e1];simp);rw[e3]at this;exact this
     ·intro hf;simp at hf;have:=v4 hf.1;omega
 ·
  rename_i es hx;obtain⟨l,h,B⟩:=qt h;obtain⟨f,h,C⟩:=qt h;obtain⟨z,A,h⟩:=h
  split at h
  case h_2=>exact h.elim
  rename_i sz g;obtain⟨Q,h⟩:=h;obtain⟨e,U,g⟩:=qo g;refine⟨_,h,bM.same fun H w ad ai β n u m _=>?_,s_,rfl⟩;have j:=(m x I).1;rw[hx]at j;simp only[aD,aH]at j;rcases j with⟨rfl,j⟩|⟨az,off,cap,an,V,v1,v2,v3,v5,sp,R,v6⟩
  ·simp at z;subst z;obtain rfl:f=0:=by omega
   have t:=wZ (P:=P) (w:=w) (ad:=ad) (β:=β) (H:=H) (b:=true) (cap:=0) (ρ:=ρ) (ρc:=n) (len:=0) (d:=0) rfl B C o_ A (fun y v=>(m y (xe q v)).1);refine⟨.slice none 0 0,?_,by simp[aD,aH],by simp[aI]⟩;simp only[dg,q,j];refine gI ?_;rw[zA g.jR];simp only[fw,hl,c6 g.jR,hj,kp,t,g.run];simp
  have S:cap≠f->sp=none:=fun h=>R.resolve_right o_;have t:=wZ (P:=P) (w:=w) (ad:=ad) (β:=β) (H:=H) (b:=true) (cap:=cap) (ρ:=ρ) (ρc:=n) rfl B C o_ A (fun y v=>(m y (xe q v)).1);refine⟨.slice (some (if cap=f then⟨az,off,sp⟩else⟨az,off+f*sz,none⟩)) (l-f) (cap-f),?_,?_,by simp[aI]⟩
  ·simp only[dg,q,v6];refine gI ?_;rw[zA g.jR];simp only[fw,hl,c6 g.jR,hj,kp,t,g.run]
   by_cases hc:cap=f
   ·simp[hc]
   ·obtain rfl:=S hc;simp[hc,mW]
  ·have G:((es.take l).drop f).length=l-f:=by simp;omega
   simp only[aD,aH,G];right
   by_cases D:es=[]
   ·subst D;simp at z;subst z;obtain rfl:f=0:=by omega
    by_cases hc:cap=0
    ·exact⟨az,off,cap,sz,[],by simp[bA],s_,by intro i hi;simp at hi,s_,sp,.inr hc,by simp[hc]⟩
    ·exact⟨az,off,cap,sz,[],by simp[bA],s_,by intro i hi;simp at hi,s_,none,.inl rfl,by simp[hc]⟩
   ·have N:an=sz:=xu (w:=w) (ad:=ad) (β:=β) (H:=H) (pq.2 v1) Q (by simpa using D);subst N;obtain⟨a,b,c,e1,e2,e3⟩:=Rm v1 f (l-f) o_;rw[<-h5]at e2;rw[G]at e2
    by_cases hc:cap=f
    ·obtain rfl:l=f:=by omega
     have M:b=[]:=by
      have:=(zE e2).2.2;simpa using this
     subst M;exact⟨az,off,cap-l,an,[],by simpa using e2,fun _=>v2 D,by intro i hi;simp at hi,o_,sp,.inr o_,by simp[hc]⟩
    ·refine⟨az,off+f*an,cap-f,an,b,e2,fun _=>v2 D,?_,o_,none,.inl rfl,by simp[hc]⟩;have:=xd v3 (pre:=a.flatten) (xs:=b.flatten) (post:=c.flatten) (by rw[e1];simp);rw[e3]at this;exact this
 ·
  rename_i b aF an off len hx
  split at h
  case h_2=>exact h.elim
  rename_i k aj ag es O;obtain⟨rfl,rfl,g,L,hlen,h⟩:=h;obtain⟨l,h,B⟩:=qt h;obtain⟨f,h,C⟩:=qt h;obtain⟨z,A,E⟩:=h;obtain⟨e,U,g⟩:=qo g
  have key:∀(H:ak)(w:db)(ad ai:Nat->Prop)(β:Bd)(n:dd->cy),cK P w ad β H ai->(∀x∈o.op.operands,aD P w ad β H (ρ x) (n x)/\aI (aQ H) (ρ x))->
   H[b]?=some (.arr k aF an es)->es.length<=β.cap b/\(dg n o).run P w=.ok (.value (.slice (some (if β.cap b-off=f then⟨β.az b,off*an,none⟩else⟨β.az b,off*an+f*an,none⟩)) (l-f) (β.cap b-off-f))) w:=by
   intro H w ad ai β n u m r;have j:=(m x I).1;rw[hx]at j;simp only[aD,cg,cG]at j;obtain⟨_,_,j⟩:=j.2 k es r;have j:=j L;rcases u.dQ b _ r with hold|⟨cs,af,V,rest,k1,k2,k3,k4,k5,k6⟩
   ·exact(L hold).elim
   have t:=wZ (P:=P) (w:=w) (ad:=ad) (β:=β) (H:=H) (b:=true) (cap:=β.cap b-off) (ρ:=ρ) (ρc:=n) rfl B C o_ A (fun y v=>(m y (xe q v)).1);refine⟨k5,?_⟩;simp only[dg,q,j];refine gI ?_;rw[zA g.jR];simp only[fw,hl,c6 g.jR,hj,kp,t,g.run]
   by_cases hc:β.cap b-off=f
   ·simp[hc]
   ·simp[hc,mW]
  split at E
  ·rename_i W;subst W;refine⟨_,E,bM.same fun H w ad ai β n u m aA=>?_,by simpa using O,rfl⟩;have r:H[b]?=some (.arr k aF an es):=by simpa using aA
   obtain⟨Z,J⟩:=key H w ad ai β n u m r;refine⟨_,J,?_,?_⟩
   ·simp only[aD,cg,cG];refine⟨by simp[hw],fun ae aa F=>?_⟩;unfold jc at F;rw[r]at F;cases F;exact⟨o_,fun hn=>(L hn).elim,fun _=>by simp⟩
   ·simp only[aI];exact⟨_,r,j3 _⟩
  ·rename_i W
   split at E
   ·rename_i X;subst X;refine⟨_,E,bM.same fun H w ad ai β n u m aA=>?_,by simpa using O,rfl⟩;have r:H[b]?=some (.arr k aF an es):=by simpa using aA
    obtain⟨Z,J⟩:=key H w ad ai β n u m r;refine⟨_,J,?_,by simp[aI]⟩;simp only[aD,aH]
    by_cases hc:β.cap b-off=f
    ·exact⟨β.az b,off*an,β.cap b-off-f,an,[],by simp[bA],s_,by intro i hi;simp at hi,s_,s_,by simp[hc]⟩
    ·exact⟨β.az b,off*an+f*an,β.cap b-off-f,an,[],by simp[bA],s_,by intro i hi;simp at hi,s_,s_,by simp[hc]⟩
   ·rename_i X;refine⟨_,E,bM.same fun H w ad ai β n u m aA=>?_,by simpa using O,rfl⟩;have r:H[b]?=some (.arr k aF an es):=by simpa using aA
    obtain⟨Z,J⟩:=key H w ad ai β n u m r;refine⟨_,J,?_,?_⟩
    ·simp only[aD,cg,cG];refine⟨by simp[hw],fun ae aa F=>?_⟩;unfold jc at F;rw[r]at F;cases F;refine⟨o_,fun hn=>(L hn).elim,fun _=>?_⟩;have hc:¬(β.cap b-off=f):=by omega
     rw[if_neg hc,km,Nat.sub_sub]
    ·simp only[aI];exact⟨_,r,j3 _⟩
 ·exact h.elim
end
section
variable{P:da}{w:db}{ad ai:Nat->Prop}{β:Bd}{H:ak}
variable{o:Oper}{ρ:dd->AV}{base:Nat}
theorem uC{H0 H:ak}{a:AV}{c:List AV}(h:kT H0 a=some c)(aA:∀p∈eX H0 a,H[p.1]?=some p.2):kT H a=some c:=by
 cases a with
 |sl b aF an off len=>
  simp only[kT]at h⊢;simp only[eX]at aA
  split at h
  case h_2=>simp at h
  rename_i k g f e d;rw[d]at aA;have:=aA _ (i2.2 rfl);simp only at this;rw[this];exact h
 |p v=>cases v<;>exact h
 |_=>simp[kT]at h
theorem tj{H0:ak}{a:AV}:∀p∈eX H0 a,H0[p.1]?=some p.2:=by
 intro p b;unfold eX at b
 split at b
 all_goals first
  |(split at b
    ·rename_i o c;simp at b;subst b;exact c
    ·simp at b)
  |simp at b
theorem zy{sz m:Nat}{az off n c:Nat}{w:db}{xs:List cy}(e:xs.length=m*sz)(hc:ja w az off xs):(eP sz m (.slice (some ⟨az,off,none⟩) n c)).run P w=.ok xs.toArray w:=by
 refine em w sz m _ n c xs e ?_;intro j v a;rw[mW];obtain⟨b,d⟩:=hJ.1 a;rw[hc j b,d]
theorem FU{sz n c:Nat}{a:Addr}{w:db}:(eP sz 0 (.slice (some a) n c)).run P w=.ok #[] w:=
 em w sz 0 a n c [] s_ (fun j v b=>by simp at b)
theorem Dc{sz:Nat}{a:AV}{u:List AV}{v:cy}(g:kT H a=some u)(G:cK P w ad β H ai)(i:aD P w ad β H a v)(R:aI (aQ H) a)(hs:gP P sz u):
 ∃d,Row P w ad β H sz u d/\bk (aQ H) u/\e9 v=pure u.length/\
  ∀w':db,w'.heap=w.heap->∀m,m<=u.length->(eP sz m v).run P w'=.ok (d.take m).flatten.toArray w':=by
 have F:∀{f:List AV}{d:List (List cy)}(m:Nat),Row P w ad β H sz f d->m<=f.length->(d.take m).flatten.length=m*sz:=by
  intro f d m h j;obtain⟨x,y,z,e1,e2,e3,e4,e5⟩:=qq h 0 m o_;have hx:x=[]:=by have:=(jF e4).1;simpa using this
  have N:y.length=m:=by have:=(jF e2).1;simp at this;omega
  subst hx;have J:d.take m=y:=by rw[e1];simp[N]
  rw[J];have:=(jF e2).2;rw[this];simp[j]
 have cells:∀{az off:Nat}{d:List (List cy)}(w':db),w'.heap=w.heap->ja w az off d.flatten->∀m,ja w' az off (d.take m).flatten:=by
  intro az off d w' q hc m;have I:ja w' az off d.flatten:=hc.same (by rw[q]);have:=xd I (pre:=[]) (xs:=(d.take m).flatten) (post:=(d.drop m).flatten) (by
   rw[i6,<-i0,h4])
  simpa using this
 cases a with
 |p t=>
  cases t with
  |aM=>
   simp[kT]at g;subst g;simp only[aD,aH]at i;subst i;exact⟨[],jv.2 rfl,by simp[bk],rfl,fun w' _ m j=>by simp[eP]⟩
  |dD full f=>
   simp[kT]at g;subst g;simp only[aD,aH]at i;obtain⟨az,off,cap,an,d,v1,v2,v3,v4,v5,sp,D,rfl⟩:=i;rcases D with rfl|rfl
   case inr=>
    obtain rfl:f=[]:=hO.1 o_;exact⟨[],jv.2 rfl,by simp[bk],rfl,fun w' _ m j=>by
     obtain rfl:m=0:=by simpa using j
     exact FU⟩
   have h:Row P w ad β H an (f.map .p) d:=pq.2 v1;have o:Row P w ad β H sz (f.map .p) d:=by
    by_cases n:f.map AV.p=[]
    ·rw[n]at h⊢;rw[jv]at h⊢;exact h
    ·rw[<-xu h hs n];exact h
   refine⟨d,o,kU _ _,by simp[e9],fun w' q m j=>?_⟩;exact zy (F m o j) (cells w' q v3 m)
  |seq f=>
   simp[kT]at g;subst g;simp only[aD,aH]at i;rcases i with⟨rfl,rfl⟩|⟨az,off,cap,an,d,v1,v2,v3,v5,sp,D,rfl⟩
   ·exact⟨[],jv.2 rfl,by simp[bk],rfl,fun w' _ m j=>by simp[eP]⟩
   rcases D with rfl|rfl
   case inr=>
    obtain rfl:f=[]:=hO.1 o_;exact⟨[],jv.2 rfl,by simp[bk],rfl,fun w' _ m j=>by
     obtain rfl:m=0:=by simpa using j
     exact FU⟩
   have h:Row P w ad β H an (f.map .p) d:=pq.2 v1;have o:Row P w ad β H sz (f.map .p) d:=by
    by_cases n:f.map AV.p=[]
    ·rw[n]at h⊢;rw[jv]at h⊢;exact h
    ·rw[<-xu h hs n];exact h
   refine⟨d,o,kU _ _,by simp[e9],fun w' q m j=>?_⟩;exact zy (F m o j) (cells w' q v3 m)
  |str s=>
   simp[kT]at g;subst g;simp only[aD,aH]at i;obtain⟨bs,rfl,rfl⟩:=i;have M:sz=1\/bs.data.toList=[]:=by
    cases A:bs.data.toList with
    |nil=>exact .inr rfl
    |cons a r=>
     rw[A]at hs;simp[gP,aa,aP,bZ]at hs;exact .inl hs.1.symm
   have h:Row P w ad β H sz ((bs.data.toList.map (·.toNat)).map fun c=>.p (.int .u8 (c:Nat))) (bs.data.toList.map fun c=>[hB .u8 c.toNat]):=by
    rcases M with rfl|A
    ·generalize bs.data.toList=l
     induction l with
     |nil=>exact jv.2 rfl
     |cons a r E=>exact uQ.2 ⟨_,_,rfl,by simp[bG,bc],rfl,E⟩
    ·rw[A];exact jv.2 rfl
   refine⟨_,h,by rw[eQ];intro v i;simp at i;obtain⟨a,_,rfl⟩:=i;simp[aI],by simp[e9],fun w' _ m _=>?_⟩;have e:((bs.data.toList.map fun c=>[hB .u8 c.toNat]).take m).flatten=(bs.data.toList.take m).map fun c=>hB .u8 c.toNat:=by
    rw[<-ii];generalize bs.data.toList.take m=l
    induction l with
    |nil=>rfl
    |cons a r E=>simp[E]
   rw[e];simp only[eP,hm];congr 1;apply b0;simp[ByteArray.data_extract]
  |_=>simp[kT]at g
 |sl b aF an off len=>
  simp only[kT]at g
  split at g
  case h_2=>simp at g
  rename_i k S Q f C
  split at g
  case isFalse=>simp at g
  rename_i hc;obtain⟨rfl,rfl,B⟩:=hc;simp at g;subst g;simp only[aD,cg,cG]at i;obtain⟨_,v2,v3⟩:=i.2 k f C;have L:((f.drop off).take len).length=len:=by simp;omega
  by_cases hn:eU k f
  ·rw[v2 hn];have K:=hn.2;subst K;simp at B;obtain⟨rfl,rfl⟩:=B;exact⟨[],jv.2 s_,by simp[bk],rfl,fun w' _ m j=>by simp[eP]⟩
  ·rw[v3 hn];rcases G.dQ b _ C with hold|⟨cs,O,d,rest,k1,k2,k3,k4,k5,k6⟩
   ·exact(hn hold).elim
   obtain⟨x,y,z,e1,e2,e3,e4,e5⟩:=qq k2 off len B;have o:Row P w ad β H sz ((f.drop off).take len) y:=by
    by_cases n:(f.drop off).take len=[]
    ·rw[n]at e2⊢;rw[jv]at e2⊢;exact e2
    ·rw[<-xu e2 hs n];exact e2
   refine⟨y,o,?_,by rw[L];rfl,fun w' q m j=>?_⟩
   ·rw[eQ];intro v i;exact eQ.1 (G.refs b _ C) v (iB (iA i))
   ·refine zy (F m o j) (cells w' q ?_ m);rw[<-e3];exact pc k1 (post:=z.flatten++rest) (by rw[k3,e1];simp)
 |_=>simp[kT]at g
theorem ard{T X e:c9}{i:dy}{f:cy}{sz:Nat}(a:uO P T sz e i)(b:jI P X=true)(hz:i.zero=some f)(y:c9){p:Option Addr}{sLen sCap n:Nat}{j h:Array cy}(x:cy)
 (hx:e9 x=pure n)(r:(eP sz sLen (.slice p sLen sCap)).run P w.drew=.ok j w.drew)(bm:(eP sz n x).run P w.drew=.ok h w.drew)(q:sCap<sLen+n)(g:sLen+n<=dA):
 ∃cap,sLen+n<=cap/\(e7 #[T,X] y #[.slice p sLen sCap,x]).run P w=
  .ok (.slice (some ⟨w.heap.size,0,none⟩) (sLen+n) cap) {w.drew with heap:=w.heap.push (.cells (j++h++fb f.cells (cap-(sLen+n))) e)}:=by
 refine⟨grownCap w (sLen+n) sCap e,by simp[grownCap,Question.cut],?_⟩;have o:∃d,P.underlying X=some d/\∀k,d≠.int k:=by
  unfold jI at b
  split at b
  ·simp at b
  ·rename_i d c u;exact⟨_,u,c⟩
  ·simp at b
 obtain⟨d,c,z⟩:=o;have hn:¬(sLen+n<=sCap):=o_
 have m:¬(9223372036854775807<((sLen:Int)+(n:Int))):=by unfold dA at g;omega
 have A:fi (sLen+n) sCap*i.bytes<=281474976710656:=by
  refine growslice_fits q ?_;have:=kb g (Nat.le_of_lt a.bytes);unfold dA at this;omega
 have l:¬(281474976710656<fi (sLen+n) sCap*i.bytes):=o_
 have s:(sizeOf e).run P w=.ok sz w:=a.run w;have t:∀w:db,(typeInfo e).run P w=.ok i w:=fun w=>by simp[typeInfo,a.info]
 have v:∀w:db,(zeroValue e).run P w=.ok f w:=fun w=>by simp[zeroValue,typeInfo,a.info,hz]
 simp[e7,c6 a.jR,c6 c,s,t,v,hx,hn,m,l,Question.forced,r,bm,newRow,grownCap,Array.append_assoc];rfl
theorem OE{T X e:c9}{i:dy}{sz:Nat}(j:uO P T sz e i)(c:jI P X=true)(t:c9){g off:Nat}{sLen sCap n:Nat}{b:Array cy}{h:c9}{a:List cy}(x:cy)
 (hx:e9 x=pure n)(o:w.heap[g]?=some (.cells b h (0,0)))(bm:(eP sz n x).run P w=.ok a.toArray w)(l:∀u∈a,u.oneCell'=true)(q:sLen+n<=sCap)(p:off+sLen*sz+a.length<=b.size):
 (e7 #[T,X] t #[.slice (some ⟨g,off,none⟩) sLen sCap,x]).run P w=
  .ok (.slice (some ⟨g,off,none⟩) (sLen+n) sCap) (w.setRow g (b.toList.take (off+sLen*sz)++a++b.toList.drop (off+sLen*sz+a.length)).toArray):=by
 have m:∃d,P.underlying X=some d/\∀k,d≠.int k:=by
  unfold jI at c
  split at c
  ·simp at c
  ·rename_i d f s;exact⟨_,s,f⟩
  ·simp at c
 obtain⟨d,f,v⟩:=m;have aY:=eo P g (off+sLen*sz) h a 0 b w o (by simpa using p) l;simp only[j7]at aY;have r:(sizeOf e).run P w=.ok sz w:=j.run w;simp[e7,c6 j.jR,c6 f,r,hx,q,bm,mW,aY]
theorem aom{T X e:c9}{i:dy}{sz:Nat}(f:uO P T sz e i)(b:jI P X=true)(m:c9){p:Option Addr}{sLen sCap:Nat}(x:cy)
 (hx:e9 x=pure 0)(bm:(eP sz 0 x).run P w=.ok #[] w)(g:sLen<=sCap):
 (e7 #[T,X] m #[.slice p sLen sCap,x]).run P w=.ok (.slice p sLen sCap) w:=by
 have j:∃d,P.underlying X=some d/\∀k,d≠.int k:=by
  unfold jI at b
  split at b
  ·simp at b
  ·rename_i d c l;exact⟨_,l,c⟩
  ·simp at b
 obtain⟨d,c,n⟩:=j;have h:(sizeOf e).run P w=.ok sz w:=f.run w;cases p with
 |none=>simp[e7,c6 f.jR,c6 c,h,hx,g,bm]
 |some a=>simp[e7,c6 f.jR,c6 c,h,hx,g,bm,storeCells]
theorem cF.drew{aJ:Nat->Prop}{w1 w':db}{aR:Bd}{H':ak}(a:w1.heap=w.heap)(b:w1.os=w.os/\w1.output=w.output)(h:cF P ai ad w1 β H aJ w' aR H'):cF P ai ad w β H aJ w' aR H':=
 ⟨h.cq,h.fresh,⟨by rw[<-a];exact h.ext.size,fun k hk=>by rw[<-a];exact h.ext.same k hk,h.ext.io.1.trans b.1,h.ext.io.2.trans b.2⟩,h.step,h.rel,h.iS,h.loop⟩
theorem Zm(z:Array cy)(n:Nat):(fb z n).size=n*z.size:=by simp[fb]
theorem GK{an:Nat}:∀{b:List AV}{a:List (List cy)},Row P w ad β H an b a->∀c∈a.flatten,c.oneCell'=true
 |[],a,h=>by rw[jv]at h;subst h;simp
 |v::b,a,h=>by
  rw[uQ]at h;obtain⟨c,cs,rfl,d,_,e⟩:=h;intro x hx;simp only[hW,hZ]at hx;exact hx.elim (Dt d x) (GK e x)
theorem Row.mono{w':db}{aJ:Nat->Prop}{aR:Bd}{H':ak}(hI:∀k,ad k->aJ k)(hs:∀k,ad k->w'.heap[k]?=w.heap[k]?)(aY:cZ β H aR H'){an:Nat}{a:List AV}{b:List (List cy)}(c:bk (aQ H) a)
 (h:Row P w ad β H an a b):Row P w' aJ aR H' an a b:=b9.mono hI hs aY _ _ _ c h
theorem CA{c:Call}{s x:dd}(e:o.op= .call c)(hc:c.callee= .builtin .append)(b:c.args.toList=[s,x]){a:dd->cy}{w w':db}{v:cy}
 (h:(e7 c.argTypes o.type #[a s,a x]).run P w=.ok v w'):(dg a o).run P w=.ok (.value v) w':=by
 have d:c.args=#[s,x]:=by apply b0;simpa using b
 simp only[dg,e,resolve,hc,d];simp[invoke,builtin,h]
end
end Go.ae
