import Derived.Test.YtdjojlnnobkliaaGreatDoorSZ
import Derived.Calls
import Derived.Laws.Sem
import Derived.IntWalk
import Derived.Laws.Cells
import Derived.Laws.CopyRow
import Derived.Laws.Entries
import Derived.RangeFuncRecord
import Derived.RangeFuncNested
/- Parts of a proof. -/
set_option linter.unusedSimpArgs false
set_option linter.unusedVariables false
set_option linter.unusedSectionVars false
open Array renaming getElem?_eq_some_iff->bl, replicate->bo, getD_eq_getD_getElem?->bp, getElem?_toList->bv, range->bI, mem_toList_iff->bV, getElem?_setIfInBounds_ne->bW, mapM_eq_mapM_toList->b2, mem_of_getElem?->b3, getElem_toList->b4, getElem?_push->b5, foldl_toList->cb, toList_map->cc, toList->ce, getD->ck, ext'->cv
open BitVec renaming ofInt->cx
open Bool renaming false_eq_true->cy, and_eq_true->c6
open Go renaming Value->c9, Program->da, TypeId->db, World->dg, run_underlying->dk, Operand->dl, step_lone_go->dp, execOp->dq, FuncId->dz, Deferred->ea, Frame->eb, step_leave_returned->ec, TypeInfo->ed, Steps->ee, ResultVar->ei, Machine->ej, IntKind->em, run_newObj->en, setRow_other->eo, MapEntry->eq, Calls->ew, setRow_size->e6, setRow_heap->e7, BinOp->e8
open Go.Builtin renaming len_->e9
open Go.Deferred renaming ofValue->fb
open Go.Frame renaming round->fl, enter->fm
open Go.Instr renaming sureAddr->fp, indexAt->fv, yield->gb, fill->gc, build->ge
open Go.Op renaming operands->gg, unary->gi, intArith->gj, intBits->gm
open Go.Program renaming cellsOf->gt, underlying->gw, underlyingId->gx
open Go.Region renaming wanted->gy, schedule->gB, binds->gE
open Go.Result renaming andThen_ok->g0
open Go.Sem renaming run_bind->g7, run_pure->g8, run->g9, run_map->ha
open Go.Steps renaming one->hb, trans->hd, refl->hg
open Go.Value renaming oneCell'->hj, cells->hl
open Go.World renaming putObj_heap_other->hm, size_alloc->hn, cell?->ho
open Go.stepG renaming exec->hp, apply->hr, oper->ht
open Iff renaming rfl->hv
open List renaming getElem?_eq_some_iff->hw, replicate->hz, getElem?_set_self->hA, getElem?_set_ne->hB, sum_replicate_nat->hC, getElem?_eq_getElem->hD, take_replicate->hE, getElem?_replicate->hF, append_assoc->hG, mem_of_getElem?->hH, mem_or_eq_of_mem_set->hJ, getElem?_append_left->hK, length_eq_zero_iff->hL, map_cons->hM, replicate_succ->hN, getElem?_append_right->hO, flatten_cons->hP, eq_of_mem_replicate->hQ, length_cons->hR, mem_append->hS, length_append->hT, cons_append->hU, range'->hV, length->hW, getElem_append_right->hX, getElem_append_left->hZ, getElem?_cons_succ->h0, take_append_drop->h1, set_append_right->h2, set_cons_zero->h3, getElem?_map->h4, getElem_mem->h5, all_eq_true->h6, length_set->h7, append_nil->h8, mapM_cons->h9, drop_drop->ih, mem_map->ii, range->ik
open Nat renaming le_refl->ip, min_eq_left->ix, lt_irrefl->iz, add_sub_cancel_left->i0, le_trans->i1, add_zero->i2, lt_of_lt_of_le->i3, add_assoc->i4, succ_mul->i5, ne_of_lt->i6
open Ne renaming symm->i7
open Option renaming bind_some->i8, isSome_iff_exists->i9
open Option.some renaming injEq->jp, inj->js
open Prod renaming snd->jF, fst->j1
namespace Go.aq
set_option linter.unusedSectionVars false
inductive PV where
 |undef
 |bool (b:Bool)
 |int (k:em) (n:Int)
 |str (s:List Nat)
 |dL
 |cr (t:PV)
 |aO
 |cT (full:Bool) (es:List PV)
 |seq (es:List PV)
 |ft
 |eg (es:List (PV×PV))
 |func (f:dz) (first iF:List PV)
 |gU
 |gI
 |st (u:db) (fs:List PV)
 |aE (vs:List PV)
 deriving Inhabited
inductive AV where
 |p (v:PV)
 |ptr (b:Nat) (path:List (db×Nat))
 |cd (b aC ai i:Nat) (path:List (db×Nat))
 |sl (b aC ai off len:Nat)
 |map (b:Nat)
 |func (f:dz) (first iF:List AV)
 |st (u:db) (fs:List AV)
 |aE (vs:List AV)
 deriving Inhabited
inductive AK where|exact|grow|frozen|bytes
 deriving DecidableEq
def AK.gr:AK->Bool
 | .grow| .bytes=>true
 |_=>false
structure dK where
 st:LoopState
 pending:Option Code
 n:Nat
 params:List Tmp
 assign:Code
 body:Code
 env:List (Nat×AV)
inductive Obj where
 |hole
 |dead
 |box (fz:Bool) (t:AV)
 |arr (k:AK) (aC ai:Nat) (es:List AV)
 |map (fz:Bool) (es:List (PV×PV))
 |cZ (ks:List PV) (vs:List AV)
 |dw (s:List Nat) (pos:Nat)
 |loop (L:dK)
 deriving Inhabited
abbrev aj:=List Obj
abbrev Env:=List (Nat×AV)
structure St where
 env:Env
 heap:aj
def aP(e:Env)(t:Nat):AV:=
 match e with
 |[]=>.p .undef
 |(k,v)::r=>if t=k then v else aP r t
inductive jG where|bad|leaf|agg (u:db)
 deriving DecidableEq
def aL:PV->jG
 | .undef| .aE _=>.bad
 | .st u _=>.agg u
 |_=>.leaf
def aa:AV->jG
 | .p v=>aL v
 | .aE _=>.bad
 | .st u _=>.agg u
 |_=>.leaf
def bY:PV->List PV
 | .st _ fs=>fs
 |_=>[]
section tables
variable(P:da)
def dA(u:db):Option (List Nat):=
 match(P.info? u).map (fun i:ed=>i.desc)with
 |some (.struct fs)=>
  let l:=fs.toList.map fun f=>P.cellsOf f.type
  if l.all (0<·)&&l.sum==P.cellsOf u&&(fs.toList.zipIdx.all fun(f,i)=>f.offset==(l.take i).sum)then some l else none
 |some (.array n e)=>if 0<P.cellsOf e&&n*P.cellsOf e==P.cellsOf u then some (hz n (P.cellsOf e))else none
 |_=>none
def kindOf(T:db):jG:=
 match P.underlying T with
 |some (.struct _)|some (.array _ _)=>
  if(dA P (P.underlyingId T)).isSome&&P.cellsOf T==P.cellsOf (P.underlyingId T)then .agg (P.underlyingId T)else .bad
 |some _=>if P.cellsOf T==1 then .leaf else .bad
 |none=>.bad
def bG:jG->Nat
 | .bad=>0
 | .leaf=>1
 | .agg u=>P.cellsOf u
def jn(u:db):List db:=
 match(P.info? u).map (fun i:ed=>i.desc)with
 |some (.struct fs)=>fs.toList.map (·.type)
 |some (.array n e)=>hz n e
 |_=>[]
end tables
def ofConst:c9->PV
 | .bool b=>.bool b
 | .int k n=>.int k n
 | .string s=>.str (s.data.toList.map (·.toNat))
 | .pointer none=>.dL
 | .slice none 0 0=>.aO
 | .map none=>.ft
 | .nilFunc=>.gU
 | .nilIface=>.gI
 |_=>.undef
def pF(P:da)(a:db->List c9->Option PV):List db->List Nat->List c9->Option (List PV)
 |[],[],[]=>some []
 |T::b,s::c,cs=>
  if(cs.take s).length=s then
   match a T (cs.take s),pF P a b c (cs.drop s)with
   |some v,some vs=>if bG P (aL v)=s then some (v::vs)else none
   |_,_=>none
  else none
 |_,_,_=>none
def tZ(P:da):Nat->db->List c9->Option PV
 |0,_,_=>none
 |n+1,T,cs=>
  match kindOf P T with
  | .leaf=>match cs with
   |[c]=>match ofConst c with
    | .undef=>none
    |v=>some v
   |_=>none
  | .agg u=>match dA P u with
   |some l=>
    match pF P (tZ P n) (jn P u) l cs with
    |some fs=>some (.st u fs)
    |none=>none
   |none=>none
  | .bad=>none
def Am:c9->jG->Bool
 | .agg _,.agg _=>true
 | .agg _,_=>false
 |_,.agg _=>false
 |_,_=>true
def cB(P:da)(T:db):Option PV:=
 match(P.info? T).bind (·.zero)with
 |some z=>if Am z (kindOf P T)then tZ P 40 T z.cells.toList else none
 |none=>none
section relation
variable(P:da)(w:dg)(ad:Nat->Prop)
def gZ(an off:Nat)(cs:List c9):Prop:=∀i(h:i<cs.length),w.cell? ⟨an,off+i,none⟩=some cs[i]
mutual
def aZ:PV->List c9->Prop
 | .undef,_| .aE _,_=>False
 | .bool b,cs=>cs=[.bool b]
 | .int k n,cs=>cs=[.int k n]
 | .str s,cs=>∃bs:ByteArray,cs=[.string bs]/\s=bs.data.toList.map (·.toNat)
 | .dL,cs=>cs=[.pointer none]
 | .cr t,cs=>∃an off ts,aZ t ts/\ad an/\gZ w an off ts/\cs=[.pointer (some ⟨an,off,none⟩)]
 | .aO,cs=>cs=[.slice none 0 0]
 | .cT full es,cs=>∃an off cap ai a,bg (hz es.length ai) es a/\(es≠[]->ad an)/\gZ w an off a.flatten/\
  (full=true->cap=es.length)/\es.length<=cap/\∃sp,(sp=none\/cap=0)/\cs=[.slice (some ⟨an,off,sp⟩) es.length cap]
 | .seq es,cs=>(es=[]/\cs=[.slice none 0 0])\/∃an off cap ai a,bg (hz es.length ai) es a/\(es≠[]->ad an)/\gZ w an off a.flatten/\
  es.length<=cap/\∃sp,(sp=none\/cap=0)/\cs=[.slice (some ⟨an,off,sp⟩) es.length cap]
 | .ft,cs=>cs=[.map none]
 | .eg es,cs=>∃r h j,ad r/\w.heap[r]?=some (.map h j)/\cF es h.toList/\cs=[.map (some r)]
 | .func f first iF,cs=>∃i g,br first i/\br iF g/\cs=[.func (.func f) i.toArray g.toArray]
 | .gU,cs=>cs=[.nilFunc]
 | .gI,cs=>cs=[.nilIface]
 | .st u fs,cs=>∃l a,dA P u=some l/\bg l fs a/\cs=a.flatten
def bg:List Nat->List PV->List (List c9)->Prop
 |[],[],a=>a=[]
 |n::p,v::vs,a=>∃c cs,a=c::cs/\aZ v c/\c.length=n/\bg p vs cs
 |_,_,_=>False
def aF:PV->c9->Prop
 | .undef,_=>True
 | .aE vs,v=>∃d,br vs d/\v=.tuple d.toArray
 | .st u fs,v=>∃l a,dA P u=some l/\bg l fs a/\v=.agg a.flatten.toArray
 | .bool b,v=>v=.bool b
 | .int k n,v=>v=.int k n
 | .str s,v=>∃bs:ByteArray,v=.string bs/\s=bs.data.toList.map (·.toNat)
 | .dL,v=>v=.pointer none
 | .cr t,v=>∃an off ts,aZ t ts/\ad an/\gZ w an off ts/\v=.pointer (some ⟨an,off,none⟩)
 | .aO,v=>v=.slice none 0 0
 | .cT full es,v=>∃an off cap ai a,bg (hz es.length ai) es a/\(es≠[]->ad an)/\gZ w an off a.flatten/\
  (full=true->cap=es.length)/\es.length<=cap/\∃sp,(sp=none\/cap=0)/\v=.slice (some ⟨an,off,sp⟩) es.length cap
 | .seq es,v=>(es=[]/\v= .slice none 0 0)\/∃an off cap ai a,bg (hz es.length ai) es a/\(es≠[]->ad an)/\gZ w an off a.flatten/\
  es.length<=cap/\∃sp,(sp=none\/cap=0)/\v=.slice (some ⟨an,off,sp⟩) es.length cap
 | .ft,v=>v=.map none
 | .eg es,v=>∃r h j,ad r/\w.heap[r]?=some (.map h j)/\cF es h.toList/\v=.map (some r)
 | .func f first iF,v=>∃i g,br first i/\br iF g/\v=.func (.func f) i.toArray g.toArray
 | .gU,v=>v=.nilFunc
 | .gI,v=>v=.nilIface
def br:List PV->List c9->Prop
 |[],d=>d=[]
 |v::vs,d=>∃y o,d=y::o/\aF v y/\br vs o
def cF:List (PV×PV)->List eq->Prop
 |[],es=>es=[]
 |(k,v)::r,es=>∃e m,es=e::m/\aF k e.key/\aF v e.val/\cF r m
end
end relation
class Gl where
 g:Nat->PV
 u8:db
 raw:Nat->Option (Array c9)
 bx:db->Option db
 AN:Nat->Bool
def jy[Gl](T:db)(s:jG):Bool:=match s with
 | .agg u=>match Gl.bx u with
  |some a=>Nat.beq T a
  |none=>true
 |_=>true
structure mZ[Gl](P:da)(w:dg)(ad:Nat->Prop):Prop where
 val:∀g,aF P w ad (Gl.g g) (.pointer (some ⟨g,0,none⟩))
 raw:∀g cs,Gl.raw g=some cs->ad g/\∃T,w.heap[g]?=some (.cells cs T (0,0))
 AN:∀g,Gl.AN g=true->ad g/\∃te pe T,w.heap[g]?=some (.cells #[.iface te pe] T (0,0))
end Go.aq
namespace Go.aq
variable[Gl]
structure Bd where
 an:Nat->Nat
 cap:Nat->Nat
def gA(P:da):List (db×Nat)->Option Nat
 |[]=>some 0
 |(u,i)::r=>
  match dA P u,gA P r with
  |some l,some o=>if i<l.length then some ((l.take i).sum+o)else none
  |_,_=>none
def Obj.uY:Obj->Prop
 | .map _ _| .cZ _ _=>True
 |_=>False
section
variable(P:da)(w:dg)(ad:Nat->Prop)(β:Bd)(H:aj)
def mX(b:Nat):Prop:=∃fz t,H[b]?=some (.box fz t)
def fh(b aC ai:Nat)(k:AK)(a:List AV):Prop:=H[b]?=some (.arr k aC ai a)
def dc(k:AK)(a:List AV):Prop:=k.gr=true/\a=[]
def ot(b:Nat):Prop:=∃o,H[b]?=some o/\o.uY
def mY(b:Nat):Prop:=(∃s pos,H[b]?=some (.dw s pos))
def ib(b:Nat):Prop:=(∃L,H[b]?=some (.loop L))
def bR:AV->c9->Prop
 | .ptr b path,v=>∃an off o,v=.pointer (some ⟨an,off,none⟩)/\gA P path=some o/\(mX H b\/mY H b->an=β.an b/\off=o)
 | .cd b aC ai i path,v=>∃an off o,v=.pointer (some ⟨an,off,none⟩)/\gA P path=some o/\∀k a,fh H b aC ai k a->¬dc k a->an=β.an b/\off=i*ai+o
 | .sl b aC ai off len,v=>∀k a,fh H b aC ai k a->
  off+len<=a.length/\(dc k a->v=.slice none 0 0)/\(¬dc k a->v=.slice (some ⟨β.an b,off*ai,none⟩) len (β.cap b-off))
 | .map b,v=>(ot H b->v=.map (some (β.an b)))/\(ib H b->v=.func (.yield (β.an b)) #[] #[])
 |_,_=>False
def bN(v:AV)(x:c9):Prop:=x.oneCell'=true/\bR P β H v x
mutual
def bn:AV->List c9->Prop
 | .p t,cs=>aZ P w ad t cs
 | .st u fs,cs=>∃l a,dA P u=some l/\bM l fs a/\cs=a.flatten
 | .func f first iF,cs=>∃e d,bw first e/\bw iF d/\cs=[.func (.func f) e.toArray d.toArray]
 | .aE _,_=>False
 | .ptr b path,cs=>∃v,cs=[v]/\bN P β H (.ptr b path) v
 | .cd b aC ai i path,cs=>∃v,cs=[v]/\bN P β H (.cd b aC ai i path) v
 | .sl b aC ai off len,cs=>∃v,cs=[v]/\bN P β H (.sl b aC ai off len) v
 | .map b,cs=>∃v,cs=[v]/\bN P β H (.map b) v
def bM:List Nat->List AV->List (List c9)->Prop
 |[],[],a=>a=[]
 |n::h,v::vs,a=>∃c cs,a=c::cs/\bn v c/\c.length=n/\bM h vs cs
 |_,_,_=>False
def aD:AV->c9->Prop
 | .p t,v=>aF P w ad t v
 | .st u fs,v=>∃l a,dA P u=some l/\bM l fs a/\v=.agg a.flatten.toArray
 | .func f first iF,v=>∃e d,bw first e/\bw iF d/\v=.func (.func f) e.toArray d.toArray
 | .aE vs,v=>∃xs,bw vs xs/\v=.tuple xs.toArray
 | .ptr b path,v=>bN P β H (.ptr b path) v
 | .cd b aC ai i path,v=>bN P β H (.cd b aC ai i path) v
 | .sl b aC ai off len,v=>bN P β H (.sl b aC ai off len) v
 | .map b,v=>bN P β H (.map b) v
def bw:List AV->List c9->Prop
 |[],xs=>xs=[]
 |v::vs,xs=>∃y g,xs=y::g/\aD v y/\bw vs g
end
mutual
def aG(n:Nat×Nat->Prop):AV->Prop
 | .p _=>True
 | .ptr b _| .map b=>n (b,0)
 | .cd b aC _ _ _| .sl b aC _ _ _=>n (b,aC)
 | .func _ first iF=>aV n first/\aV n iF
 | .st _ fs=>aV n fs
 | .aE vs=>aV n vs
def aV(n:Nat×Nat->Prop):List AV->Prop
 |[]=>True
 |v::vs=>aG n v/\aV n vs
end
def Obj.has:Obj->Nat->Prop
 | .hole,_=>False
 | .arr _ aC _ _,v=>v<=aC
 |_,_=>True
def aI(H:aj)(x:Nat×Nat):Prop:=∃o,H[x.1]?=some o/\o.has x.2
def AV.sB:AV->Prop
 | .p _=>True
 |_=>False
def Obj.refs(n:Nat×Nat->Prop):Obj->Prop
 | .box _ t=>aG n t
 | .arr _ _ _ es=>aV n es
 | .cZ _ vs=>aV n vs
 | .loop L=>∀x,aG n (aP L.env x)
 |_=>True
def Obj.live:Obj->Prop
 | .hole| .dead=>False
 | .arr k _ _ es=>¬dc k es
 |_=>True
variable(ah:Nat->Prop)
def cE(fz:Bool)(b:Nat):Prop:=if fz then ad (β.an b)else¬ad (β.an b)/\¬ah (β.an b)
def fC(b:Nat):Obj->Prop
 | .hole| .dead=>True
 | .box fz t=>∃cs T,w.heap[β.an b]?=some (.cells cs T (0,0))/\bn P w ad β H t cs.toList/\cE ad β ah fz b/\(fz=true->t.sB)/\jy T (aa t)=true
 | .arr k _ver ai es=>dc k es\/
  ∃cs T d f,w.heap[β.an b]?=some (.cells cs T (0,0))/\bM P w ad β H (hz es.length ai) es d/\cs.toList=d.flatten++f/\
   cs.size=β.cap b*ai/\es.length<=β.cap b/\(k=.exact->β.cap b=es.length)/\cE ad β ah (k== .frozen) b/\(k=.frozen->∀e∈es,e.sB)/\(k=.bytes->T=Gl.u8)
 | .map fz es=>∃a c,w.heap[β.an b]?=some (.map a c)/\cF P w ad es a.toList/\cE ad β ah fz b
 | .cZ ks vs=>∃a c,w.heap[β.an b]?=some (.map a c)/\br P w ad ks (a.toList.map (·.key))/\bw P w ad β H vs (a.toList.map (·.val))/\cE ad β ah false b
 | .dw s pos=>∃bs:ByteArray,w.heap[β.an b]?=some (.stringIter bs pos)/\s=bs.data.toList.map (·.toNat)/\cE ad β ah false b
 | .loop L=>∃tmps defers fn,w.heap[β.an b]?=some (.loop {state:=L.st,pending:=L.pending,fn,tmps,params:=L.params.toArray,assign:=L.assign,body:=L.body,defers})/\tmps.size=L.n/\
  (∀x,aD P w ad β H (aP L.env x) (tmps.getD x undef))/\cE ad β ah false b
structure b7:Prop where
 cK:∀b o,H[b]?=some o->fC P w ad β H ah b o
 inj:∀b b' o o',H[b]?=some o->H[b']?=some o'->o.live->o'.live->¬ad (β.an b)->β.an b=β.an b'->b=b'
 refs:∀(b:Nat)(o:Obj),H[b]?=some o->o.refs (aI H)
 bS:∀k,ad k->k<w.heap.size
 eM:∀k,ah k->k<w.heap.size
 jg:mZ P w ad
end
structure Ext(ah ad:Nat->Prop)(w w':dg):Prop where
 size:w.heap.size<=w'.heap.size
 same:∀k,ah k\/ad k->w'.heap[k]?=w.heap[k]?
 io:w'.os=w.os/\w'.output=w.output
structure cw(β:Bd)(H:aj)(aM:Bd)(H':aj):Prop where
 box:∀b,aI H (b,0)->mX H' b->mX H b/\aM.an b=β.an b
 it:∀b,aI H (b,0)->mY H' b->mY H b/\aM.an b=β.an b
 map:∀b,aI H (b,0)->ot H' b->ot H b/\aM.an b=β.an b
 arr:∀b aC ai k es,aI H (b,aC)->fh H' b aC ai k es->∃k0 gS,fh H b aC ai k0 gS/\gS.length<=es.length/\(dc k es↔dc k0 gS)/\(¬dc k es->aM.an b=β.an b/\aM.cap b=β.cap b)
 loop:∀b,aI H (b,0)->ib H' b->ib H b/\aM.an b=β.an b
theorem cw.refl(β:Bd)(H:aj):cw β H β H:=
 ⟨fun _ _ h=>⟨h,rfl⟩,fun _ _ h=>⟨h,rfl⟩,fun _ _ h=>⟨h,rfl⟩,fun _ _ _ k a _ h=>⟨k,a,h,ip _,hv,fun _=>⟨rfl,rfl⟩⟩,fun _ _ h=>⟨h,rfl⟩⟩
theorem Ext.refl(ah ad:Nat->Prop)(w:dg):Ext ah ad w w:=⟨ip _,fun _ _=>rfl,rfl,rfl⟩
section mono
variable{P:da}{w w':dg}{ad aH:Nat->Prop}
theorem XS{an off:Nat}(h:w'.heap[an]?=w.heap[an]?):w'.cell? ⟨an,off,none⟩=w.cell? ⟨an,off,none⟩:=by
 simp[ho,h]
theorem gZ.same{an off:Nat}{cs:List c9}(h:w'.heap[an]?=w.heap[an]?)(hc:gZ w an off cs):gZ w' an off cs:=
 fun i hi=>(XS h).trans (hc i hi)
theorem xX{n:List Nat}{a:List (List c9)}(h:bg P w ad n [] a):a=[]:=by
 cases n<;>simp[bg]at h;exact h
variable(hI:∀k,ad k->aH k)(hs:∀k,ad k->w'.heap[k]?=w.heap[k]?)
include hI hs
mutual
theorem aZ.mono:∀(v:PV)(cs:List c9),aZ P w ad v cs->aZ P w' aH v cs
 | .undef,_,h| .aE _,_,h=>by simp[aZ]at h
 | .bool _,_,h| .int _ _,_,h| .str _,_,h| .dL,_,h| .aO,_,h| .ft,_,h| .gU,_,h| .gI,_,h=>by simpa[aZ]using h
 | .cr t,cs,h=>by
  simp only[aZ]at h⊢;obtain⟨an,off,ts,a,b,d,j⟩:=h;exact⟨an,off,ts,aZ.mono t ts a,hI _ b,d.same (hs _ b),j⟩
 | .cT full o,cs,h=>by
  simp only[aZ]at h⊢;obtain⟨an,off,cap,ai,g,a,b,d,j⟩:=h;refine⟨an,off,cap,ai,g,bg.mono _ o g a,fun m=>hI _ (b m),?_,j⟩
  by_cases m:o=[]
  ·subst m;have:=xX a;subst this;intro i hi;simp at hi
  ·exact d.same (hs _ (b m))
 | .seq o,cs,h=>by
  simp only[aZ]at h⊢;rcases h with h|⟨an,off,cap,ai,g,a,b,d,j⟩
  ·exact .inl h
  refine .inr ⟨an,off,cap,ai,g,bg.mono _ o g a,fun m=>hI _ (b m),?_,j⟩
  by_cases m:o=[]
  ·subst m;have:=xX a;subst this;intro i hi;simp at hi
  ·exact d.same (hs _ (b m))
 | .eg o,cs,h=>by
  simp only[aZ]at h⊢;obtain⟨r,p,clock,a,b,d,j⟩:=h;exact⟨r,p,clock,hI _ a,(hs _ a).trans b,cF.mono o _ d,j⟩
 | .func f first iF,cs,h=>by
  simp only[aZ]at h⊢;obtain⟨z,s,a,b,d⟩:=h;exact⟨z,s,br.mono first z a,br.mono iF s b,d⟩
 | .st u fs,cs,h=>by
  simp only[aZ]at h⊢;obtain⟨l,g,a,b,d⟩:=h;exact⟨l,g,a,bg.mono l fs g b,d⟩
theorem bg.mono:∀(l:List Nat)(vs:List PV)(g:List (List c9)),bg P w ad l vs g->bg P w' aH l vs g
 |[],[],_,h=>by simpa[bg]using h
 |[],_::_,_,h=>by simp[bg]at h
 |_::_,[],_,h=>by simp[bg]at h
 |n::B,v::vs,g,h=>by
  simp only[bg]at h⊢;obtain⟨c,cs,a,b,d,j⟩:=h;exact⟨c,cs,a,aZ.mono v c b,d,bg.mono B vs cs j⟩
theorem aF.mono:∀(v:PV)(x:c9),aF P w ad v x->aF P w' aH v x
 | .undef,_,h=>by simp[aF]
 | .aE vs,x,h=>by
  simp only[aF]at h⊢;obtain⟨q,a,b⟩:=h;exact⟨q,br.mono vs q a,b⟩
 | .bool _,_,h| .int _ _,_,h| .str _,_,h| .dL,_,h| .aO,_,h| .ft,_,h| .gU,_,h| .gI,_,h=>by simpa[aF]using h
 | .cr t,cs,h=>by
  simp only[aF]at h⊢;obtain⟨an,off,ts,a,b,d,j⟩:=h;exact⟨an,off,ts,aZ.mono t ts a,hI _ b,d.same (hs _ b),j⟩
 | .cT full o,cs,h=>by
  simp only[aF]at h⊢;obtain⟨an,off,cap,ai,g,a,b,d,j⟩:=h;refine⟨an,off,cap,ai,g,bg.mono _ o g a,fun m=>hI _ (b m),?_,j⟩
  by_cases m:o=[]
  ·subst m;have:=xX a;subst this;intro i hi;simp at hi
  ·exact d.same (hs _ (b m))
 | .seq o,cs,h=>by
  simp only[aF]at h⊢;rcases h with h|⟨an,off,cap,ai,g,a,b,d,j⟩
  ·exact .inl h
  refine .inr ⟨an,off,cap,ai,g,bg.mono _ o g a,fun m=>hI _ (b m),?_,j⟩
  by_cases m:o=[]
  ·subst m;have:=xX a;subst this;intro i hi;simp at hi
  ·exact d.same (hs _ (b m))
 | .eg o,cs,h=>by
  simp only[aF]at h⊢;obtain⟨r,p,clock,a,b,d,j⟩:=h;exact⟨r,p,clock,hI _ a,(hs _ a).trans b,cF.mono o _ d,j⟩
 | .func f first iF,cs,h=>by
  simp only[aF]at h⊢;obtain⟨z,s,a,b,d⟩:=h;exact⟨z,s,br.mono first z a,br.mono iF s b,d⟩
 | .st u fs,cs,h=>by
  simp only[aF]at h⊢;obtain⟨l,g,a,b,d⟩:=h;exact⟨l,g,a,bg.mono l fs g b,d⟩
theorem br.mono:∀(vs:List PV)(q:List c9),br P w ad vs q->br P w' aH vs q
 |[],_,h=>by simpa[br]using h
 |v::vs,q,h=>by
  simp only[br]at h⊢;obtain⟨y,A,a,b,d⟩:=h;exact⟨y,A,a,aF.mono v y b,br.mono vs A d⟩
theorem cF.mono:∀(o:List (PV×PV))(p:List eq),cF P w ad o p->cF P w' aH o p
 |[],_,h=>by simpa[cF]using h
 |(k,v)::r,p,h=>by
  simp only[cF]at h⊢;obtain⟨e,rest,a,b,d,j⟩:=h;exact⟨e,rest,a,aF.mono k _ b,aF.mono v _ d,cF.mono r rest j⟩
end
theorem mZ.mono(h:mZ P w ad):mZ P w' aH:=⟨fun g=>aF.mono hI hs _ _ (h.val g),fun g cs c=>by
 obtain⟨a,T,b⟩:=h.raw g cs c;exact⟨hI _ a,T,(hs _ a).trans b⟩,fun g c=>by
 obtain⟨a,te,pe,T,b⟩:=h.AN g c;exact⟨hI _ a,te,pe,T,(hs _ a).trans b⟩⟩
variable{β aM:Bd}{H H':aj}(aN:cw β H aM H')
include aN
omit hI hs in
theorem bR.mono:∀(v:AV)(x:c9),aG (aI H) v->bR P β H v x->bR P aM H' v x
 | .ptr b path,x,d,h=>by
  simp only[bR,aG]at*;obtain⟨an,off,o,c,f,g⟩:=h;refine⟨an,off,o,c,f,fun a=>?_⟩;rcases a with a|a
  ·obtain⟨k1,k2⟩:=aN.box b d a;rw[k2];exact g (.inl k1)
  ·obtain⟨k1,k2⟩:=aN.it b d a;rw[k2];exact g (.inr k1)
 | .cd b aC ai i path,x,d,h=>by
  simp only[bR,aG]at*;obtain⟨an,off,o,g1,g2,g3⟩:=h;refine⟨an,off,o,g1,g2,fun k l a e=>?_⟩;obtain⟨k0,gS,c,f,g,j⟩:=aN.arr b aC ai k l d a;rw[(j e).1];exact g3 k0 gS c (fun hh=>e (g.2 hh))
 | .sl b aC ai off len,x,d,h=>by
  simp only[bR,aG]at*;intro k l a;obtain⟨k0,gS,c,f,g,j⟩:=aN.arr b aC ai k l d a;obtain⟨q,m,n⟩:=h k0 gS c;refine⟨o_,fun e=>m (g.1 e),fun e=>?_⟩;rw[(j e).1,(j e).2];exact n (fun hh=>e (g.2 hh))
 | .map b,x,d,h=>by
  simp only[bR,aG]at*;refine⟨fun a=>?_,fun a=>?_⟩
  ·obtain⟨c,f⟩:=aN.map b d a;rw[f];exact h.1 c
  ·obtain⟨c,f⟩:=aN.loop b d a;rw[f];exact h.2 c
 | .p _,_,_,h| .st _ _,_,_,h| .func _ _ _,_,_,h| .aE _,_,_,h=>by simp[bR]at h
omit hI hs in
theorem bN.mono(v:AV)(x:c9)(a:aG (aI H) v)(h:bN P β H v x):bN P aM H' v x:=⟨h.1,bR.mono aN v x a h.2⟩
mutual
theorem bn.mono:∀(v:AV)(cs:List c9),aG (aI H) v->bn P w ad β H v cs->bn P w' aH aM H' v cs
 | .p t,cs,_,h=>by simp only[bn]at h⊢;exact aZ.mono hI hs t cs h
 | .st u fs,cs,a,h=>by
  simp only[bn,aG]at*;obtain⟨l,j,d,e,g⟩:=h;exact⟨l,j,d,bM.mono l fs j a e,g⟩
 | .func f first iF,cs,a,h=>by
  simp only[bn,aG]at*;obtain⟨m,k,d,e,g⟩:=h;exact⟨m,k,bw.mono first m a.1 d,bw.mono iF k a.2 e,g⟩
 | .aE _,_,_,h=>by simp[bn]at h
 | .ptr b path,cs,a,h=>by
  simp only[bn]at*;obtain⟨v,d,e⟩:=h;exact⟨v,d,bN.mono aN _ _ a e⟩
 | .cd b aC ai i path,cs,a,h=>by
  simp only[bn]at*;obtain⟨v,d,e⟩:=h;exact⟨v,d,bN.mono aN _ _ a e⟩
 | .sl b aC ai off len,cs,a,h=>by
  simp only[bn]at*;obtain⟨v,d,e⟩:=h;exact⟨v,d,bN.mono aN _ _ a e⟩
 | .map b,cs,a,h=>by
  simp only[bn]at*;obtain⟨v,d,e⟩:=h;exact⟨v,d,bN.mono aN _ _ a e⟩
theorem bM.mono:∀(l:List Nat)(vs:List AV)(j:List (List c9)),aV (aI H) vs->bM P w ad β H l vs j->bM P w' aH aM H' l vs j
 |[],[],_,_,h=>by simpa[bM]using h
 |[],_::_,_,_,h=>by simp[bM]at h
 |_::_,[],_,_,h=>by simp[bM]at h
 |n::r,v::vs,j,a,h=>by
  simp only[bM,aV]at*;obtain⟨c,cs,d,e,g,q⟩:=h;exact⟨c,cs,d,bn.mono v c a.1 e,g,bM.mono r vs cs a.2 q⟩
theorem aD.mono:∀(v:AV)(x:c9),aG (aI H) v->aD P w ad β H v x->aD P w' aH aM H' v x
 | .p t,cs,_,h=>by simp only[aD]at h⊢;exact aF.mono hI hs t cs h
 | .st u fs,cs,a,h=>by
  simp only[aD,aG]at*;obtain⟨l,j,d,e,g⟩:=h;exact⟨l,j,d,bM.mono l fs j a e,g⟩
 | .func f first iF,cs,a,h=>by
  simp only[aD,aG]at*;obtain⟨m,k,d,e,g⟩:=h;exact⟨m,k,bw.mono first m a.1 d,bw.mono iF k a.2 e,g⟩
 | .aE vs,cs,a,h=>by
  simp only[aD,aG]at*;obtain⟨xs,d,e⟩:=h;exact⟨xs,bw.mono vs xs a d,e⟩
 | .ptr b path,cs,a,h=>by simp only[aD]at*;exact bN.mono aN _ _ a h
 | .cd b aC ai i path,cs,a,h=>by simp only[aD]at*;exact bN.mono aN _ _ a h
 | .sl b aC ai off len,cs,a,h=>by simp only[aD]at*;exact bN.mono aN _ _ a h
 | .map b,cs,a,h=>by simp only[aD]at*;exact bN.mono aN _ _ a h
theorem bw.mono:∀(vs:List AV)(xs:List c9),aV (aI H) vs->bw P w ad β H vs xs->bw P w' aH aM H' vs xs
 |[],_,_,h=>by simpa[bw]using h
 |v::vs,xs,a,h=>by
  simp only[bw,aV]at*;obtain⟨y,o,d,e,g⟩:=h;exact⟨y,o,d,aD.mono v y a.1 e,bw.mono vs o a.2 g⟩
end
end mono
def eQ:List AV->Option (List PV)
 |[]=>some []
 | .p v::r=>match eQ r with
  |some l=>some (v::l)
  |none=>none
 |_::_=>none
def iw(u:db)(fs:List AV):AV:=
 match eQ fs with
 |some l=>.p (.st u l)
 |none=>.st u fs
def lA:PV->List (db×Nat)->Option PV
 |t,[]=>some t
 |t,(u,i)::r=>if aL t=.agg u then(match(bY t)[i]? with
  |some f=>lA f r
  |none=>none)else none
def eX:AV->List (db×Nat)->Option AV
 |t,[]=>some t
 | .p t,(u,i)::r=>match lA t ((u,i)::r)with
  |some s=>some (.p s)
  |none=>none
 | .st u' fs,(u,i)::r=>if u'=u then(match fs[i]? with
  |some f=>eX f r
  |none=>none)else none
 |_,_=>none
def ga(t:AV)(b:List (db×Nat))(x:AV):Option AV:=
 match b with
 |[]=>some x
 |(u,i)::r=>
  match t with
  | .p t=>if aL t=.agg u then(match(bY t)[i]? with
   |some f=>(match ga (.p f) r x with
    |some a=>some (iw u (((bY t).map .p).set i a))
    |none=>none)
   |none=>none)else none
  | .st u' fs=>if u'=u then(match fs[i]? with
   |some f=>(match ga f r x with
    |some a=>some (iw u (fs.set i a))
    |none=>none)
   |none=>none)else none
  |_=>none
section
variable{P:da}{w:dg}{ad:Nat->Prop}{β:Bd}{H:aj}
theorem vc:∀{l:List Nat}{vs:List PV}{a:List (List c9)},bg P w ad l vs a->a.map (·.length)=l/\vs.length=l.length/\a.length=l.length
 |[],[],_,h=>by simp[bg]at h;subst h;simp
 |[],_::_,_,h=>by simp[bg]at h
 |_::_,[],_,h=>by simp[bg]at h
 |n::f,v::vs,a,h=>by
  simp only[bg]at h;obtain⟨c,cs,rfl,e,b,d⟩:=h;have:=vc d;simp[b,this]
theorem yd:∀{l:List Nat}{vs:List AV}{a:List (List c9)},bM P w ad β H l vs a->a.map (·.length)=l/\vs.length=l.length/\a.length=l.length
 |[],[],_,h=>by simp[bM]at h;subst h;simp
 |[],_::_,_,h=>by simp[bM]at h
 |_::_,[],_,h=>by simp[bM]at h
 |n::f,v::vs,a,h=>by
  simp only[bM]at h;obtain⟨c,cs,rfl,e,b,d⟩:=h;have:=yd d;simp[b,this]
theorem MG{u:db}{l:List Nat}(h:dA P u=some l):l.sum=P.cellsOf u/\∀n∈l,0<n:=by
 unfold dA at h
 split at h
 ·dsimp only at h
  split at h
  ·rename_i hc;simp at hc;obtain⟨⟨b,c⟩,d⟩:=hc;simp at h;subst h;refine⟨c,?_⟩;intro n a;simp at a;obtain⟨f,hf,rfl⟩:=a;obtain⟨i,hi,rfl⟩:=Array.mem_iff_getElem.1 hf;exact b i hi
  ·simp at h
 ·split at h
  ·rename_i hc;simp at hc;simp at h;subst h;refine⟨by simp[hC,hc.2],?_⟩;intro n a;have:=hQ a;omega
  ·simp at h
 ·simp at h
theorem py:∀{v:PV}{cs:List c9},aZ P w ad v cs->cs.length=bG P (aL v)/\aL v≠.bad:=by
 intro v cs h;cases v<;>simp only[aZ]at h
 case st u fs=>
  obtain⟨l,c,a,b,rfl⟩:=h;have:=vc b;simp[aL,bG,this.1,(MG a).1]
 case str=>obtain⟨_,h,_⟩:=h;subst h;simp[aL,bG]
 case seq=>
  rcases h with⟨_,rfl⟩|⟨_,_,_,_,_,_,_,_,_,_,_,rfl⟩<;>simp[aL,bG]
 all_goals first
  |(subst h;simp[aL,bG])
  |(obtain⟨_,_,_,_,_,_,rfl⟩:=h;simp[aL,bG])
  |(obtain⟨_,_,_,_,_,rfl⟩:=h;simp[aL,bG])
  |(obtain⟨_,_,_,_,_,_,_,_,_,_,_,_,rfl⟩:=h;simp[aL,bG])
  |(obtain⟨_,_,_,_,_,_,_,rfl⟩:=h;simp[aL,bG])
  |(obtain⟨_,_,_,_,rfl⟩:=h;simp[aL,bG])
  |(obtain⟨_,h,_⟩:=h;subst h;simp[aL,bG])
  |exact h.elim
theorem nU{v:AV}{cs:List c9}(h:bn P w ad β H v cs):cs.length=bG P (aa v)/\aa v≠.bad:=by
 cases v<;>simp only[bn]at h
 case p t=>exact py h
 case st u fs=>
  obtain⟨l,c,a,b,rfl⟩:=h;have:=yd b;simp[aa,bG,this.1,(MG a).1]
 all_goals first
  |(obtain⟨_,rfl,_⟩:=h;simp[aa,bG])
  |(obtain⟨_,_,_,_,rfl⟩:=h;simp[aa,bG])
theorem tI{v:PV}(hs:aL v=.leaf)(cs:List c9):aZ P w ad v cs↔∃c,cs=[c]/\aF P w ad v c:=by
 cases v<;>simp[aL]at hs<;>simp only[aZ,aF]
 case bool|int|dL|aO|ft|gU|gI=>exact⟨fun h=>⟨_,h,rfl⟩,fun⟨c,g,i⟩=>by rw[g,i]⟩
 case str s=>exact⟨fun⟨bs,g,i⟩=>⟨_,g,bs,rfl,i⟩,fun⟨c,g,bs,i,j⟩=>⟨bs,by rw[g,i],j⟩⟩
 case cr t=>exact⟨fun⟨a,b,c,g,i,j,k⟩=>⟨_,k,a,b,c,g,i,j,rfl⟩,fun⟨v,g,a,b,c,i,j,k,l⟩=>⟨a,b,c,i,j,k,by rw[g,l]⟩⟩
 case cT f es=>exact⟨fun⟨a,b,c,d,e,g,i,j,k,l,sp,n,m⟩=>⟨_,m,a,b,c,d,e,g,i,j,k,l,sp,n,rfl⟩,fun⟨v,h,a,b,c,d,e,g,i,j,k,l,sp,n,m⟩=>⟨a,b,c,d,e,g,i,j,k,l,sp,n,by rw[h,m]⟩⟩
 case seq es=>
  constructor
  ·rintro(⟨g,i⟩|⟨a,b,c,d,e,g,i,j,l,sp,n,m⟩)
   ·exact⟨_,i,.inl ⟨g,rfl⟩⟩
   ·exact⟨_,m,.inr ⟨a,b,c,d,e,g,i,j,l,sp,n,rfl⟩⟩
  ·rintro⟨v,h,(⟨g,i⟩|⟨a,b,c,d,e,g,i,j,l,sp,n,m⟩)⟩
   ·exact .inl ⟨g,by rw[h,i]⟩
   ·exact .inr ⟨a,b,c,d,e,g,i,j,l,sp,n,by rw[h,m]⟩
 case eg es=>exact⟨fun⟨a,b,c,g,i,j,k⟩=>⟨_,k,a,b,c,g,i,j,rfl⟩,fun⟨v,h,a,b,c,g,i,j,k⟩=>⟨a,b,c,g,i,j,by rw[h,k]⟩⟩
 case func f x y=>exact⟨fun⟨a,b,g,i,j⟩=>⟨_,j,a,b,g,i,rfl⟩,fun⟨v,h,a,b,g,i,j⟩=>⟨a,b,g,i,by rw[h,j]⟩⟩
theorem vW{v:PV}{u:db}(hs:aL v=.agg u)(cs:List c9):aZ P w ad v cs↔aF P w ad v (.agg cs.toArray):=by
 cases v<;>simp[aL]at hs;subst hs;simp only[aZ,aF];constructor
 ·rintro⟨l,a,b,c,rfl⟩;exact⟨l,a,b,c,rfl⟩
 ·rintro⟨l,a,b,c,d⟩;refine⟨l,a,b,c,?_⟩;injection d with d;simpa using congrArg ce d
theorem CZ{v:AV}(hs:aa v=.leaf)(cs:List c9):bn P w ad β H v cs↔∃c,cs=[c]/\aD P w ad β H v c:=by
 cases v<;>simp[aa]at hs<;>simp only[bn,aD]
 case p t=>exact tI hs cs
 case func f x y=>exact⟨fun⟨a,b,d,e,g⟩=>⟨_,g,a,b,d,e,rfl⟩,fun⟨v,h,a,b,d,e,g⟩=>⟨a,b,d,e,by rw[h,g]⟩⟩
theorem NL{v:AV}{u:db}(hs:aa v=.agg u)(cs:List c9):bn P w ad β H v cs↔aD P w ad β H v (.agg cs.toArray):=by
 cases v<;>simp[aa]at hs
 case p t=>simp only[bn,aD];exact vW hs cs
 case st u' fs=>
  subst hs;simp only[bn,aD];constructor
  ·rintro⟨l,a,b,c,rfl⟩;exact⟨l,a,b,c,rfl⟩
  ·rintro⟨l,a,b,c,d⟩;refine⟨l,a,b,c,?_⟩;injection d with d;simpa using congrArg ce d
theorem yz{v:AV}{x:c9}(h:aD P w ad β H v x)(hs:aa v≠.bad):bn P w ad β H v x.cells.toList:=by
 cases a:aa v with
 |bad=>exact absurd a hs
 |leaf=>
  rw[CZ a];refine⟨x,?_,h⟩;cases v<;>simp[aa]at a<;>simp only[aD]at h
  case p t=>
   cases t<;>simp[aL]at a<;>simp only[aF]at h
   case bool|int|dL|aO|ft|gU|gI=>subst h;rfl
   case str=>obtain⟨_,rfl,_⟩:=h;rfl
   case cr=>obtain⟨_,_,_,_,_,_,rfl⟩:=h;rfl
   case cT=>obtain⟨_,_,_,_,_,_,_,_,_,_,_,_,rfl⟩:=h;rfl
   case seq=>rcases h with⟨_,rfl⟩|⟨_,_,_,_,_,_,_,_,_,_,_,rfl⟩<;>rfl
   case eg=>obtain⟨_,_,_,_,_,_,rfl⟩:=h;rfl
   case func=>obtain⟨_,_,_,_,rfl⟩:=h;rfl
  case func=>obtain⟨_,_,_,_,rfl⟩:=h;rfl
  all_goals (have b:=h.1;cases x<;>first|rfl|(simp[hj]at b))
 |agg u=>
  cases v<;>simp[aa]at a
  case p t=>
   cases t<;>simp[aL]at a;simp only[aD,aF]at h;obtain⟨l,c,b,d,rfl⟩:=h;simp only[bn,aZ];exact⟨l,c,b,d,by simp[hl]⟩
  case st u' fs=>
   simp only[aD]at h;obtain⟨l,c,b,d,rfl⟩:=h;simp only[bn];exact⟨l,c,b,d,by simp[hl]⟩
end
mutual
def Wk:PV->PV->Prop
 | .undef,v=>v=.undef
 | .bool b,v=>v=.bool b
 | .int k n,v=>v=.int k n
 | .str s,v=>v=.str s
 | .dL,v=>v=.dL
 | .ft,v=>v=.ft
 | .gU,v=>v=.gU
 | .gI,v=>v=.gI
 | .aO,v=>v=.aO\/v=.seq []
 | .cr t,v=>match v with
  | .cr h=>Wk t h
  |_=>False
 | .cT f es,v=>match v with
  | .cT g fs=>(g=true->f=true)/\bD es fs
  | .seq fs=>bD es fs
  |_=>False
 | .seq es,v=>match v with
  | .seq fs=>bD es fs
  |_=>False
 | .eg es,v=>match v with
  | .eg fs=>lE es fs
  |_=>False
 | .func f a b,v=>match v with
  | .func g c d=>f=g/\bD a c/\bD b d
  |_=>False
 | .st u es,v=>match v with
  | .st u' fs=>u=u'/\bD es fs
  |_=>False
 | .aE es,v=>match v with
  | .aE fs=>bD es fs
  |_=>False
def bD:List PV->List PV->Prop
 |[],fs=>fs=[]
 |v::vs,fs=>match fs with
  |f::fs=>Wk v f/\bD vs fs
  |[]=>False
def lE:List (PV×PV)->List (PV×PV)->Prop
 |[],fs=>fs=[]
 |(k,v)::vs,fs=>match fs with
  |(e,f)::fs=>k=e/\Wk v f/\lE vs fs
  |[]=>False
end
mutual
theorem Wk.refl:∀v,Wk v v
 | .undef| .bool _| .int _ _| .str _| .dL| .ft| .gU| .gI=>by simp[Wk]
 | .aO=>by simp[Wk]
 | .cr t=>by simp only[Wk];exact Wk.refl t
 | .cT f c=>by simp only[Wk];exact⟨id,bD.refl c⟩
 | .seq c=>by simp only[Wk];exact bD.refl c
 | .eg c=>by simp only[Wk];exact lE.refl c
 | .func f a b=>by simp only[Wk];exact⟨trivial,bD.refl a,bD.refl b⟩
 | .st u c=>by simp only[Wk];exact⟨trivial,bD.refl c⟩
 | .aE c=>by simp only[Wk];exact bD.refl c
theorem bD.refl:∀vs,bD vs vs
 |[]=>by simp[bD]
 |v::vs=>by simp only[bD];exact⟨Wk.refl v,bD.refl vs⟩
theorem lE.refl:∀c,lE c c
 |[]=>by simp[lE]
 |(k,v)::vs=>by simp only[lE];exact⟨trivial,Wk.refl v,lE.refl vs⟩
end
theorem bD.length:∀{es fs:List PV},bD es fs->fs.length=es.length
 |[],fs,h=>by simp only[bD]at h;subst h;rfl
 |v::vs,fs,h=>by
  cases fs with
  |nil=>simp[bD]at h
  |cons f fs=>simp only[bD]at h;simp[bD.length h.2]
theorem bD.pJ{a fs:List PV}(h:bD a fs):fs=[]↔a=[]:=by
 have:=h.length;rw[<-hL,<-hL,this]
theorem Wk.aL:∀{v v':PV},Wk v v'->aq.aL v'=aq.aL v
 | .undef,v',h| .bool _,v',h| .int _ _,v',h| .str _,v',h| .dL,v',h| .ft,v',h| .gU,v',h| .gI,v',h=>by simp only[Wk]at h;subst h;rfl
 | .aO,v',h=>by simp only[Wk]at h;rcases h with rfl|rfl<;>rfl
 | .cr _,v',h| .cT _ _,v',h| .seq _,v',h| .eg _,v',h| .func _ _ _,v',h| .aE _,v',h=>by cases v'<;>simp only[Wk]at h<;>rfl
 | .st _ _,v',h=>by
  cases v'<;>simp only[Wk]at h;simp[aq.aL,h.1]
section
variable{P:da}{w:dg}{ad:Nat->Prop}
mutual
theorem aZ.c8:∀(v v':PV)(cs:List c9),Wk v v'->aZ P w ad v cs->aZ P w ad v' cs
 | .undef,v',cs,h,hc| .bool _,v',cs,h,hc| .int _ _,v',cs,h,hc| .str _,v',cs,h,hc| .dL,v',cs,h,hc| .ft,v',cs,h,hc| .gU,v',cs,h,hc| .gI,v',cs,h,hc=>by simp only[Wk]at h;subst h;exact hc
 | .aO,v',cs,h,hc=>by
  simp only[Wk]at h;rcases h with rfl|rfl
  ·exact hc
  ·simp only[aZ]at hc⊢;exact .inl ⟨trivial,hc⟩
 | .cr t,v',cs,h,hc=>by
  cases v'<;>simp only[Wk]at h;simp only[aZ]at hc⊢;obtain⟨an,off,ts,d,i⟩:=hc;exact⟨an,off,ts,aZ.c8 _ _ _ h d,i⟩
 | .cT f o,v',cs,h,hc=>by
  cases v' with
  |cT g fs=>
   simp only[Wk]at h;simp only[aZ]at hc⊢;obtain⟨an,off,cap,ai,m,d,i,j,p,q,s⟩:=hc;have z:=h.2.length;rw[z];exact⟨an,off,cap,ai,m,bg.c8 _ _ _ _ h.2 d,fun A=>i (fun e=>A (h.2.pJ.2 e)),j,fun e=>p (h.1 e),q,s⟩
  |seq fs=>
   simp only[Wk]at h;simp only[aZ]at hc⊢;obtain⟨an,off,cap,ai,m,d,i,j,p,q,s⟩:=hc;have z:=h.length;rw[z];exact .inr ⟨an,off,cap,ai,m,bg.c8 _ _ _ _ h d,fun A=>i (fun e=>A (h.pJ.2 e)),j,q,s⟩
  |_=>simp only[Wk]at h
 | .seq o,v',cs,h,hc=>by
  cases v'<;>simp only[Wk]at h;simp only[aZ]at hc⊢;rcases hc with⟨d,i⟩|⟨an,off,cap,ai,m,d,i,j,q,s⟩
  ·exact .inl ⟨h.pJ.2 d,i⟩
  ·have z:=h.length;rw[z];exact .inr ⟨an,off,cap,ai,m,bg.c8 _ _ _ _ h d,fun A=>i (fun e=>A (h.pJ.2 e)),j,q,s⟩
 | .eg o,v',cs,h,hc=>by
  cases v'<;>simp only[Wk]at h;simp only[aZ]at hc⊢;obtain⟨r,C,clock,d,i,j,p⟩:=hc;exact⟨r,C,clock,d,i,cF.c8 _ _ _ h j,p⟩
 | .func f a b,v',cs,h,hc=>by
  cases v'<;>simp only[Wk]at h;obtain⟨rfl,F,G⟩:=h;simp only[aZ]at hc⊢;obtain⟨E,D,d,i,j⟩:=hc;exact⟨E,D,br.c8 _ _ _ F d,br.c8 _ _ _ G i,j⟩
 | .st u o,v',cs,h,hc=>by
  cases v'<;>simp only[Wk]at h;obtain⟨rfl,h⟩:=h;simp only[aZ]at hc⊢;obtain⟨l,m,d,i,j⟩:=hc;exact⟨l,m,d,bg.c8 _ _ _ _ h i,j⟩
 | .aE o,v',cs,h,hc=>by simp[aZ]at hc
theorem bg.c8:∀(l:List Nat)(o fs:List PV)(m:List (List c9)),bD o fs->bg P w ad l o m->bg P w ad l fs m
 |l,[],fs,m,h,hc=>by simp only[bD]at h;subst h;exact hc
 |l,v::vs,fs,m,h,hc=>by
  cases fs with
  |nil=>simp[bD]at h
  |cons f fs=>
   simp only[bD]at h;cases l with
   |nil=>simp[bg]at hc
   |cons n l=>
    simp only[bg]at hc⊢;obtain⟨c,cs,d,i,j,p⟩:=hc;exact⟨c,cs,d,aZ.c8 _ _ _ h.1 i,j,bg.c8 _ _ _ _ h.2 p⟩
theorem aF.c8:∀(v v':PV)(x:c9),Wk v v'->aF P w ad v x->aF P w ad v' x
 | .undef,v',cs,h,hc| .bool _,v',cs,h,hc| .int _ _,v',cs,h,hc| .str _,v',cs,h,hc| .dL,v',cs,h,hc| .ft,v',cs,h,hc| .gU,v',cs,h,hc| .gI,v',cs,h,hc=>by simp only[Wk]at h;subst h;exact hc
 | .aO,v',cs,h,hc=>by
  simp only[Wk]at h;rcases h with rfl|rfl
  ·exact hc
  ·simp only[aF]at hc⊢;exact .inl ⟨trivial,hc⟩
 | .cr t,v',cs,h,hc=>by
  cases v'<;>simp only[Wk]at h;simp only[aF]at hc⊢;obtain⟨an,off,ts,d,i⟩:=hc;exact⟨an,off,ts,aZ.c8 _ _ _ h d,i⟩
 | .cT f o,v',cs,h,hc=>by
  cases v' with
  |cT g fs=>
   simp only[Wk]at h;simp only[aF]at hc⊢;obtain⟨an,off,cap,ai,m,d,i,j,p,q,s⟩:=hc;have z:=h.2.length;rw[z];exact⟨an,off,cap,ai,m,bg.c8 _ _ _ _ h.2 d,fun A=>i (fun e=>A (h.2.pJ.2 e)),j,fun e=>p (h.1 e),q,s⟩
  |seq fs=>
   simp only[Wk]at h;simp only[aF]at hc⊢;obtain⟨an,off,cap,ai,m,d,i,j,p,q,s⟩:=hc;have z:=h.length;rw[z];exact .inr ⟨an,off,cap,ai,m,bg.c8 _ _ _ _ h d,fun A=>i (fun e=>A (h.pJ.2 e)),j,q,s⟩
  |_=>simp only[Wk]at h
 | .seq o,v',cs,h,hc=>by
  cases v'<;>simp only[Wk]at h;simp only[aF]at hc⊢;rcases hc with⟨d,i⟩|⟨an,off,cap,ai,m,d,i,j,q,s⟩
  ·exact .inl ⟨h.pJ.2 d,i⟩
  ·have z:=h.length;rw[z];exact .inr ⟨an,off,cap,ai,m,bg.c8 _ _ _ _ h d,fun A=>i (fun e=>A (h.pJ.2 e)),j,q,s⟩
 | .eg o,v',cs,h,hc=>by
  cases v'<;>simp only[Wk]at h;simp only[aF]at hc⊢;obtain⟨r,C,clock,d,i,j,p⟩:=hc;exact⟨r,C,clock,d,i,cF.c8 _ _ _ h j,p⟩
 | .func f a b,v',cs,h,hc=>by
  cases v'<;>simp only[Wk]at h;obtain⟨rfl,F,G⟩:=h;simp only[aF]at hc⊢;obtain⟨E,D,d,i,j⟩:=hc;exact⟨E,D,br.c8 _ _ _ F d,br.c8 _ _ _ G i,j⟩
 | .st u o,v',cs,h,hc=>by
  cases v'<;>simp only[Wk]at h;obtain⟨rfl,h⟩:=h;simp only[aF]at hc⊢;obtain⟨l,m,d,i,j⟩:=hc;exact⟨l,m,d,bg.c8 _ _ _ _ h i,j⟩
 | .aE o,v',cs,h,hc=>by
  cases v'<;>simp only[Wk]at h;simp only[aF]at hc⊢;obtain⟨B,d,i⟩:=hc;exact⟨B,br.c8 _ _ _ h d,i⟩
theorem br.c8:∀(o fs:List PV)(B:List c9),bD o fs->br P w ad o B->br P w ad fs B
 |[],fs,B,h,hc=>by simp only[bD]at h;subst h;exact hc
 |v::vs,fs,B,h,hc=>by
  cases fs with
  |nil=>simp[bD]at h
  |cons f fs=>
   simp only[bD]at h;simp only[br]at hc⊢;obtain⟨y,H,d,i,j⟩:=hc;exact⟨y,H,d,aF.c8 _ _ _ h.1 i,br.c8 _ _ _ h.2 j⟩
theorem cF.c8:∀(o fs:List (PV×PV))(C:List eq),lE o fs->cF P w ad o C->cF P w ad fs C
 |[],fs,B,h,hc=>by simp only[lE]at h;subst h;exact hc
 |(k,v)::vs,fs,B,h,hc=>by
  cases fs with
  |nil=>simp[lE]at h
  |cons f fs=>
   simp only[lE]at h;obtain⟨rfl,d,i⟩:=h;simp only[cF]at hc⊢;obtain⟨e,rest,e1,e2,e3,e4⟩:=hc;exact⟨e,rest,e1,e2,aF.c8 _ _ _ d e3,cF.c8 _ _ _ i e4⟩
end
end
section
variable{P:da}{w:dg}{ad:Nat->Prop}{β:Bd}{H:aj}
theorem mh:∀{fs:List AV}{l:List PV},eQ fs=some l->fs=l.map .p
 |[],l,h=>by simp[eQ]at h;subst h;rfl
 | .p v::r,l,h=>by
  simp only[eQ]at h;cases a:eQ r with
  |none=>simp[a]at h
  |some b=>simp[a]at h;subst h;simp[mh a]
 | .ptr ..::_,_,h| .cd ..::_,_,h| .sl ..::_,_,h| .map ..::_,_,h| .func ..::_,_,h| .st ..::_,_,h| .aE ..::_,_,h=>by simp[eQ]at h
theorem nT:∀{l:List Nat}{fs:List PV}{a:List (List c9)},bM P w ad β H l (fs.map .p) a↔bg P w ad l fs a
 |[],[],_=>by simp[bM,bg]
 |[],_::_,_=>by simp[bM,bg]
 |_::_,[],_=>by simp[bM,bg]
 |n::g,v::vs,a=>by
  simp only[hM,bM,bg,bn];constructor
  ·rintro⟨c,cs,b,d,e,f⟩;exact⟨c,cs,b,d,e,nT.1 f⟩
  ·rintro⟨c,cs,b,d,e,f⟩;exact⟨c,cs,b,d,e,nT.2 f⟩
theorem jN:∀{fs:List PV}{d:List c9},bw P w ad β H (fs.map .p) d↔br P w ad fs d
 |[],_=>by simp[bw,br]
 |v::vs,d=>by
  simp only[hM,bw,br,aD];constructor
  ·rintro⟨y,e,a,b,c⟩;exact⟨y,e,a,b,jN.1 c⟩
  ·rintro⟨y,e,a,b,c⟩;exact⟨y,e,a,b,jN.2 c⟩
theorem Mx{u:db}{fs:List AV}{cs:List c9}:bn P w ad β H (iw u fs) cs↔bn P w ad β H (.st u fs) cs:=by
 unfold iw;cases h:eQ fs with
 |none=>rfl
 |some l=>have:=mh h;subst this;simp[bn,aZ,nT]
theorem Y1{u:db}{fs:List AV}{x:c9}:aD P w ad β H (iw u fs) x↔aD P w ad β H (.st u fs) x:=by
 unfold iw;cases h:eQ fs with
 |none=>rfl
 |some l=>have:=mh h;subst this;simp[aD,aF,nT]
theorem iS(n:Nat×Nat->Prop):∀l:List PV,aV n (l.map .p)
 |[]=>by simp[aV]
 |v::l=>by simp only[hM,aV,aG,true_and];exact iS n l
theorem BW{n:Nat×Nat->Prop}{u:db}{fs:List AV}(h:aV n fs):aG n (iw u fs):=by
 unfold iw;cases eQ fs with
 |none=>exact h
 |some l=>simp[aG]
theorem cM{n:Nat×Nat->Prop}:∀{fs:List AV},aV n fs↔∀v∈fs,aG n v
 |[]=>by simp[aV]
 |v::vs=>by simp[aV,cM (fs:=vs)]
theorem tO:∀{l:List Nat}{fs:List AV}{d:List (List c9)}{i:Nat}{f:AV},bM P w ad β H l fs d->fs[i]?=some f->
 ∃pre c post,d.flatten=pre++c++post/\pre.length=(l.take i).sum/\i<l.length/\l[i]?=some c.length/\bn P w ad β H f c/\
  ∀b c',bn P w ad β H b c'->c'.length=c.length->∃a,a.flatten=pre++c'++post/\bM P w ad β H l (fs.set i b) a
 |[],[],_,i,f,_,hf=>by simp at hf
 |[],_::_,_,_,_,h,_=>by simp[bM]at h
 |_::_,[],_,_,_,h,_=>by simp[bM]at h
 |n::m,v::vs,d,0,f,h,hf=>by
  simp only[bM]at h;obtain⟨c,cs,rfl,g,e,j⟩:=h;simp at hf;subst hf;refine⟨[],c,cs.flatten,s_,s_,s_,by simp[e],g,?_⟩;intro b c' hc k;exact⟨c'::cs,s_,by simp only[h3,bM];exact⟨c',cs,rfl,hc,o_,j⟩⟩
 |n::m,v::vs,d,i+1,f,h,hf=>by
  simp only[bM]at h;obtain⟨c,cs,rfl,g,e,j⟩:=h;simp at hf;obtain⟨pre,x,post,k1,k2,k3,k4,k5,k6⟩:=tO j hf;refine⟨c++pre,x,post,by simp[k1],by simp[k2,e],by simpa using k3,by simpa using k4,k5,?_⟩;intro b c' hc k;obtain⟨a,e1,e2⟩:=k6 b c' hc k;exact⟨c::a,by simp[e1],by simp only[List.set_cons_succ,bM];exact⟨c,a,rfl,g,e,e2⟩⟩
theorem Lq{t:AV}{u:db}{cs:List c9}(hs:aa t= .agg u)(h:bn P w ad β H t cs):
 ∃l fs a,dA P u=some l/\bM P w ad β H l fs a/\cs=a.flatten/\(∀c,t=.p c->fs=(bY c).map .p)/\(∀u' g,t=.st u' g->fs=g/\u'=u):=by
 cases t<;>simp[aa]at hs
 case p t=>
  cases t<;>simp[aL]at hs;subst hs;simp only[bn,aZ]at h;obtain⟨l,a,d,e,f⟩:=h;exact⟨l,_,a,d,nT.2 e,f,fun c b=>by cases b;rfl,fun _ _ h=>by cases h⟩
 case st u' fs=>
  subst hs;simp only[bn]at h;obtain⟨l,a,d,e,f⟩:=h;exact⟨l,fs,a,d,e,f,(fun c b=>by cases b),(fun j i b=>by cases b;exact⟨rfl,rfl⟩)⟩
theorem zH{t:PV}{a:List (db×Nat)}:eX (.p t) a=(lA t a).map .p:=by
 cases a with
 |nil=>rfl
 |cons x r=>obtain⟨u,i⟩:=x;simp only[eX];cases lA t ((u,i)::r)<;>rfl
theorem pI:∀{z:List (db×Nat)}{t s:AV}{cs:List c9}{o:Nat},bn P w ad β H t cs->eX t z=some s->gA P z=some o->
 ∃n q post,cs=n++q++post/\n.length=o/\bn P w ad β H s q/\
  ∀x k a,ga t z x=some a->bn P w ad β H x k->k.length=q.length->bn P w ad β H a (n++k++post)
 |[],t,s,cs,o,h,hs,d=>by
  simp[gA]at d;subst d;simp[eX]at hs;subst hs;refine⟨[],cs,[],s_,s_,h,?_⟩;intro x k a hx y _;simp[ga]at hx;subst hx;simpa using y
 |(u,i)::r,t,s,cs,o,h,hs,d=>by
  simp only[gA]at d;cases m:dA P u with
  |none=>simp[m]at d
  |some l=>
   cases v:gA P r with
   |none=>simp[m,v]at d
   |some o'=>
    simp[m,v]at d;obtain⟨J,rfl⟩:=d
    have key:∃fs f,(∃j e,dA P u=some j/\bM P w ad β H j fs e/\cs=e.flatten)/\fs[i]?=some f/\eX f r=some s/\
     (∀x a,ga t ((u,i)::r) x=some a->∃b,ga f r x=some b/\a=iw u (fs.set i b)):=by
     cases t
     case p t=>
      rw[zH]at hs;simp only[lA]at hs
      by_cases g:aL t=.agg u
      ·simp only[g,if_true]at hs;obtain⟨j,fs,e,k1,k2,k3,k4,_⟩:=Lq (t:=.p t) (by simpa[aa]using g) h;have:=k4 t rfl;subst this;cases hf:(bY t)[i]? with
       |none=>simp[hf]at hs
       |some f=>
        simp only[hf]at hs;refine⟨_,.p f,⟨j,e,k1,k2,k3⟩,by simp[hf],by rw[zH];exact hs,?_⟩;intro x a hx;simp only[ga,g,if_true,hf]at hx;cases hq:ga (.p f) r x with
        |none=>simp[hq]at hx
        |some b=>simp[hq]at hx;exact⟨b,rfl,hx.symm⟩
      ·simp[g]at hs
     case st u' fs=>
      simp only[eX]at hs
      by_cases g:u'=u
      ·subst g;simp only[if_true]at hs;obtain⟨j,D,e,k1,k2,k3,_,k4⟩:=Lq (t:=.st u' fs) rfl h;have:=(k4 _ _ rfl).1;subst this;cases hf:D[i]? with
       |none=>simp[hf]at hs
       |some f=>
        simp only[hf]at hs;refine⟨_,f,⟨j,e,k1,k2,k3⟩,hf,hs,?_⟩;intro x a hx;simp only[ga,if_true,hf]at hx;cases hq:ga f r x with
        |none=>simp[hq]at hx
        |some b=>simp[hq]at hx;exact⟨b,rfl,hx.symm⟩
      ·simp[g]at hs
     all_goals simp[eX]at hs
    obtain⟨fs,f,⟨j,e,k1,k2,k3⟩,hf,F,aK⟩:=key;rw[m]at k1;cases k1;obtain⟨n,c,post,e1,e2,e3,e4,e5,C⟩:=tO k2 hf;obtain⟨I,q,G,g1,g2,g3,g4⟩:=pI e5 F v;refine⟨n++I,q,G++post,by rw[k3,e1,g1];simp,by simp[e2,g2],g3,?_⟩;intro x k a hx y A;obtain⟨b,E,rfl⟩:=aK x a hx;have aX:=g4 x k b E y A;obtain⟨B,c1,c2⟩:=C b _ aX (by rw[g1];simp[A]);rw[Mx];simp only[bn];exact⟨l,B,m,c2,by rw[c1];simp⟩
theorem za{path:List (db×Nat)}{t s:PV}{cs:List c9}{o:Nat}(h:aZ P w ad t cs)(hs:lA t path=some s)(f:gA P path=some o):
 ∃a b post,cs=a++b++post/\a.length=o/\aZ P w ad s b:=by
 obtain⟨a,b,post,c,d,e,_⟩:=pI (β:=⟨id,id⟩) (H:=[]) (t:=.p t) (s:=.p s) (by simpa[bn]using h) (by rw[zH,hs];rfl) f;exact⟨a,b,post,c,d,by simpa[bn]using e⟩
theorem vC{n:Nat×Nat->Prop}:∀{a:List (db×Nat)}{t s:AV},eX t a=some s->aG n t->aG n s
 |[],t,s,hs,h=>by simp[eX]at hs;subst hs;exact h
 |(u,i)::r,.p t,s,hs,h=>by
  rw[zH]at hs;cases hq:lA t ((u,i)::r)with
  |none=>simp[hq]at hs
  |some q=>simp[hq]at hs;subst hs;simp[aG]
 |(u,i)::r,.st u' fs,s,hs,h=>by
  simp only[eX]at hs
  split at hs
  ·split at hs
   ·rename_i f hf;simp only[aG]at h;exact vC hs (cM.1 h f (hH hf))
   ·simp at hs
  ·simp at hs
 |_::_,.ptr ..,_,hs,_|_::_,.cd ..,_,hs,_|_::_,.sl ..,_,hs,_|_::_,.map ..,_,hs,_|_::_,.func ..,_,hs,_|_::_,.aE ..,_,hs,_=>by simp[eX]at hs
theorem vD{n:Nat×Nat->Prop}:∀{e:List (db×Nat)}{t b x:AV},ga t e x=some b->aG n t->aG n x->aG n b
 |[],t,b,x,hs,h,hx=>by simp[ga]at hs;subst hs;exact hx
 |(u,i)::r,.p t,b,x,hs,h,hx=>by
  simp only[ga]at hs
  split at hs
  ·split at hs
   ·split at hs
    ·rename_i f hf d c;simp at hs;subst hs;refine BW (cM.2 ?_);intro v a;rcases hJ a with a|rfl
     ·exact cM.1 (iS n _) v a
     ·exact vD c (by simp[aG]) hx
    ·simp at hs
   ·simp at hs
  ·simp at hs
 |(u,i)::r,.st u' fs,b,x,hs,h,hx=>by
  simp only[ga]at hs
  split at hs
  ·split at hs
   ·split at hs
    ·rename_i _ f hf _ d c;simp at hs;subst hs;simp only[aG]at h;refine BW (cM.2 ?_);intro v a;rcases hJ a with a|rfl
     ·exact cM.1 h v a
     ·exact vD c (cM.1 h f (hH hf)) hx
    ·simp at hs
   ·simp at hs
  ·simp at hs
 |_::_,.ptr ..,_,_,hs,_,_|_::_,.cd ..,_,_,hs,_,_|_::_,.sl ..,_,_,hs,_,_|_::_,.map ..,_,_,hs,_,_|_::_,.func ..,_,_,hs,_,_|_::_,.aE ..,_,_,hs,_,_=>by simp[ga]at hs
end
structure aY where
 v:AV
 al:List (Nat×Obj):=[]
 aK:List (Nat×Obj):=[]
 aX:List Obj:=[]
def bc(H:aj)(l:List (Nat×Obj)):aj:=
 match l with
 |[]=>H
 |(b,o)::r=>bc (H.set b o) r
def put(dst:Option Tmp)(v:AV)(e:Env):Env:=
 match dst with
 |some d=>(d,v)::e
 |none=>e
def aY.app(e:aY)(dst:Option Tmp)(s:St):St:=⟨put dst e.v s.env,bc s.heap e.aK++e.aX⟩
def ev(e:Env):dl->AV
 | .tmp t=>aP e t
 | .const v=>.p (ofConst v)
 | .global g=>.p (Gl.g g)
 | .func f=>.p (.func f [] [])
def gJ(s:List Nat):ByteArray:=⟨(s.map UInt8.ofNat).toArray⟩
mutual
def jT:PV->PV->Option Bool
 | .bool a,.bool b=>some (a==b)
 | .int k a,.int c b=>if k=c then some (a==b)else none
 | .str a,.str b=>some (a==b)
 | .st u fs,.st u' gs=>if u=u' then xa fs gs else none
 |_,_=>none
def xa:List PV->List PV->Option Bool
 |[],[]=>some true
 |a::as,b::bs=>match jT a b with
  |some true=>xa as bs
  |some false=>some false
  |none=>none
 |_,_=>none
end
def jA(P:da)(c:db->PV->PV->Option Bool):List db->List PV->List PV->Option Bool
 |[],[],[]=>some true
 |T::d,a::as,b::bs=>
  if kindOf P T=aL a/\kindOf P T=aL b then
   (match c T a b,jA P c d as bs with
   |some r,some s=>some (r&&s)
   |_,_=>none)
  else none
 |_,_,_=>none
def iX(P:da):Nat->db->PV->PV->Option Bool
 |0,_,_,_=>none
 |n+1,T,v,v'=>
  match P.underlying T,v,v' with
  |some .bool,.bool a,.bool b=>some (a==b)
  |some (.int _),.int k a,.int d b=>if k=d then some (a==b)else none
  |some .string,.str a,.str b=>some (a==b)
  |some (.struct fs),.st u xs,.st u' c=>
   if kindOf P T= .agg u/\u'=u/\P.stoodInHeld T=false/\fs.toList.all (fun f=>f.name != "_")=true then jA P (iX P n) (fs.toList.map (·.type)) xs c else none
  |some (.array m e),.st u xs,.st u' c=>
   if kindOf P T=.agg u/\u'=u/\(P.info? e).isSome=true then jA P (iX P n) (hz m e) xs c else none
  |_,_,_=>none
def ux(P:da)(T:db):Bool:=!P.eqGuardType P.depth T
def rB(P:da)(T:db):Bool:=match P.underlying T with|some .bool=>true|_=>false
def aNN(P:da)(T:db):Bool:=match P.underlying T with|some (.int _)=>true|_=>false
def iK(P:da)(T:db):Bool:=match P.underlying T with|some .string=>true|_=>false
inductive uR where|ptr|slice|map|func|iface
 deriving DecidableEq
def mE:dl->Bool
 | .const _=>true
 |_=>false
def dC(P:da)(T:db)(c:Bool):AV->Option uR
 | .p .dL=>match P.underlying T with
  |some (.pointer _)=>some .ptr
  |_=>none
 | .p .aO=>match P.underlying T with
  |some (.slice _)=>some .slice
  |_=>none
 | .p .ft=>match P.underlying T with
  |some (.map _ _)=>some .map
  |_=>none
 | .p .gU=>match P.underlying T with
  |some (.func _ _ _)=>some .func
  |_=>none
 | .p .gI=>match c,P.underlying T with
  |true,some (.interface _)=>some .iface
  |_,_=>none
 |_=>none
def cU(H:aj)(k:uR)(x:AV):Option Bool:=
 match k,x with
 | .ptr,.p .dL| .slice,.p .aO| .map,.p .ft| .func,.p .gU| .iface,.p .gI=>some true
 | .ptr,.p (.cr _)| .slice,.p (.cT _ _)| .map,.p (.eg _)| .func,.p (.func _ _ _)| .func,.func _ _ _=>some false
 | .ptr,.ptr b _=>match H[b]? with
  |some (.box _ _)=>some false
  |_=>none
 | .map,.map b=>match H[b]? with
  |some (.map _ _)=>some false
  |_=>none
 | .slice,.p (.seq (_::_))=>some false
 | .slice,.sl b aC ai _ _=>match H[b]? with
  |some (.arr k c a es)=>if aC=c/\ai=a then some (k.gr&&es.isEmpty)else none
  |_=>none
 |_,_=>none
def pX(op:e8)(k:em)(a b:Int)(K:PV->Prop):Prop:=
 match op with
 | .add=>K (.int k (k.wrap (a+b)))
 | .sub=>K (.int k (k.wrap (a-b)))
 | .mul=>K (.int k (k.wrap (a*b)))
 | .quo=>b≠0/\K (.int k (k.wrap (a.tdiv b)))
 | .rem=>b≠0/\K (.int k (a.tmod b))
 | .and=>K (.int k (k.wrap (cx k.bits a&&&cx k.bits b).toNat))
 | .or=>K (.int k (k.wrap (cx k.bits a|||cx k.bits b).toNat))
 | .xor=>K (.int k (k.wrap (cx k.bits a^^^cx k.bits b).toNat))
 | .andNot=>K (.int k (k.wrap (cx k.bits a&&&~~~cx k.bits b).toNat))
 | .eql=>K (.bool (a==b))
 | .neq=>K (.bool (a !=b))
 | .lss=>K (.bool (decide (a<b)))
 | .leq=>K (.bool (decide (a<=b)))
 | .gtr=>K (.bool (decide (a>b)))
 | .geq=>K (.bool (decide (a>=b)))
 | .shl=>0<=b/\K (.int k (k.wrap (a*2^(min b.toNat k.bits))))
 | .shr=>0<=b/\K (.int k (a.fdiv (2^(min b.toNat k.bits))))
def jo:List Nat->List Nat->Bool
 |_,[]=>false
 |[],_::_=>true
 |a::x,b::y=>decide (a<b)||(a==b&&jo x y)
def pW(op:e8)(a b:List Nat)(K:PV->Prop):Prop:=
 match op with
 | .add=>a.length+b.length<9223372036854775808/\K (.str (a++b))
 | .eql=>K (.bool (a==b))
 | .neq=>K (.bool (!(a==b)))
 | .lss=>K (.bool (jo a b))
 | .leq=>K (.bool (jo a b||a==b))
 | .gtr=>K (.bool (!(jo a b||a==b)))
 | .geq=>K (.bool (!(jo a b)))
 |_=>False
def kT(P:da)(op:e8)(T:db)(c:Bool)(H:aj)(x y:AV)(K:PV->Prop):Prop:=
 match x,y with
 | .p (.int k a),.p (.int d b)=>(k=d\/op=.shl\/op=.shr)/\pX op k a b K
 | .p (.str a),.p (.str b)=>pW op a b K
 | .p (.bool a),.p (.bool b)=>rB P T=true/\match op with
  | .eql=>K (.bool (a==b))
  | .neq=>K (.bool (!(a==b)))
  |_=>False
 | .p (.st u fs),.p (.st u' gs)=>ux P T=true/\(match iX P 9 T (.st u fs) (.st u' gs),op with
  |some r,.eql=>K (.bool r)
  |some r,.neq=>K (.bool !r)
  |_,_=>False)
 |x,y=>
  (match dC P T c y with
  |some k=>(match cU H k x,op with
   |some r,.eql=>K (.bool r)
   |some r,.neq=>K (.bool !r)
   |_,_=>False)
  |none=>False)
def cV:Nat:=1073741824
def gY(H:aj):AV->Option (List AV)
 | .p .aO=>some []
 | .p (.cT _ es)=>some (es.map .p)
 | .p (.seq es)=>some (es.map .p)
 | .p (.str s)=>some (s.map fun c=>.p (.int .u8 (c:Nat)))
 | .sl b aC ai off len=>match H[b]? with
  |some (.arr _ d a es)=>if aC=d/\ai=a/\off+len<=es.length then some ((es.drop off).take len)else none
  |_=>none
 |_=>none
def dD(H:aj):AV->List (Nat×Obj)
 | .sl b _ _ _ _| .ptr b _| .cd b _ _ _ _| .map b=>match H[b]? with
  |some o=>[(b,o)]
  |none=>[]
 |_=>[]
def fa(P:da)(ai:Nat):List AV->Prop
 |[]=>True
 |v::vs=>(aa v≠.bad/\bG P (aa v)=ai)/\fa P ai vs
def cJ(P:da)(T:db):Option Nat:=
 match P.underlying T with
 |some (.slice e)=>match P.info? e with
  |some i=>if i.bytes<32768/\0<i.size/\0<i.bytes then some i.size else none
  |none=>none
 |_=>none
def ek(P:da)(T:db):db:=
 match P.underlying T with
 |some (.slice e)=>e
 |_=>0
def iV(P:da)(X:db):Bool:=
 match P.underlying X with
 |some (.int _)=>false
 |some _=>true
 |none=>false
def gk(P:da)(T:db):AK:=if ek P T=Gl.u8 then .bytes else .grow
def nS(P:da)(T X:db)(H:aj)(s x:AV)(K:aY->Prop):Prop:=
 match cJ P T,gY H x with
 |some sz,some xs=>iV P X=true/\(cB P (ek P T)).isSome=true/\fa P sz xs/\
  (match s with
  | .p .aO=>if xs.isEmpty then K {v:=s,al:=dD H x}else xs.length<=cV/\K {v:=.sl H.length 0 sz 0 xs.length,al:=dD H x,aX:=[.arr (gk P T) 0 sz xs]}
  | .p (.cT full es)=>fa P sz (es.map .p)/\if xs.isEmpty then K {v:=s,al:=dD H x}else full=true/\es.length+xs.length<=cV/\
   K {v:=.sl H.length 0 sz 0 (es.length+xs.length),al:=dD H x,aX:=[.arr (gk P T) 0 sz (es.map .p++xs)]}
  | .sl b aC ai off len=>match H[b]? with
   |some (.arr k c a es)=>aC=c/\ai=a/\ai=sz/\off+len<=es.length/\
    if xs.isEmpty then K {v:=s,al:=(b,.arr k c a es)::dD H x}
    else es.length+xs.length<=cV/\(match k with
     | .frozen=>False
     | .exact=>if off+len+xs.length<=es.length then
      K {v:=.sl b aC ai off (len+xs.length),al:=(b,.arr k c a es)::dD H x,aK:=[(b,.arr .exact aC ai (es.take (off+len)++xs++es.drop (off+len+xs.length)))]}
      else K {v:=.sl H.length 0 sz 0 (len+xs.length),al:=(b,.arr k c a es)::dD H x,aX:=[.arr (gk P T) 0 sz ((es.drop off).take len++xs)]}
     |_=>off=0/\(k=.bytes->ek P T=Gl.u8)/\K {v:=.sl b (aC+1) ai 0 (len+xs.length),al:=(b,.arr k c a es)::dD H x,aK:=[(b,.arr k (aC+1) ai (es.take len++xs))]})
   |_=>False
  |_=>False)
 |_,_=>False
def gO(x:Option AV)(d:Nat)(K:Nat->Prop):Prop:=
 match x with
 |none=>K d
 |some (.p (.int _ i))=>0<=i/\K i.toNat
 |_=>False
def n9(P:da)(T:db)(H:aj)(x:AV)(lo hi d:Option AV)(K:aY->Prop):Prop:=
 d.isNone/\match x with
 | .p (.str s)=>iK P T=true/\gO hi s.length fun h=>gO lo 0 fun l=>h<=s.length/\l<=h/\K {v:=.p (.str ((s.take h).drop l))}
 | .p .aO=>(cJ P T).isSome=true/\gO hi 0 fun h=>gO lo 0 fun l=>h<=0/\l<=h/\K {v:=x}
 | .p (.cT full es)=>gO hi es.length fun h=>gO lo 0 fun l=>h<=es.length/\l<=h/\
  (match cJ P T with
  |some sz=>fa P sz (es.map .p)/\K {v:=.p (.cT (full&&h==es.length) ((es.take h).drop l))}
  |none=>False)
 | .p (.seq es)=>gO hi es.length fun h=>gO lo 0 fun l=>h<=es.length/\l<=h/\
  (match cJ P T with
  |some sz=>fa P sz (es.map .p)/\K {v:=.p (.seq ((es.take h).drop l))}
  |none=>False)
 | .sl b aC ai off len=>match H[b]? with
  |some (.arr k c a es)=>aC=c/\ai=a/\cJ P T=some ai/\¬(k.gr=true/\es=[])/\off+len<=es.length/\
   gO hi len fun h=>gO lo 0 fun l=>off+h<=es.length/\l<=h/\
    (if l=0 then K {v:=.sl b aC ai off h,al:=[(b,.arr k c a es)]}
    else if l=h then K {v:=.p (.cT false []),al:=[(b,.arr k c a es)]}
    else K {v:=.sl b aC ai (off+l) (h-l),al:=[(b,.arr k c a es)]})
  |_=>False
 |_=>False
def q7(P:da)(T:db)(H:aj)(x:AV)(lo hi:Option AV)(m:AV)(K:aY->Prop):Prop:=
 match x with
 | .sl b aC ai off len=>match H[b]? with
  |some (.arr k c a es)=>aC=c/\ai=a/\(cJ P T).isSome=true/\¬(k.gr=true/\es=[])/\off+len<=es.length/\hi.isSome=true/\
   gO hi len fun h=>gO lo 0 fun l=>gO (some m) 0 fun m=>off+m<=es.length/\h<=m/\l<=h/\K {v:=.p .undef,al:=[(b,.arr k c a es)]}
  |_=>False
 |_=>False
def oR(P:da)(T:db)(x k:PV):Option Bool:=match x with
 | .st u fs=>match iX P 9 T (.st u fs) k,jT (.st u fs) k with
  |some a,some b=>bif a==b then some a else none
  |_,_=>none
 |x=>jT x k
def fN(P:da)(T:db):List (PV×PV)->PV->Option (Option PV)
 |[],_=>some none
 |(k,v)::r,x=>match oR P T x k with
  |some true=>some (some v)
  |some false=>fN P T r x
  |none=>none
def mq(P:da)(T:db)(a:List (PV×PV))(x:PV):Option (Option PV):=match x with
 | .st u fs=>match fN P T a (.st u fs)with
  |some none=>some none
  |_=>none
 |x=>fN P T a x
def lG:PV->Bool
 | .st _ _=>false
 |_=>true
def jI(P:da)(T:db):List PV->List AV->PV->Option (Option AV)
 |[],[],_=>some none
 |k::ks,v::vs,x=>match oR P T x k with
  |some true=>some (some v)
  |some false=>jI P T ks vs x
  |none=>none
 |_,_,_=>none
def pc:Obj->Option (List PV×List AV)
 | .map false es=>some (es.map (·.1),es.map fun e=>.p e.2)
 | .cZ ks vs=>some (ks,vs)
 |_=>none
def gh:List (PV×PV)->PV->PV->List (PV×PV)
 |[],k,v=>[(k,v)]
 |(a,v')::r,k,v=>if jT k a=some true then(k,v)::r else(a,v')::gh r k v
def tR(P:da)(T:db):Bool:=match P.underlying T with
 |some (.int _)|some .string|some .bool=>true
 |_=>false
def eZ(P:da)(T:db):PV->Bool
 | .int k _=>match P.underlying T with
  |some (.int a)=>decide (k=a)
  |_=>false
 | .str _=>iK P T
 | .st u fs=>match P.underlying T with
  |some (.struct bY)=>bY.toList.all (fun f=>f.name != "_" &&tR P f.type)&&(iX P 9 T (.st u fs) (.st u fs)).isSome
  |_=>false
 |_=>false
def jw(P:da)(T:db):Option (db×db):=
 match P.underlying T with
 |some (.map k e)=>some (k,e)
 |_=>none
def lenOf(H:aj):AV->Option (Nat×List (Nat×Obj))
 | .p (.str s)=>some (s.length,[])
 | .p .aO| .p .ft=>some (0,[])
 | .p (.cT _ es)| .p (.seq es)=>some (es.length,[])
 | .p (.eg es)=>some (es.length,[])
 | .sl b aC ai _off len=>match H[b]? with
  |some (.arr k c a es)=>if aC=c/\ai=a then some (len,[(b,.arr k c a es)])else none
  |_=>none
 | .map b=>match H[b]? with
  |some (.map fz es)=>some (es.length,[(b,.map fz es)])
  |_=>none
 |_=>none
def il(P:da)(T:db):AV->Bool
 | .p (.str _)=>iK P T
 | .p .aO| .p (.cT _ _)| .p (.seq _)| .sl ..=>match P.underlying T with
  |some (.slice _)=>true
  |_=>false
 | .p .ft| .p (.eg _)| .map _=>match P.underlying T with
  |some (.map _ _)=>true
  |_=>false
 |_=>false
def Au(H:aj):AV->Option (Nat×List (Nat×Obj))
 | .p .aO=>some (0,[])
 | .p (.cT true es)=>some (es.length,[])
 | .sl b aC ai off _len=>match H[b]? with
  |some (.arr .exact c a es)=>if aC=c/\ai=a/\off<=es.length then some (es.length-off,[(b,.arr .exact c a es)])else none
  |_=>none
 |_=>none
def bytesOf:List AV->Option (List Nat)
 |[]=>some []
 | .p (.int .u8 c)::r=>if 0<=c/\c<256 then match bytesOf r with
  |some l=>some (c.toNat::l)
  |none=>none
  else none
 |_=>none
def ptrTo(P:da)(T:db):Option db:=
 match P.underlying T with
 |some (.pointer e)=>some e
 |_=>none
def mg(k:em)(c:Bool):List AV->Int->Option Int
 |[],a=>some a
 | .p (.int d b)::r,a=>if k=d then mg k c r (if c then(if b>a then b else a)else(if b<a then b else a))else none
 |_,_=>none
def iI(a:List AV):List (Nat×AV)->List AV
 |[]=>a
 |(i,v)::r=>iI (a.set i v) r
def mf(P:da)(l:List Nat):List (Nat×AV)->Prop
 |[]=>True
 |(i,v)::r=>(∃n,l[i]?=some n/\bG P (aa v)=n/\aa v≠.bad)/\mf P l r
def fM(H:aj):List AV->Option (List PV×List (Nat×Obj)×List (Nat×Obj))
 |[]=>some ([],[],[])
 | .p v::r=>match fM H r with
  |some (a,al,aK)=>some (v::a,al,aK)
  |none=>none
 | .ptr b []::r=>match H[b]?,fM H r with
  |some (.box fz (.p t)),some (a,al,aK)=>some (.cr t::a,(b,.box fz (.p t))::al,(b,.box true (.p t))::aK)
  |_,_=>none
 |_=>none
def oF(P:da)(T:db)(H:aj)(a:AV)(K:aY->Prop):Prop:=
 match a with
 | .ptr b path=>match H[b]? with
  |some (.box fz t)=>match eX t path with
   |some s=>kindOf P T=aa s/\K {v:=s,al:=[(b,.box fz t)]}
   |none=>False
  |_=>False
 | .cd b aC ai i path=>match H[b]? with
  |some (.arr k d c es)=>aC=d/\ai=c/\∃h:i<es.length,match eX (es[i]'h) path with
   |some s=>kindOf P T=aa s/\K {v:=s,al:=[(b,.arr k d c es)]}
   |none=>False
  |_=>False
 | .p (.cr t)=>kindOf P T=aL t/\K {v:=.p t}
 |_=>False
def nZ(P:da)(T:db)(H:aj)(a x:AV)(K:aY->Prop):Prop:=
 kindOf P T=aa x/\aa x≠.bad/\match a with
 | .ptr b path=>match H[b]? with
  |some (.box false t)=>match eX t path,ga t path x with
   |some s,some d=>aa s=aa x/\K {v:=.p (.aE []),al:=[(b,.box false t)],aK:=[(b,.box false d)]}
   |_,_=>False
  |_=>False
 | .cd b aC ai i path=>match H[b]? with
  |some (.arr k e c es)=>aC=e/\ai=c/\k≠.frozen/\∃h:i<es.length,match eX (es[i]'h) path,ga (es[i]'h) path x with
   |some s,some d=>aa s=aa x/\K {v:=.p (.aE []),al:=[(b,.arr k e c es)],aK:=[(b,.arr k e c (es.set i d))]}
   |_,_=>False
  |_=>False
 |_=>False
def mO(P:da)(a:db)(b:Nat)(key:PV)(x:AV)(o:Obj)(K:aY->Prop):Prop:=match pc o with
 |some (ks,vs)=>lG key=true/\jI P a ks vs key=some none/\K {v:=.p (.aE []),al:=[(b,o)],aK:=[(b,.cZ (ks++[key]) (vs++[x]))]}
 |none=>False
def fj(P:da)(T:db):Option (db×Nat):=
 match kindOf P T,P.underlying T with
 | .agg u,some (.struct fs)=>some (u,fs.size)
 |_,_=>none
def gP(P:da)(T:db):Option (db×Nat):=
 match kindOf P T,P.underlying T with
 | .agg u,some (.array n _)=>some (u,n)
 |_,_=>none
def nQ(P:da)(T:db)(a:AV)(f:Nat)(K:aY->Prop):Prop:=
 match fj P T with
 |some (u,n)=>f<n/\(match a with
  | .ptr b path=>K {v:=.ptr b (path++[(u,f)])}
  | .cd b aC ai i path=>K {v:=.cd b aC ai i (path++[(u,f)])}
  | .p (.cr t)=>aL t=.agg u/\(match(bY t)[f]? with
   |some g=>K {v:=.p (.cr g)}
   |none=>False)
  |_=>False)
 |_=>False
def nP(P:da)(T:db)(H:aj)(x i:AV)(K:aY->Prop):Prop:=
 match i with
 | .p (.int _ i)=>0<=i/\(match x with
  | .p (.cT _ es)=>∃h:i.toNat<es.length,cJ P T=some (bG P (aL (es[i.toNat]'h)))/\K {v:=.p (.cr (es[i.toNat]'h))}
  | .p (.seq es)=>∃h:i.toNat<es.length,cJ P T=some (bG P (aL (es[i.toNat]'h)))/\K {v:=.p (.cr (es[i.toNat]'h))}
  | .sl b aC ai off len=>cJ P T=some ai/\i.toNat<len/\(match H[b]? with
   |some (.arr k c a es)=>aC=c/\ai=a/\¬(k.gr=true/\es=[])/\K {v:=.cd b aC ai (off+i.toNat) [],al:=[(b,.arr k c a es)]}
   |_=>False)
  | .ptr b path=>(match gP P T with
   |some (u,n)=>i.toNat<n/\K {v:=.ptr b (path++[(u,i.toNat)])}
   |_=>False)
  | .cd b aC ai j path=>(match gP P T with
   |some (u,n)=>i.toNat<n/\K {v:=.cd b aC ai j (path++[(u,i.toNat)])}
   |_=>False)
  | .p (.cr t)=>(match gP P T with
   |some (u,n)=>aL t=.agg u/\i.toNat<n/\(match(bY t)[i.toNat]? with
    |some g=>K {v:=.p (.cr g)}
    |none=>False)
   |_=>False)
  |_=>False)
 |_=>False
def fG(P:da)(ag:dz->Bool)(o:Oper)(ρ:dl->AV)(H:aj)(K:aY->Prop):Prop:=
 match o.op with
 | .move x| .assign x=>K {v:=ρ x}
 | .pick c a b=>match ρ c with
  | .p (.bool t)=>K {v:=if t then ρ a else ρ b}
  |_=>False
 | .alloc T=>match cB P T with
  |some z=>kindOf P T=aL z/\aL z≠.bad/\jy T (aL z)=true/\K {v:=.ptr H.length [],aX:=[.box false (.p z)]}
  |none=>False
 | .box T x=>kindOf P T=aa (ρ x)/\aa (ρ x)≠.bad/\jy T (aa (ρ x))=true/\K {v:=.ptr H.length [],aX:=[.box false (ρ x)]}
 | .build T parts=>match kindOf P T,cB P T with
  | .agg u,some z=>(match dA P u with
   |some l=>aL z=.agg u/\mf P l (parts.toList.map fun(i,x)=>(i,ρ x))/\K {v:=iw u (iI ((bY z).map .p) (parts.toList.map fun(i,x)=>(i,ρ x)))}
   |none=>False)
  |_,_=>False
 | .buildSlice T n parts=>match cJ P T,cB P (ek P T)with
  |some sz,some z=>bG P (aL z)=sz/\n*sz<=1000000/\mf P (hz n sz) (parts.toList.map fun(i,x)=>(i,ρ x))/\
   K {v:=.sl H.length 0 sz 0 n,aX:=[.arr .exact 0 sz (iI (hz n (.p z)) (parts.toList.map fun(i,x)=>(i,ρ x)))]}
  |_,_=>False
 | .load T a=>oF P T H (ρ a) K
 | .store T a x=>nZ P T H (ρ a) (ρ x) K
 | .binOp op T x y _=>kT P op T (mE y) H (ρ x) (ρ y) (fun v=>K {v:=.p v,al:=dD H (ρ x)})
 | .unOp op _ x=>match op,ρ x with
  | .not,.p (.bool b)=>K {v:=.p (.bool (!b))}
  | .neg,.p (.int k n)=>K {v:=.p (.int k (k.wrap (0-n)))}
  | .xor,.p (.int k n)=>K {v:=.p (.int k (k.wrap (cx k.bits (if k.signed then -1 else k.max)^^^cx k.bits n).toNat))}
  |_,_=>False
 | .convert S D x=>match P.underlying S,P.underlying D,ρ x with
  |some _,some (.int k),.p (.int _ n)=>K {v:=.p (.int k (k.wrap n))}
  |some _,some .string,.p (.str s)=>K {v:=.p (.str s)}
  |some (.slice e),some .string,.sl b aC ai off len=>(match H[b]? with
   |some (.arr k q j es)=>aC=q/\ai=j/\ai=1/\P.underlying e=some (.int .u8)/\0<len/\off+len<=es.length/\(match bytesOf ((es.drop off).take len)with
    |some l=>K {v:=.p (.str l),al:=[(b,.arr k q j es)]}
    |none=>False)
   |_=>False)
  |_,_,_=>False
 | .extract t i=>match ρ t with
  | .p (.aE vs)=>(match vs[i]? with
   |some v=>K {v:=.p v}
   |none=>False)
  | .aE vs=>(match vs[i]? with
   |some v=>K {v}
   |none=>False)
  |_=>False
 | .fieldAddr T a f=>nQ P T (ρ a) f K
 | .indexAddr T x i=>nP P T H (ρ x) (ρ i) K
 | .field T x f=>match kindOf P T,P.underlying T,ρ x with
  | .agg u,some (.struct _),.p t=>aL t=.agg u/\(match(bY t)[f]?,(jn P u)[f]? with
   |some g,some F=>kindOf P F=aL g/\K {v:=.p g}
   |_,_=>False)
  |_,_,_=>False
 | .index T x i=>match ρ x,ρ i with
  | .p (.str s),.p (.int _ i)=>iK P T=true/\0<=i/\∃h:i.toNat<s.length,K {v:=.p (.int .u8 (s[i.toNat]'h))}
  | .p (.st u es),.p (.int _ i)=>(match gP P T,(jn P u)[i.toNat]?,es[i.toNat]? with
   |some (u',n),some F,some g=>u'=u/\0<=i/\i.toNat<n/\kindOf P F=aL g/\K {v:=.p g}
   |_,_,_=>False)
  |_,_=>False
 | .makeFunc (.func f) fi ca=>if ag f then(match fM H (fi.toList.map ρ),fM H (ca.toList.map ρ)with
   |some (a,[],[]),some (b,al,aK)=>K {v:=.p (.func f a b),al,aK}
   |_,_=>False)
  else match eQ (fi.toList.map ρ),eQ (ca.toList.map ρ)with
   |some a,some b=>K {v:=.p (.func f a b)}
   |_,_=>K {v:=.func f (fi.toList.map ρ) (ca.toList.map ρ)}
 | .makeSlice T l c=>match cJ P T,cB P (ek P T),ρ l,ρ c with
  |some sz,some z,.p (.int .i64 l),.p (.int .i64 c)=>bG P (aL z)=sz/\0<=l/\l=c/\l<=cV/\K {v:=.sl H.length 0 sz 0 l.toNat,aX:=[.arr .exact 0 sz (hz l.toNat (.p z))]}
  |_,_,_,_=>False
 | .slice T x lo hi A=>match A with
  |none=>n9 P T H (ρ x) (lo.map ρ) (hi.map ρ) none K
  |some m=>q7 P T H (ρ x) (lo.map ρ) (hi.map ρ) (ρ m) K
 | .makeMap _ none=>K {v:=.map H.length,aX:=[.map false []]}
 | .lookup T x i ok=>match jw P T,ρ i with
  |some (w,E),.p key=>(match cB P E with
   |some z=>eZ P w key=true/\(match ρ x with
    | .p .ft=>K {v:=.p (if ok then .aE [z,.bool false]else z)}
    | .p (.eg es)=>(match fN P w es key with
     |some (some v)=>K {v:=.p (if ok then .aE [v,.bool true]else v)}
     |some none=>K {v:=.p (if ok then .aE [z,.bool false]else z)}
     |none=>False)
    | .map b=>(match H[b]? with
     |some (.map fz es)=>(match fN P w es key with
      |some (some v)=>K {v:=.p (if ok then .aE [v,.bool true]else v),al:=[(b,.map fz es)]}
      |some none=>K {v:=.p (if ok then .aE [z,.bool false]else z),al:=[(b,.map fz es)]}
      |none=>False)
     |some (.cZ ks vs)=>lG key=true/\(match jI P w ks vs key with
      |some (some v)=>K {v:=if ok then .aE [v,.p (.bool true)]else v,al:=[(b,.cZ ks vs)]}
      |some none=>K {v:=.p (if ok then .aE [z,.bool false]else z),al:=[(b,.cZ ks vs)]}
      |none=>False)
     |_=>False)
    |_=>False)
   |none=>False)
  |_,_=>False
 | .mapUpdate T m k x| .insert T m k x=>match jw P T,ρ m,ρ k,ρ x with
  |some (w,_),.map b,.p key,.p v=>eZ P w key=true/\(match H[b]? with
   |some (.map false es)=>(match mq P w es key with
    |some _=>K {v:=.p (.aE []),al:=[(b,.map false es)],aK:=[(b,.map false (gh es key v))]}
    |none=>False)
   |some (.cZ ks vs)=>mO P w b key (.p v) (.cZ ks vs) K
   |_=>False)
  |some (w,_),.map b,.p key,x=>eZ P w key=true/\(match H[b]? with
   |some o=>mO P w b key x o K
   |none=>False)
  |_,_,_,_=>False
 | .range T x=>match ρ x with
  | .p (.str s)=>iK P T=true/\K {v:=.ptr H.length [],aX:=[.dw s 0]}
  |_=>False
 | .next it true=>match ρ it with
  | .ptr b []=>(match H[b]? with
   |some (.dw s pos)=>if pos<s.length then
    K {v:=.p (.aE [.bool true,.int .i64 pos,.int .i32 (Utf8.decode (gJ s) pos).1]),al:=[(b,.dw s pos)],aK:=[(b,.dw s (pos+(Utf8.decode (gJ s) pos).2))]}
    else K {v:=.p (.aE [.bool false]),al:=[(b,.dw s pos)]}
   |_=>False)
  |_=>False
 | .nilCheck x=>match ρ x with
  | .ptr _ _| .cd _ _ _ _ _| .p (.cr _)=>K {v:=ρ x}
  |_=>False
 | .call c=>match c.callee with
  | .builtin b=>let args:=c.args.toList.map ρ
   let T:=c.argTypes.getD 0 0
   (match b,args with
   | .len,[x]=>(match lenOf H x with
    |some (n,al)=>il P T x=true/\0<c.argTypes.size/\K {v:=.p (.int .i64 n),al}
    |none=>False)
   | .append,[s,x]=>c.argTypes.size=2/\nS P T (c.argTypes.getD 1 0) H s x K
   | .min,.p (.int k a)::r=>(match mg k false r a with
    |some n=>K {v:=.p (.int k n)}
    |none=>False)
   | .max,.p (.int k a)::r=>(match mg k true r a with
    |some n=>K {v:=.p (.int k n)}
    |none=>False)
   | .copy,[d,x]=>(match cJ P T,d,gY H x with
    |some sz,.sl b aC ai off len,some xs=>ai=sz/\fa P sz xs/\c.argTypes.size=2/\(match H[b]? with
     |some (.arr k q j es)=>aC=q/\ai=j/\k≠.frozen/\off+len<=es.length/\¬(k.gr=true/\es=[])/\
      K {v:=.p (.int .i64 (min xs.length len:Nat)),al:=(b,.arr k q j es)::dD H x,aK:=[(b,.arr k q j (es.take off++xs.take (min xs.length len)++es.drop (off+min xs.length len)))]}
     |_=>False)
    |_,_,_=>False)
   | .cap,[x]=>(match Au H x with
    |some (n,al)=>il P T x=true/\0<c.argTypes.size/\K {v:=.p (.int .i64 n),al}
    |none=>False)
   | .clear,[x]=>(match x with
    | .p .aO=>il P T x=true/\0<c.argTypes.size/\K {v:=.p (.aE [])}
    | .sl b aC ai off len=>(match cJ P T,cB P (ek P T),H[b]? with
     |some sz,some z,some (.arr k q j es)=>aC=q/\ai=j/\ai=sz/\bG P (aL z)=sz/\k≠.frozen/\off+len<=es.length/\¬(k.gr=true/\es=[])/\0<c.argTypes.size/\0<len/\
      K {v:=.p (.aE []),al:=[(b,.arr k q j es)],aK:=[(b,.arr k q j (es.take off++hz len (.p z)++es.drop (off+len)))]}
     |_,_,_=>False)
    |_=>False)
   | .unsafeSliceData,[x]=>(match x with
    | .p .aO=>K {v:=.p .dL}
    | .sl b aC ai off len=>(match H[b]? with
     |some (.arr k q j es)=>aC=q/\ai=j/\((k.gr=true/\es=[]/\K {v:=.p .dL,al:=[(b,.arr k q j es)]})\/(0<len/\off+len<=es.length/\K {v:=.cd b aC ai off [],al:=[(b,.arr k q j es)]}))
     |_=>False)
    |_=>False)
   | .unsafeString,[x,.p (.int .i64 n)]=>(match x with
    | .p .dL=>n=0/\c.argTypes.size=2/\K {v:=.p (.str [])}
    | .cd b aC ai i []=>(match H[b]? with
     |some (.arr .bytes q j es)=>aC=q/\ai=j/\ai=1/\i=0/\0<n/\n.toNat<=es.length/\n<=9223372036854775807/\c.argTypes.size=2/\ptrTo P T=some Gl.u8/\P.cellsOf Gl.u8=1/\(match bytesOf (es.take n.toNat)with
      |some l=>K {v:=.p (.str l),al:=[(b,.arr .bytes q j es)],aK:=[(b,.dead)]}
      |none=>False)
     |_=>False)
    |_=>False)
   |_,_=>False)
  |_=>False
 |_=>False
def newAt(a:Nat):List Obj->List (Nat×Obj)
 |[]=>[]
 |o::r=>(a,o)::newAt (a+1) r
structure bZ(P:da)(ah ad:Nat->Prop)(w:dg)(β:Bd)(H:aj)(aH:Nat->Prop)(w':dg)(aM:Bd)(H':aj):Prop where
 bS:∀k,ad k->aH k
 fresh:∀k,aH k->ad k\/¬ah k
 ext:Ext ah ad w w'
 step:cw β H aM H'
 rel:b7 P w' aH aM H' ah
 fS:∀x,aI H x->aI H' x
 loop:∀b,ib H b->ib H' b
def Enters(P:da)(f:dz):Prop:=∀(args:Array c9)(w:dg),(callFunc f args).run P w=.ok (.enter f args) w
def cC(P:da)(f:dz)(H:aj)(args:List AV)(H':aj)(v:AV):Prop:=
 Enters P f/\∀(w:dg)(ad ah:Nat->Prop)(β:Bd)(a:List c9),b7 P w ad β H ah->bw P w ad β H args a->aV (aI H) args->
  ew P f a.toArray w fun e w'=>∃b aM aH,e=.returned b/\bZ P ah ad w β H aH w' aM H'/\aD P w' aH aM H' v b/\aG (aI H') v
def fx(P:da)(b:Nat)(H:aj)(args:List AV)(H':aj)(v:AV):Prop:=
 ib H b/\∀(w:dg)(ad ah:Nat->Prop)(β:Bd)(c:List c9),b7 P w ad β H ah->bw P w ad β H args c->aV (aI H) args->
  ∃f tmps assign body,(gb (β.an b) c.toArray).run P w=.ok (.round (β.an b) f tmps assign body) w/\
   ∀(a:eb)(e:List eb),∃d w' aM aH,ee P (lone (fl (β.an b) f tmps assign body .normal) (a::e) w) (lone (a.finish d) e w')/\
    bZ P ah ad w β H aH w' aM H'/\aD P w' aH aM H' v d/\aG (aI H') v
def sq(P:da)(f:dz)(args:List AV)(base:Nat)(e:aY):Prop:=
 Enters P f/\∀(H:aj)(w:dg)(ad ah:Nat->Prop)(β:Bd)(a:List c9),b7 P w ad β H ah->bw P w ad β H args a->aV (aI H) args->
  (∀p∈e.al,H[p.1]?=some p.2)->(∀i,i<e.aX.length->H[base+i]?=some .hole)->
  ew P f a.toArray w fun x w'=>∃b aM aH,x=.returned b/\bZ P ah ad w β H aH w' aM (bc H (e.aK++newAt base e.aX))/\
   aD P w' aH aM (bc H (e.aK++newAt base e.aX)) e.v b/\aG (aI (bc H (e.aK++newAt base e.aX))) e.v
def oI(P:da)(b:Nat)(args:List AV)(a:Nat)(e:aY):Prop:=
 ∀(H:aj)(w:dg)(ad ah:Nat->Prop)(β:Bd)(d:List c9),b7 P w ad β H ah->bw P w ad β H args d->aV (aI H) args->
  (∀p∈e.al,H[p.1]?=some p.2)->(∀i,i<e.aX.length->H[a+i]?=some .hole)->
  ib H b/\∃f tmps assign body,(gb (β.an b) d.toArray).run P w=.ok (.round (β.an b) f tmps assign body) w/\
   ∀(c:eb)(h:List eb),∃g w' aM aH,ee P (lone (fl (β.an b) f tmps assign body .normal) (c::h) w) (lone (c.finish g) h w')/\
    bZ P ah ad w β H aH w' aM (bc H (e.aK++newAt a e.aX))/\
    aD P w' aH aM (bc H (e.aK++newAt a e.aX)) e.v g/\aG (aI (bc H (e.aK++newAt a e.aX))) e.v
def D9(P:da)(f:dz)(args:List AV)(al:List (Nat×Obj))(v:PV):Prop:=
 ∀(H:aj)(w:dg)(ad ah:Nat->Prop)(β:Bd)(a:List c9),b7 P w ad β H ah->bw P w ad β H args a->aV (aI H) args->(∀p∈al,H[p.1]?=some p.2)->
  ∃b,(callFunc f a.toArray).run P w=.ok (.value b) w/\aF P w ad v b
def oM(H:aj)(e:aY):Prop:=(∀p∈e.al,H[p.1]?=some p.2)/\(∀p∈e.aK,p.1<H.length/\p.2≠.hole)
def so(P:da)(f:dz)(args:List PV)(v:PV):Prop:=
 Enters P f/\∀(w:dg)(ad:Nat->Prop)(a:List c9),(∀k,ad k->k<w.heap.size)->mZ P w ad->br P w ad args a->
  ew P f a.toArray w fun e w'=>∃b,∃aH:Nat->Prop,e=.returned b/\(∀k,ad k->aH k)/\(∀k,aH k->ad k\/w.heap.size<=k)/\(∀k,aH k->k<w'.heap.size)/\
   w.heap.size<=w'.heap.size/\(∀k,k<w.heap.size->w'.heap[k]?=w.heap[k]?)/\(w'.os=w.os/\w'.output=w.output)/\aF P w' aH v b
def R7(P:da)(f:dz)(args:List PV)(v:PV):Prop:=
 ∀(w:dg)(ad:Nat->Prop)(a:List c9),br P w ad args a->∃b,(callFunc f a.toArray).run P w=.ok (.value b) w/\aF P w ad v b
def aB(P:da)(f:dz)(args:List PV)(v:PV):Prop:=so P f args v\/R7 P f args v
def lx(H:aj):AV->Option (PV×aj)
 | .p v=>some (v,H)
 | .sl b aC ai off len=>match H[b]? with
  |some (.arr k d a es)=>
   if aC=d/\ai=a/\off+len<=es.length then
    if k.gr=true/\es=[]then some (.aO,H)else
    match eQ es with
    |some c=>some (.cT (k== .exact&&off+len==es.length) ((c.drop off).take len),H.set b (.arr .frozen aC ai es))
    |none=>none
   else none
  |_=>none
 | .ptr b path=>match H[b]? with
  |some (.box _ (.p t))=>match lA t path with
   |some s=>some (.cr s,H.set b (.box true (.p t)))
   |none=>none
  |_=>none
 | .map b=>match H[b]? with
  |some (.map _ es)=>some (.eg es,H.set b (.map true es))
  |_=>none
 |_=>none
def nD(H:aj):List AV->Option (List PV×aj)
 |[]=>some ([],H)
 |x::r=>match lx H x with
  |some (v,H1)=>match nD H1 r with
   |some (vs,a)=>some (v::vs,a)
   |none=>none
  |none=>none
def ie(P:da)(draw:Bool)(f:dz)(args:List AV)(H:aj)(K:AV->aj->Prop):Prop:=
 (∃vs v,args=vs.map .p/\aB P f vs v/\K (.p v) H)\/
 (draw=false/\((∃vs H1 v,nD H args=some (vs,H1)/\aB P f vs v/\K (.p v) H1)\/(∃H' v,cC P f H args H' v/\K v H')\/
  (∃e,sq P f args H.length e/\oM H e/\K e.v (bc H e.aK++e.aX))\/(∃al v,D9 P f args al v/\(∀p∈al,H[p.1]?=some p.2)/\K (.p v) H)))
def jU(P:da)(ag:dz->Bool)(draw:Bool)(o:Oper)(K:St->Prop)(s:St):Prop:=
 match o.op with
 | .call {callee:=.value f,args,.. }=>(match ev s.env f with
  | .p (.func g fi ca)=>ie P draw g (fi.map .p++args.toList.map (ev s.env)++ca.map .p) s.heap (fun v H'=>K ⟨put o.dst v s.env,H'⟩)
  | .func g fi ca=>ie P draw g (fi++args.toList.map (ev s.env)++ca) s.heap (fun v H'=>K ⟨put o.dst v s.env,H'⟩)
  | .map b=>∃H' v,fx P b s.heap (args.toList.map (ev s.env)) H' v/\K ⟨put o.dst v s.env,H'⟩
  |_=>False)
 |_=>fG P ag o (ev s.env) s.heap fun e=>K (e.app o.dst s)
def guardOf(a:Array Oper)(j:Nat)(e:Env):AV:=
 match(a[j]?).bind (·.dst)with
 |some d=>aP e d
 |none=>.p (.aE [])
def ig(P:da)(ag:dz->Bool)(draw:Bool)(a:Array Oper):List Oper->(St->Prop)->St->Prop
 |[],K,s=>K s
 |o::r,K,s=>match o.guard with
  |none=>jU P ag draw o (ig P ag draw a r K) s
  |some (j,want)=>match guardOf a j s.env with
   | .p (.bool t)=>if t=want then jU P ag draw o (ig P ag draw a r K) s else ig P ag draw a r K ⟨put o.dst (.p (.aE [])) s.env,s.heap⟩
   | .p (.aE [])=>ig P ag draw a r K ⟨put o.dst (.p (.aE [])) s.env,s.heap⟩
   |_=>False
def mA:Obj->Option Obj
 | .box _ (.p t)=>some (.box true (.p t))
 | .arr k aC ai es=>if k.gr=true/\es=[]then none else match eQ es with
  |some _=>some (.arr .frozen aC ai es)
  |none=>none
 | .map _ es=>some (.map true es)
 |_=>none
def mH(H:aj):AV->Option (PV×List Nat)
 | .p v=>some (v,[])
 | .sl b aC ai off len=>match H[b]? with
  |some (.arr k d a es)=>
   if aC=d/\ai=a/\off+len<=es.length then
    if k.gr=true/\es=[]then none else
    match eQ es with
    |some c=>some (.cT (k== .exact&&off+len==es.length) ((c.drop off).take len),[b])
    |none=>none
   else none
  |_=>none
 | .ptr b path=>match H[b]? with
  |some (.box _ (.p t))=>match lA t path with
   |some s=>some (.cr s,[b])
   |none=>none
  |_=>none
 | .map b=>match H[b]? with
  |some (.map _ es)=>some (.eg es,[b])
  |_=>none
 |_=>none
def oH(H:aj):List AV->Option (List PV×List Nat)
 |[]=>some ([],[])
 |x::r=>match mH H x,oH H r with
  |some (v,bs),some (vs,cs)=>some (v::vs,bs++cs)
  |_,_=>none
def lL(H:aj):List Nat->Option (List (Nat×Obj)×List (Nat×Obj))
 |[]=>some ([],[])
 |b::r=>match H[b]?,lL H r with
  |some o,some (al,aK)=>(match mA o with
   |some o'=>some ((b,o)::al,(b,o')::aK)
   |none=>none)
  |_,_=>none
def ir(P:da)(f:dz)(args:List AV)(H:aj)(K:aY->Prop):Prop:=
 (∃vs v,args=vs.map .p/\aB P f vs v/\K {v:=.p v})\/
 (∃vs bs al aK v,oH H args=some (vs,bs)/\lL H bs=some (al,aK)/\aB P f vs v/\K {v:=.p v,al,aK})\/
 (∃e,sq P f args H.length e/\oM H e/\K e)\/
 (∃al v,D9 P f args al v/\(∀p∈al,H[p.1]?=some p.2)/\K {v:=.p v,al})
def jz(P:da)(ag:dz->Bool)(o:Oper)(s:St)(K:aY->Prop):Prop:=
 match o.op with
 | .call {callee:=.value f,args,.. }=>(match ev s.env f with
  | .p (.func g fi ca)=>ir P g (fi.map .p++args.toList.map (ev s.env)++ca.map .p) s.heap K
  | .func g fi ca=>ir P g (fi++args.toList.map (ev s.env)++ca) s.heap K
  | .map b=>∃e,oI P b (args.toList.map (ev s.env)) s.heap.length e/\oM s.heap e/\K e
  |_=>False)
 |_=>fG P ag o (ev s.env) s.heap K
structure Touch where
 i:Nat
 rd:List Nat
 wr:List Nat
def oi(a:Nat):List Obj->List Nat
 |[]=>[]
 |_::r=>a::oi (a+1) r
def ia(i a:Nat)(e:aY):Touch:=⟨i,e.al.map (·.1),e.aK.map (·.1)++oi a e.aX⟩
def gl(i b:Nat)(e:aY)(a:List Touch):List Touch:=
 match e.al,e.aK,e.aX with
 |[],[],[]=>a
 |_,_,_=>ia i b e::a
def reach(a:Array Oper):Nat->Nat->Nat->Bool
 |0,_,_=>false
 |f+1,i,j=>match a[j]? with
  |some o=>o.after.toList.any (fun e=>gE .any e&&e.on==i)||o.after.toList.any (fun e=>gE .any e&&decide (i<e.on)&&reach a f i e.on)
  |none=>false
def jv(u t:Touch):Bool:=u.wr.any (fun b=>t.rd.contains b||t.wr.contains b)||u.rd.any (fun b=>t.wr.contains b)
def iJ(a:Array Oper):List Touch->Bool
 |[]=>true
 |t::r=>r.all (fun u=>!jv u t||reach a a.size u.i t.i)&&iJ a r
def gD(P:da)(ag:dz->Bool)(a:Array Oper):List Oper->Nat->List Touch->(St->Prop)->St->Prop
 |[],_,acc,K,s=>iJ a acc=true/\K s
 |o::r,i,acc,K,s=>match o.guard with
  |none=>jz P ag o s fun e=>gD P ag a r (i+1) (gl i s.heap.length e acc) K (e.app o.dst s)
  |some (j,want)=>match guardOf a j s.env with
   | .p (.bool t)=>if t=want then jz P ag o s fun e=>gD P ag a r (i+1) (gl i s.heap.length e acc) K (e.app o.dst s)
    else gD P ag a r (i+1) acc K ⟨put o.dst (.p (.aE [])) s.env,s.heap⟩
   | .p (.aE [])=>gD P ag a r (i+1) acc K ⟨put o.dst (.p (.aE [])) s.env,s.heap⟩
   |_=>False
inductive bA where|normal|exit (id:Nat)|ret
mutual
def gd(T:aj):PV->AV->Prop
 | .aO,x=>x=.p .aO\/match x with
  | .sl b aC _ off len=>aC=0/\off=0/\len=0/\∃k z,T[b]?=some (.arr k 0 z [])/\k.gr=true
  |_=>False
 | .st u fs,x=>x=.p (.st u fs)\/match x with
  | .st u' gs=>u=u'/\lC T fs gs
  |_=>False
 |v,x=>x=.p v
def lC(T:aj):List PV->List AV->Prop
 |[],gs=>gs=[]
 |v::vs,gs=>match gs with
  |g::gs=>gd T v g/\lC T vs gs
  |[]=>False
end
mutual
def Gh(T:aj):AV->AV->Prop
 | .p v,x=>gd T v x
 | .st u fs,x=>match x with
  | .st u' gs=>u=u'/\mI T fs gs
  |_=>False
 |a,x=>x=a
def mI(T:aj):List AV->List AV->Prop
 |[],gs=>gs=[]
 |v::vs,gs=>match gs with
  |g::gs=>Gh T v g/\mI T vs gs
  |[]=>False
end
structure pU(s t:St):Prop where
 env:∀x,aP t.env x=aP s.env x\/aP t.env x=.p .undef\/Gh t.heap (aP s.env x) (aP t.env x)
 heap:∀(b:Nat)(o:Obj),t.heap[b]?=some o->o=.hole\/s.heap[b]?=some o\/((s.heap[b]?=none\/s.heap[b]?=some .hole)/\∃k z,o=.arr k 0 z []/\k.gr=true)\/(∃v v',s.heap[b]?=some (.box false v)/\o=.box false v'/\Gh t.heap v v')
 gR:∀x,aG (aI t.heap) (aP t.env x)
 hrefs:∀(b:Nat)(o:Obj),t.heap[b]?=some o->o.refs (aI t.heap)
def cR(N:Nat)(s t:St):Prop:=t=s\/(pU s t/\∀b,b<N->t.heap[b]?=s.heap[b]?)
def je(Q:bA->St->Prop)(j:Option Code)(s:St):Prop:=
 match j with
 |none=>Q .normal s
 |some (.exit id)=>Q (.exit id) s
 |some .ret=>Q .ret s
 |_=>False
def jq(P:da)(it:AV)(b:Nat)(H:aj)(K:aj->Prop):Prop:=
 match it with
 | .p (.func g fi ca)=>∃H' v,cC P g H (fi.map .p++[.map b]++ca.map .p) H' v/\K H'
 | .func g fi ca=>∃H' v,cC P g H (fi++[.map b]++ca) H' v/\K H'
 |_=>False
def iE(b:Nat)(env:Env)(Q:bA->St->Prop)(H:aj):Prop:=
 match H[b]? with
 |some (.loop L)=>L.st≠.busy/\je Q L.pending ⟨env,H.set b (.loop {L with st:=.exhausted})⟩
 |_=>False
abbrev Cx:=Nat×Nat
def cj(P:da)(ag:dz->Bool)(q:Cx):Code->(bA->St->Prop)->St->Prop
 | .skip,Q,s| .label _,Q,s=>Q .normal s
 | .region _ ops draw,Q,s=>if draw then gD P ag ops ops.toList 0 [] (Q .normal) s else ig P ag false ops ops.toList (Q .normal) s
 | .seq a b,Q,s=>cj P ag q a (fun e s'=>match e with
  | .normal=>cj P ag q b Q s'
  |e=>Q e s') s
 | .cond c a b,Q,s=>match ev s.env c with
  | .p (.bool t)=>if t then cj P ag q a Q s else cj P ag q b Q s
  |_=>False
 | .block id b,Q,s=>cj P ag q b (fun e s'=>match e with
  | .exit i=>if i=id then Q .normal s' else Q (.exit i) s'
  |e=>Q e s') s
 | .scope b,Q,s=>cj P ag q b Q s
 | .loop b,Q,s=>∃I:Nat->St->Prop,(∃n t,cR q.2 s t/\I n t)/\∀n t,I n t->cj P ag q b (fun e s'=>match e with
  | .normal=>∃m g,m<n/\cR q.2 s' g/\I m g
  |e=>Q e s') t
 | .rangeFunc f h a b,Q,s=>q.2<=s.heap.length/\∃d:Env,(∀x,aP d x=aP s.env x)/\jq P (ev s.env f) s.heap.length (s.heap++[.loop ⟨.ready,none,q.1,h.toList,a,b,d⟩]) (iE s.heap.length s.env Q)
 | .exit id,Q,s=>Q (.exit id) s
 | .ret,Q,s=>Q .ret s
 |_,_,_=>False
def bB(fr:eb)(t:Array c9)(ds:List ea)(todo:List Item):eb:={fr with tmps:=t,defers:=ds,todo,mode:=.run}
section
variable{P:da}{fr:eb}{t:Array c9}{ds:List ea}{k:List Item}{cs:List eb}{w:dg}
def fH(t:Array c9):dl->c9
 | .tmp x=>t.getD x undef
 | .const v=>v
 | .global g=>.pointer (some ⟨g,0,none⟩)
 | .func f=>.func (.func f) #[] #[]
theorem eval_eq(fr:eb):fr.eval=fH fr.tmps:=by funext x;cases x<;>rfl
theorem aIi:step P (lone (bB fr t ds (.code .skip::k)) cs w)=.next (lone (bB fr t ds k) cs w):=
 dp (by simp[stepG,hp,bB])
theorem Xw{l:Nat}:step P (lone (bB fr t ds (.code (.label l)::k)) cs w)=.next (lone (bB fr t ds k) cs w):=
 dp (by simp[stepG,hp,bB])
theorem Wc{id:Nat}:step P (lone (bB fr t ds (.inBlock id::k)) cs w)=.next (lone (bB fr t ds k) cs w):=
 dp (by simp[stepG,hp,bB])
theorem Wb{b:Code}:step P (lone (bB fr t ds (.inScope b::k)) cs w)=.next (lone (bB fr t ds k) cs w):=
 dp (by simp[stepG,hp,bB])
theorem DQ{a b:Code}:step P (lone (bB fr t ds (.code (.seq a b)::k)) cs w)=.next (lone (bB fr t ds (.code a::.code b::k)) cs w):=
 dp (by simp[stepG,hp,bB])
theorem aIc{c:dl}{x y:Code}{b:Bool}(h:fH t c= .bool b):
 step P (lone (bB fr t ds (.code (.cond c x y)::k)) cs w)=.next (lone (bB fr t ds (.code (if b then x else y)::k)) cs w):=
 dp (by simp[stepG,hp,bB,eval_eq,h])
theorem yT{id:Nat}{c:Code}:step P (lone (bB fr t ds (.code (.block id c)::k)) cs w)=.next (lone (bB fr t ds (.code c::.inBlock id::k)) cs w):=
 dp (by simp[stepG,hp,bB])
theorem CR{c:Code}:step P (lone (bB fr t ds (.code (.scope c)::k)) cs w)=.next (lone (bB fr t ds (.code c::.inScope c::k)) cs w):=
 dp (by simp[stepG,hp,bB])
theorem aIf{c:Code}:step P (lone (bB fr t ds (.code (.loop c)::k)) cs w)=.next (lone (bB fr t ds (.code c::.inLoop c::k)) cs w):=
 dp (by simp[stepG,hp,bB])
theorem Wz{c:Code}:step P (lone (bB fr t ds (.inLoop c::k)) cs w)=.next (lone (bB fr t ds (.code c::.inLoop c::k)) cs w):=
 dp (by simp[stepG,hp,bB])
theorem aIe{id:Nat}{a:List Item}(h:exitTo id k=some a):step P (lone (bB fr t ds (.code (.exit id)::k)) cs w)=.next (lone (bB fr t ds a) cs w):=
 dp (by simp[stepG,hp,bB,h])
theorem Wy{id:Nat}{a:Array Oper}:
 step P (lone (bB fr t ds (.code (.region id a false)::k)) cs w)=.next (lone (bB fr t ds (.inRegion a (ik a.size)::k)) cs w):=
 dp (by simp[stepG,hp,bB])
theorem aId{id:Nat}{a:Array Oper}:
 step P (lone (bB fr t ds (.code (.region id a true)::k)) cs w)=
  .next (lone (bB fr t ds (.inRegion a (gB (P.follows .mixedOrders) a (w.tape w.drawn (.order fr.fn id)))::k)) cs {w with drawn:=w.drawn+1}):=
 dp (by simp[stepG,hp,bB,choose,g9,Question.forced,Question.cut])
theorem IH{a:Array Oper}:step P (lone (bB fr t ds (.inRegion a []::k)) cs w)=.next (lone (bB fr t ds k) cs w):=
 dp (by simp[stepG,hp,bB])
def nE(dst:Option Tmp)(v:c9)(t:Array c9):Array c9:=
 match dst with
 |some d=>t.setIfInBounds d v
 |none=>t
theorem nL{a:Array Oper}{i:Nat}{r:List Nat}{o:Oper}(c:a[i]?=some o)(v:c9):
 (bB fr t ds (.inRegion a (i::r)::k)).finish v=bB fr (nE o.dst v t) ds (.inRegion a r::k):=by
 cases b:o.dst<;>simp[Frame.finish,bB,c,b,nE]
theorem Kq{a:Array Oper}{i:Nat}{r:List Nat}{o:Oper}(b:a[i]?=some o)(c:gy o (yielded a t)=false):
 step P (lone (bB fr t ds (.inRegion a (i::r)::k)) cs w)=.next (lone (bB fr (nE o.dst undef t) ds (.inRegion a r::k)) cs w):=by
 rw[<-nL b];exact dp (by simp only[bB];simp[stepG,hp,b,c])
theorem VO{o:Oper}(a:∀c,o.op≠ .defer c)(r:Option Nat)(A:Nat->Call->GStep)(B:GStep):
 (match r,o.op with
  |some l,.defer c=>A l c
  |_,_=>B)=B:=by
 cases r with
 |none=>rfl
 |some l=>cases h:o.op<;>first|rfl|exact absurd h (a _)
theorem aIh{a:Array Oper}{i:Nat}{r:List Nat}{o:Oper}{fr:eb}(e:fr.todo= .inRegion a (i::r)::k)(d:a[i]?=some o)(b:∀c,o.op≠ .defer c):
 ht P true fr cs none w=hr P true fr cs none (dq (fH fr.tmps) o) w:=by
 simp only[ht,Frame.oper?,e,d,eval_eq];exact VO b _ _ _
theorem CI{f:Bool}{a:Array Oper}{i:Nat}{r:List Nat}{o:Oper}(b:a[i]?=some o)(e:gy o (yielded a t)=true)(d:∀c,o.op≠ .defer c):
 stepG P f {frame:=bB fr t ds (.inRegion a (i::r)::k),callers:=cs,status:=.running,dying:=none} w=
  hr P true (bB fr t ds (.inRegion a (i::r)::k)) cs none (dq (fH t) o) w:=by
 have h:=aIh (P:=P) (cs:=cs) (w:=w) (fr:=bB fr t ds (.inRegion a (i::r)::k)) rfl b d;simp only[bB]at h⊢;simp[stepG,hp,b,e,h]
theorem tf{a:Array Oper}{i:Nat}{r:List Nat}{o:Oper}{n:Next}{b:c9}{w':dg}(d:a[i]?=some o)(h:gy o (yielded a t)=true)
 (e:∀c,o.op≠.defer c)(g:(dq (fH t) o).run P w=.ok n w')(f:n=.value b\/n=.skip/\b=undef):
 step P (lone (bB fr t ds (.inRegion a (i::r)::k)) cs w)=.next (lone (bB fr (nE o.dst b t) ds (.inRegion a r::k)) cs w'):=by
 rw[<-nL d];refine dp ?_;rw[CI d h e];rcases f with rfl|⟨rfl,rfl⟩<;>simp[hr,g,bB]
theorem vm{a:Array Oper}{i:Nat}{r:List Nat}{o:Oper}{f:dz}{args:Array c9}{w':dg}(d:a[i]?=some o)(g:gy o (yielded a t)=true)
 (b:∀c,o.op≠.defer c)(e:(dq (fH t) o).run P w=.ok (.enter f args) w'):
 step P (lone (bB fr t ds (.inRegion a (i::r)::k)) cs w)=.next (lone (fm P f args .normal) (bB fr t ds (.inRegion a (i::r)::k)::cs) w'):=by
 refine dp ?_;rw[CI d g b];simp[hr,e,bB]
theorem JQ{a:Array Oper}{i:Nat}{r:List Nat}{o:Oper}{l:Nat}{f:dz}{tmps:Array c9}{assign body:Code}{w':dg}(d:a[i]?=some o)(g:gy o (yielded a t)=true)
 (b:∀c,o.op≠.defer c)(e:(dq (fH t) o).run P w=.ok (.round l f tmps assign body) w'):
 step P (lone (bB fr t ds (.inRegion a (i::r)::k)) cs w)=.next (lone (fl l f tmps assign body .normal) (bB fr t ds (.inRegion a (i::r)::k)::cs) w'):=by
 refine dp ?_;rw[CI d g b];simp[hr,e,bB]
end
end Go.aq
namespace Go.aq
variable[Gl]
mutual
theorem aG.mono{S T:Nat×Nat->Prop}(h:∀x,S x->T x):∀v,aG S v->aG T v
 | .p _,_=>by simp[aG]
 | .ptr b _,c| .cd b _ _ _ _,c| .sl b _ _ _ _,c| .map b,c=>by simp only[aG]at*;exact h _ c
 | .func _ a b,c=>by simp only[aG]at*;exact⟨aV.mono h a c.1,aV.mono h b c.2⟩
 | .st _ fs,c=>by simp only[aG]at*;exact aV.mono h fs c
 | .aE vs,c=>by simp only[aG]at*;exact aV.mono h vs c
theorem aV.mono{S T:Nat×Nat->Prop}(h:∀x,S x->T x):∀vs,aV S vs->aV T vs
 |[],_=>by simp[aV]
 |v::vs,c=>by simp only[aV]at*;exact⟨aG.mono h v c.1,aV.mono h vs c.2⟩
end
structure cN(P:da)(n:Nat)(ah ad:Nat->Prop)(β:Bd)(s:St)(t:Array c9)(w:dg):Prop where
 heap:b7 P w ad β s.heap ah
 env:∀x,aD P w ad β s.heap (aP s.env x) (t.getD x undef)
 gR:∀x,aG (aI s.heap) (aP s.env x)
 size:t.size=n
structure pT(N:Nat)(β:Bd)(H:aj)(aM:Bd)(H':aj):Prop where
 box:∀b,b<N->aI H (b,0)->mX H' b->mX H b/\aM.an b=β.an b
 it:∀b,b<N->aI H (b,0)->mY H' b->mY H b/\aM.an b=β.an b
 map:∀b,b<N->aI H (b,0)->ot H' b->ot H b/\aM.an b=β.an b
 arr:∀b aC ai k es,b<N->aI H (b,aC)->fh H' b aC ai k es->∃k0 gS,fh H b aC ai k0 gS/\gS.length<=es.length/\(dc k es↔dc k0 gS)/\(¬dc k es->aM.an b=β.an b/\aM.cap b=β.cap b)
 loop:∀b,b<N->aI H (b,0)->ib H' b->ib H b/\aM.an b=β.an b
theorem cw.n{N:Nat}{β:Bd}{H:aj}{aM:Bd}{H':aj}(h:cw β H aM H'):pT N β H aM H':=
 ⟨fun b _=>h.box b,fun b _=>h.it b,fun b _=>h.map b,fun b aC ai k es _=>h.arr b aC ai k es,fun b _=>h.loop b⟩
theorem pT.full{β:Bd}{H:aj}{aM:Bd}{H':aj}(h:pT H.length β H aM H'):cw β H aM H':=by
 have lt:∀b v,aI H (b,v)->b<H.length:=fun b v⟨o,c,_⟩=>(hw.1 c).1;exact⟨fun b x=>h.box b (lt _ _ x) x,fun b x=>h.it b (lt _ _ x) x,fun b x=>h.map b (lt _ _ x) x,fun b aC ai k a x=>h.arr b aC ai k a (lt _ _ x) x,fun b x=>h.loop b (lt _ _ x) x⟩
theorem pT.trans{N:Nat}{β i j:Bd}{H H1 g:aj}(h:pT N β H i H1)(hi:∀x,x.1<N->aI H x->aI H1 x)(f:pT N i H1 j g):pT N β H j g:=by
 refine⟨?_,?_,?_,?_,?_⟩
 ·intro b a c e;obtain⟨a1,a2⟩:=f.box b a (hi (b,0) a c) e;obtain⟨b1,d⟩:=h.box b a c a1;exact⟨b1,a2.trans d⟩
 ·intro b a c e;obtain⟨a1,a2⟩:=f.it b a (hi (b,0) a c) e;obtain⟨b1,d⟩:=h.it b a c a1;exact⟨b1,a2.trans d⟩
 ·intro b a c e;obtain⟨a1,a2⟩:=f.map b a (hi (b,0) a c) e;obtain⟨b1,d⟩:=h.map b a c a1;exact⟨b1,a2.trans d⟩
 ·intro b aC ai k n a c e;obtain⟨k1,o,a1,a2,a3,a4⟩:=f.arr b aC ai k n a (hi (b,aC) a c) e;obtain⟨k0,gS,b1,d,l,m⟩:=h.arr b aC ai k1 o a c a1;refine⟨k0,gS,b1,i1 d a2,a3.trans l,fun a=>?_⟩;obtain⟨c1,c2⟩:=a4 a;obtain⟨d1,d2⟩:=m (fun x=>a (a3.2 x));exact⟨c1.trans d1,c2.trans d2⟩
 ·intro b a c e;obtain⟨a1,a2⟩:=f.loop b a (hi (b,0) a c) e;obtain⟨b1,d⟩:=h.loop b a c a1;exact⟨b1,a2.trans d⟩
structure dM(N:Nat)(ah ad:Nat->Prop)(w:dg)(β:Bd)(H:aj)(kA aH:Nat->Prop)(w':dg)(aM:Bd)(H':aj):Prop where
 eM:∀k,ah k->kA k
 bS:∀k,ad k->aH k
 fresh:∀k,aH k->ad k\/¬ah k
 ext:Ext ah ad w w'
 step:pT N β H aM H'
 fS:∀x,x.1<N->aI H x->aI H' x
 loop:∀b,b<N->ib H b->ib H' b
theorem dM.refl(N:Nat)(ah ad:Nat->Prop)(w:dg)(β:Bd)(H:aj):dM N ah ad w β H ah ad w β H:=
 ⟨fun _ h=>h,fun _ h=>h,fun _ h=>.inl h,Ext.refl _ _ _,(cw.refl _ _).n,fun _ _ h=>h,fun _ _ h=>h⟩
theorem Ext.trans{ah ad kA aH:Nat->Prop}{w w1 b:dg}(c:∀k,ah k->kA k)(hi:∀k,ad k->aH k)(h:Ext ah ad w w1)(a:Ext kA aH w1 b):Ext ah ad w b:=
 ⟨i1 h.size a.size,fun k hk=>(a.same k (hk.imp (c k) (hi k))).trans (h.same k hk),a.io.1.trans h.io.1,a.io.2.trans h.io.2⟩
theorem dM.trans{N:Nat}{ah ad g e i f:Nat->Prop}{w w1 j:dg}{β l m:Bd}{H H1 d:aj}(h:dM N ah ad w β H g e w1 l H1)(a:dM N g e w1 l H1 i f j m d):dM N ah ad w β H i f j m d:=
 ⟨fun k x=>a.eM k (h.eM k x),fun k x=>a.bS k (h.bS k x),fun k x=>(a.fresh k x).elim (fun y=>h.fresh k y) (fun y=>.inr fun z=>y (h.eM k z)),h.ext.trans h.eM h.bS a.ext,
  h.step.trans h.fS a.step,fun x c hx=>a.fS x c (h.fS x c hx),fun b c n=>a.loop b c (h.loop b c n)⟩
theorem bZ.fo{P:da}{N:Nat}{ah ad aH:Nat->Prop}{w w':dg}{β aM:Bd}{H H':aj}(h:bZ P ah ad w β H aH w' aM H'):dM N ah ad w β H ah aH w' aM H':=
 ⟨fun _ x=>x,h.bS,h.fresh,h.ext,h.step.n,fun x _=>h.fS x,fun b _=>h.loop b⟩
section
variable{P:da}{ah ad aH:Nat->Prop}{w w':dg}{β aM:Bd}{H H':aj}
theorem fC.yE(a:w'.heap=w.heap){b:Nat}{o:Obj}(h:fC P w ad β H ah b o)(g:o.refs (aI H)):fC P w' ad β H ah b o:=by
 have p:=fun(v:AV) cs m=>bn.mono (P:=P) (w:=w) (w':=w') (ad:=ad) (aH:=ad) (β:=β) (aM:=β) (H:=H) (H':=H) (fun _ x=>x) (fun k _=>by rw[a]) (cw.refl β H) v cs m;have q:=fun l(v:List AV) cs m=>bM.mono (P:=P) (w:=w) (w':=w') (ad:=ad) (aH:=ad) (β:=β) (aM:=β) (H:=H) (H':=H) (fun _ x=>x) (fun k _=>by rw[a]) (cw.refl β H) l v cs m;have r:=fun(i:List (PV×PV)) f=>cF.mono (P:=P) (w:=w) (w':=w') (ad:=ad) (aH:=ad) (fun _ x=>x) (fun k _=>by rw[a]) i f;cases o with
 |hole=>trivial
 |dead=>trivial
 |box fz t=>
  obtain⟨cs,T,c,d,e⟩:=h;exact⟨cs,T,by rw[a];exact c,p _ _ g d,e⟩
 |arr k aC ai i=>
  rcases h with h|⟨cs,T,n,rest,c,d,e⟩
  ·exact .inl h
  ·exact .inr ⟨cs,T,n,rest,by rw[a];exact c,q _ _ _ g d,e⟩
 |map fz i=>
  obtain⟨f,clock,c,d,e⟩:=h;exact⟨f,clock,by rw[a];exact c,r _ _ d,e⟩
 |cZ ks vs=>
  obtain⟨f,clock,c,d,e,j⟩:=h;exact⟨f,clock,by rw[a];exact c,br.mono (fun _ x=>x) (fun _ _=>by rw[a]) _ _ d,bw.mono (fun _ x=>x) (fun _ _=>by rw[a]) (cw.refl _ _) _ _ g e,j⟩
 |dw s pos=>
  obtain⟨bs,c,d⟩:=h;exact⟨bs,by rw[a];exact c,d⟩
 |loop L=>
  obtain⟨tmps,defers,fn,c,d,e,j⟩:=h;exact⟨tmps,defers,fn,by rw[a];exact c,d,fun x=>aD.mono (fun _ x=>x) (fun _ _=>by rw[a]) (cw.refl _ _) _ _ (g x) (e x),j⟩
theorem b7.yE(a:w'.heap=w.heap)(h:b7 P w ad β H ah):b7 P w' ad β H ah:=
 ⟨fun b o c=>(h.cK b o c).yE a (h.refs b o c),h.inj,h.refs,fun k hk=>by rw[a];exact h.bS k hk,fun k hk=>by rw[a];exact h.eM k hk,h.jg.mono (fun _ x=>x) (fun _ _=>by rw[a])⟩
theorem b7.om(h:b7 P w ad β H ah){b:Nat}{o:Obj}(f:H[b]?=some o)(d:o.live):β.an b<w.heap.size:=by
 have c:=h.cK b o f;cases o with
 |hole=>exact d.elim
 |dead=>exact d.elim
 |box fz t=>obtain⟨cs,T,a,_⟩:=c;exact(bl.1 a).1
 |arr k aC ai es=>
  rcases c with c|⟨cs,T,g,rest,a,_⟩
  ·exact(d c).elim
  ·exact(bl.1 a).1
 |map fz es=>obtain⟨e,clock,a,_⟩:=c;exact(bl.1 a).1
 |cZ ks vs=>obtain⟨e,clock,a,_⟩:=c;exact(bl.1 a).1
 |dw s pos=>obtain⟨bs,a,_⟩:=c;exact(bl.1 a).1
 |loop L=>obtain⟨_,_,_,a,_⟩:=c;exact(bl.1 a).1
theorem bZ.set{b:Nat}{o':Obj}(i:b7 P w ad β H ah)(r:b<H.length)(n:∀x,x≠b->aM.an x=β.an x/\aM.cap x=β.cap x)
 (g:∀k,ad k->aH k)(Q:∀k,aH k->ad k\/(k=aM.an b/\o'.live))(ag:∀k,aH k->k<w'.heap.size)
 (V:w.heap.size<=w'.heap.size)(J:∀k,(k≠aM.an b\/¬o'.live)->k<w.heap.size->w'.heap[k]?=w.heap[k]?)
 (F:o'.live->w.heap.size<=aM.an b\/(aM.an b=β.an b/\(∃o,H[b]?=some o/\o.live)/\((∀k,k=β.an b->w'.heap[k]?=w.heap[k]?)\/¬ad (β.an b))/\¬ah (β.an b)))
 (aN:cw β H aM (H.set b o'))(ak:fC P w' aH aM (H.set b o') ah b o')(am:o'.refs (aI (H.set b o')))(aj:∀(o:Obj)(v:Nat),H[b]?=some o->o.has v->o'.has v)(af:∀L,H[b]?=some (.loop L)->∃C,o'=.loop C)(ae:w'.os=w.os/\w'.output=w.output:=by exact⟨rfl,rfl⟩):
 bZ P ah ad w β H aH w' aM (H.set b o'):=by
 have A:∀x o,x≠b->H[x]?=some o->o.live->¬ad (β.an x)->o'.live->β.an x≠aM.an b:=by
  intro x o hx d e j u he;rcases F u with a|⟨a,⟨an,c,f⟩,_⟩
  ·have:=i.om d e;omega
  ·rw[a]at he;exact hx (i.inj x b o an d c e f j he)
 have U:o'.live->¬ah (aM.an b):=by
  intro e G;rcases F e with a|⟨a,_,_,c⟩
  ·have:=i.eM _ G;omega
  ·rw[a]at G;exact c G
 have l:∀k,ah k\/ad k->w'.heap[k]?=w.heap[k]?:=by
  intro k hk;have R:k<w.heap.size:=hk.elim (i.eM k) (i.bS k)
  by_cases z:k=aM.an b
  ·by_cases e:o'.live
   ·rcases hk with hk|hk
    ·exact(U e (z▸hk)).elim
    ·rcases F e with a|⟨a,_,c,_⟩
     ·omega
     ·rcases c with c|c
      ·exact c k (z.trans a)
      ·exact(c (by rw[<-a,<-z];exact hk)).elim
   ·exact J k (.inr e) R
  ·exact J k (.inl z) R
 have al:∀x,aI H x->aI (H.set b o') x:=by
  rintro⟨x,v⟩ ⟨o,d,S⟩
  by_cases hx:x=b
  ·subst hx;exact⟨o',by simp[hA r],aj o v d S⟩
  ·exact⟨o,by simp only;rw[hB (i7 hx)];exact d,S⟩
 have hrefs:∀v,aG (aI H) v->aG (aI (H.set b o')) v:=aG.mono al;refine⟨g,fun k hk=>(Q k hk).imp id (fun(h:k=aM.an b/\o'.live)=>h.1▸U h.2),⟨V,l,ae⟩,aN,⟨?_,?_,?_,ag,fun k hk=>i3 (i.eM k hk) V,i.jg.mono g (fun k hk=>l k (.inr hk))⟩,al,?_⟩
 ·intro x o d
  by_cases hx:x=b
  ·subst hx;rw[hA r]at d;cases d;exact ak
  ·rw[hB (i7 hx)]at d;have m:=i.cK x o d;have B:=i.refs x o d;have O:=(n x hx).1;have E:=(n x hx).2;have hs:o.live->w'.heap[aM.an x]?=w.heap[β.an x]?:=by
    intro e;rw[O]
    by_cases j:ad (β.an x)
    ·exact l _ (.inr j)
    refine J _ ?_ (i.om d e)
    by_cases u:o'.live
    ·exact .inl (A x o hx d e j u)
    ·exact .inr u
   have held:∀fz,o.live->cE ad β ah fz x->cE aH aM ah fz x:=by
    intro fz e q;unfold cE at q⊢;rw[O];cases fz with
    |true=>simp only[if_true]at q⊢;exact g _ q
    |false=>
     simp only[cy,if_false]at q⊢;refine⟨fun h=>?_,q.2⟩;rcases Q _ h with h|⟨h,u⟩
     ·exact q.1 h
     ·exact A x o hx d e q.1 u h
   cases o with
   |hole=>trivial
   |dead=>trivial
   |box fz t=>
    obtain⟨cs,T,a,c,f,p⟩:=m;exact⟨cs,T,(hs trivial).trans a,bn.mono g (fun k hk=>l k (.inr hk)) aN _ _ B c,held _ trivial f,p⟩
   |arr k aC ai es=>
    rcases m with m|⟨cs,T,Y,rest,a,c,f,p,Z,aa,ab,ac⟩
    ·exact .inl m
    ·by_cases e:dc k es
     ·exact .inl e
     ·refine .inr ⟨cs,T,Y,rest,(hs e).trans a,bM.mono g (fun k hk=>l k (.inr hk)) aN _ _ _ B c,f,?_,?_,?_,held _ e ab,ac⟩
      ·rw[E];exact p
      ·rw[E];exact Z
      ·rw[E];exact aa
   |map fz es=>
    obtain⟨D,clock,a,c,f⟩:=m;exact⟨D,clock,(hs trivial).trans a,cF.mono g (fun k hk=>l k (.inr hk)) _ _ c,held _ trivial f⟩
   |cZ ks vs=>
    obtain⟨D,clock,a,c,f,p⟩:=m;exact⟨D,clock,(hs trivial).trans a,br.mono g (fun k hk=>l k (.inr hk)) _ _ c,bw.mono g (fun k hk=>l k (.inr hk)) aN _ _ B f,held _ trivial p⟩
   |dw s pos=>
    obtain⟨bs,a,c,f⟩:=m;exact⟨bs,(hs trivial).trans a,c,held _ trivial f⟩
   |loop L=>
    obtain⟨tmps,defers,fn,a,c,f,p⟩:=m;exact⟨tmps,defers,fn,(hs trivial).trans a,c,fun x=>aD.mono g (fun k hk=>l k (.inr hk)) aN _ _ (B x) (f x),held _ trivial p⟩
 ·intro x y W X a c K M j he
  by_cases hx:x=b<;>by_cases hy:y=b
  ·rw[hx,hy]
  ·subst hx;rw[hA r]at a;cases a;rw[hB (i7 hy)]at c;rw[(n y hy).1]at he;exact(A y X hy c M (fun hi=>j (he▸g _ hi)) K he.symm).elim
  ·subst hy;rw[hA r]at c;cases c;rw[hB (i7 hx)]at a;rw[(n x hx).1]at he;rw[(n x hx).1]at j;exact(A x W hx a K (fun hi=>j (g _ hi)) M he).elim
  ·rw[hB (i7 hx)]at a;rw[hB (i7 hy)]at c;rw[(n x hx).1,(n y hy).1]at he;rw[(n x hx).1]at j;exact i.inj x y W X a c K M (fun hi=>j (g _ hi)) he
 ·intro x o d
  by_cases hx:x=b
  ·subst hx;rw[hA r]at d;cases d;exact am
  ·rw[hB (i7 hx)]at d;have:=i.refs x o d;cases o with
   |box fz t=>exact hrefs _ this
   |arr k aC ai es=>exact cM.2 fun v I=>hrefs v (cM.1 this v I)
   |cZ ks vs=>exact cM.2 fun v I=>hrefs v (cM.1 this v I)
   |loop L=>exact fun x=>hrefs _ (this x)
   |_=>trivial
 ·rintro x ⟨L,N⟩
  by_cases hx:x=b
  ·subst hx;obtain⟨C,rfl⟩:=af L N;exact⟨C,hA r⟩
  ·exact⟨L,by rw[hB (i7 hx)];exact N⟩
end
end Go.aq
namespace Go.aq
variable[Gl]
def bt(P:da)(o:Oper)(ρ:dl->AV)(a:Nat)(e:aY):Prop:=
 ∀(H:aj)(w:dg)(ad ah:Nat->Prop)(β:Bd)(ρc:dl->c9),
  b7 P w ad β H ah->(∀x∈o.op.operands,aD P w ad β H (ρ x) (ρc x)/\aG (aI H) (ρ x))->(∀p∈e.al,H[p.1]?=some p.2)->(∀i,i<e.aX.length->H[a+i]?=some .hole)->
  ∃n b w' aM aH,(dq ρc o).run P w=.ok n w'/\(n=.value b\/n=.skip/\b=undef)/\
   bZ P ah ad w β H aH w' aM (bc H (e.aK++newAt a e.aX))/\aD P w' aH aM (bc H (e.aK++newAt a e.aX)) e.v b/\
   aG (aI (bc H (e.aK++newAt a e.aX))) e.v
section
variable{P:da}{ah ad aH:Nat->Prop}{w w':dg}{β aM:Bd}{H H':aj}
theorem bZ.refl(h:b7 P w ad β H ah):bZ P ah ad w β H ad w β H:=
 ⟨fun _ x=>x,fun _ x=>.inl x,Ext.refl _ _ _,cw.refl _ _,h,fun _ x=>x,fun _ x=>x⟩
theorem bt.same{o:Oper}{ρ:dl->AV}{c:Nat}{v:AV}{al:List (Nat×Obj)}
 (h:∀(H:aj)(w:dg)(ad ah:Nat->Prop)(β:Bd)(ρc:dl->c9),b7 P w ad β H ah->(∀x∈o.op.operands,aD P w ad β H (ρ x) (ρc x)/\aG (aI H) (ρ x))->
  (∀p∈al,H[p.1]?=some p.2)->∃a,(dq ρc o).run P w=.ok (.value a) w/\aD P w ad β H v a/\aG (aI H) v):
 bt P o ρ c {v,al}:=by
 intro H w ad ah β ρc b i g _;obtain⟨a,d,e,f⟩:=h H w ad ah β ρc b i g;exact⟨_,a,w,β,ad,d,.inl rfl,by simpa[newAt,bc]using bZ.refl b,by simpa[newAt,bc]using e,by simpa[newAt,bc]using f⟩
theorem bZ.trans{g i:Nat->Prop}{w1 l:dg}{m n:Bd}{H1 f:aj}(h:bZ P ah ad w β H g w1 m H1)(c:bZ P ah g w1 m H1 i l n f):bZ P ah ad w β H i l n f:=by
 refine⟨fun k x=>c.bS k (h.bS k x),fun k x=>(c.fresh k x).elim (h.fresh k) .inr,h.ext.trans (fun _ x=>x) h.bS c.ext,⟨?_,?_,?_,?_,?_⟩,c.rel,fun b a=>c.fS b (h.fS _ a),fun b a=>c.loop b (h.loop b a)⟩
 ·intro b a e;obtain⟨a1,a2⟩:=c.step.box b (h.fS _ a) e;obtain⟨b1,d⟩:=h.step.box b a a1;exact⟨b1,a2.trans d⟩
 ·intro b a e;obtain⟨a1,a2⟩:=c.step.it b (h.fS _ a) e;obtain⟨b1,d⟩:=h.step.it b a a1;exact⟨b1,a2.trans d⟩
 ·intro b a e;obtain⟨a1,a2⟩:=c.step.map b (h.fS _ a) e;obtain⟨b1,d⟩:=h.step.map b a a1;exact⟨b1,a2.trans d⟩
 ·intro b aC ai k q a e;obtain⟨k1,r,a1,a2,a3,a4⟩:=c.step.arr b aC ai k q (h.fS _ a) e;obtain⟨k0,gS,b1,d,o,p⟩:=h.step.arr b aC ai k1 r a a1;refine⟨k0,gS,b1,i1 d a2,a3.trans o,fun j=>?_⟩;obtain⟨c1,c2⟩:=a4 j;obtain⟨d1,d2⟩:=p (fun x=>j (a3.2 x));exact⟨c1.trans d1,c2.trans d2⟩
 ·intro b a e;obtain⟨a1,a2⟩:=c.step.loop b (h.fS _ a) e;obtain⟨b1,d⟩:=h.step.loop b a a1;exact⟨b1,a2.trans d⟩
theorem vg(H:aj)(l r:List (Nat×Obj)):bc H (l++r)=bc (bc H l) r:=by
 induction l generalizing H with
 |nil=>rfl
 |cons p l a=>obtain⟨b,o⟩:=p;simp[bc,a]
theorem pg(H:aj)(l:List (Nat×Obj)):(bc H l).length=H.length:=by
 induction l generalizing H with
 |nil=>rfl
 |cons p l a=>obtain⟨b,o⟩:=p;simp[bc,a]
theorem ye(H T:aj)(l:List (Nat×Obj))(h:∀p∈l,p.1<H.length):bc (H++T) l=bc H l++T:=by
 induction l generalizing H with
 |nil=>rfl
 |cons p l c=>
  obtain⟨b,o⟩:=p;have a:b<H.length:=h (b,o) s_;simp only[bc];rw[List.set_append_left _ _ a,c];intro q hq;rw[h7];exact h q (by simp[hq])
theorem B7(H:aj)(l:List Obj):bc (H++hz l.length .hole) (newAt H.length l)=H++l:=by
 induction l generalizing H with
 |nil=>simp[newAt,bc]
 |cons o l a=>
  simp only[newAt,bc,hR,hN];rw[h2 _ _ (ip _)];simp only[Nat.sub_self,h3];have:=a (H++[o]);simp only[hT,List.length_singleton,hG,List.singleton_append]at this;exact this
theorem lJ(H:aj)(m b:Nat):(H++hz m Obj.hole)[b]?=if b<H.length then H[b]? else if b<H.length+m then some .hole else none:=by
 by_cases h:b<H.length
 ·simp[h,hK]
 ·rw[hO o_];simp only[hF,h,if_false]
  by_cases a:b<H.length+m
  ·simp[a,show b-H.length<m by omega]
  ·simp[a,show¬(b-H.length<m)by omega]
theorem nK{H:aj}{m b:Nat}{o:Obj}(h:(H++hz m Obj.hole)[b]?=some o):H[b]?=some o\/o=.hole:=by
 rw[lJ]at h
 split at h
 ·exact .inl h
 ·split at h
  ·exact .inr (by simpa using h.symm)
  ·simp at h
theorem nX(H:aj)(m:Nat)(b:Nat×Nat)(h:aI H b):aI (H++hz m Obj.hole) b:=by
 obtain⟨o,a,d⟩:=h;have c:b.1<H.length:=(hw.1 a).1;exact⟨o,by rw[lJ,if_pos c];exact a,d⟩
theorem qL(β:Bd)(H:aj)(m:Nat):cw β H β (H++hz m .hole):=by
 refine⟨?_,?_,?_,?_,?_⟩
 ·rintro b _ ⟨fz,t,h⟩;rcases nK h with h|h<;>simp_all [mX]
 ·rintro b _ ⟨fz,t,h⟩;rcases nK h with h|h<;>simp_all [mY]
 ·rintro b _ ⟨o,h,a⟩;rcases nK h with h|rfl
  ·exact⟨⟨o,h,a⟩,rfl⟩
  ·exact a.elim
 ·intro b aC ai k c _ h;rcases nK h with h|h
  ·exact⟨k,c,h,ip _,hv,fun _=>⟨rfl,rfl⟩⟩
  ·simp at h
 ·rintro b _ ⟨L,h⟩;rcases nK h with h|h<;>simp_all [ib]
theorem Obj.yF{S T:Nat×Nat->Prop}(h:∀x,S x->T x):∀{o:Obj},o.refs S->o.refs T
 | .box _ t,a=>aG.mono h t a
 | .arr _ _ _ es,a=>aV.mono h es a
 | .cZ _ vs,a=>aV.mono h vs a
 | .loop _L,a=>fun x=>aG.mono h _ (a x)
 | .hole,_| .dead,_| .map _ _,_| .dw _ _,_=>trivial
theorem b7.qd(m:Nat)(h:b7 P w ad β H ah):b7 P w ad β (H++hz m .hole) ah:=by
 refine⟨?_,?_,?_,h.bS,h.eM,h.jg⟩
 ·intro b o d;rcases nK d with d|rfl
  ·have e:=h.cK b o d;have g:=h.refs b o d;have st:=qL β H m;cases o with
   |hole=>trivial
   |dead=>trivial
   |box fz t=>
    obtain⟨cs,T,a,c,f⟩:=e;exact⟨cs,T,a,bn.mono (fun _ x=>x) (fun _ _=>rfl) st _ _ g c,f⟩
   |arr k aC ai es=>
    rcases e with e|⟨cs,T,n,rest,a,c,f⟩
    ·exact .inl e
    ·exact .inr ⟨cs,T,n,rest,a,bM.mono (fun _ x=>x) (fun _ _=>rfl) st _ _ _ g c,f⟩
   |map fz es=>exact e
   |cZ ks vs=>
    obtain⟨p,clock,a,c,f,i⟩:=e;exact⟨p,clock,a,c,bw.mono (fun _ x=>x) (fun _ _=>rfl) st _ _ g f,i⟩
   |dw s pos=>exact e
   |loop L=>
    obtain⟨tmps,defers,fn,a,c,f,i⟩:=e;exact⟨tmps,defers,fn,a,c,fun x=>aD.mono (fun _ x=>x) (fun _ _=>rfl) st _ _ (g x) (f x),i⟩
  ·trivial
 ·intro x y u v a c j l r q;rcases nK a with a|rfl
  ·rcases nK c with c|rfl
   ·exact h.inj x y u v a c j l r q
   ·exact l.elim
  ·exact j.elim
 ·intro b o d;rcases nK d with d|rfl
  ·exact Obj.yF (nX H m) (h.refs b o d)
  ·trivial
theorem bt.use{o:Oper}{ρ:dl->AV}{e:aY}(h:bt P o ρ H.length e){ρc:dl->c9}(k:b7 P w ad β H ah)
 (c:∀x∈o.op.operands,aD P w ad β H (ρ x) (ρc x)/\aG (aI H) (ρ x))(al:∀p∈e.al,H[p.1]?=some p.2)(aK:∀p∈e.aK,p.1<H.length):
 ∃n a w' aM aH,(dq ρc o).run P w=.ok n w'/\(n=.value a\/n=.skip/\a=undef)/\
  bZ P ah ad w β H aH w' aM (bc H e.aK++e.aX)/\aD P w' aH aM (bc H e.aK++e.aX) e.v a/\aG (aI (bc H e.aK++e.aX)) e.v:=by
 have aN:=qL β H e.aX.length;obtain⟨n,a,w',aM,aH,m,q,d,f,g⟩:=h (H++hz e.aX.length .hole) w ad ah β ρc (k.qd _)
  (fun x hx=>⟨aD.mono (fun _ x=>x) (fun _ _=>rfl) aN _ _ (c x hx).2 (c x hx).1,aG.mono (nX _ _) _ (c x hx).2⟩)
  (fun p s=>by have:=al p s;rw[lJ,if_pos (hw.1 this).1];exact this)
  (fun i hi=>by rw[lJ,if_neg o_,if_pos o_])
 have r:bc (H++hz e.aX.length .hole) (e.aK++newAt H.length e.aX)=bc H e.aK++e.aX:=by
  rw[vg,ye _ _ _ aK];have:=B7 (bc H e.aK) e.aX
  rwa [pg]at this
 rw[r]at d f g;refine⟨n,a,w',aM,aH,m,q,?_,f,g⟩;have l:bZ P ah ad w β H ad w β (H++hz e.aX.length .hole):=⟨fun _ x=>x,fun _ x=>.inl x,Ext.refl _ _ _,aN,k.qd _,nX _ _,fun b⟨L,j⟩=>⟨L,by rw[lJ,if_pos (hw.1 j).1];exact j⟩⟩
 exact l.trans d
theorem sq.use{f:dz}{args:List AV}{e:aY}(h:sq P f args H.length e)(m:oM H e){c:List c9}(n:b7 P w ad β H ah)(r:bw P w ad β H args c)(o:aV (aI H) args):
 ew P f c.toArray w fun x w'=>∃a aM aH,x=.returned a/\bZ P ah ad w β H aH w' aM (bc H e.aK++e.aX)/\aD P w' aH aM (bc H e.aK++e.aX) e.v a/\aG (aI (bc H e.aK++e.aX)) e.v:=by
 have aN:=qL β H e.aX.length;refine(h.2 (H++hz e.aX.length .hole) w ad ah β c (n.qd _)
  (bw.mono (fun _ x=>x) (fun _ _=>rfl) aN _ _ o r) (aV.mono (nX _ _) _ o)
  (fun p d=>by have:=m.1 p d;rw[lJ,if_pos (hw.1 this).1];exact this)
  (fun i hi=>by rw[lJ,if_neg o_,if_pos o_])).mono ?_
 rintro x w' ⟨a,aM,aH,rfl,g,j,k⟩;have s:bc (H++hz e.aX.length .hole) (e.aK++newAt H.length e.aX)=bc H e.aK++e.aX:=by
  rw[vg,ye _ _ _ (fun p d=>(m.2 p d).1)];have:=B7 (bc H e.aK) e.aX
  rwa [pg]at this
 rw[s]at g j k;have q:bZ P ah ad w β H ad w β (H++hz e.aX.length .hole):=⟨fun _ x=>x,fun _ x=>.inl x,Ext.refl _ _ _,aN,n.qd _,nX _ _,fun b⟨L,l⟩=>⟨L,by rw[lJ,if_pos (hw.1 l).1];exact l⟩⟩
 exact⟨a,aM,aH,rfl,q.trans g,j,k⟩
end
def l8(P:da)(ag:dz->Bool):Prop:=
 ∀(o:Oper)(ρ:dl->AV)(H:aj)(K:aY->Prop),(∀v,ρ (.const v)=.p (ofConst v))->fG P ag o ρ H K->
  ∃e,K e/\bt P o ρ H.length e/\(∀p∈e.al,H[p.1]?=some p.2)/\(∀p∈e.aK,p.1<H.length/\p.2≠.hole)
section
variable{P:da}{ag:dz->Bool}{n:Nat}
theorem Jb{w:dg}{ad:Nat->Prop}(v:c9):aF P w ad (ofConst v) v:=by
 unfold ofConst
 split<;>simp[aF]
theorem ov{ah ad:Nat->Prop}{β:Bd}{s:St}{t:Array c9}{w:dg}(h:cN P n ah ad β s t w)(x:dl):
 aD P w ad β s.heap (ev s.env x) (fH t x)/\aG (aI s.heap) (ev s.env x):=by
 cases x with
 |tmp x=>exact⟨h.env x,h.gR x⟩
 |const v=>exact⟨by simp only[ev,fH,aD];exact Jb v,by simp[ev,aG]⟩
 |global g=>exact⟨by simp only[ev,fH,aD];exact h.heap.jg.val g,by simp[ev,aG]⟩
 |func f=>exact⟨by simp[ev,fH,aD,aF,br],by simp[ev,aG]⟩
def jc(n:Nat)(o:Oper):Bool:=
 match o.dst with
 |some d=>decide (d<n)
 |none=>true
theorem vw(e:Env)(dst:Option Tmp)(v:AV)(x:Nat):aP (put dst v e) x=if dst=some x then v else aP e x:=by
 cases dst with
 |none=>simp[put]
 |some d=>
  simp only[put,aP,jp]
  by_cases h:x=d
  ·simp[h]
  ·simp[h,i7 h]
theorem Xt{n:Nat}{o:Oper}(a:jc n o=true){t:Array c9}(c:t.size=n)(v:c9)(x:Nat):(nE o.dst v t).getD x undef=if o.dst=some x then v else t.getD x undef:=by
 unfold jc at a;cases b:o.dst with
 |none=>simp[nE]
 |some d=>
  simp only[b,decide_eq_true_eq]at a;simp only[nE,jp]
  by_cases h:d=x
  ·subst h;simp[c,a]
  ·simp only[h,if_false,bp,bW h]
theorem W7{t:Array c9}(dst:Option Tmp)(v:c9):(nE dst v t).size=t.size:=by cases dst<;>simp[nE]
theorem cN.put{ah ad aH:Nat->Prop}{β aM:Bd}{s:St}{H':aj}{t:Array c9}{w w':dg}{o:Oper}{v:AV}{b:c9}(h:cN P n ah ad β s t w)(c:jc n o=true)
 (a:bZ P ah ad w β s.heap aH w' aM H')(e:aD P w' aH aM H' v b)(d:aG (aI H') v):
 cN P n ah aH aM ⟨put o.dst v s.env,H'⟩ (nE o.dst b t) w':=by
 refine⟨a.rel,fun x=>?_,fun x=>?_,by rw[W7];exact h.size⟩
 ·rw[vw,Xt c h.size]
  split
  ·exact e
  ·exact aD.mono a.bS (fun k hk=>a.ext.same k (.inr hk)) a.step _ _ (h.gR x) (h.env x)
 ·rw[vw]
  split
  ·exact d
  ·exact aG.mono a.fS _ (h.gR x)
theorem KP{H T:aj}{b:Nat×Nat}(h:aI H b):aI (H++T) b:=by
 obtain⟨o,a,c⟩:=h;exact⟨o,by rw[hK (hw.1 a).1];exact a,c⟩
theorem b7.later{ah ad aH:Nat->Prop}{w w':dg}{β:Bd}{H:aj}(h:b7 P w ad β H ah)(e:∀k,ad k->aH k)(hf:∀k,aH k->ad k\/w.heap.size<=k)
 (B:∀k,aH k->k<w'.heap.size)(q:w.heap.size<=w'.heap.size)(hs:∀k,k<w.heap.size->w'.heap[k]?=w.heap[k]?)(A:w'.os=w.os/\w'.output=w.output:=by exact⟨rfl,rfl⟩):bZ P ah ad w β H aH w' β H:=by
 have same:∀k,ad k->w'.heap[k]?=w.heap[k]?:=fun k hk=>hs k (h.bS k hk);refine⟨e,fun k hk=>(hf k hk).imp id (fun c a=>by have:=h.eM k a;omega),⟨q,fun k hk=>hs k (hk.elim (h.eM k) (h.bS k)),A⟩,cw.refl _ _,?_,fun _ x=>x,fun _ x=>x⟩;refine⟨fun b o m=>?_,fun b b' o o' c a D E C=>h.inj b b' o o' c a D E (fun hi=>C (e _ hi)),h.refs,B,fun k hk=>i3 (h.eM k hk) q,h.jg.mono e same⟩;have f:=h.cK b o m;have n:=h.refs b o m;have held:∀fz,o.live->cE ad β ah fz b->cE aH β ah fz b:=by
  intro fz i l;have:=h.om m i;unfold cE at l⊢;cases fz with
  |true=>exact e _ l
  |false=>exact⟨fun x=>(hf _ x).elim l.1 o_,l.2⟩
 have j:o.live->w'.heap[β.an b]?=w.heap[β.an b]?:=fun i=>hs _ (h.om m i);cases o with
 |hole=>trivial
 |dead=>trivial
 |box fz t=>
  obtain⟨cs,T,c,a,d,g⟩:=f;exact⟨cs,T,(j trivial).trans c,bn.mono e same (cw.refl _ _) _ _ n a,held _ trivial d,g⟩
 |arr k aC ai es=>
  rcases f with f|⟨cs,T,r,rest,c,a,d,g,u,v,y,z⟩
  ·exact .inl f
  ·by_cases i:dc k es
   ·exact .inl i
   ·exact .inr ⟨cs,T,r,rest,(j i).trans c,bM.mono e same (cw.refl _ _) _ _ _ n a,d,g,u,v,held _ i y,z⟩
 |map fz es=>
  obtain⟨p,clock,c,a,d⟩:=f;exact⟨p,clock,(j trivial).trans c,cF.mono e same _ _ a,held _ trivial d⟩
 |cZ ks vs=>
  obtain⟨p,clock,c,a,d,g⟩:=f;exact⟨p,clock,(j trivial).trans c,br.mono e same _ _ a,bw.mono e same (cw.refl _ _) _ _ n d,held _ trivial g⟩
 |dw s pos=>
  obtain⟨bs,c,a,d⟩:=f;exact⟨bs,(j trivial).trans c,a,held _ trivial d⟩
 |loop L=>
  obtain⟨tmps,defers,fn,c,a,d,g⟩:=f;exact⟨tmps,defers,fn,(j trivial).trans c,a,fun x=>aD.mono e same (cw.refl _ _) _ _ (n x) (d x),held _ trivial g⟩
theorem pj{w:dg}{ad:Nat->Prop}{β:Bd}{H:aj}:∀{a b:List AV}{x y:List c9},bw P w ad β H a x->bw P w ad β H b y->bw P w ad β H (a++b) (x++y)
 |[],b,x,y,h,c=>by simp only[bw]at h;subst h;simpa using c
 |v::a,b,x,y,h,c=>by
  simp only[bw]at h;obtain⟨z,f,rfl,d,e⟩:=h;simp only[hU,bw];exact⟨z,f++y,rfl,d,pj e c⟩
theorem jY{S:Nat×Nat->Prop}{a b:List AV}(h:aV S a)(d:aV S b):aV S (a++b):=by
 rw[cM]at*;intro v c;rcases hS.1 c with c|c
 ·exact h v c
 ·exact d v c
theorem vy{ah ad:Nat->Prop}{β:Bd}{s:St}{t:Array c9}{w:dg}(h:cN P n ah ad β s t w):∀l:List dl,
 bw P w ad β s.heap (l.map (ev s.env)) (l.map (fH t))/\aV (aI s.heap) (l.map (ev s.env))
 |[]=>by simp[bw,aV]
 |x::l=>by
  have a:=ov h x;have b:=vy h l;simp only[hM,bw,aV];exact⟨⟨_,_,rfl,a.1,b.1⟩,a.2,b.2⟩
end
section
variable{P:da}{w:dg}{ad ah:Nat->Prop}{β:Bd}{H:aj}
def Bd.at(β:Bd)(b an cap:Nat):Bd:=⟨fun x=>if x=b then an else β.an x,fun x=>if x=b then cap else β.cap x⟩
theorem yL{b:Nat}(f:H[b]?=some .hole)(o':Obj)(an cap:Nat):cw β H (β.at b an cap) (H.set b o'):=by
 have a:∀{x v},aI H (x,v)->x≠b:=by
  rintro x v ⟨o,d,i⟩ rfl;simp only at d;rw[f]at d;cases d;exact i
 have c:∀{x v},aI H (x,v)->(H.set b o')[x]?=H[x]?:=fun hx=>hB (i7 (a hx));refine⟨?_,?_,?_,?_,?_⟩
 ·rintro x hx ⟨fz,t,h⟩;rw[c hx]at h;exact⟨⟨fz,t,h⟩,by simp[Bd.at,a hx]⟩
 ·rintro x hx ⟨fz,t,h⟩;rw[c hx]at h;exact⟨⟨fz,t,h⟩,by simp[Bd.at,a hx]⟩
 ·rintro x hx ⟨o,h,g⟩;rw[c hx]at h;exact⟨⟨o,h,g⟩,by simp[Bd.at,a hx]⟩
 ·intro x aC ai k e hx h;unfold fh at h;rw[c hx]at h;exact⟨k,e,h,ip _,hv,fun _=>by simp[Bd.at,a hx]⟩
 ·rintro x hx ⟨L,h⟩;rw[c hx]at h;exact⟨⟨L,h⟩,by simp[Bd.at,a hx]⟩
theorem tE(e:b7 P w ad β H ah){a:Nat}(b:H[a]?=some .hole){ob:Go.Obj}{o':Obj}{cap:Nat}
 (g:fC P {w with heap:=w.heap.push ob} ad (β.at a w.heap.size cap) (H.set a o') ah a o')(h:o'.refs (aI (H.set a o'))):
 bZ P ah ad w β H ad {w with heap:=w.heap.push ob} (β.at a w.heap.size cap) (H.set a o'):=by
 refine bZ.set e (hw.1 b).1 (fun x hx=>by simp[Bd.at,hx]) (fun _ x=>x) (fun _ x=>.inl x) (fun k hk=>by have:=e.bS k hk;simp;omega) s_
  (fun k _ hk=>by simp[b5,i6 hk]) (fun _=>.inl (by simp[Bd.at])) (yL b _ _ _) g h (fun i v c f=>by rw[b]at c;cases c;exact f.elim) (fun L d=>by rw[b]at d;cases d)
theorem vq(w:dg)(a:Go.Obj){k:Nat}(hk:k<w.heap.size):({w with heap:=w.heap.push a}:dg).heap[k]?=w.heap[k]?:=by
 simp[b5,i6 hk]
end
section
variable{P:da}{w:dg}{ad aH ah:Nat->Prop}{β:Bd}{H:aj}
def Row(P:da)(w:dg)(ad:Nat->Prop)(β:Bd)(H:aj)(ai:Nat)(a:List AV)(b:List (List c9)):Prop:=bM P w ad β H (hz a.length ai) a b
theorem iD{ai:Nat}{a:List (List c9)}:Row P w ad β H ai [] a↔a=[]:=by simp[Row,bM]
theorem qV{ai:Nat}{v:AV}{b:List AV}{a:List (List c9)}:Row P w ad β H ai (v::b) a↔∃c cs,a=c::cs/\bn P w ad β H v c/\c.length=ai/\Row P w ad β H ai b cs:=by
 simp[Row,hN,bM]
theorem lI{ai:Nat}:∀{a b:List AV}{d:List (List c9)},Row P w ad β H ai (a++b) d↔∃c1 c2,d=c1++c2/\Row P w ad β H ai a c1/\Row P w ad β H ai b c2
 |[],b,d=>by
  simp only[List.nil_append];constructor
  ·intro h;exact⟨[],d,rfl,iD.2 rfl,h⟩
  ·rintro⟨c1,c2,rfl,e,f⟩;rw[iD.1 e];simpa using f
 |v::a,b,d=>by
  simp only[hU,qV];constructor
  ·rintro⟨c,cs,rfl,e,f,g⟩;obtain⟨c1,c2,rfl,i,j⟩:=lI.1 g;exact⟨c::c1,c2,rfl,⟨c,c1,rfl,e,f,i⟩,j⟩
  ·rintro⟨c1,c2,rfl,⟨c,cs,rfl,e,f,g⟩,i⟩;exact⟨c,cs++c2,rfl,e,f,lI.2 ⟨cs,c2,rfl,g,i⟩⟩
theorem fW{ai:Nat}:∀{b:List AV}{a:List (List c9)},Row P w ad β H ai b a->a.length=b.length/\a.flatten.length=b.length*ai
 |[],a,h=>by rw[iD]at h;subst h;simp
 |v::b,a,h=>by
  rw[qV]at h;obtain⟨c,cs,rfl,f,d,e⟩:=h;have:=fW e;simp only[hR,hP,hT,this,d,i5];exact⟨trivial,o_⟩
theorem mi{ai:Nat}{a:List PV}{b:List (List c9)}:Row P w ad β H ai (a.map .p) b↔bg P w ad (hz a.length ai) a b:=by
 unfold Row;rw[List.length_map];exact nT
theorem jZ{ai:Nat}{d:List AV}{e:List (List c9)}(h:Row P w ad β H ai d e)(off len:Nat)(k:off+len<=d.length):
 ∃a b c,e=a++b++c/\Row P w ad β H ai ((d.drop off).take len) b/\a.flatten.length=off*ai/\Row P w ad β H ai (d.take off) a/\Row P w ad β H ai (d.drop (off+len)) c:=by
 have e1:d=d.take off++((d.drop off).take len++d.drop (off+len)):=by
  rw[<-ih,h1,h1]
 rw[e1,lI]at h;obtain⟨a,r,rfl,f,g⟩:=h;rw[lI]at g;obtain⟨b,c,rfl,i,j⟩:=g;refine⟨a,b,c,s_,i,?_,f,j⟩;have:=(fW f).2;rw[this,List.length_take,ix o_]
theorem mb{cs:Array c9}{T:db}{fz:Nat×Nat}{an:Nat}(a:w.heap[an]?=some (.cells cs T fz)){pre xs post:List c9}(hc:cs.toList=pre++xs++post):
 gZ w an pre.length xs:=by
 intro i hi;have:cs[pre.length+i]?=some xs[i]:=by
  rw[<-bv,hc,hG,hO o_];simp only[i0];rw[hK hi,hD hi]
 simp[ho,a,this]
theorem BS(a:List PV)(off len:Nat):(((a.map AV.p).drop off).take len)=((a.drop off).take len).map .p:=by
 rw[<-List.map_drop,<-List.map_take]
theorem mj{H:aj}{b:Nat}{d o:Obj}(c:H[b]?=some d)(e:∀v,d.has v->o.has v):∀x,aI H x->aI (H.set b o) x:=by
 rintro⟨x,v⟩ ⟨f,a,h⟩
 by_cases hx:b=x
 ·subst hx;simp only at a;rw[c]at a;cases a;exact⟨o,by simp only;rw[hA (hw.1 c).1],e v h⟩
 ·exact⟨f,by simp only;rw[hB hx];exact a,h⟩
theorem qM{b:Nat}{o o':Obj}(m:H[b]?=some o)(hk:(∃f g t,o= .box f t/\o'= .box g t)\/(∃k n v z c,o= .arr k v z c/\o'= .arr n v z c/\¬dc k c/\¬dc n c)\/(∃f g c,o= .map f c/\o'= .map g c)):
 cw β H β (H.set b o'):=by
 have u:b<H.length:=(hw.1 m).1;have i:∀x,x≠b->(H.set b o')[x]?=H[x]?:=fun x hx=>hB (i7 hx);have e:(H.set b o')[b]?=some o':=hA u;refine⟨?_,?_,?_,?_,?_⟩
 ·rintro x _ ⟨fz,t,h⟩;refine⟨?_,rfl⟩
  by_cases hx:x=b
  ·subst hx;rw[e]at h;cases h;rcases hk with⟨f,g,l,d,a⟩|⟨_,_,_,_,_,_,a,_⟩|⟨_,_,_,_,a⟩
   ·exact⟨f,l,by rw[m,d]⟩
   ·cases a
   ·cases a
  ·rw[i x hx]at h;exact⟨fz,t,h⟩
 ·rintro x _ ⟨s,p,h⟩;refine⟨?_,rfl⟩
  by_cases hx:x=b
  ·subst hx;rw[e]at h;cases h;rcases hk with⟨f,g,l,d,a⟩|⟨_,_,_,_,_,_,a,_⟩|⟨_,_,_,_,a⟩<;>cases a
  ·rw[i x hx]at h;exact⟨s,p,h⟩
 ·rintro x _ ⟨w,h,j⟩;refine⟨?_,rfl⟩
  by_cases hx:x=b
  ·subst hx;rw[e]at h;cases h;rcases hk with⟨f,g,l,d,a⟩|⟨_,_,_,_,_,_,a,_⟩|⟨f,g,c,d,a⟩
   ·rw[a]at j;exact j.elim
   ·rw[a]at j;exact j.elim
   ·exact⟨o,m,by rw[d];trivial⟩
  ·rw[i x hx]at h;exact⟨w,h,j⟩
 ·intro x aC ai k c _ h
  by_cases hx:x=b
  ·subst hx;unfold fh at h⊢;rw[e]at h;cases h;rcases hk with⟨f,g,l,d,a⟩|⟨k0,n,v,z,y,d,a,q,r⟩|⟨f,g,c,d,a⟩
   ·cases a
   ·cases a;exact⟨k0,c,by rw[m,d],ip _,⟨fun x=>(r x).elim,fun x=>(q x).elim⟩,fun _=>⟨rfl,rfl⟩⟩
   ·cases a
  ·unfold fh at h⊢;rw[i x hx]at h;exact⟨k,c,h,ip _,hv,fun _=>⟨rfl,rfl⟩⟩
 ·rintro x _ ⟨L,h⟩;refine⟨?_,rfl⟩
  by_cases hx:x=b
  ·subst hx;rw[e]at h;cases h;rcases hk with⟨f,g,l,d,a⟩|⟨_,_,_,_,_,_,a,_⟩|⟨_,_,_,_,a⟩<;>cases a
  ·rw[i x hx]at h;exact⟨L,h⟩
theorem cE.rN{fz:Bool}{b:Nat}(h:cE ad β ah fz b):ad (β.an b)\/(¬ad (β.an b)/\¬ah (β.an b)):=by
 cases fz with
 |true=>exact .inl h
 |false=>exact .inr h
theorem qR(e:b7 P w ad β H ah){b:Nat}{o o':Obj}(f:H[b]?=some o)(r:o.live)(N:o'.live)(A:∀v,o.has v->o'.has v)(u:∀L,o≠ .loop L)
 (aN:cw β H β (H.set b o'))(M:ad (β.an b)\/(¬ad (β.an b)/\¬ah (β.an b)))
 (aX:∀aH:Nat->Prop,(∀k,ad k->aH k)->aH (β.an b)->fC P w aH β (H.set b o') ah b o')(B:o'.refs (aI (H.set b o'))):
 ∃aH,bZ P ah ad w β H aH w β (H.set b o')/\aH (β.an b):=by
 have q:b<H.length:=(hw.1 f).1
 by_cases hi:ad (β.an b)
 ·
  refine⟨ad,?_,hi⟩;have al:=mj f A;refine⟨fun _ x=>x,fun _ x=>.inl x,Ext.refl _ _ _,aN,⟨?_,?_,?_,e.bS,e.eM,e.jg⟩,al,fun x⟨L,j⟩=>⟨L,by
   by_cases hx:b=x
   ·subst hx;rw[f]at j;cases j;exact(u L rfl).elim
   ·rw[hB hx];exact j⟩⟩
  ·intro x l d
   by_cases hx:x=b
   ·subst hx;rw[hA q]at d;cases d;exact aX ad (fun _ x=>x) hi
   ·rw[hB (i7 hx)]at d;have g:=e.cK x l d;have m:=e.refs x l d;cases l with
    |hole=>trivial
    |dead=>trivial
    |box fz t=>
     obtain⟨cs,T,a,c,i⟩:=g;exact⟨cs,T,a,bn.mono (fun _ x=>x) (fun _ _=>rfl) aN _ _ m c,i⟩
    |arr k aC ai es=>
     rcases g with g|⟨cs,T,I,rest,a,c,i⟩
     ·exact .inl g
     ·exact .inr ⟨cs,T,I,rest,a,bM.mono (fun _ x=>x) (fun _ _=>rfl) aN _ _ _ m c,i⟩
    |map fz es=>exact g
    |cZ ks vs=>
     obtain⟨J,clock,a,c,i,p⟩:=g;exact⟨J,clock,a,c,bw.mono (fun _ x=>x) (fun _ _=>rfl) aN _ _ m i,p⟩
    |dw s pos=>exact g
    |loop L=>
     obtain⟨tmps,defers,fn,a,c,i,p⟩:=g;exact⟨tmps,defers,fn,a,c,fun x=>aD.mono (fun _ x=>x) (fun _ _=>rfl) aN _ _ (m x) (i x),p⟩
  ·intro x y E V a c R S O K;have conv:∀(z:Nat)(n:Obj),(H.set b o')[z]?=some n->n.live->∃F:Obj,H[z]?=some F/\F.live:=by
    intro z n C U
    by_cases D:z=b
    ·subst D;exact⟨o,f,r⟩
    ·rw[hB (i7 D)]at C;exact⟨n,C,U⟩
   obtain⟨a1,b1,c1⟩:=conv x E a R;obtain⟨a2,G,c2⟩:=conv y V c S;exact e.inj x y a1 a2 b1 G c1 c2 O K
  ·intro x l d
   by_cases hx:x=b
   ·subst hx;rw[hA q]at d;cases d;exact B
   ·rw[hB (i7 hx)]at d;exact Obj.yF al (e.refs x l d)
 ·refine⟨fun k=>ad k\/k=β.an b,?_,.inr rfl⟩;have Q:=M.resolve_left hi;exact bZ.set e q (fun _ _=>⟨rfl,rfl⟩) (fun _ x=>.inl x) (fun k hk=>hk.imp id (fun h=>⟨h,N⟩)) (fun k hk=>hk.elim (e.bS k) (fun h=>h▸e.om f r)) (ip _)
   (fun _ _ _=>rfl) (fun _=>.inr ⟨rfl,⟨o,f,r⟩,.inl (fun _ _=>rfl),Q.2⟩) aN (aX _ (fun _ x=>.inl x) (.inr rfl)) B (fun E v a c=>by rw[f]at a;cases a;exact A v c) (fun L j=>by rw[f]at j;cases j;exact(u L rfl).elim)
theorem KE{z:AV}{K:PV}{H1:aj}{v:c9}(d:lx H z=some (K,H1))(i:b7 P w ad β H ah)(f:aD P w ad β H z v)(aa:aG (aI H) z):
 ∃aH,bZ P ah ad w β H aH w β H1/\aF P w aH K v:=by
 cases z with
 |p t=>
  simp[lx]at d;obtain⟨rfl,rfl⟩:=d;exact⟨ad,bZ.refl i,by simpa[aD]using f⟩
 |sl b aC ai off len=>
  simp only[lx]at d
  split at d
  case h_2=>simp at d
  rename_i k ab X j g
  split at d
  case isFalse=>simp at d
  rename_i Q;obtain⟨rfl,rfl,Z⟩:=Q;simp only[aD]at f;obtain⟨_,f⟩:=f;simp only[bR]at f;obtain⟨v1,v2,v3⟩:=f k j g
  split at d
  ·rename_i u;simp at d;obtain⟨rfl,rfl⟩:=d;exact⟨ad,bZ.refl i,by simp[aF,v2 u]⟩
  ·rename_i u
   split at d
   case h_2=>simp at d
   rename_i J S;simp at d;obtain⟨rfl,rfl⟩:=d;have A:=mh S;have E:=i.cK b _ g;rcases E with E|⟨cs,T,F,rest,n,l,r,B,M,N,O,Y⟩
   ·exact(u E).elim
   have I:¬dc .frozen j:=fun h=>by cases h.1
   have aN:cw β H β (H.set b (.arr .frozen aC ai j)):=qM g (.inr (.inl ⟨_,_,_,_,_,rfl,rfl,u,I⟩));obtain⟨aH,q,y⟩:=qR i g u (o':=.arr .frozen aC ai j) I (fun _ h=>h) (fun _ h=>by cases h) aN O.rN
    (fun aH hi x=>.inr ⟨cs,T,F,rest,n,bM.mono hi (fun _ _=>rfl) aN _ _ _ (i.refs b _ g) l,r,B,M,(fun h=>by cases h),x,fun _ e C=>(by rw[A]at C;simp at C;obtain⟨a,_,rfl⟩:=C;trivial),fun h=>by cases h⟩)
    (by rw[A];exact iS _ _)
   refine⟨aH,q,?_⟩;rw[v3 u];have U:Row P w aH β H ai j F:=bM.mono q.bS (fun _ _=>rfl) (cw.refl _ _) _ _ _ (i.refs b _ g) l;obtain⟨a,m,c,e1,e2,e3,e4,e5⟩:=jZ U off len v1;rw[A,BS,mi]at e2;have D:((J.drop off).take len).length=len:=by
    have:j.length=J.length:=by rw[A];simp
    simp;omega
   simp only[aF];refine⟨β.an b,off*ai,β.cap b-off,ai,m,e2,fun _=>y,?_,?_,?_,none,.inl rfl,?_⟩
   ·rw[<-e3];exact mb n (post:=c.flatten++rest) (by rw[r,e1];simp)
   ·intro hf;simp at hf;rw[D,N hf.1];omega
   ·rw[D];omega
   ·rw[D]
 |ptr b path=>
  simp only[lx]at d
  split at d
  case h_2=>simp at d
  rename_i fz t g
  split at d
  case h_2=>simp at d
  rename_i s hs;simp at d;obtain⟨rfl,rfl⟩:=d;simp only[aD]at f;obtain⟨_,f⟩:=f;simp only[bR]at f;obtain⟨W,V,o,rfl,R,f⟩:=f;obtain⟨rfl,rfl⟩:=f (.inl ⟨fz,_,g⟩);obtain⟨cs,T,n,l,r,B⟩:=i.cK b _ g;have aN:cw β H β (H.set b (.box true (.p t))):=qM g (.inl ⟨_,_,_,rfl,rfl⟩);obtain⟨aH,q,y⟩:=qR i g trivial (o':=.box true (.p t)) trivial (fun _ h=>h) (fun _ h=>by cases h) aN r.rN
   (fun aH hi x=>⟨cs,T,n,bn.mono hi (fun _ _=>rfl) aN _ _ (by simp[aG]) l,x,fun _=>trivial,B.2⟩) (by simp[Obj.refs,aG])
  refine⟨aH,q,?_⟩;have L:aZ P w aH t cs.toList:=by simp only[bn]at l;exact aZ.mono q.bS (fun _ _=>rfl) _ _ l
  obtain⟨pre,xs,post,e1,e2,e3⟩:=za L hs R;simp only[aF];refine⟨β.an b,V,xs,e3,y,?_,rfl⟩;rw[<-e2];exact mb n e1
 |map b=>
  simp only[lx]at d
  split at d
  case h_2=>simp at d
  rename_i fz j g;simp at d;obtain⟨rfl,rfl⟩:=d;simp only[aD]at f;obtain⟨_,f⟩:=f;simp only[bR]at f;have f:=f.1 ⟨_,g,trivial⟩;obtain⟨G,clock,n,l,r⟩:=i.cK b _ g;have aN:cw β H β (H.set b (.map true j)):=qM g (.inr (.inr ⟨_,_,_,rfl,rfl⟩));obtain⟨aH,q,y⟩:=qR i g trivial (o':=.map true j) trivial (fun _ h=>h) (fun _ h=>by cases h) aN r.rN
   (fun aH hi x=>⟨G,clock,n,cF.mono hi (fun _ _=>rfl) _ _ l,x⟩) trivial
  refine⟨aH,q,?_⟩;simp only[aF];exact⟨β.an b,G,clock,y,n,cF.mono q.bS (fun _ _=>rfl) _ _ l,f⟩
 |cd=>simp[lx]at d
 |func=>simp[lx]at d
 |st=>simp[lx]at d
 |aE=>simp[lx]at d
end
section
variable{P:da}{ag:dz->Bool}{n N:Nat}
theorem Ct{w:dg}{β:Bd}{ah:Nat->Prop}:∀{e:List AV}{g:List PV}{H H1:aj}{ad:Nat->Prop}{vs:List c9},nD H e=some (g,H1)->b7 P w ad β H ah->
 bw P w ad β H e vs->aV (aI H) e->∃aH,bZ P ah ad w β H aH w β H1/\br P w aH g vs
 |[],g,H,H1,ad,vs,b,h,c,_=>by
  simp[nD]at b;obtain⟨rfl,rfl⟩:=b;simp only[bw]at c;exact⟨ad,bZ.refl h,by simpa[br]using c⟩
 |a::e,g,H,H1,ad,vs,b,h,c,f=>by
  simp only[nD]at b
  split at b
  case h_2=>simp at b
  rename_i v o j
  split at b
  case h_2=>simp at b
  rename_i r p k;simp at b;obtain⟨rfl,rfl⟩:=b;simp only[bw]at c;obtain⟨y,n,rfl,k1,k2⟩:=c;simp only[aV]at f;obtain⟨q,d,l⟩:=KE j h k1 f.1;obtain⟨i,q1,m⟩:=Ct k d.rel (bw.mono d.bS (fun _ _=>rfl) d.step _ _ f.2 k2) (aV.mono d.fS _ f.2);refine⟨i,d.trans q1,?_⟩;simp only[br];exact⟨y,n,rfl,aF.mono q1.bS (fun _ _=>rfl) _ _ l,m⟩
def kP(P:da)(n N:Nat)(fr:eb)(k:List Item)(cs:List eb)(c:Array Oper)(ah ad:Nat->Prop)(w:dg)(β:Bd)(H:aj)(m:ej)(r:List Nat)(b:List ea)(K:St->Prop):Prop:=
 ∃s' aH aM a w',K s'/\ee P m (lone (bB fr a b (.inRegion c r::k)) cs w')/\cN P n ah aH aM s' a w'/\dM N ah ad w β H ah aH w' aM s'.heap
theorem Uy{d:Bool}{o:Oper}{K:St->Prop}{s:St}(h:jU P ag d o K s)(c:Call):o.op≠.defer c:=by
 intro hc;unfold jU at h;rw[hc]at h;simp[fG,hc]at h
variable{fr:eb}{k:List Item}{cs:List eb}{ops:Array Oper}{i:Nat}{r:List Nat}{ds:List ea}
theorem JF{d:Bool}{o:Oper}{f:dl}{F:Array dl}{aa:Array db}{g:dz}{fi ca:List AV}{K:St->Prop}{s:St}{ah ad:Nat->Prop}{β:Bd}{t:Array c9}{w:dg}
 (W:o.op=.call {callee:=.value f,args:=F,argTypes:=aa})
 (hf:(ev s.env f=.func g fi ca)\/(∃a b,ev s.env f=.p (.func g a b)/\fi=a.map .p/\ca=b.map .p))
 (h:ie P d g (fi++F.toList.map (ev s.env)++ca) s.heap (fun v H'=>K ⟨put o.dst v s.env,H'⟩))
 (m:cN P n ah ad β s t w)(G:jc n o=true)(C:ops[i]?=some o)(M:gy o (yielded ops t)=true):
 kP P n N fr k cs ops ah ad w β s.heap (lone (bB fr t ds (.inRegion ops (i::r)::k)) cs w) r ds K:=by
 have E:=ov m f;obtain⟨y,u,an,am,ak,ar,aq⟩:∃y u:List c9,fH t f=.func (.func g) y.toArray u.toArray/\bw P w ad β s.heap fi y/\bw P w ad β s.heap ca u/\aV (aI s.heap) fi/\aV (aI s.heap) ca:=by
  rcases hf with hf|⟨a,b,hf,rfl,rfl⟩
  ·rw[hf]at E;simp only[aD,aG]at E;obtain⟨⟨y,u,l,j,z⟩,ac,ae⟩:=E;exact⟨y,u,z,l,j,ac,ae⟩
  ·rw[hf]at E;simp only[aD,aF]at E;obtain⟨⟨y,u,l,j,z⟩,_⟩:=E;exact⟨y,u,z,jN.2 l,jN.2 j,iS _ _,iS _ _⟩
 obtain⟨ag,ai⟩:=vy m F.toList;have D:=pj (pj am ag) ak;have Q:=jY (jY ar ai) aq;have q:(dq (fH t) o).run P w=(callFunc g (y++F.toList.map (fH t)++u).toArray).run P w:=by
  simp only[dq,W,resolve,an,fb,g7,g8,g0,invoke];congr 2;simp
 have L:∀c,o.op≠.defer c:=fun c hc=>by rw[W]at hc;cases hc
 have Z:∀(H1:aj)(B:Nat->Prop)(vs:List PV)(v:PV),bZ P ah ad w β s.heap B w β H1->br P w B vs (y++F.toList.map (fH t)++u)->aB P g vs v->
  K ⟨put o.dst (.p v) s.env,H1⟩->kP P n N fr k cs ops ah ad w β s.heap (lone (bB fr t ds (.inRegion ops (i::r)::k)) cs w) r ds K:=by
  intro H1 B vs v A Y I U;rcases I with⟨R,I⟩|I
  ·rw[R]at q;obtain⟨e,w',S,⟨O,aH,H,g1,g2,g3,g4,g5,ab,g6⟩,aN,V,J⟩:=I w B _ A.rel.bS A.rel.jg Y (bB fr t ds (.inRegion ops (i::r)::k)::cs);subst H;have X:=A.trans (A.rel.later g1 g2 g3 g4 g5 ab);refine⟨_,aH,β,_,w',U,?_,m.put G X (by simpa[aD]using g6) (by simp[aG]),X.fo⟩;rw[<-nL C];exact(hb (vm C M L q)).trans (hd aN (.one (ec J)))
  ·obtain⟨O,l,j⟩:=I w B _ Y;rw[l]at q;exact⟨_,B,β,_,w,U,.one (tf C M L q (.inl rfl)),m.put G A (by simpa[aD]using j) (by simp[aG]),A.fo⟩
 rcases h with⟨vs,v,l,j,z⟩|⟨_,⟨vs,H1,v,l,j,z⟩|⟨H',v,⟨R,l⟩,j⟩|⟨e,T,ap,j⟩|⟨al,v,af,ao,j⟩⟩
 ·exact Z s.heap ad vs v (bZ.refl m.heap) (by rw[l]at D;exact jN.1 D) j z
 ·obtain⟨B,au,av⟩:=Ct l m.heap D Q;exact Z H1 B vs v au av j z
 ·rw[R]at q;obtain⟨e,w',S,⟨O,aM,aH,H,g1,g2,g3⟩,aN,V,J⟩:=l w ad ah β _ m.heap D Q (bB fr t ds (.inRegion ops (i::r)::k)::cs);subst H;refine⟨_,aH,aM,_,w',j,?_,m.put G g1 g2 g3,g1.fo⟩;rw[<-nL C];exact(hb (vm C M L q)).trans (hd aN (.one (ec J)))
 ·rw[T.1]at q;obtain⟨x,w',S,⟨O,aM,aH,H,g1,g2,g3⟩,aN,V,J⟩:=T.use ap m.heap D Q (bB fr t ds (.inRegion ops (i::r)::k)::cs);subst H;refine⟨_,aH,aM,_,w',j,?_,m.put G g1 g2 g3,g1.fo⟩;rw[<-nL C];exact(hb (vm C M L q)).trans (hd aN (.one (ec J)))
 ·obtain⟨O,l,z⟩:=af s.heap w ad ah β _ m.heap D Q ao;rw[l]at q;have A:=bZ.refl m.heap;exact⟨_,ad,β,_,w,j,.one (tf C M L q (.inl rfl)),m.put G A (by simpa[aD]using z) (by simp[aG]),A.fo⟩
end
end Go.aq
namespace Go.aq
variable[Gl]
section
variable{P:da}{ag:dz->Bool}{n N:Nat}
variable{fr:eb}{k:List Item}{cs:List eb}{ops:Array Oper}{i:Nat}{r:List Nat}{ds:List ea}
theorem UQ{o:Oper}{f:dl}{a:Array dl}{p:Array db}{b:Nat}{H':aj}{v:AV}{K:St->Prop}{s:St}{ah ad:Nat->Prop}{β:Bd}{t:Array c9}{w:dg}
 (l:o.op=.call {callee:=.value f,args:=a,argTypes:=p})(hf:ev s.env f=.map b)(m:fx P b s.heap (a.toList.map (ev s.env)) H' v)(x:K ⟨put o.dst v s.env,H'⟩)
 (d:cN P n ah ad β s t w)(A:jc n o=true)(j:ops[i]?=some o)(D:gy o (yielded ops t)=true):
 kP P n N fr k cs ops ah ad w β s.heap (lone (bB fr t ds (.inRegion ops (i::r)::k)) cs w) r ds K:=by
 have e:=(ov d f).1;rw[hf]at e;simp only[aD,bN,bR]at e;have B:=e.2.2 m.1;obtain⟨y,z⟩:=vy d a.toList;have h:(dq (fH t) o).run P w=(gb (β.an b) (a.toList.map (fH t)).toArray).run P w:=by
  simp only[dq,l,resolve,B,fb,g7,g8,g0,invoke];congr 2;exact cv s_
 have C:∀c,o.op≠.defer c:=fun c hc=>by rw[l]at hc;cases hc
 obtain⟨g,tmps,assign,body,q,u⟩:=m.2 w ad ah β _ d.heap y z;rw[q]at h;obtain⟨E,w',aM,aH,g1,g2,g3,g4⟩:=u (bB fr t ds (.inRegion ops (i::r)::k)) cs;refine⟨_,aH,aM,_,w',x,?_,d.put A g2 g3 g4,g2.fo⟩;rw[<-nL j];exact(hb (JQ j D C h)).trans g1
theorem Lc(y:l8 P ag){d:Bool}{o:Oper}{K:St->Prop}{s:St}{ah ad:Nat->Prop}{β:Bd}{t:Array c9}{w:dg}
 (h:jU P ag d o K s)(a:cN P n ah ad β s t w)(c:jc n o=true)(j:ops[i]?=some o)(l:gy o (yielded ops t)=true):
 kP P n N fr k cs ops ah ad w β s.heap (lone (bB fr t ds (.inRegion ops (i::r)::k)) cs w) r ds K:=by
 have E:=Uy h;have z:fG P ag o (ev s.env) s.heap (fun e=>K (e.app o.dst s))->kP P n N fr k cs ops ah ad w β s.heap (lone (bB fr t ds (.inRegion ops (i::r)::k)) cs w) r ds K:=by
  intro h;obtain⟨e,m,hs,al,aK⟩:=y o _ _ _ (fun v=>rfl) h;obtain⟨nx,I,w',aM,aH,A,B,u,C,D⟩:=hs.use a.heap (fun x _=>ov a x) al (fun p F=>(aK p F).1);exact⟨_,aH,aM,_,w',m,.one (tf j l E A B),a.put c u C D,u.fo⟩
 unfold jU at h
 split at h
 ·rename_i f args H q
  split at h
  ·rename_i g fi ca hf;exact JF q (.inr ⟨fi,ca,hf,rfl,rfl⟩) h a c j l
  ·rename_i g fi ca hf;exact JF q (.inl hf) h a c j l
  ·rename_i b hf;obtain⟨H',v,G,m⟩:=h;exact UQ q hf G m a c j l
  ·exact h.elim
 ·exact z h
theorem kP.mono{m:ej}{K a:St->Prop}{ah ad:Nat->Prop}{w:dg}{β:Bd}{H:aj}(h:kP P n N fr k cs ops ah ad w β H m r ds K)(hk:∀s,K s->a s):kP P n N fr k cs ops ah ad w β H m r ds a:=by
 obtain⟨s',aH,aM,t',w',b,c⟩:=h;exact⟨s',aH,aM,t',w',hk _ b,c⟩
theorem yu{s:St}{ah ad:Nat->Prop}{β:Bd}{t:Array c9}{w:dg}(e:cN P n ah ad β s t w)(l:∀o∈ops.toList,jc n o=true)(j:Nat):
 (∀b,guardOf ops j s.env=.p (.bool b)->yielded ops t j=some b)/\(guardOf ops j s.env=.p (.aE [])->yielded ops t j=none):=by
 unfold guardOf yielded;cases k:ops[j]? with
 |none=>simp
 |some f=>
  simp only[i8];cases g:f.dst with
  |none=>simp
  |some d=>
   simp only[i8];have h:d<t.size:=by
    have:=l f (by rw[bV];exact b3 k);unfold jc at this;rw[g]at this;rw[e.size];simpa using this
   have a:=e.env d;have i:t[d]?=some (t.getD d undef):=by simp[ck,h]
   rw[i];constructor
   ·intro b c;rw[c]at a;simp only[aD,aF]at a;rw[a]
   ·intro c;rw[c]at a;simp only[aD,aF,br]at a;obtain⟨xs,rfl,a⟩:=a;rw[a]
theorem Kf(f:l8 P ag){d:Bool}(x:∀o∈ops.toList,jc n o=true):∀(l:List Oper)(i:Nat){K:St->Prop}{s:St}{ah ad:Nat->Prop}{β:Bd}{t:Array c9}{w:dg},
 ops.toList.drop i=l->ig P ag d ops l K s->cN P n ah ad β s t w->
 kP P n N fr k cs ops ah ad w β s.heap (lone (bB fr t ds (.inRegion ops (hV i l.length)::k)) cs w) [] ds K
 |[],i,K,s,ah,ad,β,t,w,v,h,a=>⟨s,ad,β,t,w,h,hg _ _,a,dM.refl _ _ _ _ _ _⟩
 |o::l,i,K,s,ah,ad,β,t,w,v,h,a=>by
  have e:ops[i]?=some o:=by
   have:(ops.toList.drop i)[0]?=some o:=by rw[v];rfl
   rw[List.getElem?_drop]at this;simpa using this
  have F:ops.toList.drop (i+1)=l:=by
   rw[<-ih,v];rfl
  have u:jc n o=true:=x o (by rw[bV];exact b3 e);have g:∀{ah ad w β H}{m:ej},kP P n N fr k cs ops ah ad w β H m (hV (i+1) l.length) ds (ig P ag d ops l K)->kP P n N fr k cs ops ah ad w β H m [] ds K:=by
   intro ah ad w β H m E;obtain⟨s',aH,aM,L,w',A,B,C,D⟩:=E;obtain⟨s2,z,J,t2,I,g1,g2,g3,g4⟩:=Kf f x l (i+1) F A C;exact⟨s2,z,J,t2,I,g1,B.trans g2,g3,D.trans g4⟩
  rw[hR,List.range'_succ]
  have skip:ig P ag d ops l K ⟨put o.dst (.p (.aE [])) s.env,s.heap⟩->gy o (yielded ops t)=false->
   kP P n N fr k cs ops ah ad w β s.heap (lone (bB fr t ds (.inRegion ops (i::hV (i+1) l.length)::k)) cs w) [] ds K:=by
   intro hk G;refine g ⟨_,ad,β,_,w,hk,.one (Kq e G),a.put u (bZ.refl a.heap) (by simp[aD,aF,br,undef]) (by simp[aG]),dM.refl _ _ _ _ _ _⟩
  simp only[ig]at h
  split at h
  ·rename_i c;exact g (Lc f h a u e (by simp[gy,c]))
  ·rename_i j M c;obtain⟨g1,g2⟩:=yu a x j
   split at h
   ·rename_i b q;have y:=g1 b q
    split at h
    ·rename_i r;exact g (Lc f h a u e (by simp[gy,c,y,r]))
    ·rename_i r;exact skip h (by simp[gy,c,y,r])
   ·rename_i q;exact skip h (by simp[gy,c,g2 q])
   ·exact h.elim
theorem aGy{H:aj}{b v:Nat}(h:H[b]?=none\/H[b]?=some .hole):¬aI H (b,v):=by
 rintro⟨o,a,c⟩;rcases h with h|h
 ·simp only at a;rw[h]at a;cases a
 ·simp only at a;rw[h]at a;cases a;exact c
theorem pU.step{s s':St}{β:Bd}(hf:pU s s'):cw β s.heap β s'.heap:=by
 refine⟨?_,?_,?_,?_,?_⟩
 ·rintro b _ ⟨fz,t,a⟩;rcases hf.heap b _ a with h|h|⟨_,k,z,h,_⟩|⟨v,v',h,_,_⟩
  ·cases h
  ·exact⟨⟨fz,t,h⟩,rfl⟩
  ·cases h
  ·exact⟨⟨_,_,h⟩,rfl⟩
 ·rintro b _ ⟨fz,t,a⟩;rcases hf.heap b _ a with h|h|⟨_,k,z,h,_⟩|⟨v,v',_,h,_⟩
  ·cases h
  ·exact⟨⟨fz,t,h⟩,rfl⟩
  ·cases h
  ·cases h
 ·rintro b _ ⟨o,a,c⟩;rcases hf.heap b _ a with h|h|⟨_,k,z,h,_⟩|⟨v,v',_,h,_⟩
  ·rw[h]at c;exact c.elim
  ·exact⟨⟨o,h,c⟩,rfl⟩
  ·rw[h]at c;exact c.elim
  ·rw[h]at c;exact c.elim
 ·intro b aC ai k d hi a;rcases hf.heap b _ a with h|h|⟨e,_⟩|⟨v,v',_,h,_⟩
  ·cases h
  ·exact⟨k,d,h,ip _,hv,fun _=>⟨rfl,rfl⟩⟩
  ·exact(aGy e hi).elim
  ·cases h
 ·rintro b _ ⟨L,a⟩;rcases hf.heap b _ a with h|h|⟨_,k,z,h,_⟩|⟨v,v',_,h,_⟩
  ·cases h
  ·exact⟨⟨L,h⟩,rfl⟩
  ·cases h
  ·cases h
section ayF
variable{w:dg}{ad:Nat->Prop}{β:Bd}{T:aj}
theorem Po{b aC ai off len:Nat}(h:aC=0/\off=0/\len=0/\∃k z,T[b]?=some (.arr k 0 z [])/\k.gr=true):bN P β T (.sl b aC ai off len) (.slice none 0 0):=by
 obtain⟨rfl,rfl,rfl,k,z,c,d⟩:=h;refine⟨by simp[hj],fun f e a=>?_⟩;unfold fh at a;rw[c]at a;cases a;exact⟨s_,fun _=>rfl,fun h=>(h ⟨d,rfl⟩).elim⟩
mutual
theorem gd.cells:∀(v:PV)(x:AV)(cs:List c9),gd T v x->aZ P w ad v cs->bn P w ad β T x cs
 | .aO,x,cs,h,hc=>by
  simp only[gd]at h;rcases h with rfl|h
  ·simpa only[bn]using hc
  ·cases x<;>simp only at h<;>try exact h.elim
   simp only[aZ]at hc;simp only[bn];exact⟨_,hc,Po h⟩
 | .st u fs,x,cs,h,hc=>by
  simp only[gd]at h;rcases h with rfl|h
  ·simpa only[bn]using hc
  ·cases x<;>simp only at h<;>try exact h.elim
   obtain⟨rfl,h⟩:=h;simp only[aZ]at hc;obtain⟨l,a,d,e,f⟩:=hc;simp only[bn];exact⟨l,a,d,lC.cells l fs _ a h e,f⟩
 | .undef,x,cs,h,hc| .bool _,x,cs,h,hc| .int _ _,x,cs,h,hc| .str _,x,cs,h,hc| .dL,x,cs,h,hc| .cr _,x,cs,h,hc| .cT _ _,x,cs,h,hc| .seq _,x,cs,h,hc| .ft,x,cs,h,hc| .eg _,x,cs,h,hc| .func _ _ _,x,cs,h,hc| .gU,x,cs,h,hc| .gI,x,cs,h,hc| .aE _,x,cs,h,hc=>by
  simp only[gd]at h;subst h;simpa only[bn]using hc
theorem lC.cells:∀(l:List Nat)(fs:List PV)(b:List AV)(a:List (List c9)),lC T fs b->bg P w ad l fs a->bM P w ad β T l b a
 |l,[],b,a,h,hc=>by
  simp only[lC]at h;subst h;cases l<;>simp_all [bM,bg]
 |l,v::vs,b,a,h,hc=>by
  cases b with
  |nil=>simp[lC]at h
  |cons g b=>
   simp only[lC]at h;cases l with
   |nil=>simp[bg]at hc
   |cons n l=>
    simp only[bg]at hc;obtain⟨c,cs,d,e,f,i⟩:=hc;simp only[bM];exact⟨c,cs,d,gd.cells v g c h.1 e,f,lC.cells l vs b cs h.2 i⟩
end
theorem gd.Fg(v:PV)(x:AV)(y:c9)(h:gd T v x)(hc:aF P w ad v y):aD P w ad β T x y:=by
 cases v
 case aO=>
  simp only[gd]at h;rcases h with rfl|h
  ·simpa only[aD]using hc
  ·cases x<;>simp only at h<;>try exact h.elim
   simp only[aF]at hc;subst hc;simp only[aD];exact Po h
 case st u fs=>
  simp only[gd]at h;rcases h with rfl|h
  ·simpa only[aD]using hc
  ·cases x<;>simp only at h<;>try exact h.elim
   obtain⟨rfl,h⟩:=h;simp only[aF]at hc;obtain⟨l,a,b,c,d⟩:=hc;simp only[aD];exact⟨l,a,b,lC.cells l fs _ a h c,d⟩
 all_goals simp only[gd]at h;subst h;simpa only[aD]using hc
mutual
theorem Gh.cells:∀(v x:AV)(cs:List c9),Gh T v x->bn P w ad β T v cs->bn P w ad β T x cs
 | .p v,x,cs,h,hc=>by simp only[Gh]at h;simp only[bn]at hc;exact gd.cells v x cs h hc
 | .st u fs,x,cs,h,hc=>by
  simp only[Gh]at h;cases x<;>simp only at h<;>try exact h.elim
  obtain⟨rfl,h⟩:=h;simp only[bn]at hc⊢;obtain⟨l,a,d,e,f⟩:=hc;exact⟨l,a,d,mI.cells l fs _ a h e,f⟩
 | .ptr _ _,x,cs,h,hc| .cd _ _ _ _ _,x,cs,h,hc| .sl _ _ _ _ _,x,cs,h,hc| .map _,x,cs,h,hc| .func _ _ _,x,cs,h,hc| .aE _,x,cs,h,hc=>by simp only[Gh]at h;subst h;exact hc
theorem mI.cells:∀(l:List Nat)(fs b:List AV)(a:List (List c9)),mI T fs b->bM P w ad β T l fs a->bM P w ad β T l b a
 |l,[],b,a,h,hc=>by simp only[mI]at h;subst h;exact hc
 |l,v::vs,b,a,h,hc=>by
  cases b with
  |nil=>simp[mI]at h
  |cons g b=>
   simp only[mI]at h;cases l with
   |nil=>simp[bM]at hc
   |cons n l=>
    simp only[bM]at hc⊢;obtain⟨c,cs,d,e,f,i⟩:=hc;exact⟨c,cs,d,Gh.cells v g c h.1 e,f,mI.cells l vs b cs h.2 i⟩
end
theorem Gh.Fg(v x:AV)(y:c9)(h:Gh T v x)(hc:aD P w ad β T v y):aD P w ad β T x y:=by
 cases v
 case p v=>simp only[Gh]at h;simp only[aD]at hc;exact gd.Fg v x y h hc
 case st u fs=>
  simp only[Gh]at h;cases x<;>simp only at h<;>try exact h.elim
  obtain⟨rfl,h⟩:=h;simp only[aD]at hc⊢;obtain⟨l,a,b,c,d⟩:=hc;exact⟨l,a,b,mI.cells l fs _ a h c,d⟩
 all_goals simp only[Gh]at h;subst h;exact hc
theorem gd.aL{v:PV}{x:AV}(h:gd T v x):aa x=aq.aL v:=by
 cases v
 case aO=>
  simp only[gd]at h;rcases h with rfl|h
  ·rfl
  ·cases x<;>simp only at h<;>first|exact h.elim|rfl
 case st u fs=>
  simp only[gd]at h;rcases h with rfl|h
  ·rfl
  ·cases x<;>simp only at h<;>try exact h.elim
   simp[aa,aq.aL,h.1]
 all_goals simp only[gd]at h;subst h;rfl
theorem Gh.aL{v x:AV}(h:Gh T v x):aa x=aa v:=by
 cases v
 case p v=>simp only[Gh]at h;exact h.aL
 case st u fs=>
  simp only[Gh]at h;cases x<;>simp only at h<;>try exact h.elim
  simp[aa,h.1]
 all_goals simp only[Gh]at h;subst h;rfl
end ayF
theorem cR.fo{s s':St}{β:Bd}{ah ad:Nat->Prop}{w:dg}(hf:cR N s s'):dM N ah ad w β s.heap ah ad w β s'.heap:=by
 rcases hf with rfl|hf
 ·exact dM.refl _ _ _ _ _ _
 ·exact⟨fun _ h=>h,fun _ h=>h,fun _ h=>.inl h,Ext.refl _ _ _,hf.1.step.n,fun x a⟨o,e,d⟩=>⟨o,by rw[hf.2 _ a];exact e,d⟩,fun b a⟨L,c⟩=>⟨L,by rw[hf.2 _ a];exact c⟩⟩
theorem pU.rel{s s':St}{ah ad:Nat->Prop}{β:Bd}{t:Array c9}{w:dg}(hf:pU s s')(h:cN P n ah ad β s t w):cN P n ah ad β s' t w:=by
 have aN:cw β s.heap β s'.heap:=hf.step;refine⟨⟨?_,?_,hf.hrefs,h.heap.bS,h.heap.eM,h.heap.jg⟩,fun x=>?_,hf.gR,h.size⟩
 ·intro b o F;rcases hf.heap b o F with rfl|i|⟨_,k,z,rfl,hk⟩|⟨v,v',i,rfl,r⟩
  ·trivial
  rotate_left
  ·exact .inl ⟨hk,rfl⟩
  ·have d:=h.heap.cK b _ i;have g:=h.heap.refs b _ i;obtain⟨cs,T,a,c,e,l,D⟩:=d;exact⟨cs,T,a,Gh.cells _ _ _ r (bn.mono (fun _ x=>x) (fun _ _=>rfl) aN _ _ g c),e,(fun h=>by cases h),by rw[r.aL];exact D⟩
  ·have d:=h.heap.cK b o i;have g:=h.heap.refs b o i;cases o with
   |hole=>trivial
   |dead=>trivial
   |box fz t=>
    obtain⟨cs,T,a,c,e⟩:=d;exact⟨cs,T,a,bn.mono (fun _ x=>x) (fun _ _=>rfl) aN _ _ g c,e⟩
   |arr k aC ai es=>
    rcases d with d|⟨cs,T,B,rest,a,c,e⟩
    ·exact .inl d
    ·exact .inr ⟨cs,T,B,rest,a,bM.mono (fun _ x=>x) (fun _ _=>rfl) aN _ _ _ g c,e⟩
   |map fz es=>exact d
   |cZ ks vs=>
    obtain⟨C,clock,a,c,e,l⟩:=d;exact⟨C,clock,a,c,bw.mono (fun _ x=>x) (fun _ _=>rfl) aN _ _ g e,l⟩
   |dw s pos=>exact d
   |loop L=>
    obtain⟨tmps,defers,fn,a,c,e,l⟩:=d;exact⟨tmps,defers,fn,a,c,fun x=>aD.mono (fun _ x=>x) (fun _ _=>rfl) aN _ _ (g x) (e x),l⟩
 ·intro x y I J a c p q E f;have A:∀{z:Nat}{o:Obj},s'.heap[z]?=some o->o.live->∃o',s.heap[z]?=some o'/\o'.live:=by
   intro z o j m;rcases hf.heap z o j with rfl|j|⟨_,k,_,rfl,hk⟩|⟨v,v',j,_,_⟩
   ·exact m.elim
   ·exact⟨o,j,m⟩
   ·exact(m ⟨hk,rfl⟩).elim
   ·exact⟨_,j,trivial⟩
  obtain⟨G,a,p⟩:=A a p;obtain⟨H,c,q⟩:=A c q;exact h.heap.inj x y G H a c p q E f
 ·have u:=aD.mono (fun _ x=>x) (fun _ _=>rfl) aN _ _ (h.gR x) (h.env x);rcases hf.env x with f|f|f
  ·rw[f];exact u
  ·rw[f];simp[aD,aF]
  ·exact Gh.Fg _ _ _ f u
theorem cR.rel{s s':St}{ah ad:Nat->Prop}{β:Bd}{t:Array c9}{w:dg}(hf:cR N s s')(h:cN P n ah ad β s t w):cN P n ah ad β s' t w:=by
 rcases hf with rfl|hf
 ·exact h
 ·exact hf.1.rel h
def nt(P:da)(fr:eb)(k:List Item)(cs:List eb)(m:ej)(t:Array c9)(ds:List ea)(w:dg):bA->Prop
 | .normal=>ee P m (lone (bB fr t ds k) cs w)
 | .exit id=>∃a,exitTo id a=exitTo id k/\ee P m (lone (bB fr t ds (.code (.exit id)::a)) cs w)
 | .ret=>∃a,ee P m (lone (bB fr t ds (.code .ret::a)) cs w)
theorem nt.of_steps{m f:ej}{t:Array c9}{ds:List ea}{w:dg}{e:bA}(h:ee P m f)(c:nt P fr k cs f t ds w e):nt P fr k cs m t ds w e:=by
 cases e with
 |normal=>exact h.trans c
 |exit id=>obtain⟨d,a,b⟩:=c;exact⟨d,a,h.trans b⟩
 |ret=>obtain⟨d,b⟩:=c;exact⟨d,h.trans b⟩
def mark(r:Nat):ea:={target:=.collected r,args:=#[]}
def Marks(fr:eb)(ah:Nat->Prop)(w:dg)(kA aH:Nat->Prop)(w':dg)(b c:List ea):Prop:=
 ∃a:List Nat,c=a.map mark++b/\a.Nodup/\(∀r∈a,w.heap.size<=r/\kA r/\¬aH r/\w'.heap[r]?=some (.deferred (some [])))/\(∀k,kA k->ah k\/k∈a)/\(fr.roundOf.isSome=true->a=[])
theorem Marks.refl(fr:eb)(ah aH:Nat->Prop)(w w':dg)(ds:List ea):Marks fr ah w ah aH w' ds ds:=⟨[],rfl,List.nodup_nil,s_,fun _ h=>.inl h,fun _=>rfl⟩
theorem Marks.trans{fr:eb}{N:Nat}{ah ad d e g f:Nat->Prop}{w w1 l:dg}{β p B:Bd}{H H1 q:aj}{ds m n:List ea}(h:Marks fr ah w d e w1 ds m)(i:dM N ah ad w β H d e w1 p H1)
 (s:Marks fr d w1 g f l m n)(j:dM N d e w1 p H1 g f l B q):Marks fr ah w g f l ds n:=by
 obtain⟨rs,rfl,t,o,u,v⟩:=h;obtain⟨A,rfl,g2,g3,g4,g5⟩:=s;refine⟨A++rs,s_,?_,?_,?_,fun hx=>by simp[v hx,g5 hx]⟩
 ·rw[List.nodup_append];refine⟨g2,t,fun a i b y x=>?_⟩;subst x;have C:=(g3 a i).1;have D:=(bl.1 (o a y).2.2.2).1;omega
 ·intro r c;rcases hS.1 c with c|c
  ·obtain⟨k1,k2⟩:=g3 r c;exact⟨i1 i.ext.size k1,k2⟩
  ·obtain⟨k1,k2,k3,k4⟩:=o r c;exact⟨k1,j.eM _ k2,fun hx=>(j.fresh _ hx).elim k3 (fun z=>z k2),(j.ext.same _ (.inl k2)).trans k4⟩
 ·intro k hk;rcases g4 k hk with hk|hk
  ·rcases u k hk with hk|hk
   ·exact .inl hk
   ·exact .inr (by simp[hk])
  ·exact .inr (by simp[hk])
def rL(N:Nat)(fr:eb)(β:Bd)(H:aj):Prop:=∀l,fr.roundOf=some l->∃b,b<N/\ib H b/\β.an b=l
theorem rL.fo{fr:eb}{β aM:Bd}{H H':aj}{ah ad kA aH:Nat->Prop}{w w':dg}(h:rL N fr β H)(e:dM N ah ad w β H kA aH w' aM H'):rL N fr aM H':=by
 intro l i;obtain⟨b,a,c,f⟩:=h l i;have d:=e.loop b a c;obtain⟨L,g⟩:=c;exact⟨b,a,d,((e.step.loop b a ⟨_,g,trivial⟩ d).2).trans f⟩
def qX(P:da)(n N:Nat)(fr:eb)(k:List Item)(cs:List eb)(ah ad:Nat->Prop)(w:dg)(β:Bd)(H:aj)(m:ej)(c:List ea)(Q:bA->St->Prop):Prop:=
 ∃e s' kA aH aM b w' a,Q e s'/\nt P fr k cs m b a w' e/\cN P n kA aH aM s' b w'/\dM N ah ad w β H kA aH w' aM s'.heap/\Marks fr ah w kA aH w' c a
theorem qX.of{k:List Item}{ah ad:Nat->Prop}{w:dg}{β:Bd}{H:aj}{m:ej}{ds:List ea}{Q:bA->St->Prop}{e:bA}{s':St}{aH:Nat->Prop}{aM:Bd}{a:Array c9}{w':dg}(hq:Q e s')(c:nt P fr k cs m a ds w' e)
 (d:cN P n ah aH aM s' a w')(b:dM N ah ad w β H ah aH w' aM s'.heap):qX P n N fr k cs ah ad w β H m ds Q:=⟨e,s',ah,aH,aM,a,w',ds,hq,c,d,b,Marks.refl _ _ _ _ _ _⟩
theorem qX.next{k:List Item}{ah ad b a:Nat->Prop}{w w1:dg}{β g:Bd}{H H1:aj}{m f:ej}{c d:List ea}{Q:bA->St->Prop}(e:dM N ah ad w β H b a w1 g H1)(o:Marks fr ah w b a w1 c d)(aN:ee P m f)
 (h:qX P n N fr k cs b a w1 g H1 f d Q):qX P n N fr k cs ah ad w β H m c Q:=by
 obtain⟨e2,s2,j,i,q,t2,p,l,g1,g2,g3,g4,g5⟩:=h;exact⟨e2,s2,j,i,q,t2,p,l,g1,.of_steps aN g2,g3,e.trans g4,o.trans e g5 g4⟩
def codeOk(fit:Nat->Array Oper->Bool)(n:Nat):Code->Bool
 | .region _ ops draw=>ops.toList.all (jc n)&&(!draw||fit n ops)
 | .seq a b=>codeOk fit n a&&codeOk fit n b
 | .cond _ a b=>codeOk fit n a&&codeOk fit n b
 | .block _ b| .scope b| .loop b=>codeOk fit n b
 | .rangeFunc _ _ a b=>codeOk fit n a&&codeOk fit n b
 |_=>true
def tA(P:da)(ag:dz->Bool)(fit:Nat->Array Oper->Bool):Prop:=
 ∀(n N:Nat)(a:Array Oper)(fr:eb)(k:List Item)(cs:List eb)(b:List ea)(c:Nat)(K:St->Prop)(s:St)(ah ad:Nat->Prop)(β:Bd)(t:Array c9)(w:dg),
  fit n a=true->(∀o∈a.toList,jc n o=true)->gD P ag a a.toList 0 [] K s->cN P n ah ad β s t w->
  kP P n N fr k cs a ah ad w β s.heap (lone (bB fr t b (.inRegion a (gB (P.follows .mixedOrders) a c)::k)) cs w) [] b K
theorem cN.draw{s:St}{ah ad:Nat->Prop}{β:Bd}{t:Array c9}{w w':dg}(a:w'.heap=w.heap)(h:cN P n ah ad β s t w):cN P n ah ad β s t w':=
 ⟨h.heap.yE a,fun x=>aD.mono (fun _ x=>x) (fun _ _=>by rw[a]) (cw.refl _ _) _ _ (h.gR x) (h.env x),h.gR,h.size⟩
section rf
variable{w w':dg}{ad ah:Nat->Prop}{β:Bd}{H:aj}
theorem b7.K7(h:b7 P w ad β H ah){x:Nat}(hx:x<w.heap.size)(v:∀(b:Nat)(o:Obj),H[b]?=some o->o.live->β.an b≠x):b7 P w ad β H (fun k=>ah k\/k=x):=by
 refine⟨fun b o m=>?_,h.inj,h.refs,h.bS,fun k hk=>hk.elim (h.eM k) (fun e=>e▸hx),h.jg⟩;have held:∀fz,o.live->cE ad β ah fz b->cE ad β (fun k=>ah k\/k=x) fz b:=by
  intro fz j i;unfold cE at i⊢;cases fz with
  |true=>exact i
  |false=>exact⟨i.1,fun y=>y.elim i.2 (v b o m j)⟩
 have f:=h.cK b o m;cases o with
 |hole=>trivial
 |dead=>trivial
 |box fz t=>obtain⟨cs,T,a,c,d,g⟩:=f;exact⟨cs,T,a,c,held _ trivial d,g⟩
 |arr k aC ai es=>
  rcases f with f|⟨cs,T,n,rest,a,c,d,g,p,q,r,u⟩
  ·exact .inl f
  ·by_cases j:dc k es
   ·exact .inl j
   ·exact .inr ⟨cs,T,n,rest,a,c,d,g,p,q,held _ j r,u⟩
 |map fz es=>obtain⟨l,clock,a,c,d⟩:=f;exact⟨l,clock,a,c,held _ trivial d⟩
 |cZ ks vs=>obtain⟨l,clock,a,c,d,g⟩:=f;exact⟨l,clock,a,c,d,held _ trivial g⟩
 |dw s pos=>obtain⟨bs,a,c,d⟩:=f;exact⟨bs,a,c,held _ trivial d⟩
 |loop L=>obtain⟨tmps,defers,fn,a,c,d,g⟩:=f;exact⟨tmps,defers,fn,a,c,d,held _ trivial g⟩
theorem b7.shut(h:b7 P w ad β H ah){Prot0:Nat->Prop}(q:∀k,Prot0 k->ah k){R:Nat->Prop}(m:∀x,R x->ah x/\¬ad x)(r:w'.heap.size=w.heap.size)(hs:∀k,¬R k->w'.heap[k]?=w.heap[k]?):b7 P w' ad β H Prot0:=by
 have same:∀k,ad k->w'.heap[k]?=w.heap[k]?:=fun k hk=>hs k (fun i=>(m k i).2 hk);refine⟨fun b o p=>?_,h.inj,h.refs,fun k hk=>r▸h.bS k hk,fun k hk=>r▸h.eM k (q k hk),h.jg.mono (fun _ x=>x) same⟩;have held:∀fz,cE ad β ah fz b->cE ad β Prot0 fz b:=by
  intro fz f;unfold cE at f⊢;cases fz with
  |true=>exact f
  |false=>exact⟨f.1,fun A=>f.2 (q _ A)⟩
 have an:∀fz,cE ad β ah fz b->w'.heap[β.an b]?=w.heap[β.an b]?:=by
  intro fz f;refine hs _ (fun i=>?_);unfold cE at f;cases fz with
  |true=>exact(m _ i).2 f
  |false=>exact f.2 (m _ i).1
 have g:=h.cK b o p;have j:=h.refs b o p;cases o with
 |hole=>trivial
 |dead=>trivial
 |box fz t=>obtain⟨cs,T,c,d,a,e⟩:=g;exact⟨cs,T,(an _ a).trans c,bn.mono (fun _ x=>x) same (cw.refl _ _) _ _ j d,held _ a,e⟩
 |arr k aC ai es=>
  rcases g with g|⟨cs,T,u,rest,c,d,a,e,v,y,n,z⟩
  ·exact .inl g
  ·exact .inr ⟨cs,T,u,rest,(an _ n).trans c,bM.mono (fun _ x=>x) same (cw.refl _ _) _ _ _ j d,a,e,v,y,held _ n,z⟩
 |map fz es=>obtain⟨l,clock,c,d,a⟩:=g;exact⟨l,clock,(an _ a).trans c,cF.mono (fun _ x=>x) same _ _ d,held _ a⟩
 |cZ ks vs=>obtain⟨l,clock,c,d,a,e⟩:=g;exact⟨l,clock,(an _ e).trans c,br.mono (fun _ x=>x) same _ _ d,bw.mono (fun _ x=>x) same (cw.refl _ _) _ _ j a,held _ e⟩
 |dw s pos=>obtain⟨bs,c,d,a⟩:=g;exact⟨bs,(an _ a).trans c,d,held _ a⟩
 |loop L=>obtain⟨tmps,defers,fn,c,d,a,e⟩:=g;exact⟨tmps,defers,fn,(an _ e).trans c,d,fun x=>aD.mono (fun _ x=>x) same (cw.refl _ _) _ _ (j x) (a x),held _ e⟩
theorem Lr(H:aj)(o:Obj):(H++hz 1 Obj.hole).set H.length o=H++[o]:=by
 rw[h2 _ _ (ip _)];simp
theorem Md(a:b7 P w ad β H ah){L:dK}{tmps:Array c9}{defers fn:Nat}(h:tmps.size=L.n)(l:∀x,aD P w ad β H (aP L.env x) (tmps.getD x undef))(c:∀x,aG (aI H) (aP L.env x)):
 bZ P ah ad w β H ad (w.alloc (.loop {state:=L.st,pending:=L.pending,fn,tmps,params:=L.params.toArray,assign:=L.assign,body:=L.body,defers})) (β.at H.length w.heap.size 0) (H++[.loop L]):=by
 have d:bZ P ah ad w β H ad w β (H++hz 1 .hole):=⟨fun _ x=>x,fun _ x=>.inl x,Ext.refl _ _ _,qL _ _ _,a.qd _,nX _ _,fun b⟨L,e⟩=>⟨L,by rw[lJ,if_pos (hw.1 e).1];exact e⟩⟩
 have f:(H++hz 1 Obj.hole)[H.length]?=some .hole:=by rw[lJ];simp
 have aN:=(qL β H 1)
 have j:=yL (β:=β) f (.loop L) w.heap.size 0;have hrefs:∀x,aG (aI ((H++hz 1 Obj.hole).set H.length (.loop L))) (aP L.env x):=by
  intro x;rw[Lr];exact aG.mono (fun y m=>KP m) _ (c x)
 have g:=tE (cap:=0) d.rel f (ob:=.loop {state:=L.st,pending:=L.pending,fn,tmps,params:=L.params.toArray,assign:=L.assign,body:=L.body,defers}) (o':=.loop L)
  ⟨tmps,defers,fn,by simp[Bd.at],h,fun x=>aD.mono (fun _ x=>x) (fun k hk=>vq w _ (a.bS k hk)) j _ _ (aG.mono (nX _ _) _ (c x)) (aD.mono (fun _ x=>x) (fun _ _=>rfl) aN _ _ (c x) (l x)),?_⟩ hrefs
 ·rw[Lr]at g;exact d.trans g
 ·unfold cE;simp only[cy,if_false,Bd.at,if_true];exact⟨fun hi=>by have:=a.bS _ hi;omega,fun i=>by have:=a.eM _ i;omega⟩
theorem C5(g:b7 P w ad β H ah){b:Nat}{L:dK}(a:H[b]?=some (.loop L))(st:LoopState)(d:Option Code):
 ∃rec:Loop,w.heap[β.an b]?=some (.loop rec)/\rec.state=L.st/\rec.pending=L.pending/\rec.params=L.params.toArray/\rec.assign=L.assign/\rec.body=L.body/\rec.tmps.size=L.n/\(∀x,aD P w ad β H (aP L.env x) (rec.tmps.getD x undef))/\
  bZ P ah ad w β H ad (w.putObj (β.an b) (.loop {rec with state:=st,pending:=d})) β (H.set b (.loop {L with st:=st,pending:=d})):=by
 obtain⟨tmps,defers,fn,p,q,r,c⟩:=g.cK b _ a;refine⟨_,p,rfl,rfl,rfl,rfl,rfl,q,r,?_⟩;have v:=(bl.1 p).1;have s:=(hw.1 a).1;unfold cE at c;simp only[cy,if_false]at c;have aN:cw β H β (H.set b (.loop {L with st:=st,pending:=d})):=by
  have j:∀(x:Nat)(o:Obj),(H.set b (Obj.loop {L with st:=st,pending:=d}))[x]?=some o->(∀i,o≠Obj.loop i)->H[x]?=some o:=by
   intro x o m y
   by_cases hx:b=x
   ·subst hx;rw[hA s]at m;cases m;exact(y _ rfl).elim
   ·rwa [hB hx]at m
  refine⟨?_,?_,?_,?_,?_⟩
  ·rintro x _ ⟨f,t,h⟩;exact⟨⟨f,t,j _ _ h s_⟩,rfl⟩
  ·rintro x _ ⟨f,t,h⟩;exact⟨⟨f,t,j _ _ h s_⟩,rfl⟩
  ·rintro x _ ⟨z,h,l⟩;exact⟨⟨z,j _ _ h (fun i e=>by rw[e]at l;exact l.elim),l⟩,rfl⟩
  ·intro x aC ai k u _ h;exact⟨k,u,j _ _ h s_,ip _,hv,fun _=>⟨rfl,rfl⟩⟩
  ·rintro x _ ⟨i,h⟩;refine⟨?_,rfl⟩
   by_cases hx:b=x
   ·subst hx;exact⟨L,a⟩
   ·rw[hB hx]at h;exact⟨i,h⟩
 have al:∀x,aI H x->aI (H.set b (Obj.loop {L with st:=st,pending:=d})) x:=mj a (fun _ _=>trivial);have same:∀k,ad k->(w.putObj (β.an b) (.loop {state:=st,pending:=d,fn,tmps,params:=L.params.toArray,assign:=L.assign,body:=L.body,defers})).heap[k]?=w.heap[k]?:=fun k hk=>hm (fun e=>c.1 (e▸hk));refine bZ.set g s (fun _ _=>⟨rfl,rfl⟩) (fun _ x=>x) (fun _ x=>.inl x) (fun k hk=>by simpa using g.bS k hk) s_
  (fun k hk _=>hm (hk.resolve_right (fun h=>h trivial))) (fun _=>.inr ⟨rfl,⟨_,a,trivial⟩,.inr c.1,c.2⟩) aN
  ⟨tmps,defers,fn,World.putObj_heap_same v,q,fun x=>aD.mono (fun _ x=>x) same aN _ _ (g.refs b _ a x) (r x),?_⟩ (fun x=>aG.mono al _ (g.refs b _ a x)) (fun _ _ _ _=>trivial) (fun _ _=>⟨_,rfl⟩)
 unfold cE;simpa using c
end rf
theorem V3{s:St}{ah ad:Nat->Prop}{β:Bd}{t:Array c9}{w:dg}(c:cN P n ah ad β s t w)(D:rL N fr β s.heap)(e:Array Tmp)(a b:Code)(m:List ea){f:Env}(g:∀x,aP f x=aP s.env x):
 ∃l mk w1 j i,(Instr.enterLoop fr.fn t e a b fr.roundOf).run P w=.ok (l,mk) w1/\b7 P w1 ad i (s.heap++[.loop ⟨.ready,none,n,e.toList,a,b,f⟩]) j/\i.an s.heap.length=l/\
  dM N ah ad w β s.heap j ad w1 i (s.heap++[.loop ⟨.ready,none,n,e.toList,a,b,f⟩])/\Marks fr ah w j ad w1 m (mk++m)/\
  cw β s.heap i (s.heap++[.loop ⟨.ready,none,n,e.toList,a,b,f⟩]):=by
 cases u:fr.roundOf with
 |none=>
  have p:bZ P ah ad w β s.heap ad (w.alloc (.deferred (some []))) β s.heap:=c.heap.later (fun _ x=>x) (fun _ x=>.inl x) (fun k hk=>by have:=c.heap.bS k hk;rw[hn];omega) (by rw[hn];omega) (fun k hk=>vq w _ hk);have B:=p.rel.K7 (x:=w.heap.size) (by rw[hn];omega) (fun b o F E g=>by have:=c.heap.om F E;omega);have d:=Md (L:=⟨.ready,none,n,e.toList,a,b,f⟩) (tmps:=t) (defers:=w.heap.size) (fn:=fr.fn) B c.size (fun x=>by rw[g];exact aD.mono (fun _ x=>x) (fun k hk=>vq w _ (c.heap.bS k hk)) (cw.refl _ _) _ _ (c.gR x) (c.env x)) (fun x=>by rw[g];exact c.gR x);have A:dM N ah ad w β s.heap (fun k=>ah k\/k=w.heap.size) ad (w.alloc (.deferred (some []))) β s.heap:=⟨fun _ h=>.inl h,fun _ h=>h,fun _ h=>.inl h,p.ext,(cw.refl _ _).n,fun _ _ h=>h,fun _ _ h=>h⟩
  refine⟨_,_,_,_,_,run_enterLoop_outer fr.fn t e a b,d.rel,?_,A.trans d.fo,?_,d.step⟩
  ·simp[Bd.at,hn]
  ·refine⟨[w.heap.size],rfl,s_,?_,fun k hk=>hk.imp id (fun h=>by simp[h]),by simp[u]⟩;intro r q;simp only[List.mem_singleton]at q;subst q;refine⟨ip _,.inr rfl,fun hi=>by have:=c.heap.bS _ hi;omega,?_⟩;exact(d.ext.same _ (.inl (.inr rfl))).trans (World.alloc_heap_new w _)
 |some G=>
  obtain⟨b0,J,y,z⟩:=D G u;obtain⟨H,C⟩:=y;obtain⟨K,v,I,g1,_⟩:=c.heap.cK b0 _ C;rw[z]at g1;have d:=Md (L:=⟨.ready,none,n,e.toList,a,b,f⟩) (tmps:=t) (defers:=v) (fn:=fr.fn) c.heap c.size (fun x=>by rw[g];exact c.env x) (fun x=>by rw[g];exact c.gR x);exact⟨_,_,_,_,_,run_enterLoop_inner g1 fr.fn t e a b,d.rel,by simp[Bd.at],d.fo,Marks.refl _ _ _ _ _ _,d.step⟩
theorem mR(K:l8 P ag){fit:Nat->Array Oper->Bool}(J:tA P ag fit):∀(c:Code)(k:List Item){Q:bA->St->Prop}{s:St}{ah ad:Nat->Prop}{β:Bd}{t:Array c9}{w:dg}{ds:List ea},
 codeOk fit n c=true->cj P ag (n,N) c Q s->cN P n ah ad β s t w->rL N fr β s.heap->qX P n N fr k cs ah ad w β s.heap (lone (bB fr t ds (.code c::k)) cs w) ds Q
 | .skip,k,Q,s,ah,ad,β,t,w,ds,_,h,i,_=>.of h (.one aIi:nt P fr k cs _ t ds w .normal) i (dM.refl _ _ _ _ _ _)
 | .label l,k,Q,s,ah,ad,β,t,w,ds,_,h,i,_=>.of h (.one Xw:nt P fr k cs _ t ds w .normal) i (dM.refl _ _ _ _ _ _)
 | .exit id,k,Q,s,ah,ad,β,t,w,ds,_,h,i,_=>.of h (⟨k,rfl,hg _ _⟩:nt P fr k cs _ t ds w (.exit id)) i (dM.refl _ _ _ _ _ _)
 | .ret,k,Q,s,ah,ad,β,t,w,ds,_,h,i,_=>.of h (⟨k,hg _ _⟩:nt P fr k cs _ t ds w .ret) i (dM.refl _ _ _ _ _ _)
 | .region id ops draw,k,Q,s,ah,ad,β,t,w,ds,r,h,i,_=>by
  simp only[codeOk,c6,h6]at r;simp only[cj]at h;cases draw with
  |false=>
   simp only[cy,if_false]at h;obtain⟨s',aH,aM,aw,w',j,q,p,d⟩:=Kf (fr:=fr) (k:=k) (cs:=cs) (ds:=ds) (N:=N) K r.1 ops.toList 0 s_ h i;refine .of (e:=.normal) j ?_ p d;have e:ik ops.size=hV 0 ops.toList.length:=by rw[List.range_eq_range'];simp
   exact(hb Wy).trans ((by rw[e];exact q:ee P _ _).trans (.one IH))
  |true=>
   simp only[if_true]at h;have a0:cN P n ah ad β s t {w with drawn:=w.drawn+1}:=cN.draw (w:=w) (w':={w with drawn:=w.drawn+1}) rfl i;obtain⟨s',aH,aM,aw,w',j,q,p,d⟩:=J n N ops fr k cs ds (w.tape w.drawn (.order fr.fn id)) _ s ah ad β t _ (by simpa using r.2) r.1 h a0;exact .of (e:=.normal) j ((hb aId).trans (q.trans (.one IH)):nt P fr k cs _ aw ds w' .normal) p ⟨d.eM,d.bS,d.fresh,⟨d.ext.size,d.ext.same,d.ext.io⟩,d.step,d.fS,d.loop⟩
 | .seq a b,k,Q,s,ah,ad,β,t,w,ds,r,h,i,C=>by
  simp only[codeOk,c6]at r;simp only[cj]at h;obtain⟨e,s1,o,B,z,t1,w1,D,j,q,p,d,A⟩:=mR K J a (.code b::k) r.1 h i C;cases e with
  |normal=>exact .next d A ((hb DQ).trans q) (mR K J b k r.2 j p (C.fo d))
  |exit id=>
   obtain⟨E,a1,a2⟩:=q;exact⟨.exit id,s1,o,B,z,t1,w1,D,j,⟨E,a1.trans (by simp[exitTo]),(hb DQ).trans a2⟩,p,d,A⟩
  |ret=>
   obtain⟨E,a2⟩:=q;exact⟨.ret,s1,o,B,z,t1,w1,D,j,⟨E,(hb DQ).trans a2⟩,p,d,A⟩
 | .cond c a b,k,Q,s,ah,ad,β,t,w,ds,r,h,i,C=>by
  simp only[codeOk,c6]at r;simp only[cj]at h
  split at h
  ·rename_i ax aC;have am:=(ov i c).1;rw[aC]at am;simp only[aD,aF]at am;have aN:=aIc (P:=P) (fr:=fr) (ds:=ds) (k:=k) (cs:=cs) (w:=w) (x:=a) (y:=b) am;cases ax with
   |true=>exact .next (dM.refl N ah ad w β s.heap) (Marks.refl _ _ _ _ _ _) (.one (by simpa using aN)) (mR K J a k r.1 (by simpa using h) i C)
   |false=>exact .next (dM.refl N ah ad w β s.heap) (Marks.refl _ _ _ _ _ _) (.one (by simpa using aN)) (mR K J b k r.2 (by simpa using h) i C)
  ·exact h.elim
 | .block id b,k,Q,s,ah,ad,β,t,w,ds,r,h,i,C=>by
  simp only[codeOk]at r;simp only[cj]at h;obtain⟨e,s1,o,B,z,t1,w1,D,j,q,p,d,A⟩:=mR K J b (.inBlock id::k) r h i C;cases e with
  |normal=>exact⟨.normal,s1,o,B,z,t1,w1,D,j,(hb yT).trans (q.trans (.one Wc)),p,d,A⟩
  |exit aa=>
   obtain⟨E,a1,a2⟩:=q;dsimp only at j
   split at j
   ·rename_i hid;subst hid;refine⟨.normal,s1,o,B,z,t1,w1,D,j,(hb yT).trans (a2.trans (.one (aIe ?_))),p,d,A⟩;rw[a1];simp[exitTo]
   ·rename_i hid;exact⟨.exit aa,s1,o,B,z,t1,w1,D,j,⟨E,a1.trans (by simp[exitTo,i7 hid]),(hb yT).trans a2⟩,p,d,A⟩
  |ret=>
   obtain⟨E,a2⟩:=q;exact⟨.ret,s1,o,B,z,t1,w1,D,j,⟨E,(hb yT).trans a2⟩,p,d,A⟩
 | .scope b,k,Q,s,ah,ad,β,t,w,ds,r,h,i,C=>by
  simp only[codeOk]at r;simp only[cj]at h;obtain⟨e,s1,o,B,z,t1,w1,D,j,q,p,d,A⟩:=mR K J b (.inScope b::k) r h i C;cases e with
  |normal=>exact⟨.normal,s1,o,B,z,t1,w1,D,j,(hb CR).trans (q.trans (.one Wb)),p,d,A⟩
  |exit aa=>
   obtain⟨E,a1,a2⟩:=q;exact⟨.exit aa,s1,o,B,z,t1,w1,D,j,⟨E,a1.trans (by simp[exitTo]),(hb CR).trans a2⟩,p,d,A⟩
  |ret=>
   obtain⟨E,a2⟩:=q;exact⟨.ret,s1,o,B,z,t1,w1,D,j,⟨E,(hb CR).trans a2⟩,p,d,A⟩
 | .loop b,k,Q,s,ah,ad,β,t,w,ds,r,h,i,C=>by
  simp only[codeOk]at r;simp only[cj]at h;obtain⟨I,⟨m0,t0,hf,hI⟩,a4⟩:=h
  have loop:∀(m:Nat)(u:St)(ah ad:Nat->Prop)(β:Bd)(t:Array c9)(w:dg)(ds:List ea),I m u->cN P n ah ad β u t w->rL N fr β u.heap->
   qX P n N fr k cs ah ad w β u.heap (lone (bB fr t ds (.code b::.inLoop b::k)) cs w) ds Q:=by
   intro m
   induction m using Nat.strongRecOn with
   |_ m a7=>
    intro u ah ad β t w ds hI i C;obtain⟨e,s1,o,B,z,t1,w1,D,j,q,p,d,A⟩:=mR K J b (.inLoop b::k) r (a4 m u hI) i C;cases e with
    |normal=>
     obtain⟨a8,u',aY,ap,ay⟩:=j;have Z:=ap.fo (β:=z) (ah:=o) (ad:=B) (w:=w1);exact .next (d.trans Z) A (hd q (.one Wz)) (a7 a8 aY u' o B z t1 w1 D ay (ap.rel p) ((C.fo d).fo Z))
    |exit aa=>
     obtain⟨E,a1,a2⟩:=q;exact⟨.exit aa,s1,o,B,z,t1,w1,D,j,⟨E,a1.trans (by simp[exitTo]),a2⟩,p,d,A⟩
    |ret=>
     obtain⟨E,a2⟩:=q;exact⟨.ret,s1,o,B,z,t1,w1,D,j,⟨E,a2⟩,p,d,A⟩
  have Z:=hf.fo (β:=β) (ah:=ah) (ad:=ad) (w:=w);exact .next Z (Marks.refl _ _ _ _ _ _) (.one aIf) (loop m0 t0 ah ad β t w ds hI (hf.rel i) (C.fo Z))
 | .rangeFunc f F a b,k,Q,s,ah,ad,β,t,w,ds,r,h,i,C=>by
  simp only[cj]at h;obtain⟨bd,M,aS,h⟩:=h;have W:=ov i f
  obtain⟨g,fi,ca,H,G,aU,aT,aK,ar,aq,Y,v,aW,ac⟩:∃g fi ca,∃H G:List c9,fH t f= .func (.func g) H.toArray G.toArray/\bw P w ad β s.heap fi H/\bw P w ad β s.heap ca G/\aV (aI s.heap) fi/\aV (aI s.heap) ca/\
   ∃Y v,cC P g (s.heap++[.loop ⟨.ready,none,n,F.toList,a,b,M⟩]) (fi++[.map s.heap.length]++ca) Y v/\iE s.heap.length s.env Q Y:=by
   unfold jq at h
   split at h
   ·rename_i g fi ca hf;rw[hf]at W;simp only[aD,aF]at W;obtain⟨⟨H,G,j,q,p⟩,_⟩:=W;exact⟨g,_,_,H,G,p,jN.2 j,jN.2 q,iS _ _,iS _ _,h⟩
   ·rename_i g fi ca hf;rw[hf]at W;simp only[aD,aG]at W;obtain⟨⟨H,G,j,q,p⟩,d,A⟩:=W;exact⟨g,fi,ca,H,G,p,j,q,d,A,h⟩
   ·exact h.elim
  obtain⟨l,mk,w1,o,z,e1,e2,e3,e4,e5,ae⟩:=V3 (fr:=fr) i C F a b ds aS;obtain⟨aQ,aL⟩:=aW;have al:∀x,aI s.heap x->aI (s.heap++[.loop ⟨.ready,none,n,F.toList,a,b,M⟩]) x:=fun x hx=>KP hx;have ak:∀k,ad k->w1.heap[k]?=w.heap[k]?:=fun k hk=>e4.ext.same k (.inr hk);have a5:aD P w1 ad z (s.heap++[.loop ⟨.ready,none,n,F.toList,a,b,M⟩]) (.map s.heap.length) (.func (.yield l) #[] #[]):=by
   simp only[aD,bN,bR];refine⟨by simp[hj],fun U=>?_,fun _=>by rw[e3]⟩;obtain⟨bf,an,U⟩:=U;simp at an;subst an;exact U.elim
  have a6:aG (aI (s.heap++[.loop ⟨.ready,none,n,F.toList,a,b,M⟩])) (.map s.heap.length):=by
   simp only[aG];exact⟨.loop ⟨.ready,none,n,F.toList,a,b,M⟩,s_,trivial⟩
  have aB:=pj (pj (bw.mono (fun _ x=>x) ak ae _ _ ar aT) (b:=[.map s.heap.length]) (y:=[.func (.yield l) #[] #[]]) (by simp only[bw];exact⟨_,_,rfl,a5,rfl⟩)) (bw.mono (fun _ x=>x) ak ae _ _ aq aK);have aA:=jY (jY (aV.mono al _ ar) (b:=[.map s.heap.length]) (by simp only[aV];exact⟨a6,trivial⟩)) (aV.mono al _ aq);have aX:(invoke (.fn (.func g) G.toArray) (H.toArray++#[.func (.yield l) #[] #[]])).run P w1=.ok (.enter g (H++[(.func (.yield l) #[] #[]:c9)]++G).toArray) w1:=by
   have:=aQ (H++[(.func (.yield l) #[] #[]:c9)]++G).toArray w1;simp only[invoke];rw[<-this];congr 2;simp
  have a3:(resolve (Act.eval ⟨t,ds⟩) (rangeCall f l) 0).run P w1=.ok (⟨.fn (.func g) G.toArray,H.toArray++#[.func (.yield l) #[] #[]]⟩:ea) w1:=by
   have ai:(Act.eval ⟨t,ds⟩) f=fH t f:=by cases f<;>rfl
   have aO:(rangeCall f l).args.map (Act.eval ⟨t,ds⟩)=#[.func (.yield l) #[] #[]]:=by simp[Act.eval]
   simp only[resolve,aO];simp only[ai,aU,fb];rfl
  have aR:=stepR_rangeFunc (P:=P) (b:=fr) (a:=⟨t,ds⟩) (k:=k) (cs:=cs) (w:=w) (g:=f) (ps:=F) (assign:=a) (body:=b) e1 a3 aX;obtain⟨e,ab,bc,⟨bb,V,S,ai,g1,g2,g3⟩,aN,be,aZ⟩:=aL w1 ad o z _ e2 aB aA (fr.atR ⟨t,mk++ds⟩ (.inRangeFunc l::k)::cs);subst ai;unfold iE at ac
  split at ac
  case h_2=>exact ac.elim
  rename_i L ao;obtain⟨aJ,X⟩:=ac;obtain⟨rec,au,a9,ba,bg,bh,bi,bj,bk,av⟩:=C5 g1.rel ao .exhausted L.pending;have az:aI (s.heap++[.loop ⟨.ready,none,n,F.toList,a,b,M⟩]) (s.heap.length,0):=⟨.loop ⟨.ready,none,n,F.toList,a,b,M⟩,s_,trivial⟩
  have aE:V.an s.heap.length=l:=((g1.step.loop _ az ⟨_,ao⟩).2).trans e3;rw[aE]at au av;have aP:=run_endLoop (P:=P) au (by rw[a9];exact aJ);have O:ee P (lone (bB fr t ds (.code (.rangeFunc f F a b)::k)) cs w) (lone (bB fr t (mk++ds) ((rec.pending.map Item.code).toList++k)) cs (ab.putObj l (.loop {rec with state:=.exhausted}))):=by
   refine(hb aR).trans (hd aN ?_);refine(hb (ec aZ)).trans ?_;rw[finish_atR_inRangeFunc];exact .one (stepR_endRangeFunc aP)
  have O:ee P (lone (bB fr t ds (.code (.rangeFunc f F a b)::k)) cs w) (lone (bB fr t (mk++ds) ((L.pending.map Item.code).toList++k)) cs (ab.putObj l (.loop {rec with state:=.exhausted,pending:=L.pending}))):=by
   rw[<-ba];exact O
  have T:bZ P o ad w1 z (s.heap++[.loop ⟨.ready,none,n,F.toList,a,b,M⟩]) S _ V _:=g1.trans av;have aj:cN P n o S V ⟨s.env,Y.set s.heap.length (.loop {L with st:=.exhausted})⟩ t (ab.putObj l (.loop {rec with state:=.exhausted,pending:=L.pending})):=by
   refine⟨T.rel,fun x=>?_,fun x=>?_,i.size⟩
   ·exact aD.mono T.bS (fun k hk=>T.ext.same k (.inr hk)) T.step _ _ (aG.mono al _ (i.gR x)) (aD.mono (fun _ x=>x) ak ae _ _ (i.gR x) (i.env x))
   ·exact aG.mono T.fS _ (aG.mono al _ (i.gR x))
  have af:dM N ah ad w β s.heap o S (ab.putObj l (.loop {rec with state:=.exhausted,pending:=L.pending})) V (Y.set s.heap.length (.loop {L with st:=.exhausted})):=e4.trans T.fo;have U:Marks fr ah w o S (ab.putObj l (.loop {rec with state:=.exhausted,pending:=L.pending})) ds (mk++ds):=e5.trans e4 (Marks.refl _ _ _ _ _ _) T.fo;unfold je at X
  split at X
  ·rename_i R;rw[R]at O;exact⟨.normal,_,o,S,V,t,_,mk++ds,X,by rw[R];exact O,aj,af,U⟩
  ·rename_i id R;rw[R]at O;exact⟨.exit id,_,o,S,V,t,_,mk++ds,X,⟨k,rfl,by rw[R];exact O⟩,aj,af,U⟩
  ·rename_i R;rw[R]at O;exact⟨.ret,_,o,S,V,t,_,mk++ds,X,⟨k,by rw[R];exact O⟩,aj,af,U⟩
  ·exact X.elim
 | .goto _,_,_,_,_,_,_,_,_,_,_,h,_,_| .refuse _,_,_,_,_,_,_,_,_,_,_,h,_,_=>by simp[cj]at h
end
end Go.aq
namespace Go.aq
variable[Gl]
def iT(i:Nat):List AV->Env
 |[]=>[]
 |v::r=>(i,v)::iT (i+1) r
def pS(P:da)(s:St):ei->Option AV
 | .tmp t=>some (aP s.env t)
 | .cell a T=>match aP s.env a with
  | .ptr b path=>match s.heap[b]? with
   |some (.box _ t)=>match eX t path with
    |some v=>if kindOf P T=aa v then some v else none
    |none=>none
   |_=>none
  |_=>none
def fL(P:da)(s:St):List ei->Option (List AV)
 |[]=>some []
 |r::rs=>match pS P s r,fL P s rs with
  |some v,some vs=>some (v::vs)
  |_,_=>none
def oneOf:List AV->AV
 |[v]=>v
 |vs=>match eQ vs with
  |some l=>.p (.aE l)
  |none=>.aE vs
def jh(f:AV->Option PV):List AV->Option (List PV)
 |[]=>some []
 |v::vs=>match f v,jh f vs with
  |some p,some a=>some (p::a)
  |_,_=>none
def eB(H:aj):Nat->AV->Option PV
 |0,.p v=>some v
 |0,_=>none
 |n+1,x=>match x with
  | .p v=>some v
  | .sl b aC ai off len=>match H[b]? with
   |some (.arr k e c es)=>
    if aC=e/\ai=c/\off+len<=es.length then
     if k.gr=true/\es=[]then some .aO else
     match jh (eB H n) ((es.drop off).take len)with
     |some d=>some (.cT (k== .exact&&off+len==es.length) d)
     |none=>none
    else none
   |_=>none
  | .ptr b path=>match H[b]? with
   |some (.box _ t)=>match eX t path with
    |some s=>match eB H n s with
     |some p=>some (.cr p)
     |none=>none
    |none=>none
   |_=>none
  | .map b=>match H[b]? with
   |some (.map _ es)=>some (.eg es)
   |_=>none
  | .func f fi ca=>match jh (eB H n) fi,jh (eB H n) ca with
   |some a,some b=>some (.func f a b)
   |_,_=>none
  | .st u fs=>match jh (eB H n) fs with
   |some l=>some (.st u l)
   |none=>none
  | .aE vs=>match jh (eB H n) vs with
   |some l=>some (.aE l)
   |none=>none
  | .cd _ _ _ _ _=>none
section
variable{P:da}{w:dg}{ad ah:Nat->Prop}{β:Bd}{H:aj}
def Ac(ad:Nat->Prop)(β:Bd)(H:aj)(k:Nat):Prop:=ad k\/∃(b:Nat)(o:Obj),H[b]?=some o/\o.live/\β.an b=k
theorem K6:∀{n:Nat}{v:AV}{p:PV},eB H n v=some p->(aa v=aL p)
 |0,v,p,h=>by
  cases v<;>simp[eB]at h;subst h;rfl
 |n+1,v,p,h=>by
  cases v<;>simp only[eB]at h
  case p v=>simp at h;subst h;rfl
  case cd=>simp at h
  case sl b aC ai off len=>
   split at h
   ·split at h
    ·split at h
     ·simp at h;subst h;rfl
     ·split at h
      ·simp at h;subst h;rfl
      ·simp at h
    ·simp at h
   ·simp at h
  case ptr b path=>
   split at h
   ·split at h
    ·split at h
     ·simp at h;subst h;rfl
     ·simp at h
    ·simp at h
   ·simp at h
  all_goals
   split at h
   ·simp at h;subst h;rfl
   ·simp at h
theorem JL{v:AV}{p:PV}{cs:List c9}(hs:aa v=aL p)(hc:bn P w ad β H v cs){I:Nat->Prop}(h:∀x,aD P w ad β H v x->aF P w I p x):aZ P w I p cs:=by
 cases a:aa v with
 |bad=>exact((nU hc).2 a).elim
 |leaf=>
  obtain⟨c,rfl,b⟩:=(CZ a cs).1 hc;exact(tI (hs▸a) _).2 ⟨c,rfl,h _ b⟩
 |agg u=>exact(vW (hs▸a) cs).2 (h _ ((NL a cs).1 hc))
section lists
variable{f:AV->Option PV}{I:Nat->Prop}(hf:∀v p,f v=some p->aa v=aL p/\(aG (aI H) v->∀x,aD P w ad β H v x->aF P w I p x))
include hf
theorem yG:∀{vs:List AV}{a:List PV},jh f vs=some a->aV (aI H) vs->∀b,bw P w ad β H vs b->br P w I a b
 |[],a,h,_,b,hx=>by
  simp[jh]at h;subst h;simpa[bw,br]using hx
 |v::vs,a,h,c,b,hx=>by
  simp only[jh]at h
  split at h
  case h_2=>simp at h
  rename_i q g hq d;simp at h;subst h;simp only[aV]at c;simp only[bw]at hx;obtain⟨y,e,rfl,k1,k2⟩:=hx;simp only[br];exact⟨y,e,rfl,(hf _ _ hq).2 c.1 _ k1,yG d c.2 _ k2⟩
theorem Cf:∀{vs:List AV}{b:List PV},jh f vs=some b->aV (aI H) vs->∀l a,bM P w ad β H l vs a->bg P w I l b a
 |[],b,h,_,l,a,hx=>by
  simp[jh]at h;subst h;cases l<;>simp_all [bM,bg]
 |v::vs,b,h,d,l,a,hx=>by
  simp only[jh]at h
  split at h
  case h_2=>simp at h
  rename_i q g hq e;simp at h;subst h;simp only[aV]at d;cases l with
  |nil=>simp[bM]at hx
  |cons m l=>
   simp only[bM]at hx;obtain⟨c,cs,rfl,k1,k2,k3⟩:=hx;simp only[bg];exact⟨c,cs,rfl,JL (hf _ _ hq).1 k1 ((hf _ _ hq).2 d.1),k2,Cf e d.2 _ _ k3⟩
end lists
theorem yo(e:b7 P w ad β H ah):∀(n:Nat)(v:AV)(p:PV),eB H n v=some p->aG (aI H) v->∀x,aD P w ad β H v x->aF P w (Ac ad β H) p x
 |0,v,p,h,_,x,hx=>by
  cases v<;>simp[eB]at h;subst h;simp only[aD]at hx;exact aF.mono (fun _=>.inl) (fun _ _=>rfl) _ _ hx
 |n+1,v,p,h,g,x,hx=>by
  have hf:∀v p,eB H n v=some p->aa v=aL p/\(aG (aI H) v->∀x,aD P w ad β H v x->aF P w (Ac ad β H) p x):=fun v p h=>⟨K6 h,yo e n v p h⟩
  cases v<;>simp only[eB]at h
  case p v=>
   simp at h;subst h;simp only[aD]at hx;exact aF.mono (fun _=>.inl) (fun _ _=>rfl) _ _ hx
  case cd=>simp at h
  case sl b aC ai off len=>
   split at h
   case h_2=>simp at h
   rename_i k ae Y y d
   split at h
   case isFalse=>simp at h
   rename_i L;obtain⟨rfl,rfl,z⟩:=L;simp only[aD]at hx;obtain⟨_,hx⟩:=hx;simp only[bR]at hx;obtain⟨v1,v2,v3⟩:=hx k y d
   split at h
   ·rename_i r;simp at h;subst h;simp[aF,v2 r]
   ·rename_i r
    split at h
    case h_2=>simp at h
    rename_i W O;simp at h;subst h;rw[v3 r];rcases e.cK b _ d with hold|⟨cs,T,C,rest,i,j,B,G,Z,I,ab,ac⟩
    ·exact(r hold).elim
    obtain⟨a,m,c,e1,e2,e3,e4,e5⟩:=jZ j off len v1;have R:aV (aI H) ((y.drop off).take len):=by
     have:=e.refs b _ d;rw[cM];intro v S;exact cM.1 this v (List.mem_of_mem_drop (List.mem_of_mem_take S))
    have M:((y.drop off).take len).length=len:=by simp;omega
    have k1:=Cf hf O R _ _ e2;have A:W.length=len:=by have:=(vc k1).2.1;simp at this;omega
    simp only[aF];refine⟨β.an b,off*ai,β.cap b-off,ai,m,by rw[A,<-M];exact k1,fun _=>.inr ⟨b,_,d,r,rfl⟩,?_,?_,?_,none,.inl rfl,?_⟩
    ·rw[<-e3];exact mb i (post:=c.flatten++rest) (by rw[B,e1];simp)
    ·intro hf;simp at hf;rw[A,I hf.1];omega
    ·rw[A];omega
    ·rw[A]
  case ptr b path=>
   split at h
   case h_2=>simp at h
   rename_i fz t d
   split at h
   case h_2=>simp at h
   rename_i s hs
   split at h
   case h_2=>simp at h
   rename_i q hq;simp at h;subst h;simp only[aD]at hx;obtain⟨_,hx⟩:=hx;simp only[bR]at hx;obtain⟨X,V,o,rfl,N,hx⟩:=hx;obtain⟨rfl,rfl⟩:=hx (.inl ⟨fz,_,d⟩);obtain⟨cs,T,i,j,B,G⟩:=e.cK b _ d;obtain⟨pre,xs,post,e1,e2,e3,_⟩:=pI j hs N;have Q:aG (aI H) s:=vC hs (e.refs b _ d);simp only[aF];refine⟨β.an b,V,xs,JL (K6 hq) e3 (yo e n _ _ hq Q),.inr ⟨b,_,d,trivial,rfl⟩,?_,rfl⟩;rw[<-e2];exact mb i e1
  case map b=>
   split at h
   case h_2=>simp at h
   rename_i fz y d;simp at h;subst h;simp only[aD]at hx;obtain⟨_,hx⟩:=hx;simp only[bR]at hx;have hx:=hx.1 ⟨_,d,trivial⟩;obtain⟨E,clock,i,j,B⟩:=e.cK b _ d;simp only[aF];exact⟨β.an b,E,clock,.inr ⟨b,_,d,trivial,rfl⟩,i,cF.mono (fun _=>.inl) (fun _ _=>rfl) _ _ j,hx⟩
  case func f a b=>
   split at h
   case h_2=>simp at h
   rename_i a' b' J K;simp at h;subst h;simp only[aG]at g;simp only[aD]at hx;obtain⟨F,D,k1,k2,k3⟩:=hx;simp only[aF];exact⟨F,D,yG hf J g.1 _ k1,yG hf K g.2 _ k2,k3⟩
  case st u fs=>
   split at h
   case h_2=>simp at h
   rename_i l z;simp at h;subst h;simp only[aG]at g;simp only[aD]at hx;obtain⟨U,C,k1,k2,k3⟩:=hx;simp only[aF];exact⟨U,C,k1,Cf hf z g _ _ k2,k3⟩
  case aE vs=>
   split at h
   case h_2=>simp at h
   rename_i l z;simp at h;subst h;simp only[aG]at g;simp only[aD]at hx;obtain⟨xs,k1,k2⟩:=hx;simp only[aF];exact⟨xs,yG hf z g _ k1,k2⟩
end
section
variable{P:da}{ag:dz->Bool}{fit:Nat->Array Oper->Bool}
theorem Cc:∀(args:List AV)(i x:Nat),aP (iT i args) x=if i<=x then(args[x-i]?).getD (.p .undef)else .p .undef
 |[],i,x=>by simp[iT,aP]
 |v::r,i,x=>by
  simp only[iT,aP,Cc r]
  by_cases h:x=i
  ·subst h;simp
  ·by_cases b:i<=x
   ·have a:i+1<=x:=by omega
    simp only[h,b,a,if_true,if_false];rw[show x-i=(x-(i+1))+1 by omega,h0]
   ·have a:¬i+1<=x:=by omega
    simp[h,b,a]
theorem tJ{w:dg}{ad:Nat->Prop}{β:Bd}{H:aj}:∀{vs:List AV}{xs:List c9},bw P w ad β H vs xs->xs.length=vs.length/\∀i:Nat,aD P w ad β H ((vs[i]?).getD (.p .undef)) ((xs[i]?).getD undef)
 |[],xs,h=>by simp only[bw]at h;subst h;simp[aD,aF]
 |v::vs,xs,h=>by
  simp only[bw]at h;obtain⟨y,c,rfl,a,b⟩:=h;have:=tJ b;refine⟨by simp[this.1],fun i=>?_⟩;cases i with
  |zero=>simpa using a
  |succ i=>simpa using this.2 i
theorem Wx{ah ad:Nat->Prop}{β:Bd}{w:dg}{H:aj}{args:List AV}{a:List c9}{n:Nat}(f:b7 P w ad β H ah)(d:bw P w ad β H args a)(g:aV (aI H) args)(i:args.length<=n):
 cN P n ah ad β ⟨iT 0 args,H⟩ (a.toArray++bo (n-a.length) undef) w:=by
 obtain⟨b,c⟩:=tJ d;refine⟨f,fun x=>?_,fun x=>?_,by simp[b];omega⟩
 ·have e:(a.toArray++bo (n-a.length) undef).getD x undef=(a[x]?).getD undef:=by
   rw[bp,<-bv];simp only[Array.toList_append,Array.toList_replicate]
   by_cases hx:x<a.length
   ·rw[hK (by simpa using hx)]
   ·rw[hO (by simpa using hx)];simp only[hF];rw[List.getElem?_eq_none (by simpa using hx)]
    split<;>rfl
  rw[e,Cc];simpa using c x
 ·rw[Cc];simp only[Nat.zero_le,if_true,Nat.sub_zero];cases h:args[x]? with
  |none=>simp[aG]
  |some v=>exact cM.1 g v (hH h)
theorem IZ{w:dg}{ad:Nat->Prop}{β:Bd}{H:aj}{T:db}{v:AV}{an off:Nat}{a:List c9}(hk:kindOf P T=aa v)(f:bn P w ad β H v a)(hc:gZ w an off a):
 ∃g,(loadVar T ⟨an,off,none⟩).run P w=.ok g w/\aD P w ad β H v g:=by
 obtain⟨o,n⟩:=nU f;have m:∀j,(⟨an,off,none⟩:Addr).add j=⟨an,off+j,none⟩:=by intro j;unfold Addr.add;split<;>simp_all
 unfold kindOf at hk;cases hs:aa v with
 |bad=>exact(n hs).elim
 |leaf=>
  rw[hs]at hk;obtain⟨c,rfl,e⟩:=(CZ hs a).1 f;refine⟨c,?_,e⟩;have h:=hc 0 s_;simp only[i2,List.getElem_cons_zero]at h;have b:(isAgg T).run P w=.ok false w:=by
   cases hu:P.underlying T with
   |none=>simp[hu]at hk
   |some d=>
    cases d<;>simp only[hu]at hk<;>first
     |(simp[isAgg,dk hu];done)
     |(split at hk<;>simp at hk)
  simp[loadVar,b,h]
 |agg u=>
  rw[hs]at hk;have e:=(NL hs a).1 f;refine⟨.agg a.toArray,?_,e⟩;have b:(isAgg T).run P w=.ok true w/\P.cellsOf T=a.length:=by
   rw[o,hs];cases hu:P.underlying T with
   |none=>simp[hu]at hk
   |some d=>
    cases d<;>simp only[hu]at hk<;>first
     |(split at hk
       ·rename_i hc;simp at hk;subst hk;simp at hc;refine⟨by simp[isAgg,dk hu],hc.2⟩
       ·simp at hk)
     |(split at hk<;>simp at hk)
  obtain⟨i,hi⟩:∃i,P.info? T=some i:=by
   cases hi:P.info? T with
   |none=>
    have l:=b.1;simp[isAgg,underlying,gw,hi]at l
   |some i=>exact⟨i,rfl⟩
  have q:(sizeOf T).run P w=.ok a.length w:=by
   rw[<-b.2];simp[sizeOf,typeInfo,hi,gt]
  have p:=run_loadCells_list (P:=P) w ⟨an,off,none⟩ a (fun j x hx=>by
   rw[m];have k:j<a.length:=(hw.1 hx).1;rw[hc j k];rw[hD k]at hx;exact hx)
  simp[loadVar,b.1,q,p]
theorem Wj{n:Nat}{ah ad:Nat->Prop}{β:Bd}{s:St}{t:Array c9}{w:dg}(h:cN P n ah ad β s t w){g:ei}{v:AV}(c:pS P s g=some v):
 ∃e,(match g with
  | .tmp x=>(pure (t.getD x undef):Sem c9)
  | .cell a T=>do loadVar T (<-asAddr (t.getD a undef))).run P w=.ok e w/\aD P w ad β s.heap v e/\aG (aI s.heap) v:=by
 cases g with
 |tmp x=>
  simp[pS]at c;subst c;exact⟨_,rfl,h.env x,h.gR x⟩
 |cell a T=>
  simp only[pS]at c;have d:=h.env a
  split at c
  case h_2=>simp at c
  rename_i b B k;rw[k]at d
  split at c
  case h_2=>simp at c
  rename_i fz r f
  split at c
  case h_2=>simp at c
  rename_i v' hs
  split at c
  case isFalse=>simp at c
  rename_i hc;simp at c;subst c;simp only[aD]at d;obtain⟨_,d⟩:=d;simp only[bR]at d;obtain⟨y,q,o,p,m,d⟩:=d;obtain⟨rfl,rfl⟩:=d (.inl ⟨fz,r,f⟩);obtain⟨cs,u,i,j,z,A⟩:=h.heap.cK b _ f;obtain⟨pre,xs,post,e1,e2,e3,_⟩:=pI j hs m;have l:gZ w (β.an b) q xs:=by rw[<-e2];exact mb i e1
  obtain⟨e,k1,k2⟩:=IZ hc e3 l;refine⟨e,?_,k2,vC hs (h.heap.refs b _ f)⟩;simp only[p,asAddr];simp[k1]
theorem I2{n:Nat}{ah ad:Nat->Prop}{β:Bd}{s:St}{t:Array c9}{w:dg}(h:cN P n ah ad β s t w):∀{d:List ei}{vs:List AV},fL P s d=some vs->
 ∃c:List c9,(d.mapM (fun i:ei=>match i with
  | .tmp x=>(pure (t.getD x undef):Sem c9)
  | .cell a T=>do loadVar T (<-asAddr (t.getD a undef)))).run P w=.ok c w/\bw P w ad β s.heap vs c/\aV (aI s.heap) vs
 |[],vs,b=>by
  simp[fL]at b;subst b;exact⟨[],s_,by simp[bw],by simp[aV]⟩
 |r::d,vs,b=>by
  simp only[fL]at b
  split at b
  case h_2=>simp at b
  rename_i v j f g;simp at b;subst b;obtain⟨e,k1,k2,k3⟩:=Wj h f;obtain⟨c,g1,g2,g3⟩:=I2 h g;refine⟨e::c,?_,by simp only[bw];exact⟨e,c,rfl,k2,g2⟩,by simp only[aV];exact⟨k3,g3⟩⟩;simp only[h9,g7,k1,g0,g1];rfl
theorem Kh{w:dg}{ad:Nat->Prop}{β:Bd}{H:aj}{vs:List AV}{a:List c9}(h:bw P w ad β H vs a)(d:aV (aI H) vs):
 aD P w ad β H (oneOf vs) (if h:a.toArray.size=1 then a.toArray[0]else .tuple a.toArray)/\aG (aI H) (oneOf vs):=by
 have b:=(tJ h).1
 match vs,a,h with
 |[v],[c],h=>
  simp only[bw]at h;obtain⟨y,j,g,e,i⟩:=h;cases g;simp only[aV]at d;exact⟨by simpa[oneOf]using e,by simpa[oneOf]using d.1⟩
 |[],[],h=>exact⟨by simp[oneOf,eQ,aD,aF,br],by simp[oneOf,eQ,aG]⟩
 |v1::v2::vs,c1::c2::a,h=>
  have hs:¬(c1::c2::a).toArray.size=1:=s_
  rw[dif_neg hs];simp only[oneOf];cases f:eQ (v1::v2::vs)with
  |none=>exact⟨by simp only[aD];exact⟨_,h,rfl⟩,by simpa only[aG]using d⟩
  |some l=>
   have:=mh f;rw[this]at h;exact⟨by simp only[aD,aF];exact⟨_,jN.1 h,rfl⟩,by simp[aG]⟩
 |[],_::_,_=>simp at b
 |[_],[],_=>simp at b
 |[_],_::_::_,_=>simp at b
 |_::_::_,[],_=>simp at b
 |_::_::_,[_],_=>simp at b
theorem takes{fr:eb}{cs:List eb}(c:fr.mode= .returning):∀(a:List Nat)(w:dg),a.Nodup->(∀r∈a,w.heap[r]?=some (.deferred (some [])))->
 ∃w',ee P (lone {fr with defers:=a.map mark} cs w) (lone {fr with defers:=[]} cs w')/\w'.heap.size=w.heap.size/\(∀k,k∉a->w'.heap[k]?=w.heap[k]?)/\(w'.os=w.os/\w'.output=w.output)
 |[],w,_,_=>⟨w,hg _ _,rfl,fun _ _=>rfl,rfl,rfl⟩
 |r::a,w,b,h=>by
  rw[List.nodup_cons]at b;have f:=h r s_;have hk:=run_takeDeferred (P:=P) f;have m:=(bl.1 f).1;obtain⟨w',g,i,j,l⟩:=takes c a (w.putObj r (.deferred none)) b.2 (fun x hx=>(hm (fun(e:x=r)=>b.1 (e▸hx))).trans (h x (by simp[hx])));refine⟨w',(hb (step_collected (fr:={fr with defers:=(r::a).map mark}) (d:=mark r) (ds:=a.map mark) (by simp[c]) rfl rfl hk)).trans g,by simpa using i,fun k hk=>?_,l⟩;simp only[List.mem_cons,not_or]at hk;exact(j k hk.2).trans (hm hk.1)
theorem Jm{N:Nat}{f:dz}{fn:Func}{c:Code}(z:l8 P ag)(y:tA P ag fit)(hf:P.funcs[f]?=some fn)(F:fn.body=some c)(M:codeOk fit fn.ntmps c=true)
 {args:List AV}{H:aj}{R:List AV->St->Prop}(K:args.length<=fn.ntmps)
 (T:cj P ag (fn.ntmps,N) c (fun e s=>(match e with
  | .exit _=>False
  |_=>True)/\∃vs,fL P s fn.results.toList=some vs/\R vs s) ⟨iT 0 args,H⟩)
 {w:dg}{ad ah:Nat->Prop}{β:Bd}{d:List c9}(i:b7 P w ad β H ah)(q:bw P w ad β H args d)(O:aV (aI H) args):
 ew P f d.toArray w fun e w'=>∃vs s a aH aM t,e=.returned (if h:a.toArray.size=1 then a.toArray[0]else .tuple a.toArray)/\R vs s/\cN P fn.ntmps ah aH aM s t w'/\dM N ah ad w β H ah aH w' aM s.heap/\
  bw P w' aH aM s.heap vs a/\aV (aI s.heap) vs:=by
 intro cs;have X:=(tJ q).1;obtain⟨g,j⟩:∃g:eb,g={fn:=f,tmps:=#[],todo:=[],defers:=[],mode:=.run,kind:=.normal}:=⟨_,rfl⟩
 have G:fm P f d.toArray .normal=bB g (d.toArray++bo (fn.ntmps-d.length) undef) [] [.code c]:=by
  subst j;simp[fm,bB,hf,F]
 obtain⟨e,s,V,aH,aM,t,w1,W,⟨A,vs,B,C⟩,o,m,b,D⟩:=mR (fr:=g) (cs:=cs) (ds:=[]) z y c [] M T (Wx i q O K) (fun l I=>by subst j;cases I);obtain⟨rs,u,L,n,Y,_⟩:=D;rw[h8]at u;subst u;rw[G]
 have p:∀todo,ee P (lone (bB g (d.toArray++bo (fn.ntmps-d.length) undef) [] [.code c]) cs w) (lone {bB g t (rs.map mark) todo with mode:= .returning} cs w1)->
  ∃e w' fr,(∃vs s a aH aM t,e=.returned (if h:a.toArray.size=1 then a.toArray[0]else .tuple a.toArray)/\R vs s/\cN P fn.ntmps ah aH aM s t w'/\dM N ah ad w β H ah aH w' aM s.heap/\
   bw P w' aH aM s.heap vs a/\aV (aI s.heap) vs)/\Comes P (lone (bB g (d.toArray++bo (fn.ntmps-d.length) undef) [] [.code c]) cs w) (lone fr cs w') e/\fr.fn=f/\fr.leaving P w' e:=by
  intro todo aN;obtain⟨w',t1,t2,t3,t4⟩:=takes (P:=P) (fr:={bB g t (rs.map mark) todo with mode:=.returning}) (cs:=cs) rfl rs w1 L (fun r i=>(n r i).2.2.2);have S:∀k,aH k->w'.heap[k]?=w1.heap[k]?:=fun k hk=>t3 k (fun i=>(n k i).2.2.1 hk);have v:cN P fn.ntmps ah aH aM s t w':=⟨m.heap.shut b.eM (R:=fun k=>k∈rs) (fun x hx=>⟨(n x hx).2.1,(n x hx).2.2.1⟩) t2 t3,fun x=>aD.mono (fun _ x=>x) S (cw.refl _ _) _ _ (m.gR x) (m.env x),m.gR,m.size⟩
  have E:dM N ah ad w β H ah aH w' aM s.heap:=⟨fun _ x=>x,b.bS,b.fresh,⟨by rw[t2];exact b.ext.size,fun k hk=>(t3 k (fun J=>by
   have:=(n k J).1;have:=hk.elim (i.eM k) (i.bS k);omega)).trans (b.ext.same k hk),t4.1.trans b.ext.io.1,t4.2.trans b.ext.io.2⟩,b.step,b.fS,b.loop⟩
  obtain⟨a,g1,g2,g3⟩:=I2 v B;have Q:(results fn t).run P w'=.ok (if h:a.toArray.size=1 then a.toArray[0]else .tuple a.toArray) w':=by
   simp only[results];rw[b2];rw[g7,ha]
   erw [g1]
   rfl
  refine⟨_,w',{bB g t [] todo with mode:=.returning},⟨vs,s,a,aH,aM,t,rfl,C,v,E,g2,g3⟩,hd aN t1,by subst j;rfl,?_⟩;subst j;exact⟨rfl,rfl,rfl,fn,hf,Q⟩
 cases e with
 |exit id=>exact A.elim
 |normal=>
  exact p [] (hd o (.one (dp (by subst j;simp[stepG,hp,bB]))))
 |ret=>
  obtain⟨U,o⟩:=o;exact p (.code .ret::U) (hd o (.one (dp (by subst j;simp[stepG,hp,bB]))))
theorem LK{f:dz}{fn:Func}{c:Code}(n:l8 P ag)(m:tA P ag fit)(A:Enters P f)(hf:P.funcs[f]?=some fn)(z:fn.body=some c)(E:codeOk fit fn.ntmps c=true)
 {args:List PV}{v:PV}(D:args.length<=fn.ntmps)
 (I:cj P ag (fn.ntmps,0) c (fun e s=>(match e with
  | .exit _=>False
  |_=>True)/\∃vs,fL P s fn.results.toList=some vs/\eB s.heap 9 (oneOf vs)=some v) ⟨iT 0 (args.map .p),[]⟩):so P f args v:=by
 refine⟨A,fun w ad J C B y=>?_⟩;have F:b7 P w ad ⟨id,id⟩ [] (fun k=>k<w.heap.size):=⟨s_,s_,s_,C,fun _ h=>h,B⟩
 refine(Jm n m hf z E (R:=fun vs s=>eB s.heap 9 (oneOf vs)=some v) (by simpa using D) I F (jN.2 y) (iS _ _)).mono ?_;rintro e w' ⟨vs,s,K,aH,aM,t,rfl,x,hs,d,G,H⟩;obtain⟨q,r⟩:=Kh G H;have u:=yo hs.heap _ _ _ x r _ q;refine⟨_,Ac aH aM s.heap,rfl,fun k hk=>.inl (d.bS k hk),?_,?_,d.ext.size,fun k hk=>d.ext.same k (.inl hk),d.ext.io,u⟩
 ·rintro k (hk|⟨b,o,j,g,rfl⟩)
  ·rcases d.fresh k hk with h|h
   ·exact .inl h
   ·exact .inr o_
  ·by_cases l:aM.an b<w.heap.size
   ·
    left;have a:=hs.heap.cK b o j;have:aH (aM.an b)\/¬(aM.an b<w.heap.size):=by
     have key:∀fz,cE aH aM (fun k=>k<w.heap.size) fz b->aH (aM.an b)\/¬(aM.an b<w.heap.size):=fun fz h=>by
      cases fz with
      |true=>exact .inl h
      |false=>exact .inr h.2
     cases o with
     |hole=>exact g.elim
     |dead=>exact g.elim
     |box fz t=>obtain⟨_,_,_,_,h,_⟩:=a;exact key _ h
     |arr k aC ai es=>
      rcases a with a|⟨_,_,_,_,_,_,_,_,_,_,h,_⟩
      ·exact(g a).elim
      ·exact key _ h
     |map fz es=>obtain⟨_,_,_,_,h⟩:=a;exact key _ h
     |cZ ks vs=>obtain⟨_,_,_,_,_,h⟩:=a;exact key _ h
     |dw s pos=>obtain⟨_,_,_,h⟩:=a;exact key _ h
     |loop L=>obtain⟨_,_,_,_,_,_,h⟩:=a;exact key _ h
    rcases this with h|h
    ·rcases d.fresh _ h with i|i
     ·exact i
     ·exact(i l).elim
    ·exact(h l).elim
   ·exact .inr o_
 ·rintro k (hk|⟨b,o,j,g,rfl⟩)
  ·exact hs.heap.bS k hk
  ·exact hs.heap.om j g
def uk(P:da)(a:List ei)(N:Nat)(H':aj)(v:AV)(e:bA)(s:St):Prop:=
 (match e with
  | .exit _=>False
  |_=>True)/\∃vs,fL P s a=some vs/\oneOf vs=v/\(H'=s.heap\/(cR N s ⟨[],H'⟩/\aG (aI H') v))
theorem X3{f:dz}{fn:Func}{c:Code}(q:l8 P ag)(p:tA P ag fit)(u:Enters P f)(hf:P.funcs[f]?=some fn)(j:fn.body=some c)(A:codeOk fit fn.ntmps c=true)
 {args:List AV}{H H':aj}{v:AV}(z:args.length<=fn.ntmps)(G:cj P ag (fn.ntmps,H.length) c (uk P fn.results.toList H.length H' v) ⟨iT 0 args,H⟩):cC P f H args H' v:=by
 refine⟨u,fun w ad ah β I B r C=>?_⟩;refine(Jm q p hf j A (R:=fun vs s=>oneOf vs=v/\(H'=s.heap\/(cR H.length s ⟨[],H'⟩/\aG (aI H') v))) z G B r C).mono ?_;rintro e w' ⟨vs,s,g,aH,aM,t,rfl,⟨rfl,a⟩,hs,m,F,E⟩;obtain⟨i,k⟩:=Kh F E;obtain⟨d,k1,k2,k3⟩:dM H.length ah ad w β H ah aH w' aM H'/\b7 P w' aH aM H' ah/\aD P w' aH aM H' (oneOf vs) (if h:g.toArray.size=1 then g.toArray[0]else .tuple g.toArray)/\aG (aI H') (oneOf vs):=by
  rcases a with rfl|⟨a,D⟩
  ·exact⟨m,hs.heap,i,k⟩
  ·refine⟨m.trans (a.fo (β:=aM) (ah:=ah) (ad:=aH) (w:=w')),(a.rel hs).heap,?_,D⟩;rcases a with a|a
   ·have e:H'=s.heap:=by rw[<-a]
    rw[e];exact i
   ·exact aD.mono (fun _ x=>x) (fun _ _=>rfl) a.1.step _ _ k i
 refine⟨_,aM,aH,rfl,⟨d.bS,d.fresh,d.ext,d.step.full,k1,fun x hx=>?_,fun b j=>?_⟩,k2,k3⟩
 ·obtain⟨o,n,y⟩:=hx;exact d.fS x (hw.1 n).1 ⟨o,n,y⟩
 ·obtain⟨L,l⟩:=j;exact d.loop b (hw.1 l).1 ⟨L,l⟩
theorem cN.post{n:Nat}{ah ad aH:Nat->Prop}{β aM:Bd}{s:St}{H':aj}{t:Array c9}{w w':dg}(h:cN P n ah ad β s t w)(a:bZ P ah ad w β s.heap aH w' aM H'):cN P n ah aH aM ⟨s.env,H'⟩ t w':=
 ⟨a.rel,fun x=>aD.mono a.bS (fun k hk=>a.ext.same k (.inr hk)) a.step _ _ (h.gR x) (h.env x),fun x=>aG.mono a.fS _ (h.gR x),h.size⟩
def rF:List Tmp->List AV->Env->Env
 |t::ts,v::vs,e=>rF ts vs ((t,v)::e)
 |_,_,e=>e
def ic:bA->Option Code
 | .normal=>none
 | .exit id=>some (.exit id)
 | .ret=>some .ret
def tD(b:Nat)(K:aj->AV->Prop)(e:bA)(s:St):Prop:=
 match s.heap[b]? with
 |some (.loop L)=>K (s.heap.set b (.loop {L with st:=if(ic e).isNone then .ready else .done,pending:=ic e})) (.p (.bool (ic e).isNone))
 |_=>False
def yn(P:da)(ag:dz->Bool)(q:Cx)(b:Nat)(body:Code)(K:aj->AV->Prop)(e:bA)(s:St):Prop:=
 match e,s.heap[b]? with
 | .normal,some (.loop L)=>L.st=.ready/\cj P ag q body (tD b K) ⟨s.env,s.heap.set b (.loop {L with st:=.busy})⟩
 |_,_=>False
def ze(P:da)(ag:dz->Bool)(L:dK)(b:Nat)(args:List AV)(H:aj)(K:aj->AV->Prop):Prop:=
 cj P ag (L.n,H.length) L.assign (yn P ag (L.n,H.length) b L.body K) ⟨rF L.params args L.env,H⟩
def rk(ts:List Tmp)(a:List c9)(t:Array c9):Array c9:=(ts.zip a).foldl (fun t(p,v)=>t.setIfInBounds p v) t
theorem JT{w:dg}{ad:Nat->Prop}{β:Bd}{H:aj}:∀{ts:List Tmp}{vs:List AV}{xs:List c9}{e:Env}{t:Array c9},(∀x∈ts,x<t.size)->bw P w ad β H vs xs->aV (aI H) vs->(∀x,aD P w ad β H (aP e x) (t.getD x undef))->(∀x,aG (aI H) (aP e x))->
 (rk ts xs t).size=t.size/\(∀x,aD P w ad β H (aP (rF ts vs e) x) ((rk ts xs t).getD x undef))/\(∀x,aG (aI H) (aP (rF ts vs e) x))
 |[],vs,xs,e,t,_,a,_,b,c=>by
  cases vs<;>exact⟨rfl,b,c⟩
 |p::ts,[],xs,e,t,_,a,_,b,c=>by
  simp only[bw]at a;subst a;exact⟨rfl,b,c⟩
 |p::ts,v::vs,xs,e,t,f,a,d,b,c=>by
  simp only[bw]at a;obtain⟨y,h,rfl,k1,k2⟩:=a;simp only[aV]at d;have g:p<t.size:=f p s_;obtain⟨g1,g2,g3⟩:=JT (ts:=ts) (vs:=vs) (xs:=h) (e:=(p,v)::e) (t:=t.setIfInBounds p y) (fun x hx=>by simpa using f x (by simp[hx])) k2 d.2
   (fun x=>by
    simp only[aP]
    by_cases hx:x=p
    ·subst hx;simp[g];exact k1
    ·simp only[hx,if_false,bp,bW (i7 hx)];simpa using b x)
   (fun x=>by
    simp only[aP]
    split
    ·exact d.1
    ·exact c x)
  exact⟨by simpa[rk]using g1,g2,g3⟩
theorem zip_toArray(a:List Tmp)(b:List c9)(t:Array c9):(a.toArray.zip b.toArray).foldl (fun t(p,v)=>t.setIfInBounds p v) t=rk a b t:=by
 unfold rk;rw[<-cb];simp
theorem X0(I:l8 P ag)(G:tA P ag fit){b:Nat}{L:dK}{H H':aj}{args:List AV}{v:AV}(f:H[b]?=some (.loop L))(az:args.length=L.params.length)(aA:∀x∈L.params,x<L.n)
 (aq:codeOk fit L.n L.assign=true)(hc:codeOk fit L.n L.body=true)(aI:ze P ag L b args H (fun af aS=>aS=v/\cR H.length ⟨[],af⟩ ⟨[],H'⟩)):fx P b H args H' v:=by
 refine⟨⟨L,f⟩,fun w ad ah β i B W au=>?_⟩;obtain⟨tmps,defers,fn,ao,M,ap,aW⟩:=B.cK b _ f;have s:b<H.length:=(hw.1 f).1;have aw:=(tJ W).1;have j:=run_yield (P:=P) (args:=i.toArray) ao (by simp[aw,az]);obtain⟨q1,aN,aO⟩:=JT (ts:=L.params) (vs:=args) (xs:=i) (e:=L.env) (t:=tmps) (fun x hx=>by rw[M];exact aA x hx) W au ap (B.refs b _ f);rw[zip_toArray]at j;refine⟨fn,_,_,_,j,fun K ae=>?_⟩;obtain⟨c,z⟩:∃c:eb,c={fn:=fn,tmps:=#[],todo:=[],defers:=[],mode:=.run,kind:=.normal,roundOf:=some (β.an b)}:=⟨_,rfl⟩
 have g:c.roundOf=some (β.an b):=by subst z;rfl
 have A:c.kind=.normal:=by subst z;rfl
 have ax:fl (β.an b) fn (rk L.params i tmps) L.assign L.body .normal=bB c (rk L.params i tmps) [] [.code L.assign,.beginRound,.code L.body]:=by subst z;rfl
 have V:rL H.length c β H:=fun l Z=>by
  rw[g]at Z;cases Z;exact⟨b,s,⟨L,f⟩,rfl⟩
 obtain⟨e1,s1,aV,aU,aT,t1,w1,am,g1,g2,g3,g4,g5⟩:=mR (N:=H.length) (fr:=c) (cs:=K::ae) (ds:=[]) I G L.assign [.beginRound,.code L.body] aq aI ⟨B,aN,aO,q1.trans M⟩ V;unfold yn at g1
 split at g1
 case h_2=>exact g1.elim
 rename_i q Q;obtain⟨g1,g6⟩:=g1;obtain⟨bc,m1,_,_,m4,m5⟩:=g5;have aE:=m5 (by rw[g];rfl);subst aE;obtain rfl:am=[]:=m1;have ak:aT.an b=β.an b:=(g4.step.loop b s ⟨_,f,trivial⟩ ⟨q,Q⟩).2;obtain⟨rec,ac,aQ,aR,a7,a8,a9,ba,bb,D⟩:=C5 g3.heap Q .busy q.pending;rw[ak]at ac D;have X:=run_beginRound (P:=P) ac (aQ.trans g1);have av:({rec with state:=.busy}:Loop)={rec with state:=.busy,pending:=q.pending}:=by rw[<-aR]
 rw[av]at X;have T:=g4.trans (D.fo (N:=H.length));obtain⟨e2,s2,r,p,m,t2,F,an,k1,k2,k3,k4,k5⟩:=mR (N:=H.length) (fr:=c) (cs:=K::ae) (ds:=[]) I G L.body [] hc g6 (g3.post D) (V.fo T);unfold tD at k1
 split at k1
 case h_2=>exact k1.elim
 rename_i J S;obtain⟨rfl,Y⟩:=k1;obtain⟨bd,aK,_,_,aL,aM⟩:=k5;have aH:=aM (by rw[g];rfl);subst aH;obtain rfl:an=[]:=aK;have aX:∀k,r k->ah k:=fun k hk=>(m4 k ((aL k hk).resolve_right s_)).resolve_right s_;have U:=T.trans k4;have al:m.an b=β.an b:=(U.step.loop b s ⟨_,f,trivial⟩ ⟨J,S⟩).2;obtain⟨E,ab,aY,aZ,a0,a3,a4,a5,a6,C⟩:=C5 k3.heap S (if(ic e2).isNone then .ready else .done) (ic e2);rw[al]at ab C;have u:=run_endRound (P:=P) (ic e2) ab;have ar:=U.trans (C.fo (N:=H.length));have d:=ar.trans (Y.fo (β:=m) (ah:=r) (ad:=p) (w:=F.putObj (β.an b) (.loop {E with state:=if(ic e2).isNone then .ready else .done,pending:=ic e2})));refine⟨.bool (ic e2).isNone,F.putObj (β.an b) (.loop {E with state:=if(ic e2).isNone then .ready else .done,pending:=ic e2}),m,p,?_,?_,by simp[aD,aF],by simp[aG]⟩
 ·rw[ax];refine hd (g2:ee P _ _) ((hb (stepR_beginRound (b:=c) (a:=⟨t1,[]⟩) g X)).trans ?_);cases e2 with
  |normal=>exact hd (k2:ee P _ _) (.one (stepR_round_end (b:=c) (a:=⟨t2,[]⟩) g A u))
  |exit id=>
   obtain⟨aJ,a1,a2⟩:=k2;exact hd a2 (.one (stepR_round_exit (b:=c) (a:=⟨t2,[]⟩) g A (by rw[a1];rfl) u))
  |ret=>
   obtain⟨aJ,a2⟩:=k2;exact hd a2 (.one (stepR_round_ret (b:=c) (a:=⟨t2,[]⟩) g A u))
 ·have aB:cN P 0 r p m ⟨[],s2.heap.set b (.loop {J with st:=if(ic e2).isNone then .ready else .done,pending:=ic e2})⟩ #[] (F.putObj (β.an b) (.loop {E with state:=if(ic e2).isNone then .ready else .done,pending:=ic e2})):=
   ⟨C.rel,fun x=>by simp[aP,aD,aF],fun x=>by simp[aP,aG],rfl⟩
  have aC:=(Y.rel aB).heap;refine⟨d.bS,d.fresh,d.ext,d.step.full,aC.shut d.eM (R:=fun _=>False) (fun _ h=>h.elim) rfl (fun _ _=>rfl),fun x hx=>?_,fun y j=>?_⟩
  ·obtain⟨o,aa,ay⟩:=hx;exact d.fS x (hw.1 aa).1 ⟨o,aa,ay⟩
  ·obtain⟨ai,O⟩:=j;exact d.loop y (hw.1 O).1 ⟨ai,O⟩
end
section
variable{P:da}
theorem Mt{w:dg}{ad:Nat->Prop}{b:Bool}{v:c9}:aF P w ad (.bool b) v↔v=.bool b:=by simp[aF]
theorem DH{w:dg}{ad:Nat->Prop}{k:em}{n:Int}{v:c9}:aF P w ad (.int k n) v↔v=.int k n:=by simp[aF]
theorem NH{w:dg}{ad:Nat->Prop}{s:List Nat}{v:c9}:aF P w ad (.str s) v↔∃bs:ByteArray,v=.string bs/\s=bs.data.toList.map (·.toNat):=by simp[aF]
theorem eE{s:Sem c9}{w:dg}{a:c9}(h:s.run P w=.ok a w):(do pure (Next.value (<-s)):Sem Next).run P w=.ok (.value a) w:=by simp[h]
theorem u9{s:Sem c9}{w w':dg}{a:c9}(h:s.run P w=.ok a w'):(do pure (Next.value (<-s)):Sem Next).run P w=.ok (.value a) w':=by simp[h]
theorem ya{T:db}{v:AV}{w:dg}{ad:Nat->Prop}{β:Bd}{H:aj}{cs:List c9}(hk:kindOf P T=aa v)(d:bn P w ad β H v cs):P.cellsOf T=cs.length/\∃i,P.info? T=some i/\i.size=cs.length:=by
 obtain⟨c,a⟩:=nU d;have b:P.cellsOf T=cs.length:=by
  rw[c,<-hk];unfold kindOf at hk⊢
  split at hk
  ·split at hk<;>rename_i hc
   ·simp at hc;rw[if_pos (by simpa using hc)];simp[bG,hc.2]
   ·exact(a hk.symm).elim
  ·split at hk<;>rename_i hc
   ·simp at hc;rw[if_pos (by simpa using hc)];simp[bG,hc]
   ·exact(a hk.symm).elim
  ·split at hk<;>rename_i hc
   ·simp at hc;rw[if_pos (by simpa using hc)];simp[bG,hc]
   ·exact(a hk.symm).elim
  ·exact(a hk.symm).elim
 refine⟨b,?_⟩;cases hi:P.info? T with
 |none=>
  have:kindOf P T=.bad:=by simp[kindOf,gw,hi]
  rw[this]at hk;exact(a hk.symm).elim
 |some i=>exact⟨i,rfl,by simpa[gt,hi]using b⟩
variable{o:Oper}{ρ:dl->AV}{base:Nat}
theorem Rm{x:dl}(a:o.op=.move x\/o.op=.assign x):bt P o ρ base {v:=ρ x}:=by
 refine bt.same fun H w ad ah β c d b _=>?_;refine⟨c x,?_,b x ?_⟩
 ·rcases a with a|a<;>simp[dq,a]
 ·rcases a with a|a<;>simp[a,gg]
theorem aGX{c a b:dl}{t:Bool}(d:o.op=.pick c a b)(hc:ρ c=.p (.bool t)):bt P o ρ base {v:=if t then ρ a else ρ b}:=by
 refine bt.same fun H w ad ah β g h f _=>?_;have e:=(f c (by simp[d,gg])).1;rw[hc]at e;simp only[aD,Mt]at e;refine⟨if t then g a else g b,by simp[dq,d,e,asBool],?_⟩;cases t with
 |true=>exact f a (by simp[d,gg])
 |false=>exact f b (by simp[d,gg])
theorem JX{t:dl}{i:Nat}{vs:List AV}{v:AV}(g:o.op=.extract t i)(e:ρ t=.aE vs\/∃l,ρ t=.p (.aE l)/\vs=l.map .p)(hi:vs[i]?=some v):bt P o ρ base {v}:=by
 refine bt.same fun H w ad ah β j m h _=>?_;obtain⟨d,f⟩:=h t (by simp[g,gg]);obtain⟨c,k1,k2,k3⟩:∃c,bw P w ad β H vs c/\j t=.tuple c.toArray/\aV (aI H) vs:=by
  rcases e with e|⟨l,e,rfl⟩
  ·rw[e]at d f;simp only[aD,aG]at d f;obtain⟨c,a,b⟩:=d;exact⟨c,a,b,f⟩
  ·rw[e]at d;simp only[aD,aF]at d;obtain⟨c,a,b⟩:=d;exact⟨c,jN.2 a,b,iS _ _⟩
 obtain⟨g1,g2⟩:=tJ k1;have k:i<vs.length:=(hw.1 hi).1;have hx:c[i]?=some (c[i]' o_):=hD o_;have g3:=g2 i;rw[hi,hx]at g3;refine⟨c[i]' o_,?_,by simpa using g3,cM.1 k3 v (hH hi)⟩;simp only[dq,g,Instr.extract,k2];simp[hx]
theorem aGS{c:e8}{T j:db}{x y:dl}{k d:em}{a b:Int}{K:PV->Prop}(g:o.op= .binOp c T x y j)(hx:ρ x= .p (.int k a))(t:ρ y= .p (.int d b))(hk:k=d\/c= .shl\/c= .shr)
 (h:pX c k a b K)(al:List (Nat×Obj)):∃v,K v/\bt P o ρ base {v:=.p v,al}:=by
 have key:∀v,K v->(∀w:dg,(binOp c T (.int k a) (.int d b)).run P w= .ok (match v with| .int k n=> .int k n| .bool b=> .bool b|_=>undef) w)->(∀w ad,aF P w ad v (match v with| .int k n=> .int k n| .bool b=> .bool b|_=>undef))->
  ∃v,K v/\bt P o ρ base {v:=.p v,al}:=by
  intro v s r q;refine⟨v,s,bt.same fun H w ad ah β z u i _=>?_⟩;have e:=(i x (by simp[g,gg])).1;have f:=(i y (by simp[g,gg])).1;rw[hx]at e;rw[t]at f;simp only[aD,DH]at e f;refine⟨_,?_,by simp only[aD];exact q w ad,by simp[aG]⟩;simp only[dq,g,e,f];refine eE ?_;have m:(eqGuard c T x y (.int k a) (.int d b)).run P w=.ok () w:=by
   unfold eqGuard
   split<;>simp
  simp[m,r w]
 cases c<;>simp only[pX]at h
 case add|sub|mul|and|or|xor|andNot|eql|neq|lss|leq|gtr|geq=>
  obtain rfl:k=d:=by rcases hk with h|h|h<;>first|exact h|cases h
  exact key _ h (fun w=>by simp[binOp,gj,gm,Op.intCmp]) (fun w ad=>by simp[aF])
 case quo|rem=>
  obtain rfl:k=d:=by rcases hk with h|h|h<;>first|exact h|cases h
  exact key _ h.2 (fun w=>by simp[binOp,Op.intDiv,h.1]) (fun w ad=>by simp[aF])
 case shl|shr=>
  have l:¬b<0:=o_
  exact key _ h.2 (fun w=>by simp[binOp,Op.shift,l]) (fun w ad=>by simp[aF])
theorem EZ{u:UnOp}{T:db}{x:dl}{v r:PV}(c:o.op= .unOp u T x)(hx:ρ x= .p v)
 (h:(u=.not/\∃b,v=.bool b/\r=.bool (!b))\/(u=.neg/\∃k n,v=.int k n/\r=.int k (k.wrap (0-n)))\/
  (u=.xor/\∃k n,v=.int k n/\r=.int k (k.wrap (cx k.bits (if k.signed then -1 else k.max)^^^cx k.bits n).toNat))):bt P o ρ base {v:=.p r}:=by
 refine bt.same fun H w ad ah β f e d _=>?_;have a:=(d x (by simp[c,gg])).1;rw[hx]at a;simp only[aD]at a;rcases h with⟨rfl,b,rfl,rfl⟩|⟨rfl,k,n,rfl,rfl⟩|⟨rfl,k,n,rfl,rfl⟩
 ·rw[Mt]at a;exact⟨_,by simp only[dq,c,a];exact eE (by simp[gi];rfl),by simp[aD,aF],by simp[aG]⟩
 ·rw[DH]at a;exact⟨_,by simp only[dq,c,a];exact eE (by simp[gi,gj];rfl),by simp[aD,aF],by simp[aG]⟩
 ·rw[DH]at a;exact⟨_,by simp only[dq,c,a];exact eE (by simp[gi,gm];rfl),by simp[aD,aF],by simp[aG]⟩
end
section
variable{P:da}{w:dg}{ad ah:Nat->Prop}{β:Bd}{H:aj}
variable{o:Oper}{ρ:dl->AV}{base:Nat}
theorem l6(H:aj)(b:Nat)(o':Obj):bc H ([]++newAt b [o'])=H.set b o':=rfl
theorem W0{x:AV}{T:db}(hs:aa x≠ .bad)(hx:jy T (aa x)=true)(hrefs:∀(H:aj)(w:dg)(ad ah:Nat->Prop)(β:Bd)(d:dl->c9),b7 P w ad β H ah->
 (∀y∈o.op.operands,aD P w ad β H (ρ y) (d y)/\aG (aI H) (ρ y))->∃a,aD P w ad β H x a/\aG (aI H) x/\
  (dq d o).run P w=.ok (.value (.pointer (some ⟨w.heap.size,0,none⟩))) {w with heap:=w.heap.push (.cells a.cells T)}):
 bt P o ρ base {v:=.ptr base [],aX:=[.box false x]}:=by
 intro H w ad ah β d b m _ j;obtain⟨a,f,e,g⟩:=hrefs H w ad ah β d b m;have c:H[base]?=some .hole:=by simpa using j 0 s_
 have i:=yz f hs;have aN:=yL (β:=β) c (.box false x) w.heap.size 0;have al:∀y,aI H y->aI (H.set base (.box false x)) y:=mj c (fun _ h=>h.elim);have l:=tE (cap:=0) b c (ob:=.cells a.cells T) (o':=.box false x)
  ⟨a.cells,T,by simp[Bd.at],bn.mono (fun _ x=>x) (fun k hk=>vq _ _ (b.bS k hk)) aN _ _ e i,by
   simp only[cE,Bd.at,if_true,cy,if_false];exact⟨fun h=>iz _ (b.bS _ h),fun h=>iz _ (b.eM _ h)⟩,s_,hx⟩ (aG.mono al _ e)
 refine⟨_,_,_,_,ad,g,.inl rfl,l,?_,?_⟩
 ·simp only[aD,bN,bR,l6];exact⟨rfl,_,_,0,rfl,rfl,fun _=>by simp[Bd.at]⟩
 ·simp only[aG,l6];exact⟨.box false x,by simp only;rw[hA (hw.1 c).1],trivial⟩
theorem aGO{T:db}{x:dl}(a:o.op=.box T x)(hs:aa (ρ x)≠.bad)(hx:jy T (aa (ρ x))=true):bt P o ρ base {v:=.ptr base [],aX:=[.box false (ρ x)]}:=by
 refine W0 (T:=T) hs hx fun H w ad ah β e f d=>?_;obtain⟨b,c⟩:=d x (by simp[a,gg]);refine⟨e x,b,c,?_⟩;simp only[dq,a];simp[Instr.box,newVar,newRow]
theorem B2{w:dg}{ad:Nat->Prop}:∀(n:Nat)(T:db)(cs:List c9)(t:PV),tZ P n T cs=some t->aZ P w ad t cs/\kindOf P T=aL t
 |0,_,_,_,h=>by simp[tZ]at h
 |n+1,T,cs,t,h=>by
  have go:∀(b:List db)(l:List Nat)(cs:List c9)(fs:List PV),pF P (tZ P n) b l cs=some fs->∃a,bg P w ad l fs a/\a.flatten=cs:=by
   intro b
   induction b with
   |nil=>
    intro l cs fs h;cases l with
    |nil=>
     cases cs with
     |nil=>simp[pF]at h;subst h;exact⟨[],by simp[bg]⟩
     |cons c cs=>simp[pF]at h
    |cons s i=>simp[pF]at h
   |cons T b q=>
    intro l cs fs h;cases l with
    |nil=>simp[pF]at h
    |cons s i=>
     simp only[pF]at h
     split at h
     case isFalse=>simp at h
     rename_i m
     split at h
     case h_2=>simp at h
     rename_i v vs g p
     split at h
     case isFalse=>simp at h
     rename_i r;simp at h;subst h;obtain⟨e,_⟩:=B2 n T _ v g;obtain⟨a,f,j⟩:=q i _ vs p;refine⟨cs.take s::a,by simp only[bg];exact⟨_,_,rfl,e,m,f⟩,?_⟩;simp[j]
  unfold tZ at h
  split at h
  ·rename_i hk
   split at h
   case h_2=>simp at h
   rename_i c
   split at h
   ·simp at h
   ·rename_i v o;simp at h;subst h;have g:=Jb (P:=P) (w:=w) (ad:=ad) c;have d:aL (ofConst c)=.leaf:=by
     unfold ofConst at o⊢
     split<;>simp_all [aL]
    exact⟨(tI d _).2 ⟨c,rfl,g⟩,by rw[hk,d]⟩
  ·rename_i u hk
   split at h
   case h_2=>simp at h
   rename_i l d
   split at h
   case h_2=>simp at h
   rename_i fs k;simp at h;subst h;obtain⟨a,e,f⟩:=go _ _ _ _ k;refine⟨by simp only[aZ];exact⟨l,a,d,e,f.symm⟩,by simp[aL,hk]⟩
  ·simp at h
theorem qN{T:db}{z:PV}(h:cB P T=some z):∃i a,P.info? T=some i/\i.zero=some a/\(∀(w:dg)(ad:Nat->Prop),aZ P w ad z a.cells.toList)/\kindOf P T=aL z:=by
 unfold cB at h;cases hi:P.info? T with
 |none=>simp[hi]at h
 |some i=>
  simp only[hi,i8]at h;cases b:i.zero with
  |none=>simp[b]at h
  |some a=>
   simp only[b]at h
   split at h
   case isFalse=>simp at h
   exact⟨i,a,rfl,b,fun w ad=>(B2 40 T _ z h).1,(B2 (w:=default) (ad:=fun _=>True) 40 T _ z h).2⟩
theorem MD{T:db}{z:PV}(h:cB P T=some z):∃a,(∀w:dg,(zeroValue T).run P w=.ok a w)/\∀(w:dg)(ad:Nat->Prop),aF P w ad z a:=by
 obtain⟨i,a,d,e,f,g⟩:=qN h;refine⟨a,fun w=>by simp[zeroValue,typeInfo,d,e],fun w ad=>?_⟩;have b:Am a (aL z)=true:=by
  unfold cB at h;simp only[d,i8,e]at h
  split at h
  ·rename_i j;rw[<-g];exact j
  ·simp at h
 have hc:=f w ad;cases hs:aL z with
 |bad=>exact((py hc).2 hs).elim
 |leaf=>
  rw[hs]at b;obtain⟨c,k1,k2⟩:=(tI hs _).1 hc;cases a<;>simp[Am]at b<;>(simp[hl]at k1;subst k1;exact k2)
 |agg u=>
  rw[hs]at b;cases a<;>simp[Am]at b;have:=(vW hs _).1 hc;simpa[hl]using this
theorem tC{T:db}{i:ed}{a:c9}(h:P.info? T=some i)(b:i.zero=some a)(w:dg):(zeroValue T).run P w=.ok a w:=by
 simp[zeroValue,typeInfo,h,b]
theorem Ye{T:db}{z:PV}(j:o.op=.alloc T)(m:cB P T=some z)(hx:jy T (aL z)=true):bt P o ρ base {v:=.ptr base [],aX:=[.box false (.p z)]}:=by
 obtain⟨i,b,d,e,f,q⟩:=qN m;intro H w ad ah β n a r _ g;have c:H[base]?=some .hole:=by simpa using g 0 s_
 have l:(dq n o).run P w=.ok (.value (.pointer (some ⟨w.heap.size,0,none⟩))) {w with heap:=w.heap.push (.cells b.cells T)}:=by
  simp only[dq,j];simp[Instr.alloc,tC d e,newVar,newRow]
 have k:=tE (cap:=0) a c (ob:=.cells b.cells T) (o':=.box false (.p z))
  ⟨b.cells,T,by simp[Bd.at],by simp only[bn];exact f _ _,by
   simp only[cE,Bd.at,if_true,cy,if_false];exact⟨fun h=>iz _ (a.bS _ h),fun h=>iz _ (a.eM _ h)⟩,s_,by simpa[aa]using hx⟩ (by simp[Obj.refs,aG])
 refine⟨_,_,_,_,ad,l,.inl rfl,k,?_,?_⟩
 ·simp only[aD,bN,bR,l6];exact⟨rfl,_,_,0,rfl,rfl,fun _=>by simp[Bd.at]⟩
 ·simp only[aG,l6];exact⟨.box false (.p z),by simp only;rw[hA (hw.1 c).1],trivial⟩
theorem Dl{T:db}{a:dl}{v:AV}(h:o.op= .load T a){d:dl->c9}{an off:Nat}{c:List c9}(g:d a= .pointer (some ⟨an,off,none⟩))(hk:kindOf P T=aa v)
 (i:bn P w ad β H v c)(hc:gZ w an off c):∃b,(dq d o).run P w=.ok (.value b) w/\aD P w ad β H v b:=by
 obtain⟨b,e,f⟩:=IZ hk i hc;refine⟨b,?_,f⟩;simp only[dq,h,Instr.loadAt,g,fp];simp[e]
theorem zU{ai:Nat}{d:List AV}{g:List (List c9)}(h:Row P w ad β H ai d g){i:Nat}(hi:i<d.length):
 ∃a c post,g.flatten=a++c++post/\a.length=i*ai/\c.length=ai/\bn P w ad β H d[i] c/\
  ∀e c',bn P w ad β H e c'->c'.length=c.length->∃b,b.flatten=a++c'++post/\Row P w ad β H ai (d.set i e) b:=by
 obtain⟨a,c,post,j,k,o,f,l,m⟩:=tO h (hD hi);have n:c.length=ai:=by
  rw[hF]at f;rw[if_pos hi]at f;simpa using f.symm
 refine⟨a,c,post,j,?_,n,l,?_⟩
 ·rw[k,hE,ix o_,hC]
 ·intro e c' hf hc;obtain⟨b,k1,k2⟩:=m e c' hf hc;exact⟨b,k1,by unfold Row;rw[h7];exact k2⟩
theorem aGU{T:db}{a:dl}(g:o.op= .load T a){H0:aj}{K:aY->Prop}(h:oF P T H0 (ρ a) K):
 ∃e,K e/\bt P o ρ base e/\(∀p∈e.al,H0[p.1]?=some p.2)/\(∀p∈e.aK,p.1<H0.length/\p.2≠.hole):=by
 unfold oF at h
 split at h
 ·rename_i b J m
  split at h
  case h_2=>exact h.elim
  rename_i fz t u
  split at h
  case h_2=>exact h.elim
  rename_i s hs;obtain⟨hk,h⟩:=h;refine⟨_,h,bt.same fun H w ad ah β C j n al=>?_,by simpa using u,s_⟩;obtain⟨d,y⟩:=n a (by simp[g,gg]);rw[m]at d;simp only[aD,bN,bR]at d;have f:H[b]?=some (.box fz t):=by simpa using al
  obtain⟨_,E,I,B,x,r,d⟩:=d;obtain⟨rfl,rfl⟩:=d (.inl ⟨fz,t,f⟩);obtain⟨cs,D,k1,k2,k3,k4⟩:=j.cK b _ f;obtain⟨pre,xs,post,e1,e2,e3,_⟩:=pI k2 hs r;obtain⟨l,g1,g2⟩:=Dl g x hk e3 (by rw[<-e2];exact mb k1 e1);exact⟨l,g1,g2,vC hs (j.refs b _ f)⟩
 ·rename_i b aC ai i J m
  split at h
  case h_2=>exact h.elim
  rename_i k W S q u;obtain⟨rfl,rfl,hi,h⟩:=h
  split at h
  case h_2=>exact h.elim
  rename_i s hs;obtain⟨hk,h⟩:=h;refine⟨_,h,bt.same fun H w ad ah β C j n al=>?_,by simpa using u,s_⟩;obtain⟨d,y⟩:=n a (by simp[g,gg]);rw[m]at d;simp only[aD,bN,bR]at d;have f:H[b]?=some (.arr k aC ai q):=by simpa using al
  have A:¬dc k q:=fun G=>by rw[G.2]at hi;simp at hi
  obtain⟨_,E,I,B,x,r,d⟩:=d;obtain⟨rfl,rfl⟩:=d k q f A;rcases j.cK b _ f with hold|⟨cs,D,R,rest,k1,k2,k3,_⟩
  ·exact(A hold).elim
  obtain⟨M,c,L,N,O,U,Q,_⟩:=zU k2 hi;obtain⟨pre,xs,post,e1,e2,e3,_⟩:=pI Q hs r;have F:gZ w (β.an b) (i*ai+B) xs:=by
   have:cs.toList=(M++pre)++xs++(post++L++rest):=by rw[k3,N,e1];simp
   have z:=mb k1 this;rw[hT,O,e2]at z;exact z
  obtain⟨l,g1,g2⟩:=Dl g x hk e3 F;exact⟨l,g1,g2,vC hs (cM.1 (j.refs b _ f) _ (h5 hi))⟩
 ·rename_i t m;obtain⟨hk,h⟩:=h;refine⟨_,h,bt.same fun H w ad ah β C j n al=>?_,s_,s_⟩;obtain⟨d,y⟩:=n a (by simp[g,gg]);rw[m]at d;simp only[aD,aF]at d;obtain⟨an,off,V,k1,k2,k3,k4⟩:=d;obtain⟨l,g1,g2⟩:=Dl (β:=β) (H:=H) (v:=.p t) g k4 (by simpa[aa]using hk) (by simpa only[bn]using k1) k3;exact⟨l,g1,g2,by simp[aG]⟩
 ·exact h.elim
end
section
variable{P:da}{w:dg}{ad ah:Nat->Prop}{β:Bd}{H:aj}
mutual
theorem NJ:∀{v:PV}{cs:List c9},aZ P w ad v cs->∀c∈cs,c.oneCell'=true
 | .undef,_,h| .aE _,_,h=>by simp[aZ]at h
 | .bool _,_,h| .int _ _,_,h| .dL,_,h| .aO,_,h| .ft,_,h| .gU,_,h| .gI,_,h=>by simp only[aZ]at h;subst h;simp[hj]
 | .str _,_,h=>by simp only[aZ]at h;obtain⟨_,rfl,_⟩:=h;simp[hj]
 | .cr _,_,h=>by simp only[aZ]at h;obtain⟨_,_,_,_,_,_,rfl⟩:=h;simp[hj]
 | .cT _ _,_,h=>by simp only[aZ]at h;obtain⟨_,_,_,_,_,_,_,_,_,_,_,_,rfl⟩:=h;simp[hj]
 | .seq _,_,h=>by simp only[aZ]at h;rcases h with⟨_,rfl⟩|⟨_,_,_,_,_,_,_,_,_,_,_,rfl⟩<;>simp[hj]
 | .eg _,_,h=>by simp only[aZ]at h;obtain⟨_,_,_,_,_,_,rfl⟩:=h;simp[hj]
 | .func _ _ _,_,h=>by simp only[aZ]at h;obtain⟨_,_,_,_,rfl⟩:=h;simp[hj]
 | .st u fs,_,h=>by
  simp only[aZ]at h;obtain⟨l,a,b,d,rfl⟩:=h;exact Mv d
theorem Mv:∀{l:List Nat}{vs:List PV}{a:List (List c9)},bg P w ad l vs a->∀c∈a.flatten,c.oneCell'=true
 |[],[],_,h=>by simp only[bg]at h;subst h;simp
 |[],_::_,_,h=>by simp[bg]at h
 |_::_,[],_,h=>by simp[bg]at h
 |n::f,v::vs,a,h=>by
  simp only[bg]at h;obtain⟨c,cs,rfl,b,d,e⟩:=h;intro x hx;simp only[hP,hS]at hx;exact hx.elim (NJ b x) (Mv e x)
end
mutual
theorem zn:∀{v:AV}{cs:List c9},bn P w ad β H v cs->∀c∈cs,c.oneCell'=true
 | .p t,_,h=>by simp only[bn]at h;exact NJ h
 | .ptr ..,_,h| .cd ..,_,h| .sl ..,_,h| .map ..,_,h=>by simp only[bn]at h;obtain⟨v,rfl,b,_⟩:=h;simpa using b
 | .func ..,_,h=>by simp only[bn]at h;obtain⟨_,_,_,_,rfl⟩:=h;simp[hj]
 | .aE _,_,h=>by simp[bn]at h
 | .st u fs,_,h=>by
  simp only[bn]at h;obtain⟨l,a,b,d,rfl⟩:=h;exact Mw d
theorem Mw:∀{l:List Nat}{vs:List AV}{a:List (List c9)},bM P w ad β H l vs a->∀c∈a.flatten,c.oneCell'=true
 |[],[],_,h=>by simp only[bM]at h;subst h;simp
 |[],_::_,_,h=>by simp[bM]at h
 |_::_,[],_,h=>by simp[bM]at h
 |n::f,v::vs,a,h=>by
  simp only[bM]at h;obtain⟨c,cs,rfl,b,d,e⟩:=h;intro x hx;simp only[hP,hS]at hx;exact hx.elim (zn b x) (Mw e x)
end
theorem qK(d:b7 P w ad β H ah){b:Nat}{o o':Obj}(c:H[b]?=some o)(j:o.live)(l:o'.live)(m:∀v,o.has v->o'.has v){q new:Array c9}{T:db}
 (i:w.heap[β.an b]?=some (.cells q T (0,0)))(e:¬ad (β.an b)/\¬ah (β.an b))(aN:cw β H β (H.set b o'))
 (n:fC P (w.setRow (β.an b) new) ad β (H.set b o') ah b o')(p:o'.refs (aI (H.set b o'))):
 bZ P ah ad w β H ad (w.setRow (β.an b) new) β (H.set b o'):=by
 refine bZ.set d (hw.1 c).1 (fun _ _=>⟨rfl,rfl⟩) (fun _ x=>x) (fun _ x=>.inl x) (fun k hk=>by rw[e6];exact d.bS k hk) (by rw[e6];exact ip _)
  (fun k hk _=>eo w _ k _ (hk.resolve_right (fun h=>h l))) (fun _=>.inr ⟨rfl,⟨o,c,j⟩,.inr e.1,e.2⟩) aN n p (fun r v a f=>by rw[c]at a;cases a;exact m v f) (fun L g=>by obtain⟨_,_,_,a,_⟩:=d.cK b _ g;rw[i]at a;cases a)
theorem pB{b:Nat}{o o':Obj}(l:H[b]?=some o)(hk:(∃f g t B,o= .box f t/\o'= .box g B)\/(∃k v z e m,o= .arr k v z e/\o'= .arr k v z m/\e.length=m.length)\/(∃f g e m,o= .map f e/\o'= .map g m)\/(∃s p y,o= .dw s p/\o'= .dw s y)):
 cw β H β (H.set b o'):=by
 have u:b<H.length:=(hw.1 l).1;have j:∀x,x≠b->(H.set b o')[x]?=H[x]?:=fun x hx=>hB (i7 hx);have i:(H.set b o')[b]?=some o':=hA u;refine⟨?_,?_,?_,?_,?_⟩
 ·rintro x _ ⟨fz,t,h⟩;refine⟨?_,rfl⟩
  by_cases hx:x=b
  ·subst hx;rw[i]at h;cases h;rcases hk with⟨f,g,t1,t2,c,a⟩|⟨_,_,_,_,_,_,a,_⟩|⟨_,_,_,_,_,a⟩|⟨_,_,_,_,a⟩
   ·exact⟨f,t1,by rw[l,c]⟩
   all_goals cases a
  ·rw[j x hx]at h;exact⟨fz,t,h⟩
 ·rintro x _ ⟨s,p,h⟩;refine⟨?_,rfl⟩
  by_cases hx:x=b
  ·subst hx;rw[i]at h;cases h;rcases hk with⟨f,g,t1,t2,c,a⟩|⟨_,_,_,_,_,_,a,_⟩|⟨_,_,_,_,_,a⟩|⟨s1,n,A,c,a⟩
   ·cases a
   ·cases a
   ·cases a
   ·exact⟨s1,n,by rw[l,c]⟩
  ·rw[j x hx]at h;exact⟨s,p,h⟩
 ·rintro x _ ⟨w,h,d⟩;refine⟨?_,rfl⟩
  by_cases hx:x=b
  ·subst hx;rw[i]at h;cases h;rcases hk with⟨f,g,t1,t2,c,a⟩|⟨_,_,_,_,_,_,a,_⟩|⟨f,g,e1,e2,c,a⟩|⟨s1,n,A,c,a⟩
   ·rw[a]at d;exact d.elim
   ·rw[a]at d;exact d.elim
   ·exact⟨o,l,by rw[c];trivial⟩
   ·rw[a]at d;exact d.elim
  ·rw[j x hx]at h;exact⟨w,h,d⟩
 ·intro x aC ai k e _ h
  by_cases hx:x=b
  ·subst hx;unfold fh at h⊢;rw[i]at h;cases h;rcases hk with⟨f,g,t1,t2,c,a⟩|⟨k0,v,z,q,C,c,a,r⟩|⟨_,_,_,_,_,a⟩|⟨_,_,_,_,a⟩
   ·cases a
   ·cases a;refine⟨k,q,by rw[l,c],o_,?_,fun _=>⟨rfl,rfl⟩⟩;unfold dc;rw[<-hL,<-hL,r]
   ·cases a
   ·cases a
  ·unfold fh at h⊢;rw[j x hx]at h;exact⟨k,e,h,ip _,hv,fun _=>⟨rfl,rfl⟩⟩
 ·rintro x _ ⟨L,h⟩;refine⟨?_,rfl⟩
  by_cases hx:x=b
  ·subst hx;rw[i]at h;cases h;rcases hk with⟨f,g,t1,t2,c,a⟩|⟨_,_,_,_,_,_,a,_⟩|⟨_,_,_,_,_,a⟩|⟨_,_,_,_,a⟩<;>cases a
  ·rw[j x hx]at h;exact⟨L,h⟩
variable{o:Oper}{ρ:dl->AV}{base:Nat}
theorem J7{T:db}{a x:dl}(p:o.op= .store T a x){e:dl->c9}{an off:Nat}{b:List c9}{d:Array c9}{f:db}(j:e a= .pointer (some ⟨an,off,none⟩))
 (hx:(e x).cells.toList=b)(q:P.cellsOf T=b.length/\∃i,P.info? T=some i/\i.size=b.length)(k:w.heap[an]?=some (.cells d f (0,0)))(n:∀c∈b,c.oneCell'=true)(m:off+b.length<=d.size):
 (dq e o).run P w=.ok .skip (w.setRow an (d.toList.take off++b++d.toList.drop (off+b.length)).toArray):=by
 obtain⟨_,i,hi,l⟩:=q;have h:(sizeOf T).run P w=.ok b.length w:=by simp[sizeOf,typeInfo,hi,l]
 have g:=run_storeCells_at (P:=P) an off f b 0 d w k (by simpa using m) n;simp only[i2]at g;have r:(e x).cells.size=b.length:=by rw[<-hx];simp
 simp only[dq,p,Instr.storeAt,j,fp];simp[storeVar,h,r,hx,g]
theorem Cz(u:db)(fs:List AV):aa (iw u fs)=.agg u:=by
 unfold iw;split<;>rfl
theorem XB{t:AV}{c:List (db×Nat)}{x s d:AV}(hs:eX t c=some s)(a:ga t c x=some d)(e:aa s=aa x):aa d=aa t:=by
 cases c with
 |nil=>
  simp only[ga,jp]at a;subst a;have:s=t:=by
   cases t<;>simp[eX]at hs<;>exact hs.symm
  rw[<-e,this]
 |cons p r=>
  obtain⟨u,i⟩:=p;cases t<;>simp only[ga]at a
  case p t=>
   split at a
   case isFalse=>simp at a
   rename_i b
   split at a
   case h_2=>simp at a
   split at a
   case h_2=>simp at a
   simp only[jp]at a;subst a;rw[Cz];simp[aa,b]
  case st u' fs=>
   split at a
   case isFalse=>simp at a
   rename_i b
   split at a
   case h_2=>simp at a
   split at a
   case h_2=>simp at a
   simp only[jp]at a;subst a;rw[Cz];simp[aa,b]
  all_goals simp at a
theorem YR{T:db}{a x:dl}(z:o.op= .store T a x){H0:aj}{K:aY->Prop}(h:nZ P T H0 (ρ a) (ρ x) K):
 ∃e,K e/\bt P o ρ base e/\(∀p∈e.al,H0[p.1]?=some p.2)/\(∀p∈e.aK,p.1<H0.length/\p.2≠.hole):=by
 unfold nZ at h;obtain⟨hk,ab,h⟩:=h
 split at h
 ·rename_i b aq N
  split at h
  case h_2=>exact h.elim
  rename_i t B
  split at h
  case h_2=>exact h.elim
  rename_i s j hs r;obtain⟨J,h⟩:=h;refine⟨_,h,?_,by simpa using B,by simpa using(hw.1 B).1⟩;intro H w ad ah β f l D al _;have d:H[b]?=some (.box false t):=by simpa using al
  obtain⟨g,_⟩:=D a (by simp[z,gg]);obtain⟨aa,M⟩:=D x (by simp[z,gg]);rw[N]at g;simp only[aD,bN,bR]at g;obtain⟨_,am,Z,L,W,U,g⟩:=g;obtain⟨rfl,rfl⟩:=g (.inl ⟨false,t,d⟩);obtain⟨cs,A,k1,k2,k3,k4⟩:=l.cK b _ d;obtain⟨pre,xs,post,e1,e2,e3,e4⟩:=pI k2 hs U;have m:=yz aa ab;have q:(f x).cells.toList.length=xs.length:=by rw[(nU m).1,(nU e3).1,J]
  have ae:cs.size=pre.length+xs.length+post.length:=by
   have:=congrArg hW e1;simp at this;omega
  have C:=J7 z W rfl (ya hk m) k1 (zn m) o_;have aX:(cs.toList.take Z++(f x).cells.toList++cs.toList.drop (Z+(f x).cells.toList.length))=pre++(f x).cells.toList++post:=by
   rw[e1,q,<-e2];simp
  rw[aX]at C;have aN:cw β H β (H.set b (.box false j)):=pB d (.inl ⟨_,_,_,_,rfl,rfl⟩);have Q:∀y,aI H y->aI (H.set b (.box false j)) y:=mj d (fun _ h=>h);have X:∀k,ad k->(w.setRow (β.an b) (pre++(f x).cells.toList++post).toArray).heap[k]?=w.heap[k]?:=fun k S=>eo w _ k _ (fun O=>k3.1 (O▸S));have V:=qK l d trivial (o':=.box false j) trivial (fun _ h=>h) k1 (new:=(pre++(f x).cells.toList++post).toArray) k3 aN
   ⟨_,A,e7 w _ _ _ A _ k1,bn.mono (fun _ x=>x) X aN _ _ (vD r (l.refs b _ d) M) (e4 _ _ _ r m q),k3,s_,by rw[XB hs r J];exact k4.2⟩
   (aG.mono Q _ (vD r (l.refs b _ d) M))
  exact⟨_,_,_,β,ad,C,.inr ⟨rfl,rfl⟩,V,by simp[aD,aF,br,undef],by simp[aG]⟩
 ·rename_i b aC ai i aq N
  split at h
  case h_2=>exact h.elim
  rename_i k aA ay n B;obtain⟨rfl,rfl,ag,hi,h⟩:=h
  split at h
  case h_2=>exact h.elim
  rename_i s j hs r;obtain⟨J,h⟩:=h;refine⟨_,h,?_,by simpa using B,by simpa using(hw.1 B).1⟩;intro H w ad ah β f l D al _;have d:H[b]?=some (.arr k aC ai n):=by simpa using al
  obtain⟨g,_⟩:=D a (by simp[z,gg]);obtain⟨aa,M⟩:=D x (by simp[z,gg]);rw[N]at g;simp only[aD,bN,bR]at g;have I:¬dc k n:=fun G=>by rw[G.2]at hi;simp at hi
  obtain⟨_,am,Z,L,W,U,g⟩:=g;obtain⟨rfl,rfl⟩:=g k n d I;rcases l.cK b _ d with hold|⟨cs,A,ax,rest,k1,k2,k3,k4,k5,k6,k7,k8⟩
  ·exact(I hold).elim
  have af:¬ad (β.an b)/\¬ah (β.an b):=by
   unfold cE at k7;rw[if_neg (by simpa using ag)]at k7;exact k7
  obtain⟨u,c,F,ar,au,az,av,aw⟩:=zU k2 hi;obtain⟨pre,xs,post,e1,e2,e3,e4⟩:=pI av hs U;have m:=yz aa ab;have q:(f x).cells.toList.length=xs.length:=by rw[(nU m).1,(nU e3).1,J]
  have ac:cs.toList=(u++pre)++xs++(post++F++rest):=by rw[k3,ar,e1];simp
  have ae:cs.size=(u++pre).length+xs.length+(post++F++rest).length:=by
   have:=congrArg hW ac;simp at this⊢;omega
  have ap:(u++pre).length=i*ai+L:=by simp[au,e2]
  have C:=J7 z W rfl (ya hk m) k1 (zn m) o_;have aX:(cs.toList.take (i*ai+L)++(f x).cells.toList++cs.toList.drop (i*ai+L+(f x).cells.toList.length))=(u++pre)++(f x).cells.toList++(post++F++rest):=by
   rw[ac,q,<-ap,hG (u++pre),List.take_left',List.drop_append,hG]
   ·simp
   ·rfl
  rw[aX]at C;obtain⟨an,c1,c2⟩:=aw j _ (e4 _ _ _ r m q) (by rw[e1];simp[q]);have aN:cw β H β (H.set b (.arr k aC ai (n.set i j))):=pB d (.inr (.inl ⟨_,_,_,_,_,rfl,rfl,s_⟩));have Q:∀y,aI H y->aI (H.set b (.arr k aC ai (n.set i j))) y:=mj d (fun _ h=>h);have ao:¬dc k (n.set i j):=fun G=>I ⟨G.1,by have:=G.2;rw[List.set_eq_nil_iff]at this;exact this⟩;have ak:aV (aI H) (n.set i j):=by
   rw[cM];intro v Y;rcases hJ Y with Y|rfl
   ·exact cM.1 (l.refs b _ d) v Y
   ·exact vD r (cM.1 (l.refs b _ d) _ (h5 hi)) M
  have X:∀E,ad E->(w.setRow (β.an b) ((u++pre)++(f x).cells.toList++(post++F++rest)).toArray).heap[E]?=w.heap[E]?:=fun E S=>eo w _ E _ (fun O=>af.1 (O▸S));have V:=qK l d I (o':=.arr k aC ai (n.set i j)) ao (fun _ h=>h) k1 (new:=((u++pre)++(f x).cells.toList++(post++F++rest)).toArray) af aN
   (.inr ⟨_,A,an,rest,e7 w _ _ _ A _ k1,bM.mono (fun _ x=>x) X aN _ _ _ ak c2,by rw[c1];simp,by
    rw[<-k4,ae];simp[q];omega,by simpa using k5,fun R=>by rw[k6 R];simp,k7,(fun R=>(ag R).elim),k8.2⟩)
   (aV.mono Q _ ak)
  exact⟨_,_,_,β,ad,C,.inr ⟨rfl,rfl⟩,V,by simp[aD,aF,br,undef],by simp[aG]⟩
 ·exact h.elim
end
section
variable{P:da}{w:dg}{ad ah:Nat->Prop}{β:Bd}{H:aj}
theorem BU(P:da)(T:db):P.underlying T=(P.info? (P.underlyingId T)).map (fun i:ed=>i.desc):=by
 unfold gw gx;cases hi:P.info? T with
 |none=>simp[hi]
 |some i=>
  obtain⟨d,_,_,_,_,_,_,_,_,_⟩:=i;cases d<;>simp[hi]
theorem Cg{T u:db}(h:kindOf P T=.agg u):u=P.underlyingId T/\(∃l,dA P u=some l)/\P.cellsOf T=P.cellsOf u:=by
 unfold kindOf at h
 split at h
 ·split at h
  ·rename_i hc;simp at h;subst h;simp at hc;exact⟨rfl,i9.1 hc.1,hc.2⟩
  ·simp at h
 ·split at h
  ·rename_i hc;simp at h;subst h;simp at hc;exact⟨rfl,i9.1 hc.1,hc.2⟩
  ·simp at h
 ·split at h<;>simp at h
 ·simp at h
theorem vf{T u:db}{n:Nat}(h:fj P T=some (u,n)):∃fs l,P.underlying T=some (.struct fs)/\fs.size=n/\kindOf P T= .agg u/\dA P u=some l/\l.length=n/\
 ∀(i:Nat)(_hi:i<n),∃f,fs[i]?=some f/\f.offset=(l.take i).sum/\l[i]?=some (P.cellsOf f.type)/\0<P.cellsOf f.type/\(jn P u)[i]?=some f.type:=by
 unfold fj at h
 split at h
 case h_2=>simp at h
 rename_i u' fs hk c;simp at h;obtain⟨rfl,rfl⟩:=h;obtain⟨g,⟨l,a⟩,_⟩:=Cg hk;refine⟨fs,l,c,rfl,hk,a,?_⟩;have b:(P.info? u').map (fun i:ed=>i.desc)=some (.struct fs):=by rw[g,<-BU,c]
 unfold dA at a;rw[b]at a;dsimp only at a
 split at a
 case isFalse=>simp at a
 rename_i hc;simp at a;simp only[c6,h6,decide_eq_true_eq,beq_iff_eq]at hc;obtain⟨⟨d,j⟩,e⟩:=hc;subst a;refine⟨s_,fun i hi=>?_⟩;refine⟨fs[i],by simp[hi],?_,by simp[hi],?_,?_⟩
 ·have:=e (fs[i],i) (by rw[List.mem_iff_getElem?];exact⟨i,by simp[hi]⟩);simpa using this
 ·have:=d (P.cellsOf fs[i].type) (by simp;exact⟨fs[i],s_,rfl⟩);exact this
 ·unfold jn;rw[b];simp[hi]
theorem tK{T u:db}{n:Nat}(h:gP P T=some (u,n)):∃e,P.underlying T=some (.array n e)/\kindOf P T=.agg u/\dA P u=some (hz n (P.cellsOf e))/\0<P.cellsOf e:=by
 unfold gP at h
 split at h
 case h_2=>simp at h
 rename_i u' g e hk b;simp at h;obtain⟨rfl,rfl⟩:=h;obtain⟨d,⟨l,a⟩,_⟩:=Cg hk;have c:(P.info? u').map (fun i:ed=>i.desc)=some (.array g e):=by rw[d,<-BU,b]
 have f:=a;unfold dA at a;rw[c]at a;dsimp only at a
 split at a
 case isFalse=>simp at a
 rename_i hc;simp at a hc;exact⟨e,b,hk,by rw[f,a],hc.1⟩
theorem yb{p q:List (db×Nat)}{a b:Nat}(c:gA P p=some a)(f:gA P q=some b):gA P (p++q)=some (a+b):=by
 induction p generalizing a with
 |nil=>simp[gA]at c;subst c;simpa using f
 |cons x p g=>
  obtain⟨u,i⟩:=x;simp only[gA]at c;cases d:dA P u with
  |none=>simp[d]at c
  |some l=>
   cases e:gA P p with
   |none=>simp[d,e]at c
   |some a'=>
    simp[d,e]at c;obtain⟨hi,rfl⟩:=c;simp only[hU,gA,d,g e,if_pos hi];congr 1;omega
theorem yh{u:db}{i:Nat}{l:List Nat}(a:dA P u=some l)(hi:i<l.length):gA P [(u,i)]=some (l.take i).sum:=by
 simp[gA,a,hi]
variable{o:Oper}{ρ:dl->AV}{base:Nat}
theorem kM(an off n:Nat):(⟨an,off,none⟩:Addr).add n=⟨an,off+n,none⟩:=by unfold Addr.add;split<;>simp_all
theorem Uw{T:db}{a:dl}{f:Nat}(v:o.op= .fieldAddr T a f){K:aY->Prop}(h:nQ P T (ρ a) f K):
 ∃e,K e/\bt P o ρ base e/\e.al=[]/\e.aK=[]:=by
 unfold nQ at h
 split at h
 case h_2=>exact h.elim
 rename_i u n aN;obtain⟨hf,h⟩:=h;obtain⟨fs,l,L,x,hk,G,O,E⟩:=vf aN;obtain⟨fd,g1,g2,g3,g4,g5⟩:=E f hf;have z:=yh G (by omega:f<l.length);have B:∀(w:dg)(d:dl->c9)(an off:Nat),d a=.pointer (some ⟨an,off,none⟩)->(dq d o).run P w=.ok (.value (.pointer (some ⟨an,off+(l.take f).sum,none⟩))) w:=by
  intro w d an off m;obtain⟨i,hi⟩:∃i,P.info? fd.type=some i:=by
   cases hi:P.info? fd.type with
   |none=>simp[gt,hi]at g4
   |some i=>exact⟨i,rfl⟩
  have J:(sizeOf fd.type).run P w=.ok (P.cellsOf fd.type) w:=by simp[sizeOf,typeInfo,hi,gt]
  simp only[dq,v];refine eE ?_;have I:¬P.cellsOf fd.type=0:=o_
  simp[Instr.fieldAt,dk L,g1,m,fp,fieldPlace,J,I,kM,g2]
 split at h
 ·rename_i b N m;refine⟨_,h,bt.same fun H w ad ah β d D r _=>?_,rfl,rfl⟩;obtain⟨c,j⟩:=r a (by simp[v,gg]);rw[m]at c j;simp only[aD,bN,bR,aG]at c j;obtain⟨_,an,off,M,A,y,p⟩:=c;refine⟨_,B w d _ _ A,?_,by simpa[aG]using j⟩;simp only[aD,bN,bR];exact⟨rfl,_,_,_,rfl,yb y z,fun q=>⟨(p q).1,by rw[(p q).2]⟩⟩
 ·rename_i b aC ai i N m;refine⟨_,h,bt.same fun H w ad ah β d D r _=>?_,rfl,rfl⟩;obtain⟨c,j⟩:=r a (by simp[v,gg]);rw[m]at c j;simp only[aD,bN,bR,aG]at c j;obtain⟨_,an,off,M,A,y,p⟩:=c;refine⟨_,B w d _ _ A,?_,by simpa[aG]using j⟩;simp only[aD,bN,bR];exact⟨rfl,_,_,_,rfl,yb y z,fun k C q x=>⟨(p k C q x).1,by rw[(p k C q x).2];omega⟩⟩
 ·rename_i t m;obtain⟨hs,h⟩:=h
  split at h
  case h_2=>exact h.elim
  rename_i g F;refine⟨_,h,?_,rfl,rfl⟩;refine bt.same fun H w ad ah β d D r _=>?_;obtain⟨c,_⟩:=r a (by simp[v,gg]);rw[m]at c;simp only[aD,aF]at c;obtain⟨an,off,Q,k1,k2,k3,k4⟩:=c;refine⟨_,B w d _ _ k4,?_,by simp[aG]⟩;obtain⟨pre,xs,post,e1,e2,e3⟩:=za (path:=[(u,f)]) (s:=g) k1 (by simp[lA,hs,F]) z;simp only[aD,aF];refine⟨an,off+(l.take f).sum,xs,e3,k2,?_,rfl⟩;intro i hi;have:=k3 (pre.length+i) (by rw[e1];simp;omega);rw[<-e2,i4,this];congr 1;simp only[e1,hG];rw[hX o_];simp only[i0];rw[hZ hi]
 ·exact h.elim
end
section
variable{P:da}{w:dg}{ad ah:Nat->Prop}{β:Bd}{H:aj}
variable{o:Oper}{ρ:dl->AV}{base:Nat}
theorem tj{an off:Nat}{a pre xs post:List c9}(h:gZ w an off a)(e:a=pre++xs++post):gZ w an (off+pre.length) xs:=by
 intro i hi;have:=h (pre.length+i) (by rw[e];simp;omega);rw[i4,this];congr 1;simp only[e,hG];rw[hX o_];simp only[i0];rw[hZ hi]
structure qQ(P:da)(T:db)(sz:Nat)(e:db)(i:ed):Prop where
 gK:P.underlying T=some (.slice e)
 info:P.info? e=some i
 size:i.size=sz
 pos:0<sz
 bytes:i.bytes<32768
 aMw:0<i.bytes
 qB:ek P T=e
theorem kG{T:db}{sz:Nat}(h:cJ P T=some sz):∃e i,qQ P T sz e i:=by
 unfold cJ at h
 split at h
 case h_2=>simp at h
 rename_i e a
 split at h
 case h_2=>simp at h
 rename_i i hi
 split at h
 case isFalse=>simp at h
 rename_i hc;simp at h;subst h;exact⟨e,i,a,hi,rfl,hc.2.1,hc.1,hc.2.2,by simp[ek,a]⟩
theorem qQ.run{T:db}{sz:Nat}{e:db}{i:ed}(h:qQ P T sz e i)(w:dg):(sizeOf e).run P w=.ok sz w:=by
 simp[sizeOf,typeInfo,h.info,h.size]
theorem Uv{T:db}{x S:dl}(B:o.op= .indexAddr T x S){H0:aj}{K:aY->Prop}(h:nP P T H0 (ρ x) (ρ S) K):
 ∃e,K e/\bt P o ρ base e/\(∀p∈e.al,H0[p.1]?=some p.2)/\e.aK=[]:=by
 unfold nP at h
 split at h
 case h_2=>exact h.elim
 rename_i ar n am;obtain⟨C,h⟩:=h;have E:x∈o.op.operands:=by simp[B,gg]
 have ao:S∈o.op.operands:=by simp[B,gg]
 have D:∀{H:aj}{w:dg}{ad:Nat->Prop}{β:Bd}{z:dl->c9},(∀y∈o.op.operands,aD P w ad β H (ρ y) (z y)/\aG (aI H) (ρ y))->z S=.int ar n:=by
  intro H w ad β z f;have:=(f S ao).1;rw[am]at this;simpa[aD,aF]using this
 split at h
 ·
  rename_i full d hx;obtain⟨j,r,h⟩:=h;obtain⟨e,ag,A⟩:=kG r;refine⟨_,h,bt.same fun H w ad ah β z O f _=>?_,s_,rfl⟩;obtain⟨a,_⟩:=f x E;rw[hx]at a;simp only[aD,aF]at a;obtain⟨an,off,cap,ai,V,k1,k2,k3,k4,k5,sp,aa,k6⟩:=a;obtain rfl:sp=none:=aa.resolve_right o_;have Z:Row P w ad ⟨id,id⟩ [] ai (d.map .p) V:=mi.2 k1;obtain⟨pre,c,post,ab,ac,ae,U,_⟩:=zU Z (i:=n.toNat) (by simpa using j);have M:aZ P w ad d[n.toNat] c:=by
   have:(d.map AV.p)[n.toNat]'(by simpa using j)=.p d[n.toNat]:=s_
   rw[this]at U;simpa only[bn]using U
  have W:bG P (aL d[n.toNat])=ai:=by rw[<-(py M).1,ae]
  refine⟨.pointer (some ⟨an,off+n.toNat*ai,none⟩),?_,?_,by simp[aG]⟩
  ·simp only[dq,B];refine eE ?_;have q:n<(d.length:Int):=by omega
   simp[fv,D f,asIntOf,dk A.gK,k6,C,q,A.run,W,kM]
  ·simp only[aD,aF];refine⟨an,off+n.toNat*ai,c,M,k2 (by intro F;rw[F]at j;simp at j),?_,rfl⟩;rw[<-ac];exact tj k3 ab
 ·
  rename_i d hx;obtain⟨j,r,h⟩:=h;obtain⟨e,ag,A⟩:=kG r;refine⟨_,h,bt.same fun H w ad ah β z O f _=>?_,s_,rfl⟩;obtain⟨a,_⟩:=f x E;rw[hx]at a;simp only[aD,aF]at a;rcases a with⟨rfl,_⟩|⟨an,off,cap,ai,V,k1,k2,k3,k5,sp,aa,k6⟩
  ·simp at j
  obtain rfl:sp=none:=aa.resolve_right o_;have Z:Row P w ad ⟨id,id⟩ [] ai (d.map .p) V:=mi.2 k1;obtain⟨pre,c,post,ab,ac,ae,U,_⟩:=zU Z (i:=n.toNat) (by simpa using j);have M:aZ P w ad d[n.toNat] c:=by
   have:(d.map AV.p)[n.toNat]'(by simpa using j)=.p d[n.toNat]:=s_
   rw[this]at U;simpa only[bn]using U
  have W:bG P (aL d[n.toNat])=ai:=by rw[<-(py M).1,ae]
  refine⟨.pointer (some ⟨an,off+n.toNat*ai,none⟩),?_,?_,by simp[aG]⟩
  ·simp only[dq,B];refine eE ?_;have q:n<(d.length:Int):=by omega
   simp[fv,D f,asIntOf,dk A.gK,k6,C,q,A.run,W,kM]
  ·simp only[aD,aF];refine⟨an,off+n.toNat*ai,c,M,k2 (by intro F;rw[F]at j;simp at j),?_,rfl⟩;rw[<-ac];exact tj k3 ab
 ·
  rename_i b aC ai off len hx;obtain⟨r,j,h⟩:=h;obtain⟨e,ag,A⟩:=kG r
  split at h
  case h_2=>exact h.elim
  rename_i k aB ax d aq;obtain⟨rfl,rfl,ap,h⟩:=h;refine⟨_,h,bt.same fun H w ad ah β z O f al=>?_,by simpa using aq,rfl⟩;obtain⟨a,l⟩:=f x E;rw[hx]at a l;simp only[aD,bN,bR,aG]at a l;have af:H[b]?=some (.arr k aC ai d):=by simpa using al
  obtain⟨g1,g2,g3⟩:=a.2 k d af;have g3:=g3 ap;refine⟨.pointer (some ⟨β.an b,off*ai+n.toNat*ai,none⟩),?_,?_,by simpa[aG]using l⟩
  ·simp only[dq,B];refine eE ?_;have q:n<(len:Int):=by omega
   simp[fv,D f,asIntOf,dk A.gK,g3,C,q,A.run,kM]
  ·simp only[aD,bN,bR];refine⟨rfl,_,_,0,rfl,rfl,fun az aw v ay=>?_⟩;unfold fh at v;rw[af]at v;cases v;exact⟨rfl,by rw[Nat.add_mul];simp⟩
 ·
  rename_i b av hx
  split at h
  case h_2=>exact h.elim
  rename_i u m G;obtain⟨j,h⟩:=h;obtain⟨e,R,hk,I,N⟩:=tK G;refine⟨_,h,bt.same fun H w ad ah β z O f _=>?_,s_,rfl⟩;obtain⟨a,l⟩:=f x E;rw[hx]at a l;simp only[aD,bN,bR,aG]at a l;obtain⟨_,an,off,au,Y,X,v⟩:=a;have L:=yh I (i:=n.toNat) (by simpa using j);have Q:((hz m (P.cellsOf e)).take n.toNat).sum=n.toNat*P.cellsOf e:=by rw[hE,ix o_,hC]
  have r:(sizeOf e).run P w=.ok (P.cellsOf e) w:=by
   cases hi:P.info? e with
   |none=>simp[gt,hi]at N
   |some i=>simp[sizeOf,typeInfo,hi,gt]
  refine⟨.pointer (some ⟨an,off+n.toNat*P.cellsOf e,none⟩),?_,?_,by simpa[aG]using l⟩
  ·simp only[dq,B];refine eE ?_;have q:n<(m:Int):=by omega
   simp[fv,D f,asIntOf,dk R,Y,fp,C,q,r,kM]
  ·simp only[aD,bN,bR];exact⟨rfl,_,_,_,rfl,yb X L,fun J=>⟨(v J).1,by rw[(v J).2,Q]⟩⟩
 ·rename_i b aC ai i av hx
  split at h
  case h_2=>exact h.elim
  rename_i u m G;obtain⟨j,h⟩:=h;obtain⟨e,R,hk,I,N⟩:=tK G;refine⟨_,h,bt.same fun H w ad ah β z O f _=>?_,s_,rfl⟩;obtain⟨a,l⟩:=f x E;rw[hx]at a l;simp only[aD,bN,bR,aG]at a l;obtain⟨_,an,off,au,Y,X,v⟩:=a;have L:=yh I (i:=n.toNat) (by simpa using j);have Q:((hz m (P.cellsOf e)).take n.toNat).sum=n.toNat*P.cellsOf e:=by rw[hE,ix o_,hC]
  have r:(sizeOf e).run P w=.ok (P.cellsOf e) w:=by
   cases hi:P.info? e with
   |none=>simp[gt,hi]at N
   |some i=>simp[sizeOf,typeInfo,hi,gt]
  refine⟨.pointer (some ⟨an,off+n.toNat*P.cellsOf e,none⟩),?_,?_,by simpa[aG]using l⟩
  ·simp only[dq,B];refine eE ?_;have q:n<(m:Int):=by omega
   simp[fv,D f,asIntOf,dk R,Y,fp,C,q,r,kM]
  ·simp only[aD,bN,bR];exact⟨rfl,_,_,_,rfl,yb X L,fun k d J F=>⟨(v k d J F).1,by rw[(v k d J F).2,Q];omega⟩⟩
 ·rename_i t hx
  split at h
  case h_2=>exact h.elim
  rename_i u m G;obtain⟨hs,j,h⟩:=h
  split at h
  case h_2=>exact h.elim
  rename_i g ak;obtain⟨e,R,hk,I,N⟩:=tK G;refine⟨_,h,bt.same fun H w ad ah β z O f _=>?_,s_,rfl⟩;obtain⟨a,_⟩:=f x E;rw[hx]at a;simp only[aD,aF]at a;obtain⟨an,off,aA,k1,k2,k3,k4⟩:=a;have L:=yh I (i:=n.toNat) (by simpa using j);have Q:((hz m (P.cellsOf e)).take n.toNat).sum=n.toNat*P.cellsOf e:=by rw[hE,ix o_,hC]
  have r:(sizeOf e).run P w=.ok (P.cellsOf e) w:=by
   cases hi:P.info? e with
   |none=>simp[gt,hi]at N
   |some i=>simp[sizeOf,typeInfo,hi,gt]
  obtain⟨pre,xs,post,e1,e2,e3⟩:=za (path:=[(u,n.toNat)]) (s:=g) k1 (by simp[lA,hs,ak]) L;refine⟨.pointer (some ⟨an,off+n.toNat*P.cellsOf e,none⟩),?_,?_,by simp[aG]⟩
  ·simp only[dq,B];refine eE ?_;have q:n<(m:Int):=by omega
   simp[fv,D f,asIntOf,dk R,k4,fp,C,q,r,kM]
  ·simp only[aD,aF];refine⟨an,_,xs,e3,k2,?_,rfl⟩;rw[<-Q,<-e2];exact tj k3 e1
 ·exact h.elim
theorem aIj{bs:ByteArray}{s:List Nat}(h:s=bs.data.toList.map (·.toNat)){i:Nat}(hi:i<s.length):∃b:UInt8,bs[i]?=some b/\b.toNat=s[i]:=by
 subst h;have a:i<bs.size:=by simpa using hi
 refine⟨bs[i],by simp[a],?_⟩;simp only[List.getElem_map,b4];rfl
theorem Vv{T:db}{x f:dl}{s:List Nat}{k:em}{n:Int}(e:o.op= .index T x f)(hx:ρ x= .p (.str s))(hi:ρ f= .p (.int k n))(d:iK P T=true)(i:0<=n)(g:n.toNat<s.length):
 bt P o ρ base {v:=.p (.int .u8 (s[n.toNat]'g))}:=by
 refine bt.same fun H w ad ah β m l h _=>?_;have a:=(h x (by simp[e,gg])).1;have c:=(h f (by simp[e,gg])).1;rw[hx]at a;rw[hi]at c;simp only[aD,aF]at a c;obtain⟨bs,e1,e2⟩:=a;obtain⟨b,g1,g2⟩:=aIj e2 g;have j:P.underlying T=some .string:=by
  unfold iK at d
  split at d
  ·assumption
  ·simp at d
 refine⟨.int .u8 b.toNat,?_,by simp[aD,aF,g2],by simp[aG]⟩;simp only[dq,e,e1,c];refine eE ?_;simp[Instr.index,asIntOf,dk j,i,g1]
theorem VR{S D:db}{x:dl}{k k0:em}{n:Int}(b:o.op= .convert S D x)(e:∃d,P.underlying S=some d)(c:P.underlying D=some (.int k))(hx:ρ x= .p (.int k0 n)):
 bt P o ρ base {v:=.p (.int k (k.wrap n))}:=by
 refine bt.same fun H w ad ah β i h g _=>?_;have a:=(g x (by simp[b,gg])).1;rw[hx]at a;simp only[aD,aF]at a;obtain⟨d,f⟩:=e;refine⟨.int k (k.wrap n),?_,by simp[aD,aF],by simp[aG]⟩;simp only[dq,b,a];refine eE ?_;simp[convert,dk f,dk c,Conv.intToInt]
theorem VQ{S D:db}{x:dl}{s:List Nat}(b:o.op= .convert S D x)(e:∃d,P.underlying S=some d)(c:P.underlying D=some .string)(hx:ρ x= .p (.str s)):
 bt P o ρ base {v:=.p (.str s)}:=by
 refine bt.same fun H w ad ah β i h g _=>?_;have a:=(g x (by simp[b,gg])).1;rw[hx]at a;simp only[aD,aF]at a;obtain⟨bs,e1,e2⟩:=a;obtain⟨d,f⟩:=e;refine⟨.string bs,?_,by simp only[aD,aF];exact⟨bs,rfl,e2⟩,by simp[aG]⟩;simp only[dq,b,e1];refine eE ?_;simp only[convert,g7,dk f,dk c,g0];cases d<;>simp
theorem WH{b aC ai off len:Nat}{k:AK}{d:List AV}{v:c9}(h:aD P w ad β H (.sl b aC ai off len) v)(j:H[b]?=some (.arr k aC ai d)):∃a c,v=.slice a len c:=by
 simp only[aD,bN,bR]at h;obtain⟨f,g,i⟩:=h.2 k d j
 by_cases e:dc k d
 ·rw[g e];have:len=0:=by rw[e.2]at f;simp at f;omega
  subst this;exact⟨_,_,rfl⟩
 ·exact⟨_,_,i e⟩
theorem Cm:∀{b:List (PV×PV)}{a:List eq},cF P w ad b a->a.length=b.length
 |[],a,h=>by simp only[cF]at h;subst h;rfl
 |(k,v)::r,a,h=>by
  simp only[cF]at h;obtain⟨e,rest,rfl,d,f,c⟩:=h;simp[Cm c]
theorem aGT{c:Call}{x:dl}{n:Nat}{al:List (Nat×Obj)}{H0:aj}(G:o.op= .call c)(hc:c.callee= .builtin .len)(E:c.args.toList=[x])(i:lenOf H0 (ρ x)=some (n,al))(d:il P (c.argTypes.getD 0 0) (ρ x)=true)(O:0<c.argTypes.size):
 bt P o ρ base {v:=.p (.int .i64 n),al}/\(∀p∈al,H0[p.1]?=some p.2):=by
 have u:x∈o.op.operands:=by
  rw[G];simp only[gg,Call.operands,hc];simp;rw[<-bV,E];simp
 have J:c.args=#[x]:=by apply cv;simpa using E
 have q:c.argTypes[0]?=some (c.argTypes.getD 0 0):=by simp[ck,O]
 have t:∀{H:aj}{w:dg}{ad:Nat->Prop}{β:Bd}{m:dl->c9},((e9 c.argTypes o.type #[m x]).run P w= .ok (goInt n) w)->
  ∃D,(dq m o).run P w=.ok (.value D) w/\aD P w ad β H (.p (.int .i64 n)) D/\aG (aI H) (.p (.int .i64 n)):=by
  intro H w ad β m L;refine⟨goInt n,?_,by simp[aD,aF,goInt],by simp[aG]⟩;simp only[dq,G,resolve,hc,J];simp[invoke,builtin,L]
 have N:∀T:db,iK P T=true->P.underlying T=some .string:=by
  intro T h;unfold iK at h
  split at h
  ·assumption
  ·simp at h
 generalize R:c.argTypes.getD 0 0=T at*;unfold lenOf at i
 split at i
 ·rename_i s hx;simp at i;obtain⟨rfl,rfl⟩:=i;rw[hx]at d;simp only[il]at d;refine⟨bt.same fun H w ad ah β m y j _=>t ?_,s_⟩;have g:=(j x u).1;rw[hx]at g;simp only[aD,aF]at g;obtain⟨bs,e1,e2⟩:=g;have hs:s.length=bs.size:=by rw[e2];simp
  simp[e9,q,dk (N _ d),e1,hs]
 ·rename_i hx;simp at i;obtain⟨rfl,rfl⟩:=i;rw[hx]at d;refine⟨bt.same fun H w ad ah β m y j _=>t ?_,s_⟩;have g:=(j x u).1;rw[hx]at g;simp only[aD,aF]at g;simp only[il]at d
  split at d
  ·rename_i e l;simp[e9,q,dk l,g]
  ·simp at d
 ·rename_i hx;simp at i;obtain⟨rfl,rfl⟩:=i;rw[hx]at d;refine⟨bt.same fun H w ad ah β m y j _=>t ?_,s_⟩;have g:=(j x u).1;rw[hx]at g;simp only[aD,aF]at g;simp only[il]at d
  split at d
  ·rename_i k e l;simp[e9,q,dk l,g]
  ·simp at d
 ·rename_i f z hx;simp at i;obtain⟨rfl,rfl⟩:=i;rw[hx]at d;refine⟨bt.same fun H w ad ah β m y j _=>t ?_,s_⟩;have g:=(j x u).1;rw[hx]at g;simp only[aD,aF]at g;obtain⟨an,off,cap,ai,I,k1,k2,k3,k4,k5,sp,M,k6⟩:=g;simp only[il]at d
  split at d
  ·rename_i e l;simp[e9,q,dk l,k6]
  ·simp at d
 ·rename_i z hx;simp at i;obtain⟨rfl,rfl⟩:=i;rw[hx]at d;refine⟨bt.same fun H w ad ah β m y j _=>t ?_,s_⟩;have g:=(j x u).1;rw[hx]at g;simp only[aD,aF]at g;simp only[il]at d
  split at d
  ·rename_i e l;rcases g with⟨rfl,k6⟩|⟨an,off,cap,ai,I,k1,k2,k3,k5,sp,M,k6⟩
   ·simp[e9,q,dk l,k6]
   ·simp[e9,q,dk l,k6]
  ·simp at d
 ·rename_i z hx;simp at i;obtain⟨rfl,rfl⟩:=i;rw[hx]at d;refine⟨bt.same fun H w ad ah β m y j _=>t ?_,s_⟩;have g:=(j x u).1;rw[hx]at g;simp only[aD,aF]at g;obtain⟨r,A,clock,k1,k2,k3,k4⟩:=g;simp only[il]at d
  split at d
  ·rename_i k e l;have:=Cm k3;have B:(getObj r).run P w=.ok (.map A clock) w:=by simp[getObj,g9,k2]
   simp at this;simp[e9,q,dk l,k4,B,this]
  ·simp at d
 ·rename_i b aC ai off len hx
  split at i
  case h_2=>simp at i
  rename_i k S Q z C
  split at i
  case isFalse=>simp at i
  rename_i K;obtain⟨rfl,rfl⟩:=K;simp at i;obtain⟨rfl,rfl⟩:=i;rw[hx]at d;refine⟨bt.same fun H w ad ah β m y j al=>t ?_,by simpa using C⟩;have g:=(j x u).1;rw[hx]at g;obtain⟨a,cp,e1⟩:=WH g (by simpa using al);simp only[il]at d
  split at d
  ·rename_i e l;simp[e9,q,dk l,e1]
  ·simp at d
 ·rename_i b hx
  split at i
  case h_2=>simp at i
  rename_i fz z C;simp at i;obtain⟨rfl,rfl⟩:=i;rw[hx]at d;refine⟨bt.same fun H w ad ah β m y j al=>t ?_,by simpa using C⟩;have g:=(j x u).1;rw[hx]at g;simp only[aD,bN,bR]at g;have F:H[b]?=some (.map fz z):=by simpa using al
  obtain⟨A,clock,k2,k3,_⟩:=y.cK b _ F;have e1:=g.2.1 ⟨_,F,trivial⟩;simp only[il]at d
  split at d
  ·rename_i k e l;have:=Cm k3;have B:(getObj (β.an b)).run P w=.ok (.map A clock) w:=by simp[getObj,g9,k2]
   simp at this;simp[e9,q,dk l,e1,B,this]
  ·simp at d
 ·simp at i
end
section
variable{P:da}{w:dg}{ad ah:Nat->Prop}{β:Bd}{H:aj}
variable{o:Oper}{ρ:dl->AV}{base:Nat}
theorem LM:∀(a:List c9)(off j:Nat)(cells:Array c9),off+j+a.length<=cells.size->
 ((a.zipIdx j).foldl (fun cs(p:c9×Nat)=>cs.setIfInBounds (off+p.2) p.1) cells).toList=cells.toList.take (off+j)++a++cells.toList.drop (off+j+a.length)
 |[],off,j,cells,_=>by simp
 |x::a,off,j,cells,h=>by
  simp only[List.zipIdx_cons,List.foldl_cons];rw[LM a off (j+1) _ (by simp at h⊢;omega)];simp only[Array.toList_setIfInBounds,hR];have d:off+j<cells.toList.length:=by simp at h⊢;omega
  rw[show off+(j+1)=off+j+1 by omega];have b:(cells.toList.set (off+j) x).take (off+j+1)=cells.toList.take (off+j)++[x]:=by
   rw[List.take_succ_eq_append_getElem (by simpa using d)];rw[List.take_set_of_le (ip _)];simp
  have c:(cells.toList.set (off+j) x).drop (off+j+1+a.length)=cells.toList.drop (off+j+(a.length+1)):=by
   rw[List.drop_set_of_lt o_];congr 1;omega
  rw[b,c];simp
theorem UN{a c post b:List c9}(h:b.length=c.length):((a++c++post).take a.length++b++(a++c++post).drop (a.length+b.length))=a++b++post:=by
 rw[h];simp
theorem Ck{l:List Nat}{place:Nat->Option (Nat×Nat)}(s:∀i n,l[i]?=some n->place i=some ((l.take i).sum,n)):
 ∀{f:List (Nat×AV)}{j:List (Nat×c9)}{fs:List AV}{e:List (List c9)}{cells:Array c9},j.map j1=f.map j1->(∀i:Nat,aD P w ad β H (((f[i]?).map jF).getD (.p .undef)) (((j[i]?).map jF).getD undef))->
  mf P l f->bM P w ad β H l fs e->cells.toList=e.flatten->
  ∃g m,gc place cells j=some g/\bM P w ad β H l (iI fs f) m/\g.toList=m.flatten
 |[],[],fs,e,cells,_,_,_,h,hc=>⟨cells,e,rfl,h,hc⟩
 |[],_::_,_,_,_,b,_,_,_,_=>by simp at b
 |_::_,[],_,_,_,b,_,_,_,_=>by simp at b
 |(i,a)::f,(d,v)::j,fs,e,cells,b,t,o,h,hc=>by
  simp only[hM,List.cons.injEq]at b;obtain⟨rfl,b⟩:=b;simp only[mf]at o;obtain⟨⟨n,q,hs,B⟩,o⟩:=o;have G:aD P w ad β H a v:=by simpa using t 0
  have y:=fun k=>t (k+1);simp only[h0]at y;have L:=yd h;have K:d<l.length:=(hw.1 q).1;have C:d<fs.length:=o_
  obtain⟨pre,c,post,e1,e2,e3,e4,e5,A⟩:=tO h (hD C);have J:c.length=n:=by rw[q]at e4;simpa using e4.symm
  have u:=yz G B;have x:v.cells.toList.length=n:=by rw[(nU u).1,hs]
  obtain⟨m,k1,k2⟩:=A a _ u o_;have F:cells.size=pre.length+c.length+post.length:=by
   have:=congrArg hW (hc.trans e1);simp at this;omega
  have I:v.cells.size=n:=by simpa using x
  obtain⟨oA,r⟩:∃oA,(v.cells.zipIdx.foldl (fun cs(p:c9×Nat)=>cs.setIfInBounds ((l.take d).sum+p.2) p.1) cells)=oA:=⟨_,rfl⟩
  have D:oA.toList=m.flatten:=by
   rw[<-r,k1];have:=LM v.cells.toList (l.take d).sum 0 cells (by rw[<-e2];simp at x⊢;omega);rw[<-cb];simp only[Array.toList_zipIdx];rw[this,hc,e1,i2,<-e2];exact UN o_
  obtain⟨g,z,g1,g2,g3⟩:=Ck s b y o k2 D;refine⟨g,z,?_,by simpa only[iI]using g2,g3⟩;have E:¬(v.cells.size≠n\/(l.take d).sum+v.cells.size>cells.size):=by
   rw[I,F,<-e2];omega
  simp only[gc,s d n q];simp only[Bool.or_eq_true,decide_eq_true_eq,E,if_false];simp only[<-r]at g1;exact g1
end
section
variable{P:da}{w:dg}{ad ah:Nat->Prop}{β:Bd}{H:aj}
variable{o:Oper}{ρ:dl->AV}{base:Nat}
theorem IK{α γ:Type}(f:α->Sem γ)(g:α->γ)(w:dg):∀l:List α,(∀a∈l,(f a).run P w=.ok (g a) w)->(l.mapM f).run P w=.ok (l.map g) w
 |[],_=>by simp
 |a::l,h=>by
  simp only[h9,g7,h a s_,g0,IK f g w l (fun b c=>h b (by simp[c])),hM];rfl
theorem Ui{α γ:Type}(f:α->Sem γ)(g:α->γ)(w:dg)(a:Array α)(h:∀x∈a.toList,(f x).run P w=.ok (g x) w):(a.mapM f).run P w=.ok (a.toList.map g).toArray w:=by
 rw[b2,ha,IK f g w _ h];rfl
theorem KG{ρc:dl->c9}{parts:Array (Nat×dl)}(h:∀p∈parts.toList,aD P w ad β H (ρ p.2) (ρc p.2)):
 ((parts.map fun(i,x)=>(i,ρc x)).toList).map j1=(parts.toList.map fun(i,x)=>(i,ρ x)).map j1/\
 ∀i:Nat,aD P w ad β H ((((parts.toList.map fun(i,x)=>(i,ρ x))[i]?).map jF).getD (.p .undef)) ((((parts.map fun(i,x)=>(i,ρc x)).toList[i]?).map jF).getD undef):=by
 refine⟨by simp[Function.comp_def],fun i=>?_⟩;simp only[cc,h4];cases a:parts.toList[i]? with
 |none=>simp[aD,aF]
 |some p=>simpa using h p (hH a)
theorem CH{S:Nat×Nat->Prop}:∀{b:List (Nat×AV)}{fs:List AV},aV S fs->(∀p∈b,aG S p.2)->aV S (iI fs b)
 |[],fs,h,_=>h
 |(i,v)::r,fs,h,a=>by
  simp only[iI];refine CH ?_ (fun p c=>a p (by simp[c]));rw[cM]at h⊢;intro x hx;rcases hJ hx with hx|rfl
  ·exact h x hx
  ·exact a (i,x) s_
theorem KH{c:Array (Nat×dl)}{p:Nat×dl}(a:p∈c.toList):p.2∈((c.toList.map (·.2)).toArray:Array dl):=by
 simp;exact⟨p.1,by simpa using a⟩
theorem Yd{T u:db}{z:PV}{l:List Nat}{c:Array (Nat×dl)}(y:o.op= .build T c)(hk:kindOf P T= .agg u)(U:cB P T=some z)(s:dA P u=some l)(hs:aL z= .agg u)
 (O:mf P l (c.toList.map fun(i,x)=>(i,ρ x))):bt P o ρ base {v:=iw u (iI ((bY z).map .p) (c.toList.map fun(i,x)=>(i,ρ x)))}:=by
 obtain⟨i,ac,z1,z2,z3,z4⟩:=qN U;refine bt.same fun H w ad ah β m ai V _=>?_;have G:∀p∈c.toList,aD P w ad β H (ρ p.2) (m p.2)/\aG (aI H) (ρ p.2):=fun p g=>V p.2 (by rw[y];exact KH g);obtain⟨X,Y⟩:=KG (ρ:=ρ) (ρc:=m) (parts:=c) (fun p g=>(G p g).1);have I:=z3 w ad;obtain⟨fs,rfl⟩:∃fs,z=.st u fs:=by cases z<;>simp[aL]at hs;subst hs;exact⟨_,rfl⟩
 simp only[aZ]at I;obtain⟨W,ae,q1,Z,aa⟩:=I;rw[s]at q1;cases q1
 have E:∀A:Nat->Option (Nat×Nat),(∀i n,l[i]?=some n->A i=some ((l.take i).sum,n))->
  (∀cells,gc A ac.cells (c.map fun(i,x)=>(i,m x)).toList=some cells->(dq m o).run P w=.ok (.value (.agg cells)) w)->
  ∃C,(dq m o).run P w=.ok (.value C) w/\aD P w ad β H (iw u (iI ((bY (.st u fs)).map .p) (c.toList.map fun(i,x)=>(i,ρ x)))) C/\
   aG (aI H) (iw u (iI ((bY (.st u fs)).map .p) (c.toList.map fun(i,x)=>(i,ρ x)))):=by
  intro A Q S;obtain⟨L,M,g1,g2,g3⟩:=Ck Q X Y O (nT.2 Z) aa;refine⟨.agg L,S _ g1,?_,BW (CH (iS _ _) ?_)⟩
  ·rw[Y1];simp only[aD];exact⟨l,M,s,g2,by rw[<-g3]⟩
  ·intro p g;simp only[ii]at g;obtain⟨q,hq,rfl⟩:=g;exact(G q hq).2
 have k:=hk;unfold kindOf at k
 split at k
 ·rename_i a d;have aN:fj P T=some (u,a.size):=by unfold fj;rw[hk,d]
  obtain⟨af,W,s1,s2,B,t,ab,J⟩:=vf aN;rw[d]at s1;cases s1;rw[s]at t;cases t;have R:(a.mapM fun f=>(do pure (f.offset,<-sizeOf f.type):Sem (Nat×Nat))).run P w=.ok (a.toList.map fun f:Field=>(f.offset,P.cellsOf f.type)).toArray w:=by
   refine Ui _ _ w _ (fun f hf=>?_);obtain⟨j,r,rfl⟩:=List.mem_iff_getElem.1 hf;obtain⟨D,g1,g2,g3,g4,g5⟩:=J j (by simpa using r);have:a[j]'(by simpa using r)=D:=by
    have F:a[j]?=some (a[j]'(by simpa using r)):=Array.getElem?_eq_getElem (by simpa using r);rw[g1]at F;exact(js F).symm
   simp only[b4,this];simp[K g4]
  refine E (fun i=>(a.toList.map fun f:Field=>(f.offset,P.cellsOf f.type)).toArray[i]?) ?_ (fun cells hc=>?_)
  ·intro i n b;have hi:i<a.size:=by rw[<-ab];exact(hw.1 b).1
   obtain⟨D,g1,g2,g3,g4,g5⟩:=J i hi;rw[b]at g3;simp only[List.getElem?_toArray,h4,bv,g1];simp[g2,js g3]
  ·simp only[dq,y];refine eE ?_;simp only[ge,g7,tC z1 z2,g0,dk d,R,hc,g8]
 ·rename_i n e d;have N:gP P T=some (u,n):=by unfold gP;rw[hk,d]
  obtain⟨e',s1,s2,B,t⟩:=tK N;rw[d]at s1;cases s1;rw[s]at B;cases B;refine E (fun i=>some (i*P.cellsOf e,P.cellsOf e)) ?_ (fun cells hc=>?_)
  ·intro i aj b;rw[hF]at b
   split at b
   ·rename_i ag;simp at b;subst b;rw[hE,ix o_,hC]
   ·simp at b
  ·simp only[dq,y];refine eE ?_;simp only[ge,g7,tC z1 z2,g0,dk d,K t,hc,g8]
 ·split at k<;>simp at k
 ·simp at k
where
 K {P:da} {w:dg} {T:db} (h:0<P.cellsOf T):(sizeOf T).run P w=.ok (P.cellsOf T) w:=by
  cases hi:P.info? T with
  |none=>simp[gt,hi]at h
  |some i=>simp[sizeOf,typeInfo,hi,gt]
theorem B5(a:Array c9)(n:Nat)(_h:0<a.size):((bI (n*a.size)).map (a[·% a.size]!)).toList=(hz n a.toList).flatten:=by
 simp only[cc,Array.toList_range]
 induction n with
 |zero=>simp
 |succ n c=>
  rw[i5,List.range_add,List.map_append,c,List.replicate_succ',List.flatten_append];congr 1;simp only[List.map_map,hP,List.flatten_nil,h8];refine List.ext_getElem s_ (fun i b d=>?_);simp at b;simp[Nat.mul_add_mod_self_right,Nat.mod_eq_of_lt b,b,getElem!_pos]
theorem yc{z:PV}{a:List c9}(h:aZ P w ad z a):∀n:Nat,Row P w ad β H a.length (hz n (.p z)) (hz n a)
 |0=>iD.2 rfl
 |n+1=>by
  rw[hN,hN,qV];exact⟨a,_,rfl,by simpa only[bn]using h,rfl,yc h n⟩
theorem Cb(d:b7 P w ad β H ah){b:Nat}(c:H[b]?=some .hole){cells:Array c9}{T:db}{k:AK}{ai cap:Nat}{a:List AV}{e:List (List c9)}{rest:List c9}(g:k≠ .frozen)(n:¬dc k a)
 (o:Row P w ad β H ai a e)(i:aV (aI H) a)(hc:cells.toList=e.flatten++rest)(p:cells.size=cap*ai)(m:a.length<=cap)(l:k=.exact->cap=a.length)(q:k=.bytes->T=Gl.u8):
 bZ P ah ad w β H ad {w with heap:=w.heap.push (.cells cells T)} (β.at b w.heap.size cap) (H.set b (.arr k 0 ai a))/\
 aD P {w with heap:=w.heap.push (.cells cells T)} ad (β.at b w.heap.size cap) (H.set b (.arr k 0 ai a)) (.sl b 0 ai 0 a.length) (.slice (some ⟨w.heap.size,0,none⟩) a.length cap):=by
 have aN:=yL (β:=β) c (.arr k 0 ai a) w.heap.size cap;have al:∀y,aI H y->aI (H.set b (.arr k 0 ai a)) y:=mj c (fun _ h=>h.elim);have j:=(hw.1 c).1;refine⟨tE (cap:=cap) d c (ob:=.cells cells T)
  (.inr ⟨cells,T,e,rest,by simp[Bd.at],bM.mono (fun _ x=>x) (fun k hk=>vq _ _ (d.bS k hk)) aN _ _ _ i o,hc,by simp[Bd.at,p],by simpa[Bd.at]using m,by simpa[Bd.at]using l,by
   unfold cE;rw[if_neg (by simpa using g)];simp only[Bd.at,if_true];exact⟨fun h=>iz _ (d.bS _ h),fun h=>iz _ (d.eM _ h)⟩,(fun h=>(g h).elim),q⟩) (aV.mono al _ i),?_⟩
 simp only[aD,bN,bR];refine⟨rfl,fun s r f=>?_⟩;unfold fh at f;rw[hA j]at f;cases f;exact⟨o_,fun h=>(n h).elim,fun _=>by simp[Bd.at]⟩
theorem Ul{T:db}{n sz:Nat}{z:PV}{a:Array (Nat×dl)}(C:o.op= .buildSlice T n a)(b:cJ P T=some sz)(W:cB P (ek P T)=some z)(hs:bG P (aL z)=sz)(ac:n*sz<=1000000)
 (O:mf P (hz n sz) (a.toList.map fun(i,x)=>(i,ρ x))):
 bt P o ρ base {v:=.sl base 0 sz 0 n,aX:=[.arr .exact 0 sz (iI (hz n (.p z)) (a.toList.map fun(i,x)=>(i,ρ x)))]}:=by
 obtain⟨e,af,b⟩:=kG b;obtain⟨i,f,z1,z2,z3,z4⟩:=qN W;rw[b.qB]at z1;intro H w ad ah β t Q Y _ M;have B:H[base]?=some .hole:=by simpa using M 0 s_
 have D:∀p∈a.toList,aD P w ad β H (ρ p.2) (t p.2)/\aG (aI H) (ρ p.2):=fun p d=>Y p.2 (by rw[C];exact KH d);obtain⟨Z,aa⟩:=KG (ρ:=ρ) (ρc:=t) (parts:=a) (fun p d=>(D p d).1);have F:=z3 w ad;have s:f.cells.size=sz:=by have:=(py F).1;simp at this;omega
 have r:=yc (β:=β) (H:=H) F n;have X:f.cells.toList.length=sz:=by simpa using s
 rw[X]at r;obtain⟨y,m⟩:∃c,c=(bI (n*sz)).map (f.cells[·% f.cells.size]!):=⟨_,rfl⟩
 have N:y.toList=(hz n f.cells.toList).flatten:=by
  rw[m,<-s];exact B5 _ _ (by rw[s];exact b.pos)
 have S:bM P w ad β H (hz n sz) (hz n (.p z)) (hz n f.cells.toList):=by
  unfold Row at r;simpa using r
 obtain⟨u,I,g1,g2,g3⟩:=Ck (place:=fun i=>some (i*sz,sz)) (by
  intro i ae j;rw[hF]at j
  split at j
  ·rename_i ab;simp at j;subst j;rw[hE,ix o_,hC]
  ·simp at j) Z aa O S N
 have l:(iI (hz n (.p z)) (a.toList.map fun(i,x)=>(i,ρ x))).length=n:=by
  have:=(yd g2).2.1;simpa using this
 have E:Row P w ad β H sz (iI (hz n (.p z)) (a.toList.map fun(i,x)=>(i,ρ x))) I:=by unfold Row;rw[l];exact g2
 have R:aV (aI H) (iI (hz n (.p z)) (a.toList.map fun(i,x)=>(i,ρ x))):=by
  refine CH ?_ ?_
  ·rw[cM];intro v V;rw[hQ V];simp[aG]
  ·intro p d;simp only[ii]at d;obtain⟨q,hq,rfl⟩:=d;exact(D q hq).2
 have L:u.size=n*sz:=by
  have A:=(fW E).2;rw[l,<-g3]at A;simpa using A
 have U:(dq t o).run P w=.ok (.value (.slice (some ⟨w.heap.size,0,none⟩) n n)) {w with heap:=w.heap.push (.cells u e)}:=by
  simp only[dq,C];have J:¬(n*sz>2^24):=o_
  have K:n*sz=0->(bI (n*sz)).map ((#[]:Array c9)[·% (#[]:Array c9).size]!)=y:=by
   intro g;rw[m,g];simp
  refine u9 ?_;simp only[Instr.buildSlice,g7,dk b.gK,g0,b.run,if_neg J]
  by_cases g:n*sz=0
  ·rw[if_pos g];simp only[g7,g8,g0,K g,g1,newRow,en]
  ·rw[if_neg g];simp only[g7,g8,g0,tC z1 z2,<-m,g1,newRow,en]
 obtain⟨q1,G⟩:=Cb (T:=e) (k:=.exact) Q B s_ (by simp[dc,AK.gr]) E R (rest:=[]) (by simpa using g3) (by rw[L]) (by omega:_<=n) (fun _=>l.symm) (fun h=>by cases h);rw[l]at G;exact⟨_,_,_,_,ad,U,.inl rfl,q1,G,by
  simp only[aG,l6];exact⟨_,hA (hw.1 B).1,ip _⟩⟩
theorem Uu{T:db}{lo q:dl}{sz:Nat}{z:PV}{l:Int}(t:o.op= .makeSlice T lo q)(a:cJ P T=some sz)(W:cB P (ek P T)=some z)(K:ρ lo= .p (.int .i64 l))(hc:ρ q= .p (.int .i64 l))
 (hs:bG P (aL z)=sz)(b:0<=l)(L:l<=cV):bt P o ρ base {v:=.sl base 0 sz 0 l.toNat,aX:=[.arr .exact 0 sz (hz l.toNat (.p z))]}:=by
 obtain⟨e,d,a⟩:=kG a;obtain⟨i,g,z1,z2,z3,z4⟩:=qN W;rw[a.qB]at z1;intro H w ad ah β Y N B _ J;have u:H[base]?=some .hole:=by simpa using J 0 s_
 have r:=(B lo (by simp[t,gg])).1;have j:=(B q (by simp[t,gg])).1;rw[K]at r;rw[hc]at j;simp only[aD,aF]at r j;have A:=z3 w ad;have m:g.cells.size=sz:=by have:=(py A).1;simp at this;omega
 obtain⟨n,rfl⟩:=Int.eq_ofNat_of_zero_le b;have y:=yc (β:=β) (H:=H) A n;have X:g.cells.toList.length=sz:=by simpa using m
 rw[X]at y;obtain⟨f,s⟩:∃c,c=(bI (n*sz)).map (g.cells[·% g.cells.size]!):=⟨_,rfl⟩
 have x:f.toList=(hz n g.cells.toList).flatten:=by
  rw[s,<-m];exact B5 _ _ (by rw[m];exact a.pos)
 have M:n<=1073741824:=by unfold cV at L;omega
 have D:d.bytes*n<=32768*1073741824:=Nat.mul_le_mul (by have:=a.bytes;omega) M;have O:(dq Y o).run P w=.ok (.value (.slice (some ⟨w.heap.size,0,none⟩) n n)) {w with heap:=w.heap.push (.cells f e)}:=by
  simp only[dq,t,r,j];have V:IntKind.i64.wrap (n:Int)=n:=IntWalk.i64_in _ o_;have Q:¬((n:Int)<0):=o_
  have R:¬((d.bytes:Int)*n>2^48):=by
   intro I;have j:d.bytes*n<=35184372088832:=D;have Z:((d.bytes*n:Nat):Int)>281474976710656:=by rw[Int.natCast_mul];exact I
   omega
  have E:n*sz=0->(bI (n*sz)).map ((#[]:Array c9)[·% (#[]:Array c9).size]!)=f:=by
   intro b;rw[s,b];simp
  have S:(typeInfo e).run P w=.ok d w:=by simp[typeInfo,a.info]
  have F:((decide ((n:Int)<0)||decide ((d.bytes:Int)*n>2^48))||decide ((n:Int)<0)||decide ((n:Int)>n))=false:=by
   simp only[Q,R,decide_false,Bool.or_false,Bool.false_or];simp
  refine u9 ?_;simp only[Instr.makeSlice,g7,dk a.gK,g0,asInt,asIntOf,g8,S,V];rw[if_neg (by simpa using F)];simp only[g7,run_askRoom,g0,a.run,Int.toNat_natCast]
  by_cases b:n*sz=0
  ·rw[if_pos b];simp only[g7,g8,g0,E b,newRow,en]
  ·rw[if_neg b];simp only[g7,g8,g0,tC z1 z2,<-s,newRow,en]
 have G:f.size=n*sz:=by
  have:=congrArg hW x;simp at this;rw[this];simp[m]
 obtain⟨q1,C⟩:=Cb (T:=e) (k:=.exact) N u (cells:=f) (cap:=n) s_ (by simp[dc,AK.gr]) y (by
  rw[cM];intro v U;rw[hQ U];simp[aG]) (rest:=[]) (by simpa using x) G s_ (fun _=>by simp) (fun h=>by cases h)
 simp only[List.length_replicate]at C;exact⟨_,_,_,_,ad,O,.inl rfl,q1,C,by
  simp only[aG,l6];exact⟨_,hA (hw.1 u).1,ip _⟩⟩
end
end Go.aq
