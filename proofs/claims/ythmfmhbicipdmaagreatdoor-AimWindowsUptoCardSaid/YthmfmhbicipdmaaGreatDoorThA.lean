import Derived.Calls
import Derived.Laws.Sem
import Derived.IntWalk
import Derived.Laws.Cells
import Derived.Laws.CopyRow
import Derived.Laws.Entries
import Derived.RangeFuncRecord
import Derived.RangeFuncNested
/- Parts of a proof. -/
set_option linter.unusedSimpArgs false
set_option linter.unusedVariables false
set_option linter.unusedSectionVars false
open Array renaming getElem?_eq_some_iff->bl, mem_of_getElem?->bo, mem_toList_iff->bp, getElem?_push->bv, toList->bI
open BitVec renaming ofInt->bV
open Bool renaming false_eq_true->b2, and_eq_true->b3
open Go renaming Program->b4, Value->b5, TypeId->cb, World->cc, step_lone_go->ce, Deferred->ch, FuncId->ck, Operand->cv, Frame->cx, step_leave_returned->cy, execOp->c6, Machine->c9, Steps->da, MapEntry->db, IntKind->dg, Calls->dk
open Go.Deferred renaming ofValue->dl
open Go.Region renaming wanted->dp, schedule->dq, binds->dz
open Go.Steps renaming one->ea, trans->eb, refl->ec
open Go.Value renaming oneCell'->ed, cells->ee
open Go.World renaming size_alloc->ei, putObj_heap_other->ej, cell?->em
open Go.stepG renaming exec->en, apply->eo, oper->eq
open Iff renaming rfl->ew
open List renaming replicate->e6, getElem?_set_ne->e7, getElem?_eq_some_iff->e8, getElem?_set_self->e9, getElem?_append_left->fb, map_cons->fd, length_cons->fl, range'->fm, getElem?_append_right->fv, mem_or_eq_of_mem_set->fw, length_eq_zero_iff->gb, take_append_drop->gc, set_append_right->ge, mem_of_getElem?->gg, replicate_succ->gi, set_cons_zero->gj, length_append->gm, append_assoc->gt, cons_append->gw, mem_append->gx, drop_drop->gy, range->gE
open Nat renaming le_refl->g0, le_trans->g7, lt_of_lt_of_le->g8, ne_of_lt->g9
open Ne renaming symm->ha
namespace Go.ah
set_option linter.unusedSectionVars false
inductive PV where
 |undef
 |bool (b:Bool)
 |int (k:dg) (n:Int)
 |str (s:List Nat)
 |dM
 |cq (t:PV)
 |aP
 |cT (full:Bool) (es:List PV)
 |seq (es:List PV)
 |fk
 |eg (es:List (PV×PV))
 |func (f:ck) (first iI:List PV)
 |gQ
 |gB
 |st (u:cb) (fs:List PV)
 |aE (vs:List PV)
 deriving Inhabited
inductive AV where
 |p (v:PV)
 |ptr (b:Nat) (path:List (cb×Nat))
 |b8 (b aC aj i:Nat) (path:List (cb×Nat))
 |sl (b aC aj off len:Nat)
 |map (b:Nat)
 |func (f:ck) (first iI:List AV)
 |st (u:cb) (fs:List AV)
 |aE (vs:List AV)
 deriving Inhabited
inductive AK where|exact|grow|frozen|bytes
 deriving DecidableEq
def AK.gr:AK->Bool
 | .grow| .bytes=>true
 |_=>false
structure dW where
 st:LoopState
 pending:Option Code
 n:Nat
 params:List Tmp
 assign:Code
 body:Code
 env:List (Nat×AV)
inductive Obj where
 |hole
 |dead
 |box (fz:Bool) (t:AV)
 |arr (k:AK) (aC aj:Nat) (es:List AV)
 |map (fz:Bool) (es:List (PV×PV))
 |dy (s:List Nat) (pos:Nat)
 |loop (L:dW)
 deriving Inhabited
abbrev an:=List Obj
abbrev Env:=List (Nat×AV)
structure St where
 env:Env
 heap:an
def aS(e:Env)(t:Nat):AV:=
 match e with
 |[]=>.p .undef
 |(k,v)::r=>if t=k then v else aS r t
inductive jD where|bad|leaf|agg (u:cb)
 deriving DecidableEq
def aL:PV->jD
 | .undef| .aE _=>.bad
 | .st u _=>.agg u
 |_=>.leaf
def aa:AV->jD
 | .p v=>aL v
 | .aE _=>.bad
 | .st u _=>.agg u
 |_=>.leaf
def bY:PV->List PV
 | .st _ fs=>fs
 |_=>[]
section tables
variable(P:b4)
def dD(u:cb):Option (List Nat):=
 match(P.info? u).map (fun i:TypeInfo=>i.desc)with
 |some (.struct fs)=>
  let l:=fs.toList.map fun f=>P.cellsOf f.type
  if l.all (0<·)&&l.sum==P.cellsOf u&&(fs.toList.zipIdx.all fun(f,i)=>f.offset==(l.take i).sum)then some l else none
 |some (.array n e)=>if 0<P.cellsOf e&&n*P.cellsOf e==P.cellsOf u then some (e6 n (P.cellsOf e))else none
 |_=>none
def kindOf(T:cb):jD:=
 match P.underlying T with
 |some (.struct _)|some (.array _ _)=>
  if(dD P (P.underlyingId T)).isSome&&P.cellsOf T==P.cellsOf (P.underlyingId T)then .agg (P.underlyingId T)else .bad
 |some _=>if P.cellsOf T==1 then .leaf else .bad
 |none=>.bad
def bF:jD->Nat
 | .bad=>0
 | .leaf=>1
 | .agg u=>P.cellsOf u
def jF(u:cb):List cb:=
 match(P.info? u).map (fun i:TypeInfo=>i.desc)with
 |some (.struct fs)=>fs.toList.map (·.type)
 |some (.array n e)=>e6 n e
 |_=>[]
end tables
def ofConst:b5->PV
 | .bool b=>.bool b
 | .int k n=>.int k n
 | .string s=>.str (s.data.toList.map (·.toNat))
 | .pointer none=>.dM
 | .slice none 0 0=>.aP
 | .map none=>.fk
 | .nilFunc=>.gQ
 | .nilIface=>.gB
 |_=>.undef
def pK(P:b4)(a:cb->List b5->Option PV):List cb->List Nat->List b5->Option (List PV)
 |[],[],[]=>some []
 |T::b,s::c,cs=>
  if(cs.take s).length=s then
   match a T (cs.take s),pK P a b c (cs.drop s)with
   |some v,some vs=>if bF P (aL v)=s then some (v::vs)else none
   |_,_=>none
  else none
 |_,_,_=>none
def ud(P:b4):Nat->cb->List b5->Option PV
 |0,_,_=>none
 |n+1,T,cs=>
  match kindOf P T with
  | .leaf=>match cs with
   |[c]=>match ofConst c with
    | .undef=>none
    |v=>some v
   |_=>none
  | .agg u=>match dD P u with
   |some l=>
    match pK P (ud P n) (jF P u) l cs with
    |some fs=>some (.st u fs)
    |none=>none
   |none=>none
  | .bad=>none
def Ap:b5->jD->Bool
 | .agg _,.agg _=>true
 | .agg _,_=>false
 |_,.agg _=>false
 |_,_=>true
def cz(P:b4)(T:cb):Option PV:=
 match(P.info? T).bind (·.zero)with
 |some z=>if Ap z (kindOf P T)then ud P 40 T z.cells.toList else none
 |none=>none
section relation
variable(P:b4)(w:cc)(ad:Nat->Prop)
def gX(au off:Nat)(cs:List b5):Prop:=∀i(h:i<cs.length),w.cell? ⟨au,off+i,none⟩=some cs[i]
mutual
def aW:PV->List b5->Prop
 | .undef,_| .aE _,_=>False
 | .bool b,cs=>cs=[.bool b]
 | .int k n,cs=>cs=[.int k n]
 | .str s,cs=>∃bs:ByteArray,cs=[.string bs]/\s=bs.data.toList.map (·.toNat)
 | .dM,cs=>cs=[.pointer none]
 | .cq t,cs=>∃au off ts,aW t ts/\ad au/\gX w au off ts/\cs=[.pointer (some ⟨au,off,none⟩)]
 | .aP,cs=>cs=[.slice none 0 0]
 | .cT full es,cs=>∃au off cap aj a,bm (e6 es.length aj) es a/\(es≠[]->ad au)/\gX w au off a.flatten/\
  (full=true->cap=es.length)/\es.length<=cap/\∃sp,(sp=none\/cap=0)/\cs=[.slice (some ⟨au,off,sp⟩) es.length cap]
 | .seq es,cs=>(es=[]/\cs=[.slice none 0 0])\/∃au off cap aj a,bm (e6 es.length aj) es a/\(es≠[]->ad au)/\gX w au off a.flatten/\
  es.length<=cap/\∃sp,(sp=none\/cap=0)/\cs=[.slice (some ⟨au,off,sp⟩) es.length cap]
 | .fk,cs=>cs=[.map none]
 | .eg es,cs=>∃r h j,ad r/\w.heap[r]?=some (.map h j)/\cL es h.toList/\cs=[.map (some r)]
 | .func f first iI,cs=>∃i g,bL first i/\bL iI g/\cs=[.func (.func f) i.toArray g.toArray]
 | .gQ,cs=>cs=[.nilFunc]
 | .gB,cs=>cs=[.nilIface]
 | .st u fs,cs=>∃l a,dD P u=some l/\bm l fs a/\cs=a.flatten
def bm:List Nat->List PV->List (List b5)->Prop
 |[],[],a=>a=[]
 |n::p,v::vs,a=>∃c cs,a=c::cs/\aW v c/\c.length=n/\bm p vs cs
 |_,_,_=>False
def aF:PV->b5->Prop
 | .undef,_=>True
 | .aE vs,v=>∃d,bL vs d/\v=.tuple d.toArray
 | .st u fs,v=>∃l a,dD P u=some l/\bm l fs a/\v=.agg a.flatten.toArray
 | .bool b,v=>v=.bool b
 | .int k n,v=>v=.int k n
 | .str s,v=>∃bs:ByteArray,v=.string bs/\s=bs.data.toList.map (·.toNat)
 | .dM,v=>v=.pointer none
 | .cq t,v=>∃au off ts,aW t ts/\ad au/\gX w au off ts/\v=.pointer (some ⟨au,off,none⟩)
 | .aP,v=>v=.slice none 0 0
 | .cT full es,v=>∃au off cap aj a,bm (e6 es.length aj) es a/\(es≠[]->ad au)/\gX w au off a.flatten/\
  (full=true->cap=es.length)/\es.length<=cap/\∃sp,(sp=none\/cap=0)/\v=.slice (some ⟨au,off,sp⟩) es.length cap
 | .seq es,v=>(es=[]/\v= .slice none 0 0)\/∃au off cap aj a,bm (e6 es.length aj) es a/\(es≠[]->ad au)/\gX w au off a.flatten/\
  es.length<=cap/\∃sp,(sp=none\/cap=0)/\v=.slice (some ⟨au,off,sp⟩) es.length cap
 | .fk,v=>v=.map none
 | .eg es,v=>∃r h j,ad r/\w.heap[r]?=some (.map h j)/\cL es h.toList/\v=.map (some r)
 | .func f first iI,v=>∃i g,bL first i/\bL iI g/\v=.func (.func f) i.toArray g.toArray
 | .gQ,v=>v=.nilFunc
 | .gB,v=>v=.nilIface
def bL:List PV->List b5->Prop
 |[],d=>d=[]
 |v::vs,d=>∃y o,d=y::o/\aF v y/\bL vs o
def cL:List (PV×PV)->List db->Prop
 |[],es=>es=[]
 |(k,v)::r,es=>∃e m,es=e::m/\aF k e.key/\aF v e.val/\cL r m
end
end relation
class Gl where
 g:Nat->PV
 u8:cb
 raw:Nat->Option (Array b5)
 bx:cb->Option cb
def jA[Gl](T:cb)(s:jD):Bool:=match s with
 | .agg u=>match Gl.bx u with
  |some a=>Nat.beq T a
  |none=>true
 |_=>true
structure nr[Gl](P:b4)(w:cc)(ad:Nat->Prop):Prop where
 val:∀g,aF P w ad (Gl.g g) (.pointer (some ⟨g,0,none⟩))
 raw:∀g cs,Gl.raw g=some cs->ad g/\∃T,w.heap[g]?=some (.cells cs T (0,0))
end Go.ah
namespace Go.ah
variable[Gl]
structure Bd where
 au:Nat->Nat
 cap:Nat->Nat
def gu(P:b4):List (cb×Nat)->Option Nat
 |[]=>some 0
 |(u,i)::r=>
  match dD P u,gu P r with
  |some l,some o=>if i<l.length then some ((l.take i).sum+o)else none
  |_,_=>none
section
variable(P:b4)(w:cc)(ad:Nat->Prop)(β:Bd)(H:an)
def nh(b:Nat):Prop:=∃fz t,H[b]?=some (.box fz t)
def fq(b aC aj:Nat)(k:AK)(a:List AV):Prop:=H[b]?=some (.arr k aC aj a)
def di(k:AK)(a:List AV):Prop:=k.gr=true/\a=[]
def ng(b:Nat):Prop:=(∃fz a,H[b]?=some (.map fz a))
def nq(b:Nat):Prop:=(∃s pos,H[b]?=some (.dy s pos))
def gZ(b:Nat):Prop:=(∃L,H[b]?=some (.loop L))
def bU:AV->b5->Prop
 | .ptr b path,v=>∃au off o,v=.pointer (some ⟨au,off,none⟩)/\gu P path=some o/\(nh H b\/nq H b->au=β.au b/\off=o)
 | .b8 b aC aj i path,v=>∃au off o,v=.pointer (some ⟨au,off,none⟩)/\gu P path=some o/\∀k a,fq H b aC aj k a->¬di k a->au=β.au b/\off=i*aj+o
 | .sl b aC aj off len,v=>∀k a,fq H b aC aj k a->
  off+len<=a.length/\(di k a->v=.slice none 0 0)/\(¬di k a->v=.slice (some ⟨β.au b,off*aj,none⟩) len (β.cap b-off))
 | .map b,v=>(ng H b->v=.map (some (β.au b)))/\(gZ H b->v=.func (.yield (β.au b)) #[] #[])
 |_,_=>False
def bO(v:AV)(x:b5):Prop:=x.oneCell'=true/\bU P β H v x
mutual
def br:AV->List b5->Prop
 | .p t,cs=>aW P w ad t cs
 | .st u fs,cs=>∃l a,dD P u=some l/\bM l fs a/\cs=a.flatten
 | .func f first iI,cs=>∃e d,bJ first e/\bJ iI d/\cs=[.func (.func f) e.toArray d.toArray]
 | .aE _,_=>False
 | .ptr b path,cs=>∃v,cs=[v]/\bO P β H (.ptr b path) v
 | .b8 b aC aj i path,cs=>∃v,cs=[v]/\bO P β H (.b8 b aC aj i path) v
 | .sl b aC aj off len,cs=>∃v,cs=[v]/\bO P β H (.sl b aC aj off len) v
 | .map b,cs=>∃v,cs=[v]/\bO P β H (.map b) v
def bM:List Nat->List AV->List (List b5)->Prop
 |[],[],a=>a=[]
 |n::h,v::vs,a=>∃c cs,a=c::cs/\br v c/\c.length=n/\bM h vs cs
 |_,_,_=>False
def aD:AV->b5->Prop
 | .p t,v=>aF P w ad t v
 | .st u fs,v=>∃l a,dD P u=some l/\bM l fs a/\v=.agg a.flatten.toArray
 | .func f first iI,v=>∃e d,bJ first e/\bJ iI d/\v=.func (.func f) e.toArray d.toArray
 | .aE vs,v=>∃xs,bJ vs xs/\v=.tuple xs.toArray
 | .ptr b path,v=>bO P β H (.ptr b path) v
 | .b8 b aC aj i path,v=>bO P β H (.b8 b aC aj i path) v
 | .sl b aC aj off len,v=>bO P β H (.sl b aC aj off len) v
 | .map b,v=>bO P β H (.map b) v
def bJ:List AV->List b5->Prop
 |[],xs=>xs=[]
 |v::vs,xs=>∃y g,xs=y::g/\aD v y/\bJ vs g
end
mutual
def aG(n:Nat×Nat->Prop):AV->Prop
 | .p _=>True
 | .ptr b _| .map b=>n (b,0)
 | .b8 b aC _ _ _| .sl b aC _ _ _=>n (b,aC)
 | .func _ first iI=>ba n first/\ba n iI
 | .st _ fs=>ba n fs
 | .aE vs=>ba n vs
def ba(n:Nat×Nat->Prop):List AV->Prop
 |[]=>True
 |v::vs=>aG n v/\ba n vs
end
def Obj.has:Obj->Nat->Prop
 | .hole,_=>False
 | .arr _ aC _ _,v=>v<=aC
 |_,_=>True
def aJ(H:an)(x:Nat×Nat):Prop:=∃o,H[x.1]?=some o/\o.has x.2
def AV.sG:AV->Prop
 | .p _=>True
 |_=>False
def Obj.refs(n:Nat×Nat->Prop):Obj->Prop
 | .box _ t=>aG n t
 | .arr _ _ _ es=>ba n es
 | .loop L=>∀x,aG n (aS L.env x)
 |_=>True
def Obj.live:Obj->Prop
 | .hole| .dead=>False
 | .arr k _ _ es=>¬di k es
 |_=>True
variable(ai:Nat->Prop)
def cK(fz:Bool)(b:Nat):Prop:=if fz then ad (β.au b)else¬ad (β.au b)/\¬ai (β.au b)
def fo(b:Nat):Obj->Prop
 | .hole| .dead=>True
 | .box fz t=>∃cs T,w.heap[β.au b]?=some (.cells cs T (0,0))/\br P w ad β H t cs.toList/\cK ad β ai fz b/\(fz=true->t.sG)/\jA T (aa t)=true
 | .arr k _ver aj es=>di k es\/
  ∃cs T a f,w.heap[β.au b]?=some (.cells cs T (0,0))/\bM P w ad β H (e6 es.length aj) es a/\cs.toList=a.flatten++f/\
   cs.size=β.cap b*aj/\es.length<=β.cap b/\(k=.exact->β.cap b=es.length)/\cK ad β ai (k== .frozen) b/\(k=.frozen->∀e∈es,e.sG)/\(k=.bytes->T=Gl.u8)
 | .map fz es=>∃c d,w.heap[β.au b]?=some (.map c d)/\cL P w ad es c.toList/\cK ad β ai fz b
 | .dy s pos=>∃bs:ByteArray,w.heap[β.au b]?=some (.stringIter bs pos)/\s=bs.data.toList.map (·.toNat)/\cK ad β ai false b
 | .loop L=>∃tmps defers fn,w.heap[β.au b]?=some (.loop {state:=L.st,pending:=L.pending,fn,tmps,params:=L.params.toArray,assign:=L.assign,body:=L.body,defers})/\tmps.size=L.n/\
  (∀x,aD P w ad β H (aS L.env x) (tmps.getD x undef))/\cK ad β ai false b
structure bX:Prop where
 cO:∀b o,H[b]?=some o->fo P w ad β H ai b o
 inj:∀b b' o o',H[b]?=some o->H[b']?=some o'->o.live->o'.live->¬ad (β.au b)->β.au b=β.au b'->b=b'
 refs:∀(b:Nat)(o:Obj),H[b]?=some o->o.refs (aJ H)
 bS:∀k,ad k->k<w.heap.size
 eh:∀k,ai k->k<w.heap.size
 iJ:nr P w ad
end
structure Ext(ai ad:Nat->Prop)(w w':cc):Prop where
 size:w.heap.size<=w'.heap.size
 same:∀k,ai k\/ad k->w'.heap[k]?=w.heap[k]?
 io:w'.os=w.os/\w'.output=w.output
structure cC(β:Bd)(H:an)(aK:Bd)(H':an):Prop where
 box:∀b,aJ H (b,0)->nh H' b->nh H b/\aK.au b=β.au b
 it:∀b,aJ H (b,0)->nq H' b->nq H b/\aK.au b=β.au b
 map:∀b,aJ H (b,0)->ng H' b->ng H b/\aK.au b=β.au b
 arr:∀b aC aj k es,aJ H (b,aC)->fq H' b aC aj k es->∃k0 gO,fq H b aC aj k0 gO/\gO.length<=es.length/\(di k es↔di k0 gO)/\(¬di k es->aK.au b=β.au b/\aK.cap b=β.cap b)
 loop:∀b,aJ H (b,0)->gZ H' b->gZ H b/\aK.au b=β.au b
theorem cC.refl(β:Bd)(H:an):cC β H β H:=
 ⟨fun _ _ h=>⟨h,rfl⟩,fun _ _ h=>⟨h,rfl⟩,fun _ _ h=>⟨h,rfl⟩,fun _ _ _ k a _ h=>⟨k,a,h,g0 _,ew,fun _=>⟨rfl,rfl⟩⟩,fun _ _ h=>⟨h,rfl⟩⟩
theorem Ext.refl(ai ad:Nat->Prop)(w:cc):Ext ai ad w w:=⟨g0 _,fun _ _=>rfl,rfl,rfl⟩
section mono
variable{P:b4}{w w':cc}{ad aH:Nat->Prop}
theorem Ys{au off:Nat}(h:w'.heap[au]?=w.heap[au]?):w'.cell? ⟨au,off,none⟩=w.cell? ⟨au,off,none⟩:=by
 simp[em,h]
theorem gX.same{au off:Nat}{cs:List b5}(h:w'.heap[au]?=w.heap[au]?)(hc:gX w au off cs):gX w' au off cs:=
 fun i hi=>(Ys h).trans (hc i hi)
theorem yh{n:List Nat}{a:List (List b5)}(h:bm P w ad n [] a):a=[]:=by
 cases n<;>simp[bm]at h;exact h
variable(hI:∀k,ad k->aH k)(hs:∀k,ad k->w'.heap[k]?=w.heap[k]?)
include hI hs
mutual
theorem aW.mono:∀(v:PV)(cs:List b5),aW P w ad v cs->aW P w' aH v cs
 | .undef,_,h| .aE _,_,h=>by simp[aW]at h
 | .bool _,_,h| .int _ _,_,h| .str _,_,h| .dM,_,h| .aP,_,h| .fk,_,h| .gQ,_,h| .gB,_,h=>by simpa[aW]using h
 | .cq t,cs,h=>by
  simp only[aW]at h⊢;obtain⟨au,off,ts,a,b,d,j⟩:=h;exact⟨au,off,ts,aW.mono t ts a,hI _ b,d.same (hs _ b),j⟩
 | .cT full o,cs,h=>by
  simp only[aW]at h⊢;obtain⟨au,off,cap,aj,g,a,b,d,j⟩:=h;refine⟨au,off,cap,aj,g,bm.mono _ o g a,fun m=>hI _ (b m),?_,j⟩
  by_cases m:o=[]
  ·subst m;have:=yh a;subst this;intro i hi;simp at hi
  ·exact d.same (hs _ (b m))
 | .seq o,cs,h=>by
  simp only[aW]at h⊢;rcases h with h|⟨au,off,cap,aj,g,a,b,d,j⟩
  ·exact .inl h
  refine .inr ⟨au,off,cap,aj,g,bm.mono _ o g a,fun m=>hI _ (b m),?_,j⟩
  by_cases m:o=[]
  ·subst m;have:=yh a;subst this;intro i hi;simp at hi
  ·exact d.same (hs _ (b m))
 | .eg o,cs,h=>by
  simp only[aW]at h⊢;obtain⟨r,p,clock,a,b,d,j⟩:=h;exact⟨r,p,clock,hI _ a,(hs _ a).trans b,cL.mono o _ d,j⟩
 | .func f first iI,cs,h=>by
  simp only[aW]at h⊢;obtain⟨z,s,a,b,d⟩:=h;exact⟨z,s,bL.mono first z a,bL.mono iI s b,d⟩
 | .st u fs,cs,h=>by
  simp only[aW]at h⊢;obtain⟨l,g,a,b,d⟩:=h;exact⟨l,g,a,bm.mono l fs g b,d⟩
theorem bm.mono:∀(l:List Nat)(vs:List PV)(g:List (List b5)),bm P w ad l vs g->bm P w' aH l vs g
 |[],[],_,h=>by simpa[bm]using h
 |[],_::_,_,h=>by simp[bm]at h
 |_::_,[],_,h=>by simp[bm]at h
 |n::B,v::vs,g,h=>by
  simp only[bm]at h⊢;obtain⟨c,cs,a,b,d,j⟩:=h;exact⟨c,cs,a,aW.mono v c b,d,bm.mono B vs cs j⟩
theorem aF.mono:∀(v:PV)(x:b5),aF P w ad v x->aF P w' aH v x
 | .undef,_,h=>by simp[aF]
 | .aE vs,x,h=>by
  simp only[aF]at h⊢;obtain⟨q,a,b⟩:=h;exact⟨q,bL.mono vs q a,b⟩
 | .bool _,_,h| .int _ _,_,h| .str _,_,h| .dM,_,h| .aP,_,h| .fk,_,h| .gQ,_,h| .gB,_,h=>by simpa[aF]using h
 | .cq t,cs,h=>by
  simp only[aF]at h⊢;obtain⟨au,off,ts,a,b,d,j⟩:=h;exact⟨au,off,ts,aW.mono t ts a,hI _ b,d.same (hs _ b),j⟩
 | .cT full o,cs,h=>by
  simp only[aF]at h⊢;obtain⟨au,off,cap,aj,g,a,b,d,j⟩:=h;refine⟨au,off,cap,aj,g,bm.mono _ o g a,fun m=>hI _ (b m),?_,j⟩
  by_cases m:o=[]
  ·subst m;have:=yh a;subst this;intro i hi;simp at hi
  ·exact d.same (hs _ (b m))
 | .seq o,cs,h=>by
  simp only[aF]at h⊢;rcases h with h|⟨au,off,cap,aj,g,a,b,d,j⟩
  ·exact .inl h
  refine .inr ⟨au,off,cap,aj,g,bm.mono _ o g a,fun m=>hI _ (b m),?_,j⟩
  by_cases m:o=[]
  ·subst m;have:=yh a;subst this;intro i hi;simp at hi
  ·exact d.same (hs _ (b m))
 | .eg o,cs,h=>by
  simp only[aF]at h⊢;obtain⟨r,p,clock,a,b,d,j⟩:=h;exact⟨r,p,clock,hI _ a,(hs _ a).trans b,cL.mono o _ d,j⟩
 | .func f first iI,cs,h=>by
  simp only[aF]at h⊢;obtain⟨z,s,a,b,d⟩:=h;exact⟨z,s,bL.mono first z a,bL.mono iI s b,d⟩
 | .st u fs,cs,h=>by
  simp only[aF]at h⊢;obtain⟨l,g,a,b,d⟩:=h;exact⟨l,g,a,bm.mono l fs g b,d⟩
theorem bL.mono:∀(vs:List PV)(q:List b5),bL P w ad vs q->bL P w' aH vs q
 |[],_,h=>by simpa[bL]using h
 |v::vs,q,h=>by
  simp only[bL]at h⊢;obtain⟨y,A,a,b,d⟩:=h;exact⟨y,A,a,aF.mono v y b,bL.mono vs A d⟩
theorem cL.mono:∀(o:List (PV×PV))(p:List db),cL P w ad o p->cL P w' aH o p
 |[],_,h=>by simpa[cL]using h
 |(k,v)::r,p,h=>by
  simp only[cL]at h⊢;obtain⟨e,rest,a,b,d,j⟩:=h;exact⟨e,rest,a,aF.mono k _ b,aF.mono v _ d,cL.mono r rest j⟩
end
theorem nr.mono(h:nr P w ad):nr P w' aH:=⟨fun g=>aF.mono hI hs _ _ (h.val g),fun g cs c=>by
 obtain⟨a,T,b⟩:=h.raw g cs c;exact⟨hI _ a,T,(hs _ a).trans b⟩⟩
variable{β aK:Bd}{H H':an}(aO:cC β H aK H')
include aO
omit hI hs in
theorem bU.mono:∀(v:AV)(x:b5),aG (aJ H) v->bU P β H v x->bU P aK H' v x
 | .ptr b path,x,d,h=>by
  simp only[bU,aG]at*;obtain⟨au,off,o,c,f,g⟩:=h;refine⟨au,off,o,c,f,fun a=>?_⟩;rcases a with a|a
  ·obtain⟨k1,k2⟩:=aO.box b d a;rw[k2];exact g (.inl k1)
  ·obtain⟨k1,k2⟩:=aO.it b d a;rw[k2];exact g (.inr k1)
 | .b8 b aC aj i path,x,d,h=>by
  simp only[bU,aG]at*;obtain⟨au,off,o,g1,g2,g3⟩:=h;refine⟨au,off,o,g1,g2,fun k l a e=>?_⟩;obtain⟨k0,gO,c,f,g,j⟩:=aO.arr b aC aj k l d a;rw[(j e).1];exact g3 k0 gO c (fun hh=>e (g.2 hh))
 | .sl b aC aj off len,x,d,h=>by
  simp only[bU,aG]at*;intro k l a;obtain⟨k0,gO,c,f,g,j⟩:=aO.arr b aC aj k l d a;obtain⟨q,m,n⟩:=h k0 gO c;refine⟨by omega,fun e=>m (g.1 e),fun e=>?_⟩;rw[(j e).1,(j e).2];exact n (fun hh=>e (g.2 hh))
 | .map b,x,d,h=>by
  simp only[bU,aG]at*;refine⟨fun a=>?_,fun a=>?_⟩
  ·obtain⟨c,f⟩:=aO.map b d a;rw[f];exact h.1 c
  ·obtain⟨c,f⟩:=aO.loop b d a;rw[f];exact h.2 c
 | .p _,_,_,h| .st _ _,_,_,h| .func _ _ _,_,_,h| .aE _,_,_,h=>by simp[bU]at h
omit hI hs in
theorem bO.mono(v:AV)(x:b5)(a:aG (aJ H) v)(h:bO P β H v x):bO P aK H' v x:=⟨h.1,bU.mono aO v x a h.2⟩
mutual
theorem br.mono:∀(v:AV)(cs:List b5),aG (aJ H) v->br P w ad β H v cs->br P w' aH aK H' v cs
 | .p t,cs,_,h=>by simp only[br]at h⊢;exact aW.mono hI hs t cs h
 | .st u fs,cs,a,h=>by
  simp only[br,aG]at*;obtain⟨l,j,d,e,g⟩:=h;exact⟨l,j,d,bM.mono l fs j a e,g⟩
 | .func f first iI,cs,a,h=>by
  simp only[br,aG]at*;obtain⟨m,k,d,e,g⟩:=h;exact⟨m,k,bJ.mono first m a.1 d,bJ.mono iI k a.2 e,g⟩
 | .aE _,_,_,h=>by simp[br]at h
 | .ptr b path,cs,a,h=>by
  simp only[br]at*;obtain⟨v,d,e⟩:=h;exact⟨v,d,bO.mono aO _ _ a e⟩
 | .b8 b aC aj i path,cs,a,h=>by
  simp only[br]at*;obtain⟨v,d,e⟩:=h;exact⟨v,d,bO.mono aO _ _ a e⟩
 | .sl b aC aj off len,cs,a,h=>by
  simp only[br]at*;obtain⟨v,d,e⟩:=h;exact⟨v,d,bO.mono aO _ _ a e⟩
 | .map b,cs,a,h=>by
  simp only[br]at*;obtain⟨v,d,e⟩:=h;exact⟨v,d,bO.mono aO _ _ a e⟩
theorem bM.mono:∀(l:List Nat)(vs:List AV)(j:List (List b5)),ba (aJ H) vs->bM P w ad β H l vs j->bM P w' aH aK H' l vs j
 |[],[],_,_,h=>by simpa[bM]using h
 |[],_::_,_,_,h=>by simp[bM]at h
 |_::_,[],_,_,h=>by simp[bM]at h
 |n::r,v::vs,j,a,h=>by
  simp only[bM,ba]at*;obtain⟨c,cs,d,e,g,q⟩:=h;exact⟨c,cs,d,br.mono v c a.1 e,g,bM.mono r vs cs a.2 q⟩
theorem aD.mono:∀(v:AV)(x:b5),aG (aJ H) v->aD P w ad β H v x->aD P w' aH aK H' v x
 | .p t,cs,_,h=>by simp only[aD]at h⊢;exact aF.mono hI hs t cs h
 | .st u fs,cs,a,h=>by
  simp only[aD,aG]at*;obtain⟨l,j,d,e,g⟩:=h;exact⟨l,j,d,bM.mono l fs j a e,g⟩
 | .func f first iI,cs,a,h=>by
  simp only[aD,aG]at*;obtain⟨m,k,d,e,g⟩:=h;exact⟨m,k,bJ.mono first m a.1 d,bJ.mono iI k a.2 e,g⟩
 | .aE vs,cs,a,h=>by
  simp only[aD,aG]at*;obtain⟨xs,d,e⟩:=h;exact⟨xs,bJ.mono vs xs a d,e⟩
 | .ptr b path,cs,a,h=>by simp only[aD]at*;exact bO.mono aO _ _ a h
 | .b8 b aC aj i path,cs,a,h=>by simp only[aD]at*;exact bO.mono aO _ _ a h
 | .sl b aC aj off len,cs,a,h=>by simp only[aD]at*;exact bO.mono aO _ _ a h
 | .map b,cs,a,h=>by simp only[aD]at*;exact bO.mono aO _ _ a h
theorem bJ.mono:∀(vs:List AV)(xs:List b5),ba (aJ H) vs->bJ P w ad β H vs xs->bJ P w' aH aK H' vs xs
 |[],_,_,h=>by simpa[bJ]using h
 |v::vs,xs,a,h=>by
  simp only[bJ,ba]at*;obtain⟨y,o,d,e,g⟩:=h;exact⟨y,o,d,aD.mono v y a.1 e,bJ.mono vs o a.2 g⟩
end
end mono
def eO:List AV->Option (List PV)
 |[]=>some []
 | .p v::r=>match eO r with
  |some l=>some (v::l)
  |none=>none
 |_::_=>none
def iw(u:cb)(fs:List AV):AV:=
 match eO fs with
 |some l=>.p (.st u l)
 |none=>.st u fs
def lC:PV->List (cb×Nat)->Option PV
 |t,[]=>some t
 |t,(u,i)::r=>if aL t=.agg u then(match(bY t)[i]? with
  |some f=>lC f r
  |none=>none)else none
def eU:AV->List (cb×Nat)->Option AV
 |t,[]=>some t
 | .p t,(u,i)::r=>match lC t ((u,i)::r)with
  |some s=>some (.p s)
  |none=>none
 | .st u' fs,(u,i)::r=>if u'=u then(match fs[i]? with
  |some f=>eU f r
  |none=>none)else none
 |_,_=>none
def fX(t:AV)(b:List (cb×Nat))(x:AV):Option AV:=
 match b with
 |[]=>some x
 |(u,i)::r=>
  match t with
  | .p t=>if aL t=.agg u then(match(bY t)[i]? with
   |some f=>(match fX (.p f) r x with
    |some a=>some (iw u (((bY t).map .p).set i a))
    |none=>none)
   |none=>none)else none
  | .st u' fs=>if u'=u then(match fs[i]? with
   |some f=>(match fX f r x with
    |some a=>some (iw u (fs.set i a))
    |none=>none)
   |none=>none)else none
  |_=>none
section
variable{P:b4}{w:cc}{ad:Nat->Prop}{β:Bd}{H:an}
theorem vm:∀{l:List Nat}{vs:List PV}{a:List (List b5)},bm P w ad l vs a->a.map (·.length)=l/\vs.length=l.length/\a.length=l.length
 |[],[],_,h=>by simp[bm]at h;subst h;simp
 |[],_::_,_,h=>by simp[bm]at h
 |_::_,[],_,h=>by simp[bm]at h
 |n::f,v::vs,a,h=>by
  simp only[bm]at h;obtain⟨c,cs,rfl,e,b,d⟩:=h;have:=vm d;simp[b,this]
theorem yo:∀{l:List Nat}{vs:List AV}{a:List (List b5)},bM P w ad β H l vs a->a.map (·.length)=l/\vs.length=l.length/\a.length=l.length
 |[],[],_,h=>by simp[bM]at h;subst h;simp
 |[],_::_,_,h=>by simp[bM]at h
 |_::_,[],_,h=>by simp[bM]at h
 |n::f,v::vs,a,h=>by
  simp only[bM]at h;obtain⟨c,cs,rfl,e,b,d⟩:=h;have:=yo d;simp[b,this]
theorem Np{u:cb}{l:List Nat}(h:dD P u=some l):l.sum=P.cellsOf u/\∀n∈l,0<n:=by
 unfold dD at h
 split at h
 ·dsimp only at h
  split at h
  ·rename_i hc;simp at hc;obtain⟨⟨b,c⟩,d⟩:=hc;simp at h;subst h;refine⟨c,?_⟩;intro n a;simp at a;obtain⟨f,hf,rfl⟩:=a;obtain⟨i,hi,rfl⟩:=Array.mem_iff_getElem.1 hf;exact b i hi
  ·simp at h
 ·split at h
  ·rename_i hc;simp at hc;simp at h;subst h;refine⟨by simp[List.sum_replicate_nat,hc.2],?_⟩;intro n a;have:=List.eq_of_mem_replicate a;omega
  ·simp at h
 ·simp at h
theorem pD:∀{v:PV}{cs:List b5},aW P w ad v cs->cs.length=bF P (aL v)/\aL v≠.bad:=by
 intro v cs h;cases v<;>simp only[aW]at h
 case st u fs=>
  obtain⟨l,c,a,b,rfl⟩:=h;have:=vm b;simp[aL,bF,this.1,(Np a).1]
 case str=>obtain⟨_,h,_⟩:=h;subst h;simp[aL,bF]
 case seq=>
  rcases h with⟨_,rfl⟩|⟨_,_,_,_,_,_,_,_,_,_,_,rfl⟩<;>simp[aL,bF]
 all_goals first
  |(subst h;simp[aL,bF])
  |(obtain⟨_,_,_,_,_,_,rfl⟩:=h;simp[aL,bF])
  |(obtain⟨_,_,_,_,_,rfl⟩:=h;simp[aL,bF])
  |(obtain⟨_,_,_,_,_,_,_,_,_,_,_,_,rfl⟩:=h;simp[aL,bF])
  |(obtain⟨_,_,_,_,_,_,_,rfl⟩:=h;simp[aL,bF])
  |(obtain⟨_,_,_,_,rfl⟩:=h;simp[aL,bF])
  |(obtain⟨_,h,_⟩:=h;subst h;simp[aL,bF])
  |exact h.elim
theorem nY{v:AV}{cs:List b5}(h:br P w ad β H v cs):cs.length=bF P (aa v)/\aa v≠.bad:=by
 cases v<;>simp only[br]at h
 case p t=>exact pD h
 case st u fs=>
  obtain⟨l,c,a,b,rfl⟩:=h;have:=yo b;simp[aa,bF,this.1,(Np a).1]
 all_goals first
  |(obtain⟨_,rfl,_⟩:=h;simp[aa,bF])
  |(obtain⟨_,_,_,_,rfl⟩:=h;simp[aa,bF])
theorem tL{v:PV}(hs:aL v=.leaf)(cs:List b5):aW P w ad v cs↔∃c,cs=[c]/\aF P w ad v c:=by
 cases v<;>simp[aL]at hs<;>simp only[aW,aF]
 case bool|int|dM|aP|fk|gQ|gB=>exact⟨fun h=>⟨_,h,rfl⟩,fun⟨c,g,i⟩=>by rw[g,i]⟩
 case str s=>exact⟨fun⟨bs,g,i⟩=>⟨_,g,bs,rfl,i⟩,fun⟨c,g,bs,i,j⟩=>⟨bs,by rw[g,i],j⟩⟩
 case cq t=>exact⟨fun⟨a,b,c,g,i,j,k⟩=>⟨_,k,a,b,c,g,i,j,rfl⟩,fun⟨v,g,a,b,c,i,j,k,l⟩=>⟨a,b,c,i,j,k,by rw[g,l]⟩⟩
 case cT f es=>exact⟨fun⟨a,b,c,d,e,g,i,j,k,l,sp,n,m⟩=>⟨_,m,a,b,c,d,e,g,i,j,k,l,sp,n,rfl⟩,fun⟨v,h,a,b,c,d,e,g,i,j,k,l,sp,n,m⟩=>⟨a,b,c,d,e,g,i,j,k,l,sp,n,by rw[h,m]⟩⟩
 case seq es=>
  constructor
  ·rintro(⟨g,i⟩|⟨a,b,c,d,e,g,i,j,l,sp,n,m⟩)
   ·exact⟨_,i,.inl ⟨g,rfl⟩⟩
   ·exact⟨_,m,.inr ⟨a,b,c,d,e,g,i,j,l,sp,n,rfl⟩⟩
  ·rintro⟨v,h,(⟨g,i⟩|⟨a,b,c,d,e,g,i,j,l,sp,n,m⟩)⟩
   ·exact .inl ⟨g,by rw[h,i]⟩
   ·exact .inr ⟨a,b,c,d,e,g,i,j,l,sp,n,by rw[h,m]⟩
 case eg es=>exact⟨fun⟨a,b,c,g,i,j,k⟩=>⟨_,k,a,b,c,g,i,j,rfl⟩,fun⟨v,h,a,b,c,g,i,j,k⟩=>⟨a,b,c,g,i,j,by rw[h,k]⟩⟩
 case func f x y=>exact⟨fun⟨a,b,g,i,j⟩=>⟨_,j,a,b,g,i,rfl⟩,fun⟨v,h,a,b,g,i,j⟩=>⟨a,b,g,i,by rw[h,j]⟩⟩
theorem wx{v:PV}{u:cb}(hs:aL v=.agg u)(cs:List b5):aW P w ad v cs↔aF P w ad v (.agg cs.toArray):=by
 cases v<;>simp[aL]at hs;subst hs;simp only[aW,aF];constructor
 ·rintro⟨l,a,b,c,rfl⟩;exact⟨l,a,b,c,rfl⟩
 ·rintro⟨l,a,b,c,d⟩;refine⟨l,a,b,c,?_⟩;injection d with d;simpa using congrArg bI d
theorem C4{v:AV}(hs:aa v=.leaf)(cs:List b5):br P w ad β H v cs↔∃c,cs=[c]/\aD P w ad β H v c:=by
 cases v<;>simp[aa]at hs<;>simp only[br,aD]
 case p t=>exact tL hs cs
 case func f x y=>exact⟨fun⟨a,b,d,e,g⟩=>⟨_,g,a,b,d,e,rfl⟩,fun⟨v,h,a,b,d,e,g⟩=>⟨a,b,d,e,by rw[h,g]⟩⟩
theorem Ox{v:AV}{u:cb}(hs:aa v=.agg u)(cs:List b5):br P w ad β H v cs↔aD P w ad β H v (.agg cs.toArray):=by
 cases v<;>simp[aa]at hs
 case p t=>simp only[br,aD];exact wx hs cs
 case st u' fs=>
  subst hs;simp only[br,aD];constructor
  ·rintro⟨l,a,b,c,rfl⟩;exact⟨l,a,b,c,rfl⟩
  ·rintro⟨l,a,b,c,d⟩;refine⟨l,a,b,c,?_⟩;injection d with d;simpa using congrArg bI d
theorem yI{v:AV}{x:b5}(h:aD P w ad β H v x)(hs:aa v≠.bad):br P w ad β H v x.cells.toList:=by
 cases a:aa v with
 |bad=>exact absurd a hs
 |leaf=>
  rw[C4 a];refine⟨x,?_,h⟩;cases v<;>simp[aa]at a<;>simp only[aD]at h
  case p t=>
   cases t<;>simp[aL]at a<;>simp only[aF]at h
   case bool|int|dM|aP|fk|gQ|gB=>subst h;rfl
   case str=>obtain⟨_,rfl,_⟩:=h;rfl
   case cq=>obtain⟨_,_,_,_,_,_,rfl⟩:=h;rfl
   case cT=>obtain⟨_,_,_,_,_,_,_,_,_,_,_,_,rfl⟩:=h;rfl
   case seq=>rcases h with⟨_,rfl⟩|⟨_,_,_,_,_,_,_,_,_,_,_,rfl⟩<;>rfl
   case eg=>obtain⟨_,_,_,_,_,_,rfl⟩:=h;rfl
   case func=>obtain⟨_,_,_,_,rfl⟩:=h;rfl
  case func=>obtain⟨_,_,_,_,rfl⟩:=h;rfl
  all_goals (have b:=h.1;cases x<;>first|rfl|(simp[ed]at b))
 |agg u=>
  cases v<;>simp[aa]at a
  case p t=>
   cases t<;>simp[aL]at a;simp only[aD,aF]at h;obtain⟨l,c,b,d,rfl⟩:=h;simp only[br,aW];exact⟨l,c,b,d,by simp[ee]⟩
  case st u' fs=>
   simp only[aD]at h;obtain⟨l,c,b,d,rfl⟩:=h;simp only[br];exact⟨l,c,b,d,by simp[ee]⟩
end
mutual
def Wk:PV->PV->Prop
 | .undef,v=>v=.undef
 | .bool b,v=>v=.bool b
 | .int k n,v=>v=.int k n
 | .str s,v=>v=.str s
 | .dM,v=>v=.dM
 | .fk,v=>v=.fk
 | .gQ,v=>v=.gQ
 | .gB,v=>v=.gB
 | .aP,v=>v=.aP\/v=.seq []
 | .cq t,v=>match v with
  | .cq h=>Wk t h
  |_=>False
 | .cT f es,v=>match v with
  | .cT g fs=>(g=true->f=true)/\bD es fs
  | .seq fs=>bD es fs
  |_=>False
 | .seq es,v=>match v with
  | .seq fs=>bD es fs
  |_=>False
 | .eg es,v=>match v with
  | .eg fs=>lF es fs
  |_=>False
 | .func f a b,v=>match v with
  | .func g c d=>f=g/\bD a c/\bD b d
  |_=>False
 | .st u es,v=>match v with
  | .st u' fs=>u=u'/\bD es fs
  |_=>False
 | .aE es,v=>match v with
  | .aE fs=>bD es fs
  |_=>False
def bD:List PV->List PV->Prop
 |[],fs=>fs=[]
 |v::vs,fs=>match fs with
  |f::fs=>Wk v f/\bD vs fs
  |[]=>False
def lF:List (PV×PV)->List (PV×PV)->Prop
 |[],fs=>fs=[]
 |(k,v)::vs,fs=>match fs with
  |(e,f)::fs=>k=e/\Wk v f/\lF vs fs
  |[]=>False
end
mutual
theorem Wk.refl:∀v,Wk v v
 | .undef| .bool _| .int _ _| .str _| .dM| .fk| .gQ| .gB=>by simp[Wk]
 | .aP=>by simp[Wk]
 | .cq t=>by simp only[Wk];exact Wk.refl t
 | .cT f c=>by simp only[Wk];exact⟨id,bD.refl c⟩
 | .seq c=>by simp only[Wk];exact bD.refl c
 | .eg c=>by simp only[Wk];exact lF.refl c
 | .func f a b=>by simp only[Wk];exact⟨trivial,bD.refl a,bD.refl b⟩
 | .st u c=>by simp only[Wk];exact⟨trivial,bD.refl c⟩
 | .aE c=>by simp only[Wk];exact bD.refl c
theorem bD.refl:∀vs,bD vs vs
 |[]=>by simp[bD]
 |v::vs=>by simp only[bD];exact⟨Wk.refl v,bD.refl vs⟩
theorem lF.refl:∀c,lF c c
 |[]=>by simp[lF]
 |(k,v)::vs=>by simp only[lF];exact⟨trivial,Wk.refl v,lF.refl vs⟩
end
theorem bD.length:∀{es fs:List PV},bD es fs->fs.length=es.length
 |[],fs,h=>by simp only[bD]at h;subst h;rfl
 |v::vs,fs,h=>by
  cases fs with
  |nil=>simp[bD]at h
  |cons f fs=>simp only[bD]at h;simp[bD.length h.2]
theorem bD.pO{a fs:List PV}(h:bD a fs):fs=[]↔a=[]:=by
 have:=h.length;rw[<-gb,<-gb,this]
theorem Wk.aL:∀{v v':PV},Wk v v'->ah.aL v'=ah.aL v
 | .undef,v',h| .bool _,v',h| .int _ _,v',h| .str _,v',h| .dM,v',h| .fk,v',h| .gQ,v',h| .gB,v',h=>by simp only[Wk]at h;subst h;rfl
 | .aP,v',h=>by simp only[Wk]at h;rcases h with rfl|rfl<;>rfl
 | .cq _,v',h| .cT _ _,v',h| .seq _,v',h| .eg _,v',h| .func _ _ _,v',h| .aE _,v',h=>by cases v'<;>simp only[Wk]at h<;>rfl
 | .st _ _,v',h=>by
  cases v'<;>simp only[Wk]at h;simp[ah.aL,h.1]
section
variable{P:b4}{w:cc}{ad:Nat->Prop}
mutual
theorem aW.de:∀(v v':PV)(cs:List b5),Wk v v'->aW P w ad v cs->aW P w ad v' cs
 | .undef,v',cs,h,hc| .bool _,v',cs,h,hc| .int _ _,v',cs,h,hc| .str _,v',cs,h,hc| .dM,v',cs,h,hc| .fk,v',cs,h,hc| .gQ,v',cs,h,hc| .gB,v',cs,h,hc=>by simp only[Wk]at h;subst h;exact hc
 | .aP,v',cs,h,hc=>by
  simp only[Wk]at h;rcases h with rfl|rfl
  ·exact hc
  ·simp only[aW]at hc⊢;exact .inl ⟨trivial,hc⟩
 | .cq t,v',cs,h,hc=>by
  cases v'<;>simp only[Wk]at h;simp only[aW]at hc⊢;obtain⟨au,off,ts,d,i⟩:=hc;exact⟨au,off,ts,aW.de _ _ _ h d,i⟩
 | .cT f o,v',cs,h,hc=>by
  cases v' with
  |cT g fs=>
   simp only[Wk]at h;simp only[aW]at hc⊢;obtain⟨au,off,cap,aj,m,d,i,j,p,q,s⟩:=hc;have z:=h.2.length;rw[z];exact⟨au,off,cap,aj,m,bm.de _ _ _ _ h.2 d,fun A=>i (fun e=>A (h.2.pO.2 e)),j,fun e=>p (h.1 e),q,s⟩
  |seq fs=>
   simp only[Wk]at h;simp only[aW]at hc⊢;obtain⟨au,off,cap,aj,m,d,i,j,p,q,s⟩:=hc;have z:=h.length;rw[z];exact .inr ⟨au,off,cap,aj,m,bm.de _ _ _ _ h d,fun A=>i (fun e=>A (h.pO.2 e)),j,q,s⟩
  |_=>simp only[Wk]at h
 | .seq o,v',cs,h,hc=>by
  cases v'<;>simp only[Wk]at h;simp only[aW]at hc⊢;rcases hc with⟨d,i⟩|⟨au,off,cap,aj,m,d,i,j,q,s⟩
  ·exact .inl ⟨h.pO.2 d,i⟩
  ·have z:=h.length;rw[z];exact .inr ⟨au,off,cap,aj,m,bm.de _ _ _ _ h d,fun A=>i (fun e=>A (h.pO.2 e)),j,q,s⟩
 | .eg o,v',cs,h,hc=>by
  cases v'<;>simp only[Wk]at h;simp only[aW]at hc⊢;obtain⟨r,C,clock,d,i,j,p⟩:=hc;exact⟨r,C,clock,d,i,cL.de _ _ _ h j,p⟩
 | .func f a b,v',cs,h,hc=>by
  cases v'<;>simp only[Wk]at h;obtain⟨rfl,F,G⟩:=h;simp only[aW]at hc⊢;obtain⟨E,D,d,i,j⟩:=hc;exact⟨E,D,bL.de _ _ _ F d,bL.de _ _ _ G i,j⟩
 | .st u o,v',cs,h,hc=>by
  cases v'<;>simp only[Wk]at h;obtain⟨rfl,h⟩:=h;simp only[aW]at hc⊢;obtain⟨l,m,d,i,j⟩:=hc;exact⟨l,m,d,bm.de _ _ _ _ h i,j⟩
 | .aE o,v',cs,h,hc=>by simp[aW]at hc
theorem bm.de:∀(l:List Nat)(o fs:List PV)(m:List (List b5)),bD o fs->bm P w ad l o m->bm P w ad l fs m
 |l,[],fs,m,h,hc=>by simp only[bD]at h;subst h;exact hc
 |l,v::vs,fs,m,h,hc=>by
  cases fs with
  |nil=>simp[bD]at h
  |cons f fs=>
   simp only[bD]at h;cases l with
   |nil=>simp[bm]at hc
   |cons n l=>
    simp only[bm]at hc⊢;obtain⟨c,cs,d,i,j,p⟩:=hc;exact⟨c,cs,d,aW.de _ _ _ h.1 i,j,bm.de _ _ _ _ h.2 p⟩
theorem aF.de:∀(v v':PV)(x:b5),Wk v v'->aF P w ad v x->aF P w ad v' x
 | .undef,v',cs,h,hc| .bool _,v',cs,h,hc| .int _ _,v',cs,h,hc| .str _,v',cs,h,hc| .dM,v',cs,h,hc| .fk,v',cs,h,hc| .gQ,v',cs,h,hc| .gB,v',cs,h,hc=>by simp only[Wk]at h;subst h;exact hc
 | .aP,v',cs,h,hc=>by
  simp only[Wk]at h;rcases h with rfl|rfl
  ·exact hc
  ·simp only[aF]at hc⊢;exact .inl ⟨trivial,hc⟩
 | .cq t,v',cs,h,hc=>by
  cases v'<;>simp only[Wk]at h;simp only[aF]at hc⊢;obtain⟨au,off,ts,d,i⟩:=hc;exact⟨au,off,ts,aW.de _ _ _ h d,i⟩
 | .cT f o,v',cs,h,hc=>by
  cases v' with
  |cT g fs=>
   simp only[Wk]at h;simp only[aF]at hc⊢;obtain⟨au,off,cap,aj,m,d,i,j,p,q,s⟩:=hc;have z:=h.2.length;rw[z];exact⟨au,off,cap,aj,m,bm.de _ _ _ _ h.2 d,fun A=>i (fun e=>A (h.2.pO.2 e)),j,fun e=>p (h.1 e),q,s⟩
  |seq fs=>
   simp only[Wk]at h;simp only[aF]at hc⊢;obtain⟨au,off,cap,aj,m,d,i,j,p,q,s⟩:=hc;have z:=h.length;rw[z];exact .inr ⟨au,off,cap,aj,m,bm.de _ _ _ _ h d,fun A=>i (fun e=>A (h.pO.2 e)),j,q,s⟩
  |_=>simp only[Wk]at h
 | .seq o,v',cs,h,hc=>by
  cases v'<;>simp only[Wk]at h;simp only[aF]at hc⊢;rcases hc with⟨d,i⟩|⟨au,off,cap,aj,m,d,i,j,q,s⟩
  ·exact .inl ⟨h.pO.2 d,i⟩
  ·have z:=h.length;rw[z];exact .inr ⟨au,off,cap,aj,m,bm.de _ _ _ _ h d,fun A=>i (fun e=>A (h.pO.2 e)),j,q,s⟩
 | .eg o,v',cs,h,hc=>by
  cases v'<;>simp only[Wk]at h;simp only[aF]at hc⊢;obtain⟨r,C,clock,d,i,j,p⟩:=hc;exact⟨r,C,clock,d,i,cL.de _ _ _ h j,p⟩
 | .func f a b,v',cs,h,hc=>by
  cases v'<;>simp only[Wk]at h;obtain⟨rfl,F,G⟩:=h;simp only[aF]at hc⊢;obtain⟨E,D,d,i,j⟩:=hc;exact⟨E,D,bL.de _ _ _ F d,bL.de _ _ _ G i,j⟩
 | .st u o,v',cs,h,hc=>by
  cases v'<;>simp only[Wk]at h;obtain⟨rfl,h⟩:=h;simp only[aF]at hc⊢;obtain⟨l,m,d,i,j⟩:=hc;exact⟨l,m,d,bm.de _ _ _ _ h i,j⟩
 | .aE o,v',cs,h,hc=>by
  cases v'<;>simp only[Wk]at h;simp only[aF]at hc⊢;obtain⟨B,d,i⟩:=hc;exact⟨B,bL.de _ _ _ h d,i⟩
theorem bL.de:∀(o fs:List PV)(B:List b5),bD o fs->bL P w ad o B->bL P w ad fs B
 |[],fs,B,h,hc=>by simp only[bD]at h;subst h;exact hc
 |v::vs,fs,B,h,hc=>by
  cases fs with
  |nil=>simp[bD]at h
  |cons f fs=>
   simp only[bD]at h;simp only[bL]at hc⊢;obtain⟨y,H,d,i,j⟩:=hc;exact⟨y,H,d,aF.de _ _ _ h.1 i,bL.de _ _ _ h.2 j⟩
theorem cL.de:∀(o fs:List (PV×PV))(C:List db),lF o fs->cL P w ad o C->cL P w ad fs C
 |[],fs,B,h,hc=>by simp only[lF]at h;subst h;exact hc
 |(k,v)::vs,fs,B,h,hc=>by
  cases fs with
  |nil=>simp[lF]at h
  |cons f fs=>
   simp only[lF]at h;obtain⟨rfl,d,i⟩:=h;simp only[cL]at hc⊢;obtain⟨e,rest,e1,e2,e3,e4⟩:=hc;exact⟨e,rest,e1,e2,aF.de _ _ _ d e3,cL.de _ _ _ i e4⟩
end
end
section
variable{P:b4}{w:cc}{ad:Nat->Prop}{β:Bd}{H:an}
theorem mn:∀{fs:List AV}{l:List PV},eO fs=some l->fs=l.map .p
 |[],l,h=>by simp[eO]at h;subst h;rfl
 | .p v::r,l,h=>by
  simp only[eO]at h;cases a:eO r with
  |none=>simp[a]at h
  |some b=>simp[a]at h;subst h;simp[mn a]
 | .ptr ..::_,_,h| .b8 ..::_,_,h| .sl ..::_,_,h| .map ..::_,_,h| .func ..::_,_,h| .st ..::_,_,h| .aE ..::_,_,h=>by simp[eO]at h
theorem nX:∀{l:List Nat}{fs:List PV}{a:List (List b5)},bM P w ad β H l (fs.map .p) a↔bm P w ad l fs a
 |[],[],_=>by simp[bM,bm]
 |[],_::_,_=>by simp[bM,bm]
 |_::_,[],_=>by simp[bM,bm]
 |n::g,v::vs,a=>by
  simp only[fd,bM,bm,br];constructor
  ·rintro⟨c,cs,b,d,e,f⟩;exact⟨c,cs,b,d,e,nX.1 f⟩
  ·rintro⟨c,cs,b,d,e,f⟩;exact⟨c,cs,b,d,e,nX.2 f⟩
theorem jI:∀{fs:List PV}{d:List b5},bJ P w ad β H (fs.map .p) d↔bL P w ad fs d
 |[],_=>by simp[bJ,bL]
 |v::vs,d=>by
  simp only[fd,bJ,bL,aD];constructor
  ·rintro⟨y,e,a,b,c⟩;exact⟨y,e,a,b,jI.1 c⟩
  ·rintro⟨y,e,a,b,c⟩;exact⟨y,e,a,b,jI.2 c⟩
theorem Nd{u:cb}{fs:List AV}{cs:List b5}:br P w ad β H (iw u fs) cs↔br P w ad β H (.st u fs) cs:=by
 unfold iw;cases h:eO fs with
 |none=>rfl
 |some l=>have:=mn h;subst this;simp[br,aW,nX]
theorem Zx{u:cb}{fs:List AV}{x:b5}:aD P w ad β H (iw u fs) x↔aD P w ad β H (.st u fs) x:=by
 unfold iw;cases h:eO fs with
 |none=>rfl
 |some l=>have:=mn h;subst this;simp[aD,aF,nX]
theorem jg(n:Nat×Nat->Prop):∀l:List PV,ba n (l.map .p)
 |[]=>by simp[ba]
 |v::l=>by simp only[fd,ba,aG,true_and];exact jg n l
theorem B0{n:Nat×Nat->Prop}{u:cb}{fs:List AV}(h:ba n fs):aG n (iw u fs):=by
 unfold iw;cases eO fs with
 |none=>exact h
 |some l=>simp[aG]
theorem dc{n:Nat×Nat->Prop}:∀{fs:List AV},ba n fs↔∀v∈fs,aG n v
 |[]=>by simp[ba]
 |v::vs=>by simp[ba,dc (fs:=vs)]
theorem tS:∀{l:List Nat}{fs:List AV}{d:List (List b5)}{i:Nat}{f:AV},bM P w ad β H l fs d->fs[i]?=some f->
 ∃pre c post,d.flatten=pre++c++post/\pre.length=(l.take i).sum/\i<l.length/\l[i]?=some c.length/\br P w ad β H f c/\
  ∀b c',br P w ad β H b c'->c'.length=c.length->∃a,a.flatten=pre++c'++post/\bM P w ad β H l (fs.set i b) a
 |[],[],_,i,f,_,hf=>by simp at hf
 |[],_::_,_,_,_,h,_=>by simp[bM]at h
 |_::_,[],_,_,_,h,_=>by simp[bM]at h
 |n::m,v::vs,d,0,f,h,hf=>by
  simp only[bM]at h;obtain⟨c,cs,rfl,g,e,j⟩:=h;simp at hf;subst hf;refine⟨[],c,cs.flatten,by simp,by simp,by simp,by simp[e],g,?_⟩;intro b c' hc k;exact⟨c'::cs,by simp,by simp only[gj,bM];exact⟨c',cs,rfl,hc,by omega,j⟩⟩
 |n::m,v::vs,d,i+1,f,h,hf=>by
  simp only[bM]at h;obtain⟨c,cs,rfl,g,e,j⟩:=h;simp at hf;obtain⟨pre,x,post,k1,k2,k3,k4,k5,k6⟩:=tS j hf;refine⟨c++pre,x,post,by simp[k1],by simp[k2,e],by simpa using k3,by simpa using k4,k5,?_⟩;intro b c' hc k;obtain⟨a,e1,e2⟩:=k6 b c' hc k;exact⟨c::a,by simp[e1],by simp only[List.set_cons_succ,bM];exact⟨c,a,rfl,g,e,e2⟩⟩
theorem L4{t:AV}{u:cb}{cs:List b5}(hs:aa t= .agg u)(h:br P w ad β H t cs):
 ∃l fs a,dD P u=some l/\bM P w ad β H l fs a/\cs=a.flatten/\(∀c,t=.p c->fs=(bY c).map .p)/\(∀u' g,t=.st u' g->fs=g/\u'=u):=by
 cases t<;>simp[aa]at hs
 case p t=>
  cases t<;>simp[aL]at hs;subst hs;simp only[br,aW]at h;obtain⟨l,a,d,e,f⟩:=h;exact⟨l,_,a,d,nX.2 e,f,fun c b=>by cases b;rfl,fun _ _ h=>by cases h⟩
 case st u' fs=>
  subst hs;simp only[br]at h;obtain⟨l,a,d,e,f⟩:=h;exact⟨l,fs,a,d,e,f,(fun c b=>by cases b),(fun j i b=>by cases b;exact⟨rfl,rfl⟩)⟩
theorem zM{t:PV}{a:List (cb×Nat)}:eU (.p t) a=(lC t a).map .p:=by
 cases a with
 |nil=>rfl
 |cons x r=>obtain⟨u,i⟩:=x;simp only[eU];cases lC t ((u,i)::r)<;>rfl
theorem pN:∀{z:List (cb×Nat)}{t s:AV}{cs:List b5}{o:Nat},br P w ad β H t cs->eU t z=some s->gu P z=some o->
 ∃n q post,cs=n++q++post/\n.length=o/\br P w ad β H s q/\
  ∀x k a,fX t z x=some a->br P w ad β H x k->k.length=q.length->br P w ad β H a (n++k++post)
 |[],t,s,cs,o,h,hs,d=>by
  simp[gu]at d;subst d;simp[eU]at hs;subst hs;refine⟨[],cs,[],by simp,by simp,h,?_⟩;intro x k a hx y _;simp[fX]at hx;subst hx;simpa using y
 |(u,i)::r,t,s,cs,o,h,hs,d=>by
  simp only[gu]at d;cases m:dD P u with
  |none=>simp[m]at d
  |some l=>
   cases v:gu P r with
   |none=>simp[m,v]at d
   |some o'=>
    simp[m,v]at d;obtain⟨J,rfl⟩:=d
    have key:∃fs f,(∃j e,dD P u=some j/\bM P w ad β H j fs e/\cs=e.flatten)/\fs[i]?=some f/\eU f r=some s/\
     (∀x a,fX t ((u,i)::r) x=some a->∃b,fX f r x=some b/\a=iw u (fs.set i b)):=by
     cases t
     case p t=>
      rw[zM]at hs;simp only[lC]at hs
      by_cases g:aL t=.agg u
      ·simp only[g,if_true]at hs;obtain⟨j,fs,e,k1,k2,k3,k4,_⟩:=L4 (t:=.p t) (by simpa[aa]using g) h;have:=k4 t rfl;subst this;cases hf:(bY t)[i]? with
       |none=>simp[hf]at hs
       |some f=>
        simp only[hf]at hs;refine⟨_,.p f,⟨j,e,k1,k2,k3⟩,by simp[hf],by rw[zM];exact hs,?_⟩;intro x a hx;simp only[fX,g,if_true,hf]at hx;cases hq:fX (.p f) r x with
        |none=>simp[hq]at hx
        |some b=>simp[hq]at hx;exact⟨b,rfl,hx.symm⟩
      ·simp[g]at hs
     case st u' fs=>
      simp only[eU]at hs
      by_cases g:u'=u
      ·subst g;simp only[if_true]at hs;obtain⟨j,D,e,k1,k2,k3,_,k4⟩:=L4 (t:=.st u' fs) rfl h;have:=(k4 _ _ rfl).1;subst this;cases hf:D[i]? with
       |none=>simp[hf]at hs
       |some f=>
        simp only[hf]at hs;refine⟨_,f,⟨j,e,k1,k2,k3⟩,hf,hs,?_⟩;intro x a hx;simp only[fX,if_true,hf]at hx;cases hq:fX f r x with
        |none=>simp[hq]at hx
        |some b=>simp[hq]at hx;exact⟨b,rfl,hx.symm⟩
      ·simp[g]at hs
     all_goals simp[eU]at hs
    obtain⟨fs,f,⟨j,e,k1,k2,k3⟩,hf,F,aM⟩:=key;rw[m]at k1;cases k1;obtain⟨n,c,post,e1,e2,e3,e4,e5,C⟩:=tS k2 hf;obtain⟨I,q,G,g1,g2,g3,g4⟩:=pN e5 F v;refine⟨n++I,q,G++post,by rw[k3,e1,g1];simp,by simp[e2,g2],g3,?_⟩;intro x k a hx y A;obtain⟨b,E,rfl⟩:=aM x a hx;have aX:=g4 x k b E y A;obtain⟨B,c1,c2⟩:=C b _ aX (by rw[g1];simp[A]);rw[Nd];simp only[br];exact⟨l,B,m,c2,by rw[c1];simp⟩
theorem zk{path:List (cb×Nat)}{t s:PV}{cs:List b5}{o:Nat}(h:aW P w ad t cs)(hs:lC t path=some s)(f:gu P path=some o):
 ∃a b post,cs=a++b++post/\a.length=o/\aW P w ad s b:=by
 obtain⟨a,b,post,c,d,e,_⟩:=pN (β:=⟨id,id⟩) (H:=[]) (t:=.p t) (s:=.p s) (by simpa[br]using h) (by rw[zM,hs];rfl) f;exact⟨a,b,post,c,d,by simpa[br]using e⟩
theorem vK{n:Nat×Nat->Prop}:∀{a:List (cb×Nat)}{t s:AV},eU t a=some s->aG n t->aG n s
 |[],t,s,hs,h=>by simp[eU]at hs;subst hs;exact h
 |(u,i)::r,.p t,s,hs,h=>by
  rw[zM]at hs;cases hq:lC t ((u,i)::r)with
  |none=>simp[hq]at hs
  |some q=>simp[hq]at hs;subst hs;simp[aG]
 |(u,i)::r,.st u' fs,s,hs,h=>by
  simp only[eU]at hs
  split at hs
  ·split at hs
   ·rename_i f hf;simp only[aG]at h;exact vK hs (dc.1 h f (gg hf))
   ·simp at hs
  ·simp at hs
 |_::_,.ptr ..,_,hs,_|_::_,.b8 ..,_,hs,_|_::_,.sl ..,_,hs,_|_::_,.map ..,_,hs,_|_::_,.func ..,_,hs,_|_::_,.aE ..,_,hs,_=>by simp[eU]at hs
theorem vL{n:Nat×Nat->Prop}:∀{e:List (cb×Nat)}{t b x:AV},fX t e x=some b->aG n t->aG n x->aG n b
 |[],t,b,x,hs,h,hx=>by simp[fX]at hs;subst hs;exact hx
 |(u,i)::r,.p t,b,x,hs,h,hx=>by
  simp only[fX]at hs
  split at hs
  ·split at hs
   ·split at hs
    ·rename_i f hf d c;simp at hs;subst hs;refine B0 (dc.2 ?_);intro v a;rcases fw a with a|rfl
     ·exact dc.1 (jg n _) v a
     ·exact vL c (by simp[aG]) hx
    ·simp at hs
   ·simp at hs
  ·simp at hs
 |(u,i)::r,.st u' fs,b,x,hs,h,hx=>by
  simp only[fX]at hs
  split at hs
  ·split at hs
   ·split at hs
    ·rename_i _ f hf _ d c;simp at hs;subst hs;simp only[aG]at h;refine B0 (dc.2 ?_);intro v a;rcases fw a with a|rfl
     ·exact dc.1 h v a
     ·exact vL c (dc.1 h f (gg hf)) hx
    ·simp at hs
   ·simp at hs
  ·simp at hs
 |_::_,.ptr ..,_,_,hs,_,_|_::_,.b8 ..,_,_,hs,_,_|_::_,.sl ..,_,_,hs,_,_|_::_,.map ..,_,_,hs,_,_|_::_,.func ..,_,_,hs,_,_|_::_,.aE ..,_,_,hs,_,_=>by simp[fX]at hs
end
structure aZ where
 v:AV
 aq:List (Nat×Obj):=[]
 aM:List (Nat×Obj):=[]
 aX:List Obj:=[]
def bf(H:an)(l:List (Nat×Obj)):an:=
 match l with
 |[]=>H
 |(b,o)::r=>bf (H.set b o) r
def put(dst:Option Tmp)(v:AV)(e:Env):Env:=
 match dst with
 |some d=>(d,v)::e
 |none=>e
def aZ.app(e:aZ)(dst:Option Tmp)(s:St):St:=⟨put dst e.v s.env,bf s.heap e.aM++e.aX⟩
def ev(e:Env):cv->AV
 | .tmp t=>aS e t
 | .const v=>.p (ofConst v)
 | .global g=>.p (Gl.g g)
 | .func f=>.p (.func f [] [])
def gD(s:List Nat):ByteArray:=⟨(s.map UInt8.ofNat).toArray⟩
mutual
def jM:PV->PV->Option Bool
 | .bool a,.bool b=>some (a==b)
 | .int k a,.int c b=>if k=c then some (a==b)else none
 | .str a,.str b=>some (a==b)
 | .st u fs,.st u' gs=>if u=u' then xt fs gs else none
 |_,_=>none
def xt:List PV->List PV->Option Bool
 |[],[]=>some true
 |a::as,b::bs=>match jM a b with
  |some true=>xt as bs
  |some false=>some false
  |none=>none
 |_,_=>none
end
def mH(P:b4)(c:cb->PV->PV->Option Bool):List cb->List PV->List PV->Option Bool
 |[],[],[]=>some true
 |T::d,a::as,b::bs=>
  if kindOf P T=aL a/\kindOf P T=aL b then
   (match c T a b,mH P c d as bs with
   |some r,some s=>some (r&&s)
   |_,_=>none)
  else none
 |_,_,_=>none
def ja(P:b4):Nat->cb->PV->PV->Option Bool
 |0,_,_,_=>none
 |n+1,T,v,v'=>
  match P.underlying T,v,v' with
  |some .bool,.bool a,.bool b=>some (a==b)
  |some (.int _),.int k a,.int c b=>if k=c then some (a==b)else none
  |some .string,.str a,.str b=>some (a==b)
  |some (.struct fs),.st u xs,.st u' d=>
   if kindOf P T= .agg u/\u'=u/\P.stoodInHeld T=false/\fs.toList.all (fun f=>f.name != "_")=true then mH P (ja P n) (fs.toList.map (·.type)) xs d else none
  |_,_,_=>none
def sF(P:b4)(T:cb):Bool:=!P.eqGuardType P.depth T
def rD(P:b4)(T:cb):Bool:=match P.underlying T with|some .bool=>true|_=>false
def aNF(P:b4)(T:cb):Bool:=match P.underlying T with|some (.int _)=>true|_=>false
def iN(P:b4)(T:cb):Bool:=match P.underlying T with|some .string=>true|_=>false
inductive uY where|ptr|slice|map|func|iface
 deriving DecidableEq
def mJ:cv->Bool
 | .const _=>true
 |_=>false
def dE(P:b4)(T:cb)(c:Bool):AV->Option uY
 | .p .dM=>match P.underlying T with
  |some (.pointer _)=>some .ptr
  |_=>none
 | .p .aP=>match P.underlying T with
  |some (.slice _)=>some .slice
  |_=>none
 | .p .fk=>match P.underlying T with
  |some (.map _ _)=>some .map
  |_=>none
 | .p .gQ=>match P.underlying T with
  |some (.func _ _ _)=>some .func
  |_=>none
 | .p .gB=>match c,P.underlying T with
  |true,some (.interface _)=>some .iface
  |_,_=>none
 |_=>none
def cW(H:an)(k:uY)(x:AV):Option Bool:=
 match k,x with
 | .ptr,.p .dM| .slice,.p .aP| .map,.p .fk| .func,.p .gQ| .iface,.p .gB=>some true
 | .ptr,.p (.cq _)| .slice,.p (.cT _ _)| .map,.p (.eg _)| .func,.p (.func _ _ _)| .func,.func _ _ _=>some false
 | .ptr,.ptr b _=>match H[b]? with
  |some (.box _ _)=>some false
  |_=>none
 | .map,.map b=>match H[b]? with
  |some (.map _ _)=>some false
  |_=>none
 | .slice,.p (.seq (_::_))=>some false
 | .slice,.sl b aC aj _ _=>match H[b]? with
  |some (.arr k c a es)=>if aC=c/\aj=a then some (k.gr&&es.isEmpty)else none
  |_=>none
 |_,_=>none
def qd(op:BinOp)(k:dg)(a b:Int)(K:PV->Prop):Prop:=
 match op with
 | .add=>K (.int k (k.wrap (a+b)))
 | .sub=>K (.int k (k.wrap (a-b)))
 | .mul=>K (.int k (k.wrap (a*b)))
 | .quo=>b≠0/\K (.int k (k.wrap (a.tdiv b)))
 | .rem=>b≠0/\K (.int k (a.tmod b))
 | .and=>K (.int k (k.wrap (bV k.bits a&&&bV k.bits b).toNat))
 | .or=>K (.int k (k.wrap (bV k.bits a|||bV k.bits b).toNat))
 | .xor=>K (.int k (k.wrap (bV k.bits a^^^bV k.bits b).toNat))
 | .andNot=>K (.int k (k.wrap (bV k.bits a&&&~~~bV k.bits b).toNat))
 | .eql=>K (.bool (a==b))
 | .neq=>K (.bool (a !=b))
 | .lss=>K (.bool (decide (a<b)))
 | .leq=>K (.bool (decide (a<=b)))
 | .gtr=>K (.bool (decide (a>b)))
 | .geq=>K (.bool (decide (a>=b)))
 | .shl=>0<=b/\K (.int k (k.wrap (a*2^(min b.toNat k.bits))))
 | .shr=>0<=b/\K (.int k (a.fdiv (2^(min b.toNat k.bits))))
def jt:List Nat->List Nat->Bool
 |_,[]=>false
 |[],_::_=>true
 |a::x,b::y=>decide (a<b)||(a==b&&jt x y)
def qc(op:BinOp)(a b:List Nat)(K:PV->Prop):Prop:=
 match op with
 | .add=>a.length+b.length<9223372036854775808/\K (.str (a++b))
 | .eql=>K (.bool (a==b))
 | .neq=>K (.bool (!(a==b)))
 | .lss=>K (.bool (jt a b))
 | .leq=>K (.bool (jt a b||a==b))
 | .gtr=>K (.bool (!(jt a b||a==b)))
 | .geq=>K (.bool (!(jt a b)))
 |_=>False
def kV(P:b4)(op:BinOp)(T:cb)(c:Bool)(H:an)(x y:AV)(K:PV->Prop):Prop:=
 match x,y with
 | .p (.int k a),.p (.int d b)=>(k=d\/op=.shl\/op=.shr)/\qd op k a b K
 | .p (.str a),.p (.str b)=>qc op a b K
 | .p (.bool a),.p (.bool b)=>rD P T=true/\match op with
  | .eql=>K (.bool (a==b))
  | .neq=>K (.bool (!(a==b)))
  |_=>False
 | .p (.st u fs),.p (.st u' gs)=>sF P T=true/\(match ja P 9 T (.st u fs) (.st u' gs),op with
  |some r,.eql=>K (.bool r)
  |some r,.neq=>K (.bool !r)
  |_,_=>False)
 |x,y=>
  (match dE P T c y with
  |some k=>(match cW H k x,op with
   |some r,.eql=>K (.bool r)
   |some r,.neq=>K (.bool !r)
   |_,_=>False)
  |none=>False)
def cN:Nat:=1073741824
def gW(H:an):AV->Option (List AV)
 | .p .aP=>some []
 | .p (.cT _ es)=>some (es.map .p)
 | .p (.seq es)=>some (es.map .p)
 | .p (.str s)=>some (s.map fun c=>.p (.int .u8 (c:Nat)))
 | .sl b aC aj off len=>match H[b]? with
  |some (.arr _ d a es)=>if aC=d/\aj=a/\off+len<=es.length then some ((es.drop off).take len)else none
  |_=>none
 |_=>none
def dF(H:an):AV->List (Nat×Obj)
 | .sl b _ _ _ _| .ptr b _| .b8 b _ _ _ _| .map b=>match H[b]? with
  |some o=>[(b,o)]
  |none=>[]
 |_=>[]
def eZ(P:b4)(aj:Nat):List AV->Prop
 |[]=>True
 |v::vs=>(aa v≠.bad/\bF P (aa v)=aj)/\eZ P aj vs
def cH(P:b4)(T:cb):Option Nat:=
 match P.underlying T with
 |some (.slice e)=>match P.info? e with
  |some i=>if i.bytes<32768/\0<i.size/\0<i.bytes then some i.size else none
  |none=>none
 |_=>none
def er(P:b4)(T:cb):cb:=
 match P.underlying T with
 |some (.slice e)=>e
 |_=>0
def iX(P:b4)(X:cb):Bool:=
 match P.underlying X with
 |some (.int _)=>false
 |some _=>true
 |none=>false
def gk(P:b4)(T:cb):AK:=if er P T=Gl.u8 then .bytes else .grow
def nW(P:b4)(T X:cb)(H:an)(s x:AV)(K:aZ->Prop):Prop:=
 match cH P T,gW H x with
 |some sz,some xs=>iX P X=true/\(cz P (er P T)).isSome=true/\eZ P sz xs/\
  (match s with
  | .p .aP=>if xs.isEmpty then K {v:=s,aq:=dF H x}else xs.length<=cN/\K {v:=.sl H.length 0 sz 0 xs.length,aq:=dF H x,aX:=[.arr (gk P T) 0 sz xs]}
  | .p (.cT full es)=>eZ P sz (es.map .p)/\if xs.isEmpty then K {v:=s,aq:=dF H x}else full=true/\es.length+xs.length<=cN/\
   K {v:=.sl H.length 0 sz 0 (es.length+xs.length),aq:=dF H x,aX:=[.arr (gk P T) 0 sz (es.map .p++xs)]}
  | .sl b aC aj off len=>match H[b]? with
   |some (.arr k c a es)=>aC=c/\aj=a/\aj=sz/\off+len<=es.length/\
    if xs.isEmpty then K {v:=s,aq:=(b,.arr k c a es)::dF H x}
    else es.length+xs.length<=cN/\(match k with
     | .frozen=>False
     | .exact=>if off+len+xs.length<=es.length then
      K {v:=.sl b aC aj off (len+xs.length),aq:=(b,.arr k c a es)::dF H x,aM:=[(b,.arr .exact aC aj (es.take (off+len)++xs++es.drop (off+len+xs.length)))]}
      else K {v:=.sl H.length 0 sz 0 (len+xs.length),aq:=(b,.arr k c a es)::dF H x,aX:=[.arr (gk P T) 0 sz ((es.drop off).take len++xs)]}
     |_=>off=0/\(k=.bytes->er P T=Gl.u8)/\K {v:=.sl b (aC+1) aj 0 (len+xs.length),aq:=(b,.arr k c a es)::dF H x,aM:=[(b,.arr k (aC+1) aj (es.take len++xs))]})
   |_=>False
  |_=>False)
 |_,_=>False
def gK(x:Option AV)(d:Nat)(K:Nat->Prop):Prop:=
 match x with
 |none=>K d
 |some (.p (.int _ i))=>0<=i/\K i.toNat
 |_=>False
def ot(P:b4)(T:cb)(H:an)(x:AV)(lo hi d:Option AV)(K:aZ->Prop):Prop:=
 d.isNone/\match x with
 | .p (.str s)=>iN P T=true/\gK hi s.length fun h=>gK lo 0 fun l=>h<=s.length/\l<=h/\K {v:=.p (.str ((s.take h).drop l))}
 | .p .aP=>(cH P T).isSome=true/\gK hi 0 fun h=>gK lo 0 fun l=>h<=0/\l<=h/\K {v:=x}
 | .p (.cT full es)=>gK hi es.length fun h=>gK lo 0 fun l=>h<=es.length/\l<=h/\
  (match cH P T with
  |some sz=>eZ P sz (es.map .p)/\K {v:=.p (.cT (full&&h==es.length) ((es.take h).drop l))}
  |none=>False)
 | .p (.seq es)=>gK hi es.length fun h=>gK lo 0 fun l=>h<=es.length/\l<=h/\
  (match cH P T with
  |some sz=>eZ P sz (es.map .p)/\K {v:=.p (.seq ((es.take h).drop l))}
  |none=>False)
 | .sl b aC aj off len=>match H[b]? with
  |some (.arr k c a es)=>aC=c/\aj=a/\cH P T=some aj/\¬(k.gr=true/\es=[])/\off+len<=es.length/\
   gK hi len fun h=>gK lo 0 fun l=>off+h<=es.length/\l<=h/\
    (if l=0 then K {v:=.sl b aC aj off h,aq:=[(b,.arr k c a es)]}
    else if l=h then K {v:=.p (.cT false []),aq:=[(b,.arr k c a es)]}
    else K {v:=.sl b aC aj (off+l) (h-l),aq:=[(b,.arr k c a es)]})
  |_=>False
 |_=>False
def q9(P:b4)(T:cb)(H:an)(x:AV)(lo hi:Option AV)(m:AV)(K:aZ->Prop):Prop:=
 match x with
 | .sl b aC aj off len=>match H[b]? with
  |some (.arr k c a es)=>aC=c/\aj=a/\(cH P T).isSome=true/\¬(k.gr=true/\es=[])/\off+len<=es.length/\hi.isSome=true/\
   gK hi len fun h=>gK lo 0 fun l=>gK (some m) 0 fun m=>off+m<=es.length/\h<=m/\l<=h/\K {v:=.p .undef,aq:=[(b,.arr k c a es)]}
  |_=>False
 |_=>False
def qq(P:b4)(T:cb)(x k:PV):Option Bool:=match x with
 | .st u fs=>match ja P 9 T (.st u fs) k,jM (.st u fs) k with
  |some a,some b=>bif a==b then some a else none
  |_,_=>none
 |x=>jM x k
def fP(P:b4)(T:cb):List (PV×PV)->PV->Option (Option PV)
 |[],_=>some none
 |(k,v)::r,x=>match qq P T x k with
  |some true=>some (some v)
  |some false=>fP P T r x
  |none=>none
def mv(P:b4)(T:cb)(a:List (PV×PV))(x:PV):Option (Option PV):=match x with
 | .st u fs=>match fP P T a (.st u fs)with
  |some none=>some none
  |_=>none
 |x=>fP P T a x
def fZ:List (PV×PV)->PV->PV->List (PV×PV)
 |[],k,v=>[(k,v)]
 |(a,v')::r,k,v=>if jM k a=some true then(k,v)::r else(a,v')::fZ r k v
def tV(P:b4)(T:cb):Bool:=match P.underlying T with
 |some (.int _)|some .string|some .bool=>true
 |_=>false
def ga(P:b4)(T:cb):PV->Bool
 | .int k _=>match P.underlying T with
  |some (.int a)=>decide (k=a)
  |_=>false
 | .str _=>iN P T
 | .st u fs=>match P.underlying T with
  |some (.struct bY)=>bY.toList.all (fun f=>f.name != "_" &&tV P f.type)&&(ja P 9 T (.st u fs) (.st u fs)).isSome
  |_=>false
 |_=>false
def lR(P:b4)(T:cb):Option (cb×cb):=
 match P.underlying T with
 |some (.map k e)=>some (k,e)
 |_=>none
def lenOf(H:an):AV->Option (Nat×List (Nat×Obj))
 | .p (.str s)=>some (s.length,[])
 | .p .aP| .p .fk=>some (0,[])
 | .p (.cT _ es)| .p (.seq es)=>some (es.length,[])
 | .p (.eg es)=>some (es.length,[])
 | .sl b aC aj _off len=>match H[b]? with
  |some (.arr k c a es)=>if aC=c/\aj=a then some (len,[(b,.arr k c a es)])else none
  |_=>none
 | .map b=>match H[b]? with
  |some (.map fz es)=>some (es.length,[(b,.map fz es)])
  |_=>none
 |_=>none
def ig(P:b4)(T:cb):AV->Bool
 | .p (.str _)=>iN P T
 | .p .aP| .p (.cT _ _)| .p (.seq _)| .sl ..=>match P.underlying T with
  |some (.slice _)=>true
  |_=>false
 | .p .fk| .p (.eg _)| .map _=>match P.underlying T with
  |some (.map _ _)=>true
  |_=>false
 |_=>false
def Ax(H:an):AV->Option (Nat×List (Nat×Obj))
 | .p .aP=>some (0,[])
 | .p (.cT true es)=>some (es.length,[])
 | .sl b aC aj off _len=>match H[b]? with
  |some (.arr .exact c a es)=>if aC=c/\aj=a/\off<=es.length then some (es.length-off,[(b,.arr .exact c a es)])else none
  |_=>none
 |_=>none
def bytesOf:List AV->Option (List Nat)
 |[]=>some []
 | .p (.int .u8 c)::r=>if 0<=c/\c<256 then match bytesOf r with
  |some l=>some (c.toNat::l)
  |none=>none
  else none
 |_=>none
def ptrTo(P:b4)(T:cb):Option cb:=
 match P.underlying T with
 |some (.pointer e)=>some e
 |_=>none
def ml(k:dg)(c:Bool):List AV->Int->Option Int
 |[],a=>some a
 | .p (.int d b)::r,a=>if k=d then ml k c r (if c then(if b>a then b else a)else(if b<a then b else a))else none
 |_,_=>none
def iL(a:List AV):List (Nat×AV)->List AV
 |[]=>a
 |(i,v)::r=>iL (a.set i v) r
def mj(P:b4)(l:List Nat):List (Nat×AV)->Prop
 |[]=>True
 |(i,v)::r=>(∃n,l[i]?=some n/\bF P (aa v)=n/\aa v≠.bad)/\mj P l r
def fO(H:an):List AV->Option (List PV×List (Nat×Obj)×List (Nat×Obj))
 |[]=>some ([],[],[])
 | .p v::r=>match fO H r with
  |some (a,aq,aM)=>some (v::a,aq,aM)
  |none=>none
 | .ptr b []::r=>match H[b]?,fO H r with
  |some (.box fz (.p t)),some (a,aq,aM)=>some (.cq t::a,(b,.box fz (.p t))::aq,(b,.box true (.p t))::aM)
  |_,_=>none
 |_=>none
def oI(P:b4)(T:cb)(H:an)(a:AV)(K:aZ->Prop):Prop:=
 match a with
 | .ptr b path=>match H[b]? with
  |some (.box fz t)=>match eU t path with
   |some s=>kindOf P T=aa s/\K {v:=s,aq:=[(b,.box fz t)]}
   |none=>False
  |_=>False
 | .b8 b aC aj i path=>match H[b]? with
  |some (.arr k d c es)=>aC=d/\aj=c/\∃h:i<es.length,match eU (es[i]'h) path with
   |some s=>kindOf P T=aa s/\K {v:=s,aq:=[(b,.arr k d c es)]}
   |none=>False
  |_=>False
 | .p (.cq t)=>kindOf P T=aL t/\K {v:=.p t}
 |_=>False
def om(P:b4)(T:cb)(H:an)(a x:AV)(K:aZ->Prop):Prop:=
 kindOf P T=aa x/\aa x≠.bad/\match a with
 | .ptr b path=>match H[b]? with
  |some (.box false t)=>match eU t path,fX t path x with
   |some s,some d=>aa s=aa x/\K {v:=.p (.aE []),aq:=[(b,.box false t)],aM:=[(b,.box false d)]}
   |_,_=>False
  |_=>False
 | .b8 b aC aj i path=>match H[b]? with
  |some (.arr k e c es)=>aC=e/\aj=c/\k≠.frozen/\∃h:i<es.length,match eU (es[i]'h) path,fX (es[i]'h) path x with
   |some s,some d=>aa s=aa x/\K {v:=.p (.aE []),aq:=[(b,.arr k e c es)],aM:=[(b,.arr k e c (es.set i d))]}
   |_,_=>False
  |_=>False
 |_=>False
def fg(P:b4)(T:cb):Option (cb×Nat):=
 match kindOf P T,P.underlying T with
 | .agg u,some (.struct fs)=>some (u,fs.size)
 |_,_=>none
def ir(P:b4)(T:cb):Option (cb×Nat):=
 match kindOf P T,P.underlying T with
 | .agg u,some (.array n _)=>some (u,n)
 |_,_=>none
def nU(P:b4)(T:cb)(a:AV)(f:Nat)(K:aZ->Prop):Prop:=
 match fg P T with
 |some (u,n)=>f<n/\(match a with
  | .ptr b path=>K {v:=.ptr b (path++[(u,f)])}
  | .b8 b aC aj i path=>K {v:=.b8 b aC aj i (path++[(u,f)])}
  | .p (.cq t)=>aL t=.agg u/\(match(bY t)[f]? with
   |some g=>K {v:=.p (.cq g)}
   |none=>False)
  |_=>False)
 |_=>False
def nT(P:b4)(T:cb)(H:an)(x i:AV)(K:aZ->Prop):Prop:=
 match i with
 | .p (.int _ i)=>0<=i/\(match x with
  | .p (.cT _ es)=>∃h:i.toNat<es.length,cH P T=some (bF P (aL (es[i.toNat]'h)))/\K {v:=.p (.cq (es[i.toNat]'h))}
  | .p (.seq es)=>∃h:i.toNat<es.length,cH P T=some (bF P (aL (es[i.toNat]'h)))/\K {v:=.p (.cq (es[i.toNat]'h))}
  | .sl b aC aj off len=>cH P T=some aj/\i.toNat<len/\(match H[b]? with
   |some (.arr k c a es)=>aC=c/\aj=a/\¬(k.gr=true/\es=[])/\K {v:=.b8 b aC aj (off+i.toNat) [],aq:=[(b,.arr k c a es)]}
   |_=>False)
  | .ptr b path=>(match ir P T with
   |some (u,n)=>i.toNat<n/\K {v:=.ptr b (path++[(u,i.toNat)])}
   |_=>False)
  | .b8 b aC aj j path=>(match ir P T with
   |some (u,n)=>i.toNat<n/\K {v:=.b8 b aC aj j (path++[(u,i.toNat)])}
   |_=>False)
  | .p (.cq t)=>(match ir P T with
   |some (u,n)=>aL t=.agg u/\i.toNat<n/\(match(bY t)[i.toNat]? with
    |some g=>K {v:=.p (.cq g)}
    |none=>False)
   |_=>False)
  |_=>False)
 |_=>False
def fH(P:b4)(ag:ck->Bool)(o:Oper)(ρ:cv->AV)(H:an)(K:aZ->Prop):Prop:=
 match o.op with
 | .move x| .assign x=>K {v:=ρ x}
 | .pick c a b=>match ρ c with
  | .p (.bool t)=>K {v:=if t then ρ a else ρ b}
  |_=>False
 | .alloc T=>match cz P T with
  |some z=>kindOf P T=aL z/\aL z≠.bad/\jA T (aL z)=true/\K {v:=.ptr H.length [],aX:=[.box false (.p z)]}
  |none=>False
 | .box T x=>kindOf P T=aa (ρ x)/\aa (ρ x)≠.bad/\jA T (aa (ρ x))=true/\K {v:=.ptr H.length [],aX:=[.box false (ρ x)]}
 | .build T parts=>match kindOf P T,cz P T with
  | .agg u,some z=>(match dD P u with
   |some l=>aL z=.agg u/\mj P l (parts.toList.map fun(i,x)=>(i,ρ x))/\K {v:=iw u (iL ((bY z).map .p) (parts.toList.map fun(i,x)=>(i,ρ x)))}
   |none=>False)
  |_,_=>False
 | .buildSlice T n parts=>match cH P T,cz P (er P T)with
  |some sz,some z=>bF P (aL z)=sz/\n*sz<=1000000/\mj P (e6 n sz) (parts.toList.map fun(i,x)=>(i,ρ x))/\
   K {v:=.sl H.length 0 sz 0 n,aX:=[.arr .exact 0 sz (iL (e6 n (.p z)) (parts.toList.map fun(i,x)=>(i,ρ x)))]}
  |_,_=>False
 | .load T a=>oI P T H (ρ a) K
 | .store T a x=>om P T H (ρ a) (ρ x) K
 | .binOp op T x y _=>kV P op T (mJ y) H (ρ x) (ρ y) (fun v=>K {v:=.p v,aq:=dF H (ρ x)})
 | .unOp op _ x=>match op,ρ x with
  | .not,.p (.bool b)=>K {v:=.p (.bool (!b))}
  | .neg,.p (.int k n)=>K {v:=.p (.int k (k.wrap (0-n)))}
  | .xor,.p (.int k n)=>K {v:=.p (.int k (k.wrap (bV k.bits (if k.signed then -1 else k.max)^^^bV k.bits n).toNat))}
  |_,_=>False
 | .convert S D x=>match P.underlying S,P.underlying D,ρ x with
  |some _,some (.int k),.p (.int _ n)=>K {v:=.p (.int k (k.wrap n))}
  |some _,some .string,.p (.str s)=>K {v:=.p (.str s)}
  |some (.slice e),some .string,.sl b aC aj off len=>(match H[b]? with
   |some (.arr k q j es)=>aC=q/\aj=j/\aj=1/\P.underlying e=some (.int .u8)/\0<len/\off+len<=es.length/\(match bytesOf ((es.drop off).take len)with
    |some l=>K {v:=.p (.str l),aq:=[(b,.arr k q j es)]}
    |none=>False)
   |_=>False)
  |_,_,_=>False
 | .extract t i=>match ρ t with
  | .p (.aE vs)=>(match vs[i]? with
   |some v=>K {v:=.p v}
   |none=>False)
  | .aE vs=>(match vs[i]? with
   |some v=>K {v}
   |none=>False)
  |_=>False
 | .fieldAddr T a f=>nU P T (ρ a) f K
 | .indexAddr T x i=>nT P T H (ρ x) (ρ i) K
 | .field T x f=>match kindOf P T,P.underlying T,ρ x with
  | .agg u,some (.struct _),.p t=>aL t=.agg u/\(match(bY t)[f]?,(jF P u)[f]? with
   |some g,some F=>kindOf P F=aL g/\K {v:=.p g}
   |_,_=>False)
  |_,_,_=>False
 | .index T x i=>match ρ x,ρ i with
  | .p (.str s),.p (.int _ i)=>iN P T=true/\0<=i/\∃h:i.toNat<s.length,K {v:=.p (.int .u8 (s[i.toNat]'h))}
  | .p (.st u es),.p (.int _ i)=>(match ir P T,(jF P u)[i.toNat]?,es[i.toNat]? with
   |some (u',n),some F,some g=>u'=u/\0<=i/\i.toNat<n/\kindOf P F=aL g/\K {v:=.p g}
   |_,_,_=>False)
  |_,_=>False
 | .makeFunc (.func f) fi ca=>if ag f then(match fO H (fi.toList.map ρ),fO H (ca.toList.map ρ)with
   |some (a,[],[]),some (b,aq,aM)=>K {v:=.p (.func f a b),aq,aM}
   |_,_=>False)
  else match eO (fi.toList.map ρ),eO (ca.toList.map ρ)with
   |some a,some b=>K {v:=.p (.func f a b)}
   |_,_=>K {v:=.func f (fi.toList.map ρ) (ca.toList.map ρ)}
 | .makeSlice T l c=>match cH P T,cz P (er P T),ρ l,ρ c with
  |some sz,some z,.p (.int .i64 l),.p (.int .i64 c)=>bF P (aL z)=sz/\0<=l/\l=c/\l<=cN/\K {v:=.sl H.length 0 sz 0 l.toNat,aX:=[.arr .exact 0 sz (e6 l.toNat (.p z))]}
  |_,_,_,_=>False
 | .slice T x lo hi A=>match A with
  |none=>ot P T H (ρ x) (lo.map ρ) (hi.map ρ) none K
  |some m=>q9 P T H (ρ x) (lo.map ρ) (hi.map ρ) (ρ m) K
 | .makeMap _ none=>K {v:=.map H.length,aX:=[.map false []]}
 | .lookup T x i ok=>match lR P T,ρ i with
  |some (w,E),.p key=>(match cz P E with
   |some z=>ga P w key=true/\(match ρ x with
    | .p .fk=>K {v:=.p (if ok then .aE [z,.bool false]else z)}
    | .p (.eg es)=>(match fP P w es key with
     |some (some v)=>K {v:=.p (if ok then .aE [v,.bool true]else v)}
     |some none=>K {v:=.p (if ok then .aE [z,.bool false]else z)}
     |none=>False)
    | .map b=>(match H[b]? with
     |some (.map fz es)=>(match fP P w es key with
      |some (some v)=>K {v:=.p (if ok then .aE [v,.bool true]else v),aq:=[(b,.map fz es)]}
      |some none=>K {v:=.p (if ok then .aE [z,.bool false]else z),aq:=[(b,.map fz es)]}
      |none=>False)
     |_=>False)
    |_=>False)
   |none=>False)
  |_,_=>False
 | .mapUpdate T m k x| .insert T m k x=>match lR P T,ρ m,ρ k,ρ x with
  |some (w,_),.map b,.p key,.p v=>ga P w key=true/\(match H[b]? with
   |some (.map false es)=>(match mv P w es key with
    |some _=>K {v:=.p (.aE []),aq:=[(b,.map false es)],aM:=[(b,.map false (fZ es key v))]}
    |none=>False)
   |_=>False)
  |_,_,_,_=>False
 | .range T x=>match ρ x with
  | .p (.str s)=>iN P T=true/\K {v:=.ptr H.length [],aX:=[.dy s 0]}
  |_=>False
 | .next it true=>match ρ it with
  | .ptr b []=>(match H[b]? with
   |some (.dy s pos)=>if pos<s.length then
    K {v:=.p (.aE [.bool true,.int .i64 pos,.int .i32 (Utf8.decode (gD s) pos).1]),aq:=[(b,.dy s pos)],aM:=[(b,.dy s (pos+(Utf8.decode (gD s) pos).2))]}
    else K {v:=.p (.aE [.bool false]),aq:=[(b,.dy s pos)]}
   |_=>False)
  |_=>False
 | .nilCheck x=>match ρ x with
  | .ptr _ _| .b8 _ _ _ _ _| .p (.cq _)=>K {v:=ρ x}
  |_=>False
 | .call c=>match c.callee with
  | .builtin b=>let args:=c.args.toList.map ρ
   let T:=c.argTypes.getD 0 0
   (match b,args with
   | .len,[x]=>(match lenOf H x with
    |some (n,aq)=>ig P T x=true/\0<c.argTypes.size/\K {v:=.p (.int .i64 n),aq}
    |none=>False)
   | .append,[s,x]=>c.argTypes.size=2/\nW P T (c.argTypes.getD 1 0) H s x K
   | .min,.p (.int k a)::r=>(match ml k false r a with
    |some n=>K {v:=.p (.int k n)}
    |none=>False)
   | .max,.p (.int k a)::r=>(match ml k true r a with
    |some n=>K {v:=.p (.int k n)}
    |none=>False)
   | .copy,[d,x]=>(match cH P T,d,gW H x with
    |some sz,.sl b aC aj off len,some xs=>aj=sz/\eZ P sz xs/\c.argTypes.size=2/\(match H[b]? with
     |some (.arr k q j es)=>aC=q/\aj=j/\k≠.frozen/\off+len<=es.length/\¬(k.gr=true/\es=[])/\
      K {v:=.p (.int .i64 (min xs.length len:Nat)),aq:=(b,.arr k q j es)::dF H x,aM:=[(b,.arr k q j (es.take off++xs.take (min xs.length len)++es.drop (off+min xs.length len)))]}
     |_=>False)
    |_,_,_=>False)
   | .cap,[x]=>(match Ax H x with
    |some (n,aq)=>ig P T x=true/\0<c.argTypes.size/\K {v:=.p (.int .i64 n),aq}
    |none=>False)
   | .clear,[x]=>(match x with
    | .p .aP=>ig P T x=true/\0<c.argTypes.size/\K {v:=.p (.aE [])}
    | .sl b aC aj off len=>(match cH P T,cz P (er P T),H[b]? with
     |some sz,some z,some (.arr k q j es)=>aC=q/\aj=j/\aj=sz/\bF P (aL z)=sz/\k≠.frozen/\off+len<=es.length/\¬(k.gr=true/\es=[])/\0<c.argTypes.size/\0<len/\
      K {v:=.p (.aE []),aq:=[(b,.arr k q j es)],aM:=[(b,.arr k q j (es.take off++e6 len (.p z)++es.drop (off+len)))]}
     |_,_,_=>False)
    |_=>False)
   | .unsafeSliceData,[x]=>(match x with
    | .p .aP=>K {v:=.p .dM}
    | .sl b aC aj off len=>(match H[b]? with
     |some (.arr k q j es)=>aC=q/\aj=j/\((k.gr=true/\es=[]/\K {v:=.p .dM,aq:=[(b,.arr k q j es)]})\/(0<len/\off+len<=es.length/\K {v:=.b8 b aC aj off [],aq:=[(b,.arr k q j es)]}))
     |_=>False)
    |_=>False)
   | .unsafeString,[x,.p (.int .i64 n)]=>(match x with
    | .p .dM=>n=0/\c.argTypes.size=2/\K {v:=.p (.str [])}
    | .b8 b aC aj i []=>(match H[b]? with
     |some (.arr .bytes q j es)=>aC=q/\aj=j/\aj=1/\i=0/\0<n/\n.toNat<=es.length/\n<=9223372036854775807/\c.argTypes.size=2/\ptrTo P T=some Gl.u8/\P.cellsOf Gl.u8=1/\(match bytesOf (es.take n.toNat)with
      |some l=>K {v:=.p (.str l),aq:=[(b,.arr .bytes q j es)],aM:=[(b,.dead)]}
      |none=>False)
     |_=>False)
    |_=>False)
   |_,_=>False)
  |_=>False
 |_=>False
def newAt(a:Nat):List Obj->List (Nat×Obj)
 |[]=>[]
 |o::r=>(a,o)::newAt (a+1) r
structure b6(P:b4)(ai ad:Nat->Prop)(w:cc)(β:Bd)(H:an)(aH:Nat->Prop)(w':cc)(aK:Bd)(H':an):Prop where
 bS:∀k,ad k->aH k
 fresh:∀k,aH k->ad k\/¬ai k
 ext:Ext ai ad w w'
 step:cC β H aK H'
 rel:bX P w' aH aK H' ai
 fa:∀x,aJ H x->aJ H' x
 loop:∀b,gZ H b->gZ H' b
def Enters(P:b4)(f:ck):Prop:=∀(args:Array b5)(w:cc),(callFunc f args).run P w=.ok (.enter f args) w
def cA(P:b4)(f:ck)(H:an)(args:List AV)(H':an)(v:AV):Prop:=
 Enters P f/\∀(w:cc)(ad ai:Nat->Prop)(β:Bd)(a:List b5),bX P w ad β H ai->bJ P w ad β H args a->ba (aJ H) args->
  dk P f a.toArray w fun e w'=>∃b aK aH,e=.returned b/\b6 P ai ad w β H aH w' aK H'/\aD P w' aH aK H' v b/\aG (aJ H') v
def ft(P:b4)(b:Nat)(H:an)(args:List AV)(H':an)(v:AV):Prop:=
 gZ H b/\∀(w:cc)(ad ai:Nat->Prop)(β:Bd)(c:List b5),bX P w ad β H ai->bJ P w ad β H args c->ba (aJ H) args->
  ∃f tmps assign body,(Instr.yield (β.au b) c.toArray).run P w=.ok (.round (β.au b) f tmps assign body) w/\
   ∀(a:cx)(e:List cx),∃d w' aK aH,da P (lone (Frame.round (β.au b) f tmps assign body .normal) (a::e) w) (lone (a.finish d) e w')/\
    b6 P ai ad w β H aH w' aK H'/\aD P w' aH aK H' v d/\aG (aJ H') v
def sr(P:b4)(f:ck)(args:List AV)(base:Nat)(e:aZ):Prop:=
 Enters P f/\∀(H:an)(w:cc)(ad ai:Nat->Prop)(β:Bd)(a:List b5),bX P w ad β H ai->bJ P w ad β H args a->ba (aJ H) args->
  (∀p∈e.aq,H[p.1]?=some p.2)->(∀i,i<e.aX.length->H[base+i]?=some .hole)->
  dk P f a.toArray w fun x w'=>∃b aK aH,x=.returned b/\b6 P ai ad w β H aH w' aK (bf H (e.aM++newAt base e.aX))/\
   aD P w' aH aK (bf H (e.aM++newAt base e.aX)) e.v b/\aG (aJ (bf H (e.aM++newAt base e.aX))) e.v
def oL(P:b4)(b:Nat)(args:List AV)(a:Nat)(e:aZ):Prop:=
 ∀(H:an)(w:cc)(ad ai:Nat->Prop)(β:Bd)(d:List b5),bX P w ad β H ai->bJ P w ad β H args d->ba (aJ H) args->
  (∀p∈e.aq,H[p.1]?=some p.2)->(∀i,i<e.aX.length->H[a+i]?=some .hole)->
  gZ H b/\∃f tmps assign body,(Instr.yield (β.au b) d.toArray).run P w=.ok (.round (β.au b) f tmps assign body) w/\
   ∀(c:cx)(h:List cx),∃g w' aK aH,da P (lone (Frame.round (β.au b) f tmps assign body .normal) (c::h) w) (lone (c.finish g) h w')/\
    b6 P ai ad w β H aH w' aK (bf H (e.aM++newAt a e.aX))/\
    aD P w' aH aK (bf H (e.aM++newAt a e.aX)) e.v g/\aG (aJ (bf H (e.aM++newAt a e.aX))) e.v
def Ef(P:b4)(f:ck)(args:List AV)(aq:List (Nat×Obj))(v:PV):Prop:=
 ∀(H:an)(w:cc)(ad ai:Nat->Prop)(β:Bd)(a:List b5),bX P w ad β H ai->bJ P w ad β H args a->ba (aJ H) args->(∀p∈aq,H[p.1]?=some p.2)->
  ∃b,(callFunc f a.toArray).run P w=.ok (.value b) w/\aF P w ad v b
def oQ(H:an)(e:aZ):Prop:=(∀p∈e.aq,H[p.1]?=some p.2)/\(∀p∈e.aM,p.1<H.length/\p.2≠.hole)
def so(P:b4)(f:ck)(args:List PV)(v:PV):Prop:=
 Enters P f/\∀(w:cc)(ad:Nat->Prop)(a:List b5),(∀k,ad k->k<w.heap.size)->nr P w ad->bL P w ad args a->
  dk P f a.toArray w fun e w'=>∃b,∃aH:Nat->Prop,e=.returned b/\(∀k,ad k->aH k)/\(∀k,aH k->ad k\/w.heap.size<=k)/\(∀k,aH k->k<w'.heap.size)/\
   w.heap.size<=w'.heap.size/\(∀k,k<w.heap.size->w'.heap[k]?=w.heap[k]?)/\(w'.os=w.os/\w'.output=w.output)/\aF P w' aH v b
def SR(P:b4)(f:ck)(args:List PV)(v:PV):Prop:=
 ∀(w:cc)(ad:Nat->Prop)(a:List b5),bL P w ad args a->∃b,(callFunc f a.toArray).run P w=.ok (.value b) w/\aF P w ad v b
def ar(P:b4)(f:ck)(args:List PV)(v:PV):Prop:=so P f args v\/SR P f args v
def lA(H:an):AV->Option (PV×an)
 | .p v=>some (v,H)
 | .sl b aC aj off len=>match H[b]? with
  |some (.arr k d a es)=>
   if aC=d/\aj=a/\off+len<=es.length then
    if k.gr=true/\es=[]then some (.aP,H)else
    match eO es with
    |some c=>some (.cT (k== .exact&&off+len==es.length) ((c.drop off).take len),H.set b (.arr .frozen aC aj es))
    |none=>none
   else none
  |_=>none
 | .ptr b path=>match H[b]? with
  |some (.box _ (.p t))=>match lC t path with
   |some s=>some (.cq s,H.set b (.box true (.p t)))
   |none=>none
  |_=>none
 | .map b=>match H[b]? with
  |some (.map _ es)=>some (.eg es,H.set b (.map true es))
  |_=>none
 |_=>none
def nI(H:an):List AV->Option (List PV×an)
 |[]=>some ([],H)
 |x::r=>match lA H x with
  |some (v,H1)=>match nI H1 r with
   |some (vs,a)=>some (v::vs,a)
   |none=>none
  |none=>none
def ib(P:b4)(draw:Bool)(f:ck)(args:List AV)(H:an)(K:AV->an->Prop):Prop:=
 (∃vs v,args=vs.map .p/\ar P f vs v/\K (.p v) H)\/
 (draw=false/\((∃vs H1 v,nI H args=some (vs,H1)/\ar P f vs v/\K (.p v) H1)\/(∃H' v,cA P f H args H' v/\K v H')\/
  (∃e,sr P f args H.length e/\oQ H e/\K e.v (bf H e.aM++e.aX))\/(∃aq v,Ef P f args aq v/\(∀p∈aq,H[p.1]?=some p.2)/\K (.p v) H)))
def jO(P:b4)(ag:ck->Bool)(draw:Bool)(o:Oper)(K:St->Prop)(s:St):Prop:=
 match o.op with
 | .call {callee:=.value f,args,.. }=>(match ev s.env f with
  | .p (.func g fi ca)=>ib P draw g (fi.map .p++args.toList.map (ev s.env)++ca.map .p) s.heap (fun v H'=>K ⟨put o.dst v s.env,H'⟩)
  | .func g fi ca=>ib P draw g (fi++args.toList.map (ev s.env)++ca) s.heap (fun v H'=>K ⟨put o.dst v s.env,H'⟩)
  | .map b=>∃H' v,ft P b s.heap (args.toList.map (ev s.env)) H' v/\K ⟨put o.dst v s.env,H'⟩
  |_=>False)
 |_=>fH P ag o (ev s.env) s.heap fun e=>K (e.app o.dst s)
def guardOf(a:Array Oper)(j:Nat)(e:Env):AV:=
 match(a[j]?).bind (·.dst)with
 |some d=>aS e d
 |none=>.p (.aE [])
def ic(P:b4)(ag:ck->Bool)(draw:Bool)(a:Array Oper):List Oper->(St->Prop)->St->Prop
 |[],K,s=>K s
 |o::r,K,s=>match o.guard with
  |none=>jO P ag draw o (ic P ag draw a r K) s
  |some (j,want)=>match guardOf a j s.env with
   | .p (.bool t)=>if t=want then jO P ag draw o (ic P ag draw a r K) s else ic P ag draw a r K ⟨put o.dst (.p (.aE [])) s.env,s.heap⟩
   | .p (.aE [])=>ic P ag draw a r K ⟨put o.dst (.p (.aE [])) s.env,s.heap⟩
   |_=>False
def mE:Obj->Option Obj
 | .box _ (.p t)=>some (.box true (.p t))
 | .arr k aC aj es=>if k.gr=true/\es=[]then none else match eO es with
  |some _=>some (.arr .frozen aC aj es)
  |none=>none
 | .map _ es=>some (.map true es)
 |_=>none
def mN(H:an):AV->Option (PV×List Nat)
 | .p v=>some (v,[])
 | .sl b aC aj off len=>match H[b]? with
  |some (.arr k d a es)=>
   if aC=d/\aj=a/\off+len<=es.length then
    if k.gr=true/\es=[]then none else
    match eO es with
    |some c=>some (.cT (k== .exact&&off+len==es.length) ((c.drop off).take len),[b])
    |none=>none
   else none
  |_=>none
 | .ptr b path=>match H[b]? with
  |some (.box _ (.p t))=>match lC t path with
   |some s=>some (.cq s,[b])
   |none=>none
  |_=>none
 | .map b=>match H[b]? with
  |some (.map _ es)=>some (.eg es,[b])
  |_=>none
 |_=>none
def oK(H:an):List AV->Option (List PV×List Nat)
 |[]=>some ([],[])
 |x::r=>match mN H x,oK H r with
  |some (v,bs),some (vs,cs)=>some (v::vs,bs++cs)
  |_,_=>none
def lO(H:an):List Nat->Option (List (Nat×Obj)×List (Nat×Obj))
 |[]=>some ([],[])
 |b::r=>match H[b]?,lO H r with
  |some o,some (aq,aM)=>(match mE o with
   |some o'=>some ((b,o)::aq,(b,o')::aM)
   |none=>none)
  |_,_=>none
def im(P:b4)(f:ck)(args:List AV)(H:an)(K:aZ->Prop):Prop:=
 (∃vs v,args=vs.map .p/\ar P f vs v/\K {v:=.p v})\/
 (∃vs bs aq aM v,oK H args=some (vs,bs)/\lO H bs=some (aq,aM)/\ar P f vs v/\K {v:=.p v,aq,aM})\/
 (∃e,sr P f args H.length e/\oQ H e/\K e)\/
 (∃aq v,Ef P f args aq v/\(∀p∈aq,H[p.1]?=some p.2)/\K {v:=.p v,aq})
def jB(P:b4)(ag:ck->Bool)(o:Oper)(s:St)(K:aZ->Prop):Prop:=
 match o.op with
 | .call {callee:=.value f,args,.. }=>(match ev s.env f with
  | .p (.func g fi ca)=>im P g (fi.map .p++args.toList.map (ev s.env)++ca.map .p) s.heap K
  | .func g fi ca=>im P g (fi++args.toList.map (ev s.env)++ca) s.heap K
  | .map b=>∃e,oL P b (args.toList.map (ev s.env)) s.heap.length e/\oQ s.heap e/\K e
  |_=>False)
 |_=>fH P ag o (ev s.env) s.heap K
structure Touch where
 i:Nat
 rd:List Nat
 wr:List Nat
def oy(a:Nat):List Obj->List Nat
 |[]=>[]
 |_::r=>a::oy (a+1) r
def gY(i a:Nat)(e:aZ):Touch:=⟨i,e.aq.map (·.1),e.aM.map (·.1)++oy a e.aX⟩
def gd(i b:Nat)(e:aZ)(a:List Touch):List Touch:=
 match e.aq,e.aM,e.aX with
 |[],[],[]=>a
 |_,_,_=>gY i b e::a
def reach(a:Array Oper):Nat->Nat->Nat->Bool
 |0,_,_=>false
 |f+1,i,j=>match a[j]? with
  |some o=>o.after.toList.any (fun e=>dz .any e&&e.on==i)||o.after.toList.any (fun e=>dz .any e&&decide (i<e.on)&&reach a f i e.on)
  |none=>false
def jx(u t:Touch):Bool:=u.wr.any (fun b=>t.rd.contains b||t.wr.contains b)||u.rd.any (fun b=>t.wr.contains b)
def iM(a:Array Oper):List Touch->Bool
 |[]=>true
 |t::r=>r.all (fun u=>!jx u t||reach a a.size u.i t.i)&&iM a r
def gv(P:b4)(ag:ck->Bool)(a:Array Oper):List Oper->Nat->List Touch->(St->Prop)->St->Prop
 |[],_,acc,K,s=>iM a acc=true/\K s
 |o::r,i,acc,K,s=>match o.guard with
  |none=>jB P ag o s fun e=>gv P ag a r (i+1) (gd i s.heap.length e acc) K (e.app o.dst s)
  |some (j,want)=>match guardOf a j s.env with
   | .p (.bool t)=>if t=want then jB P ag o s fun e=>gv P ag a r (i+1) (gd i s.heap.length e acc) K (e.app o.dst s)
    else gv P ag a r (i+1) acc K ⟨put o.dst (.p (.aE [])) s.env,s.heap⟩
   | .p (.aE [])=>gv P ag a r (i+1) acc K ⟨put o.dst (.p (.aE [])) s.env,s.heap⟩
   |_=>False
inductive bw where|normal|exit (id:Nat)|ret
mutual
def fY(T:an):PV->AV->Prop
 | .aP,x=>x=.p .aP\/match x with
  | .sl b aC _ off len=>aC=0/\off=0/\len=0/\∃k z,T[b]?=some (.arr k 0 z [])/\k.gr=true
  |_=>False
 | .st u fs,x=>x=.p (.st u fs)\/match x with
  | .st u' gs=>u=u'/\lE T fs gs
  |_=>False
 |v,x=>x=.p v
def lE(T:an):List PV->List AV->Prop
 |[],gs=>gs=[]
 |v::vs,gs=>match gs with
  |g::gs=>fY T v g/\lE T vs gs
  |[]=>False
end
mutual
def Gh(T:an):AV->AV->Prop
 | .p v,x=>fY T v x
 | .st u fs,x=>match x with
  | .st u' gs=>u=u'/\mP T fs gs
  |_=>False
 |a,x=>x=a
def mP(T:an):List AV->List AV->Prop
 |[],gs=>gs=[]
 |v::vs,gs=>match gs with
  |g::gs=>Gh T v g/\mP T vs gs
  |[]=>False
end
structure pZ(s t:St):Prop where
 env:∀x,aS t.env x=aS s.env x\/aS t.env x=.p .undef\/Gh t.heap (aS s.env x) (aS t.env x)
 heap:∀(b:Nat)(o:Obj),t.heap[b]?=some o->o=.hole\/s.heap[b]?=some o\/((s.heap[b]?=none\/s.heap[b]?=some .hole)/\∃k z,o=.arr k 0 z []/\k.gr=true)\/(∃v v',s.heap[b]?=some (.box false v)/\o=.box false v'/\Gh t.heap v v')
 gN:∀x,aG (aJ t.heap) (aS t.env x)
 hrefs:∀(b:Nat)(o:Obj),t.heap[b]?=some o->o.refs (aJ t.heap)
def cV(N:Nat)(s t:St):Prop:=t=s\/(pZ s t/\∀b,b<N->t.heap[b]?=s.heap[b]?)
def jy(Q:bw->St->Prop)(j:Option Code)(s:St):Prop:=
 match j with
 |none=>Q .normal s
 |some (.exit id)=>Q (.exit id) s
 |some .ret=>Q .ret s
 |_=>False
def ju(P:b4)(it:AV)(b:Nat)(H:an)(K:an->Prop):Prop:=
 match it with
 | .p (.func g fi ca)=>∃H' v,cA P g H (fi.map .p++[.map b]++ca.map .p) H' v/\K H'
 | .func g fi ca=>∃H' v,cA P g H (fi++[.map b]++ca) H' v/\K H'
 |_=>False
def iG(b:Nat)(env:Env)(Q:bw->St->Prop)(H:an):Prop:=
 match H[b]? with
 |some (.loop L)=>L.st≠.busy/\jy Q L.pending ⟨env,H.set b (.loop {L with st:=.exhausted})⟩
 |_=>False
abbrev Cx:=Nat×Nat
def cd(P:b4)(ag:ck->Bool)(q:Cx):Code->(bw->St->Prop)->St->Prop
 | .skip,Q,s| .label _,Q,s=>Q .normal s
 | .region _ ops draw,Q,s=>if draw then gv P ag ops ops.toList 0 [] (Q .normal) s else ic P ag false ops ops.toList (Q .normal) s
 | .seq a b,Q,s=>cd P ag q a (fun e s'=>match e with
  | .normal=>cd P ag q b Q s'
  |e=>Q e s') s
 | .cond c a b,Q,s=>match ev s.env c with
  | .p (.bool t)=>if t then cd P ag q a Q s else cd P ag q b Q s
  |_=>False
 | .block id b,Q,s=>cd P ag q b (fun e s'=>match e with
  | .exit i=>if i=id then Q .normal s' else Q (.exit i) s'
  |e=>Q e s') s
 | .scope b,Q,s=>cd P ag q b Q s
 | .loop b,Q,s=>∃I:Nat->St->Prop,(∃n t,cV q.2 s t/\I n t)/\∀n t,I n t->cd P ag q b (fun e s'=>match e with
  | .normal=>∃m g,m<n/\cV q.2 s' g/\I m g
  |e=>Q e s') t
 | .rangeFunc f h a b,Q,s=>q.2<=s.heap.length/\∃d:Env,(∀x,aS d x=aS s.env x)/\ju P (ev s.env f) s.heap.length (s.heap++[.loop ⟨.ready,none,q.1,h.toList,a,b,d⟩]) (iG s.heap.length s.env Q)
 | .exit id,Q,s=>Q (.exit id) s
 | .ret,Q,s=>Q .ret s
 |_,_,_=>False
def bC(fr:cx)(t:Array b5)(ds:List ch)(todo:List Item):cx:={fr with tmps:=t,defers:=ds,todo,mode:=.run}
section
variable{P:b4}{fr:cx}{t:Array b5}{ds:List ch}{k:List Item}{cs:List cx}{w:cc}
def fI(t:Array b5):cv->b5
 | .tmp x=>t.getD x undef
 | .const v=>v
 | .global g=>.pointer (some ⟨g,0,none⟩)
 | .func f=>.func (.func f) #[] #[]
theorem eval_eq(fr:cx):fr.eval=fI fr.tmps:=by funext x;cases x<;>rfl
theorem aKT:step P (lone (bC fr t ds (.code .skip::k)) cs w)=.next (lone (bC fr t ds k) cs w):=
 ce (by simp[stepG,en,bC])
theorem X7{l:Nat}:step P (lone (bC fr t ds (.code (.label l)::k)) cs w)=.next (lone (bC fr t ds k) cs w):=
 ce (by simp[stepG,en,bC])
theorem WM{id:Nat}:step P (lone (bC fr t ds (.inBlock id::k)) cs w)=.next (lone (bC fr t ds k) cs w):=
 ce (by simp[stepG,en,bC])
theorem WL{b:Code}:step P (lone (bC fr t ds (.inScope b::k)) cs w)=.next (lone (bC fr t ds k) cs w):=
 ce (by simp[stepG,en,bC])
theorem DU{a b:Code}:step P (lone (bC fr t ds (.code (.seq a b)::k)) cs w)=.next (lone (bC fr t ds (.code a::.code b::k)) cs w):=
 ce (by simp[stepG,en,bC])
theorem aKO{c:cv}{x y:Code}{b:Bool}(h:fI t c= .bool b):
 step P (lone (bC fr t ds (.code (.cond c x y)::k)) cs w)=.next (lone (bC fr t ds (.code (if b then x else y)::k)) cs w):=
 ce (by simp[stepG,en,bC,eval_eq,h])
theorem zb{id:Nat}{c:Code}:step P (lone (bC fr t ds (.code (.block id c)::k)) cs w)=.next (lone (bC fr t ds (.code c::.inBlock id::k)) cs w):=
 ce (by simp[stepG,en,bC])
theorem CX{c:Code}:step P (lone (bC fr t ds (.code (.scope c)::k)) cs w)=.next (lone (bC fr t ds (.code c::.inScope c::k)) cs w):=
 ce (by simp[stepG,en,bC])
theorem aKR{c:Code}:step P (lone (bC fr t ds (.code (.loop c)::k)) cs w)=.next (lone (bC fr t ds (.code c::.inLoop c::k)) cs w):=
 ce (by simp[stepG,en,bC])
theorem Xb{c:Code}:step P (lone (bC fr t ds (.inLoop c::k)) cs w)=.next (lone (bC fr t ds (.code c::.inLoop c::k)) cs w):=
 ce (by simp[stepG,en,bC])
theorem aKQ{id:Nat}{a:List Item}(h:exitTo id k=some a):step P (lone (bC fr t ds (.code (.exit id)::k)) cs w)=.next (lone (bC fr t ds a) cs w):=
 ce (by simp[stepG,en,bC,h])
theorem Xa{id:Nat}{a:Array Oper}:
 step P (lone (bC fr t ds (.code (.region id a false)::k)) cs w)=.next (lone (bC fr t ds (.inRegion a (gE a.size)::k)) cs w):=
 ce (by simp[stepG,en,bC])
theorem aKP{id:Nat}{a:Array Oper}:
 step P (lone (bC fr t ds (.code (.region id a true)::k)) cs w)=
  .next (lone (bC fr t ds (.inRegion a (dq (P.follows .mixedOrders) a (w.tape w.drawn (.order fr.fn id)))::k)) cs {w with drawn:=w.drawn+1}):=
 ce (by simp[stepG,en,bC,choose,Sem.run,Question.forced,Question.cut])
theorem Jh{a:Array Oper}:step P (lone (bC fr t ds (.inRegion a []::k)) cs w)=.next (lone (bC fr t ds k) cs w):=
 ce (by simp[stepG,en,bC])
def nJ(dst:Option Tmp)(v:b5)(t:Array b5):Array b5:=
 match dst with
 |some d=>t.setIfInBounds d v
 |none=>t
theorem nP{a:Array Oper}{i:Nat}{r:List Nat}{o:Oper}(c:a[i]?=some o)(v:b5):
 (bC fr t ds (.inRegion a (i::r)::k)).finish v=bC fr (nJ o.dst v t) ds (.inRegion a r::k):=by
 cases b:o.dst<;>simp[Frame.finish,bC,c,b,nJ]
theorem KZ{a:Array Oper}{i:Nat}{r:List Nat}{o:Oper}(b:a[i]?=some o)(c:dp o (yielded a t)=false):
 step P (lone (bC fr t ds (.inRegion a (i::r)::k)) cs w)=.next (lone (bC fr (nJ o.dst undef t) ds (.inRegion a r::k)) cs w):=by
 rw[<-nP b];exact ce (by simp only[bC];simp[stepG,en,b,c])
theorem Wq{o:Oper}(a:∀c,o.op≠ .defer c)(r:Option Nat)(A:Nat->Call->GStep)(B:GStep):
 (match r,o.op with
  |some l,.defer c=>A l c
  |_,_=>B)=B:=by
 cases r with
 |none=>rfl
 |some l=>cases h:o.op<;>first|rfl|exact absurd h (a _)
theorem aKS{a:Array Oper}{i:Nat}{r:List Nat}{o:Oper}{fr:cx}(e:fr.todo= .inRegion a (i::r)::k)(d:a[i]?=some o)(b:∀c,o.op≠ .defer c):
 eq P true fr cs none w=eo P true fr cs none (c6 (fI fr.tmps) o) w:=by
 simp only[eq,Frame.oper?,e,d,eval_eq];exact Wq b _ _ _
theorem CN{f:Bool}{a:Array Oper}{i:Nat}{r:List Nat}{o:Oper}(b:a[i]?=some o)(e:dp o (yielded a t)=true)(d:∀c,o.op≠ .defer c):
 stepG P f {frame:=bC fr t ds (.inRegion a (i::r)::k),callers:=cs,status:=.running,dying:=none} w=
  eo P true (bC fr t ds (.inRegion a (i::r)::k)) cs none (c6 (fI t) o) w:=by
 have h:=aKS (P:=P) (cs:=cs) (w:=w) (fr:=bC fr t ds (.inRegion a (i::r)::k)) rfl b d;simp only[bC]at h⊢;simp[stepG,en,b,e,h]
theorem th{a:Array Oper}{i:Nat}{r:List Nat}{o:Oper}{n:Next}{b:b5}{w':cc}(d:a[i]?=some o)(h:dp o (yielded a t)=true)
 (e:∀c,o.op≠.defer c)(g:(c6 (fI t) o).run P w=.ok n w')(f:n=.value b\/n=.skip/\b=undef):
 step P (lone (bC fr t ds (.inRegion a (i::r)::k)) cs w)=.next (lone (bC fr (nJ o.dst b t) ds (.inRegion a r::k)) cs w'):=by
 rw[<-nP d];refine ce ?_;rw[CN d h e];rcases f with rfl|⟨rfl,rfl⟩<;>simp[eo,g,bC]
theorem vu{a:Array Oper}{i:Nat}{r:List Nat}{o:Oper}{f:ck}{args:Array b5}{w':cc}(d:a[i]?=some o)(g:dp o (yielded a t)=true)
 (b:∀c,o.op≠.defer c)(e:(c6 (fI t) o).run P w=.ok (.enter f args) w'):
 step P (lone (bC fr t ds (.inRegion a (i::r)::k)) cs w)=.next (lone (Frame.enter P f args .normal) (bC fr t ds (.inRegion a (i::r)::k)::cs) w'):=by
 refine ce ?_;rw[CN d g b];simp[eo,e,bC]
theorem Kk{a:Array Oper}{i:Nat}{r:List Nat}{o:Oper}{l:Nat}{f:ck}{tmps:Array b5}{assign body:Code}{w':cc}(d:a[i]?=some o)(g:dp o (yielded a t)=true)
 (b:∀c,o.op≠.defer c)(e:(c6 (fI t) o).run P w=.ok (.round l f tmps assign body) w'):
 step P (lone (bC fr t ds (.inRegion a (i::r)::k)) cs w)=.next (lone (Frame.round l f tmps assign body .normal) (bC fr t ds (.inRegion a (i::r)::k)::cs) w'):=by
 refine ce ?_;rw[CN d g b];simp[eo,e,bC]
end
end Go.ah
namespace Go.ah
variable[Gl]
mutual
theorem aG.mono{S T:Nat×Nat->Prop}(h:∀x,S x->T x):∀v,aG S v->aG T v
 | .p _,_=>by simp[aG]
 | .ptr b _,c| .b8 b _ _ _ _,c| .sl b _ _ _ _,c| .map b,c=>by simp only[aG]at*;exact h _ c
 | .func _ a b,c=>by simp only[aG]at*;exact⟨ba.mono h a c.1,ba.mono h b c.2⟩
 | .st _ fs,c=>by simp only[aG]at*;exact ba.mono h fs c
 | .aE vs,c=>by simp only[aG]at*;exact ba.mono h vs c
theorem ba.mono{S T:Nat×Nat->Prop}(h:∀x,S x->T x):∀vs,ba S vs->ba T vs
 |[],_=>by simp[ba]
 |v::vs,c=>by simp only[ba]at*;exact⟨aG.mono h v c.1,ba.mono h vs c.2⟩
end
structure cQ(P:b4)(n:Nat)(ai ad:Nat->Prop)(β:Bd)(s:St)(t:Array b5)(w:cc):Prop where
 heap:bX P w ad β s.heap ai
 env:∀x,aD P w ad β s.heap (aS s.env x) (t.getD x undef)
 gN:∀x,aG (aJ s.heap) (aS s.env x)
 size:t.size=n
structure pY(N:Nat)(β:Bd)(H:an)(aK:Bd)(H':an):Prop where
 box:∀b,b<N->aJ H (b,0)->nh H' b->nh H b/\aK.au b=β.au b
 it:∀b,b<N->aJ H (b,0)->nq H' b->nq H b/\aK.au b=β.au b
 map:∀b,b<N->aJ H (b,0)->ng H' b->ng H b/\aK.au b=β.au b
 arr:∀b aC aj k es,b<N->aJ H (b,aC)->fq H' b aC aj k es->∃k0 gO,fq H b aC aj k0 gO/\gO.length<=es.length/\(di k es↔di k0 gO)/\(¬di k es->aK.au b=β.au b/\aK.cap b=β.cap b)
 loop:∀b,b<N->aJ H (b,0)->gZ H' b->gZ H b/\aK.au b=β.au b
theorem cC.n{N:Nat}{β:Bd}{H:an}{aK:Bd}{H':an}(h:cC β H aK H'):pY N β H aK H':=
 ⟨fun b _=>h.box b,fun b _=>h.it b,fun b _=>h.map b,fun b aC aj k es _=>h.arr b aC aj k es,fun b _=>h.loop b⟩
theorem pY.full{β:Bd}{H:an}{aK:Bd}{H':an}(h:pY H.length β H aK H'):cC β H aK H':=by
 have lt:∀b v,aJ H (b,v)->b<H.length:=fun b v⟨o,c,_⟩=>(e8.1 c).1;exact⟨fun b x=>h.box b (lt _ _ x) x,fun b x=>h.it b (lt _ _ x) x,fun b x=>h.map b (lt _ _ x) x,fun b aC aj k a x=>h.arr b aC aj k a (lt _ _ x) x,fun b x=>h.loop b (lt _ _ x) x⟩
theorem pY.trans{N:Nat}{β i j:Bd}{H H1 g:an}(h:pY N β H i H1)(hi:∀x,x.1<N->aJ H x->aJ H1 x)(f:pY N i H1 j g):pY N β H j g:=by
 refine⟨?_,?_,?_,?_,?_⟩
 ·intro b a c e;obtain⟨a1,a2⟩:=f.box b a (hi (b,0) a c) e;obtain⟨b1,d⟩:=h.box b a c a1;exact⟨b1,a2.trans d⟩
 ·intro b a c e;obtain⟨a1,a2⟩:=f.it b a (hi (b,0) a c) e;obtain⟨b1,d⟩:=h.it b a c a1;exact⟨b1,a2.trans d⟩
 ·intro b a c e;obtain⟨a1,a2⟩:=f.map b a (hi (b,0) a c) e;obtain⟨b1,d⟩:=h.map b a c a1;exact⟨b1,a2.trans d⟩
 ·intro b aC aj k n a c e;obtain⟨k1,o,a1,a2,a3,a4⟩:=f.arr b aC aj k n a (hi (b,aC) a c) e;obtain⟨k0,gO,b1,d,l,m⟩:=h.arr b aC aj k1 o a c a1;refine⟨k0,gO,b1,g7 d a2,a3.trans l,fun a=>?_⟩;obtain⟨c1,c2⟩:=a4 a;obtain⟨d1,d2⟩:=m (fun x=>a (a3.2 x));exact⟨c1.trans d1,c2.trans d2⟩
 ·intro b a c e;obtain⟨a1,a2⟩:=f.loop b a (hi (b,0) a c) e;obtain⟨b1,d⟩:=h.loop b a c a1;exact⟨b1,a2.trans d⟩
structure dN(N:Nat)(ai ad:Nat->Prop)(w:cc)(β:Bd)(H:an)(kr aH:Nat->Prop)(w':cc)(aK:Bd)(H':an):Prop where
 eh:∀k,ai k->kr k
 bS:∀k,ad k->aH k
 fresh:∀k,aH k->ad k\/¬ai k
 ext:Ext ai ad w w'
 step:pY N β H aK H'
 fa:∀x,x.1<N->aJ H x->aJ H' x
 loop:∀b,b<N->gZ H b->gZ H' b
theorem dN.refl(N:Nat)(ai ad:Nat->Prop)(w:cc)(β:Bd)(H:an):dN N ai ad w β H ai ad w β H:=
 ⟨fun _ h=>h,fun _ h=>h,fun _ h=>.inl h,Ext.refl _ _ _,(cC.refl _ _).n,fun _ _ h=>h,fun _ _ h=>h⟩
theorem Ext.trans{ai ad kr aH:Nat->Prop}{w w1 b:cc}(c:∀k,ai k->kr k)(hi:∀k,ad k->aH k)(h:Ext ai ad w w1)(a:Ext kr aH w1 b):Ext ai ad w b:=
 ⟨g7 h.size a.size,fun k hk=>(a.same k (hk.imp (c k) (hi k))).trans (h.same k hk),a.io.1.trans h.io.1,a.io.2.trans h.io.2⟩
theorem dN.trans{N:Nat}{ai ad g e i f:Nat->Prop}{w w1 j:cc}{β l m:Bd}{H H1 d:an}(h:dN N ai ad w β H g e w1 l H1)(a:dN N g e w1 l H1 i f j m d):dN N ai ad w β H i f j m d:=
 ⟨fun k x=>a.eh k (h.eh k x),fun k x=>a.bS k (h.bS k x),fun k x=>(a.fresh k x).elim (fun y=>h.fresh k y) (fun y=>.inr fun z=>y (h.eh k z)),h.ext.trans h.eh h.bS a.ext,
  h.step.trans h.fa a.step,fun x c hx=>a.fa x c (h.fa x c hx),fun b c n=>a.loop b c (h.loop b c n)⟩
theorem b6.fj{P:b4}{N:Nat}{ai ad aH:Nat->Prop}{w w':cc}{β aK:Bd}{H H':an}(h:b6 P ai ad w β H aH w' aK H'):dN N ai ad w β H ai aH w' aK H':=
 ⟨fun _ x=>x,h.bS,h.fresh,h.ext,h.step.n,fun x _=>h.fa x,fun b _=>h.loop b⟩
section
variable{P:b4}{ai ad aH:Nat->Prop}{w w':cc}{β aK:Bd}{H H':an}
theorem fo.yN(d:w'.heap=w.heap){b:Nat}{o:Obj}(h:fo P w ad β H ai b o)(i:o.refs (aJ H)):fo P w' ad β H ai b o:=by
 have p:=fun(v:AV) cs j=>br.mono (P:=P) (w:=w) (w':=w') (ad:=ad) (aH:=ad) (β:=β) (aK:=β) (H:=H) (H':=H) (fun _ x=>x) (fun k _=>by rw[d]) (cC.refl β H) v cs j;have q:=fun l(v:List AV) cs j=>bM.mono (P:=P) (w:=w) (w':=w') (ad:=ad) (aH:=ad) (β:=β) (aK:=β) (H:=H) (H':=H) (fun _ x=>x) (fun k _=>by rw[d]) (cC.refl β H) l v cs j;have r:=fun(g:List (PV×PV)) f=>cL.mono (P:=P) (w:=w) (w':=w') (ad:=ad) (aH:=ad) (fun _ x=>x) (fun k _=>by rw[d]) g f;cases o with
 |hole=>trivial
 |dead=>trivial
 |box fz t=>
  obtain⟨cs,T,a,c,e⟩:=h;exact⟨cs,T,by rw[d];exact a,p _ _ i c,e⟩
 |arr k aC aj g=>
  rcases h with h|⟨cs,T,m,rest,a,c,e⟩
  ·exact .inl h
  ·exact .inr ⟨cs,T,m,rest,by rw[d];exact a,q _ _ _ i c,e⟩
 |map fz g=>
  obtain⟨f,clock,a,c,e⟩:=h;exact⟨f,clock,by rw[d];exact a,r _ _ c,e⟩
 |dy s pos=>
  obtain⟨bs,a,c⟩:=h;exact⟨bs,by rw[d];exact a,c⟩
 |loop L=>
  obtain⟨tmps,defers,fn,a,c,e,n⟩:=h;exact⟨tmps,defers,fn,by rw[d];exact a,c,fun x=>aD.mono (fun _ x=>x) (fun _ _=>by rw[d]) (cC.refl _ _) _ _ (i x) (e x),n⟩
theorem bX.yN(a:w'.heap=w.heap)(h:bX P w ad β H ai):bX P w' ad β H ai:=
 ⟨fun b o c=>(h.cO b o c).yN a (h.refs b o c),h.inj,h.refs,fun k hk=>by rw[a];exact h.bS k hk,fun k hk=>by rw[a];exact h.eh k hk,h.iJ.mono (fun _ x=>x) (fun _ _=>by rw[a])⟩
theorem bX.mY(h:bX P w ad β H ai){b:Nat}{o:Obj}(e:H[b]?=some o)(d:o.live):β.au b<w.heap.size:=by
 have c:=h.cO b o e;cases o with
 |hole=>exact d.elim
 |dead=>exact d.elim
 |box fz t=>obtain⟨cs,T,a,_⟩:=c;exact(bl.1 a).1
 |arr k aC aj es=>
  rcases c with c|⟨cs,T,f,rest,a,_⟩
  ·exact(d c).elim
  ·exact(bl.1 a).1
 |map fz es=>obtain⟨g,clock,a,_⟩:=c;exact(bl.1 a).1
 |dy s pos=>obtain⟨bs,a,_⟩:=c;exact(bl.1 a).1
 |loop L=>obtain⟨_,_,_,a,_⟩:=c;exact(bl.1 a).1
theorem b6.set{b:Nat}{o':Obj}(f:bX P w ad β H ai)(q:b<H.length)(l:∀x,x≠b->aK.au x=β.au x/\aK.cap x=β.cap x)
 (i:∀k,ad k->aH k)(N:∀k,aH k->ad k\/(k=aK.au b/\o'.live))(af:∀k,aH k->k<w'.heap.size)
 (S:w.heap.size<=w'.heap.size)(G:∀k,(k≠aK.au b\/¬o'.live)->k<w.heap.size->w'.heap[k]?=w.heap[k]?)
 (D:o'.live->w.heap.size<=aK.au b\/(aK.au b=β.au b/\(∃o,H[b]?=some o/\o.live)/\((∀k,k=β.au b->w'.heap[k]?=w.heap[k]?)\/¬ad (β.au b))/\¬ai (β.au b)))
 (aO:cC β H aK (H.set b o'))(ah:fo P w' aH aK (H.set b o') ai b o')(ak:o'.refs (aJ (H.set b o')))(ag:∀(o:Obj)(v:Nat),H[b]?=some o->o.has v->o'.has v)(ae:∀L,H[b]?=some (.loop L)->∃B,o'=.loop B)(ac:w'.os=w.os/\w'.output=w.output:=by exact⟨rfl,rfl⟩):
 b6 P ai ad w β H aH w' aK (H.set b o'):=by
 have A:∀x o,x≠b->H[x]?=some o->o.live->¬ad (β.au x)->o'.live->β.au x≠aK.au b:=by
  intro x o hx d e j r he;rcases D r with a|⟨a,⟨am,c,g⟩,_⟩
  ·have:=f.mY d e;omega
  ·rw[a]at he;exact hx (f.inj x b o am d c e g j he)
 have R:o'.live->¬ai (aK.au b):=by
  intro e E;rcases D e with a|⟨a,_,_,c⟩
  ·have:=f.eh _ E;omega
  ·rw[a]at E;exact c E
 have p:∀k,ai k\/ad k->w'.heap[k]?=w.heap[k]?:=by
  intro k hk;have O:k<w.heap.size:=hk.elim (f.eh k) (f.bS k)
  by_cases z:k=aK.au b
  ·by_cases e:o'.live
   ·rcases hk with hk|hk
    ·exact(R e (z▸hk)).elim
    ·rcases D e with a|⟨a,_,c,_⟩
     ·omega
     ·rcases c with c|c
      ·exact c k (z.trans a)
      ·exact(c (by rw[<-a,<-z];exact hk)).elim
   ·exact G k (.inr e) O
  ·exact G k (.inl z) O
 have aq:∀x,aJ H x->aJ (H.set b o') x:=by
  rintro⟨x,v⟩ ⟨o,d,Q⟩
  by_cases hx:x=b
  ·subst hx;exact⟨o',by simp[e9 q],ag o v d Q⟩
  ·exact⟨o,by simp only;rw[e7 (ha hx)];exact d,Q⟩
 have hrefs:∀v,aG (aJ H) v->aG (aJ (H.set b o')) v:=aG.mono aq;refine⟨i,fun k hk=>(N k hk).imp id (fun(h:k=aK.au b/\o'.live)=>h.1▸R h.2),⟨S,p,ac⟩,aO,⟨?_,?_,?_,af,fun k hk=>g8 (f.eh k hk) S,f.iJ.mono i (fun k hk=>p k (.inr hk))⟩,aq,?_⟩
 ·intro x o d
  by_cases hx:x=b
  ·subst hx;rw[e9 q]at d;cases d;exact ah
  ·rw[e7 (ha hx)]at d;have n:=f.cO x o d;have F:=f.refs x o d;have M:=(l x hx).1;have C:=(l x hx).2;have hs:o.live->w'.heap[aK.au x]?=w.heap[β.au x]?:=by
    intro e;rw[M]
    by_cases j:ad (β.au x)
    ·exact p _ (.inr j)
    refine G _ ?_ (f.mY d e)
    by_cases r:o'.live
    ·exact .inl (A x o hx d e j r)
    ·exact .inr r
   have held:∀fz,o.live->cK ad β ai fz x->cK aH aK ai fz x:=by
    intro fz e m;unfold cK at m⊢;rw[M];cases fz with
    |true=>simp only[if_true]at m⊢;exact i _ m
    |false=>
     simp only[b2,if_false]at m⊢;refine⟨fun h=>?_,m.2⟩;rcases N _ h with h|⟨h,r⟩
     ·exact m.1 h
     ·exact A x o hx d e m.1 r h
   cases o with
   |hole=>trivial
   |dead=>trivial
   |box fz t=>
    obtain⟨cs,T,a,c,g,u⟩:=n;exact⟨cs,T,(hs trivial).trans a,br.mono i (fun k hk=>p k (.inr hk)) aO _ _ F c,held _ trivial g,u⟩
   |arr k aC aj es=>
    rcases n with n|⟨cs,T,W,rest,a,c,g,u,Y,Z,aa,ab⟩
    ·exact .inl n
    ·by_cases e:di k es
     ·exact .inl e
     ·refine .inr ⟨cs,T,W,rest,(hs e).trans a,bM.mono i (fun k hk=>p k (.inr hk)) aO _ _ _ F c,g,?_,?_,?_,held _ e aa,ab⟩
      ·rw[C];exact u
      ·rw[C];exact Y
      ·rw[C];exact Z
   |map fz es=>
    obtain⟨X,clock,a,c,g⟩:=n;exact⟨X,clock,(hs trivial).trans a,cL.mono i (fun k hk=>p k (.inr hk)) _ _ c,held _ trivial g⟩
   |dy s pos=>
    obtain⟨bs,a,c,g⟩:=n;exact⟨bs,(hs trivial).trans a,c,held _ trivial g⟩
   |loop L=>
    obtain⟨tmps,defers,fn,a,c,g,u⟩:=n;exact⟨tmps,defers,fn,(hs trivial).trans a,c,fun x=>aD.mono i (fun k hk=>p k (.inr hk)) aO _ _ (F x) (g x),held _ trivial u⟩
 ·intro x y U V a c I J j he
  by_cases hx:x=b<;>by_cases hy:y=b
  ·rw[hx,hy]
  ·subst hx;rw[e9 q]at a;cases a;rw[e7 (ha hy)]at c;rw[(l y hy).1]at he;exact(A y V hy c J (fun hi=>j (he▸i _ hi)) I he.symm).elim
  ·subst hy;rw[e9 q]at c;cases c;rw[e7 (ha hx)]at a;rw[(l x hx).1]at he;rw[(l x hx).1]at j;exact(A x U hx a I (fun hi=>j (i _ hi)) J he).elim
  ·rw[e7 (ha hx)]at a;rw[e7 (ha hy)]at c;rw[(l x hx).1,(l y hy).1]at he;rw[(l x hx).1]at j;exact f.inj x y U V a c I J (fun hi=>j (i _ hi)) he
 ·intro x o d
  by_cases hx:x=b
  ·subst hx;rw[e9 q]at d;cases d;exact ak
  ·rw[e7 (ha hx)]at d;have:=f.refs x o d;cases o with
   |box fz t=>exact hrefs _ this
   |arr k aC aj es=>exact dc.2 fun v al=>hrefs v (dc.1 this v al)
   |loop L=>exact fun x=>hrefs _ (this x)
   |_=>trivial
 ·rintro x ⟨L,K⟩
  by_cases hx:x=b
  ·subst hx;obtain⟨B,rfl⟩:=ae L K;exact⟨B,e9 q⟩
  ·exact⟨L,by rw[e7 (ha hx)];exact K⟩
end
end Go.ah
namespace Go.ah
variable[Gl]
def bA(P:b4)(o:Oper)(ρ:cv->AV)(a:Nat)(e:aZ):Prop:=
 ∀(H:an)(w:cc)(ad ai:Nat->Prop)(β:Bd)(ρc:cv->b5),
  bX P w ad β H ai->(∀x∈o.op.operands,aD P w ad β H (ρ x) (ρc x)/\aG (aJ H) (ρ x))->(∀p∈e.aq,H[p.1]?=some p.2)->(∀i,i<e.aX.length->H[a+i]?=some .hole)->
  ∃n b w' aK aH,(c6 ρc o).run P w=.ok n w'/\(n=.value b\/n=.skip/\b=undef)/\
   b6 P ai ad w β H aH w' aK (bf H (e.aM++newAt a e.aX))/\aD P w' aH aK (bf H (e.aM++newAt a e.aX)) e.v b/\
   aG (aJ (bf H (e.aM++newAt a e.aX))) e.v
section
variable{P:b4}{ai ad aH:Nat->Prop}{w w':cc}{β aK:Bd}{H H':an}
theorem b6.refl(h:bX P w ad β H ai):b6 P ai ad w β H ad w β H:=
 ⟨fun _ x=>x,fun _ x=>.inl x,Ext.refl _ _ _,cC.refl _ _,h,fun _ x=>x,fun _ x=>x⟩
theorem bA.same{o:Oper}{ρ:cv->AV}{c:Nat}{v:AV}{aq:List (Nat×Obj)}
 (h:∀(H:an)(w:cc)(ad ai:Nat->Prop)(β:Bd)(ρc:cv->b5),bX P w ad β H ai->(∀x∈o.op.operands,aD P w ad β H (ρ x) (ρc x)/\aG (aJ H) (ρ x))->
  (∀p∈aq,H[p.1]?=some p.2)->∃a,(c6 ρc o).run P w=.ok (.value a) w/\aD P w ad β H v a/\aG (aJ H) v):
 bA P o ρ c {v,aq}:=by
 intro H w ad ai β ρc b i g _;obtain⟨a,d,e,f⟩:=h H w ad ai β ρc b i g;exact⟨_,a,w,β,ad,d,.inl rfl,by simpa[newAt,bf]using b6.refl b,by simpa[newAt,bf]using e,by simpa[newAt,bf]using f⟩
theorem b6.trans{g i:Nat->Prop}{w1 l:cc}{m n:Bd}{H1 f:an}(h:b6 P ai ad w β H g w1 m H1)(c:b6 P ai g w1 m H1 i l n f):b6 P ai ad w β H i l n f:=by
 refine⟨fun k x=>c.bS k (h.bS k x),fun k x=>(c.fresh k x).elim (h.fresh k) .inr,h.ext.trans (fun _ x=>x) h.bS c.ext,⟨?_,?_,?_,?_,?_⟩,c.rel,fun b a=>c.fa b (h.fa _ a),fun b a=>c.loop b (h.loop b a)⟩
 ·intro b a e;obtain⟨a1,a2⟩:=c.step.box b (h.fa _ a) e;obtain⟨b1,d⟩:=h.step.box b a a1;exact⟨b1,a2.trans d⟩
 ·intro b a e;obtain⟨a1,a2⟩:=c.step.it b (h.fa _ a) e;obtain⟨b1,d⟩:=h.step.it b a a1;exact⟨b1,a2.trans d⟩
 ·intro b a e;obtain⟨a1,a2⟩:=c.step.map b (h.fa _ a) e;obtain⟨b1,d⟩:=h.step.map b a a1;exact⟨b1,a2.trans d⟩
 ·intro b aC aj k q a e;obtain⟨k1,r,a1,a2,a3,a4⟩:=c.step.arr b aC aj k q (h.fa _ a) e;obtain⟨k0,gO,b1,d,o,p⟩:=h.step.arr b aC aj k1 r a a1;refine⟨k0,gO,b1,g7 d a2,a3.trans o,fun j=>?_⟩;obtain⟨c1,c2⟩:=a4 j;obtain⟨d1,d2⟩:=p (fun x=>j (a3.2 x));exact⟨c1.trans d1,c2.trans d2⟩
 ·intro b a e;obtain⟨a1,a2⟩:=c.step.loop b (h.fa _ a) e;obtain⟨b1,d⟩:=h.step.loop b a a1;exact⟨b1,a2.trans d⟩
theorem vp(H:an)(l r:List (Nat×Obj)):bf H (l++r)=bf (bf H l) r:=by
 induction l generalizing H with
 |nil=>rfl
 |cons p l a=>obtain⟨b,o⟩:=p;simp[bf,a]
theorem pq(H:an)(l:List (Nat×Obj)):(bf H l).length=H.length:=by
 induction l generalizing H with
 |nil=>rfl
 |cons p l a=>obtain⟨b,o⟩:=p;simp[bf,a]
theorem yp(H T:an)(l:List (Nat×Obj))(h:∀p∈l,p.1<H.length):bf (H++T) l=bf H l++T:=by
 induction l generalizing H with
 |nil=>rfl
 |cons p l c=>
  obtain⟨b,o⟩:=p;have a:b<H.length:=h (b,o) (by simp);simp only[bf];rw[List.set_append_left _ _ a,c];intro q hq;rw[List.length_set];exact h q (by simp[hq])
theorem B9(H:an)(l:List Obj):bf (H++e6 l.length .hole) (newAt H.length l)=H++l:=by
 induction l generalizing H with
 |nil=>simp[newAt,bf]
 |cons o l a=>
  simp only[newAt,bf,fl,gi];rw[ge _ _ (g0 _)];simp only[Nat.sub_self,gj];have:=a (H++[o]);simp only[gm,List.length_singleton,gt,List.singleton_append]at this;exact this
theorem lJ(H:an)(m b:Nat):(H++e6 m Obj.hole)[b]?=if b<H.length then H[b]? else if b<H.length+m then some .hole else none:=by
 by_cases h:b<H.length
 ·simp[h,fb]
 ·rw[fv (by omega)];simp only[List.getElem?_replicate,h,if_false]
  by_cases a:b<H.length+m
  ·simp[a,show b-H.length<m by omega]
  ·simp[a,show¬(b-H.length<m)by omega]
theorem nO{H:an}{m b:Nat}{o:Obj}(h:(H++e6 m Obj.hole)[b]?=some o):H[b]?=some o\/o=.hole:=by
 rw[lJ]at h
 split at h
 ·exact .inl h
 ·split at h
  ·exact .inr (by simpa using h.symm)
  ·simp at h
theorem oh(H:an)(m:Nat)(b:Nat×Nat)(h:aJ H b):aJ (H++e6 m Obj.hole) b:=by
 obtain⟨o,a,d⟩:=h;have c:b.1<H.length:=(e8.1 a).1;exact⟨o,by rw[lJ,if_pos c];exact a,d⟩
theorem qN(β:Bd)(H:an)(m:Nat):cC β H β (H++e6 m .hole):=by
 refine⟨?_,?_,?_,?_,?_⟩
 ·rintro b _ ⟨fz,t,h⟩;rcases nO h with h|h<;>simp_all [nh]
 ·rintro b _ ⟨fz,t,h⟩;rcases nO h with h|h<;>simp_all [nq]
 ·rintro b _ ⟨fz,t,h⟩;rcases nO h with h|h<;>simp_all [ng]
 ·intro b aC aj k a _ h;rcases nO h with h|h
  ·exact⟨k,a,h,g0 _,ew,fun _=>⟨rfl,rfl⟩⟩
  ·simp at h
 ·rintro b _ ⟨L,h⟩;rcases nO h with h|h<;>simp_all [gZ]
theorem Obj.vN{S T:Nat×Nat->Prop}(h:∀x,S x->T x):∀{o:Obj},o.refs S->o.refs T
 | .box _ t,a=>aG.mono h t a
 | .arr _ _ _ es,a=>ba.mono h es a
 | .loop _L,a=>fun x=>aG.mono h _ (a x)
 | .hole,_| .dead,_| .map _ _,_| .dy _ _,_=>trivial
theorem bX.qh(m:Nat)(h:bX P w ad β H ai):bX P w ad β (H++e6 m .hole) ai:=by
 refine⟨?_,?_,?_,h.bS,h.eh,h.iJ⟩
 ·intro b o d;rcases nO d with d|rfl
  ·have e:=h.cO b o d;have g:=h.refs b o d;have st:=qN β H m;cases o with
   |hole=>trivial
   |dead=>trivial
   |box fz t=>
    obtain⟨cs,T,a,c,f⟩:=e;exact⟨cs,T,a,br.mono (fun _ x=>x) (fun _ _=>rfl) st _ _ g c,f⟩
   |arr k aC aj es=>
    rcases e with e|⟨cs,T,l,rest,a,c,f⟩
    ·exact .inl e
    ·exact .inr ⟨cs,T,l,rest,a,bM.mono (fun _ x=>x) (fun _ _=>rfl) st _ _ _ g c,f⟩
   |map fz es=>exact e
   |dy s pos=>exact e
   |loop L=>
    obtain⟨tmps,defers,fn,a,c,f,n⟩:=e;exact⟨tmps,defers,fn,a,c,fun x=>aD.mono (fun _ x=>x) (fun _ _=>rfl) st _ _ (g x) (f x),n⟩
  ·trivial
 ·intro x y r u a c i j q p;rcases nO a with a|rfl
  ·rcases nO c with c|rfl
   ·exact h.inj x y r u a c i j q p
   ·exact j.elim
  ·exact i.elim
 ·intro b o d;rcases nO d with d|rfl
  ·exact Obj.vN (oh H m) (h.refs b o d)
  ·trivial
theorem bA.use{o:Oper}{ρ:cv->AV}{e:aZ}(h:bA P o ρ H.length e){ρc:cv->b5}(k:bX P w ad β H ai)
 (c:∀x∈o.op.operands,aD P w ad β H (ρ x) (ρc x)/\aG (aJ H) (ρ x))(aq:∀p∈e.aq,H[p.1]?=some p.2)(aM:∀p∈e.aM,p.1<H.length):
 ∃n a w' aK aH,(c6 ρc o).run P w=.ok n w'/\(n=.value a\/n=.skip/\a=undef)/\
  b6 P ai ad w β H aH w' aK (bf H e.aM++e.aX)/\aD P w' aH aK (bf H e.aM++e.aX) e.v a/\aG (aJ (bf H e.aM++e.aX)) e.v:=by
 have aO:=qN β H e.aX.length;obtain⟨n,a,w',aK,aH,m,q,d,f,g⟩:=h (H++e6 e.aX.length .hole) w ad ai β ρc (k.qh _)
  (fun x hx=>⟨aD.mono (fun _ x=>x) (fun _ _=>rfl) aO _ _ (c x hx).2 (c x hx).1,aG.mono (oh _ _) _ (c x hx).2⟩)
  (fun p s=>by have:=aq p s;rw[lJ,if_pos (e8.1 this).1];exact this)
  (fun i hi=>by rw[lJ,if_neg (by omega),if_pos (by omega)])
 have r:bf (H++e6 e.aX.length .hole) (e.aM++newAt H.length e.aX)=bf H e.aM++e.aX:=by
  rw[vp,yp _ _ _ aM];have:=B9 (bf H e.aM) e.aX
  rwa [pq]at this
 rw[r]at d f g;refine⟨n,a,w',aK,aH,m,q,?_,f,g⟩;have l:b6 P ai ad w β H ad w β (H++e6 e.aX.length .hole):=⟨fun _ x=>x,fun _ x=>.inl x,Ext.refl _ _ _,aO,k.qh _,oh _ _,fun b⟨L,j⟩=>⟨L,by rw[lJ,if_pos (e8.1 j).1];exact j⟩⟩
 exact l.trans d
theorem sr.use{f:ck}{args:List AV}{e:aZ}(h:sr P f args H.length e)(m:oQ H e){c:List b5}(n:bX P w ad β H ai)(r:bJ P w ad β H args c)(o:ba (aJ H) args):
 dk P f c.toArray w fun x w'=>∃a aK aH,x=.returned a/\b6 P ai ad w β H aH w' aK (bf H e.aM++e.aX)/\aD P w' aH aK (bf H e.aM++e.aX) e.v a/\aG (aJ (bf H e.aM++e.aX)) e.v:=by
 have aO:=qN β H e.aX.length;refine(h.2 (H++e6 e.aX.length .hole) w ad ai β c (n.qh _)
  (bJ.mono (fun _ x=>x) (fun _ _=>rfl) aO _ _ o r) (ba.mono (oh _ _) _ o)
  (fun p d=>by have:=m.1 p d;rw[lJ,if_pos (e8.1 this).1];exact this)
  (fun i hi=>by rw[lJ,if_neg (by omega),if_pos (by omega)])).mono ?_
 rintro x w' ⟨a,aK,aH,rfl,g,j,k⟩;have s:bf (H++e6 e.aX.length .hole) (e.aM++newAt H.length e.aX)=bf H e.aM++e.aX:=by
  rw[vp,yp _ _ _ (fun p d=>(m.2 p d).1)];have:=B9 (bf H e.aM) e.aX
  rwa [pq]at this
 rw[s]at g j k;have q:b6 P ai ad w β H ad w β (H++e6 e.aX.length .hole):=⟨fun _ x=>x,fun _ x=>.inl x,Ext.refl _ _ _,aO,n.qh _,oh _ _,fun b⟨L,l⟩=>⟨L,by rw[lJ,if_pos (e8.1 l).1];exact l⟩⟩
 exact⟨a,aK,aH,rfl,q.trans g,j,k⟩
end
def mc(P:b4)(ag:ck->Bool):Prop:=
 ∀(o:Oper)(ρ:cv->AV)(H:an)(K:aZ->Prop),(∀v,ρ (.const v)=.p (ofConst v))->fH P ag o ρ H K->
  ∃e,K e/\bA P o ρ H.length e/\(∀p∈e.aq,H[p.1]?=some p.2)/\(∀p∈e.aM,p.1<H.length/\p.2≠.hole)
section
variable{P:b4}{ag:ck->Bool}{n:Nat}
theorem JE{w:cc}{ad:Nat->Prop}(v:b5):aF P w ad (ofConst v) v:=by
 unfold ofConst
 split<;>simp[aF]
theorem oB{ai ad:Nat->Prop}{β:Bd}{s:St}{t:Array b5}{w:cc}(h:cQ P n ai ad β s t w)(x:cv):
 aD P w ad β s.heap (ev s.env x) (fI t x)/\aG (aJ s.heap) (ev s.env x):=by
 cases x with
 |tmp x=>exact⟨h.env x,h.gN x⟩
 |const v=>exact⟨by simp only[ev,fI,aD];exact JE v,by simp[ev,aG]⟩
 |global g=>exact⟨by simp only[ev,fI,aD];exact h.heap.iJ.val g,by simp[ev,aG]⟩
 |func f=>exact⟨by simp[ev,fI,aD,aF,bL],by simp[ev,aG]⟩
def jk(n:Nat)(o:Oper):Bool:=
 match o.dst with
 |some d=>decide (d<n)
 |none=>true
theorem vD(e:Env)(dst:Option Tmp)(v:AV)(x:Nat):aS (put dst v e) x=if dst=some x then v else aS e x:=by
 cases dst with
 |none=>simp[put]
 |some d=>
  simp only[put,aS,Option.some.injEq]
  by_cases h:x=d
  ·simp[h]
  ·simp[h,ha h]
theorem X4{n:Nat}{o:Oper}(a:jk n o=true){t:Array b5}(c:t.size=n)(v:b5)(x:Nat):(nJ o.dst v t).getD x undef=if o.dst=some x then v else t.getD x undef:=by
 unfold jk at a;cases b:o.dst with
 |none=>simp[nJ]
 |some d=>
  simp only[b,decide_eq_true_eq]at a;simp only[nJ,Option.some.injEq]
  by_cases h:d=x
  ·subst h;simp[c,a]
  ·simp only[h,if_false,Array.getD_eq_getD_getElem?,Array.getElem?_setIfInBounds_ne h]
theorem XH{t:Array b5}(dst:Option Tmp)(v:b5):(nJ dst v t).size=t.size:=by cases dst<;>simp[nJ]
theorem cQ.put{ai ad aH:Nat->Prop}{β aK:Bd}{s:St}{H':an}{t:Array b5}{w w':cc}{o:Oper}{v:AV}{b:b5}(h:cQ P n ai ad β s t w)(c:jk n o=true)
 (a:b6 P ai ad w β s.heap aH w' aK H')(e:aD P w' aH aK H' v b)(d:aG (aJ H') v):
 cQ P n ai aH aK ⟨put o.dst v s.env,H'⟩ (nJ o.dst b t) w':=by
 refine⟨a.rel,fun x=>?_,fun x=>?_,by rw[XH];exact h.size⟩
 ·rw[vD,X4 c h.size]
  split
  ·exact e
  ·exact aD.mono a.bS (fun k hk=>a.ext.same k (.inr hk)) a.step _ _ (h.gN x) (h.env x)
 ·rw[vD]
  split
  ·exact d
  ·exact aG.mono a.fa _ (h.gN x)
theorem Lo{H T:an}{b:Nat×Nat}(h:aJ H b):aJ (H++T) b:=by
 obtain⟨o,a,c⟩:=h;exact⟨o,by rw[fb (e8.1 a).1];exact a,c⟩
theorem bX.later{ai ad aH:Nat->Prop}{w w':cc}{β:Bd}{H:an}(h:bX P w ad β H ai)(e:∀k,ad k->aH k)(hf:∀k,aH k->ad k\/w.heap.size<=k)
 (B:∀k,aH k->k<w'.heap.size)(p:w.heap.size<=w'.heap.size)(hs:∀k,k<w.heap.size->w'.heap[k]?=w.heap[k]?)(A:w'.os=w.os/\w'.output=w.output:=by exact⟨rfl,rfl⟩):b6 P ai ad w β H aH w' β H:=by
 have same:∀k,ad k->w'.heap[k]?=w.heap[k]?:=fun k hk=>hs k (h.bS k hk);refine⟨e,fun k hk=>(hf k hk).imp id (fun c a=>by have:=h.eh k a;omega),⟨p,fun k hk=>hs k (hk.elim (h.eh k) (h.bS k)),A⟩,cC.refl _ _,?_,fun _ x=>x,fun _ x=>x⟩;refine⟨fun b o m=>?_,fun b b' o o' c a D E C=>h.inj b b' o o' c a D E (fun hi=>C (e _ hi)),h.refs,B,fun k hk=>g8 (h.eh k hk) p,h.iJ.mono e same⟩;have g:=h.cO b o m;have n:=h.refs b o m;have held:∀fz,o.live->cK ad β ai fz b->cK aH β ai fz b:=by
  intro fz f l;have:=h.mY m f;unfold cK at l⊢;cases fz with
  |true=>exact e _ l
  |false=>exact⟨fun x=>(hf _ x).elim l.1 (by omega),l.2⟩
 have j:o.live->w'.heap[β.au b]?=w.heap[β.au b]?:=fun f=>hs _ (h.mY m f);cases o with
 |hole=>trivial
 |dead=>trivial
 |box fz t=>
  obtain⟨cs,T,c,a,d,i⟩:=g;exact⟨cs,T,(j trivial).trans c,br.mono e same (cC.refl _ _) _ _ n a,held _ trivial d,i⟩
 |arr k aC aj es=>
  rcases g with g|⟨cs,T,q,rest,c,a,d,i,u,v,y,z⟩
  ·exact .inl g
  ·by_cases f:di k es
   ·exact .inl f
   ·exact .inr ⟨cs,T,q,rest,(j f).trans c,bM.mono e same (cC.refl _ _) _ _ _ n a,d,i,u,v,held _ f y,z⟩
 |map fz es=>
  obtain⟨r,clock,c,a,d⟩:=g;exact⟨r,clock,(j trivial).trans c,cL.mono e same _ _ a,held _ trivial d⟩
 |dy s pos=>
  obtain⟨bs,c,a,d⟩:=g;exact⟨bs,(j trivial).trans c,a,held _ trivial d⟩
 |loop L=>
  obtain⟨tmps,defers,fn,c,a,d,i⟩:=g;exact⟨tmps,defers,fn,(j trivial).trans c,a,fun x=>aD.mono e same (cC.refl _ _) _ _ (n x) (d x),held _ trivial i⟩
theorem qQ{w:cc}{ad:Nat->Prop}{β:Bd}{H:an}:∀{a b:List AV}{x y:List b5},bJ P w ad β H a x->bJ P w ad β H b y->bJ P w ad β H (a++b) (x++y)
 |[],b,x,y,h,c=>by simp only[bJ]at h;subst h;simpa using c
 |v::a,b,x,y,h,c=>by
  simp only[bJ]at h;obtain⟨z,f,rfl,d,e⟩:=h;simp only[gw,bJ];exact⟨z,f++y,rfl,d,qQ e c⟩
theorem jU{S:Nat×Nat->Prop}{a b:List AV}(h:ba S a)(d:ba S b):ba S (a++b):=by
 rw[dc]at*;intro v c;rcases gx.1 c with c|c
 ·exact h v c
 ·exact d v c
theorem vG{ai ad:Nat->Prop}{β:Bd}{s:St}{t:Array b5}{w:cc}(h:cQ P n ai ad β s t w):∀l:List cv,
 bJ P w ad β s.heap (l.map (ev s.env)) (l.map (fI t))/\ba (aJ s.heap) (l.map (ev s.env))
 |[]=>by simp[bJ,ba]
 |x::l=>by
  have a:=oB h x;have b:=vG h l;simp only[fd,bJ,ba];exact⟨⟨_,_,rfl,a.1,b.1⟩,a.2,b.2⟩
end
section
variable{P:b4}{w:cc}{ad ai:Nat->Prop}{β:Bd}{H:an}
def Bd.at(β:Bd)(b au cap:Nat):Bd:=⟨fun x=>if x=b then au else β.au x,fun x=>if x=b then cap else β.cap x⟩
theorem yU{b:Nat}(f:H[b]?=some .hole)(o':Obj)(au cap:Nat):cC β H (β.at b au cap) (H.set b o'):=by
 have a:∀{x v},aJ H (x,v)->x≠b:=by
  rintro x v ⟨o,d,g⟩ rfl;simp only at d;rw[f]at d;cases d;exact g
 have c:∀{x v},aJ H (x,v)->(H.set b o')[x]?=H[x]?:=fun hx=>e7 (ha (a hx));refine⟨?_,?_,?_,?_,?_⟩
 ·rintro x hx ⟨fz,t,h⟩;rw[c hx]at h;exact⟨⟨fz,t,h⟩,by simp[Bd.at,a hx]⟩
 ·rintro x hx ⟨fz,t,h⟩;rw[c hx]at h;exact⟨⟨fz,t,h⟩,by simp[Bd.at,a hx]⟩
 ·rintro x hx ⟨fz,t,h⟩;rw[c hx]at h;exact⟨⟨fz,t,h⟩,by simp[Bd.at,a hx]⟩
 ·intro x aC aj k e hx h;unfold fq at h;rw[c hx]at h;exact⟨k,e,h,g0 _,ew,fun _=>by simp[Bd.at,a hx]⟩
 ·rintro x hx ⟨L,h⟩;rw[c hx]at h;exact⟨⟨L,h⟩,by simp[Bd.at,a hx]⟩
theorem tH(e:bX P w ad β H ai){a:Nat}(b:H[a]?=some .hole){ob:Go.Obj}{o':Obj}{cap:Nat}
 (g:fo P {w with heap:=w.heap.push ob} ad (β.at a w.heap.size cap) (H.set a o') ai a o')(h:o'.refs (aJ (H.set a o'))):
 b6 P ai ad w β H ad {w with heap:=w.heap.push ob} (β.at a w.heap.size cap) (H.set a o'):=by
 refine b6.set e (e8.1 b).1 (fun x hx=>by simp[Bd.at,hx]) (fun _ x=>x) (fun _ x=>.inl x) (fun k hk=>by have:=e.bS k hk;simp;omega) (by simp)
  (fun k _ hk=>by simp[bv,g9 hk]) (fun _=>.inl (by simp[Bd.at])) (yU b _ _ _) g h (fun i v c f=>by rw[b]at c;cases c;exact f.elim) (fun L d=>by rw[b]at d;cases d)
theorem vy(w:cc)(a:Go.Obj){k:Nat}(hk:k<w.heap.size):({w with heap:=w.heap.push a}:cc).heap[k]?=w.heap[k]?:=by
 simp[bv,g9 hk]
end
section
variable{P:b4}{w:cc}{ad aH ai:Nat->Prop}{β:Bd}{H:an}
def Row(P:b4)(w:cc)(ad:Nat->Prop)(β:Bd)(H:an)(aj:Nat)(a:List AV)(b:List (List b5)):Prop:=bM P w ad β H (e6 a.length aj) a b
theorem iF{aj:Nat}{a:List (List b5)}:Row P w ad β H aj [] a↔a=[]:=by simp[Row,bM]
theorem qX{aj:Nat}{v:AV}{b:List AV}{a:List (List b5)}:Row P w ad β H aj (v::b) a↔∃c cs,a=c::cs/\br P w ad β H v c/\c.length=aj/\Row P w ad β H aj b cs:=by
 simp[Row,gi,bM]
theorem lI{aj:Nat}:∀{a b:List AV}{d:List (List b5)},Row P w ad β H aj (a++b) d↔∃c1 c2,d=c1++c2/\Row P w ad β H aj a c1/\Row P w ad β H aj b c2
 |[],b,d=>by
  simp only[List.nil_append];constructor
  ·intro h;exact⟨[],d,rfl,iF.2 rfl,h⟩
  ·rintro⟨c1,c2,rfl,e,f⟩;rw[iF.1 e];simpa using f
 |v::a,b,d=>by
  simp only[gw,qX];constructor
  ·rintro⟨c,cs,rfl,e,f,g⟩;obtain⟨c1,c2,rfl,i,j⟩:=lI.1 g;exact⟨c::c1,c2,rfl,⟨c,c1,rfl,e,f,i⟩,j⟩
  ·rintro⟨c1,c2,rfl,⟨c,cs,rfl,e,f,g⟩,i⟩;exact⟨c,cs++c2,rfl,e,f,lI.2 ⟨cs,c2,rfl,g,i⟩⟩
theorem fV{aj:Nat}:∀{b:List AV}{a:List (List b5)},Row P w ad β H aj b a->a.length=b.length/\a.flatten.length=b.length*aj
 |[],a,h=>by rw[iF]at h;subst h;simp
 |v::b,a,h=>by
  rw[qX]at h;obtain⟨c,cs,rfl,f,d,e⟩:=h;have:=fV e;simp only[fl,List.flatten_cons,gm,this,d,Nat.succ_mul];exact⟨trivial,by omega⟩
theorem mq{aj:Nat}{a:List PV}{b:List (List b5)}:Row P w ad β H aj (a.map .p) b↔bm P w ad (e6 a.length aj) a b:=by
 unfold Row;rw[List.length_map];exact nX
theorem jV{aj:Nat}{d:List AV}{e:List (List b5)}(h:Row P w ad β H aj d e)(off len:Nat)(k:off+len<=d.length):
 ∃a b c,e=a++b++c/\Row P w ad β H aj ((d.drop off).take len) b/\a.flatten.length=off*aj/\Row P w ad β H aj (d.take off) a/\Row P w ad β H aj (d.drop (off+len)) c:=by
 have e1:d=d.take off++((d.drop off).take len++d.drop (off+len)):=by
  rw[<-gy,gc,gc]
 rw[e1,lI]at h;obtain⟨a,r,rfl,f,g⟩:=h;rw[lI]at g;obtain⟨b,c,rfl,i,j⟩:=g;refine⟨a,b,c,by simp,i,?_,f,j⟩;have:=(fV f).2;rw[this,List.length_take,Nat.min_eq_left (by omega)]
theorem mg{cs:Array b5}{T:cb}{fz:Nat×Nat}{au:Nat}(a:w.heap[au]?=some (.cells cs T fz)){pre xs post:List b5}(hc:cs.toList=pre++xs++post):
 gX w au pre.length xs:=by
 intro i hi;have:cs[pre.length+i]?=some xs[i]:=by
  rw[<-Array.getElem?_toList,hc,gt,fv (by omega)];simp only[Nat.add_sub_cancel_left];rw[fb hi,List.getElem?_eq_getElem hi]
 simp[em,a,this]
theorem BV(a:List PV)(off len:Nat):(((a.map AV.p).drop off).take len)=((a.drop off).take len).map .p:=by
 rw[<-List.map_drop,<-List.map_take]
theorem mr{H:an}{b:Nat}{d o:Obj}(c:H[b]?=some d)(e:∀v,d.has v->o.has v):∀x,aJ H x->aJ (H.set b o) x:=by
 rintro⟨x,v⟩ ⟨f,a,h⟩
 by_cases hx:b=x
 ·subst hx;simp only at a;rw[c]at a;cases a;exact⟨o,by simp only;rw[e9 (e8.1 c).1],e v h⟩
 ·exact⟨f,by simp only;rw[e7 hx];exact a,h⟩
theorem s9{b:Nat}{o o':Obj}(l:H[b]?=some o)(hk:(∃f g t,o= .box f t/\o'= .box g t)\/(∃k m v z c,o= .arr k v z c/\o'= .arr m v z c/\¬di k c/\¬di m c)\/(∃f g c,o= .map f c/\o'= .map g c)):
 cC β H β (H.set b o'):=by
 have r:b<H.length:=(e8.1 l).1;have i:∀x,x≠b->(H.set b o')[x]?=H[x]?:=fun x hx=>e7 (ha hx);have e:(H.set b o')[b]?=some o':=e9 r;refine⟨?_,?_,?_,?_,?_⟩
 ·rintro x _ ⟨fz,t,h⟩;refine⟨?_,rfl⟩
  by_cases hx:x=b
  ·subst hx;rw[e]at h;cases h;rcases hk with⟨f,g,j,d,a⟩|⟨_,_,_,_,_,_,a,_⟩|⟨_,_,_,_,a⟩
   ·exact⟨f,j,by rw[l,d]⟩
   ·cases a
   ·cases a
  ·rw[i x hx]at h;exact⟨fz,t,h⟩
 ·rintro x _ ⟨s,p,h⟩;refine⟨?_,rfl⟩
  by_cases hx:x=b
  ·subst hx;rw[e]at h;cases h;rcases hk with⟨f,g,j,d,a⟩|⟨_,_,_,_,_,_,a,_⟩|⟨_,_,_,_,a⟩<;>cases a
  ·rw[i x hx]at h;exact⟨s,p,h⟩
 ·rintro x _ ⟨fz,t,h⟩;refine⟨?_,rfl⟩
  by_cases hx:x=b
  ·subst hx;rw[e]at h;cases h;rcases hk with⟨f,g,j,d,a⟩|⟨_,_,_,_,_,_,a,_⟩|⟨f,g,c,d,a⟩
   ·cases a
   ·cases a
   ·exact⟨f,c,by rw[l,d]⟩
  ·rw[i x hx]at h;exact⟨fz,t,h⟩
 ·intro x aC aj k c _ h
  by_cases hx:x=b
  ·subst hx;unfold fq at h⊢;rw[e]at h;cases h;rcases hk with⟨f,g,j,d,a⟩|⟨k0,m,v,z,u,d,a,n,q⟩|⟨f,g,c,d,a⟩
   ·cases a
   ·cases a;exact⟨k0,c,by rw[l,d],g0 _,⟨fun x=>(q x).elim,fun x=>(n x).elim⟩,fun _=>⟨rfl,rfl⟩⟩
   ·cases a
  ·unfold fq at h⊢;rw[i x hx]at h;exact⟨k,c,h,g0 _,ew,fun _=>⟨rfl,rfl⟩⟩
 ·rintro x _ ⟨L,h⟩;refine⟨?_,rfl⟩
  by_cases hx:x=b
  ·subst hx;rw[e]at h;cases h;rcases hk with⟨f,g,j,d,a⟩|⟨_,_,_,_,_,_,a,_⟩|⟨_,_,_,_,a⟩<;>cases a
  ·rw[i x hx]at h;exact⟨L,h⟩
theorem cK.ug{fz:Bool}{b:Nat}(h:cK ad β ai fz b):ad (β.au b)\/(¬ad (β.au b)/\¬ai (β.au b)):=by
 cases fz with
 |true=>exact .inl h
 |false=>exact .inr h
theorem tq(d:bX P w ad β H ai){b:Nat}{o o':Obj}(f:H[b]?=some o)(p:o.live)(M:o'.live)(u:∀v,o.has v->o'.has v)(r:∀L,o≠ .loop L)
 (aO:cC β H β (H.set b o'))(K:ad (β.au b)\/(¬ad (β.au b)/\¬ai (β.au b)))
 (aX:∀aH:Nat->Prop,(∀k,ad k->aH k)->aH (β.au b)->fo P w aH β (H.set b o') ai b o')(A:o'.refs (aJ (H.set b o'))):
 ∃aH,b6 P ai ad w β H aH w β (H.set b o')/\aH (β.au b):=by
 have n:b<H.length:=(e8.1 f).1
 by_cases hi:ad (β.au b)
 ·
  refine⟨ad,?_,hi⟩;have aq:=mr f u;refine⟨fun _ x=>x,fun _ x=>.inl x,Ext.refl _ _ _,aO,⟨?_,?_,?_,d.bS,d.eh,d.iJ⟩,aq,fun x⟨L,i⟩=>⟨L,by
   by_cases hx:b=x
   ·subst hx;rw[f]at i;cases i;exact(r L rfl).elim
   ·rw[e7 hx];exact i⟩⟩
  ·intro x l c
   by_cases hx:x=b
   ·subst hx;rw[e9 n]at c;cases c;exact aX ad (fun _ x=>x) hi
   ·rw[e7 (ha hx)]at c;have g:=d.cO x l c;have q:=d.refs x l c;cases l with
    |hole=>trivial
    |dead=>trivial
    |box fz t=>
     obtain⟨cs,T,a,e,j⟩:=g;exact⟨cs,T,a,br.mono (fun _ x=>x) (fun _ _=>rfl) aO _ _ q e,j⟩
    |arr k aC aj es=>
     rcases g with g|⟨cs,T,G,rest,a,e,j⟩
     ·exact .inl g
     ·exact .inr ⟨cs,T,G,rest,a,bM.mono (fun _ x=>x) (fun _ _=>rfl) aO _ _ _ q e,j⟩
    |map fz es=>exact g
    |dy s pos=>exact g
    |loop L=>
     obtain⟨tmps,defers,fn,a,e,j,I⟩:=g;exact⟨tmps,defers,fn,a,e,fun x=>aD.mono (fun _ x=>x) (fun _ _=>rfl) aO _ _ (q x) (j x),I⟩
  ·intro x y D U a e Q R N J;have conv:∀(z:Nat)(m:Obj),(H.set b o')[z]?=some m->m.live->∃E:Obj,H[z]?=some E/\E.live:=by
    intro z m B S
    by_cases C:z=b
    ·subst C;exact⟨o,f,p⟩
    ·rw[e7 (ha C)]at B;exact⟨m,B,S⟩
   obtain⟨a1,b1,c1⟩:=conv x D a Q;obtain⟨a2,F,c2⟩:=conv y U e R;exact d.inj x y a1 a2 b1 F c1 c2 N J
  ·intro x l c
   by_cases hx:x=b
   ·subst hx;rw[e9 n]at c;cases c;exact A
   ·rw[e7 (ha hx)]at c;exact Obj.vN aq (d.refs x l c)
 ·refine⟨fun k=>ad k\/k=β.au b,?_,.inr rfl⟩;have O:=K.resolve_left hi;exact b6.set d n (fun _ _=>⟨rfl,rfl⟩) (fun _ x=>.inl x) (fun k hk=>hk.imp id (fun h=>⟨h,M⟩)) (fun k hk=>hk.elim (d.bS k) (fun h=>h▸d.mY f p)) (g0 _)
   (fun _ _ _=>rfl) (fun _=>.inr ⟨rfl,⟨o,f,p⟩,.inl (fun _ _=>rfl),O.2⟩) aO (aX _ (fun _ x=>.inl x) (.inr rfl)) A (fun D v a e=>by rw[f]at a;cases a;exact u v e) (fun L i=>by rw[f]at i;cases i;exact(r L rfl).elim)
theorem Ld{z:AV}{K:PV}{H1:an}{v:b5}(d:lA H z=some (K,H1))(j:bX P w ad β H ai)(f:aD P w ad β H z v)(aa:aG (aJ H) z):
 ∃aH,b6 P ai ad w β H aH w β H1/\aF P w aH K v:=by
 cases z with
 |p t=>
  simp[lA]at d;obtain⟨rfl,rfl⟩:=d;exact⟨ad,b6.refl j,by simpa[aD]using f⟩
 |sl b aC aj off len=>
  simp only[lA]at d
  split at d
  case h_2=>simp at d
  rename_i k ab X i g
  split at d
  case isFalse=>simp at d
  rename_i Q;obtain⟨rfl,rfl,Z⟩:=Q;simp only[aD]at f;obtain⟨_,f⟩:=f;simp only[bU]at f;obtain⟨v1,v2,v3⟩:=f k i g
  split at d
  ·rename_i u;simp at d;obtain⟨rfl,rfl⟩:=d;exact⟨ad,b6.refl j,by simp[aF,v2 u]⟩
  ·rename_i u
   split at d
   case h_2=>simp at d
   rename_i J S;simp at d;obtain⟨rfl,rfl⟩:=d;have A:=mn S;have E:=j.cO b _ g;rcases E with E|⟨cs,T,F,rest,n,l,r,B,M,N,O,Y⟩
   ·exact(u E).elim
   have I:¬di .frozen i:=fun h=>by cases h.1
   have aO:cC β H β (H.set b (.arr .frozen aC aj i)):=s9 g (.inr (.inl ⟨_,_,_,_,_,rfl,rfl,u,I⟩));obtain⟨aH,q,y⟩:=tq j g u (o':=.arr .frozen aC aj i) I (fun _ h=>h) (fun _ h=>by cases h) aO O.ug
    (fun aH hi x=>.inr ⟨cs,T,F,rest,n,bM.mono hi (fun _ _=>rfl) aO _ _ _ (j.refs b _ g) l,r,B,M,(fun h=>by cases h),x,fun _ e C=>(by rw[A]at C;simp at C;obtain⟨a,_,rfl⟩:=C;trivial),fun h=>by cases h⟩)
    (by rw[A];exact jg _ _)
   refine⟨aH,q,?_⟩;rw[v3 u];have U:Row P w aH β H aj i F:=bM.mono q.bS (fun _ _=>rfl) (cC.refl _ _) _ _ _ (j.refs b _ g) l;obtain⟨a,m,c,e1,e2,e3,e4,e5⟩:=jV U off len v1;rw[A,BV,mq]at e2;have D:((J.drop off).take len).length=len:=by
    have:i.length=J.length:=by rw[A];simp
    simp;omega
   simp only[aF];refine⟨β.au b,off*aj,β.cap b-off,aj,m,e2,fun _=>y,?_,?_,?_,none,.inl rfl,?_⟩
   ·rw[<-e3];exact mg n (post:=c.flatten++rest) (by rw[r,e1];simp)
   ·intro hf;simp at hf;rw[D,N hf.1];omega
   ·rw[D];omega
   ·rw[D]
 |ptr b path=>
  simp only[lA]at d
  split at d
  case h_2=>simp at d
  rename_i fz t g
  split at d
  case h_2=>simp at d
  rename_i s hs;simp at d;obtain⟨rfl,rfl⟩:=d;simp only[aD]at f;obtain⟨_,f⟩:=f;simp only[bU]at f;obtain⟨W,V,o,rfl,R,f⟩:=f;obtain⟨rfl,rfl⟩:=f (.inl ⟨fz,_,g⟩);obtain⟨cs,T,n,l,r,B⟩:=j.cO b _ g;have aO:cC β H β (H.set b (.box true (.p t))):=s9 g (.inl ⟨_,_,_,rfl,rfl⟩);obtain⟨aH,q,y⟩:=tq j g trivial (o':=.box true (.p t)) trivial (fun _ h=>h) (fun _ h=>by cases h) aO r.ug
   (fun aH hi x=>⟨cs,T,n,br.mono hi (fun _ _=>rfl) aO _ _ (by simp[aG]) l,x,fun _=>trivial,B.2⟩) (by simp[Obj.refs,aG])
  refine⟨aH,q,?_⟩;have L:aW P w aH t cs.toList:=by simp only[br]at l;exact aW.mono q.bS (fun _ _=>rfl) _ _ l
  obtain⟨pre,xs,post,e1,e2,e3⟩:=zk L hs R;simp only[aF];refine⟨β.au b,V,xs,e3,y,?_,rfl⟩;rw[<-e2];exact mg n e1
 |map b=>
  simp only[lA]at d
  split at d
  case h_2=>simp at d
  rename_i fz i g;simp at d;obtain⟨rfl,rfl⟩:=d;simp only[aD]at f;obtain⟨_,f⟩:=f;simp only[bU]at f;have f:=f.1 ⟨fz,i,g⟩;obtain⟨G,clock,n,l,r⟩:=j.cO b _ g;have aO:cC β H β (H.set b (.map true i)):=s9 g (.inr (.inr ⟨_,_,_,rfl,rfl⟩));obtain⟨aH,q,y⟩:=tq j g trivial (o':=.map true i) trivial (fun _ h=>h) (fun _ h=>by cases h) aO r.ug
   (fun aH hi x=>⟨G,clock,n,cL.mono hi (fun _ _=>rfl) _ _ l,x⟩) trivial
  refine⟨aH,q,?_⟩;simp only[aF];exact⟨β.au b,G,clock,y,n,cL.mono q.bS (fun _ _=>rfl) _ _ l,f⟩
 |b8=>simp[lA]at d
 |func=>simp[lA]at d
 |st=>simp[lA]at d
 |aE=>simp[lA]at d
end
section
variable{P:b4}{ag:ck->Bool}{n N:Nat}
theorem Cw{w:cc}{β:Bd}{ai:Nat->Prop}:∀{e:List AV}{g:List PV}{H H1:an}{ad:Nat->Prop}{vs:List b5},nI H e=some (g,H1)->bX P w ad β H ai->
 bJ P w ad β H e vs->ba (aJ H) e->∃aH,b6 P ai ad w β H aH w β H1/\bL P w aH g vs
 |[],g,H,H1,ad,vs,b,h,c,_=>by
  simp[nI]at b;obtain⟨rfl,rfl⟩:=b;simp only[bJ]at c;exact⟨ad,b6.refl h,by simpa[bL]using c⟩
 |a::e,g,H,H1,ad,vs,b,h,c,f=>by
  simp only[nI]at b
  split at b
  case h_2=>simp at b
  rename_i v o j
  split at b
  case h_2=>simp at b
  rename_i r p k;simp at b;obtain⟨rfl,rfl⟩:=b;simp only[bJ]at c;obtain⟨y,n,rfl,k1,k2⟩:=c;simp only[ba]at f;obtain⟨q,d,l⟩:=Ld j h k1 f.1;obtain⟨i,q1,m⟩:=Cw k d.rel (bJ.mono d.bS (fun _ _=>rfl) d.step _ _ f.2 k2) (ba.mono d.fa _ f.2);refine⟨i,d.trans q1,?_⟩;simp only[bL];exact⟨y,n,rfl,aF.mono q1.bS (fun _ _=>rfl) _ _ l,m⟩
def kU(P:b4)(n N:Nat)(fr:cx)(k:List Item)(cs:List cx)(c:Array Oper)(ai ad:Nat->Prop)(w:cc)(β:Bd)(H:an)(m:c9)(r:List Nat)(b:List ch)(K:St->Prop):Prop:=
 ∃s' aH aK a w',K s'/\da P m (lone (bC fr a b (.inRegion c r::k)) cs w')/\cQ P n ai aH aK s' a w'/\dN N ai ad w β H ai aH w' aK s'.heap
theorem Vd{d:Bool}{o:Oper}{K:St->Prop}{s:St}(h:jO P ag d o K s)(c:Call):o.op≠.defer c:=by
 intro hc;unfold jO at h;rw[hc]at h;simp[fH,hc]at h
variable{fr:cx}{k:List Item}{cs:List cx}{ops:Array Oper}{i:Nat}{r:List Nat}{ds:List ch}
theorem J9{d:Bool}{o:Oper}{f:cv}{F:Array cv}{Z:Array cb}{g:ck}{fi ca:List AV}{K:St->Prop}{s:St}{ai ad:Nat->Prop}{β:Bd}{t:Array b5}{w:cc}
 (W:o.op=.call {callee:=.value f,args:=F,argTypes:=Z})
 (hf:(ev s.env f=.func g fi ca)\/(∃a b,ev s.env f=.p (.func g a b)/\fi=a.map .p/\ca=b.map .p))
 (h:ib P d g (fi++F.toList.map (ev s.env)++ca) s.heap (fun v H'=>K ⟨put o.dst v s.env,H'⟩))
 (m:cQ P n ai ad β s t w)(G:jk n o=true)(C:ops[i]?=some o)(M:dp o (yielded ops t)=true):
 kU P n N fr k cs ops ai ad w β s.heap (lone (bC fr t ds (.inRegion ops (i::r)::k)) cs w) r ds K:=by
 have E:=oB m f;obtain⟨y,u,ak,aj,ah,ap,ao⟩:∃y u:List b5,fI t f=.func (.func g) y.toArray u.toArray/\bJ P w ad β s.heap fi y/\bJ P w ad β s.heap ca u/\ba (aJ s.heap) fi/\ba (aJ s.heap) ca:=by
  rcases hf with hf|⟨a,b,hf,rfl,rfl⟩
  ·rw[hf]at E;simp only[aD,aG]at E;obtain⟨⟨y,u,l,j,z⟩,ab,ac⟩:=E;exact⟨y,u,z,l,j,ab,ac⟩
  ·rw[hf]at E;simp only[aD,aF]at E;obtain⟨⟨y,u,l,j,z⟩,_⟩:=E;exact⟨y,u,z,jI.2 l,jI.2 j,jg _ _,jg _ _⟩
 obtain⟨af,ag⟩:=vG m F.toList;have D:=qQ (qQ aj af) ah;have Q:=jU (jU ap ag) ao;have q:(c6 (fI t) o).run P w=(callFunc g (y++F.toList.map (fI t)++u).toArray).run P w:=by
  simp only[c6,W,resolve,ak,dl,Sem.run_bind,Sem.run_pure,Result.andThen_ok,invoke];congr 2;simp
 have L:∀c,o.op≠.defer c:=fun c hc=>by rw[W]at hc;cases hc
 have pure:∀(H1:an)(B:Nat->Prop)(vs:List PV)(v:PV),b6 P ai ad w β s.heap B w β H1->bL P w B vs (y++F.toList.map (fI t)++u)->ar P g vs v->
  K ⟨put o.dst (.p v) s.env,H1⟩->kU P n N fr k cs ops ai ad w β s.heap (lone (bC fr t ds (.inRegion ops (i::r)::k)) cs w) r ds K:=by
  intro H1 B vs v A Y I U;rcases I with⟨R,I⟩|I
  ·rw[R]at q;obtain⟨e,w',S,⟨O,aH,H,g1,g2,g3,g4,g5,aa,g6⟩,aO,V,J⟩:=I w B _ A.rel.bS A.rel.iJ Y (bC fr t ds (.inRegion ops (i::r)::k)::cs);subst H;have X:=A.trans (A.rel.later g1 g2 g3 g4 g5 aa);refine⟨_,aH,β,_,w',U,?_,m.put G X (by simpa[aD]using g6) (by simp[aG]),X.fj⟩;rw[<-nP C];exact(ea (vu C M L q)).trans (eb aO (.one (cy J)))
  ·obtain⟨O,l,j⟩:=I w B _ Y;rw[l]at q;exact⟨_,B,β,_,w,U,.one (th C M L q (.inl rfl)),m.put G A (by simpa[aD]using j) (by simp[aG]),A.fj⟩
 rcases h with⟨vs,v,l,j,z⟩|⟨_,⟨vs,H1,v,l,j,z⟩|⟨H',v,⟨R,l⟩,j⟩|⟨e,T,am,j⟩|⟨aq,v,ae,al,j⟩⟩
 ·exact pure s.heap ad vs v (b6.refl m.heap) (by rw[l]at D;exact jI.1 D) j z
 ·obtain⟨B,au,av⟩:=Cw l m.heap D Q;exact pure H1 B vs v au av j z
 ·rw[R]at q;obtain⟨e,w',S,⟨O,aK,aH,H,g1,g2,g3⟩,aO,V,J⟩:=l w ad ai β _ m.heap D Q (bC fr t ds (.inRegion ops (i::r)::k)::cs);subst H;refine⟨_,aH,aK,_,w',j,?_,m.put G g1 g2 g3,g1.fj⟩;rw[<-nP C];exact(ea (vu C M L q)).trans (eb aO (.one (cy J)))
 ·rw[T.1]at q;obtain⟨x,w',S,⟨O,aK,aH,H,g1,g2,g3⟩,aO,V,J⟩:=T.use am m.heap D Q (bC fr t ds (.inRegion ops (i::r)::k)::cs);subst H;refine⟨_,aH,aK,_,w',j,?_,m.put G g1 g2 g3,g1.fj⟩;rw[<-nP C];exact(ea (vu C M L q)).trans (eb aO (.one (cy J)))
 ·obtain⟨O,l,z⟩:=ae s.heap w ad ai β _ m.heap D Q al;rw[l]at q;have A:=b6.refl m.heap;exact⟨_,ad,β,_,w,j,.one (th C M L q (.inl rfl)),m.put G A (by simpa[aD]using z) (by simp[aG]),A.fj⟩
end
end Go.ah
namespace Go.ah
variable[Gl]
section
variable{P:b4}{ag:ck->Bool}{n N:Nat}
variable{fr:cx}{k:List Item}{cs:List cx}{ops:Array Oper}{i:Nat}{r:List Nat}{ds:List ch}
theorem Vu{o:Oper}{f:cv}{a:Array cv}{p:Array cb}{b:Nat}{H':an}{v:AV}{K:St->Prop}{s:St}{ai ad:Nat->Prop}{β:Bd}{t:Array b5}{w:cc}
 (l:o.op=.call {callee:=.value f,args:=a,argTypes:=p})(hf:ev s.env f=.map b)(m:ft P b s.heap (a.toList.map (ev s.env)) H' v)(x:K ⟨put o.dst v s.env,H'⟩)
 (d:cQ P n ai ad β s t w)(A:jk n o=true)(j:ops[i]?=some o)(D:dp o (yielded ops t)=true):
 kU P n N fr k cs ops ai ad w β s.heap (lone (bC fr t ds (.inRegion ops (i::r)::k)) cs w) r ds K:=by
 have e:=(oB d f).1;rw[hf]at e;simp only[aD,bO,bU]at e;have B:=e.2.2 m.1;obtain⟨y,z⟩:=vG d a.toList;have h:(c6 (fI t) o).run P w=(Instr.yield (β.au b) (a.toList.map (fI t)).toArray).run P w:=by
  simp only[c6,l,resolve,B,dl,Sem.run_bind,Sem.run_pure,Result.andThen_ok,invoke];congr 2;exact Array.ext' (by simp)
 have C:∀c,o.op≠.defer c:=fun c hc=>by rw[l]at hc;cases hc
 obtain⟨g,tmps,assign,body,q,u⟩:=m.2 w ad ai β _ d.heap y z;rw[q]at h;obtain⟨E,w',aK,aH,g1,g2,g3,g4⟩:=u (bC fr t ds (.inRegion ops (i::r)::k)) cs;refine⟨_,aH,aK,_,w',x,?_,d.put A g2 g3 g4,g2.fj⟩;rw[<-nP j];exact(ea (Kk j D C h)).trans g1
theorem LN(y:mc P ag){d:Bool}{o:Oper}{K:St->Prop}{s:St}{ai ad:Nat->Prop}{β:Bd}{t:Array b5}{w:cc}
 (h:jO P ag d o K s)(a:cQ P n ai ad β s t w)(c:jk n o=true)(j:ops[i]?=some o)(l:dp o (yielded ops t)=true):
 kU P n N fr k cs ops ai ad w β s.heap (lone (bC fr t ds (.inRegion ops (i::r)::k)) cs w) r ds K:=by
 have E:=Vd h;have z:fH P ag o (ev s.env) s.heap (fun e=>K (e.app o.dst s))->kU P n N fr k cs ops ai ad w β s.heap (lone (bC fr t ds (.inRegion ops (i::r)::k)) cs w) r ds K:=by
  intro h;obtain⟨e,m,hs,aq,aM⟩:=y o _ _ _ (fun v=>rfl) h;obtain⟨nx,I,w',aK,aH,A,B,u,C,D⟩:=hs.use a.heap (fun x _=>oB a x) aq (fun p F=>(aM p F).1);exact⟨_,aH,aK,_,w',m,.one (th j l E A B),a.put c u C D,u.fj⟩
 unfold jO at h
 split at h
 ·rename_i f args H q
  split at h
  ·rename_i g fi ca hf;exact J9 q (.inr ⟨fi,ca,hf,rfl,rfl⟩) h a c j l
  ·rename_i g fi ca hf;exact J9 q (.inl hf) h a c j l
  ·rename_i b hf;obtain⟨H',v,G,m⟩:=h;exact Vu q hf G m a c j l
  ·exact h.elim
 ·exact z h
theorem kU.mono{m:c9}{K a:St->Prop}{ai ad:Nat->Prop}{w:cc}{β:Bd}{H:an}(h:kU P n N fr k cs ops ai ad w β H m r ds K)(hk:∀s,K s->a s):kU P n N fr k cs ops ai ad w β H m r ds a:=by
 obtain⟨s',aH,aK,t',w',b,c⟩:=h;exact⟨s',aH,aK,t',w',hk _ b,c⟩
theorem yD{s:St}{ai ad:Nat->Prop}{β:Bd}{t:Array b5}{w:cc}(e:cQ P n ai ad β s t w)(l:∀o∈ops.toList,jk n o=true)(j:Nat):
 (∀b,guardOf ops j s.env=.p (.bool b)->yielded ops t j=some b)/\(guardOf ops j s.env=.p (.aE [])->yielded ops t j=none):=by
 unfold guardOf yielded;cases k:ops[j]? with
 |none=>simp
 |some f=>
  simp only[Option.bind_some];cases g:f.dst with
  |none=>simp
  |some d=>
   simp only[Option.bind_some];have h:d<t.size:=by
    have:=l f (by rw[bp];exact bo k);unfold jk at this;rw[g]at this;rw[e.size];simpa using this
   have a:=e.env d;have i:t[d]?=some (t.getD d undef):=by simp[Array.getD,h]
   rw[i];constructor
   ·intro b c;rw[c]at a;simp only[aD,aF]at a;rw[a]
   ·intro c;rw[c]at a;simp only[aD,aF,bL]at a;obtain⟨xs,rfl,a⟩:=a;rw[a]
theorem KK(f:mc P ag){d:Bool}(x:∀o∈ops.toList,jk n o=true):∀(l:List Oper)(i:Nat){K:St->Prop}{s:St}{ai ad:Nat->Prop}{β:Bd}{t:Array b5}{w:cc},
 ops.toList.drop i=l->ic P ag d ops l K s->cQ P n ai ad β s t w->
 kU P n N fr k cs ops ai ad w β s.heap (lone (bC fr t ds (.inRegion ops (fm i l.length)::k)) cs w) [] ds K
 |[],i,K,s,ai,ad,β,t,w,v,h,a=>⟨s,ad,β,t,w,h,ec _ _,a,dN.refl _ _ _ _ _ _⟩
 |o::l,i,K,s,ai,ad,β,t,w,v,h,a=>by
  have e:ops[i]?=some o:=by
   have:(ops.toList.drop i)[0]?=some o:=by rw[v];rfl
   rw[List.getElem?_drop]at this;simpa using this
  have F:ops.toList.drop (i+1)=l:=by
   rw[<-gy,v];rfl
  have u:jk n o=true:=x o (by rw[bp];exact bo e);have g:∀{ai ad w β H}{m:c9},kU P n N fr k cs ops ai ad w β H m (fm (i+1) l.length) ds (ic P ag d ops l K)->kU P n N fr k cs ops ai ad w β H m [] ds K:=by
   intro ai ad w β H m E;obtain⟨s',aH,aK,L,w',A,B,C,D⟩:=E;obtain⟨s2,z,J,t2,I,g1,g2,g3,g4⟩:=KK f x l (i+1) F A C;exact⟨s2,z,J,t2,I,g1,B.trans g2,g3,D.trans g4⟩
  rw[fl,List.range'_succ]
  have skip:ic P ag d ops l K ⟨put o.dst (.p (.aE [])) s.env,s.heap⟩->dp o (yielded ops t)=false->
   kU P n N fr k cs ops ai ad w β s.heap (lone (bC fr t ds (.inRegion ops (i::fm (i+1) l.length)::k)) cs w) [] ds K:=by
   intro hk G;refine g ⟨_,ad,β,_,w,hk,.one (KZ e G),a.put u (b6.refl a.heap) (by simp[aD,aF,bL,undef]) (by simp[aG]),dN.refl _ _ _ _ _ _⟩
  simp only[ic]at h
  split at h
  ·rename_i c;exact g (LN f h a u e (by simp[dp,c]))
  ·rename_i j M c;obtain⟨g1,g2⟩:=yD a x j
   split at h
   ·rename_i b q;have y:=g1 b q
    split at h
    ·rename_i r;exact g (LN f h a u e (by simp[dp,c,y,r]))
    ·rename_i r;exact skip h (by simp[dp,c,y,r])
   ·rename_i q;exact skip h (by simp[dp,c,g2 q])
   ·exact h.elim
theorem aJD{H:an}{b v:Nat}(h:H[b]?=none\/H[b]?=some .hole):¬aJ H (b,v):=by
 rintro⟨o,a,c⟩;rcases h with h|h
 ·simp only at a;rw[h]at a;cases a
 ·simp only at a;rw[h]at a;cases a;exact c
theorem pZ.step{s s':St}{β:Bd}(hf:pZ s s'):cC β s.heap β s'.heap:=by
 refine⟨?_,?_,?_,?_,?_⟩
 ·rintro b _ ⟨fz,t,a⟩;rcases hf.heap b _ a with h|h|⟨_,k,z,h,_⟩|⟨v,v',h,_,_⟩
  ·cases h
  ·exact⟨⟨fz,t,h⟩,rfl⟩
  ·cases h
  ·exact⟨⟨_,_,h⟩,rfl⟩
 ·rintro b _ ⟨fz,t,a⟩;rcases hf.heap b _ a with h|h|⟨_,k,z,h,_⟩|⟨v,v',_,h,_⟩
  ·cases h
  ·exact⟨⟨fz,t,h⟩,rfl⟩
  ·cases h
  ·cases h
 ·rintro b _ ⟨fz,t,a⟩;rcases hf.heap b _ a with h|h|⟨_,k,z,h,_⟩|⟨v,v',_,h,_⟩
  ·cases h
  ·exact⟨⟨fz,t,h⟩,rfl⟩
  ·cases h
  ·cases h
 ·intro b aC aj k c hi a;rcases hf.heap b _ a with h|h|⟨d,_⟩|⟨v,v',_,h,_⟩
  ·cases h
  ·exact⟨k,c,h,g0 _,ew,fun _=>⟨rfl,rfl⟩⟩
  ·exact(aJD d hi).elim
  ·cases h
 ·rintro b _ ⟨L,a⟩;rcases hf.heap b _ a with h|h|⟨_,k,z,h,_⟩|⟨v,v',_,h,_⟩
  ·cases h
  ·exact⟨⟨L,h⟩,rfl⟩
  ·cases h
  ·cases h
section az8
variable{w:cc}{ad:Nat->Prop}{β:Bd}{T:an}
theorem P9{b aC aj off len:Nat}(h:aC=0/\off=0/\len=0/\∃k z,T[b]?=some (.arr k 0 z [])/\k.gr=true):bO P β T (.sl b aC aj off len) (.slice none 0 0):=by
 obtain⟨rfl,rfl,rfl,k,z,c,d⟩:=h;refine⟨by simp[ed],fun f e a=>?_⟩;unfold fq at a;rw[c]at a;cases a;exact⟨by simp,fun _=>rfl,fun h=>(h ⟨d,rfl⟩).elim⟩
mutual
theorem fY.cells:∀(v:PV)(x:AV)(cs:List b5),fY T v x->aW P w ad v cs->br P w ad β T x cs
 | .aP,x,cs,h,hc=>by
  simp only[fY]at h;rcases h with rfl|h
  ·simpa only[br]using hc
  ·cases x<;>simp only at h<;>try exact h.elim
   simp only[aW]at hc;simp only[br];exact⟨_,hc,P9 h⟩
 | .st u fs,x,cs,h,hc=>by
  simp only[fY]at h;rcases h with rfl|h
  ·simpa only[br]using hc
  ·cases x<;>simp only at h<;>try exact h.elim
   obtain⟨rfl,h⟩:=h;simp only[aW]at hc;obtain⟨l,a,d,e,f⟩:=hc;simp only[br];exact⟨l,a,d,lE.cells l fs _ a h e,f⟩
 | .undef,x,cs,h,hc| .bool _,x,cs,h,hc| .int _ _,x,cs,h,hc| .str _,x,cs,h,hc| .dM,x,cs,h,hc| .cq _,x,cs,h,hc| .cT _ _,x,cs,h,hc| .seq _,x,cs,h,hc| .fk,x,cs,h,hc| .eg _,x,cs,h,hc| .func _ _ _,x,cs,h,hc| .gQ,x,cs,h,hc| .gB,x,cs,h,hc| .aE _,x,cs,h,hc=>by
  simp only[fY]at h;subst h;simpa only[br]using hc
theorem lE.cells:∀(l:List Nat)(fs:List PV)(b:List AV)(a:List (List b5)),lE T fs b->bm P w ad l fs a->bM P w ad β T l b a
 |l,[],b,a,h,hc=>by
  simp only[lE]at h;subst h;cases l<;>simp_all [bM,bm]
 |l,v::vs,b,a,h,hc=>by
  cases b with
  |nil=>simp[lE]at h
  |cons g b=>
   simp only[lE]at h;cases l with
   |nil=>simp[bm]at hc
   |cons n l=>
    simp only[bm]at hc;obtain⟨c,cs,d,e,f,i⟩:=hc;simp only[bM];exact⟨c,cs,d,fY.cells v g c h.1 e,f,lE.cells l vs b cs h.2 i⟩
end
theorem fY.FB(v:PV)(x:AV)(y:b5)(h:fY T v x)(hc:aF P w ad v y):aD P w ad β T x y:=by
 cases v
 case aP=>
  simp only[fY]at h;rcases h with rfl|h
  ·simpa only[aD]using hc
  ·cases x<;>simp only at h<;>try exact h.elim
   simp only[aF]at hc;subst hc;simp only[aD];exact P9 h
 case st u fs=>
  simp only[fY]at h;rcases h with rfl|h
  ·simpa only[aD]using hc
  ·cases x<;>simp only at h<;>try exact h.elim
   obtain⟨rfl,h⟩:=h;simp only[aF]at hc;obtain⟨l,a,b,c,d⟩:=hc;simp only[aD];exact⟨l,a,b,lE.cells l fs _ a h c,d⟩
 all_goals simp only[fY]at h;subst h;simpa only[aD]using hc
mutual
theorem Gh.cells:∀(v x:AV)(cs:List b5),Gh T v x->br P w ad β T v cs->br P w ad β T x cs
 | .p v,x,cs,h,hc=>by simp only[Gh]at h;simp only[br]at hc;exact fY.cells v x cs h hc
 | .st u fs,x,cs,h,hc=>by
  simp only[Gh]at h;cases x<;>simp only at h<;>try exact h.elim
  obtain⟨rfl,h⟩:=h;simp only[br]at hc⊢;obtain⟨l,a,d,e,f⟩:=hc;exact⟨l,a,d,mP.cells l fs _ a h e,f⟩
 | .ptr _ _,x,cs,h,hc| .b8 _ _ _ _ _,x,cs,h,hc| .sl _ _ _ _ _,x,cs,h,hc| .map _,x,cs,h,hc| .func _ _ _,x,cs,h,hc| .aE _,x,cs,h,hc=>by simp only[Gh]at h;subst h;exact hc
theorem mP.cells:∀(l:List Nat)(fs b:List AV)(a:List (List b5)),mP T fs b->bM P w ad β T l fs a->bM P w ad β T l b a
 |l,[],b,a,h,hc=>by simp only[mP]at h;subst h;exact hc
 |l,v::vs,b,a,h,hc=>by
  cases b with
  |nil=>simp[mP]at h
  |cons g b=>
   simp only[mP]at h;cases l with
   |nil=>simp[bM]at hc
   |cons n l=>
    simp only[bM]at hc⊢;obtain⟨c,cs,d,e,f,i⟩:=hc;exact⟨c,cs,d,Gh.cells v g c h.1 e,f,mP.cells l vs b cs h.2 i⟩
end
theorem Gh.FB(v x:AV)(y:b5)(h:Gh T v x)(hc:aD P w ad β T v y):aD P w ad β T x y:=by
 cases v
 case p v=>simp only[Gh]at h;simp only[aD]at hc;exact fY.FB v x y h hc
 case st u fs=>
  simp only[Gh]at h;cases x<;>simp only at h<;>try exact h.elim
  obtain⟨rfl,h⟩:=h;simp only[aD]at hc⊢;obtain⟨l,a,b,c,d⟩:=hc;exact⟨l,a,b,mP.cells l fs _ a h c,d⟩
 all_goals simp only[Gh]at h;subst h;exact hc
theorem fY.aL{v:PV}{x:AV}(h:fY T v x):aa x=ah.aL v:=by
 cases v
 case aP=>
  simp only[fY]at h;rcases h with rfl|h
  ·rfl
  ·cases x<;>simp only at h<;>first|exact h.elim|rfl
 case st u fs=>
  simp only[fY]at h;rcases h with rfl|h
  ·rfl
  ·cases x<;>simp only at h<;>try exact h.elim
   simp[aa,ah.aL,h.1]
 all_goals simp only[fY]at h;subst h;rfl
theorem Gh.aL{v x:AV}(h:Gh T v x):aa x=aa v:=by
 cases v
 case p v=>simp only[Gh]at h;exact h.aL
 case st u fs=>
  simp only[Gh]at h;cases x<;>simp only at h<;>try exact h.elim
  simp[aa,h.1]
 all_goals simp only[Gh]at h;subst h;rfl
end az8
theorem cV.fj{s s':St}{β:Bd}{ai ad:Nat->Prop}{w:cc}(hf:cV N s s'):dN N ai ad w β s.heap ai ad w β s'.heap:=by
 rcases hf with rfl|hf
 ·exact dN.refl _ _ _ _ _ _
 ·exact⟨fun _ h=>h,fun _ h=>h,fun _ h=>.inl h,Ext.refl _ _ _,hf.1.step.n,fun x a⟨o,e,d⟩=>⟨o,by rw[hf.2 _ a];exact e,d⟩,fun b a⟨L,c⟩=>⟨L,by rw[hf.2 _ a];exact c⟩⟩
theorem pZ.rel{s s':St}{ai ad:Nat->Prop}{β:Bd}{t:Array b5}{w:cc}(hf:pZ s s')(h:cQ P n ai ad β s t w):cQ P n ai ad β s' t w:=by
 have aO:cC β s.heap β s'.heap:=hf.step;refine⟨⟨?_,?_,hf.hrefs,h.heap.bS,h.heap.eh,h.heap.iJ⟩,fun x=>?_,hf.gN,h.size⟩
 ·intro b o E;rcases hf.heap b o E with rfl|g|⟨_,k,z,rfl,hk⟩|⟨v,v',g,rfl,r⟩
  ·trivial
  rotate_left
  ·exact .inl ⟨hk,rfl⟩
  ·have d:=h.heap.cO b _ g;have i:=h.heap.refs b _ g;obtain⟨cs,T,a,c,e,q,C⟩:=d;exact⟨cs,T,a,Gh.cells _ _ _ r (br.mono (fun _ x=>x) (fun _ _=>rfl) aO _ _ i c),e,(fun h=>by cases h),by rw[r.aL];exact C⟩
  ·have d:=h.heap.cO b o g;have i:=h.heap.refs b o g;cases o with
   |hole=>trivial
   |dead=>trivial
   |box fz t=>
    obtain⟨cs,T,a,c,e⟩:=d;exact⟨cs,T,a,br.mono (fun _ x=>x) (fun _ _=>rfl) aO _ _ i c,e⟩
   |arr k aC aj es=>
    rcases d with d|⟨cs,T,B,rest,a,c,e⟩
    ·exact .inl d
    ·exact .inr ⟨cs,T,B,rest,a,bM.mono (fun _ x=>x) (fun _ _=>rfl) aO _ _ _ i c,e⟩
   |map fz es=>exact d
   |dy s pos=>exact d
   |loop L=>
    obtain⟨tmps,defers,fn,a,c,e,q⟩:=d;exact⟨tmps,defers,fn,a,c,fun x=>aD.mono (fun _ x=>x) (fun _ _=>rfl) aO _ _ (i x) (e x),q⟩
 ·intro x y H I a c m p D f;have A:∀{z:Nat}{o:Obj},s'.heap[z]?=some o->o.live->∃o',s.heap[z]?=some o'/\o'.live:=by
   intro z o j l;rcases hf.heap z o j with rfl|j|⟨_,k,_,rfl,hk⟩|⟨v,v',j,_,_⟩
   ·exact l.elim
   ·exact⟨o,j,l⟩
   ·exact(l ⟨hk,rfl⟩).elim
   ·exact⟨_,j,trivial⟩
  obtain⟨F,a,m⟩:=A a m;obtain⟨G,c,p⟩:=A c p;exact h.heap.inj x y F G a c m p D f
 ·have u:=aD.mono (fun _ x=>x) (fun _ _=>rfl) aO _ _ (h.gN x) (h.env x);rcases hf.env x with f|f|f
  ·rw[f];exact u
  ·rw[f];simp[aD,aF]
  ·exact Gh.FB _ _ _ f u
theorem cV.rel{s s':St}{ai ad:Nat->Prop}{β:Bd}{t:Array b5}{w:cc}(hf:cV N s s')(h:cQ P n ai ad β s t w):cQ P n ai ad β s' t w:=by
 rcases hf with rfl|hf
 ·exact h
 ·exact hf.1.rel h
def nB(P:b4)(fr:cx)(k:List Item)(cs:List cx)(m:c9)(t:Array b5)(ds:List ch)(w:cc):bw->Prop
 | .normal=>da P m (lone (bC fr t ds k) cs w)
 | .exit id=>∃a,exitTo id a=exitTo id k/\da P m (lone (bC fr t ds (.code (.exit id)::a)) cs w)
 | .ret=>∃a,da P m (lone (bC fr t ds (.code .ret::a)) cs w)
theorem nB.of_steps{m f:c9}{t:Array b5}{ds:List ch}{w:cc}{e:bw}(h:da P m f)(c:nB P fr k cs f t ds w e):nB P fr k cs m t ds w e:=by
 cases e with
 |normal=>exact h.trans c
 |exit id=>obtain⟨d,a,b⟩:=c;exact⟨d,a,h.trans b⟩
 |ret=>obtain⟨d,b⟩:=c;exact⟨d,h.trans b⟩
def mark(r:Nat):ch:={target:=.collected r,args:=#[]}
def Marks(fr:cx)(ai:Nat->Prop)(w:cc)(kr aH:Nat->Prop)(w':cc)(b c:List ch):Prop:=
 ∃a:List Nat,c=a.map mark++b/\a.Nodup/\(∀r∈a,w.heap.size<=r/\kr r/\¬aH r/\w'.heap[r]?=some (.deferred (some [])))/\(∀k,kr k->ai k\/k∈a)/\(fr.roundOf.isSome=true->a=[])
theorem Marks.refl(fr:cx)(ai aH:Nat->Prop)(w w':cc)(ds:List ch):Marks fr ai w ai aH w' ds ds:=⟨[],rfl,List.nodup_nil,by simp,fun _ h=>.inl h,fun _=>rfl⟩
theorem Marks.trans{fr:cx}{N:Nat}{ai ad d e g f:Nat->Prop}{w w1 l:cc}{β p B:Bd}{H H1 q:an}{ds m n:List ch}(h:Marks fr ai w d e w1 ds m)(i:dN N ai ad w β H d e w1 p H1)
 (s:Marks fr d w1 g f l m n)(j:dN N d e w1 p H1 g f l B q):Marks fr ai w g f l ds n:=by
 obtain⟨rs,rfl,t,o,u,v⟩:=h;obtain⟨A,rfl,g2,g3,g4,g5⟩:=s;refine⟨A++rs,by simp,?_,?_,?_,fun hx=>by simp[v hx,g5 hx]⟩
 ·rw[List.nodup_append];refine⟨g2,t,fun a i b y x=>?_⟩;subst x;have C:=(g3 a i).1;have D:=(bl.1 (o a y).2.2.2).1;omega
 ·intro r c;rcases gx.1 c with c|c
  ·obtain⟨k1,k2⟩:=g3 r c;exact⟨g7 i.ext.size k1,k2⟩
  ·obtain⟨k1,k2,k3,k4⟩:=o r c;exact⟨k1,j.eh _ k2,fun hx=>(j.fresh _ hx).elim k3 (fun z=>z k2),(j.ext.same _ (.inl k2)).trans k4⟩
 ·intro k hk;rcases g4 k hk with hk|hk
  ·rcases u k hk with hk|hk
   ·exact .inl hk
   ·exact .inr (by simp[hk])
  ·exact .inr (by simp[hk])
def rN(N:Nat)(fr:cx)(β:Bd)(H:an):Prop:=∀l,fr.roundOf=some l->∃b,b<N/\gZ H b/\β.au b=l
theorem rN.fj{fr:cx}{β aK:Bd}{H H':an}{ai ad kr aH:Nat->Prop}{w w':cc}(h:rN N fr β H)(e:dN N ai ad w β H kr aH w' aK H'):rN N fr aK H':=by
 intro l i;obtain⟨b,a,c,f⟩:=h l i;have d:=e.loop b a c;obtain⟨L,g⟩:=c;exact⟨b,a,d,((e.step.loop b a ⟨_,g,trivial⟩ d).2).trans f⟩
def qZ(P:b4)(n N:Nat)(fr:cx)(k:List Item)(cs:List cx)(ai ad:Nat->Prop)(w:cc)(β:Bd)(H:an)(m:c9)(c:List ch)(Q:bw->St->Prop):Prop:=
 ∃e s' kr aH aK b w' a,Q e s'/\nB P fr k cs m b a w' e/\cQ P n kr aH aK s' b w'/\dN N ai ad w β H kr aH w' aK s'.heap/\Marks fr ai w kr aH w' c a
theorem qZ.of{k:List Item}{ai ad:Nat->Prop}{w:cc}{β:Bd}{H:an}{m:c9}{ds:List ch}{Q:bw->St->Prop}{e:bw}{s':St}{aH:Nat->Prop}{aK:Bd}{a:Array b5}{w':cc}(hq:Q e s')(c:nB P fr k cs m a ds w' e)
 (d:cQ P n ai aH aK s' a w')(b:dN N ai ad w β H ai aH w' aK s'.heap):qZ P n N fr k cs ai ad w β H m ds Q:=⟨e,s',ai,aH,aK,a,w',ds,hq,c,d,b,Marks.refl _ _ _ _ _ _⟩
theorem qZ.next{k:List Item}{ai ad b a:Nat->Prop}{w w1:cc}{β g:Bd}{H H1:an}{m f:c9}{c d:List ch}{Q:bw->St->Prop}(e:dN N ai ad w β H b a w1 g H1)(o:Marks fr ai w b a w1 c d)(aO:da P m f)
 (h:qZ P n N fr k cs b a w1 g H1 f d Q):qZ P n N fr k cs ai ad w β H m c Q:=by
 obtain⟨e2,s2,j,i,q,t2,p,l,g1,g2,g3,g4,g5⟩:=h;exact⟨e2,s2,j,i,q,t2,p,l,g1,.of_steps aO g2,g3,e.trans g4,o.trans e g5 g4⟩
def codeOk(fit:Nat->Array Oper->Bool)(n:Nat):Code->Bool
 | .region _ ops draw=>ops.toList.all (jk n)&&(!draw||fit n ops)
 | .seq a b=>codeOk fit n a&&codeOk fit n b
 | .cond _ a b=>codeOk fit n a&&codeOk fit n b
 | .block _ b| .scope b| .loop b=>codeOk fit n b
 | .rangeFunc _ _ a b=>codeOk fit n a&&codeOk fit n b
 |_=>true
def tE(P:b4)(ag:ck->Bool)(fit:Nat->Array Oper->Bool):Prop:=
 ∀(n N:Nat)(a:Array Oper)(fr:cx)(k:List Item)(cs:List cx)(b:List ch)(c:Nat)(K:St->Prop)(s:St)(ai ad:Nat->Prop)(β:Bd)(t:Array b5)(w:cc),
  fit n a=true->(∀o∈a.toList,jk n o=true)->gv P ag a a.toList 0 [] K s->cQ P n ai ad β s t w->
  kU P n N fr k cs a ai ad w β s.heap (lone (bC fr t b (.inRegion a (dq (P.follows .mixedOrders) a c)::k)) cs w) [] b K
theorem cQ.draw{s:St}{ai ad:Nat->Prop}{β:Bd}{t:Array b5}{w w':cc}(a:w'.heap=w.heap)(h:cQ P n ai ad β s t w):cQ P n ai ad β s t w':=
 ⟨h.heap.yN a,fun x=>aD.mono (fun _ x=>x) (fun _ _=>by rw[a]) (cC.refl _ _) _ _ (h.gN x) (h.env x),h.gN,h.size⟩
section rf
variable{w w':cc}{ad ai:Nat->Prop}{β:Bd}{H:an}
theorem bX.LI(h:bX P w ad β H ai){x:Nat}(hx:x<w.heap.size)(v:∀(b:Nat)(o:Obj),H[b]?=some o->o.live->β.au b≠x):bX P w ad β H (fun k=>ai k\/k=x):=by
 refine⟨fun b o l=>?_,h.inj,h.refs,h.bS,fun k hk=>hk.elim (h.eh k) (fun e=>e▸hx),h.iJ⟩;have held:∀fz,o.live->cK ad β ai fz b->cK ad β (fun k=>ai k\/k=x) fz b:=by
  intro fz j i;unfold cK at i⊢;cases fz with
  |true=>exact i
  |false=>exact⟨i.1,fun y=>y.elim i.2 (v b o l j)⟩
 have f:=h.cO b o l;cases o with
 |hole=>trivial
 |dead=>trivial
 |box fz t=>obtain⟨cs,T,a,c,d,g⟩:=f;exact⟨cs,T,a,c,held _ trivial d,g⟩
 |arr k aC aj es=>
  rcases f with f|⟨cs,T,m,rest,a,c,d,g,p,q,r,u⟩
  ·exact .inl f
  ·by_cases j:di k es
   ·exact .inl j
   ·exact .inr ⟨cs,T,m,rest,a,c,d,g,p,q,held _ j r,u⟩
 |map fz es=>obtain⟨n,clock,a,c,d⟩:=f;exact⟨n,clock,a,c,held _ trivial d⟩
 |dy s pos=>obtain⟨bs,a,c,d⟩:=f;exact⟨bs,a,c,held _ trivial d⟩
 |loop L=>obtain⟨tmps,defers,fn,a,c,d,g⟩:=f;exact⟨tmps,defers,fn,a,c,d,held _ trivial g⟩
theorem bX.shut(h:bX P w ad β H ai){Prot0:Nat->Prop}(p:∀k,Prot0 k->ai k){R:Nat->Prop}(j:∀x,R x->ai x/\¬ad x)(q:w'.heap.size=w.heap.size)(hs:∀k,¬R k->w'.heap[k]?=w.heap[k]?):bX P w' ad β H Prot0:=by
 have same:∀k,ad k->w'.heap[k]?=w.heap[k]?:=fun k hk=>hs k (fun i=>(j k i).2 hk);refine⟨fun b o n=>?_,h.inj,h.refs,fun k hk=>q▸h.bS k hk,fun k hk=>q▸h.eh k (p k hk),h.iJ.mono (fun _ x=>x) same⟩;have held:∀fz,cK ad β ai fz b->cK ad β Prot0 fz b:=by
  intro fz e;unfold cK at e⊢;cases fz with
  |true=>exact e
  |false=>exact⟨e.1,fun A=>e.2 (p _ A)⟩
 have au:∀fz,cK ad β ai fz b->w'.heap[β.au b]?=w.heap[β.au b]?:=by
  intro fz e;refine hs _ (fun i=>?_);unfold cK at e;cases fz with
  |true=>exact(j _ i).2 e
  |false=>exact e.2 (j _ i).1
 have f:=h.cO b o n;have l:=h.refs b o n;cases o with
 |hole=>trivial
 |dead=>trivial
 |box fz t=>obtain⟨cs,T,c,d,a,g⟩:=f;exact⟨cs,T,(au _ a).trans c,br.mono (fun _ x=>x) same (cC.refl _ _) _ _ l d,held _ a,g⟩
 |arr k aC aj es=>
  rcases f with f|⟨cs,T,r,rest,c,d,a,g,v,y,m,z⟩
  ·exact .inl f
  ·exact .inr ⟨cs,T,r,rest,(au _ m).trans c,bM.mono (fun _ x=>x) same (cC.refl _ _) _ _ _ l d,a,g,v,y,held _ m,z⟩
 |map fz es=>obtain⟨u,clock,c,d,a⟩:=f;exact⟨u,clock,(au _ a).trans c,cL.mono (fun _ x=>x) same _ _ d,held _ a⟩
 |dy s pos=>obtain⟨bs,c,d,a⟩:=f;exact⟨bs,(au _ a).trans c,d,held _ a⟩
 |loop L=>obtain⟨tmps,defers,fn,c,d,a,g⟩:=f;exact⟨tmps,defers,fn,(au _ g).trans c,d,fun x=>aD.mono (fun _ x=>x) same (cC.refl _ _) _ _ (l x) (a x),held _ g⟩
theorem L6(H:an)(o:Obj):(H++e6 1 Obj.hole).set H.length o=H++[o]:=by
 rw[ge _ _ (g0 _)];simp
theorem MO(a:bX P w ad β H ai){L:dW}{tmps:Array b5}{defers fn:Nat}(h:tmps.size=L.n)(l:∀x,aD P w ad β H (aS L.env x) (tmps.getD x undef))(c:∀x,aG (aJ H) (aS L.env x)):
 b6 P ai ad w β H ad (w.alloc (.loop {state:=L.st,pending:=L.pending,fn,tmps,params:=L.params.toArray,assign:=L.assign,body:=L.body,defers})) (β.at H.length w.heap.size 0) (H++[.loop L]):=by
 have d:b6 P ai ad w β H ad w β (H++e6 1 .hole):=⟨fun _ x=>x,fun _ x=>.inl x,Ext.refl _ _ _,qN _ _ _,a.qh _,oh _ _,fun b⟨L,e⟩=>⟨L,by rw[lJ,if_pos (e8.1 e).1];exact e⟩⟩
 have f:(H++e6 1 Obj.hole)[H.length]?=some .hole:=by rw[lJ];simp
 have aO:=(qN β H 1)
 have j:=yU (β:=β) f (.loop L) w.heap.size 0;have hrefs:∀x,aG (aJ ((H++e6 1 Obj.hole).set H.length (.loop L))) (aS L.env x):=by
  intro x;rw[L6];exact aG.mono (fun y m=>Lo m) _ (c x)
 have g:=tH (cap:=0) d.rel f (ob:=.loop {state:=L.st,pending:=L.pending,fn,tmps,params:=L.params.toArray,assign:=L.assign,body:=L.body,defers}) (o':=.loop L)
  ⟨tmps,defers,fn,by simp[Bd.at],h,fun x=>aD.mono (fun _ x=>x) (fun k hk=>vy w _ (a.bS k hk)) j _ _ (aG.mono (oh _ _) _ (c x)) (aD.mono (fun _ x=>x) (fun _ _=>rfl) aO _ _ (c x) (l x)),?_⟩ hrefs
 ·rw[L6]at g;exact d.trans g
 ·unfold cK;simp only[b2,if_false,Bd.at,if_true];exact⟨fun hi=>by have:=a.bS _ hi;omega,fun i=>by have:=a.eh _ i;omega⟩
theorem Da(g:bX P w ad β H ai){b:Nat}{L:dW}(a:H[b]?=some (.loop L))(st:LoopState)(d:Option Code):
 ∃rec:Loop,w.heap[β.au b]?=some (.loop rec)/\rec.state=L.st/\rec.pending=L.pending/\rec.params=L.params.toArray/\rec.assign=L.assign/\rec.body=L.body/\rec.tmps.size=L.n/\(∀x,aD P w ad β H (aS L.env x) (rec.tmps.getD x undef))/\
  b6 P ai ad w β H ad (w.putObj (β.au b) (.loop {rec with state:=st,pending:=d})) β (H.set b (.loop {L with st:=st,pending:=d})):=by
 obtain⟨tmps,defers,fn,m,p,q,c⟩:=g.cO b _ a;refine⟨_,m,rfl,rfl,rfl,rfl,rfl,p,q,?_⟩;have u:=(bl.1 m).1;have r:=(e8.1 a).1;unfold cK at c;simp only[b2,if_false]at c;have aO:cC β H β (H.set b (.loop {L with st:=st,pending:=d})):=by
  have i:∀(x:Nat)(o:Obj),(H.set b (Obj.loop {L with st:=st,pending:=d}))[x]?=some o->(∀j,o≠Obj.loop j)->H[x]?=some o:=by
   intro x o l v
   by_cases hx:b=x
   ·subst hx;rw[e9 r]at l;cases l;exact(v _ rfl).elim
   ·rwa [e7 hx]at l
  refine⟨?_,?_,?_,?_,?_⟩
  ·rintro x _ ⟨f,t,h⟩;exact⟨⟨f,t,i _ _ h (by simp)⟩,rfl⟩
  ·rintro x _ ⟨f,t,h⟩;exact⟨⟨f,t,i _ _ h (by simp)⟩,rfl⟩
  ·rintro x _ ⟨f,t,h⟩;exact⟨⟨f,t,i _ _ h (by simp)⟩,rfl⟩
  ·intro x aC aj k s _ h;exact⟨k,s,i _ _ h (by simp),g0 _,ew,fun _=>⟨rfl,rfl⟩⟩
  ·rintro x _ ⟨j,h⟩;refine⟨?_,rfl⟩
   by_cases hx:b=x
   ·subst hx;exact⟨L,a⟩
   ·rw[e7 hx]at h;exact⟨j,h⟩
 have aq:∀x,aJ H x->aJ (H.set b (Obj.loop {L with st:=st,pending:=d})) x:=mr a (fun _ _=>trivial);have same:∀k,ad k->(w.putObj (β.au b) (.loop {state:=st,pending:=d,fn,tmps,params:=L.params.toArray,assign:=L.assign,body:=L.body,defers})).heap[k]?=w.heap[k]?:=fun k hk=>ej (fun e=>c.1 (e▸hk));refine b6.set g r (fun _ _=>⟨rfl,rfl⟩) (fun _ x=>x) (fun _ x=>.inl x) (fun k hk=>by simpa using g.bS k hk) (by simp)
  (fun k hk _=>ej (hk.resolve_right (fun h=>h trivial))) (fun _=>.inr ⟨rfl,⟨_,a,trivial⟩,.inr c.1,c.2⟩) aO
  ⟨tmps,defers,fn,World.putObj_heap_same u,p,fun x=>aD.mono (fun _ x=>x) same aO _ _ (g.refs b _ a x) (q x),?_⟩ (fun x=>aG.mono aq _ (g.refs b _ a x)) (fun _ _ _ _=>trivial) (fun _ _=>⟨_,rfl⟩)
 unfold cK;simpa using c
end rf
theorem WD{s:St}{ai ad:Nat->Prop}{β:Bd}{t:Array b5}{w:cc}(c:cQ P n ai ad β s t w)(D:rN N fr β s.heap)(e:Array Tmp)(a b:Code)(m:List ch){f:Env}(g:∀x,aS f x=aS s.env x):
 ∃l mk w1 j i,(Instr.enterLoop fr.fn t e a b fr.roundOf).run P w=.ok (l,mk) w1/\bX P w1 ad i (s.heap++[.loop ⟨.ready,none,n,e.toList,a,b,f⟩]) j/\i.au s.heap.length=l/\
  dN N ai ad w β s.heap j ad w1 i (s.heap++[.loop ⟨.ready,none,n,e.toList,a,b,f⟩])/\Marks fr ai w j ad w1 m (mk++m)/\
  cC β s.heap i (s.heap++[.loop ⟨.ready,none,n,e.toList,a,b,f⟩]):=by
 cases u:fr.roundOf with
 |none=>
  have p:b6 P ai ad w β s.heap ad (w.alloc (.deferred (some []))) β s.heap:=c.heap.later (fun _ x=>x) (fun _ x=>.inl x) (fun k hk=>by have:=c.heap.bS k hk;rw[ei];omega) (by rw[ei];omega) (fun k hk=>vy w _ hk);have B:=p.rel.LI (x:=w.heap.size) (by rw[ei];omega) (fun b o F E g=>by have:=c.heap.mY F E;omega);have d:=MO (L:=⟨.ready,none,n,e.toList,a,b,f⟩) (tmps:=t) (defers:=w.heap.size) (fn:=fr.fn) B c.size (fun x=>by rw[g];exact aD.mono (fun _ x=>x) (fun k hk=>vy w _ (c.heap.bS k hk)) (cC.refl _ _) _ _ (c.gN x) (c.env x)) (fun x=>by rw[g];exact c.gN x);have A:dN N ai ad w β s.heap (fun k=>ai k\/k=w.heap.size) ad (w.alloc (.deferred (some []))) β s.heap:=⟨fun _ h=>.inl h,fun _ h=>h,fun _ h=>.inl h,p.ext,(cC.refl _ _).n,fun _ _ h=>h,fun _ _ h=>h⟩
  refine⟨_,_,_,_,_,run_enterLoop_outer fr.fn t e a b,d.rel,?_,A.trans d.fj,?_,d.step⟩
  ·simp[Bd.at,ei]
  ·refine⟨[w.heap.size],rfl,by simp,?_,fun k hk=>hk.imp id (fun h=>by simp[h]),by simp[u]⟩;intro r q;simp only[List.mem_singleton]at q;subst q;refine⟨g0 _,.inr rfl,fun hi=>by have:=c.heap.bS _ hi;omega,?_⟩;exact(d.ext.same _ (.inl (.inr rfl))).trans (World.alloc_heap_new w _)
 |some G=>
  obtain⟨b0,J,y,z⟩:=D G u;obtain⟨H,C⟩:=y;obtain⟨K,v,I,g1,_⟩:=c.heap.cO b0 _ C;rw[z]at g1;have d:=MO (L:=⟨.ready,none,n,e.toList,a,b,f⟩) (tmps:=t) (defers:=v) (fn:=fr.fn) c.heap c.size (fun x=>by rw[g];exact c.env x) (fun x=>by rw[g];exact c.gN x);exact⟨_,_,_,_,_,run_enterLoop_inner g1 fr.fn t e a b,d.rel,by simp[Bd.at],d.fj,Marks.refl _ _ _ _ _ _,d.step⟩
theorem mU(K:mc P ag){fit:Nat->Array Oper->Bool}(J:tE P ag fit):∀(c:Code)(k:List Item){Q:bw->St->Prop}{s:St}{ai ad:Nat->Prop}{β:Bd}{t:Array b5}{w:cc}{ds:List ch},
 codeOk fit n c=true->cd P ag (n,N) c Q s->cQ P n ai ad β s t w->rN N fr β s.heap->qZ P n N fr k cs ai ad w β s.heap (lone (bC fr t ds (.code c::k)) cs w) ds Q
 | .skip,k,Q,s,ai,ad,β,t,w,ds,_,h,i,_=>.of h (.one aKT:nB P fr k cs _ t ds w .normal) i (dN.refl _ _ _ _ _ _)
 | .label l,k,Q,s,ai,ad,β,t,w,ds,_,h,i,_=>.of h (.one X7:nB P fr k cs _ t ds w .normal) i (dN.refl _ _ _ _ _ _)
 | .exit id,k,Q,s,ai,ad,β,t,w,ds,_,h,i,_=>.of h (⟨k,rfl,ec _ _⟩:nB P fr k cs _ t ds w (.exit id)) i (dN.refl _ _ _ _ _ _)
 | .ret,k,Q,s,ai,ad,β,t,w,ds,_,h,i,_=>.of h (⟨k,ec _ _⟩:nB P fr k cs _ t ds w .ret) i (dN.refl _ _ _ _ _ _)
 | .region id ops draw,k,Q,s,ai,ad,β,t,w,ds,r,h,i,_=>by
  simp only[codeOk,b3,List.all_eq_true]at r;simp only[cd]at h;cases draw with
  |false=>
   simp only[b2,if_false]at h;obtain⟨s',aH,aK,av,w',j,q,p,d⟩:=KK (fr:=fr) (k:=k) (cs:=cs) (ds:=ds) (N:=N) K r.1 ops.toList 0 (by simp) h i;refine .of (e:=.normal) j ?_ p d;have e:gE ops.size=fm 0 ops.toList.length:=by rw[List.range_eq_range'];simp
   exact(ea Xa).trans ((by rw[e];exact q:da P _ _).trans (.one Jh))
  |true=>
   simp only[if_true]at h;have aY:cQ P n ai ad β s t {w with drawn:=w.drawn+1}:=cQ.draw (w:=w) (w':={w with drawn:=w.drawn+1}) rfl i;obtain⟨s',aH,aK,av,w',j,q,p,d⟩:=J n N ops fr k cs ds (w.tape w.drawn (.order fr.fn id)) _ s ai ad β t _ (by simpa using r.2) r.1 h aY;exact .of (e:=.normal) j ((ea aKP).trans (q.trans (.one Jh)):nB P fr k cs _ av ds w' .normal) p ⟨d.eh,d.bS,d.fresh,⟨d.ext.size,d.ext.same,d.ext.io⟩,d.step,d.fa,d.loop⟩
 | .seq a b,k,Q,s,ai,ad,β,t,w,ds,r,h,i,C=>by
  simp only[codeOk,b3]at r;simp only[cd]at h;obtain⟨e,s1,o,B,z,t1,w1,D,j,q,p,d,A⟩:=mU K J a (.code b::k) r.1 h i C;cases e with
  |normal=>exact .next d A ((ea DU).trans q) (mU K J b k r.2 j p (C.fj d))
  |exit id=>
   obtain⟨E,a1,a2⟩:=q;exact⟨.exit id,s1,o,B,z,t1,w1,D,j,⟨E,a1.trans (by simp[exitTo]),(ea DU).trans a2⟩,p,d,A⟩
  |ret=>
   obtain⟨E,a2⟩:=q;exact⟨.ret,s1,o,B,z,t1,w1,D,j,⟨E,(ea DU).trans a2⟩,p,d,A⟩
 | .cond c a b,k,Q,s,ai,ad,β,t,w,ds,r,h,i,C=>by
  simp only[codeOk,b3]at r;simp only[cd]at h
  split at h
  ·rename_i aw aB;have al:=(oB i c).1;rw[aB]at al;simp only[aD,aF]at al;have aO:=aKO (P:=P) (fr:=fr) (ds:=ds) (k:=k) (cs:=cs) (w:=w) (x:=a) (y:=b) al;cases aw with
   |true=>exact .next (dN.refl N ai ad w β s.heap) (Marks.refl _ _ _ _ _ _) (.one (by simpa using aO)) (mU K J a k r.1 (by simpa using h) i C)
   |false=>exact .next (dN.refl N ai ad w β s.heap) (Marks.refl _ _ _ _ _ _) (.one (by simpa using aO)) (mU K J b k r.2 (by simpa using h) i C)
  ·exact h.elim
 | .block id b,k,Q,s,ai,ad,β,t,w,ds,r,h,i,C=>by
  simp only[codeOk]at r;simp only[cd]at h;obtain⟨e,s1,o,B,z,t1,w1,D,j,q,p,d,A⟩:=mU K J b (.inBlock id::k) r h i C;cases e with
  |normal=>exact⟨.normal,s1,o,B,z,t1,w1,D,j,(ea zb).trans (q.trans (.one WM)),p,d,A⟩
  |exit aa=>
   obtain⟨E,a1,a2⟩:=q;dsimp only at j
   split at j
   ·rename_i hid;subst hid;refine⟨.normal,s1,o,B,z,t1,w1,D,j,(ea zb).trans (a2.trans (.one (aKQ ?_))),p,d,A⟩;rw[a1];simp[exitTo]
   ·rename_i hid;exact⟨.exit aa,s1,o,B,z,t1,w1,D,j,⟨E,a1.trans (by simp[exitTo,ha hid]),(ea zb).trans a2⟩,p,d,A⟩
  |ret=>
   obtain⟨E,a2⟩:=q;exact⟨.ret,s1,o,B,z,t1,w1,D,j,⟨E,(ea zb).trans a2⟩,p,d,A⟩
 | .scope b,k,Q,s,ai,ad,β,t,w,ds,r,h,i,C=>by
  simp only[codeOk]at r;simp only[cd]at h;obtain⟨e,s1,o,B,z,t1,w1,D,j,q,p,d,A⟩:=mU K J b (.inScope b::k) r h i C;cases e with
  |normal=>exact⟨.normal,s1,o,B,z,t1,w1,D,j,(ea CX).trans (q.trans (.one WL)),p,d,A⟩
  |exit aa=>
   obtain⟨E,a1,a2⟩:=q;exact⟨.exit aa,s1,o,B,z,t1,w1,D,j,⟨E,a1.trans (by simp[exitTo]),(ea CX).trans a2⟩,p,d,A⟩
  |ret=>
   obtain⟨E,a2⟩:=q;exact⟨.ret,s1,o,B,z,t1,w1,D,j,⟨E,(ea CX).trans a2⟩,p,d,A⟩
 | .loop b,k,Q,s,ai,ad,β,t,w,ds,r,h,i,C=>by
  simp only[codeOk]at r;simp only[cd]at h;obtain⟨I,⟨m0,t0,hf,hI⟩,a0⟩:=h
  have loop:∀(m:Nat)(u:St)(ai ad:Nat->Prop)(β:Bd)(t:Array b5)(w:cc)(ds:List ch),I m u->cQ P n ai ad β u t w->rN N fr β u.heap->
   qZ P n N fr k cs ai ad w β u.heap (lone (bC fr t ds (.code b::.inLoop b::k)) cs w) ds Q:=by
   intro m
   induction m using Nat.strongRecOn with
   |_ m a5=>
    intro u ai ad β t w ds hI i C;obtain⟨e,s1,o,B,z,t1,w1,D,j,q,p,d,A⟩:=mU K J b (.inLoop b::k) r (a0 m u hI) i C;cases e with
    |normal=>
     obtain⟨a6,u',aW,an,ax⟩:=j;have Z:=an.fj (β:=z) (ai:=o) (ad:=B) (w:=w1);exact .next (d.trans Z) A (eb q (.one Xb)) (a5 a6 aW u' o B z t1 w1 D ax (an.rel p) ((C.fj d).fj Z))
    |exit aa=>
     obtain⟨E,a1,a2⟩:=q;exact⟨.exit aa,s1,o,B,z,t1,w1,D,j,⟨E,a1.trans (by simp[exitTo]),a2⟩,p,d,A⟩
    |ret=>
     obtain⟨E,a2⟩:=q;exact⟨.ret,s1,o,B,z,t1,w1,D,j,⟨E,a2⟩,p,d,A⟩
  have Z:=hf.fj (β:=β) (ai:=ai) (ad:=ad) (w:=w);exact .next Z (Marks.refl _ _ _ _ _ _) (.one aKR) (loop m0 t0 ai ad β t w ds hI (hf.rel i) (C.fj Z))
 | .rangeFunc f F a b,k,Q,s,ai,ad,β,t,w,ds,r,h,i,C=>by
  simp only[cd]at h;obtain⟨bc,M,aR,h⟩:=h;have W:=oB i f
  obtain⟨g,fi,ca,H,G,aT,aS,aI,ap,ao,Y,v,aU,ac⟩:∃g fi ca,∃H G:List b5,fI t f= .func (.func g) H.toArray G.toArray/\bJ P w ad β s.heap fi H/\bJ P w ad β s.heap ca G/\ba (aJ s.heap) fi/\ba (aJ s.heap) ca/\
   ∃Y v,cA P g (s.heap++[.loop ⟨.ready,none,n,F.toList,a,b,M⟩]) (fi++[.map s.heap.length]++ca) Y v/\iG s.heap.length s.env Q Y:=by
   unfold ju at h
   split at h
   ·rename_i g fi ca hf;rw[hf]at W;simp only[aD,aF]at W;obtain⟨⟨H,G,j,q,p⟩,_⟩:=W;exact⟨g,_,_,H,G,p,jI.2 j,jI.2 q,jg _ _,jg _ _,h⟩
   ·rename_i g fi ca hf;rw[hf]at W;simp only[aD,aG]at W;obtain⟨⟨H,G,j,q,p⟩,d,A⟩:=W;exact⟨g,fi,ca,H,G,p,j,q,d,A,h⟩
   ·exact h.elim
  obtain⟨l,mk,w1,o,z,e1,e2,e3,e4,e5,ae⟩:=WD (fr:=fr) i C F a b ds aR;obtain⟨aP,aL⟩:=aU;have aq:∀x,aJ s.heap x->aJ (s.heap++[.loop ⟨.ready,none,n,F.toList,a,b,M⟩]) x:=fun x hx=>Lo hx;have ak:∀k,ad k->w1.heap[k]?=w.heap[k]?:=fun k hk=>e4.ext.same k (.inr hk);have a3:aD P w1 ad z (s.heap++[.loop ⟨.ready,none,n,F.toList,a,b,M⟩]) (.map s.heap.length) (.func (.yield l) #[] #[]):=by
   simp only[aD,bO,bU];refine⟨by simp[ed],fun U=>?_,fun _=>by rw[e3]⟩;obtain⟨fz,es,U⟩:=U;simp at U
  have a4:aG (aJ (s.heap++[.loop ⟨.ready,none,n,F.toList,a,b,M⟩])) (.map s.heap.length):=by
   simp only[aG];exact⟨.loop ⟨.ready,none,n,F.toList,a,b,M⟩,by simp,trivial⟩
  have aA:=qQ (qQ (bJ.mono (fun _ x=>x) ak ae _ _ ap aS) (b:=[.map s.heap.length]) (y:=[.func (.yield l) #[] #[]]) (by simp only[bJ];exact⟨_,_,rfl,a3,rfl⟩)) (bJ.mono (fun _ x=>x) ak ae _ _ ao aI);have az:=jU (jU (ba.mono aq _ ap) (b:=[.map s.heap.length]) (by simp only[ba];exact⟨a4,trivial⟩)) (ba.mono aq _ ao);have aV:(invoke (.fn (.func g) G.toArray) (H.toArray++#[.func (.yield l) #[] #[]])).run P w1=.ok (.enter g (H++[(.func (.yield l) #[] #[]:b5)]++G).toArray) w1:=by
   have:=aP (H++[(.func (.yield l) #[] #[]:b5)]++G).toArray w1;simp only[invoke];rw[<-this];congr 2;simp
  have aZ:(resolve (Act.eval ⟨t,ds⟩) (rangeCall f l) 0).run P w1=.ok (⟨.fn (.func g) G.toArray,H.toArray++#[.func (.yield l) #[] #[]]⟩:ch) w1:=by
   have ah:(Act.eval ⟨t,ds⟩) f=fI t f:=by cases f<;>rfl
   have aM:(rangeCall f l).args.map (Act.eval ⟨t,ds⟩)=#[.func (.yield l) #[] #[]]:=by simp[Act.eval]
   simp only[resolve,aM];simp only[ah,aT,dl];rfl
  have aQ:=stepR_rangeFunc (P:=P) (b:=fr) (a:=⟨t,ds⟩) (k:=k) (cs:=cs) (w:=w) (g:=f) (ps:=F) (assign:=a) (body:=b) e1 aZ aV;obtain⟨e,ab,bb,⟨a9,V,S,ah,g1,g2,g3⟩,aO,bd,aX⟩:=aL w1 ad o z _ e2 aA az (fr.atR ⟨t,mk++ds⟩ (.inRangeFunc l::k)::cs);subst ah;unfold iG at ac
  split at ac
  case h_2=>exact ac.elim
  rename_i L am;obtain⟨aE,X⟩:=ac;obtain⟨rec,ar,a7,a8,be,bf,bg,bh,bi,au⟩:=Da g1.rel am .exhausted L.pending;have ay:aJ (s.heap++[.loop ⟨.ready,none,n,F.toList,a,b,M⟩]) (s.heap.length,0):=⟨.loop ⟨.ready,none,n,F.toList,a,b,M⟩,by simp,trivial⟩
  have aC:V.au s.heap.length=l:=((g1.step.loop _ ay ⟨_,am⟩).2).trans e3;rw[aC]at ar au;have aN:=run_endLoop (P:=P) ar (by rw[a7];exact aE);have O:da P (lone (bC fr t ds (.code (.rangeFunc f F a b)::k)) cs w) (lone (bC fr t (mk++ds) ((rec.pending.map Item.code).toList++k)) cs (ab.putObj l (.loop {rec with state:=.exhausted}))):=by
   refine(ea aQ).trans (eb aO ?_);refine(ea (cy aX)).trans ?_;rw[finish_atR_inRangeFunc];exact .one (stepR_endRangeFunc aN)
  have O:da P (lone (bC fr t ds (.code (.rangeFunc f F a b)::k)) cs w) (lone (bC fr t (mk++ds) ((L.pending.map Item.code).toList++k)) cs (ab.putObj l (.loop {rec with state:=.exhausted,pending:=L.pending}))):=by
   rw[<-a8];exact O
  have T:b6 P o ad w1 z (s.heap++[.loop ⟨.ready,none,n,F.toList,a,b,M⟩]) S _ V _:=g1.trans au;have aj:cQ P n o S V ⟨s.env,Y.set s.heap.length (.loop {L with st:=.exhausted})⟩ t (ab.putObj l (.loop {rec with state:=.exhausted,pending:=L.pending})):=by
   refine⟨T.rel,fun x=>?_,fun x=>?_,i.size⟩
   ·exact aD.mono T.bS (fun k hk=>T.ext.same k (.inr hk)) T.step _ _ (aG.mono aq _ (i.gN x)) (aD.mono (fun _ x=>x) ak ae _ _ (i.gN x) (i.env x))
   ·exact aG.mono T.fa _ (aG.mono aq _ (i.gN x))
  have af:dN N ai ad w β s.heap o S (ab.putObj l (.loop {rec with state:=.exhausted,pending:=L.pending})) V (Y.set s.heap.length (.loop {L with st:=.exhausted})):=e4.trans T.fj;have U:Marks fr ai w o S (ab.putObj l (.loop {rec with state:=.exhausted,pending:=L.pending})) ds (mk++ds):=e5.trans e4 (Marks.refl _ _ _ _ _ _) T.fj;unfold jy at X
  split at X
  ·rename_i R;rw[R]at O;exact⟨.normal,_,o,S,V,t,_,mk++ds,X,by rw[R];exact O,aj,af,U⟩
  ·rename_i id R;rw[R]at O;exact⟨.exit id,_,o,S,V,t,_,mk++ds,X,⟨k,rfl,by rw[R];exact O⟩,aj,af,U⟩
  ·rename_i R;rw[R]at O;exact⟨.ret,_,o,S,V,t,_,mk++ds,X,⟨k,by rw[R];exact O⟩,aj,af,U⟩
  ·exact X.elim
 | .goto _,_,_,_,_,_,_,_,_,_,_,h,_,_| .refuse _,_,_,_,_,_,_,_,_,_,_,h,_,_=>by simp[cd]at h
end
end Go.ah
