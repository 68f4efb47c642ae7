import Derived.Calls
import Derived.Laws.Sem
import Derived.IntWalk
import Derived.Laws.Cells
import Derived.Laws.CopyRow
import Derived.Laws.Entries
import Derived.RangeFuncRecord
import Derived.RangeFuncNested
/- Parts of a proof. -/
set_option linter.unusedSimpArgs false
set_option linter.unusedVariables false
set_option linter.unusedSectionVars false
open Array renaming getElem?_eq_some_iff->bl, mem_of_getElem?->bo, mem_toList_iff->bp, getElem?_push->bv, toList->bI
open BitVec renaming ofInt->bV
open Bool renaming false_eq_true->b0, and_eq_true->b1
open Go renaming Program->b2, Value->b3, TypeId->b4, World->b5, step_lone_go->cb, Deferred->cc, FuncId->ce, Operand->ck, Frame->cv, step_leave_returned->cx, execOp->cy, Machine->c6, Steps->c9, MapEntry->da, IntKind->db, Calls->dg
open Go.Deferred renaming ofValue->dk
open Go.Region renaming wanted->dl, schedule->dp, binds->dq
open Go.Steps renaming one->dz, trans->ea, refl->eb
open Go.Value renaming oneCell'->ec, cells->ed
open Go.World renaming size_alloc->ee, putObj_heap_other->ei, cell?->ej
open Go.stepG renaming exec->em, apply->en, oper->eo
open Iff renaming rfl->eq
open List renaming replicate->ew, getElem?_set_ne->e6, getElem?_eq_some_iff->e7, getElem?_set_self->e8, getElem?_append_left->e9, map_cons->fb, length_cons->fd, range'->fl, getElem?_append_right->fm, mem_or_eq_of_mem_set->fv, length_eq_zero_iff->fw, take_append_drop->gb, set_append_right->gc, mem_of_getElem?->ge, replicate_succ->gg, set_cons_zero->gi, length_append->gj, append_assoc->gm, cons_append->gt, mem_append->gx, drop_drop->gy, range->g0
open Nat renaming le_refl->g7, le_trans->g8, lt_of_lt_of_le->g9, ne_of_lt->ha
open Ne renaming symm->hb
namespace Go.ak
set_option linter.unusedSectionVars false
inductive PV where
 |undef
 |bool (b:Bool)
 |int (k:db) (n:Int)
 |str (s:List Nat)
 |dH
 |cm (t:PV)
 |aO
 |cN (full:Bool) (es:List PV)
 |seq (es:List PV)
 |fc
 |dT (es:List (PV×PV))
 |func (f:ce) (first iq:List PV)
 |gD
 |gd
 |st (u:b4) (fs:List PV)
 |aC (vs:List PV)
 deriving Inhabited
inductive AV where
 |p (v:PV)
 |ptr (b:Nat) (path:List (b4×Nat))
 |bZ (b az ai i:Nat) (path:List (b4×Nat))
 |sl (b az ai off len:Nat)
 |map (b:Nat)
 |func (f:ce) (first iq:List AV)
 |st (u:b4) (fs:List AV)
 |aC (vs:List AV)
 deriving Inhabited
inductive AK where|exact|grow|frozen|bytes
 deriving DecidableEq
def AK.gr:AK->Bool
 | .grow| .bytes=>true
 |_=>false
structure dP where
 st:LoopState
 pending:Option Code
 n:Nat
 params:List Tmp
 assign:Code
 body:Code
 env:List (Nat×AV)
inductive Obj where
 |hole
 |dead
 |box (fz:Bool) (t:AV)
 |arr (k:AK) (az ai:Nat) (es:List AV)
 |map (fz:Bool) (es:List (PV×PV))
 |du (s:List Nat) (pos:Nat)
 |loop (L:dP)
 deriving Inhabited
abbrev aj:=List Obj
abbrev Env:=List (Nat×AV)
structure St where
 env:Env
 heap:aj
def aQ(e:Env)(t:Nat):AV:=
 match e with
 |[]=>.p .undef
 |(k,v)::r=>if t=k then v else aQ r t
inductive ji where|bad|leaf|agg (u:b4)
 deriving DecidableEq
def aL:PV->ji
 | .undef| .aC _=>.bad
 | .st u _=>.agg u
 |_=>.leaf
def aa:AV->ji
 | .p v=>aL v
 | .aC _=>.bad
 | .st u _=>.agg u
 |_=>.leaf
def bW:PV->List PV
 | .st _ fs=>fs
 |_=>[]
section tables
variable(P:b2)
def dx(u:b4):Option (List Nat):=
 match(P.info? u).map (fun i:TypeInfo=>i.desc)with
 |some (.struct fs)=>
  let l:=fs.toList.map fun f=>P.cellsOf f.type
  if l.all (0<·)&&l.sum==P.cellsOf u&&(fs.toList.zipIdx.all fun(f,i)=>f.offset==(l.take i).sum)then some l else none
 |some (.array n e)=>if 0<P.cellsOf e&&n*P.cellsOf e==P.cellsOf u then some (ew n (P.cellsOf e))else none
 |_=>none
def kindOf(T:b4):ji:=
 match P.underlying T with
 |some (.struct _)|some (.array _ _)=>
  if(dx P (P.underlyingId T)).isSome&&P.cellsOf T==P.cellsOf (P.underlyingId T)then .agg (P.underlyingId T)else .bad
 |some _=>if P.cellsOf T==1 then .leaf else .bad
 |none=>.bad
def bD:ji->Nat
 | .bad=>0
 | .leaf=>1
 | .agg u=>P.cellsOf u
def jm(u:b4):List b4:=
 match(P.info? u).map (fun i:TypeInfo=>i.desc)with
 |some (.struct fs)=>fs.toList.map (·.type)
 |some (.array n e)=>ew n e
 |_=>[]
end tables
def ofConst:b3->PV
 | .bool b=>.bool b
 | .int k n=>.int k n
 | .string s=>.str (s.data.toList.map (·.toNat))
 | .pointer none=>.dH
 | .slice none 0 0=>.aO
 | .map none=>.fc
 | .nilFunc=>.gD
 | .nilIface=>.gd
 |_=>.undef
def oN(P:b2)(a:b4->List b3->Option PV):List b4->List Nat->List b3->Option (List PV)
 |[],[],[]=>some []
 |T::b,s::c,cs=>
  if(cs.take s).length=s then
   match a T (cs.take s),oN P a b c (cs.drop s)with
   |some v,some vs=>if bD P (aL v)=s then some (v::vs)else none
   |_,_=>none
  else none
 |_,_,_=>none
def sX(P:b2):Nat->b4->List b3->Option PV
 |0,_,_=>none
 |n+1,T,cs=>
  match kindOf P T with
  | .leaf=>match cs with
   |[c]=>match ofConst c with
    | .undef=>none
    |v=>some v
   |_=>none
  | .agg u=>match dx P u with
   |some l=>
    match oN P (sX P n) (jm P u) l cs with
    |some fs=>some (.st u fs)
    |none=>none
   |none=>none
  | .bad=>none
def zk:b3->ji->Bool
 | .agg _,.agg _=>true
 | .agg _,_=>false
 |_,.agg _=>false
 |_,_=>true
def ct(P:b2)(T:b4):Option PV:=
 match(P.info? T).bind (·.zero)with
 |some z=>if zk z (kindOf P T)then sX P 40 T z.cells.toList else none
 |none=>none
section relation
variable(P:b2)(w:b5)(ad:Nat->Prop)
def gK(an off:Nat)(cs:List b3):Prop:=∀i(h:i<cs.length),w.cell? ⟨an,off+i,none⟩=some cs[i]
mutual
def aY:PV->List b3->Prop
 | .undef,_| .aC _,_=>False
 | .bool b,cs=>cs=[.bool b]
 | .int k n,cs=>cs=[.int k n]
 | .str s,cs=>∃bs:ByteArray,cs=[.string bs]/\s=bs.data.toList.map (·.toNat)
 | .dH,cs=>cs=[.pointer none]
 | .cm t,cs=>∃an off ts,aY t ts/\ad an/\gK w an off ts/\cs=[.pointer (some ⟨an,off,none⟩)]
 | .aO,cs=>cs=[.slice none 0 0]
 | .cN full es,cs=>∃an off cap ai a,bk (ew es.length ai) es a/\(es≠[]->ad an)/\gK w an off a.flatten/\
  (full=true->cap=es.length)/\es.length<=cap/\∃sp,(sp=none\/cap=0)/\cs=[.slice (some ⟨an,off,sp⟩) es.length cap]
 | .seq es,cs=>(es=[]/\cs=[.slice none 0 0])\/∃an off cap ai a,bk (ew es.length ai) es a/\(es≠[]->ad an)/\gK w an off a.flatten/\
  es.length<=cap/\∃sp,(sp=none\/cap=0)/\cs=[.slice (some ⟨an,off,sp⟩) es.length cap]
 | .fc,cs=>cs=[.map none]
 | .dT es,cs=>∃r h j,ad r/\w.heap[r]?=some (.map h j)/\cH es h.toList/\cs=[.map (some r)]
 | .func f first iq,cs=>∃i g,bJ first i/\bJ iq g/\cs=[.func (.func f) i.toArray g.toArray]
 | .gD,cs=>cs=[.nilFunc]
 | .gd,cs=>cs=[.nilIface]
 | .st u fs,cs=>∃l a,dx P u=some l/\bk l fs a/\cs=a.flatten
def bk:List Nat->List PV->List (List b3)->Prop
 |[],[],a=>a=[]
 |n::p,v::vs,a=>∃c cs,a=c::cs/\aY v c/\c.length=n/\bk p vs cs
 |_,_,_=>False
def aD:PV->b3->Prop
 | .undef,_=>True
 | .aC vs,v=>∃d,bJ vs d/\v=.tuple d.toArray
 | .st u fs,v=>∃l a,dx P u=some l/\bk l fs a/\v=.agg a.flatten.toArray
 | .bool b,v=>v=.bool b
 | .int k n,v=>v=.int k n
 | .str s,v=>∃bs:ByteArray,v=.string bs/\s=bs.data.toList.map (·.toNat)
 | .dH,v=>v=.pointer none
 | .cm t,v=>∃an off ts,aY t ts/\ad an/\gK w an off ts/\v=.pointer (some ⟨an,off,none⟩)
 | .aO,v=>v=.slice none 0 0
 | .cN full es,v=>∃an off cap ai a,bk (ew es.length ai) es a/\(es≠[]->ad an)/\gK w an off a.flatten/\
  (full=true->cap=es.length)/\es.length<=cap/\∃sp,(sp=none\/cap=0)/\v=.slice (some ⟨an,off,sp⟩) es.length cap
 | .seq es,v=>(es=[]/\v= .slice none 0 0)\/∃an off cap ai a,bk (ew es.length ai) es a/\(es≠[]->ad an)/\gK w an off a.flatten/\
  es.length<=cap/\∃sp,(sp=none\/cap=0)/\v=.slice (some ⟨an,off,sp⟩) es.length cap
 | .fc,v=>v=.map none
 | .dT es,v=>∃r h j,ad r/\w.heap[r]?=some (.map h j)/\cH es h.toList/\v=.map (some r)
 | .func f first iq,v=>∃i g,bJ first i/\bJ iq g/\v=.func (.func f) i.toArray g.toArray
 | .gD,v=>v=.nilFunc
 | .gd,v=>v=.nilIface
def bJ:List PV->List b3->Prop
 |[],d=>d=[]
 |v::vs,d=>∃y o,d=y::o/\aD v y/\bJ vs o
def cH:List (PV×PV)->List da->Prop
 |[],es=>es=[]
 |(k,v)::r,es=>∃e m,es=e::m/\aD k e.key/\aD v e.val/\cH r m
end
end relation
class Gl where
 g:Nat->PV
 u8:b4
 raw:Nat->Option (Array b3)
 bx:b4->Option b4
def jf[Gl](T:b4)(s:ji):Bool:=match s with
 | .agg u=>match Gl.bx u with
  |some a=>Nat.beq T a
  |none=>true
 |_=>true
structure mB[Gl](P:b2)(w:b5)(ad:Nat->Prop):Prop where
 val:∀g,aD P w ad (Gl.g g) (.pointer (some ⟨g,0,none⟩))
 raw:∀g cs,Gl.raw g=some cs->ad g/\∃T,w.heap[g]?=some (.cells cs T (0,0))
end Go.ak
namespace Go.ak
variable[Gl]
structure Bd where
 an:Nat->Nat
 cap:Nat->Nat
def fV(P:b2):List (b4×Nat)->Option Nat
 |[]=>some 0
 |(u,i)::r=>
  match dx P u,fV P r with
  |some l,some o=>if i<l.length then some ((l.take i).sum+o)else none
  |_,_=>none
section
variable(P:b2)(w:b5)(ad:Nat->Prop)(β:Bd)(H:aj)
def mw(b:Nat):Prop:=∃fz t,H[b]?=some (.box fz t)
def fg(b az ai:Nat)(k:AK)(a:List AV):Prop:=H[b]?=some (.arr k az ai a)
def dd(k:AK)(a:List AV):Prop:=k.gr=true/\a=[]
def mv(b:Nat):Prop:=(∃fz a,H[b]?=some (.map fz a))
def mA(b:Nat):Prop:=(∃s pos,H[b]?=some (.du s pos))
def gM(b:Nat):Prop:=(∃L,H[b]?=some (.loop L))
def bR:AV->b3->Prop
 | .ptr b path,v=>∃an off o,v=.pointer (some ⟨an,off,none⟩)/\fV P path=some o/\(mw H b\/mA H b->an=β.an b/\off=o)
 | .bZ b az ai i path,v=>∃an off o,v=.pointer (some ⟨an,off,none⟩)/\fV P path=some o/\∀k a,fg H b az ai k a->¬dd k a->an=β.an b/\off=i*ai+o
 | .sl b az ai off len,v=>∀k a,fg H b az ai k a->
  off+len<=a.length/\(dd k a->v=.slice none 0 0)/\(¬dd k a->v=.slice (some ⟨β.an b,off*ai,none⟩) len (β.cap b-off))
 | .map b,v=>(mv H b->v=.map (some (β.an b)))/\(gM H b->v=.func (.yield (β.an b)) #[] #[])
 |_,_=>False
def bO(v:AV)(x:b3):Prop:=x.oneCell'=true/\bR P β H v x
mutual
def br:AV->List b3->Prop
 | .p t,cs=>aY P w ad t cs
 | .st u fs,cs=>∃l a,dx P u=some l/\bM l fs a/\cs=a.flatten
 | .func f first iq,cs=>∃e d,bF first e/\bF iq d/\cs=[.func (.func f) e.toArray d.toArray]
 | .aC _,_=>False
 | .ptr b path,cs=>∃v,cs=[v]/\bO P β H (.ptr b path) v
 | .bZ b az ai i path,cs=>∃v,cs=[v]/\bO P β H (.bZ b az ai i path) v
 | .sl b az ai off len,cs=>∃v,cs=[v]/\bO P β H (.sl b az ai off len) v
 | .map b,cs=>∃v,cs=[v]/\bO P β H (.map b) v
def bM:List Nat->List AV->List (List b3)->Prop
 |[],[],a=>a=[]
 |n::h,v::vs,a=>∃c cs,a=c::cs/\br v c/\c.length=n/\bM h vs cs
 |_,_,_=>False
def aA:AV->b3->Prop
 | .p t,v=>aD P w ad t v
 | .st u fs,v=>∃l a,dx P u=some l/\bM l fs a/\v=.agg a.flatten.toArray
 | .func f first iq,v=>∃e d,bF first e/\bF iq d/\v=.func (.func f) e.toArray d.toArray
 | .aC vs,v=>∃xs,bF vs xs/\v=.tuple xs.toArray
 | .ptr b path,v=>bO P β H (.ptr b path) v
 | .bZ b az ai i path,v=>bO P β H (.bZ b az ai i path) v
 | .sl b az ai off len,v=>bO P β H (.sl b az ai off len) v
 | .map b,v=>bO P β H (.map b) v
def bF:List AV->List b3->Prop
 |[],xs=>xs=[]
 |v::vs,xs=>∃y g,xs=y::g/\aA v y/\bF vs g
end
mutual
def aE(n:Nat×Nat->Prop):AV->Prop
 | .p _=>True
 | .ptr b _| .map b=>n (b,0)
 | .bZ b az _ _ _| .sl b az _ _ _=>n (b,az)
 | .func _ first iq=>aX n first/\aX n iq
 | .st _ fs=>aX n fs
 | .aC vs=>aX n vs
def aX(n:Nat×Nat->Prop):List AV->Prop
 |[]=>True
 |v::vs=>aE n v/\aX n vs
end
def Obj.has:Obj->Nat->Prop
 | .hole,_=>False
 | .arr _ az _ _,v=>v<=az
 |_,_=>True
def aJ(H:aj)(x:Nat×Nat):Prop:=∃o,H[x.1]?=some o/\o.has x.2
def AV.rE:AV->Prop
 | .p _=>True
 |_=>False
def Obj.refs(n:Nat×Nat->Prop):Obj->Prop
 | .box _ t=>aE n t
 | .arr _ _ _ es=>aX n es
 | .loop L=>∀x,aE n (aQ L.env x)
 |_=>True
def Obj.live:Obj->Prop
 | .hole| .dead=>False
 | .arr k _ _ es=>¬dd k es
 |_=>True
variable(ah:Nat->Prop)
def cG(fz:Bool)(b:Nat):Prop:=if fz then ad (β.an b)else¬ad (β.an b)/\¬ah (β.an b)
def ff(b:Nat):Obj->Prop
 | .hole| .dead=>True
 | .box fz t=>∃cs T,w.heap[β.an b]?=some (.cells cs T (0,0))/\br P w ad β H t cs.toList/\cG ad β ah fz b/\(fz=true->t.rE)/\jf T (aa t)=true
 | .arr k _ver ai es=>dd k es\/
  ∃cs T a f,w.heap[β.an b]?=some (.cells cs T (0,0))/\bM P w ad β H (ew es.length ai) es a/\cs.toList=a.flatten++f/\
   cs.size=β.cap b*ai/\es.length<=β.cap b/\(k=.exact->β.cap b=es.length)/\cG ad β ah (k== .frozen) b/\(k=.frozen->∀e∈es,e.rE)/\(k=.bytes->T=Gl.u8)
 | .map fz es=>∃c d,w.heap[β.an b]?=some (.map c d)/\cH P w ad es c.toList/\cG ad β ah fz b
 | .du s pos=>∃bs:ByteArray,w.heap[β.an b]?=some (.stringIter bs pos)/\s=bs.data.toList.map (·.toNat)/\cG ad β ah false b
 | .loop L=>∃tmps defers fn,w.heap[β.an b]?=some (.loop {state:=L.st,pending:=L.pending,fn,tmps,params:=L.params.toArray,assign:=L.assign,body:=L.body,defers})/\tmps.size=L.n/\
  (∀x,aA P w ad β H (aQ L.env x) (tmps.getD x undef))/\cG ad β ah false b
structure bU:Prop where
 cJ:∀b o,H[b]?=some o->ff P w ad β H ah b o
 inj:∀b b' o o',H[b]?=some o->H[b']?=some o'->o.live->o'.live->¬ad (β.an b)->β.an b=β.an b'->b=b'
 refs:∀(b:Nat)(o:Obj),H[b]?=some o->o.refs (aJ H)
 bQ:∀k,ad k->k<w.heap.size
 dU:∀k,ah k->k<w.heap.size
 ir:mB P w ad
end
structure Ext(ah ad:Nat->Prop)(w w':b5):Prop where
 size:w.heap.size<=w'.heap.size
 same:∀k,ah k\/ad k->w'.heap[k]?=w.heap[k]?
 io:w'.os=w.os/\w'.output=w.output
structure cw(β:Bd)(H:aj)(aK:Bd)(H':aj):Prop where
 box:∀b,aJ H (b,0)->mw H' b->mw H b/\aK.an b=β.an b
 it:∀b,aJ H (b,0)->mA H' b->mA H b/\aK.an b=β.an b
 map:∀b,aJ H (b,0)->mv H' b->mv H b/\aK.an b=β.an b
 arr:∀b az ai k es,aJ H (b,az)->fg H' b az ai k es->∃k0 gA,fg H b az ai k0 gA/\gA.length<=es.length/\(dd k es↔dd k0 gA)/\(¬dd k es->aK.an b=β.an b/\aK.cap b=β.cap b)
 loop:∀b,aJ H (b,0)->gM H' b->gM H b/\aK.an b=β.an b
theorem cw.refl(β:Bd)(H:aj):cw β H β H:=
 ⟨fun _ _ h=>⟨h,rfl⟩,fun _ _ h=>⟨h,rfl⟩,fun _ _ h=>⟨h,rfl⟩,fun _ _ _ k a _ h=>⟨k,a,h,g7 _,eq,fun _=>⟨rfl,rfl⟩⟩,fun _ _ h=>⟨h,rfl⟩⟩
theorem Ext.refl(ah ad:Nat->Prop)(w:b5):Ext ah ad w w:=⟨g7 _,fun _ _=>rfl,rfl,rfl⟩
section mono
variable{P:b2}{w w':b5}{ad aF:Nat->Prop}
theorem Wj{an off:Nat}(h:w'.heap[an]?=w.heap[an]?):w'.cell? ⟨an,off,none⟩=w.cell? ⟨an,off,none⟩:=by
 simp[ej,h]
theorem gK.same{an off:Nat}{cs:List b3}(h:w'.heap[an]?=w.heap[an]?)(hc:gK w an off cs):gK w' an off cs:=
 fun i hi=>(Wj h).trans (hc i hi)
theorem wW{n:List Nat}{a:List (List b3)}(h:bk P w ad n [] a):a=[]:=by
 cases n<;>simp[bk]at h;exact h
variable(hI:∀k,ad k->aF k)(hs:∀k,ad k->w'.heap[k]?=w.heap[k]?)
include hI hs
mutual
theorem aY.mono:∀(v:PV)(cs:List b3),aY P w ad v cs->aY P w' aF v cs
 | .undef,_,h| .aC _,_,h=>by simp[aY]at h
 | .bool _,_,h| .int _ _,_,h| .str _,_,h| .dH,_,h| .aO,_,h| .fc,_,h| .gD,_,h| .gd,_,h=>by simpa[aY]using h
 | .cm t,cs,h=>by
  simp only[aY]at h⊢;obtain⟨an,off,ts,a,b,d,j⟩:=h;exact⟨an,off,ts,aY.mono t ts a,hI _ b,d.same (hs _ b),j⟩
 | .cN full o,cs,h=>by
  simp only[aY]at h⊢;obtain⟨an,off,cap,ai,g,a,b,d,j⟩:=h;refine⟨an,off,cap,ai,g,bk.mono _ o g a,fun m=>hI _ (b m),?_,j⟩
  by_cases m:o=[]
  ·subst m;have:=wW a;subst this;intro i hi;simp at hi
  ·exact d.same (hs _ (b m))
 | .seq o,cs,h=>by
  simp only[aY]at h⊢;rcases h with h|⟨an,off,cap,ai,g,a,b,d,j⟩
  ·exact .inl h
  refine .inr ⟨an,off,cap,ai,g,bk.mono _ o g a,fun m=>hI _ (b m),?_,j⟩
  by_cases m:o=[]
  ·subst m;have:=wW a;subst this;intro i hi;simp at hi
  ·exact d.same (hs _ (b m))
 | .dT o,cs,h=>by
  simp only[aY]at h⊢;obtain⟨r,p,clock,a,b,d,j⟩:=h;exact⟨r,p,clock,hI _ a,(hs _ a).trans b,cH.mono o _ d,j⟩
 | .func f first iq,cs,h=>by
  simp only[aY]at h⊢;obtain⟨z,s,a,b,d⟩:=h;exact⟨z,s,bJ.mono first z a,bJ.mono iq s b,d⟩
 | .st u fs,cs,h=>by
  simp only[aY]at h⊢;obtain⟨l,g,a,b,d⟩:=h;exact⟨l,g,a,bk.mono l fs g b,d⟩
theorem bk.mono:∀(l:List Nat)(vs:List PV)(g:List (List b3)),bk P w ad l vs g->bk P w' aF l vs g
 |[],[],_,h=>by simpa[bk]using h
 |[],_::_,_,h=>by simp[bk]at h
 |_::_,[],_,h=>by simp[bk]at h
 |n::B,v::vs,g,h=>by
  simp only[bk]at h⊢;obtain⟨c,cs,a,b,d,j⟩:=h;exact⟨c,cs,a,aY.mono v c b,d,bk.mono B vs cs j⟩
theorem aD.mono:∀(v:PV)(x:b3),aD P w ad v x->aD P w' aF v x
 | .undef,_,h=>by simp[aD]
 | .aC vs,x,h=>by
  simp only[aD]at h⊢;obtain⟨q,a,b⟩:=h;exact⟨q,bJ.mono vs q a,b⟩
 | .bool _,_,h| .int _ _,_,h| .str _,_,h| .dH,_,h| .aO,_,h| .fc,_,h| .gD,_,h| .gd,_,h=>by simpa[aD]using h
 | .cm t,cs,h=>by
  simp only[aD]at h⊢;obtain⟨an,off,ts,a,b,d,j⟩:=h;exact⟨an,off,ts,aY.mono t ts a,hI _ b,d.same (hs _ b),j⟩
 | .cN full o,cs,h=>by
  simp only[aD]at h⊢;obtain⟨an,off,cap,ai,g,a,b,d,j⟩:=h;refine⟨an,off,cap,ai,g,bk.mono _ o g a,fun m=>hI _ (b m),?_,j⟩
  by_cases m:o=[]
  ·subst m;have:=wW a;subst this;intro i hi;simp at hi
  ·exact d.same (hs _ (b m))
 | .seq o,cs,h=>by
  simp only[aD]at h⊢;rcases h with h|⟨an,off,cap,ai,g,a,b,d,j⟩
  ·exact .inl h
  refine .inr ⟨an,off,cap,ai,g,bk.mono _ o g a,fun m=>hI _ (b m),?_,j⟩
  by_cases m:o=[]
  ·subst m;have:=wW a;subst this;intro i hi;simp at hi
  ·exact d.same (hs _ (b m))
 | .dT o,cs,h=>by
  simp only[aD]at h⊢;obtain⟨r,p,clock,a,b,d,j⟩:=h;exact⟨r,p,clock,hI _ a,(hs _ a).trans b,cH.mono o _ d,j⟩
 | .func f first iq,cs,h=>by
  simp only[aD]at h⊢;obtain⟨z,s,a,b,d⟩:=h;exact⟨z,s,bJ.mono first z a,bJ.mono iq s b,d⟩
 | .st u fs,cs,h=>by
  simp only[aD]at h⊢;obtain⟨l,g,a,b,d⟩:=h;exact⟨l,g,a,bk.mono l fs g b,d⟩
theorem bJ.mono:∀(vs:List PV)(q:List b3),bJ P w ad vs q->bJ P w' aF vs q
 |[],_,h=>by simpa[bJ]using h
 |v::vs,q,h=>by
  simp only[bJ]at h⊢;obtain⟨y,A,a,b,d⟩:=h;exact⟨y,A,a,aD.mono v y b,bJ.mono vs A d⟩
theorem cH.mono:∀(o:List (PV×PV))(p:List da),cH P w ad o p->cH P w' aF o p
 |[],_,h=>by simpa[cH]using h
 |(k,v)::r,p,h=>by
  simp only[cH]at h⊢;obtain⟨e,rest,a,b,d,j⟩:=h;exact⟨e,rest,a,aD.mono k _ b,aD.mono v _ d,cH.mono r rest j⟩
end
theorem mB.mono(h:mB P w ad):mB P w' aF:=⟨fun g=>aD.mono hI hs _ _ (h.val g),fun g cs c=>by
 obtain⟨a,T,b⟩:=h.raw g cs c;exact⟨hI _ a,T,(hs _ a).trans b⟩⟩
variable{β aK:Bd}{H H':aj}(aN:cw β H aK H')
include aN
omit hI hs in
theorem bR.mono:∀(v:AV)(x:b3),aE (aJ H) v->bR P β H v x->bR P aK H' v x
 | .ptr b path,x,d,h=>by
  simp only[bR,aE]at*;obtain⟨an,off,o,c,f,g⟩:=h;refine⟨an,off,o,c,f,fun a=>?_⟩;rcases a with a|a
  ·obtain⟨k1,k2⟩:=aN.box b d a;rw[k2];exact g (.inl k1)
  ·obtain⟨k1,k2⟩:=aN.it b d a;rw[k2];exact g (.inr k1)
 | .bZ b az ai i path,x,d,h=>by
  simp only[bR,aE]at*;obtain⟨an,off,o,g1,g2,g3⟩:=h;refine⟨an,off,o,g1,g2,fun k l a e=>?_⟩;obtain⟨k0,gA,c,f,g,j⟩:=aN.arr b az ai k l d a;rw[(j e).1];exact g3 k0 gA c (fun hh=>e (g.2 hh))
 | .sl b az ai off len,x,d,h=>by
  simp only[bR,aE]at*;intro k l a;obtain⟨k0,gA,c,f,g,j⟩:=aN.arr b az ai k l d a;obtain⟨q,m,n⟩:=h k0 gA c;refine⟨by omega,fun e=>m (g.1 e),fun e=>?_⟩;rw[(j e).1,(j e).2];exact n (fun hh=>e (g.2 hh))
 | .map b,x,d,h=>by
  simp only[bR,aE]at*;refine⟨fun a=>?_,fun a=>?_⟩
  ·obtain⟨c,f⟩:=aN.map b d a;rw[f];exact h.1 c
  ·obtain⟨c,f⟩:=aN.loop b d a;rw[f];exact h.2 c
 | .p _,_,_,h| .st _ _,_,_,h| .func _ _ _,_,_,h| .aC _,_,_,h=>by simp[bR]at h
omit hI hs in
theorem bO.mono(v:AV)(x:b3)(a:aE (aJ H) v)(h:bO P β H v x):bO P aK H' v x:=⟨h.1,bR.mono aN v x a h.2⟩
mutual
theorem br.mono:∀(v:AV)(cs:List b3),aE (aJ H) v->br P w ad β H v cs->br P w' aF aK H' v cs
 | .p t,cs,_,h=>by simp only[br]at h⊢;exact aY.mono hI hs t cs h
 | .st u fs,cs,a,h=>by
  simp only[br,aE]at*;obtain⟨l,j,d,e,g⟩:=h;exact⟨l,j,d,bM.mono l fs j a e,g⟩
 | .func f first iq,cs,a,h=>by
  simp only[br,aE]at*;obtain⟨m,k,d,e,g⟩:=h;exact⟨m,k,bF.mono first m a.1 d,bF.mono iq k a.2 e,g⟩
 | .aC _,_,_,h=>by simp[br]at h
 | .ptr b path,cs,a,h=>by
  simp only[br]at*;obtain⟨v,d,e⟩:=h;exact⟨v,d,bO.mono aN _ _ a e⟩
 | .bZ b az ai i path,cs,a,h=>by
  simp only[br]at*;obtain⟨v,d,e⟩:=h;exact⟨v,d,bO.mono aN _ _ a e⟩
 | .sl b az ai off len,cs,a,h=>by
  simp only[br]at*;obtain⟨v,d,e⟩:=h;exact⟨v,d,bO.mono aN _ _ a e⟩
 | .map b,cs,a,h=>by
  simp only[br]at*;obtain⟨v,d,e⟩:=h;exact⟨v,d,bO.mono aN _ _ a e⟩
theorem bM.mono:∀(l:List Nat)(vs:List AV)(j:List (List b3)),aX (aJ H) vs->bM P w ad β H l vs j->bM P w' aF aK H' l vs j
 |[],[],_,_,h=>by simpa[bM]using h
 |[],_::_,_,_,h=>by simp[bM]at h
 |_::_,[],_,_,h=>by simp[bM]at h
 |n::r,v::vs,j,a,h=>by
  simp only[bM,aX]at*;obtain⟨c,cs,d,e,g,q⟩:=h;exact⟨c,cs,d,br.mono v c a.1 e,g,bM.mono r vs cs a.2 q⟩
theorem aA.mono:∀(v:AV)(x:b3),aE (aJ H) v->aA P w ad β H v x->aA P w' aF aK H' v x
 | .p t,cs,_,h=>by simp only[aA]at h⊢;exact aD.mono hI hs t cs h
 | .st u fs,cs,a,h=>by
  simp only[aA,aE]at*;obtain⟨l,j,d,e,g⟩:=h;exact⟨l,j,d,bM.mono l fs j a e,g⟩
 | .func f first iq,cs,a,h=>by
  simp only[aA,aE]at*;obtain⟨m,k,d,e,g⟩:=h;exact⟨m,k,bF.mono first m a.1 d,bF.mono iq k a.2 e,g⟩
 | .aC vs,cs,a,h=>by
  simp only[aA,aE]at*;obtain⟨xs,d,e⟩:=h;exact⟨xs,bF.mono vs xs a d,e⟩
 | .ptr b path,cs,a,h=>by simp only[aA]at*;exact bO.mono aN _ _ a h
 | .bZ b az ai i path,cs,a,h=>by simp only[aA]at*;exact bO.mono aN _ _ a h
 | .sl b az ai off len,cs,a,h=>by simp only[aA]at*;exact bO.mono aN _ _ a h
 | .map b,cs,a,h=>by simp only[aA]at*;exact bO.mono aN _ _ a h
theorem bF.mono:∀(vs:List AV)(xs:List b3),aX (aJ H) vs->bF P w ad β H vs xs->bF P w' aF aK H' vs xs
 |[],_,_,h=>by simpa[bF]using h
 |v::vs,xs,a,h=>by
  simp only[bF,aX]at*;obtain⟨y,o,d,e,g⟩:=h;exact⟨y,o,d,aA.mono v y a.1 e,bF.mono vs o a.2 g⟩
end
end mono
def eE:List AV->Option (List PV)
 |[]=>some []
 | .p v::r=>match eE r with
  |some l=>some (v::l)
  |none=>none
 |_::_=>none
def gY(u:b4)(fs:List AV):AV:=
 match eE fs with
 |some l=>.p (.st u l)
 |none=>.st u fs
def kD:PV->List (b4×Nat)->Option PV
 |t,[]=>some t
 |t,(u,i)::r=>if aL t=.agg u then(match(bW t)[i]? with
  |some f=>kD f r
  |none=>none)else none
def eK:AV->List (b4×Nat)->Option AV
 |t,[]=>some t
 | .p t,(u,i)::r=>match kD t ((u,i)::r)with
  |some s=>some (.p s)
  |none=>none
 | .st u' fs,(u,i)::r=>if u'=u then(match fs[i]? with
  |some f=>eK f r
  |none=>none)else none
 |_,_=>none
def fL(t:AV)(b:List (b4×Nat))(x:AV):Option AV:=
 match b with
 |[]=>some x
 |(u,i)::r=>
  match t with
  | .p t=>if aL t=.agg u then(match(bW t)[i]? with
   |some f=>(match fL (.p f) r x with
    |some a=>some (gY u (((bW t).map .p).set i a))
    |none=>none)
   |none=>none)else none
  | .st u' fs=>if u'=u then(match fs[i]? with
   |some f=>(match fL f r x with
    |some a=>some (gY u (fs.set i a))
    |none=>none)
   |none=>none)else none
  |_=>none
section
variable{P:b2}{w:b5}{ad:Nat->Prop}{β:Bd}{H:aj}
theorem uh:∀{l:List Nat}{vs:List PV}{a:List (List b3)},bk P w ad l vs a->a.map (·.length)=l/\vs.length=l.length/\a.length=l.length
 |[],[],_,h=>by simp[bk]at h;subst h;simp
 |[],_::_,_,h=>by simp[bk]at h
 |_::_,[],_,h=>by simp[bk]at h
 |n::f,v::vs,a,h=>by
  simp only[bk]at h;obtain⟨c,cs,rfl,e,b,d⟩:=h;have:=uh d;simp[b,this]
theorem xc:∀{l:List Nat}{vs:List AV}{a:List (List b3)},bM P w ad β H l vs a->a.map (·.length)=l/\vs.length=l.length/\a.length=l.length
 |[],[],_,h=>by simp[bM]at h;subst h;simp
 |[],_::_,_,h=>by simp[bM]at h
 |_::_,[],_,h=>by simp[bM]at h
 |n::f,v::vs,a,h=>by
  simp only[bM]at h;obtain⟨c,cs,rfl,e,b,d⟩:=h;have:=xc d;simp[b,this]
theorem KG{u:b4}{l:List Nat}(h:dx P u=some l):l.sum=P.cellsOf u/\∀n∈l,0<n:=by
 unfold dx at h
 split at h
 ·dsimp only at h
  split at h
  ·rename_i hc;simp at hc;obtain⟨⟨b,c⟩,d⟩:=hc;simp at h;subst h;refine⟨c,?_⟩;intro n a;simp at a;obtain⟨f,hf,rfl⟩:=a;obtain⟨i,hi,rfl⟩:=Array.mem_iff_getElem.1 hf;exact b i hi
  ·simp at h
 ·split at h
  ·rename_i hc;simp at hc;simp at h;subst h;refine⟨by simp[List.sum_replicate_nat,hc.2],?_⟩;intro n a;have:=List.eq_of_mem_replicate a;omega
  ·simp at h
 ·simp at h
theorem oG:∀{v:PV}{cs:List b3},aY P w ad v cs->cs.length=bD P (aL v)/\aL v≠.bad:=by
 intro v cs h;cases v<;>simp only[aY]at h
 case st u fs=>
  obtain⟨l,c,a,b,rfl⟩:=h;have:=uh b;simp[aL,bD,this.1,(KG a).1]
 case str=>obtain⟨_,h,_⟩:=h;subst h;simp[aL,bD]
 case seq=>
  rcases h with⟨_,rfl⟩|⟨_,_,_,_,_,_,_,_,_,_,_,rfl⟩<;>simp[aL,bD]
 all_goals first
  |(subst h;simp[aL,bD])
  |(obtain⟨_,_,_,_,_,_,rfl⟩:=h;simp[aL,bD])
  |(obtain⟨_,_,_,_,_,rfl⟩:=h;simp[aL,bD])
  |(obtain⟨_,_,_,_,_,_,_,_,_,_,_,_,rfl⟩:=h;simp[aL,bD])
  |(obtain⟨_,_,_,_,_,_,_,rfl⟩:=h;simp[aL,bD])
  |(obtain⟨_,_,_,_,rfl⟩:=h;simp[aL,bD])
  |(obtain⟨_,h,_⟩:=h;subst h;simp[aL,bD])
  |exact h.elim
theorem nt{v:AV}{cs:List b3}(h:br P w ad β H v cs):cs.length=bD P (aa v)/\aa v≠.bad:=by
 cases v<;>simp only[br]at h
 case p t=>exact oG h
 case st u fs=>
  obtain⟨l,c,a,b,rfl⟩:=h;have:=xc b;simp[aa,bD,this.1,(KG a).1]
 all_goals first
  |(obtain⟨_,rfl,_⟩:=h;simp[aa,bD])
  |(obtain⟨_,_,_,_,rfl⟩:=h;simp[aa,bD])
theorem sF{v:PV}(hs:aL v=.leaf)(cs:List b3):aY P w ad v cs↔∃c,cs=[c]/\aD P w ad v c:=by
 cases v<;>simp[aL]at hs<;>simp only[aY,aD]
 case bool|int|dH|aO|fc|gD|gd=>exact⟨fun h=>⟨_,h,rfl⟩,fun⟨c,g,i⟩=>by rw[g,i]⟩
 case str s=>exact⟨fun⟨bs,g,i⟩=>⟨_,g,bs,rfl,i⟩,fun⟨c,g,bs,i,j⟩=>⟨bs,by rw[g,i],j⟩⟩
 case cm t=>exact⟨fun⟨a,b,c,g,i,j,k⟩=>⟨_,k,a,b,c,g,i,j,rfl⟩,fun⟨v,g,a,b,c,i,j,k,l⟩=>⟨a,b,c,i,j,k,by rw[g,l]⟩⟩
 case cN f es=>exact⟨fun⟨a,b,c,d,e,g,i,j,k,l,sp,n,m⟩=>⟨_,m,a,b,c,d,e,g,i,j,k,l,sp,n,rfl⟩,fun⟨v,h,a,b,c,d,e,g,i,j,k,l,sp,n,m⟩=>⟨a,b,c,d,e,g,i,j,k,l,sp,n,by rw[h,m]⟩⟩
 case seq es=>
  constructor
  ·rintro(⟨g,i⟩|⟨a,b,c,d,e,g,i,j,l,sp,n,m⟩)
   ·exact⟨_,i,.inl ⟨g,rfl⟩⟩
   ·exact⟨_,m,.inr ⟨a,b,c,d,e,g,i,j,l,sp,n,rfl⟩⟩
  ·rintro⟨v,h,(⟨g,i⟩|⟨a,b,c,d,e,g,i,j,l,sp,n,m⟩)⟩
   ·exact .inl ⟨g,by rw[h,i]⟩
   ·exact .inr ⟨a,b,c,d,e,g,i,j,l,sp,n,by rw[h,m]⟩
 case dT es=>exact⟨fun⟨a,b,c,g,i,j,k⟩=>⟨_,k,a,b,c,g,i,j,rfl⟩,fun⟨v,h,a,b,c,g,i,j,k⟩=>⟨a,b,c,g,i,j,by rw[h,k]⟩⟩
 case func f x y=>exact⟨fun⟨a,b,g,i,j⟩=>⟨_,j,a,b,g,i,rfl⟩,fun⟨v,h,a,b,g,i,j⟩=>⟨a,b,g,i,by rw[h,j]⟩⟩
theorem u6{v:PV}{u:b4}(hs:aL v=.agg u)(cs:List b3):aY P w ad v cs↔aD P w ad v (.agg cs.toArray):=by
 cases v<;>simp[aL]at hs;subst hs;simp only[aY,aD];constructor
 ·rintro⟨l,a,b,c,rfl⟩;exact⟨l,a,b,c,rfl⟩
 ·rintro⟨l,a,b,c,d⟩;refine⟨l,a,b,c,?_⟩;injection d with d;simpa using congrArg bI d
theorem B4{v:AV}(hs:aa v=.leaf)(cs:List b3):br P w ad β H v cs↔∃c,cs=[c]/\aA P w ad β H v c:=by
 cases v<;>simp[aa]at hs<;>simp only[br,aA]
 case p t=>exact sF hs cs
 case func f x y=>exact⟨fun⟨a,b,d,e,g⟩=>⟨_,g,a,b,d,e,rfl⟩,fun⟨v,h,a,b,d,e,g⟩=>⟨a,b,d,e,by rw[h,g]⟩⟩
theorem LH{v:AV}{u:b4}(hs:aa v=.agg u)(cs:List b3):br P w ad β H v cs↔aA P w ad β H v (.agg cs.toArray):=by
 cases v<;>simp[aa]at hs
 case p t=>simp only[br,aA];exact u6 hs cs
 case st u' fs=>
  subst hs;simp only[br,aA];constructor
  ·rintro⟨l,a,b,c,rfl⟩;exact⟨l,a,b,c,rfl⟩
  ·rintro⟨l,a,b,c,d⟩;refine⟨l,a,b,c,?_⟩;injection d with d;simpa using congrArg bI d
theorem xD{v:AV}{x:b3}(h:aA P w ad β H v x)(hs:aa v≠.bad):br P w ad β H v x.cells.toList:=by
 cases a:aa v with
 |bad=>exact absurd a hs
 |leaf=>
  rw[B4 a];refine⟨x,?_,h⟩;cases v<;>simp[aa]at a<;>simp only[aA]at h
  case p t=>
   cases t<;>simp[aL]at a<;>simp only[aD]at h
   case bool|int|dH|aO|fc|gD|gd=>subst h;rfl
   case str=>obtain⟨_,rfl,_⟩:=h;rfl
   case cm=>obtain⟨_,_,_,_,_,_,rfl⟩:=h;rfl
   case cN=>obtain⟨_,_,_,_,_,_,_,_,_,_,_,_,rfl⟩:=h;rfl
   case seq=>rcases h with⟨_,rfl⟩|⟨_,_,_,_,_,_,_,_,_,_,_,rfl⟩<;>rfl
   case dT=>obtain⟨_,_,_,_,_,_,rfl⟩:=h;rfl
   case func=>obtain⟨_,_,_,_,rfl⟩:=h;rfl
  case func=>obtain⟨_,_,_,_,rfl⟩:=h;rfl
  all_goals (have b:=h.1;cases x<;>first|rfl|(simp[ec]at b))
 |agg u=>
  cases v<;>simp[aa]at a
  case p t=>
   cases t<;>simp[aL]at a;simp only[aA,aD]at h;obtain⟨l,c,b,d,rfl⟩:=h;simp only[br,aY];exact⟨l,c,b,d,by simp[ed]⟩
  case st u' fs=>
   simp only[aA]at h;obtain⟨l,c,b,d,rfl⟩:=h;simp only[br];exact⟨l,c,b,d,by simp[ed]⟩
end
mutual
def Wk:PV->PV->Prop
 | .undef,v=>v=.undef
 | .bool b,v=>v=.bool b
 | .int k n,v=>v=.int k n
 | .str s,v=>v=.str s
 | .dH,v=>v=.dH
 | .fc,v=>v=.fc
 | .gD,v=>v=.gD
 | .gd,v=>v=.gd
 | .aO,v=>v=.aO\/v=.seq []
 | .cm t,v=>match v with
  | .cm h=>Wk t h
  |_=>False
 | .cN f es,v=>match v with
  | .cN g fs=>(g=true->f=true)/\bC es fs
  | .seq fs=>bC es fs
  |_=>False
 | .seq es,v=>match v with
  | .seq fs=>bC es fs
  |_=>False
 | .dT es,v=>match v with
  | .dT fs=>kH es fs
  |_=>False
 | .func f a b,v=>match v with
  | .func g c d=>f=g/\bC a c/\bC b d
  |_=>False
 | .st u es,v=>match v with
  | .st u' fs=>u=u'/\bC es fs
  |_=>False
 | .aC es,v=>match v with
  | .aC fs=>bC es fs
  |_=>False
def bC:List PV->List PV->Prop
 |[],fs=>fs=[]
 |v::vs,fs=>match fs with
  |f::fs=>Wk v f/\bC vs fs
  |[]=>False
def kH:List (PV×PV)->List (PV×PV)->Prop
 |[],fs=>fs=[]
 |(k,v)::vs,fs=>match fs with
  |(e,f)::fs=>k=e/\Wk v f/\kH vs fs
  |[]=>False
end
mutual
theorem Wk.refl:∀v,Wk v v
 | .undef| .bool _| .int _ _| .str _| .dH| .fc| .gD| .gd=>by simp[Wk]
 | .aO=>by simp[Wk]
 | .cm t=>by simp only[Wk];exact Wk.refl t
 | .cN f c=>by simp only[Wk];exact⟨id,bC.refl c⟩
 | .seq c=>by simp only[Wk];exact bC.refl c
 | .dT c=>by simp only[Wk];exact kH.refl c
 | .func f a b=>by simp only[Wk];exact⟨trivial,bC.refl a,bC.refl b⟩
 | .st u c=>by simp only[Wk];exact⟨trivial,bC.refl c⟩
 | .aC c=>by simp only[Wk];exact bC.refl c
theorem bC.refl:∀vs,bC vs vs
 |[]=>by simp[bC]
 |v::vs=>by simp only[bC];exact⟨Wk.refl v,bC.refl vs⟩
theorem kH.refl:∀c,kH c c
 |[]=>by simp[kH]
 |(k,v)::vs=>by simp only[kH];exact⟨trivial,Wk.refl v,kH.refl vs⟩
end
theorem bC.length:∀{es fs:List PV},bC es fs->fs.length=es.length
 |[],fs,h=>by simp only[bC]at h;subst h;rfl
 |v::vs,fs,h=>by
  cases fs with
  |nil=>simp[bC]at h
  |cons f fs=>simp only[bC]at h;simp[bC.length h.2]
theorem bC.oR{a fs:List PV}(h:bC a fs):fs=[]↔a=[]:=by
 have:=h.length;rw[<-fw,<-fw,this]
theorem Wk.aL:∀{v v':PV},Wk v v'->ak.aL v'=ak.aL v
 | .undef,v',h| .bool _,v',h| .int _ _,v',h| .str _,v',h| .dH,v',h| .fc,v',h| .gD,v',h| .gd,v',h=>by simp only[Wk]at h;subst h;rfl
 | .aO,v',h=>by simp only[Wk]at h;rcases h with rfl|rfl<;>rfl
 | .cm _,v',h| .cN _ _,v',h| .seq _,v',h| .dT _,v',h| .func _ _ _,v',h| .aC _,v',h=>by cases v'<;>simp only[Wk]at h<;>rfl
 | .st _ _,v',h=>by
  cases v'<;>simp only[Wk]at h;simp[ak.aL,h.1]
section
variable{P:b2}{w:b5}{ad:Nat->Prop}
mutual
theorem aY.cZ:∀(v v':PV)(cs:List b3),Wk v v'->aY P w ad v cs->aY P w ad v' cs
 | .undef,v',cs,h,hc| .bool _,v',cs,h,hc| .int _ _,v',cs,h,hc| .str _,v',cs,h,hc| .dH,v',cs,h,hc| .fc,v',cs,h,hc| .gD,v',cs,h,hc| .gd,v',cs,h,hc=>by simp only[Wk]at h;subst h;exact hc
 | .aO,v',cs,h,hc=>by
  simp only[Wk]at h;rcases h with rfl|rfl
  ·exact hc
  ·simp only[aY]at hc⊢;exact .inl ⟨trivial,hc⟩
 | .cm t,v',cs,h,hc=>by
  cases v'<;>simp only[Wk]at h;simp only[aY]at hc⊢;obtain⟨an,off,ts,d,i⟩:=hc;exact⟨an,off,ts,aY.cZ _ _ _ h d,i⟩
 | .cN f o,v',cs,h,hc=>by
  cases v' with
  |cN g fs=>
   simp only[Wk]at h;simp only[aY]at hc⊢;obtain⟨an,off,cap,ai,m,d,i,j,p,q,s⟩:=hc;have z:=h.2.length;rw[z];exact⟨an,off,cap,ai,m,bk.cZ _ _ _ _ h.2 d,fun A=>i (fun e=>A (h.2.oR.2 e)),j,fun e=>p (h.1 e),q,s⟩
  |seq fs=>
   simp only[Wk]at h;simp only[aY]at hc⊢;obtain⟨an,off,cap,ai,m,d,i,j,p,q,s⟩:=hc;have z:=h.length;rw[z];exact .inr ⟨an,off,cap,ai,m,bk.cZ _ _ _ _ h d,fun A=>i (fun e=>A (h.oR.2 e)),j,q,s⟩
  |_=>simp only[Wk]at h
 | .seq o,v',cs,h,hc=>by
  cases v'<;>simp only[Wk]at h;simp only[aY]at hc⊢;rcases hc with⟨d,i⟩|⟨an,off,cap,ai,m,d,i,j,q,s⟩
  ·exact .inl ⟨h.oR.2 d,i⟩
  ·have z:=h.length;rw[z];exact .inr ⟨an,off,cap,ai,m,bk.cZ _ _ _ _ h d,fun A=>i (fun e=>A (h.oR.2 e)),j,q,s⟩
 | .dT o,v',cs,h,hc=>by
  cases v'<;>simp only[Wk]at h;simp only[aY]at hc⊢;obtain⟨r,C,clock,d,i,j,p⟩:=hc;exact⟨r,C,clock,d,i,cH.cZ _ _ _ h j,p⟩
 | .func f a b,v',cs,h,hc=>by
  cases v'<;>simp only[Wk]at h;obtain⟨rfl,F,G⟩:=h;simp only[aY]at hc⊢;obtain⟨E,D,d,i,j⟩:=hc;exact⟨E,D,bJ.cZ _ _ _ F d,bJ.cZ _ _ _ G i,j⟩
 | .st u o,v',cs,h,hc=>by
  cases v'<;>simp only[Wk]at h;obtain⟨rfl,h⟩:=h;simp only[aY]at hc⊢;obtain⟨l,m,d,i,j⟩:=hc;exact⟨l,m,d,bk.cZ _ _ _ _ h i,j⟩
 | .aC o,v',cs,h,hc=>by simp[aY]at hc
theorem bk.cZ:∀(l:List Nat)(o fs:List PV)(m:List (List b3)),bC o fs->bk P w ad l o m->bk P w ad l fs m
 |l,[],fs,m,h,hc=>by simp only[bC]at h;subst h;exact hc
 |l,v::vs,fs,m,h,hc=>by
  cases fs with
  |nil=>simp[bC]at h
  |cons f fs=>
   simp only[bC]at h;cases l with
   |nil=>simp[bk]at hc
   |cons n l=>
    simp only[bk]at hc⊢;obtain⟨c,cs,d,i,j,p⟩:=hc;exact⟨c,cs,d,aY.cZ _ _ _ h.1 i,j,bk.cZ _ _ _ _ h.2 p⟩
theorem aD.cZ:∀(v v':PV)(x:b3),Wk v v'->aD P w ad v x->aD P w ad v' x
 | .undef,v',cs,h,hc| .bool _,v',cs,h,hc| .int _ _,v',cs,h,hc| .str _,v',cs,h,hc| .dH,v',cs,h,hc| .fc,v',cs,h,hc| .gD,v',cs,h,hc| .gd,v',cs,h,hc=>by simp only[Wk]at h;subst h;exact hc
 | .aO,v',cs,h,hc=>by
  simp only[Wk]at h;rcases h with rfl|rfl
  ·exact hc
  ·simp only[aD]at hc⊢;exact .inl ⟨trivial,hc⟩
 | .cm t,v',cs,h,hc=>by
  cases v'<;>simp only[Wk]at h;simp only[aD]at hc⊢;obtain⟨an,off,ts,d,i⟩:=hc;exact⟨an,off,ts,aY.cZ _ _ _ h d,i⟩
 | .cN f o,v',cs,h,hc=>by
  cases v' with
  |cN g fs=>
   simp only[Wk]at h;simp only[aD]at hc⊢;obtain⟨an,off,cap,ai,m,d,i,j,p,q,s⟩:=hc;have z:=h.2.length;rw[z];exact⟨an,off,cap,ai,m,bk.cZ _ _ _ _ h.2 d,fun A=>i (fun e=>A (h.2.oR.2 e)),j,fun e=>p (h.1 e),q,s⟩
  |seq fs=>
   simp only[Wk]at h;simp only[aD]at hc⊢;obtain⟨an,off,cap,ai,m,d,i,j,p,q,s⟩:=hc;have z:=h.length;rw[z];exact .inr ⟨an,off,cap,ai,m,bk.cZ _ _ _ _ h d,fun A=>i (fun e=>A (h.oR.2 e)),j,q,s⟩
  |_=>simp only[Wk]at h
 | .seq o,v',cs,h,hc=>by
  cases v'<;>simp only[Wk]at h;simp only[aD]at hc⊢;rcases hc with⟨d,i⟩|⟨an,off,cap,ai,m,d,i,j,q,s⟩
  ·exact .inl ⟨h.oR.2 d,i⟩
  ·have z:=h.length;rw[z];exact .inr ⟨an,off,cap,ai,m,bk.cZ _ _ _ _ h d,fun A=>i (fun e=>A (h.oR.2 e)),j,q,s⟩
 | .dT o,v',cs,h,hc=>by
  cases v'<;>simp only[Wk]at h;simp only[aD]at hc⊢;obtain⟨r,C,clock,d,i,j,p⟩:=hc;exact⟨r,C,clock,d,i,cH.cZ _ _ _ h j,p⟩
 | .func f a b,v',cs,h,hc=>by
  cases v'<;>simp only[Wk]at h;obtain⟨rfl,F,G⟩:=h;simp only[aD]at hc⊢;obtain⟨E,D,d,i,j⟩:=hc;exact⟨E,D,bJ.cZ _ _ _ F d,bJ.cZ _ _ _ G i,j⟩
 | .st u o,v',cs,h,hc=>by
  cases v'<;>simp only[Wk]at h;obtain⟨rfl,h⟩:=h;simp only[aD]at hc⊢;obtain⟨l,m,d,i,j⟩:=hc;exact⟨l,m,d,bk.cZ _ _ _ _ h i,j⟩
 | .aC o,v',cs,h,hc=>by
  cases v'<;>simp only[Wk]at h;simp only[aD]at hc⊢;obtain⟨B,d,i⟩:=hc;exact⟨B,bJ.cZ _ _ _ h d,i⟩
theorem bJ.cZ:∀(o fs:List PV)(B:List b3),bC o fs->bJ P w ad o B->bJ P w ad fs B
 |[],fs,B,h,hc=>by simp only[bC]at h;subst h;exact hc
 |v::vs,fs,B,h,hc=>by
  cases fs with
  |nil=>simp[bC]at h
  |cons f fs=>
   simp only[bC]at h;simp only[bJ]at hc⊢;obtain⟨y,H,d,i,j⟩:=hc;exact⟨y,H,d,aD.cZ _ _ _ h.1 i,bJ.cZ _ _ _ h.2 j⟩
theorem cH.cZ:∀(o fs:List (PV×PV))(C:List da),kH o fs->cH P w ad o C->cH P w ad fs C
 |[],fs,B,h,hc=>by simp only[kH]at h;subst h;exact hc
 |(k,v)::vs,fs,B,h,hc=>by
  cases fs with
  |nil=>simp[kH]at h
  |cons f fs=>
   simp only[kH]at h;obtain⟨rfl,d,i⟩:=h;simp only[cH]at hc⊢;obtain⟨e,rest,e1,e2,e3,e4⟩:=hc;exact⟨e,rest,e1,e2,aD.cZ _ _ _ d e3,cH.cZ _ _ _ i e4⟩
end
end
section
variable{P:b2}{w:b5}{ad:Nat->Prop}{β:Bd}{H:aj}
theorem lK:∀{fs:List AV}{l:List PV},eE fs=some l->fs=l.map .p
 |[],l,h=>by simp[eE]at h;subst h;rfl
 | .p v::r,l,h=>by
  simp only[eE]at h;cases a:eE r with
  |none=>simp[a]at h
  |some b=>simp[a]at h;subst h;simp[lK a]
 | .ptr ..::_,_,h| .bZ ..::_,_,h| .sl ..::_,_,h| .map ..::_,_,h| .func ..::_,_,h| .st ..::_,_,h| .aC ..::_,_,h=>by simp[eE]at h
theorem nr:∀{l:List Nat}{fs:List PV}{a:List (List b3)},bM P w ad β H l (fs.map .p) a↔bk P w ad l fs a
 |[],[],_=>by simp[bM,bk]
 |[],_::_,_=>by simp[bM,bk]
 |_::_,[],_=>by simp[bM,bk]
 |n::g,v::vs,a=>by
  simp only[fb,bM,bk,br];constructor
  ·rintro⟨c,cs,b,d,e,f⟩;exact⟨c,cs,b,d,e,nr.1 f⟩
  ·rintro⟨c,cs,b,d,e,f⟩;exact⟨c,cs,b,d,e,nr.2 f⟩
theorem jq:∀{fs:List PV}{d:List b3},bF P w ad β H (fs.map .p) d↔bJ P w ad fs d
 |[],_=>by simp[bF,bJ]
 |v::vs,d=>by
  simp only[fb,bF,bJ,aA];constructor
  ·rintro⟨y,e,a,b,c⟩;exact⟨y,e,a,b,jq.1 c⟩
  ·rintro⟨y,e,a,b,c⟩;exact⟨y,e,a,b,jq.2 c⟩
theorem Ky{u:b4}{fs:List AV}{cs:List b3}:br P w ad β H (gY u fs) cs↔br P w ad β H (.st u fs) cs:=by
 unfold gY;cases h:eE fs with
 |none=>rfl
 |some l=>have:=lK h;subst this;simp[br,aY,nr]
theorem Xu{u:b4}{fs:List AV}{x:b3}:aA P w ad β H (gY u fs) x↔aA P w ad β H (.st u fs) x:=by
 unfold gY;cases h:eE fs with
 |none=>rfl
 |some l=>have:=lK h;subst this;simp[aA,aD,nr]
theorem iO(n:Nat×Nat->Prop):∀l:List PV,aX n (l.map .p)
 |[]=>by simp[aX]
 |v::l=>by simp only[fb,aX,aE,true_and];exact iO n l
theorem AY{n:Nat×Nat->Prop}{u:b4}{fs:List AV}(h:aX n fs):aE n (gY u fs):=by
 unfold gY;cases eE fs with
 |none=>exact h
 |some l=>simp[aE]
theorem cV{n:Nat×Nat->Prop}:∀{fs:List AV},aX n fs↔∀v∈fs,aE n v
 |[]=>by simp[aX]
 |v::vs=>by simp[aX,cV (fs:=vs)]
theorem sM:∀{l:List Nat}{fs:List AV}{d:List (List b3)}{i:Nat}{f:AV},bM P w ad β H l fs d->fs[i]?=some f->
 ∃pre c post,d.flatten=pre++c++post/\pre.length=(l.take i).sum/\i<l.length/\l[i]?=some c.length/\br P w ad β H f c/\
  ∀b c',br P w ad β H b c'->c'.length=c.length->∃a,a.flatten=pre++c'++post/\bM P w ad β H l (fs.set i b) a
 |[],[],_,i,f,_,hf=>by simp at hf
 |[],_::_,_,_,_,h,_=>by simp[bM]at h
 |_::_,[],_,_,_,h,_=>by simp[bM]at h
 |n::m,v::vs,d,0,f,h,hf=>by
  simp only[bM]at h;obtain⟨c,cs,rfl,g,e,j⟩:=h;simp at hf;subst hf;refine⟨[],c,cs.flatten,by simp,by simp,by simp,by simp[e],g,?_⟩;intro b c' hc k;exact⟨c'::cs,by simp,by simp only[gi,bM];exact⟨c',cs,rfl,hc,by omega,j⟩⟩
 |n::m,v::vs,d,i+1,f,h,hf=>by
  simp only[bM]at h;obtain⟨c,cs,rfl,g,e,j⟩:=h;simp at hf;obtain⟨pre,x,post,k1,k2,k3,k4,k5,k6⟩:=sM j hf;refine⟨c++pre,x,post,by simp[k1],by simp[k2,e],by simpa using k3,by simpa using k4,k5,?_⟩;intro b c' hc k;obtain⟨a,e1,e2⟩:=k6 b c' hc k;exact⟨c::a,by simp[e1],by simp only[List.set_cons_succ,bM];exact⟨c,a,rfl,g,e,e2⟩⟩
theorem Jv{t:AV}{u:b4}{cs:List b3}(hs:aa t= .agg u)(h:br P w ad β H t cs):
 ∃l fs a,dx P u=some l/\bM P w ad β H l fs a/\cs=a.flatten/\(∀c,t=.p c->fs=(bW c).map .p)/\(∀u' g,t=.st u' g->fs=g/\u'=u):=by
 cases t<;>simp[aa]at hs
 case p t=>
  cases t<;>simp[aL]at hs;subst hs;simp only[br,aY]at h;obtain⟨l,a,d,e,f⟩:=h;exact⟨l,_,a,d,nr.2 e,f,fun c b=>by cases b;rfl,fun _ _ h=>by cases h⟩
 case st u' fs=>
  subst hs;simp only[br]at h;obtain⟨l,a,d,e,f⟩:=h;exact⟨l,fs,a,d,e,f,(fun c b=>by cases b),(fun j i b=>by cases b;exact⟨rfl,rfl⟩)⟩
theorem yE{t:PV}{a:List (b4×Nat)}:eK (.p t) a=(kD t a).map .p:=by
 cases a with
 |nil=>rfl
 |cons x r=>obtain⟨u,i⟩:=x;simp only[eK];cases kD t ((u,i)::r)<;>rfl
theorem oQ:∀{z:List (b4×Nat)}{t s:AV}{cs:List b3}{o:Nat},br P w ad β H t cs->eK t z=some s->fV P z=some o->
 ∃n q post,cs=n++q++post/\n.length=o/\br P w ad β H s q/\
  ∀x k a,fL t z x=some a->br P w ad β H x k->k.length=q.length->br P w ad β H a (n++k++post)
 |[],t,s,cs,o,h,hs,d=>by
  simp[fV]at d;subst d;simp[eK]at hs;subst hs;refine⟨[],cs,[],by simp,by simp,h,?_⟩;intro x k a hx y _;simp[fL]at hx;subst hx;simpa using y
 |(u,i)::r,t,s,cs,o,h,hs,d=>by
  simp only[fV]at d;cases m:dx P u with
  |none=>simp[m]at d
  |some l=>
   cases v:fV P r with
   |none=>simp[m,v]at d
   |some o'=>
    simp[m,v]at d;obtain⟨J,rfl⟩:=d
    have key:∃fs f,(∃j e,dx P u=some j/\bM P w ad β H j fs e/\cs=e.flatten)/\fs[i]?=some f/\eK f r=some s/\
     (∀x a,fL t ((u,i)::r) x=some a->∃b,fL f r x=some b/\a=gY u (fs.set i b)):=by
     cases t
     case p t=>
      rw[yE]at hs;simp only[kD]at hs
      by_cases g:aL t=.agg u
      ·simp only[g,if_true]at hs;obtain⟨j,fs,e,k1,k2,k3,k4,_⟩:=Jv (t:=.p t) (by simpa[aa]using g) h;have:=k4 t rfl;subst this;cases hf:(bW t)[i]? with
       |none=>simp[hf]at hs
       |some f=>
        simp only[hf]at hs;refine⟨_,.p f,⟨j,e,k1,k2,k3⟩,by simp[hf],by rw[yE];exact hs,?_⟩;intro x a hx;simp only[fL,g,if_true,hf]at hx;cases hq:fL (.p f) r x with
        |none=>simp[hq]at hx
        |some b=>simp[hq]at hx;exact⟨b,rfl,hx.symm⟩
      ·simp[g]at hs
     case st u' fs=>
      simp only[eK]at hs
      by_cases g:u'=u
      ·subst g;simp only[if_true]at hs;obtain⟨j,D,e,k1,k2,k3,_,k4⟩:=Jv (t:=.st u' fs) rfl h;have:=(k4 _ _ rfl).1;subst this;cases hf:D[i]? with
       |none=>simp[hf]at hs
       |some f=>
        simp only[hf]at hs;refine⟨_,f,⟨j,e,k1,k2,k3⟩,hf,hs,?_⟩;intro x a hx;simp only[fL,if_true,hf]at hx;cases hq:fL f r x with
        |none=>simp[hq]at hx
        |some b=>simp[hq]at hx;exact⟨b,rfl,hx.symm⟩
      ·simp[g]at hs
     all_goals simp[eK]at hs
    obtain⟨fs,f,⟨j,e,k1,k2,k3⟩,hf,F,aM⟩:=key;rw[m]at k1;cases k1;obtain⟨n,c,post,e1,e2,e3,e4,e5,C⟩:=sM k2 hf;obtain⟨I,q,G,g1,g2,g3,g4⟩:=oQ e5 F v;refine⟨n++I,q,G++post,by rw[k3,e1,g1];simp,by simp[e2,g2],g3,?_⟩;intro x k a hx y A;obtain⟨b,E,rfl⟩:=aM x a hx;have aS:=g4 x k b E y A;obtain⟨B,c1,c2⟩:=C b _ aS (by rw[g1];simp[A]);rw[Ky];simp only[br];exact⟨l,B,m,c2,by rw[c1];simp⟩
theorem yc{path:List (b4×Nat)}{t s:PV}{cs:List b3}{o:Nat}(h:aY P w ad t cs)(hs:kD t path=some s)(f:fV P path=some o):
 ∃a b post,cs=a++b++post/\a.length=o/\aY P w ad s b:=by
 obtain⟨a,b,post,c,d,e,_⟩:=oQ (β:=⟨id,id⟩) (H:=[]) (t:=.p t) (s:=.p s) (by simpa[br]using h) (by rw[yE,hs];rfl) f;exact⟨a,b,post,c,d,by simpa[br]using e⟩
theorem uJ{n:Nat×Nat->Prop}:∀{a:List (b4×Nat)}{t s:AV},eK t a=some s->aE n t->aE n s
 |[],t,s,hs,h=>by simp[eK]at hs;subst hs;exact h
 |(u,i)::r,.p t,s,hs,h=>by
  rw[yE]at hs;cases hq:kD t ((u,i)::r)with
  |none=>simp[hq]at hs
  |some q=>simp[hq]at hs;subst hs;simp[aE]
 |(u,i)::r,.st u' fs,s,hs,h=>by
  simp only[eK]at hs
  split at hs
  ·split at hs
   ·rename_i f hf;simp only[aE]at h;exact uJ hs (cV.1 h f (ge hf))
   ·simp at hs
  ·simp at hs
 |_::_,.ptr ..,_,hs,_|_::_,.bZ ..,_,hs,_|_::_,.sl ..,_,hs,_|_::_,.map ..,_,hs,_|_::_,.func ..,_,hs,_|_::_,.aC ..,_,hs,_=>by simp[eK]at hs
theorem uK{n:Nat×Nat->Prop}:∀{e:List (b4×Nat)}{t b x:AV},fL t e x=some b->aE n t->aE n x->aE n b
 |[],t,b,x,hs,h,hx=>by simp[fL]at hs;subst hs;exact hx
 |(u,i)::r,.p t,b,x,hs,h,hx=>by
  simp only[fL]at hs
  split at hs
  ·split at hs
   ·split at hs
    ·rename_i f hf d c;simp at hs;subst hs;refine AY (cV.2 ?_);intro v a;rcases fv a with a|rfl
     ·exact cV.1 (iO n _) v a
     ·exact uK c (by simp[aE]) hx
    ·simp at hs
   ·simp at hs
  ·simp at hs
 |(u,i)::r,.st u' fs,b,x,hs,h,hx=>by
  simp only[fL]at hs
  split at hs
  ·split at hs
   ·split at hs
    ·rename_i _ f hf _ d c;simp at hs;subst hs;simp only[aE]at h;refine AY (cV.2 ?_);intro v a;rcases fv a with a|rfl
     ·exact cV.1 h v a
     ·exact uK c (cV.1 h f (ge hf)) hx
    ·simp at hs
   ·simp at hs
  ·simp at hs
 |_::_,.ptr ..,_,_,hs,_,_|_::_,.bZ ..,_,_,hs,_,_|_::_,.sl ..,_,_,hs,_,_|_::_,.map ..,_,_,hs,_,_|_::_,.func ..,_,_,hs,_,_|_::_,.aC ..,_,_,hs,_,_=>by simp[fL]at hs
end
structure aW where
 v:AV
 al:List (Nat×Obj):=[]
 aM:List (Nat×Obj):=[]
 aS:List Obj:=[]
def bc(H:aj)(l:List (Nat×Obj)):aj:=
 match l with
 |[]=>H
 |(b,o)::r=>bc (H.set b o) r
def put(dst:Option Tmp)(v:AV)(e:Env):Env:=
 match dst with
 |some d=>(d,v)::e
 |none=>e
def aW.app(e:aW)(dst:Option Tmp)(s:St):St:=⟨put dst e.v s.env,bc s.heap e.aM++e.aS⟩
def ev(e:Env):ck->AV
 | .tmp t=>aQ e t
 | .const v=>.p (ofConst v)
 | .global g=>.p (Gl.g g)
 | .func f=>.p (.func f [] [])
def gh(s:List Nat):ByteArray:=⟨(s.map UInt8.ofNat).toArray⟩
mutual
def ju:PV->PV->Option Bool
 | .bool a,.bool b=>some (a==b)
 | .int k a,.int c b=>if k=c then some (a==b)else none
 | .str a,.str b=>some (a==b)
 | .st u fs,.st u' gs=>if u=u' then vT fs gs else none
 |_,_=>none
def vT:List PV->List PV->Option Bool
 |[],[]=>some true
 |a::as,b::bs=>match ju a b with
  |some true=>vT as bs
  |some false=>some false
  |none=>none
 |_,_=>none
end
def lX(P:b2)(c:b4->PV->PV->Option Bool):List b4->List PV->List PV->Option Bool
 |[],[],[]=>some true
 |T::d,a::as,b::bs=>
  if kindOf P T=aL a/\kindOf P T=aL b then
   (match c T a b,lX P c d as bs with
   |some r,some s=>some (r&&s)
   |_,_=>none)
  else none
 |_,_,_=>none
def iK(P:b2):Nat->b4->PV->PV->Option Bool
 |0,_,_,_=>none
 |n+1,T,v,v'=>
  match P.underlying T,v,v' with
  |some .bool,.bool a,.bool b=>some (a==b)
  |some (.int _),.int k a,.int c b=>if k=c then some (a==b)else none
  |some .string,.str a,.str b=>some (a==b)
  |some (.struct fs),.st u xs,.st u' d=>
   if kindOf P T= .agg u/\u'=u/\P.stoodInHeld T=false/\fs.toList.all (fun f=>f.name != "_")=true then lX P (iK P n) (fs.toList.map (·.type)) xs d else none
  |_,_,_=>none
def rD(P:b2)(T:b4):Bool:=!P.eqGuardType P.depth T
def qC(P:b2)(T:b4):Bool:=match P.underlying T with|some .bool=>true|_=>false
def aLl(P:b2)(T:b4):Bool:=match P.underlying T with|some (.int _)=>true|_=>false
def iA(P:b2)(T:b4):Bool:=match P.underlying T with|some .string=>true|_=>false
inductive tW where|ptr|slice|map|func|iface
 deriving DecidableEq
def lZ:ck->Bool
 | .const _=>true
 |_=>false
def dA(P:b2)(T:b4)(c:Bool):AV->Option tW
 | .p .dH=>match P.underlying T with
  |some (.pointer _)=>some .ptr
  |_=>none
 | .p .aO=>match P.underlying T with
  |some (.slice _)=>some .slice
  |_=>none
 | .p .fc=>match P.underlying T with
  |some (.map _ _)=>some .map
  |_=>none
 | .p .gD=>match P.underlying T with
  |some (.func _ _ _)=>some .func
  |_=>none
 | .p .gd=>match c,P.underlying T with
  |true,some (.interface _)=>some .iface
  |_,_=>none
 |_=>none
def cQ(H:aj)(k:tW)(x:AV):Option Bool:=
 match k,x with
 | .ptr,.p .dH| .slice,.p .aO| .map,.p .fc| .func,.p .gD| .iface,.p .gd=>some true
 | .ptr,.p (.cm _)| .slice,.p (.cN _ _)| .map,.p (.dT _)| .func,.p (.func _ _ _)| .func,.func _ _ _=>some false
 | .ptr,.ptr b _=>match H[b]? with
  |some (.box _ _)=>some false
  |_=>none
 | .map,.map b=>match H[b]? with
  |some (.map _ _)=>some false
  |_=>none
 | .slice,.p (.seq (_::_))=>some false
 | .slice,.sl b az ai _ _=>match H[b]? with
  |some (.arr k c a es)=>if az=c/\ai=a then some (k.gr&&es.isEmpty)else none
  |_=>none
 |_,_=>none
def pf(op:BinOp)(k:db)(a b:Int)(K:PV->Prop):Prop:=
 match op with
 | .add=>K (.int k (k.wrap (a+b)))
 | .sub=>K (.int k (k.wrap (a-b)))
 | .mul=>K (.int k (k.wrap (a*b)))
 | .quo=>b≠0/\K (.int k (k.wrap (a.tdiv b)))
 | .rem=>b≠0/\K (.int k (a.tmod b))
 | .and=>K (.int k (k.wrap (bV k.bits a&&&bV k.bits b).toNat))
 | .or=>K (.int k (k.wrap (bV k.bits a|||bV k.bits b).toNat))
 | .xor=>K (.int k (k.wrap (bV k.bits a^^^bV k.bits b).toNat))
 | .andNot=>K (.int k (k.wrap (bV k.bits a&&&~~~bV k.bits b).toNat))
 | .eql=>K (.bool (a==b))
 | .neq=>K (.bool (a !=b))
 | .lss=>K (.bool (decide (a<b)))
 | .leq=>K (.bool (decide (a<=b)))
 | .gtr=>K (.bool (decide (a>b)))
 | .geq=>K (.bool (decide (a>=b)))
 | .shl=>0<=b/\K (.int k (k.wrap (a*2^(min b.toNat k.bits))))
 | .shr=>0<=b/\K (.int k (a.fdiv (2^(min b.toNat k.bits))))
def iZ:List Nat->List Nat->Bool
 |_,[]=>false
 |[],_::_=>true
 |a::x,b::y=>decide (a<b)||(a==b&&iZ x y)
def pc(op:BinOp)(a b:List Nat)(K:PV->Prop):Prop:=
 match op with
 | .add=>a.length+b.length<9223372036854775808/\K (.str (a++b))
 | .eql=>K (.bool (a==b))
 | .neq=>K (.bool (!(a==b)))
 | .lss=>K (.bool (iZ a b))
 | .leq=>K (.bool (iZ a b||a==b))
 | .gtr=>K (.bool (!(iZ a b||a==b)))
 | .geq=>K (.bool (!(iZ a b)))
 |_=>False
def kf(P:b2)(op:BinOp)(T:b4)(c:Bool)(H:aj)(x y:AV)(K:PV->Prop):Prop:=
 match x,y with
 | .p (.int k a),.p (.int d b)=>(k=d\/op=.shl\/op=.shr)/\pf op k a b K
 | .p (.str a),.p (.str b)=>pc op a b K
 | .p (.bool a),.p (.bool b)=>qC P T=true/\match op with
  | .eql=>K (.bool (a==b))
  | .neq=>K (.bool (!(a==b)))
  |_=>False
 | .p (.st u fs),.p (.st u' gs)=>rD P T=true/\(match iK P 9 T (.st u fs) (.st u' gs),op with
  |some r,.eql=>K (.bool r)
  |some r,.neq=>K (.bool !r)
  |_,_=>False)
 |x,y=>
  (match dA P T c y with
  |some k=>(match cQ H k x,op with
   |some r,.eql=>K (.bool r)
   |some r,.neq=>K (.bool !r)
   |_,_=>False)
  |none=>False)
def cW:Nat:=1073741824
def gJ(H:aj):AV->Option (List AV)
 | .p .aO=>some []
 | .p (.cN _ es)=>some (es.map .p)
 | .p (.seq es)=>some (es.map .p)
 | .p (.str s)=>some (s.map fun c=>.p (.int .u8 (c:Nat)))
 | .sl b az ai off len=>match H[b]? with
  |some (.arr _ d a es)=>if az=d/\ai=a/\off+len<=es.length then some ((es.drop off).take len)else none
  |_=>none
 |_=>none
def dB(H:aj):AV->List (Nat×Obj)
 | .sl b _ _ _ _| .ptr b _| .bZ b _ _ _ _| .map b=>match H[b]? with
  |some o=>[(b,o)]
  |none=>[]
 |_=>[]
def eM(P:b2)(ai:Nat):List AV->Prop
 |[]=>True
 |v::vs=>(aa v≠.bad/\bD P (aa v)=ai)/\eM P ai vs
def cC(P:b2)(T:b4):Option Nat:=
 match P.underlying T with
 |some (.slice e)=>match P.info? e with
  |some i=>if i.bytes<32768/\0<i.size/\0<i.bytes then some i.size else none
  |none=>none
 |_=>none
def dY(P:b2)(T:b4):b4:=
 match P.underlying T with
 |some (.slice e)=>e
 |_=>0
def iI(P:b2)(X:b4):Bool:=
 match P.underlying X with
 |some (.int _)=>false
 |some _=>true
 |none=>false
def gk(P:b2)(T:b4):AK:=if dY P T=Gl.u8 then .bytes else .grow
def nq(P:b2)(T X:b4)(H:aj)(s x:AV)(K:aW->Prop):Prop:=
 match cC P T,gJ H x with
 |some sz,some xs=>iI P X=true/\(ct P (dY P T)).isSome=true/\eM P sz xs/\
  (match s with
  | .p .aO=>if xs.isEmpty then K {v:=s,al:=dB H x}else xs.length<=cW/\K {v:=.sl H.length 0 sz 0 xs.length,al:=dB H x,aS:=[.arr (gk P T) 0 sz xs]}
  | .p (.cN full es)=>eM P sz (es.map .p)/\if xs.isEmpty then K {v:=s,al:=dB H x}else full=true/\es.length+xs.length<=cW/\
   K {v:=.sl H.length 0 sz 0 (es.length+xs.length),al:=dB H x,aS:=[.arr (gk P T) 0 sz (es.map .p++xs)]}
  | .sl b az ai off len=>match H[b]? with
   |some (.arr k c a es)=>az=c/\ai=a/\ai=sz/\off+len<=es.length/\
    if xs.isEmpty then K {v:=s,al:=(b,.arr k c a es)::dB H x}
    else es.length+xs.length<=cW/\(match k with
     | .frozen=>False
     | .exact=>if off+len+xs.length<=es.length then
      K {v:=.sl b az ai off (len+xs.length),al:=(b,.arr k c a es)::dB H x,aM:=[(b,.arr .exact az ai (es.take (off+len)++xs++es.drop (off+len+xs.length)))]}
      else K {v:=.sl H.length 0 sz 0 (len+xs.length),al:=(b,.arr k c a es)::dB H x,aS:=[.arr (gk P T) 0 sz ((es.drop off).take len++xs)]}
     |_=>off=0/\(k=.bytes->dY P T=Gl.u8)/\K {v:=.sl b (az+1) ai 0 (len+xs.length),al:=(b,.arr k c a es)::dB H x,aM:=[(b,.arr k (az+1) ai (es.take len++xs))]})
   |_=>False
  |_=>False)
 |_,_=>False
def gu(x:Option AV)(d:Nat)(K:Nat->Prop):Prop:=
 match x with
 |none=>K d
 |some (.p (.int _ i))=>0<=i/\K i.toNat
 |_=>False
def nB(P:b2)(T:b4)(H:aj)(x:AV)(lo hi d:Option AV)(K:aW->Prop):Prop:=
 d.isNone/\match x with
 | .p (.str s)=>iA P T=true/\gu hi s.length fun h=>gu lo 0 fun l=>h<=s.length/\l<=h/\K {v:=.p (.str ((s.take h).drop l))}
 | .p .aO=>(cC P T).isSome=true/\gu hi 0 fun h=>gu lo 0 fun l=>h<=0/\l<=h/\K {v:=x}
 | .p (.cN full es)=>gu hi es.length fun h=>gu lo 0 fun l=>h<=es.length/\l<=h/\
  (match cC P T with
  |some sz=>eM P sz (es.map .p)/\K {v:=.p (.cN (full&&h==es.length) ((es.take h).drop l))}
  |none=>False)
 | .p (.seq es)=>gu hi es.length fun h=>gu lo 0 fun l=>h<=es.length/\l<=h/\
  (match cC P T with
  |some sz=>eM P sz (es.map .p)/\K {v:=.p (.seq ((es.take h).drop l))}
  |none=>False)
 | .sl b az ai off len=>match H[b]? with
  |some (.arr k c a es)=>az=c/\ai=a/\cC P T=some ai/\¬(k.gr=true/\es=[])/\off+len<=es.length/\
   gu hi len fun h=>gu lo 0 fun l=>off+h<=es.length/\l<=h/\
    (if l=0 then K {v:=.sl b az ai off h,al:=[(b,.arr k c a es)]}
    else if l=h then K {v:=.p (.cN false []),al:=[(b,.arr k c a es)]}
    else K {v:=.sl b az ai (off+l) (h-l),al:=[(b,.arr k c a es)]})
  |_=>False
 |_=>False
def qh(P:b2)(T:b4)(H:aj)(x:AV)(lo hi:Option AV)(m:AV)(K:aW->Prop):Prop:=
 match x with
 | .sl b az ai off len=>match H[b]? with
  |some (.arr k c a es)=>az=c/\ai=a/\(cC P T).isSome=true/\¬(k.gr=true/\es=[])/\off+len<=es.length/\hi.isSome=true/\
   gu hi len fun h=>gu lo 0 fun l=>gu (some m) 0 fun m=>off+m<=es.length/\h<=m/\l<=h/\K {v:=.p .undef,al:=[(b,.arr k c a es)]}
  |_=>False
 |_=>False
def pC(P:b2)(T:b4)(x k:PV):Option Bool:=match x with
 | .st u fs=>match iK P 9 T (.st u fs) k,ju (.st u fs) k with
  |some a,some b=>bif a==b then some a else none
  |_,_=>none
 |x=>ju x k
def fE(P:b2)(T:b4):List (PV×PV)->PV->Option (Option PV)
 |[],_=>some none
 |(k,v)::r,x=>match pC P T x k with
  |some true=>some (some v)
  |some false=>fE P T r x
  |none=>none
def lO(P:b2)(T:b4)(a:List (PV×PV))(x:PV):Option (Option PV):=match x with
 | .st u fs=>match fE P T a (.st u fs)with
  |some none=>some none
  |_=>none
 |x=>fE P T a x
def fN:List (PV×PV)->PV->PV->List (PV×PV)
 |[],k,v=>[(k,v)]
 |(a,v')::r,k,v=>if ju k a=some true then(k,v)::r else(a,v')::fN r k v
def sP(P:b2)(T:b4):Bool:=match P.underlying T with
 |some (.int _)|some .string|some .bool=>true
 |_=>false
def fO(P:b2)(T:b4):PV->Bool
 | .int k _=>match P.underlying T with
  |some (.int a)=>decide (k=a)
  |_=>false
 | .str _=>iA P T
 | .st u fs=>match P.underlying T with
  |some (.struct bW)=>bW.toList.all (fun f=>f.name != "_" &&sP P f.type)&&(iK P 9 T (.st u fs) (.st u fs)).isSome
  |_=>false
 |_=>false
def kU(P:b2)(T:b4):Option (b4×b4):=
 match P.underlying T with
 |some (.map k e)=>some (k,e)
 |_=>none
def lenOf(H:aj):AV->Option (Nat×List (Nat×Obj))
 | .p (.str s)=>some (s.length,[])
 | .p .aO| .p .fc=>some (0,[])
 | .p (.cN _ es)| .p (.seq es)=>some (es.length,[])
 | .p (.dT es)=>some (es.length,[])
 | .sl b az ai _off len=>match H[b]? with
  |some (.arr k c a es)=>if az=c/\ai=a then some (len,[(b,.arr k c a es)])else none
  |_=>none
 | .map b=>match H[b]? with
  |some (.map fz es)=>some (es.length,[(b,.map fz es)])
  |_=>none
 |_=>none
def gR(P:b2)(T:b4):AV->Bool
 | .p (.str _)=>iA P T
 | .p .aO| .p (.cN _ _)| .p (.seq _)| .sl ..=>match P.underlying T with
  |some (.slice _)=>true
  |_=>false
 | .p .fc| .p (.dT _)| .map _=>match P.underlying T with
  |some (.map _ _)=>true
  |_=>false
 |_=>false
def zu(H:aj):AV->Option (Nat×List (Nat×Obj))
 | .p .aO=>some (0,[])
 | .p (.cN true es)=>some (es.length,[])
 | .sl b az ai off _len=>match H[b]? with
  |some (.arr .exact c a es)=>if az=c/\ai=a/\off<=es.length then some (es.length-off,[(b,.arr .exact c a es)])else none
  |_=>none
 |_=>none
def bytesOf:List AV->Option (List Nat)
 |[]=>some []
 | .p (.int .u8 c)::r=>if 0<=c/\c<256 then match bytesOf r with
  |some l=>some (c.toNat::l)
  |none=>none
  else none
 |_=>none
def ptrTo(P:b2)(T:b4):Option b4:=
 match P.underlying T with
 |some (.pointer e)=>some e
 |_=>none
def lJ(k:db)(c:Bool):List AV->Int->Option Int
 |[],a=>some a
 | .p (.int d b)::r,a=>if k=d then lJ k c r (if c then(if b>a then b else a)else(if b<a then b else a))else none
 |_,_=>none
def iw(a:List AV):List (Nat×AV)->List AV
 |[]=>a
 |(i,v)::r=>iw (a.set i v) r
def lI(P:b2)(l:List Nat):List (Nat×AV)->Prop
 |[]=>True
 |(i,v)::r=>(∃n,l[i]?=some n/\bD P (aa v)=n/\aa v≠.bad)/\lI P l r
def fD(H:aj):List AV->Option (List PV×List (Nat×Obj)×List (Nat×Obj))
 |[]=>some ([],[],[])
 | .p v::r=>match fD H r with
  |some (a,al,aM)=>some (v::a,al,aM)
  |none=>none
 | .ptr b []::r=>match H[b]?,fD H r with
  |some (.box fz (.p t)),some (a,al,aM)=>some (.cm t::a,(b,.box fz (.p t))::al,(b,.box true (.p t))::aM)
  |_,_=>none
 |_=>none
def nL(P:b2)(T:b4)(H:aj)(a:AV)(K:aW->Prop):Prop:=
 match a with
 | .ptr b path=>match H[b]? with
  |some (.box fz t)=>match eK t path with
   |some s=>kindOf P T=aa s/\K {v:=s,al:=[(b,.box fz t)]}
   |none=>False
  |_=>False
 | .bZ b az ai i path=>match H[b]? with
  |some (.arr k d c es)=>az=d/\ai=c/\∃h:i<es.length,match eK (es[i]'h) path with
   |some s=>kindOf P T=aa s/\K {v:=s,al:=[(b,.arr k d c es)]}
   |none=>False
  |_=>False
 | .p (.cm t)=>kindOf P T=aL t/\K {v:=.p t}
 |_=>False
def nA(P:b2)(T:b4)(H:aj)(a x:AV)(K:aW->Prop):Prop:=
 kindOf P T=aa x/\aa x≠.bad/\match a with
 | .ptr b path=>match H[b]? with
  |some (.box false t)=>match eK t path,fL t path x with
   |some s,some d=>aa s=aa x/\K {v:=.p (.aC []),al:=[(b,.box false t)],aM:=[(b,.box false d)]}
   |_,_=>False
  |_=>False
 | .bZ b az ai i path=>match H[b]? with
  |some (.arr k e c es)=>az=e/\ai=c/\k≠.frozen/\∃h:i<es.length,match eK (es[i]'h) path,fL (es[i]'h) path x with
   |some s,some d=>aa s=aa x/\K {v:=.p (.aC []),al:=[(b,.arr k e c es)],aM:=[(b,.arr k e c (es.set i d))]}
   |_,_=>False
  |_=>False
 |_=>False
def eX(P:b2)(T:b4):Option (b4×Nat):=
 match kindOf P T,P.underlying T with
 | .agg u,some (.struct fs)=>some (u,fs.size)
 |_,_=>none
def gW(P:b2)(T:b4):Option (b4×Nat):=
 match kindOf P T,P.underlying T with
 | .agg u,some (.array n _)=>some (u,n)
 |_,_=>none
def ni(P:b2)(T:b4)(a:AV)(f:Nat)(K:aW->Prop):Prop:=
 match eX P T with
 |some (u,n)=>f<n/\(match a with
  | .ptr b path=>K {v:=.ptr b (path++[(u,f)])}
  | .bZ b az ai i path=>K {v:=.bZ b az ai i (path++[(u,f)])}
  | .p (.cm t)=>aL t=.agg u/\(match(bW t)[f]? with
   |some g=>K {v:=.p (.cm g)}
   |none=>False)
  |_=>False)
 |_=>False
def nh(P:b2)(T:b4)(H:aj)(x i:AV)(K:aW->Prop):Prop:=
 match i with
 | .p (.int _ i)=>0<=i/\(match x with
  | .p (.cN _ es)=>∃h:i.toNat<es.length,cC P T=some (bD P (aL (es[i.toNat]'h)))/\K {v:=.p (.cm (es[i.toNat]'h))}
  | .p (.seq es)=>∃h:i.toNat<es.length,cC P T=some (bD P (aL (es[i.toNat]'h)))/\K {v:=.p (.cm (es[i.toNat]'h))}
  | .sl b az ai off len=>cC P T=some ai/\i.toNat<len/\(match H[b]? with
   |some (.arr k c a es)=>az=c/\ai=a/\¬(k.gr=true/\es=[])/\K {v:=.bZ b az ai (off+i.toNat) [],al:=[(b,.arr k c a es)]}
   |_=>False)
  | .ptr b path=>(match gW P T with
   |some (u,n)=>i.toNat<n/\K {v:=.ptr b (path++[(u,i.toNat)])}
   |_=>False)
  | .bZ b az ai j path=>(match gW P T with
   |some (u,n)=>i.toNat<n/\K {v:=.bZ b az ai j (path++[(u,i.toNat)])}
   |_=>False)
  | .p (.cm t)=>(match gW P T with
   |some (u,n)=>aL t=.agg u/\i.toNat<n/\(match(bW t)[i.toNat]? with
    |some g=>K {v:=.p (.cm g)}
    |none=>False)
   |_=>False)
  |_=>False)
 |_=>False
def fu(P:b2)(ag:ce->Bool)(o:Oper)(ρ:ck->AV)(H:aj)(K:aW->Prop):Prop:=
 match o.op with
 | .move x| .assign x=>K {v:=ρ x}
 | .pick c a b=>match ρ c with
  | .p (.bool t)=>K {v:=if t then ρ a else ρ b}
  |_=>False
 | .alloc T=>match ct P T with
  |some z=>kindOf P T=aL z/\aL z≠.bad/\jf T (aL z)=true/\K {v:=.ptr H.length [],aS:=[.box false (.p z)]}
  |none=>False
 | .box T x=>kindOf P T=aa (ρ x)/\aa (ρ x)≠.bad/\jf T (aa (ρ x))=true/\K {v:=.ptr H.length [],aS:=[.box false (ρ x)]}
 | .build T parts=>match kindOf P T,ct P T with
  | .agg u,some z=>(match dx P u with
   |some l=>aL z=.agg u/\lI P l (parts.toList.map fun(i,x)=>(i,ρ x))/\K {v:=gY u (iw ((bW z).map .p) (parts.toList.map fun(i,x)=>(i,ρ x)))}
   |none=>False)
  |_,_=>False
 | .buildSlice T n parts=>match cC P T,ct P (dY P T)with
  |some sz,some z=>bD P (aL z)=sz/\n*sz<=1000000/\lI P (ew n sz) (parts.toList.map fun(i,x)=>(i,ρ x))/\
   K {v:=.sl H.length 0 sz 0 n,aS:=[.arr .exact 0 sz (iw (ew n (.p z)) (parts.toList.map fun(i,x)=>(i,ρ x)))]}
  |_,_=>False
 | .load T a=>nL P T H (ρ a) K
 | .store T a x=>nA P T H (ρ a) (ρ x) K
 | .binOp op T x y _=>kf P op T (lZ y) H (ρ x) (ρ y) (fun v=>K {v:=.p v,al:=dB H (ρ x)})
 | .unOp op _ x=>match op,ρ x with
  | .not,.p (.bool b)=>K {v:=.p (.bool (!b))}
  | .neg,.p (.int k n)=>K {v:=.p (.int k (k.wrap (0-n)))}
  | .xor,.p (.int k n)=>K {v:=.p (.int k (k.wrap (bV k.bits (if k.signed then -1 else k.max)^^^bV k.bits n).toNat))}
  |_,_=>False
 | .convert S D x=>match P.underlying S,P.underlying D,ρ x with
  |some _,some (.int k),.p (.int _ n)=>K {v:=.p (.int k (k.wrap n))}
  |some _,some .string,.p (.str s)=>K {v:=.p (.str s)}
  |some (.slice e),some .string,.sl b az ai off len=>(match H[b]? with
   |some (.arr k q j es)=>az=q/\ai=j/\ai=1/\P.underlying e=some (.int .u8)/\0<len/\off+len<=es.length/\(match bytesOf ((es.drop off).take len)with
    |some l=>K {v:=.p (.str l),al:=[(b,.arr k q j es)]}
    |none=>False)
   |_=>False)
  |_,_,_=>False
 | .extract t i=>match ρ t with
  | .p (.aC vs)=>(match vs[i]? with
   |some v=>K {v:=.p v}
   |none=>False)
  | .aC vs=>(match vs[i]? with
   |some v=>K {v}
   |none=>False)
  |_=>False
 | .fieldAddr T a f=>ni P T (ρ a) f K
 | .indexAddr T x i=>nh P T H (ρ x) (ρ i) K
 | .field T x f=>match kindOf P T,P.underlying T,ρ x with
  | .agg u,some (.struct _),.p t=>aL t=.agg u/\(match(bW t)[f]?,(jm P u)[f]? with
   |some g,some F=>kindOf P F=aL g/\K {v:=.p g}
   |_,_=>False)
  |_,_,_=>False
 | .index T x i=>match ρ x,ρ i with
  | .p (.str s),.p (.int _ i)=>iA P T=true/\0<=i/\∃h:i.toNat<s.length,K {v:=.p (.int .u8 (s[i.toNat]'h))}
  | .p (.st u es),.p (.int _ i)=>(match gW P T,(jm P u)[i.toNat]?,es[i.toNat]? with
   |some (u',n),some F,some g=>u'=u/\0<=i/\i.toNat<n/\kindOf P F=aL g/\K {v:=.p g}
   |_,_,_=>False)
  |_,_=>False
 | .makeFunc (.func f) fi ca=>if ag f then(match fD H (fi.toList.map ρ),fD H (ca.toList.map ρ)with
   |some (a,[],[]),some (b,al,aM)=>K {v:=.p (.func f a b),al,aM}
   |_,_=>False)
  else match eE (fi.toList.map ρ),eE (ca.toList.map ρ)with
   |some a,some b=>K {v:=.p (.func f a b)}
   |_,_=>K {v:=.func f (fi.toList.map ρ) (ca.toList.map ρ)}
 | .makeSlice T l c=>match cC P T,ct P (dY P T),ρ l,ρ c with
  |some sz,some z,.p (.int .i64 l),.p (.int .i64 c)=>bD P (aL z)=sz/\0<=l/\l=c/\l<=cW/\K {v:=.sl H.length 0 sz 0 l.toNat,aS:=[.arr .exact 0 sz (ew l.toNat (.p z))]}
  |_,_,_,_=>False
 | .slice T x lo hi A=>match A with
  |none=>nB P T H (ρ x) (lo.map ρ) (hi.map ρ) none K
  |some m=>qh P T H (ρ x) (lo.map ρ) (hi.map ρ) (ρ m) K
 | .makeMap _ none=>K {v:=.map H.length,aS:=[.map false []]}
 | .lookup T x i ok=>match kU P T,ρ i with
  |some (w,E),.p key=>(match ct P E with
   |some z=>fO P w key=true/\(match ρ x with
    | .p .fc=>K {v:=.p (if ok then .aC [z,.bool false]else z)}
    | .p (.dT es)=>(match fE P w es key with
     |some (some v)=>K {v:=.p (if ok then .aC [v,.bool true]else v)}
     |some none=>K {v:=.p (if ok then .aC [z,.bool false]else z)}
     |none=>False)
    | .map b=>(match H[b]? with
     |some (.map fz es)=>(match fE P w es key with
      |some (some v)=>K {v:=.p (if ok then .aC [v,.bool true]else v),al:=[(b,.map fz es)]}
      |some none=>K {v:=.p (if ok then .aC [z,.bool false]else z),al:=[(b,.map fz es)]}
      |none=>False)
     |_=>False)
    |_=>False)
   |none=>False)
  |_,_=>False
 | .mapUpdate T m k x| .insert T m k x=>match kU P T,ρ m,ρ k,ρ x with
  |some (w,_),.map b,.p key,.p v=>fO P w key=true/\(match H[b]? with
   |some (.map false es)=>(match lO P w es key with
    |some _=>K {v:=.p (.aC []),al:=[(b,.map false es)],aM:=[(b,.map false (fN es key v))]}
    |none=>False)
   |_=>False)
  |_,_,_,_=>False
 | .range T x=>match ρ x with
  | .p (.str s)=>iA P T=true/\K {v:=.ptr H.length [],aS:=[.du s 0]}
  |_=>False
 | .next it true=>match ρ it with
  | .ptr b []=>(match H[b]? with
   |some (.du s pos)=>if pos<s.length then
    K {v:=.p (.aC [.bool true,.int .i64 pos,.int .i32 (Utf8.decode (gh s) pos).1]),al:=[(b,.du s pos)],aM:=[(b,.du s (pos+(Utf8.decode (gh s) pos).2))]}
    else K {v:=.p (.aC [.bool false]),al:=[(b,.du s pos)]}
   |_=>False)
  |_=>False
 | .nilCheck x=>match ρ x with
  | .ptr _ _| .bZ _ _ _ _ _| .p (.cm _)=>K {v:=ρ x}
  |_=>False
 | .call c=>match c.callee with
  | .builtin b=>let args:=c.args.toList.map ρ
   let T:=c.argTypes.getD 0 0
   (match b,args with
   | .len,[x]=>(match lenOf H x with
    |some (n,al)=>gR P T x=true/\0<c.argTypes.size/\K {v:=.p (.int .i64 n),al}
    |none=>False)
   | .append,[s,x]=>c.argTypes.size=2/\nq P T (c.argTypes.getD 1 0) H s x K
   | .min,.p (.int k a)::r=>(match lJ k false r a with
    |some n=>K {v:=.p (.int k n)}
    |none=>False)
   | .max,.p (.int k a)::r=>(match lJ k true r a with
    |some n=>K {v:=.p (.int k n)}
    |none=>False)
   | .copy,[d,x]=>(match cC P T,d,gJ H x with
    |some sz,.sl b az ai off len,some xs=>ai=sz/\eM P sz xs/\c.argTypes.size=2/\(match H[b]? with
     |some (.arr k q j es)=>az=q/\ai=j/\k≠.frozen/\off+len<=es.length/\¬(k.gr=true/\es=[])/\
      K {v:=.p (.int .i64 (min xs.length len:Nat)),al:=(b,.arr k q j es)::dB H x,aM:=[(b,.arr k q j (es.take off++xs.take (min xs.length len)++es.drop (off+min xs.length len)))]}
     |_=>False)
    |_,_,_=>False)
   | .cap,[x]=>(match zu H x with
    |some (n,al)=>gR P T x=true/\0<c.argTypes.size/\K {v:=.p (.int .i64 n),al}
    |none=>False)
   | .clear,[x]=>(match x with
    | .p .aO=>gR P T x=true/\0<c.argTypes.size/\K {v:=.p (.aC [])}
    | .sl b az ai off len=>(match cC P T,ct P (dY P T),H[b]? with
     |some sz,some z,some (.arr k q j es)=>az=q/\ai=j/\ai=sz/\bD P (aL z)=sz/\k≠.frozen/\off+len<=es.length/\¬(k.gr=true/\es=[])/\0<c.argTypes.size/\0<len/\
      K {v:=.p (.aC []),al:=[(b,.arr k q j es)],aM:=[(b,.arr k q j (es.take off++ew len (.p z)++es.drop (off+len)))]}
     |_,_,_=>False)
    |_=>False)
   | .unsafeSliceData,[x]=>(match x with
    | .p .aO=>K {v:=.p .dH}
    | .sl b az ai off len=>(match H[b]? with
     |some (.arr k q j es)=>az=q/\ai=j/\((k.gr=true/\es=[]/\K {v:=.p .dH,al:=[(b,.arr k q j es)]})\/(0<len/\off+len<=es.length/\K {v:=.bZ b az ai off [],al:=[(b,.arr k q j es)]}))
     |_=>False)
    |_=>False)
   | .unsafeString,[x,.p (.int .i64 n)]=>(match x with
    | .p .dH=>n=0/\c.argTypes.size=2/\K {v:=.p (.str [])}
    | .bZ b az ai i []=>(match H[b]? with
     |some (.arr .bytes q j es)=>az=q/\ai=j/\ai=1/\i=0/\0<n/\n.toNat<=es.length/\n<=9223372036854775807/\c.argTypes.size=2/\ptrTo P T=some Gl.u8/\P.cellsOf Gl.u8=1/\(match bytesOf (es.take n.toNat)with
      |some l=>K {v:=.p (.str l),al:=[(b,.arr .bytes q j es)],aM:=[(b,.dead)]}
      |none=>False)
     |_=>False)
    |_=>False)
   |_,_=>False)
  |_=>False
 |_=>False
def newAt(a:Nat):List Obj->List (Nat×Obj)
 |[]=>[]
 |o::r=>(a,o)::newAt (a+1) r
structure bY(P:b2)(ah ad:Nat->Prop)(w:b5)(β:Bd)(H:aj)(aF:Nat->Prop)(w':b5)(aK:Bd)(H':aj):Prop where
 bQ:∀k,ad k->aF k
 fresh:∀k,aF k->ad k\/¬ah k
 ext:Ext ah ad w w'
 step:cw β H aK H'
 rel:bU P w' aF aK H' ah
 eP:∀x,aJ H x->aJ H' x
 loop:∀b,gM H b->gM H' b
def Enters(P:b2)(f:ce):Prop:=∀(args:Array b3)(w:b5),(callFunc f args).run P w=.ok (.enter f args) w
def cE(P:b2)(f:ce)(H:aj)(args:List AV)(H':aj)(v:AV):Prop:=
 Enters P f/\∀(w:b5)(ad ah:Nat->Prop)(β:Bd)(a:List b3),bU P w ad β H ah->bF P w ad β H args a->aX (aJ H) args->
  dg P f a.toArray w fun e w'=>∃b aK aF,e=.returned b/\bY P ah ad w β H aF w' aK H'/\aA P w' aF aK H' v b/\aE (aJ H') v
def fh(P:b2)(b:Nat)(H:aj)(args:List AV)(H':aj)(v:AV):Prop:=
 gM H b/\∀(w:b5)(ad ah:Nat->Prop)(β:Bd)(c:List b3),bU P w ad β H ah->bF P w ad β H args c->aX (aJ H) args->
  ∃f tmps assign body,(Instr.yield (β.an b) c.toArray).run P w=.ok (.round (β.an b) f tmps assign body) w/\
   ∀(a:cv)(e:List cv),∃d w' aK aF,c9 P (lone (Frame.round (β.an b) f tmps assign body .normal) (a::e) w) (lone (a.finish d) e w')/\
    bY P ah ad w β H aF w' aK H'/\aA P w' aF aK H' v d/\aE (aJ H') v
def rq(P:b2)(f:ce)(args:List AV)(base:Nat)(e:aW):Prop:=
 Enters P f/\∀(H:aj)(w:b5)(ad ah:Nat->Prop)(β:Bd)(a:List b3),bU P w ad β H ah->bF P w ad β H args a->aX (aJ H) args->
  (∀p∈e.al,H[p.1]?=some p.2)->(∀i,i<e.aS.length->H[base+i]?=some .hole)->
  dg P f a.toArray w fun x w'=>∃b aK aF,x=.returned b/\bY P ah ad w β H aF w' aK (bc H (e.aM++newAt base e.aS))/\
   aA P w' aF aK (bc H (e.aM++newAt base e.aS)) e.v b/\aE (aJ (bc H (e.aM++newAt base e.aS))) e.v
def nO(P:b2)(b:Nat)(args:List AV)(a:Nat)(e:aW):Prop:=
 ∀(H:aj)(w:b5)(ad ah:Nat->Prop)(β:Bd)(d:List b3),bU P w ad β H ah->bF P w ad β H args d->aX (aJ H) args->
  (∀p∈e.al,H[p.1]?=some p.2)->(∀i,i<e.aS.length->H[a+i]?=some .hole)->
  gM H b/\∃f tmps assign body,(Instr.yield (β.an b) d.toArray).run P w=.ok (.round (β.an b) f tmps assign body) w/\
   ∀(c:cv)(h:List cv),∃g w' aK aF,c9 P (lone (Frame.round (β.an b) f tmps assign body .normal) (c::h) w) (lone (c.finish g) h w')/\
    bY P ah ad w β H aF w' aK (bc H (e.aM++newAt a e.aS))/\
    aA P w' aF aK (bc H (e.aM++newAt a e.aS)) e.v g/\aE (aJ (bc H (e.aM++newAt a e.aS))) e.v
def Di(P:b2)(f:ce)(args:List AV)(al:List (Nat×Obj))(v:PV):Prop:=
 ∀(H:aj)(w:b5)(ad ah:Nat->Prop)(β:Bd)(a:List b3),bU P w ad β H ah->bF P w ad β H args a->aX (aJ H) args->(∀p∈al,H[p.1]?=some p.2)->
  ∃b,(callFunc f a.toArray).run P w=.ok (.value b) w/\aD P w ad v b
def nT(H:aj)(e:aW):Prop:=(∀p∈e.al,H[p.1]?=some p.2)/\(∀p∈e.aM,p.1<H.length/\p.2≠.hole)
def rp(P:b2)(f:ce)(args:List PV)(v:PV):Prop:=
 Enters P f/\∀(w:b5)(ad:Nat->Prop)(a:List b3),(∀k,ad k->k<w.heap.size)->mB P w ad->bJ P w ad args a->
  dg P f a.toArray w fun e w'=>∃b,∃aF:Nat->Prop,e=.returned b/\(∀k,ad k->aF k)/\(∀k,aF k->ad k\/w.heap.size<=k)/\(∀k,aF k->k<w'.heap.size)/\
   w.heap.size<=w'.heap.size/\(∀k,k<w.heap.size->w'.heap[k]?=w.heap[k]?)/\(w'.os=w.os/\w'.output=w.output)/\aD P w' aF v b
def QI(P:b2)(f:ce)(args:List PV)(v:PV):Prop:=
 ∀(w:b5)(ad:Nat->Prop)(a:List b3),bJ P w ad args a->∃b,(callFunc f a.toArray).run P w=.ok (.value b) w/\aD P w ad v b
def au(P:b2)(f:ce)(args:List PV)(v:PV):Prop:=rp P f args v\/QI P f args v
def kA(H:aj):AV->Option (PV×aj)
 | .p v=>some (v,H)
 | .sl b az ai off len=>match H[b]? with
  |some (.arr k d a es)=>
   if az=d/\ai=a/\off+len<=es.length then
    if k.gr=true/\es=[]then some (.aO,H)else
    match eE es with
    |some c=>some (.cN (k== .exact&&off+len==es.length) ((c.drop off).take len),H.set b (.arr .frozen az ai es))
    |none=>none
   else none
  |_=>none
 | .ptr b path=>match H[b]? with
  |some (.box _ (.p t))=>match kD t path with
   |some s=>some (.cm s,H.set b (.box true (.p t)))
   |none=>none
  |_=>none
 | .map b=>match H[b]? with
  |some (.map _ es)=>some (.dT es,H.set b (.map true es))
  |_=>none
 |_=>none
def mP(H:aj):List AV->Option (List PV×aj)
 |[]=>some ([],H)
 |x::r=>match kA H x with
  |some (v,H1)=>match mP H1 r with
   |some (vs,a)=>some (v::vs,a)
   |none=>none
  |none=>none
def gO(P:b2)(draw:Bool)(f:ce)(args:List AV)(H:aj)(K:AV->aj->Prop):Prop:=
 (∃vs v,args=vs.map .p/\au P f vs v/\K (.p v) H)\/
 (draw=false/\((∃vs H1 v,mP H args=some (vs,H1)/\au P f vs v/\K (.p v) H1)\/(∃H' v,cE P f H args H' v/\K v H')\/
  (∃e,rq P f args H.length e/\nT H e/\K e.v (bc H e.aM++e.aS))\/(∃al v,Di P f args al v/\(∀p∈al,H[p.1]?=some p.2)/\K (.p v) H)))
def jw(P:b2)(ag:ce->Bool)(draw:Bool)(o:Oper)(K:St->Prop)(s:St):Prop:=
 match o.op with
 | .call {callee:=.value f,args,.. }=>(match ev s.env f with
  | .p (.func g fi ca)=>gO P draw g (fi.map .p++args.toList.map (ev s.env)++ca.map .p) s.heap (fun v H'=>K ⟨put o.dst v s.env,H'⟩)
  | .func g fi ca=>gO P draw g (fi++args.toList.map (ev s.env)++ca) s.heap (fun v H'=>K ⟨put o.dst v s.env,H'⟩)
  | .map b=>∃H' v,fh P b s.heap (args.toList.map (ev s.env)) H' v/\K ⟨put o.dst v s.env,H'⟩
  |_=>False)
 |_=>fu P ag o (ev s.env) s.heap fun e=>K (e.app o.dst s)
def guardOf(a:Array Oper)(j:Nat)(e:Env):AV:=
 match(a[j]?).bind (·.dst)with
 |some d=>aQ e d
 |none=>.p (.aC [])
def gP(P:b2)(ag:ce->Bool)(draw:Bool)(a:Array Oper):List Oper->(St->Prop)->St->Prop
 |[],K,s=>K s
 |o::r,K,s=>match o.guard with
  |none=>jw P ag draw o (gP P ag draw a r K) s
  |some (j,want)=>match guardOf a j s.env with
   | .p (.bool t)=>if t=want then jw P ag draw o (gP P ag draw a r K) s else gP P ag draw a r K ⟨put o.dst (.p (.aC [])) s.env,s.heap⟩
   | .p (.aC [])=>gP P ag draw a r K ⟨put o.dst (.p (.aC [])) s.env,s.heap⟩
   |_=>False
def lV:Obj->Option Obj
 | .box _ (.p t)=>some (.box true (.p t))
 | .arr k az ai es=>if k.gr=true/\es=[]then none else match eE es with
  |some _=>some (.arr .frozen az ai es)
  |none=>none
 | .map _ es=>some (.map true es)
 |_=>none
def ma(H:aj):AV->Option (PV×List Nat)
 | .p v=>some (v,[])
 | .sl b az ai off len=>match H[b]? with
  |some (.arr k d a es)=>
   if az=d/\ai=a/\off+len<=es.length then
    if k.gr=true/\es=[]then none else
    match eE es with
    |some c=>some (.cN (k== .exact&&off+len==es.length) ((c.drop off).take len),[b])
    |none=>none
   else none
  |_=>none
 | .ptr b path=>match H[b]? with
  |some (.box _ (.p t))=>match kD t path with
   |some s=>some (.cm s,[b])
   |none=>none
  |_=>none
 | .map b=>match H[b]? with
  |some (.map _ es)=>some (.dT es,[b])
  |_=>none
 |_=>none
def nN(H:aj):List AV->Option (List PV×List Nat)
 |[]=>some ([],[])
 |x::r=>match ma H x,nN H r with
  |some (v,bs),some (vs,cs)=>some (v::vs,bs++cs)
  |_,_=>none
def kP(H:aj):List Nat->Option (List (Nat×Obj)×List (Nat×Obj))
 |[]=>some ([],[])
 |b::r=>match H[b]?,kP H r with
  |some o,some (al,aM)=>(match lV o with
   |some o'=>some ((b,o)::al,(b,o')::aM)
   |none=>none)
  |_,_=>none
def gU(P:b2)(f:ce)(args:List AV)(H:aj)(K:aW->Prop):Prop:=
 (∃vs v,args=vs.map .p/\au P f vs v/\K {v:=.p v})\/
 (∃vs bs al aM v,nN H args=some (vs,bs)/\kP H bs=some (al,aM)/\au P f vs v/\K {v:=.p v,al,aM})\/
 (∃e,rq P f args H.length e/\nT H e/\K e)\/
 (∃al v,Di P f args al v/\(∀p∈al,H[p.1]?=some p.2)/\K {v:=.p v,al})
def jg(P:b2)(ag:ce->Bool)(o:Oper)(s:St)(K:aW->Prop):Prop:=
 match o.op with
 | .call {callee:=.value f,args,.. }=>(match ev s.env f with
  | .p (.func g fi ca)=>gU P g (fi.map .p++args.toList.map (ev s.env)++ca.map .p) s.heap K
  | .func g fi ca=>gU P g (fi++args.toList.map (ev s.env)++ca) s.heap K
  | .map b=>∃e,nO P b (args.toList.map (ev s.env)) s.heap.length e/\nT s.heap e/\K e
  |_=>False)
 |_=>fu P ag o (ev s.env) s.heap K
structure Touch where
 i:Nat
 rd:List Nat
 wr:List Nat
def nD(a:Nat):List Obj->List Nat
 |[]=>[]
 |_::r=>a::nD (a+1) r
def gL(i a:Nat)(e:aW):Touch:=⟨i,e.al.map (·.1),e.aM.map (·.1)++nD a e.aS⟩
def fP(i b:Nat)(e:aW)(a:List Touch):List Touch:=
 match e.al,e.aM,e.aS with
 |[],[],[]=>a
 |_,_,_=>gL i b e::a
def reach(a:Array Oper):Nat->Nat->Nat->Bool
 |0,_,_=>false
 |f+1,i,j=>match a[j]? with
  |some o=>o.after.toList.any (fun e=>dq .any e&&e.on==i)||o.after.toList.any (fun e=>dq .any e&&decide (i<e.on)&&reach a f i e.on)
  |none=>false
def jd(u t:Touch):Bool:=u.wr.any (fun b=>t.rd.contains b||t.wr.contains b)||u.rd.any (fun b=>t.wr.contains b)
def iy(a:Array Oper):List Touch->Bool
 |[]=>true
 |t::r=>r.all (fun u=>!jd u t||reach a a.size u.i t.i)&&iy a r
def fW(P:b2)(ag:ce->Bool)(a:Array Oper):List Oper->Nat->List Touch->(St->Prop)->St->Prop
 |[],_,acc,K,s=>iy a acc=true/\K s
 |o::r,i,acc,K,s=>match o.guard with
  |none=>jg P ag o s fun e=>fW P ag a r (i+1) (fP i s.heap.length e acc) K (e.app o.dst s)
  |some (j,want)=>match guardOf a j s.env with
   | .p (.bool t)=>if t=want then jg P ag o s fun e=>fW P ag a r (i+1) (fP i s.heap.length e acc) K (e.app o.dst s)
    else fW P ag a r (i+1) acc K ⟨put o.dst (.p (.aC [])) s.env,s.heap⟩
   | .p (.aC [])=>fW P ag a r (i+1) acc K ⟨put o.dst (.p (.aC [])) s.env,s.heap⟩
   |_=>False
inductive bu where|normal|exit (id:Nat)|ret
mutual
def fM(T:aj):PV->AV->Prop
 | .aO,x=>x=.p .aO\/match x with
  | .sl b az _ off len=>az=0/\off=0/\len=0/\∃k z,T[b]?=some (.arr k 0 z [])/\k.gr=true
  |_=>False
 | .st u fs,x=>x=.p (.st u fs)\/match x with
  | .st u' gs=>u=u'/\kG T fs gs
  |_=>False
 |v,x=>x=.p v
def kG(T:aj):List PV->List AV->Prop
 |[],gs=>gs=[]
 |v::vs,gs=>match gs with
  |g::gs=>fM T v g/\kG T vs gs
  |[]=>False
end
mutual
def Gh(T:aj):AV->AV->Prop
 | .p v,x=>fM T v x
 | .st u fs,x=>match x with
  | .st u' gs=>u=u'/\mb T fs gs
  |_=>False
 |a,x=>x=a
def mb(T:aj):List AV->List AV->Prop
 |[],gs=>gs=[]
 |v::vs,gs=>match gs with
  |g::gs=>Gh T v g/\mb T vs gs
  |[]=>False
end
structure o8(s t:St):Prop where
 env:∀x,aQ t.env x=aQ s.env x\/aQ t.env x=.p .undef\/Gh t.heap (aQ s.env x) (aQ t.env x)
 heap:∀(b:Nat)(o:Obj),t.heap[b]?=some o->o=.hole\/s.heap[b]?=some o\/((s.heap[b]?=none\/s.heap[b]?=some .hole)/\∃k z,o=.arr k 0 z []/\k.gr=true)\/(∃v v',s.heap[b]?=some (.box false v)/\o=.box false v'/\Gh t.heap v v')
 gz:∀x,aE (aJ t.heap) (aQ t.env x)
 hrefs:∀(b:Nat)(o:Obj),t.heap[b]?=some o->o.refs (aJ t.heap)
def dc(N:Nat)(s t:St):Prop:=t=s\/(o8 s t/\∀b,b<N->t.heap[b]?=s.heap[b]?)
def je(Q:bu->St->Prop)(j:Option Code)(s:St):Prop:=
 match j with
 |none=>Q .normal s
 |some (.exit id)=>Q (.exit id) s
 |some .ret=>Q .ret s
 |_=>False
def ja(P:b2)(it:AV)(b:Nat)(H:aj)(K:aj->Prop):Prop:=
 match it with
 | .p (.func g fi ca)=>∃H' v,cE P g H (fi.map .p++[.map b]++ca.map .p) H' v/\K H'
 | .func g fi ca=>∃H' v,cE P g H (fi++[.map b]++ca) H' v/\K H'
 |_=>False
def il(b:Nat)(env:Env)(Q:bu->St->Prop)(H:aj):Prop:=
 match H[b]? with
 |some (.loop L)=>L.st≠.busy/\je Q L.pending ⟨env,H.set b (.loop {L with st:=.exhausted})⟩
 |_=>False
abbrev Cx:=Nat×Nat
def cd(P:b2)(ag:ce->Bool)(q:Cx):Code->(bu->St->Prop)->St->Prop
 | .skip,Q,s| .label _,Q,s=>Q .normal s
 | .region _ ops draw,Q,s=>if draw then fW P ag ops ops.toList 0 [] (Q .normal) s else gP P ag false ops ops.toList (Q .normal) s
 | .seq a b,Q,s=>cd P ag q a (fun e s'=>match e with
  | .normal=>cd P ag q b Q s'
  |e=>Q e s') s
 | .cond c a b,Q,s=>match ev s.env c with
  | .p (.bool t)=>if t then cd P ag q a Q s else cd P ag q b Q s
  |_=>False
 | .block id b,Q,s=>cd P ag q b (fun e s'=>match e with
  | .exit i=>if i=id then Q .normal s' else Q (.exit i) s'
  |e=>Q e s') s
 | .scope b,Q,s=>cd P ag q b Q s
 | .loop b,Q,s=>∃I:Nat->St->Prop,(∃n t,dc q.2 s t/\I n t)/\∀n t,I n t->cd P ag q b (fun e s'=>match e with
  | .normal=>∃m g,m<n/\dc q.2 s' g/\I m g
  |e=>Q e s') t
 | .rangeFunc f h a b,Q,s=>q.2<=s.heap.length/\∃d:Env,(∀x,aQ d x=aQ s.env x)/\ja P (ev s.env f) s.heap.length (s.heap++[.loop ⟨.ready,none,q.1,h.toList,a,b,d⟩]) (il s.heap.length s.env Q)
 | .exit id,Q,s=>Q (.exit id) s
 | .ret,Q,s=>Q .ret s
 |_,_,_=>False
def bB(fr:cv)(t:Array b3)(ds:List cc)(todo:List Item):cv:={fr with tmps:=t,defers:=ds,todo,mode:=.run}
section
variable{P:b2}{fr:cv}{t:Array b3}{ds:List cc}{k:List Item}{cs:List cv}{w:b5}
def fx(t:Array b3):ck->b3
 | .tmp x=>t.getD x undef
 | .const v=>v
 | .global g=>.pointer (some ⟨g,0,none⟩)
 | .func f=>.func (.func f) #[] #[]
theorem eval_eq(fr:cv):fr.eval=fx fr.tmps:=by funext x;cases x<;>rfl
theorem aIB:step P (lone (bB fr t ds (.code .skip::k)) cs w)=.next (lone (bB fr t ds k) cs w):=
 cb (by simp[stepG,em,bB])
theorem VW{l:Nat}:step P (lone (bB fr t ds (.code (.label l)::k)) cs w)=.next (lone (bB fr t ds k) cs w):=
 cb (by simp[stepG,em,bB])
theorem UD{id:Nat}:step P (lone (bB fr t ds (.inBlock id::k)) cs w)=.next (lone (bB fr t ds k) cs w):=
 cb (by simp[stepG,em,bB])
theorem UC{b:Code}:step P (lone (bB fr t ds (.inScope b::k)) cs w)=.next (lone (bB fr t ds k) cs w):=
 cb (by simp[stepG,em,bB])
theorem CV{a b:Code}:step P (lone (bB fr t ds (.code (.seq a b)::k)) cs w)=.next (lone (bB fr t ds (.code a::.code b::k)) cs w):=
 cb (by simp[stepG,em,bB])
theorem aIw{c:ck}{x y:Code}{b:Bool}(h:fx t c= .bool b):
 step P (lone (bB fr t ds (.code (.cond c x y)::k)) cs w)=.next (lone (bB fr t ds (.code (if b then x else y)::k)) cs w):=
 cb (by simp[stepG,em,bB,eval_eq,h])
theorem xW{id:Nat}{c:Code}:step P (lone (bB fr t ds (.code (.block id c)::k)) cs w)=.next (lone (bB fr t ds (.code c::.inBlock id::k)) cs w):=
 cb (by simp[stepG,em,bB])
theorem BU{c:Code}:step P (lone (bB fr t ds (.code (.scope c)::k)) cs w)=.next (lone (bB fr t ds (.code c::.inScope c::k)) cs w):=
 cb (by simp[stepG,em,bB])
theorem aIz{c:Code}:step P (lone (bB fr t ds (.code (.loop c)::k)) cs w)=.next (lone (bB fr t ds (.code c::.inLoop c::k)) cs w):=
 cb (by simp[stepG,em,bB])
theorem U1{c:Code}:step P (lone (bB fr t ds (.inLoop c::k)) cs w)=.next (lone (bB fr t ds (.code c::.inLoop c::k)) cs w):=
 cb (by simp[stepG,em,bB])
theorem aIy{id:Nat}{a:List Item}(h:exitTo id k=some a):step P (lone (bB fr t ds (.code (.exit id)::k)) cs w)=.next (lone (bB fr t ds a) cs w):=
 cb (by simp[stepG,em,bB,h])
theorem U0{id:Nat}{a:Array Oper}:
 step P (lone (bB fr t ds (.code (.region id a false)::k)) cs w)=.next (lone (bB fr t ds (.inRegion a (g0 a.size)::k)) cs w):=
 cb (by simp[stepG,em,bB])
theorem aIx{id:Nat}{a:Array Oper}:
 step P (lone (bB fr t ds (.code (.region id a true)::k)) cs w)=
  .next (lone (bB fr t ds (.inRegion a (dp (P.follows .mixedOrders) a (w.tape w.drawn (.order fr.fn id)))::k)) cs {w with drawn:=w.drawn+1}):=
 cb (by simp[stepG,em,bB,choose,Sem.run,Question.forced,Question.cut])
theorem GB{a:Array Oper}:step P (lone (bB fr t ds (.inRegion a []::k)) cs w)=.next (lone (bB fr t ds k) cs w):=
 cb (by simp[stepG,em,bB])
def mQ(dst:Option Tmp)(v:b3)(t:Array b3):Array b3:=
 match dst with
 |some d=>t.setIfInBounds d v
 |none=>t
theorem mX{a:Array Oper}{i:Nat}{r:List Nat}{o:Oper}(c:a[i]?=some o)(v:b3):
 (bB fr t ds (.inRegion a (i::r)::k)).finish v=bB fr (mQ o.dst v t) ds (.inRegion a r::k):=by
 cases b:o.dst<;>simp[Frame.finish,bB,c,b,mQ]
theorem Iu{a:Array Oper}{i:Nat}{r:List Nat}{o:Oper}(b:a[i]?=some o)(c:dl o (yielded a t)=false):
 step P (lone (bB fr t ds (.inRegion a (i::r)::k)) cs w)=.next (lone (bB fr (mQ o.dst undef t) ds (.inRegion a r::k)) cs w):=by
 rw[<-mX b];exact cb (by simp only[bB];simp[stepG,em,b,c])
theorem Ug{o:Oper}(a:∀c,o.op≠ .defer c)(r:Option Nat)(A:Nat->Call->GStep)(B:GStep):
 (match r,o.op with
  |some l,.defer c=>A l c
  |_,_=>B)=B:=by
 cases r with
 |none=>rfl
 |some l=>cases h:o.op<;>first|rfl|exact absurd h (a _)
theorem aIA{a:Array Oper}{i:Nat}{r:List Nat}{o:Oper}{fr:cv}(e:fr.todo= .inRegion a (i::r)::k)(d:a[i]?=some o)(b:∀c,o.op≠ .defer c):
 eo P true fr cs none w=en P true fr cs none (cy (fx fr.tmps) o) w:=by
 simp only[eo,Frame.oper?,e,d,eval_eq];exact Ug b _ _ _
theorem BL{f:Bool}{a:Array Oper}{i:Nat}{r:List Nat}{o:Oper}(b:a[i]?=some o)(e:dl o (yielded a t)=true)(d:∀c,o.op≠ .defer c):
 stepG P f {frame:=bB fr t ds (.inRegion a (i::r)::k),callers:=cs,status:=.running,dying:=none} w=
  en P true (bB fr t ds (.inRegion a (i::r)::k)) cs none (cy (fx t) o) w:=by
 have h:=aIA (P:=P) (cs:=cs) (w:=w) (fr:=bB fr t ds (.inRegion a (i::r)::k)) rfl b d;simp only[bB]at h⊢;simp[stepG,em,b,e,h]
theorem rZ{a:Array Oper}{i:Nat}{r:List Nat}{o:Oper}{n:Next}{b:b3}{w':b5}(d:a[i]?=some o)(h:dl o (yielded a t)=true)
 (e:∀c,o.op≠.defer c)(g:(cy (fx t) o).run P w=.ok n w')(f:n=.value b\/n=.skip/\b=undef):
 step P (lone (bB fr t ds (.inRegion a (i::r)::k)) cs w)=.next (lone (bB fr (mQ o.dst b t) ds (.inRegion a r::k)) cs w'):=by
 rw[<-mX d];refine cb ?_;rw[BL d h e];rcases f with rfl|⟨rfl,rfl⟩<;>simp[en,g,bB]
theorem uq{a:Array Oper}{i:Nat}{r:List Nat}{o:Oper}{f:ce}{args:Array b3}{w':b5}(d:a[i]?=some o)(g:dl o (yielded a t)=true)
 (b:∀c,o.op≠.defer c)(e:(cy (fx t) o).run P w=.ok (.enter f args) w'):
 step P (lone (bB fr t ds (.inRegion a (i::r)::k)) cs w)=.next (lone (Frame.enter P f args .normal) (bB fr t ds (.inRegion a (i::r)::k)::cs) w'):=by
 refine cb ?_;rw[BL d g b];simp[en,e,bB]
theorem HO{a:Array Oper}{i:Nat}{r:List Nat}{o:Oper}{l:Nat}{f:ce}{tmps:Array b3}{assign body:Code}{w':b5}(d:a[i]?=some o)(g:dl o (yielded a t)=true)
 (b:∀c,o.op≠.defer c)(e:(cy (fx t) o).run P w=.ok (.round l f tmps assign body) w'):
 step P (lone (bB fr t ds (.inRegion a (i::r)::k)) cs w)=.next (lone (Frame.round l f tmps assign body .normal) (bB fr t ds (.inRegion a (i::r)::k)::cs) w'):=by
 refine cb ?_;rw[BL d g b];simp[en,e,bB]
end
end Go.ak
namespace Go.ak
variable[Gl]
mutual
theorem aE.mono{S T:Nat×Nat->Prop}(h:∀x,S x->T x):∀v,aE S v->aE T v
 | .p _,_=>by simp[aE]
 | .ptr b _,c| .bZ b _ _ _ _,c| .sl b _ _ _ _,c| .map b,c=>by simp only[aE]at*;exact h _ c
 | .func _ a b,c=>by simp only[aE]at*;exact⟨aX.mono h a c.1,aX.mono h b c.2⟩
 | .st _ fs,c=>by simp only[aE]at*;exact aX.mono h fs c
 | .aC vs,c=>by simp only[aE]at*;exact aX.mono h vs c
theorem aX.mono{S T:Nat×Nat->Prop}(h:∀x,S x->T x):∀vs,aX S vs->aX T vs
 |[],_=>by simp[aX]
 |v::vs,c=>by simp only[aX]at*;exact⟨aE.mono h v c.1,aX.mono h vs c.2⟩
end
structure cK(P:b2)(n:Nat)(ah ad:Nat->Prop)(β:Bd)(s:St)(t:Array b3)(w:b5):Prop where
 heap:bU P w ad β s.heap ah
 env:∀x,aA P w ad β s.heap (aQ s.env x) (t.getD x undef)
 gz:∀x,aE (aJ s.heap) (aQ s.env x)
 size:t.size=n
structure o7(N:Nat)(β:Bd)(H:aj)(aK:Bd)(H':aj):Prop where
 box:∀b,b<N->aJ H (b,0)->mw H' b->mw H b/\aK.an b=β.an b
 it:∀b,b<N->aJ H (b,0)->mA H' b->mA H b/\aK.an b=β.an b
 map:∀b,b<N->aJ H (b,0)->mv H' b->mv H b/\aK.an b=β.an b
 arr:∀b az ai k es,b<N->aJ H (b,az)->fg H' b az ai k es->∃k0 gA,fg H b az ai k0 gA/\gA.length<=es.length/\(dd k es↔dd k0 gA)/\(¬dd k es->aK.an b=β.an b/\aK.cap b=β.cap b)
 loop:∀b,b<N->aJ H (b,0)->gM H' b->gM H b/\aK.an b=β.an b
theorem cw.n{N:Nat}{β:Bd}{H:aj}{aK:Bd}{H':aj}(h:cw β H aK H'):o7 N β H aK H':=
 ⟨fun b _=>h.box b,fun b _=>h.it b,fun b _=>h.map b,fun b az ai k es _=>h.arr b az ai k es,fun b _=>h.loop b⟩
theorem o7.full{β:Bd}{H:aj}{aK:Bd}{H':aj}(h:o7 H.length β H aK H'):cw β H aK H':=by
 have lt:∀b v,aJ H (b,v)->b<H.length:=fun b v⟨o,c,_⟩=>(e7.1 c).1;exact⟨fun b x=>h.box b (lt _ _ x) x,fun b x=>h.it b (lt _ _ x) x,fun b x=>h.map b (lt _ _ x) x,fun b az ai k a x=>h.arr b az ai k a (lt _ _ x) x,fun b x=>h.loop b (lt _ _ x) x⟩
theorem o7.trans{N:Nat}{β l m:Bd}{H H1 j:aj}(h:o7 N β H l H1)(hi:∀x,x.1<N->aJ H x->aJ H1 x)(i:o7 N l H1 m j):o7 N β H m j:=by
 refine⟨?_,?_,?_,?_,?_⟩
 ·intro b a c g;obtain⟨d,a2⟩:=i.box b a (hi (b,0) a c) g;obtain⟨e,f⟩:=h.box b a c d;exact⟨e,a2.trans f⟩
 ·intro b a c g;obtain⟨d,a2⟩:=i.it b a (hi (b,0) a c) g;obtain⟨e,f⟩:=h.it b a c d;exact⟨e,a2.trans f⟩
 ·intro b a c g;obtain⟨d,a2⟩:=i.map b a (hi (b,0) a c) g;obtain⟨e,f⟩:=h.map b a c d;exact⟨e,a2.trans f⟩
 ·intro b az ai k p a c g;obtain⟨k1,q,d,a2,a3,a4⟩:=i.arr b az ai k p a (hi (b,az) a c) g;obtain⟨k0,gA,e,f,n,o⟩:=h.arr b az ai k1 q a c d;refine⟨k0,gA,e,g8 f a2,a3.trans n,fun a=>?_⟩;obtain⟨c1,c2⟩:=a4 a;obtain⟨d1,d2⟩:=o (fun x=>a (a3.2 x));exact⟨c1.trans d1,c2.trans d2⟩
 ·intro b a c g;obtain⟨d,a2⟩:=i.loop b a (hi (b,0) a c) g;obtain⟨e,f⟩:=h.loop b a c d;exact⟨e,a2.trans f⟩
structure dI(N:Nat)(ah ad:Nat->Prop)(w:b5)(β:Bd)(H:aj)(jS aF:Nat->Prop)(w':b5)(aK:Bd)(H':aj):Prop where
 dU:∀k,ah k->jS k
 bQ:∀k,ad k->aF k
 fresh:∀k,aF k->ad k\/¬ah k
 ext:Ext ah ad w w'
 step:o7 N β H aK H'
 eP:∀x,x.1<N->aJ H x->aJ H' x
 loop:∀b,b<N->gM H b->gM H' b
theorem dI.refl(N:Nat)(ah ad:Nat->Prop)(w:b5)(β:Bd)(H:aj):dI N ah ad w β H ah ad w β H:=
 ⟨fun _ h=>h,fun _ h=>h,fun _ h=>.inl h,Ext.refl _ _ _,(cw.refl _ _).n,fun _ _ h=>h,fun _ _ h=>h⟩
theorem Ext.trans{ah ad jS aF:Nat->Prop}{w w1 b:b5}(c:∀k,ah k->jS k)(hi:∀k,ad k->aF k)(h:Ext ah ad w w1)(a:Ext jS aF w1 b):Ext ah ad w b:=
 ⟨g8 h.size a.size,fun k hk=>(a.same k (hk.imp (c k) (hi k))).trans (h.same k hk),a.io.1.trans h.io.1,a.io.2.trans h.io.2⟩
theorem dI.trans{N:Nat}{ah ad g e i f:Nat->Prop}{w w1 j:b5}{β l m:Bd}{H H1 d:aj}(h:dI N ah ad w β H g e w1 l H1)(a:dI N g e w1 l H1 i f j m d):dI N ah ad w β H i f j m d:=
 ⟨fun k x=>a.dU k (h.dU k x),fun k x=>a.bQ k (h.bQ k x),fun k x=>(a.fresh k x).elim (fun y=>h.fresh k y) (fun y=>.inr fun z=>y (h.dU k z)),h.ext.trans h.dU h.bQ a.ext,
  h.step.trans h.eP a.step,fun x c hx=>a.eP x c (h.eP x c hx),fun b c n=>a.loop b c (h.loop b c n)⟩
theorem bY.eZ{P:b2}{N:Nat}{ah ad aF:Nat->Prop}{w w':b5}{β aK:Bd}{H H':aj}(h:bY P ah ad w β H aF w' aK H'):dI N ah ad w β H ah aF w' aK H':=
 ⟨fun _ x=>x,h.bQ,h.fresh,h.ext,h.step.n,fun x _=>h.eP x,fun b _=>h.loop b⟩
section
variable{P:b2}{ah ad aF:Nat->Prop}{w w':b5}{β aK:Bd}{H H':aj}
theorem ff.xI(d:w'.heap=w.heap){b:Nat}{o:Obj}(h:ff P w ad β H ah b o)(i:o.refs (aJ H)):ff P w' ad β H ah b o:=by
 have p:=fun(v:AV) cs j=>br.mono (P:=P) (w:=w) (w':=w') (ad:=ad) (aF:=ad) (β:=β) (aK:=β) (H:=H) (H':=H) (fun _ x=>x) (fun k _=>by rw[d]) (cw.refl β H) v cs j;have q:=fun l(v:List AV) cs j=>bM.mono (P:=P) (w:=w) (w':=w') (ad:=ad) (aF:=ad) (β:=β) (aK:=β) (H:=H) (H':=H) (fun _ x=>x) (fun k _=>by rw[d]) (cw.refl β H) l v cs j;have r:=fun(g:List (PV×PV)) f=>cH.mono (P:=P) (w:=w) (w':=w') (ad:=ad) (aF:=ad) (fun _ x=>x) (fun k _=>by rw[d]) g f;cases o with
 |hole=>trivial
 |dead=>trivial
 |box fz t=>
  obtain⟨cs,T,a,c,e⟩:=h;exact⟨cs,T,by rw[d];exact a,p _ _ i c,e⟩
 |arr k az ai g=>
  rcases h with h|⟨cs,T,m,rest,a,c,e⟩
  ·exact .inl h
  ·exact .inr ⟨cs,T,m,rest,by rw[d];exact a,q _ _ _ i c,e⟩
 |map fz g=>
  obtain⟨f,clock,a,c,e⟩:=h;exact⟨f,clock,by rw[d];exact a,r _ _ c,e⟩
 |du s pos=>
  obtain⟨bs,a,c⟩:=h;exact⟨bs,by rw[d];exact a,c⟩
 |loop L=>
  obtain⟨tmps,defers,fn,a,c,e,n⟩:=h;exact⟨tmps,defers,fn,by rw[d];exact a,c,fun x=>aA.mono (fun _ x=>x) (fun _ _=>by rw[d]) (cw.refl _ _) _ _ (i x) (e x),n⟩
theorem bU.xI(a:w'.heap=w.heap)(h:bU P w ad β H ah):bU P w' ad β H ah:=
 ⟨fun b o c=>(h.cJ b o c).xI a (h.refs b o c),h.inj,h.refs,fun k hk=>by rw[a];exact h.bQ k hk,fun k hk=>by rw[a];exact h.dU k hk,h.ir.mono (fun _ x=>x) (fun _ _=>by rw[a])⟩
theorem bU.mr(h:bU P w ad β H ah){b:Nat}{o:Obj}(e:H[b]?=some o)(d:o.live):β.an b<w.heap.size:=by
 have c:=h.cJ b o e;cases o with
 |hole=>exact d.elim
 |dead=>exact d.elim
 |box fz t=>obtain⟨cs,T,a,_⟩:=c;exact(bl.1 a).1
 |arr k az ai es=>
  rcases c with c|⟨cs,T,f,rest,a,_⟩
  ·exact(d c).elim
  ·exact(bl.1 a).1
 |map fz es=>obtain⟨g,clock,a,_⟩:=c;exact(bl.1 a).1
 |du s pos=>obtain⟨bs,a,_⟩:=c;exact(bl.1 a).1
 |loop L=>obtain⟨_,_,_,a,_⟩:=c;exact(bl.1 a).1
theorem bY.set{b:Nat}{o':Obj}(f:bU P w ad β H ah)(q:b<H.length)(l:∀x,x≠b->aK.an x=β.an x/\aK.cap x=β.cap x)
 (i:∀k,ad k->aF k)(N:∀k,aF k->ad k\/(k=aK.an b/\o'.live))(af:∀k,aF k->k<w'.heap.size)
 (S:w.heap.size<=w'.heap.size)(G:∀k,(k≠aK.an b\/¬o'.live)->k<w.heap.size->w'.heap[k]?=w.heap[k]?)
 (D:o'.live->w.heap.size<=aK.an b\/(aK.an b=β.an b/\(∃o,H[b]?=some o/\o.live)/\((∀k,k=β.an b->w'.heap[k]?=w.heap[k]?)\/¬ad (β.an b))/\¬ah (β.an b)))
 (aN:cw β H aK (H.set b o'))(aj:ff P w' aF aK (H.set b o') ah b o')(ak:o'.refs (aJ (H.set b o')))(ag:∀(o:Obj)(v:Nat),H[b]?=some o->o.has v->o'.has v)(ae:∀L,H[b]?=some (.loop L)->∃B,o'=.loop B)(ac:w'.os=w.os/\w'.output=w.output:=by exact⟨rfl,rfl⟩):
 bY P ah ad w β H aF w' aK (H.set b o'):=by
 have A:∀x o,x≠b->H[x]?=some o->o.live->¬ad (β.an x)->o'.live->β.an x≠aK.an b:=by
  intro x o hx d e j r he;rcases D r with a|⟨a,⟨an,c,g⟩,_⟩
  ·have:=f.mr d e;omega
  ·rw[a]at he;exact hx (f.inj x b o an d c e g j he)
 have R:o'.live->¬ah (aK.an b):=by
  intro e E;rcases D e with a|⟨a,_,_,c⟩
  ·have:=f.dU _ E;omega
  ·rw[a]at E;exact c E
 have p:∀k,ah k\/ad k->w'.heap[k]?=w.heap[k]?:=by
  intro k hk;have O:k<w.heap.size:=hk.elim (f.dU k) (f.bQ k)
  by_cases z:k=aK.an b
  ·by_cases e:o'.live
   ·rcases hk with hk|hk
    ·exact(R e (z▸hk)).elim
    ·rcases D e with a|⟨a,_,c,_⟩
     ·omega
     ·rcases c with c|c
      ·exact c k (z.trans a)
      ·exact(c (by rw[<-a,<-z];exact hk)).elim
   ·exact G k (.inr e) O
  ·exact G k (.inl z) O
 have al:∀x,aJ H x->aJ (H.set b o') x:=by
  rintro⟨x,v⟩ ⟨o,d,Q⟩
  by_cases hx:x=b
  ·subst hx;exact⟨o',by simp[e8 q],ag o v d Q⟩
  ·exact⟨o,by simp only;rw[e6 (hb hx)];exact d,Q⟩
 have hrefs:∀v,aE (aJ H) v->aE (aJ (H.set b o')) v:=aE.mono al;refine⟨i,fun k hk=>(N k hk).imp id (fun(h:k=aK.an b/\o'.live)=>h.1▸R h.2),⟨S,p,ac⟩,aN,⟨?_,?_,?_,af,fun k hk=>g9 (f.dU k hk) S,f.ir.mono i (fun k hk=>p k (.inr hk))⟩,al,?_⟩
 ·intro x o d
  by_cases hx:x=b
  ·subst hx;rw[e8 q]at d;cases d;exact aj
  ·rw[e6 (hb hx)]at d;have n:=f.cJ x o d;have F:=f.refs x o d;have M:=(l x hx).1;have C:=(l x hx).2;have hs:o.live->w'.heap[aK.an x]?=w.heap[β.an x]?:=by
    intro e;rw[M]
    by_cases j:ad (β.an x)
    ·exact p _ (.inr j)
    refine G _ ?_ (f.mr d e)
    by_cases r:o'.live
    ·exact .inl (A x o hx d e j r)
    ·exact .inr r
   have held:∀fz,o.live->cG ad β ah fz x->cG aF aK ah fz x:=by
    intro fz e m;unfold cG at m⊢;rw[M];cases fz with
    |true=>simp only[if_true]at m⊢;exact i _ m
    |false=>
     simp only[b0,if_false]at m⊢;refine⟨fun h=>?_,m.2⟩;rcases N _ h with h|⟨h,r⟩
     ·exact m.1 h
     ·exact A x o hx d e m.1 r h
   cases o with
   |hole=>trivial
   |dead=>trivial
   |box fz t=>
    obtain⟨cs,T,a,c,g,u⟩:=n;exact⟨cs,T,(hs trivial).trans a,br.mono i (fun k hk=>p k (.inr hk)) aN _ _ F c,held _ trivial g,u⟩
   |arr k az ai es=>
    rcases n with n|⟨cs,T,W,rest,a,c,g,u,Y,Z,aa,ab⟩
    ·exact .inl n
    ·by_cases e:dd k es
     ·exact .inl e
     ·refine .inr ⟨cs,T,W,rest,(hs e).trans a,bM.mono i (fun k hk=>p k (.inr hk)) aN _ _ _ F c,g,?_,?_,?_,held _ e aa,ab⟩
      ·rw[C];exact u
      ·rw[C];exact Y
      ·rw[C];exact Z
   |map fz es=>
    obtain⟨X,clock,a,c,g⟩:=n;exact⟨X,clock,(hs trivial).trans a,cH.mono i (fun k hk=>p k (.inr hk)) _ _ c,held _ trivial g⟩
   |du s pos=>
    obtain⟨bs,a,c,g⟩:=n;exact⟨bs,(hs trivial).trans a,c,held _ trivial g⟩
   |loop L=>
    obtain⟨tmps,defers,fn,a,c,g,u⟩:=n;exact⟨tmps,defers,fn,(hs trivial).trans a,c,fun x=>aA.mono i (fun k hk=>p k (.inr hk)) aN _ _ (F x) (g x),held _ trivial u⟩
 ·intro x y U V a c I J j he
  by_cases hx:x=b<;>by_cases hy:y=b
  ·rw[hx,hy]
  ·subst hx;rw[e8 q]at a;cases a;rw[e6 (hb hy)]at c;rw[(l y hy).1]at he;exact(A y V hy c J (fun hi=>j (he▸i _ hi)) I he.symm).elim
  ·subst hy;rw[e8 q]at c;cases c;rw[e6 (hb hx)]at a;rw[(l x hx).1]at he;rw[(l x hx).1]at j;exact(A x U hx a I (fun hi=>j (i _ hi)) J he).elim
  ·rw[e6 (hb hx)]at a;rw[e6 (hb hy)]at c;rw[(l x hx).1,(l y hy).1]at he;rw[(l x hx).1]at j;exact f.inj x y U V a c I J (fun hi=>j (i _ hi)) he
 ·intro x o d
  by_cases hx:x=b
  ·subst hx;rw[e8 q]at d;cases d;exact ak
  ·rw[e6 (hb hx)]at d;have:=f.refs x o d;cases o with
   |box fz t=>exact hrefs _ this
   |arr k az ai es=>exact cV.2 fun v am=>hrefs v (cV.1 this v am)
   |loop L=>exact fun x=>hrefs _ (this x)
   |_=>trivial
 ·rintro x ⟨L,K⟩
  by_cases hx:x=b
  ·subst hx;obtain⟨B,rfl⟩:=ae L K;exact⟨B,e8 q⟩
  ·exact⟨L,by rw[e6 (hb hx)];exact K⟩
end
end Go.ak
namespace Go.ak
variable[Gl]
def bw(P:b2)(o:Oper)(ρ:ck->AV)(a:Nat)(e:aW):Prop:=
 ∀(H:aj)(w:b5)(ad ah:Nat->Prop)(β:Bd)(ρc:ck->b3),
  bU P w ad β H ah->(∀x∈o.op.operands,aA P w ad β H (ρ x) (ρc x)/\aE (aJ H) (ρ x))->(∀p∈e.al,H[p.1]?=some p.2)->(∀i,i<e.aS.length->H[a+i]?=some .hole)->
  ∃n b w' aK aF,(cy ρc o).run P w=.ok n w'/\(n=.value b\/n=.skip/\b=undef)/\
   bY P ah ad w β H aF w' aK (bc H (e.aM++newAt a e.aS))/\aA P w' aF aK (bc H (e.aM++newAt a e.aS)) e.v b/\
   aE (aJ (bc H (e.aM++newAt a e.aS))) e.v
section
variable{P:b2}{ah ad aF:Nat->Prop}{w w':b5}{β aK:Bd}{H H':aj}
theorem bY.refl(h:bU P w ad β H ah):bY P ah ad w β H ad w β H:=
 ⟨fun _ x=>x,fun _ x=>.inl x,Ext.refl _ _ _,cw.refl _ _,h,fun _ x=>x,fun _ x=>x⟩
theorem bw.same{o:Oper}{ρ:ck->AV}{c:Nat}{v:AV}{al:List (Nat×Obj)}
 (h:∀(H:aj)(w:b5)(ad ah:Nat->Prop)(β:Bd)(ρc:ck->b3),bU P w ad β H ah->(∀x∈o.op.operands,aA P w ad β H (ρ x) (ρc x)/\aE (aJ H) (ρ x))->
  (∀p∈al,H[p.1]?=some p.2)->∃a,(cy ρc o).run P w=.ok (.value a) w/\aA P w ad β H v a/\aE (aJ H) v):
 bw P o ρ c {v,al}:=by
 intro H w ad ah β ρc b i g _;obtain⟨a,d,e,f⟩:=h H w ad ah β ρc b i g;exact⟨_,a,w,β,ad,d,.inl rfl,by simpa[newAt,bc]using bY.refl b,by simpa[newAt,bc]using e,by simpa[newAt,bc]using f⟩
theorem bY.trans{j l:Nat->Prop}{w1 n:b5}{o p:Bd}{H1 i:aj}(h:bY P ah ad w β H j w1 o H1)(c:bY P ah j w1 o H1 l n p i):bY P ah ad w β H l n p i:=by
 refine⟨fun k x=>c.bQ k (h.bQ k x),fun k x=>(c.fresh k x).elim (h.fresh k) .inr,h.ext.trans (fun _ x=>x) h.bQ c.ext,⟨?_,?_,?_,?_,?_⟩,c.rel,fun b a=>c.eP b (h.eP _ a),fun b a=>c.loop b (h.loop b a)⟩
 ·intro b a g;obtain⟨d,a2⟩:=c.step.box b (h.eP _ a) g;obtain⟨e,f⟩:=h.step.box b a d;exact⟨e,a2.trans f⟩
 ·intro b a g;obtain⟨d,a2⟩:=c.step.it b (h.eP _ a) g;obtain⟨e,f⟩:=h.step.it b a d;exact⟨e,a2.trans f⟩
 ·intro b a g;obtain⟨d,a2⟩:=c.step.map b (h.eP _ a) g;obtain⟨e,f⟩:=h.step.map b a d;exact⟨e,a2.trans f⟩
 ·intro b az ai k s a g;obtain⟨k1,t,d,a2,a3,a4⟩:=c.step.arr b az ai k s (h.eP _ a) g;obtain⟨k0,gA,e,f,q,r⟩:=h.step.arr b az ai k1 t a d;refine⟨k0,gA,e,g8 f a2,a3.trans q,fun m=>?_⟩;obtain⟨c1,c2⟩:=a4 m;obtain⟨d1,d2⟩:=r (fun x=>m (a3.2 x));exact⟨c1.trans d1,c2.trans d2⟩
 ·intro b a g;obtain⟨d,a2⟩:=c.step.loop b (h.eP _ a) g;obtain⟨e,f⟩:=h.step.loop b a d;exact⟨e,a2.trans f⟩
theorem uj(H:aj)(l r:List (Nat×Obj)):bc H (l++r)=bc (bc H l) r:=by
 induction l generalizing H with
 |nil=>rfl
 |cons p l a=>obtain⟨b,o⟩:=p;simp[bc,a]
theorem oy(H:aj)(l:List (Nat×Obj)):(bc H l).length=H.length:=by
 induction l generalizing H with
 |nil=>rfl
 |cons p l a=>obtain⟨b,o⟩:=p;simp[bc,a]
theorem xd(H T:aj)(l:List (Nat×Obj))(h:∀p∈l,p.1<H.length):bc (H++T) l=bc H l++T:=by
 induction l generalizing H with
 |nil=>rfl
 |cons p l c=>
  obtain⟨b,o⟩:=p;have a:b<H.length:=h (b,o) (by simp);simp only[bc];rw[List.set_append_left _ _ a,c];intro q hq;rw[List.length_set];exact h q (by simp[hq])
theorem A5(H:aj)(l:List Obj):bc (H++ew l.length .hole) (newAt H.length l)=H++l:=by
 induction l generalizing H with
 |nil=>simp[newAt,bc]
 |cons o l a=>
  simp only[newAt,bc,fd,gg];rw[gc _ _ (g7 _)];simp only[Nat.sub_self,gi];have:=a (H++[o]);simp only[gj,List.length_singleton,gm,List.singleton_append]at this;exact this
theorem kK(H:aj)(m b:Nat):(H++ew m Obj.hole)[b]?=if b<H.length then H[b]? else if b<H.length+m then some .hole else none:=by
 by_cases h:b<H.length
 ·simp[h,e9]
 ·rw[fm (by omega)];simp only[List.getElem?_replicate,h,if_false]
  by_cases a:b<H.length+m
  ·simp[a,show b-H.length<m by omega]
  ·simp[a,show¬(b-H.length<m)by omega]
theorem mW{H:aj}{m b:Nat}{o:Obj}(h:(H++ew m Obj.hole)[b]?=some o):H[b]?=some o\/o=.hole:=by
 rw[kK]at h
 split at h
 ·exact .inl h
 ·split at h
  ·exact .inr (by simpa using h.symm)
  ·simp at h
theorem nw(H:aj)(m:Nat)(b:Nat×Nat)(h:aJ H b):aJ (H++ew m Obj.hole) b:=by
 obtain⟨o,a,d⟩:=h;have c:b.1<H.length:=(e7.1 a).1;exact⟨o,by rw[kK,if_pos c];exact a,d⟩
theorem pS(β:Bd)(H:aj)(m:Nat):cw β H β (H++ew m .hole):=by
 refine⟨?_,?_,?_,?_,?_⟩
 ·rintro b _ ⟨fz,t,h⟩;rcases mW h with h|h<;>simp_all [mw]
 ·rintro b _ ⟨fz,t,h⟩;rcases mW h with h|h<;>simp_all [mA]
 ·rintro b _ ⟨fz,t,h⟩;rcases mW h with h|h<;>simp_all [mv]
 ·intro b az ai k a _ h;rcases mW h with h|h
  ·exact⟨k,a,h,g7 _,eq,fun _=>⟨rfl,rfl⟩⟩
  ·simp at h
 ·rintro b _ ⟨L,h⟩;rcases mW h with h|h<;>simp_all [gM]
theorem Obj.uM{S T:Nat×Nat->Prop}(h:∀x,S x->T x):∀{o:Obj},o.refs S->o.refs T
 | .box _ t,a=>aE.mono h t a
 | .arr _ _ _ es,a=>aX.mono h es a
 | .loop _L,a=>fun x=>aE.mono h _ (a x)
 | .hole,_| .dead,_| .map _ _,_| .du _ _,_=>trivial
theorem bU.pn(m:Nat)(h:bU P w ad β H ah):bU P w ad β (H++ew m .hole) ah:=by
 refine⟨?_,?_,?_,h.bQ,h.dU,h.ir⟩
 ·intro b o d;rcases mW d with d|rfl
  ·have e:=h.cJ b o d;have g:=h.refs b o d;have st:=pS β H m;cases o with
   |hole=>trivial
   |dead=>trivial
   |box fz t=>
    obtain⟨cs,T,a,c,f⟩:=e;exact⟨cs,T,a,br.mono (fun _ x=>x) (fun _ _=>rfl) st _ _ g c,f⟩
   |arr k az ai es=>
    rcases e with e|⟨cs,T,l,rest,a,c,f⟩
    ·exact .inl e
    ·exact .inr ⟨cs,T,l,rest,a,bM.mono (fun _ x=>x) (fun _ _=>rfl) st _ _ _ g c,f⟩
   |map fz es=>exact e
   |du s pos=>exact e
   |loop L=>
    obtain⟨tmps,defers,fn,a,c,f,n⟩:=e;exact⟨tmps,defers,fn,a,c,fun x=>aA.mono (fun _ x=>x) (fun _ _=>rfl) st _ _ (g x) (f x),n⟩
  ·trivial
 ·intro x y r u a c i j q p;rcases mW a with a|rfl
  ·rcases mW c with c|rfl
   ·exact h.inj x y r u a c i j q p
   ·exact j.elim
  ·exact i.elim
 ·intro b o d;rcases mW d with d|rfl
  ·exact Obj.uM (nw H m) (h.refs b o d)
  ·trivial
theorem bw.use{o:Oper}{ρ:ck->AV}{e:aW}(h:bw P o ρ H.length e){ρc:ck->b3}(k:bU P w ad β H ah)
 (c:∀x∈o.op.operands,aA P w ad β H (ρ x) (ρc x)/\aE (aJ H) (ρ x))(al:∀p∈e.al,H[p.1]?=some p.2)(aM:∀p∈e.aM,p.1<H.length):
 ∃n a w' aK aF,(cy ρc o).run P w=.ok n w'/\(n=.value a\/n=.skip/\a=undef)/\
  bY P ah ad w β H aF w' aK (bc H e.aM++e.aS)/\aA P w' aF aK (bc H e.aM++e.aS) e.v a/\aE (aJ (bc H e.aM++e.aS)) e.v:=by
 have aN:=pS β H e.aS.length;obtain⟨n,a,w',aK,aF,m,q,d,f,g⟩:=h (H++ew e.aS.length .hole) w ad ah β ρc (k.pn _)
  (fun x hx=>⟨aA.mono (fun _ x=>x) (fun _ _=>rfl) aN _ _ (c x hx).2 (c x hx).1,aE.mono (nw _ _) _ (c x hx).2⟩)
  (fun p s=>by have:=al p s;rw[kK,if_pos (e7.1 this).1];exact this)
  (fun i hi=>by rw[kK,if_neg (by omega),if_pos (by omega)])
 have r:bc (H++ew e.aS.length .hole) (e.aM++newAt H.length e.aS)=bc H e.aM++e.aS:=by
  rw[uj,xd _ _ _ aM];have:=A5 (bc H e.aM) e.aS
  rwa [oy]at this
 rw[r]at d f g;refine⟨n,a,w',aK,aF,m,q,?_,f,g⟩;have l:bY P ah ad w β H ad w β (H++ew e.aS.length .hole):=⟨fun _ x=>x,fun _ x=>.inl x,Ext.refl _ _ _,aN,k.pn _,nw _ _,fun b⟨L,j⟩=>⟨L,by rw[kK,if_pos (e7.1 j).1];exact j⟩⟩
 exact l.trans d
theorem rq.use{f:ce}{args:List AV}{e:aW}(h:rq P f args H.length e)(m:nT H e){c:List b3}(n:bU P w ad β H ah)(r:bF P w ad β H args c)(o:aX (aJ H) args):
 dg P f c.toArray w fun x w'=>∃a aK aF,x=.returned a/\bY P ah ad w β H aF w' aK (bc H e.aM++e.aS)/\aA P w' aF aK (bc H e.aM++e.aS) e.v a/\aE (aJ (bc H e.aM++e.aS)) e.v:=by
 have aN:=pS β H e.aS.length;refine(h.2 (H++ew e.aS.length .hole) w ad ah β c (n.pn _)
  (bF.mono (fun _ x=>x) (fun _ _=>rfl) aN _ _ o r) (aX.mono (nw _ _) _ o)
  (fun p d=>by have:=m.1 p d;rw[kK,if_pos (e7.1 this).1];exact this)
  (fun i hi=>by rw[kK,if_neg (by omega),if_pos (by omega)])).mono ?_
 rintro x w' ⟨a,aK,aF,rfl,g,j,k⟩;have s:bc (H++ew e.aS.length .hole) (e.aM++newAt H.length e.aS)=bc H e.aM++e.aS:=by
  rw[uj,xd _ _ _ (fun p d=>(m.2 p d).1)];have:=A5 (bc H e.aM) e.aS
  rwa [oy]at this
 rw[s]at g j k;have q:bY P ah ad w β H ad w β (H++ew e.aS.length .hole):=⟨fun _ x=>x,fun _ x=>.inl x,Ext.refl _ _ _,aN,n.pn _,nw _ _,fun b⟨L,l⟩=>⟨L,by rw[kK,if_pos (e7.1 l).1];exact l⟩⟩
 exact⟨a,aK,aF,rfl,q.trans g,j,k⟩
end
def lC(P:b2)(ag:ce->Bool):Prop:=
 ∀(o:Oper)(ρ:ck->AV)(H:aj)(K:aW->Prop),(∀v,ρ (.const v)=.p (ofConst v))->fu P ag o ρ H K->
  ∃e,K e/\bw P o ρ H.length e/\(∀p∈e.al,H[p.1]?=some p.2)/\(∀p∈e.aM,p.1<H.length/\p.2≠.hole)
section
variable{P:b2}{ag:ce->Bool}{n:Nat}
theorem G1{w:b5}{ad:Nat->Prop}(v:b3):aD P w ad (ofConst v) v:=by
 unfold ofConst
 split<;>simp[aD]
theorem nF{ah ad:Nat->Prop}{β:Bd}{s:St}{t:Array b3}{w:b5}(h:cK P n ah ad β s t w)(x:ck):
 aA P w ad β s.heap (ev s.env x) (fx t x)/\aE (aJ s.heap) (ev s.env x):=by
 cases x with
 |tmp x=>exact⟨h.env x,h.gz x⟩
 |const v=>exact⟨by simp only[ev,fx,aA];exact G1 v,by simp[ev,aE]⟩
 |global g=>exact⟨by simp only[ev,fx,aA];exact h.heap.ir.val g,by simp[ev,aE]⟩
 |func f=>exact⟨by simp[ev,fx,aA,aD,bJ],by simp[ev,aE]⟩
def iS(n:Nat)(o:Oper):Bool:=
 match o.dst with
 |some d=>decide (d<n)
 |none=>true
theorem uC(e:Env)(dst:Option Tmp)(v:AV)(x:Nat):aQ (put dst v e) x=if dst=some x then v else aQ e x:=by
 cases dst with
 |none=>simp[put]
 |some d=>
  simp only[put,aQ,Option.some.injEq]
  by_cases h:x=d
  ·simp[h]
  ·simp[h,hb h]
theorem VT{n:Nat}{o:Oper}(a:iS n o=true){t:Array b3}(c:t.size=n)(v:b3)(x:Nat):(mQ o.dst v t).getD x undef=if o.dst=some x then v else t.getD x undef:=by
 unfold iS at a;cases b:o.dst with
 |none=>simp[mQ]
 |some d=>
  simp only[b,decide_eq_true_eq]at a;simp only[mQ,Option.some.injEq]
  by_cases h:d=x
  ·subst h;simp[c,a]
  ·simp only[h,if_false,Array.getD_eq_getD_getElem?,Array.getElem?_setIfInBounds_ne h]
theorem Vw{t:Array b3}(dst:Option Tmp)(v:b3):(mQ dst v t).size=t.size:=by cases dst<;>simp[mQ]
theorem cK.put{ah ad aF:Nat->Prop}{β aK:Bd}{s:St}{H':aj}{t:Array b3}{w w':b5}{o:Oper}{v:AV}{b:b3}(h:cK P n ah ad β s t w)(c:iS n o=true)
 (a:bY P ah ad w β s.heap aF w' aK H')(e:aA P w' aF aK H' v b)(d:aE (aJ H') v):
 cK P n ah aF aK ⟨put o.dst v s.env,H'⟩ (mQ o.dst b t) w':=by
 refine⟨a.rel,fun x=>?_,fun x=>?_,by rw[Vw];exact h.size⟩
 ·rw[uC,VT c h.size]
  split
  ·exact e
  ·exact aA.mono a.bQ (fun k hk=>a.ext.same k (.inr hk)) a.step _ _ (h.gz x) (h.env x)
 ·rw[uC]
  split
  ·exact d
  ·exact aE.mono a.eP _ (h.gz x)
theorem IW{H T:aj}{b:Nat×Nat}(h:aJ H b):aJ (H++T) b:=by
 obtain⟨o,a,c⟩:=h;exact⟨o,by rw[e9 (e7.1 a).1];exact a,c⟩
theorem bU.later{ah ad aF:Nat->Prop}{w w':b5}{β:Bd}{H:aj}(h:bU P w ad β H ah)(e:∀k,ad k->aF k)(hf:∀k,aF k->ad k\/w.heap.size<=k)
 (B:∀k,aF k->k<w'.heap.size)(p:w.heap.size<=w'.heap.size)(hs:∀k,k<w.heap.size->w'.heap[k]?=w.heap[k]?)(A:w'.os=w.os/\w'.output=w.output:=by exact⟨rfl,rfl⟩):bY P ah ad w β H aF w' β H:=by
 have same:∀k,ad k->w'.heap[k]?=w.heap[k]?:=fun k hk=>hs k (h.bQ k hk);refine⟨e,fun k hk=>(hf k hk).imp id (fun c a=>by have:=h.dU k a;omega),⟨p,fun k hk=>hs k (hk.elim (h.dU k) (h.bQ k)),A⟩,cw.refl _ _,?_,fun _ x=>x,fun _ x=>x⟩;refine⟨fun b o m=>?_,fun b b' o o' c a D E C=>h.inj b b' o o' c a D E (fun hi=>C (e _ hi)),h.refs,B,fun k hk=>g9 (h.dU k hk) p,h.ir.mono e same⟩;have g:=h.cJ b o m;have n:=h.refs b o m;have held:∀fz,o.live->cG ad β ah fz b->cG aF β ah fz b:=by
  intro fz f l;have:=h.mr m f;unfold cG at l⊢;cases fz with
  |true=>exact e _ l
  |false=>exact⟨fun x=>(hf _ x).elim l.1 (by omega),l.2⟩
 have j:o.live->w'.heap[β.an b]?=w.heap[β.an b]?:=fun f=>hs _ (h.mr m f);cases o with
 |hole=>trivial
 |dead=>trivial
 |box fz t=>
  obtain⟨cs,T,c,a,d,i⟩:=g;exact⟨cs,T,(j trivial).trans c,br.mono e same (cw.refl _ _) _ _ n a,held _ trivial d,i⟩
 |arr k az ai es=>
  rcases g with g|⟨cs,T,q,rest,c,a,d,i,u,v,y,z⟩
  ·exact .inl g
  ·by_cases f:dd k es
   ·exact .inl f
   ·exact .inr ⟨cs,T,q,rest,(j f).trans c,bM.mono e same (cw.refl _ _) _ _ _ n a,d,i,u,v,held _ f y,z⟩
 |map fz es=>
  obtain⟨r,clock,c,a,d⟩:=g;exact⟨r,clock,(j trivial).trans c,cH.mono e same _ _ a,held _ trivial d⟩
 |du s pos=>
  obtain⟨bs,c,a,d⟩:=g;exact⟨bs,(j trivial).trans c,a,held _ trivial d⟩
 |loop L=>
  obtain⟨tmps,defers,fn,c,a,d,i⟩:=g;exact⟨tmps,defers,fn,(j trivial).trans c,a,fun x=>aA.mono e same (cw.refl _ _) _ _ (n x) (d x),held _ trivial i⟩
theorem pV{w:b5}{ad:Nat->Prop}{β:Bd}{H:aj}:∀{a b:List AV}{x y:List b3},bF P w ad β H a x->bF P w ad β H b y->bF P w ad β H (a++b) (x++y)
 |[],b,x,y,h,c=>by simp only[bF]at h;subst h;simpa using c
 |v::a,b,x,y,h,c=>by
  simp only[bF]at h;obtain⟨z,f,rfl,d,e⟩:=h;simp only[gt,bF];exact⟨z,f++y,rfl,d,pV e c⟩
theorem jC{S:Nat×Nat->Prop}{a b:List AV}(h:aX S a)(d:aX S b):aX S (a++b):=by
 rw[cV]at*;intro v c;rcases gx.1 c with c|c
 ·exact h v c
 ·exact d v c
theorem uF{ah ad:Nat->Prop}{β:Bd}{s:St}{t:Array b3}{w:b5}(h:cK P n ah ad β s t w):∀l:List ck,
 bF P w ad β s.heap (l.map (ev s.env)) (l.map (fx t))/\aX (aJ s.heap) (l.map (ev s.env))
 |[]=>by simp[bF,aX]
 |x::l=>by
  have a:=nF h x;have b:=uF h l;simp only[fb,bF,aX];exact⟨⟨_,_,rfl,a.1,b.1⟩,a.2,b.2⟩
end
section
variable{P:b2}{w:b5}{ad ah:Nat->Prop}{β:Bd}{H:aj}
def Bd.at(β:Bd)(b an cap:Nat):Bd:=⟨fun x=>if x=b then an else β.an x,fun x=>if x=b then cap else β.cap x⟩
theorem xP{b:Nat}(f:H[b]?=some .hole)(o':Obj)(an cap:Nat):cw β H (β.at b an cap) (H.set b o'):=by
 have a:∀{x v},aJ H (x,v)->x≠b:=by
  rintro x v ⟨o,d,g⟩ rfl;simp only at d;rw[f]at d;cases d;exact g
 have c:∀{x v},aJ H (x,v)->(H.set b o')[x]?=H[x]?:=fun hx=>e6 (hb (a hx));refine⟨?_,?_,?_,?_,?_⟩
 ·rintro x hx ⟨fz,t,h⟩;rw[c hx]at h;exact⟨⟨fz,t,h⟩,by simp[Bd.at,a hx]⟩
 ·rintro x hx ⟨fz,t,h⟩;rw[c hx]at h;exact⟨⟨fz,t,h⟩,by simp[Bd.at,a hx]⟩
 ·rintro x hx ⟨fz,t,h⟩;rw[c hx]at h;exact⟨⟨fz,t,h⟩,by simp[Bd.at,a hx]⟩
 ·intro x az ai k e hx h;unfold fg at h;rw[c hx]at h;exact⟨k,e,h,g7 _,eq,fun _=>by simp[Bd.at,a hx]⟩
 ·rintro x hx ⟨L,h⟩;rw[c hx]at h;exact⟨⟨L,h⟩,by simp[Bd.at,a hx]⟩
theorem sA(e:bU P w ad β H ah){a:Nat}(b:H[a]?=some .hole){ob:Go.Obj}{o':Obj}{cap:Nat}
 (g:ff P {w with heap:=w.heap.push ob} ad (β.at a w.heap.size cap) (H.set a o') ah a o')(h:o'.refs (aJ (H.set a o'))):
 bY P ah ad w β H ad {w with heap:=w.heap.push ob} (β.at a w.heap.size cap) (H.set a o'):=by
 refine bY.set e (e7.1 b).1 (fun x hx=>by simp[Bd.at,hx]) (fun _ x=>x) (fun _ x=>.inl x) (fun k hk=>by have:=e.bQ k hk;simp;omega) (by simp)
  (fun k _ hk=>by simp[bv,ha hk]) (fun _=>.inl (by simp[Bd.at])) (xP b _ _ _) g h (fun i v c f=>by rw[b]at c;cases c;exact f.elim) (fun L d=>by rw[b]at d;cases d)
theorem uv(w:b5)(a:Go.Obj){k:Nat}(hk:k<w.heap.size):({w with heap:=w.heap.push a}:b5).heap[k]?=w.heap[k]?:=by
 simp[bv,ha hk]
end
section
variable{P:b2}{w:b5}{ad aF ah:Nat->Prop}{β:Bd}{H:aj}
def Row(P:b2)(w:b5)(ad:Nat->Prop)(β:Bd)(H:aj)(ai:Nat)(a:List AV)(b:List (List b3)):Prop:=bM P w ad β H (ew a.length ai) a b
theorem ij{ai:Nat}{a:List (List b3)}:Row P w ad β H ai [] a↔a=[]:=by simp[Row,bM]
theorem qc{ai:Nat}{v:AV}{b:List AV}{a:List (List b3)}:Row P w ad β H ai (v::b) a↔∃c cs,a=c::cs/\br P w ad β H v c/\c.length=ai/\Row P w ad β H ai b cs:=by
 simp[Row,gg,bM]
theorem kJ{ai:Nat}:∀{a b:List AV}{d:List (List b3)},Row P w ad β H ai (a++b) d↔∃c1 c2,d=c1++c2/\Row P w ad β H ai a c1/\Row P w ad β H ai b c2
 |[],b,d=>by
  simp only[List.nil_append];constructor
  ·intro h;exact⟨[],d,rfl,ij.2 rfl,h⟩
  ·rintro⟨c1,c2,rfl,e,f⟩;rw[ij.1 e];simpa using f
 |v::a,b,d=>by
  simp only[gt,qc];constructor
  ·rintro⟨c,cs,rfl,e,f,g⟩;obtain⟨c1,c2,rfl,i,j⟩:=kJ.1 g;exact⟨c::c1,c2,rfl,⟨c,c1,rfl,e,f,i⟩,j⟩
  ·rintro⟨c1,c2,rfl,⟨c,cs,rfl,e,f,g⟩,i⟩;exact⟨c,cs++c2,rfl,e,f,kJ.2 ⟨cs,c2,rfl,g,i⟩⟩
theorem fJ{ai:Nat}:∀{b:List AV}{a:List (List b3)},Row P w ad β H ai b a->a.length=b.length/\a.flatten.length=b.length*ai
 |[],a,h=>by rw[ij]at h;subst h;simp
 |v::b,a,h=>by
  rw[qc]at h;obtain⟨c,cs,rfl,f,d,e⟩:=h;have:=fJ e;simp only[fd,List.flatten_cons,gj,this,d,Nat.succ_mul];exact⟨trivial,by omega⟩
theorem lL{ai:Nat}{a:List PV}{b:List (List b3)}:Row P w ad β H ai (a.map .p) b↔bk P w ad (ew a.length ai) a b:=by
 unfold Row;rw[List.length_map];exact nr
theorem jD{ai:Nat}{d:List AV}{e:List (List b3)}(h:Row P w ad β H ai d e)(off len:Nat)(k:off+len<=d.length):
 ∃a b c,e=a++b++c/\Row P w ad β H ai ((d.drop off).take len) b/\a.flatten.length=off*ai/\Row P w ad β H ai (d.take off) a/\Row P w ad β H ai (d.drop (off+len)) c:=by
 have e1:d=d.take off++((d.drop off).take len++d.drop (off+len)):=by
  rw[<-gy,gb,gb]
 rw[e1,kJ]at h;obtain⟨a,r,rfl,f,g⟩:=h;rw[kJ]at g;obtain⟨b,c,rfl,i,j⟩:=g;refine⟨a,b,c,by simp,i,?_,f,j⟩;have:=(fJ f).2;rw[this,List.length_take,Nat.min_eq_left (by omega)]
theorem lF{cs:Array b3}{T:b4}{fz:Nat×Nat}{an:Nat}(a:w.heap[an]?=some (.cells cs T fz)){pre xs post:List b3}(hc:cs.toList=pre++xs++post):
 gK w an pre.length xs:=by
 intro i hi;have:cs[pre.length+i]?=some xs[i]:=by
  rw[<-Array.getElem?_toList,hc,gm,fm (by omega)];simp only[Nat.add_sub_cancel_left];rw[e9 hi,List.getElem?_eq_getElem hi]
 simp[ej,a,this]
theorem AU(a:List PV)(off len:Nat):(((a.map AV.p).drop off).take len)=((a.drop off).take len).map .p:=by
 rw[<-List.map_drop,<-List.map_take]
theorem lM{H:aj}{b:Nat}{d o:Obj}(c:H[b]?=some d)(e:∀v,d.has v->o.has v):∀x,aJ H x->aJ (H.set b o) x:=by
 rintro⟨x,v⟩ ⟨f,a,h⟩
 by_cases hx:b=x
 ·subst hx;simp only at a;rw[c]at a;cases a;exact⟨o,by simp only;rw[e8 (e7.1 c).1],e v h⟩
 ·exact⟨f,by simp only;rw[e6 hx];exact a,h⟩
theorem rW{b:Nat}{o o':Obj}(l:H[b]?=some o)(hk:(∃f g t,o= .box f t/\o'= .box g t)\/(∃k m v z c,o= .arr k v z c/\o'= .arr m v z c/\¬dd k c/\¬dd m c)\/(∃f g c,o= .map f c/\o'= .map g c)):
 cw β H β (H.set b o'):=by
 have r:b<H.length:=(e7.1 l).1;have i:∀x,x≠b->(H.set b o')[x]?=H[x]?:=fun x hx=>e6 (hb hx);have e:(H.set b o')[b]?=some o':=e8 r;refine⟨?_,?_,?_,?_,?_⟩
 ·rintro x _ ⟨fz,t,h⟩;refine⟨?_,rfl⟩
  by_cases hx:x=b
  ·subst hx;rw[e]at h;cases h;rcases hk with⟨f,g,j,d,a⟩|⟨_,_,_,_,_,_,a,_⟩|⟨_,_,_,_,a⟩
   ·exact⟨f,j,by rw[l,d]⟩
   ·cases a
   ·cases a
  ·rw[i x hx]at h;exact⟨fz,t,h⟩
 ·rintro x _ ⟨s,p,h⟩;refine⟨?_,rfl⟩
  by_cases hx:x=b
  ·subst hx;rw[e]at h;cases h;rcases hk with⟨f,g,j,d,a⟩|⟨_,_,_,_,_,_,a,_⟩|⟨_,_,_,_,a⟩<;>cases a
  ·rw[i x hx]at h;exact⟨s,p,h⟩
 ·rintro x _ ⟨fz,t,h⟩;refine⟨?_,rfl⟩
  by_cases hx:x=b
  ·subst hx;rw[e]at h;cases h;rcases hk with⟨f,g,j,d,a⟩|⟨_,_,_,_,_,_,a,_⟩|⟨f,g,c,d,a⟩
   ·cases a
   ·cases a
   ·exact⟨f,c,by rw[l,d]⟩
  ·rw[i x hx]at h;exact⟨fz,t,h⟩
 ·intro x az ai k c _ h
  by_cases hx:x=b
  ·subst hx;unfold fg at h⊢;rw[e]at h;cases h;rcases hk with⟨f,g,j,d,a⟩|⟨k0,m,v,z,u,d,a,n,q⟩|⟨f,g,c,d,a⟩
   ·cases a
   ·cases a;exact⟨k0,c,by rw[l,d],g7 _,⟨fun x=>(q x).elim,fun x=>(n x).elim⟩,fun _=>⟨rfl,rfl⟩⟩
   ·cases a
  ·unfold fg at h⊢;rw[i x hx]at h;exact⟨k,c,h,g7 _,eq,fun _=>⟨rfl,rfl⟩⟩
 ·rintro x _ ⟨L,h⟩;refine⟨?_,rfl⟩
  by_cases hx:x=b
  ·subst hx;rw[e]at h;cases h;rcases hk with⟨f,g,j,d,a⟩|⟨_,_,_,_,_,_,a,_⟩|⟨_,_,_,_,a⟩<;>cases a
  ·rw[i x hx]at h;exact⟨L,h⟩
theorem cG.s8{fz:Bool}{b:Nat}(h:cG ad β ah fz b):ad (β.an b)\/(¬ad (β.an b)/\¬ah (β.an b)):=by
 cases fz with
 |true=>exact .inl h
 |false=>exact .inr h
theorem sd(d:bU P w ad β H ah){b:Nat}{o o':Obj}(f:H[b]?=some o)(p:o.live)(O:o'.live)(u:∀v,o.has v->o'.has v)(r:∀L,o≠ .loop L)
 (aN:cw β H β (H.set b o'))(N:ad (β.an b)\/(¬ad (β.an b)/\¬ah (β.an b)))
 (aS:∀aF:Nat->Prop,(∀k,ad k->aF k)->aF (β.an b)->ff P w aF β (H.set b o') ah b o')(A:o'.refs (aJ (H.set b o'))):
 ∃aF,bY P ah ad w β H aF w β (H.set b o')/\aF (β.an b):=by
 have n:b<H.length:=(e7.1 f).1
 by_cases hi:ad (β.an b)
 ·
  refine⟨ad,?_,hi⟩;have al:=lM f u;refine⟨fun _ x=>x,fun _ x=>.inl x,Ext.refl _ _ _,aN,⟨?_,?_,?_,d.bQ,d.dU,d.ir⟩,al,fun x⟨L,i⟩=>⟨L,by
   by_cases hx:b=x
   ·subst hx;rw[f]at i;cases i;exact(r L rfl).elim
   ·rw[e6 hx];exact i⟩⟩
  ·intro x l c
   by_cases hx:x=b
   ·subst hx;rw[e8 n]at c;cases c;exact aS ad (fun _ x=>x) hi
   ·rw[e6 (hb hx)]at c;have g:=d.cJ x l c;have q:=d.refs x l c;cases l with
    |hole=>trivial
    |dead=>trivial
    |box fz t=>
     obtain⟨cs,T,a,e,j⟩:=g;exact⟨cs,T,a,br.mono (fun _ x=>x) (fun _ _=>rfl) aN _ _ q e,j⟩
    |arr k az ai es=>
     rcases g with g|⟨cs,T,J,rest,a,e,j⟩
     ·exact .inl g
     ·exact .inr ⟨cs,T,J,rest,a,bM.mono (fun _ x=>x) (fun _ _=>rfl) aN _ _ _ q e,j⟩
    |map fz es=>exact g
    |du s pos=>exact g
    |loop L=>
     obtain⟨tmps,defers,fn,a,e,j,K⟩:=g;exact⟨tmps,defers,fn,a,e,fun x=>aA.mono (fun _ x=>x) (fun _ _=>rfl) aN _ _ (q x) (j x),K⟩
  ·intro x y D W a e S U Q M;have conv:∀(z:Nat)(m:Obj),(H.set b o')[z]?=some m->m.live->∃E:Obj,H[z]?=some E/\E.live:=by
    intro z m B V
    by_cases C:z=b
    ·subst C;exact⟨o,f,p⟩
    ·rw[e6 (hb C)]at B;exact⟨m,B,V⟩
   obtain⟨F,G,c1⟩:=conv x D a S;obtain⟨a2,I,c2⟩:=conv y W e U;exact d.inj x y F a2 G I c1 c2 Q M
  ·intro x l c
   by_cases hx:x=b
   ·subst hx;rw[e8 n]at c;cases c;exact A
   ·rw[e6 (hb hx)]at c;exact Obj.uM al (d.refs x l c)
 ·refine⟨fun k=>ad k\/k=β.an b,?_,.inr rfl⟩;have R:=N.resolve_left hi;exact bY.set d n (fun _ _=>⟨rfl,rfl⟩) (fun _ x=>.inl x) (fun k hk=>hk.imp id (fun h=>⟨h,O⟩)) (fun k hk=>hk.elim (d.bQ k) (fun h=>h▸d.mr f p)) (g7 _)
   (fun _ _ _=>rfl) (fun _=>.inr ⟨rfl,⟨o,f,p⟩,.inl (fun _ _=>rfl),R.2⟩) aN (aS _ (fun _ x=>.inl x) (.inr rfl)) A (fun D v a e=>by rw[f]at a;cases a;exact u v e) (fun L i=>by rw[f]at i;cases i;exact(r L rfl).elim)
theorem II{z:AV}{K:PV}{H1:aj}{v:b3}(d:kA H z=some (K,H1))(j:bU P w ad β H ah)(f:aA P w ad β H z v)(aa:aE (aJ H) z):
 ∃aF,bY P ah ad w β H aF w β H1/\aD P w aF K v:=by
 cases z with
 |p t=>
  simp[kA]at d;obtain⟨rfl,rfl⟩:=d;exact⟨ad,bY.refl j,by simpa[aA]using f⟩
 |sl b az ai off len=>
  simp only[kA]at d
  split at d
  case h_2=>simp at d
  rename_i k ab X i g
  split at d
  case isFalse=>simp at d
  rename_i Q;obtain⟨rfl,rfl,Z⟩:=Q;simp only[aA]at f;obtain⟨_,f⟩:=f;simp only[bR]at f;obtain⟨v1,v2,v3⟩:=f k i g
  split at d
  ·rename_i u;simp at d;obtain⟨rfl,rfl⟩:=d;exact⟨ad,bY.refl j,by simp[aD,v2 u]⟩
  ·rename_i u
   split at d
   case h_2=>simp at d
   rename_i J S;simp at d;obtain⟨rfl,rfl⟩:=d;have A:=lK S;have E:=j.cJ b _ g;rcases E with E|⟨cs,T,F,rest,n,l,r,B,M,N,O,Y⟩
   ·exact(u E).elim
   have I:¬dd .frozen i:=fun h=>by cases h.1
   have aN:cw β H β (H.set b (.arr .frozen az ai i)):=rW g (.inr (.inl ⟨_,_,_,_,_,rfl,rfl,u,I⟩));obtain⟨aF,q,y⟩:=sd j g u (o':=.arr .frozen az ai i) I (fun _ h=>h) (fun _ h=>by cases h) aN O.s8
    (fun aF hi x=>.inr ⟨cs,T,F,rest,n,bM.mono hi (fun _ _=>rfl) aN _ _ _ (j.refs b _ g) l,r,B,M,(fun h=>by cases h),x,fun _ e C=>(by rw[A]at C;simp at C;obtain⟨a,_,rfl⟩:=C;trivial),fun h=>by cases h⟩)
    (by rw[A];exact iO _ _)
   refine⟨aF,q,?_⟩;rw[v3 u];have U:Row P w aF β H ai i F:=bM.mono q.bQ (fun _ _=>rfl) (cw.refl _ _) _ _ _ (j.refs b _ g) l;obtain⟨a,m,c,e1,e2,e3,e4,e5⟩:=jD U off len v1;rw[A,AU,lL]at e2;have D:((J.drop off).take len).length=len:=by
    have:i.length=J.length:=by rw[A];simp
    simp;omega
   simp only[aD];refine⟨β.an b,off*ai,β.cap b-off,ai,m,e2,fun _=>y,?_,?_,?_,none,.inl rfl,?_⟩
   ·rw[<-e3];exact lF n (post:=c.flatten++rest) (by rw[r,e1];simp)
   ·intro hf;simp at hf;rw[D,N hf.1];omega
   ·rw[D];omega
   ·rw[D]
 |ptr b path=>
  simp only[kA]at d
  split at d
  case h_2=>simp at d
  rename_i fz t g
  split at d
  case h_2=>simp at d
  rename_i s hs;simp at d;obtain⟨rfl,rfl⟩:=d;simp only[aA]at f;obtain⟨_,f⟩:=f;simp only[bR]at f;obtain⟨W,V,o,rfl,R,f⟩:=f;obtain⟨rfl,rfl⟩:=f (.inl ⟨fz,_,g⟩);obtain⟨cs,T,n,l,r,B⟩:=j.cJ b _ g;have aN:cw β H β (H.set b (.box true (.p t))):=rW g (.inl ⟨_,_,_,rfl,rfl⟩);obtain⟨aF,q,y⟩:=sd j g trivial (o':=.box true (.p t)) trivial (fun _ h=>h) (fun _ h=>by cases h) aN r.s8
   (fun aF hi x=>⟨cs,T,n,br.mono hi (fun _ _=>rfl) aN _ _ (by simp[aE]) l,x,fun _=>trivial,B.2⟩) (by simp[Obj.refs,aE])
  refine⟨aF,q,?_⟩;have L:aY P w aF t cs.toList:=by simp only[br]at l;exact aY.mono q.bQ (fun _ _=>rfl) _ _ l
  obtain⟨pre,xs,post,e1,e2,e3⟩:=yc L hs R;simp only[aD];refine⟨β.an b,V,xs,e3,y,?_,rfl⟩;rw[<-e2];exact lF n e1
 |map b=>
  simp only[kA]at d
  split at d
  case h_2=>simp at d
  rename_i fz i g;simp at d;obtain⟨rfl,rfl⟩:=d;simp only[aA]at f;obtain⟨_,f⟩:=f;simp only[bR]at f;have f:=f.1 ⟨fz,i,g⟩;obtain⟨G,clock,n,l,r⟩:=j.cJ b _ g;have aN:cw β H β (H.set b (.map true i)):=rW g (.inr (.inr ⟨_,_,_,rfl,rfl⟩));obtain⟨aF,q,y⟩:=sd j g trivial (o':=.map true i) trivial (fun _ h=>h) (fun _ h=>by cases h) aN r.s8
   (fun aF hi x=>⟨G,clock,n,cH.mono hi (fun _ _=>rfl) _ _ l,x⟩) trivial
  refine⟨aF,q,?_⟩;simp only[aD];exact⟨β.an b,G,clock,y,n,cH.mono q.bQ (fun _ _=>rfl) _ _ l,f⟩
 |bZ=>simp[kA]at d
 |func=>simp[kA]at d
 |st=>simp[kA]at d
 |aC=>simp[kA]at d
end
section
variable{P:b2}{ag:ce->Bool}{n N:Nat}
theorem Bt{w:b5}{β:Bd}{ah:Nat->Prop}:∀{e:List AV}{g:List PV}{H H1:aj}{ad:Nat->Prop}{vs:List b3},mP H e=some (g,H1)->bU P w ad β H ah->
 bF P w ad β H e vs->aX (aJ H) e->∃aF,bY P ah ad w β H aF w β H1/\bJ P w aF g vs
 |[],g,H,H1,ad,vs,b,h,c,_=>by
  simp[mP]at b;obtain⟨rfl,rfl⟩:=b;simp only[bF]at c;exact⟨ad,bY.refl h,by simpa[bJ]using c⟩
 |a::e,g,H,H1,ad,vs,b,h,c,f=>by
  simp only[mP]at b
  split at b
  case h_2=>simp at b
  rename_i v o j
  split at b
  case h_2=>simp at b
  rename_i r p k;simp at b;obtain⟨rfl,rfl⟩:=b;simp only[bF]at c;obtain⟨y,n,rfl,k1,k2⟩:=c;simp only[aX]at f;obtain⟨q,d,l⟩:=II j h k1 f.1;obtain⟨i,q1,m⟩:=Bt k d.rel (bF.mono d.bQ (fun _ _=>rfl) d.step _ _ f.2 k2) (aX.mono d.eP _ f.2);refine⟨i,d.trans q1,?_⟩;simp only[bJ];exact⟨y,n,rfl,aD.mono q1.bQ (fun _ _=>rfl) _ _ l,m⟩
def ke(P:b2)(n N:Nat)(fr:cv)(k:List Item)(cs:List cv)(c:Array Oper)(ah ad:Nat->Prop)(w:b5)(β:Bd)(H:aj)(m:c6)(r:List Nat)(b:List cc)(K:St->Prop):Prop:=
 ∃s' aF aK a w',K s'/\c9 P m (lone (bB fr a b (.inRegion c r::k)) cs w')/\cK P n ah aF aK s' a w'/\dI N ah ad w β H ah aF w' aK s'.heap
theorem SU{d:Bool}{o:Oper}{K:St->Prop}{s:St}(h:jw P ag d o K s)(c:Call):o.op≠.defer c:=by
 intro hc;unfold jw at h;rw[hc]at h;simp[fu,hc]at h
variable{fr:cv}{k:List Item}{cs:List cv}{ops:Array Oper}{i:Nat}{r:List Nat}{ds:List cc}
theorem HB{d:Bool}{o:Oper}{f:ck}{F:Array ck}{Z:Array b4}{g:ce}{fi ca:List AV}{K:St->Prop}{s:St}{ah ad:Nat->Prop}{β:Bd}{t:Array b3}{w:b5}
 (W:o.op=.call {callee:=.value f,args:=F,argTypes:=Z})
 (hf:(ev s.env f=.func g fi ca)\/(∃a b,ev s.env f=.p (.func g a b)/\fi=a.map .p/\ca=b.map .p))
 (h:gO P d g (fi++F.toList.map (ev s.env)++ca) s.heap (fun v H'=>K ⟨put o.dst v s.env,H'⟩))
 (m:cK P n ah ad β s t w)(G:iS n o=true)(C:ops[i]?=some o)(M:dl o (yielded ops t)=true):
 ke P n N fr k cs ops ah ad w β s.heap (lone (bB fr t ds (.inRegion ops (i::r)::k)) cs w) r ds K:=by
 have E:=nF m f;obtain⟨y,u,am,ak,ai,aq,ap⟩:∃y u:List b3,fx t f=.func (.func g) y.toArray u.toArray/\bF P w ad β s.heap fi y/\bF P w ad β s.heap ca u/\aX (aJ s.heap) fi/\aX (aJ s.heap) ca:=by
  rcases hf with hf|⟨a,b,hf,rfl,rfl⟩
  ·rw[hf]at E;simp only[aA,aE]at E;obtain⟨⟨y,u,l,j,z⟩,ab,ac⟩:=E;exact⟨y,u,z,l,j,ab,ac⟩
  ·rw[hf]at E;simp only[aA,aD]at E;obtain⟨⟨y,u,l,j,z⟩,_⟩:=E;exact⟨y,u,z,jq.2 l,jq.2 j,iO _ _,iO _ _⟩
 obtain⟨af,ag⟩:=uF m F.toList;have D:=pV (pV ak af) ai;have Q:=jC (jC aq ag) ap;have q:(cy (fx t) o).run P w=(callFunc g (y++F.toList.map (fx t)++u).toArray).run P w:=by
  simp only[cy,W,resolve,am,dk,Sem.run_bind,Sem.run_pure,Result.andThen_ok,invoke];congr 2;simp
 have L:∀c,o.op≠.defer c:=fun c hc=>by rw[W]at hc;cases hc
 have pure:∀(H1:aj)(B:Nat->Prop)(vs:List PV)(v:PV),bY P ah ad w β s.heap B w β H1->bJ P w B vs (y++F.toList.map (fx t)++u)->au P g vs v->
  K ⟨put o.dst (.p v) s.env,H1⟩->ke P n N fr k cs ops ah ad w β s.heap (lone (bB fr t ds (.inRegion ops (i::r)::k)) cs w) r ds K:=by
  intro H1 B vs v A Y I U;rcases I with⟨R,I⟩|I
  ·rw[R]at q;obtain⟨e,w',S,⟨O,aF,H,g1,g2,g3,g4,g5,aa,g6⟩,aN,V,J⟩:=I w B _ A.rel.bQ A.rel.ir Y (bB fr t ds (.inRegion ops (i::r)::k)::cs);subst H;have X:=A.trans (A.rel.later g1 g2 g3 g4 g5 aa);refine⟨_,aF,β,_,w',U,?_,m.put G X (by simpa[aA]using g6) (by simp[aE]),X.eZ⟩;rw[<-mX C];exact(dz (uq C M L q)).trans (ea aN (.one (cx J)))
  ·obtain⟨O,l,j⟩:=I w B _ Y;rw[l]at q;exact⟨_,B,β,_,w,U,.one (rZ C M L q (.inl rfl)),m.put G A (by simpa[aA]using j) (by simp[aE]),A.eZ⟩
 rcases h with⟨vs,v,l,j,z⟩|⟨_,⟨vs,H1,v,l,j,z⟩|⟨H',v,⟨R,l⟩,j⟩|⟨e,T,ao,j⟩|⟨al,v,ae,an,j⟩⟩
 ·exact pure s.heap ad vs v (bY.refl m.heap) (by rw[l]at D;exact jq.1 D) j z
 ·obtain⟨B,ar,av⟩:=Bt l m.heap D Q;exact pure H1 B vs v ar av j z
 ·rw[R]at q;obtain⟨e,w',S,⟨O,aK,aF,H,g1,g2,g3⟩,aN,V,J⟩:=l w ad ah β _ m.heap D Q (bB fr t ds (.inRegion ops (i::r)::k)::cs);subst H;refine⟨_,aF,aK,_,w',j,?_,m.put G g1 g2 g3,g1.eZ⟩;rw[<-mX C];exact(dz (uq C M L q)).trans (ea aN (.one (cx J)))
 ·rw[T.1]at q;obtain⟨x,w',S,⟨O,aK,aF,H,g1,g2,g3⟩,aN,V,J⟩:=T.use ao m.heap D Q (bB fr t ds (.inRegion ops (i::r)::k)::cs);subst H;refine⟨_,aF,aK,_,w',j,?_,m.put G g1 g2 g3,g1.eZ⟩;rw[<-mX C];exact(dz (uq C M L q)).trans (ea aN (.one (cx J)))
 ·obtain⟨O,l,z⟩:=ae s.heap w ad ah β _ m.heap D Q an;rw[l]at q;have A:=bY.refl m.heap;exact⟨_,ad,β,_,w,j,.one (rZ C M L q (.inl rfl)),m.put G A (by simpa[aA]using z) (by simp[aE]),A.eZ⟩
end
end Go.ak
namespace Go.ak
variable[Gl]
section
variable{P:b2}{ag:ce->Bool}{n N:Nat}
variable{fr:cv}{k:List Item}{cs:List cv}{ops:Array Oper}{i:Nat}{r:List Nat}{ds:List cc}
theorem Td{o:Oper}{f:ck}{a:Array ck}{p:Array b4}{b:Nat}{H':aj}{v:AV}{K:St->Prop}{s:St}{ah ad:Nat->Prop}{β:Bd}{t:Array b3}{w:b5}
 (l:o.op=.call {callee:=.value f,args:=a,argTypes:=p})(hf:ev s.env f=.map b)(m:fh P b s.heap (a.toList.map (ev s.env)) H' v)(x:K ⟨put o.dst v s.env,H'⟩)
 (d:cK P n ah ad β s t w)(A:iS n o=true)(j:ops[i]?=some o)(D:dl o (yielded ops t)=true):
 ke P n N fr k cs ops ah ad w β s.heap (lone (bB fr t ds (.inRegion ops (i::r)::k)) cs w) r ds K:=by
 have e:=(nF d f).1;rw[hf]at e;simp only[aA,bO,bR]at e;have B:=e.2.2 m.1;obtain⟨y,z⟩:=uF d a.toList;have h:(cy (fx t) o).run P w=(Instr.yield (β.an b) (a.toList.map (fx t)).toArray).run P w:=by
  simp only[cy,l,resolve,B,dk,Sem.run_bind,Sem.run_pure,Result.andThen_ok,invoke];congr 2;exact Array.ext' (by simp)
 have C:∀c,o.op≠.defer c:=fun c hc=>by rw[l]at hc;cases hc
 obtain⟨g,tmps,assign,body,q,u⟩:=m.2 w ad ah β _ d.heap y z;rw[q]at h;obtain⟨E,w',aK,aF,g1,g2,g3,g4⟩:=u (bB fr t ds (.inRegion ops (i::r)::k)) cs;refine⟨_,aF,aK,_,w',x,?_,d.put A g2 g3 g4,g2.eZ⟩;rw[<-mX j];exact(dz (HO j D C h)).trans g1
theorem Ji(y:lC P ag){d:Bool}{o:Oper}{K:St->Prop}{s:St}{ah ad:Nat->Prop}{β:Bd}{t:Array b3}{w:b5}
 (h:jw P ag d o K s)(a:cK P n ah ad β s t w)(c:iS n o=true)(j:ops[i]?=some o)(l:dl o (yielded ops t)=true):
 ke P n N fr k cs ops ah ad w β s.heap (lone (bB fr t ds (.inRegion ops (i::r)::k)) cs w) r ds K:=by
 have E:=SU h;have z:fu P ag o (ev s.env) s.heap (fun e=>K (e.app o.dst s))->ke P n N fr k cs ops ah ad w β s.heap (lone (bB fr t ds (.inRegion ops (i::r)::k)) cs w) r ds K:=by
  intro h;obtain⟨e,m,hs,al,aM⟩:=y o _ _ _ (fun v=>rfl) h;obtain⟨nx,I,w',aK,aF,A,B,u,C,D⟩:=hs.use a.heap (fun x _=>nF a x) al (fun p F=>(aM p F).1);exact⟨_,aF,aK,_,w',m,.one (rZ j l E A B),a.put c u C D,u.eZ⟩
 unfold jw at h
 split at h
 ·rename_i f args H q
  split at h
  ·rename_i g fi ca hf;exact HB q (.inr ⟨fi,ca,hf,rfl,rfl⟩) h a c j l
  ·rename_i g fi ca hf;exact HB q (.inl hf) h a c j l
  ·rename_i b hf;obtain⟨H',v,G,m⟩:=h;exact Td q hf G m a c j l
  ·exact h.elim
 ·exact z h
theorem ke.mono{m:c6}{K a:St->Prop}{ah ad:Nat->Prop}{w:b5}{β:Bd}{H:aj}(h:ke P n N fr k cs ops ah ad w β H m r ds K)(hk:∀s,K s->a s):ke P n N fr k cs ops ah ad w β H m r ds a:=by
 obtain⟨s',aF,aK,t',w',b,c⟩:=h;exact⟨s',aF,aK,t',w',hk _ b,c⟩
theorem xw{s:St}{ah ad:Nat->Prop}{β:Bd}{t:Array b3}{w:b5}(e:cK P n ah ad β s t w)(l:∀o∈ops.toList,iS n o=true)(j:Nat):
 (∀b,guardOf ops j s.env=.p (.bool b)->yielded ops t j=some b)/\(guardOf ops j s.env=.p (.aC [])->yielded ops t j=none):=by
 unfold guardOf yielded;cases k:ops[j]? with
 |none=>simp
 |some f=>
  simp only[Option.bind_some];cases g:f.dst with
  |none=>simp
  |some d=>
   simp only[Option.bind_some];have h:d<t.size:=by
    have:=l f (by rw[bp];exact bo k);unfold iS at this;rw[g]at this;rw[e.size];simpa using this
   have a:=e.env d;have i:t[d]?=some (t.getD d undef):=by simp[Array.getD,h]
   rw[i];constructor
   ·intro b c;rw[c]at a;simp only[aA,aD]at a;rw[a]
   ·intro c;rw[c]at a;simp only[aA,aD,bJ]at a;obtain⟨xs,rfl,a⟩:=a;rw[a]
theorem Ii(f:lC P ag){d:Bool}(x:∀o∈ops.toList,iS n o=true):∀(l:List Oper)(i:Nat){K:St->Prop}{s:St}{ah ad:Nat->Prop}{β:Bd}{t:Array b3}{w:b5},
 ops.toList.drop i=l->gP P ag d ops l K s->cK P n ah ad β s t w->
 ke P n N fr k cs ops ah ad w β s.heap (lone (bB fr t ds (.inRegion ops (fl i l.length)::k)) cs w) [] ds K
 |[],i,K,s,ah,ad,β,t,w,v,h,a=>⟨s,ad,β,t,w,h,eb _ _,a,dI.refl _ _ _ _ _ _⟩
 |o::l,i,K,s,ah,ad,β,t,w,v,h,a=>by
  have e:ops[i]?=some o:=by
   have:(ops.toList.drop i)[0]?=some o:=by rw[v];rfl
   rw[List.getElem?_drop]at this;simpa using this
  have F:ops.toList.drop (i+1)=l:=by
   rw[<-gy,v];rfl
  have u:iS n o=true:=x o (by rw[bp];exact bo e);have g:∀{ah ad w β H}{m:c6},ke P n N fr k cs ops ah ad w β H m (fl (i+1) l.length) ds (gP P ag d ops l K)->ke P n N fr k cs ops ah ad w β H m [] ds K:=by
   intro ah ad w β H m E;obtain⟨s',aF,aK,L,w',A,B,C,D⟩:=E;obtain⟨s2,z,J,t2,I,g1,g2,g3,g4⟩:=Ii f x l (i+1) F A C;exact⟨s2,z,J,t2,I,g1,B.trans g2,g3,D.trans g4⟩
  rw[fd,List.range'_succ]
  have skip:gP P ag d ops l K ⟨put o.dst (.p (.aC [])) s.env,s.heap⟩->dl o (yielded ops t)=false->
   ke P n N fr k cs ops ah ad w β s.heap (lone (bB fr t ds (.inRegion ops (i::fl (i+1) l.length)::k)) cs w) [] ds K:=by
   intro hk G;refine g ⟨_,ad,β,_,w,hk,.one (Iu e G),a.put u (bY.refl a.heap) (by simp[aA,aD,bJ,undef]) (by simp[aE]),dI.refl _ _ _ _ _ _⟩
  simp only[gP]at h
  split at h
  ·rename_i c;exact g (Ji f h a u e (by simp[dl,c]))
  ·rename_i j M c;obtain⟨g1,g2⟩:=xw a x j
   split at h
   ·rename_i b q;have y:=g1 b q
    split at h
    ·rename_i r;exact g (Ji f h a u e (by simp[dl,c,y,r]))
    ·rename_i r;exact skip h (by simp[dl,c,y,r])
   ·rename_i q;exact skip h (by simp[dl,c,g2 q])
   ·exact h.elim
theorem aHe{H:aj}{b v:Nat}(h:H[b]?=none\/H[b]?=some .hole):¬aJ H (b,v):=by
 rintro⟨o,a,c⟩;rcases h with h|h
 ·simp only at a;rw[h]at a;cases a
 ·simp only at a;rw[h]at a;cases a;exact c
theorem o8.step{s s':St}{β:Bd}(hf:o8 s s'):cw β s.heap β s'.heap:=by
 refine⟨?_,?_,?_,?_,?_⟩
 ·rintro b _ ⟨fz,t,a⟩;rcases hf.heap b _ a with h|h|⟨_,k,z,h,_⟩|⟨v,v',h,_,_⟩
  ·cases h
  ·exact⟨⟨fz,t,h⟩,rfl⟩
  ·cases h
  ·exact⟨⟨_,_,h⟩,rfl⟩
 ·rintro b _ ⟨fz,t,a⟩;rcases hf.heap b _ a with h|h|⟨_,k,z,h,_⟩|⟨v,v',_,h,_⟩
  ·cases h
  ·exact⟨⟨fz,t,h⟩,rfl⟩
  ·cases h
  ·cases h
 ·rintro b _ ⟨fz,t,a⟩;rcases hf.heap b _ a with h|h|⟨_,k,z,h,_⟩|⟨v,v',_,h,_⟩
  ·cases h
  ·exact⟨⟨fz,t,h⟩,rfl⟩
  ·cases h
  ·cases h
 ·intro b az ai k c hi a;rcases hf.heap b _ a with h|h|⟨d,_⟩|⟨v,v',_,h,_⟩
  ·cases h
  ·exact⟨k,c,h,g7 _,eq,fun _=>⟨rfl,rfl⟩⟩
  ·exact(aHe d hi).elim
  ·cases h
 ·rintro b _ ⟨L,a⟩;rcases hf.heap b _ a with h|h|⟨_,k,z,h,_⟩|⟨v,v',_,h,_⟩
  ·cases h
  ·exact⟨⟨L,h⟩,rfl⟩
  ·cases h
  ·cases h
section Z3
variable{w:b5}{ad:Nat->Prop}{β:Bd}{T:aj}
theorem NO{b az ai off len:Nat}(h:az=0/\off=0/\len=0/\∃k z,T[b]?=some (.arr k 0 z [])/\k.gr=true):bO P β T (.sl b az ai off len) (.slice none 0 0):=by
 obtain⟨rfl,rfl,rfl,k,z,c,d⟩:=h;refine⟨by simp[ec],fun f e a=>?_⟩;unfold fg at a;rw[c]at a;cases a;exact⟨by simp,fun _=>rfl,fun h=>(h ⟨d,rfl⟩).elim⟩
mutual
theorem fM.cells:∀(v:PV)(x:AV)(cs:List b3),fM T v x->aY P w ad v cs->br P w ad β T x cs
 | .aO,x,cs,h,hc=>by
  simp only[fM]at h;rcases h with rfl|h
  ·simpa only[br]using hc
  ·cases x<;>simp only at h<;>try exact h.elim
   simp only[aY]at hc;simp only[br];exact⟨_,hc,NO h⟩
 | .st u fs,x,cs,h,hc=>by
  simp only[fM]at h;rcases h with rfl|h
  ·simpa only[br]using hc
  ·cases x<;>simp only at h<;>try exact h.elim
   obtain⟨rfl,h⟩:=h;simp only[aY]at hc;obtain⟨l,a,d,e,f⟩:=hc;simp only[br];exact⟨l,a,d,kG.cells l fs _ a h e,f⟩
 | .undef,x,cs,h,hc| .bool _,x,cs,h,hc| .int _ _,x,cs,h,hc| .str _,x,cs,h,hc| .dH,x,cs,h,hc| .cm _,x,cs,h,hc| .cN _ _,x,cs,h,hc| .seq _,x,cs,h,hc| .fc,x,cs,h,hc| .dT _,x,cs,h,hc| .func _ _ _,x,cs,h,hc| .gD,x,cs,h,hc| .gd,x,cs,h,hc| .aC _,x,cs,h,hc=>by
  simp only[fM]at h;subst h;simpa only[br]using hc
theorem kG.cells:∀(l:List Nat)(fs:List PV)(b:List AV)(a:List (List b3)),kG T fs b->bk P w ad l fs a->bM P w ad β T l b a
 |l,[],b,a,h,hc=>by
  simp only[kG]at h;subst h;cases l<;>simp_all [bM,bk]
 |l,v::vs,b,a,h,hc=>by
  cases b with
  |nil=>simp[kG]at h
  |cons g b=>
   simp only[kG]at h;cases l with
   |nil=>simp[bk]at hc
   |cons n l=>
    simp only[bk]at hc;obtain⟨c,cs,d,e,f,i⟩:=hc;simp only[bM];exact⟨c,cs,d,fM.cells v g c h.1 e,f,kG.cells l vs b cs h.2 i⟩
end
theorem fM.Ea(v:PV)(x:AV)(y:b3)(h:fM T v x)(hc:aD P w ad v y):aA P w ad β T x y:=by
 cases v
 case aO=>
  simp only[fM]at h;rcases h with rfl|h
  ·simpa only[aA]using hc
  ·cases x<;>simp only at h<;>try exact h.elim
   simp only[aD]at hc;subst hc;simp only[aA];exact NO h
 case st u fs=>
  simp only[fM]at h;rcases h with rfl|h
  ·simpa only[aA]using hc
  ·cases x<;>simp only at h<;>try exact h.elim
   obtain⟨rfl,h⟩:=h;simp only[aD]at hc;obtain⟨l,a,b,c,d⟩:=hc;simp only[aA];exact⟨l,a,b,kG.cells l fs _ a h c,d⟩
 all_goals simp only[fM]at h;subst h;simpa only[aA]using hc
mutual
theorem Gh.cells:∀(v x:AV)(cs:List b3),Gh T v x->br P w ad β T v cs->br P w ad β T x cs
 | .p v,x,cs,h,hc=>by simp only[Gh]at h;simp only[br]at hc;exact fM.cells v x cs h hc
 | .st u fs,x,cs,h,hc=>by
  simp only[Gh]at h;cases x<;>simp only at h<;>try exact h.elim
  obtain⟨rfl,h⟩:=h;simp only[br]at hc⊢;obtain⟨l,a,d,e,f⟩:=hc;exact⟨l,a,d,mb.cells l fs _ a h e,f⟩
 | .ptr _ _,x,cs,h,hc| .bZ _ _ _ _ _,x,cs,h,hc| .sl _ _ _ _ _,x,cs,h,hc| .map _,x,cs,h,hc| .func _ _ _,x,cs,h,hc| .aC _,x,cs,h,hc=>by simp only[Gh]at h;subst h;exact hc
theorem mb.cells:∀(l:List Nat)(fs b:List AV)(a:List (List b3)),mb T fs b->bM P w ad β T l fs a->bM P w ad β T l b a
 |l,[],b,a,h,hc=>by simp only[mb]at h;subst h;exact hc
 |l,v::vs,b,a,h,hc=>by
  cases b with
  |nil=>simp[mb]at h
  |cons g b=>
   simp only[mb]at h;cases l with
   |nil=>simp[bM]at hc
   |cons n l=>
    simp only[bM]at hc⊢;obtain⟨c,cs,d,e,f,i⟩:=hc;exact⟨c,cs,d,Gh.cells v g c h.1 e,f,mb.cells l vs b cs h.2 i⟩
end
theorem Gh.Ea(v x:AV)(y:b3)(h:Gh T v x)(hc:aA P w ad β T v y):aA P w ad β T x y:=by
 cases v
 case p v=>simp only[Gh]at h;simp only[aA]at hc;exact fM.Ea v x y h hc
 case st u fs=>
  simp only[Gh]at h;cases x<;>simp only at h<;>try exact h.elim
  obtain⟨rfl,h⟩:=h;simp only[aA]at hc⊢;obtain⟨l,a,b,c,d⟩:=hc;exact⟨l,a,b,mb.cells l fs _ a h c,d⟩
 all_goals simp only[Gh]at h;subst h;exact hc
theorem fM.aL{v:PV}{x:AV}(h:fM T v x):aa x=ak.aL v:=by
 cases v
 case aO=>
  simp only[fM]at h;rcases h with rfl|h
  ·rfl
  ·cases x<;>simp only at h<;>first|exact h.elim|rfl
 case st u fs=>
  simp only[fM]at h;rcases h with rfl|h
  ·rfl
  ·cases x<;>simp only at h<;>try exact h.elim
   simp[aa,ak.aL,h.1]
 all_goals simp only[fM]at h;subst h;rfl
theorem Gh.aL{v x:AV}(h:Gh T v x):aa x=aa v:=by
 cases v
 case p v=>simp only[Gh]at h;exact h.aL
 case st u fs=>
  simp only[Gh]at h;cases x<;>simp only at h<;>try exact h.elim
  simp[aa,h.1]
 all_goals simp only[Gh]at h;subst h;rfl
end Z3
theorem dc.eZ{s s':St}{β:Bd}{ah ad:Nat->Prop}{w:b5}(hf:dc N s s'):dI N ah ad w β s.heap ah ad w β s'.heap:=by
 rcases hf with rfl|hf
 ·exact dI.refl _ _ _ _ _ _
 ·exact⟨fun _ h=>h,fun _ h=>h,fun _ h=>.inl h,Ext.refl _ _ _,hf.1.step.n,fun x a⟨o,e,d⟩=>⟨o,by rw[hf.2 _ a];exact e,d⟩,fun b a⟨L,c⟩=>⟨L,by rw[hf.2 _ a];exact c⟩⟩
theorem o8.rel{s s':St}{ah ad:Nat->Prop}{β:Bd}{t:Array b3}{w:b5}(hf:o8 s s')(h:cK P n ah ad β s t w):cK P n ah ad β s' t w:=by
 have aN:cw β s.heap β s'.heap:=hf.step;refine⟨⟨?_,?_,hf.hrefs,h.heap.bQ,h.heap.dU,h.heap.ir⟩,fun x=>?_,hf.gz,h.size⟩
 ·intro b o E;rcases hf.heap b o E with rfl|g|⟨_,k,z,rfl,hk⟩|⟨v,v',g,rfl,r⟩
  ·trivial
  rotate_left
  ·exact .inl ⟨hk,rfl⟩
  ·have d:=h.heap.cJ b _ g;have i:=h.heap.refs b _ g;obtain⟨cs,T,a,c,e,q,C⟩:=d;exact⟨cs,T,a,Gh.cells _ _ _ r (br.mono (fun _ x=>x) (fun _ _=>rfl) aN _ _ i c),e,(fun h=>by cases h),by rw[r.aL];exact C⟩
  ·have d:=h.heap.cJ b o g;have i:=h.heap.refs b o g;cases o with
   |hole=>trivial
   |dead=>trivial
   |box fz t=>
    obtain⟨cs,T,a,c,e⟩:=d;exact⟨cs,T,a,br.mono (fun _ x=>x) (fun _ _=>rfl) aN _ _ i c,e⟩
   |arr k az ai es=>
    rcases d with d|⟨cs,T,B,rest,a,c,e⟩
    ·exact .inl d
    ·exact .inr ⟨cs,T,B,rest,a,bM.mono (fun _ x=>x) (fun _ _=>rfl) aN _ _ _ i c,e⟩
   |map fz es=>exact d
   |du s pos=>exact d
   |loop L=>
    obtain⟨tmps,defers,fn,a,c,e,q⟩:=d;exact⟨tmps,defers,fn,a,c,fun x=>aA.mono (fun _ x=>x) (fun _ _=>rfl) aN _ _ (i x) (e x),q⟩
 ·intro x y H I a c m p D f;have A:∀{z:Nat}{o:Obj},s'.heap[z]?=some o->o.live->∃o',s.heap[z]?=some o'/\o'.live:=by
   intro z o j l;rcases hf.heap z o j with rfl|j|⟨_,k,_,rfl,hk⟩|⟨v,v',j,_,_⟩
   ·exact l.elim
   ·exact⟨o,j,l⟩
   ·exact(l ⟨hk,rfl⟩).elim
   ·exact⟨_,j,trivial⟩
  obtain⟨F,a,m⟩:=A a m;obtain⟨G,c,p⟩:=A c p;exact h.heap.inj x y F G a c m p D f
 ·have u:=aA.mono (fun _ x=>x) (fun _ _=>rfl) aN _ _ (h.gz x) (h.env x);rcases hf.env x with f|f|f
  ·rw[f];exact u
  ·rw[f];simp[aA,aD]
  ·exact Gh.Ea _ _ _ f u
theorem dc.rel{s s':St}{ah ad:Nat->Prop}{β:Bd}{t:Array b3}{w:b5}(hf:dc N s s')(h:cK P n ah ad β s t w):cK P n ah ad β s' t w:=by
 rcases hf with rfl|hf
 ·exact h
 ·exact hf.1.rel h
def mJ(P:b2)(fr:cv)(k:List Item)(cs:List cv)(m:c6)(t:Array b3)(ds:List cc)(w:b5):bu->Prop
 | .normal=>c9 P m (lone (bB fr t ds k) cs w)
 | .exit id=>∃a,exitTo id a=exitTo id k/\c9 P m (lone (bB fr t ds (.code (.exit id)::a)) cs w)
 | .ret=>∃a,c9 P m (lone (bB fr t ds (.code .ret::a)) cs w)
theorem mJ.of_steps{m f:c6}{t:Array b3}{ds:List cc}{w:b5}{e:bu}(h:c9 P m f)(c:mJ P fr k cs f t ds w e):mJ P fr k cs m t ds w e:=by
 cases e with
 |normal=>exact h.trans c
 |exit id=>obtain⟨d,a,b⟩:=c;exact⟨d,a,h.trans b⟩
 |ret=>obtain⟨d,b⟩:=c;exact⟨d,h.trans b⟩
def mark(r:Nat):cc:={target:=.collected r,args:=#[]}
def Marks(fr:cv)(ah:Nat->Prop)(w:b5)(jS aF:Nat->Prop)(w':b5)(b c:List cc):Prop:=
 ∃a:List Nat,c=a.map mark++b/\a.Nodup/\(∀r∈a,w.heap.size<=r/\jS r/\¬aF r/\w'.heap[r]?=some (.deferred (some [])))/\(∀k,jS k->ah k\/k∈a)/\(fr.roundOf.isSome=true->a=[])
theorem Marks.refl(fr:cv)(ah aF:Nat->Prop)(w w':b5)(ds:List cc):Marks fr ah w ah aF w' ds ds:=⟨[],rfl,List.nodup_nil,by simp,fun _ h=>.inl h,fun _=>rfl⟩
theorem Marks.trans{fr:cv}{N:Nat}{ah ad d e g f:Nat->Prop}{w w1 l:b5}{β p B:Bd}{H H1 q:aj}{ds m n:List cc}(h:Marks fr ah w d e w1 ds m)(i:dI N ah ad w β H d e w1 p H1)
 (s:Marks fr d w1 g f l m n)(j:dI N d e w1 p H1 g f l B q):Marks fr ah w g f l ds n:=by
 obtain⟨rs,rfl,t,o,u,v⟩:=h;obtain⟨A,rfl,g2,g3,g4,g5⟩:=s;refine⟨A++rs,by simp,?_,?_,?_,fun hx=>by simp[v hx,g5 hx]⟩
 ·rw[List.nodup_append];refine⟨g2,t,fun a i b y x=>?_⟩;subst x;have C:=(g3 a i).1;have D:=(bl.1 (o a y).2.2.2).1;omega
 ·intro r c;rcases gx.1 c with c|c
  ·obtain⟨k1,k2⟩:=g3 r c;exact⟨g8 i.ext.size k1,k2⟩
  ·obtain⟨k1,k2,k3,k4⟩:=o r c;exact⟨k1,j.dU _ k2,fun hx=>(j.fresh _ hx).elim k3 (fun z=>z k2),(j.ext.same _ (.inl k2)).trans k4⟩
 ·intro k hk;rcases g4 k hk with hk|hk
  ·rcases u k hk with hk|hk
   ·exact .inl hk
   ·exact .inr (by simp[hk])
  ·exact .inr (by simp[hk])
def qN(N:Nat)(fr:cv)(β:Bd)(H:aj):Prop:=∀l,fr.roundOf=some l->∃b,b<N/\gM H b/\β.an b=l
theorem qN.eZ{fr:cv}{β aK:Bd}{H H':aj}{ah ad jS aF:Nat->Prop}{w w':b5}(h:qN N fr β H)(e:dI N ah ad w β H jS aF w' aK H'):qN N fr aK H':=by
 intro l i;obtain⟨b,a,c,f⟩:=h l i;have d:=e.loop b a c;obtain⟨L,g⟩:=c;exact⟨b,a,d,((e.step.loop b a ⟨_,g,trivial⟩ d).2).trans f⟩
def qe(P:b2)(n N:Nat)(fr:cv)(k:List Item)(cs:List cv)(ah ad:Nat->Prop)(w:b5)(β:Bd)(H:aj)(m:c6)(c:List cc)(Q:bu->St->Prop):Prop:=
 ∃e s' jS aF aK b w' a,Q e s'/\mJ P fr k cs m b a w' e/\cK P n jS aF aK s' b w'/\dI N ah ad w β H jS aF w' aK s'.heap/\Marks fr ah w jS aF w' c a
theorem qe.of{k:List Item}{ah ad:Nat->Prop}{w:b5}{β:Bd}{H:aj}{m:c6}{ds:List cc}{Q:bu->St->Prop}{e:bu}{s':St}{aF:Nat->Prop}{aK:Bd}{a:Array b3}{w':b5}(hq:Q e s')(c:mJ P fr k cs m a ds w' e)
 (d:cK P n ah aF aK s' a w')(b:dI N ah ad w β H ah aF w' aK s'.heap):qe P n N fr k cs ah ad w β H m ds Q:=⟨e,s',ah,aF,aK,a,w',ds,hq,c,d,b,Marks.refl _ _ _ _ _ _⟩
theorem qe.next{k:List Item}{ah ad b a:Nat->Prop}{w w1:b5}{β g:Bd}{H H1:aj}{m f:c6}{c d:List cc}{Q:bu->St->Prop}(e:dI N ah ad w β H b a w1 g H1)(o:Marks fr ah w b a w1 c d)(aN:c9 P m f)
 (h:qe P n N fr k cs b a w1 g H1 f d Q):qe P n N fr k cs ah ad w β H m c Q:=by
 obtain⟨e2,s2,j,i,q,t2,p,l,g1,g2,g3,g4,g5⟩:=h;exact⟨e2,s2,j,i,q,t2,p,l,g1,.of_steps aN g2,g3,e.trans g4,o.trans e g5 g4⟩
def codeOk(fit:Nat->Array Oper->Bool)(n:Nat):Code->Bool
 | .region _ ops draw=>ops.toList.all (iS n)&&(!draw||fit n ops)
 | .seq a b=>codeOk fit n a&&codeOk fit n b
 | .cond _ a b=>codeOk fit n a&&codeOk fit n b
 | .block _ b| .scope b| .loop b=>codeOk fit n b
 | .rangeFunc _ _ a b=>codeOk fit n a&&codeOk fit n b
 |_=>true
def sv(P:b2)(ag:ce->Bool)(fit:Nat->Array Oper->Bool):Prop:=
 ∀(n N:Nat)(a:Array Oper)(fr:cv)(k:List Item)(cs:List cv)(b:List cc)(c:Nat)(K:St->Prop)(s:St)(ah ad:Nat->Prop)(β:Bd)(t:Array b3)(w:b5),
  fit n a=true->(∀o∈a.toList,iS n o=true)->fW P ag a a.toList 0 [] K s->cK P n ah ad β s t w->
  ke P n N fr k cs a ah ad w β s.heap (lone (bB fr t b (.inRegion a (dp (P.follows .mixedOrders) a c)::k)) cs w) [] b K
theorem cK.draw{s:St}{ah ad:Nat->Prop}{β:Bd}{t:Array b3}{w w':b5}(a:w'.heap=w.heap)(h:cK P n ah ad β s t w):cK P n ah ad β s t w':=
 ⟨h.heap.xI a,fun x=>aA.mono (fun _ x=>x) (fun _ _=>by rw[a]) (cw.refl _ _) _ _ (h.gz x) (h.env x),h.gz,h.size⟩
section rf
variable{w w':b5}{ad ah:Nat->Prop}{β:Bd}{H:aj}
theorem bU.Jd(h:bU P w ad β H ah){x:Nat}(hx:x<w.heap.size)(v:∀(b:Nat)(o:Obj),H[b]?=some o->o.live->β.an b≠x):bU P w ad β H (fun k=>ah k\/k=x):=by
 refine⟨fun b o l=>?_,h.inj,h.refs,h.bQ,fun k hk=>hk.elim (h.dU k) (fun e=>e▸hx),h.ir⟩;have held:∀fz,o.live->cG ad β ah fz b->cG ad β (fun k=>ah k\/k=x) fz b:=by
  intro fz j i;unfold cG at i⊢;cases fz with
  |true=>exact i
  |false=>exact⟨i.1,fun y=>y.elim i.2 (v b o l j)⟩
 have f:=h.cJ b o l;cases o with
 |hole=>trivial
 |dead=>trivial
 |box fz t=>obtain⟨cs,T,a,c,d,g⟩:=f;exact⟨cs,T,a,c,held _ trivial d,g⟩
 |arr k az ai es=>
  rcases f with f|⟨cs,T,m,rest,a,c,d,g,p,q,r,u⟩
  ·exact .inl f
  ·by_cases j:dd k es
   ·exact .inl j
   ·exact .inr ⟨cs,T,m,rest,a,c,d,g,p,q,held _ j r,u⟩
 |map fz es=>obtain⟨n,clock,a,c,d⟩:=f;exact⟨n,clock,a,c,held _ trivial d⟩
 |du s pos=>obtain⟨bs,a,c,d⟩:=f;exact⟨bs,a,c,held _ trivial d⟩
 |loop L=>obtain⟨tmps,defers,fn,a,c,d,g⟩:=f;exact⟨tmps,defers,fn,a,c,d,held _ trivial g⟩
theorem bU.shut(h:bU P w ad β H ah){Prot0:Nat->Prop}(p:∀k,Prot0 k->ah k){R:Nat->Prop}(j:∀x,R x->ah x/\¬ad x)(q:w'.heap.size=w.heap.size)(hs:∀k,¬R k->w'.heap[k]?=w.heap[k]?):bU P w' ad β H Prot0:=by
 have same:∀k,ad k->w'.heap[k]?=w.heap[k]?:=fun k hk=>hs k (fun i=>(j k i).2 hk);refine⟨fun b o n=>?_,h.inj,h.refs,fun k hk=>q▸h.bQ k hk,fun k hk=>q▸h.dU k (p k hk),h.ir.mono (fun _ x=>x) same⟩;have held:∀fz,cG ad β ah fz b->cG ad β Prot0 fz b:=by
  intro fz e;unfold cG at e⊢;cases fz with
  |true=>exact e
  |false=>exact⟨e.1,fun A=>e.2 (p _ A)⟩
 have an:∀fz,cG ad β ah fz b->w'.heap[β.an b]?=w.heap[β.an b]?:=by
  intro fz e;refine hs _ (fun i=>?_);unfold cG at e;cases fz with
  |true=>exact(j _ i).2 e
  |false=>exact e.2 (j _ i).1
 have f:=h.cJ b o n;have l:=h.refs b o n;cases o with
 |hole=>trivial
 |dead=>trivial
 |box fz t=>obtain⟨cs,T,c,d,a,g⟩:=f;exact⟨cs,T,(an _ a).trans c,br.mono (fun _ x=>x) same (cw.refl _ _) _ _ l d,held _ a,g⟩
 |arr k az ai es=>
  rcases f with f|⟨cs,T,r,rest,c,d,a,g,v,y,m,z⟩
  ·exact .inl f
  ·exact .inr ⟨cs,T,r,rest,(an _ m).trans c,bM.mono (fun _ x=>x) same (cw.refl _ _) _ _ _ l d,a,g,v,y,held _ m,z⟩
 |map fz es=>obtain⟨u,clock,c,d,a⟩:=f;exact⟨u,clock,(an _ a).trans c,cH.mono (fun _ x=>x) same _ _ d,held _ a⟩
 |du s pos=>obtain⟨bs,c,d,a⟩:=f;exact⟨bs,(an _ a).trans c,d,held _ a⟩
 |loop L=>obtain⟨tmps,defers,fn,c,d,a,g⟩:=f;exact⟨tmps,defers,fn,(an _ g).trans c,d,fun x=>aA.mono (fun _ x=>x) same (cw.refl _ _) _ _ (l x) (a x),held _ g⟩
theorem Jx(H:aj)(o:Obj):(H++ew 1 Obj.hole).set H.length o=H++[o]:=by
 rw[gc _ _ (g7 _)];simp
theorem Kf(a:bU P w ad β H ah){L:dP}{tmps:Array b3}{defers fn:Nat}(h:tmps.size=L.n)(l:∀x,aA P w ad β H (aQ L.env x) (tmps.getD x undef))(c:∀x,aE (aJ H) (aQ L.env x)):
 bY P ah ad w β H ad (w.alloc (.loop {state:=L.st,pending:=L.pending,fn,tmps,params:=L.params.toArray,assign:=L.assign,body:=L.body,defers})) (β.at H.length w.heap.size 0) (H++[.loop L]):=by
 have d:bY P ah ad w β H ad w β (H++ew 1 .hole):=⟨fun _ x=>x,fun _ x=>.inl x,Ext.refl _ _ _,pS _ _ _,a.pn _,nw _ _,fun b⟨L,e⟩=>⟨L,by rw[kK,if_pos (e7.1 e).1];exact e⟩⟩
 have f:(H++ew 1 Obj.hole)[H.length]?=some .hole:=by rw[kK];simp
 have aN:=(pS β H 1)
 have j:=xP (β:=β) f (.loop L) w.heap.size 0;have hrefs:∀x,aE (aJ ((H++ew 1 Obj.hole).set H.length (.loop L))) (aQ L.env x):=by
  intro x;rw[Jx];exact aE.mono (fun y m=>IW m) _ (c x)
 have g:=sA (cap:=0) d.rel f (ob:=.loop {state:=L.st,pending:=L.pending,fn,tmps,params:=L.params.toArray,assign:=L.assign,body:=L.body,defers}) (o':=.loop L)
  ⟨tmps,defers,fn,by simp[Bd.at],h,fun x=>aA.mono (fun _ x=>x) (fun k hk=>uv w _ (a.bQ k hk)) j _ _ (aE.mono (nw _ _) _ (c x)) (aA.mono (fun _ x=>x) (fun _ _=>rfl) aN _ _ (c x) (l x)),?_⟩ hrefs
 ·rw[Jx]at g;exact d.trans g
 ·unfold cG;simp only[b0,if_false,Bd.at,if_true];exact⟨fun hi=>by have:=a.bQ _ hi;omega,fun i=>by have:=a.dU _ i;omega⟩
theorem Ca(g:bU P w ad β H ah){b:Nat}{L:dP}(a:H[b]?=some (.loop L))(st:LoopState)(d:Option Code):
 ∃rec:Loop,w.heap[β.an b]?=some (.loop rec)/\rec.state=L.st/\rec.pending=L.pending/\rec.params=L.params.toArray/\rec.assign=L.assign/\rec.body=L.body/\rec.tmps.size=L.n/\(∀x,aA P w ad β H (aQ L.env x) (rec.tmps.getD x undef))/\
  bY P ah ad w β H ad (w.putObj (β.an b) (.loop {rec with state:=st,pending:=d})) β (H.set b (.loop {L with st:=st,pending:=d})):=by
 obtain⟨tmps,defers,fn,m,p,q,c⟩:=g.cJ b _ a;refine⟨_,m,rfl,rfl,rfl,rfl,rfl,p,q,?_⟩;have u:=(bl.1 m).1;have r:=(e7.1 a).1;unfold cG at c;simp only[b0,if_false]at c;have aN:cw β H β (H.set b (.loop {L with st:=st,pending:=d})):=by
  have i:∀(x:Nat)(o:Obj),(H.set b (Obj.loop {L with st:=st,pending:=d}))[x]?=some o->(∀j,o≠Obj.loop j)->H[x]?=some o:=by
   intro x o l v
   by_cases hx:b=x
   ·subst hx;rw[e8 r]at l;cases l;exact(v _ rfl).elim
   ·rwa [e6 hx]at l
  refine⟨?_,?_,?_,?_,?_⟩
  ·rintro x _ ⟨f,t,h⟩;exact⟨⟨f,t,i _ _ h (by simp)⟩,rfl⟩
  ·rintro x _ ⟨f,t,h⟩;exact⟨⟨f,t,i _ _ h (by simp)⟩,rfl⟩
  ·rintro x _ ⟨f,t,h⟩;exact⟨⟨f,t,i _ _ h (by simp)⟩,rfl⟩
  ·intro x az ai k s _ h;exact⟨k,s,i _ _ h (by simp),g7 _,eq,fun _=>⟨rfl,rfl⟩⟩
  ·rintro x _ ⟨j,h⟩;refine⟨?_,rfl⟩
   by_cases hx:b=x
   ·subst hx;exact⟨L,a⟩
   ·rw[e6 hx]at h;exact⟨j,h⟩
 have al:∀x,aJ H x->aJ (H.set b (Obj.loop {L with st:=st,pending:=d})) x:=lM a (fun _ _=>trivial);have same:∀k,ad k->(w.putObj (β.an b) (.loop {state:=st,pending:=d,fn,tmps,params:=L.params.toArray,assign:=L.assign,body:=L.body,defers})).heap[k]?=w.heap[k]?:=fun k hk=>ei (fun e=>c.1 (e▸hk));refine bY.set g r (fun _ _=>⟨rfl,rfl⟩) (fun _ x=>x) (fun _ x=>.inl x) (fun k hk=>by simpa using g.bQ k hk) (by simp)
  (fun k hk _=>ei (hk.resolve_right (fun h=>h trivial))) (fun _=>.inr ⟨rfl,⟨_,a,trivial⟩,.inr c.1,c.2⟩) aN
  ⟨tmps,defers,fn,World.putObj_heap_same u,p,fun x=>aA.mono (fun _ x=>x) same aN _ _ (g.refs b _ a x) (q x),?_⟩ (fun x=>aE.mono al _ (g.refs b _ a x)) (fun _ _ _ _=>trivial) (fun _ _=>⟨_,rfl⟩)
 unfold cG;simpa using c
end rf
theorem Uu{s:St}{ah ad:Nat->Prop}{β:Bd}{t:Array b3}{w:b5}(c:cK P n ah ad β s t w)(E:qN N fr β s.heap)(e:Array Tmp)(a b:Code)(m:List cc){f:Env}(g:∀x,aQ f x=aQ s.env x):
 ∃l mk w1 j i,(Instr.enterLoop fr.fn t e a b fr.roundOf).run P w=.ok (l,mk) w1/\bU P w1 ad i (s.heap++[.loop ⟨.ready,none,n,e.toList,a,b,f⟩]) j/\i.an s.heap.length=l/\
  dI N ah ad w β s.heap j ad w1 i (s.heap++[.loop ⟨.ready,none,n,e.toList,a,b,f⟩])/\Marks fr ah w j ad w1 m (mk++m)/\
  cw β s.heap i (s.heap++[.loop ⟨.ready,none,n,e.toList,a,b,f⟩]):=by
 cases u:fr.roundOf with
 |none=>
  have p:bY P ah ad w β s.heap ad (w.alloc (.deferred (some []))) β s.heap:=c.heap.later (fun _ x=>x) (fun _ x=>.inl x) (fun k hk=>by have:=c.heap.bQ k hk;rw[ee];omega) (by rw[ee];omega) (fun k hk=>uv w _ hk);have C:=p.rel.Jd (x:=w.heap.size) (by rw[ee];omega) (fun b o G F g=>by have:=c.heap.mr G F;omega);have d:=Kf (L:=⟨.ready,none,n,e.toList,a,b,f⟩) (tmps:=t) (defers:=w.heap.size) (fn:=fr.fn) C c.size (fun x=>by rw[g];exact aA.mono (fun _ x=>x) (fun k hk=>uv w _ (c.heap.bQ k hk)) (cw.refl _ _) _ _ (c.gz x) (c.env x)) (fun x=>by rw[g];exact c.gz x);have B:dI N ah ad w β s.heap (fun k=>ah k\/k=w.heap.size) ad (w.alloc (.deferred (some []))) β s.heap:=⟨fun _ h=>.inl h,fun _ h=>h,fun _ h=>.inl h,p.ext,(cw.refl _ _).n,fun _ _ h=>h,fun _ _ h=>h⟩
  refine⟨_,_,_,_,_,run_enterLoop_outer fr.fn t e a b,d.rel,?_,B.trans d.eZ,?_,d.step⟩
  ·simp[Bd.at,ee]
  ·refine⟨[w.heap.size],rfl,by simp,?_,fun k hk=>hk.imp id (fun h=>by simp[h]),by simp[u]⟩;intro r q;simp only[List.mem_singleton]at q;subst q;refine⟨g7 _,.inr rfl,fun hi=>by have:=c.heap.bQ _ hi;omega,?_⟩;exact(d.ext.same _ (.inl (.inr rfl))).trans (World.alloc_heap_new w _)
 |some H=>
  obtain⟨v,K,z,A⟩:=E H u;obtain⟨I,D⟩:=z;obtain⟨M,y,J,g1,_⟩:=c.heap.cJ v _ D;rw[A]at g1;have d:=Kf (L:=⟨.ready,none,n,e.toList,a,b,f⟩) (tmps:=t) (defers:=y) (fn:=fr.fn) c.heap c.size (fun x=>by rw[g];exact c.env x) (fun x=>by rw[g];exact c.gz x);exact⟨_,_,_,_,_,run_enterLoop_inner g1 fr.fn t e a b,d.rel,by simp[Bd.at],d.eZ,Marks.refl _ _ _ _ _ _,d.step⟩
theorem ml(K:lC P ag){fit:Nat->Array Oper->Bool}(J:sv P ag fit):∀(c:Code)(k:List Item){Q:bu->St->Prop}{s:St}{ah ad:Nat->Prop}{β:Bd}{t:Array b3}{w:b5}{ds:List cc},
 codeOk fit n c=true->cd P ag (n,N) c Q s->cK P n ah ad β s t w->qN N fr β s.heap->qe P n N fr k cs ah ad w β s.heap (lone (bB fr t ds (.code c::k)) cs w) ds Q
 | .skip,k,Q,s,ah,ad,β,t,w,ds,_,h,i,_=>.of h (.one aIB:mJ P fr k cs _ t ds w .normal) i (dI.refl _ _ _ _ _ _)
 | .label l,k,Q,s,ah,ad,β,t,w,ds,_,h,i,_=>.of h (.one VW:mJ P fr k cs _ t ds w .normal) i (dI.refl _ _ _ _ _ _)
 | .exit id,k,Q,s,ah,ad,β,t,w,ds,_,h,i,_=>.of h (⟨k,rfl,eb _ _⟩:mJ P fr k cs _ t ds w (.exit id)) i (dI.refl _ _ _ _ _ _)
 | .ret,k,Q,s,ah,ad,β,t,w,ds,_,h,i,_=>.of h (⟨k,eb _ _⟩:mJ P fr k cs _ t ds w .ret) i (dI.refl _ _ _ _ _ _)
 | .region id ops draw,k,Q,s,ah,ad,β,t,w,ds,r,h,i,_=>by
  simp only[codeOk,b1,List.all_eq_true]at r;simp only[cd]at h;cases draw with
  |false=>
   simp only[b0,if_false]at h;obtain⟨s',aF,aK,aw,w',j,q,p,d⟩:=Ii (fr:=fr) (k:=k) (cs:=cs) (ds:=ds) (N:=N) K r.1 ops.toList 0 (by simp) h i;refine .of (e:=.normal) j ?_ p d;have e:g0 ops.size=fl 0 ops.toList.length:=by rw[List.range_eq_range'];simp
   exact(dz U0).trans ((by rw[e];exact q:c9 P _ _).trans (.one GB))
  |true=>
   simp only[if_true]at h;have a0:cK P n ah ad β s t {w with drawn:=w.drawn+1}:=cK.draw (w:=w) (w':={w with drawn:=w.drawn+1}) rfl i;obtain⟨s',aF,aK,aw,w',j,q,p,d⟩:=J n N ops fr k cs ds (w.tape w.drawn (.order fr.fn id)) _ s ah ad β t _ (by simpa using r.2) r.1 h a0;exact .of (e:=.normal) j ((dz aIx).trans (q.trans (.one GB)):mJ P fr k cs _ aw ds w' .normal) p ⟨d.dU,d.bQ,d.fresh,⟨d.ext.size,d.ext.same,d.ext.io⟩,d.step,d.eP,d.loop⟩
 | .seq a b,k,Q,s,ah,ad,β,t,w,ds,r,h,i,C=>by
  simp only[codeOk,b1]at r;simp only[cd]at h;obtain⟨e,s1,o,B,z,t1,w1,D,j,q,p,d,A⟩:=ml K J a (.code b::k) r.1 h i C;cases e with
  |normal=>exact .next d A ((dz CV).trans q) (ml K J b k r.2 j p (C.eZ d))
  |exit id=>
   obtain⟨E,M,a2⟩:=q;exact⟨.exit id,s1,o,B,z,t1,w1,D,j,⟨E,M.trans (by simp[exitTo]),(dz CV).trans a2⟩,p,d,A⟩
  |ret=>
   obtain⟨E,a2⟩:=q;exact⟨.ret,s1,o,B,z,t1,w1,D,j,⟨E,(dz CV).trans a2⟩,p,d,A⟩
 | .cond c a b,k,Q,s,ah,ad,β,t,w,ds,r,h,i,C=>by
  simp only[codeOk,b1]at r;simp only[cd]at h
  split at h
  ·rename_i ax aG;have an:=(nF i c).1;rw[aG]at an;simp only[aA,aD]at an;have aN:=aIw (P:=P) (fr:=fr) (ds:=ds) (k:=k) (cs:=cs) (w:=w) (x:=a) (y:=b) an;cases ax with
   |true=>exact .next (dI.refl N ah ad w β s.heap) (Marks.refl _ _ _ _ _ _) (.one (by simpa using aN)) (ml K J a k r.1 (by simpa using h) i C)
   |false=>exact .next (dI.refl N ah ad w β s.heap) (Marks.refl _ _ _ _ _ _) (.one (by simpa using aN)) (ml K J b k r.2 (by simpa using h) i C)
  ·exact h.elim
 | .block id b,k,Q,s,ah,ad,β,t,w,ds,r,h,i,C=>by
  simp only[codeOk]at r;simp only[cd]at h;obtain⟨e,s1,o,B,z,t1,w1,D,j,q,p,d,A⟩:=ml K J b (.inBlock id::k) r h i C;cases e with
  |normal=>exact⟨.normal,s1,o,B,z,t1,w1,D,j,(dz xW).trans (q.trans (.one UD)),p,d,A⟩
  |exit ab=>
   obtain⟨E,M,a2⟩:=q;dsimp only at j
   split at j
   ·rename_i hid;subst hid;refine⟨.normal,s1,o,B,z,t1,w1,D,j,(dz xW).trans (a2.trans (.one (aIy ?_))),p,d,A⟩;rw[M];simp[exitTo]
   ·rename_i hid;exact⟨.exit ab,s1,o,B,z,t1,w1,D,j,⟨E,M.trans (by simp[exitTo,hb hid]),(dz xW).trans a2⟩,p,d,A⟩
  |ret=>
   obtain⟨E,a2⟩:=q;exact⟨.ret,s1,o,B,z,t1,w1,D,j,⟨E,(dz xW).trans a2⟩,p,d,A⟩
 | .scope b,k,Q,s,ah,ad,β,t,w,ds,r,h,i,C=>by
  simp only[codeOk]at r;simp only[cd]at h;obtain⟨e,s1,o,B,z,t1,w1,D,j,q,p,d,A⟩:=ml K J b (.inScope b::k) r h i C;cases e with
  |normal=>exact⟨.normal,s1,o,B,z,t1,w1,D,j,(dz BU).trans (q.trans (.one UC)),p,d,A⟩
  |exit ab=>
   obtain⟨E,M,a2⟩:=q;exact⟨.exit ab,s1,o,B,z,t1,w1,D,j,⟨E,M.trans (by simp[exitTo]),(dz BU).trans a2⟩,p,d,A⟩
  |ret=>
   obtain⟨E,a2⟩:=q;exact⟨.ret,s1,o,B,z,t1,w1,D,j,⟨E,(dz BU).trans a2⟩,p,d,A⟩
 | .loop b,k,Q,s,ah,ad,β,t,w,ds,r,h,i,C=>by
  simp only[codeOk]at r;simp only[cd]at h;obtain⟨I,⟨m0,t0,hf,hI⟩,a3⟩:=h
  have loop:∀(m:Nat)(u:St)(ah ad:Nat->Prop)(β:Bd)(t:Array b3)(w:b5)(ds:List cc),I m u->cK P n ah ad β u t w->qN N fr β u.heap->
   qe P n N fr k cs ah ad w β u.heap (lone (bB fr t ds (.code b::.inLoop b::k)) cs w) ds Q:=by
   intro m
   induction m using Nat.strongRecOn with
   |_ m a6=>
    intro u ah ad β t w ds hI i C;obtain⟨e,s1,o,B,z,t1,w1,D,j,q,p,d,A⟩:=ml K J b (.inLoop b::k) r (a3 m u hI) i C;cases e with
    |normal=>
     obtain⟨a7,u',aY,ap,ay⟩:=j;have aa:=ap.eZ (β:=z) (ah:=o) (ad:=B) (w:=w1);exact .next (d.trans aa) A (ea q (.one U1)) (a6 a7 aY u' o B z t1 w1 D ay (ap.rel p) ((C.eZ d).eZ aa))
    |exit ab=>
     obtain⟨E,M,a2⟩:=q;exact⟨.exit ab,s1,o,B,z,t1,w1,D,j,⟨E,M.trans (by simp[exitTo]),a2⟩,p,d,A⟩
    |ret=>
     obtain⟨E,a2⟩:=q;exact⟨.ret,s1,o,B,z,t1,w1,D,j,⟨E,a2⟩,p,d,A⟩
  have aa:=hf.eZ (β:=β) (ah:=ah) (ad:=ad) (w:=w);exact .next aa (Marks.refl _ _ _ _ _ _) (.one aIz) (loop m0 t0 ah ad β t w ds hI (hf.rel i) (C.eZ aa))
 | .rangeFunc f F a b,k,Q,s,ah,ad,β,t,w,ds,r,h,i,C=>by
  simp only[cd]at h;obtain⟨bc,O,aS,h⟩:=h;have X:=nF i f
  obtain⟨g,fi,ca,H,G,aU,aT,aL,ar,aq,Z,v,aV,ae⟩:∃g fi ca,∃H G:List b3,fx t f= .func (.func g) H.toArray G.toArray/\bF P w ad β s.heap fi H/\bF P w ad β s.heap ca G/\aX (aJ s.heap) fi/\aX (aJ s.heap) ca/\
   ∃Z v,cE P g (s.heap++[.loop ⟨.ready,none,n,F.toList,a,b,O⟩]) (fi++[.map s.heap.length]++ca) Z v/\il s.heap.length s.env Q Z:=by
   unfold ja at h
   split at h
   ·rename_i g fi ca hf;rw[hf]at X;simp only[aA,aD]at X;obtain⟨⟨H,G,j,q,p⟩,_⟩:=X;exact⟨g,_,_,H,G,p,jq.2 j,jq.2 q,iO _ _,iO _ _,h⟩
   ·rename_i g fi ca hf;rw[hf]at X;simp only[aA,aE]at X;obtain⟨⟨H,G,j,q,p⟩,d,A⟩:=X;exact⟨g,fi,ca,H,G,p,j,q,d,A,h⟩
   ·exact h.elim
  obtain⟨l,mk,w1,o,z,e1,e2,e3,e4,e5,af⟩:=Uu (fr:=fr) i C F a b ds aS;obtain⟨aQ,aM⟩:=aV;have al:∀x,aJ s.heap x->aJ (s.heap++[.loop ⟨.ready,none,n,F.toList,a,b,O⟩]) x:=fun x hx=>IW hx;have am:∀k,ad k->w1.heap[k]?=w.heap[k]?:=fun k hk=>e4.ext.same k (.inr hk);have a4:aA P w1 ad z (s.heap++[.loop ⟨.ready,none,n,F.toList,a,b,O⟩]) (.map s.heap.length) (.func (.yield l) #[] #[]):=by
   simp only[aA,bO,bR];refine⟨by simp[ec],fun V=>?_,fun _=>by rw[e3]⟩;obtain⟨fz,es,V⟩:=V;simp at V
  have a5:aE (aJ (s.heap++[.loop ⟨.ready,none,n,F.toList,a,b,O⟩])) (.map s.heap.length):=by
   simp only[aE];exact⟨.loop ⟨.ready,none,n,F.toList,a,b,O⟩,by simp,trivial⟩
  have aC:=pV (pV (bF.mono (fun _ x=>x) am af _ _ ar aT) (b:=[.map s.heap.length]) (y:=[.func (.yield l) #[] #[]]) (by simp only[bF];exact⟨_,_,rfl,a4,rfl⟩)) (bF.mono (fun _ x=>x) am af _ _ aq aL);have aB:=jC (jC (aX.mono al _ ar) (b:=[.map s.heap.length]) (by simp only[aX];exact⟨a5,trivial⟩)) (aX.mono al _ aq);have aW:(invoke (.fn (.func g) G.toArray) (H.toArray++#[.func (.yield l) #[] #[]])).run P w1=.ok (.enter g (H++[(.func (.yield l) #[] #[]:b3)]++G).toArray) w1:=by
   have:=aQ (H++[(.func (.yield l) #[] #[]:b3)]++G).toArray w1;simp only[invoke];rw[<-this];congr 2;simp
  have a1:(resolve (Act.eval ⟨t,ds⟩) (rangeCall f l) 0).run P w1=.ok (⟨.fn (.func g) G.toArray,H.toArray++#[.func (.yield l) #[] #[]]⟩:cc) w1:=by
   have aj:(Act.eval ⟨t,ds⟩) f=fx t f:=by cases f<;>rfl
   have aO:(rangeCall f l).args.map (Act.eval ⟨t,ds⟩)=#[.func (.yield l) #[] #[]]:=by simp[Act.eval]
   simp only[resolve,aO];simp only[aj,aU,dk];rfl
  have aR:=stepR_rangeFunc (P:=P) (b:=fr) (a:=⟨t,ds⟩) (k:=k) (cs:=cs) (w:=w) (g:=f) (ps:=F) (assign:=a) (body:=b) e1 a1 aW;obtain⟨e,ac,bb,⟨ba,W,T,aj,g1,g2,g3⟩,aN,bd,aZ⟩:=aM w1 ad o z _ e2 aC aB (fr.atR ⟨t,mk++ds⟩ (.inRangeFunc l::k)::cs);subst aj;unfold il at ae
  split at ae
  case h_2=>exact ae.elim
  rename_i L ao;obtain⟨aI,Y⟩:=ae;obtain⟨rec,au,a8,a9,be,bf,bg,bh,bi,av⟩:=Ca g1.rel ao .exhausted L.pending;have az:aJ (s.heap++[.loop ⟨.ready,none,n,F.toList,a,b,O⟩]) (s.heap.length,0):=⟨.loop ⟨.ready,none,n,F.toList,a,b,O⟩,by simp,trivial⟩
  have aH:W.an s.heap.length=l:=((g1.step.loop _ az ⟨_,ao⟩).2).trans e3;rw[aH]at au av;have aP:=run_endLoop (P:=P) au (by rw[a8];exact aI);have R:c9 P (lone (bB fr t ds (.code (.rangeFunc f F a b)::k)) cs w) (lone (bB fr t (mk++ds) ((rec.pending.map Item.code).toList++k)) cs (ac.putObj l (.loop {rec with state:=.exhausted}))):=by
   refine(dz aR).trans (ea aN ?_);refine(dz (cx aZ)).trans ?_;rw[finish_atR_inRangeFunc];exact .one (stepR_endRangeFunc aP)
  have R:c9 P (lone (bB fr t ds (.code (.rangeFunc f F a b)::k)) cs w) (lone (bB fr t (mk++ds) ((L.pending.map Item.code).toList++k)) cs (ac.putObj l (.loop {rec with state:=.exhausted,pending:=L.pending}))):=by
   rw[<-a9];exact R
  have U:bY P o ad w1 z (s.heap++[.loop ⟨.ready,none,n,F.toList,a,b,O⟩]) T _ W _:=g1.trans av;have ak:cK P n o T W ⟨s.env,Z.set s.heap.length (.loop {L with st:=.exhausted})⟩ t (ac.putObj l (.loop {rec with state:=.exhausted,pending:=L.pending})):=by
   refine⟨U.rel,fun x=>?_,fun x=>?_,i.size⟩
   ·exact aA.mono U.bQ (fun k hk=>U.ext.same k (.inr hk)) U.step _ _ (aE.mono al _ (i.gz x)) (aA.mono (fun _ x=>x) am af _ _ (i.gz x) (i.env x))
   ·exact aE.mono U.eP _ (aE.mono al _ (i.gz x))
  have ai:dI N ah ad w β s.heap o T (ac.putObj l (.loop {rec with state:=.exhausted,pending:=L.pending})) W (Z.set s.heap.length (.loop {L with st:=.exhausted})):=e4.trans U.eZ;have V:Marks fr ah w o T (ac.putObj l (.loop {rec with state:=.exhausted,pending:=L.pending})) ds (mk++ds):=e5.trans e4 (Marks.refl _ _ _ _ _ _) U.eZ;unfold je at Y
  split at Y
  ·rename_i S;rw[S]at R;exact⟨.normal,_,o,T,W,t,_,mk++ds,Y,by rw[S];exact R,ak,ai,V⟩
  ·rename_i id S;rw[S]at R;exact⟨.exit id,_,o,T,W,t,_,mk++ds,Y,⟨k,rfl,by rw[S];exact R⟩,ak,ai,V⟩
  ·rename_i S;rw[S]at R;exact⟨.ret,_,o,T,W,t,_,mk++ds,Y,⟨k,by rw[S];exact R⟩,ak,ai,V⟩
  ·exact Y.elim
 | .goto _,_,_,_,_,_,_,_,_,_,_,h,_,_| .refuse _,_,_,_,_,_,_,_,_,_,_,h,_,_=>by simp[cd]at h
end
end Go.ak
