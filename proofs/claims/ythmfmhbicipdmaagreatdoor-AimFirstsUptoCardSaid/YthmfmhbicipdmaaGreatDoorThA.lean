import Derived.Calls
import Derived.Laws.Sem
import Derived.IntWalk
import Derived.Laws.Cells
import Derived.Laws.CopyRow
import Derived.Laws.Entries
import Derived.RangeFuncRecord
import Derived.RangeFuncNested
/- Parts of a proof. -/
set_option linter.unusedSimpArgs false
set_option linter.unusedVariables false
set_option linter.unusedSectionVars false
open Array renaming getElem?_eq_some_iff->bl, mem_of_getElem?->bo, mem_toList_iff->bv, getElem?_push->bw, toList->b0
open BitVec renaming ofInt->b1
open Bool renaming false_eq_true->b2, and_eq_true->b3
open Go renaming Program->b4, Value->b5, TypeId->cb, World->cc, step_lone_go->cd, Deferred->ce, FuncId->ck, Operand->cv, Frame->cx, step_leave_returned->cy, execOp->c6, Machine->c9, Steps->da, MapEntry->db, IntKind->dg, Calls->dl
open Go.Deferred renaming ofValue->dp
open Go.Region renaming wanted->dq, schedule->dx, binds->dy
open Go.Steps renaming one->dz, trans->ea, refl->eb
open Go.Value renaming oneCell'->ec, cells->ed
open Go.World renaming size_alloc->ee, putObj_heap_other->ei, cell?->ej
open Go.stepG renaming exec->em, apply->en, oper->eo
open Iff renaming rfl->eq
open List renaming replicate->er, getElem?_set_ne->ew, getElem?_eq_some_iff->eP, getElem?_set_self->e6, getElem?_append_left->e7, map_cons->e8, length_cons->e9, range'->fa, getElem?_append_right->fb, mem_or_eq_of_mem_set->fd, length_eq_zero_iff->fl, take_append_drop->fm, set_append_right->fv, mem_of_getElem?->fw, replicate_succ->gb, set_cons_zero->gc, length_append->ge, append_assoc->gg, cons_append->gi, mem_append->gj, drop_drop->gm, range->gt
open Nat renaming le_refl->gx, le_trans->gy, lt_of_lt_of_le->g0, ne_of_lt->g7
open Ne renaming symm->g8
namespace Go.ak
set_option linter.unusedSectionVars false
inductive PV where
 |undef
 |bool (b:Bool)
 |int (k:dg) (n:Int)
 |str (s:List Nat)
 |dR
 |cm (t:PV)
 |aH
 |cT (full:Bool) (es:List PV)
 |seq (es:List PV)
 |fF
 |eB (es:List (PV×PV))
 |func (f:ck) (first iS:List PV)
 |iU
 |gO
 |st (u:cb) (fs:List PV)
 |aC (vs:List PV)
 deriving Inhabited
inductive AV where
 |p (v:PV)
 |ptr (b:Nat) (path:List (cb×Nat))
 |b7 (b aA ai i:Nat) (path:List (cb×Nat))
 |sl (b aA ai off len:Nat)
 |map (b:Nat)
 |func (f:ck) (first iS:List AV)
 |st (u:cb) (fs:List AV)
 |aC (vs:List AV)
 deriving Inhabited
inductive AK where|exact|grow|frozen|bytes
 deriving DecidableEq
def AK.gr:AK->Bool
 | .grow| .bytes=>true
 |_=>false
structure ek where
 st:LoopState
 pending:Option Code
 n:Nat
 params:List Tmp
 assign:Code
 body:Code
 env:List (Nat×AV)
inductive Obj where
 |hole
 |dead
 |box (fz:Bool) (t:AV)
 |arr (k:AK) (aA ai:Nat) (es:List AV)
 |map (fz:Bool) (es:List (PV×PV))
 |dG (s:List Nat) (pos:Nat)
 |loop (L:ek)
 deriving Inhabited
abbrev aj:=List Obj
abbrev Env:=List (Nat×AV)
structure St where
 env:Env
 heap:aj
def aN(e:Env)(t:Nat):AV:=
 match e with
 |[]=>.p .undef
 |(k,v)::r=>if t=k then v else aN r t
inductive jQ where|bad|leaf|agg (u:cb)
 deriving DecidableEq
def aI:PV->jQ
 | .undef| .aC _=>.bad
 | .st u _=>.agg u
 |_=>.leaf
def aa:AV->jQ
 | .p v=>aI v
 | .aC _=>.bad
 | .st u _=>.agg u
 |_=>.leaf
def bW:PV->List PV
 | .st _ fs=>fs
 |_=>[]
section tables
variable(P:b4)
def dv(u:cb):Option (List Nat):=
 match(P.info? u).map (fun i:TypeInfo=>i.desc)with
 |some (.struct fs)=>
  let l:=fs.toList.map fun f=>P.cellsOf f.type
  if l.all (0<·)&&l.sum==P.cellsOf u&&(fs.toList.zipIdx.all fun(f,i)=>f.offset==(l.take i).sum)then some l else none
 |some (.array n e)=>if 0<P.cellsOf e&&n*P.cellsOf e==P.cellsOf u then some (er n (P.cellsOf e))else none
 |_=>none
def kindOf(T:cb):jQ:=
 match P.underlying T with
 |some (.struct _)|some (.array _ _)=>
  if(dv P (P.underlyingId T)).isSome&&P.cellsOf T==P.cellsOf (P.underlyingId T)then .agg (P.underlyingId T)else .bad
 |some _=>if P.cellsOf T==1 then .leaf else .bad
 |none=>.bad
def bG:jQ->Nat
 | .bad=>0
 | .leaf=>1
 | .agg u=>P.cellsOf u
def jS(u:cb):List cb:=
 match(P.info? u).map (fun i:TypeInfo=>i.desc)with
 |some (.struct fs)=>fs.toList.map (·.type)
 |some (.array n e)=>er n e
 |_=>[]
end tables
def ofConst:b5->PV
 | .bool b=>.bool b
 | .int k n=>.int k n
 | .string s=>.str (s.data.toList.map (·.toNat))
 | .pointer none=>.dR
 | .slice none 0 0=>.aH
 | .map none=>.fF
 | .nilFunc=>.iU
 | .nilIface=>.gO
 |_=>.undef
def pV(P:b4)(a:cb->List b5->Option PV):List cb->List Nat->List b5->Option (List PV)
 |[],[],[]=>some []
 |T::b,s::c,cs=>
  if(cs.take s).length=s then
   match a T (cs.take s),pV P a b c (cs.drop s)with
   |some v,some vs=>if bG P (aI v)=s then some (v::vs)else none
   |_,_=>none
  else none
 |_,_,_=>none
def uH(P:b4):Nat->cb->List b5->Option PV
 |0,_,_=>none
 |n+1,T,cs=>
  match kindOf P T with
  | .leaf=>match cs with
   |[c]=>match ofConst c with
    | .undef=>none
    |v=>some v
   |_=>none
  | .agg u=>match dv P u with
   |some l=>
    match pV P (uH P n) (jS P u) l cs with
    |some fs=>some (.st u fs)
    |none=>none
   |none=>none
  | .bad=>none
def AW:b5->jQ->Bool
 | .agg _,.agg _=>true
 | .agg _,_=>false
 |_,.agg _=>false
 |_,_=>true
def b9(P:b4)(T:cb):Option PV:=
 match(P.info? T).bind (·.zero)with
 |some z=>if AW z (kindOf P T)then uH P 40 T z.cells.toList else none
 |none=>none
section relation
variable(P:b4)(w:cc)(ad:Nat->Prop)
def ir(aq off:Nat)(cs:List b5):Prop:=∀i(h:i<cs.length),w.cell? ⟨aq,off+i,none⟩=some cs[i]
mutual
def aU:PV->List b5->Prop
 | .undef,_| .aC _,_=>False
 | .bool b,cs=>cs=[.bool b]
 | .int k n,cs=>cs=[.int k n]
 | .str s,cs=>∃bs:ByteArray,cs=[.string bs]/\s=bs.data.toList.map (·.toNat)
 | .dR,cs=>cs=[.pointer none]
 | .cm t,cs=>∃aq off ts,aU t ts/\ad aq/\ir w aq off ts/\cs=[.pointer (some ⟨aq,off,none⟩)]
 | .aH,cs=>cs=[.slice none 0 0]
 | .cT full es,cs=>∃aq off cap ai a,bk (er es.length ai) es a/\(es≠[]->ad aq)/\ir w aq off a.flatten/\
  (full=true->cap=es.length)/\es.length<=cap/\∃sp,(sp=none\/cap=0)/\cs=[.slice (some ⟨aq,off,sp⟩) es.length cap]
 | .seq es,cs=>(es=[]/\cs=[.slice none 0 0])\/∃aq off cap ai a,bk (er es.length ai) es a/\(es≠[]->ad aq)/\ir w aq off a.flatten/\
  es.length<=cap/\∃sp,(sp=none\/cap=0)/\cs=[.slice (some ⟨aq,off,sp⟩) es.length cap]
 | .fF,cs=>cs=[.map none]
 | .eB es,cs=>∃r h j,ad r/\w.heap[r]?=some (.map h j)/\cK es h.toList/\cs=[.map (some r)]
 | .func f first iS,cs=>∃i g,bK first i/\bK iS g/\cs=[.func (.func f) i.toArray g.toArray]
 | .iU,cs=>cs=[.nilFunc]
 | .gO,cs=>cs=[.nilIface]
 | .st u fs,cs=>∃l a,dv P u=some l/\bk l fs a/\cs=a.flatten
def bk:List Nat->List PV->List (List b5)->Prop
 |[],[],a=>a=[]
 |n::p,v::vs,a=>∃c cs,a=c::cs/\aU v c/\c.length=n/\bk p vs cs
 |_,_,_=>False
def aD:PV->b5->Prop
 | .undef,_=>True
 | .aC vs,v=>∃d,bK vs d/\v=.tuple d.toArray
 | .st u fs,v=>∃l a,dv P u=some l/\bk l fs a/\v=.agg a.flatten.toArray
 | .bool b,v=>v=.bool b
 | .int k n,v=>v=.int k n
 | .str s,v=>∃bs:ByteArray,v=.string bs/\s=bs.data.toList.map (·.toNat)
 | .dR,v=>v=.pointer none
 | .cm t,v=>∃aq off ts,aU t ts/\ad aq/\ir w aq off ts/\v=.pointer (some ⟨aq,off,none⟩)
 | .aH,v=>v=.slice none 0 0
 | .cT full es,v=>∃aq off cap ai a,bk (er es.length ai) es a/\(es≠[]->ad aq)/\ir w aq off a.flatten/\
  (full=true->cap=es.length)/\es.length<=cap/\∃sp,(sp=none\/cap=0)/\v=.slice (some ⟨aq,off,sp⟩) es.length cap
 | .seq es,v=>(es=[]/\v= .slice none 0 0)\/∃aq off cap ai a,bk (er es.length ai) es a/\(es≠[]->ad aq)/\ir w aq off a.flatten/\
  es.length<=cap/\∃sp,(sp=none\/cap=0)/\v=.slice (some ⟨aq,off,sp⟩) es.length cap
 | .fF,v=>v=.map none
 | .eB es,v=>∃r h j,ad r/\w.heap[r]?=some (.map h j)/\cK es h.toList/\v=.map (some r)
 | .func f first iS,v=>∃i g,bK first i/\bK iS g/\v=.func (.func f) i.toArray g.toArray
 | .iU,v=>v=.nilFunc
 | .gO,v=>v=.nilIface
def bK:List PV->List b5->Prop
 |[],d=>d=[]
 |v::vs,d=>∃y o,d=y::o/\aD v y/\bK vs o
def cK:List (PV×PV)->List db->Prop
 |[],es=>es=[]
 |(k,v)::r,es=>∃e m,es=e::m/\aD k e.key/\aD v e.val/\cK r m
end
end relation
class Gl where
 g:Nat->PV
 u8:cb
 raw:Nat->Option (Array b5)
 bx:cb->Option cb
def jM[Gl](T:cb)(s:jQ):Bool:=match s with
 | .agg u=>match Gl.bx u with
  |some a=>Nat.beq T a
  |none=>true
 |_=>true
structure nG[Gl](P:b4)(w:cc)(ad:Nat->Prop):Prop where
 val:∀g,aD P w ad (Gl.g g) (.pointer (some ⟨g,0,none⟩))
 raw:∀g cs,Gl.raw g=some cs->ad g/\∃T,w.heap[g]?=some (.cells cs T (0,0))
end Go.ak
namespace Go.ak
variable[Gl]
structure Bd where
 aq:Nat->Nat
 cap:Nat->Nat
def gI(P:b4):List (cb×Nat)->Option Nat
 |[]=>some 0
 |(u,i)::r=>
  match dv P u,gI P r with
  |some l,some o=>if i<l.length then some ((l.take i).sum+o)else none
  |_,_=>none
section
variable(P:b4)(w:cc)(ad:Nat->Prop)(β:Bd)(H:aj)
def nC(b:Nat):Prop:=∃fz t,H[b]?=some (.box fz t)
def fI(b aA ai:Nat)(k:AK)(a:List AV):Prop:=H[b]?=some (.arr k aA ai a)
def di(k:AK)(a:List AV):Prop:=k.gr=true/\a=[]
def nB(b:Nat):Prop:=(∃fz a,H[b]?=some (.map fz a))
def nF(b:Nat):Prop:=(∃s pos,H[b]?=some (.dG s pos))
def iv(b:Nat):Prop:=(∃L,H[b]?=some (.loop L))
def bS:AV->b5->Prop
 | .ptr b path,v=>∃aq off o,v=.pointer (some ⟨aq,off,none⟩)/\gI P path=some o/\(nC H b\/nF H b->aq=β.aq b/\off=o)
 | .b7 b aA ai i path,v=>∃aq off o,v=.pointer (some ⟨aq,off,none⟩)/\gI P path=some o/\∀k a,fI H b aA ai k a->¬di k a->aq=β.aq b/\off=i*ai+o
 | .sl b aA ai off len,v=>∀k a,fI H b aA ai k a->
  off+len<=a.length/\(di k a->v=.slice none 0 0)/\(¬di k a->v=.slice (some ⟨β.aq b,off*ai,none⟩) len (β.cap b-off))
 | .map b,v=>(nB H b->v=.map (some (β.aq b)))/\(iv H b->v=.func (.yield (β.aq b)) #[] #[])
 |_,_=>False
def bO(v:AV)(x:b5):Prop:=x.oneCell'=true/\bS P β H v x
mutual
def bu:AV->List b5->Prop
 | .p t,cs=>aU P w ad t cs
 | .st u fs,cs=>∃l a,dv P u=some l/\bM l fs a/\cs=a.flatten
 | .func f first iS,cs=>∃e d,bI first e/\bI iS d/\cs=[.func (.func f) e.toArray d.toArray]
 | .aC _,_=>False
 | .ptr b path,cs=>∃v,cs=[v]/\bO P β H (.ptr b path) v
 | .b7 b aA ai i path,cs=>∃v,cs=[v]/\bO P β H (.b7 b aA ai i path) v
 | .sl b aA ai off len,cs=>∃v,cs=[v]/\bO P β H (.sl b aA ai off len) v
 | .map b,cs=>∃v,cs=[v]/\bO P β H (.map b) v
def bM:List Nat->List AV->List (List b5)->Prop
 |[],[],a=>a=[]
 |n::h,v::vs,a=>∃c cs,a=c::cs/\bu v c/\c.length=n/\bM h vs cs
 |_,_,_=>False
def aB:AV->b5->Prop
 | .p t,v=>aD P w ad t v
 | .st u fs,v=>∃l a,dv P u=some l/\bM l fs a/\v=.agg a.flatten.toArray
 | .func f first iS,v=>∃e d,bI first e/\bI iS d/\v=.func (.func f) e.toArray d.toArray
 | .aC vs,v=>∃xs,bI vs xs/\v=.tuple xs.toArray
 | .ptr b path,v=>bO P β H (.ptr b path) v
 | .b7 b aA ai i path,v=>bO P β H (.b7 b aA ai i path) v
 | .sl b aA ai off len,v=>bO P β H (.sl b aA ai off len) v
 | .map b,v=>bO P β H (.map b) v
def bI:List AV->List b5->Prop
 |[],xs=>xs=[]
 |v::vs,xs=>∃y g,xs=y::g/\aB v y/\bI vs g
end
mutual
def aE(n:Nat×Nat->Prop):AV->Prop
 | .p _=>True
 | .ptr b _| .map b=>n (b,0)
 | .b7 b aA _ _ _| .sl b aA _ _ _=>n (b,aA)
 | .func _ first iS=>aS n first/\aS n iS
 | .st _ fs=>aS n fs
 | .aC vs=>aS n vs
def aS(n:Nat×Nat->Prop):List AV->Prop
 |[]=>True
 |v::vs=>aE n v/\aS n vs
end
def Obj.has:Obj->Nat->Prop
 | .hole,_=>False
 | .arr _ aA _ _,v=>v<=aA
 |_,_=>True
def aJ(H:aj)(x:Nat×Nat):Prop:=∃o,H[x.1]?=some o/\o.has x.2
def AV.tj:AV->Prop
 | .p _=>True
 |_=>False
def Obj.refs(n:Nat×Nat->Prop):Obj->Prop
 | .box _ t=>aE n t
 | .arr _ _ _ es=>aS n es
 | .loop L=>∀x,aE n (aN L.env x)
 |_=>True
def Obj.live:Obj->Prop
 | .hole| .dead=>False
 | .arr k _ _ es=>¬di k es
 |_=>True
variable(ah:Nat->Prop)
def cJ(fz:Bool)(b:Nat):Prop:=if fz then ad (β.aq b)else¬ad (β.aq b)/\¬ah (β.aq b)
def fG(b:Nat):Obj->Prop
 | .hole| .dead=>True
 | .box fz t=>∃cs T,w.heap[β.aq b]?=some (.cells cs T (0,0))/\bu P w ad β H t cs.toList/\cJ ad β ah fz b/\(fz=true->t.tj)/\jM T (aa t)=true
 | .arr k _ver ai es=>di k es\/
  ∃cs T a f,w.heap[β.aq b]?=some (.cells cs T (0,0))/\bM P w ad β H (er es.length ai) es a/\cs.toList=a.flatten++f/\
   cs.size=β.cap b*ai/\es.length<=β.cap b/\(k=.exact->β.cap b=es.length)/\cJ ad β ah (k== .frozen) b/\(k=.frozen->∀e∈es,e.tj)/\(k=.bytes->T=Gl.u8)
 | .map fz es=>∃c d,w.heap[β.aq b]?=some (.map c d)/\cK P w ad es c.toList/\cJ ad β ah fz b
 | .dG s pos=>∃bs:ByteArray,w.heap[β.aq b]?=some (.stringIter bs pos)/\s=bs.data.toList.map (·.toNat)/\cJ ad β ah false b
 | .loop L=>∃tmps defers fn,w.heap[β.aq b]?=some (.loop {state:=L.st,pending:=L.pending,fn,tmps,params:=L.params.toArray,assign:=L.assign,body:=L.body,defers})/\tmps.size=L.n/\
  (∀x,aB P w ad β H (aN L.env x) (tmps.getD x undef))/\cJ ad β ah false b
structure bV:Prop where
 cM:∀b o,H[b]?=some o->fG P w ad β H ah b o
 inj:∀b b' o o',H[b]?=some o->H[b']?=some o'->o.live->o'.live->¬ad (β.aq b)->β.aq b=β.aq b'->b=b'
 refs:∀(b:Nat)(o:Obj),H[b]?=some o->o.refs (aJ H)
 bQ:∀k,ad k->k<w.heap.size
 eC:∀k,ah k->k<w.heap.size
 iT:nG P w ad
end
structure Ext(ah ad:Nat->Prop)(w w':cc):Prop where
 size:w.heap.size<=w'.heap.size
 same:∀k,ah k\/ad k->w'.heap[k]?=w.heap[k]?
 io:w'.os=w.os/\w'.output=w.output
structure cz(β:Bd)(H:aj)(aK:Bd)(H':aj):Prop where
 box:∀b,aJ H (b,0)->nC H' b->nC H b/\aK.aq b=β.aq b
 it:∀b,aJ H (b,0)->nF H' b->nF H b/\aK.aq b=β.aq b
 map:∀b,aJ H (b,0)->nB H' b->nB H b/\aK.aq b=β.aq b
 arr:∀b aA ai k es,aJ H (b,aA)->fI H' b aA ai k es->∃k0 ia,fI H b aA ai k0 ia/\ia.length<=es.length/\(di k es↔di k0 ia)/\(¬di k es->aK.aq b=β.aq b/\aK.cap b=β.cap b)
 loop:∀b,aJ H (b,0)->iv H' b->iv H b/\aK.aq b=β.aq b
theorem cz.refl(β:Bd)(H:aj):cz β H β H:=
 ⟨fun _ _ h=>⟨h,rfl⟩,fun _ _ h=>⟨h,rfl⟩,fun _ _ h=>⟨h,rfl⟩,fun _ _ _ k a _ h=>⟨k,a,h,gx _,eq,fun _=>⟨rfl,rfl⟩⟩,fun _ _ h=>⟨h,rfl⟩⟩
theorem Ext.refl(ah ad:Nat->Prop)(w:cc):Ext ah ad w w:=⟨gx _,fun _ _=>rfl,rfl,rfl⟩
section mono
variable{P:b4}{w w':cc}{ad aF:Nat->Prop}
theorem Yg{aq off:Nat}(h:w'.heap[aq]?=w.heap[aq]?):w'.cell? ⟨aq,off,none⟩=w.cell? ⟨aq,off,none⟩:=by
 simp[ej,h]
theorem ir.same{aq off:Nat}{cs:List b5}(h:w'.heap[aq]?=w.heap[aq]?)(hc:ir w aq off cs):ir w' aq off cs:=
 fun i hi=>(Yg h).trans (hc i hi)
theorem yH{n:List Nat}{a:List (List b5)}(h:bk P w ad n [] a):a=[]:=by
 cases n<;>simp[bk]at h;exact h
variable(hI:∀k,ad k->aF k)(hs:∀k,ad k->w'.heap[k]?=w.heap[k]?)
include hI hs
mutual
theorem aU.mono:∀(v:PV)(cs:List b5),aU P w ad v cs->aU P w' aF v cs
 | .undef,_,h| .aC _,_,h=>by simp[aU]at h
 | .bool _,_,h| .int _ _,_,h| .str _,_,h| .dR,_,h| .aH,_,h| .fF,_,h| .iU,_,h| .gO,_,h=>by simpa[aU]using h
 | .cm t,cs,h=>by
  simp only[aU]at h⊢;obtain⟨aq,off,ts,a,b,d,j⟩:=h;exact⟨aq,off,ts,aU.mono t ts a,hI _ b,d.same (hs _ b),j⟩
 | .cT full o,cs,h=>by
  simp only[aU]at h⊢;obtain⟨aq,off,cap,ai,g,a,b,d,j⟩:=h;refine⟨aq,off,cap,ai,g,bk.mono _ o g a,fun m=>hI _ (b m),?_,j⟩
  by_cases m:o=[]
  ·subst m;have:=yH a;subst this;intro i hi;simp at hi
  ·exact d.same (hs _ (b m))
 | .seq o,cs,h=>by
  simp only[aU]at h⊢;rcases h with h|⟨aq,off,cap,ai,g,a,b,d,j⟩
  ·exact .inl h
  refine .inr ⟨aq,off,cap,ai,g,bk.mono _ o g a,fun m=>hI _ (b m),?_,j⟩
  by_cases m:o=[]
  ·subst m;have:=yH a;subst this;intro i hi;simp at hi
  ·exact d.same (hs _ (b m))
 | .eB o,cs,h=>by
  simp only[aU]at h⊢;obtain⟨r,p,clock,a,b,d,j⟩:=h;exact⟨r,p,clock,hI _ a,(hs _ a).trans b,cK.mono o _ d,j⟩
 | .func f first iS,cs,h=>by
  simp only[aU]at h⊢;obtain⟨z,s,a,b,d⟩:=h;exact⟨z,s,bK.mono first z a,bK.mono iS s b,d⟩
 | .st u fs,cs,h=>by
  simp only[aU]at h⊢;obtain⟨l,g,a,b,d⟩:=h;exact⟨l,g,a,bk.mono l fs g b,d⟩
theorem bk.mono:∀(l:List Nat)(vs:List PV)(g:List (List b5)),bk P w ad l vs g->bk P w' aF l vs g
 |[],[],_,h=>by simpa[bk]using h
 |[],_::_,_,h=>by simp[bk]at h
 |_::_,[],_,h=>by simp[bk]at h
 |n::B,v::vs,g,h=>by
  simp only[bk]at h⊢;obtain⟨c,cs,a,b,d,j⟩:=h;exact⟨c,cs,a,aU.mono v c b,d,bk.mono B vs cs j⟩
theorem aD.mono:∀(v:PV)(x:b5),aD P w ad v x->aD P w' aF v x
 | .undef,_,h=>by simp[aD]
 | .aC vs,x,h=>by
  simp only[aD]at h⊢;obtain⟨q,a,b⟩:=h;exact⟨q,bK.mono vs q a,b⟩
 | .bool _,_,h| .int _ _,_,h| .str _,_,h| .dR,_,h| .aH,_,h| .fF,_,h| .iU,_,h| .gO,_,h=>by simpa[aD]using h
 | .cm t,cs,h=>by
  simp only[aD]at h⊢;obtain⟨aq,off,ts,a,b,d,j⟩:=h;exact⟨aq,off,ts,aU.mono t ts a,hI _ b,d.same (hs _ b),j⟩
 | .cT full o,cs,h=>by
  simp only[aD]at h⊢;obtain⟨aq,off,cap,ai,g,a,b,d,j⟩:=h;refine⟨aq,off,cap,ai,g,bk.mono _ o g a,fun m=>hI _ (b m),?_,j⟩
  by_cases m:o=[]
  ·subst m;have:=yH a;subst this;intro i hi;simp at hi
  ·exact d.same (hs _ (b m))
 | .seq o,cs,h=>by
  simp only[aD]at h⊢;rcases h with h|⟨aq,off,cap,ai,g,a,b,d,j⟩
  ·exact .inl h
  refine .inr ⟨aq,off,cap,ai,g,bk.mono _ o g a,fun m=>hI _ (b m),?_,j⟩
  by_cases m:o=[]
  ·subst m;have:=yH a;subst this;intro i hi;simp at hi
  ·exact d.same (hs _ (b m))
 | .eB o,cs,h=>by
  simp only[aD]at h⊢;obtain⟨r,p,clock,a,b,d,j⟩:=h;exact⟨r,p,clock,hI _ a,(hs _ a).trans b,cK.mono o _ d,j⟩
 | .func f first iS,cs,h=>by
  simp only[aD]at h⊢;obtain⟨z,s,a,b,d⟩:=h;exact⟨z,s,bK.mono first z a,bK.mono iS s b,d⟩
 | .st u fs,cs,h=>by
  simp only[aD]at h⊢;obtain⟨l,g,a,b,d⟩:=h;exact⟨l,g,a,bk.mono l fs g b,d⟩
theorem bK.mono:∀(vs:List PV)(q:List b5),bK P w ad vs q->bK P w' aF vs q
 |[],_,h=>by simpa[bK]using h
 |v::vs,q,h=>by
  simp only[bK]at h⊢;obtain⟨y,A,a,b,d⟩:=h;exact⟨y,A,a,aD.mono v y b,bK.mono vs A d⟩
theorem cK.mono:∀(o:List (PV×PV))(p:List db),cK P w ad o p->cK P w' aF o p
 |[],_,h=>by simpa[cK]using h
 |(k,v)::r,p,h=>by
  simp only[cK]at h⊢;obtain⟨e,rest,a,b,d,j⟩:=h;exact⟨e,rest,a,aD.mono k _ b,aD.mono v _ d,cK.mono r rest j⟩
end
theorem nG.mono(h:nG P w ad):nG P w' aF:=⟨fun g=>aD.mono hI hs _ _ (h.val g),fun g cs c=>by
 obtain⟨a,T,b⟩:=h.raw g cs c;exact⟨hI _ a,T,(hs _ a).trans b⟩⟩
variable{β aK:Bd}{H H':aj}(aM:cz β H aK H')
include aM
omit hI hs in
theorem bS.mono:∀(v:AV)(x:b5),aE (aJ H) v->bS P β H v x->bS P aK H' v x
 | .ptr b path,x,d,h=>by
  simp only[bS,aE]at*;obtain⟨aq,off,o,c,f,g⟩:=h;refine⟨aq,off,o,c,f,fun a=>?_⟩;rcases a with a|a
  ·obtain⟨k1,k2⟩:=aM.box b d a;rw[k2];exact g (.inl k1)
  ·obtain⟨k1,k2⟩:=aM.it b d a;rw[k2];exact g (.inr k1)
 | .b7 b aA ai i path,x,d,h=>by
  simp only[bS,aE]at*;obtain⟨aq,off,o,g1,g2,g3⟩:=h;refine⟨aq,off,o,g1,g2,fun k l a e=>?_⟩;obtain⟨k0,ia,c,f,g,j⟩:=aM.arr b aA ai k l d a;rw[(j e).1];exact g3 k0 ia c (fun m=>e (g.2 m))
 | .sl b aA ai off len,x,d,h=>by
  simp only[bS,aE]at*;intro k l a;obtain⟨k0,ia,c,f,g,j⟩:=aM.arr b aA ai k l d a;obtain⟨r,n,q⟩:=h k0 ia c;refine⟨by omega,fun e=>n (g.1 e),fun e=>?_⟩;rw[(j e).1,(j e).2];exact q (fun m=>e (g.2 m))
 | .map b,x,d,h=>by
  simp only[bS,aE]at*;refine⟨fun a=>?_,fun a=>?_⟩
  ·obtain⟨c,f⟩:=aM.map b d a;rw[f];exact h.1 c
  ·obtain⟨c,f⟩:=aM.loop b d a;rw[f];exact h.2 c
 | .p _,_,_,h| .st _ _,_,_,h| .func _ _ _,_,_,h| .aC _,_,_,h=>by simp[bS]at h
omit hI hs in
theorem bO.mono(v:AV)(x:b5)(a:aE (aJ H) v)(h:bO P β H v x):bO P aK H' v x:=⟨h.1,bS.mono aM v x a h.2⟩
mutual
theorem bu.mono:∀(v:AV)(cs:List b5),aE (aJ H) v->bu P w ad β H v cs->bu P w' aF aK H' v cs
 | .p t,cs,_,h=>by simp only[bu]at h⊢;exact aU.mono hI hs t cs h
 | .st u fs,cs,a,h=>by
  simp only[bu,aE]at*;obtain⟨l,j,d,e,g⟩:=h;exact⟨l,j,d,bM.mono l fs j a e,g⟩
 | .func f first iS,cs,a,h=>by
  simp only[bu,aE]at*;obtain⟨m,k,d,e,g⟩:=h;exact⟨m,k,bI.mono first m a.1 d,bI.mono iS k a.2 e,g⟩
 | .aC _,_,_,h=>by simp[bu]at h
 | .ptr b path,cs,a,h=>by
  simp only[bu]at*;obtain⟨v,d,e⟩:=h;exact⟨v,d,bO.mono aM _ _ a e⟩
 | .b7 b aA ai i path,cs,a,h=>by
  simp only[bu]at*;obtain⟨v,d,e⟩:=h;exact⟨v,d,bO.mono aM _ _ a e⟩
 | .sl b aA ai off len,cs,a,h=>by
  simp only[bu]at*;obtain⟨v,d,e⟩:=h;exact⟨v,d,bO.mono aM _ _ a e⟩
 | .map b,cs,a,h=>by
  simp only[bu]at*;obtain⟨v,d,e⟩:=h;exact⟨v,d,bO.mono aM _ _ a e⟩
theorem bM.mono:∀(l:List Nat)(vs:List AV)(j:List (List b5)),aS (aJ H) vs->bM P w ad β H l vs j->bM P w' aF aK H' l vs j
 |[],[],_,_,h=>by simpa[bM]using h
 |[],_::_,_,_,h=>by simp[bM]at h
 |_::_,[],_,_,h=>by simp[bM]at h
 |n::r,v::vs,j,a,h=>by
  simp only[bM,aS]at*;obtain⟨c,cs,d,e,g,q⟩:=h;exact⟨c,cs,d,bu.mono v c a.1 e,g,bM.mono r vs cs a.2 q⟩
theorem aB.mono:∀(v:AV)(x:b5),aE (aJ H) v->aB P w ad β H v x->aB P w' aF aK H' v x
 | .p t,cs,_,h=>by simp only[aB]at h⊢;exact aD.mono hI hs t cs h
 | .st u fs,cs,a,h=>by
  simp only[aB,aE]at*;obtain⟨l,j,d,e,g⟩:=h;exact⟨l,j,d,bM.mono l fs j a e,g⟩
 | .func f first iS,cs,a,h=>by
  simp only[aB,aE]at*;obtain⟨m,k,d,e,g⟩:=h;exact⟨m,k,bI.mono first m a.1 d,bI.mono iS k a.2 e,g⟩
 | .aC vs,cs,a,h=>by
  simp only[aB,aE]at*;obtain⟨xs,d,e⟩:=h;exact⟨xs,bI.mono vs xs a d,e⟩
 | .ptr b path,cs,a,h=>by simp only[aB]at*;exact bO.mono aM _ _ a h
 | .b7 b aA ai i path,cs,a,h=>by simp only[aB]at*;exact bO.mono aM _ _ a h
 | .sl b aA ai off len,cs,a,h=>by simp only[aB]at*;exact bO.mono aM _ _ a h
 | .map b,cs,a,h=>by simp only[aB]at*;exact bO.mono aM _ _ a h
theorem bI.mono:∀(vs:List AV)(xs:List b5),aS (aJ H) vs->bI P w ad β H vs xs->bI P w' aF aK H' vs xs
 |[],_,_,h=>by simpa[bI]using h
 |v::vs,xs,a,h=>by
  simp only[bI,aS]at*;obtain⟨y,o,d,e,g⟩:=h;exact⟨y,o,d,aB.mono v y a.1 e,bI.mono vs o a.2 g⟩
end
end mono
def eA:List AV->Option (List PV)
 |[]=>some []
 | .p v::r=>match eA r with
  |some l=>some (v::l)
  |none=>none
 |_::_=>none
def iK(u:cb)(fs:List AV):AV:=
 match eA fs with
 |some l=>.p (.st u l)
 |none=>.st u fs
def lL:PV->List (cb×Nat)->Option PV
 |t,[]=>some t
 |t,(u,i)::r=>if aI t=.agg u then(match(bW t)[i]? with
  |some f=>lL f r
  |none=>none)else none
def fo:AV->List (cb×Nat)->Option AV
 |t,[]=>some t
 | .p t,(u,i)::r=>match lL t ((u,i)::r)with
  |some s=>some (.p s)
  |none=>none
 | .st u' fs,(u,i)::r=>if u'=u then(match fs[i]? with
  |some f=>fo f r
  |none=>none)else none
 |_,_=>none
def gu(t:AV)(b:List (cb×Nat))(x:AV):Option AV:=
 match b with
 |[]=>some x
 |(u,i)::r=>
  match t with
  | .p t=>if aI t=.agg u then(match(bW t)[i]? with
   |some f=>(match gu (.p f) r x with
    |some a=>some (iK u (((bW t).map .p).set i a))
    |none=>none)
   |none=>none)else none
  | .st u' fs=>if u'=u then(match fs[i]? with
   |some f=>(match gu f r x with
    |some a=>some (iK u (fs.set i a))
    |none=>none)
   |none=>none)else none
  |_=>none
section
variable{P:b4}{w:cc}{ad:Nat->Prop}{β:Bd}{H:aj}
theorem vR:∀{l:List Nat}{vs:List PV}{a:List (List b5)},bk P w ad l vs a->a.map (·.length)=l/\vs.length=l.length/\a.length=l.length
 |[],[],_,h=>by simp[bk]at h;subst h;simp
 |[],_::_,_,h=>by simp[bk]at h
 |_::_,[],_,h=>by simp[bk]at h
 |n::f,v::vs,a,h=>by
  simp only[bk]at h;obtain⟨c,cs,rfl,e,b,d⟩:=h;have:=vR d;simp[b,this]
theorem yP:∀{l:List Nat}{vs:List AV}{a:List (List b5)},bM P w ad β H l vs a->a.map (·.length)=l/\vs.length=l.length/\a.length=l.length
 |[],[],_,h=>by simp[bM]at h;subst h;simp
 |[],_::_,_,h=>by simp[bM]at h
 |_::_,[],_,h=>by simp[bM]at h
 |n::f,v::vs,a,h=>by
  simp only[bM]at h;obtain⟨c,cs,rfl,e,b,d⟩:=h;have:=yP d;simp[b,this]
theorem M7{u:cb}{l:List Nat}(h:dv P u=some l):l.sum=P.cellsOf u/\∀n∈l,0<n:=by
 unfold dv at h
 split at h
 ·dsimp only at h
  split at h
  ·rename_i hc;simp at hc;obtain⟨⟨b,c⟩,d⟩:=hc;simp at h;subst h;refine⟨c,?_⟩;intro n a;simp at a;obtain⟨f,hf,rfl⟩:=a;obtain⟨i,hi,rfl⟩:=Array.mem_iff_getElem.1 hf;exact b i hi
  ·simp at h
 ·split at h
  ·rename_i hc;simp at hc;simp at h;subst h;refine⟨by simp[List.sum_replicate_nat,hc.2],?_⟩;intro n a;have:=List.eq_of_mem_replicate a;omega
  ·simp at h
 ·simp at h
theorem pO:∀{v:PV}{cs:List b5},aU P w ad v cs->cs.length=bG P (aI v)/\aI v≠.bad:=by
 intro v cs h;cases v<;>simp only[aU]at h
 case st u fs=>
  obtain⟨l,c,a,b,rfl⟩:=h;have:=vR b;simp[aI,bG,this.1,(M7 a).1]
 case str=>obtain⟨_,h,_⟩:=h;subst h;simp[aI,bG]
 case seq=>
  rcases h with⟨_,rfl⟩|⟨_,_,_,_,_,_,_,_,_,_,_,rfl⟩<;>simp[aI,bG]
 all_goals first
  |(subst h;simp[aI,bG])
  |(obtain⟨_,_,_,_,_,_,rfl⟩:=h;simp[aI,bG])
  |(obtain⟨_,_,_,_,_,rfl⟩:=h;simp[aI,bG])
  |(obtain⟨_,_,_,_,_,_,_,_,_,_,_,_,rfl⟩:=h;simp[aI,bG])
  |(obtain⟨_,_,_,_,_,_,_,rfl⟩:=h;simp[aI,bG])
  |(obtain⟨_,_,_,_,rfl⟩:=h;simp[aI,bG])
  |(obtain⟨_,h,_⟩:=h;subst h;simp[aI,bG])
  |exact h.elim
theorem oA{v:AV}{cs:List b5}(h:bu P w ad β H v cs):cs.length=bG P (aa v)/\aa v≠.bad:=by
 cases v<;>simp only[bu]at h
 case p t=>exact pO h
 case st u fs=>
  obtain⟨l,c,a,b,rfl⟩:=h;have:=yP b;simp[aa,bG,this.1,(M7 a).1]
 all_goals first
  |(obtain⟨_,rfl,_⟩:=h;simp[aa,bG])
  |(obtain⟨_,_,_,_,rfl⟩:=h;simp[aa,bG])
theorem ug{v:PV}(hs:aI v=.leaf)(cs:List b5):aU P w ad v cs↔∃c,cs=[c]/\aD P w ad v c:=by
 cases v<;>simp[aI]at hs<;>simp only[aU,aD]
 case bool|int|dR|aH|fF|iU|gO=>exact⟨fun h=>⟨_,h,rfl⟩,fun⟨c,g,i⟩=>by rw[g,i]⟩
 case str s=>exact⟨fun⟨bs,g,i⟩=>⟨_,g,bs,rfl,i⟩,fun⟨c,g,bs,i,j⟩=>⟨bs,by rw[g,i],j⟩⟩
 case cm t=>exact⟨fun⟨a,b,c,g,i,j,k⟩=>⟨_,k,a,b,c,g,i,j,rfl⟩,fun⟨v,g,a,b,c,i,j,k,l⟩=>⟨a,b,c,i,j,k,by rw[g,l]⟩⟩
 case cT f es=>exact⟨fun⟨a,b,c,d,e,g,i,j,k,l,sp,n,m⟩=>⟨_,m,a,b,c,d,e,g,i,j,k,l,sp,n,rfl⟩,fun⟨v,h,a,b,c,d,e,g,i,j,k,l,sp,n,m⟩=>⟨a,b,c,d,e,g,i,j,k,l,sp,n,by rw[h,m]⟩⟩
 case seq es=>
  constructor
  ·rintro(⟨g,i⟩|⟨a,b,c,d,e,g,i,j,l,sp,n,m⟩)
   ·exact⟨_,i,.inl ⟨g,rfl⟩⟩
   ·exact⟨_,m,.inr ⟨a,b,c,d,e,g,i,j,l,sp,n,rfl⟩⟩
  ·rintro⟨v,h,(⟨g,i⟩|⟨a,b,c,d,e,g,i,j,l,sp,n,m⟩)⟩
   ·exact .inl ⟨g,by rw[h,i]⟩
   ·exact .inr ⟨a,b,c,d,e,g,i,j,l,sp,n,by rw[h,m]⟩
 case eB es=>exact⟨fun⟨a,b,c,g,i,j,k⟩=>⟨_,k,a,b,c,g,i,j,rfl⟩,fun⟨v,h,a,b,c,g,i,j,k⟩=>⟨a,b,c,g,i,j,by rw[h,k]⟩⟩
 case func f x y=>exact⟨fun⟨a,b,g,i,j⟩=>⟨_,j,a,b,g,i,rfl⟩,fun⟨v,h,a,b,g,i,j⟩=>⟨a,b,g,i,by rw[h,j]⟩⟩
theorem xc{v:PV}{u:cb}(hs:aI v=.agg u)(cs:List b5):aU P w ad v cs↔aD P w ad v (.agg cs.toArray):=by
 cases v<;>simp[aI]at hs;subst hs;simp only[aU,aD];constructor
 ·rintro⟨l,a,b,c,rfl⟩;exact⟨l,a,b,c,rfl⟩
 ·rintro⟨l,a,b,c,d⟩;refine⟨l,a,b,c,?_⟩;injection d with d;simpa using congrArg b0 d
theorem Dq{v:AV}(hs:aa v=.leaf)(cs:List b5):bu P w ad β H v cs↔∃c,cs=[c]/\aB P w ad β H v c:=by
 cases v<;>simp[aa]at hs<;>simp only[bu,aB]
 case p t=>exact ug hs cs
 case func f x y=>exact⟨fun⟨a,b,d,e,g⟩=>⟨_,g,a,b,d,e,rfl⟩,fun⟨v,h,a,b,d,e,g⟩=>⟨a,b,d,e,by rw[h,g]⟩⟩
theorem Og{v:AV}{u:cb}(hs:aa v=.agg u)(cs:List b5):bu P w ad β H v cs↔aB P w ad β H v (.agg cs.toArray):=by
 cases v<;>simp[aa]at hs
 case p t=>simp only[bu,aB];exact xc hs cs
 case st u' fs=>
  subst hs;simp only[bu,aB];constructor
  ·rintro⟨l,a,b,c,rfl⟩;exact⟨l,a,b,c,rfl⟩
  ·rintro⟨l,a,b,c,d⟩;refine⟨l,a,b,c,?_⟩;injection d with d;simpa using congrArg b0 d
theorem zi{v:AV}{x:b5}(h:aB P w ad β H v x)(hs:aa v≠.bad):bu P w ad β H v x.cells.toList:=by
 cases a:aa v with
 |bad=>exact absurd a hs
 |leaf=>
  rw[Dq a];refine⟨x,?_,h⟩;cases v<;>simp[aa]at a<;>simp only[aB]at h
  case p t=>
   cases t<;>simp[aI]at a<;>simp only[aD]at h
   case bool|int|dR|aH|fF|iU|gO=>subst h;rfl
   case str=>obtain⟨_,rfl,_⟩:=h;rfl
   case cm=>obtain⟨_,_,_,_,_,_,rfl⟩:=h;rfl
   case cT=>obtain⟨_,_,_,_,_,_,_,_,_,_,_,_,rfl⟩:=h;rfl
   case seq=>rcases h with⟨_,rfl⟩|⟨_,_,_,_,_,_,_,_,_,_,_,rfl⟩<;>rfl
   case eB=>obtain⟨_,_,_,_,_,_,rfl⟩:=h;rfl
   case func=>obtain⟨_,_,_,_,rfl⟩:=h;rfl
  case func=>obtain⟨_,_,_,_,rfl⟩:=h;rfl
  all_goals (have b:=h.1;cases x<;>first|rfl|(simp[ec]at b))
 |agg u=>
  cases v<;>simp[aa]at a
  case p t=>
   cases t<;>simp[aI]at a;simp only[aB,aD]at h;obtain⟨l,c,b,d,rfl⟩:=h;simp only[bu,aU];exact⟨l,c,b,d,by simp[ed]⟩
  case st u' fs=>
   simp only[aB]at h;obtain⟨l,c,b,d,rfl⟩:=h;simp only[bu];exact⟨l,c,b,d,by simp[ed]⟩
end
mutual
def Wk:PV->PV->Prop
 | .undef,v=>v=.undef
 | .bool b,v=>v=.bool b
 | .int k n,v=>v=.int k n
 | .str s,v=>v=.str s
 | .dR,v=>v=.dR
 | .fF,v=>v=.fF
 | .iU,v=>v=.iU
 | .gO,v=>v=.gO
 | .aH,v=>v=.aH\/v=.seq []
 | .cm t,v=>match v with
  | .cm h=>Wk t h
  |_=>False
 | .cT f es,v=>match v with
  | .cT g fs=>(g=true->f=true)/\bE es fs
  | .seq fs=>bE es fs
  |_=>False
 | .seq es,v=>match v with
  | .seq fs=>bE es fs
  |_=>False
 | .eB es,v=>match v with
  | .eB fs=>lO es fs
  |_=>False
 | .func f a b,v=>match v with
  | .func g c d=>f=g/\bE a c/\bE b d
  |_=>False
 | .st u es,v=>match v with
  | .st u' fs=>u=u'/\bE es fs
  |_=>False
 | .aC es,v=>match v with
  | .aC fs=>bE es fs
  |_=>False
def bE:List PV->List PV->Prop
 |[],fs=>fs=[]
 |v::vs,fs=>match fs with
  |f::fs=>Wk v f/\bE vs fs
  |[]=>False
def lO:List (PV×PV)->List (PV×PV)->Prop
 |[],fs=>fs=[]
 |(k,v)::vs,fs=>match fs with
  |(e,f)::fs=>k=e/\Wk v f/\lO vs fs
  |[]=>False
end
mutual
theorem Wk.refl:∀v,Wk v v
 | .undef| .bool _| .int _ _| .str _| .dR| .fF| .iU| .gO=>by simp[Wk]
 | .aH=>by simp[Wk]
 | .cm t=>by simp only[Wk];exact Wk.refl t
 | .cT f c=>by simp only[Wk];exact⟨id,bE.refl c⟩
 | .seq c=>by simp only[Wk];exact bE.refl c
 | .eB c=>by simp only[Wk];exact lO.refl c
 | .func f a b=>by simp only[Wk];exact⟨trivial,bE.refl a,bE.refl b⟩
 | .st u c=>by simp only[Wk];exact⟨trivial,bE.refl c⟩
 | .aC c=>by simp only[Wk];exact bE.refl c
theorem bE.refl:∀vs,bE vs vs
 |[]=>by simp[bE]
 |v::vs=>by simp only[bE];exact⟨Wk.refl v,bE.refl vs⟩
theorem lO.refl:∀c,lO c c
 |[]=>by simp[lO]
 |(k,v)::vs=>by simp only[lO];exact⟨trivial,Wk.refl v,lO.refl vs⟩
end
theorem bE.length:∀{es fs:List PV},bE es fs->fs.length=es.length
 |[],fs,h=>by simp only[bE]at h;subst h;rfl
 |v::vs,fs,h=>by
  cases fs with
  |nil=>simp[bE]at h
  |cons f fs=>simp only[bE]at h;simp[bE.length h.2]
theorem bE.pZ{a fs:List PV}(h:bE a fs):fs=[]↔a=[]:=by
 have:=h.length;rw[<-fl,<-fl,this]
theorem Wk.aI:∀{v v':PV},Wk v v'->ak.aI v'=ak.aI v
 | .undef,v',h| .bool _,v',h| .int _ _,v',h| .str _,v',h| .dR,v',h| .fF,v',h| .iU,v',h| .gO,v',h=>by simp only[Wk]at h;subst h;rfl
 | .aH,v',h=>by simp only[Wk]at h;rcases h with rfl|rfl<;>rfl
 | .cm _,v',h| .cT _ _,v',h| .seq _,v',h| .eB _,v',h| .func _ _ _,v',h| .aC _,v',h=>by cases v'<;>simp only[Wk]at h<;>rfl
 | .st _ _,v',h=>by
  cases v'<;>simp only[Wk]at h;simp[ak.aI,h.1]
section
variable{P:b4}{w:cc}{ad:Nat->Prop}
mutual
theorem aU.dd:∀(v v':PV)(cs:List b5),Wk v v'->aU P w ad v cs->aU P w ad v' cs
 | .undef,v',cs,h,hc| .bool _,v',cs,h,hc| .int _ _,v',cs,h,hc| .str _,v',cs,h,hc| .dR,v',cs,h,hc| .fF,v',cs,h,hc| .iU,v',cs,h,hc| .gO,v',cs,h,hc=>by simp only[Wk]at h;subst h;exact hc
 | .aH,v',cs,h,hc=>by
  simp only[Wk]at h;rcases h with rfl|rfl
  ·exact hc
  ·simp only[aU]at hc⊢;exact .inl ⟨trivial,hc⟩
 | .cm t,v',cs,h,hc=>by
  cases v'<;>simp only[Wk]at h;simp only[aU]at hc⊢;obtain⟨aq,off,ts,d,i⟩:=hc;exact⟨aq,off,ts,aU.dd _ _ _ h d,i⟩
 | .cT f o,v',cs,h,hc=>by
  cases v' with
  |cT g fs=>
   simp only[Wk]at h;simp only[aU]at hc⊢;obtain⟨aq,off,cap,ai,m,d,i,j,p,q,s⟩:=hc;have z:=h.2.length;rw[z];exact⟨aq,off,cap,ai,m,bk.dd _ _ _ _ h.2 d,fun A=>i (fun e=>A (h.2.pZ.2 e)),j,fun e=>p (h.1 e),q,s⟩
  |seq fs=>
   simp only[Wk]at h;simp only[aU]at hc⊢;obtain⟨aq,off,cap,ai,m,d,i,j,p,q,s⟩:=hc;have z:=h.length;rw[z];exact .inr ⟨aq,off,cap,ai,m,bk.dd _ _ _ _ h d,fun A=>i (fun e=>A (h.pZ.2 e)),j,q,s⟩
  |_=>simp only[Wk]at h
 | .seq o,v',cs,h,hc=>by
  cases v'<;>simp only[Wk]at h;simp only[aU]at hc⊢;rcases hc with⟨d,i⟩|⟨aq,off,cap,ai,m,d,i,j,q,s⟩
  ·exact .inl ⟨h.pZ.2 d,i⟩
  ·have z:=h.length;rw[z];exact .inr ⟨aq,off,cap,ai,m,bk.dd _ _ _ _ h d,fun A=>i (fun e=>A (h.pZ.2 e)),j,q,s⟩
 | .eB o,v',cs,h,hc=>by
  cases v'<;>simp only[Wk]at h;simp only[aU]at hc⊢;obtain⟨r,C,clock,d,i,j,p⟩:=hc;exact⟨r,C,clock,d,i,cK.dd _ _ _ h j,p⟩
 | .func f a b,v',cs,h,hc=>by
  cases v'<;>simp only[Wk]at h;obtain⟨rfl,F,G⟩:=h;simp only[aU]at hc⊢;obtain⟨E,D,d,i,j⟩:=hc;exact⟨E,D,bK.dd _ _ _ F d,bK.dd _ _ _ G i,j⟩
 | .st u o,v',cs,h,hc=>by
  cases v'<;>simp only[Wk]at h;obtain⟨rfl,h⟩:=h;simp only[aU]at hc⊢;obtain⟨l,m,d,i,j⟩:=hc;exact⟨l,m,d,bk.dd _ _ _ _ h i,j⟩
 | .aC o,v',cs,h,hc=>by simp[aU]at hc
theorem bk.dd:∀(l:List Nat)(o fs:List PV)(m:List (List b5)),bE o fs->bk P w ad l o m->bk P w ad l fs m
 |l,[],fs,m,h,hc=>by simp only[bE]at h;subst h;exact hc
 |l,v::vs,fs,m,h,hc=>by
  cases fs with
  |nil=>simp[bE]at h
  |cons f fs=>
   simp only[bE]at h;cases l with
   |nil=>simp[bk]at hc
   |cons n l=>
    simp only[bk]at hc⊢;obtain⟨c,cs,d,i,j,p⟩:=hc;exact⟨c,cs,d,aU.dd _ _ _ h.1 i,j,bk.dd _ _ _ _ h.2 p⟩
theorem aD.dd:∀(v v':PV)(x:b5),Wk v v'->aD P w ad v x->aD P w ad v' x
 | .undef,v',cs,h,hc| .bool _,v',cs,h,hc| .int _ _,v',cs,h,hc| .str _,v',cs,h,hc| .dR,v',cs,h,hc| .fF,v',cs,h,hc| .iU,v',cs,h,hc| .gO,v',cs,h,hc=>by simp only[Wk]at h;subst h;exact hc
 | .aH,v',cs,h,hc=>by
  simp only[Wk]at h;rcases h with rfl|rfl
  ·exact hc
  ·simp only[aD]at hc⊢;exact .inl ⟨trivial,hc⟩
 | .cm t,v',cs,h,hc=>by
  cases v'<;>simp only[Wk]at h;simp only[aD]at hc⊢;obtain⟨aq,off,ts,d,i⟩:=hc;exact⟨aq,off,ts,aU.dd _ _ _ h d,i⟩
 | .cT f o,v',cs,h,hc=>by
  cases v' with
  |cT g fs=>
   simp only[Wk]at h;simp only[aD]at hc⊢;obtain⟨aq,off,cap,ai,m,d,i,j,p,q,s⟩:=hc;have z:=h.2.length;rw[z];exact⟨aq,off,cap,ai,m,bk.dd _ _ _ _ h.2 d,fun A=>i (fun e=>A (h.2.pZ.2 e)),j,fun e=>p (h.1 e),q,s⟩
  |seq fs=>
   simp only[Wk]at h;simp only[aD]at hc⊢;obtain⟨aq,off,cap,ai,m,d,i,j,p,q,s⟩:=hc;have z:=h.length;rw[z];exact .inr ⟨aq,off,cap,ai,m,bk.dd _ _ _ _ h d,fun A=>i (fun e=>A (h.pZ.2 e)),j,q,s⟩
  |_=>simp only[Wk]at h
 | .seq o,v',cs,h,hc=>by
  cases v'<;>simp only[Wk]at h;simp only[aD]at hc⊢;rcases hc with⟨d,i⟩|⟨aq,off,cap,ai,m,d,i,j,q,s⟩
  ·exact .inl ⟨h.pZ.2 d,i⟩
  ·have z:=h.length;rw[z];exact .inr ⟨aq,off,cap,ai,m,bk.dd _ _ _ _ h d,fun A=>i (fun e=>A (h.pZ.2 e)),j,q,s⟩
 | .eB o,v',cs,h,hc=>by
  cases v'<;>simp only[Wk]at h;simp only[aD]at hc⊢;obtain⟨r,C,clock,d,i,j,p⟩:=hc;exact⟨r,C,clock,d,i,cK.dd _ _ _ h j,p⟩
 | .func f a b,v',cs,h,hc=>by
  cases v'<;>simp only[Wk]at h;obtain⟨rfl,F,G⟩:=h;simp only[aD]at hc⊢;obtain⟨E,D,d,i,j⟩:=hc;exact⟨E,D,bK.dd _ _ _ F d,bK.dd _ _ _ G i,j⟩
 | .st u o,v',cs,h,hc=>by
  cases v'<;>simp only[Wk]at h;obtain⟨rfl,h⟩:=h;simp only[aD]at hc⊢;obtain⟨l,m,d,i,j⟩:=hc;exact⟨l,m,d,bk.dd _ _ _ _ h i,j⟩
 | .aC o,v',cs,h,hc=>by
  cases v'<;>simp only[Wk]at h;simp only[aD]at hc⊢;obtain⟨B,d,i⟩:=hc;exact⟨B,bK.dd _ _ _ h d,i⟩
theorem bK.dd:∀(o fs:List PV)(B:List b5),bE o fs->bK P w ad o B->bK P w ad fs B
 |[],fs,B,h,hc=>by simp only[bE]at h;subst h;exact hc
 |v::vs,fs,B,h,hc=>by
  cases fs with
  |nil=>simp[bE]at h
  |cons f fs=>
   simp only[bE]at h;simp only[bK]at hc⊢;obtain⟨y,H,d,i,j⟩:=hc;exact⟨y,H,d,aD.dd _ _ _ h.1 i,bK.dd _ _ _ h.2 j⟩
theorem cK.dd:∀(o fs:List (PV×PV))(C:List db),lO o fs->cK P w ad o C->cK P w ad fs C
 |[],fs,B,h,hc=>by simp only[lO]at h;subst h;exact hc
 |(k,v)::vs,fs,B,h,hc=>by
  cases fs with
  |nil=>simp[lO]at h
  |cons f fs=>
   simp only[lO]at h;obtain⟨rfl,d,i⟩:=h;simp only[cK]at hc⊢;obtain⟨e,rest,e1,e2,e3,e4⟩:=hc;exact⟨e,rest,e1,e2,aD.dd _ _ _ d e3,cK.dd _ _ _ i e4⟩
end
end
section
variable{P:b4}{w:cc}{ad:Nat->Prop}{β:Bd}{H:aj}
theorem mC:∀{fs:List AV}{l:List PV},eA fs=some l->fs=l.map .p
 |[],l,h=>by simp[eA]at h;subst h;rfl
 | .p v::r,l,h=>by
  simp only[eA]at h;cases a:eA r with
  |none=>simp[a]at h
  |some b=>simp[a]at h;subst h;simp[mC a]
 | .ptr ..::_,_,h| .b7 ..::_,_,h| .sl ..::_,_,h| .map ..::_,_,h| .func ..::_,_,h| .st ..::_,_,h| .aC ..::_,_,h=>by simp[eA]at h
theorem Tp(l:List PV):eA (l.map .p)=some l:=by
 induction l with
 |nil=>rfl
 |cons v l a=>simp[eA,a]
theorem oy:∀{l:List Nat}{fs:List PV}{a:List (List b5)},bM P w ad β H l (fs.map .p) a↔bk P w ad l fs a
 |[],[],_=>by simp[bM,bk]
 |[],_::_,_=>by simp[bM,bk]
 |_::_,[],_=>by simp[bM,bk]
 |n::g,v::vs,a=>by
  simp only[e8,bM,bk,bu];constructor
  ·rintro⟨c,cs,b,d,e,f⟩;exact⟨c,cs,b,d,e,oy.1 f⟩
  ·rintro⟨c,cs,b,d,e,f⟩;exact⟨c,cs,b,d,e,oy.2 f⟩
theorem jV:∀{fs:List PV}{d:List b5},bI P w ad β H (fs.map .p) d↔bK P w ad fs d
 |[],_=>by simp[bI,bK]
 |v::vs,d=>by
  simp only[e8,bI,bK,aB];constructor
  ·rintro⟨y,e,a,b,c⟩;exact⟨y,e,a,b,jV.1 c⟩
  ·rintro⟨y,e,a,b,c⟩;exact⟨y,e,a,b,jV.2 c⟩
theorem MV{u:cb}{fs:List AV}{cs:List b5}:bu P w ad β H (iK u fs) cs↔bu P w ad β H (.st u fs) cs:=by
 unfold iK;cases h:eA fs with
 |none=>rfl
 |some l=>have:=mC h;subst this;simp[bu,aU,oy]
theorem Zn{u:cb}{fs:List AV}{x:b5}:aB P w ad β H (iK u fs) x↔aB P w ad β H (.st u fs) x:=by
 unfold iK;cases h:eA fs with
 |none=>rfl
 |some l=>have:=mC h;subst this;simp[aB,aD,oy]
theorem ju(n:Nat×Nat->Prop):∀l:List PV,aS n (l.map .p)
 |[]=>by simp[aS]
 |v::l=>by simp only[e8,aS,aE,true_and];exact ju n l
theorem Cm{n:Nat×Nat->Prop}{u:cb}{fs:List AV}(h:aS n fs):aE n (iK u fs):=by
 unfold iK;cases eA fs with
 |none=>exact h
 |some l=>simp[aE]
theorem c7{n:Nat×Nat->Prop}:∀{fs:List AV},aS n fs↔∀v∈fs,aE n v
 |[]=>by simp[aS]
 |v::vs=>by simp[aS,c7 (fs:=vs)]
theorem uq:∀{l:List Nat}{fs:List AV}{d:List (List b5)}{i:Nat}{f:AV},bM P w ad β H l fs d->fs[i]?=some f->
 ∃pre c post,d.flatten=pre++c++post/\pre.length=(l.take i).sum/\i<l.length/\l[i]?=some c.length/\bu P w ad β H f c/\
  ∀b c',bu P w ad β H b c'->c'.length=c.length->∃a,a.flatten=pre++c'++post/\bM P w ad β H l (fs.set i b) a
 |[],[],_,i,f,_,hf=>by simp at hf
 |[],_::_,_,_,_,h,_=>by simp[bM]at h
 |_::_,[],_,_,_,h,_=>by simp[bM]at h
 |n::m,v::vs,d,0,f,h,hf=>by
  simp only[bM]at h;obtain⟨c,cs,rfl,g,e,j⟩:=h;simp at hf;subst hf;refine⟨[],c,cs.flatten,by simp,by simp,by simp,by simp[e],g,?_⟩;intro b c' hc k;exact⟨c'::cs,by simp,by simp only[gc,bM];exact⟨c',cs,rfl,hc,by omega,j⟩⟩
 |n::m,v::vs,d,i+1,f,h,hf=>by
  simp only[bM]at h;obtain⟨c,cs,rfl,g,e,j⟩:=h;simp at hf;obtain⟨pre,x,post,k1,k2,k3,k4,k5,k6⟩:=uq j hf;refine⟨c++pre,x,post,by simp[k1],by simp[k2,e],by simpa using k3,by simpa using k4,k5,?_⟩;intro b c' hc k;obtain⟨a,e1,e2⟩:=k6 b c' hc k;exact⟨c::a,by simp[e1],by simp only[List.set_cons_succ,bM];exact⟨c,a,rfl,g,e,e2⟩⟩
theorem LN{t:AV}{u:cb}{cs:List b5}(hs:aa t= .agg u)(h:bu P w ad β H t cs):
 ∃l fs a,dv P u=some l/\bM P w ad β H l fs a/\cs=a.flatten/\(∀c,t=.p c->fs=(bW c).map .p)/\(∀u' g,t=.st u' g->fs=g/\u'=u):=by
 cases t<;>simp[aa]at hs
 case p t=>
  cases t<;>simp[aI]at hs;subst hs;simp only[bu,aU]at h;obtain⟨l,a,d,e,f⟩:=h;exact⟨l,_,a,d,oy.2 e,f,fun c b=>by cases b;rfl,fun _ _ h=>by cases h⟩
 case st u' fs=>
  subst hs;simp only[bu]at h;obtain⟨l,a,d,e,f⟩:=h;exact⟨l,fs,a,d,e,f,(fun c b=>by cases b),(fun j i b=>by cases b;exact⟨rfl,rfl⟩)⟩
theorem Al{t:PV}{a:List (cb×Nat)}:fo (.p t) a=(lL t a).map .p:=by
 cases a with
 |nil=>rfl
 |cons x r=>obtain⟨u,i⟩:=x;simp only[fo];cases lL t ((u,i)::r)<;>rfl
theorem pY:∀{z:List (cb×Nat)}{t s:AV}{cs:List b5}{o:Nat},bu P w ad β H t cs->fo t z=some s->gI P z=some o->
 ∃n q post,cs=n++q++post/\n.length=o/\bu P w ad β H s q/\
  ∀x k a,gu t z x=some a->bu P w ad β H x k->k.length=q.length->bu P w ad β H a (n++k++post)
 |[],t,s,cs,o,h,hs,d=>by
  simp[gI]at d;subst d;simp[fo]at hs;subst hs;refine⟨[],cs,[],by simp,by simp,h,?_⟩;intro x k a hx y _;simp[gu]at hx;subst hx;simpa using y
 |(u,i)::r,t,s,cs,o,h,hs,d=>by
  simp only[gI]at d;cases m:dv P u with
  |none=>simp[m]at d
  |some l=>
   cases v:gI P r with
   |none=>simp[m,v]at d
   |some o'=>
    simp[m,v]at d;obtain⟨J,rfl⟩:=d
    have key:∃fs f,(∃j e,dv P u=some j/\bM P w ad β H j fs e/\cs=e.flatten)/\fs[i]?=some f/\fo f r=some s/\
     (∀x a,gu t ((u,i)::r) x=some a->∃b,gu f r x=some b/\a=iK u (fs.set i b)):=by
     cases t
     case p t=>
      rw[Al]at hs;simp only[lL]at hs
      by_cases g:aI t=.agg u
      ·simp only[g,if_true]at hs;obtain⟨j,fs,e,k1,k2,k3,k4,_⟩:=LN (t:=.p t) (by simpa[aa]using g) h;have:=k4 t rfl;subst this;cases hf:(bW t)[i]? with
       |none=>simp[hf]at hs
       |some f=>
        simp only[hf]at hs;refine⟨_,.p f,⟨j,e,k1,k2,k3⟩,by simp[hf],by rw[Al];exact hs,?_⟩;intro x a hx;simp only[gu,g,if_true,hf]at hx;cases hq:gu (.p f) r x with
        |none=>simp[hq]at hx
        |some b=>simp[hq]at hx;exact⟨b,rfl,hx.symm⟩
      ·simp[g]at hs
     case st u' fs=>
      simp only[fo]at hs
      by_cases g:u'=u
      ·subst g;simp only[if_true]at hs;obtain⟨j,D,e,k1,k2,k3,_,k4⟩:=LN (t:=.st u' fs) rfl h;have:=(k4 _ _ rfl).1;subst this;cases hf:D[i]? with
       |none=>simp[hf]at hs
       |some f=>
        simp only[hf]at hs;refine⟨_,f,⟨j,e,k1,k2,k3⟩,hf,hs,?_⟩;intro x a hx;simp only[gu,if_true,hf]at hx;cases hq:gu f r x with
        |none=>simp[hq]at hx
        |some b=>simp[hq]at hx;exact⟨b,rfl,hx.symm⟩
      ·simp[g]at hs
     all_goals simp[fo]at hs
    obtain⟨fs,f,⟨j,e,k1,k2,k3⟩,hf,F,aL⟩:=key;rw[m]at k1;cases k1;obtain⟨n,c,post,e1,e2,e3,e4,e5,C⟩:=uq k2 hf;obtain⟨I,q,G,g1,g2,g3,g4⟩:=pY e5 F v;refine⟨n++I,q,G++post,by rw[k3,e1,g1];simp,by simp[e2,g2],g3,?_⟩;intro x k a hx y A;obtain⟨b,E,rfl⟩:=aL x a hx;have aP:=g4 x k b E y A;obtain⟨B,c1,c2⟩:=C b _ aP (by rw[g1];simp[A]);rw[MV];simp only[bu];exact⟨l,B,m,c2,by rw[c1];simp⟩
theorem zL{path:List (cb×Nat)}{t s:PV}{cs:List b5}{o:Nat}(h:aU P w ad t cs)(hs:lL t path=some s)(f:gI P path=some o):
 ∃a b post,cs=a++b++post/\a.length=o/\aU P w ad s b:=by
 obtain⟨a,b,post,c,d,e,_⟩:=pY (β:=⟨id,id⟩) (H:=[]) (t:=.p t) (s:=.p s) (by simpa[bu]using h) (by rw[Al,hs];rfl) f;exact⟨a,b,post,c,d,by simpa[bu]using e⟩
theorem wF{n:Nat×Nat->Prop}:∀{a:List (cb×Nat)}{t s:AV},fo t a=some s->aE n t->aE n s
 |[],t,s,hs,h=>by simp[fo]at hs;subst hs;exact h
 |(u,i)::r,.p t,s,hs,h=>by
  rw[Al]at hs;cases hq:lL t ((u,i)::r)with
  |none=>simp[hq]at hs
  |some q=>simp[hq]at hs;subst hs;simp[aE]
 |(u,i)::r,.st u' fs,s,hs,h=>by
  simp only[fo]at hs
  split at hs
  ·split at hs
   ·rename_i f hf;simp only[aE]at h;exact wF hs (c7.1 h f (fw hf))
   ·simp at hs
  ·simp at hs
 |_::_,.ptr ..,_,hs,_|_::_,.b7 ..,_,hs,_|_::_,.sl ..,_,hs,_|_::_,.map ..,_,hs,_|_::_,.func ..,_,hs,_|_::_,.aC ..,_,hs,_=>by simp[fo]at hs
theorem wG{n:Nat×Nat->Prop}:∀{e:List (cb×Nat)}{t b x:AV},gu t e x=some b->aE n t->aE n x->aE n b
 |[],t,b,x,hs,h,hx=>by simp[gu]at hs;subst hs;exact hx
 |(u,i)::r,.p t,b,x,hs,h,hx=>by
  simp only[gu]at hs
  split at hs
  ·split at hs
   ·split at hs
    ·rename_i f hf d c;simp at hs;subst hs;refine Cm (c7.2 ?_);intro v a;rcases fd a with a|rfl
     ·exact c7.1 (ju n _) v a
     ·exact wG c (by simp[aE]) hx
    ·simp at hs
   ·simp at hs
  ·simp at hs
 |(u,i)::r,.st u' fs,b,x,hs,h,hx=>by
  simp only[gu]at hs
  split at hs
  ·split at hs
   ·split at hs
    ·rename_i _ f hf _ d c;simp at hs;subst hs;simp only[aE]at h;refine Cm (c7.2 ?_);intro v a;rcases fd a with a|rfl
     ·exact c7.1 h v a
     ·exact wG c (c7.1 h f (fw hf)) hx
    ·simp at hs
   ·simp at hs
  ·simp at hs
 |_::_,.ptr ..,_,_,hs,_,_|_::_,.b7 ..,_,_,hs,_,_|_::_,.sl ..,_,_,hs,_,_|_::_,.map ..,_,_,hs,_,_|_::_,.func ..,_,_,hs,_,_|_::_,.aC ..,_,_,hs,_,_=>by simp[gu]at hs
end
structure aR where
 v:AV
 al:List (Nat×Obj):=[]
 aL:List (Nat×Obj):=[]
 aP:List Obj:=[]
def bm(H:aj)(l:List (Nat×Obj)):aj:=
 match l with
 |[]=>H
 |(b,o)::r=>bm (H.set b o) r
def put(dst:Option Tmp)(v:AV)(e:Env):Env:=
 match dst with
 |some d=>(d,v)::e
 |none=>e
def aR.app(e:aR)(dst:Option Tmp)(s:St):St:=⟨put dst e.v s.env,bm s.heap e.aL++e.aP⟩
def ev(e:Env):cv->AV
 | .tmp t=>aN e t
 | .const v=>.p (ofConst v)
 | .global g=>.p (Gl.g g)
 | .func f=>.p (.func f [] [])
def gP(s:List Nat):ByteArray:=⟨(s.map UInt8.ofNat).toArray⟩
mutual
def j0:PV->PV->Option Bool
 | .bool a,.bool b=>some (a==b)
 | .int k a,.int c b=>if k=c then some (a==b)else none
 | .str a,.str b=>some (a==b)
 | .st u fs,.st u' gs=>if u=u' then xW fs gs else none
 |_,_=>none
def xW:List PV->List PV->Option Bool
 |[],[]=>some true
 |a::as,b::bs=>match j0 a b with
  |some true=>xW as bs
  |some false=>some false
  |none=>none
 |_,_=>none
end
def ka(P:b4)(c:cb->PV->PV->Option Bool):List cb->List PV->List PV->Option Bool
 |[],[],[]=>some true
 |T::d,a::as,b::bs=>
  if kindOf P T=aI a/\kindOf P T=aI b then
   (match c T a b,ka P c d as bs with
   |some r,some s=>some (r&&s)
   |_,_=>none)
  else none
 |_,_,_=>none
def gh(P:b4):Nat->cb->PV->PV->Option Bool
 |0,_,_,_=>none
 |n+1,T,v,v'=>
  match P.underlying T,v,v' with
  |some .bool,.bool a,.bool b=>some (a==b)
  |some (.int _),.int k a,.int c b=>if k=c then some (a==b)else none
  |some .string,.str a,.str b=>some (a==b)
  |some (.struct fs),.st u xs,.st u' d=>
   if kindOf P T= .agg u/\u'=u/\P.stoodInHeld T=false/\fs.toList.all (fun f=>f.name != "_")=true then ka P (gh P n) (fs.toList.map (·.type)) xs d else none
  |_,_,_=>none
def nR(P:b4)(T:cb):Bool:=!P.eqGuardType P.depth T
def rW(P:b4)(T:cb):Bool:=match P.underlying T with|some .bool=>true|_=>false
def aOg(P:b4)(T:cb):Bool:=match P.underlying T with|some (.int _)=>true|_=>false
def ja(P:b4)(T:cb):Bool:=match P.underlying T with|some .string=>true|_=>false
inductive vz where|ptr|slice|map|func|iface
 deriving DecidableEq
def mU:cv->Bool
 | .const _=>true
 |_=>false
def dI(P:b4)(T:cb)(c:Bool):AV->Option vz
 | .p .dR=>match P.underlying T with
  |some (.pointer _)=>some .ptr
  |_=>none
 | .p .aH=>match P.underlying T with
  |some (.slice _)=>some .slice
  |_=>none
 | .p .fF=>match P.underlying T with
  |some (.map _ _)=>some .map
  |_=>none
 | .p .iU=>match P.underlying T with
  |some (.func _ _ _)=>some .func
  |_=>none
 | .p .gO=>match c,P.underlying T with
  |true,some (.interface _)=>some .iface
  |_,_=>none
 |_=>none
def cV(H:aj)(k:vz)(x:AV):Option Bool:=
 match k,x with
 | .ptr,.p .dR| .slice,.p .aH| .map,.p .fF| .func,.p .iU| .iface,.p .gO=>some true
 | .ptr,.p (.cm _)| .slice,.p (.cT _ _)| .map,.p (.eB _)| .func,.p (.func _ _ _)| .func,.func _ _ _=>some false
 | .ptr,.ptr b _=>match H[b]? with
  |some (.box _ _)=>some false
  |_=>none
 | .map,.map b=>match H[b]? with
  |some (.map _ _)=>some false
  |_=>none
 | .slice,.p (.seq (_::_))=>some false
 | .slice,.sl b aA ai _ _=>match H[b]? with
  |some (.arr k c a es)=>if aA=c/\ai=a then some (k.gr&&es.isEmpty)else none
  |_=>none
 |_,_=>none
def qt(op:BinOp)(k:dg)(a b:Int)(K:PV->Prop):Prop:=
 match op with
 | .add=>K (.int k (k.wrap (a+b)))
 | .sub=>K (.int k (k.wrap (a-b)))
 | .mul=>K (.int k (k.wrap (a*b)))
 | .quo=>b≠0/\K (.int k (k.wrap (a.tdiv b)))
 | .rem=>b≠0/\K (.int k (a.tmod b))
 | .and=>K (.int k (k.wrap (b1 k.bits a&&&b1 k.bits b).toNat))
 | .or=>K (.int k (k.wrap (b1 k.bits a|||b1 k.bits b).toNat))
 | .xor=>K (.int k (k.wrap (b1 k.bits a^^^b1 k.bits b).toNat))
 | .andNot=>K (.int k (k.wrap (b1 k.bits a&&&~~~b1 k.bits b).toNat))
 | .eql=>K (.bool (a==b))
 | .neq=>K (.bool (a !=b))
 | .lss=>K (.bool (decide (a<b)))
 | .leq=>K (.bool (decide (a<=b)))
 | .gtr=>K (.bool (decide (a>b)))
 | .geq=>K (.bool (decide (a>=b)))
 | .shl=>0<=b/\K (.int k (k.wrap (a*2^(min b.toNat k.bits))))
 | .shr=>0<=b/\K (.int k (a.fdiv (2^(min b.toNat k.bits))))
def jG:List Nat->List Nat->Bool
 |_,[]=>false
 |[],_::_=>true
 |a::x,b::y=>decide (a<b)||(a==b&&jG x y)
def qq(op:BinOp)(a b:List Nat)(K:PV->Prop):Prop:=
 match op with
 | .add=>a.length+b.length<9223372036854775808/\K (.str (a++b))
 | .eql=>K (.bool (a==b))
 | .neq=>K (.bool (!(a==b)))
 | .lss=>K (.bool (jG a b))
 | .leq=>K (.bool (jG a b||a==b))
 | .gtr=>K (.bool (!(jG a b||a==b)))
 | .geq=>K (.bool (!(jG a b)))
 |_=>False
def lg(P:b4)(op:BinOp)(T:cb)(c:Bool)(H:aj)(x y:AV)(K:PV->Prop):Prop:=
 match x,y with
 | .p (.int k a),.p (.int d b)=>(k=d\/op=.shl\/op=.shr)/\qt op k a b K
 | .p (.str a),.p (.str b)=>qq op a b K
 | .p (.bool a),.p (.bool b)=>rW P T=true/\match op with
  | .eql=>K (.bool (a==b))
  | .neq=>K (.bool (!(a==b)))
  |_=>False
 | .p (.st u fs),.p (.st u' gs)=>nR P T=true/\(match gh P 9 T (.st u fs) (.st u' gs),op with
  |some r,.eql=>K (.bool r)
  |some r,.neq=>K (.bool !r)
  |_,_=>False)
 |x,y=>
  (match dI P T c y with
  |some k=>(match cV H k x,op with
   |some r,.eql=>K (.bool r)
   |some r,.neq=>K (.bool !r)
   |_,_=>False)
  |none=>False)
def c8:Nat:=1073741824
def iq(H:aj):AV->Option (List AV)
 | .p .aH=>some []
 | .p (.cT _ es)=>some (es.map .p)
 | .p (.seq es)=>some (es.map .p)
 | .p (.str s)=>some (s.map fun c=>.p (.int .u8 (c:Nat)))
 | .sl b aA ai off len=>match H[b]? with
  |some (.arr _ d a es)=>if aA=d/\ai=a/\off+len<=es.length then some ((es.drop off).take len)else none
  |_=>none
 |_=>none
def dJ(H:aj):AV->List (Nat×Obj)
 | .sl b _ _ _ _| .ptr b _| .b7 b _ _ _ _| .map b=>match H[b]? with
  |some o=>[(b,o)]
  |none=>[]
 |_=>[]
def fq(P:b4)(ai:Nat):List AV->Prop
 |[]=>True
 |v::vs=>(aa v≠.bad/\bG P (aa v)=ai)/\fq P ai vs
def cG(P:b4)(T:cb):Option Nat:=
 match P.underlying T with
 |some (.slice e)=>match P.info? e with
  |some i=>if i.bytes<32768/\0<i.size/\0<i.bytes then some i.size else none
  |none=>none
 |_=>none
def eE(P:b4)(T:cb):cb:=
 match P.underlying T with
 |some (.slice e)=>e
 |_=>0
def jc(P:b4)(X:cb):Bool:=
 match P.underlying X with
 |some (.int _)=>false
 |some _=>true
 |none=>false
def gk(P:b4)(T:cb):AK:=if eE P T=Gl.u8 then .bytes else .grow
def ow(P:b4)(T X:cb)(H:aj)(s x:AV)(K:aR->Prop):Prop:=
 match cG P T,iq H x with
 |some sz,some xs=>jc P X=true/\(b9 P (eE P T)).isSome=true/\fq P sz xs/\
  (match s with
  | .p .aH=>if xs.isEmpty then K {v:=s,al:=dJ H x}else xs.length<=c8/\K {v:=.sl H.length 0 sz 0 xs.length,al:=dJ H x,aP:=[.arr (gk P T) 0 sz xs]}
  | .p (.cT full es)=>fq P sz (es.map .p)/\if xs.isEmpty then K {v:=s,al:=dJ H x}else full=true/\es.length+xs.length<=c8/\
   K {v:=.sl H.length 0 sz 0 (es.length+xs.length),al:=dJ H x,aP:=[.arr (gk P T) 0 sz (es.map .p++xs)]}
  | .sl b aA ai off len=>match H[b]? with
   |some (.arr k c a es)=>aA=c/\ai=a/\ai=sz/\off+len<=es.length/\
    if xs.isEmpty then K {v:=s,al:=(b,.arr k c a es)::dJ H x}
    else es.length+xs.length<=c8/\(match k with
     | .frozen=>False
     | .exact=>if off+len+xs.length<=es.length then
      K {v:=.sl b aA ai off (len+xs.length),al:=(b,.arr k c a es)::dJ H x,aL:=[(b,.arr .exact aA ai (es.take (off+len)++xs++es.drop (off+len+xs.length)))]}
      else K {v:=.sl H.length 0 sz 0 (len+xs.length),al:=(b,.arr k c a es)::dJ H x,aP:=[.arr (gk P T) 0 sz ((es.drop off).take len++xs)]}
     |_=>off=0/\(k=.bytes->eE P T=Gl.u8)/\K {v:=.sl b (aA+1) ai 0 (len+xs.length),al:=(b,.arr k c a es)::dJ H x,aL:=[(b,.arr k (aA+1) ai (es.take len++xs))]})
   |_=>False
  |_=>False)
 |_,_=>False
def gX(x:Option AV)(d:Nat)(K:Nat->Prop):Prop:=
 match x with
 |none=>K d
 |some (.p (.int _ i))=>0<=i/\K i.toNat
 |_=>False
def oH(P:b4)(T:cb)(H:aj)(x:AV)(lo hi d:Option AV)(K:aR->Prop):Prop:=
 d.isNone/\match x with
 | .p (.str s)=>ja P T=true/\gX hi s.length fun h=>gX lo 0 fun l=>h<=s.length/\l<=h/\K {v:=.p (.str ((s.take h).drop l))}
 | .p .aH=>(cG P T).isSome=true/\gX hi 0 fun h=>gX lo 0 fun l=>h<=0/\l<=h/\K {v:=x}
 | .p (.cT full es)=>gX hi es.length fun h=>gX lo 0 fun l=>h<=es.length/\l<=h/\
  (match cG P T with
  |some sz=>fq P sz (es.map .p)/\K {v:=.p (.cT (full&&h==es.length) ((es.take h).drop l))}
  |none=>False)
 | .p (.seq es)=>gX hi es.length fun h=>gX lo 0 fun l=>h<=es.length/\l<=h/\
  (match cG P T with
  |some sz=>fq P sz (es.map .p)/\K {v:=.p (.seq ((es.take h).drop l))}
  |none=>False)
 | .sl b aA ai off len=>match H[b]? with
  |some (.arr k c a es)=>aA=c/\ai=a/\cG P T=some ai/\¬(k.gr=true/\es=[])/\off+len<=es.length/\
   gX hi len fun h=>gX lo 0 fun l=>off+h<=es.length/\l<=h/\
    (if l=0 then K {v:=.sl b aA ai off h,al:=[(b,.arr k c a es)]}
    else if l=h then K {v:=.p (.cT false []),al:=[(b,.arr k c a es)]}
    else K {v:=.sl b aA ai (off+l) (h-l),al:=[(b,.arr k c a es)]})
  |_=>False
 |_=>False
def rF(P:b4)(T:cb)(H:aj)(x:AV)(lo hi:Option AV)(m:AV)(K:aR->Prop):Prop:=
 match x with
 | .sl b aA ai off len=>match H[b]? with
  |some (.arr k c a es)=>aA=c/\ai=a/\(cG P T).isSome=true/\¬(k.gr=true/\es=[])/\off+len<=es.length/\hi.isSome=true/\
   gX hi len fun h=>gX lo 0 fun l=>gX (some m) 0 fun m=>off+m<=es.length/\h<=m/\l<=h/\K {v:=.p .undef,al:=[(b,.arr k c a es)]}
  |_=>False
 |_=>False
def qJ(P:b4)(T:cb)(x k:PV):Option Bool:=match x with
 | .st u fs=>match gh P 9 T (.st u fs) k,j0 (.st u fs) k with
  |some a,some b=>bif a==b then some a else none
  |_,_=>none
 |x=>j0 x k
def ga(P:b4)(T:cb):List (PV×PV)->PV->Option (Option PV)
 |[],_=>some none
 |(k,v)::r,x=>match qJ P T x k with
  |some true=>some (some v)
  |some false=>ga P T r x
  |none=>none
def mH(P:b4)(T:cb)(a:List (PV×PV))(x:PV):Option (Option PV):=match x with
 | .st u fs=>match ga P T a (.st u fs)with
  |some none=>some none
  |_=>none
 |x=>ga P T a x
def gA:List (PV×PV)->PV->PV->List (PV×PV)
 |[],k,v=>[(k,v)]
 |(a,v')::r,k,v=>if j0 k a=some true then(k,v)::r else(a,v')::gA r k v
def uv(P:b4)(T:cb):Bool:=match P.underlying T with
 |some (.int _)|some .string|some .bool=>true
 |_=>false
def gB(P:b4)(T:cb):PV->Bool
 | .int k _=>match P.underlying T with
  |some (.int a)=>decide (k=a)
  |_=>false
 | .str _=>ja P T
 | .st u fs=>match P.underlying T with
  |some (.struct bW)=>bW.toList.all (fun f=>f.name != "_" &&uv P f.type)&&(gh P 9 T (.st u fs) (.st u fs)).isSome
  |_=>false
 |_=>false
def lZ(P:b4)(T:cb):Option (cb×cb):=
 match P.underlying T with
 |some (.map k e)=>some (k,e)
 |_=>none
def lenOf(H:aj):AV->Option (Nat×List (Nat×Obj))
 | .p (.str s)=>some (s.length,[])
 | .p .aH| .p .fF=>some (0,[])
 | .p (.cT _ es)| .p (.seq es)=>some (es.length,[])
 | .p (.eB es)=>some (es.length,[])
 | .sl b aA ai _off len=>match H[b]? with
  |some (.arr k c a es)=>if aA=c/\ai=a then some (len,[(b,.arr k c a es)])else none
  |_=>none
 | .map b=>match H[b]? with
  |some (.map fz es)=>some (es.length,[(b,.map fz es)])
  |_=>none
 |_=>none
def iC(P:b4)(T:cb):AV->Bool
 | .p (.str _)=>ja P T
 | .p .aH| .p (.cT _ _)| .p (.seq _)| .sl ..=>match P.underlying T with
  |some (.slice _)=>true
  |_=>false
 | .p .fF| .p (.eB _)| .map _=>match P.underlying T with
  |some (.map _ _)=>true
  |_=>false
 |_=>false
def A3(H:aj):AV->Option (Nat×List (Nat×Obj))
 | .p .aH=>some (0,[])
 | .p (.cT true es)=>some (es.length,[])
 | .sl b aA ai off _len=>match H[b]? with
  |some (.arr .exact c a es)=>if aA=c/\ai=a/\off<=es.length then some (es.length-off,[(b,.arr .exact c a es)])else none
  |_=>none
 |_=>none
def bytesOf:List AV->Option (List Nat)
 |[]=>some []
 | .p (.int .u8 c)::r=>if 0<=c/\c<256 then match bytesOf r with
  |some l=>some (c.toNat::l)
  |none=>none
  else none
 |_=>none
def ptrTo(P:b4)(T:cb):Option cb:=
 match P.underlying T with
 |some (.pointer e)=>some e
 |_=>none
def mB(k:dg)(c:Bool):List AV->Int->Option Int
 |[],a=>some a
 | .p (.int d b)::r,a=>if k=d then mB k c r (if c then(if b>a then b else a)else(if b<a then b else a))else none
 |_,_=>none
def iY(a:List AV):List (Nat×AV)->List AV
 |[]=>a
 |(i,v)::r=>iY (a.set i v) r
def mA(P:b4)(l:List Nat):List (Nat×AV)->Prop
 |[]=>True
 |(i,v)::r=>(∃n,l[i]?=some n/\bG P (aa v)=n/\aa v≠.bad)/\mA P l r
def fZ(H:aj):List AV->Option (List PV×List (Nat×Obj)×List (Nat×Obj))
 |[]=>some ([],[],[])
 | .p v::r=>match fZ H r with
  |some (a,al,aL)=>some (v::a,al,aL)
  |none=>none
 | .ptr b []::r=>match H[b]?,fZ H r with
  |some (.box fz (.p t)),some (a,al,aL)=>some (.cm t::a,(b,.box fz (.p t))::al,(b,.box true (.p t))::aL)
  |_,_=>none
 |_=>none
def oQ(P:b4)(T:cb)(H:aj)(a:AV)(K:aR->Prop):Prop:=
 match a with
 | .ptr b path=>match H[b]? with
  |some (.box fz t)=>match fo t path with
   |some s=>kindOf P T=aa s/\K {v:=s,al:=[(b,.box fz t)]}
   |none=>False
  |_=>False
 | .b7 b aA ai i path=>match H[b]? with
  |some (.arr k d c es)=>aA=d/\ai=c/\∃h:i<es.length,match fo (es[i]'h) path with
   |some s=>kindOf P T=aa s/\K {v:=s,al:=[(b,.arr k d c es)]}
   |none=>False
  |_=>False
 | .p (.cm t)=>kindOf P T=aI t/\K {v:=.p t}
 |_=>False
def oG(P:b4)(T:cb)(H:aj)(a x:AV)(K:aR->Prop):Prop:=
 kindOf P T=aa x/\aa x≠.bad/\match a with
 | .ptr b path=>match H[b]? with
  |some (.box false t)=>match fo t path,gu t path x with
   |some s,some d=>aa s=aa x/\K {v:=.p (.aC []),al:=[(b,.box false t)],aL:=[(b,.box false d)]}
   |_,_=>False
  |_=>False
 | .b7 b aA ai i path=>match H[b]? with
  |some (.arr k e c es)=>aA=e/\ai=c/\k≠.frozen/\∃h:i<es.length,match fo (es[i]'h) path,gu (es[i]'h) path x with
   |some s,some d=>aa s=aa x/\K {v:=.p (.aC []),al:=[(b,.arr k e c es)],aL:=[(b,.arr k e c (es.set i d))]}
   |_,_=>False
  |_=>False
 |_=>False
def eU(P:b4)(T:cb):Option (cb×Nat):=
 match kindOf P T,P.underlying T with
 | .agg u,some (.struct fs)=>some (u,fs.size)
 |_,_=>none
def iR(P:b4)(T:cb):Option (cb×Nat):=
 match kindOf P T,P.underlying T with
 | .agg u,some (.array n _)=>some (u,n)
 |_,_=>none
def ou(P:b4)(T:cb)(a:AV)(f:Nat)(K:aR->Prop):Prop:=
 match eU P T with
 |some (u,n)=>f<n/\(match a with
  | .ptr b path=>K {v:=.ptr b (path++[(u,f)])}
  | .b7 b aA ai i path=>K {v:=.b7 b aA ai i (path++[(u,f)])}
  | .p (.cm t)=>aI t=.agg u/\(match(bW t)[f]? with
   |some g=>K {v:=.p (.cm g)}
   |none=>False)
  |_=>False)
 |_=>False
def ot(P:b4)(T:cb)(H:aj)(x i:AV)(K:aR->Prop):Prop:=
 match i with
 | .p (.int _ i)=>0<=i/\(match x with
  | .p (.cT _ es)=>∃h:i.toNat<es.length,cG P T=some (bG P (aI (es[i.toNat]'h)))/\K {v:=.p (.cm (es[i.toNat]'h))}
  | .p (.seq es)=>∃h:i.toNat<es.length,cG P T=some (bG P (aI (es[i.toNat]'h)))/\K {v:=.p (.cm (es[i.toNat]'h))}
  | .sl b aA ai off len=>cG P T=some ai/\i.toNat<len/\(match H[b]? with
   |some (.arr k c a es)=>aA=c/\ai=a/\¬(k.gr=true/\es=[])/\K {v:=.b7 b aA ai (off+i.toNat) [],al:=[(b,.arr k c a es)]}
   |_=>False)
  | .ptr b path=>(match iR P T with
   |some (u,n)=>i.toNat<n/\K {v:=.ptr b (path++[(u,i.toNat)])}
   |_=>False)
  | .b7 b aA ai j path=>(match iR P T with
   |some (u,n)=>i.toNat<n/\K {v:=.b7 b aA ai j (path++[(u,i.toNat)])}
   |_=>False)
  | .p (.cm t)=>(match iR P T with
   |some (u,n)=>aI t=.agg u/\i.toNat<n/\(match(bW t)[i.toNat]? with
    |some g=>K {v:=.p (.cm g)}
    |none=>False)
   |_=>False)
  |_=>False)
 |_=>False
def fT(P:b4)(ag:ck->Bool)(o:Oper)(ρ:cv->AV)(H:aj)(K:aR->Prop):Prop:=
 match o.op with
 | .move x| .assign x=>K {v:=ρ x}
 | .pick c a b=>match ρ c with
  | .p (.bool t)=>K {v:=if t then ρ a else ρ b}
  |_=>False
 | .alloc T=>match b9 P T with
  |some z=>kindOf P T=aI z/\aI z≠.bad/\jM T (aI z)=true/\K {v:=.ptr H.length [],aP:=[.box false (.p z)]}
  |none=>False
 | .box T x=>kindOf P T=aa (ρ x)/\aa (ρ x)≠.bad/\jM T (aa (ρ x))=true/\K {v:=.ptr H.length [],aP:=[.box false (ρ x)]}
 | .build T parts=>match kindOf P T,b9 P T with
  | .agg u,some z=>(match dv P u with
   |some l=>aI z=.agg u/\mA P l (parts.toList.map fun(i,x)=>(i,ρ x))/\K {v:=iK u (iY ((bW z).map .p) (parts.toList.map fun(i,x)=>(i,ρ x)))}
   |none=>False)
  |_,_=>False
 | .buildSlice T n parts=>match cG P T,b9 P (eE P T)with
  |some sz,some z=>bG P (aI z)=sz/\n*sz<=1000000/\mA P (er n sz) (parts.toList.map fun(i,x)=>(i,ρ x))/\
   K {v:=.sl H.length 0 sz 0 n,aP:=[.arr .exact 0 sz (iY (er n (.p z)) (parts.toList.map fun(i,x)=>(i,ρ x)))]}
  |_,_=>False
 | .load T a=>oQ P T H (ρ a) K
 | .store T a x=>oG P T H (ρ a) (ρ x) K
 | .binOp op T x y _=>lg P op T (mU y) H (ρ x) (ρ y) (fun v=>K {v:=.p v,al:=dJ H (ρ x)})
 | .unOp op _ x=>match op,ρ x with
  | .not,.p (.bool b)=>K {v:=.p (.bool (!b))}
  | .neg,.p (.int k n)=>K {v:=.p (.int k (k.wrap (0-n)))}
  | .xor,.p (.int k n)=>K {v:=.p (.int k (k.wrap (b1 k.bits (if k.signed then -1 else k.max)^^^b1 k.bits n).toNat))}
  |_,_=>False
 | .convert S D x=>match P.underlying S,P.underlying D,ρ x with
  |some _,some (.int k),.p (.int _ n)=>K {v:=.p (.int k (k.wrap n))}
  |some _,some .string,.p (.str s)=>K {v:=.p (.str s)}
  |some (.slice e),some .string,.sl b aA ai off len=>(match H[b]? with
   |some (.arr k q j es)=>aA=q/\ai=j/\ai=1/\P.underlying e=some (.int .u8)/\0<len/\off+len<=es.length/\(match bytesOf ((es.drop off).take len)with
    |some l=>K {v:=.p (.str l),al:=[(b,.arr k q j es)]}
    |none=>False)
   |_=>False)
  |_,_,_=>False
 | .extract t i=>match ρ t with
  | .p (.aC vs)=>(match vs[i]? with
   |some v=>K {v:=.p v}
   |none=>False)
  | .aC vs=>(match vs[i]? with
   |some v=>K {v}
   |none=>False)
  |_=>False
 | .fieldAddr T a f=>ou P T (ρ a) f K
 | .indexAddr T x i=>ot P T H (ρ x) (ρ i) K
 | .field T x f=>match kindOf P T,P.underlying T,ρ x with
  | .agg u,some (.struct _),.p t=>aI t=.agg u/\(match(bW t)[f]?,(jS P u)[f]? with
   |some g,some F=>kindOf P F=aI g/\K {v:=.p g}
   |_,_=>False)
  |_,_,_=>False
 | .index T x i=>match ρ x,ρ i with
  | .p (.str s),.p (.int _ i)=>ja P T=true/\0<=i/\∃h:i.toNat<s.length,K {v:=.p (.int .u8 (s[i.toNat]'h))}
  | .p (.st u es),.p (.int _ i)=>(match iR P T,(jS P u)[i.toNat]?,es[i.toNat]? with
   |some (u',n),some F,some g=>u'=u/\0<=i/\i.toNat<n/\kindOf P F=aI g/\K {v:=.p g}
   |_,_,_=>False)
  |_,_=>False
 | .makeFunc (.func f) fi ca=>if ag f then(match fZ H (fi.toList.map ρ),fZ H (ca.toList.map ρ)with
   |some (a,[],[]),some (b,al,aL)=>K {v:=.p (.func f a b),al,aL}
   |_,_=>False)
  else match eA (fi.toList.map ρ),eA (ca.toList.map ρ)with
   |some a,some b=>K {v:=.p (.func f a b)}
   |_,_=>K {v:=.func f (fi.toList.map ρ) (ca.toList.map ρ)}
 | .makeSlice T l c=>match cG P T,b9 P (eE P T),ρ l,ρ c with
  |some sz,some z,.p (.int .i64 l),.p (.int .i64 c)=>bG P (aI z)=sz/\0<=l/\l=c/\l<=c8/\K {v:=.sl H.length 0 sz 0 l.toNat,aP:=[.arr .exact 0 sz (er l.toNat (.p z))]}
  |_,_,_,_=>False
 | .slice T x lo hi A=>match A with
  |none=>oH P T H (ρ x) (lo.map ρ) (hi.map ρ) none K
  |some m=>rF P T H (ρ x) (lo.map ρ) (hi.map ρ) (ρ m) K
 | .makeMap _ none=>K {v:=.map H.length,aP:=[.map false []]}
 | .lookup T x i ok=>match lZ P T,ρ i with
  |some (w,E),.p key=>(match b9 P E with
   |some z=>gB P w key=true/\(match ρ x with
    | .p .fF=>K {v:=.p (if ok then .aC [z,.bool false]else z)}
    | .p (.eB es)=>(match ga P w es key with
     |some (some v)=>K {v:=.p (if ok then .aC [v,.bool true]else v)}
     |some none=>K {v:=.p (if ok then .aC [z,.bool false]else z)}
     |none=>False)
    | .map b=>(match H[b]? with
     |some (.map fz es)=>(match ga P w es key with
      |some (some v)=>K {v:=.p (if ok then .aC [v,.bool true]else v),al:=[(b,.map fz es)]}
      |some none=>K {v:=.p (if ok then .aC [z,.bool false]else z),al:=[(b,.map fz es)]}
      |none=>False)
     |_=>False)
    |_=>False)
   |none=>False)
  |_,_=>False
 | .mapUpdate T m k x| .insert T m k x=>match lZ P T,ρ m,ρ k,ρ x with
  |some (w,_),.map b,.p key,.p v=>gB P w key=true/\(match H[b]? with
   |some (.map false es)=>(match mH P w es key with
    |some _=>K {v:=.p (.aC []),al:=[(b,.map false es)],aL:=[(b,.map false (gA es key v))]}
    |none=>False)
   |_=>False)
  |_,_,_,_=>False
 | .range T x=>match ρ x with
  | .p (.str s)=>ja P T=true/\K {v:=.ptr H.length [],aP:=[.dG s 0]}
  |_=>False
 | .next it true=>match ρ it with
  | .ptr b []=>(match H[b]? with
   |some (.dG s pos)=>if pos<s.length then
    K {v:=.p (.aC [.bool true,.int .i64 pos,.int .i32 (Utf8.decode (gP s) pos).1]),al:=[(b,.dG s pos)],aL:=[(b,.dG s (pos+(Utf8.decode (gP s) pos).2))]}
    else K {v:=.p (.aC [.bool false]),al:=[(b,.dG s pos)]}
   |_=>False)
  |_=>False
 | .nilCheck x=>match ρ x with
  | .ptr _ _| .b7 _ _ _ _ _| .p (.cm _)=>K {v:=ρ x}
  |_=>False
 | .call c=>match c.callee with
  | .builtin b=>let args:=c.args.toList.map ρ
   let T:=c.argTypes.getD 0 0
   (match b,args with
   | .len,[x]=>(match lenOf H x with
    |some (n,al)=>iC P T x=true/\0<c.argTypes.size/\K {v:=.p (.int .i64 n),al}
    |none=>False)
   | .append,[s,x]=>c.argTypes.size=2/\ow P T (c.argTypes.getD 1 0) H s x K
   | .min,.p (.int k a)::r=>(match mB k false r a with
    |some n=>K {v:=.p (.int k n)}
    |none=>False)
   | .max,.p (.int k a)::r=>(match mB k true r a with
    |some n=>K {v:=.p (.int k n)}
    |none=>False)
   | .copy,[d,x]=>(match cG P T,d,iq H x with
    |some sz,.sl b aA ai off len,some xs=>ai=sz/\fq P sz xs/\c.argTypes.size=2/\(match H[b]? with
     |some (.arr k q j es)=>aA=q/\ai=j/\k≠.frozen/\off+len<=es.length/\¬(k.gr=true/\es=[])/\
      K {v:=.p (.int .i64 (min xs.length len:Nat)),al:=(b,.arr k q j es)::dJ H x,aL:=[(b,.arr k q j (es.take off++xs.take (min xs.length len)++es.drop (off+min xs.length len)))]}
     |_=>False)
    |_,_,_=>False)
   | .cap,[x]=>(match A3 H x with
    |some (n,al)=>iC P T x=true/\0<c.argTypes.size/\K {v:=.p (.int .i64 n),al}
    |none=>False)
   | .clear,[x]=>(match x with
    | .p .aH=>iC P T x=true/\0<c.argTypes.size/\K {v:=.p (.aC [])}
    | .sl b aA ai off len=>(match cG P T,b9 P (eE P T),H[b]? with
     |some sz,some z,some (.arr k q j es)=>aA=q/\ai=j/\ai=sz/\bG P (aI z)=sz/\k≠.frozen/\off+len<=es.length/\¬(k.gr=true/\es=[])/\0<c.argTypes.size/\0<len/\
      K {v:=.p (.aC []),al:=[(b,.arr k q j es)],aL:=[(b,.arr k q j (es.take off++er len (.p z)++es.drop (off+len)))]}
     |_,_,_=>False)
    |_=>False)
   | .unsafeSliceData,[x]=>(match x with
    | .p .aH=>K {v:=.p .dR}
    | .sl b aA ai off len=>(match H[b]? with
     |some (.arr k q j es)=>aA=q/\ai=j/\((k.gr=true/\es=[]/\K {v:=.p .dR,al:=[(b,.arr k q j es)]})\/(0<len/\off+len<=es.length/\K {v:=.b7 b aA ai off [],al:=[(b,.arr k q j es)]}))
     |_=>False)
    |_=>False)
   | .unsafeString,[x,.p (.int .i64 n)]=>(match x with
    | .p .dR=>n=0/\c.argTypes.size=2/\K {v:=.p (.str [])}
    | .b7 b aA ai i []=>(match H[b]? with
     |some (.arr .bytes q j es)=>aA=q/\ai=j/\ai=1/\i=0/\0<n/\n.toNat<=es.length/\n<=9223372036854775807/\c.argTypes.size=2/\ptrTo P T=some Gl.u8/\P.cellsOf Gl.u8=1/\(match bytesOf (es.take n.toNat)with
      |some l=>K {v:=.p (.str l),al:=[(b,.arr .bytes q j es)],aL:=[(b,.dead)]}
      |none=>False)
     |_=>False)
    |_=>False)
   |_,_=>False)
  |_=>False
 |_=>False
def newAt(a:Nat):List Obj->List (Nat×Obj)
 |[]=>[]
 |o::r=>(a,o)::newAt (a+1) r
structure bZ(P:b4)(ah ad:Nat->Prop)(w:cc)(β:Bd)(H:aj)(aF:Nat->Prop)(w':cc)(aK:Bd)(H':aj):Prop where
 bQ:∀k,ad k->aF k
 fresh:∀k,aF k->ad k\/¬ah k
 ext:Ext ah ad w w'
 step:cz β H aK H'
 rel:bV P w' aF aK H' ah
 fy:∀x,aJ H x->aJ H' x
 loop:∀b,iv H b->iv H' b
def Enters(P:b4)(f:ck):Prop:=∀(args:Array b5)(w:cc),(callFunc f args).run P w=.ok (.enter f args) w
def cS(P:b4)(f:ck)(H:aj)(args:List AV)(H':aj)(v:AV):Prop:=
 Enters P f/\∀(w:cc)(ad ah:Nat->Prop)(β:Bd)(a:List b5),bV P w ad β H ah->bI P w ad β H args a->aS (aJ H) args->
  dl P f a.toArray w fun e w'=>∃b aK aF,e=.returned b/\bZ P ah ad w β H aF w' aK H'/\aB P w' aF aK H' v b/\aE (aJ H') v
def fJ(P:b4)(b:Nat)(H:aj)(args:List AV)(H':aj)(v:AV):Prop:=
 iv H b/\∀(w:cc)(ad ah:Nat->Prop)(β:Bd)(c:List b5),bV P w ad β H ah->bI P w ad β H args c->aS (aJ H) args->
  ∃f tmps assign body,(Instr.yield (β.aq b) c.toArray).run P w=.ok (.round (β.aq b) f tmps assign body) w/\
   ∀(a:cx)(e:List cx),∃d w' aK aF,da P (lone (Frame.round (β.aq b) f tmps assign body .normal) (a::e) w) (lone (a.finish d) e w')/\
    bZ P ah ad w β H aF w' aK H'/\aB P w' aF aK H' v d/\aE (aJ H') v
def sX(P:b4)(f:ck)(args:List AV)(base:Nat)(e:aR):Prop:=
 Enters P f/\∀(H:aj)(w:cc)(ad ah:Nat->Prop)(β:Bd)(a:List b5),bV P w ad β H ah->bI P w ad β H args a->aS (aJ H) args->
  (∀p∈e.al,H[p.1]?=some p.2)->(∀i,i<e.aP.length->H[base+i]?=some .hole)->
  dl P f a.toArray w fun x w'=>∃b aK aF,x=.returned b/\bZ P ah ad w β H aF w' aK (bm H (e.aL++newAt base e.aP))/\
   aB P w' aF aK (bm H (e.aL++newAt base e.aP)) e.v b/\aE (aJ (bm H (e.aL++newAt base e.aP))) e.v
def oU(P:b4)(b:Nat)(args:List AV)(a:Nat)(e:aR):Prop:=
 ∀(H:aj)(w:cc)(ad ah:Nat->Prop)(β:Bd)(d:List b5),bV P w ad β H ah->bI P w ad β H args d->aS (aJ H) args->
  (∀p∈e.al,H[p.1]?=some p.2)->(∀i,i<e.aP.length->H[a+i]?=some .hole)->
  iv H b/\∃f tmps assign body,(Instr.yield (β.aq b) d.toArray).run P w=.ok (.round (β.aq b) f tmps assign body) w/\
   ∀(c:cx)(h:List cx),∃g w' aK aF,da P (lone (Frame.round (β.aq b) f tmps assign body .normal) (c::h) w) (lone (c.finish g) h w')/\
    bZ P ah ad w β H aF w' aK (bm H (e.aL++newAt a e.aP))/\
    aB P w' aF aK (bm H (e.aL++newAt a e.aP)) e.v g/\aE (aJ (bm H (e.aL++newAt a e.aP))) e.v
def Ey(P:b4)(f:ck)(args:List AV)(al:List (Nat×Obj))(v:PV):Prop:=
 ∀(H:aj)(w:cc)(ad ah:Nat->Prop)(β:Bd)(a:List b5),bV P w ad β H ah->bI P w ad β H args a->aS (aJ H) args->(∀p∈al,H[p.1]?=some p.2)->
  ∃b,(callFunc f a.toArray).run P w=.ok (.value b) w/\aD P w ad v b
def oZ(H:aj)(e:aR):Prop:=(∀p∈e.al,H[p.1]?=some p.2)/\(∀p∈e.aL,p.1<H.length/\p.2≠.hole)
def sW(P:b4)(f:ck)(args:List PV)(v:PV):Prop:=
 Enters P f/\∀(w:cc)(ad:Nat->Prop)(a:List b5),(∀k,ad k->k<w.heap.size)->nG P w ad->bK P w ad args a->
  dl P f a.toArray w fun e w'=>∃b,∃aF:Nat->Prop,e=.returned b/\(∀k,ad k->aF k)/\(∀k,aF k->ad k\/w.heap.size<=k)/\(∀k,aF k->k<w'.heap.size)/\
   w.heap.size<=w'.heap.size/\(∀k,k<w.heap.size->w'.heap[k]?=w.heap[k]?)/\(w'.os=w.os/\w'.output=w.output)/\aD P w' aF v b
def SE(P:b4)(f:ck)(args:List PV)(v:PV):Prop:=
 ∀(w:cc)(ad:Nat->Prop)(a:List b5),bK P w ad args a->∃b,(callFunc f a.toArray).run P w=.ok (.value b) w/\aD P w ad v b
def au(P:b4)(f:ck)(args:List PV)(v:PV):Prop:=sW P f args v\/SE P f args v
def kJ(H:aj):AV->Option (PV×aj)
 | .p v=>some (v,H)
 | .sl b aA ai off len=>match H[b]? with
  |some (.arr k d a es)=>
   if aA=d/\ai=a/\off+len<=es.length then
    if k.gr=true/\es=[]then some (.aH,H)else
    match eA es with
    |some c=>some (.cT (k== .exact&&off+len==es.length) ((c.drop off).take len),H.set b (.arr .frozen aA ai es))
    |none=>none
   else none
  |_=>none
 | .ptr b path=>match H[b]? with
  |some (.box _ (.p t))=>match lL t path with
   |some s=>some (.cm s,H.set b (.box true (.p t)))
   |none=>none
  |_=>none
 | .map b=>match H[b]? with
  |some (.map _ es)=>some (.eB es,H.set b (.map true es))
  |_=>none
 |_=>none
def mZ(H:aj):List AV->Option (List PV×aj)
 |[]=>some ([],H)
 |x::r=>match kJ H x with
  |some (v,H1)=>match mZ H1 r with
   |some (vs,a)=>some (v::vs,a)
   |none=>none
  |none=>none
def iy(P:b4)(draw:Bool)(f:ck)(args:List AV)(H:aj)(K:AV->aj->Prop):Prop:=
 (∃vs v,args=vs.map .p/\au P f vs v/\K (.p v) H)\/
 (draw=false/\((∃vs H1 v,mZ H args=some (vs,H1)/\au P f vs v/\K (.p v) H1)\/(∃H' v,cS P f H args H' v/\K v H')\/
  (∃e,sX P f args H.length e/\oZ H e/\K e.v (bm H e.aL++e.aP))\/(∃al v,Ey P f args al v/\(∀p∈al,H[p.1]?=some p.2)/\K (.p v) H)))
def kg(P:b4)(ag:ck->Bool)(draw:Bool)(o:Oper)(K:St->Prop)(s:St):Prop:=
 match o.op with
 | .call {callee:=.value f,args,.. }=>(match ev s.env f with
  | .p (.func g fi ca)=>iy P draw g (fi.map .p++args.toList.map (ev s.env)++ca.map .p) s.heap (fun v H'=>K ⟨put o.dst v s.env,H'⟩)
  | .func g fi ca=>iy P draw g (fi++args.toList.map (ev s.env)++ca) s.heap (fun v H'=>K ⟨put o.dst v s.env,H'⟩)
  | .map b=>∃H' v,fJ P b s.heap (args.toList.map (ev s.env)) H' v/\K ⟨put o.dst v s.env,H'⟩
  |_=>False)
 |_=>fT P ag o (ev s.env) s.heap fun e=>K (e.app o.dst s)
def guardOf(a:Array Oper)(j:Nat)(e:Env):AV:=
 match(a[j]?).bind (·.dst)with
 |some d=>aN e d
 |none=>.p (.aC [])
def iA(P:b4)(ag:ck->Bool)(draw:Bool)(a:Array Oper):List Oper->(St->Prop)->St->Prop
 |[],K,s=>K s
 |o::r,K,s=>match o.guard with
  |none=>kg P ag draw o (iA P ag draw a r K) s
  |some (j,want)=>match guardOf a j s.env with
   | .p (.bool t)=>if t=want then kg P ag draw o (iA P ag draw a r K) s else iA P ag draw a r K ⟨put o.dst (.p (.aC [])) s.env,s.heap⟩
   | .p (.aC [])=>iA P ag draw a r K ⟨put o.dst (.p (.aC [])) s.env,s.heap⟩
   |_=>False
def mO:Obj->Option Obj
 | .box _ (.p t)=>some (.box true (.p t))
 | .arr k aA ai es=>if k.gr=true/\es=[]then none else match eA es with
  |some _=>some (.arr .frozen aA ai es)
  |none=>none
 | .map _ es=>some (.map true es)
 |_=>none
def mY(H:aj):AV->Option (PV×List Nat)
 | .p v=>some (v,[])
 | .sl b aA ai off len=>match H[b]? with
  |some (.arr k d a es)=>
   if aA=d/\ai=a/\off+len<=es.length then
    if k.gr=true/\es=[]then none else
    match eA es with
    |some c=>some (.cT (k== .exact&&off+len==es.length) ((c.drop off).take len),[b])
    |none=>none
   else none
  |_=>none
 | .ptr b path=>match H[b]? with
  |some (.box _ (.p t))=>match lL t path with
   |some s=>some (.cm s,[b])
   |none=>none
  |_=>none
 | .map b=>match H[b]? with
  |some (.map _ es)=>some (.eB es,[b])
  |_=>none
 |_=>none
def oT(H:aj):List AV->Option (List PV×List Nat)
 |[]=>some ([],[])
 |x::r=>match mY H x,oT H r with
  |some (v,bs),some (vs,cs)=>some (v::vs,bs++cs)
  |_,_=>none
def lW(H:aj):List Nat->Option (List (Nat×Obj)×List (Nat×Obj))
 |[]=>some ([],[])
 |b::r=>match H[b]?,lW H r with
  |some o,some (al,aL)=>(match mO o with
   |some o'=>some ((b,o)::al,(b,o')::aL)
   |none=>none)
  |_,_=>none
def iF(P:b4)(f:ck)(args:List AV)(H:aj)(K:aR->Prop):Prop:=
 (∃vs v,args=vs.map .p/\au P f vs v/\K {v:=.p v})\/
 (∃vs bs al aL v,oT H args=some (vs,bs)/\lW H bs=some (al,aL)/\au P f vs v/\K {v:=.p v,al,aL})\/
 (∃e,sX P f args H.length e/\oZ H e/\K e)\/
 (∃al v,Ey P f args al v/\(∀p∈al,H[p.1]?=some p.2)/\K {v:=.p v,al})
def jN(P:b4)(ag:ck->Bool)(o:Oper)(s:St)(K:aR->Prop):Prop:=
 match o.op with
 | .call {callee:=.value f,args,.. }=>(match ev s.env f with
  | .p (.func g fi ca)=>iF P g (fi.map .p++args.toList.map (ev s.env)++ca.map .p) s.heap K
  | .func g fi ca=>iF P g (fi++args.toList.map (ev s.env)++ca) s.heap K
  | .map b=>∃e,oU P b (args.toList.map (ev s.env)) s.heap.length e/\oZ s.heap e/\K e
  |_=>False)
 |_=>fT P ag o (ev s.env) s.heap K
structure Touch where
 i:Nat
 rd:List Nat
 wr:List Nat
def oJ(a:Nat):List Obj->List Nat
 |[]=>[]
 |_::r=>a::oJ (a+1) r
def iu(i a:Nat)(e:aR):Touch:=⟨i,e.al.map (·.1),e.aL.map (·.1)++oJ a e.aP⟩
def gC(i b:Nat)(e:aR)(a:List Touch):List Touch:=
 match e.al,e.aL,e.aP with
 |[],[],[]=>a
 |_,_,_=>iu i b e::a
def reach(a:Array Oper):Nat->Nat->Nat->Bool
 |0,_,_=>false
 |f+1,i,j=>match a[j]? with
  |some o=>o.after.toList.any (fun e=>dy .any e&&e.on==i)||o.after.toList.any (fun e=>dy .any e&&decide (i<e.on)&&reach a f i e.on)
  |none=>false
def jK(u t:Touch):Bool:=u.wr.any (fun b=>t.rd.contains b||t.wr.contains b)||u.rd.any (fun b=>t.wr.contains b)
def iZ(a:Array Oper):List Touch->Bool
 |[]=>true
 |t::r=>r.all (fun u=>!jK u t||reach a a.size u.i t.i)&&iZ a r
def gK(P:b4)(ag:ck->Bool)(a:Array Oper):List Oper->Nat->List Touch->(St->Prop)->St->Prop
 |[],_,acc,K,s=>iZ a acc=true/\K s
 |o::r,i,acc,K,s=>match o.guard with
  |none=>jN P ag o s fun e=>gK P ag a r (i+1) (gC i s.heap.length e acc) K (e.app o.dst s)
  |some (j,want)=>match guardOf a j s.env with
   | .p (.bool t)=>if t=want then jN P ag o s fun e=>gK P ag a r (i+1) (gC i s.heap.length e acc) K (e.app o.dst s)
    else gK P ag a r (i+1) acc K ⟨put o.dst (.p (.aC [])) s.env,s.heap⟩
   | .p (.aC [])=>gK P ag a r (i+1) acc K ⟨put o.dst (.p (.aC [])) s.env,s.heap⟩
   |_=>False
inductive bA where|normal|exit (id:Nat)|ret
mutual
def gw(T:aj):PV->AV->Prop
 | .aH,x=>x=.p .aH\/match x with
  | .sl b aA _ off len=>aA=0/\off=0/\len=0/\∃k z,T[b]?=some (.arr k 0 z [])/\k.gr=true
  |_=>False
 | .st u fs,x=>x=.p (.st u fs)\/match x with
  | .st u' gs=>u=u'/\lN T fs gs
  |_=>False
 |v,x=>x=.p v
def lN(T:aj):List PV->List AV->Prop
 |[],gs=>gs=[]
 |v::vs,gs=>match gs with
  |g::gs=>gw T v g/\lN T vs gs
  |[]=>False
end
mutual
def Gh(T:aj):AV->AV->Prop
 | .p v,x=>gw T v x
 | .st u fs,x=>match x with
  | .st u' gs=>u=u'/\ng T fs gs
  |_=>False
 |a,x=>x=a
def ng(T:aj):List AV->List AV->Prop
 |[],gs=>gs=[]
 |v::vs,gs=>match gs with
  |g::gs=>Gh T v g/\ng T vs gs
  |[]=>False
end
structure qo(s t:St):Prop where
 env:∀x,aN t.env x=aN s.env x\/aN t.env x=.p .undef\/Gh t.heap (aN s.env x) (aN t.env x)
 heap:∀(b:Nat)(o:Obj),t.heap[b]?=some o->o=.hole\/s.heap[b]?=some o\/((s.heap[b]?=none\/s.heap[b]?=some .hole)/\∃k z,o=.arr k 0 z []/\k.gr=true)\/(∃v v',s.heap[b]?=some (.box false v)/\o=.box false v'/\Gh t.heap v v')
 gZ:∀x,aE (aJ t.heap) (aN t.env x)
 hrefs:∀(b:Nat)(o:Obj),t.heap[b]?=some o->o.refs (aJ t.heap)
def de(N:Nat)(s t:St):Prop:=t=s\/(qo s t/\∀b,b<N->t.heap[b]?=s.heap[b]?)
def jY(Q:bA->St->Prop)(j:Option Code)(s:St):Prop:=
 match j with
 |none=>Q .normal s
 |some (.exit id)=>Q (.exit id) s
 |some .ret=>Q .ret s
 |_=>False
def jH(P:b4)(it:AV)(b:Nat)(H:aj)(K:aj->Prop):Prop:=
 match it with
 | .p (.func g fi ca)=>∃H' v,cS P g H (fi.map .p++[.map b]++ca.map .p) H' v/\K H'
 | .func g fi ca=>∃H' v,cS P g H (fi++[.map b]++ca) H' v/\K H'
 |_=>False
def iO(b:Nat)(env:Env)(Q:bA->St->Prop)(H:aj):Prop:=
 match H[b]? with
 |some (.loop L)=>L.st≠.busy/\jY Q L.pending ⟨env,H.set b (.loop {L with st:=.exhausted})⟩
 |_=>False
abbrev Cx:=Nat×Nat
def cg(P:b4)(ag:ck->Bool)(q:Cx):Code->(bA->St->Prop)->St->Prop
 | .skip,Q,s| .label _,Q,s=>Q .normal s
 | .region _ ops draw,Q,s=>if draw then gK P ag ops ops.toList 0 [] (Q .normal) s else iA P ag false ops ops.toList (Q .normal) s
 | .seq a b,Q,s=>cg P ag q a (fun e s'=>match e with
  | .normal=>cg P ag q b Q s'
  |e=>Q e s') s
 | .cond c a b,Q,s=>match ev s.env c with
  | .p (.bool t)=>if t then cg P ag q a Q s else cg P ag q b Q s
  |_=>False
 | .block id b,Q,s=>cg P ag q b (fun e s'=>match e with
  | .exit i=>if i=id then Q .normal s' else Q (.exit i) s'
  |e=>Q e s') s
 | .scope b,Q,s=>cg P ag q b Q s
 | .loop b,Q,s=>∃I:Nat->St->Prop,(∃n t,de q.2 s t/\I n t)/\∀n t,I n t->cg P ag q b (fun e s'=>match e with
  | .normal=>∃m g,m<n/\de q.2 s' g/\I m g
  |e=>Q e s') t
 | .rangeFunc f h a b,Q,s=>q.2<=s.heap.length/\∃d:Env,(∀x,aN d x=aN s.env x)/\jH P (ev s.env f) s.heap.length (s.heap++[.loop ⟨.ready,none,q.1,h.toList,a,b,d⟩]) (iO s.heap.length s.env Q)
 | .exit id,Q,s=>Q (.exit id) s
 | .ret,Q,s=>Q .ret s
 |_,_,_=>False
def bD(fr:cx)(t:Array b5)(ds:List ce)(todo:List Item):cx:={fr with tmps:=t,defers:=ds,todo,mode:=.run}
section
variable{P:b4}{fr:cx}{t:Array b5}{ds:List ce}{k:List Item}{cs:List cx}{w:cc}
def fU(t:Array b5):cv->b5
 | .tmp x=>t.getD x undef
 | .const v=>v
 | .global g=>.pointer (some ⟨g,0,none⟩)
 | .func f=>.func (.func f) #[] #[]
theorem eval_eq(fr:cx):fr.eval=fU fr.tmps:=by funext x;cases x<;>rfl
theorem aLo:step P (lone (bD fr t ds (.code .skip::k)) cs w)=.next (lone (bD fr t ds k) cs w):=
 cd (by simp[stepG,em,bD])
theorem XT{l:Nat}:step P (lone (bD fr t ds (.code (.label l)::k)) cs w)=.next (lone (bD fr t ds k) cs w):=
 cd (by simp[stepG,em,bD])
theorem Wv{id:Nat}:step P (lone (bD fr t ds (.inBlock id::k)) cs w)=.next (lone (bD fr t ds k) cs w):=
 cd (by simp[stepG,em,bD])
theorem Wu{b:Code}:step P (lone (bD fr t ds (.inScope b::k)) cs w)=.next (lone (bD fr t ds k) cs w):=
 cd (by simp[stepG,em,bD])
theorem Ee{a b:Code}:step P (lone (bD fr t ds (.code (.seq a b)::k)) cs w)=.next (lone (bD fr t ds (.code a::.code b::k)) cs w):=
 cd (by simp[stepG,em,bD])
theorem aLj{c:cv}{x y:Code}{b:Bool}(h:fU t c= .bool b):
 step P (lone (bD fr t ds (.code (.cond c x y)::k)) cs w)=.next (lone (bD fr t ds (.code (if b then x else y)::k)) cs w):=
 cd (by simp[stepG,em,bD,eval_eq,h])
theorem zE{id:Nat}{c:Code}:step P (lone (bD fr t ds (.code (.block id c)::k)) cs w)=.next (lone (bD fr t ds (.code c::.inBlock id::k)) cs w):=
 cd (by simp[stepG,em,bD])
theorem Dh{c:Code}:step P (lone (bD fr t ds (.code (.scope c)::k)) cs w)=.next (lone (bD fr t ds (.code c::.inScope c::k)) cs w):=
 cd (by simp[stepG,em,bD])
theorem aLm{c:Code}:step P (lone (bD fr t ds (.code (.loop c)::k)) cs w)=.next (lone (bD fr t ds (.code c::.inLoop c::k)) cs w):=
 cd (by simp[stepG,em,bD])
theorem WV{c:Code}:step P (lone (bD fr t ds (.inLoop c::k)) cs w)=.next (lone (bD fr t ds (.code c::.inLoop c::k)) cs w):=
 cd (by simp[stepG,em,bD])
theorem aLl{id:Nat}{a:List Item}(h:exitTo id k=some a):step P (lone (bD fr t ds (.code (.exit id)::k)) cs w)=.next (lone (bD fr t ds a) cs w):=
 cd (by simp[stepG,em,bD,h])
theorem WU{id:Nat}{a:Array Oper}:
 step P (lone (bD fr t ds (.code (.region id a false)::k)) cs w)=.next (lone (bD fr t ds (.inRegion a (gt a.size)::k)) cs w):=
 cd (by simp[stepG,em,bD])
theorem aLk{id:Nat}{a:Array Oper}:
 step P (lone (bD fr t ds (.code (.region id a true)::k)) cs w)=
  .next (lone (bD fr t ds (.inRegion a (dx (P.follows .mixedOrders) a (w.tape w.drawn (.order fr.fn id)))::k)) cs {w with drawn:=w.drawn+1}):=
 cd (by simp[stepG,em,bD,choose,Sem.run,Question.forced,Question.cut])
theorem I8{a:Array Oper}:step P (lone (bD fr t ds (.inRegion a []::k)) cs w)=.next (lone (bD fr t ds k) cs w):=
 cd (by simp[stepG,em,bD])
def nV(dst:Option Tmp)(v:b5)(t:Array b5):Array b5:=
 match dst with
 |some d=>t.setIfInBounds d v
 |none=>t
theorem n8{a:Array Oper}{i:Nat}{r:List Nat}{o:Oper}(c:a[i]?=some o)(v:b5):
 (bD fr t ds (.inRegion a (i::r)::k)).finish v=bD fr (nV o.dst v t) ds (.inRegion a r::k):=by
 cases b:o.dst<;>simp[Frame.finish,bD,c,b,nV]
theorem KL{a:Array Oper}{i:Nat}{r:List Nat}{o:Oper}(b:a[i]?=some o)(c:dq o (yielded a t)=false):
 step P (lone (bD fr t ds (.inRegion a (i::r)::k)) cs w)=.next (lone (bD fr (nV o.dst undef t) ds (.inRegion a r::k)) cs w):=by
 rw[<-n8 b];exact cd (by simp only[bD];simp[stepG,em,b,c])
theorem V7{o:Oper}(a:∀c,o.op≠ .defer c)(r:Option Nat)(A:Nat->Call->GStep)(B:GStep):
 (match r,o.op with
  |some l,.defer c=>A l c
  |_,_=>B)=B:=by
 cases r with
 |none=>rfl
 |some l=>cases h:o.op<;>first|rfl|exact absurd h (a _)
theorem aLn{a:Array Oper}{i:Nat}{r:List Nat}{o:Oper}{fr:cx}(e:fr.todo= .inRegion a (i::r)::k)(d:a[i]?=some o)(b:∀c,o.op≠ .defer c):
 eo P true fr cs none w=en P true fr cs none (c6 (fU fr.tmps) o) w:=by
 simp only[eo,Frame.oper?,e,d,eval_eq];exact V7 b _ _ _
theorem C8{f:Bool}{a:Array Oper}{i:Nat}{r:List Nat}{o:Oper}(b:a[i]?=some o)(e:dq o (yielded a t)=true)(d:∀c,o.op≠ .defer c):
 stepG P f {frame:=bD fr t ds (.inRegion a (i::r)::k),callers:=cs,status:=.running,dying:=none} w=
  en P true (bD fr t ds (.inRegion a (i::r)::k)) cs none (c6 (fU t) o) w:=by
 have h:=aLn (P:=P) (cs:=cs) (w:=w) (fr:=bD fr t ds (.inRegion a (i::r)::k)) rfl b d;simp only[bD]at h⊢;simp[stepG,em,b,e,h]
theorem tO{a:Array Oper}{i:Nat}{r:List Nat}{o:Oper}{n:Next}{b:b5}{w':cc}(d:a[i]?=some o)(h:dq o (yielded a t)=true)
 (e:∀c,o.op≠.defer c)(g:(c6 (fU t) o).run P w=.ok n w')(f:n=.value b\/n=.skip/\b=undef):
 step P (lone (bD fr t ds (.inRegion a (i::r)::k)) cs w)=.next (lone (bD fr (nV o.dst b t) ds (.inRegion a r::k)) cs w'):=by
 rw[<-n8 d];refine cd ?_;rw[C8 d h e];rcases f with rfl|⟨rfl,rfl⟩<;>simp[en,g,bD]
theorem vY{a:Array Oper}{i:Nat}{r:List Nat}{o:Oper}{f:ck}{args:Array b5}{w':cc}(d:a[i]?=some o)(g:dq o (yielded a t)=true)
 (b:∀c,o.op≠.defer c)(e:(c6 (fU t) o).run P w=.ok (.enter f args) w'):
 step P (lone (bD fr t ds (.inRegion a (i::r)::k)) cs w)=.next (lone (Frame.enter P f args .normal) (bD fr t ds (.inRegion a (i::r)::k)::cs) w'):=by
 refine cd ?_;rw[C8 d g b];simp[en,e,bD]
theorem Kc{a:Array Oper}{i:Nat}{r:List Nat}{o:Oper}{l:Nat}{f:ck}{tmps:Array b5}{assign body:Code}{w':cc}(d:a[i]?=some o)(g:dq o (yielded a t)=true)
 (b:∀c,o.op≠.defer c)(e:(c6 (fU t) o).run P w=.ok (.round l f tmps assign body) w'):
 step P (lone (bD fr t ds (.inRegion a (i::r)::k)) cs w)=.next (lone (Frame.round l f tmps assign body .normal) (bD fr t ds (.inRegion a (i::r)::k)::cs) w'):=by
 refine cd ?_;rw[C8 d g b];simp[en,e,bD]
end
end Go.ak
namespace Go.ak
variable[Gl]
mutual
theorem aE.mono{S T:Nat×Nat->Prop}(h:∀x,S x->T x):∀v,aE S v->aE T v
 | .p _,_=>by simp[aE]
 | .ptr b _,c| .b7 b _ _ _ _,c| .sl b _ _ _ _,c| .map b,c=>by simp only[aE]at*;exact h _ c
 | .func _ a b,c=>by simp only[aE]at*;exact⟨aS.mono h a c.1,aS.mono h b c.2⟩
 | .st _ fs,c=>by simp only[aE]at*;exact aS.mono h fs c
 | .aC vs,c=>by simp only[aE]at*;exact aS.mono h vs c
theorem aS.mono{S T:Nat×Nat->Prop}(h:∀x,S x->T x):∀vs,aS S vs->aS T vs
 |[],_=>by simp[aS]
 |v::vs,c=>by simp only[aS]at*;exact⟨aE.mono h v c.1,aS.mono h vs c.2⟩
end
structure cN(P:b4)(n:Nat)(ah ad:Nat->Prop)(β:Bd)(s:St)(t:Array b5)(w:cc):Prop where
 heap:bV P w ad β s.heap ah
 env:∀x,aB P w ad β s.heap (aN s.env x) (t.getD x undef)
 gZ:∀x,aE (aJ s.heap) (aN s.env x)
 size:t.size=n
structure qm(N:Nat)(β:Bd)(H:aj)(aK:Bd)(H':aj):Prop where
 box:∀b,b<N->aJ H (b,0)->nC H' b->nC H b/\aK.aq b=β.aq b
 it:∀b,b<N->aJ H (b,0)->nF H' b->nF H b/\aK.aq b=β.aq b
 map:∀b,b<N->aJ H (b,0)->nB H' b->nB H b/\aK.aq b=β.aq b
 arr:∀b aA ai k es,b<N->aJ H (b,aA)->fI H' b aA ai k es->∃k0 ia,fI H b aA ai k0 ia/\ia.length<=es.length/\(di k es↔di k0 ia)/\(¬di k es->aK.aq b=β.aq b/\aK.cap b=β.cap b)
 loop:∀b,b<N->aJ H (b,0)->iv H' b->iv H b/\aK.aq b=β.aq b
theorem cz.n{N:Nat}{β:Bd}{H:aj}{aK:Bd}{H':aj}(h:cz β H aK H'):qm N β H aK H':=
 ⟨fun b _=>h.box b,fun b _=>h.it b,fun b _=>h.map b,fun b aA ai k es _=>h.arr b aA ai k es,fun b _=>h.loop b⟩
theorem qm.full{β:Bd}{H:aj}{aK:Bd}{H':aj}(h:qm H.length β H aK H'):cz β H aK H':=by
 have lt:∀b v,aJ H (b,v)->b<H.length:=fun b v⟨o,c,_⟩=>(eP.1 c).1;exact⟨fun b x=>h.box b (lt _ _ x) x,fun b x=>h.it b (lt _ _ x) x,fun b x=>h.map b (lt _ _ x) x,fun b aA ai k a x=>h.arr b aA ai k a (lt _ _ x) x,fun b x=>h.loop b (lt _ _ x) x⟩
theorem qm.trans{N:Nat}{β l m:Bd}{H H1 j:aj}(h:qm N β H l H1)(hi:∀x,x.1<N->aJ H x->aJ H1 x)(i:qm N l H1 m j):qm N β H m j:=by
 refine⟨?_,?_,?_,?_,?_⟩
 ·intro b a c g;obtain⟨d,a2⟩:=i.box b a (hi (b,0) a c) g;obtain⟨e,f⟩:=h.box b a c d;exact⟨e,a2.trans f⟩
 ·intro b a c g;obtain⟨d,a2⟩:=i.it b a (hi (b,0) a c) g;obtain⟨e,f⟩:=h.it b a c d;exact⟨e,a2.trans f⟩
 ·intro b a c g;obtain⟨d,a2⟩:=i.map b a (hi (b,0) a c) g;obtain⟨e,f⟩:=h.map b a c d;exact⟨e,a2.trans f⟩
 ·intro b aA ai k p a c g;obtain⟨k1,q,d,a2,a3,a4⟩:=i.arr b aA ai k p a (hi (b,aA) a c) g;obtain⟨k0,ia,e,f,n,o⟩:=h.arr b aA ai k1 q a c d;refine⟨k0,ia,e,gy f a2,a3.trans n,fun a=>?_⟩;obtain⟨c1,c2⟩:=a4 a;obtain⟨d1,d2⟩:=o (fun x=>a (a3.2 x));exact⟨c1.trans d1,c2.trans d2⟩
 ·intro b a c g;obtain⟨d,a2⟩:=i.loop b a (hi (b,0) a c) g;obtain⟨e,f⟩:=h.loop b a c d;exact⟨e,a2.trans f⟩
structure dS(N:Nat)(ah ad:Nat->Prop)(w:cc)(β:Bd)(H:aj)(kN aF:Nat->Prop)(w':cc)(aK:Bd)(H':aj):Prop where
 eC:∀k,ah k->kN k
 bQ:∀k,ad k->aF k
 fresh:∀k,aF k->ad k\/¬ah k
 ext:Ext ah ad w w'
 step:qm N β H aK H'
 fy:∀x,x.1<N->aJ H x->aJ H' x
 loop:∀b,b<N->iv H b->iv H' b
theorem dS.refl(N:Nat)(ah ad:Nat->Prop)(w:cc)(β:Bd)(H:aj):dS N ah ad w β H ah ad w β H:=
 ⟨fun _ h=>h,fun _ h=>h,fun _ h=>.inl h,Ext.refl _ _ _,(cz.refl _ _).n,fun _ _ h=>h,fun _ _ h=>h⟩
theorem Ext.trans{ah ad kN aF:Nat->Prop}{w w1 b:cc}(c:∀k,ah k->kN k)(hi:∀k,ad k->aF k)(h:Ext ah ad w w1)(a:Ext kN aF w1 b):Ext ah ad w b:=
 ⟨gy h.size a.size,fun k hk=>(a.same k (hk.imp (c k) (hi k))).trans (h.same k hk),a.io.1.trans h.io.1,a.io.2.trans h.io.2⟩
theorem dS.trans{N:Nat}{ah ad g e i f:Nat->Prop}{w w1 j:cc}{β l m:Bd}{H H1 d:aj}(h:dS N ah ad w β H g e w1 l H1)(a:dS N g e w1 l H1 i f j m d):dS N ah ad w β H i f j m d:=
 ⟨fun k x=>a.eC k (h.eC k x),fun k x=>a.bQ k (h.bQ k x),fun k x=>(a.fresh k x).elim (fun y=>h.fresh k y) (fun y=>.inr fun z=>y (h.eC k z)),h.ext.trans h.eC h.bQ a.ext,
  h.step.trans h.fy a.step,fun x c hx=>a.fy x c (h.fy x c hx),fun b c n=>a.loop b c (h.loop b c n)⟩
theorem bZ.fC{P:b4}{N:Nat}{ah ad aF:Nat->Prop}{w w':cc}{β aK:Bd}{H H':aj}(h:bZ P ah ad w β H aF w' aK H'):dS N ah ad w β H ah aF w' aK H':=
 ⟨fun _ x=>x,h.bQ,h.fresh,h.ext,h.step.n,fun x _=>h.fy x,fun b _=>h.loop b⟩
section
variable{P:b4}{ah ad aF:Nat->Prop}{w w':cc}{β aK:Bd}{H H':aj}
theorem fG.zn(d:w'.heap=w.heap){b:Nat}{o:Obj}(h:fG P w ad β H ah b o)(i:o.refs (aJ H)):fG P w' ad β H ah b o:=by
 have p:=fun(v:AV) cs j=>bu.mono (P:=P) (w:=w) (w':=w') (ad:=ad) (aF:=ad) (β:=β) (aK:=β) (H:=H) (H':=H) (fun _ x=>x) (fun k _=>by rw[d]) (cz.refl β H) v cs j;have q:=fun l(v:List AV) cs j=>bM.mono (P:=P) (w:=w) (w':=w') (ad:=ad) (aF:=ad) (β:=β) (aK:=β) (H:=H) (H':=H) (fun _ x=>x) (fun k _=>by rw[d]) (cz.refl β H) l v cs j;have r:=fun(g:List (PV×PV)) f=>cK.mono (P:=P) (w:=w) (w':=w') (ad:=ad) (aF:=ad) (fun _ x=>x) (fun k _=>by rw[d]) g f;cases o with
 |hole=>trivial
 |dead=>trivial
 |box fz t=>
  obtain⟨cs,T,a,c,e⟩:=h;exact⟨cs,T,by rw[d];exact a,p _ _ i c,e⟩
 |arr k aA ai g=>
  rcases h with h|⟨cs,T,m,rest,a,c,e⟩
  ·exact .inl h
  ·exact .inr ⟨cs,T,m,rest,by rw[d];exact a,q _ _ _ i c,e⟩
 |map fz g=>
  obtain⟨f,clock,a,c,e⟩:=h;exact⟨f,clock,by rw[d];exact a,r _ _ c,e⟩
 |dG s pos=>
  obtain⟨bs,a,c⟩:=h;exact⟨bs,by rw[d];exact a,c⟩
 |loop L=>
  obtain⟨tmps,defers,fn,a,c,e,n⟩:=h;exact⟨tmps,defers,fn,by rw[d];exact a,c,fun x=>aB.mono (fun _ x=>x) (fun _ _=>by rw[d]) (cz.refl _ _) _ _ (i x) (e x),n⟩
theorem bV.zn(a:w'.heap=w.heap)(h:bV P w ad β H ah):bV P w' ad β H ah:=
 ⟨fun b o c=>(h.cM b o c).zn a (h.refs b o c),h.inj,h.refs,fun k hk=>by rw[a];exact h.bQ k hk,fun k hk=>by rw[a];exact h.eC k hk,h.iT.mono (fun _ x=>x) (fun _ _=>by rw[a])⟩
theorem bV.ny(h:bV P w ad β H ah){b:Nat}{o:Obj}(e:H[b]?=some o)(d:o.live):β.aq b<w.heap.size:=by
 have c:=h.cM b o e;cases o with
 |hole=>exact d.elim
 |dead=>exact d.elim
 |box fz t=>obtain⟨cs,T,a,_⟩:=c;exact(bl.1 a).1
 |arr k aA ai es=>
  rcases c with c|⟨cs,T,f,rest,a,_⟩
  ·exact(d c).elim
  ·exact(bl.1 a).1
 |map fz es=>obtain⟨g,clock,a,_⟩:=c;exact(bl.1 a).1
 |dG s pos=>obtain⟨bs,a,_⟩:=c;exact(bl.1 a).1
 |loop L=>obtain⟨_,_,_,a,_⟩:=c;exact(bl.1 a).1
theorem bZ.set{b:Nat}{o':Obj}(f:bV P w ad β H ah)(q:b<H.length)(l:∀x,x≠b->aK.aq x=β.aq x/\aK.cap x=β.cap x)
 (i:∀k,ad k->aF k)(N:∀k,aF k->ad k\/(k=aK.aq b/\o'.live))(af:∀k,aF k->k<w'.heap.size)
 (S:w.heap.size<=w'.heap.size)(G:∀k,(k≠aK.aq b\/¬o'.live)->k<w.heap.size->w'.heap[k]?=w.heap[k]?)
 (D:o'.live->w.heap.size<=aK.aq b\/(aK.aq b=β.aq b/\(∃o,H[b]?=some o/\o.live)/\((∀k,k=β.aq b->w'.heap[k]?=w.heap[k]?)\/¬ad (β.aq b))/\¬ah (β.aq b)))
 (aM:cz β H aK (H.set b o'))(aj:fG P w' aF aK (H.set b o') ah b o')(ak:o'.refs (aJ (H.set b o')))(ag:∀(o:Obj)(v:Nat),H[b]?=some o->o.has v->o'.has v)(ae:∀L,H[b]?=some (.loop L)->∃B,o'=.loop B)(ac:w'.os=w.os/\w'.output=w.output:=by exact⟨rfl,rfl⟩):
 bZ P ah ad w β H aF w' aK (H.set b o'):=by
 have A:∀x o,x≠b->H[x]?=some o->o.live->¬ad (β.aq x)->o'.live->β.aq x≠aK.aq b:=by
  intro x o hx d e j r he;rcases D r with a|⟨a,⟨an,c,g⟩,_⟩
  ·have:=f.ny d e;omega
  ·rw[a]at he;exact hx (f.inj x b o an d c e g j he)
 have R:o'.live->¬ah (aK.aq b):=by
  intro e E;rcases D e with a|⟨a,_,_,c⟩
  ·have:=f.eC _ E;omega
  ·rw[a]at E;exact c E
 have p:∀k,ah k\/ad k->w'.heap[k]?=w.heap[k]?:=by
  intro k hk;have O:k<w.heap.size:=hk.elim (f.eC k) (f.bQ k)
  by_cases z:k=aK.aq b
  ·by_cases e:o'.live
   ·rcases hk with hk|hk
    ·exact(R e (z▸hk)).elim
    ·rcases D e with a|⟨a,_,c,_⟩
     ·omega
     ·rcases c with c|c
      ·exact c k (z.trans a)
      ·exact(c (by rw[<-a,<-z];exact hk)).elim
   ·exact G k (.inr e) O
  ·exact G k (.inl z) O
 have al:∀x,aJ H x->aJ (H.set b o') x:=by
  rintro⟨x,v⟩ ⟨o,d,Q⟩
  by_cases hx:x=b
  ·subst hx;exact⟨o',by simp[e6 q],ag o v d Q⟩
  ·exact⟨o,by simp only;rw[ew (g8 hx)];exact d,Q⟩
 have hrefs:∀v,aE (aJ H) v->aE (aJ (H.set b o')) v:=aE.mono al;refine⟨i,fun k hk=>(N k hk).imp id (fun(h:k=aK.aq b/\o'.live)=>h.1▸R h.2),⟨S,p,ac⟩,aM,⟨?_,?_,?_,af,fun k hk=>g0 (f.eC k hk) S,f.iT.mono i (fun k hk=>p k (.inr hk))⟩,al,?_⟩
 ·intro x o d
  by_cases hx:x=b
  ·subst hx;rw[e6 q]at d;cases d;exact aj
  ·rw[ew (g8 hx)]at d;have n:=f.cM x o d;have F:=f.refs x o d;have M:=(l x hx).1;have C:=(l x hx).2;have hs:o.live->w'.heap[aK.aq x]?=w.heap[β.aq x]?:=by
    intro e;rw[M]
    by_cases j:ad (β.aq x)
    ·exact p _ (.inr j)
    refine G _ ?_ (f.ny d e)
    by_cases r:o'.live
    ·exact .inl (A x o hx d e j r)
    ·exact .inr r
   have held:∀fz,o.live->cJ ad β ah fz x->cJ aF aK ah fz x:=by
    intro fz e m;unfold cJ at m⊢;rw[M];cases fz with
    |true=>simp only[if_true]at m⊢;exact i _ m
    |false=>
     simp only[b2,if_false]at m⊢;refine⟨fun h=>?_,m.2⟩;rcases N _ h with h|⟨h,r⟩
     ·exact m.1 h
     ·exact A x o hx d e m.1 r h
   cases o with
   |hole=>trivial
   |dead=>trivial
   |box fz t=>
    obtain⟨cs,T,a,c,g,u⟩:=n;exact⟨cs,T,(hs trivial).trans a,bu.mono i (fun k hk=>p k (.inr hk)) aM _ _ F c,held _ trivial g,u⟩
   |arr k aA ai es=>
    rcases n with n|⟨cs,T,W,rest,a,c,g,u,Y,Z,aa,ab⟩
    ·exact .inl n
    ·by_cases e:di k es
     ·exact .inl e
     ·refine .inr ⟨cs,T,W,rest,(hs e).trans a,bM.mono i (fun k hk=>p k (.inr hk)) aM _ _ _ F c,g,?_,?_,?_,held _ e aa,ab⟩
      ·rw[C];exact u
      ·rw[C];exact Y
      ·rw[C];exact Z
   |map fz es=>
    obtain⟨X,clock,a,c,g⟩:=n;exact⟨X,clock,(hs trivial).trans a,cK.mono i (fun k hk=>p k (.inr hk)) _ _ c,held _ trivial g⟩
   |dG s pos=>
    obtain⟨bs,a,c,g⟩:=n;exact⟨bs,(hs trivial).trans a,c,held _ trivial g⟩
   |loop L=>
    obtain⟨tmps,defers,fn,a,c,g,u⟩:=n;exact⟨tmps,defers,fn,(hs trivial).trans a,c,fun x=>aB.mono i (fun k hk=>p k (.inr hk)) aM _ _ (F x) (g x),held _ trivial u⟩
 ·intro x y U V a c I J j he
  by_cases hx:x=b<;>by_cases hy:y=b
  ·rw[hx,hy]
  ·subst hx;rw[e6 q]at a;cases a;rw[ew (g8 hy)]at c;rw[(l y hy).1]at he;exact(A y V hy c J (fun hi=>j (he▸i _ hi)) I he.symm).elim
  ·subst hy;rw[e6 q]at c;cases c;rw[ew (g8 hx)]at a;rw[(l x hx).1]at he;rw[(l x hx).1]at j;exact(A x U hx a I (fun hi=>j (i _ hi)) J he).elim
  ·rw[ew (g8 hx)]at a;rw[ew (g8 hy)]at c;rw[(l x hx).1,(l y hy).1]at he;rw[(l x hx).1]at j;exact f.inj x y U V a c I J (fun hi=>j (i _ hi)) he
 ·intro x o d
  by_cases hx:x=b
  ·subst hx;rw[e6 q]at d;cases d;exact ak
  ·rw[ew (g8 hx)]at d;have:=f.refs x o d;cases o with
   |box fz t=>exact hrefs _ this
   |arr k aA ai es=>exact c7.2 fun v am=>hrefs v (c7.1 this v am)
   |loop L=>exact fun x=>hrefs _ (this x)
   |_=>trivial
 ·rintro x ⟨L,K⟩
  by_cases hx:x=b
  ·subst hx;obtain⟨B,rfl⟩:=ae L K;exact⟨B,e6 q⟩
  ·exact⟨L,by rw[ew (g8 hx)];exact K⟩
end
end Go.ak
namespace Go.ak
variable[Gl]
def bB(P:b4)(o:Oper)(ρ:cv->AV)(a:Nat)(e:aR):Prop:=
 ∀(H:aj)(w:cc)(ad ah:Nat->Prop)(β:Bd)(ρc:cv->b5),
  bV P w ad β H ah->(∀x∈o.op.operands,aB P w ad β H (ρ x) (ρc x)/\aE (aJ H) (ρ x))->(∀p∈e.al,H[p.1]?=some p.2)->(∀i,i<e.aP.length->H[a+i]?=some .hole)->
  ∃n b w' aK aF,(c6 ρc o).run P w=.ok n w'/\(n=.value b\/n=.skip/\b=undef)/\
   bZ P ah ad w β H aF w' aK (bm H (e.aL++newAt a e.aP))/\aB P w' aF aK (bm H (e.aL++newAt a e.aP)) e.v b/\
   aE (aJ (bm H (e.aL++newAt a e.aP))) e.v
section
variable{P:b4}{ah ad aF:Nat->Prop}{w w':cc}{β aK:Bd}{H H':aj}
theorem bZ.refl(h:bV P w ad β H ah):bZ P ah ad w β H ad w β H:=
 ⟨fun _ x=>x,fun _ x=>.inl x,Ext.refl _ _ _,cz.refl _ _,h,fun _ x=>x,fun _ x=>x⟩
theorem bB.same{o:Oper}{ρ:cv->AV}{c:Nat}{v:AV}{al:List (Nat×Obj)}
 (h:∀(H:aj)(w:cc)(ad ah:Nat->Prop)(β:Bd)(ρc:cv->b5),bV P w ad β H ah->(∀x∈o.op.operands,aB P w ad β H (ρ x) (ρc x)/\aE (aJ H) (ρ x))->
  (∀p∈al,H[p.1]?=some p.2)->∃a,(c6 ρc o).run P w=.ok (.value a) w/\aB P w ad β H v a/\aE (aJ H) v):
 bB P o ρ c {v,al}:=by
 intro H w ad ah β ρc b i g _;obtain⟨a,d,e,f⟩:=h H w ad ah β ρc b i g;exact⟨_,a,w,β,ad,d,.inl rfl,by simpa[newAt,bm]using bZ.refl b,by simpa[newAt,bm]using e,by simpa[newAt,bm]using f⟩
theorem bZ.trans{j l:Nat->Prop}{w1 n:cc}{o p:Bd}{H1 i:aj}(h:bZ P ah ad w β H j w1 o H1)(c:bZ P ah j w1 o H1 l n p i):bZ P ah ad w β H l n p i:=by
 refine⟨fun k x=>c.bQ k (h.bQ k x),fun k x=>(c.fresh k x).elim (h.fresh k) .inr,h.ext.trans (fun _ x=>x) h.bQ c.ext,⟨?_,?_,?_,?_,?_⟩,c.rel,fun b a=>c.fy b (h.fy _ a),fun b a=>c.loop b (h.loop b a)⟩
 ·intro b a g;obtain⟨d,a2⟩:=c.step.box b (h.fy _ a) g;obtain⟨e,f⟩:=h.step.box b a d;exact⟨e,a2.trans f⟩
 ·intro b a g;obtain⟨d,a2⟩:=c.step.it b (h.fy _ a) g;obtain⟨e,f⟩:=h.step.it b a d;exact⟨e,a2.trans f⟩
 ·intro b a g;obtain⟨d,a2⟩:=c.step.map b (h.fy _ a) g;obtain⟨e,f⟩:=h.step.map b a d;exact⟨e,a2.trans f⟩
 ·intro b aA ai k s a g;obtain⟨k1,t,d,a2,a3,a4⟩:=c.step.arr b aA ai k s (h.fy _ a) g;obtain⟨k0,ia,e,f,q,r⟩:=h.step.arr b aA ai k1 t a d;refine⟨k0,ia,e,gy f a2,a3.trans q,fun m=>?_⟩;obtain⟨c1,c2⟩:=a4 m;obtain⟨d1,d2⟩:=r (fun x=>m (a3.2 x));exact⟨c1.trans d1,c2.trans d2⟩
 ·intro b a g;obtain⟨d,a2⟩:=c.step.loop b (h.fy _ a) g;obtain⟨e,f⟩:=h.step.loop b a d;exact⟨e,a2.trans f⟩
theorem vU(H:aj)(l r:List (Nat×Obj)):bm H (l++r)=bm (bm H l) r:=by
 induction l generalizing H with
 |nil=>rfl
 |cons p l a=>obtain⟨b,o⟩:=p;simp[bm,a]
theorem pI(H:aj)(l:List (Nat×Obj)):(bm H l).length=H.length:=by
 induction l generalizing H with
 |nil=>rfl
 |cons p l a=>obtain⟨b,o⟩:=p;simp[bm,a]
theorem yQ(H T:aj)(l:List (Nat×Obj))(h:∀p∈l,p.1<H.length):bm (H++T) l=bm H l++T:=by
 induction l generalizing H with
 |nil=>rfl
 |cons p l c=>
  obtain⟨b,o⟩:=p;have a:b<H.length:=h (b,o) (by simp);simp only[bm];rw[List.set_append_left _ _ a,c];intro q hq;rw[List.length_set];exact h q (by simp[hq])
theorem Ct(H:aj)(l:List Obj):bm (H++er l.length .hole) (newAt H.length l)=H++l:=by
 induction l generalizing H with
 |nil=>simp[newAt,bm]
 |cons o l a=>
  simp only[newAt,bm,e9,gb];rw[fv _ _ (gx _)];simp only[Nat.sub_self,gc];have:=a (H++[o]);simp only[ge,List.length_singleton,gg,List.singleton_append]at this;exact this
theorem lS(H:aj)(m b:Nat):(H++er m Obj.hole)[b]?=if b<H.length then H[b]? else if b<H.length+m then some .hole else none:=by
 by_cases h:b<H.length
 ·simp[h,e7]
 ·rw[fb (by omega)];simp only[List.getElem?_replicate,h,if_false]
  by_cases a:b<H.length+m
  ·simp[a,show b-H.length<m by omega]
  ·simp[a,show¬(b-H.length<m)by omega]
theorem n7{H:aj}{m b:Nat}{o:Obj}(h:(H++er m Obj.hole)[b]?=some o):H[b]?=some o\/o=.hole:=by
 rw[lS]at h
 split at h
 ·exact .inl h
 ·split at h
  ·exact .inr (by simpa using h.symm)
  ·simp at h
theorem oD(H:aj)(m:Nat)(b:Nat×Nat)(h:aJ H b):aJ (H++er m Obj.hole) b:=by
 obtain⟨o,a,d⟩:=h;have c:b.1<H.length:=(eP.1 a).1;exact⟨o,by rw[lS,if_pos c];exact a,d⟩
theorem rj(β:Bd)(H:aj)(m:Nat):cz β H β (H++er m .hole):=by
 refine⟨?_,?_,?_,?_,?_⟩
 ·rintro b _ ⟨fz,t,h⟩;rcases n7 h with h|h<;>simp_all [nC]
 ·rintro b _ ⟨fz,t,h⟩;rcases n7 h with h|h<;>simp_all [nF]
 ·rintro b _ ⟨fz,t,h⟩;rcases n7 h with h|h<;>simp_all [nB]
 ·intro b aA ai k a _ h;rcases n7 h with h|h
  ·exact⟨k,a,h,gx _,eq,fun _=>⟨rfl,rfl⟩⟩
  ·simp at h
 ·rintro b _ ⟨L,h⟩;rcases n7 h with h|h<;>simp_all [iv]
theorem Obj.wK{S T:Nat×Nat->Prop}(h:∀x,S x->T x):∀{o:Obj},o.refs S->o.refs T
 | .box _ t,a=>aE.mono h t a
 | .arr _ _ _ es,a=>aS.mono h es a
 | .loop _L,a=>fun x=>aE.mono h _ (a x)
 | .hole,_| .dead,_| .map _ _,_| .dG _ _,_=>trivial
theorem bV.qy(m:Nat)(h:bV P w ad β H ah):bV P w ad β (H++er m .hole) ah:=by
 refine⟨?_,?_,?_,h.bQ,h.eC,h.iT⟩
 ·intro b o d;rcases n7 d with d|rfl
  ·have e:=h.cM b o d;have g:=h.refs b o d;have st:=rj β H m;cases o with
   |hole=>trivial
   |dead=>trivial
   |box fz t=>
    obtain⟨cs,T,a,c,f⟩:=e;exact⟨cs,T,a,bu.mono (fun _ x=>x) (fun _ _=>rfl) st _ _ g c,f⟩
   |arr k aA ai es=>
    rcases e with e|⟨cs,T,l,rest,a,c,f⟩
    ·exact .inl e
    ·exact .inr ⟨cs,T,l,rest,a,bM.mono (fun _ x=>x) (fun _ _=>rfl) st _ _ _ g c,f⟩
   |map fz es=>exact e
   |dG s pos=>exact e
   |loop L=>
    obtain⟨tmps,defers,fn,a,c,f,n⟩:=e;exact⟨tmps,defers,fn,a,c,fun x=>aB.mono (fun _ x=>x) (fun _ _=>rfl) st _ _ (g x) (f x),n⟩
  ·trivial
 ·intro x y r u a c i j q p;rcases n7 a with a|rfl
  ·rcases n7 c with c|rfl
   ·exact h.inj x y r u a c i j q p
   ·exact j.elim
  ·exact i.elim
 ·intro b o d;rcases n7 d with d|rfl
  ·exact Obj.wK (oD H m) (h.refs b o d)
  ·trivial
theorem bB.use{o:Oper}{ρ:cv->AV}{e:aR}(h:bB P o ρ H.length e){ρc:cv->b5}(k:bV P w ad β H ah)
 (c:∀x∈o.op.operands,aB P w ad β H (ρ x) (ρc x)/\aE (aJ H) (ρ x))(al:∀p∈e.al,H[p.1]?=some p.2)(aL:∀p∈e.aL,p.1<H.length):
 ∃n a w' aK aF,(c6 ρc o).run P w=.ok n w'/\(n=.value a\/n=.skip/\a=undef)/\
  bZ P ah ad w β H aF w' aK (bm H e.aL++e.aP)/\aB P w' aF aK (bm H e.aL++e.aP) e.v a/\aE (aJ (bm H e.aL++e.aP)) e.v:=by
 have aM:=rj β H e.aP.length;obtain⟨n,a,w',aK,aF,m,q,d,f,g⟩:=h (H++er e.aP.length .hole) w ad ah β ρc (k.qy _)
  (fun x hx=>⟨aB.mono (fun _ x=>x) (fun _ _=>rfl) aM _ _ (c x hx).2 (c x hx).1,aE.mono (oD _ _) _ (c x hx).2⟩)
  (fun p s=>by have:=al p s;rw[lS,if_pos (eP.1 this).1];exact this)
  (fun i hi=>by rw[lS,if_neg (by omega),if_pos (by omega)])
 have r:bm (H++er e.aP.length .hole) (e.aL++newAt H.length e.aP)=bm H e.aL++e.aP:=by
  rw[vU,yQ _ _ _ aL];have:=Ct (bm H e.aL) e.aP
  rwa [pI]at this
 rw[r]at d f g;refine⟨n,a,w',aK,aF,m,q,?_,f,g⟩;have l:bZ P ah ad w β H ad w β (H++er e.aP.length .hole):=⟨fun _ x=>x,fun _ x=>.inl x,Ext.refl _ _ _,aM,k.qy _,oD _ _,fun b⟨L,j⟩=>⟨L,by rw[lS,if_pos (eP.1 j).1];exact j⟩⟩
 exact l.trans d
theorem sX.use{f:ck}{args:List AV}{e:aR}(h:sX P f args H.length e)(m:oZ H e){c:List b5}(n:bV P w ad β H ah)(r:bI P w ad β H args c)(o:aS (aJ H) args):
 dl P f c.toArray w fun x w'=>∃a aK aF,x=.returned a/\bZ P ah ad w β H aF w' aK (bm H e.aL++e.aP)/\aB P w' aF aK (bm H e.aL++e.aP) e.v a/\aE (aJ (bm H e.aL++e.aP)) e.v:=by
 have aM:=rj β H e.aP.length;refine(h.2 (H++er e.aP.length .hole) w ad ah β c (n.qy _)
  (bI.mono (fun _ x=>x) (fun _ _=>rfl) aM _ _ o r) (aS.mono (oD _ _) _ o)
  (fun p d=>by have:=m.1 p d;rw[lS,if_pos (eP.1 this).1];exact this)
  (fun i hi=>by rw[lS,if_neg (by omega),if_pos (by omega)])).mono ?_
 rintro x w' ⟨a,aK,aF,rfl,g,j,k⟩;have s:bm (H++er e.aP.length .hole) (e.aL++newAt H.length e.aP)=bm H e.aL++e.aP:=by
  rw[vU,yQ _ _ _ (fun p d=>(m.2 p d).1)];have:=Ct (bm H e.aL) e.aP
  rwa [pI]at this
 rw[s]at g j k;have q:bZ P ah ad w β H ad w β (H++er e.aP.length .hole):=⟨fun _ x=>x,fun _ x=>.inl x,Ext.refl _ _ _,aM,n.qy _,oD _ _,fun b⟨L,l⟩=>⟨L,by rw[lS,if_pos (eP.1 l).1];exact l⟩⟩
 exact⟨a,aK,aF,rfl,q.trans g,j,k⟩
end
def mr(P:b4)(ag:ck->Bool):Prop:=
 ∀(o:Oper)(ρ:cv->AV)(H:aj)(K:aR->Prop),(∀v,ρ (.const v)=.p (ofConst v))->fT P ag o ρ H K->
  ∃e,K e/\bB P o ρ H.length e/\(∀p∈e.al,H[p.1]?=some p.2)/\(∀p∈e.aL,p.1<H.length/\p.2≠.hole)
section
variable{P:b4}{ag:ck->Bool}{n:Nat}
theorem Jx{w:cc}{ad:Nat->Prop}(v:b5):aD P w ad (ofConst v) v:=by
 unfold ofConst
 split<;>simp[aD]
theorem oK{ah ad:Nat->Prop}{β:Bd}{s:St}{t:Array b5}{w:cc}(h:cN P n ah ad β s t w)(x:cv):
 aB P w ad β s.heap (ev s.env x) (fU t x)/\aE (aJ s.heap) (ev s.env x):=by
 cases x with
 |tmp x=>exact⟨h.env x,h.gZ x⟩
 |const v=>exact⟨by simp only[ev,fU,aB];exact Jx v,by simp[ev,aE]⟩
 |global g=>exact⟨by simp only[ev,fU,aB];exact h.heap.iT.val g,by simp[ev,aE]⟩
 |func f=>exact⟨by simp[ev,fU,aB,aD,bK],by simp[ev,aE]⟩
def jy(n:Nat)(o:Oper):Bool:=
 match o.dst with
 |some d=>decide (d<n)
 |none=>true
theorem wx(e:Env)(dst:Option Tmp)(v:AV)(x:Nat):aN (put dst v e) x=if dst=some x then v else aN e x:=by
 cases dst with
 |none=>simp[put]
 |some d=>
  simp only[put,aN,Option.some.injEq]
  by_cases h:x=d
  ·simp[h]
  ·simp[h,g8 h]
theorem XQ{n:Nat}{o:Oper}(a:jy n o=true){t:Array b5}(c:t.size=n)(v:b5)(x:Nat):(nV o.dst v t).getD x undef=if o.dst=some x then v else t.getD x undef:=by
 unfold jy at a;cases b:o.dst with
 |none=>simp[nV]
 |some d=>
  simp only[b,decide_eq_true_eq]at a;simp only[nV,Option.some.injEq]
  by_cases h:d=x
  ·subst h;simp[c,a]
  ·simp only[h,if_false,Array.getD_eq_getD_getElem?,Array.getElem?_setIfInBounds_ne h]
theorem Xs{t:Array b5}(dst:Option Tmp)(v:b5):(nV dst v t).size=t.size:=by cases dst<;>simp[nV]
theorem cN.put{ah ad aF:Nat->Prop}{β aK:Bd}{s:St}{H':aj}{t:Array b5}{w w':cc}{o:Oper}{v:AV}{b:b5}(h:cN P n ah ad β s t w)(c:jy n o=true)
 (a:bZ P ah ad w β s.heap aF w' aK H')(e:aB P w' aF aK H' v b)(d:aE (aJ H') v):
 cN P n ah aF aK ⟨put o.dst v s.env,H'⟩ (nV o.dst b t) w':=by
 refine⟨a.rel,fun x=>?_,fun x=>?_,by rw[Xs];exact h.size⟩
 ·rw[wx,XQ c h.size]
  split
  ·exact e
  ·exact aB.mono a.bQ (fun k hk=>a.ext.same k (.inr hk)) a.step _ _ (h.gZ x) (h.env x)
 ·rw[wx]
  split
  ·exact d
  ·exact aE.mono a.fy _ (h.gZ x)
theorem Lc{H T:aj}{b:Nat×Nat}(h:aJ H b):aJ (H++T) b:=by
 obtain⟨o,a,c⟩:=h;exact⟨o,by rw[e7 (eP.1 a).1];exact a,c⟩
theorem bV.later{ah ad aF:Nat->Prop}{w w':cc}{β:Bd}{H:aj}(h:bV P w ad β H ah)(e:∀k,ad k->aF k)(hf:∀k,aF k->ad k\/w.heap.size<=k)
 (B:∀k,aF k->k<w'.heap.size)(p:w.heap.size<=w'.heap.size)(hs:∀k,k<w.heap.size->w'.heap[k]?=w.heap[k]?)(A:w'.os=w.os/\w'.output=w.output:=by exact⟨rfl,rfl⟩):bZ P ah ad w β H aF w' β H:=by
 have same:∀k,ad k->w'.heap[k]?=w.heap[k]?:=fun k hk=>hs k (h.bQ k hk);refine⟨e,fun k hk=>(hf k hk).imp id (fun c a=>by have:=h.eC k a;omega),⟨p,fun k hk=>hs k (hk.elim (h.eC k) (h.bQ k)),A⟩,cz.refl _ _,?_,fun _ x=>x,fun _ x=>x⟩;refine⟨fun b o m=>?_,fun b b' o o' c a D E C=>h.inj b b' o o' c a D E (fun hi=>C (e _ hi)),h.refs,B,fun k hk=>g0 (h.eC k hk) p,h.iT.mono e same⟩;have g:=h.cM b o m;have n:=h.refs b o m;have held:∀fz,o.live->cJ ad β ah fz b->cJ aF β ah fz b:=by
  intro fz f l;have:=h.ny m f;unfold cJ at l⊢;cases fz with
  |true=>exact e _ l
  |false=>exact⟨fun x=>(hf _ x).elim l.1 (by omega),l.2⟩
 have j:o.live->w'.heap[β.aq b]?=w.heap[β.aq b]?:=fun f=>hs _ (h.ny m f);cases o with
 |hole=>trivial
 |dead=>trivial
 |box fz t=>
  obtain⟨cs,T,c,a,d,i⟩:=g;exact⟨cs,T,(j trivial).trans c,bu.mono e same (cz.refl _ _) _ _ n a,held _ trivial d,i⟩
 |arr k aA ai es=>
  rcases g with g|⟨cs,T,q,rest,c,a,d,i,u,v,y,z⟩
  ·exact .inl g
  ·by_cases f:di k es
   ·exact .inl f
   ·exact .inr ⟨cs,T,q,rest,(j f).trans c,bM.mono e same (cz.refl _ _) _ _ _ n a,d,i,u,v,held _ f y,z⟩
 |map fz es=>
  obtain⟨r,clock,c,a,d⟩:=g;exact⟨r,clock,(j trivial).trans c,cK.mono e same _ _ a,held _ trivial d⟩
 |dG s pos=>
  obtain⟨bs,c,a,d⟩:=g;exact⟨bs,(j trivial).trans c,a,held _ trivial d⟩
 |loop L=>
  obtain⟨tmps,defers,fn,c,a,d,i⟩:=g;exact⟨tmps,defers,fn,(j trivial).trans c,a,fun x=>aB.mono e same (cz.refl _ _) _ _ (n x) (d x),held _ trivial i⟩
theorem rp{w:cc}{ad:Nat->Prop}{β:Bd}{H:aj}:∀{a b:List AV}{x y:List b5},bI P w ad β H a x->bI P w ad β H b y->bI P w ad β H (a++b) (x++y)
 |[],b,x,y,h,c=>by simp only[bI]at h;subst h;simpa using c
 |v::a,b,x,y,h,c=>by
  simp only[bI]at h;obtain⟨z,f,rfl,d,e⟩:=h;simp only[gi,bI];exact⟨z,f++y,rfl,d,rp e c⟩
theorem kn{S:Nat×Nat->Prop}{a b:List AV}(h:aS S a)(d:aS S b):aS S (a++b):=by
 rw[c7]at*;intro v c;rcases gj.1 c with c|c
 ·exact h v c
 ·exact d v c
theorem wA{ah ad:Nat->Prop}{β:Bd}{s:St}{t:Array b5}{w:cc}(h:cN P n ah ad β s t w):∀l:List cv,
 bI P w ad β s.heap (l.map (ev s.env)) (l.map (fU t))/\aS (aJ s.heap) (l.map (ev s.env))
 |[]=>by simp[bI,aS]
 |x::l=>by
  have a:=oK h x;have b:=wA h l;simp only[e8,bI,aS];exact⟨⟨_,_,rfl,a.1,b.1⟩,a.2,b.2⟩
theorem Th{vs:List PV}{l:List AV}(h:l=vs.map .p):eA l=some vs:=by rw[h,Tp]
end
section
variable{P:b4}{w:cc}{ad ah:Nat->Prop}{β:Bd}{H:aj}
def Bd.at(β:Bd)(b aq cap:Nat):Bd:=⟨fun x=>if x=b then aq else β.aq x,fun x=>if x=b then cap else β.cap x⟩
theorem zx{b:Nat}(f:H[b]?=some .hole)(o':Obj)(aq cap:Nat):cz β H (β.at b aq cap) (H.set b o'):=by
 have a:∀{x v},aJ H (x,v)->x≠b:=by
  rintro x v ⟨o,d,g⟩ rfl;simp only at d;rw[f]at d;cases d;exact g
 have c:∀{x v},aJ H (x,v)->(H.set b o')[x]?=H[x]?:=fun hx=>ew (g8 (a hx));refine⟨?_,?_,?_,?_,?_⟩
 ·rintro x hx ⟨fz,t,h⟩;rw[c hx]at h;exact⟨⟨fz,t,h⟩,by simp[Bd.at,a hx]⟩
 ·rintro x hx ⟨fz,t,h⟩;rw[c hx]at h;exact⟨⟨fz,t,h⟩,by simp[Bd.at,a hx]⟩
 ·rintro x hx ⟨fz,t,h⟩;rw[c hx]at h;exact⟨⟨fz,t,h⟩,by simp[Bd.at,a hx]⟩
 ·intro x aA ai k e hx h;unfold fI at h;rw[c hx]at h;exact⟨k,e,h,gx _,eq,fun _=>by simp[Bd.at,a hx]⟩
 ·rintro x hx ⟨L,h⟩;rw[c hx]at h;exact⟨⟨L,h⟩,by simp[Bd.at,a hx]⟩
theorem uc(e:bV P w ad β H ah){a:Nat}(b:H[a]?=some .hole){ob:Go.Obj}{o':Obj}{cap:Nat}
 (g:fG P {w with heap:=w.heap.push ob} ad (β.at a w.heap.size cap) (H.set a o') ah a o')(h:o'.refs (aJ (H.set a o'))):
 bZ P ah ad w β H ad {w with heap:=w.heap.push ob} (β.at a w.heap.size cap) (H.set a o'):=by
 refine bZ.set e (eP.1 b).1 (fun x hx=>by simp[Bd.at,hx]) (fun _ x=>x) (fun _ x=>.inl x) (fun k hk=>by have:=e.bQ k hk;simp;omega) (by simp)
  (fun k _ hk=>by simp[bw,g7 hk]) (fun _=>.inl (by simp[Bd.at])) (zx b _ _ _) g h (fun i v c f=>by rw[b]at c;cases c;exact f.elim) (fun L d=>by rw[b]at d;cases d)
theorem v8(w:cc)(a:Go.Obj){k:Nat}(hk:k<w.heap.size):({w with heap:=w.heap.push a}:cc).heap[k]?=w.heap[k]?:=by
 simp[bw,g7 hk]
end
section
variable{P:b4}{w:cc}{ad aF ah:Nat->Prop}{β:Bd}{H:aj}
def Row(P:b4)(w:cc)(ad:Nat->Prop)(β:Bd)(H:aj)(ai:Nat)(a:List AV)(b:List (List b5)):Prop:=bM P w ad β H (er a.length ai) a b
theorem iN{ai:Nat}{a:List (List b5)}:Row P w ad β H ai [] a↔a=[]:=by simp[Row,bM]
theorem rA{ai:Nat}{v:AV}{b:List AV}{a:List (List b5)}:Row P w ad β H ai (v::b) a↔∃c cs,a=c::cs/\bu P w ad β H v c/\c.length=ai/\Row P w ad β H ai b cs:=by
 simp[Row,gb,bM]
theorem lR{ai:Nat}:∀{a b:List AV}{d:List (List b5)},Row P w ad β H ai (a++b) d↔∃c1 c2,d=c1++c2/\Row P w ad β H ai a c1/\Row P w ad β H ai b c2
 |[],b,d=>by
  simp only[List.nil_append];constructor
  ·intro h;exact⟨[],d,rfl,iN.2 rfl,h⟩
  ·rintro⟨c1,c2,rfl,e,f⟩;rw[iN.1 e];simpa using f
 |v::a,b,d=>by
  simp only[gi,rA];constructor
  ·rintro⟨c,cs,rfl,e,f,g⟩;obtain⟨c1,c2,rfl,i,j⟩:=lR.1 g;exact⟨c::c1,c2,rfl,⟨c,c1,rfl,e,f,i⟩,j⟩
  ·rintro⟨c1,c2,rfl,⟨c,cs,rfl,e,f,g⟩,i⟩;exact⟨c,cs++c2,rfl,e,f,lR.2 ⟨cs,c2,rfl,g,i⟩⟩
theorem gp{ai:Nat}:∀{b:List AV}{a:List (List b5)},Row P w ad β H ai b a->a.length=b.length/\a.flatten.length=b.length*ai
 |[],a,h=>by rw[iN]at h;subst h;simp
 |v::b,a,h=>by
  rw[rA]at h;obtain⟨c,cs,rfl,f,d,e⟩:=h;have:=gp e;simp only[e9,List.flatten_cons,ge,this,d,Nat.succ_mul];exact⟨trivial,by omega⟩
theorem mE{ai:Nat}{a:List PV}{b:List (List b5)}:Row P w ad β H ai (a.map .p) b↔bk P w ad (er a.length ai) a b:=by
 unfold Row;rw[List.length_map];exact oy
theorem kq{ai:Nat}{d:List AV}{e:List (List b5)}(h:Row P w ad β H ai d e)(off len:Nat)(k:off+len<=d.length):
 ∃a b c,e=a++b++c/\Row P w ad β H ai ((d.drop off).take len) b/\a.flatten.length=off*ai/\Row P w ad β H ai (d.take off) a/\Row P w ad β H ai (d.drop (off+len)) c:=by
 have e1:d=d.take off++((d.drop off).take len++d.drop (off+len)):=by
  rw[<-gm,fm,fm]
 rw[e1,lR]at h;obtain⟨a,r,rfl,f,g⟩:=h;rw[lR]at g;obtain⟨b,c,rfl,i,j⟩:=g;refine⟨a,b,c,by simp,i,?_,f,j⟩;have:=(gp f).2;rw[this,List.length_take,Nat.min_eq_left (by omega)]
theorem mw{cs:Array b5}{T:cb}{fz:Nat×Nat}{aq:Nat}(a:w.heap[aq]?=some (.cells cs T fz)){pre xs post:List b5}(hc:cs.toList=pre++xs++post):
 ir w aq pre.length xs:=by
 intro i hi;have:cs[pre.length+i]?=some xs[i]:=by
  rw[<-Array.getElem?_toList,hc,gg,fb (by omega)];simp only[Nat.add_sub_cancel_left];rw[e7 hi,List.getElem?_eq_getElem hi]
 simp[ej,a,this]
theorem Cj(a:List PV)(off len:Nat):(((a.map AV.p).drop off).take len)=((a.drop off).take len).map .p:=by
 rw[<-List.map_drop,<-List.map_take]
theorem mF{H:aj}{b:Nat}{d o:Obj}(c:H[b]?=some d)(e:∀v,d.has v->o.has v):∀x,aJ H x->aJ (H.set b o) x:=by
 rintro⟨x,v⟩ ⟨f,a,h⟩
 by_cases hx:b=x
 ·subst hx;simp only at a;rw[c]at a;cases a;exact⟨o,by simp only;rw[e6 (eP.1 c).1],e v h⟩
 ·exact⟨f,by simp only;rw[ew hx];exact a,h⟩
theorem tL{b:Nat}{o o':Obj}(l:H[b]?=some o)(hk:(∃f g t,o= .box f t/\o'= .box g t)\/(∃k m v z c,o= .arr k v z c/\o'= .arr m v z c/\¬di k c/\¬di m c)\/(∃f g c,o= .map f c/\o'= .map g c)):
 cz β H β (H.set b o'):=by
 have r:b<H.length:=(eP.1 l).1;have i:∀x,x≠b->(H.set b o')[x]?=H[x]?:=fun x hx=>ew (g8 hx);have e:(H.set b o')[b]?=some o':=e6 r;refine⟨?_,?_,?_,?_,?_⟩
 ·rintro x _ ⟨fz,t,h⟩;refine⟨?_,rfl⟩
  by_cases hx:x=b
  ·subst hx;rw[e]at h;cases h;rcases hk with⟨f,g,j,d,a⟩|⟨_,_,_,_,_,_,a,_⟩|⟨_,_,_,_,a⟩
   ·exact⟨f,j,by rw[l,d]⟩
   ·cases a
   ·cases a
  ·rw[i x hx]at h;exact⟨fz,t,h⟩
 ·rintro x _ ⟨s,p,h⟩;refine⟨?_,rfl⟩
  by_cases hx:x=b
  ·subst hx;rw[e]at h;cases h;rcases hk with⟨f,g,j,d,a⟩|⟨_,_,_,_,_,_,a,_⟩|⟨_,_,_,_,a⟩<;>cases a
  ·rw[i x hx]at h;exact⟨s,p,h⟩
 ·rintro x _ ⟨fz,t,h⟩;refine⟨?_,rfl⟩
  by_cases hx:x=b
  ·subst hx;rw[e]at h;cases h;rcases hk with⟨f,g,j,d,a⟩|⟨_,_,_,_,_,_,a,_⟩|⟨f,g,c,d,a⟩
   ·cases a
   ·cases a
   ·exact⟨f,c,by rw[l,d]⟩
  ·rw[i x hx]at h;exact⟨fz,t,h⟩
 ·intro x aA ai k c _ h
  by_cases hx:x=b
  ·subst hx;unfold fI at h⊢;rw[e]at h;cases h;rcases hk with⟨f,g,j,d,a⟩|⟨k0,m,v,z,u,d,a,n,q⟩|⟨f,g,c,d,a⟩
   ·cases a
   ·cases a;exact⟨k0,c,by rw[l,d],gx _,⟨fun x=>(q x).elim,fun x=>(n x).elim⟩,fun _=>⟨rfl,rfl⟩⟩
   ·cases a
  ·unfold fI at h⊢;rw[i x hx]at h;exact⟨k,c,h,gx _,eq,fun _=>⟨rfl,rfl⟩⟩
 ·rintro x _ ⟨L,h⟩;refine⟨?_,rfl⟩
  by_cases hx:x=b
  ·subst hx;rw[e]at h;cases h;rcases hk with⟨f,g,j,d,a⟩|⟨_,_,_,_,_,_,a,_⟩|⟨_,_,_,_,a⟩<;>cases a
  ·rw[i x hx]at h;exact⟨L,h⟩
theorem cJ.uK{fz:Bool}{b:Nat}(h:cJ ad β ah fz b):ad (β.aq b)\/(¬ad (β.aq b)/\¬ah (β.aq b)):=by
 cases fz with
 |true=>exact .inl h
 |false=>exact .inr h
theorem tQ(d:bV P w ad β H ah){b:Nat}{o o':Obj}(f:H[b]?=some o)(p:o.live)(O:o'.live)(u:∀v,o.has v->o'.has v)(r:∀L,o≠ .loop L)
 (aM:cz β H β (H.set b o'))(N:ad (β.aq b)\/(¬ad (β.aq b)/\¬ah (β.aq b)))
 (aP:∀aF:Nat->Prop,(∀k,ad k->aF k)->aF (β.aq b)->fG P w aF β (H.set b o') ah b o')(A:o'.refs (aJ (H.set b o'))):
 ∃aF,bZ P ah ad w β H aF w β (H.set b o')/\aF (β.aq b):=by
 have n:b<H.length:=(eP.1 f).1
 by_cases hi:ad (β.aq b)
 ·
  refine⟨ad,?_,hi⟩;have al:=mF f u;refine⟨fun _ x=>x,fun _ x=>.inl x,Ext.refl _ _ _,aM,⟨?_,?_,?_,d.bQ,d.eC,d.iT⟩,al,fun x⟨L,i⟩=>⟨L,by
   by_cases hx:b=x
   ·subst hx;rw[f]at i;cases i;exact(r L rfl).elim
   ·rw[ew hx];exact i⟩⟩
  ·intro x l c
   by_cases hx:x=b
   ·subst hx;rw[e6 n]at c;cases c;exact aP ad (fun _ x=>x) hi
   ·rw[ew (g8 hx)]at c;have g:=d.cM x l c;have q:=d.refs x l c;cases l with
    |hole=>trivial
    |dead=>trivial
    |box fz t=>
     obtain⟨cs,T,a,e,j⟩:=g;exact⟨cs,T,a,bu.mono (fun _ x=>x) (fun _ _=>rfl) aM _ _ q e,j⟩
    |arr k aA ai es=>
     rcases g with g|⟨cs,T,J,rest,a,e,j⟩
     ·exact .inl g
     ·exact .inr ⟨cs,T,J,rest,a,bM.mono (fun _ x=>x) (fun _ _=>rfl) aM _ _ _ q e,j⟩
    |map fz es=>exact g
    |dG s pos=>exact g
    |loop L=>
     obtain⟨tmps,defers,fn,a,e,j,K⟩:=g;exact⟨tmps,defers,fn,a,e,fun x=>aB.mono (fun _ x=>x) (fun _ _=>rfl) aM _ _ (q x) (j x),K⟩
  ·intro x y D W a e S U Q M;have conv:∀(z:Nat)(m:Obj),(H.set b o')[z]?=some m->m.live->∃E:Obj,H[z]?=some E/\E.live:=by
    intro z m B V
    by_cases C:z=b
    ·subst C;exact⟨o,f,p⟩
    ·rw[ew (g8 C)]at B;exact⟨m,B,V⟩
   obtain⟨F,G,c1⟩:=conv x D a S;obtain⟨a2,I,c2⟩:=conv y W e U;exact d.inj x y F a2 G I c1 c2 Q M
  ·intro x l c
   by_cases hx:x=b
   ·subst hx;rw[e6 n]at c;cases c;exact A
   ·rw[ew (g8 hx)]at c;exact Obj.wK al (d.refs x l c)
 ·refine⟨fun k=>ad k\/k=β.aq b,?_,.inr rfl⟩;have R:=N.resolve_left hi;exact bZ.set d n (fun _ _=>⟨rfl,rfl⟩) (fun _ x=>.inl x) (fun k hk=>hk.imp id (fun h=>⟨h,O⟩)) (fun k hk=>hk.elim (d.bQ k) (fun h=>h▸d.ny f p)) (gx _)
   (fun _ _ _=>rfl) (fun _=>.inr ⟨rfl,⟨o,f,p⟩,.inl (fun _ _=>rfl),R.2⟩) aM (aP _ (fun _ x=>.inl x) (.inr rfl)) A (fun D v a e=>by rw[f]at a;cases a;exact u v e) (fun L i=>by rw[f]at i;cases i;exact(r L rfl).elim)
theorem K3{z:AV}{K:PV}{H1:aj}{v:b5}(d:kJ H z=some (K,H1))(j:bV P w ad β H ah)(f:aB P w ad β H z v)(aa:aE (aJ H) z):
 ∃aF,bZ P ah ad w β H aF w β H1/\aD P w aF K v:=by
 cases z with
 |p t=>
  simp[kJ]at d;obtain⟨rfl,rfl⟩:=d;exact⟨ad,bZ.refl j,by simpa[aB]using f⟩
 |sl b aA ai off len=>
  simp only[kJ]at d
  split at d
  case h_2=>simp at d
  rename_i k ab X i g
  split at d
  case isFalse=>simp at d
  rename_i Q;obtain⟨rfl,rfl,Z⟩:=Q;simp only[aB]at f;obtain⟨_,f⟩:=f;simp only[bS]at f;obtain⟨v1,v2,v3⟩:=f k i g
  split at d
  ·rename_i u;simp at d;obtain⟨rfl,rfl⟩:=d;exact⟨ad,bZ.refl j,by simp[aD,v2 u]⟩
  ·rename_i u
   split at d
   case h_2=>simp at d
   rename_i J S;simp at d;obtain⟨rfl,rfl⟩:=d;have A:=mC S;have E:=j.cM b _ g;rcases E with E|⟨cs,T,F,rest,n,l,r,B,M,N,O,Y⟩
   ·exact(u E).elim
   have I:¬di .frozen i:=fun h=>by cases h.1
   have aM:cz β H β (H.set b (.arr .frozen aA ai i)):=tL g (.inr (.inl ⟨_,_,_,_,_,rfl,rfl,u,I⟩));obtain⟨aF,q,y⟩:=tQ j g u (o':=.arr .frozen aA ai i) I (fun _ h=>h) (fun _ h=>by cases h) aM O.uK
    (fun aF hi x=>.inr ⟨cs,T,F,rest,n,bM.mono hi (fun _ _=>rfl) aM _ _ _ (j.refs b _ g) l,r,B,M,(fun h=>by cases h),x,fun _ e C=>(by rw[A]at C;simp at C;obtain⟨a,_,rfl⟩:=C;trivial),fun h=>by cases h⟩)
    (by rw[A];exact ju _ _)
   refine⟨aF,q,?_⟩;rw[v3 u];have U:Row P w aF β H ai i F:=bM.mono q.bQ (fun _ _=>rfl) (cz.refl _ _) _ _ _ (j.refs b _ g) l;obtain⟨a,m,c,e1,e2,e3,e4,e5⟩:=kq U off len v1;rw[A,Cj,mE]at e2;have D:((J.drop off).take len).length=len:=by
    have:i.length=J.length:=by rw[A];simp
    simp;omega
   simp only[aD];refine⟨β.aq b,off*ai,β.cap b-off,ai,m,e2,fun _=>y,?_,?_,?_,none,.inl rfl,?_⟩
   ·rw[<-e3];exact mw n (post:=c.flatten++rest) (by rw[r,e1];simp)
   ·intro hf;simp at hf;rw[D,N hf.1];omega
   ·rw[D];omega
   ·rw[D]
 |ptr b path=>
  simp only[kJ]at d
  split at d
  case h_2=>simp at d
  rename_i fz t g
  split at d
  case h_2=>simp at d
  rename_i s hs;simp at d;obtain⟨rfl,rfl⟩:=d;simp only[aB]at f;obtain⟨_,f⟩:=f;simp only[bS]at f;obtain⟨W,V,o,rfl,R,f⟩:=f;obtain⟨rfl,rfl⟩:=f (.inl ⟨fz,_,g⟩);obtain⟨cs,T,n,l,r,B⟩:=j.cM b _ g;have aM:cz β H β (H.set b (.box true (.p t))):=tL g (.inl ⟨_,_,_,rfl,rfl⟩);obtain⟨aF,q,y⟩:=tQ j g trivial (o':=.box true (.p t)) trivial (fun _ h=>h) (fun _ h=>by cases h) aM r.uK
   (fun aF hi x=>⟨cs,T,n,bu.mono hi (fun _ _=>rfl) aM _ _ (by simp[aE]) l,x,fun _=>trivial,B.2⟩) (by simp[Obj.refs,aE])
  refine⟨aF,q,?_⟩;have L:aU P w aF t cs.toList:=by simp only[bu]at l;exact aU.mono q.bQ (fun _ _=>rfl) _ _ l
  obtain⟨pre,xs,post,e1,e2,e3⟩:=zL L hs R;simp only[aD];refine⟨β.aq b,V,xs,e3,y,?_,rfl⟩;rw[<-e2];exact mw n e1
 |map b=>
  simp only[kJ]at d
  split at d
  case h_2=>simp at d
  rename_i fz i g;simp at d;obtain⟨rfl,rfl⟩:=d;simp only[aB]at f;obtain⟨_,f⟩:=f;simp only[bS]at f;have f:=f.1 ⟨fz,i,g⟩;obtain⟨G,clock,n,l,r⟩:=j.cM b _ g;have aM:cz β H β (H.set b (.map true i)):=tL g (.inr (.inr ⟨_,_,_,rfl,rfl⟩));obtain⟨aF,q,y⟩:=tQ j g trivial (o':=.map true i) trivial (fun _ h=>h) (fun _ h=>by cases h) aM r.uK
   (fun aF hi x=>⟨G,clock,n,cK.mono hi (fun _ _=>rfl) _ _ l,x⟩) trivial
  refine⟨aF,q,?_⟩;simp only[aD];exact⟨β.aq b,G,clock,y,n,cK.mono q.bQ (fun _ _=>rfl) _ _ l,f⟩
 |b7=>simp[kJ]at d
 |func=>simp[kJ]at d
 |st=>simp[kJ]at d
 |aC=>simp[kJ]at d
end
section
variable{P:b4}{ag:ck->Bool}{n N:Nat}
theorem CR{w:cc}{β:Bd}{ah:Nat->Prop}:∀{e:List AV}{g:List PV}{H H1:aj}{ad:Nat->Prop}{vs:List b5},mZ H e=some (g,H1)->bV P w ad β H ah->
 bI P w ad β H e vs->aS (aJ H) e->∃aF,bZ P ah ad w β H aF w β H1/\bK P w aF g vs
 |[],g,H,H1,ad,vs,b,h,c,_=>by
  simp[mZ]at b;obtain⟨rfl,rfl⟩:=b;simp only[bI]at c;exact⟨ad,bZ.refl h,by simpa[bK]using c⟩
 |a::e,g,H,H1,ad,vs,b,h,c,f=>by
  simp only[mZ]at b
  split at b
  case h_2=>simp at b
  rename_i v o j
  split at b
  case h_2=>simp at b
  rename_i r p k;simp at b;obtain⟨rfl,rfl⟩:=b;simp only[bI]at c;obtain⟨y,n,rfl,k1,k2⟩:=c;simp only[aS]at f;obtain⟨q,d,l⟩:=K3 j h k1 f.1;obtain⟨i,q1,m⟩:=CR k d.rel (bI.mono d.bQ (fun _ _=>rfl) d.step _ _ f.2 k2) (aS.mono d.fy _ f.2);refine⟨i,d.trans q1,?_⟩;simp only[bK];exact⟨y,n,rfl,aD.mono q1.bQ (fun _ _=>rfl) _ _ l,m⟩
def kZ(P:b4)(n N:Nat)(fr:cx)(k:List Item)(cs:List cx)(c:Array Oper)(ah ad:Nat->Prop)(w:cc)(β:Bd)(H:aj)(m:c9)(r:List Nat)(b:List ce)(K:St->Prop):Prop:=
 ∃s' aF aK a w',K s'/\da P m (lone (bD fr a b (.inRegion c r::k)) cs w')/\cN P n ah aF aK s' a w'/\dS N ah ad w β H ah aF w' aK s'.heap
theorem UQ{d:Bool}{o:Oper}{K:St->Prop}{s:St}(h:kg P ag d o K s)(c:Call):o.op≠.defer c:=by
 intro hc;unfold kg at h;rw[hc]at h;simp[fT,hc]at h
variable{fr:cx}{k:List Item}{cs:List cx}{ops:Array Oper}{i:Nat}{r:List Nat}{ds:List ce}
theorem J1{d:Bool}{o:Oper}{f:cv}{F:Array cv}{Z:Array cb}{g:ck}{fi ca:List AV}{K:St->Prop}{s:St}{ah ad:Nat->Prop}{β:Bd}{t:Array b5}{w:cc}
 (W:o.op=.call {callee:=.value f,args:=F,argTypes:=Z})
 (hf:(ev s.env f=.func g fi ca)\/(∃a b,ev s.env f=.p (.func g a b)/\fi=a.map .p/\ca=b.map .p))
 (h:iy P d g (fi++F.toList.map (ev s.env)++ca) s.heap (fun v H'=>K ⟨put o.dst v s.env,H'⟩))
 (m:cN P n ah ad β s t w)(G:jy n o=true)(C:ops[i]?=some o)(M:dq o (yielded ops t)=true):
 kZ P n N fr k cs ops ah ad w β s.heap (lone (bD fr t ds (.inRegion ops (i::r)::k)) cs w) r ds K:=by
 have E:=oK m f;obtain⟨y,u,am,ak,ai,aq,ap⟩:∃y u:List b5,fU t f=.func (.func g) y.toArray u.toArray/\bI P w ad β s.heap fi y/\bI P w ad β s.heap ca u/\aS (aJ s.heap) fi/\aS (aJ s.heap) ca:=by
  rcases hf with hf|⟨a,b,hf,rfl,rfl⟩
  ·rw[hf]at E;simp only[aB,aE]at E;obtain⟨⟨y,u,l,j,z⟩,ab,ac⟩:=E;exact⟨y,u,z,l,j,ab,ac⟩
  ·rw[hf]at E;simp only[aB,aD]at E;obtain⟨⟨y,u,l,j,z⟩,_⟩:=E;exact⟨y,u,z,jV.2 l,jV.2 j,ju _ _,ju _ _⟩
 obtain⟨af,ag⟩:=wA m F.toList;have D:=rp (rp ak af) ai;have Q:=kn (kn aq ag) ap;have q:(c6 (fU t) o).run P w=(callFunc g (y++F.toList.map (fU t)++u).toArray).run P w:=by
  simp only[c6,W,resolve,am,dp,Sem.run_bind,Sem.run_pure,Result.andThen_ok,invoke];congr 2;simp
 have L:∀c,o.op≠.defer c:=fun c hc=>by rw[W]at hc;cases hc
 have pure:∀(H1:aj)(B:Nat->Prop)(vs:List PV)(v:PV),bZ P ah ad w β s.heap B w β H1->bK P w B vs (y++F.toList.map (fU t)++u)->au P g vs v->
  K ⟨put o.dst (.p v) s.env,H1⟩->kZ P n N fr k cs ops ah ad w β s.heap (lone (bD fr t ds (.inRegion ops (i::r)::k)) cs w) r ds K:=by
  intro H1 B vs v A Y I U;rcases I with⟨R,I⟩|I
  ·rw[R]at q;obtain⟨e,w',S,⟨O,aF,H,g1,g2,g3,g4,g5,aa,g6⟩,aM,V,J⟩:=I w B _ A.rel.bQ A.rel.iT Y (bD fr t ds (.inRegion ops (i::r)::k)::cs);subst H;have X:=A.trans (A.rel.later g1 g2 g3 g4 g5 aa);refine⟨_,aF,β,_,w',U,?_,m.put G X (by simpa[aB]using g6) (by simp[aE]),X.fC⟩;rw[<-n8 C];exact(dz (vY C M L q)).trans (ea aM (.one (cy J)))
  ·obtain⟨O,l,j⟩:=I w B _ Y;rw[l]at q;exact⟨_,B,β,_,w,U,.one (tO C M L q (.inl rfl)),m.put G A (by simpa[aB]using j) (by simp[aE]),A.fC⟩
 rcases h with⟨vs,v,l,j,z⟩|⟨_,⟨vs,H1,v,l,j,z⟩|⟨H',v,⟨R,l⟩,j⟩|⟨e,T,ao,j⟩|⟨al,v,ae,an,j⟩⟩
 ·exact pure s.heap ad vs v (bZ.refl m.heap) (by rw[l]at D;exact jV.1 D) j z
 ·obtain⟨B,ar,av⟩:=CR l m.heap D Q;exact pure H1 B vs v ar av j z
 ·rw[R]at q;obtain⟨e,w',S,⟨O,aK,aF,H,g1,g2,g3⟩,aM,V,J⟩:=l w ad ah β _ m.heap D Q (bD fr t ds (.inRegion ops (i::r)::k)::cs);subst H;refine⟨_,aF,aK,_,w',j,?_,m.put G g1 g2 g3,g1.fC⟩;rw[<-n8 C];exact(dz (vY C M L q)).trans (ea aM (.one (cy J)))
 ·rw[T.1]at q;obtain⟨x,w',S,⟨O,aK,aF,H,g1,g2,g3⟩,aM,V,J⟩:=T.use ao m.heap D Q (bD fr t ds (.inRegion ops (i::r)::k)::cs);subst H;refine⟨_,aF,aK,_,w',j,?_,m.put G g1 g2 g3,g1.fC⟩;rw[<-n8 C];exact(dz (vY C M L q)).trans (ea aM (.one (cy J)))
 ·obtain⟨O,l,z⟩:=ae s.heap w ad ah β _ m.heap D Q an;rw[l]at q;have A:=bZ.refl m.heap;exact⟨_,ad,β,_,w,j,.one (tO C M L q (.inl rfl)),m.put G A (by simpa[aB]using z) (by simp[aE]),A.fC⟩
end
end Go.ak
namespace Go.ak
variable[Gl]
section
variable{P:b4}{ag:ck->Bool}{n N:Nat}
variable{fr:cx}{k:List Item}{cs:List cx}{ops:Array Oper}{i:Nat}{r:List Nat}{ds:List ce}
theorem U9{o:Oper}{f:cv}{a:Array cv}{p:Array cb}{b:Nat}{H':aj}{v:AV}{K:St->Prop}{s:St}{ah ad:Nat->Prop}{β:Bd}{t:Array b5}{w:cc}
 (l:o.op=.call {callee:=.value f,args:=a,argTypes:=p})(hf:ev s.env f=.map b)(m:fJ P b s.heap (a.toList.map (ev s.env)) H' v)(x:K ⟨put o.dst v s.env,H'⟩)
 (d:cN P n ah ad β s t w)(A:jy n o=true)(j:ops[i]?=some o)(D:dq o (yielded ops t)=true):
 kZ P n N fr k cs ops ah ad w β s.heap (lone (bD fr t ds (.inRegion ops (i::r)::k)) cs w) r ds K:=by
 have e:=(oK d f).1;rw[hf]at e;simp only[aB,bO,bS]at e;have B:=e.2.2 m.1;obtain⟨y,z⟩:=wA d a.toList;have h:(c6 (fU t) o).run P w=(Instr.yield (β.aq b) (a.toList.map (fU t)).toArray).run P w:=by
  simp only[c6,l,resolve,B,dp,Sem.run_bind,Sem.run_pure,Result.andThen_ok,invoke];congr 2;exact Array.ext' (by simp)
 have C:∀c,o.op≠.defer c:=fun c hc=>by rw[l]at hc;cases hc
 obtain⟨g,tmps,assign,body,q,u⟩:=m.2 w ad ah β _ d.heap y z;rw[q]at h;obtain⟨E,w',aK,aF,g1,g2,g3,g4⟩:=u (bD fr t ds (.inRegion ops (i::r)::k)) cs;refine⟨_,aF,aK,_,w',x,?_,d.put A g2 g3 g4,g2.fC⟩;rw[<-n8 j];exact(dz (Kc j D C h)).trans g1
theorem Lz(y:mr P ag){d:Bool}{o:Oper}{K:St->Prop}{s:St}{ah ad:Nat->Prop}{β:Bd}{t:Array b5}{w:cc}
 (h:kg P ag d o K s)(a:cN P n ah ad β s t w)(c:jy n o=true)(j:ops[i]?=some o)(l:dq o (yielded ops t)=true):
 kZ P n N fr k cs ops ah ad w β s.heap (lone (bD fr t ds (.inRegion ops (i::r)::k)) cs w) r ds K:=by
 have E:=UQ h;have z:fT P ag o (ev s.env) s.heap (fun e=>K (e.app o.dst s))->kZ P n N fr k cs ops ah ad w β s.heap (lone (bD fr t ds (.inRegion ops (i::r)::k)) cs w) r ds K:=by
  intro h;obtain⟨e,m,hs,al,aL⟩:=y o _ _ _ (fun v=>rfl) h;obtain⟨nx,I,w',aK,aF,A,B,u,C,D⟩:=hs.use a.heap (fun x _=>oK a x) al (fun p F=>(aL p F).1);exact⟨_,aF,aK,_,w',m,.one (tO j l E A B),a.put c u C D,u.fC⟩
 unfold kg at h
 split at h
 ·rename_i f args H q
  split at h
  ·rename_i g fi ca hf;exact J1 q (.inr ⟨fi,ca,hf,rfl,rfl⟩) h a c j l
  ·rename_i g fi ca hf;exact J1 q (.inl hf) h a c j l
  ·rename_i b hf;obtain⟨H',v,G,m⟩:=h;exact U9 q hf G m a c j l
  ·exact h.elim
 ·exact z h
theorem kZ.mono{m:c9}{K a:St->Prop}{ah ad:Nat->Prop}{w:cc}{β:Bd}{H:aj}(h:kZ P n N fr k cs ops ah ad w β H m r ds K)(hk:∀s,K s->a s):kZ P n N fr k cs ops ah ad w β H m r ds a:=by
 obtain⟨s',aF,aK,t',w',b,c⟩:=h;exact⟨s',aF,aK,t',w',hk _ b,c⟩
theorem zd{s:St}{ah ad:Nat->Prop}{β:Bd}{t:Array b5}{w:cc}(e:cN P n ah ad β s t w)(l:∀o∈ops.toList,jy n o=true)(j:Nat):
 (∀b,guardOf ops j s.env=.p (.bool b)->yielded ops t j=some b)/\(guardOf ops j s.env=.p (.aC [])->yielded ops t j=none):=by
 unfold guardOf yielded;cases k:ops[j]? with
 |none=>simp
 |some f=>
  simp only[Option.bind_some];cases g:f.dst with
  |none=>simp
  |some d=>
   simp only[Option.bind_some];have h:d<t.size:=by
    have:=l f (by rw[bv];exact bo k);unfold jy at this;rw[g]at this;rw[e.size];simpa using this
   have a:=e.env d;have i:t[d]?=some (t.getD d undef):=by simp[Array.getD,h]
   rw[i];constructor
   ·intro b c;rw[c]at a;simp only[aB,aD]at a;rw[a]
   ·intro c;rw[c]at a;simp only[aB,aD,bK]at a;obtain⟨xs,rfl,a⟩:=a;rw[a]
theorem KA(f:mr P ag){d:Bool}(x:∀o∈ops.toList,jy n o=true):∀(l:List Oper)(i:Nat){K:St->Prop}{s:St}{ah ad:Nat->Prop}{β:Bd}{t:Array b5}{w:cc},
 ops.toList.drop i=l->iA P ag d ops l K s->cN P n ah ad β s t w->
 kZ P n N fr k cs ops ah ad w β s.heap (lone (bD fr t ds (.inRegion ops (fa i l.length)::k)) cs w) [] ds K
 |[],i,K,s,ah,ad,β,t,w,v,h,a=>⟨s,ad,β,t,w,h,eb _ _,a,dS.refl _ _ _ _ _ _⟩
 |o::l,i,K,s,ah,ad,β,t,w,v,h,a=>by
  have e:ops[i]?=some o:=by
   have:(ops.toList.drop i)[0]?=some o:=by rw[v];rfl
   rw[List.getElem?_drop]at this;simpa using this
  have F:ops.toList.drop (i+1)=l:=by
   rw[<-gm,v];rfl
  have u:jy n o=true:=x o (by rw[bv];exact bo e);have g:∀{ah ad w β H}{m:c9},kZ P n N fr k cs ops ah ad w β H m (fa (i+1) l.length) ds (iA P ag d ops l K)->kZ P n N fr k cs ops ah ad w β H m [] ds K:=by
   intro ah ad w β H m E;obtain⟨s',aF,aK,L,w',A,B,C,D⟩:=E;obtain⟨s2,z,J,t2,I,g1,g2,g3,g4⟩:=KA f x l (i+1) F A C;exact⟨s2,z,J,t2,I,g1,B.trans g2,g3,D.trans g4⟩
  rw[e9,List.range'_succ]
  have skip:iA P ag d ops l K ⟨put o.dst (.p (.aC [])) s.env,s.heap⟩->dq o (yielded ops t)=false->
   kZ P n N fr k cs ops ah ad w β s.heap (lone (bD fr t ds (.inRegion ops (i::fa (i+1) l.length)::k)) cs w) [] ds K:=by
   intro hk G;refine g ⟨_,ad,β,_,w,hk,.one (KL e G),a.put u (bZ.refl a.heap) (by simp[aB,aD,bK,undef]) (by simp[aE]),dS.refl _ _ _ _ _ _⟩
  simp only[iA]at h
  split at h
  ·rename_i c;exact g (Lz f h a u e (by simp[dq,c]))
  ·rename_i j M c;obtain⟨g1,g2⟩:=zd a x j
   split at h
   ·rename_i b q;have y:=g1 b q
    split at h
    ·rename_i r;exact g (Lz f h a u e (by simp[dq,c,y,r]))
    ·rename_i r;exact skip h (by simp[dq,c,y,r])
   ·rename_i q;exact skip h (by simp[dq,c,g2 q])
   ·exact h.elim
theorem aJZ{H:aj}{b v:Nat}(h:H[b]?=none\/H[b]?=some .hole):¬aJ H (b,v):=by
 rintro⟨o,a,c⟩;rcases h with h|h
 ·simp only at a;rw[h]at a;cases a
 ·simp only at a;rw[h]at a;cases a;exact c
theorem qo.step{s s':St}{β:Bd}(hf:qo s s'):cz β s.heap β s'.heap:=by
 refine⟨?_,?_,?_,?_,?_⟩
 ·rintro b _ ⟨fz,t,a⟩;rcases hf.heap b _ a with h|h|⟨_,k,z,h,_⟩|⟨v,v',h,_,_⟩
  ·cases h
  ·exact⟨⟨fz,t,h⟩,rfl⟩
  ·cases h
  ·exact⟨⟨_,_,h⟩,rfl⟩
 ·rintro b _ ⟨fz,t,a⟩;rcases hf.heap b _ a with h|h|⟨_,k,z,h,_⟩|⟨v,v',_,h,_⟩
  ·cases h
  ·exact⟨⟨fz,t,h⟩,rfl⟩
  ·cases h
  ·cases h
 ·rintro b _ ⟨fz,t,a⟩;rcases hf.heap b _ a with h|h|⟨_,k,z,h,_⟩|⟨v,v',_,h,_⟩
  ·cases h
  ·exact⟨⟨fz,t,h⟩,rfl⟩
  ·cases h
  ·cases h
 ·intro b aA ai k c hi a;rcases hf.heap b _ a with h|h|⟨d,_⟩|⟨v,v',_,h,_⟩
  ·cases h
  ·exact⟨k,c,h,gx _,eq,fun _=>⟨rfl,rfl⟩⟩
  ·exact(aJZ d hi).elim
  ·cases h
 ·rintro b _ ⟨L,a⟩;rcases hf.heap b _ a with h|h|⟨_,k,z,h,_⟩|⟨v,v',_,h,_⟩
  ·cases h
  ·exact⟨⟨L,h⟩,rfl⟩
  ·cases h
  ·cases h
section aAu
variable{w:cc}{ad:Nat->Prop}{β:Bd}{T:aj}
theorem PN{b aA ai off len:Nat}(h:aA=0/\off=0/\len=0/\∃k z,T[b]?=some (.arr k 0 z [])/\k.gr=true):bO P β T (.sl b aA ai off len) (.slice none 0 0):=by
 obtain⟨rfl,rfl,rfl,k,z,c,d⟩:=h;refine⟨by simp[ec],fun f e a=>?_⟩;unfold fI at a;rw[c]at a;cases a;exact⟨by simp,fun _=>rfl,fun h=>(h ⟨d,rfl⟩).elim⟩
mutual
theorem gw.cells:∀(v:PV)(x:AV)(cs:List b5),gw T v x->aU P w ad v cs->bu P w ad β T x cs
 | .aH,x,cs,h,hc=>by
  simp only[gw]at h;rcases h with rfl|h
  ·simpa only[bu]using hc
  ·cases x<;>simp only at h<;>try exact h.elim
   simp only[aU]at hc;simp only[bu];exact⟨_,hc,PN h⟩
 | .st u fs,x,cs,h,hc=>by
  simp only[gw]at h;rcases h with rfl|h
  ·simpa only[bu]using hc
  ·cases x<;>simp only at h<;>try exact h.elim
   obtain⟨rfl,h⟩:=h;simp only[aU]at hc;obtain⟨l,a,d,e,f⟩:=hc;simp only[bu];exact⟨l,a,d,lN.cells l fs _ a h e,f⟩
 | .undef,x,cs,h,hc| .bool _,x,cs,h,hc| .int _ _,x,cs,h,hc| .str _,x,cs,h,hc| .dR,x,cs,h,hc| .cm _,x,cs,h,hc| .cT _ _,x,cs,h,hc| .seq _,x,cs,h,hc| .fF,x,cs,h,hc| .eB _,x,cs,h,hc| .func _ _ _,x,cs,h,hc| .iU,x,cs,h,hc| .gO,x,cs,h,hc| .aC _,x,cs,h,hc=>by
  simp only[gw]at h;subst h;simpa only[bu]using hc
theorem lN.cells:∀(l:List Nat)(fs:List PV)(b:List AV)(a:List (List b5)),lN T fs b->bk P w ad l fs a->bM P w ad β T l b a
 |l,[],b,a,h,hc=>by
  simp only[lN]at h;subst h;cases l<;>simp_all [bM,bk]
 |l,v::vs,b,a,h,hc=>by
  cases b with
  |nil=>simp[lN]at h
  |cons g b=>
   simp only[lN]at h;cases l with
   |nil=>simp[bk]at hc
   |cons n l=>
    simp only[bk]at hc;obtain⟨c,cs,d,e,f,i⟩:=hc;simp only[bM];exact⟨c,cs,d,gw.cells v g c h.1 e,f,lN.cells l vs b cs h.2 i⟩
end
theorem gw.FF(v:PV)(x:AV)(y:b5)(h:gw T v x)(hc:aD P w ad v y):aB P w ad β T x y:=by
 cases v
 case aH=>
  simp only[gw]at h;rcases h with rfl|h
  ·simpa only[aB]using hc
  ·cases x<;>simp only at h<;>try exact h.elim
   simp only[aD]at hc;subst hc;simp only[aB];exact PN h
 case st u fs=>
  simp only[gw]at h;rcases h with rfl|h
  ·simpa only[aB]using hc
  ·cases x<;>simp only at h<;>try exact h.elim
   obtain⟨rfl,h⟩:=h;simp only[aD]at hc;obtain⟨l,a,b,c,d⟩:=hc;simp only[aB];exact⟨l,a,b,lN.cells l fs _ a h c,d⟩
 all_goals simp only[gw]at h;subst h;simpa only[aB]using hc
mutual
theorem Gh.cells:∀(v x:AV)(cs:List b5),Gh T v x->bu P w ad β T v cs->bu P w ad β T x cs
 | .p v,x,cs,h,hc=>by simp only[Gh]at h;simp only[bu]at hc;exact gw.cells v x cs h hc
 | .st u fs,x,cs,h,hc=>by
  simp only[Gh]at h;cases x<;>simp only at h<;>try exact h.elim
  obtain⟨rfl,h⟩:=h;simp only[bu]at hc⊢;obtain⟨l,a,d,e,f⟩:=hc;exact⟨l,a,d,ng.cells l fs _ a h e,f⟩
 | .ptr _ _,x,cs,h,hc| .b7 _ _ _ _ _,x,cs,h,hc| .sl _ _ _ _ _,x,cs,h,hc| .map _,x,cs,h,hc| .func _ _ _,x,cs,h,hc| .aC _,x,cs,h,hc=>by simp only[Gh]at h;subst h;exact hc
theorem ng.cells:∀(l:List Nat)(fs b:List AV)(a:List (List b5)),ng T fs b->bM P w ad β T l fs a->bM P w ad β T l b a
 |l,[],b,a,h,hc=>by simp only[ng]at h;subst h;exact hc
 |l,v::vs,b,a,h,hc=>by
  cases b with
  |nil=>simp[ng]at h
  |cons g b=>
   simp only[ng]at h;cases l with
   |nil=>simp[bM]at hc
   |cons n l=>
    simp only[bM]at hc⊢;obtain⟨c,cs,d,e,f,i⟩:=hc;exact⟨c,cs,d,Gh.cells v g c h.1 e,f,ng.cells l vs b cs h.2 i⟩
end
theorem Gh.FF(v x:AV)(y:b5)(h:Gh T v x)(hc:aB P w ad β T v y):aB P w ad β T x y:=by
 cases v
 case p v=>simp only[Gh]at h;simp only[aB]at hc;exact gw.FF v x y h hc
 case st u fs=>
  simp only[Gh]at h;cases x<;>simp only at h<;>try exact h.elim
  obtain⟨rfl,h⟩:=h;simp only[aB]at hc⊢;obtain⟨l,a,b,c,d⟩:=hc;exact⟨l,a,b,ng.cells l fs _ a h c,d⟩
 all_goals simp only[Gh]at h;subst h;exact hc
theorem gw.aI{v:PV}{x:AV}(h:gw T v x):aa x=ak.aI v:=by
 cases v
 case aH=>
  simp only[gw]at h;rcases h with rfl|h
  ·rfl
  ·cases x<;>simp only at h<;>first|exact h.elim|rfl
 case st u fs=>
  simp only[gw]at h;rcases h with rfl|h
  ·rfl
  ·cases x<;>simp only at h<;>try exact h.elim
   simp[aa,ak.aI,h.1]
 all_goals simp only[gw]at h;subst h;rfl
theorem Gh.aI{v x:AV}(h:Gh T v x):aa x=aa v:=by
 cases v
 case p v=>simp only[Gh]at h;exact h.aI
 case st u fs=>
  simp only[Gh]at h;cases x<;>simp only at h<;>try exact h.elim
  simp[aa,h.1]
 all_goals simp only[Gh]at h;subst h;rfl
end aAu
theorem de.fC{s s':St}{β:Bd}{ah ad:Nat->Prop}{w:cc}(hf:de N s s'):dS N ah ad w β s.heap ah ad w β s'.heap:=by
 rcases hf with rfl|hf
 ·exact dS.refl _ _ _ _ _ _
 ·exact⟨fun _ h=>h,fun _ h=>h,fun _ h=>.inl h,Ext.refl _ _ _,hf.1.step.n,fun x a⟨o,e,d⟩=>⟨o,by rw[hf.2 _ a];exact e,d⟩,fun b a⟨L,c⟩=>⟨L,by rw[hf.2 _ a];exact c⟩⟩
theorem qo.rel{s s':St}{ah ad:Nat->Prop}{β:Bd}{t:Array b5}{w:cc}(hf:qo s s')(h:cN P n ah ad β s t w):cN P n ah ad β s' t w:=by
 have aM:cz β s.heap β s'.heap:=hf.step;refine⟨⟨?_,?_,hf.hrefs,h.heap.bQ,h.heap.eC,h.heap.iT⟩,fun x=>?_,hf.gZ,h.size⟩
 ·intro b o E;rcases hf.heap b o E with rfl|g|⟨_,k,z,rfl,hk⟩|⟨v,v',g,rfl,r⟩
  ·trivial
  rotate_left
  ·exact .inl ⟨hk,rfl⟩
  ·have d:=h.heap.cM b _ g;have i:=h.heap.refs b _ g;obtain⟨cs,T,a,c,e,q,C⟩:=d;exact⟨cs,T,a,Gh.cells _ _ _ r (bu.mono (fun _ x=>x) (fun _ _=>rfl) aM _ _ i c),e,(fun h=>by cases h),by rw[r.aI];exact C⟩
  ·have d:=h.heap.cM b o g;have i:=h.heap.refs b o g;cases o with
   |hole=>trivial
   |dead=>trivial
   |box fz t=>
    obtain⟨cs,T,a,c,e⟩:=d;exact⟨cs,T,a,bu.mono (fun _ x=>x) (fun _ _=>rfl) aM _ _ i c,e⟩
   |arr k aA ai es=>
    rcases d with d|⟨cs,T,B,rest,a,c,e⟩
    ·exact .inl d
    ·exact .inr ⟨cs,T,B,rest,a,bM.mono (fun _ x=>x) (fun _ _=>rfl) aM _ _ _ i c,e⟩
   |map fz es=>exact d
   |dG s pos=>exact d
   |loop L=>
    obtain⟨tmps,defers,fn,a,c,e,q⟩:=d;exact⟨tmps,defers,fn,a,c,fun x=>aB.mono (fun _ x=>x) (fun _ _=>rfl) aM _ _ (i x) (e x),q⟩
 ·intro x y H I a c m p D f;have A:∀{z:Nat}{o:Obj},s'.heap[z]?=some o->o.live->∃o',s.heap[z]?=some o'/\o'.live:=by
   intro z o j l;rcases hf.heap z o j with rfl|j|⟨_,k,_,rfl,hk⟩|⟨v,v',j,_,_⟩
   ·exact l.elim
   ·exact⟨o,j,l⟩
   ·exact(l ⟨hk,rfl⟩).elim
   ·exact⟨_,j,trivial⟩
  obtain⟨F,a,m⟩:=A a m;obtain⟨G,c,p⟩:=A c p;exact h.heap.inj x y F G a c m p D f
 ·have u:=aB.mono (fun _ x=>x) (fun _ _=>rfl) aM _ _ (h.gZ x) (h.env x);rcases hf.env x with f|f|f
  ·rw[f];exact u
  ·rw[f];simp[aB,aD]
  ·exact Gh.FF _ _ _ f u
theorem de.rel{s s':St}{ah ad:Nat->Prop}{β:Bd}{t:Array b5}{w:cc}(hf:de N s s')(h:cN P n ah ad β s t w):cN P n ah ad β s' t w:=by
 rcases hf with rfl|hf
 ·exact h
 ·exact hf.1.rel h
def nN(P:b4)(fr:cx)(k:List Item)(cs:List cx)(m:c9)(t:Array b5)(ds:List ce)(w:cc):bA->Prop
 | .normal=>da P m (lone (bD fr t ds k) cs w)
 | .exit id=>∃a,exitTo id a=exitTo id k/\da P m (lone (bD fr t ds (.code (.exit id)::a)) cs w)
 | .ret=>∃a,da P m (lone (bD fr t ds (.code .ret::a)) cs w)
theorem nN.of_steps{m f:c9}{t:Array b5}{ds:List ce}{w:cc}{e:bA}(h:da P m f)(c:nN P fr k cs f t ds w e):nN P fr k cs m t ds w e:=by
 cases e with
 |normal=>exact h.trans c
 |exit id=>obtain⟨d,a,b⟩:=c;exact⟨d,a,h.trans b⟩
 |ret=>obtain⟨d,b⟩:=c;exact⟨d,h.trans b⟩
def mark(r:Nat):ce:={target:=.collected r,args:=#[]}
def Marks(fr:cx)(ah:Nat->Prop)(w:cc)(kN aF:Nat->Prop)(w':cc)(b c:List ce):Prop:=
 ∃a:List Nat,c=a.map mark++b/\a.Nodup/\(∀r∈a,w.heap.size<=r/\kN r/\¬aF r/\w'.heap[r]?=some (.deferred (some [])))/\(∀k,kN k->ah k\/k∈a)/\(fr.roundOf.isSome=true->a=[])
theorem Marks.refl(fr:cx)(ah aF:Nat->Prop)(w w':cc)(ds:List ce):Marks fr ah w ah aF w' ds ds:=⟨[],rfl,List.nodup_nil,by simp,fun _ h=>.inl h,fun _=>rfl⟩
theorem Marks.trans{fr:cx}{N:Nat}{ah ad d e g f:Nat->Prop}{w w1 l:cc}{β p B:Bd}{H H1 q:aj}{ds m n:List ce}(h:Marks fr ah w d e w1 ds m)(i:dS N ah ad w β H d e w1 p H1)
 (s:Marks fr d w1 g f l m n)(j:dS N d e w1 p H1 g f l B q):Marks fr ah w g f l ds n:=by
 obtain⟨rs,rfl,t,o,u,v⟩:=h;obtain⟨A,rfl,g2,g3,g4,g5⟩:=s;refine⟨A++rs,by simp,?_,?_,?_,fun hx=>by simp[v hx,g5 hx]⟩
 ·rw[List.nodup_append];refine⟨g2,t,fun a i b y x=>?_⟩;subst x;have C:=(g3 a i).1;have D:=(bl.1 (o a y).2.2.2).1;omega
 ·intro r c;rcases gj.1 c with c|c
  ·obtain⟨k1,k2⟩:=g3 r c;exact⟨gy i.ext.size k1,k2⟩
  ·obtain⟨k1,k2,k3,k4⟩:=o r c;exact⟨k1,j.eC _ k2,fun hx=>(j.fresh _ hx).elim k3 (fun z=>z k2),(j.ext.same _ (.inl k2)).trans k4⟩
 ·intro k hk;rcases g4 k hk with hk|hk
  ·rcases u k hk with hk|hk
   ·exact .inl hk
   ·exact .inr (by simp[hk])
  ·exact .inr (by simp[hk])
def sv(N:Nat)(fr:cx)(β:Bd)(H:aj):Prop:=∀l,fr.roundOf=some l->∃b,b<N/\iv H b/\β.aq b=l
theorem sv.fC{fr:cx}{β aK:Bd}{H H':aj}{ah ad kN aF:Nat->Prop}{w w':cc}(h:sv N fr β H)(e:dS N ah ad w β H kN aF w' aK H'):sv N fr aK H':=by
 intro l i;obtain⟨b,a,c,f⟩:=h l i;have d:=e.loop b a c;obtain⟨L,g⟩:=c;exact⟨b,a,d,((e.step.loop b a ⟨_,g,trivial⟩ d).2).trans f⟩
def rC(P:b4)(n N:Nat)(fr:cx)(k:List Item)(cs:List cx)(ah ad:Nat->Prop)(w:cc)(β:Bd)(H:aj)(m:c9)(c:List ce)(Q:bA->St->Prop):Prop:=
 ∃e s' kN aF aK b w' a,Q e s'/\nN P fr k cs m b a w' e/\cN P n kN aF aK s' b w'/\dS N ah ad w β H kN aF w' aK s'.heap/\Marks fr ah w kN aF w' c a
theorem rC.of{k:List Item}{ah ad:Nat->Prop}{w:cc}{β:Bd}{H:aj}{m:c9}{ds:List ce}{Q:bA->St->Prop}{e:bA}{s':St}{aF:Nat->Prop}{aK:Bd}{a:Array b5}{w':cc}(hq:Q e s')(c:nN P fr k cs m a ds w' e)
 (d:cN P n ah aF aK s' a w')(b:dS N ah ad w β H ah aF w' aK s'.heap):rC P n N fr k cs ah ad w β H m ds Q:=⟨e,s',ah,aF,aK,a,w',ds,hq,c,d,b,Marks.refl _ _ _ _ _ _⟩
theorem rC.next{k:List Item}{ah ad b a:Nat->Prop}{w w1:cc}{β g:Bd}{H H1:aj}{m f:c9}{c d:List ce}{Q:bA->St->Prop}(e:dS N ah ad w β H b a w1 g H1)(o:Marks fr ah w b a w1 c d)(aM:da P m f)
 (h:rC P n N fr k cs b a w1 g H1 f d Q):rC P n N fr k cs ah ad w β H m c Q:=by
 obtain⟨e2,s2,j,i,q,t2,p,l,g1,g2,g3,g4,g5⟩:=h;exact⟨e2,s2,j,i,q,t2,p,l,g1,.of_steps aM g2,g3,e.trans g4,o.trans e g5 g4⟩
def codeOk(fit:Nat->Array Oper->Bool)(n:Nat):Code->Bool
 | .region _ ops draw=>ops.toList.all (jy n)&&(!draw||fit n ops)
 | .seq a b=>codeOk fit n a&&codeOk fit n b
 | .cond _ a b=>codeOk fit n a&&codeOk fit n b
 | .block _ b| .scope b| .loop b=>codeOk fit n b
 | .rangeFunc _ _ a b=>codeOk fit n a&&codeOk fit n b
 |_=>true
def tZ(P:b4)(ag:ck->Bool)(fit:Nat->Array Oper->Bool):Prop:=
 ∀(n N:Nat)(a:Array Oper)(fr:cx)(k:List Item)(cs:List cx)(b:List ce)(c:Nat)(K:St->Prop)(s:St)(ah ad:Nat->Prop)(β:Bd)(t:Array b5)(w:cc),
  fit n a=true->(∀o∈a.toList,jy n o=true)->gK P ag a a.toList 0 [] K s->cN P n ah ad β s t w->
  kZ P n N fr k cs a ah ad w β s.heap (lone (bD fr t b (.inRegion a (dx (P.follows .mixedOrders) a c)::k)) cs w) [] b K
theorem cN.draw{s:St}{ah ad:Nat->Prop}{β:Bd}{t:Array b5}{w w':cc}(a:w'.heap=w.heap)(h:cN P n ah ad β s t w):cN P n ah ad β s t w':=
 ⟨h.heap.zn a,fun x=>aB.mono (fun _ x=>x) (fun _ _=>by rw[a]) (cz.refl _ _) _ _ (h.gZ x) (h.env x),h.gZ,h.size⟩
section rf
variable{w w':cc}{ad ah:Nat->Prop}{β:Bd}{H:aj}
theorem bV.Lu(h:bV P w ad β H ah){x:Nat}(hx:x<w.heap.size)(v:∀(b:Nat)(o:Obj),H[b]?=some o->o.live->β.aq b≠x):bV P w ad β H (fun k=>ah k\/k=x):=by
 refine⟨fun b o l=>?_,h.inj,h.refs,h.bQ,fun k hk=>hk.elim (h.eC k) (fun e=>e▸hx),h.iT⟩;have held:∀fz,o.live->cJ ad β ah fz b->cJ ad β (fun k=>ah k\/k=x) fz b:=by
  intro fz j i;unfold cJ at i⊢;cases fz with
  |true=>exact i
  |false=>exact⟨i.1,fun y=>y.elim i.2 (v b o l j)⟩
 have f:=h.cM b o l;cases o with
 |hole=>trivial
 |dead=>trivial
 |box fz t=>obtain⟨cs,T,a,c,d,g⟩:=f;exact⟨cs,T,a,c,held _ trivial d,g⟩
 |arr k aA ai es=>
  rcases f with f|⟨cs,T,m,rest,a,c,d,g,p,q,r,u⟩
  ·exact .inl f
  ·by_cases j:di k es
   ·exact .inl j
   ·exact .inr ⟨cs,T,m,rest,a,c,d,g,p,q,held _ j r,u⟩
 |map fz es=>obtain⟨n,clock,a,c,d⟩:=f;exact⟨n,clock,a,c,held _ trivial d⟩
 |dG s pos=>obtain⟨bs,a,c,d⟩:=f;exact⟨bs,a,c,held _ trivial d⟩
 |loop L=>obtain⟨tmps,defers,fn,a,c,d,g⟩:=f;exact⟨tmps,defers,fn,a,c,d,held _ trivial g⟩
theorem bV.shut(h:bV P w ad β H ah){Prot0:Nat->Prop}(p:∀k,Prot0 k->ah k){R:Nat->Prop}(j:∀x,R x->ah x/\¬ad x)(q:w'.heap.size=w.heap.size)(hs:∀k,¬R k->w'.heap[k]?=w.heap[k]?):bV P w' ad β H Prot0:=by
 have same:∀k,ad k->w'.heap[k]?=w.heap[k]?:=fun k hk=>hs k (fun i=>(j k i).2 hk);refine⟨fun b o n=>?_,h.inj,h.refs,fun k hk=>q▸h.bQ k hk,fun k hk=>q▸h.eC k (p k hk),h.iT.mono (fun _ x=>x) same⟩;have held:∀fz,cJ ad β ah fz b->cJ ad β Prot0 fz b:=by
  intro fz e;unfold cJ at e⊢;cases fz with
  |true=>exact e
  |false=>exact⟨e.1,fun A=>e.2 (p _ A)⟩
 have aq:∀fz,cJ ad β ah fz b->w'.heap[β.aq b]?=w.heap[β.aq b]?:=by
  intro fz e;refine hs _ (fun i=>?_);unfold cJ at e;cases fz with
  |true=>exact(j _ i).2 e
  |false=>exact e.2 (j _ i).1
 have f:=h.cM b o n;have l:=h.refs b o n;cases o with
 |hole=>trivial
 |dead=>trivial
 |box fz t=>obtain⟨cs,T,c,d,a,g⟩:=f;exact⟨cs,T,(aq _ a).trans c,bu.mono (fun _ x=>x) same (cz.refl _ _) _ _ l d,held _ a,g⟩
 |arr k aA ai es=>
  rcases f with f|⟨cs,T,r,rest,c,d,a,g,v,y,m,z⟩
  ·exact .inl f
  ·exact .inr ⟨cs,T,r,rest,(aq _ m).trans c,bM.mono (fun _ x=>x) same (cz.refl _ _) _ _ _ l d,a,g,v,y,held _ m,z⟩
 |map fz es=>obtain⟨u,clock,c,d,a⟩:=f;exact⟨u,clock,(aq _ a).trans c,cK.mono (fun _ x=>x) same _ _ d,held _ a⟩
 |dG s pos=>obtain⟨bs,c,d,a⟩:=f;exact⟨bs,(aq _ a).trans c,d,held _ a⟩
 |loop L=>obtain⟨tmps,defers,fn,c,d,a,g⟩:=f;exact⟨tmps,defers,fn,(aq _ g).trans c,d,fun x=>aB.mono (fun _ x=>x) same (cz.refl _ _) _ _ (l x) (a x),held _ g⟩
theorem LP(H:aj)(o:Obj):(H++er 1 Obj.hole).set H.length o=H++[o]:=by
 rw[fv _ _ (gx _)];simp
theorem MB(a:bV P w ad β H ah){L:ek}{tmps:Array b5}{defers fn:Nat}(h:tmps.size=L.n)(l:∀x,aB P w ad β H (aN L.env x) (tmps.getD x undef))(c:∀x,aE (aJ H) (aN L.env x)):
 bZ P ah ad w β H ad (w.alloc (.loop {state:=L.st,pending:=L.pending,fn,tmps,params:=L.params.toArray,assign:=L.assign,body:=L.body,defers})) (β.at H.length w.heap.size 0) (H++[.loop L]):=by
 have d:bZ P ah ad w β H ad w β (H++er 1 .hole):=⟨fun _ x=>x,fun _ x=>.inl x,Ext.refl _ _ _,rj _ _ _,a.qy _,oD _ _,fun b⟨L,e⟩=>⟨L,by rw[lS,if_pos (eP.1 e).1];exact e⟩⟩
 have f:(H++er 1 Obj.hole)[H.length]?=some .hole:=by rw[lS];simp
 have aM:=(rj β H 1)
 have j:=zx (β:=β) f (.loop L) w.heap.size 0;have hrefs:∀x,aE (aJ ((H++er 1 Obj.hole).set H.length (.loop L))) (aN L.env x):=by
  intro x;rw[LP];exact aE.mono (fun y m=>Lc m) _ (c x)
 have g:=uc (cap:=0) d.rel f (ob:=.loop {state:=L.st,pending:=L.pending,fn,tmps,params:=L.params.toArray,assign:=L.assign,body:=L.body,defers}) (o':=.loop L)
  ⟨tmps,defers,fn,by simp[Bd.at],h,fun x=>aB.mono (fun _ x=>x) (fun k hk=>v8 w _ (a.bQ k hk)) j _ _ (aE.mono (oD _ _) _ (c x)) (aB.mono (fun _ x=>x) (fun _ _=>rfl) aM _ _ (c x) (l x)),?_⟩ hrefs
 ·rw[LP]at g;exact d.trans g
 ·unfold cJ;simp only[b2,if_false,Bd.at,if_true];exact⟨fun hi=>by have:=a.bQ _ hi;omega,fun i=>by have:=a.eC _ i;omega⟩
theorem Dy(g:bV P w ad β H ah){b:Nat}{L:ek}(a:H[b]?=some (.loop L))(st:LoopState)(d:Option Code):
 ∃rec:Loop,w.heap[β.aq b]?=some (.loop rec)/\rec.state=L.st/\rec.pending=L.pending/\rec.params=L.params.toArray/\rec.assign=L.assign/\rec.body=L.body/\rec.tmps.size=L.n/\(∀x,aB P w ad β H (aN L.env x) (rec.tmps.getD x undef))/\
  bZ P ah ad w β H ad (w.putObj (β.aq b) (.loop {rec with state:=st,pending:=d})) β (H.set b (.loop {L with st:=st,pending:=d})):=by
 obtain⟨tmps,defers,fn,m,p,q,c⟩:=g.cM b _ a;refine⟨_,m,rfl,rfl,rfl,rfl,rfl,p,q,?_⟩;have u:=(bl.1 m).1;have r:=(eP.1 a).1;unfold cJ at c;simp only[b2,if_false]at c;have aM:cz β H β (H.set b (.loop {L with st:=st,pending:=d})):=by
  have i:∀(x:Nat)(o:Obj),(H.set b (Obj.loop {L with st:=st,pending:=d}))[x]?=some o->(∀j,o≠Obj.loop j)->H[x]?=some o:=by
   intro x o l v
   by_cases hx:b=x
   ·subst hx;rw[e6 r]at l;cases l;exact(v _ rfl).elim
   ·rwa [ew hx]at l
  refine⟨?_,?_,?_,?_,?_⟩
  ·rintro x _ ⟨f,t,h⟩;exact⟨⟨f,t,i _ _ h (by simp)⟩,rfl⟩
  ·rintro x _ ⟨f,t,h⟩;exact⟨⟨f,t,i _ _ h (by simp)⟩,rfl⟩
  ·rintro x _ ⟨f,t,h⟩;exact⟨⟨f,t,i _ _ h (by simp)⟩,rfl⟩
  ·intro x aA ai k s _ h;exact⟨k,s,i _ _ h (by simp),gx _,eq,fun _=>⟨rfl,rfl⟩⟩
  ·rintro x _ ⟨j,h⟩;refine⟨?_,rfl⟩
   by_cases hx:b=x
   ·subst hx;exact⟨L,a⟩
   ·rw[ew hx]at h;exact⟨j,h⟩
 have al:∀x,aJ H x->aJ (H.set b (Obj.loop {L with st:=st,pending:=d})) x:=mF a (fun _ _=>trivial);have same:∀k,ad k->(w.putObj (β.aq b) (.loop {state:=st,pending:=d,fn,tmps,params:=L.params.toArray,assign:=L.assign,body:=L.body,defers})).heap[k]?=w.heap[k]?:=fun k hk=>ei (fun e=>c.1 (e▸hk));refine bZ.set g r (fun _ _=>⟨rfl,rfl⟩) (fun _ x=>x) (fun _ x=>.inl x) (fun k hk=>by simpa using g.bQ k hk) (by simp)
  (fun k hk _=>ei (hk.resolve_right (fun h=>h trivial))) (fun _=>.inr ⟨rfl,⟨_,a,trivial⟩,.inr c.1,c.2⟩) aM
  ⟨tmps,defers,fn,World.putObj_heap_same u,p,fun x=>aB.mono (fun _ x=>x) same aM _ _ (g.refs b _ a x) (q x),?_⟩ (fun x=>aE.mono al _ (g.refs b _ a x)) (fun _ _ _ _=>trivial) (fun _ _=>⟨_,rfl⟩)
 unfold cJ;simpa using c
end rf
theorem Wm{s:St}{ah ad:Nat->Prop}{β:Bd}{t:Array b5}{w:cc}(c:cN P n ah ad β s t w)(E:sv N fr β s.heap)(e:Array Tmp)(a b:Code)(m:List ce){f:Env}(g:∀x,aN f x=aN s.env x):
 ∃l mk w1 j i,(Instr.enterLoop fr.fn t e a b fr.roundOf).run P w=.ok (l,mk) w1/\bV P w1 ad i (s.heap++[.loop ⟨.ready,none,n,e.toList,a,b,f⟩]) j/\i.aq s.heap.length=l/\
  dS N ah ad w β s.heap j ad w1 i (s.heap++[.loop ⟨.ready,none,n,e.toList,a,b,f⟩])/\Marks fr ah w j ad w1 m (mk++m)/\
  cz β s.heap i (s.heap++[.loop ⟨.ready,none,n,e.toList,a,b,f⟩]):=by
 cases u:fr.roundOf with
 |none=>
  have p:bZ P ah ad w β s.heap ad (w.alloc (.deferred (some []))) β s.heap:=c.heap.later (fun _ x=>x) (fun _ x=>.inl x) (fun k hk=>by have:=c.heap.bQ k hk;rw[ee];omega) (by rw[ee];omega) (fun k hk=>v8 w _ hk);have C:=p.rel.Lu (x:=w.heap.size) (by rw[ee];omega) (fun b o G F g=>by have:=c.heap.ny G F;omega);have d:=MB (L:=⟨.ready,none,n,e.toList,a,b,f⟩) (tmps:=t) (defers:=w.heap.size) (fn:=fr.fn) C c.size (fun x=>by rw[g];exact aB.mono (fun _ x=>x) (fun k hk=>v8 w _ (c.heap.bQ k hk)) (cz.refl _ _) _ _ (c.gZ x) (c.env x)) (fun x=>by rw[g];exact c.gZ x);have B:dS N ah ad w β s.heap (fun k=>ah k\/k=w.heap.size) ad (w.alloc (.deferred (some []))) β s.heap:=⟨fun _ h=>.inl h,fun _ h=>h,fun _ h=>.inl h,p.ext,(cz.refl _ _).n,fun _ _ h=>h,fun _ _ h=>h⟩
  refine⟨_,_,_,_,_,run_enterLoop_outer fr.fn t e a b,d.rel,?_,B.trans d.fC,?_,d.step⟩
  ·simp[Bd.at,ee]
  ·refine⟨[w.heap.size],rfl,by simp,?_,fun k hk=>hk.imp id (fun h=>by simp[h]),by simp[u]⟩;intro r q;simp only[List.mem_singleton]at q;subst q;refine⟨gx _,.inr rfl,fun hi=>by have:=c.heap.bQ _ hi;omega,?_⟩;exact(d.ext.same _ (.inl (.inr rfl))).trans (World.alloc_heap_new w _)
 |some H=>
  obtain⟨v,K,z,A⟩:=E H u;obtain⟨I,D⟩:=z;obtain⟨M,y,J,g1,_⟩:=c.heap.cM v _ D;rw[A]at g1;have d:=MB (L:=⟨.ready,none,n,e.toList,a,b,f⟩) (tmps:=t) (defers:=y) (fn:=fr.fn) c.heap c.size (fun x=>by rw[g];exact c.env x) (fun x=>by rw[g];exact c.gZ x);exact⟨_,_,_,_,_,run_enterLoop_inner g1 fr.fn t e a b,d.rel,by simp[Bd.at],d.fC,Marks.refl _ _ _ _ _ _,d.step⟩
theorem nu(K:mr P ag){fit:Nat->Array Oper->Bool}(J:tZ P ag fit):∀(c:Code)(k:List Item){Q:bA->St->Prop}{s:St}{ah ad:Nat->Prop}{β:Bd}{t:Array b5}{w:cc}{ds:List ce},
 codeOk fit n c=true->cg P ag (n,N) c Q s->cN P n ah ad β s t w->sv N fr β s.heap->rC P n N fr k cs ah ad w β s.heap (lone (bD fr t ds (.code c::k)) cs w) ds Q
 | .skip,k,Q,s,ah,ad,β,t,w,ds,_,h,i,_=>.of h (.one aLo:nN P fr k cs _ t ds w .normal) i (dS.refl _ _ _ _ _ _)
 | .label l,k,Q,s,ah,ad,β,t,w,ds,_,h,i,_=>.of h (.one XT:nN P fr k cs _ t ds w .normal) i (dS.refl _ _ _ _ _ _)
 | .exit id,k,Q,s,ah,ad,β,t,w,ds,_,h,i,_=>.of h (⟨k,rfl,eb _ _⟩:nN P fr k cs _ t ds w (.exit id)) i (dS.refl _ _ _ _ _ _)
 | .ret,k,Q,s,ah,ad,β,t,w,ds,_,h,i,_=>.of h (⟨k,eb _ _⟩:nN P fr k cs _ t ds w .ret) i (dS.refl _ _ _ _ _ _)
 | .region id ops draw,k,Q,s,ah,ad,β,t,w,ds,r,h,i,_=>by
  simp only[codeOk,b3,List.all_eq_true]at r;simp only[cg]at h;cases draw with
  |false=>
   simp only[b2,if_false]at h;obtain⟨s',aF,aK,aw,w',j,q,p,d⟩:=KA (fr:=fr) (k:=k) (cs:=cs) (ds:=ds) (N:=N) K r.1 ops.toList 0 (by simp) h i;refine .of (e:=.normal) j ?_ p d;have e:gt ops.size=fa 0 ops.toList.length:=by rw[List.range_eq_range'];simp
   exact(dz WU).trans ((by rw[e];exact q:da P _ _).trans (.one I8))
  |true=>
   simp only[if_true]at h;have a0:cN P n ah ad β s t {w with drawn:=w.drawn+1}:=cN.draw (w:=w) (w':={w with drawn:=w.drawn+1}) rfl i;obtain⟨s',aF,aK,aw,w',j,q,p,d⟩:=J n N ops fr k cs ds (w.tape w.drawn (.order fr.fn id)) _ s ah ad β t _ (by simpa using r.2) r.1 h a0;exact .of (e:=.normal) j ((dz aLk).trans (q.trans (.one I8)):nN P fr k cs _ aw ds w' .normal) p ⟨d.eC,d.bQ,d.fresh,⟨d.ext.size,d.ext.same,d.ext.io⟩,d.step,d.fy,d.loop⟩
 | .seq a b,k,Q,s,ah,ad,β,t,w,ds,r,h,i,C=>by
  simp only[codeOk,b3]at r;simp only[cg]at h;obtain⟨e,s1,o,B,z,t1,w1,D,j,q,p,d,A⟩:=nu K J a (.code b::k) r.1 h i C;cases e with
  |normal=>exact .next d A ((dz Ee).trans q) (nu K J b k r.2 j p (C.fC d))
  |exit id=>
   obtain⟨E,M,a2⟩:=q;exact⟨.exit id,s1,o,B,z,t1,w1,D,j,⟨E,M.trans (by simp[exitTo]),(dz Ee).trans a2⟩,p,d,A⟩
  |ret=>
   obtain⟨E,a2⟩:=q;exact⟨.ret,s1,o,B,z,t1,w1,D,j,⟨E,(dz Ee).trans a2⟩,p,d,A⟩
 | .cond c a b,k,Q,s,ah,ad,β,t,w,ds,r,h,i,C=>by
  simp only[codeOk,b3]at r;simp only[cg]at h
  split at h
  ·rename_i ax aG;have an:=(oK i c).1;rw[aG]at an;simp only[aB,aD]at an;have aM:=aLj (P:=P) (fr:=fr) (ds:=ds) (k:=k) (cs:=cs) (w:=w) (x:=a) (y:=b) an;cases ax with
   |true=>exact .next (dS.refl N ah ad w β s.heap) (Marks.refl _ _ _ _ _ _) (.one (by simpa using aM)) (nu K J a k r.1 (by simpa using h) i C)
   |false=>exact .next (dS.refl N ah ad w β s.heap) (Marks.refl _ _ _ _ _ _) (.one (by simpa using aM)) (nu K J b k r.2 (by simpa using h) i C)
  ·exact h.elim
 | .block id b,k,Q,s,ah,ad,β,t,w,ds,r,h,i,C=>by
  simp only[codeOk]at r;simp only[cg]at h;obtain⟨e,s1,o,B,z,t1,w1,D,j,q,p,d,A⟩:=nu K J b (.inBlock id::k) r h i C;cases e with
  |normal=>exact⟨.normal,s1,o,B,z,t1,w1,D,j,(dz zE).trans (q.trans (.one Wv)),p,d,A⟩
  |exit ab=>
   obtain⟨E,M,a2⟩:=q;dsimp only at j
   split at j
   ·rename_i hid;subst hid;refine⟨.normal,s1,o,B,z,t1,w1,D,j,(dz zE).trans (a2.trans (.one (aLl ?_))),p,d,A⟩;rw[M];simp[exitTo]
   ·rename_i hid;exact⟨.exit ab,s1,o,B,z,t1,w1,D,j,⟨E,M.trans (by simp[exitTo,g8 hid]),(dz zE).trans a2⟩,p,d,A⟩
  |ret=>
   obtain⟨E,a2⟩:=q;exact⟨.ret,s1,o,B,z,t1,w1,D,j,⟨E,(dz zE).trans a2⟩,p,d,A⟩
 | .scope b,k,Q,s,ah,ad,β,t,w,ds,r,h,i,C=>by
  simp only[codeOk]at r;simp only[cg]at h;obtain⟨e,s1,o,B,z,t1,w1,D,j,q,p,d,A⟩:=nu K J b (.inScope b::k) r h i C;cases e with
  |normal=>exact⟨.normal,s1,o,B,z,t1,w1,D,j,(dz Dh).trans (q.trans (.one Wu)),p,d,A⟩
  |exit ab=>
   obtain⟨E,M,a2⟩:=q;exact⟨.exit ab,s1,o,B,z,t1,w1,D,j,⟨E,M.trans (by simp[exitTo]),(dz Dh).trans a2⟩,p,d,A⟩
  |ret=>
   obtain⟨E,a2⟩:=q;exact⟨.ret,s1,o,B,z,t1,w1,D,j,⟨E,(dz Dh).trans a2⟩,p,d,A⟩
 | .loop b,k,Q,s,ah,ad,β,t,w,ds,r,h,i,C=>by
  simp only[codeOk]at r;simp only[cg]at h;obtain⟨I,⟨m0,t0,hf,hI⟩,a3⟩:=h
  have loop:∀(m:Nat)(u:St)(ah ad:Nat->Prop)(β:Bd)(t:Array b5)(w:cc)(ds:List ce),I m u->cN P n ah ad β u t w->sv N fr β u.heap->
   rC P n N fr k cs ah ad w β u.heap (lone (bD fr t ds (.code b::.inLoop b::k)) cs w) ds Q:=by
   intro m
   induction m using Nat.strongRecOn with
   |_ m a6=>
    intro u ah ad β t w ds hI i C;obtain⟨e,s1,o,B,z,t1,w1,D,j,q,p,d,A⟩:=nu K J b (.inLoop b::k) r (a3 m u hI) i C;cases e with
    |normal=>
     obtain⟨a7,u',aY,ap,ay⟩:=j;have aa:=ap.fC (β:=z) (ah:=o) (ad:=B) (w:=w1);exact .next (d.trans aa) A (ea q (.one WV)) (a6 a7 aY u' o B z t1 w1 D ay (ap.rel p) ((C.fC d).fC aa))
    |exit ab=>
     obtain⟨E,M,a2⟩:=q;exact⟨.exit ab,s1,o,B,z,t1,w1,D,j,⟨E,M.trans (by simp[exitTo]),a2⟩,p,d,A⟩
    |ret=>
     obtain⟨E,a2⟩:=q;exact⟨.ret,s1,o,B,z,t1,w1,D,j,⟨E,a2⟩,p,d,A⟩
  have aa:=hf.fC (β:=β) (ah:=ah) (ad:=ad) (w:=w);exact .next aa (Marks.refl _ _ _ _ _ _) (.one aLm) (loop m0 t0 ah ad β t w ds hI (hf.rel i) (C.fC aa))
 | .rangeFunc f F a b,k,Q,s,ah,ad,β,t,w,ds,r,h,i,C=>by
  simp only[cg]at h;obtain⟨bc,O,aT,h⟩:=h;have X:=oK i f
  obtain⟨g,fi,ca,H,G,aV,aU,aL,ar,aq,Z,v,aW,ae⟩:∃g fi ca,∃H G:List b5,fU t f= .func (.func g) H.toArray G.toArray/\bI P w ad β s.heap fi H/\bI P w ad β s.heap ca G/\aS (aJ s.heap) fi/\aS (aJ s.heap) ca/\
   ∃Z v,cS P g (s.heap++[.loop ⟨.ready,none,n,F.toList,a,b,O⟩]) (fi++[.map s.heap.length]++ca) Z v/\iO s.heap.length s.env Q Z:=by
   unfold jH at h
   split at h
   ·rename_i g fi ca hf;rw[hf]at X;simp only[aB,aD]at X;obtain⟨⟨H,G,j,q,p⟩,_⟩:=X;exact⟨g,_,_,H,G,p,jV.2 j,jV.2 q,ju _ _,ju _ _,h⟩
   ·rename_i g fi ca hf;rw[hf]at X;simp only[aB,aE]at X;obtain⟨⟨H,G,j,q,p⟩,d,A⟩:=X;exact⟨g,fi,ca,H,G,p,j,q,d,A,h⟩
   ·exact h.elim
  obtain⟨l,mk,w1,o,z,e1,e2,e3,e4,e5,af⟩:=Wm (fr:=fr) i C F a b ds aT;obtain⟨aQ,aN⟩:=aW;have al:∀x,aJ s.heap x->aJ (s.heap++[.loop ⟨.ready,none,n,F.toList,a,b,O⟩]) x:=fun x hx=>Lc hx;have am:∀k,ad k->w1.heap[k]?=w.heap[k]?:=fun k hk=>e4.ext.same k (.inr hk);have a4:aB P w1 ad z (s.heap++[.loop ⟨.ready,none,n,F.toList,a,b,O⟩]) (.map s.heap.length) (.func (.yield l) #[] #[]):=by
   simp only[aB,bO,bS];refine⟨by simp[ec],fun V=>?_,fun _=>by rw[e3]⟩;obtain⟨fz,es,V⟩:=V;simp at V
  have a5:aE (aJ (s.heap++[.loop ⟨.ready,none,n,F.toList,a,b,O⟩])) (.map s.heap.length):=by
   simp only[aE];exact⟨.loop ⟨.ready,none,n,F.toList,a,b,O⟩,by simp,trivial⟩
  have aC:=rp (rp (bI.mono (fun _ x=>x) am af _ _ ar aU) (b:=[.map s.heap.length]) (y:=[.func (.yield l) #[] #[]]) (by simp only[bI];exact⟨_,_,rfl,a4,rfl⟩)) (bI.mono (fun _ x=>x) am af _ _ aq aL);have aA:=kn (kn (aS.mono al _ ar) (b:=[.map s.heap.length]) (by simp only[aS];exact⟨a5,trivial⟩)) (aS.mono al _ aq);have aX:(invoke (.fn (.func g) G.toArray) (H.toArray++#[.func (.yield l) #[] #[]])).run P w1=.ok (.enter g (H++[(.func (.yield l) #[] #[]:b5)]++G).toArray) w1:=by
   have:=aQ (H++[(.func (.yield l) #[] #[]:b5)]++G).toArray w1;simp only[invoke];rw[<-this];congr 2;simp
  have a1:(resolve (Act.eval ⟨t,ds⟩) (rangeCall f l) 0).run P w1=.ok (⟨.fn (.func g) G.toArray,H.toArray++#[.func (.yield l) #[] #[]]⟩:ce) w1:=by
   have aj:(Act.eval ⟨t,ds⟩) f=fU t f:=by cases f<;>rfl
   have aO:(rangeCall f l).args.map (Act.eval ⟨t,ds⟩)=#[.func (.yield l) #[] #[]]:=by simp[Act.eval]
   simp only[resolve,aO];simp only[aj,aV,dp];rfl
  have aR:=stepR_rangeFunc (P:=P) (b:=fr) (a:=⟨t,ds⟩) (k:=k) (cs:=cs) (w:=w) (g:=f) (ps:=F) (assign:=a) (body:=b) e1 a1 aX;obtain⟨e,ac,bb,⟨ba,W,T,aj,g1,g2,g3⟩,aM,bd,aZ⟩:=aN w1 ad o z _ e2 aC aA (fr.atR ⟨t,mk++ds⟩ (.inRangeFunc l::k)::cs);subst aj;unfold iO at ae
  split at ae
  case h_2=>exact ae.elim
  rename_i L ao;obtain⟨aI,Y⟩:=ae;obtain⟨rec,au,a8,a9,be,bf,bg,bh,bi,av⟩:=Dy g1.rel ao .exhausted L.pending;have az:aJ (s.heap++[.loop ⟨.ready,none,n,F.toList,a,b,O⟩]) (s.heap.length,0):=⟨.loop ⟨.ready,none,n,F.toList,a,b,O⟩,by simp,trivial⟩
  have aH:W.aq s.heap.length=l:=((g1.step.loop _ az ⟨_,ao⟩).2).trans e3;rw[aH]at au av;have aP:=run_endLoop (P:=P) au (by rw[a8];exact aI);have R:da P (lone (bD fr t ds (.code (.rangeFunc f F a b)::k)) cs w) (lone (bD fr t (mk++ds) ((rec.pending.map Item.code).toList++k)) cs (ac.putObj l (.loop {rec with state:=.exhausted}))):=by
   refine(dz aR).trans (ea aM ?_);refine(dz (cy aZ)).trans ?_;rw[finish_atR_inRangeFunc];exact .one (stepR_endRangeFunc aP)
  have R:da P (lone (bD fr t ds (.code (.rangeFunc f F a b)::k)) cs w) (lone (bD fr t (mk++ds) ((L.pending.map Item.code).toList++k)) cs (ac.putObj l (.loop {rec with state:=.exhausted,pending:=L.pending}))):=by
   rw[<-a9];exact R
  have U:bZ P o ad w1 z (s.heap++[.loop ⟨.ready,none,n,F.toList,a,b,O⟩]) T _ W _:=g1.trans av;have ak:cN P n o T W ⟨s.env,Z.set s.heap.length (.loop {L with st:=.exhausted})⟩ t (ac.putObj l (.loop {rec with state:=.exhausted,pending:=L.pending})):=by
   refine⟨U.rel,fun x=>?_,fun x=>?_,i.size⟩
   ·exact aB.mono U.bQ (fun k hk=>U.ext.same k (.inr hk)) U.step _ _ (aE.mono al _ (i.gZ x)) (aB.mono (fun _ x=>x) am af _ _ (i.gZ x) (i.env x))
   ·exact aE.mono U.fy _ (aE.mono al _ (i.gZ x))
  have ai:dS N ah ad w β s.heap o T (ac.putObj l (.loop {rec with state:=.exhausted,pending:=L.pending})) W (Z.set s.heap.length (.loop {L with st:=.exhausted})):=e4.trans U.fC;have V:Marks fr ah w o T (ac.putObj l (.loop {rec with state:=.exhausted,pending:=L.pending})) ds (mk++ds):=e5.trans e4 (Marks.refl _ _ _ _ _ _) U.fC;unfold jY at Y
  split at Y
  ·rename_i S;rw[S]at R;exact⟨.normal,_,o,T,W,t,_,mk++ds,Y,by rw[S];exact R,ak,ai,V⟩
  ·rename_i id S;rw[S]at R;exact⟨.exit id,_,o,T,W,t,_,mk++ds,Y,⟨k,rfl,by rw[S];exact R⟩,ak,ai,V⟩
  ·rename_i S;rw[S]at R;exact⟨.ret,_,o,T,W,t,_,mk++ds,Y,⟨k,by rw[S];exact R⟩,ak,ai,V⟩
  ·exact Y.elim
 | .goto _,_,_,_,_,_,_,_,_,_,_,h,_,_| .refuse _,_,_,_,_,_,_,_,_,_,_,h,_,_=>by simp[cg]at h
end
end Go.ak
