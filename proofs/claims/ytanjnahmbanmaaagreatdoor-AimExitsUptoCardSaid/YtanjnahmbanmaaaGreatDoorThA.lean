import Derived.Calls
import Derived.Laws.Sem
import Derived.IntWalk
import Derived.Laws.Cells
import Derived.Laws.CopyRow
import Derived.Laws.Entries
import Derived.RangeFuncRecord
import Derived.RangeFuncNested
/- Parts of a proof. -/
set_option linter.unusedSimpArgs false
set_option linter.unusedVariables false
set_option linter.unusedSectionVars false
open Array renaming getElem?_eq_some_iff->bl, mem_of_getElem?->bo, mem_toList_iff->bp, getElem?_push->bv, toList->b0
open BitVec renaming ofInt->b1
open Bool renaming false_eq_true->b2, and_eq_true->b3
open Go renaming Program->b4, Value->b5, TypeId->cb, World->cc, step_lone_go->ce, Deferred->ck, FuncId->cv, Operand->cx, Frame->cy, step_leave_returned->c6, execOp->c9, Machine->da, Steps->db, MapEntry->dg, IntKind->dk, Calls->dl
open Go.Deferred renaming ofValue->dp
open Go.Region renaming wanted->dq, schedule->dx, binds->dy
open Go.Steps renaming one->dz, trans->ea, refl->eb
open Go.Value renaming oneCell'->ec, cells->ed
open Go.World renaming size_alloc->ee, putObj_heap_other->ei, cell?->ej
open Go.stepG renaming exec->em, apply->en, oper->eo
open Iff renaming rfl->eq
open List renaming replicate->ew, getElem?_set_ne->e6, getElem?_eq_some_iff->e7, getElem?_set_self->e8, getElem?_append_left->e9, map_cons->fb, length_cons->fd, range'->fl, getElem?_append_right->fm, mem_or_eq_of_mem_set->fv, length_eq_zero_iff->gb, take_append_drop->gc, set_append_right->ge, mem_of_getElem?->gg, replicate_succ->gi, set_cons_zero->gj, length_append->gm, append_assoc->gt, cons_append->gx, mem_append->gy, drop_drop->g0, range->g7
open Nat renaming le_refl->g8, le_trans->g9, lt_of_lt_of_le->ha, ne_of_lt->hb
open Ne renaming symm->hd
namespace Go.az
set_option linter.unusedSectionVars false
inductive PV where
 |undef
 |bool (b:Bool)
 |int (k:dk) (n:Int)
 |str (s:List Nat)
 |dJ
 |bZ (t:PV)
 |aL
 |cE (full:Bool) (es:List PV)
 |seq (es:List PV)
 |fq
 |eH (es:List (PV×PV))
 |func (f:cv) (first gU:List PV)
 |gW
 |fZ
 |st (u:cb) (fs:List PV)
 |aA (vs:List PV)
 deriving Inhabited
inductive AV where
 |p (v:PV)
 |ptr (b:Nat) (path:List (cb×Nat))
 |bQ (b ar ai i:Nat) (path:List (cb×Nat))
 |sl (b ar ai off len:Nat)
 |map (b:Nat)
 |func (f:cv) (first gU:List AV)
 |st (u:cb) (fs:List AV)
 |aA (vs:List AV)
 deriving Inhabited
inductive AK where|exact|grow|frozen|bytes
 deriving DecidableEq
def AK.gr:AK->Bool
 | .grow| .bytes=>true
 |_=>false
structure dD where
 st:LoopState
 pending:Option Code
 n:Nat
 params:List Tmp
 assign:Code
 body:Code
 env:List (Nat×AV)
inductive Obj where
 |hole
 |dead
 |box (fz:Bool) (t:AV)
 |arr (k:AK) (ar ai:Nat) (es:List AV)
 |map (fz:Bool) (es:List (PV×PV))
 |dc (s:List Nat) (pos:Nat)
 |loop (L:dD)
 deriving Inhabited
abbrev aj:=List Obj
abbrev Env:=List (Nat×AV)
structure St where
 env:Env
 heap:aj
def aN(e:Env)(t:Nat):AV:=
 match e with
 |[]=>.p .undef
 |(k,v)::r=>if t=k then v else aN r t
inductive jd where|bad|leaf|agg (u:cb)
 deriving DecidableEq
def aJ:PV->jd
 | .undef| .aA _=>.bad
 | .st u _=>.agg u
 |_=>.leaf
def ad:AV->jd
 | .p v=>aJ v
 | .aA _=>.bad
 | .st u _=>.agg u
 |_=>.leaf
def bV:PV->List PV
 | .st _ fs=>fs
 |_=>[]
section tables
variable(P:b4)
def du(u:cb):Option (List Nat):=
 match(P.info? u).map (fun i:TypeInfo=>i.desc)with
 |some (.struct fs)=>
  let l:=fs.toList.map fun f=>P.cellsOf f.type
  if l.all (0<·)&&l.sum==P.cellsOf u&&(fs.toList.zipIdx.all fun(f,i)=>f.offset==(l.take i).sum)then some l else none
 |some (.array n e)=>if 0<P.cellsOf e&&n*P.cellsOf e==P.cellsOf u then some (ew n (P.cellsOf e))else none
 |_=>none
def kindOf(T:cb):jd:=
 match P.underlying T with
 |some (.struct _)|some (.array _ _)=>
  if(du P (P.underlyingId T)).isSome&&P.cellsOf T==P.cellsOf (P.underlyingId T)then .agg (P.underlyingId T)else .bad
 |some _=>if P.cellsOf T==1 then .leaf else .bad
 |none=>.bad
def bA:jd->Nat
 | .bad=>0
 | .leaf=>1
 | .agg u=>P.cellsOf u
def jg(u:cb):List cb:=
 match(P.info? u).map (fun i:TypeInfo=>i.desc)with
 |some (.struct fs)=>fs.toList.map (·.type)
 |some (.array n e)=>ew n e
 |_=>[]
end tables
def ofConst:b5->PV
 | .bool b=>.bool b
 | .int k n=>.int k n
 | .string s=>.str (s.data.toList.map (·.toNat))
 | .pointer none=>.dJ
 | .slice none 0 0=>.aL
 | .map none=>.fq
 | .nilFunc=>.gW
 | .nilIface=>.fZ
 |_=>.undef
def n8(P:b4)(a:cb->List b5->Option PV):List cb->List Nat->List b5->Option (List PV)
 |[],[],[]=>some []
 |T::b,s::c,cs=>
  if(cs.take s).length=s then
   match a T (cs.take s),n8 P a b c (cs.drop s)with
   |some v,some vs=>if bA P (aJ v)=s then some (v::vs)else none
   |_,_=>none
  else none
 |_,_,_=>none
def sr(P:b4):Nat->cb->List b5->Option PV
 |0,_,_=>none
 |n+1,T,cs=>
  match kindOf P T with
  | .leaf=>match cs with
   |[c]=>match ofConst c with
    | .undef=>none
    |v=>some v
   |_=>none
  | .agg u=>match du P u with
   |some l=>
    match n8 P (sr P n) (jg P u) l cs with
    |some fs=>some (.st u fs)
    |none=>none
   |none=>none
  | .bad=>none
def yA:b5->jd->Bool
 | .agg _,.agg _=>true
 | .agg _,_=>false
 |_,.agg _=>false
 |_,_=>true
def ch(P:b4)(T:cb):Option PV:=
 match(P.info? T).bind (·.zero)with
 |some z=>if yA z (kindOf P T)then sr P 40 T z.cells.toList else none
 |none=>none
section relation
variable(P:b4)(w:cc)(aa:Nat->Prop)
def gB(al off:Nat)(cs:List b5):Prop:=∀i(h:i<cs.length),w.cell? ⟨al,off+i,none⟩=some cs[i]
mutual
def aV:PV->List b5->Prop
 | .undef,_| .aA _,_=>False
 | .bool b,cs=>cs=[.bool b]
 | .int k n,cs=>cs=[.int k n]
 | .str s,cs=>∃bs:ByteArray,cs=[.string bs]/\s=bs.data.toList.map (·.toNat)
 | .dJ,cs=>cs=[.pointer none]
 | .bZ t,cs=>∃al off ts,aV t ts/\aa al/\gB w al off ts/\cs=[.pointer (some ⟨al,off,none⟩)]
 | .aL,cs=>cs=[.slice none 0 0]
 | .cE full es,cs=>∃al off cap ai a,bg (ew es.length ai) es a/\(es≠[]->aa al)/\gB w al off a.flatten/\
  (full=true->cap=es.length)/\es.length<=cap/\∃sp,(sp=none\/cap=0)/\cs=[.slice (some ⟨al,off,sp⟩) es.length cap]
 | .seq es,cs=>(es=[]/\cs=[.slice none 0 0])\/∃al off cap ai a,bg (ew es.length ai) es a/\(es≠[]->aa al)/\gB w al off a.flatten/\
  es.length<=cap/\∃sp,(sp=none\/cap=0)/\cs=[.slice (some ⟨al,off,sp⟩) es.length cap]
 | .fq,cs=>cs=[.map none]
 | .eH es,cs=>∃r h j,aa r/\w.heap[r]?=some (.map h j)/\cq es h.toList/\cs=[.map (some r)]
 | .func f first gU,cs=>∃i g,bE first i/\bE gU g/\cs=[.func (.func f) i.toArray g.toArray]
 | .gW,cs=>cs=[.nilFunc]
 | .fZ,cs=>cs=[.nilIface]
 | .st u fs,cs=>∃l a,du P u=some l/\bg l fs a/\cs=a.flatten
def bg:List Nat->List PV->List (List b5)->Prop
 |[],[],a=>a=[]
 |n::p,v::vs,a=>∃c cs,a=c::cs/\aV v c/\c.length=n/\bg p vs cs
 |_,_,_=>False
def aB:PV->b5->Prop
 | .undef,_=>True
 | .aA vs,v=>∃d,bE vs d/\v=.tuple d.toArray
 | .st u fs,v=>∃l a,du P u=some l/\bg l fs a/\v=.agg a.flatten.toArray
 | .bool b,v=>v=.bool b
 | .int k n,v=>v=.int k n
 | .str s,v=>∃bs:ByteArray,v=.string bs/\s=bs.data.toList.map (·.toNat)
 | .dJ,v=>v=.pointer none
 | .bZ t,v=>∃al off ts,aV t ts/\aa al/\gB w al off ts/\v=.pointer (some ⟨al,off,none⟩)
 | .aL,v=>v=.slice none 0 0
 | .cE full es,v=>∃al off cap ai a,bg (ew es.length ai) es a/\(es≠[]->aa al)/\gB w al off a.flatten/\
  (full=true->cap=es.length)/\es.length<=cap/\∃sp,(sp=none\/cap=0)/\v=.slice (some ⟨al,off,sp⟩) es.length cap
 | .seq es,v=>(es=[]/\v= .slice none 0 0)\/∃al off cap ai a,bg (ew es.length ai) es a/\(es≠[]->aa al)/\gB w al off a.flatten/\
  es.length<=cap/\∃sp,(sp=none\/cap=0)/\v=.slice (some ⟨al,off,sp⟩) es.length cap
 | .fq,v=>v=.map none
 | .eH es,v=>∃r h j,aa r/\w.heap[r]?=some (.map h j)/\cq es h.toList/\v=.map (some r)
 | .func f first gU,v=>∃i g,bE first i/\bE gU g/\v=.func (.func f) i.toArray g.toArray
 | .gW,v=>v=.nilFunc
 | .fZ,v=>v=.nilIface
def bE:List PV->List b5->Prop
 |[],d=>d=[]
 |v::vs,d=>∃y o,d=y::o/\aB v y/\bE vs o
def cq:List (PV×PV)->List dg->Prop
 |[],es=>es=[]
 |(k,v)::r,es=>∃e m,es=e::m/\aB k e.key/\aB v e.val/\cq r m
end
end relation
class Gl where
 g:Nat->PV
 u8:cb
 raw:Nat->Option (Array b5)
 bx:cb->Option cb
def iY[Gl](T:cb)(s:jd):Bool:=match s with
 | .agg u=>match Gl.bx u with
  |some a=>Nat.beq T a
  |none=>true
 |_=>true
structure mi[Gl](P:b4)(w:cc)(aa:Nat->Prop):Prop where
 val:∀g,aB P w aa (Gl.g g) (.pointer (some ⟨g,0,none⟩))
 raw:∀g cs,Gl.raw g=some cs->aa g/\∃T,w.heap[g]?=some (.cells cs T (0,0))
end Go.az
namespace Go.az
variable[Gl]
structure Bd where
 al:Nat->Nat
 cap:Nat->Nat
def fS(P:b4):List (cb×Nat)->Option Nat
 |[]=>some 0
 |(u,i)::r=>
  match du P u,fS P r with
  |some l,some o=>if i<l.length then some ((l.take i).sum+o)else none
  |_,_=>none
section
variable(P:b4)(w:cc)(aa:Nat->Prop)(β:Bd)(H:aj)
def me(b:Nat):Prop:=∃fz t,H[b]?=some (.box fz t)
def fg(b ar ai:Nat)(k:AK)(a:List AV):Prop:=H[b]?=some (.arr k ar ai a)
def cR(k:AK)(a:List AV):Prop:=k.gr=true/\a=[]
def mc(b:Nat):Prop:=(∃fz a,H[b]?=some (.map fz a))
def mh(b:Nat):Prop:=(∃s pos,H[b]?=some (.dc s pos))
def gD(b:Nat):Prop:=(∃L,H[b]?=some (.loop L))
def bM:AV->b5->Prop
 | .ptr b path,v=>∃al off o,v=.pointer (some ⟨al,off,none⟩)/\fS P path=some o/\(me H b\/mh H b->al=β.al b/\off=o)
 | .bQ b ar ai i path,v=>∃al off o,v=.pointer (some ⟨al,off,none⟩)/\fS P path=some o/\∀k a,fg H b ar ai k a->¬cR k a->al=β.al b/\off=i*ai+o
 | .sl b ar ai off len,v=>∀k a,fg H b ar ai k a->
  off+len<=a.length/\(cR k a->v=.slice none 0 0)/\(¬cR k a->v=.slice (some ⟨β.al b,off*ai,none⟩) len (β.cap b-off))
 | .map b,v=>(mc H b->v=.map (some (β.al b)))/\(gD H b->v=.func (.yield (β.al b)) #[] #[])
 |_,_=>False
def bJ(v:AV)(x:b5):Prop:=x.oneCell'=true/\bM P β H v x
mutual
def bh:AV->List b5->Prop
 | .p t,cs=>aV P w aa t cs
 | .st u fs,cs=>∃l a,du P u=some l/\bG l fs a/\cs=a.flatten
 | .func f first gU,cs=>∃e d,bD first e/\bD gU d/\cs=[.func (.func f) e.toArray d.toArray]
 | .aA _,_=>False
 | .ptr b path,cs=>∃v,cs=[v]/\bJ P β H (.ptr b path) v
 | .bQ b ar ai i path,cs=>∃v,cs=[v]/\bJ P β H (.bQ b ar ai i path) v
 | .sl b ar ai off len,cs=>∃v,cs=[v]/\bJ P β H (.sl b ar ai off len) v
 | .map b,cs=>∃v,cs=[v]/\bJ P β H (.map b) v
def bG:List Nat->List AV->List (List b5)->Prop
 |[],[],a=>a=[]
 |n::h,v::vs,a=>∃c cs,a=c::cs/\bh v c/\c.length=n/\bG h vs cs
 |_,_,_=>False
def aw:AV->b5->Prop
 | .p t,v=>aB P w aa t v
 | .st u fs,v=>∃l a,du P u=some l/\bG l fs a/\v=.agg a.flatten.toArray
 | .func f first gU,v=>∃e d,bD first e/\bD gU d/\v=.func (.func f) e.toArray d.toArray
 | .aA vs,v=>∃xs,bD vs xs/\v=.tuple xs.toArray
 | .ptr b path,v=>bJ P β H (.ptr b path) v
 | .bQ b ar ai i path,v=>bJ P β H (.bQ b ar ai i path) v
 | .sl b ar ai off len,v=>bJ P β H (.sl b ar ai off len) v
 | .map b,v=>bJ P β H (.map b) v
def bD:List AV->List b5->Prop
 |[],xs=>xs=[]
 |v::vs,xs=>∃y g,xs=y::g/\aw v y/\bD vs g
end
mutual
def aD(n:Nat×Nat->Prop):AV->Prop
 | .p _=>True
 | .ptr b _| .map b=>n (b,0)
 | .bQ b ar _ _ _| .sl b ar _ _ _=>n (b,ar)
 | .func _ first gU=>aU n first/\aU n gU
 | .st _ fs=>aU n fs
 | .aA vs=>aU n vs
def aU(n:Nat×Nat->Prop):List AV->Prop
 |[]=>True
 |v::vs=>aD n v/\aU n vs
end
def Obj.has:Obj->Nat->Prop
 | .hole,_=>False
 | .arr _ ar _ _,v=>v<=ar
 |_,_=>True
def aF(H:aj)(x:Nat×Nat):Prop:=∃o,H[x.1]?=some o/\o.has x.2
def AV.qU:AV->Prop
 | .p _=>True
 |_=>False
def Obj.refs(n:Nat×Nat->Prop):Obj->Prop
 | .box _ t=>aD n t
 | .arr _ _ _ es=>aU n es
 | .loop L=>∀x,aD n (aN L.env x)
 |_=>True
def Obj.live:Obj->Prop
 | .hole| .dead=>False
 | .arr k _ _ es=>¬cR k es
 |_=>True
variable(ah:Nat->Prop)
def cm(fz:Bool)(b:Nat):Prop:=if fz then aa (β.al b)else¬aa (β.al b)/\¬ah (β.al b)
def fe(b:Nat):Obj->Prop
 | .hole| .dead=>True
 | .box fz t=>∃cs T,w.heap[β.al b]?=some (.cells cs T (0,0))/\bh P w aa β H t cs.toList/\cm aa β ah fz b/\(fz=true->t.qU)/\iY T (ad t)=true
 | .arr k _ver ai es=>cR k es\/
  ∃cs T a f,w.heap[β.al b]?=some (.cells cs T (0,0))/\bG P w aa β H (ew es.length ai) es a/\cs.toList=a.flatten++f/\
   cs.size=β.cap b*ai/\es.length<=β.cap b/\(k=.exact->β.cap b=es.length)/\cm aa β ah (k== .frozen) b/\(k=.frozen->∀e∈es,e.qU)/\(k=.bytes->T=Gl.u8)
 | .map fz es=>∃c d,w.heap[β.al b]?=some (.map c d)/\cq P w aa es c.toList/\cm aa β ah fz b
 | .dc s pos=>∃bs:ByteArray,w.heap[β.al b]?=some (.stringIter bs pos)/\s=bs.data.toList.map (·.toNat)/\cm aa β ah false b
 | .loop L=>∃tmps defers fn,w.heap[β.al b]?=some (.loop {state:=L.st,pending:=L.pending,fn,tmps,params:=L.params.toArray,assign:=L.assign,body:=L.body,defers})/\tmps.size=L.n/\
  (∀x,aw P w aa β H (aN L.env x) (tmps.getD x undef))/\cm aa β ah false b
structure bN:Prop where
 cr:∀b o,H[b]?=some o->fe P w aa β H ah b o
 inj:∀b b' o o',H[b]?=some o->H[b']?=some o'->o.live->o'.live->¬aa (β.al b)->β.al b=β.al b'->b=b'
 refs:∀(b:Nat)(o:Obj),H[b]?=some o->o.refs (aF H)
 bL:∀k,aa k->k<w.heap.size
 dY:∀k,ah k->k<w.heap.size
 gV:mi P w aa
end
structure Ext(ah aa:Nat->Prop)(w w':cc):Prop where
 size:w.heap.size<=w'.heap.size
 same:∀k,ah k\/aa k->w'.heap[k]?=w.heap[k]?
 io:w'.os=w.os/\w'.output=w.output
structure cd(β:Bd)(H:aj)(aG:Bd)(H':aj):Prop where
 box:∀b,aF H (b,0)->me H' b->me H b/\aG.al b=β.al b
 it:∀b,aF H (b,0)->mh H' b->mh H b/\aG.al b=β.al b
 map:∀b,aF H (b,0)->mc H' b->mc H b/\aG.al b=β.al b
 arr:∀b ar ai k es,aF H (b,ar)->fg H' b ar ai k es->∃k0 gq,fg H b ar ai k0 gq/\gq.length<=es.length/\(cR k es↔cR k0 gq)/\(¬cR k es->aG.al b=β.al b/\aG.cap b=β.cap b)
 loop:∀b,aF H (b,0)->gD H' b->gD H b/\aG.al b=β.al b
theorem cd.refl(β:Bd)(H:aj):cd β H β H:=
 ⟨fun _ _ h=>⟨h,rfl⟩,fun _ _ h=>⟨h,rfl⟩,fun _ _ h=>⟨h,rfl⟩,fun _ _ _ k a _ h=>⟨k,a,h,g8 _,eq,fun _=>⟨rfl,rfl⟩⟩,fun _ _ h=>⟨h,rfl⟩⟩
theorem Ext.refl(ah aa:Nat->Prop)(w:cc):Ext ah aa w w:=⟨g8 _,fun _ _=>rfl,rfl,rfl⟩
section mono
variable{P:b4}{w w':cc}{aa aE:Nat->Prop}
theorem UF{al off:Nat}(h:w'.heap[al]?=w.heap[al]?):w'.cell? ⟨al,off,none⟩=w.cell? ⟨al,off,none⟩:=by
 simp[ej,h]
theorem gB.same{al off:Nat}{cs:List b5}(h:w'.heap[al]?=w.heap[al]?)(hc:gB w al off cs):gB w' al off cs:=
 fun i hi=>(UF h).trans (hc i hi)
theorem v8{n:List Nat}{a:List (List b5)}(h:bg P w aa n [] a):a=[]:=by
 cases n<;>simp[bg]at h;exact h
variable(hI:∀k,aa k->aE k)(hs:∀k,aa k->w'.heap[k]?=w.heap[k]?)
include hI hs
mutual
theorem aV.mono:∀(v:PV)(cs:List b5),aV P w aa v cs->aV P w' aE v cs
 | .undef,_,h| .aA _,_,h=>by simp[aV]at h
 | .bool _,_,h| .int _ _,_,h| .str _,_,h| .dJ,_,h| .aL,_,h| .fq,_,h| .gW,_,h| .fZ,_,h=>by simpa[aV]using h
 | .bZ t,cs,h=>by
  simp only[aV]at h⊢;obtain⟨al,off,ts,a,b,d,j⟩:=h;exact⟨al,off,ts,aV.mono t ts a,hI _ b,d.same (hs _ b),j⟩
 | .cE full o,cs,h=>by
  simp only[aV]at h⊢;obtain⟨al,off,cap,ai,g,a,b,d,j⟩:=h;refine⟨al,off,cap,ai,g,bg.mono _ o g a,fun m=>hI _ (b m),?_,j⟩
  by_cases m:o=[]
  ·subst m;have:=v8 a;subst this;intro i hi;simp at hi
  ·exact d.same (hs _ (b m))
 | .seq o,cs,h=>by
  simp only[aV]at h⊢;rcases h with h|⟨al,off,cap,ai,g,a,b,d,j⟩
  ·exact .inl h
  refine .inr ⟨al,off,cap,ai,g,bg.mono _ o g a,fun m=>hI _ (b m),?_,j⟩
  by_cases m:o=[]
  ·subst m;have:=v8 a;subst this;intro i hi;simp at hi
  ·exact d.same (hs _ (b m))
 | .eH o,cs,h=>by
  simp only[aV]at h⊢;obtain⟨r,p,clock,a,b,d,j⟩:=h;exact⟨r,p,clock,hI _ a,(hs _ a).trans b,cq.mono o _ d,j⟩
 | .func f first gU,cs,h=>by
  simp only[aV]at h⊢;obtain⟨z,s,a,b,d⟩:=h;exact⟨z,s,bE.mono first z a,bE.mono gU s b,d⟩
 | .st u fs,cs,h=>by
  simp only[aV]at h⊢;obtain⟨l,g,a,b,d⟩:=h;exact⟨l,g,a,bg.mono l fs g b,d⟩
theorem bg.mono:∀(l:List Nat)(vs:List PV)(g:List (List b5)),bg P w aa l vs g->bg P w' aE l vs g
 |[],[],_,h=>by simpa[bg]using h
 |[],_::_,_,h=>by simp[bg]at h
 |_::_,[],_,h=>by simp[bg]at h
 |n::B,v::vs,g,h=>by
  simp only[bg]at h⊢;obtain⟨c,cs,a,b,d,j⟩:=h;exact⟨c,cs,a,aV.mono v c b,d,bg.mono B vs cs j⟩
theorem aB.mono:∀(v:PV)(x:b5),aB P w aa v x->aB P w' aE v x
 | .undef,_,h=>by simp[aB]
 | .aA vs,x,h=>by
  simp only[aB]at h⊢;obtain⟨q,a,b⟩:=h;exact⟨q,bE.mono vs q a,b⟩
 | .bool _,_,h| .int _ _,_,h| .str _,_,h| .dJ,_,h| .aL,_,h| .fq,_,h| .gW,_,h| .fZ,_,h=>by simpa[aB]using h
 | .bZ t,cs,h=>by
  simp only[aB]at h⊢;obtain⟨al,off,ts,a,b,d,j⟩:=h;exact⟨al,off,ts,aV.mono t ts a,hI _ b,d.same (hs _ b),j⟩
 | .cE full o,cs,h=>by
  simp only[aB]at h⊢;obtain⟨al,off,cap,ai,g,a,b,d,j⟩:=h;refine⟨al,off,cap,ai,g,bg.mono _ o g a,fun m=>hI _ (b m),?_,j⟩
  by_cases m:o=[]
  ·subst m;have:=v8 a;subst this;intro i hi;simp at hi
  ·exact d.same (hs _ (b m))
 | .seq o,cs,h=>by
  simp only[aB]at h⊢;rcases h with h|⟨al,off,cap,ai,g,a,b,d,j⟩
  ·exact .inl h
  refine .inr ⟨al,off,cap,ai,g,bg.mono _ o g a,fun m=>hI _ (b m),?_,j⟩
  by_cases m:o=[]
  ·subst m;have:=v8 a;subst this;intro i hi;simp at hi
  ·exact d.same (hs _ (b m))
 | .eH o,cs,h=>by
  simp only[aB]at h⊢;obtain⟨r,p,clock,a,b,d,j⟩:=h;exact⟨r,p,clock,hI _ a,(hs _ a).trans b,cq.mono o _ d,j⟩
 | .func f first gU,cs,h=>by
  simp only[aB]at h⊢;obtain⟨z,s,a,b,d⟩:=h;exact⟨z,s,bE.mono first z a,bE.mono gU s b,d⟩
 | .st u fs,cs,h=>by
  simp only[aB]at h⊢;obtain⟨l,g,a,b,d⟩:=h;exact⟨l,g,a,bg.mono l fs g b,d⟩
theorem bE.mono:∀(vs:List PV)(q:List b5),bE P w aa vs q->bE P w' aE vs q
 |[],_,h=>by simpa[bE]using h
 |v::vs,q,h=>by
  simp only[bE]at h⊢;obtain⟨y,A,a,b,d⟩:=h;exact⟨y,A,a,aB.mono v y b,bE.mono vs A d⟩
theorem cq.mono:∀(o:List (PV×PV))(p:List dg),cq P w aa o p->cq P w' aE o p
 |[],_,h=>by simpa[cq]using h
 |(k,v)::r,p,h=>by
  simp only[cq]at h⊢;obtain⟨e,rest,a,b,d,j⟩:=h;exact⟨e,rest,a,aB.mono k _ b,aB.mono v _ d,cq.mono r rest j⟩
end
theorem mi.mono(h:mi P w aa):mi P w' aE:=⟨fun g=>aB.mono hI hs _ _ (h.val g),fun g cs c=>by
 obtain⟨a,T,b⟩:=h.raw g cs c;exact⟨hI _ a,T,(hs _ a).trans b⟩⟩
variable{β aG:Bd}{H H':aj}(aK:cd β H aG H')
include aK
omit hI hs in
theorem bM.mono:∀(v:AV)(x:b5),aD (aF H) v->bM P β H v x->bM P aG H' v x
 | .ptr b path,x,d,h=>by
  simp only[bM,aD]at*;obtain⟨al,off,o,c,f,g⟩:=h;refine⟨al,off,o,c,f,fun a=>?_⟩;rcases a with a|a
  ·obtain⟨k1,k2⟩:=aK.box b d a;rw[k2];exact g (.inl k1)
  ·obtain⟨k1,k2⟩:=aK.it b d a;rw[k2];exact g (.inr k1)
 | .bQ b ar ai i path,x,d,h=>by
  simp only[bM,aD]at*;obtain⟨al,off,o,g1,g2,g3⟩:=h;refine⟨al,off,o,g1,g2,fun k l a e=>?_⟩;obtain⟨k0,gq,c,f,g,j⟩:=aK.arr b ar ai k l d a;rw[(j e).1];exact g3 k0 gq c (fun m=>e (g.2 m))
 | .sl b ar ai off len,x,d,h=>by
  simp only[bM,aD]at*;intro k l a;obtain⟨k0,gq,c,f,g,j⟩:=aK.arr b ar ai k l d a;obtain⟨r,n,q⟩:=h k0 gq c;refine⟨by omega,fun e=>n (g.1 e),fun e=>?_⟩;rw[(j e).1,(j e).2];exact q (fun m=>e (g.2 m))
 | .map b,x,d,h=>by
  simp only[bM,aD]at*;refine⟨fun a=>?_,fun a=>?_⟩
  ·obtain⟨c,f⟩:=aK.map b d a;rw[f];exact h.1 c
  ·obtain⟨c,f⟩:=aK.loop b d a;rw[f];exact h.2 c
 | .p _,_,_,h| .st _ _,_,_,h| .func _ _ _,_,_,h| .aA _,_,_,h=>by simp[bM]at h
omit hI hs in
theorem bJ.mono(v:AV)(x:b5)(a:aD (aF H) v)(h:bJ P β H v x):bJ P aG H' v x:=⟨h.1,bM.mono aK v x a h.2⟩
mutual
theorem bh.mono:∀(v:AV)(cs:List b5),aD (aF H) v->bh P w aa β H v cs->bh P w' aE aG H' v cs
 | .p t,cs,_,h=>by simp only[bh]at h⊢;exact aV.mono hI hs t cs h
 | .st u fs,cs,a,h=>by
  simp only[bh,aD]at*;obtain⟨l,j,d,e,g⟩:=h;exact⟨l,j,d,bG.mono l fs j a e,g⟩
 | .func f first gU,cs,a,h=>by
  simp only[bh,aD]at*;obtain⟨m,k,d,e,g⟩:=h;exact⟨m,k,bD.mono first m a.1 d,bD.mono gU k a.2 e,g⟩
 | .aA _,_,_,h=>by simp[bh]at h
 | .ptr b path,cs,a,h=>by
  simp only[bh]at*;obtain⟨v,d,e⟩:=h;exact⟨v,d,bJ.mono aK _ _ a e⟩
 | .bQ b ar ai i path,cs,a,h=>by
  simp only[bh]at*;obtain⟨v,d,e⟩:=h;exact⟨v,d,bJ.mono aK _ _ a e⟩
 | .sl b ar ai off len,cs,a,h=>by
  simp only[bh]at*;obtain⟨v,d,e⟩:=h;exact⟨v,d,bJ.mono aK _ _ a e⟩
 | .map b,cs,a,h=>by
  simp only[bh]at*;obtain⟨v,d,e⟩:=h;exact⟨v,d,bJ.mono aK _ _ a e⟩
theorem bG.mono:∀(l:List Nat)(vs:List AV)(j:List (List b5)),aU (aF H) vs->bG P w aa β H l vs j->bG P w' aE aG H' l vs j
 |[],[],_,_,h=>by simpa[bG]using h
 |[],_::_,_,_,h=>by simp[bG]at h
 |_::_,[],_,_,h=>by simp[bG]at h
 |n::r,v::vs,j,a,h=>by
  simp only[bG,aU]at*;obtain⟨c,cs,d,e,g,q⟩:=h;exact⟨c,cs,d,bh.mono v c a.1 e,g,bG.mono r vs cs a.2 q⟩
theorem aw.mono:∀(v:AV)(x:b5),aD (aF H) v->aw P w aa β H v x->aw P w' aE aG H' v x
 | .p t,cs,_,h=>by simp only[aw]at h⊢;exact aB.mono hI hs t cs h
 | .st u fs,cs,a,h=>by
  simp only[aw,aD]at*;obtain⟨l,j,d,e,g⟩:=h;exact⟨l,j,d,bG.mono l fs j a e,g⟩
 | .func f first gU,cs,a,h=>by
  simp only[aw,aD]at*;obtain⟨m,k,d,e,g⟩:=h;exact⟨m,k,bD.mono first m a.1 d,bD.mono gU k a.2 e,g⟩
 | .aA vs,cs,a,h=>by
  simp only[aw,aD]at*;obtain⟨xs,d,e⟩:=h;exact⟨xs,bD.mono vs xs a d,e⟩
 | .ptr b path,cs,a,h=>by simp only[aw]at*;exact bJ.mono aK _ _ a h
 | .bQ b ar ai i path,cs,a,h=>by simp only[aw]at*;exact bJ.mono aK _ _ a h
 | .sl b ar ai off len,cs,a,h=>by simp only[aw]at*;exact bJ.mono aK _ _ a h
 | .map b,cs,a,h=>by simp only[aw]at*;exact bJ.mono aK _ _ a h
theorem bD.mono:∀(vs:List AV)(xs:List b5),aU (aF H) vs->bD P w aa β H vs xs->bD P w' aE aG H' vs xs
 |[],_,_,h=>by simpa[bD]using h
 |v::vs,xs,a,h=>by
  simp only[bD,aU]at*;obtain⟨y,o,d,e,g⟩:=h;exact⟨y,o,d,aw.mono v y a.1 e,bD.mono vs o a.2 g⟩
end
end mono
def dW:List AV->Option (List PV)
 |[]=>some []
 | .p v::r=>match dW r with
  |some l=>some (v::l)
  |none=>none
 |_::_=>none
def gO(u:cb)(fs:List AV):AV:=
 match dW fs with
 |some l=>.p (.st u l)
 |none=>.st u fs
def kn:PV->List (cb×Nat)->Option PV
 |t,[]=>some t
 |t,(u,i)::r=>if aJ t=.agg u then(match(bV t)[i]? with
  |some f=>kn f r
  |none=>none)else none
def eL:AV->List (cb×Nat)->Option AV
 |t,[]=>some t
 | .p t,(u,i)::r=>match kn t ((u,i)::r)with
  |some s=>some (.p s)
  |none=>none
 | .st u' fs,(u,i)::r=>if u'=u then(match fs[i]? with
  |some f=>eL f r
  |none=>none)else none
 |_,_=>none
def fJ(t:AV)(b:List (cb×Nat))(x:AV):Option AV:=
 match b with
 |[]=>some x
 |(u,i)::r=>
  match t with
  | .p t=>if aJ t=.agg u then(match(bV t)[i]? with
   |some f=>(match fJ (.p f) r x with
    |some a=>some (gO u (((bV t).map .p).set i a))
    |none=>none)
   |none=>none)else none
  | .st u' fs=>if u'=u then(match fs[i]? with
   |some f=>(match fJ f r x with
    |some a=>some (gO u (fs.set i a))
    |none=>none)
   |none=>none)else none
  |_=>none
section
variable{P:b4}{w:cc}{aa:Nat->Prop}{β:Bd}{H:aj}
theorem tD:∀{l:List Nat}{vs:List PV}{a:List (List b5)},bg P w aa l vs a->a.map (·.length)=l/\vs.length=l.length/\a.length=l.length
 |[],[],_,h=>by simp[bg]at h;subst h;simp
 |[],_::_,_,h=>by simp[bg]at h
 |_::_,[],_,h=>by simp[bg]at h
 |n::f,v::vs,a,h=>by
  simp only[bg]at h;obtain⟨c,cs,rfl,e,b,d⟩:=h;have:=tD d;simp[b,this]
theorem wA:∀{l:List Nat}{vs:List AV}{a:List (List b5)},bG P w aa β H l vs a->a.map (·.length)=l/\vs.length=l.length/\a.length=l.length
 |[],[],_,h=>by simp[bG]at h;subst h;simp
 |[],_::_,_,h=>by simp[bG]at h
 |_::_,[],_,h=>by simp[bG]at h
 |n::f,v::vs,a,h=>by
  simp only[bG]at h;obtain⟨c,cs,rfl,e,b,d⟩:=h;have:=wA d;simp[b,this]
theorem Jx{u:cb}{l:List Nat}(h:du P u=some l):l.sum=P.cellsOf u/\∀n∈l,0<n:=by
 unfold du at h
 split at h
 ·dsimp only at h
  split at h
  ·rename_i hc;simp at hc;obtain⟨⟨b,c⟩,d⟩:=hc;simp at h;subst h;refine⟨c,?_⟩;intro n a;simp at a;obtain⟨f,hf,rfl⟩:=a;obtain⟨i,hi,rfl⟩:=Array.mem_iff_getElem.1 hf;exact b i hi
  ·simp at h
 ·split at h
  ·rename_i hc;simp at hc;simp at h;subst h;refine⟨by simp[List.sum_replicate_nat,hc.2],?_⟩;intro n a;have:=List.eq_of_mem_replicate a;omega
  ·simp at h
 ·simp at h
theorem nX:∀{v:PV}{cs:List b5},aV P w aa v cs->cs.length=bA P (aJ v)/\aJ v≠.bad:=by
 intro v cs h;cases v<;>simp only[aV]at h
 case st u fs=>
  obtain⟨l,c,a,b,rfl⟩:=h;have:=tD b;simp[aJ,bA,this.1,(Jx a).1]
 case str=>obtain⟨_,h,_⟩:=h;subst h;simp[aJ,bA]
 case seq=>
  rcases h with⟨_,rfl⟩|⟨_,_,_,_,_,_,_,_,_,_,_,rfl⟩<;>simp[aJ,bA]
 all_goals first
  |(subst h;simp[aJ,bA])
  |(obtain⟨_,_,_,_,_,_,rfl⟩:=h;simp[aJ,bA])
  |(obtain⟨_,_,_,_,_,rfl⟩:=h;simp[aJ,bA])
  |(obtain⟨_,_,_,_,_,_,_,_,_,_,_,_,rfl⟩:=h;simp[aJ,bA])
  |(obtain⟨_,_,_,_,_,_,_,rfl⟩:=h;simp[aJ,bA])
  |(obtain⟨_,_,_,_,rfl⟩:=h;simp[aJ,bA])
  |(obtain⟨_,h,_⟩:=h;subst h;simp[aJ,bA])
  |exact h.elim
theorem mS{v:AV}{cs:List b5}(h:bh P w aa β H v cs):cs.length=bA P (ad v)/\ad v≠.bad:=by
 cases v<;>simp only[bh]at h
 case p t=>exact nX h
 case st u fs=>
  obtain⟨l,c,a,b,rfl⟩:=h;have:=wA b;simp[ad,bA,this.1,(Jx a).1]
 all_goals first
  |(obtain⟨_,rfl,_⟩:=h;simp[ad,bA])
  |(obtain⟨_,_,_,_,rfl⟩:=h;simp[ad,bA])
theorem rL{v:PV}(hs:aJ v=.leaf)(cs:List b5):aV P w aa v cs↔∃c,cs=[c]/\aB P w aa v c:=by
 cases v<;>simp[aJ]at hs<;>simp only[aV,aB]
 case bool|int|dJ|aL|fq|gW|fZ=>exact⟨fun h=>⟨_,h,rfl⟩,fun⟨c,g,i⟩=>by rw[g,i]⟩
 case str s=>exact⟨fun⟨bs,g,i⟩=>⟨_,g,bs,rfl,i⟩,fun⟨c,g,bs,i,j⟩=>⟨bs,by rw[g,i],j⟩⟩
 case bZ t=>exact⟨fun⟨a,b,c,g,i,j,k⟩=>⟨_,k,a,b,c,g,i,j,rfl⟩,fun⟨v,g,a,b,c,i,j,k,l⟩=>⟨a,b,c,i,j,k,by rw[g,l]⟩⟩
 case cE f es=>exact⟨fun⟨a,b,c,d,e,g,i,j,k,l,sp,n,m⟩=>⟨_,m,a,b,c,d,e,g,i,j,k,l,sp,n,rfl⟩,fun⟨v,h,a,b,c,d,e,g,i,j,k,l,sp,n,m⟩=>⟨a,b,c,d,e,g,i,j,k,l,sp,n,by rw[h,m]⟩⟩
 case seq es=>
  constructor
  ·rintro(⟨g,i⟩|⟨a,b,c,d,e,g,i,j,l,sp,n,m⟩)
   ·exact⟨_,i,.inl ⟨g,rfl⟩⟩
   ·exact⟨_,m,.inr ⟨a,b,c,d,e,g,i,j,l,sp,n,rfl⟩⟩
  ·rintro⟨v,h,(⟨g,i⟩|⟨a,b,c,d,e,g,i,j,l,sp,n,m⟩)⟩
   ·exact .inl ⟨g,by rw[h,i]⟩
   ·exact .inr ⟨a,b,c,d,e,g,i,j,l,sp,n,by rw[h,m]⟩
 case eH es=>exact⟨fun⟨a,b,c,g,i,j,k⟩=>⟨_,k,a,b,c,g,i,j,rfl⟩,fun⟨v,h,a,b,c,g,i,j,k⟩=>⟨a,b,c,g,i,j,by rw[h,k]⟩⟩
 case func f x y=>exact⟨fun⟨a,b,g,i,j⟩=>⟨_,j,a,b,g,i,rfl⟩,fun⟨v,h,a,b,g,i,j⟩=>⟨a,b,g,i,by rw[h,j]⟩⟩
theorem uC{v:PV}{u:cb}(hs:aJ v=.agg u)(cs:List b5):aV P w aa v cs↔aB P w aa v (.agg cs.toArray):=by
 cases v<;>simp[aJ]at hs;subst hs;simp only[aV,aB];constructor
 ·rintro⟨l,a,b,c,rfl⟩;exact⟨l,a,b,c,rfl⟩
 ·rintro⟨l,a,b,c,d⟩;refine⟨l,a,b,c,?_⟩;injection d with d;simpa using congrArg b0 d
theorem Br{v:AV}(hs:ad v=.leaf)(cs:List b5):bh P w aa β H v cs↔∃c,cs=[c]/\aw P w aa β H v c:=by
 cases v<;>simp[ad]at hs<;>simp only[bh,aw]
 case p t=>exact rL hs cs
 case func f x y=>exact⟨fun⟨a,b,d,e,g⟩=>⟨_,g,a,b,d,e,rfl⟩,fun⟨v,h,a,b,d,e,g⟩=>⟨a,b,d,e,by rw[h,g]⟩⟩
theorem Ku{v:AV}{u:cb}(hs:ad v=.agg u)(cs:List b5):bh P w aa β H v cs↔aw P w aa β H v (.agg cs.toArray):=by
 cases v<;>simp[ad]at hs
 case p t=>simp only[bh,aw];exact uC hs cs
 case st u' fs=>
  subst hs;simp only[bh,aw];constructor
  ·rintro⟨l,a,b,c,rfl⟩;exact⟨l,a,b,c,rfl⟩
  ·rintro⟨l,a,b,c,d⟩;refine⟨l,a,b,c,?_⟩;injection d with d;simpa using congrArg b0 d
theorem wT{v:AV}{x:b5}(h:aw P w aa β H v x)(hs:ad v≠.bad):bh P w aa β H v x.cells.toList:=by
 cases a:ad v with
 |bad=>exact absurd a hs
 |leaf=>
  rw[Br a];refine⟨x,?_,h⟩;cases v<;>simp[ad]at a<;>simp only[aw]at h
  case p t=>
   cases t<;>simp[aJ]at a<;>simp only[aB]at h
   case bool|int|dJ|aL|fq|gW|fZ=>subst h;rfl
   case str=>obtain⟨_,rfl,_⟩:=h;rfl
   case bZ=>obtain⟨_,_,_,_,_,_,rfl⟩:=h;rfl
   case cE=>obtain⟨_,_,_,_,_,_,_,_,_,_,_,_,rfl⟩:=h;rfl
   case seq=>rcases h with⟨_,rfl⟩|⟨_,_,_,_,_,_,_,_,_,_,_,rfl⟩<;>rfl
   case eH=>obtain⟨_,_,_,_,_,_,rfl⟩:=h;rfl
   case func=>obtain⟨_,_,_,_,rfl⟩:=h;rfl
  case func=>obtain⟨_,_,_,_,rfl⟩:=h;rfl
  all_goals (have b:=h.1;cases x<;>first|rfl|(simp[ec]at b))
 |agg u=>
  cases v<;>simp[ad]at a
  case p t=>
   cases t<;>simp[aJ]at a;simp only[aw,aB]at h;obtain⟨l,c,b,d,rfl⟩:=h;simp only[bh,aV];exact⟨l,c,b,d,by simp[ed]⟩
  case st u' fs=>
   simp only[aw]at h;obtain⟨l,c,b,d,rfl⟩:=h;simp only[bh];exact⟨l,c,b,d,by simp[ed]⟩
end
mutual
def Wk:PV->PV->Prop
 | .undef,v=>v=.undef
 | .bool b,v=>v=.bool b
 | .int k n,v=>v=.int k n
 | .str s,v=>v=.str s
 | .dJ,v=>v=.dJ
 | .fq,v=>v=.fq
 | .gW,v=>v=.gW
 | .fZ,v=>v=.fZ
 | .aL,v=>v=.aL\/v=.seq []
 | .bZ t,v=>match v with
  | .bZ h=>Wk t h
  |_=>False
 | .cE f es,v=>match v with
  | .cE g fs=>(g=true->f=true)/\bw es fs
  | .seq fs=>bw es fs
  |_=>False
 | .seq es,v=>match v with
  | .seq fs=>bw es fs
  |_=>False
 | .eH es,v=>match v with
  | .eH fs=>ks es fs
  |_=>False
 | .func f a b,v=>match v with
  | .func g c d=>f=g/\bw a c/\bw b d
  |_=>False
 | .st u es,v=>match v with
  | .st u' fs=>u=u'/\bw es fs
  |_=>False
 | .aA es,v=>match v with
  | .aA fs=>bw es fs
  |_=>False
def bw:List PV->List PV->Prop
 |[],fs=>fs=[]
 |v::vs,fs=>match fs with
  |f::fs=>Wk v f/\bw vs fs
  |[]=>False
def ks:List (PV×PV)->List (PV×PV)->Prop
 |[],fs=>fs=[]
 |(k,v)::vs,fs=>match fs with
  |(e,f)::fs=>k=e/\Wk v f/\ks vs fs
  |[]=>False
end
mutual
theorem Wk.refl:∀v,Wk v v
 | .undef| .bool _| .int _ _| .str _| .dJ| .fq| .gW| .fZ=>by simp[Wk]
 | .aL=>by simp[Wk]
 | .bZ t=>by simp only[Wk];exact Wk.refl t
 | .cE f c=>by simp only[Wk];exact⟨id,bw.refl c⟩
 | .seq c=>by simp only[Wk];exact bw.refl c
 | .eH c=>by simp only[Wk];exact ks.refl c
 | .func f a b=>by simp only[Wk];exact⟨trivial,bw.refl a,bw.refl b⟩
 | .st u c=>by simp only[Wk];exact⟨trivial,bw.refl c⟩
 | .aA c=>by simp only[Wk];exact bw.refl c
theorem bw.refl:∀vs,bw vs vs
 |[]=>by simp[bw]
 |v::vs=>by simp only[bw];exact⟨Wk.refl v,bw.refl vs⟩
theorem ks.refl:∀c,ks c c
 |[]=>by simp[ks]
 |(k,v)::vs=>by simp only[ks];exact⟨trivial,Wk.refl v,ks.refl vs⟩
end
theorem bw.length:∀{es fs:List PV},bw es fs->fs.length=es.length
 |[],fs,h=>by simp only[bw]at h;subst h;rfl
 |v::vs,fs,h=>by
  cases fs with
  |nil=>simp[bw]at h
  |cons f fs=>simp only[bw]at h;simp[bw.length h.2]
theorem bw.oh{a fs:List PV}(h:bw a fs):fs=[]↔a=[]:=by
 have:=h.length;rw[<-gb,<-gb,this]
theorem Wk.aJ:∀{v v':PV},Wk v v'->az.aJ v'=az.aJ v
 | .undef,v',h| .bool _,v',h| .int _ _,v',h| .str _,v',h| .dJ,v',h| .fq,v',h| .gW,v',h| .fZ,v',h=>by simp only[Wk]at h;subst h;rfl
 | .aL,v',h=>by simp only[Wk]at h;rcases h with rfl|rfl<;>rfl
 | .bZ _,v',h| .cE _ _,v',h| .seq _,v',h| .eH _,v',h| .func _ _ _,v',h| .aA _,v',h=>by cases v'<;>simp only[Wk]at h<;>rfl
 | .st _ _,v',h=>by
  cases v'<;>simp only[Wk]at h;simp[az.aJ,h.1]
section
variable{P:b4}{w:cc}{aa:Nat->Prop}
mutual
theorem aV.cL:∀(v v':PV)(cs:List b5),Wk v v'->aV P w aa v cs->aV P w aa v' cs
 | .undef,v',cs,h,hc| .bool _,v',cs,h,hc| .int _ _,v',cs,h,hc| .str _,v',cs,h,hc| .dJ,v',cs,h,hc| .fq,v',cs,h,hc| .gW,v',cs,h,hc| .fZ,v',cs,h,hc=>by simp only[Wk]at h;subst h;exact hc
 | .aL,v',cs,h,hc=>by
  simp only[Wk]at h;rcases h with rfl|rfl
  ·exact hc
  ·simp only[aV]at hc⊢;exact .inl ⟨trivial,hc⟩
 | .bZ t,v',cs,h,hc=>by
  cases v'<;>simp only[Wk]at h;simp only[aV]at hc⊢;obtain⟨al,off,ts,d,i⟩:=hc;exact⟨al,off,ts,aV.cL _ _ _ h d,i⟩
 | .cE f o,v',cs,h,hc=>by
  cases v' with
  |cE g fs=>
   simp only[Wk]at h;simp only[aV]at hc⊢;obtain⟨al,off,cap,ai,m,d,i,j,p,q,s⟩:=hc;have z:=h.2.length;rw[z];exact⟨al,off,cap,ai,m,bg.cL _ _ _ _ h.2 d,fun A=>i (fun e=>A (h.2.oh.2 e)),j,fun e=>p (h.1 e),q,s⟩
  |seq fs=>
   simp only[Wk]at h;simp only[aV]at hc⊢;obtain⟨al,off,cap,ai,m,d,i,j,p,q,s⟩:=hc;have z:=h.length;rw[z];exact .inr ⟨al,off,cap,ai,m,bg.cL _ _ _ _ h d,fun A=>i (fun e=>A (h.oh.2 e)),j,q,s⟩
  |_=>simp only[Wk]at h
 | .seq o,v',cs,h,hc=>by
  cases v'<;>simp only[Wk]at h;simp only[aV]at hc⊢;rcases hc with⟨d,i⟩|⟨al,off,cap,ai,m,d,i,j,q,s⟩
  ·exact .inl ⟨h.oh.2 d,i⟩
  ·have z:=h.length;rw[z];exact .inr ⟨al,off,cap,ai,m,bg.cL _ _ _ _ h d,fun A=>i (fun e=>A (h.oh.2 e)),j,q,s⟩
 | .eH o,v',cs,h,hc=>by
  cases v'<;>simp only[Wk]at h;simp only[aV]at hc⊢;obtain⟨r,C,clock,d,i,j,p⟩:=hc;exact⟨r,C,clock,d,i,cq.cL _ _ _ h j,p⟩
 | .func f a b,v',cs,h,hc=>by
  cases v'<;>simp only[Wk]at h;obtain⟨rfl,F,G⟩:=h;simp only[aV]at hc⊢;obtain⟨E,D,d,i,j⟩:=hc;exact⟨E,D,bE.cL _ _ _ F d,bE.cL _ _ _ G i,j⟩
 | .st u o,v',cs,h,hc=>by
  cases v'<;>simp only[Wk]at h;obtain⟨rfl,h⟩:=h;simp only[aV]at hc⊢;obtain⟨l,m,d,i,j⟩:=hc;exact⟨l,m,d,bg.cL _ _ _ _ h i,j⟩
 | .aA o,v',cs,h,hc=>by simp[aV]at hc
theorem bg.cL:∀(l:List Nat)(o fs:List PV)(m:List (List b5)),bw o fs->bg P w aa l o m->bg P w aa l fs m
 |l,[],fs,m,h,hc=>by simp only[bw]at h;subst h;exact hc
 |l,v::vs,fs,m,h,hc=>by
  cases fs with
  |nil=>simp[bw]at h
  |cons f fs=>
   simp only[bw]at h;cases l with
   |nil=>simp[bg]at hc
   |cons n l=>
    simp only[bg]at hc⊢;obtain⟨c,cs,d,i,j,p⟩:=hc;exact⟨c,cs,d,aV.cL _ _ _ h.1 i,j,bg.cL _ _ _ _ h.2 p⟩
theorem aB.cL:∀(v v':PV)(x:b5),Wk v v'->aB P w aa v x->aB P w aa v' x
 | .undef,v',cs,h,hc| .bool _,v',cs,h,hc| .int _ _,v',cs,h,hc| .str _,v',cs,h,hc| .dJ,v',cs,h,hc| .fq,v',cs,h,hc| .gW,v',cs,h,hc| .fZ,v',cs,h,hc=>by simp only[Wk]at h;subst h;exact hc
 | .aL,v',cs,h,hc=>by
  simp only[Wk]at h;rcases h with rfl|rfl
  ·exact hc
  ·simp only[aB]at hc⊢;exact .inl ⟨trivial,hc⟩
 | .bZ t,v',cs,h,hc=>by
  cases v'<;>simp only[Wk]at h;simp only[aB]at hc⊢;obtain⟨al,off,ts,d,i⟩:=hc;exact⟨al,off,ts,aV.cL _ _ _ h d,i⟩
 | .cE f o,v',cs,h,hc=>by
  cases v' with
  |cE g fs=>
   simp only[Wk]at h;simp only[aB]at hc⊢;obtain⟨al,off,cap,ai,m,d,i,j,p,q,s⟩:=hc;have z:=h.2.length;rw[z];exact⟨al,off,cap,ai,m,bg.cL _ _ _ _ h.2 d,fun A=>i (fun e=>A (h.2.oh.2 e)),j,fun e=>p (h.1 e),q,s⟩
  |seq fs=>
   simp only[Wk]at h;simp only[aB]at hc⊢;obtain⟨al,off,cap,ai,m,d,i,j,p,q,s⟩:=hc;have z:=h.length;rw[z];exact .inr ⟨al,off,cap,ai,m,bg.cL _ _ _ _ h d,fun A=>i (fun e=>A (h.oh.2 e)),j,q,s⟩
  |_=>simp only[Wk]at h
 | .seq o,v',cs,h,hc=>by
  cases v'<;>simp only[Wk]at h;simp only[aB]at hc⊢;rcases hc with⟨d,i⟩|⟨al,off,cap,ai,m,d,i,j,q,s⟩
  ·exact .inl ⟨h.oh.2 d,i⟩
  ·have z:=h.length;rw[z];exact .inr ⟨al,off,cap,ai,m,bg.cL _ _ _ _ h d,fun A=>i (fun e=>A (h.oh.2 e)),j,q,s⟩
 | .eH o,v',cs,h,hc=>by
  cases v'<;>simp only[Wk]at h;simp only[aB]at hc⊢;obtain⟨r,C,clock,d,i,j,p⟩:=hc;exact⟨r,C,clock,d,i,cq.cL _ _ _ h j,p⟩
 | .func f a b,v',cs,h,hc=>by
  cases v'<;>simp only[Wk]at h;obtain⟨rfl,F,G⟩:=h;simp only[aB]at hc⊢;obtain⟨E,D,d,i,j⟩:=hc;exact⟨E,D,bE.cL _ _ _ F d,bE.cL _ _ _ G i,j⟩
 | .st u o,v',cs,h,hc=>by
  cases v'<;>simp only[Wk]at h;obtain⟨rfl,h⟩:=h;simp only[aB]at hc⊢;obtain⟨l,m,d,i,j⟩:=hc;exact⟨l,m,d,bg.cL _ _ _ _ h i,j⟩
 | .aA o,v',cs,h,hc=>by
  cases v'<;>simp only[Wk]at h;simp only[aB]at hc⊢;obtain⟨B,d,i⟩:=hc;exact⟨B,bE.cL _ _ _ h d,i⟩
theorem bE.cL:∀(o fs:List PV)(B:List b5),bw o fs->bE P w aa o B->bE P w aa fs B
 |[],fs,B,h,hc=>by simp only[bw]at h;subst h;exact hc
 |v::vs,fs,B,h,hc=>by
  cases fs with
  |nil=>simp[bw]at h
  |cons f fs=>
   simp only[bw]at h;simp only[bE]at hc⊢;obtain⟨y,H,d,i,j⟩:=hc;exact⟨y,H,d,aB.cL _ _ _ h.1 i,bE.cL _ _ _ h.2 j⟩
theorem cq.cL:∀(o fs:List (PV×PV))(C:List dg),ks o fs->cq P w aa o C->cq P w aa fs C
 |[],fs,B,h,hc=>by simp only[ks]at h;subst h;exact hc
 |(k,v)::vs,fs,B,h,hc=>by
  cases fs with
  |nil=>simp[ks]at h
  |cons f fs=>
   simp only[ks]at h;obtain⟨rfl,d,i⟩:=h;simp only[cq]at hc⊢;obtain⟨e,rest,e1,e2,e3,e4⟩:=hc;exact⟨e,rest,e1,e2,aB.cL _ _ _ d e3,cq.cL _ _ _ i e4⟩
end
end
section
variable{P:b4}{w:cc}{aa:Nat->Prop}{β:Bd}{H:aj}
theorem lr:∀{fs:List AV}{l:List PV},dW fs=some l->fs=l.map .p
 |[],l,h=>by simp[dW]at h;subst h;rfl
 | .p v::r,l,h=>by
  simp only[dW]at h;cases a:dW r with
  |none=>simp[a]at h
  |some b=>simp[a]at h;subst h;simp[lr a]
 | .ptr ..::_,_,h| .bQ ..::_,_,h| .sl ..::_,_,h| .map ..::_,_,h| .func ..::_,_,h| .st ..::_,_,h| .aA ..::_,_,h=>by simp[dW]at h
theorem Qc(l:List PV):dW (l.map .p)=some l:=by
 induction l with
 |nil=>rfl
 |cons v l a=>simp[dW,a]
theorem mR:∀{l:List Nat}{fs:List PV}{a:List (List b5)},bG P w aa β H l (fs.map .p) a↔bg P w aa l fs a
 |[],[],_=>by simp[bG,bg]
 |[],_::_,_=>by simp[bG,bg]
 |_::_,[],_=>by simp[bG,bg]
 |n::g,v::vs,a=>by
  simp only[fb,bG,bg,bh];constructor
  ·rintro⟨c,cs,b,d,e,f⟩;exact⟨c,cs,b,d,e,mR.1 f⟩
  ·rintro⟨c,cs,b,d,e,f⟩;exact⟨c,cs,b,d,e,mR.2 f⟩
theorem jj:∀{fs:List PV}{d:List b5},bD P w aa β H (fs.map .p) d↔bE P w aa fs d
 |[],_=>by simp[bD,bE]
 |v::vs,d=>by
  simp only[fb,bD,bE,aw];constructor
  ·rintro⟨y,e,a,b,c⟩;exact⟨y,e,a,b,jj.1 c⟩
  ·rintro⟨y,e,a,b,c⟩;exact⟨y,e,a,b,jj.2 c⟩
theorem Jp{u:cb}{fs:List AV}{cs:List b5}:bh P w aa β H (gO u fs) cs↔bh P w aa β H (.st u fs) cs:=by
 unfold gO;cases h:dW fs with
 |none=>rfl
 |some l=>have:=lr h;subst this;simp[bh,aV,mR]
theorem VN{u:cb}{fs:List AV}{x:b5}:aw P w aa β H (gO u fs) x↔aw P w aa β H (.st u fs) x:=by
 unfold gO;cases h:dW fs with
 |none=>rfl
 |some l=>have:=lr h;subst this;simp[aw,aB,mR]
theorem iF(n:Nat×Nat->Prop):∀l:List PV,aU n (l.map .p)
 |[]=>by simp[aU]
 |v::l=>by simp only[fb,aU,aD,true_and];exact iF n l
theorem Af{n:Nat×Nat->Prop}{u:cb}{fs:List AV}(h:aU n fs):aD n (gO u fs):=by
 unfold gO;cases dW fs with
 |none=>exact h
 |some l=>simp[aD]
theorem cK{n:Nat×Nat->Prop}:∀{fs:List AV},aU n fs↔∀v∈fs,aD n v
 |[]=>by simp[aU]
 |v::vs=>by simp[aU,cK (fs:=vs)]
theorem rR:∀{l:List Nat}{fs:List AV}{d:List (List b5)}{i:Nat}{f:AV},bG P w aa β H l fs d->fs[i]?=some f->
 ∃pre c post,d.flatten=pre++c++post/\pre.length=(l.take i).sum/\i<l.length/\l[i]?=some c.length/\bh P w aa β H f c/\
  ∀b c',bh P w aa β H b c'->c'.length=c.length->∃a,a.flatten=pre++c'++post/\bG P w aa β H l (fs.set i b) a
 |[],[],_,i,f,_,hf=>by simp at hf
 |[],_::_,_,_,_,h,_=>by simp[bG]at h
 |_::_,[],_,_,_,h,_=>by simp[bG]at h
 |n::m,v::vs,d,0,f,h,hf=>by
  simp only[bG]at h;obtain⟨c,cs,rfl,g,e,j⟩:=h;simp at hf;subst hf;refine⟨[],c,cs.flatten,by simp,by simp,by simp,by simp[e],g,?_⟩;intro b c' hc k;exact⟨c'::cs,by simp,by simp only[gj,bG];exact⟨c',cs,rfl,hc,by omega,j⟩⟩
 |n::m,v::vs,d,i+1,f,h,hf=>by
  simp only[bG]at h;obtain⟨c,cs,rfl,g,e,j⟩:=h;simp at hf;obtain⟨pre,x,post,k1,k2,k3,k4,k5,k6⟩:=rR j hf;refine⟨c++pre,x,post,by simp[k1],by simp[k2,e],by simpa using k3,by simpa using k4,k5,?_⟩;intro b c' hc k;obtain⟨a,e1,e2⟩:=k6 b c' hc k;exact⟨c::a,by simp[e1],by simp only[List.set_cons_succ,bG];exact⟨c,a,rfl,g,e,e2⟩⟩
theorem Ic{t:AV}{u:cb}{cs:List b5}(hs:ad t= .agg u)(h:bh P w aa β H t cs):
 ∃l fs a,du P u=some l/\bG P w aa β H l fs a/\cs=a.flatten/\(∀c,t=.p c->fs=(bV c).map .p)/\(∀u' g,t=.st u' g->fs=g/\u'=u):=by
 cases t<;>simp[ad]at hs
 case p t=>
  cases t<;>simp[aJ]at hs;subst hs;simp only[bh,aV]at h;obtain⟨l,a,d,e,f⟩:=h;exact⟨l,_,a,d,mR.2 e,f,fun c b=>by cases b;rfl,fun _ _ h=>by cases h⟩
 case st u' fs=>
  subst hs;simp only[bh]at h;obtain⟨l,a,d,e,f⟩:=h;exact⟨l,fs,a,d,e,f,(fun c b=>by cases b),(fun j i b=>by cases b;exact⟨rfl,rfl⟩)⟩
theorem xT{t:PV}{a:List (cb×Nat)}:eL (.p t) a=(kn t a).map .p:=by
 cases a with
 |nil=>rfl
 |cons x r=>obtain⟨u,i⟩:=x;simp only[eL];cases kn t ((u,i)::r)<;>rfl
theorem od:∀{z:List (cb×Nat)}{t s:AV}{cs:List b5}{o:Nat},bh P w aa β H t cs->eL t z=some s->fS P z=some o->
 ∃n q post,cs=n++q++post/\n.length=o/\bh P w aa β H s q/\
  ∀x k a,fJ t z x=some a->bh P w aa β H x k->k.length=q.length->bh P w aa β H a (n++k++post)
 |[],t,s,cs,o,h,hs,d=>by
  simp[fS]at d;subst d;simp[eL]at hs;subst hs;refine⟨[],cs,[],by simp,by simp,h,?_⟩;intro x k a hx y _;simp[fJ]at hx;subst hx;simpa using y
 |(u,i)::r,t,s,cs,o,h,hs,d=>by
  simp only[fS]at d;cases m:du P u with
  |none=>simp[m]at d
  |some l=>
   cases v:fS P r with
   |none=>simp[m,v]at d
   |some o'=>
    simp[m,v]at d;obtain⟨J,rfl⟩:=d
    have key:∃fs f,(∃j e,du P u=some j/\bG P w aa β H j fs e/\cs=e.flatten)/\fs[i]?=some f/\eL f r=some s/\
     (∀x a,fJ t ((u,i)::r) x=some a->∃b,fJ f r x=some b/\a=gO u (fs.set i b)):=by
     cases t
     case p t=>
      rw[xT]at hs;simp only[kn]at hs
      by_cases g:aJ t=.agg u
      ·simp only[g,if_true]at hs;obtain⟨j,fs,e,k1,k2,k3,k4,_⟩:=Ic (t:=.p t) (by simpa[ad]using g) h;have:=k4 t rfl;subst this;cases hf:(bV t)[i]? with
       |none=>simp[hf]at hs
       |some f=>
        simp only[hf]at hs;refine⟨_,.p f,⟨j,e,k1,k2,k3⟩,by simp[hf],by rw[xT];exact hs,?_⟩;intro x a hx;simp only[fJ,g,if_true,hf]at hx;cases hq:fJ (.p f) r x with
        |none=>simp[hq]at hx
        |some b=>simp[hq]at hx;exact⟨b,rfl,hx.symm⟩
      ·simp[g]at hs
     case st u' fs=>
      simp only[eL]at hs
      by_cases g:u'=u
      ·subst g;simp only[if_true]at hs;obtain⟨j,D,e,k1,k2,k3,_,k4⟩:=Ic (t:=.st u' fs) rfl h;have:=(k4 _ _ rfl).1;subst this;cases hf:D[i]? with
       |none=>simp[hf]at hs
       |some f=>
        simp only[hf]at hs;refine⟨_,f,⟨j,e,k1,k2,k3⟩,hf,hs,?_⟩;intro x a hx;simp only[fJ,if_true,hf]at hx;cases hq:fJ f r x with
        |none=>simp[hq]at hx
        |some b=>simp[hq]at hx;exact⟨b,rfl,hx.symm⟩
      ·simp[g]at hs
     all_goals simp[eL]at hs
    obtain⟨fs,f,⟨j,e,k1,k2,k3⟩,hf,F,aI⟩:=key;rw[m]at k1;cases k1;obtain⟨n,c,post,e1,e2,e3,e4,e5,C⟩:=rR k2 hf;obtain⟨I,q,G,g1,g2,g3,g4⟩:=od e5 F v;refine⟨n++I,q,G++post,by rw[k3,e1,g1];simp,by simp[e2,g2],g3,?_⟩;intro x k a hx y A;obtain⟨b,E,rfl⟩:=aI x a hx;have aQ:=g4 x k b E y A;obtain⟨B,c1,c2⟩:=C b _ aQ (by rw[g1];simp[A]);rw[Jp];simp only[bh];exact⟨l,B,m,c2,by rw[c1];simp⟩
theorem xt{path:List (cb×Nat)}{t s:PV}{cs:List b5}{o:Nat}(h:aV P w aa t cs)(hs:kn t path=some s)(f:fS P path=some o):
 ∃a b post,cs=a++b++post/\a.length=o/\aV P w aa s b:=by
 obtain⟨a,b,post,c,d,e,_⟩:=od (β:=⟨id,id⟩) (H:=[]) (t:=.p t) (s:=.p s) (by simpa[bh]using h) (by rw[xT,hs];rfl) f;exact⟨a,b,post,c,d,by simpa[bh]using e⟩
theorem tZ{n:Nat×Nat->Prop}:∀{a:List (cb×Nat)}{t s:AV},eL t a=some s->aD n t->aD n s
 |[],t,s,hs,h=>by simp[eL]at hs;subst hs;exact h
 |(u,i)::r,.p t,s,hs,h=>by
  rw[xT]at hs;cases hq:kn t ((u,i)::r)with
  |none=>simp[hq]at hs
  |some q=>simp[hq]at hs;subst hs;simp[aD]
 |(u,i)::r,.st u' fs,s,hs,h=>by
  simp only[eL]at hs
  split at hs
  ·split at hs
   ·rename_i f hf;simp only[aD]at h;exact tZ hs (cK.1 h f (gg hf))
   ·simp at hs
  ·simp at hs
 |_::_,.ptr ..,_,hs,_|_::_,.bQ ..,_,hs,_|_::_,.sl ..,_,hs,_|_::_,.map ..,_,hs,_|_::_,.func ..,_,hs,_|_::_,.aA ..,_,hs,_=>by simp[eL]at hs
theorem ua{n:Nat×Nat->Prop}:∀{e:List (cb×Nat)}{t b x:AV},fJ t e x=some b->aD n t->aD n x->aD n b
 |[],t,b,x,hs,h,hx=>by simp[fJ]at hs;subst hs;exact hx
 |(u,i)::r,.p t,b,x,hs,h,hx=>by
  simp only[fJ]at hs
  split at hs
  ·split at hs
   ·split at hs
    ·rename_i f hf d c;simp at hs;subst hs;refine Af (cK.2 ?_);intro v a;rcases fv a with a|rfl
     ·exact cK.1 (iF n _) v a
     ·exact ua c (by simp[aD]) hx
    ·simp at hs
   ·simp at hs
  ·simp at hs
 |(u,i)::r,.st u' fs,b,x,hs,h,hx=>by
  simp only[fJ]at hs
  split at hs
  ·split at hs
   ·split at hs
    ·rename_i _ f hf _ d c;simp at hs;subst hs;simp only[aD]at h;refine Af (cK.2 ?_);intro v a;rcases fv a with a|rfl
     ·exact cK.1 h v a
     ·exact ua c (cK.1 h f (gg hf)) hx
    ·simp at hs
   ·simp at hs
  ·simp at hs
 |_::_,.ptr ..,_,_,hs,_,_|_::_,.bQ ..,_,_,hs,_,_|_::_,.sl ..,_,_,hs,_,_|_::_,.map ..,_,_,hs,_,_|_::_,.func ..,_,_,hs,_,_|_::_,.aA ..,_,_,hs,_,_=>by simp[fJ]at hs
end
structure aS where
 v:AV
 ak:List (Nat×Obj):=[]
 aI:List (Nat×Obj):=[]
 aQ:List Obj:=[]
def bk(H:aj)(l:List (Nat×Obj)):aj:=
 match l with
 |[]=>H
 |(b,o)::r=>bk (H.set b o) r
def put(dst:Option Tmp)(v:AV)(e:Env):Env:=
 match dst with
 |some d=>(d,v)::e
 |none=>e
def aS.app(e:aS)(dst:Option Tmp)(s:St):St:=⟨put dst e.v s.env,bk s.heap e.aI++e.aQ⟩
def ev(e:Env):cx->AV
 | .tmp t=>aN e t
 | .const v=>.p (ofConst v)
 | .global g=>.p (Gl.g g)
 | .func f=>.p (.func f [] [])
def ga(s:List Nat):ByteArray:=⟨(s.map UInt8.ofNat).toArray⟩
mutual
def j0:PV->PV->Option Bool
 | .bool a,.bool b=>some (a==b)
 | .int k a,.int c b=>if k=c then some (a==b)else none
 | .str a,.str b=>some (a==b)
 | .st u fs,.st u' gs=>if u=u' then vp fs gs else none
 |_,_=>none
def vp:List PV->List PV->Option Bool
 |[],[]=>some true
 |a::as,b::bs=>match j0 a b with
  |some true=>vp as bs
  |some false=>some false
  |none=>none
 |_,_=>none
end
def lM(P:b4)(c:cb->PV->PV->Option Bool):List cb->List PV->List PV->Option Bool
 |[],[],[]=>some true
 |T::d,a::as,b::bs=>
  if kindOf P T=aJ a/\kindOf P T=aJ b then
   (match c T a b,lM P c d as bs with
   |some r,some s=>some (r&&s)
   |_,_=>none)
  else none
 |_,_,_=>none
def iC(P:b4):Nat->cb->PV->PV->Option Bool
 |0,_,_,_=>none
 |n+1,T,v,v'=>
  match P.underlying T,v,v' with
  |some .bool,.bool a,.bool b=>some (a==b)
  |some (.int _),.int k a,.int c b=>if k=c then some (a==b)else none
  |some .string,.str a,.str b=>some (a==b)
  |some (.struct fs),.st u xs,.st u' d=>
   if kindOf P T= .agg u/\u'=u/\P.stoodInHeld T=false/\fs.toList.all (fun f=>f.name != "_")=true then lM P (iC P n) (fs.toList.map (·.type)) xs d else none
  |_,_,_=>none
def qS(P:b4)(T:cb):Bool:=!P.eqGuardType P.depth T
def pU(P:b4)(T:cb):Bool:=match P.underlying T with|some .bool=>true|_=>false
def aIV(P:b4)(T:cb):Bool:=match P.underlying T with|some (.int _)=>true|_=>false
def ia(P:b4)(T:cb):Bool:=match P.underlying T with|some .string=>true|_=>false
inductive tl where|ptr|slice|map|func|iface
 deriving DecidableEq
def lO:cx->Bool
 | .const _=>true
 |_=>false
def dm(P:b4)(T:cb)(c:Bool):AV->Option tl
 | .p .dJ=>match P.underlying T with
  |some (.pointer _)=>some .ptr
  |_=>none
 | .p .aL=>match P.underlying T with
  |some (.slice _)=>some .slice
  |_=>none
 | .p .fq=>match P.underlying T with
  |some (.map _ _)=>some .map
  |_=>none
 | .p .gW=>match P.underlying T with
  |some (.func _ _ _)=>some .func
  |_=>none
 | .p .fZ=>match c,P.underlying T with
  |true,some (.interface _)=>some .iface
  |_,_=>none
 |_=>none
def cH(H:aj)(k:tl)(x:AV):Option Bool:=
 match k,x with
 | .ptr,.p .dJ| .slice,.p .aL| .map,.p .fq| .func,.p .gW| .iface,.p .fZ=>some true
 | .ptr,.p (.bZ _)| .slice,.p (.cE _ _)| .map,.p (.eH _)| .func,.p (.func _ _ _)| .func,.func _ _ _=>some false
 | .ptr,.ptr b _=>match H[b]? with
  |some (.box _ _)=>some false
  |_=>none
 | .map,.map b=>match H[b]? with
  |some (.map _ _)=>some false
  |_=>none
 | .slice,.p (.seq (_::_))=>some false
 | .slice,.sl b ar ai _ _=>match H[b]? with
  |some (.arr k c a es)=>if ar=c/\ai=a then some (k.gr&&es.isEmpty)else none
  |_=>none
 |_,_=>none
def oH(op:BinOp)(k:dk)(a b:Int)(K:PV->Prop):Prop:=
 match op with
 | .add=>K (.int k (k.wrap (a+b)))
 | .sub=>K (.int k (k.wrap (a-b)))
 | .mul=>K (.int k (k.wrap (a*b)))
 | .quo=>b≠0/\K (.int k (k.wrap (a.tdiv b)))
 | .rem=>b≠0/\K (.int k (a.tmod b))
 | .and=>K (.int k (k.wrap (b1 k.bits a&&&b1 k.bits b).toNat))
 | .or=>K (.int k (k.wrap (b1 k.bits a|||b1 k.bits b).toNat))
 | .xor=>K (.int k (k.wrap (b1 k.bits a^^^b1 k.bits b).toNat))
 | .andNot=>K (.int k (k.wrap (b1 k.bits a&&&~~~b1 k.bits b).toNat))
 | .eql=>K (.bool (a==b))
 | .neq=>K (.bool (a !=b))
 | .lss=>K (.bool (decide (a<b)))
 | .leq=>K (.bool (decide (a<=b)))
 | .gtr=>K (.bool (decide (a>b)))
 | .geq=>K (.bool (decide (a>=b)))
 | .shl=>0<=b/\K (.int k (k.wrap (a*2^(min b.toNat k.bits))))
 | .shr=>0<=b/\K (.int k (a.fdiv (2^(min b.toNat k.bits))))
def iQ:List Nat->List Nat->Bool
 |_,[]=>false
 |[],_::_=>true
 |a::x,b::y=>decide (a<b)||(a==b&&iQ x y)
def oG(op:BinOp)(a b:List Nat)(K:PV->Prop):Prop:=
 match op with
 | .add=>a.length+b.length<9223372036854775808/\K (.str (a++b))
 | .eql=>K (.bool (a==b))
 | .neq=>K (.bool (!(a==b)))
 | .lss=>K (.bool (iQ a b))
 | .leq=>K (.bool (iQ a b||a==b))
 | .gtr=>K (.bool (!(iQ a b||a==b)))
 | .geq=>K (.bool (!(iQ a b)))
 |_=>False
def jU(P:b4)(op:BinOp)(T:cb)(c:Bool)(H:aj)(x y:AV)(K:PV->Prop):Prop:=
 match x,y with
 | .p (.int k a),.p (.int d b)=>(k=d\/op=.shl\/op=.shr)/\oH op k a b K
 | .p (.str a),.p (.str b)=>oG op a b K
 | .p (.bool a),.p (.bool b)=>pU P T=true/\match op with
  | .eql=>K (.bool (a==b))
  | .neq=>K (.bool (!(a==b)))
  |_=>False
 | .p (.st u fs),.p (.st u' gs)=>qS P T=true/\(match iC P 9 T (.st u fs) (.st u' gs),op with
  |some r,.eql=>K (.bool r)
  |some r,.neq=>K (.bool !r)
  |_,_=>False)
 |x,y=>
  (match dm P T c y with
  |some k=>(match cH H k x,op with
   |some r,.eql=>K (.bool r)
   |some r,.neq=>K (.bool !r)
   |_,_=>False)
  |none=>False)
def cN:Nat:=1073741824
def gA(H:aj):AV->Option (List AV)
 | .p .aL=>some []
 | .p (.cE _ es)=>some (es.map .p)
 | .p (.seq es)=>some (es.map .p)
 | .p (.str s)=>some (s.map fun c=>.p (.int .u8 (c:Nat)))
 | .sl b ar ai off len=>match H[b]? with
  |some (.arr _ d a es)=>if ar=d/\ai=a/\off+len<=es.length then some ((es.drop off).take len)else none
  |_=>none
 |_=>none
def dt(H:aj):AV->List (Nat×Obj)
 | .sl b _ _ _ _| .ptr b _| .bQ b _ _ _ _| .map b=>match H[b]? with
  |some o=>[(b,o)]
  |none=>[]
 |_=>[]
def eZ(P:b4)(ai:Nat):List AV->Prop
 |[]=>True
 |v::vs=>(ad v≠.bad/\bA P (ad v)=ai)/\eZ P ai vs
def cz(P:b4)(T:cb):Option Nat:=
 match P.underlying T with
 |some (.slice e)=>match P.info? e with
  |some i=>if i.bytes<32768/\0<i.size/\0<i.bytes then some i.size else none
  |none=>none
 |_=>none
def ey(P:b4)(T:cb):cb:=
 match P.underlying T with
 |some (.slice e)=>e
 |_=>0
def iA(P:b4)(X:cb):Bool:=
 match P.underlying X with
 |some (.int _)=>false
 |some _=>true
 |none=>false
def gk(P:b4)(T:cb):AK:=if ey P T=Gl.u8 then .bytes else .grow
def mQ(P:b4)(T X:cb)(H:aj)(s x:AV)(K:aS->Prop):Prop:=
 match cz P T,gA H x with
 |some sz,some xs=>iA P X=true/\(ch P (ey P T)).isSome=true/\eZ P sz xs/\
  (match s with
  | .p .aL=>if xs.isEmpty then K {v:=s,ak:=dt H x}else xs.length<=cN/\K {v:=.sl H.length 0 sz 0 xs.length,ak:=dt H x,aQ:=[.arr (gk P T) 0 sz xs]}
  | .p (.cE full es)=>eZ P sz (es.map .p)/\if xs.isEmpty then K {v:=s,ak:=dt H x}else full=true/\es.length+xs.length<=cN/\
   K {v:=.sl H.length 0 sz 0 (es.length+xs.length),ak:=dt H x,aQ:=[.arr (gk P T) 0 sz (es.map .p++xs)]}
  | .sl b ar ai off len=>match H[b]? with
   |some (.arr k c a es)=>ar=c/\ai=a/\ai=sz/\off+len<=es.length/\
    if xs.isEmpty then K {v:=s,ak:=(b,.arr k c a es)::dt H x}
    else es.length+xs.length<=cN/\(match k with
     | .frozen=>False
     | .exact=>if off+len+xs.length<=es.length then
      K {v:=.sl b ar ai off (len+xs.length),ak:=(b,.arr k c a es)::dt H x,aI:=[(b,.arr .exact ar ai (es.take (off+len)++xs++es.drop (off+len+xs.length)))]}
      else K {v:=.sl H.length 0 sz 0 (len+xs.length),ak:=(b,.arr k c a es)::dt H x,aQ:=[.arr (gk P T) 0 sz ((es.drop off).take len++xs)]}
     |_=>off=0/\(k=.bytes->ey P T=Gl.u8)/\K {v:=.sl b (ar+1) ai 0 (len+xs.length),ak:=(b,.arr k c a es)::dt H x,aI:=[(b,.arr k (ar+1) ai (es.take len++xs))]})
   |_=>False
  |_=>False)
 |_,_=>False
def gl(x:Option AV)(d:Nat)(K:Nat->Prop):Prop:=
 match x with
 |none=>K d
 |some (.p (.int _ i))=>0<=i/\K i.toNat
 |_=>False
def mY(P:b4)(T:cb)(H:aj)(x:AV)(lo hi d:Option AV)(K:aS->Prop):Prop:=
 d.isNone/\match x with
 | .p (.str s)=>ia P T=true/\gl hi s.length fun h=>gl lo 0 fun l=>h<=s.length/\l<=h/\K {v:=.p (.str ((s.take h).drop l))}
 | .p .aL=>(cz P T).isSome=true/\gl hi 0 fun h=>gl lo 0 fun l=>h<=0/\l<=h/\K {v:=x}
 | .p (.cE full es)=>gl hi es.length fun h=>gl lo 0 fun l=>h<=es.length/\l<=h/\
  (match cz P T with
  |some sz=>eZ P sz (es.map .p)/\K {v:=.p (.cE (full&&h==es.length) ((es.take h).drop l))}
  |none=>False)
 | .p (.seq es)=>gl hi es.length fun h=>gl lo 0 fun l=>h<=es.length/\l<=h/\
  (match cz P T with
  |some sz=>eZ P sz (es.map .p)/\K {v:=.p (.seq ((es.take h).drop l))}
  |none=>False)
 | .sl b ar ai off len=>match H[b]? with
  |some (.arr k c a es)=>ar=c/\ai=a/\cz P T=some ai/\¬(k.gr=true/\es=[])/\off+len<=es.length/\
   gl hi len fun h=>gl lo 0 fun l=>off+h<=es.length/\l<=h/\
    (if l=0 then K {v:=.sl b ar ai off h,ak:=[(b,.arr k c a es)]}
    else if l=h then K {v:=.p (.cE false []),ak:=[(b,.arr k c a es)]}
    else K {v:=.sl b ar ai (off+l) (h-l),ak:=[(b,.arr k c a es)]})
  |_=>False
 |_=>False
def pF(P:b4)(T:cb)(H:aj)(x:AV)(lo hi:Option AV)(m:AV)(K:aS->Prop):Prop:=
 match x with
 | .sl b ar ai off len=>match H[b]? with
  |some (.arr k c a es)=>ar=c/\ai=a/\(cz P T).isSome=true/\¬(k.gr=true/\es=[])/\off+len<=es.length/\hi.isSome=true/\
   gl hi len fun h=>gl lo 0 fun l=>gl (some m) 0 fun m=>off+m<=es.length/\h<=m/\l<=h/\K {v:=.p .undef,ak:=[(b,.arr k c a es)]}
  |_=>False
 |_=>False
def qR(P:b4)(T:cb)(x k:PV):Option Bool:=match x with
 | .st u fs=>match iC P 9 T (.st u fs) k,j0 (.st u fs) k with
  |some a,some b=>bif a==b then some a else none
  |_,_=>none
 |x=>j0 x k
def fL(P:b4)(T:cb):List (PV×PV)->PV->Option (Option PV)
 |[],_=>some none
 |(k,v)::r,x=>match qR P T x k with
  |some true=>some (some v)
  |some false=>fL P T r x
  |none=>none
def lD(P:b4)(T:cb)(a:List (PV×PV))(x:PV):Option (Option PV):=match x with
 | .st u fs=>match fL P T a (.st u fs)with
  |some none=>some none
  |_=>none
 |x=>fL P T a x
def gh:List (PV×PV)->PV->PV->List (PV×PV)
 |[],k,v=>[(k,v)]
 |(a,v')::r,k,v=>if j0 k a=some true then(k,v)::r else(a,v')::gh r k v
def rU(P:b4)(T:cb):Bool:=match P.underlying T with
 |some (.int _)|some .string|some .bool=>true
 |_=>false
def fM(P:b4)(T:cb):PV->Bool
 | .int k _=>match P.underlying T with
  |some (.int a)=>decide (k=a)
  |_=>false
 | .str _=>ia P T
 | .st u fs=>match P.underlying T with
  |some (.struct bV)=>bV.toList.all (fun f=>f.name != "_" &&rU P f.type)&&(iC P 9 T (.st u fs) (.st u fs)).isSome
  |_=>false
 |_=>false
def kJ(P:b4)(T:cb):Option (cb×cb):=
 match P.underlying T with
 |some (.map k e)=>some (k,e)
 |_=>none
def lenOf(H:aj):AV->Option (Nat×List (Nat×Obj))
 | .p (.str s)=>some (s.length,[])
 | .p .aL| .p .fq=>some (0,[])
 | .p (.cE _ es)| .p (.seq es)=>some (es.length,[])
 | .p (.eH es)=>some (es.length,[])
 | .sl b ar ai _off len=>match H[b]? with
  |some (.arr k c a es)=>if ar=c/\ai=a then some (len,[(b,.arr k c a es)])else none
  |_=>none
 | .map b=>match H[b]? with
  |some (.map fz es)=>some (es.length,[(b,.map fz es)])
  |_=>none
 |_=>none
def gI(P:b4)(T:cb):AV->Bool
 | .p (.str _)=>ia P T
 | .p .aL| .p (.cE _ _)| .p (.seq _)| .sl ..=>match P.underlying T with
  |some (.slice _)=>true
  |_=>false
 | .p .fq| .p (.eH _)| .map _=>match P.underlying T with
  |some (.map _ _)=>true
  |_=>false
 |_=>false
def yH(H:aj):AV->Option (Nat×List (Nat×Obj))
 | .p .aL=>some (0,[])
 | .p (.cE true es)=>some (es.length,[])
 | .sl b ar ai off _len=>match H[b]? with
  |some (.arr .exact c a es)=>if ar=c/\ai=a/\off<=es.length then some (es.length-off,[(b,.arr .exact c a es)])else none
  |_=>none
 |_=>none
def bytesOf:List AV->Option (List Nat)
 |[]=>some []
 | .p (.int .u8 c)::r=>if 0<=c/\c<256 then match bytesOf r with
  |some l=>some (c.toNat::l)
  |none=>none
  else none
 |_=>none
def ptrTo(P:b4)(T:cb):Option cb:=
 match P.underlying T with
 |some (.pointer e)=>some e
 |_=>none
def ln(k:dk)(c:Bool):List AV->Int->Option Int
 |[],a=>some a
 | .p (.int d b)::r,a=>if k=d then ln k c r (if c then(if b>a then b else a)else(if b<a then b else a))else none
 |_,_=>none
def gY(a:List AV):List (Nat×AV)->List AV
 |[]=>a
 |(i,v)::r=>gY (a.set i v) r
def lj(P:b4)(l:List Nat):List (Nat×AV)->Prop
 |[]=>True
 |(i,v)::r=>(∃n,l[i]?=some n/\bA P (ad v)=n/\ad v≠.bad)/\lj P l r
def fD(H:aj):List AV->Option (List PV×List (Nat×Obj)×List (Nat×Obj))
 |[]=>some ([],[],[])
 | .p v::r=>match fD H r with
  |some (a,ak,aI)=>some (v::a,ak,aI)
  |none=>none
 | .ptr b []::r=>match H[b]?,fD H r with
  |some (.box fz (.p t)),some (a,ak,aI)=>some (.bZ t::a,(b,.box fz (.p t))::ak,(b,.box true (.p t))::aI)
  |_,_=>none
 |_=>none
def nu(P:b4)(T:cb)(H:aj)(a:AV)(K:aS->Prop):Prop:=
 match a with
 | .ptr b path=>match H[b]? with
  |some (.box fz t)=>match eL t path with
   |some s=>kindOf P T=ad s/\K {v:=s,ak:=[(b,.box fz t)]}
   |none=>False
  |_=>False
 | .bQ b ar ai i path=>match H[b]? with
  |some (.arr k d c es)=>ar=d/\ai=c/\∃h:i<es.length,match eL (es[i]'h) path with
   |some s=>kindOf P T=ad s/\K {v:=s,ak:=[(b,.arr k d c es)]}
   |none=>False
  |_=>False
 | .p (.bZ t)=>kindOf P T=aJ t/\K {v:=.p t}
 |_=>False
def mX(P:b4)(T:cb)(H:aj)(a x:AV)(K:aS->Prop):Prop:=
 kindOf P T=ad x/\ad x≠.bad/\match a with
 | .ptr b path=>match H[b]? with
  |some (.box false t)=>match eL t path,fJ t path x with
   |some s,some d=>ad s=ad x/\K {v:=.p (.aA []),ak:=[(b,.box false t)],aI:=[(b,.box false d)]}
   |_,_=>False
  |_=>False
 | .bQ b ar ai i path=>match H[b]? with
  |some (.arr k e c es)=>ar=e/\ai=c/\k≠.frozen/\∃h:i<es.length,match eL (es[i]'h) path,fJ (es[i]'h) path x with
   |some s,some d=>ad s=ad x/\K {v:=.p (.aA []),ak:=[(b,.arr k e c es)],aI:=[(b,.arr k e c (es.set i d))]}
   |_,_=>False
  |_=>False
 |_=>False
def fw(P:b4)(T:cb):Option (cb×Nat):=
 match kindOf P T,P.underlying T with
 | .agg u,some (.struct fs)=>some (u,fs.size)
 |_,_=>none
def gT(P:b4)(T:cb):Option (cb×Nat):=
 match kindOf P T,P.underlying T with
 | .agg u,some (.array n _)=>some (u,n)
 |_,_=>none
def mO(P:b4)(T:cb)(a:AV)(f:Nat)(K:aS->Prop):Prop:=
 match fw P T with
 |some (u,n)=>f<n/\(match a with
  | .ptr b path=>K {v:=.ptr b (path++[(u,f)])}
  | .bQ b ar ai i path=>K {v:=.bQ b ar ai i (path++[(u,f)])}
  | .p (.bZ t)=>aJ t=.agg u/\(match(bV t)[f]? with
   |some g=>K {v:=.p (.bZ g)}
   |none=>False)
  |_=>False)
 |_=>False
def mN(P:b4)(T:cb)(H:aj)(x i:AV)(K:aS->Prop):Prop:=
 match i with
 | .p (.int _ i)=>0<=i/\(match x with
  | .p (.cE _ es)=>∃h:i.toNat<es.length,cz P T=some (bA P (aJ (es[i.toNat]'h)))/\K {v:=.p (.bZ (es[i.toNat]'h))}
  | .p (.seq es)=>∃h:i.toNat<es.length,cz P T=some (bA P (aJ (es[i.toNat]'h)))/\K {v:=.p (.bZ (es[i.toNat]'h))}
  | .sl b ar ai off len=>cz P T=some ai/\i.toNat<len/\(match H[b]? with
   |some (.arr k c a es)=>ar=c/\ai=a/\¬(k.gr=true/\es=[])/\K {v:=.bQ b ar ai (off+i.toNat) [],ak:=[(b,.arr k c a es)]}
   |_=>False)
  | .ptr b path=>(match gT P T with
   |some (u,n)=>i.toNat<n/\K {v:=.ptr b (path++[(u,i.toNat)])}
   |_=>False)
  | .bQ b ar ai j path=>(match gT P T with
   |some (u,n)=>i.toNat<n/\K {v:=.bQ b ar ai j (path++[(u,i.toNat)])}
   |_=>False)
  | .p (.bZ t)=>(match gT P T with
   |some (u,n)=>aJ t=.agg u/\i.toNat<n/\(match(bV t)[i.toNat]? with
    |some g=>K {v:=.p (.bZ g)}
    |none=>False)
   |_=>False)
  |_=>False)
 |_=>False
def fu(P:b4)(ag:cv->Bool)(o:Oper)(ρ:cx->AV)(H:aj)(K:aS->Prop):Prop:=
 match o.op with
 | .move x| .assign x=>K {v:=ρ x}
 | .pick c a b=>match ρ c with
  | .p (.bool t)=>K {v:=if t then ρ a else ρ b}
  |_=>False
 | .alloc T=>match ch P T with
  |some z=>kindOf P T=aJ z/\aJ z≠.bad/\iY T (aJ z)=true/\K {v:=.ptr H.length [],aQ:=[.box false (.p z)]}
  |none=>False
 | .box T x=>kindOf P T=ad (ρ x)/\ad (ρ x)≠.bad/\iY T (ad (ρ x))=true/\K {v:=.ptr H.length [],aQ:=[.box false (ρ x)]}
 | .build T parts=>match kindOf P T,ch P T with
  | .agg u,some z=>(match du P u with
   |some l=>aJ z=.agg u/\lj P l (parts.toList.map fun(i,x)=>(i,ρ x))/\K {v:=gO u (gY ((bV z).map .p) (parts.toList.map fun(i,x)=>(i,ρ x)))}
   |none=>False)
  |_,_=>False
 | .buildSlice T n parts=>match cz P T,ch P (ey P T)with
  |some sz,some z=>bA P (aJ z)=sz/\n*sz<=1000000/\lj P (ew n sz) (parts.toList.map fun(i,x)=>(i,ρ x))/\
   K {v:=.sl H.length 0 sz 0 n,aQ:=[.arr .exact 0 sz (gY (ew n (.p z)) (parts.toList.map fun(i,x)=>(i,ρ x)))]}
  |_,_=>False
 | .load T a=>nu P T H (ρ a) K
 | .store T a x=>mX P T H (ρ a) (ρ x) K
 | .binOp op T x y _=>jU P op T (lO y) H (ρ x) (ρ y) (fun v=>K {v:=.p v,ak:=dt H (ρ x)})
 | .unOp op _ x=>match op,ρ x with
  | .not,.p (.bool b)=>K {v:=.p (.bool (!b))}
  | .neg,.p (.int k n)=>K {v:=.p (.int k (k.wrap (0-n)))}
  | .xor,.p (.int k n)=>K {v:=.p (.int k (k.wrap (b1 k.bits (if k.signed then -1 else k.max)^^^b1 k.bits n).toNat))}
  |_,_=>False
 | .convert S D x=>match P.underlying S,P.underlying D,ρ x with
  |some _,some (.int k),.p (.int _ n)=>K {v:=.p (.int k (k.wrap n))}
  |some _,some .string,.p (.str s)=>K {v:=.p (.str s)}
  |some (.slice e),some .string,.sl b ar ai off len=>(match H[b]? with
   |some (.arr k q j es)=>ar=q/\ai=j/\ai=1/\P.underlying e=some (.int .u8)/\0<len/\off+len<=es.length/\(match bytesOf ((es.drop off).take len)with
    |some l=>K {v:=.p (.str l),ak:=[(b,.arr k q j es)]}
    |none=>False)
   |_=>False)
  |_,_,_=>False
 | .extract t i=>match ρ t with
  | .p (.aA vs)=>(match vs[i]? with
   |some v=>K {v:=.p v}
   |none=>False)
  | .aA vs=>(match vs[i]? with
   |some v=>K {v}
   |none=>False)
  |_=>False
 | .fieldAddr T a f=>mO P T (ρ a) f K
 | .indexAddr T x i=>mN P T H (ρ x) (ρ i) K
 | .field T x f=>match kindOf P T,P.underlying T,ρ x with
  | .agg u,some (.struct _),.p t=>aJ t=.agg u/\(match(bV t)[f]?,(jg P u)[f]? with
   |some g,some F=>kindOf P F=aJ g/\K {v:=.p g}
   |_,_=>False)
  |_,_,_=>False
 | .index T x i=>match ρ x,ρ i with
  | .p (.str s),.p (.int _ i)=>ia P T=true/\0<=i/\∃h:i.toNat<s.length,K {v:=.p (.int .u8 (s[i.toNat]'h))}
  | .p (.st u es),.p (.int _ i)=>(match gT P T,(jg P u)[i.toNat]?,es[i.toNat]? with
   |some (u',n),some F,some g=>u'=u/\0<=i/\i.toNat<n/\kindOf P F=aJ g/\K {v:=.p g}
   |_,_,_=>False)
  |_,_=>False
 | .makeFunc (.func f) fi ca=>if ag f then(match fD H (fi.toList.map ρ),fD H (ca.toList.map ρ)with
  |some (a,[],[]),some (b,ak,aI)=>K {v:=.p (.func f a b),ak,aI}
  |_,_=>False)
  else match dW (fi.toList.map ρ),dW (ca.toList.map ρ)with
   |some a,some b=>K {v:=.p (.func f a b)}
   |_,_=>K {v:=.func f (fi.toList.map ρ) (ca.toList.map ρ)}
 | .makeSlice T l c=>match cz P T,ch P (ey P T),ρ l,ρ c with
  |some sz,some z,.p (.int .i64 l),.p (.int .i64 c)=>bA P (aJ z)=sz/\0<=l/\l=c/\l<=cN/\K {v:=.sl H.length 0 sz 0 l.toNat,aQ:=[.arr .exact 0 sz (ew l.toNat (.p z))]}
  |_,_,_,_=>False
 | .slice T x lo hi A=>match A with
  |none=>mY P T H (ρ x) (lo.map ρ) (hi.map ρ) none K
  |some m=>pF P T H (ρ x) (lo.map ρ) (hi.map ρ) (ρ m) K
 | .makeMap _ none=>K {v:=.map H.length,aQ:=[.map false []]}
 | .lookup T x i ok=>match kJ P T,ρ i with
  |some (w,E),.p key=>(match ch P E with
   |some z=>fM P w key=true/\(match ρ x with
    | .p .fq=>K {v:=.p (if ok then .aA [z,.bool false]else z)}
    | .p (.eH es)=>(match fL P w es key with
     |some (some v)=>K {v:=.p (if ok then .aA [v,.bool true]else v)}
     |some none=>K {v:=.p (if ok then .aA [z,.bool false]else z)}
     |none=>False)
    | .map b=>(match H[b]? with
     |some (.map fz es)=>(match fL P w es key with
      |some (some v)=>K {v:=.p (if ok then .aA [v,.bool true]else v),ak:=[(b,.map fz es)]}
      |some none=>K {v:=.p (if ok then .aA [z,.bool false]else z),ak:=[(b,.map fz es)]}
      |none=>False)
     |_=>False)
    |_=>False)
   |none=>False)
  |_,_=>False
 | .mapUpdate T m k x| .insert T m k x=>match kJ P T,ρ m,ρ k,ρ x with
  |some (w,_),.map b,.p key,.p v=>fM P w key=true/\(match H[b]? with
   |some (.map false es)=>(match lD P w es key with
    |some _=>K {v:=.p (.aA []),ak:=[(b,.map false es)],aI:=[(b,.map false (gh es key v))]}
    |none=>False)
   |_=>False)
  |_,_,_,_=>False
 | .range T x=>match ρ x with
  | .p (.str s)=>ia P T=true/\K {v:=.ptr H.length [],aQ:=[.dc s 0]}
  |_=>False
 | .next it true=>match ρ it with
  | .ptr b []=>(match H[b]? with
   |some (.dc s pos)=>if pos<s.length then
    K {v:=.p (.aA [.bool true,.int .i64 pos,.int .i32 (Utf8.decode (ga s) pos).1]),ak:=[(b,.dc s pos)],aI:=[(b,.dc s (pos+(Utf8.decode (ga s) pos).2))]}
    else K {v:=.p (.aA [.bool false]),ak:=[(b,.dc s pos)]}
   |_=>False)
  |_=>False
 | .nilCheck x=>match ρ x with
  | .ptr _ _| .bQ _ _ _ _ _| .p (.bZ _)=>K {v:=ρ x}
  |_=>False
 | .call c=>match c.callee with
  | .builtin b=>let args:=c.args.toList.map ρ
   let T:=c.argTypes.getD 0 0
   (match b,args with
   | .len,[x]=>(match lenOf H x with
    |some (n,ak)=>gI P T x=true/\0<c.argTypes.size/\K {v:=.p (.int .i64 n),ak}
    |none=>False)
   | .append,[s,x]=>c.argTypes.size=2/\mQ P T (c.argTypes.getD 1 0) H s x K
   | .min,.p (.int k a)::r=>(match ln k false r a with
    |some n=>K {v:=.p (.int k n)}
    |none=>False)
   | .max,.p (.int k a)::r=>(match ln k true r a with
    |some n=>K {v:=.p (.int k n)}
    |none=>False)
   | .copy,[d,x]=>(match cz P T,d,gA H x with
    |some sz,.sl b ar ai off len,some xs=>ai=sz/\eZ P sz xs/\c.argTypes.size=2/\(match H[b]? with
     |some (.arr k q j es)=>ar=q/\ai=j/\k≠.frozen/\off+len<=es.length/\¬(k.gr=true/\es=[])/\
      K {v:=.p (.int .i64 (min xs.length len:Nat)),ak:=(b,.arr k q j es)::dt H x,aI:=[(b,.arr k q j (es.take off++xs.take (min xs.length len)++es.drop (off+min xs.length len)))]}
     |_=>False)
    |_,_,_=>False)
   | .cap,[x]=>(match yH H x with
    |some (n,ak)=>gI P T x=true/\0<c.argTypes.size/\K {v:=.p (.int .i64 n),ak}
    |none=>False)
   | .clear,[x]=>(match x with
    | .p .aL=>gI P T x=true/\0<c.argTypes.size/\K {v:=.p (.aA [])}
    | .sl b ar ai off len=>(match cz P T,ch P (ey P T),H[b]? with
     |some sz,some z,some (.arr k q j es)=>ar=q/\ai=j/\ai=sz/\bA P (aJ z)=sz/\k≠.frozen/\off+len<=es.length/\¬(k.gr=true/\es=[])/\0<c.argTypes.size/\0<len/\
      K {v:=.p (.aA []),ak:=[(b,.arr k q j es)],aI:=[(b,.arr k q j (es.take off++ew len (.p z)++es.drop (off+len)))]}
     |_,_,_=>False)
    |_=>False)
   | .unsafeSliceData,[x]=>(match x with
    | .p .aL=>K {v:=.p .dJ}
    | .sl b ar ai off len=>(match H[b]? with
     |some (.arr k q j es)=>ar=q/\ai=j/\((k.gr=true/\es=[]/\K {v:=.p .dJ,ak:=[(b,.arr k q j es)]})\/(0<len/\off+len<=es.length/\K {v:=.bQ b ar ai off [],ak:=[(b,.arr k q j es)]}))
     |_=>False)
    |_=>False)
   | .unsafeString,[x,.p (.int .i64 n)]=>(match x with
    | .p .dJ=>n=0/\c.argTypes.size=2/\K {v:=.p (.str [])}
    | .bQ b ar ai i []=>(match H[b]? with
     |some (.arr .bytes q j es)=>ar=q/\ai=j/\ai=1/\i=0/\0<n/\n.toNat<=es.length/\n<=9223372036854775807/\c.argTypes.size=2/\ptrTo P T=some Gl.u8/\P.cellsOf Gl.u8=1/\(match bytesOf (es.take n.toNat)with
      |some l=>K {v:=.p (.str l),ak:=[(b,.arr .bytes q j es)],aI:=[(b,.dead)]}
      |none=>False)
     |_=>False)
    |_=>False)
   |_,_=>False)
  |_=>False
 |_=>False
def newAt(a:Nat):List Obj->List (Nat×Obj)
 |[]=>[]
 |o::r=>(a,o)::newAt (a+1) r
structure bP(P:b4)(ah aa:Nat->Prop)(w:cc)(β:Bd)(H:aj)(aE:Nat->Prop)(w':cc)(aG:Bd)(H':aj):Prop where
 bL:∀k,aa k->aE k
 fresh:∀k,aE k->aa k\/¬ah k
 ext:Ext ah aa w w'
 step:cd β H aG H'
 rel:bN P w' aE aG H' ah
 eQ:∀x,aF H x->aF H' x
 loop:∀b,gD H b->gD H' b
def Enters(P:b4)(f:cv):Prop:=∀(args:Array b5)(w:cc),(callFunc f args).run P w=.ok (.enter f args) w
def de(P:b4)(f:cv)(H:aj)(args:List AV)(H':aj)(v:AV):Prop:=
 Enters P f/\∀(w:cc)(aa ah:Nat->Prop)(β:Bd)(a:List b5),bN P w aa β H ah->bD P w aa β H args a->aU (aF H) args->
  dl P f a.toArray w fun e w'=>∃b aG aE,e=.returned b/\bP P ah aa w β H aE w' aG H'/\aw P w' aE aG H' v b/\aD (aF H') v
def fh(P:b4)(b:Nat)(H:aj)(args:List AV)(H':aj)(v:AV):Prop:=
 gD H b/\∀(w:cc)(aa ah:Nat->Prop)(β:Bd)(c:List b5),bN P w aa β H ah->bD P w aa β H args c->aU (aF H) args->
  ∃f tmps assign body,(Instr.yield (β.al b) c.toArray).run P w=.ok (.round (β.al b) f tmps assign body) w/\
   ∀(a:cy)(e:List cy),∃d w' aG aE,db P (lone (Frame.round (β.al b) f tmps assign body .normal) (a::e) w) (lone (a.finish d) e w')/\
    bP P ah aa w β H aE w' aG H'/\aw P w' aE aG H' v d/\aD (aF H') v
def qI(P:b4)(f:cv)(args:List AV)(base:Nat)(e:aS):Prop:=
 Enters P f/\∀(H:aj)(w:cc)(aa ah:Nat->Prop)(β:Bd)(a:List b5),bN P w aa β H ah->bD P w aa β H args a->aU (aF H) args->
  (∀p∈e.ak,H[p.1]?=some p.2)->(∀i,i<e.aQ.length->H[base+i]?=some .hole)->
  dl P f a.toArray w fun x w'=>∃b aG aE,x=.returned b/\bP P ah aa w β H aE w' aG (bk H (e.aI++newAt base e.aQ))/\
   aw P w' aE aG (bk H (e.aI++newAt base e.aQ)) e.v b/\aD (aF (bk H (e.aI++newAt base e.aQ))) e.v
def nw(P:b4)(b:Nat)(args:List AV)(a:Nat)(e:aS):Prop:=
 ∀(H:aj)(w:cc)(aa ah:Nat->Prop)(β:Bd)(d:List b5),bN P w aa β H ah->bD P w aa β H args d->aU (aF H) args->
  (∀p∈e.ak,H[p.1]?=some p.2)->(∀i,i<e.aQ.length->H[a+i]?=some .hole)->
  gD H b/\∃f tmps assign body,(Instr.yield (β.al b) d.toArray).run P w=.ok (.round (β.al b) f tmps assign body) w/\
   ∀(c:cy)(h:List cy),∃g w' aG aE,db P (lone (Frame.round (β.al b) f tmps assign body .normal) (c::h) w) (lone (c.finish g) h w')/\
    bP P ah aa w β H aE w' aG (bk H (e.aI++newAt a e.aQ))/\
    aw P w' aE aG (bk H (e.aI++newAt a e.aQ)) e.v g/\aD (aF (bk H (e.aI++newAt a e.aQ))) e.v
def CG(P:b4)(f:cv)(args:List AV)(ak:List (Nat×Obj))(v:PV):Prop:=
 ∀(H:aj)(w:cc)(aa ah:Nat->Prop)(β:Bd)(a:List b5),bN P w aa β H ah->bD P w aa β H args a->aU (aF H) args->(∀p∈ak,H[p.1]?=some p.2)->
  ∃b,(callFunc f a.toArray).run P w=.ok (.value b) w/\aB P w aa v b
def nC(H:aj)(e:aS):Prop:=(∀p∈e.ak,H[p.1]?=some p.2)/\(∀p∈e.aI,p.1<H.length/\p.2≠.hole)
def qH(P:b4)(f:cv)(args:List PV)(v:PV):Prop:=
 Enters P f/\∀(w:cc)(aa:Nat->Prop)(a:List b5),(∀k,aa k->k<w.heap.size)->mi P w aa->bE P w aa args a->
  dl P f a.toArray w fun e w'=>∃b,∃aE:Nat->Prop,e=.returned b/\(∀k,aa k->aE k)/\(∀k,aE k->aa k\/w.heap.size<=k)/\(∀k,aE k->k<w'.heap.size)/\
   w.heap.size<=w'.heap.size/\(∀k,k<w.heap.size->w'.heap[k]?=w.heap[k]?)/\(w'.os=w.os/\w'.output=w.output)/\aB P w' aE v b
def Pq(P:b4)(f:cv)(args:List PV)(v:PV):Prop:=
 ∀(w:cc)(aa:Nat->Prop)(a:List b5),bE P w aa args a->∃b,(callFunc f a.toArray).run P w=.ok (.value b) w/\aB P w aa v b
def au(P:b4)(f:cv)(args:List PV)(v:PV):Prop:=qH P f args v\/Pq P f args v
def iL(H:aj):AV->Option (PV×aj)
 | .p v=>some (v,H)
 | .sl b ar ai off len=>match H[b]? with
  |some (.arr k d a es)=>
   if ar=d/\ai=a/\off+len<=es.length then
    if k.gr=true/\es=[]then some (.aL,H)else
    match dW es with
    |some c=>some (.cE (k== .exact&&off+len==es.length) ((c.drop off).take len),H.set b (.arr .frozen ar ai es))
    |none=>none
   else none
  |_=>none
 | .ptr b path=>match H[b]? with
  |some (.box _ (.p t))=>match kn t path with
   |some s=>some (.bZ s,H.set b (.box true (.p t)))
   |none=>none
  |_=>none
 | .map b=>match H[b]? with
  |some (.map _ es)=>some (.eH es,H.set b (.map true es))
  |_=>none
 |_=>none
def jH(H:aj):List AV->Option (List PV×aj)
 |[]=>some ([],H)
 |x::r=>match iL H x with
  |some (v,H1)=>match jH H1 r with
   |some (vs,a)=>some (v::vs,a)
   |none=>none
  |none=>none
def gF(P:b4)(draw:Bool)(f:cv)(args:List AV)(H:aj)(K:AV->aj->Prop):Prop:=
 (∃vs v,args=vs.map .p/\au P f vs v/\K (.p v) H)\/
 (draw=false/\((∃vs H1 v,jH H args=some (vs,H1)/\au P f vs v/\K (.p v) H1)\/(∃H' v,de P f H args H' v/\K v H')\/
  (∃e,qI P f args H.length e/\nC H e/\K e.v (bk H e.aI++e.aQ))\/(∃ak v,CG P f args ak v/\(∀p∈ak,H[p.1]?=some p.2)/\K (.p v) H)))
def jo(P:b4)(ag:cv->Bool)(draw:Bool)(o:Oper)(K:St->Prop)(s:St):Prop:=
 match o.op with
 | .call {callee:=.value f,args,.. }=>(match ev s.env f with
  | .p (.func g fi ca)=>gF P draw g (fi.map .p++args.toList.map (ev s.env)++ca.map .p) s.heap (fun v H'=>K ⟨put o.dst v s.env,H'⟩)
  | .func g fi ca=>gF P draw g (fi++args.toList.map (ev s.env)++ca) s.heap (fun v H'=>K ⟨put o.dst v s.env,H'⟩)
  | .map b=>∃H' v,fh P b s.heap (args.toList.map (ev s.env)) H' v/\K ⟨put o.dst v s.env,H'⟩
  |_=>False)
 |_=>fu P ag o (ev s.env) s.heap fun e=>K (e.app o.dst s)
def guardOf(a:Array Oper)(j:Nat)(e:Env):AV:=
 match(a[j]?).bind (·.dst)with
 |some d=>aN e d
 |none=>.p (.aA [])
def gG(P:b4)(ag:cv->Bool)(draw:Bool)(a:Array Oper):List Oper->(St->Prop)->St->Prop
 |[],K,s=>K s
 |o::r,K,s=>match o.guard with
  |none=>jo P ag draw o (gG P ag draw a r K) s
  |some (j,want)=>match guardOf a j s.env with
   | .p (.bool t)=>if t=want then jo P ag draw o (gG P ag draw a r K) s else gG P ag draw a r K ⟨put o.dst (.p (.aA [])) s.env,s.heap⟩
   | .p (.aA [])=>gG P ag draw a r K ⟨put o.dst (.p (.aA [])) s.env,s.heap⟩
   |_=>False
def lK:Obj->Option Obj
 | .box _ (.p t)=>some (.box true (.p t))
 | .arr k ar ai es=>if k.gr=true/\es=[]then none else match dW es with
  |some _=>some (.arr .frozen ar ai es)
  |none=>none
 | .map _ es=>some (.map true es)
 |_=>none
def lS(H:aj):AV->Option (PV×List Nat)
 | .p v=>some (v,[])
 | .sl b ar ai off len=>match H[b]? with
  |some (.arr k d a es)=>
   if ar=d/\ai=a/\off+len<=es.length then
    if k.gr=true/\es=[]then none else
    match dW es with
    |some c=>some (.cE (k== .exact&&off+len==es.length) ((c.drop off).take len),[b])
    |none=>none
   else none
  |_=>none
 | .ptr b path=>match H[b]? with
  |some (.box _ (.p t))=>match kn t path with
   |some s=>some (.bZ s,[b])
   |none=>none
  |_=>none
 | .map b=>match H[b]? with
  |some (.map _ es)=>some (.eH es,[b])
  |_=>none
 |_=>none
def nv(H:aj):List AV->Option (List PV×List Nat)
 |[]=>some ([],[])
 |x::r=>match lS H x,nv H r with
  |some (v,bs),some (vs,cs)=>some (v::vs,bs++cs)
  |_,_=>none
def kG(H:aj):List Nat->Option (List (Nat×Obj)×List (Nat×Obj))
 |[]=>some ([],[])
 |b::r=>match H[b]?,kG H r with
  |some o,some (ak,aI)=>(match lK o with
   |some o'=>some ((b,o)::ak,(b,o')::aI)
   |none=>none)
  |_,_=>none
def gL(P:b4)(f:cv)(args:List AV)(H:aj)(K:aS->Prop):Prop:=
 (∃vs v,args=vs.map .p/\au P f vs v/\K {v:=.p v})\/
 (∃vs bs ak aI v,nv H args=some (vs,bs)/\kG H bs=some (ak,aI)/\au P f vs v/\K {v:=.p v,ak,aI})\/
 (∃e,qI P f args H.length e/\nC H e/\K e)\/
 (∃ak v,CG P f args ak v/\(∀p∈ak,H[p.1]?=some p.2)/\K {v:=.p v,ak})
def ja(P:b4)(ag:cv->Bool)(o:Oper)(s:St)(K:aS->Prop):Prop:=
 match o.op with
 | .call {callee:=.value f,args,.. }=>(match ev s.env f with
  | .p (.func g fi ca)=>gL P g (fi.map .p++args.toList.map (ev s.env)++ca.map .p) s.heap K
  | .func g fi ca=>gL P g (fi++args.toList.map (ev s.env)++ca) s.heap K
  | .map b=>∃e,nw P b (args.toList.map (ev s.env)) s.heap.length e/\nC s.heap e/\K e
  |_=>False)
 |_=>fu P ag o (ev s.env) s.heap K
structure Touch where
 i:Nat
 rd:List Nat
 wr:List Nat
def ng(a:Nat):List Obj->List Nat
 |[]=>[]
 |_::r=>a::ng (a+1) r
def gC(i a:Nat)(e:aS):Touch:=⟨i,e.ak.map (·.1),e.aI.map (·.1)++ng a e.aQ⟩
def fN(i b:Nat)(e:aS)(a:List Touch):List Touch:=
 match e.ak,e.aI,e.aQ with
 |[],[],[]=>a
 |_,_,_=>gC i b e::a
def reach(a:Array Oper):Nat->Nat->Nat->Bool
 |0,_,_=>false
 |f+1,i,j=>match a[j]? with
  |some o=>o.after.toList.any (fun e=>dy .any e&&e.on==i)||o.after.toList.any (fun e=>dy .any e&&decide (i<e.on)&&reach a f i e.on)
  |none=>false
def iU(u t:Touch):Bool:=u.wr.any (fun b=>t.rd.contains b||t.wr.contains b)||u.rd.any (fun b=>t.wr.contains b)
def gZ(a:Array Oper):List Touch->Bool
 |[]=>true
 |t::r=>r.all (fun u=>!iU u t||reach a a.size u.i t.i)&&gZ a r
def fT(P:b4)(ag:cv->Bool)(a:Array Oper):List Oper->Nat->List Touch->(St->Prop)->St->Prop
 |[],_,acc,K,s=>gZ a acc=true/\K s
 |o::r,i,acc,K,s=>match o.guard with
  |none=>ja P ag o s fun e=>fT P ag a r (i+1) (fN i s.heap.length e acc) K (e.app o.dst s)
  |some (j,want)=>match guardOf a j s.env with
   | .p (.bool t)=>if t=want then ja P ag o s fun e=>fT P ag a r (i+1) (fN i s.heap.length e acc) K (e.app o.dst s)
    else fT P ag a r (i+1) acc K ⟨put o.dst (.p (.aA [])) s.env,s.heap⟩
   | .p (.aA [])=>fT P ag a r (i+1) acc K ⟨put o.dst (.p (.aA [])) s.env,s.heap⟩
   |_=>False
inductive bm where|normal|exit (id:Nat)|ret
mutual
def fK(T:aj):PV->AV->Prop
 | .aL,x=>x=.p .aL\/match x with
  | .sl b ar _ off len=>ar=0/\off=0/\len=0/\∃k z,T[b]?=some (.arr k 0 z [])/\k.gr=true
  |_=>False
 | .st u fs,x=>x=.p (.st u fs)\/match x with
  | .st u' gs=>u=u'/\kr T fs gs
  |_=>False
 |v,x=>x=.p v
def kr(T:aj):List PV->List AV->Prop
 |[],gs=>gs=[]
 |v::vs,gs=>match gs with
  |g::gs=>fK T v g/\kr T vs gs
  |[]=>False
end
mutual
def Gh(T:aj):AV->AV->Prop
 | .p v,x=>fK T v x
 | .st u fs,x=>match x with
  | .st u' gs=>u=u'/\lT T fs gs
  |_=>False
 |a,x=>x=a
def lT(T:aj):List AV->List AV->Prop
 |[],gs=>gs=[]
 |v::vs,gs=>match gs with
  |g::gs=>Gh T v g/\lT T vs gs
  |[]=>False
end
structure oD(s t:St):Prop where
 env:∀x,aN t.env x=aN s.env x\/aN t.env x=.p .undef\/Gh t.heap (aN s.env x) (aN t.env x)
 heap:∀(b:Nat)(o:Obj),t.heap[b]?=some o->o=.hole\/s.heap[b]?=some o\/((s.heap[b]?=none\/s.heap[b]?=some .hole)/\∃k z,o=.arr k 0 z []/\k.gr=true)\/(∃v v',s.heap[b]?=some (.box false v)/\o=.box false v'/\Gh t.heap v v')
 gp:∀x,aD (aF t.heap) (aN t.env x)
 hrefs:∀(b:Nat)(o:Obj),t.heap[b]?=some o->o.refs (aF t.heap)
def dd(N:Nat)(s t:St):Prop:=t=s\/(oD s t/\∀b,b<N->t.heap[b]?=s.heap[b]?)
def iW(Q:bm->St->Prop)(j:Option Code)(s:St):Prop:=
 match j with
 |none=>Q .normal s
 |some (.exit id)=>Q (.exit id) s
 |some .ret=>Q .ret s
 |_=>False
def iR(P:b4)(it:AV)(b:Nat)(H:aj)(K:aj->Prop):Prop:=
 match it with
 | .p (.func g fi ca)=>∃H' v,de P g H (fi.map .p++[.map b]++ca.map .p) H' v/\K H'
 | .func g fi ca=>∃H' v,de P g H (fi++[.map b]++ca) H' v/\K H'
 |_=>False
def gS(b:Nat)(env:Env)(Q:bm->St->Prop)(H:aj):Prop:=
 match H[b]? with
 |some (.loop L)=>L.st≠.busy/\iW Q L.pending ⟨env,H.set b (.loop {L with st:=.exhausted})⟩
 |_=>False
abbrev Cx:=Nat×Nat
def bW(P:b4)(ag:cv->Bool)(q:Cx):Code->(bm->St->Prop)->St->Prop
 | .skip,Q,s| .label _,Q,s=>Q .normal s
 | .region _ ops draw,Q,s=>if draw then fT P ag ops ops.toList 0 [] (Q .normal) s else gG P ag false ops ops.toList (Q .normal) s
 | .seq a b,Q,s=>bW P ag q a (fun e s'=>match e with
  | .normal=>bW P ag q b Q s'
  |e=>Q e s') s
 | .cond c a b,Q,s=>match ev s.env c with
  | .p (.bool t)=>if t then bW P ag q a Q s else bW P ag q b Q s
  |_=>False
 | .block id b,Q,s=>bW P ag q b (fun e s'=>match e with
  | .exit i=>if i=id then Q .normal s' else Q (.exit i) s'
  |e=>Q e s') s
 | .scope b,Q,s=>bW P ag q b Q s
 | .loop b,Q,s=>∃I:Nat->St->Prop,(∃n t,dd q.2 s t/\I n t)/\∀n t,I n t->bW P ag q b (fun e s'=>match e with
  | .normal=>∃m g,m<n/\dd q.2 s' g/\I m g
  |e=>Q e s') t
 | .rangeFunc f h a b,Q,s=>q.2<=s.heap.length/\∃d:Env,(∀x,aN d x=aN s.env x)/\iR P (ev s.env f) s.heap.length (s.heap++[.loop ⟨.ready,none,q.1,h.toList,a,b,d⟩]) (gS s.heap.length s.env Q)
 | .exit id,Q,s=>Q (.exit id) s
 | .ret,Q,s=>Q .ret s
 |_,_,_=>False
def bu(fr:cy)(t:Array b5)(ds:List ck)(todo:List Item):cy:={fr with tmps:=t,defers:=ds,todo,mode:=.run}
section
variable{P:b4}{fr:cy}{t:Array b5}{ds:List ck}{k:List Item}{cs:List cy}{w:cc}
def fx(t:Array b5):cx->b5
 | .tmp x=>t.getD x undef
 | .const v=>v
 | .global g=>.pointer (some ⟨g,0,none⟩)
 | .func f=>.func (.func f) #[] #[]
theorem eval_eq(fr:cy):fr.eval=fx fr.tmps:=by funext x;cases x<;>rfl
theorem aGn:step P (lone (bu fr t ds (.code .skip::k)) cs w)=.next (lone (bu fr t ds k) cs w):=
 ce (by simp[stepG,em,bu])
theorem Uj{l:Nat}:step P (lone (bu fr t ds (.code (.label l)::k)) cs w)=.next (lone (bu fr t ds k) cs w):=
 ce (by simp[stepG,em,bu])
theorem SU{id:Nat}:step P (lone (bu fr t ds (.inBlock id::k)) cs w)=.next (lone (bu fr t ds k) cs w):=
 ce (by simp[stepG,em,bu])
theorem SS{b:Code}:step P (lone (bu fr t ds (.inScope b::k)) cs w)=.next (lone (bu fr t ds k) cs w):=
 ce (by simp[stepG,em,bu])
theorem Ci{a b:Code}:step P (lone (bu fr t ds (.code (.seq a b)::k)) cs w)=.next (lone (bu fr t ds (.code a::.code b::k)) cs w):=
 ce (by simp[stepG,em,bu])
theorem aGi{c:cx}{x y:Code}{b:Bool}(h:fx t c= .bool b):
 step P (lone (bu fr t ds (.code (.cond c x y)::k)) cs w)=.next (lone (bu fr t ds (.code (if b then x else y)::k)) cs w):=
 ce (by simp[stepG,em,bu,eval_eq,h])
theorem xl{id:Nat}{c:Code}:step P (lone (bu fr t ds (.code (.block id c)::k)) cs w)=.next (lone (bu fr t ds (.code c::.inBlock id::k)) cs w):=
 ce (by simp[stepG,em,bu])
theorem Bi{c:Code}:step P (lone (bu fr t ds (.code (.scope c)::k)) cs w)=.next (lone (bu fr t ds (.code c::.inScope c::k)) cs w):=
 ce (by simp[stepG,em,bu])
theorem aGl{c:Code}:step P (lone (bu fr t ds (.code (.loop c)::k)) cs w)=.next (lone (bu fr t ds (.code c::.inLoop c::k)) cs w):=
 ce (by simp[stepG,em,bu])
theorem Tj{c:Code}:step P (lone (bu fr t ds (.inLoop c::k)) cs w)=.next (lone (bu fr t ds (.code c::.inLoop c::k)) cs w):=
 ce (by simp[stepG,em,bu])
theorem aGk{id:Nat}{a:List Item}(h:exitTo id k=some a):step P (lone (bu fr t ds (.code (.exit id)::k)) cs w)=.next (lone (bu fr t ds a) cs w):=
 ce (by simp[stepG,em,bu,h])
theorem Ti{id:Nat}{a:Array Oper}:
 step P (lone (bu fr t ds (.code (.region id a false)::k)) cs w)=.next (lone (bu fr t ds (.inRegion a (g7 a.size)::k)) cs w):=
 ce (by simp[stepG,em,bu])
theorem aGj{id:Nat}{a:Array Oper}:
 step P (lone (bu fr t ds (.code (.region id a true)::k)) cs w)=
  .next (lone (bu fr t ds (.inRegion a (dx (P.follows .mixedOrders) a (w.tape w.drawn (.order fr.fn id)))::k)) cs {w with drawn:=w.drawn+1}):=
 ce (by simp[stepG,em,bu,choose,Sem.run,Question.forced,Question.cut])
theorem Fl{a:Array Oper}:step P (lone (bu fr t ds (.inRegion a []::k)) cs w)=.next (lone (bu fr t ds k) cs w):=
 ce (by simp[stepG,em,bu])
def mC(dst:Option Tmp)(v:b5)(t:Array b5):Array b5:=
 match dst with
 |some d=>t.setIfInBounds d v
 |none=>t
theorem mJ{a:Array Oper}{i:Nat}{r:List Nat}{o:Oper}(c:a[i]?=some o)(v:b5):
 (bu fr t ds (.inRegion a (i::r)::k)).finish v=bu fr (mC o.dst v t) ds (.inRegion a r::k):=by
 cases b:o.dst<;>simp[Frame.finish,bu,c,b,mC]
theorem G7{a:Array Oper}{i:Nat}{r:List Nat}{o:Oper}(b:a[i]?=some o)(c:dq o (yielded a t)=false):
 step P (lone (bu fr t ds (.inRegion a (i::r)::k)) cs w)=.next (lone (bu fr (mC o.dst undef t) ds (.inRegion a r::k)) cs w):=by
 rw[<-mJ b];exact ce (by simp only[bu];simp[stepG,em,b,c])
theorem Sw{o:Oper}(a:∀c,o.op≠ .defer c)(r:Option Nat)(A:Nat->Call->GStep)(B:GStep):
 (match r,o.op with
  |some l,.defer c=>A l c
  |_,_=>B)=B:=by
 cases r with
 |none=>rfl
 |some l=>cases h:o.op<;>first|rfl|exact absurd h (a _)
theorem aGm{a:Array Oper}{i:Nat}{r:List Nat}{o:Oper}{fr:cy}(e:fr.todo= .inRegion a (i::r)::k)(d:a[i]?=some o)(b:∀c,o.op≠ .defer c):
 eo P true fr cs none w=en P true fr cs none (c9 (fx fr.tmps) o) w:=by
 simp only[eo,Frame.oper?,e,d,eval_eq];exact Sw b _ _ _
theorem A7{f:Bool}{a:Array Oper}{i:Nat}{r:List Nat}{o:Oper}(b:a[i]?=some o)(e:dq o (yielded a t)=true)(d:∀c,o.op≠ .defer c):
 stepG P f {frame:=bu fr t ds (.inRegion a (i::r)::k),callers:=cs,status:=.running,dying:=none} w=
  en P true (bu fr t ds (.inRegion a (i::r)::k)) cs none (c9 (fx t) o) w:=by
 have h:=aGm (P:=P) (cs:=cs) (w:=w) (fr:=bu fr t ds (.inRegion a (i::r)::k)) rfl b d;simp only[bu]at h⊢;simp[stepG,em,b,e,h]
theorem rp{a:Array Oper}{i:Nat}{r:List Nat}{o:Oper}{n:Next}{b:b5}{w':cc}(d:a[i]?=some o)(h:dq o (yielded a t)=true)
 (e:∀c,o.op≠.defer c)(g:(c9 (fx t) o).run P w=.ok n w')(f:n=.value b\/n=.skip/\b=undef):
 step P (lone (bu fr t ds (.inRegion a (i::r)::k)) cs w)=.next (lone (bu fr (mC o.dst b t) ds (.inRegion a r::k)) cs w'):=by
 rw[<-mJ d];refine ce ?_;rw[A7 d h e];rcases f with rfl|⟨rfl,rfl⟩<;>simp[en,g,bu]
theorem tK{a:Array Oper}{i:Nat}{r:List Nat}{o:Oper}{f:cv}{args:Array b5}{w':cc}(d:a[i]?=some o)(g:dq o (yielded a t)=true)
 (b:∀c,o.op≠.defer c)(e:(c9 (fx t) o).run P w=.ok (.enter f args) w'):
 step P (lone (bu fr t ds (.inRegion a (i::r)::k)) cs w)=.next (lone (Frame.enter P f args .normal) (bu fr t ds (.inRegion a (i::r)::k)::cs) w'):=by
 refine ce ?_;rw[A7 d g b];simp[en,e,bu]
theorem Gv{a:Array Oper}{i:Nat}{r:List Nat}{o:Oper}{l:Nat}{f:cv}{tmps:Array b5}{assign body:Code}{w':cc}(d:a[i]?=some o)(g:dq o (yielded a t)=true)
 (b:∀c,o.op≠.defer c)(e:(c9 (fx t) o).run P w=.ok (.round l f tmps assign body) w'):
 step P (lone (bu fr t ds (.inRegion a (i::r)::k)) cs w)=.next (lone (Frame.round l f tmps assign body .normal) (bu fr t ds (.inRegion a (i::r)::k)::cs) w'):=by
 refine ce ?_;rw[A7 d g b];simp[en,e,bu]
end
end Go.az
namespace Go.az
variable[Gl]
mutual
theorem aD.mono{S T:Nat×Nat->Prop}(h:∀x,S x->T x):∀v,aD S v->aD T v
 | .p _,_=>by simp[aD]
 | .ptr b _,c| .bQ b _ _ _ _,c| .sl b _ _ _ _,c| .map b,c=>by simp only[aD]at*;exact h _ c
 | .func _ a b,c=>by simp only[aD]at*;exact⟨aU.mono h a c.1,aU.mono h b c.2⟩
 | .st _ fs,c=>by simp only[aD]at*;exact aU.mono h fs c
 | .aA vs,c=>by simp only[aD]at*;exact aU.mono h vs c
theorem aU.mono{S T:Nat×Nat->Prop}(h:∀x,S x->T x):∀vs,aU S vs->aU T vs
 |[],_=>by simp[aU]
 |v::vs,c=>by simp only[aU]at*;exact⟨aD.mono h v c.1,aU.mono h vs c.2⟩
end
structure cw(P:b4)(n:Nat)(ah aa:Nat->Prop)(β:Bd)(s:St)(t:Array b5)(w:cc):Prop where
 heap:bN P w aa β s.heap ah
 env:∀x,aw P w aa β s.heap (aN s.env x) (t.getD x undef)
 gp:∀x,aD (aF s.heap) (aN s.env x)
 size:t.size=n
structure oC(N:Nat)(β:Bd)(H:aj)(aG:Bd)(H':aj):Prop where
 box:∀b,b<N->aF H (b,0)->me H' b->me H b/\aG.al b=β.al b
 it:∀b,b<N->aF H (b,0)->mh H' b->mh H b/\aG.al b=β.al b
 map:∀b,b<N->aF H (b,0)->mc H' b->mc H b/\aG.al b=β.al b
 arr:∀b ar ai k es,b<N->aF H (b,ar)->fg H' b ar ai k es->∃k0 gq,fg H b ar ai k0 gq/\gq.length<=es.length/\(cR k es↔cR k0 gq)/\(¬cR k es->aG.al b=β.al b/\aG.cap b=β.cap b)
 loop:∀b,b<N->aF H (b,0)->gD H' b->gD H b/\aG.al b=β.al b
theorem cd.n{N:Nat}{β:Bd}{H:aj}{aG:Bd}{H':aj}(h:cd β H aG H'):oC N β H aG H':=
 ⟨fun b _=>h.box b,fun b _=>h.it b,fun b _=>h.map b,fun b ar ai k es _=>h.arr b ar ai k es,fun b _=>h.loop b⟩
theorem oC.full{β:Bd}{H:aj}{aG:Bd}{H':aj}(h:oC H.length β H aG H'):cd β H aG H':=by
 have lt:∀b v,aF H (b,v)->b<H.length:=fun b v⟨o,c,_⟩=>(e7.1 c).1;exact⟨fun b x=>h.box b (lt _ _ x) x,fun b x=>h.it b (lt _ _ x) x,fun b x=>h.map b (lt _ _ x) x,fun b ar ai k a x=>h.arr b ar ai k a (lt _ _ x) x,fun b x=>h.loop b (lt _ _ x) x⟩
theorem oC.trans{N:Nat}{β l m:Bd}{H H1 j:aj}(h:oC N β H l H1)(hi:∀x,x.1<N->aF H x->aF H1 x)(i:oC N l H1 m j):oC N β H m j:=by
 refine⟨?_,?_,?_,?_,?_⟩
 ·intro b a c g;obtain⟨d,a2⟩:=i.box b a (hi (b,0) a c) g;obtain⟨e,f⟩:=h.box b a c d;exact⟨e,a2.trans f⟩
 ·intro b a c g;obtain⟨d,a2⟩:=i.it b a (hi (b,0) a c) g;obtain⟨e,f⟩:=h.it b a c d;exact⟨e,a2.trans f⟩
 ·intro b a c g;obtain⟨d,a2⟩:=i.map b a (hi (b,0) a c) g;obtain⟨e,f⟩:=h.map b a c d;exact⟨e,a2.trans f⟩
 ·intro b ar ai k p a c g;obtain⟨k1,q,d,a2,a3,a4⟩:=i.arr b ar ai k p a (hi (b,ar) a c) g;obtain⟨k0,gq,e,f,n,o⟩:=h.arr b ar ai k1 q a c d;refine⟨k0,gq,e,g9 f a2,a3.trans n,fun a=>?_⟩;obtain⟨c1,c2⟩:=a4 a;obtain⟨d1,d2⟩:=o (fun x=>a (a3.2 x));exact⟨c1.trans d1,c2.trans d2⟩
 ·intro b a c g;obtain⟨d,a2⟩:=i.loop b a (hi (b,0) a c) g;obtain⟨e,f⟩:=h.loop b a c d;exact⟨e,a2.trans f⟩
structure dL(N:Nat)(ah aa:Nat->Prop)(w:cc)(β:Bd)(H:aj)(jL aE:Nat->Prop)(w':cc)(aG:Bd)(H':aj):Prop where
 dY:∀k,ah k->jL k
 bL:∀k,aa k->aE k
 fresh:∀k,aE k->aa k\/¬ah k
 ext:Ext ah aa w w'
 step:oC N β H aG H'
 eQ:∀x,x.1<N->aF H x->aF H' x
 loop:∀b,b<N->gD H b->gD H' b
theorem dL.refl(N:Nat)(ah aa:Nat->Prop)(w:cc)(β:Bd)(H:aj):dL N ah aa w β H ah aa w β H:=
 ⟨fun _ h=>h,fun _ h=>h,fun _ h=>.inl h,Ext.refl _ _ _,(cd.refl _ _).n,fun _ _ h=>h,fun _ _ h=>h⟩
theorem Ext.trans{ah aa jL aE:Nat->Prop}{w w1 b:cc}(c:∀k,ah k->jL k)(hi:∀k,aa k->aE k)(h:Ext ah aa w w1)(a:Ext jL aE w1 b):Ext ah aa w b:=
 ⟨g9 h.size a.size,fun k hk=>(a.same k (hk.imp (c k) (hi k))).trans (h.same k hk),a.io.1.trans h.io.1,a.io.2.trans h.io.2⟩
theorem dL.trans{N:Nat}{ah aa g e i f:Nat->Prop}{w w1 j:cc}{β l m:Bd}{H H1 d:aj}(h:dL N ah aa w β H g e w1 l H1)(a:dL N g e w1 l H1 i f j m d):dL N ah aa w β H i f j m d:=
 ⟨fun k x=>a.dY k (h.dY k x),fun k x=>a.bL k (h.bL k x),fun k x=>(a.fresh k x).elim (fun y=>h.fresh k y) (fun y=>.inr fun z=>y (h.dY k z)),h.ext.trans h.dY h.bL a.ext,
  h.step.trans h.eQ a.step,fun x c hx=>a.eQ x c (h.eQ x c hx),fun b c n=>a.loop b c (h.loop b c n)⟩
theorem bP.fa{P:b4}{N:Nat}{ah aa aE:Nat->Prop}{w w':cc}{β aG:Bd}{H H':aj}(h:bP P ah aa w β H aE w' aG H'):dL N ah aa w β H ah aE w' aG H':=
 ⟨fun _ x=>x,h.bL,h.fresh,h.ext,h.step.n,fun x _=>h.eQ x,fun b _=>h.loop b⟩
section
variable{P:b4}{ah aa aE:Nat->Prop}{w w':cc}{β aG:Bd}{H H':aj}
theorem fe.wY(d:w'.heap=w.heap){b:Nat}{o:Obj}(h:fe P w aa β H ah b o)(i:o.refs (aF H)):fe P w' aa β H ah b o:=by
 have p:=fun(v:AV) cs j=>bh.mono (P:=P) (w:=w) (w':=w') (aa:=aa) (aE:=aa) (β:=β) (aG:=β) (H:=H) (H':=H) (fun _ x=>x) (fun k _=>by rw[d]) (cd.refl β H) v cs j;have q:=fun l(v:List AV) cs j=>bG.mono (P:=P) (w:=w) (w':=w') (aa:=aa) (aE:=aa) (β:=β) (aG:=β) (H:=H) (H':=H) (fun _ x=>x) (fun k _=>by rw[d]) (cd.refl β H) l v cs j;have r:=fun(g:List (PV×PV)) f=>cq.mono (P:=P) (w:=w) (w':=w') (aa:=aa) (aE:=aa) (fun _ x=>x) (fun k _=>by rw[d]) g f;cases o with
 |hole=>trivial
 |dead=>trivial
 |box fz t=>
  obtain⟨cs,T,a,c,e⟩:=h;exact⟨cs,T,by rw[d];exact a,p _ _ i c,e⟩
 |arr k ar ai g=>
  rcases h with h|⟨cs,T,m,rest,a,c,e⟩
  ·exact .inl h
  ·exact .inr ⟨cs,T,m,rest,by rw[d];exact a,q _ _ _ i c,e⟩
 |map fz g=>
  obtain⟨f,clock,a,c,e⟩:=h;exact⟨f,clock,by rw[d];exact a,r _ _ c,e⟩
 |dc s pos=>
  obtain⟨bs,a,c⟩:=h;exact⟨bs,by rw[d];exact a,c⟩
 |loop L=>
  obtain⟨tmps,defers,fn,a,c,e,n⟩:=h;exact⟨tmps,defers,fn,by rw[d];exact a,c,fun x=>aw.mono (fun _ x=>x) (fun _ _=>by rw[d]) (cd.refl _ _) _ _ (i x) (e x),n⟩
theorem bN.wY(a:w'.heap=w.heap)(h:bN P w aa β H ah):bN P w' aa β H ah:=
 ⟨fun b o c=>(h.cr b o c).wY a (h.refs b o c),h.inj,h.refs,fun k hk=>by rw[a];exact h.bL k hk,fun k hk=>by rw[a];exact h.dY k hk,h.gV.mono (fun _ x=>x) (fun _ _=>by rw[a])⟩
theorem bN.ma(h:bN P w aa β H ah){b:Nat}{o:Obj}(e:H[b]?=some o)(d:o.live):β.al b<w.heap.size:=by
 have c:=h.cr b o e;cases o with
 |hole=>exact d.elim
 |dead=>exact d.elim
 |box fz t=>obtain⟨cs,T,a,_⟩:=c;exact(bl.1 a).1
 |arr k ar ai es=>
  rcases c with c|⟨cs,T,f,rest,a,_⟩
  ·exact(d c).elim
  ·exact(bl.1 a).1
 |map fz es=>obtain⟨g,clock,a,_⟩:=c;exact(bl.1 a).1
 |dc s pos=>obtain⟨bs,a,_⟩:=c;exact(bl.1 a).1
 |loop L=>obtain⟨_,_,_,a,_⟩:=c;exact(bl.1 a).1
theorem bP.set{b:Nat}{o':Obj}(f:bN P w aa β H ah)(q:b<H.length)(l:∀x,x≠b->aG.al x=β.al x/\aG.cap x=β.cap x)
 (i:∀k,aa k->aE k)(N:∀k,aE k->aa k\/(k=aG.al b/\o'.live))(af:∀k,aE k->k<w'.heap.size)
 (S:w.heap.size<=w'.heap.size)(G:∀k,(k≠aG.al b\/¬o'.live)->k<w.heap.size->w'.heap[k]?=w.heap[k]?)
 (D:o'.live->w.heap.size<=aG.al b\/(aG.al b=β.al b/\(∃o,H[b]?=some o/\o.live)/\((∀k,k=β.al b->w'.heap[k]?=w.heap[k]?)\/¬aa (β.al b))/\¬ah (β.al b)))
 (aK:cd β H aG (H.set b o'))(aj:fe P w' aE aG (H.set b o') ah b o')(al:o'.refs (aF (H.set b o')))(ag:∀(o:Obj)(v:Nat),H[b]?=some o->o.has v->o'.has v)(ae:∀L,H[b]?=some (.loop L)->∃B,o'=.loop B)(ad:w'.os=w.os/\w'.output=w.output:=by exact⟨rfl,rfl⟩):
 bP P ah aa w β H aE w' aG (H.set b o'):=by
 have A:∀x o,x≠b->H[x]?=some o->o.live->¬aa (β.al x)->o'.live->β.al x≠aG.al b:=by
  intro x o hx d e j r he;rcases D r with a|⟨a,⟨an,c,g⟩,_⟩
  ·have:=f.ma d e;omega
  ·rw[a]at he;exact hx (f.inj x b o an d c e g j he)
 have R:o'.live->¬ah (aG.al b):=by
  intro e E;rcases D e with a|⟨a,_,_,c⟩
  ·have:=f.dY _ E;omega
  ·rw[a]at E;exact c E
 have p:∀k,ah k\/aa k->w'.heap[k]?=w.heap[k]?:=by
  intro k hk;have O:k<w.heap.size:=hk.elim (f.dY k) (f.bL k)
  by_cases z:k=aG.al b
  ·by_cases e:o'.live
   ·rcases hk with hk|hk
    ·exact(R e (z▸hk)).elim
    ·rcases D e with a|⟨a,_,c,_⟩
     ·omega
     ·rcases c with c|c
      ·exact c k (z.trans a)
      ·exact(c (by rw[<-a,<-z];exact hk)).elim
   ·exact G k (.inr e) O
  ·exact G k (.inl z) O
 have ak:∀x,aF H x->aF (H.set b o') x:=by
  rintro⟨x,v⟩ ⟨o,d,Q⟩
  by_cases hx:x=b
  ·subst hx;exact⟨o',by simp[e8 q],ag o v d Q⟩
  ·exact⟨o,by simp only;rw[e6 (hd hx)];exact d,Q⟩
 have hrefs:∀v,aD (aF H) v->aD (aF (H.set b o')) v:=aD.mono ak;refine⟨i,fun k hk=>(N k hk).imp id (fun(h:k=aG.al b/\o'.live)=>h.1▸R h.2),⟨S,p,ad⟩,aK,⟨?_,?_,?_,af,fun k hk=>ha (f.dY k hk) S,f.gV.mono i (fun k hk=>p k (.inr hk))⟩,ak,?_⟩
 ·intro x o d
  by_cases hx:x=b
  ·subst hx;rw[e8 q]at d;cases d;exact aj
  ·rw[e6 (hd hx)]at d;have n:=f.cr x o d;have F:=f.refs x o d;have M:=(l x hx).1;have C:=(l x hx).2;have hs:o.live->w'.heap[aG.al x]?=w.heap[β.al x]?:=by
    intro e;rw[M]
    by_cases j:aa (β.al x)
    ·exact p _ (.inr j)
    refine G _ ?_ (f.ma d e)
    by_cases r:o'.live
    ·exact .inl (A x o hx d e j r)
    ·exact .inr r
   have held:∀fz,o.live->cm aa β ah fz x->cm aE aG ah fz x:=by
    intro fz e m;unfold cm at m⊢;rw[M];cases fz with
    |true=>simp only[if_true]at m⊢;exact i _ m
    |false=>
     simp only[b2,if_false]at m⊢;refine⟨fun h=>?_,m.2⟩;rcases N _ h with h|⟨h,r⟩
     ·exact m.1 h
     ·exact A x o hx d e m.1 r h
   cases o with
   |hole=>trivial
   |dead=>trivial
   |box fz t=>
    obtain⟨cs,T,a,c,g,u⟩:=n;exact⟨cs,T,(hs trivial).trans a,bh.mono i (fun k hk=>p k (.inr hk)) aK _ _ F c,held _ trivial g,u⟩
   |arr k ar ai es=>
    rcases n with n|⟨cs,T,W,rest,a,c,g,u,Y,Z,ab,ac⟩
    ·exact .inl n
    ·by_cases e:cR k es
     ·exact .inl e
     ·refine .inr ⟨cs,T,W,rest,(hs e).trans a,bG.mono i (fun k hk=>p k (.inr hk)) aK _ _ _ F c,g,?_,?_,?_,held _ e ab,ac⟩
      ·rw[C];exact u
      ·rw[C];exact Y
      ·rw[C];exact Z
   |map fz es=>
    obtain⟨X,clock,a,c,g⟩:=n;exact⟨X,clock,(hs trivial).trans a,cq.mono i (fun k hk=>p k (.inr hk)) _ _ c,held _ trivial g⟩
   |dc s pos=>
    obtain⟨bs,a,c,g⟩:=n;exact⟨bs,(hs trivial).trans a,c,held _ trivial g⟩
   |loop L=>
    obtain⟨tmps,defers,fn,a,c,g,u⟩:=n;exact⟨tmps,defers,fn,(hs trivial).trans a,c,fun x=>aw.mono i (fun k hk=>p k (.inr hk)) aK _ _ (F x) (g x),held _ trivial u⟩
 ·intro x y U V a c I J j he
  by_cases hx:x=b<;>by_cases hy:y=b
  ·rw[hx,hy]
  ·subst hx;rw[e8 q]at a;cases a;rw[e6 (hd hy)]at c;rw[(l y hy).1]at he;exact(A y V hy c J (fun hi=>j (he▸i _ hi)) I he.symm).elim
  ·subst hy;rw[e8 q]at c;cases c;rw[e6 (hd hx)]at a;rw[(l x hx).1]at he;rw[(l x hx).1]at j;exact(A x U hx a I (fun hi=>j (i _ hi)) J he).elim
  ·rw[e6 (hd hx)]at a;rw[e6 (hd hy)]at c;rw[(l x hx).1,(l y hy).1]at he;rw[(l x hx).1]at j;exact f.inj x y U V a c I J (fun hi=>j (i _ hi)) he
 ·intro x o d
  by_cases hx:x=b
  ·subst hx;rw[e8 q]at d;cases d;exact al
  ·rw[e6 (hd hx)]at d;have:=f.refs x o d;cases o with
   |box fz t=>exact hrefs _ this
   |arr k ar ai es=>exact cK.2 fun v am=>hrefs v (cK.1 this v am)
   |loop L=>exact fun x=>hrefs _ (this x)
   |_=>trivial
 ·rintro x ⟨L,K⟩
  by_cases hx:x=b
  ·subst hx;obtain⟨B,rfl⟩:=ae L K;exact⟨B,e8 q⟩
  ·exact⟨L,by rw[e6 (hd hx)];exact K⟩
end
end Go.az
namespace Go.az
variable[Gl]
def bn(P:b4)(o:Oper)(ρ:cx->AV)(a:Nat)(e:aS):Prop:=
 ∀(H:aj)(w:cc)(aa ah:Nat->Prop)(β:Bd)(ρc:cx->b5),
  bN P w aa β H ah->(∀x∈o.op.operands,aw P w aa β H (ρ x) (ρc x)/\aD (aF H) (ρ x))->(∀p∈e.ak,H[p.1]?=some p.2)->(∀i,i<e.aQ.length->H[a+i]?=some .hole)->
  ∃n b w' aG aE,(c9 ρc o).run P w=.ok n w'/\(n=.value b\/n=.skip/\b=undef)/\
   bP P ah aa w β H aE w' aG (bk H (e.aI++newAt a e.aQ))/\aw P w' aE aG (bk H (e.aI++newAt a e.aQ)) e.v b/\
   aD (aF (bk H (e.aI++newAt a e.aQ))) e.v
section
variable{P:b4}{ah aa aE:Nat->Prop}{w w':cc}{β aG:Bd}{H H':aj}
theorem bP.refl(h:bN P w aa β H ah):bP P ah aa w β H aa w β H:=
 ⟨fun _ x=>x,fun _ x=>.inl x,Ext.refl _ _ _,cd.refl _ _,h,fun _ x=>x,fun _ x=>x⟩
theorem bn.same{o:Oper}{ρ:cx->AV}{c:Nat}{v:AV}{ak:List (Nat×Obj)}
 (h:∀(H:aj)(w:cc)(aa ah:Nat->Prop)(β:Bd)(ρc:cx->b5),bN P w aa β H ah->(∀x∈o.op.operands,aw P w aa β H (ρ x) (ρc x)/\aD (aF H) (ρ x))->
  (∀p∈ak,H[p.1]?=some p.2)->∃a,(c9 ρc o).run P w=.ok (.value a) w/\aw P w aa β H v a/\aD (aF H) v):
 bn P o ρ c {v,ak}:=by
 intro H w aa ah β ρc b i g _;obtain⟨a,d,e,f⟩:=h H w aa ah β ρc b i g;exact⟨_,a,w,β,aa,d,.inl rfl,by simpa[newAt,bk]using bP.refl b,by simpa[newAt,bk]using e,by simpa[newAt,bk]using f⟩
theorem bP.trans{j l:Nat->Prop}{w1 n:cc}{o p:Bd}{H1 i:aj}(h:bP P ah aa w β H j w1 o H1)(c:bP P ah j w1 o H1 l n p i):bP P ah aa w β H l n p i:=by
 refine⟨fun k x=>c.bL k (h.bL k x),fun k x=>(c.fresh k x).elim (h.fresh k) .inr,h.ext.trans (fun _ x=>x) h.bL c.ext,⟨?_,?_,?_,?_,?_⟩,c.rel,fun b a=>c.eQ b (h.eQ _ a),fun b a=>c.loop b (h.loop b a)⟩
 ·intro b a g;obtain⟨d,a2⟩:=c.step.box b (h.eQ _ a) g;obtain⟨e,f⟩:=h.step.box b a d;exact⟨e,a2.trans f⟩
 ·intro b a g;obtain⟨d,a2⟩:=c.step.it b (h.eQ _ a) g;obtain⟨e,f⟩:=h.step.it b a d;exact⟨e,a2.trans f⟩
 ·intro b a g;obtain⟨d,a2⟩:=c.step.map b (h.eQ _ a) g;obtain⟨e,f⟩:=h.step.map b a d;exact⟨e,a2.trans f⟩
 ·intro b ar ai k s a g;obtain⟨k1,t,d,a2,a3,a4⟩:=c.step.arr b ar ai k s (h.eQ _ a) g;obtain⟨k0,gq,e,f,q,r⟩:=h.step.arr b ar ai k1 t a d;refine⟨k0,gq,e,g9 f a2,a3.trans q,fun m=>?_⟩;obtain⟨c1,c2⟩:=a4 m;obtain⟨d1,d2⟩:=r (fun x=>m (a3.2 x));exact⟨c1.trans d1,c2.trans d2⟩
 ·intro b a g;obtain⟨d,a2⟩:=c.step.loop b (h.eQ _ a) g;obtain⟨e,f⟩:=h.step.loop b a d;exact⟨e,a2.trans f⟩
theorem tF(H:aj)(l r:List (Nat×Obj)):bk H (l++r)=bk (bk H l) r:=by
 induction l generalizing H with
 |nil=>rfl
 |cons p l a=>obtain⟨b,o⟩:=p;simp[bk,a]
theorem nR(H:aj)(l:List (Nat×Obj)):(bk H l).length=H.length:=by
 induction l generalizing H with
 |nil=>rfl
 |cons p l a=>obtain⟨b,o⟩:=p;simp[bk,a]
theorem wC(H T:aj)(l:List (Nat×Obj))(h:∀p∈l,p.1<H.length):bk (H++T) l=bk H l++T:=by
 induction l generalizing H with
 |nil=>rfl
 |cons p l c=>
  obtain⟨b,o⟩:=p;have a:b<H.length:=h (b,o) (by simp);simp only[bk];rw[List.set_append_left _ _ a,c];intro q hq;rw[List.length_set];exact h q (by simp[hq])
theorem Ao(H:aj)(l:List Obj):bk (H++ew l.length .hole) (newAt H.length l)=H++l:=by
 induction l generalizing H with
 |nil=>simp[newAt,bk]
 |cons o l a=>
  simp only[newAt,bk,fd,gi];rw[ge _ _ (g8 _)];simp only[Nat.sub_self,gj];have:=a (H++[o]);simp only[gm,List.length_singleton,gt,List.singleton_append]at this;exact this
theorem kA(H:aj)(m b:Nat):(H++ew m Obj.hole)[b]?=if b<H.length then H[b]? else if b<H.length+m then some .hole else none:=by
 by_cases h:b<H.length
 ·simp[h,e9]
 ·rw[fm (by omega)];simp only[List.getElem?_replicate,h,if_false]
  by_cases a:b<H.length+m
  ·simp[a,show b-H.length<m by omega]
  ·simp[a,show¬(b-H.length<m)by omega]
theorem mI{H:aj}{m b:Nat}{o:Obj}(h:(H++ew m Obj.hole)[b]?=some o):H[b]?=some o\/o=.hole:=by
 rw[kA]at h
 split at h
 ·exact .inl h
 ·split at h
  ·exact .inr (by simpa using h.symm)
  ·simp at h
theorem mV(H:aj)(m:Nat)(b:Nat×Nat)(h:aF H b):aF (H++ew m Obj.hole) b:=by
 obtain⟨o,a,d⟩:=h;have c:b.1<H.length:=(e7.1 a).1;exact⟨o,by rw[kA,if_pos c];exact a,d⟩
theorem pc(β:Bd)(H:aj)(m:Nat):cd β H β (H++ew m .hole):=by
 refine⟨?_,?_,?_,?_,?_⟩
 ·rintro b _ ⟨fz,t,h⟩;rcases mI h with h|h<;>simp_all [me]
 ·rintro b _ ⟨fz,t,h⟩;rcases mI h with h|h<;>simp_all [mh]
 ·rintro b _ ⟨fz,t,h⟩;rcases mI h with h|h<;>simp_all [mc]
 ·intro b ar ai k a _ h;rcases mI h with h|h
  ·exact⟨k,a,h,g8 _,eq,fun _=>⟨rfl,rfl⟩⟩
  ·simp at h
 ·rintro b _ ⟨L,h⟩;rcases mI h with h|h<;>simp_all [gD]
theorem Obj.uc{S T:Nat×Nat->Prop}(h:∀x,S x->T x):∀{o:Obj},o.refs S->o.refs T
 | .box _ t,a=>aD.mono h t a
 | .arr _ _ _ es,a=>aU.mono h es a
 | .loop _L,a=>fun x=>aD.mono h _ (a x)
 | .hole,_| .dead,_| .map _ _,_| .dc _ _,_=>trivial
theorem bN.oL(m:Nat)(h:bN P w aa β H ah):bN P w aa β (H++ew m .hole) ah:=by
 refine⟨?_,?_,?_,h.bL,h.dY,h.gV⟩
 ·intro b o d;rcases mI d with d|rfl
  ·have e:=h.cr b o d;have g:=h.refs b o d;have st:=pc β H m;cases o with
   |hole=>trivial
   |dead=>trivial
   |box fz t=>
    obtain⟨cs,T,a,c,f⟩:=e;exact⟨cs,T,a,bh.mono (fun _ x=>x) (fun _ _=>rfl) st _ _ g c,f⟩
   |arr k ar ai es=>
    rcases e with e|⟨cs,T,l,rest,a,c,f⟩
    ·exact .inl e
    ·exact .inr ⟨cs,T,l,rest,a,bG.mono (fun _ x=>x) (fun _ _=>rfl) st _ _ _ g c,f⟩
   |map fz es=>exact e
   |dc s pos=>exact e
   |loop L=>
    obtain⟨tmps,defers,fn,a,c,f,n⟩:=e;exact⟨tmps,defers,fn,a,c,fun x=>aw.mono (fun _ x=>x) (fun _ _=>rfl) st _ _ (g x) (f x),n⟩
  ·trivial
 ·intro x y r u a c i j q p;rcases mI a with a|rfl
  ·rcases mI c with c|rfl
   ·exact h.inj x y r u a c i j q p
   ·exact j.elim
  ·exact i.elim
 ·intro b o d;rcases mI d with d|rfl
  ·exact Obj.uc (mV H m) (h.refs b o d)
  ·trivial
theorem bn.use{o:Oper}{ρ:cx->AV}{e:aS}(h:bn P o ρ H.length e){ρc:cx->b5}(k:bN P w aa β H ah)
 (c:∀x∈o.op.operands,aw P w aa β H (ρ x) (ρc x)/\aD (aF H) (ρ x))(ak:∀p∈e.ak,H[p.1]?=some p.2)(aI:∀p∈e.aI,p.1<H.length):
 ∃n a w' aG aE,(c9 ρc o).run P w=.ok n w'/\(n=.value a\/n=.skip/\a=undef)/\
  bP P ah aa w β H aE w' aG (bk H e.aI++e.aQ)/\aw P w' aE aG (bk H e.aI++e.aQ) e.v a/\aD (aF (bk H e.aI++e.aQ)) e.v:=by
 have aK:=pc β H e.aQ.length;obtain⟨n,a,w',aG,aE,m,q,d,f,g⟩:=h (H++ew e.aQ.length .hole) w aa ah β ρc (k.oL _)
  (fun x hx=>⟨aw.mono (fun _ x=>x) (fun _ _=>rfl) aK _ _ (c x hx).2 (c x hx).1,aD.mono (mV _ _) _ (c x hx).2⟩)
  (fun p s=>by have:=ak p s;rw[kA,if_pos (e7.1 this).1];exact this)
  (fun i hi=>by rw[kA,if_neg (by omega),if_pos (by omega)])
 have r:bk (H++ew e.aQ.length .hole) (e.aI++newAt H.length e.aQ)=bk H e.aI++e.aQ:=by
  rw[tF,wC _ _ _ aI];have:=Ao (bk H e.aI) e.aQ
  rwa [nR]at this
 rw[r]at d f g;refine⟨n,a,w',aG,aE,m,q,?_,f,g⟩;have l:bP P ah aa w β H aa w β (H++ew e.aQ.length .hole):=⟨fun _ x=>x,fun _ x=>.inl x,Ext.refl _ _ _,aK,k.oL _,mV _ _,fun b⟨L,j⟩=>⟨L,by rw[kA,if_pos (e7.1 j).1];exact j⟩⟩
 exact l.trans d
theorem qI.use{f:cv}{args:List AV}{e:aS}(h:qI P f args H.length e)(m:nC H e){c:List b5}(n:bN P w aa β H ah)(r:bD P w aa β H args c)(o:aU (aF H) args):
 dl P f c.toArray w fun x w'=>∃a aG aE,x=.returned a/\bP P ah aa w β H aE w' aG (bk H e.aI++e.aQ)/\aw P w' aE aG (bk H e.aI++e.aQ) e.v a/\aD (aF (bk H e.aI++e.aQ)) e.v:=by
 have aK:=pc β H e.aQ.length;refine(h.2 (H++ew e.aQ.length .hole) w aa ah β c (n.oL _)
  (bD.mono (fun _ x=>x) (fun _ _=>rfl) aK _ _ o r) (aU.mono (mV _ _) _ o)
  (fun p d=>by have:=m.1 p d;rw[kA,if_pos (e7.1 this).1];exact this)
  (fun i hi=>by rw[kA,if_neg (by omega),if_pos (by omega)])).mono ?_
 rintro x w' ⟨a,aG,aE,rfl,g,j,k⟩;have s:bk (H++ew e.aQ.length .hole) (e.aI++newAt H.length e.aQ)=bk H e.aI++e.aQ:=by
  rw[tF,wC _ _ _ (fun p d=>(m.2 p d).1)];have:=Ao (bk H e.aI) e.aQ
  rwa [nR]at this
 rw[s]at g j k;have q:bP P ah aa w β H aa w β (H++ew e.aQ.length .hole):=⟨fun _ x=>x,fun _ x=>.inl x,Ext.refl _ _ _,aK,n.oL _,mV _ _,fun b⟨L,l⟩=>⟨L,by rw[kA,if_pos (e7.1 l).1];exact l⟩⟩
 exact⟨a,aG,aE,rfl,q.trans g,j,k⟩
end
def kX(P:b4)(ag:cv->Bool):Prop:=
 ∀(o:Oper)(ρ:cx->AV)(H:aj)(K:aS->Prop),(∀v,ρ (.const v)=.p (ofConst v))->fu P ag o ρ H K->
  ∃e,K e/\bn P o ρ H.length e/\(∀p∈e.ak,H[p.1]?=some p.2)/\(∀p∈e.aI,p.1<H.length/\p.2≠.hole)
section
variable{P:b4}{ag:cv->Bool}{n:Nat}
theorem FL{w:cc}{aa:Nat->Prop}(v:b5):aB P w aa (ofConst v) v:=by
 unfold ofConst
 split<;>simp[aB]
theorem nh{ah aa:Nat->Prop}{β:Bd}{s:St}{t:Array b5}{w:cc}(h:cw P n ah aa β s t w)(x:cx):
 aw P w aa β s.heap (ev s.env x) (fx t x)/\aD (aF s.heap) (ev s.env x):=by
 cases x with
 |tmp x=>exact⟨h.env x,h.gp x⟩
 |const v=>exact⟨by simp only[ev,fx,aw];exact FL v,by simp[ev,aD]⟩
 |global g=>exact⟨by simp only[ev,fx,aw];exact h.heap.gV.val g,by simp[ev,aD]⟩
 |func f=>exact⟨by simp[ev,fx,aw,aB,bE],by simp[ev,aD]⟩
def iI(n:Nat)(o:Oper):Bool:=
 match o.dst with
 |some d=>decide (d<n)
 |none=>true
theorem tS(e:Env)(dst:Option Tmp)(v:AV)(x:Nat):aN (put dst v e) x=if dst=some x then v else aN e x:=by
 cases dst with
 |none=>simp[put]
 |some d=>
  simp only[put,aN,Option.some.injEq]
  by_cases h:x=d
  ·simp[h]
  ·simp[h,hd h]
theorem Ug{n:Nat}{o:Oper}(a:iI n o=true){t:Array b5}(c:t.size=n)(v:b5)(x:Nat):(mC o.dst v t).getD x undef=if o.dst=some x then v else t.getD x undef:=by
 unfold iI at a;cases b:o.dst with
 |none=>simp[mC]
 |some d=>
  simp only[b,decide_eq_true_eq]at a;simp only[mC,Option.some.injEq]
  by_cases h:d=x
  ·subst h;simp[c,a]
  ·simp only[h,if_false,Array.getD_eq_getD_getElem?,Array.getElem?_setIfInBounds_ne h]
theorem TR{t:Array b5}(dst:Option Tmp)(v:b5):(mC dst v t).size=t.size:=by cases dst<;>simp[mC]
theorem cw.put{ah aa aE:Nat->Prop}{β aG:Bd}{s:St}{H':aj}{t:Array b5}{w w':cc}{o:Oper}{v:AV}{b:b5}(h:cw P n ah aa β s t w)(c:iI n o=true)
 (a:bP P ah aa w β s.heap aE w' aG H')(e:aw P w' aE aG H' v b)(d:aD (aF H') v):
 cw P n ah aE aG ⟨put o.dst v s.env,H'⟩ (mC o.dst b t) w':=by
 refine⟨a.rel,fun x=>?_,fun x=>?_,by rw[TR];exact h.size⟩
 ·rw[tS,Ug c h.size]
  split
  ·exact e
  ·exact aw.mono a.bL (fun k hk=>a.ext.same k (.inr hk)) a.step _ _ (h.gp x) (h.env x)
 ·rw[tS]
  split
  ·exact d
  ·exact aD.mono a.eQ _ (h.gp x)
theorem Hx{H T:aj}{b:Nat×Nat}(h:aF H b):aF (H++T) b:=by
 obtain⟨o,a,c⟩:=h;exact⟨o,by rw[e9 (e7.1 a).1];exact a,c⟩
theorem bN.later{ah aa aE:Nat->Prop}{w w':cc}{β:Bd}{H:aj}(h:bN P w aa β H ah)(e:∀k,aa k->aE k)(hf:∀k,aE k->aa k\/w.heap.size<=k)
 (B:∀k,aE k->k<w'.heap.size)(p:w.heap.size<=w'.heap.size)(hs:∀k,k<w.heap.size->w'.heap[k]?=w.heap[k]?)(A:w'.os=w.os/\w'.output=w.output:=by exact⟨rfl,rfl⟩):bP P ah aa w β H aE w' β H:=by
 have same:∀k,aa k->w'.heap[k]?=w.heap[k]?:=fun k hk=>hs k (h.bL k hk);refine⟨e,fun k hk=>(hf k hk).imp id (fun c a=>by have:=h.dY k a;omega),⟨p,fun k hk=>hs k (hk.elim (h.dY k) (h.bL k)),A⟩,cd.refl _ _,?_,fun _ x=>x,fun _ x=>x⟩;refine⟨fun b o m=>?_,fun b b' o o' c a D E C=>h.inj b b' o o' c a D E (fun hi=>C (e _ hi)),h.refs,B,fun k hk=>ha (h.dY k hk) p,h.gV.mono e same⟩;have g:=h.cr b o m;have n:=h.refs b o m;have held:∀fz,o.live->cm aa β ah fz b->cm aE β ah fz b:=by
  intro fz f l;have:=h.ma m f;unfold cm at l⊢;cases fz with
  |true=>exact e _ l
  |false=>exact⟨fun x=>(hf _ x).elim l.1 (by omega),l.2⟩
 have j:o.live->w'.heap[β.al b]?=w.heap[β.al b]?:=fun f=>hs _ (h.ma m f);cases o with
 |hole=>trivial
 |dead=>trivial
 |box fz t=>
  obtain⟨cs,T,c,a,d,i⟩:=g;exact⟨cs,T,(j trivial).trans c,bh.mono e same (cd.refl _ _) _ _ n a,held _ trivial d,i⟩
 |arr k ar ai es=>
  rcases g with g|⟨cs,T,q,rest,c,a,d,i,u,v,y,z⟩
  ·exact .inl g
  ·by_cases f:cR k es
   ·exact .inl f
   ·exact .inr ⟨cs,T,q,rest,(j f).trans c,bG.mono e same (cd.refl _ _) _ _ _ n a,d,i,u,v,held _ f y,z⟩
 |map fz es=>
  obtain⟨r,clock,c,a,d⟩:=g;exact⟨r,clock,(j trivial).trans c,cq.mono e same _ _ a,held _ trivial d⟩
 |dc s pos=>
  obtain⟨bs,c,a,d⟩:=g;exact⟨bs,(j trivial).trans c,a,held _ trivial d⟩
 |loop L=>
  obtain⟨tmps,defers,fn,c,a,d,i⟩:=g;exact⟨tmps,defers,fn,(j trivial).trans c,a,fun x=>aw.mono e same (cd.refl _ _) _ _ (n x) (d x),held _ trivial i⟩
theorem ph{w:cc}{aa:Nat->Prop}{β:Bd}{H:aj}:∀{a b:List AV}{x y:List b5},bD P w aa β H a x->bD P w aa β H b y->bD P w aa β H (a++b) (x++y)
 |[],b,x,y,h,c=>by simp only[bD]at h;subst h;simpa using c
 |v::a,b,x,y,h,c=>by
  simp only[bD]at h;obtain⟨z,f,rfl,d,e⟩:=h;simp only[gx,bD];exact⟨z,f++y,rfl,d,ph e c⟩
theorem jx{S:Nat×Nat->Prop}{a b:List AV}(h:aU S a)(d:aU S b):aU S (a++b):=by
 rw[cK]at*;intro v c;rcases gy.1 c with c|c
 ·exact h v c
 ·exact d v c
theorem tV{ah aa:Nat->Prop}{β:Bd}{s:St}{t:Array b5}{w:cc}(h:cw P n ah aa β s t w):∀l:List cx,
 bD P w aa β s.heap (l.map (ev s.env)) (l.map (fx t))/\aU (aF s.heap) (l.map (ev s.env))
 |[]=>by simp[bD,aU]
 |x::l=>by
  have a:=nh h x;have b:=tV h l;simp only[fb,bD,aU];exact⟨⟨_,_,rfl,a.1,b.1⟩,a.2,b.2⟩
theorem P1{vs:List PV}{l:List AV}(h:l=vs.map .p):dW l=some vs:=by rw[h,Qc]
end
section
variable{P:b4}{w:cc}{aa ah:Nat->Prop}{β:Bd}{H:aj}
def Bd.at(β:Bd)(b al cap:Nat):Bd:=⟨fun x=>if x=b then al else β.al x,fun x=>if x=b then cap else β.cap x⟩
theorem xd{b:Nat}(f:H[b]?=some .hole)(o':Obj)(al cap:Nat):cd β H (β.at b al cap) (H.set b o'):=by
 have a:∀{x v},aF H (x,v)->x≠b:=by
  rintro x v ⟨o,d,g⟩ rfl;simp only at d;rw[f]at d;cases d;exact g
 have c:∀{x v},aF H (x,v)->(H.set b o')[x]?=H[x]?:=fun hx=>e6 (hd (a hx));refine⟨?_,?_,?_,?_,?_⟩
 ·rintro x hx ⟨fz,t,h⟩;rw[c hx]at h;exact⟨⟨fz,t,h⟩,by simp[Bd.at,a hx]⟩
 ·rintro x hx ⟨fz,t,h⟩;rw[c hx]at h;exact⟨⟨fz,t,h⟩,by simp[Bd.at,a hx]⟩
 ·rintro x hx ⟨fz,t,h⟩;rw[c hx]at h;exact⟨⟨fz,t,h⟩,by simp[Bd.at,a hx]⟩
 ·intro x ar ai k e hx h;unfold fg at h;rw[c hx]at h;exact⟨k,e,h,g8 _,eq,fun _=>by simp[Bd.at,a hx]⟩
 ·rintro x hx ⟨L,h⟩;rw[c hx]at h;exact⟨⟨L,h⟩,by simp[Bd.at,a hx]⟩
theorem rH(e:bN P w aa β H ah){a:Nat}(b:H[a]?=some .hole){ob:Go.Obj}{o':Obj}{cap:Nat}
 (g:fe P {w with heap:=w.heap.push ob} aa (β.at a w.heap.size cap) (H.set a o') ah a o')(h:o'.refs (aF (H.set a o'))):
 bP P ah aa w β H aa {w with heap:=w.heap.push ob} (β.at a w.heap.size cap) (H.set a o'):=by
 refine bP.set e (e7.1 b).1 (fun x hx=>by simp[Bd.at,hx]) (fun _ x=>x) (fun _ x=>.inl x) (fun k hk=>by have:=e.bL k hk;simp;omega) (by simp)
  (fun k _ hk=>by simp[bv,hb hk]) (fun _=>.inl (by simp[Bd.at])) (xd b _ _ _) g h (fun i v c f=>by rw[b]at c;cases c;exact f.elim) (fun L d=>by rw[b]at d;cases d)
theorem tN(w:cc)(a:Go.Obj){k:Nat}(hk:k<w.heap.size):({w with heap:=w.heap.push a}:cc).heap[k]?=w.heap[k]?:=by
 simp[bv,hb hk]
end
section
variable{P:b4}{w:cc}{aa aE ah:Nat->Prop}{β:Bd}{H:aj}
def Row(P:b4)(w:cc)(aa:Nat->Prop)(β:Bd)(H:aj)(ai:Nat)(a:List AV)(b:List (List b5)):Prop:=bG P w aa β H (ew a.length ai) a b
theorem gR{ai:Nat}{a:List (List b5)}:Row P w aa β H ai [] a↔a=[]:=by simp[Row,bG]
theorem pA{ai:Nat}{v:AV}{b:List AV}{a:List (List b5)}:Row P w aa β H ai (v::b) a↔∃c cs,a=c::cs/\bh P w aa β H v c/\c.length=ai/\Row P w aa β H ai b cs:=by
 simp[Row,gi,bG]
theorem kz{ai:Nat}:∀{a b:List AV}{d:List (List b5)},Row P w aa β H ai (a++b) d↔∃c1 c2,d=c1++c2/\Row P w aa β H ai a c1/\Row P w aa β H ai b c2
 |[],b,d=>by
  simp only[List.nil_append];constructor
  ·intro h;exact⟨[],d,rfl,gR.2 rfl,h⟩
  ·rintro⟨c1,c2,rfl,e,f⟩;rw[gR.1 e];simpa using f
 |v::a,b,d=>by
  simp only[gx,pA];constructor
  ·rintro⟨c,cs,rfl,e,f,g⟩;obtain⟨c1,c2,rfl,i,j⟩:=kz.1 g;exact⟨c::c1,c2,rfl,⟨c,c1,rfl,e,f,i⟩,j⟩
  ·rintro⟨c1,c2,rfl,⟨c,cs,rfl,e,f,g⟩,i⟩;exact⟨c,cs++c2,rfl,e,f,kz.2 ⟨cs,c2,rfl,g,i⟩⟩
theorem fH{ai:Nat}:∀{b:List AV}{a:List (List b5)},Row P w aa β H ai b a->a.length=b.length/\a.flatten.length=b.length*ai
 |[],a,h=>by rw[gR]at h;subst h;simp
 |v::b,a,h=>by
  rw[pA]at h;obtain⟨c,cs,rfl,f,d,e⟩:=h;have:=fH e;simp only[fd,List.flatten_cons,gm,this,d,Nat.succ_mul];exact⟨trivial,by omega⟩
theorem lx{ai:Nat}{a:List PV}{b:List (List b5)}:Row P w aa β H ai (a.map .p) b↔bg P w aa (ew a.length ai) a b:=by
 unfold Row;rw[List.length_map];exact mR
theorem jy{ai:Nat}{d:List AV}{e:List (List b5)}(h:Row P w aa β H ai d e)(off len:Nat)(k:off+len<=d.length):
 ∃a b c,e=a++b++c/\Row P w aa β H ai ((d.drop off).take len) b/\a.flatten.length=off*ai/\Row P w aa β H ai (d.take off) a/\Row P w aa β H ai (d.drop (off+len)) c:=by
 have e1:d=d.take off++((d.drop off).take len++d.drop (off+len)):=by
  rw[<-g0,gc,gc]
 rw[e1,kz]at h;obtain⟨a,r,rfl,f,g⟩:=h;rw[kz]at g;obtain⟨b,c,rfl,i,j⟩:=g;refine⟨a,b,c,by simp,i,?_,f,j⟩;have:=(fH f).2;rw[this,List.length_take,Nat.min_eq_left (by omega)]
theorem ld{cs:Array b5}{T:cb}{fz:Nat×Nat}{al:Nat}(a:w.heap[al]?=some (.cells cs T fz)){pre xs post:List b5}(hc:cs.toList=pre++xs++post):
 gB w al pre.length xs:=by
 intro i hi;have:cs[pre.length+i]?=some xs[i]:=by
  rw[<-Array.getElem?_toList,hc,gt,fm (by omega)];simp only[Nat.add_sub_cancel_left];rw[e9 hi,List.getElem?_eq_getElem hi]
 simp[ej,a,this]
theorem Ab(a:List PV)(off len:Nat):(((a.map AV.p).drop off).take len)=((a.drop off).take len).map .p:=by
 rw[<-List.map_drop,<-List.map_take]
theorem ly{H:aj}{b:Nat}{d o:Obj}(c:H[b]?=some d)(e:∀v,d.has v->o.has v):∀x,aF H x->aF (H.set b o) x:=by
 rintro⟨x,v⟩ ⟨f,a,h⟩
 by_cases hx:b=x
 ·subst hx;simp only at a;rw[c]at a;cases a;exact⟨o,by simp only;rw[e8 (e7.1 c).1],e v h⟩
 ·exact⟨f,by simp only;rw[e6 hx];exact a,h⟩
theorem rj{b:Nat}{o o':Obj}(l:H[b]?=some o)(hk:(∃f g t,o= .box f t/\o'= .box g t)\/(∃k m v z c,o= .arr k v z c/\o'= .arr m v z c/\¬cR k c/\¬cR m c)\/(∃f g c,o= .map f c/\o'= .map g c)):
 cd β H β (H.set b o'):=by
 have r:b<H.length:=(e7.1 l).1;have i:∀x,x≠b->(H.set b o')[x]?=H[x]?:=fun x hx=>e6 (hd hx);have e:(H.set b o')[b]?=some o':=e8 r;refine⟨?_,?_,?_,?_,?_⟩
 ·rintro x _ ⟨fz,t,h⟩;refine⟨?_,rfl⟩
  by_cases hx:x=b
  ·subst hx;rw[e]at h;cases h;rcases hk with⟨f,g,j,d,a⟩|⟨_,_,_,_,_,_,a,_⟩|⟨_,_,_,_,a⟩
   ·exact⟨f,j,by rw[l,d]⟩
   ·cases a
   ·cases a
  ·rw[i x hx]at h;exact⟨fz,t,h⟩
 ·rintro x _ ⟨s,p,h⟩;refine⟨?_,rfl⟩
  by_cases hx:x=b
  ·subst hx;rw[e]at h;cases h;rcases hk with⟨f,g,j,d,a⟩|⟨_,_,_,_,_,_,a,_⟩|⟨_,_,_,_,a⟩<;>cases a
  ·rw[i x hx]at h;exact⟨s,p,h⟩
 ·rintro x _ ⟨fz,t,h⟩;refine⟨?_,rfl⟩
  by_cases hx:x=b
  ·subst hx;rw[e]at h;cases h;rcases hk with⟨f,g,j,d,a⟩|⟨_,_,_,_,_,_,a,_⟩|⟨f,g,c,d,a⟩
   ·cases a
   ·cases a
   ·exact⟨f,c,by rw[l,d]⟩
  ·rw[i x hx]at h;exact⟨fz,t,h⟩
 ·intro x ar ai k c _ h
  by_cases hx:x=b
  ·subst hx;unfold fg at h⊢;rw[e]at h;cases h;rcases hk with⟨f,g,j,d,a⟩|⟨k0,m,v,z,u,d,a,n,q⟩|⟨f,g,c,d,a⟩
   ·cases a
   ·cases a;exact⟨k0,c,by rw[l,d],g8 _,⟨fun x=>(q x).elim,fun x=>(n x).elim⟩,fun _=>⟨rfl,rfl⟩⟩
   ·cases a
  ·unfold fg at h⊢;rw[i x hx]at h;exact⟨k,c,h,g8 _,eq,fun _=>⟨rfl,rfl⟩⟩
 ·rintro x _ ⟨L,h⟩;refine⟨?_,rfl⟩
  by_cases hx:x=b
  ·subst hx;rw[e]at h;cases h;rcases hk with⟨f,g,j,d,a⟩|⟨_,_,_,_,_,_,a,_⟩|⟨_,_,_,_,a⟩<;>cases a
  ·rw[i x hx]at h;exact⟨L,h⟩
theorem cm.sx{fz:Bool}{b:Nat}(h:cm aa β ah fz b):aa (β.al b)\/(¬aa (β.al b)/\¬ah (β.al b)):=by
 cases fz with
 |true=>exact .inl h
 |false=>exact .inr h
theorem rr(d:bN P w aa β H ah){b:Nat}{o o':Obj}(f:H[b]?=some o)(p:o.live)(O:o'.live)(u:∀v,o.has v->o'.has v)(r:∀L,o≠ .loop L)
 (aK:cd β H β (H.set b o'))(N:aa (β.al b)\/(¬aa (β.al b)/\¬ah (β.al b)))
 (aQ:∀aE:Nat->Prop,(∀k,aa k->aE k)->aE (β.al b)->fe P w aE β (H.set b o') ah b o')(A:o'.refs (aF (H.set b o'))):
 ∃aE,bP P ah aa w β H aE w β (H.set b o')/\aE (β.al b):=by
 have n:b<H.length:=(e7.1 f).1
 by_cases hi:aa (β.al b)
 ·
  refine⟨aa,?_,hi⟩;have ak:=ly f u;refine⟨fun _ x=>x,fun _ x=>.inl x,Ext.refl _ _ _,aK,⟨?_,?_,?_,d.bL,d.dY,d.gV⟩,ak,fun x⟨L,i⟩=>⟨L,by
   by_cases hx:b=x
   ·subst hx;rw[f]at i;cases i;exact(r L rfl).elim
   ·rw[e6 hx];exact i⟩⟩
  ·intro x l c
   by_cases hx:x=b
   ·subst hx;rw[e8 n]at c;cases c;exact aQ aa (fun _ x=>x) hi
   ·rw[e6 (hd hx)]at c;have g:=d.cr x l c;have q:=d.refs x l c;cases l with
    |hole=>trivial
    |dead=>trivial
    |box fz t=>
     obtain⟨cs,T,a,e,j⟩:=g;exact⟨cs,T,a,bh.mono (fun _ x=>x) (fun _ _=>rfl) aK _ _ q e,j⟩
    |arr k ar ai es=>
     rcases g with g|⟨cs,T,J,rest,a,e,j⟩
     ·exact .inl g
     ·exact .inr ⟨cs,T,J,rest,a,bG.mono (fun _ x=>x) (fun _ _=>rfl) aK _ _ _ q e,j⟩
    |map fz es=>exact g
    |dc s pos=>exact g
    |loop L=>
     obtain⟨tmps,defers,fn,a,e,j,K⟩:=g;exact⟨tmps,defers,fn,a,e,fun x=>aw.mono (fun _ x=>x) (fun _ _=>rfl) aK _ _ (q x) (j x),K⟩
  ·intro x y D W a e S U Q M;have conv:∀(z:Nat)(m:Obj),(H.set b o')[z]?=some m->m.live->∃E:Obj,H[z]?=some E/\E.live:=by
    intro z m B V
    by_cases C:z=b
    ·subst C;exact⟨o,f,p⟩
    ·rw[e6 (hd C)]at B;exact⟨m,B,V⟩
   obtain⟨F,G,c1⟩:=conv x D a S;obtain⟨a2,I,c2⟩:=conv y W e U;exact d.inj x y F a2 G I c1 c2 Q M
  ·intro x l c
   by_cases hx:x=b
   ·subst hx;rw[e8 n]at c;cases c;exact A
   ·rw[e6 (hd hx)]at c;exact Obj.uc ak (d.refs x l c)
 ·refine⟨fun k=>aa k\/k=β.al b,?_,.inr rfl⟩;have R:=N.resolve_left hi;exact bP.set d n (fun _ _=>⟨rfl,rfl⟩) (fun _ x=>.inl x) (fun k hk=>hk.imp id (fun h=>⟨h,O⟩)) (fun k hk=>hk.elim (d.bL k) (fun h=>h▸d.ma f p)) (g8 _)
   (fun _ _ _=>rfl) (fun _=>.inr ⟨rfl,⟨o,f,p⟩,.inl (fun _ _=>rfl),R.2⟩) aK (aQ _ (fun _ x=>.inl x) (.inr rfl)) A (fun D v a e=>by rw[f]at a;cases a;exact u v e) (fun L i=>by rw[f]at i;cases i;exact(r L rfl).elim)
theorem Hn{z:AV}{K:PV}{H1:aj}{v:b5}(d:iL H z=some (K,H1))(j:bN P w aa β H ah)(f:aw P w aa β H z v)(ab:aD (aF H) z):
 ∃aE,bP P ah aa w β H aE w β H1/\aB P w aE K v:=by
 cases z with
 |p t=>
  simp[iL]at d;obtain⟨rfl,rfl⟩:=d;exact⟨aa,bP.refl j,by simpa[aw]using f⟩
 |sl b ar ai off len=>
  simp only[iL]at d
  split at d
  case h_2=>simp at d
  rename_i k ac X i g
  split at d
  case isFalse=>simp at d
  rename_i Q;obtain⟨rfl,rfl,Z⟩:=Q;simp only[aw]at f;obtain⟨_,f⟩:=f;simp only[bM]at f;obtain⟨v1,v2,v3⟩:=f k i g
  split at d
  ·rename_i u;simp at d;obtain⟨rfl,rfl⟩:=d;exact⟨aa,bP.refl j,by simp[aB,v2 u]⟩
  ·rename_i u
   split at d
   case h_2=>simp at d
   rename_i J S;simp at d;obtain⟨rfl,rfl⟩:=d;have A:=lr S;have E:=j.cr b _ g;rcases E with E|⟨cs,T,F,rest,n,l,r,B,M,N,O,Y⟩
   ·exact(u E).elim
   have I:¬cR .frozen i:=fun h=>by cases h.1
   have aK:cd β H β (H.set b (.arr .frozen ar ai i)):=rj g (.inr (.inl ⟨_,_,_,_,_,rfl,rfl,u,I⟩));obtain⟨aE,q,y⟩:=rr j g u (o':=.arr .frozen ar ai i) I (fun _ h=>h) (fun _ h=>by cases h) aK O.sx
    (fun aE hi x=>.inr ⟨cs,T,F,rest,n,bG.mono hi (fun _ _=>rfl) aK _ _ _ (j.refs b _ g) l,r,B,M,(fun h=>by cases h),x,fun _ e C=>(by rw[A]at C;simp at C;obtain⟨a,_,rfl⟩:=C;trivial),fun h=>by cases h⟩)
    (by rw[A];exact iF _ _)
   refine⟨aE,q,?_⟩;rw[v3 u];have U:Row P w aE β H ai i F:=bG.mono q.bL (fun _ _=>rfl) (cd.refl _ _) _ _ _ (j.refs b _ g) l;obtain⟨a,m,c,e1,e2,e3,e4,e5⟩:=jy U off len v1;rw[A,Ab,lx]at e2;have D:((J.drop off).take len).length=len:=by
    have:i.length=J.length:=by rw[A];simp
    simp;omega
   simp only[aB];refine⟨β.al b,off*ai,β.cap b-off,ai,m,e2,fun _=>y,?_,?_,?_,none,.inl rfl,?_⟩
   ·rw[<-e3];exact ld n (post:=c.flatten++rest) (by rw[r,e1];simp)
   ·intro hf;simp at hf;rw[D,N hf.1];omega
   ·rw[D];omega
   ·rw[D]
 |ptr b path=>
  simp only[iL]at d
  split at d
  case h_2=>simp at d
  rename_i fz t g
  split at d
  case h_2=>simp at d
  rename_i s hs;simp at d;obtain⟨rfl,rfl⟩:=d;simp only[aw]at f;obtain⟨_,f⟩:=f;simp only[bM]at f;obtain⟨W,V,o,rfl,R,f⟩:=f;obtain⟨rfl,rfl⟩:=f (.inl ⟨fz,_,g⟩);obtain⟨cs,T,n,l,r,B⟩:=j.cr b _ g;have aK:cd β H β (H.set b (.box true (.p t))):=rj g (.inl ⟨_,_,_,rfl,rfl⟩);obtain⟨aE,q,y⟩:=rr j g trivial (o':=.box true (.p t)) trivial (fun _ h=>h) (fun _ h=>by cases h) aK r.sx
   (fun aE hi x=>⟨cs,T,n,bh.mono hi (fun _ _=>rfl) aK _ _ (by simp[aD]) l,x,fun _=>trivial,B.2⟩) (by simp[Obj.refs,aD])
  refine⟨aE,q,?_⟩;have L:aV P w aE t cs.toList:=by simp only[bh]at l;exact aV.mono q.bL (fun _ _=>rfl) _ _ l
  obtain⟨pre,xs,post,e1,e2,e3⟩:=xt L hs R;simp only[aB];refine⟨β.al b,V,xs,e3,y,?_,rfl⟩;rw[<-e2];exact ld n e1
 |map b=>
  simp only[iL]at d
  split at d
  case h_2=>simp at d
  rename_i fz i g;simp at d;obtain⟨rfl,rfl⟩:=d;simp only[aw]at f;obtain⟨_,f⟩:=f;simp only[bM]at f;have f:=f.1 ⟨fz,i,g⟩;obtain⟨G,clock,n,l,r⟩:=j.cr b _ g;have aK:cd β H β (H.set b (.map true i)):=rj g (.inr (.inr ⟨_,_,_,rfl,rfl⟩));obtain⟨aE,q,y⟩:=rr j g trivial (o':=.map true i) trivial (fun _ h=>h) (fun _ h=>by cases h) aK r.sx
   (fun aE hi x=>⟨G,clock,n,cq.mono hi (fun _ _=>rfl) _ _ l,x⟩) trivial
  refine⟨aE,q,?_⟩;simp only[aB];exact⟨β.al b,G,clock,y,n,cq.mono q.bL (fun _ _=>rfl) _ _ l,f⟩
 |bQ=>simp[iL]at d
 |func=>simp[iL]at d
 |st=>simp[iL]at d
 |aA=>simp[iL]at d
end
section
variable{P:b4}{ag:cv->Bool}{n N:Nat}
theorem AO{w:cc}{β:Bd}{ah:Nat->Prop}:∀{e:List AV}{g:List PV}{H H1:aj}{aa:Nat->Prop}{vs:List b5},jH H e=some (g,H1)->bN P w aa β H ah->
 bD P w aa β H e vs->aU (aF H) e->∃aE,bP P ah aa w β H aE w β H1/\bE P w aE g vs
 |[],g,H,H1,aa,vs,b,h,c,_=>by
  simp[jH]at b;obtain⟨rfl,rfl⟩:=b;simp only[bD]at c;exact⟨aa,bP.refl h,by simpa[bE]using c⟩
 |a::e,g,H,H1,aa,vs,b,h,c,f=>by
  simp only[jH]at b
  split at b
  case h_2=>simp at b
  rename_i v o j
  split at b
  case h_2=>simp at b
  rename_i r p k;simp at b;obtain⟨rfl,rfl⟩:=b;simp only[bD]at c;obtain⟨y,n,rfl,k1,k2⟩:=c;simp only[aU]at f;obtain⟨q,d,l⟩:=Hn j h k1 f.1;obtain⟨i,q1,m⟩:=AO k d.rel (bD.mono d.bL (fun _ _=>rfl) d.step _ _ f.2 k2) (aU.mono d.eQ _ f.2);refine⟨i,d.trans q1,?_⟩;simp only[bE];exact⟨y,n,rfl,aB.mono q1.bL (fun _ _=>rfl) _ _ l,m⟩
def jT(P:b4)(n N:Nat)(fr:cy)(k:List Item)(cs:List cy)(c:Array Oper)(ah aa:Nat->Prop)(w:cc)(β:Bd)(H:aj)(m:da)(r:List Nat)(b:List ck)(K:St->Prop):Prop:=
 ∃s' aE aG a w',K s'/\db P m (lone (bu fr a b (.inRegion c r::k)) cs w')/\cw P n ah aE aG s' a w'/\dL N ah aa w β H ah aE w' aG s'.heap
theorem Ra{d:Bool}{o:Oper}{K:St->Prop}{s:St}(h:jo P ag d o K s)(c:Call):o.op≠.defer c:=by
 intro hc;unfold jo at h;rw[hc]at h;simp[fu,hc]at h
variable{fr:cy}{k:List Item}{cs:List cy}{ops:Array Oper}{i:Nat}{r:List Nat}{ds:List ck}
theorem Gg{d:Bool}{o:Oper}{f:cx}{F:Array cx}{Z:Array cb}{g:cv}{fi ca:List AV}{K:St->Prop}{s:St}{ah aa:Nat->Prop}{β:Bd}{t:Array b5}{w:cc}
 (W:o.op=.call {callee:=.value f,args:=F,argTypes:=Z})
 (hf:(ev s.env f=.func g fi ca)\/(∃a b,ev s.env f=.p (.func g a b)/\fi=a.map .p/\ca=b.map .p))
 (h:gF P d g (fi++F.toList.map (ev s.env)++ca) s.heap (fun v H'=>K ⟨put o.dst v s.env,H'⟩))
 (m:cw P n ah aa β s t w)(G:iI n o=true)(C:ops[i]?=some o)(M:dq o (yielded ops t)=true):
 jT P n N fr k cs ops ah aa w β s.heap (lone (bu fr t ds (.inRegion ops (i::r)::k)) cs w) r ds K:=by
 have E:=nh m f;obtain⟨y,u,am,al,ai,aq,ap⟩:∃y u:List b5,fx t f=.func (.func g) y.toArray u.toArray/\bD P w aa β s.heap fi y/\bD P w aa β s.heap ca u/\aU (aF s.heap) fi/\aU (aF s.heap) ca:=by
  rcases hf with hf|⟨a,b,hf,rfl,rfl⟩
  ·rw[hf]at E;simp only[aw,aD]at E;obtain⟨⟨y,u,l,j,z⟩,ac,ad⟩:=E;exact⟨y,u,z,l,j,ac,ad⟩
  ·rw[hf]at E;simp only[aw,aB]at E;obtain⟨⟨y,u,l,j,z⟩,_⟩:=E;exact⟨y,u,z,jj.2 l,jj.2 j,iF _ _,iF _ _⟩
 obtain⟨af,ag⟩:=tV m F.toList;have D:=ph (ph al af) ai;have Q:=jx (jx aq ag) ap;have q:(c9 (fx t) o).run P w=(callFunc g (y++F.toList.map (fx t)++u).toArray).run P w:=by
  simp only[c9,W,resolve,am,dp,Sem.run_bind,Sem.run_pure,Result.andThen_ok,invoke];congr 2;simp
 have L:∀c,o.op≠.defer c:=fun c hc=>by rw[W]at hc;cases hc
 have pure:∀(H1:aj)(B:Nat->Prop)(vs:List PV)(v:PV),bP P ah aa w β s.heap B w β H1->bE P w B vs (y++F.toList.map (fx t)++u)->au P g vs v->
  K ⟨put o.dst (.p v) s.env,H1⟩->jT P n N fr k cs ops ah aa w β s.heap (lone (bu fr t ds (.inRegion ops (i::r)::k)) cs w) r ds K:=by
  intro H1 B vs v A Y I U;rcases I with⟨R,I⟩|I
  ·rw[R]at q;obtain⟨e,w',S,⟨O,aE,H,g1,g2,g3,g4,g5,ab,g6⟩,aK,V,J⟩:=I w B _ A.rel.bL A.rel.gV Y (bu fr t ds (.inRegion ops (i::r)::k)::cs);subst H;have X:=A.trans (A.rel.later g1 g2 g3 g4 g5 ab);refine⟨_,aE,β,_,w',U,?_,m.put G X (by simpa[aw]using g6) (by simp[aD]),X.fa⟩;rw[<-mJ C];exact(dz (tK C M L q)).trans (ea aK (.one (c6 J)))
  ·obtain⟨O,l,j⟩:=I w B _ Y;rw[l]at q;exact⟨_,B,β,_,w,U,.one (rp C M L q (.inl rfl)),m.put G A (by simpa[aw]using j) (by simp[aD]),A.fa⟩
 rcases h with⟨vs,v,l,j,z⟩|⟨_,⟨vs,H1,v,l,j,z⟩|⟨H',v,⟨R,l⟩,j⟩|⟨e,T,ao,j⟩|⟨ak,v,ae,an,j⟩⟩
 ·exact pure s.heap aa vs v (bP.refl m.heap) (by rw[l]at D;exact jj.1 D) j z
 ·obtain⟨B,ar,av⟩:=AO l m.heap D Q;exact pure H1 B vs v ar av j z
 ·rw[R]at q;obtain⟨e,w',S,⟨O,aG,aE,H,g1,g2,g3⟩,aK,V,J⟩:=l w aa ah β _ m.heap D Q (bu fr t ds (.inRegion ops (i::r)::k)::cs);subst H;refine⟨_,aE,aG,_,w',j,?_,m.put G g1 g2 g3,g1.fa⟩;rw[<-mJ C];exact(dz (tK C M L q)).trans (ea aK (.one (c6 J)))
 ·rw[T.1]at q;obtain⟨x,w',S,⟨O,aG,aE,H,g1,g2,g3⟩,aK,V,J⟩:=T.use ao m.heap D Q (bu fr t ds (.inRegion ops (i::r)::k)::cs);subst H;refine⟨_,aE,aG,_,w',j,?_,m.put G g1 g2 g3,g1.fa⟩;rw[<-mJ C];exact(dz (tK C M L q)).trans (ea aK (.one (c6 J)))
 ·obtain⟨O,l,z⟩:=ae s.heap w aa ah β _ m.heap D Q an;rw[l]at q;have A:=bP.refl m.heap;exact⟨_,aa,β,_,w,j,.one (rp C M L q (.inl rfl)),m.put G A (by simpa[aw]using z) (by simp[aD]),A.fa⟩
end
end Go.az
namespace Go.az
variable[Gl]
section
variable{P:b4}{ag:cv->Bool}{n N:Nat}
variable{fr:cy}{k:List Item}{cs:List cy}{ops:Array Oper}{i:Nat}{r:List Nat}{ds:List ck}
theorem Rs{o:Oper}{f:cx}{a:Array cx}{p:Array cb}{b:Nat}{H':aj}{v:AV}{K:St->Prop}{s:St}{ah aa:Nat->Prop}{β:Bd}{t:Array b5}{w:cc}
 (l:o.op=.call {callee:=.value f,args:=a,argTypes:=p})(hf:ev s.env f=.map b)(m:fh P b s.heap (a.toList.map (ev s.env)) H' v)(x:K ⟨put o.dst v s.env,H'⟩)
 (d:cw P n ah aa β s t w)(A:iI n o=true)(j:ops[i]?=some o)(D:dq o (yielded ops t)=true):
 jT P n N fr k cs ops ah aa w β s.heap (lone (bu fr t ds (.inRegion ops (i::r)::k)) cs w) r ds K:=by
 have e:=(nh d f).1;rw[hf]at e;simp only[aw,bJ,bM]at e;have B:=e.2.2 m.1;obtain⟨y,z⟩:=tV d a.toList;have h:(c9 (fx t) o).run P w=(Instr.yield (β.al b) (a.toList.map (fx t)).toArray).run P w:=by
  simp only[c9,l,resolve,B,dp,Sem.run_bind,Sem.run_pure,Result.andThen_ok,invoke];congr 2;exact Array.ext' (by simp)
 have C:∀c,o.op≠.defer c:=fun c hc=>by rw[l]at hc;cases hc
 obtain⟨g,tmps,assign,body,q,u⟩:=m.2 w aa ah β _ d.heap y z;rw[q]at h;obtain⟨E,w',aG,aE,g1,g2,g3,g4⟩:=u (bu fr t ds (.inRegion ops (i::r)::k)) cs;refine⟨_,aE,aG,_,w',x,?_,d.put A g2 g3 g4,g2.fa⟩;rw[<-mJ j];exact(dz (Gv j D C h)).trans g1
theorem HW(y:kX P ag){d:Bool}{o:Oper}{K:St->Prop}{s:St}{ah aa:Nat->Prop}{β:Bd}{t:Array b5}{w:cc}
 (h:jo P ag d o K s)(a:cw P n ah aa β s t w)(c:iI n o=true)(j:ops[i]?=some o)(l:dq o (yielded ops t)=true):
 jT P n N fr k cs ops ah aa w β s.heap (lone (bu fr t ds (.inRegion ops (i::r)::k)) cs w) r ds K:=by
 have E:=Ra h;have z:fu P ag o (ev s.env) s.heap (fun e=>K (e.app o.dst s))->jT P n N fr k cs ops ah aa w β s.heap (lone (bu fr t ds (.inRegion ops (i::r)::k)) cs w) r ds K:=by
  intro h;obtain⟨e,m,hs,ak,aI⟩:=y o _ _ _ (fun v=>rfl) h;obtain⟨nx,I,w',aG,aE,A,B,u,C,D⟩:=hs.use a.heap (fun x _=>nh a x) ak (fun p F=>(aI p F).1);exact⟨_,aE,aG,_,w',m,.one (rp j l E A B),a.put c u C D,u.fa⟩
 unfold jo at h
 split at h
 ·rename_i f args H q
  split at h
  ·rename_i g fi ca hf;exact Gg q (.inr ⟨fi,ca,hf,rfl,rfl⟩) h a c j l
  ·rename_i g fi ca hf;exact Gg q (.inl hf) h a c j l
  ·rename_i b hf;obtain⟨H',v,G,m⟩:=h;exact Rs q hf G m a c j l
  ·exact h.elim
 ·exact z h
theorem jT.mono{m:da}{K a:St->Prop}{ah aa:Nat->Prop}{w:cc}{β:Bd}{H:aj}(h:jT P n N fr k cs ops ah aa w β H m r ds K)(hk:∀s,K s->a s):jT P n N fr k cs ops ah aa w β H m r ds a:=by
 obtain⟨s',aE,aG,t',w',b,c⟩:=h;exact⟨s',aE,aG,t',w',hk _ b,c⟩
theorem wP{s:St}{ah aa:Nat->Prop}{β:Bd}{t:Array b5}{w:cc}(e:cw P n ah aa β s t w)(l:∀o∈ops.toList,iI n o=true)(j:Nat):
 (∀b,guardOf ops j s.env=.p (.bool b)->yielded ops t j=some b)/\(guardOf ops j s.env=.p (.aA [])->yielded ops t j=none):=by
 unfold guardOf yielded;cases k:ops[j]? with
 |none=>simp
 |some f=>
  simp only[Option.bind_some];cases g:f.dst with
  |none=>simp
  |some d=>
   simp only[Option.bind_some];have h:d<t.size:=by
    have:=l f (by rw[bp];exact bo k);unfold iI at this;rw[g]at this;rw[e.size];simpa using this
   have a:=e.env d;have i:t[d]?=some (t.getD d undef):=by simp[Array.getD,h]
   rw[i];constructor
   ·intro b c;rw[c]at a;simp only[aw,aB]at a;rw[a]
   ·intro c;rw[c]at a;simp only[aw,aB,bE]at a;obtain⟨xs,rfl,a⟩:=a;rw[a]
theorem GW(f:kX P ag){d:Bool}(x:∀o∈ops.toList,iI n o=true):∀(l:List Oper)(i:Nat){K:St->Prop}{s:St}{ah aa:Nat->Prop}{β:Bd}{t:Array b5}{w:cc},
 ops.toList.drop i=l->gG P ag d ops l K s->cw P n ah aa β s t w->
 jT P n N fr k cs ops ah aa w β s.heap (lone (bu fr t ds (.inRegion ops (fl i l.length)::k)) cs w) [] ds K
 |[],i,K,s,ah,aa,β,t,w,v,h,a=>⟨s,aa,β,t,w,h,eb _ _,a,dL.refl _ _ _ _ _ _⟩
 |o::l,i,K,s,ah,aa,β,t,w,v,h,a=>by
  have e:ops[i]?=some o:=by
   have:(ops.toList.drop i)[0]?=some o:=by rw[v];rfl
   rw[List.getElem?_drop]at this;simpa using this
  have F:ops.toList.drop (i+1)=l:=by
   rw[<-g0,v];rfl
  have u:iI n o=true:=x o (by rw[bp];exact bo e);have g:∀{ah aa w β H}{m:da},jT P n N fr k cs ops ah aa w β H m (fl (i+1) l.length) ds (gG P ag d ops l K)->jT P n N fr k cs ops ah aa w β H m [] ds K:=by
   intro ah aa w β H m E;obtain⟨s',aE,aG,L,w',A,B,C,D⟩:=E;obtain⟨s2,z,J,t2,I,g1,g2,g3,g4⟩:=GW f x l (i+1) F A C;exact⟨s2,z,J,t2,I,g1,B.trans g2,g3,D.trans g4⟩
  rw[fd,List.range'_succ]
  have skip:gG P ag d ops l K ⟨put o.dst (.p (.aA [])) s.env,s.heap⟩->dq o (yielded ops t)=false->
   jT P n N fr k cs ops ah aa w β s.heap (lone (bu fr t ds (.inRegion ops (i::fl (i+1) l.length)::k)) cs w) [] ds K:=by
   intro hk G;refine g ⟨_,aa,β,_,w,hk,.one (G7 e G),a.put u (bP.refl a.heap) (by simp[aw,aB,bE,undef]) (by simp[aD]),dL.refl _ _ _ _ _ _⟩
  simp only[gG]at h
  split at h
  ·rename_i c;exact g (HW f h a u e (by simp[dq,c]))
  ·rename_i j M c;obtain⟨g1,g2⟩:=wP a x j
   split at h
   ·rename_i b q;have y:=g1 b q
    split at h
    ·rename_i r;exact g (HW f h a u e (by simp[dq,c,y,r]))
    ·rename_i r;exact skip h (by simp[dq,c,y,r])
   ·rename_i q;exact skip h (by simp[dq,c,g2 q])
   ·exact h.elim
theorem aE7{H:aj}{b v:Nat}(h:H[b]?=none\/H[b]?=some .hole):¬aF H (b,v):=by
 rintro⟨o,a,c⟩;rcases h with h|h
 ·simp only at a;rw[h]at a;cases a
 ·simp only at a;rw[h]at a;cases a;exact c
theorem oD.step{s s':St}{β:Bd}(hf:oD s s'):cd β s.heap β s'.heap:=by
 refine⟨?_,?_,?_,?_,?_⟩
 ·rintro b _ ⟨fz,t,a⟩;rcases hf.heap b _ a with h|h|⟨_,k,z,h,_⟩|⟨v,v',h,_,_⟩
  ·cases h
  ·exact⟨⟨fz,t,h⟩,rfl⟩
  ·cases h
  ·exact⟨⟨_,_,h⟩,rfl⟩
 ·rintro b _ ⟨fz,t,a⟩;rcases hf.heap b _ a with h|h|⟨_,k,z,h,_⟩|⟨v,v',_,h,_⟩
  ·cases h
  ·exact⟨⟨fz,t,h⟩,rfl⟩
  ·cases h
  ·cases h
 ·rintro b _ ⟨fz,t,a⟩;rcases hf.heap b _ a with h|h|⟨_,k,z,h,_⟩|⟨v,v',_,h,_⟩
  ·cases h
  ·exact⟨⟨fz,t,h⟩,rfl⟩
  ·cases h
  ·cases h
 ·intro b ar ai k c hi a;rcases hf.heap b _ a with h|h|⟨d,_⟩|⟨v,v',_,h,_⟩
  ·cases h
  ·exact⟨k,c,h,g8 _,eq,fun _=>⟨rfl,rfl⟩⟩
  ·exact(aE7 d hi).elim
  ·cases h
 ·rintro b _ ⟨L,a⟩;rcases hf.heap b _ a with h|h|⟨_,k,z,h,_⟩|⟨v,v',_,h,_⟩
  ·cases h
  ·exact⟨⟨L,h⟩,rfl⟩
  ·cases h
  ·cases h
section Yk
variable{w:cc}{aa:Nat->Prop}{β:Bd}{T:aj}
theorem Mu{b ar ai off len:Nat}(h:ar=0/\off=0/\len=0/\∃k z,T[b]?=some (.arr k 0 z [])/\k.gr=true):bJ P β T (.sl b ar ai off len) (.slice none 0 0):=by
 obtain⟨rfl,rfl,rfl,k,z,c,d⟩:=h;refine⟨by simp[ec],fun f e a=>?_⟩;unfold fg at a;rw[c]at a;cases a;exact⟨by simp,fun _=>rfl,fun h=>(h ⟨d,rfl⟩).elim⟩
mutual
theorem fK.cells:∀(v:PV)(x:AV)(cs:List b5),fK T v x->aV P w aa v cs->bh P w aa β T x cs
 | .aL,x,cs,h,hc=>by
  simp only[fK]at h;rcases h with rfl|h
  ·simpa only[bh]using hc
  ·cases x<;>simp only at h<;>try exact h.elim
   simp only[aV]at hc;simp only[bh];exact⟨_,hc,Mu h⟩
 | .st u fs,x,cs,h,hc=>by
  simp only[fK]at h;rcases h with rfl|h
  ·simpa only[bh]using hc
  ·cases x<;>simp only at h<;>try exact h.elim
   obtain⟨rfl,h⟩:=h;simp only[aV]at hc;obtain⟨l,a,d,e,f⟩:=hc;simp only[bh];exact⟨l,a,d,kr.cells l fs _ a h e,f⟩
 | .undef,x,cs,h,hc| .bool _,x,cs,h,hc| .int _ _,x,cs,h,hc| .str _,x,cs,h,hc| .dJ,x,cs,h,hc| .bZ _,x,cs,h,hc| .cE _ _,x,cs,h,hc| .seq _,x,cs,h,hc| .fq,x,cs,h,hc| .eH _,x,cs,h,hc| .func _ _ _,x,cs,h,hc| .gW,x,cs,h,hc| .fZ,x,cs,h,hc| .aA _,x,cs,h,hc=>by
  simp only[fK]at h;subst h;simpa only[bh]using hc
theorem kr.cells:∀(l:List Nat)(fs:List PV)(b:List AV)(a:List (List b5)),kr T fs b->bg P w aa l fs a->bG P w aa β T l b a
 |l,[],b,a,h,hc=>by
  simp only[kr]at h;subst h;cases l<;>simp_all [bG,bg]
 |l,v::vs,b,a,h,hc=>by
  cases b with
  |nil=>simp[kr]at h
  |cons g b=>
   simp only[kr]at h;cases l with
   |nil=>simp[bg]at hc
   |cons n l=>
    simp only[bg]at hc;obtain⟨c,cs,d,e,f,i⟩:=hc;simp only[bG];exact⟨c,cs,d,fK.cells v g c h.1 e,f,kr.cells l vs b cs h.2 i⟩
end
theorem fK.Dv(v:PV)(x:AV)(y:b5)(h:fK T v x)(hc:aB P w aa v y):aw P w aa β T x y:=by
 cases v
 case aL=>
  simp only[fK]at h;rcases h with rfl|h
  ·simpa only[aw]using hc
  ·cases x<;>simp only at h<;>try exact h.elim
   simp only[aB]at hc;subst hc;simp only[aw];exact Mu h
 case st u fs=>
  simp only[fK]at h;rcases h with rfl|h
  ·simpa only[aw]using hc
  ·cases x<;>simp only at h<;>try exact h.elim
   obtain⟨rfl,h⟩:=h;simp only[aB]at hc;obtain⟨l,a,b,c,d⟩:=hc;simp only[aw];exact⟨l,a,b,kr.cells l fs _ a h c,d⟩
 all_goals simp only[fK]at h;subst h;simpa only[aw]using hc
mutual
theorem Gh.cells:∀(v x:AV)(cs:List b5),Gh T v x->bh P w aa β T v cs->bh P w aa β T x cs
 | .p v,x,cs,h,hc=>by simp only[Gh]at h;simp only[bh]at hc;exact fK.cells v x cs h hc
 | .st u fs,x,cs,h,hc=>by
  simp only[Gh]at h;cases x<;>simp only at h<;>try exact h.elim
  obtain⟨rfl,h⟩:=h;simp only[bh]at hc⊢;obtain⟨l,a,d,e,f⟩:=hc;exact⟨l,a,d,lT.cells l fs _ a h e,f⟩
 | .ptr _ _,x,cs,h,hc| .bQ _ _ _ _ _,x,cs,h,hc| .sl _ _ _ _ _,x,cs,h,hc| .map _,x,cs,h,hc| .func _ _ _,x,cs,h,hc| .aA _,x,cs,h,hc=>by simp only[Gh]at h;subst h;exact hc
theorem lT.cells:∀(l:List Nat)(fs b:List AV)(a:List (List b5)),lT T fs b->bG P w aa β T l fs a->bG P w aa β T l b a
 |l,[],b,a,h,hc=>by simp only[lT]at h;subst h;exact hc
 |l,v::vs,b,a,h,hc=>by
  cases b with
  |nil=>simp[lT]at h
  |cons g b=>
   simp only[lT]at h;cases l with
   |nil=>simp[bG]at hc
   |cons n l=>
    simp only[bG]at hc⊢;obtain⟨c,cs,d,e,f,i⟩:=hc;exact⟨c,cs,d,Gh.cells v g c h.1 e,f,lT.cells l vs b cs h.2 i⟩
end
theorem Gh.Dv(v x:AV)(y:b5)(h:Gh T v x)(hc:aw P w aa β T v y):aw P w aa β T x y:=by
 cases v
 case p v=>simp only[Gh]at h;simp only[aw]at hc;exact fK.Dv v x y h hc
 case st u fs=>
  simp only[Gh]at h;cases x<;>simp only at h<;>try exact h.elim
  obtain⟨rfl,h⟩:=h;simp only[aw]at hc⊢;obtain⟨l,a,b,c,d⟩:=hc;exact⟨l,a,b,lT.cells l fs _ a h c,d⟩
 all_goals simp only[Gh]at h;subst h;exact hc
theorem fK.aJ{v:PV}{x:AV}(h:fK T v x):ad x=az.aJ v:=by
 cases v
 case aL=>
  simp only[fK]at h;rcases h with rfl|h
  ·rfl
  ·cases x<;>simp only at h<;>first|exact h.elim|rfl
 case st u fs=>
  simp only[fK]at h;rcases h with rfl|h
  ·rfl
  ·cases x<;>simp only at h<;>try exact h.elim
   simp[ad,az.aJ,h.1]
 all_goals simp only[fK]at h;subst h;rfl
theorem Gh.aJ{v x:AV}(h:Gh T v x):ad x=ad v:=by
 cases v
 case p v=>simp only[Gh]at h;exact h.aJ
 case st u fs=>
  simp only[Gh]at h;cases x<;>simp only at h<;>try exact h.elim
  simp[ad,h.1]
 all_goals simp only[Gh]at h;subst h;rfl
end Yk
theorem dd.fa{s s':St}{β:Bd}{ah aa:Nat->Prop}{w:cc}(hf:dd N s s'):dL N ah aa w β s.heap ah aa w β s'.heap:=by
 rcases hf with rfl|hf
 ·exact dL.refl _ _ _ _ _ _
 ·exact⟨fun _ h=>h,fun _ h=>h,fun _ h=>.inl h,Ext.refl _ _ _,hf.1.step.n,fun x a⟨o,e,d⟩=>⟨o,by rw[hf.2 _ a];exact e,d⟩,fun b a⟨L,c⟩=>⟨L,by rw[hf.2 _ a];exact c⟩⟩
theorem oD.rel{s s':St}{ah aa:Nat->Prop}{β:Bd}{t:Array b5}{w:cc}(hf:oD s s')(h:cw P n ah aa β s t w):cw P n ah aa β s' t w:=by
 have aK:cd β s.heap β s'.heap:=hf.step;refine⟨⟨?_,?_,hf.hrefs,h.heap.bL,h.heap.dY,h.heap.gV⟩,fun x=>?_,hf.gp,h.size⟩
 ·intro b o E;rcases hf.heap b o E with rfl|g|⟨_,k,z,rfl,hk⟩|⟨v,v',g,rfl,r⟩
  ·trivial
  rotate_left
  ·exact .inl ⟨hk,rfl⟩
  ·have d:=h.heap.cr b _ g;have i:=h.heap.refs b _ g;obtain⟨cs,T,a,c,e,q,C⟩:=d;exact⟨cs,T,a,Gh.cells _ _ _ r (bh.mono (fun _ x=>x) (fun _ _=>rfl) aK _ _ i c),e,(fun h=>by cases h),by rw[r.aJ];exact C⟩
  ·have d:=h.heap.cr b o g;have i:=h.heap.refs b o g;cases o with
   |hole=>trivial
   |dead=>trivial
   |box fz t=>
    obtain⟨cs,T,a,c,e⟩:=d;exact⟨cs,T,a,bh.mono (fun _ x=>x) (fun _ _=>rfl) aK _ _ i c,e⟩
   |arr k ar ai es=>
    rcases d with d|⟨cs,T,B,rest,a,c,e⟩
    ·exact .inl d
    ·exact .inr ⟨cs,T,B,rest,a,bG.mono (fun _ x=>x) (fun _ _=>rfl) aK _ _ _ i c,e⟩
   |map fz es=>exact d
   |dc s pos=>exact d
   |loop L=>
    obtain⟨tmps,defers,fn,a,c,e,q⟩:=d;exact⟨tmps,defers,fn,a,c,fun x=>aw.mono (fun _ x=>x) (fun _ _=>rfl) aK _ _ (i x) (e x),q⟩
 ·intro x y H I a c m p D f;have A:∀{z:Nat}{o:Obj},s'.heap[z]?=some o->o.live->∃o',s.heap[z]?=some o'/\o'.live:=by
   intro z o j l;rcases hf.heap z o j with rfl|j|⟨_,k,_,rfl,hk⟩|⟨v,v',j,_,_⟩
   ·exact l.elim
   ·exact⟨o,j,l⟩
   ·exact(l ⟨hk,rfl⟩).elim
   ·exact⟨_,j,trivial⟩
  obtain⟨F,a,m⟩:=A a m;obtain⟨G,c,p⟩:=A c p;exact h.heap.inj x y F G a c m p D f
 ·have u:=aw.mono (fun _ x=>x) (fun _ _=>rfl) aK _ _ (h.gp x) (h.env x);rcases hf.env x with f|f|f
  ·rw[f];exact u
  ·rw[f];simp[aw,aB]
  ·exact Gh.Dv _ _ _ f u
theorem dd.rel{s s':St}{ah aa:Nat->Prop}{β:Bd}{t:Array b5}{w:cc}(hf:dd N s s')(h:cw P n ah aa β s t w):cw P n ah aa β s' t w:=by
 rcases hf with rfl|hf
 ·exact h
 ·exact hf.1.rel h
def mv(P:b4)(fr:cy)(k:List Item)(cs:List cy)(m:da)(t:Array b5)(ds:List ck)(w:cc):bm->Prop
 | .normal=>db P m (lone (bu fr t ds k) cs w)
 | .exit id=>∃a,exitTo id a=exitTo id k/\db P m (lone (bu fr t ds (.code (.exit id)::a)) cs w)
 | .ret=>∃a,db P m (lone (bu fr t ds (.code .ret::a)) cs w)
theorem mv.of_steps{m f:da}{t:Array b5}{ds:List ck}{w:cc}{e:bm}(h:db P m f)(c:mv P fr k cs f t ds w e):mv P fr k cs m t ds w e:=by
 cases e with
 |normal=>exact h.trans c
 |exit id=>obtain⟨d,a,b⟩:=c;exact⟨d,a,h.trans b⟩
 |ret=>obtain⟨d,b⟩:=c;exact⟨d,h.trans b⟩
def mark(r:Nat):ck:={target:=.collected r,args:=#[]}
def Marks(fr:cy)(ah:Nat->Prop)(w:cc)(jL aE:Nat->Prop)(w':cc)(b c:List ck):Prop:=
 ∃a:List Nat,c=a.map mark++b/\a.Nodup/\(∀r∈a,w.heap.size<=r/\jL r/\¬aE r/\w'.heap[r]?=some (.deferred (some [])))/\(∀k,jL k->ah k\/k∈a)/\(fr.roundOf.isSome=true->a=[])
theorem Marks.refl(fr:cy)(ah aE:Nat->Prop)(w w':cc)(ds:List ck):Marks fr ah w ah aE w' ds ds:=⟨[],rfl,List.nodup_nil,by simp,fun _ h=>.inl h,fun _=>rfl⟩
theorem Marks.trans{fr:cy}{N:Nat}{ah aa d e g f:Nat->Prop}{w w1 l:cc}{β p B:Bd}{H H1 q:aj}{ds m n:List ck}(h:Marks fr ah w d e w1 ds m)(i:dL N ah aa w β H d e w1 p H1)
 (s:Marks fr d w1 g f l m n)(j:dL N d e w1 p H1 g f l B q):Marks fr ah w g f l ds n:=by
 obtain⟨rs,rfl,t,o,u,v⟩:=h;obtain⟨A,rfl,g2,g3,g4,g5⟩:=s;refine⟨A++rs,by simp,?_,?_,?_,fun hx=>by simp[v hx,g5 hx]⟩
 ·rw[List.nodup_append];refine⟨g2,t,fun a i b y x=>?_⟩;subst x;have C:=(g3 a i).1;have D:=(bl.1 (o a y).2.2.2).1;omega
 ·intro r c;rcases gy.1 c with c|c
  ·obtain⟨k1,k2⟩:=g3 r c;exact⟨g9 i.ext.size k1,k2⟩
  ·obtain⟨k1,k2,k3,k4⟩:=o r c;exact⟨k1,j.dY _ k2,fun hx=>(j.fresh _ hx).elim k3 (fun z=>z k2),(j.ext.same _ (.inl k2)).trans k4⟩
 ·intro k hk;rcases g4 k hk with hk|hk
  ·rcases u k hk with hk|hk
   ·exact .inl hk
   ·exact .inr (by simp[hk])
  ·exact .inr (by simp[hk])
def qf(N:Nat)(fr:cy)(β:Bd)(H:aj):Prop:=∀l,fr.roundOf=some l->∃b,b<N/\gD H b/\β.al b=l
theorem qf.fa{fr:cy}{β aG:Bd}{H H':aj}{ah aa jL aE:Nat->Prop}{w w':cc}(h:qf N fr β H)(e:dL N ah aa w β H jL aE w' aG H'):qf N fr aG H':=by
 intro l i;obtain⟨b,a,c,f⟩:=h l i;have d:=e.loop b a c;obtain⟨L,g⟩:=c;exact⟨b,a,d,((e.step.loop b a ⟨_,g,trivial⟩ d).2).trans f⟩
def pC(P:b4)(n N:Nat)(fr:cy)(k:List Item)(cs:List cy)(ah aa:Nat->Prop)(w:cc)(β:Bd)(H:aj)(m:da)(c:List ck)(Q:bm->St->Prop):Prop:=
 ∃e s' jL aE aG b w' a,Q e s'/\mv P fr k cs m b a w' e/\cw P n jL aE aG s' b w'/\dL N ah aa w β H jL aE w' aG s'.heap/\Marks fr ah w jL aE w' c a
theorem pC.of{k:List Item}{ah aa:Nat->Prop}{w:cc}{β:Bd}{H:aj}{m:da}{ds:List ck}{Q:bm->St->Prop}{e:bm}{s':St}{aE:Nat->Prop}{aG:Bd}{a:Array b5}{w':cc}(hq:Q e s')(c:mv P fr k cs m a ds w' e)
 (d:cw P n ah aE aG s' a w')(b:dL N ah aa w β H ah aE w' aG s'.heap):pC P n N fr k cs ah aa w β H m ds Q:=⟨e,s',ah,aE,aG,a,w',ds,hq,c,d,b,Marks.refl _ _ _ _ _ _⟩
theorem pC.next{k:List Item}{ah aa b a:Nat->Prop}{w w1:cc}{β g:Bd}{H H1:aj}{m f:da}{c d:List ck}{Q:bm->St->Prop}(e:dL N ah aa w β H b a w1 g H1)(o:Marks fr ah w b a w1 c d)(aK:db P m f)
 (h:pC P n N fr k cs b a w1 g H1 f d Q):pC P n N fr k cs ah aa w β H m c Q:=by
 obtain⟨e2,s2,j,i,q,t2,p,l,g1,g2,g3,g4,g5⟩:=h;exact⟨e2,s2,j,i,q,t2,p,l,g1,.of_steps aK g2,g3,e.trans g4,o.trans e g5 g4⟩
def codeOk(fit:Nat->Array Oper->Bool)(n:Nat):Code->Bool
 | .region _ ops draw=>ops.toList.all (iI n)&&(!draw||fit n ops)
 | .seq a b=>codeOk fit n a&&codeOk fit n b
 | .cond _ a b=>codeOk fit n a&&codeOk fit n b
 | .block _ b| .scope b| .loop b=>codeOk fit n b
 | .rangeFunc _ _ a b=>codeOk fit n a&&codeOk fit n b
 |_=>true
def rE(P:b4)(ag:cv->Bool)(fit:Nat->Array Oper->Bool):Prop:=
 ∀(n N:Nat)(a:Array Oper)(fr:cy)(k:List Item)(cs:List cy)(b:List ck)(c:Nat)(K:St->Prop)(s:St)(ah aa:Nat->Prop)(β:Bd)(t:Array b5)(w:cc),
  fit n a=true->(∀o∈a.toList,iI n o=true)->fT P ag a a.toList 0 [] K s->cw P n ah aa β s t w->
  jT P n N fr k cs a ah aa w β s.heap (lone (bu fr t b (.inRegion a (dx (P.follows .mixedOrders) a c)::k)) cs w) [] b K
theorem cw.draw{s:St}{ah aa:Nat->Prop}{β:Bd}{t:Array b5}{w w':cc}(a:w'.heap=w.heap)(h:cw P n ah aa β s t w):cw P n ah aa β s t w':=
 ⟨h.heap.wY a,fun x=>aw.mono (fun _ x=>x) (fun _ _=>by rw[a]) (cd.refl _ _) _ _ (h.gp x) (h.env x),h.gp,h.size⟩
section rf
variable{w w':cc}{aa ah:Nat->Prop}{β:Bd}{H:aj}
theorem bN.HQ(h:bN P w aa β H ah){x:Nat}(hx:x<w.heap.size)(v:∀(b:Nat)(o:Obj),H[b]?=some o->o.live->β.al b≠x):bN P w aa β H (fun k=>ah k\/k=x):=by
 refine⟨fun b o l=>?_,h.inj,h.refs,h.bL,fun k hk=>hk.elim (h.dY k) (fun e=>e▸hx),h.gV⟩;have held:∀fz,o.live->cm aa β ah fz b->cm aa β (fun k=>ah k\/k=x) fz b:=by
  intro fz j i;unfold cm at i⊢;cases fz with
  |true=>exact i
  |false=>exact⟨i.1,fun y=>y.elim i.2 (v b o l j)⟩
 have f:=h.cr b o l;cases o with
 |hole=>trivial
 |dead=>trivial
 |box fz t=>obtain⟨cs,T,a,c,d,g⟩:=f;exact⟨cs,T,a,c,held _ trivial d,g⟩
 |arr k ar ai es=>
  rcases f with f|⟨cs,T,m,rest,a,c,d,g,p,q,r,u⟩
  ·exact .inl f
  ·by_cases j:cR k es
   ·exact .inl j
   ·exact .inr ⟨cs,T,m,rest,a,c,d,g,p,q,held _ j r,u⟩
 |map fz es=>obtain⟨n,clock,a,c,d⟩:=f;exact⟨n,clock,a,c,held _ trivial d⟩
 |dc s pos=>obtain⟨bs,a,c,d⟩:=f;exact⟨bs,a,c,held _ trivial d⟩
 |loop L=>obtain⟨tmps,defers,fn,a,c,d,g⟩:=f;exact⟨tmps,defers,fn,a,c,d,held _ trivial g⟩
theorem bN.shut(h:bN P w aa β H ah){Prot0:Nat->Prop}(p:∀k,Prot0 k->ah k){R:Nat->Prop}(j:∀x,R x->ah x/\¬aa x)(q:w'.heap.size=w.heap.size)(hs:∀k,¬R k->w'.heap[k]?=w.heap[k]?):bN P w' aa β H Prot0:=by
 have same:∀k,aa k->w'.heap[k]?=w.heap[k]?:=fun k hk=>hs k (fun i=>(j k i).2 hk);refine⟨fun b o n=>?_,h.inj,h.refs,fun k hk=>q▸h.bL k hk,fun k hk=>q▸h.dY k (p k hk),h.gV.mono (fun _ x=>x) same⟩;have held:∀fz,cm aa β ah fz b->cm aa β Prot0 fz b:=by
  intro fz e;unfold cm at e⊢;cases fz with
  |true=>exact e
  |false=>exact⟨e.1,fun A=>e.2 (p _ A)⟩
 have al:∀fz,cm aa β ah fz b->w'.heap[β.al b]?=w.heap[β.al b]?:=by
  intro fz e;refine hs _ (fun i=>?_);unfold cm at e;cases fz with
  |true=>exact(j _ i).2 e
  |false=>exact e.2 (j _ i).1
 have f:=h.cr b o n;have l:=h.refs b o n;cases o with
 |hole=>trivial
 |dead=>trivial
 |box fz t=>obtain⟨cs,T,c,d,a,g⟩:=f;exact⟨cs,T,(al _ a).trans c,bh.mono (fun _ x=>x) same (cd.refl _ _) _ _ l d,held _ a,g⟩
 |arr k ar ai es=>
  rcases f with f|⟨cs,T,r,rest,c,d,a,g,v,y,m,z⟩
  ·exact .inl f
  ·exact .inr ⟨cs,T,r,rest,(al _ m).trans c,bG.mono (fun _ x=>x) same (cd.refl _ _) _ _ _ l d,a,g,v,y,held _ m,z⟩
 |map fz es=>obtain⟨u,clock,c,d,a⟩:=f;exact⟨u,clock,(al _ a).trans c,cq.mono (fun _ x=>x) same _ _ d,held _ a⟩
 |dc s pos=>obtain⟨bs,c,d,a⟩:=f;exact⟨bs,(al _ a).trans c,d,held _ a⟩
 |loop L=>obtain⟨tmps,defers,fn,c,d,a,g⟩:=f;exact⟨tmps,defers,fn,(al _ g).trans c,d,fun x=>aw.mono (fun _ x=>x) same (cd.refl _ _) _ _ (l x) (a x),held _ g⟩
theorem Ig(H:aj)(o:Obj):(H++ew 1 Obj.hole).set H.length o=H++[o]:=by
 rw[ge _ _ (g8 _)];simp
theorem I5(a:bN P w aa β H ah){L:dD}{tmps:Array b5}{defers fn:Nat}(h:tmps.size=L.n)(l:∀x,aw P w aa β H (aN L.env x) (tmps.getD x undef))(c:∀x,aD (aF H) (aN L.env x)):
 bP P ah aa w β H aa (w.alloc (.loop {state:=L.st,pending:=L.pending,fn,tmps,params:=L.params.toArray,assign:=L.assign,body:=L.body,defers})) (β.at H.length w.heap.size 0) (H++[.loop L]):=by
 have d:bP P ah aa w β H aa w β (H++ew 1 .hole):=⟨fun _ x=>x,fun _ x=>.inl x,Ext.refl _ _ _,pc _ _ _,a.oL _,mV _ _,fun b⟨L,e⟩=>⟨L,by rw[kA,if_pos (e7.1 e).1];exact e⟩⟩
 have f:(H++ew 1 Obj.hole)[H.length]?=some .hole:=by rw[kA];simp
 have aK:=(pc β H 1)
 have j:=xd (β:=β) f (.loop L) w.heap.size 0;have hrefs:∀x,aD (aF ((H++ew 1 Obj.hole).set H.length (.loop L))) (aN L.env x):=by
  intro x;rw[Ig];exact aD.mono (fun y m=>Hx m) _ (c x)
 have g:=rH (cap:=0) d.rel f (ob:=.loop {state:=L.st,pending:=L.pending,fn,tmps,params:=L.params.toArray,assign:=L.assign,body:=L.body,defers}) (o':=.loop L)
  ⟨tmps,defers,fn,by simp[Bd.at],h,fun x=>aw.mono (fun _ x=>x) (fun k hk=>tN w _ (a.bL k hk)) j _ _ (aD.mono (mV _ _) _ (c x)) (aw.mono (fun _ x=>x) (fun _ _=>rfl) aK _ _ (c x) (l x)),?_⟩ hrefs
 ·rw[Ig]at g;exact d.trans g
 ·unfold cm;simp only[b2,if_false,Bd.at,if_true];exact⟨fun hi=>by have:=a.bL _ hi;omega,fun i=>by have:=a.dY _ i;omega⟩
theorem Bz(g:bN P w aa β H ah){b:Nat}{L:dD}(a:H[b]?=some (.loop L))(st:LoopState)(d:Option Code):
 ∃rec:Loop,w.heap[β.al b]?=some (.loop rec)/\rec.state=L.st/\rec.pending=L.pending/\rec.params=L.params.toArray/\rec.assign=L.assign/\rec.body=L.body/\rec.tmps.size=L.n/\(∀x,aw P w aa β H (aN L.env x) (rec.tmps.getD x undef))/\
  bP P ah aa w β H aa (w.putObj (β.al b) (.loop {rec with state:=st,pending:=d})) β (H.set b (.loop {L with st:=st,pending:=d})):=by
 obtain⟨tmps,defers,fn,m,p,q,c⟩:=g.cr b _ a;refine⟨_,m,rfl,rfl,rfl,rfl,rfl,p,q,?_⟩;have u:=(bl.1 m).1;have r:=(e7.1 a).1;unfold cm at c;simp only[b2,if_false]at c;have aK:cd β H β (H.set b (.loop {L with st:=st,pending:=d})):=by
  have i:∀(x:Nat)(o:Obj),(H.set b (Obj.loop {L with st:=st,pending:=d}))[x]?=some o->(∀j,o≠Obj.loop j)->H[x]?=some o:=by
   intro x o l v
   by_cases hx:b=x
   ·subst hx;rw[e8 r]at l;cases l;exact(v _ rfl).elim
   ·rwa [e6 hx]at l
  refine⟨?_,?_,?_,?_,?_⟩
  ·rintro x _ ⟨f,t,h⟩;exact⟨⟨f,t,i _ _ h (by simp)⟩,rfl⟩
  ·rintro x _ ⟨f,t,h⟩;exact⟨⟨f,t,i _ _ h (by simp)⟩,rfl⟩
  ·rintro x _ ⟨f,t,h⟩;exact⟨⟨f,t,i _ _ h (by simp)⟩,rfl⟩
  ·intro x ar ai k s _ h;exact⟨k,s,i _ _ h (by simp),g8 _,eq,fun _=>⟨rfl,rfl⟩⟩
  ·rintro x _ ⟨j,h⟩;refine⟨?_,rfl⟩
   by_cases hx:b=x
   ·subst hx;exact⟨L,a⟩
   ·rw[e6 hx]at h;exact⟨j,h⟩
 have ak:∀x,aF H x->aF (H.set b (Obj.loop {L with st:=st,pending:=d})) x:=ly a (fun _ _=>trivial);have same:∀k,aa k->(w.putObj (β.al b) (.loop {state:=st,pending:=d,fn,tmps,params:=L.params.toArray,assign:=L.assign,body:=L.body,defers})).heap[k]?=w.heap[k]?:=fun k hk=>ei (fun e=>c.1 (e▸hk));refine bP.set g r (fun _ _=>⟨rfl,rfl⟩) (fun _ x=>x) (fun _ x=>.inl x) (fun k hk=>by simpa using g.bL k hk) (by simp)
  (fun k hk _=>ei (hk.resolve_right (fun h=>h trivial))) (fun _=>.inr ⟨rfl,⟨_,a,trivial⟩,.inr c.1,c.2⟩) aK
  ⟨tmps,defers,fn,World.putObj_heap_same u,p,fun x=>aw.mono (fun _ x=>x) same aK _ _ (g.refs b _ a x) (q x),?_⟩ (fun x=>aD.mono ak _ (g.refs b _ a x)) (fun _ _ _ _=>trivial) (fun _ _=>⟨_,rfl⟩)
 unfold cm;simpa using c
end rf
theorem SK{s:St}{ah aa:Nat->Prop}{β:Bd}{t:Array b5}{w:cc}(c:cw P n ah aa β s t w)(E:qf N fr β s.heap)(e:Array Tmp)(a b:Code)(m:List ck){f:Env}(g:∀x,aN f x=aN s.env x):
 ∃l mk w1 j i,(Instr.enterLoop fr.fn t e a b fr.roundOf).run P w=.ok (l,mk) w1/\bN P w1 aa i (s.heap++[.loop ⟨.ready,none,n,e.toList,a,b,f⟩]) j/\i.al s.heap.length=l/\
  dL N ah aa w β s.heap j aa w1 i (s.heap++[.loop ⟨.ready,none,n,e.toList,a,b,f⟩])/\Marks fr ah w j aa w1 m (mk++m)/\
  cd β s.heap i (s.heap++[.loop ⟨.ready,none,n,e.toList,a,b,f⟩]):=by
 cases u:fr.roundOf with
 |none=>
  have p:bP P ah aa w β s.heap aa (w.alloc (.deferred (some []))) β s.heap:=c.heap.later (fun _ x=>x) (fun _ x=>.inl x) (fun k hk=>by have:=c.heap.bL k hk;rw[ee];omega) (by rw[ee];omega) (fun k hk=>tN w _ hk);have C:=p.rel.HQ (x:=w.heap.size) (by rw[ee];omega) (fun b o G F g=>by have:=c.heap.ma G F;omega);have d:=I5 (L:=⟨.ready,none,n,e.toList,a,b,f⟩) (tmps:=t) (defers:=w.heap.size) (fn:=fr.fn) C c.size (fun x=>by rw[g];exact aw.mono (fun _ x=>x) (fun k hk=>tN w _ (c.heap.bL k hk)) (cd.refl _ _) _ _ (c.gp x) (c.env x)) (fun x=>by rw[g];exact c.gp x);have B:dL N ah aa w β s.heap (fun k=>ah k\/k=w.heap.size) aa (w.alloc (.deferred (some []))) β s.heap:=⟨fun _ h=>.inl h,fun _ h=>h,fun _ h=>.inl h,p.ext,(cd.refl _ _).n,fun _ _ h=>h,fun _ _ h=>h⟩
  refine⟨_,_,_,_,_,run_enterLoop_outer fr.fn t e a b,d.rel,?_,B.trans d.fa,?_,d.step⟩
  ·simp[Bd.at,ee]
  ·refine⟨[w.heap.size],rfl,by simp,?_,fun k hk=>hk.imp id (fun h=>by simp[h]),by simp[u]⟩;intro r q;simp only[List.mem_singleton]at q;subst q;refine⟨g8 _,.inr rfl,fun hi=>by have:=c.heap.bL _ hi;omega,?_⟩;exact(d.ext.same _ (.inl (.inr rfl))).trans (World.alloc_heap_new w _)
 |some H=>
  obtain⟨v,K,z,A⟩:=E H u;obtain⟨I,D⟩:=z;obtain⟨M,y,J,g1,_⟩:=c.heap.cr v _ D;rw[A]at g1;have d:=I5 (L:=⟨.ready,none,n,e.toList,a,b,f⟩) (tmps:=t) (defers:=y) (fn:=fr.fn) c.heap c.size (fun x=>by rw[g];exact c.env x) (fun x=>by rw[g];exact c.gp x);exact⟨_,_,_,_,_,run_enterLoop_inner g1 fr.fn t e a b,d.rel,by simp[Bd.at],d.fa,Marks.refl _ _ _ _ _ _,d.step⟩
theorem l6(K:kX P ag){fit:Nat->Array Oper->Bool}(J:rE P ag fit):∀(c:Code)(k:List Item){Q:bm->St->Prop}{s:St}{ah aa:Nat->Prop}{β:Bd}{t:Array b5}{w:cc}{ds:List ck},
 codeOk fit n c=true->bW P ag (n,N) c Q s->cw P n ah aa β s t w->qf N fr β s.heap->pC P n N fr k cs ah aa w β s.heap (lone (bu fr t ds (.code c::k)) cs w) ds Q
 | .skip,k,Q,s,ah,aa,β,t,w,ds,_,h,i,_=>.of h (.one aGn:mv P fr k cs _ t ds w .normal) i (dL.refl _ _ _ _ _ _)
 | .label l,k,Q,s,ah,aa,β,t,w,ds,_,h,i,_=>.of h (.one Uj:mv P fr k cs _ t ds w .normal) i (dL.refl _ _ _ _ _ _)
 | .exit id,k,Q,s,ah,aa,β,t,w,ds,_,h,i,_=>.of h (⟨k,rfl,eb _ _⟩:mv P fr k cs _ t ds w (.exit id)) i (dL.refl _ _ _ _ _ _)
 | .ret,k,Q,s,ah,aa,β,t,w,ds,_,h,i,_=>.of h (⟨k,eb _ _⟩:mv P fr k cs _ t ds w .ret) i (dL.refl _ _ _ _ _ _)
 | .region id ops draw,k,Q,s,ah,aa,β,t,w,ds,r,h,i,_=>by
  simp only[codeOk,b3,List.all_eq_true]at r;simp only[bW]at h;cases draw with
  |false=>
   simp only[b2,if_false]at h;obtain⟨s',aE,aG,ax,w',j,q,p,d⟩:=GW (fr:=fr) (k:=k) (cs:=cs) (ds:=ds) (N:=N) K r.1 ops.toList 0 (by simp) h i;refine .of (e:=.normal) j ?_ p d;have e:g7 ops.size=fl 0 ops.toList.length:=by rw[List.range_eq_range'];simp
   exact(dz Ti).trans ((by rw[e];exact q:db P _ _).trans (.one Fl))
  |true=>
   simp only[if_true]at h;have a0:cw P n ah aa β s t {w with drawn:=w.drawn+1}:=cw.draw (w:=w) (w':={w with drawn:=w.drawn+1}) rfl i;obtain⟨s',aE,aG,ax,w',j,q,p,d⟩:=J n N ops fr k cs ds (w.tape w.drawn (.order fr.fn id)) _ s ah aa β t _ (by simpa using r.2) r.1 h a0;exact .of (e:=.normal) j ((dz aGj).trans (q.trans (.one Fl)):mv P fr k cs _ ax ds w' .normal) p ⟨d.dY,d.bL,d.fresh,⟨d.ext.size,d.ext.same,d.ext.io⟩,d.step,d.eQ,d.loop⟩
 | .seq a b,k,Q,s,ah,aa,β,t,w,ds,r,h,i,C=>by
  simp only[codeOk,b3]at r;simp only[bW]at h;obtain⟨e,s1,o,B,z,t1,w1,D,j,q,p,d,A⟩:=l6 K J a (.code b::k) r.1 h i C;cases e with
  |normal=>exact .next d A ((dz Ci).trans q) (l6 K J b k r.2 j p (C.fa d))
  |exit id=>
   obtain⟨E,M,a2⟩:=q;exact⟨.exit id,s1,o,B,z,t1,w1,D,j,⟨E,M.trans (by simp[exitTo]),(dz Ci).trans a2⟩,p,d,A⟩
  |ret=>
   obtain⟨E,a2⟩:=q;exact⟨.ret,s1,o,B,z,t1,w1,D,j,⟨E,(dz Ci).trans a2⟩,p,d,A⟩
 | .cond c a b,k,Q,s,ah,aa,β,t,w,ds,r,h,i,C=>by
  simp only[codeOk,b3]at r;simp only[bW]at h
  split at h
  ·rename_i ay aI;have an:=(nh i c).1;rw[aI]at an;simp only[aw,aB]at an;have aK:=aGi (P:=P) (fr:=fr) (ds:=ds) (k:=k) (cs:=cs) (w:=w) (x:=a) (y:=b) an;cases ay with
   |true=>exact .next (dL.refl N ah aa w β s.heap) (Marks.refl _ _ _ _ _ _) (.one (by simpa using aK)) (l6 K J a k r.1 (by simpa using h) i C)
   |false=>exact .next (dL.refl N ah aa w β s.heap) (Marks.refl _ _ _ _ _ _) (.one (by simpa using aK)) (l6 K J b k r.2 (by simpa using h) i C)
  ·exact h.elim
 | .block id b,k,Q,s,ah,aa,β,t,w,ds,r,h,i,C=>by
  simp only[codeOk]at r;simp only[bW]at h;obtain⟨e,s1,o,B,z,t1,w1,D,j,q,p,d,A⟩:=l6 K J b (.inBlock id::k) r h i C;cases e with
  |normal=>exact⟨.normal,s1,o,B,z,t1,w1,D,j,(dz xl).trans (q.trans (.one SU)),p,d,A⟩
  |exit ac=>
   obtain⟨E,M,a2⟩:=q;dsimp only at j
   split at j
   ·rename_i hid;subst hid;refine⟨.normal,s1,o,B,z,t1,w1,D,j,(dz xl).trans (a2.trans (.one (aGk ?_))),p,d,A⟩;rw[M];simp[exitTo]
   ·rename_i hid;exact⟨.exit ac,s1,o,B,z,t1,w1,D,j,⟨E,M.trans (by simp[exitTo,hd hid]),(dz xl).trans a2⟩,p,d,A⟩
  |ret=>
   obtain⟨E,a2⟩:=q;exact⟨.ret,s1,o,B,z,t1,w1,D,j,⟨E,(dz xl).trans a2⟩,p,d,A⟩
 | .scope b,k,Q,s,ah,aa,β,t,w,ds,r,h,i,C=>by
  simp only[codeOk]at r;simp only[bW]at h;obtain⟨e,s1,o,B,z,t1,w1,D,j,q,p,d,A⟩:=l6 K J b (.inScope b::k) r h i C;cases e with
  |normal=>exact⟨.normal,s1,o,B,z,t1,w1,D,j,(dz Bi).trans (q.trans (.one SS)),p,d,A⟩
  |exit ac=>
   obtain⟨E,M,a2⟩:=q;exact⟨.exit ac,s1,o,B,z,t1,w1,D,j,⟨E,M.trans (by simp[exitTo]),(dz Bi).trans a2⟩,p,d,A⟩
  |ret=>
   obtain⟨E,a2⟩:=q;exact⟨.ret,s1,o,B,z,t1,w1,D,j,⟨E,(dz Bi).trans a2⟩,p,d,A⟩
 | .loop b,k,Q,s,ah,aa,β,t,w,ds,r,h,i,C=>by
  simp only[codeOk]at r;simp only[bW]at h;obtain⟨I,⟨m0,t0,hf,hI⟩,a3⟩:=h
  have loop:∀(m:Nat)(u:St)(ah aa:Nat->Prop)(β:Bd)(t:Array b5)(w:cc)(ds:List ck),I m u->cw P n ah aa β u t w->qf N fr β u.heap->
   pC P n N fr k cs ah aa w β u.heap (lone (bu fr t ds (.code b::.inLoop b::k)) cs w) ds Q:=by
   intro m
   induction m using Nat.strongRecOn with
   |_ m a6=>
    intro u ah aa β t w ds hI i C;obtain⟨e,s1,o,B,z,t1,w1,D,j,q,p,d,A⟩:=l6 K J b (.inLoop b::k) r (a3 m u hI) i C;cases e with
    |normal=>
     obtain⟨a7,u',aY,ap,az⟩:=j;have ab:=ap.fa (β:=z) (ah:=o) (aa:=B) (w:=w1);exact .next (d.trans ab) A (ea q (.one Tj)) (a6 a7 aY u' o B z t1 w1 D az (ap.rel p) ((C.fa d).fa ab))
    |exit ac=>
     obtain⟨E,M,a2⟩:=q;exact⟨.exit ac,s1,o,B,z,t1,w1,D,j,⟨E,M.trans (by simp[exitTo]),a2⟩,p,d,A⟩
    |ret=>
     obtain⟨E,a2⟩:=q;exact⟨.ret,s1,o,B,z,t1,w1,D,j,⟨E,a2⟩,p,d,A⟩
  have ab:=hf.fa (β:=β) (ah:=ah) (aa:=aa) (w:=w);exact .next ab (Marks.refl _ _ _ _ _ _) (.one aGl) (loop m0 t0 ah aa β t w ds hI (hf.rel i) (C.fa ab))
 | .rangeFunc f F a b,k,Q,s,ah,aa,β,t,w,ds,r,h,i,C=>by
  simp only[bW]at h;obtain⟨bc,O,aS,h⟩:=h;have X:=nh i f
  obtain⟨g,fi,ca,H,G,aV,aT,aM,ar,aq,Z,v,aW,ae⟩:∃g fi ca,∃H G:List b5,fx t f= .func (.func g) H.toArray G.toArray/\bD P w aa β s.heap fi H/\bD P w aa β s.heap ca G/\aU (aF s.heap) fi/\aU (aF s.heap) ca/\
   ∃Z v,de P g (s.heap++[.loop ⟨.ready,none,n,F.toList,a,b,O⟩]) (fi++[.map s.heap.length]++ca) Z v/\gS s.heap.length s.env Q Z:=by
   unfold iR at h
   split at h
   ·rename_i g fi ca hf;rw[hf]at X;simp only[aw,aB]at X;obtain⟨⟨H,G,j,q,p⟩,_⟩:=X;exact⟨g,_,_,H,G,p,jj.2 j,jj.2 q,iF _ _,iF _ _,h⟩
   ·rename_i g fi ca hf;rw[hf]at X;simp only[aw,aD]at X;obtain⟨⟨H,G,j,q,p⟩,d,A⟩:=X;exact⟨g,fi,ca,H,G,p,j,q,d,A,h⟩
   ·exact h.elim
  obtain⟨l,mk,w1,o,z,e1,e2,e3,e4,e5,af⟩:=SK (fr:=fr) i C F a b ds aS;obtain⟨aQ,aN⟩:=aW;have ak:∀x,aF s.heap x->aF (s.heap++[.loop ⟨.ready,none,n,F.toList,a,b,O⟩]) x:=fun x hx=>Hx hx;have am:∀k,aa k->w1.heap[k]?=w.heap[k]?:=fun k hk=>e4.ext.same k (.inr hk);have a4:aw P w1 aa z (s.heap++[.loop ⟨.ready,none,n,F.toList,a,b,O⟩]) (.map s.heap.length) (.func (.yield l) #[] #[]):=by
   simp only[aw,bJ,bM];refine⟨by simp[ec],fun V=>?_,fun _=>by rw[e3]⟩;obtain⟨fz,es,V⟩:=V;simp at V
  have a5:aD (aF (s.heap++[.loop ⟨.ready,none,n,F.toList,a,b,O⟩])) (.map s.heap.length):=by
   simp only[aD];exact⟨.loop ⟨.ready,none,n,F.toList,a,b,O⟩,by simp,trivial⟩
  have aH:=ph (ph (bD.mono (fun _ x=>x) am af _ _ ar aT) (b:=[.map s.heap.length]) (y:=[.func (.yield l) #[] #[]]) (by simp only[bD];exact⟨_,_,rfl,a4,rfl⟩)) (bD.mono (fun _ x=>x) am af _ _ aq aM);have aC:=jx (jx (aU.mono ak _ ar) (b:=[.map s.heap.length]) (by simp only[aU];exact⟨a5,trivial⟩)) (aU.mono ak _ aq);have aX:(invoke (.fn (.func g) G.toArray) (H.toArray++#[.func (.yield l) #[] #[]])).run P w1=.ok (.enter g (H++[(.func (.yield l) #[] #[]:b5)]++G).toArray) w1:=by
   have:=aQ (H++[(.func (.yield l) #[] #[]:b5)]++G).toArray w1;simp only[invoke];rw[<-this];congr 2;simp
  have a1:(resolve (Act.eval ⟨t,ds⟩) (rangeCall f l) 0).run P w1=.ok (⟨.fn (.func g) G.toArray,H.toArray++#[.func (.yield l) #[] #[]]⟩:ck) w1:=by
   have aj:(Act.eval ⟨t,ds⟩) f=fx t f:=by cases f<;>rfl
   have aO:(rangeCall f l).args.map (Act.eval ⟨t,ds⟩)=#[.func (.yield l) #[] #[]]:=by simp[Act.eval]
   simp only[resolve,aO];simp only[aj,aV,dp];rfl
  have aR:=stepR_rangeFunc (P:=P) (b:=fr) (a:=⟨t,ds⟩) (k:=k) (cs:=cs) (w:=w) (g:=f) (ps:=F) (assign:=a) (body:=b) e1 a1 aX;obtain⟨e,ad,bb,⟨ba,W,T,aj,g1,g2,g3⟩,aK,bd,aZ⟩:=aN w1 aa o z _ e2 aH aC (fr.atR ⟨t,mk++ds⟩ (.inRangeFunc l::k)::cs);subst aj;unfold gS at ae
  split at ae
  case h_2=>exact ae.elim
  rename_i L ao;obtain⟨aL,Y⟩:=ae;obtain⟨rec,au,a8,a9,be,bf,bg,bh,bi,av⟩:=Bz g1.rel ao .exhausted L.pending;have aA:aF (s.heap++[.loop ⟨.ready,none,n,F.toList,a,b,O⟩]) (s.heap.length,0):=⟨.loop ⟨.ready,none,n,F.toList,a,b,O⟩,by simp,trivial⟩
  have aJ:W.al s.heap.length=l:=((g1.step.loop _ aA ⟨_,ao⟩).2).trans e3;rw[aJ]at au av;have aP:=run_endLoop (P:=P) au (by rw[a8];exact aL);have R:db P (lone (bu fr t ds (.code (.rangeFunc f F a b)::k)) cs w) (lone (bu fr t (mk++ds) ((rec.pending.map Item.code).toList++k)) cs (ad.putObj l (.loop {rec with state:=.exhausted}))):=by
   refine(dz aR).trans (ea aK ?_);refine(dz (c6 aZ)).trans ?_;rw[finish_atR_inRangeFunc];exact .one (stepR_endRangeFunc aP)
  have R:db P (lone (bu fr t ds (.code (.rangeFunc f F a b)::k)) cs w) (lone (bu fr t (mk++ds) ((L.pending.map Item.code).toList++k)) cs (ad.putObj l (.loop {rec with state:=.exhausted,pending:=L.pending}))):=by
   rw[<-a9];exact R
  have U:bP P o aa w1 z (s.heap++[.loop ⟨.ready,none,n,F.toList,a,b,O⟩]) T _ W _:=g1.trans av;have al:cw P n o T W ⟨s.env,Z.set s.heap.length (.loop {L with st:=.exhausted})⟩ t (ad.putObj l (.loop {rec with state:=.exhausted,pending:=L.pending})):=by
   refine⟨U.rel,fun x=>?_,fun x=>?_,i.size⟩
   ·exact aw.mono U.bL (fun k hk=>U.ext.same k (.inr hk)) U.step _ _ (aD.mono ak _ (i.gp x)) (aw.mono (fun _ x=>x) am af _ _ (i.gp x) (i.env x))
   ·exact aD.mono U.eQ _ (aD.mono ak _ (i.gp x))
  have ai:dL N ah aa w β s.heap o T (ad.putObj l (.loop {rec with state:=.exhausted,pending:=L.pending})) W (Z.set s.heap.length (.loop {L with st:=.exhausted})):=e4.trans U.fa;have V:Marks fr ah w o T (ad.putObj l (.loop {rec with state:=.exhausted,pending:=L.pending})) ds (mk++ds):=e5.trans e4 (Marks.refl _ _ _ _ _ _) U.fa;unfold iW at Y
  split at Y
  ·rename_i S;rw[S]at R;exact⟨.normal,_,o,T,W,t,_,mk++ds,Y,by rw[S];exact R,al,ai,V⟩
  ·rename_i id S;rw[S]at R;exact⟨.exit id,_,o,T,W,t,_,mk++ds,Y,⟨k,rfl,by rw[S];exact R⟩,al,ai,V⟩
  ·rename_i S;rw[S]at R;exact⟨.ret,_,o,T,W,t,_,mk++ds,Y,⟨k,by rw[S];exact R⟩,al,ai,V⟩
  ·exact Y.elim
 | .goto _,_,_,_,_,_,_,_,_,_,_,h,_,_| .refuse _,_,_,_,_,_,_,_,_,_,_,h,_,_=>by simp[bW]at h
end
end Go.az
