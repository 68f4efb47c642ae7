import Derived.Calls
import Derived.Laws.Sem
import Derived.IntWalk
import Derived.Laws.Cells
import Derived.Laws.CopyRow
import Derived.Laws.Entries
import Derived.RangeFuncRecord
import Derived.RangeFuncNested
/- Parts of a proof. -/
set_option linter.unusedSimpArgs false
set_option linter.unusedVariables false
set_option linter.unusedSectionVars false
namespace Go.Abs
set_option linter.unusedSectionVars false
inductive PV where
 | undef
 | bool (b:Bool)
 | int (k:IntKind) (n:Int)
 | str (s:List Nat)
 | nptr
 | fptr (t:PV)
 | nsl
 | lst (full:Bool) (es:List PV)
 | seq (es:List PV)
 | nmap
 | fmap (es:List (PV×PV))
 | func (f:FuncId) (first caps:List PV)
 | nfunc
 | nif
 | st (u:TypeId) (fs:List PV)
 | tup (vs:List PV)
 deriving Inhabited
inductive AV where
 | p (v:PV)
 | ptr (b:Nat) (path:List (TypeId×Nat))
 | eptr (b ver esz i:Nat) (path:List (TypeId×Nat))
 | sl (b ver esz off len:Nat)
 | map (b:Nat)
 | func (f:FuncId) (first caps:List AV)
 | st (u:TypeId) (fs:List AV)
 | tup (vs:List AV)
 deriving Inhabited
inductive AK where | exact | grow | frozen | bytes
 deriving DecidableEq
def AK.gr:AK→Bool
 | .grow | .bytes=>true
 | _=>false
structure acs where
 st:LoopState
 pending:Option Code
 n:Nat
 params:List Tmp
 assign:Code
 body:Code
 env:List (Nat×AV)
inductive Obj where
 | hole
 | dead
 | box (fz:Bool) (t:AV)
 | arr (k:AK) (ver esz:Nat) (es:List AV)
 | map (fz:Bool) (es:List (PV×PV))
 | siter (s:List Nat) (pos:Nat)
 | loop (L:acs)
 deriving Inhabited
abbrev Heap:=List Obj
abbrev Env:=List (Nat×AV)
structure St where
 env:Env
 heap:Heap
def getE (e:Env) (t:Nat):AV :=
 match e with
 | []=>.p .undef
 | (k,v)::r=>if t=k then v else getE r t
inductive Shp where | bad | leaf | agg (u:TypeId)
 deriving DecidableEq
def shp:PV→Shp
 | .undef | .tup _=>.bad
 | .st u _=>.agg u
 | _=>.leaf
def shpA:AV→Shp
 | .p v=>shp v
 | .tup _=>.bad
 | .st u _=>.agg u
 | _=>.leaf
def flds:PV→List PV
 | .st _ fs=>fs
 | _=>[]
section tables
variable (P:Program)
def szs (u:TypeId):Option (List Nat) :=
 match (P.info? u).map (fun i:TypeInfo=>i.desc) with
 | some (.struct fs) =>
  let l:=fs.toList.map fun f=>P.cellsOf f.type
  if l.all (0 < ·) && l.sum == P.cellsOf u && (fs.toList.zipIdx.all fun (f,i)=>f.offset == (l.take i).sum) then some l else none
 | some (.array n e)=>if 0<P.cellsOf e && n*P.cellsOf e == P.cellsOf u then some (List.replicate n (P.cellsOf e)) else none
 | _=>none
def kindOf (T:TypeId):Shp :=
 match P.underlying T with
 | some (.struct _) | some (.array _ _) =>
  if (szs P (P.underlyingId T)).isSome && P.cellsOf T == P.cellsOf (P.underlyingId T) then .agg (P.underlyingId T) else .bad
 | some _=>if P.cellsOf T == 1 then .leaf else .bad
 | none=>.bad
def aah:Shp→Nat
 | .bad=>0
 | .leaf=>1
 | .agg u=>P.cellsOf u
def aaX (u:TypeId):List TypeId :=
 match (P.info? u).map (fun i:TypeInfo=>i.desc) with
 | some (.struct fs)=>fs.toList.map (·.type)
 | some (.array n e)=>List.replicate n e
 | _=>[]
end tables
def ofConst:Value→PV
 | .bool b=>.bool b
 | .int k n=>.int k n
 | .string s=>.str (s.data.toList.map (·.toNat))
 | .pointer none=>.nptr
 | .slice none 0 0=>.nsl
 | .map none=>.nmap
 | .nilFunc=>.nfunc
 | .nilIface=>.nif
 | _=>.undef
def aee (P:Program) (rec1:TypeId→List Value→Option PV):List TypeId→List Nat→List Value→Option (List PV)
 | [],[],[]=>some []
 | T::Ts,s::ss,cs =>
  if (cs.take s).length=s then
   match rec1 T (cs.take s),aee P rec1 Ts ss (cs.drop s) with
   | some v,some vs=>if aah P (shp v)=s then some (v::vs) else none
   | _,_=>none
  else none
 | _,_,_=>none
def ajh (P:Program):Nat→TypeId→List Value→Option PV
 | 0,_,_=>none
 | n+1,T,cs =>
  match kindOf P T with
  | .leaf=>match cs with
   | [c]=>match ofConst c with
    | .undef=>none
    | v=>some v
   | _=>none
  | .agg u=>match szs P u with
   | some l =>
    match aee P (ajh P n) (aaX P u) l cs with
    | some fs=>some (.st u fs)
    | none=>none
   | none=>none
  | .bad=>none
def awM:Value→Shp→Bool
 | .agg _,.agg _=>true
 | .agg _,_=>false
 | _,.agg _=>false
 | _,_=>true
def aaT (P:Program) (T:TypeId):Option PV :=
 match (P.info? T).bind (·.zero) with
 | some z=>if awM z (kindOf P T) then ajh P 40 T z.cells.toList else none
 | none=>none
section relation
variable (P:Program) (w:World) (Imm:Nat→Prop)
def aa5 (blk off:Nat) (cs:List Value):Prop:=∀ i (h:i<cs.length),w.cell? ⟨blk,off+i,none⟩=some cs[i]
mutual
def PVC:PV→List Value→Prop
 | .undef,_ | .tup _,_=>False
 | .bool b,cs=>cs=[.bool b]
 | .int k n,cs=>cs=[.int k n]
 | .str s,cs=>∃ bs:ByteArray,cs=[.string bs]∧s=bs.data.toList.map (·.toNat)
 | .nptr,cs=>cs=[.pointer none]
 | .fptr t,cs=>∃ blk off ts,PVC t ts∧Imm blk∧aa5 w blk off ts∧cs=[.pointer (some ⟨blk,off,none⟩)]
 | .nsl,cs=>cs=[.slice none 0 0]
 | .lst full es, cs => ∃ blk off cap esz css, PVCl (List.replicate es.length esz) es css ∧ (es ≠ [] → Imm blk) ∧ aa5 w blk off css.flatten ∧
     (full=true→cap=es.length)∧es.length≤cap∧∃ sp,(sp=none∨cap=0)∧cs=[.slice (some ⟨blk,off,sp⟩) es.length cap]
 | .seq es, cs => (es = [] ∧ cs = [.slice none 0 0]) ∨ ∃ blk off cap esz css, PVCl (List.replicate es.length esz) es css ∧ (es ≠ [] → Imm blk) ∧ aa5 w blk off css.flatten ∧
     es.length≤cap∧∃ sp,(sp=none∨cap=0)∧cs=[.slice (some ⟨blk,off,sp⟩) es.length cap]
 | .nmap,cs=>cs=[.map none]
 | .fmap es,cs=>∃ r ents clock,Imm r∧w.heap[r]?=some (.map ents clock)∧PVM es ents.toList∧cs=[.map (some r)]
 | .func f first caps,cs=>∃ fv cv,PVVl first fv∧PVVl caps cv∧cs=[.func (.func f) fv.toArray cv.toArray]
 | .nfunc,cs=>cs=[.nilFunc]
 | .nif,cs=>cs=[.nilIface]
 | .st u fs,cs=>∃ l css,szs P u=some l∧PVCl l fs css∧cs=css.flatten
def PVCl:List Nat→List PV→List (List Value)→Prop
 | [],[],css=>css=[]
 | n::ns,v::vs,css=>∃ c cs,css=c::cs∧PVC v c∧c.length=n∧PVCl ns vs cs
 | _,_,_=>False
def PVV:PV→Value→Prop
 | .undef,_=>True
 | .tup vs,v=>∃ xs,PVVl vs xs∧v=.tuple xs.toArray
 | .st u fs,v=>∃ l css,szs P u=some l∧PVCl l fs css∧v=.agg css.flatten.toArray
 | .bool b,v=>v=.bool b
 | .int k n,v=>v=.int k n
 | .str s,v=>∃ bs:ByteArray,v=.string bs∧s=bs.data.toList.map (·.toNat)
 | .nptr,v=>v=.pointer none
 | .fptr t,v=>∃ blk off ts,PVC t ts∧Imm blk∧aa5 w blk off ts∧v=.pointer (some ⟨blk,off,none⟩)
 | .nsl,v=>v=.slice none 0 0
 | .lst full es, v => ∃ blk off cap esz css, PVCl (List.replicate es.length esz) es css ∧ (es ≠ [] → Imm blk) ∧ aa5 w blk off css.flatten ∧
     (full=true→cap=es.length)∧es.length≤cap∧∃ sp,(sp=none∨cap=0)∧v=.slice (some ⟨blk,off,sp⟩) es.length cap
 | .seq es, v => (es = [] ∧ v = .slice none 0 0) ∨ ∃ blk off cap esz css, PVCl (List.replicate es.length esz) es css ∧ (es ≠ [] → Imm blk) ∧ aa5 w blk off css.flatten ∧
     es.length≤cap∧∃ sp,(sp=none∨cap=0)∧v=.slice (some ⟨blk,off,sp⟩) es.length cap
 | .nmap,v=>v=.map none
 | .fmap es,v=>∃ r ents clock,Imm r∧w.heap[r]?=some (.map ents clock)∧PVM es ents.toList∧v=.map (some r)
 | .func f first caps,v=>∃ fv cv,PVVl first fv∧PVVl caps cv∧v=.func (.func f) fv.toArray cv.toArray
 | .nfunc,v=>v=.nilFunc
 | .nif,v=>v=.nilIface
def PVVl:List PV→List Value→Prop
 | [],xs=>xs=[]
 | v::vs,xs=>∃ y ys,xs=y::ys∧PVV v y∧PVVl vs ys
def PVM:List (PV×PV)→List MapEntry→Prop
 | [],es=>es=[]
 | (k,v)::r,es=>∃ e rest,es=e::rest∧PVV k e.key∧PVV v e.val∧PVM r rest
end
end relation
class Gl where
 g:Nat→PV
 u8:TypeId
 raw:Nat→Option (Array Value)
 bx:TypeId→Option TypeId
def bxB [Gl] (T:TypeId) (s:Shp):Bool:=match s with
 | .agg u=>match Gl.bx u with
  | some T'=>Nat.beq T T'
  | none=>true
 | _=>true
structure aeX [Gl] (P:Program) (w:World) (Imm:Nat→Prop):Prop where
 val:∀ g,PVV P w Imm (Gl.g g) (.pointer (some ⟨g,0,none⟩))
 raw:∀ g cs,Gl.raw g=some cs→Imm g∧∃ T,w.heap[g]?=some (.cells cs T (0,0))
end Go.Abs
namespace Go.Abs
variable [Gl]
structure Bd where
 blk:Nat→Nat
 cap:Nat→Nat
def aaW (P:Program):List (TypeId×Nat)→Option Nat
 | []=>some 0
 | (u,i)::r =>
  match szs P u,aaW P r with
  | some l,some o=>if i<l.length then some ((l.take i).sum+o) else none
  | _,_=>none
section
variable (P:Program) (w:World) (Imm:Nat→Prop) (β:Bd) (H:Heap)
def adi (b:Nat):Prop:=∃ fz t,H[b]?=some (.box fz t)
def aaI (b ver esz:Nat) (k:AK) (es:List AV):Prop:=H[b]?=some (.arr k ver esz es)
def aam (k:AK) (es:List AV):Prop:=k.gr=true∧es=[]
def adh (b:Nat):Prop:=(∃ fz es,H[b]?=some (.map fz es))
def aeW (b:Nat):Prop:=(∃ s pos,H[b]?=some (.siter s pos))
def aaN (b:Nat):Prop:=(∃ L,H[b]?=some (.loop L))
def RefC:AV→Value→Prop
 | .ptr b path,v=>∃ blk off o,v=.pointer (some ⟨blk,off,none⟩)∧aaW P path=some o∧(adi H b∨aeW H b→blk = β.blk b∧off=o)
 | .eptr b ver esz i path,v=>∃ blk off o,v=.pointer (some ⟨blk,off,none⟩)∧aaW P path=some o∧∀ k es,aaI H b ver esz k es→¬ aam k es→blk = β.blk b∧off=i*esz+o
 | .sl b ver esz off len, v => ∀ k es, aaI H b ver esz k es →
     off+len≤es.length∧(aam k es→v=.slice none 0 0)∧(¬ aam k es→v=.slice (some ⟨β.blk b,off*esz,none⟩) len (β.cap b - off))
 | .map b,v=>(adh H b→v=.map (some (β.blk b)))∧(aaN H b→v=.func (.yield (β.blk b)) #[] #[])
 | _,_=>False
def RefV (v:AV) (x:Value):Prop:=x.oneCell'=true∧RefC P β H v x
mutual
def AVC:AV→List Value→Prop
 | .p t,cs=>PVC P w Imm t cs
 | .st u fs,cs=>∃ l css,szs P u=some l∧AVCl l fs css∧cs=css.flatten
 | .func f first caps,cs=>∃ fv cv,AVVl first fv∧AVVl caps cv∧cs=[.func (.func f) fv.toArray cv.toArray]
 | .tup _,_=>False
 | .ptr b path,cs=>∃ v,cs=[v]∧RefV P β H (.ptr b path) v
 | .eptr b ver esz i path,cs=>∃ v,cs=[v]∧RefV P β H (.eptr b ver esz i path) v
 | .sl b ver esz off len,cs=>∃ v,cs=[v]∧RefV P β H (.sl b ver esz off len) v
 | .map b,cs=>∃ v,cs=[v]∧RefV P β H (.map b) v
def AVCl:List Nat→List AV→List (List Value)→Prop
 | [],[],css=>css=[]
 | n::ns,v::vs,css=>∃ c cs,css=c::cs∧AVC v c∧c.length=n∧AVCl ns vs cs
 | _,_,_=>False
def AVV:AV→Value→Prop
 | .p t,v=>PVV P w Imm t v
 | .st u fs,v=>∃ l css,szs P u=some l∧AVCl l fs css∧v=.agg css.flatten.toArray
 | .func f first caps,v=>∃ fv cv,AVVl first fv∧AVVl caps cv∧v=.func (.func f) fv.toArray cv.toArray
 | .tup vs,v=>∃ xs,AVVl vs xs∧v=.tuple xs.toArray
 | .ptr b path,v=>RefV P β H (.ptr b path) v
 | .eptr b ver esz i path,v=>RefV P β H (.eptr b ver esz i path) v
 | .sl b ver esz off len,v=>RefV P β H (.sl b ver esz off len) v
 | .map b,v=>RefV P β H (.map b) v
def AVVl:List AV→List Value→Prop
 | [],xs=>xs=[]
 | v::vs,xs=>∃ y ys,xs=y::ys∧AVV v y∧AVVl vs ys
end
mutual
def aaa (n:Nat×Nat→Prop):AV→Prop
 | .p _=>True
 | .ptr b _ | .map b=>n (b,0)
 | .eptr b ver _ _ _ | .sl b ver _ _ _=>n (b,ver)
 | .func _ first caps=>aac n first∧aac n caps
 | .st _ fs=>aac n fs
 | .tup vs=>aac n vs
def aac (n:Nat×Nat→Prop):List AV→Prop
 | []=>True
 | v::vs=>aaa n v∧aac n vs
end
def Obj.has:Obj→Nat→Prop
 | .hole,_=>False
 | .arr _ ver _ _,v=>v≤ver
 | _,_=>True
def InH (H:Heap) (x:Nat×Nat):Prop:=∃ o,H[x.1]?=some o∧o.has x.2
def AV.isP:AV→Prop
 | .p _=>True
 | _=>False
def Obj.refs (n:Nat×Nat→Prop):Obj→Prop
 | .box _ t=>aaa n t
 | .arr _ _ _ es=>aac n es
 | .loop L=>∀ x,aaa n (getE L.env x)
 | _=>True
def Obj.live:Obj→Prop
 | .hole | .dead=>False
 | .arr k _ _ es=>¬ aam k es
 | _=>True
variable (Prot:Nat→Prop)
def Held (fz:Bool) (b:Nat):Prop:=if fz then Imm (β.blk b) else ¬ Imm (β.blk b)∧¬ Prot (β.blk b)
def ORel (b:Nat):Obj→Prop
 | .hole | .dead=>True
 | .box fz t=>∃ cs T,w.heap[β.blk b]?=some (.cells cs T (0,0))∧AVC P w Imm β H t cs.toList∧Held Imm β Prot fz b∧(fz=true→t.isP)∧bxB T (shpA t)=true
 | .arr k _ver esz es => aam k es ∨
     ∃ cs T css rest,w.heap[β.blk b]?=some (.cells cs T (0,0))∧AVCl P w Imm β H (List.replicate es.length esz) es css∧cs.toList=css.flatten ++ rest ∧
      cs.size = β.cap b*esz∧es.length≤β.cap b∧(k=.exact→β.cap b=es.length)∧Held Imm β Prot (k == .frozen) b∧(k=.frozen→∀ e∈es,e.isP)∧(k=.bytes→T=Gl.u8)
 | .map fz es=>∃ ents clock,w.heap[β.blk b]?=some (.map ents clock)∧PVM P w Imm es ents.toList∧Held Imm β Prot fz b
 | .siter s pos=>∃ bs:ByteArray,w.heap[β.blk b]?=some (.stringIter bs pos)∧s=bs.data.toList.map (·.toNat)∧Held Imm β Prot false b
 | .loop L => ∃ tmps defers fn, w.heap[β.blk b]? = some (.loop { state := L.st, pending := L.pending, fn, tmps, params := L.params.toArray, assign := L.assign, body := L.body, defers }) ∧ tmps.size = L.n ∧
     (∀ x,AVV P w Imm β H (getE L.env x) (tmps.getD x undef))∧Held Imm β Prot false b
structure HRel:Prop where
 objs:∀ b o,H[b]?=some o→ORel P w Imm β H Prot b o
 inj:∀ b b' o o',H[b]?=some o→H[b']?=some o'→o.live→o'.live→¬ Imm (β.blk b)→β.blk b = β.blk b'→b=b'
 refs:∀ (b:Nat) (o:Obj),H[b]?=some o→o.refs (InH H)
 imm:∀ k,Imm k→k<w.heap.size
 prot:∀ k,Prot k→k<w.heap.size
 glob:aeX P w Imm
end
structure Ext (Prot Imm:Nat→Prop) (w w':World):Prop where
 size:w.heap.size≤w'.heap.size
 same:∀ k,Prot k∨Imm k→w'.heap[k]?=w.heap[k]?
 io:w'.os=w.os∧w'.output=w.output
structure aaG (β:Bd) (H:Heap) (β':Bd) (H':Heap):Prop where
 box:∀ b,InH H (b,0)→adi H' b→adi H b∧β'.blk b = β.blk b
 it:∀ b,InH H (b,0)→aeW H' b→aeW H b∧β'.blk b = β.blk b
 map:∀ b,InH H (b,0)→adh H' b→adh H b∧β'.blk b = β.blk b
 arr:∀ b ver esz k es,InH H (b,ver)→aaI H' b ver esz k es→∃ k0 es0,aaI H b ver esz k0 es0∧es0.length≤es.length∧(aam k es↔aam k0 es0)∧(¬ aam k es→β'.blk b = β.blk b∧β'.cap b = β.cap b)
 loop:∀ b,InH H (b,0)→aaN H' b→aaN H b∧β'.blk b = β.blk b
theorem aaG.refl (β:Bd) (H:Heap):aaG β H β H :=
 ⟨fun _ _ h=>⟨h,rfl⟩,fun _ _ h=>⟨h,rfl⟩,fun _ _ h=>⟨h,rfl⟩,fun _ _ _ k es _ h=>⟨k,es,h,Nat.le_refl _,Iff.rfl,fun _=>⟨rfl,rfl⟩⟩,fun _ _ h=>⟨h,rfl⟩⟩
theorem Ext.refl (Prot Imm:Nat→Prop) (w:World):Ext Prot Imm w w:=⟨Nat.le_refl _,fun _ _=>rfl,rfl,rfl⟩
section mono
variable {P:Program} {w w':World} {Imm Imm':Nat→Prop}
theorem aub {blk off:Nat} (h:w'.heap[blk]?=w.heap[blk]?):w'.cell? ⟨blk,off,none⟩=w.cell? ⟨blk,off,none⟩:=by
 simp [World.cell?,h]
theorem aa5.same {blk off:Nat} {cs:List Value} (h:w'.heap[blk]?=w.heap[blk]?) (hc:aa5 w blk off cs):aa5 w' blk off cs :=
 fun i hi=>(aub h).trans (hc i hi)
theorem abn {n:List Nat} {css:List (List Value)} (h:PVCl P w Imm n [] css):css=[]:=by
 cases n <;> simp [PVCl] at h; exact h
variable (hI:∀ k,Imm k→Imm' k) (hs:∀ k,Imm k→w'.heap[k]?=w.heap[k]?)
include hI hs
mutual
theorem PVC.mono:∀ (v:PV) (cs:List Value),PVC P w Imm v cs→PVC P w' Imm' v cs
 | .undef,_,h | .tup _,_,h=>by simp [PVC] at h
 | .bool _,_,h | .int _ _,_,h | .str _,_,h | .nptr,_,h | .nsl,_,h | .nmap,_,h | .nfunc,_,h | .nif,_,h=>by simpa [PVC] using h
 | .fptr t,cs,h=>by
  simp only [PVC] at h ⊢;obtain ⟨blk,off,ts,h1,h2,h3,h4⟩:=h;exact ⟨blk,off,ts,PVC.mono t ts h1,hI _ h2,h3.same (hs _ h2),h4⟩
 | .lst full es,cs,h=>by
  simp only [PVC] at h ⊢;obtain ⟨blk,off,cap,esz,css,h1,h2,h3,h4⟩:=h;refine ⟨blk,off,cap,esz,css,PVCl.mono _ es css h1,fun hne=>hI _ (h2 hne),?_,h4⟩
  by_cases hne:es=[]
  · subst hne; have:=abn h1; subst this; intro i hi; simp at hi
  · exact h3.same (hs _ (h2 hne))
 | .seq es,cs,h=>by
  simp only [PVC] at h ⊢;rcases h with h | ⟨blk,off,cap,esz,css,h1,h2,h3,h4⟩
  · exact .inl h
  refine .inr ⟨blk,off,cap,esz,css,PVCl.mono _ es css h1,fun hne=>hI _ (h2 hne),?_,h4⟩
  by_cases hne:es=[]
  · subst hne; have:=abn h1; subst this; intro i hi; simp at hi
  · exact h3.same (hs _ (h2 hne))
 | .fmap es,cs,h=>by
  simp only [PVC] at h ⊢;obtain ⟨r,ents,clock,h1,h2,h3,h4⟩:=h;exact ⟨r,ents,clock,hI _ h1,(hs _ h1).trans h2,PVM.mono es _ h3,h4⟩
 | .func f first caps,cs,h=>by
  simp only [PVC] at h ⊢;obtain ⟨fv,cv,h1,h2,h3⟩:=h;exact ⟨fv,cv,PVVl.mono first fv h1,PVVl.mono caps cv h2,h3⟩
 | .st u fs,cs,h=>by
  simp only [PVC] at h ⊢;obtain ⟨l,css,h1,h2,h3⟩:=h;exact ⟨l,css,h1,PVCl.mono l fs css h2,h3⟩
theorem PVCl.mono:∀ (l:List Nat) (vs:List PV) (css:List (List Value)),PVCl P w Imm l vs css→PVCl P w' Imm' l vs css
 | [],[],_,h=>by simpa [PVCl] using h
 | [],_::_,_,h=>by simp [PVCl] at h
 | _::_,[],_,h=>by simp [PVCl] at h
 | n::ns,v::vs,css,h=>by
  simp only [PVCl] at h ⊢;obtain ⟨c,cs,h1,h2,h3,h4⟩:=h;exact ⟨c,cs,h1,PVC.mono v c h2,h3,PVCl.mono ns vs cs h4⟩
theorem PVV.mono:∀ (v:PV) (x:Value),PVV P w Imm v x→PVV P w' Imm' v x
 | .undef,_,h=>by simp [PVV]
 | .tup vs,x,h=>by
  simp only [PVV] at h ⊢;obtain ⟨xs,h1,h2⟩:=h;exact ⟨xs,PVVl.mono vs xs h1,h2⟩
 | .bool _,_,h | .int _ _,_,h | .str _,_,h | .nptr,_,h | .nsl,_,h | .nmap,_,h | .nfunc,_,h | .nif,_,h=>by simpa [PVV] using h
 | .fptr t,cs,h=>by
  simp only [PVV] at h ⊢;obtain ⟨blk,off,ts,h1,h2,h3,h4⟩:=h;exact ⟨blk,off,ts,PVC.mono t ts h1,hI _ h2,h3.same (hs _ h2),h4⟩
 | .lst full es,cs,h=>by
  simp only [PVV] at h ⊢;obtain ⟨blk,off,cap,esz,css,h1,h2,h3,h4⟩:=h;refine ⟨blk,off,cap,esz,css,PVCl.mono _ es css h1,fun hne=>hI _ (h2 hne),?_,h4⟩
  by_cases hne:es=[]
  · subst hne; have:=abn h1; subst this; intro i hi; simp at hi
  · exact h3.same (hs _ (h2 hne))
 | .seq es,cs,h=>by
  simp only [PVV] at h ⊢;rcases h with h | ⟨blk,off,cap,esz,css,h1,h2,h3,h4⟩
  · exact .inl h
  refine .inr ⟨blk,off,cap,esz,css,PVCl.mono _ es css h1,fun hne=>hI _ (h2 hne),?_,h4⟩
  by_cases hne:es=[]
  · subst hne; have:=abn h1; subst this; intro i hi; simp at hi
  · exact h3.same (hs _ (h2 hne))
 | .fmap es,cs,h=>by
  simp only [PVV] at h ⊢;obtain ⟨r,ents,clock,h1,h2,h3,h4⟩:=h;exact ⟨r,ents,clock,hI _ h1,(hs _ h1).trans h2,PVM.mono es _ h3,h4⟩
 | .func f first caps,cs,h=>by
  simp only [PVV] at h ⊢;obtain ⟨fv,cv,h1,h2,h3⟩:=h;exact ⟨fv,cv,PVVl.mono first fv h1,PVVl.mono caps cv h2,h3⟩
 | .st u fs,cs,h=>by
  simp only [PVV] at h ⊢;obtain ⟨l,css,h1,h2,h3⟩:=h;exact ⟨l,css,h1,PVCl.mono l fs css h2,h3⟩
theorem PVVl.mono:∀ (vs:List PV) (xs:List Value),PVVl P w Imm vs xs→PVVl P w' Imm' vs xs
 | [],_,h=>by simpa [PVVl] using h
 | v::vs,xs,h=>by
  simp only [PVVl] at h ⊢;obtain ⟨y,ys,h1,h2,h3⟩:=h;exact ⟨y,ys,h1,PVV.mono v y h2,PVVl.mono vs ys h3⟩
theorem PVM.mono:∀ (es:List (PV×PV)) (ents:List MapEntry),PVM P w Imm es ents→PVM P w' Imm' es ents
 | [],_,h=>by simpa [PVM] using h
 | (k,v)::r,ents,h=>by
  simp only [PVM] at h ⊢;obtain ⟨e,rest,h1,h2,h3,h4⟩:=h;exact ⟨e,rest,h1,PVV.mono k _ h2,PVV.mono v _ h3,PVM.mono r rest h4⟩
end
theorem aeX.mono (h:aeX P w Imm):aeX P w' Imm':=⟨fun g=>PVV.mono hI hs _ _ (h.val g),fun g cs hg=>by
 obtain ⟨h1,T,h2⟩:=h.raw g cs hg;exact ⟨hI _ h1,T,(hs _ h1).trans h2⟩⟩
variable {β β':Bd} {H H':Heap} (hst:aaG β H β' H')
include hst
omit hI hs in
theorem RefC.mono:∀ (v:AV) (x:Value),aaa (InH H) v→RefC P β H v x→RefC P β' H' v x
 | .ptr b path,x,hr,h=>by
  simp only [RefC,aaa] at *;obtain ⟨blk,off,o,h1,h2,h3⟩:=h;refine ⟨blk,off,o,h1,h2,fun hl=>?_⟩;rcases hl with hl | hl
  · obtain ⟨k1,k2⟩:=hst.box b hr hl; rw [k2]; exact h3 (.inl k1)
  · obtain ⟨k1,k2⟩:=hst.it b hr hl; rw [k2]; exact h3 (.inr k1)
 | .eptr b ver esz i path,x,hr,h=>by
  simp only [RefC,aaa] at *;obtain ⟨blk,off,o,g1,g2,g3⟩:=h;refine ⟨blk,off,o,g1,g2,fun k es hl hn=>?_⟩;obtain ⟨k0,es0,h1,h2,h3,h4⟩:=hst.arr b ver esz k es hr hl;rw [(h4 hn).1]; exact g3 k0 es0 h1 (fun hh=>hn (h3.2 hh))
 | .sl b ver esz off len,x,hr,h=>by
  simp only [RefC,aaa] at *;intro k es hl;obtain ⟨k0,es0,h1,h2,h3,h4⟩:=hst.arr b ver esz k es hr hl;obtain ⟨h5,h6,h7⟩:=h k0 es0 h1;refine ⟨by omega,fun hn=>h6 (h3.1 hn),fun hn=>?_⟩;rw [(h4 hn).1,(h4 hn).2]; exact h7 (fun hh=>hn (h3.2 hh))
 | .map b,x,hr,h=>by
  simp only [RefC,aaa] at *;refine ⟨fun hl=>?_,fun hl=>?_⟩
  · obtain ⟨h1,h2⟩:=hst.map b hr hl; rw [h2]; exact h.1 h1
  · obtain ⟨h1,h2⟩:=hst.loop b hr hl; rw [h2]; exact h.2 h1
 | .p _,_,_,h | .st _ _,_,_,h | .func _ _ _,_,_,h | .tup _,_,_,h=>by simp [RefC] at h
omit hI hs in
theorem RefV.mono (v:AV) (x:Value) (hr:aaa (InH H) v) (h:RefV P β H v x):RefV P β' H' v x:=⟨h.1,RefC.mono hst v x hr h.2⟩
mutual
theorem AVC.mono:∀ (v:AV) (cs:List Value),aaa (InH H) v→AVC P w Imm β H v cs→AVC P w' Imm' β' H' v cs
 | .p t,cs,_,h=>by simp only [AVC] at h ⊢; exact PVC.mono hI hs t cs h
 | .st u fs,cs,hr,h=>by
  simp only [AVC,aaa] at *;obtain ⟨l,css,h1,h2,h3⟩:=h;exact ⟨l,css,h1,AVCl.mono l fs css hr h2,h3⟩
 | .func f first caps,cs,hr,h=>by
  simp only [AVC,aaa] at *;obtain ⟨fv,cv,h1,h2,h3⟩:=h;exact ⟨fv,cv,AVVl.mono first fv hr.1 h1,AVVl.mono caps cv hr.2 h2,h3⟩
 | .tup _,_,_,h=>by simp [AVC] at h
 | .ptr b path,cs,hr,h=>by
  simp only [AVC] at *;obtain ⟨v,h1,h2⟩:=h;exact ⟨v,h1,RefV.mono hst _ _ hr h2⟩
 | .eptr b ver esz i path,cs,hr,h=>by
  simp only [AVC] at *;obtain ⟨v,h1,h2⟩:=h;exact ⟨v,h1,RefV.mono hst _ _ hr h2⟩
 | .sl b ver esz off len,cs,hr,h=>by
  simp only [AVC] at *;obtain ⟨v,h1,h2⟩:=h;exact ⟨v,h1,RefV.mono hst _ _ hr h2⟩
 | .map b,cs,hr,h=>by
  simp only [AVC] at *;obtain ⟨v,h1,h2⟩:=h;exact ⟨v,h1,RefV.mono hst _ _ hr h2⟩
theorem AVCl.mono:∀ (l:List Nat) (vs:List AV) (css:List (List Value)),aac (InH H) vs→AVCl P w Imm β H l vs css→AVCl P w' Imm' β' H' l vs css
 | [],[],_,_,h=>by simpa [AVCl] using h
 | [],_::_,_,_,h=>by simp [AVCl] at h
 | _::_,[],_,_,h=>by simp [AVCl] at h
 | n::ns,v::vs,css,hr,h=>by
  simp only [AVCl,aac] at *;obtain ⟨c,cs,h1,h2,h3,h4⟩:=h;exact ⟨c,cs,h1,AVC.mono v c hr.1 h2,h3,AVCl.mono ns vs cs hr.2 h4⟩
theorem AVV.mono:∀ (v:AV) (x:Value),aaa (InH H) v→AVV P w Imm β H v x→AVV P w' Imm' β' H' v x
 | .p t,cs,_,h=>by simp only [AVV] at h ⊢; exact PVV.mono hI hs t cs h
 | .st u fs,cs,hr,h=>by
  simp only [AVV,aaa] at *;obtain ⟨l,css,h1,h2,h3⟩:=h;exact ⟨l,css,h1,AVCl.mono l fs css hr h2,h3⟩
 | .func f first caps,cs,hr,h=>by
  simp only [AVV,aaa] at *;obtain ⟨fv,cv,h1,h2,h3⟩:=h;exact ⟨fv,cv,AVVl.mono first fv hr.1 h1,AVVl.mono caps cv hr.2 h2,h3⟩
 | .tup vs,cs,hr,h=>by
  simp only [AVV,aaa] at *;obtain ⟨xs,h1,h2⟩:=h;exact ⟨xs,AVVl.mono vs xs hr h1,h2⟩
 | .ptr b path,cs,hr,h=>by simp only [AVV] at *; exact RefV.mono hst _ _ hr h
 | .eptr b ver esz i path,cs,hr,h=>by simp only [AVV] at *; exact RefV.mono hst _ _ hr h
 | .sl b ver esz off len,cs,hr,h=>by simp only [AVV] at *; exact RefV.mono hst _ _ hr h
 | .map b,cs,hr,h=>by simp only [AVV] at *; exact RefV.mono hst _ _ hr h
theorem AVVl.mono:∀ (vs:List AV) (xs:List Value),aac (InH H) vs→AVVl P w Imm β H vs xs→AVVl P w' Imm' β' H' vs xs
 | [],_,_,h=>by simpa [AVVl] using h
 | v::vs,xs,hr,h=>by
  simp only [AVVl,aac] at *;obtain ⟨y,ys,h1,h2,h3⟩:=h;exact ⟨y,ys,h1,AVV.mono v y hr.1 h2,AVVl.mono vs ys hr.2 h3⟩
end
end mono
def allP:List AV→Option (List PV)
 | []=>some []
 | .p v::r=>match allP r with
  | some l=>some (v::l)
  | none=>none
 | _::_=>none
def mkSt (u:TypeId) (fs:List AV):AV :=
 match allP fs with
 | some l=>.p (.st u l)
 | none=>.st u fs
def subP:PV→List (TypeId×Nat)→Option PV
 | t,[]=>some t
 | t,(u,i)::r=>if shp t=.agg u then (match (flds t)[i]? with
  | some f=>subP f r
  | none=>none) else none
def subA:AV→List (TypeId×Nat)→Option AV
 | t,[]=>some t
 | .p t,(u,i)::r=>match subP t ((u,i)::r) with
  | some s=>some (.p s)
  | none=>none
 | .st u' fs,(u,i)::r=>if u'=u then (match fs[i]? with
  | some f=>subA f r
  | none=>none) else none
 | _,_=>none
def setA (t:AV) (path:List (TypeId×Nat)) (x:AV):Option AV :=
 match path with
 | []=>some x
 | (u,i)::r =>
  match t with
  | .p t=>if shp t=.agg u then (match (flds t)[i]? with
   | some f=>(match setA (.p f) r x with
    | some f'=>some (mkSt u (((flds t).map .p).set i f'))
    | none=>none)
   | none=>none) else none
  | .st u' fs=>if u'=u then (match fs[i]? with
   | some f=>(match setA f r x with
    | some f'=>some (mkSt u (fs.set i f'))
    | none=>none)
   | none=>none) else none
  | _=>none
section
variable {P:Program} {w:World} {Imm:Nat→Prop} {β:Bd} {H:Heap}
theorem acT:∀ {l:List Nat} {vs:List PV} {css:List (List Value)},PVCl P w Imm l vs css→css.map (·.length)=l∧vs.length=l.length∧css.length=l.length
 | [],[],_,h=>by simp [PVCl] at h; subst h; simp
 | [],_::_,_,h=>by simp [PVCl] at h
 | _::_,[],_,h=>by simp [PVCl] at h
 | n::ns,v::vs,css,h=>by
  simp only [PVCl] at h;obtain ⟨c,cs,rfl,h2,h3,h4⟩:=h;have:=acT h4;simp [h3,this]
theorem ad7:∀ {l:List Nat} {vs:List AV} {css:List (List Value)},AVCl P w Imm β H l vs css→css.map (·.length)=l∧vs.length=l.length∧css.length=l.length
 | [],[],_,h=>by simp [AVCl] at h; subst h; simp
 | [],_::_,_,h=>by simp [AVCl] at h
 | _::_,[],_,h=>by simp [AVCl] at h
 | n::ns,v::vs,css,h=>by
  simp only [AVCl] at h;obtain ⟨c,cs,rfl,h2,h3,h4⟩:=h;have:=ad7 h4;simp [h3,this]
theorem arM {u:TypeId} {l:List Nat} (h:szs P u=some l):l.sum=P.cellsOf u∧∀ n∈l,0<n:=by
 unfold szs at h
 split at h
 · dsimp only at h
   split at h
   · rename_i hc;simp at hc;obtain ⟨⟨h1,h2⟩,h3⟩:=hc;simp at h;subst h;refine ⟨h2,?_⟩; intro n hn; simp at hn; obtain ⟨f,hf,rfl⟩:=hn; obtain ⟨i,hi,rfl⟩:=Array.mem_iff_getElem.1 hf; exact h1 i hi
   · simp at h
 · split at h
   · rename_i hc;simp at hc;simp at h;subst h;refine ⟨by simp [List.sum_replicate_nat,hc.2],?_⟩;intro n hn;have:=List.eq_of_mem_replicate hn;omega
   · simp at h
 · simp at h
theorem ac5:∀ {v:PV} {cs:List Value},PVC P w Imm v cs→cs.length=aah P (shp v)∧shp v≠.bad:=by
 intro v cs h;cases v <;> simp only [PVC] at h
 case st u fs =>
  obtain ⟨l,css,h1,h2,rfl⟩:=h;have:=acT h2;simp [shp,aah,this.1,(arM h1).1]
 case str=>obtain ⟨_,h,_⟩:=h; subst h; simp [shp,aah]
 case seq =>
  rcases h with ⟨_,rfl⟩ | ⟨_,_,_,_,_,_,_,_,_,_,_,rfl⟩ <;> simp [shp,aah]
 all_goals first
  | (subst h; simp [shp,aah])
  | (obtain ⟨_,_,_,_,_,_,rfl⟩:=h; simp [shp,aah])
  | (obtain ⟨_,_,_,_,_,rfl⟩:=h; simp [shp,aah])
  | (obtain ⟨_,_,_,_,_,_,_,_,_,_,_,_,rfl⟩:=h; simp [shp,aah])
  | (obtain ⟨_,_,_,_,_,_,_,rfl⟩:=h; simp [shp,aah])
  | (obtain ⟨_,_,_,_,rfl⟩:=h; simp [shp,aah])
  | (obtain ⟨_,h,_⟩:=h; subst h; simp [shp,aah])
  | exact h.elim
theorem acF {v:AV} {cs:List Value} (h:AVC P w Imm β H v cs):cs.length=aah P (shpA v)∧shpA v≠.bad:=by
 cases v <;> simp only [AVC] at h
 case p t=>exact ac5 h
 case st u fs =>
  obtain ⟨l,css,h1,h2,rfl⟩:=h;have:=ad7 h2;simp [shpA,aah,this.1,(arM h1).1]
 all_goals first
  | (obtain ⟨_,rfl,_⟩:=h; simp [shpA,aah])
  | (obtain ⟨_,_,_,_,rfl⟩:=h; simp [shpA,aah])
theorem aeN {v:PV} (hs:shp v=.leaf) (cs:List Value):PVC P w Imm v cs↔∃ c,cs=[c]∧PVV P w Imm v c:=by
 cases v <;> simp [shp] at hs <;> simp only [PVC,PVV]
 case bool | int | nptr | nsl | nmap | nfunc | nif=>exact ⟨fun h=>⟨_,h,rfl⟩,fun ⟨c,h1,h2⟩=>by rw [h1,h2]⟩
 case str s=>exact ⟨fun ⟨bs,h1,h2⟩=>⟨_,h1,bs,rfl,h2⟩,fun ⟨c,h1,bs,h2,h3⟩=>⟨bs,by rw [h1,h2],h3⟩⟩
 case fptr t=>exact ⟨fun ⟨a,b,c,h1,h2,h3,h4⟩=>⟨_,h4,a,b,c,h1,h2,h3,rfl⟩,fun ⟨v,h1,a,b,c,h2,h3,h4,h5⟩=>⟨a,b,c,h2,h3,h4,by rw [h1,h5]⟩⟩
 case lst f es=>exact ⟨fun ⟨a,b,c,d,e,h1,h2,h3,h4,h5,sp,hsp,h6⟩=>⟨_,h6,a,b,c,d,e,h1,h2,h3,h4,h5,sp,hsp,rfl⟩,fun ⟨v,h,a,b,c,d,e,h1,h2,h3,h4,h5,sp,hsp,h6⟩=>⟨a,b,c,d,e,h1,h2,h3,h4,h5,sp,hsp,by rw [h,h6]⟩⟩
 case seq es =>
  constructor
  · rintro (⟨h1,h2⟩ | ⟨a,b,c,d,e,h1,h2,h3,h5,sp,hsp,h6⟩)
    · exact ⟨_,h2,.inl ⟨h1,rfl⟩⟩
    · exact ⟨_,h6,.inr ⟨a,b,c,d,e,h1,h2,h3,h5,sp,hsp,rfl⟩⟩
  · rintro ⟨v,h,(⟨h1,h2⟩ | ⟨a,b,c,d,e,h1,h2,h3,h5,sp,hsp,h6⟩)⟩
    · exact .inl ⟨h1,by rw [h,h2]⟩
    · exact .inr ⟨a,b,c,d,e,h1,h2,h3,h5,sp,hsp,by rw [h,h6]⟩
 case fmap es=>exact ⟨fun ⟨a,b,c,h1,h2,h3,h4⟩=>⟨_,h4,a,b,c,h1,h2,h3,rfl⟩,fun ⟨v,h,a,b,c,h1,h2,h3,h4⟩=>⟨a,b,c,h1,h2,h3,by rw [h,h4]⟩⟩
 case func f x y=>exact ⟨fun ⟨a,b,h1,h2,h3⟩=>⟨_,h3,a,b,h1,h2,rfl⟩,fun ⟨v,h,a,b,h1,h2,h3⟩=>⟨a,b,h1,h2,by rw [h,h3]⟩⟩
theorem aiX {v:PV} {u:TypeId} (hs:shp v=.agg u) (cs:List Value):PVC P w Imm v cs↔PVV P w Imm v (.agg cs.toArray):=by
 cases v <;> simp [shp] at hs;subst hs;simp only [PVC,PVV];constructor
 · rintro ⟨l,css,h1,h2,rfl⟩; exact ⟨l,css,h1,h2,rfl⟩
 · rintro ⟨l,css,h1,h2,h3⟩; refine ⟨l,css,h1,h2,?_⟩; injection h3 with h3; simpa using congrArg Array.toList h3
theorem akZ {v:AV} (hs:shpA v=.leaf) (cs:List Value):AVC P w Imm β H v cs↔∃ c,cs=[c]∧AVV P w Imm β H v c:=by
 cases v <;> simp [shpA] at hs <;> simp only [AVC,AVV]
 case p t=>exact aeN hs cs
 case func f x y=>exact ⟨fun ⟨a,b,h1,h2,h3⟩=>⟨_,h3,a,b,h1,h2,rfl⟩,fun ⟨v,h,a,b,h1,h2,h3⟩=>⟨a,b,h1,h2,by rw [h,h3]⟩⟩
theorem auM {v:AV} {u:TypeId} (hs:shpA v=.agg u) (cs:List Value):AVC P w Imm β H v cs↔AVV P w Imm β H v (.agg cs.toArray):=by
 cases v <;> simp [shpA] at hs
 case p t=>simp only [AVC,AVV]; exact aiX hs cs
 case st u' fs =>
  subst hs;simp only [AVC,AVV];constructor
  · rintro ⟨l,css,h1,h2,rfl⟩; exact ⟨l,css,h1,h2,rfl⟩
  · rintro ⟨l,css,h1,h2,h3⟩; refine ⟨l,css,h1,h2,?_⟩; injection h3 with h3; simpa using congrArg Array.toList h3
theorem afZ {v:AV} {x:Value} (h:AVV P w Imm β H v x) (hs:shpA v≠.bad):AVC P w Imm β H v x.cells.toList:=by
 cases hv:shpA v with
 | bad=>exact absurd hv hs
 | leaf =>
  rw [akZ hv];refine ⟨x,?_,h⟩;cases v <;> simp [shpA] at hv <;> simp only [AVV] at h
  case p t =>
   cases t <;> simp [shp] at hv <;> simp only [PVV] at h
   case bool | int | nptr | nsl | nmap | nfunc | nif=>subst h; rfl
   case str=>obtain ⟨_,rfl,_⟩:=h; rfl
   case fptr=>obtain ⟨_,_,_,_,_,_,rfl⟩:=h; rfl
   case lst=>obtain ⟨_,_,_,_,_,_,_,_,_,_,_,_,rfl⟩:=h; rfl
   case seq=>rcases h with ⟨_,rfl⟩ | ⟨_,_,_,_,_,_,_,_,_,_,_,rfl⟩ <;> rfl
   case fmap=>obtain ⟨_,_,_,_,_,_,rfl⟩:=h; rfl
   case func=>obtain ⟨_,_,_,_,rfl⟩:=h; rfl
  case func=>obtain ⟨_,_,_,_,rfl⟩:=h; rfl
  all_goals (have h1:=h.1; cases x <;> first | rfl | (simp [Value.oneCell'] at h1))
 | agg u =>
  cases v <;> simp [shpA] at hv
  case p t =>
   cases t <;> simp [shp] at hv;simp only [AVV,PVV] at h;obtain ⟨l,css,h1,h2,rfl⟩:=h;simp only [AVC,PVC];exact ⟨l,css,h1,h2,by simp [Value.cells]⟩
  case st u' fs =>
   simp only [AVV] at h;obtain ⟨l,css,h1,h2,rfl⟩:=h;simp only [AVC];exact ⟨l,css,h1,h2,by simp [Value.cells]⟩
end
mutual
def Wk:PV→PV→Prop
 | .undef,v=>v=.undef
 | .bool b,v=>v=.bool b
 | .int k n,v=>v=.int k n
 | .str s,v=>v=.str s
 | .nptr,v=>v=.nptr
 | .nmap,v=>v=.nmap
 | .nfunc,v=>v=.nfunc
 | .nif,v=>v=.nif
 | .nsl,v=>v=.nsl∨v=.seq []
 | .fptr t,v=>match v with
  | .fptr t'=>Wk t t'
  | _=>False
 | .lst f es,v=>match v with
  | .lst g fs=>(g=true→f=true)∧Wkl es fs
  | .seq fs=>Wkl es fs
  | _=>False
 | .seq es,v=>match v with
  | .seq fs=>Wkl es fs
  | _=>False
 | .fmap es,v=>match v with
  | .fmap fs=>Wkm es fs
  | _=>False
 | .func f a b,v=>match v with
  | .func g c d=>f=g∧Wkl a c∧Wkl b d
  | _=>False
 | .st u es,v=>match v with
  | .st u' fs=>u=u'∧Wkl es fs
  | _=>False
 | .tup es,v=>match v with
  | .tup fs=>Wkl es fs
  | _=>False
def Wkl:List PV→List PV→Prop
 | [],fs=>fs=[]
 | v::vs,fs=>match fs with
  | f::fs=>Wk v f∧Wkl vs fs
  | []=>False
def Wkm:List (PV×PV)→List (PV×PV)→Prop
 | [],fs=>fs=[]
 | (k,v)::vs,fs=>match fs with
  | (k',f)::fs=>k=k'∧Wk v f∧Wkm vs fs
  | []=>False
end
mutual
theorem Wk.refl:∀ v,Wk v v
 | .undef | .bool _ | .int _ _ | .str _ | .nptr | .nmap | .nfunc | .nif=>by simp [Wk]
 | .nsl=>by simp [Wk]
 | .fptr t=>by simp only [Wk]; exact Wk.refl t
 | .lst f es=>by simp only [Wk]; exact ⟨id,Wkl.refl es⟩
 | .seq es=>by simp only [Wk]; exact Wkl.refl es
 | .fmap es=>by simp only [Wk]; exact Wkm.refl es
 | .func f a b=>by simp only [Wk]; exact ⟨trivial,Wkl.refl a,Wkl.refl b⟩
 | .st u es=>by simp only [Wk]; exact ⟨trivial,Wkl.refl es⟩
 | .tup es=>by simp only [Wk]; exact Wkl.refl es
theorem Wkl.refl:∀ vs,Wkl vs vs
 | []=>by simp [Wkl]
 | v::vs=>by simp only [Wkl]; exact ⟨Wk.refl v,Wkl.refl vs⟩
theorem Wkm.refl:∀ es,Wkm es es
 | []=>by simp [Wkm]
 | (k,v)::vs=>by simp only [Wkm]; exact ⟨trivial,Wk.refl v,Wkm.refl vs⟩
end
theorem Wkl.length:∀ {es fs:List PV},Wkl es fs→fs.length=es.length
 | [],fs,h=>by simp only [Wkl] at h; subst h; rfl
 | v::vs,fs,h=>by
  cases fs with
  | nil=>simp [Wkl] at h
  | cons f fs=>simp only [Wkl] at h; simp [Wkl.length h.2]
theorem Wkl.aeo {es fs:List PV} (h:Wkl es fs):fs=[]↔es=[]:=by
 have:=h.length;rw [← List.length_eq_zero_iff,← List.length_eq_zero_iff,this]
theorem Wk.shp:∀ {v v':PV},Wk v v'→Abs.shp v'=Abs.shp v
 | .undef,v',h | .bool _,v',h | .int _ _,v',h | .str _,v',h | .nptr,v',h | .nmap,v',h | .nfunc,v',h | .nif,v',h=>by simp only [Wk] at h; subst h; rfl
 | .nsl,v',h=>by simp only [Wk] at h; rcases h with rfl | rfl <;> rfl
 | .fptr _,v',h | .lst _ _,v',h | .seq _,v',h | .fmap _,v',h | .func _ _ _,v',h | .tup _,v',h=>by cases v' <;> simp only [Wk] at h <;> rfl
 | .st _ _,v',h=>by
  cases v' <;> simp only [Wk] at h;simp [Abs.shp,h.1]
section
variable {P:Program} {w:World} {Imm:Nat→Prop}
mutual
theorem PVC.weak:∀ (v v':PV) (cs:List Value),Wk v v'→PVC P w Imm v cs→PVC P w Imm v' cs
 | .undef,v',cs,h,hc | .bool _,v',cs,h,hc | .int _ _,v',cs,h,hc | .str _,v',cs,h,hc | .nptr,v',cs,h,hc | .nmap,v',cs,h,hc | .nfunc,v',cs,h,hc | .nif,v',cs,h,hc=>by simp only [Wk] at h; subst h; exact hc
 | .nsl,v',cs,h,hc=>by
  simp only [Wk] at h;rcases h with rfl | rfl
  · exact hc
  · simp only [PVC] at hc ⊢; exact .inl ⟨trivial,hc⟩
 | .fptr t,v',cs,h,hc=>by
  cases v' <;> simp only [Wk] at h;simp only [PVC] at hc ⊢;obtain ⟨blk,off,ts,h1,h2⟩:=hc;exact ⟨blk,off,ts,PVC.weak _ _ _ h h1,h2⟩
 | .lst f es,v',cs,h,hc=>by
  cases v' with
  | lst g fs =>
   simp only [Wk] at h;simp only [PVC] at hc ⊢;obtain ⟨blk,off,cap,esz,css,h1,h2,h3,h4,h5,h6⟩:=hc;have hl:=h.2.length;rw [hl];exact ⟨blk,off,cap,esz,css,PVCl.weak _ _ _ _ h.2 h1,fun hne=>h2 (fun e=>hne (h.2.aeo.2 e)),h3,fun e=>h4 (h.1 e),h5,h6⟩
  | seq fs =>
   simp only [Wk] at h;simp only [PVC] at hc ⊢;obtain ⟨blk,off,cap,esz,css,h1,h2,h3,h4,h5,h6⟩:=hc;have hl:=h.length;rw [hl];exact .inr ⟨blk,off,cap,esz,css,PVCl.weak _ _ _ _ h h1,fun hne=>h2 (fun e=>hne (h.aeo.2 e)),h3,h5,h6⟩
  | _=>simp only [Wk] at h
 | .seq es,v',cs,h,hc=>by
  cases v' <;> simp only [Wk] at h;simp only [PVC] at hc ⊢;rcases hc with ⟨h1,h2⟩ | ⟨blk,off,cap,esz,css,h1,h2,h3,h5,h6⟩
  · exact .inl ⟨h.aeo.2 h1,h2⟩
  · have hl:=h.length;rw [hl];exact .inr ⟨blk,off,cap,esz,css,PVCl.weak _ _ _ _ h h1,fun hne=>h2 (fun e=>hne (h.aeo.2 e)),h3,h5,h6⟩
 | .fmap es,v',cs,h,hc=>by
  cases v' <;> simp only [Wk] at h;simp only [PVC] at hc ⊢;obtain ⟨r,ents,clock,h1,h2,h3,h4⟩:=hc;exact ⟨r,ents,clock,h1,h2,PVM.weak _ _ _ h h3,h4⟩
 | .func f a b,v',cs,h,hc=>by
  cases v' <;> simp only [Wk] at h;obtain ⟨rfl,ha,hb⟩:=h;simp only [PVC] at hc ⊢;obtain ⟨fv,cv,h1,h2,h3⟩:=hc;exact ⟨fv,cv,PVVl.weak _ _ _ ha h1,PVVl.weak _ _ _ hb h2,h3⟩
 | .st u es,v',cs,h,hc=>by
  cases v' <;> simp only [Wk] at h;obtain ⟨rfl,h⟩:=h;simp only [PVC] at hc ⊢;obtain ⟨l,css,h1,h2,h3⟩:=hc;exact ⟨l,css,h1,PVCl.weak _ _ _ _ h h2,h3⟩
 | .tup es,v',cs,h,hc=>by simp [PVC] at hc
theorem PVCl.weak:∀ (l:List Nat) (es fs:List PV) (css:List (List Value)),Wkl es fs→PVCl P w Imm l es css→PVCl P w Imm l fs css
 | l,[],fs,css,h,hc=>by simp only [Wkl] at h; subst h; exact hc
 | l,v::vs,fs,css,h,hc=>by
  cases fs with
  | nil=>simp [Wkl] at h
  | cons f fs =>
   simp only [Wkl] at h;cases l with
   | nil=>simp [PVCl] at hc
   | cons n l =>
    simp only [PVCl] at hc ⊢;obtain ⟨c,cs,h1,h2,h3,h4⟩:=hc;exact ⟨c,cs,h1,PVC.weak _ _ _ h.1 h2,h3,PVCl.weak _ _ _ _ h.2 h4⟩
theorem PVV.weak:∀ (v v':PV) (x:Value),Wk v v'→PVV P w Imm v x→PVV P w Imm v' x
 | .undef,v',cs,h,hc | .bool _,v',cs,h,hc | .int _ _,v',cs,h,hc | .str _,v',cs,h,hc | .nptr,v',cs,h,hc | .nmap,v',cs,h,hc | .nfunc,v',cs,h,hc | .nif,v',cs,h,hc=>by simp only [Wk] at h; subst h; exact hc
 | .nsl,v',cs,h,hc=>by
  simp only [Wk] at h;rcases h with rfl | rfl
  · exact hc
  · simp only [PVV] at hc ⊢; exact .inl ⟨trivial,hc⟩
 | .fptr t,v',cs,h,hc=>by
  cases v' <;> simp only [Wk] at h;simp only [PVV] at hc ⊢;obtain ⟨blk,off,ts,h1,h2⟩:=hc;exact ⟨blk,off,ts,PVC.weak _ _ _ h h1,h2⟩
 | .lst f es,v',cs,h,hc=>by
  cases v' with
  | lst g fs =>
   simp only [Wk] at h;simp only [PVV] at hc ⊢;obtain ⟨blk,off,cap,esz,css,h1,h2,h3,h4,h5,h6⟩:=hc;have hl:=h.2.length;rw [hl];exact ⟨blk,off,cap,esz,css,PVCl.weak _ _ _ _ h.2 h1,fun hne=>h2 (fun e=>hne (h.2.aeo.2 e)),h3,fun e=>h4 (h.1 e),h5,h6⟩
  | seq fs =>
   simp only [Wk] at h;simp only [PVV] at hc ⊢;obtain ⟨blk,off,cap,esz,css,h1,h2,h3,h4,h5,h6⟩:=hc;have hl:=h.length;rw [hl];exact .inr ⟨blk,off,cap,esz,css,PVCl.weak _ _ _ _ h h1,fun hne=>h2 (fun e=>hne (h.aeo.2 e)),h3,h5,h6⟩
  | _=>simp only [Wk] at h
 | .seq es,v',cs,h,hc=>by
  cases v' <;> simp only [Wk] at h;simp only [PVV] at hc ⊢;rcases hc with ⟨h1,h2⟩ | ⟨blk,off,cap,esz,css,h1,h2,h3,h5,h6⟩
  · exact .inl ⟨h.aeo.2 h1,h2⟩
  · have hl:=h.length;rw [hl];exact .inr ⟨blk,off,cap,esz,css,PVCl.weak _ _ _ _ h h1,fun hne=>h2 (fun e=>hne (h.aeo.2 e)),h3,h5,h6⟩
 | .fmap es,v',cs,h,hc=>by
  cases v' <;> simp only [Wk] at h;simp only [PVV] at hc ⊢;obtain ⟨r,ents,clock,h1,h2,h3,h4⟩:=hc;exact ⟨r,ents,clock,h1,h2,PVM.weak _ _ _ h h3,h4⟩
 | .func f a b,v',cs,h,hc=>by
  cases v' <;> simp only [Wk] at h;obtain ⟨rfl,ha,hb⟩:=h;simp only [PVV] at hc ⊢;obtain ⟨fv,cv,h1,h2,h3⟩:=hc;exact ⟨fv,cv,PVVl.weak _ _ _ ha h1,PVVl.weak _ _ _ hb h2,h3⟩
 | .st u es,v',cs,h,hc=>by
  cases v' <;> simp only [Wk] at h;obtain ⟨rfl,h⟩:=h;simp only [PVV] at hc ⊢;obtain ⟨l,css,h1,h2,h3⟩:=hc;exact ⟨l,css,h1,PVCl.weak _ _ _ _ h h2,h3⟩
 | .tup es,v',cs,h,hc=>by
  cases v' <;> simp only [Wk] at h;simp only [PVV] at hc ⊢;obtain ⟨xs,h1,h2⟩:=hc;exact ⟨xs,PVVl.weak _ _ _ h h1,h2⟩
theorem PVVl.weak:∀ (es fs:List PV) (xs:List Value),Wkl es fs→PVVl P w Imm es xs→PVVl P w Imm fs xs
 | [],fs,xs,h,hc=>by simp only [Wkl] at h; subst h; exact hc
 | v::vs,fs,xs,h,hc=>by
  cases fs with
  | nil=>simp [Wkl] at h
  | cons f fs =>
   simp only [Wkl] at h;simp only [PVVl] at hc ⊢;obtain ⟨y,ys,h1,h2,h3⟩:=hc;exact ⟨y,ys,h1,PVV.weak _ _ _ h.1 h2,PVVl.weak _ _ _ h.2 h3⟩
theorem PVM.weak:∀ (es fs:List (PV×PV)) (ents:List MapEntry),Wkm es fs→PVM P w Imm es ents→PVM P w Imm fs ents
 | [],fs,xs,h,hc=>by simp only [Wkm] at h; subst h; exact hc
 | (k,v)::vs,fs,xs,h,hc=>by
  cases fs with
  | nil=>simp [Wkm] at h
  | cons f fs =>
   simp only [Wkm] at h;obtain ⟨rfl,h1,h2⟩:=h;simp only [PVM] at hc ⊢;obtain ⟨e,rest,e1,e2,e3,e4⟩:=hc;exact ⟨e,rest,e1,e2,PVV.weak _ _ _ h1 e3,PVM.weak _ _ _ h2 e4⟩
end
end
section
variable {P:Program} {w:World} {Imm:Nat→Prop} {β:Bd} {H:Heap}
theorem acR:∀ {fs:List AV} {l:List PV},allP fs=some l→fs=l.map .p
 | [],l,h=>by simp [allP] at h; subst h; rfl
 | .p v::r,l,h=>by
  simp only [allP] at h;cases hr:allP r with
  | none=>simp [hr] at h
  | some l'=>simp [hr] at h; subst h; simp [acR hr]
 | .ptr ..::_,_,h | .eptr ..::_,_,h | .sl ..::_,_,h | .map ..::_,_,h | .func ..::_,_,h | .st ..::_,_,h | .tup ..::_,_,h=>by simp [allP] at h
theorem acE:∀ {l:List Nat} {fs:List PV} {css:List (List Value)},AVCl P w Imm β H l (fs.map .p) css↔PVCl P w Imm l fs css
 | [],[],_=>by simp [AVCl,PVCl]
 | [],_::_,_=>by simp [AVCl,PVCl]
 | _::_,[],_=>by simp [AVCl,PVCl]
 | n::ns,v::vs,css=>by
  simp only [List.map_cons,AVCl,PVCl,AVC];constructor
  · rintro ⟨c,cs,h1,h2,h3,h4⟩; exact ⟨c,cs,h1,h2,h3,acE.1 h4⟩
  · rintro ⟨c,cs,h1,h2,h3,h4⟩; exact ⟨c,cs,h1,h2,h3,acE.2 h4⟩
theorem abq:∀ {fs:List PV} {xs:List Value},AVVl P w Imm β H (fs.map .p) xs↔PVVl P w Imm fs xs
 | [],_=>by simp [AVVl,PVVl]
 | v::vs,xs=>by
  simp only [List.map_cons,AVVl,PVVl,AVV];constructor
  · rintro ⟨y,ys,h1,h2,h3⟩; exact ⟨y,ys,h1,h2,abq.1 h3⟩
  · rintro ⟨y,ys,h1,h2,h3⟩; exact ⟨y,ys,h1,h2,abq.2 h3⟩
theorem aqi {u:TypeId} {fs:List AV} {cs:List Value}:AVC P w Imm β H (mkSt u fs) cs↔AVC P w Imm β H (.st u fs) cs:=by
 unfold mkSt;cases h:allP fs with
 | none=>rfl
 | some l=>have:=acR h; subst this; simp [AVC,PVC,acE]
theorem awS {u:TypeId} {fs:List AV} {x:Value}:AVV P w Imm β H (mkSt u fs) x↔AVV P w Imm β H (.st u fs) x:=by
 unfold mkSt;cases h:allP fs with
 | none=>rfl
 | some l=>have:=acR h; subst this; simp [AVV,PVV,acE]
theorem aaE (n:Nat×Nat→Prop):∀ l:List PV,aac n (l.map .p)
 | []=>by simp [aac]
 | v::l=>by simp only [List.map_cons,aac,aaa,true_and]; exact aaE n l
theorem ae4 {n:Nat×Nat→Prop} {u:TypeId} {fs:List AV} (h:aac n fs):aaa n (mkSt u fs):=by
 unfold mkSt;cases allP fs with
 | none=>exact h
 | some l=>simp [aaa]
theorem aag {n:Nat×Nat→Prop}:∀ {fs:List AV},aac n fs↔∀ v∈fs,aaa n v
 | []=>by simp [aac]
 | v::vs=>by simp [aac,aag (fs:=vs)]
theorem agA : ∀ {l : List Nat} {fs : List AV} {css : List (List Value)} {i : Nat} {f : AV}, AVCl P w Imm β H l fs css → fs[i]? = some f →
    ∃ pre c post,css.flatten=pre ++ c ++ post∧pre.length=(l.take i).sum∧i<l.length∧l[i]?=some c.length∧AVC P w Imm β H f c ∧
     ∀ f' c',AVC P w Imm β H f' c'→c'.length=c.length→∃ css',css'.flatten=pre ++ c' ++ post∧AVCl P w Imm β H l (fs.set i f') css'
 | [],[],_,i,f,_,hf=>by simp at hf
 | [],_::_,_,_,_,h,_=>by simp [AVCl] at h
 | _::_,[],_,_,_,h,_=>by simp [AVCl] at h
 | n::ns,v::vs,css,0,f,h,hf=>by
  simp only [AVCl] at h;obtain ⟨c,cs,rfl,h2,h3,h4⟩:=h;simp at hf; subst hf;refine ⟨[],c,cs.flatten,by simp,by simp,by simp,by simp [h3],h2,?_⟩;intro f' c' hc hl;exact ⟨c'::cs,by simp,by simp only [List.set_cons_zero,AVCl]; exact ⟨c',cs,rfl,hc,by omega,h4⟩⟩
 | n::ns,v::vs,css,i+1,f,h,hf=>by
  simp only [AVCl] at h;obtain ⟨c,cs,rfl,h2,h3,h4⟩:=h;simp at hf;obtain ⟨pre,x,post,k1,k2,k3,k4,k5,k6⟩:=agA h4 hf;refine ⟨c ++ pre,x,post,by simp [k1],by simp [k2,h3],by simpa using k3,by simpa using k4,k5,?_⟩;intro f' c' hc hl;obtain ⟨css',e1,e2⟩:=k6 f' c' hc hl;exact ⟨c::css',by simp [e1],by simp only [List.set_cons_succ,AVCl]; exact ⟨c,css',rfl,h2,h3,e2⟩⟩
theorem aoR {t : AV} {u : TypeId} {cs : List Value} (hs : shpA t = .agg u) (h : AVC P w Imm β H t cs) :
    ∃ l fs css,szs P u=some l∧AVCl P w Imm β H l fs css∧cs=css.flatten∧(∀ t',t=.p t'→fs=(flds t').map .p)∧(∀ u' fs',t=.st u' fs'→fs=fs'∧u'=u):=by
 cases t <;> simp [shpA] at hs
 case p t =>
  cases t <;> simp [shp] at hs;subst hs;simp only [AVC,PVC] at h;obtain ⟨l,css,h1,h2,h3⟩:=h;exact ⟨l,_,css,h1,acE.2 h2,h3,fun t' ht=>by cases ht; rfl,fun _ _ h=>by cases h⟩
 case st u' fs =>
  subst hs;simp only [AVC] at h;obtain ⟨l,css,h1,h2,h3⟩:=h;exact ⟨l,fs,css,h1,h2,h3,(fun t' ht=>by cases ht),(fun u2 fs2 ht=>by cases ht; exact ⟨rfl,rfl⟩)⟩
theorem aoO {t:PV} {path:List (TypeId×Nat)}:subA (.p t) path=(subP t path).map .p:=by
 cases path with
 | nil=>rfl
 | cons x r=>obtain ⟨u,i⟩:=x; simp only [subA]; cases subP t ((u,i)::r) <;> rfl
theorem aek : ∀ {path : List (TypeId × Nat)} {t s : AV} {cs : List Value} {o : Nat}, AVC P w Imm β H t cs → subA t path = some s → aaW P path = some o →
    ∃ pre xs post,cs=pre ++ xs ++ post∧pre.length=o∧AVC P w Imm β H s xs ∧
     ∀ x ys t',setA t path x=some t'→AVC P w Imm β H x ys→ys.length=xs.length→AVC P w Imm β H t' (pre ++ ys ++ post)
 | [],t,s,cs,o,h,hs,ho=>by
  simp [aaW] at ho; subst ho;simp [subA] at hs; subst hs;refine ⟨[],cs,[],by simp,by simp,h,?_⟩;intro x ys t' hx hy _;simp [setA] at hx; subst hx; simpa using hy
 | (u,i)::r,t,s,cs,o,h,hs,ho=>by
  simp only [aaW] at ho;cases hz:szs P u with
  | none=>simp [hz] at ho
  | some l =>
   cases hp:aaW P r with
   | none=>simp [hz,hp] at ho
   | some o' =>
    simp [hz,hp] at ho;obtain ⟨hil,rfl⟩:=ho
    have key : ∃ fs f, (∃ l' css, szs P u = some l' ∧ AVCl P w Imm β H l' fs css ∧ cs = css.flatten) ∧ fs[i]? = some f ∧ subA f r = some s ∧
        (∀ x t',setA t ((u,i)::r) x=some t'→∃ f',setA f r x=some f'∧t'=mkSt u (fs.set i f')):=by
     cases t
     case p t =>
      rw [aoO] at hs;simp only [subP] at hs
      by_cases hu:shp t=.agg u
      · simp only [hu,if_true] at hs;obtain ⟨l',fs,css,k1,k2,k3,k4,_⟩:=aoR (t:=.p t) (by simpa [shpA] using hu) h;have:=k4 t rfl; subst this;cases hf:(flds t)[i]? with
        | none=>simp [hf] at hs
        | some f =>
         simp only [hf] at hs;refine ⟨_,.p f,⟨l',css,k1,k2,k3⟩,by simp [hf],by rw [aoO]; exact hs,?_⟩;intro x t' hx;simp only [setA,hu,if_true,hf] at hx;cases hq:setA (.p f) r x with
         | none=>simp [hq] at hx
         | some f'=>simp [hq] at hx; exact ⟨f',rfl,hx.symm⟩
      · simp [hu] at hs
     case st u' fs =>
      simp only [subA] at hs
      by_cases hu:u'=u
      · subst hu;simp only [if_true] at hs;obtain ⟨l',fs',css,k1,k2,k3,_,k4⟩:=aoR (t:=.st u' fs) rfl h;have:=(k4 _ _ rfl).1; subst this;cases hf:fs'[i]? with
        | none=>simp [hf] at hs
        | some f =>
         simp only [hf] at hs;refine ⟨_,f,⟨l',css,k1,k2,k3⟩,hf,hs,?_⟩;intro x t' hx;simp only [setA,if_true,hf] at hx;cases hq:setA f r x with
         | none=>simp [hq] at hx
         | some f'=>simp [hq] at hx; exact ⟨f',rfl,hx.symm⟩
      · simp [hu] at hs
     all_goals simp [subA] at hs
    obtain ⟨fs,f,⟨l',css,k1,k2,k3⟩,hf,hsub,hset⟩:=key;rw [hz] at k1; cases k1;obtain ⟨pre,c,post,e1,e2,e3,e4,e5,e6⟩:=agA k2 hf;obtain ⟨pre',xs,post',g1,g2,g3,g4⟩:=aek e5 hsub hp;refine ⟨pre ++ pre',xs,post' ++ post,by rw [k3,e1,g1]; simp,by simp [e2,g2],g3,?_⟩;intro x ys t' hx hy hl;obtain ⟨f',hf',rfl⟩:=hset x t' hx;have hnew:=g4 x ys f' hf' hy hl;obtain ⟨css',c1,c2⟩:=e6 f' _ hnew (by rw [g1]; simp [hl]);rw [aqi];simp only [AVC];exact ⟨l,css',hz,c2,by rw [c1]; simp⟩
theorem ahe {path : List (TypeId × Nat)} {t s : PV} {cs : List Value} {o : Nat} (h : PVC P w Imm t cs) (hs : subP t path = some s) (ho : aaW P path = some o) :
    ∃ pre xs post,cs=pre ++ xs ++ post∧pre.length=o∧PVC P w Imm s xs:=by
 obtain ⟨pre,xs,post,h1,h2,h3,_⟩:=aek (β:=⟨id,id⟩) (H:=[]) (t:=.p t) (s:=.p s) (by simpa [AVC] using h) (by rw [aoO,hs]; rfl) ho;exact ⟨pre,xs,post,h1,h2,by simpa [AVC] using h3⟩
theorem afn {n:Nat×Nat→Prop}:∀ {path:List (TypeId×Nat)} {t s:AV},subA t path=some s→aaa n t→aaa n s
 | [],t,s,hs,h=>by simp [subA] at hs; subst hs; exact h
 | (u,i)::r,.p t,s,hs,h=>by
  rw [aoO] at hs;cases hq:subP t ((u,i)::r) with
  | none=>simp [hq] at hs
  | some q=>simp [hq] at hs; subst hs; simp [aaa]
 | (u,i)::r,.st u' fs,s,hs,h=>by
  simp only [subA] at hs
  split at hs
  · split at hs
    · rename_i f hf;simp only [aaa] at h;exact afn hs (aag.1 h f (List.mem_of_getElem? hf))
    · simp at hs
  · simp at hs
 | _::_,.ptr ..,_,hs,_ | _::_,.eptr ..,_,hs,_ | _::_,.sl ..,_,hs,_ | _::_,.map ..,_,hs,_ | _::_,.func ..,_,hs,_ | _::_,.tup ..,_,hs,_=>by simp [subA] at hs
theorem afp {n:Nat×Nat→Prop}:∀ {path:List (TypeId×Nat)} {t t' x:AV},setA t path x=some t'→aaa n t→aaa n x→aaa n t'
 | [],t,t',x,hs,h,hx=>by simp [setA] at hs; subst hs; exact hx
 | (u,i)::r,.p t,t',x,hs,h,hx=>by
  simp only [setA] at hs
  split at hs
  · split at hs
    · split at hs
      · rename_i f hf f' hf';simp at hs; subst hs;refine ae4 (aag.2 ?_);intro v hv;rcases List.mem_or_eq_of_mem_set hv with hv | rfl
        · exact aag.1 (aaE n _) v hv
        · exact afp hf' (by simp [aaa]) hx
      · simp at hs
    · simp at hs
  · simp at hs
 | (u,i)::r,.st u' fs,t',x,hs,h,hx=>by
  simp only [setA] at hs
  split at hs
  · split at hs
    · split at hs
      · rename_i _ f hf _ f' hf';simp at hs; subst hs;simp only [aaa] at h;refine ae4 (aag.2 ?_);intro v hv;rcases List.mem_or_eq_of_mem_set hv with hv | rfl
        · exact aag.1 h v hv
        · exact afp hf' (aag.1 h f (List.mem_of_getElem? hf)) hx
      · simp at hs
    · simp at hs
  · simp at hs
 | _::_,.ptr ..,_,_,hs,_,_ | _::_,.eptr ..,_,_,hs,_,_ | _::_,.sl ..,_,_,hs,_,_ | _::_,.map ..,_,_,hs,_,_ | _::_,.func ..,_,_,hs,_,_ | _::_,.tup ..,_,_,hs,_,_=>by simp [setA] at hs
end
structure Eff where
 v:AV
 hin:List (Nat×Obj):=[]
 hset:List (Nat×Obj):=[]
 hnew:List Obj:=[]
def aaj (H:Heap) (l:List (Nat×Obj)):Heap :=
 match l with
 | []=>H
 | (b,o)::r=>aaj (H.set b o) r
def put (dst:Option Tmp) (v:AV) (e:Env):Env :=
 match dst with
 | some d=>(d,v)::e
 | none=>e
def Eff.app (e:Eff) (dst:Option Tmp) (s:St):St:=⟨put dst e.v s.env,aaj s.heap e.hset ++ e.hnew⟩
def ev (e:Env):Operand→AV
 | .tmp t=>getE e t
 | .const v=>.p (ofConst v)
 | .global g=>.p (Gl.g g)
 | .func f=>.p (.func f [] [])
def toBA (s:List Nat):ByteArray:=⟨(s.map UInt8.ofNat).toArray⟩
mutual
def eqP:PV→PV→Option Bool
 | .bool a,.bool b=>some (a == b)
 | .int k a,.int k' b=>if k=k' then some (a == b) else none
 | .str a,.str b=>some (a == b)
 | .st u fs,.st u' gs=>if u=u' then eqPs fs gs else none
 | _,_=>none
def eqPs:List PV→List PV→Option Bool
 | [],[]=>some true
 | a::as,b::bs=>match eqP a b with
  | some true=>eqPs as bs
  | some false=>some false
  | none=>none
 | _,_=>none
end
def eqTs (P:Program) (eqF:TypeId→PV→PV→Option Bool):List TypeId→List PV→List PV→Option Bool
 | [],[],[]=>some true
 | T::Ts,a::as,b::bs =>
  if kindOf P T=shp a∧kindOf P T=shp b then
   (match eqF T a b,eqTs P eqF Ts as bs with
   | some r,some s=>some (r && s)
   | _,_=>none)
  else none
 | _,_,_=>none
def eqT (P:Program):Nat→TypeId→PV→PV→Option Bool
 | 0,_,_,_=>none
 | n+1,T,v,v' =>
  match P.underlying T,v,v' with
  | some .bool,.bool a,.bool b=>some (a == b)
  | some (.int _),.int k a,.int k' b=>if k=k' then some (a == b) else none
  | some .string,.str a,.str b=>some (a == b)
  | some (.struct fs),.st u xs,.st u' ys =>
   if kindOf P T = .agg u ∧ u' = u ∧ P.stoodInHeld T = false ∧ fs.toList.all (fun f => f.name != "_") = true then eqTs P (eqT P n) (fs.toList.map (·.type)) xs ys else none
  | _,_,_=>none
def eqOk (P:Program) (T:TypeId):Bool:=!P.eqGuardType P.depth T
def afe (P:Program) (T:TypeId):Bool:=match P.underlying T with | some .bool=>true | _=>false
def isIntT (P:Program) (T:TypeId):Bool:=match P.underlying T with | some (.int _)=>true | _=>false
def abY (P:Program) (T:TypeId):Bool:=match P.underlying T with | some .string=>true | _=>false
inductive NilK where | ptr | slice | map | func | iface
 deriving DecidableEq
def isC:Operand→Bool
 | .const _=>true
 | _=>false
def aa3 (P:Program) (T:TypeId) (c:Bool):AV→Option NilK
 | .p .nptr=>match P.underlying T with
  | some (.pointer _)=>some .ptr
  | _=>none
 | .p .nsl=>match P.underlying T with
  | some (.slice _)=>some .slice
  | _=>none
 | .p .nmap=>match P.underlying T with
  | some (.map _ _)=>some .map
  | _=>none
 | .p .nfunc=>match P.underlying T with
  | some (.func _ _ _)=>some .func
  | _=>none
 | .p .nif=>match c,P.underlying T with
  | true,some (.interface _)=>some .iface
  | _,_=>none
 | _=>none
def aaQ (H:Heap) (k:NilK) (x:AV):Option Bool :=
 match k,x with
 | .ptr,.p .nptr | .slice,.p .nsl | .map,.p .nmap | .func,.p .nfunc | .iface,.p .nif=>some true
 | .ptr,.p (.fptr _) | .slice,.p (.lst _ _) | .map,.p (.fmap _) | .func,.p (.func _ _ _) | .func,.func _ _ _=>some false
 | .ptr,.ptr b _=>match H[b]? with
  | some (.box _ _)=>some false
  | _=>none
 | .map,.map b=>match H[b]? with
  | some (.map _ _)=>some false
  | _=>none
 | .slice,.p (.seq (_::_))=>some false
 | .slice,.sl b ver esz _ _=>match H[b]? with
  | some (.arr k ver' esz' es)=>if ver=ver'∧esz=esz' then some (k.gr && es.isEmpty) else none
  | _=>none
 | _,_=>none
def al8 (op:BinOp) (k:IntKind) (a b:Int) (K:PV→Prop):Prop :=
 match op with
 | .add=>K (.int k (k.wrap (a+b)))
 | .sub=>K (.int k (k.wrap (a - b)))
 | .mul=>K (.int k (k.wrap (a*b)))
 | .quo=>b≠0∧K (.int k (k.wrap (a.tdiv b)))
 | .rem=>b≠0∧K (.int k (a.tmod b))
 | .and=>K (.int k (k.wrap (BitVec.ofInt k.bits a &&& BitVec.ofInt k.bits b).toNat))
 | .or=>K (.int k (k.wrap (BitVec.ofInt k.bits a ||| BitVec.ofInt k.bits b).toNat))
 | .xor=>K (.int k (k.wrap (BitVec.ofInt k.bits a ^^^ BitVec.ofInt k.bits b).toNat))
 | .andNot=>K (.int k (k.wrap (BitVec.ofInt k.bits a &&& ~~~ BitVec.ofInt k.bits b).toNat))
 | .eql=>K (.bool (a == b))
 | .neq=>K (.bool (a != b))
 | .lss=>K (.bool (decide (a<b)))
 | .leq=>K (.bool (decide (a≤b)))
 | .gtr=>K (.bool (decide (a > b)))
 | .geq=>K (.bool (decide (a ≥ b)))
 | .shl=>0≤b∧K (.int k (k.wrap (a*2 ^ (min b.toNat k.bits))))
 | .shr=>0≤b∧K (.int k (a.fdiv (2 ^ (min b.toNat k.bits))))
def abJ:List Nat→List Nat→Bool
 | _,[]=>false
 | [],_::_=>true
 | a::x,b::y=>decide (a<b) || (a == b && abJ x y)
def ak8 (op:BinOp) (a b:List Nat) (K:PV→Prop):Prop :=
 match op with
 | .add=>a.length+b.length<9223372036854775808∧K (.str (a ++ b))
 | .eql=>K (.bool (a == b))
 | .neq=>K (.bool (!(a == b)))
 | .lss=>K (.bool (abJ a b))
 | .leq=>K (.bool (abJ a b || a == b))
 | .gtr=>K (.bool (!(abJ a b || a == b)))
 | .geq=>K (.bool (!(abJ a b)))
 | _=>False
def agu (P:Program) (op:BinOp) (T:TypeId) (c:Bool) (H:Heap) (x y:AV) (K:PV→Prop):Prop :=
 match x,y with
 | .p (.int k a),.p (.int k' b)=>(k=k'∨op=.shl∨op=.shr)∧al8 op k a b K
 | .p (.str a),.p (.str b)=>ak8 op a b K
 | .p (.bool a),.p (.bool b)=>afe P T=true∧match op with
  | .eql=>K (.bool (a == b))
  | .neq=>K (.bool (!(a == b)))
  | _=>False
 | .p (.st u fs),.p (.st u' gs)=>eqOk P T=true∧(match eqT P 9 T (.st u fs) (.st u' gs),op with
  | some r,.eql=>K (.bool r)
  | some r,.neq=>K (.bool !r)
  | _,_=>False)
 | x,y =>
  (match aa3 P T c y with
  | some k=>(match aaQ H k x,op with
   | some r,.eql=>K (.bool r)
   | some r,.neq=>K (.bool !r)
   | _,_=>False)
  | none=>False)
def maxL:Nat:=1073741824
def aa4 (H:Heap):AV→Option (List AV)
 | .p .nsl=>some []
 | .p (.lst _ es)=>some (es.map .p)
 | .p (.seq es)=>some (es.map .p)
 | .p (.str s)=>some (s.map fun c=>.p (.int .u8 (c:Nat)))
 | .sl b ver esz off len=>match H[b]? with
  | some (.arr _ ver' esz' es)=>if ver=ver'∧esz=esz'∧off+len≤es.length then some ((es.drop off).take len) else none
  | _=>none
 | _=>none
def aas (H:Heap):AV→List (Nat×Obj)
 | .sl b _ _ _ _ | .ptr b _ | .eptr b _ _ _ _ | .map b=>match H[b]? with
  | some o=>[(b,o)]
  | none=>[]
 | _=>[]
def abj (P:Program) (esz:Nat):List AV→Prop
 | []=>True
 | v::vs=>(shpA v≠.bad∧aah P (shpA v)=esz)∧abj P esz vs
def aax (P:Program) (T:TypeId):Option Nat :=
 match P.underlying T with
 | some (.slice e)=>match P.info? e with
  | some i=>if i.bytes<32768∧0<i.size∧0<i.bytes then some i.size else none
  | none=>none
 | _=>none
def aay (P:Program) (T:TypeId):TypeId :=
 match P.underlying T with
 | some (.slice e)=>e
 | _=>0
def afU (P:Program) (X:TypeId):Bool :=
 match P.underlying X with
 | some (.int _)=>false
 | some _=>true
 | none=>false
def gk (P:Program) (T:TypeId):AK:=if aay P T=Gl.u8 then .bytes else .grow
def acC (P:Program) (T X:TypeId) (H:Heap) (s x:AV) (K:Eff→Prop):Prop :=
 match aax P T,aa4 H x with
 | some sz,some xs=>afU P X=true∧(aaT P (aay P T)).isSome=true∧abj P sz xs ∧
  (match s with
  | .p .nsl=>if xs.isEmpty then K { v:=s,hin:=aas H x } else xs.length≤maxL∧K { v:=.sl H.length 0 sz 0 xs.length,hin:=aas H x,hnew:=[.arr (gk P T) 0 sz xs] }
  | .p (.lst full es) => abj P sz (es.map .p) ∧ if xs.isEmpty then K { v := s, hin := aas H x } else full = true ∧ es.length + xs.length ≤ maxL ∧
      K { v:=.sl H.length 0 sz 0 (es.length+xs.length),hin:=aas H x,hnew:=[.arr (gk P T) 0 sz (es.map .p ++ xs)] }
  | .sl b ver esz off len=>match H[b]? with
   | some (.arr k ver' esz' es) => ver = ver' ∧ esz = esz' ∧ esz = sz ∧ off + len ≤ es.length ∧
       if xs.isEmpty then K { v:=s,hin:=(b,.arr k ver' esz' es)::aas H x }
       else es.length+xs.length≤maxL∧(match k with
        | .frozen=>False
        | .exact => if off + len + xs.length ≤ es.length then
            K { v:=.sl b ver esz off (len+xs.length),hin:=(b,.arr k ver' esz' es)::aas H x,hset:=[(b,.arr .exact ver esz (es.take (off+len) ++ xs ++ es.drop (off+len+xs.length)))] }
         else K { v:=.sl H.length 0 sz 0 (len+xs.length),hin:=(b,.arr k ver' esz' es)::aas H x,hnew:=[.arr (gk P T) 0 sz ((es.drop off).take len ++ xs)] }
        | _=>off=0∧(k=.bytes→aay P T=Gl.u8)∧K { v:=.sl b (ver+1) esz 0 (len+xs.length),hin:=(b,.arr k ver' esz' es)::aas H x,hset:=[(b,.arr k (ver+1) esz (es.take len ++ xs))] })
   | _=>False
  | _=>False)
 | _,_=>False
def aaK (x:Option AV) (d:Nat) (K:Nat→Prop):Prop :=
 match x with
 | none=>K d
 | some (.p (.int _ i))=>0≤i∧K i.toNat
 | _=>False
def adD (P:Program) (T:TypeId) (H:Heap) (x:AV) (lo hi mx:Option AV) (K:Eff→Prop):Prop :=
 mx.isNone∧match x with
 | .p (.str s)=>abY P T=true∧aaK hi s.length fun h=>aaK lo 0 fun l=>h≤s.length∧l≤h∧K { v:=.p (.str ((s.take h).drop l)) }
 | .p .nsl=>(aax P T).isSome=true∧aaK hi 0 fun h=>aaK lo 0 fun l=>h≤0∧l≤h∧K { v:=x }
 | .p (.lst full es) => aaK hi es.length fun h => aaK lo 0 fun l => h ≤ es.length ∧ l ≤ h ∧
     (match aax P T with
     | some sz=>abj P sz (es.map .p)∧K { v:=.p (.lst (full && h == es.length) ((es.take h).drop l)) }
     | none=>False)
 | .p (.seq es) => aaK hi es.length fun h => aaK lo 0 fun l => h ≤ es.length ∧ l ≤ h ∧
     (match aax P T with
     | some sz=>abj P sz (es.map .p)∧K { v:=.p (.seq ((es.take h).drop l)) }
     | none=>False)
 | .sl b ver esz off len=>match H[b]? with
  | some (.arr k ver' esz' es)=>ver=ver'∧esz=esz'∧aax P T=some esz∧¬ (k.gr=true∧es=[])∧off+len≤es.length ∧
   aaK hi len fun h=>aaK lo 0 fun l=>off+h≤es.length∧l≤h ∧
    (if l=0 then K { v:=.sl b ver esz off h,hin:=[(b,.arr k ver' esz' es)] }
    else if l=h then K { v:=.p (.lst false []),hin:=[(b,.arr k ver' esz' es)] }
    else K { v:=.sl b ver esz (off+l) (h - l),hin:=[(b,.arr k ver' esz' es)] })
  | _=>False
 | _=>False
def adE (P:Program) (T:TypeId) (H:Heap) (x:AV) (lo hi:Option AV) (m:AV) (K:Eff→Prop):Prop :=
 match x with
 | .sl b ver esz off len=>match H[b]? with
  | some (.arr k ver' esz' es)=>ver=ver'∧esz=esz'∧(aax P T).isSome=true∧¬ (k.gr=true∧es=[])∧off+len≤es.length∧hi.isSome=true ∧
   aaK hi len fun h=>aaK lo 0 fun l=>aaK (some m) 0 fun m=>off+m≤es.length∧h≤m∧l≤h∧K { v:=.p .undef,hin:=[(b,.arr k ver' esz' es)] }
  | _=>False
 | _=>False
def eqK (P:Program) (T:TypeId) (x k:PV):Option Bool:=match x with
 | .st u fs=>match eqT P 9 T (.st u fs) k,eqP (.st u fs) k with
  | some a,some b=>bif a == b then some a else none
  | _,_=>none
 | x=>eqP x k
def aaY (P:Program) (T:TypeId):List (PV×PV)→PV→Option (Option PV)
 | [],_=>some none
 | (k,v)::r,x=>match eqK P T x k with
  | some true=>some (some v)
  | some false=>aaY P T r x
  | none=>none
def aeq (P:Program) (T:TypeId) (es:List (PV×PV)) (x:PV):Option (Option PV):=match x with
 | .st u fs=>match aaY P T es (.st u fs) with
  | some none=>some none
  | _=>none
 | x=>aaY P T es x
def aa6:List (PV×PV)→PV→PV→List (PV×PV)
 | [],k,v=>[(k,v)]
 | (k',v')::r,k,v=>if eqP k k'=some true then (k,v)::r else (k',v')::aa6 r k v
def age (P:Program) (T:TypeId):Bool:=match P.underlying T with
 | some (.int _) | some .string | some .bool=>true
 | _=>false
def abb (P:Program) (T:TypeId):PV→Bool
 | .int k _=>match P.underlying T with
  | some (.int k')=>decide (k=k')
  | _=>false
 | .str _=>abY P T
 | .st u fs=>match P.underlying T with
  | some (.struct flds) => flds.toList.all (fun f => f.name != "_" && age P f.type) && (eqT P 9 T (.st u fs) (.st u fs)).isSome
  | _=>false
 | _=>false
def agU (P:Program) (T:TypeId):Option (TypeId×TypeId) :=
 match P.underlying T with
 | some (.map k e)=>some (k,e)
 | _=>none
def lenOf (H:Heap):AV→Option (Nat×List (Nat×Obj))
 | .p (.str s)=>some (s.length,[])
 | .p .nsl | .p .nmap=>some (0,[])
 | .p (.lst _ es) | .p (.seq es)=>some (es.length,[])
 | .p (.fmap es)=>some (es.length,[])
 | .sl b ver esz _off len=>match H[b]? with
  | some (.arr k ver' esz' es)=>if ver=ver'∧esz=esz' then some (len,[(b,.arr k ver' esz' es)]) else none
  | _=>none
 | .map b=>match H[b]? with
  | some (.map fz es)=>some (es.length,[(b,.map fz es)])
  | _=>none
 | _=>none
def adb (P:Program) (T:TypeId):AV→Bool
 | .p (.str _)=>abY P T
 | .p .nsl | .p (.lst _ _) | .p (.seq _) | .sl ..=>match P.underlying T with
  | some (.slice _)=>true
  | _=>false
 | .p .nmap | .p (.fmap _) | .map _=>match P.underlying T with
  | some (.map _ _)=>true
  | _=>false
 | _=>false
def awn (H:Heap):AV→Option (Nat×List (Nat×Obj))
 | .p .nsl=>some (0,[])
 | .p (.lst true es)=>some (es.length,[])
 | .sl b ver esz off _len=>match H[b]? with
  | some (.arr .exact ver' esz' es)=>if ver=ver'∧esz=esz'∧off≤es.length then some (es.length - off,[(b,.arr .exact ver' esz' es)]) else none
  | _=>none
 | _=>none
def bytesOf:List AV→Option (List Nat)
 | []=>some []
 | .p (.int .u8 c)::r=>if 0≤c∧c<256 then match bytesOf r with
  | some l=>some (c.toNat::l)
  | none=>none
  else none
 | _=>none
def ptrTo (P:Program) (T:TypeId):Option TypeId :=
 match P.underlying T with
 | some (.pointer e)=>some e
 | _=>none
def acO (k:IntKind) (isMax:Bool):List AV→Int→Option Int
 | [],a=>some a
 | .p (.int k' b)::r,a=>if k=k' then acO k isMax r (if isMax then (if b > a then b else a) else (if b<a then b else a)) else none
 | _,_=>none
def aaH (zs:List AV):List (Nat×AV)→List AV
 | []=>zs
 | (i,v)::r=>aaH (zs.set i v) r
def acM (P:Program) (l:List Nat):List (Nat×AV)→Prop
 | []=>True
 | (i,v)::r=>(∃ n,l[i]?=some n∧aah P (shpA v)=n∧shpA v≠.bad)∧acM P l r
def aaR (H:Heap):List AV→Option (List PV×List (Nat×Obj)×List (Nat×Obj))
 | []=>some ([],[],[])
 | .p v::r=>match aaR H r with
  | some (ps,hin,hset)=>some (v::ps,hin,hset)
  | none=>none
 | .ptr b []::r=>match H[b]?,aaR H r with
  | some (.box fz (.p t)),some (ps,hin,hset)=>some (.fptr t::ps,(b,.box fz (.p t))::hin,(b,.box true (.p t))::hset)
  | _,_=>none
 | _=>none
def afz (P:Program) (T:TypeId) (H:Heap) (a:AV) (K:Eff→Prop):Prop :=
 match a with
 | .ptr b path=>match H[b]? with
  | some (.box fz t)=>match subA t path with
   | some s=>kindOf P T=shpA s∧K { v:=s,hin:=[(b,.box fz t)] }
   | none=>False
  | _=>False
 | .eptr b ver esz i path=>match H[b]? with
  | some (.arr k ver' esz' es)=>ver=ver'∧esz=esz'∧∃ h:i<es.length,match subA (es[i]'h) path with
   | some s=>kindOf P T=shpA s∧K { v:=s,hin:=[(b,.arr k ver' esz' es)] }
   | none=>False
  | _=>False
 | .p (.fptr t)=>kindOf P T=shp t∧K { v:=.p t }
 | _=>False
def adC (P:Program) (T:TypeId) (H:Heap) (a x:AV) (K:Eff→Prop):Prop :=
 kindOf P T=shpA x∧shpA x≠.bad∧match a with
 | .ptr b path=>match H[b]? with
  | some (.box false t)=>match subA t path,setA t path x with
   | some s,some t'=>shpA s=shpA x∧K { v:=.p (.tup []),hin:=[(b,.box false t)],hset:=[(b,.box false t')] }
   | _,_=>False
  | _=>False
 | .eptr b ver esz i path=>match H[b]? with
  | some (.arr k ver' esz' es)=>ver=ver'∧esz=esz'∧k≠.frozen∧∃ h:i<es.length,match subA (es[i]'h) path,setA (es[i]'h) path x with
   | some s,some t'=>shpA s=shpA x∧K { v:=.p (.tup []),hin:=[(b,.arr k ver' esz' es)],hset:=[(b,.arr k ver' esz' (es.set i t'))] }
   | _,_=>False
  | _=>False
 | _=>False
def abt (P:Program) (T:TypeId):Option (TypeId×Nat) :=
 match kindOf P T,P.underlying T with
 | .agg u,some (.struct fs)=>some (u,fs.size)
 | _,_=>none
def arrT (P:Program) (T:TypeId):Option (TypeId×Nat) :=
 match kindOf P T,P.underlying T with
 | .agg u,some (.array n _)=>some (u,n)
 | _,_=>none
def abo (P:Program) (T:TypeId) (a:AV) (f:Nat) (K:Eff→Prop):Prop :=
 match abt P T with
 | some (u,n)=>f<n∧(match a with
  | .ptr b path=>K { v:=.ptr b (path ++ [(u,f)]) }
  | .eptr b ver esz i path=>K { v:=.eptr b ver esz i (path ++ [(u,f)]) }
  | .p (.fptr t)=>shp t=.agg u∧(match (flds t)[f]? with
   | some g=>K { v:=.p (.fptr g) }
   | none=>False)
  | _=>False)
 | _=>False
def abm (P:Program) (T:TypeId) (H:Heap) (x i:AV) (K:Eff→Prop):Prop :=
 match i with
 | .p (.int _ i)=>0≤i∧(match x with
  | .p (.lst _ es)=>∃ h:i.toNat<es.length,aax P T=some (aah P (shp (es[i.toNat]'h)))∧K { v:=.p (.fptr (es[i.toNat]'h)) }
  | .p (.seq es)=>∃ h:i.toNat<es.length,aax P T=some (aah P (shp (es[i.toNat]'h)))∧K { v:=.p (.fptr (es[i.toNat]'h)) }
  | .sl b ver esz off len=>aax P T=some esz∧i.toNat<len∧(match H[b]? with
   | some (.arr k ver' esz' es)=>ver=ver'∧esz=esz'∧¬ (k.gr=true∧es=[])∧K { v:=.eptr b ver esz (off+i.toNat) [],hin:=[(b,.arr k ver' esz' es)] }
   | _=>False)
  | .ptr b path=>(match arrT P T with
   | some (u,n)=>i.toNat<n∧K { v:=.ptr b (path ++ [(u,i.toNat)]) }
   | _=>False)
  | .eptr b ver esz j path=>(match arrT P T with
   | some (u,n)=>i.toNat<n∧K { v:=.eptr b ver esz j (path ++ [(u,i.toNat)]) }
   | _=>False)
  | .p (.fptr t)=>(match arrT P T with
   | some (u,n)=>shp t=.agg u∧i.toNat<n∧(match (flds t)[i.toNat]? with
    | some g=>K { v:=.p (.fptr g) }
    | none=>False)
   | _=>False)
  | _=>False)
 | _=>False
def ab7 (P:Program) (frz:FuncId→Bool) (o:Oper) (ρ:Operand→AV) (H:Heap) (K:Eff→Prop):Prop :=
 match o.op with
 | .move x | .assign x=>K { v:=ρ x }
 | .pick c a b=>match ρ c with
  | .p (.bool t)=>K { v:=if t then ρ a else ρ b }
  | _=>False
 | .alloc T=>match aaT P T with
  | some z=>kindOf P T=shp z∧shp z≠.bad∧bxB T (shp z)=true∧K { v:=.ptr H.length [],hnew:=[.box false (.p z)] }
  | none=>False
 | .box T x=>kindOf P T=shpA (ρ x)∧shpA (ρ x)≠.bad∧bxB T (shpA (ρ x))=true∧K { v:=.ptr H.length [],hnew:=[.box false (ρ x)] }
 | .build T parts=>match kindOf P T,aaT P T with
  | .agg u,some z=>(match szs P u with
   | some l=>shp z=.agg u∧acM P l (parts.toList.map fun (i,x)=>(i,ρ x))∧K { v:=mkSt u (aaH ((flds z).map .p) (parts.toList.map fun (i,x)=>(i,ρ x))) }
   | none=>False)
  | _,_=>False
 | .buildSlice T n parts=>match aax P T,aaT P (aay P T) with
  | some sz, some z => aah P (shp z) = sz ∧ n * sz ≤ 1000000 ∧ acM P (List.replicate n sz) (parts.toList.map fun (i, x) => (i, ρ x)) ∧
      K { v:=.sl H.length 0 sz 0 n,hnew:=[.arr .exact 0 sz (aaH (List.replicate n (.p z)) (parts.toList.map fun (i,x)=>(i,ρ x)))] }
  | _,_=>False
 | .load T a=>afz P T H (ρ a) K
 | .store T a x=>adC P T H (ρ a) (ρ x) K
 | .binOp op T x y _=>agu P op T (isC y) H (ρ x) (ρ y) (fun v=>K { v:=.p v,hin:=aas H (ρ x) })
 | .unOp op _ x=>match op,ρ x with
  | .not,.p (.bool b)=>K { v:=.p (.bool (!b)) }
  | .neg,.p (.int k n)=>K { v:=.p (.int k (k.wrap (0 - n))) }
  | .xor,.p (.int k n)=>K { v:=.p (.int k (k.wrap (BitVec.ofInt k.bits (if k.signed then -1 else k.max) ^^^ BitVec.ofInt k.bits n).toNat)) }
  | _,_=>False
 | .convert S D x=>match P.underlying S,P.underlying D,ρ x with
  | some _,some (.int k),.p (.int _ n)=>K { v:=.p (.int k (k.wrap n)) }
  | some _,some .string,.p (.str s)=>K { v:=.p (.str s) }
  | some (.slice e),some .string,.sl b ver esz off len=>(match H[b]? with
   | some (.arr k ver' esz' es)=>ver=ver'∧esz=esz'∧esz=1∧P.underlying e=some (.int .u8)∧0<len∧off+len≤es.length∧(match bytesOf ((es.drop off).take len) with
    | some l=>K { v:=.p (.str l),hin:=[(b,.arr k ver' esz' es)] }
    | none=>False)
   | _=>False)
  | _,_,_=>False
 | .extract t i=>match ρ t with
  | .p (.tup vs)=>(match vs[i]? with
   | some v=>K { v:=.p v }
   | none=>False)
  | .tup vs=>(match vs[i]? with
   | some v=>K { v }
   | none=>False)
  | _=>False
 | .fieldAddr T a f=>abo P T (ρ a) f K
 | .indexAddr T x i=>abm P T H (ρ x) (ρ i) K
 | .field T x f=>match kindOf P T,P.underlying T,ρ x with
  | .agg u,some (.struct _),.p t=>shp t=.agg u∧(match (flds t)[f]?,(aaX P u)[f]? with
   | some g,some F=>kindOf P F=shp g∧K { v:=.p g }
   | _,_=>False)
  | _,_,_=>False
 | .index T x i=>match ρ x,ρ i with
  | .p (.str s),.p (.int _ i)=>abY P T=true∧0≤i∧∃ h:i.toNat<s.length,K { v:=.p (.int .u8 (s[i.toNat]'h)) }
  | .p (.st u es),.p (.int _ i)=>(match arrT P T,(aaX P u)[i.toNat]?,es[i.toNat]? with
   | some (u',n),some F,some g=>u'=u∧0≤i∧i.toNat<n∧kindOf P F=shp g∧K { v:=.p g }
   | _,_,_=>False)
  | _,_=>False
 | .makeFunc (.func f) fi ca => if frz f then (match aaR H (fi.toList.map ρ), aaR H (ca.toList.map ρ) with
     | some (a,[],[]),some (b,hin,hset)=>K { v:=.p (.func f a b),hin,hset }
     | _,_=>False)
  else match allP (fi.toList.map ρ),allP (ca.toList.map ρ) with
   | some a,some b=>K { v:=.p (.func f a b) }
   | _,_=>K { v:=.func f (fi.toList.map ρ) (ca.toList.map ρ) }
 | .makeSlice T l c=>match aax P T,aaT P (aay P T),ρ l,ρ c with
  | some sz,some z,.p (.int .i64 l),.p (.int .i64 c)=>aah P (shp z)=sz∧0≤l∧l=c∧l≤maxL∧K { v:=.sl H.length 0 sz 0 l.toNat,hnew:=[.arr .exact 0 sz (List.replicate l.toNat (.p z))] }
  | _,_,_,_=>False
 | .slice T x lo hi mx=>match mx with
  | none=>adD P T H (ρ x) (lo.map ρ) (hi.map ρ) none K
  | some m=>adE P T H (ρ x) (lo.map ρ) (hi.map ρ) (ρ m) K
 | .makeMap _ none=>K { v:=.map H.length,hnew:=[.map false []] }
 | .lookup T x i ok=>match agU P T,ρ i with
  | some (KT,E),.p key=>(match aaT P E with
   | some z=>abb P KT key=true∧(match ρ x with
    | .p .nmap=>K { v:=.p (if ok then .tup [z,.bool false] else z) }
    | .p (.fmap es)=>(match aaY P KT es key with
     | some (some v)=>K { v:=.p (if ok then .tup [v,.bool true] else v) }
     | some none=>K { v:=.p (if ok then .tup [z,.bool false] else z) }
     | none=>False)
    | .map b=>(match H[b]? with
     | some (.map fz es)=>(match aaY P KT es key with
      | some (some v)=>K { v:=.p (if ok then .tup [v,.bool true] else v),hin:=[(b,.map fz es)] }
      | some none=>K { v:=.p (if ok then .tup [z,.bool false] else z),hin:=[(b,.map fz es)] }
      | none=>False)
     | _=>False)
    | _=>False)
   | none=>False)
  | _,_=>False
 | .mapUpdate T m k x | .insert T m k x=>match agU P T,ρ m,ρ k,ρ x with
  | some (KT,_),.map b,.p key,.p v=>abb P KT key=true∧(match H[b]? with
   | some (.map false es)=>(match aeq P KT es key with
    | some _=>K { v:=.p (.tup []),hin:=[(b,.map false es)],hset:=[(b,.map false (aa6 es key v))] }
    | none=>False)
   | _=>False)
  | _,_,_,_=>False
 | .range T x=>match ρ x with
  | .p (.str s)=>abY P T=true∧K { v:=.ptr H.length [],hnew:=[.siter s 0] }
  | _=>False
 | .next it true=>match ρ it with
  | .ptr b []=>(match H[b]? with
   | some (.siter s pos) => if pos < s.length then
       K { v:=.p (.tup [.bool true,.int .i64 pos,.int .i32 (Utf8.decode (toBA s) pos).1]),hin:=[(b,.siter s pos)],hset:=[(b,.siter s (pos+(Utf8.decode (toBA s) pos).2))] }
    else K { v:=.p (.tup [.bool false]),hin:=[(b,.siter s pos)] }
   | _=>False)
  | _=>False
 | .nilCheck x=>match ρ x with
  | .ptr _ _ | .eptr _ _ _ _ _ | .p (.fptr _)=>K { v:=ρ x }
  | _=>False
 | .call c=>match c.callee with
  | .builtin b=>let args:=c.args.toList.map ρ
   let T:=c.argTypes.getD 0 0
   (match b,args with
   | .len,[x]=>(match lenOf H x with
    | some (n,hin)=>adb P T x=true∧0<c.argTypes.size∧K { v:=.p (.int .i64 n),hin }
    | none=>False)
   | .append,[s,x]=>c.argTypes.size=2∧acC P T (c.argTypes.getD 1 0) H s x K
   | .min,.p (.int k a)::r=>(match acO k false r a with
    | some n=>K { v:=.p (.int k n) }
    | none=>False)
   | .max,.p (.int k a)::r=>(match acO k true r a with
    | some n=>K { v:=.p (.int k n) }
    | none=>False)
   | .copy,[d,x]=>(match aax P T,d,aa4 H x with
    | some sz,.sl b ver esz off len,some xs=>esz=sz∧abj P sz xs∧c.argTypes.size=2∧(match H[b]? with
     | some (.arr k ver' esz' es)=>ver=ver'∧esz=esz'∧k≠.frozen∧off+len≤es.length∧¬ (k.gr=true∧es=[]) ∧
      K { v:=.p (.int .i64 (min xs.length len:Nat)),hin:=(b,.arr k ver' esz' es)::aas H x,hset:=[(b,.arr k ver' esz' (es.take off ++ xs.take (min xs.length len) ++ es.drop (off+min xs.length len)))] }
     | _=>False)
    | _,_,_=>False)
   | .cap,[x]=>(match awn H x with
    | some (n,hin)=>adb P T x=true∧0<c.argTypes.size∧K { v:=.p (.int .i64 n),hin }
    | none=>False)
   | .clear,[x]=>(match x with
    | .p .nsl=>adb P T x=true∧0<c.argTypes.size∧K { v:=.p (.tup []) }
    | .sl b ver esz off len=>(match aax P T,aaT P (aay P T),H[b]? with
     | some sz,some z,some (.arr k ver' esz' es)=>ver=ver'∧esz=esz'∧esz=sz∧aah P (shp z)=sz∧k≠.frozen∧off+len≤es.length∧¬ (k.gr=true∧es=[])∧0<c.argTypes.size∧0<len ∧
      K { v:=.p (.tup []),hin:=[(b,.arr k ver' esz' es)],hset:=[(b,.arr k ver' esz' (es.take off ++ List.replicate len (.p z) ++ es.drop (off+len)))] }
     | _,_,_=>False)
    | _=>False)
   | .unsafeSliceData,[x]=>(match x with
    | .p .nsl=>K { v:=.p .nptr }
    | .sl b ver esz off len=>(match H[b]? with
     | some (.arr k ver' esz' es)=>ver=ver'∧esz=esz'∧((k.gr=true∧es=[]∧K { v:=.p .nptr,hin:=[(b,.arr k ver' esz' es)] })∨(0<len∧off+len≤es.length∧K { v:=.eptr b ver esz off [],hin:=[(b,.arr k ver' esz' es)] }))
     | _=>False)
    | _=>False)
   | .unsafeString,[x,.p (.int .i64 n)]=>(match x with
    | .p .nptr=>n=0∧c.argTypes.size=2∧K { v:=.p (.str []) }
    | .eptr b ver esz i []=>(match H[b]? with
     | some (.arr .bytes ver' esz' es)=>ver=ver'∧esz=esz'∧esz=1∧i=0∧0<n∧n.toNat≤es.length∧n≤9223372036854775807∧c.argTypes.size=2∧ptrTo P T=some Gl.u8∧P.cellsOf Gl.u8=1∧(match bytesOf (es.take n.toNat) with
      | some l=>K { v:=.p (.str l),hin:=[(b,.arr .bytes ver' esz' es)],hset:=[(b,.dead)] }
      | none=>False)
     | _=>False)
    | _=>False)
   | _,_=>False)
  | _=>False
 | _=>False
def newAt (base:Nat):List Obj→List (Nat×Obj)
 | []=>[]
 | o::r=>(base,o)::newAt (base+1) r
structure Post (P:Program) (Prot Imm:Nat→Prop) (w:World) (β:Bd) (H:Heap) (Imm':Nat→Prop) (w':World) (β':Bd) (H':Heap):Prop where
 imm:∀ k,Imm k→Imm' k
 fresh:∀ k,Imm' k→Imm k∨¬ Prot k
 ext:Ext Prot Imm w w'
 step:aaG β H β' H'
 rel:HRel P w' Imm' β' H' Prot
 inn:∀ x,InH H x→InH H' x
 loop:∀ b,aaN H b→aaN H' b
def Enters (P:Program) (f:FuncId):Prop:=∀ (args:Array Value) (w:World),(callFunc f args).run P w=.ok (.enter f args) w
def abp (P:Program) (f:FuncId) (H:Heap) (args:List AV) (H':Heap) (v:AV):Prop :=
 Enters P f∧∀ (w:World) (Imm Prot:Nat→Prop) (β:Bd) (cargs:List Value),HRel P w Imm β H Prot→AVVl P w Imm β H args cargs→aac (InH H) args →
  Calls P f cargs.toArray w fun e w'=>∃ cv β' Imm',e=.returned cv∧Post P Prot Imm w β H Imm' w' β' H'∧AVV P w' Imm' β' H' v cv∧aaa (InH H') v
def ad5 (P:Program) (b:Nat) (H:Heap) (args:List AV) (H':Heap) (v:AV):Prop :=
 aaN H b∧∀ (w:World) (Imm Prot:Nat→Prop) (β:Bd) (cargs:List Value),HRel P w Imm β H Prot→AVVl P w Imm β H args cargs→aac (InH H) args →
  ∃ f tmps assign body,(Instr.yield (β.blk b) cargs.toArray).run P w=.ok (.round (β.blk b) f tmps assign body) w ∧
   ∀ (caller:Frame) (rest:List Frame),∃ cv w' β' Imm',Steps P (lone (Frame.round (β.blk b) f tmps assign body .normal) (caller::rest) w) (lone (caller.finish cv) rest w') ∧
    Post P Prot Imm w β H Imm' w' β' H'∧AVV P w' Imm' β' H' v cv∧aaa (InH H') v
def aou (P:Program) (f:FuncId) (args:List AV) (base:Nat) (e:Eff):Prop :=
 Enters P f∧∀ (H:Heap) (w:World) (Imm Prot:Nat→Prop) (β:Bd) (cargs:List Value),HRel P w Imm β H Prot→AVVl P w Imm β H args cargs→aac (InH H) args →
  (∀ p∈e.hin,H[p.1]?=some p.2)→(∀ i,i<e.hnew.length→H[base+i]?=some .hole) →
  Calls P f cargs.toArray w fun x w'=>∃ cv β' Imm',x=.returned cv∧Post P Prot Imm w β H Imm' w' β' (aaj H (e.hset ++ newAt base e.hnew)) ∧
   AVV P w' Imm' β' (aaj H (e.hset ++ newAt base e.hnew)) e.v cv∧aaa (InH (aaj H (e.hset ++ newAt base e.hnew))) e.v
def ajR (P:Program) (b:Nat) (args:List AV) (base:Nat) (e:Eff):Prop :=
 ∀ (H:Heap) (w:World) (Imm Prot:Nat→Prop) (β:Bd) (cargs:List Value),HRel P w Imm β H Prot→AVVl P w Imm β H args cargs→aac (InH H) args →
  (∀ p∈e.hin,H[p.1]?=some p.2)→(∀ i,i<e.hnew.length→H[base+i]?=some .hole) →
  aaN H b∧∃ f tmps assign body,(Instr.yield (β.blk b) cargs.toArray).run P w=.ok (.round (β.blk b) f tmps assign body) w ∧
   ∀ (caller:Frame) (rest:List Frame),∃ cv w' β' Imm',Steps P (lone (Frame.round (β.blk b) f tmps assign body .normal) (caller::rest) w) (lone (caller.finish cv) rest w') ∧
    Post P Prot Imm w β H Imm' w' β' (aaj H (e.hset ++ newAt base e.hnew)) ∧
    AVV P w' Imm' β' (aaj H (e.hset ++ newAt base e.hnew)) e.v cv∧aaa (InH (aaj H (e.hset ++ newAt base e.hnew))) e.v
def auL (P:Program) (f:FuncId) (args:List AV) (hin:List (Nat×Obj)) (v:PV):Prop :=
 ∀ (H:Heap) (w:World) (Imm Prot:Nat→Prop) (β:Bd) (cargs:List Value),HRel P w Imm β H Prot→AVVl P w Imm β H args cargs→aac (InH H) args→(∀ p∈hin,H[p.1]?=some p.2) →
  ∃ cv,(callFunc f cargs.toArray).run P w=.ok (.value cv) w∧PVV P w Imm v cv
def amO (H:Heap) (e:Eff):Prop:=(∀ p∈e.hin,H[p.1]?=some p.2)∧(∀ p∈e.hset,p.1<H.length∧p.2≠.hole)
def aot (P:Program) (f:FuncId) (args:List PV) (v:PV):Prop :=
 Enters P f∧∀ (w:World) (Imm:Nat→Prop) (cargs:List Value),(∀ k,Imm k→k<w.heap.size)→aeX P w Imm→PVVl P w Imm args cargs →
  Calls P f cargs.toArray w fun e w'=>∃ cv,∃ Imm':Nat→Prop,e=.returned cv∧(∀ k,Imm k→Imm' k)∧(∀ k,Imm' k→Imm k∨w.heap.size≤k)∧(∀ k,Imm' k→k<w'.heap.size) ∧
   w.heap.size≤w'.heap.size∧(∀ k,k<w.heap.size→w'.heap[k]?=w.heap[k]?)∧(w'.os=w.os∧w'.output=w.output)∧PVV P w' Imm' v cv
def GoodX (P:Program) (f:FuncId) (args:List PV) (v:PV):Prop :=
 ∀ (w:World) (Imm:Nat→Prop) (cargs:List Value),PVVl P w Imm args cargs→∃ cv,(callFunc f cargs.toArray).run P w=.ok (.value cv) w∧PVV P w Imm v cv
def aab (P:Program) (f:FuncId) (args:List PV) (v:PV):Prop:=aot P f args v∨GoodX P f args v
def purA (H:Heap):AV→Option (PV×Heap)
 | .p v=>some (v,H)
 | .sl b ver esz off len=>match H[b]? with
  | some (.arr k ver' esz' es) =>
   if ver=ver'∧esz=esz'∧off+len≤es.length then
    if k.gr=true∧es=[] then some (.nsl,H) else
    match allP es with
    | some ps=>some (.lst (k == .exact && off+len == es.length) ((ps.drop off).take len),H.set b (.arr .frozen ver esz es))
    | none=>none
   else none
  | _=>none
 | .ptr b path=>match H[b]? with
  | some (.box _ (.p t))=>match subP t path with
   | some s=>some (.fptr s,H.set b (.box true (.p t)))
   | none=>none
  | _=>none
 | .map b=>match H[b]? with
  | some (.map _ es)=>some (.fmap es,H.set b (.map true es))
  | _=>none
 | _=>none
def purL (H:Heap):List AV→Option (List PV×Heap)
 | []=>some ([],H)
 | x::r=>match purA H x with
  | some (v,H1)=>match purL H1 r with
   | some (vs,H2)=>some (v::vs,H2)
   | none=>none
  | none=>none
def abM (P:Program) (draw:Bool) (f:FuncId) (args:List AV) (H:Heap) (K:AV→Heap→Prop):Prop :=
 (∃ vs v,args=vs.map .p∧aab P f vs v∧K (.p v) H) ∨
 (draw=false∧((∃ vs H1 v,purL H args=some (vs,H1)∧aab P f vs v∧K (.p v) H1)∨(∃ H' v,abp P f H args H' v∧K v H') ∨
  (∃ e,aou P f args H.length e∧amO H e∧K e.v (aaj H e.hset ++ e.hnew))∨(∃ hin v,auL P f args hin v∧(∀ p∈hin,H[p.1]?=some p.2)∧K (.p v) H)))
def opWP (P:Program) (frz:FuncId→Bool) (draw:Bool) (o:Oper) (K:St→Prop) (s:St):Prop :=
 match o.op with
 | .call { callee:=.value f,args,.. }=>(match ev s.env f with
  | .p (.func g fi ca)=>abM P draw g (fi.map .p ++ args.toList.map (ev s.env) ++ ca.map .p) s.heap (fun v H'=>K ⟨put o.dst v s.env,H'⟩)
  | .func g fi ca=>abM P draw g (fi ++ args.toList.map (ev s.env) ++ ca) s.heap (fun v H'=>K ⟨put o.dst v s.env,H'⟩)
  | .map b=>∃ H' v,ad5 P b s.heap (args.toList.map (ev s.env)) H' v∧K ⟨put o.dst v s.env,H'⟩
  | _=>False)
 | _=>ab7 P frz o (ev s.env) s.heap fun e=>K (e.app o.dst s)
def guardOf (ops:Array Oper) (j:Nat) (e:Env):AV :=
 match (ops[j]?).bind (·.dst) with
 | some d=>getE e d
 | none=>.p (.tup [])
def ac8 (P:Program) (frz:FuncId→Bool) (draw:Bool) (ops:Array Oper):List Oper→(St→Prop)→St→Prop
 | [],K,s=>K s
 | o::r,K,s=>match o.guard with
  | none=>opWP P frz draw o (ac8 P frz draw ops r K) s
  | some (j,want)=>match guardOf ops j s.env with
   | .p (.bool t)=>if t=want then opWP P frz draw o (ac8 P frz draw ops r K) s else ac8 P frz draw ops r K ⟨put o.dst (.p (.tup [])) s.env,s.heap⟩
   | .p (.tup [])=>ac8 P frz draw ops r K ⟨put o.dst (.p (.tup [])) s.env,s.heap⟩
   | _=>False
def aih:Obj→Option Obj
 | .box _ (.p t)=>some (.box true (.p t))
 | .arr k ver esz es=>if k.gr=true∧es=[] then none else match allP es with
  | some _=>some (.arr .frozen ver esz es)
  | none=>none
 | .map _ es=>some (.map true es)
 | _=>none
def purE (H:Heap):AV→Option (PV×List Nat)
 | .p v=>some (v,[])
 | .sl b ver esz off len=>match H[b]? with
  | some (.arr k ver' esz' es) =>
   if ver=ver'∧esz=esz'∧off+len≤es.length then
    if k.gr=true∧es=[] then none else
    match allP es with
    | some ps=>some (.lst (k == .exact && off+len == es.length) ((ps.drop off).take len),[b])
    | none=>none
   else none
  | _=>none
 | .ptr b path=>match H[b]? with
  | some (.box _ (.p t))=>match subP t path with
   | some s=>some (.fptr s,[b])
   | none=>none
  | _=>none
 | .map b=>match H[b]? with
  | some (.map _ es)=>some (.fmap es,[b])
  | _=>none
 | _=>none
def aj9 (H:Heap):List AV→Option (List PV×List Nat)
 | []=>some ([],[])
 | x::r=>match purE H x,aj9 H r with
  | some (v,bs),some (vs,cs)=>some (v::vs,bs ++ cs)
  | _,_=>none
def ad9 (H:Heap):List Nat→Option (List (Nat×Obj)×List (Nat×Obj))
 | []=>some ([],[])
 | b::r=>match H[b]?,ad9 H r with
  | some o,some (hin,hset)=>(match aih o with
   | some o'=>some ((b,o)::hin,(b,o')::hset)
   | none=>none)
  | _,_=>none
def adj (P:Program) (f:FuncId) (args:List AV) (H:Heap) (K:Eff→Prop):Prop :=
 (∃ vs v,args=vs.map .p∧aab P f vs v∧K { v:=.p v }) ∨
 (∃ vs bs hin hset v,aj9 H args=some (vs,bs)∧ad9 H bs=some (hin,hset)∧aab P f vs v∧K { v:=.p v,hin,hset }) ∨
 (∃ e,aou P f args H.length e∧amO H e∧K e) ∨
 (∃ hin v,auL P f args hin v∧(∀ p∈hin,H[p.1]?=some p.2)∧K { v:=.p v,hin })
def effD (P:Program) (frz:FuncId→Bool) (o:Oper) (s:St) (K:Eff→Prop):Prop :=
 match o.op with
 | .call { callee:=.value f,args,.. }=>(match ev s.env f with
  | .p (.func g fi ca)=>adj P g (fi.map .p ++ args.toList.map (ev s.env) ++ ca.map .p) s.heap K
  | .func g fi ca=>adj P g (fi ++ args.toList.map (ev s.env) ++ ca) s.heap K
  | .map b=>∃ e,ajR P b (args.toList.map (ev s.env)) s.heap.length e∧amO s.heap e∧K e
  | _=>False)
 | _=>ab7 P frz o (ev s.env) s.heap K
structure Touch where
 i:Nat
 rd:List Nat
 wr:List Nat
def adR (base:Nat):List Obj→List Nat
 | []=>[]
 | _::r=>base::adR (base+1) r
def aa7 (i base:Nat) (e:Eff):Touch:=⟨i,e.hin.map (·.1),e.hset.map (·.1) ++ adR base e.hnew⟩
def ac7 (i base:Nat) (e:Eff) (acc:List Touch):List Touch :=
 match e.hin,e.hset,e.hnew with
 | [],[],[]=>acc
 | _,_,_=>aa7 i base e::acc
def reach (ops:Array Oper):Nat→Nat→Nat→Bool
 | 0,_,_=>false
 | f+1,i,j=>match ops[j]? with
  | some o=>o.after.toList.any (fun e=>Region.binds .any e && e.on == i) || o.after.toList.any (fun e=>Region.binds .any e && decide (i<e.on) && reach ops f i e.on)
  | none=>false
def aeR (u t:Touch):Bool:=u.wr.any (fun b=>t.rd.contains b || t.wr.contains b) || u.rd.any (fun b=>t.wr.contains b)
def ab5 (ops:Array Oper):List Touch→Bool
 | []=>true
 | t::r=>r.all (fun u=>!aeR u t || reach ops ops.size u.i t.i) && ab5 ops r
def abu (P:Program) (frz:FuncId→Bool) (ops:Array Oper):List Oper→Nat→List Touch→(St→Prop)→St→Prop
 | [],_,acc,K,s=>ab5 ops acc=true∧K s
 | o::r,i,acc,K,s=>match o.guard with
  | none=>effD P frz o s fun e=>abu P frz ops r (i+1) (ac7 i s.heap.length e acc) K (e.app o.dst s)
  | some (j,want)=>match guardOf ops j s.env with
   | .p (.bool t)=>if t=want then effD P frz o s fun e=>abu P frz ops r (i+1) (ac7 i s.heap.length e acc) K (e.app o.dst s)
    else abu P frz ops r (i+1) acc K ⟨put o.dst (.p (.tup [])) s.env,s.heap⟩
   | .p (.tup [])=>abu P frz ops r (i+1) acc K ⟨put o.dst (.p (.tup [])) s.env,s.heap⟩
   | _=>False
inductive aan where | normal | exit (id:Nat) | ret
mutual
def GhV (T:Heap):PV→AV→Prop
 | .nsl,x=>x=.p .nsl∨match x with
  | .sl b ver _ off len=>ver=0∧off=0∧len=0∧∃ k z,T[b]?=some (.arr k 0 z [])∧k.gr=true
  | _=>False
 | .st u fs,x=>x=.p (.st u fs)∨match x with
  | .st u' gs=>u=u'∧GhVl T fs gs
  | _=>False
 | v,x=>x=.p v
def GhVl (T:Heap):List PV→List AV→Prop
 | [],gs=>gs=[]
 | v::vs,gs=>match gs with
  | g::gs=>GhV T v g∧GhVl T vs gs
  | []=>False
end
mutual
def Gh (T:Heap):AV→AV→Prop
 | .p v,x=>GhV T v x
 | .st u fs,x=>match x with
  | .st u' gs=>u=u'∧Ghl T fs gs
  | _=>False
 | a,x=>x=a
def Ghl (T:Heap):List AV→List AV→Prop
 | [],gs=>gs=[]
 | v::vs,gs=>match gs with
  | g::gs=>Gh T v g∧Ghl T vs gs
  | []=>False
end
structure agR (s t:St):Prop where
 env:∀ x,getE t.env x=getE s.env x∨getE t.env x=.p .undef∨Gh t.heap (getE s.env x) (getE t.env x)
 heap:∀ (b:Nat) (o:Obj),t.heap[b]?=some o→o=.hole∨s.heap[b]?=some o∨((s.heap[b]?=none∨s.heap[b]?=some .hole)∧∃ k z,o=.arr k 0 z []∧k.gr=true)∨(∃ v v',s.heap[b]?=some (.box false v)∧o=.box false v'∧Gh t.heap v v')
 erefs:∀ x,aaa (InH t.heap) (getE t.env x)
 hrefs:∀ (b:Nat) (o:Obj),t.heap[b]?=some o→o.refs (InH t.heap)
def aaD (N:Nat) (s t:St):Prop:=t=s∨(agR s t∧∀ b,b<N→t.heap[b]?=s.heap[b]?)
def agj (Q:aan→St→Prop) (j:Option Code) (s:St):Prop :=
 match j with
 | none=>Q .normal s
 | some (.exit id)=>Q (.exit id) s
 | some .ret=>Q .ret s
 | _=>False
def acZ (P:Program) (it:AV) (b:Nat) (H:Heap) (K:Heap→Prop):Prop :=
 match it with
 | .p (.func g fi ca)=>∃ H' v,abp P g H (fi.map .p ++ [.map b] ++ ca.map .p) H' v∧K H'
 | .func g fi ca=>∃ H' v,abp P g H (fi ++ [.map b] ++ ca) H' v∧K H'
 | _=>False
def acp (b:Nat) (env:Env) (Q:aan→St→Prop) (H:Heap):Prop :=
 match H[b]? with
 | some (.loop L)=>L.st≠.busy∧agj Q L.pending ⟨env,H.set b (.loop { L with st:=.exhausted })⟩
 | _=>False
abbrev Cx:=Nat×Nat
def aap (P:Program) (frz:FuncId→Bool) (q:Cx):Code→(aan→St→Prop)→St→Prop
 | .skip,Q,s | .label _,Q,s=>Q .normal s
 | .region _ ops draw,Q,s=>if draw then abu P frz ops ops.toList 0 [] (Q .normal) s else ac8 P frz false ops ops.toList (Q .normal) s
 | .seq a b,Q,s=>aap P frz q a (fun e s'=>match e with
  | .normal=>aap P frz q b Q s'
  | e=>Q e s') s
 | .cond c a b,Q,s=>match ev s.env c with
  | .p (.bool t)=>if t then aap P frz q a Q s else aap P frz q b Q s
  | _=>False
 | .block id b,Q,s=>aap P frz q b (fun e s'=>match e with
  | .exit i=>if i=id then Q .normal s' else Q (.exit i) s'
  | e=>Q e s') s
 | .scope b,Q,s=>aap P frz q b Q s
 | .loop b,Q,s=>∃ I:Nat→St→Prop,(∃ n t,aaD q.2 s t∧I n t)∧∀ n t,I n t→aap P frz q b (fun e s'=>match e with
  | .normal=>∃ m t',m<n∧aaD q.2 s' t'∧I m t'
  | e=>Q e s') t
 | .rangeFunc f ps a b,Q,s=>q.2≤s.heap.length∧∃ env':Env,(∀ x,getE env' x=getE s.env x)∧acZ P (ev s.env f) s.heap.length (s.heap ++ [.loop ⟨.ready,none,q.1,ps.toList,a,b,env'⟩]) (acp s.heap.length s.env Q)
 | .exit id,Q,s=>Q (.exit id) s
 | .ret,Q,s=>Q .ret s
 | _,_,_=>False
def fat (fr:Frame) (t:Array Value) (ds:List Deferred) (todo:List Item):Frame:={ fr with tmps:=t,defers:=ds,todo,mode:=.run }
section
variable {P:Program} {fr:Frame} {t:Array Value} {ds:List Deferred} {k:List Item} {cs:List Frame} {w:World}
def acb (t:Array Value):Operand→Value
 | .tmp x=>t.getD x undef
 | .const v=>v
 | .global g=>.pointer (some ⟨g,0,none⟩)
 | .func f=>.func (.func f) #[] #[]
theorem eval_eq (fr:Frame):fr.eval=acb fr.tmps:=by funext x; cases x <;> rfl
theorem st_skip:step P (lone (fat fr t ds (.code .skip::k)) cs w)=.next (lone (fat fr t ds k) cs w) :=
 step_lone_go (by simp [stepG,stepG.exec,fat])
theorem au1 {l:Nat}:step P (lone (fat fr t ds (.code (.label l)::k)) cs w)=.next (lone (fat fr t ds k) cs w) :=
 step_lone_go (by simp [stepG,stepG.exec,fat])
theorem aqq {id:Nat}:step P (lone (fat fr t ds (.inBlock id::k)) cs w)=.next (lone (fat fr t ds k) cs w) :=
 step_lone_go (by simp [stepG,stepG.exec,fat])
theorem aqp {b:Code}:step P (lone (fat fr t ds (.inScope b::k)) cs w)=.next (lone (fat fr t ds k) cs w) :=
 step_lone_go (by simp [stepG,stepG.exec,fat])
theorem arR {a b:Code}:step P (lone (fat fr t ds (.code (.seq a b)::k)) cs w)=.next (lone (fat fr t ds (.code a::.code b::k)) cs w) :=
 step_lone_go (by simp [stepG,stepG.exec,fat])
theorem st_cond {c : Operand} {x y : Code} {b : Bool} (h : acb t c = .bool b) :
    step P (lone (fat fr t ds (.code (.cond c x y)::k)) cs w)=.next (lone (fat fr t ds (.code (if b then x else y)::k)) cs w) :=
 step_lone_go (by simp [stepG,stepG.exec,fat,eval_eq,h])
theorem agY {id:Nat} {c:Code}:step P (lone (fat fr t ds (.code (.block id c)::k)) cs w)=.next (lone (fat fr t ds (.code c::.inBlock id::k)) cs w) :=
 step_lone_go (by simp [stepG,stepG.exec,fat])
theorem ajX {c:Code}:step P (lone (fat fr t ds (.code (.scope c)::k)) cs w)=.next (lone (fat fr t ds (.code c::.inScope c::k)) cs w) :=
 step_lone_go (by simp [stepG,stepG.exec,fat])
theorem st_loop {c:Code}:step P (lone (fat fr t ds (.code (.loop c)::k)) cs w)=.next (lone (fat fr t ds (.code c::.inLoop c::k)) cs w) :=
 step_lone_go (by simp [stepG,stepG.exec,fat])
theorem arT {c:Code}:step P (lone (fat fr t ds (.inLoop c::k)) cs w)=.next (lone (fat fr t ds (.code c::.inLoop c::k)) cs w) :=
 step_lone_go (by simp [stepG,stepG.exec,fat])
theorem st_exit {id:Nat} {k':List Item} (h:exitTo id k=some k'):step P (lone (fat fr t ds (.code (.exit id)::k)) cs w)=.next (lone (fat fr t ds k') cs w) :=
 step_lone_go (by simp [stepG,stepG.exec,fat,h])
theorem arS {id : Nat} {ops : Array Oper} :
    step P (lone (fat fr t ds (.code (.region id ops false)::k)) cs w)=.next (lone (fat fr t ds (.inRegion ops (List.range ops.size)::k)) cs w) :=
 step_lone_go (by simp [stepG,stepG.exec,fat])
theorem st_draw {id : Nat} {ops : Array Oper} :
    step P (lone (fat fr t ds (.code (.region id ops true)::k)) cs w) =
     .next (lone (fat fr t ds (.inRegion ops (Region.schedule (P.follows .mixedOrders) ops (w.tape w.drawn (.order fr.fn id)))::k)) cs { w with drawn:=w.drawn+1 }) :=
 step_lone_go (by simp [stepG,stepG.exec,fat,choose,Sem.run,Question.forced,Question.cut])
theorem agD {ops:Array Oper}:step P (lone (fat fr t ds (.inRegion ops []::k)) cs w)=.next (lone (fat fr t ds k) cs w) :=
 step_lone_go (by simp [stepG,stepG.exec,fat])
def putT (dst:Option Tmp) (v:Value) (t:Array Value):Array Value :=
 match dst with
 | some d=>t.setIfInBounds d v
 | none=>t
theorem abE {ops : Array Oper} {i : Nat} {r : List Nat} {o : Oper} (ho : ops[i]? = some o) (v : Value) :
    (fat fr t ds (.inRegion ops (i::r)::k)).finish v=fat fr (putT o.dst v t) ds (.inRegion ops r::k):=by
 cases hd:o.dst <;> simp [Frame.finish,fat,ho,hd,putT]
theorem ala {ops : Array Oper} {i : Nat} {r : List Nat} {o : Oper} (ho : ops[i]? = some o) (hw : Region.wanted o (yielded ops t) = false) :
    step P (lone (fat fr t ds (.inRegion ops (i::r)::k)) cs w)=.next (lone (fat fr (putT o.dst undef t) ds (.inRegion ops r::k)) cs w):=by
 rw [← abE ho];exact step_lone_go (by simp only [fat]; simp [stepG,stepG.exec,ho,hw])
theorem aqF {o : Oper} (hd : ∀ c, o.op ≠ .defer c) (r : Option Nat) (A : Nat → Call → GStep) (B : GStep) :
    (match r,o.op with
     | some l,.defer c=>A l c
     | _,_=>B)=B:=by
 cases r with
 | none=>rfl
 | some l=>cases h:o.op <;> first | rfl | exact absurd h (hd _)
theorem st_oper {ops : Array Oper} {i : Nat} {r : List Nat} {o : Oper} {fr : Frame} (ht : fr.todo = .inRegion ops (i :: r) :: k) (ho : ops[i]? = some o) (hd : ∀ c, o.op ≠ .defer c) :
    stepG.oper P true fr cs none w=stepG.apply P true fr cs none (execOp (acb fr.tmps) o) w:=by
 simp only [stepG.oper,Frame.oper?,ht,ho,eval_eq];exact aqF hd _ _ _
theorem aip {main : Bool} {ops : Array Oper} {i : Nat} {r : List Nat} {o : Oper} (ho : ops[i]? = some o) (hw : Region.wanted o (yielded ops t) = true) (hd : ∀ c, o.op ≠ .defer c) :
    stepG P main { frame:=fat fr t ds (.inRegion ops (i::r)::k),callers:=cs,status:=.running,dying:=none } w =
     stepG.apply P true (fat fr t ds (.inRegion ops (i::r)::k)) cs none (execOp (acb t) o) w:=by
 have h:=st_oper (P:=P) (cs:=cs) (w:=w) (fr:=fat fr t ds (.inRegion ops (i::r)::k)) rfl ho hd;simp only [fat] at h ⊢;simp [stepG,stepG.exec,ho,hw,h]
theorem acG {ops : Array Oper} {i : Nat} {r : List Nat} {o : Oper} {n : Next} {cv : Value} {w' : World} (ho : ops[i]? = some o) (hw : Region.wanted o (yielded ops t) = true)
    (hd:∀ c,o.op≠.defer c) (hr:(execOp (acb t) o).run P w=.ok n w') (hn:n=.value cv∨n=.skip∧cv=undef) :
    step P (lone (fat fr t ds (.inRegion ops (i::r)::k)) cs w)=.next (lone (fat fr (putT o.dst cv t) ds (.inRegion ops r::k)) cs w'):=by
 rw [← abE ho];refine step_lone_go ?_;rw [aip ho hw hd];rcases hn with rfl | ⟨rfl,rfl⟩ <;> simp [stepG.apply,hr,fat]
theorem ado {ops : Array Oper} {i : Nat} {r : List Nat} {o : Oper} {f : FuncId} {args : Array Value} {w' : World} (ho : ops[i]? = some o) (hw : Region.wanted o (yielded ops t) = true)
    (hd:∀ c,o.op≠.defer c) (hr:(execOp (acb t) o).run P w=.ok (.enter f args) w') :
    step P (lone (fat fr t ds (.inRegion ops (i::r)::k)) cs w)=.next (lone (Frame.enter P f args .normal) (fat fr t ds (.inRegion ops (i::r)::k)::cs) w'):=by
 refine step_lone_go ?_;rw [aip ho hw hd];simp [stepG.apply,hr,fat]
theorem ajj {ops : Array Oper} {i : Nat} {r : List Nat} {o : Oper} {l : Nat} {f : FuncId} {tmps : Array Value} {assign body : Code} {w' : World} (ho : ops[i]? = some o) (hw : Region.wanted o (yielded ops t) = true)
    (hd:∀ c,o.op≠.defer c) (hr:(execOp (acb t) o).run P w=.ok (.round l f tmps assign body) w') :
    step P (lone (fat fr t ds (.inRegion ops (i::r)::k)) cs w)=.next (lone (Frame.round l f tmps assign body .normal) (fat fr t ds (.inRegion ops (i::r)::k)::cs) w'):=by
 refine step_lone_go ?_;rw [aip ho hw hd];simp [stepG.apply,hr,fat]
end
end Go.Abs
namespace Go.Abs
variable [Gl]
mutual
theorem aaa.mono {S T:Nat×Nat→Prop} (h:∀ x,S x→T x):∀ v,aaa S v→aaa T v
 | .p _,_=>by simp [aaa]
 | .ptr b _,hv | .eptr b _ _ _ _,hv | .sl b _ _ _ _,hv | .map b,hv=>by simp only [aaa] at *; exact h _ hv
 | .func _ a b,hv=>by simp only [aaa] at *; exact ⟨aac.mono h a hv.1,aac.mono h b hv.2⟩
 | .st _ fs,hv=>by simp only [aaa] at *; exact aac.mono h fs hv
 | .tup vs,hv=>by simp only [aaa] at *; exact aac.mono h vs hv
theorem aac.mono {S T:Nat×Nat→Prop} (h:∀ x,S x→T x):∀ vs,aac S vs→aac T vs
 | [],_=>by simp [aac]
 | v::vs,hv=>by simp only [aac] at *; exact ⟨aaa.mono h v hv.1,aac.mono h vs hv.2⟩
end
structure SRel (P:Program) (n:Nat) (Prot Imm:Nat→Prop) (β:Bd) (s:St) (t:Array Value) (w:World):Prop where
 heap:HRel P w Imm β s.heap Prot
 env:∀ x,AVV P w Imm β s.heap (getE s.env x) (t.getD x undef)
 erefs:∀ x,aaa (InH s.heap) (getE s.env x)
 size:t.size=n
structure agQ (N:Nat) (β:Bd) (H:Heap) (β':Bd) (H':Heap):Prop where
 box:∀ b,b<N→InH H (b,0)→adi H' b→adi H b∧β'.blk b = β.blk b
 it:∀ b,b<N→InH H (b,0)→aeW H' b→aeW H b∧β'.blk b = β.blk b
 map:∀ b,b<N→InH H (b,0)→adh H' b→adh H b∧β'.blk b = β.blk b
 arr:∀ b ver esz k es,b<N→InH H (b,ver)→aaI H' b ver esz k es→∃ k0 es0,aaI H b ver esz k0 es0∧es0.length≤es.length∧(aam k es↔aam k0 es0)∧(¬ aam k es→β'.blk b = β.blk b∧β'.cap b = β.cap b)
 loop:∀ b,b<N→InH H (b,0)→aaN H' b→aaN H b∧β'.blk b = β.blk b
theorem aaG.n {N:Nat} {β:Bd} {H:Heap} {β':Bd} {H':Heap} (h:aaG β H β' H'):agQ N β H β' H' :=
 ⟨fun b _=>h.box b,fun b _=>h.it b,fun b _=>h.map b,fun b ver esz k es _=>h.arr b ver esz k es,fun b _=>h.loop b⟩
theorem agQ.full {β:Bd} {H:Heap} {β':Bd} {H':Heap} (h:agQ H.length β H β' H'):aaG β H β' H':=by
 have lt:∀ b v,InH H (b,v)→b<H.length:=fun b v ⟨o,ho,_⟩=>(List.getElem?_eq_some_iff.1 ho).1;exact ⟨fun b x=>h.box b (lt _ _ x) x,fun b x=>h.it b (lt _ _ x) x,fun b x=>h.map b (lt _ _ x) x,fun b ver esz k es x=>h.arr b ver esz k es (lt _ _ x) x,fun b x=>h.loop b (lt _ _ x) x⟩
theorem agQ.trans {N:Nat} {β β1 β2:Bd} {H H1 H2:Heap} (h:agQ N β H β1 H1) (hi:∀ x,x.1<N→InH H x→InH H1 x) (h':agQ N β1 H1 β2 H2):agQ N β H β2 H2:=by
 refine ⟨?_,?_,?_,?_,?_⟩
 · intro b hn hb hl;obtain ⟨a1,a2⟩:=h'.box b hn (hi (b,0) hn hb) hl;obtain ⟨b1,b2⟩:=h.box b hn hb a1;exact ⟨b1,a2.trans b2⟩
 · intro b hn hb hl;obtain ⟨a1,a2⟩:=h'.it b hn (hi (b,0) hn hb) hl;obtain ⟨b1,b2⟩:=h.it b hn hb a1;exact ⟨b1,a2.trans b2⟩
 · intro b hn hb hl;obtain ⟨a1,a2⟩:=h'.map b hn (hi (b,0) hn hb) hl;obtain ⟨b1,b2⟩:=h.map b hn hb a1;exact ⟨b1,a2.trans b2⟩
 · intro b ver esz k es hn hb hl;obtain ⟨k1,es1,a1,a2,a3,a4⟩:=h'.arr b ver esz k es hn (hi (b,ver) hn hb) hl;obtain ⟨k0,es0,b1,b2,b3,b4⟩:=h.arr b ver esz k1 es1 hn hb a1;refine ⟨k0,es0,b1,Nat.le_trans b2 a2,a3.trans b3,fun hn=>?_⟩;obtain ⟨c1,c2⟩:=a4 hn;obtain ⟨d1,d2⟩:=b4 (fun x=>hn (a3.2 x));exact ⟨c1.trans d1,c2.trans d2⟩
 · intro b hn hb hl;obtain ⟨a1,a2⟩:=h'.loop b hn (hi (b,0) hn hb) hl;obtain ⟨b1,b2⟩:=h.loop b hn hb a1;exact ⟨b1,a2.trans b2⟩
structure Adv (N:Nat) (Prot Imm:Nat→Prop) (w:World) (β:Bd) (H:Heap) (Prot' Imm':Nat→Prop) (w':World) (β':Bd) (H':Heap):Prop where
 prot:∀ k,Prot k→Prot' k
 imm:∀ k,Imm k→Imm' k
 fresh:∀ k,Imm' k→Imm k∨¬ Prot k
 ext:Ext Prot Imm w w'
 step:agQ N β H β' H'
 inn:∀ x,x.1<N→InH H x→InH H' x
 loop:∀ b,b<N→aaN H b→aaN H' b
theorem Adv.refl (N:Nat) (Prot Imm:Nat→Prop) (w:World) (β:Bd) (H:Heap):Adv N Prot Imm w β H Prot Imm w β H :=
 ⟨fun _ h=>h,fun _ h=>h,fun _ h=>.inl h,Ext.refl _ _ _,(aaG.refl _ _).n,fun _ _ h=>h,fun _ _ h=>h⟩
theorem Ext.trans {Prot Imm Prot' Imm':Nat→Prop} {w w1 w2:World} (hp:∀ k,Prot k→Prot' k) (hi:∀ k,Imm k→Imm' k) (h:Ext Prot Imm w w1) (h':Ext Prot' Imm' w1 w2):Ext Prot Imm w w2 :=
 ⟨Nat.le_trans h.size h'.size,fun k hk=>(h'.same k (hk.imp (hp k) (hi k))).trans (h.same k hk),h'.io.1.trans h.io.1,h'.io.2.trans h.io.2⟩
theorem Adv.trans {N:Nat} {Prot Imm Prot1 Imm1 Prot2 Imm2:Nat→Prop} {w w1 w2:World} {β β1 β2:Bd} {H H1 H2:Heap} (h:Adv N Prot Imm w β H Prot1 Imm1 w1 β1 H1) (h':Adv N Prot1 Imm1 w1 β1 H1 Prot2 Imm2 w2 β2 H2):Adv N Prot Imm w β H Prot2 Imm2 w2 β2 H2 :=
 ⟨fun k x=>h'.prot k (h.prot k x),fun k x=>h'.imm k (h.imm k x),fun k x=>(h'.fresh k x).elim (fun y=>h.fresh k y) (fun y=>.inr fun z=>y (h.prot k z)),h.ext.trans h.prot h.imm h'.ext,
  h.step.trans h.inn h'.step,fun x hn hx=>h'.inn x hn (h.inn x hn hx),fun b hn hb=>h'.loop b hn (h.loop b hn hb)⟩
theorem Post.adv {P:Program} {N:Nat} {Prot Imm Imm':Nat→Prop} {w w':World} {β β':Bd} {H H':Heap} (h:Post P Prot Imm w β H Imm' w' β' H'):Adv N Prot Imm w β H Prot Imm' w' β' H' :=
 ⟨fun _ x=>x,h.imm,h.fresh,h.ext,h.step.n,fun x _=>h.inn x,fun b _=>h.loop b⟩
section
variable {P:Program} {Prot Imm Imm':Nat→Prop} {w w':World} {β β':Bd} {H H':Heap}
theorem ORel.afr (hh:w'.heap=w.heap) {b:Nat} {o:Obj} (h:ORel P w Imm β H Prot b o) (hr:o.refs (InH H)):ORel P w' Imm β H Prot b o:=by
 have m1:=fun (v:AV) cs hv=>AVC.mono (P:=P) (w:=w) (w':=w') (Imm:=Imm) (Imm':=Imm) (β:=β) (β':=β) (H:=H) (H':=H) (fun _ x=>x) (fun k _=>by rw [hh]) (aaG.refl β H) v cs hv;have m2:=fun l (v:List AV) cs hv=>AVCl.mono (P:=P) (w:=w) (w':=w') (Imm:=Imm) (Imm':=Imm) (β:=β) (β':=β) (H:=H) (H':=H) (fun _ x=>x) (fun k _=>by rw [hh]) (aaG.refl β H) l v cs hv;have m3:=fun (es:List (PV×PV)) ents=>PVM.mono (P:=P) (w:=w) (w':=w') (Imm:=Imm) (Imm':=Imm) (fun _ x=>x) (fun k _=>by rw [hh]) es ents;cases o with
 | hole=>trivial
 | dead=>trivial
 | box fz t =>
  obtain ⟨cs,T,h1,h2,h3⟩:=h;exact ⟨cs,T,by rw [hh]; exact h1,m1 _ _ hr h2,h3⟩
 | arr k ver esz es =>
  rcases h with h | ⟨cs,T,css,rest,h1,h2,h3⟩
  · exact .inl h
  · exact .inr ⟨cs,T,css,rest,by rw [hh]; exact h1,m2 _ _ _ hr h2,h3⟩
 | map fz es =>
  obtain ⟨ents,clock,h1,h2,h3⟩:=h;exact ⟨ents,clock,by rw [hh]; exact h1,m3 _ _ h2,h3⟩
 | siter s pos =>
  obtain ⟨bs,h1,h2⟩:=h;exact ⟨bs,by rw [hh]; exact h1,h2⟩
 | loop L =>
  obtain ⟨tmps,defers,fn,h1,h2,h3,h4⟩:=h;exact ⟨tmps,defers,fn,by rw [hh]; exact h1,h2,fun x=>AVV.mono (fun _ x=>x) (fun _ _=>by rw [hh]) (aaG.refl _ _) _ _ (hr x) (h3 x),h4⟩
theorem HRel.afr (hh:w'.heap=w.heap) (h:HRel P w Imm β H Prot):HRel P w' Imm β H Prot :=
 ⟨fun b o ho=>(h.objs b o ho).afr hh (h.refs b o ho),h.inj,h.refs,fun k hk=>by rw [hh]; exact h.imm k hk,fun k hk=>by rw [hh]; exact h.prot k hk,h.glob.mono (fun _ x=>x) (fun _ _=>by rw [hh])⟩
theorem HRel.ada (h:HRel P w Imm β H Prot) {b:Nat} {o:Obj} (ho:H[b]?=some o) (hl:o.live):β.blk b<w.heap.size:=by
 have hr:=h.objs b o ho;cases o with
 | hole=>exact hl.elim
 | dead=>exact hl.elim
 | box fz t=>obtain ⟨cs,T,h1,_⟩:=hr; exact (Array.getElem?_eq_some_iff.1 h1).1
 | arr k ver esz es =>
  rcases hr with hr | ⟨cs,T,css,rest,h1,_⟩
  · exact (hl hr).elim
  · exact (Array.getElem?_eq_some_iff.1 h1).1
 | map fz es=>obtain ⟨ents,clock,h1,_⟩:=hr; exact (Array.getElem?_eq_some_iff.1 h1).1
 | siter s pos=>obtain ⟨bs,h1,_⟩:=hr; exact (Array.getElem?_eq_some_iff.1 h1).1
 | loop L=>obtain ⟨_,_,_,h1,_⟩:=hr; exact (Array.getElem?_eq_some_iff.1 h1).1
theorem Post.set {b : Nat} {o' : Obj} (hr : HRel P w Imm β H Prot) (hb : b < H.length) (hβ : ∀ x, x ≠ b → β'.blk x = β.blk x ∧ β'.cap x = β.cap x)
    (himm:∀ k,Imm k→Imm' k) (himm':∀ k,Imm' k→Imm k∨(k = β'.blk b∧o'.live)) (hlt:∀ k,Imm' k→k<w'.heap.size)
    (hsz:w.heap.size≤w'.heap.size) (hw:∀ k,(k≠β'.blk b∨¬ o'.live)→k<w.heap.size→w'.heap[k]?=w.heap[k]?)
    (hmut:o'.live→w.heap.size≤β'.blk b∨(β'.blk b = β.blk b∧(∃ o,H[b]?=some o∧o.live)∧((∀ k,k = β.blk b→w'.heap[k]?=w.heap[k]?)∨¬ Imm (β.blk b))∧¬ Prot (β.blk b)))
    (hst:aaG β H β' (H.set b o')) (ho':ORel P w' Imm' β' (H.set b o') Prot b o') (href:o'.refs (InH (H.set b o'))) (hnh:∀ (o:Obj) (v:Nat),H[b]?=some o→o.has v→o'.has v) (hlo:∀ L,H[b]?=some (.loop L)→∃ L',o'=.loop L') (hio:w'.os=w.os∧w'.output=w.output:=by exact ⟨rfl,rfl⟩) :
    Post P Prot Imm w β H Imm' w' β' (H.set b o'):=by
 have hne:∀ x o,x≠b→H[x]?=some o→o.live→¬ Imm (β.blk x)→o'.live→β.blk x≠β'.blk b:=by
  intro x o hx ho hl hni hl' he;rcases hmut hl' with h1 | ⟨h1,⟨o0,h2,h3⟩,_⟩
  · have:=hr.ada ho hl; omega
  · rw [h1] at he; exact hx (hr.inj x b o o0 ho h2 hl h3 hni he)
 have hprot':o'.live→¬ Prot (β'.blk b):=by
  intro hl hp;rcases hmut hl with h1 | ⟨h1,_,_,h2⟩
  · have:=hr.prot _ hp; omega
  · rw [h1] at hp; exact h2 hp
 have hsame:∀ k,Prot k∨Imm k→w'.heap[k]?=w.heap[k]?:=by
  intro k hk;have hkl:k<w.heap.size:=hk.elim (hr.prot k) (hr.imm k)
  by_cases hkb:k = β'.blk b
  · by_cases hl:o'.live
    · rcases hk with hk | hk
      · exact (hprot' hl (hkb▸hk)).elim
      · rcases hmut hl with h1 | ⟨h1,_,h2,_⟩
        · omega
        · rcases h2 with h2 | h2
          · exact h2 k (hkb.trans h1)
          · exact (h2 (by rw [← h1,← hkb]; exact hk)).elim
    · exact hw k (.inr hl) hkl
  · exact hw k (.inl hkb) hkl
 have hin:∀ x,InH H x→InH (H.set b o') x:=by
  rintro ⟨x,v⟩ ⟨o,ho,hn⟩
  by_cases hx:x=b
  · subst hx; exact ⟨o',by simp [List.getElem?_set_self hb],hnh o v ho hn⟩
  · exact ⟨o,by simp only; rw [List.getElem?_set_ne (Ne.symm hx)]; exact ho,hn⟩
 have hrefs:∀ v,aaa (InH H) v→aaa (InH (H.set b o')) v:=aaa.mono hin;refine ⟨himm,fun k hk=>(himm' k hk).imp id (fun (h:k = β'.blk b∧o'.live)=>h.1▸hprot' h.2),⟨hsz,hsame,hio⟩,hst,⟨?_,?_,?_,hlt,fun k hk=>Nat.lt_of_lt_of_le (hr.prot k hk) hsz,hr.glob.mono himm (fun k hk=>hsame k (.inr hk))⟩,hin,?_⟩
 · intro x o ho
   by_cases hx:x=b
   · subst hx;rw [List.getElem?_set_self hb] at ho;cases ho; exact ho'
   · rw [List.getElem?_set_ne (Ne.symm hx)] at ho;have hold:=hr.objs x o ho;have hre:=hr.refs x o ho;have hblk:=(hβ x hx).1;have hcap:=(hβ x hx).2;have hs:o.live→w'.heap[β'.blk x]?=w.heap[β.blk x]?:=by
      intro hl;rw [hblk]
      by_cases hni:Imm (β.blk x)
      · exact hsame _ (.inr hni)
      refine hw _ ?_ (hr.ada ho hl)
      by_cases hl':o'.live
      · exact .inl (hne x o hx ho hl hni hl')
      · exact .inr hl'
     have held:∀ fz,o.live→Held Imm β Prot fz x→Held Imm' β' Prot fz x:=by
      intro fz hl hh;unfold Held at hh ⊢;rw [hblk];cases fz with
      | true=>simp only [if_true] at hh ⊢; exact himm _ hh
      | false =>
       simp only [Bool.false_eq_true,if_false] at hh ⊢;refine ⟨fun h=>?_,hh.2⟩;rcases himm' _ h with h | ⟨h,hl'⟩
       · exact hh.1 h
       · exact hne x o hx ho hl hh.1 hl' h
     cases o with
     | hole=>trivial
     | dead=>trivial
     | box fz t =>
      obtain ⟨cs,T,h1,h2,h3,h4⟩:=hold;exact ⟨cs,T,(hs trivial).trans h1,AVC.mono himm (fun k hk=>hsame k (.inr hk)) hst _ _ hre h2,held _ trivial h3,h4⟩
     | arr k ver esz es =>
      rcases hold with hold | ⟨cs,T,css,rest,h1,h2,h3,h4,h5,h6,h7,h8⟩
      · exact .inl hold
      · by_cases hl:aam k es
        · exact .inl hl
        · refine .inr ⟨cs,T,css,rest,(hs hl).trans h1,AVCl.mono himm (fun k hk=>hsame k (.inr hk)) hst _ _ _ hre h2,h3,?_,?_,?_,held _ hl h7,h8⟩
          · rw [hcap]; exact h4
          · rw [hcap]; exact h5
          · rw [hcap]; exact h6
     | map fz es =>
      obtain ⟨ents,clock,h1,h2,h3⟩:=hold;exact ⟨ents,clock,(hs trivial).trans h1,PVM.mono himm (fun k hk=>hsame k (.inr hk)) _ _ h2,held _ trivial h3⟩
     | siter s pos =>
      obtain ⟨bs,h1,h2,h3⟩:=hold;exact ⟨bs,(hs trivial).trans h1,h2,held _ trivial h3⟩
     | loop L =>
      obtain ⟨tmps,defers,fn,h1,h2,h3,h4⟩:=hold;exact ⟨tmps,defers,fn,(hs trivial).trans h1,h2,fun x=>AVV.mono himm (fun k hk=>hsame k (.inr hk)) hst _ _ (hre x) (h3 x),held _ trivial h4⟩
 · intro x y o1 o2 h1 h2 l1 l2 hni he
   by_cases hx:x=b <;> by_cases hy:y=b
   · rw [hx,hy]
   · subst hx;rw [List.getElem?_set_self hb] at h1; cases h1;rw [List.getElem?_set_ne (Ne.symm hy)] at h2;rw [(hβ y hy).1] at he;exact (hne y o2 hy h2 l2 (fun hi=>hni (he▸himm _ hi)) l1 he.symm).elim
   · subst hy;rw [List.getElem?_set_self hb] at h2; cases h2;rw [List.getElem?_set_ne (Ne.symm hx)] at h1;rw [(hβ x hx).1] at he;rw [(hβ x hx).1] at hni;exact (hne x o1 hx h1 l1 (fun hi=>hni (himm _ hi)) l2 he).elim
   · rw [List.getElem?_set_ne (Ne.symm hx)] at h1;rw [List.getElem?_set_ne (Ne.symm hy)] at h2;rw [(hβ x hx).1,(hβ y hy).1] at he;rw [(hβ x hx).1] at hni;exact hr.inj x y o1 o2 h1 h2 l1 l2 (fun hi=>hni (himm _ hi)) he
 · intro x o ho
   by_cases hx:x=b
   · subst hx;rw [List.getElem?_set_self hb] at ho;cases ho; exact href
   · rw [List.getElem?_set_ne (Ne.symm hx)] at ho;have:=hr.refs x o ho;cases o with
     | box fz t=>exact hrefs _ this
     | arr k ver esz es=>exact aag.2 fun v hv=>hrefs v (aag.1 this v hv)
     | loop L=>exact fun x=>hrefs _ (this x)
     | _=>trivial
 · rintro x ⟨L,hL⟩
   by_cases hx:x=b
   · subst hx;obtain ⟨L',rfl⟩:=hlo L hL;exact ⟨L',List.getElem?_set_self hb⟩
   · exact ⟨L,by rw [List.getElem?_set_ne (Ne.symm hx)]; exact hL⟩
end
end Go.Abs
namespace Go.Abs
variable [Gl]
def aae (P:Program) (o:Oper) (ρ:Operand→AV) (base:Nat) (e:Eff):Prop :=
 ∀ (H:Heap) (w:World) (Imm Prot:Nat→Prop) (β:Bd) (ρc:Operand→Value),
  HRel P w Imm β H Prot→(∀ x∈o.op.operands,AVV P w Imm β H (ρ x) (ρc x)∧aaa (InH H) (ρ x))→(∀ p∈e.hin,H[p.1]?=some p.2)→(∀ i,i<e.hnew.length→H[base+i]?=some .hole) →
  ∃ n cv w' β' Imm',(execOp ρc o).run P w=.ok n w'∧(n=.value cv∨n=.skip∧cv=undef) ∧
   Post P Prot Imm w β H Imm' w' β' (aaj H (e.hset ++ newAt base e.hnew))∧AVV P w' Imm' β' (aaj H (e.hset ++ newAt base e.hnew)) e.v cv ∧
   aaa (InH (aaj H (e.hset ++ newAt base e.hnew))) e.v
section
variable {P:Program} {Prot Imm Imm':Nat→Prop} {w w':World} {β β':Bd} {H H':Heap}
theorem Post.refl (h:HRel P w Imm β H Prot):Post P Prot Imm w β H Imm w β H :=
 ⟨fun _ x=>x,fun _ x=>.inl x,Ext.refl _ _ _,aaG.refl _ _,h,fun _ x=>x,fun _ x=>x⟩
theorem aae.same {o : Oper} {ρ : Operand → AV} {base : Nat} {v : AV} {hin : List (Nat × Obj)}
    (h:∀ (H:Heap) (w:World) (Imm Prot:Nat→Prop) (β:Bd) (ρc:Operand→Value),HRel P w Imm β H Prot→(∀ x∈o.op.operands,AVV P w Imm β H (ρ x) (ρc x)∧aaa (InH H) (ρ x)) →
     (∀ p∈hin,H[p.1]?=some p.2)→∃ cv,(execOp ρc o).run P w=.ok (.value cv) w∧AVV P w Imm β H v cv∧aaa (InH H) v) :
    aae P o ρ base { v,hin }:=by
 intro H w Imm Prot β ρc hr hρ hin' _;obtain ⟨cv,h1,h2,h3⟩:=h H w Imm Prot β ρc hr hρ hin';exact ⟨_,cv,w,β,Imm,h1,.inl rfl,by simpa [newAt,aaj] using Post.refl hr,by simpa [newAt,aaj] using h2,by simpa [newAt,aaj] using h3⟩
theorem Post.trans {Imm1 Imm2:Nat→Prop} {w1 w2:World} {β1 β2:Bd} {H1 H2:Heap} (h:Post P Prot Imm w β H Imm1 w1 β1 H1) (h':Post P Prot Imm1 w1 β1 H1 Imm2 w2 β2 H2):Post P Prot Imm w β H Imm2 w2 β2 H2:=by
 refine ⟨fun k x=>h'.imm k (h.imm k x),fun k x=>(h'.fresh k x).elim (h.fresh k) .inr,h.ext.trans (fun _ x=>x) h.imm h'.ext,⟨?_,?_,?_,?_,?_⟩,h'.rel,fun b hb=>h'.inn b (h.inn _ hb),fun b hb=>h'.loop b (h.loop b hb)⟩
 · intro b hb hl;obtain ⟨a1,a2⟩:=h'.step.box b (h.inn _ hb) hl;obtain ⟨b1,b2⟩:=h.step.box b hb a1;exact ⟨b1,a2.trans b2⟩
 · intro b hb hl;obtain ⟨a1,a2⟩:=h'.step.it b (h.inn _ hb) hl;obtain ⟨b1,b2⟩:=h.step.it b hb a1;exact ⟨b1,a2.trans b2⟩
 · intro b hb hl;obtain ⟨a1,a2⟩:=h'.step.map b (h.inn _ hb) hl;obtain ⟨b1,b2⟩:=h.step.map b hb a1;exact ⟨b1,a2.trans b2⟩
 · intro b ver esz k es hb hl;obtain ⟨k1,es1,a1,a2,a3,a4⟩:=h'.step.arr b ver esz k es (h.inn _ hb) hl;obtain ⟨k0,es0,b1,b2,b3,b4⟩:=h.step.arr b ver esz k1 es1 hb a1;refine ⟨k0,es0,b1,Nat.le_trans b2 a2,a3.trans b3,fun hn=>?_⟩;obtain ⟨c1,c2⟩:=a4 hn;obtain ⟨d1,d2⟩:=b4 (fun x=>hn (a3.2 x));exact ⟨c1.trans d1,c2.trans d2⟩
 · intro b hb hl;obtain ⟨a1,a2⟩:=h'.step.loop b (h.inn _ hb) hl;obtain ⟨b1,b2⟩:=h.step.loop b hb a1;exact ⟨b1,a2.trans b2⟩
theorem adG (H:Heap) (l r:List (Nat×Obj)):aaj H (l ++ r)=aaj (aaj H l) r:=by
 induction l generalizing H with
 | nil=>rfl
 | cons p l ih=>obtain ⟨b,o⟩:=p; simp [aaj,ih]
theorem aa1 (H:Heap) (l:List (Nat×Obj)):(aaj H l).length=H.length:=by
 induction l generalizing H with
 | nil=>rfl
 | cons p l ih=>obtain ⟨b,o⟩:=p; simp [aaj,ih]
theorem adF (H T:Heap) (l:List (Nat×Obj)) (h:∀ p∈l,p.1<H.length):aaj (H ++ T) l=aaj H l ++ T:=by
 induction l generalizing H with
 | nil=>rfl
 | cons p l ih =>
  obtain ⟨b,o⟩:=p;have hb:b<H.length:=h (b,o) (by simp);simp only [aaj];rw [List.set_append_left _ _ hb,ih];intro q hq;rw [List.length_set];exact h q (by simp [hq])
theorem af5 (H:Heap) (l:List Obj):aaj (H ++ List.replicate l.length .hole) (newAt H.length l)=H ++ l:=by
 induction l generalizing H with
 | nil=>simp [newAt,aaj]
 | cons o l ih =>
  simp only [newAt,aaj,List.length_cons,List.replicate_succ];rw [List.set_append_right _ _ (Nat.le_refl _)];simp only [Nat.sub_self,List.set_cons_zero];have:=ih (H ++ [o]);simp only [List.length_append,List.length_singleton,List.append_assoc,List.singleton_append] at this;exact this
theorem aaC (H:Heap) (m b:Nat):(H ++ List.replicate m Obj.hole)[b]?=if b<H.length then H[b]? else if b<H.length+m then some .hole else none:=by
 by_cases h:b<H.length
 · simp [h,List.getElem?_append_left]
 · rw [List.getElem?_append_right (by omega)];simp only [List.getElem?_replicate,h,if_false]
   by_cases h2:b<H.length+m
   · simp [h2,show b - H.length<m by omega]
   · simp [h2,show ¬ (b - H.length<m) by omega]
theorem abD {H:Heap} {m b:Nat} {o:Obj} (h:(H ++ List.replicate m Obj.hole)[b]?=some o):H[b]?=some o∨o=.hole:=by
 rw [aaC] at h
 split at h
 · exact .inl h
 · split at h
   · exact .inr (by simpa using h.symm)
   · simp at h
theorem acz (H:Heap) (m:Nat) (b:Nat×Nat) (h:InH H b):InH (H ++ List.replicate m Obj.hole) b:=by
 obtain ⟨o,ho,hn⟩:=h;have hb:b.1<H.length:=(List.getElem?_eq_some_iff.1 ho).1;exact ⟨o,by rw [aaC,if_pos hb]; exact ho,hn⟩
theorem ab8 (β:Bd) (H:Heap) (m:Nat):aaG β H β (H ++ List.replicate m .hole):=by
 refine ⟨?_,?_,?_,?_,?_⟩
 · rintro b _ ⟨fz,t,h⟩; rcases abD h with h | h <;> simp_all [adi]
 · rintro b _ ⟨fz,t,h⟩; rcases abD h with h | h <;> simp_all [aeW]
 · rintro b _ ⟨fz,t,h⟩; rcases abD h with h | h <;> simp_all [adh]
 · intro b ver esz k es _ h;rcases abD h with h | h
   · exact ⟨k,es,h,Nat.le_refl _,Iff.rfl,fun _=>⟨rfl,rfl⟩⟩
   · simp at h
 · rintro b _ ⟨L,h⟩; rcases abD h with h | h <;> simp_all [aaN]
theorem Obj.afu {S T:Nat×Nat→Prop} (h:∀ x,S x→T x):∀ {o:Obj},o.refs S→o.refs T
 | .box _ t,ho=>aaa.mono h t ho
 | .arr _ _ _ es,ho=>aac.mono h es ho
 | .loop _L,ho=>fun x=>aaa.mono h _ (ho x)
 | .hole,_ | .dead,_ | .map _ _,_ | .siter _ _,_=>trivial
theorem HRel.ama (m:Nat) (h:HRel P w Imm β H Prot):HRel P w Imm β (H ++ List.replicate m .hole) Prot:=by
 refine ⟨?_,?_,?_,h.imm,h.prot,h.glob⟩
 · intro b o ho;rcases abD ho with ho | rfl
   · have hold:=h.objs b o ho;have hre:=h.refs b o ho;have st:=ab8 β H m;cases o with
     | hole=>trivial
     | dead=>trivial
     | box fz t =>
      obtain ⟨cs,T,h1,h2,h3⟩:=hold;exact ⟨cs,T,h1,AVC.mono (fun _ x=>x) (fun _ _=>rfl) st _ _ hre h2,h3⟩
     | arr k ver esz es =>
      rcases hold with hold | ⟨cs,T,css,rest,h1,h2,h3⟩
      · exact .inl hold
      · exact .inr ⟨cs,T,css,rest,h1,AVCl.mono (fun _ x=>x) (fun _ _=>rfl) st _ _ _ hre h2,h3⟩
     | map fz es=>exact hold
     | siter s pos=>exact hold
     | loop L =>
      obtain ⟨tmps,defers,fn,h1,h2,h3,h4⟩:=hold;exact ⟨tmps,defers,fn,h1,h2,fun x=>AVV.mono (fun _ x=>x) (fun _ _=>rfl) st _ _ (hre x) (h3 x),h4⟩
   · trivial
 · intro x y o1 o2 h1 h2 l1 l2 hni he;rcases abD h1 with h1 | rfl
   · rcases abD h2 with h2 | rfl
     · exact h.inj x y o1 o2 h1 h2 l1 l2 hni he
     · exact l2.elim
   · exact l1.elim
 · intro b o ho;rcases abD ho with ho | rfl
   · exact Obj.afu (acz H m) (h.refs b o ho)
   · trivial
theorem aae.use {o : Oper} {ρ : Operand → AV} {e : Eff} (h : aae P o ρ H.length e) {ρc : Operand → Value} (hr : HRel P w Imm β H Prot)
    (hρ:∀ x∈o.op.operands,AVV P w Imm β H (ρ x) (ρc x)∧aaa (InH H) (ρ x)) (hin:∀ p∈e.hin,H[p.1]?=some p.2) (hset:∀ p∈e.hset,p.1<H.length) :
    ∃ n cv w' β' Imm',(execOp ρc o).run P w=.ok n w'∧(n=.value cv∨n=.skip∧cv=undef) ∧
     Post P Prot Imm w β H Imm' w' β' (aaj H e.hset ++ e.hnew)∧AVV P w' Imm' β' (aaj H e.hset ++ e.hnew) e.v cv∧aaa (InH (aaj H e.hset ++ e.hnew)) e.v:=by
 have hst:=ab8 β H e.hnew.length;obtain ⟨n,cv,w',β',Imm',h1,h2,h3,h4,h5⟩:=h (H ++ List.replicate e.hnew.length .hole) w Imm Prot β ρc (hr.ama _)
  (fun x hx=>⟨AVV.mono (fun _ x=>x) (fun _ _=>rfl) hst _ _ (hρ x hx).2 (hρ x hx).1,aaa.mono (acz _ _) _ (hρ x hx).2⟩)
  (fun p hp=>by have:=hin p hp; rw [aaC,if_pos (List.getElem?_eq_some_iff.1 this).1]; exact this)
  (fun i hi=>by rw [aaC,if_neg (by omega),if_pos (by omega)])
 have he:aaj (H ++ List.replicate e.hnew.length .hole) (e.hset ++ newAt H.length e.hnew)=aaj H e.hset ++ e.hnew:=by
  rw [adG,adF _ _ _ hset];have:=af5 (aaj H e.hset) e.hnew
  rwa [aa1] at this
 rw [he] at h3 h4 h5;refine ⟨n,cv,w',β',Imm',h1,h2,?_,h4,h5⟩;have h0:Post P Prot Imm w β H Imm w β (H ++ List.replicate e.hnew.length .hole):=⟨fun _ x=>x,fun _ x=>.inl x,Ext.refl _ _ _,hst,hr.ama _,acz _ _,fun b ⟨L,hL⟩=>⟨L,by rw [aaC,if_pos (List.getElem?_eq_some_iff.1 hL).1]; exact hL⟩⟩
 exact h0.trans h3
theorem aou.use {f : FuncId} {args : List AV} {e : Eff} (h : aou P f args H.length e) (hok : amO H e) {cargs : List Value} (hr : HRel P w Imm β H Prot) (ha : AVVl P w Imm β H args cargs) (hre : aac (InH H) args) :
    Calls P f cargs.toArray w fun x w'=>∃ cv β' Imm',x=.returned cv∧Post P Prot Imm w β H Imm' w' β' (aaj H e.hset ++ e.hnew)∧AVV P w' Imm' β' (aaj H e.hset ++ e.hnew) e.v cv∧aaa (InH (aaj H e.hset ++ e.hnew)) e.v:=by
 have hst:=ab8 β H e.hnew.length;refine (h.2 (H ++ List.replicate e.hnew.length .hole) w Imm Prot β cargs (hr.ama _)
  (AVVl.mono (fun _ x=>x) (fun _ _=>rfl) hst _ _ hre ha) (aac.mono (acz _ _) _ hre)
  (fun p hp=>by have:=hok.1 p hp; rw [aaC,if_pos (List.getElem?_eq_some_iff.1 this).1]; exact this)
  (fun i hi=>by rw [aaC,if_neg (by omega),if_pos (by omega)])).mono ?_
 rintro x w' ⟨cv,β',Imm',rfl,h3,h4,h5⟩;have he:aaj (H ++ List.replicate e.hnew.length .hole) (e.hset ++ newAt H.length e.hnew)=aaj H e.hset ++ e.hnew:=by
  rw [adG,adF _ _ _ (fun p hp=>(hok.2 p hp).1)];have:=af5 (aaj H e.hset) e.hnew
  rwa [aa1] at this
 rw [he] at h3 h4 h5;have h0:Post P Prot Imm w β H Imm w β (H ++ List.replicate e.hnew.length .hole):=⟨fun _ x=>x,fun _ x=>.inl x,Ext.refl _ _ _,hst,hr.ama _,acz _ _,fun b ⟨L,hL⟩=>⟨L,by rw [aaC,if_pos (List.getElem?_eq_some_iff.1 hL).1]; exact hL⟩⟩
 exact ⟨cv,β',Imm',rfl,h0.trans h3,h4,h5⟩
end
def ab2 (P:Program) (frz:FuncId→Bool):Prop :=
 ∀ (o:Oper) (ρ:Operand→AV) (H:Heap) (K:Eff→Prop),(∀ v,ρ (.const v)=.p (ofConst v))→ab7 P frz o ρ H K →
  ∃ e,K e∧aae P o ρ H.length e∧(∀ p∈e.hin,H[p.1]?=some p.2)∧(∀ p∈e.hset,p.1<H.length∧p.2≠.hole)
section
variable {P:Program} {frz:FuncId→Bool} {n:Nat}
theorem ahW {w:World} {Imm:Nat→Prop} (v:Value):PVV P w Imm (ofConst v) v:=by
 unfold ofConst
 split <;> simp [PVV]
theorem afG {Prot Imm : Nat → Prop} {β : Bd} {s : St} {t : Array Value} {w : World} (h : SRel P n Prot Imm β s t w) (x : Operand) :
    AVV P w Imm β s.heap (ev s.env x) (acb t x)∧aaa (InH s.heap) (ev s.env x):=by
 cases x with
 | tmp x=>exact ⟨h.env x,h.erefs x⟩
 | const v=>exact ⟨by simp only [ev,acb,AVV]; exact ahW v,by simp [ev,aaa]⟩
 | global g=>exact ⟨by simp only [ev,acb,AVV]; exact h.heap.glob.val g,by simp [ev,aaa]⟩
 | func f=>exact ⟨by simp [ev,acb,AVV,PVV,PVVl],by simp [ev,aaa]⟩
def aes (n:Nat) (o:Oper):Bool :=
 match o.dst with
 | some d=>decide (d<n)
 | none=>true
theorem afE (e:Env) (dst:Option Tmp) (v:AV) (x:Nat):getE (put dst v e) x=if dst=some x then v else getE e x:=by
 cases dst with
 | none=>simp [put]
 | some d =>
  simp only [put,getE,Option.some.injEq]
  by_cases h:x=d
  · simp [h]
  · simp [h,Ne.symm h]
theorem atx {n:Nat} {o:Oper} (ho:aes n o=true) {t:Array Value} (ht:t.size=n) (v:Value) (x:Nat):(putT o.dst v t).getD x undef=if o.dst=some x then v else t.getD x undef:=by
 unfold aes at ho;cases hd:o.dst with
 | none=>simp [putT]
 | some d =>
  simp only [hd,decide_eq_true_eq] at ho;simp only [putT,Option.some.injEq]
  by_cases h:d=x
  · subst h; simp [ht,ho]
  · simp only [h,if_false,Array.getD_eq_getD_getElem?,Array.getElem?_setIfInBounds_ne h]
theorem ast {t:Array Value} (dst:Option Tmp) (v:Value):(putT dst v t).size=t.size:=by cases dst <;> simp [putT]
theorem SRel.put {Prot Imm Imm' : Nat → Prop} {β β' : Bd} {s : St} {H' : Heap} {t : Array Value} {w w' : World} {o : Oper} {v : AV} {cv : Value} (h : SRel P n Prot Imm β s t w) (ho : aes n o = true)
    (hp:Post P Prot Imm w β s.heap Imm' w' β' H') (hv:AVV P w' Imm' β' H' v cv) (hr:aaa (InH H') v) :
    SRel P n Prot Imm' β' ⟨put o.dst v s.env,H'⟩ (putT o.dst cv t) w':=by
 refine ⟨hp.rel,fun x=>?_,fun x=>?_,by rw [ast]; exact h.size⟩
 · rw [afE,atx ho h.size]
   split
   · exact hv
   · exact AVV.mono hp.imm (fun k hk=>hp.ext.same k (.inr hk)) hp.step _ _ (h.erefs x) (h.env x)
 · rw [afE]
   split
   · exact hr
   · exact aaa.mono hp.inn _ (h.erefs x)
theorem amJ {H T:Heap} {b:Nat×Nat} (h:InH H b):InH (H ++ T) b:=by
 obtain ⟨o,ho,hn⟩:=h;exact ⟨o,by rw [List.getElem?_append_left (List.getElem?_eq_some_iff.1 ho).1]; exact ho,hn⟩
theorem HRel.later {Prot Imm Imm' : Nat → Prop} {w w' : World} {β : Bd} {H : Heap} (h : HRel P w Imm β H Prot) (himm : ∀ k, Imm k → Imm' k) (hf : ∀ k, Imm' k → Imm k ∨ w.heap.size ≤ k)
    (hlt:∀ k,Imm' k→k<w'.heap.size) (hsz:w.heap.size≤w'.heap.size) (hs:∀ k,k<w.heap.size→w'.heap[k]?=w.heap[k]?) (hio:w'.os=w.os∧w'.output=w.output:=by exact ⟨rfl,rfl⟩):Post P Prot Imm w β H Imm' w' β H:=by
 have same:∀ k,Imm k→w'.heap[k]?=w.heap[k]?:=fun k hk=>hs k (h.imm k hk);refine ⟨himm,fun k hk=>(hf k hk).imp id (fun h1 h2=>by have:=h.prot k h2; omega),⟨hsz,fun k hk=>hs k (hk.elim (h.prot k) (h.imm k)),hio⟩,aaG.refl _ _,?_,fun _ x=>x,fun _ x=>x⟩;refine ⟨fun b o ho=>?_,fun b b' o o' h1 h2 l1 l2 hni=>h.inj b b' o o' h1 h2 l1 l2 (fun hi=>hni (himm _ hi)),h.refs,hlt,fun k hk=>Nat.lt_of_lt_of_le (h.prot k hk) hsz,h.glob.mono himm same⟩;have hold:=h.objs b o ho;have hre:=h.refs b o ho;have held:∀ fz,o.live→Held Imm β Prot fz b→Held Imm' β Prot fz b:=by
  intro fz hl hh;have:=h.ada ho hl;unfold Held at hh ⊢;cases fz with
  | true=>exact himm _ hh
  | false=>exact ⟨fun x=>(hf _ x).elim hh.1 (by omega),hh.2⟩
 have hb:o.live→w'.heap[β.blk b]?=w.heap[β.blk b]?:=fun hl=>hs _ (h.ada ho hl);cases o with
 | hole=>trivial
 | dead=>trivial
 | box fz t =>
  obtain ⟨cs,T,h1,h2,h3,h4⟩:=hold;exact ⟨cs,T,(hb trivial).trans h1,AVC.mono himm same (aaG.refl _ _) _ _ hre h2,held _ trivial h3,h4⟩
 | arr k ver esz es =>
  rcases hold with hold | ⟨cs,T,css,rest,h1,h2,h3,h4,h5,h6,h7,h8⟩
  · exact .inl hold
  · by_cases hl:aam k es
    · exact .inl hl
    · exact .inr ⟨cs,T,css,rest,(hb hl).trans h1,AVCl.mono himm same (aaG.refl _ _) _ _ _ hre h2,h3,h4,h5,h6,held _ hl h7,h8⟩
 | map fz es =>
  obtain ⟨ents,clock,h1,h2,h3⟩:=hold;exact ⟨ents,clock,(hb trivial).trans h1,PVM.mono himm same _ _ h2,held _ trivial h3⟩
 | siter s pos =>
  obtain ⟨bs,h1,h2,h3⟩:=hold;exact ⟨bs,(hb trivial).trans h1,h2,held _ trivial h3⟩
 | loop L =>
  obtain ⟨tmps,defers,fn,h1,h2,h3,h4⟩:=hold;exact ⟨tmps,defers,fn,(hb trivial).trans h1,h2,fun x=>AVV.mono himm same (aaG.refl _ _) _ _ (hre x) (h3 x),held _ trivial h4⟩
theorem abS {w:World} {Imm:Nat→Prop} {β:Bd} {H:Heap}:∀ {a b:List AV} {x y:List Value},AVVl P w Imm β H a x→AVVl P w Imm β H b y→AVVl P w Imm β H (a ++ b) (x ++ y)
 | [],b,x,y,h,h'=>by simp only [AVVl] at h; subst h; simpa using h'
 | v::a,b,x,y,h,h'=>by
  simp only [AVVl] at h;obtain ⟨z,zs,rfl,h1,h2⟩:=h;simp only [List.cons_append,AVVl];exact ⟨z,zs ++ y,rfl,h1,abS h2 h'⟩
theorem aav {S:Nat×Nat→Prop} {a b:List AV} (h:aac S a) (h':aac S b):aac S (a ++ b):=by
 rw [aag] at *;intro v hv;rcases List.mem_append.1 hv with hv | hv
 · exact h v hv
 · exact h' v hv
theorem afT {Prot Imm : Nat → Prop} {β : Bd} {s : St} {t : Array Value} {w : World} (h : SRel P n Prot Imm β s t w) : ∀ l : List Operand,
    AVVl P w Imm β s.heap (l.map (ev s.env)) (l.map (acb t))∧aac (InH s.heap) (l.map (ev s.env))
 | []=>by simp [AVVl,aac]
 | x::l=>by
  have h1:=afG h x;have h2:=afT h l;simp only [List.map_cons,AVVl,aac];exact ⟨⟨_,_,rfl,h1.1,h2.1⟩,h1.2,h2.2⟩
end
section
variable {P:Program} {w:World} {Imm Prot:Nat→Prop} {β:Bd} {H:Heap}
def Bd.at (β:Bd) (b blk cap:Nat):Bd:=⟨fun x=>if x=b then blk else β.blk x,fun x=>if x=b then cap else β.cap x⟩
theorem ag5 {base:Nat} (hb:H[base]?=some .hole) (o':Obj) (blk cap:Nat):aaG β H (β.at base blk cap) (H.set base o'):=by
 have hne:∀ {x v},InH H (x,v)→x≠base:=by
  rintro x v ⟨o,ho,hn⟩ rfl;simp only at ho;rw [hb] at ho; cases ho; exact hn
 have ge:∀ {x v},InH H (x,v)→(H.set base o')[x]?=H[x]?:=fun hx=>List.getElem?_set_ne (Ne.symm (hne hx));refine ⟨?_,?_,?_,?_,?_⟩
 · rintro x hx ⟨fz,t,h⟩; rw [ge hx] at h; exact ⟨⟨fz,t,h⟩,by simp [Bd.at,hne hx]⟩
 · rintro x hx ⟨fz,t,h⟩; rw [ge hx] at h; exact ⟨⟨fz,t,h⟩,by simp [Bd.at,hne hx]⟩
 · rintro x hx ⟨fz,t,h⟩; rw [ge hx] at h; exact ⟨⟨fz,t,h⟩,by simp [Bd.at,hne hx]⟩
 · intro x ver esz k es hx h;unfold aaI at h; rw [ge hx] at h;exact ⟨k,es,h,Nat.le_refl _,Iff.rfl,fun _=>by simp [Bd.at,hne hx]⟩
 · rintro x hx ⟨L,h⟩; rw [ge hx] at h; exact ⟨⟨L,h⟩,by simp [Bd.at,hne hx]⟩
theorem aeG (hr : HRel P w Imm β H Prot) {base : Nat} (hb : H[base]? = some .hole) {ob : Go.Obj} {o' : Obj} {cap : Nat}
    (ho':ORel P { w with heap:=w.heap.push ob } Imm (β.at base w.heap.size cap) (H.set base o') Prot base o') (href:o'.refs (InH (H.set base o'))) :
    Post P Prot Imm w β H Imm { w with heap:=w.heap.push ob } (β.at base w.heap.size cap) (H.set base o'):=by
 refine Post.set hr (List.getElem?_eq_some_iff.1 hb).1 (fun x hx=>by simp [Bd.at,hx]) (fun _ x=>x) (fun _ x=>.inl x) (fun k hk=>by have:=hr.imm k hk; simp; omega) (by simp)
  (fun k _ hk=>by simp [Array.getElem?_push,Nat.ne_of_lt hk]) (fun _=>.inl (by simp [Bd.at])) (ag5 hb _ _ _) ho' href (fun o1 v h1 h2=>by rw [hb] at h1; cases h1; exact h2.elim) (fun L hL=>by rw [hb] at hL; cases hL)
theorem aei (w:World) (ob:Go.Obj) {k:Nat} (hk:k<w.heap.size):({ w with heap:=w.heap.push ob }:World).heap[k]?=w.heap[k]?:=by
 simp [Array.getElem?_push,Nat.ne_of_lt hk]
end
section
variable {P:Program} {w:World} {Imm Imm' Prot:Nat→Prop} {β:Bd} {H:Heap}
def Row (P:Program) (w:World) (Imm:Nat→Prop) (β:Bd) (H:Heap) (esz:Nat) (es:List AV) (css:List (List Value)):Prop:=AVCl P w Imm β H (List.replicate es.length esz) es css
theorem abh {esz:Nat} {css:List (List Value)}:Row P w Imm β H esz [] css↔css=[]:=by simp [Row,AVCl]
theorem ad3 {esz:Nat} {v:AV} {es:List AV} {css:List (List Value)}:Row P w Imm β H esz (v::es) css↔∃ c cs,css=c::cs∧AVC P w Imm β H v c∧c.length=esz∧Row P w Imm β H esz es cs:=by
 simp [Row,List.replicate_succ,AVCl]
theorem aa0 {esz:Nat}:∀ {a b:List AV} {css:List (List Value)},Row P w Imm β H esz (a ++ b) css↔∃ c1 c2,css=c1 ++ c2∧Row P w Imm β H esz a c1∧Row P w Imm β H esz b c2
 | [],b,css=>by
  simp only [List.nil_append];constructor
  · intro h; exact ⟨[],css,rfl,abh.2 rfl,h⟩
  · rintro ⟨c1,c2,rfl,h1,h2⟩; rw [abh.1 h1]; simpa using h2
 | v::a,b,css=>by
  simp only [List.cons_append,ad3];constructor
  · rintro ⟨c,cs,rfl,h1,h2,h3⟩;obtain ⟨c1,c2,rfl,h4,h5⟩:=aa0.1 h3;exact ⟨c::c1,c2,rfl,⟨c,c1,rfl,h1,h2,h4⟩,h5⟩
  · rintro ⟨c1,c2,rfl,⟨c,cs,rfl,h1,h2,h3⟩,h4⟩;exact ⟨c,cs ++ c2,rfl,h1,h2,aa0.2 ⟨cs,c2,rfl,h3,h4⟩⟩
theorem aar {esz:Nat}:∀ {es:List AV} {css:List (List Value)},Row P w Imm β H esz es css→css.length=es.length∧css.flatten.length=es.length*esz
 | [],css,h=>by rw [abh] at h; subst h; simp
 | v::es,css,h=>by
  rw [ad3] at h;obtain ⟨c,cs,rfl,h1,h2,h3⟩:=h;have:=aar h3;simp only [List.length_cons,List.flatten_cons,List.length_append,this,h2,Nat.succ_mul];exact ⟨trivial,by omega⟩
theorem acS {esz:Nat} {es:List PV} {css:List (List Value)}:Row P w Imm β H esz (es.map .p) css↔PVCl P w Imm (List.replicate es.length esz) es css:=by
 unfold Row; rw [List.length_map]; exact acE
theorem ab1 {esz : Nat} {es : List AV} {css : List (List Value)} (h : Row P w Imm β H esz es css) (off len : Nat) (hl : off + len ≤ es.length) :
    ∃ a b c,css=a ++ b ++ c∧Row P w Imm β H esz ((es.drop off).take len) b∧a.flatten.length=off*esz∧Row P w Imm β H esz (es.take off) a∧Row P w Imm β H esz (es.drop (off+len)) c:=by
 have e1:es=es.take off ++ ((es.drop off).take len ++ es.drop (off+len)):=by
  rw [← List.drop_drop,List.take_append_drop,List.take_append_drop]
 rw [e1,aa0] at h;obtain ⟨a,r,rfl,h1,h2⟩:=h;rw [aa0] at h2;obtain ⟨b,c,rfl,h3,h4⟩:=h2;refine ⟨a,b,c,by simp,h3,?_,h1,h4⟩;have:=(aar h1).2;rw [this,List.length_take,Nat.min_eq_left (by omega)]
theorem abg {cs : Array Value} {T : TypeId} {fz : Nat × Nat} {blk : Nat} (hb : w.heap[blk]? = some (.cells cs T fz)) {pre xs post : List Value} (hc : cs.toList = pre ++ xs ++ post) :
    aa5 w blk pre.length xs:=by
 intro i hi;have:cs[pre.length+i]?=some xs[i]:=by
  rw [← Array.getElem?_toList,hc,List.append_assoc,List.getElem?_append_right (by omega)];simp only [Nat.add_sub_cancel_left];rw [List.getElem?_append_left hi,List.getElem?_eq_getElem hi]
 simp [World.cell?,hb,this]
theorem adX (ps:List PV) (off len:Nat):(((ps.map AV.p).drop off).take len)=((ps.drop off).take len).map .p:=by
 rw [← List.map_drop,← List.map_take]
theorem acU {H:Heap} {b:Nat} {o0 o:Obj} (ho:H[b]?=some o0) (hn:∀ v,o0.has v→o.has v):∀ x,InH H x→InH (H.set b o) x:=by
 rintro ⟨x,v⟩ ⟨ox,hox,h⟩
 by_cases hx:b=x
 · subst hx;simp only at hox;rw [ho] at hox; cases hox;exact ⟨o,by simp only; rw [List.getElem?_set_self (List.getElem?_eq_some_iff.1 ho).1],hn v h⟩
 · exact ⟨ox,by simp only; rw [List.getElem?_set_ne hx]; exact hox,h⟩
theorem ab9 {b : Nat} {o o' : Obj} (ho : H[b]? = some o) (hk : (∃ f g t, o = .box f t ∧ o' = .box g t) ∨ (∃ k k' v z es, o = .arr k v z es ∧ o' = .arr k' v z es ∧ ¬ aam k es ∧ ¬ aam k' es) ∨ (∃ f g es, o = .map f es ∧ o' = .map g es)) :
    aaG β H β (H.set b o'):=by
 have hb:b<H.length:=(List.getElem?_eq_some_iff.1 ho).1;have ge:∀ x,x≠b→(H.set b o')[x]?=H[x]?:=fun x hx=>List.getElem?_set_ne (Ne.symm hx);have gb:(H.set b o')[b]?=some o':=List.getElem?_set_self hb;refine ⟨?_,?_,?_,?_,?_⟩
 · rintro x _ ⟨fz,t,h⟩;refine ⟨?_,rfl⟩
   by_cases hx:x=b
   · subst hx; rw [gb] at h; cases h;rcases hk with ⟨f,g,t',h1,h2⟩ | ⟨_,_,_,_,_,_,h2,_⟩ | ⟨_,_,_,_,h2⟩
     · exact ⟨f,t',by rw [ho,h1]⟩
     · cases h2
     · cases h2
   · rw [ge x hx] at h; exact ⟨fz,t,h⟩
 · rintro x _ ⟨s,p,h⟩;refine ⟨?_,rfl⟩
   by_cases hx:x=b
   · subst hx; rw [gb] at h; cases h;rcases hk with ⟨f,g,t',h1,h2⟩ | ⟨_,_,_,_,_,_,h2,_⟩ | ⟨_,_,_,_,h2⟩ <;> cases h2
   · rw [ge x hx] at h; exact ⟨s,p,h⟩
 · rintro x _ ⟨fz,t,h⟩;refine ⟨?_,rfl⟩
   by_cases hx:x=b
   · subst hx; rw [gb] at h; cases h;rcases hk with ⟨f,g,t',h1,h2⟩ | ⟨_,_,_,_,_,_,h2,_⟩ | ⟨f,g,es,h1,h2⟩
     · cases h2
     · cases h2
     · exact ⟨f,es,by rw [ho,h1]⟩
   · rw [ge x hx] at h; exact ⟨fz,t,h⟩
 · intro x ver esz k es _ h
   by_cases hx:x=b
   · subst hx;unfold aaI at h ⊢;rw [gb] at h; cases h;rcases hk with ⟨f,g,t',h1,h2⟩ | ⟨k0,k',v,z,es',h1,h2,h3,h4⟩ | ⟨f,g,es,h1,h2⟩
     · cases h2
     · cases h2;exact ⟨k0,es,by rw [ho,h1],Nat.le_refl _,⟨fun x=>(h4 x).elim,fun x=>(h3 x).elim⟩,fun _=>⟨rfl,rfl⟩⟩
     · cases h2
   · unfold aaI at h ⊢;rw [ge x hx] at h; exact ⟨k,es,h,Nat.le_refl _,Iff.rfl,fun _=>⟨rfl,rfl⟩⟩
 · rintro x _ ⟨L,h⟩;refine ⟨?_,rfl⟩
   by_cases hx:x=b
   · subst hx; rw [gb] at h; cases h;rcases hk with ⟨f,g,t',h1,h2⟩ | ⟨_,_,_,_,_,_,h2,_⟩ | ⟨_,_,_,_,h2⟩ <;> cases h2
   · rw [ge x hx] at h; exact ⟨L,h⟩
theorem Held.aju {fz:Bool} {b:Nat} (h:Held Imm β Prot fz b):Imm (β.blk b)∨(¬ Imm (β.blk b)∧¬ Prot (β.blk b)):=by
 cases fz with
 | true=>exact .inl h
 | false=>exact .inr h
theorem aca (hr : HRel P w Imm β H Prot) {b : Nat} {o o' : Obj} (ho : H[b]? = some o) (hl : o.live) (hl' : o'.live) (hnh : ∀ v, o.has v → o'.has v) (hlo : ∀ L, o ≠ .loop L)
    (hst:aaG β H β (H.set b o')) (hfz:Imm (β.blk b)∨(¬ Imm (β.blk b)∧¬ Prot (β.blk b)))
    (hnew:∀ Imm':Nat→Prop,(∀ k,Imm k→Imm' k)→Imm' (β.blk b)→ORel P w Imm' β (H.set b o') Prot b o') (href:o'.refs (InH (H.set b o'))) :
    ∃ Imm',Post P Prot Imm w β H Imm' w β (H.set b o')∧Imm' (β.blk b):=by
 have hb:b<H.length:=(List.getElem?_eq_some_iff.1 ho).1
 by_cases hi:Imm (β.blk b)
 ·
  refine ⟨Imm,?_,hi⟩;have hin:=acU ho hnh;refine ⟨fun _ x=>x,fun _ x=>.inl x,Ext.refl _ _ _,hst,⟨?_,?_,?_,hr.imm,hr.prot,hr.glob⟩,hin,fun x ⟨L,hL⟩=>⟨L,by
   by_cases hx:b=x
   · subst hx; rw [ho] at hL; cases hL; exact (hlo L rfl).elim
   · rw [List.getElem?_set_ne hx]; exact hL⟩⟩
  · intro x ox hox
    by_cases hx:x=b
    · subst hx;rw [List.getElem?_set_self hb] at hox; cases hox;exact hnew Imm (fun _ x=>x) hi
    · rw [List.getElem?_set_ne (Ne.symm hx)] at hox;have hold:=hr.objs x ox hox;have hre:=hr.refs x ox hox;cases ox with
      | hole=>trivial
      | dead=>trivial
      | box fz t =>
       obtain ⟨cs,T,h1,h2,h3⟩:=hold;exact ⟨cs,T,h1,AVC.mono (fun _ x=>x) (fun _ _=>rfl) hst _ _ hre h2,h3⟩
      | arr k ver esz es =>
       rcases hold with hold | ⟨cs,T,css,rest,h1,h2,h3⟩
       · exact .inl hold
       · exact .inr ⟨cs,T,css,rest,h1,AVCl.mono (fun _ x=>x) (fun _ _=>rfl) hst _ _ _ hre h2,h3⟩
      | map fz es=>exact hold
      | siter s pos=>exact hold
      | loop L =>
       obtain ⟨tmps,defers,fn,h1,h2,h3,h4⟩:=hold;exact ⟨tmps,defers,fn,h1,h2,fun x=>AVV.mono (fun _ x=>x) (fun _ _=>rfl) hst _ _ (hre x) (h3 x),h4⟩
  · intro x y o1 o2 h1 h2 l1 l2 hni he;have conv:∀ (z:Nat) (oz:Obj),(H.set b o')[z]?=some oz→oz.live→∃ oz':Obj,H[z]?=some oz'∧oz'.live:=by
     intro z oz hz lz
     by_cases hzb:z=b
     · subst hzb; exact ⟨o,ho,hl⟩
     · rw [List.getElem?_set_ne (Ne.symm hzb)] at hz; exact ⟨oz,hz,lz⟩
    obtain ⟨a1,b1,c1⟩:=conv x o1 h1 l1;obtain ⟨a2,b2,c2⟩:=conv y o2 h2 l2;exact hr.inj x y a1 a2 b1 b2 c1 c2 hni he
  · intro x ox hox
    by_cases hx:x=b
    · subst hx;rw [List.getElem?_set_self hb] at hox; cases hox; exact href
    · rw [List.getElem?_set_ne (Ne.symm hx)] at hox;exact Obj.afu hin (hr.refs x ox hox)
 · refine ⟨fun k=>Imm k∨k = β.blk b,?_,.inr rfl⟩;have hp:=hfz.resolve_left hi;exact Post.set hr hb (fun _ _=>⟨rfl,rfl⟩) (fun _ x=>.inl x) (fun k hk=>hk.imp id (fun h=>⟨h,hl'⟩)) (fun k hk=>hk.elim (hr.imm k) (fun h=>h▸hr.ada ho hl)) (Nat.le_refl _)
    (fun _ _ _=>rfl) (fun _=>.inr ⟨rfl,⟨o,ho,hl⟩,.inl (fun _ _=>rfl),hp.2⟩) hst (hnew _ (fun _ x=>.inl x) (.inr rfl)) href (fun o1 v h1 h2=>by rw [ho] at h1; cases h1; exact hnh v h2) (fun L hL=>by rw [ho] at hL; cases hL; exact (hlo L rfl).elim)
theorem alo {av : AV} {pv : PV} {H1 : Heap} {v : Value} (hp : purA H av = some (pv, H1)) (hr : HRel P w Imm β H Prot) (hv : AVV P w Imm β H av v) (hre : aaa (InH H) av) :
    ∃ Imm',Post P Prot Imm w β H Imm' w β H1∧PVV P w Imm' pv v:=by
 cases av with
 | p t =>
  simp [purA] at hp;obtain ⟨rfl,rfl⟩:=hp;exact ⟨Imm,Post.refl hr,by simpa [AVV] using hv⟩
 | sl b ver esz off len =>
  simp only [purA] at hp
  split at hp
  case h_2=>simp at hp
  rename_i k ver' esz' es hob
  split at hp
  case isFalse=>simp at hp
  rename_i hcond;obtain ⟨rfl,rfl,hl⟩:=hcond;simp only [AVV] at hv;obtain ⟨_,hv⟩:=hv;simp only [RefC] at hv;obtain ⟨v1,v2,v3⟩:=hv k es hob
  split at hp
  · rename_i hn;simp at hp;obtain ⟨rfl,rfl⟩:=hp;exact ⟨Imm,Post.refl hr,by simp [PVV,v2 hn]⟩
  · rename_i hn
    split at hp
    case h_2=>simp at hp
    rename_i ps hps;simp at hp;obtain ⟨rfl,rfl⟩:=hp;have hes:=acR hps;have hold:=hr.objs b _ hob;rcases hold with hold | ⟨cs,T,css,rest,h1,h2,h3,h4,h5,h6,h7,h8⟩
    · exact (hn hold).elim
    have hnf:¬ aam .frozen es:=fun h=>by cases h.1
    have hst:aaG β H β (H.set b (.arr .frozen ver esz es)):=ab9 hob (.inr (.inl ⟨_,_,_,_,_,rfl,rfl,hn,hnf⟩));obtain ⟨Imm',hpost,hib⟩:=aca hr hob hn (o':=.arr .frozen ver esz es) hnf (fun _ h=>h) (fun _ h=>by cases h) hst h7.aju
     (fun Imm' hi hb=>.inr ⟨cs,T,css,rest,h1,AVCl.mono hi (fun _ _=>rfl) hst _ _ _ (hr.refs b _ hob) h2,h3,h4,h5,(fun h=>by cases h),hb,fun _ e he=>(by rw [hes] at he; simp at he; obtain ⟨a,_,rfl⟩:=he; trivial),fun h=>by cases h⟩)
     (by rw [hes]; exact aaE _ _)
    refine ⟨Imm',hpost,?_⟩;rw [v3 hn];have hrow:Row P w Imm' β H esz es css:=AVCl.mono hpost.imm (fun _ _=>rfl) (aaG.refl _ _) _ _ _ (hr.refs b _ hob) h2;obtain ⟨a,m,c,e1,e2,e3,e4,e5⟩:=ab1 hrow off len v1;rw [hes,adX,acS] at e2;have hlen:((ps.drop off).take len).length=len:=by
     have:es.length=ps.length:=by rw [hes]; simp
     simp; omega
    simp only [PVV];refine ⟨β.blk b,off*esz,β.cap b - off,esz,m,e2,fun _=>hib,?_,?_,?_,none,.inl rfl,?_⟩
    · rw [← e3];exact abg h1 (post:=c.flatten ++ rest) (by rw [h3,e1]; simp)
    · intro hf;simp at hf;rw [hlen,h6 hf.1]; omega
    · rw [hlen]; omega
    · rw [hlen]
 | ptr b path =>
  simp only [purA] at hp
  split at hp
  case h_2=>simp at hp
  rename_i fz t hob
  split at hp
  case h_2=>simp at hp
  rename_i s hs;simp at hp;obtain ⟨rfl,rfl⟩:=hp;simp only [AVV] at hv;obtain ⟨_,hv⟩:=hv;simp only [RefC] at hv;obtain ⟨blk0,off0,o,rfl,ho,hv⟩:=hv;obtain ⟨rfl,rfl⟩:=hv (.inl ⟨fz,_,hob⟩);obtain ⟨cs,T,h1,h2,h3,h4⟩:=hr.objs b _ hob;have hst:aaG β H β (H.set b (.box true (.p t))):=ab9 hob (.inl ⟨_,_,_,rfl,rfl⟩);obtain ⟨Imm',hpost,hib⟩:=aca hr hob trivial (o':=.box true (.p t)) trivial (fun _ h=>h) (fun _ h=>by cases h) hst h3.aju
   (fun Imm' hi hb=>⟨cs,T,h1,AVC.mono hi (fun _ _=>rfl) hst _ _ (by simp [aaa]) h2,hb,fun _=>trivial,h4.2⟩) (by simp [Obj.refs,aaa])
  refine ⟨Imm',hpost,?_⟩;have h2':PVC P w Imm' t cs.toList:=by simp only [AVC] at h2; exact PVC.mono hpost.imm (fun _ _=>rfl) _ _ h2
  obtain ⟨pre,xs,post,e1,e2,e3⟩:=ahe h2' hs ho;simp only [PVV];refine ⟨β.blk b,off0,xs,e3,hib,?_,rfl⟩;rw [← e2]; exact abg h1 e1
 | map b =>
  simp only [purA] at hp
  split at hp
  case h_2=>simp at hp
  rename_i fz es hob;simp at hp;obtain ⟨rfl,rfl⟩:=hp;simp only [AVV] at hv;obtain ⟨_,hv⟩:=hv;simp only [RefC] at hv;have hv:=hv.1 ⟨fz,es,hob⟩;obtain ⟨ents,clock,h1,h2,h3⟩:=hr.objs b _ hob;have hst:aaG β H β (H.set b (.map true es)):=ab9 hob (.inr (.inr ⟨_,_,_,rfl,rfl⟩));obtain ⟨Imm',hpost,hib⟩:=aca hr hob trivial (o':=.map true es) trivial (fun _ h=>h) (fun _ h=>by cases h) hst h3.aju
   (fun Imm' hi hb=>⟨ents,clock,h1,PVM.mono hi (fun _ _=>rfl) _ _ h2,hb⟩) trivial
  refine ⟨Imm',hpost,?_⟩;simp only [PVV];exact ⟨β.blk b,ents,clock,hib,h1,PVM.mono hpost.imm (fun _ _=>rfl) _ _ h2,hv⟩
 | eptr=>simp [purA] at hp
 | func=>simp [purA] at hp
 | st=>simp [purA] at hp
 | tup=>simp [purA] at hp
end
section
variable {P:Program} {frz:FuncId→Bool} {n N:Nat}
theorem ahJ {w : World} {β : Bd} {Prot : Nat → Prop} : ∀ {avs : List AV} {pvs : List PV} {H H1 : Heap} {Imm : Nat → Prop} {vs : List Value}, purL H avs = some (pvs, H1) → HRel P w Imm β H Prot →
    AVVl P w Imm β H avs vs→aac (InH H) avs→∃ Imm',Post P Prot Imm w β H Imm' w β H1∧PVVl P w Imm' pvs vs
 | [],pvs,H,H1,Imm,vs,hp,hr,hv,_=>by
  simp [purL] at hp;obtain ⟨rfl,rfl⟩:=hp;simp only [AVVl] at hv;exact ⟨Imm,Post.refl hr,by simpa [PVVl] using hv⟩
 | a::avs,pvs,H,H1,Imm,vs,hp,hr,hv,hre=>by
  simp only [purL] at hp
  split at hp
  case h_2=>simp at hp
  rename_i v Ha h1
  split at hp
  case h_2=>simp at hp
  rename_i vs' Hb h2;simp at hp;obtain ⟨rfl,rfl⟩:=hp;simp only [AVVl] at hv;obtain ⟨y,ys,rfl,k1,k2⟩:=hv;simp only [aac] at hre;obtain ⟨Imm1,p1,p2⟩:=alo h1 hr k1 hre.1;obtain ⟨Imm2,q1,q2⟩:=ahJ h2 p1.rel (AVVl.mono p1.imm (fun _ _=>rfl) p1.step _ _ hre.2 k2) (aac.mono p1.inn _ hre.2);refine ⟨Imm2,p1.trans q1,?_⟩;simp only [PVVl];exact ⟨y,ys,rfl,PVV.mono q1.imm (fun _ _=>rfl) _ _ p2,q2⟩
def adw (P:Program) (n N:Nat) (fr:Frame) (k:List Item) (cs:List Frame) (ops:Array Oper) (Prot Imm:Nat→Prop) (w:World) (β:Bd) (H:Heap) (m:Machine) (r:List Nat) (ds:List Deferred) (K:St→Prop):Prop :=
 ∃ s' Imm' β' t' w',K s'∧Steps P m (lone (fat fr t' ds (.inRegion ops r::k)) cs w')∧SRel P n Prot Imm' β' s' t' w'∧Adv N Prot Imm w β H Prot Imm' w' β' s'.heap
theorem alK {d:Bool} {o:Oper} {K:St→Prop} {s:St} (h:opWP P frz d o K s) (c:Call):o.op≠.defer c:=by
 intro hc;unfold opWP at h;rw [hc] at h;simp [ab7,hc] at h
variable {fr:Frame} {k:List Item} {cs:List Frame} {ops:Array Oper} {i:Nat} {r:List Nat} {ds:List Deferred}
theorem ajI {d : Bool} {o : Oper} {f : Operand} {argsO : Array Operand} {aT : Array TypeId} {g : FuncId} {fi ca : List AV} {K : St → Prop} {s : St} {Prot Imm : Nat → Prop} {β : Bd} {t : Array Value} {w : World}
    (hop:o.op=.call { callee:=.value f,args:=argsO,argTypes:=aT })
    (hf:(ev s.env f=.func g fi ca)∨(∃ a b,ev s.env f=.p (.func g a b)∧fi=a.map .p∧ca=b.map .p))
    (h:abM P d g (fi ++ argsO.toList.map (ev s.env) ++ ca) s.heap (fun v H'=>K ⟨put o.dst v s.env,H'⟩))
    (hrel:SRel P n Prot Imm β s t w) (hdst:aes n o=true) (ho:ops[i]?=some o) (hw:Region.wanted o (yielded ops t)=true) :
    adw P n N fr k cs ops Prot Imm w β s.heap (lone (fat fr t ds (.inRegion ops (i::r)::k)) cs w) r ds K:=by
 have hev:=afG hrel f;obtain ⟨fv,cv,hfn,hfi,hca,hri,hrc⟩:∃ fv cv:List Value,acb t f=.func (.func g) fv.toArray cv.toArray∧AVVl P w Imm β s.heap fi fv∧AVVl P w Imm β s.heap ca cv∧aac (InH s.heap) fi∧aac (InH s.heap) ca:=by
  rcases hf with hf | ⟨a,b,hf,rfl,rfl⟩
  · rw [hf] at hev;simp only [AVV,aaa] at hev;obtain ⟨⟨fv,cv,h1,h2,h3⟩,h4,h5⟩:=hev;exact ⟨fv,cv,h3,h1,h2,h4,h5⟩
  · rw [hf] at hev;simp only [AVV,PVV] at hev;obtain ⟨⟨fv,cv,h1,h2,h3⟩,_⟩:=hev;exact ⟨fv,cv,h3,abq.2 h1,abq.2 h2,aaE _ _,aaE _ _⟩
 obtain ⟨ha,har⟩:=afT hrel argsO.toList;have hargs:=abS (abS hfi ha) hca;have hargr:=aav (aav hri har) hrc;have hexec:(execOp (acb t) o).run P w=(callFunc g (fv ++ argsO.toList.map (acb t) ++ cv).toArray).run P w:=by
  simp only [execOp,hop,resolve,hfn,Deferred.ofValue,Sem.run_bind,Sem.run_pure,Result.andThen_ok,invoke];congr 2;simp
 have hnd:∀ c,o.op≠.defer c:=fun c hc=>by rw [hop] at hc; cases hc
 have pure : ∀ (H1 : Heap) (Imm1 : Nat → Prop) (vs : List PV) (v : PV), Post P Prot Imm w β s.heap Imm1 w β H1 → PVVl P w Imm1 vs (fv ++ argsO.toList.map (acb t) ++ cv) → aab P g vs v →
     K ⟨put o.dst (.p v) s.env,H1⟩→adw P n N fr k cs ops Prot Imm w β s.heap (lone (fat fr t ds (.inRegion ops (i::r)::k)) cs w) r ds K:=by
  intro H1 Imm1 vs v hp hvs hg hK;rcases hg with ⟨hent,hg⟩ | hg
  · rw [hent] at hexec;obtain ⟨e,w',fr',⟨cv',Imm',he,g1,g2,g3,g4,g5,gio,g6⟩,hst,hfn',hlv⟩:=hg w Imm1 _ hp.rel.imm hp.rel.glob hvs (fat fr t ds (.inRegion ops (i::r)::k)::cs);subst he;have hpost:=hp.trans (hp.rel.later g1 g2 g3 g4 g5 gio);refine ⟨_,Imm',β,_,w',hK,?_,hrel.put hdst hpost (by simpa [AVV] using g6) (by simp [aaa]),hpost.adv⟩;rw [← abE ho];exact (Steps.one (ado ho hw hnd hexec)).trans (Steps.trans hst (.one (step_leave_returned hlv)))
  · obtain ⟨cv',h1,h2⟩:=hg w Imm1 _ hvs;rw [h1] at hexec;exact ⟨_,Imm1,β,_,w,hK,.one (acG ho hw hnd hexec (.inl rfl)),hrel.put hdst hp (by simpa [AVV] using h2) (by simp [aaa]),hp.adv⟩
 rcases h with ⟨vs,v,h1,h2,h3⟩ | ⟨_,⟨vs,H1,v,h1,h2,h3⟩ | ⟨H',v,⟨hent,h1⟩,h2⟩ | ⟨e,hE,hok,h2⟩ | ⟨hin,v,hX,hin',h2⟩⟩
 · exact pure s.heap Imm vs v (Post.refl hrel.heap) (by rw [h1] at hargs; exact abq.1 hargs) h2 h3
 · obtain ⟨Imm1,p1,p2⟩:=ahJ h1 hrel.heap hargs hargr;exact pure H1 Imm1 vs v p1 p2 h2 h3
 · rw [hent] at hexec;obtain ⟨e,w',fr',⟨cv',β',Imm',he,g1,g2,g3⟩,hst,hfn',hlv⟩:=h1 w Imm Prot β _ hrel.heap hargs hargr (fat fr t ds (.inRegion ops (i::r)::k)::cs);subst he;refine ⟨_,Imm',β',_,w',h2,?_,hrel.put hdst g1 g2 g3,g1.adv⟩;rw [← abE ho];exact (Steps.one (ado ho hw hnd hexec)).trans (Steps.trans hst (.one (step_leave_returned hlv)))
 · rw [hE.1] at hexec;obtain ⟨x,w',fr',⟨cv',β',Imm',he,g1,g2,g3⟩,hst,hfn',hlv⟩:=hE.use hok hrel.heap hargs hargr (fat fr t ds (.inRegion ops (i::r)::k)::cs);subst he;refine ⟨_,Imm',β',_,w',h2,?_,hrel.put hdst g1 g2 g3,g1.adv⟩;rw [← abE ho];exact (Steps.one (ado ho hw hnd hexec)).trans (Steps.trans hst (.one (step_leave_returned hlv)))
 · obtain ⟨cv',h1,h3⟩:=hX s.heap w Imm Prot β _ hrel.heap hargs hargr hin';rw [h1] at hexec;have hp:=Post.refl hrel.heap;exact ⟨_,Imm,β,_,w,h2,.one (acG ho hw hnd hexec (.inl rfl)),hrel.put hdst hp (by simpa [AVV] using h3) (by simp [aaa]),hp.adv⟩
end
end Go.Abs
namespace Go.Abs
variable [Gl]
section
variable {P:Program} {frz:FuncId→Bool} {n N:Nat}
variable {fr:Frame} {k:List Item} {cs:List Frame} {ops:Array Oper} {i:Nat} {r:List Nat} {ds:List Deferred}
theorem amQ {o : Oper} {f : Operand} {argsO : Array Operand} {aT : Array TypeId} {b : Nat} {H' : Heap} {v : AV} {K : St → Prop} {s : St} {Prot Imm : Nat → Prop} {β : Bd} {t : Array Value} {w : World}
    (hop:o.op=.call { callee:=.value f,args:=argsO,argTypes:=aT }) (hf:ev s.env f=.map b) (hy:ad5 P b s.heap (argsO.toList.map (ev s.env)) H' v) (hK:K ⟨put o.dst v s.env,H'⟩)
    (hrel:SRel P n Prot Imm β s t w) (hdst:aes n o=true) (ho:ops[i]?=some o) (hw:Region.wanted o (yielded ops t)=true) :
    adw P n N fr k cs ops Prot Imm w β s.heap (lone (fat fr t ds (.inRegion ops (i::r)::k)) cs w) r ds K:=by
 have hev:=(afG hrel f).1;rw [hf] at hev;simp only [AVV,RefV,RefC] at hev;have hfn:=hev.2.2 hy.1;obtain ⟨ha,har⟩:=afT hrel argsO.toList;have hexec:(execOp (acb t) o).run P w=(Instr.yield (β.blk b) (argsO.toList.map (acb t)).toArray).run P w:=by
  simp only [execOp,hop,resolve,hfn,Deferred.ofValue,Sem.run_bind,Sem.run_pure,Result.andThen_ok,invoke];congr 2;exact Array.ext' (by simp)
 have hnd:∀ c,o.op≠.defer c:=fun c hc=>by rw [hop] at hc; cases hc
 obtain ⟨g,tmps,assign,body,h1,h2⟩:=hy.2 w Imm Prot β _ hrel.heap ha har;rw [h1] at hexec;obtain ⟨cv,w',β',Imm',g1,g2,g3,g4⟩:=h2 (fat fr t ds (.inRegion ops (i::r)::k)) cs;refine ⟨_,Imm',β',_,w',hK,?_,hrel.put hdst g2 g3 g4,g2.adv⟩;rw [← abE ho];exact (Steps.one (ajj ho hw hnd hexec)).trans g1
theorem ao9 (HS : ab2 P frz) {d : Bool} {o : Oper} {K : St → Prop} {s : St} {Prot Imm : Nat → Prop} {β : Bd} {t : Array Value} {w : World}
    (h:opWP P frz d o K s) (hrel:SRel P n Prot Imm β s t w) (hdst:aes n o=true) (ho:ops[i]?=some o) (hw:Region.wanted o (yielded ops t)=true) :
    adw P n N fr k cs ops Prot Imm w β s.heap (lone (fat fr t ds (.inRegion ops (i::r)::k)) cs w) r ds K:=by
 have hnd:=alK h;have gen:ab7 P frz o (ev s.env) s.heap (fun e=>K (e.app o.dst s))→adw P n N fr k cs ops Prot Imm w β s.heap (lone (fat fr t ds (.inRegion ops (i::r)::k)) cs w) r ds K:=by
  intro h;obtain ⟨e,hK,hs,hin,hset⟩:=HS o _ _ _ (fun v=>rfl) h;obtain ⟨nx,cv,w',β',Imm',h1,h2,h3,h4,h5⟩:=hs.use hrel.heap (fun x _=>afG hrel x) hin (fun p hp=>(hset p hp).1);exact ⟨_,Imm',β',_,w',hK,.one (acG ho hw hnd h1 h2),hrel.put hdst h3 h4 h5,h3.adv⟩
 unfold opWP at h
 split at h
 · rename_i f args aT hop
   split at h
   · rename_i g fi ca hf;exact ajI hop (.inr ⟨fi,ca,hf,rfl,rfl⟩) h hrel hdst ho hw
   · rename_i g fi ca hf;exact ajI hop (.inl hf) h hrel hdst ho hw
   · rename_i b hf;obtain ⟨H',v,hy,hK⟩:=h;exact amQ hop hf hy hK hrel hdst ho hw
   · exact h.elim
 · exact gen h
theorem adw.mono {m:Machine} {K K':St→Prop} {Prot Imm:Nat→Prop} {w:World} {β:Bd} {H:Heap} (h:adw P n N fr k cs ops Prot Imm w β H m r ds K) (hk:∀ s,K s→K' s):adw P n N fr k cs ops Prot Imm w β H m r ds K':=by
 obtain ⟨s',Imm',β',t',w',h1,h2⟩:=h;exact ⟨s',Imm',β',t',w',hk _ h1,h2⟩
theorem afD {s : St} {Prot Imm : Nat → Prop} {β : Bd} {t : Array Value} {w : World} (hrel : SRel P n Prot Imm β s t w) (hok : ∀ o ∈ ops.toList, aes n o = true) (j : Nat) :
    (∀ b,guardOf ops j s.env=.p (.bool b)→yielded ops t j=some b)∧(guardOf ops j s.env=.p (.tup [])→yielded ops t j=none):=by
 unfold guardOf yielded;cases hj:ops[j]? with
 | none=>simp
 | some oj =>
  simp only [Option.bind_some];cases hd:oj.dst with
  | none=>simp
  | some d =>
   simp only [Option.bind_some];have hdl:d<t.size:=by
    have:=hok oj (by rw [Array.mem_toList_iff]; exact Array.mem_of_getElem? hj);unfold aes at this;rw [hd] at this;rw [hrel.size]; simpa using this
   have hv:=hrel.env d;have hg:t[d]?=some (t.getD d undef):=by simp [Array.getD,hdl]
   rw [hg];constructor
   · intro b hb;rw [hb] at hv;simp only [AVV,PVV] at hv;rw [hv]
   · intro hb;rw [hb] at hv;simp only [AVV,PVV,PVVl] at hv;obtain ⟨xs,rfl,hv⟩:=hv;rw [hv]
theorem alE (HS : ab2 P frz) {d : Bool} (hok : ∀ o ∈ ops.toList, aes n o = true) : ∀ (l : List Oper) (i : Nat) {K : St → Prop} {s : St} {Prot Imm : Nat → Prop} {β : Bd} {t : Array Value} {w : World},
    ops.toList.drop i=l→ac8 P frz d ops l K s→SRel P n Prot Imm β s t w →
    adw P n N fr k cs ops Prot Imm w β s.heap (lone (fat fr t ds (.inRegion ops (List.range' i l.length)::k)) cs w) [] ds K
 | [],i,K,s,Prot,Imm,β,t,w,hl,h,hrel=>⟨s,Imm,β,t,w,h,Steps.refl _ _,hrel,Adv.refl _ _ _ _ _ _⟩
 | o::l,i,K,s,Prot,Imm,β,t,w,hl,h,hrel=>by
  have ho:ops[i]?=some o:=by
   have:(ops.toList.drop i)[0]?=some o:=by rw [hl]; rfl
   rw [List.getElem?_drop] at this;simpa using this
  have hl':ops.toList.drop (i+1)=l:=by
   rw [← List.drop_drop,hl]; rfl
  have hdst:aes n o=true:=hok o (by rw [Array.mem_toList_iff]; exact Array.mem_of_getElem? ho);have cont:∀ {Prot Imm w β H} {m:Machine},adw P n N fr k cs ops Prot Imm w β H m (List.range' (i+1) l.length) ds (ac8 P frz d ops l K)→adw P n N fr k cs ops Prot Imm w β H m [] ds K:=by
   intro Prot Imm w β H m hd;obtain ⟨s',Imm',β',t',w',h1,h2,h3,h4⟩:=hd;obtain ⟨s2,Imm2,β2,t2,w2,g1,g2,g3,g4⟩:=alE HS hok l (i+1) hl' h1 h3;exact ⟨s2,Imm2,β2,t2,w2,g1,h2.trans g2,g3,h4.trans g4⟩
  rw [List.length_cons,List.range'_succ]
  have skip : ac8 P frz d ops l K ⟨put o.dst (.p (.tup [])) s.env, s.heap⟩ → Region.wanted o (yielded ops t) = false →
      adw P n N fr k cs ops Prot Imm w β s.heap (lone (fat fr t ds (.inRegion ops (i::List.range' (i+1) l.length)::k)) cs w) [] ds K:=by
   intro hk hw;refine cont ⟨_,Imm,β,_,w,hk,.one (ala ho hw),hrel.put hdst (Post.refl hrel.heap) (by simp [AVV,PVV,PVVl,undef]) (by simp [aaa]),Adv.refl _ _ _ _ _ _⟩
  simp only [ac8] at h
  split at h
  · rename_i hg;exact cont (ao9 HS h hrel hdst ho (by simp [Region.wanted,hg]))
  · rename_i j want hg;obtain ⟨g1,g2⟩:=afD hrel hok j
    split at h
    · rename_i b hb;have hy:=g1 b hb
      split at h
      · rename_i hbw;exact cont (ao9 HS h hrel hdst ho (by simp [Region.wanted,hg,hy,hbw]))
      · rename_i hbw;exact skip h (by simp [Region.wanted,hg,hy,hbw])
    · rename_i hb;exact skip h (by simp [Region.wanted,hg,g2 hb])
    · exact h.elim
theorem no_in {H:Heap} {b v:Nat} (h:H[b]?=none∨H[b]?=some .hole):¬ InH H (b,v):=by
 rintro ⟨o,ho,hh⟩;rcases h with h | h
 · simp only at ho; rw [h] at ho; cases ho
 · simp only at ho; rw [h] at ho; cases ho; exact hh
theorem agR.step {s s':St} {β:Bd} (hf:agR s s'):aaG β s.heap β s'.heap:=by
 refine ⟨?_,?_,?_,?_,?_⟩
 · rintro b _ ⟨fz,t,hb⟩; rcases hf.heap b _ hb with h | h | ⟨_,k,z,h,_⟩ | ⟨v,v',h,_,_⟩
   · cases h
   · exact ⟨⟨fz,t,h⟩,rfl⟩
   · cases h
   · exact ⟨⟨_,_,h⟩,rfl⟩
 · rintro b _ ⟨fz,t,hb⟩; rcases hf.heap b _ hb with h | h | ⟨_,k,z,h,_⟩ | ⟨v,v',_,h,_⟩
   · cases h
   · exact ⟨⟨fz,t,h⟩,rfl⟩
   · cases h
   · cases h
 · rintro b _ ⟨fz,t,hb⟩; rcases hf.heap b _ hb with h | h | ⟨_,k,z,h,_⟩ | ⟨v,v',_,h,_⟩
   · cases h
   · exact ⟨⟨fz,t,h⟩,rfl⟩
   · cases h
   · cases h
 · intro b ver esz k es hi hb; rcases hf.heap b _ hb with h | h | ⟨hn,_⟩ | ⟨v,v',_,h,_⟩
   · cases h
   · exact ⟨k,es,h,Nat.le_refl _,Iff.rfl,fun _=>⟨rfl,rfl⟩⟩
   · exact (no_in hn hi).elim
   · cases h
 · rintro b _ ⟨L,hb⟩; rcases hf.heap b _ hb with h | h | ⟨_,k,z,h,_⟩ | ⟨v,v',_,h,_⟩
   · cases h
   · exact ⟨⟨L,h⟩,rfl⟩
   · cases h
   · cases h
section ghosts
variable {w:World} {Imm:Nat→Prop} {β:Bd} {T:Heap}
theorem ayR {b ver esz off len:Nat} (h:ver=0∧off=0∧len=0∧∃ k z,T[b]?=some (.arr k 0 z [])∧k.gr=true):RefV P β T (.sl b ver esz off len) (.slice none 0 0):=by
 obtain ⟨rfl,rfl,rfl,k,z,h1,h2⟩:=h;refine ⟨by simp [Value.oneCell'],fun k' es' hl=>?_⟩;unfold aaI at hl;rw [h1] at hl; cases hl;exact ⟨by simp,fun _=>rfl,fun h=>(h ⟨h2,rfl⟩).elim⟩
mutual
theorem GhV.cells:∀ (v:PV) (x:AV) (cs:List Value),GhV T v x→PVC P w Imm v cs→AVC P w Imm β T x cs
 | .nsl,x,cs,h,hc=>by
  simp only [GhV] at h;rcases h with rfl | h
  · simpa only [AVC] using hc
  · cases x <;> simp only at h <;> try exact h.elim
    simp only [PVC] at hc;simp only [AVC];exact ⟨_,hc,ayR h⟩
 | .st u fs,x,cs,h,hc=>by
  simp only [GhV] at h;rcases h with rfl | h
  · simpa only [AVC] using hc
  · cases x <;> simp only at h <;> try exact h.elim
    obtain ⟨rfl,h⟩:=h;simp only [PVC] at hc;obtain ⟨l,css,h1,h2,h3⟩:=hc;simp only [AVC];exact ⟨l,css,h1,GhVl.cells l fs _ css h h2,h3⟩
 | .undef,x,cs,h,hc | .bool _,x,cs,h,hc | .int _ _,x,cs,h,hc | .str _,x,cs,h,hc | .nptr,x,cs,h,hc | .fptr _,x,cs,h,hc | .lst _ _,x,cs,h,hc | .seq _,x,cs,h,hc | .nmap,x,cs,h,hc | .fmap _,x,cs,h,hc | .func _ _ _,x,cs,h,hc | .nfunc,x,cs,h,hc | .nif,x,cs,h,hc | .tup _,x,cs,h,hc=>by
  simp only [GhV] at h; subst h; simpa only [AVC] using hc
theorem GhVl.cells:∀ (l:List Nat) (fs:List PV) (gs:List AV) (css:List (List Value)),GhVl T fs gs→PVCl P w Imm l fs css→AVCl P w Imm β T l gs css
 | l,[],gs,css,h,hc=>by
  simp only [GhVl] at h; subst h;cases l <;> simp_all [AVCl,PVCl]
 | l,v::vs,gs,css,h,hc=>by
  cases gs with
  | nil=>simp [GhVl] at h
  | cons g gs =>
   simp only [GhVl] at h;cases l with
   | nil=>simp [PVCl] at hc
   | cons n l =>
    simp only [PVCl] at hc;obtain ⟨c,cs,h1,h2,h3,h4⟩:=hc;simp only [AVCl];exact ⟨c,cs,h1,GhV.cells v g c h.1 h2,h3,GhVl.cells l vs gs cs h.2 h4⟩
end
theorem GhV.vals (v:PV) (x:AV) (y:Value) (h:GhV T v x) (hc:PVV P w Imm v y):AVV P w Imm β T x y:=by
 cases v
 case nsl =>
  simp only [GhV] at h;rcases h with rfl | h
  · simpa only [AVV] using hc
  · cases x <;> simp only at h <;> try exact h.elim
    simp only [PVV] at hc;subst hc;simp only [AVV];exact ayR h
 case st u fs =>
  simp only [GhV] at h;rcases h with rfl | h
  · simpa only [AVV] using hc
  · cases x <;> simp only at h <;> try exact h.elim
    obtain ⟨rfl,h⟩:=h;simp only [PVV] at hc;obtain ⟨l,css,h1,h2,h3⟩:=hc;simp only [AVV];exact ⟨l,css,h1,GhVl.cells l fs _ css h h2,h3⟩
 all_goals simp only [GhV] at h; subst h; simpa only [AVV] using hc
mutual
theorem Gh.cells:∀ (v x:AV) (cs:List Value),Gh T v x→AVC P w Imm β T v cs→AVC P w Imm β T x cs
 | .p v,x,cs,h,hc=>by simp only [Gh] at h; simp only [AVC] at hc; exact GhV.cells v x cs h hc
 | .st u fs,x,cs,h,hc=>by
  simp only [Gh] at h;cases x <;> simp only at h <;> try exact h.elim
  obtain ⟨rfl,h⟩:=h;simp only [AVC] at hc ⊢;obtain ⟨l,css,h1,h2,h3⟩:=hc;exact ⟨l,css,h1,Ghl.cells l fs _ css h h2,h3⟩
 | .ptr _ _,x,cs,h,hc | .eptr _ _ _ _ _,x,cs,h,hc | .sl _ _ _ _ _,x,cs,h,hc | .map _,x,cs,h,hc | .func _ _ _,x,cs,h,hc | .tup _,x,cs,h,hc=>by simp only [Gh] at h; subst h; exact hc
theorem Ghl.cells:∀ (l:List Nat) (fs gs:List AV) (css:List (List Value)),Ghl T fs gs→AVCl P w Imm β T l fs css→AVCl P w Imm β T l gs css
 | l,[],gs,css,h,hc=>by simp only [Ghl] at h; subst h; exact hc
 | l,v::vs,gs,css,h,hc=>by
  cases gs with
  | nil=>simp [Ghl] at h
  | cons g gs =>
   simp only [Ghl] at h;cases l with
   | nil=>simp [AVCl] at hc
   | cons n l =>
    simp only [AVCl] at hc ⊢;obtain ⟨c,cs,h1,h2,h3,h4⟩:=hc;exact ⟨c,cs,h1,Gh.cells v g c h.1 h2,h3,Ghl.cells l vs gs cs h.2 h4⟩
end
theorem Gh.vals (v x:AV) (y:Value) (h:Gh T v x) (hc:AVV P w Imm β T v y):AVV P w Imm β T x y:=by
 cases v
 case p v=>simp only [Gh] at h; simp only [AVV] at hc; exact GhV.vals v x y h hc
 case st u fs =>
  simp only [Gh] at h;cases x <;> simp only at h <;> try exact h.elim
  obtain ⟨rfl,h⟩:=h;simp only [AVV] at hc ⊢;obtain ⟨l,css,h1,h2,h3⟩:=hc;exact ⟨l,css,h1,Ghl.cells l fs _ css h h2,h3⟩
 all_goals simp only [Gh] at h; subst h; exact hc
theorem GhV.shp {v:PV} {x:AV} (h:GhV T v x):shpA x=Abs.shp v:=by
 cases v
 case nsl =>
  simp only [GhV] at h;rcases h with rfl | h
  · rfl
  · cases x <;> simp only at h <;> first | exact h.elim | rfl
 case st u fs =>
  simp only [GhV] at h;rcases h with rfl | h
  · rfl
  · cases x <;> simp only at h <;> try exact h.elim
    simp [shpA,Abs.shp,h.1]
 all_goals simp only [GhV] at h; subst h; rfl
theorem Gh.shp {v x:AV} (h:Gh T v x):shpA x=shpA v:=by
 cases v
 case p v=>simp only [Gh] at h; exact h.shp
 case st u fs =>
  simp only [Gh] at h;cases x <;> simp only at h <;> try exact h.elim
  simp [shpA,h.1]
 all_goals simp only [Gh] at h; subst h; rfl
end ghosts
theorem aaD.adv {s s':St} {β:Bd} {Prot Imm:Nat→Prop} {w:World} (hf:aaD N s s'):Adv N Prot Imm w β s.heap Prot Imm w β s'.heap:=by
 rcases hf with rfl | hf
 · exact Adv.refl _ _ _ _ _ _
 · exact ⟨fun _ h=>h,fun _ h=>h,fun _ h=>.inl h,Ext.refl _ _ _,hf.1.step.n,fun x hn ⟨o,ho,hh⟩=>⟨o,by rw [hf.2 _ hn]; exact ho,hh⟩,fun b hn ⟨L,hL⟩=>⟨L,by rw [hf.2 _ hn]; exact hL⟩⟩
theorem agR.rel {s s':St} {Prot Imm:Nat→Prop} {β:Bd} {t:Array Value} {w:World} (hf:agR s s') (h:SRel P n Prot Imm β s t w):SRel P n Prot Imm β s' t w:=by
 have hst:aaG β s.heap β s'.heap:=hf.step;refine ⟨⟨?_,?_,hf.hrefs,h.heap.imm,h.heap.prot,h.heap.glob⟩,fun x=>?_,hf.erefs,h.size⟩
 · intro b o ho;rcases hf.heap b o ho with rfl | ho' | ⟨_,k,z,rfl,hk⟩ | ⟨v,v',ho',rfl,hg⟩
   · trivial
   rotate_left
   · exact .inl ⟨hk,rfl⟩
   · have hold:=h.heap.objs b _ ho';have hre:=h.heap.refs b _ ho';obtain ⟨cs,T,h1,h2,h3,h4,h5⟩:=hold;exact ⟨cs,T,h1,Gh.cells _ _ _ hg (AVC.mono (fun _ x=>x) (fun _ _=>rfl) hst _ _ hre h2),h3,(fun h=>by cases h),by rw [hg.shp]; exact h5⟩
   · have hold:=h.heap.objs b o ho';have hre:=h.heap.refs b o ho';cases o with
     | hole=>trivial
     | dead=>trivial
     | box fz t =>
      obtain ⟨cs,T,h1,h2,h3⟩:=hold;exact ⟨cs,T,h1,AVC.mono (fun _ x=>x) (fun _ _=>rfl) hst _ _ hre h2,h3⟩
     | arr k ver esz es =>
      rcases hold with hold | ⟨cs,T,css,rest,h1,h2,h3⟩
      · exact .inl hold
      · exact .inr ⟨cs,T,css,rest,h1,AVCl.mono (fun _ x=>x) (fun _ _=>rfl) hst _ _ _ hre h2,h3⟩
     | map fz es=>exact hold
     | siter s pos=>exact hold
     | loop L =>
      obtain ⟨tmps,defers,fn,h1,h2,h3,h4⟩:=hold;exact ⟨tmps,defers,fn,h1,h2,fun x=>AVV.mono (fun _ x=>x) (fun _ _=>rfl) hst _ _ (hre x) (h3 x),h4⟩
 · intro x y o1 o2 h1 h2 l1 l2 hni he;have old:∀ {z:Nat} {o:Obj},s'.heap[z]?=some o→o.live→∃ o',s.heap[z]?=some o'∧o'.live:=by
    intro z o hz hl;rcases hf.heap z o hz with rfl | hz | ⟨_,k,_,rfl,hk⟩ | ⟨v,v',hz,_,_⟩
    · exact hl.elim
    · exact ⟨o,hz,hl⟩
    · exact (hl ⟨hk,rfl⟩).elim
    · exact ⟨_,hz,trivial⟩
   obtain ⟨o1',h1,l1⟩:=old h1 l1;obtain ⟨o2',h2,l2⟩:=old h2 l2;exact h.heap.inj x y o1' o2' h1 h2 l1 l2 hni he
 · have hm:=AVV.mono (fun _ x=>x) (fun _ _=>rfl) hst _ _ (h.erefs x) (h.env x);rcases hf.env x with he | he | he
   · rw [he]; exact hm
   · rw [he]; simp [AVV,PVV]
   · exact Gh.vals _ _ _ he hm
theorem aaD.rel {s s':St} {Prot Imm:Nat→Prop} {β:Bd} {t:Array Value} {w:World} (hf:aaD N s s') (h:SRel P n Prot Imm β s t w):SRel P n Prot Imm β s' t w:=by
 rcases hf with rfl | hf
 · exact h
 · exact hf.1.rel h
def ajd (P:Program) (fr:Frame) (k:List Item) (cs:List Frame) (m:Machine) (t:Array Value) (ds:List Deferred) (w:World):aan→Prop
 | .normal=>Steps P m (lone (fat fr t ds k) cs w)
 | .exit id=>∃ k',exitTo id k'=exitTo id k∧Steps P m (lone (fat fr t ds (.code (.exit id)::k')) cs w)
 | .ret=>∃ k',Steps P m (lone (fat fr t ds (.code .ret::k')) cs w)
theorem ajd.of_steps {m m1:Machine} {t:Array Value} {ds:List Deferred} {w:World} {e:aan} (h:Steps P m m1) (h':ajd P fr k cs m1 t ds w e):ajd P fr k cs m t ds w e:=by
 cases e with
 | normal=>exact h.trans h'
 | exit id=>obtain ⟨k',a,b⟩:=h'; exact ⟨k',a,h.trans b⟩
 | ret=>obtain ⟨k',b⟩:=h'; exact ⟨k',h.trans b⟩
def mark (r:Nat):Deferred:={ target:=.collected r,args:=#[] }
def Marks (fr:Frame) (Prot:Nat→Prop) (w:World) (Prot' Imm':Nat→Prop) (w':World) (ds ds':List Deferred):Prop :=
 ∃ rs:List Nat,ds'=rs.map mark ++ ds∧rs.Nodup∧(∀ r∈rs,w.heap.size≤r∧Prot' r∧¬ Imm' r∧w'.heap[r]?=some (.deferred (some [])))∧(∀ k,Prot' k→Prot k∨k∈rs)∧(fr.roundOf.isSome=true→rs=[])
theorem Marks.refl (fr:Frame) (Prot Imm':Nat→Prop) (w w':World) (ds:List Deferred):Marks fr Prot w Prot Imm' w' ds ds:=⟨[],rfl,List.nodup_nil,by simp,fun _ h=>.inl h,fun _=>rfl⟩
theorem Marks.trans {fr : Frame} {N : Nat} {Prot Imm Prot1 Imm1 Prot2 Imm2 : Nat → Prop} {w w1 w2 : World} {β β1 β2 : Bd} {H H1 H2 : Heap} {ds ds1 ds2 : List Deferred} (h : Marks fr Prot w Prot1 Imm1 w1 ds ds1) (ha : Adv N Prot Imm w β H Prot1 Imm1 w1 β1 H1)
    (h':Marks fr Prot1 w1 Prot2 Imm2 w2 ds1 ds2) (ha':Adv N Prot1 Imm1 w1 β1 H1 Prot2 Imm2 w2 β2 H2):Marks fr Prot w Prot2 Imm2 w2 ds ds2:=by
 obtain ⟨rs,rfl,h2,h3,h4,h5⟩:=h;obtain ⟨rs',rfl,g2,g3,g4,g5⟩:=h';refine ⟨rs' ++ rs,by simp,?_,?_,?_,fun hx=>by simp [h5 hx,g5 hx]⟩
 · rw [List.nodup_append];refine ⟨g2,h2,fun a ha b hb hab=>?_⟩;subst hab;have h6:=(g3 a ha).1;have h7:=(Array.getElem?_eq_some_iff.1 (h3 a hb).2.2.2).1;omega
 · intro r hr;rcases List.mem_append.1 hr with hr | hr
   · obtain ⟨k1,k2⟩:=g3 r hr;exact ⟨Nat.le_trans ha.ext.size k1,k2⟩
   · obtain ⟨k1,k2,k3,k4⟩:=h3 r hr;exact ⟨k1,ha'.prot _ k2,fun hx=>(ha'.fresh _ hx).elim k3 (fun hy=>hy k2),(ha'.ext.same _ (.inl k2)).trans k4⟩
 · intro k hk;rcases g4 k hk with hk | hk
   · rcases h4 k hk with hk | hk
     · exact .inl hk
     · exact .inr (by simp [hk])
   · exact .inr (by simp [hk])
def aiY (N:Nat) (fr:Frame) (β:Bd) (H:Heap):Prop:=∀ l,fr.roundOf=some l→∃ b,b<N∧aaN H b∧β.blk b=l
theorem aiY.adv {fr:Frame} {β β':Bd} {H H':Heap} {Prot Imm Prot' Imm':Nat→Prop} {w w':World} (h:aiY N fr β H) (ha:Adv N Prot Imm w β H Prot' Imm' w' β' H'):aiY N fr β' H':=by
 intro l hl;obtain ⟨b,h1,h2,h3⟩:=h l hl;have h4:=ha.loop b h1 h2;obtain ⟨L,hL⟩:=h2;exact ⟨b,h1,h4,((ha.step.loop b h1 ⟨_,hL,trivial⟩ h4).2).trans h3⟩
def ad6 (P:Program) (n N:Nat) (fr:Frame) (k:List Item) (cs:List Frame) (Prot Imm:Nat→Prop) (w:World) (β:Bd) (H:Heap) (m:Machine) (ds:List Deferred) (Q:aan→St→Prop):Prop :=
 ∃ e s' Prot' Imm' β' t' w' ds',Q e s'∧ajd P fr k cs m t' ds' w' e∧SRel P n Prot' Imm' β' s' t' w'∧Adv N Prot Imm w β H Prot' Imm' w' β' s'.heap∧Marks fr Prot w Prot' Imm' w' ds ds'
theorem ad6.of {k : List Item} {Prot Imm : Nat → Prop} {w : World} {β : Bd} {H : Heap} {m : Machine} {ds : List Deferred} {Q : aan → St → Prop} {e : aan} {s' : St} {Imm' : Nat → Prop} {β' : Bd} {t' : Array Value} {w' : World} (hq : Q e s') (hl : ajd P fr k cs m t' ds w' e)
    (hr:SRel P n Prot Imm' β' s' t' w') (ha:Adv N Prot Imm w β H Prot Imm' w' β' s'.heap):ad6 P n N fr k cs Prot Imm w β H m ds Q:=⟨e,s',Prot,Imm',β',t',w',ds,hq,hl,hr,ha,Marks.refl _ _ _ _ _ _⟩
theorem ad6.next {k : List Item} {Prot Imm Prot1 Imm1 : Nat → Prop} {w w1 : World} {β β1 : Bd} {H H1 : Heap} {m m1 : Machine} {ds ds1 : List Deferred} {Q : aan → St → Prop} (ha : Adv N Prot Imm w β H Prot1 Imm1 w1 β1 H1) (hm : Marks fr Prot w Prot1 Imm1 w1 ds ds1) (hst : Steps P m m1)
    (h:ad6 P n N fr k cs Prot1 Imm1 w1 β1 H1 m1 ds1 Q):ad6 P n N fr k cs Prot Imm w β H m ds Q:=by
 obtain ⟨e2,s2,Prot2,Imm2,β2,t2,w2,ds2,g1,g2,g3,g4,g5⟩:=h;exact ⟨e2,s2,Prot2,Imm2,β2,t2,w2,ds2,g1,.of_steps hst g2,g3,ha.trans g4,hm.trans ha g5 g4⟩
def codeOk (fit:Nat→Array Oper→Bool) (n:Nat):Code→Bool
 | .region _ ops draw=>ops.toList.all (aes n) && (!draw || fit n ops)
 | .seq a b=>codeOk fit n a && codeOk fit n b
 | .cond _ a b=>codeOk fit n a && codeOk fit n b
 | .block _ b | .scope b | .loop b=>codeOk fit n b
 | .rangeFunc _ _ a b=>codeOk fit n a && codeOk fit n b
 | _=>true
def adx (P:Program) (frz:FuncId→Bool) (fit:Nat→Array Oper→Bool):Prop :=
 ∀ (n N:Nat) (ops:Array Oper) (fr:Frame) (k:List Item) (cs:List Frame) (ds:List Deferred) (tp:Nat) (K:St→Prop) (s:St) (Prot Imm:Nat→Prop) (β:Bd) (t:Array Value) (w:World),
  fit n ops=true→(∀ o∈ops.toList,aes n o=true)→abu P frz ops ops.toList 0 [] K s→SRel P n Prot Imm β s t w →
  adw P n N fr k cs ops Prot Imm w β s.heap (lone (fat fr t ds (.inRegion ops (Region.schedule (P.follows .mixedOrders) ops tp)::k)) cs w) [] ds K
theorem SRel.draw {s:St} {Prot Imm:Nat→Prop} {β:Bd} {t:Array Value} {w w':World} (hh:w'.heap=w.heap) (h:SRel P n Prot Imm β s t w):SRel P n Prot Imm β s t w' :=
 ⟨h.heap.afr hh,fun x=>AVV.mono (fun _ x=>x) (fun _ _=>by rw [hh]) (aaG.refl _ _) _ _ (h.erefs x) (h.env x),h.erefs,h.size⟩
section rf
variable {w w':World} {Imm Prot:Nat→Prop} {β:Bd} {H:Heap}
theorem HRel.ao3 (h:HRel P w Imm β H Prot) {x:Nat} (hx:x<w.heap.size) (hb:∀ (b:Nat) (o:Obj),H[b]?=some o→o.live→β.blk b≠x):HRel P w Imm β H (fun k=>Prot k∨k=x):=by
 refine ⟨fun b o ho=>?_,h.inj,h.refs,h.imm,fun k hk=>hk.elim (h.prot k) (fun e=>e▸hx),h.glob⟩;have held:∀ fz,o.live→Held Imm β Prot fz b→Held Imm β (fun k=>Prot k∨k=x) fz b:=by
  intro fz hl hh;unfold Held at hh ⊢;cases fz with
  | true=>exact hh
  | false=>exact ⟨hh.1,fun hp=>hp.elim hh.2 (hb b o ho hl)⟩
 have hold:=h.objs b o ho;cases o with
 | hole=>trivial
 | dead=>trivial
 | box fz t=>obtain ⟨cs,T,h1,h2,h3,h4⟩:=hold; exact ⟨cs,T,h1,h2,held _ trivial h3,h4⟩
 | arr k ver esz es =>
  rcases hold with hold | ⟨cs,T,css,rest,h1,h2,h3,h4,h5,h6,h7,h8⟩
  · exact .inl hold
  · by_cases hl:aam k es
    · exact .inl hl
    · exact .inr ⟨cs,T,css,rest,h1,h2,h3,h4,h5,h6,held _ hl h7,h8⟩
 | map fz es=>obtain ⟨ents,clock,h1,h2,h3⟩:=hold; exact ⟨ents,clock,h1,h2,held _ trivial h3⟩
 | siter s pos=>obtain ⟨bs,h1,h2,h3⟩:=hold; exact ⟨bs,h1,h2,held _ trivial h3⟩
 | loop L=>obtain ⟨tmps,defers,fn,h1,h2,h3,h4⟩:=hold; exact ⟨tmps,defers,fn,h1,h2,h3,held _ trivial h4⟩
theorem HRel.shut (h:HRel P w Imm β H Prot) {Prot0:Nat→Prop} (hp:∀ k,Prot0 k→Prot k) {R:Nat→Prop} (hR:∀ x,R x→Prot x∧¬ Imm x) (hsz:w'.heap.size=w.heap.size) (hs:∀ k,¬ R k→w'.heap[k]?=w.heap[k]?):HRel P w' Imm β H Prot0:=by
 have same:∀ k,Imm k→w'.heap[k]?=w.heap[k]?:=fun k hk=>hs k (fun hr=>(hR k hr).2 hk);refine ⟨fun b o ho=>?_,h.inj,h.refs,fun k hk=>hsz▸h.imm k hk,fun k hk=>hsz▸h.prot k (hp k hk),h.glob.mono (fun _ x=>x) same⟩;have held:∀ fz,Held Imm β Prot fz b→Held Imm β Prot0 fz b:=by
  intro fz hh;unfold Held at hh ⊢;cases fz with
  | true=>exact hh
  | false=>exact ⟨hh.1,fun hp'=>hh.2 (hp _ hp')⟩
 have blk:∀ fz,Held Imm β Prot fz b→w'.heap[β.blk b]?=w.heap[β.blk b]?:=by
  intro fz hh;refine hs _ (fun hr=>?_);unfold Held at hh;cases fz with
  | true=>exact (hR _ hr).2 hh
  | false=>exact hh.2 (hR _ hr).1
 have hold:=h.objs b o ho;have hre:=h.refs b o ho;cases o with
 | hole=>trivial
 | dead=>trivial
 | box fz t=>obtain ⟨cs,T,h1,h2,h3,h4⟩:=hold; exact ⟨cs,T,(blk _ h3).trans h1,AVC.mono (fun _ x=>x) same (aaG.refl _ _) _ _ hre h2,held _ h3,h4⟩
 | arr k ver esz es =>
  rcases hold with hold | ⟨cs,T,css,rest,h1,h2,h3,h4,h5,h6,h7,h8⟩
  · exact .inl hold
  · exact .inr ⟨cs,T,css,rest,(blk _ h7).trans h1,AVCl.mono (fun _ x=>x) same (aaG.refl _ _) _ _ _ hre h2,h3,h4,h5,h6,held _ h7,h8⟩
 | map fz es=>obtain ⟨ents,clock,h1,h2,h3⟩:=hold; exact ⟨ents,clock,(blk _ h3).trans h1,PVM.mono (fun _ x=>x) same _ _ h2,held _ h3⟩
 | siter s pos=>obtain ⟨bs,h1,h2,h3⟩:=hold; exact ⟨bs,(blk _ h3).trans h1,h2,held _ h3⟩
 | loop L=>obtain ⟨tmps,defers,fn,h1,h2,h3,h4⟩:=hold; exact ⟨tmps,defers,fn,(blk _ h4).trans h1,h2,fun x=>AVV.mono (fun _ x=>x) same (aaG.refl _ _) _ _ (hre x) (h3 x),held _ h4⟩
theorem aoT (H:Heap) (o:Obj):(H ++ List.replicate 1 Obj.hole).set H.length o=H ++ [o]:=by
 rw [List.set_append_right _ _ (Nat.le_refl _)]; simp
theorem apm (hr : HRel P w Imm β H Prot) {L : acs} {tmps : Array Value} {defers fn : Nat} (hn : tmps.size = L.n) (hv : ∀ x, AVV P w Imm β H (getE L.env x) (tmps.getD x undef)) (hre : ∀ x, aaa (InH H) (getE L.env x)) :
    Post P Prot Imm w β H Imm (w.alloc (.loop { state:=L.st,pending:=L.pending,fn,tmps,params:=L.params.toArray,assign:=L.assign,body:=L.body,defers })) (β.at H.length w.heap.size 0) (H ++ [.loop L]):=by
 have h0:Post P Prot Imm w β H Imm w β (H ++ List.replicate 1 .hole):=⟨fun _ x=>x,fun _ x=>.inl x,Ext.refl _ _ _,ab8 _ _ _,hr.ama _,acz _ _,fun b ⟨L,hL⟩=>⟨L,by rw [aaC,if_pos (List.getElem?_eq_some_iff.1 hL).1]; exact hL⟩⟩
 have hb:(H ++ List.replicate 1 Obj.hole)[H.length]?=some .hole:=by rw [aaC]; simp
 have hst:=(ab8 β H 1)
 have hst2:=ag5 (β:=β) hb (.loop L) w.heap.size 0;have hrefs:∀ x,aaa (InH ((H ++ List.replicate 1 Obj.hole).set H.length (.loop L))) (getE L.env x):=by
  intro x;rw [aoT];exact aaa.mono (fun y hy=>amJ hy) _ (hre x)
 have hpost:=aeG (cap:=0) h0.rel hb (ob:=.loop { state:=L.st,pending:=L.pending,fn,tmps,params:=L.params.toArray,assign:=L.assign,body:=L.body,defers }) (o':=.loop L)
  ⟨tmps,defers,fn,by simp [Bd.at],hn,fun x=>AVV.mono (fun _ x=>x) (fun k hk=>aei w _ (hr.imm k hk)) hst2 _ _ (aaa.mono (acz _ _) _ (hre x)) (AVV.mono (fun _ x=>x) (fun _ _=>rfl) hst _ _ (hre x) (hv x)),?_⟩ hrefs
 · rw [aoT] at hpost;exact h0.trans hpost
 · unfold Held;simp only [Bool.false_eq_true,if_false,Bd.at,if_true];exact ⟨fun hi=>by have:=hr.imm _ hi; omega,fun hp=>by have:=hr.prot _ hp; omega⟩
theorem akp (hr : HRel P w Imm β H Prot) {b : Nat} {L : acs} (hb : H[b]? = some (.loop L)) (st : LoopState) (pd : Option Code) :
    ∃ rec:Loop,w.heap[β.blk b]?=some (.loop rec)∧rec.state=L.st∧rec.pending=L.pending∧rec.params=L.params.toArray∧rec.assign=L.assign∧rec.body=L.body∧rec.tmps.size=L.n∧(∀ x,AVV P w Imm β H (getE L.env x) (rec.tmps.getD x undef)) ∧
     Post P Prot Imm w β H Imm (w.putObj (β.blk b) (.loop { rec with state:=st,pending:=pd })) β (H.set b (.loop { L with st:=st,pending:=pd })):=by
 obtain ⟨tmps,defers,fn,h1,h2,h3,h4⟩:=hr.objs b _ hb;refine ⟨_,h1,rfl,rfl,rfl,rfl,rfl,h2,h3,?_⟩;have hlt:=(Array.getElem?_eq_some_iff.1 h1).1;have hbl:=(List.getElem?_eq_some_iff.1 hb).1;unfold Held at h4;simp only [Bool.false_eq_true,if_false] at h4;have hst:aaG β H β (H.set b (.loop { L with st:=st,pending:=pd })):=by
  have ge:∀ (x:Nat) (o:Obj),(H.set b (Obj.loop { L with st:=st,pending:=pd }))[x]?=some o→(∀ L',o≠Obj.loop L')→H[x]?=some o:=by
   intro x o ho hne
   by_cases hx:b=x
   · subst hx; rw [List.getElem?_set_self hbl] at ho; cases ho; exact (hne _ rfl).elim
   · rwa [List.getElem?_set_ne hx] at ho
  refine ⟨?_,?_,?_,?_,?_⟩
  · rintro x _ ⟨f,t,h⟩; exact ⟨⟨f,t,ge _ _ h (by simp)⟩,rfl⟩
  · rintro x _ ⟨f,t,h⟩; exact ⟨⟨f,t,ge _ _ h (by simp)⟩,rfl⟩
  · rintro x _ ⟨f,t,h⟩; exact ⟨⟨f,t,ge _ _ h (by simp)⟩,rfl⟩
  · intro x ver esz k es _ h; exact ⟨k,es,ge _ _ h (by simp),Nat.le_refl _,Iff.rfl,fun _=>⟨rfl,rfl⟩⟩
  · rintro x _ ⟨L',h⟩;refine ⟨?_,rfl⟩
    by_cases hx:b=x
    · subst hx; exact ⟨L,hb⟩
    · rw [List.getElem?_set_ne hx] at h; exact ⟨L',h⟩
 have hin:∀ x,InH H x→InH (H.set b (Obj.loop { L with st:=st,pending:=pd })) x:=acU hb (fun _ _=>trivial);have same:∀ k,Imm k→(w.putObj (β.blk b) (.loop { state:=st,pending:=pd,fn,tmps,params:=L.params.toArray,assign:=L.assign,body:=L.body,defers })).heap[k]?=w.heap[k]?:=fun k hk=>World.putObj_heap_other (fun e=>h4.1 (e▸hk));refine Post.set hr hbl (fun _ _=>⟨rfl,rfl⟩) (fun _ x=>x) (fun _ x=>.inl x) (fun k hk=>by simpa using hr.imm k hk) (by simp)
  (fun k hk _=>World.putObj_heap_other (hk.resolve_right (fun h=>h trivial))) (fun _=>.inr ⟨rfl,⟨_,hb,trivial⟩,.inr h4.1,h4.2⟩) hst
  ⟨tmps,defers,fn,World.putObj_heap_same hlt,h2,fun x=>AVV.mono (fun _ x=>x) same hst _ _ (hr.refs b _ hb x) (h3 x),?_⟩ (fun x=>aaa.mono hin _ (hr.refs b _ hb x)) (fun _ _ _ _=>trivial) (fun _ _=>⟨_,rfl⟩)
 unfold Held;simpa using h4
end rf
theorem aqV {s : St} {Prot Imm : Nat → Prop} {β : Bd} {t : Array Value} {w : World} (hr : SRel P n Prot Imm β s t w) (har : aiY N fr β s.heap) (ps : Array Tmp) (a b : Code) (ds : List Deferred) {env' : Env} (he : ∀ x, getE env' x = getE s.env x) :
    ∃ l mk w1 Prot1 β1,(Instr.enterLoop fr.fn t ps a b fr.roundOf).run P w=.ok (l,mk) w1∧HRel P w1 Imm β1 (s.heap ++ [.loop ⟨.ready,none,n,ps.toList,a,b,env'⟩]) Prot1∧β1.blk s.heap.length=l ∧
     Adv N Prot Imm w β s.heap Prot1 Imm w1 β1 (s.heap ++ [.loop ⟨.ready,none,n,ps.toList,a,b,env'⟩])∧Marks fr Prot w Prot1 Imm w1 ds (mk ++ ds) ∧
     aaG β s.heap β1 (s.heap ++ [.loop ⟨.ready,none,n,ps.toList,a,b,env'⟩]):=by
 cases hro:fr.roundOf with
 | none =>
  have hA:Post P Prot Imm w β s.heap Imm (w.alloc (.deferred (some []))) β s.heap:=hr.heap.later (fun _ x=>x) (fun _ x=>.inl x) (fun k hk=>by have:=hr.heap.imm k hk; rw [World.size_alloc]; omega) (by rw [World.size_alloc]; omega) (fun k hk=>aei w _ hk);have hB:=hA.rel.ao3 (x:=w.heap.size) (by rw [World.size_alloc]; omega) (fun b o ho hl he=>by have:=hr.heap.ada ho hl; omega);have hC:=apm (L:=⟨.ready,none,n,ps.toList,a,b,env'⟩) (tmps:=t) (defers:=w.heap.size) (fn:=fr.fn) hB hr.size (fun x=>by rw [he]; exact AVV.mono (fun _ x=>x) (fun k hk=>aei w _ (hr.heap.imm k hk)) (aaG.refl _ _) _ _ (hr.erefs x) (hr.env x)) (fun x=>by rw [he]; exact hr.erefs x);have hAB:Adv N Prot Imm w β s.heap (fun k=>Prot k∨k=w.heap.size) Imm (w.alloc (.deferred (some []))) β s.heap:=⟨fun _ h=>.inl h,fun _ h=>h,fun _ h=>.inl h,hA.ext,(aaG.refl _ _).n,fun _ _ h=>h,fun _ _ h=>h⟩
  refine ⟨_,_,_,_,_,run_enterLoop_outer fr.fn t ps a b,hC.rel,?_,hAB.trans hC.adv,?_,hC.step⟩
  · simp [Bd.at,World.size_alloc]
  · refine ⟨[w.heap.size],rfl,by simp,?_,fun k hk=>hk.imp id (fun h=>by simp [h]),by simp [hro]⟩;intro r hr';simp only [List.mem_singleton] at hr';subst hr';refine ⟨Nat.le_refl _,.inr rfl,fun hi=>by have:=hr.heap.imm _ hi; omega,?_⟩;exact (hC.ext.same _ (.inl (.inr rfl))).trans (World.alloc_heap_new w _)
 | some l0 =>
  obtain ⟨b0,h1,h2,h3⟩:=har l0 hro;obtain ⟨L0,hL0⟩:=h2;obtain ⟨tmps0,defers0,fn0,g1,_⟩:=hr.heap.objs b0 _ hL0;rw [h3] at g1;have hC:=apm (L:=⟨.ready,none,n,ps.toList,a,b,env'⟩) (tmps:=t) (defers:=defers0) (fn:=fr.fn) hr.heap hr.size (fun x=>by rw [he]; exact hr.env x) (fun x=>by rw [he]; exact hr.erefs x);exact ⟨_,_,_,_,_,run_enterLoop_inner g1 fr.fn t ps a b,hC.rel,by simp [Bd.at],hC.adv,Marks.refl _ _ _ _ _ _,hC.step⟩
theorem abr (HS : ab2 P frz) {fit : Nat → Array Oper → Bool} (HD : adx P frz fit) : ∀ (c : Code) (k : List Item) {Q : aan → St → Prop} {s : St} {Prot Imm : Nat → Prop} {β : Bd} {t : Array Value} {w : World} {ds : List Deferred},
    codeOk fit n c=true→aap P frz (n,N) c Q s→SRel P n Prot Imm β s t w→aiY N fr β s.heap→ad6 P n N fr k cs Prot Imm w β s.heap (lone (fat fr t ds (.code c::k)) cs w) ds Q
 | .skip,k,Q,s,Prot,Imm,β,t,w,ds,_,h,hr,_=>.of h (.one st_skip:ajd P fr k cs _ t ds w .normal) hr (Adv.refl _ _ _ _ _ _)
 | .label l,k,Q,s,Prot,Imm,β,t,w,ds,_,h,hr,_=>.of h (.one au1:ajd P fr k cs _ t ds w .normal) hr (Adv.refl _ _ _ _ _ _)
 | .exit id,k,Q,s,Prot,Imm,β,t,w,ds,_,h,hr,_=>.of h (⟨k,rfl,Steps.refl _ _⟩:ajd P fr k cs _ t ds w (.exit id)) hr (Adv.refl _ _ _ _ _ _)
 | .ret,k,Q,s,Prot,Imm,β,t,w,ds,_,h,hr,_=>.of h (⟨k,Steps.refl _ _⟩:ajd P fr k cs _ t ds w .ret) hr (Adv.refl _ _ _ _ _ _)
 | .region id ops draw,k,Q,s,Prot,Imm,β,t,w,ds,hok,h,hr,_=>by
  simp only [codeOk,Bool.and_eq_true,List.all_eq_true] at hok;simp only [aap] at h;cases draw with
  | false =>
   simp only [Bool.false_eq_true,if_false] at h;obtain ⟨s',Imm',β',t',w',h1,h2,h3,h4⟩:=alE (fr:=fr) (k:=k) (cs:=cs) (ds:=ds) (N:=N) HS hok.1 ops.toList 0 (by simp) h hr;refine .of (e:=.normal) h1 ?_ h3 h4;have e:List.range ops.size=List.range' 0 ops.toList.length:=by rw [List.range_eq_range']; simp
   exact (Steps.one arS).trans ((by rw [e]; exact h2:Steps P _ _).trans (.one agD))
  | true =>
   simp only [if_true] at h;have hr':SRel P n Prot Imm β s t { w with drawn:=w.drawn+1 }:=SRel.draw (w:=w) (w':={ w with drawn:=w.drawn+1 }) rfl hr;obtain ⟨s',Imm',β',t',w',h1,h2,h3,h4⟩:=HD n N ops fr k cs ds (w.tape w.drawn (.order fr.fn id)) _ s Prot Imm β t _ (by simpa using hok.2) hok.1 h hr';exact .of (e:=.normal) h1 ((Steps.one st_draw).trans (h2.trans (.one agD)):ajd P fr k cs _ t' ds w' .normal) h3 ⟨h4.prot,h4.imm,h4.fresh,⟨h4.ext.size,h4.ext.same,h4.ext.io⟩,h4.step,h4.inn,h4.loop⟩
 | .seq a b,k,Q,s,Prot,Imm,β,t,w,ds,hok,h,hr,har=>by
  simp only [codeOk,Bool.and_eq_true] at hok;simp only [aap] at h;obtain ⟨e,s1,Prot1,Imm1,β1,t1,w1,ds1,h1,h2,h3,h4,h5⟩:=abr HS HD a (.code b::k) hok.1 h hr har;cases e with
  | normal=>exact .next h4 h5 ((Steps.one arR).trans h2) (abr HS HD b k hok.2 h1 h3 (har.adv h4))
  | exit id =>
   obtain ⟨k',a1,a2⟩:=h2;exact ⟨.exit id,s1,Prot1,Imm1,β1,t1,w1,ds1,h1,⟨k',a1.trans (by simp [exitTo]),(Steps.one arR).trans a2⟩,h3,h4,h5⟩
  | ret =>
   obtain ⟨k',a2⟩:=h2;exact ⟨.ret,s1,Prot1,Imm1,β1,t1,w1,ds1,h1,⟨k',(Steps.one arR).trans a2⟩,h3,h4,h5⟩
 | .cond c a b,k,Q,s,Prot,Imm,β,t,w,ds,hok,h,hr,har=>by
  simp only [codeOk,Bool.and_eq_true] at hok;simp only [aap] at h
  split at h
  · rename_i bv hb;have hv:=(afG hr c).1;rw [hb] at hv;simp only [AVV,PVV] at hv;have hst:=st_cond (P:=P) (fr:=fr) (ds:=ds) (k:=k) (cs:=cs) (w:=w) (x:=a) (y:=b) hv;cases bv with
    | true=>exact .next (Adv.refl N Prot Imm w β s.heap) (Marks.refl _ _ _ _ _ _) (.one (by simpa using hst)) (abr HS HD a k hok.1 (by simpa using h) hr har)
    | false=>exact .next (Adv.refl N Prot Imm w β s.heap) (Marks.refl _ _ _ _ _ _) (.one (by simpa using hst)) (abr HS HD b k hok.2 (by simpa using h) hr har)
  · exact h.elim
 | .block id b,k,Q,s,Prot,Imm,β,t,w,ds,hok,h,hr,har=>by
  simp only [codeOk] at hok;simp only [aap] at h;obtain ⟨e,s1,Prot1,Imm1,β1,t1,w1,ds1,h1,h2,h3,h4,h5⟩:=abr HS HD b (.inBlock id::k) hok h hr har;cases e with
  | normal=>exact ⟨.normal,s1,Prot1,Imm1,β1,t1,w1,ds1,h1,(Steps.one agY).trans (h2.trans (.one aqq)),h3,h4,h5⟩
  | exit id' =>
   obtain ⟨k',a1,a2⟩:=h2;dsimp only at h1
   split at h1
   · rename_i hid;subst hid;refine ⟨.normal,s1,Prot1,Imm1,β1,t1,w1,ds1,h1,(Steps.one agY).trans (a2.trans (.one (st_exit ?_))),h3,h4,h5⟩;rw [a1]; simp [exitTo]
   · rename_i hid;exact ⟨.exit id',s1,Prot1,Imm1,β1,t1,w1,ds1,h1,⟨k',a1.trans (by simp [exitTo,Ne.symm hid]),(Steps.one agY).trans a2⟩,h3,h4,h5⟩
  | ret =>
   obtain ⟨k',a2⟩:=h2;exact ⟨.ret,s1,Prot1,Imm1,β1,t1,w1,ds1,h1,⟨k',(Steps.one agY).trans a2⟩,h3,h4,h5⟩
 | .scope b,k,Q,s,Prot,Imm,β,t,w,ds,hok,h,hr,har=>by
  simp only [codeOk] at hok;simp only [aap] at h;obtain ⟨e,s1,Prot1,Imm1,β1,t1,w1,ds1,h1,h2,h3,h4,h5⟩:=abr HS HD b (.inScope b::k) hok h hr har;cases e with
  | normal=>exact ⟨.normal,s1,Prot1,Imm1,β1,t1,w1,ds1,h1,(Steps.one ajX).trans (h2.trans (.one aqp)),h3,h4,h5⟩
  | exit id' =>
   obtain ⟨k',a1,a2⟩:=h2;exact ⟨.exit id',s1,Prot1,Imm1,β1,t1,w1,ds1,h1,⟨k',a1.trans (by simp [exitTo]),(Steps.one ajX).trans a2⟩,h3,h4,h5⟩
  | ret =>
   obtain ⟨k',a2⟩:=h2;exact ⟨.ret,s1,Prot1,Imm1,β1,t1,w1,ds1,h1,⟨k',(Steps.one ajX).trans a2⟩,h3,h4,h5⟩
 | .loop b,k,Q,s,Prot,Imm,β,t,w,ds,hok,h,hr,har=>by
  simp only [codeOk] at hok;simp only [aap] at h;obtain ⟨I,⟨m0,t0,hf,hI⟩,hround⟩:=h
  have loop : ∀ (m : Nat) (u : St) (Prot Imm : Nat → Prop) (β : Bd) (t : Array Value) (w : World) (ds : List Deferred), I m u → SRel P n Prot Imm β u t w → aiY N fr β u.heap →
      ad6 P n N fr k cs Prot Imm w β u.heap (lone (fat fr t ds (.code b::.inLoop b::k)) cs w) ds Q:=by
   intro m
   induction m using Nat.strongRecOn with
   | _ m ih =>
    intro u Prot Imm β t w ds hI hr har;obtain ⟨e,s1,Prot1,Imm1,β1,t1,w1,ds1,h1,h2,h3,h4,h5⟩:=abr HS HD b (.inLoop b::k) hok (hround m u hI) hr har;cases e with
    | normal =>
     obtain ⟨m',u',hlt,hf',hI'⟩:=h1;have ha:=hf'.adv (β:=β1) (Prot:=Prot1) (Imm:=Imm1) (w:=w1);exact .next (h4.trans ha) h5 (Steps.trans h2 (.one arT)) (ih m' hlt u' Prot1 Imm1 β1 t1 w1 ds1 hI' (hf'.rel h3) ((har.adv h4).adv ha))
    | exit id' =>
     obtain ⟨k',a1,a2⟩:=h2;exact ⟨.exit id',s1,Prot1,Imm1,β1,t1,w1,ds1,h1,⟨k',a1.trans (by simp [exitTo]),a2⟩,h3,h4,h5⟩
    | ret =>
     obtain ⟨k',a2⟩:=h2;exact ⟨.ret,s1,Prot1,Imm1,β1,t1,w1,ds1,h1,⟨k',a2⟩,h3,h4,h5⟩
  have ha:=hf.adv (β:=β) (Prot:=Prot) (Imm:=Imm) (w:=w);exact .next ha (Marks.refl _ _ _ _ _ _) (.one st_loop) (loop m0 t0 Prot Imm β t w ds hI (hf.rel hr) (har.adv ha))
 | .rangeFunc f ps a b,k,Q,s,Prot,Imm,β,t,w,ds,hok,h,hr,har=>by
  simp only [aap] at h;obtain ⟨hN,env',henv,h⟩:=h;have hev:=afG hr f
  obtain ⟨g, fi, ca, fv, cv, hfn, hfi, hca, hri, hrc, H2, v, hgood, hover⟩ : ∃ g fi ca, ∃ fv cv : List Value, acb t f = .func (.func g) fv.toArray cv.toArray ∧ AVVl P w Imm β s.heap fi fv ∧ AVVl P w Imm β s.heap ca cv ∧ aac (InH s.heap) fi ∧ aac (InH s.heap) ca ∧
      ∃ H2 v,abp P g (s.heap ++ [.loop ⟨.ready,none,n,ps.toList,a,b,env'⟩]) (fi ++ [.map s.heap.length] ++ ca) H2 v∧acp s.heap.length s.env Q H2:=by
   unfold acZ at h
   split at h
   · rename_i g fi ca hf;rw [hf] at hev;simp only [AVV,PVV] at hev;obtain ⟨⟨fv,cv,h1,h2,h3⟩,_⟩:=hev;exact ⟨g,_,_,fv,cv,h3,abq.2 h1,abq.2 h2,aaE _ _,aaE _ _,h⟩
   · rename_i g fi ca hf;rw [hf] at hev;simp only [AVV,aaa] at hev;obtain ⟨⟨fv,cv,h1,h2,h3⟩,h4,h5⟩:=hev;exact ⟨g,fi,ca,fv,cv,h3,h1,h2,h4,h5,h⟩
   · exact h.elim
  obtain ⟨l,mk,w1,Prot1,β1,e1,e2,e3,e4,e5,e6⟩:=aqV (fr:=fr) hr har ps a b ds henv;obtain ⟨hent,hcall⟩:=hgood;have hin:∀ x,InH s.heap x→InH (s.heap ++ [.loop ⟨.ready,none,n,ps.toList,a,b,env'⟩]) x:=fun x hx=>amJ hx;have hsame:∀ k,Imm k→w1.heap[k]?=w.heap[k]?:=fun k hk=>e4.ext.same k (.inr hk);have hy:AVV P w1 Imm β1 (s.heap ++ [.loop ⟨.ready,none,n,ps.toList,a,b,env'⟩]) (.map s.heap.length) (.func (.yield l) #[] #[]):=by
   simp only [AVV,RefV,RefC];refine ⟨by simp [Value.oneCell'],fun hm=>?_,fun _=>by rw [e3]⟩;obtain ⟨fz,es,hm⟩:=hm;simp at hm
  have hyr:aaa (InH (s.heap ++ [.loop ⟨.ready,none,n,ps.toList,a,b,env'⟩])) (.map s.heap.length):=by
   simp only [aaa];exact ⟨.loop ⟨.ready,none,n,ps.toList,a,b,env'⟩,by simp,trivial⟩
  have hargs:=abS (abS (AVVl.mono (fun _ x=>x) hsame e6 _ _ hri hfi) (b:=[.map s.heap.length]) (y:=[.func (.yield l) #[] #[]]) (by simp only [AVVl]; exact ⟨_,_,rfl,hy,rfl⟩)) (AVVl.mono (fun _ x=>x) hsame e6 _ _ hrc hca);have hargr:=aav (aav (aac.mono hin _ hri) (b:=[.map s.heap.length]) (by simp only [aac]; exact ⟨hyr,trivial⟩)) (aac.mono hin _ hrc);have hinv:(invoke (.fn (.func g) cv.toArray) (fv.toArray ++ #[.func (.yield l) #[] #[]])).run P w1=.ok (.enter g (fv ++ [(.func (.yield l) #[] #[]:Value)] ++ cv).toArray) w1:=by
   have:=hent (fv ++ [(.func (.yield l) #[] #[]:Value)] ++ cv).toArray w1;simp only [invoke];rw [← this];congr 2;simp
  have hres:(resolve (Act.eval ⟨t,ds⟩) (rangeCall f l) 0).run P w1=.ok (⟨.fn (.func g) cv.toArray,fv.toArray ++ #[.func (.yield l) #[] #[]]⟩:Deferred) w1:=by
   have he:(Act.eval ⟨t,ds⟩) f=acb t f:=by cases f <;> rfl
   have he2:(rangeCall f l).args.map (Act.eval ⟨t,ds⟩)=#[.func (.yield l) #[] #[]]:=by simp [Act.eval]
   simp only [resolve,he2];simp only [he,hfn,Deferred.ofValue];rfl
  have henter:=stepR_rangeFunc (P:=P) (b:=fr) (a:=⟨t,ds⟩) (k:=k) (cs:=cs) (w:=w) (g:=f) (ps:=ps) (assign:=a) (body:=b) e1 hres hinv;obtain ⟨e,w2,fr',⟨cv',β2,Imm2,he,g1,g2,g3⟩,hst,hfn',hlv⟩:=hcall w1 Imm Prot1 β1 _ e2 hargs hargr (fr.atR ⟨t,mk ++ ds⟩ (.inRangeFunc l::k)::cs);subst he;unfold acp at hover
  split at hover
  case h_2=>exact hover.elim
  rename_i L hL;obtain ⟨hbusy,hjump⟩:=hover;obtain ⟨rec,r1,r2,r3,r4,r5,r6,r7,r8,r9⟩:=akp g1.rel hL .exhausted L.pending;have hInL:InH (s.heap ++ [.loop ⟨.ready,none,n,ps.toList,a,b,env'⟩]) (s.heap.length,0):=⟨.loop ⟨.ready,none,n,ps.toList,a,b,env'⟩,by simp,trivial⟩
  have hblk:β2.blk s.heap.length=l:=((g1.step.loop _ hInL ⟨_,hL⟩).2).trans e3;rw [hblk] at r1 r9;have hend:=run_endLoop (P:=P) r1 (by rw [r2]; exact hbusy);have hback:Steps P (lone (fat fr t ds (.code (.rangeFunc f ps a b)::k)) cs w) (lone (fat fr t (mk ++ ds) ((rec.pending.map Item.code).toList ++ k)) cs (w2.putObj l (.loop { rec with state:=.exhausted }))):=by
   refine (Steps.one henter).trans (Steps.trans hst ?_);refine (Steps.one (step_leave_returned hlv)).trans ?_;rw [finish_atR_inRangeFunc];exact .one (stepR_endRangeFunc hend)
  have hback:Steps P (lone (fat fr t ds (.code (.rangeFunc f ps a b)::k)) cs w) (lone (fat fr t (mk ++ ds) ((L.pending.map Item.code).toList ++ k)) cs (w2.putObj l (.loop { rec with state:=.exhausted,pending:=L.pending }))):=by
   rw [← r3]; exact hback
  have hall:Post P Prot1 Imm w1 β1 (s.heap ++ [.loop ⟨.ready,none,n,ps.toList,a,b,env'⟩]) Imm2 _ β2 _:=g1.trans r9;have hrel:SRel P n Prot1 Imm2 β2 ⟨s.env,H2.set s.heap.length (.loop { L with st:=.exhausted })⟩ t (w2.putObj l (.loop { rec with state:=.exhausted,pending:=L.pending })):=by
   refine ⟨hall.rel,fun x=>?_,fun x=>?_,hr.size⟩
   · exact AVV.mono hall.imm (fun k hk=>hall.ext.same k (.inr hk)) hall.step _ _ (aaa.mono hin _ (hr.erefs x)) (AVV.mono (fun _ x=>x) hsame e6 _ _ (hr.erefs x) (hr.env x))
   · exact aaa.mono hall.inn _ (aaa.mono hin _ (hr.erefs x))
  have hadv:Adv N Prot Imm w β s.heap Prot1 Imm2 (w2.putObj l (.loop { rec with state:=.exhausted,pending:=L.pending })) β2 (H2.set s.heap.length (.loop { L with st:=.exhausted })):=e4.trans hall.adv;have hm:Marks fr Prot w Prot1 Imm2 (w2.putObj l (.loop { rec with state:=.exhausted,pending:=L.pending })) ds (mk ++ ds):=e5.trans e4 (Marks.refl _ _ _ _ _ _) hall.adv;unfold agj at hjump
  split at hjump
  · rename_i hp;rw [hp] at hback;exact ⟨.normal,_,Prot1,Imm2,β2,t,_,mk ++ ds,hjump,by rw [hp]; exact hback,hrel,hadv,hm⟩
  · rename_i id hp;rw [hp] at hback;exact ⟨.exit id,_,Prot1,Imm2,β2,t,_,mk ++ ds,hjump,⟨k,rfl,by rw [hp]; exact hback⟩,hrel,hadv,hm⟩
  · rename_i hp;rw [hp] at hback;exact ⟨.ret,_,Prot1,Imm2,β2,t,_,mk ++ ds,hjump,⟨k,by rw [hp]; exact hback⟩,hrel,hadv,hm⟩
  · exact hjump.elim
 | .goto _,_,_,_,_,_,_,_,_,_,_,h,_,_ | .refuse _,_,_,_,_,_,_,_,_,_,_,h,_,_=>by simp [aap] at h
end
end Go.Abs
