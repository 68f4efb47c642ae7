import Derived.Test.YtanjnahmbanmaaaGreatDoorThB
import Derived.Laws.RangeString
import Derived.Lib.UnsafeStr
import Derived.Laws.BytesArg
import Derived.Orders
/- Parts of a proof. -/
set_option linter.unusedSimpArgs false
set_option linter.unusedVariables false
set_option linter.unusedSectionVars false
open Array renaming getElem?_eq_some_iff->aT, getElem?_eq_getElem->a0, ext'->a1, replicate->a6, getElem?_toList->a7, length_toList->a8, getD_eq_getD_getElem?->bb, getD->bd, toList_push->be
open BitVec renaming ofInt->bi
open Bool renaming and_eq_true->bl, or_eq_true->bo, false_eq_true->bp
open Go renaming Program->bv, TypeId->b0, run_underlying->b1, Operand->b2, FuncId->b3, execOp->b4, Value->b5, World->cb, MapEntry->cc, Frame->ce, IntKind->ck, Deferred->cv, BinOp->cx, step_leave_returned->cy, run_storeCells_at->c6, Field->c9, mem_ready->da, setRow_other->db, setRow_heap->dg, getD_set_ne->dk, Steps->dl
open Go.Builtin renaming clear_->dp, unsafeString_->dq, copy_->dx, min2->dy, max2->dz, zeroCells->ea, unsafeSliceData_->eb, min_->ec, max_->ed, lenOf->ee, cap_->ei
open Go.Call renaming operands->ej
open Go.Instr renaming findAsking->em, findNow->en, findKey->eo, checkKey->eq, sameNow->ew, mapUpdate->e6, lookup->e7, next->e8
open Go.MapKept renaming run_getObj_map->e9, bytes_beq->fb
open Go.Op renaming operands->fd
open Go.Region renaming ready->fl, wanted->fm, binds->fv, schedule->gb
open Go.Region.linearise renaming go->gc
open Go.Result renaming andThen_ok->ge, andThen->gg
open Go.Sem renaming run_bind->gi, run_pure->gj, run->gm
open Go.Steps renaming one->gt, trans->gx, refl->gy
open Go.Utf8 renaming decode->g0
open Go.World renaming freeze->g7, cell?->g8
open List renaming getElem?_eq_some_iff->g9, replicate->ha, length_append->hb, getElem?_set_self->hd, getElem?_eq_getElem->he, map_cons->hg, append_nil->hh, mem_cons->hj, all_eq_true->hl, map_nil->hm, contains_iff_mem->hn, any_eq_true->ho, map_append->hp, getElem?_append_left->ht, map_toArray->hu, range->hv, map_map->hw, getElem?_eq_none->hy, mem_of_mem_take->hz, getElem?_set_ne->hA, map_congr_left->hB, getElem?_map->hC, append_assoc->hD, length_eq_zero_iff->hE, mem_of_mem_drop->hF, map->hG, length->hH, mem_map_of_mem->hJ, flatten_append->hK, size_toArray->hL, countP_congr->hM, countP_cons->hN, mem_append->hO, drop_zero->hP, map_id->hQ
open Nat renaming le_refl->hR, lt_trichotomy->hS, lt_irrefl->hT, add_zero->hU, zero_le->hV, le_add_right->hW, strongRecOn->hX, zero_add->hZ, le_total->h0
open Option renaming getD_some->h2
open Option.some renaming injEq->h3, inj->h4
open PUnit renaming unit->h5
open UInt8 renaming toNat_ofNat'->h6, ofNat->h7
namespace Go.az
set_option linter.unusedSectionVars false
variable[Gl]
section
variable{P:bv}{w:cb}{aa ah:Nat->Prop}{β:Bd}{H:aj}
variable{o:Oper}{ρ:b2->AV}{base:Nat}
open Go.MapKept
def mg:PV->Prop
 | .st _ _=>False
 |_=>True
theorem ID{T:b0}{key:PV}(h:mg key)(k:PV):qR P T key k=j0 key k:=by
 cases key<;>first
  |exact h.elim
  |rfl
theorem Rd{T:b0}{key:PV}(h:mg key)(a:List (PV×PV)):lD P T a key=fL P T a key:=by
 cases key<;>first
  |exact h.elim
  |rfl
theorem Fi{T:b0}{key:PV}{b:b5}(h:fM P T key=true)(c:mg key)(a:aB P w aa key b):∃d,P.underlying T=some d/\IsKey d b:=by
 unfold fM at h
 split at h
 ·split at h
  ·rename_i e;simp at h;subst h;simp only[aB]at a;subst a;exact⟨_,e,by simp[IsKey]⟩
  ·simp at h
 ·simp only[aB]at a;obtain⟨bs,rfl,_⟩:=a;exact⟨_,wG h,by simp[IsKey]⟩
 ·exact c.elim
 ·simp at h
theorem J7{T:b0}{d:TypeDesc}(j:P.underlying T=some d){key g:PV}{i v':b5}{r:Bool}(h:fM P T key=true)(p:mg key)(c:j0 key g=some r)(e:aB P w aa key i)(f:aB P w aa g v'):
 ew d i v'=some r/\(r=true->i=v'):=by
 unfold fM at h
 split at h
 ·split at h
  ·rename_i k;simp at h;subst h;rw[j]at k;cases k;cases g<;>simp only[j0]at c<;>try (simp at c;done)
   split at c
   ·rename_i hk;subst hk;simp at c;subst c;simp only[aB]at e f;subst e;subst f;simp[ew]
   ·simp at c
  ·simp at h
 ·rename_i hs;have:=wG h;rw[j]at this;cases this;cases g<;>simp only[j0]at c<;>try (simp at c;done)
  simp at c;subst c;simp only[aB]at e f;obtain⟨a,rfl,e1⟩:=e;obtain⟨b,rfl,e2⟩:=f;subst e1;subst e2;have n:(hG (fun x:UInt8=>x.toNat) a.data.toList=hG (fun x:UInt8=>x.toNat) b.data.toList)↔a=b:=by
   constructor
   ·intro h;have:=zZ h;apply ByteArray.ext;apply a1;exact this
   ·intro h;rw[h]
  by_cases hc:a=b
  ·subst hc;simp[ew,fb]
  ·have l:¬(hG (fun x:UInt8=>x.toNat) a.data.toList=hG (fun x:UInt8=>x.toNat) b.data.toList):=fun h=>hc (n.1 h);have m:(a==b)=false:=by
    cases o:(a==b)with
    |false=>rfl
    |true=>exact(hc ((fb a b).1 o)).elim
   simp[ew,l,m]
 ·exact p.elim
 ·simp at h
theorem BD{T:b0}{d:TypeDesc}(o:P.underlying T=some d){key:PV}{g:b5}(hk:fM P T key=true)(m:mg key)(l:aB P w aa key g):∀(b:List (PV×PV))(a:List cc)(i:Nat)(r:Option PV),cq P w aa b a->fL P T b key=some r->
 (r=none/\en d g a i=some none)\/∃v j e,r=some v/\en d g a i=some (some (i+j,e.val))/\a[j]?=some e/\aB P w aa v e.val/\e.key=g/\
  (∀(x:PV)(k:b5),aB P w aa x k->cq P w aa (gh b key x) (a.modify j fun e=>{e with key:=g,val:=k}))
 |[],a,i,r,f,h=>by
  simp only[cq]at f;simp[fL]at h;subst f;subst h;exact .inl ⟨rfl,rfl⟩
 |(s,v')::b,a,i,r,f,h=>by
  simp only[cq]at f;obtain⟨e,rest,rfl,n,p,q⟩:=f;simp only[fL,ID m]at h
  split at h
  ·rename_i c;simp at h;subst h;obtain⟨g1,g2⟩:=J7 o hk m c l n;refine .inr ⟨v',0,e,rfl,by simp[en,g1],rfl,p,(g2 rfl).symm,fun x k hx=>?_⟩;simp only[gh,c,if_true];simp only[cq];exact⟨_,rest,rfl,l,hx,q⟩
  ·rename_i c;obtain⟨g1,g2⟩:=J7 o hk m c l n;rcases BD o hk m l b rest (i+1) r q h with⟨rfl,f1⟩|⟨v,j,e',rfl,f1,f2,f3,f4,f5⟩
   ·exact .inl ⟨rfl,by simp[en,g1,f1]⟩
   ·refine .inr ⟨v,j+1,e',rfl,by simp[en,g1,f1];omega,by simpa using f2,f3,f4,fun x k hx=>?_⟩;simp only[gh,c];rw[if_neg (by simp)];simp only[cq];exact⟨e,_,by simp[List.modify_succ_cons],n,p,f5 x k hx⟩
  ·simp at h
theorem FV{X:Array b5}{y:b0->PV->PV->Option Bool}(e:Bool)(n:Nat):
 ∀(fs:List c9)(l:List Nat)(b:List PV)(r:Bool)(d:List b5)(o:List (List b5)),lM P y (fs.map (·.type)) b b=some r->(∀f∈fs,f.name≠ "_" /\rU P f.type=true)->
 (∀(i:Nat)(f:c9),fs[i]?=some f->f.offset=d.length+(l.take i).sum)->bg P w aa l b o->
 X.toList=d++o.flatten->(forIn fs h5 (fun f _=>if f.name≠ "_" then(do
  let x<-part f.type X f.offset
  eq e (n+1) f.type x
  pure (ForInStep.yield h5))else pure (ForInStep.yield h5):c9->PUnit->Sem (ForInStep PUnit))).run P w=.ok h5 w
 |[],l,b,r,d,o,_,_,_,_,_=>by simp
 |f::fs,l,b,r,d,o,h,s,t,hx,q=>by
  cases b with
  |nil=>simp[lM]at h
  |cons a b=>
   cases l with
   |nil=>simp[bg]at hx
   |cons m l=>
    simp only[hg,lM]at h
    split at h
    case isFalse=>simp at h
    rename_i hk
    split at h
    case h_2=>simp at h
    rename_i I F H z;obtain⟨c,cs,rfl,hc,A,E⟩:=A1 hx;obtain⟨C,p⟩:=s f (by simp);have D:f.offset=d.length:=by simpa using t 0 f (by simp)
    obtain⟨x,u,J⟩:=ue hk.1 hc (pre:=d) (post:=cs.flatten) (cs:=X) (by rw[q];simp);rw[<-D]at u;have v:(eq e (n+1) f.type x).run P w=.ok () w:=by
     unfold rU at p;unfold eq
     split at p
     ·rename_i k j;simp[b1 j]
     ·rename_i j;simp[b1 j]
     ·rename_i j;simp[b1 j]
     ·cases p
    have G:=FV e n fs l b F (d++c) cs z (fun f hf=>s f (by simp[hf])) (by
     intro i g B;have:=t (i+1) g (by simpa using B);rw[this,List.take_succ_cons,List.sum_cons,hb,A];omega) E (by rw[q];simp)
    rw[List.forIn_cons];simp only[C,ne_eq,not_false_eq_true,if_true,gi,u,v,ge,gj];exact G
theorem QG{T:b0}{bV:Array c9}{u:Nat}{fs:List PV}{g:b5}(b:P.underlying T=some (.struct bV))(j:bV.toList.all (fun f=>f.name != "_" &&rU P f.type)=true)(a:(iC P 9 T (.st u fs) (.st u fs)).isSome=true)(d:aB P w aa (.st u fs) g)(e:Bool):
 (eq e 10000 T g).run P w=.ok () w:=by
 obtain⟨r,a⟩:=Option.isSome_iff_exists.1 a;unfold iC at a;simp only[b]at a
 split at a
 case isFalse=>simp at a
 rename_i hc;obtain⟨hk,-,-,-⟩:=hc;simp only[aB]at d;obtain⟨l,c,k1,k2,rfl⟩:=d;obtain⟨o,p,s1,s2,q,h,s,k⟩:=tE (P:=P) (T:=T) (u:=u) (n:=bV.size) (by unfold fw;rw[hk,b]);rw[b]at s1;cases s1;rw[k1]at h;cases h;have key:=FV (w:=w) (aa:=aa) (X:=c.flatten.toArray) e 9998 bV.toList l fs r [] c a (fun f hf=>by
  have:=hl.1 j f hf;simpa using this) (by
   intro i f hf;have hi:i<bV.size:=by
    have:=(g9.1 hf).1;simpa using this
   obtain⟨m,g1,g2,_⟩:=k i hi;rw[a7,g1]at hf;cases hf;simpa using g2) k2 (by simp)
 unfold eq;simp only[gi,b1 b,ge];rw[<-Array.forIn_toList];rw[key];simp
theorem A5{T:b0}{u:Nat}{fs:List PV}{g:b5}(p:aB P w aa (.st u fs) g):∀(k:List (PV×PV))(f:List cc)(i:Nat)(r:Option PV),cq P w aa k f->fL P T k (.st u fs)=some r->
 (r=none/\(em T g f i).run P w=.ok none w/\∀x n born,aB P w aa x n->cq P w aa (gh k (.st u fs) x) (f++[{key:=g,val:=n,born}]))\/∃(v:PV)(j:Nat)(e:cc),r=some v/\(em T g f i).run P w=.ok (some (i+j,e.val)) w/\aB P w aa v e.val
 |[],f,i,r,m,h=>by
  simp only[cq]at m;simp[fL]at h;subst m;subst h;refine .inl ⟨rfl,by simp[em],fun x n born hx=>?_⟩;simp only[gh,cq];exact⟨_,[],rfl,p,hx,rfl⟩
 |(y,v')::k,f,i,r,m,h=>by
  simp only[cq]at m;obtain⟨e,rest,rfl,s,t,z⟩:=m;simp only[fL]at h;have q:∀b,qR P T (.st u fs) y=some b->(Op.equal T g e.key).run P w=.ok b w/\j0 (.st u fs) y=some b:=by
   intro b l;simp only[qR]at l
   split at l
   ·rename_i a c A hc;cases a<;>cases c<;>simp at l<;>subst l<;>
    ·obtain⟨d,B,hq⟩:=xn T g e.key;rw[hq];exact⟨A8 9 T _ _ _ A _ _ p s _ B,hc⟩
   ·simp at l
  split at h
  ·rename_i o;simp at h;subst h;obtain⟨g1,g2⟩:=q _ o;exact .inr ⟨v',0,e,rfl,by simp[em,g1],t⟩
  ·rename_i o;obtain⟨g1,g2⟩:=q _ o;rcases A5 p k rest (i+1) r z h with⟨rfl,f1,f2⟩|⟨v,j,e',rfl,f1,f3⟩
   ·refine .inl ⟨rfl,by simp[em,g1,f1],fun x n born hx=>?_⟩;simp only[gh,g2];rw[if_neg (by simp)];simp only[cq];exact⟨e,_,rfl,s,t,f2 x n born hx⟩
   ·refine .inr ⟨v,j+1,e',rfl,?_,f3⟩;simp[em,g1,f1];omega
  ·simp at h
theorem BE{T:b0}{bV:Array c9}(c:P.underlying T=some (.struct bV)){b:b5}{a:List cc}{f:Option (Nat×b5)}(h:(em T b a 0).run P w=.ok f w):(eo T b a).run P w=.ok f w:=by
 unfold eo;simp only[gi,b1 c,ge];cases a with
 |nil=>
  simp only[en];simpa[em]using h
 |cons e es=>
  have:en (.struct bV) b (e::es) 0=none:=by simp[en,ew]
  rw[this];exact h
theorem Ay{T:b0}{key:PV}(h:fM P T key=true)(a:¬mg key):∃u fs bV,key= .st u fs/\P.underlying T=some (.struct bV)/\bV.toList.all (fun f=>f.name != "_" &&rU P f.type)=true/\(iC P 9 T (.st u fs) (.st u fs)).isSome=true:=by
 cases key<;>first
  |exact(a trivial).elim
  |skip
 rename_i u fs;simp only[fM]at h
 split at h
 ·rename_i bV b;rw[bl]at h;exact⟨u,fs,bV,rfl,b,h.1,h.2⟩
 ·cases h
theorem I9{T:b0}{key:PV}{g:b5}(hk:fM P T key=true)(f:aB P w aa key g){b:List (PV×PV)}{a:List cc}{r:Option PV}(l:cq P w aa b a)(h:fL P T b key=some r):
 (∀e,(eq e 10000 T g).run P w=.ok () w)/\
 ((r=none/\(eo T g a).run P w=.ok none w)\/∃(v:PV)(j:Nat)(e:cc),r=some v/\(eo T g a).run P w=.ok (some (j,e.val)) w/\aB P w aa v e.val):=by
 by_cases i:mg key
 ·obtain⟨d,c,o⟩:=Fi hk i f;refine⟨fun e=>run_checkKey c o _ 9999,?_⟩;rcases BD c hk i f b a 0 r l h with⟨rfl,f1⟩|⟨v,j,e,rfl,f1,f2,f3,f4,_⟩
  ·exact .inl ⟨rfl,run_findKey c f1⟩
  ·exact .inr ⟨v,0+j,e,rfl,run_findKey c f1,f3⟩
 ·obtain⟨u,fs,bV,rfl,k,m,n⟩:=Ay hk i;refine⟨fun e=>QG k m n f e,?_⟩;rcases A5 f b a 0 r l h with⟨rfl,f1,_⟩|⟨v,j,e,rfl,f1,f3⟩
  ·exact .inl ⟨rfl,BE k f1⟩
  ·exact .inr ⟨v,0+j,e,rfl,BE k f1,f3⟩
theorem FN{T:b0}{key x:PV}{g i:b5}(d:aB P w aa key g)(hx:aB P w aa x i)(born:Nat):∀(a:List (PV×PV))(c:List cc),mg key->cq P w aa a c->fL P T a key=some none->cq P w aa (gh a key x) (c++[{key:=g,val:=i,born}])
 |[],c,_,b,_=>by
  simp only[cq]at b;subst b;simp only[gh,cq];exact⟨_,[],rfl,d,hx,rfl⟩
 |(n,v')::a,c,f,b,h=>by
  simp only[cq]at b;obtain⟨e,rest,rfl,j,k,l⟩:=b;simp only[fL,ID f]at h
  split at h
  ·simp at h
  ·rename_i m;simp only[gh,m];rw[if_neg (by simp)];simp only[cq];exact⟨e,_,rfl,j,k,FN (T:=T) d hx born a rest f l h⟩
  ·simp at h
def sC(ok:Bool)(z:PV):Option PV->PV
 |some v=>if ok then .aA [v,.bool true]else v
 |none=>if ok then .aA [z,.bool false]else z
theorem SE{T:b0}{c E:b0}{x i:b2}{ok:Bool}{key z:PV}{r:Option PV}{k:List (PV×PV)}(C:o.op= .lookup T x i ok)(g:kJ P T=some (c,E))(F:ch P E=some z)(hk:fM P c key=true)(B:fL P c k key=some r)
 {ρc:b2->b5}(A:aB P w aa key (ρc i))(hx:(ρc x=.map none/\k=[])\/∃b a d,ρc x=.map (some b)/\w.heap[b]?=some (.map a d)/\cq P w aa k a.toList):
 ∃p,(b4 ρc o).run P w=.ok (.value p) w/\aB P w aa (sC ok z r) p:=by
 have m:P.underlying T=some (.map c E):=by
  unfold kJ at g
  split at g
  ·rename_i D;simp at g;rw[D,g.1,g.2]
  ·simp at g
 obtain⟨t,z1,z2⟩:=Tc F;obtain⟨a,s,n⟩:∃a:Array cc,((ρc x=.map none/\a=#[])\/∃b d,ρc x=.map (some b)/\w.heap[b]?=some (.map a d))/\cq P w aa k a.toList:=by
  rcases hx with⟨hx,rfl⟩|⟨b,a,d,hx,h,n⟩
  ·exact⟨#[],.inl ⟨hx,rfl⟩,by simp[cq]⟩
  ·exact⟨a,.inr ⟨b,d,hx,h⟩,n⟩
 obtain⟨l,u⟩:=I9 hk A n B
 have q:∀(f:Option (Nat×b5))(v:b5)(b:Bool),(eo c (ρc i) a.toList).run P w= .ok f w->(f=none/\v=t/\b=false\/∃j,f=some (j,v)/\b=true)->
  (b4 ρc o).run P w=.ok (.value (if ok then .tuple #[v,.bool b]else v)) w:=by
  intro f v b hf y;simp only[b4,C];refine eM ?_;rcases y with⟨rfl,rfl,rfl⟩|⟨j,rfl,rfl⟩
  ·rcases s with⟨hx,rfl⟩|⟨b,d,hx,h⟩
   ·have hf:(eo c (ρc i) []).run P w=.ok none w:=hf;cases ok<;>simp[e7,b1 m,hx,l,hf,z1]
   ·cases ok<;>simp[e7,b1 m,hx,e9 h,l,hf,z1]
  ·rcases s with⟨hx,rfl⟩|⟨b,d,hx,h⟩
   ·have hf:(eo c (ρc i) []).run P w=.ok (some (j,v)) w:=hf;cases ok<;>simp[e7,b1 m,hx,l,hf]
   ·cases ok<;>simp[e7,b1 m,hx,e9 h,l,hf]
 rcases u with⟨rfl,f1⟩|⟨v,j,e,rfl,f1,f3⟩
 ·refine⟨_,q none t false f1 (.inl ⟨rfl,rfl,rfl⟩),?_⟩;cases ok with
  |true=>simp only[sC,if_true,aB,bE];exact⟨_,⟨_,_,rfl,z2 w aa,_,_,rfl,rfl,rfl⟩,rfl⟩
  |false=>simpa[sC]using z2 w aa
 ·refine⟨_,q _ e.val true f1 (.inr ⟨_,rfl,rfl⟩),?_⟩;cases ok with
  |true=>simp only[sC,if_true,aB,bE];exact⟨_,⟨_,_,rfl,f3,_,_,rfl,rfl,rfl⟩,rfl⟩
  |false=>simpa[sC]using f3
theorem tP{T:b0}{c E:b0}{x g:b2}{ok:Bool}{key z:PV}{r:Option PV}{es:List (PV×PV)}{ak:List (Nat×Obj)}(f:o.op= .lookup T x g ok)(n:kJ P T=some (c,E))(u:ch P E=some z)(hi:ρ g= .p key)(hk:fM P c key=true)(q:fL P c es key=some r)
 (hx:(ρ x=.p .fq/\es=[])\/ρ x=.p (.eH es)\/∃b fz,ρ x=.map b/\(b,.map fz es)∈ak):
 bn P o ρ base {v:=.p (sC ok z r),ak}:=by
 refine bn.same fun H w aa ah β y t i ak=>?_;have a:=(i x (by simp[f,fd])).1;have e:=(i g (by simp[f,fd])).1;rw[hi]at e;simp only[aw]at e;obtain⟨j,c1,c2⟩:=SE f n u hk q (ρc:=y) (w:=w) (aa:=aa) e (by
  rcases hx with⟨hx,rfl⟩|hx|⟨b,fz,hx,s⟩
  ·rw[hx]at a;simp only[aw,aB]at a;exact .inl ⟨a,rfl⟩
  ·rw[hx]at a;simp only[aw,aB]at a;obtain⟨b,d,clock,_,k,l,m⟩:=a;exact .inr ⟨b,d,clock,m,k,l⟩
  ·rw[hx]at a;simp only[aw,bJ,bM]at a;have h:=ak _ s;obtain⟨d,clock,k1,k2,_⟩:=t.cr b _ h;exact .inr ⟨_,d,clock,a.2.1 ⟨_,_,h⟩,k1,k2⟩)
 exact⟨j,c1,by simpa only[aw]using c2,by simp[aD]⟩
theorem Sx{T:b0}(e:o.op=.makeMap T none):bn P o ρ base {v:=.map base,aQ:=[.map false []]}:=by
 intro H w aa ah β i b j _ d;have a:H[base]?=some .hole:=by simpa using d 0 (by simp)
 have g:(b4 i o).run P w=.ok (.value (.map (some w.heap.size))) {w with heap:=w.heap.push (.map #[] 0)}:=by
  simp only[b4,e];exact tC (by simp[Instr.makeMap])
 have f:=rH (cap:=0) b a (ob:=.map #[] 0) (o':=.map false [])
  ⟨#[],0,by simp[Bd.at],by simp[cq],by
   simp only[cm,Bd.at,if_true,bp,if_false];exact⟨fun h=>hT _ (b.bL _ h),fun h=>hT _ (b.dY _ h)⟩⟩ trivial
 refine⟨_,_,_,_,aa,g,.inl rfl,f,?_,?_⟩
 ·simp only[aw,bJ,bM,kV];exact⟨rfl,fun _=>by simp[Bd.at],fun⟨L,c⟩=>by rw[hd (g9.1 a).1]at c;cases c⟩
 ·simp only[aD,kV];exact⟨_,hd (g9.1 a).1,trivial⟩
theorem Ie(f:bN P w aa β H ah){b:Nat}{o o':Obj}(a:H[b]?=some o)(i:o.live)(j:o'.live)(n:∀v,o.has v->o'.has v)(l:∀L,o≠ .loop L){ob:Go.Obj}
 (_hb:β.al b<w.heap.size)(e:¬aa (β.al b)/\¬ah (β.al b))(aK:cd β H β (H.set b o'))
 (p:fe P {w with heap:=w.heap.setIfInBounds (β.al b) ob} aa β (H.set b o') ah b o')(q:o'.refs (aF (H.set b o'))):
 bP P ah aa w β H aa {w with heap:=w.heap.setIfInBounds (β.al b) ob} β (H.set b o'):=by
 refine bP.set f (g9.1 a).1 (fun _ _=>⟨rfl,rfl⟩) (fun _ x=>x) (fun _ x=>.inl x) (fun k hk=>by simpa using f.bL k hk) (by simp)
  (fun k hk _=>?_) (fun _=>.inr ⟨rfl,⟨o,a,i⟩,.inr e.1,e.2⟩) aK p q (fun r v c g=>by rw[a]at c;cases c;exact n v g) (fun L d=>by rw[a]at d;cases d;exact(l L rfl).elim)
 have m:k≠β.al b:=hk.resolve_right (fun h=>h j);simp[Ne.symm m]
theorem Fo{T t E:b0}{m k x:b2}{b:Nat}{key v:PV}{a:List (PV×PV)}{r:Option PV}(g:o.op= .mapUpdate T m k x\/o.op= .insert T m k x)(z:kJ P T=some (t,E))(ac:ρ m= .map b)(hk:ρ k= .p key)(hx:ρ x= .p v)
 (hf:fM P t key=true)(f:lD P t a key=some r):bn P o ρ base {v:=.p (.aA []),ak:=[(b,.map false a)],aI:=[(b,.map false (gh a key v))]}:=by
 have N:P.underlying T=some (.map t E):=by
  unfold kJ at z
  split at z
  ·rename_i O;simp at z;rw[O,z.1,z.2]
  ·simp at z
 intro H w aa ah β c U Q ak _;have G:H[b]?=some (.map false a):=by simpa using ak
 have M:m∈o.op.operands/\k∈o.op.operands/\x∈o.op.operands:=by
  rcases g with g|g<;>simp[g,fd]
 have l:=(Q m M.1).1;have q:=(Q k M.2.1).1;have B:=(Q x M.2.2).1;rw[ac]at l;rw[hk]at q;rw[hx]at B;simp only[aw,bJ,bM]at l q B;have l:=l.2.1 ⟨_,_,G⟩;obtain⟨i,clock,k1,k2,k3⟩:=U.cr b _ G;have S:¬aa (β.al b)/\¬ah (β.al b):=by
  unfold cm at k3;rw[if_neg (by simp)]at k3;exact k3
 have F:fL P t a key=some r:=by
  by_cases s:mg key
  ·rw[<-Rd s];exact f
  ·obtain⟨u,fs,bV,rfl,_⟩:=Ay hf s;simp only[lD]at f
   split at f
   ·rename_i hq;rw[hq];exact f
   ·cases f
 have K:=(I9 hf q k2 F).1 false;have R:β.al b<w.heap.size:=(aT.1 k1).1;have aK:cd β H β (H.set b (.map false (gh a key v))):=nY G (.inr (.inr (.inl ⟨_,_,_,_,rfl,rfl⟩)))
 have J:∀(y:Array cc)(A:Nat),(e6 T (c m) (c k) (c x)).run P w= .ok () {w with heap:=w.heap.setIfInBounds (β.al b) (.map y A)}->cq P w aa (gh a key v) y.toList->
  ∃n I w' aG aE,(b4 c o).run P w=.ok n w'/\(n=.value I\/n=.skip/\I=undef)/\
  bP P ah aa w β H aE w' aG (bk H ([(b,.map false (gh a key v))]++newAt base []))/\aw P w' aE aG (bk H ([(b,.map false (gh a key v))]++newAt base [])) (.p (.aA [])) I/\
  aD (aF (bk H ([(b,.map false (gh a key v))]++newAt base []))) (.p (.aA [])):=by
  intro y A af ad;have X:(b4 c o).run P w=.ok .skip {w with heap:=w.heap.setIfInBounds (β.al b) (.map y A)}:=by
   rcases g with g|g<;>simp[b4,g,af]
  have ag:∀D,aa D->({w with heap:=w.heap.setIfInBounds (β.al b) (.map y A)}:cb).heap[D]?=w.heap[D]?:=by
   intro D ab;have:β.al b≠D:=fun W=>S.1 (W▸ab);simp[this]
  refine⟨_,_,_,β,aa,X,.inr ⟨rfl,rfl⟩,?_,by simp[aw,aB,bE,undef],by simp[aD]⟩;simp only[newAt,hh,bk];exact Ie (o':=.map false (gh a key v)) U G trivial trivial (fun _ h=>h) (fun _ h=>by cases h) R S aK ⟨y,A,by simp[R],cq.mono (fun _ x=>x) ag _ _ ad,k3⟩ trivial
 by_cases s:mg key
 case neg=>
  obtain⟨u,fs,bV,rfl,O,_,_⟩:=Ay hf s;have ae:r=none:=by
   simp only[lD]at f
   split at f
   ·simpa using f.symm
   ·cases f
  subst ae;rcases A5 q a i.toList 0 none k2 F with⟨_,f1,f2⟩|⟨v',j,e,V,_⟩
  ·have C:=BE O f1;refine J (i.push {key:=c k,val:=c x,born:=clock}) (clock+1) ?_ ?_
   ·rw[l];simp only[e6,gi,b1 N,ge,e9 k1,K,C,run_setObj_map _ k1]
   ·rw[be];exact f2 v (c x) clock B
  ·cases V
 obtain⟨d,L,Y⟩:=Fi hf s q;rcases BD L hf s q a i.toList 0 r k2 F with⟨rfl,f1⟩|⟨v',j,e,rfl,f1,f2,f3,f4,f5⟩
 ·have C:=run_findKey (w:=w) L f1;refine J (i.push {key:=c k,val:=c x,born:=clock}) (clock+1) ?_ ?_
  ·rw[l];simp only[e6,gi,b1 N,ge,e9 k1,K,C,run_setObj_map _ k1]
  ·rw[be];exact FN (T:=t) q B clock a i.toList s k2 F
 ·have C:=run_findKey (w:=w) L f1;have Z:i[j]?=some e:=by simpa using f2
  refine J (i.modify j fun e=>{e with key:=c k,val:=c x}) clock ?_ ?_
  ·rw[l];simp only[e6,gi,b1 N,ge,e9 k1,K,C];simp only[hZ,Z,Option.map_some,h2,f4,run_keyThatStays Y,ge,run_setObj_map _ k1]
  ·rw[Array.toList_modify];exact f5 v (c x) B
end
section
variable{P:bv}{w:cb}{aa ah:Nat->Prop}{β:Bd}{H:aj}
variable{o:Oper}{ρ:b2->AV}{base:Nat}
theorem Rv(bs:ByteArray):ga (iG bs)=bs:=by
 unfold ga iG;apply ByteArray.ext;apply a1;simp only[hw];have:(h7∘fun x:UInt8=>x.toNat)=id:=by funext x;simp
 rw[this];simp
theorem UX{T:b0}{x:b2}{s:List Nat}(d:o.op=.range T x)(hx:ρ x=.p (.str s))(e:ia P T=true):bn P o ρ base {v:=.ptr base [],aQ:=[.dc s 0]}:=by
 intro H w aa ah β k b j _ f;have c:H[base]?=some .hole:=by simpa using f 0 (by simp)
 have a:=(j x (by simp[d,fd])).1;rw[hx]at a;simp only[aw,aB]at a;obtain⟨bs,e1,e2⟩:=a;have i:(b4 k o).run P w=.ok (.value (.pointer (some ⟨w.heap.size,0,none⟩))) {w with heap:=w.heap.push (.stringIter bs 0)}:=by
  simp only[b4,d,e1];exact tC (by simp[Instr.range,b1 (wG e)])
 have g:=rH (cap:=0) b c (ob:=.stringIter bs 0) (o':=.dc s 0)
  ⟨bs,by simp[Bd.at],e2,by
   simp only[cm,Bd.at,if_true,bp,if_false];exact⟨fun h=>hT _ (b.bL _ h),fun h=>hT _ (b.dY _ h)⟩⟩ trivial
 refine⟨_,_,_,_,aa,i,.inl rfl,g,?_,?_⟩
 ·simp only[aw,bJ,bM,kV];exact⟨rfl,_,_,0,rfl,rfl,fun _=>by simp[Bd.at]⟩
 ·simp only[aD,kV];exact⟨_,hd (g9.1 c).1,trivial⟩
theorem aFk{it:b2}{b:Nat}{s:List Nat}{pos:Nat}(g:o.op= .next it true)(hx:ρ it= .ptr b []):
 (pos<s.length->bn P o ρ base {v:=.p (.aA [.bool true,.int .i64 pos,.int .i32 (g0 (ga s) pos).1]),ak:=[(b,.dc s pos)],aI:=[(b,.dc s (pos+(g0 (ga s) pos).2))]})/\
 (¬pos<s.length->bn P o ρ base {v:=.p (.aA [.bool false]),ak:=[(b,.dc s pos)]}):=by
 have key:∀{H:aj}{w:cb}{aa ah:Nat->Prop}{β:Bd}{e:b2->b5},bN P w aa β H ah->(∀x∈o.op.operands,aw P w aa β H (ρ x) (e x)/\aD (aF H) (ρ x))->H[b]?=some (.dc s pos)->
  e it=.pointer (some ⟨β.al b,0,none⟩)/\∃bs:ByteArray,w.heap[β.al b]?=some (.stringIter bs pos)/\s=iG bs/\(¬aa (β.al b)/\¬ah (β.al b)):=by
  intro H w aa ah β e d f a;have c:=(f it (by simp[g,fd])).1;rw[hx]at c;simp only[aw,bJ,bM]at c;obtain⟨_,al,off,t,m,k,n⟩:=c;simp[fS]at k;subst k;obtain⟨rfl,rfl⟩:=n (.inr ⟨_,_,a⟩);obtain⟨bs,k1,k2,k3⟩:=d.cr b _ a;unfold cm at k3;rw[if_neg (by simp)]at k3;exact⟨m,bs,k1,k2,k3⟩
 constructor
 ·intro i H w aa ah β e d f ak _;have a:H[b]?=some (.dc s pos):=by simpa using ak
  obtain⟨c,bs,k1,rfl,k3⟩:=key d f a;have j:pos<bs.size:=by simpa[iG]using i
  have l:β.al b<w.heap.size:=(aT.1 k1).1;rw[Rv];have r:(b4 e o).run P w=.ok (.value (.tuple #[.bool true,goInt pos,.int .i32 (g0 bs pos).1])) {w with heap:=w.heap.setIfInBounds (β.al b) (.stringIter bs (pos+(g0 bs pos).2))}:=by
   simp only[b4,g,c];refine tC ?_;simp[e8,getObj,setObj,gm,k1,gg,j]
  have aK:cd β H β (H.set b (.dc (iG bs) (pos+(g0 bs pos).2))):=nY a (.inr (.inr (.inr ⟨_,_,_,rfl,rfl⟩)));have q:=Ie (o':=.dc (iG bs) (pos+(g0 bs pos).2)) (ob:=.stringIter bs (pos+(g0 bs pos).2)) d a trivial trivial (fun _ h=>h) (fun _ h=>by cases h) l k3 aK
   ⟨bs,by simp[l],rfl,by unfold cm;rw[if_neg (by simp)];exact k3⟩ trivial
  refine⟨_,_,_,β,aa,r,.inl rfl,?_,?_,by simp[aD]⟩
  ·simpa only[newAt,hh,bk]using q
  ·simp only[aw,aB,bE];exact⟨_,⟨_,_,rfl,rfl,_,_,rfl,rfl,_,_,rfl,rfl,rfl⟩,rfl⟩
 ·intro i;refine bn.same fun H w aa ah β e d f ak=>?_;have a:H[b]?=some (.dc s pos):=by simpa using ak
  obtain⟨c,bs,k1,rfl,k3⟩:=key d f a;have j:¬pos<bs.size:=by simpa[iG]using i
  refine⟨.tuple #[.bool false],?_,by simp only[aw,aB,bE];exact⟨_,⟨_,_,rfl,rfl,rfl⟩,rfl⟩,by simp[aD]⟩;simp only[b4,g,c];refine eM ?_;simp[e8,getObj,gm,k1,gg,j]
theorem UY{T u:b0}{x:b2}{f:Nat}{fs:Array c9}{t g:PV}{F:b0}(h:o.op= .field T x f)(hk:kindOf P T= .agg u)(b:P.underlying T=some (.struct fs))(hx:ρ x= .p t)(hs:aJ t= .agg u)(e:(bV t)[f]?=some g)(m:(jg P u)[f]?=some F)(q:kindOf P F=aJ g):
 bn P o ρ base {v:=.p g}:=by
 refine bn.same fun H w aa ah β I C s _=>?_;have a:=(s x (by simp[h,fd])).1;rw[hx]at a;simp only[aw]at a;cases t<;>simp[aJ]at hs;rename_i u' k;subst hs;simp only[bV]at e;simp only[aB]at a;obtain⟨l,d,k1,k2,k3⟩:=a;obtain⟨B,D,s1,s2,E,j,G,z⟩:=tE (P:=P) (T:=T) (u:=u') (n:=fs.size) (by unfold fw;rw[hk,b]);rw[b]at s1;cases s1;rw[k1]at j;cases j;have r:bG P w aa ⟨id,id⟩ [] l (k.map .p) d:=mR.2 k2;obtain⟨pre,c,post,e1,e2,e3,e4,e5,_⟩:=rR (f:=.p g) (i:=f) r (by simp[e]);simp only[bh]at e5;obtain⟨A,g1,g2,g3,g4,g5⟩:=z f (by omega);rw[m]at g5;cases g5;obtain⟨y,y1,y2⟩:=ue q e5 (pre:=pre) (post:=post) (cs:=d.flatten.toArray) (by simpa using e1);refine⟨y,?_,by simpa only[aw]using y2,by simp[aD]⟩;simp only[b4,h,k3];refine eM ?_;rw[e2,<-g2]at y1;simp only[Instr.field,gi,b1 b,ge,g1];simp[asAgg,y1]
theorem Sc{T u:b0}{n:Nat}{x k:b2}{O:ck}{i:Int}{a:List PV}{g:PV}{F:b0}(j:o.op= .index T x k)(A:gT P T=some (u,n))(hx:ρ x= .p (.st u a))(hi:ρ k= .p (.int O i))
 (z:0<=i)(J:i.toNat<n)(h:(jg P u)[i.toNat]?=some F)(E:a[i.toNat]?=some g)(G:kindOf P F=aJ g):bn P o ρ base {v:=.p g}:=by
 refine bn.same fun H w aa ah β R Q t _=>?_;have b:=(t x (by simp[j,fd])).1;have d:=(t k (by simp[j,fd])).1;rw[hx]at b;rw[hi]at d;simp only[aw,aB]at b d;obtain⟨l,m,k1,k2,k3⟩:=b;obtain⟨e,s,hk,r,K⟩:=tQ A;rw[k1]at r;cases r;have B:F=e:=by
  obtain⟨D,_,_⟩:=Aw hk;have C:(P.info? u).map (fun i:TypeInfo=>i.desc)=some (.array n e):=by rw[D,<-Ad,s]
  unfold jg at h;rw[C]at h;have q:(ha n e)[i.toNat]?=some F:=h;rw[List.getElem?_replicate,if_pos J]at q;exact(h4 q).symm
 subst B;have L:bG P w aa ⟨id,id⟩ [] (ha n (P.cellsOf F)) (a.map .p) m:=mR.2 k2;obtain⟨pre,c,post,e1,e2,e3,e4,e5,_⟩:=rR (f:=.p g) (i:=i.toNat) L (by simp[E]);simp only[bh]at e5;obtain⟨y,y1,y2⟩:=ue G e5 (pre:=pre) (post:=post) (cs:=m.flatten.toArray) (by simpa using e1);have M:((ha n (P.cellsOf F)).take i.toNat).sum=i.toNat*P.cellsOf F:=by rw[List.take_replicate,Nat.min_eq_left (by omega),List.sum_replicate_nat]
 have N:(sizeOf F).run P w=.ok (P.cellsOf F) w:=by
  cases hi:P.info? F with
  |none=>simp[Program.cellsOf,hi]at K
  |some i=>simp[sizeOf,typeInfo,hi,Program.cellsOf]
 refine⟨y,?_,by simpa only[aw]using y2,by simp[aD]⟩;simp only[b4,j,k3,d];refine eM ?_;have I:i<(n:Int):=by omega
 rw[e2,M]at y1;simp only[Instr.index,asIntOf,gi,gj,b1 s,ge];simp[z,I,N,y1]
theorem Fy{k:ck}{f:Bool}{ρc:b2->b5}:∀(l:List b2)(a n:Int),ln k f (l.map ρ) a=some n->(∀x∈l,aw P w aa β H (ρ x) (ρc x))->
 ((l.map ρc).foldlM (if f then dz else dy) (.int k a)).run P w=.ok (.int k n) w
 |[],a,n,h,_=>by simp[ln]at h;subst h;simp
 |x::l,a,n,h,g=>by
  simp only[hg]at h;unfold ln at h
  split at h
  ·rename_i e;cases e
  ·rename_i j b r a' e;simp at e;obtain⟨e1,rfl⟩:=e
   split at h
   case isFalse=>simp at h
   rename_i hk;subst hk;have d:=g x (by simp);rw[e1]at d;simp only[aw,aB]at d;have c:=Fy l _ n h (fun y i=>g y (by simp[i]));simp only[hg,List.foldlM_cons,gi,d];cases f with
   |true=>simp only[if_true,dz,gj,ge]at c⊢;exact c
   |false=>simp only[bp,if_false,dy,gj,ge]at c⊢;exact c
  ·simp at h
theorem GX{c:Call}{isMax:Bool}{k:ck}{a n:Int}{r:List AV}(m:o.op= .call c)(hc:c.callee= .builtin (if isMax then .max else .min))(b:c.args.toList.map ρ= .p (.int k a)::r)(h:ln k isMax r a=some n):
 bn P o ρ base {v:=.p (.int k n)}:=by
 obtain⟨x,l,i⟩:∃x l,c.args.toList=x::l:=by
  cases s:c.args.toList with
  |nil=>rw[s]at b;simp at b
  |cons x l=>exact⟨x,l,rfl⟩
 rw[i]at b;simp at b;obtain⟨hx,rfl⟩:=b;have g:c.args=(x::l).toArray:=by apply a1;simpa using i
 have j:∀y∈x::l,y∈o.op.operands:=by
  intro y f;rw[m];simp only[fd,ej,hc,g];simpa using f
 refine bn.same fun H w aa ah β t u q _=>⟨.int k n,?_,by simp[aw,aB],by simp[aD]⟩
 have d:=(q x (j x (by simp))).1;rw[hx]at d;simp only[aw,aB]at d;have e:=Fy (ρc:=t) l a n h (fun y f=>(q y (j y (by simp[f]))).1);simp only[b4,m,resolve,hc,g];cases isMax with
 |true=>
  simp only[if_true]at e⊢;simp[invoke,builtin,ed,d,e]
 |false=>
  simp only[bp,if_false]at e⊢;simp[invoke,builtin,ec,d,e]
theorem aFg{c:Call}{d x:b2}{sz b ar off len:Nat}{k:AK}{f g:List AV}{H0:aj}(V:o.op= .call c)(hc:c.callee= .builtin .copy)(Q:c.args.toList=[d,x])(av:c.argTypes.size=2)(t:cz P (c.argTypes.getD 0 0)=some sz)
 (ad:ρ d=.sl b ar sz off len)(hx:gA H0 (ρ x)=some g)(au:eZ P sz g)(hk:k≠.frozen)(G:off+len<=f.length)(C:¬cR k f):
 bn P o ρ base {v:=.p (.int .i64 (min g.length len:Nat)),ak:=(b,.arr k ar sz f)::dt H0 (ρ x),aI:=[(b,.arr k ar sz (f.take off++g.take (min g.length len)++f.drop (off+min g.length len)))]}:=by
 obtain⟨T,X,O⟩:∃T X,c.argTypes=#[T,X]:=by
  obtain⟨l,G⟩:∃l,l=c.argTypes.toList:=⟨_,rfl⟩
  have s:l.length=2:=by rw[G];simpa using av
  match l,s with
  |[a,b],_=>exact⟨a,b,by apply a1;simp[<-G]⟩
 have I:d∈o.op.operands/\x∈o.op.operands:=by
  have ac:c.args=#[d,x]:=by apply a1;simpa using Q
  rw[V];simp[fd,ej,hc,ac]
 have e1:c.argTypes.getD 0 0=T:=by rw[O];rfl
 rw[e1]at t;obtain⟨e,i,t⟩:=jM t;intro H w aa ah β ab D M ak _;have r:H[b]?=some (.arr k ar sz f):=ak (b,_) (by simp);have j:=(M d I.1).1;rw[ad]at j;simp only[aw,bJ,bM]at j;obtain⟨_,_,j⟩:=j.2 k f r;have j:=j C;rcases D.cr b _ r with hold|⟨cs,E,aG,rest,k1,k2,k3,k4,k5,k6,k7,k8⟩
 ·exact(C hold).elim
 have S:¬aa (β.al b)/\¬ah (β.al b):=by
  unfold cm at k7;rw[if_neg (by simpa using hk)]at k7;exact k7
 obtain⟨aE,ay,az,aA,aC⟩:=um (abi hx (fun p an=>ak p (List.mem_cons_of_mem _ an))) D (M x I.2).1 (M x I.2).2 au;obtain⟨n,U⟩:∃n,n=min g.length len:=⟨_,rfl⟩
 rw[<-U];have Z:=aC w rfl n (by omega);obtain⟨y,m,z,g1,g2,g3,g4,g5⟩:=jy ay 0 n (by omega);have ax:y=[]:=by have:=(fH g4).1;simpa using this
 subst ax;have ai:aE.take n=m:=by
  have:=(fH g2).1;rw[g1];simp at this⊢;rw[List.take_left' (by omega)]
 rw[ai]at Z;simp only[hP]at g2;obtain⟨a,N,q,f1,f2,f3,f4,f5⟩:=jy k2 off n (by omega);have J:m.flatten.length=n*sz:=by have:=(fH g2).2;rw[this];congr 1;simp;omega
 have K:N.flatten.length=n*sz:=by have:=(fH f2).2;rw[this];congr 1;simp;omega
 have R:cs.toList=a.flatten++N.flatten++(q.flatten++rest):=by rw[k3,f1];simp
 have Y:cs.size=a.flatten.length+N.flatten.length+(q.flatten++rest).length:=by
  have:=congrArg hH R;simp only[hb,a8]at this;rw[this,hb]
 have L:=c6 P (β.al b) (off*sz) E m.flatten 0 cs w k1 (by rw[Y,f3,J,K];simp only[hU];exact hW _ _) (uz g2);simp only[hU]at L;have aQ:cs.toList.take (off*sz)++m.flatten++cs.toList.drop (off*sz+m.flatten.length)=a.flatten++m.flatten++(q.flatten++rest):=by
  rw[R,<-f3,J,<-K];exact Ae _ _ _ _
 rw[aQ]at L;have ap:(dx c.argTypes o.type #[ab d,ab x]).run P w=.ok (goInt n) (w.setRow (β.al b) (a.flatten++m.flatten++(q.flatten++rest)).toArray):=by
  rw[O,j];have al:Nat.min g.length len=n:=U.symm;have aH:∀(p:Option Addr)(n c:Nat),ee (.slice p n c)=pure n:=fun _ _ _=>rfl;simp[dx,b1 t.gd,aA,al,t.run,Z,L]
 have B:(f.take off++g.take n++f.drop (off+n)).length=f.length:=by simp;omega
 have aK:cd β H β (H.set b (.arr k ar sz (f.take off++g.take n++f.drop (off+n)))):=nY r (.inr (.inl ⟨_,_,_,_,_,rfl,rfl,B.symm⟩));have aq:∀A,aa A->(w.setRow (β.al b) (a.flatten++m.flatten++(q.flatten++rest)).toArray).heap[A]?=w.heap[A]?:=fun A ag=>db w _ A _ (fun F=>S.1 (F▸ag));have hrefs:aU (aF H) (f.take off++g.take n++f.drop (off+n)):=by
  have W:=cK.1 (D.refs b _ r);refine jx (jx ?_ ?_) ?_
  ·rw[cK];exact fun v u=>W v (hz u)
  ·rw[cK];exact fun v u=>cK.1 az v (hz u)
  ·rw[cK];exact fun v u=>W v (hF u)
 have ae:=ly r (o:=.arr k ar sz (f.take off++g.take n++f.drop (off+n))) (fun _ h=>h);have am:¬cR k (f.take off++g.take n++f.drop (off+n)):=fun h=>C ⟨h.1,by have s:=h.2;rw[<-hE]at s⊢;rw[B]at s;exact s⟩;have ao:=o9 D r C (o':=.arr k ar sz (f.take off++g.take n++f.drop (off+n))) am (fun _ h=>h) k1 (new:=(a.flatten++m.flatten++(q.flatten++rest)).toArray) S aK
  (.inr ⟨_,E,a++m++q,rest,dg w _ _ _ E _ k1,by
   refine Row.mono (fun _ x=>x) aq aK hrefs (kz.2 ⟨_,_,rfl,kz.2 ⟨_,_,rfl,f4,g2⟩,f5⟩),by simp,by
   rw[<-k4,Y];simp only[hL,hb,J,K],by rw[B];exact k5,fun F=>by rw[B];exact k6 F,k7,(fun af=>(hk af).elim),k8.2⟩) (aU.mono ae _ hrefs)
 refine⟨_,_,_,β,aa,TV V hc Q ap,.inl rfl,?_,by simp[aw,aB,goInt],by simp[aD]⟩;simpa only[newAt,hh,bk]using ao
end
section
variable{P:bv}{w:cb}{aa ah:Nat->Prop}{β:Bd}{H:aj}
variable{o:Oper}{ρ:b2->AV}{base:Nat}
theorem xK{c:Call}{x:b2}(e:o.op=.call c){b:Builtin}(hc:c.callee=.builtin b)(d:c.args.toList=[x]):x∈o.op.operands/\c.args=#[x]:=by
 have a:c.args=#[x]:=by apply a1;simpa using d
 refine⟨?_,a⟩;rw[e];simp only[fd,ej,hc,a];simp
theorem wF{T:b0}{a:AV}(h:gI P T a=true)(hs:(∃b v e i l,a=.sl b v e i l)\/a=.p .aL\/∃f c,a=.p (.cE f c)):∃e,P.underlying T=some (.slice e):=by
 rcases hs with⟨b,v,e,i,l,rfl⟩|rfl|⟨f,c,rfl⟩<;>
 ·simp only[gI]at h
  split at h
  ·rename_i e d;exact⟨e,d⟩
  ·simp at h
theorem aFf{c:Call}{x:b2}{n:Nat}{ak:List (Nat×Obj)}{H0:aj}(y:o.op= .call c)(hc:c.callee= .builtin .cap)(A:c.args.toList=[x])(a:yH H0 (ρ x)=some (n,ak))(m:gI P (c.argTypes.getD 0 0) (ρ x)=true)(F:0<c.argTypes.size):
 bn P o ρ base {v:=.p (.int .i64 n),ak}/\(∀p∈ak,H0[p.1]?=some p.2):=by
 obtain⟨q,B⟩:=xK y hc A;have C:c.argTypes[0]?=some (c.argTypes.getD 0 0):=by simp[bd,F]
 generalize c.argTypes.getD 0 0=T at*
 have j:∀{H:aj}{w:cb}{aa:Nat->Prop}{β:Bd}{f:b2->b5},(∃p l,f x= .slice p l n)->(∃e,P.underlying T=some (.slice e))->
  ∃s,(b4 f o).run P w=.ok (.value s) w/\aw P w aa β H (.p (.int .i64 n)) s/\aD (aF H) (.p (.int .i64 n)):=by
  rintro H w aa β f ⟨p,l,hx⟩ ⟨e,G⟩;refine⟨goInt n,?_,by simp[aw,aB,goInt],by simp[aD]⟩;simp only[b4,y,resolve,hc,B];simp[invoke,builtin,ei,C,hx,b1 G]
 unfold yH at a
 split at a
 ·rename_i hx;simp at a;obtain⟨rfl,rfl⟩:=a;refine⟨bn.same fun H w aa ah β f r g ak=>j ?_ (wF m (.inr (.inl hx))),by simp⟩;have d:=(g x q).1;rw[hx]at d;simp only[aw,aB]at d;exact⟨_,_,d⟩
 ·rename_i i hx;simp at a;obtain⟨rfl,rfl⟩:=a;refine⟨bn.same fun H w aa ah β f r g ak=>j ?_ (wF m (.inr (.inr ⟨_,_,hx⟩))),by simp⟩;have d:=(g x q).1;rw[hx]at d;simp only[aw,aB]at d;obtain⟨_,_,cap,_,_,_,_,_,z,_,_,_,k⟩:=d;exact⟨_,_,by rw[k,z trivial]⟩
 ·rename_i b ar ai off len hx
  split at a
  case h_2=>simp at a
  rename_i L K i E
  split at a
  case isFalse=>simp at a
  rename_i D;obtain⟨rfl,rfl,hle⟩:=D;simp at a;obtain⟨rfl,rfl⟩:=a;refine⟨bn.same fun H w aa ah β f r g ak=>j ?_ (wF m (.inl ⟨_,_,_,_,_,hx⟩)),by simpa using E⟩;have u:H[b]?=some (.arr .exact ar ai i):=by simpa using ak
  have d:=(g x q).1;rw[hx]at d;simp only[aw,bJ,bM]at d;obtain⟨_,_,k⟩:=d.2 _ _ u;have t:¬cR .exact i:=fun h=>by simp[cR,AK.gr]at h
  rcases r.cr b _ u with hold|⟨cs,I,J,rest,k1,k2,k3,k4,k5,k6,_⟩
  ·exact(t hold).elim
  exact⟨_,_,by rw[k t,k6 rfl]⟩
 ·simp at a
theorem QV{c:Call}{x:b2}(b:o.op= .call c)(hc:c.callee= .builtin .clear)(f:c.args.toList=[x])(hx:ρ x= .p .aL)(d:gI P (c.argTypes.getD 0 0) (ρ x)=true)(j:0<c.argTypes.size):
 bn P o ρ base {v:=.p (.aA [])}:=by
 obtain⟨i,g⟩:=xK b hc f;have h:c.argTypes[0]?=some (c.argTypes.getD 0 0):=by simp[bd,j]
 generalize c.argTypes.getD 0 0=T at*;obtain⟨e,k⟩:=wF d (.inr (.inl hx));refine bn.same fun H w aa ah β n m l ak=>?_;have a:=(l x i).1;rw[hx]at a;simp only[aw,aB]at a;refine⟨.tuple #[],?_,by simp[aw,aB,bE],by simp[aD]⟩;simp only[b4,b,resolve,hc,g];simp[invoke,builtin,dp,h,a,b1 k]
theorem UZ{c:Call}{x:b2}{sz b ar off len:Nat}{k:AK}{d:List AV}{z:PV}(M:o.op= .call c)(hc:c.callee= .builtin .clear)(V:c.args.toList=[x])(aj:0<c.argTypes.size)(l:cz P (c.argTypes.getD 0 0)=some sz)
 (al:ch P (ey P (c.argTypes.getD 0 0))=some z)(au:bA P (aJ z)=sz)(hx:ρ x=.sl b ar sz off len)(hk:k≠.frozen)(ac:off+len<=d.length)(t:¬cR k d)(aq:0<len):
 bn P o ρ base {v:=.p (.aA []),ak:=[(b,.arr k ar sz d)],aI:=[(b,.arr k ar sz (d.take off++ha len (.p z)++d.drop (off+len)))]}:=by
 obtain⟨ad,W⟩:=xK M hc V;have X:c.argTypes[0]?=some (c.argTypes.getD 0 0):=by simp[bd,aj]
 obtain⟨e,i,l⟩:=jM l;obtain⟨av,r,z1,z2,z3,z4⟩:=pf al;rw[l.oY]at z1;intro H w aa ah β U D ao ak _;have j:H[b]?=some (.arr k ar sz d):=ak (b,_) (by simp);have g:=(ao x ad).1;rw[hx]at g;simp only[aw,bJ,bM]at g;obtain⟨_,_,g⟩:=g.2 k d j;have g:=g t;rcases D.cr b _ j with hold|⟨cs,u,ap,rest,k1,k2,k3,k4,k5,k6,k7,k8⟩
 ·exact(t hold).elim
 have K:¬aa (β.al b)/\¬ah (β.al b):=by
  unfold cm at k7;rw[if_neg (by simpa using hk)]at k7;exact k7
 have Q:=z3 w aa;have R:r.cells.size=sz:=by have:=(nX Q).1;simp at this;omega
 have an:r.cells.toList.length=sz:=by simpa using R
 have E:=wz (β:=β) (H:=H) Q len;rw[an]at E;obtain⟨m,L⟩:∃m,m=ha len r.cells.toList:=⟨_,rfl⟩
 rw[<-L]at E;have F:Row P w aa β H sz (ha len (.p z)) m:=by
  exact E
 obtain⟨a,I,f,f1,f2,f3,f4,f5⟩:=jy k2 off len ac;have B:m.flatten.length=len*sz:=by have:=(fH F).2;rw[this];simp
 have C:I.flatten.length=len*sz:=by have:=(fH f2).2;rw[this];congr 1;simp;omega
 have J:cs.toList=a.flatten++I.flatten++(f.flatten++rest):=by rw[k3,f1];simp
 have O:cs.size=a.flatten.length+I.flatten.length+(f.flatten++rest).length:=by
  have:=congrArg hH J;simp only[hb,a8]at this;rw[this,hb]
 have G:=c6 P (β.al b) (off*sz) u m.flatten 0 cs w k1 (by rw[O,f3,B,C];simp only[hU];exact hW _ _) (uz F);simp only[hU]at G;have aQ:cs.toList.take (off*sz)++m.flatten++cs.toList.drop (off*sz+m.flatten.length)=a.flatten++m.flatten++(f.flatten++rest):=by
  rw[J,<-f3,B,<-C];exact Ae _ _ _ _
 rw[aQ]at G;have am:(ea r.cells len).toList=m.flatten:=by
  have:=Am r.cells len (by rw[R];exact l.pos);rw[L,<-this];rfl
 have ag:(b4 U o).run P w=.ok (.value (.tuple #[])) (w.setRow (β.al b) (a.flatten++m.flatten++(f.flatten++rest)).toArray):=by
  obtain⟨S,rfl⟩:∃S,len=S+1:=⟨len-1,by omega⟩
  simp only[b4,M,resolve,hc,W];generalize c.argTypes.getD 0 0=T at*;simp only[gi,gj,ge,invoke,builtin,hu,hg,hm];have key:(dp c.argTypes o.type #[U x]).run P w=.ok (.tuple #[]) (w.setRow (β.al b) (a.flatten++m.flatten++(f.flatten++rest)).toArray):=by
   simp[dp,X,g,b1 l.gd,rF z1 z2,am,G]
  rw[key];rfl
 have s:(d.take off++ha len (AV.p z)++d.drop (off+len)).length=d.length:=by simp;omega
 have aK:cd β H β (H.set b (.arr k ar sz (d.take off++ha len (.p z)++d.drop (off+len)))):=nY j (.inr (.inl ⟨_,_,_,_,_,rfl,rfl,s.symm⟩));have ai:∀q,aa q->(w.setRow (β.al b) (a.flatten++m.flatten++(f.flatten++rest)).toArray).heap[q]?=w.heap[q]?:=fun q ab=>db w _ q _ (fun A=>K.1 (A▸ab));have hrefs:aU (aF H) (d.take off++ha len (AV.p z)++d.drop (off+len)):=by
  have N:=cK.1 (D.refs b _ j);refine jx (jx ?_ ?_) ?_
  ·rw[cK];exact fun v n=>N v (hz n)
  ·rw[cK];intro v n;rw[List.eq_of_mem_replicate n];simp[aD]
  ·rw[cK];exact fun v n=>N v (hF n)
 have Y:=ly j (o:=.arr k ar sz (d.take off++ha len (.p z)++d.drop (off+len))) (fun _ h=>h);have ae:¬cR k (d.take off++ha len (AV.p z)++d.drop (off+len)):=fun h=>t ⟨h.1,by have y:=h.2;rw[<-hE]at y⊢;rw[s]at y;exact y⟩;have af:=o9 D j t (o':=.arr k ar sz (d.take off++ha len (AV.p z)++d.drop (off+len))) ae (fun _ h=>h) k1 (new:=(a.flatten++m.flatten++(f.flatten++rest)).toArray) K aK
  (.inr ⟨_,u,a++m++f,rest,dg w _ _ _ u _ k1,by
   refine Row.mono (fun _ x=>x) ai aK hrefs (kz.2 ⟨_,_,rfl,kz.2 ⟨_,_,rfl,f4,F⟩,f5⟩),by simp,by
   rw[<-k4,O];simp only[hL,hb,B,C],by rw[s];exact k5,fun A=>by rw[s];exact k6 A,k7,(fun Z=>(hk Z).elim),k8.2⟩) (aU.mono Y _ hrefs)
 refine⟨_,_,_,β,aa,ag,.inl rfl,?_,by simp[aw,aB,bE],by simp[aD]⟩;simpa only[newAt,hh,bk]using af
theorem Ak{c:Call}{x:b2}{v:AV}{ak:List (Nat×Obj)}{H0:aj}(l:o.op= .call c)(hc:c.callee= .builtin .unsafeSliceData)(n:c.args.toList=[x])
 (h:(ρ x=.p .aL/\v=.p .dJ/\ak=[])\/∃b ar ai off len k a,ρ x=.sl b ar ai off len/\H0[b]?=some (.arr k ar ai a)/\ak=[(b,.arr k ar ai a)]/\((cR k a/\v=.p .dJ)\/(0<len/\off+len<=a.length/\v=.bQ b ar ai off []))):
 bn P o ρ base {v,ak}:=by
 obtain⟨s,q⟩:=xK l hc n;refine bn.same fun H w aa ah β m t y r=>?_;obtain⟨d,i⟩:=y x s;have g:∀f,(eb c.argTypes o.type #[m x]).run P w=.ok f w->(b4 m o).run P w=.ok (.value f) w:=by
  intro f u;simp only[b4,l,resolve,hc,q];simp only[gi,gj,ge,invoke,builtin,hu,hg,hm];rw[u];rfl
 rcases h with⟨hx,rfl,rfl⟩|⟨b,ar,ai,off,len,k,a,hx,D,rfl,h⟩
 ·rw[hx]at d;simp only[aw,aB]at d;exact⟨_,g _ (by rw[d];exact Lib.run_unsafeSliceData_nil w _ _ _ _),by simp[aw,aB],by simp[aD]⟩
 ·have j:H[b]?=some (.arr k ar ai a):=by simpa using r
  rw[hx]at d i;simp only[aw,bJ,bM]at d;obtain⟨_,v2,v3⟩:=d.2 k a j;rcases h with⟨e,rfl⟩|⟨E,hle,rfl⟩
  ·exact⟨_,g _ (by rw[v2 e];exact Lib.run_unsafeSliceData_nil w _ _ _ _),by simp[aw,aB],by simp[aD]⟩
  ·have e:¬cR k a:=fun h=>by rw[h.2]at hle;simp at hle;omega
   rcases t.cr b _ j with hold|⟨cs,z,A,rest,k1,k2,k3,k4,k5,_⟩
   ·exact(e hold).elim
   refine⟨_,g _ (by rw[v3 e];exact Lib.run_unsafeSliceData_row w _ _ _ _ _ (by omega)),?_,by simpa only[aD]using i⟩;simp only[aw,bJ,bM];refine⟨by simp[Value.oneCell'],β.al b,off*ai,0,by simp,rfl,fun F B C _=>⟨rfl,by simp⟩⟩
theorem Uh(w:cb)(a:Addr)(n:Nat):(w.freeze a n).os=w.os/\(w.freeze a n).output=w.output:=by
 unfold g7
 first|exact⟨rfl,rfl⟩|(split<;>exact⟨rfl,rfl⟩)
theorem Ua{w':cb}(j:bN P w aa β H ah){b:Nat}{o:Obj}(i:H[b]?=some o)(u:o.live)(g:¬aa (β.al b)/\¬ah (β.al b))(B:∀L,o≠ .loop L)(C:w'.heap.size=w.heap.size)
 (hs:∀k,k≠β.al b->w'.heap[k]?=w.heap[k]?)(A:w'.os=w.os/\w'.output=w.output:=by exact⟨rfl,rfl⟩):bP P ah aa w β H aa w' β (H.set b .dead):=by
 have n:b<H.length:=(g9.1 i).1;have c:∀(x:Nat)(a:Obj),(H.set b Obj.dead)[x]?=some a->a≠.dead->H[x]?=some a:=by
  intro x a hx p
  by_cases l:b=x
  ·subst l;rw[hd n]at hx;cases hx;exact(p rfl).elim
  ·rwa [hA l]at hx
 have aK:cd β H β (H.set b .dead):=by
  refine⟨?_,?_,?_,?_,?_⟩
  ·rintro x _ ⟨f,t,h⟩;exact⟨⟨f,t,c _ _ h (by simp)⟩,rfl⟩
  ·rintro x _ ⟨f,t,h⟩;exact⟨⟨f,t,c _ _ h (by simp)⟩,rfl⟩
  ·rintro x _ ⟨f,t,h⟩;exact⟨⟨f,t,c _ _ h (by simp)⟩,rfl⟩
  ·intro x ar ai k v _ h;exact⟨k,v,c _ _ h (by simp),hR _,Iff.rfl,fun _=>⟨rfl,rfl⟩⟩
  ·rintro x _ ⟨L,h⟩;exact⟨⟨L,c _ _ h (by simp)⟩,rfl⟩
 have m:bP P ah aa w β H aa w β (H.set b .dead):=
  bP.set j n (fun _ _=>⟨rfl,rfl⟩) (fun _ x=>x) (fun _ x=>.inl x) j.bL (hR _) (fun _ _ _=>rfl) (fun h=>h.elim) aK trivial trivial (fun _ _ _ _=>trivial) (fun L r=>by rw[i]at r;cases r;exact(B L rfl).elim)
 have hx:=j.ma i u;have y:=m.rel.HQ hx (fun x a q d s=>by
  have p:a≠.dead:=fun e=>by rw[e]at d;exact d
  have l:x=b:=j.inj x b a o (c _ _ q p) i d u (fun hi=>g.1 (s▸hi)) s;subst l;rw[hd n]at q;cases q;exact d)
 have z:=y.shut (w':=w') (Prot0:=ah) (fun _ h=>.inl h) (R:=fun k=>k=β.al b) (fun x e=>⟨.inr e,e▸g.1⟩) C (fun k hk=>hs k hk);refine⟨fun _ h=>h,fun _ h=>.inl h,⟨by omega,fun k hk=>hs k (fun e=>?_),A⟩,aK,z,m.eQ,m.loop⟩;rcases hk with hk|hk
 ·exact g.2 (e▸hk)
 ·exact g.1 (e▸hk)
theorem A0:∀{d:List AV}{l:List Nat}{b:List (List b5)},bytesOf d=some l->Row P w aa β H 1 d b->b.flatten=l.map (fun c=>Value.int .u8 (c:Nat))/\l.length=d.length/\∀c∈l,c<256
 |[],l,b,h,a=>by
  simp[bytesOf]at h;subst h;rw[gR]at a;subst a;simp
 |v::d,l,b,h,a=>by
  unfold bytesOf at h
  split at h
  ·rename_i e;cases e
  ·rename_i c r e;simp at e;obtain⟨rfl,rfl⟩:=e
   split at h
   case isFalse=>simp at h
   rename_i hc
   split at h
   case h_2=>simp at h
   rename_i m i;simp at h;subst h;rw[pA]at a;obtain⟨j,cs,rfl,f,k,g⟩:=a;obtain⟨i1,i2,i3⟩:=A0 i g;simp only[bh,aV]at f;subst f;refine⟨by simp[i1];omega,by simp[i2],?_⟩;intro x hx;rcases hj.1 hx with rfl|hx
   ·omega
   ·exact i3 x hx
  ·simp at h
theorem Q9{S D e:b0}{x:b2}{b ar off len:Nat}{k:AK}{d:List AV}{l:List Nat}(r:o.op= .convert S D x)(B:P.underlying S=some (.slice e))(y:P.underlying D=some .string)(A:P.underlying e=some (.int .u8))(hx:ρ x= .sl b ar 1 off len)
 (M:0<len)(j:off+len<=d.length)(E:bytesOf ((d.drop off).take len)=some l):bn P o ρ base {v:=.p (.str l),ak:=[(b,.arr k ar 1 d)]}:=by
 refine bn.same fun H w aa ah β N G J ak=>?_;have q:H[b]?=some (.arr k ar 1 d):=by simpa using ak
 have f:=(J x (by simp[r,fd])).1;rw[hx]at f;simp only[aw,bJ,bM]at f;have n:¬cR k d:=fun h=>by rw[h.2]at j;simp at j;omega
 have f:=(f.2 _ _ q).2.2 n;rcases G.cr b _ q with hold|⟨cs,K,L,rest,k1,k2,k3,k4,k5,k6,k7,k8⟩
 ·exact(n hold).elim
 obtain⟨a,m,z,g1,g2,g3,g4,g5⟩:=jy k2 off len j;obtain⟨s,t,u⟩:=A0 E g2;have F:l.length=len:=by rw[t];simp;omega
 have C:cs.toList=a.flatten++(l.map (fun c=>Value.int .u8 (c:Nat))++(z.flatten++rest)):=by
  rw[k3,g1];simp only[hK,hD,s]
 have I:=run_convert_bytes_arg (P:=P) w S e B A (β.al b) (off*1) len (β.cap b-off) (l.map fun c:Nat=>(c:Int)) (by simpa using F) (fun i hi=>by
  have g:i<l.length:=by omega
  have:cs[off*1+i]?=some (.int .u8 (l[i]:Nat)):=by
   rw[<-a7,C,List.getElem?_append_right (by omega),g3,Nat.add_sub_cancel_left,ht (by simpa using g),hC,he g];rfl
  rw[List.getD_eq_getElem?_getD,hC,he g];simp only[g8,k1];simpa using this) D y
 refine⟨.string (strOfNums (l.map fun c:Nat=>(c:Int))),?_,?_,by simp[aD]⟩
 ·simp only[b4,r,f];exact eM I
 ·simp only[aw,aB];refine⟨_,rfl,?_⟩;rw[strOfNums_data,hw,hw]
  conv=>lhs;rw[<-hQ l]
  refine hB fun c hc=>?_;have:=u c hc;simp[h6];omega
theorem Qy{c:Call}{x y:b2}{b ar n:Nat}{d:List AV}{l:List Nat}{T X:b0}(F:o.op= .call c)(hc:c.callee= .builtin .unsafeString)(N:c.args.toList=[x,y])(ac:c.argTypes=#[T,X])(hx:ρ x= .bQ b ar 1 0 [])(ae:ρ y= .p (.int .i64 n))
 (ai:0<n)(C:n<=d.length)(aj:n<=9223372036854775807)(M:P.underlying T=some (.pointer Gl.u8))(ad:P.cellsOf Gl.u8=1)(W:bytesOf (d.take n)=some l):
 bn P o ρ base {v:=.p (.str l),ak:=[(b,.arr .bytes ar 1 d)],aI:=[(b,.dead)]}:=by
 have s:c.args=#[x,y]:=by apply a1;simpa using N
 have D:x∈o.op.operands/\y∈o.op.operands:=by
  rw[F];simp[fd,ej,hc,s]
 intro H w aa ah β r G I ak _;have q:H[b]?=some (.arr .bytes ar 1 d):=by simpa using ak
 have e:=(I x D.1).1;have f:=(I y D.2).1;rw[hx]at e;rw[ae]at f;simp only[aw,bJ,bM,aB]at e f;have i:¬cR .bytes d:=fun h=>by rw[h.2]at C;simp at C;omega
 obtain⟨_,al,off,am,Y,E,e⟩:=e;simp[fS]at E;subst E;obtain⟨rfl,rfl⟩:=e _ _ q i;rcases G.cr b _ q with hold|⟨cs,af,ag,rest,k1,k2,k3,k4,k5,k6,k7,k8⟩
 ·exact(i hold).elim
 obtain rfl:=k8.2 rfl;have U:¬aa (β.al b)/\¬ah (β.al b):=by
  unfold cm at k7;rw[if_neg (by simp)]at k7;exact k7
 obtain⟨a,m,z,g1,g2,g3,g4,g5⟩:=jy k2 0 n (by omega);have O:a=[]:=by have:=(fH g4).1;simpa using this
 subst O;rw[hP]at g2;obtain⟨J,K,L⟩:=A0 W g2;obtain⟨bs,u⟩:∃bs:List UInt8,bs=l.map h7:=⟨_,rfl⟩
 have g:bs.length=n:=by rw[u];simp[K];omega
 have t:bs.map (·.toNat)=l:=by
  rw[u,hw]
  conv=>rhs;rw[<-hQ l]
  refine hB fun c hc=>?_;have:=L c hc;simp[h6];omega
 have A:cs.toList=bs.map (fun c=>Value.int .u8 c.toNat)++(z.flatten++rest):=by
  rw[k3,g1];simp only[List.nil_append,hK,hD,J];congr 1;rw[<-t,hw];rfl
 have ab:=Lib.run_unsafeString_row (P:=P) w T X o.type Gl.u8 M ad (β.al b) cs.size (by simp[World.shape?,k1]) bs (fun h=>by rw[h]at g;simp at g;omega) (by
  have:=congrArg hH A;simp only[a8,hb,List.length_map]at this;omega) (by omega) (fun j v B=>by
  have V:j<bs.length:=(g9.1 B).1;rw[jR];have:cs[j]?=some (.int .u8 v.toNat):=by
   rw[<-a7,A,ht (by simpa using V),hC,B];rfl
  simp[g8,k1,this])
 have Q:(b4 r o).run P w=.ok (.value (.string ⟨bs.toArray⟩)) (w.freeze ⟨β.al b,0,none⟩ bs.length):=by
  simp only[b4,F,resolve,hc,s];simp only[gi,gj,ge,invoke,builtin,hu,hg,hm];have key:(dq c.argTypes o.type #[r x,r y]).run P w=.ok (.string ⟨bs.toArray⟩) (w.freeze ⟨β.al b,0,none⟩ bs.length):=by
   rw[ac,Y,f,<-g];simpa using ab
  rw[key];rfl
 have S:∀k,k≠β.al b->(w.freeze ⟨β.al b,0,none⟩ bs.length).heap[k]?=w.heap[k]?:=by
  intro k hk;unfold g7
  split
  ·rfl
  ·simp[Array.getElem?_modify,Ne.symm hk]
 have R:(w.freeze ⟨β.al b,0,none⟩ bs.length).heap.size=w.heap.size:=by
  unfold g7
  split<;>simp
 have Z:=Ua G q i U (fun _ h=>by cases h) R S (Uh _ _ _);refine⟨_,_,_,β,aa,Q,.inl rfl,?_,?_,by simp[aD]⟩
 ·simpa only[newAt,hh,bk]using Z
 ·simp only[aw,aB];exact⟨_,rfl,by simpa using t.symm⟩
theorem Qs{c:Call}{x y:b2}{T X:b0}(f:o.op= .call c)(hc:c.callee= .builtin .unsafeString)(i:c.args.toList=[x,y])(j:c.argTypes=#[T,X])(hx:ρ x= .p .dJ)(k:ρ y= .p (.int .i64 0)):
 bn P o ρ base {v:=.p (.str [])}:=by
 have d:c.args=#[x,y]:=by apply a1;simpa using i
 have e:x∈o.op.operands/\y∈o.op.operands:=by
  rw[f];simp[fd,ej,hc,d]
 refine bn.same fun H w aa ah β h l g ak=>?_;have a:=(g x e.1).1;have b:=(g y e.2).1;rw[hx]at a;rw[k]at b;simp only[aw,aB]at a b;refine⟨.string .empty,?_,by simp only[aw,aB];exact⟨_,rfl,rfl⟩,by simp[aD]⟩;simp only[b4,f,resolve,hc,d];simp only[gi,gj,ge,invoke,builtin,hu,hg,hm];have key:(dq c.argTypes o.type #[h x,h y]).run P w=.ok (.string .empty) w:=by
  rw[j,a,b];exact Lib.run_unsafeString_none w _ _ _ _
 rw[key];rfl
end
section
variable{P:bv}
theorem Co{c:Call}{ρ:b2->AV}{x:AV}(a:c.args.toList.map ρ=[x]):∃y,c.args.toList=[y]/\ρ y=x:=by
 match b:c.args.toList with
 |[]=>rw[b]at a;simp at a
 |[y]=>rw[b]at a;simp at a;exact⟨y,rfl,a⟩
 |_::_::_=>rw[b]at a;simp at a
theorem GM{c:Call}(h:c.argTypes.size=2):∃T X,c.argTypes=#[T,X]:=by
 obtain⟨l,d⟩:∃l,l=c.argTypes.toList:=⟨_,rfl⟩
 have e:l.length=2:=by rw[d];simpa using h
 match l,e with
 |[a,b],_=>exact⟨a,b,by apply a1;simp[<-d]⟩
theorem nS(ag:b3->Bool):kX P ag:=by
 intro o ρ H K _ h;unfold fu at h;have plain:∀{e:aS},K e->bn P o ρ H.length e->e.ak=[]->e.aI=[]->∃e,K e/\bn P o ρ H.length e/\(∀p∈e.ak,H[p.1]?=some p.2)/\(∀p∈e.aI,p.1<H.length/\p.2≠.hole):=by
  intro e w A B I;exact⟨e,w,A,by simp[B],by simp[I]⟩
 cases q:o.op<;>simp only[q]at h
 case move x=>exact plain h (OO (.inl q)) rfl rfl
 case assign x=>exact plain h (OO (.inr q)) rfl rfl
 case pick c a b=>
  split at h
  ·rename_i t hc;exact plain h (aFl q hc) rfl rfl
  ·exact h.elim
 case alloc T=>
  split at h
  ·rename_i z M;exact plain h.2.2.2 (U1 q M h.2.2.1) rfl rfl
  ·exact h.elim
 case box T x=>exact plain h.2.2.2 (aFe q h.2.1 h.2.2.1) rfl rfl
 case build T parts=>
  split at h
  ·rename_i u z hk M
   split at h
   ·rename_i l G;obtain⟨w,A,B⟩:=h;exact plain B (U0 q hk M G w A) rfl rfl
   ·exact h.elim
  ·exact h.elim
 case buildSlice T n parts=>
  split at h
  ·rename_i sz z U M;obtain⟨w,A,B,I⟩:=h;exact plain I (QW q U M w A B) rfl rfl
  ·exact h.elim
 case load T a=>exact aFj q h
 case store T a x=>exact VD q h
 case binOp b T x y aC=>
  obtain⟨v,w,A⟩:=aFd (base:=H.length) q h;exact⟨_,w,A,mH,by simp⟩
 case unOp u T x=>
  split at h
  ·rename_i b hx;exact plain h (Dg q hx (.inl ⟨rfl,_,rfl,rfl⟩)) rfl rfl
  ·rename_i k n hx;exact plain h (Dg q hx (.inr (.inl ⟨rfl,_,_,rfl,rfl⟩))) rfl rfl
  ·rename_i k n hx;exact plain h (Dg q hx (.inr (.inr ⟨rfl,_,_,rfl,rfl⟩))) rfl rfl
  ·exact h.elim
 case convert S D x=>
  split at h
  ·rename_i d k k0 n Z Y hx;exact plain h (Sz q ⟨_,Z⟩ Y hx) rfl rfl
  ·rename_i d s Z Y hx;exact plain h (Sy q ⟨_,Z⟩ Y hx) rfl rfl
  ·rename_i e b ar ai off len Z Y hx
   split at h
   case h_2=>exact h.elim
   rename_i k ae ac R C;obtain⟨rfl,rfl,rfl,U,af,hle,h⟩:=h
   split at h
   case h_2=>exact h.elim
   rename_i l G;exact⟨_,h,Q9 q Z Y U hx af hle G,by simpa using C,by simp⟩
  ·exact h.elim
 case extract t i=>
  split at h
  ·rename_i vs an
   split at h
   ·rename_i v ao;exact plain h (GC q (.inr ⟨_,an,rfl⟩) (by simp[ao])) rfl rfl
   ·exact h.elim
  ·rename_i vs an
   split at h
   ·rename_i v ao;exact plain h (GC q (.inl an) ao) rfl rfl
   ·exact h.elim
  ·exact h.elim
 case fieldAddr T a f=>
  obtain⟨e,w,A,B,I⟩:=Q8 (base:=H.length) q h;exact plain w A B I
 case indexAddr T x i=>
  obtain⟨e,w,A,B,I⟩:=Q7 (base:=H.length) q h;exact⟨e,w,A,B,by simp[I]⟩
 case field T x f=>
  split at h
  ·rename_i u fs t hk ax hx;obtain⟨w,h⟩:=h
   split at h
   ·rename_i g F al ah;exact plain h.2 (UY q hk ax hx w al ah h.1) rfl rfl
   ·exact h.elim
  ·exact h.elim
 case index T x i=>
  split at h
  ·rename_i s k n hx hi;obtain⟨w,A,B,I⟩:=h;exact plain I (Sb q hx hi w A B) rfl rfl
  ·rename_i u R k n hx hi
   split at h
   ·rename_i u' m F g N ah al;obtain⟨rfl,af,aa,hk,h⟩:=h;exact plain h (Sc q N hx hi af aa ah al hk) rfl rfl
   ·exact h.elim
  ·exact h.elim
 case makeFunc fn fi ca=>
  cases fn<;>simp only at h
  case func f=>
   obtain⟨m1,m2,m3⟩:=Sa (ρ:=ρ) (base:=H.length) q
   split at h
   ·split at h
    ·rename_i a b ak aI j aj;obtain⟨q1,ab,aB⟩:=m3 H a b ak aI j aj;exact⟨_,h,q1,ab,aB⟩
    ·exact h.elim
   ·split at h
    ·rename_i a b j aj;exact plain h (m1 a b j aj) rfl rfl
    ·exact plain h m2 rfl rfl
 case makeSlice T l c=>
  split at h
  ·rename_i sz z aD c' U M G hc;obtain⟨w,A,rfl,I,O⟩:=h;exact plain O (Q6 q U M G hc w A I) rfl rfl
  ·exact h.elim
 case slice T x lo hi ay=>
  cases ay with
  |none=>
   obtain⟨e,w,A,B,I⟩:=UW (base:=H.length) q h;exact⟨e,w,A,B,by simp[I]⟩
  |some m=>
   obtain⟨e,w,A,B,I⟩:=TJ (base:=H.length) q h;exact⟨e,w,A,B,by simp[I]⟩
 case makeMap T r=>
  cases r<;>simp only at h;exact plain h (Sx q) rfl rfl
 case lookup T x i ok=>
  split at h
  case h_2=>exact h.elim
  rename_i ap E key N hi
  split at h
  case h_2=>exact h.elim
  rename_i z M;obtain⟨hk,h⟩:=h
  split at h
  ·rename_i hx;exact plain h (tP (r:=none) (es:=[]) q N M hi hk rfl (.inl ⟨hx,rfl⟩)) rfl rfl
  ·rename_i R hx
   split at h
   ·rename_i v G;exact plain h (tP (r:=some v) q N M hi hk G (.inr (.inl hx))) rfl rfl
   ·rename_i G;exact plain h (tP (r:=none) q N M hi hk G (.inr (.inl hx))) rfl rfl
   ·exact h.elim
  ·rename_i b hx
   split at h
   case h_2=>exact h.elim
   rename_i fz R C
   split at h
   ·rename_i v G;exact⟨_,h,tP (r:=some v) q N M hi hk G (.inr (.inr ⟨b,fz,hx,by simp⟩)),by simpa using C,by simp⟩
   ·rename_i G;exact⟨_,h,tP (r:=none) q N M hi hk G (.inr (.inr ⟨b,fz,hx,by simp⟩)),by simpa using C,by simp⟩
   ·exact h.elim
  ·exact h.elim
 case mapUpdate T m k x=>
  split at h
  case h_2=>exact h.elim
  rename_i ap E b key v N am hk hx;obtain⟨hf,h⟩:=h
  split at h
  case h_2=>exact h.elim
  rename_i R C
  split at h
  case h_2=>exact h.elim
  rename_i r G;exact⟨_,h,Fo (.inl q) N am hk hx hf G,by simpa using C,by simpa using(g9.1 C).1⟩
 case insert T m k x=>
  split at h
  case h_2=>exact h.elim
  rename_i ap E b key v N am hk hx;obtain⟨hf,h⟩:=h
  split at h
  case h_2=>exact h.elim
  rename_i R C
  split at h
  case h_2=>exact h.elim
  rename_i r G;exact⟨_,h,Fo (.inr q) N am hk hx hf G,by simpa using C,by simpa using(g9.1 C).1⟩
 case range T x=>
  split at h
  ·rename_i s hx;exact plain h.2 (UX q hx h.1) rfl rfl
  ·exact h.elim
 case next it isStr=>
  cases isStr<;>simp only at h
  split at h
  case h_2=>exact h.elim
  rename_i b hx
  split at h
  case h_2=>exact h.elim
  rename_i s pos C;obtain⟨az,aA⟩:=aFk (P:=P) (base:=H.length) (s:=s) (pos:=pos) q hx
  split at h
  ·rename_i V;exact⟨_,h,az V,by simpa using C,by simpa using(g9.1 C).1⟩
  ·rename_i V;exact⟨_,h,aA V,by simpa using C,by simp⟩
 case nilCheck x=>
  split at h
  ·rename_i b p hx;exact plain h (Ag q (.inl ⟨b,p,hx⟩)) rfl rfl
  ·rename_i b v e i p hx;exact plain h (Ag q (.inr (.inl ⟨b,v,e,i,p,hx⟩))) rfl rfl
  ·rename_i t hx;exact plain h (Ag q (.inr (.inr ⟨t,hx⟩))) rfl rfl
  ·exact h.elim
 case call c=>
  split at h
  case h_2=>exact h.elim
  rename_i b hc
  split at h
  ·rename_i x j
   split at h
   case h_2=>exact h.elim
   rename_i n ak G;obtain⟨w,A,B⟩:=h;obtain⟨y,L,rfl⟩:∃y,c.args.toList=[y]/\ρ y=x:=by
    match J:c.args.toList with
    |[]=>rw[J]at j;simp at j
    |[y]=>rw[J]at j;simp at j;exact⟨y,rfl,j⟩
    |_::_::_=>rw[J]at j;simp at j
   obtain⟨q1,ab⟩:=aFi (P:=P) (base:=H.length) q hc L G w A;exact⟨_,B,q1,ab,by simp⟩
  ·rename_i s x j;obtain⟨y,z,L,rfl,rfl⟩:∃y z,c.args.toList=[y,z]/\ρ y=s/\ρ z=x:=by
    match J:c.args.toList with
    |[]=>rw[J]at j;simp at j
    |[y]=>rw[J]at j;simp at j
    |[y,z]=>rw[J]at j;simp at j;exact⟨y,z,rfl,j.1,j.2⟩
    |_::_::_::_=>rw[J]at j;simp at j
   exact TL q hc L h.1 h.2
  ·rename_i k a r j
   split at h
   ·rename_i n aa;exact plain h (GX (isMax:=false) q hc j aa) rfl rfl
   ·exact h.elim
  ·rename_i k a r j
   split at h
   ·rename_i n aa;exact plain h (GX (isMax:=true) q hc j aa) rfl rfl
   ·exact h.elim
  ·rename_i d x j;obtain⟨y,z,L,av,rfl⟩:∃y z,c.args.toList=[y,z]/\ρ y=d/\ρ z=x:=by
    match J:c.args.toList with
    |[]=>rw[J]at j;simp at j
    |[y]=>rw[J]at j;simp at j
    |[y,z]=>rw[J]at j;simp at j;exact⟨y,z,rfl,j.1,j.2⟩
    |_::_::_::_=>rw[J]at j;simp at j
   split at h
   case h_2=>exact h.elim
   rename_i sz b ar ai off len aE U hx;obtain⟨rfl,w,A,h⟩:=h
   split at h
   case h_2=>exact h.elim
   rename_i k ae ac R C;obtain⟨rfl,rfl,B,I,O,W⟩:=h;refine⟨_,W,aFg q hc L A U av hx w B I O,?_,by simpa using(g9.1 C).1⟩;intro p V;rcases hj.1 V with rfl|V
   ·exact C
   ·exact mH p V
  ·rename_i x j;obtain⟨y,L,rfl⟩:=Co j
   split at h
   case h_2=>exact h.elim
   rename_i n ak G;obtain⟨w,A,B⟩:=h;obtain⟨q1,ab⟩:=aFf (P:=P) (base:=H.length) q hc L G w A;exact⟨_,B,q1,ab,by simp⟩
  ·rename_i x j;obtain⟨y,L,Q⟩:=Co j
   split at h
   ·rw[<-Q]at h;exact plain h.2.2 (QV q hc L Q h.1 h.2.1) rfl rfl
   ·split at h
    ·rename_i b ar ai off len sz z k ae ac R U M C;obtain⟨rfl,rfl,rfl,w,A,B,I,O,W,au⟩:=h;exact⟨_,au,UZ q hc L O U M w Q A B I W,by simpa using C,by simpa using(g9.1 C).1⟩
    ·exact h.elim
   ·exact h.elim
  ·rename_i x j;obtain⟨y,L,Q⟩:=Co j
   split at h
   ·exact plain h (Ak (H0:=H) q hc L (.inl ⟨Q,rfl,rfl⟩)) rfl rfl
   ·split at h
    ·rename_i b ar ai off len k ae ac R C;obtain⟨rfl,rfl,h⟩:=h;rcases h with⟨w,A,B⟩|⟨w,A,B⟩
     ·exact⟨_,B,Ak q hc L (.inr ⟨_,_,_,_,_,_,_,Q,C,rfl,.inl ⟨⟨w,A⟩,rfl⟩⟩),by simpa using C,by simp⟩
     ·exact⟨_,B,Ak q hc L (.inr ⟨_,_,_,_,_,_,_,Q,C,rfl,.inr ⟨w,A,rfl⟩⟩),by simpa using C,by simp⟩
    ·exact h.elim
   ·exact h.elim
  ·rename_i x n j;obtain⟨y,z,L,Q,aq⟩:∃y z,c.args.toList=[y,z]/\ρ y=x/\ρ z=.p (.int .i64 n):=by
    match J:c.args.toList with
    |[]=>rw[J]at j;simp at j
    |[y]=>rw[J]at j;simp at j
    |[y,z]=>rw[J]at j;simp at j;exact⟨y,z,rfl,j.1,j.2⟩
    |_::_::_::_=>rw[J]at j;simp at j
   split at h
   ·obtain⟨rfl,w,A⟩:=h;obtain⟨T,X,ad⟩:=GM w;exact plain A (Qs q hc L ad Q aq) rfl rfl
   ·split at h
    ·rename_i b ar ai i ae ac R C;obtain⟨rfl,rfl,rfl,rfl,w,A,B,I,O,W,h⟩:=h;obtain⟨T,X,ad⟩:=GM I
     split at h
     ·rename_i l G;obtain⟨m,rfl⟩:=Int.eq_ofNat_of_zero_le (by omega:0<=n);simp only[Int.toNat_natCast]at A G;have N:P.underlying T=some (.pointer Gl.u8):=by
       rw[ad]at O;simp only[ptrTo]at O
       split at O
       ·rename_i e aw;simp at O;rw[<-O];exact aw
       ·simp at O
      exact⟨_,h,Qy q hc L ad Q aq (by omega) A (by omega) N W G,by simpa using C,by simpa using(g9.1 C).1⟩
     ·exact h.elim
    ·exact h.elim
   ·exact h.elim
  ·exact h.elim
end
section
variable{P:bv}{ag:b3->Bool}{n:Nat}
theorem HF{o o':Obj}(h:lK o=some o'):lK o'=some o':=by
 unfold lK at h
 split at h
 ·simp at h;subst h;rfl
 ·rename_i k ar ai b
  split at h
  ·simp at h
  ·split at h
   ·rename_i l a;simp at h;subst h;simp[lK,AK.gr,a]
   ·simp at h
 ·simp at h;subst h;rfl
 ·simp at h
theorem Yb{w:cb}{aa ah:Nat->Prop}{β:Bd}{H:aj}(d:bN P w aa β H ah){b:Nat}{o o':Obj}(c:H[b]?=some o)(hf:lK o=some o'):
 ∃aE,bP P ah aa w β H aE w β (H.set b o')/\aE (β.al b):=by
 unfold lK at hf
 split at hf
 ·rename_i fz t;simp at hf;subst hf;obtain⟨cs,T,g,i,j,m⟩:=d.cr b _ c;have aK:cd β H β (H.set b (.box true (.p t))):=rj c (.inl ⟨_,_,_,rfl,rfl⟩);exact rr d c trivial (o':=.box true (.p t)) trivial (fun _ h=>h) (fun _ h=>by cases h) aK j.sx
   (fun aE hi l=>⟨cs,T,g,bh.mono hi (fun _ _=>rfl) aK _ _ (by simp[aD]) i,l,fun _=>trivial,m.2⟩) (by simp[Obj.refs,aD])
 ·rename_i k ar ai f
  split at hf
  ·simp at hf
  ·rename_i q
   split at hf
   case h_2=>simp at hf
   rename_i C z;simp at hf;subst hf;have r:=lr z;rcases d.cr b _ c with hold|⟨cs,T,u,rest,g,i,j,m,x,A,y,B⟩
   ·exact(q hold).elim
   have s:¬cR .frozen f:=fun h=>by cases h.1
   have aK:cd β H β (H.set b (.arr .frozen ar ai f)):=rj c (.inr (.inl ⟨_,_,_,_,_,rfl,rfl,q,s⟩));exact rr d c q (o':=.arr .frozen ar ai f) s (fun _ h=>h) (fun _ h=>by cases h) aK y.sx
    (fun aE hi l=>.inr ⟨cs,T,u,rest,g,bG.mono hi (fun _ _=>rfl) aK _ _ _ (d.refs b _ c) i,j,m,x,(fun h=>by cases h),l,fun _ e n=>(by rw[r]at n;simp at n;obtain⟨a,_,rfl⟩:=n;trivial),fun h=>by cases h⟩)
    (by rw[r];exact iF _ _)
 ·rename_i fz f;simp at hf;subst hf;obtain⟨v,clock,g,i,j⟩:=d.cr b _ c;have aK:cd β H β (H.set b (.map true f)):=rj c (.inr (.inr ⟨_,_,_,rfl,rfl⟩));exact rr d c trivial (o':=.map true f) trivial (fun _ h=>h) (fun _ h=>by cases h) aK j.sx
   (fun aE hi l=>⟨v,clock,g,cq.mono hi (fun _ _=>rfl) _ _ i,l⟩) trivial
 ·simp at hf
theorem F1{w:cb}{ah:Nat->Prop}{β:Bd}{H0:aj}:∀(bs:List Nat){ak aI:List (Nat×Obj)}{H:aj}{aa:Nat->Prop},kG H0 bs=some (ak,aI)->bN P w aa β H ah->
 (∀p∈ak,∃c,H[p.1]?=some c/\lK c=lK p.2)->∃aE,bP P ah aa w β H aE w β (bk H aI)/\∀b∈bs,aE (β.al b)
 |[],ak,aI,H,aa,h,a,_=>by
  simp[kG]at h;obtain⟨rfl,rfl⟩:=h;exact⟨aa,bP.refl a,by simp⟩
 |b::bs,ak,aI,H,aa,h,a,hc=>by
  simp only[kG]at h
  split at h
  case h_2=>simp at h
  rename_i o q s r g
  split at h
  case h_2=>simp at h
  rename_i o' hf;simp at h;obtain⟨rfl,rfl⟩:=h;obtain⟨c,g1,g2⟩:=hc (b,o) (by simp);simp only at g1 g2;rw[hf]at g2;obtain⟨n,e,l⟩:=Yb a g1 g2;have i:b<H.length:=(g9.1 g1).1;obtain⟨f,q1,m⟩:=F1 bs g e.rel (by
   intro p j;obtain⟨k,k1,k2⟩:=hc p (by simp[j])
   by_cases d:b=p.1
   ·rw[<-d]at k1⊢;rw[g1]at k1;cases k1;refine⟨o',by rw[hd i],?_⟩;rw[<-k2,g2,HF g2]
   ·exact⟨k,by rw[hA d];exact k1,k2⟩)
  refine⟨f,by simpa only[bk]using e.trans q1,?_⟩;intro x hx;rcases hj.1 hx with rfl|hx
  ·exact q1.bL _ l
  ·exact m x hx
theorem HG{H0:aj}:∀(bs:List Nat){ak aI:List (Nat×Obj)},kG H0 bs=some (ak,aI)->(∀p∈ak,H0[p.1]?=some p.2)/\(∀p∈aI,p.1<H0.length/\p.2≠.hole)/\ak.map (·.1)=bs
 |[],ak,aI,h=>by
  simp[kG]at h;obtain⟨rfl,rfl⟩:=h;simp
 |b::bs,ak,aI,h=>by
  simp only[kG]at h
  split at h
  case h_2=>simp at h
  rename_i o f g d e
  split at h
  case h_2=>simp at h
  rename_i o' hf;simp at h;obtain⟨rfl,rfl⟩:=h;obtain⟨i1,i2,i3⟩:=HG bs e;refine⟨?_,?_,by simp[i3]⟩
  ·intro p a;rcases hj.1 a with rfl|a
   ·exact d
   ·exact i1 p a
  ·intro p a;rcases hj.1 a with rfl|a
   ·refine⟨(g9.1 d).1,fun c=>?_⟩;simp only at c;have:=HF hf;rw[c]at this;simp[lK]at this
   ·exact i2 p a
theorem Vs{w:cb}{aa aE ah:Nat->Prop}{β:Bd}{H0 H:aj}{a:AV}{A:PV}{bs:List Nat}{v:b5}(d:lS H0 a=some (A,bs))(ak:∀b∈bs,H[b]?=H0[b]?)(n:bN P w aa β H ah)(e:aw P w aa β H a v)
 (hi:∀k,aa k->aE k)(r:∀b∈bs,aE (β.al b)):aB P w aE A v:=by
 cases a with
 |p t=>
  simp[lS]at d;obtain⟨rfl,rfl⟩:=d;simp only[aw]at e;exact aB.mono hi (fun _ _=>rfl) _ _ e
 |sl b ar ai off len=>
  simp only[lS]at d
  split at d
  case h_2=>simp at d
  rename_i k U N g l
  split at d
  case isFalse=>simp at d
  rename_i G;obtain⟨rfl,rfl,S⟩:=G
  split at d
  ·simp at d
  ·rename_i y
   split at d
   case h_2=>simp at d
   rename_i z J;simp at d;obtain⟨rfl,rfl⟩:=d;have x:=lr J;have f:H[b]?=some (.arr k ar ai g):=by rw[ak b (by simp)];exact l
   have j:=r b (by simp);simp only[aw,bJ,bM]at e;obtain⟨v1,v2,v3⟩:=e.2 k g f;rcases n.cr b _ f with hold|⟨cs,T,B,rest,i,h,q,E,O,F,Q,R⟩
   ·exact(y hold).elim
   rw[v3 y];have K:Row P w aE β H ai g B:=bG.mono hi (fun _ _=>rfl) (cd.refl _ _) _ _ _ (n.refs b _ f) h;obtain⟨a,m,c,e1,e2,e3,e4,e5⟩:=jy K off len v1;rw[x,Ab,lx]at e2;have u:((z.drop off).take len).length=len:=by
    have:g.length=z.length:=by rw[x];simp
    simp;omega
   simp only[aB];refine⟨β.al b,off*ai,β.cap b-off,ai,m,e2,fun _=>j,?_,?_,?_,none,.inl rfl,?_⟩
   ·rw[<-e3];exact ld i (post:=c.flatten++rest) (by rw[q,e1];simp)
   ·intro hf;simp at hf;rw[u,F hf.1];omega
   ·rw[u];omega
   ·rw[u]
 |ptr b path=>
  simp only[lS]at d
  split at d
  case h_2=>simp at d
  rename_i fz t l
  split at d
  case h_2=>simp at d
  rename_i s hs;simp at d;obtain⟨rfl,rfl⟩:=d;have f:H[b]?=some (.box fz (.p t)):=by rw[ak b (by simp)];exact l
  have j:=r b (by simp);simp only[aw,bJ,bM]at e;obtain⟨_,M,L,o,rfl,I,e⟩:=e;obtain⟨rfl,rfl⟩:=e (.inl ⟨fz,_,f⟩);obtain⟨cs,T,i,h,q,E⟩:=n.cr b _ f;have D:aV P w aE t cs.toList:=by simp only[bh]at h;exact aV.mono hi (fun _ _=>rfl) _ _ h
  obtain⟨pre,xs,post,e1,e2,e3⟩:=xt D hs I;simp only[aB];refine⟨β.al b,L,xs,e3,j,?_,rfl⟩;rw[<-e2];exact ld i e1
 |map b=>
  simp only[lS]at d
  split at d
  case h_2=>simp at d
  rename_i fz g l;simp at d;obtain⟨rfl,rfl⟩:=d;have f:H[b]?=some (.map fz g):=by rw[ak b (by simp)];exact l
  have j:=r b (by simp);simp only[aw,bJ,bM]at e;have e:=e.2.1 ⟨fz,g,f⟩;obtain⟨C,clock,i,h,q⟩:=n.cr b _ f;simp only[aB];exact⟨β.al b,C,clock,j,i,cq.mono hi (fun _ _=>rfl) _ _ h,e⟩
 |bQ=>simp[lS]at d
 |func=>simp[lS]at d
 |st=>simp[lS]at d
 |aA=>simp[lS]at d
theorem Hm{w:cb}{aa aE ah:Nat->Prop}{β:Bd}{H0 H:aj}:∀{l:List AV}{vs:List PV}{bs:List Nat}{d:List b5},nv H0 l=some (vs,bs)->(∀b∈bs,H[b]?=H0[b]?)->bN P w aa β H ah->bD P w aa β H l d->
 (∀k,aa k->aE k)->(∀b∈bs,aE (β.al b))->bE P w aE vs d
 |[],vs,bs,d,h,_,_,c,_,_=>by
  simp[nv]at h;obtain⟨rfl,rfl⟩:=h;simp only[bD]at c;simpa[bE]using c
 |a::l,vs,bs,d,h,ak,f,c,hi,e=>by
  simp only[nv]at h
  split at h
  case h_2=>simp at h
  rename_i v m o n g i;simp at h;obtain⟨rfl,rfl⟩:=h;simp only[bD]at c;obtain⟨y,j,rfl,k1,k2⟩:=c;simp only[bE];exact⟨y,j,rfl,Vs g (fun b hx=>ak b (by simp[hx])) f k1 hi (fun b hx=>e b (by simp[hx])),Hm i (fun b hx=>ak b (by simp[hx])) f k2 hi (fun b hx=>e b (by simp[hx]))⟩
def Act(P:bv)(n:Nat)(o:Oper)(s:St)(e:aS):Prop:=
 ∀(fr:ce)(k:List Item)(cs:List ce)(a:Array Oper)(i:Nat)(r:List Nat)(b:List cv)(ah aa:Nat->Prop)(β:Bd)(s':St)(t:Array b5)(w:cb),
  a[i]?=some o->fm o (yielded a t)=true->iI n o=true->cw P n ah aa β s' t w->(∀x∈o.op.operands,ev s'.env x=ev s.env x)->
  (∀p∈e.ak,s'.heap[p.1]?=some p.2)->(∀j,j<e.aQ.length->s'.heap[s.heap.length+j]?=some .hole)->
  ∃aE aG c w',dl P (lone (bu fr t b (.inRegion a (i::r)::k)) cs w) (lone (bu fr c b (.inRegion a r::k)) cs w')/\
   cw P n ah aE aG ⟨put o.dst e.v s'.env,bk s'.heap (e.aI++newAt s.heap.length e.aQ)⟩ c w'/\∀N,dL N ah aa w β s'.heap ah aE w' aG (bk s'.heap (e.aI++newAt s.heap.length e.aQ))
theorem RE{o:Oper}{K:aS->Prop}{s:St}(h:ja P ag o s K)(c:Call):o.op≠.defer c:=by
 intro hc;unfold ja at h;rw[hc]at h;simp[fu,hc]at h
theorem LM{e e':Env}{l:List b2}(h:∀x∈l,ev e' x=ev e x):l.map (ev e')=l.map (ev e):=hB h
theorem IM{o:Oper}{f:b2}{H:Array b2}{al:Array b0}{g:b3}{fi ca:List AV}{K:aS->Prop}{s:St}
 (W:o.op=.call {callee:=.value f,args:=H,argTypes:=al})
 (hf:(ev s.env f=.func g fi ca)\/(∃a b,ev s.env f=.p (.func g a b)/\fi=a.map .p/\ca=b.map .p))
 (h:gL P g (fi++H.toList.map (ev s.env)++ca) s.heap K):
 ∃e,K e/\(∀p∈e.ak,s.heap[p.1]?=some p.2)/\(∀p∈e.aI,p.1<s.heap.length/\p.2≠.hole)/\Act P n o s e:=by
 have Q:∀c,o.op≠.defer c:=fun c hc=>by rw[W]at hc;cases hc
 have ac:f∈o.op.operands/\∀x∈H.toList,x∈o.op.operands:=by
  rw[W];simp[fd,ej];exact fun x hx=>.inr hx
 have M:∀{ah aa:Nat->Prop}{β:Bd}{s':St}{t:Array b5}{w:cb},cw P n ah aa β s' t w->(∀x∈o.op.operands,ev s'.env x=ev s.env x)->
  ∃m:List b5,bD P w aa β s'.heap (fi++H.toList.map (ev s.env)++ca) m/\aU (aF s'.heap) (fi++H.toList.map (ev s.env)++ca)/\(b4 (fx t) o).run P w=(callFunc g m.toArray).run P w:=by
  intro ah aa β s' t w d A;have I:=nh d f;rw[A f ac.1]at I;obtain⟨G,F,ax,av,aq,aC,aA⟩:∃G F:List b5,fx t f=.func (.func g) G.toArray F.toArray/\bD P w aa β s'.heap fi G/\bD P w aa β s'.heap ca F/\aU (aF s'.heap) fi/\aU (aF s'.heap) ca:=by
   rcases hf with hf|⟨a,b,hf,rfl,rfl⟩
   ·rw[hf]at I;simp only[aw,aD]at I;obtain⟨⟨G,F,y,z,D⟩,S,ao⟩:=I;exact⟨G,F,D,y,z,S,ao⟩
   ·rw[hf]at I;simp only[aw,aB]at I;obtain⟨⟨G,F,y,z,D⟩,_⟩:=I;exact⟨G,F,D,jj.2 y,jj.2 z,iF _ _,iF _ _⟩
  obtain⟨Y,Z⟩:=tV d H.toList;rw[LM (fun x hx=>A x (ac.2 x hx))]at Y Z;refine⟨G++H.toList.map (fx t)++F,ph (ph av Y) aq,jx (jx aC Z) aA,?_⟩;simp only[b4,W,resolve,ax,Deferred.ofValue,gi,gj,ge,invoke];congr 2;simp
 have pure:∀(fr:ce)(k:List Item)(cs:List ce)(l:Array Oper)(i:Nat)(r:List Nat)(u:List cv)(ah aa E:Nat->Prop)(β:Bd)(s':St)(t:Array b5)(w:cb)(H1:aj)(m:List b5)(vs:List PV)(v:PV),
  l[i]?=some o->fm o (yielded l t)=true->iI n o=true->cw P n ah aa β s' t w->(b4 (fx t) o).run P w=(callFunc g m.toArray).run P w->
  bP P ah aa w β s'.heap E w β H1->bE P w E vs m->au P g vs v->
  ∃aE aG ai w',dl P (lone (bu fr t u (.inRegion l (i::r)::k)) cs w) (lone (bu fr ai u (.inRegion l r::k)) cs w')/\
   cw P n ah aE aG ⟨put o.dst (.p v) s'.env,H1⟩ ai w'/\∀N,dL N ah aa w β s'.heap ah aE w' aG H1:=by
  intro fr k cs l i r u ah aa E β s' t w H1 m vs v q C B d O j af L;rcases L with⟨ar,L⟩|L
  ·rw[ar]at O;obtain⟨e,w',am,⟨R,aE,U,g1,g2,g3,g4,g5,an,g6⟩,aK,ay,V⟩:=L w E _ j.rel.bL j.rel.gV af (bu fr t u (.inRegion l (i::r)::k)::cs);subst U;have ae:=j.trans (j.rel.later g1 g2 g3 g4 g5 an);refine⟨aE,β,_,w',?_,d.put B ae (by simpa[aw]using g6) (by simp[aD]),fun _=>ae.fa⟩;rw[<-mJ q];exact(gt (tK q C Q O)).trans (gx aK (.one (cy V)))
  ·obtain⟨R,y,z⟩:=L w E _ af;rw[y]at O;exact⟨E,β,_,w,.one (rp q C Q O (.inl rfl)),d.put B j (by simpa[aw]using z) (by simp[aD]),fun _=>j.fa⟩
 rcases h with⟨vs,v,y,z,D⟩|⟨vs,bs,ak,aI,v,y,z,D,S⟩|⟨e,X,ad,T⟩|⟨ak,v,ap,az,T⟩
 ·refine⟨_,D,by simp,by simp,?_⟩;intro fr k cs l i r u ah aa β s' t w q C B d A _ _;obtain⟨m,c1,c2,c3⟩:=M d A;rw[y]at c1;simp only[newAt,hh,bk];exact pure fr k cs l i r u ah aa aa β s' t w s'.heap m vs v q C B d c3 (bP.refl d.heap) (jj.1 c1) z
 ·obtain⟨i1,i2,i3⟩:=HG bs z;refine⟨_,S,i1,i2,?_⟩;intro fr k cs l i r u ah aa β s' t w q C B d A J _;obtain⟨m,c1,c2,c3⟩:=M d A;obtain⟨E,ag,aH⟩:=F1 bs z d.heap (fun p j=>⟨p.2,J p j,rfl⟩);simp only[newAt,hh];refine pure fr k cs l i r u ah aa E β s' t w _ m vs v q C B d c3 ag (Hm y ?_ d.heap c1 ag.bL aH) D;intro b ab;rw[<-i3]at ab;obtain⟨p,j,rfl⟩:=List.mem_map.1 ab;rw[J p j,i1 p j]
 ·refine⟨_,T,ad.1,ad.2,?_⟩;intro fr k cs l i r u ah aa β s' t w q C B d A J aQ;obtain⟨m,c1,c2,c3⟩:=M d A;rw[X.1]at c3;obtain⟨x,w',am,⟨R,aG,aE,U,g1,g2,g3⟩,aK,ay,V⟩:=X.2 s'.heap w aa ah β _ d.heap c1 c2 J aQ (bu fr t u (.inRegion l (i::r)::k)::cs);subst U;refine⟨aE,aG,_,w',?_,d.put B g1 g2 g3,fun _=>g1.fa⟩;rw[<-mJ q];exact(gt (tK q C Q c3)).trans (gx aK (.one (cy V)))
 ·refine⟨_,T,az,by simp,?_⟩;intro fr k cs l i r u ah aa β s' t w q C B d A J aQ;obtain⟨m,c1,c2,c3⟩:=M d A;obtain⟨R,y,D⟩:=ap s'.heap w aa ah β _ d.heap c1 c2 J;rw[y]at c3;have j:=bP.refl d.heap;simp only[newAt,hh,bk];exact⟨aa,β,_,w,.one (rp q C Q c3 (.inl rfl)),d.put B j (by simpa[aw]using D) (by simp[aD]),fun _=>j.fa⟩
theorem Tt{o:Oper}{f:b2}{a:Array b2}{y:Array b0}{b:Nat}{e:aS}{s:St}
 (j:o.op=.call {callee:=.value f,args:=a,argTypes:=y})(hf:ev s.env f=.map b)(hY:nw P b (a.toList.map (ev s.env)) s.heap.length e):Act P n o s e:=by
 have G:∀c,o.op≠.defer c:=fun c hc=>by rw[j]at hc;cases hc
 have u:f∈o.op.operands/\∀x∈a.toList,x∈o.op.operands:=by
  rw[j];simp[fd,ej];exact fun x hx=>.inr hx
 intro fr k cs I i r z ah aa β s' t w v H C d m E aQ;have h:=(nh d f).1;rw[m f u.1,hf]at h;simp only[aw,bJ,bM]at h;obtain⟨l,p⟩:=tV d a.toList;rw[LM (fun x hx=>m x (u.2 x hx))]at l p;obtain⟨F,g,tmps,assign,body,A,B⟩:=hY s'.heap w aa ah β _ d.heap l p E aQ;have D:=h.2.2 F;have q:(b4 (fx t) o).run P w=(Instr.yield (β.al b) (a.toList.map (fx t)).toArray).run P w:=by
  simp only[b4,j,resolve,D,Deferred.ofValue,gi,gj,ge,invoke];congr 2;exact a1 (by simp)
 rw[A]at q;obtain⟨J,w',aG,aE,g1,g2,g3,g4⟩:=B (bu fr t z (.inRegion I (i::r)::k)) cs;refine⟨aE,aG,_,w',?_,d.put C g2 g3 g4,fun _=>g2.fa⟩;rw[<-mJ v];exact(gt (Gv v H G q)).trans g1
theorem Ur(m:kX P ag){o:Oper}{K:aS->Prop}{s:St}(h:ja P ag o s K):
 ∃e,K e/\(∀p∈e.ak,s.heap[p.1]?=some p.2)/\(∀p∈e.aI,p.1<s.heap.length/\p.2≠.hole)/\Act P n o s e:=by
 have E:=RE h;have q:fu P ag o (ev s.env) s.heap K->∃e,K e/\(∀p∈e.ak,s.heap[p.1]?=some p.2)/\(∀p∈e.aI,p.1<s.heap.length/\p.2≠.hole)/\Act P n o s e:=by
  intro h;obtain⟨e,a,hs,ak,aI⟩:=m o _ _ _ (fun v=>rfl) h;refine⟨e,a,ak,aI,?_⟩;intro fr k cs L i r J ah aa β s' t w F G C d B D aQ;obtain⟨nx,I,w',aG,aE,u,y,j,z,A⟩:=hs s'.heap w aa ah β (fx t) d.heap (fun x hx=>by rw[<-B x hx];exact nh d x) D aQ;exact⟨aE,aG,_,w',.one (rp F G E u y),d.put C j z A,fun _=>j.fa⟩
 unfold ja at h
 split at h
 ·rename_i f args H c
  split at h
  ·rename_i g fi ca hf;exact IM c (.inr ⟨fi,ca,hf,rfl,rfl⟩) h
  ·rename_i g fi ca hf;exact IM c (.inl hf) h
  ·rename_i b hf;obtain⟨e,hY,l,a⟩:=h;exact⟨e,a,l.1,l.2,Tt c hf hY⟩
  ·exact h.elim
 ·exact q h
end
section
variable{P:bv}{ag:b3->Bool}{n:Nat}
def looks(a:Array Oper)(o:Oper):List Tmp:=
 (o.op.operands.toList.filterMap fun x=>match x with
  | .tmp t=>some t
  |_=>none)++(match o.guard with
  |some (j,_)=>(match(a[j]?).bind (·.dst)with
   |some d=>[d]
   |none=>[])
  |none=>[])
def pE(c:Array Oper)(a b:Oper):Bool:=
 (match a.dst with
  |some d=>(looks c b).contains d||b.dst==some d
  |none=>false)||
 (match b.dst with
  |some d=>(looks c a).contains d
  |none=>false)
def fit(_:Nat)(a:Array Oper):Bool:=
 (hv a.size).all fun j=>match a[j]? with
  |some o=>o.after.toList.all (fun e=>!fv .any e||decide (e.on<j))&&
   (hv j).all (fun i=>match a[i]? with
    |some u=>!pE a u o||reach a a.size i j
    |none=>true)
  |none=>true
structure CE(P:bv)(n:Nat)(ops:Array Oper)(o:Oper)(s:St)(e:aS):Prop where
 ak:∀p∈e.ak,s.heap[p.1]?=some p.2
 aI:∀p∈e.aI,p.1<s.heap.length
 act:(∀(t:Array b5)(s':St)(ah aa:Nat->Prop)(β:Bd)(w:cb),cw P n ah aa β s' t w->(∀x∈looks ops o,aN s'.env x=aN s.env x)->fm o (yielded ops t)=true)/\Act P n o s e\/
  (∀(t:Array b5)(s':St)(ah aa:Nat->Prop)(β:Bd)(w:cb),cw P n ah aa β s' t w->(∀x∈looks ops o,aN s'.env x=aN s.env x)->fm o (yielded ops t)=false)/\e={v:=.p (.aA [])}
inductive Tr(P:bv)(n:Nat)(ops:Array Oper):List Oper->Nat->St->List (St×aS)->St->Prop
 |nil (i:Nat) (s:St):Tr P n ops [] i s [] s
 |cons {o:Oper} {r:List Oper} {i:Nat} {s s':St} {e:aS} {es:List (St×aS)}:CE P n ops o s e->Tr P n ops r (i+1) (e.app o.dst s) es s'->Tr P n ops (o::r) i s ((s,e)::es) s'
def n9(i:Nat):List (St×aS)->List Touch->List Touch
 |[],acc=>acc
 |(s,e)::r,acc=>n9 (i+1) r (fN i s.heap.length e acc)
theorem Aa{a:Array Oper}{o:Oper}{j:Nat}{f:Bool}(c:o.guard=some (j,f)){e e':Env}(h:∀x∈looks a o,aN e' x=aN e x):guardOf a j e'=guardOf a j e:=by
 unfold guardOf;cases b:(a[j]?).bind (·.dst)with
 |none=>rfl
 |some d=>
  simp only;exact h d (by simp[looks,c,b])
theorem H7(B:kX P ag){a:Array Oper}(q:∀o∈a.toList,iI n o=true):∀(l:List Oper)(i:Nat)(d:List Touch)(s:St){K:St->Prop},(∀o∈l,o∈a.toList)->fT P ag a l i d K s->
 ∃c s',Tr P n a l i s c s'/\K s'/\gZ a (n9 i c d)=true
 |[],i,d,s,K,_,h=>⟨[],s,.nil i s,h.2,h.1⟩
 |o::l,i,d,s,K,F,h=>by
  have C:=fun d s(h:fT P ag a l (i+1) d K s)=>H7 B q l (i+1) d s (fun o G=>F o (by simp[G])) h
  have skip:fT P ag a l (i+1) d K ⟨put o.dst (.p (.aA [])) s.env,s.heap⟩->(∀(t:Array b5)(s':St)(ah aa:Nat->Prop)(β:Bd)(w:cb),cw P n ah aa β s' t w->(∀x∈looks a o,aN s'.env x=aN s.env x)->fm o (yielded a t)=false)->
   ∃c s',Tr P n a (o::l) i s c s'/\K s'/\gZ a (n9 i c d)=true:=by
   intro hk A;obtain⟨c,s',r,u,y⟩:=C _ _ hk;refine⟨(s,{v:=.p (.aA [])})::c,s',.cons ⟨by simp,by simp,.inr ⟨A,rfl⟩⟩ ?_,u,by simpa[n9,fN]using y⟩;simpa[aS.app,bk]using r
  have go:ja P ag o s (fun e=>fT P ag a l (i+1) (fN i s.heap.length e d) K (e.app o.dst s))->(∀(t:Array b5)(s':St)(ah aa:Nat->Prop)(β:Bd)(w:cb),cw P n ah aa β s' t w->(∀x∈looks a o,aN s'.env x=aN s.env x)->fm o (yielded a t)=true)->
   ∃c s',Tr P n a (o::l) i s c s'/\K s'/\gZ a (n9 i c d)=true:=by
   intro hk A;obtain⟨e,D,ak,aI,E⟩:=Ur (n:=n) B hk;obtain⟨c,s',r,u,y⟩:=C _ _ D;exact⟨(s,e)::c,s',.cons ⟨ak,fun p H=>(aI p H).1,.inl ⟨A,E⟩⟩ r,u,by simpa[n9]using y⟩
  simp only[fT]at h
  split at h
  ·rename_i f;exact go h (fun _ _ _ _ _ _ _ _=>by simp[fm,f])
  ·rename_i j I f
   split at h
   ·rename_i b m
    split at h
    ·rename_i z;refine go h (fun t s' ah aa β w k g=>?_);obtain⟨g1,g2⟩:=wP k q j;rw[Aa f g]at g1;simp[fm,f,g1 _ m,z]
    ·rename_i z;refine skip h (fun t s' ah aa β w k g=>?_);obtain⟨g1,g2⟩:=wP k q j;rw[Aa f g]at g1;simp[fm,f,g1 _ m,z]
   ·rename_i m;refine skip h (fun t s' ah aa β w k g=>?_);obtain⟨g1,g2⟩:=wP k q j;rw[Aa f g]at g2;simp[fm,f,g2 m]
   ·exact h.elim
def uT(a:Array Oper)(D:Nat->Prop):Prop:=∀j o,a[j]?=some o->D j->∀e∈o.after,fv .any e=true->D e.on
theorem Ap{c:Array Oper}{D:Nat->Prop}(hc:uT c D):∀(f i j:Nat),reach c f i j=true->(∀o,c[j]?=some o->∀e∈o.after,fv .any e=true->D e.on)->D i
 |0,_,_,h,_=>by simp[reach]at h
 |f+1,i,j,h,d=>by
  simp only[reach]at h
  split at h
  case h_2=>simp at h
  rename_i o g;simp only[bo,ho,bl,beq_iff_eq,decide_eq_true_eq]at h;rcases h with⟨e,b,a,rfl⟩|⟨e,b,⟨a,_⟩,k⟩
  ·exact d o g e (by simpa using b) a
  ·have m:=d o g e (by simpa using b) a;exact Ap hc f i e.on k (fun o' p e' n l=>hc _ o' p m e' n l)
end
section
variable{P:bv}{ag:b3->Bool}{n:Nat}
theorem rB(a:Nat)(l:List Obj):(newAt a l).map (·.1)=ng a l:=by
 induction l generalizing a with
 |nil=>rfl
 |cons o l b=>simp[newAt,ng,b]
theorem Fz{a b:Nat}{l:List Obj}:b∈ng a l↔a<=b/\b<a+l.length:=by
 induction l generalizing a with
 |nil=>simp[ng]
 |cons o l c=>simp only[ng,hj,c,List.length_cons];omega
theorem wX{l:List (Nat×Obj)}{b:Nat}(h:b∉l.map (·.1)):∀H:aj,(bk H l)[b]?=H[b]?:=by
 induction l with
 |nil=>intro H;rfl
 |cons p l a=>
  obtain⟨c,o⟩:=p;intro H;simp only[hg,hj,not_or]at h;simp only[bk];rw[a h.2,hA (Ne.symm h.1)]
theorem SY{l:List (Nat×Obj)}{b:Nat}(h:b∈l.map (·.1)):∀H H':aj,H.length=H'.length->(bk H l)[b]?=(bk H' l)[b]?:=by
 induction l with
 |nil=>simp at h
 |cons p l f=>
  obtain⟨c,o⟩:=p;intro H H' d;simp only[bk]
  by_cases a:b∈l.map (·.1)
  ·exact f a _ _ (by simp[d])
  ·rw[wX a,wX a];simp only[hg,hj]at h;have:b=c:=h.resolve_right a;subst this
   by_cases e:b<H.length
   ·rw[hd e,hd (by omega)]
   ·rw[hy (by simp;omega),hy (by simp;omega)]
def cO(es:List (St×aS))(s':St)(k:Nat):St:=match es[k]? with
 |some (s,_)=>s
 |none=>s'
def fy(es:List (St×aS))(k:Nat):aS:=match es[k]? with
 |some (_,e)=>e
 |none=>{v:=.p .undef}
theorem Tr.at{a:Array Oper}:∀{l:List Oper}{i:Nat}{s s':St}{es:List (St×aS)},Tr P n a l i s es s'->es.length=l.length/\cO es s' 0=s/\
 ∀k o,l[k]?=some o->CE P n a o (cO es s' k) (fy es k)/\cO es s' (k+1)=(fy es k).app o.dst (cO es s' k)
 |_,_,_,_,_,.nil i s=>⟨rfl,rfl,fun k o h=>by simp at h⟩
 |_,_,_,_,_,.cons (o:=o) (r:=r) (i:=i) (s:=s) (s':=s') (e:=e) (es:=es) hi d=>by
  obtain⟨h1,b,c⟩:=d.at;refine⟨by simp[h1],rfl,fun k o' hk=>?_⟩;cases k with
  |zero=>
   simp at hk;subst hk;refine⟨by simpa[cO,fy]using hi,?_⟩;have:cO ((s,e)::es) s' (0+1)=cO es s' 0:=by simp[cO]
   rw[this,b];simp[cO,fy]
  |succ k=>
   have e1:∀m,cO ((s,e)::es) s' (m+1)=cO es s' m:=fun m=>by simp[cO]
   have e2:fy ((s,e)::es) (k+1)=fy es k:=by simp[fy]
   rw[e1,e1,e2];exact c k o' (by simpa using hk)
theorem RP(u:Touch)(i:Nat):iU u ⟨i,[],[]⟩=false:=by
 simp[iU]
theorem Rt(i b:Nat)(e:aS)(a:List Touch):(fN i b e a=a/\gC i b e=⟨i,[],[]⟩)\/fN i b e a=gC i b e::a:=by
 unfold fN
 split
 ·rename_i c d f;exact .inl ⟨rfl,by simp[gC,c,d,f,ng]⟩
 ·exact .inr rfl
theorem Gu{c:Array Oper}:∀(g:List (St×aS))(i:Nat)(d:List Touch),gZ c (n9 i g d)=true->gZ c d=true/\
 (∀u∈d,∀b s e,g[b]?=some (s,e)->iU u (gC (i+b) s.heap.length e)=true->reach c c.size u.i (i+b)=true)/\
 (∀a b s e f e2,a<b->g[a]?=some (s,e)->g[b]?=some (f,e2)->iU (gC (i+a) s.heap.length e) (gC (i+b) f.heap.length e2)=true->reach c c.size (i+a) (i+b)=true)
 |[],i,d,h=>⟨h,by simp,by simp⟩
 |(s,e)::g,i,d,h=>by
  simp only[n9]at h;obtain⟨j,m,r⟩:=Gu g (i+1) _ h
  have key:gZ c d=true/\(∀u∈d,iU u (gC i s.heap.length e)=true->reach c c.size u.i i=true)/\(∀u∈d,∀b s e,g[b]?=some (s,e)->iU u (gC (i+1+b) s.heap.length e)=true->reach c c.size u.i (i+1+b)=true)/\
   (∀b f e2,g[b]?=some (f,e2)->iU (gC i s.heap.length e) (gC (i+1+b) f.heap.length e2)=true->reach c c.size i (i+1+b)=true):=by
   rcases Rt i s.heap.length e d with⟨o,q⟩|o
   ·rw[o]at j m;refine⟨j,fun u _ hc=>?_,m,fun b f e2 _ hc=>?_⟩
    ·rw[q,RP]at hc;cases hc
    ·rw[q]at hc;simp[iU]at hc
   ·rw[o]at j m;simp only[gZ,bl,hl]at j;refine⟨j.2,fun u l hc=>?_,fun u l=>m u (by simp[l]),m _ (by simp)⟩;have:=j.1 u l;rw[hc]at this;exact(by simpa using this:reach c c.size u.i (gC i s.heap.length e).i=true)
  obtain⟨k1,k2,k3,k4⟩:=key;refine⟨k1,?_,?_⟩
  ·intro u l b p e1 k hc;cases b with
   |zero=>simp at k;obtain⟨rfl,rfl⟩:=k;exact k2 u l hc
   |succ b=>
    have:=k3 u l b p e1 (by simpa using k);rw[show i+(b+1)=i+1+b by omega]at hc⊢;exact this hc
  ·intro a b p e1 f e2 t n k hc;cases b with
   |zero=>omega
   |succ b=>
    rw[show i+(b+1)=i+1+b by omega]at hc⊢;cases a with
    |zero=>
     simp at n;obtain⟨rfl,rfl⟩:=n;exact k4 b f e2 (by simpa using k) hc
    |succ a=>
     rw[show i+(a+1)=i+1+a by omega]at hc⊢;exact r a b p e1 f e2 (by omega) (by simpa using n) (by simpa using k) hc
end
section
variable{P:bv}{ag:b3->Bool}{n:Nat}
def hx(N:Nat)(s:St):aj:=s.heap++ha (N-s.heap.length) .hole
def tj(a:Nat)(e:aS):List Nat:=(e.aI++newAt a e.aQ).map (·.1)
theorem Yr{N:Nat}{s:St}{e:aS}{o:Oper}(aI:∀p∈e.aI,p.1<s.heap.length)(d:(e.app o.dst s).heap.length<=N):hx N (e.app o.dst s)=bk (hx N s) (e.aI++newAt s.heap.length e.aQ):=by
 have b:(e.app o.dst s).heap=bk s.heap e.aI++e.aQ:=rfl;have f:(e.app o.dst s).heap.length=s.heap.length+e.aQ.length:=by rw[b];simp[nR]
 unfold hx;rw[b];have c:N-s.heap.length=e.aQ.length+(N-(s.heap.length+e.aQ.length)):=by omega
 rw[c,<-List.replicate_append_replicate,<-hD,wC _ _ _ (by
  intro p a;rcases hO.1 a with a|a
  ·have:=aI p a;simp;omega
  ·have:p.1∈(newAt s.heap.length e.aQ).map (·.1):=hJ a
   rw[rB,Fz]at this;simp;omega)]
 rw[tF,wC _ _ _ aI];have:=Ao (bk s.heap e.aI) e.aQ;rw[nR]at this;rw[this];congr 2;simp[nR]
section sched
variable{ops:Array Oper}{es:List (St×aS)}{s0 s':St}
structure iJ(P:bv)(n:Nat)(ops:Array Oper)(es:List (St×aS))(s':St):Prop where
 len:es.length=ops.size
 at_:∀k o,ops[k]?=some o->CE P n ops o (cO es s' k) (fy es k)/\cO es s' (k+1)=(fy es k).app o.dst (cO es s' k)
 dst:∀o∈ops.toList,iI n o=true
 lower:∀j o,ops[j]?=some o->∀e∈o.after,fv .any e=true->e.on<j
 tmps:∀i j u o,i<j->ops[i]?=some u->ops[j]?=some o->pE ops u o=true->reach ops ops.size i j=true
 heap:∀i j,i<j->j<ops.size->iU (gC i (cO es s' i).heap.length (fy es i)) (gC j (cO es s' j).heap.length (fy es j))=true->reach ops ops.size i j=true
def wr(a:List (St×aS))(s':St)(i:Nat):List Nat:=tj (cO a s' i).heap.length (fy a i)
structure At(ops:Array Oper)(es:List (St×aS))(s':St)(D:Nat->Prop)(s:St):Prop where
 tmp:∀x,∃k,k<=ops.size/\aN s.env x=aN (cO es s' k).env x/\∀i o,ops[i]?=some o->o.dst=some x->(D i↔i<k)
 len:s.heap.length=s'.heap.length
 heap:∀b,∃k,k<=ops.size/\s.heap[b]?=(hx s'.heap.length (cO es s' k))[b]?/\∀i,i<ops.size->b∈wr es s' i->(D i↔i<k)
variable(h:iJ P n ops es s')
include h
theorem iJ.mono:∀{k m:Nat},k<=m->m<=ops.size->(cO es s' k).heap.length<=(cO es s' m).heap.length:=by
 intro k m e f
 induction m with
 |zero=>
  obtain rfl:k=0:=by omega
  exact hR _
 |succ m c=>
  by_cases hk:k=m+1
  ·subst hk;exact hR _
  ·have d:=c (by omega) (by omega);have b:ops[m]?=some ops[m]:=a0 (by omega);obtain⟨_,a⟩:=h.at_ m _ b;rw[a];simp only[aS.app,hb,nR];omega
theorem iJ.last:cO es s' ops.size=s':=by
 have:es[ops.size]?=none:=hy (by rw[h.len];exact hR _);simp[cO,this]
theorem iJ.vq{k:Nat}(hk:k<=ops.size):(cO es s' k).heap.length<=s'.heap.length:=by
 have:=h.mono hk (hR _)
 rwa [h.last]at this
theorem iJ.gJ{k:Nat}(hk:k<ops.size):hx s'.heap.length (cO es s' (k+1))=bk (hx s'.heap.length (cO es s' k)) ((fy es k).aI++newAt (cO es s' k).heap.length (fy es k).aQ):=by
 have c:ops[k]?=some ops[k]:=a0 hk;obtain⟨h1,b⟩:=h.at_ k _ c;have a:=h.vq (k:=k+1) hk;rw[b]at a⊢;exact Yr h1.aI a
theorem Yq{k:Nat}(hk:k<=ops.size):(hx s'.heap.length (cO es s' k)).length=s'.heap.length:=by
 have:=h.vq hk;simp[hx];omega
theorem iJ.H8{x:Nat}:∀{k m:Nat},k<=m->m<=ops.size->(∀i o,k<=i->i<m->ops[i]?=some o->o.dst≠some x)->aN (cO es s' m).env x=aN (cO es s' k).env x:=by
 intro k m j
 induction m with
 |zero=>
  intro _ _;obtain rfl:k=0:=by omega
  rfl
 |succ m g=>
  intro l d
  by_cases hk:k=m+1
  ·subst hk;rfl
  ·have e:=g (by omega) (by omega) (fun i o a b=>d i o a (by omega));have c:ops[m]?=some ops[m]:=a0 (by omega);obtain⟨_,f⟩:=h.at_ m _ c;rw[f];simp only[aS.app,tS];rw[if_neg (d m _ (by omega) (by omega) c)];exact e
theorem iJ.HA{b:Nat}:∀{k m:Nat},k<=m->m<=ops.size->(∀i,k<=i->i<m->b∉wr es s' i)->(hx s'.heap.length (cO es s' m))[b]?=(hx s'.heap.length (cO es s' k))[b]?:=by
 intro k m f
 induction m with
 |zero=>
  intro _ _;obtain rfl:k=0:=by omega
  rfl
 |succ m e=>
  intro g c
  by_cases hk:k=m+1
  ·subst hk;rfl
  ·have d:=e (by omega) (by omega) (fun i a b=>c i a (by omega));rw[h.gJ (by omega),wX (c m (by omega) (by omega))];exact d
theorem iJ.Jv{x:Nat}{k m:Nat}(hk:k<=ops.size)(g:m<=ops.size)(f:∀i o,ops[i]?=some o->o.dst=some x->(i<k↔i<m)):aN (cO es s' m).env x=aN (cO es s' k).env x:=by
 rcases h0 k m with d|d
 ·exact h.H8 d g fun i o a b e c=>by have:=f i o e c;omega
 ·exact(h.H8 d hk fun i o a b e c=>by have:=f i o e c;omega).symm
theorem iJ.Jg{b:Nat}{k m:Nat}(hk:k<=ops.size)(g:m<=ops.size)(f:∀i,i<ops.size->b∈wr es s' i->(i<k↔i<m)):(hx s'.heap.length (cO es s' m))[b]?=(hx s'.heap.length (cO es s' k))[b]?:=by
 rcases h0 k m with e|e
 ·exact h.HA e g fun i a c d=>by have:=f i (by omega) d;omega
 ·exact(h.HA e hk fun i a c d=>by have:=f i (by omega) d;omega).symm
variable{D:Nat->Prop}(hc:uT ops D)
include hc
theorem iJ.order{i:Nat}{o:Oper}(k:ops[i]?=some o)(h:¬D i)(l:∀e∈o.after,fv .any e=true->D e.on):
 (∀j,j<i->reach ops ops.size j i=true->D j)/\(∀j,j<ops.size->i<j->reach ops ops.size i j=true->¬D j):=by
 constructor
 ·intro j g b;exact Ap hc _ _ _ b (fun o' a=>by rw[k]at a;cases a;exact l)
 ·intro j m g b d;exact h (Ap hc _ _ _ b (fun o' a e f c=>hc j o' a d e f c))
theorem iJ.reads{i:Nat}{o:Oper}(l:ops[i]?=some o)(q:¬D i)(y:∀e∈o.after,fv .any e=true->D e.on){s:St}(t:At ops es s' D s):
 (∀x∈looks ops o,aN s.env x=aN (cO es s' i).env x)/\(∀b,b∈(fy es i).ak.map (·.1)\/b∈wr es s' i->s.heap[b]?=(hx s'.heap.length (cO es s' i))[b]?):=by
 obtain⟨v,w⟩:=h.order hc l q y;have hi:i<ops.size:=(aT.1 l).1;constructor
 ·intro x hx;obtain⟨k,k1,k2,k3⟩:=t.tmp x;rw[k2];refine h.Jv (by omega) k1 fun j u m p=>?_;have g:j<ops.size:=(aT.1 m).1;rw[<-k3 j u m p];constructor
  ·intro a;refine v j a (h.tmps j i u o a m l ?_);simp[pE,p,hx]
  ·intro f;rcases hS j i with a|rfl|a
   ·exact a
   ·exact(q f).elim
   ·exact(w j g a (h.tmps i j o u a l m (by simp[pE,p,hx])) f).elim
 ·intro b c;obtain⟨k,k1,k2,k3⟩:=t.heap b;rw[k2];refine h.Jg (by omega) k1 fun j g n=>?_;rw[<-k3 j g n];have r:b∈(gC j (cO es s' j).heap.length (fy es j)).wr:=by
   unfold wr tj at n;rw[hp,rB]at n;exact n
  have d:b∈(gC i (cO es s' i).heap.length (fy es i)).rd\/b∈(gC i (cO es s' i).heap.length (fy es i)).wr:=by
   rcases c with c|c
   ·exact .inl c
   ·unfold wr tj at c;rw[hp,rB]at c;exact .inr c
  constructor
  ·intro a;refine v j a (h.heap j i a hi ?_);simp only[iU,bo,ho,hn];exact .inl ⟨b,r,d⟩
  ·intro f;rcases hS j i with a|rfl|a
   ·exact a
   ·exact(q f).elim
   ·refine(w j g a (h.heap i j a g ?_) f).elim;simp only[iU,bo,ho,hn];rcases d with d|d
    ·exact .inr ⟨b,d,r⟩
    ·exact .inl ⟨b,d,.inr r⟩
theorem iJ.next{i:Nat}{o:Oper}(l:ops[i]?=some o)(z:¬D i)(A:∀e∈o.after,fv .any e=true->D e.on){s:St}(p:At ops es s' D s):
 At ops es s' (fun j=>D j\/j=i) ⟨put o.dst (fy es i).v s.env,bk s.heap ((fy es i).aI++newAt (cO es s' i).heap.length (fy es i).aQ)⟩:=by
 obtain⟨w,y⟩:=h.order hc l z A;have hi:i<ops.size:=(aT.1 l).1;obtain⟨B,gJ⟩:=h.at_ i o l;refine⟨fun x=>?_,by simp only[nR];exact p.len,fun b=>?_⟩
 ·by_cases hx:o.dst=some x
  ·refine⟨i+1,hi,?_,fun j u d n=>?_⟩
   ·rw[gJ];simp[aS.app,tS,hx]
   ·have g:j<ops.size:=(aT.1 d).1;constructor
    ·rintro(c|rfl)
     ·rcases hS j i with a|rfl|a
      ·omega
      ·omega
      ·exact(y j g a (h.tmps i j o u a l d (by simp[pE,n,hx])) c).elim
     ·omega
    ·intro a
     by_cases q:j=i
     ·exact .inr q
     ·exact .inl (w j (by omega) (h.tmps j i u o (by omega) d l (by simp[pE,n,hx])))
  ·obtain⟨k,k1,k2,k3⟩:=p.tmp x;refine⟨k,k1,?_,fun j u d n=>?_⟩
   ·simp only[tS];rw[if_neg hx];exact k2
   ·rw[<-k3 j u d n];constructor
    ·rintro(c|rfl)
     ·exact c
     ·rw[l]at d;cases d;exact(hx n).elim
    ·exact .inl
 ·by_cases f:b∈wr es s' i
  ·refine⟨i+1,hi,?_,fun j g m=>?_⟩
   ·rw[h.gJ hi];exact SY f _ _ (by rw[Yq h (by omega)];exact p.len)
   ·have t:b∈(gC j (cO es s' j).heap.length (fy es j)).wr:=by
     unfold wr tj at m;rw[hp,rB]at m;exact m
    have r:b∈(gC i (cO es s' i).heap.length (fy es i)).wr:=by
     unfold wr tj at f;rw[hp,rB]at f;exact f
    constructor
    ·rintro(c|rfl)
     ·rcases hS j i with a|rfl|a
      ·omega
      ·omega
      ·refine(y j g a (h.heap i j a g ?_) c).elim;simp only[iU,bo,ho,hn];exact .inl ⟨b,r,.inr t⟩
     ·omega
    ·intro a
     by_cases q:j=i
     ·exact .inr q
     ·refine .inl (w j (by omega) (h.heap j i (by omega) hi ?_));simp only[iU,bo,ho,hn];exact .inl ⟨b,t,.inr r⟩
  ·obtain⟨k,k1,k2,k3⟩:=p.heap b;refine⟨k,k1,?_,fun j g m=>?_⟩
   ·simp only;rw[wX f];exact k2
   ·rw[<-k3 j g m];constructor
    ·rintro(c|rfl)
     ·exact c
     ·exact(f m).elim
    ·exact .inl
end sched
end
section
variable{P:bv}{ag:b3->Bool}{n:Nat}
variable{ops:Array Oper}{es:List (St×aS)}{s':St}
theorem cw.congr{ah aa:Nat->Prop}{β:Bd}{s u:St}{t:Array b5}{w:cb}(h:cw P n ah aa β s t w)(b:∀x,aN u.env x=aN s.env x)(a:u.heap=s.heap):cw P n ah aa β u t w:=by
 refine⟨by rw[a];exact h.heap,fun x=>?_,fun x=>?_,h.size⟩
 ·rw[b,a];exact h.env x
 ·rw[b,a];exact h.gp x
theorem cw.oL{ah aa:Nat->Prop}{β:Bd}{s:St}{t:Array b5}{w:cb}(m:Nat)(h:cw P n ah aa β s t w):cw P n ah aa β ⟨s.env,s.heap++ha m .hole⟩ t w:=
 ⟨h.heap.oL m,fun x=>aw.mono (fun _ x=>x) (fun _ _=>rfl) (pc β s.heap m) _ _ (h.gp x) (h.env x),fun x=>aD.mono (mV _ _) _ (h.gp x),h.size⟩
theorem US{o:Oper}{e e':Env}(h:∀x∈looks ops o,aN e' x=aN e x):∀x∈o.op.operands,ev e' x=ev e x:=by
 intro x hx;cases x with
 |tmp t=>
  simp only[ev];refine h t ?_;simp only[looks,hO,List.mem_filterMap];exact .inl ⟨.tmp t,by simpa using hx,rfl⟩
 |_=>rfl
theorem iJ.run(h:iJ P n ops es s'){D:Nat->Prop}(hc:uT ops D){i:Nat}{o:Oper}(a:ops[i]?=some o)(x:¬D i)(z:∀e∈o.after,fv .any e=true->D e.on){s:St}(m:At ops es s' D s)
 {fr:ce}{k:List Item}{cs:List ce}{r:List Nat}{ds:List cv}{ah aa:Nat->Prop}{β:Bd}{t:Array b5}{w:cb}(b:cw P n ah aa β s t w):
 ∃u aE aG d w',dl P (lone (bu fr t ds (.inRegion ops (i::r)::k)) cs w) (lone (bu fr d ds (.inRegion ops r::k)) cs w')/\cw P n ah aE aG u d w'/\(∀N,dL N ah aa w β s.heap ah aE w' aG u.heap)/\At ops es s' (fun j=>D j\/j=i) u:=by
 obtain⟨g,A⟩:=h.reads hc a x z m;have hi:i<ops.size:=(aT.1 a).1;obtain⟨v,_⟩:=h.at_ i o a;have c:=h.next hc a x z m;have q:iI n o=true:=h.dst o (by rw[Array.mem_toList_iff];exact Array.mem_of_getElem? a);have H:=h.vq (k:=i) (by omega);rcases v.act with⟨f,C⟩|⟨f,E⟩
 ·obtain⟨aE,aG,d,w',B,a2,a3⟩:=C fr k cs ops i r ds ah aa β s t w a (f t s ah aa β w b g) q b (US g) (by
   intro p y;rw[A p.1 (.inl (hJ y))];have:=v.ak p y;unfold hx;rw[ht (g9.1 this).1];exact this) (by
   intro j G;have F:(cO es s' i).heap.length+j∈wr es s' i:=by
    unfold wr tj;rw[hp,rB];exact List.mem_append_right _ (Fz.2 ⟨by omega,by omega⟩)
   rw[A _ (.inr F)];have l:=h.vq (k:=i+1) (by omega);rw[(h.at_ i o a).2]at l;simp only[aS.app,hb,nR]at l;unfold hx;rw[kA,if_neg (by omega),if_pos (by omega)])
  exact⟨_,aE,aG,d,w',B,a2,a3,c⟩
 ·rw[E]at c;simp only[newAt,hh,bk]at c;exact⟨_,aa,β,_,w,.one (G7 a (f t s ah aa β w b g)),b.put q (bP.refl b.heap) (by simp[aw,aB,bE,undef]) (by simp[aD]),fun _=>dL.refl _ _ _ _ _ _,c⟩
def isDone(a:Array Bool)(i:Nat):Prop:=a.getD i false=true
theorem Gc{p:Nat->Bool}{i:Nat}:∀{l:List Nat},l.Nodup->i∈l->p i=true->l.countP p=l.countP (fun x=>p x&&x !=i)+1
 |[],_,h,_=>by simp at h
 |a::l,c,h,d=>by
  rw[List.nodup_cons]at c
  by_cases b:a=i
  ·subst b;have e:l.countP (fun x=>p x&&x !=a)=l.countP p:=by
    refine hM fun x hx=>?_;have:x≠a:=fun e=>c.1 (e▸hx);simp[this]
   simp[d,e]
  ·have f:i∈l:=by
    rcases hj.1 h with h|h
    ·exact(b h.symm).elim
    ·exact h
   have g:=Gc c.2 f d;rw[hN,hN,g];have:(a !=i)=true:=by simpa using b
   simp only[this,Bool.and_true];omega
def left(b:Array Oper)(a:Array Bool):Nat:=(hv b.size).countP fun i=>!a.getD i true
theorem iJ.goes(h:iJ P n ops es s'){fr:ce}{k:List Item}{cs:List ce}{ds:List cv}{ah:Nat->Prop}:∀(c b:Nat)(a:Array Bool)(s:St)(aa:Nat->Prop)(β:Bd)(t:Array b5)(w:cb),a.size=ops.size->left ops a<=c->uT ops (isDone a)->
 At ops es s' (isDone a) s->cw P n ah aa β s t w->
 ∃u D aE aG R w',dl P (lone (bu fr t ds (.inRegion ops (gc .any ops c b a [])::k)) cs w) (lone (bu fr R ds (.inRegion ops []::k)) cs w')/\cw P n ah aE aG u R w'/\(∀N,dL N ah aa w β s.heap ah aE w' aG u.heap)/\At ops es s' D u/\∀j,j<ops.size->D j:=by
 have L:∀(a:Array Bool),a.size=ops.size->fl .any ops a=[]->∀j,j<ops.size->isDone a j:=by
  intro a q f j
  induction j using hX with
  |_ j K=>
   intro d
   by_cases A:isDone a j
   ·exact A
   ·exfalso;have G:j<a.size:=by omega
    have:j∈fl .any ops a:=by
     rw[da];refine⟨?_,ops[j],a0 d,fun e B z=>?_⟩
     ·unfold isDone at A;simp only[bb,a0 G,h2]at A⊢;simpa using A
     ·have H:=h.lower j _ (a0 d) e B z;exact K e.on H (by omega)
    rw[f]at this;simp at this
 intro c
 induction c with
 |zero=>
  intro b a s aa β t w q O hc y C;have f:fl .any ops a=[]:=by
   rw[List.eq_nil_iff_forall_not_mem];intro j d;rw[da]at d;obtain⟨g,o,m,_⟩:=d;have G:j<ops.size:=(aT.1 m).1;have:0<left ops a:=by
    unfold left;rw[List.countP_pos_iff];exact⟨j,by simpa using G,by rw[g];rfl⟩
   omega
  exact⟨s,isDone a,aa,β,t,w,by simp only[gc,List.reverse_nil];exact gy _ _,C,fun _=>dL.refl _ _ _ _ _ _,y,L a q f⟩
 |succ c K=>
  intro b a s aa β t w q O hc y C;have ac:gc .any ops (c+1) b a []=(match(fl .any ops a)[b%(fl .any ops a).length]? with
   |some i=>gc .any ops c (b/(fl .any ops a).length) (a.setIfInBounds i true) [i]
   |none=>[].reverse):=rfl
  rw[ac];cases hi:(fl .any ops a)[b%(fl .any ops a).length]? with
  |none=>
   have f:fl .any ops a=[]:=by
    cases f:fl .any ops a with
    |nil=>rfl
    |cons x xs=>
     rw[f]at hi;have H:b%(x::xs).length<(x::xs).length:=Nat.mod_lt _ (by simp);rw[he H]at hi;cases hi
   exact⟨s,isDone a,aa,β,t,w,gy _ _,C,fun _=>dL.refl _ _ _ _ _ _,y,L a q f⟩
  |some i=>
   simp only;rw[linearise_go_acc,List.reverse_singleton,List.singleton_append];have af:=List.mem_of_getElem? hi;obtain⟨g,o,m,Q⟩:=da.1 af;have ad:i<ops.size:=(aT.1 m).1;have E:i<a.size:=by omega
   have ag:¬isDone a i:=by
    unfold isDone;simp only[bb,a0 E,h2]at g⊢;simp[g]
   obtain⟨u,S,aj,t1,w1,U,a2,a3,a4⟩:=h.run (fr:=fr) (k:=k) (cs:=cs) (ds:=ds) (r:=gc .any ops c (b/(fl .any ops a).length) (a.setIfInBounds i true) []) hc m ag Q y C;have M:(fun j=>isDone a j\/j=i)=isDone (a.setIfInBounds i true):=by
    funext j
    unfold isDone
    by_cases F:j=i
    ·subst F;simp[E]
    ·have:(a.setIfInBounds i true).getD j false=a.getD j false:=dk false (Ne.symm F);rw[this];simp[F]
   rw[M]at a4;have ab:uT ops (isDone (a.setIfInBounds i true)):=by
    rw[<-M];intro j o' I d e B z;rcases d with d|rfl
    ·exact .inl (hc j o' I d e B z)
    ·rw[m]at I;cases I;exact .inl (Q e B z)
   have ae:left ops (a.setIfInBounds i true)<=c:=by
    have al:=Gc (p:=fun j=>!a.getD j true) (i:=i) (l:=hv ops.size) List.nodup_range (by simpa using ad) (by show(!a.getD i true)=true;rw[g];rfl);have:left ops (a.setIfInBounds i true)=(hv ops.size).countP (fun x=>!a.getD x true&&x !=i):=by
     unfold left;refine hM fun x hx=>?_
     by_cases J:x=i
     ·subst J;simp[E]
     ·have:(a.setIfInBounds i true).getD x true=a.getD x true:=dk true (Ne.symm J);rw[this];simp[J]
    unfold left at O;omega
   obtain⟨v,D,T,ak,t2,ai,V,W,X,Y,Z⟩:=K (b/(fl .any ops a).length) (a.setIfInBounds i true) u S aj t1 w1 (by simpa using q) ae ab a4 a2;exact⟨v,D,T,ak,t2,ai,U.trans V,W,fun N=>(a3 N).trans (X N),Y,Z⟩
theorem UQ(h:fit n ops=true):(∀j o,ops[j]?=some o->∀e∈o.after,fv .any e=true->e.on<j)/\
 (∀i j u o,i<j->ops[i]?=some u->ops[j]?=some o->pE ops u o=true->reach ops ops.size i j=true):=by
 unfold fit at h;rw[hl]at h;constructor
 ·intro j o a e f c;have b:j<ops.size:=(aT.1 a).1;have:=h j (by simpa using b);rw[a]at this;simp only[bl,hl]at this;have:=this.1 e (by simpa using f);simpa[c]using this
 ·intro i j u o g k a d;have b:j<ops.size:=(aT.1 a).1;have:=h j (by simpa using b);rw[a]at this;simp only[bl,hl]at this;have:=this.2 i (by simpa using g);rw[k]at this;simpa[d]using this
theorem wN(C:kX P ag)(Z:P.follows .mixedOrders=true):rE P ag fit:=by
 intro n N a fr k cs F f K s ah aa β t w T B h ab;obtain⟨es,s',I,J,M⟩:=H7 C B a.toList 0 [] s (fun _ h=>h) h;obtain⟨t1,t2,t3⟩:=I.at;obtain⟨_,_,O⟩:=Gu es 0 [] M;obtain⟨f1,f2⟩:=UQ (n:=n) T;have X:es.length=a.size:=by simpa using t1
 have hs:iJ P n a es s':=by
  refine⟨X,fun k o c=>t3 k o (by simpa using c),B,f1,f2,fun i j U ai v=>?_⟩;have hi:i<es.length:=by omega
  have A:j<es.length:=by omega
  have G:es[i]?=some (es[i].1,es[i].2):=by simp[he hi]
  have H:es[j]?=some (es[j].1,es[j].2):=by simp[he A]
  have:=O i j es[i].1 es[i].2 es[j].1 es[j].2 U G H;simp only[hZ]at this;refine this ?_;have g:cO es s' i=es[i].1/\fy es i=es[i].2:=by simp[cO,fy,he hi]
  have q:cO es s' j=es[j].1/\fy es j=es[j].2:=by simp[cO,fy,he A]
  rw[g.1,g.2,q.1,q.2]at v;exact v
 have V:=hs.vq (k:=0) (hV _);rw[t2]at V;obtain⟨m,Y⟩:∃m,m=s'.heap.length-s.heap.length:=⟨_,rfl⟩
 have ac:=ab.oL m;have Q:∀N,dL N ah aa w β s.heap ah aa w β (s.heap++ha m .hole):=fun N=>⟨fun _ x=>x,fun _ x=>x,fun _ x=>.inl x,Ext.refl _ _ _,(pc _ _ _).n,fun x _=>mV _ _ x,fun b _⟨L,r⟩=>⟨L,by rw[kA,if_pos (g9.1 r).1];exact r⟩⟩
 have ad:gb (P.follows .mixedOrders) a f=gc .any a a.size f (a6 a.size false) []:=by
  simp[gb,Z,Region.linearise]
 have e:∀i,¬isDone (a6 a.size false) i:=by
  intro i hi;unfold isDone at hi
  by_cases z:i<a.size
  ·simp[z]at hi
  ·simp[z]at hi
 have R:At a es s' (isDone (a6 a.size false)) ⟨s.env,s.heap++ha m .hole⟩:=by
  refine⟨fun x=>⟨0,hV _,by rw[t2],fun i o _ _=>⟨fun h=>(e i h).elim,fun h=>by omega⟩⟩,by simp;omega,fun b=>⟨0,hV _,by rw[t2];unfold hx;rw[<-Y],fun i _ _=>⟨fun h=>(e i h).elim,fun h=>by omega⟩⟩⟩
 have W:left a (a6 a.size false)<=a.size:=by
  unfold left;have:=List.countP_le_length (p:=fun i=>!(a6 a.size false).getD i true) (l:=hv a.size);simpa using this
 obtain⟨u,D,aE,aG,af,w',E,a2,a3,a4,a5⟩:=hs.goes (fr:=fr) (k:=k) (cs:=cs) (ds:=F) a.size f (a6 a.size false) _ aa β t w (by simp) W (fun j o c d=>(e j d).elim) R ac;rw[ad];have S:∀x,aN s'.env x=aN u.env x:=by
  intro x;obtain⟨k,k1,k2,k3⟩:=a4.tmp x;rw[k2];have:=hs.Jv (x:=x) k1 (hR a.size) (fun i o c d=>by
   have hi:i<a.size:=(aT.1 c).1;have:=(k3 i o c d).1 (a5 i hi);exact⟨fun _=>hi,fun _=>this⟩)
  rw[hs.last]at this;exact this
 have y:s'.heap=u.heap:=by
  apply List.ext_getElem?;intro b;obtain⟨k,k1,k2,k3⟩:=a4.heap b;rw[k2];have:=hs.Jg (b:=b) k1 (hR a.size) (fun i hi ae=>by
   have:=(k3 i hi ae).1 (a5 i hi);exact⟨fun _=>hi,fun _=>this⟩)
  rw[hs.last]at this;rw[<-this];simp[hx]
 exact⟨s',aE,aG,af,w',J,E,a2.congr S y,(Q N).trans (y▸a3 N)⟩
end
section
variable{P:bv}
structure an(P:bv)(f:b3)(fn:Func):Prop where
 func:P.funcs[f]?=some fn
 stat:(fn.body.isSome&&(fn.name != "runtime.NumGoroutine")&&codeOk fit fn.ntmps (fn.body.getD .skip))=true
theorem an.enters{f:b3}{fn:Func}(h:an P f fn):Enters P f:=by
 intro args w;have hs:=h.stat;simp only[bl,bne_iff_ne]at hs;cases a:fn.body with
 |none=>rw[a]at hs;simp at hs
 |some c=>simp[callFunc,h.func,hs.1.2,a]
def Ends(P:bv)(a:List ResultVar)(v:PV)(e:bm)(s:St):Prop:=
 (match e with
  | .exit _=>False
  |_=>True)/\∃vs,fC P s a=some vs/\er s.heap 9 (oneOf vs)=some v
theorem yR{f:b3}{fn:Func}(ag:b3->Bool)(h:an P f fn)(b:P.follows .mixedOrders=true){args:List PV}{v:PV}(c:args.length<=fn.ntmps)
 (d:bW P ag (fn.ntmps,0) (fn.body.getD .skip) (Ends P fn.results.toList v) ⟨iw 0 (args.map .p),[]⟩):au P f args v:=by
 have hs:=h.stat;simp only[bl,bne_iff_ne]at hs;have a:fn.body=some (fn.body.getD .skip):=by
  have:=hs.1.1;cases e:fn.body<;>simp_all
 exact .inl (Iz (nS ag) (wN (nS ag) b) h.enters h.func a hs.2 c d)
class aHz(P:bv)(f:b3)(args:List PV)(pre:outParam Prop)(v:outParam PV):Prop where
 yR:pre->au P f args v
section calls
variable{f:b3}{H:aj}{pre:Prop}{v:PV}
end calls
def qG(e:Env):Env->Prop
 |[]=>True
 |(x,v)::r=>aN e x=v/\qG e r
def jV:aj->aj->Prop
 |_,[]=>True
 |[],.hole::t=>jV [] t
 |_::h,.hole::t=>jV h t
 |o::h,o'::t=>o=o'/\jV h t
 |[],_::_=>False
theorem qG.get{e:Env}:∀{t:Env},qG e t->∀x,aN t x=aN e x\/aN t x=.p .undef
 |[],_,x=>.inr rfl
 |(y,v)::t,h,x=>by
  simp only[qG]at h;simp only[aN]
  split
  ·rename_i hx;subst hx;exact .inl h.1.symm
  ·exact qG.get h.2 x
theorem jV.get:∀{h t:aj},jV h t->∀(b:Nat)(o:Obj),t[b]?=some o->o=.hole\/h[b]?=some o
 |_,[],_,b,o,a=>by simp at a
 |[],o'::t,hk,b,o,a=>by
  cases o'<;>simp only[jV]at hk;cases b with
  |zero=>simp at a;exact .inl a.symm
  |succ b=>exact(jV.get hk b o (by simpa using a)).imp id (fun h=>by simp at h)
 |c::h,o'::t,hk,b,o,a=>by
  cases b with
  |zero=>
   simp at a;cases o'<;>simp only[jV]at hk
   case hole=>exact .inl a.symm
   all_goals exact .inr (by rw[<-a,<-hk.1];simp)
  |succ b=>
   have:jV h t:=by cases o'<;>simp only[jV]at hk<;>first|exact hk|exact hk.2
   exact(jV.get this b o (by simpa using a)).imp id (fun h=>by simpa using h)
def gM(H:aj):Env->Prop
 |[]=>True
 |(_,v)::r=>aD (aF H) v/\gM H r
def dv(H:aj):aj->Prop
 |[]=>True
 |o::r=>o.refs (aF H)/\dv H r
theorem gM.get{H:aj}:∀{e:Env},gM H e->∀x,aD (aF H) (aN e x)
 |[],_,x=>by simp[aN,aD]
 |(y,v)::e,h,x=>by
  simp only[gM]at h;simp only[aN]
  split
  ·exact h.1
  ·exact gM.get h.2 x
theorem dv.get{H:aj}:∀{h:aj},dv H h->∀(b:Nat)(o:Obj),h[b]?=some o->o.refs (aF H)
 |[],_,b,o,a=>by simp at a
 |c::h,hr,b,o,a=>by
  simp only[dv]at hr;cases b with
  |zero=>simp at a;subst a;exact hr.1
  |succ b=>exact dv.get hr.2 b o (by simpa using a)
theorem oD.of{s t:St}(a:qG s.env t.env)(c:jV s.heap t.heap)(e:gM t.heap t.env)(f:dv t.heap t.heap):oD s t:=
 ⟨fun x=>(a.get x).imp id .inl,fun b o d=>(c.get b o d).imp id .inl,e.get,f.get⟩
theorem dd.of{N:Nat}{s t:St}(e:t.heap.take N=s.heap.take N)(c:qG s.env t.env)(d:jV s.heap t.heap)(f:gM t.heap t.env)(g:dv t.heap t.heap):dd N s t:=by
 refine .inr ⟨oD.of c d f g,fun b a=>?_⟩;have:=congrArg (fun l:aj=>l[b]?) e;simpa[List.getElem?_take,a]using this
theorem NQ{f:b3}{fn:Func}(ag:b3->Bool)(h:an P f fn)(b:P.follows .mixedOrders=true){args:List AV}{H H':aj}{v:AV}(c:args.length<=fn.ntmps)
 (d:bW P ag (fn.ntmps,H.length) (fn.body.getD .skip) (sH P fn.results.toList H.length H' v) ⟨iw 0 args,H⟩):de P f H args H' v:=by
 have hs:=h.stat;simp only[bl,bne_iff_ne]at hs;have a:fn.body=some (fn.body.getD .skip):=by
  have:=hs.1.1;cases e:fn.body<;>simp_all
 exact UP (nS ag) (wN (nS ag) b) h.enters h.func a hs.2 c d
theorem NR(ag:b3->Bool)(f:P.follows .mixedOrders=true){b:Nat}{L:dD}{H H':aj}{args:List AV}{v:AV}(d:H[b]?=some (.loop L))(e:args.length=L.params.length)
 (a:(L.params.all (fun x=>decide (x<L.n))&&codeOk fit L.n L.assign&&codeOk fit L.n L.body)=true)(g:xA P ag L b args H (fun c h=>h=v/\dd H.length ⟨[],c⟩ ⟨[],H'⟩)):fh P b H args H' v:=by
 simp only[bl,hl,decide_eq_true_eq]at a;exact UN (nS ag) (wN (nS ag) f) d e a.1.1 a.1.2 a.2 g
theorem again{N:Nat}{α:Type}{mk:α->St}{ok:α->Prop}{m:α->Nat}{n:Nat}{s':St}(a':α)(c:m a'<n)(d:ok a')(e:dd N s' (mk a')):∃a b,a<n/\dd N s' b/\∃a',ok a'/\b=mk a'/\a=m a':=
 ⟨m a',mk a',c,e,a',d,rfl,rfl⟩
end
section
variable{P:bv}{ag:b3->Bool}
def aR{α:Type}(F:(α->Prop)->Prop):Prop:=∀K,F K->∃a,K a/\∀b:α->Prop,b a->F b
theorem aR.one{α β:Type}(f:β->α)(b:β):aR (fun K:α->Prop=>K (f b)):=fun _ h=>⟨f b,h,fun _ h=>h⟩
theorem aR.false{α:Type}:aR (fun _:α->Prop=>False):=fun _ h=>h.elim
theorem aR.and{α:Type}{p:Prop}{F:(α->Prop)->Prop}(h:aR F):aR (fun K=>p/\F K):=fun K hk=>by
 obtain⟨a,c,d⟩:=h K hk.2;exact⟨a,c,fun b h=>⟨hk.1,d b h⟩⟩
theorem aR.ex{α:Type}{β:Sort _}{F:β->(α->Prop)->Prop}(h:∀b,aR (F b)):aR (fun K=>∃b,F b K):=fun K⟨b,f⟩=>by
 obtain⟨a,d,e⟩:=h b K f;exact⟨a,d,fun c h=>⟨b,e c h⟩⟩
theorem aR.or{α:Type}{F G:(α->Prop)->Prop}(h:aR F)(e:aR G):aR (fun K=>F K\/G K):=fun K hk=>by
 rcases hk with hk|hk
 ·obtain⟨a,c,d⟩:=h K hk;exact⟨a,c,fun b h=>.inl (d b h)⟩
 ·obtain⟨a,c,d⟩:=e K hk;exact⟨a,c,fun b h=>.inr (d b h)⟩
theorem aR.ite{α:Type}{p:Prop}[Decidable p]{F G:(α->Prop)->Prop}(h:aR F)(f:aR G):aR (fun K=>if p then F K else G K):=fun K hk=>by
 split at hk
 ·rename_i e;obtain⟨a,c,d⟩:=h K hk;exact⟨a,c,fun b h=>by simpa[e]using d b h⟩
 ·rename_i e;obtain⟨a,c,d⟩:=f K hk;exact⟨a,c,fun b h=>by simpa[e]using d b h⟩
theorem aR.bind{α β:Type}{F:(α->Prop)->Prop}{G:α->(β->Prop)->Prop}(h:aR F)(d:∀a,aR (G a)):aR (fun K=>F (fun a=>G a K)):=fun K hk=>by
 obtain⟨a,e,f⟩:=h _ hk;obtain⟨b,g,i⟩:=d a K e;exact⟨b,g,fun c h=>f _ (i c h)⟩
theorem aR.map{α β:Type}{F:(α->Prop)->Prop}(h:aR F)(f:α->β):aR (fun K=>F (fun a=>K (f a))):=h.bind fun a=>aR.one f a
theorem Tl(T:b0)(H:aj)(a:AV):aR (nu P T H a):=by
 unfold nu
 repeat' first
  |exact aR.false
  |exact aR.one id _
  |refine aR.and ?_
  |refine aR.ex fun _=>?_
  |split
theorem SW(T:b0)(H:aj)(a x:AV):aR (mX P T H a x):=by
 unfold mX
 repeat' first
  |exact aR.false
  |exact aR.one id _
  |refine aR.and ?_
  |refine aR.ex fun _=>?_
  |split
theorem QC(T:b0)(a:AV)(f:Nat):aR (mO P T a f):=by
 unfold mO
 repeat' first
  |exact aR.false
  |exact aR.one id _
  |refine aR.and ?_
  |refine aR.ex fun _=>?_
  |split
theorem QB(T:b0)(H:aj)(a i:AV):aR (mN P T H a i):=by
 unfold mN
 repeat' first
  |exact aR.false
  |exact aR.one id _
  |refine aR.and ?_
  |refine aR.ex fun _=>?_
  |split
theorem Rn(T X:b0)(H:aj)(s x:AV):aR (mQ P T X H s x):=by
 unfold mQ
 repeat' first
  |exact aR.false
  |exact aR.one id _
  |refine aR.and ?_
  |refine aR.ex fun _=>?_
  |refine aR.ite ?_ ?_
  |split
theorem Ib{α:Type}{F:Nat->(α->Prop)->Prop}(x:Option AV)(d:Nat)(h:∀n,aR (F n)):aR (fun K=>gl x d (fun n=>F n K)):=by
 unfold gl
 split
 ·exact h _
 ·exact aR.and (h _)
 ·exact aR.false
theorem SX(T:b0)(H:aj)(x:AV)(lo hi a:Option AV):aR (mY P T H x lo hi a):=by
 unfold mY;refine aR.and ?_
 repeat' first
  |exact aR.false
  |exact aR.one id _
  |refine aR.and ?_
  |refine Ib _ _ fun _=>?_
  |refine aR.ite ?_ ?_
  |split
theorem Rm(T:b0)(H:aj)(x:AV)(lo hi:Option AV)(m:AV):aR (pF P T H x lo hi m):=by
 unfold pF
 repeat' first
  |exact aR.false
  |exact aR.one id _
  |refine aR.and ?_
  |refine Ib _ _ fun _=>?_
  |split
theorem Ul(op:cx)(T:b0)(c:Bool)(H:aj)(x y:AV)(f:PV->aS):aR (fun K:aS->Prop=>jU P op T c H x y (fun v=>K (f v))):=by
 unfold jU
 repeat' first
  |exact aR.false
  |exact aR.one f _
  |refine aR.and ?_
  |(unfold oH;split)
  |(unfold oG;split)
  |split
theorem BI(o:Oper)(ρ:b2->AV)(H:aj):aR (fu P ag o ρ H):=by
 unfold fu
 repeat' first
  |exact aR.false
  |exact aR.one id _
  |exact Tl _ _ _
  |exact SW _ _ _ _
  |exact QC _ _ _
  |exact QB _ _ _ _
  |exact SX _ _ _ _ _ _
  |exact Rm _ _ _ _ _ _
  |exact Rn _ _ _ _ _
  |exact Ul _ _ _ _ _ _ _
  |refine aR.and ?_
  |refine aR.ex fun _=>?_
  |refine aR.ite ?_ ?_
  |refine aR.or ?_ ?_
  |split
  |dsimp only
theorem He(d:Bool)(f:b3)(args:List AV)(H:aj){α:Type}(g:AV->aj->α):aR (fun K:α->Prop=>gF P d f args H (fun v H'=>K (g v H'))):=by
 unfold gF;refine aR.or (aR.ex fun vs=>aR.ex fun v=>aR.and (aR.and ?_)) (aR.and (aR.or (aR.ex fun vs=>aR.ex fun H1=>aR.ex fun v=>aR.and (aR.and ?_)) (aR.or (aR.ex fun H'=>aR.ex fun v=>aR.and ?_) (aR.or (aR.ex fun e=>aR.and (aR.and ?_)) (aR.ex fun ak=>aR.ex fun v=>aR.and (aR.and ?_))))))
 ·exact aR.one (fun v=>g (.p v) H) v
 ·exact aR.one (fun v=>g (.p v) H1) v
 ·exact aR.one (fun v=>g v H') v
 ·exact aR.one (fun _:Unit=>g e.v (bk H e.aI++e.aQ)) ()
 ·exact aR.one (fun v=>g (.p v) H) v
theorem Gw(f:b3)(args:List AV)(H:aj):aR (gL P f args H):=by
 unfold gL;refine aR.or (aR.ex fun vs=>aR.ex fun v=>aR.and (aR.and (aR.one id _))) (aR.or (aR.ex fun vs=>aR.ex fun bs=>aR.ex fun ak=>aR.ex fun aI=>aR.ex fun v=>aR.and (aR.and (aR.and (aR.one id _)))) (aR.or (aR.ex fun e=>aR.and (aR.and (aR.one id _))) (aR.ex fun ak=>aR.ex fun v=>aR.and (aR.and (aR.one id _)))))
theorem Hc(d:Bool)(o:Oper)(s:St):aR (fun K=>jo P ag d o K s):=by
 unfold jo
 split
 ·split
  ·exact He _ _ _ _ (fun v H'=>(⟨put o.dst v s.env,H'⟩:St))
  ·exact He _ _ _ _ (fun v H'=>(⟨put o.dst v s.env,H'⟩:St))
  ·exact aR.ex fun H'=>aR.ex fun v=>aR.and (aR.one (fun _:Unit=>(⟨put o.dst v s.env,H'⟩:St)) ())
  ·exact aR.false
 ·exact(BI o _ _).map (fun e=>e.app o.dst s)
theorem Hd(o:Oper)(s:St):aR (ja P ag o s):=by
 unfold ja
 split
 ·split
  ·exact Gw _ _ _
  ·exact Gw _ _ _
  ·exact aR.ex fun e=>aR.and (aR.and (aR.one id _))
  ·exact aR.false
 ·exact BI o _ _
theorem xm(d:Bool)(a:Array Oper):∀(l:List Oper)(s:St),aR (fun K=>gG P ag d a l K s)
 |[],s=>by simp only[gG];exact aR.one id s
 |o::l,s=>by
  have go:aR (fun K=>jo P ag d o (gG P ag d a l K) s):=(Hc d o s).bind fun t=>xm d a l t;simp only[gG]
  split
  ·exact go
  ·split
   ·split
    ·exact go
    ·exact xm d a l _
   ·exact xm d a l _
   ·exact aR.false
theorem wW(b:Array Oper):∀(l:List Oper)(i:Nat)(a:List Touch)(s:St),aR (fun K=>fT P ag b l i a K s)
 |[],i,a,s=>by simp only[fT];exact aR.and (aR.one id s)
 |o::l,i,a,s=>by
  have go:aR (fun K=>ja P ag o s fun e=>fT P ag b l (i+1) (fN i s.heap.length e a) K (e.app o.dst s)):=(Hd o s).bind fun e=>wW b l (i+1) _ _;simp only[fT]
  split
  ·exact go
  ·split
   ·split
    ·exact go
    ·exact wW b l (i+1) a _
   ·exact wW b l (i+1) a _
   ·exact aR.false
def yB(F:(bm->St->Prop)->Prop):Prop:=∀Q,F Q->∃e s,Q e s/\∀a:bm->St->Prop,a e s->F a
inductive uR(P:bv)(ag:b3->Bool)(q:Cx)(b:Code)(e:bm)(s:St):Nat->St->Prop
 |stop {k:Nat} {u:St}:(∀Q:bm->St->Prop,Q e s->bW P ag q b Q u)->e≠.normal->uR P ag q b e s k u
 |step {k m:Nat} {u s1 u':St}:(∀Q:bm->St->Prop,Q .normal s1->bW P ag q b Q u)->m<k->dd q.2 s1 u'->uR P ag q b e s m u'->uR P ag q b e s k u
theorem Tm(j:Option Code)(s:St):yB (fun Q=>iW Q j s):=fun Q h=>by
 unfold iW at h
 split at h
 ·exact⟨.normal,s,h,fun _ h=>h⟩
 ·rename_i id;exact⟨.exit id,s,h,fun _ h=>h⟩
 ·exact⟨.ret,s,h,fun _ h=>h⟩
 ·exact h.elim
theorem G9(b:Nat)(env:Env)(H:aj):yB (fun Q=>gS b env Q H):=fun Q h=>by
 unfold gS at h
 split at h
 ·rename_i L f;obtain⟨e,s,c,d⟩:=Tm _ _ Q h.2;exact⟨e,s,c,fun a hq=>by unfold gS;simp only[f];exact⟨h.1,d a hq⟩⟩
 ·exact h.elim
theorem S5(it:AV)(b:Nat)(H:aj)(env:Env):yB (fun Q=>iR P it b H (gS b env Q)):=fun Q h=>by
 unfold iR at h
 split at h
 ·obtain⟨H',v,c,d⟩:=h;obtain⟨e,s,k1,k2⟩:=G9 b env H' Q d;exact⟨e,s,k1,fun a hq=>by simp only[iR];exact⟨H',v,c,k2 a hq⟩⟩
 ·obtain⟨H',v,c,d⟩:=h;obtain⟨e,s,k1,k2⟩:=G9 b env H' Q d;exact⟨e,s,k1,fun a hq=>by simp only[iR];exact⟨H',v,c,k2 a hq⟩⟩
 ·exact h.elim
theorem mL{q:Cx}:∀(c:Code)(s:St),yB (fun Q=>bW P ag q c Q s)
 | .skip,s| .label _,s=>fun Q h=>⟨.normal,s,h,fun _ h=>h⟩
 | .exit id,s=>fun Q h=>⟨.exit id,s,h,fun _ h=>h⟩
 | .ret,s=>fun Q h=>⟨.ret,s,h,fun _ h=>h⟩
 | .region id ops draw,s=>fun Q h=>by
  simp only[bW]at h⊢
  split at h
  ·rename_i l;obtain⟨t,d,g⟩:=wW ops _ _ _ _ _ h;exact⟨.normal,t,d,fun Q' h=>by simp only[l,if_true];exact g _ h⟩
  ·rename_i l;obtain⟨t,d,g⟩:=xm _ ops _ _ _ h;exact⟨.normal,t,d,fun Q' h=>by rw[if_neg l];exact g _ h⟩
 | .seq a b,s=>fun Q h=>by
  simp only[bW]at h⊢;obtain⟨e,t,d,g⟩:=mL a s _ h;cases e with
  |normal=>
   obtain⟨e',r,k,y⟩:=mL b t _ d;exact⟨e',r,k,fun Q' h=>g _ (y Q' h)⟩
  |exit id=>exact⟨.exit id,t,d,fun Q' h=>g _ h⟩
  |ret=>exact⟨.ret,t,d,fun Q' h=>g _ h⟩
 | .cond c a b,s=>fun Q h=>by
  simp only[bW]at h⊢
  split at h
  ·split at h
   ·rename_i p;obtain⟨e,t,d,g⟩:=mL a s _ h;exact⟨e,t,d,fun Q' h=>by rw[if_pos p];exact g _ h⟩
   ·rename_i p;obtain⟨e,t,d,g⟩:=mL b s _ h;exact⟨e,t,d,fun Q' h=>by rw[if_neg p];exact g _ h⟩
  ·exact h.elim
 | .block id b,s=>fun Q h=>by
  simp only[bW]at h⊢;obtain⟨e,t,d,g⟩:=mL b s _ h;cases e with
  |normal=>exact⟨.normal,t,d,fun Q' h=>g _ h⟩
  |exit i=>
   by_cases hi:i=id
   ·simp only[hi,if_true]at d;exact⟨.normal,t,d,fun Q' h=>g _ (by simp only[hi,if_true];exact h)⟩
   ·simp only[hi,if_false]at d;exact⟨.exit i,t,d,fun Q' h=>g _ (by simp only[hi,if_false];exact h)⟩
  |ret=>exact⟨.ret,t,d,fun Q' h=>g _ h⟩
 | .scope b,s=>fun Q h=>by simp only[bW]at h⊢;exact mL b s Q h
 | .loop b,s=>fun Q h=>by
  simp only[bW]at h⊢;obtain⟨I,⟨w,t0,hf,hI⟩,F⟩:=h;have key:∀(n:Nat)(t:St),I n t->∃e u,Q e u/\e≠.normal/\uR P ag q b e u n t:=by
   intro n
   induction n using hX with
   |_ n G=>
    intro t hI;obtain⟨e,s1,d,g⟩:=mL b t _ (F n t hI);cases e with
    |normal=>
     obtain⟨m,r,j,o,z⟩:=d;obtain⟨e,u,k1,k2,k3⟩:=G m j r z;exact⟨e,u,k1,k2,.step g j o k3⟩
    |exit id=>exact⟨.exit id,s1,d,by simp,.stop g (by simp)⟩
    |ret=>exact⟨.ret,s1,d,by simp,.stop g (by simp)⟩
  obtain⟨e,u,d,g,k⟩:=key w t0 hI;refine⟨e,u,d,fun Q' v=>⟨uR P ag q b e u,⟨w,t0,hf,k⟩,?_⟩⟩;intro n t C;cases C with
  |stop hs E=>
   refine hs _ ?_;cases e with
   |normal=>exact(E rfl).elim
   |exit id=>exact v
   |ret=>exact v
  |step hs j o D=>exact hs _ ⟨_,_,j,o,D⟩
 | .rangeFunc f H a b,s=>fun Q h=>by
  simp only[bW]at h;obtain⟨A,x,B,h⟩:=h;obtain⟨e,t,d,g⟩:=S5 _ _ _ _ Q h;exact⟨e,t,d,fun Q' hq=>by simp only[bW];exact⟨A,x,B,g Q' hq⟩⟩
 | .goto _,_| .refuse _,_=>fun Q h=>by simp[bW]at h
def Spec(P:bv)(f:b3)(args:List PV)(Q:PV->Prop):Prop:=∃v,au P f args v/\Q v
def yE(P:bv)(a:List ResultVar)(Q:PV->Prop)(e:bm)(s:St):Prop:=
 (match e with
  | .exit _=>False
  |_=>True)/\∃vs,fC P s a=some vs/\∃v,er s.heap 9 (oneOf vs)=some v/\Q v
theorem Spec.mono{f:b3}{args:List PV}{Q a:PV->Prop}(h:Spec P f args Q)(hq:∀v,Q v->a v):Spec P f args a:=by
 obtain⟨v,b,c⟩:=h;exact⟨v,b,hq v c⟩
end
def nj(id:Nat)(Q:bm->St->Prop)(e:bm)(s:St):Prop:=
 match e with
 | .exit i=>if i=id then Q .normal s else Q (.exit i) s
 |e=>Q e s
theorem QS{id:Nat}{Q:bm->St->Prop}{s:St}:nj id Q .normal s=Q .normal s:=(rfl)
theorem Sh{id i:Nat}{Q:bm->St->Prop}{s:St}:nj id Q (.exit i) s=if i=id then Q .normal s else Q (.exit i) s:=(rfl)
theorem To{id:Nat}{Q:bm->St->Prop}{s:St}:nj id Q .ret s=Q .ret s:=(rfl)
def su(N n:Nat)(I:Nat->St->Prop)(Q:bm->St->Prop)(e:bm)(s:St):Prop:=
 match e with
 | .normal=>∃a b,a<n/\dd N s b/\I a b
 |e=>Q e s
theorem QH{N n:Nat}{I:Nat->St->Prop}{Q:bm->St->Prop}{s:St}:su N n I Q .normal s=∃a b,a<n/\dd N s b/\I a b:=(rfl)
theorem Rq{N n id:Nat}{I:Nat->St->Prop}{Q:bm->St->Prop}{s:St}:su N n I Q (.exit id) s=Q (.exit id) s:=(rfl)
theorem S0{N n:Nat}{I:Nat->St->Prop}{Q:bm->St->Prop}{s:St}:su N n I Q .ret s=Q .ret s:=(rfl)
section CV
variable{P:bv}
@[congr] theorem aDt{b:Array Oper}{l a:List Touch}(h:l=a):gZ b l=gZ b a:=by rw[h]
end CV
section
variable{P:bv}{ag:b3->Bool}
abbrev eC:=Option (Prop×aS)
def ba(r:eC)(K:aS->Prop):Prop:=
 match r with
 |some (p,e)=>p/\K e
 |none=>False
theorem Ta{p:Prop}{e:aS}{K:aS->Prop}:ba (some (p,e)) K=(p/\K e):=(rfl)
theorem TN{K:aS->Prop}:ba none K=False:=(rfl)
@[congr] theorem aJC{r a:eC}{K:aS->Prop}(h:r=a):ba r K=ba a K:=by rw[h]
def Can(F:(aS->Prop)->Prop)(r:eC):Prop:=∀K,ba r K->F K
theorem Can.none{F:(aS->Prop)->Prop}:Can F none:=fun _ h=>h.elim
def oI(P:bv)(T:b0)(H:aj)(a:AV):eC:=
 match a with
 | .ptr b path=>match H[b]? with
  |some (.box fz t)=>match eL t path with
   |some s=>some (kindOf P T=ad s,{v:=s,ak:=[(b,.box fz t)]})
   |none=>none
  |_=>none
 | .bQ b ar ai i path=>match H[b]? with
  |some (.arr k d c es)=>match es[i]? with
   |some x=>match eL x path with
    |some s=>some ((ar=d/\ai=c)/\kindOf P T=ad s,{v:=s,ak:=[(b,.arr k d c es)]})
    |none=>none
   |none=>none
  |_=>none
 | .p (.bZ t)=>some (kindOf P T=aJ t,{v:=.p t})
 |_=>none
theorem VZ{T:b0}{H:aj}{a:AV}:Can (nu P T H a) (oI P T H a):=by
 intro K h;unfold oI at h;unfold nu
 split at h
 ·split at h
  ·rename_i b
   split at h
   ·rename_i hs;simp only[ba]at h;simp only[b,hs];exact h
   ·exact h.elim
  ·exact h.elim
 ·split at h
  ·rename_i b
   split at h
   ·rename_i x hx;obtain⟨hi,hx⟩:=g9.1 hx
    split at h
    ·rename_i hs;simp only[ba]at h;simp only[b];exact⟨h.1.1.1,h.1.1.2,hi,by rw[hx,hs];exact⟨h.1.2,h.2⟩⟩
    ·exact h.elim
   ·exact h.elim
  ·exact h.elim
 ·exact h
 ·exact h.elim
def ow(P:bv)(T:b0)(H:aj)(a x:AV):eC:=
 match a with
 | .ptr b path=>match H[b]? with
  |some (.box false t)=>match eL t path,fJ t path x with
   |some s,some d=>some ((kindOf P T=ad x/\ad x≠.bad)/\ad s=ad x,{v:=.p (.aA []),ak:=[(b,.box false t)],aI:=[(b,.box false d)]})
   |_,_=>none
  |_=>none
 | .bQ b ar ai i path=>match H[b]? with
  |some (.arr k e c es)=>match es[i]? with
   |some y=>match eL y path,fJ y path x with
    |some s,some d=>some ((kindOf P T=ad x/\ad x≠.bad)/\(ar=e/\ai=c/\k≠.frozen)/\ad s=ad x,{v:=.p (.aA []),ak:=[(b,.arr k e c es)],aI:=[(b,.arr k e c (es.set i d))]})
    |_,_=>none
   |none=>none
  |_=>none
 |_=>none
theorem UG{T:b0}{H:aj}{a x:AV}:Can (mX P T H a x) (ow P T H a x):=by
 intro K h;unfold ow at h;unfold mX
 split at h
 ·split at h
  ·rename_i b
   split at h
   ·rename_i hs c;simp only[ba]at h;simp only[b,hs,c];exact⟨h.1.1.1,h.1.1.2,h.1.2,h.2⟩
   ·exact h.elim
  ·exact h.elim
 ·split at h
  ·rename_i b
   split at h
   ·rename_i y d;obtain⟨hi,d⟩:=g9.1 d
    split at h
    ·rename_i hs c;simp only[ba]at h;simp only[b];exact⟨h.1.1.1,h.1.1.2,h.1.2.1.1,h.1.2.1.2.1,h.1.2.1.2.2,hi,by rw[d,hs,c];exact⟨h.1.2.2,h.2⟩⟩
    ·exact h.elim
   ·exact h.elim
  ·exact h.elim
 ·exact h.elim
def nU(P:bv)(T:b0)(a:AV)(f:Nat):eC:=
 match fw P T with
 |some (u,n)=>match a with
  | .ptr b path=>some (f<n,{v:=.ptr b (path++[(u,f)])})
  | .bQ b ar ai i path=>some (f<n,{v:=.bQ b ar ai i (path++[(u,f)])})
  | .p (.bZ t)=>match(bV t)[f]? with
   |some g=>some (f<n/\aJ t=.agg u,{v:=.p (.bZ g)})
   |none=>none
  |_=>none
 |_=>none
theorem QP{T:b0}{a:AV}{f:Nat}:Can (mO P T a f) (nU P T a f):=by
 intro K h;unfold nU at h;unfold mO
 split at h
 ·rename_i hs;simp only[hs]
  split at h
  ·exact h
  ·exact h
  ·split at h
   ·rename_i b;simp only[ba]at h;simp only[b];exact⟨h.1.1,h.1.2,h.2⟩
   ·exact h.elim
  ·exact h.elim
 ·exact h.elim
def nT(P:bv)(T:b0)(H:aj)(x i:AV):eC:=
 match i with
 | .p (.int _ i)=>match x with
  | .p (.cE _ es)=>match es[i.toNat]? with
   |some y=>some (0<=i/\cz P T=some (bA P (aJ y)),{v:=.p (.bZ y)})
   |none=>none
  | .p (.seq es)=>match es[i.toNat]? with
   |some y=>some (0<=i/\cz P T=some (bA P (aJ y)),{v:=.p (.bZ y)})
   |none=>none
  | .sl b ar ai off len=>match H[b]? with
   |some (.arr k c a es)=>some (0<=i/\cz P T=some ai/\i.toNat<len/\ar=c/\ai=a/\¬(k.gr=true/\es=[]),{v:=.bQ b ar ai (off+i.toNat) [],ak:=[(b,.arr k c a es)]})
   |_=>none
  | .ptr b path=>match gT P T with
   |some (u,n)=>some (0<=i/\i.toNat<n,{v:=.ptr b (path++[(u,i.toNat)])})
   |_=>none
  | .bQ b ar ai j path=>match gT P T with
   |some (u,n)=>some (0<=i/\i.toNat<n,{v:=.bQ b ar ai j (path++[(u,i.toNat)])})
   |_=>none
  | .p (.bZ t)=>match gT P T with
   |some (u,n)=>match(bV t)[i.toNat]? with
    |some g=>some (0<=i/\aJ t=.agg u/\i.toNat<n,{v:=.p (.bZ g)})
    |none=>none
   |_=>none
  |_=>none
 |_=>none
theorem QO{T:b0}{H:aj}{x i:AV}:Can (mN P T H x i) (nT P T H x i):=by
 intro K h;unfold nT at h;unfold mN
 split at h
 case h_2=>exact h.elim
 split at h
 ·split at h
  ·rename_i y a;obtain⟨hi,a⟩:=g9.1 a;simp only[ba]at h;exact⟨h.1.1,hi,by rw[a];exact h.1.2,by rw[a];exact h.2⟩
  ·exact h.elim
 ·split at h
  ·rename_i y a;obtain⟨hi,a⟩:=g9.1 a;simp only[ba]at h;exact⟨h.1.1,hi,by rw[a];exact h.1.2,by rw[a];exact h.2⟩
  ·exact h.elim
 ·split at h
  ·rename_i l;simp only[ba]at h;obtain⟨⟨b,c,d,e,f,g⟩,j⟩:=h;refine⟨b,c,d,?_⟩;rw[l];exact⟨e,f,g,j⟩
  ·exact h.elim
 ·split at h
  ·rename_i hs;simp only[ba]at h;simp only[hs];exact⟨h.1.1,h.1.2,h.2⟩
  ·exact h.elim
 ·split at h
  ·rename_i hs;simp only[ba]at h;simp only[hs];exact⟨h.1.1,h.1.2,h.2⟩
  ·exact h.elim
 ·split at h
  ·rename_i hs
   split at h
   ·rename_i k;simp only[ba]at h;simp only[hs,k];exact⟨h.1.1,h.1.2.1,h.1.2.2,h.2⟩
   ·exact h.elim
  ·exact h.elim
 ·exact h.elim
end
section
variable{P:bv}{ag:b3->Bool}
def ov(P:bv)(T X:b0)(H:aj)(s x:AV):eC:=
 match cz P T,gA H x with
 |some sz,some xs=>match s with
  | .p .aL=>some ((iA P X=true/\(ch P (ey P T)).isSome=true/\eZ P sz xs)/\xs.length<=cN,
   if xs.isEmpty then{v:=s,ak:=dt H x}else{v:=.sl H.length 0 sz 0 xs.length,ak:=dt H x,aQ:=[.arr (gk P T) 0 sz xs]})
  | .sl b ar ai off len=>match H[b]? with
   |some (.arr k c a es)=>some ((iA P X=true/\(ch P (ey P T)).isSome=true/\eZ P sz xs)/\(ar=c/\ai=a/\ai=sz/\off+len<=es.length)/\es.length+xs.length<=cN/\k≠ .frozen/\(k≠ .exact->off=0)/\(k= .bytes->ey P T=Gl.u8),
    if xs.isEmpty then{v:=s,ak:=(b,.arr k c a es)::dt H x}
    else match k with
     | .exact=>if off+len+xs.length<=es.length then
      {v:=.sl b ar ai off (len+xs.length),ak:=(b,.arr k c a es)::dt H x,aI:=[(b,.arr .exact ar ai (es.take (off+len)++xs++es.drop (off+len+xs.length)))]}
      else{v:=.sl H.length 0 sz 0 (len+xs.length),ak:=(b,.arr k c a es)::dt H x,aQ:=[.arr (gk P T) 0 sz ((es.drop off).take len++xs)]}
     |_=>{v:=.sl b (ar+1) ai 0 (len+xs.length),ak:=(b,.arr k c a es)::dt H x,aI:=[(b,.arr k (ar+1) ai (es.take len++xs))]})
   |_=>none
  |_=>none
 |_,_=>none
theorem Sm{T X:b0}{H:aj}{s x:AV}:Can (mQ P T X H s x) (ov P T X H s x):=by
 intro K h;unfold ov at h;unfold mQ
 split at h
 case h_2=>exact h.elim
 rename_i sz p i j;simp only[i,j]
 split at h
 ·simp only[ba]at h;obtain⟨⟨⟨b,a2,a3⟩,a4⟩,hk⟩:=h;refine⟨b,a2,a3,?_⟩;dsimp only
  split
  ·rename_i a;rw[if_pos a]at hk;exact hk
  ·rename_i a;rw[if_neg a]at hk;exact⟨a4,hk⟩
 ·split at h
  case h_2=>exact h.elim
  rename_i k o n m l;simp only[ba]at h;obtain⟨⟨⟨b,a2,a3⟩,⟨rfl,rfl,e,f⟩,g,a9,c,d⟩,hk⟩:=h;refine⟨b,a2,a3,?_⟩;simp only[l];refine⟨trivial,trivial,e,f,?_⟩
  split
  ·rename_i a;rw[if_pos a]at hk;exact hk
  ·rename_i a;rw[if_neg a]at hk;refine⟨g,?_⟩;cases k with
   |frozen=>exact a9 rfl
   |exact=>
    simp only at hk⊢
    split
    ·rename_i hc;rw[if_pos hc]at hk;exact hk
    ·rename_i hc;rw[if_neg hc]at hk;exact hk
   |grow=>exact⟨c (by simp),fun h=>(by cases h),hk⟩
   |bytes=>exact⟨c (by simp),d,hk⟩
 ·exact h.elim
def jZ(x:Option AV)(d:Nat):Option (Prop×Nat):=
 match x with
 |none=>some (True,d)
 |some (.p (.int _ i))=>some (0<=i,i.toNat)
 |_=>none
theorem mb{x:Option AV}{d n:Nat}{p:Prop}{K:Nat->Prop}(h:jZ x d=some (p,n))(a:p)(hk:K n):gl x d K:=by
 unfold jZ at h;unfold gl
 split at h
 ·simp only[h3,Prod.mk.injEq]at h;obtain⟨rfl,rfl⟩:=h;exact hk
 ·simp only[h3,Prod.mk.injEq]at h;obtain⟨rfl,rfl⟩:=h;exact⟨a,hk⟩
 ·cases h
def oA(P:bv)(T:b0)(H:aj)(x:AV)(lo hi:Option AV):eC:=
 match x with
 | .p (.str s)=>match jZ hi s.length,jZ lo 0 with
  |some (p,h),some (q,l)=>some (ia P T=true/\p/\q/\h<=s.length/\l<=h,{v:=.p (.str ((s.take h).drop l))})
  |_,_=>none
 | .p .aL=>match jZ hi 0,jZ lo 0 with
  |some (p,h),some (q,l)=>some ((cz P T).isSome=true/\p/\q/\h<=0/\l<=h,{v:=.p .aL})
  |_,_=>none
 | .p (.cE full es)=>match jZ hi es.length,jZ lo 0,cz P T with
  |some (p,h),some (q,l),some sz=>some (p/\q/\h<=es.length/\l<=h/\eZ P sz (es.map .p),{v:=.p (.cE (full&&h==es.length) ((es.take h).drop l))})
  |_,_,_=>none
 | .p (.seq es)=>match jZ hi es.length,jZ lo 0,cz P T with
  |some (p,h),some (q,l),some sz=>some (p/\q/\h<=es.length/\l<=h/\eZ P sz (es.map .p),{v:=.p (.seq ((es.take h).drop l))})
  |_,_,_=>none
 | .sl b ar ai off len=>match H[b]? with
  |some (.arr k c a es)=>match jZ hi len,jZ lo 0 with
   |some (p,h),some (q,l)=>some ((ar=c/\ai=a/\cz P T=some ai/\¬(k.gr=true/\es=[])/\off+len<=es.length)/\p/\q/\off+h<=es.length/\l<=h,
    if l=0 then{v:=.sl b ar ai off h,ak:=[(b,.arr k c a es)]}
    else if l=h then{v:=.p (.cE false []),ak:=[(b,.arr k c a es)]}
    else{v:=.sl b ar ai (off+l) (h-l),ak:=[(b,.arr k c a es)]})
   |_,_=>none
  |_=>none
 |_=>none
theorem UH{T:b0}{H:aj}{x:AV}{lo hi:Option AV}:Can (mY P T H x lo hi none) (oA P T H x lo hi):=by
 intro K h;unfold oA at h;unfold mY;refine⟨rfl,?_⟩
 split at h
 ·split at h
  case h_2=>exact h.elim
  rename_i a b;simp only[ba]at h;obtain⟨⟨c,a2,a3,a4,a5⟩,hk⟩:=h;exact⟨c,mb a a2 (mb b a3 ⟨a4,a5,hk⟩)⟩
 ·split at h
  case h_2=>exact h.elim
  rename_i a b;simp only[ba]at h;obtain⟨⟨c,a2,a3,a4,a5⟩,hk⟩:=h;exact⟨c,mb a a2 (mb b a3 ⟨a4,a5,hk⟩)⟩
 ·split at h
  case h_2=>exact h.elim
  rename_i a b e;simp only[ba]at h;obtain⟨⟨a2,a3,a4,a5,d⟩,hk⟩:=h;refine mb a a2 (mb b a3 ⟨a4,a5,?_⟩);simp only[e];exact⟨d,hk⟩
 ·split at h
  case h_2=>exact h.elim
  rename_i a b e;simp only[ba]at h;obtain⟨⟨a2,a3,a4,a5,d⟩,hk⟩:=h;refine mb a a2 (mb b a3 ⟨a4,a5,?_⟩);simp only[e];exact⟨d,hk⟩
 ·split at h
  case h_2=>exact h.elim
  rename_i i
  split at h
  case h_2=>exact h.elim
  rename_i a b;simp only[ba]at h;obtain⟨⟨⟨c,a2,a3,a4,a5⟩,d,f,g,a9⟩,hk⟩:=h;simp only[i];refine⟨c,a2,a3,a4,a5,mb a d (mb b f ⟨g,a9,?_⟩)⟩
  split
  ·rename_i hc;rw[if_pos hc]at hk;exact hk
  ·rename_i hc;rw[if_neg hc]at hk
   split
   ·rename_i hc;rw[if_pos hc]at hk;exact hk
   ·rename_i hc;rw[if_neg hc]at hk;exact hk
 ·exact h.elim
def qt(P:bv)(T:b0)(H:aj)(x key:AV)(ok:Bool):eC:=
 match kJ P T,key with
 |some (a,E),.p key=>match ch P E with
  |some z=>match x with
   | .p .fq=>some (fM P a key=true,{v:=.p (if ok then .aA [z,.bool false]else z)})
   | .p (.eH es)=>match fL P a es key with
    |some r=>some (fM P a key=true,{v:= .p (match r with
     |some v=>if ok then .aA [v,.bool true]else v
     |none=>if ok then .aA [z,.bool false]else z)})
    |none=>none
   | .map b=>match H[b]? with
    |some (.map fz es)=>match fL P a es key with
     |some r=>some (fM P a key=true,{v:= .p (match r with
      |some v=>if ok then .aA [v,.bool true]else v
      |none=>if ok then .aA [z,.bool false]else z),ak:=[(b,.map fz es)]})
     |none=>none
    |_=>none
   |_=>none
  |none=>none
 |_,_=>none
def lN(P:bv)(T:b0)(H:aj)(m k x:AV):eC:=
 match kJ P T,m,k,x with
 |some (a,_),.map b,.p key,.p v=>match H[b]? with
  |some (.map false es)=>match lD P a es key with
   |some _=>some (fM P a key=true,{v:=.p (.aA []),ak:=[(b,.map false es)],aI:=[(b,.map false (gh es key v))]})
   |none=>none
  |_=>none
 |_,_,_,_=>none
def pW(P:bv)(T:b0)(n:Nat)(x:AV):eC:=
 match x with
 | .p (.str s)=>some (ia P T=true,{v:=.ptr n [],aQ:=[.dc s 0]})
 |_=>none
def qA(H:aj)(it:AV):eC:=
 match it with
 | .ptr b []=>match H[b]? with
  |some (.dc s pos)=>some (True,if pos<s.length then
   {v:=.p (.aA [.bool true,.int .i64 pos,.int .i32 (g0 (ga s) pos).1]),ak:=[(b,.dc s pos)],aI:=[(b,.dc s (pos+(g0 (ga s) pos).2))]}
   else{v:=.p (.aA [.bool false]),ak:=[(b,.dc s pos)]})
  |_=>none
 |_=>none
def qC(P:bv)(T:b0)(n:Nat)(l c:AV):eC:=
 match cz P T,ch P (ey P T),l,c with
 |some sz,some z,.p (.int .i64 l),.p (.int .i64 c)=>some (bA P (aJ z)=sz/\0<=l/\l=c/\l<=cN,{v:=.sl n 0 sz 0 l.toNat,aQ:=[.arr .exact 0 sz (ha l.toNat (.p z))]})
 |_,_,_,_=>none
def copyV(P:bv)(T:b0)(H:aj)(d x:AV):eC:=
 match cz P T,d,gA H x with
 |some sz,.sl b ar ai off len,some xs=>match H[b]? with
  |some (.arr k c a es)=>some ((ai=sz/\eZ P sz xs)/\ar=c/\ai=a/\k≠ .frozen/\off+len<=es.length/\¬(k.gr=true/\es=[]),
   {v:=.p (.int .i64 (min xs.length len:Nat)),ak:=(b,.arr k c a es)::dt H x,aI:=[(b,.arr k c a (es.take off++xs.take (min xs.length len)++es.drop (off+min xs.length len)))]})
  |_=>none
 |_,_,_=>none
def pR(x:AV):eC:=
 match x with
 | .ptr _ _| .bQ _ _ _ _ _| .p (.bZ _)=>some (True,{v:=x})
 |_=>none
def kg(b:Bool)(c:List AV):eC:=
 match c with
 | .p (.int k a)::r=>match ln k b r a with
  |some n=>some (True,{v:=.p (.int k n)})
  |none=>none
 |_=>none
def qp(f:b3)(fi ca:List AV):eC:=
 match dW fi,dW ca with
 |some a,some b=>some (True,{v:=.p (.func f a b)})
 |_,_=>some (True,{v:=.func f fi ca})
end
section
variable{P:bv}{ag:b3->Bool}
def qy(c a b:AV):eC:=
 match c with
 | .p (.bool t)=>some (True,{v:=if t then a else b})
 |_=>none
def qe(P:bv)(T:b0)(n:Nat):eC:=
 match ch P T with
 |some z=>some (kindOf P T=aJ z/\aJ z≠.bad/\iY T (aJ z)=true,{v:=.ptr n [],aQ:=[.box false (.p z)]})
 |none=>none
def sM(P:bv)(T:b0)(n:Nat)(x:AV):eC:=some (kindOf P T=ad x/\ad x≠.bad/\iY T (ad x)=true,{v:=.ptr n [],aQ:=[.box false x]})
def qc(P:bv)(T:b0)(a:List (Nat×AV)):eC:=
 match kindOf P T,ch P T with
 | .agg u,some z=>match du P u with
  |some l=>some (aJ z=.agg u/\lj P l a,{v:=gO u (gY ((bV z).map .p) a)})
  |none=>none
 |_,_=>none
def pg(P:bv)(T:b0)(n:Nat)(a:List (Nat×AV))(b:Nat):eC:=
 match cz P T,ch P (ey P T)with
 |some sz,some z=>some (bA P (aJ z)=sz/\n*sz<=1000000/\lj P (ha n sz) a,{v:=.sl b 0 sz 0 n,aQ:=[.arr .exact 0 sz (gY (ha n (.p z)) a)]})
 |_,_=>none
def sV(op:cx)(k:ck)(a b:Int):Prop×PV:=
 match op with
 | .add=>(True,.int k (k.wrap (a+b)))
 | .sub=>(True,.int k (k.wrap (a-b)))
 | .mul=>(True,.int k (k.wrap (a*b)))
 | .quo=>(b≠0,.int k (k.wrap (a.tdiv b)))
 | .rem=>(b≠0,.int k (a.tmod b))
 | .and=>(True,.int k (k.wrap (bi k.bits a&&&bi k.bits b).toNat))
 | .or=>(True,.int k (k.wrap (bi k.bits a|||bi k.bits b).toNat))
 | .xor=>(True,.int k (k.wrap (bi k.bits a^^^bi k.bits b).toNat))
 | .andNot=>(True,.int k (k.wrap (bi k.bits a&&&~~~bi k.bits b).toNat))
 | .eql=>(True,.bool (a==b))
 | .neq=>(True,.bool (a !=b))
 | .lss=>(True,.bool (decide (a<b)))
 | .leq=>(True,.bool (decide (a<=b)))
 | .gtr=>(True,.bool (decide (a>b)))
 | .geq=>(True,.bool (decide (a>=b)))
 | .shl=>(0<=b,.int k (k.wrap (a*2^(min b.toNat k.bits))))
 | .shr=>(0<=b,.int k (a.fdiv (2^(min b.toNat k.bits))))
theorem Yv{op:cx}{k:ck}{a b:Int}{K:PV->Prop}(h:(sV op k a b).1)(hk:K (sV op k a b).2):oH op k a b K:=by
 cases op<;>simp only[sV,oH]at*<;>first|exact hk|exact⟨h,hk⟩
def Dn(op:cx)(a b:List Nat):Option (Prop×PV):=
 match op with
 | .add=>some (a.length+b.length<9223372036854775808,.str (a++b))
 | .eql=>some (True,.bool (a==b))
 | .neq=>some (True,.bool (!(a==b)))
 | .lss=>some (True,.bool (iQ a b))
 | .leq=>some (True,.bool (iQ a b||a==b))
 | .gtr=>some (True,.bool (!(iQ a b||a==b)))
 | .geq=>some (True,.bool (!(iQ a b)))
 |_=>none
def iX(P:bv)(op:cx)(T:b0)(c:Bool)(H:aj)(x y:AV):eC:=
 match x,y with
 | .p (.int k a),.p (.int d b)=>some ((k=d\/op=.shl\/op=.shr)/\(sV op k a b).1,{v:=.p (sV op k a b).2})
 | .p (.str a),.p (.str b)=>match Dn op a b with
  |some (p,v)=>some (p,{v:=.p v})
  |none=>none
 | .p (.bool a),.p (.bool b)=>match op with
  | .eql=>some (pU P T=true,{v:=.p (.bool (a==b))})
  | .neq=>some (pU P T=true,{v:=.p (.bool (!(a==b)))})
  |_=>none
 | .p (.st u fs),.p (.st u' gs)=>match iC P 9 T (.st u fs) (.st u' gs),op with
  |some r,.eql=>some (qS P T=true,{v:=.p (.bool r)})
  |some r,.neq=>some (qS P T=true,{v:=.p (.bool !r)})
  |_,_=>none
 |x,y=>match dm P T c y with
  |some k=>match cH H k x,op with
   |some r,.eql=>some (True,{v:=.p (.bool r),ak:=dt H x})
   |some r,.neq=>some (True,{v:=.p (.bool !r),ak:=dt H x})
   |_,_=>none
  |none=>none
theorem Hw{op:cx}{T:b0}{c:Bool}{H:aj}{x y:AV}{k:tl}{K:PV->Prop}(hk:dm P T c y=some k):jU P op T c H x y K=(match cH H k x,op with
 |some r,.eql=>K (.bool r)
 |some r,.neq=>K (.bool !r)
 |_,_=>False):=by
 have a:=hk;rcases GD hk with⟨rfl,rfl,_⟩|⟨rfl,rfl,_⟩|⟨rfl,rfl,_⟩|⟨rfl,rfl,_⟩|⟨rfl,rfl,_⟩
 all_goals
  unfold jU;cases x with
  |p v=>
   cases v<;>simp only[a]<;>(generalize cH H _ _=r;cases r<;>cases op<;>rfl)
  |_=>simp only[a];(generalize cH H _ _=r;cases r<;>cases op<;>rfl)
theorem W3{op:cx}{T:b0}{c:Bool}{H:aj}{x y:AV}:Can (fun K=>jU P op T c H x y (fun v=>K {v:=.p v,ak:=dt H x})) (iX P op T c H x y):=by
 intro K h;unfold iX at h;unfold jU
 split at h
 ·exact⟨h.1.1,Yv h.1.2 h.2⟩
 ·split at h
  ·rename_i p v a;simp only[ba]at h;show oG op _ _ _;unfold Dn at a
   split at a<;>first
    |(simp only[h3,Prod.mk.injEq]at a
      obtain⟨b,d⟩:=a;rw[<-b,<-d]at h;simp only[oG]
      first|exact h.2|exact⟨h.1,h.2⟩)
    |cases a
  ·exact h.elim
 ·split at h
  ·exact⟨h.1,h.2⟩
  ·exact⟨h.1,h.2⟩
  ·exact h.elim
 ·split at h
  ·rename_i e;simp only[ba]at h;simp only[e];exact⟨h.1,h.2⟩
  ·rename_i e;simp only[ba]at h;simp only[e];exact⟨h.1,h.2⟩
  ·exact h.elim
 ·rename_i b d f g
  split at h
  case h_2=>exact h.elim
  rename_i k hk;clear b d f g;show jU P op T c H x y _;rw[Hw hk];generalize cH H k x=q at h⊢;cases q<;>cases op<;>first|exact h.elim|exact h.2
def q9(op:UnOp)(x:AV):eC:=
 match op,x with
 | .not,.p (.bool b)=>some (True,{v:=.p (.bool (!b))})
 | .neg,.p (.int k n)=>some (True,{v:=.p (.int k (k.wrap (0-n)))})
 | .xor,.p (.int k n)=>some (True,{v:=.p (.int k (k.wrap (bi k.bits (if k.signed then -1 else k.max)^^^bi k.bits n).toNat))})
 |_,_=>none
def qm(P:bv)(S D:b0)(H:aj)(x:AV):eC:=
 match P.underlying S,P.underlying D,x with
 |some _,some (.int k),.p (.int _ n)=>some (True,{v:=.p (.int k (k.wrap n))})
 |some _,some .string,.p (.str s)=>some (True,{v:=.p (.str s)})
 |some (.slice e),some .string,.sl b ar ai off len=>match H[b]? with
  |some (.arr k c a es)=>match bytesOf ((es.drop off).take len)with
   |some l=>some ((ar=c/\ai=a/\ai=1/\P.underlying e=some (.int .u8)/\0<len/\off+len<=es.length),{v:=.p (.str l),ak:=[(b,.arr k c a es)]})
   |none=>none
  |_=>none
 |_,_,_=>none
def pI(t:AV)(i:Nat):eC:=
 match t with
 | .p (.aA vs)=>match vs[i]? with
  |some v=>some (True,{v:=.p v})
  |none=>none
 | .aA vs=>match vs[i]? with
  |some v=>some (True,{v})
  |none=>none
 |_=>none
def qg(P:bv)(T:b0)(x i:AV):eC:=
 match x,i with
 | .p (.str s),.p (.int _ i)=>match s[i.toNat]? with
  |some c=>some (ia P T=true/\0<=i,{v:=.p (.int .u8 c)})
  |none=>none
 | .p (.st u es),.p (.int _ i)=>match gT P T,(jg P u)[i.toNat]?,es[i.toNat]? with
  |some (u',n),some F,some g=>some (u'=u/\0<=i/\i.toNat<n/\kindOf P F=aJ g,{v:=.p g})
  |_,_,_=>none
 |_,_=>none
def qW(P:bv)(T:b0)(n:Nat)(H:aj)(x:AV):eC:=
 match lenOf H x with
 |some (m,ak)=>some (gI P T x=true/\0<n,{v:=.p (.int .i64 m),ak})
 |none=>none
def ki(P:bv)(ag:b3->Bool)(o:Oper)(e:Env)(H:aj)(K:aS->Prop):Prop:=
 match o.op with
 | .move x| .assign x=>K {v:=ev e x}
 | .pick c a b=>ba (qy (ev e c) (ev e a) (ev e b)) K
 | .alloc T=>ba (qe P T H.length) K
 | .box T x=>ba (sM P T H.length (ev e x)) K
 | .build T parts=>ba (qc P T (parts.toList.map fun(i,x)=>(i,ev e x))) K
 | .buildSlice T n parts=>ba (pg P T n (parts.toList.map fun(i,x)=>(i,ev e x)) H.length) K
 | .load T a=>ba (oI P T H (ev e a)) K
 | .store T a x=>ba (ow P T H (ev e a) (ev e x)) K
 | .binOp op T x y _=>ba (iX P op T (lO y) H (ev e x) (ev e y)) K
 | .unOp op _ x=>ba (q9 op (ev e x)) K
 | .convert S D x=>ba (qm P S D H (ev e x)) K
 | .extract t i=>ba (pI (ev e t) i) K
 | .fieldAddr T a f=>ba (nU P T (ev e a) f) K
 | .indexAddr T x i=>ba (nT P T H (ev e x) (ev e i)) K
 | .index T x i=>ba (qg P T (ev e x) (ev e i)) K
 | .slice T x lo hi none=>ba (oA P T H (ev e x) (lo.map (ev e)) (hi.map (ev e))) K
 | .lookup T x i ok=>ba (qt P T H (ev e x) (ev e i) ok) K
 | .mapUpdate T m k x| .insert T m k x=>ba (lN P T H (ev e m) (ev e k) (ev e x)) K
 | .range T x=>ba (pW P T H.length (ev e x)) K
 | .next it true=>ba (qA H (ev e it)) K
 | .makeSlice T l c=>ba (qC P T H.length (ev e l) (ev e c)) K
 | .nilCheck x=>ba (pR (ev e x)) K
 | .call c=>match c.callee with
  | .builtin .len=>(match c.args.toList with
   |[x]=>ba (qW P (c.argTypes.getD 0 0) c.argTypes.size H (ev e x)) K
   |_=>False)
  | .builtin .append=>(match c.args.toList with
   |[s,x]=>c.argTypes.size=2/\ba (ov P (c.argTypes.getD 0 0) (c.argTypes.getD 1 0) H (ev e s) (ev e x)) K
   |_=>False)
  | .builtin .copy=>(match c.args.toList with
   |[d,x]=>c.argTypes.size=2/\ba (copyV P (c.argTypes.getD 0 0) H (ev e d) (ev e x)) K
   |_=>False)
  | .builtin .min=>ba (kg false (c.args.toList.map (ev e))) K
  | .builtin .max=>ba (kg true (c.args.toList.map (ev e))) K
  |_=>fu P ag o (ev e) H K
 |_=>fu P ag o (ev e) H K
theorem LJ{o:Oper}{e:Env}{H:aj}{K:aS->Prop}(h:ki P ag o e H K):fu P ag o (ev e) H K:=by
 unfold ki at h;unfold fu;cases w:o.op<;>simp only[w]at h<;>simp only
 case move|assign=>exact h
 case pick c a b=>
  unfold qy at h
  split at h
  ·rename_i hc;simp only[hc];exact h.2
  ·exact h.elim
 case alloc T=>
  unfold qe at h
  split at h
  ·rename_i v;simp only[ba]at h;simp only[v];exact⟨h.1.1,h.1.2.1,h.1.2.2,h.2⟩
  ·exact h.elim
 case box T x=>exact⟨h.1.1,h.1.2.1,h.1.2.2,h.2⟩
 case build T parts=>
  unfold qc at h
  split at h
  ·rename_i hk v
   split at h
   ·rename_i A;simp only[ba]at h;simp only[hk,v,A];exact⟨h.1.1,h.1.2,h.2⟩
   ·exact h.elim
  ·exact h.elim
 case buildSlice T n parts=>
  unfold pg at h
  split at h
  ·rename_i hk v;simp only[ba]at h;simp only[hk,v];exact⟨h.1.1,h.1.2.1,h.1.2.2,h.2⟩
  ·exact h.elim
 case load T a=>exact VZ K h
 case store T a x=>exact UG K h
 case binOp op T x y O=>exact W3 K h
 case unOp op T x=>
  unfold q9 at h
  split at h
  ·rename_i hx;simp only[hx];exact h.2
  ·rename_i hx;simp only[hx];exact h.2
  ·rename_i hx;simp only[hx];exact h.2
  ·exact h.elim
 case convert S D x=>
  unfold qm at h
  split at h
  ·rename_i g j p;simp only[g,j,p];exact h.2
  ·rename_i g j p;simp only[g,j,p];exact h.2
  ·rename_i g j p
   split at h
   ·rename_i q
    split at h
    ·rename_i A;obtain⟨⟨B,a2,a3,a4,a5,C⟩,h⟩:=h;simp only[g,j,p,q,A];exact⟨B,a2,a3,a4,a5,C,h⟩
    ·exact h.elim
   ·exact h.elim
  ·exact h.elim
 case extract t i=>
  unfold pI at h
  split at h
  ·rename_i F
   split at h
   ·rename_i G;simp only[F,G];exact h.2
   ·exact h.elim
  ·rename_i F
   split at h
   ·rename_i G;simp only[F,G];exact h.2
   ·exact h.elim
  ·exact h.elim
 case fieldAddr T a f=>exact QP K h
 case indexAddr T x i=>exact QO K h
 case index T x i=>
  unfold qg at h
  split at h
  ·rename_i hx hi
   split at h
   ·rename_i c hc;obtain⟨L,rfl⟩:=g9.1 hc;simp only[hx,hi];exact⟨h.1.1,h.1.2,L,h.2⟩
   ·exact h.elim
  ·rename_i hx hi
   split at h
   ·rename_i g j p;obtain⟨⟨g1,g2,g3,g4⟩,h⟩:=h;simp only[hx,hi,g,j,p];exact⟨g1,g2,g3,g4,h⟩
   ·exact h.elim
  ·exact h.elim
 case slice T x lo hi N=>
  cases N with
  |none=>exact UH K h
  |some m=>simp only[fu,w]at h;exact h
 case lookup T x i ok=>
  unfold qt at h
  split at h
  case h_2=>exact h.elim
  rename_i M hi;simp only[M,hi]
  split at h
  case h_2=>exact h.elim
  rename_i z v;simp only[v]
  split at h
  ·rename_i hx;simp only[hx];exact h
  ·rename_i Q hx;simp only[hx]
   split at h
   case h_2=>exact h.elim
   rename_i r u;refine⟨h.1,?_⟩;simp only[u];cases r<;>exact h.2
  ·rename_i b hx;simp only[hx]
   split at h
   case h_2=>exact h.elim
   rename_i q
   split at h
   case h_2=>exact h.elim
   rename_i r u;refine⟨h.1,?_⟩;simp only[q,u];cases r<;>exact h.2
  ·exact h.elim
 case mapUpdate T m k x|insert T m k x=>
  unfold lN at h
  split at h
  case h_2=>exact h.elim
  rename_i g j p E;simp only[g,j,p,E]
  split at h
  case h_2=>exact h.elim
  rename_i q
  split at h
  case h_2=>exact h.elim
  rename_i u;refine⟨h.1,?_⟩;simp only[q,u];exact h.2
 case range T x=>
  unfold pW at h
  split at h
  ·rename_i hx;simp only[hx];exact h
  ·exact h.elim
 case next it s=>
  cases s with
  |false=>simp only[fu,w]at h
  |true=>
   dsimp only at h⊢;unfold qA at h
   split at h
   case h_2=>exact h.elim
   rename_i hx;simp only[hx]
   split at h
   case h_2=>exact h.elim
   rename_i q;simp only[q];have h:=h.2
   split
   ·rename_i hc;rw[if_pos hc]at h;exact h
   ·rename_i hc;rw[if_neg hc]at h;exact h
 case makeSlice T l c=>
  unfold qC at h
  split at h
  ·rename_i g j p E;simp only[g,j,p,E];exact⟨h.1.1,h.1.2.1,h.1.2.2.1,h.1.2.2.2,h.2⟩
  ·exact h.elim
 case nilCheck x=>
  unfold pR at h
  split at h
  ·rename_i hx;simp only[hx];rw[hx]at h;exact h.2
  ·rename_i hx;simp only[hx];rw[hx]at h;exact h.2
  ·rename_i hx;simp only[hx];rw[hx]at h;exact h.2
  ·exact h.elim
 case call c=>
  split at h
  ·rename_i hc
   split at h
   ·rename_i x hx;unfold qW at h
    split at h
    ·rename_i A;simp only[ba]at h;simp only[hc,hx,hg,hm,A];exact⟨h.1.1,h.1.2,h.2⟩
    ·exact h.elim
   ·exact h.elim
  ·rename_i hc
   split at h
   ·rename_i s x hx;simp only[hc,hx,hg,hm];exact⟨h.1,Sm K h.2⟩
   ·exact h.elim
  ·rename_i hc
   split at h
   ·rename_i d x hx;simp only[hc,hx,hg,hm];obtain⟨J,h⟩:=h;unfold copyV at h
    split at h
    case h_2=>exact h.elim
    rename_i g j p
    split at h
    case h_2=>exact h.elim
    rename_i q;simp only[ba]at h;obtain⟨⟨⟨B,a2⟩,a3,a4,a5,C,I⟩,hk⟩:=h;simp only[g,j,p,q];exact⟨B,a2,J,a3,a4,a5,C,I,hk⟩
   ·exact h.elim
  ·rename_i hc;unfold kg at h
   split at h
   case h_2=>exact h.elim
   rename_i hx
   split at h
   case h_2=>exact h.elim
   rename_i u;simp only[hc,hx,u];exact h.2
  ·rename_i hc;unfold kg at h
   split at h
   case h_2=>exact h.elim
   rename_i hx
   split at h
   case h_2=>exact h.elim
   rename_i u;simp only[hc,hx,u];exact h.2
  ·unfold fu at h;simp only[w]at h;exact h
 all_goals first
  |exact h
  |(unfold fu at h
    simp only[w]at h;exact h)
  |(unfold fu at h
    simp only[w]at h)
end
section
variable{P:bv}{ag:b3->Bool}
def eh(dst:Option Tmp)(s:St)(K:St->Prop)(e:aS):Prop:=K (e.app dst s)
def za(dst:Option Tmp)(s:St)(K:St->Prop)(v:AV)(H:aj):Prop:=K ⟨put dst v s.env,H⟩
def qo(P:bv)(f:AV)(args:List AV)(H:aj)(K:AV->aj->Prop):Prop:=
 match f with
 | .p (.func g fi ca)=>gF P false g (fi.map .p++args++ca.map .p) H K
 | .func g fi ca=>gF P false g (fi++args++ca) H K
 | .map b=>∃H' v,fh P b H args H' v/\K v H'
 |_=>False
def p0(P:bv)(f:AV)(args:List AV)(H:aj)(K:aS->Prop):Prop:=
 match f with
 | .p (.func g fi ca)=>gL P g (fi.map .p++args++ca.map .p) H K
 | .func g fi ca=>gL P g (fi++args++ca) H K
 | .map b=>∃e,nw P b args H.length e/\nC H e/\K e
 |_=>False
def cZ(P:bv)(ag:b3->Bool)(o:Oper)(K:St->Prop)(s:St):Prop:=
 match o.op with
 | .call {callee:=.value f,args,.. }=>qo P (ev s.env f) (args.toList.map (ev s.env)) s.heap (za o.dst s K)
 |_=>ki P ag o s.env s.heap (eh o.dst s K)
def c7(P:bv)(ag:b3->Bool)(o:Oper)(s:St)(K:aS->Prop):Prop:=
 match o.op with
 | .call {callee:=.value f,args,.. }=>p0 P (ev s.env f) (args.toList.map (ev s.env)) s.heap K
 |_=>ki P ag o s.env s.heap K
theorem TS{o:Oper}{K:St->Prop}{s:St}(h:cZ P ag o K s):jo P ag false o K s:=by
 unfold cZ at h;unfold jo
 split at h
 ·rename_i f args b a;simp only[a];unfold qo at h
  split at h
  ·rename_i hf;simp only[hf];exact h
  ·rename_i hf;simp only[hf];exact h
  ·rename_i hf;simp only[hf];exact h
  ·exact h.elim
 ·rename_i c
  split
  ·rename_i f args b a;exact(c _ _ _ a).elim
  ·exact LJ h
theorem T0{o:Oper}{K:aS->Prop}{s:St}(h:c7 P ag o s K):ja P ag o s K:=by
 unfold c7 at h;unfold ja
 split at h
 ·rename_i f args b a;simp only[a];unfold p0 at h
  split at h
  ·rename_i hf;simp only[hf];exact h
  ·rename_i hf;simp only[hf];exact h
  ·rename_i hf;simp only[hf];exact h
  ·exact h.elim
 ·rename_i c
  split
  ·rename_i f args b a;exact(c _ _ _ a).elim
  ·exact LJ h
def fO(P:bv)(ag:b3->Bool)(a:Array Oper):List Oper->(St->Prop)->St->Prop
 |[],K,s=>K s
 |o::r,K,s=>match o.guard with
  |none=>cZ P ag o (fO P ag a r K) s
  |some (j,want)=>match guardOf a j s.env with
   | .p (.bool t)=>if t=want then cZ P ag o (fO P ag a r K) s else fO P ag a r K ⟨put o.dst (.p (.aA [])) s.env,s.heap⟩
   | .p (.aA [])=>fO P ag a r K ⟨put o.dst (.p (.aA [])) s.env,s.heap⟩
   |_=>False
def fU(P:bv)(ag:b3->Bool)(a:Array Oper):List Oper->Nat->List Touch->(St->Prop)->St->Prop
 |[],_,acc,K,s=>gZ a acc=true/\K s
 |o::r,i,acc,K,s=>match o.guard with
  |none=>c7 P ag o s fun e=>fU P ag a r (i+1) (fN i s.heap.length e acc) K (e.app o.dst s)
  |some (j,want)=>match guardOf a j s.env with
   | .p (.bool t)=>if t=want then c7 P ag o s fun e=>fU P ag a r (i+1) (fN i s.heap.length e acc) K (e.app o.dst s)
    else fU P ag a r (i+1) acc K ⟨put o.dst (.p (.aA [])) s.env,s.heap⟩
   | .p (.aA [])=>fU P ag a r (i+1) acc K ⟨put o.dst (.p (.aA [])) s.env,s.heap⟩
   |_=>False
theorem xJ{b:Array Oper}:∀(l:List Oper){K a:St->Prop}{s:St},(∀s,K s->a s)->fO P ag b l K s->gG P ag false b l a s
 |[],K,a,s,hk,h=>by simp only[fO]at h;simp only[gG];exact hk s h
 |o::l,K,a,s,hk,h=>by
  have go:cZ P ag o (fO P ag b l K) s->jo P ag false o (gG P ag false b l a) s:=fun h=>by
   obtain⟨t,f,g⟩:=Hc false o s _ (TS h);exact g _ (xJ l hk f)
  simp only[fO]at h;simp only[gG]
  split at h
  ·rename_i c;simp only[c];exact go h
  ·rename_i j i c;simp only[c]
   split at h
   ·rename_i t d;simp only[d]
    split at h
    ·rename_i e;rw[if_pos e];exact go h
    ·rename_i e;rw[if_neg e];exact xJ l hk h
   ·rename_i d;simp only[d];exact xJ l hk h
   ·exact h.elim
theorem xc{c:Array Oper}:∀(l:List Oper){i:Nat}{a:List Touch}{K b:St->Prop}{s:St},(∀s,K s->b s)->fU P ag c l i a K s->fT P ag c l i a b s
 |[],i,a,K,b,s,hk,h=>by simp only[fU]at h;simp only[fT];exact⟨h.1,hk s h.2⟩
 |o::l,i,a,K,b,s,hk,h=>by
  have go:c7 P ag o s (fun e=>fU P ag c l (i+1) (fN i s.heap.length e a) K (e.app o.dst s))->ja P ag o s (fun e=>fT P ag c l (i+1) (fN i s.heap.length e a) b (e.app o.dst s)):=fun h=>by
   obtain⟨e,k,m⟩:=Hd o s _ (T0 h);exact m _ (xc l hk k)
  simp only[fU]at h;simp only[fT]
  split at h
  ·rename_i d;simp only[d];exact go h
  ·rename_i j n d;simp only[d]
   split at h
   ·rename_i t f;simp only[f]
    split at h
    ·rename_i g;rw[if_pos g];exact go h
    ·rename_i g;rw[if_neg g];exact xc l hk h
   ·rename_i f;simp only[f];exact xc l hk h
   ·exact h.elim
def sA(v:AV)(a b:St->Prop)(s:St):Prop:=
 match v with
 | .p (.bool t)=>if t then a s else b s
 |_=>False
def sZ(K:St->Prop)(Q:bm->St->Prop)(e:bm)(s:St):Prop:=
 match e with
 | .normal=>K s
 |e=>Q e s
def cX(P:bv)(ag:b3->Bool)(q:Cx):Code->(bm->St->Prop)->St->Prop
 | .skip,Q,s| .label _,Q,s=>Q .normal s
 | .region _ ops draw,Q,s=>if draw then fU P ag ops ops.toList 0 [] (Q .normal) s else fO P ag ops ops.toList (Q .normal) s
 | .seq a b,Q,s=>cX P ag q a (sZ (cX P ag q b Q) Q) s
 | .cond c a b,Q,s=>sA (ev s.env c) (cX P ag q a Q) (cX P ag q b Q) s
 | .block id b,Q,s=>cX P ag q b (nj id Q) s
 | .scope b,Q,s=>cX P ag q b Q s
 | .loop b,Q,s=>∃I:Nat->St->Prop,(∃n t,dd q.2 s t/\I n t)/\∀n t,I n t->cX P ag q b (su q.2 n I Q) t
 | .rangeFunc f d a b,Q,s=>q.2<=s.heap.length/\iR P (ev s.env f) s.heap.length (s.heap++[.loop ⟨.ready,none,q.1,d.toList,a,b,s.env⟩]) (gS s.heap.length s.env Q)
 | .exit id,Q,s=>Q (.exit id) s
 | .ret,Q,s=>Q .ret s
 |_,_,_=>False
theorem Ub{Q a:bm->St->Prop}(hq:∀e s,Q e s->a e s){j:Option Code}{s:St}(h:iW Q j s):iW a j s:=by
 unfold iW at h⊢
 split at h
 ·exact hq _ _ h
 ·exact hq _ _ h
 ·exact hq _ _ h
 ·exact h.elim
theorem GU{Q a:bm->St->Prop}(hq:∀e s,Q e s->a e s){b:Nat}{env:Env}{H:aj}(h:gS b env Q H):gS b env a H:=by
 unfold gS at h⊢
 split at h
 ·exact⟨h.1,Ub hq h.2⟩
 ·exact h.elim
theorem GQ{it:AV}{b:Nat}{H:aj}{K d:aj->Prop}(hk:∀H,K H->d H)(h:iR P it b H K):iR P it b H d:=by
 unfold iR at h⊢
 split at h
 ·obtain⟨H',v,a,c⟩:=h;exact⟨H',v,a,hk _ c⟩
 ·obtain⟨H',v,a,c⟩:=h;exact⟨H',v,a,hk _ c⟩
 ·exact h.elim
theorem kW{q:Cx}:∀(c:Code){Q Q':bm->St->Prop}{s:St},(∀e s,Q e s->Q' e s)->cX P ag q c Q s->bW P ag q c Q' s
 | .skip,Q,Q',s,hq,h| .label _,Q,Q',s,hq,h=>by simp only[cX]at h;simp only[bW];exact hq _ _ h
 | .exit _,Q,Q',s,hq,h| .ret,Q,Q',s,hq,h=>by simp only[cX]at h;simp only[bW];exact hq _ _ h
 | .region id ops draw,Q,Q',s,hq,h=>by
  simp only[cX]at h;simp only[bW]
  split at h
  ·rename_i j;rw[if_pos j];exact xc _ (hq _) h
  ·rename_i j;rw[if_neg j];exact xJ _ (hq _) h
 | .seq a b,Q,Q',s,hq,h=>by
  simp only[cX]at h;simp only[bW];refine kW a (fun e s d=>?_) h;cases e with
  |normal=>exact kW b hq d
  |exit id=>exact hq _ _ d
  |ret=>exact hq _ _ d
 | .cond c a b,Q,Q',s,hq,h=>by
  simp only[cX]at h;simp only[bW];unfold sA at h
  split at h
  ·rename_i t m;simp only[m]
   split at h
   ·rename_i g;rw[if_pos g];exact kW a hq h
   ·rename_i g;rw[if_neg g];exact kW b hq h
  ·exact h.elim
 | .block id b,Q,Q',s,hq,h=>by
  simp only[cX]at h;simp only[bW];refine kW b (fun e s d=>?_) h;cases e with
  |normal=>exact hq _ _ d
  |exit i=>
   simp only[nj]at d
   by_cases hi:i=id
   ·simp only[hi,if_true]at d⊢;exact hq _ _ d
   ·simp only[hi,if_false]at d⊢;exact hq _ _ d
  |ret=>exact hq _ _ d
 | .scope b,Q,Q',s,hq,h=>by simp only[cX]at h;simp only[bW];exact kW b hq h
 | .loop b,Q,Q',s,hq,h=>by
  simp only[cX]at h;simp only[bW];obtain⟨I,k,l⟩:=h;refine⟨I,k,fun n t hI=>kW b (fun e s d=>?_) (l n t hI)⟩;cases e with
  |normal=>exact d
  |exit id=>exact hq _ _ d
  |ret=>exact hq _ _ d
 | .rangeFunc f o a b,Q,Q',s,hq,h=>by
  simp only[cX]at h;simp only[bW];exact⟨h.1,s.env,fun _=>rfl,GQ (fun H=>GU hq) h.2⟩
 | .goto _,_,_,_,_,h| .refuse _,_,_,_,_,h=>by simp[cX]at h
end
end Go.az
