import Derived.Test.YtanjnahmbanmaaaGreatDoorThB
import Derived.Laws.RangeString
import Derived.Lib.UnsafeStr
import Derived.Laws.BytesArg
import Derived.Orders
/- Parts of a proof. -/
set_option linter.unusedSimpArgs false
set_option linter.unusedVariables false
set_option linter.unusedSectionVars false
open Array renaming getElem?_eq_some_iff->aT, getElem?_eq_getElem->a0, ext'->a1, replicate->a6, getElem?_toList->a7, length_toList->a8, getD_eq_getD_getElem?->bb, getD->be, toList_push->bi
open BitVec renaming ofInt->bl
open Bool renaming and_eq_true->bo, or_eq_true->bp, false_eq_true->bv
open Go renaming Program->bI, TypeId->bV, run_underlying->b0, Operand->b1, FuncId->b2, execOp->b3, Value->b4, World->b5, MapEntry->cb, Frame->cc, IntKind->ce, Deferred->ck, BinOp->cv, step_leave_returned->cx, run_storeCells_at->cy, Field->c6, mem_ready->c9, setRow_other->da, setRow_heap->db, getD_set_ne->dg, Steps->dk
open Go.Builtin renaming clear_->dl, unsafeString_->dp, copy_->dq, min2->dz, max2->ea, zeroCells->eb, unsafeSliceData_->ec, min_->ed, max_->ee, lenOf->ei, cap_->ej
open Go.Call renaming operands->em
open Go.Instr renaming findAsking->en, findNow->eo, findKey->eq, checkKey->ew, sameNow->e6, mapUpdate->e7, lookup->e8, next->e9
open Go.MapKept renaming run_getObj_map->fb, bytes_beq->fd
open Go.Op renaming operands->fl
open Go.Region renaming ready->fm, wanted->fv, binds->fw, schedule->gb
open Go.Region.linearise renaming go->gc
open Go.Result renaming andThen_ok->ge, andThen->gg
open Go.Sem renaming run_bind->gi, run_pure->gj, run->gm
open Go.Steps renaming one->gt, trans->gx, refl->gy
open Go.Utf8 renaming decode->g0
open Go.World renaming freeze->g7, cell?->g8
open List renaming getElem?_eq_some_iff->g9, replicate->ha, length_append->hb, getElem?_set_self->hd, getElem?_eq_getElem->he, map_cons->hg, append_nil->hh, mem_cons->hj, all_eq_true->hl, map_nil->hm, contains_iff_mem->hn, any_eq_true->ho, map_append->hp, getElem?_append_left->ht, map_toArray->hu, range->hv, map_map->hw, getElem?_eq_none->hy, mem_of_mem_take->hz, getElem?_set_ne->hA, map_congr_left->hB, getElem?_map->hC, append_assoc->hD, length_eq_zero_iff->hE, mem_of_mem_drop->hF, map->hG, length->hH, mem_map_of_mem->hJ, flatten_append->hK, size_toArray->hL, countP_congr->hM, countP_cons->hN, mem_append->hO, drop_zero->hP, map_id->hQ
open Nat renaming le_refl->hR, lt_trichotomy->hS, lt_irrefl->hT, add_zero->hU, zero_le->hV, le_add_right->hW, strongRecOn->hX, zero_add->hZ, le_total->h0
open Option renaming getD_some->h2
open Option.some renaming injEq->h3, inj->h4
open PUnit renaming unit->h5
open UInt8 renaming toNat_ofNat'->h6, ofNat->h7
namespace Go.ak
set_option linter.unusedSectionVars false
variable[Gl]
section
variable{P:bI}{w:b5}{ad ah:Nat->Prop}{β:Bd}{H:aj}
variable{o:Oper}{ρ:b1->AV}{base:Nat}
open Go.MapKept
def mz:PV->Prop
 | .st _ _=>False
 |_=>True
theorem JT{T:bV}{key:PV}(h:mz key)(k:PV):pC P T key k=ju key k:=by
 cases key<;>first
  |exact h.elim
  |rfl
theorem SX{T:bV}{key:PV}(h:mz key)(a:List (PV×PV)):lO P T a key=fE P T a key:=by
 cases key<;>first
  |exact h.elim
  |rfl
theorem Gy{T:bV}{key:PV}{b:b4}(h:fO P T key=true)(c:mz key)(a:aD P w ad key b):∃d,P.underlying T=some d/\IsKey d b:=by
 unfold fO at h
 split at h
 ·split at h
  ·rename_i e;simp at h;subst h;simp only[aD]at a;subst a;exact⟨_,e,by simp[IsKey]⟩
  ·simp at h
 ·simp only[aD]at a;obtain⟨bs,rfl,_⟩:=a;exact⟨_,xj h,by simp[IsKey]⟩
 ·exact c.elim
 ·simp at h
theorem Lj{T:bV}{d:TypeDesc}(j:P.underlying T=some d){key g:PV}{i v':b4}{r:Bool}(h:fO P T key=true)(p:mz key)(c:ju key g=some r)(e:aD P w ad key i)(f:aD P w ad g v'):
 e6 d i v'=some r/\(r=true->i=v'):=by
 unfold fO at h
 split at h
 ·split at h
  ·rename_i k;simp at h;subst h;rw[j]at k;cases k;cases g<;>simp only[ju]at c<;>try (simp at c;done)
   split at c
   ·rename_i hk;subst hk;simp at c;subst c;simp only[aD]at e f;subst e;subst f;simp[e6]
   ·simp at c
  ·simp at h
 ·rename_i hs;have:=xj h;rw[j]at this;cases this;cases g<;>simp only[ju]at c<;>try (simp at c;done)
  simp at c;subst c;simp only[aD]at e f;obtain⟨a,rfl,e1⟩:=e;obtain⟨b,rfl,e2⟩:=f;subst e1;subst e2;have n:(hG (fun x:UInt8=>x.toNat) a.data.toList=hG (fun x:UInt8=>x.toNat) b.data.toList)↔a=b:=by
   constructor
   ·intro h;have:=AQ h;apply ByteArray.ext;apply a1;exact this
   ·intro h;rw[h]
  by_cases hc:a=b
  ·subst hc;simp[e6,fd]
  ·have l:¬(hG (fun x:UInt8=>x.toNat) a.data.toList=hG (fun x:UInt8=>x.toNat) b.data.toList):=fun h=>hc (n.1 h);have m:(a==b)=false:=by
    cases o:(a==b)with
    |false=>rfl
    |true=>exact(hc ((fd a b).1 o)).elim
   simp[e6,l,m]
 ·exact p.elim
 ·simp at h
theorem Ce{T:bV}{d:TypeDesc}(o:P.underlying T=some d){key:PV}{g:b4}(hk:fO P T key=true)(m:mz key)(l:aD P w ad key g):∀(b:List (PV×PV))(a:List cb)(i:Nat)(r:Option PV),cH P w ad b a->fE P T b key=some r->
 (r=none/\eo d g a i=some none)\/∃v j e,r=some v/\eo d g a i=some (some (i+j,e.val))/\a[j]?=some e/\aD P w ad v e.val/\e.key=g/\
  (∀(x:PV)(k:b4),aD P w ad x k->cH P w ad (fN b key x) (a.modify j fun e=>{e with key:=g,val:=k}))
 |[],a,i,r,f,h=>by
  simp only[cH]at f;simp[fE]at h;subst f;subst h;exact .inl ⟨rfl,rfl⟩
 |(s,v')::b,a,i,r,f,h=>by
  simp only[cH]at f;obtain⟨e,rest,rfl,n,p,q⟩:=f;simp only[fE,JT m]at h
  split at h
  ·rename_i c;simp at h;subst h;obtain⟨g1,g2⟩:=Lj o hk m c l n;refine .inr ⟨v',0,e,rfl,by simp[eo,g1],rfl,p,(g2 rfl).symm,fun x k hx=>?_⟩;simp only[fN,c,if_true];simp only[cH];exact⟨_,rest,rfl,l,hx,q⟩
  ·rename_i c;obtain⟨g1,g2⟩:=Lj o hk m c l n;rcases Ce o hk m l b rest (i+1) r q h with⟨rfl,f1⟩|⟨v,j,e',rfl,f1,f2,f3,f4,f5⟩
   ·exact .inl ⟨rfl,by simp[eo,g1,f1]⟩
   ·refine .inr ⟨v,j+1,e',rfl,by simp[eo,g1,f1];omega,by simpa using f2,f3,f4,fun x k hx=>?_⟩;simp only[fN,c];rw[if_neg (by simp)];simp only[cH];exact⟨e,_,by simp[List.modify_succ_cons],n,p,f5 x k hx⟩
  ·simp at h
theorem Hd{X:Array b4}{y:bV->PV->PV->Option Bool}(e:Bool)(n:Nat):
 ∀(fs:List c6)(l:List Nat)(b:List PV)(r:Bool)(d:List b4)(o:List (List b4)),lX P y (fs.map (·.type)) b b=some r->(∀f∈fs,f.name≠ "_" /\sP P f.type=true)->
 (∀(i:Nat)(f:c6),fs[i]?=some f->f.offset=d.length+(l.take i).sum)->bk P w ad l b o->
 X.toList=d++o.flatten->(forIn fs h5 (fun f _=>if f.name≠ "_" then(do
  let x<-part f.type X f.offset
  ew e (n+1) f.type x
  pure (ForInStep.yield h5))else pure (ForInStep.yield h5):c6->PUnit->Sem (ForInStep PUnit))).run P w=.ok h5 w
 |[],l,b,r,d,o,_,_,_,_,_=>by simp
 |f::fs,l,b,r,d,o,h,s,t,hx,q=>by
  cases b with
  |nil=>simp[lX]at h
  |cons a b=>
   cases l with
   |nil=>simp[bk]at hx
   |cons m l=>
    simp only[hg,lX]at h
    split at h
    case isFalse=>simp at h
    rename_i hk
    split at h
    case h_2=>simp at h
    rename_i I F H z;obtain⟨c,cs,rfl,hc,A,E⟩:=BF hx;obtain⟨C,p⟩:=s f (by simp);have D:f.offset=d.length:=by simpa using t 0 f (by simp)
    obtain⟨x,u,J⟩:=uO hk.1 hc (pre:=d) (post:=cs.flatten) (cs:=X) (by rw[q];simp);rw[<-D]at u;have v:(ew e (n+1) f.type x).run P w=.ok () w:=by
     unfold sP at p;unfold ew
     split at p
     ·rename_i k j;simp[b0 j]
     ·rename_i j;simp[b0 j]
     ·rename_i j;simp[b0 j]
     ·cases p
    have G:=Hd e n fs l b F (d++c) cs z (fun f hf=>s f (by simp[hf])) (by
     intro i g B;have:=t (i+1) g (by simpa using B);rw[this,List.take_succ_cons,List.sum_cons,hb,A];omega) E (by rw[q];simp)
    rw[List.forIn_cons];simp only[C,ne_eq,not_false_eq_true,if_true,gi,u,v,ge,gj];exact G
theorem Sp{T:bV}{bW:Array c6}{u:Nat}{fs:List PV}{g:b4}(b:P.underlying T=some (.struct bW))(j:bW.toList.all (fun f=>f.name != "_" &&sP P f.type)=true)(a:(iK P 9 T (.st u fs) (.st u fs)).isSome=true)(d:aD P w ad (.st u fs) g)(e:Bool):
 (ew e 10000 T g).run P w=.ok () w:=by
 obtain⟨r,a⟩:=Option.isSome_iff_exists.1 a;unfold iK at a;simp only[b]at a
 split at a
 case isFalse=>simp at a
 rename_i hc;obtain⟨hk,-,-,-⟩:=hc;simp only[aD]at d;obtain⟨l,c,k1,k2,rfl⟩:=d;obtain⟨o,p,s1,s2,q,h,s,k⟩:=ui (P:=P) (T:=T) (u:=u) (n:=bW.size) (by unfold eX;rw[hk,b]);rw[b]at s1;cases s1;rw[k1]at h;cases h;have key:=Hd (w:=w) (ad:=ad) (X:=c.flatten.toArray) e 9998 bW.toList l fs r [] c a (fun f hf=>by
  have:=hl.1 j f hf;simpa using this) (by
   intro i f hf;have hi:i<bW.size:=by
    have:=(g9.1 hf).1;simpa using this
   obtain⟨m,g1,g2,_⟩:=k i hi;rw[a7,g1]at hf;cases hf;simpa using g2) k2 (by simp)
 unfold ew;simp only[gi,b0 b,ge];rw[<-Array.forIn_toList];rw[key];simp
theorem BJ{T:bV}{u:Nat}{fs:List PV}{g:b4}(p:aD P w ad (.st u fs) g):∀(k:List (PV×PV))(f:List cb)(i:Nat)(r:Option PV),cH P w ad k f->fE P T k (.st u fs)=some r->
 (r=none/\(en T g f i).run P w=.ok none w/\∀x n born,aD P w ad x n->cH P w ad (fN k (.st u fs) x) (f++[{key:=g,val:=n,born}]))\/∃(v:PV)(j:Nat)(e:cb),r=some v/\(en T g f i).run P w=.ok (some (i+j,e.val)) w/\aD P w ad v e.val
 |[],f,i,r,m,h=>by
  simp only[cH]at m;simp[fE]at h;subst m;subst h;refine .inl ⟨rfl,by simp[en],fun x n born hx=>?_⟩;simp only[fN,cH];exact⟨_,[],rfl,p,hx,rfl⟩
 |(y,v')::k,f,i,r,m,h=>by
  simp only[cH]at m;obtain⟨e,rest,rfl,s,t,z⟩:=m;simp only[fE]at h;have q:∀b,pC P T (.st u fs) y=some b->(Op.equal T g e.key).run P w=.ok b w/\ju (.st u fs) y=some b:=by
   intro b l;simp only[pC]at l
   split at l
   ·rename_i a c A hc;cases a<;>cases c<;>simp at l<;>subst l<;>
    ·obtain⟨d,B,hq⟩:=xZ T g e.key;rw[hq];exact⟨BM 9 T _ _ _ A _ _ p s _ B,hc⟩
   ·simp at l
  split at h
  ·rename_i o;simp at h;subst h;obtain⟨g1,g2⟩:=q _ o;exact .inr ⟨v',0,e,rfl,by simp[en,g1],t⟩
  ·rename_i o;obtain⟨g1,g2⟩:=q _ o;rcases BJ p k rest (i+1) r z h with⟨rfl,f1,f2⟩|⟨v,j,e',rfl,f1,f3⟩
   ·refine .inl ⟨rfl,by simp[en,g1,f1],fun x n born hx=>?_⟩;simp only[fN,g2];rw[if_neg (by simp)];simp only[cH];exact⟨e,_,rfl,s,t,f2 x n born hx⟩
   ·refine .inr ⟨v,j+1,e',rfl,?_,f3⟩;simp[en,g1,f1];omega
  ·simp at h
theorem Cf{T:bV}{bW:Array c6}(c:P.underlying T=some (.struct bW)){b:b4}{a:List cb}{f:Option (Nat×b4)}(h:(en T b a 0).run P w=.ok f w):(eq T b a).run P w=.ok f w:=by
 unfold eq;simp only[gi,b0 c,ge];cases a with
 |nil=>
  simp only[eo];simpa[en]using h
 |cons e es=>
  have:eo (.struct bW) b (e::es) 0=none:=by simp[eo,e6]
  rw[this];exact h
theorem Bg{T:bV}{key:PV}(h:fO P T key=true)(a:¬mz key):∃u fs bW,key= .st u fs/\P.underlying T=some (.struct bW)/\bW.toList.all (fun f=>f.name != "_" &&sP P f.type)=true/\(iK P 9 T (.st u fs) (.st u fs)).isSome=true:=by
 cases key<;>first
  |exact(a trivial).elim
  |skip
 rename_i u fs;simp only[fO]at h
 split at h
 ·rename_i bW b;rw[bo]at h;exact⟨u,fs,bW,rfl,b,h.1,h.2⟩
 ·cases h
theorem Kj{T:bV}{key:PV}{g:b4}(hk:fO P T key=true)(f:aD P w ad key g){b:List (PV×PV)}{a:List cb}{r:Option PV}(l:cH P w ad b a)(h:fE P T b key=some r):
 (∀e,(ew e 10000 T g).run P w=.ok () w)/\
 ((r=none/\(eq T g a).run P w=.ok none w)\/∃(v:PV)(j:Nat)(e:cb),r=some v/\(eq T g a).run P w=.ok (some (j,e.val)) w/\aD P w ad v e.val):=by
 by_cases i:mz key
 ·obtain⟨d,c,o⟩:=Gy hk i f;refine⟨fun e=>run_checkKey c o _ 9999,?_⟩;rcases Ce c hk i f b a 0 r l h with⟨rfl,f1⟩|⟨v,j,e,rfl,f1,f2,f3,f4,_⟩
  ·exact .inl ⟨rfl,run_findKey c f1⟩
  ·exact .inr ⟨v,0+j,e,rfl,run_findKey c f1,f3⟩
 ·obtain⟨u,fs,bW,rfl,k,m,n⟩:=Bg hk i;refine⟨fun e=>Sp k m n f e,?_⟩;rcases BJ f b a 0 r l h with⟨rfl,f1,_⟩|⟨v,j,e,rfl,f1,f3⟩
  ·exact .inl ⟨rfl,Cf k f1⟩
  ·exact .inr ⟨v,0+j,e,rfl,Cf k f1,f3⟩
theorem G3{T:bV}{key x:PV}{g i:b4}(d:aD P w ad key g)(hx:aD P w ad x i)(born:Nat):∀(a:List (PV×PV))(c:List cb),mz key->cH P w ad a c->fE P T a key=some none->cH P w ad (fN a key x) (c++[{key:=g,val:=i,born}])
 |[],c,_,b,_=>by
  simp only[cH]at b;subst b;simp only[fN,cH];exact⟨_,[],rfl,d,hx,rfl⟩
 |(n,v')::a,c,f,b,h=>by
  simp only[cH]at b;obtain⟨e,rest,rfl,j,k,l⟩:=b;simp only[fE,JT f]at h
  split at h
  ·simp at h
  ·rename_i m;simp only[fN,m];rw[if_neg (by simp)];simp only[cH];exact⟨e,_,rfl,j,k,G3 (T:=T) d hx born a rest f l h⟩
  ·simp at h
def tj(ok:Bool)(z:PV):Option PV->PV
 |some v=>if ok then .aC [v,.bool true]else v
 |none=>if ok then .aC [z,.bool false]else z
theorem Uo{T:bV}{c E:bV}{x i:b1}{ok:Bool}{key z:PV}{r:Option PV}{k:List (PV×PV)}(C:o.op= .lookup T x i ok)(g:kU P T=some (c,E))(F:ct P E=some z)(hk:fO P c key=true)(B:fE P c k key=some r)
 {ρc:b1->b4}(A:aD P w ad key (ρc i))(hx:(ρc x=.map none/\k=[])\/∃b a d,ρc x=.map (some b)/\w.heap[b]?=some (.map a d)/\cH P w ad k a.toList):
 ∃p,(b3 ρc o).run P w=.ok (.value p) w/\aD P w ad (tj ok z r) p:=by
 have m:P.underlying T=some (.map c E):=by
  unfold kU at g
  split at g
  ·rename_i D;simp at g;rw[D,g.1,g.2]
  ·simp at g
 obtain⟨t,z1,z2⟩:=UU F;obtain⟨a,s,n⟩:∃a:Array cb,((ρc x=.map none/\a=#[])\/∃b d,ρc x=.map (some b)/\w.heap[b]?=some (.map a d))/\cH P w ad k a.toList:=by
  rcases hx with⟨hx,rfl⟩|⟨b,a,d,hx,h,n⟩
  ·exact⟨#[],.inl ⟨hx,rfl⟩,by simp[cH]⟩
  ·exact⟨a,.inr ⟨b,d,hx,h⟩,n⟩
 obtain⟨l,u⟩:=Kj hk A n B
 have q:∀(f:Option (Nat×b4))(v:b4)(b:Bool),(eq c (ρc i) a.toList).run P w= .ok f w->(f=none/\v=t/\b=false\/∃j,f=some (j,v)/\b=true)->
  (b3 ρc o).run P w=.ok (.value (if ok then .tuple #[v,.bool b]else v)) w:=by
  intro f v b hf y;simp only[b3,C];refine eL ?_;rcases y with⟨rfl,rfl,rfl⟩|⟨j,rfl,rfl⟩
  ·rcases s with⟨hx,rfl⟩|⟨b,d,hx,h⟩
   ·have hf:(eq c (ρc i) []).run P w=.ok none w:=hf;cases ok<;>simp[e8,b0 m,hx,l,hf,z1]
   ·cases ok<;>simp[e8,b0 m,hx,fb h,l,hf,z1]
  ·rcases s with⟨hx,rfl⟩|⟨b,d,hx,h⟩
   ·have hf:(eq c (ρc i) []).run P w=.ok (some (j,v)) w:=hf;cases ok<;>simp[e8,b0 m,hx,l,hf]
   ·cases ok<;>simp[e8,b0 m,hx,fb h,l,hf]
 rcases u with⟨rfl,f1⟩|⟨v,j,e,rfl,f1,f3⟩
 ·refine⟨_,q none t false f1 (.inl ⟨rfl,rfl,rfl⟩),?_⟩;cases ok with
  |true=>simp only[tj,if_true,aD,bJ];exact⟨_,⟨_,_,rfl,z2 w ad,_,_,rfl,rfl,rfl⟩,rfl⟩
  |false=>simpa[tj]using z2 w ad
 ·refine⟨_,q _ e.val true f1 (.inr ⟨_,rfl,rfl⟩),?_⟩;cases ok with
  |true=>simp only[tj,if_true,aD,bJ];exact⟨_,⟨_,_,rfl,f3,_,_,rfl,rfl,rfl⟩,rfl⟩
  |false=>simpa[tj]using f3
theorem ux{T:bV}{c E:bV}{x g:b1}{ok:Bool}{key z:PV}{r:Option PV}{es:List (PV×PV)}{al:List (Nat×Obj)}(f:o.op= .lookup T x g ok)(n:kU P T=some (c,E))(u:ct P E=some z)(hi:ρ g= .p key)(hk:fO P c key=true)(q:fE P c es key=some r)
 (hx:(ρ x=.p .fc/\es=[])\/ρ x=.p (.dT es)\/∃b fz,ρ x=.map b/\(b,.map fz es)∈al):
 bw P o ρ base {v:=.p (tj ok z r),al}:=by
 refine bw.same fun H w ad ah β y t i al=>?_;have a:=(i x (by simp[f,fl])).1;have e:=(i g (by simp[f,fl])).1;rw[hi]at e;simp only[aA]at e;obtain⟨j,c1,c2⟩:=Uo f n u hk q (ρc:=y) (w:=w) (ad:=ad) e (by
  rcases hx with⟨hx,rfl⟩|hx|⟨b,fz,hx,s⟩
  ·rw[hx]at a;simp only[aA,aD]at a;exact .inl ⟨a,rfl⟩
  ·rw[hx]at a;simp only[aA,aD]at a;obtain⟨b,d,clock,_,k,l,m⟩:=a;exact .inr ⟨b,d,clock,m,k,l⟩
  ·rw[hx]at a;simp only[aA,bO,bR]at a;have h:=al _ s;obtain⟨d,clock,k1,k2,_⟩:=t.cJ b _ h;exact .inr ⟨_,d,clock,a.2.1 ⟨_,_,h⟩,k1,k2⟩)
 exact⟨j,c1,by simpa only[aA]using c2,by simp[aE]⟩
theorem Uh{T:bV}(e:o.op=.makeMap T none):bw P o ρ base {v:=.map base,aS:=[.map false []]}:=by
 intro H w ad ah β i b j _ d;have a:H[base]?=some .hole:=by simpa using d 0 (by simp)
 have g:(b3 i o).run P w=.ok (.value (.map (some w.heap.size))) {w with heap:=w.heap.push (.map #[] 0)}:=by
  simp only[b3,e];exact ug (by simp[Instr.makeMap])
 have f:=sA (cap:=0) b a (ob:=.map #[] 0) (o':=.map false [])
  ⟨#[],0,by simp[Bd.at],by simp[cH],by
   simp only[cG,Bd.at,if_true,bv,if_false];exact⟨fun h=>hT _ (b.bQ _ h),fun h=>hT _ (b.dU _ h)⟩⟩ trivial
 refine⟨_,_,_,_,ad,g,.inl rfl,f,?_,?_⟩
 ·simp only[aA,bO,bR,lA];exact⟨rfl,fun _=>by simp[Bd.at],fun⟨L,c⟩=>by rw[hd (g9.1 a).1]at c;cases c⟩
 ·simp only[aE,lA];exact⟨_,hd (g9.1 a).1,trivial⟩
theorem Jw(f:bU P w ad β H ah){b:Nat}{o o':Obj}(a:H[b]?=some o)(i:o.live)(j:o'.live)(n:∀v,o.has v->o'.has v)(l:∀L,o≠ .loop L){ob:Go.Obj}
 (_hb:β.an b<w.heap.size)(e:¬ad (β.an b)/\¬ah (β.an b))(aN:cw β H β (H.set b o'))
 (p:ff P {w with heap:=w.heap.setIfInBounds (β.an b) ob} ad β (H.set b o') ah b o')(q:o'.refs (aJ (H.set b o'))):
 bY P ah ad w β H ad {w with heap:=w.heap.setIfInBounds (β.an b) ob} β (H.set b o'):=by
 refine bY.set f (g9.1 a).1 (fun _ _=>⟨rfl,rfl⟩) (fun _ x=>x) (fun _ x=>.inl x) (fun k hk=>by simpa using f.bQ k hk) (by simp)
  (fun k hk _=>?_) (fun _=>.inr ⟨rfl,⟨o,a,i⟩,.inr e.1,e.2⟩) aN p q (fun r v c g=>by rw[a]at c;cases c;exact n v g) (fun L d=>by rw[a]at d;cases d;exact(l L rfl).elim)
 have m:k≠β.an b:=hk.resolve_right (fun h=>h j);simp[Ne.symm m]
theorem GD{T t E:bV}{m k x:b1}{b:Nat}{key v:PV}{a:List (PV×PV)}{r:Option PV}(g:o.op= .mapUpdate T m k x\/o.op= .insert T m k x)(z:kU P T=some (t,E))(ab:ρ m= .map b)(hk:ρ k= .p key)(hx:ρ x= .p v)
 (hf:fO P t key=true)(f:lO P t a key=some r):bw P o ρ base {v:=.p (.aC []),al:=[(b,.map false a)],aM:=[(b,.map false (fN a key v))]}:=by
 have N:P.underlying T=some (.map t E):=by
  unfold kU at z
  split at z
  ·rename_i O;simp at z;rw[O,z.1,z.2]
  ·simp at z
 intro H w ad ah β c U Q al _;have G:H[b]?=some (.map false a):=by simpa using al
 have M:m∈o.op.operands/\k∈o.op.operands/\x∈o.op.operands:=by
  rcases g with g|g<;>simp[g,fl]
 have l:=(Q m M.1).1;have q:=(Q k M.2.1).1;have B:=(Q x M.2.2).1;rw[ab]at l;rw[hk]at q;rw[hx]at B;simp only[aA,bO,bR]at l q B;have l:=l.2.1 ⟨_,_,G⟩;obtain⟨i,clock,k1,k2,k3⟩:=U.cJ b _ G;have S:¬ad (β.an b)/\¬ah (β.an b):=by
  unfold cG at k3;rw[if_neg (by simp)]at k3;exact k3
 have F:fE P t a key=some r:=by
  by_cases s:mz key
  ·rw[<-SX s];exact f
  ·obtain⟨u,fs,bW,rfl,_⟩:=Bg hf s;simp only[lO]at f
   split at f
   ·rename_i hq;rw[hq];exact f
   ·cases f
 have K:=(Kj hf q k2 F).1 false;have R:β.an b<w.heap.size:=(aT.1 k1).1;have aN:cw β H β (H.set b (.map false (fN a key v))):=oH G (.inr (.inr (.inl ⟨_,_,_,_,rfl,rfl⟩)))
 have J:∀(y:Array cb)(A:Nat),(e7 T (c m) (c k) (c x)).run P w= .ok () {w with heap:=w.heap.setIfInBounds (β.an b) (.map y A)}->cH P w ad (fN a key v) y.toList->
  ∃n I w' aK aF,(b3 c o).run P w=.ok n w'/\(n=.value I\/n=.skip/\I=undef)/\
  bY P ah ad w β H aF w' aK (bc H ([(b,.map false (fN a key v))]++newAt base []))/\aA P w' aF aK (bc H ([(b,.map false (fN a key v))]++newAt base [])) (.p (.aC [])) I/\
  aE (aJ (bc H ([(b,.map false (fN a key v))]++newAt base []))) (.p (.aC [])):=by
  intro y A af ac;have X:(b3 c o).run P w=.ok .skip {w with heap:=w.heap.setIfInBounds (β.an b) (.map y A)}:=by
   rcases g with g|g<;>simp[b3,g,af]
  have ag:∀D,ad D->({w with heap:=w.heap.setIfInBounds (β.an b) (.map y A)}:b5).heap[D]?=w.heap[D]?:=by
   intro D aa;have:β.an b≠D:=fun W=>S.1 (W▸aa);simp[this]
  refine⟨_,_,_,β,ad,X,.inr ⟨rfl,rfl⟩,?_,by simp[aA,aD,bJ,undef],by simp[aE]⟩;simp only[newAt,hh,bc];exact Jw (o':=.map false (fN a key v)) U G trivial trivial (fun _ h=>h) (fun _ h=>by cases h) R S aN ⟨y,A,by simp[R],cH.mono (fun _ x=>x) ag _ _ ac,k3⟩ trivial
 by_cases s:mz key
 case neg=>
  obtain⟨u,fs,bW,rfl,O,_,_⟩:=Bg hf s;have ae:r=none:=by
   simp only[lO]at f
   split at f
   ·simpa using f.symm
   ·cases f
  subst ae;rcases BJ q a i.toList 0 none k2 F with⟨_,f1,f2⟩|⟨v',j,e,V,_⟩
  ·have C:=Cf O f1;refine J (i.push {key:=c k,val:=c x,born:=clock}) (clock+1) ?_ ?_
   ·rw[l];simp only[e7,gi,b0 N,ge,fb k1,K,C,run_setObj_map _ k1]
   ·rw[bi];exact f2 v (c x) clock B
  ·cases V
 obtain⟨d,L,Y⟩:=Gy hf s q;rcases Ce L hf s q a i.toList 0 r k2 F with⟨rfl,f1⟩|⟨v',j,e,rfl,f1,f2,f3,f4,f5⟩
 ·have C:=run_findKey (w:=w) L f1;refine J (i.push {key:=c k,val:=c x,born:=clock}) (clock+1) ?_ ?_
  ·rw[l];simp only[e7,gi,b0 N,ge,fb k1,K,C,run_setObj_map _ k1]
  ·rw[bi];exact G3 (T:=t) q B clock a i.toList s k2 F
 ·have C:=run_findKey (w:=w) L f1;have Z:i[j]?=some e:=by simpa using f2
  refine J (i.modify j fun e=>{e with key:=c k,val:=c x}) clock ?_ ?_
  ·rw[l];simp only[e7,gi,b0 N,ge,fb k1,K,C];simp only[hZ,Z,Option.map_some,h2,f4,run_keyThatStays Y,ge,run_setObj_map _ k1]
  ·rw[Array.toList_modify];exact f5 v (c x) B
end
section
variable{P:bI}{w:b5}{ad ah:Nat->Prop}{β:Bd}{H:aj}
variable{o:Oper}{ρ:b1->AV}{base:Nat}
theorem Th(bs:ByteArray):gh (iQ bs)=bs:=by
 unfold gh iQ;apply ByteArray.ext;apply a1;simp only[hw];have:(h7∘fun x:UInt8=>x.toNat)=id:=by funext x;simp
 rw[this];simp
theorem WB{T:bV}{x:b1}{s:List Nat}(d:o.op=.range T x)(hx:ρ x=.p (.str s))(e:iA P T=true):bw P o ρ base {v:=.ptr base [],aS:=[.du s 0]}:=by
 intro H w ad ah β k b j _ f;have c:H[base]?=some .hole:=by simpa using f 0 (by simp)
 have a:=(j x (by simp[d,fl])).1;rw[hx]at a;simp only[aA,aD]at a;obtain⟨bs,e1,e2⟩:=a;have i:(b3 k o).run P w=.ok (.value (.pointer (some ⟨w.heap.size,0,none⟩))) {w with heap:=w.heap.push (.stringIter bs 0)}:=by
  simp only[b3,d,e1];exact ug (by simp[Instr.range,b0 (xj e)])
 have g:=sA (cap:=0) b c (ob:=.stringIter bs 0) (o':=.du s 0)
  ⟨bs,by simp[Bd.at],e2,by
   simp only[cG,Bd.at,if_true,bv,if_false];exact⟨fun h=>hT _ (b.bQ _ h),fun h=>hT _ (b.dU _ h)⟩⟩ trivial
 refine⟨_,_,_,_,ad,i,.inl rfl,g,?_,?_⟩
 ·simp only[aA,bO,bR,lA];exact⟨rfl,_,_,0,rfl,rfl,fun _=>by simp[Bd.at]⟩
 ·simp only[aE,lA];exact⟨_,hd (g9.1 c).1,trivial⟩
theorem aHs{it:b1}{b:Nat}{s:List Nat}{pos:Nat}(g:o.op= .next it true)(hx:ρ it= .ptr b []):
 (pos<s.length->bw P o ρ base {v:=.p (.aC [.bool true,.int .i64 pos,.int .i32 (g0 (gh s) pos).1]),al:=[(b,.du s pos)],aM:=[(b,.du s (pos+(g0 (gh s) pos).2))]})/\
 (¬pos<s.length->bw P o ρ base {v:=.p (.aC [.bool false]),al:=[(b,.du s pos)]}):=by
 have key:∀{H:aj}{w:b5}{ad ah:Nat->Prop}{β:Bd}{e:b1->b4},bU P w ad β H ah->(∀x∈o.op.operands,aA P w ad β H (ρ x) (e x)/\aE (aJ H) (ρ x))->H[b]?=some (.du s pos)->
  e it=.pointer (some ⟨β.an b,0,none⟩)/\∃bs:ByteArray,w.heap[β.an b]?=some (.stringIter bs pos)/\s=iQ bs/\(¬ad (β.an b)/\¬ah (β.an b)):=by
  intro H w ad ah β e d f a;have c:=(f it (by simp[g,fl])).1;rw[hx]at c;simp only[aA,bO,bR]at c;obtain⟨_,an,off,t,m,k,n⟩:=c;simp[fV]at k;subst k;obtain⟨rfl,rfl⟩:=n (.inr ⟨_,_,a⟩);obtain⟨bs,k1,k2,k3⟩:=d.cJ b _ a;unfold cG at k3;rw[if_neg (by simp)]at k3;exact⟨m,bs,k1,k2,k3⟩
 constructor
 ·intro i H w ad ah β e d f al _;have a:H[b]?=some (.du s pos):=by simpa using al
  obtain⟨c,bs,k1,rfl,k3⟩:=key d f a;have j:pos<bs.size:=by simpa[iQ]using i
  have l:β.an b<w.heap.size:=(aT.1 k1).1;rw[Th];have r:(b3 e o).run P w=.ok (.value (.tuple #[.bool true,goInt pos,.int .i32 (g0 bs pos).1])) {w with heap:=w.heap.setIfInBounds (β.an b) (.stringIter bs (pos+(g0 bs pos).2))}:=by
   simp only[b3,g,c];refine ug ?_;simp[e9,getObj,setObj,gm,k1,gg,j]
  have aN:cw β H β (H.set b (.du (iQ bs) (pos+(g0 bs pos).2))):=oH a (.inr (.inr (.inr ⟨_,_,_,rfl,rfl⟩)));have q:=Jw (o':=.du (iQ bs) (pos+(g0 bs pos).2)) (ob:=.stringIter bs (pos+(g0 bs pos).2)) d a trivial trivial (fun _ h=>h) (fun _ h=>by cases h) l k3 aN
   ⟨bs,by simp[l],rfl,by unfold cG;rw[if_neg (by simp)];exact k3⟩ trivial
  refine⟨_,_,_,β,ad,r,.inl rfl,?_,?_,by simp[aE]⟩
  ·simpa only[newAt,hh,bc]using q
  ·simp only[aA,aD,bJ];exact⟨_,⟨_,_,rfl,rfl,_,_,rfl,rfl,_,_,rfl,rfl,rfl⟩,rfl⟩
 ·intro i;refine bw.same fun H w ad ah β e d f al=>?_;have a:H[b]?=some (.du s pos):=by simpa using al
  obtain⟨c,bs,k1,rfl,k3⟩:=key d f a;have j:¬pos<bs.size:=by simpa[iQ]using i
  refine⟨.tuple #[.bool false],?_,by simp only[aA,aD,bJ];exact⟨_,⟨_,_,rfl,rfl,rfl⟩,rfl⟩,by simp[aE]⟩;simp only[b3,g,c];refine eL ?_;simp[e9,getObj,gm,k1,gg,j]
theorem WC{T u:bV}{x:b1}{f:Nat}{fs:Array c6}{t g:PV}{F:bV}(h:o.op= .field T x f)(hk:kindOf P T= .agg u)(b:P.underlying T=some (.struct fs))(hx:ρ x= .p t)(hs:aL t= .agg u)(e:(bW t)[f]?=some g)(m:(jm P u)[f]?=some F)(q:kindOf P F=aL g):
 bw P o ρ base {v:=.p g}:=by
 refine bw.same fun H w ad ah β I C s _=>?_;have a:=(s x (by simp[h,fl])).1;rw[hx]at a;simp only[aA]at a;cases t<;>simp[aL]at hs;rename_i u' k;subst hs;simp only[bW]at e;simp only[aD]at a;obtain⟨l,d,k1,k2,k3⟩:=a;obtain⟨B,D,s1,s2,E,j,G,z⟩:=ui (P:=P) (T:=T) (u:=u') (n:=fs.size) (by unfold eX;rw[hk,b]);rw[b]at s1;cases s1;rw[k1]at j;cases j;have r:bM P w ad ⟨id,id⟩ [] l (k.map .p) d:=nr.2 k2;obtain⟨pre,c,post,e1,e2,e3,e4,e5,_⟩:=sM (f:=.p g) (i:=f) r (by simp[e]);simp only[br]at e5;obtain⟨A,g1,g2,g3,g4,g5⟩:=z f (by omega);rw[m]at g5;cases g5;obtain⟨y,y1,y2⟩:=uO q e5 (pre:=pre) (post:=post) (cs:=d.flatten.toArray) (by simpa using e1);refine⟨y,?_,by simpa only[aA]using y2,by simp[aE]⟩;simp only[b3,h,k3];refine eL ?_;rw[e2,<-g2]at y1;simp only[Instr.field,gi,b0 b,ge,g1];simp[asAgg,y1]
theorem TW{T u:bV}{n:Nat}{x k:b1}{O:ce}{i:Int}{a:List PV}{g:PV}{F:bV}(j:o.op= .index T x k)(A:gW P T=some (u,n))(hx:ρ x= .p (.st u a))(hi:ρ k= .p (.int O i))
 (z:0<=i)(J:i.toNat<n)(h:(jm P u)[i.toNat]?=some F)(E:a[i.toNat]?=some g)(G:kindOf P F=aL g):bw P o ρ base {v:=.p g}:=by
 refine bw.same fun H w ad ah β R Q t _=>?_;have b:=(t x (by simp[j,fl])).1;have d:=(t k (by simp[j,fl])).1;rw[hx]at b;rw[hi]at d;simp only[aA,aD]at b d;obtain⟨l,m,k1,k2,k3⟩:=b;obtain⟨e,s,hk,r,K⟩:=uy A;rw[k1]at r;cases r;have B:F=e:=by
  obtain⟨D,_,_⟩:=Be hk;have C:(P.info? u).map (fun i:TypeInfo=>i.desc)=some (.array n e):=by rw[D,<-AW,s]
  unfold jm at h;rw[C]at h;have q:(ha n e)[i.toNat]?=some F:=h;rw[List.getElem?_replicate,if_pos J]at q;exact(h4 q).symm
 subst B;have L:bM P w ad ⟨id,id⟩ [] (ha n (P.cellsOf F)) (a.map .p) m:=nr.2 k2;obtain⟨pre,c,post,e1,e2,e3,e4,e5,_⟩:=sM (f:=.p g) (i:=i.toNat) L (by simp[E]);simp only[br]at e5;obtain⟨y,y1,y2⟩:=uO G e5 (pre:=pre) (post:=post) (cs:=m.flatten.toArray) (by simpa using e1);have M:((ha n (P.cellsOf F)).take i.toNat).sum=i.toNat*P.cellsOf F:=by rw[List.take_replicate,Nat.min_eq_left (by omega),List.sum_replicate_nat]
 have N:(sizeOf F).run P w=.ok (P.cellsOf F) w:=by
  cases hi:P.info? F with
  |none=>simp[Program.cellsOf,hi]at K
  |some i=>simp[sizeOf,typeInfo,hi,Program.cellsOf]
 refine⟨y,?_,by simpa only[aA]using y2,by simp[aE]⟩;simp only[b3,j,k3,d];refine eL ?_;have I:i<(n:Int):=by omega
 rw[e2,M]at y1;simp only[Instr.index,asIntOf,gi,gj,b0 s,ge];simp[z,I,N,y1]
theorem GN{k:ce}{f:Bool}{ρc:b1->b4}:∀(l:List b1)(a n:Int),lJ k f (l.map ρ) a=some n->(∀x∈l,aA P w ad β H (ρ x) (ρc x))->
 ((l.map ρc).foldlM (if f then ea else dz) (.int k a)).run P w=.ok (.int k n) w
 |[],a,n,h,_=>by simp[lJ]at h;subst h;simp
 |x::l,a,n,h,g=>by
  simp only[hg]at h;unfold lJ at h
  split at h
  ·rename_i e;cases e
  ·rename_i j b r a' e;simp at e;obtain⟨e1,rfl⟩:=e
   split at h
   case isFalse=>simp at h
   rename_i hk;subst hk;have d:=g x (by simp);rw[e1]at d;simp only[aA,aD]at d;have c:=GN l _ n h (fun y i=>g y (by simp[i]));simp only[hg,List.foldlM_cons,gi,d];cases f with
   |true=>simp only[if_true,ea,gj,ge]at c⊢;exact c
   |false=>simp only[bv,if_false,dz,gj,ge]at c⊢;exact c
  ·simp at h
theorem Ij{c:Call}{isMax:Bool}{k:ce}{a n:Int}{r:List AV}(m:o.op= .call c)(hc:c.callee= .builtin (if isMax then .max else .min))(b:c.args.toList.map ρ= .p (.int k a)::r)(h:lJ k isMax r a=some n):
 bw P o ρ base {v:=.p (.int k n)}:=by
 obtain⟨x,l,i⟩:∃x l,c.args.toList=x::l:=by
  cases s:c.args.toList with
  |nil=>rw[s]at b;simp at b
  |cons x l=>exact⟨x,l,rfl⟩
 rw[i]at b;simp at b;obtain⟨hx,rfl⟩:=b;have g:c.args=(x::l).toArray:=by apply a1;simpa using i
 have j:∀y∈x::l,y∈o.op.operands:=by
  intro y f;rw[m];simp only[fl,em,hc,g];simpa using f
 refine bw.same fun H w ad ah β t u q _=>⟨.int k n,?_,by simp[aA,aD],by simp[aE]⟩
 have d:=(q x (j x (by simp))).1;rw[hx]at d;simp only[aA,aD]at d;have e:=GN (ρc:=t) l a n h (fun y f=>(q y (j y (by simp[f]))).1);simp only[b3,m,resolve,hc,g];cases isMax with
 |true=>
  simp only[if_true]at e⊢;simp[invoke,builtin,ee,d,e]
 |false=>
  simp only[bv,if_false]at e⊢;simp[invoke,builtin,ed,d,e]
theorem aHo{c:Call}{d x:b1}{sz b az off len:Nat}{k:AK}{f g:List AV}{H0:aj}(V:o.op= .call c)(hc:c.callee= .builtin .copy)(Q:c.args.toList=[d,x])(au:c.argTypes.size=2)(t:cC P (c.argTypes.getD 0 0)=some sz)
 (ac:ρ d=.sl b az sz off len)(hx:gJ H0 (ρ x)=some g)(ar:eM P sz g)(hk:k≠.frozen)(G:off+len<=f.length)(C:¬dd k f):
 bw P o ρ base {v:=.p (.int .i64 (min g.length len:Nat)),al:=(b,.arr k az sz f)::dB H0 (ρ x),aM:=[(b,.arr k az sz (f.take off++g.take (min g.length len)++f.drop (off+min g.length len)))]}:=by
 obtain⟨T,X,O⟩:∃T X,c.argTypes=#[T,X]:=by
  obtain⟨l,G⟩:∃l,l=c.argTypes.toList:=⟨_,rfl⟩
  have s:l.length=2:=by rw[G];simpa using au
  match l,s with
  |[a,b],_=>exact⟨a,b,by apply a1;simp[<-G]⟩
 have I:d∈o.op.operands/\x∈o.op.operands:=by
  have ab:c.args=#[d,x]:=by apply a1;simpa using Q
  rw[V];simp[fl,em,hc,ab]
 have e1:c.argTypes.getD 0 0=T:=by rw[O];rfl
 rw[e1]at t;obtain⟨e,i,t⟩:=jV t;intro H w ad ah β aa D M al _;have r:H[b]?=some (.arr k az sz f):=al (b,_) (by simp);have j:=(M d I.1).1;rw[ac]at j;simp only[aA,bO,bR]at j;obtain⟨_,_,j⟩:=j.2 k f r;have j:=j C;rcases D.cJ b _ r with hold|⟨cs,E,aF,rest,k1,k2,k3,k4,k5,k6,k7,k8⟩
 ·exact(C hold).elim
 have S:¬ad (β.an b)/\¬ah (β.an b):=by
  unfold cG at k7;rw[if_neg (by simpa using hk)]at k7;exact k7
 obtain⟨aC,aw,ax,ay,aB⟩:=uV (abi hx (fun p an=>al p (List.mem_cons_of_mem _ an))) D (M x I.2).1 (M x I.2).2 ar;obtain⟨n,U⟩:∃n,n=min g.length len:=⟨_,rfl⟩
 rw[<-U];have Z:=aB w rfl n (by omega);obtain⟨y,m,z,g1,g2,g3,g4,g5⟩:=jD aw 0 n (by omega);have av:y=[]:=by have:=(fJ g4).1;simpa using this
 subst av;have ai:aC.take n=m:=by
  have:=(fJ g2).1;rw[g1];simp at this⊢;rw[List.take_left' (by omega)]
 rw[ai]at Z;simp only[hP]at g2;obtain⟨a,N,q,f1,f2,f3,f4,f5⟩:=jD k2 off n (by omega);have J:m.flatten.length=n*sz:=by have:=(fJ g2).2;rw[this];congr 1;simp;omega
 have K:N.flatten.length=n*sz:=by have:=(fJ f2).2;rw[this];congr 1;simp;omega
 have R:cs.toList=a.flatten++N.flatten++(q.flatten++rest):=by rw[k3,f1];simp
 have Y:cs.size=a.flatten.length+N.flatten.length+(q.flatten++rest).length:=by
  have:=congrArg hH R;simp only[hb,a8]at this;rw[this,hb]
 have L:=cy P (β.an b) (off*sz) E m.flatten 0 cs w k1 (by rw[Y,f3,J,K];simp only[hU];exact hW _ _) (u5 g2);simp only[hU]at L;have aS:cs.toList.take (off*sz)++m.flatten++cs.toList.drop (off*sz+m.flatten.length)=a.flatten++m.flatten++(q.flatten++rest):=by
  rw[R,<-f3,J,<-K];exact AX _ _ _ _
 rw[aS]at L;have ap:(dq c.argTypes o.type #[aa d,aa x]).run P w=.ok (goInt n) (w.setRow (β.an b) (a.flatten++m.flatten++(q.flatten++rest)).toArray):=by
  rw[O,j];have ak:Nat.min g.length len=n:=U.symm;have aG:∀(p:Option Addr)(n c:Nat),ei (.slice p n c)=pure n:=fun _ _ _=>rfl;simp[dq,b0 t.gl,ay,ak,t.run,Z,L]
 have B:(f.take off++g.take n++f.drop (off+n)).length=f.length:=by simp;omega
 have aN:cw β H β (H.set b (.arr k az sz (f.take off++g.take n++f.drop (off+n)))):=oH r (.inr (.inl ⟨_,_,_,_,_,rfl,rfl,B.symm⟩));have aq:∀A,ad A->(w.setRow (β.an b) (a.flatten++m.flatten++(q.flatten++rest)).toArray).heap[A]?=w.heap[A]?:=fun A ag=>da w _ A _ (fun F=>S.1 (F▸ag));have hrefs:aX (aJ H) (f.take off++g.take n++f.drop (off+n)):=by
  have W:=cV.1 (D.refs b _ r);refine jC (jC ?_ ?_) ?_
  ·rw[cV];exact fun v u=>W v (hz u)
  ·rw[cV];exact fun v u=>cV.1 ax v (hz u)
  ·rw[cV];exact fun v u=>W v (hF u)
 have ae:=lM r (o:=.arr k az sz (f.take off++g.take n++f.drop (off+n))) (fun _ h=>h);have am:¬dd k (f.take off++g.take n++f.drop (off+n)):=fun h=>C ⟨h.1,by have s:=h.2;rw[<-hE]at s⊢;rw[B]at s;exact s⟩;have ao:=pR D r C (o':=.arr k az sz (f.take off++g.take n++f.drop (off+n))) am (fun _ h=>h) k1 (new:=(a.flatten++m.flatten++(q.flatten++rest)).toArray) S aN
  (.inr ⟨_,E,a++m++q,rest,db w _ _ _ E _ k1,by
   refine Row.mono (fun _ x=>x) aq aN hrefs (kJ.2 ⟨_,_,rfl,kJ.2 ⟨_,_,rfl,f4,g2⟩,f5⟩),by simp,by
   rw[<-k4,Y];simp only[hL,hb,J,K],by rw[B];exact k5,fun F=>by rw[B];exact k6 F,k7,(fun af=>(hk af).elim),k8.2⟩) (aX.mono ae _ hrefs)
 refine⟨_,_,_,β,ad,VA V hc Q ap,.inl rfl,?_,by simp[aA,aD,goInt],by simp[aE]⟩;simpa only[newAt,hh,bc]using ao
end
section
variable{P:bI}{w:b5}{ad ah:Nat->Prop}{β:Bd}{H:aj}
variable{o:Oper}{ρ:b1->AV}{base:Nat}
theorem yt{c:Call}{x:b1}(e:o.op=.call c){b:Builtin}(hc:c.callee=.builtin b)(d:c.args.toList=[x]):x∈o.op.operands/\c.args=#[x]:=by
 have a:c.args=#[x]:=by apply a1;simpa using d
 refine⟨?_,a⟩;rw[e];simp only[fl,em,hc,a];simp
theorem xi{T:bV}{a:AV}(h:gR P T a=true)(hs:(∃b v e i l,a=.sl b v e i l)\/a=.p .aO\/∃f c,a=.p (.cN f c)):∃e,P.underlying T=some (.slice e):=by
 rcases hs with⟨b,v,e,i,l,rfl⟩|rfl|⟨f,c,rfl⟩<;>
 ·simp only[gR]at h
  split at h
  ·rename_i e d;exact⟨e,d⟩
  ·simp at h
theorem aHn{c:Call}{x:b1}{n:Nat}{al:List (Nat×Obj)}{H0:aj}(y:o.op= .call c)(hc:c.callee= .builtin .cap)(A:c.args.toList=[x])(a:zu H0 (ρ x)=some (n,al))(m:gR P (c.argTypes.getD 0 0) (ρ x)=true)(F:0<c.argTypes.size):
 bw P o ρ base {v:=.p (.int .i64 n),al}/\(∀p∈al,H0[p.1]?=some p.2):=by
 obtain⟨q,B⟩:=yt y hc A;have C:c.argTypes[0]?=some (c.argTypes.getD 0 0):=by simp[be,F]
 generalize c.argTypes.getD 0 0=T at*
 have j:∀{H:aj}{w:b5}{ad:Nat->Prop}{β:Bd}{f:b1->b4},(∃p l,f x= .slice p l n)->(∃e,P.underlying T=some (.slice e))->
  ∃s,(b3 f o).run P w=.ok (.value s) w/\aA P w ad β H (.p (.int .i64 n)) s/\aE (aJ H) (.p (.int .i64 n)):=by
  rintro H w ad β f ⟨p,l,hx⟩ ⟨e,G⟩;refine⟨goInt n,?_,by simp[aA,aD,goInt],by simp[aE]⟩;simp only[b3,y,resolve,hc,B];simp[invoke,builtin,ej,C,hx,b0 G]
 unfold zu at a
 split at a
 ·rename_i hx;simp at a;obtain⟨rfl,rfl⟩:=a;refine⟨bw.same fun H w ad ah β f r g al=>j ?_ (xi m (.inr (.inl hx))),by simp⟩;have d:=(g x q).1;rw[hx]at d;simp only[aA,aD]at d;exact⟨_,_,d⟩
 ·rename_i i hx;simp at a;obtain⟨rfl,rfl⟩:=a;refine⟨bw.same fun H w ad ah β f r g al=>j ?_ (xi m (.inr (.inr ⟨_,_,hx⟩))),by simp⟩;have d:=(g x q).1;rw[hx]at d;simp only[aA,aD]at d;obtain⟨_,_,cap,_,_,_,_,_,z,_,_,_,k⟩:=d;exact⟨_,_,by rw[k,z trivial]⟩
 ·rename_i b az ai off len hx
  split at a
  case h_2=>simp at a
  rename_i L K i E
  split at a
  case isFalse=>simp at a
  rename_i D;obtain⟨rfl,rfl,hle⟩:=D;simp at a;obtain⟨rfl,rfl⟩:=a;refine⟨bw.same fun H w ad ah β f r g al=>j ?_ (xi m (.inl ⟨_,_,_,_,_,hx⟩)),by simpa using E⟩;have u:H[b]?=some (.arr .exact az ai i):=by simpa using al
  have d:=(g x q).1;rw[hx]at d;simp only[aA,bO,bR]at d;obtain⟨_,_,k⟩:=d.2 _ _ u;have t:¬dd .exact i:=fun h=>by simp[dd,AK.gr]at h
  rcases r.cJ b _ u with hold|⟨cs,I,J,rest,k1,k2,k3,k4,k5,k6,_⟩
  ·exact(t hold).elim
  exact⟨_,_,by rw[k t,k6 rfl]⟩
 ·simp at a
theorem SF{c:Call}{x:b1}(b:o.op= .call c)(hc:c.callee= .builtin .clear)(f:c.args.toList=[x])(hx:ρ x= .p .aO)(d:gR P (c.argTypes.getD 0 0) (ρ x)=true)(j:0<c.argTypes.size):
 bw P o ρ base {v:=.p (.aC [])}:=by
 obtain⟨i,g⟩:=yt b hc f;have h:c.argTypes[0]?=some (c.argTypes.getD 0 0):=by simp[be,j]
 generalize c.argTypes.getD 0 0=T at*;obtain⟨e,k⟩:=xi d (.inr (.inl hx));refine bw.same fun H w ad ah β n m l al=>?_;have a:=(l x i).1;rw[hx]at a;simp only[aA,aD]at a;refine⟨.tuple #[],?_,by simp[aA,aD,bJ],by simp[aE]⟩;simp only[b3,b,resolve,hc,g];simp[invoke,builtin,dl,h,a,b0 k]
theorem WD{c:Call}{x:b1}{sz b az off len:Nat}{k:AK}{d:List AV}{z:PV}(M:o.op= .call c)(hc:c.callee= .builtin .clear)(V:c.args.toList=[x])(aj:0<c.argTypes.size)(l:cC P (c.argTypes.getD 0 0)=some sz)
 (ak:ct P (dY P (c.argTypes.getD 0 0))=some z)(ar:bD P (aL z)=sz)(hx:ρ x=.sl b az sz off len)(hk:k≠.frozen)(ab:off+len<=d.length)(t:¬dd k d)(aq:0<len):
 bw P o ρ base {v:=.p (.aC []),al:=[(b,.arr k az sz d)],aM:=[(b,.arr k az sz (d.take off++ha len (.p z)++d.drop (off+len)))]}:=by
 obtain⟨ac,W⟩:=yt M hc V;have X:c.argTypes[0]?=some (c.argTypes.getD 0 0):=by simp[be,aj]
 obtain⟨e,i,l⟩:=jV l;obtain⟨au,r,z1,z2,z3,z4⟩:=pT ak;rw[l.pL]at z1;intro H w ad ah β U D ao al _;have j:H[b]?=some (.arr k az sz d):=al (b,_) (by simp);have g:=(ao x ac).1;rw[hx]at g;simp only[aA,bO,bR]at g;obtain⟨_,_,g⟩:=g.2 k d j;have g:=g t;rcases D.cJ b _ j with hold|⟨cs,u,ap,rest,k1,k2,k3,k4,k5,k6,k7,k8⟩
 ·exact(t hold).elim
 have K:¬ad (β.an b)/\¬ah (β.an b):=by
  unfold cG at k7;rw[if_neg (by simpa using hk)]at k7;exact k7
 have Q:=z3 w ad;have R:r.cells.size=sz:=by have:=(oG Q).1;simp at this;omega
 have an:r.cells.toList.length=sz:=by simpa using R
 have E:=xb (β:=β) (H:=H) Q len;rw[an]at E;obtain⟨m,L⟩:∃m,m=ha len r.cells.toList:=⟨_,rfl⟩
 rw[<-L]at E;have F:Row P w ad β H sz (ha len (.p z)) m:=by
  exact E
 obtain⟨a,I,f,f1,f2,f3,f4,f5⟩:=jD k2 off len ab;have B:m.flatten.length=len*sz:=by have:=(fJ F).2;rw[this];simp
 have C:I.flatten.length=len*sz:=by have:=(fJ f2).2;rw[this];congr 1;simp;omega
 have J:cs.toList=a.flatten++I.flatten++(f.flatten++rest):=by rw[k3,f1];simp
 have O:cs.size=a.flatten.length+I.flatten.length+(f.flatten++rest).length:=by
  have:=congrArg hH J;simp only[hb,a8]at this;rw[this,hb]
 have G:=cy P (β.an b) (off*sz) u m.flatten 0 cs w k1 (by rw[O,f3,B,C];simp only[hU];exact hW _ _) (u5 F);simp only[hU]at G;have aS:cs.toList.take (off*sz)++m.flatten++cs.toList.drop (off*sz+m.flatten.length)=a.flatten++m.flatten++(f.flatten++rest):=by
  rw[J,<-f3,B,<-C];exact AX _ _ _ _
 rw[aS]at G;have am:(eb r.cells len).toList=m.flatten:=by
  have:=A3 r.cells len (by rw[R];exact l.pos);rw[L,<-this];rfl
 have ag:(b3 U o).run P w=.ok (.value (.tuple #[])) (w.setRow (β.an b) (a.flatten++m.flatten++(f.flatten++rest)).toArray):=by
  obtain⟨S,rfl⟩:∃S,len=S+1:=⟨len-1,by omega⟩
  simp only[b3,M,resolve,hc,W];generalize c.argTypes.getD 0 0=T at*;simp only[gi,gj,ge,invoke,builtin,hu,hg,hm];have key:(dl c.argTypes o.type #[U x]).run P w=.ok (.tuple #[]) (w.setRow (β.an b) (a.flatten++m.flatten++(f.flatten++rest)).toArray):=by
   simp[dl,X,g,b0 l.gl,sx z1 z2,am,G]
  rw[key];rfl
 have s:(d.take off++ha len (AV.p z)++d.drop (off+len)).length=d.length:=by simp;omega
 have aN:cw β H β (H.set b (.arr k az sz (d.take off++ha len (.p z)++d.drop (off+len)))):=oH j (.inr (.inl ⟨_,_,_,_,_,rfl,rfl,s.symm⟩));have ai:∀q,ad q->(w.setRow (β.an b) (a.flatten++m.flatten++(f.flatten++rest)).toArray).heap[q]?=w.heap[q]?:=fun q aa=>da w _ q _ (fun A=>K.1 (A▸aa));have hrefs:aX (aJ H) (d.take off++ha len (AV.p z)++d.drop (off+len)):=by
  have N:=cV.1 (D.refs b _ j);refine jC (jC ?_ ?_) ?_
  ·rw[cV];exact fun v n=>N v (hz n)
  ·rw[cV];intro v n;rw[List.eq_of_mem_replicate n];simp[aE]
  ·rw[cV];exact fun v n=>N v (hF n)
 have Y:=lM j (o:=.arr k az sz (d.take off++ha len (.p z)++d.drop (off+len))) (fun _ h=>h);have ae:¬dd k (d.take off++ha len (AV.p z)++d.drop (off+len)):=fun h=>t ⟨h.1,by have y:=h.2;rw[<-hE]at y⊢;rw[s]at y;exact y⟩;have af:=pR D j t (o':=.arr k az sz (d.take off++ha len (AV.p z)++d.drop (off+len))) ae (fun _ h=>h) k1 (new:=(a.flatten++m.flatten++(f.flatten++rest)).toArray) K aN
  (.inr ⟨_,u,a++m++f,rest,db w _ _ _ u _ k1,by
   refine Row.mono (fun _ x=>x) ai aN hrefs (kJ.2 ⟨_,_,rfl,kJ.2 ⟨_,_,rfl,f4,F⟩,f5⟩),by simp,by
   rw[<-k4,O];simp only[hL,hb,B,C],by rw[s];exact k5,fun A=>by rw[s];exact k6 A,k7,(fun Z=>(hk Z).elim),k8.2⟩) (aX.mono Y _ hrefs)
 refine⟨_,_,_,β,ad,ag,.inl rfl,?_,by simp[aA,aD,bJ],by simp[aE]⟩;simpa only[newAt,hh,bc]using af
theorem A1{c:Call}{x:b1}{v:AV}{al:List (Nat×Obj)}{H0:aj}(l:o.op= .call c)(hc:c.callee= .builtin .unsafeSliceData)(n:c.args.toList=[x])
 (h:(ρ x=.p .aO/\v=.p .dH/\al=[])\/∃b az ai off len k a,ρ x=.sl b az ai off len/\H0[b]?=some (.arr k az ai a)/\al=[(b,.arr k az ai a)]/\((dd k a/\v=.p .dH)\/(0<len/\off+len<=a.length/\v=.bZ b az ai off []))):
 bw P o ρ base {v,al}:=by
 obtain⟨s,q⟩:=yt l hc n;refine bw.same fun H w ad ah β m t y r=>?_;obtain⟨d,i⟩:=y x s;have g:∀f,(ec c.argTypes o.type #[m x]).run P w=.ok f w->(b3 m o).run P w=.ok (.value f) w:=by
  intro f u;simp only[b3,l,resolve,hc,q];simp only[gi,gj,ge,invoke,builtin,hu,hg,hm];rw[u];rfl
 rcases h with⟨hx,rfl,rfl⟩|⟨b,az,ai,off,len,k,a,hx,D,rfl,h⟩
 ·rw[hx]at d;simp only[aA,aD]at d;exact⟨_,g _ (by rw[d];exact Lib.run_unsafeSliceData_nil w _ _ _ _),by simp[aA,aD],by simp[aE]⟩
 ·have j:H[b]?=some (.arr k az ai a):=by simpa using r
  rw[hx]at d i;simp only[aA,bO,bR]at d;obtain⟨_,v2,v3⟩:=d.2 k a j;rcases h with⟨e,rfl⟩|⟨E,hle,rfl⟩
  ·exact⟨_,g _ (by rw[v2 e];exact Lib.run_unsafeSliceData_nil w _ _ _ _),by simp[aA,aD],by simp[aE]⟩
  ·have e:¬dd k a:=fun h=>by rw[h.2]at hle;simp at hle;omega
   rcases t.cJ b _ j with hold|⟨cs,z,A,rest,k1,k2,k3,k4,k5,_⟩
   ·exact(e hold).elim
   refine⟨_,g _ (by rw[v3 e];exact Lib.run_unsafeSliceData_row w _ _ _ _ _ (by omega)),?_,by simpa only[aE]using i⟩;simp only[aA,bO,bR];refine⟨by simp[Value.oneCell'],β.an b,off*ai,0,by simp,rfl,fun F B C _=>⟨rfl,by simp⟩⟩
theorem VU(w:b5)(a:Addr)(n:Nat):(w.freeze a n).os=w.os/\(w.freeze a n).output=w.output:=by
 unfold g7
 first|exact⟨rfl,rfl⟩|(split<;>exact⟨rfl,rfl⟩)
theorem VN{w':b5}(j:bU P w ad β H ah){b:Nat}{o:Obj}(i:H[b]?=some o)(u:o.live)(g:¬ad (β.an b)/\¬ah (β.an b))(B:∀L,o≠ .loop L)(C:w'.heap.size=w.heap.size)
 (hs:∀k,k≠β.an b->w'.heap[k]?=w.heap[k]?)(A:w'.os=w.os/\w'.output=w.output:=by exact⟨rfl,rfl⟩):bY P ah ad w β H ad w' β (H.set b .dead):=by
 have n:b<H.length:=(g9.1 i).1;have c:∀(x:Nat)(a:Obj),(H.set b Obj.dead)[x]?=some a->a≠.dead->H[x]?=some a:=by
  intro x a hx p
  by_cases l:b=x
  ·subst l;rw[hd n]at hx;cases hx;exact(p rfl).elim
  ·rwa [hA l]at hx
 have aN:cw β H β (H.set b .dead):=by
  refine⟨?_,?_,?_,?_,?_⟩
  ·rintro x _ ⟨f,t,h⟩;exact⟨⟨f,t,c _ _ h (by simp)⟩,rfl⟩
  ·rintro x _ ⟨f,t,h⟩;exact⟨⟨f,t,c _ _ h (by simp)⟩,rfl⟩
  ·rintro x _ ⟨f,t,h⟩;exact⟨⟨f,t,c _ _ h (by simp)⟩,rfl⟩
  ·intro x az ai k v _ h;exact⟨k,v,c _ _ h (by simp),hR _,Iff.rfl,fun _=>⟨rfl,rfl⟩⟩
  ·rintro x _ ⟨L,h⟩;exact⟨⟨L,c _ _ h (by simp)⟩,rfl⟩
 have m:bY P ah ad w β H ad w β (H.set b .dead):=
  bY.set j n (fun _ _=>⟨rfl,rfl⟩) (fun _ x=>x) (fun _ x=>.inl x) j.bQ (hR _) (fun _ _ _=>rfl) (fun h=>h.elim) aN trivial trivial (fun _ _ _ _=>trivial) (fun L r=>by rw[i]at r;cases r;exact(B L rfl).elim)
 have hx:=j.mr i u;have y:=m.rel.Jd hx (fun x a q d s=>by
  have p:a≠.dead:=fun e=>by rw[e]at d;exact d
  have l:x=b:=j.inj x b a o (c _ _ q p) i d u (fun hi=>g.1 (s▸hi)) s;subst l;rw[hd n]at q;cases q;exact d)
 have z:=y.shut (w':=w') (Prot0:=ah) (fun _ h=>.inl h) (R:=fun k=>k=β.an b) (fun x e=>⟨.inr e,e▸g.1⟩) C (fun k hk=>hs k hk);refine⟨fun _ h=>h,fun _ h=>.inl h,⟨by omega,fun k hk=>hs k (fun e=>?_),A⟩,aN,z,m.eP,m.loop⟩;rcases hk with hk|hk
 ·exact g.2 (e▸hk)
 ·exact g.1 (e▸hk)
theorem BE:∀{d:List AV}{l:List Nat}{b:List (List b4)},bytesOf d=some l->Row P w ad β H 1 d b->b.flatten=l.map (fun c=>Value.int .u8 (c:Nat))/\l.length=d.length/\∀c∈l,c<256
 |[],l,b,h,a=>by
  simp[bytesOf]at h;subst h;rw[ij]at a;subst a;simp
 |v::d,l,b,h,a=>by
  unfold bytesOf at h
  split at h
  ·rename_i e;cases e
  ·rename_i c r e;simp at e;obtain⟨rfl,rfl⟩:=e
   split at h
   case isFalse=>simp at h
   rename_i hc
   split at h
   case h_2=>simp at h
   rename_i m i;simp at h;subst h;rw[qc]at a;obtain⟨j,cs,rfl,f,k,g⟩:=a;obtain⟨i1,i2,i3⟩:=BE i g;simp only[br,aY]at f;subst f;refine⟨by simp[i1];omega,by simp[i2],?_⟩;intro x hx;rcases hj.1 hx with rfl|hx
   ·omega
   ·exact i3 x hx
  ·simp at h
theorem SS{S D e:bV}{x:b1}{b az off len:Nat}{k:AK}{d:List AV}{l:List Nat}(r:o.op= .convert S D x)(B:P.underlying S=some (.slice e))(y:P.underlying D=some .string)(A:P.underlying e=some (.int .u8))(hx:ρ x= .sl b az 1 off len)
 (M:0<len)(j:off+len<=d.length)(E:bytesOf ((d.drop off).take len)=some l):bw P o ρ base {v:=.p (.str l),al:=[(b,.arr k az 1 d)]}:=by
 refine bw.same fun H w ad ah β N G J al=>?_;have q:H[b]?=some (.arr k az 1 d):=by simpa using al
 have f:=(J x (by simp[r,fl])).1;rw[hx]at f;simp only[aA,bO,bR]at f;have n:¬dd k d:=fun h=>by rw[h.2]at j;simp at j;omega
 have f:=(f.2 _ _ q).2.2 n;rcases G.cJ b _ q with hold|⟨cs,K,L,rest,k1,k2,k3,k4,k5,k6,k7,k8⟩
 ·exact(n hold).elim
 obtain⟨a,m,z,g1,g2,g3,g4,g5⟩:=jD k2 off len j;obtain⟨s,t,u⟩:=BE E g2;have F:l.length=len:=by rw[t];simp;omega
 have C:cs.toList=a.flatten++(l.map (fun c=>Value.int .u8 (c:Nat))++(z.flatten++rest)):=by
  rw[k3,g1];simp only[hK,hD,s]
 have I:=run_convert_bytes_arg (P:=P) w S e B A (β.an b) (off*1) len (β.cap b-off) (l.map fun c:Nat=>(c:Int)) (by simpa using F) (fun i hi=>by
  have g:i<l.length:=by omega
  have:cs[off*1+i]?=some (.int .u8 (l[i]:Nat)):=by
   rw[<-a7,C,List.getElem?_append_right (by omega),g3,Nat.add_sub_cancel_left,ht (by simpa using g),hC,he g];rfl
  rw[List.getD_eq_getElem?_getD,hC,he g];simp only[g8,k1];simpa using this) D y
 refine⟨.string (strOfNums (l.map fun c:Nat=>(c:Int))),?_,?_,by simp[aE]⟩
 ·simp only[b3,r,f];exact eL I
 ·simp only[aA,aD];refine⟨_,rfl,?_⟩;rw[strOfNums_data,hw,hw]
  conv=>lhs;rw[<-hQ l]
  refine hB fun c hc=>?_;have:=u c hc;simp[h6];omega
theorem Sh{c:Call}{x y:b1}{b az n:Nat}{d:List AV}{l:List Nat}{T X:bV}(F:o.op= .call c)(hc:c.callee= .builtin .unsafeString)(N:c.args.toList=[x,y])(ab:c.argTypes=#[T,X])(hx:ρ x= .bZ b az 1 0 [])(ae:ρ y= .p (.int .i64 n))
 (ai:0<n)(C:n<=d.length)(aj:n<=9223372036854775807)(M:P.underlying T=some (.pointer Gl.u8))(ac:P.cellsOf Gl.u8=1)(W:bytesOf (d.take n)=some l):
 bw P o ρ base {v:=.p (.str l),al:=[(b,.arr .bytes az 1 d)],aM:=[(b,.dead)]}:=by
 have s:c.args=#[x,y]:=by apply a1;simpa using N
 have D:x∈o.op.operands/\y∈o.op.operands:=by
  rw[F];simp[fl,em,hc,s]
 intro H w ad ah β r G I al _;have q:H[b]?=some (.arr .bytes az 1 d):=by simpa using al
 have e:=(I x D.1).1;have f:=(I y D.2).1;rw[hx]at e;rw[ae]at f;simp only[aA,bO,bR,aD]at e f;have i:¬dd .bytes d:=fun h=>by rw[h.2]at C;simp at C;omega
 obtain⟨_,an,off,ak,Y,E,e⟩:=e;simp[fV]at E;subst E;obtain⟨rfl,rfl⟩:=e _ _ q i;rcases G.cJ b _ q with hold|⟨cs,af,ag,rest,k1,k2,k3,k4,k5,k6,k7,k8⟩
 ·exact(i hold).elim
 obtain rfl:=k8.2 rfl;have U:¬ad (β.an b)/\¬ah (β.an b):=by
  unfold cG at k7;rw[if_neg (by simp)]at k7;exact k7
 obtain⟨a,m,z,g1,g2,g3,g4,g5⟩:=jD k2 0 n (by omega);have O:a=[]:=by have:=(fJ g4).1;simpa using this
 subst O;rw[hP]at g2;obtain⟨J,K,L⟩:=BE W g2;obtain⟨bs,u⟩:∃bs:List UInt8,bs=l.map h7:=⟨_,rfl⟩
 have g:bs.length=n:=by rw[u];simp[K];omega
 have t:bs.map (·.toNat)=l:=by
  rw[u,hw]
  conv=>rhs;rw[<-hQ l]
  refine hB fun c hc=>?_;have:=L c hc;simp[h6];omega
 have A:cs.toList=bs.map (fun c=>Value.int .u8 c.toNat)++(z.flatten++rest):=by
  rw[k3,g1];simp only[List.nil_append,hK,hD,J];congr 1;rw[<-t,hw];rfl
 have aa:=Lib.run_unsafeString_row (P:=P) w T X o.type Gl.u8 M ac (β.an b) cs.size (by simp[World.shape?,k1]) bs (fun h=>by rw[h]at g;simp at g;omega) (by
  have:=congrArg hH A;simp only[a8,hb,List.length_map]at this;omega) (by omega) (fun j v B=>by
  have V:j<bs.length:=(g9.1 B).1;rw[j0];have:cs[j]?=some (.int .u8 v.toNat):=by
   rw[<-a7,A,ht (by simpa using V),hC,B];rfl
  simp[g8,k1,this])
 have Q:(b3 r o).run P w=.ok (.value (.string ⟨bs.toArray⟩)) (w.freeze ⟨β.an b,0,none⟩ bs.length):=by
  simp only[b3,F,resolve,hc,s];simp only[gi,gj,ge,invoke,builtin,hu,hg,hm];have key:(dp c.argTypes o.type #[r x,r y]).run P w=.ok (.string ⟨bs.toArray⟩) (w.freeze ⟨β.an b,0,none⟩ bs.length):=by
   rw[ab,Y,f,<-g];simpa using aa
  rw[key];rfl
 have S:∀k,k≠β.an b->(w.freeze ⟨β.an b,0,none⟩ bs.length).heap[k]?=w.heap[k]?:=by
  intro k hk;unfold g7
  split
  ·rfl
  ·simp[Array.getElem?_modify,Ne.symm hk]
 have R:(w.freeze ⟨β.an b,0,none⟩ bs.length).heap.size=w.heap.size:=by
  unfold g7
  split<;>simp
 have Z:=VN G q i U (fun _ h=>by cases h) R S (VU _ _ _);refine⟨_,_,_,β,ad,Q,.inl rfl,?_,?_,by simp[aE]⟩
 ·simpa only[newAt,hh,bc]using Z
 ·simp only[aA,aD];exact⟨_,rfl,by simpa using t.symm⟩
theorem Sd{c:Call}{x y:b1}{T X:bV}(f:o.op= .call c)(hc:c.callee= .builtin .unsafeString)(i:c.args.toList=[x,y])(j:c.argTypes=#[T,X])(hx:ρ x= .p .dH)(k:ρ y= .p (.int .i64 0)):
 bw P o ρ base {v:=.p (.str [])}:=by
 have d:c.args=#[x,y]:=by apply a1;simpa using i
 have e:x∈o.op.operands/\y∈o.op.operands:=by
  rw[f];simp[fl,em,hc,d]
 refine bw.same fun H w ad ah β h l g al=>?_;have a:=(g x e.1).1;have b:=(g y e.2).1;rw[hx]at a;rw[k]at b;simp only[aA,aD]at a b;refine⟨.string .empty,?_,by simp only[aA,aD];exact⟨_,rfl,rfl⟩,by simp[aE]⟩;simp only[b3,f,resolve,hc,d];simp only[gi,gj,ge,invoke,builtin,hu,hg,hm];have key:(dp c.argTypes o.type #[h x,h y]).run P w=.ok (.string .empty) w:=by
  rw[j,a,b];exact Lib.run_unsafeString_none w _ _ _ _
 rw[key];rfl
end
section
variable{P:bI}
theorem C1{c:Call}{ρ:b1->AV}{x:AV}(a:c.args.toList.map ρ=[x]):∃y,c.args.toList=[y]/\ρ y=x:=by
 match b:c.args.toList with
 |[]=>rw[b]at a;simp at a
 |[y]=>rw[b]at a;simp at a;exact⟨y,rfl,a⟩
 |_::_::_=>rw[b]at a;simp at a
theorem H8{c:Call}(h:c.argTypes.size=2):∃T X,c.argTypes=#[T,X]:=by
 obtain⟨l,d⟩:∃l,l=c.argTypes.toList:=⟨_,rfl⟩
 have e:l.length=2:=by rw[d];simpa using h
 match l,e with
 |[a,b],_=>exact⟨a,b,by apply a1;simp[<-d]⟩
theorem oA(ag:b2->Bool):lC P ag:=by
 intro o ρ H K _ h;unfold fu at h;have plain:∀{e:aW},K e->bw P o ρ H.length e->e.al=[]->e.aM=[]->∃e,K e/\bw P o ρ H.length e/\(∀p∈e.al,H[p.1]?=some p.2)/\(∀p∈e.aM,p.1<H.length/\p.2≠.hole):=by
  intro e w A B I;exact⟨e,w,A,by simp[B],by simp[I]⟩
 cases q:o.op<;>simp only[q]at h
 case move x=>exact plain h (P5 (.inl q)) rfl rfl
 case assign x=>exact plain h (P5 (.inr q)) rfl rfl
 case pick c a b=>
  split at h
  ·rename_i t hc;exact plain h (aHt q hc) rfl rfl
  ·exact h.elim
 case alloc T=>
  split at h
  ·rename_i z M;exact plain h.2.2.2 (WG q M h.2.2.1) rfl rfl
  ·exact h.elim
 case box T x=>exact plain h.2.2.2 (aHm q h.2.1 h.2.2.1) rfl rfl
 case build T parts=>
  split at h
  ·rename_i u z hk M
   split at h
   ·rename_i l G;obtain⟨w,A,B⟩:=h;exact plain B (WE q hk M G w A) rfl rfl
   ·exact h.elim
  ·exact h.elim
 case buildSlice T n parts=>
  split at h
  ·rename_i sz z U M;obtain⟨w,A,B,I⟩:=h;exact plain I (SG q U M w A B) rfl rfl
  ·exact h.elim
 case load T a=>exact aHr q h
 case store T a x=>exact Xk q h
 case binOp b T x y aC=>
  obtain⟨v,w,A⟩:=aHl (base:=H.length) q h;exact⟨_,w,A,mV,by simp⟩
 case unOp u T x=>
  split at h
  ·rename_i b hx;exact plain h (DW q hx (.inl ⟨rfl,_,rfl,rfl⟩)) rfl rfl
  ·rename_i k n hx;exact plain h (DW q hx (.inr (.inl ⟨rfl,_,_,rfl,rfl⟩))) rfl rfl
  ·rename_i k n hx;exact plain h (DW q hx (.inr (.inr ⟨rfl,_,_,rfl,rfl⟩))) rfl rfl
  ·exact h.elim
 case convert S D x=>
  split at h
  ·rename_i d k k0 n Z Y hx;exact plain h (Uj q ⟨_,Z⟩ Y hx) rfl rfl
  ·rename_i d s Z Y hx;exact plain h (Ui q ⟨_,Z⟩ Y hx) rfl rfl
  ·rename_i e b az ai off len Z Y hx
   split at h
   case h_2=>exact h.elim
   rename_i k ae ac R C;obtain⟨rfl,rfl,rfl,U,af,hle,h⟩:=h
   split at h
   case h_2=>exact h.elim
   rename_i l G;exact⟨_,h,SS q Z Y U hx af hle G,by simpa using C,by simp⟩
  ·exact h.elim
 case extract t i=>
  split at h
  ·rename_i vs an
   split at h
   ·rename_i v ao;exact plain h (HW q (.inr ⟨_,an,rfl⟩) (by simp[ao])) rfl rfl
   ·exact h.elim
  ·rename_i vs an
   split at h
   ·rename_i v ao;exact plain h (HW q (.inl an) ao) rfl rfl
   ·exact h.elim
  ·exact h.elim
 case fieldAddr T a f=>
  obtain⟨e,w,A,B,I⟩:=SR (base:=H.length) q h;exact plain w A B I
 case indexAddr T x i=>
  obtain⟨e,w,A,B,I⟩:=SQ (base:=H.length) q h;exact⟨e,w,A,B,by simp[I]⟩
 case field T x f=>
  split at h
  ·rename_i u fs t hk aw hx;obtain⟨w,h⟩:=h
   split at h
   ·rename_i g F ak ah;exact plain h.2 (WC q hk aw hx w ak ah h.1) rfl rfl
   ·exact h.elim
  ·exact h.elim
 case index T x i=>
  split at h
  ·rename_i s k n hx hi;obtain⟨w,A,B,I⟩:=h;exact plain I (TV q hx hi w A B) rfl rfl
  ·rename_i u R k n hx hi
   split at h
   ·rename_i u' m F g N ah ak;obtain⟨rfl,af,aa,hk,h⟩:=h;exact plain h (TW q N hx hi af aa ah ak hk) rfl rfl
   ·exact h.elim
  ·exact h.elim
 case makeFunc fn fi ca=>
  cases fn<;>simp only at h
  case func f=>
   obtain⟨m1,m2,m3⟩:=TU (ρ:=ρ) (base:=H.length) q
   split at h
   ·split at h
    ·rename_i a b al aM j aj;obtain⟨q1,ab,aB⟩:=m3 H a b al aM j aj;exact⟨_,h,q1,ab,aB⟩
    ·exact h.elim
   ·split at h
    ·rename_i a b j aj;exact plain h (m1 a b j aj) rfl rfl
    ·exact plain h m2 rfl rfl
 case makeSlice T l c=>
  split at h
  ·rename_i sz z aD c' U M G hc;obtain⟨w,A,rfl,I,O⟩:=h;exact plain O (SP q U M G hc w A I) rfl rfl
  ·exact h.elim
 case slice T x lo hi ax=>
  cases ax with
  |none=>
   obtain⟨e,w,A,B,I⟩:=WA (base:=H.length) q h;exact⟨e,w,A,B,by simp[I]⟩
  |some m=>
   obtain⟨e,w,A,B,I⟩:=Vo (base:=H.length) q h;exact⟨e,w,A,B,by simp[I]⟩
 case makeMap T r=>
  cases r<;>simp only at h;exact plain h (Uh q) rfl rfl
 case lookup T x i ok=>
  split at h
  case h_2=>exact h.elim
  rename_i ap E key N hi
  split at h
  case h_2=>exact h.elim
  rename_i z M;obtain⟨hk,h⟩:=h
  split at h
  ·rename_i hx;exact plain h (ux (r:=none) (es:=[]) q N M hi hk rfl (.inl ⟨hx,rfl⟩)) rfl rfl
  ·rename_i R hx
   split at h
   ·rename_i v G;exact plain h (ux (r:=some v) q N M hi hk G (.inr (.inl hx))) rfl rfl
   ·rename_i G;exact plain h (ux (r:=none) q N M hi hk G (.inr (.inl hx))) rfl rfl
   ·exact h.elim
  ·rename_i b hx
   split at h
   case h_2=>exact h.elim
   rename_i fz R C
   split at h
   ·rename_i v G;exact⟨_,h,ux (r:=some v) q N M hi hk G (.inr (.inr ⟨b,fz,hx,by simp⟩)),by simpa using C,by simp⟩
   ·rename_i G;exact⟨_,h,ux (r:=none) q N M hi hk G (.inr (.inr ⟨b,fz,hx,by simp⟩)),by simpa using C,by simp⟩
   ·exact h.elim
  ·exact h.elim
 case mapUpdate T m k x=>
  split at h
  case h_2=>exact h.elim
  rename_i ap E b key v N am hk hx;obtain⟨hf,h⟩:=h
  split at h
  case h_2=>exact h.elim
  rename_i R C
  split at h
  case h_2=>exact h.elim
  rename_i r G;exact⟨_,h,GD (.inl q) N am hk hx hf G,by simpa using C,by simpa using(g9.1 C).1⟩
 case insert T m k x=>
  split at h
  case h_2=>exact h.elim
  rename_i ap E b key v N am hk hx;obtain⟨hf,h⟩:=h
  split at h
  case h_2=>exact h.elim
  rename_i R C
  split at h
  case h_2=>exact h.elim
  rename_i r G;exact⟨_,h,GD (.inr q) N am hk hx hf G,by simpa using C,by simpa using(g9.1 C).1⟩
 case range T x=>
  split at h
  ·rename_i s hx;exact plain h.2 (WB q hx h.1) rfl rfl
  ·exact h.elim
 case next it isStr=>
  cases isStr<;>simp only at h
  split at h
  case h_2=>exact h.elim
  rename_i b hx
  split at h
  case h_2=>exact h.elim
  rename_i s pos C;obtain⟨ay,aA⟩:=aHs (P:=P) (base:=H.length) (s:=s) (pos:=pos) q hx
  split at h
  ·rename_i V;exact⟨_,h,ay V,by simpa using C,by simpa using(g9.1 C).1⟩
  ·rename_i V;exact⟨_,h,aA V,by simpa using C,by simp⟩
 case nilCheck x=>
  split at h
  ·rename_i b p hx;exact plain h (AZ q (.inl ⟨b,p,hx⟩)) rfl rfl
  ·rename_i b v e i p hx;exact plain h (AZ q (.inr (.inl ⟨b,v,e,i,p,hx⟩))) rfl rfl
  ·rename_i t hx;exact plain h (AZ q (.inr (.inr ⟨t,hx⟩))) rfl rfl
  ·exact h.elim
 case call c=>
  split at h
  case h_2=>exact h.elim
  rename_i b hc
  split at h
  ·rename_i x j
   split at h
   case h_2=>exact h.elim
   rename_i n al G;obtain⟨w,A,B⟩:=h;obtain⟨y,L,rfl⟩:∃y,c.args.toList=[y]/\ρ y=x:=by
    match J:c.args.toList with
    |[]=>rw[J]at j;simp at j
    |[y]=>rw[J]at j;simp at j;exact⟨y,rfl,j⟩
    |_::_::_=>rw[J]at j;simp at j
   obtain⟨q1,ab⟩:=aHq (P:=P) (base:=H.length) q hc L G w A;exact⟨_,B,q1,ab,by simp⟩
  ·rename_i s x j;obtain⟨y,z,L,rfl,rfl⟩:∃y z,c.args.toList=[y,z]/\ρ y=s/\ρ z=x:=by
    match J:c.args.toList with
    |[]=>rw[J]at j;simp at j
    |[y]=>rw[J]at j;simp at j
    |[y,z]=>rw[J]at j;simp at j;exact⟨y,z,rfl,j.1,j.2⟩
    |_::_::_::_=>rw[J]at j;simp at j
   exact Vq q hc L h.1 h.2
  ·rename_i k a r j
   split at h
   ·rename_i n aa;exact plain h (Ij (isMax:=false) q hc j aa) rfl rfl
   ·exact h.elim
  ·rename_i k a r j
   split at h
   ·rename_i n aa;exact plain h (Ij (isMax:=true) q hc j aa) rfl rfl
   ·exact h.elim
  ·rename_i d x j;obtain⟨y,z,L,au,rfl⟩:∃y z,c.args.toList=[y,z]/\ρ y=d/\ρ z=x:=by
    match J:c.args.toList with
    |[]=>rw[J]at j;simp at j
    |[y]=>rw[J]at j;simp at j
    |[y,z]=>rw[J]at j;simp at j;exact⟨y,z,rfl,j.1,j.2⟩
    |_::_::_::_=>rw[J]at j;simp at j
   split at h
   case h_2=>exact h.elim
   rename_i sz b az ai off len aE U hx;obtain⟨rfl,w,A,h⟩:=h
   split at h
   case h_2=>exact h.elim
   rename_i k ae ac R C;obtain⟨rfl,rfl,B,I,O,W⟩:=h;refine⟨_,W,aHo q hc L A U au hx w B I O,?_,by simpa using(g9.1 C).1⟩;intro p V;rcases hj.1 V with rfl|V
   ·exact C
   ·exact mV p V
  ·rename_i x j;obtain⟨y,L,rfl⟩:=C1 j
   split at h
   case h_2=>exact h.elim
   rename_i n al G;obtain⟨w,A,B⟩:=h;obtain⟨q1,ab⟩:=aHn (P:=P) (base:=H.length) q hc L G w A;exact⟨_,B,q1,ab,by simp⟩
  ·rename_i x j;obtain⟨y,L,Q⟩:=C1 j
   split at h
   ·rw[<-Q]at h;exact plain h.2.2 (SF q hc L Q h.1 h.2.1) rfl rfl
   ·split at h
    ·rename_i b az ai off len sz z k ae ac R U M C;obtain⟨rfl,rfl,rfl,w,A,B,I,O,W,ar⟩:=h;exact⟨_,ar,WD q hc L O U M w Q A B I W,by simpa using C,by simpa using(g9.1 C).1⟩
    ·exact h.elim
   ·exact h.elim
  ·rename_i x j;obtain⟨y,L,Q⟩:=C1 j
   split at h
   ·exact plain h (A1 (H0:=H) q hc L (.inl ⟨Q,rfl,rfl⟩)) rfl rfl
   ·split at h
    ·rename_i b az ai off len k ae ac R C;obtain⟨rfl,rfl,h⟩:=h;rcases h with⟨w,A,B⟩|⟨w,A,B⟩
     ·exact⟨_,B,A1 q hc L (.inr ⟨_,_,_,_,_,_,_,Q,C,rfl,.inl ⟨⟨w,A⟩,rfl⟩⟩),by simpa using C,by simp⟩
     ·exact⟨_,B,A1 q hc L (.inr ⟨_,_,_,_,_,_,_,Q,C,rfl,.inr ⟨w,A,rfl⟩⟩),by simpa using C,by simp⟩
    ·exact h.elim
   ·exact h.elim
  ·rename_i x n j;obtain⟨y,z,L,Q,aq⟩:∃y z,c.args.toList=[y,z]/\ρ y=x/\ρ z=.p (.int .i64 n):=by
    match J:c.args.toList with
    |[]=>rw[J]at j;simp at j
    |[y]=>rw[J]at j;simp at j
    |[y,z]=>rw[J]at j;simp at j;exact⟨y,z,rfl,j.1,j.2⟩
    |_::_::_::_=>rw[J]at j;simp at j
   split at h
   ·obtain⟨rfl,w,A⟩:=h;obtain⟨T,X,ad⟩:=H8 w;exact plain A (Sd q hc L ad Q aq) rfl rfl
   ·split at h
    ·rename_i b az ai i ae ac R C;obtain⟨rfl,rfl,rfl,rfl,w,A,B,I,O,W,h⟩:=h;obtain⟨T,X,ad⟩:=H8 I
     split at h
     ·rename_i l G;obtain⟨m,rfl⟩:=Int.eq_ofNat_of_zero_le (by omega:0<=n);simp only[Int.toNat_natCast]at A G;have N:P.underlying T=some (.pointer Gl.u8):=by
       rw[ad]at O;simp only[ptrTo]at O
       split at O
       ·rename_i e av;simp at O;rw[<-O];exact av
       ·simp at O
      exact⟨_,h,Sh q hc L ad Q aq (by omega) A (by omega) N W G,by simpa using C,by simpa using(g9.1 C).1⟩
     ·exact h.elim
    ·exact h.elim
   ·exact h.elim
  ·exact h.elim
end
section
variable{P:bI}{ag:b2->Bool}{n:Nat}
theorem I3{o o':Obj}(h:lV o=some o'):lV o'=some o':=by
 unfold lV at h
 split at h
 ·simp at h;subst h;rfl
 ·rename_i k az ai b
  split at h
  ·simp at h
  ·split at h
   ·rename_i l a;simp at h;subst h;simp[lV,AK.gr,a]
   ·simp at h
 ·simp at h;subst h;rfl
 ·simp at h
theorem ZP{w:b5}{ad ah:Nat->Prop}{β:Bd}{H:aj}(d:bU P w ad β H ah){b:Nat}{o o':Obj}(c:H[b]?=some o)(hf:lV o=some o'):
 ∃aF,bY P ah ad w β H aF w β (H.set b o')/\aF (β.an b):=by
 unfold lV at hf
 split at hf
 ·rename_i fz t;simp at hf;subst hf;obtain⟨cs,T,g,i,j,m⟩:=d.cJ b _ c;have aN:cw β H β (H.set b (.box true (.p t))):=rW c (.inl ⟨_,_,_,rfl,rfl⟩);exact sd d c trivial (o':=.box true (.p t)) trivial (fun _ h=>h) (fun _ h=>by cases h) aN j.s8
   (fun aF hi l=>⟨cs,T,g,br.mono hi (fun _ _=>rfl) aN _ _ (by simp[aE]) i,l,fun _=>trivial,m.2⟩) (by simp[Obj.refs,aE])
 ·rename_i k az ai f
  split at hf
  ·simp at hf
  ·rename_i q
   split at hf
   case h_2=>simp at hf
   rename_i C z;simp at hf;subst hf;have r:=lK z;rcases d.cJ b _ c with hold|⟨cs,T,u,rest,g,i,j,m,x,A,y,B⟩
   ·exact(q hold).elim
   have s:¬dd .frozen f:=fun h=>by cases h.1
   have aN:cw β H β (H.set b (.arr .frozen az ai f)):=rW c (.inr (.inl ⟨_,_,_,_,_,rfl,rfl,q,s⟩));exact sd d c q (o':=.arr .frozen az ai f) s (fun _ h=>h) (fun _ h=>by cases h) aN y.s8
    (fun aF hi l=>.inr ⟨cs,T,u,rest,g,bM.mono hi (fun _ _=>rfl) aN _ _ _ (d.refs b _ c) i,j,m,x,(fun h=>by cases h),l,fun _ e n=>(by rw[r]at n;simp at n;obtain⟨a,_,rfl⟩:=n;trivial),fun h=>by cases h⟩)
    (by rw[r];exact iO _ _)
 ·rename_i fz f;simp at hf;subst hf;obtain⟨v,clock,g,i,j⟩:=d.cJ b _ c;have aN:cw β H β (H.set b (.map true f)):=rW c (.inr (.inr ⟨_,_,_,rfl,rfl⟩));exact sd d c trivial (o':=.map true f) trivial (fun _ h=>h) (fun _ h=>by cases h) aN j.s8
   (fun aF hi l=>⟨v,clock,g,cH.mono hi (fun _ _=>rfl) _ _ i,l⟩) trivial
 ·simp at hf
theorem Hj{w:b5}{ah:Nat->Prop}{β:Bd}{H0:aj}:∀(bs:List Nat){al aM:List (Nat×Obj)}{H:aj}{ad:Nat->Prop},kP H0 bs=some (al,aM)->bU P w ad β H ah->
 (∀p∈al,∃c,H[p.1]?=some c/\lV c=lV p.2)->∃aF,bY P ah ad w β H aF w β (bc H aM)/\∀b∈bs,aF (β.an b)
 |[],al,aM,H,ad,h,a,_=>by
  simp[kP]at h;obtain⟨rfl,rfl⟩:=h;exact⟨ad,bY.refl a,by simp⟩
 |b::bs,al,aM,H,ad,h,a,hc=>by
  simp only[kP]at h
  split at h
  case h_2=>simp at h
  rename_i o q s r g
  split at h
  case h_2=>simp at h
  rename_i o' hf;simp at h;obtain⟨rfl,rfl⟩:=h;obtain⟨c,g1,g2⟩:=hc (b,o) (by simp);simp only at g1 g2;rw[hf]at g2;obtain⟨n,e,l⟩:=ZP a g1 g2;have i:b<H.length:=(g9.1 g1).1;obtain⟨f,q1,m⟩:=Hj bs g e.rel (by
   intro p j;obtain⟨k,k1,k2⟩:=hc p (by simp[j])
   by_cases d:b=p.1
   ·rw[<-d]at k1⊢;rw[g1]at k1;cases k1;refine⟨o',by rw[hd i],?_⟩;rw[<-k2,g2,I3 g2]
   ·exact⟨k,by rw[hA d];exact k1,k2⟩)
  refine⟨f,by simpa only[bc]using e.trans q1,?_⟩;intro x hx;rcases hj.1 hx with rfl|hx
  ·exact q1.bQ _ l
  ·exact m x hx
theorem I4{H0:aj}:∀(bs:List Nat){al aM:List (Nat×Obj)},kP H0 bs=some (al,aM)->(∀p∈al,H0[p.1]?=some p.2)/\(∀p∈aM,p.1<H0.length/\p.2≠.hole)/\al.map (·.1)=bs
 |[],al,aM,h=>by
  simp[kP]at h;obtain⟨rfl,rfl⟩:=h;simp
 |b::bs,al,aM,h=>by
  simp only[kP]at h
  split at h
  case h_2=>simp at h
  rename_i o f g d e
  split at h
  case h_2=>simp at h
  rename_i o' hf;simp at h;obtain⟨rfl,rfl⟩:=h;obtain⟨i1,i2,i3⟩:=I4 bs e;refine⟨?_,?_,by simp[i3]⟩
  ·intro p a;rcases hj.1 a with rfl|a
   ·exact d
   ·exact i1 p a
  ·intro p a;rcases hj.1 a with rfl|a
   ·refine⟨(g9.1 d).1,fun c=>?_⟩;simp only at c;have:=I3 hf;rw[c]at this;simp[lV]at this
   ·exact i2 p a
theorem W9{w:b5}{ad aF ah:Nat->Prop}{β:Bd}{H0 H:aj}{a:AV}{A:PV}{bs:List Nat}{v:b4}(d:ma H0 a=some (A,bs))(al:∀b∈bs,H[b]?=H0[b]?)(n:bU P w ad β H ah)(e:aA P w ad β H a v)
 (hi:∀k,ad k->aF k)(r:∀b∈bs,aF (β.an b)):aD P w aF A v:=by
 cases a with
 |p t=>
  simp[ma]at d;obtain⟨rfl,rfl⟩:=d;simp only[aA]at e;exact aD.mono hi (fun _ _=>rfl) _ _ e
 |sl b az ai off len=>
  simp only[ma]at d
  split at d
  case h_2=>simp at d
  rename_i k U N g l
  split at d
  case isFalse=>simp at d
  rename_i G;obtain⟨rfl,rfl,S⟩:=G
  split at d
  ·simp at d
  ·rename_i y
   split at d
   case h_2=>simp at d
   rename_i z J;simp at d;obtain⟨rfl,rfl⟩:=d;have x:=lK J;have f:H[b]?=some (.arr k az ai g):=by rw[al b (by simp)];exact l
   have j:=r b (by simp);simp only[aA,bO,bR]at e;obtain⟨v1,v2,v3⟩:=e.2 k g f;rcases n.cJ b _ f with hold|⟨cs,T,B,rest,i,h,q,E,O,F,Q,R⟩
   ·exact(y hold).elim
   rw[v3 y];have K:Row P w aF β H ai g B:=bM.mono hi (fun _ _=>rfl) (cw.refl _ _) _ _ _ (n.refs b _ f) h;obtain⟨a,m,c,e1,e2,e3,e4,e5⟩:=jD K off len v1;rw[x,AU,lL]at e2;have u:((z.drop off).take len).length=len:=by
    have:g.length=z.length:=by rw[x];simp
    simp;omega
   simp only[aD];refine⟨β.an b,off*ai,β.cap b-off,ai,m,e2,fun _=>j,?_,?_,?_,none,.inl rfl,?_⟩
   ·rw[<-e3];exact lF i (post:=c.flatten++rest) (by rw[q,e1];simp)
   ·intro hf;simp at hf;rw[u,F hf.1];omega
   ·rw[u];omega
   ·rw[u]
 |ptr b path=>
  simp only[ma]at d
  split at d
  case h_2=>simp at d
  rename_i fz t l
  split at d
  case h_2=>simp at d
  rename_i s hs;simp at d;obtain⟨rfl,rfl⟩:=d;have f:H[b]?=some (.box fz (.p t)):=by rw[al b (by simp)];exact l
  have j:=r b (by simp);simp only[aA,bO,bR]at e;obtain⟨_,M,L,o,rfl,I,e⟩:=e;obtain⟨rfl,rfl⟩:=e (.inl ⟨fz,_,f⟩);obtain⟨cs,T,i,h,q,E⟩:=n.cJ b _ f;have D:aY P w aF t cs.toList:=by simp only[br]at h;exact aY.mono hi (fun _ _=>rfl) _ _ h
  obtain⟨pre,xs,post,e1,e2,e3⟩:=yc D hs I;simp only[aD];refine⟨β.an b,L,xs,e3,j,?_,rfl⟩;rw[<-e2];exact lF i e1
 |map b=>
  simp only[ma]at d
  split at d
  case h_2=>simp at d
  rename_i fz g l;simp at d;obtain⟨rfl,rfl⟩:=d;have f:H[b]?=some (.map fz g):=by rw[al b (by simp)];exact l
  have j:=r b (by simp);simp only[aA,bO,bR]at e;have e:=e.2.1 ⟨fz,g,f⟩;obtain⟨C,clock,i,h,q⟩:=n.cJ b _ f;simp only[aD];exact⟨β.an b,C,clock,j,i,cH.mono hi (fun _ _=>rfl) _ _ h,e⟩
 |bZ=>simp[ma]at d
 |func=>simp[ma]at d
 |st=>simp[ma]at d
 |aC=>simp[ma]at d
theorem IH{w:b5}{ad aF ah:Nat->Prop}{β:Bd}{H0 H:aj}:∀{l:List AV}{vs:List PV}{bs:List Nat}{d:List b4},nN H0 l=some (vs,bs)->(∀b∈bs,H[b]?=H0[b]?)->bU P w ad β H ah->bF P w ad β H l d->
 (∀k,ad k->aF k)->(∀b∈bs,aF (β.an b))->bJ P w aF vs d
 |[],vs,bs,d,h,_,_,c,_,_=>by
  simp[nN]at h;obtain⟨rfl,rfl⟩:=h;simp only[bF]at c;simpa[bJ]using c
 |a::l,vs,bs,d,h,al,f,c,hi,e=>by
  simp only[nN]at h
  split at h
  case h_2=>simp at h
  rename_i v m o n g i;simp at h;obtain⟨rfl,rfl⟩:=h;simp only[bF]at c;obtain⟨y,j,rfl,k1,k2⟩:=c;simp only[bJ];exact⟨y,j,rfl,W9 g (fun b hx=>al b (by simp[hx])) f k1 hi (fun b hx=>e b (by simp[hx])),IH i (fun b hx=>al b (by simp[hx])) f k2 hi (fun b hx=>e b (by simp[hx]))⟩
def Act(P:bI)(n:Nat)(o:Oper)(s:St)(e:aW):Prop:=
 ∀(fr:cc)(k:List Item)(cs:List cc)(a:Array Oper)(i:Nat)(r:List Nat)(b:List ck)(ah ad:Nat->Prop)(β:Bd)(s':St)(t:Array b4)(w:b5),
  a[i]?=some o->fv o (yielded a t)=true->iS n o=true->cK P n ah ad β s' t w->(∀x∈o.op.operands,ev s'.env x=ev s.env x)->
  (∀p∈e.al,s'.heap[p.1]?=some p.2)->(∀j,j<e.aS.length->s'.heap[s.heap.length+j]?=some .hole)->
  ∃aF aK c w',dk P (lone (bB fr t b (.inRegion a (i::r)::k)) cs w) (lone (bB fr c b (.inRegion a r::k)) cs w')/\
   cK P n ah aF aK ⟨put o.dst e.v s'.env,bc s'.heap (e.aM++newAt s.heap.length e.aS)⟩ c w'/\∀N,dI N ah ad w β s'.heap ah aF w' aK (bc s'.heap (e.aM++newAt s.heap.length e.aS))
theorem Tp{o:Oper}{K:aW->Prop}{s:St}(h:jg P ag o s K)(c:Call):o.op≠.defer c:=by
 intro hc;unfold jg at h;rw[hc]at h;simp[fu,hc]at h
theorem MX{e e':Env}{l:List b1}(h:∀x∈l,ev e' x=ev e x):l.map (ev e')=l.map (ev e):=hB h
theorem J2{o:Oper}{f:b1}{H:Array b1}{ak:Array bV}{g:b2}{fi ca:List AV}{K:aW->Prop}{s:St}
 (W:o.op=.call {callee:=.value f,args:=H,argTypes:=ak})
 (hf:(ev s.env f=.func g fi ca)\/(∃a b,ev s.env f=.p (.func g a b)/\fi=a.map .p/\ca=b.map .p))
 (h:gU P g (fi++H.toList.map (ev s.env)++ca) s.heap K):
 ∃e,K e/\(∀p∈e.al,s.heap[p.1]?=some p.2)/\(∀p∈e.aM,p.1<s.heap.length/\p.2≠.hole)/\Act P n o s e:=by
 have Q:∀c,o.op≠.defer c:=fun c hc=>by rw[W]at hc;cases hc
 have ab:f∈o.op.operands/\∀x∈H.toList,x∈o.op.operands:=by
  rw[W];simp[fl,em];exact fun x hx=>.inr hx
 have M:∀{ah ad:Nat->Prop}{β:Bd}{s':St}{t:Array b4}{w:b5},cK P n ah ad β s' t w->(∀x∈o.op.operands,ev s'.env x=ev s.env x)->
  ∃m:List b4,bF P w ad β s'.heap (fi++H.toList.map (ev s.env)++ca) m/\aX (aJ s'.heap) (fi++H.toList.map (ev s.env)++ca)/\(b3 (fx t) o).run P w=(callFunc g m.toArray).run P w:=by
  intro ah ad β s' t w d A;have I:=nF d f;rw[A f ab.1]at I;obtain⟨G,F,aw,av,aq,aB,az⟩:∃G F:List b4,fx t f=.func (.func g) G.toArray F.toArray/\bF P w ad β s'.heap fi G/\bF P w ad β s'.heap ca F/\aX (aJ s'.heap) fi/\aX (aJ s'.heap) ca:=by
   rcases hf with hf|⟨a,b,hf,rfl,rfl⟩
   ·rw[hf]at I;simp only[aA,aE]at I;obtain⟨⟨G,F,y,z,D⟩,S,ao⟩:=I;exact⟨G,F,D,y,z,S,ao⟩
   ·rw[hf]at I;simp only[aA,aD]at I;obtain⟨⟨G,F,y,z,D⟩,_⟩:=I;exact⟨G,F,D,jq.2 y,jq.2 z,iO _ _,iO _ _⟩
  obtain⟨Y,Z⟩:=uF d H.toList;rw[MX (fun x hx=>A x (ab.2 x hx))]at Y Z;refine⟨G++H.toList.map (fx t)++F,pV (pV av Y) aq,jC (jC aB Z) az,?_⟩;simp only[b3,W,resolve,aw,Deferred.ofValue,gi,gj,ge,invoke];congr 2;simp
 have pure:∀(fr:cc)(k:List Item)(cs:List cc)(l:Array Oper)(i:Nat)(r:List Nat)(u:List ck)(ah ad E:Nat->Prop)(β:Bd)(s':St)(t:Array b4)(w:b5)(H1:aj)(m:List b4)(vs:List PV)(v:PV),
  l[i]?=some o->fv o (yielded l t)=true->iS n o=true->cK P n ah ad β s' t w->(b3 (fx t) o).run P w=(callFunc g m.toArray).run P w->
  bY P ah ad w β s'.heap E w β H1->bJ P w E vs m->au P g vs v->
  ∃aF aK ai w',dk P (lone (bB fr t u (.inRegion l (i::r)::k)) cs w) (lone (bB fr ai u (.inRegion l r::k)) cs w')/\
   cK P n ah aF aK ⟨put o.dst (.p v) s'.env,H1⟩ ai w'/\∀N,dI N ah ad w β s'.heap ah aF w' aK H1:=by
  intro fr k cs l i r u ah ad E β s' t w H1 m vs v q C B d O j af L;rcases L with⟨ar,L⟩|L
  ·rw[ar]at O;obtain⟨e,w',am,⟨R,aF,U,g1,g2,g3,g4,g5,an,g6⟩,aN,ax,V⟩:=L w E _ j.rel.bQ j.rel.ir af (bB fr t u (.inRegion l (i::r)::k)::cs);subst U;have ae:=j.trans (j.rel.later g1 g2 g3 g4 g5 an);refine⟨aF,β,_,w',?_,d.put B ae (by simpa[aA]using g6) (by simp[aE]),fun _=>ae.eZ⟩;rw[<-mX q];exact(gt (uq q C Q O)).trans (gx aN (.one (cx V)))
  ·obtain⟨R,y,z⟩:=L w E _ af;rw[y]at O;exact⟨E,β,_,w,.one (rZ q C Q O (.inl rfl)),d.put B j (by simpa[aA]using z) (by simp[aE]),fun _=>j.eZ⟩
 rcases h with⟨vs,v,y,z,D⟩|⟨vs,bs,al,aM,v,y,z,D,S⟩|⟨e,X,ac,T⟩|⟨al,v,ap,ay,T⟩
 ·refine⟨_,D,by simp,by simp,?_⟩;intro fr k cs l i r u ah ad β s' t w q C B d A _ _;obtain⟨m,c1,c2,c3⟩:=M d A;rw[y]at c1;simp only[newAt,hh,bc];exact pure fr k cs l i r u ah ad ad β s' t w s'.heap m vs v q C B d c3 (bY.refl d.heap) (jq.1 c1) z
 ·obtain⟨i1,i2,i3⟩:=I4 bs z;refine⟨_,S,i1,i2,?_⟩;intro fr k cs l i r u ah ad β s' t w q C B d A J _;obtain⟨m,c1,c2,c3⟩:=M d A;obtain⟨E,ag,aC⟩:=Hj bs z d.heap (fun p j=>⟨p.2,J p j,rfl⟩);simp only[newAt,hh];refine pure fr k cs l i r u ah ad E β s' t w _ m vs v q C B d c3 ag (IH y ?_ d.heap c1 ag.bQ aC) D;intro b aa;rw[<-i3]at aa;obtain⟨p,j,rfl⟩:=List.mem_map.1 aa;rw[J p j,i1 p j]
 ·refine⟨_,T,ac.1,ac.2,?_⟩;intro fr k cs l i r u ah ad β s' t w q C B d A J aS;obtain⟨m,c1,c2,c3⟩:=M d A;rw[X.1]at c3;obtain⟨x,w',am,⟨R,aK,aF,U,g1,g2,g3⟩,aN,ax,V⟩:=X.2 s'.heap w ad ah β _ d.heap c1 c2 J aS (bB fr t u (.inRegion l (i::r)::k)::cs);subst U;refine⟨aF,aK,_,w',?_,d.put B g1 g2 g3,fun _=>g1.eZ⟩;rw[<-mX q];exact(gt (uq q C Q c3)).trans (gx aN (.one (cx V)))
 ·refine⟨_,T,ay,by simp,?_⟩;intro fr k cs l i r u ah ad β s' t w q C B d A J aS;obtain⟨m,c1,c2,c3⟩:=M d A;obtain⟨R,y,D⟩:=ap s'.heap w ad ah β _ d.heap c1 c2 J;rw[y]at c3;have j:=bY.refl d.heap;simp only[newAt,hh,bc];exact⟨ad,β,_,w,.one (rZ q C Q c3 (.inl rfl)),d.put B j (by simpa[aA]using D) (by simp[aE]),fun _=>j.eZ⟩
theorem U9{o:Oper}{f:b1}{a:Array b1}{y:Array bV}{b:Nat}{e:aW}{s:St}
 (j:o.op=.call {callee:=.value f,args:=a,argTypes:=y})(hf:ev s.env f=.map b)(hY:nO P b (a.toList.map (ev s.env)) s.heap.length e):Act P n o s e:=by
 have G:∀c,o.op≠.defer c:=fun c hc=>by rw[j]at hc;cases hc
 have u:f∈o.op.operands/\∀x∈a.toList,x∈o.op.operands:=by
  rw[j];simp[fl,em];exact fun x hx=>.inr hx
 intro fr k cs I i r z ah ad β s' t w v H C d m E aS;have h:=(nF d f).1;rw[m f u.1,hf]at h;simp only[aA,bO,bR]at h;obtain⟨l,p⟩:=uF d a.toList;rw[MX (fun x hx=>m x (u.2 x hx))]at l p;obtain⟨F,g,tmps,assign,body,A,B⟩:=hY s'.heap w ad ah β _ d.heap l p E aS;have D:=h.2.2 F;have q:(b3 (fx t) o).run P w=(Instr.yield (β.an b) (a.toList.map (fx t)).toArray).run P w:=by
  simp only[b3,j,resolve,D,Deferred.ofValue,gi,gj,ge,invoke];congr 2;exact a1 (by simp)
 rw[A]at q;obtain⟨J,w',aK,aF,g1,g2,g3,g4⟩:=B (bB fr t z (.inRegion I (i::r)::k)) cs;refine⟨aF,aK,_,w',?_,d.put C g2 g3 g4,fun _=>g2.eZ⟩;rw[<-mX v];exact(gt (HO v H G q)).trans g1
theorem V5(m:lC P ag){o:Oper}{K:aW->Prop}{s:St}(h:jg P ag o s K):
 ∃e,K e/\(∀p∈e.al,s.heap[p.1]?=some p.2)/\(∀p∈e.aM,p.1<s.heap.length/\p.2≠.hole)/\Act P n o s e:=by
 have E:=Tp h;have q:fu P ag o (ev s.env) s.heap K->∃e,K e/\(∀p∈e.al,s.heap[p.1]?=some p.2)/\(∀p∈e.aM,p.1<s.heap.length/\p.2≠.hole)/\Act P n o s e:=by
  intro h;obtain⟨e,a,hs,al,aM⟩:=m o _ _ _ (fun v=>rfl) h;refine⟨e,a,al,aM,?_⟩;intro fr k cs L i r J ah ad β s' t w F G C d B D aS;obtain⟨nx,I,w',aK,aF,u,y,j,z,A⟩:=hs s'.heap w ad ah β (fx t) d.heap (fun x hx=>by rw[<-B x hx];exact nF d x) D aS;exact⟨aF,aK,_,w',.one (rZ F G E u y),d.put C j z A,fun _=>j.eZ⟩
 unfold jg at h
 split at h
 ·rename_i f args H c
  split at h
  ·rename_i g fi ca hf;exact J2 c (.inr ⟨fi,ca,hf,rfl,rfl⟩) h
  ·rename_i g fi ca hf;exact J2 c (.inl hf) h
  ·rename_i b hf;obtain⟨e,hY,l,a⟩:=h;exact⟨e,a,l.1,l.2,U9 c hf hY⟩
  ·exact h.elim
 ·exact q h
end
section
variable{P:bI}{ag:b2->Bool}{n:Nat}
def looks(a:Array Oper)(o:Oper):List Tmp:=
 (o.op.operands.toList.filterMap fun x=>match x with
  | .tmp t=>some t
  |_=>none)++(match o.guard with
  |some (j,_)=>(match(a[j]?).bind (·.dst)with
   |some d=>[d]
   |none=>[])
  |none=>[])
def qg(c:Array Oper)(a b:Oper):Bool:=
 (match a.dst with
  |some d=>(looks c b).contains d||b.dst==some d
  |none=>false)||
 (match b.dst with
  |some d=>(looks c a).contains d
  |none=>false)
def fit(_:Nat)(a:Array Oper):Bool:=
 (hv a.size).all fun j=>match a[j]? with
  |some o=>o.after.toList.all (fun e=>!fw .any e||decide (e.on<j))&&
   (hv j).all (fun i=>match a[i]? with
    |some u=>!qg a u o||reach a a.size i j
    |none=>true)
  |none=>true
structure Dg(P:bI)(n:Nat)(ops:Array Oper)(o:Oper)(s:St)(e:aW):Prop where
 al:∀p∈e.al,s.heap[p.1]?=some p.2
 aM:∀p∈e.aM,p.1<s.heap.length
 act:(∀(t:Array b4)(s':St)(ah ad:Nat->Prop)(β:Bd)(w:b5),cK P n ah ad β s' t w->(∀x∈looks ops o,aQ s'.env x=aQ s.env x)->fv o (yielded ops t)=true)/\Act P n o s e\/
  (∀(t:Array b4)(s':St)(ah ad:Nat->Prop)(β:Bd)(w:b5),cK P n ah ad β s' t w->(∀x∈looks ops o,aQ s'.env x=aQ s.env x)->fv o (yielded ops t)=false)/\e={v:=.p (.aC [])}
inductive Tr(P:bI)(n:Nat)(ops:Array Oper):List Oper->Nat->St->List (St×aW)->St->Prop
 |nil (i:Nat) (s:St):Tr P n ops [] i s [] s
 |cons {o:Oper} {r:List Oper} {i:Nat} {s s':St} {e:aW} {es:List (St×aW)}:Dg P n ops o s e->Tr P n ops r (i+1) (e.app o.dst s) es s'->Tr P n ops (o::r) i s ((s,e)::es) s'
def oO(i:Nat):List (St×aW)->List Touch->List Touch
 |[],acc=>acc
 |(s,e)::r,acc=>oO (i+1) r (fP i s.heap.length e acc)
theorem AR{a:Array Oper}{o:Oper}{j:Nat}{f:Bool}(c:o.guard=some (j,f)){e e':Env}(h:∀x∈looks a o,aQ e' x=aQ e x):guardOf a j e'=guardOf a j e:=by
 unfold guardOf;cases b:(a[j]?).bind (·.dst)with
 |none=>rfl
 |some d=>
  simp only;exact h d (by simp[looks,c,b])
theorem Jq(B:lC P ag){a:Array Oper}(q:∀o∈a.toList,iS n o=true):∀(l:List Oper)(i:Nat)(d:List Touch)(s:St){K:St->Prop},(∀o∈l,o∈a.toList)->fW P ag a l i d K s->
 ∃c s',Tr P n a l i s c s'/\K s'/\iy a (oO i c d)=true
 |[],i,d,s,K,_,h=>⟨[],s,.nil i s,h.2,h.1⟩
 |o::l,i,d,s,K,F,h=>by
  have C:=fun d s(h:fW P ag a l (i+1) d K s)=>Jq B q l (i+1) d s (fun o G=>F o (by simp[G])) h
  have skip:fW P ag a l (i+1) d K ⟨put o.dst (.p (.aC [])) s.env,s.heap⟩->(∀(t:Array b4)(s':St)(ah ad:Nat->Prop)(β:Bd)(w:b5),cK P n ah ad β s' t w->(∀x∈looks a o,aQ s'.env x=aQ s.env x)->fv o (yielded a t)=false)->
   ∃c s',Tr P n a (o::l) i s c s'/\K s'/\iy a (oO i c d)=true:=by
   intro hk A;obtain⟨c,s',r,u,y⟩:=C _ _ hk;refine⟨(s,{v:=.p (.aC [])})::c,s',.cons ⟨by simp,by simp,.inr ⟨A,rfl⟩⟩ ?_,u,by simpa[oO,fP]using y⟩;simpa[aW.app,bc]using r
  have go:jg P ag o s (fun e=>fW P ag a l (i+1) (fP i s.heap.length e d) K (e.app o.dst s))->(∀(t:Array b4)(s':St)(ah ad:Nat->Prop)(β:Bd)(w:b5),cK P n ah ad β s' t w->(∀x∈looks a o,aQ s'.env x=aQ s.env x)->fv o (yielded a t)=true)->
   ∃c s',Tr P n a (o::l) i s c s'/\K s'/\iy a (oO i c d)=true:=by
   intro hk A;obtain⟨e,D,al,aM,E⟩:=V5 (n:=n) B hk;obtain⟨c,s',r,u,y⟩:=C _ _ D;exact⟨(s,e)::c,s',.cons ⟨al,fun p H=>(aM p H).1,.inl ⟨A,E⟩⟩ r,u,by simpa[oO]using y⟩
  simp only[fW]at h
  split at h
  ·rename_i f;exact go h (fun _ _ _ _ _ _ _ _=>by simp[fv,f])
  ·rename_i j I f
   split at h
   ·rename_i b m
    split at h
    ·rename_i z;refine go h (fun t s' ah ad β w k g=>?_);obtain⟨g1,g2⟩:=xw k q j;rw[AR f g]at g1;simp[fv,f,g1 _ m,z]
    ·rename_i z;refine skip h (fun t s' ah ad β w k g=>?_);obtain⟨g1,g2⟩:=xw k q j;rw[AR f g]at g1;simp[fv,f,g1 _ m,z]
   ·rename_i m;refine skip h (fun t s' ah ad β w k g=>?_);obtain⟨g1,g2⟩:=xw k q j;rw[AR f g]at g2;simp[fv,f,g2 m]
   ·exact h.elim
def vw(a:Array Oper)(D:Nat->Prop):Prop:=∀j o,a[j]?=some o->D j->∀e∈o.after,fw .any e=true->D e.on
theorem A6{c:Array Oper}{D:Nat->Prop}(hc:vw c D):∀(f i j:Nat),reach c f i j=true->(∀o,c[j]?=some o->∀e∈o.after,fw .any e=true->D e.on)->D i
 |0,_,_,h,_=>by simp[reach]at h
 |f+1,i,j,h,d=>by
  simp only[reach]at h
  split at h
  case h_2=>simp at h
  rename_i o g;simp only[bp,ho,bo,beq_iff_eq,decide_eq_true_eq]at h;rcases h with⟨e,b,a,rfl⟩|⟨e,b,⟨a,_⟩,k⟩
  ·exact d o g e (by simpa using b) a
  ·have m:=d o g e (by simpa using b) a;exact A6 hc f i e.on k (fun o' p e' n l=>hc _ o' p m e' n l)
end
section
variable{P:bI}{ag:b2->Bool}{n:Nat}
theorem so(a:Nat)(l:List Obj):(newAt a l).map (·.1)=nD a l:=by
 induction l generalizing a with
 |nil=>rfl
 |cons o l b=>simp[newAt,nD,b]
theorem GO{a b:Nat}{l:List Obj}:b∈nD a l↔a<=b/\b<a+l.length:=by
 induction l generalizing a with
 |nil=>simp[nD]
 |cons o l c=>simp only[nD,hj,c,List.length_cons];omega
theorem xH{l:List (Nat×Obj)}{b:Nat}(h:b∉l.map (·.1)):∀H:aj,(bc H l)[b]?=H[b]?:=by
 induction l with
 |nil=>intro H;rfl
 |cons p l a=>
  obtain⟨c,o⟩:=p;intro H;simp only[hg,hj,not_or]at h;simp only[bc];rw[a h.2,hA (Ne.symm h.1)]
theorem UH{l:List (Nat×Obj)}{b:Nat}(h:b∈l.map (·.1)):∀H H':aj,H.length=H'.length->(bc H l)[b]?=(bc H' l)[b]?:=by
 induction l with
 |nil=>simp at h
 |cons p l f=>
  obtain⟨c,o⟩:=p;intro H H' d;simp only[bc]
  by_cases a:b∈l.map (·.1)
  ·exact f a _ _ (by simp[d])
  ·rw[xH a,xH a];simp only[hg,hj]at h;have:b=c:=h.resolve_right a;subst this
   by_cases e:b<H.length
   ·rw[hd e,hd (by omega)]
   ·rw[hy (by simp;omega),hy (by simp;omega)]
def c8(es:List (St×aW))(s':St)(k:Nat):St:=match es[k]? with
 |some (s,_)=>s
 |none=>s'
def fy(es:List (St×aW))(k:Nat):aW:=match es[k]? with
 |some (_,e)=>e
 |none=>{v:=.p .undef}
theorem Tr.at{a:Array Oper}:∀{l:List Oper}{i:Nat}{s s':St}{es:List (St×aW)},Tr P n a l i s es s'->es.length=l.length/\c8 es s' 0=s/\
 ∀k o,l[k]?=some o->Dg P n a o (c8 es s' k) (fy es k)/\c8 es s' (k+1)=(fy es k).app o.dst (c8 es s' k)
 |_,_,_,_,_,.nil i s=>⟨rfl,rfl,fun k o h=>by simp at h⟩
 |_,_,_,_,_,.cons (o:=o) (r:=r) (i:=i) (s:=s) (s':=s') (e:=e) (es:=es) hi d=>by
  obtain⟨h1,b,c⟩:=d.at;refine⟨by simp[h1],rfl,fun k o' hk=>?_⟩;cases k with
  |zero=>
   simp at hk;subst hk;refine⟨by simpa[c8,fy]using hi,?_⟩;have:c8 ((s,e)::es) s' (0+1)=c8 es s' 0:=by simp[c8]
   rw[this,b];simp[c8,fy]
  |succ k=>
   have e1:∀m,c8 ((s,e)::es) s' (m+1)=c8 es s' m:=fun m=>by simp[c8]
   have e2:fy ((s,e)::es) (k+1)=fy es k:=by simp[fy]
   rw[e1,e1,e2];exact c k o' (by simpa using hk)
theorem TC(u:Touch)(i:Nat):jd u ⟨i,[],[]⟩=false:=by
 simp[jd]
theorem Te(i b:Nat)(e:aW)(a:List Touch):(fP i b e a=a/\gL i b e=⟨i,[],[]⟩)\/fP i b e a=gL i b e::a:=by
 unfold fP
 split
 ·rename_i c d f;exact .inl ⟨rfl,by simp[gL,c,d,f,nD]⟩
 ·exact .inr rfl
theorem HN{c:Array Oper}:∀(g:List (St×aW))(i:Nat)(d:List Touch),iy c (oO i g d)=true->iy c d=true/\
 (∀u∈d,∀b s e,g[b]?=some (s,e)->jd u (gL (i+b) s.heap.length e)=true->reach c c.size u.i (i+b)=true)/\
 (∀a b s e f e2,a<b->g[a]?=some (s,e)->g[b]?=some (f,e2)->jd (gL (i+a) s.heap.length e) (gL (i+b) f.heap.length e2)=true->reach c c.size (i+a) (i+b)=true)
 |[],i,d,h=>⟨h,by simp,by simp⟩
 |(s,e)::g,i,d,h=>by
  simp only[oO]at h;obtain⟨j,m,r⟩:=HN g (i+1) _ h
  have key:iy c d=true/\(∀u∈d,jd u (gL i s.heap.length e)=true->reach c c.size u.i i=true)/\(∀u∈d,∀b s e,g[b]?=some (s,e)->jd u (gL (i+1+b) s.heap.length e)=true->reach c c.size u.i (i+1+b)=true)/\
   (∀b f e2,g[b]?=some (f,e2)->jd (gL i s.heap.length e) (gL (i+1+b) f.heap.length e2)=true->reach c c.size i (i+1+b)=true):=by
   rcases Te i s.heap.length e d with⟨o,q⟩|o
   ·rw[o]at j m;refine⟨j,fun u _ hc=>?_,m,fun b f e2 _ hc=>?_⟩
    ·rw[q,TC]at hc;cases hc
    ·rw[q]at hc;simp[jd]at hc
   ·rw[o]at j m;simp only[iy,bo,hl]at j;refine⟨j.2,fun u l hc=>?_,fun u l=>m u (by simp[l]),m _ (by simp)⟩;have:=j.1 u l;rw[hc]at this;exact(by simpa using this:reach c c.size u.i (gL i s.heap.length e).i=true)
  obtain⟨k1,k2,k3,k4⟩:=key;refine⟨k1,?_,?_⟩
  ·intro u l b p e1 k hc;cases b with
   |zero=>simp at k;obtain⟨rfl,rfl⟩:=k;exact k2 u l hc
   |succ b=>
    have:=k3 u l b p e1 (by simpa using k);rw[show i+(b+1)=i+1+b by omega]at hc⊢;exact this hc
  ·intro a b p e1 f e2 t n k hc;cases b with
   |zero=>omega
   |succ b=>
    rw[show i+(b+1)=i+1+b by omega]at hc⊢;cases a with
    |zero=>
     simp at n;obtain⟨rfl,rfl⟩:=n;exact k4 b f e2 (by simpa using k) hc
    |succ a=>
     rw[show i+(a+1)=i+1+a by omega]at hc⊢;exact r a b p e1 f e2 (by omega) (by simpa using n) (by simpa using k) hc
end
section
variable{P:bI}{ag:b2->Bool}{n:Nat}
def hx(N:Nat)(s:St):aj:=s.heap++ha (N-s.heap.length) .hole
def tV(a:Nat)(e:aW):List Nat:=(e.aM++newAt a e.aS).map (·.1)
theorem abw{N:Nat}{s:St}{e:aW}{o:Oper}(aM:∀p∈e.aM,p.1<s.heap.length)(d:(e.app o.dst s).heap.length<=N):hx N (e.app o.dst s)=bc (hx N s) (e.aM++newAt s.heap.length e.aS):=by
 have b:(e.app o.dst s).heap=bc s.heap e.aM++e.aS:=rfl;have f:(e.app o.dst s).heap.length=s.heap.length+e.aS.length:=by rw[b];simp[oy]
 unfold hx;rw[b];have c:N-s.heap.length=e.aS.length+(N-(s.heap.length+e.aS.length)):=by omega
 rw[c,<-List.replicate_append_replicate,<-hD,xd _ _ _ (by
  intro p a;rcases hO.1 a with a|a
  ·have:=aM p a;simp;omega
  ·have:p.1∈(newAt s.heap.length e.aS).map (·.1):=hJ a
   rw[so,GO]at this;simp;omega)]
 rw[uj,xd _ _ _ aM];have:=A5 (bc s.heap e.aM) e.aS;rw[oy]at this;rw[this];congr 2;simp[oy]
section sched
variable{ops:Array Oper}{es:List (St×aW)}{s0 s':St}
structure iT(P:bI)(n:Nat)(ops:Array Oper)(es:List (St×aW))(s':St):Prop where
 len:es.length=ops.size
 at_:∀k o,ops[k]?=some o->Dg P n ops o (c8 es s' k) (fy es k)/\c8 es s' (k+1)=(fy es k).app o.dst (c8 es s' k)
 dst:∀o∈ops.toList,iS n o=true
 lower:∀j o,ops[j]?=some o->∀e∈o.after,fw .any e=true->e.on<j
 tmps:∀i j u o,i<j->ops[i]?=some u->ops[j]?=some o->qg ops u o=true->reach ops ops.size i j=true
 heap:∀i j,i<j->j<ops.size->jd (gL i (c8 es s' i).heap.length (fy es i)) (gL j (c8 es s' j).heap.length (fy es j))=true->reach ops ops.size i j=true
def wr(a:List (St×aW))(s':St)(i:Nat):List Nat:=tV (c8 a s' i).heap.length (fy a i)
structure At(ops:Array Oper)(es:List (St×aW))(s':St)(D:Nat->Prop)(s:St):Prop where
 tmp:∀x,∃k,k<=ops.size/\aQ s.env x=aQ (c8 es s' k).env x/\∀i o,ops[i]?=some o->o.dst=some x->(D i↔i<k)
 len:s.heap.length=s'.heap.length
 heap:∀b,∃k,k<=ops.size/\s.heap[b]?=(hx s'.heap.length (c8 es s' k))[b]?/\∀i,i<ops.size->b∈wr es s' i->(D i↔i<k)
variable(h:iT P n ops es s')
include h
theorem iT.mono:∀{k m:Nat},k<=m->m<=ops.size->(c8 es s' k).heap.length<=(c8 es s' m).heap.length:=by
 intro k m e f
 induction m with
 |zero=>
  obtain rfl:k=0:=by omega
  exact hR _
 |succ m c=>
  by_cases hk:k=m+1
  ·subst hk;exact hR _
  ·have d:=c (by omega) (by omega);have b:ops[m]?=some ops[m]:=a0 (by omega);obtain⟨_,a⟩:=h.at_ m _ b;rw[a];simp only[aW.app,hb,oy];omega
theorem iT.last:c8 es s' ops.size=s':=by
 have:es[ops.size]?=none:=hy (by rw[h.len];exact hR _);simp[c8,this]
theorem iT.vY{k:Nat}(hk:k<=ops.size):(c8 es s' k).heap.length<=s'.heap.length:=by
 have:=h.mono hk (hR _)
 rwa [h.last]at this
theorem iT.gS{k:Nat}(hk:k<ops.size):hx s'.heap.length (c8 es s' (k+1))=bc (hx s'.heap.length (c8 es s' k)) ((fy es k).aM++newAt (c8 es s' k).heap.length (fy es k).aS):=by
 have c:ops[k]?=some ops[k]:=a0 hk;obtain⟨h1,b⟩:=h.at_ k _ c;have a:=h.vY (k:=k+1) hk;rw[b]at a⊢;exact abw h1.aM a
theorem Z9{k:Nat}(hk:k<=ops.size):(hx s'.heap.length (c8 es s' k)).length=s'.heap.length:=by
 have:=h.vY hk;simp[hx];omega
theorem iT.Jr{x:Nat}:∀{k m:Nat},k<=m->m<=ops.size->(∀i o,k<=i->i<m->ops[i]?=some o->o.dst≠some x)->aQ (c8 es s' m).env x=aQ (c8 es s' k).env x:=by
 intro k m j
 induction m with
 |zero=>
  intro _ _;obtain rfl:k=0:=by omega
  rfl
 |succ m g=>
  intro l d
  by_cases hk:k=m+1
  ·subst hk;rfl
  ·have e:=g (by omega) (by omega) (fun i o a b=>d i o a (by omega));have c:ops[m]?=some ops[m]:=a0 (by omega);obtain⟨_,f⟩:=h.at_ m _ c;rw[f];simp only[aW.app,uC];rw[if_neg (d m _ (by omega) (by omega) c)];exact e
theorem iT.IZ{b:Nat}:∀{k m:Nat},k<=m->m<=ops.size->(∀i,k<=i->i<m->b∉wr es s' i)->(hx s'.heap.length (c8 es s' m))[b]?=(hx s'.heap.length (c8 es s' k))[b]?:=by
 intro k m f
 induction m with
 |zero=>
  intro _ _;obtain rfl:k=0:=by omega
  rfl
 |succ m e=>
  intro g c
  by_cases hk:k=m+1
  ·subst hk;rfl
  ·have d:=e (by omega) (by omega) (fun i a b=>c i a (by omega));rw[h.gS (by omega),xH (c m (by omega) (by omega))];exact d
theorem iT.KE{x:Nat}{k m:Nat}(hk:k<=ops.size)(g:m<=ops.size)(f:∀i o,ops[i]?=some o->o.dst=some x->(i<k↔i<m)):aQ (c8 es s' m).env x=aQ (c8 es s' k).env x:=by
 rcases h0 k m with d|d
 ·exact h.Jr d g fun i o a b e c=>by have:=f i o e c;omega
 ·exact(h.Jr d hk fun i o a b e c=>by have:=f i o e c;omega).symm
theorem iT.Kq{b:Nat}{k m:Nat}(hk:k<=ops.size)(g:m<=ops.size)(f:∀i,i<ops.size->b∈wr es s' i->(i<k↔i<m)):(hx s'.heap.length (c8 es s' m))[b]?=(hx s'.heap.length (c8 es s' k))[b]?:=by
 rcases h0 k m with e|e
 ·exact h.IZ e g fun i a c d=>by have:=f i (by omega) d;omega
 ·exact(h.IZ e hk fun i a c d=>by have:=f i (by omega) d;omega).symm
variable{D:Nat->Prop}(hc:vw ops D)
include hc
theorem iT.order{i:Nat}{o:Oper}(k:ops[i]?=some o)(h:¬D i)(l:∀e∈o.after,fw .any e=true->D e.on):
 (∀j,j<i->reach ops ops.size j i=true->D j)/\(∀j,j<ops.size->i<j->reach ops ops.size i j=true->¬D j):=by
 constructor
 ·intro j g b;exact A6 hc _ _ _ b (fun o' a=>by rw[k]at a;cases a;exact l)
 ·intro j m g b d;exact h (A6 hc _ _ _ b (fun o' a e f c=>hc j o' a d e f c))
theorem iT.reads{i:Nat}{o:Oper}(l:ops[i]?=some o)(q:¬D i)(y:∀e∈o.after,fw .any e=true->D e.on){s:St}(t:At ops es s' D s):
 (∀x∈looks ops o,aQ s.env x=aQ (c8 es s' i).env x)/\(∀b,b∈(fy es i).al.map (·.1)\/b∈wr es s' i->s.heap[b]?=(hx s'.heap.length (c8 es s' i))[b]?):=by
 obtain⟨v,w⟩:=h.order hc l q y;have hi:i<ops.size:=(aT.1 l).1;constructor
 ·intro x hx;obtain⟨k,k1,k2,k3⟩:=t.tmp x;rw[k2];refine h.KE (by omega) k1 fun j u m p=>?_;have g:j<ops.size:=(aT.1 m).1;rw[<-k3 j u m p];constructor
  ·intro a;refine v j a (h.tmps j i u o a m l ?_);simp[qg,p,hx]
  ·intro f;rcases hS j i with a|rfl|a
   ·exact a
   ·exact(q f).elim
   ·exact(w j g a (h.tmps i j o u a l m (by simp[qg,p,hx])) f).elim
 ·intro b c;obtain⟨k,k1,k2,k3⟩:=t.heap b;rw[k2];refine h.Kq (by omega) k1 fun j g n=>?_;rw[<-k3 j g n];have r:b∈(gL j (c8 es s' j).heap.length (fy es j)).wr:=by
   unfold wr tV at n;rw[hp,so]at n;exact n
  have d:b∈(gL i (c8 es s' i).heap.length (fy es i)).rd\/b∈(gL i (c8 es s' i).heap.length (fy es i)).wr:=by
   rcases c with c|c
   ·exact .inl c
   ·unfold wr tV at c;rw[hp,so]at c;exact .inr c
  constructor
  ·intro a;refine v j a (h.heap j i a hi ?_);simp only[jd,bp,ho,hn];exact .inl ⟨b,r,d⟩
  ·intro f;rcases hS j i with a|rfl|a
   ·exact a
   ·exact(q f).elim
   ·refine(w j g a (h.heap i j a g ?_) f).elim;simp only[jd,bp,ho,hn];rcases d with d|d
    ·exact .inr ⟨b,d,r⟩
    ·exact .inl ⟨b,d,.inr r⟩
theorem iT.next{i:Nat}{o:Oper}(l:ops[i]?=some o)(z:¬D i)(A:∀e∈o.after,fw .any e=true->D e.on){s:St}(p:At ops es s' D s):
 At ops es s' (fun j=>D j\/j=i) ⟨put o.dst (fy es i).v s.env,bc s.heap ((fy es i).aM++newAt (c8 es s' i).heap.length (fy es i).aS)⟩:=by
 obtain⟨w,y⟩:=h.order hc l z A;have hi:i<ops.size:=(aT.1 l).1;obtain⟨B,gS⟩:=h.at_ i o l;refine⟨fun x=>?_,by simp only[oy];exact p.len,fun b=>?_⟩
 ·by_cases hx:o.dst=some x
  ·refine⟨i+1,hi,?_,fun j u d n=>?_⟩
   ·rw[gS];simp[aW.app,uC,hx]
   ·have g:j<ops.size:=(aT.1 d).1;constructor
    ·rintro(c|rfl)
     ·rcases hS j i with a|rfl|a
      ·omega
      ·omega
      ·exact(y j g a (h.tmps i j o u a l d (by simp[qg,n,hx])) c).elim
     ·omega
    ·intro a
     by_cases q:j=i
     ·exact .inr q
     ·exact .inl (w j (by omega) (h.tmps j i u o (by omega) d l (by simp[qg,n,hx])))
  ·obtain⟨k,k1,k2,k3⟩:=p.tmp x;refine⟨k,k1,?_,fun j u d n=>?_⟩
   ·simp only[uC];rw[if_neg hx];exact k2
   ·rw[<-k3 j u d n];constructor
    ·rintro(c|rfl)
     ·exact c
     ·rw[l]at d;cases d;exact(hx n).elim
    ·exact .inl
 ·by_cases f:b∈wr es s' i
  ·refine⟨i+1,hi,?_,fun j g m=>?_⟩
   ·rw[h.gS hi];exact UH f _ _ (by rw[Z9 h (by omega)];exact p.len)
   ·have t:b∈(gL j (c8 es s' j).heap.length (fy es j)).wr:=by
     unfold wr tV at m;rw[hp,so]at m;exact m
    have r:b∈(gL i (c8 es s' i).heap.length (fy es i)).wr:=by
     unfold wr tV at f;rw[hp,so]at f;exact f
    constructor
    ·rintro(c|rfl)
     ·rcases hS j i with a|rfl|a
      ·omega
      ·omega
      ·refine(y j g a (h.heap i j a g ?_) c).elim;simp only[jd,bp,ho,hn];exact .inl ⟨b,r,.inr t⟩
     ·omega
    ·intro a
     by_cases q:j=i
     ·exact .inr q
     ·refine .inl (w j (by omega) (h.heap j i (by omega) hi ?_));simp only[jd,bp,ho,hn];exact .inl ⟨b,t,.inr r⟩
  ·obtain⟨k,k1,k2,k3⟩:=p.heap b;refine⟨k,k1,?_,fun j g m=>?_⟩
   ·simp only;rw[xH f];exact k2
   ·rw[<-k3 j g m];constructor
    ·rintro(c|rfl)
     ·exact c
     ·exact(f m).elim
    ·exact .inl
end sched
end
section
variable{P:bI}{ag:b2->Bool}{n:Nat}
variable{ops:Array Oper}{es:List (St×aW)}{s':St}
theorem cK.congr{ah ad:Nat->Prop}{β:Bd}{s u:St}{t:Array b4}{w:b5}(h:cK P n ah ad β s t w)(b:∀x,aQ u.env x=aQ s.env x)(a:u.heap=s.heap):cK P n ah ad β u t w:=by
 refine⟨by rw[a];exact h.heap,fun x=>?_,fun x=>?_,h.size⟩
 ·rw[b,a];exact h.env x
 ·rw[b,a];exact h.gz x
theorem cK.pn{ah ad:Nat->Prop}{β:Bd}{s:St}{t:Array b4}{w:b5}(m:Nat)(h:cK P n ah ad β s t w):cK P n ah ad β ⟨s.env,s.heap++ha m .hole⟩ t w:=
 ⟨h.heap.pn m,fun x=>aA.mono (fun _ x=>x) (fun _ _=>rfl) (pS β s.heap m) _ _ (h.gz x) (h.env x),fun x=>aE.mono (nw _ _) _ (h.gz x),h.size⟩
theorem Wx{o:Oper}{e e':Env}(h:∀x∈looks ops o,aQ e' x=aQ e x):∀x∈o.op.operands,ev e' x=ev e x:=by
 intro x hx;cases x with
 |tmp t=>
  simp only[ev];refine h t ?_;simp only[looks,hO,List.mem_filterMap];exact .inl ⟨.tmp t,by simpa using hx,rfl⟩
 |_=>rfl
theorem iT.run(h:iT P n ops es s'){D:Nat->Prop}(hc:vw ops D){i:Nat}{o:Oper}(a:ops[i]?=some o)(x:¬D i)(z:∀e∈o.after,fw .any e=true->D e.on){s:St}(m:At ops es s' D s)
 {fr:cc}{k:List Item}{cs:List cc}{r:List Nat}{ds:List ck}{ah ad:Nat->Prop}{β:Bd}{t:Array b4}{w:b5}(b:cK P n ah ad β s t w):
 ∃u aF aK d w',dk P (lone (bB fr t ds (.inRegion ops (i::r)::k)) cs w) (lone (bB fr d ds (.inRegion ops r::k)) cs w')/\cK P n ah aF aK u d w'/\(∀N,dI N ah ad w β s.heap ah aF w' aK u.heap)/\At ops es s' (fun j=>D j\/j=i) u:=by
 obtain⟨g,A⟩:=h.reads hc a x z m;have hi:i<ops.size:=(aT.1 a).1;obtain⟨v,_⟩:=h.at_ i o a;have c:=h.next hc a x z m;have q:iS n o=true:=h.dst o (by rw[Array.mem_toList_iff];exact Array.mem_of_getElem? a);have H:=h.vY (k:=i) (by omega);rcases v.act with⟨f,C⟩|⟨f,E⟩
 ·obtain⟨aF,aK,d,w',B,a2,a3⟩:=C fr k cs ops i r ds ah ad β s t w a (f t s ah ad β w b g) q b (Wx g) (by
   intro p y;rw[A p.1 (.inl (hJ y))];have:=v.al p y;unfold hx;rw[ht (g9.1 this).1];exact this) (by
   intro j G;have F:(c8 es s' i).heap.length+j∈wr es s' i:=by
    unfold wr tV;rw[hp,so];exact List.mem_append_right _ (GO.2 ⟨by omega,by omega⟩)
   rw[A _ (.inr F)];have l:=h.vY (k:=i+1) (by omega);rw[(h.at_ i o a).2]at l;simp only[aW.app,hb,oy]at l;unfold hx;rw[kK,if_neg (by omega),if_pos (by omega)])
  exact⟨_,aF,aK,d,w',B,a2,a3,c⟩
 ·rw[E]at c;simp only[newAt,hh,bc]at c;exact⟨_,ad,β,_,w,.one (Iu a (f t s ah ad β w b g)),b.put q (bY.refl b.heap) (by simp[aA,aD,bJ,undef]) (by simp[aE]),fun _=>dI.refl _ _ _ _ _ _,c⟩
def isDone(a:Array Bool)(i:Nat):Prop:=a.getD i false=true
theorem Hx{p:Nat->Bool}{i:Nat}:∀{l:List Nat},l.Nodup->i∈l->p i=true->l.countP p=l.countP (fun x=>p x&&x !=i)+1
 |[],_,h,_=>by simp at h
 |a::l,c,h,d=>by
  rw[List.nodup_cons]at c
  by_cases b:a=i
  ·subst b;have e:l.countP (fun x=>p x&&x !=a)=l.countP p:=by
    refine hM fun x hx=>?_;have:x≠a:=fun e=>c.1 (e▸hx);simp[this]
   simp[d,e]
  ·have f:i∈l:=by
    rcases hj.1 h with h|h
    ·exact(b h.symm).elim
    ·exact h
   have g:=Hx c.2 f d;rw[hN,hN,g];have:(a !=i)=true:=by simpa using b
   simp only[this,Bool.and_true];omega
def left(b:Array Oper)(a:Array Bool):Nat:=(hv b.size).countP fun i=>!a.getD i true
theorem iT.goes(h:iT P n ops es s'){fr:cc}{k:List Item}{cs:List cc}{ds:List ck}{ah:Nat->Prop}:∀(c b:Nat)(a:Array Bool)(s:St)(ad:Nat->Prop)(β:Bd)(t:Array b4)(w:b5),a.size=ops.size->left ops a<=c->vw ops (isDone a)->
 At ops es s' (isDone a) s->cK P n ah ad β s t w->
 ∃u D aF aK R w',dk P (lone (bB fr t ds (.inRegion ops (gc .any ops c b a [])::k)) cs w) (lone (bB fr R ds (.inRegion ops []::k)) cs w')/\cK P n ah aF aK u R w'/\(∀N,dI N ah ad w β s.heap ah aF w' aK u.heap)/\At ops es s' D u/\∀j,j<ops.size->D j:=by
 have L:∀(a:Array Bool),a.size=ops.size->fm .any ops a=[]->∀j,j<ops.size->isDone a j:=by
  intro a q f j
  induction j using hX with
  |_ j K=>
   intro d
   by_cases A:isDone a j
   ·exact A
   ·exfalso;have G:j<a.size:=by omega
    have:j∈fm .any ops a:=by
     rw[c9];refine⟨?_,ops[j],a0 d,fun e B z=>?_⟩
     ·unfold isDone at A;simp only[bb,a0 G,h2]at A⊢;simpa using A
     ·have H:=h.lower j _ (a0 d) e B z;exact K e.on H (by omega)
    rw[f]at this;simp at this
 intro c
 induction c with
 |zero=>
  intro b a s ad β t w q O hc y C;have f:fm .any ops a=[]:=by
   rw[List.eq_nil_iff_forall_not_mem];intro j d;rw[c9]at d;obtain⟨g,o,m,_⟩:=d;have G:j<ops.size:=(aT.1 m).1;have:0<left ops a:=by
    unfold left;rw[List.countP_pos_iff];exact⟨j,by simpa using G,by rw[g];rfl⟩
   omega
  exact⟨s,isDone a,ad,β,t,w,by simp only[gc,List.reverse_nil];exact gy _ _,C,fun _=>dI.refl _ _ _ _ _ _,y,L a q f⟩
 |succ c K=>
  intro b a s ad β t w q O hc y C;have ab:gc .any ops (c+1) b a []=(match(fm .any ops a)[b% (fm .any ops a).length]? with
   |some i=>gc .any ops c (b/(fm .any ops a).length) (a.setIfInBounds i true) [i]
   |none=>[].reverse):=rfl
  rw[ab];cases hi:(fm .any ops a)[b% (fm .any ops a).length]? with
  |none=>
   have f:fm .any ops a=[]:=by
    cases f:fm .any ops a with
    |nil=>rfl
    |cons x xs=>
     rw[f]at hi;have H:b% (x::xs).length<(x::xs).length:=Nat.mod_lt _ (by simp);rw[he H]at hi;cases hi
   exact⟨s,isDone a,ad,β,t,w,gy _ _,C,fun _=>dI.refl _ _ _ _ _ _,y,L a q f⟩
  |some i=>
   simp only;rw[linearise_go_acc,List.reverse_singleton,List.singleton_append];have af:=List.mem_of_getElem? hi;obtain⟨g,o,m,Q⟩:=c9.1 af;have ac:i<ops.size:=(aT.1 m).1;have E:i<a.size:=by omega
   have ag:¬isDone a i:=by
    unfold isDone;simp only[bb,a0 E,h2]at g⊢;simp[g]
   obtain⟨u,S,aj,t1,w1,U,a2,a3,a4⟩:=h.run (fr:=fr) (k:=k) (cs:=cs) (ds:=ds) (r:=gc .any ops c (b/(fm .any ops a).length) (a.setIfInBounds i true) []) hc m ag Q y C;have M:(fun j=>isDone a j\/j=i)=isDone (a.setIfInBounds i true):=by
    funext j
    unfold isDone
    by_cases F:j=i
    ·subst F;simp[E]
    ·have:(a.setIfInBounds i true).getD j false=a.getD j false:=dg false (Ne.symm F);rw[this];simp[F]
   rw[M]at a4;have aa:vw ops (isDone (a.setIfInBounds i true)):=by
    rw[<-M];intro j o' I d e B z;rcases d with d|rfl
    ·exact .inl (hc j o' I d e B z)
    ·rw[m]at I;cases I;exact .inl (Q e B z)
   have ae:left ops (a.setIfInBounds i true)<=c:=by
    have al:=Hx (p:=fun j=>!a.getD j true) (i:=i) (l:=hv ops.size) List.nodup_range (by simpa using ac) (by show(!a.getD i true)=true;rw[g];rfl);have:left ops (a.setIfInBounds i true)=(hv ops.size).countP (fun x=>!a.getD x true&&x !=i):=by
     unfold left;refine hM fun x hx=>?_
     by_cases J:x=i
     ·subst J;simp[E]
     ·have:(a.setIfInBounds i true).getD x true=a.getD x true:=dg true (Ne.symm J);rw[this];simp[J]
    unfold left at O;omega
   obtain⟨v,D,T,ak,t2,ai,V,W,X,Y,Z⟩:=K (b/(fm .any ops a).length) (a.setIfInBounds i true) u S aj t1 w1 (by simpa using q) ae aa a4 a2;exact⟨v,D,T,ak,t2,ai,U.trans V,W,fun N=>(a3 N).trans (X N),Y,Z⟩
theorem Wv(h:fit n ops=true):(∀j o,ops[j]?=some o->∀e∈o.after,fw .any e=true->e.on<j)/\
 (∀i j u o,i<j->ops[i]?=some u->ops[j]?=some o->qg ops u o=true->reach ops ops.size i j=true):=by
 unfold fit at h;rw[hl]at h;constructor
 ·intro j o a e f c;have b:j<ops.size:=(aT.1 a).1;have:=h j (by simpa using b);rw[a]at this;simp only[bo,hl]at this;have:=this.1 e (by simpa using f);simpa[c]using this
 ·intro i j u o g k a d;have b:j<ops.size:=(aT.1 a).1;have:=h j (by simpa using b);rw[a]at this;simp only[bo,hl]at this;have:=this.2 i (by simpa using g);rw[k]at this;simpa[d]using this
theorem xq(C:lC P ag)(Z:P.follows .mixedOrders=true):sv P ag fit:=by
 intro n N a fr k cs F f K s ah ad β t w T B h aa;obtain⟨es,s',I,J,M⟩:=Jq C B a.toList 0 [] s (fun _ h=>h) h;obtain⟨t1,t2,t3⟩:=I.at;obtain⟨_,_,O⟩:=HN es 0 [] M;obtain⟨f1,f2⟩:=Wv (n:=n) T;have X:es.length=a.size:=by simpa using t1
 have hs:iT P n a es s':=by
  refine⟨X,fun k o c=>t3 k o (by simpa using c),B,f1,f2,fun i j U ai v=>?_⟩;have hi:i<es.length:=by omega
  have A:j<es.length:=by omega
  have G:es[i]?=some (es[i].1,es[i].2):=by simp[he hi]
  have H:es[j]?=some (es[j].1,es[j].2):=by simp[he A]
  have:=O i j es[i].1 es[i].2 es[j].1 es[j].2 U G H;simp only[hZ]at this;refine this ?_;have g:c8 es s' i=es[i].1/\fy es i=es[i].2:=by simp[c8,fy,he hi]
  have q:c8 es s' j=es[j].1/\fy es j=es[j].2:=by simp[c8,fy,he A]
  rw[g.1,g.2,q.1,q.2]at v;exact v
 have V:=hs.vY (k:=0) (hV _);rw[t2]at V;obtain⟨m,Y⟩:∃m,m=s'.heap.length-s.heap.length:=⟨_,rfl⟩
 have ab:=aa.pn m;have Q:∀N,dI N ah ad w β s.heap ah ad w β (s.heap++ha m .hole):=fun N=>⟨fun _ x=>x,fun _ x=>x,fun _ x=>.inl x,Ext.refl _ _ _,(pS _ _ _).n,fun x _=>nw _ _ x,fun b _⟨L,r⟩=>⟨L,by rw[kK,if_pos (g9.1 r).1];exact r⟩⟩
 have ac:gb (P.follows .mixedOrders) a f=gc .any a a.size f (a6 a.size false) []:=by
  simp[gb,Z,Region.linearise]
 have e:∀i,¬isDone (a6 a.size false) i:=by
  intro i hi;unfold isDone at hi
  by_cases z:i<a.size
  ·simp[z]at hi
  ·simp[z]at hi
 have R:At a es s' (isDone (a6 a.size false)) ⟨s.env,s.heap++ha m .hole⟩:=by
  refine⟨fun x=>⟨0,hV _,by rw[t2],fun i o _ _=>⟨fun h=>(e i h).elim,fun h=>by omega⟩⟩,by simp;omega,fun b=>⟨0,hV _,by rw[t2];unfold hx;rw[<-Y],fun i _ _=>⟨fun h=>(e i h).elim,fun h=>by omega⟩⟩⟩
 have W:left a (a6 a.size false)<=a.size:=by
  unfold left;have:=List.countP_le_length (p:=fun i=>!(a6 a.size false).getD i true) (l:=hv a.size);simpa using this
 obtain⟨u,D,aF,aK,af,w',E,a2,a3,a4,a5⟩:=hs.goes (fr:=fr) (k:=k) (cs:=cs) (ds:=F) a.size f (a6 a.size false) _ ad β t w (by simp) W (fun j o c d=>(e j d).elim) R ab;rw[ac];have S:∀x,aQ s'.env x=aQ u.env x:=by
  intro x;obtain⟨k,k1,k2,k3⟩:=a4.tmp x;rw[k2];have:=hs.KE (x:=x) k1 (hR a.size) (fun i o c d=>by
   have hi:i<a.size:=(aT.1 c).1;have:=(k3 i o c d).1 (a5 i hi);exact⟨fun _=>hi,fun _=>this⟩)
  rw[hs.last]at this;exact this
 have y:s'.heap=u.heap:=by
  apply List.ext_getElem?;intro b;obtain⟨k,k1,k2,k3⟩:=a4.heap b;rw[k2];have:=hs.Kq (b:=b) k1 (hR a.size) (fun i hi ae=>by
   have:=(k3 i hi ae).1 (a5 i hi);exact⟨fun _=>hi,fun _=>this⟩)
  rw[hs.last]at this;rw[<-this];simp[hx]
 exact⟨s',aF,aK,af,w',J,E,a2.congr S y,(Q N).trans (y▸a3 N)⟩
end
section
variable{P:bI}
structure aq(P:bI)(f:b2)(fn:Func):Prop where
 func:P.funcs[f]?=some fn
 stat:(fn.body.isSome&&(fn.name != "runtime.NumGoroutine")&&codeOk fit fn.ntmps (fn.body.getD .skip))=true
theorem aq.enters{f:b2}{fn:Func}(h:aq P f fn):Enters P f:=by
 intro args w;have hs:=h.stat;simp only[bo,bne_iff_ne]at hs;cases a:fn.body with
 |none=>rw[a]at hs;simp at hs
 |some c=>simp[callFunc,h.func,hs.1.2,a]
def Ends(P:bI)(a:List ResultVar)(v:PV)(e:bu)(s:St):Prop:=
 (match e with
  | .exit _=>False
  |_=>True)/\∃vs,fC P s a=some vs/\et s.heap 9 (oneOf vs)=some v
theorem zI{f:b2}{fn:Func}(ag:b2->Bool)(h:aq P f fn)(b:P.follows .mixedOrders=true){args:List PV}{v:PV}(c:args.length<=fn.ntmps)
 (d:cd P ag (fn.ntmps,0) (fn.body.getD .skip) (Ends P fn.results.toList v) ⟨iG 0 (args.map .p),[]⟩):au P f args v:=by
 have hs:=h.stat;simp only[bo,bne_iff_ne]at hs;have a:fn.body=some (fn.body.getD .skip):=by
  have:=hs.1.1;cases e:fn.body<;>simp_all
 exact .inl (JP (oA ag) (xq (oA ag) b) h.enters h.func a hs.2 c d)
class aJQ(P:bI)(f:b2)(args:List PV)(pre:outParam Prop)(v:outParam PV):Prop where
 zI:pre->au P f args v
section calls
variable{f:b2}{H:aj}{pre:Prop}{v:PV}
end calls
def rl(e:Env):Env->Prop
 |[]=>True
 |(x,v)::r=>aQ e x=v/\rl e r
def kg:aj->aj->Prop
 |_,[]=>True
 |[],.hole::t=>kg [] t
 |_::h,.hole::t=>kg h t
 |o::h,o'::t=>o=o'/\kg h t
 |[],_::_=>False
theorem rl.get{e:Env}:∀{t:Env},rl e t->∀x,aQ t x=aQ e x\/aQ t x=.p .undef
 |[],_,x=>.inr rfl
 |(y,v)::t,h,x=>by
  simp only[rl]at h;simp only[aQ]
  split
  ·rename_i hx;subst hx;exact .inl h.1.symm
  ·exact rl.get h.2 x
theorem kg.get:∀{h t:aj},kg h t->∀(b:Nat)(o:Obj),t[b]?=some o->o=.hole\/h[b]?=some o
 |_,[],_,b,o,a=>by simp at a
 |[],o'::t,hk,b,o,a=>by
  cases o'<;>simp only[kg]at hk;cases b with
  |zero=>simp at a;exact .inl a.symm
  |succ b=>exact(kg.get hk b o (by simpa using a)).imp id (fun h=>by simp at h)
 |c::h,o'::t,hk,b,o,a=>by
  cases b with
  |zero=>
   simp at a;cases o'<;>simp only[kg]at hk
   case hole=>exact .inl a.symm
   all_goals exact .inr (by rw[<-a,<-hk.1];simp)
  |succ b=>
   have:kg h t:=by cases o'<;>simp only[kg]at hk<;>first|exact hk|exact hk.2
   exact(kg.get this b o (by simpa using a)).imp id (fun h=>by simpa using h)
def gV(H:aj):Env->Prop
 |[]=>True
 |(_,v)::r=>aE (aJ H) v/\gV H r
def dC(H:aj):aj->Prop
 |[]=>True
 |o::r=>o.refs (aJ H)/\dC H r
theorem gV.get{H:aj}:∀{e:Env},gV H e->∀x,aE (aJ H) (aQ e x)
 |[],_,x=>by simp[aQ,aE]
 |(y,v)::e,h,x=>by
  simp only[gV]at h;simp only[aQ]
  split
  ·exact h.1
  ·exact gV.get h.2 x
theorem dC.get{H:aj}:∀{h:aj},dC H h->∀(b:Nat)(o:Obj),h[b]?=some o->o.refs (aJ H)
 |[],_,b,o,a=>by simp at a
 |c::h,hr,b,o,a=>by
  simp only[dC]at hr;cases b with
  |zero=>simp at a;subst a;exact hr.1
  |succ b=>exact dC.get hr.2 b o (by simpa using a)
theorem o8.of{s t:St}(a:rl s.env t.env)(c:kg s.heap t.heap)(e:gV t.heap t.env)(f:dC t.heap t.heap):o8 s t:=
 ⟨fun x=>(a.get x).imp id .inl,fun b o d=>(c.get b o d).imp id .inl,e.get,f.get⟩
theorem dc.of{N:Nat}{s t:St}(e:t.heap.take N=s.heap.take N)(c:rl s.env t.env)(d:kg s.heap t.heap)(f:gV t.heap t.env)(g:dC t.heap t.heap):dc N s t:=by
 refine .inr ⟨o8.of c d f g,fun b a=>?_⟩;have:=congrArg (fun l:aj=>l[b]?) e;simpa[List.getElem?_take,a]using this
theorem O3{f:b2}{fn:Func}(ag:b2->Bool)(h:aq P f fn)(b:P.follows .mixedOrders=true){args:List AV}{H H':aj}{v:AV}(c:args.length<=fn.ntmps)
 (d:cd P ag (fn.ntmps,H.length) (fn.body.getD .skip) (tv P fn.results.toList H.length H' v) ⟨iG 0 args,H⟩):cE P f H args H' v:=by
 have hs:=h.stat;simp only[bo,bne_iff_ne]at hs;have a:fn.body=some (fn.body.getD .skip):=by
  have:=hs.1.1;cases e:fn.body<;>simp_all
 exact Wu (oA ag) (xq (oA ag) b) h.enters h.func a hs.2 c d
theorem O4(ag:b2->Bool)(f:P.follows .mixedOrders=true){b:Nat}{L:dP}{H H':aj}{args:List AV}{v:AV}(d:H[b]?=some (.loop L))(e:args.length=L.params.length)
 (a:(L.params.all (fun x=>decide (x<L.n))&&codeOk fit L.n L.assign&&codeOk fit L.n L.body)=true)(g:yf P ag L b args H (fun c h=>h=v/\dc H.length ⟨[],c⟩ ⟨[],H'⟩)):fh P b H args H' v:=by
 simp only[bo,hl,decide_eq_true_eq]at a;exact Ws (oA ag) (xq (oA ag) f) d e a.1.1 a.1.2 a.2 g
theorem again{N:Nat}{α:Type}{mk:α->St}{ok:α->Prop}{m:α->Nat}{n:Nat}{s':St}(a':α)(c:m a'<n)(d:ok a')(e:dc N s' (mk a')):∃a b,a<n/\dc N s' b/\∃a',ok a'/\b=mk a'/\a=m a':=
 ⟨m a',mk a',c,e,a',d,rfl,rfl⟩
end
section
variable{P:bI}{ag:b2->Bool}
def aV{α:Type}(F:(α->Prop)->Prop):Prop:=∀K,F K->∃a,K a/\∀b:α->Prop,b a->F b
theorem aV.one{α β:Type}(f:β->α)(b:β):aV (fun K:α->Prop=>K (f b)):=fun _ h=>⟨f b,h,fun _ h=>h⟩
theorem aV.false{α:Type}:aV (fun _:α->Prop=>False):=fun _ h=>h.elim
theorem aV.and{α:Type}{p:Prop}{F:(α->Prop)->Prop}(h:aV F):aV (fun K=>p/\F K):=fun K hk=>by
 obtain⟨a,c,d⟩:=h K hk.2;exact⟨a,c,fun b h=>⟨hk.1,d b h⟩⟩
theorem aV.ex{α:Type}{β:Sort _}{F:β->(α->Prop)->Prop}(h:∀b,aV (F b)):aV (fun K=>∃b,F b K):=fun K⟨b,f⟩=>by
 obtain⟨a,d,e⟩:=h b K f;exact⟨a,d,fun c h=>⟨b,e c h⟩⟩
theorem aV.or{α:Type}{F G:(α->Prop)->Prop}(h:aV F)(e:aV G):aV (fun K=>F K\/G K):=fun K hk=>by
 rcases hk with hk|hk
 ·obtain⟨a,c,d⟩:=h K hk;exact⟨a,c,fun b h=>.inl (d b h)⟩
 ·obtain⟨a,c,d⟩:=e K hk;exact⟨a,c,fun b h=>.inr (d b h)⟩
theorem aV.ite{α:Type}{p:Prop}[Decidable p]{F G:(α->Prop)->Prop}(h:aV F)(f:aV G):aV (fun K=>if p then F K else G K):=fun K hk=>by
 split at hk
 ·rename_i e;obtain⟨a,c,d⟩:=h K hk;exact⟨a,c,fun b h=>by simpa[e]using d b h⟩
 ·rename_i e;obtain⟨a,c,d⟩:=f K hk;exact⟨a,c,fun b h=>by simpa[e]using d b h⟩
theorem aV.bind{α β:Type}{F:(α->Prop)->Prop}{G:α->(β->Prop)->Prop}(h:aV F)(d:∀a,aV (G a)):aV (fun K=>F (fun a=>G a K)):=fun K hk=>by
 obtain⟨a,e,f⟩:=h _ hk;obtain⟨b,g,i⟩:=d a K e;exact⟨b,g,fun c h=>f _ (i c h)⟩
theorem aV.map{α β:Type}{F:(α->Prop)->Prop}(h:aV F)(f:α->β):aV (fun K=>F (fun a=>K (f a))):=h.bind fun a=>aV.one f a
theorem U3(T:bV)(H:aj)(a:AV):aV (nL P T H a):=by
 unfold nL
 repeat' first
  |exact aV.false
  |exact aV.one id _
  |refine aV.and ?_
  |refine aV.ex fun _=>?_
  |split
theorem UF(T:bV)(H:aj)(a x:AV):aV (nA P T H a x):=by
 unfold nA
 repeat' first
  |exact aV.false
  |exact aV.one id _
  |refine aV.and ?_
  |refine aV.ex fun _=>?_
  |split
theorem Sl(T:bV)(a:AV)(f:Nat):aV (ni P T a f):=by
 unfold ni
 repeat' first
  |exact aV.false
  |exact aV.one id _
  |refine aV.and ?_
  |refine aV.ex fun _=>?_
  |split
theorem Sk(T:bV)(H:aj)(a i:AV):aV (nh P T H a i):=by
 unfold nh
 repeat' first
  |exact aV.false
  |exact aV.one id _
  |refine aV.and ?_
  |refine aV.ex fun _=>?_
  |split
theorem S8(T X:bV)(H:aj)(s x:AV):aV (nq P T X H s x):=by
 unfold nq
 repeat' first
  |exact aV.false
  |exact aV.one id _
  |refine aV.and ?_
  |refine aV.ex fun _=>?_
  |refine aV.ite ?_ ?_
  |split
theorem Ju{α:Type}{F:Nat->(α->Prop)->Prop}(x:Option AV)(d:Nat)(h:∀n,aV (F n)):aV (fun K=>gu x d (fun n=>F n K)):=by
 unfold gu
 split
 ·exact h _
 ·exact aV.and (h _)
 ·exact aV.false
theorem UG(T:bV)(H:aj)(x:AV)(lo hi a:Option AV):aV (nB P T H x lo hi a):=by
 unfold nB;refine aV.and ?_
 repeat' first
  |exact aV.false
  |exact aV.one id _
  |refine aV.and ?_
  |refine Ju _ _ fun _=>?_
  |refine aV.ite ?_ ?_
  |split
theorem S7(T:bV)(H:aj)(x:AV)(lo hi:Option AV)(m:AV):aV (qh P T H x lo hi m):=by
 unfold qh
 repeat' first
  |exact aV.false
  |exact aV.one id _
  |refine aV.and ?_
  |refine Ju _ _ fun _=>?_
  |split
theorem VY(op:cv)(T:bV)(c:Bool)(H:aj)(x y:AV)(f:PV->aW):aV (fun K:aW->Prop=>kf P op T c H x y (fun v=>K (f v))):=by
 unfold kf
 repeat' first
  |exact aV.false
  |exact aV.one f _
  |refine aV.and ?_
  |(unfold pf;split)
  |(unfold pc;split)
  |split
theorem Ci(o:Oper)(ρ:b1->AV)(H:aj):aV (fu P ag o ρ H):=by
 unfold fu
 repeat' first
  |exact aV.false
  |exact aV.one id _
  |exact U3 _ _ _
  |exact UF _ _ _ _
  |exact Sl _ _ _
  |exact Sk _ _ _ _
  |exact UG _ _ _ _ _ _
  |exact S7 _ _ _ _ _ _
  |exact S8 _ _ _ _ _
  |exact VY _ _ _ _ _ _ _
  |refine aV.and ?_
  |refine aV.ex fun _=>?_
  |refine aV.ite ?_ ?_
  |refine aV.or ?_ ?_
  |split
  |dsimp only
theorem Iz(d:Bool)(f:b2)(args:List AV)(H:aj){α:Type}(g:AV->aj->α):aV (fun K:α->Prop=>gO P d f args H (fun v H'=>K (g v H'))):=by
 unfold gO;refine aV.or (aV.ex fun vs=>aV.ex fun v=>aV.and (aV.and ?_)) (aV.and (aV.or (aV.ex fun vs=>aV.ex fun H1=>aV.ex fun v=>aV.and (aV.and ?_)) (aV.or (aV.ex fun H'=>aV.ex fun v=>aV.and ?_) (aV.or (aV.ex fun e=>aV.and (aV.and ?_)) (aV.ex fun al=>aV.ex fun v=>aV.and (aV.and ?_))))))
 ·exact aV.one (fun v=>g (.p v) H) v
 ·exact aV.one (fun v=>g (.p v) H1) v
 ·exact aV.one (fun v=>g v H') v
 ·exact aV.one (fun _:Unit=>g e.v (bc H e.aM++e.aS)) ()
 ·exact aV.one (fun v=>g (.p v) H) v
theorem HP(f:b2)(args:List AV)(H:aj):aV (gU P f args H):=by
 unfold gU;refine aV.or (aV.ex fun vs=>aV.ex fun v=>aV.and (aV.and (aV.one id _))) (aV.or (aV.ex fun vs=>aV.ex fun bs=>aV.ex fun al=>aV.ex fun aM=>aV.ex fun v=>aV.and (aV.and (aV.and (aV.one id _)))) (aV.or (aV.ex fun e=>aV.and (aV.and (aV.one id _))) (aV.ex fun al=>aV.ex fun v=>aV.and (aV.and (aV.one id _)))))
theorem Ix(d:Bool)(o:Oper)(s:St):aV (fun K=>jw P ag d o K s):=by
 unfold jw
 split
 ·split
  ·exact Iz _ _ _ _ (fun v H'=>(⟨put o.dst v s.env,H'⟩:St))
  ·exact Iz _ _ _ _ (fun v H'=>(⟨put o.dst v s.env,H'⟩:St))
  ·exact aV.ex fun H'=>aV.ex fun v=>aV.and (aV.one (fun _:Unit=>(⟨put o.dst v s.env,H'⟩:St)) ())
  ·exact aV.false
 ·exact(Ci o _ _).map (fun e=>e.app o.dst s)
theorem Iy(o:Oper)(s:St):aV (jg P ag o s):=by
 unfold jg
 split
 ·split
  ·exact HP _ _ _
  ·exact HP _ _ _
  ·exact aV.ex fun e=>aV.and (aV.and (aV.one id _))
  ·exact aV.false
 ·exact Ci o _ _
theorem xX(d:Bool)(a:Array Oper):∀(l:List Oper)(s:St),aV (fun K=>gP P ag d a l K s)
 |[],s=>by simp only[gP];exact aV.one id s
 |o::l,s=>by
  have go:aV (fun K=>jw P ag d o (gP P ag d a l K) s):=(Ix d o s).bind fun t=>xX d a l t;simp only[gP]
  split
  ·exact go
  ·split
   ·split
    ·exact go
    ·exact xX d a l _
   ·exact xX d a l _
   ·exact aV.false
theorem xG(b:Array Oper):∀(l:List Oper)(i:Nat)(a:List Touch)(s:St),aV (fun K=>fW P ag b l i a K s)
 |[],i,a,s=>by simp only[fW];exact aV.and (aV.one id s)
 |o::l,i,a,s=>by
  have go:aV (fun K=>jg P ag o s fun e=>fW P ag b l (i+1) (fP i s.heap.length e a) K (e.app o.dst s)):=(Iy o s).bind fun e=>xG b l (i+1) _ _;simp only[fW]
  split
  ·exact go
  ·split
   ·split
    ·exact go
    ·exact xG b l (i+1) a _
   ·exact xG b l (i+1) a _
   ·exact aV.false
def zl(F:(bu->St->Prop)->Prop):Prop:=∀Q,F Q->∃e s,Q e s/\∀a:bu->St->Prop,a e s->F a
inductive vt(P:bI)(ag:b2->Bool)(q:Cx)(b:Code)(e:bu)(s:St):Nat->St->Prop
 |stop {k:Nat} {u:St}:(∀Q:bu->St->Prop,Q e s->cd P ag q b Q u)->e≠.normal->vt P ag q b e s k u
 |step {k m:Nat} {u s1 u':St}:(∀Q:bu->St->Prop,Q .normal s1->cd P ag q b Q u)->m<k->dc q.2 s1 u'->vt P ag q b e s m u'->vt P ag q b e s k u
theorem U4(j:Option Code)(s:St):zl (fun Q=>je Q j s):=fun Q h=>by
 unfold je at h
 split at h
 ·exact⟨.normal,s,h,fun _ h=>h⟩
 ·rename_i id;exact⟨.exit id,s,h,fun _ h=>h⟩
 ·exact⟨.ret,s,h,fun _ h=>h⟩
 ·exact h.elim
theorem Iw(b:Nat)(env:Env)(H:aj):zl (fun Q=>il b env Q H):=fun Q h=>by
 unfold il at h
 split at h
 ·rename_i L f;obtain⟨e,s,c,d⟩:=U4 _ _ Q h.2;exact⟨e,s,c,fun a hq=>by unfold il;simp only[f];exact⟨h.1,d a hq⟩⟩
 ·exact h.elim
theorem UN(it:AV)(b:Nat)(H:aj)(env:Env):zl (fun Q=>ja P it b H (il b env Q)):=fun Q h=>by
 unfold ja at h
 split at h
 ·obtain⟨H',v,c,d⟩:=h;obtain⟨e,s,k1,k2⟩:=Iw b env H' Q d;exact⟨e,s,k1,fun a hq=>by simp only[ja];exact⟨H',v,c,k2 a hq⟩⟩
 ·obtain⟨H',v,c,d⟩:=h;obtain⟨e,s,k1,k2⟩:=Iw b env H' Q d;exact⟨e,s,k1,fun a hq=>by simp only[ja];exact⟨H',v,c,k2 a hq⟩⟩
 ·exact h.elim
theorem mZ{q:Cx}:∀(c:Code)(s:St),zl (fun Q=>cd P ag q c Q s)
 | .skip,s| .label _,s=>fun Q h=>⟨.normal,s,h,fun _ h=>h⟩
 | .exit id,s=>fun Q h=>⟨.exit id,s,h,fun _ h=>h⟩
 | .ret,s=>fun Q h=>⟨.ret,s,h,fun _ h=>h⟩
 | .region id ops draw,s=>fun Q h=>by
  simp only[cd]at h⊢
  split at h
  ·rename_i l;obtain⟨t,d,g⟩:=xG ops _ _ _ _ _ h;exact⟨.normal,t,d,fun Q' h=>by simp only[l,if_true];exact g _ h⟩
  ·rename_i l;obtain⟨t,d,g⟩:=xX _ ops _ _ _ h;exact⟨.normal,t,d,fun Q' h=>by rw[if_neg l];exact g _ h⟩
 | .seq a b,s=>fun Q h=>by
  simp only[cd]at h⊢;obtain⟨e,t,d,g⟩:=mZ a s _ h;cases e with
  |normal=>
   obtain⟨e',r,k,y⟩:=mZ b t _ d;exact⟨e',r,k,fun Q' h=>g _ (y Q' h)⟩
  |exit id=>exact⟨.exit id,t,d,fun Q' h=>g _ h⟩
  |ret=>exact⟨.ret,t,d,fun Q' h=>g _ h⟩
 | .cond c a b,s=>fun Q h=>by
  simp only[cd]at h⊢
  split at h
  ·split at h
   ·rename_i p;obtain⟨e,t,d,g⟩:=mZ a s _ h;exact⟨e,t,d,fun Q' h=>by rw[if_pos p];exact g _ h⟩
   ·rename_i p;obtain⟨e,t,d,g⟩:=mZ b s _ h;exact⟨e,t,d,fun Q' h=>by rw[if_neg p];exact g _ h⟩
  ·exact h.elim
 | .block id b,s=>fun Q h=>by
  simp only[cd]at h⊢;obtain⟨e,t,d,g⟩:=mZ b s _ h;cases e with
  |normal=>exact⟨.normal,t,d,fun Q' h=>g _ h⟩
  |exit i=>
   by_cases hi:i=id
   ·simp only[hi,if_true]at d;exact⟨.normal,t,d,fun Q' h=>g _ (by simp only[hi,if_true];exact h)⟩
   ·simp only[hi,if_false]at d;exact⟨.exit i,t,d,fun Q' h=>g _ (by simp only[hi,if_false];exact h)⟩
  |ret=>exact⟨.ret,t,d,fun Q' h=>g _ h⟩
 | .scope b,s=>fun Q h=>by simp only[cd]at h⊢;exact mZ b s Q h
 | .loop b,s=>fun Q h=>by
  simp only[cd]at h⊢;obtain⟨I,⟨w,t0,hf,hI⟩,F⟩:=h;have key:∀(n:Nat)(t:St),I n t->∃e u,Q e u/\e≠.normal/\vt P ag q b e u n t:=by
   intro n
   induction n using hX with
   |_ n G=>
    intro t hI;obtain⟨e,s1,d,g⟩:=mZ b t _ (F n t hI);cases e with
    |normal=>
     obtain⟨m,r,j,o,z⟩:=d;obtain⟨e,u,k1,k2,k3⟩:=G m j r z;exact⟨e,u,k1,k2,.step g j o k3⟩
    |exit id=>exact⟨.exit id,s1,d,by simp,.stop g (by simp)⟩
    |ret=>exact⟨.ret,s1,d,by simp,.stop g (by simp)⟩
  obtain⟨e,u,d,g,k⟩:=key w t0 hI;refine⟨e,u,d,fun Q' v=>⟨vt P ag q b e u,⟨w,t0,hf,k⟩,?_⟩⟩;intro n t C;cases C with
  |stop hs E=>
   refine hs _ ?_;cases e with
   |normal=>exact(E rfl).elim
   |exit id=>exact v
   |ret=>exact v
  |step hs j o D=>exact hs _ ⟨_,_,j,o,D⟩
 | .rangeFunc f H a b,s=>fun Q h=>by
  simp only[cd]at h;obtain⟨A,x,B,h⟩:=h;obtain⟨e,t,d,g⟩:=UN _ _ _ _ Q h;exact⟨e,t,d,fun Q' hq=>by simp only[cd];exact⟨A,x,B,g Q' hq⟩⟩
 | .goto _,_| .refuse _,_=>fun Q h=>by simp[cd]at h
def Spec(P:bI)(f:b2)(args:List PV)(Q:PV->Prop):Prop:=∃v,au P f args v/\Q v
def zo(P:bI)(a:List ResultVar)(Q:PV->Prop)(e:bu)(s:St):Prop:=
 (match e with
  | .exit _=>False
  |_=>True)/\∃vs,fC P s a=some vs/\∃v,et s.heap 9 (oneOf vs)=some v/\Q v
theorem Spec.mono{f:b2}{args:List PV}{Q a:PV->Prop}(h:Spec P f args Q)(hq:∀v,Q v->a v):Spec P f args a:=by
 obtain⟨v,b,c⟩:=h;exact⟨v,b,hq v c⟩
end
def nH(id:Nat)(Q:bu->St->Prop)(e:bu)(s:St):Prop:=
 match e with
 | .exit i=>if i=id then Q .normal s else Q (.exit i) s
 |e=>Q e s
theorem SC{id:Nat}{Q:bu->St->Prop}{s:St}:nH id Q .normal s=Q .normal s:=(rfl)
theorem T0{id i:Nat}{Q:bu->St->Prop}{s:St}:nH id Q (.exit i) s=if i=id then Q .normal s else Q (.exit i) s:=(rfl)
theorem U6{id:Nat}{Q:bu->St->Prop}{s:St}:nH id Q .ret s=Q .ret s:=(rfl)
def sY(N n:Nat)(I:Nat->St->Prop)(Q:bu->St->Prop)(e:bu)(s:St):Prop:=
 match e with
 | .normal=>∃a b,a<n/\dc N s b/\I a b
 |e=>Q e s
theorem Sq{N n:Nat}{I:Nat->St->Prop}{Q:bu->St->Prop}{s:St}:sY N n I Q .normal s=∃a b,a<n/\dc N s b/\I a b:=(rfl)
theorem Tb{N n id:Nat}{I:Nat->St->Prop}{Q:bu->St->Prop}{s:St}:sY N n I Q (.exit id) s=Q (.exit id) s:=(rfl)
theorem UJ{N n:Nat}{I:Nat->St->Prop}{Q:bu->St->Prop}{s:St}:sY N n I Q .ret s=Q .ret s:=(rfl)
section Dy
variable{P:bI}
@[congr] theorem aDt{b:Array Oper}{l a:List Touch}(h:l=a):iy b l=iy b a:=by rw[h]
end Dy
section
variable{P:bI}{ag:b2->Bool}
abbrev eC:=Option (Prop×aW)
def bh(r:eC)(K:aW->Prop):Prop:=
 match r with
 |some (p,e)=>p/\K e
 |none=>False
theorem US{p:Prop}{e:aW}{K:aW->Prop}:bh (some (p,e)) K=(p/\K e):=(rfl)
theorem Vs{K:aW->Prop}:bh none K=False:=(rfl)
@[congr] theorem aL9{r a:eC}{K:aW->Prop}(h:r=a):bh r K=bh a K:=by rw[h]
def Can(F:(aW->Prop)->Prop)(r:eC):Prop:=∀K,bh r K->F K
theorem Can.none{F:(aW->Prop)->Prop}:Can F none:=fun _ h=>h.elim
def pg(P:bI)(T:bV)(H:aj)(a:AV):eC:=
 match a with
 | .ptr b path=>match H[b]? with
  |some (.box fz t)=>match eK t path with
   |some s=>some (kindOf P T=aa s,{v:=s,al:=[(b,.box fz t)]})
   |none=>none
  |_=>none
 | .bZ b az ai i path=>match H[b]? with
  |some (.arr k d c es)=>match es[i]? with
   |some x=>match eK x path with
    |some s=>some ((az=d/\ai=c)/\kindOf P T=aa s,{v:=s,al:=[(b,.arr k d c es)]})
    |none=>none
   |none=>none
  |_=>none
 | .p (.cm t)=>some (kindOf P T=aL t,{v:=.p t})
 |_=>none
theorem XH{T:bV}{H:aj}{a:AV}:Can (nL P T H a) (pg P T H a):=by
 intro K h;unfold pg at h;unfold nL
 split at h
 ·split at h
  ·rename_i b
   split at h
   ·rename_i hs;simp only[bh]at h;simp only[b,hs];exact h
   ·exact h.elim
  ·exact h.elim
 ·split at h
  ·rename_i b
   split at h
   ·rename_i x hx;obtain⟨hi,hx⟩:=g9.1 hx
    split at h
    ·rename_i hs;simp only[bh]at h;simp only[b];exact⟨h.1.1.1,h.1.1.2,hi,by rw[hx,hs];exact⟨h.1.2,h.2⟩⟩
    ·exact h.elim
   ·exact h.elim
  ·exact h.elim
 ·exact h
 ·exact h.elim
def oX(P:bI)(T:bV)(H:aj)(a x:AV):eC:=
 match a with
 | .ptr b path=>match H[b]? with
  |some (.box false t)=>match eK t path,fL t path x with
   |some s,some d=>some ((kindOf P T=aa x/\aa x≠.bad)/\aa s=aa x,{v:=.p (.aC []),al:=[(b,.box false t)],aM:=[(b,.box false d)]})
   |_,_=>none
  |_=>none
 | .bZ b az ai i path=>match H[b]? with
  |some (.arr k e c es)=>match es[i]? with
   |some y=>match eK y path,fL y path x with
    |some s,some d=>some ((kindOf P T=aa x/\aa x≠.bad)/\(az=e/\ai=c/\k≠.frozen)/\aa s=aa x,{v:=.p (.aC []),al:=[(b,.arr k e c es)],aM:=[(b,.arr k e c (es.set i d))]})
    |_,_=>none
   |none=>none
  |_=>none
 |_=>none
theorem Wl{T:bV}{H:aj}{a x:AV}:Can (nA P T H a x) (oX P T H a x):=by
 intro K h;unfold oX at h;unfold nA
 split at h
 ·split at h
  ·rename_i b
   split at h
   ·rename_i hs c;simp only[bh]at h;simp only[b,hs,c];exact⟨h.1.1.1,h.1.1.2,h.1.2,h.2⟩
   ·exact h.elim
  ·exact h.elim
 ·split at h
  ·rename_i b
   split at h
   ·rename_i y d;obtain⟨hi,d⟩:=g9.1 d
    split at h
    ·rename_i hs c;simp only[bh]at h;simp only[b];exact⟨h.1.1.1,h.1.1.2,h.1.2.1.1,h.1.2.1.2.1,h.1.2.1.2.2,hi,by rw[d,hs,c];exact⟨h.1.2.2,h.2⟩⟩
    ·exact h.elim
   ·exact h.elim
  ·exact h.elim
 ·exact h.elim
def oC(P:bI)(T:bV)(a:AV)(f:Nat):eC:=
 match eX P T with
 |some (u,n)=>match a with
  | .ptr b path=>some (f<n,{v:=.ptr b (path++[(u,f)])})
  | .bZ b az ai i path=>some (f<n,{v:=.bZ b az ai i (path++[(u,f)])})
  | .p (.cm t)=>match(bW t)[f]? with
   |some g=>some (f<n/\aL t=.agg u,{v:=.p (.cm g)})
   |none=>none
  |_=>none
 |_=>none
theorem Sz{T:bV}{a:AV}{f:Nat}:Can (ni P T a f) (oC P T a f):=by
 intro K h;unfold oC at h;unfold ni
 split at h
 ·rename_i hs;simp only[hs]
  split at h
  ·exact h
  ·exact h
  ·split at h
   ·rename_i b;simp only[bh]at h;simp only[b];exact⟨h.1.1,h.1.2,h.2⟩
   ·exact h.elim
  ·exact h.elim
 ·exact h.elim
def oB(P:bI)(T:bV)(H:aj)(x i:AV):eC:=
 match i with
 | .p (.int _ i)=>match x with
  | .p (.cN _ es)=>match es[i.toNat]? with
   |some y=>some (0<=i/\cC P T=some (bD P (aL y)),{v:=.p (.cm y)})
   |none=>none
  | .p (.seq es)=>match es[i.toNat]? with
   |some y=>some (0<=i/\cC P T=some (bD P (aL y)),{v:=.p (.cm y)})
   |none=>none
  | .sl b az ai off len=>match H[b]? with
   |some (.arr k c a es)=>some (0<=i/\cC P T=some ai/\i.toNat<len/\az=c/\ai=a/\¬(k.gr=true/\es=[]),{v:=.bZ b az ai (off+i.toNat) [],al:=[(b,.arr k c a es)]})
   |_=>none
  | .ptr b path=>match gW P T with
   |some (u,n)=>some (0<=i/\i.toNat<n,{v:=.ptr b (path++[(u,i.toNat)])})
   |_=>none
  | .bZ b az ai j path=>match gW P T with
   |some (u,n)=>some (0<=i/\i.toNat<n,{v:=.bZ b az ai j (path++[(u,i.toNat)])})
   |_=>none
  | .p (.cm t)=>match gW P T with
   |some (u,n)=>match(bW t)[i.toNat]? with
    |some g=>some (0<=i/\aL t=.agg u/\i.toNat<n,{v:=.p (.cm g)})
    |none=>none
   |_=>none
  |_=>none
 |_=>none
theorem Sy{T:bV}{H:aj}{x i:AV}:Can (nh P T H x i) (oB P T H x i):=by
 intro K h;unfold oB at h;unfold nh
 split at h
 case h_2=>exact h.elim
 split at h
 ·split at h
  ·rename_i y a;obtain⟨hi,a⟩:=g9.1 a;simp only[bh]at h;exact⟨h.1.1,hi,by rw[a];exact h.1.2,by rw[a];exact h.2⟩
  ·exact h.elim
 ·split at h
  ·rename_i y a;obtain⟨hi,a⟩:=g9.1 a;simp only[bh]at h;exact⟨h.1.1,hi,by rw[a];exact h.1.2,by rw[a];exact h.2⟩
  ·exact h.elim
 ·split at h
  ·rename_i l;simp only[bh]at h;obtain⟨⟨b,c,d,e,f,g⟩,j⟩:=h;refine⟨b,c,d,?_⟩;rw[l];exact⟨e,f,g,j⟩
  ·exact h.elim
 ·split at h
  ·rename_i hs;simp only[bh]at h;simp only[hs];exact⟨h.1.1,h.1.2,h.2⟩
  ·exact h.elim
 ·split at h
  ·rename_i hs;simp only[bh]at h;simp only[hs];exact⟨h.1.1,h.1.2,h.2⟩
  ·exact h.elim
 ·split at h
  ·rename_i hs
   split at h
   ·rename_i k;simp only[bh]at h;simp only[hs,k];exact⟨h.1.1,h.1.2.1,h.1.2.2,h.2⟩
   ·exact h.elim
  ·exact h.elim
 ·exact h.elim
end
section
variable{P:bI}{ag:b2->Bool}
def oW(P:bI)(T X:bV)(H:aj)(s x:AV):eC:=
 match cC P T,gJ H x with
 |some sz,some xs=>match s with
  | .p .aO=>some ((iI P X=true/\(ct P (dY P T)).isSome=true/\eM P sz xs)/\xs.length<=cW,
   if xs.isEmpty then{v:=s,al:=dB H x}else{v:=.sl H.length 0 sz 0 xs.length,al:=dB H x,aS:=[.arr (gk P T) 0 sz xs]})
  | .sl b az ai off len=>match H[b]? with
   |some (.arr k c a es)=>some ((iI P X=true/\(ct P (dY P T)).isSome=true/\eM P sz xs)/\(az=c/\ai=a/\ai=sz/\off+len<=es.length)/\es.length+xs.length<=cW/\k≠ .frozen/\(k≠ .exact->off=0)/\(k= .bytes->dY P T=Gl.u8),
    if xs.isEmpty then{v:=s,al:=(b,.arr k c a es)::dB H x}
    else match k with
     | .exact=>if off+len+xs.length<=es.length then
      {v:=.sl b az ai off (len+xs.length),al:=(b,.arr k c a es)::dB H x,aM:=[(b,.arr .exact az ai (es.take (off+len)++xs++es.drop (off+len+xs.length)))]}
      else{v:=.sl H.length 0 sz 0 (len+xs.length),al:=(b,.arr k c a es)::dB H x,aS:=[.arr (gk P T) 0 sz ((es.drop off).take len++xs)]}
     |_=>{v:=.sl b (az+1) ai 0 (len+xs.length),al:=(b,.arr k c a es)::dB H x,aM:=[(b,.arr k (az+1) ai (es.take len++xs))]})
   |_=>none
  |_=>none
 |_,_=>none
theorem T7{T X:bV}{H:aj}{s x:AV}:Can (nq P T X H s x) (oW P T X H s x):=by
 intro K h;unfold oW at h;unfold nq
 split at h
 case h_2=>exact h.elim
 rename_i sz p i j;simp only[i,j]
 split at h
 ·simp only[bh]at h;obtain⟨⟨⟨b,a2,a3⟩,a4⟩,hk⟩:=h;refine⟨b,a2,a3,?_⟩;dsimp only
  split
  ·rename_i a;rw[if_pos a]at hk;exact hk
  ·rename_i a;rw[if_neg a]at hk;exact⟨a4,hk⟩
 ·split at h
  case h_2=>exact h.elim
  rename_i k o n m l;simp only[bh]at h;obtain⟨⟨⟨b,a2,a3⟩,⟨rfl,rfl,e,f⟩,g,a9,c,d⟩,hk⟩:=h;refine⟨b,a2,a3,?_⟩;simp only[l];refine⟨trivial,trivial,e,f,?_⟩
  split
  ·rename_i a;rw[if_pos a]at hk;exact hk
  ·rename_i a;rw[if_neg a]at hk;refine⟨g,?_⟩;cases k with
   |frozen=>exact a9 rfl
   |exact=>
    simp only at hk⊢
    split
    ·rename_i hc;rw[if_pos hc]at hk;exact hk
    ·rename_i hc;rw[if_neg hc]at hk;exact hk
   |grow=>exact⟨c (by simp),fun h=>(by cases h),hk⟩
   |bytes=>exact⟨c (by simp),d,hk⟩
 ·exact h.elim
def kr(x:Option AV)(d:Nat):Option (Prop×Nat):=
 match x with
 |none=>some (True,d)
 |some (.p (.int _ i))=>some (0<=i,i.toNat)
 |_=>none
theorem mu{x:Option AV}{d n:Nat}{p:Prop}{K:Nat->Prop}(h:kr x d=some (p,n))(a:p)(hk:K n):gu x d K:=by
 unfold kr at h;unfold gu
 split at h
 ·simp only[h3,Prod.mk.injEq]at h;obtain⟨rfl,rfl⟩:=h;exact hk
 ·simp only[h3,Prod.mk.injEq]at h;obtain⟨rfl,rfl⟩:=h;exact⟨a,hk⟩
 ·cases h
def oZ(P:bI)(T:bV)(H:aj)(x:AV)(lo hi:Option AV):eC:=
 match x with
 | .p (.str s)=>match kr hi s.length,kr lo 0 with
  |some (p,h),some (q,l)=>some (iA P T=true/\p/\q/\h<=s.length/\l<=h,{v:=.p (.str ((s.take h).drop l))})
  |_,_=>none
 | .p .aO=>match kr hi 0,kr lo 0 with
  |some (p,h),some (q,l)=>some ((cC P T).isSome=true/\p/\q/\h<=0/\l<=h,{v:=.p .aO})
  |_,_=>none
 | .p (.cN full es)=>match kr hi es.length,kr lo 0,cC P T with
  |some (p,h),some (q,l),some sz=>some (p/\q/\h<=es.length/\l<=h/\eM P sz (es.map .p),{v:=.p (.cN (full&&h==es.length) ((es.take h).drop l))})
  |_,_,_=>none
 | .p (.seq es)=>match kr hi es.length,kr lo 0,cC P T with
  |some (p,h),some (q,l),some sz=>some (p/\q/\h<=es.length/\l<=h/\eM P sz (es.map .p),{v:=.p (.seq ((es.take h).drop l))})
  |_,_,_=>none
 | .sl b az ai off len=>match H[b]? with
  |some (.arr k c a es)=>match kr hi len,kr lo 0 with
   |some (p,h),some (q,l)=>some ((az=c/\ai=a/\cC P T=some ai/\¬(k.gr=true/\es=[])/\off+len<=es.length)/\p/\q/\off+h<=es.length/\l<=h,
    if l=0 then{v:=.sl b az ai off h,al:=[(b,.arr k c a es)]}
    else if l=h then{v:=.p (.cN false []),al:=[(b,.arr k c a es)]}
    else{v:=.sl b az ai (off+l) (h-l),al:=[(b,.arr k c a es)]})
   |_,_=>none
  |_=>none
 |_=>none
theorem Wm{T:bV}{H:aj}{x:AV}{lo hi:Option AV}:Can (nB P T H x lo hi none) (oZ P T H x lo hi):=by
 intro K h;unfold oZ at h;unfold nB;refine⟨rfl,?_⟩
 split at h
 ·split at h
  case h_2=>exact h.elim
  rename_i a b;simp only[bh]at h;obtain⟨⟨c,a2,a3,a4,a5⟩,hk⟩:=h;exact⟨c,mu a a2 (mu b a3 ⟨a4,a5,hk⟩)⟩
 ·split at h
  case h_2=>exact h.elim
  rename_i a b;simp only[bh]at h;obtain⟨⟨c,a2,a3,a4,a5⟩,hk⟩:=h;exact⟨c,mu a a2 (mu b a3 ⟨a4,a5,hk⟩)⟩
 ·split at h
  case h_2=>exact h.elim
  rename_i a b e;simp only[bh]at h;obtain⟨⟨a2,a3,a4,a5,d⟩,hk⟩:=h;refine mu a a2 (mu b a3 ⟨a4,a5,?_⟩);simp only[e];exact⟨d,hk⟩
 ·split at h
  case h_2=>exact h.elim
  rename_i a b e;simp only[bh]at h;obtain⟨⟨a2,a3,a4,a5,d⟩,hk⟩:=h;refine mu a a2 (mu b a3 ⟨a4,a5,?_⟩);simp only[e];exact⟨d,hk⟩
 ·split at h
  case h_2=>exact h.elim
  rename_i i
  split at h
  case h_2=>exact h.elim
  rename_i a b;simp only[bh]at h;obtain⟨⟨⟨c,a2,a3,a4,a5⟩,d,f,g,a9⟩,hk⟩:=h;simp only[i];refine⟨c,a2,a3,a4,a5,mu a d (mu b f ⟨g,a9,?_⟩)⟩
  split
  ·rename_i hc;rw[if_pos hc]at hk;exact hk
  ·rename_i hc;rw[if_neg hc]at hk
   split
   ·rename_i hc;rw[if_pos hc]at hk;exact hk
   ·rename_i hc;rw[if_neg hc]at hk;exact hk
 ·exact h.elim
def qY(P:bI)(T:bV)(H:aj)(x key:AV)(ok:Bool):eC:=
 match kU P T,key with
 |some (a,E),.p key=>match ct P E with
  |some z=>match x with
   | .p .fc=>some (fO P a key=true,{v:=.p (if ok then .aC [z,.bool false]else z)})
   | .p (.dT es)=>match fE P a es key with
    |some r=>some (fO P a key=true,{v:= .p (match r with
      |some v=>if ok then .aC [v,.bool true]else v
      |none=>if ok then .aC [z,.bool false]else z)})
    |none=>none
   | .map b=>match H[b]? with
    |some (.map fz es)=>match fE P a es key with
     |some r=>some (fO P a key=true,{v:= .p (match r with
       |some v=>if ok then .aC [v,.bool true]else v
       |none=>if ok then .aC [z,.bool false]else z),al:=[(b,.map fz es)]})
     |none=>none
    |_=>none
   |_=>none
  |none=>none
 |_,_=>none
def lY(P:bI)(T:bV)(H:aj)(m k x:AV):eC:=
 match kU P T,m,k,x with
 |some (a,_),.map b,.p key,.p v=>match H[b]? with
  |some (.map false es)=>match lO P a es key with
   |some _=>some (fO P a key=true,{v:=.p (.aC []),al:=[(b,.map false es)],aM:=[(b,.map false (fN es key v))]})
   |none=>none
  |_=>none
 |_,_,_,_=>none
def qE(P:bI)(T:bV)(n:Nat)(x:AV):eC:=
 match x with
 | .p (.str s)=>some (iA P T=true,{v:=.ptr n [],aS:=[.du s 0]})
 |_=>none
def re(H:aj)(it:AV):eC:=
 match it with
 | .ptr b []=>match H[b]? with
  |some (.du s pos)=>some (True,if pos<s.length then
   {v:=.p (.aC [.bool true,.int .i64 pos,.int .i32 (g0 (gh s) pos).1]),al:=[(b,.du s pos)],aM:=[(b,.du s (pos+(g0 (gh s) pos).2))]}
   else{v:=.p (.aC [.bool false]),al:=[(b,.du s pos)]})
  |_=>none
 |_=>none
def ri(P:bI)(T:bV)(n:Nat)(l c:AV):eC:=
 match cC P T,ct P (dY P T),l,c with
 |some sz,some z,.p (.int .i64 l),.p (.int .i64 c)=>some (bD P (aL z)=sz/\0<=l/\l=c/\l<=cW,{v:=.sl n 0 sz 0 l.toNat,aS:=[.arr .exact 0 sz (ha l.toNat (.p z))]})
 |_,_,_,_=>none
def copyV(P:bI)(T:bV)(H:aj)(d x:AV):eC:=
 match cC P T,d,gJ H x with
 |some sz,.sl b az ai off len,some xs=>match H[b]? with
  |some (.arr k c a es)=>some ((ai=sz/\eM P sz xs)/\az=c/\ai=a/\k≠ .frozen/\off+len<=es.length/\¬(k.gr=true/\es=[]),
   {v:=.p (.int .i64 (min xs.length len:Nat)),al:=(b,.arr k c a es)::dB H x,aM:=[(b,.arr k c a (es.take off++xs.take (min xs.length len)++es.drop (off+min xs.length len)))]})
  |_=>none
 |_,_,_=>none
def qz(x:AV):eC:=
 match x with
 | .ptr _ _| .bZ _ _ _ _ _| .p (.cm _)=>some (True,{v:=x})
 |_=>none
def ku(b:Bool)(c:List AV):eC:=
 match c with
 | .p (.int k a)::r=>match lJ k b r a with
  |some n=>some (True,{v:=.p (.int k n)})
  |none=>none
 |_=>none
def qW(f:b2)(fi ca:List AV):eC:=
 match eE fi,eE ca with
 |some a,some b=>some (True,{v:=.p (.func f a b)})
 |_,_=>some (True,{v:=.func f fi ca})
end
section
variable{P:bI}{ag:b2->Bool}
def q8(c a b:AV):eC:=
 match c with
 | .p (.bool t)=>some (True,{v:=if t then a else b})
 |_=>none
def qM(P:bI)(T:bV)(n:Nat):eC:=
 match ct P T with
 |some z=>some (kindOf P T=aL z/\aL z≠.bad/\jf T (aL z)=true,{v:=.ptr n [],aS:=[.box false (.p z)]})
 |none=>none
def tD(P:bI)(T:bV)(n:Nat)(x:AV):eC:=some (kindOf P T=aa x/\aa x≠.bad/\jf T (aa x)=true,{v:=.ptr n [],aS:=[.box false x]})
def qK(P:bI)(T:bV)(a:List (Nat×AV)):eC:=
 match kindOf P T,ct P T with
 | .agg u,some z=>match dx P u with
  |some l=>some (aL z=.agg u/\lI P l a,{v:=gY u (iw ((bW z).map .p) a)})
  |none=>none
 |_,_=>none
def pU(P:bI)(T:bV)(n:Nat)(a:List (Nat×AV))(b:Nat):eC:=
 match cC P T,ct P (dY P T)with
 |some sz,some z=>some (bD P (aL z)=sz/\n*sz<=1000000/\lI P (ha n sz) a,{v:=.sl b 0 sz 0 n,aS:=[.arr .exact 0 sz (iw (ha n (.p z)) a)]})
 |_,_=>none
def tM(op:cv)(k:ce)(a b:Int):Prop×PV:=
 match op with
 | .add=>(True,.int k (k.wrap (a+b)))
 | .sub=>(True,.int k (k.wrap (a-b)))
 | .mul=>(True,.int k (k.wrap (a*b)))
 | .quo=>(b≠0,.int k (k.wrap (a.tdiv b)))
 | .rem=>(b≠0,.int k (a.tmod b))
 | .and=>(True,.int k (k.wrap (bl k.bits a&&&bl k.bits b).toNat))
 | .or=>(True,.int k (k.wrap (bl k.bits a|||bl k.bits b).toNat))
 | .xor=>(True,.int k (k.wrap (bl k.bits a^^^bl k.bits b).toNat))
 | .andNot=>(True,.int k (k.wrap (bl k.bits a&&&~~~bl k.bits b).toNat))
 | .eql=>(True,.bool (a==b))
 | .neq=>(True,.bool (a !=b))
 | .lss=>(True,.bool (decide (a<b)))
 | .leq=>(True,.bool (decide (a<=b)))
 | .gtr=>(True,.bool (decide (a>b)))
 | .geq=>(True,.bool (decide (a>=b)))
 | .shl=>(0<=b,.int k (k.wrap (a*2^(min b.toNat k.bits))))
 | .shr=>(0<=b,.int k (a.fdiv (2^(min b.toNat k.bits))))
theorem aeT{op:cv}{k:ce}{a b:Int}{K:PV->Prop}(h:(tM op k a b).1)(hk:K (tM op k a b).2):pf op k a b K:=by
 cases op<;>simp only[tM,pf]at*<;>first|exact hk|exact⟨h,hk⟩
def D3(op:cv)(a b:List Nat):Option (Prop×PV):=
 match op with
 | .add=>some (a.length+b.length<9223372036854775808,.str (a++b))
 | .eql=>some (True,.bool (a==b))
 | .neq=>some (True,.bool (!(a==b)))
 | .lss=>some (True,.bool (iZ a b))
 | .leq=>some (True,.bool (iZ a b||a==b))
 | .gtr=>some (True,.bool (!(iZ a b||a==b)))
 | .geq=>some (True,.bool (!(iZ a b)))
 |_=>none
def gX(P:bI)(op:cv)(T:bV)(c:Bool)(H:aj)(x y:AV):eC:=
 match x,y with
 | .p (.int k a),.p (.int d b)=>some ((k=d\/op=.shl\/op=.shr)/\(tM op k a b).1,{v:=.p (tM op k a b).2})
 | .p (.str a),.p (.str b)=>match D3 op a b with
  |some (p,v)=>some (p,{v:=.p v})
  |none=>none
 | .p (.bool a),.p (.bool b)=>match op with
  | .eql=>some (qC P T=true,{v:=.p (.bool (a==b))})
  | .neq=>some (qC P T=true,{v:=.p (.bool (!(a==b)))})
  |_=>none
 | .p (.st u fs),.p (.st u' gs)=>match iK P 9 T (.st u fs) (.st u' gs),op with
  |some r,.eql=>some (rD P T=true,{v:=.p (.bool r)})
  |some r,.neq=>some (rD P T=true,{v:=.p (.bool !r)})
  |_,_=>none
 |x,y=>match dA P T c y with
  |some k=>match cQ H k x,op with
   |some r,.eql=>some (True,{v:=.p (.bool r),al:=dB H x})
   |some r,.neq=>some (True,{v:=.p (.bool !r),al:=dB H x})
   |_,_=>none
  |none=>none
theorem IV{op:cv}{T:bV}{c:Bool}{H:aj}{x y:AV}{k:tW}{K:PV->Prop}(hk:dA P T c y=some k):kf P op T c H x y K=(match cQ H k x,op with
  |some r,.eql=>K (.bool r)
  |some r,.neq=>K (.bool !r)
  |_,_=>False):=by
 have a:=hk;rcases HX hk with⟨rfl,rfl,_⟩|⟨rfl,rfl,_⟩|⟨rfl,rfl,_⟩|⟨rfl,rfl,_⟩|⟨rfl,rfl,_⟩
 all_goals
  unfold kf;cases x with
  |p v=>
   cases v<;>simp only[a]<;>(generalize cQ H _ _=r;cases r<;>cases op<;>rfl)
  |_=>simp only[a];(generalize cQ H _ _=r;cases r<;>cases op<;>rfl)
theorem YQ{op:cv}{T:bV}{c:Bool}{H:aj}{x y:AV}:Can (fun K=>kf P op T c H x y (fun v=>K {v:=.p v,al:=dB H x})) (gX P op T c H x y):=by
 intro K h;unfold gX at h;unfold kf
 split at h
 ·exact⟨h.1.1,aeT h.1.2 h.2⟩
 ·split at h
  ·rename_i p v a;simp only[bh]at h;show pc op _ _ _;unfold D3 at a
   split at a<;>first
    |(simp only[h3,Prod.mk.injEq]at a
      obtain⟨b,d⟩:=a;rw[<-b,<-d]at h;simp only[pc]
      first|exact h.2|exact⟨h.1,h.2⟩)
    |cases a
  ·exact h.elim
 ·split at h
  ·exact⟨h.1,h.2⟩
  ·exact⟨h.1,h.2⟩
  ·exact h.elim
 ·split at h
  ·rename_i e;simp only[bh]at h;simp only[e];exact⟨h.1,h.2⟩
  ·rename_i e;simp only[bh]at h;simp only[e];exact⟨h.1,h.2⟩
  ·exact h.elim
 ·rename_i b d f g
  split at h
  case h_2=>exact h.elim
  rename_i k hk;clear b d f g;show kf P op T c H x y _;rw[IV hk];generalize cQ H k x=q at h⊢;cases q<;>cases op<;>first|exact h.elim|exact h.2
def rM(op:UnOp)(x:AV):eC:=
 match op,x with
 | .not,.p (.bool b)=>some (True,{v:=.p (.bool (!b))})
 | .neg,.p (.int k n)=>some (True,{v:=.p (.int k (k.wrap (0-n)))})
 | .xor,.p (.int k n)=>some (True,{v:=.p (.int k (k.wrap (bl k.bits (if k.signed then -1 else k.max)^^^bl k.bits n).toNat))})
 |_,_=>none
def qU(P:bI)(S D:bV)(H:aj)(x:AV):eC:=
 match P.underlying S,P.underlying D,x with
 |some _,some (.int k),.p (.int _ n)=>some (True,{v:=.p (.int k (k.wrap n))})
 |some _,some .string,.p (.str s)=>some (True,{v:=.p (.str s)})
 |some (.slice e),some .string,.sl b az ai off len=>match H[b]? with
  |some (.arr k c a es)=>match bytesOf ((es.drop off).take len)with
   |some l=>some ((az=c/\ai=a/\ai=1/\P.underlying e=some (.int .u8)/\0<len/\off+len<=es.length),{v:=.p (.str l),al:=[(b,.arr k c a es)]})
   |none=>none
  |_=>none
 |_,_,_=>none
def qm(t:AV)(i:Nat):eC:=
 match t with
 | .p (.aC vs)=>match vs[i]? with
  |some v=>some (True,{v:=.p v})
  |none=>none
 | .aC vs=>match vs[i]? with
  |some v=>some (True,{v})
  |none=>none
 |_=>none
def qO(P:bI)(T:bV)(x i:AV):eC:=
 match x,i with
 | .p (.str s),.p (.int _ i)=>match s[i.toNat]? with
  |some c=>some (iA P T=true/\0<=i,{v:=.p (.int .u8 c)})
  |none=>none
 | .p (.st u es),.p (.int _ i)=>match gW P T,(jm P u)[i.toNat]?,es[i.toNat]? with
  |some (u',n),some F,some g=>some (u'=u/\0<=i/\i.toNat<n/\kindOf P F=aL g,{v:=.p g})
  |_,_,_=>none
 |_,_=>none
def rG(P:bI)(T:bV)(n:Nat)(H:aj)(x:AV):eC:=
 match lenOf H x with
 |some (m,al)=>some (gR P T x=true/\0<n,{v:=.p (.int .i64 m),al})
 |none=>none
def kx(P:bI)(ag:b2->Bool)(o:Oper)(e:Env)(H:aj)(K:aW->Prop):Prop:=
 match o.op with
 | .move x| .assign x=>K {v:=ev e x}
 | .pick c a b=>bh (q8 (ev e c) (ev e a) (ev e b)) K
 | .alloc T=>bh (qM P T H.length) K
 | .box T x=>bh (tD P T H.length (ev e x)) K
 | .build T parts=>bh (qK P T (parts.toList.map fun(i,x)=>(i,ev e x))) K
 | .buildSlice T n parts=>bh (pU P T n (parts.toList.map fun(i,x)=>(i,ev e x)) H.length) K
 | .load T a=>bh (pg P T H (ev e a)) K
 | .store T a x=>bh (oX P T H (ev e a) (ev e x)) K
 | .binOp op T x y _=>bh (gX P op T (lZ y) H (ev e x) (ev e y)) K
 | .unOp op _ x=>bh (rM op (ev e x)) K
 | .convert S D x=>bh (qU P S D H (ev e x)) K
 | .extract t i=>bh (qm (ev e t) i) K
 | .fieldAddr T a f=>bh (oC P T (ev e a) f) K
 | .indexAddr T x i=>bh (oB P T H (ev e x) (ev e i)) K
 | .index T x i=>bh (qO P T (ev e x) (ev e i)) K
 | .slice T x lo hi none=>bh (oZ P T H (ev e x) (lo.map (ev e)) (hi.map (ev e))) K
 | .lookup T x i ok=>bh (qY P T H (ev e x) (ev e i) ok) K
 | .mapUpdate T m k x| .insert T m k x=>bh (lY P T H (ev e m) (ev e k) (ev e x)) K
 | .range T x=>bh (qE P T H.length (ev e x)) K
 | .next it true=>bh (re H (ev e it)) K
 | .makeSlice T l c=>bh (ri P T H.length (ev e l) (ev e c)) K
 | .nilCheck x=>bh (qz (ev e x)) K
 | .call c=>match c.callee with
  | .builtin .len=>(match c.args.toList with
   |[x]=>bh (rG P (c.argTypes.getD 0 0) c.argTypes.size H (ev e x)) K
   |_=>False)
  | .builtin .append=>(match c.args.toList with
   |[s,x]=>c.argTypes.size=2/\bh (oW P (c.argTypes.getD 0 0) (c.argTypes.getD 1 0) H (ev e s) (ev e x)) K
   |_=>False)
  | .builtin .copy=>(match c.args.toList with
   |[d,x]=>c.argTypes.size=2/\bh (copyV P (c.argTypes.getD 0 0) H (ev e d) (ev e x)) K
   |_=>False)
  | .builtin .min=>bh (ku false (c.args.toList.map (ev e))) K
  | .builtin .max=>bh (ku true (c.args.toList.map (ev e))) K
  |_=>fu P ag o (ev e) H K
 |_=>fu P ag o (ev e) H K
theorem MU{o:Oper}{e:Env}{H:aj}{K:aW->Prop}(h:kx P ag o e H K):fu P ag o (ev e) H K:=by
 unfold kx at h;unfold fu;cases w:o.op<;>simp only[w]at h<;>simp only
 case move|assign=>exact h
 case pick c a b=>
  unfold q8 at h
  split at h
  ·rename_i hc;simp only[hc];exact h.2
  ·exact h.elim
 case alloc T=>
  unfold qM at h
  split at h
  ·rename_i v;simp only[bh]at h;simp only[v];exact⟨h.1.1,h.1.2.1,h.1.2.2,h.2⟩
  ·exact h.elim
 case box T x=>exact⟨h.1.1,h.1.2.1,h.1.2.2,h.2⟩
 case build T parts=>
  unfold qK at h
  split at h
  ·rename_i hk v
   split at h
   ·rename_i A;simp only[bh]at h;simp only[hk,v,A];exact⟨h.1.1,h.1.2,h.2⟩
   ·exact h.elim
  ·exact h.elim
 case buildSlice T n parts=>
  unfold pU at h
  split at h
  ·rename_i hk v;simp only[bh]at h;simp only[hk,v];exact⟨h.1.1,h.1.2.1,h.1.2.2,h.2⟩
  ·exact h.elim
 case load T a=>exact XH K h
 case store T a x=>exact Wl K h
 case binOp op T x y O=>exact YQ K h
 case unOp op T x=>
  unfold rM at h
  split at h
  ·rename_i hx;simp only[hx];exact h.2
  ·rename_i hx;simp only[hx];exact h.2
  ·rename_i hx;simp only[hx];exact h.2
  ·exact h.elim
 case convert S D x=>
  unfold qU at h
  split at h
  ·rename_i g j p;simp only[g,j,p];exact h.2
  ·rename_i g j p;simp only[g,j,p];exact h.2
  ·rename_i g j p
   split at h
   ·rename_i q
    split at h
    ·rename_i A;obtain⟨⟨B,a2,a3,a4,a5,C⟩,h⟩:=h;simp only[g,j,p,q,A];exact⟨B,a2,a3,a4,a5,C,h⟩
    ·exact h.elim
   ·exact h.elim
  ·exact h.elim
 case extract t i=>
  unfold qm at h
  split at h
  ·rename_i F
   split at h
   ·rename_i G;simp only[F,G];exact h.2
   ·exact h.elim
  ·rename_i F
   split at h
   ·rename_i G;simp only[F,G];exact h.2
   ·exact h.elim
  ·exact h.elim
 case fieldAddr T a f=>exact Sz K h
 case indexAddr T x i=>exact Sy K h
 case index T x i=>
  unfold qO at h
  split at h
  ·rename_i hx hi
   split at h
   ·rename_i c hc;obtain⟨L,rfl⟩:=g9.1 hc;simp only[hx,hi];exact⟨h.1.1,h.1.2,L,h.2⟩
   ·exact h.elim
  ·rename_i hx hi
   split at h
   ·rename_i g j p;obtain⟨⟨g1,g2,g3,g4⟩,h⟩:=h;simp only[hx,hi,g,j,p];exact⟨g1,g2,g3,g4,h⟩
   ·exact h.elim
  ·exact h.elim
 case slice T x lo hi N=>
  cases N with
  |none=>exact Wm K h
  |some m=>simp only[fu,w]at h;exact h
 case lookup T x i ok=>
  unfold qY at h
  split at h
  case h_2=>exact h.elim
  rename_i M hi;simp only[M,hi]
  split at h
  case h_2=>exact h.elim
  rename_i z v;simp only[v]
  split at h
  ·rename_i hx;simp only[hx];exact h
  ·rename_i Q hx;simp only[hx]
   split at h
   case h_2=>exact h.elim
   rename_i r u;refine⟨h.1,?_⟩;simp only[u];cases r<;>exact h.2
  ·rename_i b hx;simp only[hx]
   split at h
   case h_2=>exact h.elim
   rename_i q
   split at h
   case h_2=>exact h.elim
   rename_i r u;refine⟨h.1,?_⟩;simp only[q,u];cases r<;>exact h.2
  ·exact h.elim
 case mapUpdate T m k x|insert T m k x=>
  unfold lY at h
  split at h
  case h_2=>exact h.elim
  rename_i g j p E;simp only[g,j,p,E]
  split at h
  case h_2=>exact h.elim
  rename_i q
  split at h
  case h_2=>exact h.elim
  rename_i u;refine⟨h.1,?_⟩;simp only[q,u];exact h.2
 case range T x=>
  unfold qE at h
  split at h
  ·rename_i hx;simp only[hx];exact h
  ·exact h.elim
 case next it s=>
  cases s with
  |false=>simp only[fu,w]at h
  |true=>
   dsimp only at h⊢;unfold re at h
   split at h
   case h_2=>exact h.elim
   rename_i hx;simp only[hx]
   split at h
   case h_2=>exact h.elim
   rename_i q;simp only[q];have h:=h.2
   split
   ·rename_i hc;rw[if_pos hc]at h;exact h
   ·rename_i hc;rw[if_neg hc]at h;exact h
 case makeSlice T l c=>
  unfold ri at h
  split at h
  ·rename_i g j p E;simp only[g,j,p,E];exact⟨h.1.1,h.1.2.1,h.1.2.2.1,h.1.2.2.2,h.2⟩
  ·exact h.elim
 case nilCheck x=>
  unfold qz at h
  split at h
  ·rename_i hx;simp only[hx];rw[hx]at h;exact h.2
  ·rename_i hx;simp only[hx];rw[hx]at h;exact h.2
  ·rename_i hx;simp only[hx];rw[hx]at h;exact h.2
  ·exact h.elim
 case call c=>
  split at h
  ·rename_i hc
   split at h
   ·rename_i x hx;unfold rG at h
    split at h
    ·rename_i A;simp only[bh]at h;simp only[hc,hx,hg,hm,A];exact⟨h.1.1,h.1.2,h.2⟩
    ·exact h.elim
   ·exact h.elim
  ·rename_i hc
   split at h
   ·rename_i s x hx;simp only[hc,hx,hg,hm];exact⟨h.1,T7 K h.2⟩
   ·exact h.elim
  ·rename_i hc
   split at h
   ·rename_i d x hx;simp only[hc,hx,hg,hm];obtain⟨J,h⟩:=h;unfold copyV at h
    split at h
    case h_2=>exact h.elim
    rename_i g j p
    split at h
    case h_2=>exact h.elim
    rename_i q;simp only[bh]at h;obtain⟨⟨⟨B,a2⟩,a3,a4,a5,C,I⟩,hk⟩:=h;simp only[g,j,p,q];exact⟨B,a2,J,a3,a4,a5,C,I,hk⟩
   ·exact h.elim
  ·rename_i hc;unfold ku at h
   split at h
   case h_2=>exact h.elim
   rename_i hx
   split at h
   case h_2=>exact h.elim
   rename_i u;simp only[hc,hx,u];exact h.2
  ·rename_i hc;unfold ku at h
   split at h
   case h_2=>exact h.elim
   rename_i hx
   split at h
   case h_2=>exact h.elim
   rename_i u;simp only[hc,hx,u];exact h.2
  ·unfold fu at h;simp only[w]at h;exact h
 all_goals first
  |exact h
  |(unfold fu at h
    simp only[w]at h;exact h)
  |(unfold fu at h
    simp only[w]at h)
end
section
variable{P:bI}{ag:b2->Bool}
def eh(dst:Option Tmp)(s:St)(K:St->Prop)(e:aW):Prop:=K (e.app dst s)
def zT(dst:Option Tmp)(s:St)(K:St->Prop)(v:AV)(H:aj):Prop:=K ⟨put dst v s.env,H⟩
def qV(P:bI)(f:AV)(args:List AV)(H:aj)(K:AV->aj->Prop):Prop:=
 match f with
 | .p (.func g fi ca)=>gO P false g (fi.map .p++args++ca.map .p) H K
 | .func g fi ca=>gO P false g (fi++args++ca) H K
 | .map b=>∃H' v,fh P b H args H' v/\K v H'
 |_=>False
def qJ(P:bI)(f:AV)(args:List AV)(H:aj)(K:aW->Prop):Prop:=
 match f with
 | .p (.func g fi ca)=>gU P g (fi.map .p++args++ca.map .p) H K
 | .func g fi ca=>gU P g (fi++args++ca) H K
 | .map b=>∃e,nO P b args H.length e/\nT H e/\K e
 |_=>False
def dj(P:bI)(ag:b2->Bool)(o:Oper)(K:St->Prop)(s:St):Prop:=
 match o.op with
 | .call {callee:=.value f,args,.. }=>qV P (ev s.env f) (args.toList.map (ev s.env)) s.heap (zT o.dst s K)
 |_=>kx P ag o s.env s.heap (eh o.dst s K)
def dm(P:bI)(ag:b2->Bool)(o:Oper)(s:St)(K:aW->Prop):Prop:=
 match o.op with
 | .call {callee:=.value f,args,.. }=>qJ P (ev s.env f) (args.toList.map (ev s.env)) s.heap K
 |_=>kx P ag o s.env s.heap K
theorem Vx{o:Oper}{K:St->Prop}{s:St}(h:dj P ag o K s):jw P ag false o K s:=by
 unfold dj at h;unfold jw
 split at h
 ·rename_i f args b a;simp only[a];unfold qV at h
  split at h
  ·rename_i hf;simp only[hf];exact h
  ·rename_i hf;simp only[hf];exact h
  ·rename_i hf;simp only[hf];exact h
  ·exact h.elim
 ·rename_i c
  split
  ·rename_i f args b a;exact(c _ _ _ a).elim
  ·exact MU h
theorem VF{o:Oper}{K:aW->Prop}{s:St}(h:dm P ag o s K):jg P ag o s K:=by
 unfold dm at h;unfold jg
 split at h
 ·rename_i f args b a;simp only[a];unfold qJ at h
  split at h
  ·rename_i hf;simp only[hf];exact h
  ·rename_i hf;simp only[hf];exact h
  ·rename_i hf;simp only[hf];exact h
  ·exact h.elim
 ·rename_i c
  split
  ·rename_i f args b a;exact(c _ _ _ a).elim
  ·exact MU h
def fR(P:bI)(ag:b2->Bool)(a:Array Oper):List Oper->(St->Prop)->St->Prop
 |[],K,s=>K s
 |o::r,K,s=>match o.guard with
  |none=>dj P ag o (fR P ag a r K) s
  |some (j,want)=>match guardOf a j s.env with
   | .p (.bool t)=>if t=want then dj P ag o (fR P ag a r K) s else fR P ag a r K ⟨put o.dst (.p (.aC [])) s.env,s.heap⟩
   | .p (.aC [])=>fR P ag a r K ⟨put o.dst (.p (.aC [])) s.env,s.heap⟩
   |_=>False
def fX(P:bI)(ag:b2->Bool)(a:Array Oper):List Oper->Nat->List Touch->(St->Prop)->St->Prop
 |[],_,acc,K,s=>iy a acc=true/\K s
 |o::r,i,acc,K,s=>match o.guard with
  |none=>dm P ag o s fun e=>fX P ag a r (i+1) (fP i s.heap.length e acc) K (e.app o.dst s)
  |some (j,want)=>match guardOf a j s.env with
   | .p (.bool t)=>if t=want then dm P ag o s fun e=>fX P ag a r (i+1) (fP i s.heap.length e acc) K (e.app o.dst s)
    else fX P ag a r (i+1) acc K ⟨put o.dst (.p (.aC [])) s.env,s.heap⟩
   | .p (.aC [])=>fX P ag a r (i+1) acc K ⟨put o.dst (.p (.aC [])) s.env,s.heap⟩
   |_=>False
theorem yr{b:Array Oper}:∀(l:List Oper){K a:St->Prop}{s:St},(∀s,K s->a s)->fR P ag b l K s->gP P ag false b l a s
 |[],K,a,s,hk,h=>by simp only[fR]at h;simp only[gP];exact hk s h
 |o::l,K,a,s,hk,h=>by
  have go:dj P ag o (fR P ag b l K) s->jw P ag false o (gP P ag false b l a) s:=fun h=>by
   obtain⟨t,f,g⟩:=Ix false o s _ (Vx h);exact g _ (yr l hk f)
  simp only[fR]at h;simp only[gP]
  split at h
  ·rename_i c;simp only[c];exact go h
  ·rename_i j i c;simp only[c]
   split at h
   ·rename_i t d;simp only[d]
    split at h
    ·rename_i e;rw[if_pos e];exact go h
    ·rename_i e;rw[if_neg e];exact yr l hk h
   ·rename_i d;simp only[d];exact yr l hk h
   ·exact h.elim
theorem xN{c:Array Oper}:∀(l:List Oper){i:Nat}{a:List Touch}{K b:St->Prop}{s:St},(∀s,K s->b s)->fX P ag c l i a K s->fW P ag c l i a b s
 |[],i,a,K,b,s,hk,h=>by simp only[fX]at h;simp only[fW];exact⟨h.1,hk s h.2⟩
 |o::l,i,a,K,b,s,hk,h=>by
  have go:dm P ag o s (fun e=>fX P ag c l (i+1) (fP i s.heap.length e a) K (e.app o.dst s))->jg P ag o s (fun e=>fW P ag c l (i+1) (fP i s.heap.length e a) b (e.app o.dst s)):=fun h=>by
   obtain⟨e,k,m⟩:=Iy o s _ (VF h);exact m _ (xN l hk k)
  simp only[fX]at h;simp only[fW]
  split at h
  ·rename_i d;simp only[d];exact go h
  ·rename_i j n d;simp only[d]
   split at h
   ·rename_i t f;simp only[f]
    split at h
    ·rename_i g;rw[if_pos g];exact go h
    ·rename_i g;rw[if_neg g];exact xN l hk h
   ·rename_i f;simp only[f];exact xN l hk h
   ·exact h.elim
def tg(v:AV)(a b:St->Prop)(s:St):Prop:=
 match v with
 | .p (.bool t)=>if t then a s else b s
 |_=>False
def tQ(K:St->Prop)(Q:bu->St->Prop)(e:bu)(s:St):Prop:=
 match e with
 | .normal=>K s
 |e=>Q e s
def di(P:bI)(ag:b2->Bool)(q:Cx):Code->(bu->St->Prop)->St->Prop
 | .skip,Q,s| .label _,Q,s=>Q .normal s
 | .region _ ops draw,Q,s=>if draw then fX P ag ops ops.toList 0 [] (Q .normal) s else fR P ag ops ops.toList (Q .normal) s
 | .seq a b,Q,s=>di P ag q a (tQ (di P ag q b Q) Q) s
 | .cond c a b,Q,s=>tg (ev s.env c) (di P ag q a Q) (di P ag q b Q) s
 | .block id b,Q,s=>di P ag q b (nH id Q) s
 | .scope b,Q,s=>di P ag q b Q s
 | .loop b,Q,s=>∃I:Nat->St->Prop,(∃n t,dc q.2 s t/\I n t)/\∀n t,I n t->di P ag q b (sY q.2 n I Q) t
 | .rangeFunc f d a b,Q,s=>q.2<=s.heap.length/\ja P (ev s.env f) s.heap.length (s.heap++[.loop ⟨.ready,none,q.1,d.toList,a,b,s.env⟩]) (il s.heap.length s.env Q)
 | .exit id,Q,s=>Q (.exit id) s
 | .ret,Q,s=>Q .ret s
 |_,_,_=>False
theorem VO{Q a:bu->St->Prop}(hq:∀e s,Q e s->a e s){j:Option Code}{s:St}(h:je Q j s):je a j s:=by
 unfold je at h⊢
 split at h
 ·exact hq _ _ h
 ·exact hq _ _ h
 ·exact hq _ _ h
 ·exact h.elim
theorem Ig{Q a:bu->St->Prop}(hq:∀e s,Q e s->a e s){b:Nat}{env:Env}{H:aj}(h:il b env Q H):il b env a H:=by
 unfold il at h⊢
 split at h
 ·exact⟨h.1,VO hq h.2⟩
 ·exact h.elim
theorem Ib{it:AV}{b:Nat}{H:aj}{K d:aj->Prop}(hk:∀H,K H->d H)(h:ja P it b H K):ja P it b H d:=by
 unfold ja at h⊢
 split at h
 ·obtain⟨H',v,a,c⟩:=h;exact⟨H',v,a,hk _ c⟩
 ·obtain⟨H',v,a,c⟩:=h;exact⟨H',v,a,hk _ c⟩
 ·exact h.elim
theorem lB{q:Cx}:∀(c:Code){Q Q':bu->St->Prop}{s:St},(∀e s,Q e s->Q' e s)->di P ag q c Q s->cd P ag q c Q' s
 | .skip,Q,Q',s,hq,h| .label _,Q,Q',s,hq,h=>by simp only[di]at h;simp only[cd];exact hq _ _ h
 | .exit _,Q,Q',s,hq,h| .ret,Q,Q',s,hq,h=>by simp only[di]at h;simp only[cd];exact hq _ _ h
 | .region id ops draw,Q,Q',s,hq,h=>by
  simp only[di]at h;simp only[cd]
  split at h
  ·rename_i j;rw[if_pos j];exact xN _ (hq _) h
  ·rename_i j;rw[if_neg j];exact yr _ (hq _) h
 | .seq a b,Q,Q',s,hq,h=>by
  simp only[di]at h;simp only[cd];refine lB a (fun e s d=>?_) h;cases e with
  |normal=>exact lB b hq d
  |exit id=>exact hq _ _ d
  |ret=>exact hq _ _ d
 | .cond c a b,Q,Q',s,hq,h=>by
  simp only[di]at h;simp only[cd];unfold tg at h
  split at h
  ·rename_i t m;simp only[m]
   split at h
   ·rename_i g;rw[if_pos g];exact lB a hq h
   ·rename_i g;rw[if_neg g];exact lB b hq h
  ·exact h.elim
 | .block id b,Q,Q',s,hq,h=>by
  simp only[di]at h;simp only[cd];refine lB b (fun e s d=>?_) h;cases e with
  |normal=>exact hq _ _ d
  |exit i=>
   simp only[nH]at d
   by_cases hi:i=id
   ·simp only[hi,if_true]at d⊢;exact hq _ _ d
   ·simp only[hi,if_false]at d⊢;exact hq _ _ d
  |ret=>exact hq _ _ d
 | .scope b,Q,Q',s,hq,h=>by simp only[di]at h;simp only[cd];exact lB b hq h
 | .loop b,Q,Q',s,hq,h=>by
  simp only[di]at h;simp only[cd];obtain⟨I,k,l⟩:=h;refine⟨I,k,fun n t hI=>lB b (fun e s d=>?_) (l n t hI)⟩;cases e with
  |normal=>exact d
  |exit id=>exact hq _ _ d
  |ret=>exact hq _ _ d
 | .rangeFunc f o a b,Q,Q',s,hq,h=>by
  simp only[di]at h;simp only[cd];exact⟨h.1,s.env,fun _=>rfl,Ib (fun H=>Ig hq) h.2⟩
 | .goto _,_,_,_,_,h| .refuse _,_,_,_,_,h=>by simp[di]at h
end
end Go.ak
