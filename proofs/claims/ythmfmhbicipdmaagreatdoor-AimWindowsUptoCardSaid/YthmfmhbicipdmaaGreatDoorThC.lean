import Derived.Test.YthmfmhbicipdmaaGreatDoorThB
import Derived.Laws.RangeString
import Derived.Lib.UnsafeStr
import Derived.Laws.BytesArg
import Derived.Orders
/- Parts of a proof. -/
set_option linter.unusedSimpArgs false
set_option linter.unusedVariables false
set_option linter.unusedSectionVars false
open Array renaming getElem?_eq_some_iff->aT, getElem?_eq_getElem->a6, ext'->a7, replicate->a8, getElem?_toList->bb, length_toList->be, getD_eq_getD_getElem?->bi, getD->bl, toList_push->bo
open BitVec renaming ofInt->bp
open Bool renaming and_eq_true->bv, or_eq_true->bI, false_eq_true->bV
open Go renaming Program->b2, TypeId->b3, run_underlying->b4, Operand->b5, FuncId->cb, execOp->cc, Value->ce, World->ch, MapEntry->ck, Frame->cv, IntKind->cx, Deferred->cy, BinOp->c6, step_leave_returned->c9, run_storeCells_at->da, Field->db, mem_ready->dg, setRow_other->dk, setRow_heap->dl, getD_set_ne->dp, Steps->dq
open Go.Builtin renaming clear_->dz, unsafeString_->ea, copy_->eb, min2->ec, max2->ed, zeroCells->ee, unsafeSliceData_->ei, min_->ej, max_->em, lenOf->en, cap_->eo
open Go.Call renaming operands->eq
open Go.Instr renaming findAsking->ew, findNow->e6, findKey->e7, checkKey->e8, sameNow->e9, mapUpdate->fb, lookup->fd, next->fl
open Go.MapKept renaming run_getObj_map->fm, bytes_beq->fv
open Go.Op renaming operands->fw
open Go.Region renaming ready->gb, wanted->gc, binds->ge, schedule->gg
open Go.Region.linearise renaming go->gi
open Go.Result renaming andThen_ok->gj, andThen->gm
open Go.Sem renaming run_bind->gt, run_pure->gw, run->gx
open Go.Steps renaming one->gy, trans->gE, refl->g0
open Go.Utf8 renaming decode->g7
open Go.World renaming freeze->g8, cell?->g9
open List renaming getElem?_eq_some_iff->ha, replicate->hb, length_append->hd, getElem?_set_self->he, getElem?_eq_getElem->hg, map_cons->hh, append_nil->hj, mem_cons->hl, all_eq_true->hm, map_nil->hn, contains_iff_mem->ho, any_eq_true->hp, map_append->ht, getElem?_append_left->hu, map_toArray->hv, range->hw, map_map->hy, getElem?_eq_none->hz, mem_of_mem_take->hA, getElem?_set_ne->hB, map_congr_left->hC, getElem?_map->hD, append_assoc->hE, length_eq_zero_iff->hF, mem_of_mem_drop->hG, map->hH, length->hJ, mem_map_of_mem->hK, flatten_append->hL, size_toArray->hM, countP_congr->hN, countP_cons->hO, mem_append->hP, drop_zero->hQ, map_id->hR
open Nat renaming le_refl->hS, lt_trichotomy->hT, lt_irrefl->hU, add_zero->hV, zero_le->hW, le_add_right->hX, strongRecOn->hZ, zero_add->h0, le_total->h2
open Option renaming getD_some->h3
open Option.some renaming injEq->h4, inj->h5
open PUnit renaming unit->h6
open UInt8 renaming toNat_ofNat'->h7, ofNat->h8
namespace Go.ah
set_option linter.unusedSectionVars false
variable[Gl]
section
variable{P:b2}{w:ch}{ad ai:Nat->Prop}{β:Bd}{H:an}
variable{o:Oper}{ρ:b5->AV}{base:Nat}
open Go.MapKept
def nj:PV->Prop
 | .st _ _=>False
 |_=>True
theorem Ms{T:b3}{key:PV}(h:nj key)(k:PV):qq P T key k=jM key k:=by
 cases key<;>first
  |exact h.elim
  |rfl
theorem Vg{T:b3}{key:PV}(h:nj key)(a:List (PV×PV)):mv P T a key=fP P T a key:=by
 cases key<;>first
  |exact h.elim
  |rfl
theorem Je{T:b3}{key:PV}{b:ce}(h:ga P T key=true)(c:nj key)(a:aF P w ad key b):∃d,P.underlying T=some d/\IsKey d b:=by
 unfold ga at h
 split at h
 ·split at h
  ·rename_i e;simp at h;subst h;simp only[aF]at a;subst a;exact⟨_,e,by simp[IsKey]⟩
  ·simp at h
 ·simp only[aF]at a;obtain⟨bs,rfl,_⟩:=a;exact⟨_,yv h,by simp[IsKey]⟩
 ·exact c.elim
 ·simp at h
theorem N5{T:b3}{d:TypeDesc}(j:P.underlying T=some d){key g:PV}{i v':ce}{r:Bool}(h:ga P T key=true)(p:nj key)(c:jM key g=some r)(e:aF P w ad key i)(f:aF P w ad g v'):
 e9 d i v'=some r/\(r=true->i=v'):=by
 unfold ga at h
 split at h
 ·split at h
  ·rename_i k;simp at h;subst h;rw[j]at k;cases k;cases g<;>simp only[jM]at c<;>try (simp at c;done)
   split at c
   ·rename_i hk;subst hk;simp at c;subst c;simp only[aF]at e f;subst e;subst f;simp[e9]
   ·simp at c
  ·simp at h
 ·rename_i hs;have:=yv h;rw[j]at this;cases this;cases g<;>simp only[jM]at c<;>try (simp at c;done)
  simp at c;subst c;simp only[aF]at e f;obtain⟨a,rfl,e1⟩:=e;obtain⟨b,rfl,e2⟩:=f;subst e1;subst e2;have n:(hH (fun x:UInt8=>x.toNat) a.data.toList=hH (fun x:UInt8=>x.toNat) b.data.toList)↔a=b:=by
   constructor
   ·intro h;have:=BT h;apply ByteArray.ext;apply a7;exact this
   ·intro h;rw[h]
  by_cases hc:a=b
  ·subst hc;simp[e9,fv]
  ·have l:¬(hH (fun x:UInt8=>x.toNat) a.data.toList=hH (fun x:UInt8=>x.toNat) b.data.toList):=fun h=>hc (n.1 h);have m:(a==b)=false:=by
    cases o:(a==b)with
    |false=>rfl
    |true=>exact(hc ((fv a b).1 o)).elim
   simp[e9,l,m]
 ·exact p.elim
 ·simp at h
theorem De{T:b3}{d:TypeDesc}(o:P.underlying T=some d){key:PV}{g:ce}(hk:ga P T key=true)(m:nj key)(l:aF P w ad key g):∀(b:List (PV×PV))(a:List ck)(i:Nat)(r:Option PV),cL P w ad b a->fP P T b key=some r->
 (r=none/\e6 d g a i=some none)\/∃v j e,r=some v/\e6 d g a i=some (some (i+j,e.val))/\a[j]?=some e/\aF P w ad v e.val/\e.key=g/\
  (∀(x:PV)(k:ce),aF P w ad x k->cL P w ad (fZ b key x) (a.modify j fun e=>{e with key:=g,val:=k}))
 |[],a,i,r,f,h=>by
  simp only[cL]at f;simp[fP]at h;subst f;subst h;exact .inl ⟨rfl,rfl⟩
 |(s,v')::b,a,i,r,f,h=>by
  simp only[cL]at f;obtain⟨e,rest,rfl,n,p,q⟩:=f;simp only[fP,Ms m]at h
  split at h
  ·rename_i c;simp at h;subst h;obtain⟨g1,g2⟩:=N5 o hk m c l n;refine .inr ⟨v',0,e,rfl,by simp[e6,g1],rfl,p,(g2 rfl).symm,fun x k hx=>?_⟩;simp only[fZ,c,if_true];simp only[cL];exact⟨_,rest,rfl,l,hx,q⟩
  ·rename_i c;obtain⟨g1,g2⟩:=N5 o hk m c l n;rcases De o hk m l b rest (i+1) r q h with⟨rfl,f1⟩|⟨v,j,e',rfl,f1,f2,f3,f4,f5⟩
   ·exact .inl ⟨rfl,by simp[e6,g1,f1]⟩
   ·refine .inr ⟨v,j+1,e',rfl,by simp[e6,g1,f1];omega,by simpa using f2,f3,f4,fun x k hx=>?_⟩;simp only[fZ,c];rw[if_neg (by simp)];simp only[cL];exact⟨e,_,by simp[List.modify_succ_cons],n,p,f5 x k hx⟩
  ·simp at h
theorem JO{X:Array ce}{y:b3->PV->PV->Option Bool}(e:Bool)(n:Nat):
 ∀(fs:List db)(l:List Nat)(b:List PV)(r:Bool)(d:List ce)(o:List (List ce)),mH P y (fs.map (·.type)) b b=some r->(∀f∈fs,f.name≠ "_" /\tV P f.type=true)->
 (∀(i:Nat)(f:db),fs[i]?=some f->f.offset=d.length+(l.take i).sum)->bm P w ad l b o->
 X.toList=d++o.flatten->(forIn fs h6 (fun f _=>if f.name≠ "_" then(do
  let x<-part f.type X f.offset
  e8 e (n+1) f.type x
  pure (ForInStep.yield h6))else pure (ForInStep.yield h6):db->PUnit->Sem (ForInStep PUnit))).run P w=.ok h6 w
 |[],l,b,r,d,o,_,_,_,_,_=>by simp
 |f::fs,l,b,r,d,o,h,s,t,hx,q=>by
  cases b with
  |nil=>simp[mH]at h
  |cons a b=>
   cases l with
   |nil=>simp[bm]at hx
   |cons m l=>
    simp only[hh,mH]at h
    split at h
    case isFalse=>simp at h
    rename_i hk
    split at h
    case h_2=>simp at h
    rename_i I F H z;obtain⟨c,cs,rfl,hc,A,E⟩:=CH hx;obtain⟨C,p⟩:=s f (by simp);have D:f.offset=d.length:=by simpa using t 0 f (by simp)
    obtain⟨x,u,J⟩:=vQ hk.1 hc (pre:=d) (post:=cs.flatten) (cs:=X) (by rw[q];simp);rw[<-D]at u;have v:(e8 e (n+1) f.type x).run P w=.ok () w:=by
     unfold tV at p;unfold e8
     split at p
     ·rename_i k j;simp[b4 j]
     ·rename_i j;simp[b4 j]
     ·rename_i j;simp[b4 j]
     ·cases p
    have G:=JO e n fs l b F (d++c) cs z (fun f hf=>s f (by simp[hf])) (by
     intro i g B;have:=t (i+1) g (by simpa using B);rw[this,List.take_succ_cons,List.sum_cons,hd,A];omega) E (by rw[q];simp)
    rw[List.forIn_cons];simp only[C,ne_eq,not_false_eq_true,if_true,gt,u,v,gj,gw];exact G
theorem UK{T:b3}{bY:Array db}{u:Nat}{fs:List PV}{g:ce}(b:P.underlying T=some (.struct bY))(j:bY.toList.all (fun f=>f.name != "_" &&tV P f.type)=true)(a:(ja P 9 T (.st u fs) (.st u fs)).isSome=true)(d:aF P w ad (.st u fs) g)(e:Bool):
 (e8 e 10000 T g).run P w=.ok () w:=by
 obtain⟨r,a⟩:=Option.isSome_iff_exists.1 a;unfold ja at a;simp only[b]at a
 split at a
 case isFalse=>simp at a
 rename_i hc;obtain⟨hk,-,-,-⟩:=hc;simp only[aF]at d;obtain⟨l,c,k1,k2,rfl⟩:=d;obtain⟨o,p,s1,s2,q,h,s,k⟩:=vo (P:=P) (T:=T) (u:=u) (n:=bY.size) (by unfold fg;rw[hk,b]);rw[b]at s1;cases s1;rw[k1]at h;cases h;have key:=JO (w:=w) (ad:=ad) (X:=c.flatten.toArray) e 9998 bY.toList l fs r [] c a (fun f hf=>by
  have:=hm.1 j f hf;simpa using this) (by
   intro i f hf;have hi:i<bY.size:=by
    have:=(ha.1 hf).1;simpa using this
   obtain⟨m,g1,g2,_⟩:=k i hi;rw[bb,g1]at hf;cases hf;simpa using g2) k2 (by simp)
 unfold e8;simp only[gt,b4 b,gj];rw[<-Array.forIn_toList];rw[key];simp
theorem CL{T:b3}{u:Nat}{fs:List PV}{g:ce}(p:aF P w ad (.st u fs) g):∀(k:List (PV×PV))(f:List ck)(i:Nat)(r:Option PV),cL P w ad k f->fP P T k (.st u fs)=some r->
 (r=none/\(ew T g f i).run P w=.ok none w/\∀x n born,aF P w ad x n->cL P w ad (fZ k (.st u fs) x) (f++[{key:=g,val:=n,born}]))\/∃(v:PV)(j:Nat)(e:ck),r=some v/\(ew T g f i).run P w=.ok (some (i+j,e.val)) w/\aF P w ad v e.val
 |[],f,i,r,m,h=>by
  simp only[cL]at m;simp[fP]at h;subst m;subst h;refine .inl ⟨rfl,by simp[ew],fun x n born hx=>?_⟩;simp only[fZ,cL];exact⟨_,[],rfl,p,hx,rfl⟩
 |(y,v')::k,f,i,r,m,h=>by
  simp only[cL]at m;obtain⟨e,rest,rfl,s,t,z⟩:=m;simp only[fP]at h;have q:∀b,qq P T (.st u fs) y=some b->(Op.equal T g e.key).run P w=.ok b w/\jM (.st u fs) y=some b:=by
   intro b l;simp only[qq]at l
   split at l
   ·rename_i a c A hc;cases a<;>cases c<;>simp at l<;>subst l<;>
    ·obtain⟨d,B,hq⟩:=zg T g e.key;rw[hq];exact⟨CO 9 T _ _ _ A _ _ p s _ B,hc⟩
   ·simp at l
  split at h
  ·rename_i o;simp at h;subst h;obtain⟨g1,g2⟩:=q _ o;exact .inr ⟨v',0,e,rfl,by simp[ew,g1],t⟩
  ·rename_i o;obtain⟨g1,g2⟩:=q _ o;rcases CL p k rest (i+1) r z h with⟨rfl,f1,f2⟩|⟨v,j,e',rfl,f1,f3⟩
   ·refine .inl ⟨rfl,by simp[ew,g1,f1],fun x n born hx=>?_⟩;simp only[fZ,g2];rw[if_neg (by simp)];simp only[cL];exact⟨e,_,rfl,s,t,f2 x n born hx⟩
   ·refine .inr ⟨v,j+1,e',rfl,?_,f3⟩;simp[ew,g1,f1];omega
  ·simp at h
theorem Df{T:b3}{bY:Array db}(c:P.underlying T=some (.struct bY)){b:ce}{a:List ck}{f:Option (Nat×ce)}(h:(ew T b a 0).run P w=.ok f w):(e7 T b a).run P w=.ok f w:=by
 unfold e7;simp only[gt,b4 c,gj];cases a with
 |nil=>
  simp only[e6];simpa[ew]using h
 |cons e es=>
  have:e6 (.struct bY) b (e::es) 0=none:=by simp[e6,e9]
  rw[this];exact h
theorem Cj{T:b3}{key:PV}(h:ga P T key=true)(a:¬nj key):∃u fs bY,key= .st u fs/\P.underlying T=some (.struct bY)/\bY.toList.all (fun f=>f.name != "_" &&tV P f.type)=true/\(ja P 9 T (.st u fs) (.st u fs)).isSome=true:=by
 cases key<;>first
  |exact(a trivial).elim
  |skip
 rename_i u fs;simp only[ga]at h
 split at h
 ·rename_i bY b;rw[bv]at h;exact⟨u,fs,bY,rfl,b,h.1,h.2⟩
 ·cases h
theorem MS{T:b3}{key:PV}{g:ce}(hk:ga P T key=true)(f:aF P w ad key g){b:List (PV×PV)}{a:List ck}{r:Option PV}(l:cL P w ad b a)(h:fP P T b key=some r):
 (∀e,(e8 e 10000 T g).run P w=.ok () w)/\
 ((r=none/\(e7 T g a).run P w=.ok none w)\/∃(v:PV)(j:Nat)(e:ck),r=some v/\(e7 T g a).run P w=.ok (some (j,e.val)) w/\aF P w ad v e.val):=by
 by_cases i:nj key
 ·obtain⟨d,c,o⟩:=Je hk i f;refine⟨fun e=>run_checkKey c o _ 9999,?_⟩;rcases De c hk i f b a 0 r l h with⟨rfl,f1⟩|⟨v,j,e,rfl,f1,f2,f3,f4,_⟩
  ·exact .inl ⟨rfl,run_findKey c f1⟩
  ·exact .inr ⟨v,0+j,e,rfl,run_findKey c f1,f3⟩
 ·obtain⟨u,fs,bY,rfl,k,m,n⟩:=Cj hk i;refine⟨fun e=>UK k m n f e,?_⟩;rcases CL f b a 0 r l h with⟨rfl,f1,_⟩|⟨v,j,e,rfl,f1,f3⟩
  ·exact .inl ⟨rfl,Df k f1⟩
  ·exact .inr ⟨v,0+j,e,rfl,Df k f1,f3⟩
theorem JG{T:b3}{key x:PV}{g i:ce}(d:aF P w ad key g)(hx:aF P w ad x i)(born:Nat):∀(a:List (PV×PV))(c:List ck),nj key->cL P w ad a c->fP P T a key=some none->cL P w ad (fZ a key x) (c++[{key:=g,val:=i,born}])
 |[],c,_,b,_=>by
  simp only[cL]at b;subst b;simp only[fZ,cL];exact⟨_,[],rfl,d,hx,rfl⟩
 |(n,v')::a,c,f,b,h=>by
  simp only[cL]at b;obtain⟨e,rest,rfl,j,k,l⟩:=b;simp only[fP,Ms f]at h
  split at h
  ·simp at h
  ·rename_i m;simp only[fZ,m];rw[if_neg (by simp)];simp only[cL];exact⟨e,_,rfl,j,k,JG (T:=T) d hx born a rest f l h⟩
  ·simp at h
def um(ok:Bool)(z:PV):Option PV->PV
 |some v=>if ok then .aE [v,.bool true]else v
 |none=>if ok then .aE [z,.bool false]else z
theorem Wy{T:b3}{c E:b3}{x i:b5}{ok:Bool}{key z:PV}{r:Option PV}{k:List (PV×PV)}(C:o.op= .lookup T x i ok)(g:lR P T=some (c,E))(F:cz P E=some z)(hk:ga P c key=true)(B:fP P c k key=some r)
 {ρc:b5->ce}(A:aF P w ad key (ρc i))(hx:(ρc x=.map none/\k=[])\/∃b a d,ρc x=.map (some b)/\w.heap[b]?=some (.map a d)/\cL P w ad k a.toList):
 ∃p,(cc ρc o).run P w=.ok (.value p) w/\aF P w ad (um ok z r) p:=by
 have m:P.underlying T=some (.map c E):=by
  unfold lR at g
  split at g
  ·rename_i D;simp at g;rw[D,g.1,g.2]
  ·simp at g
 obtain⟨t,z1,z2⟩:=W5 F;obtain⟨a,s,n⟩:∃a:Array ck,((ρc x=.map none/\a=#[])\/∃b d,ρc x=.map (some b)/\w.heap[b]?=some (.map a d))/\cL P w ad k a.toList:=by
  rcases hx with⟨hx,rfl⟩|⟨b,a,d,hx,h,n⟩
  ·exact⟨#[],.inl ⟨hx,rfl⟩,by simp[cL]⟩
  ·exact⟨a,.inr ⟨b,d,hx,h⟩,n⟩
 obtain⟨l,u⟩:=MS hk A n B
 have q:∀(f:Option (Nat×ce))(v:ce)(b:Bool),(e7 c (ρc i) a.toList).run P w= .ok f w->(f=none/\v=t/\b=false\/∃j,f=some (j,v)/\b=true)->
  (cc ρc o).run P w=.ok (.value (if ok then .tuple #[v,.bool b]else v)) w:=by
  intro f v b hf y;simp only[cc,C];refine eX ?_;rcases y with⟨rfl,rfl,rfl⟩|⟨j,rfl,rfl⟩
  ·rcases s with⟨hx,rfl⟩|⟨b,d,hx,h⟩
   ·have hf:(e7 c (ρc i) []).run P w=.ok none w:=hf;cases ok<;>simp[fd,b4 m,hx,l,hf,z1]
   ·cases ok<;>simp[fd,b4 m,hx,fm h,l,hf,z1]
  ·rcases s with⟨hx,rfl⟩|⟨b,d,hx,h⟩
   ·have hf:(e7 c (ρc i) []).run P w=.ok (some (j,v)) w:=hf;cases ok<;>simp[fd,b4 m,hx,l,hf]
   ·cases ok<;>simp[fd,b4 m,hx,fm h,l,hf]
 rcases u with⟨rfl,f1⟩|⟨v,j,e,rfl,f1,f3⟩
 ·refine⟨_,q none t false f1 (.inl ⟨rfl,rfl,rfl⟩),?_⟩;cases ok with
  |true=>simp only[um,if_true,aF,bL];exact⟨_,⟨_,_,rfl,z2 w ad,_,_,rfl,rfl,rfl⟩,rfl⟩
  |false=>simpa[um]using z2 w ad
 ·refine⟨_,q _ e.val true f1 (.inr ⟨_,rfl,rfl⟩),?_⟩;cases ok with
  |true=>simp only[um,if_true,aF,bL];exact⟨_,⟨_,_,rfl,f3,_,_,rfl,rfl,rfl⟩,rfl⟩
  |false=>simpa[um]using f3
theorem vA{T:b3}{c E:b3}{x g:b5}{ok:Bool}{key z:PV}{r:Option PV}{es:List (PV×PV)}{aq:List (Nat×Obj)}(f:o.op= .lookup T x g ok)(n:lR P T=some (c,E))(u:cz P E=some z)(hi:ρ g= .p key)(hk:ga P c key=true)(q:fP P c es key=some r)
 (hx:(ρ x=.p .fk/\es=[])\/ρ x=.p (.eg es)\/∃b fz,ρ x=.map b/\(b,.map fz es)∈aq):
 bA P o ρ base {v:=.p (um ok z r),aq}:=by
 refine bA.same fun H w ad ai β y t i aq=>?_;have a:=(i x (by simp[f,fw])).1;have e:=(i g (by simp[f,fw])).1;rw[hi]at e;simp only[aD]at e;obtain⟨j,c1,c2⟩:=Wy f n u hk q (ρc:=y) (w:=w) (ad:=ad) e (by
  rcases hx with⟨hx,rfl⟩|hx|⟨b,fz,hx,s⟩
  ·rw[hx]at a;simp only[aD,aF]at a;exact .inl ⟨a,rfl⟩
  ·rw[hx]at a;simp only[aD,aF]at a;obtain⟨b,d,clock,_,k,l,m⟩:=a;exact .inr ⟨b,d,clock,m,k,l⟩
  ·rw[hx]at a;simp only[aD,bO,bU]at a;have h:=aq _ s;obtain⟨d,clock,k1,k2,_⟩:=t.cO b _ h;exact .inr ⟨_,d,clock,a.2.1 ⟨_,_,h⟩,k1,k2⟩)
 exact⟨j,c1,by simpa only[aD]using c2,by simp[aG]⟩
theorem Wr{T:b3}(e:o.op=.makeMap T none):bA P o ρ base {v:=.map base,aX:=[.map false []]}:=by
 intro H w ad ai β i b j _ d;have a:H[base]?=some .hole:=by simpa using d 0 (by simp)
 have g:(cc i o).run P w=.ok (.value (.map (some w.heap.size))) {w with heap:=w.heap.push (.map #[] 0)}:=by
  simp only[cc,e];exact vk (by simp[Instr.makeMap])
 have f:=tH (cap:=0) b a (ob:=.map #[] 0) (o':=.map false [])
  ⟨#[],0,by simp[Bd.at],by simp[cL],by
   simp only[cK,Bd.at,if_true,bV,if_false];exact⟨fun h=>hU _ (b.bS _ h),fun h=>hU _ (b.eh _ h)⟩⟩ trivial
 refine⟨_,_,_,_,ad,g,.inl rfl,f,?_,?_⟩
 ·simp only[aD,bO,bU,ma];exact⟨rfl,fun _=>by simp[Bd.at],fun⟨L,c⟩=>by rw[he (ha.1 a).1]at c;cases c⟩
 ·simp only[aG,ma];exact⟨_,he (ha.1 a).1,trivial⟩
theorem L5(f:bX P w ad β H ai){b:Nat}{o o':Obj}(a:H[b]?=some o)(i:o.live)(j:o'.live)(n:∀v,o.has v->o'.has v)(l:∀L,o≠ .loop L){ob:Go.Obj}
 (_hb:β.au b<w.heap.size)(e:¬ad (β.au b)/\¬ai (β.au b))(aO:cC β H β (H.set b o'))
 (p:fo P {w with heap:=w.heap.setIfInBounds (β.au b) ob} ad β (H.set b o') ai b o')(q:o'.refs (aJ (H.set b o'))):
 b6 P ai ad w β H ad {w with heap:=w.heap.setIfInBounds (β.au b) ob} β (H.set b o'):=by
 refine b6.set f (ha.1 a).1 (fun _ _=>⟨rfl,rfl⟩) (fun _ x=>x) (fun _ x=>.inl x) (fun k hk=>by simpa using f.bS k hk) (by simp)
  (fun k hk _=>?_) (fun _=>.inr ⟨rfl,⟨o,a,i⟩,.inr e.1,e.2⟩) aO p q (fun r v c g=>by rw[a]at c;cases c;exact n v g) (fun L d=>by rw[a]at d;cases d;exact(l L rfl).elim)
 have m:k≠β.au b:=hk.resolve_right (fun h=>h j);simp[Ne.symm m]
theorem Jj{T t E:b3}{m k x:b5}{b:Nat}{key v:PV}{a:List (PV×PV)}{r:Option PV}(g:o.op= .mapUpdate T m k x\/o.op= .insert T m k x)(z:lR P T=some (t,E))(ab:ρ m= .map b)(hk:ρ k= .p key)(hx:ρ x= .p v)
 (hf:ga P t key=true)(f:mv P t a key=some r):bA P o ρ base {v:=.p (.aE []),aq:=[(b,.map false a)],aM:=[(b,.map false (fZ a key v))]}:=by
 have N:P.underlying T=some (.map t E):=by
  unfold lR at z
  split at z
  ·rename_i O;simp at z;rw[O,z.1,z.2]
  ·simp at z
 intro H w ad ai β c U Q aq _;have G:H[b]?=some (.map false a):=by simpa using aq
 have M:m∈o.op.operands/\k∈o.op.operands/\x∈o.op.operands:=by
  rcases g with g|g<;>simp[g,fw]
 have l:=(Q m M.1).1;have q:=(Q k M.2.1).1;have B:=(Q x M.2.2).1;rw[ab]at l;rw[hk]at q;rw[hx]at B;simp only[aD,bO,bU]at l q B;have l:=l.2.1 ⟨_,_,G⟩;obtain⟨i,clock,k1,k2,k3⟩:=U.cO b _ G;have S:¬ad (β.au b)/\¬ai (β.au b):=by
  unfold cK at k3;rw[if_neg (by simp)]at k3;exact k3
 have F:fP P t a key=some r:=by
  by_cases s:nj key
  ·rw[<-Vg s];exact f
  ·obtain⟨u,fs,bY,rfl,_⟩:=Cj hf s;simp only[mv]at f
   split at f
   ·rename_i hq;rw[hq];exact f
   ·cases f
 have K:=(MS hf q k2 F).1 false;have R:β.au b<w.heap.size:=(aT.1 k1).1;have aO:cC β H β (H.set b (.map false (fZ a key v))):=pE G (.inr (.inr (.inl ⟨_,_,_,_,rfl,rfl⟩)))
 have J:∀(y:Array ck)(A:Nat),(fb T (c m) (c k) (c x)).run P w= .ok () {w with heap:=w.heap.setIfInBounds (β.au b) (.map y A)}->cL P w ad (fZ a key v) y.toList->
  ∃n I w' aK aH,(cc c o).run P w=.ok n w'/\(n=.value I\/n=.skip/\I=undef)/\
  b6 P ai ad w β H aH w' aK (bf H ([(b,.map false (fZ a key v))]++newAt base []))/\aD P w' aH aK (bf H ([(b,.map false (fZ a key v))]++newAt base [])) (.p (.aE [])) I/\
  aG (aJ (bf H ([(b,.map false (fZ a key v))]++newAt base []))) (.p (.aE [])):=by
  intro y A af ac;have X:(cc c o).run P w=.ok .skip {w with heap:=w.heap.setIfInBounds (β.au b) (.map y A)}:=by
   rcases g with g|g<;>simp[cc,g,af]
  have ag:∀D,ad D->({w with heap:=w.heap.setIfInBounds (β.au b) (.map y A)}:ch).heap[D]?=w.heap[D]?:=by
   intro D aa;have:β.au b≠D:=fun W=>S.1 (W▸aa);simp[this]
  refine⟨_,_,_,β,ad,X,.inr ⟨rfl,rfl⟩,?_,by simp[aD,aF,bL,undef],by simp[aG]⟩;simp only[newAt,hj,bf];exact L5 (o':=.map false (fZ a key v)) U G trivial trivial (fun _ h=>h) (fun _ h=>by cases h) R S aO ⟨y,A,by simp[R],cL.mono (fun _ x=>x) ag _ _ ac,k3⟩ trivial
 by_cases s:nj key
 case neg=>
  obtain⟨u,fs,bY,rfl,O,_,_⟩:=Cj hf s;have ae:r=none:=by
   simp only[mv]at f
   split at f
   ·simpa using f.symm
   ·cases f
  subst ae;rcases CL q a i.toList 0 none k2 F with⟨_,f1,f2⟩|⟨v',j,e,V,_⟩
  ·have C:=Df O f1;refine J (i.push {key:=c k,val:=c x,born:=clock}) (clock+1) ?_ ?_
   ·rw[l];simp only[fb,gt,b4 N,gj,fm k1,K,C,run_setObj_map _ k1]
   ·rw[bo];exact f2 v (c x) clock B
  ·cases V
 obtain⟨d,L,Y⟩:=Je hf s q;rcases De L hf s q a i.toList 0 r k2 F with⟨rfl,f1⟩|⟨v',j,e,rfl,f1,f2,f3,f4,f5⟩
 ·have C:=run_findKey (w:=w) L f1;refine J (i.push {key:=c k,val:=c x,born:=clock}) (clock+1) ?_ ?_
  ·rw[l];simp only[fb,gt,b4 N,gj,fm k1,K,C,run_setObj_map _ k1]
  ·rw[bo];exact JG (T:=t) q B clock a i.toList s k2 F
 ·have C:=run_findKey (w:=w) L f1;have Z:i[j]?=some e:=by simpa using f2
  refine J (i.modify j fun e=>{e with key:=c k,val:=c x}) clock ?_ ?_
  ·rw[l];simp only[fb,gt,b4 N,gj,fm k1,K,C];simp only[h0,Z,Option.map_some,h3,f4,run_keyThatStays Y,gj,run_setObj_map _ k1]
  ·rw[Array.toList_modify];exact f5 v (c x) B
end
section
variable{P:b2}{w:ch}{ad ai:Nat->Prop}{β:Bd}{H:an}
variable{o:Oper}{ρ:b5->AV}{base:Nat}
theorem Vx(bs:ByteArray):gD (jh bs)=bs:=by
 unfold gD jh;apply ByteArray.ext;apply a7;simp only[hy];have:(h8∘fun x:UInt8=>x.toNat)=id:=by funext x;simp
 rw[this];simp
theorem YK{T:b3}{x:b5}{s:List Nat}(d:o.op=.range T x)(hx:ρ x=.p (.str s))(e:iN P T=true):bA P o ρ base {v:=.ptr base [],aX:=[.dy s 0]}:=by
 intro H w ad ai β k b j _ f;have c:H[base]?=some .hole:=by simpa using f 0 (by simp)
 have a:=(j x (by simp[d,fw])).1;rw[hx]at a;simp only[aD,aF]at a;obtain⟨bs,e1,e2⟩:=a;have i:(cc k o).run P w=.ok (.value (.pointer (some ⟨w.heap.size,0,none⟩))) {w with heap:=w.heap.push (.stringIter bs 0)}:=by
  simp only[cc,d,e1];exact vk (by simp[Instr.range,b4 (yv e)])
 have g:=tH (cap:=0) b c (ob:=.stringIter bs 0) (o':=.dy s 0)
  ⟨bs,by simp[Bd.at],e2,by
   simp only[cK,Bd.at,if_true,bV,if_false];exact⟨fun h=>hU _ (b.bS _ h),fun h=>hU _ (b.eh _ h)⟩⟩ trivial
 refine⟨_,_,_,_,ad,i,.inl rfl,g,?_,?_⟩
 ·simp only[aD,bO,bU,ma];exact⟨rfl,_,_,0,rfl,rfl,fun _=>by simp[Bd.at]⟩
 ·simp only[aG,ma];exact⟨_,he (ha.1 c).1,trivial⟩
theorem aJR{it:b5}{b:Nat}{s:List Nat}{pos:Nat}(g:o.op= .next it true)(hx:ρ it= .ptr b []):
 (pos<s.length->bA P o ρ base {v:=.p (.aE [.bool true,.int .i64 pos,.int .i32 (g7 (gD s) pos).1]),aq:=[(b,.dy s pos)],aM:=[(b,.dy s (pos+(g7 (gD s) pos).2))]})/\
 (¬pos<s.length->bA P o ρ base {v:=.p (.aE [.bool false]),aq:=[(b,.dy s pos)]}):=by
 have key:∀{H:an}{w:ch}{ad ai:Nat->Prop}{β:Bd}{e:b5->ce},bX P w ad β H ai->(∀x∈o.op.operands,aD P w ad β H (ρ x) (e x)/\aG (aJ H) (ρ x))->H[b]?=some (.dy s pos)->
  e it=.pointer (some ⟨β.au b,0,none⟩)/\∃bs:ByteArray,w.heap[β.au b]?=some (.stringIter bs pos)/\s=jh bs/\(¬ad (β.au b)/\¬ai (β.au b)):=by
  intro H w ad ai β e d f a;have c:=(f it (by simp[g,fw])).1;rw[hx]at c;simp only[aD,bO,bU]at c;obtain⟨_,au,off,t,m,k,n⟩:=c;simp[gu]at k;subst k;obtain⟨rfl,rfl⟩:=n (.inr ⟨_,_,a⟩);obtain⟨bs,k1,k2,k3⟩:=d.cO b _ a;unfold cK at k3;rw[if_neg (by simp)]at k3;exact⟨m,bs,k1,k2,k3⟩
 constructor
 ·intro i H w ad ai β e d f aq _;have a:H[b]?=some (.dy s pos):=by simpa using aq
  obtain⟨c,bs,k1,rfl,k3⟩:=key d f a;have j:pos<bs.size:=by simpa[jh]using i
  have l:β.au b<w.heap.size:=(aT.1 k1).1;rw[Vx];have r:(cc e o).run P w=.ok (.value (.tuple #[.bool true,goInt pos,.int .i32 (g7 bs pos).1])) {w with heap:=w.heap.setIfInBounds (β.au b) (.stringIter bs (pos+(g7 bs pos).2))}:=by
   simp only[cc,g,c];refine vk ?_;simp[fl,getObj,setObj,gx,k1,gm,j]
  have aO:cC β H β (H.set b (.dy (jh bs) (pos+(g7 bs pos).2))):=pE a (.inr (.inr (.inr ⟨_,_,_,rfl,rfl⟩)));have q:=L5 (o':=.dy (jh bs) (pos+(g7 bs pos).2)) (ob:=.stringIter bs (pos+(g7 bs pos).2)) d a trivial trivial (fun _ h=>h) (fun _ h=>by cases h) l k3 aO
   ⟨bs,by simp[l],rfl,by unfold cK;rw[if_neg (by simp)];exact k3⟩ trivial
  refine⟨_,_,_,β,ad,r,.inl rfl,?_,?_,by simp[aG]⟩
  ·simpa only[newAt,hj,bf]using q
  ·simp only[aD,aF,bL];exact⟨_,⟨_,_,rfl,rfl,_,_,rfl,rfl,_,_,rfl,rfl,rfl⟩,rfl⟩
 ·intro i;refine bA.same fun H w ad ai β e d f aq=>?_;have a:H[b]?=some (.dy s pos):=by simpa using aq
  obtain⟨c,bs,k1,rfl,k3⟩:=key d f a;have j:¬pos<bs.size:=by simpa[jh]using i
  refine⟨.tuple #[.bool false],?_,by simp only[aD,aF,bL];exact⟨_,⟨_,_,rfl,rfl,rfl⟩,rfl⟩,by simp[aG]⟩;simp only[cc,g,c];refine eX ?_;simp[fl,getObj,gx,k1,gm,j]
theorem YL{T u:b3}{x:b5}{f:Nat}{fs:Array db}{t g:PV}{F:b3}(h:o.op= .field T x f)(hk:kindOf P T= .agg u)(b:P.underlying T=some (.struct fs))(hx:ρ x= .p t)(hs:aL t= .agg u)(e:(bY t)[f]?=some g)(m:(jF P u)[f]?=some F)(q:kindOf P F=aL g):
 bA P o ρ base {v:=.p g}:=by
 refine bA.same fun H w ad ai β I C s _=>?_;have a:=(s x (by simp[h,fw])).1;rw[hx]at a;simp only[aD]at a;cases t<;>simp[aL]at hs;rename_i u' k;subst hs;simp only[bY]at e;simp only[aF]at a;obtain⟨l,d,k1,k2,k3⟩:=a;obtain⟨B,D,s1,s2,E,j,G,z⟩:=vo (P:=P) (T:=T) (u:=u') (n:=fs.size) (by unfold fg;rw[hk,b]);rw[b]at s1;cases s1;rw[k1]at j;cases j;have r:bM P w ad ⟨id,id⟩ [] l (k.map .p) d:=nX.2 k2;obtain⟨pre,c,post,e1,e2,e3,e4,e5,_⟩:=tS (f:=.p g) (i:=f) r (by simp[e]);simp only[br]at e5;obtain⟨A,g1,g2,g3,g4,g5⟩:=z f (by omega);rw[m]at g5;cases g5;obtain⟨y,y1,y2⟩:=vQ q e5 (pre:=pre) (post:=post) (cs:=d.flatten.toArray) (by simpa using e1);refine⟨y,?_,by simpa only[aD]using y2,by simp[aG]⟩;simp only[cc,h,k3];refine eX ?_;rw[e2,<-g2]at y1;simp only[Instr.field,gt,b4 b,gj,g1];simp[asAgg,y1]
theorem V8{T u:b3}{n:Nat}{x k:b5}{O:cx}{i:Int}{a:List PV}{g:PV}{F:b3}(j:o.op= .index T x k)(A:ir P T=some (u,n))(hx:ρ x= .p (.st u a))(hi:ρ k= .p (.int O i))
 (z:0<=i)(J:i.toNat<n)(h:(jF P u)[i.toNat]?=some F)(E:a[i.toNat]?=some g)(G:kindOf P F=aL g):bA P o ρ base {v:=.p g}:=by
 refine bA.same fun H w ad ai β R Q t _=>?_;have b:=(t x (by simp[j,fw])).1;have d:=(t k (by simp[j,fw])).1;rw[hx]at b;rw[hi]at d;simp only[aD,aF]at b d;obtain⟨l,m,k1,k2,k3⟩:=b;obtain⟨e,s,hk,r,K⟩:=vB A;rw[k1]at r;cases r;have B:F=e:=by
  obtain⟨D,_,_⟩:=Ch hk;have C:(P.info? u).map (fun i:TypeInfo=>i.desc)=some (.array n e):=by rw[D,<-BX,s]
  unfold jF at h;rw[C]at h;have q:(hb n e)[i.toNat]?=some F:=h;rw[List.getElem?_replicate,if_pos J]at q;exact(h5 q).symm
 subst B;have L:bM P w ad ⟨id,id⟩ [] (hb n (P.cellsOf F)) (a.map .p) m:=nX.2 k2;obtain⟨pre,c,post,e1,e2,e3,e4,e5,_⟩:=tS (f:=.p g) (i:=i.toNat) L (by simp[E]);simp only[br]at e5;obtain⟨y,y1,y2⟩:=vQ G e5 (pre:=pre) (post:=post) (cs:=m.flatten.toArray) (by simpa using e1);have M:((hb n (P.cellsOf F)).take i.toNat).sum=i.toNat*P.cellsOf F:=by rw[List.take_replicate,Nat.min_eq_left (by omega),List.sum_replicate_nat]
 have N:(sizeOf F).run P w=.ok (P.cellsOf F) w:=by
  cases hi:P.info? F with
  |none=>simp[Program.cellsOf,hi]at K
  |some i=>simp[sizeOf,typeInfo,hi,Program.cellsOf]
 refine⟨y,?_,by simpa only[aD]using y2,by simp[aG]⟩;simp only[cc,j,k3,d];refine eX ?_;have I:i<(n:Int):=by omega
 rw[e2,M]at y1;simp only[Instr.index,asIntOf,gt,gw,b4 s,gj];simp[z,I,N,y1]
theorem Js{k:cx}{f:Bool}{ρc:b5->ce}:∀(l:List b5)(a n:Int),ml k f (l.map ρ) a=some n->(∀x∈l,aD P w ad β H (ρ x) (ρc x))->
 ((l.map ρc).foldlM (if f then ed else ec) (.int k a)).run P w=.ok (.int k n) w
 |[],a,n,h,_=>by simp[ml]at h;subst h;simp
 |x::l,a,n,h,g=>by
  simp only[hh]at h;unfold ml at h
  split at h
  ·rename_i e;cases e
  ·rename_i j b r a' e;simp at e;obtain⟨e1,rfl⟩:=e
   split at h
   case isFalse=>simp at h
   rename_i hk;subst hk;have d:=g x (by simp);rw[e1]at d;simp only[aD,aF]at d;have c:=Js l _ n h (fun y i=>g y (by simp[i]));simp only[hh,List.foldlM_cons,gt,d];cases f with
   |true=>simp only[if_true,ed,gw,gj]at c⊢;exact c
   |false=>simp only[bV,if_false,ec,gw,gj]at c⊢;exact c
  ·simp at h
theorem KL{c:Call}{isMax:Bool}{k:cx}{a n:Int}{r:List AV}(m:o.op= .call c)(hc:c.callee= .builtin (if isMax then .max else .min))(b:c.args.toList.map ρ= .p (.int k a)::r)(h:ml k isMax r a=some n):
 bA P o ρ base {v:=.p (.int k n)}:=by
 obtain⟨x,l,i⟩:∃x l,c.args.toList=x::l:=by
  cases s:c.args.toList with
  |nil=>rw[s]at b;simp at b
  |cons x l=>exact⟨x,l,rfl⟩
 rw[i]at b;simp at b;obtain⟨hx,rfl⟩:=b;have g:c.args=(x::l).toArray:=by apply a7;simpa using i
 have j:∀y∈x::l,y∈o.op.operands:=by
  intro y f;rw[m];simp only[fw,eq,hc,g];simpa using f
 refine bA.same fun H w ad ai β t u q _=>⟨.int k n,?_,by simp[aD,aF],by simp[aG]⟩
 have d:=(q x (j x (by simp))).1;rw[hx]at d;simp only[aD,aF]at d;have e:=Js (ρc:=t) l a n h (fun y f=>(q y (j y (by simp[f]))).1);simp only[cc,m,resolve,hc,g];cases isMax with
 |true=>
  simp only[if_true]at e⊢;simp[invoke,builtin,em,d,e]
 |false=>
  simp only[bV,if_false]at e⊢;simp[invoke,builtin,ej,d,e]
theorem aJN{c:Call}{d x:b5}{sz b aC off len:Nat}{k:AK}{f g:List AV}{H0:an}(V:o.op= .call c)(hc:c.callee= .builtin .copy)(Q:c.args.toList=[d,x])(au:c.argTypes.size=2)(t:cH P (c.argTypes.getD 0 0)=some sz)
 (ac:ρ d=.sl b aC sz off len)(hx:gW H0 (ρ x)=some g)(ar:eZ P sz g)(hk:k≠.frozen)(G:off+len<=f.length)(C:¬di k f):
 bA P o ρ base {v:=.p (.int .i64 (min g.length len:Nat)),aq:=(b,.arr k aC sz f)::dF H0 (ρ x),aM:=[(b,.arr k aC sz (f.take off++g.take (min g.length len)++f.drop (off+min g.length len)))]}:=by
 obtain⟨T,X,O⟩:∃T X,c.argTypes=#[T,X]:=by
  obtain⟨l,G⟩:∃l,l=c.argTypes.toList:=⟨_,rfl⟩
  have s:l.length=2:=by rw[G];simpa using au
  match l,s with
  |[a,b],_=>exact⟨a,b,by apply a7;simp[<-G]⟩
 have I:d∈o.op.operands/\x∈o.op.operands:=by
  have ab:c.args=#[d,x]:=by apply a7;simpa using Q
  rw[V];simp[fw,eq,hc,ab]
 have e1:c.argTypes.getD 0 0=T:=by rw[O];rfl
 rw[e1]at t;obtain⟨e,i,t⟩:=kA t;intro H w ad ai β aa D M aq _;have r:H[b]?=some (.arr k aC sz f):=aq (b,_) (by simp);have j:=(M d I.1).1;rw[ac]at j;simp only[aD,bO,bU]at j;obtain⟨_,_,j⟩:=j.2 k f r;have j:=j C;rcases D.cO b _ r with hold|⟨cs,E,aB,rest,k1,k2,k3,k4,k5,k6,k7,k8⟩
 ·exact(C hold).elim
 have S:¬ad (β.au b)/\¬ai (β.au b):=by
  unfold cK at k7;rw[if_neg (by simpa using hk)]at k7;exact k7
 obtain⟨aA,aw,ax,ay,az⟩:=vX (abi hx (fun p al=>aq p (List.mem_cons_of_mem _ al))) D (M x I.2).1 (M x I.2).2 ar;obtain⟨n,U⟩:∃n,n=min g.length len:=⟨_,rfl⟩
 rw[<-U];have Z:=az w rfl n (by omega);obtain⟨y,m,z,g1,g2,g3,g4,g5⟩:=jV aw 0 n (by omega);have av:y=[]:=by have:=(fV g4).1;simpa using this
 subst av;have ah:aA.take n=m:=by
  have:=(fV g2).1;rw[g1];simp at this⊢;rw[List.take_left' (by omega)]
 rw[ah]at Z;simp only[hQ]at g2;obtain⟨a,N,q,f1,f2,f3,f4,f5⟩:=jV k2 off n (by omega);have J:m.flatten.length=n*sz:=by have:=(fV g2).2;rw[this];congr 1;simp;omega
 have K:N.flatten.length=n*sz:=by have:=(fV f2).2;rw[this];congr 1;simp;omega
 have R:cs.toList=a.flatten++N.flatten++(q.flatten++rest):=by rw[k3,f1];simp
 have Y:cs.size=a.flatten.length+N.flatten.length+(q.flatten++rest).length:=by
  have:=congrArg hJ R;simp only[hd,be]at this;rw[this,hd]
 have L:=da P (β.au b) (off*sz) E m.flatten 0 cs w k1 (by rw[Y,f3,J,K];simp only[hV];exact hX _ _) (wu g2);simp only[hV]at L;have aX:cs.toList.take (off*sz)++m.flatten++cs.toList.drop (off*sz+m.flatten.length)=a.flatten++m.flatten++(q.flatten++rest):=by
  rw[R,<-f3,J,<-K];exact BZ _ _ _ _
 rw[aX]at L;have ao:(eb c.argTypes o.type #[aa d,aa x]).run P w=.ok (goInt n) (w.setRow (β.au b) (a.flatten++m.flatten++(q.flatten++rest)).toArray):=by
  rw[O,j];have aj:Nat.min g.length len=n:=U.symm;have aE:∀(p:Option Addr)(n c:Nat),en (.slice p n c)=pure n:=fun _ _ _=>rfl;simp[eb,b4 t.gF,ay,aj,t.run,Z,L]
 have B:(f.take off++g.take n++f.drop (off+n)).length=f.length:=by simp;omega
 have aO:cC β H β (H.set b (.arr k aC sz (f.take off++g.take n++f.drop (off+n)))):=pE r (.inr (.inl ⟨_,_,_,_,_,rfl,rfl,B.symm⟩));have ap:∀A,ad A->(w.setRow (β.au b) (a.flatten++m.flatten++(q.flatten++rest)).toArray).heap[A]?=w.heap[A]?:=fun A ag=>dk w _ A _ (fun F=>S.1 (F▸ag));have hrefs:ba (aJ H) (f.take off++g.take n++f.drop (off+n)):=by
  have W:=dc.1 (D.refs b _ r);refine jU (jU ?_ ?_) ?_
  ·rw[dc];exact fun v u=>W v (hA u)
  ·rw[dc];exact fun v u=>dc.1 ax v (hA u)
  ·rw[dc];exact fun v u=>W v (hG u)
 have ae:=mr r (o:=.arr k aC sz (f.take off++g.take n++f.drop (off+n))) (fun _ h=>h);have ak:¬di k (f.take off++g.take n++f.drop (off+n)):=fun h=>C ⟨h.1,by have s:=h.2;rw[<-hF]at s⊢;rw[B]at s;exact s⟩;have am:=qM D r C (o':=.arr k aC sz (f.take off++g.take n++f.drop (off+n))) ak (fun _ h=>h) k1 (new:=(a.flatten++m.flatten++(q.flatten++rest)).toArray) S aO
  (.inr ⟨_,E,a++m++q,rest,dl w _ _ _ E _ k1,by
   refine Row.mono (fun _ x=>x) ap aO hrefs (lI.2 ⟨_,_,rfl,lI.2 ⟨_,_,rfl,f4,g2⟩,f5⟩),by simp,by
   rw[<-k4,Y];simp only[hM,hd,J,K],by rw[B];exact k5,fun F=>by rw[B];exact k6 F,k7,(fun af=>(hk af).elim),k8.2⟩) (ba.mono ae _ hrefs)
 refine⟨_,_,_,β,ad,XL V hc Q ao,.inl rfl,?_,by simp[aD,aF,goInt],by simp[aG]⟩;simpa only[newAt,hj,bf]using am
end
section
variable{P:b2}{w:ch}{ad ai:Nat->Prop}{β:Bd}{H:an}
variable{o:Oper}{ρ:b5->AV}{base:Nat}
theorem zC{c:Call}{x:b5}(e:o.op=.call c){b:Builtin}(hc:c.callee=.builtin b)(d:c.args.toList=[x]):x∈o.op.operands/\c.args=#[x]:=by
 have a:c.args=#[x]:=by apply a7;simpa using d
 refine⟨?_,a⟩;rw[e];simp only[fw,eq,hc,a];simp
theorem yu{T:b3}{a:AV}(h:ig P T a=true)(hs:(∃b v e i l,a=.sl b v e i l)\/a=.p .aP\/∃f c,a=.p (.cT f c)):∃e,P.underlying T=some (.slice e):=by
 rcases hs with⟨b,v,e,i,l,rfl⟩|rfl|⟨f,c,rfl⟩<;>
 ·simp only[ig]at h
  split at h
  ·rename_i e d;exact⟨e,d⟩
  ·simp at h
theorem aJM{c:Call}{x:b5}{n:Nat}{aq:List (Nat×Obj)}{H0:an}(y:o.op= .call c)(hc:c.callee= .builtin .cap)(A:c.args.toList=[x])(a:Ax H0 (ρ x)=some (n,aq))(m:ig P (c.argTypes.getD 0 0) (ρ x)=true)(F:0<c.argTypes.size):
 bA P o ρ base {v:=.p (.int .i64 n),aq}/\(∀p∈aq,H0[p.1]?=some p.2):=by
 obtain⟨q,B⟩:=zC y hc A;have C:c.argTypes[0]?=some (c.argTypes.getD 0 0):=by simp[bl,F]
 generalize c.argTypes.getD 0 0=T at*
 have j:∀{H:an}{w:ch}{ad:Nat->Prop}{β:Bd}{f:b5->ce},(∃p l,f x= .slice p l n)->(∃e,P.underlying T=some (.slice e))->
  ∃s,(cc f o).run P w=.ok (.value s) w/\aD P w ad β H (.p (.int .i64 n)) s/\aG (aJ H) (.p (.int .i64 n)):=by
  rintro H w ad β f ⟨p,l,hx⟩ ⟨e,G⟩;refine⟨goInt n,?_,by simp[aD,aF,goInt],by simp[aG]⟩;simp only[cc,y,resolve,hc,B];simp[invoke,builtin,eo,C,hx,b4 G]
 unfold Ax at a
 split at a
 ·rename_i hx;simp at a;obtain⟨rfl,rfl⟩:=a;refine⟨bA.same fun H w ad ai β f r g aq=>j ?_ (yu m (.inr (.inl hx))),by simp⟩;have d:=(g x q).1;rw[hx]at d;simp only[aD,aF]at d;exact⟨_,_,d⟩
 ·rename_i i hx;simp at a;obtain⟨rfl,rfl⟩:=a;refine⟨bA.same fun H w ad ai β f r g aq=>j ?_ (yu m (.inr (.inr ⟨_,_,hx⟩))),by simp⟩;have d:=(g x q).1;rw[hx]at d;simp only[aD,aF]at d;obtain⟨_,_,cap,_,_,_,_,_,z,_,_,_,k⟩:=d;exact⟨_,_,by rw[k,z trivial]⟩
 ·rename_i b aC aj off len hx
  split at a
  case h_2=>simp at a
  rename_i L K i E
  split at a
  case isFalse=>simp at a
  rename_i D;obtain⟨rfl,rfl,hle⟩:=D;simp at a;obtain⟨rfl,rfl⟩:=a;refine⟨bA.same fun H w ad ai β f r g aq=>j ?_ (yu m (.inl ⟨_,_,_,_,_,hx⟩)),by simpa using E⟩;have u:H[b]?=some (.arr .exact aC aj i):=by simpa using aq
  have d:=(g x q).1;rw[hx]at d;simp only[aD,bO,bU]at d;obtain⟨_,_,k⟩:=d.2 _ _ u;have t:¬di .exact i:=fun h=>by simp[di,AK.gr]at h
  rcases r.cO b _ u with hold|⟨cs,I,J,rest,k1,k2,k3,k4,k5,k6,_⟩
  ·exact(t hold).elim
  exact⟨_,_,by rw[k t,k6 rfl]⟩
 ·simp at a
theorem U0{c:Call}{x:b5}(b:o.op= .call c)(hc:c.callee= .builtin .clear)(f:c.args.toList=[x])(hx:ρ x= .p .aP)(d:ig P (c.argTypes.getD 0 0) (ρ x)=true)(j:0<c.argTypes.size):
 bA P o ρ base {v:=.p (.aE [])}:=by
 obtain⟨i,g⟩:=zC b hc f;have h:c.argTypes[0]?=some (c.argTypes.getD 0 0):=by simp[bl,j]
 generalize c.argTypes.getD 0 0=T at*;obtain⟨e,k⟩:=yu d (.inr (.inl hx));refine bA.same fun H w ad ai β n m l aq=>?_;have a:=(l x i).1;rw[hx]at a;simp only[aD,aF]at a;refine⟨.tuple #[],?_,by simp[aD,aF,bL],by simp[aG]⟩;simp only[cc,b,resolve,hc,g];simp[invoke,builtin,dz,h,a,b4 k]
theorem YM{c:Call}{x:b5}{sz b aC off len:Nat}{k:AK}{d:List AV}{z:PV}(M:o.op= .call c)(hc:c.callee= .builtin .clear)(V:c.args.toList=[x])(aj:0<c.argTypes.size)(l:cH P (c.argTypes.getD 0 0)=some sz)
 (ak:cz P (er P (c.argTypes.getD 0 0))=some z)(ar:bF P (aL z)=sz)(hx:ρ x=.sl b aC sz off len)(hk:k≠.frozen)(ab:off+len<=d.length)(t:¬di k d)(ap:0<len):
 bA P o ρ base {v:=.p (.aE []),aq:=[(b,.arr k aC sz d)],aM:=[(b,.arr k aC sz (d.take off++hb len (.p z)++d.drop (off+len)))]}:=by
 obtain⟨ac,W⟩:=zC M hc V;have X:c.argTypes[0]?=some (c.argTypes.getD 0 0):=by simp[bl,aj]
 obtain⟨e,i,l⟩:=kA l;obtain⟨au,r,z1,z2,z3,z4⟩:=qO ak;rw[l.qD]at z1;intro H w ad ai β U D an aq _;have j:H[b]?=some (.arr k aC sz d):=aq (b,_) (by simp);have g:=(an x ac).1;rw[hx]at g;simp only[aD,bO,bU]at g;obtain⟨_,_,g⟩:=g.2 k d j;have g:=g t;rcases D.cO b _ j with hold|⟨cs,u,ao,rest,k1,k2,k3,k4,k5,k6,k7,k8⟩
 ·exact(t hold).elim
 have K:¬ad (β.au b)/\¬ai (β.au b):=by
  unfold cK at k7;rw[if_neg (by simpa using hk)]at k7;exact k7
 have Q:=z3 w ad;have R:r.cells.size=sz:=by have:=(pD Q).1;simp at this;omega
 have am:r.cells.toList.length=sz:=by simpa using R
 have E:=yn (β:=β) (H:=H) Q len;rw[am]at E;obtain⟨m,L⟩:∃m,m=hb len r.cells.toList:=⟨_,rfl⟩
 rw[<-L]at E;have F:Row P w ad β H sz (hb len (.p z)) m:=by
  exact E
 obtain⟨a,I,f,f1,f2,f3,f4,f5⟩:=jV k2 off len ab;have B:m.flatten.length=len*sz:=by have:=(fV F).2;rw[this];simp
 have C:I.flatten.length=len*sz:=by have:=(fV f2).2;rw[this];congr 1;simp;omega
 have J:cs.toList=a.flatten++I.flatten++(f.flatten++rest):=by rw[k3,f1];simp
 have O:cs.size=a.flatten.length+I.flatten.length+(f.flatten++rest).length:=by
  have:=congrArg hJ J;simp only[hd,be]at this;rw[this,hd]
 have G:=da P (β.au b) (off*sz) u m.flatten 0 cs w k1 (by rw[O,f3,B,C];simp only[hV];exact hX _ _) (wu F);simp only[hV]at G;have aX:cs.toList.take (off*sz)++m.flatten++cs.toList.drop (off*sz+m.flatten.length)=a.flatten++m.flatten++(f.flatten++rest):=by
  rw[J,<-f3,B,<-C];exact BZ _ _ _ _
 rw[aX]at G;have al:(ee r.cells len).toList=m.flatten:=by
  have:=B7 r.cells len (by rw[R];exact l.pos);rw[L,<-this];rfl
 have ag:(cc U o).run P w=.ok (.value (.tuple #[])) (w.setRow (β.au b) (a.flatten++m.flatten++(f.flatten++rest)).toArray):=by
  obtain⟨S,rfl⟩:∃S,len=S+1:=⟨len-1,by omega⟩
  simp only[cc,M,resolve,hc,W];generalize c.argTypes.getD 0 0=T at*;simp only[gt,gw,gj,invoke,builtin,hv,hh,hn];have key:(dz c.argTypes o.type #[U x]).run P w=.ok (.tuple #[]) (w.setRow (β.au b) (a.flatten++m.flatten++(f.flatten++rest)).toArray):=by
   simp[dz,X,g,b4 l.gF,tF z1 z2,al,G]
  rw[key];rfl
 have s:(d.take off++hb len (AV.p z)++d.drop (off+len)).length=d.length:=by simp;omega
 have aO:cC β H β (H.set b (.arr k aC sz (d.take off++hb len (.p z)++d.drop (off+len)))):=pE j (.inr (.inl ⟨_,_,_,_,_,rfl,rfl,s.symm⟩));have ah:∀q,ad q->(w.setRow (β.au b) (a.flatten++m.flatten++(f.flatten++rest)).toArray).heap[q]?=w.heap[q]?:=fun q aa=>dk w _ q _ (fun A=>K.1 (A▸aa));have hrefs:ba (aJ H) (d.take off++hb len (AV.p z)++d.drop (off+len)):=by
  have N:=dc.1 (D.refs b _ j);refine jU (jU ?_ ?_) ?_
  ·rw[dc];exact fun v n=>N v (hA n)
  ·rw[dc];intro v n;rw[List.eq_of_mem_replicate n];simp[aG]
  ·rw[dc];exact fun v n=>N v (hG n)
 have Y:=mr j (o:=.arr k aC sz (d.take off++hb len (.p z)++d.drop (off+len))) (fun _ h=>h);have ae:¬di k (d.take off++hb len (AV.p z)++d.drop (off+len)):=fun h=>t ⟨h.1,by have y:=h.2;rw[<-hF]at y⊢;rw[s]at y;exact y⟩;have af:=qM D j t (o':=.arr k aC sz (d.take off++hb len (AV.p z)++d.drop (off+len))) ae (fun _ h=>h) k1 (new:=(a.flatten++m.flatten++(f.flatten++rest)).toArray) K aO
  (.inr ⟨_,u,a++m++f,rest,dl w _ _ _ u _ k1,by
   refine Row.mono (fun _ x=>x) ah aO hrefs (lI.2 ⟨_,_,rfl,lI.2 ⟨_,_,rfl,f4,F⟩,f5⟩),by simp,by
   rw[<-k4,O];simp only[hM,hd,B,C],by rw[s];exact k5,fun A=>by rw[s];exact k6 A,k7,(fun Z=>(hk Z).elim),k8.2⟩) (ba.mono Y _ hrefs)
 refine⟨_,_,_,β,ad,ag,.inl rfl,?_,by simp[aD,aF,bL],by simp[aG]⟩;simpa only[newAt,hj,bf]using af
theorem B5{c:Call}{x:b5}{v:AV}{aq:List (Nat×Obj)}{H0:an}(l:o.op= .call c)(hc:c.callee= .builtin .unsafeSliceData)(n:c.args.toList=[x])
 (h:(ρ x=.p .aP/\v=.p .dM/\aq=[])\/∃b aC aj off len k a,ρ x=.sl b aC aj off len/\H0[b]?=some (.arr k aC aj a)/\aq=[(b,.arr k aC aj a)]/\((di k a/\v=.p .dM)\/(0<len/\off+len<=a.length/\v=.b8 b aC aj off []))):
 bA P o ρ base {v,aq}:=by
 obtain⟨s,q⟩:=zC l hc n;refine bA.same fun H w ad ai β m t y r=>?_;obtain⟨d,i⟩:=y x s;have g:∀f,(ei c.argTypes o.type #[m x]).run P w=.ok f w->(cc m o).run P w=.ok (.value f) w:=by
  intro f u;simp only[cc,l,resolve,hc,q];simp only[gt,gw,gj,invoke,builtin,hv,hh,hn];rw[u];rfl
 rcases h with⟨hx,rfl,rfl⟩|⟨b,aC,aj,off,len,k,a,hx,D,rfl,h⟩
 ·rw[hx]at d;simp only[aD,aF]at d;exact⟨_,g _ (by rw[d];exact Lib.run_unsafeSliceData_nil w _ _ _ _),by simp[aD,aF],by simp[aG]⟩
 ·have j:H[b]?=some (.arr k aC aj a):=by simpa using r
  rw[hx]at d i;simp only[aD,bO,bU]at d;obtain⟨_,v2,v3⟩:=d.2 k a j;rcases h with⟨e,rfl⟩|⟨E,hle,rfl⟩
  ·exact⟨_,g _ (by rw[v2 e];exact Lib.run_unsafeSliceData_nil w _ _ _ _),by simp[aD,aF],by simp[aG]⟩
  ·have e:¬di k a:=fun h=>by rw[h.2]at hle;simp at hle;omega
   rcases t.cO b _ j with hold|⟨cs,z,A,rest,k1,k2,k3,k4,k5,_⟩
   ·exact(e hold).elim
   refine⟨_,g _ (by rw[v3 e];exact Lib.run_unsafeSliceData_row w _ _ _ _ _ (by omega)),?_,by simpa only[aG]using i⟩;simp only[aD,bO,bU];refine⟨by simp[Value.oneCell'],β.au b,off*aj,0,by simp,rfl,fun F B C _=>⟨rfl,by simp⟩⟩
theorem X5(w:ch)(a:Addr)(n:Nat):(w.freeze a n).os=w.os/\(w.freeze a n).output=w.output:=by
 unfold g8
 first|exact⟨rfl,rfl⟩|(split<;>exact⟨rfl,rfl⟩)
theorem XX{w':ch}(j:bX P w ad β H ai){b:Nat}{o:Obj}(i:H[b]?=some o)(u:o.live)(g:¬ad (β.au b)/\¬ai (β.au b))(B:∀L,o≠ .loop L)(C:w'.heap.size=w.heap.size)
 (hs:∀k,k≠β.au b->w'.heap[k]?=w.heap[k]?)(A:w'.os=w.os/\w'.output=w.output:=by exact⟨rfl,rfl⟩):b6 P ai ad w β H ad w' β (H.set b .dead):=by
 have n:b<H.length:=(ha.1 i).1;have c:∀(x:Nat)(a:Obj),(H.set b Obj.dead)[x]?=some a->a≠.dead->H[x]?=some a:=by
  intro x a hx p
  by_cases l:b=x
  ·subst l;rw[he n]at hx;cases hx;exact(p rfl).elim
  ·rwa [hB l]at hx
 have aO:cC β H β (H.set b .dead):=by
  refine⟨?_,?_,?_,?_,?_⟩
  ·rintro x _ ⟨f,t,h⟩;exact⟨⟨f,t,c _ _ h (by simp)⟩,rfl⟩
  ·rintro x _ ⟨f,t,h⟩;exact⟨⟨f,t,c _ _ h (by simp)⟩,rfl⟩
  ·rintro x _ ⟨f,t,h⟩;exact⟨⟨f,t,c _ _ h (by simp)⟩,rfl⟩
  ·intro x aC aj k v _ h;exact⟨k,v,c _ _ h (by simp),hS _,Iff.rfl,fun _=>⟨rfl,rfl⟩⟩
  ·rintro x _ ⟨L,h⟩;exact⟨⟨L,c _ _ h (by simp)⟩,rfl⟩
 have m:b6 P ai ad w β H ad w β (H.set b .dead):=
  b6.set j n (fun _ _=>⟨rfl,rfl⟩) (fun _ x=>x) (fun _ x=>.inl x) j.bS (hS _) (fun _ _ _=>rfl) (fun h=>h.elim) aO trivial trivial (fun _ _ _ _=>trivial) (fun L r=>by rw[i]at r;cases r;exact(B L rfl).elim)
 have hx:=j.mY i u;have y:=m.rel.LI hx (fun x a q d s=>by
  have p:a≠.dead:=fun e=>by rw[e]at d;exact d
  have l:x=b:=j.inj x b a o (c _ _ q p) i d u (fun hi=>g.1 (s▸hi)) s;subst l;rw[he n]at q;cases q;exact d)
 have z:=y.shut (w':=w') (Prot0:=ai) (fun _ h=>.inl h) (R:=fun k=>k=β.au b) (fun x e=>⟨.inr e,e▸g.1⟩) C (fun k hk=>hs k hk);refine⟨fun _ h=>h,fun _ h=>.inl h,⟨by omega,fun k hk=>hs k (fun e=>?_),A⟩,aO,z,m.fa,m.loop⟩;rcases hk with hk|hk
 ·exact g.2 (e▸hk)
 ·exact g.1 (e▸hk)
theorem CG:∀{d:List AV}{l:List Nat}{b:List (List ce)},bytesOf d=some l->Row P w ad β H 1 d b->b.flatten=l.map (fun c=>Value.int .u8 (c:Nat))/\l.length=d.length/\∀c∈l,c<256
 |[],l,b,h,a=>by
  simp[bytesOf]at h;subst h;rw[iF]at a;subst a;simp
 |v::d,l,b,h,a=>by
  unfold bytesOf at h
  split at h
  ·rename_i e;cases e
  ·rename_i c r e;simp at e;obtain⟨rfl,rfl⟩:=e
   split at h
   case isFalse=>simp at h
   rename_i hc
   split at h
   case h_2=>simp at h
   rename_i m i;simp at h;subst h;rw[qX]at a;obtain⟨j,cs,rfl,f,k,g⟩:=a;obtain⟨i1,i2,i3⟩:=CG i g;simp only[br,aW]at f;subst f;refine⟨by simp[i1];omega,by simp[i2],?_⟩;intro x hx;rcases hl.1 hx with rfl|hx
   ·omega
   ·exact i3 x hx
  ·simp at h
theorem Vc{S D e:b3}{x:b5}{b aC off len:Nat}{k:AK}{d:List AV}{l:List Nat}(r:o.op= .convert S D x)(A:P.underlying S=some (.slice e))(u:P.underlying D=some .string)(y:P.underlying e=some (.int .u8))(hx:ρ x= .sl b aC 1 off len)
 (L:0<len)(j:off+len<=d.length)(C:bytesOf ((d.drop off).take len)=some l):bA P o ρ base {v:=.p (.str l),aq:=[(b,.arr k aC 1 d)]}:=by
 refine bA.same fun H w ad ai β M F I aq=>?_;have q:H[b]?=some (.arr k aC 1 d):=by simpa using aq
 have f:=(I x (by simp[r,fw])).1;rw[hx]at f;simp only[aD,bO,bU]at f;have n:¬di k d:=fun h=>by rw[h.2]at j;simp at j;omega
 have f:=(f.2 _ _ q).2.2 n;rcases F.cO b _ q with hold|⟨cs,J,K,rest,k1,k2,k3,k4,k5,k6,k7,k8⟩
 ·exact(n hold).elim
 obtain⟨a,m,z,g1,g2,g3,g4,g5⟩:=jV k2 off len j;obtain⟨b1,s,t⟩:=CG C g2;have E:l.length=len:=by rw[s];simp;omega
 have B:cs.toList=a.flatten++(l.map (fun c=>Value.int .u8 (c:Nat))++(z.flatten++rest)):=by
  rw[k3,g1];simp only[hL,hE,b1]
 have G:=run_convert_bytes_arg (P:=P) w S e A y (β.au b) (off*1) len (β.cap b-off) (l.map fun c:Nat=>(c:Int)) (by simpa using E) (fun i hi=>by
  have g:i<l.length:=by omega
  have:cs[off*1+i]?=some (.int .u8 (l[i]:Nat)):=by
   rw[<-bb,B,List.getElem?_append_right (by omega),g3,Nat.add_sub_cancel_left,hu (by simpa using g),hD,hg g];rfl
  rw[List.getD_eq_getElem?_getD,hD,hg g];simp only[g9,k1];simpa using this) D u
 refine⟨.string (strOfNums (l.map fun c:Nat=>(c:Int))),?_,?_,by simp[aG]⟩
 ·simp only[cc,r,f];exact eX G
 ·simp only[aD,aF];refine⟨_,rfl,?_⟩;rw[strOfNums_data,hy,hy]
  conv=>lhs;rw[<-hR l]
  refine hC fun c hc=>?_;have:=t c hc;simp[h7];omega
theorem UC{c:Call}{x y:b5}{b aC n:Nat}{d:List AV}{l:List Nat}{T X:b3}(F:o.op= .call c)(hc:c.callee= .builtin .unsafeString)(M:c.args.toList=[x,y])(aa:c.argTypes=#[T,X])(hx:ρ x= .b8 b aC 1 0 [])(ac:ρ y= .p (.int .i64 n))
 (ag:0<n)(C:n<=d.length)(ah:n<=9223372036854775807)(L:P.underlying T=some (.pointer Gl.u8))(ab:P.cellsOf Gl.u8=1)(V:bytesOf (d.take n)=some l):
 bA P o ρ base {v:=.p (.str l),aq:=[(b,.arr .bytes aC 1 d)],aM:=[(b,.dead)]}:=by
 have s:c.args=#[x,y]:=by apply a7;simpa using M
 have D:x∈o.op.operands/\y∈o.op.operands:=by
  rw[F];simp[fw,eq,hc,s]
 intro H w ad ai β r G I aq _;have q:H[b]?=some (.arr .bytes aC 1 d):=by simpa using aq
 have e:=(I x D.1).1;have f:=(I y D.2).1;rw[hx]at e;rw[ac]at f;simp only[aD,bO,bU,aF]at e f;have i:¬di .bytes d:=fun h=>by rw[h.2]at C;simp at C;omega
 obtain⟨_,au,off,aj,W,E,e⟩:=e;simp[gu]at E;subst E;obtain⟨rfl,rfl⟩:=e _ _ q i;rcases G.cO b _ q with hold|⟨cs,ae,af,rest,k1,k2,k3,k4,k5,k6,k7,k8⟩
 ·exact(i hold).elim
 obtain rfl:=k8.2 rfl;have S:¬ad (β.au b)/\¬ai (β.au b):=by
  unfold cK at k7;rw[if_neg (by simp)]at k7;exact k7
 obtain⟨a,m,z,g1,g2,g3,g4,g5⟩:=jV k2 0 n (by omega);have N:a=[]:=by have:=(fV g4).1;simpa using this
 subst N;rw[hQ]at g2;obtain⟨b1,J,K⟩:=CG V g2;obtain⟨bs,u⟩:∃bs:List UInt8,bs=l.map h8:=⟨_,rfl⟩
 have g:bs.length=n:=by rw[u];simp[J];omega
 have t:bs.map (·.toNat)=l:=by
  rw[u,hy]
  conv=>rhs;rw[<-hR l]
  refine hC fun c hc=>?_;have:=K c hc;simp[h7];omega
 have A:cs.toList=bs.map (fun c=>Value.int .u8 c.toNat)++(z.flatten++rest):=by
  rw[k3,g1];simp only[List.nil_append,hL,hE,b1];congr 1;rw[<-t,hy];rfl
 have Z:=Lib.run_unsafeString_row (P:=P) w T X o.type Gl.u8 L ab (β.au b) cs.size (by simp[World.shape?,k1]) bs (fun h=>by rw[h]at g;simp at g;omega) (by
  have:=congrArg hJ A;simp only[be,hd,List.length_map]at this;omega) (by omega) (fun j v B=>by
  have U:j<bs.length:=(ha.1 B).1;rw[kM];have:cs[j]?=some (.int .u8 v.toNat):=by
   rw[<-bb,A,hu (by simpa using U),hD,B];rfl
  simp[g9,k1,this])
 have O:(cc r o).run P w=.ok (.value (.string ⟨bs.toArray⟩)) (w.freeze ⟨β.au b,0,none⟩ bs.length):=by
  simp only[cc,F,resolve,hc,s];simp only[gt,gw,gj,invoke,builtin,hv,hh,hn];have key:(ea c.argTypes o.type #[r x,r y]).run P w=.ok (.string ⟨bs.toArray⟩) (w.freeze ⟨β.au b,0,none⟩ bs.length):=by
   rw[aa,W,f,<-g];simpa using Z
  rw[key];rfl
 have R:∀k,k≠β.au b->(w.freeze ⟨β.au b,0,none⟩ bs.length).heap[k]?=w.heap[k]?:=by
  intro k hk;unfold g8
  split
  ·rfl
  ·simp[Array.getElem?_modify,Ne.symm hk]
 have Q:(w.freeze ⟨β.au b,0,none⟩ bs.length).heap.size=w.heap.size:=by
  unfold g8
  split<;>simp
 have Y:=XX G q i S (fun _ h=>by cases h) Q R (X5 _ _ _);refine⟨_,_,_,β,ad,O,.inl rfl,?_,?_,by simp[aG]⟩
 ·simpa only[newAt,hj,bf]using Y
 ·simp only[aD,aF];exact⟨_,rfl,by simpa using t.symm⟩
theorem Uy{c:Call}{x y:b5}{T X:b3}(f:o.op= .call c)(hc:c.callee= .builtin .unsafeString)(i:c.args.toList=[x,y])(j:c.argTypes=#[T,X])(hx:ρ x= .p .dM)(k:ρ y= .p (.int .i64 0)):
 bA P o ρ base {v:=.p (.str [])}:=by
 have d:c.args=#[x,y]:=by apply a7;simpa using i
 have e:x∈o.op.operands/\y∈o.op.operands:=by
  rw[f];simp[fw,eq,hc,d]
 refine bA.same fun H w ad ai β h l g aq=>?_;have a:=(g x e.1).1;have b:=(g y e.2).1;rw[hx]at a;rw[k]at b;simp only[aD,aF]at a b;refine⟨.string .empty,?_,by simp only[aD,aF];exact⟨_,rfl,rfl⟩,by simp[aG]⟩;simp only[cc,f,resolve,hc,d];simp only[gt,gw,gj,invoke,builtin,hv,hh,hn];have key:(ea c.argTypes o.type #[h x,h y]).run P w=.ok (.string .empty) w:=by
  rw[j,a,b];exact Lib.run_unsafeString_none w _ _ _ _
 rw[key];rfl
end
section
variable{P:b2}
theorem D0{c:Call}{ρ:b5->AV}{x:AV}(a:c.args.toList.map ρ=[x]):∃y,c.args.toList=[y]/\ρ y=x:=by
 match b:c.args.toList with
 |[]=>rw[b]at a;simp at a
 |[y]=>rw[b]at a;simp at a;exact⟨y,rfl,a⟩
 |_::_::_=>rw[b]at a;simp at a
theorem KA{c:Call}(h:c.argTypes.size=2):∃T X,c.argTypes=#[T,X]:=by
 obtain⟨l,d⟩:∃l,l=c.argTypes.toList:=⟨_,rfl⟩
 have e:l.length=2:=by rw[d];simpa using h
 match l,e with
 |[a,b],_=>exact⟨a,b,by apply a7;simp[<-d]⟩
theorem px(ag:cb->Bool):mc P ag:=by
 intro o ρ H K _ h;unfold fH at h;have plain:∀{e:aZ},K e->bA P o ρ H.length e->e.aq=[]->e.aM=[]->∃e,K e/\bA P o ρ H.length e/\(∀p∈e.aq,H[p.1]?=some p.2)/\(∀p∈e.aM,p.1<H.length/\p.2≠.hole):=by
  intro e w A B I;exact⟨e,w,A,by simp[B],by simp[I]⟩
 cases q:o.op<;>simp only[q]at h
 case move x=>exact plain h (Sc (.inl q)) rfl rfl
 case assign x=>exact plain h (Sc (.inr q)) rfl rfl
 case pick c a b=>
  split at h
  ·rename_i t hc;exact plain h (aJS q hc) rfl rfl
  ·exact h.elim
 case alloc T=>
  split at h
  ·rename_i z M;exact plain h.2.2.2 (YO q M h.2.2.1) rfl rfl
  ·exact h.elim
 case box T x=>exact plain h.2.2.2 (aJL q h.2.1 h.2.2.1) rfl rfl
 case build T parts=>
  split at h
  ·rename_i u z hk M
   split at h
   ·rename_i l G;obtain⟨w,A,B⟩:=h;exact plain B (YN q hk M G w A) rfl rfl
   ·exact h.elim
  ·exact h.elim
 case buildSlice T n parts=>
  split at h
  ·rename_i sz z U M;obtain⟨w,A,B,I⟩:=h;exact plain I (U1 q U M w A B) rfl rfl
  ·exact h.elim
 case load T a=>exact aJQ q h
 case store T a x=>exact Zo q h
 case binOp b T x y aB=>
  obtain⟨v,w,A⟩:=aJK (base:=H.length) q h;exact⟨_,w,A,nN,by simp⟩
 case unOp u T x=>
  split at h
  ·rename_i b hx;exact plain h (Fl q hx (.inl ⟨rfl,_,rfl,rfl⟩)) rfl rfl
  ·rename_i k n hx;exact plain h (Fl q hx (.inr (.inl ⟨rfl,_,_,rfl,rfl⟩))) rfl rfl
  ·rename_i k n hx;exact plain h (Fl q hx (.inr (.inr ⟨rfl,_,_,rfl,rfl⟩))) rfl rfl
  ·exact h.elim
 case convert S D x=>
  split at h
  ·rename_i d k k0 n Z Y hx;exact plain h (Wt q ⟨_,Z⟩ Y hx) rfl rfl
  ·rename_i d s Z Y hx;exact plain h (Ws q ⟨_,Z⟩ Y hx) rfl rfl
  ·rename_i e b aC aj off len Z Y hx
   split at h
   case h_2=>exact h.elim
   rename_i k ae ac R C;obtain⟨rfl,rfl,rfl,U,af,hle,h⟩:=h
   split at h
   case h_2=>exact h.elim
   rename_i l G;exact⟨_,h,Vc q Z Y U hx af hle G,by simpa using C,by simp⟩
  ·exact h.elim
 case extract t i=>
  split at h
  ·rename_i vs am
   split at h
   ·rename_i v an;exact plain h (Kr q (.inr ⟨_,am,rfl⟩) (by simp[an])) rfl rfl
   ·exact h.elim
  ·rename_i vs am
   split at h
   ·rename_i v an;exact plain h (Kr q (.inl am) an) rfl rfl
   ·exact h.elim
  ·exact h.elim
 case fieldAddr T a f=>
  obtain⟨e,w,A,B,I⟩:=Vb (base:=H.length) q h;exact plain w A B I
 case indexAddr T x i=>
  obtain⟨e,w,A,B,I⟩:=Va (base:=H.length) q h;exact⟨e,w,A,B,by simp[I]⟩
 case field T x f=>
  split at h
  ·rename_i u fs t hk aw hx;obtain⟨w,h⟩:=h
   split at h
   ·rename_i g F ak ah;exact plain h.2 (YL q hk aw hx w ak ah h.1) rfl rfl
   ·exact h.elim
  ·exact h.elim
 case index T x i=>
  split at h
  ·rename_i s k n hx hi;obtain⟨w,A,B,I⟩:=h;exact plain I (V7 q hx hi w A B) rfl rfl
  ·rename_i u R k n hx hi
   split at h
   ·rename_i u' m F g N ah ak;obtain⟨rfl,af,aa,hk,h⟩:=h;exact plain h (V8 q N hx hi af aa ah ak hk) rfl rfl
   ·exact h.elim
  ·exact h.elim
 case makeFunc fn fi ca=>
  cases fn<;>simp only at h
  case func f=>
   obtain⟨m1,m2,m3⟩:=V6 (ρ:=ρ) (base:=H.length) q
   split at h
   ·split at h
    ·rename_i a b aq aM j ai;obtain⟨q1,ab,aA⟩:=m3 H a b aq aM j ai;exact⟨_,h,q1,ab,aA⟩
    ·exact h.elim
   ·split at h
    ·rename_i a b j ai;exact plain h (m1 a b j ai) rfl rfl
    ·exact plain h m2 rfl rfl
 case makeSlice T l c=>
  split at h
  ·rename_i sz z aD c' U M G hc;obtain⟨w,A,rfl,I,O⟩:=h;exact plain O (U9 q U M G hc w A I) rfl rfl
  ·exact h.elim
 case slice T x lo hi ax=>
  cases ax with
  |none=>
   obtain⟨e,w,A,B,I⟩:=YJ (base:=H.length) q h;exact⟨e,w,A,B,by simp[I]⟩
  |some m=>
   obtain⟨e,w,A,B,I⟩:=Xy (base:=H.length) q h;exact⟨e,w,A,B,by simp[I]⟩
 case makeMap T r=>
  cases r<;>simp only at h;exact plain h (Wr q) rfl rfl
 case lookup T x i ok=>
  split at h
  case h_2=>exact h.elim
  rename_i ao E key N hi
  split at h
  case h_2=>exact h.elim
  rename_i z M;obtain⟨hk,h⟩:=h
  split at h
  ·rename_i hx;exact plain h (vA (r:=none) (es:=[]) q N M hi hk rfl (.inl ⟨hx,rfl⟩)) rfl rfl
  ·rename_i R hx
   split at h
   ·rename_i v G;exact plain h (vA (r:=some v) q N M hi hk G (.inr (.inl hx))) rfl rfl
   ·rename_i G;exact plain h (vA (r:=none) q N M hi hk G (.inr (.inl hx))) rfl rfl
   ·exact h.elim
  ·rename_i b hx
   split at h
   case h_2=>exact h.elim
   rename_i fz R C
   split at h
   ·rename_i v G;exact⟨_,h,vA (r:=some v) q N M hi hk G (.inr (.inr ⟨b,fz,hx,by simp⟩)),by simpa using C,by simp⟩
   ·rename_i G;exact⟨_,h,vA (r:=none) q N M hi hk G (.inr (.inr ⟨b,fz,hx,by simp⟩)),by simpa using C,by simp⟩
   ·exact h.elim
  ·exact h.elim
 case mapUpdate T m k x=>
  split at h
  case h_2=>exact h.elim
  rename_i ao E b key v N al hk hx;obtain⟨hf,h⟩:=h
  split at h
  case h_2=>exact h.elim
  rename_i R C
  split at h
  case h_2=>exact h.elim
  rename_i r G;exact⟨_,h,Jj (.inl q) N al hk hx hf G,by simpa using C,by simpa using(ha.1 C).1⟩
 case insert T m k x=>
  split at h
  case h_2=>exact h.elim
  rename_i ao E b key v N al hk hx;obtain⟨hf,h⟩:=h
  split at h
  case h_2=>exact h.elim
  rename_i R C
  split at h
  case h_2=>exact h.elim
  rename_i r G;exact⟨_,h,Jj (.inr q) N al hk hx hf G,by simpa using C,by simpa using(ha.1 C).1⟩
 case range T x=>
  split at h
  ·rename_i s hx;exact plain h.2 (YK q hx h.1) rfl rfl
  ·exact h.elim
 case next it isStr=>
  cases isStr<;>simp only at h
  split at h
  case h_2=>exact h.elim
  rename_i b hx
  split at h
  case h_2=>exact h.elim
  rename_i s pos C;obtain⟨ay,az⟩:=aJR (P:=P) (base:=H.length) (s:=s) (pos:=pos) q hx
  split at h
  ·rename_i V;exact⟨_,h,ay V,by simpa using C,by simpa using(ha.1 C).1⟩
  ·rename_i V;exact⟨_,h,az V,by simpa using C,by simp⟩
 case nilCheck x=>
  split at h
  ·rename_i b p hx;exact plain h (B2 q (.inl ⟨b,p,hx⟩)) rfl rfl
  ·rename_i b v e i p hx;exact plain h (B2 q (.inr (.inl ⟨b,v,e,i,p,hx⟩))) rfl rfl
  ·rename_i t hx;exact plain h (B2 q (.inr (.inr ⟨t,hx⟩))) rfl rfl
  ·exact h.elim
 case call c=>
  split at h
  case h_2=>exact h.elim
  rename_i b hc
  split at h
  ·rename_i x j
   split at h
   case h_2=>exact h.elim
   rename_i n aq G;obtain⟨w,A,B⟩:=h;obtain⟨y,L,rfl⟩:∃y,c.args.toList=[y]/\ρ y=x:=by
    match J:c.args.toList with
    |[]=>rw[J]at j;simp at j
    |[y]=>rw[J]at j;simp at j;exact⟨y,rfl,j⟩
    |_::_::_=>rw[J]at j;simp at j
   obtain⟨q1,ab⟩:=aJP (P:=P) (base:=H.length) q hc L G w A;exact⟨_,B,q1,ab,by simp⟩
  ·rename_i s x j;obtain⟨y,z,L,rfl,rfl⟩:∃y z,c.args.toList=[y,z]/\ρ y=s/\ρ z=x:=by
    match J:c.args.toList with
    |[]=>rw[J]at j;simp at j
    |[y]=>rw[J]at j;simp at j
    |[y,z]=>rw[J]at j;simp at j;exact⟨y,z,rfl,j.1,j.2⟩
    |_::_::_::_=>rw[J]at j;simp at j
   exact XA q hc L h.1 h.2
  ·rename_i k a r j
   split at h
   ·rename_i n aa;exact plain h (KL (isMax:=false) q hc j aa) rfl rfl
   ·exact h.elim
  ·rename_i k a r j
   split at h
   ·rename_i n aa;exact plain h (KL (isMax:=true) q hc j aa) rfl rfl
   ·exact h.elim
  ·rename_i d x j;obtain⟨y,z,L,au,rfl⟩:∃y z,c.args.toList=[y,z]/\ρ y=d/\ρ z=x:=by
    match J:c.args.toList with
    |[]=>rw[J]at j;simp at j
    |[y]=>rw[J]at j;simp at j
    |[y,z]=>rw[J]at j;simp at j;exact⟨y,z,rfl,j.1,j.2⟩
    |_::_::_::_=>rw[J]at j;simp at j
   split at h
   case h_2=>exact h.elim
   rename_i sz b aC aj off len aE U hx;obtain⟨rfl,w,A,h⟩:=h
   split at h
   case h_2=>exact h.elim
   rename_i k ae ac R C;obtain⟨rfl,rfl,B,I,O,W⟩:=h;refine⟨_,W,aJN q hc L A U au hx w B I O,?_,by simpa using(ha.1 C).1⟩;intro p V;rcases hl.1 V with rfl|V
   ·exact C
   ·exact nN p V
  ·rename_i x j;obtain⟨y,L,rfl⟩:=D0 j
   split at h
   case h_2=>exact h.elim
   rename_i n aq G;obtain⟨w,A,B⟩:=h;obtain⟨q1,ab⟩:=aJM (P:=P) (base:=H.length) q hc L G w A;exact⟨_,B,q1,ab,by simp⟩
  ·rename_i x j;obtain⟨y,L,Q⟩:=D0 j
   split at h
   ·rw[<-Q]at h;exact plain h.2.2 (U0 q hc L Q h.1 h.2.1) rfl rfl
   ·split at h
    ·rename_i b aC aj off len sz z k ae ac R U M C;obtain⟨rfl,rfl,rfl,w,A,B,I,O,W,ar⟩:=h;exact⟨_,ar,YM q hc L O U M w Q A B I W,by simpa using C,by simpa using(ha.1 C).1⟩
    ·exact h.elim
   ·exact h.elim
  ·rename_i x j;obtain⟨y,L,Q⟩:=D0 j
   split at h
   ·exact plain h (B5 (H0:=H) q hc L (.inl ⟨Q,rfl,rfl⟩)) rfl rfl
   ·split at h
    ·rename_i b aC aj off len k ae ac R C;obtain⟨rfl,rfl,h⟩:=h;rcases h with⟨w,A,B⟩|⟨w,A,B⟩
     ·exact⟨_,B,B5 q hc L (.inr ⟨_,_,_,_,_,_,_,Q,C,rfl,.inl ⟨⟨w,A⟩,rfl⟩⟩),by simpa using C,by simp⟩
     ·exact⟨_,B,B5 q hc L (.inr ⟨_,_,_,_,_,_,_,Q,C,rfl,.inr ⟨w,A,rfl⟩⟩),by simpa using C,by simp⟩
    ·exact h.elim
   ·exact h.elim
  ·rename_i x n j;obtain⟨y,z,L,Q,ap⟩:∃y z,c.args.toList=[y,z]/\ρ y=x/\ρ z=.p (.int .i64 n):=by
    match J:c.args.toList with
    |[]=>rw[J]at j;simp at j
    |[y]=>rw[J]at j;simp at j
    |[y,z]=>rw[J]at j;simp at j;exact⟨y,z,rfl,j.1,j.2⟩
    |_::_::_::_=>rw[J]at j;simp at j
   split at h
   ·obtain⟨rfl,w,A⟩:=h;obtain⟨T,X,ad⟩:=KA w;exact plain A (Uy q hc L ad Q ap) rfl rfl
   ·split at h
    ·rename_i b aC aj i ae ac R C;obtain⟨rfl,rfl,rfl,rfl,w,A,B,I,O,W,h⟩:=h;obtain⟨T,X,ad⟩:=KA I
     split at h
     ·rename_i l G;obtain⟨m,rfl⟩:=Int.eq_ofNat_of_zero_le (by omega:0<=n);simp only[Int.toNat_natCast]at A G;have N:P.underlying T=some (.pointer Gl.u8):=by
       rw[ad]at O;simp only[ptrTo]at O
       split at O
       ·rename_i e av;simp at O;rw[<-O];exact av
       ·simp at O
      exact⟨_,h,UC q hc L ad Q ap (by omega) A (by omega) N W G,by simpa using C,by simpa using(ha.1 C).1⟩
     ·exact h.elim
    ·exact h.elim
   ·exact h.elim
  ·exact h.elim
end
section
variable{P:b2}{ag:cb->Bool}{n:Nat}
theorem Lv{o o':Obj}(h:mE o=some o'):mE o'=some o':=by
 unfold mE at h
 split at h
 ·simp at h;subst h;rfl
 ·rename_i k aC aj b
  split at h
  ·simp at h
  ·split at h
   ·rename_i l a;simp at h;subst h;simp[mE,AK.gr,a]
   ·simp at h
 ·simp at h;subst h;rfl
 ·simp at h
theorem azS{w:ch}{ad ai:Nat->Prop}{β:Bd}{H:an}(d:bX P w ad β H ai){b:Nat}{o o':Obj}(c:H[b]?=some o)(hf:mE o=some o'):
 ∃aH,b6 P ai ad w β H aH w β (H.set b o')/\aH (β.au b):=by
 unfold mE at hf
 split at hf
 ·rename_i fz t;simp at hf;subst hf;obtain⟨cs,T,g,i,j,m⟩:=d.cO b _ c;have aO:cC β H β (H.set b (.box true (.p t))):=s9 c (.inl ⟨_,_,_,rfl,rfl⟩);exact tq d c trivial (o':=.box true (.p t)) trivial (fun _ h=>h) (fun _ h=>by cases h) aO j.ug
   (fun aH hi l=>⟨cs,T,g,br.mono hi (fun _ _=>rfl) aO _ _ (by simp[aG]) i,l,fun _=>trivial,m.2⟩) (by simp[Obj.refs,aG])
 ·rename_i k aC aj f
  split at hf
  ·simp at hf
  ·rename_i q
   split at hf
   case h_2=>simp at hf
   rename_i C z;simp at hf;subst hf;have r:=mn z;rcases d.cO b _ c with hold|⟨cs,T,u,rest,g,i,j,m,x,A,y,B⟩
   ·exact(q hold).elim
   have s:¬di .frozen f:=fun h=>by cases h.1
   have aO:cC β H β (H.set b (.arr .frozen aC aj f)):=s9 c (.inr (.inl ⟨_,_,_,_,_,rfl,rfl,q,s⟩));exact tq d c q (o':=.arr .frozen aC aj f) s (fun _ h=>h) (fun _ h=>by cases h) aO y.ug
    (fun aH hi l=>.inr ⟨cs,T,u,rest,g,bM.mono hi (fun _ _=>rfl) aO _ _ _ (d.refs b _ c) i,j,m,x,(fun h=>by cases h),l,fun _ e n=>(by rw[r]at n;simp at n;obtain⟨a,_,rfl⟩:=n;trivial),fun h=>by cases h⟩)
    (by rw[r];exact jg _ _)
 ·rename_i fz f;simp at hf;subst hf;obtain⟨v,clock,g,i,j⟩:=d.cO b _ c;have aO:cC β H β (H.set b (.map true f)):=s9 c (.inr (.inr ⟨_,_,_,rfl,rfl⟩));exact tq d c trivial (o':=.map true f) trivial (fun _ h=>h) (fun _ h=>by cases h) aO j.ug
   (fun aH hi l=>⟨v,clock,g,cL.mono hi (fun _ _=>rfl) _ _ i,l⟩) trivial
 ·simp at hf
theorem JU{w:ch}{ai:Nat->Prop}{β:Bd}{H0:an}:∀(bs:List Nat){aq aM:List (Nat×Obj)}{H:an}{ad:Nat->Prop},lO H0 bs=some (aq,aM)->bX P w ad β H ai->
 (∀p∈aq,∃c,H[p.1]?=some c/\mE c=mE p.2)->∃aH,b6 P ai ad w β H aH w β (bf H aM)/\∀b∈bs,aH (β.au b)
 |[],aq,aM,H,ad,h,a,_=>by
  simp[lO]at h;obtain⟨rfl,rfl⟩:=h;exact⟨ad,b6.refl a,by simp⟩
 |b::bs,aq,aM,H,ad,h,a,hc=>by
  simp only[lO]at h
  split at h
  case h_2=>simp at h
  rename_i o q s r g
  split at h
  case h_2=>simp at h
  rename_i o' hf;simp at h;obtain⟨rfl,rfl⟩:=h;obtain⟨c,g1,g2⟩:=hc (b,o) (by simp);simp only at g1 g2;rw[hf]at g2;obtain⟨n,e,l⟩:=azS a g1 g2;have i:b<H.length:=(ha.1 g1).1;obtain⟨f,q1,m⟩:=JU bs g e.rel (by
   intro p j;obtain⟨k,k1,k2⟩:=hc p (by simp[j])
   by_cases d:b=p.1
   ·rw[<-d]at k1⊢;rw[g1]at k1;cases k1;refine⟨o',by rw[he i],?_⟩;rw[<-k2,g2,Lv g2]
   ·exact⟨k,by rw[hB d];exact k1,k2⟩)
  refine⟨f,by simpa only[bf]using e.trans q1,?_⟩;intro x hx;rcases hl.1 hx with rfl|hx
  ·exact q1.bS _ l
  ·exact m x hx
theorem Lw{H0:an}:∀(bs:List Nat){aq aM:List (Nat×Obj)},lO H0 bs=some (aq,aM)->(∀p∈aq,H0[p.1]?=some p.2)/\(∀p∈aM,p.1<H0.length/\p.2≠.hole)/\aq.map (·.1)=bs
 |[],aq,aM,h=>by
  simp[lO]at h;obtain⟨rfl,rfl⟩:=h;simp
 |b::bs,aq,aM,h=>by
  simp only[lO]at h
  split at h
  case h_2=>simp at h
  rename_i o f g d e
  split at h
  case h_2=>simp at h
  rename_i o' hf;simp at h;obtain⟨rfl,rfl⟩:=h;obtain⟨i1,i2,i3⟩:=Lw bs e;refine⟨?_,?_,by simp[i3]⟩
  ·intro p a;rcases hl.1 a with rfl|a
   ·exact d
   ·exact i1 p a
  ·intro p a;rcases hl.1 a with rfl|a
   ·refine⟨(ha.1 d).1,fun c=>?_⟩;simp only at c;have:=Lv hf;rw[c]at this;simp[mE]at this
   ·exact i2 p a
theorem Zd{w:ch}{ad aH ai:Nat->Prop}{β:Bd}{H0 H:an}{a:AV}{A:PV}{bs:List Nat}{v:ce}(d:mN H0 a=some (A,bs))(aq:∀b∈bs,H[b]?=H0[b]?)(n:bX P w ad β H ai)(e:aD P w ad β H a v)
 (hi:∀k,ad k->aH k)(r:∀b∈bs,aH (β.au b)):aF P w aH A v:=by
 cases a with
 |p t=>
  simp[mN]at d;obtain⟨rfl,rfl⟩:=d;simp only[aD]at e;exact aF.mono hi (fun _ _=>rfl) _ _ e
 |sl b aC aj off len=>
  simp only[mN]at d
  split at d
  case h_2=>simp at d
  rename_i k U N g l
  split at d
  case isFalse=>simp at d
  rename_i G;obtain⟨rfl,rfl,S⟩:=G
  split at d
  ·simp at d
  ·rename_i y
   split at d
   case h_2=>simp at d
   rename_i z J;simp at d;obtain⟨rfl,rfl⟩:=d;have x:=mn J;have f:H[b]?=some (.arr k aC aj g):=by rw[aq b (by simp)];exact l
   have j:=r b (by simp);simp only[aD,bO,bU]at e;obtain⟨v1,v2,v3⟩:=e.2 k g f;rcases n.cO b _ f with hold|⟨cs,T,B,rest,i,h,q,E,O,F,Q,R⟩
   ·exact(y hold).elim
   rw[v3 y];have K:Row P w aH β H aj g B:=bM.mono hi (fun _ _=>rfl) (cC.refl _ _) _ _ _ (n.refs b _ f) h;obtain⟨a,m,c,e1,e2,e3,e4,e5⟩:=jV K off len v1;rw[x,BV,mq]at e2;have u:((z.drop off).take len).length=len:=by
    have:g.length=z.length:=by rw[x];simp
    simp;omega
   simp only[aF];refine⟨β.au b,off*aj,β.cap b-off,aj,m,e2,fun _=>j,?_,?_,?_,none,.inl rfl,?_⟩
   ·rw[<-e3];exact mg i (post:=c.flatten++rest) (by rw[q,e1];simp)
   ·intro hf;simp at hf;rw[u,F hf.1];omega
   ·rw[u];omega
   ·rw[u]
 |ptr b path=>
  simp only[mN]at d
  split at d
  case h_2=>simp at d
  rename_i fz t l
  split at d
  case h_2=>simp at d
  rename_i s hs;simp at d;obtain⟨rfl,rfl⟩:=d;have f:H[b]?=some (.box fz (.p t)):=by rw[aq b (by simp)];exact l
  have j:=r b (by simp);simp only[aD,bO,bU]at e;obtain⟨_,M,L,o,rfl,I,e⟩:=e;obtain⟨rfl,rfl⟩:=e (.inl ⟨fz,_,f⟩);obtain⟨cs,T,i,h,q,E⟩:=n.cO b _ f;have D:aW P w aH t cs.toList:=by simp only[br]at h;exact aW.mono hi (fun _ _=>rfl) _ _ h
  obtain⟨pre,xs,post,e1,e2,e3⟩:=zk D hs I;simp only[aF];refine⟨β.au b,L,xs,e3,j,?_,rfl⟩;rw[<-e2];exact mg i e1
 |map b=>
  simp only[mN]at d
  split at d
  case h_2=>simp at d
  rename_i fz g l;simp at d;obtain⟨rfl,rfl⟩:=d;have f:H[b]?=some (.map fz g):=by rw[aq b (by simp)];exact l
  have j:=r b (by simp);simp only[aD,bO,bU]at e;have e:=e.2.1 ⟨fz,g,f⟩;obtain⟨C,clock,i,h,q⟩:=n.cO b _ f;simp only[aF];exact⟨β.au b,C,clock,j,i,cL.mono hi (fun _ _=>rfl) _ _ h,e⟩
 |b8=>simp[mN]at d
 |func=>simp[mN]at d
 |st=>simp[mN]at d
 |aE=>simp[mN]at d
theorem Lc{w:ch}{ad aH ai:Nat->Prop}{β:Bd}{H0 H:an}:∀{l:List AV}{vs:List PV}{bs:List Nat}{d:List ce},oK H0 l=some (vs,bs)->(∀b∈bs,H[b]?=H0[b]?)->bX P w ad β H ai->bJ P w ad β H l d->
 (∀k,ad k->aH k)->(∀b∈bs,aH (β.au b))->bL P w aH vs d
 |[],vs,bs,d,h,_,_,c,_,_=>by
  simp[oK]at h;obtain⟨rfl,rfl⟩:=h;simp only[bJ]at c;simpa[bL]using c
 |a::l,vs,bs,d,h,aq,f,c,hi,e=>by
  simp only[oK]at h
  split at h
  case h_2=>simp at h
  rename_i v m o n g i;simp at h;obtain⟨rfl,rfl⟩:=h;simp only[bJ]at c;obtain⟨y,j,rfl,k1,k2⟩:=c;simp only[bL];exact⟨y,j,rfl,Zd g (fun b hx=>aq b (by simp[hx])) f k1 hi (fun b hx=>e b (by simp[hx])),Lc i (fun b hx=>aq b (by simp[hx])) f k2 hi (fun b hx=>e b (by simp[hx]))⟩
def Act(P:b2)(n:Nat)(o:Oper)(s:St)(e:aZ):Prop:=
 ∀(fr:cv)(k:List Item)(cs:List cv)(a:Array Oper)(i:Nat)(r:List Nat)(b:List cy)(ai ad:Nat->Prop)(β:Bd)(s':St)(t:Array ce)(w:ch),
  a[i]?=some o->gc o (yielded a t)=true->jk n o=true->cQ P n ai ad β s' t w->(∀x∈o.op.operands,ev s'.env x=ev s.env x)->
  (∀p∈e.aq,s'.heap[p.1]?=some p.2)->(∀j,j<e.aX.length->s'.heap[s.heap.length+j]?=some .hole)->
  ∃aH aK c w',dq P (lone (bC fr t b (.inRegion a (i::r)::k)) cs w) (lone (bC fr c b (.inRegion a r::k)) cs w')/\
   cQ P n ai aH aK ⟨put o.dst e.v s'.env,bf s'.heap (e.aM++newAt s.heap.length e.aX)⟩ c w'/\∀N,dN N ai ad w β s'.heap ai aH w' aK (bf s'.heap (e.aM++newAt s.heap.length e.aX))
theorem VF{o:Oper}{K:aZ->Prop}{s:St}(h:jB P ag o s K)(c:Call):o.op≠.defer c:=by
 intro hc;unfold jB at h;rw[hc]at h;simp[fH,hc]at h
theorem PF{e e':Env}{l:List b5}(h:∀x∈l,ev e' x=ev e x):l.map (ev e')=l.map (ev e):=hC h
theorem MB{o:Oper}{f:b5}{H:Array b5}{aj:Array b3}{g:cb}{fi ca:List AV}{K:aZ->Prop}{s:St}
 (W:o.op=.call {callee:=.value f,args:=H,argTypes:=aj})
 (hf:(ev s.env f=.func g fi ca)\/(∃a b,ev s.env f=.p (.func g a b)/\fi=a.map .p/\ca=b.map .p))
 (h:im P g (fi++H.toList.map (ev s.env)++ca) s.heap K):
 ∃e,K e/\(∀p∈e.aq,s.heap[p.1]?=some p.2)/\(∀p∈e.aM,p.1<s.heap.length/\p.2≠.hole)/\Act P n o s e:=by
 have Q:∀c,o.op≠.defer c:=fun c hc=>by rw[W]at hc;cases hc
 have ab:f∈o.op.operands/\∀x∈H.toList,x∈o.op.operands:=by
  rw[W];simp[fw,eq];exact fun x hx=>.inr hx
 have M:∀{ai ad:Nat->Prop}{β:Bd}{s':St}{t:Array ce}{w:ch},cQ P n ai ad β s' t w->(∀x∈o.op.operands,ev s'.env x=ev s.env x)->
  ∃m:List ce,bJ P w ad β s'.heap (fi++H.toList.map (ev s.env)++ca) m/\ba (aJ s'.heap) (fi++H.toList.map (ev s.env)++ca)/\(cc (fI t) o).run P w=(callFunc g m.toArray).run P w:=by
  intro ai ad β s' t w d A;have I:=oB d f;rw[A f ab.1]at I;obtain⟨G,F,aw,av,ap,aA,az⟩:∃G F:List ce,fI t f=.func (.func g) G.toArray F.toArray/\bJ P w ad β s'.heap fi G/\bJ P w ad β s'.heap ca F/\ba (aJ s'.heap) fi/\ba (aJ s'.heap) ca:=by
   rcases hf with hf|⟨a,b,hf,rfl,rfl⟩
   ·rw[hf]at I;simp only[aD,aG]at I;obtain⟨⟨G,F,y,z,D⟩,S,am⟩:=I;exact⟨G,F,D,y,z,S,am⟩
   ·rw[hf]at I;simp only[aD,aF]at I;obtain⟨⟨G,F,y,z,D⟩,_⟩:=I;exact⟨G,F,D,jI.2 y,jI.2 z,jg _ _,jg _ _⟩
  obtain⟨Y,Z⟩:=vG d H.toList;rw[PF (fun x hx=>A x (ab.2 x hx))]at Y Z;refine⟨G++H.toList.map (fI t)++F,qQ (qQ av Y) ap,jU (jU aA Z) az,?_⟩;simp only[cc,W,resolve,aw,Deferred.ofValue,gt,gw,gj,invoke];congr 2;simp
 have pure:∀(fr:cv)(k:List Item)(cs:List cv)(l:Array Oper)(i:Nat)(r:List Nat)(u:List cy)(ai ad E:Nat->Prop)(β:Bd)(s':St)(t:Array ce)(w:ch)(H1:an)(m:List ce)(vs:List PV)(v:PV),
  l[i]?=some o->gc o (yielded l t)=true->jk n o=true->cQ P n ai ad β s' t w->(cc (fI t) o).run P w=(callFunc g m.toArray).run P w->
  b6 P ai ad w β s'.heap E w β H1->bL P w E vs m->ar P g vs v->
  ∃aH aK ah w',dq P (lone (bC fr t u (.inRegion l (i::r)::k)) cs w) (lone (bC fr ah u (.inRegion l r::k)) cs w')/\
   cQ P n ai aH aK ⟨put o.dst (.p v) s'.env,H1⟩ ah w'/\∀N,dN N ai ad w β s'.heap ai aH w' aK H1:=by
  intro fr k cs l i r u ai ad E β s' t w H1 m vs v q C B d O j af L;rcases L with⟨au,L⟩|L
  ·rw[au]at O;obtain⟨e,w',ak,⟨R,aH,U,g1,g2,g3,g4,g5,al,g6⟩,aO,ax,V⟩:=L w E _ j.rel.bS j.rel.iJ af (bC fr t u (.inRegion l (i::r)::k)::cs);subst U;have ae:=j.trans (j.rel.later g1 g2 g3 g4 g5 al);refine⟨aH,β,_,w',?_,d.put B ae (by simpa[aD]using g6) (by simp[aG]),fun _=>ae.fj⟩;rw[<-nP q];exact(gy (vu q C Q O)).trans (gE aO (.one (c9 V)))
  ·obtain⟨R,y,z⟩:=L w E _ af;rw[y]at O;exact⟨E,β,_,w,.one (th q C Q O (.inl rfl)),d.put B j (by simpa[aD]using z) (by simp[aG]),fun _=>j.fj⟩
 rcases h with⟨vs,v,y,z,D⟩|⟨vs,bs,aq,aM,v,y,z,D,S⟩|⟨e,X,ac,T⟩|⟨aq,v,ao,ay,T⟩
 ·refine⟨_,D,by simp,by simp,?_⟩;intro fr k cs l i r u ai ad β s' t w q C B d A _ _;obtain⟨m,c1,c2,c3⟩:=M d A;rw[y]at c1;simp only[newAt,hj,bf];exact pure fr k cs l i r u ai ad ad β s' t w s'.heap m vs v q C B d c3 (b6.refl d.heap) (jI.1 c1) z
 ·obtain⟨i1,i2,i3⟩:=Lw bs z;refine⟨_,S,i1,i2,?_⟩;intro fr k cs l i r u ai ad β s' t w q C B d A J _;obtain⟨m,c1,c2,c3⟩:=M d A;obtain⟨E,ag,aB⟩:=JU bs z d.heap (fun p j=>⟨p.2,J p j,rfl⟩);simp only[newAt,hj];refine pure fr k cs l i r u ai ad E β s' t w _ m vs v q C B d c3 ag (Lc y ?_ d.heap c1 ag.bS aB) D;intro b aa;rw[<-i3]at aa;obtain⟨p,j,rfl⟩:=List.mem_map.1 aa;rw[J p j,i1 p j]
 ·refine⟨_,T,ac.1,ac.2,?_⟩;intro fr k cs l i r u ai ad β s' t w q C B d A J aX;obtain⟨m,c1,c2,c3⟩:=M d A;rw[X.1]at c3;obtain⟨x,w',ak,⟨R,aK,aH,U,g1,g2,g3⟩,aO,ax,V⟩:=X.2 s'.heap w ad ai β _ d.heap c1 c2 J aX (bC fr t u (.inRegion l (i::r)::k)::cs);subst U;refine⟨aH,aK,_,w',?_,d.put B g1 g2 g3,fun _=>g1.fj⟩;rw[<-nP q];exact(gy (vu q C Q c3)).trans (gE aO (.one (c9 V)))
 ·refine⟨_,T,ay,by simp,?_⟩;intro fr k cs l i r u ai ad β s' t w q C B d A J aX;obtain⟨m,c1,c2,c3⟩:=M d A;obtain⟨R,y,D⟩:=ao s'.heap w ad ai β _ d.heap c1 c2 J;rw[y]at c3;have j:=b6.refl d.heap;simp only[newAt,hj,bf];exact⟨ad,β,_,w,.one (th q C Q c3 (.inl rfl)),d.put B j (by simpa[aD]using D) (by simp[aG]),fun _=>j.fj⟩
theorem Xj{o:Oper}{f:b5}{a:Array b5}{y:Array b3}{b:Nat}{e:aZ}{s:St}
 (j:o.op=.call {callee:=.value f,args:=a,argTypes:=y})(hf:ev s.env f=.map b)(hY:oL P b (a.toList.map (ev s.env)) s.heap.length e):Act P n o s e:=by
 have G:∀c,o.op≠.defer c:=fun c hc=>by rw[j]at hc;cases hc
 have u:f∈o.op.operands/\∀x∈a.toList,x∈o.op.operands:=by
  rw[j];simp[fw,eq];exact fun x hx=>.inr hx
 intro fr k cs I i r z ai ad β s' t w v H C d m E aX;have h:=(oB d f).1;rw[m f u.1,hf]at h;simp only[aD,bO,bU]at h;obtain⟨l,p⟩:=vG d a.toList;rw[PF (fun x hx=>m x (u.2 x hx))]at l p;obtain⟨F,g,tmps,assign,body,A,B⟩:=hY s'.heap w ad ai β _ d.heap l p E aX;have D:=h.2.2 F;have q:(cc (fI t) o).run P w=(Instr.yield (β.au b) (a.toList.map (fI t)).toArray).run P w:=by
  simp only[cc,j,resolve,D,Deferred.ofValue,gt,gw,gj,invoke];congr 2;exact a7 (by simp)
 rw[A]at q;obtain⟨J,w',aK,aH,g1,g2,g3,g4⟩:=B (bC fr t z (.inRegion I (i::r)::k)) cs;refine⟨aH,aK,_,w',?_,d.put C g2 g3 g4,fun _=>g2.fj⟩;rw[<-nP v];exact(gy (Kk v H G q)).trans g1
theorem Ye(m:mc P ag){o:Oper}{K:aZ->Prop}{s:St}(h:jB P ag o s K):
 ∃e,K e/\(∀p∈e.aq,s.heap[p.1]?=some p.2)/\(∀p∈e.aM,p.1<s.heap.length/\p.2≠.hole)/\Act P n o s e:=by
 have E:=VF h;have q:fH P ag o (ev s.env) s.heap K->∃e,K e/\(∀p∈e.aq,s.heap[p.1]?=some p.2)/\(∀p∈e.aM,p.1<s.heap.length/\p.2≠.hole)/\Act P n o s e:=by
  intro h;obtain⟨e,a,hs,aq,aM⟩:=m o _ _ _ (fun v=>rfl) h;refine⟨e,a,aq,aM,?_⟩;intro fr k cs L i r J ai ad β s' t w F G C d B D aX;obtain⟨nx,I,w',aK,aH,u,y,j,z,A⟩:=hs s'.heap w ad ai β (fI t) d.heap (fun x hx=>by rw[<-B x hx];exact oB d x) D aX;exact⟨aH,aK,_,w',.one (th F G E u y),d.put C j z A,fun _=>j.fj⟩
 unfold jB at h
 split at h
 ·rename_i f args H c
  split at h
  ·rename_i g fi ca hf;exact MB c (.inr ⟨fi,ca,hf,rfl,rfl⟩) h
  ·rename_i g fi ca hf;exact MB c (.inl hf) h
  ·rename_i b hf;obtain⟨e,hY,l,a⟩:=h;exact⟨e,a,l.1,l.2,Xj c hf hY⟩
  ·exact h.elim
 ·exact q h
end
section
variable{P:b2}{ag:cb->Bool}{n:Nat}
def looks(a:Array Oper)(o:Oper):List Tmp:=
 (o.op.operands.toList.filterMap fun x=>match x with
  | .tmp t=>some t
  |_=>none)++(match o.guard with
  |some (j,_)=>(match(a[j]?).bind (·.dst)with
   |some d=>[d]
   |none=>[])
  |none=>[])
def q8(c:Array Oper)(a b:Oper):Bool:=
 (match a.dst with
  |some d=>(looks c b).contains d||b.dst==some d
  |none=>false)||
 (match b.dst with
  |some d=>(looks c a).contains d
  |none=>false)
def fit(_:Nat)(a:Array Oper):Bool:=
 (hw a.size).all fun j=>match a[j]? with
  |some o=>o.after.toList.all (fun e=>!ge .any e||decide (e.on<j))&&
   (hw j).all (fun i=>match a[i]? with
    |some u=>!q8 a u o||reach a a.size i j
    |none=>true)
  |none=>true
structure Ed(P:b2)(n:Nat)(ops:Array Oper)(o:Oper)(s:St)(e:aZ):Prop where
 aq:∀p∈e.aq,s.heap[p.1]?=some p.2
 aM:∀p∈e.aM,p.1<s.heap.length
 act:(∀(t:Array ce)(s':St)(ai ad:Nat->Prop)(β:Bd)(w:ch),cQ P n ai ad β s' t w->(∀x∈looks ops o,aS s'.env x=aS s.env x)->gc o (yielded ops t)=true)/\Act P n o s e\/
  (∀(t:Array ce)(s':St)(ai ad:Nat->Prop)(β:Bd)(w:ch),cQ P n ai ad β s' t w->(∀x∈looks ops o,aS s'.env x=aS s.env x)->gc o (yielded ops t)=false)/\e={v:=.p (.aE [])}
inductive Tr(P:b2)(n:Nat)(ops:Array Oper):List Oper->Nat->St->List (St×aZ)->St->Prop
 |nil (i:Nat) (s:St):Tr P n ops [] i s [] s
 |cons {o:Oper} {r:List Oper} {i:Nat} {s s':St} {e:aZ} {es:List (St×aZ)}:Ed P n ops o s e->Tr P n ops r (i+1) (e.app o.dst s) es s'->Tr P n ops (o::r) i s ((s,e)::es) s'
def pL(i:Nat):List (St×aZ)->List Touch->List Touch
 |[],acc=>acc
 |(s,e)::r,acc=>pL (i+1) r (gd i s.heap.length e acc)
theorem BU{a:Array Oper}{o:Oper}{j:Nat}{f:Bool}(c:o.guard=some (j,f)){e e':Env}(h:∀x∈looks a o,aS e' x=aS e x):guardOf a j e'=guardOf a j e:=by
 unfold guardOf;cases b:(a[j]?).bind (·.dst)with
 |none=>rfl
 |some d=>
  simp only;exact h d (by simp[looks,c,b])
theorem LW(B:mc P ag){a:Array Oper}(q:∀o∈a.toList,jk n o=true):∀(l:List Oper)(i:Nat)(d:List Touch)(s:St){K:St->Prop},(∀o∈l,o∈a.toList)->gv P ag a l i d K s->
 ∃c s',Tr P n a l i s c s'/\K s'/\iM a (pL i c d)=true
 |[],i,d,s,K,_,h=>⟨[],s,.nil i s,h.2,h.1⟩
 |o::l,i,d,s,K,F,h=>by
  have C:=fun d s(h:gv P ag a l (i+1) d K s)=>LW B q l (i+1) d s (fun o G=>F o (by simp[G])) h
  have skip:gv P ag a l (i+1) d K ⟨put o.dst (.p (.aE [])) s.env,s.heap⟩->(∀(t:Array ce)(s':St)(ai ad:Nat->Prop)(β:Bd)(w:ch),cQ P n ai ad β s' t w->(∀x∈looks a o,aS s'.env x=aS s.env x)->gc o (yielded a t)=false)->
   ∃c s',Tr P n a (o::l) i s c s'/\K s'/\iM a (pL i c d)=true:=by
   intro hk A;obtain⟨c,s',r,u,y⟩:=C _ _ hk;refine⟨(s,{v:=.p (.aE [])})::c,s',.cons ⟨by simp,by simp,.inr ⟨A,rfl⟩⟩ ?_,u,by simpa[pL,gd]using y⟩;simpa[aZ.app,bf]using r
  have go:jB P ag o s (fun e=>gv P ag a l (i+1) (gd i s.heap.length e d) K (e.app o.dst s))->(∀(t:Array ce)(s':St)(ai ad:Nat->Prop)(β:Bd)(w:ch),cQ P n ai ad β s' t w->(∀x∈looks a o,aS s'.env x=aS s.env x)->gc o (yielded a t)=true)->
   ∃c s',Tr P n a (o::l) i s c s'/\K s'/\iM a (pL i c d)=true:=by
   intro hk A;obtain⟨e,D,aq,aM,E⟩:=Ye (n:=n) B hk;obtain⟨c,s',r,u,y⟩:=C _ _ D;exact⟨(s,e)::c,s',.cons ⟨aq,fun p H=>(aM p H).1,.inl ⟨A,E⟩⟩ r,u,by simpa[pL]using y⟩
  simp only[gv]at h
  split at h
  ·rename_i f;exact go h (fun _ _ _ _ _ _ _ _=>by simp[gc,f])
  ·rename_i j I f
   split at h
   ·rename_i b m
    split at h
    ·rename_i z;refine go h (fun t s' ai ad β w k g=>?_);obtain⟨g1,g2⟩:=yD k q j;rw[BU f g]at g1;simp[gc,f,g1 _ m,z]
    ·rename_i z;refine skip h (fun t s' ai ad β w k g=>?_);obtain⟨g1,g2⟩:=yD k q j;rw[BU f g]at g1;simp[gc,f,g1 _ m,z]
   ·rename_i m;refine skip h (fun t s' ai ad β w k g=>?_);obtain⟨g1,g2⟩:=yD k q j;rw[BU f g]at g2;simp[gc,f,g2 m]
   ·exact h.elim
def wS(a:Array Oper)(D:Nat->Prop):Prop:=∀j o,a[j]?=some o->D j->∀e∈o.after,ge .any e=true->D e.on
theorem Ca{c:Array Oper}{D:Nat->Prop}(hc:wS c D):∀(f i j:Nat),reach c f i j=true->(∀o,c[j]?=some o->∀e∈o.after,ge .any e=true->D e.on)->D i
 |0,_,_,h,_=>by simp[reach]at h
 |f+1,i,j,h,d=>by
  simp only[reach]at h
  split at h
  case h_2=>simp at h
  rename_i o g;simp only[bI,hp,bv,beq_iff_eq,decide_eq_true_eq]at h;rcases h with⟨e,b,a,rfl⟩|⟨e,b,⟨a,_⟩,k⟩
  ·exact d o g e (by simpa using b) a
  ·have m:=d o g e (by simpa using b) a;exact Ca hc f i e.on k (fun o' p e' n l=>hc _ o' p m e' n l)
end
section
variable{P:b2}{ag:cb->Bool}{n:Nat}
theorem tA(a:Nat)(l:List Obj):(newAt a l).map (·.1)=oy a l:=by
 induction l generalizing a with
 |nil=>rfl
 |cons o l b=>simp[newAt,oy,b]
theorem Jt{a b:Nat}{l:List Obj}:b∈oy a l↔a<=b/\b<a+l.length:=by
 induction l generalizing a with
 |nil=>simp[oy]
 |cons o l c=>simp only[oy,hl,c,List.length_cons];omega
theorem yM{l:List (Nat×Obj)}{b:Nat}(h:b∉l.map (·.1)):∀H:an,(bf H l)[b]?=H[b]?:=by
 induction l with
 |nil=>intro H;rfl
 |cons p l a=>
  obtain⟨c,o⟩:=p;intro H;simp only[hh,hl,not_or]at h;simp only[bf];rw[a h.2,hB (Ne.symm h.1)]
theorem WS{l:List (Nat×Obj)}{b:Nat}(h:b∈l.map (·.1)):∀H H':an,H.length=H'.length->(bf H l)[b]?=(bf H' l)[b]?:=by
 induction l with
 |nil=>simp at h
 |cons p l f=>
  obtain⟨c,o⟩:=p;intro H H' d;simp only[bf]
  by_cases a:b∈l.map (·.1)
  ·exact f a _ _ (by simp[d])
  ·rw[yM a,yM a];simp only[hh,hl]at h;have:b=c:=h.resolve_right a;subst this
   by_cases e:b<H.length
   ·rw[he e,he (by omega)]
   ·rw[hz (by simp;omega),hz (by simp;omega)]
def dh(es:List (St×aZ))(s':St)(k:Nat):St:=match es[k]? with
 |some (s,_)=>s
 |none=>s'
def fJ(es:List (St×aZ))(k:Nat):aZ:=match es[k]? with
 |some (_,e)=>e
 |none=>{v:=.p .undef}
theorem Tr.at{a:Array Oper}:∀{l:List Oper}{i:Nat}{s s':St}{es:List (St×aZ)},Tr P n a l i s es s'->es.length=l.length/\dh es s' 0=s/\
 ∀k o,l[k]?=some o->Ed P n a o (dh es s' k) (fJ es k)/\dh es s' (k+1)=(fJ es k).app o.dst (dh es s' k)
 |_,_,_,_,_,.nil i s=>⟨rfl,rfl,fun k o h=>by simp at h⟩
 |_,_,_,_,_,.cons (o:=o) (r:=r) (i:=i) (s:=s) (s':=s') (e:=e) (es:=es) hi d=>by
  obtain⟨h1,b,c⟩:=d.at;refine⟨by simp[h1],rfl,fun k o' hk=>?_⟩;cases k with
  |zero=>
   simp at hk;subst hk;refine⟨by simpa[dh,fJ]using hi,?_⟩;have:dh ((s,e)::es) s' (0+1)=dh es s' 0:=by simp[dh]
   rw[this,b];simp[dh,fJ]
  |succ k=>
   have e1:∀m,dh ((s,e)::es) s' (m+1)=dh es s' m:=fun m=>by simp[dh]
   have e2:fJ ((s,e)::es) (k+1)=fJ es k:=by simp[fJ]
   rw[e1,e1,e2];exact c k o' (by simpa using hk)
theorem VP(u:Touch)(i:Nat):jx u ⟨i,[],[]⟩=false:=by
 simp[jx]
theorem Vv(i b:Nat)(e:aZ)(a:List Touch):(gd i b e a=a/\gY i b e=⟨i,[],[]⟩)\/gd i b e a=gY i b e::a:=by
 unfold gd
 split
 ·rename_i c d f;exact .inl ⟨rfl,by simp[gY,c,d,f,oy]⟩
 ·exact .inr rfl
theorem Kj{c:Array Oper}:∀(g:List (St×aZ))(i:Nat)(d:List Touch),iM c (pL i g d)=true->iM c d=true/\
 (∀u∈d,∀b s e,g[b]?=some (s,e)->jx u (gY (i+b) s.heap.length e)=true->reach c c.size u.i (i+b)=true)/\
 (∀a b s e f e2,a<b->g[a]?=some (s,e)->g[b]?=some (f,e2)->jx (gY (i+a) s.heap.length e) (gY (i+b) f.heap.length e2)=true->reach c c.size (i+a) (i+b)=true)
 |[],i,d,h=>⟨h,by simp,by simp⟩
 |(s,e)::g,i,d,h=>by
  simp only[pL]at h;obtain⟨j,m,r⟩:=Kj g (i+1) _ h
  have key:iM c d=true/\(∀u∈d,jx u (gY i s.heap.length e)=true->reach c c.size u.i i=true)/\(∀u∈d,∀b s e,g[b]?=some (s,e)->jx u (gY (i+1+b) s.heap.length e)=true->reach c c.size u.i (i+1+b)=true)/\
   (∀b f e2,g[b]?=some (f,e2)->jx (gY i s.heap.length e) (gY (i+1+b) f.heap.length e2)=true->reach c c.size i (i+1+b)=true):=by
   rcases Vv i s.heap.length e d with⟨o,q⟩|o
   ·rw[o]at j m;refine⟨j,fun u _ hc=>?_,m,fun b f e2 _ hc=>?_⟩
    ·rw[q,VP]at hc;cases hc
    ·rw[q]at hc;simp[jx]at hc
   ·rw[o]at j m;simp only[iM,bv,hm]at j;refine⟨j.2,fun u l hc=>?_,fun u l=>m u (by simp[l]),m _ (by simp)⟩;have:=j.1 u l;rw[hc]at this;exact(by simpa using this:reach c c.size u.i (gY i s.heap.length e).i=true)
  obtain⟨k1,k2,k3,k4⟩:=key;refine⟨k1,?_,?_⟩
  ·intro u l b p e1 k hc;cases b with
   |zero=>simp at k;obtain⟨rfl,rfl⟩:=k;exact k2 u l hc
   |succ b=>
    have:=k3 u l b p e1 (by simpa using k);rw[show i+(b+1)=i+1+b by omega]at hc⊢;exact this hc
  ·intro a b p e1 f e2 t n k hc;cases b with
   |zero=>omega
   |succ b=>
    rw[show i+(b+1)=i+1+b by omega]at hc⊢;cases a with
    |zero=>
     simp at n;obtain⟨rfl,rfl⟩:=n;exact k4 b f e2 (by simpa using k) hc
    |succ a=>
     rw[show i+(a+1)=i+1+a by omega]at hc⊢;exact r a b p e1 f e2 (by omega) (by simpa using n) (by simpa using k) hc
end
section
variable{P:b2}{ag:cb->Bool}{n:Nat}
def hx(N:Nat)(s:St):an:=s.heap++hb (N-s.heap.length) .hole
def uX(a:Nat)(e:aZ):List Nat:=(e.aM++newAt a e.aX).map (·.1)
theorem aAg{N:Nat}{s:St}{e:aZ}{o:Oper}(aM:∀p∈e.aM,p.1<s.heap.length)(d:(e.app o.dst s).heap.length<=N):hx N (e.app o.dst s)=bf (hx N s) (e.aM++newAt s.heap.length e.aX):=by
 have b:(e.app o.dst s).heap=bf s.heap e.aM++e.aX:=rfl;have f:(e.app o.dst s).heap.length=s.heap.length+e.aX.length:=by rw[b];simp[pq]
 unfold hx;rw[b];have c:N-s.heap.length=e.aX.length+(N-(s.heap.length+e.aX.length)):=by omega
 rw[c,<-List.replicate_append_replicate,<-hE,yp _ _ _ (by
  intro p a;rcases hP.1 a with a|a
  ·have:=aM p a;simp;omega
  ·have:p.1∈(newAt s.heap.length e.aX).map (·.1):=hK a
   rw[tA,Jt]at this;simp;omega)]
 rw[vp,yp _ _ _ aM];have:=B9 (bf s.heap e.aM) e.aX;rw[pq]at this;rw[this];congr 2;simp[pq]
section sched
variable{ops:Array Oper}{es:List (St×aZ)}{s0 s':St}
structure jl(P:b2)(n:Nat)(ops:Array Oper)(es:List (St×aZ))(s':St):Prop where
 len:es.length=ops.size
 at_:∀k o,ops[k]?=some o->Ed P n ops o (dh es s' k) (fJ es k)/\dh es s' (k+1)=(fJ es k).app o.dst (dh es s' k)
 dst:∀o∈ops.toList,jk n o=true
 lower:∀j o,ops[j]?=some o->∀e∈o.after,ge .any e=true->e.on<j
 tmps:∀i j u o,i<j->ops[i]?=some u->ops[j]?=some o->q8 ops u o=true->reach ops ops.size i j=true
 heap:∀i j,i<j->j<ops.size->jx (gY i (dh es s' i).heap.length (fJ es i)) (gY j (dh es s' j).heap.length (fJ es j))=true->reach ops ops.size i j=true
def wr(a:List (St×aZ))(s':St)(i:Nat):List Nat:=uX (dh a s' i).heap.length (fJ a i)
structure At(ops:Array Oper)(es:List (St×aZ))(s':St)(D:Nat->Prop)(s:St):Prop where
 tmp:∀x,∃k,k<=ops.size/\aS s.env x=aS (dh es s' k).env x/\∀i o,ops[i]?=some o->o.dst=some x->(D i↔i<k)
 len:s.heap.length=s'.heap.length
 heap:∀b,∃k,k<=ops.size/\s.heap[b]?=(hx s'.heap.length (dh es s' k))[b]?/\∀i,i<ops.size->b∈wr es s' i->(D i↔i<k)
variable(h:jl P n ops es s')
include h
theorem jl.mono:∀{k m:Nat},k<=m->m<=ops.size->(dh es s' k).heap.length<=(dh es s' m).heap.length:=by
 intro k m e f
 induction m with
 |zero=>
  obtain rfl:k=0:=by omega
  exact hS _
 |succ m c=>
  by_cases hk:k=m+1
  ·subst hk;exact hS _
  ·have d:=c (by omega) (by omega);have b:ops[m]?=some ops[m]:=a6 (by omega);obtain⟨_,a⟩:=h.at_ m _ b;rw[a];simp only[aZ.app,hd,pq];omega
theorem jl.last:dh es s' ops.size=s':=by
 have:es[ops.size]?=none:=hz (by rw[h.len];exact hS _);simp[dh,this]
theorem jl.xw{k:Nat}(hk:k<=ops.size):(dh es s' k).heap.length<=s'.heap.length:=by
 have:=h.mono hk (hS _)
 rwa [h.last]at this
theorem jl.ij{k:Nat}(hk:k<ops.size):hx s'.heap.length (dh es s' (k+1))=bf (hx s'.heap.length (dh es s' k)) ((fJ es k).aM++newAt (dh es s' k).heap.length (fJ es k).aX):=by
 have c:ops[k]?=some ops[k]:=a6 hk;obtain⟨h1,b⟩:=h.at_ k _ c;have a:=h.xw (k:=k+1) hk;rw[b]at a⊢;exact aAg h1.aM a
theorem aAf{k:Nat}(hk:k<=ops.size):(hx s'.heap.length (dh es s' k)).length=s'.heap.length:=by
 have:=h.xw hk;simp[hx];omega
theorem jl.LX{x:Nat}:∀{k m:Nat},k<=m->m<=ops.size->(∀i o,k<=i->i<m->ops[i]?=some o->o.dst≠some x)->aS (dh es s' m).env x=aS (dh es s' k).env x:=by
 intro k m j
 induction m with
 |zero=>
  intro _ _;obtain rfl:k=0:=by omega
  rfl
 |succ m g=>
  intro l d
  by_cases hk:k=m+1
  ·subst hk;rfl
  ·have e:=g (by omega) (by omega) (fun i o a b=>d i o a (by omega));have c:ops[m]?=some ops[m]:=a6 (by omega);obtain⟨_,f⟩:=h.at_ m _ c;rw[f];simp only[aZ.app,vD];rw[if_neg (d m _ (by omega) (by omega) c)];exact e
theorem jl.Lr{b:Nat}:∀{k m:Nat},k<=m->m<=ops.size->(∀i,k<=i->i<m->b∉wr es s' i)->(hx s'.heap.length (dh es s' m))[b]?=(hx s'.heap.length (dh es s' k))[b]?:=by
 intro k m f
 induction m with
 |zero=>
  intro _ _;obtain rfl:k=0:=by omega
  rfl
 |succ m e=>
  intro g c
  by_cases hk:k=m+1
  ·subst hk;rfl
  ·have d:=e (by omega) (by omega) (fun i a b=>c i a (by omega));rw[h.ij (by omega),yM (c m (by omega) (by omega))];exact d
theorem jl.Nl{x:Nat}{k m:Nat}(hk:k<=ops.size)(g:m<=ops.size)(f:∀i o,ops[i]?=some o->o.dst=some x->(i<k↔i<m)):aS (dh es s' m).env x=aS (dh es s' k).env x:=by
 rcases h2 k m with d|d
 ·exact h.LX d g fun i o a b e c=>by have:=f i o e c;omega
 ·exact(h.LX d hk fun i o a b e c=>by have:=f i o e c;omega).symm
theorem jl.M0{b:Nat}{k m:Nat}(hk:k<=ops.size)(g:m<=ops.size)(f:∀i,i<ops.size->b∈wr es s' i->(i<k↔i<m)):(hx s'.heap.length (dh es s' m))[b]?=(hx s'.heap.length (dh es s' k))[b]?:=by
 rcases h2 k m with e|e
 ·exact h.Lr e g fun i a c d=>by have:=f i (by omega) d;omega
 ·exact(h.Lr e hk fun i a c d=>by have:=f i (by omega) d;omega).symm
variable{D:Nat->Prop}(hc:wS ops D)
include hc
theorem jl.order{i:Nat}{o:Oper}(k:ops[i]?=some o)(h:¬D i)(l:∀e∈o.after,ge .any e=true->D e.on):
 (∀j,j<i->reach ops ops.size j i=true->D j)/\(∀j,j<ops.size->i<j->reach ops ops.size i j=true->¬D j):=by
 constructor
 ·intro j g b;exact Ca hc _ _ _ b (fun o' a=>by rw[k]at a;cases a;exact l)
 ·intro j m g b d;exact h (Ca hc _ _ _ b (fun o' a e f c=>hc j o' a d e f c))
theorem jl.reads{i:Nat}{o:Oper}(l:ops[i]?=some o)(q:¬D i)(y:∀e∈o.after,ge .any e=true->D e.on){s:St}(t:At ops es s' D s):
 (∀x∈looks ops o,aS s.env x=aS (dh es s' i).env x)/\(∀b,b∈(fJ es i).aq.map (·.1)\/b∈wr es s' i->s.heap[b]?=(hx s'.heap.length (dh es s' i))[b]?):=by
 obtain⟨v,w⟩:=h.order hc l q y;have hi:i<ops.size:=(aT.1 l).1;constructor
 ·intro x hx;obtain⟨k,k1,k2,k3⟩:=t.tmp x;rw[k2];refine h.Nl (by omega) k1 fun j u m p=>?_;have g:j<ops.size:=(aT.1 m).1;rw[<-k3 j u m p];constructor
  ·intro a;refine v j a (h.tmps j i u o a m l ?_);simp[q8,p,hx]
  ·intro f;rcases hT j i with a|rfl|a
   ·exact a
   ·exact(q f).elim
   ·exact(w j g a (h.tmps i j o u a l m (by simp[q8,p,hx])) f).elim
 ·intro b c;obtain⟨k,k1,k2,k3⟩:=t.heap b;rw[k2];refine h.M0 (by omega) k1 fun j g n=>?_;rw[<-k3 j g n];have r:b∈(gY j (dh es s' j).heap.length (fJ es j)).wr:=by
   unfold wr uX at n;rw[ht,tA]at n;exact n
  have d:b∈(gY i (dh es s' i).heap.length (fJ es i)).rd\/b∈(gY i (dh es s' i).heap.length (fJ es i)).wr:=by
   rcases c with c|c
   ·exact .inl c
   ·unfold wr uX at c;rw[ht,tA]at c;exact .inr c
  constructor
  ·intro a;refine v j a (h.heap j i a hi ?_);simp only[jx,bI,hp,ho];exact .inl ⟨b,r,d⟩
  ·intro f;rcases hT j i with a|rfl|a
   ·exact a
   ·exact(q f).elim
   ·refine(w j g a (h.heap i j a g ?_) f).elim;simp only[jx,bI,hp,ho];rcases d with d|d
    ·exact .inr ⟨b,d,r⟩
    ·exact .inl ⟨b,d,.inr r⟩
theorem jl.next{i:Nat}{o:Oper}(l:ops[i]?=some o)(z:¬D i)(A:∀e∈o.after,ge .any e=true->D e.on){s:St}(p:At ops es s' D s):
 At ops es s' (fun j=>D j\/j=i) ⟨put o.dst (fJ es i).v s.env,bf s.heap ((fJ es i).aM++newAt (dh es s' i).heap.length (fJ es i).aX)⟩:=by
 obtain⟨w,y⟩:=h.order hc l z A;have hi:i<ops.size:=(aT.1 l).1;obtain⟨B,ij⟩:=h.at_ i o l;refine⟨fun x=>?_,by simp only[pq];exact p.len,fun b=>?_⟩
 ·by_cases hx:o.dst=some x
  ·refine⟨i+1,hi,?_,fun j u d n=>?_⟩
   ·rw[ij];simp[aZ.app,vD,hx]
   ·have g:j<ops.size:=(aT.1 d).1;constructor
    ·rintro(c|rfl)
     ·rcases hT j i with a|rfl|a
      ·omega
      ·omega
      ·exact(y j g a (h.tmps i j o u a l d (by simp[q8,n,hx])) c).elim
     ·omega
    ·intro a
     by_cases q:j=i
     ·exact .inr q
     ·exact .inl (w j (by omega) (h.tmps j i u o (by omega) d l (by simp[q8,n,hx])))
  ·obtain⟨k,k1,k2,k3⟩:=p.tmp x;refine⟨k,k1,?_,fun j u d n=>?_⟩
   ·simp only[vD];rw[if_neg hx];exact k2
   ·rw[<-k3 j u d n];constructor
    ·rintro(c|rfl)
     ·exact c
     ·rw[l]at d;cases d;exact(hx n).elim
    ·exact .inl
 ·by_cases f:b∈wr es s' i
  ·refine⟨i+1,hi,?_,fun j g m=>?_⟩
   ·rw[h.ij hi];exact WS f _ _ (by rw[aAf h (by omega)];exact p.len)
   ·have t:b∈(gY j (dh es s' j).heap.length (fJ es j)).wr:=by
     unfold wr uX at m;rw[ht,tA]at m;exact m
    have r:b∈(gY i (dh es s' i).heap.length (fJ es i)).wr:=by
     unfold wr uX at f;rw[ht,tA]at f;exact f
    constructor
    ·rintro(c|rfl)
     ·rcases hT j i with a|rfl|a
      ·omega
      ·omega
      ·refine(y j g a (h.heap i j a g ?_) c).elim;simp only[jx,bI,hp,ho];exact .inl ⟨b,r,.inr t⟩
     ·omega
    ·intro a
     by_cases q:j=i
     ·exact .inr q
     ·refine .inl (w j (by omega) (h.heap j i (by omega) hi ?_));simp only[jx,bI,hp,ho];exact .inl ⟨b,t,.inr r⟩
  ·obtain⟨k,k1,k2,k3⟩:=p.heap b;refine⟨k,k1,?_,fun j g m=>?_⟩
   ·simp only;rw[yM f];exact k2
   ·rw[<-k3 j g m];constructor
    ·rintro(c|rfl)
     ·exact c
     ·exact(f m).elim
    ·exact .inl
end sched
end
section
variable{P:b2}{ag:cb->Bool}{n:Nat}
variable{ops:Array Oper}{es:List (St×aZ)}{s':St}
theorem cQ.congr{ai ad:Nat->Prop}{β:Bd}{s u:St}{t:Array ce}{w:ch}(h:cQ P n ai ad β s t w)(b:∀x,aS u.env x=aS s.env x)(a:u.heap=s.heap):cQ P n ai ad β u t w:=by
 refine⟨by rw[a];exact h.heap,fun x=>?_,fun x=>?_,h.size⟩
 ·rw[b,a];exact h.env x
 ·rw[b,a];exact h.gN x
theorem cQ.qh{ai ad:Nat->Prop}{β:Bd}{s:St}{t:Array ce}{w:ch}(m:Nat)(h:cQ P n ai ad β s t w):cQ P n ai ad β ⟨s.env,s.heap++hb m .hole⟩ t w:=
 ⟨h.heap.qh m,fun x=>aD.mono (fun _ x=>x) (fun _ _=>rfl) (qN β s.heap m) _ _ (h.gN x) (h.env x),fun x=>aG.mono (oh _ _) _ (h.gN x),h.size⟩
theorem YG{o:Oper}{e e':Env}(h:∀x∈looks ops o,aS e' x=aS e x):∀x∈o.op.operands,ev e' x=ev e x:=by
 intro x hx;cases x with
 |tmp t=>
  simp only[ev];refine h t ?_;simp only[looks,hP,List.mem_filterMap];exact .inl ⟨.tmp t,by simpa using hx,rfl⟩
 |_=>rfl
theorem jl.run(h:jl P n ops es s'){D:Nat->Prop}(hc:wS ops D){i:Nat}{o:Oper}(a:ops[i]?=some o)(x:¬D i)(z:∀e∈o.after,ge .any e=true->D e.on){s:St}(m:At ops es s' D s)
 {fr:cv}{k:List Item}{cs:List cv}{r:List Nat}{ds:List cy}{ai ad:Nat->Prop}{β:Bd}{t:Array ce}{w:ch}(b:cQ P n ai ad β s t w):
 ∃u aH aK d w',dq P (lone (bC fr t ds (.inRegion ops (i::r)::k)) cs w) (lone (bC fr d ds (.inRegion ops r::k)) cs w')/\cQ P n ai aH aK u d w'/\(∀N,dN N ai ad w β s.heap ai aH w' aK u.heap)/\At ops es s' (fun j=>D j\/j=i) u:=by
 obtain⟨g,A⟩:=h.reads hc a x z m;have hi:i<ops.size:=(aT.1 a).1;obtain⟨v,_⟩:=h.at_ i o a;have c:=h.next hc a x z m;have q:jk n o=true:=h.dst o (by rw[Array.mem_toList_iff];exact Array.mem_of_getElem? a);have G:=h.xw (k:=i) (by omega);rcases v.act with⟨f,B⟩|⟨f,C⟩
 ·obtain⟨aH,aK,d,w',a1,a2,a3⟩:=B fr k cs ops i r ds ai ad β s t w a (f t s ai ad β w b g) q b (YG g) (by
   intro p y;rw[A p.1 (.inl (hK y))];have:=v.aq p y;unfold hx;rw[hu (ha.1 this).1];exact this) (by
   intro j F;have E:(dh es s' i).heap.length+j∈wr es s' i:=by
    unfold wr uX;rw[ht,tA];exact List.mem_append_right _ (Jt.2 ⟨by omega,by omega⟩)
   rw[A _ (.inr E)];have l:=h.xw (k:=i+1) (by omega);rw[(h.at_ i o a).2]at l;simp only[aZ.app,hd,pq]at l;unfold hx;rw[lJ,if_neg (by omega),if_pos (by omega)])
  exact⟨_,aH,aK,d,w',a1,a2,a3,c⟩
 ·rw[C]at c;simp only[newAt,hj,bf]at c;exact⟨_,ad,β,_,w,.one (KZ a (f t s ai ad β w b g)),b.put q (b6.refl b.heap) (by simp[aD,aF,bL,undef]) (by simp[aG]),fun _=>dN.refl _ _ _ _ _ _,c⟩
def isDone(a:Array Bool)(i:Nat):Prop:=a.getD i false=true
theorem J5{p:Nat->Bool}{i:Nat}:∀{l:List Nat},l.Nodup->i∈l->p i=true->l.countP p=l.countP (fun x=>p x&&x !=i)+1
 |[],_,h,_=>by simp at h
 |a::l,c,h,d=>by
  rw[List.nodup_cons]at c
  by_cases b:a=i
  ·subst b;have e:l.countP (fun x=>p x&&x !=a)=l.countP p:=by
    refine hN fun x hx=>?_;have:x≠a:=fun e=>c.1 (e▸hx);simp[this]
   simp[d,e]
  ·have f:i∈l:=by
    rcases hl.1 h with h|h
    ·exact(b h.symm).elim
    ·exact h
   have g:=J5 c.2 f d;rw[hO,hO,g];have:(a !=i)=true:=by simpa using b
   simp only[this,Bool.and_true];omega
def left(b:Array Oper)(a:Array Bool):Nat:=(hw b.size).countP fun i=>!a.getD i true
theorem jl.goes(h:jl P n ops es s'){fr:cv}{k:List Item}{cs:List cv}{ds:List cy}{ai:Nat->Prop}:∀(c b:Nat)(a:Array Bool)(s:St)(ad:Nat->Prop)(β:Bd)(t:Array ce)(w:ch),a.size=ops.size->left ops a<=c->wS ops (isDone a)->
 At ops es s' (isDone a) s->cQ P n ai ad β s t w->
 ∃u D aH aK R w',dq P (lone (bC fr t ds (.inRegion ops (gi .any ops c b a [])::k)) cs w) (lone (bC fr R ds (.inRegion ops []::k)) cs w')/\cQ P n ai aH aK u R w'/\(∀N,dN N ai ad w β s.heap ai aH w' aK u.heap)/\At ops es s' D u/\∀j,j<ops.size->D j:=by
 have L:∀(a:Array Bool),a.size=ops.size->gb .any ops a=[]->∀j,j<ops.size->isDone a j:=by
  intro a q f j
  induction j using hZ with
  |_ j K=>
   intro d
   by_cases A:isDone a j
   ·exact A
   ·exfalso;have G:j<a.size:=by omega
    have:j∈gb .any ops a:=by
     rw[dg];refine⟨?_,ops[j],a6 d,fun e B z=>?_⟩
     ·unfold isDone at A;simp only[bi,a6 G,h3]at A⊢;simpa using A
     ·have H:=h.lower j _ (a6 d) e B z;exact K e.on H (by omega)
    rw[f]at this;simp at this
 intro c
 induction c with
 |zero=>
  intro b a s ad β t w q O hc y C;have f:gb .any ops a=[]:=by
   rw[List.eq_nil_iff_forall_not_mem];intro j d;rw[dg]at d;obtain⟨g,o,m,_⟩:=d;have G:j<ops.size:=(aT.1 m).1;have:0<left ops a:=by
    unfold left;rw[List.countP_pos_iff];exact⟨j,by simpa using G,by rw[g];rfl⟩
   omega
  exact⟨s,isDone a,ad,β,t,w,by simp only[gi,List.reverse_nil];exact g0 _ _,C,fun _=>dN.refl _ _ _ _ _ _,y,L a q f⟩
 |succ c K=>
  intro b a s ad β t w q O hc y C;have Z:gi .any ops (c+1) b a []=(match(gb .any ops a)[b% (gb .any ops a).length]? with
   |some i=>gi .any ops c (b/(gb .any ops a).length) (a.setIfInBounds i true) [i]
   |none=>[].reverse):=rfl
  rw[Z];cases hi:(gb .any ops a)[b% (gb .any ops a).length]? with
  |none=>
   have f:gb .any ops a=[]:=by
    cases f:gb .any ops a with
    |nil=>rfl
    |cons x xs=>
     rw[f]at hi;have H:b% (x::xs).length<(x::xs).length:=Nat.mod_lt _ (by simp);rw[hg H]at hi;cases hi
   exact⟨s,isDone a,ad,β,t,w,g0 _ _,C,fun _=>dN.refl _ _ _ _ _ _,y,L a q f⟩
  |some i=>
   simp only;rw[linearise_go_acc,List.reverse_singleton,List.singleton_append];have ac:=List.mem_of_getElem? hi;obtain⟨g,o,m,Q⟩:=dg.1 ac;have aa:i<ops.size:=(aT.1 m).1;have E:i<a.size:=by omega
   have ae:¬isDone a i:=by
    unfold isDone;simp only[bi,a6 E,h3]at g⊢;simp[g]
   obtain⟨u,S,ag,t1,w1,a1,a2,a3,a4⟩:=h.run (fr:=fr) (k:=k) (cs:=cs) (ds:=ds) (r:=gi .any ops c (b/(gb .any ops a).length) (a.setIfInBounds i true) []) hc m ae Q y C;have M:(fun j=>isDone a j\/j=i)=isDone (a.setIfInBounds i true):=by
    funext j
    unfold isDone
    by_cases F:j=i
    ·subst F;simp[E]
    ·have:(a.setIfInBounds i true).getD j false=a.getD j false:=dp false (Ne.symm F);rw[this];simp[F]
   rw[M]at a4;have Y:wS ops (isDone (a.setIfInBounds i true)):=by
    rw[<-M];intro j o' I d e B z;rcases d with d|rfl
    ·exact .inl (hc j o' I d e B z)
    ·rw[m]at I;cases I;exact .inl (Q e B z)
   have ab:left ops (a.setIfInBounds i true)<=c:=by
    have aj:=J5 (p:=fun j=>!a.getD j true) (i:=i) (l:=hw ops.size) List.nodup_range (by simpa using aa) (by show(!a.getD i true)=true;rw[g];rfl);have:left ops (a.setIfInBounds i true)=(hw ops.size).countP (fun x=>!a.getD x true&&x !=i):=by
     unfold left;refine hN fun x hx=>?_
     by_cases J:x=i
     ·subst J;simp[E]
     ·have:(a.setIfInBounds i true).getD x true=a.getD x true:=dp true (Ne.symm J);rw[this];simp[J]
    unfold left at O;omega
   obtain⟨v,D,T,ah,t2,af,b1,U,V,W,X⟩:=K (b/(gb .any ops a).length) (a.setIfInBounds i true) u S ag t1 w1 (by simpa using q) ab Y a4 a2;exact⟨v,D,T,ah,t2,af,a1.trans b1,U,fun N=>(a3 N).trans (V N),W,X⟩
theorem YE(h:fit n ops=true):(∀j o,ops[j]?=some o->∀e∈o.after,ge .any e=true->e.on<j)/\
 (∀i j u o,i<j->ops[i]?=some u->ops[j]?=some o->q8 ops u o=true->reach ops ops.size i j=true):=by
 unfold fit at h;rw[hm]at h;constructor
 ·intro j o a e f c;have b:j<ops.size:=(aT.1 a).1;have:=h j (by simpa using b);rw[a]at this;simp only[bv,hm]at this;have:=this.1 e (by simpa using f);simpa[c]using this
 ·intro i j u o g k a d;have b:j<ops.size:=(aT.1 a).1;have:=h j (by simpa using b);rw[a]at this;simp only[bv,hm]at this;have:=this.2 i (by simpa using g);rw[k]at this;simpa[d]using this
theorem yC(C:mc P ag)(Y:P.follows .mixedOrders=true):tE P ag fit:=by
 intro n N a fr k cs E f K s ai ad β t w S B h Z;obtain⟨es,s',H,I,J⟩:=LW C B a.toList 0 [] s (fun _ h=>h) h;obtain⟨t1,t2,t3⟩:=H.at;obtain⟨_,_,M⟩:=Kj es 0 [] J;obtain⟨f1,f2⟩:=YE (n:=n) S;have W:es.length=a.size:=by simpa using t1
 have hs:jl P n a es s':=by
  refine⟨W,fun k o c=>t3 k o (by simpa using c),B,f1,f2,fun i j T af v=>?_⟩;have hi:i<es.length:=by omega
  have A:j<es.length:=by omega
  have F:es[i]?=some (es[i].1,es[i].2):=by simp[hg hi]
  have G:es[j]?=some (es[j].1,es[j].2):=by simp[hg A]
  have:=M i j es[i].1 es[i].2 es[j].1 es[j].2 T F G;simp only[h0]at this;refine this ?_;have g:dh es s' i=es[i].1/\fJ es i=es[i].2:=by simp[dh,fJ,hg hi]
  have q:dh es s' j=es[j].1/\fJ es j=es[j].2:=by simp[dh,fJ,hg A]
  rw[g.1,g.2,q.1,q.2]at v;exact v
 have U:=hs.xw (k:=0) (hW _);rw[t2]at U;obtain⟨m,X⟩:∃m,m=s'.heap.length-s.heap.length:=⟨_,rfl⟩
 have aa:=Z.qh m;have O:∀N,dN N ai ad w β s.heap ai ad w β (s.heap++hb m .hole):=fun N=>⟨fun _ x=>x,fun _ x=>x,fun _ x=>.inl x,Ext.refl _ _ _,(qN _ _ _).n,fun x _=>oh _ _ x,fun b _⟨L,r⟩=>⟨L,by rw[lJ,if_pos (ha.1 r).1];exact r⟩⟩
 have ab:gg (P.follows .mixedOrders) a f=gi .any a a.size f (a8 a.size false) []:=by
  simp[gg,Y,Region.linearise]
 have e:∀i,¬isDone (a8 a.size false) i:=by
  intro i hi;unfold isDone at hi
  by_cases z:i<a.size
  ·simp[z]at hi
  ·simp[z]at hi
 have Q:At a es s' (isDone (a8 a.size false)) ⟨s.env,s.heap++hb m .hole⟩:=by
  refine⟨fun x=>⟨0,hW _,by rw[t2],fun i o _ _=>⟨fun h=>(e i h).elim,fun h=>by omega⟩⟩,by simp;omega,fun b=>⟨0,hW _,by rw[t2];unfold hx;rw[<-X],fun i _ _=>⟨fun h=>(e i h).elim,fun h=>by omega⟩⟩⟩
 have V:left a (a8 a.size false)<=a.size:=by
  unfold left;have:=List.countP_le_length (p:=fun i=>!(a8 a.size false).getD i true) (l:=hw a.size);simpa using this
 obtain⟨u,D,aH,aK,ae,w',a1,a2,a3,a4,a5⟩:=hs.goes (fr:=fr) (k:=k) (cs:=cs) (ds:=E) a.size f (a8 a.size false) _ ad β t w (by simp) V (fun j o c d=>(e j d).elim) Q aa;rw[ab];have R:∀x,aS s'.env x=aS u.env x:=by
  intro x;obtain⟨k,k1,k2,k3⟩:=a4.tmp x;rw[k2];have:=hs.Nl (x:=x) k1 (hS a.size) (fun i o c d=>by
   have hi:i<a.size:=(aT.1 c).1;have:=(k3 i o c d).1 (a5 i hi);exact⟨fun _=>hi,fun _=>this⟩)
  rw[hs.last]at this;exact this
 have y:s'.heap=u.heap:=by
  apply List.ext_getElem?;intro b;obtain⟨k,k1,k2,k3⟩:=a4.heap b;rw[k2];have:=hs.M0 (b:=b) k1 (hS a.size) (fun i hi ac=>by
   have:=(k3 i hi ac).1 (a5 i hi);exact⟨fun _=>hi,fun _=>this⟩)
  rw[hs.last]at this;rw[<-this];simp[hx]
 exact⟨s',aH,aK,ae,w',I,a1,a2.congr R y,(O N).trans (y▸a3 N)⟩
end
section
variable{P:b2}
structure az(P:b2)(f:cb)(fn:Func):Prop where
 func:P.funcs[f]?=some fn
 stat:(fn.body.isSome&&(fn.name != "runtime.NumGoroutine")&&codeOk fit fn.ntmps (fn.body.getD .skip))=true
theorem az.enters{f:cb}{fn:Func}(h:az P f fn):Enters P f:=by
 intro args w;have hs:=h.stat;simp only[bv,bne_iff_ne]at hs;cases a:fn.body with
 |none=>rw[a]at hs;simp at hs
 |some c=>simp[callFunc,h.func,hs.1.2,a]
def Ends(P:b2)(a:List ResultVar)(v:PV)(e:bw)(s:St):Prop:=
 (match e with
  | .exit _=>False
  |_=>True)/\∃vs,fN P s a=some vs/\eC s.heap 9 (oneOf vs)=some v
theorem uH{f:cb}{fn:Func}(ag:cb->Bool)(h:az P f fn)(b:P.follows .mixedOrders=true){args:List PV}{v:PV}(c:args.length<=fn.ntmps)
 (d:cd P ag (fn.ntmps,0) (fn.body.getD .skip) (Ends P fn.results.toList v) ⟨iV 0 (args.map .p),[]⟩):ar P f args v:=by
 have hs:=h.stat;simp only[bv,bne_iff_ne]at hs;have a:fn.body=some (fn.body.getD .skip):=by
  have:=hs.1.1;cases e:fn.body<;>simp_all
 exact .inl (Mo (px ag) (yC (px ag) b) h.enters h.func a hs.2 c d)
class aL9(P:b2)(f:cb)(args:List PV)(pre:outParam Prop)(v:outParam PV):Prop where
 uH:pre->ar P f args v
section calls
variable{f:cb}{H:an}{pre:Prop}{v:PV}
end calls
def sn(e:Env):Env->Prop
 |[]=>True
 |(x,v)::r=>aS e x=v/\sn e r
def kX:an->an->Prop
 |_,[]=>True
 |[],.hole::t=>kX [] t
 |_::h,.hole::t=>kX h t
 |o::h,o'::t=>o=o'/\kX h t
 |[],_::_=>False
theorem sn.get{e:Env}:∀{t:Env},sn e t->∀x,aS t x=aS e x\/aS t x=.p .undef
 |[],_,x=>.inr rfl
 |(y,v)::t,h,x=>by
  simp only[sn]at h;simp only[aS]
  split
  ·rename_i hx;subst hx;exact .inl h.1.symm
  ·exact sn.get h.2 x
theorem kX.get:∀{h t:an},kX h t->∀(b:Nat)(o:Obj),t[b]?=some o->o=.hole\/h[b]?=some o
 |_,[],_,b,o,a=>by simp at a
 |[],o'::t,hk,b,o,a=>by
  cases o'<;>simp only[kX]at hk;cases b with
  |zero=>simp at a;exact .inl a.symm
  |succ b=>exact(kX.get hk b o (by simpa using a)).imp id (fun h=>by simp at h)
 |c::h,o'::t,hk,b,o,a=>by
  cases b with
  |zero=>
   simp at a;cases o'<;>simp only[kX]at hk
   case hole=>exact .inl a.symm
   all_goals exact .inr (by rw[<-a,<-hk.1];simp)
  |succ b=>
   have:kX h t:=by cases o'<;>simp only[kX]at hk<;>first|exact hk|exact hk.2
   exact(kX.get this b o (by simpa using a)).imp id (fun h=>by simpa using h)
def iq(H:an):Env->Prop
 |[]=>True
 |(_,v)::r=>aG (aJ H) v/\iq H r
def dG(H:an):an->Prop
 |[]=>True
 |o::r=>o.refs (aJ H)/\dG H r
theorem iq.get{H:an}:∀{e:Env},iq H e->∀x,aG (aJ H) (aS e x)
 |[],_,x=>by simp[aS,aG]
 |(y,v)::e,h,x=>by
  simp only[iq]at h;simp only[aS]
  split
  ·exact h.1
  ·exact iq.get h.2 x
theorem dG.get{H:an}:∀{h:an},dG H h->∀(b:Nat)(o:Obj),h[b]?=some o->o.refs (aJ H)
 |[],_,b,o,a=>by simp at a
 |c::h,hr,b,o,a=>by
  simp only[dG]at hr;cases b with
  |zero=>simp at a;subst a;exact hr.1
  |succ b=>exact dG.get hr.2 b o (by simpa using a)
theorem pZ.of{s t:St}(a:sn s.env t.env)(c:kX s.heap t.heap)(e:iq t.heap t.env)(f:dG t.heap t.heap):pZ s t:=
 ⟨fun x=>(a.get x).imp id .inl,fun b o d=>(c.get b o d).imp id .inl,e.get,f.get⟩
theorem cV.of{N:Nat}{s t:St}(e:t.heap.take N=s.heap.take N)(c:sn s.env t.env)(d:kX s.heap t.heap)(f:iq t.heap t.env)(g:dG t.heap t.heap):cV N s t:=by
 refine .inr ⟨pZ.of c d f g,fun b a=>?_⟩;have:=congrArg (fun l:an=>l[b]?) e;simpa[List.getElem?_take,a]using this
theorem Rd{f:cb}{fn:Func}(ag:cb->Bool)(h:az P f fn)(b:P.follows .mixedOrders=true){args:List AV}{H H':an}{v:AV}(c:args.length<=fn.ntmps)
 (d:cd P ag (fn.ntmps,H.length) (fn.body.getD .skip) (uu P fn.results.toList H.length H' v) ⟨iV 0 args,H⟩):cA P f H args H' v:=by
 have hs:=h.stat;simp only[bv,bne_iff_ne]at hs;have a:fn.body=some (fn.body.getD .skip):=by
  have:=hs.1.1;cases e:fn.body<;>simp_all
 exact YD (px ag) (yC (px ag) b) h.enters h.func a hs.2 c d
theorem Re(ag:cb->Bool)(f:P.follows .mixedOrders=true){b:Nat}{L:dW}{H H':an}{args:List AV}{v:AV}(d:H[b]?=some (.loop L))(e:args.length=L.params.length)
 (a:(L.params.all (fun x=>decide (x<L.n))&&codeOk fit L.n L.assign&&codeOk fit L.n L.body)=true)(g:zo P ag L b args H (fun c h=>h=v/\cV H.length ⟨[],c⟩ ⟨[],H'⟩)):ft P b H args H' v:=by
 simp only[bv,hm,decide_eq_true_eq]at a;exact YA (px ag) (yC (px ag) f) d e a.1.1 a.1.2 a.2 g
theorem again{N:Nat}{α:Type}{mk:α->St}{ok:α->Prop}{m:α->Nat}{n:Nat}{s':St}(a':α)(c:m a'<n)(d:ok a')(e:cV N s' (mk a')):∃a b,a<n/\cV N s' b/\∃a',ok a'/\b=mk a'/\a=m a':=
 ⟨m a',mk a',c,e,a',d,rfl,rfl⟩
end
section
variable{P:b2}{ag:cb->Bool}
def aY{α:Type}(F:(α->Prop)->Prop):Prop:=∀K,F K->∃a,K a/\∀b:α->Prop,b a->F b
theorem aY.one{α β:Type}(f:β->α)(b:β):aY (fun K:α->Prop=>K (f b)):=fun _ h=>⟨f b,h,fun _ h=>h⟩
theorem aY.false{α:Type}:aY (fun _:α->Prop=>False):=fun _ h=>h.elim
theorem aY.and{α:Type}{p:Prop}{F:(α->Prop)->Prop}(h:aY F):aY (fun K=>p/\F K):=fun K hk=>by
 obtain⟨a,c,d⟩:=h K hk.2;exact⟨a,c,fun b h=>⟨hk.1,d b h⟩⟩
theorem aY.ex{α:Type}{β:Sort _}{F:β->(α->Prop)->Prop}(h:∀b,aY (F b)):aY (fun K=>∃b,F b K):=fun K⟨b,f⟩=>by
 obtain⟨a,d,e⟩:=h b K f;exact⟨a,d,fun c h=>⟨b,e c h⟩⟩
theorem aY.or{α:Type}{F G:(α->Prop)->Prop}(h:aY F)(e:aY G):aY (fun K=>F K\/G K):=fun K hk=>by
 rcases hk with hk|hk
 ·obtain⟨a,c,d⟩:=h K hk;exact⟨a,c,fun b h=>.inl (d b h)⟩
 ·obtain⟨a,c,d⟩:=e K hk;exact⟨a,c,fun b h=>.inr (d b h)⟩
theorem aY.ite{α:Type}{p:Prop}[Decidable p]{F G:(α->Prop)->Prop}(h:aY F)(f:aY G):aY (fun K=>if p then F K else G K):=fun K hk=>by
 split at hk
 ·rename_i e;obtain⟨a,c,d⟩:=h K hk;exact⟨a,c,fun b h=>by simpa[e]using d b h⟩
 ·rename_i e;obtain⟨a,c,d⟩:=f K hk;exact⟨a,c,fun b h=>by simpa[e]using d b h⟩
theorem aY.bind{α β:Type}{F:(α->Prop)->Prop}{G:α->(β->Prop)->Prop}(h:aY F)(d:∀a,aY (G a)):aY (fun K=>F (fun a=>G a K)):=fun K hk=>by
 obtain⟨a,e,f⟩:=h _ hk;obtain⟨b,g,i⟩:=d a K e;exact⟨b,g,fun c h=>f _ (i c h)⟩
theorem aY.map{α β:Type}{F:(α->Prop)->Prop}(h:aY F)(f:α->β):aY (fun K=>F (fun a=>K (f a))):=h.bind fun a=>aY.one f a
theorem Xd(T:b3)(H:an)(a:AV):aY (oI P T H a):=by
 unfold oI
 repeat' first
  |exact aY.false
  |exact aY.one id _
  |refine aY.and ?_
  |refine aY.ex fun _=>?_
  |split
theorem WO(T:b3)(H:an)(a x:AV):aY (om P T H a x):=by
 unfold om
 repeat' first
  |exact aY.false
  |exact aY.one id _
  |refine aY.and ?_
  |refine aY.ex fun _=>?_
  |split
theorem UG(T:b3)(a:AV)(f:Nat):aY (nU P T a f):=by
 unfold nU
 repeat' first
  |exact aY.false
  |exact aY.one id _
  |refine aY.and ?_
  |refine aY.ex fun _=>?_
  |split
theorem UF(T:b3)(H:an)(a i:AV):aY (nT P T H a i):=by
 unfold nT
 repeat' first
  |exact aY.false
  |exact aY.one id _
  |refine aY.and ?_
  |refine aY.ex fun _=>?_
  |split
theorem Vp(T X:b3)(H:an)(s x:AV):aY (nW P T X H s x):=by
 unfold nW
 repeat' first
  |exact aY.false
  |exact aY.one id _
  |refine aY.and ?_
  |refine aY.ex fun _=>?_
  |refine aY.ite ?_ ?_
  |split
theorem L3{α:Type}{F:Nat->(α->Prop)->Prop}(x:Option AV)(d:Nat)(h:∀n,aY (F n)):aY (fun K=>gK x d (fun n=>F n K)):=by
 unfold gK
 split
 ·exact h _
 ·exact aY.and (h _)
 ·exact aY.false
theorem WQ(T:b3)(H:an)(x:AV)(lo hi a:Option AV):aY (ot P T H x lo hi a):=by
 unfold ot;refine aY.and ?_
 repeat' first
  |exact aY.false
  |exact aY.one id _
  |refine aY.and ?_
  |refine L3 _ _ fun _=>?_
  |refine aY.ite ?_ ?_
  |split
theorem Vo(T:b3)(H:an)(x:AV)(lo hi:Option AV)(m:AV):aY (q9 P T H x lo hi m):=by
 unfold q9
 repeat' first
  |exact aY.false
  |exact aY.one id _
  |refine aY.and ?_
  |refine L3 _ _ fun _=>?_
  |split
theorem X9(op:c6)(T:b3)(c:Bool)(H:an)(x y:AV)(f:PV->aZ):aY (fun K:aZ->Prop=>kV P op T c H x y (fun v=>K (f v))):=by
 unfold kV
 repeat' first
  |exact aY.false
  |exact aY.one f _
  |refine aY.and ?_
  |(unfold qd;split)
  |(unfold qc;split)
  |split
theorem Di(o:Oper)(ρ:b5->AV)(H:an):aY (fH P ag o ρ H):=by
 unfold fH
 repeat' first
  |exact aY.false
  |exact aY.one id _
  |exact Xd _ _ _
  |exact WO _ _ _ _
  |exact UG _ _ _
  |exact UF _ _ _ _
  |exact WQ _ _ _ _ _ _
  |exact Vo _ _ _ _ _ _
  |exact Vp _ _ _ _ _
  |exact X9 _ _ _ _ _ _ _
  |refine aY.and ?_
  |refine aY.ex fun _=>?_
  |refine aY.ite ?_ ?_
  |refine aY.or ?_ ?_
  |split
  |dsimp only
theorem K4(d:Bool)(f:cb)(args:List AV)(H:an){α:Type}(g:AV->an->α):aY (fun K:α->Prop=>ib P d f args H (fun v H'=>K (g v H'))):=by
 unfold ib;refine aY.or (aY.ex fun vs=>aY.ex fun v=>aY.and (aY.and ?_)) (aY.and (aY.or (aY.ex fun vs=>aY.ex fun H1=>aY.ex fun v=>aY.and (aY.and ?_)) (aY.or (aY.ex fun H'=>aY.ex fun v=>aY.and ?_) (aY.or (aY.ex fun e=>aY.and (aY.and ?_)) (aY.ex fun aq=>aY.ex fun v=>aY.and (aY.and ?_))))))
 ·exact aY.one (fun v=>g (.p v) H) v
 ·exact aY.one (fun v=>g (.p v) H1) v
 ·exact aY.one (fun v=>g v H') v
 ·exact aY.one (fun _:Unit=>g e.v (bf H e.aM++e.aX)) ()
 ·exact aY.one (fun v=>g (.p v) H) v
theorem Kl(f:cb)(args:List AV)(H:an):aY (im P f args H):=by
 unfold im;refine aY.or (aY.ex fun vs=>aY.ex fun v=>aY.and (aY.and (aY.one id _))) (aY.or (aY.ex fun vs=>aY.ex fun bs=>aY.ex fun aq=>aY.ex fun aM=>aY.ex fun v=>aY.and (aY.and (aY.and (aY.one id _)))) (aY.or (aY.ex fun e=>aY.and (aY.and (aY.one id _))) (aY.ex fun aq=>aY.ex fun v=>aY.and (aY.and (aY.one id _)))))
theorem K2(d:Bool)(o:Oper)(s:St):aY (fun K=>jO P ag d o K s):=by
 unfold jO
 split
 ·split
  ·exact K4 _ _ _ _ (fun v H'=>(⟨put o.dst v s.env,H'⟩:St))
  ·exact K4 _ _ _ _ (fun v H'=>(⟨put o.dst v s.env,H'⟩:St))
  ·exact aY.ex fun H'=>aY.ex fun v=>aY.and (aY.one (fun _:Unit=>(⟨put o.dst v s.env,H'⟩:St)) ())
  ·exact aY.false
 ·exact(Di o _ _).map (fun e=>e.app o.dst s)
theorem K3(o:Oper)(s:St):aY (jB P ag o s):=by
 unfold jB
 split
 ·split
  ·exact Kl _ _ _
  ·exact Kl _ _ _
  ·exact aY.ex fun e=>aY.and (aY.and (aY.one id _))
  ·exact aY.false
 ·exact Di o _ _
theorem zd(d:Bool)(a:Array Oper):∀(l:List Oper)(s:St),aY (fun K=>ic P ag d a l K s)
 |[],s=>by simp only[ic];exact aY.one id s
 |o::l,s=>by
  have go:aY (fun K=>jO P ag d o (ic P ag d a l K) s):=(K2 d o s).bind fun t=>zd d a l t;simp only[ic]
  split
  ·exact go
  ·split
   ·split
    ·exact go
    ·exact zd d a l _
   ·exact zd d a l _
   ·exact aY.false
theorem yL(b:Array Oper):∀(l:List Oper)(i:Nat)(a:List Touch)(s:St),aY (fun K=>gv P ag b l i a K s)
 |[],i,a,s=>by simp only[gv];exact aY.and (aY.one id s)
 |o::l,i,a,s=>by
  have go:aY (fun K=>jB P ag o s fun e=>gv P ag b l (i+1) (gd i s.heap.length e a) K (e.app o.dst s)):=(K3 o s).bind fun e=>yL b l (i+1) _ _;simp only[gv]
  split
  ·exact go
  ·split
   ·split
    ·exact go
    ·exact yL b l (i+1) a _
   ·exact yL b l (i+1) a _
   ·exact aY.false
def Aq(F:(bw->St->Prop)->Prop):Prop:=∀Q,F Q->∃e s,Q e s/\∀a:bw->St->Prop,a e s->F a
inductive wQ(P:b2)(ag:cb->Bool)(q:Cx)(b:Code)(e:bw)(s:St):Nat->St->Prop
 |stop {k:Nat} {u:St}:(∀Q:bw->St->Prop,Q e s->cd P ag q b Q u)->e≠.normal->wQ P ag q b e s k u
 |step {k m:Nat} {u s1 u':St}:(∀Q:bw->St->Prop,Q .normal s1->cd P ag q b Q u)->m<k->cV q.2 s1 u'->wQ P ag q b e s m u'->wQ P ag q b e s k u
theorem Xe(j:Option Code)(s:St):Aq (fun Q=>jy Q j s):=fun Q h=>by
 unfold jy at h
 split at h
 ·exact⟨.normal,s,h,fun _ h=>h⟩
 ·rename_i id;exact⟨.exit id,s,h,fun _ h=>h⟩
 ·exact⟨.ret,s,h,fun _ h=>h⟩
 ·exact h.elim
theorem K1(b:Nat)(env:Env)(H:an):Aq (fun Q=>iG b env Q H):=fun Q h=>by
 unfold iG at h
 split at h
 ·rename_i L f;obtain⟨e,s,c,d⟩:=Xe _ _ Q h.2;exact⟨e,s,c,fun a hq=>by unfold iG;simp only[f];exact⟨h.1,d a hq⟩⟩
 ·exact h.elim
theorem WY(it:AV)(b:Nat)(H:an)(env:Env):Aq (fun Q=>ju P it b H (iG b env Q)):=fun Q h=>by
 unfold ju at h
 split at h
 ·obtain⟨H',v,c,d⟩:=h;obtain⟨e,s,k1,k2⟩:=K1 b env H' Q d;exact⟨e,s,k1,fun a hq=>by simp only[ju];exact⟨H',v,c,k2 a hq⟩⟩
 ·obtain⟨H',v,c,d⟩:=h;obtain⟨e,s,k1,k2⟩:=K1 b env H' Q d;exact⟨e,s,k1,fun a hq=>by simp only[ju];exact⟨H',v,c,k2 a hq⟩⟩
 ·exact h.elim
theorem nR{q:Cx}:∀(c:Code)(s:St),Aq (fun Q=>cd P ag q c Q s)
 | .skip,s| .label _,s=>fun Q h=>⟨.normal,s,h,fun _ h=>h⟩
 | .exit id,s=>fun Q h=>⟨.exit id,s,h,fun _ h=>h⟩
 | .ret,s=>fun Q h=>⟨.ret,s,h,fun _ h=>h⟩
 | .region id ops draw,s=>fun Q h=>by
  simp only[cd]at h⊢
  split at h
  ·rename_i l;obtain⟨t,d,g⟩:=yL ops _ _ _ _ _ h;exact⟨.normal,t,d,fun Q' h=>by simp only[l,if_true];exact g _ h⟩
  ·rename_i l;obtain⟨t,d,g⟩:=zd _ ops _ _ _ h;exact⟨.normal,t,d,fun Q' h=>by rw[if_neg l];exact g _ h⟩
 | .seq a b,s=>fun Q h=>by
  simp only[cd]at h⊢;obtain⟨e,t,d,g⟩:=nR a s _ h;cases e with
  |normal=>
   obtain⟨e',r,k,y⟩:=nR b t _ d;exact⟨e',r,k,fun Q' h=>g _ (y Q' h)⟩
  |exit id=>exact⟨.exit id,t,d,fun Q' h=>g _ h⟩
  |ret=>exact⟨.ret,t,d,fun Q' h=>g _ h⟩
 | .cond c a b,s=>fun Q h=>by
  simp only[cd]at h⊢
  split at h
  ·split at h
   ·rename_i p;obtain⟨e,t,d,g⟩:=nR a s _ h;exact⟨e,t,d,fun Q' h=>by rw[if_pos p];exact g _ h⟩
   ·rename_i p;obtain⟨e,t,d,g⟩:=nR b s _ h;exact⟨e,t,d,fun Q' h=>by rw[if_neg p];exact g _ h⟩
  ·exact h.elim
 | .block id b,s=>fun Q h=>by
  simp only[cd]at h⊢;obtain⟨e,t,d,g⟩:=nR b s _ h;cases e with
  |normal=>exact⟨.normal,t,d,fun Q' h=>g _ h⟩
  |exit i=>
   by_cases hi:i=id
   ·simp only[hi,if_true]at d;exact⟨.normal,t,d,fun Q' h=>g _ (by simp only[hi,if_true];exact h)⟩
   ·simp only[hi,if_false]at d;exact⟨.exit i,t,d,fun Q' h=>g _ (by simp only[hi,if_false];exact h)⟩
  |ret=>exact⟨.ret,t,d,fun Q' h=>g _ h⟩
 | .scope b,s=>fun Q h=>by simp only[cd]at h⊢;exact nR b s Q h
 | .loop b,s=>fun Q h=>by
  simp only[cd]at h⊢;obtain⟨I,⟨w,t0,hf,hI⟩,F⟩:=h;have key:∀(n:Nat)(t:St),I n t->∃e u,Q e u/\e≠.normal/\wQ P ag q b e u n t:=by
   intro n
   induction n using hZ with
   |_ n G=>
    intro t hI;obtain⟨e,s1,d,g⟩:=nR b t _ (F n t hI);cases e with
    |normal=>
     obtain⟨m,r,j,o,z⟩:=d;obtain⟨e,u,k1,k2,k3⟩:=G m j r z;exact⟨e,u,k1,k2,.step g j o k3⟩
    |exit id=>exact⟨.exit id,s1,d,by simp,.stop g (by simp)⟩
    |ret=>exact⟨.ret,s1,d,by simp,.stop g (by simp)⟩
  obtain⟨e,u,d,g,k⟩:=key w t0 hI;refine⟨e,u,d,fun Q' v=>⟨wQ P ag q b e u,⟨w,t0,hf,k⟩,?_⟩⟩;intro n t C;cases C with
  |stop hs E=>
   refine hs _ ?_;cases e with
   |normal=>exact(E rfl).elim
   |exit id=>exact v
   |ret=>exact v
  |step hs j o D=>exact hs _ ⟨_,_,j,o,D⟩
 | .rangeFunc f H a b,s=>fun Q h=>by
  simp only[cd]at h;obtain⟨A,x,B,h⟩:=h;obtain⟨e,t,d,g⟩:=WY _ _ _ _ Q h;exact⟨e,t,d,fun Q' hq=>by simp only[cd];exact⟨A,x,B,g Q' hq⟩⟩
 | .goto _,_| .refuse _,_=>fun Q h=>by simp[cd]at h
def Spec(P:b2)(f:cb)(args:List PV)(Q:PV->Prop):Prop:=∃v,ar P f args v/\Q v
def Au(P:b2)(a:List ResultVar)(Q:PV->Prop)(e:bw)(s:St):Prop:=
 (match e with
  | .exit _=>False
  |_=>True)/\∃vs,fN P s a=some vs/\∃v,eC s.heap 9 (oneOf vs)=some v/\Q v
theorem Spec.mono{f:cb}{args:List PV}{Q a:PV->Prop}(h:Spec P f args Q)(hq:∀v,Q v->a v):Spec P f args a:=by
 obtain⟨v,b,c⟩:=h;exact⟨v,b,hq v c⟩
end
def oD(id:Nat)(Q:bw->St->Prop)(e:bw)(s:St):Prop:=
 match e with
 | .exit i=>if i=id then Q .normal s else Q (.exit i) s
 |e=>Q e s
theorem UX{id:Nat}{Q:bw->St->Prop}{s:St}:oD id Q .normal s=Q .normal s:=(rfl)
theorem Wc{id i:Nat}{Q:bw->St->Prop}{s:St}:oD id Q (.exit i) s=if i=id then Q .normal s else Q (.exit i) s:=(rfl)
theorem Xg{id:Nat}{Q:bw->St->Prop}{s:St}:oD id Q .ret s=Q .ret s:=(rfl)
def ue(N n:Nat)(I:Nat->St->Prop)(Q:bw->St->Prop)(e:bw)(s:St):Prop:=
 match e with
 | .normal=>∃a b,a<n/\cV N s b/\I a b
 |e=>Q e s
theorem UL{N n:Nat}{I:Nat->St->Prop}{Q:bw->St->Prop}{s:St}:ue N n I Q .normal s=∃a b,a<n/\cV N s b/\I a b:=(rfl)
theorem Vs{N n id:Nat}{I:Nat->St->Prop}{Q:bw->St->Prop}{s:St}:ue N n I Q (.exit id) s=Q (.exit id) s:=(rfl)
theorem WU{N n:Nat}{I:Nat->St->Prop}{Q:bw->St->Prop}{s:St}:ue N n I Q .ret s=Q .ret s:=(rfl)
section Ez
variable{P:b2}
@[congr] theorem aDt{b:Array Oper}{l a:List Touch}(h:l=a):iM b l=iM b a:=by rw[h]
end Ez
section
variable{P:b2}{ag:cb->Bool}
abbrev eL:=Option (Prop×aZ)
def bk(r:eL)(K:aZ->Prop):Prop:=
 match r with
 |some (p,e)=>p/\K e
 |none=>False
theorem W3{p:Prop}{e:aZ}{K:aZ->Prop}:bk (some (p,e)) K=(p/\K e):=(rfl)
theorem XC{K:aZ->Prop}:bk none K=False:=(rfl)
@[congr] theorem aOt{r a:eL}{K:aZ->Prop}(h:r=a):bk r K=bk a K:=by rw[h]
def Can(F:(aZ->Prop)->Prop)(r:eL):Prop:=∀K,bk r K->F K
theorem Can.none{F:(aZ->Prop)->Prop}:Can F none:=fun _ h=>h.elim
def qe(P:b2)(T:b3)(H:an)(a:AV):eL:=
 match a with
 | .ptr b path=>match H[b]? with
  |some (.box fz t)=>match eU t path with
   |some s=>some (kindOf P T=aa s,{v:=s,aq:=[(b,.box fz t)]})
   |none=>none
  |_=>none
 | .b8 b aC aj i path=>match H[b]? with
  |some (.arr k d c es)=>match es[i]? with
   |some x=>match eU x path with
    |some s=>some ((aC=d/\aj=c)/\kindOf P T=aa s,{v:=s,aq:=[(b,.arr k d c es)]})
    |none=>none
   |none=>none
  |_=>none
 | .p (.cq t)=>some (kindOf P T=aL t,{v:=.p t})
 |_=>none
theorem ZK{T:b3}{H:an}{a:AV}:Can (oI P T H a) (qe P T H a):=by
 intro K h;unfold qe at h;unfold oI
 split at h
 ·split at h
  ·rename_i b
   split at h
   ·rename_i hs;simp only[bk]at h;simp only[b,hs];exact h
   ·exact h.elim
  ·exact h.elim
 ·split at h
  ·rename_i b
   split at h
   ·rename_i x hx;obtain⟨hi,hx⟩:=ha.1 hx
    split at h
    ·rename_i hs;simp only[bk]at h;simp only[b];exact⟨h.1.1.1,h.1.1.2,hi,by rw[hx,hs];exact⟨h.1.2,h.2⟩⟩
    ·exact h.elim
   ·exact h.elim
  ·exact h.elim
 ·exact h
 ·exact h.elim
def pU(P:b2)(T:b3)(H:an)(a x:AV):eL:=
 match a with
 | .ptr b path=>match H[b]? with
  |some (.box false t)=>match eU t path,fX t path x with
   |some s,some d=>some ((kindOf P T=aa x/\aa x≠.bad)/\aa s=aa x,{v:=.p (.aE []),aq:=[(b,.box false t)],aM:=[(b,.box false d)]})
   |_,_=>none
  |_=>none
 | .b8 b aC aj i path=>match H[b]? with
  |some (.arr k e c es)=>match es[i]? with
   |some y=>match eU y path,fX y path x with
    |some s,some d=>some ((kindOf P T=aa x/\aa x≠.bad)/\(aC=e/\aj=c/\k≠.frozen)/\aa s=aa x,{v:=.p (.aE []),aq:=[(b,.arr k e c es)],aM:=[(b,.arr k e c (es.set i d))]})
    |_,_=>none
   |none=>none
  |_=>none
 |_=>none
theorem Yt{T:b3}{H:an}{a x:AV}:Can (om P T H a x) (pU P T H a x):=by
 intro K h;unfold pU at h;unfold om
 split at h
 ·split at h
  ·rename_i b
   split at h
   ·rename_i hs c;simp only[bk]at h;simp only[b,hs,c];exact⟨h.1.1.1,h.1.1.2,h.1.2,h.2⟩
   ·exact h.elim
  ·exact h.elim
 ·split at h
  ·rename_i b
   split at h
   ·rename_i y d;obtain⟨hi,d⟩:=ha.1 d
    split at h
    ·rename_i hs c;simp only[bk]at h;simp only[b];exact⟨h.1.1.1,h.1.1.2,h.1.2.1.1,h.1.2.1.2.1,h.1.2.1.2.2,hi,by rw[d,hs,c];exact⟨h.1.2.2,h.2⟩⟩
    ·exact h.elim
   ·exact h.elim
  ·exact h.elim
 ·exact h.elim
def pz(P:b2)(T:b3)(a:AV)(f:Nat):eL:=
 match fg P T with
 |some (u,n)=>match a with
  | .ptr b path=>some (f<n,{v:=.ptr b (path++[(u,f)])})
  | .b8 b aC aj i path=>some (f<n,{v:=.b8 b aC aj i (path++[(u,f)])})
  | .p (.cq t)=>match(bY t)[f]? with
   |some g=>some (f<n/\aL t=.agg u,{v:=.p (.cq g)})
   |none=>none
  |_=>none
 |_=>none
theorem UT{T:b3}{a:AV}{f:Nat}:Can (nU P T a f) (pz P T a f):=by
 intro K h;unfold pz at h;unfold nU
 split at h
 ·rename_i hs;simp only[hs]
  split at h
  ·exact h
  ·exact h
  ·split at h
   ·rename_i b;simp only[bk]at h;simp only[b];exact⟨h.1.1,h.1.2,h.2⟩
   ·exact h.elim
  ·exact h.elim
 ·exact h.elim
def py(P:b2)(T:b3)(H:an)(x i:AV):eL:=
 match i with
 | .p (.int _ i)=>match x with
  | .p (.cT _ es)=>match es[i.toNat]? with
   |some y=>some (0<=i/\cH P T=some (bF P (aL y)),{v:=.p (.cq y)})
   |none=>none
  | .p (.seq es)=>match es[i.toNat]? with
   |some y=>some (0<=i/\cH P T=some (bF P (aL y)),{v:=.p (.cq y)})
   |none=>none
  | .sl b aC aj off len=>match H[b]? with
   |some (.arr k c a es)=>some (0<=i/\cH P T=some aj/\i.toNat<len/\aC=c/\aj=a/\¬(k.gr=true/\es=[]),{v:=.b8 b aC aj (off+i.toNat) [],aq:=[(b,.arr k c a es)]})
   |_=>none
  | .ptr b path=>match ir P T with
   |some (u,n)=>some (0<=i/\i.toNat<n,{v:=.ptr b (path++[(u,i.toNat)])})
   |_=>none
  | .b8 b aC aj j path=>match ir P T with
   |some (u,n)=>some (0<=i/\i.toNat<n,{v:=.b8 b aC aj j (path++[(u,i.toNat)])})
   |_=>none
  | .p (.cq t)=>match ir P T with
   |some (u,n)=>match(bY t)[i.toNat]? with
    |some g=>some (0<=i/\aL t=.agg u/\i.toNat<n,{v:=.p (.cq g)})
    |none=>none
   |_=>none
  |_=>none
 |_=>none
theorem US{T:b3}{H:an}{x i:AV}:Can (nT P T H x i) (py P T H x i):=by
 intro K h;unfold py at h;unfold nT
 split at h
 case h_2=>exact h.elim
 split at h
 ·split at h
  ·rename_i y a;obtain⟨hi,a⟩:=ha.1 a;simp only[bk]at h;exact⟨h.1.1,hi,by rw[a];exact h.1.2,by rw[a];exact h.2⟩
  ·exact h.elim
 ·split at h
  ·rename_i y a;obtain⟨hi,a⟩:=ha.1 a;simp only[bk]at h;exact⟨h.1.1,hi,by rw[a];exact h.1.2,by rw[a];exact h.2⟩
  ·exact h.elim
 ·split at h
  ·rename_i l;simp only[bk]at h;obtain⟨⟨b,c,d,e,f,g⟩,j⟩:=h;refine⟨b,c,d,?_⟩;rw[l];exact⟨e,f,g,j⟩
  ·exact h.elim
 ·split at h
  ·rename_i hs;simp only[bk]at h;simp only[hs];exact⟨h.1.1,h.1.2,h.2⟩
  ·exact h.elim
 ·split at h
  ·rename_i hs;simp only[bk]at h;simp only[hs];exact⟨h.1.1,h.1.2,h.2⟩
  ·exact h.elim
 ·split at h
  ·rename_i hs
   split at h
   ·rename_i k;simp only[bk]at h;simp only[hs,k];exact⟨h.1.1,h.1.2.1,h.1.2.2,h.2⟩
   ·exact h.elim
  ·exact h.elim
 ·exact h.elim
end
section
variable{P:b2}{ag:cb->Bool}
def pT(P:b2)(T X:b3)(H:an)(s x:AV):eL:=
 match cH P T,gW H x with
 |some sz,some xs=>match s with
  | .p .aP=>some ((iX P X=true/\(cz P (er P T)).isSome=true/\eZ P sz xs)/\xs.length<=cN,
   if xs.isEmpty then{v:=s,aq:=dF H x}else{v:=.sl H.length 0 sz 0 xs.length,aq:=dF H x,aX:=[.arr (gk P T) 0 sz xs]})
  | .sl b aC aj off len=>match H[b]? with
   |some (.arr k c a es)=>some ((iX P X=true/\(cz P (er P T)).isSome=true/\eZ P sz xs)/\(aC=c/\aj=a/\aj=sz/\off+len<=es.length)/\es.length+xs.length<=cN/\k≠ .frozen/\(k≠ .exact->off=0)/\(k= .bytes->er P T=Gl.u8),
    if xs.isEmpty then{v:=s,aq:=(b,.arr k c a es)::dF H x}
    else match k with
     | .exact=>if off+len+xs.length<=es.length then
      {v:=.sl b aC aj off (len+xs.length),aq:=(b,.arr k c a es)::dF H x,aM:=[(b,.arr .exact aC aj (es.take (off+len)++xs++es.drop (off+len+xs.length)))]}
      else{v:=.sl H.length 0 sz 0 (len+xs.length),aq:=(b,.arr k c a es)::dF H x,aX:=[.arr (gk P T) 0 sz ((es.drop off).take len++xs)]}
     |_=>{v:=.sl b (aC+1) aj 0 (len+xs.length),aq:=(b,.arr k c a es)::dF H x,aM:=[(b,.arr k (aC+1) aj (es.take len++xs))]})
   |_=>none
  |_=>none
 |_,_=>none
theorem Wh{T X:b3}{H:an}{s x:AV}:Can (nW P T X H s x) (pT P T X H s x):=by
 intro K h;unfold pT at h;unfold nW
 split at h
 case h_2=>exact h.elim
 rename_i sz o g i;simp only[g,i]
 split at h
 ·simp only[bk]at h;obtain⟨⟨⟨a1,a2,a3⟩,a4⟩,hk⟩:=h;refine⟨a1,a2,a3,?_⟩;dsimp only
  split
  ·rename_i a;rw[if_pos a]at hk;exact hk
  ·rename_i a;rw[if_neg a]at hk;exact⟨a4,hk⟩
 ·split at h
  case h_2=>exact h.elim
  rename_i k n m l j;simp only[bk]at h;obtain⟨⟨⟨a1,a2,a3⟩,⟨rfl,rfl,d,e⟩,f,a9,b,c⟩,hk⟩:=h;refine⟨a1,a2,a3,?_⟩;simp only[j];refine⟨trivial,trivial,d,e,?_⟩
  split
  ·rename_i a;rw[if_pos a]at hk;exact hk
  ·rename_i a;rw[if_neg a]at hk;refine⟨f,?_⟩;cases k with
   |frozen=>exact a9 rfl
   |exact=>
    simp only at hk⊢
    split
    ·rename_i hc;rw[if_pos hc]at hk;exact hk
    ·rename_i hc;rw[if_neg hc]at hk;exact hk
   |grow=>exact⟨b (by simp),fun h=>(by cases h),hk⟩
   |bytes=>exact⟨b (by simp),c,hk⟩
 ·exact h.elim
def lh(x:Option AV)(d:Nat):Option (Prop×Nat):=
 match x with
 |none=>some (True,d)
 |some (.p (.int _ i))=>some (0<=i,i.toNat)
 |_=>none
theorem mZ{x:Option AV}{d n:Nat}{p:Prop}{K:Nat->Prop}(h:lh x d=some (p,n))(a:p)(hk:K n):gK x d K:=by
 unfold lh at h;unfold gK
 split at h
 ·simp only[h4,Prod.mk.injEq]at h;obtain⟨rfl,rfl⟩:=h;exact hk
 ·simp only[h4,Prod.mk.injEq]at h;obtain⟨rfl,rfl⟩:=h;exact⟨a,hk⟩
 ·cases h
def pW(P:b2)(T:b3)(H:an)(x:AV)(lo hi:Option AV):eL:=
 match x with
 | .p (.str s)=>match lh hi s.length,lh lo 0 with
  |some (p,h),some (q,l)=>some (iN P T=true/\p/\q/\h<=s.length/\l<=h,{v:=.p (.str ((s.take h).drop l))})
  |_,_=>none
 | .p .aP=>match lh hi 0,lh lo 0 with
  |some (p,h),some (q,l)=>some ((cH P T).isSome=true/\p/\q/\h<=0/\l<=h,{v:=.p .aP})
  |_,_=>none
 | .p (.cT full es)=>match lh hi es.length,lh lo 0,cH P T with
  |some (p,h),some (q,l),some sz=>some (p/\q/\h<=es.length/\l<=h/\eZ P sz (es.map .p),{v:=.p (.cT (full&&h==es.length) ((es.take h).drop l))})
  |_,_,_=>none
 | .p (.seq es)=>match lh hi es.length,lh lo 0,cH P T with
  |some (p,h),some (q,l),some sz=>some (p/\q/\h<=es.length/\l<=h/\eZ P sz (es.map .p),{v:=.p (.seq ((es.take h).drop l))})
  |_,_,_=>none
 | .sl b aC aj off len=>match H[b]? with
  |some (.arr k c a es)=>match lh hi len,lh lo 0 with
   |some (p,h),some (q,l)=>some ((aC=c/\aj=a/\cH P T=some aj/\¬(k.gr=true/\es=[])/\off+len<=es.length)/\p/\q/\off+h<=es.length/\l<=h,
    if l=0 then{v:=.sl b aC aj off h,aq:=[(b,.arr k c a es)]}
    else if l=h then{v:=.p (.cT false []),aq:=[(b,.arr k c a es)]}
    else{v:=.sl b aC aj (off+l) (h-l),aq:=[(b,.arr k c a es)]})
   |_,_=>none
  |_=>none
 |_=>none
theorem Yu{T:b3}{H:an}{x:AV}{lo hi:Option AV}:Can (ot P T H x lo hi none) (pW P T H x lo hi):=by
 intro K h;unfold pW at h;unfold ot;refine⟨rfl,?_⟩
 split at h
 ·split at h
  case h_2=>exact h.elim
  rename_i a b;simp only[bk]at h;obtain⟨⟨a1,a2,a3,a4,a5⟩,hk⟩:=h;exact⟨a1,mZ a a2 (mZ b a3 ⟨a4,a5,hk⟩)⟩
 ·split at h
  case h_2=>exact h.elim
  rename_i a b;simp only[bk]at h;obtain⟨⟨a1,a2,a3,a4,a5⟩,hk⟩:=h;exact⟨a1,mZ a a2 (mZ b a3 ⟨a4,a5,hk⟩)⟩
 ·split at h
  case h_2=>exact h.elim
  rename_i a b d;simp only[bk]at h;obtain⟨⟨a2,a3,a4,a5,c⟩,hk⟩:=h;refine mZ a a2 (mZ b a3 ⟨a4,a5,?_⟩);simp only[d];exact⟨c,hk⟩
 ·split at h
  case h_2=>exact h.elim
  rename_i a b d;simp only[bk]at h;obtain⟨⟨a2,a3,a4,a5,c⟩,hk⟩:=h;refine mZ a a2 (mZ b a3 ⟨a4,a5,?_⟩);simp only[d];exact⟨c,hk⟩
 ·split at h
  case h_2=>exact h.elim
  rename_i g
  split at h
  case h_2=>exact h.elim
  rename_i a b;simp only[bk]at h;obtain⟨⟨⟨a1,a2,a3,a4,a5⟩,c,e,f,a9⟩,hk⟩:=h;simp only[g];refine⟨a1,a2,a3,a4,a5,mZ a c (mZ b e ⟨f,a9,?_⟩)⟩
  split
  ·rename_i hc;rw[if_pos hc]at hk;exact hk
  ·rename_i hc;rw[if_neg hc]at hk
   split
   ·rename_i hc;rw[if_pos hc]at hk;exact hk
   ·rename_i hc;rw[if_neg hc]at hk;exact hk
 ·exact h.elim
def rV(P:b2)(T:b3)(H:an)(x key:AV)(ok:Bool):eL:=
 match lR P T,key with
 |some (a,E),.p key=>match cz P E with
  |some z=>match x with
   | .p .fk=>some (ga P a key=true,{v:=.p (if ok then .aE [z,.bool false]else z)})
   | .p (.eg es)=>match fP P a es key with
    |some r=>some (ga P a key=true,{v:= .p (match r with
      |some v=>if ok then .aE [v,.bool true]else v
      |none=>if ok then .aE [z,.bool false]else z)})
    |none=>none
   | .map b=>match H[b]? with
    |some (.map fz es)=>match fP P a es key with
     |some r=>some (ga P a key=true,{v:= .p (match r with
       |some v=>if ok then .aE [v,.bool true]else v
       |none=>if ok then .aE [z,.bool false]else z),aq:=[(b,.map fz es)]})
     |none=>none
    |_=>none
   |_=>none
  |none=>none
 |_,_=>none
def mI(P:b2)(T:b3)(H:an)(m k x:AV):eL:=
 match lR P T,m,k,x with
 |some (a,_),.map b,.p key,.p v=>match H[b]? with
  |some (.map false es)=>match mv P a es key with
   |some _=>some (ga P a key=true,{v:=.p (.aE []),aq:=[(b,.map false es)],aM:=[(b,.map false (fZ es key v))]})
   |none=>none
  |_=>none
 |_,_,_,_=>none
def rF(P:b2)(T:b3)(n:Nat)(x:AV):eL:=
 match x with
 | .p (.str s)=>some (iN P T=true,{v:=.ptr n [],aX:=[.dy s 0]})
 |_=>none
def sc(H:an)(it:AV):eL:=
 match it with
 | .ptr b []=>match H[b]? with
  |some (.dy s pos)=>some (True,if pos<s.length then
   {v:=.p (.aE [.bool true,.int .i64 pos,.int .i32 (g7 (gD s) pos).1]),aq:=[(b,.dy s pos)],aM:=[(b,.dy s (pos+(g7 (gD s) pos).2))]}
   else{v:=.p (.aE [.bool false]),aq:=[(b,.dy s pos)]})
  |_=>none
 |_=>none
def se(P:b2)(T:b3)(n:Nat)(l c:AV):eL:=
 match cH P T,cz P (er P T),l,c with
 |some sz,some z,.p (.int .i64 l),.p (.int .i64 c)=>some (bF P (aL z)=sz/\0<=l/\l=c/\l<=cN,{v:=.sl n 0 sz 0 l.toNat,aX:=[.arr .exact 0 sz (hb l.toNat (.p z))]})
 |_,_,_,_=>none
def copyV(P:b2)(T:b3)(H:an)(d x:AV):eL:=
 match cH P T,d,gW H x with
 |some sz,.sl b aC aj off len,some xs=>match H[b]? with
  |some (.arr k c a es)=>some ((aj=sz/\eZ P sz xs)/\aC=c/\aj=a/\k≠ .frozen/\off+len<=es.length/\¬(k.gr=true/\es=[]),
   {v:=.p (.int .i64 (min xs.length len:Nat)),aq:=(b,.arr k c a es)::dF H x,aM:=[(b,.arr k c a (es.take off++xs.take (min xs.length len)++es.drop (off+min xs.length len)))]})
  |_=>none
 |_,_,_=>none
def rA(x:AV):eL:=
 match x with
 | .ptr _ _| .b8 _ _ _ _ _| .p (.cq _)=>some (True,{v:=x})
 |_=>none
def lr(b:Bool)(c:List AV):eL:=
 match c with
 | .p (.int k a)::r=>match ml k b r a with
  |some n=>some (True,{v:=.p (.int k n)})
  |none=>none
 |_=>none
def rT(f:cb)(fi ca:List AV):eL:=
 match eO fi,eO ca with
 |some a,some b=>some (True,{v:=.p (.func f a b)})
 |_,_=>some (True,{v:=.func f fi ca})
end
section
variable{P:b2}{ag:cb->Bool}
def rY(c a b:AV):eL:=
 match c with
 | .p (.bool t)=>some (True,{v:=if t then a else b})
 |_=>none
def rM(P:b2)(T:b3)(n:Nat):eL:=
 match cz P T with
 |some z=>some (kindOf P T=aL z/\aL z≠.bad/\jA T (aL z)=true,{v:=.ptr n [],aX:=[.box false (.p z)]})
 |none=>none
def uy(P:b2)(T:b3)(n:Nat)(x:AV):eL:=some (kindOf P T=aa x/\aa x≠.bad/\jA T (aa x)=true,{v:=.ptr n [],aX:=[.box false x]})
def rK(P:b2)(T:b3)(a:List (Nat×AV)):eL:=
 match kindOf P T,cz P T with
 | .agg u,some z=>match dD P u with
  |some l=>some (aL z=.agg u/\mj P l a,{v:=iw u (iL ((bY z).map .p) a)})
  |none=>none
 |_,_=>none
def qP(P:b2)(T:b3)(n:Nat)(a:List (Nat×AV))(b:Nat):eL:=
 match cH P T,cz P (er P T)with
 |some sz,some z=>some (bF P (aL z)=sz/\n*sz<=1000000/\mj P (hb n sz) a,{v:=.sl b 0 sz 0 n,aX:=[.arr .exact 0 sz (iL (hb n (.p z)) a)]})
 |_,_=>none
def uK(op:c6)(k:cx)(a b:Int):Prop×PV:=
 match op with
 | .add=>(True,.int k (k.wrap (a+b)))
 | .sub=>(True,.int k (k.wrap (a-b)))
 | .mul=>(True,.int k (k.wrap (a*b)))
 | .quo=>(b≠0,.int k (k.wrap (a.tdiv b)))
 | .rem=>(b≠0,.int k (a.tmod b))
 | .and=>(True,.int k (k.wrap (bp k.bits a&&&bp k.bits b).toNat))
 | .or=>(True,.int k (k.wrap (bp k.bits a|||bp k.bits b).toNat))
 | .xor=>(True,.int k (k.wrap (bp k.bits a^^^bp k.bits b).toNat))
 | .andNot=>(True,.int k (k.wrap (bp k.bits a&&&~~~bp k.bits b).toNat))
 | .eql=>(True,.bool (a==b))
 | .neq=>(True,.bool (a !=b))
 | .lss=>(True,.bool (decide (a<b)))
 | .leq=>(True,.bool (decide (a<=b)))
 | .gtr=>(True,.bool (decide (a>b)))
 | .geq=>(True,.bool (decide (a>=b)))
 | .shl=>(0<=b,.int k (k.wrap (a*2^(min b.toNat k.bits))))
 | .shr=>(0<=b,.int k (a.fdiv (2^(min b.toNat k.bits))))
theorem aAk{op:c6}{k:cx}{a b:Int}{K:PV->Prop}(h:(uK op k a b).1)(hk:K (uK op k a b).2):qd op k a b K:=by
 cases op<;>simp only[uK,qd]at*<;>first|exact hk|exact⟨h,hk⟩
def Fv(op:c6)(a b:List Nat):Option (Prop×PV):=
 match op with
 | .add=>some (a.length+b.length<9223372036854775808,.str (a++b))
 | .eql=>some (True,.bool (a==b))
 | .neq=>some (True,.bool (!(a==b)))
 | .lss=>some (True,.bool (jt a b))
 | .leq=>some (True,.bool (jt a b||a==b))
 | .gtr=>some (True,.bool (!(jt a b||a==b)))
 | .geq=>some (True,.bool (!(jt a b)))
 |_=>none
def iu(P:b2)(op:c6)(T:b3)(c:Bool)(H:an)(x y:AV):eL:=
 match x,y with
 | .p (.int k a),.p (.int d b)=>some ((k=d\/op=.shl\/op=.shr)/\(uK op k a b).1,{v:=.p (uK op k a b).2})
 | .p (.str a),.p (.str b)=>match Fv op a b with
  |some (p,v)=>some (p,{v:=.p v})
  |none=>none
 | .p (.bool a),.p (.bool b)=>match op with
  | .eql=>some (rD P T=true,{v:=.p (.bool (a==b))})
  | .neq=>some (rD P T=true,{v:=.p (.bool (!(a==b)))})
  |_=>none
 | .p (.st u fs),.p (.st u' gs)=>match ja P 9 T (.st u fs) (.st u' gs),op with
  |some r,.eql=>some (sF P T=true,{v:=.p (.bool r)})
  |some r,.neq=>some (sF P T=true,{v:=.p (.bool !r)})
  |_,_=>none
 |x,y=>match dE P T c y with
  |some k=>match cW H k x,op with
   |some r,.eql=>some (True,{v:=.p (.bool r),aq:=dF H x})
   |some r,.neq=>some (True,{v:=.p (.bool !r),aq:=dF H x})
   |_,_=>none
  |none=>none
theorem Ln{op:c6}{T:b3}{c:Bool}{H:an}{x y:AV}{k:uY}{K:PV->Prop}(hk:dE P T c y=some k):kV P op T c H x y K=(match cW H k x,op with
  |some r,.eql=>K (.bool r)
  |some r,.neq=>K (.bool !r)
  |_,_=>False):=by
 have a:=hk;rcases Ks hk with⟨rfl,rfl,_⟩|⟨rfl,rfl,_⟩|⟨rfl,rfl,_⟩|⟨rfl,rfl,_⟩|⟨rfl,rfl,_⟩
 all_goals
  unfold kV;cases x with
  |p v=>
   cases v<;>simp only[a]<;>(generalize cW H _ _=r;cases r<;>cases op<;>rfl)
  |_=>simp only[a];(generalize cW H _ _=r;cases r<;>cases op<;>rfl)
theorem awy{op:c6}{T:b3}{c:Bool}{H:an}{x y:AV}:Can (fun K=>kV P op T c H x y (fun v=>K {v:=.p v,aq:=dF H x})) (iu P op T c H x y):=by
 intro K h;unfold iu at h;unfold kV
 split at h
 ·exact⟨h.1.1,aAk h.1.2 h.2⟩
 ·split at h
  ·rename_i p v a;simp only[bk]at h;show qc op _ _ _;unfold Fv at a
   split at a<;>first
    |(simp only[h4,Prod.mk.injEq]at a
      obtain⟨b,d⟩:=a;rw[<-b,<-d]at h;simp only[qc]
      first|exact h.2|exact⟨h.1,h.2⟩)
    |cases a
  ·exact h.elim
 ·split at h
  ·exact⟨h.1,h.2⟩
  ·exact⟨h.1,h.2⟩
  ·exact h.elim
 ·split at h
  ·rename_i e;simp only[bk]at h;simp only[e];exact⟨h.1,h.2⟩
  ·rename_i e;simp only[bk]at h;simp only[e];exact⟨h.1,h.2⟩
  ·exact h.elim
 ·rename_i b d f g
  split at h
  case h_2=>exact h.elim
  rename_i k hk;clear b d f g;show kV P op T c H x y _;rw[Ln hk];generalize cW H k x=q at h⊢;cases q<;>cases op<;>first|exact h.elim|exact h.2
def sR(op:UnOp)(x:AV):eL:=
 match op,x with
 | .not,.p (.bool b)=>some (True,{v:=.p (.bool (!b))})
 | .neg,.p (.int k n)=>some (True,{v:=.p (.int k (k.wrap (0-n)))})
 | .xor,.p (.int k n)=>some (True,{v:=.p (.int k (k.wrap (bp k.bits (if k.signed then -1 else k.max)^^^bp k.bits n).toNat))})
 |_,_=>none
def rR(P:b2)(S D:b3)(H:an)(x:AV):eL:=
 match P.underlying S,P.underlying D,x with
 |some _,some (.int k),.p (.int _ n)=>some (True,{v:=.p (.int k (k.wrap n))})
 |some _,some .string,.p (.str s)=>some (True,{v:=.p (.str s)})
 |some (.slice e),some .string,.sl b aC aj off len=>match H[b]? with
  |some (.arr k c a es)=>match bytesOf ((es.drop off).take len)with
   |some l=>some ((aC=c/\aj=a/\aj=1/\P.underlying e=some (.int .u8)/\0<len/\off+len<=es.length),{v:=.p (.str l),aq:=[(b,.arr k c a es)]})
   |none=>none
  |_=>none
 |_,_,_=>none
def rj(t:AV)(i:Nat):eL:=
 match t with
 | .p (.aE vs)=>match vs[i]? with
  |some v=>some (True,{v:=.p v})
  |none=>none
 | .aE vs=>match vs[i]? with
  |some v=>some (True,{v})
  |none=>none
 |_=>none
def rO(P:b2)(T:b3)(x i:AV):eL:=
 match x,i with
 | .p (.str s),.p (.int _ i)=>match s[i.toNat]? with
  |some c=>some (iN P T=true/\0<=i,{v:=.p (.int .u8 c)})
  |none=>none
 | .p (.st u es),.p (.int _ i)=>match ir P T,(jF P u)[i.toNat]?,es[i.toNat]? with
  |some (u',n),some F,some g=>some (u'=u/\0<=i/\i.toNat<n/\kindOf P F=aL g,{v:=.p g})
  |_,_,_=>none
 |_,_=>none
def sM(P:b2)(T:b3)(n:Nat)(H:an)(x:AV):eL:=
 match lenOf H x with
 |some (m,aq)=>some (ig P T x=true/\0<n,{v:=.p (.int .i64 m),aq})
 |none=>none
def lx(P:b2)(ag:cb->Bool)(o:Oper)(e:Env)(H:an)(K:aZ->Prop):Prop:=
 match o.op with
 | .move x| .assign x=>K {v:=ev e x}
 | .pick c a b=>bk (rY (ev e c) (ev e a) (ev e b)) K
 | .alloc T=>bk (rM P T H.length) K
 | .box T x=>bk (uy P T H.length (ev e x)) K
 | .build T parts=>bk (rK P T (parts.toList.map fun(i,x)=>(i,ev e x))) K
 | .buildSlice T n parts=>bk (qP P T n (parts.toList.map fun(i,x)=>(i,ev e x)) H.length) K
 | .load T a=>bk (qe P T H (ev e a)) K
 | .store T a x=>bk (pU P T H (ev e a) (ev e x)) K
 | .binOp op T x y _=>bk (iu P op T (mJ y) H (ev e x) (ev e y)) K
 | .unOp op _ x=>bk (sR op (ev e x)) K
 | .convert S D x=>bk (rR P S D H (ev e x)) K
 | .extract t i=>bk (rj (ev e t) i) K
 | .fieldAddr T a f=>bk (pz P T (ev e a) f) K
 | .indexAddr T x i=>bk (py P T H (ev e x) (ev e i)) K
 | .index T x i=>bk (rO P T (ev e x) (ev e i)) K
 | .slice T x lo hi none=>bk (pW P T H (ev e x) (lo.map (ev e)) (hi.map (ev e))) K
 | .lookup T x i ok=>bk (rV P T H (ev e x) (ev e i) ok) K
 | .mapUpdate T m k x| .insert T m k x=>bk (mI P T H (ev e m) (ev e k) (ev e x)) K
 | .range T x=>bk (rF P T H.length (ev e x)) K
 | .next it true=>bk (sc H (ev e it)) K
 | .makeSlice T l c=>bk (se P T H.length (ev e l) (ev e c)) K
 | .nilCheck x=>bk (rA (ev e x)) K
 | .call c=>match c.callee with
  | .builtin .len=>(match c.args.toList with
   |[x]=>bk (sM P (c.argTypes.getD 0 0) c.argTypes.size H (ev e x)) K
   |_=>False)
  | .builtin .append=>(match c.args.toList with
   |[s,x]=>c.argTypes.size=2/\bk (pT P (c.argTypes.getD 0 0) (c.argTypes.getD 1 0) H (ev e s) (ev e x)) K
   |_=>False)
  | .builtin .copy=>(match c.args.toList with
   |[d,x]=>c.argTypes.size=2/\bk (copyV P (c.argTypes.getD 0 0) H (ev e d) (ev e x)) K
   |_=>False)
  | .builtin .min=>bk (lr false (c.args.toList.map (ev e))) K
  | .builtin .max=>bk (lr true (c.args.toList.map (ev e))) K
  |_=>fH P ag o (ev e) H K
 |_=>fH P ag o (ev e) H K
theorem PC{o:Oper}{e:Env}{H:an}{K:aZ->Prop}(h:lx P ag o e H K):fH P ag o (ev e) H K:=by
 unfold lx at h;unfold fH;cases w:o.op<;>simp only[w]at h<;>simp only
 case move|assign=>exact h
 case pick c a b=>
  unfold rY at h
  split at h
  ·rename_i hc;simp only[hc];exact h.2
  ·exact h.elim
 case alloc T=>
  unfold rM at h
  split at h
  ·rename_i v;simp only[bk]at h;simp only[v];exact⟨h.1.1,h.1.2.1,h.1.2.2,h.2⟩
  ·exact h.elim
 case box T x=>exact⟨h.1.1,h.1.2.1,h.1.2.2,h.2⟩
 case build T parts=>
  unfold rK at h
  split at h
  ·rename_i hk v
   split at h
   ·rename_i A;simp only[bk]at h;simp only[hk,v,A];exact⟨h.1.1,h.1.2,h.2⟩
   ·exact h.elim
  ·exact h.elim
 case buildSlice T n parts=>
  unfold qP at h
  split at h
  ·rename_i hk v;simp only[bk]at h;simp only[hk,v];exact⟨h.1.1,h.1.2.1,h.1.2.2,h.2⟩
  ·exact h.elim
 case load T a=>exact ZK K h
 case store T a x=>exact Yt K h
 case binOp op T x y N=>exact awy K h
 case unOp op T x=>
  unfold sR at h
  split at h
  ·rename_i hx;simp only[hx];exact h.2
  ·rename_i hx;simp only[hx];exact h.2
  ·rename_i hx;simp only[hx];exact h.2
  ·exact h.elim
 case convert S D x=>
  unfold rR at h
  split at h
  ·rename_i g j p;simp only[g,j,p];exact h.2
  ·rename_i g j p;simp only[g,j,p];exact h.2
  ·rename_i g j p
   split at h
   ·rename_i q
    split at h
    ·rename_i A;obtain⟨⟨a1,a2,a3,a4,a5,B⟩,h⟩:=h;simp only[g,j,p,q,A];exact⟨a1,a2,a3,a4,a5,B,h⟩
    ·exact h.elim
   ·exact h.elim
  ·exact h.elim
 case extract t i=>
  unfold rj at h
  split at h
  ·rename_i E
   split at h
   ·rename_i F;simp only[E,F];exact h.2
   ·exact h.elim
  ·rename_i E
   split at h
   ·rename_i F;simp only[E,F];exact h.2
   ·exact h.elim
  ·exact h.elim
 case fieldAddr T a f=>exact UT K h
 case indexAddr T x i=>exact US K h
 case index T x i=>
  unfold rO at h
  split at h
  ·rename_i hx hi
   split at h
   ·rename_i c hc;obtain⟨J,rfl⟩:=ha.1 hc;simp only[hx,hi];exact⟨h.1.1,h.1.2,J,h.2⟩
   ·exact h.elim
  ·rename_i hx hi
   split at h
   ·rename_i g j p;obtain⟨⟨g1,g2,g3,g4⟩,h⟩:=h;simp only[hx,hi,g,j,p];exact⟨g1,g2,g3,g4,h⟩
   ·exact h.elim
  ·exact h.elim
 case slice T x lo hi M=>
  cases M with
  |none=>exact Yu K h
  |some m=>simp only[fH,w]at h;exact h
 case lookup T x i ok=>
  unfold rV at h
  split at h
  case h_2=>exact h.elim
  rename_i L hi;simp only[L,hi]
  split at h
  case h_2=>exact h.elim
  rename_i z v;simp only[v]
  split at h
  ·rename_i hx;simp only[hx];exact h
  ·rename_i O hx;simp only[hx]
   split at h
   case h_2=>exact h.elim
   rename_i r u;refine⟨h.1,?_⟩;simp only[u];cases r<;>exact h.2
  ·rename_i b hx;simp only[hx]
   split at h
   case h_2=>exact h.elim
   rename_i q
   split at h
   case h_2=>exact h.elim
   rename_i r u;refine⟨h.1,?_⟩;simp only[q,u];cases r<;>exact h.2
  ·exact h.elim
 case mapUpdate T m k x|insert T m k x=>
  unfold mI at h
  split at h
  case h_2=>exact h.elim
  rename_i g j p C;simp only[g,j,p,C]
  split at h
  case h_2=>exact h.elim
  rename_i q
  split at h
  case h_2=>exact h.elim
  rename_i u;refine⟨h.1,?_⟩;simp only[q,u];exact h.2
 case range T x=>
  unfold rF at h
  split at h
  ·rename_i hx;simp only[hx];exact h
  ·exact h.elim
 case next it s=>
  cases s with
  |false=>simp only[fH,w]at h
  |true=>
   dsimp only at h⊢;unfold sc at h
   split at h
   case h_2=>exact h.elim
   rename_i hx;simp only[hx]
   split at h
   case h_2=>exact h.elim
   rename_i q;simp only[q];have h:=h.2
   split
   ·rename_i hc;rw[if_pos hc]at h;exact h
   ·rename_i hc;rw[if_neg hc]at h;exact h
 case makeSlice T l c=>
  unfold se at h
  split at h
  ·rename_i g j p C;simp only[g,j,p,C];exact⟨h.1.1,h.1.2.1,h.1.2.2.1,h.1.2.2.2,h.2⟩
  ·exact h.elim
 case nilCheck x=>
  unfold rA at h
  split at h
  ·rename_i hx;simp only[hx];rw[hx]at h;exact h.2
  ·rename_i hx;simp only[hx];rw[hx]at h;exact h.2
  ·rename_i hx;simp only[hx];rw[hx]at h;exact h.2
  ·exact h.elim
 case call c=>
  split at h
  ·rename_i hc
   split at h
   ·rename_i x hx;unfold sM at h
    split at h
    ·rename_i A;simp only[bk]at h;simp only[hc,hx,hh,hn,A];exact⟨h.1.1,h.1.2,h.2⟩
    ·exact h.elim
   ·exact h.elim
  ·rename_i hc
   split at h
   ·rename_i s x hx;simp only[hc,hx,hh,hn];exact⟨h.1,Wh K h.2⟩
   ·exact h.elim
  ·rename_i hc
   split at h
   ·rename_i d x hx;simp only[hc,hx,hh,hn];obtain⟨I,h⟩:=h;unfold copyV at h
    split at h
    case h_2=>exact h.elim
    rename_i g j p
    split at h
    case h_2=>exact h.elim
    rename_i q;simp only[bk]at h;obtain⟨⟨⟨a1,a2⟩,a3,a4,a5,B,G⟩,hk⟩:=h;simp only[g,j,p,q];exact⟨a1,a2,I,a3,a4,a5,B,G,hk⟩
   ·exact h.elim
  ·rename_i hc;unfold lr at h
   split at h
   case h_2=>exact h.elim
   rename_i hx
   split at h
   case h_2=>exact h.elim
   rename_i u;simp only[hc,hx,u];exact h.2
  ·rename_i hc;unfold lr at h
   split at h
   case h_2=>exact h.elim
   rename_i hx
   split at h
   case h_2=>exact h.elim
   rename_i u;simp only[hc,hx,u];exact h.2
  ·unfold fH at h;simp only[w]at h;exact h
 all_goals first
  |exact h
  |(unfold fH at h
    simp only[w]at h;exact h)
  |(unfold fH at h
    simp only[w]at h)
end
section
variable{P:b2}{ag:cb->Bool}
def ez(dst:Option Tmp)(s:St)(K:St->Prop)(e:aZ):Prop:=K (e.app dst s)
def A1(dst:Option Tmp)(s:St)(K:St->Prop)(v:AV)(H:an):Prop:=K ⟨put dst v s.env,H⟩
def rS(P:b2)(f:AV)(args:List AV)(H:an)(K:AV->an->Prop):Prop:=
 match f with
 | .p (.func g fi ca)=>ib P false g (fi.map .p++args++ca.map .p) H K
 | .func g fi ca=>ib P false g (fi++args++ca) H K
 | .map b=>∃H' v,ft P b H args H' v/\K v H'
 |_=>False
def rJ(P:b2)(f:AV)(args:List AV)(H:an)(K:aZ->Prop):Prop:=
 match f with
 | .p (.func g fi ca)=>im P g (fi.map .p++args++ca.map .p) H K
 | .func g fi ca=>im P g (fi++args++ca) H K
 | .map b=>∃e,oL P b args H.length e/\oQ H e/\K e
 |_=>False
def dv(P:b2)(ag:cb->Bool)(o:Oper)(K:St->Prop)(s:St):Prop:=
 match o.op with
 | .call {callee:=.value f,args,.. }=>rS P (ev s.env f) (args.toList.map (ev s.env)) s.heap (A1 o.dst s K)
 |_=>lx P ag o s.env s.heap (ez o.dst s K)
def dw(P:b2)(ag:cb->Bool)(o:Oper)(s:St)(K:aZ->Prop):Prop:=
 match o.op with
 | .call {callee:=.value f,args,.. }=>rJ P (ev s.env f) (args.toList.map (ev s.env)) s.heap K
 |_=>lx P ag o s.env s.heap K
theorem XI{o:Oper}{K:St->Prop}{s:St}(h:dv P ag o K s):jO P ag false o K s:=by
 unfold dv at h;unfold jO
 split at h
 ·rename_i f args b a;simp only[a];unfold rS at h
  split at h
  ·rename_i hf;simp only[hf];exact h
  ·rename_i hf;simp only[hf];exact h
  ·rename_i hf;simp only[hf];exact h
  ·exact h.elim
 ·rename_i c
  split
  ·rename_i f args b a;exact(c _ _ _ a).elim
  ·exact PC h
theorem XQ{o:Oper}{K:aZ->Prop}{s:St}(h:dw P ag o s K):jB P ag o s K:=by
 unfold dw at h;unfold jB
 split at h
 ·rename_i f args b a;simp only[a];unfold rJ at h
  split at h
  ·rename_i hf;simp only[hf];exact h
  ·rename_i hf;simp only[hf];exact h
  ·rename_i hf;simp only[hf];exact h
  ·exact h.elim
 ·rename_i c
  split
  ·rename_i f args b a;exact(c _ _ _ a).elim
  ·exact PC h
def gh(P:b2)(ag:cb->Bool)(a:Array Oper):List Oper->(St->Prop)->St->Prop
 |[],K,s=>K s
 |o::r,K,s=>match o.guard with
  |none=>dv P ag o (gh P ag a r K) s
  |some (j,want)=>match guardOf a j s.env with
   | .p (.bool t)=>if t=want then dv P ag o (gh P ag a r K) s else gh P ag a r K ⟨put o.dst (.p (.aE [])) s.env,s.heap⟩
   | .p (.aE [])=>gh P ag a r K ⟨put o.dst (.p (.aE [])) s.env,s.heap⟩
   |_=>False
def gz(P:b2)(ag:cb->Bool)(a:Array Oper):List Oper->Nat->List Touch->(St->Prop)->St->Prop
 |[],_,acc,K,s=>iM a acc=true/\K s
 |o::r,i,acc,K,s=>match o.guard with
  |none=>dw P ag o s fun e=>gz P ag a r (i+1) (gd i s.heap.length e acc) K (e.app o.dst s)
  |some (j,want)=>match guardOf a j s.env with
   | .p (.bool t)=>if t=want then dw P ag o s fun e=>gz P ag a r (i+1) (gd i s.heap.length e acc) K (e.app o.dst s)
    else gz P ag a r (i+1) acc K ⟨put o.dst (.p (.aE [])) s.env,s.heap⟩
   | .p (.aE [])=>gz P ag a r (i+1) acc K ⟨put o.dst (.p (.aE [])) s.env,s.heap⟩
   |_=>False
theorem zB{b:Array Oper}:∀(l:List Oper){K a:St->Prop}{s:St},(∀s,K s->a s)->gh P ag b l K s->ic P ag false b l a s
 |[],K,a,s,hk,h=>by simp only[gh]at h;simp only[ic];exact hk s h
 |o::l,K,a,s,hk,h=>by
  have go:dv P ag o (gh P ag b l K) s->jO P ag false o (ic P ag false b l a) s:=fun h=>by
   obtain⟨t,f,g⟩:=K2 false o s _ (XI h);exact g _ (zB l hk f)
  simp only[gh]at h;simp only[ic]
  split at h
  ·rename_i c;simp only[c];exact go h
  ·rename_i j i c;simp only[c]
   split at h
   ·rename_i t d;simp only[d]
    split at h
    ·rename_i e;rw[if_pos e];exact go h
    ·rename_i e;rw[if_neg e];exact zB l hk h
   ·rename_i d;simp only[d];exact zB l hk h
   ·exact h.elim
theorem yS{c:Array Oper}:∀(l:List Oper){i:Nat}{a:List Touch}{K b:St->Prop}{s:St},(∀s,K s->b s)->gz P ag c l i a K s->gv P ag c l i a b s
 |[],i,a,K,b,s,hk,h=>by simp only[gz]at h;simp only[gv];exact⟨h.1,hk s h.2⟩
 |o::l,i,a,K,b,s,hk,h=>by
  have go:dw P ag o s (fun e=>gz P ag c l (i+1) (gd i s.heap.length e a) K (e.app o.dst s))->jB P ag o s (fun e=>gv P ag c l (i+1) (gd i s.heap.length e a) b (e.app o.dst s)):=fun h=>by
   obtain⟨e,k,m⟩:=K3 o s _ (XQ h);exact m _ (yS l hk k)
  simp only[gz]at h;simp only[gv]
  split at h
  ·rename_i d;simp only[d];exact go h
  ·rename_i j n d;simp only[d]
   split at h
   ·rename_i t f;simp only[f]
    split at h
    ·rename_i g;rw[if_pos g];exact go h
    ·rename_i g;rw[if_neg g];exact yS l hk h
   ·rename_i f;simp only[f];exact yS l hk h
   ·exact h.elim
def uj(v:AV)(a b:St->Prop)(s:St):Prop:=
 match v with
 | .p (.bool t)=>if t then a s else b s
 |_=>False
def uR(K:St->Prop)(Q:bw->St->Prop)(e:bw)(s:St):Prop:=
 match e with
 | .normal=>K s
 |e=>Q e s
def du(P:b2)(ag:cb->Bool)(q:Cx):Code->(bw->St->Prop)->St->Prop
 | .skip,Q,s| .label _,Q,s=>Q .normal s
 | .region _ ops draw,Q,s=>if draw then gz P ag ops ops.toList 0 [] (Q .normal) s else gh P ag ops ops.toList (Q .normal) s
 | .seq a b,Q,s=>du P ag q a (uR (du P ag q b Q) Q) s
 | .cond c a b,Q,s=>uj (ev s.env c) (du P ag q a Q) (du P ag q b Q) s
 | .block id b,Q,s=>du P ag q b (oD id Q) s
 | .scope b,Q,s=>du P ag q b Q s
 | .loop b,Q,s=>∃I:Nat->St->Prop,(∃n t,cV q.2 s t/\I n t)/\∀n t,I n t->du P ag q b (ue q.2 n I Q) t
 | .rangeFunc f d a b,Q,s=>q.2<=s.heap.length/\ju P (ev s.env f) s.heap.length (s.heap++[.loop ⟨.ready,none,q.1,d.toList,a,b,s.env⟩]) (iG s.heap.length s.env Q)
 | .exit id,Q,s=>Q (.exit id) s
 | .ret,Q,s=>Q .ret s
 |_,_,_=>False
theorem XY{Q a:bw->St->Prop}(hq:∀e s,Q e s->a e s){j:Option Code}{s:St}(h:jy Q j s):jy a j s:=by
 unfold jy at h⊢
 split at h
 ·exact hq _ _ h
 ·exact hq _ _ h
 ·exact hq _ _ h
 ·exact h.elim
theorem KI{Q a:bw->St->Prop}(hq:∀e s,Q e s->a e s){b:Nat}{env:Env}{H:an}(h:iG b env Q H):iG b env a H:=by
 unfold iG at h⊢
 split at h
 ·exact⟨h.1,XY hq h.2⟩
 ·exact h.elim
theorem KE{it:AV}{b:Nat}{H:an}{K d:an->Prop}(hk:∀H,K H->d H)(h:ju P it b H K):ju P it b H d:=by
 unfold ju at h⊢
 split at h
 ·obtain⟨H',v,a,c⟩:=h;exact⟨H',v,a,hk _ c⟩
 ·obtain⟨H',v,a,c⟩:=h;exact⟨H',v,a,hk _ c⟩
 ·exact h.elim
theorem mb{q:Cx}:∀(c:Code){Q Q':bw->St->Prop}{s:St},(∀e s,Q e s->Q' e s)->du P ag q c Q s->cd P ag q c Q' s
 | .skip,Q,Q',s,hq,h| .label _,Q,Q',s,hq,h=>by simp only[du]at h;simp only[cd];exact hq _ _ h
 | .exit _,Q,Q',s,hq,h| .ret,Q,Q',s,hq,h=>by simp only[du]at h;simp only[cd];exact hq _ _ h
 | .region id ops draw,Q,Q',s,hq,h=>by
  simp only[du]at h;simp only[cd]
  split at h
  ·rename_i j;rw[if_pos j];exact yS _ (hq _) h
  ·rename_i j;rw[if_neg j];exact zB _ (hq _) h
 | .seq a b,Q,Q',s,hq,h=>by
  simp only[du]at h;simp only[cd];refine mb a (fun e s d=>?_) h;cases e with
  |normal=>exact mb b hq d
  |exit id=>exact hq _ _ d
  |ret=>exact hq _ _ d
 | .cond c a b,Q,Q',s,hq,h=>by
  simp only[du]at h;simp only[cd];unfold uj at h
  split at h
  ·rename_i t m;simp only[m]
   split at h
   ·rename_i g;rw[if_pos g];exact mb a hq h
   ·rename_i g;rw[if_neg g];exact mb b hq h
  ·exact h.elim
 | .block id b,Q,Q',s,hq,h=>by
  simp only[du]at h;simp only[cd];refine mb b (fun e s d=>?_) h;cases e with
  |normal=>exact hq _ _ d
  |exit i=>
   simp only[oD]at d
   by_cases hi:i=id
   ·simp only[hi,if_true]at d⊢;exact hq _ _ d
   ·simp only[hi,if_false]at d⊢;exact hq _ _ d
  |ret=>exact hq _ _ d
 | .scope b,Q,Q',s,hq,h=>by simp only[du]at h;simp only[cd];exact mb b hq h
 | .loop b,Q,Q',s,hq,h=>by
  simp only[du]at h;simp only[cd];obtain⟨I,k,l⟩:=h;refine⟨I,k,fun n t hI=>mb b (fun e s d=>?_) (l n t hI)⟩;cases e with
  |normal=>exact d
  |exit id=>exact hq _ _ d
  |ret=>exact hq _ _ d
 | .rangeFunc f o a b,Q,Q',s,hq,h=>by
  simp only[du]at h;simp only[cd];exact⟨h.1,s.env,fun _=>rfl,KE (fun H=>KI hq) h.2⟩
 | .goto _,_,_,_,_,h| .refuse _,_,_,_,_,h=>by simp[du]at h
end
end Go.ah
