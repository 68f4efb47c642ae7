import Derived.Test.YthmfmhbicipdmaaGreatDoorThB
import Derived.Laws.RangeString
import Derived.Lib.UnsafeStr
import Derived.Laws.BytesArg
import Derived.Orders
/- Parts of a proof. -/
set_option linter.unusedSimpArgs false
set_option linter.unusedVariables false
set_option linter.unusedSectionVars false
open Array renaming getElem?_eq_some_iff->aT, getElem?_eq_getElem->a0, ext'->a1, replicate->a6, getElem?_toList->a7, length_toList->a8, getD_eq_getD_getElem?->bb, getD->be, toList_push->bf
open BitVec renaming ofInt->bi
open Bool renaming and_eq_true->bl, or_eq_true->bo, false_eq_true->bv
open Go renaming Program->bw, TypeId->b0, run_underlying->b1, Operand->b2, FuncId->b3, execOp->b4, Value->b5, World->cb, MapEntry->cc, Frame->cd, IntKind->ce, Deferred->ck, BinOp->cv, step_leave_returned->cx, run_storeCells_at->cy, Field->c6, mem_ready->c9, setRow_other->da, setRow_heap->db, getD_set_ne->dg, Steps->dl
open Go.Builtin renaming clear_->dp, unsafeString_->dq, copy_->dx, min2->dy, max2->dz, zeroCells->ea, unsafeSliceData_->eb, min_->ec, max_->ed, lenOf->ee, cap_->ei
open Go.Call renaming operands->ej
open Go.Instr renaming findAsking->em, findNow->en, findKey->eo, checkKey->eq, sameNow->er, mapUpdate->ew, lookup->eP, next->e6
open Go.MapKept renaming run_getObj_map->e7, bytes_beq->e8
open Go.Op renaming operands->e9
open Go.Region renaming ready->fa, wanted->fb, binds->fd, schedule->fl
open Go.Region.linearise renaming go->fm
open Go.Result renaming andThen_ok->fv, andThen->fw
open Go.Sem renaming run_bind->gb, run_pure->gc, run->ge
open Go.Steps renaming one->gg, trans->gi, refl->gj
open Go.Utf8 renaming decode->gm
open Go.World renaming freeze->gt, cell?->gx
open List renaming getElem?_eq_some_iff->gy, replicate->g0, length_append->g7, getElem?_set_self->g8, getElem?_eq_getElem->g9, map_cons->ha, append_nil->hb, mem_cons->hd, all_eq_true->he, map_nil->hg, contains_iff_mem->hh, any_eq_true->hj, map_append->hl, getElem?_append_left->hm, map_toArray->hn, range->ho, map_map->hp, getElem?_eq_none->ht, mem_of_mem_take->hu, getElem?_set_ne->hv, map_congr_left->hw, getElem?_map->hy, append_assoc->hz, length_eq_zero_iff->hA, mem_of_mem_drop->hB, map->hC, length->hD, mem_map_of_mem->hE, flatten_append->hF, size_toArray->hG, countP_congr->hH, countP_cons->hJ, mem_append->hK, drop_zero->hL, map_id->hM
open Nat renaming le_refl->hN, lt_trichotomy->hO, lt_irrefl->hP, add_zero->hQ, zero_le->hR, le_add_right->hS, strongRecOn->hT, zero_add->hU, le_total->hV
open Option renaming getD_some->hW
open Option.some renaming injEq->hX, inj->hZ
open PUnit renaming unit->h0
open UInt8 renaming toNat_ofNat'->h2, ofNat->h3
namespace Go.ak
set_option linter.unusedSectionVars false
variable[Gl]
section
variable{P:bw}{w:cb}{ad ah:Nat->Prop}{β:Bd}{H:aj}
variable{o:Oper}{ρ:b2->AV}{base:Nat}
open Go.MapKept
def nE:PV->Prop
 | .st _ _=>False
 |_=>True
theorem Me{T:b0}{key:PV}(h:nE key)(k:PV):qJ P T key k=j0 key k:=by
 cases key<;>first
  |exact h.elim
  |rfl
theorem UT{T:b0}{key:PV}(h:nE key)(a:List (PV×PV)):mH P T a key=ga P T a key:=by
 cases key<;>first
  |exact h.elim
  |rfl
theorem I4{T:b0}{key:PV}{b:b5}(h:gB P T key=true)(c:nE key)(a:aD P w ad key b):∃d,P.underlying T=some d/\IsKey d b:=by
 unfold gB at h
 split at h
 ·split at h
  ·rename_i e;simp at h;subst h;simp only[aD]at a;subst a;exact⟨_,e,by simp[IsKey]⟩
  ·simp at h
 ·simp only[aD]at a;obtain⟨bs,rfl,_⟩:=a;exact⟨_,yU h,by simp[IsKey]⟩
 ·exact c.elim
 ·simp at h
theorem NL{T:b0}{d:TypeDesc}(j:P.underlying T=some d){key g:PV}{i v':b5}{r:Bool}(h:gB P T key=true)(p:nE key)(c:j0 key g=some r)(e:aD P w ad key i)(f:aD P w ad g v'):
 er d i v'=some r/\(r=true->i=v'):=by
 unfold gB at h
 split at h
 ·split at h
  ·rename_i k;simp at h;subst h;rw[j]at k;cases k;cases g<;>simp only[j0]at c<;>try (simp at c;done)
   split at c
   ·rename_i hk;subst hk;simp at c;subst c;simp only[aD]at e f;subst e;subst f;simp[er]
   ·simp at c
  ·simp at h
 ·rename_i hs;have:=yU h;rw[j]at this;cases this;cases g<;>simp only[j0]at c<;>try (simp at c;done)
  simp at c;subst c;simp only[aD]at e f;obtain⟨a,rfl,e1⟩:=e;obtain⟨b,rfl,e2⟩:=f;subst e1;subst e2;have n:(hC (fun x:UInt8=>x.toNat) a.data.toList=hC (fun x:UInt8=>x.toNat) b.data.toList)↔a=b:=by
   constructor
   ·intro h;have:=Ch h;apply ByteArray.ext;apply a1;exact this
   ·intro h;rw[h]
  by_cases hc:a=b
  ·subst hc;simp[er,e8]
  ·have l:¬(hC (fun x:UInt8=>x.toNat) a.data.toList=hC (fun x:UInt8=>x.toNat) b.data.toList):=fun h=>hc (n.1 h);have m:(a==b)=false:=by
    cases o:(a==b)with
    |false=>rfl
    |true=>exact(hc ((e8 a b).1 o)).elim
   simp[er,l,m]
 ·exact p.elim
 ·simp at h
theorem DC{T:b0}{d:TypeDesc}(o:P.underlying T=some d){key:PV}{g:b5}(hk:gB P T key=true)(m:nE key)(l:aD P w ad key g):∀(b:List (PV×PV))(a:List cc)(i:Nat)(r:Option PV),cK P w ad b a->ga P T b key=some r->
 (r=none/\en d g a i=some none)\/∃v j e,r=some v/\en d g a i=some (some (i+j,e.val))/\a[j]?=some e/\aD P w ad v e.val/\e.key=g/\
  (∀(x:PV)(k:b5),aD P w ad x k->cK P w ad (gA b key x) (a.modify j fun e=>{e with key:=g,val:=k}))
 |[],a,i,r,f,h=>by
  simp only[cK]at f;simp[ga]at h;subst f;subst h;exact .inl ⟨rfl,rfl⟩
 |(s,v')::b,a,i,r,f,h=>by
  simp only[cK]at f;obtain⟨e,rest,rfl,n,p,q⟩:=f;simp only[ga,Me m]at h
  split at h
  ·rename_i c;simp at h;subst h;obtain⟨g1,g2⟩:=NL o hk m c l n;refine .inr ⟨v',0,e,rfl,by simp[en,g1],rfl,p,(g2 rfl).symm,fun x k hx=>?_⟩;simp only[gA,c,if_true];simp only[cK];exact⟨_,rest,rfl,l,hx,q⟩
  ·rename_i c;obtain⟨g1,g2⟩:=NL o hk m c l n;rcases DC o hk m l b rest (i+1) r q h with⟨rfl,f1⟩|⟨v,j,e',rfl,f1,f2,f3,f4,f5⟩
   ·exact .inl ⟨rfl,by simp[en,g1,f1]⟩
   ·refine .inr ⟨v,j+1,e',rfl,by simp[en,g1,f1];omega,by simpa using f2,f3,f4,fun x k hx=>?_⟩;simp only[gA,c];rw[if_neg (by simp)];simp only[cK];exact⟨e,_,by simp[List.modify_succ_cons],n,p,f5 x k hx⟩
  ·simp at h
theorem JG{X:Array b5}{y:b0->PV->PV->Option Bool}(e:Bool)(n:Nat):
 ∀(fs:List c6)(l:List Nat)(b:List PV)(r:Bool)(d:List b5)(o:List (List b5)),ka P y (fs.map (·.type)) b b=some r->(∀f∈fs,f.name≠ "_" /\uv P f.type=true)->
 (∀(i:Nat)(f:c6),fs[i]?=some f->f.offset=d.length+(l.take i).sum)->bk P w ad l b o->
 X.toList=d++o.flatten->(forIn fs h0 (fun f _=>if f.name≠ "_" then(do
  let x<-part f.type X f.offset
  eq e (n+1) f.type x
  pure (ForInStep.yield h0))else pure (ForInStep.yield h0):c6->PUnit->Sem (ForInStep PUnit))).run P w=.ok h0 w
 |[],l,b,r,d,o,_,_,_,_,_=>by simp
 |f::fs,l,b,r,d,o,h,s,t,hx,q=>by
  cases b with
  |nil=>simp[ka]at h
  |cons a b=>
   cases l with
   |nil=>simp[bk]at hx
   |cons m l=>
    simp only[ha,ka]at h
    split at h
    case isFalse=>simp at h
    rename_i hk
    split at h
    case h_2=>simp at h
    rename_i I F H z;obtain⟨c,cs,rfl,hc,A,E⟩:=C1 hx;obtain⟨C,p⟩:=s f (by simp);have D:f.offset=d.length:=by simpa using t 0 f (by simp)
    obtain⟨x,u,J⟩:=wM hk.1 hc (pre:=d) (post:=cs.flatten) (cs:=X) (by rw[q];simp);rw[<-D]at u;have v:(eq e (n+1) f.type x).run P w=.ok () w:=by
     unfold uv at p;unfold eq
     split at p
     ·rename_i k j;simp[b1 j]
     ·rename_i j;simp[b1 j]
     ·rename_i j;simp[b1 j]
     ·cases p
    have G:=JG e n fs l b F (d++c) cs z (fun f hf=>s f (by simp[hf])) (by
     intro i g B;have:=t (i+1) g (by simpa using B);rw[this,List.take_succ_cons,List.sum_cons,g7,A];omega) E (by rw[q];simp)
    rw[List.forIn_cons];simp only[C,ne_eq,not_false_eq_true,if_true,gb,u,v,fv,gc];exact G
theorem Um{T:b0}{bW:Array c6}{u:Nat}{fs:List PV}{g:b5}(b:P.underlying T=some (.struct bW))(j:bW.toList.all (fun f=>f.name != "_" &&uv P f.type)=true)(a:(gh P 9 T (.st u fs) (.st u fs)).isSome=true)(d:aD P w ad (.st u fs) g)(e:Bool):
 (eq e 10000 T g).run P w=.ok () w:=by
 obtain⟨r,a⟩:=Option.isSome_iff_exists.1 a;unfold gh at a;simp only[b]at a
 split at a
 case isFalse=>simp at a
 rename_i hc;obtain⟨hk,-,-,-⟩:=hc;simp only[aD]at d;obtain⟨l,c,k1,k2,rfl⟩:=d;obtain⟨o,p,s1,s2,q,h,s,k⟩:=vS (P:=P) (T:=T) (u:=u) (n:=bW.size) (by unfold eU;rw[hk,b]);rw[b]at s1;cases s1;rw[k1]at h;cases h;have key:=JG (w:=w) (ad:=ad) (X:=c.flatten.toArray) e 9998 bW.toList l fs r [] c a (fun f hf=>by
  have:=he.1 j f hf;simpa using this) (by
   intro i f hf;have hi:i<bW.size:=by
    have:=(gy.1 hf).1;simpa using this
   obtain⟨m,g1,g2,_⟩:=k i hi;rw[a7,g1]at hf;cases hf;simpa using g2) k2 (by simp)
 unfold eq;simp only[gb,b1 b,fv];rw[<-Array.forIn_toList];rw[key];simp
theorem C6{T:b0}{u:Nat}{fs:List PV}{g:b5}(p:aD P w ad (.st u fs) g):∀(k:List (PV×PV))(f:List cc)(i:Nat)(r:Option PV),cK P w ad k f->ga P T k (.st u fs)=some r->
 (r=none/\(em T g f i).run P w=.ok none w/\∀x n born,aD P w ad x n->cK P w ad (gA k (.st u fs) x) (f++[{key:=g,val:=n,born}]))\/∃(v:PV)(j:Nat)(e:cc),r=some v/\(em T g f i).run P w=.ok (some (i+j,e.val)) w/\aD P w ad v e.val
 |[],f,i,r,m,h=>by
  simp only[cK]at m;simp[ga]at h;subst m;subst h;refine .inl ⟨rfl,by simp[em],fun x n born hx=>?_⟩;simp only[gA,cK];exact⟨_,[],rfl,p,hx,rfl⟩
 |(y,v')::k,f,i,r,m,h=>by
  simp only[cK]at m;obtain⟨e,rest,rfl,s,t,z⟩:=m;simp only[ga]at h;have q:∀b,qJ P T (.st u fs) y=some b->(Op.equal T g e.key).run P w=.ok b w/\j0 (.st u fs) y=some b:=by
   intro b l;simp only[qJ]at l
   split at l
   ·rename_i a c A hc;cases a<;>cases c<;>simp at l<;>subst l<;>
    ·obtain⟨d,B,hq⟩:=zH T g e.key;rw[hq];exact⟨C9 9 T _ _ _ A _ _ p s _ B,hc⟩
   ·simp at l
  split at h
  ·rename_i o;simp at h;subst h;obtain⟨g1,g2⟩:=q _ o;exact .inr ⟨v',0,e,rfl,by simp[em,g1],t⟩
  ·rename_i o;obtain⟨g1,g2⟩:=q _ o;rcases C6 p k rest (i+1) r z h with⟨rfl,f1,f2⟩|⟨v,j,e',rfl,f1,f3⟩
   ·refine .inl ⟨rfl,by simp[em,g1,f1],fun x n born hx=>?_⟩;simp only[gA,g2];rw[if_neg (by simp)];simp only[cK];exact⟨e,_,rfl,s,t,f2 x n born hx⟩
   ·refine .inr ⟨v,j+1,e',rfl,?_,f3⟩;simp[em,g1,f1];omega
  ·simp at h
theorem DD{T:b0}{bW:Array c6}(c:P.underlying T=some (.struct bW)){b:b5}{a:List cc}{f:Option (Nat×b5)}(h:(em T b a 0).run P w=.ok f w):(eo T b a).run P w=.ok f w:=by
 unfold eo;simp only[gb,b1 c,fv];cases a with
 |nil=>
  simp only[en];simpa[em]using h
 |cons e es=>
  have:en (.struct bW) b (e::es) 0=none:=by simp[en,er]
  rw[this];exact h
theorem CE{T:b0}{key:PV}(h:gB P T key=true)(a:¬nE key):∃u fs bW,key= .st u fs/\P.underlying T=some (.struct bW)/\bW.toList.all (fun f=>f.name != "_" &&uv P f.type)=true/\(gh P 9 T (.st u fs) (.st u fs)).isSome=true:=by
 cases key<;>first
  |exact(a trivial).elim
  |skip
 rename_i u fs;simp only[gB]at h
 split at h
 ·rename_i bW b;rw[bl]at h;exact⟨u,fs,bW,rfl,b,h.1,h.2⟩
 ·cases h
theorem MF{T:b0}{key:PV}{g:b5}(hk:gB P T key=true)(f:aD P w ad key g){b:List (PV×PV)}{a:List cc}{r:Option PV}(l:cK P w ad b a)(h:ga P T b key=some r):
 (∀e,(eq e 10000 T g).run P w=.ok () w)/\
 ((r=none/\(eo T g a).run P w=.ok none w)\/∃(v:PV)(j:Nat)(e:cc),r=some v/\(eo T g a).run P w=.ok (some (j,e.val)) w/\aD P w ad v e.val):=by
 by_cases i:nE key
 ·obtain⟨d,c,o⟩:=I4 hk i f;refine⟨fun e=>run_checkKey c o _ 9999,?_⟩;rcases DC c hk i f b a 0 r l h with⟨rfl,f1⟩|⟨v,j,e,rfl,f1,f2,f3,f4,_⟩
  ·exact .inl ⟨rfl,run_findKey c f1⟩
  ·exact .inr ⟨v,0+j,e,rfl,run_findKey c f1,f3⟩
 ·obtain⟨u,fs,bW,rfl,k,m,n⟩:=CE hk i;refine⟨fun e=>Um k m n f e,?_⟩;rcases C6 f b a 0 r l h with⟨rfl,f1,_⟩|⟨v,j,e,rfl,f1,f3⟩
  ·exact .inl ⟨rfl,DD k f1⟩
  ·exact .inr ⟨v,0+j,e,rfl,DD k f1,f3⟩
theorem Jz{T:b0}{key x:PV}{g i:b5}(d:aD P w ad key g)(hx:aD P w ad x i)(born:Nat):∀(a:List (PV×PV))(c:List cc),nE key->cK P w ad a c->ga P T a key=some none->cK P w ad (gA a key x) (c++[{key:=g,val:=i,born}])
 |[],c,_,b,_=>by
  simp only[cK]at b;subst b;simp only[gA,cK];exact⟨_,[],rfl,d,hx,rfl⟩
 |(n,v')::a,c,f,b,h=>by
  simp only[cK]at b;obtain⟨e,rest,rfl,j,k,l⟩:=b;simp only[ga,Me f]at h
  split at h
  ·simp at h
  ·rename_i m;simp only[gA,m];rw[if_neg (by simp)];simp only[cK];exact⟨e,_,rfl,j,k,Jz (T:=T) d hx born a rest f l h⟩
  ·simp at h
def uO(ok:Bool)(z:PV):Option PV->PV
 |some v=>if ok then .aC [v,.bool true]else v
 |none=>if ok then .aC [z,.bool false]else z
theorem Wf{T:b0}{c E:b0}{x i:b2}{ok:Bool}{key z:PV}{r:Option PV}{k:List (PV×PV)}(C:o.op= .lookup T x i ok)(g:lZ P T=some (c,E))(F:b9 P E=some z)(hk:gB P c key=true)(B:ga P c k key=some r)
 {ρc:b2->b5}(A:aD P w ad key (ρc i))(hx:(ρc x=.map none/\k=[])\/∃b a d,ρc x=.map (some b)/\w.heap[b]?=some (.map a d)/\cK P w ad k a.toList):
 ∃p,(b4 ρc o).run P w=.ok (.value p) w/\aD P w ad (uO ok z r) p:=by
 have m:P.underlying T=some (.map c E):=by
  unfold lZ at g
  split at g
  ·rename_i D;simp at g;rw[D,g.1,g.2]
  ·simp at g
 obtain⟨t,z1,z2⟩:=WN F;obtain⟨a,s,n⟩:∃a:Array cc,((ρc x=.map none/\a=#[])\/∃b d,ρc x=.map (some b)/\w.heap[b]?=some (.map a d))/\cK P w ad k a.toList:=by
  rcases hx with⟨hx,rfl⟩|⟨b,a,d,hx,h,n⟩
  ·exact⟨#[],.inl ⟨hx,rfl⟩,by simp[cK]⟩
  ·exact⟨a,.inr ⟨b,d,hx,h⟩,n⟩
 obtain⟨l,u⟩:=MF hk A n B
 have q:∀(f:Option (Nat×b5))(v:b5)(b:Bool),(eo c (ρc i) a.toList).run P w= .ok f w->(f=none/\v=t/\b=false\/∃j,f=some (j,v)/\b=true)->
  (b4 ρc o).run P w=.ok (.value (if ok then .tuple #[v,.bool b]else v)) w:=by
  intro f v b hf y;simp only[b4,C];refine fp ?_;rcases y with⟨rfl,rfl,rfl⟩|⟨j,rfl,rfl⟩
  ·rcases s with⟨hx,rfl⟩|⟨b,d,hx,h⟩
   ·have hf:(eo c (ρc i) []).run P w=.ok none w:=hf;cases ok<;>simp[eP,b1 m,hx,l,hf,z1]
   ·cases ok<;>simp[eP,b1 m,hx,e7 h,l,hf,z1]
  ·rcases s with⟨hx,rfl⟩|⟨b,d,hx,h⟩
   ·have hf:(eo c (ρc i) []).run P w=.ok (some (j,v)) w:=hf;cases ok<;>simp[eP,b1 m,hx,l,hf]
   ·cases ok<;>simp[eP,b1 m,hx,e7 h,l,hf]
 rcases u with⟨rfl,f1⟩|⟨v,j,e,rfl,f1,f3⟩
 ·refine⟨_,q none t false f1 (.inl ⟨rfl,rfl,rfl⟩),?_⟩;cases ok with
  |true=>simp only[uO,if_true,aD,bK];exact⟨_,⟨_,_,rfl,z2 w ad,_,_,rfl,rfl,rfl⟩,rfl⟩
  |false=>simpa[uO]using z2 w ad
 ·refine⟨_,q _ e.val true f1 (.inr ⟨_,rfl,rfl⟩),?_⟩;cases ok with
  |true=>simp only[uO,if_true,aD,bK];exact⟨_,⟨_,_,rfl,f3,_,_,rfl,rfl,rfl⟩,rfl⟩
  |false=>simpa[uO]using f3
theorem wo{T:b0}{c E:b0}{x g:b2}{ok:Bool}{key z:PV}{r:Option PV}{es:List (PV×PV)}{al:List (Nat×Obj)}(f:o.op= .lookup T x g ok)(n:lZ P T=some (c,E))(u:b9 P E=some z)(hi:ρ g= .p key)(hk:gB P c key=true)(q:ga P c es key=some r)
 (hx:(ρ x=.p .fF/\es=[])\/ρ x=.p (.eB es)\/∃b fz,ρ x=.map b/\(b,.map fz es)∈al):
 bB P o ρ base {v:=.p (uO ok z r),al}:=by
 refine bB.same fun H w ad ah β y t i al=>?_;have a:=(i x (by simp[f,e9])).1;have e:=(i g (by simp[f,e9])).1;rw[hi]at e;simp only[aB]at e;obtain⟨j,c1,c2⟩:=Wf f n u hk q (ρc:=y) (w:=w) (ad:=ad) e (by
  rcases hx with⟨hx,rfl⟩|hx|⟨b,fz,hx,s⟩
  ·rw[hx]at a;simp only[aB,aD]at a;exact .inl ⟨a,rfl⟩
  ·rw[hx]at a;simp only[aB,aD]at a;obtain⟨b,d,clock,_,k,l,m⟩:=a;exact .inr ⟨b,d,clock,m,k,l⟩
  ·rw[hx]at a;simp only[aB,bO,bS]at a;have h:=al _ s;obtain⟨d,clock,k1,k2,_⟩:=t.cM b _ h;exact .inr ⟨_,d,clock,a.2.1 ⟨_,_,h⟩,k1,k2⟩)
 exact⟨j,c1,by simpa only[aB]using c2,by simp[aE]⟩
theorem V8{T:b0}(e:o.op=.makeMap T none):bB P o ρ base {v:=.map base,aP:=[.map false []]}:=by
 intro H w ad ah β i b j _ d;have a:H[base]?=some .hole:=by simpa using d 0 (by simp)
 have g:(b4 i o).run P w=.ok (.value (.map (some w.heap.size))) {w with heap:=w.heap.push (.map #[] 0)}:=by
  simp only[b4,e];exact vQ (by simp[Instr.makeMap])
 have f:=uc (cap:=0) b a (ob:=.map #[] 0) (o':=.map false [])
  ⟨#[],0,by simp[Bd.at],by simp[cK],by
   simp only[cJ,Bd.at,if_true,bv,if_false];exact⟨fun h=>hP _ (b.bQ _ h),fun h=>hP _ (b.eC _ h)⟩⟩ trivial
 refine⟨_,_,_,_,ad,g,.inl rfl,f,?_,?_⟩
 ·simp only[aB,bO,bS,mn];exact⟨rfl,fun _=>by simp[Bd.at],fun⟨L,c⟩=>by rw[g8 (gy.1 a).1]at c;cases c⟩
 ·simp only[aE,mn];exact⟨_,g8 (gy.1 a).1,trivial⟩
theorem LO(f:bV P w ad β H ah){b:Nat}{o o':Obj}(a:H[b]?=some o)(i:o.live)(j:o'.live)(n:∀v,o.has v->o'.has v)(l:∀L,o≠ .loop L){ob:Go.Obj}
 (_hb:β.aq b<w.heap.size)(e:¬ad (β.aq b)/\¬ah (β.aq b))(aM:cz β H β (H.set b o'))
 (p:fG P {w with heap:=w.heap.setIfInBounds (β.aq b) ob} ad β (H.set b o') ah b o')(q:o'.refs (aJ (H.set b o'))):
 bZ P ah ad w β H ad {w with heap:=w.heap.setIfInBounds (β.aq b) ob} β (H.set b o'):=by
 refine bZ.set f (gy.1 a).1 (fun _ _=>⟨rfl,rfl⟩) (fun _ x=>x) (fun _ x=>.inl x) (fun k hk=>by simpa using f.bQ k hk) (by simp)
  (fun k hk _=>?_) (fun _=>.inr ⟨rfl,⟨o,a,i⟩,.inr e.1,e.2⟩) aM p q (fun r v c g=>by rw[a]at c;cases c;exact n v g) (fun L d=>by rw[a]at d;cases d;exact(l L rfl).elim)
 have m:k≠β.aq b:=hk.resolve_right (fun h=>h j);simp[Ne.symm m]
theorem Ja{T t E:b0}{m k x:b2}{b:Nat}{key v:PV}{a:List (PV×PV)}{r:Option PV}(g:o.op= .mapUpdate T m k x\/o.op= .insert T m k x)(z:lZ P T=some (t,E))(ab:ρ m= .map b)(hk:ρ k= .p key)(hx:ρ x= .p v)
 (hf:gB P t key=true)(f:mH P t a key=some r):bB P o ρ base {v:=.p (.aC []),al:=[(b,.map false a)],aL:=[(b,.map false (gA a key v))]}:=by
 have N:P.underlying T=some (.map t E):=by
  unfold lZ at z
  split at z
  ·rename_i O;simp at z;rw[O,z.1,z.2]
  ·simp at z
 intro H w ad ah β c U Q al _;have G:H[b]?=some (.map false a):=by simpa using al
 have M:m∈o.op.operands/\k∈o.op.operands/\x∈o.op.operands:=by
  rcases g with g|g<;>simp[g,e9]
 have l:=(Q m M.1).1;have q:=(Q k M.2.1).1;have B:=(Q x M.2.2).1;rw[ab]at l;rw[hk]at q;rw[hx]at B;simp only[aB,bO,bS]at l q B;have l:=l.2.1 ⟨_,_,G⟩;obtain⟨i,clock,k1,k2,k3⟩:=U.cM b _ G;have S:¬ad (β.aq b)/\¬ah (β.aq b):=by
  unfold cJ at k3;rw[if_neg (by simp)]at k3;exact k3
 have F:ga P t a key=some r:=by
  by_cases s:nE key
  ·rw[<-UT s];exact f
  ·obtain⟨u,fs,bW,rfl,_⟩:=CE hf s;simp only[mH]at f
   split at f
   ·rename_i hq;rw[hq];exact f
   ·cases f
 have K:=(MF hf q k2 F).1 false;have R:β.aq b<w.heap.size:=(aT.1 k1).1;have aM:cz β H β (H.set b (.map false (gA a key v))):=pP G (.inr (.inr (.inl ⟨_,_,_,_,rfl,rfl⟩)))
 have J:∀(y:Array cc)(A:Nat),(ew T (c m) (c k) (c x)).run P w= .ok () {w with heap:=w.heap.setIfInBounds (β.aq b) (.map y A)}->cK P w ad (gA a key v) y.toList->
  ∃n I w' aK aF,(b4 c o).run P w=.ok n w'/\(n=.value I\/n=.skip/\I=undef)/\
  bZ P ah ad w β H aF w' aK (bm H ([(b,.map false (gA a key v))]++newAt base []))/\aB P w' aF aK (bm H ([(b,.map false (gA a key v))]++newAt base [])) (.p (.aC [])) I/\
  aE (aJ (bm H ([(b,.map false (gA a key v))]++newAt base []))) (.p (.aC [])):=by
  intro y A af ac;have X:(b4 c o).run P w=.ok .skip {w with heap:=w.heap.setIfInBounds (β.aq b) (.map y A)}:=by
   rcases g with g|g<;>simp[b4,g,af]
  have ag:∀D,ad D->({w with heap:=w.heap.setIfInBounds (β.aq b) (.map y A)}:cb).heap[D]?=w.heap[D]?:=by
   intro D aa;have:β.aq b≠D:=fun W=>S.1 (W▸aa);simp[this]
  refine⟨_,_,_,β,ad,X,.inr ⟨rfl,rfl⟩,?_,by simp[aB,aD,bK,undef],by simp[aE]⟩;simp only[newAt,hb,bm];exact LO (o':=.map false (gA a key v)) U G trivial trivial (fun _ h=>h) (fun _ h=>by cases h) R S aM ⟨y,A,by simp[R],cK.mono (fun _ x=>x) ag _ _ ac,k3⟩ trivial
 by_cases s:nE key
 case neg=>
  obtain⟨u,fs,bW,rfl,O,_,_⟩:=CE hf s;have ae:r=none:=by
   simp only[mH]at f
   split at f
   ·simpa using f.symm
   ·cases f
  subst ae;rcases C6 q a i.toList 0 none k2 F with⟨_,f1,f2⟩|⟨v',j,e,V,_⟩
  ·have C:=DD O f1;refine J (i.push {key:=c k,val:=c x,born:=clock}) (clock+1) ?_ ?_
   ·rw[l];simp only[ew,gb,b1 N,fv,e7 k1,K,C,run_setObj_map _ k1]
   ·rw[bf];exact f2 v (c x) clock B
  ·cases V
 obtain⟨d,L,Y⟩:=I4 hf s q;rcases DC L hf s q a i.toList 0 r k2 F with⟨rfl,f1⟩|⟨v',j,e,rfl,f1,f2,f3,f4,f5⟩
 ·have C:=run_findKey (w:=w) L f1;refine J (i.push {key:=c k,val:=c x,born:=clock}) (clock+1) ?_ ?_
  ·rw[l];simp only[ew,gb,b1 N,fv,e7 k1,K,C,run_setObj_map _ k1]
  ·rw[bf];exact Jz (T:=t) q B clock a i.toList s k2 F
 ·have C:=run_findKey (w:=w) L f1;have Z:i[j]?=some e:=by simpa using f2
  refine J (i.modify j fun e=>{e with key:=c k,val:=c x}) clock ?_ ?_
  ·rw[l];simp only[ew,gb,b1 N,fv,e7 k1,K,C];simp only[hU,Z,Option.map_some,hW,f4,run_keyThatStays Y,fv,run_setObj_map _ k1]
  ·rw[Array.toList_modify];exact f5 v (c x) B
end
section
variable{P:bw}{w:cb}{ad ah:Nat->Prop}{β:Bd}{H:aj}
variable{o:Oper}{ρ:b2->AV}{base:Nat}
theorem Vc(bs:ByteArray):gP (jv bs)=bs:=by
 unfold gP jv;apply ByteArray.ext;apply a1;simp only[hp];have:(h3∘fun x:UInt8=>x.toNat)=id:=by funext x;simp
 rw[this];simp
theorem Yx{T:b0}{x:b2}{s:List Nat}(d:o.op=.range T x)(hx:ρ x=.p (.str s))(e:ja P T=true):bB P o ρ base {v:=.ptr base [],aP:=[.dG s 0]}:=by
 intro H w ad ah β k b j _ f;have c:H[base]?=some .hole:=by simpa using f 0 (by simp)
 have a:=(j x (by simp[d,e9])).1;rw[hx]at a;simp only[aB,aD]at a;obtain⟨bs,e1,e2⟩:=a;have i:(b4 k o).run P w=.ok (.value (.pointer (some ⟨w.heap.size,0,none⟩))) {w with heap:=w.heap.push (.stringIter bs 0)}:=by
  simp only[b4,d,e1];exact vQ (by simp[Instr.range,b1 (yU e)])
 have g:=uc (cap:=0) b c (ob:=.stringIter bs 0) (o':=.dG s 0)
  ⟨bs,by simp[Bd.at],e2,by
   simp only[cJ,Bd.at,if_true,bv,if_false];exact⟨fun h=>hP _ (b.bQ _ h),fun h=>hP _ (b.eC _ h)⟩⟩ trivial
 refine⟨_,_,_,_,ad,i,.inl rfl,g,?_,?_⟩
 ·simp only[aB,bO,bS,mn];exact⟨rfl,_,_,0,rfl,rfl,fun _=>by simp[Bd.at]⟩
 ·simp only[aE,mn];exact⟨_,g8 (gy.1 c).1,trivial⟩
theorem aKd{it:b2}{b:Nat}{s:List Nat}{pos:Nat}(g:o.op= .next it true)(hx:ρ it= .ptr b []):
 (pos<s.length->bB P o ρ base {v:=.p (.aC [.bool true,.int .i64 pos,.int .i32 (gm (gP s) pos).1]),al:=[(b,.dG s pos)],aL:=[(b,.dG s (pos+(gm (gP s) pos).2))]})/\
 (¬pos<s.length->bB P o ρ base {v:=.p (.aC [.bool false]),al:=[(b,.dG s pos)]}):=by
 have key:∀{H:aj}{w:cb}{ad ah:Nat->Prop}{β:Bd}{e:b2->b5},bV P w ad β H ah->(∀x∈o.op.operands,aB P w ad β H (ρ x) (e x)/\aE (aJ H) (ρ x))->H[b]?=some (.dG s pos)->
  e it=.pointer (some ⟨β.aq b,0,none⟩)/\∃bs:ByteArray,w.heap[β.aq b]?=some (.stringIter bs pos)/\s=jv bs/\(¬ad (β.aq b)/\¬ah (β.aq b)):=by
  intro H w ad ah β e d f a;have c:=(f it (by simp[g,e9])).1;rw[hx]at c;simp only[aB,bO,bS]at c;obtain⟨_,aq,off,t,m,k,n⟩:=c;simp[gI]at k;subst k;obtain⟨rfl,rfl⟩:=n (.inr ⟨_,_,a⟩);obtain⟨bs,k1,k2,k3⟩:=d.cM b _ a;unfold cJ at k3;rw[if_neg (by simp)]at k3;exact⟨m,bs,k1,k2,k3⟩
 constructor
 ·intro i H w ad ah β e d f al _;have a:H[b]?=some (.dG s pos):=by simpa using al
  obtain⟨c,bs,k1,rfl,k3⟩:=key d f a;have j:pos<bs.size:=by simpa[jv]using i
  have l:β.aq b<w.heap.size:=(aT.1 k1).1;rw[Vc];have r:(b4 e o).run P w=.ok (.value (.tuple #[.bool true,goInt pos,.int .i32 (gm bs pos).1])) {w with heap:=w.heap.setIfInBounds (β.aq b) (.stringIter bs (pos+(gm bs pos).2))}:=by
   simp only[b4,g,c];refine vQ ?_;simp[e6,getObj,setObj,ge,k1,fw,j]
  have aM:cz β H β (H.set b (.dG (jv bs) (pos+(gm bs pos).2))):=pP a (.inr (.inr (.inr ⟨_,_,_,rfl,rfl⟩)));have q:=LO (o':=.dG (jv bs) (pos+(gm bs pos).2)) (ob:=.stringIter bs (pos+(gm bs pos).2)) d a trivial trivial (fun _ h=>h) (fun _ h=>by cases h) l k3 aM
   ⟨bs,by simp[l],rfl,by unfold cJ;rw[if_neg (by simp)];exact k3⟩ trivial
  refine⟨_,_,_,β,ad,r,.inl rfl,?_,?_,by simp[aE]⟩
  ·simpa only[newAt,hb,bm]using q
  ·simp only[aB,aD,bK];exact⟨_,⟨_,_,rfl,rfl,_,_,rfl,rfl,_,_,rfl,rfl,rfl⟩,rfl⟩
 ·intro i;refine bB.same fun H w ad ah β e d f al=>?_;have a:H[b]?=some (.dG s pos):=by simpa using al
  obtain⟨c,bs,k1,rfl,k3⟩:=key d f a;have j:¬pos<bs.size:=by simpa[jv]using i
  refine⟨.tuple #[.bool false],?_,by simp only[aB,aD,bK];exact⟨_,⟨_,_,rfl,rfl,rfl⟩,rfl⟩,by simp[aE]⟩;simp only[b4,g,c];refine fp ?_;simp[e6,getObj,ge,k1,fw,j]
theorem Yy{T u:b0}{x:b2}{f:Nat}{fs:Array c6}{t g:PV}{F:b0}(h:o.op= .field T x f)(hk:kindOf P T= .agg u)(b:P.underlying T=some (.struct fs))(hx:ρ x= .p t)(hs:aI t= .agg u)(e:(bW t)[f]?=some g)(m:(jS P u)[f]?=some F)(q:kindOf P F=aI g):
 bB P o ρ base {v:=.p g}:=by
 refine bB.same fun H w ad ah β I C s _=>?_;have a:=(s x (by simp[h,e9])).1;rw[hx]at a;simp only[aB]at a;cases t<;>simp[aI]at hs;rename_i u' k;subst hs;simp only[bW]at e;simp only[aD]at a;obtain⟨l,d,k1,k2,k3⟩:=a;obtain⟨B,D,s1,s2,E,j,G,z⟩:=vS (P:=P) (T:=T) (u:=u') (n:=fs.size) (by unfold eU;rw[hk,b]);rw[b]at s1;cases s1;rw[k1]at j;cases j;have r:bM P w ad ⟨id,id⟩ [] l (k.map .p) d:=oy.2 k2;obtain⟨pre,c,post,e1,e2,e3,e4,e5,_⟩:=uq (f:=.p g) (i:=f) r (by simp[e]);simp only[bu]at e5;obtain⟨A,g1,g2,g3,g4,g5⟩:=z f (by omega);rw[m]at g5;cases g5;obtain⟨y,y1,y2⟩:=wM q e5 (pre:=pre) (post:=post) (cs:=d.flatten.toArray) (by simpa using e1);refine⟨y,?_,by simpa only[aB]using y2,by simp[aE]⟩;simp only[b4,h,k3];refine fp ?_;rw[e2,<-g2]at y1;simp only[Instr.field,gb,b1 b,fv,g1];simp[asAgg,y1]
theorem VO{T u:b0}{n:Nat}{x k:b2}{O:ce}{i:Int}{a:List PV}{g:PV}{F:b0}(j:o.op= .index T x k)(A:iR P T=some (u,n))(hx:ρ x= .p (.st u a))(hi:ρ k= .p (.int O i))
 (z:0<=i)(J:i.toNat<n)(h:(jS P u)[i.toNat]?=some F)(E:a[i.toNat]?=some g)(G:kindOf P F=aI g):bB P o ρ base {v:=.p g}:=by
 refine bB.same fun H w ad ah β R Q t _=>?_;have b:=(t x (by simp[j,e9])).1;have d:=(t k (by simp[j,e9])).1;rw[hx]at b;rw[hi]at d;simp only[aB,aD]at b d;obtain⟨l,m,k1,k2,k3⟩:=b;obtain⟨e,s,hk,r,K⟩:=wu A;rw[k1]at r;cases r;have B:F=e:=by
  obtain⟨D,_,_⟩:=CC hk;have C:(P.info? u).map (fun i:TypeInfo=>i.desc)=some (.array n e):=by rw[D,<-Ck,s]
  unfold jS at h;rw[C]at h;have q:(g0 n e)[i.toNat]?=some F:=h;rw[List.getElem?_replicate,if_pos J]at q;exact(hZ q).symm
 subst B;have L:bM P w ad ⟨id,id⟩ [] (g0 n (P.cellsOf F)) (a.map .p) m:=oy.2 k2;obtain⟨pre,c,post,e1,e2,e3,e4,e5,_⟩:=uq (f:=.p g) (i:=i.toNat) L (by simp[E]);simp only[bu]at e5;obtain⟨y,y1,y2⟩:=wM G e5 (pre:=pre) (post:=post) (cs:=m.flatten.toArray) (by simpa using e1);have M:((g0 n (P.cellsOf F)).take i.toNat).sum=i.toNat*P.cellsOf F:=by rw[List.take_replicate,Nat.min_eq_left (by omega),List.sum_replicate_nat]
 have N:(sizeOf F).run P w=.ok (P.cellsOf F) w:=by
  cases hi:P.info? F with
  |none=>simp[Program.cellsOf,hi]at K
  |some i=>simp[sizeOf,typeInfo,hi,Program.cellsOf]
 refine⟨y,?_,by simpa only[aB]using y2,by simp[aE]⟩;simp only[b4,j,k3,d];refine fp ?_;have I:i<(n:Int):=by omega
 rw[e2,M]at y1;simp only[Instr.index,asIntOf,gb,gc,b1 s,fv];simp[z,I,N,y1]
theorem Jk{k:ce}{f:Bool}{ρc:b2->b5}:∀(l:List b2)(a n:Int),mB k f (l.map ρ) a=some n->(∀x∈l,aB P w ad β H (ρ x) (ρc x))->
 ((l.map ρc).foldlM (if f then dz else dy) (.int k a)).run P w=.ok (.int k n) w
 |[],a,n,h,_=>by simp[mB]at h;subst h;simp
 |x::l,a,n,h,g=>by
  simp only[ha]at h;unfold mB at h
  split at h
  ·rename_i e;cases e
  ·rename_i j b r a' e;simp at e;obtain⟨e1,rfl⟩:=e
   split at h
   case isFalse=>simp at h
   rename_i hk;subst hk;have d:=g x (by simp);rw[e1]at d;simp only[aB,aD]at d;have c:=Jk l _ n h (fun y i=>g y (by simp[i]));simp only[ha,List.foldlM_cons,gb,d];cases f with
   |true=>simp only[if_true,dz,gc,fv]at c⊢;exact c
   |false=>simp only[bv,if_false,dy,gc,fv]at c⊢;exact c
  ·simp at h
theorem KB{c:Call}{isMax:Bool}{k:ce}{a n:Int}{r:List AV}(m:o.op= .call c)(hc:c.callee= .builtin (if isMax then .max else .min))(b:c.args.toList.map ρ= .p (.int k a)::r)(h:mB k isMax r a=some n):
 bB P o ρ base {v:=.p (.int k n)}:=by
 obtain⟨x,l,i⟩:∃x l,c.args.toList=x::l:=by
  cases s:c.args.toList with
  |nil=>rw[s]at b;simp at b
  |cons x l=>exact⟨x,l,rfl⟩
 rw[i]at b;simp at b;obtain⟨hx,rfl⟩:=b;have g:c.args=(x::l).toArray:=by apply a1;simpa using i
 have j:∀y∈x::l,y∈o.op.operands:=by
  intro y f;rw[m];simp only[e9,ej,hc,g];simpa using f
 refine bB.same fun H w ad ah β t u q _=>⟨.int k n,?_,by simp[aB,aD],by simp[aE]⟩
 have d:=(q x (j x (by simp))).1;rw[hx]at d;simp only[aB,aD]at d;have e:=Jk (ρc:=t) l a n h (fun y f=>(q y (j y (by simp[f]))).1);simp only[b4,m,resolve,hc,g];cases isMax with
 |true=>
  simp only[if_true]at e⊢;simp[invoke,builtin,ed,d,e]
 |false=>
  simp only[bv,if_false]at e⊢;simp[invoke,builtin,ec,d,e]
theorem aJ9{c:Call}{d x:b2}{sz b aA off len:Nat}{k:AK}{f g:List AV}{H0:aj}(V:o.op= .call c)(hc:c.callee= .builtin .copy)(Q:c.args.toList=[d,x])(au:c.argTypes.size=2)(t:cG P (c.argTypes.getD 0 0)=some sz)
 (ac:ρ d=.sl b aA sz off len)(hx:iq H0 (ρ x)=some g)(ar:fq P sz g)(hk:k≠.frozen)(G:off+len<=f.length)(C:¬di k f):
 bB P o ρ base {v:=.p (.int .i64 (min g.length len:Nat)),al:=(b,.arr k aA sz f)::dJ H0 (ρ x),aL:=[(b,.arr k aA sz (f.take off++g.take (min g.length len)++f.drop (off+min g.length len)))]}:=by
 obtain⟨T,X,O⟩:∃T X,c.argTypes=#[T,X]:=by
  obtain⟨l,G⟩:∃l,l=c.argTypes.toList:=⟨_,rfl⟩
  have s:l.length=2:=by rw[G];simpa using au
  match l,s with
  |[a,b],_=>exact⟨a,b,by apply a1;simp[<-G]⟩
 have I:d∈o.op.operands/\x∈o.op.operands:=by
  have ab:c.args=#[d,x]:=by apply a1;simpa using Q
  rw[V];simp[e9,ej,hc,ab]
 have e1:c.argTypes.getD 0 0=T:=by rw[O];rfl
 rw[e1]at t;obtain⟨e,i,t⟩:=kS t;intro H w ad ah β aa D M al _;have r:H[b]?=some (.arr k aA sz f):=al (b,_) (by simp);have j:=(M d I.1).1;rw[ac]at j;simp only[aB,bO,bS]at j;obtain⟨_,_,j⟩:=j.2 k f r;have j:=j C;rcases D.cM b _ r with hold|⟨cs,E,aF,rest,k1,k2,k3,k4,k5,k6,k7,k8⟩
 ·exact(C hold).elim
 have S:¬ad (β.aq b)/\¬ah (β.aq b):=by
  unfold cJ at k7;rw[if_neg (by simpa using hk)]at k7;exact k7
 obtain⟨aC,aw,ax,ay,az⟩:=wT (pG hx (fun p an=>al p (List.mem_cons_of_mem _ an))) D (M x I.2).1 (M x I.2).2 ar;obtain⟨n,U⟩:∃n,n=min g.length len:=⟨_,rfl⟩
 rw[<-U];have Z:=az w rfl n (by omega);obtain⟨y,m,z,g1,g2,g3,g4,g5⟩:=kq aw 0 n (by omega);have av:y=[]:=by have:=(gp g4).1;simpa using this
 subst av;have ai:aC.take n=m:=by
  have:=(gp g2).1;rw[g1];simp at this⊢;rw[List.take_left' (by omega)]
 rw[ai]at Z;simp only[hL]at g2;obtain⟨a,N,q,f1,f2,f3,f4,f5⟩:=kq k2 off n (by omega);have J:m.flatten.length=n*sz:=by have:=(gp g2).2;rw[this];congr 1;simp;omega
 have K:N.flatten.length=n*sz:=by have:=(gp f2).2;rw[this];congr 1;simp;omega
 have R:cs.toList=a.flatten++N.flatten++(q.flatten++rest):=by rw[k3,f1];simp
 have Y:cs.size=a.flatten.length+N.flatten.length+(q.flatten++rest).length:=by
  have:=congrArg hD R;simp only[g7,a8]at this;rw[this,g7]
 have L:=cy P (β.aq b) (off*sz) E m.flatten 0 cs w k1 (by rw[Y,f3,J,K];simp only[hQ];exact hS _ _) (xb g2);simp only[hQ]at L;have aP:cs.toList.take (off*sz)++m.flatten++cs.toList.drop (off*sz+m.flatten.length)=a.flatten++m.flatten++(q.flatten++rest):=by
  rw[R,<-f3,J,<-K];exact Cl _ _ _ _
 rw[aP]at L;have ap:(dx c.argTypes o.type #[aa d,aa x]).run P w=.ok (goInt n) (w.setRow (β.aq b) (a.flatten++m.flatten++(q.flatten++rest)).toArray):=by
  rw[O,j];have ak:Nat.min g.length len=n:=U.symm;have aG:∀(p:Option Addr)(n c:Nat),ee (.slice p n c)=pure n:=fun _ _ _=>rfl;simp[dx,b1 t.gR,ay,ak,t.run,Z,L]
 have B:(f.take off++g.take n++f.drop (off+n)).length=f.length:=by simp;omega
 have aM:cz β H β (H.set b (.arr k aA sz (f.take off++g.take n++f.drop (off+n)))):=pP r (.inr (.inl ⟨_,_,_,_,_,rfl,rfl,B.symm⟩));have aq:∀A,ad A->(w.setRow (β.aq b) (a.flatten++m.flatten++(q.flatten++rest)).toArray).heap[A]?=w.heap[A]?:=fun A ag=>da w _ A _ (fun F=>S.1 (F▸ag));have hrefs:aS (aJ H) (f.take off++g.take n++f.drop (off+n)):=by
  have W:=c7.1 (D.refs b _ r);refine kn (kn ?_ ?_) ?_
  ·rw[c7];exact fun v u=>W v (hu u)
  ·rw[c7];exact fun v u=>c7.1 ax v (hu u)
  ·rw[c7];exact fun v u=>W v (hB u)
 have ae:=mF r (o:=.arr k aA sz (f.take off++g.take n++f.drop (off+n))) (fun _ h=>h);have am:¬di k (f.take off++g.take n++f.drop (off+n)):=fun h=>C ⟨h.1,by have s:=h.2;rw[<-hA]at s⊢;rw[B]at s;exact s⟩;have ao:=ri D r C (o':=.arr k aA sz (f.take off++g.take n++f.drop (off+n))) am (fun _ h=>h) k1 (new:=(a.flatten++m.flatten++(q.flatten++rest)).toArray) S aM
  (.inr ⟨_,E,a++m++q,rest,db w _ _ _ E _ k1,by
   refine Row.mono (fun _ x=>x) aq aM hrefs (lR.2 ⟨_,_,rfl,lR.2 ⟨_,_,rfl,f4,g2⟩,f5⟩),by simp,by
   rw[<-k4,Y];simp only[hG,g7,J,K],by rw[B];exact k5,fun F=>by rw[B];exact k6 F,k7,(fun af=>(hk af).elim),k8.2⟩) (aS.mono ae _ hrefs)
 refine⟨_,_,_,β,ad,Xw V hc Q ap,.inl rfl,?_,by simp[aB,aD,goInt],by simp[aE]⟩;simpa only[newAt,hb,bm]using ao
end
section
variable{P:bw}{w:cb}{ad ah:Nat->Prop}{β:Bd}{H:aj}
variable{o:Oper}{ρ:b2->AV}{base:Nat}
theorem Ab{c:Call}{x:b2}(e:o.op=.call c){b:Builtin}(hc:c.callee=.builtin b)(d:c.args.toList=[x]):x∈o.op.operands/\c.args=#[x]:=by
 have a:c.args=#[x]:=by apply a1;simpa using d
 refine⟨?_,a⟩;rw[e];simp only[e9,ej,hc,a];simp
theorem yT{T:b0}{a:AV}(h:iC P T a=true)(hs:(∃b v e i l,a=.sl b v e i l)\/a=.p .aH\/∃f c,a=.p (.cT f c)):∃e,P.underlying T=some (.slice e):=by
 rcases hs with⟨b,v,e,i,l,rfl⟩|rfl|⟨f,c,rfl⟩<;>
 ·simp only[iC]at h
  split at h
  ·rename_i e d;exact⟨e,d⟩
  ·simp at h
theorem aJ8{c:Call}{x:b2}{n:Nat}{al:List (Nat×Obj)}{H0:aj}(y:o.op= .call c)(hc:c.callee= .builtin .cap)(A:c.args.toList=[x])(a:A3 H0 (ρ x)=some (n,al))(m:iC P (c.argTypes.getD 0 0) (ρ x)=true)(F:0<c.argTypes.size):
 bB P o ρ base {v:=.p (.int .i64 n),al}/\(∀p∈al,H0[p.1]?=some p.2):=by
 obtain⟨q,B⟩:=Ab y hc A;have C:c.argTypes[0]?=some (c.argTypes.getD 0 0):=by simp[be,F]
 generalize c.argTypes.getD 0 0=T at*
 have j:∀{H:aj}{w:cb}{ad:Nat->Prop}{β:Bd}{f:b2->b5},(∃p l,f x= .slice p l n)->(∃e,P.underlying T=some (.slice e))->
  ∃s,(b4 f o).run P w=.ok (.value s) w/\aB P w ad β H (.p (.int .i64 n)) s/\aE (aJ H) (.p (.int .i64 n)):=by
  rintro H w ad β f ⟨p,l,hx⟩ ⟨e,G⟩;refine⟨goInt n,?_,by simp[aB,aD,goInt],by simp[aE]⟩;simp only[b4,y,resolve,hc,B];simp[invoke,builtin,ei,C,hx,b1 G]
 unfold A3 at a
 split at a
 ·rename_i hx;simp at a;obtain⟨rfl,rfl⟩:=a;refine⟨bB.same fun H w ad ah β f r g al=>j ?_ (yT m (.inr (.inl hx))),by simp⟩;have d:=(g x q).1;rw[hx]at d;simp only[aB,aD]at d;exact⟨_,_,d⟩
 ·rename_i i hx;simp at a;obtain⟨rfl,rfl⟩:=a;refine⟨bB.same fun H w ad ah β f r g al=>j ?_ (yT m (.inr (.inr ⟨_,_,hx⟩))),by simp⟩;have d:=(g x q).1;rw[hx]at d;simp only[aB,aD]at d;obtain⟨_,_,cap,_,_,_,_,_,z,_,_,_,k⟩:=d;exact⟨_,_,by rw[k,z trivial]⟩
 ·rename_i b aA ai off len hx
  split at a
  case h_2=>simp at a
  rename_i L K i E
  split at a
  case isFalse=>simp at a
  rename_i D;obtain⟨rfl,rfl,hle⟩:=D;simp at a;obtain⟨rfl,rfl⟩:=a;refine⟨bB.same fun H w ad ah β f r g al=>j ?_ (yT m (.inl ⟨_,_,_,_,_,hx⟩)),by simpa using E⟩;have u:H[b]?=some (.arr .exact aA ai i):=by simpa using al
  have d:=(g x q).1;rw[hx]at d;simp only[aB,bO,bS]at d;obtain⟨_,_,k⟩:=d.2 _ _ u;have t:¬di .exact i:=fun h=>by simp[di,AK.gr]at h
  rcases r.cM b _ u with hold|⟨cs,I,J,rest,k1,k2,k3,k4,k5,k6,_⟩
  ·exact(t hold).elim
  exact⟨_,_,by rw[k t,k6 rfl]⟩
 ·simp at a
theorem UC{c:Call}{x:b2}(b:o.op= .call c)(hc:c.callee= .builtin .clear)(f:c.args.toList=[x])(hx:ρ x= .p .aH)(d:iC P (c.argTypes.getD 0 0) (ρ x)=true)(j:0<c.argTypes.size):
 bB P o ρ base {v:=.p (.aC [])}:=by
 obtain⟨i,g⟩:=Ab b hc f;have h:c.argTypes[0]?=some (c.argTypes.getD 0 0):=by simp[be,j]
 generalize c.argTypes.getD 0 0=T at*;obtain⟨e,k⟩:=yT d (.inr (.inl hx));refine bB.same fun H w ad ah β n m l al=>?_;have a:=(l x i).1;rw[hx]at a;simp only[aB,aD]at a;refine⟨.tuple #[],?_,by simp[aB,aD,bK],by simp[aE]⟩;simp only[b4,b,resolve,hc,g];simp[invoke,builtin,dp,h,a,b1 k]
theorem Yz{c:Call}{x:b2}{sz b aA off len:Nat}{k:AK}{d:List AV}{z:PV}(M:o.op= .call c)(hc:c.callee= .builtin .clear)(V:c.args.toList=[x])(aj:0<c.argTypes.size)(l:cG P (c.argTypes.getD 0 0)=some sz)
 (ak:b9 P (eE P (c.argTypes.getD 0 0))=some z)(ar:bG P (aI z)=sz)(hx:ρ x=.sl b aA sz off len)(hk:k≠.frozen)(ab:off+len<=d.length)(t:¬di k d)(aq:0<len):
 bB P o ρ base {v:=.p (.aC []),al:=[(b,.arr k aA sz d)],aL:=[(b,.arr k aA sz (d.take off++g0 len (.p z)++d.drop (off+len)))]}:=by
 obtain⟨ac,W⟩:=Ab M hc V;have X:c.argTypes[0]?=some (c.argTypes.getD 0 0):=by simp[be,aj]
 obtain⟨e,i,l⟩:=kS l;obtain⟨au,r,z1,z2,z3,z4⟩:=rk ak;rw[l.qS]at z1;intro H w ad ah β U D ao al _;have j:H[b]?=some (.arr k aA sz d):=al (b,_) (by simp);have g:=(ao x ac).1;rw[hx]at g;simp only[aB,bO,bS]at g;obtain⟨_,_,g⟩:=g.2 k d j;have g:=g t;rcases D.cM b _ j with hold|⟨cs,u,ap,rest,k1,k2,k3,k4,k5,k6,k7,k8⟩
 ·exact(t hold).elim
 have K:¬ad (β.aq b)/\¬ah (β.aq b):=by
  unfold cJ at k7;rw[if_neg (by simpa using hk)]at k7;exact k7
 have Q:=z3 w ad;have R:r.cells.size=sz:=by have:=(pO Q).1;simp at this;omega
 have an:r.cells.toList.length=sz:=by simpa using R
 have E:=yO (β:=β) (H:=H) Q len;rw[an]at E;obtain⟨m,L⟩:∃m,m=g0 len r.cells.toList:=⟨_,rfl⟩
 rw[<-L]at E;have F:Row P w ad β H sz (g0 len (.p z)) m:=by
  exact E
 obtain⟨a,I,f,f1,f2,f3,f4,f5⟩:=kq k2 off len ab;have B:m.flatten.length=len*sz:=by have:=(gp F).2;rw[this];simp
 have C:I.flatten.length=len*sz:=by have:=(gp f2).2;rw[this];congr 1;simp;omega
 have J:cs.toList=a.flatten++I.flatten++(f.flatten++rest):=by rw[k3,f1];simp
 have O:cs.size=a.flatten.length+I.flatten.length+(f.flatten++rest).length:=by
  have:=congrArg hD J;simp only[g7,a8]at this;rw[this,g7]
 have G:=cy P (β.aq b) (off*sz) u m.flatten 0 cs w k1 (by rw[O,f3,B,C];simp only[hQ];exact hS _ _) (xb F);simp only[hQ]at G;have aP:cs.toList.take (off*sz)++m.flatten++cs.toList.drop (off*sz+m.flatten.length)=a.flatten++m.flatten++(f.flatten++rest):=by
  rw[J,<-f3,B,<-C];exact Cl _ _ _ _
 rw[aP]at G;have am:(ea r.cells len).toList=m.flatten:=by
  have:=Cr r.cells len (by rw[R];exact l.pos);rw[L,<-this];rfl
 have ag:(b4 U o).run P w=.ok (.value (.tuple #[])) (w.setRow (β.aq b) (a.flatten++m.flatten++(f.flatten++rest)).toArray):=by
  obtain⟨S,rfl⟩:∃S,len=S+1:=⟨len-1,by omega⟩
  simp only[b4,M,resolve,hc,W];generalize c.argTypes.getD 0 0=T at*;simp only[gb,gc,fv,invoke,builtin,hn,ha,hg];have key:(dp c.argTypes o.type #[U x]).run P w=.ok (.tuple #[]) (w.setRow (β.aq b) (a.flatten++m.flatten++(f.flatten++rest)).toArray):=by
   simp[dp,X,g,b1 l.gR,ua z1 z2,am,G]
  rw[key];rfl
 have s:(d.take off++g0 len (AV.p z)++d.drop (off+len)).length=d.length:=by simp;omega
 have aM:cz β H β (H.set b (.arr k aA sz (d.take off++g0 len (.p z)++d.drop (off+len)))):=pP j (.inr (.inl ⟨_,_,_,_,_,rfl,rfl,s.symm⟩));have ai:∀q,ad q->(w.setRow (β.aq b) (a.flatten++m.flatten++(f.flatten++rest)).toArray).heap[q]?=w.heap[q]?:=fun q aa=>da w _ q _ (fun A=>K.1 (A▸aa));have hrefs:aS (aJ H) (d.take off++g0 len (AV.p z)++d.drop (off+len)):=by
  have N:=c7.1 (D.refs b _ j);refine kn (kn ?_ ?_) ?_
  ·rw[c7];exact fun v n=>N v (hu n)
  ·rw[c7];intro v n;rw[List.eq_of_mem_replicate n];simp[aE]
  ·rw[c7];exact fun v n=>N v (hB n)
 have Y:=mF j (o:=.arr k aA sz (d.take off++g0 len (.p z)++d.drop (off+len))) (fun _ h=>h);have ae:¬di k (d.take off++g0 len (AV.p z)++d.drop (off+len)):=fun h=>t ⟨h.1,by have y:=h.2;rw[<-hA]at y⊢;rw[s]at y;exact y⟩;have af:=ri D j t (o':=.arr k aA sz (d.take off++g0 len (AV.p z)++d.drop (off+len))) ae (fun _ h=>h) k1 (new:=(a.flatten++m.flatten++(f.flatten++rest)).toArray) K aM
  (.inr ⟨_,u,a++m++f,rest,db w _ _ _ u _ k1,by
   refine Row.mono (fun _ x=>x) ai aM hrefs (lR.2 ⟨_,_,rfl,lR.2 ⟨_,_,rfl,f4,F⟩,f5⟩),by simp,by
   rw[<-k4,O];simp only[hG,g7,B,C],by rw[s];exact k5,fun A=>by rw[s];exact k6 A,k7,(fun Z=>(hk Z).elim),k8.2⟩) (aS.mono Y _ hrefs)
 refine⟨_,_,_,β,ad,ag,.inl rfl,?_,by simp[aB,aD,bK],by simp[aE]⟩;simpa only[newAt,hb,bm]using af
theorem Cp{c:Call}{x:b2}{v:AV}{al:List (Nat×Obj)}{H0:aj}(l:o.op= .call c)(hc:c.callee= .builtin .unsafeSliceData)(n:c.args.toList=[x])
 (h:(ρ x=.p .aH/\v=.p .dR/\al=[])\/∃b aA ai off len k a,ρ x=.sl b aA ai off len/\H0[b]?=some (.arr k aA ai a)/\al=[(b,.arr k aA ai a)]/\((di k a/\v=.p .dR)\/(0<len/\off+len<=a.length/\v=.b7 b aA ai off []))):
 bB P o ρ base {v,al}:=by
 obtain⟨s,q⟩:=Ab l hc n;refine bB.same fun H w ad ah β m t y r=>?_;obtain⟨d,i⟩:=y x s;have g:∀f,(eb c.argTypes o.type #[m x]).run P w=.ok f w->(b4 m o).run P w=.ok (.value f) w:=by
  intro f u;simp only[b4,l,resolve,hc,q];simp only[gb,gc,fv,invoke,builtin,hn,ha,hg];rw[u];rfl
 rcases h with⟨hx,rfl,rfl⟩|⟨b,aA,ai,off,len,k,a,hx,D,rfl,h⟩
 ·rw[hx]at d;simp only[aB,aD]at d;exact⟨_,g _ (by rw[d];exact Lib.run_unsafeSliceData_nil w _ _ _ _),by simp[aB,aD],by simp[aE]⟩
 ·have j:H[b]?=some (.arr k aA ai a):=by simpa using r
  rw[hx]at d i;simp only[aB,bO,bS]at d;obtain⟨_,v2,v3⟩:=d.2 k a j;rcases h with⟨e,rfl⟩|⟨E,hle,rfl⟩
  ·exact⟨_,g _ (by rw[v2 e];exact Lib.run_unsafeSliceData_nil w _ _ _ _),by simp[aB,aD],by simp[aE]⟩
  ·have e:¬di k a:=fun h=>by rw[h.2]at hle;simp at hle;omega
   rcases t.cM b _ j with hold|⟨cs,z,A,rest,k1,k2,k3,k4,k5,_⟩
   ·exact(e hold).elim
   refine⟨_,g _ (by rw[v3 e];exact Lib.run_unsafeSliceData_row w _ _ _ _ _ (by omega)),?_,by simpa only[aE]using i⟩;simp only[aB,bO,bS];refine⟨by simp[Value.oneCell'],β.aq b,off*ai,0,by simp,rfl,fun F B C _=>⟨rfl,by simp⟩⟩
theorem XR(w:cb)(a:Addr)(n:Nat):(w.freeze a n).os=w.os/\(w.freeze a n).output=w.output:=by
 unfold gt
 first|exact⟨rfl,rfl⟩|(split<;>exact⟨rfl,rfl⟩)
theorem XK{w':cb}(j:bV P w ad β H ah){b:Nat}{o:Obj}(i:H[b]?=some o)(u:o.live)(g:¬ad (β.aq b)/\¬ah (β.aq b))(B:∀L,o≠ .loop L)(C:w'.heap.size=w.heap.size)
 (hs:∀k,k≠β.aq b->w'.heap[k]?=w.heap[k]?)(A:w'.os=w.os/\w'.output=w.output:=by exact⟨rfl,rfl⟩):bZ P ah ad w β H ad w' β (H.set b .dead):=by
 have n:b<H.length:=(gy.1 i).1;have c:∀(x:Nat)(a:Obj),(H.set b Obj.dead)[x]?=some a->a≠.dead->H[x]?=some a:=by
  intro x a hx p
  by_cases l:b=x
  ·subst l;rw[g8 n]at hx;cases hx;exact(p rfl).elim
  ·rwa [hv l]at hx
 have aM:cz β H β (H.set b .dead):=by
  refine⟨?_,?_,?_,?_,?_⟩
  ·rintro x _ ⟨f,t,h⟩;exact⟨⟨f,t,c _ _ h (by simp)⟩,rfl⟩
  ·rintro x _ ⟨f,t,h⟩;exact⟨⟨f,t,c _ _ h (by simp)⟩,rfl⟩
  ·rintro x _ ⟨f,t,h⟩;exact⟨⟨f,t,c _ _ h (by simp)⟩,rfl⟩
  ·intro x aA ai k v _ h;exact⟨k,v,c _ _ h (by simp),hN _,Iff.rfl,fun _=>⟨rfl,rfl⟩⟩
  ·rintro x _ ⟨L,h⟩;exact⟨⟨L,c _ _ h (by simp)⟩,rfl⟩
 have m:bZ P ah ad w β H ad w β (H.set b .dead):=
  bZ.set j n (fun _ _=>⟨rfl,rfl⟩) (fun _ x=>x) (fun _ x=>.inl x) j.bQ (hN _) (fun _ _ _=>rfl) (fun h=>h.elim) aM trivial trivial (fun _ _ _ _=>trivial) (fun L r=>by rw[i]at r;cases r;exact(B L rfl).elim)
 have hx:=j.ny i u;have y:=m.rel.Lu hx (fun x a q d s=>by
  have p:a≠.dead:=fun e=>by rw[e]at d;exact d
  have l:x=b:=j.inj x b a o (c _ _ q p) i d u (fun hi=>g.1 (s▸hi)) s;subst l;rw[g8 n]at q;cases q;exact d)
 have z:=y.shut (w':=w') (Prot0:=ah) (fun _ h=>.inl h) (R:=fun k=>k=β.aq b) (fun x e=>⟨.inr e,e▸g.1⟩) C (fun k hk=>hs k hk);refine⟨fun _ h=>h,fun _ h=>.inl h,⟨by omega,fun k hk=>hs k (fun e=>?_),A⟩,aM,z,m.fy,m.loop⟩;rcases hk with hk|hk
 ·exact g.2 (e▸hk)
 ·exact g.1 (e▸hk)
theorem C0:∀{d:List AV}{l:List Nat}{b:List (List b5)},bytesOf d=some l->Row P w ad β H 1 d b->b.flatten=l.map (fun c=>Value.int .u8 (c:Nat))/\l.length=d.length/\∀c∈l,c<256
 |[],l,b,h,a=>by
  simp[bytesOf]at h;subst h;rw[iN]at a;subst a;simp
 |v::d,l,b,h,a=>by
  unfold bytesOf at h
  split at h
  ·rename_i e;cases e
  ·rename_i c r e;simp at e;obtain⟨rfl,rfl⟩:=e
   split at h
   case isFalse=>simp at h
   rename_i hc
   split at h
   case h_2=>simp at h
   rename_i m i;simp at h;subst h;rw[rA]at a;obtain⟨j,cs,rfl,f,k,g⟩:=a;obtain⟨i1,i2,i3⟩:=C0 i g;simp only[bu,aU]at f;subst f;refine⟨by simp[i1];omega,by simp[i2],?_⟩;intro x hx;rcases hd.1 hx with rfl|hx
   ·omega
   ·exact i3 x hx
  ·simp at h
theorem UP{S D e:b0}{x:b2}{b aA off len:Nat}{k:AK}{d:List AV}{l:List Nat}(r:o.op= .convert S D x)(B:P.underlying S=some (.slice e))(y:P.underlying D=some .string)(A:P.underlying e=some (.int .u8))(hx:ρ x= .sl b aA 1 off len)
 (M:0<len)(j:off+len<=d.length)(E:bytesOf ((d.drop off).take len)=some l):bB P o ρ base {v:=.p (.str l),al:=[(b,.arr k aA 1 d)]}:=by
 refine bB.same fun H w ad ah β N G J al=>?_;have q:H[b]?=some (.arr k aA 1 d):=by simpa using al
 have f:=(J x (by simp[r,e9])).1;rw[hx]at f;simp only[aB,bO,bS]at f;have n:¬di k d:=fun h=>by rw[h.2]at j;simp at j;omega
 have f:=(f.2 _ _ q).2.2 n;rcases G.cM b _ q with hold|⟨cs,K,L,rest,k1,k2,k3,k4,k5,k6,k7,k8⟩
 ·exact(n hold).elim
 obtain⟨a,m,z,g1,g2,g3,g4,g5⟩:=kq k2 off len j;obtain⟨s,t,u⟩:=C0 E g2;have F:l.length=len:=by rw[t];simp;omega
 have C:cs.toList=a.flatten++(l.map (fun c=>Value.int .u8 (c:Nat))++(z.flatten++rest)):=by
  rw[k3,g1];simp only[hF,hz,s]
 have I:=run_convert_bytes_arg (P:=P) w S e B A (β.aq b) (off*1) len (β.cap b-off) (l.map fun c:Nat=>(c:Int)) (by simpa using F) (fun i hi=>by
  have g:i<l.length:=by omega
  have:cs[off*1+i]?=some (.int .u8 (l[i]:Nat)):=by
   rw[<-a7,C,List.getElem?_append_right (by omega),g3,Nat.add_sub_cancel_left,hm (by simpa using g),hy,g9 g];rfl
  rw[List.getD_eq_getElem?_getD,hy,g9 g];simp only[gx,k1];simpa using this) D y
 refine⟨.string (strOfNums (l.map fun c:Nat=>(c:Int))),?_,?_,by simp[aE]⟩
 ·simp only[b4,r,f];exact fp I
 ·simp only[aB,aD];refine⟨_,rfl,?_⟩;rw[strOfNums_data,hp,hp]
  conv=>lhs;rw[<-hM l]
  refine hw fun c hc=>?_;have:=u c hc;simp[h2];omega
theorem Ue{c:Call}{x y:b2}{b aA n:Nat}{d:List AV}{l:List Nat}{T X:b0}(F:o.op= .call c)(hc:c.callee= .builtin .unsafeString)(N:c.args.toList=[x,y])(ab:c.argTypes=#[T,X])(hx:ρ x= .b7 b aA 1 0 [])(ae:ρ y= .p (.int .i64 n))
 (ai:0<n)(C:n<=d.length)(aj:n<=9223372036854775807)(M:P.underlying T=some (.pointer Gl.u8))(ac:P.cellsOf Gl.u8=1)(W:bytesOf (d.take n)=some l):
 bB P o ρ base {v:=.p (.str l),al:=[(b,.arr .bytes aA 1 d)],aL:=[(b,.dead)]}:=by
 have s:c.args=#[x,y]:=by apply a1;simpa using N
 have D:x∈o.op.operands/\y∈o.op.operands:=by
  rw[F];simp[e9,ej,hc,s]
 intro H w ad ah β r G I al _;have q:H[b]?=some (.arr .bytes aA 1 d):=by simpa using al
 have e:=(I x D.1).1;have f:=(I y D.2).1;rw[hx]at e;rw[ae]at f;simp only[aB,bO,bS,aD]at e f;have i:¬di .bytes d:=fun h=>by rw[h.2]at C;simp at C;omega
 obtain⟨_,aq,off,ak,Y,E,e⟩:=e;simp[gI]at E;subst E;obtain⟨rfl,rfl⟩:=e _ _ q i;rcases G.cM b _ q with hold|⟨cs,af,ag,rest,k1,k2,k3,k4,k5,k6,k7,k8⟩
 ·exact(i hold).elim
 obtain rfl:=k8.2 rfl;have U:¬ad (β.aq b)/\¬ah (β.aq b):=by
  unfold cJ at k7;rw[if_neg (by simp)]at k7;exact k7
 obtain⟨a,m,z,g1,g2,g3,g4,g5⟩:=kq k2 0 n (by omega);have O:a=[]:=by have:=(gp g4).1;simpa using this
 subst O;rw[hL]at g2;obtain⟨J,K,L⟩:=C0 W g2;obtain⟨bs,u⟩:∃bs:List UInt8,bs=l.map h3:=⟨_,rfl⟩
 have g:bs.length=n:=by rw[u];simp[K];omega
 have t:bs.map (·.toNat)=l:=by
  rw[u,hp]
  conv=>rhs;rw[<-hM l]
  refine hw fun c hc=>?_;have:=L c hc;simp[h2];omega
 have A:cs.toList=bs.map (fun c=>Value.int .u8 c.toNat)++(z.flatten++rest):=by
  rw[k3,g1];simp only[List.nil_append,hF,hz,J];congr 1;rw[<-t,hp];rfl
 have aa:=Lib.run_unsafeString_row (P:=P) w T X o.type Gl.u8 M ac (β.aq b) cs.size (by simp[World.shape?,k1]) bs (fun h=>by rw[h]at g;simp at g;omega) (by
  have:=congrArg hD A;simp only[a8,g7,List.length_map]at this;omega) (by omega) (fun j v B=>by
  have V:j<bs.length:=(gy.1 B).1;rw[kX];have:cs[j]?=some (.int .u8 v.toNat):=by
   rw[<-a7,A,hm (by simpa using V),hy,B];rfl
  simp[gx,k1,this])
 have Q:(b4 r o).run P w=.ok (.value (.string ⟨bs.toArray⟩)) (w.freeze ⟨β.aq b,0,none⟩ bs.length):=by
  simp only[b4,F,resolve,hc,s];simp only[gb,gc,fv,invoke,builtin,hn,ha,hg];have key:(dq c.argTypes o.type #[r x,r y]).run P w=.ok (.string ⟨bs.toArray⟩) (w.freeze ⟨β.aq b,0,none⟩ bs.length):=by
   rw[ab,Y,f,<-g];simpa using aa
  rw[key];rfl
 have S:∀k,k≠β.aq b->(w.freeze ⟨β.aq b,0,none⟩ bs.length).heap[k]?=w.heap[k]?:=by
  intro k hk;unfold gt
  split
  ·rfl
  ·simp[Array.getElem?_modify,Ne.symm hk]
 have R:(w.freeze ⟨β.aq b,0,none⟩ bs.length).heap.size=w.heap.size:=by
  unfold gt
  split<;>simp
 have Z:=XK G q i U (fun _ h=>by cases h) R S (XR _ _ _);refine⟨_,_,_,β,ad,Q,.inl rfl,?_,?_,by simp[aE]⟩
 ·simpa only[newAt,hb,bm]using Z
 ·simp only[aB,aD];exact⟨_,rfl,by simpa using t.symm⟩
theorem Ub{c:Call}{x y:b2}{T X:b0}(f:o.op= .call c)(hc:c.callee= .builtin .unsafeString)(i:c.args.toList=[x,y])(j:c.argTypes=#[T,X])(hx:ρ x= .p .dR)(k:ρ y= .p (.int .i64 0)):
 bB P o ρ base {v:=.p (.str [])}:=by
 have d:c.args=#[x,y]:=by apply a1;simpa using i
 have e:x∈o.op.operands/\y∈o.op.operands:=by
  rw[f];simp[e9,ej,hc,d]
 refine bB.same fun H w ad ah β h l g al=>?_;have a:=(g x e.1).1;have b:=(g y e.2).1;rw[hx]at a;rw[k]at b;simp only[aB,aD]at a b;refine⟨.string .empty,?_,by simp only[aB,aD];exact⟨_,rfl,rfl⟩,by simp[aE]⟩;simp only[b4,f,resolve,hc,d];simp only[gb,gc,fv,invoke,builtin,hn,ha,hg];have key:(dq c.argTypes o.type #[h x,h y]).run P w=.ok (.string .empty) w:=by
  rw[j,a,b];exact Lib.run_unsafeString_none w _ _ _ _
 rw[key];rfl
end
section
variable{P:bw}
theorem Ek{c:Call}{ρ:b2->AV}{x:AV}(a:c.args.toList.map ρ=[x]):∃y,c.args.toList=[y]/\ρ y=x:=by
 match b:c.args.toList with
 |[]=>rw[b]at a;simp at a
 |[y]=>rw[b]at a;simp at a;exact⟨y,rfl,a⟩
 |_::_::_=>rw[b]at a;simp at a
theorem Ks{c:Call}(h:c.argTypes.size=2):∃T X,c.argTypes=#[T,X]:=by
 obtain⟨l,d⟩:∃l,l=c.argTypes.toList:=⟨_,rfl⟩
 have e:l.length=2:=by rw[d];simpa using h
 match l,e with
 |[a,b],_=>exact⟨a,b,by apply a1;simp[<-d]⟩
theorem pJ(ag:b3->Bool):mr P ag:=by
 intro o ρ H K _ h;unfold fT at h;have plain:∀{e:aR},K e->bB P o ρ H.length e->e.al=[]->e.aL=[]->∃e,K e/\bB P o ρ H.length e/\(∀p∈e.al,H[p.1]?=some p.2)/\(∀p∈e.aL,p.1<H.length/\p.2≠.hole):=by
  intro e w A B I;exact⟨e,w,A,by simp[B],by simp[I]⟩
 cases q:o.op<;>simp only[q]at h
 case move x=>exact plain h (RX (.inl q)) rfl rfl
 case assign x=>exact plain h (RX (.inr q)) rfl rfl
 case pick c a b=>
  split at h
  ·rename_i t hc;exact plain h (aKe q hc) rfl rfl
  ·exact h.elim
 case alloc T=>
  split at h
  ·rename_i z M;exact plain h.2.2.2 (YC q M h.2.2.1) rfl rfl
  ·exact h.elim
 case box T x=>exact plain h.2.2.2 (aJ7 q h.2.1 h.2.2.1) rfl rfl
 case build T parts=>
  split at h
  ·rename_i u z hk M
   split at h
   ·rename_i l G;obtain⟨w,A,B⟩:=h;exact plain B (YA q hk M G w A) rfl rfl
   ·exact h.elim
  ·exact h.elim
 case buildSlice T n parts=>
  split at h
  ·rename_i sz z U M;obtain⟨w,A,B,I⟩:=h;exact plain I (UD q U M w A B) rfl rfl
  ·exact h.elim
 case load T a=>exact aKc q h
 case store T a x=>exact Zd q h
 case binOp b T x y aC=>
  obtain⟨v,w,A⟩:=aJ6 (base:=H.length) q h;exact⟨_,w,A,n6,by simp⟩
 case unOp u T x=>
  split at h
  ·rename_i b hx;exact plain h (Fs q hx (.inl ⟨rfl,_,rfl,rfl⟩)) rfl rfl
  ·rename_i k n hx;exact plain h (Fs q hx (.inr (.inl ⟨rfl,_,_,rfl,rfl⟩))) rfl rfl
  ·rename_i k n hx;exact plain h (Fs q hx (.inr (.inr ⟨rfl,_,_,rfl,rfl⟩))) rfl rfl
  ·exact h.elim
 case convert S D x=>
  split at h
  ·rename_i d k k0 n Z Y hx;exact plain h (Wa q ⟨_,Z⟩ Y hx) rfl rfl
  ·rename_i d s Z Y hx;exact plain h (V9 q ⟨_,Z⟩ Y hx) rfl rfl
  ·rename_i e b aA ai off len Z Y hx
   split at h
   case h_2=>exact h.elim
   rename_i k ae ac R C;obtain⟨rfl,rfl,rfl,U,af,hle,h⟩:=h
   split at h
   case h_2=>exact h.elim
   rename_i l G;exact⟨_,h,UP q Z Y U hx af hle G,by simpa using C,by simp⟩
  ·exact h.elim
 case extract t i=>
  split at h
  ·rename_i vs an
   split at h
   ·rename_i v ao;exact plain h (Kj q (.inr ⟨_,an,rfl⟩) (by simp[ao])) rfl rfl
   ·exact h.elim
  ·rename_i vs an
   split at h
   ·rename_i v ao;exact plain h (Kj q (.inl an) ao) rfl rfl
   ·exact h.elim
  ·exact h.elim
 case fieldAddr T a f=>
  obtain⟨e,w,A,B,I⟩:=UO (base:=H.length) q h;exact plain w A B I
 case indexAddr T x i=>
  obtain⟨e,w,A,B,I⟩:=UN (base:=H.length) q h;exact⟨e,w,A,B,by simp[I]⟩
 case field T x f=>
  split at h
  ·rename_i u fs t hk aw hx;obtain⟨w,h⟩:=h
   split at h
   ·rename_i g F ak ah;exact plain h.2 (Yy q hk aw hx w ak ah h.1) rfl rfl
   ·exact h.elim
  ·exact h.elim
 case index T x i=>
  split at h
  ·rename_i s k n hx hi;obtain⟨w,A,B,I⟩:=h;exact plain I (VN q hx hi w A B) rfl rfl
  ·rename_i u R k n hx hi
   split at h
   ·rename_i u' m F g N ah ak;obtain⟨rfl,af,aa,hk,h⟩:=h;exact plain h (VO q N hx hi af aa ah ak hk) rfl rfl
   ·exact h.elim
  ·exact h.elim
 case makeFunc fn fi ca=>
  cases fn<;>simp only at h
  case func f=>
   obtain⟨m1,m2,m3⟩:=VM (ρ:=ρ) (base:=H.length) q
   split at h
   ·split at h
    ·rename_i a b al aL j aj;obtain⟨q1,ab,aB⟩:=m3 H a b al aL j aj;exact⟨_,h,q1,ab,aB⟩
    ·exact h.elim
   ·split at h
    ·rename_i a b j aj;exact plain h (m1 a b j aj) rfl rfl
    ·exact plain h m2 rfl rfl
 case makeSlice T l c=>
  split at h
  ·rename_i sz z aD c' U M G hc;obtain⟨w,A,rfl,I,O⟩:=h;exact plain O (UM q U M G hc w A I) rfl rfl
  ·exact h.elim
 case slice T x lo hi ax=>
  cases ax with
  |none=>
   obtain⟨e,w,A,B,I⟩:=Yw (base:=H.length) q h;exact⟨e,w,A,B,by simp[I]⟩
  |some m=>
   obtain⟨e,w,A,B,I⟩:=Xj (base:=H.length) q h;exact⟨e,w,A,B,by simp[I]⟩
 case makeMap T r=>
  cases r<;>simp only at h;exact plain h (V8 q) rfl rfl
 case lookup T x i ok=>
  split at h
  case h_2=>exact h.elim
  rename_i ap E key N hi
  split at h
  case h_2=>exact h.elim
  rename_i z M;obtain⟨hk,h⟩:=h
  split at h
  ·rename_i hx;exact plain h (wo (r:=none) (es:=[]) q N M hi hk rfl (.inl ⟨hx,rfl⟩)) rfl rfl
  ·rename_i R hx
   split at h
   ·rename_i v G;exact plain h (wo (r:=some v) q N M hi hk G (.inr (.inl hx))) rfl rfl
   ·rename_i G;exact plain h (wo (r:=none) q N M hi hk G (.inr (.inl hx))) rfl rfl
   ·exact h.elim
  ·rename_i b hx
   split at h
   case h_2=>exact h.elim
   rename_i fz R C
   split at h
   ·rename_i v G;exact⟨_,h,wo (r:=some v) q N M hi hk G (.inr (.inr ⟨b,fz,hx,by simp⟩)),by simpa using C,by simp⟩
   ·rename_i G;exact⟨_,h,wo (r:=none) q N M hi hk G (.inr (.inr ⟨b,fz,hx,by simp⟩)),by simpa using C,by simp⟩
   ·exact h.elim
  ·exact h.elim
 case mapUpdate T m k x=>
  split at h
  case h_2=>exact h.elim
  rename_i ap E b key v N am hk hx;obtain⟨hf,h⟩:=h
  split at h
  case h_2=>exact h.elim
  rename_i R C
  split at h
  case h_2=>exact h.elim
  rename_i r G;exact⟨_,h,Ja (.inl q) N am hk hx hf G,by simpa using C,by simpa using(gy.1 C).1⟩
 case insert T m k x=>
  split at h
  case h_2=>exact h.elim
  rename_i ap E b key v N am hk hx;obtain⟨hf,h⟩:=h
  split at h
  case h_2=>exact h.elim
  rename_i R C
  split at h
  case h_2=>exact h.elim
  rename_i r G;exact⟨_,h,Ja (.inr q) N am hk hx hf G,by simpa using C,by simpa using(gy.1 C).1⟩
 case range T x=>
  split at h
  ·rename_i s hx;exact plain h.2 (Yx q hx h.1) rfl rfl
  ·exact h.elim
 case next it isStr=>
  cases isStr<;>simp only at h
  split at h
  case h_2=>exact h.elim
  rename_i b hx
  split at h
  case h_2=>exact h.elim
  rename_i s pos C;obtain⟨ay,az⟩:=aKd (P:=P) (base:=H.length) (s:=s) (pos:=pos) q hx
  split at h
  ·rename_i V;exact⟨_,h,ay V,by simpa using C,by simpa using(gy.1 C).1⟩
  ·rename_i V;exact⟨_,h,az V,by simpa using C,by simp⟩
 case nilCheck x=>
  split at h
  ·rename_i b p hx;exact plain h (Cn q (.inl ⟨b,p,hx⟩)) rfl rfl
  ·rename_i b v e i p hx;exact plain h (Cn q (.inr (.inl ⟨b,v,e,i,p,hx⟩))) rfl rfl
  ·rename_i t hx;exact plain h (Cn q (.inr (.inr ⟨t,hx⟩))) rfl rfl
  ·exact h.elim
 case call c=>
  split at h
  case h_2=>exact h.elim
  rename_i b hc
  split at h
  ·rename_i x j
   split at h
   case h_2=>exact h.elim
   rename_i n al G;obtain⟨w,A,B⟩:=h;obtain⟨y,L,rfl⟩:∃y,c.args.toList=[y]/\ρ y=x:=by
    match J:c.args.toList with
    |[]=>rw[J]at j;simp at j
    |[y]=>rw[J]at j;simp at j;exact⟨y,rfl,j⟩
    |_::_::_=>rw[J]at j;simp at j
   obtain⟨q1,ab⟩:=aKb (P:=P) (base:=H.length) q hc L G w A;exact⟨_,B,q1,ab,by simp⟩
  ·rename_i s x j;obtain⟨y,z,L,rfl,rfl⟩:∃y z,c.args.toList=[y,z]/\ρ y=s/\ρ z=x:=by
    match J:c.args.toList with
    |[]=>rw[J]at j;simp at j
    |[y]=>rw[J]at j;simp at j
    |[y,z]=>rw[J]at j;simp at j;exact⟨y,z,rfl,j.1,j.2⟩
    |_::_::_::_=>rw[J]at j;simp at j
   exact Xl q hc L h.1 h.2
  ·rename_i k a r j
   split at h
   ·rename_i n aa;exact plain h (KB (isMax:=false) q hc j aa) rfl rfl
   ·exact h.elim
  ·rename_i k a r j
   split at h
   ·rename_i n aa;exact plain h (KB (isMax:=true) q hc j aa) rfl rfl
   ·exact h.elim
  ·rename_i d x j;obtain⟨y,z,L,au,rfl⟩:∃y z,c.args.toList=[y,z]/\ρ y=d/\ρ z=x:=by
    match J:c.args.toList with
    |[]=>rw[J]at j;simp at j
    |[y]=>rw[J]at j;simp at j
    |[y,z]=>rw[J]at j;simp at j;exact⟨y,z,rfl,j.1,j.2⟩
    |_::_::_::_=>rw[J]at j;simp at j
   split at h
   case h_2=>exact h.elim
   rename_i sz b aA ai off len aE U hx;obtain⟨rfl,w,A,h⟩:=h
   split at h
   case h_2=>exact h.elim
   rename_i k ae ac R C;obtain⟨rfl,rfl,B,I,O,W⟩:=h;refine⟨_,W,aJ9 q hc L A U au hx w B I O,?_,by simpa using(gy.1 C).1⟩;intro p V;rcases hd.1 V with rfl|V
   ·exact C
   ·exact n6 p V
  ·rename_i x j;obtain⟨y,L,rfl⟩:=Ek j
   split at h
   case h_2=>exact h.elim
   rename_i n al G;obtain⟨w,A,B⟩:=h;obtain⟨q1,ab⟩:=aJ8 (P:=P) (base:=H.length) q hc L G w A;exact⟨_,B,q1,ab,by simp⟩
  ·rename_i x j;obtain⟨y,L,Q⟩:=Ek j
   split at h
   ·rw[<-Q]at h;exact plain h.2.2 (UC q hc L Q h.1 h.2.1) rfl rfl
   ·split at h
    ·rename_i b aA ai off len sz z k ae ac R U M C;obtain⟨rfl,rfl,rfl,w,A,B,I,O,W,ar⟩:=h;exact⟨_,ar,Yz q hc L O U M w Q A B I W,by simpa using C,by simpa using(gy.1 C).1⟩
    ·exact h.elim
   ·exact h.elim
  ·rename_i x j;obtain⟨y,L,Q⟩:=Ek j
   split at h
   ·exact plain h (Cp (H0:=H) q hc L (.inl ⟨Q,rfl,rfl⟩)) rfl rfl
   ·split at h
    ·rename_i b aA ai off len k ae ac R C;obtain⟨rfl,rfl,h⟩:=h;rcases h with⟨w,A,B⟩|⟨w,A,B⟩
     ·exact⟨_,B,Cp q hc L (.inr ⟨_,_,_,_,_,_,_,Q,C,rfl,.inl ⟨⟨w,A⟩,rfl⟩⟩),by simpa using C,by simp⟩
     ·exact⟨_,B,Cp q hc L (.inr ⟨_,_,_,_,_,_,_,Q,C,rfl,.inr ⟨w,A,rfl⟩⟩),by simpa using C,by simp⟩
    ·exact h.elim
   ·exact h.elim
  ·rename_i x n j;obtain⟨y,z,L,Q,aq⟩:∃y z,c.args.toList=[y,z]/\ρ y=x/\ρ z=.p (.int .i64 n):=by
    match J:c.args.toList with
    |[]=>rw[J]at j;simp at j
    |[y]=>rw[J]at j;simp at j
    |[y,z]=>rw[J]at j;simp at j;exact⟨y,z,rfl,j.1,j.2⟩
    |_::_::_::_=>rw[J]at j;simp at j
   split at h
   ·obtain⟨rfl,w,A⟩:=h;obtain⟨T,X,ad⟩:=Ks w;exact plain A (Ub q hc L ad Q aq) rfl rfl
   ·split at h
    ·rename_i b aA ai i ae ac R C;obtain⟨rfl,rfl,rfl,rfl,w,A,B,I,O,W,h⟩:=h;obtain⟨T,X,ad⟩:=Ks I
     split at h
     ·rename_i l G;obtain⟨m,rfl⟩:=Int.eq_ofNat_of_zero_le (by omega:0<=n);simp only[Int.toNat_natCast]at A G;have N:P.underlying T=some (.pointer Gl.u8):=by
       rw[ad]at O;simp only[ptrTo]at O
       split at O
       ·rename_i e av;simp at O;rw[<-O];exact av
       ·simp at O
      exact⟨_,h,Ue q hc L ad Q aq (by omega) A (by omega) N W G,by simpa using C,by simpa using(gy.1 C).1⟩
     ·exact h.elim
    ·exact h.elim
   ·exact h.elim
  ·exact h.elim
end
section
variable{P:bw}{ag:b3->Bool}{n:Nat}
theorem Lj{o o':Obj}(h:mO o=some o'):mO o'=some o':=by
 unfold mO at h
 split at h
 ·simp at h;subst h;rfl
 ·rename_i k aA ai b
  split at h
  ·simp at h
  ·split at h
   ·rename_i l a;simp at h;subst h;simp[mO,AK.gr,a]
   ·simp at h
 ·simp at h;subst h;rfl
 ·simp at h
theorem aAh{w:cb}{ad ah:Nat->Prop}{β:Bd}{H:aj}(d:bV P w ad β H ah){b:Nat}{o o':Obj}(c:H[b]?=some o)(hf:mO o=some o'):
 ∃aF,bZ P ah ad w β H aF w β (H.set b o')/\aF (β.aq b):=by
 unfold mO at hf
 split at hf
 ·rename_i fz t;simp at hf;subst hf;obtain⟨cs,T,g,i,j,m⟩:=d.cM b _ c;have aM:cz β H β (H.set b (.box true (.p t))):=tL c (.inl ⟨_,_,_,rfl,rfl⟩);exact tQ d c trivial (o':=.box true (.p t)) trivial (fun _ h=>h) (fun _ h=>by cases h) aM j.uK
   (fun aF hi l=>⟨cs,T,g,bu.mono hi (fun _ _=>rfl) aM _ _ (by simp[aE]) i,l,fun _=>trivial,m.2⟩) (by simp[Obj.refs,aE])
 ·rename_i k aA ai f
  split at hf
  ·simp at hf
  ·rename_i q
   split at hf
   case h_2=>simp at hf
   rename_i C z;simp at hf;subst hf;have r:=mC z;rcases d.cM b _ c with hold|⟨cs,T,u,rest,g,i,j,m,x,A,y,B⟩
   ·exact(q hold).elim
   have s:¬di .frozen f:=fun h=>by cases h.1
   have aM:cz β H β (H.set b (.arr .frozen aA ai f)):=tL c (.inr (.inl ⟨_,_,_,_,_,rfl,rfl,q,s⟩));exact tQ d c q (o':=.arr .frozen aA ai f) s (fun _ h=>h) (fun _ h=>by cases h) aM y.uK
    (fun aF hi l=>.inr ⟨cs,T,u,rest,g,bM.mono hi (fun _ _=>rfl) aM _ _ _ (d.refs b _ c) i,j,m,x,(fun h=>by cases h),l,fun _ e n=>(by rw[r]at n;simp at n;obtain⟨a,_,rfl⟩:=n;trivial),fun h=>by cases h⟩)
    (by rw[r];exact ju _ _)
 ·rename_i fz f;simp at hf;subst hf;obtain⟨v,clock,g,i,j⟩:=d.cM b _ c;have aM:cz β H β (H.set b (.map true f)):=tL c (.inr (.inr ⟨_,_,_,rfl,rfl⟩));exact tQ d c trivial (o':=.map true f) trivial (fun _ h=>h) (fun _ h=>by cases h) aM j.uK
   (fun aF hi l=>⟨v,clock,g,cK.mono hi (fun _ _=>rfl) _ _ i,l⟩) trivial
 ·simp at hf
theorem JM{w:cb}{ah:Nat->Prop}{β:Bd}{H0:aj}:∀(bs:List Nat){al aL:List (Nat×Obj)}{H:aj}{ad:Nat->Prop},lW H0 bs=some (al,aL)->bV P w ad β H ah->
 (∀p∈al,∃c,H[p.1]?=some c/\mO c=mO p.2)->∃aF,bZ P ah ad w β H aF w β (bm H aL)/\∀b∈bs,aF (β.aq b)
 |[],al,aL,H,ad,h,a,_=>by
  simp[lW]at h;obtain⟨rfl,rfl⟩:=h;exact⟨ad,bZ.refl a,by simp⟩
 |b::bs,al,aL,H,ad,h,a,hc=>by
  simp only[lW]at h
  split at h
  case h_2=>simp at h
  rename_i o q s r g
  split at h
  case h_2=>simp at h
  rename_i o' hf;simp at h;obtain⟨rfl,rfl⟩:=h;obtain⟨c,g1,g2⟩:=hc (b,o) (by simp);simp only at g1 g2;rw[hf]at g2;obtain⟨n,e,l⟩:=aAh a g1 g2;have i:b<H.length:=(gy.1 g1).1;obtain⟨f,q1,m⟩:=JM bs g e.rel (by
   intro p j;obtain⟨k,k1,k2⟩:=hc p (by simp[j])
   by_cases d:b=p.1
   ·rw[<-d]at k1⊢;rw[g1]at k1;cases k1;refine⟨o',by rw[g8 i],?_⟩;rw[<-k2,g2,Lj g2]
   ·exact⟨k,by rw[hv d];exact k1,k2⟩)
  refine⟨f,by simpa only[bm]using e.trans q1,?_⟩;intro x hx;rcases hd.1 hx with rfl|hx
  ·exact q1.bQ _ l
  ·exact m x hx
theorem Ll{H0:aj}:∀(bs:List Nat){al aL:List (Nat×Obj)},lW H0 bs=some (al,aL)->(∀p∈al,H0[p.1]?=some p.2)/\(∀p∈aL,p.1<H0.length/\p.2≠.hole)/\al.map (·.1)=bs
 |[],al,aL,h=>by
  simp[lW]at h;obtain⟨rfl,rfl⟩:=h;simp
 |b::bs,al,aL,h=>by
  simp only[lW]at h
  split at h
  case h_2=>simp at h
  rename_i o f g d e
  split at h
  case h_2=>simp at h
  rename_i o' hf;simp at h;obtain⟨rfl,rfl⟩:=h;obtain⟨i1,i2,i3⟩:=Ll bs e;refine⟨?_,?_,by simp[i3]⟩
  ·intro p a;rcases hd.1 a with rfl|a
   ·exact d
   ·exact i1 p a
  ·intro p a;rcases hd.1 a with rfl|a
   ·refine⟨(gy.1 d).1,fun c=>?_⟩;simp only at c;have:=Lj hf;rw[c]at this;simp[mO]at this
   ·exact i2 p a
theorem Y2{w:cb}{ad aF ah:Nat->Prop}{β:Bd}{H0 H:aj}{a:AV}{A:PV}{bs:List Nat}{v:b5}(d:mY H0 a=some (A,bs))(al:∀b∈bs,H[b]?=H0[b]?)(n:bV P w ad β H ah)(e:aB P w ad β H a v)
 (hi:∀k,ad k->aF k)(r:∀b∈bs,aF (β.aq b)):aD P w aF A v:=by
 cases a with
 |p t=>
  simp[mY]at d;obtain⟨rfl,rfl⟩:=d;simp only[aB]at e;exact aD.mono hi (fun _ _=>rfl) _ _ e
 |sl b aA ai off len=>
  simp only[mY]at d
  split at d
  case h_2=>simp at d
  rename_i k U N g l
  split at d
  case isFalse=>simp at d
  rename_i G;obtain⟨rfl,rfl,S⟩:=G
  split at d
  ·simp at d
  ·rename_i y
   split at d
   case h_2=>simp at d
   rename_i z J;simp at d;obtain⟨rfl,rfl⟩:=d;have x:=mC J;have f:H[b]?=some (.arr k aA ai g):=by rw[al b (by simp)];exact l
   have j:=r b (by simp);simp only[aB,bO,bS]at e;obtain⟨v1,v2,v3⟩:=e.2 k g f;rcases n.cM b _ f with hold|⟨cs,T,B,rest,i,h,q,E,O,F,Q,R⟩
   ·exact(y hold).elim
   rw[v3 y];have K:Row P w aF β H ai g B:=bM.mono hi (fun _ _=>rfl) (cz.refl _ _) _ _ _ (n.refs b _ f) h;obtain⟨a,m,c,e1,e2,e3,e4,e5⟩:=kq K off len v1;rw[x,Cj,mE]at e2;have u:((z.drop off).take len).length=len:=by
    have:g.length=z.length:=by rw[x];simp
    simp;omega
   simp only[aD];refine⟨β.aq b,off*ai,β.cap b-off,ai,m,e2,fun _=>j,?_,?_,?_,none,.inl rfl,?_⟩
   ·rw[<-e3];exact mw i (post:=c.flatten++rest) (by rw[q,e1];simp)
   ·intro hf;simp at hf;rw[u,F hf.1];omega
   ·rw[u];omega
   ·rw[u]
 |ptr b path=>
  simp only[mY]at d
  split at d
  case h_2=>simp at d
  rename_i fz t l
  split at d
  case h_2=>simp at d
  rename_i s hs;simp at d;obtain⟨rfl,rfl⟩:=d;have f:H[b]?=some (.box fz (.p t)):=by rw[al b (by simp)];exact l
  have j:=r b (by simp);simp only[aB,bO,bS]at e;obtain⟨_,M,L,o,rfl,I,e⟩:=e;obtain⟨rfl,rfl⟩:=e (.inl ⟨fz,_,f⟩);obtain⟨cs,T,i,h,q,E⟩:=n.cM b _ f;have D:aU P w aF t cs.toList:=by simp only[bu]at h;exact aU.mono hi (fun _ _=>rfl) _ _ h
  obtain⟨pre,xs,post,e1,e2,e3⟩:=zL D hs I;simp only[aD];refine⟨β.aq b,L,xs,e3,j,?_,rfl⟩;rw[<-e2];exact mw i e1
 |map b=>
  simp only[mY]at d
  split at d
  case h_2=>simp at d
  rename_i fz g l;simp at d;obtain⟨rfl,rfl⟩:=d;have f:H[b]?=some (.map fz g):=by rw[al b (by simp)];exact l
  have j:=r b (by simp);simp only[aB,bO,bS]at e;have e:=e.2.1 ⟨fz,g,f⟩;obtain⟨C,clock,i,h,q⟩:=n.cM b _ f;simp only[aD];exact⟨β.aq b,C,clock,j,i,cK.mono hi (fun _ _=>rfl) _ _ h,e⟩
 |b7=>simp[mY]at d
 |func=>simp[mY]at d
 |st=>simp[mY]at d
 |aC=>simp[mY]at d
theorem K2{w:cb}{ad aF ah:Nat->Prop}{β:Bd}{H0 H:aj}:∀{l:List AV}{vs:List PV}{bs:List Nat}{d:List b5},oT H0 l=some (vs,bs)->(∀b∈bs,H[b]?=H0[b]?)->bV P w ad β H ah->bI P w ad β H l d->
 (∀k,ad k->aF k)->(∀b∈bs,aF (β.aq b))->bK P w aF vs d
 |[],vs,bs,d,h,_,_,c,_,_=>by
  simp[oT]at h;obtain⟨rfl,rfl⟩:=h;simp only[bI]at c;simpa[bK]using c
 |a::l,vs,bs,d,h,al,f,c,hi,e=>by
  simp only[oT]at h
  split at h
  case h_2=>simp at h
  rename_i v m o n g i;simp at h;obtain⟨rfl,rfl⟩:=h;simp only[bI]at c;obtain⟨y,j,rfl,k1,k2⟩:=c;simp only[bK];exact⟨y,j,rfl,Y2 g (fun b hx=>al b (by simp[hx])) f k1 hi (fun b hx=>e b (by simp[hx])),K2 i (fun b hx=>al b (by simp[hx])) f k2 hi (fun b hx=>e b (by simp[hx]))⟩
def Act(P:bw)(n:Nat)(o:Oper)(s:St)(e:aR):Prop:=
 ∀(fr:cd)(k:List Item)(cs:List cd)(a:Array Oper)(i:Nat)(r:List Nat)(b:List ck)(ah ad:Nat->Prop)(β:Bd)(s':St)(t:Array b5)(w:cb),
  a[i]?=some o->fb o (yielded a t)=true->jy n o=true->cN P n ah ad β s' t w->(∀x∈o.op.operands,ev s'.env x=ev s.env x)->
  (∀p∈e.al,s'.heap[p.1]?=some p.2)->(∀j,j<e.aP.length->s'.heap[s.heap.length+j]?=some .hole)->
  ∃aF aK c w',dl P (lone (bD fr t b (.inRegion a (i::r)::k)) cs w) (lone (bD fr c b (.inRegion a r::k)) cs w')/\
   cN P n ah aF aK ⟨put o.dst e.v s'.env,bm s'.heap (e.aL++newAt s.heap.length e.aP)⟩ c w'/\∀N,dS N ah ad w β s'.heap ah aF w' aK (bm s'.heap (e.aL++newAt s.heap.length e.aP))
theorem Vk{o:Oper}{K:aR->Prop}{s:St}(h:jN P ag o s K)(c:Call):o.op≠.defer c:=by
 intro hc;unfold jN at h;rw[hc]at h;simp[fT,hc]at h
theorem Pn{e e':Env}{l:List b2}(h:∀x∈l,ev e' x=ev e x):l.map (ev e')=l.map (ev e):=hw h
theorem Mn{o:Oper}{f:b2}{H:Array b2}{ak:Array b0}{g:b3}{fi ca:List AV}{K:aR->Prop}{s:St}
 (W:o.op=.call {callee:=.value f,args:=H,argTypes:=ak})
 (hf:(ev s.env f=.func g fi ca)\/(∃a b,ev s.env f=.p (.func g a b)/\fi=a.map .p/\ca=b.map .p))
 (h:iF P g (fi++H.toList.map (ev s.env)++ca) s.heap K):
 ∃e,K e/\(∀p∈e.al,s.heap[p.1]?=some p.2)/\(∀p∈e.aL,p.1<s.heap.length/\p.2≠.hole)/\Act P n o s e:=by
 have Q:∀c,o.op≠.defer c:=fun c hc=>by rw[W]at hc;cases hc
 have ab:f∈o.op.operands/\∀x∈H.toList,x∈o.op.operands:=by
  rw[W];simp[e9,ej];exact fun x hx=>.inr hx
 have M:∀{ah ad:Nat->Prop}{β:Bd}{s':St}{t:Array b5}{w:cb},cN P n ah ad β s' t w->(∀x∈o.op.operands,ev s'.env x=ev s.env x)->
  ∃m:List b5,bI P w ad β s'.heap (fi++H.toList.map (ev s.env)++ca) m/\aS (aJ s'.heap) (fi++H.toList.map (ev s.env)++ca)/\(b4 (fU t) o).run P w=(callFunc g m.toArray).run P w:=by
  intro ah ad β s' t w d A;have I:=oK d f;rw[A f ab.1]at I;obtain⟨G,F,aw,av,aq,aA,az⟩:∃G F:List b5,fU t f=.func (.func g) G.toArray F.toArray/\bI P w ad β s'.heap fi G/\bI P w ad β s'.heap ca F/\aS (aJ s'.heap) fi/\aS (aJ s'.heap) ca:=by
   rcases hf with hf|⟨a,b,hf,rfl,rfl⟩
   ·rw[hf]at I;simp only[aB,aE]at I;obtain⟨⟨G,F,y,z,D⟩,S,ao⟩:=I;exact⟨G,F,D,y,z,S,ao⟩
   ·rw[hf]at I;simp only[aB,aD]at I;obtain⟨⟨G,F,y,z,D⟩,_⟩:=I;exact⟨G,F,D,jV.2 y,jV.2 z,ju _ _,ju _ _⟩
  obtain⟨Y,Z⟩:=wA d H.toList;rw[Pn (fun x hx=>A x (ab.2 x hx))]at Y Z;refine⟨G++H.toList.map (fU t)++F,rp (rp av Y) aq,kn (kn aA Z) az,?_⟩;simp only[b4,W,resolve,aw,Deferred.ofValue,gb,gc,fv,invoke];congr 2;simp
 have pure:∀(fr:cd)(k:List Item)(cs:List cd)(l:Array Oper)(i:Nat)(r:List Nat)(u:List ck)(ah ad E:Nat->Prop)(β:Bd)(s':St)(t:Array b5)(w:cb)(H1:aj)(m:List b5)(vs:List PV)(v:PV),
  l[i]?=some o->fb o (yielded l t)=true->jy n o=true->cN P n ah ad β s' t w->(b4 (fU t) o).run P w=(callFunc g m.toArray).run P w->
  bZ P ah ad w β s'.heap E w β H1->bK P w E vs m->au P g vs v->
  ∃aF aK ai w',dl P (lone (bD fr t u (.inRegion l (i::r)::k)) cs w) (lone (bD fr ai u (.inRegion l r::k)) cs w')/\
   cN P n ah aF aK ⟨put o.dst (.p v) s'.env,H1⟩ ai w'/\∀N,dS N ah ad w β s'.heap ah aF w' aK H1:=by
  intro fr k cs l i r u ah ad E β s' t w H1 m vs v q C B d O j af L;rcases L with⟨ar,L⟩|L
  ·rw[ar]at O;obtain⟨e,w',am,⟨R,aF,U,g1,g2,g3,g4,g5,an,g6⟩,aM,ax,V⟩:=L w E _ j.rel.bQ j.rel.iT af (bD fr t u (.inRegion l (i::r)::k)::cs);subst U;have ae:=j.trans (j.rel.later g1 g2 g3 g4 g5 an);refine⟨aF,β,_,w',?_,d.put B ae (by simpa[aB]using g6) (by simp[aE]),fun _=>ae.fC⟩;rw[<-n8 q];exact(gg (vY q C Q O)).trans (gi aM (.one (cx V)))
  ·obtain⟨R,y,z⟩:=L w E _ af;rw[y]at O;exact⟨E,β,_,w,.one (tO q C Q O (.inl rfl)),d.put B j (by simpa[aB]using z) (by simp[aE]),fun _=>j.fC⟩
 rcases h with⟨vs,v,y,z,D⟩|⟨vs,bs,al,aL,v,y,z,D,S⟩|⟨e,X,ac,T⟩|⟨al,v,ap,ay,T⟩
 ·refine⟨_,D,by simp,by simp,?_⟩;intro fr k cs l i r u ah ad β s' t w q C B d A _ _;obtain⟨m,c1,c2,c3⟩:=M d A;rw[y]at c1;simp only[newAt,hb,bm];exact pure fr k cs l i r u ah ad ad β s' t w s'.heap m vs v q C B d c3 (bZ.refl d.heap) (jV.1 c1) z
 ·obtain⟨i1,i2,i3⟩:=Ll bs z;refine⟨_,S,i1,i2,?_⟩;intro fr k cs l i r u ah ad β s' t w q C B d A J _;obtain⟨m,c1,c2,c3⟩:=M d A;obtain⟨E,ag,aC⟩:=JM bs z d.heap (fun p j=>⟨p.2,J p j,rfl⟩);simp only[newAt,hb];refine pure fr k cs l i r u ah ad E β s' t w _ m vs v q C B d c3 ag (K2 y ?_ d.heap c1 ag.bQ aC) D;intro b aa;rw[<-i3]at aa;obtain⟨p,j,rfl⟩:=List.mem_map.1 aa;rw[J p j,i1 p j]
 ·refine⟨_,T,ac.1,ac.2,?_⟩;intro fr k cs l i r u ah ad β s' t w q C B d A J aP;obtain⟨m,c1,c2,c3⟩:=M d A;rw[X.1]at c3;obtain⟨x,w',am,⟨R,aK,aF,U,g1,g2,g3⟩,aM,ax,V⟩:=X.2 s'.heap w ad ah β _ d.heap c1 c2 J aP (bD fr t u (.inRegion l (i::r)::k)::cs);subst U;refine⟨aF,aK,_,w',?_,d.put B g1 g2 g3,fun _=>g1.fC⟩;rw[<-n8 q];exact(gg (vY q C Q c3)).trans (gi aM (.one (cx V)))
 ·refine⟨_,T,ay,by simp,?_⟩;intro fr k cs l i r u ah ad β s' t w q C B d A J aP;obtain⟨m,c1,c2,c3⟩:=M d A;obtain⟨R,y,D⟩:=ap s'.heap w ad ah β _ d.heap c1 c2 J;rw[y]at c3;have j:=bZ.refl d.heap;simp only[newAt,hb,bm];exact⟨ad,β,_,w,.one (tO q C Q c3 (.inl rfl)),d.put B j (by simpa[aB]using D) (by simp[aE]),fun _=>j.fC⟩
theorem W4{o:Oper}{f:b2}{a:Array b2}{y:Array b0}{b:Nat}{e:aR}{s:St}
 (j:o.op=.call {callee:=.value f,args:=a,argTypes:=y})(hf:ev s.env f=.map b)(hY:oU P b (a.toList.map (ev s.env)) s.heap.length e):Act P n o s e:=by
 have G:∀c,o.op≠.defer c:=fun c hc=>by rw[j]at hc;cases hc
 have u:f∈o.op.operands/\∀x∈a.toList,x∈o.op.operands:=by
  rw[j];simp[e9,ej];exact fun x hx=>.inr hx
 intro fr k cs I i r z ah ad β s' t w v H C d m E aP;have h:=(oK d f).1;rw[m f u.1,hf]at h;simp only[aB,bO,bS]at h;obtain⟨l,p⟩:=wA d a.toList;rw[Pn (fun x hx=>m x (u.2 x hx))]at l p;obtain⟨F,g,tmps,assign,body,A,B⟩:=hY s'.heap w ad ah β _ d.heap l p E aP;have D:=h.2.2 F;have q:(b4 (fU t) o).run P w=(Instr.yield (β.aq b) (a.toList.map (fU t)).toArray).run P w:=by
  simp only[b4,j,resolve,D,Deferred.ofValue,gb,gc,fv,invoke];congr 2;exact a1 (by simp)
 rw[A]at q;obtain⟨J,w',aK,aF,g1,g2,g3,g4⟩:=B (bD fr t z (.inRegion I (i::r)::k)) cs;refine⟨aF,aK,_,w',?_,d.put C g2 g3 g4,fun _=>g2.fC⟩;rw[<-n8 v];exact(gg (Kc v H G q)).trans g1
theorem X1(m:mr P ag){o:Oper}{K:aR->Prop}{s:St}(h:jN P ag o s K):
 ∃e,K e/\(∀p∈e.al,s.heap[p.1]?=some p.2)/\(∀p∈e.aL,p.1<s.heap.length/\p.2≠.hole)/\Act P n o s e:=by
 have E:=Vk h;have q:fT P ag o (ev s.env) s.heap K->∃e,K e/\(∀p∈e.al,s.heap[p.1]?=some p.2)/\(∀p∈e.aL,p.1<s.heap.length/\p.2≠.hole)/\Act P n o s e:=by
  intro h;obtain⟨e,a,hs,al,aL⟩:=m o _ _ _ (fun v=>rfl) h;refine⟨e,a,al,aL,?_⟩;intro fr k cs L i r J ah ad β s' t w F G C d B D aP;obtain⟨nx,I,w',aK,aF,u,y,j,z,A⟩:=hs s'.heap w ad ah β (fU t) d.heap (fun x hx=>by rw[<-B x hx];exact oK d x) D aP;exact⟨aF,aK,_,w',.one (tO F G E u y),d.put C j z A,fun _=>j.fC⟩
 unfold jN at h
 split at h
 ·rename_i f args H c
  split at h
  ·rename_i g fi ca hf;exact Mn c (.inr ⟨fi,ca,hf,rfl,rfl⟩) h
  ·rename_i g fi ca hf;exact Mn c (.inl hf) h
  ·rename_i b hf;obtain⟨e,hY,l,a⟩:=h;exact⟨e,a,l.1,l.2,W4 c hf hY⟩
  ·exact h.elim
 ·exact q h
end
section
variable{P:bw}{ag:b3->Bool}{n:Nat}
def looks(a:Array Oper)(o:Oper):List Tmp:=
 (o.op.operands.toList.filterMap fun x=>match x with
  | .tmp t=>some t
  |_=>none)++(match o.guard with
  |some (j,_)=>(match(a[j]?).bind (·.dst)with
   |some d=>[d]
   |none=>[])
  |none=>[])
def rE(c:Array Oper)(a b:Oper):Bool:=
 (match a.dst with
  |some d=>(looks c b).contains d||b.dst==some d
  |none=>false)||
 (match b.dst with
  |some d=>(looks c a).contains d
  |none=>false)
def fit(_:Nat)(a:Array Oper):Bool:=
 (ho a.size).all fun j=>match a[j]? with
  |some o=>o.after.toList.all (fun e=>!fd .any e||decide (e.on<j))&&
   (ho j).all (fun i=>match a[i]? with
    |some u=>!rE a u o||reach a a.size i j
    |none=>true)
  |none=>true
structure Ew(P:bw)(n:Nat)(ops:Array Oper)(o:Oper)(s:St)(e:aR):Prop where
 al:∀p∈e.al,s.heap[p.1]?=some p.2
 aL:∀p∈e.aL,p.1<s.heap.length
 act:(∀(t:Array b5)(s':St)(ah ad:Nat->Prop)(β:Bd)(w:cb),cN P n ah ad β s' t w->(∀x∈looks ops o,aN s'.env x=aN s.env x)->fb o (yielded ops t)=true)/\Act P n o s e\/
  (∀(t:Array b5)(s':St)(ah ad:Nat->Prop)(β:Bd)(w:cb),cN P n ah ad β s' t w->(∀x∈looks ops o,aN s'.env x=aN s.env x)->fb o (yielded ops t)=false)/\e={v:=.p (.aC [])}
inductive Tr(P:bw)(n:Nat)(ops:Array Oper):List Oper->Nat->St->List (St×aR)->St->Prop
 |nil (i:Nat) (s:St):Tr P n ops [] i s [] s
 |cons {o:Oper} {r:List Oper} {i:Nat} {s s':St} {e:aR} {es:List (St×aR)}:Ew P n ops o s e->Tr P n ops r (i+1) (e.app o.dst s) es s'->Tr P n ops (o::r) i s ((s,e)::es) s'
def pW(i:Nat):List (St×aR)->List Touch->List Touch
 |[],acc=>acc
 |(s,e)::r,acc=>pW (i+1) r (gC i s.heap.length e acc)
theorem Ci{a:Array Oper}{o:Oper}{j:Nat}{f:Bool}(c:o.guard=some (j,f)){e e':Env}(h:∀x∈looks a o,aN e' x=aN e x):guardOf a j e'=guardOf a j e:=by
 unfold guardOf;cases b:(a[j]?).bind (·.dst)with
 |none=>rfl
 |some d=>
  simp only;exact h d (by simp[looks,c,b])
theorem LI(B:mr P ag){a:Array Oper}(q:∀o∈a.toList,jy n o=true):∀(l:List Oper)(i:Nat)(d:List Touch)(s:St){K:St->Prop},(∀o∈l,o∈a.toList)->gK P ag a l i d K s->
 ∃c s',Tr P n a l i s c s'/\K s'/\iZ a (pW i c d)=true
 |[],i,d,s,K,_,h=>⟨[],s,.nil i s,h.2,h.1⟩
 |o::l,i,d,s,K,F,h=>by
  have C:=fun d s(h:gK P ag a l (i+1) d K s)=>LI B q l (i+1) d s (fun o G=>F o (by simp[G])) h
  have skip:gK P ag a l (i+1) d K ⟨put o.dst (.p (.aC [])) s.env,s.heap⟩->(∀(t:Array b5)(s':St)(ah ad:Nat->Prop)(β:Bd)(w:cb),cN P n ah ad β s' t w->(∀x∈looks a o,aN s'.env x=aN s.env x)->fb o (yielded a t)=false)->
   ∃c s',Tr P n a (o::l) i s c s'/\K s'/\iZ a (pW i c d)=true:=by
   intro hk A;obtain⟨c,s',r,u,y⟩:=C _ _ hk;refine⟨(s,{v:=.p (.aC [])})::c,s',.cons ⟨by simp,by simp,.inr ⟨A,rfl⟩⟩ ?_,u,by simpa[pW,gC]using y⟩;simpa[aR.app,bm]using r
  have go:jN P ag o s (fun e=>gK P ag a l (i+1) (gC i s.heap.length e d) K (e.app o.dst s))->(∀(t:Array b5)(s':St)(ah ad:Nat->Prop)(β:Bd)(w:cb),cN P n ah ad β s' t w->(∀x∈looks a o,aN s'.env x=aN s.env x)->fb o (yielded a t)=true)->
   ∃c s',Tr P n a (o::l) i s c s'/\K s'/\iZ a (pW i c d)=true:=by
   intro hk A;obtain⟨e,D,al,aL,E⟩:=X1 (n:=n) B hk;obtain⟨c,s',r,u,y⟩:=C _ _ D;exact⟨(s,e)::c,s',.cons ⟨al,fun p H=>(aL p H).1,.inl ⟨A,E⟩⟩ r,u,by simpa[pW]using y⟩
  simp only[gK]at h
  split at h
  ·rename_i f;exact go h (fun _ _ _ _ _ _ _ _=>by simp[fb,f])
  ·rename_i j I f
   split at h
   ·rename_i b m
    split at h
    ·rename_i z;refine go h (fun t s' ah ad β w k g=>?_);obtain⟨g1,g2⟩:=zd k q j;rw[Ci f g]at g1;simp[fb,f,g1 _ m,z]
    ·rename_i z;refine skip h (fun t s' ah ad β w k g=>?_);obtain⟨g1,g2⟩:=zd k q j;rw[Ci f g]at g1;simp[fb,f,g1 _ m,z]
   ·rename_i m;refine skip h (fun t s' ah ad β w k g=>?_);obtain⟨g1,g2⟩:=zd k q j;rw[Ci f g]at g2;simp[fb,f,g2 m]
   ·exact h.elim
def xu(a:Array Oper)(D:Nat->Prop):Prop:=∀j o,a[j]?=some o->D j->∀e∈o.after,fd .any e=true->D e.on
theorem Cu{c:Array Oper}{D:Nat->Prop}(hc:xu c D):∀(f i j:Nat),reach c f i j=true->(∀o,c[j]?=some o->∀e∈o.after,fd .any e=true->D e.on)->D i
 |0,_,_,h,_=>by simp[reach]at h
 |f+1,i,j,h,d=>by
  simp only[reach]at h
  split at h
  case h_2=>simp at h
  rename_i o g;simp only[bo,hj,bl,beq_iff_eq,decide_eq_true_eq]at h;rcases h with⟨e,b,a,rfl⟩|⟨e,b,⟨a,_⟩,k⟩
  ·exact d o g e (by simpa using b) a
  ·have m:=d o g e (by simpa using b) a;exact Cu hc f i e.on k (fun o' p e' n l=>hc _ o' p m e' n l)
end
section
variable{P:bw}{ag:b3->Bool}{n:Nat}
theorem tW(a:Nat)(l:List Obj):(newAt a l).map (·.1)=oJ a l:=by
 induction l generalizing a with
 |nil=>rfl
 |cons o l b=>simp[newAt,oJ,b]
theorem Jl{a b:Nat}{l:List Obj}:b∈oJ a l↔a<=b/\b<a+l.length:=by
 induction l generalizing a with
 |nil=>simp[oJ]
 |cons o l c=>simp only[oJ,hd,c,List.length_cons];omega
theorem zm{l:List (Nat×Obj)}{b:Nat}(h:b∉l.map (·.1)):∀H:aj,(bm H l)[b]?=H[b]?:=by
 induction l with
 |nil=>intro H;rfl
 |cons p l a=>
  obtain⟨c,o⟩:=p;intro H;simp only[ha,hd,not_or]at h;simp only[bm];rw[a h.2,hv (Ne.symm h.1)]
theorem Wz{l:List (Nat×Obj)}{b:Nat}(h:b∈l.map (·.1)):∀H H':aj,H.length=H'.length->(bm H l)[b]?=(bm H' l)[b]?:=by
 induction l with
 |nil=>simp at h
 |cons p l f=>
  obtain⟨c,o⟩:=p;intro H H' d;simp only[bm]
  by_cases a:b∈l.map (·.1)
  ·exact f a _ _ (by simp[d])
  ·rw[zm a,zm a];simp only[ha,hd]at h;have:b=c:=h.resolve_right a;subst this
   by_cases e:b<H.length
   ·rw[g8 e,g8 (by omega)]
   ·rw[ht (by simp;omega),ht (by simp;omega)]
def dh(es:List (St×aR))(s':St)(k:Nat):St:=match es[k]? with
 |some (s,_)=>s
 |none=>s'
def fV(es:List (St×aR))(k:Nat):aR:=match es[k]? with
 |some (_,e)=>e
 |none=>{v:=.p .undef}
theorem Tr.at{a:Array Oper}:∀{l:List Oper}{i:Nat}{s s':St}{es:List (St×aR)},Tr P n a l i s es s'->es.length=l.length/\dh es s' 0=s/\
 ∀k o,l[k]?=some o->Ew P n a o (dh es s' k) (fV es k)/\dh es s' (k+1)=(fV es k).app o.dst (dh es s' k)
 |_,_,_,_,_,.nil i s=>⟨rfl,rfl,fun k o h=>by simp at h⟩
 |_,_,_,_,_,.cons (o:=o) (r:=r) (i:=i) (s:=s) (s':=s') (e:=e) (es:=es) hi d=>by
  obtain⟨h1,b,c⟩:=d.at;refine⟨by simp[h1],rfl,fun k o' hk=>?_⟩;cases k with
  |zero=>
   simp at hk;subst hk;refine⟨by simpa[dh,fV]using hi,?_⟩;have:dh ((s,e)::es) s' (0+1)=dh es s' 0:=by simp[dh]
   rw[this,b];simp[dh,fV]
  |succ k=>
   have e1:∀m,dh ((s,e)::es) s' (m+1)=dh es s' m:=fun m=>by simp[dh]
   have e2:fV ((s,e)::es) (k+1)=fV es k:=by simp[fV]
   rw[e1,e1,e2];exact c k o' (by simpa using hk)
theorem Vu(u:Touch)(i:Nat):jK u ⟨i,[],[]⟩=false:=by
 simp[jK]
theorem Va(i b:Nat)(e:aR)(a:List Touch):(gC i b e a=a/\iu i b e=⟨i,[],[]⟩)\/gC i b e a=iu i b e::a:=by
 unfold gC
 split
 ·rename_i c d f;exact .inl ⟨rfl,by simp[iu,c,d,f,oJ]⟩
 ·exact .inr rfl
theorem Kb{c:Array Oper}:∀(g:List (St×aR))(i:Nat)(d:List Touch),iZ c (pW i g d)=true->iZ c d=true/\
 (∀u∈d,∀b s e,g[b]?=some (s,e)->jK u (iu (i+b) s.heap.length e)=true->reach c c.size u.i (i+b)=true)/\
 (∀a b s e f e2,a<b->g[a]?=some (s,e)->g[b]?=some (f,e2)->jK (iu (i+a) s.heap.length e) (iu (i+b) f.heap.length e2)=true->reach c c.size (i+a) (i+b)=true)
 |[],i,d,h=>⟨h,by simp,by simp⟩
 |(s,e)::g,i,d,h=>by
  simp only[pW]at h;obtain⟨j,m,r⟩:=Kb g (i+1) _ h
  have key:iZ c d=true/\(∀u∈d,jK u (iu i s.heap.length e)=true->reach c c.size u.i i=true)/\(∀u∈d,∀b s e,g[b]?=some (s,e)->jK u (iu (i+1+b) s.heap.length e)=true->reach c c.size u.i (i+1+b)=true)/\
   (∀b f e2,g[b]?=some (f,e2)->jK (iu i s.heap.length e) (iu (i+1+b) f.heap.length e2)=true->reach c c.size i (i+1+b)=true):=by
   rcases Va i s.heap.length e d with⟨o,q⟩|o
   ·rw[o]at j m;refine⟨j,fun u _ hc=>?_,m,fun b f e2 _ hc=>?_⟩
    ·rw[q,Vu]at hc;cases hc
    ·rw[q]at hc;simp[jK]at hc
   ·rw[o]at j m;simp only[iZ,bl,he]at j;refine⟨j.2,fun u l hc=>?_,fun u l=>m u (by simp[l]),m _ (by simp)⟩;have:=j.1 u l;rw[hc]at this;exact(by simpa using this:reach c c.size u.i (iu i s.heap.length e).i=true)
  obtain⟨k1,k2,k3,k4⟩:=key;refine⟨k1,?_,?_⟩
  ·intro u l b p e1 k hc;cases b with
   |zero=>simp at k;obtain⟨rfl,rfl⟩:=k;exact k2 u l hc
   |succ b=>
    have:=k3 u l b p e1 (by simpa using k);rw[show i+(b+1)=i+1+b by omega]at hc⊢;exact this hc
  ·intro a b p e1 f e2 t n k hc;cases b with
   |zero=>omega
   |succ b=>
    rw[show i+(b+1)=i+1+b by omega]at hc⊢;cases a with
    |zero=>
     simp at n;obtain⟨rfl,rfl⟩:=n;exact k4 b f e2 (by simpa using k) hc
    |succ a=>
     rw[show i+(a+1)=i+1+a by omega]at hc⊢;exact r a b p e1 f e2 (by omega) (by simpa using n) (by simpa using k) hc
end
section
variable{P:bw}{ag:b3->Bool}{n:Nat}
def hx(N:Nat)(s:St):aj:=s.heap++g0 (N-s.heap.length) .hole
def vw(a:Nat)(e:aR):List Nat:=(e.aL++newAt a e.aP).map (·.1)
theorem aAB{N:Nat}{s:St}{e:aR}{o:Oper}(aL:∀p∈e.aL,p.1<s.heap.length)(d:(e.app o.dst s).heap.length<=N):hx N (e.app o.dst s)=bm (hx N s) (e.aL++newAt s.heap.length e.aP):=by
 have b:(e.app o.dst s).heap=bm s.heap e.aL++e.aP:=rfl;have f:(e.app o.dst s).heap.length=s.heap.length+e.aP.length:=by rw[b];simp[pI]
 unfold hx;rw[b];have c:N-s.heap.length=e.aP.length+(N-(s.heap.length+e.aP.length)):=by omega
 rw[c,<-List.replicate_append_replicate,<-hz,yQ _ _ _ (by
  intro p a;rcases hK.1 a with a|a
  ·have:=aL p a;simp;omega
  ·have:p.1∈(newAt s.heap.length e.aP).map (·.1):=hE a
   rw[tW,Jl]at this;simp;omega)]
 rw[vU,yQ _ _ _ aL];have:=Ct (bm s.heap e.aL) e.aP;rw[pI]at this;rw[this];congr 2;simp[pI]
section sched
variable{ops:Array Oper}{es:List (St×aR)}{s0 s':St}
structure jz(P:bw)(n:Nat)(ops:Array Oper)(es:List (St×aR))(s':St):Prop where
 len:es.length=ops.size
 at_:∀k o,ops[k]?=some o->Ew P n ops o (dh es s' k) (fV es k)/\dh es s' (k+1)=(fV es k).app o.dst (dh es s' k)
 dst:∀o∈ops.toList,jy n o=true
 lower:∀j o,ops[j]?=some o->∀e∈o.after,fd .any e=true->e.on<j
 tmps:∀i j u o,i<j->ops[i]?=some u->ops[j]?=some o->rE ops u o=true->reach ops ops.size i j=true
 heap:∀i j,i<j->j<ops.size->jK (iu i (dh es s' i).heap.length (fV es i)) (iu j (dh es s' j).heap.length (fV es j))=true->reach ops ops.size i j=true
def wr(a:List (St×aR))(s':St)(i:Nat):List Nat:=vw (dh a s' i).heap.length (fV a i)
structure At(ops:Array Oper)(es:List (St×aR))(s':St)(D:Nat->Prop)(s:St):Prop where
 tmp:∀x,∃k,k<=ops.size/\aN s.env x=aN (dh es s' k).env x/\∀i o,ops[i]?=some o->o.dst=some x->(D i↔i<k)
 len:s.heap.length=s'.heap.length
 heap:∀b,∃k,k<=ops.size/\s.heap[b]?=(hx s'.heap.length (dh es s' k))[b]?/\∀i,i<ops.size->b∈wr es s' i->(D i↔i<k)
variable(h:jz P n ops es s')
include h
theorem jz.mono:∀{k m:Nat},k<=m->m<=ops.size->(dh es s' k).heap.length<=(dh es s' m).heap.length:=by
 intro k m e f
 induction m with
 |zero=>
  obtain rfl:k=0:=by omega
  exact hN _
 |succ m c=>
  by_cases hk:k=m+1
  ·subst hk;exact hN _
  ·have d:=c (by omega) (by omega);have b:ops[m]?=some ops[m]:=a0 (by omega);obtain⟨_,a⟩:=h.at_ m _ b;rw[a];simp only[aR.app,g7,pI];omega
theorem jz.last:dh es s' ops.size=s':=by
 have:es[ops.size]?=none:=ht (by rw[h.len];exact hN _);simp[dh,this]
theorem jz.xX{k:Nat}(hk:k<=ops.size):(dh es s' k).heap.length<=s'.heap.length:=by
 have:=h.mono hk (hN _)
 rwa [h.last]at this
theorem jz.iD{k:Nat}(hk:k<ops.size):hx s'.heap.length (dh es s' (k+1))=bm (hx s'.heap.length (dh es s' k)) ((fV es k).aL++newAt (dh es s' k).heap.length (fV es k).aP):=by
 have c:ops[k]?=some ops[k]:=a0 hk;obtain⟨h1,b⟩:=h.at_ k _ c;have a:=h.xX (k:=k+1) hk;rw[b]at a⊢;exact aAB h1.aL a
theorem aAA{k:Nat}(hk:k<=ops.size):(hx s'.heap.length (dh es s' k)).length=s'.heap.length:=by
 have:=h.xX hk;simp[hx];omega
theorem jz.LJ{x:Nat}:∀{k m:Nat},k<=m->m<=ops.size->(∀i o,k<=i->i<m->ops[i]?=some o->o.dst≠some x)->aN (dh es s' m).env x=aN (dh es s' k).env x:=by
 intro k m j
 induction m with
 |zero=>
  intro _ _;obtain rfl:k=0:=by omega
  rfl
 |succ m g=>
  intro l d
  by_cases hk:k=m+1
  ·subst hk;rfl
  ·have e:=g (by omega) (by omega) (fun i o a b=>d i o a (by omega));have c:ops[m]?=some ops[m]:=a0 (by omega);obtain⟨_,f⟩:=h.at_ m _ c;rw[f];simp only[aR.app,wx];rw[if_neg (d m _ (by omega) (by omega) c)];exact e
theorem jz.Lf{b:Nat}:∀{k m:Nat},k<=m->m<=ops.size->(∀i,k<=i->i<m->b∉wr es s' i)->(hx s'.heap.length (dh es s' m))[b]?=(hx s'.heap.length (dh es s' k))[b]?:=by
 intro k m f
 induction m with
 |zero=>
  intro _ _;obtain rfl:k=0:=by omega
  rfl
 |succ m e=>
  intro g c
  by_cases hk:k=m+1
  ·subst hk;rfl
  ·have d:=e (by omega) (by omega) (fun i a b=>c i a (by omega));rw[h.iD (by omega),zm (c m (by omega) (by omega))];exact d
theorem jz.M5{x:Nat}{k m:Nat}(hk:k<=ops.size)(g:m<=ops.size)(f:∀i o,ops[i]?=some o->o.dst=some x->(i<k↔i<m)):aN (dh es s' m).env x=aN (dh es s' k).env x:=by
 rcases hV k m with d|d
 ·exact h.LJ d g fun i o a b e c=>by have:=f i o e c;omega
 ·exact(h.LJ d hk fun i o a b e c=>by have:=f i o e c;omega).symm
theorem jz.MN{b:Nat}{k m:Nat}(hk:k<=ops.size)(g:m<=ops.size)(f:∀i,i<ops.size->b∈wr es s' i->(i<k↔i<m)):(hx s'.heap.length (dh es s' m))[b]?=(hx s'.heap.length (dh es s' k))[b]?:=by
 rcases hV k m with e|e
 ·exact h.Lf e g fun i a c d=>by have:=f i (by omega) d;omega
 ·exact(h.Lf e hk fun i a c d=>by have:=f i (by omega) d;omega).symm
variable{D:Nat->Prop}(hc:xu ops D)
include hc
theorem jz.order{i:Nat}{o:Oper}(k:ops[i]?=some o)(h:¬D i)(l:∀e∈o.after,fd .any e=true->D e.on):
 (∀j,j<i->reach ops ops.size j i=true->D j)/\(∀j,j<ops.size->i<j->reach ops ops.size i j=true->¬D j):=by
 constructor
 ·intro j g b;exact Cu hc _ _ _ b (fun o' a=>by rw[k]at a;cases a;exact l)
 ·intro j m g b d;exact h (Cu hc _ _ _ b (fun o' a e f c=>hc j o' a d e f c))
theorem jz.reads{i:Nat}{o:Oper}(l:ops[i]?=some o)(q:¬D i)(y:∀e∈o.after,fd .any e=true->D e.on){s:St}(t:At ops es s' D s):
 (∀x∈looks ops o,aN s.env x=aN (dh es s' i).env x)/\(∀b,b∈(fV es i).al.map (·.1)\/b∈wr es s' i->s.heap[b]?=(hx s'.heap.length (dh es s' i))[b]?):=by
 obtain⟨v,w⟩:=h.order hc l q y;have hi:i<ops.size:=(aT.1 l).1;constructor
 ·intro x hx;obtain⟨k,k1,k2,k3⟩:=t.tmp x;rw[k2];refine h.M5 (by omega) k1 fun j u m p=>?_;have g:j<ops.size:=(aT.1 m).1;rw[<-k3 j u m p];constructor
  ·intro a;refine v j a (h.tmps j i u o a m l ?_);simp[rE,p,hx]
  ·intro f;rcases hO j i with a|rfl|a
   ·exact a
   ·exact(q f).elim
   ·exact(w j g a (h.tmps i j o u a l m (by simp[rE,p,hx])) f).elim
 ·intro b c;obtain⟨k,k1,k2,k3⟩:=t.heap b;rw[k2];refine h.MN (by omega) k1 fun j g n=>?_;rw[<-k3 j g n];have r:b∈(iu j (dh es s' j).heap.length (fV es j)).wr:=by
   unfold wr vw at n;rw[hl,tW]at n;exact n
  have d:b∈(iu i (dh es s' i).heap.length (fV es i)).rd\/b∈(iu i (dh es s' i).heap.length (fV es i)).wr:=by
   rcases c with c|c
   ·exact .inl c
   ·unfold wr vw at c;rw[hl,tW]at c;exact .inr c
  constructor
  ·intro a;refine v j a (h.heap j i a hi ?_);simp only[jK,bo,hj,hh];exact .inl ⟨b,r,d⟩
  ·intro f;rcases hO j i with a|rfl|a
   ·exact a
   ·exact(q f).elim
   ·refine(w j g a (h.heap i j a g ?_) f).elim;simp only[jK,bo,hj,hh];rcases d with d|d
    ·exact .inr ⟨b,d,r⟩
    ·exact .inl ⟨b,d,.inr r⟩
theorem jz.next{i:Nat}{o:Oper}(l:ops[i]?=some o)(z:¬D i)(A:∀e∈o.after,fd .any e=true->D e.on){s:St}(p:At ops es s' D s):
 At ops es s' (fun j=>D j\/j=i) ⟨put o.dst (fV es i).v s.env,bm s.heap ((fV es i).aL++newAt (dh es s' i).heap.length (fV es i).aP)⟩:=by
 obtain⟨w,y⟩:=h.order hc l z A;have hi:i<ops.size:=(aT.1 l).1;obtain⟨B,iD⟩:=h.at_ i o l;refine⟨fun x=>?_,by simp only[pI];exact p.len,fun b=>?_⟩
 ·by_cases hx:o.dst=some x
  ·refine⟨i+1,hi,?_,fun j u d n=>?_⟩
   ·rw[iD];simp[aR.app,wx,hx]
   ·have g:j<ops.size:=(aT.1 d).1;constructor
    ·rintro(c|rfl)
     ·rcases hO j i with a|rfl|a
      ·omega
      ·omega
      ·exact(y j g a (h.tmps i j o u a l d (by simp[rE,n,hx])) c).elim
     ·omega
    ·intro a
     by_cases q:j=i
     ·exact .inr q
     ·exact .inl (w j (by omega) (h.tmps j i u o (by omega) d l (by simp[rE,n,hx])))
  ·obtain⟨k,k1,k2,k3⟩:=p.tmp x;refine⟨k,k1,?_,fun j u d n=>?_⟩
   ·simp only[wx];rw[if_neg hx];exact k2
   ·rw[<-k3 j u d n];constructor
    ·rintro(c|rfl)
     ·exact c
     ·rw[l]at d;cases d;exact(hx n).elim
    ·exact .inl
 ·by_cases f:b∈wr es s' i
  ·refine⟨i+1,hi,?_,fun j g m=>?_⟩
   ·rw[h.iD hi];exact Wz f _ _ (by rw[aAA h (by omega)];exact p.len)
   ·have t:b∈(iu j (dh es s' j).heap.length (fV es j)).wr:=by
     unfold wr vw at m;rw[hl,tW]at m;exact m
    have r:b∈(iu i (dh es s' i).heap.length (fV es i)).wr:=by
     unfold wr vw at f;rw[hl,tW]at f;exact f
    constructor
    ·rintro(c|rfl)
     ·rcases hO j i with a|rfl|a
      ·omega
      ·omega
      ·refine(y j g a (h.heap i j a g ?_) c).elim;simp only[jK,bo,hj,hh];exact .inl ⟨b,r,.inr t⟩
     ·omega
    ·intro a
     by_cases q:j=i
     ·exact .inr q
     ·refine .inl (w j (by omega) (h.heap j i (by omega) hi ?_));simp only[jK,bo,hj,hh];exact .inl ⟨b,t,.inr r⟩
  ·obtain⟨k,k1,k2,k3⟩:=p.heap b;refine⟨k,k1,?_,fun j g m=>?_⟩
   ·simp only;rw[zm f];exact k2
   ·rw[<-k3 j g m];constructor
    ·rintro(c|rfl)
     ·exact c
     ·exact(f m).elim
    ·exact .inl
end sched
end
section
variable{P:bw}{ag:b3->Bool}{n:Nat}
variable{ops:Array Oper}{es:List (St×aR)}{s':St}
theorem cN.congr{ah ad:Nat->Prop}{β:Bd}{s u:St}{t:Array b5}{w:cb}(h:cN P n ah ad β s t w)(b:∀x,aN u.env x=aN s.env x)(a:u.heap=s.heap):cN P n ah ad β u t w:=by
 refine⟨by rw[a];exact h.heap,fun x=>?_,fun x=>?_,h.size⟩
 ·rw[b,a];exact h.env x
 ·rw[b,a];exact h.gZ x
theorem cN.qy{ah ad:Nat->Prop}{β:Bd}{s:St}{t:Array b5}{w:cb}(m:Nat)(h:cN P n ah ad β s t w):cN P n ah ad β ⟨s.env,s.heap++g0 m .hole⟩ t w:=
 ⟨h.heap.qy m,fun x=>aB.mono (fun _ x=>x) (fun _ _=>rfl) (rj β s.heap m) _ _ (h.gZ x) (h.env x),fun x=>aE.mono (oD _ _) _ (h.gZ x),h.size⟩
theorem Yt{o:Oper}{e e':Env}(h:∀x∈looks ops o,aN e' x=aN e x):∀x∈o.op.operands,ev e' x=ev e x:=by
 intro x hx;cases x with
 |tmp t=>
  simp only[ev];refine h t ?_;simp only[looks,hK,List.mem_filterMap];exact .inl ⟨.tmp t,by simpa using hx,rfl⟩
 |_=>rfl
theorem jz.run(h:jz P n ops es s'){D:Nat->Prop}(hc:xu ops D){i:Nat}{o:Oper}(a:ops[i]?=some o)(x:¬D i)(z:∀e∈o.after,fd .any e=true->D e.on){s:St}(m:At ops es s' D s)
 {fr:cd}{k:List Item}{cs:List cd}{r:List Nat}{ds:List ck}{ah ad:Nat->Prop}{β:Bd}{t:Array b5}{w:cb}(b:cN P n ah ad β s t w):
 ∃u aF aK d w',dl P (lone (bD fr t ds (.inRegion ops (i::r)::k)) cs w) (lone (bD fr d ds (.inRegion ops r::k)) cs w')/\cN P n ah aF aK u d w'/\(∀N,dS N ah ad w β s.heap ah aF w' aK u.heap)/\At ops es s' (fun j=>D j\/j=i) u:=by
 obtain⟨g,A⟩:=h.reads hc a x z m;have hi:i<ops.size:=(aT.1 a).1;obtain⟨v,_⟩:=h.at_ i o a;have c:=h.next hc a x z m;have q:jy n o=true:=h.dst o (by rw[Array.mem_toList_iff];exact Array.mem_of_getElem? a);have H:=h.xX (k:=i) (by omega);rcases v.act with⟨f,C⟩|⟨f,E⟩
 ·obtain⟨aF,aK,d,w',B,a2,a3⟩:=C fr k cs ops i r ds ah ad β s t w a (f t s ah ad β w b g) q b (Yt g) (by
   intro p y;rw[A p.1 (.inl (hE y))];have:=v.al p y;unfold hx;rw[hm (gy.1 this).1];exact this) (by
   intro j G;have F:(dh es s' i).heap.length+j∈wr es s' i:=by
    unfold wr vw;rw[hl,tW];exact List.mem_append_right _ (Jl.2 ⟨by omega,by omega⟩)
   rw[A _ (.inr F)];have l:=h.xX (k:=i+1) (by omega);rw[(h.at_ i o a).2]at l;simp only[aR.app,g7,pI]at l;unfold hx;rw[lS,if_neg (by omega),if_pos (by omega)])
  exact⟨_,aF,aK,d,w',B,a2,a3,c⟩
 ·rw[E]at c;simp only[newAt,hb,bm]at c;exact⟨_,ad,β,_,w,.one (KL a (f t s ah ad β w b g)),b.put q (bZ.refl b.heap) (by simp[aB,aD,bK,undef]) (by simp[aE]),fun _=>dS.refl _ _ _ _ _ _,c⟩
def isDone(a:Array Bool)(i:Nat):Prop:=a.getD i false=true
theorem JX{p:Nat->Bool}{i:Nat}:∀{l:List Nat},l.Nodup->i∈l->p i=true->l.countP p=l.countP (fun x=>p x&&x !=i)+1
 |[],_,h,_=>by simp at h
 |a::l,c,h,d=>by
  rw[List.nodup_cons]at c
  by_cases b:a=i
  ·subst b;have e:l.countP (fun x=>p x&&x !=a)=l.countP p:=by
    refine hH fun x hx=>?_;have:x≠a:=fun e=>c.1 (e▸hx);simp[this]
   simp[d,e]
  ·have f:i∈l:=by
    rcases hd.1 h with h|h
    ·exact(b h.symm).elim
    ·exact h
   have g:=JX c.2 f d;rw[hJ,hJ,g];have:(a !=i)=true:=by simpa using b
   simp only[this,Bool.and_true];omega
def left(b:Array Oper)(a:Array Bool):Nat:=(ho b.size).countP fun i=>!a.getD i true
theorem jz.goes(h:jz P n ops es s'){fr:cd}{k:List Item}{cs:List cd}{ds:List ck}{ah:Nat->Prop}:∀(c b:Nat)(a:Array Bool)(s:St)(ad:Nat->Prop)(β:Bd)(t:Array b5)(w:cb),a.size=ops.size->left ops a<=c->xu ops (isDone a)->
 At ops es s' (isDone a) s->cN P n ah ad β s t w->
 ∃u D aF aK R w',dl P (lone (bD fr t ds (.inRegion ops (fm .any ops c b a [])::k)) cs w) (lone (bD fr R ds (.inRegion ops []::k)) cs w')/\cN P n ah aF aK u R w'/\(∀N,dS N ah ad w β s.heap ah aF w' aK u.heap)/\At ops es s' D u/\∀j,j<ops.size->D j:=by
 have L:∀(a:Array Bool),a.size=ops.size->fa .any ops a=[]->∀j,j<ops.size->isDone a j:=by
  intro a q f j
  induction j using hT with
  |_ j K=>
   intro d
   by_cases A:isDone a j
   ·exact A
   ·exfalso;have G:j<a.size:=by omega
    have:j∈fa .any ops a:=by
     rw[c9];refine⟨?_,ops[j],a0 d,fun e B z=>?_⟩
     ·unfold isDone at A;simp only[bb,a0 G,hW]at A⊢;simpa using A
     ·have H:=h.lower j _ (a0 d) e B z;exact K e.on H (by omega)
    rw[f]at this;simp at this
 intro c
 induction c with
 |zero=>
  intro b a s ad β t w q O hc y C;have f:fa .any ops a=[]:=by
   rw[List.eq_nil_iff_forall_not_mem];intro j d;rw[c9]at d;obtain⟨g,o,m,_⟩:=d;have G:j<ops.size:=(aT.1 m).1;have:0<left ops a:=by
    unfold left;rw[List.countP_pos_iff];exact⟨j,by simpa using G,by rw[g];rfl⟩
   omega
  exact⟨s,isDone a,ad,β,t,w,by simp only[fm,List.reverse_nil];exact gj _ _,C,fun _=>dS.refl _ _ _ _ _ _,y,L a q f⟩
 |succ c K=>
  intro b a s ad β t w q O hc y C;have ab:fm .any ops (c+1) b a []=(match(fa .any ops a)[b% (fa .any ops a).length]? with
   |some i=>fm .any ops c (b/(fa .any ops a).length) (a.setIfInBounds i true) [i]
   |none=>[].reverse):=rfl
  rw[ab];cases hi:(fa .any ops a)[b% (fa .any ops a).length]? with
  |none=>
   have f:fa .any ops a=[]:=by
    cases f:fa .any ops a with
    |nil=>rfl
    |cons x xs=>
     rw[f]at hi;have H:b% (x::xs).length<(x::xs).length:=Nat.mod_lt _ (by simp);rw[g9 H]at hi;cases hi
   exact⟨s,isDone a,ad,β,t,w,gj _ _,C,fun _=>dS.refl _ _ _ _ _ _,y,L a q f⟩
  |some i=>
   simp only;rw[linearise_go_acc,List.reverse_singleton,List.singleton_append];have af:=List.mem_of_getElem? hi;obtain⟨g,o,m,Q⟩:=c9.1 af;have ac:i<ops.size:=(aT.1 m).1;have E:i<a.size:=by omega
   have ag:¬isDone a i:=by
    unfold isDone;simp only[bb,a0 E,hW]at g⊢;simp[g]
   obtain⟨u,S,aj,t1,w1,U,a2,a3,a4⟩:=h.run (fr:=fr) (k:=k) (cs:=cs) (ds:=ds) (r:=fm .any ops c (b/(fa .any ops a).length) (a.setIfInBounds i true) []) hc m ag Q y C;have M:(fun j=>isDone a j\/j=i)=isDone (a.setIfInBounds i true):=by
    funext j
    unfold isDone
    by_cases F:j=i
    ·subst F;simp[E]
    ·have:(a.setIfInBounds i true).getD j false=a.getD j false:=dg false (Ne.symm F);rw[this];simp[F]
   rw[M]at a4;have aa:xu ops (isDone (a.setIfInBounds i true)):=by
    rw[<-M];intro j o' I d e B z;rcases d with d|rfl
    ·exact .inl (hc j o' I d e B z)
    ·rw[m]at I;cases I;exact .inl (Q e B z)
   have ae:left ops (a.setIfInBounds i true)<=c:=by
    have al:=JX (p:=fun j=>!a.getD j true) (i:=i) (l:=ho ops.size) List.nodup_range (by simpa using ac) (by show(!a.getD i true)=true;rw[g];rfl);have:left ops (a.setIfInBounds i true)=(ho ops.size).countP (fun x=>!a.getD x true&&x !=i):=by
     unfold left;refine hH fun x hx=>?_
     by_cases J:x=i
     ·subst J;simp[E]
     ·have:(a.setIfInBounds i true).getD x true=a.getD x true:=dg true (Ne.symm J);rw[this];simp[J]
    unfold left at O;omega
   obtain⟨v,D,T,ak,t2,ai,V,W,X,Y,Z⟩:=K (b/(fa .any ops a).length) (a.setIfInBounds i true) u S aj t1 w1 (by simpa using q) ae aa a4 a2;exact⟨v,D,T,ak,t2,ai,U.trans V,W,fun N=>(a3 N).trans (X N),Y,Z⟩
theorem Yr(h:fit n ops=true):(∀j o,ops[j]?=some o->∀e∈o.after,fd .any e=true->e.on<j)/\
 (∀i j u o,i<j->ops[i]?=some u->ops[j]?=some o->rE ops u o=true->reach ops ops.size i j=true):=by
 unfold fit at h;rw[he]at h;constructor
 ·intro j o a e f c;have b:j<ops.size:=(aT.1 a).1;have:=h j (by simpa using b);rw[a]at this;simp only[bl,he]at this;have:=this.1 e (by simpa using f);simpa[c]using this
 ·intro i j u o g k a d;have b:j<ops.size:=(aT.1 a).1;have:=h j (by simpa using b);rw[a]at this;simp only[bl,he]at this;have:=this.2 i (by simpa using g);rw[k]at this;simpa[d]using this
theorem yZ(C:mr P ag)(Z:P.follows .mixedOrders=true):tZ P ag fit:=by
 intro n N a fr k cs F f K s ah ad β t w T B h aa;obtain⟨es,s',I,J,M⟩:=LI C B a.toList 0 [] s (fun _ h=>h) h;obtain⟨t1,t2,t3⟩:=I.at;obtain⟨_,_,O⟩:=Kb es 0 [] M;obtain⟨f1,f2⟩:=Yr (n:=n) T;have X:es.length=a.size:=by simpa using t1
 have hs:jz P n a es s':=by
  refine⟨X,fun k o c=>t3 k o (by simpa using c),B,f1,f2,fun i j U ai v=>?_⟩;have hi:i<es.length:=by omega
  have A:j<es.length:=by omega
  have G:es[i]?=some (es[i].1,es[i].2):=by simp[g9 hi]
  have H:es[j]?=some (es[j].1,es[j].2):=by simp[g9 A]
  have:=O i j es[i].1 es[i].2 es[j].1 es[j].2 U G H;simp only[hU]at this;refine this ?_;have g:dh es s' i=es[i].1/\fV es i=es[i].2:=by simp[dh,fV,g9 hi]
  have q:dh es s' j=es[j].1/\fV es j=es[j].2:=by simp[dh,fV,g9 A]
  rw[g.1,g.2,q.1,q.2]at v;exact v
 have V:=hs.xX (k:=0) (hR _);rw[t2]at V;obtain⟨m,Y⟩:∃m,m=s'.heap.length-s.heap.length:=⟨_,rfl⟩
 have ab:=aa.qy m;have Q:∀N,dS N ah ad w β s.heap ah ad w β (s.heap++g0 m .hole):=fun N=>⟨fun _ x=>x,fun _ x=>x,fun _ x=>.inl x,Ext.refl _ _ _,(rj _ _ _).n,fun x _=>oD _ _ x,fun b _⟨L,r⟩=>⟨L,by rw[lS,if_pos (gy.1 r).1];exact r⟩⟩
 have ac:fl (P.follows .mixedOrders) a f=fm .any a a.size f (a6 a.size false) []:=by
  simp[fl,Z,Region.linearise]
 have e:∀i,¬isDone (a6 a.size false) i:=by
  intro i hi;unfold isDone at hi
  by_cases z:i<a.size
  ·simp[z]at hi
  ·simp[z]at hi
 have R:At a es s' (isDone (a6 a.size false)) ⟨s.env,s.heap++g0 m .hole⟩:=by
  refine⟨fun x=>⟨0,hR _,by rw[t2],fun i o _ _=>⟨fun h=>(e i h).elim,fun h=>by omega⟩⟩,by simp;omega,fun b=>⟨0,hR _,by rw[t2];unfold hx;rw[<-Y],fun i _ _=>⟨fun h=>(e i h).elim,fun h=>by omega⟩⟩⟩
 have W:left a (a6 a.size false)<=a.size:=by
  unfold left;have:=List.countP_le_length (p:=fun i=>!(a6 a.size false).getD i true) (l:=ho a.size);simpa using this
 obtain⟨u,D,aF,aK,af,w',E,a2,a3,a4,a5⟩:=hs.goes (fr:=fr) (k:=k) (cs:=cs) (ds:=F) a.size f (a6 a.size false) _ ad β t w (by simp) W (fun j o c d=>(e j d).elim) R ab;rw[ac];have S:∀x,aN s'.env x=aN u.env x:=by
  intro x;obtain⟨k,k1,k2,k3⟩:=a4.tmp x;rw[k2];have:=hs.M5 (x:=x) k1 (hN a.size) (fun i o c d=>by
   have hi:i<a.size:=(aT.1 c).1;have:=(k3 i o c d).1 (a5 i hi);exact⟨fun _=>hi,fun _=>this⟩)
  rw[hs.last]at this;exact this
 have y:s'.heap=u.heap:=by
  apply List.ext_getElem?;intro b;obtain⟨k,k1,k2,k3⟩:=a4.heap b;rw[k2];have:=hs.MN (b:=b) k1 (hN a.size) (fun i hi ae=>by
   have:=(k3 i hi ae).1 (a5 i hi);exact⟨fun _=>hi,fun _=>this⟩)
  rw[hs.last]at this;rw[<-this];simp[hx]
 exact⟨s',aF,aK,af,w',J,E,a2.congr S y,(Q N).trans (y▸a3 N)⟩
end
section
variable{P:bw}
structure ar(P:bw)(f:b3)(fn:Func):Prop where
 func:P.funcs[f]?=some fn
 stat:(fn.body.isSome&&(fn.name != "runtime.NumGoroutine")&&codeOk fit fn.ntmps (fn.body.getD .skip))=true
theorem ar.enters{f:b3}{fn:Func}(h:ar P f fn):Enters P f:=by
 intro args w;have hs:=h.stat;simp only[bl,bne_iff_ne]at hs;cases a:fn.body with
 |none=>rw[a]at hs;simp at hs
 |some c=>simp[callFunc,h.func,hs.1.2,a]
def Ends(P:bw)(a:List ResultVar)(v:PV)(e:bA)(s:St):Prop:=
 (match e with
  | .exit _=>False
  |_=>True)/\∃vs,fY P s a=some vs/\eM s.heap 9 (oneOf vs)=some v
theorem Bi{f:b3}{fn:Func}(ag:b3->Bool)(h:ar P f fn)(b:P.follows .mixedOrders=true){args:List PV}{v:PV}(c:args.length<=fn.ntmps)
 (d:cg P ag (fn.ntmps,0) (fn.body.getD .skip) (Ends P fn.results.toList v) ⟨jl 0 (args.map .p),[]⟩):au P f args v:=by
 have hs:=h.stat;simp only[bl,bne_iff_ne]at hs;have a:fn.body=some (fn.body.getD .skip):=by
  have:=hs.1.1;cases e:fn.body<;>simp_all
 exact .inl (Ma (pJ ag) (yZ (pJ ag) b) h.enters h.func a hs.2 c d)
class aME(P:bw)(f:b3)(args:List PV)(pre:outParam Prop)(v:outParam PV):Prop where
 Bi:pre->au P f args v
section calls
variable{f:b3}{H:aj}{pre:Prop}{v:PV}
end calls
def sV(e:Env):Env->Prop
 |[]=>True
 |(x,v)::r=>aN e x=v/\sV e r
def lh:aj->aj->Prop
 |_,[]=>True
 |[],.hole::t=>lh [] t
 |_::h,.hole::t=>lh h t
 |o::h,o'::t=>o=o'/\lh h t
 |[],_::_=>False
theorem sV.get{e:Env}:∀{t:Env},sV e t->∀x,aN t x=aN e x\/aN t x=.p .undef
 |[],_,x=>.inr rfl
 |(y,v)::t,h,x=>by
  simp only[sV]at h;simp only[aN]
  split
  ·rename_i hx;subst hx;exact .inl h.1.symm
  ·exact sV.get h.2 x
theorem lh.get:∀{h t:aj},lh h t->∀(b:Nat)(o:Obj),t[b]?=some o->o=.hole\/h[b]?=some o
 |_,[],_,b,o,a=>by simp at a
 |[],o'::t,hk,b,o,a=>by
  cases o'<;>simp only[lh]at hk;cases b with
  |zero=>simp at a;exact .inl a.symm
  |succ b=>exact(lh.get hk b o (by simpa using a)).imp id (fun h=>by simp at h)
 |c::h,o'::t,hk,b,o,a=>by
  cases b with
  |zero=>
   simp at a;cases o'<;>simp only[lh]at hk
   case hole=>exact .inl a.symm
   all_goals exact .inr (by rw[<-a,<-hk.1];simp)
  |succ b=>
   have:lh h t:=by cases o'<;>simp only[lh]at hk<;>first|exact hk|exact hk.2
   exact(lh.get this b o (by simpa using a)).imp id (fun h=>by simpa using h)
def iQ(H:aj):Env->Prop
 |[]=>True
 |(_,v)::r=>aE (aJ H) v/\iQ H r
def dK(H:aj):aj->Prop
 |[]=>True
 |o::r=>o.refs (aJ H)/\dK H r
theorem iQ.get{H:aj}:∀{e:Env},iQ H e->∀x,aE (aJ H) (aN e x)
 |[],_,x=>by simp[aN,aE]
 |(y,v)::e,h,x=>by
  simp only[iQ]at h;simp only[aN]
  split
  ·exact h.1
  ·exact iQ.get h.2 x
theorem dK.get{H:aj}:∀{h:aj},dK H h->∀(b:Nat)(o:Obj),h[b]?=some o->o.refs (aJ H)
 |[],_,b,o,a=>by simp at a
 |c::h,hr,b,o,a=>by
  simp only[dK]at hr;cases b with
  |zero=>simp at a;subst a;exact hr.1
  |succ b=>exact dK.get hr.2 b o (by simpa using a)
theorem qo.of{s t:St}(a:sV s.env t.env)(c:lh s.heap t.heap)(e:iQ t.heap t.env)(f:dK t.heap t.heap):qo s t:=
 ⟨fun x=>(a.get x).imp id .inl,fun b o d=>(c.get b o d).imp id .inl,e.get,f.get⟩
theorem de.of{N:Nat}{s t:St}(e:t.heap.take N=s.heap.take N)(c:sV s.env t.env)(d:lh s.heap t.heap)(f:iQ t.heap t.env)(g:dK t.heap t.heap):de N s t:=by
 refine .inr ⟨qo.of c d f g,fun b a=>?_⟩;have:=congrArg (fun l:aj=>l[b]?) e;simpa[List.getElem?_take,a]using this
theorem QV{f:b3}{fn:Func}(ag:b3->Bool)(h:ar P f fn)(b:P.follows .mixedOrders=true){args:List AV}{H H':aj}{v:AV}(c:args.length<=fn.ntmps)
 (d:cg P ag (fn.ntmps,H.length) (fn.body.getD .skip) (uS P fn.results.toList H.length H' v) ⟨jl 0 args,H⟩):cS P f H args H' v:=by
 have hs:=h.stat;simp only[bl,bne_iff_ne]at hs;have a:fn.body=some (fn.body.getD .skip):=by
  have:=hs.1.1;cases e:fn.body<;>simp_all
 exact Yq (pJ ag) (yZ (pJ ag) b) h.enters h.func a hs.2 c d
theorem QW(ag:b3->Bool)(f:P.follows .mixedOrders=true){b:Nat}{L:ek}{H H':aj}{args:List AV}{v:AV}(d:H[b]?=some (.loop L))(e:args.length=L.params.length)
 (a:(L.params.all (fun x=>decide (x<L.n))&&codeOk fit L.n L.assign&&codeOk fit L.n L.body)=true)(g:zO P ag L b args H (fun c h=>h=v/\de H.length ⟨[],c⟩ ⟨[],H'⟩)):fJ P b H args H' v:=by
 simp only[bl,he,decide_eq_true_eq]at a;exact Yo (pJ ag) (yZ (pJ ag) f) d e a.1.1 a.1.2 a.2 g
theorem again{N:Nat}{α:Type}{mk:α->St}{ok:α->Prop}{m:α->Nat}{n:Nat}{s':St}(a':α)(c:m a'<n)(d:ok a')(e:de N s' (mk a')):∃a b,a<n/\de N s' b/\∃a',ok a'/\b=mk a'/\a=m a':=
 ⟨m a',mk a',c,e,a',d,rfl,rfl⟩
end
section
variable{P:bw}{ag:b3->Bool}
def aQ{α:Type}(F:(α->Prop)->Prop):Prop:=∀K,F K->∃a,K a/\∀b:α->Prop,b a->F b
theorem aQ.one{α β:Type}(f:β->α)(b:β):aQ (fun K:α->Prop=>K (f b)):=fun _ h=>⟨f b,h,fun _ h=>h⟩
theorem aQ.false{α:Type}:aQ (fun _:α->Prop=>False):=fun _ h=>h.elim
theorem aQ.and{α:Type}{p:Prop}{F:(α->Prop)->Prop}(h:aQ F):aQ (fun K=>p/\F K):=fun K hk=>by
 obtain⟨a,c,d⟩:=h K hk.2;exact⟨a,c,fun b h=>⟨hk.1,d b h⟩⟩
theorem aQ.ex{α:Type}{β:Sort _}{F:β->(α->Prop)->Prop}(h:∀b,aQ (F b)):aQ (fun K=>∃b,F b K):=fun K⟨b,f⟩=>by
 obtain⟨a,d,e⟩:=h b K f;exact⟨a,d,fun c h=>⟨b,e c h⟩⟩
theorem aQ.or{α:Type}{F G:(α->Prop)->Prop}(h:aQ F)(e:aQ G):aQ (fun K=>F K\/G K):=fun K hk=>by
 rcases hk with hk|hk
 ·obtain⟨a,c,d⟩:=h K hk;exact⟨a,c,fun b h=>.inl (d b h)⟩
 ·obtain⟨a,c,d⟩:=e K hk;exact⟨a,c,fun b h=>.inr (d b h)⟩
theorem aQ.ite{α:Type}{p:Prop}[Decidable p]{F G:(α->Prop)->Prop}(h:aQ F)(f:aQ G):aQ (fun K=>if p then F K else G K):=fun K hk=>by
 split at hk
 ·rename_i e;obtain⟨a,c,d⟩:=h K hk;exact⟨a,c,fun b h=>by simpa[e]using d b h⟩
 ·rename_i e;obtain⟨a,c,d⟩:=f K hk;exact⟨a,c,fun b h=>by simpa[e]using d b h⟩
theorem aQ.bind{α β:Type}{F:(α->Prop)->Prop}{G:α->(β->Prop)->Prop}(h:aQ F)(d:∀a,aQ (G a)):aQ (fun K=>F (fun a=>G a K)):=fun K hk=>by
 obtain⟨a,e,f⟩:=h _ hk;obtain⟨b,g,i⟩:=d a K e;exact⟨b,g,fun c h=>f _ (i c h)⟩
theorem aQ.map{α β:Type}{F:(α->Prop)->Prop}(h:aQ F)(f:α->β):aQ (fun K=>F (fun a=>K (f a))):=h.bind fun a=>aQ.one f a
theorem WX(T:b0)(H:aj)(a:AV):aQ (oQ P T H a):=by
 unfold oQ
 repeat' first
  |exact aQ.false
  |exact aQ.one id _
  |refine aQ.and ?_
  |refine aQ.ex fun _=>?_
  |split
theorem Wx(T:b0)(H:aj)(a x:AV):aQ (oG P T H a x):=by
 unfold oG
 repeat' first
  |exact aQ.false
  |exact aQ.one id _
  |refine aQ.and ?_
  |refine aQ.ex fun _=>?_
  |split
theorem Ui(T:b0)(a:AV)(f:Nat):aQ (ou P T a f):=by
 unfold ou
 repeat' first
  |exact aQ.false
  |exact aQ.one id _
  |refine aQ.and ?_
  |refine aQ.ex fun _=>?_
  |split
theorem Uh(T:b0)(H:aj)(a i:AV):aQ (ot P T H a i):=by
 unfold ot
 repeat' first
  |exact aQ.false
  |exact aQ.one id _
  |refine aQ.and ?_
  |refine aQ.ex fun _=>?_
  |split
theorem U4(T X:b0)(H:aj)(s x:AV):aQ (ow P T X H s x):=by
 unfold ow
 repeat' first
  |exact aQ.false
  |exact aQ.one id _
  |refine aQ.and ?_
  |refine aQ.ex fun _=>?_
  |refine aQ.ite ?_ ?_
  |split
theorem LM{α:Type}{F:Nat->(α->Prop)->Prop}(x:Option AV)(d:Nat)(h:∀n,aQ (F n)):aQ (fun K=>gX x d (fun n=>F n K)):=by
 unfold gX
 split
 ·exact h _
 ·exact aQ.and (h _)
 ·exact aQ.false
theorem Wy(T:b0)(H:aj)(x:AV)(lo hi a:Option AV):aQ (oH P T H x lo hi a):=by
 unfold oH;refine aQ.and ?_
 repeat' first
  |exact aQ.false
  |exact aQ.one id _
  |refine aQ.and ?_
  |refine LM _ _ fun _=>?_
  |refine aQ.ite ?_ ?_
  |split
theorem U3(T:b0)(H:aj)(x:AV)(lo hi:Option AV)(m:AV):aQ (rF P T H x lo hi m):=by
 unfold rF
 repeat' first
  |exact aQ.false
  |exact aQ.one id _
  |refine aQ.and ?_
  |refine LM _ _ fun _=>?_
  |split
theorem XV(op:cv)(T:b0)(c:Bool)(H:aj)(x y:AV)(f:PV->aR):aQ (fun K:aR->Prop=>lg P op T c H x y (fun v=>K (f v))):=by
 unfold lg
 repeat' first
  |exact aQ.false
  |exact aQ.one f _
  |refine aQ.and ?_
  |(unfold qt;split)
  |(unfold qq;split)
  |split
theorem DG(o:Oper)(ρ:b2->AV)(H:aj):aQ (fT P ag o ρ H):=by
 unfold fT
 repeat' first
  |exact aQ.false
  |exact aQ.one id _
  |exact WX _ _ _
  |exact Wx _ _ _ _
  |exact Ui _ _ _
  |exact Uh _ _ _ _
  |exact Wy _ _ _ _ _ _
  |exact U3 _ _ _ _ _ _
  |exact U4 _ _ _ _ _
  |exact XV _ _ _ _ _ _ _
  |refine aQ.and ?_
  |refine aQ.ex fun _=>?_
  |refine aQ.ite ?_ ?_
  |refine aQ.or ?_ ?_
  |split
  |dsimp only
theorem KS(d:Bool)(f:b3)(args:List AV)(H:aj){α:Type}(g:AV->aj->α):aQ (fun K:α->Prop=>iy P d f args H (fun v H'=>K (g v H'))):=by
 unfold iy;refine aQ.or (aQ.ex fun vs=>aQ.ex fun v=>aQ.and (aQ.and ?_)) (aQ.and (aQ.or (aQ.ex fun vs=>aQ.ex fun H1=>aQ.ex fun v=>aQ.and (aQ.and ?_)) (aQ.or (aQ.ex fun H'=>aQ.ex fun v=>aQ.and ?_) (aQ.or (aQ.ex fun e=>aQ.and (aQ.and ?_)) (aQ.ex fun al=>aQ.ex fun v=>aQ.and (aQ.and ?_))))))
 ·exact aQ.one (fun v=>g (.p v) H) v
 ·exact aQ.one (fun v=>g (.p v) H1) v
 ·exact aQ.one (fun v=>g v H') v
 ·exact aQ.one (fun _:Unit=>g e.v (bm H e.aL++e.aP)) ()
 ·exact aQ.one (fun v=>g (.p v) H) v
theorem Kd(f:b3)(args:List AV)(H:aj):aQ (iF P f args H):=by
 unfold iF;refine aQ.or (aQ.ex fun vs=>aQ.ex fun v=>aQ.and (aQ.and (aQ.one id _))) (aQ.or (aQ.ex fun vs=>aQ.ex fun bs=>aQ.ex fun al=>aQ.ex fun aL=>aQ.ex fun v=>aQ.and (aQ.and (aQ.and (aQ.one id _)))) (aQ.or (aQ.ex fun e=>aQ.and (aQ.and (aQ.one id _))) (aQ.ex fun al=>aQ.ex fun v=>aQ.and (aQ.and (aQ.one id _)))))
theorem KQ(d:Bool)(o:Oper)(s:St):aQ (fun K=>kg P ag d o K s):=by
 unfold kg
 split
 ·split
  ·exact KS _ _ _ _ (fun v H'=>(⟨put o.dst v s.env,H'⟩:St))
  ·exact KS _ _ _ _ (fun v H'=>(⟨put o.dst v s.env,H'⟩:St))
  ·exact aQ.ex fun H'=>aQ.ex fun v=>aQ.and (aQ.one (fun _:Unit=>(⟨put o.dst v s.env,H'⟩:St)) ())
  ·exact aQ.false
 ·exact(DG o _ _).map (fun e=>e.app o.dst s)
theorem KR(o:Oper)(s:St):aQ (jN P ag o s):=by
 unfold jN
 split
 ·split
  ·exact Kd _ _ _
  ·exact Kd _ _ _
  ·exact aQ.ex fun e=>aQ.and (aQ.and (aQ.one id _))
  ·exact aQ.false
 ·exact DG o _ _
theorem zG(d:Bool)(a:Array Oper):∀(l:List Oper)(s:St),aQ (fun K=>iA P ag d a l K s)
 |[],s=>by simp only[iA];exact aQ.one id s
 |o::l,s=>by
  have go:aQ (fun K=>kg P ag d o (iA P ag d a l K) s):=(KQ d o s).bind fun t=>zG d a l t;simp only[iA]
  split
  ·exact go
  ·split
   ·split
    ·exact go
    ·exact zG d a l _
   ·exact zG d a l _
   ·exact aQ.false
theorem zl(b:Array Oper):∀(l:List Oper)(i:Nat)(a:List Touch)(s:St),aQ (fun K=>gK P ag b l i a K s)
 |[],i,a,s=>by simp only[gK];exact aQ.and (aQ.one id s)
 |o::l,i,a,s=>by
  have go:aQ (fun K=>jN P ag o s fun e=>gK P ag b l (i+1) (gC i s.heap.length e a) K (e.app o.dst s)):=(KR o s).bind fun e=>zl b l (i+1) _ _;simp only[gK]
  split
  ·exact go
  ·split
   ·split
    ·exact go
    ·exact zl b l (i+1) a _
   ·exact zl b l (i+1) a _
   ·exact aQ.false
def AX(F:(bA->St->Prop)->Prop):Prop:=∀Q,F Q->∃e s,Q e s/\∀a:bA->St->Prop,a e s->F a
inductive xq(P:bw)(ag:b3->Bool)(q:Cx)(b:Code)(e:bA)(s:St):Nat->St->Prop
 |stop {k:Nat} {u:St}:(∀Q:bA->St->Prop,Q e s->cg P ag q b Q u)->e≠.normal->xq P ag q b e s k u
 |step {k m:Nat} {u s1 u':St}:(∀Q:bA->St->Prop,Q .normal s1->cg P ag q b Q u)->m<k->de q.2 s1 u'->xq P ag q b e s m u'->xq P ag q b e s k u
theorem WY(j:Option Code)(s:St):AX (fun Q=>jY Q j s):=fun Q h=>by
 unfold jY at h
 split at h
 ·exact⟨.normal,s,h,fun _ h=>h⟩
 ·rename_i id;exact⟨.exit id,s,h,fun _ h=>h⟩
 ·exact⟨.ret,s,h,fun _ h=>h⟩
 ·exact h.elim
theorem KP(b:Nat)(env:Env)(H:aj):AX (fun Q=>iO b env Q H):=fun Q h=>by
 unfold iO at h
 split at h
 ·rename_i L f;obtain⟨e,s,c,d⟩:=WY _ _ Q h.2;exact⟨e,s,c,fun a hq=>by unfold iO;simp only[f];exact⟨h.1,d a hq⟩⟩
 ·exact h.elim
theorem WG(it:AV)(b:Nat)(H:aj)(env:Env):AX (fun Q=>jH P it b H (iO b env Q)):=fun Q h=>by
 unfold jH at h
 split at h
 ·obtain⟨H',v,c,d⟩:=h;obtain⟨e,s,k1,k2⟩:=KP b env H' Q d;exact⟨e,s,k1,fun a hq=>by simp only[jH];exact⟨H',v,c,k2 a hq⟩⟩
 ·obtain⟨H',v,c,d⟩:=h;obtain⟨e,s,k1,k2⟩:=KP b env H' Q d;exact⟨e,s,k1,fun a hq=>by simp only[jH];exact⟨H',v,c,k2 a hq⟩⟩
 ·exact h.elim
theorem oc{q:Cx}:∀(c:Code)(s:St),AX (fun Q=>cg P ag q c Q s)
 | .skip,s| .label _,s=>fun Q h=>⟨.normal,s,h,fun _ h=>h⟩
 | .exit id,s=>fun Q h=>⟨.exit id,s,h,fun _ h=>h⟩
 | .ret,s=>fun Q h=>⟨.ret,s,h,fun _ h=>h⟩
 | .region id ops draw,s=>fun Q h=>by
  simp only[cg]at h⊢
  split at h
  ·rename_i l;obtain⟨t,d,g⟩:=zl ops _ _ _ _ _ h;exact⟨.normal,t,d,fun Q' h=>by simp only[l,if_true];exact g _ h⟩
  ·rename_i l;obtain⟨t,d,g⟩:=zG _ ops _ _ _ h;exact⟨.normal,t,d,fun Q' h=>by rw[if_neg l];exact g _ h⟩
 | .seq a b,s=>fun Q h=>by
  simp only[cg]at h⊢;obtain⟨e,t,d,g⟩:=oc a s _ h;cases e with
  |normal=>
   obtain⟨e',r,k,y⟩:=oc b t _ d;exact⟨e',r,k,fun Q' h=>g _ (y Q' h)⟩
  |exit id=>exact⟨.exit id,t,d,fun Q' h=>g _ h⟩
  |ret=>exact⟨.ret,t,d,fun Q' h=>g _ h⟩
 | .cond c a b,s=>fun Q h=>by
  simp only[cg]at h⊢
  split at h
  ·split at h
   ·rename_i p;obtain⟨e,t,d,g⟩:=oc a s _ h;exact⟨e,t,d,fun Q' h=>by rw[if_pos p];exact g _ h⟩
   ·rename_i p;obtain⟨e,t,d,g⟩:=oc b s _ h;exact⟨e,t,d,fun Q' h=>by rw[if_neg p];exact g _ h⟩
  ·exact h.elim
 | .block id b,s=>fun Q h=>by
  simp only[cg]at h⊢;obtain⟨e,t,d,g⟩:=oc b s _ h;cases e with
  |normal=>exact⟨.normal,t,d,fun Q' h=>g _ h⟩
  |exit i=>
   by_cases hi:i=id
   ·simp only[hi,if_true]at d;exact⟨.normal,t,d,fun Q' h=>g _ (by simp only[hi,if_true];exact h)⟩
   ·simp only[hi,if_false]at d;exact⟨.exit i,t,d,fun Q' h=>g _ (by simp only[hi,if_false];exact h)⟩
  |ret=>exact⟨.ret,t,d,fun Q' h=>g _ h⟩
 | .scope b,s=>fun Q h=>by simp only[cg]at h⊢;exact oc b s Q h
 | .loop b,s=>fun Q h=>by
  simp only[cg]at h⊢;obtain⟨I,⟨w,t0,hf,hI⟩,F⟩:=h;have key:∀(n:Nat)(t:St),I n t->∃e u,Q e u/\e≠.normal/\xq P ag q b e u n t:=by
   intro n
   induction n using hT with
   |_ n G=>
    intro t hI;obtain⟨e,s1,d,g⟩:=oc b t _ (F n t hI);cases e with
    |normal=>
     obtain⟨m,r,j,o,z⟩:=d;obtain⟨e,u,k1,k2,k3⟩:=G m j r z;exact⟨e,u,k1,k2,.step g j o k3⟩
    |exit id=>exact⟨.exit id,s1,d,by simp,.stop g (by simp)⟩
    |ret=>exact⟨.ret,s1,d,by simp,.stop g (by simp)⟩
  obtain⟨e,u,d,g,k⟩:=key w t0 hI;refine⟨e,u,d,fun Q' v=>⟨xq P ag q b e u,⟨w,t0,hf,k⟩,?_⟩⟩;intro n t C;cases C with
  |stop hs E=>
   refine hs _ ?_;cases e with
   |normal=>exact(E rfl).elim
   |exit id=>exact v
   |ret=>exact v
  |step hs j o D=>exact hs _ ⟨_,_,j,o,D⟩
 | .rangeFunc f H a b,s=>fun Q h=>by
  simp only[cg]at h;obtain⟨A,x,B,h⟩:=h;obtain⟨e,t,d,g⟩:=WG _ _ _ _ Q h;exact⟨e,t,d,fun Q' hq=>by simp only[cg];exact⟨A,x,B,g Q' hq⟩⟩
 | .goto _,_| .refuse _,_=>fun Q h=>by simp[cg]at h
def Spec(P:bw)(f:b3)(args:List PV)(Q:PV->Prop):Prop:=∃v,au P f args v/\Q v
def A0(P:bw)(a:List ResultVar)(Q:PV->Prop)(e:bA)(s:St):Prop:=
 (match e with
  | .exit _=>False
  |_=>True)/\∃vs,fY P s a=some vs/\∃v,eM s.heap 9 (oneOf vs)=some v/\Q v
theorem Spec.mono{f:b3}{args:List PV}{Q a:PV->Prop}(h:Spec P f args Q)(hq:∀v,Q v->a v):Spec P f args a:=by
 obtain⟨v,b,c⟩:=h;exact⟨v,b,hq v c⟩
end
def oM(id:Nat)(Q:bA->St->Prop)(e:bA)(s:St):Prop:=
 match e with
 | .exit i=>if i=id then Q .normal s else Q (.exit i) s
 |e=>Q e s
theorem Uz{id:Nat}{Q:bA->St->Prop}{s:St}:oM id Q .normal s=Q .normal s:=(rfl)
theorem VS{id i:Nat}{Q:bA->St->Prop}{s:St}:oM id Q (.exit i) s=if i=id then Q .normal s else Q (.exit i) s:=(rfl)
theorem W1{id:Nat}{Q:bA->St->Prop}{s:St}:oM id Q .ret s=Q .ret s:=(rfl)
def uI(N n:Nat)(I:Nat->St->Prop)(Q:bA->St->Prop)(e:bA)(s:St):Prop:=
 match e with
 | .normal=>∃a b,a<n/\de N s b/\I a b
 |e=>Q e s
theorem Un{N n:Nat}{I:Nat->St->Prop}{Q:bA->St->Prop}{s:St}:uI N n I Q .normal s=∃a b,a<n/\de N s b/\I a b:=(rfl)
theorem U7{N n id:Nat}{I:Nat->St->Prop}{Q:bA->St->Prop}{s:St}:uI N n I Q (.exit id) s=Q (.exit id) s:=(rfl)
theorem WB{N n:Nat}{I:Nat->St->Prop}{Q:bA->St->Prop}{s:St}:uI N n I Q .ret s=Q .ret s:=(rfl)
section EY
variable{P:bw}
@[congr] theorem aDt{b:Array Oper}{l a:List Touch}(h:l=a):iZ b l=iZ b a:=by rw[h]
end EY
section
variable{P:bw}{ag:b3->Bool}
abbrev fe:=Option (Prop×aR)
def bh(r:fe)(K:aR->Prop):Prop:=
 match r with
 |some (p,e)=>p/\K e
 |none=>False
theorem WL{p:Prop}{e:aR}{K:aR->Prop}:bh (some (p,e)) K=(p/\K e):=(rfl)
theorem Xo{K:aR->Prop}:bh none K=False:=(rfl)
@[congr] theorem aO7{r a:fe}{K:aR->Prop}(h:r=a):bh r K=bh a K:=by rw[h]
def Can(F:(aR->Prop)->Prop)(r:fe):Prop:=∀K,bh r K->F K
theorem Can.none{F:(aR->Prop)->Prop}:Can F none:=fun _ h=>h.elim
def qu(P:bw)(T:b0)(H:aj)(a:AV):fe:=
 match a with
 | .ptr b path=>match H[b]? with
  |some (.box fz t)=>match fo t path with
   |some s=>some (kindOf P T=aa s,{v:=s,al:=[(b,.box fz t)]})
   |none=>none
  |_=>none
 | .b7 b aA ai i path=>match H[b]? with
  |some (.arr k d c es)=>match es[i]? with
   |some x=>match fo x path with
    |some s=>some ((aA=d/\ai=c)/\kindOf P T=aa s,{v:=s,al:=[(b,.arr k d c es)]})
    |none=>none
   |none=>none
  |_=>none
 | .p (.cm t)=>some (kindOf P T=aI t,{v:=.p t})
 |_=>none
theorem Zz{T:b0}{H:aj}{a:AV}:Can (oQ P T H a) (qu P T H a):=by
 intro K h;unfold qu at h;unfold oQ
 split at h
 ·split at h
  ·rename_i b
   split at h
   ·rename_i hs;simp only[bh]at h;simp only[b,hs];exact h
   ·exact h.elim
  ·exact h.elim
 ·split at h
  ·rename_i b
   split at h
   ·rename_i x hx;obtain⟨hi,hx⟩:=gy.1 hx
    split at h
    ·rename_i hs;simp only[bh]at h;simp only[b];exact⟨h.1.1.1,h.1.1.2,hi,by rw[hx,hs];exact⟨h.1.2,h.2⟩⟩
    ·exact h.elim
   ·exact h.elim
  ·exact h.elim
 ·exact h
 ·exact h.elim
def qg(P:bw)(T:b0)(H:aj)(a x:AV):fe:=
 match a with
 | .ptr b path=>match H[b]? with
  |some (.box false t)=>match fo t path,gu t path x with
   |some s,some d=>some ((kindOf P T=aa x/\aa x≠.bad)/\aa s=aa x,{v:=.p (.aC []),al:=[(b,.box false t)],aL:=[(b,.box false d)]})
   |_,_=>none
  |_=>none
 | .b7 b aA ai i path=>match H[b]? with
  |some (.arr k e c es)=>match es[i]? with
   |some y=>match fo y path,gu y path x with
    |some s,some d=>some ((kindOf P T=aa x/\aa x≠.bad)/\(aA=e/\ai=c/\k≠.frozen)/\aa s=aa x,{v:=.p (.aC []),al:=[(b,.arr k e c es)],aL:=[(b,.arr k e c (es.set i d))]})
    |_,_=>none
   |none=>none
  |_=>none
 |_=>none
theorem Yh{T:b0}{H:aj}{a x:AV}:Can (oG P T H a x) (qg P T H a x):=by
 intro K h;unfold qg at h;unfold oG
 split at h
 ·split at h
  ·rename_i b
   split at h
   ·rename_i hs c;simp only[bh]at h;simp only[b,hs,c];exact⟨h.1.1.1,h.1.1.2,h.1.2,h.2⟩
   ·exact h.elim
  ·exact h.elim
 ·split at h
  ·rename_i b
   split at h
   ·rename_i y d;obtain⟨hi,d⟩:=gy.1 d
    split at h
    ·rename_i hs c;simp only[bh]at h;simp only[b];exact⟨h.1.1.1,h.1.1.2,h.1.2.1.1,h.1.2.1.2.1,h.1.2.1.2.2,hi,by rw[d,hs,c];exact⟨h.1.2.2,h.2⟩⟩
    ·exact h.elim
   ·exact h.elim
  ·exact h.elim
 ·exact h.elim
def pL(P:bw)(T:b0)(a:AV)(f:Nat):fe:=
 match eU P T with
 |some (u,n)=>match a with
  | .ptr b path=>some (f<n,{v:=.ptr b (path++[(u,f)])})
  | .b7 b aA ai i path=>some (f<n,{v:=.b7 b aA ai i (path++[(u,f)])})
  | .p (.cm t)=>match(bW t)[f]? with
   |some g=>some (f<n/\aI t=.agg u,{v:=.p (.cm g)})
   |none=>none
  |_=>none
 |_=>none
theorem Uw{T:b0}{a:AV}{f:Nat}:Can (ou P T a f) (pL P T a f):=by
 intro K h;unfold pL at h;unfold ou
 split at h
 ·rename_i hs;simp only[hs]
  split at h
  ·exact h
  ·exact h
  ·split at h
   ·rename_i b;simp only[bh]at h;simp only[b];exact⟨h.1.1,h.1.2,h.2⟩
   ·exact h.elim
  ·exact h.elim
 ·exact h.elim
def pK(P:bw)(T:b0)(H:aj)(x i:AV):fe:=
 match i with
 | .p (.int _ i)=>match x with
  | .p (.cT _ es)=>match es[i.toNat]? with
   |some y=>some (0<=i/\cG P T=some (bG P (aI y)),{v:=.p (.cm y)})
   |none=>none
  | .p (.seq es)=>match es[i.toNat]? with
   |some y=>some (0<=i/\cG P T=some (bG P (aI y)),{v:=.p (.cm y)})
   |none=>none
  | .sl b aA ai off len=>match H[b]? with
   |some (.arr k c a es)=>some (0<=i/\cG P T=some ai/\i.toNat<len/\aA=c/\ai=a/\¬(k.gr=true/\es=[]),{v:=.b7 b aA ai (off+i.toNat) [],al:=[(b,.arr k c a es)]})
   |_=>none
  | .ptr b path=>match iR P T with
   |some (u,n)=>some (0<=i/\i.toNat<n,{v:=.ptr b (path++[(u,i.toNat)])})
   |_=>none
  | .b7 b aA ai j path=>match iR P T with
   |some (u,n)=>some (0<=i/\i.toNat<n,{v:=.b7 b aA ai j (path++[(u,i.toNat)])})
   |_=>none
  | .p (.cm t)=>match iR P T with
   |some (u,n)=>match(bW t)[i.toNat]? with
    |some g=>some (0<=i/\aI t=.agg u/\i.toNat<n,{v:=.p (.cm g)})
    |none=>none
   |_=>none
  |_=>none
 |_=>none
theorem Uv{T:b0}{H:aj}{x i:AV}:Can (ot P T H x i) (pK P T H x i):=by
 intro K h;unfold pK at h;unfold ot
 split at h
 case h_2=>exact h.elim
 split at h
 ·split at h
  ·rename_i y a;obtain⟨hi,a⟩:=gy.1 a;simp only[bh]at h;exact⟨h.1.1,hi,by rw[a];exact h.1.2,by rw[a];exact h.2⟩
  ·exact h.elim
 ·split at h
  ·rename_i y a;obtain⟨hi,a⟩:=gy.1 a;simp only[bh]at h;exact⟨h.1.1,hi,by rw[a];exact h.1.2,by rw[a];exact h.2⟩
  ·exact h.elim
 ·split at h
  ·rename_i l;simp only[bh]at h;obtain⟨⟨b,c,d,e,f,g⟩,j⟩:=h;refine⟨b,c,d,?_⟩;rw[l];exact⟨e,f,g,j⟩
  ·exact h.elim
 ·split at h
  ·rename_i hs;simp only[bh]at h;simp only[hs];exact⟨h.1.1,h.1.2,h.2⟩
  ·exact h.elim
 ·split at h
  ·rename_i hs;simp only[bh]at h;simp only[hs];exact⟨h.1.1,h.1.2,h.2⟩
  ·exact h.elim
 ·split at h
  ·rename_i hs
   split at h
   ·rename_i k;simp only[bh]at h;simp only[hs,k];exact⟨h.1.1,h.1.2.1,h.1.2.2,h.2⟩
   ·exact h.elim
  ·exact h.elim
 ·exact h.elim
end
section
variable{P:bw}{ag:b3->Bool}
def qf(P:bw)(T X:b0)(H:aj)(s x:AV):fe:=
 match cG P T,iq H x with
 |some sz,some xs=>match s with
  | .p .aH=>some ((jc P X=true/\(b9 P (eE P T)).isSome=true/\fq P sz xs)/\xs.length<=c8,
   if xs.isEmpty then{v:=s,al:=dJ H x}else{v:=.sl H.length 0 sz 0 xs.length,al:=dJ H x,aP:=[.arr (gk P T) 0 sz xs]})
  | .sl b aA ai off len=>match H[b]? with
   |some (.arr k c a es)=>some ((jc P X=true/\(b9 P (eE P T)).isSome=true/\fq P sz xs)/\(aA=c/\ai=a/\ai=sz/\off+len<=es.length)/\es.length+xs.length<=c8/\k≠ .frozen/\(k≠ .exact->off=0)/\(k= .bytes->eE P T=Gl.u8),
    if xs.isEmpty then{v:=s,al:=(b,.arr k c a es)::dJ H x}
    else match k with
     | .exact=>if off+len+xs.length<=es.length then
      {v:=.sl b aA ai off (len+xs.length),al:=(b,.arr k c a es)::dJ H x,aL:=[(b,.arr .exact aA ai (es.take (off+len)++xs++es.drop (off+len+xs.length)))]}
      else{v:=.sl H.length 0 sz 0 (len+xs.length),al:=(b,.arr k c a es)::dJ H x,aP:=[.arr (gk P T) 0 sz ((es.drop off).take len++xs)]}
     |_=>{v:=.sl b (aA+1) ai 0 (len+xs.length),al:=(b,.arr k c a es)::dJ H x,aL:=[(b,.arr k (aA+1) ai (es.take len++xs))]})
   |_=>none
  |_=>none
 |_,_=>none
theorem VX{T X:b0}{H:aj}{s x:AV}:Can (ow P T X H s x) (qf P T X H s x):=by
 intro K h;unfold qf at h;unfold ow
 split at h
 case h_2=>exact h.elim
 rename_i sz p i j;simp only[i,j]
 split at h
 ·simp only[bh]at h;obtain⟨⟨⟨b,a2,a3⟩,a4⟩,hk⟩:=h;refine⟨b,a2,a3,?_⟩;dsimp only
  split
  ·rename_i a;rw[if_pos a]at hk;exact hk
  ·rename_i a;rw[if_neg a]at hk;exact⟨a4,hk⟩
 ·split at h
  case h_2=>exact h.elim
  rename_i k o n m l;simp only[bh]at h;obtain⟨⟨⟨b,a2,a3⟩,⟨rfl,rfl,e,f⟩,g,a9,c,d⟩,hk⟩:=h;refine⟨b,a2,a3,?_⟩;simp only[l];refine⟨trivial,trivial,e,f,?_⟩
  split
  ·rename_i a;rw[if_pos a]at hk;exact hk
  ·rename_i a;rw[if_neg a]at hk;refine⟨g,?_⟩;cases k with
   |frozen=>exact a9 rfl
   |exact=>
    simp only at hk⊢
    split
    ·rename_i hc;rw[if_pos hc]at hk;exact hk
    ·rename_i hc;rw[if_neg hc]at hk;exact hk
   |grow=>exact⟨c (by simp),fun h=>(by cases h),hk⟩
   |bytes=>exact⟨c (by simp),d,hk⟩
 ·exact h.elim
def ly(x:Option AV)(d:Nat):Option (Prop×Nat):=
 match x with
 |none=>some (True,d)
 |some (.p (.int _ i))=>some (0<=i,i.toNat)
 |_=>none
theorem nA{x:Option AV}{d n:Nat}{p:Prop}{K:Nat->Prop}(h:ly x d=some (p,n))(a:p)(hk:K n):gX x d K:=by
 unfold ly at h;unfold gX
 split at h
 ·simp only[hX,Prod.mk.injEq]at h;obtain⟨rfl,rfl⟩:=h;exact hk
 ·simp only[hX,Prod.mk.injEq]at h;obtain⟨rfl,rfl⟩:=h;exact⟨a,hk⟩
 ·cases h
def qj(P:bw)(T:b0)(H:aj)(x:AV)(lo hi:Option AV):fe:=
 match x with
 | .p (.str s)=>match ly hi s.length,ly lo 0 with
  |some (p,h),some (q,l)=>some (ja P T=true/\p/\q/\h<=s.length/\l<=h,{v:=.p (.str ((s.take h).drop l))})
  |_,_=>none
 | .p .aH=>match ly hi 0,ly lo 0 with
  |some (p,h),some (q,l)=>some ((cG P T).isSome=true/\p/\q/\h<=0/\l<=h,{v:=.p .aH})
  |_,_=>none
 | .p (.cT full es)=>match ly hi es.length,ly lo 0,cG P T with
  |some (p,h),some (q,l),some sz=>some (p/\q/\h<=es.length/\l<=h/\fq P sz (es.map .p),{v:=.p (.cT (full&&h==es.length) ((es.take h).drop l))})
  |_,_,_=>none
 | .p (.seq es)=>match ly hi es.length,ly lo 0,cG P T with
  |some (p,h),some (q,l),some sz=>some (p/\q/\h<=es.length/\l<=h/\fq P sz (es.map .p),{v:=.p (.seq ((es.take h).drop l))})
  |_,_,_=>none
 | .sl b aA ai off len=>match H[b]? with
  |some (.arr k c a es)=>match ly hi len,ly lo 0 with
   |some (p,h),some (q,l)=>some ((aA=c/\ai=a/\cG P T=some ai/\¬(k.gr=true/\es=[])/\off+len<=es.length)/\p/\q/\off+h<=es.length/\l<=h,
    if l=0 then{v:=.sl b aA ai off h,al:=[(b,.arr k c a es)]}
    else if l=h then{v:=.p (.cT false []),al:=[(b,.arr k c a es)]}
    else{v:=.sl b aA ai (off+l) (h-l),al:=[(b,.arr k c a es)]})
   |_,_=>none
  |_=>none
 |_=>none
theorem Yi{T:b0}{H:aj}{x:AV}{lo hi:Option AV}:Can (oH P T H x lo hi none) (qj P T H x lo hi):=by
 intro K h;unfold qj at h;unfold oH;refine⟨rfl,?_⟩
 split at h
 ·split at h
  case h_2=>exact h.elim
  rename_i a b;simp only[bh]at h;obtain⟨⟨c,a2,a3,a4,a5⟩,hk⟩:=h;exact⟨c,nA a a2 (nA b a3 ⟨a4,a5,hk⟩)⟩
 ·split at h
  case h_2=>exact h.elim
  rename_i a b;simp only[bh]at h;obtain⟨⟨c,a2,a3,a4,a5⟩,hk⟩:=h;exact⟨c,nA a a2 (nA b a3 ⟨a4,a5,hk⟩)⟩
 ·split at h
  case h_2=>exact h.elim
  rename_i a b e;simp only[bh]at h;obtain⟨⟨a2,a3,a4,a5,d⟩,hk⟩:=h;refine nA a a2 (nA b a3 ⟨a4,a5,?_⟩);simp only[e];exact⟨d,hk⟩
 ·split at h
  case h_2=>exact h.elim
  rename_i a b e;simp only[bh]at h;obtain⟨⟨a2,a3,a4,a5,d⟩,hk⟩:=h;refine nA a a2 (nA b a3 ⟨a4,a5,?_⟩);simp only[e];exact⟨d,hk⟩
 ·split at h
  case h_2=>exact h.elim
  rename_i i
  split at h
  case h_2=>exact h.elim
  rename_i a b;simp only[bh]at h;obtain⟨⟨⟨c,a2,a3,a4,a5⟩,d,f,g,a9⟩,hk⟩:=h;simp only[i];refine⟨c,a2,a3,a4,a5,nA a d (nA b f ⟨g,a9,?_⟩)⟩
  split
  ·rename_i hc;rw[if_pos hc]at hk;exact hk
  ·rename_i hc;rw[if_neg hc]at hk
   split
   ·rename_i hc;rw[if_pos hc]at hk;exact hk
   ·rename_i hc;rw[if_neg hc]at hk;exact hk
 ·exact h.elim
def sK(P:bw)(T:b0)(H:aj)(x key:AV)(ok:Bool):fe:=
 match lZ P T,key with
 |some (a,E),.p key=>match b9 P E with
  |some z=>match x with
   | .p .fF=>some (gB P a key=true,{v:=.p (if ok then .aC [z,.bool false]else z)})
   | .p (.eB es)=>match ga P a es key with
    |some r=>some (gB P a key=true,{v:= .p (match r with
      |some v=>if ok then .aC [v,.bool true]else v
      |none=>if ok then .aC [z,.bool false]else z)})
    |none=>none
   | .map b=>match H[b]? with
    |some (.map fz es)=>match ga P a es key with
     |some r=>some (gB P a key=true,{v:= .p (match r with
       |some v=>if ok then .aC [v,.bool true]else v
       |none=>if ok then .aC [z,.bool false]else z),al:=[(b,.map fz es)]})
     |none=>none
    |_=>none
   |_=>none
  |none=>none
 |_,_=>none
def mT(P:bw)(T:b0)(H:aj)(m k x:AV):fe:=
 match lZ P T,m,k,x with
 |some (a,_),.map b,.p key,.p v=>match H[b]? with
  |some (.map false es)=>match mH P a es key with
   |some _=>some (gB P a key=true,{v:=.p (.aC []),al:=[(b,.map false es)],aL:=[(b,.map false (gA es key v))]})
   |none=>none
  |_=>none
 |_,_,_,_=>none
def rY(P:bw)(T:b0)(n:Nat)(x:AV):fe:=
 match x with
 | .p (.str s)=>some (ja P T=true,{v:=.ptr n [],aP:=[.dG s 0]})
 |_=>none
def sQ(H:aj)(it:AV):fe:=
 match it with
 | .ptr b []=>match H[b]? with
  |some (.dG s pos)=>some (True,if pos<s.length then
   {v:=.p (.aC [.bool true,.int .i64 pos,.int .i32 (gm (gP s) pos).1]),al:=[(b,.dG s pos)],aL:=[(b,.dG s (pos+(gm (gP s) pos).2))]}
   else{v:=.p (.aC [.bool false]),al:=[(b,.dG s pos)]})
  |_=>none
 |_=>none
def sS(P:bw)(T:b0)(n:Nat)(l c:AV):fe:=
 match cG P T,b9 P (eE P T),l,c with
 |some sz,some z,.p (.int .i64 l),.p (.int .i64 c)=>some (bG P (aI z)=sz/\0<=l/\l=c/\l<=c8,{v:=.sl n 0 sz 0 l.toNat,aP:=[.arr .exact 0 sz (g0 l.toNat (.p z))]})
 |_,_,_,_=>none
def copyV(P:bw)(T:b0)(H:aj)(d x:AV):fe:=
 match cG P T,d,iq H x with
 |some sz,.sl b aA ai off len,some xs=>match H[b]? with
  |some (.arr k c a es)=>some ((ai=sz/\fq P sz xs)/\aA=c/\ai=a/\k≠ .frozen/\off+len<=es.length/\¬(k.gr=true/\es=[]),
   {v:=.p (.int .i64 (min xs.length len:Nat)),al:=(b,.arr k c a es)::dJ H x,aL:=[(b,.arr k c a (es.take off++xs.take (min xs.length len)++es.drop (off+min xs.length len)))]})
  |_=>none
 |_,_,_=>none
def rT(x:AV):fe:=
 match x with
 | .ptr _ _| .b7 _ _ _ _ _| .p (.cm _)=>some (True,{v:=x})
 |_=>none
def lE(b:Bool)(c:List AV):fe:=
 match c with
 | .p (.int k a)::r=>match mB k b r a with
  |some n=>some (True,{v:=.p (.int k n)})
  |none=>none
 |_=>none
def sH(f:b3)(fi ca:List AV):fe:=
 match eA fi,eA ca with
 |some a,some b=>some (True,{v:=.p (.func f a b)})
 |_,_=>some (True,{v:=.func f fi ca})
end
section
variable{P:bw}{ag:b3->Bool}
def sO(c a b:AV):fe:=
 match c with
 | .p (.bool t)=>some (True,{v:=if t then a else b})
 |_=>none
def sr(P:bw)(T:b0)(n:Nat):fe:=
 match b9 P T with
 |some z=>some (kindOf P T=aI z/\aI z≠.bad/\jM T (aI z)=true,{v:=.ptr n [],aP:=[.box false (.p z)]})
 |none=>none
def uX(P:bw)(T:b0)(n:Nat)(x:AV):fe:=some (kindOf P T=aa x/\aa x≠.bad/\jM T (aa x)=true,{v:=.ptr n [],aP:=[.box false x]})
def so(P:bw)(T:b0)(a:List (Nat×AV)):fe:=
 match kindOf P T,b9 P T with
 | .agg u,some z=>match dv P u with
  |some l=>some (aI z=.agg u/\mA P l a,{v:=iK u (iY ((bW z).map .p) a)})
  |none=>none
 |_,_=>none
def rl(P:bw)(T:b0)(n:Nat)(a:List (Nat×AV))(b:Nat):fe:=
 match cG P T,b9 P (eE P T)with
 |some sz,some z=>some (bG P (aI z)=sz/\n*sz<=1000000/\mA P (g0 n sz) a,{v:=.sl b 0 sz 0 n,aP:=[.arr .exact 0 sz (iY (g0 n (.p z)) a)]})
 |_,_=>none
def vf(op:cv)(k:ce)(a b:Int):Prop×PV:=
 match op with
 | .add=>(True,.int k (k.wrap (a+b)))
 | .sub=>(True,.int k (k.wrap (a-b)))
 | .mul=>(True,.int k (k.wrap (a*b)))
 | .quo=>(b≠0,.int k (k.wrap (a.tdiv b)))
 | .rem=>(b≠0,.int k (a.tmod b))
 | .and=>(True,.int k (k.wrap (bi k.bits a&&&bi k.bits b).toNat))
 | .or=>(True,.int k (k.wrap (bi k.bits a|||bi k.bits b).toNat))
 | .xor=>(True,.int k (k.wrap (bi k.bits a^^^bi k.bits b).toNat))
 | .andNot=>(True,.int k (k.wrap (bi k.bits a&&&~~~bi k.bits b).toNat))
 | .eql=>(True,.bool (a==b))
 | .neq=>(True,.bool (a !=b))
 | .lss=>(True,.bool (decide (a<b)))
 | .leq=>(True,.bool (decide (a<=b)))
 | .gtr=>(True,.bool (decide (a>b)))
 | .geq=>(True,.bool (decide (a>=b)))
 | .shl=>(0<=b,.int k (k.wrap (a*2^(min b.toNat k.bits))))
 | .shr=>(0<=b,.int k (a.fdiv (2^(min b.toNat k.bits))))
theorem aAK{op:cv}{k:ce}{a b:Int}{K:PV->Prop}(h:(vf op k a b).1)(hk:K (vf op k a b).2):qt op k a b K:=by
 cases op<;>simp only[vf,qt]at*<;>first|exact hk|exact⟨h,hk⟩
def Fy(op:cv)(a b:List Nat):Option (Prop×PV):=
 match op with
 | .add=>some (a.length+b.length<9223372036854775808,.str (a++b))
 | .eql=>some (True,.bool (a==b))
 | .neq=>some (True,.bool (!(a==b)))
 | .lss=>some (True,.bool (jG a b))
 | .leq=>some (True,.bool (jG a b||a==b))
 | .gtr=>some (True,.bool (!(jG a b||a==b)))
 | .geq=>some (True,.bool (!(jG a b)))
 |_=>none
def jL(P:bw)(op:cv)(T:b0)(c:Bool)(H:aj)(x y:AV):fe:=
 match x,y with
 | .p (.int k a),.p (.int d b)=>some ((k=d\/op=.shl\/op=.shr)/\(vf op k a b).1,{v:=.p (vf op k a b).2})
 | .p (.str a),.p (.str b)=>match Fy op a b with
  |some (p,v)=>some (p,{v:=.p v})
  |none=>none
 | .p (.bool a),.p (.bool b)=>match op with
  | .eql=>some (rW P T=true,{v:=.p (.bool (a==b))})
  | .neq=>some (rW P T=true,{v:=.p (.bool (!(a==b)))})
  |_=>none
 | .p (.st u fs),.p (.st u' gs)=>match gh P 9 T (.st u fs) (.st u' gs),op with
  |some r,.eql=>some (nR P T=true,{v:=.p (.bool r)})
  |some r,.neq=>some (nR P T=true,{v:=.p (.bool !r)})
  |_,_=>none
 |x,y=>match dI P T c y with
  |some k=>match cV H k x,op with
   |some r,.eql=>some (True,{v:=.p (.bool r),al:=dJ H x})
   |some r,.neq=>some (True,{v:=.p (.bool !r),al:=dJ H x})
   |_,_=>none
  |none=>none
theorem Lb{op:cv}{T:b0}{c:Bool}{H:aj}{x y:AV}{k:vz}{K:PV->Prop}(hk:dI P T c y=some k):lg P op T c H x y K=(match cV H k x,op with
  |some r,.eql=>K (.bool r)
  |some r,.neq=>K (.bool !r)
  |_,_=>False):=by
 have a:=hk;rcases Kk hk with⟨rfl,rfl,_⟩|⟨rfl,rfl,_⟩|⟨rfl,rfl,_⟩|⟨rfl,rfl,_⟩|⟨rfl,rfl,_⟩
 all_goals
  unfold lg;cases x with
  |p v=>
   cases v<;>simp only[a]<;>(generalize cV H _ _=r;cases r<;>cases op<;>rfl)
  |_=>simp only[a];(generalize cV H _ _=r;cases r<;>cases op<;>rfl)
theorem axn{op:cv}{T:b0}{c:Bool}{H:aj}{x y:AV}:Can (fun K=>lg P op T c H x y (fun v=>K {v:=.p v,al:=dJ H x})) (jL P op T c H x y):=by
 intro K h;unfold jL at h;unfold lg
 split at h
 ·exact⟨h.1.1,aAK h.1.2 h.2⟩
 ·split at h
  ·rename_i p v a;simp only[bh]at h;show qq op _ _ _;unfold Fy at a
   split at a<;>first
    |(simp only[hX,Prod.mk.injEq]at a
      obtain⟨b,d⟩:=a;rw[<-b,<-d]at h;simp only[qq]
      first|exact h.2|exact⟨h.1,h.2⟩)
    |cases a
  ·exact h.elim
 ·split at h
  ·exact⟨h.1,h.2⟩
  ·exact⟨h.1,h.2⟩
  ·exact h.elim
 ·split at h
  ·rename_i e;simp only[bh]at h;simp only[e];exact⟨h.1,h.2⟩
  ·rename_i e;simp only[bh]at h;simp only[e];exact⟨h.1,h.2⟩
  ·exact h.elim
 ·rename_i b d f g
  split at h
  case h_2=>exact h.elim
  rename_i k hk;clear b d f g;show lg P op T c H x y _;rw[Lb hk];generalize cV H k x=q at h⊢;cases q<;>cases op<;>first|exact h.elim|exact h.2
def tD(op:UnOp)(x:AV):fe:=
 match op,x with
 | .not,.p (.bool b)=>some (True,{v:=.p (.bool (!b))})
 | .neg,.p (.int k n)=>some (True,{v:=.p (.int k (k.wrap (0-n)))})
 | .xor,.p (.int k n)=>some (True,{v:=.p (.int k (k.wrap (bi k.bits (if k.signed then -1 else k.max)^^^bi k.bits n).toNat))})
 |_,_=>none
def sF(P:bw)(S D:b0)(H:aj)(x:AV):fe:=
 match P.underlying S,P.underlying D,x with
 |some _,some (.int k),.p (.int _ n)=>some (True,{v:=.p (.int k (k.wrap n))})
 |some _,some .string,.p (.str s)=>some (True,{v:=.p (.str s)})
 |some (.slice e),some .string,.sl b aA ai off len=>match H[b]? with
  |some (.arr k c a es)=>match bytesOf ((es.drop off).take len)with
   |some l=>some ((aA=c/\ai=a/\ai=1/\P.underlying e=some (.int .u8)/\0<len/\off+len<=es.length),{v:=.p (.str l),al:=[(b,.arr k c a es)]})
   |none=>none
  |_=>none
 |_,_,_=>none
def rI(t:AV)(i:Nat):fe:=
 match t with
 | .p (.aC vs)=>match vs[i]? with
  |some v=>some (True,{v:=.p v})
  |none=>none
 | .aC vs=>match vs[i]? with
  |some v=>some (True,{v})
  |none=>none
 |_=>none
def sA(P:bw)(T:b0)(x i:AV):fe:=
 match x,i with
 | .p (.str s),.p (.int _ i)=>match s[i.toNat]? with
  |some c=>some (ja P T=true/\0<=i,{v:=.p (.int .u8 c)})
  |none=>none
 | .p (.st u es),.p (.int _ i)=>match iR P T,(jS P u)[i.toNat]?,es[i.toNat]? with
  |some (u',n),some F,some g=>some (u'=u/\0<=i/\i.toNat<n/\kindOf P F=aI g,{v:=.p g})
  |_,_,_=>none
 |_,_=>none
def tt(P:bw)(T:b0)(n:Nat)(H:aj)(x:AV):fe:=
 match lenOf H x with
 |some (m,al)=>some (iC P T x=true/\0<n,{v:=.p (.int .i64 m),al})
 |none=>none
def lG(P:bw)(ag:b3->Bool)(o:Oper)(e:Env)(H:aj)(K:aR->Prop):Prop:=
 match o.op with
 | .move x| .assign x=>K {v:=ev e x}
 | .pick c a b=>bh (sO (ev e c) (ev e a) (ev e b)) K
 | .alloc T=>bh (sr P T H.length) K
 | .box T x=>bh (uX P T H.length (ev e x)) K
 | .build T parts=>bh (so P T (parts.toList.map fun(i,x)=>(i,ev e x))) K
 | .buildSlice T n parts=>bh (rl P T n (parts.toList.map fun(i,x)=>(i,ev e x)) H.length) K
 | .load T a=>bh (qu P T H (ev e a)) K
 | .store T a x=>bh (qg P T H (ev e a) (ev e x)) K
 | .binOp op T x y _=>bh (jL P op T (mU y) H (ev e x) (ev e y)) K
 | .unOp op _ x=>bh (tD op (ev e x)) K
 | .convert S D x=>bh (sF P S D H (ev e x)) K
 | .extract t i=>bh (rI (ev e t) i) K
 | .fieldAddr T a f=>bh (pL P T (ev e a) f) K
 | .indexAddr T x i=>bh (pK P T H (ev e x) (ev e i)) K
 | .index T x i=>bh (sA P T (ev e x) (ev e i)) K
 | .slice T x lo hi none=>bh (qj P T H (ev e x) (lo.map (ev e)) (hi.map (ev e))) K
 | .lookup T x i ok=>bh (sK P T H (ev e x) (ev e i) ok) K
 | .mapUpdate T m k x| .insert T m k x=>bh (mT P T H (ev e m) (ev e k) (ev e x)) K
 | .range T x=>bh (rY P T H.length (ev e x)) K
 | .next it true=>bh (sQ H (ev e it)) K
 | .makeSlice T l c=>bh (sS P T H.length (ev e l) (ev e c)) K
 | .nilCheck x=>bh (rT (ev e x)) K
 | .call c=>match c.callee with
  | .builtin .len=>(match c.args.toList with
   |[x]=>bh (tt P (c.argTypes.getD 0 0) c.argTypes.size H (ev e x)) K
   |_=>False)
  | .builtin .append=>(match c.args.toList with
   |[s,x]=>c.argTypes.size=2/\bh (qf P (c.argTypes.getD 0 0) (c.argTypes.getD 1 0) H (ev e s) (ev e x)) K
   |_=>False)
  | .builtin .copy=>(match c.args.toList with
   |[d,x]=>c.argTypes.size=2/\bh (copyV P (c.argTypes.getD 0 0) H (ev e d) (ev e x)) K
   |_=>False)
  | .builtin .min=>bh (lE false (c.args.toList.map (ev e))) K
  | .builtin .max=>bh (lE true (c.args.toList.map (ev e))) K
  |_=>fT P ag o (ev e) H K
 |_=>fT P ag o (ev e) H K
theorem Pj{o:Oper}{e:Env}{H:aj}{K:aR->Prop}(h:lG P ag o e H K):fT P ag o (ev e) H K:=by
 unfold lG at h;unfold fT;cases w:o.op<;>simp only[w]at h<;>simp only
 case move|assign=>exact h
 case pick c a b=>
  unfold sO at h
  split at h
  ·rename_i hc;simp only[hc];exact h.2
  ·exact h.elim
 case alloc T=>
  unfold sr at h
  split at h
  ·rename_i v;simp only[bh]at h;simp only[v];exact⟨h.1.1,h.1.2.1,h.1.2.2,h.2⟩
  ·exact h.elim
 case box T x=>exact⟨h.1.1,h.1.2.1,h.1.2.2,h.2⟩
 case build T parts=>
  unfold so at h
  split at h
  ·rename_i hk v
   split at h
   ·rename_i A;simp only[bh]at h;simp only[hk,v,A];exact⟨h.1.1,h.1.2,h.2⟩
   ·exact h.elim
  ·exact h.elim
 case buildSlice T n parts=>
  unfold rl at h
  split at h
  ·rename_i hk v;simp only[bh]at h;simp only[hk,v];exact⟨h.1.1,h.1.2.1,h.1.2.2,h.2⟩
  ·exact h.elim
 case load T a=>exact Zz K h
 case store T a x=>exact Yh K h
 case binOp op T x y O=>exact axn K h
 case unOp op T x=>
  unfold tD at h
  split at h
  ·rename_i hx;simp only[hx];exact h.2
  ·rename_i hx;simp only[hx];exact h.2
  ·rename_i hx;simp only[hx];exact h.2
  ·exact h.elim
 case convert S D x=>
  unfold sF at h
  split at h
  ·rename_i g j p;simp only[g,j,p];exact h.2
  ·rename_i g j p;simp only[g,j,p];exact h.2
  ·rename_i g j p
   split at h
   ·rename_i q
    split at h
    ·rename_i A;obtain⟨⟨B,a2,a3,a4,a5,C⟩,h⟩:=h;simp only[g,j,p,q,A];exact⟨B,a2,a3,a4,a5,C,h⟩
    ·exact h.elim
   ·exact h.elim
  ·exact h.elim
 case extract t i=>
  unfold rI at h
  split at h
  ·rename_i F
   split at h
   ·rename_i G;simp only[F,G];exact h.2
   ·exact h.elim
  ·rename_i F
   split at h
   ·rename_i G;simp only[F,G];exact h.2
   ·exact h.elim
  ·exact h.elim
 case fieldAddr T a f=>exact Uw K h
 case indexAddr T x i=>exact Uv K h
 case index T x i=>
  unfold sA at h
  split at h
  ·rename_i hx hi
   split at h
   ·rename_i c hc;obtain⟨L,rfl⟩:=gy.1 hc;simp only[hx,hi];exact⟨h.1.1,h.1.2,L,h.2⟩
   ·exact h.elim
  ·rename_i hx hi
   split at h
   ·rename_i g j p;obtain⟨⟨g1,g2,g3,g4⟩,h⟩:=h;simp only[hx,hi,g,j,p];exact⟨g1,g2,g3,g4,h⟩
   ·exact h.elim
  ·exact h.elim
 case slice T x lo hi N=>
  cases N with
  |none=>exact Yi K h
  |some m=>simp only[fT,w]at h;exact h
 case lookup T x i ok=>
  unfold sK at h
  split at h
  case h_2=>exact h.elim
  rename_i M hi;simp only[M,hi]
  split at h
  case h_2=>exact h.elim
  rename_i z v;simp only[v]
  split at h
  ·rename_i hx;simp only[hx];exact h
  ·rename_i Q hx;simp only[hx]
   split at h
   case h_2=>exact h.elim
   rename_i r u;refine⟨h.1,?_⟩;simp only[u];cases r<;>exact h.2
  ·rename_i b hx;simp only[hx]
   split at h
   case h_2=>exact h.elim
   rename_i q
   split at h
   case h_2=>exact h.elim
   rename_i r u;refine⟨h.1,?_⟩;simp only[q,u];cases r<;>exact h.2
  ·exact h.elim
 case mapUpdate T m k x|insert T m k x=>
  unfold mT at h
  split at h
  case h_2=>exact h.elim
  rename_i g j p E;simp only[g,j,p,E]
  split at h
  case h_2=>exact h.elim
  rename_i q
  split at h
  case h_2=>exact h.elim
  rename_i u;refine⟨h.1,?_⟩;simp only[q,u];exact h.2
 case range T x=>
  unfold rY at h
  split at h
  ·rename_i hx;simp only[hx];exact h
  ·exact h.elim
 case next it s=>
  cases s with
  |false=>simp only[fT,w]at h
  |true=>
   dsimp only at h⊢;unfold sQ at h
   split at h
   case h_2=>exact h.elim
   rename_i hx;simp only[hx]
   split at h
   case h_2=>exact h.elim
   rename_i q;simp only[q];have h:=h.2
   split
   ·rename_i hc;rw[if_pos hc]at h;exact h
   ·rename_i hc;rw[if_neg hc]at h;exact h
 case makeSlice T l c=>
  unfold sS at h
  split at h
  ·rename_i g j p E;simp only[g,j,p,E];exact⟨h.1.1,h.1.2.1,h.1.2.2.1,h.1.2.2.2,h.2⟩
  ·exact h.elim
 case nilCheck x=>
  unfold rT at h
  split at h
  ·rename_i hx;simp only[hx];rw[hx]at h;exact h.2
  ·rename_i hx;simp only[hx];rw[hx]at h;exact h.2
  ·rename_i hx;simp only[hx];rw[hx]at h;exact h.2
  ·exact h.elim
 case call c=>
  split at h
  ·rename_i hc
   split at h
   ·rename_i x hx;unfold tt at h
    split at h
    ·rename_i A;simp only[bh]at h;simp only[hc,hx,ha,hg,A];exact⟨h.1.1,h.1.2,h.2⟩
    ·exact h.elim
   ·exact h.elim
  ·rename_i hc
   split at h
   ·rename_i s x hx;simp only[hc,hx,ha,hg];exact⟨h.1,VX K h.2⟩
   ·exact h.elim
  ·rename_i hc
   split at h
   ·rename_i d x hx;simp only[hc,hx,ha,hg];obtain⟨J,h⟩:=h;unfold copyV at h
    split at h
    case h_2=>exact h.elim
    rename_i g j p
    split at h
    case h_2=>exact h.elim
    rename_i q;simp only[bh]at h;obtain⟨⟨⟨B,a2⟩,a3,a4,a5,C,I⟩,hk⟩:=h;simp only[g,j,p,q];exact⟨B,a2,J,a3,a4,a5,C,I,hk⟩
   ·exact h.elim
  ·rename_i hc;unfold lE at h
   split at h
   case h_2=>exact h.elim
   rename_i hx
   split at h
   case h_2=>exact h.elim
   rename_i u;simp only[hc,hx,u];exact h.2
  ·rename_i hc;unfold lE at h
   split at h
   case h_2=>exact h.elim
   rename_i hx
   split at h
   case h_2=>exact h.elim
   rename_i u;simp only[hc,hx,u];exact h.2
  ·unfold fT at h;simp only[w]at h;exact h
 all_goals first
  |exact h
  |(unfold fT at h
    simp only[w]at h;exact h)
  |(unfold fT at h
    simp only[w]at h)
end
section
variable{P:bw}{ag:b3->Bool}
def eK(dst:Option Tmp)(s:St)(K:St->Prop)(e:aR):Prop:=K (e.app dst s)
def Bv(dst:Option Tmp)(s:St)(K:St->Prop)(v:AV)(H:aj):Prop:=K ⟨put dst v s.env,H⟩
def sG(P:bw)(f:AV)(args:List AV)(H:aj)(K:AV->aj->Prop):Prop:=
 match f with
 | .p (.func g fi ca)=>iy P false g (fi.map .p++args++ca.map .p) H K
 | .func g fi ca=>iy P false g (fi++args++ca) H K
 | .map b=>∃H' v,fJ P b H args H' v/\K v H'
 |_=>False
def sj(P:bw)(f:AV)(args:List AV)(H:aj)(K:aR->Prop):Prop:=
 match f with
 | .p (.func g fi ca)=>iF P g (fi.map .p++args++ca.map .p) H K
 | .func g fi ca=>iF P g (fi++args++ca) H K
 | .map b=>∃e,oU P b args H.length e/\oZ H e/\K e
 |_=>False
def dB(P:bw)(ag:b3->Bool)(o:Oper)(K:St->Prop)(s:St):Prop:=
 match o.op with
 | .call {callee:=.value f,args,.. }=>sG P (ev s.env f) (args.toList.map (ev s.env)) s.heap (Bv o.dst s K)
 |_=>lG P ag o s.env s.heap (eK o.dst s K)
def dC(P:bw)(ag:b3->Bool)(o:Oper)(s:St)(K:aR->Prop):Prop:=
 match o.op with
 | .call {callee:=.value f,args,.. }=>sj P (ev s.env f) (args.toList.map (ev s.env)) s.heap K
 |_=>lG P ag o s.env s.heap K
theorem Xt{o:Oper}{K:St->Prop}{s:St}(h:dB P ag o K s):kg P ag false o K s:=by
 unfold dB at h;unfold kg
 split at h
 ·rename_i f args b a;simp only[a];unfold sG at h
  split at h
  ·rename_i hf;simp only[hf];exact h
  ·rename_i hf;simp only[hf];exact h
  ·rename_i hf;simp only[hf];exact h
  ·exact h.elim
 ·rename_i c
  split
  ·rename_i f args b a;exact(c _ _ _ a).elim
  ·exact Pj h
theorem XB{o:Oper}{K:aR->Prop}{s:St}(h:dC P ag o s K):jN P ag o s K:=by
 unfold dC at h;unfold jN
 split at h
 ·rename_i f args b a;simp only[a];unfold sj at h
  split at h
  ·rename_i hf;simp only[hf];exact h
  ·rename_i hf;simp only[hf];exact h
  ·rename_i hf;simp only[hf];exact h
  ·exact h.elim
 ·rename_i c
  split
  ·rename_i f args b a;exact(c _ _ _ a).elim
  ·exact Pj h
def gD(P:bw)(ag:b3->Bool)(a:Array Oper):List Oper->(St->Prop)->St->Prop
 |[],K,s=>K s
 |o::r,K,s=>match o.guard with
  |none=>dB P ag o (gD P ag a r K) s
  |some (j,want)=>match guardOf a j s.env with
   | .p (.bool t)=>if t=want then dB P ag o (gD P ag a r K) s else gD P ag a r K ⟨put o.dst (.p (.aC [])) s.env,s.heap⟩
   | .p (.aC [])=>gD P ag a r K ⟨put o.dst (.p (.aC [])) s.env,s.heap⟩
   |_=>False
def gL(P:bw)(ag:b3->Bool)(a:Array Oper):List Oper->Nat->List Touch->(St->Prop)->St->Prop
 |[],_,acc,K,s=>iZ a acc=true/\K s
 |o::r,i,acc,K,s=>match o.guard with
  |none=>dC P ag o s fun e=>gL P ag a r (i+1) (gC i s.heap.length e acc) K (e.app o.dst s)
  |some (j,want)=>match guardOf a j s.env with
   | .p (.bool t)=>if t=want then dC P ag o s fun e=>gL P ag a r (i+1) (gC i s.heap.length e acc) K (e.app o.dst s)
    else gL P ag a r (i+1) acc K ⟨put o.dst (.p (.aC [])) s.env,s.heap⟩
   | .p (.aC [])=>gL P ag a r (i+1) acc K ⟨put o.dst (.p (.aC [])) s.env,s.heap⟩
   |_=>False
theorem Aa{b:Array Oper}:∀(l:List Oper){K a:St->Prop}{s:St},(∀s,K s->a s)->gD P ag b l K s->iA P ag false b l a s
 |[],K,a,s,hk,h=>by simp only[gD]at h;simp only[iA];exact hk s h
 |o::l,K,a,s,hk,h=>by
  have go:dB P ag o (gD P ag b l K) s->kg P ag false o (iA P ag false b l a) s:=fun h=>by
   obtain⟨t,f,g⟩:=KQ false o s _ (Xt h);exact g _ (Aa l hk f)
  simp only[gD]at h;simp only[iA]
  split at h
  ·rename_i c;simp only[c];exact go h
  ·rename_i j i c;simp only[c]
   split at h
   ·rename_i t d;simp only[d]
    split at h
    ·rename_i e;rw[if_pos e];exact go h
    ·rename_i e;rw[if_neg e];exact Aa l hk h
   ·rename_i d;simp only[d];exact Aa l hk h
   ·exact h.elim
theorem zw{c:Array Oper}:∀(l:List Oper){i:Nat}{a:List Touch}{K b:St->Prop}{s:St},(∀s,K s->b s)->gL P ag c l i a K s->gK P ag c l i a b s
 |[],i,a,K,b,s,hk,h=>by simp only[gL]at h;simp only[gK];exact⟨h.1,hk s h.2⟩
 |o::l,i,a,K,b,s,hk,h=>by
  have go:dC P ag o s (fun e=>gL P ag c l (i+1) (gC i s.heap.length e a) K (e.app o.dst s))->jN P ag o s (fun e=>gK P ag c l (i+1) (gC i s.heap.length e a) b (e.app o.dst s)):=fun h=>by
   obtain⟨e,k,m⟩:=KR o s _ (XB h);exact m _ (zw l hk k)
  simp only[gL]at h;simp only[gK]
  split at h
  ·rename_i d;simp only[d];exact go h
  ·rename_i j n d;simp only[d]
   split at h
   ·rename_i t f;simp only[f]
    split at h
    ·rename_i g;rw[if_pos g];exact go h
    ·rename_i g;rw[if_neg g];exact zw l hk h
   ·rename_i f;simp only[f];exact zw l hk h
   ·exact h.elim
def uM(v:AV)(a b:St->Prop)(s:St):Prop:=
 match v with
 | .p (.bool t)=>if t then a s else b s
 |_=>False
def vp(K:St->Prop)(Q:bA->St->Prop)(e:bA)(s:St):Prop:=
 match e with
 | .normal=>K s
 |e=>Q e s
def dw(P:bw)(ag:b3->Bool)(q:Cx):Code->(bA->St->Prop)->St->Prop
 | .skip,Q,s| .label _,Q,s=>Q .normal s
 | .region _ ops draw,Q,s=>if draw then gL P ag ops ops.toList 0 [] (Q .normal) s else gD P ag ops ops.toList (Q .normal) s
 | .seq a b,Q,s=>dw P ag q a (vp (dw P ag q b Q) Q) s
 | .cond c a b,Q,s=>uM (ev s.env c) (dw P ag q a Q) (dw P ag q b Q) s
 | .block id b,Q,s=>dw P ag q b (oM id Q) s
 | .scope b,Q,s=>dw P ag q b Q s
 | .loop b,Q,s=>∃I:Nat->St->Prop,(∃n t,de q.2 s t/\I n t)/\∀n t,I n t->dw P ag q b (uI q.2 n I Q) t
 | .rangeFunc f d a b,Q,s=>q.2<=s.heap.length/\jH P (ev s.env f) s.heap.length (s.heap++[.loop ⟨.ready,none,q.1,d.toList,a,b,s.env⟩]) (iO s.heap.length s.env Q)
 | .exit id,Q,s=>Q (.exit id) s
 | .ret,Q,s=>Q .ret s
 |_,_,_=>False
theorem XL{Q a:bA->St->Prop}(hq:∀e s,Q e s->a e s){j:Option Code}{s:St}(h:jY Q j s):jY a j s:=by
 unfold jY at h⊢
 split at h
 ·exact hq _ _ h
 ·exact hq _ _ h
 ·exact hq _ _ h
 ·exact h.elim
theorem Ky{Q a:bA->St->Prop}(hq:∀e s,Q e s->a e s){b:Nat}{env:Env}{H:aj}(h:iO b env Q H):iO b env a H:=by
 unfold iO at h⊢
 split at h
 ·exact⟨h.1,XL hq h.2⟩
 ·exact h.elim
theorem Ku{it:AV}{b:Nat}{H:aj}{K d:aj->Prop}(hk:∀H,K H->d H)(h:jH P it b H K):jH P it b H d:=by
 unfold jH at h⊢
 split at h
 ·obtain⟨H',v,a,c⟩:=h;exact⟨H',v,a,hk _ c⟩
 ·obtain⟨H',v,a,c⟩:=h;exact⟨H',v,a,hk _ c⟩
 ·exact h.elim
theorem mq{q:Cx}:∀(c:Code){Q Q':bA->St->Prop}{s:St},(∀e s,Q e s->Q' e s)->dw P ag q c Q s->cg P ag q c Q' s
 | .skip,Q,Q',s,hq,h| .label _,Q,Q',s,hq,h=>by simp only[dw]at h;simp only[cg];exact hq _ _ h
 | .exit _,Q,Q',s,hq,h| .ret,Q,Q',s,hq,h=>by simp only[dw]at h;simp only[cg];exact hq _ _ h
 | .region id ops draw,Q,Q',s,hq,h=>by
  simp only[dw]at h;simp only[cg]
  split at h
  ·rename_i j;rw[if_pos j];exact zw _ (hq _) h
  ·rename_i j;rw[if_neg j];exact Aa _ (hq _) h
 | .seq a b,Q,Q',s,hq,h=>by
  simp only[dw]at h;simp only[cg];refine mq a (fun e s d=>?_) h;cases e with
  |normal=>exact mq b hq d
  |exit id=>exact hq _ _ d
  |ret=>exact hq _ _ d
 | .cond c a b,Q,Q',s,hq,h=>by
  simp only[dw]at h;simp only[cg];unfold uM at h
  split at h
  ·rename_i t m;simp only[m]
   split at h
   ·rename_i g;rw[if_pos g];exact mq a hq h
   ·rename_i g;rw[if_neg g];exact mq b hq h
  ·exact h.elim
 | .block id b,Q,Q',s,hq,h=>by
  simp only[dw]at h;simp only[cg];refine mq b (fun e s d=>?_) h;cases e with
  |normal=>exact hq _ _ d
  |exit i=>
   simp only[oM]at d
   by_cases hi:i=id
   ·simp only[hi,if_true]at d⊢;exact hq _ _ d
   ·simp only[hi,if_false]at d⊢;exact hq _ _ d
  |ret=>exact hq _ _ d
 | .scope b,Q,Q',s,hq,h=>by simp only[dw]at h;simp only[cg];exact mq b hq h
 | .loop b,Q,Q',s,hq,h=>by
  simp only[dw]at h;simp only[cg];obtain⟨I,k,l⟩:=h;refine⟨I,k,fun n t hI=>mq b (fun e s d=>?_) (l n t hI)⟩;cases e with
  |normal=>exact d
  |exit id=>exact hq _ _ d
  |ret=>exact hq _ _ d
 | .rangeFunc f o a b,Q,Q',s,hq,h=>by
  simp only[dw]at h;simp only[cg];exact⟨h.1,s.env,fun _=>rfl,Ku (fun H=>Ky hq) h.2⟩
 | .goto _,_,_,_,_,h| .refuse _,_,_,_,_,h=>by simp[dw]at h
end
end Go.ak
