import Derived.Test.YtfdgnogcckoalaaGreatDoorRThB
/- Parts of a proof. -/
set_option linter.unusedSimpArgs false
set_option linter.unusedVariables false
set_option linter.unusedSectionVars false
open BitVec renaming ofInt->am
open Bool renaming cond_eq_ite->ao, and_eq_true->ap, false_eq_true->av
open Go renaming Operand->ax, TypeId->ay, FuncId->aT, Program->a0, ResultVar->a1, Value->a3, World->a4, IntKind->a5, BinOp->a6
open Int renaming natCast_nonneg->a7, ofNat_eq_natCast->a8, toNat_natCast->a9
open List renaming getElem?_eq_getElem->bb, getElem?_eq_some_iff->be, replicate->bi, mem_cons->bk, mem_iff_getElem->bl, mem_map->bo, map_cons->bv, range->b0, isEmpty_cons->b1, of_mem_zip->b2, map_append->b3, drop_eq_getElem_cons->b4, getElem?_replicate->b5, mem_of_getElem?->cb, map_id->cc, take_add_one->ce, mem_range'_1->ck, append_assoc->cx, getElem_mem->cy, nodup_cons->cE, mem_append->cN, nodup_nil->cR, rec->c6
open Nat renaming ble->c7, beq->c8, le_refl->c9, ble_eq_true_of_le->da, beq_refl->db, sub_self->dg, pow_succ->dk, mod_lt->dl
open Option renaming ite_none_right_eq_some->dp
open Option.some renaming injEq->dq
open Prod.mk renaming injEq->dz
namespace Go.au
set_option linter.unusedSectionVars false
variable[Gl]
section
variable{P:a0}{ag:aT->Bool}
def sE:jU->jU->Bool
 | .leaf,.leaf=>true
 | .agg u,.agg v=>c8 u v
 |_,_=>false
theorem ji{a b:jU}(h:sE a b=true):a=b/\b≠.bad:=by
 cases a<;>cases b<;>simp_all [sE]
def kE:AK->AK->Bool
 | .exact,.exact| .grow,.grow| .frozen,.frozen| .bytes,.bytes=>true
 |_,_=>false
def xq:AK->Bool
 | .frozen=>false
 |_=>true
theorem Eb{k:AK}(h:xq k=true):k≠.frozen:=by cases k<;>simp_all [xq]
def oT(k:AK)(a:List AV):Bool:=match k.gr,a with
 |true,[]=>false
 |_,_=>true
theorem wK{k:AK}{a:List AV}(h:oT k a=true):¬(k.gr=true/\a=[]):=by
 rintro⟨b,rfl⟩;simp[oT,b]at h
theorem dC{a b:Nat}(h:c8 a b=true):a=b:=Nat.eq_of_beq_eq_true h
theorem dd{a b:Nat}(h:c7 a b=true):a<=b:=Nat.le_of_ble_eq_true h
def Ru:a5->a5->Bool:=fun a b=>decide (a=b)
def wL(P:a0)(l:List Nat):List (Nat×AV)->Bool
 |[]=>true
 |(i,v)::r=>(match l[i]? with
  |some n=>c8 (bG P (ad v)) n&&(match ad v with
   | .bad=>false
   |_=>true)
  |none=>false)&&wL P l r
theorem CG{l:List Nat}:∀{r:List (Nat×AV)},wL P l r=true->mg P l r
 |[],_=>trivial
 |(i,v)::r,h=>by
  simp only[wL,ap]at h;refine⟨?_,CG h.2⟩;have a:=h.1
  split at a
  ·rename_i n c;simp only[ap]at a;refine⟨n,c,dC a.1,fun b=>?_⟩;rw[b]at a;simp at a
  ·simp at a
def pY(P:a0)(sz:Nat):List AV->Bool
 |[]=>true
 |v::r=>(match ad v with
  | .bad=>false
  |s=>c8 (bG P s) sz)&&pY P sz r
theorem tX{sz:Nat}:∀{r:List AV},pY P sz r=true->fk P sz r
 |[],_=>trivial
 |v::r,h=>by
  simp only[pY,ap]at h;refine⟨?_,tX h.2⟩;have a:=h.1
  split at a
  ·simp at a
  ·rename_i b;exact⟨b,dC a⟩
def FC(P:a0)(T:ay)(H:Heap)(a:AV):Option aU:=
 match a with
 | .ptr b path=>match H[b]? with
  |some (.box fz t)=>match fc t path with
   |some s=>bif sE (kindOf P T) (ad s)then some {v:=s,ak:=[(b,.box fz t)]}else none
   |none=>none
  |_=>none
 | .b8 b aq ai i path=>match H[b]? with
  |some (.arr k d c es)=>bif c8 aq d&&c8 ai c then match es[i]? with
   |some x=>match fc x path with
    |some s=>bif sE (kindOf P T) (ad s)then some {v:=s,ak:=[(b,.arr k d c es)]}else none
    |none=>none
   |none=>none
   else none
  |_=>none
 | .p (.cA t)=>bif sE (kindOf P T) (aL t)then some {v:=.p t}else none
 |_=>none
theorem Zd{T:ay}{H:Heap}{a:AV}{e:aU}{K:aU->Prop}(h:FC P T H a=some e)(hk:K e):oK P T H a K:=by
 unfold FC at h;unfold oK
 split at h
 ·split at h
  ·split at h
   ·rename_i hs;simp only[ao,dp,dq]at h;rename_i c _ _;obtain⟨b,rfl⟩:=h;simp only[c,hs];exact⟨(ji b).1,hk⟩
   ·simp at h
  ·simp at h
 ·split at h
  ·rename_i c;simp only[ao,dp,ap]at h;obtain⟨⟨b,d⟩,h⟩:=h
   split at h
   ·rename_i hx
    split at h
    ·rename_i hs;simp only[dp,dq]at h;obtain⟨f,rfl⟩:=h;obtain⟨hi,rfl⟩:=be.1 hx;simp only[c];refine⟨dC b,dC d,hi,?_⟩;simp only[hs];exact⟨(ji f).1,hk⟩
    ·simp at h
   ·simp at h
  ·simp at h
 ·simp only[ao,dp,dq]at h;obtain⟨b,rfl⟩:=h;exact⟨(ji b).1,hk⟩
 ·simp at h
def D2(P:a0)(T:ay)(H:Heap)(a x:AV):Option aU:=
 bif sE (kindOf P T) (ad x)then match a with
 | .ptr b path=>match H[b]? with
  |some (.box false t)=>match fc t path,gn t path x with
   |some s,some d=>bif sE (ad s) (ad x)then some {v:=.p (.aE []),ak:=[(b,.box false t)],aG:=[(b,.box false d)]}else none
   |_,_=>none
  |_=>none
 | .b8 b aq ai i path=>match H[b]? with
  |some (.arr k e c es)=>bif c8 aq e&&(c8 ai c&&xq k)then match es[i]? with
   |some y=>match fc y path,gn y path x with
    |some s,some d=>bif sE (ad s) (ad x)then some {v:=.p (.aE []),ak:=[(b,.arr k e c es)],aG:=[(b,.arr k e c (es.set i d))]}else none
    |_,_=>none
   |none=>none
   else none
  |_=>none
 |_=>none
 else none
theorem Xt{T:ay}{H:Heap}{a x:AV}{e:aU}{K:aU->Prop}(h:D2 P T H a x=some e)(hk:K e):ov P T H a x K:=by
 unfold D2 at h;unfold ov;simp only[ao,dp]at h;obtain⟨f,h⟩:=h;refine⟨(ji f).1,(ji f).2,?_⟩
 split at h
 ·split at h
  ·rename_i c
   split at h
   ·rename_i hs d;simp only[dp,dq]at h;obtain⟨b,rfl⟩:=h;simp only[c,hs,d];exact⟨(ji b).1,hk⟩
   ·simp at h
  ·simp at h
 ·split at h
  ·rename_i c;simp only[dp,ap]at h;obtain⟨⟨b,g,i⟩,h⟩:=h
   split at h
   ·rename_i k
    split at h
    ·rename_i hs d;simp only[dp,dq]at h;obtain⟨j,rfl⟩:=h;obtain⟨hi,rfl⟩:=be.1 k;simp only[c];refine⟨dC b,dC g,Eb i,hi,?_⟩;simp only[hs,d];exact⟨(ji j).1,hk⟩
    ·simp at h
   ·simp at h
  ·simp at h
 ·simp at h
def EX(op:a6)(k:a5)(a b:Int):Option PV:=
 match op with
 | .add=>some (.int k (k.wrap (a+b)))
 | .sub=>some (.int k (k.wrap (a-b)))
 | .mul=>some (.int k (k.wrap (a*b)))
 | .quo=>match b with
  | .ofNat 0=>none
  |b=>some (.int k (k.wrap (a.tdiv b)))
 | .rem=>match b with
  | .ofNat 0=>none
  |b=>some (.int k (a.tmod b))
 | .and=>some (.int k (k.wrap (am k.bits a&&&am k.bits b).toNat))
 | .or=>some (.int k (k.wrap (am k.bits a|||am k.bits b).toNat))
 | .xor=>some (.int k (k.wrap (am k.bits a^^^am k.bits b).toNat))
 | .andNot=>some (.int k (k.wrap (am k.bits a&&&~~~am k.bits b).toNat))
 | .eql=>some (.bool (a==b))
 | .neq=>some (.bool (a !=b))
 | .lss=>some (.bool (decide (a<b)))
 | .leq=>some (.bool (decide (a<=b)))
 | .gtr=>some (.bool (decide (a>b)))
 | .geq=>some (.bool (decide (a>=b)))
 | .shl=>match b with
  | .ofNat _=>some (.int k (k.wrap (a*2^(min b.toNat k.bits))))
  |_=>none
 | .shr=>match b with
  | .ofNat _=>some (.int k (a.fdiv (2^(min b.toNat k.bits))))
  |_=>none
theorem azD{op:a6}{k:a5}{a b:Int}{v:PV}{K:PV->Prop}(h:EX op k a b=some v)(hk:K v):pW op k a b K:=by
 cases op<;>simp only[EX]at h<;>simp only[pW]
 case quo|rem=>
  split at h
  ·simp at h
  ·rename_i d;simp only[dq]at h;subst h;exact⟨fun c=>d (by rw[c];rfl),hk⟩
 case shl|shr=>
  split at h
  ·simp only[dq]at h;subst h;exact⟨a7 _,hk⟩
  ·simp at h
 all_goals (simp only[dq]at h;subst h;exact hk)
def EG(P:a0)(op:a6)(T:ay)(c:Bool)(H:Heap)(x y:AV):Option PV:=
 match x,y with
 | .p (.int k a),.p (.int d b)=>bif Ru k d||(match op with
  | .shl| .shr=>true
  |_=>false)then EX op k a b else none
 | .p (.str a),.p (.str b)=>match op with
  | .add=>bif c7 (a.length+b.length) 9223372036854775807 then some (.str (a++b))else none
  | .eql=>some (.bool (a==b))
  | .neq=>some (.bool (!(a==b)))
  | .lss=>some (.bool (jM a b))
  | .leq=>some (.bool (jM a b||a==b))
  | .gtr=>some (.bool (!(jM a b||a==b)))
  | .geq=>some (.bool (!(jM a b)))
  |_=>none
 | .p (.bool a),.p (.bool b)=>bif rq P T then match op with
  | .eql=>some (.bool (a==b))
  | .neq=>some (.bool (!(a==b)))
  |_=>none
  else none
 | .p (.st u fs),.p (.st u' gs)=>bif nG P T then match fy P 9 T (.st u fs) (.st u' gs),op with
  |some r,.eql=>some (.bool r)
  |some r,.neq=>some (.bool !r)
  |_,_=>none
  else none
 |x,y=>match dF P T c y with
  |some k=>match cZ H k x,op with
   |some r,.eql=>some (.bool r)
   |some r,.neq=>some (.bool !r)
   |_,_=>none
  |none=>none
theorem Z9{op:a6}{T:ay}{c:Bool}{H:Heap}{x y:AV}{v:PV}{K:PV->Prop}(h:EG P op T c H x y=some v)(hk:K v):kY P op T c H x y K:=by
 unfold EG at h;unfold kY
 split at h
 ·simp only[ao,dp,Bool.or_eq_true,Ru,decide_eq_true_eq]at h;refine⟨?_,azD h.2 hk⟩;rcases h.1 with b|b
  ·exact .inl b
  ·cases op<;>simp at b<;>simp
 ·split at h<;>simp only[pV]
  ·simp only[ao,dp,dq]at h;obtain⟨b,rfl⟩:=h;exact⟨by have:=dd b;omega,hk⟩
  ·simp only[dq]at h;subst h;exact hk
  ·simp only[dq]at h;subst h;exact hk
  ·simp only[dq]at h;subst h;exact hk
  ·simp only[dq]at h;subst h;exact hk
  ·simp only[dq]at h;subst h;exact hk
  ·simp only[dq]at h;subst h;exact hk
  ·simp at h
 ·simp only[ao,dp]at h;refine⟨h.1,?_⟩;have a:=h.2
  split at a
  ·simp only[dq]at a;subst a;exact hk
  ·simp only[dq]at a;subst a;exact hk
  ·simp at a
 ·simp only[ao,dp]at h;refine⟨h.1,?_⟩;have a:=h.2
  split at a
  ·rename_i d;simp only[dq]at a;subst a;simp only[d];exact hk
  ·rename_i d;simp only[dq]at a;subst a;simp only[d];exact hk
  ·simp at a
 ·split at h
  case h_2=>simp at h
  rename_i k f;show kY P op T c H x y _;rw[LH f];obtain⟨r,e,d⟩:∃r,cZ H k x=some r/\((op=.eql/\v=.bool r)\/(op=.neq/\v=.bool !r)):=by
   revert h;generalize cZ H k x=q;intro h;cases q with
   |none=>simp at h
   |some r=>cases op<;>simp at h<;>exact⟨r,rfl,by simp[h]⟩
  rw[e];rcases d with⟨rfl,rfl⟩|⟨rfl,rfl⟩<;>exact hk
def Cy(P:a0)(T:ay)(a:AV)(f:Nat):Option aU:=
 match fU P T with
 |some (u,n)=>bif c7 (f+1) n then match a with
  | .ptr b path=>some {v:=.ptr b (path++[(u,f)])}
  | .b8 b aq ai i path=>some {v:=.b8 b aq ai i (path++[(u,f)])}
  | .p (.cA t)=>bif sE (aL t) (.agg u)then match(cH t)[f]? with
   |some g=>some {v:=.p (.cA g)}
   |none=>none
   else none
  |_=>none
  else none
 |_=>none
theorem Ve{T:ay}{a:AV}{f:Nat}{e:aU}{K:aU->Prop}(h:Cy P T a f=some e)(hk:K e):n7 P T a f K:=by
 unfold Cy at h;unfold n7
 split at h
 ·rename_i hs;simp only[ao,dp]at h;obtain⟨b,h⟩:=h;simp only[hs];refine⟨by have:=dd b;omega,?_⟩
  split at h
  ·simp only[dq]at h;subst h;exact hk
  ·simp only[dq]at h;subst h;exact hk
  ·simp only[dp]at h;obtain⟨c,h⟩:=h
   split at h
   ·rename_i d;simp only[dq]at h;subst h;simp only[d];exact⟨(ji c).1,hk⟩
   ·simp at h
  ·simp at h
 ·simp at h
def oE(a:Option Nat)(b:Nat):Bool:=match a with
 |some x=>c8 x b
 |none=>false
theorem wX{a:Option Nat}{b:Nat}(h:oE a b=true):a=some b:=by
 unfold oE at h;split at h
 ·rw[dC h]
 ·simp at h
def Cu(P:a0)(T:ay)(H:Heap)(x i:AV):Option aU:=
 match i with
 | .p (.int _ (.ofNat i))=>match x with
  | .p (.bJ _ es)=>match es[i]? with
   |some y=>bif oE (cV P T) (bG P (aL y))then some {v:=.p (.cA y)}else none
   |none=>none
  | .p (.seq es)=>match es[i]? with
   |some y=>bif oE (cV P T) (bG P (aL y))then some {v:=.p (.cA y)}else none
   |none=>none
  | .sl b aq ai off len=>bif oE (cV P T) ai&&c7 (i+1) len then match H[b]? with
   |some (.arr k c a es)=>bif c8 aq c&&(c8 ai a&&oT k es)then some {v:=.b8 b aq ai (off+i) [],ak:=[(b,.arr k c a es)]}else none
   |_=>none
   else none
  | .ptr b path=>match iA P T with
   |some (u,n)=>bif c7 (i+1) n then some {v:=.ptr b (path++[(u,i)])}else none
   |_=>none
  | .b8 b aq ai j path=>match iA P T with
   |some (u,n)=>bif c7 (i+1) n then some {v:=.b8 b aq ai j (path++[(u,i)])}else none
   |_=>none
  | .p (.cA t)=>match iA P T with
   |some (u,n)=>bif sE (aL t) (.agg u)&&c7 (i+1) n then match(cH t)[i]? with
    |some g=>some {v:=.p (.cA g)}
    |none=>none
    else none
   |_=>none
  |_=>none
 |_=>none
theorem Vq{T:ay}{H:Heap}{x i:AV}{e:aU}{K:aU->Prop}(h:Cu P T H x i=some e)(hk:K e):n6 P T H x i K:=by
 unfold Cu at h;unfold n6
 split at h
 case h_2=>simp at h
 rename_i i;refine⟨a7 _,?_⟩;simp only[a8,a9]
 split at h
 ·split at h
  ·rename_i y d;simp only[ao,dp,dq]at h;obtain⟨a,rfl⟩:=h;obtain⟨hi,rfl⟩:=be.1 d;exact⟨hi,wX a,hk⟩
  ·simp at h
 ·split at h
  ·rename_i y d;simp only[ao,dp,dq]at h;obtain⟨a,rfl⟩:=h;obtain⟨hi,rfl⟩:=be.1 d;exact⟨hi,wX a,hk⟩
  ·simp at h
 ·simp only[ao,dp,ap]at h;obtain⟨⟨a,c⟩,h⟩:=h;refine⟨wX a,by have:=dd c;omega,?_⟩
  split at h
  ·rename_i k;simp only[dp,dq]at h;obtain⟨⟨f,g,j⟩,rfl⟩:=h;simp only[k];exact⟨dC f,dC g,wK j,hk⟩
  ·simp at h
 ·split at h
  ·rename_i b;simp only[ao,dp,dq]at h;obtain⟨a,rfl⟩:=h;simp only[b];exact⟨by have:=dd a;omega,hk⟩
  ·simp at h
 ·split at h
  ·rename_i b;simp only[ao,dp,dq]at h;obtain⟨a,rfl⟩:=h;simp only[b];exact⟨by have:=dd a;omega,hk⟩
  ·simp at h
 ·split at h
  ·rename_i b;simp only[ao,dp,ap]at h;obtain⟨⟨a,c⟩,h⟩:=h
   split at h
   ·rename_i l;simp only[dq]at h;subst h;simp only[b,l];exact⟨(ji a).1,by have:=dd c;omega,hk⟩
   ·simp at h
  ·simp at h
 ·simp at h
def DT(P:a0)(T X:ay)(H:Heap)(s x:AV):Option aU:=
 match cV P T,ib H x with
 |some sz,some xs=>bif iy P X&&((cK P (dW P T)).isSome&&pY P sz xs)then
  match s with
  | .p .aK=>match xs with
   |[]=>some {v:=s,ak:=dH H x}
   |y::r=>bif c7 (y::r).length cM then some {v:=.sl H.length 0 sz 0 (y::r).length,ak:=dH H x,aS:=[.arr (gk P T) 0 sz (y::r)]}else none
  | .p (.bJ full es)=>bif pY P sz (es.map .p)then match xs with
   |[]=>some {v:=s,ak:=dH H x}
   |y::r=>bif full&&c7 (es.length+(y::r).length) cM then
    some {v:=.sl H.length 0 sz 0 (es.length+(y::r).length),ak:=dH H x,aS:=[.arr (gk P T) 0 sz (es.map .p++(y::r))]}else none
   else none
  | .sl b aq ai off len=>match H[b]? with
   |some (.arr k c a es)=>bif c8 aq c&&(c8 ai a&&(c8 ai sz&&c7 (off+len) es.length))then
    match xs with
    |[]=>some {v:=s,ak:=(b,.arr k c a es)::dH H x}
    |y::r=>bif c7 (es.length+(y::r).length) cM then match k with
     | .frozen=>none
     | .exact=>bif c7 (off+len+(y::r).length) es.length then
      some {v:=.sl b aq ai off (len+(y::r).length),ak:=(b,.arr .exact c a es)::dH H x,aG:=[(b,.arr .exact aq ai (es.take (off+len)++(y::r)++es.drop (off+len+(y::r).length)))]}
      else some {v:=.sl H.length 0 sz 0 (len+(y::r).length),ak:=(b,.arr .exact c a es)::dH H x,aS:=[.arr (gk P T) 0 sz ((es.drop off).take len++(y::r))]}
     | .grow=>bif c8 off 0 then some {v:=.sl b (aq+1) ai 0 (len+(y::r).length),ak:=(b,.arr .grow c a es)::dH H x,aG:=[(b,.arr .grow (aq+1) ai (es.take len++(y::r)))]}else none
     | .bytes=>bif c8 off 0&&c8 (dW P T) Gl.u8 then some {v:=.sl b (aq+1) ai 0 (len+(y::r).length),ak:=(b,.arr .bytes c a es)::dH H x,aG:=[(b,.arr .bytes (aq+1) ai (es.take len++(y::r)))]}else none
     else none
    else none
   |_=>none
  |_=>none
  else none
 |_,_=>none
theorem UA{T X:ay}{H:Heap}{s x:AV}{e:aU}{K:aU->Prop}(h:DT P T X H s x=some e)(hk:K e):oc P T X H s x K:=by
 unfold DT at h;unfold oc
 split at h
 case h_2=>simp at h
 rename_i sz r n p;simp only[ao,dp,ap]at h;obtain⟨⟨g,j,k⟩,h⟩:=h;simp only[n,p];refine⟨g,j,tX k,?_⟩
 split at h
 ·split at h
  ·simp only[dq]at h;subst h;simpa using hk
  ·simp only[dp,dq]at h;obtain⟨a,rfl⟩:=h;simp only[b1,av,if_false];exact⟨dd a,hk⟩
 ·simp only[dp]at h;obtain⟨a,h⟩:=h;refine⟨tX a,?_⟩
  split at h
  ·simp only[dq]at h;subst h;simpa using hk
  ·simp only[dp,dq]at h;obtain⟨⟨b,c⟩,rfl⟩:=h;simp only[b1,av,if_false];exact⟨b,dd c,hk⟩
 ·split at h
  case h_2=>simp at h
  rename_i o;simp only[dp]at h;obtain⟨⟨a,b,c,l⟩,h⟩:=h;simp only[o];refine⟨dC a,dC b,dC c,dd l,?_⟩
  split at h
  ·simp only[dq]at h;subst h;simpa using hk
  ·simp only[dp]at h;obtain⟨m,h⟩:=h;simp only[b1,av,if_false];refine⟨dd m,?_⟩
   split at h
   ·simp at h
   ·split at h
    ·rename_i f;simp only[dq]at h;subst h;simp only[dd f,if_true];exact hk
    ·rename_i f;simp only[dq]at h;subst h;rw[if_neg (fun q=>f (da q))];exact hk
   ·simp only[dp,dq]at h;obtain⟨d,rfl⟩:=h;exact⟨dC d,(fun h=>by cases h),hk⟩
   ·simp only[dp,dq]at h;obtain⟨⟨d,i⟩,rfl⟩:=h;exact⟨dC d,fun _=>dC i,hk⟩
 ·simp at h
end
section
variable{P:a0}{ag:aT->Bool}
def kg(x:Option AV)(d:Nat):Option Nat:=
 match x with
 |none=>some d
 |some (.p (.int _ (.ofNat i)))=>some i
 |_=>none
theorem kT{x:Option AV}{d n:Nat}{K:Nat->Prop}(h:kg x d=some n)(hk:K n):gT x d K:=by
 unfold kg at h;unfold gT
 split at h
 ·simp only[dq]at h;subst h;exact hk
 ·simp only[dq]at h;subst h;exact⟨a7 _,hk⟩
 ·simp at h
def D4(P:a0)(T:ay)(H:Heap)(x:AV)(lo hi e:Option AV):Option aU:=
 match e with
 |some _=>none
 |none=>match x with
  | .p (.str s)=>match kg hi s.length,kg lo 0 with
   |some h,some l=>bif iW P T&&(c7 h s.length&&c7 l h)then some {v:=.p (.str ((s.take h).drop l))}else none
   |_,_=>none
  | .p .aK=>match kg hi 0,kg lo 0 with
   |some h,some l=>bif (cV P T).isSome&&(c7 h 0&&c7 l h)then some {v:=x}else none
   |_,_=>none
  | .p (.bJ full es)=>match kg hi es.length,kg lo 0,cV P T with
   |some h,some l,some sz=>bif c7 h es.length&&(c7 l h&&pY P sz (es.map .p))then some {v:=.p (.bJ (full&&h==es.length) ((es.take h).drop l))}else none
   |_,_,_=>none
  | .p (.seq es)=>match kg hi es.length,kg lo 0,cV P T with
   |some h,some l,some sz=>bif c7 h es.length&&(c7 l h&&pY P sz (es.map .p))then some {v:=.p (.seq ((es.take h).drop l))}else none
   |_,_,_=>none
  | .sl b aq ai off len=>match H[b]? with
   |some (.arr k c a es)=>match kg hi len,kg lo 0 with
    |some h,some l=>bif c8 aq c&&(c8 ai a&&(oE (cV P T) ai&&(oT k es&&(c7 (off+len) es.length&&(c7 (off+h) es.length&&c7 l h)))))then
     match l with
     |0=>some {v:=.sl b aq ai off h,ak:=[(b,.arr k c a es)]}
     |d+1=>bif c8 (d+1) h then some {v:=.p (.bJ false []),ak:=[(b,.arr k c a es)]}else some {v:=.sl b aq ai (off+(d+1)) (h-(d+1)),ak:=[(b,.arr k c a es)]}
     else none
    |_,_=>none
   |_=>none
  |_=>none
theorem Xx{T:ay}{H:Heap}{x:AV}{lo hi i:Option AV}{e:aU}{K:aU->Prop}(h:D4 P T H x lo hi i=some e)(hk:K e):ow P T H x lo hi i K:=by
 unfold D4 at h;unfold ow
 split at h
 ·simp at h
 refine⟨rfl,?_⟩
 split at h
 ·split at h
  case h_2=>simp at h
  rename_i a b;simp only[ao,dp,ap,dq]at h;obtain⟨⟨c,d,f⟩,rfl⟩:=h;exact⟨c,kT a (kT b ⟨dd d,dd f,hk⟩)⟩
 ·split at h
  case h_2=>simp at h
  rename_i a b;simp only[ao,dp,ap,dq]at h;obtain⟨⟨c,d,f⟩,rfl⟩:=h;exact⟨c,kT a (kT b ⟨dd d,dd f,hk⟩)⟩
 ·split at h
  case h_2=>simp at h
  rename_i a b c;simp only[ao,dp,ap,dq]at h;obtain⟨⟨d,f,g⟩,rfl⟩:=h;refine kT a (kT b ⟨dd d,dd f,?_⟩);simp only[c];exact⟨tX g,hk⟩
 ·split at h
  case h_2=>simp at h
  rename_i a b c;simp only[ao,dp,ap,dq]at h;obtain⟨⟨d,f,g⟩,rfl⟩:=h;refine kT a (kT b ⟨dd d,dd f,?_⟩);simp only[c];exact⟨tX g,hk⟩
 ·split at h
  case h_2=>simp at h
  rename_i m
  split at h
  case h_2=>simp at h
  rename_i a b;simp only[ao,dp,ap]at h;obtain⟨⟨c,d,f,g,j,k,l⟩,h⟩:=h;simp only[m];refine⟨dC c,dC d,wX f,wK g,dd j,kT a (kT b ⟨dd k,dd l,?_⟩)⟩
  split at h
  ·simp only[dq]at h;subst h;simpa using hk
  ·rw[if_neg o_]
   split at h
   ·rename_i hl;simp only[dq]at h;subst h;rw[if_pos (dC hl)];exact hk
   ·rename_i hl;simp only[dq]at h;subst h;rw[if_neg (fun e=>hl (by rw[<-e];exact db _))];exact hk
 ·simp at h
def Dp(P:a0)(T:ay)(H:Heap)(x:AV)(lo hi:Option AV)(m:AV):Option aU:=
 match x with
 | .sl b aq ai off len=>match H[b]? with
  |some (.arr k c a es)=>match kg hi len,kg lo 0,kg (some m) 0 with
   |some h,some l,some m=>bif c8 aq c&&(c8 ai a&&((cV P T).isSome&&(oT k es&&(c7 (off+len) es.length&&(hi.isSome&&(c7 (off+m) es.length&&(c7 h m&&c7 l h)))))))then
    some {v:=.p .undef,ak:=[(b,.arr k c a es)]}else none
   |_,_,_=>none
  |_=>none
 |_=>none
theorem Xb{T:ay}{H:Heap}{x:AV}{lo hi:Option AV}{m:AV}{e:aU}{K:aU->Prop}(h:Dp P T H x lo hi m=some e)(hk:K e):qP P T H x lo hi m K:=by
 unfold Dp at h;unfold qP
 split at h
 case h_2=>simp at h
 split at h
 case h_2=>simp at h
 rename_i d
 split at h
 case h_2=>simp at h
 rename_i a b c;simp only[ao,dp,ap,dq]at h;obtain⟨⟨g1,g2,g3,g4,g5,g6,g7,g8,g9⟩,rfl⟩:=h;simp only[d];exact⟨dC g1,dC g2,g3,wK g4,dd g5,g6,kT a (kT b (kT c ⟨dd g7,dd g8,dd g9,hk⟩))⟩
def Ag(ok:Bool)(z:PV)(r:Option PV):PV:=
 match r with
 |some v=>bif ok then .aE [v,.bool true]else v
 |none=>bif ok then .aE [z,.bool false]else z
def aKm(ok:Bool)(z:PV)(r:Option AV):AV:=
 match r with
 |some v=>bif ok then .aE [v,.p (.bool true)]else v
 |none=>.p (bif ok then .aE [z,.bool false]else z)
def NY(P:a0)(T:ay)(H:Heap)(x i:AV)(ok:Bool):Option aU:=
 match jP P T,i with
 |some (a,E),.p key=>match cK P E with
  |some z=>bif fj P a key then match x with
   | .p .fM=>some {v:=.p (Ag ok z none)}
   | .p (.fq es)=>match gu P a es key with
    |some r=>some {v:=.p (Ag ok z r)}
    |none=>none
   | .map b=>match H[b]? with
    |some (.map fz es)=>match gu P a es key with
     |some r=>some {v:=.p (Ag ok z r),ak:=[(b,.map fz es)]}
     |none=>none
    |some (.cQ ks vs)=>bif lN key then match jW P a ks vs key with
     |some r=>some {v:=aKm ok z r,ak:=[(b,.cQ ks vs)]}
     |none=>none
     else none
    |_=>none
   |_=>none
   else none
  |none=>none
 |_,_=>none
def AN(P:a0)(c:ay)(b:Nat)(key:PV)(x:AV)(a:Obj):Option aU:=
 match o9 a with
 |some (ks,vs)=>bif lN key then match jW P c ks vs key with
  |some none=>some {v:=.p (.aE []),ak:=[(b,a)],aG:=[(b,.cQ (ks++[key]) (vs++[x]))]}
  |_=>none
  else none
 |none=>none
theorem BN{P:a0}{a:ay}{b:Nat}{key:PV}{x:AV}{c:Obj}{e:aU}{K:aU->Prop}(h:AN P a b key x c=some e)(hk:K e):mU P a b key x c K:=by
 unfold AN at h;unfold mU
 split at h
 ·rename_i ks vs f;simp only[ao,dp]at h;obtain⟨d,h⟩:=h
  split at h
  ·rename_i hl;simp only[dq]at h;subst h;simp only[f];exact⟨d,hl,hk⟩
  ·cases h
 ·cases h
def NU(P:a0)(T:ay)(H:Heap)(m k x:AV):Option aU:=
 match jP P T,m,k with
 |some (a,_),.map b,.p key=>bif fj P a key then match H[b]? with
  |some (.map false es)=>match x with
   | .p v=>match mu P a es key with
    |some _=>some {v:=.p (.aE []),ak:=[(b,.map false es)],aG:=[(b,.map false (gS es key v))]}
    |none=>none
   |x=>AN P a b key x (.map false es)
  |some (.cQ ks vs)=>AN P a b key x (.cQ ks vs)
  |_=>none
  else none
 |_,_,_=>none
def Sm(H:Heap)(it:AV):Option aU:=
 match it with
 | .ptr b []=>match H[b]? with
  |some (.dD s pos)=>bif c7 (pos+1) s.length then
   some {v:=.p (.aE [.bool true,.int .i64 pos,.int .i32 (Utf8.decode (gM s) pos).1]),ak:=[(b,.dD s pos)],aG:=[(b,.dD s (pos+(Utf8.decode (gM s) pos).2))]}
   else some {v:=.p (.aE [.bool false]),ak:=[(b,.dD s pos)]}
  |_=>none
 |_=>none
def Mz(P:a0)(H:Heap)(b:Builtin)(c:Array ay)(args:List AV):Option aU:=
 match b,args with
 | .len,[x]=>match lenOf H x with
  |some (n,ak)=>bif ir P (c.getD 0 0) x&&c7 1 c.size then some {v:=.p (.int .i64 n),ak}else none
  |none=>none
 | .append,[s,x]=>bif c8 c.size 2 then DT P (c.getD 0 0) (c.getD 1 0) H s x else none
 | .min,.p (.int k a)::r=>match mh k false r a with
  |some n=>some {v:=.p (.int k n)}
  |none=>none
 | .max,.p (.int k a)::r=>match mh k true r a with
  |some n=>some {v:=.p (.int k n)}
  |none=>none
 | .copy,[d,x]=>match cV P (c.getD 0 0),d,ib H x with
  |some sz,.sl b aq ai off len,some xs=>bif c8 ai sz&&(pY P sz xs&&c8 c.size 2)then match H[b]? with
   |some (.arr k f e es)=>bif c8 aq f&&(c8 ai e&&(xq k&&(c7 (off+len) es.length&&oT k es)))then
    some {v:=.p (.int .i64 (min xs.length len:Nat)),ak:=(b,.arr k f e es)::dH H x,aG:=[(b,.arr k f e (es.take off++xs.take (min xs.length len)++es.drop (off+min xs.length len)))]}
    else none
   |_=>none
   else none
  |_,_,_=>none
 | .cap,[x]=>match Av H x with
  |some (n,ak)=>bif ir P (c.getD 0 0) x&&c7 1 c.size then some {v:=.p (.int .i64 n),ak}else none
  |none=>none
 | .clear,[x]=>match x with
  | .p .aK=>bif ir P (c.getD 0 0) x&&c7 1 c.size then some {v:=.p (.aE [])}else none
  | .sl b aq ai off len=>match cV P (c.getD 0 0),cK P (dW P (c.getD 0 0)),H[b]? with
   |some sz,some z,some (.arr k f e es)=>bif c8 aq f&&(c8 ai e&&(c8 ai sz&&(c8 (bG P (aL z)) sz&&(xq k&&(c7 (off+len) es.length&&(oT k es&&(c7 1 c.size&&c7 1 len)))))))then
    some {v:=.p (.aE []),ak:=[(b,.arr k f e es)],aG:=[(b,.arr k f e (es.take off++bi len (.p z)++es.drop (off+len)))]}else none
   |_,_,_=>none
  |_=>none
 | .unsafeSliceData,[x]=>match x with
  | .p .aK=>some {v:=.p .dc}
  | .sl b aq ai off len=>match H[b]? with
   |some (.arr k f e es)=>bif c8 aq f&&c8 ai e then
    bif oT k es then(bif c7 1 len&&c7 (off+len) es.length then some {v:=.b8 b aq ai off [],ak:=[(b,.arr k f e es)]}else none)
    else some {v:=.p .dc,ak:=[(b,.arr k f e es)]}
    else none
   |_=>none
  |_=>none
 | .unsafeString,[x,.p (.int .i64 (.ofNat n))]=>match x with
  | .p .dc=>bif c8 n 0&&c8 c.size 2 then some {v:=.p (.str [])}else none
  | .b8 b aq ai i []=>match H[b]? with
   |some (.arr .bytes f e es)=>bif c8 aq f&&(c8 ai e&&(c8 ai 1&&(c8 i 0&&(c7 1 n&&(c7 n es.length&&(c7 n 9223372036854775807&&(c8 c.size 2&&(oE (ptrTo P (c.getD 0 0)) Gl.u8&&c8 (P.cellsOf Gl.u8) 1))))))))then
    match bytesOf (es.take n)with
    |some l=>some {v:=.p (.str l),ak:=[(b,.arr .bytes f e es)],aG:=[(b,.dead)]}
    |none=>none
    else none
   |_=>none
  |_=>none
 |_,_=>none
def AU(P:a0)(ag:aT->Bool)(o:Oper)(ρ:ax->AV)(H:Heap):Option aU:=
 match o.op with
 | .move x| .assign x=>some {v:=ρ x}
 | .pick c a b=>match ρ c with
  | .p (.bool t)=>some {v:=bif t then ρ a else ρ b}
  |_=>none
 | .alloc T=>match cK P T with
  |some z=>bif sE (kindOf P T) (aL z)&&jS T (aL z)then some {v:=.ptr H.length [],aS:=[.box false (.p z)]}else none
  |none=>none
 | .box T x=>bif sE (kindOf P T) (ad (ρ x))&&jS T (ad (ρ x))then some {v:=.ptr H.length [],aS:=[.box false (ρ x)]}else none
 | .build T parts=>match kindOf P T,cK P T with
  | .agg u,some z=>match dL P u with
   |some l=>bif sE (aL z) (.agg u)&&wL P l (parts.toList.map fun(i,x)=>(i,ρ x))then some {v:=iC u (iV ((cH z).map .p) (parts.toList.map fun(i,x)=>(i,ρ x)))}else none
   |none=>none
  |_,_=>none
 | .buildSlice T n parts=>match cV P T,cK P (dW P T)with
  |some sz,some z=>bif c8 (bG P (aL z)) sz&&(c7 (n*sz) 1000000&&wL P (bi n sz) (parts.toList.map fun(i,x)=>(i,ρ x)))then
   some {v:=.sl H.length 0 sz 0 n,aS:=[.arr .exact 0 sz (iV (bi n (.p z)) (parts.toList.map fun(i,x)=>(i,ρ x)))]}else none
  |_,_=>none
 | .load T a=>FC P T H (ρ a)
 | .store T a x=>D2 P T H (ρ a) (ρ x)
 | .binOp op T x y _=>match EG P op T (mI y) H (ρ x) (ρ y)with
  |some v=>some {v:=.p v,ak:=dH H (ρ x)}
  |none=>none
 | .unOp op _ x=>match op,ρ x with
  | .not,.p (.bool b)=>some {v:=.p (.bool (!b))}
  | .neg,.p (.int k n)=>some {v:=.p (.int k (k.wrap (0-n)))}
  | .xor,.p (.int k n)=>some {v:=.p (.int k (k.wrap (am k.bits (if k.signed then -1 else k.max)^^^am k.bits n).toNat))}
  |_,_=>none
 | .convert S D x=>match P.underlying S,P.underlying D,ρ x with
  |some _,some (.int k),.p (.int _ n)=>some {v:=.p (.int k (k.wrap n))}
  |some _,some .string,.p (.str s)=>some {v:=.p (.str s)}
  |_,_,_=>none
 | .extract t i=>match ρ t with
  | .p (.aE vs)=>match vs[i]? with
   |some v=>some {v:=.p v}
   |none=>none
  | .aE vs=>match vs[i]? with
   |some v=>some {v}
   |none=>none
  |_=>none
 | .fieldAddr T a f=>Cy P T (ρ a) f
 | .indexAddr T x i=>Cu P T H (ρ x) (ρ i)
 | .field T x f=>match kindOf P T,P.underlying T,ρ x with
  | .agg u,some (.struct _),.p t=>match(cH t)[f]?,(jX P u)[f]? with
   |some g,some F=>bif sE (aL t) (.agg u)&&sE (kindOf P F) (aL g)then some {v:=.p g}else none
   |_,_=>none
  |_,_,_=>none
 | .index T x i=>match ρ x,ρ i with
  | .p (.str s),.p (.int _ (.ofNat i))=>match s[i]? with
   |some c=>bif iW P T then some {v:=.p (.int .u8 c)}else none
   |none=>none
  | .p (.st u es),.p (.int _ (.ofNat i))=>match iA P T,(jX P u)[i]?,es[i]? with
   |some (u',n),some F,some g=>bif c8 u' u&&(c7 (i+1) n&&sE (kindOf P F) (aL g))then some {v:=.p g}else none
   |_,_,_=>none
  |_,_=>none
 | .makeFunc (.func f) fi ca=>bif ag f then match fT H (fi.toList.map ρ),fT H (ca.toList.map ρ)with
   |some (a,[],[]),some (b,ak,aG)=>some {v:=.p (.func f a b),ak,aG}
   |_,_=>none
  else match eZ (fi.toList.map ρ),eZ (ca.toList.map ρ)with
   |some a,some b=>some {v:=.p (.func f a b)}
   |_,_=>some {v:=.func f (fi.toList.map ρ) (ca.toList.map ρ)}
 | .makeSlice T l c=>match cV P T,cK P (dW P T),ρ l,ρ c with
  |some sz,some z,.p (.int .i64 (.ofNat l)),.p (.int .i64 (.ofNat c))=>bif c8 (bG P (aL z)) sz&&(c8 l c&&c7 l cM)then
   some {v:=.sl H.length 0 sz 0 l,aS:=[.arr .exact 0 sz (bi l (.p z))]}else none
  |_,_,_,_=>none
 | .slice T x lo hi d=>match d with
  |none=>D4 P T H (ρ x) (lo.map ρ) (hi.map ρ) none
  |some m=>Dp P T H (ρ x) (lo.map ρ) (hi.map ρ) (ρ m)
 | .makeMap _ none=>some {v:=.map H.length,aS:=[.map false []]}
 | .lookup T x i ok=>NY P T H (ρ x) (ρ i) ok
 | .mapUpdate T m k x| .insert T m k x=>NU P T H (ρ m) (ρ k) (ρ x)
 | .range T x=>match ρ x with
  | .p (.str s)=>bif iW P T then some {v:=.ptr H.length [],aS:=[.dD s 0]}else none
  |_=>none
 | .next it true=>Sm H (ρ it)
 | .nilCheck x=>match ρ x with
  | .ptr _ _| .b8 _ _ _ _ _| .p (.cA _)=>some {v:=ρ x}
  |_=>none
 | .call c=>match c.callee with
  | .builtin b=>Mz P H b c.argTypes (c.args.toList.map ρ)
  |_=>none
 |_=>none
theorem PH{o:Oper}{ρ:ax->AV}{H:Heap}{e:aU}{K:aU->Prop}(h:AU P ag o ρ H=some e)(hk:K e):fC P ag o ρ H K:=by
 unfold AU at h;unfold fC;cases ac:o.op<;>simp only[ac]at h<;>simp only
 case move|assign=>simp only[dq]at h;subst h;exact hk
 case pick c a b=>
  split at h
  ·rename_i t hc;simp only[dq]at h;subst h;simp only[hc];cases t<;>exact hk
  ·simp at h
 case alloc T=>
  split at h
  ·rename_i z E;simp only[ao,dp,dq,ap]at h;obtain⟨⟨d,j⟩,rfl⟩:=h;simp only[E];exact⟨(ji d).1,(ji d).2,j,hk⟩
  ·simp at h
 case box T x=>
  simp only[ao,dp,dq,ap]at h;obtain⟨⟨d,j⟩,rfl⟩:=h;exact⟨(ji d).1,(ji d).2,j,hk⟩
 case build T parts=>
  split at h
  ·rename_i u z ad E
   split at h
   ·rename_i l hl;simp only[ao,dp,dq,ap]at h;obtain⟨⟨d,j⟩,rfl⟩:=h;simp only[ad,E,hl];exact⟨(ji d).1,CG j,hk⟩
   ·simp at h
  ·simp at h
 case buildSlice T n parts=>
  split at h
  ·rename_i sz z I E;simp only[ao,dp,dq,ap]at h;obtain⟨⟨d,j,q⟩,rfl⟩:=h;simp only[I,E];exact⟨dC d,dd j,CG q,hk⟩
  ·simp at h
 case load T a=>exact Zd h hk
 case store T a x=>exact Xt h hk
 case binOp op T x y af=>
  split at h
  ·rename_i v L;simp only[dq]at h;subst h;exact Z9 (K:=fun v=>K {v:=.p v,ak:=dH H (ρ x)}) L hk
  ·simp at h
 case unOp op T x=>
  split at h
  all_goals first
   |(rename_i hx;simp only[dq]at h;subst h;simp only[hx];exact hk)
   |simp at h
 case convert S D x=>
  split at h
  ·rename_i d j q;simp only[dq]at h;subst h;simp only[d,j,q];exact hk
  ·rename_i d j q;simp only[dq]at h;subst h;simp only[d,j,q];exact hk
  ·simp at h
 case extract t i=>
  split at h
  ·rename_i R
   split at h
   ·rename_i L;simp only[dq]at h;subst h;simp only[R,L];exact hk
   ·simp at h
  ·rename_i R
   split at h
   ·rename_i L;simp only[dq]at h;subst h;simp only[R,L];exact hk
   ·simp at h
  ·simp at h
 case fieldAddr T a f=>exact Ve h hk
 case indexAddr T x i=>exact Vq h hk
 case field T x f=>
  split at h
  ·rename_i d j q
   split at h
   ·rename_i A w;simp only[ao,dp,dq,ap]at h;obtain⟨⟨B,C⟩,rfl⟩:=h;simp only[d,j,q,A,w];exact⟨(ji B).1,(ji C).1,hk⟩
   ·simp at h
  ·simp at h
 case index T x i=>
  split at h
  ·rename_i d j
   split at h
   ·rename_i c hc;simp only[ao,dp,dq]at h;obtain⟨q,rfl⟩:=h;obtain⟨hi,rfl⟩:=be.1 hc;simp only[d,j];exact⟨q,a7 _,hi,hk⟩
   ·simp at h
  ·rename_i u V al i d j
   split at h
   ·rename_i u' n F g q A w;simp only[ao,dp,dq,ap]at h;obtain⟨⟨g1,g2,g3⟩,rfl⟩:=h;have e:(Int.ofNat i).toNat=i:=rfl;simp only[d,j,e,q,A,w];exact⟨dC g1,a7 _,dd g2,(ji g3).1,hk⟩
   ·simp at h
  ·simp at h
 case makeFunc fn fi ca=>
  cases fn<;>simp only at h<;>try (simp at h;done)
  rename_i f;simp only;simp only[ao]at h
  split at h
  ·rename_i hf;rw[if_pos hf]
   split at h
   ·rename_i d j;simp only[dq]at h;subst h;simp only[d,j];exact hk
   ·simp at h
  ·rename_i hf;rw[if_neg hf]
   split at h
   ·rename_i d j;simp only[dq]at h;subst h;simp only[d,j];exact hk
   ·rename_i ab;simp only[dq]at h;subst h
    split
    ·rename_i d j;exact(ab _ _ d j).elim
    ·exact hk
 case makeSlice T l c=>
  split at h
  ·rename_i d j q A;simp only[ao,dp,dq,ap]at h;obtain⟨⟨w,B,C⟩,rfl⟩:=h;have e:=dC B;simp only[d,j,q,A];refine⟨dC w,a7 _,by rw[e],?_,hk⟩;have:=dd C;show((_:Nat):Int)<=_
   exact_mod_cast this
  ·simp at h
 case slice T x lo hi ae=>
  cases ae with
  |none=>exact Xx h hk
  |some m=>exact Xb h hk
 case makeMap T r=>
  cases r<;>simp only at h
  ·simp only[dq]at h;subst h;exact hk
  ·simp at h
 case lookup T x i ok=>
  unfold NY at h
  split at h
  case h_2=>simp at h
  rename_i d j
  split at h
  case h_2=>simp at h
  rename_i z E;simp only[ao,dp]at h;obtain⟨q,h⟩:=h;simp only[d,j,E];refine⟨q,?_⟩
  have M:∀r:Option PV,Ag ok z r=match r with
    |some v=>if ok=true then .aE [v,.bool true]else v
    |none=>if ok=true then .aE [z,.bool false]else z:=by
   intro r;cases r<;>cases ok<;>rfl
  split at h
  ·rename_i hx;simp only[dq]at h;subst h;simp only[hx];rw[M]at hk;exact hk
  ·rename_i hx
   split at h
   ·rename_i r J;simp only[dq]at h;subst h;rw[M]at hk;simp only[hx,J];cases r<;>exact hk
   ·simp at h
  ·rename_i hx
   split at h
   ·rename_i s
    split at h
    ·rename_i r J;simp only[dq]at h;subst h;rw[M]at hk;simp only[hx,s,J];cases r<;>exact hk
    ·simp at h
   ·rename_i s;simp only[ao,dp]at h;obtain⟨Z,h⟩:=h
    split at h
    ·rename_i r J;simp only[dq]at h;subst h;simp only[hx,s,J];refine⟨Z,?_⟩;cases r<;>cases ok<;>exact hk
    ·simp at h
   ·simp at h
  ·simp at h
 case mapUpdate T m k x|insert T m k x=>
  unfold NU at h
  split at h
  case h_2=>simp at h
  rename_i d j q;simp only[ao,dp]at h;obtain⟨w,h⟩:=h;simp only[d,j,q];generalize ρ x=X at*
  split at h
  ·rename_i s;cases X with
   |p v=>
    simp only at h;refine⟨w,?_⟩
    split at h
    ·rename_i hl;simp only[dq]at h;subst h;simp only[s,hl];exact hk
    ·simp at h
   |_=>
    refine⟨w,?_⟩;simp only[s];exact BN h hk
  ·rename_i s;cases X with
   |p v=>
    refine⟨w,?_⟩;simp only[s];exact BN h hk
   |_=>
    refine⟨w,?_⟩;simp only[s];exact BN h hk
  ·simp at h
 case range T x=>
  split at h
  ·rename_i hx;simp only[ao,dp,dq]at h;obtain⟨d,rfl⟩:=h;simp only[hx];exact⟨d,hk⟩
  ·simp at h
 case next it isStr=>
  cases isStr<;>simp only at h
  ·simp at h
  unfold Sm at h
  split at h
  ·rename_i hx
   split at h
   ·rename_i s;simp only[hx,s];simp only[ao]at h
    split at h
    ·rename_i Q;simp only[dq]at h;subst h;rw[if_pos (by have:=dd Q;omega)];exact hk
    ·rename_i Q;simp only[dq]at h;subst h;rw[if_neg (fun aa=>Q (da (Nat.succ_le_of_lt aa)))];exact hk
   ·simp at h
  ·simp at h
 case nilCheck x=>
  split at h
  all_goals first
   |(rename_i hx;simp only[dq]at h;subst h;simp only[hx]at hk⊢;exact hk)
   |simp at h
 case call c=>
  split at h
  case h_2=>simp at h
  rename_i b hc;simp only[hc];generalize c.args.toList.map ρ=args at*;generalize c.argTypes=ah at*;unfold Mz at h
  split at h
  ·split at h
   ·rename_i hl;simp only[ao,dp,dq,ap]at h;obtain⟨⟨d,j⟩,rfl⟩:=h;simp only[hl];exact⟨d,dd j,hk⟩
   ·simp at h
  ·simp only[ao,dp]at h;exact⟨dC h.1,UA h.2 hk⟩
  ·split at h
   ·rename_i O;simp only[dq]at h;subst h;simp only[O];exact hk
   ·simp at h
  ·split at h
   ·rename_i O;simp only[dq]at h;subst h;simp only[O];exact hk
   ·simp at h
  ·split at h
   ·rename_i I Y;simp only[ao,dp,ap]at h;obtain⟨⟨d,j,q⟩,h⟩:=h;simp only[I,Y];refine⟨dC d,tX j,dC q,?_⟩
    split at h
    ·rename_i s;simp only[dp,dq]at h;obtain⟨⟨A,w,B,C,G⟩,rfl⟩:=h;simp only[s];exact⟨dC A,dC w,Eb B,dd C,wK G,hk⟩
    ·simp at h
   ·simp at h
  ·split at h
   ·rename_i hl;simp only[ao,dp,dq,ap]at h;obtain⟨⟨d,j⟩,rfl⟩:=h;simp only[hl];exact⟨d,dd j,hk⟩
   ·simp at h
  ·split at h
   ·simp only[ao,dp,dq,ap]at h;obtain⟨⟨d,j⟩,rfl⟩:=h;exact⟨d,dd j,hk⟩
   ·split at h
    ·rename_i I E s;simp only[ao,dp,dq,ap]at h;obtain⟨⟨d,j,q,A,w,B,C,G,N⟩,rfl⟩:=h;simp only[I,E,s];exact⟨dC d,dC j,dC q,dC A,Eb w,dd B,wK C,dd G,dd N,hk⟩
    ·simp at h
   ·simp at h
  ·split at h
   ·simp only[dq]at h;subst h;exact hk
   ·split at h
    ·rename_i s;simp only[ao,dp,ap]at h;obtain⟨⟨d,j⟩,h⟩:=h;simp only[s];refine⟨dC d,dC j,?_⟩
     split at h
     ·simp only[dp,dq]at h;obtain⟨⟨A,w⟩,rfl⟩:=h;exact .inr ⟨dd A,dd w,hk⟩
     ·rename_i U;simp only[dq]at h;subst h;rename_i k _ _ V _ _;refine .inl ⟨?_,?_,hk⟩<;>(unfold oT at U;split at U<;>simp_all)
    ·simp at h
   ·simp at h
  ·split at h
   ·simp only[ao,dp,dq,ap]at h;obtain⟨⟨d,j⟩,rfl⟩:=h;exact⟨by rw[dC d];rfl,dC j,hk⟩
   ·split at h
    ·rename_i s;simp only[ao,dp,ap]at h;obtain⟨⟨d,j,q,A,w,B,C,G,N,W⟩,h⟩:=h;have ai:=dd w;have aj:=dd C;simp only[s];refine⟨dC d,dC j,dC q,dC A,by simp;omega,by simpa using dd B,by simp;omega,dC G,wX N,dC W,?_⟩;simp only[a8,a9]
     split at h
     ·rename_i hl;simp only[dq]at h;subst h;simp only[hl];exact hk
     ·simp at h
    ·simp at h
   ·simp at h
  ·simp at h
 all_goals simp at h
end
end Go.au
namespace Go.au
variable[Gl]
section
variable(σ:Nat->Nat)
mutual
def cT:AV->AV
 | .p v=>.p v
 | .ptr b path=>.ptr (σ b) path
 | .b8 b aq ai i path=>.b8 (σ b) aq ai i path
 | .sl b aq ai off len=>.sl (σ b) aq ai off len
 | .map b=>.map (σ b)
 | .func f fi ca=>.func f (cW fi) (cW ca)
 | .st u fs=>.st u (cW fs)
 | .aE vs=>.aE (cW vs)
def cW:List AV->List AV
 |[]=>[]
 |v::vs=>cT v::cW vs
end
def ud:Env->Env
 |[]=>[]
 |(x,v)::r=>(x,cT σ v)::ud r
def de:Obj->Obj
 | .box fz t=>.box fz (cT σ t)
 | .arr k aq ai es=>.arr k aq ai (cW σ es)
 | .cQ ks vs=>.cQ ks (cW σ vs)
 | .loop L=>.loop {L with env:=ud σ L.env}
 |o=>o
end
section
variable{σ:Nat->Nat}
theorem Dh:∀(e:Env)(x:Nat),aN (ud σ e) x=cT σ (aN e x)
 |[],_=>rfl
 |(y,v)::r,x=>by
  simp only[ud,aN]
  split
  ·rfl
  ·exact Dh r x
theorem sY:∀l:List AV,(cW σ l).length=l.length
 |[]=>rfl
 |_::r=>by simp[cW,sY r]
theorem Zp{l:List AV}:cW σ l=[]↔l=[]:=by cases l<;>simp[cW]
theorem oA{k:AK}{a:List AV}:di k (cW σ a)↔di k a:=by simp[di,Zp]
theorem OA{v:AV}:(cT σ v).sq↔v.sq:=by cases v<;>simp[cT,AV.sq]
theorem Ys{v:AV}:ad (cT σ v)=ad v:=by cases v<;>rfl
theorem Nc:∀{l:List AV},(∀e∈cW σ l,e.sq)↔∀e∈l,e.sq
 |[]=>by simp[cW]
 |v::r=>by simp[cW,OA,Nc (l:=r)]
theorem qR{o:Obj}:(de σ o).live↔o.live:=by cases o<;>simp[de,Obj.live,oA]
theorem OH{o:Obj}{v:Nat}:(de σ o).has v↔o.has v:=by cases o<;>simp[de,Obj.has]
theorem YS{o:Obj}:de σ o=.hole↔o=.hole:=by cases o<;>simp[de]
mutual
theorem CY{S:Nat×Nat->Prop}:∀(v:AV),aC S (cT σ v)↔aC (fun x=>S (σ x.1,x.2)) v
 | .p _=>by simp[cT,aC]
 | .ptr _ _| .b8 _ _ _ _ _| .sl _ _ _ _ _| .map _=>by simp[cT,aC]
 | .func _ fi ca=>by simp only[cT,aC];rw[tt fi,tt ca]
 | .st _ fs=>by simp only[cT,aC];exact tt fs
 | .aE vs=>by simp only[cT,aC];exact tt vs
theorem tt{S:Nat×Nat->Prop}:∀(l:List AV),aR S (cW σ l)↔aR (fun x=>S (σ x.1,x.2)) l
 |[]=>by simp[cW,aR]
 |v::r=>by simp only[cW,aR];rw[CY v,tt r]
end
theorem XR{S:Nat×Nat->Prop}{o:Obj}:(de σ o).refs S↔o.refs (fun x=>S (σ x.1,x.2)):=by
 cases o<;>simp only[de,Obj.refs,CY,tt,Dh]
theorem Obj.refs.mono{S T:Nat×Nat->Prop}(h:∀x,S x->T x){o:Obj}(a:o.refs S):o.refs T:=by
 cases o with
 |box fz t=>exact aC.mono h _ a
 |arr k aq ai es=>exact aR.mono h _ a
 |cQ ks vs=>exact aR.mono h _ a
 |loop L=>exact fun x=>aC.mono h _ (a x)
 |_=>trivial
structure dT(σ:Nat->Nat)(dS:Bd)(H0:Heap)(β:Bd)(H:Heap):Prop where
 obj:∀(b:Nat)(o:Obj),H0[b]?=some o->H[σ b]?=some (de σ o)
 al:∀b,b<H0.length->β.al (σ b)=dS.al b/\β.cap (σ b)=dS.cap b
section
variable{P:a0}{w:a4}{aa:Nat->Prop}{dS β:Bd}{H0 H:Heap}
theorem dT.box(h:dT σ dS H0 β H){b:Nat}(a:b<H0.length):nh H (σ b)↔nh H0 b:=by
 have c:=h.obj b _ (bb a);have d:=bb a;unfold nh;rw[c,d];cases H0[b]<;>simp[de]
theorem dT.it(h:dT σ dS H0 β H){b:Nat}(a:b<H0.length):ni H (σ b)↔ni H0 b:=by
 have c:=h.obj b _ (bb a);have d:=bb a;unfold ni;rw[c,d];cases H0[b]<;>simp[de]
theorem dT.map(h:dT σ dS H0 β H){b:Nat}(a:b<H0.length):oF H (σ b)↔oF H0 b:=by
 have h1:=h.obj b _ (bb a);have c:=bb a;unfold oF;rw[h1,c];cases H0[b]<;>simp[de,Obj.vg]
theorem dT.loop(h:dT σ dS H0 β H){b:Nat}(a:b<H0.length):ie H (σ b)↔ie H0 b:=by
 have c:=h.obj b _ (bb a);have d:=bb a;unfold ie;rw[c,d];cases H0[b]<;>simp[de]
theorem dT.arr(h:dT σ dS H0 β H){b aq ai:Nat}{k:AK}{es:List AV}(a:b<H0.length):eA H (σ b) aq ai k es↔∃gW,eA H0 b aq ai k gW/\es=cW σ gW:=by
 have c:=h.obj b _ (bb a);have d:=bb a;unfold eA;rw[c,d];cases H0[b]<;>simp[de];constructor
 ·rintro⟨rfl,rfl,rfl,rfl⟩;exact⟨_,⟨rfl,rfl,rfl,rfl⟩,rfl⟩
 ·rintro⟨_,⟨rfl,rfl,rfl,rfl⟩,rfl⟩;exact⟨rfl,rfl,rfl,rfl⟩
theorem dT.EW(h:dT σ dS H0 β H){x:Nat×Nat}(a:x.1<H0.length):aH H (σ x.1,x.2)↔aH H0 x:=by
 have b:=h.obj x.1 _ (bb a);have c:=bb a;unfold aH;rw[b,c];simp[OH]
def Small(n:Nat):Nat×Nat->Prop:=fun x=>x.1<n
theorem dT.qx(h:dT σ dS H0 β H):∀{a:AV}{v:a3},aC (Small H0.length) a->(bV P β H (cT σ a) v↔bV P dS H0 a v)
 | .p _,_,_| .func _ _ _,_,_| .st _ _,_,_| .aE _,_,_=>by simp[cT,bV]
 | .ptr b path,v,c=>by
  simp only[aC,Small]at c;simp only[cT,bV,h.box c,h.it c,(h.al b c).1]
 | .b8 b aq ai i path,v,c=>by
  simp only[aC,Small]at c;simp only[cT,bV,h.arr c,(h.al b c).1];constructor
  ·rintro⟨al,off,o,e,f,g⟩;exact⟨al,off,o,e,f,fun k d hl l=>g k _ ⟨d,hl,rfl⟩ (by rwa [oA])⟩
  ·rintro⟨al,off,o,e,f,g⟩;refine⟨al,off,o,e,f,?_⟩;rintro k _ ⟨d,hl,rfl⟩ l;exact g k d hl (by rwa [oA]at l)
 | .sl b aq ai off len,v,c=>by
  simp only[aC,Small]at c;simp only[cT,bV,h.arr c,(h.al b c).1,(h.al b c).2];constructor
  ·intro j k d hl;have:=j k _ ⟨d,hl,rfl⟩;simpa only[sY,oA]using this
  ·rintro j k _ ⟨d,hl,rfl⟩;have:=j k d hl;simpa only[sY,oA]using this
 | .map b,v,c=>by
  simp only[aC,Small]at c;simp only[cT,bV,h.map c,h.loop c,(h.al b c).1]
mutual
theorem dT.OY(h:dT σ dS H0 β H):∀(a:AV)(cs:List a3),aC (Small H0.length) a->(bp P w aa β H (cT σ a) cs↔bp P w aa dS H0 a cs)
 | .p _,_,_=>by simp[cT,bp]
 | .aE _,_,_=>by simp[cT,bp]
 | .st u fs,cs,d=>by
  simp only[aC]at d;simp only[cT,bp];exact exists_congr fun l=>exists_congr fun e=>and_congr_right fun _=>and_congr_left fun _=>dT.Aj h l fs e d
 | .func f fi ca,cs,d=>by
  simp only[aC]at d;simp only[cT,bp];exact exists_congr fun l=>exists_congr fun e=>and_congr (dT.qe h fi l d.1) (and_congr_left fun _=>dT.qe h ca e d.2)
 | .ptr b path,cs,d=>by
  have:=fun v=>h.qx (P:=P) (a:=.ptr b path) (v:=v) d;simp only[cT,bp,bO]at this⊢;simp only[this]
 | .b8 b aq ai i path,cs,d=>by
  have:=fun v=>h.qx (P:=P) (a:=.b8 b aq ai i path) (v:=v) d;simp only[cT,bp,bO]at this⊢;simp only[this]
 | .sl b aq ai off len,cs,d=>by
  have:=fun v=>h.qx (P:=P) (a:=.sl b aq ai off len) (v:=v) d;simp only[cT,bp,bO]at this⊢;simp only[this]
 | .map b,cs,d=>by
  have:=fun v=>h.qx (P:=P) (a:=.map b) (v:=v) d;simp only[cT,bp,bO]at this⊢;simp only[this]
theorem dT.Aj(h:dT σ dS H0 β H):∀(g:List Nat)(l:List AV)(e:List (List a3)),aR (Small H0.length) l->(bL P w aa β H g (cW σ l) e↔bL P w aa dS H0 g l e)
 |[],[],e,_=>by simp[cW,bL]
 |[],_::_,e,_=>by simp[cW,bL]
 |_::_,[],e,_=>by simp[cW,bL]
 |n::g,v::vs,e,d=>by
  simp only[aR]at d;simp only[cW,bL];exact exists_congr fun c=>exists_congr fun cs=>and_congr_right fun _=>and_congr (dT.OY h v c d.1) (and_congr_right fun _=>dT.Aj h g vs cs d.2)
theorem dT.Ew(h:dT σ dS H0 β H):∀(a:AV)(v:a3),aC (Small H0.length) a->(aw P w aa β H (cT σ a) v↔aw P w aa dS H0 a v)
 | .p _,_,_=>by simp[cT,aw]
 | .aE vs,_,d=>by
  simp only[aC]at d;simp only[cT,aw];exact exists_congr fun l=>and_congr_left fun _=>dT.qe h vs l d
 | .st u fs,cs,d=>by
  simp only[aC]at d;simp only[cT,aw];exact exists_congr fun l=>exists_congr fun e=>and_congr_right fun _=>and_congr_left fun _=>dT.Aj h l fs e d
 | .func f fi ca,cs,d=>by
  simp only[aC]at d;simp only[cT,aw];exact exists_congr fun l=>exists_congr fun e=>and_congr (dT.qe h fi l d.1) (and_congr_left fun _=>dT.qe h ca e d.2)
 | .ptr b path,v,d=>by
  have:=h.qx (P:=P) (a:=.ptr b path) (v:=v) d;simp only[cT,aw,bO]at this⊢;simp only[this]
 | .b8 b aq ai i path,v,d=>by
  have:=h.qx (P:=P) (a:=.b8 b aq ai i path) (v:=v) d;simp only[cT,aw,bO]at this⊢;simp only[this]
 | .sl b aq ai off len,v,d=>by
  have:=h.qx (P:=P) (a:=.sl b aq ai off len) (v:=v) d;simp only[cT,aw,bO]at this⊢;simp only[this]
 | .map b,v,d=>by
  have:=h.qx (P:=P) (a:=.map b) (v:=v) d;simp only[cT,aw,bO]at this⊢;simp only[this]
theorem dT.qe(h:dT σ dS H0 β H):∀(l:List AV)(vs:List a3),aR (Small H0.length) l->(br P w aa β H (cW σ l) vs↔br P w aa dS H0 l vs)
 |[],vs,_=>by simp[cW,br]
 |a::l,vs,d=>by
  simp only[aR]at d;simp only[cW,br];exact exists_congr fun y=>exists_congr fun j=>and_congr_right fun _=>and_congr (dT.Ew h a y d.1) (dT.qe h l j d.2)
end
theorem dT.Ss(h:dT σ dS H0 β H){ah Prot0:Nat->Prop}{b:Nat}{o:Obj}(f:H0[b]?=some o)(c:o.refs (Small H0.length))(a:o.live->∀fz,cC aa dS Prot0 fz b↔cC aa β ah fz (σ b)):
 fJ P w aa β H ah (σ b) (de σ o)↔fJ P w aa dS H0 Prot0 b o:=by
 have g:b<H0.length:=(be.1 f).1;obtain⟨k1,k2⟩:=h.al b g;cases o with
 |hole=>simp[de,fJ]
 |dead=>simp[de,fJ]
 |box fz t=>
  simp only[de,fJ,k1,<-a trivial,h.OY t _ c,OA,Ys]
 |arr k aq ai es=>
  simp only[de,fJ,k1,k2,oA,sY,Nc]
  by_cases e:di k es
  ·simp[e]
  ·simp only[e,false_or,<-a e,h.Aj _ es _ c]
 |map fz es=>
  simp only[de,fJ,k1,<-a trivial]
 |cQ ks vs=>
  simp only[de,fJ,k1,<-a trivial,h.qe vs _ c]
 |dD s pos=>
  simp only[de,fJ,k1,<-a trivial]
 |loop L=>
  simp only[de,fJ,k1,<-a trivial,Dh];exact exists_congr fun t=>exists_congr fun d=>exists_congr fun fn=>and_congr_right fun _=>and_congr_right fun _=>and_congr_left fun _=>forall_congr' fun x=>h.Ew _ _ (c x)
end
end
end Go.au
namespace Go.au
variable[Gl]
def sig(bs:List Nat)(a i:Nat):Nat:=match bs[i]? with
 |some b=>b
 |none=>a+(i-bs.length)
theorem tK{bs:List Nat}{a i:Nat}(h:i<bs.length):sig bs a i=bs[i]:=by simp[sig,h]
theorem tL{bs:List Nat}{a i:Nat}(h:bs.length<=i):sig bs a i=a+(i-bs.length):=by simp[sig,h]
theorem aLS{bs:List Nat}{a:Nat}(e:bs.Nodup)(d:∀b∈bs,b<a){i j:Nat}(h:sig bs a i=sig bs a j):i=j:=by
 by_cases hi:i<bs.length<;>by_cases c:j<bs.length
 ·rw[tK hi,tK c]at h;exact(List.getElem_inj e).1 h
 ·rw[tK hi,tL o_]at h;have:=d _ (cy hi);omega
 ·rw[tL o_,tK c]at h;have:=d _ (cy c);omega
 ·rw[tL o_,tL o_]at h;omega
theorem Ck:∀{l:List (Nat×Obj)}{H:Heap}{x:Nat},(∀p∈l,p.1≠x)->(aW H l)[x]?=H[x]?
 |[],_,_,_=>rfl
 |(b,o)::r,H,x,h=>by
  simp only[aW];rw[Ck (fun p a=>h p (by simp[a])),List.getElem?_set_ne (h (b,o) s_)]
theorem CM:∀{l:List (Nat×Obj)}{H:Heap},(l.map (·.1)).Nodup->∀p∈l,p.1<H.length->(aW H l)[p.1]?=some p.2
 |[],_,_,_,h,_=>by simp at h
 |(b,o)::r,H,a,p,c,hl=>by
  simp only[bv,cE]at a;simp only[aW];rcases bk.1 c with rfl|c
  ·rw[Ck (fun q hq d=>a.1 (bo.2 ⟨q,hq,d⟩)),List.getElem?_set_self hl]
  ·exact CM a.2 p c (by simpa using hl)
theorem CI(a:Nat):∀(l:List Obj),(newAt a l).map (·.1)=List.range' a l.length
 |[]=>rfl
 |o::r=>by simp[newAt,CI (a+1) r,List.range'_succ]
theorem Lf:∀(l:List Obj)(a j:Nat)(h:j<l.length),(a+j,l[j])∈newAt a l
 |[],_,_,h=>by simp at h
 |o::r,a,0,h=>by simp[newAt]
 |o::r,a,j+1,h=>by
  have:=Lf r (a+1) j (by simpa using h);simp only[newAt,List.getElem_cons_succ,bk];right;have e:a+(j+1)=a+1+j:=o_
  rw[e];exact this
section
variable{P:a0}{w w':a4}{aa aD ah:Nat->Prop}{β aJ:Bd}{H H':Heap}
theorem fJ.mut{b:Nat}{o:Obj}(h:fJ P w aa β H ah b o)(hl:o.live)(j:¬aa (β.al b)):¬ah (β.al b):=by
 have held:∀{fz},cC aa β ah fz b->¬ah (β.al b):=by
  intro fz f;cases fz with
  |true=>exact(j (by simpa[cC]using f)).elim
  |false=>
   have:¬aa (β.al b)/\¬ah (β.al b):=by simpa[cC]using f
   exact this.2
 cases o with
 |hole=>exact hl.elim
 |dead=>exact hl.elim
 |box fz t=>
  obtain⟨cs,T,c,d,a,e⟩:=h;exact held a
 |arr k aq ai es=>
  rcases h with h|⟨cs,T,l,rest,c,d,a,e,m,n,i,p⟩
  ·exact(hl h).elim
  ·exact held i
 |map fz es=>
  obtain⟨g,clock,c,d,a⟩:=h;exact held a
 |cQ ks vs=>
  obtain⟨g,clock,c,d,a,e⟩:=h;exact held e
 |dD s pos=>
  obtain⟨bs,c,d,a⟩:=h;exact held a
 |loop L=>
  obtain⟨tmps,defers,fn,c,d,a,e⟩:=h;exact held e
theorem fJ.carry(hi:∀k,aa k->aD k)(hs:∀k,aa k->w'.heap[k]?=w.heap[k]?)(aI:cm β H aJ H'){b:Nat}{o:Obj}(l:o.refs (aH H))
 (j:o.live->w'.heap[β.al b]?=w.heap[β.al b]?/\aJ.al b=β.al b/\aJ.cap b=β.cap b)(held:o.live->∀fz,cC aa β ah fz b->cC aD aJ ah fz b)(h:fJ P w aa β H ah b o):fJ P w' aD aJ H' ah b o:=by
 cases o with
 |hole=>trivial
 |dead=>trivial
 |box fz t=>
  obtain⟨cs,T,d,e,f,i⟩:=h;obtain⟨a,c,g⟩:=j trivial;exact⟨cs,T,by rw[c,a];exact d,bp.mono hi hs aI _ _ l e,held trivial _ f,i⟩
 |arr k aq ai es=>
  rcases h with h|⟨cs,T,n,rest,d,e,f,i,p,q,r,u⟩
  ·exact .inl h
  ·by_cases hl:di k es
   ·exact .inl hl
   ·obtain⟨a,c,g⟩:=j hl;exact .inr ⟨cs,T,n,rest,by rw[c,a];exact d,bL.mono hi hs aI _ _ _ l e,f,by rw[g];exact i,by rw[g];exact p,by rw[g];exact q,held hl _ r,u⟩
 |map fz es=>
  obtain⟨m,clock,d,e,f⟩:=h;obtain⟨a,c,g⟩:=j trivial;exact⟨m,clock,by rw[c,a];exact d,cF.mono hi hs _ _ e,held trivial _ f⟩
 |cQ ks vs=>
  obtain⟨m,clock,d,e,f,i⟩:=h;obtain⟨a,c,g⟩:=j trivial;exact⟨m,clock,by rw[c,a];exact d,bm.mono hi hs _ _ e,br.mono hi hs aI _ _ l f,held trivial _ i⟩
 |dD s pos=>
  obtain⟨bs,d,e,f⟩:=h;obtain⟨a,c,g⟩:=j trivial;exact⟨bs,by rw[c,a];exact d,e,held trivial _ f⟩
 |loop L=>
  obtain⟨tmps,defers,fn,d,e,f,i⟩:=h;obtain⟨a,c,g⟩:=j trivial;exact⟨tmps,defers,fn,by rw[c,a];exact d,e,fun x=>aw.mono hi hs aI _ _ (l x) (f x),held trivial _ i⟩
def dI(bs:List Nat)(a:Nat)(H0 b6:Heap)(b:AV):aU:=
 {v:=cT (sig bs a) b,ak:=bs.zip (H0.map (de (sig bs a))),aG:=bs.zip ((b6.take H0.length).map (de (sig bs a))),aS:=(b6.drop H0.length).map (de (sig bs a))}
open Classical in
theorem KR{H0 b6:Heap}{fV:List AV}{v0:AV}(bs:List Nat)(base:Nat)(hlen:bs.length=H0.length)(hnd:bs.Nodup)(hlt:∀b∈bs,b<base)
 (hl:H0.length<=b6.length)(ha:aR (aH H0) fV)(ho:∀(b:Nat)(o:Obj),H0[b]?=some o->o.refs (aH H0))
 {H:Heap}{w:a4}{aa ah:Nat->Prop}{β:Bd}{cargs:List a3}(hr:b7 P w aa β H ah)(hargs:br P w aa β H (cW (sig bs base) fV) cargs)
 (ak:∀p∈(dI bs base H0 b6 v0).ak,H[p.1]?=some p.2)(aS:∀i,i<(dI bs base H0 b6 v0).aS.length->H[base+i]?=some .hole):
 ∃(dS:Bd)(Prot0:Nat->Prop),(∀b,dS.al b=β.al (sig bs base b))/\b7 P w aa dS H0 Prot0/\br P w aa dS H0 fV cargs/\(∀b,b<H0.length->(ie H (sig bs base b)↔ie H0 b))/\
  ∀(cv:a3)(w':a4)(β0':Bd)(aD:Nat->Prop),bZ P Prot0 aa w dS H0 aD w' β0' b6->aw P w' aD β0' b6 v0 cv->aC (aH b6) v0->
   ∃aJ,bZ P ah aa w β H aD w' aJ (aW H ((dI bs base H0 b6 v0).aG++newAt base (dI bs base H0 b6 v0).aS))/\
    aw P w' aD aJ (aW H ((dI bs base H0 b6 v0).aG++newAt base (dI bs base H0 b6 v0).aS)) (dI bs base H0 b6 v0).v cv/\
    aC (aH (aW H ((dI bs base H0 b6 v0).aG++newAt base (dI bs base H0 b6 v0).aS))) (dI bs base H0 b6 v0).v:=by
 obtain⟨σ,hσ⟩:∃σ,σ=sig bs base:=⟨_,rfl⟩
 have hinj:∀{i j},σ i=σ j->i=j:=fun{i j} h=>aLS hnd hlt (by rw[hσ]at h;exact h);have hold:∀{i}(hi:i<H0.length),σ i=bs[i]' o_:=fun hi=>by rw[hσ];exact tK _
 have hnw:∀{i},H0.length<=i->σ i=base+(i-H0.length):=fun hi=>by rw[hσ,tL o_,hlen]
 have hget:∀(b:Nat)(o:Obj),H0[b]?=some o->H[σ b]?=some (de σ o):=by
  intro b o hb;obtain⟨hbl,rfl⟩:=be.1 hb;have:=ak (bs[b]' o_,de (sig bs base) H0[b]) (by
   simp only[dI];rw[bl];exact⟨b,by simp;omega,s_⟩)
  rw[hold hbl,hσ];exact this
 have hnewH:∀i,H0.length<=i->i<b6.length->H[σ i]?=some .hole:=by
  intro i h1 h2;rw[hnw h1];exact aS (i-H0.length) (by simp[dI];omega)
 obtain⟨H2,hH2⟩:∃H2,H2=aW H ((dI bs base H0 b6 v0).aG++newAt base (dI bs base H0 b6 v0).aS):=⟨_,rfl⟩
 have hkeys:∀p∈(dI bs base H0 b6 v0).aG++newAt base (dI bs base H0 b6 v0).aS,∃i,i<b6.length/\p.1=σ i:=by
  intro p hp;rcases cN.1 hp with hp|hp
  ·simp only[dI]at hp;have hm:=(b2 hp).1;obtain⟨i,hi,he⟩:=bl.1 hm;exact⟨i,o_,by rw[hold o_];exact he.symm⟩
  ·have hm:p.1∈(newAt base (dI bs base H0 b6 v0).aS).map (·.1):=List.mem_map_of_mem hp
   rw[CI,ck]at hm;simp only[dI,List.length_map,List.length_drop]at hm;exact⟨H0.length+(p.1-base),o_,by rw[hnw o_];omega⟩
 have hndk:(((dI bs base H0 b6 v0).aG++newAt base (dI bs base H0 b6 v0).aS).map (·.1)).Nodup:=by
  rw[b3,CI];have e:(dI bs base H0 b6 v0).aG.map (·.1)=bs:=by
   simp only[dI];rw[List.map_fst_zip];simp;omega
  rw[e,List.nodup_append];refine⟨hnd,List.nodup_range',fun a h1 b h2 he=>?_⟩;subst he;have:=hlt _ h1;rw[ck]at h2;omega
 have hA:∀(i:Nat)(o:Obj),b6[i]?=some o->H2[σ i]?=some (de σ o):=by
  intro i o hi;obtain⟨hil,rfl⟩:=be.1 hi
  by_cases hi0:i<H0.length
  ·have hm:(bs[i]' o_,de (sig bs base) b6[i])∈(dI bs base H0 b6 v0).aG++newAt base (dI bs base H0 b6 v0).aS:=by
    refine List.mem_append_left _ ?_;simp only[dI];rw[bl];exact⟨i,by simp;omega,s_⟩
   have:=CM (H:=H) hndk _ hm (by
    have:=hget i _ (bb hi0);rw[hold hi0]at this;exact(be.1 this).1)
   rw[hH2,hold hi0,this,hσ]
  ·have hm:(base+(i-H0.length),de (sig bs base) b6[i])∈(dI bs base H0 b6 v0).aG++newAt base (dI bs base H0 b6 v0).aS:=by
    refine List.mem_append_right _ ?_;have:=Lf (dI bs base H0 b6 v0).aS base (i-H0.length) (by simp[dI];omega);have e:(dI bs base H0 b6 v0).aS[i-H0.length]'(by simp[dI];omega)=de (sig bs base) b6[i]:=by
     simp only[dI,List.getElem_map,List.getElem_drop];congr 2;omega
    rw[e]at this;exact this
   have:=CM (H:=H) hndk _ hm (by
    have:=hnewH i o_ hil;rw[hnw o_]at this;exact(be.1 this).1)
   rw[hH2,hnw o_,this,hσ]
 have hB:∀x,(∀i,i<b6.length->σ i≠x)->H2[x]?=H[x]?:=by
  intro x hx;rw[hH2];refine Ck fun p hp=>?_;obtain⟨i,h1,h2⟩:=hkeys p hp;rw[h2];exact hx i h1
 let dS:Bd:=⟨fun b=>β.al (σ b),fun b=>β.cap (σ b)⟩
 let Prot0:Nat->Prop:=fun k=>ah k\/∃x o,H[x]?=some o/\o.live/\(∀i,i<H0.length->σ i≠x)/\β.al x=k
 have hemb:dT σ dS H0 β H:=⟨hget,fun b _=>⟨rfl,rfl⟩⟩
 have small:∀x:Nat×Nat,aH H0 x->Small H0.length x:=fun x⟨o,ho,_⟩=>(be.1 ho).1;have held0:∀{b:Nat}{o:Obj},H0[b]?=some o->o.live->∀fz,cC aa dS Prot0 fz b↔cC aa β ah fz (σ b):=by
  intro b o hb hlv fz;cases fz with
  |true=>simp[cC,dS]
  |false=>
   simp only[cC,av,if_false];refine and_congr_right fun hni=>⟨fun h hp=>h (.inl hp),fun h hp=>?_⟩
   rcases hp with hp|⟨x,o',h1,h2,h3,h4⟩
   ·exact h hp
   ·exact h3 b (be.1 hb).1 (hr.inj _ _ _ _ (hget b o hb) h1 (qR.2 hlv) h2 hni h4.symm)
 have hr0:b7 P w aa dS H0 Prot0:=by
  refine⟨fun b o hb=>?_,fun b b' o o' h1 h2 l1 l2 hni he=>?_,ho,hr.bX,fun k hk=>?_,hr.jD⟩
  ·exact(hemb.Ss hb ((ho b o hb).mono small) (held0 hb)).1 (hr.cS _ _ (hget b o hb))
  ·exact hinj (hr.inj _ _ _ _ (hget b o h1) (hget b' o' h2) (qR.2 l1) (qR.2 l2) hni he)
  ·rcases hk with hk|⟨x,o,h1,h2,_,rfl⟩
   ·exact hr.eX k hk
   ·exact hr.oD h1 h2
 have hargs0:br P w aa dS H0 fV cargs:=by
  rw[<-hσ]at hargs;exact(hemb.qe _ _ (aR.mono small _ ha)).1 hargs
 refine⟨dS,Prot0,fun b=>by rw[<-hσ],hr0,hargs0,fun b hb=>by rw[<-hσ];exact hemb.loop hb,fun cv w' β0' aD hp hv hvr=>?_⟩
 let aJ:Bd:=⟨fun x=>if h:∃i,i<b6.length/\σ i=x then β0'.al h.choose else β.al x,fun x=>if h:∃i,i<b6.length/\σ i=x then β0'.cap h.choose else β.cap x⟩
 have hβ:∀i,i<b6.length->aJ.al (σ i)=β0'.al i/\aJ.cap (σ i)=β0'.cap i:=by
  intro i hi;have hex:∃j,j<b6.length/\σ j=σ i:=⟨i,hi,rfl⟩
  have hc:hex.choose=i:=hinj hex.choose_spec.2;simp only[aJ,dif_pos hex,hc,and_self]
 have hβn:∀x,(∀i,i<b6.length->σ i≠x)->aJ.al x=β.al x/\aJ.cap x=β.cap x:=by
  intro x hx;have hnex:¬∃i,i<b6.length/\σ i=x:=fun⟨i,h1,h2⟩=>hx i h1 h2;simp only[aJ,dif_neg hnex,and_self]
 have hemb':dT σ β0' b6 aJ H2:=⟨hA,fun b hb=>hβ b hb⟩
 have small':∀x:Nat×Nat,aH b6 x->Small b6.length x:=fun x⟨o,ho,_⟩=>(be.1 ho).1;have split:∀x,(∃i,i<b6.length/\σ i=x)\/∀i,i<b6.length->σ i≠x:=by
  intro x
  by_cases hx:∃i,i<b6.length/\σ i=x
  ·exact .inl hx
  ·exact .inr fun i h1 h2=>hx ⟨i,h1,h2⟩
 have inOld:∀{i v},i<b6.length->aH H (σ i,v)->aH H0 (i,v)/\i<H0.length:=by
  intro i v hi ⟨o,h1,h2⟩
  by_cases hi0:i<H0.length
  ·refine⟨?_,hi0⟩;have:=hget i _ (bb hi0);simp only at h1;rw[this]at h1;cases h1;exact⟨_,bb hi0,OH.1 h2⟩
  ·have:=hnewH i o_ hi;simp only at h1;rw[this]at h1;cases h1;exact h2.elim
 have iu:cm β H aJ H2:=by
  refine⟨?_,?_,?_,?_,?_⟩
  ·intro b hb hlv;rcases split b with⟨i,hi,rfl⟩|hx
   ·obtain⟨k1,k2⟩:=inOld hi hb;obtain⟨g1,g2⟩:=hp.step.box i k1 ((hemb'.box hi).1 hlv);exact⟨(hemb.box k2).2 g1,(hβ i hi).1.trans g2⟩
   ·unfold nh at hlv⊢;rw[hB b hx]at hlv;exact⟨hlv,(hβn b hx).1⟩
  ·intro b hb hlv;rcases split b with⟨i,hi,rfl⟩|hx
   ·obtain⟨k1,k2⟩:=inOld hi hb;obtain⟨g1,g2⟩:=hp.step.it i k1 ((hemb'.it hi).1 hlv);exact⟨(hemb.it k2).2 g1,(hβ i hi).1.trans g2⟩
   ·unfold ni at hlv⊢;rw[hB b hx]at hlv;exact⟨hlv,(hβn b hx).1⟩
  ·intro b hb hlv;rcases split b with⟨i,hi,rfl⟩|hx
   ·obtain⟨k1,k2⟩:=inOld hi hb;obtain⟨g1,g2⟩:=hp.step.map i k1 ((hemb'.map hi).1 hlv);exact⟨(hemb.map k2).2 g1,(hβ i hi).1.trans g2⟩
   ·unfold oF at hlv⊢;rw[hB b hx]at hlv;exact⟨hlv,(hβn b hx).1⟩
  ·intro b aq ai k es hb hlv;rcases split b with⟨i,hi,rfl⟩|hx
   ·obtain⟨k1,k2⟩:=inOld hi hb;obtain⟨gW,g0,rfl⟩:=(hemb'.arr hi).1 hlv;obtain⟨k0,es1,g1,g2,g3,g4⟩:=hp.step.arr i aq ai k gW k1 g0;refine⟨k0,cW σ es1,(hemb.arr k2).2 ⟨_,g1,rfl⟩,by rw[sY,sY];exact g2,by rw[oA,oA];exact g3,fun hn=>?_⟩;rw[oA]at hn;rw[(hβ i hi).1,(hβ i hi).2];exact g4 hn
   ·unfold eA at hlv⊢;rw[hB b hx]at hlv;exact⟨k,es,hlv,c9 _,Iff.rfl,fun _=>hβn b hx⟩
  ·intro b hb hlv;rcases split b with⟨i,hi,rfl⟩|hx
   ·obtain⟨k1,k2⟩:=inOld hi hb;obtain⟨g1,g2⟩:=hp.step.loop i k1 ((hemb'.loop hi).1 hlv);exact⟨(hemb.loop k2).2 g1,(hβ i hi).1.trans g2⟩
   ·unfold ie at hlv⊢;rw[hB b hx]at hlv;exact⟨hlv,(hβn b hx).1⟩
 have hinn:∀x,aH H x->aH H2 x:=by
  rintro⟨b,v⟩ hb;rcases split b with⟨i,hi,rfl⟩|hx
  ·obtain⟨k1,_⟩:=inOld hi hb;exact(hemb'.EW (x:=(i,v)) hi).2 (hp.fG _ k1)
  ·obtain⟨o,h1,h2⟩:=hb;exact⟨o,by simp only;rw[hB b hx];exact h1,h2⟩
 have prot0:∀{x:Nat}{o:Obj},(∀i,i<b6.length->σ i≠x)->H[x]?=some o->o.live->Prot0 (β.al x):=by
  intro x o hx h1 h2;exact .inr ⟨x,o,h1,h2,fun i hi=>hx i o_,rfl⟩
 have mut':∀{i:Nat}{o:Obj},b6[i]?=some o->o.live->¬aD (β0'.al i)->¬Prot0 (β0'.al i):=by
  intro i o h1 h2 h3;exact(hp.rel.cS i o h1).mut h2 h3
 have hrel:b7 P w' aD aJ H2 ah:=by
  refine⟨fun x o hx=>?_,fun x x' o o' h1 h2 l1 l2 hni he=>?_,fun x o hx=>?_,hp.rel.bX,fun k hk=>hp.rel.eX k (.inl hk),hp.rel.jD⟩
  ·rcases split x with⟨i,hi,rfl⟩|hn
   ·have hg:=hA i _ (bb hi);rw[hg]at hx;cases hx;refine(hemb'.Ss (Prot0:=Prot0) (bb hi) ((hp.rel.refs i _ (bb hi)).mono small') (fun hlv fz=>?_)).2 (hp.rel.cS i _ (bb hi));cases fz with
    |true=>simp[cC,(hβ i hi).1]
    |false=>
     simp only[cC,av,if_false,(hβ i hi).1];exact⟨fun h=>⟨h.1,fun hp=>h.2 (.inl hp)⟩,fun h=>⟨h.1,mut' (bb hi) hlv h.1⟩⟩
   ·rw[hB x hn]at hx;refine fJ.carry hp.bX (fun k hk=>hp.ext.same k (.inr hk)) iu (hr.refs x o hx) (fun hlv=>⟨hp.ext.same _ (.inl (prot0 hn hx hlv)),hβn x hn⟩) (fun hlv fz hh=>?_) (hr.cS x o hx);have hp0:=prot0 hn hx hlv;cases fz with
    |true=>
     simp only[cC,if_true]at hh⊢;rw[(hβn x hn).1];exact hp.bX _ hh
    |false=>
     simp only[cC,av,if_false]at hh⊢;rw[(hβn x hn).1];exact⟨fun hi=>(hp.fresh _ hi).elim hh.1 (fun h=>h hp0),hh.2⟩
  ·rcases split x with⟨i,hi,rfl⟩|hn<;>rcases split x' with⟨j,hj,rfl⟩|hn'
   ·have g1:=hA i _ (bb hi);have g2:=hA j _ (bb hj);rw[g1]at h1;cases h1;rw[g2]at h2;cases h2;rw[(hβ i hi).1,(hβ j hj).1]at he;rw[(hβ i hi).1]at hni;rw[hp.rel.inj i j _ _ (bb hi) (bb hj) (qR.1 l1) (qR.1 l2) hni he]
   ·have g1:=hA i _ (bb hi);rw[g1]at h1;cases h1;rw[hB x' hn']at h2;rw[(hβ i hi).1,(hβn x' hn').1]at he;rw[(hβ i hi).1]at hni;exact(mut' (bb hi) (qR.1 l1) hni (he▸prot0 hn' h2 l2)).elim
   ·have g2:=hA j _ (bb hj);rw[g2]at h2;cases h2;rw[hB x hn]at h1;rw[(hβ j hj).1,(hβn x hn).1]at he;rw[(hβn x hn).1]at hni;exact(mut' (bb hj) (qR.1 l2) (he▸hni) (he▸prot0 hn h1 l1)).elim
   ·rw[hB x hn]at h1;rw[hB x' hn']at h2;rw[(hβn x hn).1,(hβn x' hn').1]at he;rw[(hβn x hn).1]at hni;exact hr.inj _ _ _ _ h1 h2 l1 l2 (fun hi=>hni (hp.bX _ hi)) he
  ·rcases split x with⟨i,hi,rfl⟩|hn
   ·have hg:=hA i _ (bb hi);rw[hg]at hx;cases hx;rw[XR];exact(hp.rel.refs i _ (bb hi)).mono (fun y hy=>(hemb'.EW (small' y hy)).2 hy)
   ·rw[hB x hn]at hx;exact(hr.refs x o hx).mono hinn
 refine⟨aJ,?_,?_,?_⟩
 ·rw[<-hH2];refine⟨hp.bX,fun k hk=>(hp.fresh k hk).imp id (fun h h'=>h (.inl h')),⟨hp.ext.size,fun k hk=>hp.ext.same k (hk.imp .inl id),hp.ext.io⟩,iu,hrel,hinn,fun b hb=>?_⟩;rcases split b with⟨i,hi,rfl⟩|hx
  ·by_cases hi0:i<H0.length
   ·exact(hemb'.loop hi).2 (hp.loop i ((hemb.loop hi0).1 hb))
   ·obtain⟨L,hL⟩:=hb;rw[hnewH i o_ hi]at hL;cases hL
  ·unfold ie at hb⊢;rw[hB b hx];exact hb
 ·rw[<-hH2];show aw P w' aD aJ H2 (cT (sig bs base) v0) cv;rw[<-hσ];exact(hemb'.Ew _ _ (aC.mono small' _ hvr)).2 hv
 ·rw[<-hH2];show aC (aH H2) (cT (sig bs base) v0);rw[<-hσ,CY];exact aC.mono (fun y hy=>(hemb'.EW (small' y hy)).2 hy) _ hvr
theorem bW.frame{f:aT}{H0 b6:Heap}{fV:List AV}{g:AV}(h:bW P f H0 fV b6 g)(bs:List Nat)(a:Nat)(q:bs.length=H0.length)(s:bs.Nodup)(r:∀b∈bs,b<a)
 (hl:H0.length<=b6.length)(d:aR (aH H0) fV)(t:∀(b:Nat)(o:Obj),H0[b]?=some o->o.refs (aH H0)):
 sf P f (cW (sig bs a) fV) a (dI bs a H0 b6 g):=by
 refine⟨h.1,fun H w aa ah β m hr n _ ak aS=>?_⟩;obtain⟨dS,i,-,v,p,-,back⟩:=KR bs a q s r hl d t hr n ak aS;refine(h.2 w aa i dS m v p d).mono ?_;rintro e w' ⟨c,z,aD,rfl,u,x,y⟩;obtain⟨aJ,j,k,l⟩:=back c w' z aD u x y;exact⟨c,aJ,aD,rfl,j,k,l⟩
theorem iY.frame{b:Nat}{H0 b6:Heap}{fV:List AV}{i:AV}(h:iY P b H0 fV b6 i)(bs:List Nat)(a:Nat)(v:bs.length=H0.length)(z:bs.Nodup)(y:∀b∈bs,b<a)
 (hl:H0.length<=b6.length)(g:aR (aH H0) fV)(A:∀(b:Nat)(o:Obj),H0[b]?=some o->o.refs (aH H0)):
 ua P (sig bs a b) (cW (sig bs a) fV) a (dI bs a H0 b6 i):=by
 intro H w aa ah β p C r _ ak aS;obtain⟨dS,j,t,D,s,x,back⟩:=KR bs a v z y hl g A C r ak aS;have u:b<H0.length:=by
  obtain⟨L,q⟩:=h.1;exact(be.1 q).1
 refine⟨(x b u).2 h.1,?_⟩;obtain⟨f,tmps,assign,body,d,e⟩:=h.2 w aa j dS p D s g;rw[t]at d e;refine⟨f,tmps,assign,body,d,fun n G=>?_⟩;obtain⟨c,w',I,aD,g1,B,E,F⟩:=e n G;obtain⟨aJ,k,l,m⟩:=back c w' I aD B E F;exact⟨c,w',aJ,aD,g1,k,l,m⟩
end
end Go.au
namespace Go.au
variable[Gl]
def lx(b:Nat):List Nat->Nat->Option Nat
 |[],_=>none
 |x::r,i=>bif c8 x b then some i else lx b r (i+1)
theorem Ng{b:Nat}:∀{l:List Nat}{i j:Nat},lx b l i=some j->i<=j/\l[j-i]?=some b
 |[],_,_,h=>by simp[lx]at h
 |x::r,i,j,h=>by
  simp only[lx]at h;cases a:c8 x b
  ·simp only[a,cond_false]at h;obtain⟨d,c⟩:=Ng h;refine⟨o_,?_⟩;have e:j-i=(j-(i+1))+1:=by omega
   rw[e,List.getElem?_cons_succ];exact c
  ·simp only[a,cond_true,dq]at h;subst h;simp[dC a]
section
variable(bs:List Nat)
mutual
def mA:AV->Option AV
 | .p v=>some (.p v)
 | .ptr b path=>match lx b bs 0 with
  |some i=>some (.ptr i path)
  |none=>none
 | .b8 b aq ai i path=>match lx b bs 0 with
  |some j=>some (.b8 j aq ai i path)
  |none=>none
 | .sl b aq ai off len=>match lx b bs 0 with
  |some j=>some (.sl j aq ai off len)
  |none=>none
 | .map b=>match lx b bs 0 with
  |some j=>some (.map j)
  |none=>none
 | .func f fi ca=>match mq fi,mq ca with
  |some a,some b=>some (.func f a b)
  |_,_=>none
 | .st u fs=>match mq fs with
  |some a=>some (.st u a)
  |none=>none
 | .aE vs=>match mq vs with
  |some a=>some (.aE a)
  |none=>none
def mq:List AV->Option (List AV)
 |[]=>some []
 |v::r=>match mA v,mq r with
  |some a,some b=>some (a::b)
  |_,_=>none
end
def D0:Obj->Option Obj
 | .box fz t=>match mA bs t with
  |some a=>some (.box fz a)
  |none=>none
 | .arr k aq ai es=>match mq bs es with
  |some a=>some (.arr k aq ai a)
  |none=>none
 | .map fz es=>some (.map fz es)
 | .cQ ks vs=>match mq bs vs with
  |some a=>some (.cQ ks a)
  |none=>none
 | .dD s n=>some (.dD s n)
 | .dead=>some .dead
 |_=>none
def wE(H:Heap):List Nat->Option Heap
 |[]=>some []
 |b::r=>match H[b]? with
  |some o=>match D0 bs o,wE H r with
   |some a,some t=>some (a::t)
   |_,_=>none
  |none=>none
end
section
variable{bs:List Nat}{base:Nat}
theorem zk{b i:Nat}(h:lx b bs 0=some i):sig bs base i=b:=by
 have:=(Ng h).2;simp only[Nat.sub_zero]at this;simp[sig,this]
mutual
theorem Me:∀{a c:AV},mA bs a=some c->cT (sig bs base) c=a
 | .p v,c,h=>by simp only[mA,dq]at h;subst h;rfl
 | .ptr b path,c,h=>by
  simp only[mA]at h
  split at h
  ·rename_i i hi;simp only[dq]at h;subst h;simp only[cT,zk hi]
  ·simp at h
 | .b8 b aq ai i path,c,h=>by
  simp only[mA]at h
  split at h
  ·rename_i i hi;simp only[dq]at h;subst h;simp only[cT,zk hi]
  ·simp at h
 | .sl b aq ai off len,c,h=>by
  simp only[mA]at h
  split at h
  ·rename_i i hi;simp only[dq]at h;subst h;simp only[cT,zk hi]
  ·simp at h
 | .map b,c,h=>by
  simp only[mA]at h
  split at h
  ·rename_i i hi;simp only[dq]at h;subst h;simp only[cT,zk hi]
  ·simp at h
 | .func f fi ca,c,h=>by
  simp only[mA]at h
  split at h
  ·rename_i a b d g;simp only[dq]at h;subst h;simp only[cT,pz d,pz g]
  ·simp at h
 | .st u fs,c,h=>by
  simp only[mA]at h
  split at h
  ·rename_i a d;simp only[dq]at h;subst h;simp only[cT,pz d]
  ·simp at h
 | .aE vs,c,h=>by
  simp only[mA]at h
  split at h
  ·rename_i a d;simp only[dq]at h;subst h;simp only[cT,pz d]
  ·simp at h
theorem pz:∀{l e:List AV},mq bs l=some e->cW (sig bs base) e=l
 |[],e,h=>by simp only[mq,dq]at h;subst h;rfl
 |v::r,e,h=>by
  simp only[mq]at h
  split at h
  ·rename_i a b d g;simp only[dq]at h;subst h;simp only[cW,Me d,pz g]
  ·simp at h
end
theorem Xq{o c:Obj}(h:D0 bs o=some c):de (sig bs base) c=o:=by
 cases o<;>simp only[D0]at h
 case box fz t=>
  split at h
  ·rename_i a b;simp only[dq]at h;subst h;simp only[de,Me b]
  ·simp at h
 case arr k aq ai es=>
  split at h
  ·rename_i a b;simp only[dq]at h;subst h;simp only[de,pz b]
  ·simp at h
 case cQ ks vs=>
  split at h
  ·rename_i a b;simp only[dq]at h;subst h;simp only[de,pz b]
  ·simp at h
 case hole=>simp at h
 case loop=>simp at h
 all_goals (simp only[dq]at h;subst h;rfl)
theorem KX{H:Heap}:∀{l:List Nat}{H0:Heap},wE bs H l=some H0->H0.length=l.length/\∀p∈l.zip (H0.map (de (sig bs base))),H[p.1]?=some p.2
 |[],H0,h=>by simp only[wE,dq]at h;subst h;simp
 |b::r,H0,h=>by
  simp only[wE]at h
  split at h
  case h_2=>simp at h
  rename_i o f
  split at h
  case h_2=>simp at h
  rename_i a t d e;simp only[dq]at h;subst h;obtain⟨i1,i2⟩:=KX e;refine⟨by simp[i1],fun p c=>?_⟩;simp only[bv,List.zip_cons_cons,bk]at c;rcases c with rfl|c
  ·simp only[Xq d];exact f
  ·exact i2 p c
end
mutual
def Rt:AV->List Nat->List Nat
 | .p _,acc=>acc
 | .ptr b _,acc| .b8 b _ _ _ _,acc| .sl b _ _ _ _,acc| .map b,acc=>b::acc
 | .func _ fi ca,acc=>uE fi (uE ca acc)
 | .st _ fs,acc| .aE fs,acc=>uE fs acc
def uE:List AV->List Nat->List Nat
 |[],acc=>acc
 |v::r,acc=>Rt v (uE r acc)
end
def azz:Obj->List Nat
 | .box _ t=>Rt t []
 | .arr _ _ _ es=>uE es []
 |_=>[]
def Ed(H:Heap):Nat->List Nat->List Nat->List Nat
 |0,_,acc=>acc
 |_,[],acc=>acc
 |n+1,b::r,acc=>match lx b acc 0 with
  |some _=>Ed H n r acc
  |none=>Ed H n (match H[b]? with
   |some o=>azz o++r
   |none=>r) (b::acc)
def nodupB:List Nat->Bool
 |[]=>true
 |x::r=>(match lx x r 0 with
  |some _=>false
  |none=>true)&&nodupB r
theorem K5{b:Nat}:∀{l:List Nat}{i:Nat},lx b l i=none->b∉l
 |[],_,_=>by simp
 |x::r,i,h=>by
  simp only[lx]at h;cases a:c8 x b
  ·simp only[a,cond_false]at h;have:=K5 h;simp only[bk,not_or];refine⟨fun e=>?_,this⟩;subst e;rw[db]at a;cases a
  ·simp[a]at h
theorem Lc:∀{l:List Nat},nodupB l=true->l.Nodup
 |[],_=>cR
 |x::r,h=>by
  simp only[nodupB,ap]at h;rw[cE];refine⟨?_,Lc h.2⟩;have a:=h.1
  split at a
  ·simp at a
  ·rename_i b;exact K5 b
def AM(H:Heap)(b v:Nat):Bool:=match H[b]? with
 |some .hole|none=>false
 |some (.arr _ aq _ _)=>c7 v aq
 |some _=>true
theorem azB{H:Heap}{b v:Nat}(h:AM H b v=true):aH H (b,v):=by
 unfold AM at h
 split at h
 ·simp at h
 ·simp at h
 ·rename_i k aq ai c a;exact⟨_,a,dd h⟩
 ·rename_i o d e a;refine⟨o,a,?_⟩;cases o with
  |hole=>exact(d rfl).elim
  |arr k aq ai c=>exact(e _ _ _ _ rfl).elim
  |_=>trivial
mutual
def rQ(H:Heap):AV->Bool
 | .p _=>true
 | .ptr b _| .map b=>AM H b 0
 | .b8 b aq _ _ _| .sl b aq _ _ _=>AM H b aq
 | .func _ fi ca=>nq H fi&&nq H ca
 | .st _ fs| .aE fs=>nq H fs
def nq(H:Heap):List AV->Bool
 |[]=>true
 |v::r=>rQ H v&&nq H r
end
mutual
theorem CZ{H:Heap}:∀{a:AV},rQ H a=true->aC (aH H) a
 | .p _,_=>by simp[aC]
 | .ptr _ _,h| .map _,h| .b8 _ _ _ _ _,h| .sl _ _ _ _ _,h=>by
  simp only[rQ]at h;simp only[aC];exact azB h
 | .func _ fi ca,h=>by
  simp only[rQ,ap]at h;simp only[aC];exact⟨pA h.1,pA h.2⟩
 | .st _ _,h| .aE _,h=>by
  simp only[rQ]at h;simp only[aC];exact pA h
theorem pA{H:Heap}:∀{l:List AV},nq H l=true->aR (aH H) l
 |[],_=>by simp[aR]
 |v::r,h=>by
  simp only[nq,ap]at h;simp only[aR];exact⟨CZ h.1,pA h.2⟩
end
def zJ(H:Heap):Obj->Bool
 | .box _ t=>rQ H t
 | .arr _ _ _ es=>nq H es
 | .cQ _ vs=>nq H vs
 | .loop _=>false
 |_=>true
theorem K8{H:Heap}{o:Obj}(h:zJ H o=true):o.refs (aH H):=by
 cases o<;>simp only[zJ]at h<;>simp only[Obj.refs]
 ·exact CZ h
 ·exact pA h
 ·exact pA h
 ·simp at h
def rJ(p:Obj->Bool):List Obj->Bool
 |[]=>true
 |o::r=>p o&&rJ p r
theorem wx{p:Obj->Bool}:∀{l:List Obj},rJ p l=true->∀o∈l,p o=true
 |[],_,o,h=>by simp at h
 |a::r,h,o,b=>by
  simp only[rJ,ap]at h;rcases bk.1 b with rfl|b
  ·exact h.1
  ·exact wx h.2 o b
def zB(n:Nat):List Nat->Bool
 |[]=>true
 |x::r=>c7 (x+1) n&&zB n r
theorem DU{n:Nat}:∀{l:List Nat},zB n l=true->∀x∈l,x<n
 |[],_,o,h=>by simp at h
 |a::r,h,o,b=>by
  simp only[zB,ap]at h;rcases bk.1 b with rfl|b
  ·exact dd h.1
  ·exact DU h.2 o b
def zy:Obj->Bool
 | .hole=>false
 |_=>true
def wR(run:List AV->Heap->Option (AV×Heap))(args:List AV)(H:Heap):Option aU:=
 let bs:=Ed H 1000 (uE args []) []
 match mq bs args,wE bs H bs with
 |some fV,some H0=>bif nodupB bs&&(zB H.length bs&&(nq H0 fV&&rJ (zJ H0) H0))then
  match run fV H0 with
  |some (v0,H1)=>bif c7 H0.length H1.length&&(rJ zy (H1.take H0.length))then some (dI bs H.length H0 H1 v0)else none
  |none=>none
  else none
 |_,_=>none
theorem CR{P:a0}{f:aT}{run:List AV->Heap->Option (AV×Heap)}(n:∀args H v H',run args H=some (v,H')->bW P f H args H' v){args:List AV}{H:Heap}{e:aU}(h:wR run args H=some e):
 sf P f args H.length e/\pZ H e:=by
 unfold wR at h;dsimp only at h
 split at h
 case h_2=>simp at h
 rename_i fV H0 g i;simp only[ao,dp,ap]at h;obtain⟨⟨g1,g2,g3,g4⟩,h⟩:=h
 split at h
 case h_2=>simp at h
 rename_i q H1 j;simp only[dp,dq]at h;obtain⟨⟨g5,g7⟩,rfl⟩:=h;obtain⟨k1,k2⟩:=KX (base:=H.length) i;have hf:=(n _ _ _ _ j).frame _ H.length k1.symm (Lc g1) (DU g2) (dd g5) (pA g3) (fun b o k=>K8 (wx g4 o (cb k)));rw[pz g]at hf;refine⟨hf,k2,fun p d=>?_⟩;simp only[dI]at d;have c:=b2 d;refine⟨DU g2 _ c.1,fun l=>?_⟩;obtain⟨o,m,a⟩:=bo.1 c.2;rw[l]at a;have:=wx g7 o m;rw[YS.1 a]at this;simp[zy]at this
mutual
theorem zH:∀v:AV,cT (fun i=>i) v=v
 | .p _| .sl .. | .b8 .. | .ptr .. | .map _=>rfl
 | .st u vs=>by simp only[cT,qX vs]
 | .aE vs=>by simp only[cT,qX vs]
 | .func f a b=>by simp only[cT,qX a,qX b]
theorem qX:∀l:List AV,cW (fun i=>i) l=l
 |[]=>rfl
 |v::l=>by simp only[cW,zH v,qX l]
end
theorem Lu:∀e:Env,ud (fun i=>i) e=e
 |[]=>rfl
 |(x,v)::r=>by simp only[ud,zH v,Lu r]
theorem aLB(o:Obj):de (fun i=>i) o=o:=by
 cases o<;>simp only[de,zH,qX,Lu]
theorem O2(n:Nat):sig (b0 n) n=fun i=>i:=by
 funext i
 by_cases h:i<n
 ·rw[tK (by simpa using h)];simp
 ·rw[tL (by simpa using h)];simp;omega
def xl(H:Heap):List (Nat×Obj):=(b0 H.length).zip H
theorem azA{H:Heap}{p:Nat×Obj}(h:p∈xl H):H[p.1]?=some p.2:=by
 rw[xl,bl]at h;obtain⟨i,hi,a⟩:=h;rw[List.getElem_zip]at a;subst a;simp
def AE(H:Heap):Env->Bool
 |[]=>true
 |(_,v)::r=>rQ H v&&AE H r
theorem Ol{H:Heap}:∀{e:Env},AE H e=true->∀x,aC (aH H) (aN e x)
 |[],_,x=>by simp[aN,aC]
 |(y,v)::r,h,x=>by
  simp only[AE,ap]at h;simp only[aN]
  split
  ·exact CZ h.1
  ·exact Ol h.2 x
def PG(H:Heap):Obj->Bool
 | .loop L=>AE H L.env
 |o=>zJ H o
theorem XS{H:Heap}{o:Obj}(h:PG H o=true):o.refs (aH H):=by
 cases o<;>first
  |exact K8 h
  |exact Ol h
def DD(run:Nat->Heap->List AV->Option (Heap×AV))(b:Nat)(args:List AV)(H:Heap):Option aU:=
 bif nq H args&&rJ (PG H) H then
  match run b H args with
  |some (H1,v)=>bif c7 H.length H1.length&&(rJ zy (H1.take H.length))then some {v,ak:=xl H,aG:=(b0 H.length).zip (H1.take H.length),aS:=H1.drop H.length}else none
  |none=>none
 else none
theorem W1{P:a0}{run:Nat->Heap->List AV->Option (Heap×AV)}(k:∀b H args H' v,run b H args=some (H',v)->iY P b H args H' v){b:Nat}{args:List AV}{H:Heap}{e:aU}(h:DD run b args H=some e):
 ua P b args H.length e/\pZ H e:=by
 unfold DD at h;simp only[ao,dp,ap]at h;obtain⟨⟨g3,g4⟩,h⟩:=h
 split at h
 case h_2=>simp at h
 rename_i H1 f g;simp only[dp,dq]at h;obtain⟨⟨g5,g7⟩,rfl⟩:=h;have hf:=(k _ _ _ _ _ g).frame (b0 H.length) H.length s_ List.nodup_range (fun b a=>by simpa using a) (dd g5) (pA g3) (fun b o a=>XS (wx g4 o (cb a)));have e:dI (b0 H.length) H.length H H1 f={v:=f,ak:=xl H,aG:=(b0 H.length).zip (H1.take H.length),aS:=H1.drop H.length}:=by
  simp only[dI,O2,zH];rw[show(de fun i=>i)=id from funext aLB,cc,cc,cc,xl]
 rw[e,O2,qX]at hf;refine⟨hf,fun p c=>azA c,fun p c=>?_⟩;have d:=b2 c;refine⟨by simpa using d.1,fun j=>?_⟩;have:=wx g7 p.2 d.2;rw[j]at this;simp[zy]at this
end Go.au
namespace Go.au
variable[Gl]
inductive RT where
 |lf
 |vl (v:AV)
 |nd (a b c d:RT)
inductive Q4 where|a|b|c|d
def q4(n:Nat):Q4:=match n with
 |0=>.a
 |1=>.b
 |2=>.c
 |_=>.d
def pathOf:Nat->Nat->List Q4
 |0,_=>[]
 |k+1,n=>q4 (n% 4)::pathOf k (n/4)
noncomputable def wY(p:List Q4):RT->AV:=
 c6 (motive:=fun _=>RT->AV) (fun R=>RT.rec (motive:=fun _=>AV) (.p .undef) (fun v=>v) (fun _ _ _ _ _ _ _ _=>.p .undef) R)
  (fun q _ e R=>RT.rec (motive:=fun _=>AV) (.p .undef) (fun _=>.p .undef) (fun a b c d _ _ _ _=>Q4.rec (motive:=fun _=>AV) (e a) (e b) (e c) (e d) q) R) p
noncomputable def FU(v:AV)(p:List Q4):RT->RT:=
 c6 (motive:=fun _=>RT->RT) (fun _=>.vl v)
  (fun q _ e R=>RT.rec (motive:=fun _=>RT)
   (Q4.rec (motive:=fun _=>RT) (.nd (e .lf) .lf .lf .lf) (.nd .lf (e .lf) .lf .lf) (.nd .lf .lf (e .lf) .lf) (.nd .lf .lf .lf (e .lf)) q)
   (fun _=>Q4.rec (motive:=fun _=>RT) (.nd (e .lf) .lf .lf .lf) (.nd .lf (e .lf) .lf .lf) (.nd .lf .lf (e .lf) .lf) (.nd .lf .lf .lf (e .lf)) q)
   (fun a b c d _ _ _ _=>Q4.rec (motive:=fun _=>RT) (.nd (e a) b c d) (.nd a (e b) c d) (.nd a b (e c) d) (.nd a b c (e d)) q) R) p
noncomputable def kJ(k:Nat)(R:RT)(n:Nat):AV:=bif c7 (n+1) (4^k)then wY (pathOf k n) R else .p .undef
noncomputable def xA(k:Nat)(R:RT)(n:Nat)(v:AV):RT:=FU v (pathOf k n) R
theorem Mp:∀(p:List Q4),wY p .lf=.p .undef
 |[]=>rfl
 |_::_=>rfl
theorem KG(v:AV):∀(p:List Q4)(R:RT),wY p (FU v p R)=v
 |[],_=>rfl
 |x::p,R=>by
  cases R<;>cases x<;>exact KG v p _
theorem JQ(v:AV):∀(p q:List Q4)(R:RT),p.length=q.length->p≠q->wY p (FU v q R)=wY p R
 |[],[],R,_,h=>(h rfl).elim
 |[],_::_,R,h,_=>by simp at h
 |_::_,[],R,h,_=>by simp at h
 |x::p,y::q,R,h,f=>by
  have g:=fun R(f:p≠q)=>JQ v p q R (by simpa using h) f;have i:=Mp p;cases R with
  |nd a b c d=>
   cases x<;>cases y<;>first
    |rfl
    |exact g _ (fun e=>f (by rw[e]))
  |_=>
   cases x<;>cases y<;>first
    |exact i
    |exact(g _ (fun e=>f (by rw[e]))).trans i
theorem B8:∀k n,(pathOf k n).length=k
 |0,_=>rfl
 |k+1,n=>by simp[pathOf,B8 k]
theorem aLs{m n:Nat}(a:m<4)(b:n<4)(h:q4 m=q4 n):m=n:=by
 have hc:∀n,n<4->n=0\/n=1\/n=2\/n=3:=o_
 rcases hc m a with rfl|rfl|rfl|rfl<;>rcases hc n b with rfl|rfl|rfl|rfl<;>simp[q4]at h<;>rfl
theorem KI:∀(k m n:Nat),m<4^k->n<4^k->pathOf k m=pathOf k n->m=n
 |0,m,n,a,b,_=>by simp at a b;omega
 |k+1,m,n,a,b,h=>by
  simp only[pathOf,List.cons.injEq]at h;have c:=aLs (dl _ o_) (dl _ o_) h.1;have d:=KI k (m/4) (n/4) (by rw[dk]at a;omega) (by rw[dk]at b;omega) h.2;omega
theorem Oa(k n:Nat):kJ k .lf n=.p .undef:=by
 simp[kJ,Mp]
theorem aaZ{a b:Nat}(h:a<=b):c7 a b=true:=da h
theorem OK{a b:Nat}(h:¬a<=b):c7 a b=false:=by
 cases c:c7 a b
 ·rfl
 ·exact(h (dd c)).elim
theorem CD(k:Nat)(R:RT)(d x:Nat)(v:AV)(h:d<4^k):kJ k (xA k R d v) x=if x=d then v else kJ k R x:=by
 unfold kJ xA
 by_cases hx:x+1<=4^k
 ·simp only[aaZ hx,cond_true]
  by_cases a:x=d
  ·subst a;rw[KG,if_pos rfl]
  ·rw[if_neg a,JQ _ _ _ _ (by rw[B8,B8]) (fun e=>a (KI k x d o_ h e))]
 ·have:x≠d:=by omega
  simp only[OK hx,cond_false,this,if_false]
def Rel(k:Nat)(e:Env)(R:RT):Prop:=∀x,aN e x=kJ k R x
noncomputable def lF(k:Nat)(d:Option Nat)(v:AV)(R:RT):Option RT:=
 match d with
 |none=>some R
 |some d=>bif c7 (d+1) (4^k)then some (xA k R d v)else none
theorem vR{k:Nat}{d:Option Nat}{v:AV}{R a:RT}{e:Env}(h:lF k d v R=some a)(b:Rel k e R):Rel k (put d v e) a:=by
 unfold lF at h
 split at h
 ·simp only[dq]at h;subst h;exact b
 ·simp only[ao,dp,dq]at h;obtain⟨c,rfl⟩:=h;intro x;rw[CD _ _ _ _ _ (by have:=dd c;omega)];simp only[put,aN]
  split
  ·rfl
  ·exact b x
noncomputable def kD(k:Nat)(R:RT):ax->AV
 | .tmp t=>kJ k R t
 | .const v=>.p (ofConst v)
 | .global g=>.p (Gl.g g)
 | .func f=>.p (.func f [] [])
theorem zW{k:Nat}{R:RT}{e:Env}(a:Rel k e R):kD k R=ev e:=by
 funext o;cases o<;>simp[kD,ev,a _]
def qd(H:Heap)(e:aU):Heap:=
 match e.aG,e.aS with
 |[],[]=>H
 |_,_=>aW H e.aG++e.aS
theorem MD(H:Heap)(e:aU):qd H e=aW H e.aG++e.aS:=by
 unfold qd;split
 ·rename_i a b;simp[a,b,aW]
 ·rfl
structure ky where
 cP:aT->List AV->Heap->Option (AV×Heap)
 cD:aT->List AV->Heap->Option aU
 cY:Nat->Heap->List AV->Option (Heap×AV)
 cI:AV->Nat->Heap->Option Heap
 AB:Nat->List AV->Heap->Option aU
structure kK(P:a0)(B:ky):Prop where
 cP:∀f args H v H',B.cP f args H=some (v,H')->∀K:AV->Heap->Prop,K v H'->ij P false f args H K
 cD:∀f args H e,B.cD f args H=some e->∀K:aU->Prop,K e->iw P f args H K
 cY:∀b H args H' v,B.cY b H args=some (H',v)->iY P b H args H' v
 cI:∀it b H H',B.cI it b H=some H'->∀K:Heap->Prop,K H'->kz P it b H K
 AB:∀b args H e,B.AB b args H=some e->ua P b args H.length e/\pZ H e
section
variable(P:a0)(ag:aT->Bool)(B:ky)(k:Nat)
noncomputable def xw(o:Oper)(R:RT)(H:Heap):Option (RT×Heap):=
 match o.op with
 | .call {callee:=.value f,args,.. }=>match(match kD k R f with
  | .p (.func g fi ca)=>B.cP g (fi.map .p++args.toList.map (kD k R)++ca.map .p) H
  | .func g fi ca=>B.cP g (fi++args.toList.map (kD k R)++ca) H
  | .map b=>match B.cY b H (args.toList.map (kD k R))with
   |some (H',v)=>some (v,H')
   |none=>none
  |_=>none)with
  |some (v,H')=>match lF k o.dst v R with
   |some a=>some (a,H')
   |none=>none
  |none=>none
 |_=>match AU P ag o (kD k R) H with
  |some e=>match lF k o.dst e.v R with
   |some a=>some (a,qd H e)
   |none=>none
  |none=>none
noncomputable def zU(a:Array Oper)(j:Nat)(R:RT):AV:=
 match(a[j]?).bind (·.dst)with
 |some d=>kJ k R d
 |none=>.p (.aE [])
noncomputable def nI(b:Array Oper):List Oper->RT->Heap->Option (RT×Heap)
 |[],R,H=>some (R,H)
 |o::r,R,H=>match o.guard with
  |none=>match xw P ag B k o R H with
   |some (a,H')=>nI b r a H'
   |none=>none
  |some (j,want)=>match zU k b j R with
   | .p (.bool t)=>match t,want with
    |true,true|false,false=>match xw P ag B k o R H with
     |some (a,H')=>nI b r a H'
     |none=>none
    |_,_=>match lF k o.dst (.p (.aE [])) R with
     |some a=>nI b r a H
     |none=>none
   | .p (.aE [])=>match lF k o.dst (.p (.aE [])) R with
    |some a=>nI b r a H
    |none=>none
   |_=>none
noncomputable def xf(o:Oper)(R:RT)(H:Heap):Option aU:=
 match o.op with
 | .call {callee:=.value f,args,.. }=>match kD k R f with
  | .p (.func g fi ca)=>B.cD g (fi.map .p++args.toList.map (kD k R)++ca.map .p) H
  | .func g fi ca=>B.cD g (fi++args.toList.map (kD k R)++ca) H
  | .map b=>B.AB b (args.toList.map (kD k R)) H
  |_=>none
 |_=>AU P ag o (kD k R) H
noncomputable def nt(b:Array Oper):List Oper->Nat->List Touch->RT->Heap->Option (RT×Heap)
 |[],_,acc,R,H=>bif kP b acc then some (R,H)else none
 |o::r,i,acc,R,H=>match o.guard with
  |none=>match xf P ag B k o R H with
   |some e=>match lF k o.dst e.v R with
    |some a=>nt b r (i+1) (im i H.length e acc) a (qd H e)
    |none=>none
   |none=>none
  |some (j,want)=>match zU k b j R with
   | .p (.bool t)=>match t,want with
    |true,true|false,false=>match xf P ag B k o R H with
     |some e=>match lF k o.dst e.v R with
      |some a=>nt b r (i+1) (im i H.length e acc) a (qd H e)
      |none=>none
     |none=>none
    |_,_=>match lF k o.dst (.p (.aE [])) R with
     |some a=>nt b r (i+1) acc a H
     |none=>none
   | .p (.aE [])=>match lF k o.dst (.p (.aE [])) R with
    |some a=>nt b r (i+1) acc a H
    |none=>none
   |_=>none
abbrev Out:=Option (bw×RT×Heap)
def wW(f:RT->Heap->Out):Nat->RT->Heap->Out
 |0,_,_=>none
 |n+1,R,H=>match f R H with
  |some (.normal,a,H')=>wW f n a H'
  |r=>r
noncomputable def uy(k:Nat)(R:RT):Nat->Env
 |0=>[]
 |n+1=>(n,kJ k R n)::uy k R n
def Zc:Nat:=100000
def Ai(j:Option Code):Option bw:=
 match j with
 |none=>some .normal
 |some (.exit id)=>some (.exit id)
 |some .ret=>some .ret
 |_=>none
def FN(b:Nat)(R:RT)(H:Heap):Out:=
 match H[b]? with
 |some (.loop L)=>match L.st with
  | .busy=>none
  |_=>match Ai L.pending with
   |some e=>some (e,R,H.set b (.loop {L with st:=.exhausted}))
   |none=>none
 |_=>none
noncomputable def iv(q:Cx):Code->RT->Heap->Out
 | .skip,R,H| .label _,R,H=>some (.normal,R,H)
 | .region _ ops draw,R,H=>bif draw then match nt P ag B k ops ops.toList 0 [] R H with
   |some (d,H')=>some (.normal,d,H')
   |none=>none
  else match nI P ag B k ops ops.toList R H with
   |some (d,H')=>some (.normal,d,H')
   |none=>none
 | .seq a b,R,H=>match iv q a R H with
  |some (.normal,d,H')=>iv q b d H'
  |r=>r
 | .cond c a b,R,H=>match kD k R c with
  | .p (.bool t)=>match t with
   |true=>iv q a R H
   |false=>iv q b R H
  |_=>none
 | .block id b,R,H=>match iv q b R H with
  |some (.exit i,d,H')=>bif c8 i id then some (.normal,d,H')else some (.exit i,d,H')
  |r=>r
 | .scope b,R,H=>iv q b R H
 | .loop b,R,H=>wW (fun R H=>iv q b R H) Zc R H
 | .rangeFunc f e a b,R,H=>bif c7 q.2 H.length&&c7 q.1 (4^k)then match B.cI (kD k R f) H.length (H++[.loop ⟨.ready,none,q.1,e.toList,a,b,uy k R (4^k)⟩])with
   |some H'=>FN H.length R H'
   |none=>none
  else none
 | .exit id,R,H=>some (.exit id,R,H)
 | .ret,R,H=>some (.ret,R,H)
 |_,_,_=>none
end
section
variable{P:a0}{ag:aT->Bool}{B:ky}{k:Nat}
theorem LM(e:aU)(dst:Option Tmp)(env:Env)(H:Heap):e.app dst ⟨env,H⟩=⟨put dst e.v env,qd H e⟩:=by
 simp[aU.app,MD]
theorem aKA(b:kK P B){o:Oper}{R i:RT}{H H':Heap}{env:Env}(h:xw P ag B k o R H=some (i,H'))(g:Rel k env R):
 ∃j,Rel k j i/\∀K:St->Prop,K ⟨j,H'⟩->kj P ag false o K ⟨env,H⟩:=by
 unfold xw at h;unfold kj;rw[zW g]at h
 split at h
 ·rename_i f args n c
  split at h
  case h_2=>simp at h
  rename_i v l hc
  split at h
  case h_2=>simp at h
  rename_i m d;simp only[dq,dz]at h;obtain⟨rfl,rfl⟩:=h;refine⟨_,vR d g,fun K a=>?_⟩;simp only[c]
  split at hc
  ·rename_i hf;simp only[hf];exact b.cP _ _ _ _ _ hc _ a
  ·rename_i hf;simp only[hf];exact b.cP _ _ _ _ _ hc _ a
  ·rename_i hf
   split at hc
   ·rename_i l s r;simp only[dq,dz]at hc;obtain⟨rfl,rfl⟩:=hc;simp only[hf];exact⟨_,_,b.cY _ _ _ _ _ r,a⟩
   ·simp at hc
  ·simp at hc
 ·rename_i q
  split at h
  case h_2=>simp at h
  rename_i e p
  split at h
  case h_2=>simp at h
  rename_i m d;simp only[dq,dz]at h;obtain⟨rfl,rfl⟩:=h;refine⟨_,vR d g,fun K a=>?_⟩
  split
  ·rename_i f args n c;exact(q _ _ _ c).elim
  ·exact PH p (by rw[LM];exact a)
theorem LN{a:Array Oper}{j:Nat}{R:RT}{env:Env}(b:Rel k env R):zU k a j R=guardOf a j env:=by
 unfold zU guardOf;split
 ·rename_i h;simp only[h];exact(b _).symm
 ·rename_i h;simp only[h]
theorem DI(f:kK P B){c:Array Oper}:∀{l:List Oper}{R a:RT}{H H':Heap}{env:Env},nI P ag B k c l R H=some (a,H')->Rel k env R->
 ∃b,Rel k b a/\∀K:St->Prop,K ⟨b,H'⟩->iq P ag false c l K ⟨env,H⟩
 |[],R,a,H,H',env,h,d=>by
  simp only[nI,dq,dz]at h;obtain⟨rfl,rfl⟩:=h;exact⟨env,d,fun K g=>g⟩
 |o::l,R,a,H,H',env,h,d=>by
  have run:(match xw P ag B k o R H with
    |some (a,H')=>nI P ag B k c l a H'
    |none=>none)=some (a,H')->∃b,Rel k b a/\∀K:St->Prop,K ⟨b,H'⟩->kj P ag false o (iq P ag false c l K) ⟨env,H⟩:=by
   intro h
   split at h
   case h_2=>simp at h
   rename_i n H1 e;obtain⟨w,q,a2⟩:=aKA f e d;obtain⟨u,r,s⟩:=DI f h q;exact⟨u,r,fun K g=>a2 _ (s K g)⟩
  have skip:(match lF k o.dst (.p (.aE [])) R with
    |some a=>nI P ag B k c l a H
    |none=>none)=some (a,H')->∃b,Rel k b a/\∀K:St->Prop,K ⟨b,H'⟩->iq P ag false c l K ⟨put o.dst (.p (.aE [])) env,H⟩:=by
   intro h
   split at h
   case h_2=>simp at h
   rename_i n e;exact DI f h (vR e d)
  simp only[nI]at h;simp only[iq]
  split at h
  ·rename_i i;simp only[i];exact run h
  ·rename_i j v i;simp only[i];rw[LN d]at h
   split at h
   ·rename_i t m;simp only[m];cases t<;>cases v
    ·simpa using run h
    ·simpa using skip h
    ·simpa using skip h
    ·simpa using run h
   ·rename_i m;simp only[m];exact skip h
   ·simp at h
theorem axG(b:kK P B){o:Oper}{R:RT}{H:Heap}{e:aU}{env:Env}(h:xf P ag B k o R H=some e)(l:Rel k env R)(K:aU->Prop)(a:K e):jT P ag o ⟨env,H⟩ K:=by
 unfold xf at h;unfold jT;rw[zW l]at h
 split at h
 ·rename_i f args d c;simp only[c]
  split at h
  ·rename_i hf;simp only[hf];exact b.cD _ _ _ _ h _ a
  ·rename_i hf;simp only[hf];exact b.cD _ _ _ _ h _ a
  ·rename_i hf;simp only[hf];obtain⟨g,i⟩:=b.AB _ _ _ _ h;exact⟨e,g,i,a⟩
  ·simp at h
 ·rename_i j
  split
  ·rename_i f args d c;exact(j _ _ _ c).elim
  ·exact PH h a
theorem C9(m:kK P B){f:Array Oper}:∀{l:List Oper}{i:Nat}{b:List Touch}{R a:RT}{H H':Heap}{env:Env},nt P ag B k f l i b R H=some (a,H')->Rel k env R->
 ∃c,Rel k c a/\∀K:St->Prop,K ⟨c,H'⟩->gI P ag f l i b K ⟨env,H⟩
 |[],i,b,R,a,H,H',env,h,d=>by
  simp only[nt,ao,dp,dq,dz]at h;obtain⟨g,rfl,rfl⟩:=h;exact⟨env,d,fun K n=>⟨g,n⟩⟩
 |o::l,i,b,R,a,H,H',env,h,d=>by
  have run:(match xf P ag B k o R H with
    |some e=>match lF k o.dst e.v R with
     |some a=>nt P ag B k f l (i+1) (im i H.length e b) a (qd H e)
     |none=>none
    |none=>none)=some (a,H')->∃c,Rel k c a/\∀K:St->Prop,K ⟨c,H'⟩->jT P ag o ⟨env,H⟩ (fun e=>gI P ag f l (i+1) (im i H.length e b) K (e.app o.dst ⟨env,H⟩)):=by
   intro h
   split at h
   case h_2=>simp at h
   rename_i e y
   split at h
   case h_2=>simp at h
   rename_i s g;obtain⟨x,u,w⟩:=C9 m h (vR g d);exact⟨x,u,fun K n=>axG m y d _ (by rw[LM];exact w K n)⟩
  have skip:(match lF k o.dst (.p (.aE [])) R with
    |some a=>nt P ag B k f l (i+1) b a H
    |none=>none)=some (a,H')->∃c,Rel k c a/\∀K:St->Prop,K ⟨c,H'⟩->gI P ag f l (i+1) b K ⟨put o.dst (.p (.aE [])) env,H⟩:=by
   intro h
   split at h
   case h_2=>simp at h
   rename_i s g;exact C9 m h (vR g d)
  simp only[nt]at h;simp only[gI]
  split at h
  ·rename_i q;simp only[q];exact run h
  ·rename_i j z q;simp only[q];rw[LN d]at h
   split at h
   ·rename_i t r;simp only[r];cases t<;>cases z
    ·simpa using run h
    ·simpa using skip h
    ·simpa using skip h
    ·simpa using run h
   ·rename_i r;simp only[r];exact skip h
   ·simp at h
theorem MJ(R:RT):∀(n:Nat),∀x,aN (uy k R n) x=if x<n then kJ k R x else .p .undef
 |0,x=>by simp[uy,aN]
 |n+1,x=>by
  simp only[uy,aN,MJ R n]
  by_cases h:x=n
  ·subst h;simp
  ·simp only[h,if_false]
   by_cases a:x<n
   ·simp[a,Nat.lt_succ_of_lt a]
   ·have:¬x<n+1:=by omega
    simp[a,this]
theorem Zo(k:Nat)(R:RT)(n:Nat)(h:4^k<=n):kJ k R n=.p .undef:=by
 unfold kJ;rw[OK o_];rfl
theorem axJ{R:RT}{env:Env}(a:Rel k env R):∀x,aN (uy k R (4^k)) x=aN env x:=by
 intro x;rw[MJ,a]
 split
 ·rfl
 ·rw[Zo k R x o_]
theorem Zg{j:Option Code}{e:bw}(h:Ai j=some e)(Q:bw->St->Prop)(s:St)(hq:Q e s):kX Q j s:=by
 unfold Ai at h;unfold kX
 split at h<;>simp at h<;>subst h<;>exact hq
theorem ZE{b:Nat}{R a:RT}{H H':Heap}{e:bw}{env:Env}(h:FN b R H=some (e,a,H')):a=R/\∀Q:bw->St->Prop,Q e ⟨env,H'⟩->jy b env Q H:=by
 unfold FN at h
 split at h
 case h_2=>simp at h
 rename_i L c
 have go:(match Ai L.pending with
   |some e=>some (e,R,H.set b (.loop {L with st:=.exhausted}))
   |none=>none)=some (e,a,H')->L.st≠.busy->a=R/\∀Q:bw->St->Prop,Q e ⟨env,H'⟩->jy b env Q H:=by
  intro h aI
  split at h
  case h_2=>simp at h
  rename_i e' d;simp only[dq,dz]at h;obtain⟨rfl,rfl,rfl⟩:=h;exact⟨rfl,fun Q hq=>by unfold jy;simp only[c];exact⟨aI,Zg d Q _ hq⟩⟩
 split at h
 ·simp at h
 ·rename_i aI;exact go h aI
theorem XK{q:Cx}{b:Code}{Q:bw->St->Prop}{s s':St}(f:∀c:bw->St->Prop,c .normal s'->cg P ag q b c s)(d:cg P ag q (.loop b) Q s'):cg P ag q (.loop b) Q s:=by
 simp only[cg]at d⊢;obtain⟨I,⟨a,t0,hf,hI⟩,g⟩:=d;refine⟨fun n t=>I n t\/(n=a+1/\t=s),⟨a+1,s,.inl rfl,.inr ⟨rfl,rfl⟩⟩,?_⟩;rintro n t (h|⟨rfl,rfl⟩)
 ·obtain⟨e,u,k1,k2⟩:=nY b t _ (g n t h);refine k2 _ ?_;cases e with
  |normal=>
   obtain⟨m,i,g1,g2,g3⟩:=k1;exact⟨m,i,g1,g2,.inl g3⟩
  |exit id=>exact k1
  |ret=>exact k1
 ·exact f _ ⟨a,t0,Nat.lt_succ_self _,hf,.inl hI⟩
theorem XJ{q:Cx}{b:Code}{Q:bw->St->Prop}{s s':St}{e:bw}(f:e≠.normal)(d:∀a:bw->St->Prop,a e s'->cg P ag q b a s)(c:Q e s'):cg P ag q (.loop b) Q s:=by
 simp only[cg];refine⟨fun n t=>n=0/\t=s,⟨0,s,.inl rfl,rfl,rfl⟩,?_⟩;rintro n t ⟨rfl,rfl⟩;refine d _ ?_;cases e with
 |normal=>exact(f rfl).elim
 |exit id=>exact c
 |ret=>exact c
theorem M9{q:Cx}{b:Code}{f:RT->Heap->Out}(hf:∀{R a:RT}{H H':Heap}{e:bw}{env:Env},f R H=some (e,a,H')->Rel k env R->∃c,Rel k c a/\∀Q:bw->St->Prop,Q e ⟨c,H'⟩->cg P ag q b Q ⟨env,H⟩):
 ∀(n:Nat){R a:RT}{H H':Heap}{e:bw}{env:Env},wW f n R H=some (e,a,H')->Rel k env R->∃c,Rel k c a/\∀Q:bw->St->Prop,Q e ⟨c,H'⟩->cg P ag q (.loop b) Q ⟨env,H⟩
 |0,R,a,H,H',e,env,h,g=>by simp[wW]at h
 |n+1,R,a,H,H',e,env,h,g=>by
  simp only[wW]at h
  split at h
  ·rename_i r H1 o;obtain⟨i,d,a2⟩:=hf o g;obtain⟨m,j,l⟩:=M9 hf n h d;exact⟨m,j,fun Q hq=>XK a2 (l Q hq)⟩
  ·rename_i p;obtain⟨i,d,a2⟩:=hf h g;refine⟨i,d,fun Q hq=>XJ ?_ a2 hq⟩;rintro rfl;exact p _ _ h
theorem lP(m:kK P B){q:Cx}:∀{c:Code}{R l:RT}{H H':Heap}{e:bw}{env:Env},iv P ag B k q c R H=some (e,l,H')->Rel k env R->
 ∃r,Rel k r l/\∀Q:bw->St->Prop,Q e ⟨r,H'⟩->cg P ag q c Q ⟨env,H⟩
 | .skip,R,l,H,H',e,env,h,d| .label _,R,l,H,H',e,env,h,d| .exit _,R,l,H,H',e,env,h,d| .ret,R,l,H,H',e,env,h,d=>by
  simp only[iv,dq,dz]at h;obtain⟨rfl,rfl,rfl⟩:=h;exact⟨env,d,fun Q hq=>hq⟩
 | .region id ops draw,R,l,H,H',e,env,h,d=>by
  simp only[iv]at h;cases draw
  ·simp only[cond_false]at h
   split at h
   case h_2=>simp at h
   rename_i o H1 n;simp only[dq,dz]at h;obtain⟨rfl,rfl,rfl⟩:=h;obtain⟨j,g,a2⟩:=DI m n d;exact⟨j,g,fun Q hq=>by simp only[cg];exact a2 _ hq⟩
  ·simp only[cond_true]at h
   split at h
   case h_2=>simp at h
   rename_i o H1 n;simp only[dq,dz]at h;obtain⟨rfl,rfl,rfl⟩:=h;obtain⟨j,g,a2⟩:=C9 m n d;exact⟨j,g,fun Q hq=>by simp only[cg,if_true];exact a2 _ hq⟩
 | .seq a b,R,l,H,H',e,env,h,d=>by
  simp only[iv]at h
  split at h
  ·rename_i o H1 n;obtain⟨j,g,a2⟩:=lP m n d;obtain⟨w,u,v⟩:=lP m h g;exact⟨w,u,fun Q hq=>by simp only[cg];exact a2 _ (v Q hq)⟩
  ·rename_i p;obtain⟨j,g,a2⟩:=lP m h d;refine⟨j,g,fun Q hq=>by
    simp only[cg];refine a2 _ ?_;cases e with
    |normal=>exact(p _ _ h).elim
    |exit id=>exact hq
    |ret=>exact hq⟩
 | .cond c a b,R,l,H,H',e,env,h,d=>by
  simp only[iv,zW d]at h
  split at h
  case h_2=>simp at h
  rename_i t s;cases t
  ·obtain⟨j,g,a2⟩:=lP m h d;exact⟨j,g,fun Q hq=>by simp only[cg,s];exact a2 Q hq⟩
  ·obtain⟨j,g,a2⟩:=lP m h d;exact⟨j,g,fun Q hq=>by simp only[cg,s,if_true];exact a2 Q hq⟩
 | .block id b,R,l,H,H',e,env,h,d=>by
  simp only[iv]at h
  split at h
  ·rename_i i o H1 n;obtain⟨j,g,a2⟩:=lP m n d;cases hi:c8 i id
   ·simp only[hi,cond_false,dq,dz]at h;obtain⟨rfl,rfl,rfl⟩:=h;refine⟨j,g,fun Q hq=>by
     simp only[cg];refine a2 _ ?_;have:i≠id:=fun e=>by subst e;simp[db]at hi
     simp only[this,if_false];exact hq⟩
   ·simp only[hi,cond_true,dq,dz]at h;obtain⟨rfl,rfl,rfl⟩:=h;refine⟨j,g,fun Q hq=>by
     simp only[cg];refine a2 _ ?_;simp only[dC hi,if_true];exact hq⟩
  ·rename_i p;obtain⟨j,g,a2⟩:=lP m h d;refine⟨j,g,fun Q hq=>by
    simp only[cg];refine a2 _ ?_;cases e with
    |normal=>exact hq
    |exit id=>exact(p _ _ _ h).elim
    |ret=>exact hq⟩
 | .scope b,R,l,H,H',e,env,h,d=>by
  simp only[iv]at h;obtain⟨j,g,a2⟩:=lP m h d;exact⟨j,g,fun Q hq=>by simp only[cg];exact a2 Q hq⟩
 | .loop b,R,l,H,H',e,env,h,d=>by
  simp only[iv]at h;exact M9 (fun h d=>lP m h d) _ h d
 | .rangeFunc f z a b,R,l,H,H',e,env,h,d=>by
  simp only[iv,ao,dp,ap]at h;obtain⟨⟨n,y⟩,h⟩:=h
  split at h
  case h_2=>simp at h
  rename_i H1 hI;obtain⟨rfl,x⟩:=ZE (env:=env) h;refine⟨env,d,fun Q hq=>?_⟩;simp only[cg];rw[zW d]at hI;exact⟨dd n,_,axJ d,m.cI _ _ _ _ hI _ (x Q hq)⟩
 | .goto _,_,_,_,_,_,_,h,_=>by simp[iv]at h
 | .refuse _,_,_,_,_,_,_,h,_=>by simp[iv]at h
end
def sr(n:Nat):Nat:=
 match c7 n 16,c7 n 64,c7 n 256,c7 n 1024 with
 |true,_,_,_=>2
 |_,true,_,_=>3
 |_,_,true,_=>4
 |_,_,_,true=>5
 |_,_,_,_=>6
noncomputable def wU(k:Nat):Nat->List AV->RT
 |_,[]=>.lf
 |i,v::r=>xA k (wU k (i+1) r) i v
theorem Nn(k:Nat):∀(l:List AV)(i:Nat),i+l.length<=4^k->Rel k (jg i l) (wU k i l)
 |[],i,_=>fun x=>by simp[jg,wU,aN,Oa]
 |v::r,i,h=>fun x=>by
  simp only[List.length_cons]at h;rw[wU,CD _ _ _ _ _ o_];simp only[jg,aN]
  split
  ·rfl
  ·exact Nn k r (i+1) o_ x
noncomputable def xg(k:Nat):Env->Option RT
 |[]=>some .lf
 |(x,v)::r=>match xg k r with
  |some R=>bif c7 (x+1) (4^k)then some (xA k R x v)else none
  |none=>none
theorem MI(k:Nat):∀{e:Env}{R:RT},xg k e=some R->Rel k e R
 |[],R,h=>by
  simp only[xg,dq]at h;subst h;intro x;simp[aN,Oa]
 |(y,v)::r,R,h=>by
  simp only[xg]at h
  split at h
  case h_2=>simp at h
  rename_i c a;simp only[ao,dp,dq]at h;obtain⟨b,rfl⟩:=h;intro x;rw[CD _ _ _ _ _ (by have:=dd b;omega)];simp only[aN]
  split
  ·rfl
  ·exact MI k a x
noncomputable def A0(P:a0)(k:Nat)(R:RT)(H:Heap):List a1->Option (List AV)
 |[]=>some []
 |r::rs=>match(match r with
  | .tmp t=>some (kJ k R t)
  | .cell a T=>match kJ k R a with
   | .ptr b path=>match H[b]? with
    |some (.box _ t)=>match fc t path with
     |some v=>bif sE (kindOf P T) (ad v)then some v else none
     |none=>none
    |_=>none
   |_=>none),A0 P k R H rs with
  |some v,some vs=>some (v::vs)
  |_,_=>none
theorem Ob{P:a0}{k:Nat}{R:RT}{H:Heap}{env:Env}(d:Rel k env R):∀{e:List a1}{vs:List AV},A0 P k R H e=some vs->fS P ⟨env,H⟩ e=some vs
 |[],vs,h=>h
 |r::e,vs,h=>by
  simp only[A0]at h
  split at h
  case h_2=>simp at h
  rename_i v o c f;simp only[dq]at h;subst h;have g:pQ P ⟨env,H⟩ r=some v:=by
   cases r with
   |tmp t=>simp only[pQ];rw[d];exact c
   |cell a T=>
    simp only[pQ];dsimp only at c;rw[<-d]at c
    split at c
    case h_2=>simp at c
    rename_i b n j
    split at c
    case h_2=>simp at c
    rename_i fz t l
    split at c
    case h_2=>simp at c
    rename_i u m;simp only[ao,dp,dq]at c;obtain⟨i,rfl⟩:=c;rw[j];simp only[l,m,(ji i).1,if_true]
  simp only[fS,g,Ob d f]
section
variable(P:a0)(ag:aT->Bool)
noncomputable def Am(B:ky)(fn:Func)(args:List AV)(N:Nat)(H:Heap):Option (AV×Heap):=
 bif c7 args.length fn.ntmps&&c7 fn.ntmps (4^sr fn.ntmps)then
  match iv P ag B (sr fn.ntmps) (fn.ntmps,N) (fn.body.getD .skip) (wU (sr fn.ntmps) 0 args) H with
  |some (.exit _,_,_)=>none
  |some (_,R,H')=>match A0 P (sr fn.ntmps) R H' fn.results.toList with
   |some vs=>some (oneOf vs,H')
   |none=>none
  |none=>none
 else none
structure mO where
 sH:aT->Option Func
 AJ:aT->List PV->Option PV
 AL:aT->List AV->Heap->Option (AV×Heap)
 kI:aT->aT->Nat
 uD:aT->List AV->Heap->Option (List (Nat×Obj)×PV)
noncomputable def oW(pl:mO)(B:aT->ky)(f:aT)(vs:List PV):Option PV:=
 match pl.AJ f vs with
 |some v=>some v
 |none=>match pl.sH f with
  |some fn=>match Am P ag (B f) fn (vs.map .p) 0 []with
   |some (v,H)=>eD H 9 v
   |none=>none
  |none=>none
noncomputable def oV(pl:mO)(B:aT->ky)(f:aT)(args:List AV)(H:Heap):Option (AV×Heap):=
 match pl.AL f args H with
 |some r=>some r
 |none=>match pl.sH f with
  |some fn=>Am P ag (B f) fn args H.length H
  |none=>none
noncomputable def zQ(B:ky)(b:Nat)(H:Heap)(args:List AV):Option (Heap×AV):=
 match H[b]? with
 |some (.loop L)=>bif c8 args.length L.params.length&&(L.params.all (fun x=>decide (x<L.n))&&codeOk fit L.n L.assign&&codeOk fit L.n L.body)then
  match xg (sr L.n) (rz L.params args L.env)with
  |some R=>match iv P ag B (sr L.n) (L.n,H.length) L.assign R H with
   |some (.normal,f,H1)=>match H1[b]? with
    |some (.loop c)=>match c.st with
     | .ready=>match iv P ag B (sr L.n) (L.n,H.length) L.body f (H1.set b (.loop {c with st:=.busy}))with
      |some (e,_,a)=>match a[b]? with
       |some (.loop d)=>some (a.set b (.loop {d with st:=if(ig e).isNone then .ready else .done,pending:=ig e}),.p (.bool (ig e).isNone))
       |_=>none
      |none=>none
     |_=>none
    |_=>none
   |_=>none
  |none=>none
  else none
 |_=>none
noncomputable def Fa(pl:mO)(B:aT->ky)(it:AV)(b:Nat)(H:Heap):Option Heap:=
 match it with
 | .p (.func g fi ca)=>match oV P ag pl B g (fi.map .p++[.map b]++ca.map .p) H with
  |some (_,H')=>some H'
  |none=>none
 | .func g fi ca=>match oV P ag pl B g (fi++[.map b]++ca) H with
  |some (_,H')=>some H'
  |none=>none
 |_=>none
noncomputable def EK(pl:mO)(B:aT->ky)(c f:aT)(args:List AV)(H:Heap):Option (AV×Heap):=
 match pl.uD f args H with
 |some (_,v)=>some (.p v,H)
 |none=>match pl.kI c f with
 |0=>match eZ args with
  |some vs=>match oW P ag pl B f vs with
   |some v=>some (.p v,H)
   |none=>none
  |none=>oV P ag pl B f args H
 |1=>oV P ag pl B f args H
 |3=>match wR (oV P ag pl B f) args H with
  |some e=>some (e.v,qd H e)
  |none=>none
 |_=>match nJ H args with
  |some (vs,H1)=>match oW P ag pl B f vs with
   |some v=>some (.p v,H1)
   |none=>none
  |none=>none
noncomputable def EJ(pl:mO)(B:aT->ky)(c f:aT)(args:List AV)(H:Heap):Option aU:=
 match pl.uD f args H with
 |some (ak,v)=>some {v:=.p v,ak}
 |none=>match pl.kI c f with
 |3=>wR (oV P ag pl B f) args H
 |_=>match eZ args with
 |some vs=>match oW P ag pl B f vs with
  |some v=>some {v:=.p v}
  |none=>none
 |none=>match oL H args with
  |some (vs,bs)=>match lS H bs with
   |some (ak,aG)=>match oW P ag pl B f vs with
    |some v=>some {v:=.p v,ak,aG}
    |none=>none
   |none=>none
  |none=>wR (oV P ag pl B f) args H
def tQ:ky:=⟨fun _ _ _=>none,fun _ _ _=>none,fun _ _ _=>none,fun _ _ _=>none,fun _ _ _=>none⟩
noncomputable def kA(pl:mO):Nat->aT->ky
 |0,_=>tQ
 |n+1,c=>⟨EK P ag pl (kA pl n) c,EJ P ag pl (kA pl n) c,zQ P ag (kA pl n c),Fa P ag pl (kA pl n),DD (zQ P ag (kA pl n c))⟩
end
structure nj(P:a0)(pl:mO):Prop where
 mix:P.follows .mixedOrders=true
 sH:∀f fn,pl.sH f=some fn->an P f fn
 AJ:∀f vs v,pl.AJ f vs=some v->aA P f vs v
 AL:∀f args H v H',pl.AL f args H=some (v,H')->bW P f H args H' v
 uD:∀f args H ak v,pl.uD f args H=some (ak,v)->En P f args ak v/\∀p∈ak,H[p.1]?=some p.2
section
variable{P:a0}{ag:aT->Bool}{B1:ky}{B:aT->ky}{pl:mO}
theorem MA(f:kK P B1){fn:Func}{args:List AV}{N:Nat}{H H':Heap}{v:AV}(h:Am P ag B1 fn args N H=some (v,H')):
 args.length<=fn.ntmps/\∃e a vs,(match e with
  |bw.exit _=>False
  |_=>True)/\fS P ⟨a,H'⟩ fn.results.toList=some vs/\oneOf vs=v/\∀Q:bw->St->Prop,Q e ⟨a,H'⟩->cg P ag (fn.ntmps,N) (fn.body.getD .skip) Q ⟨jg 0 args,H⟩:=by
 unfold Am at h;simp only[ao,dp,ap]at h;obtain⟨⟨b,c⟩,h⟩:=h;have b:=dd b;have c:=dd c;refine⟨b,?_⟩
 split at h
 ·simp at h
 ·rename_i e R k g hc
  split at h
  case h_2=>simp at h
  rename_i vs j;simp only[dq,dz]at h;obtain⟨rfl,rfl⟩:=h;obtain⟨a,d,a2⟩:=lP f hc (Nn _ args 0 o_);refine⟨e,a,vs,?_,Ob d j,rfl,a2⟩;cases e with
  |exit i=>exact g i rfl
  |_=>trivial
 ·simp at h
theorem vW(a:nj P pl)(j:∀c,kK P (B c)){f:aT}{vs:List PV}{v:PV}(h:oW P ag pl B f vs=some v):aA P f vs v:=by
 unfold oW at h
 split at h
 ·rename_i v' hk;simp only[dq]at h;subst h;exact a.AJ _ _ _ hk
 ·split at h
  case h_2=>simp at h
  rename_i fn hf
  split at h
  case h_2=>simp at h
  rename_i v' H' k;obtain⟨b,e,m,l,d,g,rfl,i⟩:=MA (j _) k;exact uz ag (a.sH _ _ hf) a.mix (by simpa using b) (i _ ⟨d,l,g,h⟩)
theorem qW(a:nj P pl)(j:∀c,kK P (B c)){f:aT}{args:List AV}{H H':Heap}{v:AV}(h:oV P ag pl B f args H=some (v,H')):bW P f H args H' v:=by
 unfold oV at h
 split at h
 ·rename_i r hk;simp only[dq]at h;subst h;exact a.AL _ _ _ _ _ hk
 ·split at h
  case h_2=>simp at h
  rename_i fn hf;obtain⟨b,e,l,k,d,g,rfl,i⟩:=MA (j _) h;exact Ro ag (a.sH _ _ hf) a.mix b (i _ ⟨d,k,g,rfl,.inl rfl⟩)
theorem LJ{args:List AV}{vs:List PV}(h:eZ args=some vs):args=vs.map .p:=mi h
theorem Z1(b:nj P pl)(d:∀c,kK P (B c)){c f:aT}{args:List AV}{H H':Heap}{v:AV}(h:EK P ag pl B c f args H=some (v,H'))(K:AV->Heap->Prop)(a:K v H'):ij P false f args H K:=by
 unfold EK at h
 split at h
 ·rename_i ak v' hx;simp only[dq,dz]at h;obtain⟨rfl,rfl⟩:=h;obtain⟨i,j⟩:=b.uD _ _ _ _ _ hx;exact .inr ⟨rfl,.inr (.inr (.inr ⟨ak,v',i,j,a⟩))⟩
 split at h
 ·split at h
  ·rename_i vs m
   split at h
   case h_2=>simp at h
   rename_i v' g;simp only[dq,dz]at h;obtain⟨rfl,rfl⟩:=h;exact .inl ⟨vs,v',LJ m,vW b d g,a⟩
  ·exact .inr ⟨rfl,.inr (.inl ⟨H',v,qW b d h,a⟩)⟩
 ·exact .inr ⟨rfl,.inr (.inl ⟨H',v,qW b d h,a⟩)⟩
 ·split at h
  case h_2=>simp at h
  rename_i e k;simp only[dq,dz]at h;obtain⟨rfl,rfl⟩:=h;obtain⟨i,j⟩:=CR (fun args H v H' g=>qW b d g) k;exact .inr ⟨rfl,.inr (.inr (.inl ⟨e,i,j,by rw[<-MD];exact a⟩))⟩
 ·split at h
  case h_2=>simp at h
  rename_i vs H1 l
  split at h
  case h_2=>simp at h
  rename_i v' g;simp only[dq,dz]at h;obtain⟨rfl,rfl⟩:=h;exact .inr ⟨rfl,.inl ⟨vs,H1,v',l,vW b d g,a⟩⟩
theorem Z2(i:nj P pl)(j:∀c,kK P (B c)){c f:aT}{args:List AV}{H:Heap}{e:aU}(h:EJ P ag pl B c f args H=some e)(K:aU->Prop)(g:K e):iw P f args H K:=by
 unfold EJ at h
 split at h
 ·rename_i ak v' hx;simp only[dq]at h;subst h;obtain⟨b,d⟩:=i.uD _ _ _ _ _ hx;exact .inr (.inr (.inr ⟨ak,v',b,d,g⟩))
 split at h
 ·obtain⟨b,d⟩:=CR (fun args H v H' a=>qW i j a) h;exact .inr (.inr (.inl ⟨e,b,d,g⟩))
 split at h
 ·rename_i vs m
  split at h
  case h_2=>simp at h
  rename_i v' a;simp only[dq]at h;subst h;exact .inl ⟨vs,v',LJ m,vW i j a,g⟩
 ·split at h
  case h_2=>
   obtain⟨b,d⟩:=CR (fun args H v H' a=>qW i j a) h;exact .inr (.inr (.inl ⟨e,b,d,g⟩))
  rename_i vs bs l
  split at h
  case h_2=>simp at h
  rename_i ak aG k
  split at h
  case h_2=>simp at h
  rename_i v' a;simp only[dq]at h;subst h;exact .inr (.inl ⟨vs,bs,ak,aG,v',l,k,vW i j a,g⟩)
theorem Lt(o:nj P pl)(a:kK P B1){b:Nat}{H H':Heap}{args:List AV}{v:AV}(h:zQ P ag B1 b H args=some (H',v)):iY P b H args H' v:=by
 unfold zQ at h
 split at h
 case h_2=>simp at h
 rename_i L i;simp only[ao,dp,ap]at h;obtain⟨⟨f,g⟩,h⟩:=h
 split at h
 case h_2=>simp at h
 rename_i R l
 split at h
 case h_2=>simp at h
 rename_i s H1 m
 split at h
 case h_2=>simp at h
 rename_i q j
 split at h
 case h_2=>simp at h
 rename_i aI
 split at h
 case h_2=>simp at h
 rename_i e t p n
 split at h
 case h_2=>simp at h
 rename_i r k;simp only[dq,dz]at h;obtain⟨rfl,rfl⟩:=h;obtain⟨w,c,a2⟩:=lP a m (MI _ l);obtain⟨x,u,d⟩:=lP a n c;refine Rp ag o.mix i (dC f) (by simpa only[ap]using g) ?_;unfold zh;refine a2 _ ?_;simp only[yB,j];refine⟨aI,d _ ?_⟩;simp only[tC,k];exact⟨trivial,.inl rfl⟩
theorem Zh(g:nj P pl)(e:∀c,kK P (B c)){it:AV}{b:Nat}{H H':Heap}(h:Fa P ag pl B it b H=some H')(K:Heap->Prop)(f:K H'):kz P it b H K:=by
 unfold Fa at h
 split at h
 ·split at h
  case h_2=>simp at h
  rename_i v a d;simp only[dq]at h;subst h;exact⟨a,v,qW g e d,f⟩
 ·split at h
  case h_2=>simp at h
  rename_i v a d;simp only[dq]at h;subst h;exact⟨a,v,qW g e d,f⟩
 ·simp at h
theorem tx(a:nj P pl):∀n c,kK P (kA P ag pl n c)
 |0,_=>⟨fun _ _ _ _ _ h=>by simp[kA,tQ]at h,fun _ _ _ _ h=>by simp[kA,tQ]at h,fun _ _ _ _ _ h=>by simp[kA,tQ]at h,fun _ _ _ _ h=>by simp[kA,tQ]at h,fun _ _ _ _ h=>by simp[kA,tQ]at h⟩
 |n+1,c=>⟨fun _ _ _ _ _ h=>Z1 a (tx a n) h,fun _ _ _ _ h=>Z2 a (tx a n) h,fun _ _ _ _ _ h=>Lt a (tx a n c) h,fun _ _ _ _ h=>Zh a (tx a n) h,fun _ _ _ _ h=>W1 (fun _ _ _ _ _ b=>Lt a (tx a n c) b) h⟩
theorem reckon{f:aT}{vs:List PV}{v:PV}(n:Nat)(a:nj P pl)(h:oW P ag pl (kA P ag pl n) f vs=some v):aA P f vs v:=vW a (tx a n) h
end
section
variable{P:a0}{ag:aT->Bool}
theorem aA.df{f:aT}{args d:List PV}{v v':PV}(h:aA P f args v)(g:bB d args)(i:Wk v v'):aA P f d v':=by
 rcases h with h|h
 ·refine .inl ⟨h.1,fun w aa a j k c=>(h.2 w aa a j k (bm.df _ _ _ g c)).mono ?_⟩;rintro e w' ⟨b,aD,k1,k2,k3,k4,k5,k6,l,k7⟩;exact⟨b,aD,k1,k2,k3,k4,k5,k6,l,aB.df _ _ _ i k7⟩
 ·refine .inr fun w aa a c=>?_;obtain⟨b,k1,k2⟩:=h w aa a (bm.df _ _ _ g c);exact⟨b,k1,aB.df _ _ _ i k2⟩
def Aq(P:a0)(a:List a1)(v:PV)(e:bw)(s:St):Prop:=
 (match e with
  | .exit _=>False
  |_=>True)/\∃vs,fS P s a=some vs/\∃v',eD s.heap 9 (oneOf vs)=some v'/\Wk v' v
theorem X7{a:List a1}{v:PV}{s:St}:Aq P a v .ret s=∃vs,fS P s a=some vs/\∃v',eD s.heap 9 (oneOf vs)=some v'/\Wk v' v:=by simp[Aq]
theorem V0{a:List a1}{v:PV}{s:St}:Aq P a v .normal s=∃vs,fS P s a=some vs/\∃v',eD s.heap 9 (oneOf vs)=some v'/\Wk v' v:=by simp[Aq]
theorem se.df{f:aT}{args a:List PV}{v v':PV}(h:se P f args v)(j:bB a args)(k:Wk v v'):se P f a v':=by
 refine⟨h.1,fun w aa b d g i=>(h.2 w aa b d g (bm.df _ _ _ j i)).mono ?_⟩;rintro e w' ⟨c,aD,k1,k2,k3,k4,k5,k6,l,k7⟩;exact⟨c,aD,k1,k2,k3,k4,k5,k6,l,aB.df _ _ _ k k7⟩
theorem KK{dst:Option Tmp}{h:Nat}{pos:String}{af:Array Edge}{g:Option (Nat×Bool)}{env:Env}{heap:Heap}{L:St->Prop}{f:aT}{fi ca:Array ax}(hf:ag f=false):
 dA P ag ⟨dst,.makeFunc (.func f) fi ca,h,pos,af,g⟩ L ⟨env,heap⟩=bf (rM f (fi.toList.map (ev env)) (ca.toList.map (ev env))) (eC dst ⟨env,heap⟩ L):=by
 simp only[dA,lB,fC,hf,rM,av,if_false]
 split
 ·rename_i c d;simp only[c,d,bf,true_and]
 ·rename_i c
  split
  ·rename_i a b d e;exact(c a b d e).elim
  ·simp only[bf,true_and]
theorem Ko{dst:Option Tmp}{h:Nat}{pos:String}{af:Array Edge}{g:Option (Nat×Bool)}{env:Env}{heap:Heap}{K:aU->Prop}{f:aT}{fi ca:Array ax}(hf:ag f=false):
 dB P ag ⟨dst,.makeFunc (.func f) fi ca,h,pos,af,g⟩ ⟨env,heap⟩ K=bf (rM f (fi.toList.map (ev env)) (ca.toList.map (ev env))) K:=by
 simp only[dB,lB,fC,hf,rM,av,if_false]
 split
 ·rename_i c d;simp only[c,d,bf,true_and]
 ·rename_i c
  split
  ·rename_i a b d e;exact(c a b d e).elim
  ·simp only[bf,true_and]
section guards
variable{ops:Array Oper}{o:Oper}{r:List Oper}{K:St->Prop}{want t:Bool}{s:St}{i:Nat}{acc:List Touch}
theorem Kd:zS P ag ops o r K want s (.p (.bool t))=if t=want then dA P ag o (gz P ag ops r K) s else gz P ag ops r K ⟨put o.dst (.p (.aE [])) s.env,s.heap⟩:=(rfl)
theorem KQ:zS P ag ops o r K want s (.p (.aE []))=gz P ag ops r K ⟨put o.dst (.p (.aE [])) s.env,s.heap⟩:=(rfl)
theorem JF:zA P ag ops o r i acc K want s (.p (.bool t))=if t=want then dB P ag o s (w8 P ag ops r i acc K o.dst s)else gJ P ag ops r (i+1) acc K ⟨put o.dst (.p (.aE [])) s.env,s.heap⟩:=(rfl)
theorem Kc:zA P ag ops o r i acc K want s (.p (.aE []))=gJ P ag ops r (i+1) acc K ⟨put o.dst (.p (.aE [])) s.env,s.heap⟩:=(rfl)
theorem VY{l:List Oper}{j:Nat}{e:Env}:guardOf l.toArray j e=match(l[j]?).bind (·.dst)with
 |some d=>aN e d
 |none=>.p (.aE []):=by simp only[guardOf,List.getElem?_toArray];cases l[j]?.bind (·.dst)<;>rfl
end guards
section calls
variable{f:aT}{H H1:Heap}{K:AV->Heap->Prop}{L:aU->Prop}{v a b c d e a' b' c' d' e':PV}{dr:Bool}
theorem cw0(h:aA P f [] v)(hk:K (.p v) H):ij P dr f [] H K:=.inl ⟨[],v,rfl,h,hk⟩
theorem cw1(h:aA P f [a'] v)(hk:K (.p v) H)(b:Wk a a':=by first|exact Wk.refl _|simp[Wk,bB]):ij P dr f [.p a] H K:=.inl ⟨[a],v,rfl,h.df (by simp only[bB];exact⟨b,trivial⟩) (Wk.refl _),hk⟩
theorem cw2(h:aA P f [a',b'] v)(hk:K (.p v) H)(c:Wk a a':=by first|exact Wk.refl _|simp[Wk,bB])(d:Wk b b':=by first|exact Wk.refl _|simp[Wk,bB]):ij P dr f [.p a,.p b] H K:=
 .inl ⟨[a,b],v,rfl,h.df (by simp only[bB];exact⟨c,d,trivial⟩) (Wk.refl _),hk⟩
theorem cw3(h:aA P f [a',b',c'] v)(hk:K (.p v) H)(d:Wk a a':=by first|exact Wk.refl _|simp[Wk,bB])(e:Wk b b':=by first|exact Wk.refl _|simp[Wk,bB])(g:Wk c c':=by first|exact Wk.refl _|simp[Wk,bB]):ij P dr f [.p a,.p b,.p c] H K:=
 .inl ⟨[a,b,c],v,rfl,h.df (by simp only[bB];exact⟨d,e,g,trivial⟩) (Wk.refl _),hk⟩
theorem cw4(h:aA P f [a',b',c',d'] v)(hk:K (.p v) H)(e:Wk a a':=by first|exact Wk.refl _|simp[Wk,bB])(g:Wk b b':=by first|exact Wk.refl _|simp[Wk,bB])(i:Wk c c':=by first|exact Wk.refl _|simp[Wk,bB])(j:Wk d d':=by first|exact Wk.refl _|simp[Wk,bB]):ij P dr f [.p a,.p b,.p c,.p d] H K:=
 .inl ⟨[a,b,c,d],v,rfl,h.df (by simp only[bB];exact⟨e,g,i,j,trivial⟩) (Wk.refl _),hk⟩
theorem cw5(h:aA P f [a',b',c',d',e'] v)(hk:K (.p v) H)(g:Wk a a':=by first|exact Wk.refl _|simp[Wk,bB])(i:Wk b b':=by first|exact Wk.refl _|simp[Wk,bB])(j:Wk c c':=by first|exact Wk.refl _|simp[Wk,bB])(k:Wk d d':=by first|exact Wk.refl _|simp[Wk,bB])(l:Wk e e':=by first|exact Wk.refl _|simp[Wk,bB]):ij P dr f [.p a,.p b,.p c,.p d,.p e] H K:=
 .inl ⟨[a,b,c,d,e],v,rfl,h.df (by simp only[bB];exact⟨g,i,j,k,l,trivial⟩) (Wk.refl _),hk⟩
theorem ce0(h:aA P f [] v)(hk:L {v:=.p v}):iw P f [] H L:=.inl ⟨[],v,rfl,h,hk⟩
theorem ce1(h:aA P f [a'] v)(hk:L {v:=.p v})(b:Wk a a':=by first|exact Wk.refl _|simp[Wk,bB]):iw P f [.p a] H L:=.inl ⟨[a],v,rfl,h.df (by simp only[bB];exact⟨b,trivial⟩) (Wk.refl _),hk⟩
theorem ce2(h:aA P f [a',b'] v)(hk:L {v:=.p v})(c:Wk a a':=by first|exact Wk.refl _|simp[Wk,bB])(d:Wk b b':=by first|exact Wk.refl _|simp[Wk,bB]):iw P f [.p a,.p b] H L:=
 .inl ⟨[a,b],v,rfl,h.df (by simp only[bB];exact⟨c,d,trivial⟩) (Wk.refl _),hk⟩
theorem ce3(h:aA P f [a',b',c'] v)(hk:L {v:=.p v})(d:Wk a a':=by first|exact Wk.refl _|simp[Wk,bB])(e:Wk b b':=by first|exact Wk.refl _|simp[Wk,bB])(g:Wk c c':=by first|exact Wk.refl _|simp[Wk,bB]):iw P f [.p a,.p b,.p c] H L:=
 .inl ⟨[a,b,c],v,rfl,h.df (by simp only[bB];exact⟨d,e,g,trivial⟩) (Wk.refl _),hk⟩
theorem ce4(h:aA P f [a',b',c',d'] v)(hk:L {v:=.p v})(e:Wk a a':=by first|exact Wk.refl _|simp[Wk,bB])(g:Wk b b':=by first|exact Wk.refl _|simp[Wk,bB])(i:Wk c c':=by first|exact Wk.refl _|simp[Wk,bB])(j:Wk d d':=by first|exact Wk.refl _|simp[Wk,bB]):iw P f [.p a,.p b,.p c,.p d] H L:=
 .inl ⟨[a,b,c,d],v,rfl,h.df (by simp only[bB];exact⟨e,g,i,j,trivial⟩) (Wk.refl _),hk⟩
theorem ce5(h:aA P f [a',b',c',d',e'] v)(hk:L {v:=.p v})(g:Wk a a':=by first|exact Wk.refl _|simp[Wk,bB])(i:Wk b b':=by first|exact Wk.refl _|simp[Wk,bB])(j:Wk c c':=by first|exact Wk.refl _|simp[Wk,bB])(k:Wk d d':=by first|exact Wk.refl _|simp[Wk,bB])(l:Wk e e':=by first|exact Wk.refl _|simp[Wk,bB]):iw P f [.p a,.p b,.p c,.p d,.p e] H L:=
 .inl ⟨[a,b,c,d,e],v,rfl,h.df (by simp only[bB];exact⟨g,i,j,k,l,trivial⟩) (Wk.refl _),hk⟩
theorem cwp{args:List AV}{vs a:List PV}(h:aA P f a v)(c:nJ H args=some (vs,H1))(hk:K (.p v) H1)(b:bB vs a:=by first|exact bB.refl _|simp[Wk,bB]):ij P false f args H K:=
 .inr ⟨rfl,.inl ⟨vs,H1,v,c,h.df b (Wk.refl _),hk⟩⟩
theorem cep{args:List AV}{vs a:List PV}{bs:List Nat}{ak aG:List (Nat×Obj)}(h:aA P f a v)(c:oL H args=some (vs,bs))(hf:lS H bs=some (ak,aG))(hk:L {v:=.p v,ak,aG})(b:bB vs a:=by first|exact bB.refl _|simp[Wk,bB]):iw P f args H L:=
 .inr (.inl ⟨vs,bs,ak,aG,v,c,hf,h.df b (Wk.refl _),hk⟩)
end calls
def KV(T:Heap)(a v:AV):Prop:=a=v\/Gh T a v
theorem Tj{T:Heap}{v:AV}:KV T v v=True:=by simp[KV]
theorem Th{T:Heap}{b aq ai off len:Nat}:KV T (.p .aK) (.sl b aq ai off len)=(aq=0/\off=0/\len=0/\∃k z,T[b]?=some (.arr k 0 z [])/\k.gr=true):=by simp[KV,Gh,gp]
theorem Tk{T:Heap}{u u':ay}{fs:List PV}{a:List AV}:KV T (.p (.st u fs)) (.st u' a)=(u=u'/\lJ T fs a):=by simp[KV,Gh,gp]
def mn(T:Heap)(e:Env):Env->Prop
 |[]=>True
 |(x,v)::r=>KV T (aN e x) v/\mn T e r
def KO(T:Heap)(o:Obj):Obj->Prop
 | .hole=>True
 | .box false v'=>match o with
  | .box false v=>KV T v v'
  |_=>False
 | .arr k aq z es=>(o=.hole/\aq=0/\es=[]/\k.gr=true)\/o=.arr k aq z es
 |o'=>o=o'
def KN:Obj->Prop
 | .hole=>True
 | .arr k aq _ es=>aq=0/\es=[]/\k.gr=true
 |_=>False
def jz(T:Heap):Heap->Heap->Prop
 |_,[]=>True
 |[],o'::t=>KN o'/\jz T [] t
 |o::h,o'::t=>KO T o o'/\jz T h t
theorem mn.get{T:Heap}{e:Env}:∀{t:Env},mn T e t->∀x,aN t x=aN e x\/aN t x=.p .undef\/Gh T (aN e x) (aN t x)
 |[],_,x=>.inr (.inl rfl)
 |(y,v)::t,h,x=>by
  simp only[mn]at h;simp only[aN]
  split
  ·rename_i hx;subst hx;rcases h.1 with h|h
   ·exact .inl h.symm
   ·exact .inr (.inr h)
  ·exact mn.get h.2 x
theorem jz.get{T:Heap}:∀{h t:Heap},jz T h t->∀(b:Nat)(o:Obj),t[b]?=some o->
 o=.hole\/h[b]?=some o\/((h[b]?=none\/h[b]?=some .hole)/\∃k z,o=.arr k 0 z []/\k.gr=true)\/(∃v v',h[b]?=some (.box false v)/\o=.box false v'/\Gh T v v')
 |_,[],_,b,o,c=>by simp at c
 |[],o'::t,hk,b,o,c=>by
  simp only[jz]at hk;cases b with
  |zero=>
   simp at c;subst c;cases o'<;>have a:=hk.1<;>simp only[KN]at a
   ·exact .inl rfl
   ·obtain⟨rfl,rfl,d⟩:=a;exact .inr (.inr (.inl ⟨.inl rfl,_,_,rfl,d⟩))
  |succ b=>simpa using jz.get hk.2 b o (by simpa using c)
 |e::h,o'::t,hk,b,o,c=>by
  simp only[jz]at hk;cases b with
  |zero=>
   simp at c;subst c;have a:=hk.1;cases o' with
   |hole=>exact .inl rfl
   |dead=>simp only[KO]at a;subst a;exact .inr (.inl rfl)
   |map fz es=>simp only[KO]at a;subst a;exact .inr (.inl rfl)
   |cQ ks vs=>simp only[KO]at a;subst a;exact .inr (.inl rfl)
   |dD s p=>simp only[KO]at a;subst a;exact .inr (.inl rfl)
   |loop L=>simp only[KO]at a;subst a;exact .inr (.inl rfl)
   |arr k aq z es=>
    simp only[KO]at a;rcases a with⟨rfl,rfl,rfl,d⟩|rfl
    ·exact .inr (.inr (.inl ⟨.inr rfl,_,_,rfl,d⟩))
    ·exact .inr (.inl rfl)
   |box fz v'=>
    cases fz with
    |true=>simp only[KO]at a;subst a;exact .inr (.inl rfl)
    |false=>
     simp only[KO]at a
     split at a
     ·rcases a with rfl|a
      ·exact .inr (.inl rfl)
      ·exact .inr (.inr (.inr ⟨_,_,rfl,rfl,a⟩))
     ·exact a.elim
  |succ b=>simpa using jz.get hk.2 b o (by simpa using c)
theorem bE.og{N:Nat}{s t:St}(hn:t.heap.take N=s.heap.take N)(c:mn t.heap s.env t.env)(hh:jz t.heap s.heap t.heap)(hr:jj t.heap t.env)(d:eM t.heap t.heap):bE N s t:=by
 refine .inr ⟨⟨c.get,hh.get,hr.get,d.get⟩,fun b a=>?_⟩;have:=congrArg (fun l:Heap=>l[b]?) hn;simpa[List.getElem?_take,a]using this
theorem OO{T:Heap}{o:Obj}:KO T o o=True:=by
 cases o with
 |box fz v=>cases fz<;>simp[KO,KV]
 |_=>simp[KO]
theorem Te{T:Heap}{o:Obj}:KO T o .hole=True:=by simp[KO]
theorem Td{T:Heap}{v v':AV}:KO T (.box false v) (.box false v')=KV T v v':=(rfl)
theorem Tf{T:Heap}{k:AK}{aq z:Nat}{a:List AV}:KO T .hole (.arr k aq z a)=(aq=0/\a=[]/\k.gr=true):=by simp[KO]
theorem Tc:KN .hole=True:=(rfl)
theorem Tb{k:AK}{aq z:Nat}{a:List AV}:KN (.arr k aq z a)=(aq=0/\a=[]/\k.gr=true):=(rfl)
theorem Ti{T:Heap}{x y:PV}:KV T (.p x) (.p y)=(x=y):=by
 have:Gh T (.p x) (.p y)↔x=y:=by cases x<;>simp[Gh,gp,eq_comm]
 simp[KV,this]
def uV{α:Type}(N:Nat)(mk:α->St)(ok:α->Prop)(m:α->Nat)(n:Nat)(s:St):Prop:=∃a',m a'<n/\ok a'/\bE N s (mk a')
def rN{α:Type}(N:Nat)(mk:α->St)(ok:α->Prop)(m:α->Nat)(n:Nat)(Q:bw->St->Prop)(e:bw)(s:St):Prop:=
 match e with
 | .normal=>uV N mk ok m n s
 |e=>Q e s
section
variable{α:Type}{N:Nat}{mk:α->St}{ok:α->Prop}{m:α->Nat}{n:Nat}{Q:bw->St->Prop}{s s':St}{q:Cx}
theorem VD:rN N mk ok m n Q .normal s=uV N mk ok m n s:=(rfl)
theorem WW{id:Nat}:rN N mk ok m n Q (.exit id) s=Q (.exit id) s:=(rfl)
theorem XM:rN N mk ok m n Q .ret s=Q .ret s:=(rfl)
theorem wl{b:Code}(mk:α->St)(ok:α->Prop)(m:α->Nat)(c:α)(l:ok c)(iu:∀a,ok a->dw P ag q b (rN q.2 mk ok m (m a) Q) (mk a))
 (k:(mk c).heap.take q.2=s.heap.take q.2:=by simp)(i:mn (mk c).heap s.env (mk c).env:=by simp)(j:jz (mk c).heap s.heap (mk c).heap:=by simp)(o:jj (mk c).heap (mk c).env:=by simp)(p:eM (mk c).heap (mk c).heap:=by simp):
 dw P ag q (.loop b) Q s:=by
 simp only[dw];refine⟨fun n t=>∃a,ok a/\t=mk a/\n=m a,⟨m c,mk c,bE.og k i j o p,c,l,rfl,rfl⟩,?_⟩;rintro n t ⟨a,h,rfl,rfl⟩;have:rN q.2 mk ok m (m a) Q=uc q.2 (m a) (fun n t=>∃a,ok a/\t=mk a/\n=m a) Q:=by
  funext e s
  cases e with
  |normal=>
   simp only[rN,uc,uV,eq_iff_iff];constructor
   ·rintro⟨a',d,f,g⟩;exact⟨m a',mk a',d,g,a',f,rfl,rfl⟩
   ·rintro⟨_,_,d,g,a',f,rfl,rfl⟩;exact⟨a',d,f,g⟩
  |exit id=>rfl
  |ret=>rfl
 rw[<-this];exact iu a h
theorem rnd(a':α)(b:ok a')(a:m a'<n:=by omega)(e:(mk a').heap.take N=s.heap.take N:=by simp)(c:mn (mk a').heap s.env (mk a').env:=by simp)(d:jz (mk a').heap s.heap (mk a').heap:=by simp)(f:jj (mk a').heap (mk a').env:=by simp)(g:eM (mk a').heap (mk a').heap:=by simp):
 uV N mk ok m n s:=⟨a',a,b,bE.og e c d f g⟩
end
theorem aO(n:Int)(h:-9223372036854775808<=n)(a:n<=9223372036854775807):IntKind.i64.wrap n=n:=IntWalk.i64_in n ⟨h,a⟩
theorem Bh(a b:Int):(a<b/\¬b<=a)\/(¬a<b/\b<=a):=o_
theorem bY{i:Nat}(h:i<4611686018427387904):IntKind.i64.wrap ((i:Int)+1)=(i:Int)+1:=aO _ o_ o_
attribute [simp] Wk bB aH Obj.has Kd KQ JF Kc VY KK Ko rM VD WW XM mn jz Tj Ti Th Tk OO Te Td Tf Tc Tb lJ gp AK.gr jj eM aC Obj.refs
attribute [simp] X7 V0 Wk.refl bB.refl
end
end Go.au
namespace Go.au
variable[Gl]
mutual
def dX:PV->Prop
 | .str s=>∀c∈s,c<256
 | .cA t=>dX t
 | .bJ _ es| .seq es| .st _ es| .aE es=>mw es
 |_=>True
def mw:List PV->Prop
 |[]=>True
 |v::vs=>dX v/\mw vs
end
section
variable{P:a0}{w:a4}{aa:Nat->Prop}
theorem My(bs:ByteArray):∀c∈bs.data.toList.map (·.toNat),c<256:=by
 intro c hc;simp only[bo]at hc;obtain⟨b,_,rfl⟩:=hc;exact UInt8.toNat_lt b
mutual
theorem aV.dX:∀(v:PV)(cs:List a3),aV P w aa v cs->dX v
 | .str s,cs,h=>by simp only[aV]at h;obtain⟨bs,_,rfl⟩:=h;simp only[au.dX];exact My bs
 | .cA t,cs,h=>by simp only[aV]at h;obtain⟨_,_,ts,a,_⟩:=h;simp only[au.dX];exact aV.dX t ts a
 | .bJ f b,cs,h=>by simp only[aV]at h;obtain⟨_,_,_,_,d,a,_⟩:=h;simp only[au.dX];exact bg.dX _ b d a
 | .seq b,cs,h=>by
  simp only[aV]at h;simp only[au.dX];rcases h with⟨rfl,_⟩|⟨_,_,_,_,d,a,_⟩
  ·trivial
  ·exact bg.dX _ b d a
 | .st u b,cs,h=>by simp only[aV]at h;obtain⟨l,d,_,a,_⟩:=h;simp only[au.dX];exact bg.dX _ b d a
 | .aE b,cs,h=>by simp[aV]at h
 | .undef,_,_| .bool _,_,_| .int _ _,_,_| .dc,_,_| .aK,_,_| .fM,_,_| .iE,_,_| .gl,_,_| .fq _,_,_| .func _ _ _,_,_=>by simp[au.dX]
theorem bg.dX:∀(l:List Nat)(b:List PV)(d:List (List a3)),bg P w aa l b d->mw b
 |_,[],_,_=>by simp[au.mw]
 |[],_::_,_,h=>by simp[bg]at h
 |n::l,v::vs,d,h=>by
  simp only[bg]at h;obtain⟨c,cs,_,a,_,g⟩:=h;simp only[au.mw];exact⟨aV.dX v c a,bg.dX l vs cs g⟩
theorem aB.dX:∀(v:PV)(x:a3),aB P w aa v x->dX v
 | .str s,cs,h=>by simp only[aB]at h;obtain⟨bs,_,rfl⟩:=h;simp only[au.dX];exact My bs
 | .cA t,cs,h=>by simp only[aB]at h;obtain⟨_,_,ts,a,_⟩:=h;simp only[au.dX];exact aV.dX t ts a
 | .bJ f b,cs,h=>by simp only[aB]at h;obtain⟨_,_,_,_,d,a,_⟩:=h;simp only[au.dX];exact bg.dX _ b d a
 | .seq b,cs,h=>by
  simp only[aB]at h;simp only[au.dX];rcases h with⟨rfl,_⟩|⟨_,_,_,_,d,a,_⟩
  ·trivial
  ·exact bg.dX _ b d a
 | .st u b,cs,h=>by simp only[aB]at h;obtain⟨l,d,_,a,_⟩:=h;simp only[au.dX];exact bg.dX _ b d a
 | .aE b,cs,h=>by simp only[aB]at h;obtain⟨e,a,_⟩:=h;simp only[au.dX];exact bm.dX b e a
 | .undef,_,_| .bool _,_,_| .int _ _,_,_| .dc,_,_| .aK,_,_| .fM,_,_| .iE,_,_| .gl,_,_| .fq _,_,_| .func _ _ _,_,_=>by simp[au.dX]
theorem bm.dX:∀(b:List PV)(e:List a3),bm P w aa b e->mw b
 |[],_,_=>by simp[au.mw]
 |v::vs,e,h=>by
  simp only[bm]at h;obtain⟨y,i,_,a,g⟩:=h;simp only[au.mw];exact⟨aB.dX v y a,bm.dX vs i g⟩
end
theorem TT{f:aT}{args:List PV}{v:PV}(h:mw args->aA P f args v):aA P f args v:=by
 by_cases hs:mw args
 ·exact h hs
 ·exact .inr fun w aa b a=>(hs (bm.dX _ _ a)).elim
end
end Go.au
namespace Go.au
variable[Gl]
@[reducible] def Tg{α:Type}(_:α)(β:Type):Type:=β
@[reducible] def Tg1{α:Type 1}(_:α)(β:Type):Type:=β
section
variable(P:a0)(ag:aT->Bool)
def fh(q:Cx)(c:Code)(Q:bw->St->Prop)(s:Tg (q,c,Q) St):Prop:=dw P ag q c Q s
def qw(a:Array Oper)(l:List Oper)(K:St->Prop)(s:Tg (a,l,K) St):Prop:=gz P ag a l K s
def rS(b:Array Oper)(l:List Oper)(i:Nat)(a:List Touch)(K:St->Prop)(s:Tg (b,l,i,a,K) St):Prop:=gJ P ag b l i a K s
def A2(K:St->Prop)(Q:bw->St->Prop)(e:Tg (K,Q) bw)(s:Tg (K,Q) St):Prop:=uL K Q e s
def rD(id:Nat)(Q:bw->St->Prop)(e:Tg (id,Q) bw)(s:Tg (id,Q) St):Prop:=oI id Q e s
def QX(a b:St->Prop)(s:St)(v:Tg (a,b,s) AV):Prop:=uf v a b s
def Ef(b:Array Oper)(r:List Oper)(i:Nat)(a:List Touch)(K:St->Prop)(dst:Option Tmp)(s:St)(e:Tg (b,r,i,a,K,dst,s) aU):Prop:=w8 P ag b r i a K dst s e
def eO(dst:Option Tmp)(s:St)(K:St->Prop)(e:Tg (dst,s,K) aU):Prop:=eC dst s K e
def SD(dst:Option Tmp)(s:St)(K:St->Prop)(v:Tg (dst,s,K) AV)(H:Tg (dst,s,K) Heap):Prop:=AX dst s K v H
def Ek(a:Array Oper)(o:Oper)(r:List Oper)(K:St->Prop)(b:Bool)(s:St)(g:Tg (a,o,r,K,b,s) AV):Prop:=zS P ag a o r K b s g
def DC(b:Array Oper)(o:Oper)(r:List Oper)(i:Nat)(a:List Touch)(K:St->Prop)(c:Bool)(s:St)(g:Tg (b,o,r,i,a,K,c,s) AV):Prop:=zA P ag b o r i a K c s g
def eg(o:Oper)(K:St->Prop)(s:St)(_:Tg (o,K,s) Unit):Prop:=dA P ag o K s
def dN(o:Oper)(s:St)(K:aU->Prop)(_:Tg (o,K,s) Unit):Prop:=dB P ag o s K
def cJ(K:aU->Prop)(r:Tg K eE):Prop:=bf r K
def Aw(H:Heap)(K:AV->Heap->Prop)(f:Tg (H,K) AV)(args:Tg (H,K) (List AV)):Prop:=rL P f args H K
def Eo(H:Heap)(K:aU->Prop)(f:Tg (H,K) AV)(args:Tg (H,K) (List AV)):Prop:=rB P f args H K
def ld(d:Bool)(f:aT)(K:AV->Heap->Prop)(args:Tg K (List AV))(H:Tg K Heap):Prop:=ij P d f args H K
def nm(f:aT)(K:aU->Prop)(args:Tg K (List AV))(H:Tg K Heap):Prop:=iw P f args H K
def sc(R:AV->PV->Prop):List AV->List PV->Prop
 |[],vs=>vs=[]
 |x::xs,vs=>match vs with
  |v::vs=>R x v/\sc R xs vs
  |[]=>False
def gP(H:Heap):Nat->AV->PV->Prop
 |0=>fun x v=>match x with
  | .p a=>Wk a v
  |_=>False
 |n+1=>fun x v=>match x with
  | .p a=>Wk a v
  | .sl b aq z off len=>match v with
   | .seq fs=>match H[b]? with
    |some (.arr _ e h es)=>aq=e/\z=h/\off+len<=es.length/\sc (gP H n) ((es.drop off).take len) fs
    |_=>False
   |_=>False
  | .st u xs=>match v with
   | .st u' vs=>u=u'/\sc (gP H n) xs vs
   |_=>False
  | .aE xs=>match v with
   | .aE vs=>sc (gP H n) xs vs
   |_=>False
  | .ptr b path=>match v with
   | .cA t=>match H[b]? with
    |some (.box _ y)=>match fc y path with
     |some s=>gP H n s t
     |none=>False
    |_=>False
   |_=>False
  | .map b=>match v with
   | .fq es=>match H[b]? with
    |some (.map _ c)=>c=es
    |_=>False
   |_=>False
  | .func f xs g=>match v with
   | .func d vs us=>f=d/\sc (gP H n) xs vs/\sc (gP H n) g us
   |_=>False
  |_=>False
def lK(H:Heap)(n:Nat):List AV->List PV->Prop:=sc (gP H n)
def sj(a:List a1)(v:PV)(e:Tg (a,v) bw)(s:Tg (a,v) St):Prop:=
 (match e with
  | .exit _=>False
  |_=>True)/\∃vs,fS P s a=some vs/\gP (St.heap s) 9 (oneOf vs) v
def zM(a:Array Oper)(l:Tg a (List Touch)):Bool:=kP a l
def aLx(a:Array Oper)(i j:Tg a Nat):Bool:=reach a a.size i j
end
section
variable{P:a0}{ag:aT->Bool}{q:Cx}
theorem aMK{Q:bw->St->Prop}{s:St}:fh P ag q .skip Q s=Q .normal s:=Pa
theorem YC{l:Nat}{Q:bw->St->Prop}{s:St}:fh P ag q (.label l) Q s=Q .normal s:=NR
theorem aMI{id:Nat}{Q:bw->St->Prop}{s:St}:fh P ag q (.exit id) Q s=Q (.exit id) s:=Pb
theorem aMJ{Q:bw->St->Prop}{s:St}:fh P ag q .ret Q s=Q .ret s:=S5
theorem Yz{b:Code}{Q:bw->St->Prop}{s:St}:fh P ag q (.scope b) Q s=fh P ag q b Q s:=NP
theorem aMH{id:Nat}{l:List Oper}{Q:bw->St->Prop}{s:St}:fh P ag q (.region id l.toArray true) Q s=rS P ag l.toArray l 0 [] (Q .normal) s:=Pc
theorem YA{id:Nat}{l:List Oper}{Q:bw->St->Prop}{s:St}:fh P ag q (.region id l.toArray false) Q s=qw P ag l.toArray l (Q .normal) s:=NQ
theorem bu{a b:Code}{Q:bw->St->Prop}{s:St}:fh P ag q (.seq a b) Q s=fh P ag q a (A2 (fh P ag q b Q) Q) s:=S6
theorem Mu{id:Nat}{b:Code}{Q:bw->St->Prop}{s:St}:fh P ag q (.block id b) Q s=fh P ag q b (rD id Q) s:=NT
theorem aMG{c:ax}{a b:Code}{Q:bw->St->Prop}{s:St}:fh P ag q (.cond c a b) Q s=QX (fh P ag q a Q) (fh P ag q b Q) s (ev s.env c):=Pd
theorem VG{K:St->Prop}{Q:bw->St->Prop}{s:St}:A2 K Q .normal s=K s:=J4
theorem Xf{id:Nat}{K:St->Prop}{Q:bw->St->Prop}{s:St}:A2 K Q (.exit id) s=Q (.exit id) s:=Lr
theorem Xl{K:St->Prop}{Q:bw->St->Prop}{s:St}:A2 K Q .ret s=Q .ret s:=Mn
theorem Wd{t:Bool}{a b:St->Prop}{s:St}:QX a b s (.p (.bool t))=if t then a s else b s:=Kq
theorem X4{b:Array Oper}{r:List Oper}{i:Nat}{a:List Touch}{K:St->Prop}{dst:Option Tmp}{env:Env}{heap:Heap}{v:AV}{ak aG:List (Nat×Obj)}{aS:List Obj}:Ef P ag b r i a K dst ⟨env,heap⟩ ⟨v,ak,aG,aS⟩=rS P ag b r (i+1) (im i heap.length ⟨v,ak,aG,aS⟩ a) K ⟨put dst v env,aW heap aG++aS⟩:=MP
theorem ZM{dst:Option Tmp}{env:Env}{heap:Heap}{K:St->Prop}{v:AV}{ak aG:List (Nat×Obj)}{aS:List Obj}:eO dst ⟨env,heap⟩ K ⟨v,ak,aG,aS⟩=K ⟨put dst v env,aW heap aG++aS⟩:=OL
theorem Zt{dst:Option Tmp}{env:Env}{heap H:Heap}{K:St->Prop}{v:AV}:SD dst ⟨env,heap⟩ K v H=K ⟨put dst v env,H⟩:=Og
theorem aMM{b:Array Oper}{i:Nat}{a:List Touch}{K:St->Prop}{s:St}:rS P ag b [] i a K s=(zM b a=true/\K s):=O9
theorem Yy{b:Array Oper}{i c:Nat}{pos:String}{a:List Touch}{K:St->Prop}{s:St}{dst:Option Tmp}{op:Op}{af:Array Edge}{r:List Oper}:rS P ag b ({dst,op,type:=c,pos,after:=af,guard:=none}::r) i a K s=dN P ag {dst,op,type:=c,pos,after:=af,guard:=none} s (Ef P ag b r i a K dst s) ():=NO
theorem XH{a:Array Oper}{i d j:Nat}{b:Bool}{pos:String}{c:List Touch}{K:St->Prop}{s:St}{dst:Option Tmp}{op:Op}{af:Array Edge}{r:List Oper}:rS P ag a ({dst,op,type:=d,pos,after:=af,guard:=some (j,b)}::r) i c K s=DC P ag a {dst,op,type:=d,pos,after:=af,guard:=some (j,b)} r i c K b s (guardOf a j s.env):=Mt
theorem aMV{a:Array Oper}{K:St->Prop}{s:St}:qw P ag a [] K s=K s:=O7
theorem Yx{a:Array Oper}{b:Nat}{pos:String}{K:St->Prop}{s:St}{dst:Option Tmp}{op:Op}{af:Array Edge}{r:List Oper}:qw P ag a ({dst,op,type:=b,pos,after:=af,guard:=none}::r) K s=eg P ag {dst,op,type:=b,pos,after:=af,guard:=none} (qw P ag a r K) s ():=NK
theorem XG{a:Array Oper}{c j:Nat}{b:Bool}{pos:String}{K:St->Prop}{s:St}{dst:Option Tmp}{op:Op}{af:Array Edge}{r:List Oper}:qw P ag a ({dst,op,type:=c,pos,after:=af,guard:=some (j,b)}::r) K s=Ek P ag a {dst,op,type:=c,pos,after:=af,guard:=some (j,b)} r K b s (guardOf a j s.env):=Ms
section ops
variable{dst:Option Tmp}{ty:Nat}{pos:String}{af:Array Edge}{g:Option (Nat×Bool)}{env:Env}{heap:Heap}{K:aU->Prop}{L:St->Prop}
theorem aw2{x:ax}:dN P ag ⟨dst,.move x,ty,pos,af,g⟩ ⟨env,heap⟩ K ()=K {v:=ev env x}:=Qh
theorem Yd{x:ax}:dN P ag ⟨dst,.assign x,ty,pos,af,g⟩ ⟨env,heap⟩ K ()=K {v:=ev env x}:=MN
theorem axn{c a b:ax}:dN P ag ⟨dst,.pick c a b,ty,pos,af,g⟩ ⟨env,heap⟩ K ()=cJ K (rR (ev env c) (ev env a) (ev env b)):=Qf
theorem ZX{T:ay}:dN P ag ⟨dst,.alloc T,ty,pos,af,g⟩ ⟨env,heap⟩ K ()=cJ K (rE P T heap.length):=Ox
theorem awt{T:ay}{x:ax}:dN P ag ⟨dst,.box T x,ty,pos,af,g⟩ ⟨env,heap⟩ K ()=cJ K (uu P T heap.length (ev env x)):=Q2
theorem ZW{T:ay}{a:Array (Nat×ax)}:dN P ag ⟨dst,.build T a,ty,pos,af,g⟩ ⟨env,heap⟩ K ()=cJ K (rC P T (a.toList.map fun(i,x)=>(i,ev env x))):=Ow
theorem Vg{T:ay}{n:Nat}{a:Array (Nat×ax)}:dN P ag ⟨dst,.buildSlice T n a,ty,pos,af,g⟩ ⟨env,heap⟩ K ()=cJ K (qH P T n (a.toList.map fun(i,x)=>(i,ev env x)) heap.length):=JH
theorem awD{T:ay}{a:ax}:dN P ag ⟨dst,.load T a,ty,pos,af,g⟩ ⟨env,heap⟩ K ()=cJ K (pX P T heap (ev env a)):=PO
theorem ZR{T:ay}{a x:ax}:dN P ag ⟨dst,.store T a x,ty,pos,af,g⟩ ⟨env,heap⟩ K ()=cJ K (pN P T heap (ev env a) (ev env x)):=Oq
theorem avK{op:a6}{T a:ay}{x y:ax}:dN P ag ⟨dst,.binOp op T x y a,ty,pos,af,g⟩ ⟨env,heap⟩ K ()=cJ K (jR P op T (mI y) heap (ev env x) (ev env y)):=Q1
theorem axp{op:UnOp}{T:ay}{x:ax}:dN P ag ⟨dst,.unOp op T x,ty,pos,af,g⟩ ⟨env,heap⟩ K ()=cJ K (sK op (ev env x)):=Q7
theorem aww{S D:ay}{x:ax}:dN P ag ⟨dst,.convert S D x,ty,pos,af,g⟩ ⟨env,heap⟩ K ()=cJ K (rK P S D heap (ev env x)):=PR
theorem WD{t:ax}{i:Nat}:dN P ag ⟨dst,.extract t i,ty,pos,af,g⟩ ⟨env,heap⟩ K ()=cJ K (qS (ev env t) i):=LU
theorem V8{T:ay}{a:ax}{f:Nat}:dN P ag ⟨dst,.fieldAddr T a f,ty,pos,af,g⟩ ⟨env,heap⟩ K ()=cJ K (po P T (ev env a) f):=J6
theorem V7{T:ay}{x i:ax}:dN P ag ⟨dst,.indexAddr T x i,ty,pos,af,g⟩ ⟨env,heap⟩ K ()=cJ K (pn P T heap (ev env x) (ev env i)):=J5
theorem ZU{T:ay}{x i:ax}:dN P ag ⟨dst,.index T x i,ty,pos,af,g⟩ ⟨env,heap⟩ K ()=cJ K (rG P T (ev env x) (ev env i)):=Ov
theorem awC{x:ax}{a:Array ay}:dN P ag ⟨dst,.call {callee:=.builtin .len,args:=#[x],argTypes:=a},ty,pos,af,g⟩ ⟨env,heap⟩ K ()=cJ K (su P (a.getD 0 0) a.size heap (ev env x)):=Q3
theorem awu{f:ax}{args:List ax}{a:Array ay}:dN P ag ⟨dst,.call {callee:=.value f,args:=args.toArray,argTypes:=a},ty,pos,af,g⟩ ⟨env,heap⟩ K ()=Eo P heap K (ev env f) (args.map (ev env)):=PS
theorem aKW{x:ax}:eg P ag ⟨dst,.move x,ty,pos,af,g⟩ L ⟨env,heap⟩ ()=eO dst ⟨env,heap⟩ L {v:=ev env x}:=PB
theorem XP{x:ax}:eg P ag ⟨dst,.assign x,ty,pos,af,g⟩ L ⟨env,heap⟩ ()=eO dst ⟨env,heap⟩ L {v:=ev env x}:=L7
theorem aKY{c a b:ax}:eg P ag ⟨dst,.pick c a b,ty,pos,af,g⟩ L ⟨env,heap⟩ ()=cJ (eO dst ⟨env,heap⟩ L) (rR (ev env c) (ev env a) (ev env b)):=Pz
theorem ZD{T:ay}:eg P ag ⟨dst,.alloc T,ty,pos,af,g⟩ L ⟨env,heap⟩ ()=cJ (eO dst ⟨env,heap⟩ L) (rE P T heap.length):=N4
theorem aKO{T:ay}{x:ax}:eg P ag ⟨dst,.box T x,ty,pos,af,g⟩ L ⟨env,heap⟩ ()=cJ (eO dst ⟨env,heap⟩ L) (uu P T heap.length (ev env x)):=Sv
theorem ZC{T:ay}{a:Array (Nat×ax)}:eg P ag ⟨dst,.build T a,ty,pos,af,g⟩ L ⟨env,heap⟩ ()=cJ (eO dst ⟨env,heap⟩ L) (rC P T (a.toList.map fun(i,x)=>(i,ev env x))):=N3
theorem Vn{T:ay}{n:Nat}{a:Array (Nat×ax)}:eg P ag ⟨dst,.buildSlice T n a,ty,pos,af,g⟩ L ⟨env,heap⟩ ()=cJ (eO dst ⟨env,heap⟩ L) (qH P T n (a.toList.map fun(i,x)=>(i,ev env x)) heap.length):=JC
theorem aKT{T:ay}{a:ax}:eg P ag ⟨dst,.load T a,ty,pos,af,g⟩ L ⟨env,heap⟩ ()=cJ (eO dst ⟨env,heap⟩ L) (pX P T heap (ev env a)):=PC
theorem Zw{T:ay}{a x:ax}:eg P ag ⟨dst,.store T a x,ty,pos,af,g⟩ L ⟨env,heap⟩ ()=cJ (eO dst ⟨env,heap⟩ L) (pN P T heap (ev env a) (ev env x)):=Oi
theorem aKN{op:a6}{T a:ay}{x y:ax}:eg P ag ⟨dst,.binOp op T x y a,ty,pos,af,g⟩ L ⟨env,heap⟩ ()=cJ (eO dst ⟨env,heap⟩ L) (jR P op T (mI y) heap (ev env x) (ev env y)):=Su
theorem aKZ{op:UnOp}{T:ay}{x:ax}:eg P ag ⟨dst,.unOp op T x,ty,pos,af,g⟩ L ⟨env,heap⟩ ()=cJ (eO dst ⟨env,heap⟩ L) (sK op (ev env x)):=SA
theorem aKQ{S D:ay}{x:ax}:eg P ag ⟨dst,.convert S D x,ty,pos,af,g⟩ L ⟨env,heap⟩ ()=cJ (eO dst ⟨env,heap⟩ L) (rK P S D heap (ev env x)):=PE
theorem WN{t:ax}{i:Nat}:eg P ag ⟨dst,.extract t i,ty,pos,af,g⟩ L ⟨env,heap⟩ ()=cJ (eO dst ⟨env,heap⟩ L) (qS (ev env t) i):=K6
theorem Vw{T:ay}{a:ax}{f:Nat}:eg P ag ⟨dst,.fieldAddr T a f,ty,pos,af,g⟩ L ⟨env,heap⟩ ()=cJ (eO dst ⟨env,heap⟩ L) (po P T (ev env a) f):=JX
theorem VK{T:ay}{x i:ax}:eg P ag ⟨dst,.indexAddr T x i,ty,pos,af,g⟩ L ⟨env,heap⟩ ()=cJ (eO dst ⟨env,heap⟩ L) (pn P T heap (ev env x) (ev env i)):=JW
theorem Zz{T:ay}{x i:ax}:eg P ag ⟨dst,.index T x i,ty,pos,af,g⟩ L ⟨env,heap⟩ ()=cJ (eO dst ⟨env,heap⟩ L) (rG P T (ev env x) (ev env i)):=N2
theorem aKS{x:ax}{a:Array ay}:eg P ag ⟨dst,.call {callee:=.builtin .len,args:=#[x],argTypes:=a},ty,pos,af,g⟩ L ⟨env,heap⟩ ()=cJ (eO dst ⟨env,heap⟩ L) (su P (a.getD 0 0) a.size heap (ev env x)):=Sw
theorem aKP{f:ax}{args:List ax}{a:Array ay}:eg P ag ⟨dst,.call {callee:=.value f,args:=args.toArray,argTypes:=a},ty,pos,af,g⟩ L ⟨env,heap⟩ ()=Aw P heap (SD dst ⟨env,heap⟩ L) (ev env f) (args.map (ev env)):=PF
theorem ZS{T:ay}{x:ax}{lo hi:Option ax}:dN P ag ⟨dst,.slice T x lo hi none,ty,pos,af,g⟩ ⟨env,heap⟩ K ()=cJ K (pP P T heap (ev env x) (lo.map (ev env)) (hi.map (ev env))):=Ot
theorem Zx{T:ay}{x:ax}{lo hi:Option ax}:eg P ag ⟨dst,.slice T x lo hi none,ty,pos,af,g⟩ L ⟨env,heap⟩ ()=cJ (eO dst ⟨env,heap⟩ L) (pP P T heap (ev env x) (lo.map (ev env)) (hi.map (ev env))):=NZ
theorem Yb{T:ay}{x i:ax}{ok:Bool}:dN P ag ⟨dst,.lookup T x i ok,ty,pos,af,g⟩ ⟨env,heap⟩ K ()=cJ K (rO P T heap (ev env x) (ev env i) ok):=ML
theorem XN{T:ay}{x i:ax}{ok:Bool}:eg P ag ⟨dst,.lookup T x i ok,ty,pos,af,g⟩ L ⟨env,heap⟩ ()=cJ (eO dst ⟨env,heap⟩ L) (rO P T heap (ev env x) (ev env i) ok):=L5
theorem V5{T:ay}{m k x:ax}:dN P ag ⟨dst,.mapUpdate T m k x,ty,pos,af,g⟩ ⟨env,heap⟩ K ()=cJ K (mH P T heap (ev env m) (ev env k) (ev env x)):=Kj
theorem VI{T:ay}{m k x:ax}:eg P ag ⟨dst,.mapUpdate T m k x,ty,pos,af,g⟩ L ⟨env,heap⟩ ()=cJ (eO dst ⟨env,heap⟩ L) (mH P T heap (ev env m) (ev env k) (ev env x)):=JU
theorem Yc{T:ay}{m k x:ax}:dN P ag ⟨dst,.insert T m k x,ty,pos,af,g⟩ ⟨env,heap⟩ K ()=cJ K (mH P T heap (ev env m) (ev env k) (ev env x)):=MM
theorem XO{T:ay}{m k x:ax}:eg P ag ⟨dst,.insert T m k x,ty,pos,af,g⟩ L ⟨env,heap⟩ ()=cJ (eO dst ⟨env,heap⟩ L) (mH P T heap (ev env m) (ev env k) (ev env x)):=L6
theorem ZT{T:ay}{x:ax}:dN P ag ⟨dst,.range T x,ty,pos,af,g⟩ ⟨env,heap⟩ K ()=cJ K (ry P T heap.length (ev env x)):=Ou
theorem Zy{T:ay}{x:ax}:eg P ag ⟨dst,.range T x,ty,pos,af,g⟩ L ⟨env,heap⟩ ()=cJ (eO dst ⟨env,heap⟩ L) (ry P T heap.length (ev env x)):=N1
theorem axk{it:ax}:dN P ag ⟨dst,.next it true,ty,pos,af,g⟩ ⟨env,heap⟩ K ()=cJ K (rW heap (ev env it)):=Qg
theorem aKX{it:ax}:eg P ag ⟨dst,.next it true,ty,pos,af,g⟩ L ⟨env,heap⟩ ()=cJ (eO dst ⟨env,heap⟩ L) (rW heap (ev env it)):=PA
theorem V6{T:ay}{l c:ax}:dN P ag ⟨dst,.makeSlice T l c,ty,pos,af,g⟩ ⟨env,heap⟩ K ()=cJ K (rY P T heap.length (ev env l) (ev env c)):=Kk
theorem VJ{T:ay}{l c:ax}:eg P ag ⟨dst,.makeSlice T l c,ty,pos,af,g⟩ L ⟨env,heap⟩ ()=cJ (eO dst ⟨env,heap⟩ L) (rY P T heap.length (ev env l) (ev env c)):=JV
theorem Wb{x:ax}:dN P ag ⟨dst,.nilCheck x,ty,pos,af,g⟩ ⟨env,heap⟩ K ()=cJ K (rj (ev env x)):=Kn
theorem Wt{x:ax}:eg P ag ⟨dst,.nilCheck x,ty,pos,af,g⟩ L ⟨env,heap⟩ ()=cJ (eO dst ⟨env,heap⟩ L) (rj (ev env x)):=KJ
theorem aw0{args:Array ax}{a:Array ay}:dN P ag ⟨dst,.call {callee:=.builtin .min,args,argTypes:=a},ty,pos,af,g⟩ ⟨env,heap⟩ K ()=cJ K (ly false (args.toList.map (ev env))):=Q6
theorem aKV{args:Array ax}{a:Array ay}:eg P ag ⟨dst,.call {callee:=.builtin .min,args,argTypes:=a},ty,pos,af,g⟩ L ⟨env,heap⟩ ()=cJ (eO dst ⟨env,heap⟩ L) (ly false (args.toList.map (ev env))):=Sy
theorem awE{args:Array ax}{a:Array ay}:dN P ag ⟨dst,.call {callee:=.builtin .max,args,argTypes:=a},ty,pos,af,g⟩ ⟨env,heap⟩ K ()=cJ K (ly true (args.toList.map (ev env))):=Q5
theorem aKU{args:Array ax}{a:Array ay}:eg P ag ⟨dst,.call {callee:=.builtin .max,args,argTypes:=a},ty,pos,af,g⟩ L ⟨env,heap⟩ ()=cJ (eO dst ⟨env,heap⟩ L) (ly true (args.toList.map (ev env))):=Sx
theorem WC{T:ay}:dN P ag ⟨dst,.makeMap T none,ty,pos,af,g⟩ ⟨env,heap⟩ K ()=K {v:=.map heap.length,aS:=[.map false []]}:=LS
theorem WM{T:ay}:eg P ag ⟨dst,.makeMap T none,ty,pos,af,g⟩ L ⟨env,heap⟩ ()=eO dst ⟨env,heap⟩ L {v:=.map heap.length,aS:=[.map false []]}:=LF
theorem Ye{s x:ax}{T X:ay}:dN P ag ⟨dst,.call {callee:=.builtin .append,args:=#[s,x],argTypes:=#[T,X]},ty,pos,af,g⟩ ⟨env,heap⟩ K ()=cJ K (pM P T X heap (ev env s) (ev env x)):=MO
theorem XQ{s x:ax}{T X:ay}:eg P ag ⟨dst,.call {callee:=.builtin .append,args:=#[s,x],argTypes:=#[T,X]},ty,pos,af,g⟩ L ⟨env,heap⟩ ()=cJ (eO dst ⟨env,heap⟩ L) (pM P T X heap (ev env s) (ev env x)):=L8
theorem awy{s x:ax}{T X:ay}:dN P ag ⟨dst,.call {callee:=.builtin .copy,args:=#[s,x],argTypes:=#[T,X]},ty,pos,af,g⟩ ⟨env,heap⟩ K ()=cJ K (copyV P T heap (ev env s) (ev env x)):=PQ
theorem aKR{s x:ax}{T X:ay}:eg P ag ⟨dst,.call {callee:=.builtin .copy,args:=#[s,x],argTypes:=#[T,X]},ty,pos,af,g⟩ L ⟨env,heap⟩ ()=cJ (eO dst ⟨env,heap⟩ L) (copyV P T heap (ev env s) (ev env x)):=PD
theorem asf{f:aT}{fi ca:List AV}{args:List AV}{M:AV->Heap->Prop}:Aw P heap M (.func f fi ca) args=ld P false f M (fi++args++ca) heap:=QY
theorem as0{f:aT}{fi ca:List AV}{args:List AV}:Eo P heap K (.func f fi ca) args=nm P f K (fi++args++ca) heap:=PT
theorem asT{f:aT}{fi ca:List PV}{args:List AV}{M:AV->Heap->Prop}:Aw P heap M (.p (.func f fi ca)) args=ld P false f M (fi.map .p++args++ca.map .p) heap:=QZ
theorem ati{f:aT}{fi ca:List PV}{args:List AV}:Eo P heap K (.p (.func f fi ca)) args=nm P f K (fi.map .p++args++ca.map .p) heap:=Q0
end ops
section guards
variable{ops:Array Oper}{o:Oper}{r:List Oper}{K:St->Prop}{want t:Bool}{s:St}{i:Nat}{acc:List Touch}
theorem VX:Ek P ag ops o r K want s (.p (.bool t))=if t=want then eg P ag o (qw P ag ops r K) s ()else qw P ag ops r K ⟨put o.dst (.p (.aE [])) s.env,s.heap⟩:=Kd
theorem Wr:Ek P ag ops o r K want s (.p (.aE []))=qw P ag ops r K ⟨put o.dst (.p (.aE [])) s.env,s.heap⟩:=KQ
theorem Vr:DC P ag ops o r i acc K want s (.p (.bool t))=if t=want then dN P ag o s (Ef P ag ops r i acc K o.dst s) ()else rS P ag ops r (i+1) acc K ⟨put o.dst (.p (.aE [])) s.env,s.heap⟩:=JF
theorem VW:DC P ag ops o r i acc K want s (.p (.aE []))=rS P ag ops r (i+1) acc K ⟨put o.dst (.p (.aE [])) s.env,s.heap⟩:=Kc
end guards
theorem Vk{id:Nat}{Q:bw->St->Prop}{s:St}:rD id Q .normal s=Q .normal s:=(rfl)
theorem Wz{id i:Nat}{Q:bw->St->Prop}{s:St}:rD id Q (.exit i) s=if i=id then Q .normal s else Q (.exit i) s:=(rfl)
theorem XA{id:Nat}{Q:bw->St->Prop}{s:St}:rD id Q .ret s=Q .ret s:=(rfl)
section makeFunc
variable{dst:Option Tmp}{ty:Nat}{pos:String}{af:Array Edge}{g:Option (Nat×Bool)}{env:Env}{heap:Heap}{L:St->Prop}{K:aU->Prop}{f:aT}{fi ca:Array ax}
theorem Wu(hf:ag f=false):eg P ag ⟨dst,.makeFunc (.func f) fi ca,ty,pos,af,g⟩ L ⟨env,heap⟩ ()=cJ (eO dst ⟨env,heap⟩ L) (rM f (fi.toList.map (ev env)) (ca.toList.map (ev env))):=KK hf
theorem Wc(hf:ag f=false):dN P ag ⟨dst,.makeFunc (.func f) fi ca,ty,pos,af,g⟩ ⟨env,heap⟩ K ()=cJ K (rM f (fi.toList.map (ev env)) (ca.toList.map (ev env))):=Ko hf
end makeFunc
theorem Xn{p:Prop}{e:aU}{K:aU->Prop}:cJ K (some (p,e))=(p/\K e):=(rfl)
theorem Xo{K:aU->Prop}:cJ K none=False:=(rfl)
theorem W6{a:Array Oper}:zM a []=true:=(rfl)
theorem VU{a:Array Oper}{t:Touch}{r:List Touch}:zM a (t::r)=(r.all (fun u=>!jO u t||aLx a u.i t.i)&&zM a r):=(rfl)
theorem Us{a:List a1}{v:PV}{s:St}:sj P a v .ret s=∃vs,fS P s a=some vs/\gP s.heap 9 (oneOf vs) v:=by simp[sj]
theorem V1{a:List a1}{v:PV}{s:St}:sj P a v .normal s=∃vs,fS P s a=some vs/\gP s.heap 9 (oneOf vs) v:=by simp[sj]
section pur
variable{H:Heap}
theorem FP{n:Nat}{a v:PV}:gP H n (.p a) v=Wk a v:=by cases n<;>rfl
theorem O5{n b aq z off len:Nat}{fs:List PV}:gP H (n+1) (.sl b aq z off len) (.seq fs)=match H[b]? with
  |some (.arr _ a c es)=>aq=a/\z=c/\off+len<=es.length/\lK H n ((es.drop off).take len) fs
  |_=>False:=(rfl)
theorem aLq{n:Nat}{u u':ay}{a:List AV}{vs:List PV}:gP H (n+1) (.st u a) (.st u' vs)=(u=u'/\lK H n a vs):=(rfl)
theorem aLr{n:Nat}{a:List AV}{vs:List PV}:gP H (n+1) (.aE a) (.aE vs)=lK H n a vs:=(rfl)
theorem Oh{n b:Nat}{a:List (PV×PV)}:gP H (n+1) (.map b) (.fq a)=match H[b]? with
  |some (.map _ c)=>c=a
  |_=>False:=(rfl)
theorem aLp{n:Nat}{f a:aT}{c d:List AV}{vs b:List PV}:gP H (n+1) (.func f c d) (.func a vs b)=(f=a/\lK H n c vs/\lK H n d b):=(rfl)
theorem yU{n:Nat}{vs:List PV}:lK H n [] vs=(vs=[]):=(rfl)
theorem CE{n:Nat}{x:AV}{a:List AV}{v:PV}{vs:List PV}:lK H n (x::a) (v::vs)=(gP H n x v/\lK H n a vs):=(rfl)
theorem zI{α:Type}{n:Nat}{g:α->AV}{f:α->PV}:∀{l:List α},lK H n (l.map g) (l.map f)=∀x∈l,gP H n (g x) (f x)
 |[]=>by simp[yU]
 |a::l=>by simp[CE,zI (l:=l)]
theorem ri(n:Nat)(c:∀(x:AV)(v:PV),gP H n x v->∃v',eD H n x=some v'/\Wk v' v):∀(b:List AV)(vs:List PV),lK H n b vs->∃a,jE (eD H n) b=some a/\bB a vs
 |[],vs,h=>by rw[yU]at h;subst h;exact⟨[],rfl,by simp[bB]⟩
 |x::b,vs,h=>by
  cases vs with
  |nil=>exact h.elim
  |cons v vs=>
   rw[CE]at h;obtain⟨p,d,e⟩:=c x v h.1;obtain⟨a,f,g⟩:=ri n c b vs h.2;exact⟨p::a,by simp[jE,d,f],by simp only[bB];exact⟨e,g⟩⟩
theorem pU:∀(n:Nat)(x:AV)(v:PV),gP H n x v->∃v',eD H n x=some v'/\Wk v' v
 |0,x,v,h=>by
  cases x with
  |p a=>exact⟨_,rfl,h⟩
  |_=>exact h.elim
 |n+1,x,v,h=>by
  cases x with
  |p a=>rw[FP]at h;exact⟨_,rfl,h⟩
  |sl b aq z off len=>
   cases v with
   |seq fs=>
    rw[O5]at h
    split at h
    case h_2=>exact h.elim
    rename_i k C E j e;obtain⟨rfl,rfl,m,g⟩:=h;obtain⟨i,c,d⟩:=ri n (pU n) _ _ g;simp only[eD,e,m,and_self,if_true]
    split
    ·rename_i r;rw[r.2]at g;simp only[List.drop_nil,List.take_nil,yU]at g;exact⟨_,rfl,by rw[g];simp[Wk]⟩
    ·rw[c];exact⟨_,rfl,by simp only[Wk];exact d⟩
   |_=>exact h.elim
  |st u xs=>
   cases v with
   |st u' vs=>
    obtain⟨rfl,h⟩:=h;obtain⟨i,c,d⟩:=ri n (pU n) _ _ h;simp only[eD,c];exact⟨_,rfl,by simp only[Wk];exact⟨trivial,d⟩⟩
   |_=>exact h.elim
  |aE xs=>
   cases v with
   |aE vs=>
    obtain⟨i,c,d⟩:=ri n (pU n) _ _ h;simp only[eD,c];exact⟨_,rfl,by simp only[Wk];exact d⟩
   |_=>exact h.elim
  |ptr b path=>
   cases v with
   |cA t=>
    change (match H[b]? with
     |some (.box _ y)=>match fc y path with
      |some s=>gP H n s t
      |none=>False
     |_=>False)at h
    split at h
    case h_2=>exact h.elim
    rename_i e
    split at h
    case h_2=>exact h.elim
    rename_i s hs;obtain⟨p,c,d⟩:=pU n _ _ h;simp only[eD,e,hs,c];exact⟨_,rfl,by simp only[Wk];exact d⟩
   |_=>exact h.elim
  |b8 _ _ _ _ _=>exact h.elim
  |map b=>
   cases v with
   |fq j=>
    rw[Oh]at h
    split at h
    case h_2=>exact h.elim
    rename_i fz w e;subst h;simp only[eD,e];exact⟨_,rfl,Wk.refl _⟩
   |_=>exact h.elim
  |func f xs D=>
   cases v with
   |func A vs us=>
    obtain⟨rfl,h,l⟩:=h;obtain⟨i,c,d⟩:=ri n (pU n) _ _ h;obtain⟨B,o,q⟩:=ri n (pU n) _ _ l;simp only[eD,c,o];exact⟨_,rfl,by simp only[Wk];exact⟨trivial,d,q⟩⟩
   |_=>exact h.elim
end pur
theorem YU{f:aT}{fn:Func}(ag:aT->Bool)(h:an P f fn)(n:P.follows .mixedOrders=true){args:List PV}{v:PV}(o:args.length<=fn.ntmps)
 (d:fh P ag (fn.ntmps,0) (fn.body.getD .skip) (sj P fn.results.toList v) ⟨jg 0 (args.map .p),[]⟩):se P f args v:=by
 have hs:=h.stat;simp only[ap,bne_iff_ne]at hs;have k:fn.body=some (fn.body.getD .skip):=by
  have a:=hs.1.1;clear d hs;cases l:fn.body with
  |none=>rw[l]at a;simp at a
  |some c=>rfl
 obtain⟨e,s,⟨a,vs,g,b⟩,j⟩:=nY _ _ _ (l9 (Q':=sj P fn.results.toList v) _ (fun _ _ h=>h) d);obtain⟨v',b,i⟩:=pU _ _ _ b;have m:se P f args v':=ME (pf ag) (yD (pf ag) n) h.enters h.func k hs.2 o (j (Ends P fn.results.toList v') ⟨by cases e<;>exact a,vs,g,b⟩);exact m.df (bB.refl _) i
theorem aM{f:aT}{fn:Func}(ag:aT->Bool)(h:an P f fn)(a:P.follows .mixedOrders=true){args:List PV}{v:PV}(b:args.length<=fn.ntmps)
 (c:fh P ag (fn.ntmps,0) (fn.body.getD .skip) (sj P fn.results.toList v) ⟨jg 0 (args.map .p),[]⟩):aA P f args v:=.inl (YU ag h a b c)
theorem FR{α:Type}{N:Nat×Nat->Prop}{f:α->PV}{l:List α}:aR N (l.map fun x=>.p (f x))=True:=by
 rw[cO,eq_iff_iff,iff_true];intro v a;simp only[bo]at a;obtain⟨x,_,rfl⟩:=a;trivial
theorem aLG{α:Type}{N:Nat×Nat->Prop}{f:α->PV}{l:List α}{i:Nat}:aR N ((l.map fun x=>.p (f x)).take i)=True:=by
 rw[cO,eq_iff_iff,iff_true];intro v a;have a:=List.mem_of_mem_take a;simp only[bo]at a;obtain⟨x,_,rfl⟩:=a;trivial
theorem XZ{N:Nat×Nat->Prop}{a b:List AV}:aR N (a++b)=(aR N a/\aR N b):=by
 simp only[cO,cN,eq_iff_iff];exact⟨fun h=>⟨fun v c=>h v (.inl c),fun v c=>h v (.inr c)⟩,fun h v c=>c.elim (h.1 v) (h.2 v)⟩
theorem U5{α:Type}{l:List α}{i:Nat}:(l.take i).take i=l.take i:=by simp[List.take_take]
theorem U4{α β:Type}{f:α->β}{l:List α}:(l.map f).take l.length=l.map f:=List.take_of_length_le s_
section loops
variable{α:Type}(N:Nat)(mk:α->St)(ok:α->Prop)(m:α->Nat)(n:Nat)(Q:bw->St->Prop)
def F3(s:Tg (N,mk,ok,m,n) St):Prop:=uV N mk ok m n s
def Af(e:Tg (N,mk,ok,m,n,Q) bw)(s:Tg (N,mk,ok,m,n,Q) St):Prop:=rN N mk ok m n Q e s
variable{N}{mk}{ok}{m}{n}{Q}{s s':St}
theorem VC:Af N mk ok m n Q .normal s=F3 N mk ok m n s:=(rfl)
theorem WV{id:Nat}:Af N mk ok m n Q (.exit id) s=Q (.exit id) s:=(rfl)
theorem XL:Af N mk ok m n Q .ret s=Q .ret s:=(rfl)
theorem lp{d:Nat}{b:Code}(mk:α->St)(ok:α->Prop)(m:α->Nat)(c:α)(e:ok c)(iu:∀a,ok a->fh P ag (d,N) b (Af N mk ok m (m a) Q) (mk a))
 (hn:(mk c).heap.take N=s.heap.take N:=by simp)(he:mn (mk c).heap s.env (mk c).env:=by simp)(hh:jz (mk c).heap s.heap (mk c).heap:=by simp)(hr:jj (mk c).heap (mk c).env:=by simp)(hr2:eM (mk c).heap (mk c).heap:=by simp):
 fh P ag (d,N) (.loop b) Q s:=wl (q:=(d,N)) mk ok m c e iu hn he hh hr hr2
theorem rd(a':α)(a:ok a')(h1:m a'<n:=by omega)(hn:(mk a').heap.take N=s.heap.take N:=by simp)(he:mn (mk a').heap s.env (mk a').env:=by simp)(hh:jz (mk a').heap s.heap (mk a').heap:=by simp)(hr:jj (mk a').heap (mk a').env:=by simp)(hr2:eM (mk a').heap (mk a').heap:=by simp):
 F3 N mk ok m n s:=rnd a' a h1 hn he hh hr hr2
end loops
section calls
variable{f:aT}{H H1:Heap}{K:AV->Heap->Prop}{L:aU->Prop}{v a b c d e a' b' c' d' e':PV}
theorem c0(h:aA P f [] v)(hk:K (.p v) H):ld P false f K [] H:=cw0 h hk
theorem c1(h:aA P f [a'] v)(hk:K (.p v) H)(h1:Wk a a':=by first|exact Wk.refl _|simp):ld P false f K [.p a] H:=cw1 h hk h1
theorem c2(h:aA P f [a',b'] v)(hk:K (.p v) H)(h1:Wk a a':=by first|exact Wk.refl _|simp)(h2:Wk b b':=by first|exact Wk.refl _|simp):ld P false f K [.p a,.p b] H:=cw2 h hk h1 h2
theorem c3(h:aA P f [a',b',c'] v)(hk:K (.p v) H)(h1:Wk a a':=by first|exact Wk.refl _|simp)(d:Wk b b':=by first|exact Wk.refl _|simp)(e:Wk c c':=by first|exact Wk.refl _|simp):ld P false f K [.p a,.p b,.p c] H:=cw3 h hk h1 d e
theorem c4(h:aA P f [a',b',c',d'] v)(hk:K (.p v) H)(e:Wk a a':=by first|exact Wk.refl _|simp)(g:Wk b b':=by first|exact Wk.refl _|simp)(i:Wk c c':=by first|exact Wk.refl _|simp)(j:Wk d d':=by first|exact Wk.refl _|simp):ld P false f K [.p a,.p b,.p c,.p d] H:=cw4 h hk e g i j
theorem c5(h:aA P f [a',b',c',d',e'] v)(hk:K (.p v) H)(g:Wk a a':=by first|exact Wk.refl _|simp)(i:Wk b b':=by first|exact Wk.refl _|simp)(j:Wk c c':=by first|exact Wk.refl _|simp)(k:Wk d d':=by first|exact Wk.refl _|simp)(l:Wk e e':=by first|exact Wk.refl _|simp):ld P false f K [.p a,.p b,.p c,.p d,.p e] H:=cw5 h hk g i j k l
theorem e0(h:aA P f [] v)(hk:L {v:=.p v}):nm P f L [] H:=ce0 h hk
theorem e1(h:aA P f [a'] v)(hk:L {v:=.p v})(h1:Wk a a':=by first|exact Wk.refl _|simp):nm P f L [.p a] H:=ce1 h hk h1
theorem e2(h:aA P f [a',b'] v)(hk:L {v:=.p v})(h1:Wk a a':=by first|exact Wk.refl _|simp)(h2:Wk b b':=by first|exact Wk.refl _|simp):nm P f L [.p a,.p b] H:=ce2 h hk h1 h2
theorem e3(h:aA P f [a',b',c'] v)(hk:L {v:=.p v})(h1:Wk a a':=by first|exact Wk.refl _|simp)(d:Wk b b':=by first|exact Wk.refl _|simp)(e:Wk c c':=by first|exact Wk.refl _|simp):nm P f L [.p a,.p b,.p c] H:=ce3 h hk h1 d e
theorem e4(h:aA P f [a',b',c',d'] v)(hk:L {v:=.p v})(e:Wk a a':=by first|exact Wk.refl _|simp)(g:Wk b b':=by first|exact Wk.refl _|simp)(i:Wk c c':=by first|exact Wk.refl _|simp)(j:Wk d d':=by first|exact Wk.refl _|simp):nm P f L [.p a,.p b,.p c,.p d] H:=ce4 h hk e g i j
theorem e5(h:aA P f [a',b',c',d',e'] v)(hk:L {v:=.p v})(g:Wk a a':=by first|exact Wk.refl _|simp)(i:Wk b b':=by first|exact Wk.refl _|simp)(j:Wk c c':=by first|exact Wk.refl _|simp)(k:Wk d d':=by first|exact Wk.refl _|simp)(l:Wk e e':=by first|exact Wk.refl _|simp):nm P f L [.p a,.p b,.p c,.p d,.p e] H:=ce5 h hk g i j k l
theorem cp{args:List AV}{vs a:List PV}(h:aA P f a v)(b:nJ H args=some (vs,H1))(hk:K (.p v) H1)(h1:bB vs a:=by first|exact bB.refl _|simp):ld P false f K args H:=cwp h b hk h1
theorem ep{args:List AV}{vs a:List PV}{bs:List Nat}{ak aG:List (Nat×Obj)}(h:aA P f a v)(b:oL H args=some (vs,bs))(hf:lS H bs=some (ak,aG))(hk:L {v:=.p v,ak,aG})(h1:bB vs a:=by first|exact bB.refl _|simp):nm P f L args H:=cep h b hf hk h1
theorem ci{args:List AV}{H':Heap}{v:AV}(h:bW P f H args H' v)(hk:K v H'):ld P false f K args H:=.inr ⟨rfl,.inr (.inl ⟨H',v,h,hk⟩)⟩
end calls
attribute [simp] FR aLG XZ U5 FP O5 aLq aLr Oh aLp yU CE zI U4 aR Vk Wz XA VX Wr Vr VW Wu Wc Xn Xo W6 VU Us V1 VC WV XL nJ lE oL mL lS mE
 aMK YC aMI aMJ Yz aMH YA bu Mu aMG VG Xf Xl Wd X4 ZM Zt aMM Yy XH aMV Yx XG aw2 Yd axn ZX awt ZW Vg awD ZR avK axp aww WD V8 V7 ZU awC awu aKW XP aKY ZD aKO ZC Vn aKT Zw aKN aKZ aKQ WN Vw VK Zz aKS aKP ZS Zx Yb XN V5 VI Yc XO ZT Zy axk aKX V6 VJ Wb Wt aw0 aKV awE aKU WC WM Ye XQ awy aKR asf as0 asT ati
end
section
variable{P:a0}{ag:aT->Bool}{q:Cx}
theorem Ls{r:eE}{K a:aU->Prop}(hk:∀e,K e->a e)(h:bf r K):bf r a:=by
 unfold bf at h⊢
 split at h
 ·exact⟨h.1,hk _ h.2⟩
 ·exact h.elim
theorem WT{o:Oper}{e:Env}{H:Heap}{K a:aU->Prop}(hk:∀e,K e->a e)(h:fC P ag o (ev e) H K):fC P ag o (ev e) H a:=by
 obtain⟨x,b,c⟩:=Dq (ag:=ag) o (ev e) H K h;exact c a (hk x b)
theorem MV{o:Oper}{e:Env}{H:Heap}{K a:aU->Prop}(hk:∀e,K e->a e)(h:lB P ag o e H K):lB P ag o e H a:=by
 unfold lB at h⊢
 repeat' split at h
 all_goals first|exact hk _ h|exact Ls hk h|exact⟨h.1,Ls hk h.2⟩|exact WT hk h|exact h.elim
theorem J8{d:Bool}{f:aT}{args:List AV}{H:Heap}{K i:AV->Heap->Prop}(hk:∀v H,K v H->i v H)(h:ij P d f args H K):ij P d f args H i:=by
 rcases h with⟨vs,v,a,b,c⟩|⟨g,⟨vs,H1,v,a,b,c⟩|⟨H',v,a,b⟩|⟨e,a,b,c⟩|⟨ak,v,a,b,c⟩⟩
 ·exact .inl ⟨vs,v,a,b,hk _ _ c⟩
 ·exact .inr ⟨g,.inl ⟨vs,H1,v,a,b,hk _ _ c⟩⟩
 ·exact .inr ⟨g,.inr (.inl ⟨H',v,a,hk _ _ b⟩)⟩
 ·exact .inr ⟨g,.inr (.inr (.inl ⟨e,a,b,hk _ _ c⟩))⟩
 ·exact .inr ⟨g,.inr (.inr (.inr ⟨ak,v,a,b,hk _ _ c⟩))⟩
theorem Ku{f:aT}{args:List AV}{H:Heap}{K d:aU->Prop}(hk:∀e,K e->d e)(h:iw P f args H K):iw P f args H d:=by
 rcases h with⟨vs,v,a,b,c⟩|⟨vs,bs,ak,aG,v,a,b,c,g⟩|⟨e,a,b,c⟩|⟨ak,v,a,b,c⟩
 ·exact .inl ⟨vs,v,a,b,hk _ c⟩
 ·exact .inr (.inl ⟨vs,bs,ak,aG,v,a,b,c,hk _ g⟩)
 ·exact .inr (.inr (.inl ⟨e,a,b,hk _ c⟩))
 ·exact .inr (.inr (.inr ⟨ak,v,a,b,hk _ c⟩))
theorem JS{o:Oper}{K b:St->Prop}{s:St}(hk:∀s,K s->b s)(h:dA P ag o K s):dA P ag o b s:=by
 unfold dA at h⊢
 split at h
 ·rename_i f args g i;unfold rL at h⊢
  split at h
  ·exact J8 (fun v H a=>hk _ a) h
  ·exact J8 (fun v H a=>hk _ a) h
  ·obtain⟨H',v,c,d⟩:=h;exact⟨H',v,c,hk _ d⟩
  ·exact h.elim
 ·exact MV (fun e a=>hk _ a) h
theorem Kf{o:Oper}{s:St}{K a:aU->Prop}(hk:∀e,K e->a e)(h:dB P ag o s K):dB P ag o s a:=by
 unfold dB at h⊢
 split at h
 ·rename_i f args g i;unfold rB at h⊢
  split at h
  ·exact Ku hk h
  ·exact Ku hk h
  ·obtain⟨e,b,c,d⟩:=h;exact⟨e,b,c,hk _ d⟩
  ·exact h.elim
 ·exact MV hk h
theorem vE{c:Array Oper}:∀(l:List Oper){K a:St->Prop}{s:St},(∀s,K s->a s)->gz P ag c l K s->gz P ag c l a s
 |[],K,a,s,hk,h=>hk s h
 |o::l,K,a,s,hk,h=>by
  simp only[gz]at h⊢
  split at h
  ·exact JS (fun s hs=>vE l hk hs) h
  ·split at h
   ·split at h
    ·rename_i b;rw[if_pos b];exact JS (fun s hs=>vE l hk hs) h
    ·rename_i b;rw[if_neg b];exact vE l hk h
   ·exact vE l hk h
   ·exact h.elim
theorem vB{d:Array Oper}:∀(l:List Oper){i:Nat}{b:List Touch}{K a:St->Prop}{s:St},(∀s,K s->a s)->gJ P ag d l i b K s->gJ P ag d l i b a s
 |[],i,b,K,a,s,hk,h=>⟨h.1,hk s h.2⟩
 |o::l,i,b,K,a,s,hk,h=>by
  simp only[gJ]at h⊢
  split at h
  ·exact Kf (fun e hs=>vB l hk hs) h
  ·split at h
   ·split at h
    ·rename_i c;rw[if_pos c];exact Kf (fun e hs=>vB l hk hs) h
    ·rename_i c;rw[if_neg c];exact vB l hk h
   ·exact vB l hk h
   ·exact h.elim
theorem nX:∀(c:Code){Q g:bw->St->Prop}{s:St},(∀e s,Q e s->g e s)->dw P ag q c Q s->dw P ag q c g s
 | .skip,Q,g,s,hq,h=>hq _ _ h
 | .label _,Q,g,s,hq,h=>hq _ _ h
 | .exit _,Q,g,s,hq,h=>hq _ _ h
 | .ret,Q,g,s,hq,h=>hq _ _ h
 | .region _ ops draw,Q,g,s,hq,h=>by
  simp only[dw]at h⊢
  split at h
  ·rename_i j;rw[if_pos j];exact vB _ (fun s hs=>hq _ _ hs) h
  ·rename_i j;rw[if_neg j];exact vE _ (fun s hs=>hq _ _ hs) h
 | .seq a b,Q,g,s,hq,h=>by
  simp only[dw]at h⊢;refine nX a (fun e s d=>?_) h;cases e with
  |normal=>exact nX b hq d
  |exit i=>exact hq _ _ d
  |ret=>exact hq _ _ d
 | .cond c a b,Q,g,s,hq,h=>by
  simp only[dw]at h⊢;unfold uf at h⊢
  split at h
  ·split at h
   ·rename_i k;rw[if_pos k];exact nX a hq h
   ·rename_i k;rw[if_neg k];exact nX b hq h
  ·exact h.elim
 | .block id b,Q,g,s,hq,h=>by
  simp only[dw]at h⊢;refine nX b (fun e s d=>?_) h;cases e with
  |normal=>exact hq _ _ d
  |exit i=>
   simp only[oI]at d⊢
   by_cases hi:i=id
   ·simp only[hi,if_true]at d⊢;exact hq _ _ d
   ·simp only[hi,if_false]at d⊢;exact hq _ _ d
  |ret=>exact hq _ _ d
 | .scope b,Q,g,s,hq,h=>nX b hq h
 | .loop b,Q,g,s,hq,h=>by
  simp only[dw]at h⊢;obtain⟨I,l,m⟩:=h;refine⟨I,l,fun n t hI=>nX b (fun e s d=>?_) (m n t hI)⟩;cases e with
  |normal=>exact d
  |exit id=>exact hq _ _ d
  |ret=>exact hq _ _ d
 | .rangeFunc f o a b,Q,g,s,hq,h=>by
  simp only[dw]at h⊢;exact⟨h.1,K3 (fun H=>K7 hq) h.2⟩
 | .goto _,_,_,_,_,h=>h.elim
 | .refuse _,_,_,_,_,h=>h.elim
def rP(R:St->Prop)(Q:bw->St->Prop)(e:Tg (R,Q) bw)(s:Tg (R,Q) St):Prop:=match e with
 | .normal=>R s
 |e=>Q e s
theorem Vu{R:St->Prop}{Q:bw->St->Prop}{s:St}:rP R Q .normal s=R s:=(rfl)
theorem WZ{R:St->Prop}{Q:bw->St->Prop}{id:Nat}{s:St}:rP R Q (.exit id) s=Q (.exit id) s:=(rfl)
theorem Yi{R:St->Prop}{Q:bw->St->Prop}{s:St}:rP R Q .ret s=Q .ret s:=(rfl)
theorem join{a b:Code}{Q:bw->St->Prop}{s:St}(R:St->Prop)(d:fh P ag q a (rP R Q) s)(f:∀s',R s'->fh P ag q b Q s'):fh P ag q (.seq a b) Q s:=by
 rw[bu];refine nX a (fun e s c=>?_) d;cases e with
 |normal=>exact f s c
 |exit i=>exact c
 |ret=>exact c
theorem SL{α:Type}{N:Nat×Nat->Prop}{f:α->PV}{l:List α}:aR N (l.map (AV.p∘f))=True:=FR
attribute [simp] Vu WZ Yi SL
end
section
variable{P:a0}{ag:aT->Bool}
def wP(P:a0)(a:List a1)(N:Nat)(H':Heap)(v:AV)(e:Tg (a,N,H',v) bw)(s:Tg (a,N,H',v) St):Prop:=um P a N H' v e s
theorem W3{a:List a1}{N:Nat}{H':Heap}{v:AV}{s:St}:wP P a N H' v .ret s=∃vs,fS P s a=some vs/\oneOf vs=v/\(H'=s.heap\/(bE N s ⟨[],H'⟩/\aC (aH H') v)):=by simp[wP,um]
theorem Vf{a:List a1}{N:Nat}{H':Heap}{v:AV}{s:St}:wP P a N H' v .normal s=∃vs,fS P s a=some vs/\oneOf vs=v/\(H'=s.heap\/(bE N s ⟨[],H'⟩/\aC (aH H') v)):=by simp[wP,um]
theorem dU{f:aT}{fn:Func}(ag:aT->Bool)(h:an P f fn)(a:P.follows .mixedOrders=true){args:List AV}{H H':Heap}{v:AV}(b:args.length<=fn.ntmps)
 (c:fh P ag (fn.ntmps,H.length) (fn.body.getD .skip) (wP P fn.results.toList H.length H' v) ⟨jg 0 args,H⟩):bW P f H args H' v:=
 Ro ag h a b (l9 (Q':=um P fn.results.toList H.length H' v) _ (fun _ _ h=>h) c)
theorem aLT{n i:Nat}:sig [] n i=n+i:=by simp[sig]
theorem cn{f:aT}{H H':Heap}{K:AV->Heap->Prop}{v:AV}{args:List PV}(h:bW P f [] (args.map .p) H' v)(hk:K (cT (sig [] H.length) v) (H++H'.map (de (sig [] H.length)))):ld P false f K (args.map .p) H:=by
 refine .inr ⟨rfl,.inr (.inr (.inl ⟨dI [] H.length [] H' v,?_,⟨by simp[dI],by simp[dI]⟩,?_⟩))⟩
 ·have b:aR (aH ([]:Heap)) (args.map .p):=by rw[cO];intro v c;obtain⟨x,_,rfl⟩:=bo.1 c;trivial
  have:=h.frame [] H.length rfl cR s_ s_ b s_;have e:cW (sig [] H.length) (args.map .p)=args.map .p:=by
   clear h b this hk
   induction args with
   |nil=>rfl
   |cons a r d=>simp only[bv,cW,cT,d]
  rwa [e]at this
 ·simpa[dI,aW]using hk
theorem QW{f:aT}{H H':Heap}{K:AV->Heap->Prop}{v:AV}{a b:PV}(h:bW P f [] [.p a,.p b] H' v)(hk:K (cT (sig [] H.length) v) (H++H'.map (de (sig [] H.length)))):ld P false f K [.p a,.p b] H:=cn (args:=[a,b]) h hk
def Qd(P:a0)(T:ay)(f:Nat):Option (ay×jU):=match kindOf P T,P.underlying T with
 | .agg u,some (.struct _)=>((jX P u)[f]?).map fun F=>(u,kindOf P F)
 |_,_=>none
def zV(P:a0)(T:ay)(f:Nat)(x:AV):eE:=match Qd P T f,x with
 |some (u,k),.p t=>match(cH t)[f]? with
  |some g=>some (aL t=.agg u/\k=aL g,{v:=.p g})
  |none=>none
 |_,_=>none
theorem MH{T:ay}{x:AV}{f:Nat}{K:aU->Prop}:(match kindOf P T,P.underlying T,x with
  | .agg u,some (.struct _),.p t=>aL t=.agg u/\(match(cH t)[f]?,(jX P u)[f]? with
   |some g,some F=>kindOf P F=aL g/\K {v:=.p g}
   |_,_=>False)
  |_,_,_=>False)=bf (zV P T f x) K:=by
 unfold zV Qd;cases b:kindOf P T with
 |agg u=>cases c:P.underlying T with
  |none=>simp[bf]
  |some d=>cases d with
   |struct fs=>cases x with
    |p t=>cases hc:(jX P u)[f]?<;>cases a:(cH t)[f]?<;>simp[bf,a,hc,and_assoc]
    |_=>cases hc:(jX P u)[f]?<;>simp[bf,hc]
   |_=>simp[bf]
 |_=>simp[bf]
section fields
variable{dst:Option Tmp}{ty:Nat}{pos:String}{af:Array Edge}{g:Option (Nat×Bool)}{env:Env}{heap:Heap}{L:St->Prop}{K:aU->Prop}{T:ay}{x:ax}{f:Nat}
theorem ZA:eg P ag ⟨dst,.field T x f,ty,pos,af,g⟩ L ⟨env,heap⟩ ()=cJ (eO dst ⟨env,heap⟩ L) (zV P T f (ev env x)):=MH
theorem ZV:dN P ag ⟨dst,.field T x f,ty,pos,af,g⟩ ⟨env,heap⟩ K ()=cJ K (zV P T f (ev env x)):=MH
end fields
theorem fx{σ:Nat->Nat}{α:Type}{f:α->PV}:∀{l:List α},cW σ (l.map (AV.p∘f))=l.map (AV.p∘f)
 |[]=>rfl
 |a::l=>by simp only[bv,cW,fx (l:=l)];rfl
theorem X0{σ:Nat->Nat}{α β:Type}{f:β->PV}{g:α->β}{l:List α}:cW σ (l.map ((AV.p∘f)∘g))=l.map ((AV.p∘f)∘g):=fx (f:=f∘g)
theorem aLE{α β:Type}{N:Nat×Nat->Prop}{f:β->PV}{g:α->β}{l:List α}:aR N (l.map ((AV.p∘f)∘g))=True:=SL (f:=f∘g)
attribute [simp] ZA ZV X0 aLE W3 Vf aLT cT cW de fx
end
section
variable{P:a0}{ag:aT->Bool}
theorem Na{T:Heap}:∀{h:Heap},jz T h h=True
 |[]=>by simp[jz]
 |o::h=>by simp[jz,OO,Na (h:=h)]
theorem Dm{T:Heap}:∀{h k:Heap},eM T (h++k)=(eM T h/\eM T k)
 |[],k=>by simp[eM]
 |o::h,k=>by simp[eM,Dm (h:=h),and_assoc]
theorem aLF{N:Nat×Nat->Prop}{n:Nat}{v:PV}:aR N (bi n (.p v))=True:=by
 rw[cO,eq_iff_iff,iff_true];intro x hx;rw[(List.mem_replicate.1 hx).2];trivial
theorem Zq{σ:Nat->Nat}{α:Type}{f:α->PV}{l:List α}:cW σ (l.map fun x=>.p (f x))=l.map fun x=>.p (f x):=fx (f:=f)
theorem aLy{L:fD}{e:Env}{H:Heap}(h:L.env=e)(a:jj H e):∀x,aC (aH H) (aN L.env x):=by rw[h];exact a.get
def fD.bz(L:fD):fD:={L with st:=.busy}
def fD.dn(L:fD)(j:Code):fD:={L with st:=.done,pending:=some j}
def fD.xh(L:fD):fD:={L with st:=.exhausted}
def Stream(P:a0)(g:aT)(fi ca:List PV)(d:List (List PV)):Prop:=
 ∀(b k:Nat)(c:Nat->Heap)(H':Heap),k<=d.length->(∀i,i<=k->eM (c i) (c i)/\aC (aH (c i)) (.map b))->
  (∀i a,i<k->d[i]?=some a->iY P b (c i) (a.map .p) (c (i+1)) (.p (.bool true)))->
  (k=d.length/\H'=c k\/∃a,d[k]?=some a/\iY P b (c k) (a.map .p) H' (.p (.bool false)))->
  bW P g (c 0) (fi.map .p++[.map b]++ca.map .p) H' (.p (.aE []))
theorem asS{b:Nat}{args:List AV}{M:AV->Heap->Prop}{heap:Heap}:Aw P heap M (.map b) args=∃H' v,iY P b heap args H' v/\M v H':=(rfl)
def uJ(b:Nat)(L:fD)(N:Nat)(H':Heap)(v:Bool)(e:Tg (b,L,N,H',v) bw)(s:Tg (b,L,N,H',v) St):Prop:=
 match e with
 | .normal=>v=true/\(St.heap s)[b]?=some (.loop L.bz)/\bE N ⟨[],(St.heap s).set b (.loop L)⟩ ⟨[],H'⟩
 | .exit id=>v=false/\(St.heap s)[b]?=some (.loop L.bz)/\bE N ⟨[],(St.heap s).set b (.loop (L.dn (.exit id)))⟩ ⟨[],H'⟩
 | .ret=>v=false/\(St.heap s)[b]?=some (.loop L.bz)/\bE N ⟨[],(St.heap s).set b (.loop (L.dn .ret))⟩ ⟨[],H'⟩
section
variable{b N:Nat}{L:fD}{H':Heap}{v:Bool}{s:St}
theorem Xi:uJ b L N H' v .normal s=(v=true/\s.heap[b]?=some (.loop L.bz)/\bE N ⟨[],s.heap.set b (.loop L)⟩ ⟨[],H'⟩):=(rfl)
theorem Zs{id:Nat}:uJ b L N H' v (.exit id) s=(v=false/\s.heap[b]?=some (.loop L.bz)/\bE N ⟨[],s.heap.set b (.loop (L.dn (.exit id)))⟩ ⟨[],H'⟩):=(rfl)
theorem aLw:uJ b L N H' v .ret s=(v=false/\s.heap[b]?=some (.loop L.bz)/\bE N ⟨[],s.heap.set b (.loop (L.dn .ret))⟩ ⟨[],H'⟩):=(rfl)
end
def FQ(P:a0)(ag:aT->Bool)(q:Cx)(b:Nat)(c:Code)(L:fD)(H':Heap)(v:Bool)(e:Tg (q,b,c,L,H',v) bw)(s:Tg (q,b,c,L,H',v) St):Prop:=
 match e with
 | .normal=>(St.heap s)[b]?=some (.loop L)/\fh P ag q c (uJ b L q.2 H' v) ⟨St.env s,(St.heap s).set b (.loop L.bz)⟩
 |_=>False
theorem Xj{q:Cx}{b:Nat}{c:Code}{L:fD}{H':Heap}{v:Bool}{s:St}:FQ P ag q b c L H' v .normal s=(s.heap[b]?=some (.loop L)/\fh P ag q c (uJ b L q.2 H' v) ⟨s.env,s.heap.set b (.loop L.bz)⟩):=(rfl)
theorem Gt(ag:aT->Bool)(r:P.follows .mixedOrders=true){b n:Nat}{L:fD}{H H':Heap}{args:List AV}{v:Bool}{j:List Tmp}{a c:Code}{env:Env}
 (d:L=⟨.ready,none,n,j,a,c,env⟩)(o:H[b]?=some (.loop L))(q:args.length=j.length)
 (t:(j.all (fun x=>decide (x<n))&&codeOk fit n a&&codeOk fit n c)=true)
 (u:fh P ag (n,H.length) a (FQ P ag (n,H.length) b c L H' v) ⟨rz j args env,H⟩):iY P b H args H' (.p (.bool v)):=by
 refine Rp ag r o (by rw[d];exact q) (by rw[d];exact t) ?_;unfold zh;have e1:L.n=n:=by rw[d]
 have e2:L.assign=a:=by rw[d]
 have e3:L.body=c:=by rw[d]
 have e4:L.params=j:=by rw[d]
 have e5:L.env=env:=by rw[d]
 have k:L.st=.ready:=by rw[d]
 rw[e1,e2,e3,e4,e5];refine l9 (Q:=FQ P ag (n,H.length) b c L H' v) _ (fun e s h=>?_) u;cases e with
 |normal=>
  obtain⟨l,m⟩:=h;simp only[yB,l];refine⟨k,l9 (Q:=uJ b L H.length H' v) _ (fun e s h=>?_) m⟩;cases e with
  |normal=>
   obtain⟨rfl,f,g⟩:=h;have i:s.heap[b]?=some (.loop L.bz):=f;simp only[tC,i,ig];refine⟨rfl,?_⟩;have:({L.bz with st:=LoopState.ready,pending:=none}:fD)=L:=by subst d;rfl
   simpa[this]using g
  |exit id=>
   obtain⟨rfl,f,g⟩:=h;have i:s.heap[b]?=some (.loop L.bz):=f;simp only[tC,i,ig];exact⟨rfl,g⟩
  |ret=>
   obtain⟨rfl,f,g⟩:=h;have i:s.heap[b]?=some (.loop L.bz):=f;simp only[tC,i,ig];exact⟨rfl,g⟩
 |exit id=>exact h.elim
 |ret=>exact h.elim
theorem rf{f:ax}{h:Array Tmp}{a c:Code}{Q:bw->St->Prop}{env:Env}{heap:Heap}{q:Cx}{g:aT}{fi ca:List PV}{n:List (List PV)}(aI:Stream P g fi ca n)(hf:ev env f= .p (.func g fi ca))(hq:q.2<=heap.length)
 (X:fD->Nat->Heap)(k:Nat)(hk:k<=n.length)(u:∀L,X L 0=heap++[.loop L])
 (hx:∀L,L=⟨.ready,none,q.1,h.toList,a,c,env⟩->∀i,i<=k->(X L i)[heap.length]?=some (.loop L)/\jj (X L i) env/\(jj (X L i) env->(∀x,aC (aH (X L i)) (aN L.env x))->eM (X L i) (X L i)))
 (t:∀L,L=⟨.ready,none,q.1,h.toList,a,c,env⟩->∀i x,i<k->n[i]?=some x->iY P heap.length (X L i) (x.map .p) (X L (i+1)) (.p (.bool true)))
 (y:∀L,L=⟨.ready,none,q.1,h.toList,a,c,env⟩->(k=n.length/\Q .normal ⟨env,(X L k).set heap.length (.loop L.xh)⟩)\/
  ∃x j l,n[k]?=some x/\l[heap.length]?=some (.loop (L.dn j))/\iY P heap.length (X L k) (x.map .p) l (.p (.bool false))/\kX Q (some j) ⟨env,l.set heap.length (.loop (L.dn j).xh)⟩):
 fh P ag q (.rangeFunc f h a c) Q ⟨env,heap⟩:=by
 obtain⟨L,b⟩:∃L:fD,L=⟨.ready,none,q.1,h.toList,a,c,env⟩:=⟨_,rfl⟩
 have s:=aI heap.length k (X L);refine⟨hq,?_⟩;show kz P (ev env f) heap.length (heap++[.loop ⟨.ready,none,q.1,h.toList,a,c,env⟩]) (jy heap.length env Q);rw[hf];simp only[kz];rw[<-b,<-u L];have r:∀i,i<=k->eM (X L i) (X L i)/\aC (aH (X L i)) (.map heap.length):=by
  intro i hi;obtain⟨m,d,o⟩:=hx L b i hi;have e5:L.env=env:=by rw[b]
  refine⟨o d (by rw[e5];exact d.get),?_⟩;simp only[aC,aH,m];exact⟨_,rfl,by simp[Obj.has]⟩
 rcases y L b with⟨m,d⟩|⟨x,j,l,m,d,o,v⟩
 ·refine⟨_,_,s (X L k) hk r (t L b) (.inl ⟨m,rfl⟩),?_⟩;have w:=(hx L b k (c9 k)).1;simp only[jy,w];refine⟨by rw[b];simp,?_⟩;have:L.pending=none:=by rw[b]
  simp only[this,kX];have e:L.xh={L with st:=.exhausted}:=rfl;rw[this]at e;rw[e]at d;exact d
 ·refine⟨_,_,s l hk r (t L b) (.inr ⟨x,m,o⟩),?_⟩;simp only[jy,d];exact⟨by simp[fD.dn],v⟩
section axZ
variable{f:aT}{H0 b6 H:Heap}{fV args:List AV}{v0:AV}{K:AV->Heap->Prop}{L:aU->Prop}
theorem H9(h:bW P f H0 fV b6 v0)(bs:List Nat)(d:bs.length=H0.length)(g:bs.Nodup)(e:∀b∈bs,b<H.length)(hl:H0.length<=b6.length)(a:aR (aH H0) fV)(i:eM H0 H0)(c:cW (sig bs H.length) fV=args):
 sf P f args H.length (dI bs H.length H0 b6 v0):=by
 have:=h.frame bs H.length d g e hl a i.get
 rwa [c]at this
theorem cf(h:bW P f H0 fV b6 v0)(bs:List Nat)(hk:K (cT (sig bs H.length) v0) (aW H (bs.zip ((b6.take H0.length).map (de (sig bs H.length))))++(b6.drop H0.length).map (de (sig bs H.length))))(ak:∀p∈bs.zip (H0.map (de (sig bs H.length))),H[p.1]?=some p.2:=by simp[sig])(aG:∀p∈bs.zip ((b6.take H0.length).map (de (sig bs H.length))),p.1<H.length/\p.2≠ .hole:=by simp[sig])
 (d:bs.length=H0.length:=by simp)(g:bs.Nodup:=by simp)(e:∀b∈bs,b<H.length:=by simp)(hl:H0.length<=b6.length:=by simp)(a:aR (aH H0) fV:=by simp)(hr:eM H0 H0:=by simp)(c:cW (sig bs H.length) fV=args:=by simp[sig]):ld P false f K args H:=
 .inr ⟨rfl,.inr (.inr (.inl ⟨_,H9 h bs d g e hl a hr c,⟨ak,aG⟩,hk⟩))⟩
theorem ef(h:bW P f H0 fV b6 v0)(bs:List Nat)(hk:L {v:=cT (sig bs H.length) v0,ak:=bs.zip (H0.map (de (sig bs H.length))),aG:=bs.zip ((b6.take H0.length).map (de (sig bs H.length))),aS:=(b6.drop H0.length).map (de (sig bs H.length))})(ak:∀p∈bs.zip (H0.map (de (sig bs H.length))),H[p.1]?=some p.2:=by simp[sig])(aG:∀p∈bs.zip ((b6.take H0.length).map (de (sig bs H.length))),p.1<H.length/\p.2≠ .hole:=by simp[sig])
 (d:bs.length=H0.length:=by simp)(g:bs.Nodup:=by simp)(e:∀b∈bs,b<H.length:=by simp)(hl:H0.length<=b6.length:=by simp)(a:aR (aH H0) fV:=by simp)(hr:eM H0 H0:=by simp)(c:cW (sig bs H.length) fV=args:=by simp[sig]):nm P f L args H:=
 .inr (.inr (.inl ⟨_,H9 h bs d g e hl a hr c,⟨ak,aG⟩,hk⟩))
end axZ
section bytes
variable{dst:Option Tmp}{ty:Nat}{pos:String}{af:Array Edge}{g:Option (Nat×Bool)}{env:Env}{heap:Heap}{L:St->Prop}{K:aU->Prop}
theorem axo{x:ax}{d:Array ay}{b aq ai off len:Nat}{k:AK}{es:List AV}(hx:ev env x= .sl b aq ai off len)(f:heap[b]?=some (.arr k aq ai es))(e:0<len)(hl:off+len<=es.length)
 (hk:K {v:=.b8 b aq ai off [],ak:=[(b,.arr k aq ai es)]}):dN P ag ⟨dst,.call {callee:=.builtin .unsafeSliceData,args:=#[x],argTypes:=d},ty,pos,af,g⟩ ⟨env,heap⟩ K ():=by
 show(match ev env x with
   | .p .aK=>K {v:=.p .dc}
   | .sl b aq ai off len=>(match heap[b]? with
    |some (.arr k c a es)=>aq=c/\ai=a/\((k.gr=true/\es=[]/\K {v:=.p .dc,ak:=[(b,.arr k c a es)]})\/(0<len/\off+len<=es.length/\K {v:=.b8 b aq ai off [],ak:=[(b,.arr k c a es)]}))
    |_=>False)
   |_=>False)
 rw[hx];simp only[f];exact⟨trivial,trivial,.inr ⟨e,hl,hk⟩⟩
theorem axr{x y:ax}{a:Array ay}{b aq:Nat}{m:Int}{es:List AV}{l:List Nat}(hx:ev env x= .b8 b aq 1 0 [])(n:ev env y= .p (.int .i64 m))(i:heap[b]?=some (.arr .bytes aq 1 es))(c:0<m)(j:m.toNat<=es.length)(d:m<=9223372036854775807)
 (f:a.size=2)(e:ptrTo P (a.getD 0 0)=some Gl.u8)(k:P.cellsOf Gl.u8=1)(hl:bytesOf (es.take m.toNat)=some l)
 (hk:K {v:=.p (.str l),ak:=[(b,.arr .bytes aq 1 es)],aG:=[(b,.dead)]}):dN P ag ⟨dst,.call {callee:=.builtin .unsafeString,args:=#[x,y],argTypes:=a},ty,pos,af,g⟩ ⟨env,heap⟩ K ():=by
 have h:fC P ag ⟨dst,.call {callee:=.builtin .unsafeString,args:=#[x,y],argTypes:=a},ty,pos,af,g⟩ (ev env) heap K:=by
  unfold fC;simp only[bv,List.map_nil,hx,n,i];exact⟨trivial,trivial,trivial,trivial,c,j,d,f,e,k,by rw[hl];exact hk⟩
 exact h
end bytes
theorem rf2{f:ax}{h:Array Tmp}{a c:Code}{Q:bw->St->Prop}{env:Env}{heap:Heap}{q:Cx}{g:aT}{fi ca:List PV}{b:List (List PV)}(aI:Stream P g fi ca b)(hf:ev env f= .p (.func g fi ca))(hq:q.2<=heap.length)
 (X F:fD->Nat->Heap)(okB:Nat->Bool)(j:Code)(k:Nat)(hk:k<=b.length)(u:∀i,i<k->okB i=true)(r:k=b.length\/(k<b.length/\okB k=false))(m:∀L,X L 0=heap++[.loop L])
 (hx:∀L,L=⟨.ready,none,q.1,h.toList,a,c,env⟩->∀i,i<=k->(X L i)[heap.length]?=some (.loop L)/\jj (X L i) env/\(jj (X L i) env->(∀x,aC (aH (X L i)) (aN L.env x))->eM (X L i) (X L i)))
 (l:∀L,L=⟨.ready,none,q.1,h.toList,a,c,env⟩->∀i x,i<=k->b[i]?=some x->iY P heap.length (X L i) (x.map .p) (if okB i=true then X L (i+1)else F L (i+1)) (.p (.bool (okB i))))
 (n:∀L,(F L (k+1))[heap.length]?=some (.loop (L.dn j)))
 (s:k=b.length->∀L,Q .normal ⟨env,(X L k).set heap.length (.loop L.xh)⟩)
 (v:k<b.length->∀L,kX Q (some j) ⟨env,(F L (k+1)).set heap.length (.loop (L.dn j).xh)⟩):
 fh P ag q (.rangeFunc f h a c) Q ⟨env,heap⟩:=by
 refine rf aI hf hq X k hk m hx (fun L e i x hi t=>?_) (fun L e=>?_)
 ·have:=l L e i x o_ t;rw[u i hi]at this;exact this
 ·rcases r with d|⟨d,o⟩
  ·exact .inl ⟨d,s d L⟩
  ·right;refine⟨b[k],j,F L (k+1),bb d,n L,?_,v d L⟩;have:=l L e k b[k] (c9 _) (bb d);rw[o]at this;exact this
attribute [simp] Zq aLF Na Dm Xi Zs aLw Xj asS rz
end
section
variable{P:a0}{ag:aT->Bool}{w:a4}{aa ah:Nat->Prop}{β:Bd}{H:Heap}
def aOV(K:Nat->Bool)(H:Heap):Heap:=H.mapIdx fun i o=>if K i then .dead else o
def aMZ(K:Nat->Bool)(aa:Nat->Prop)(β:Bd)(H:Heap)(k:Nat):Prop:=aa k\/∃(b:Nat)(o:Obj),H[b]?=some o/\o.live/\K b=true/\β.al b=k
theorem fJ.held{b:Nat}{o:Obj}(h:fJ P w aa β H ah b o)(hl:o.live):aa (β.al b)\/¬ah (β.al b):=by
 by_cases hi:aa (β.al b)
 ·exact .inl hi
 ·exact .inr (h.mut hl hi)
end
section
variable{P:a0}{w:a4}{aa ah:Nat->Prop}{β:Bd}
theorem tq{t t':AV}{r:Heap}:cm β (.box false t::r) β (.box false t'::r):=by
 refine⟨fun b _ h=>⟨?_,rfl⟩,fun b _ h=>⟨?_,rfl⟩,fun b _ h=>⟨?_,rfl⟩,fun b aq ai k c _ h=>⟨k,c,?_,c9 _,Iff.rfl,fun _=>⟨rfl,rfl⟩⟩,fun b _ h=>⟨?_,rfl⟩⟩
 ·cases b with
  |zero=>exact⟨false,t,rfl⟩
  |succ b=>exact h
 ·obtain⟨s,q,h⟩:=h;cases b with
  |zero=>simp at h
  |succ b=>exact⟨s,q,h⟩
 ·obtain⟨d,h,a⟩:=h;cases b with
  |zero=>simp at h;subst h;exact a.elim
  |succ b=>exact⟨d,h,a⟩
 ·cases b with
  |zero=>simp[eA]at h
  |succ b=>exact h
 ·obtain⟨L,h⟩:=h;cases b with
  |zero=>simp at h
  |succ b=>exact⟨L,h⟩
theorem qV{t t':AV}{r:Heap}{x:Nat×Nat}(h:aH (.box false t::r) x):aH (.box false t'::r) x:=by
 obtain⟨o,a,c⟩:=h;obtain⟨b,v⟩:=x;cases b with
 |zero=>exact⟨_,rfl,trivial⟩
 |succ b=>exact⟨o,a,c⟩
theorem b7.swap{t d:AV}{r:Heap}(c:b7 P w aa β (.box false t::r) ah)(hc:∀cs,bp P w aa β (.box false t::r) t cs->bp P w aa β (.box false t::r) d cs)(k:∀T,jS T (ad d)=true)
 (f:∀n,aC n t->aC n d):b7 P w aa β (.box false d::r) ah:=by
 refine⟨fun b o a=>?_,fun b b' o o' a q hl m p l=>?_,fun b o a=>?_,c.bX,c.eX,c.jD⟩
 ·cases b with
  |zero=>
   simp at a;subst a;obtain⟨cs,T,g,i,j,v,y⟩:=c.cS 0 _ rfl;have s:=c.refs 0 _ rfl;exact⟨cs,T,g,bp.mono (fun _ x=>x) (fun _ _=>rfl) tq _ _ (f _ s) (hc _ i),j,(fun h=>absurd h s_),k T⟩
  |succ b=>exact fJ.carry (fun _ x=>x) (fun _ _=>rfl) tq (c.refs (b+1) o a) (fun _=>⟨rfl,rfl,rfl⟩) (fun _ _ h=>h) (c.cS (b+1) o a)
 ·have key:∀{b:Nat}{o:Obj},(Obj.box false d::r)[b]?=some o->o.live->∃e,(Obj.box false t::r)[b]?=some e/\e.live:=by
   intro b o a hl;cases b with
   |zero=>exact⟨_,rfl,trivial⟩
   |succ b=>exact⟨o,a,hl⟩
  obtain⟨e,k1,k2⟩:=key a hl;obtain⟨u,k3,k4⟩:=key q m;exact c.inj b b' e u k1 k3 k2 k4 p l
 ·cases b with
  |zero=>
   simp at a;subst a;exact aC.mono (fun _ h=>qV h) _ (f _ (c.refs 0 _ rfl))
  |succ b=>exact Obj.yR (fun _ h=>qV h) (c.refs (b+1) o a)
theorem Nl{H:Heap}{u:ay}{n:Nat}(f:dL P u=some [n]){t:AV}{cs:List a3}:bp P w aa β H (.st u [t]) cs↔bp P w aa β H t cs/\cs.length=n:=by
 simp only[bp,f,dq];constructor
 ·rintro⟨l,g,rfl,a,rfl⟩;simp only[bL]at a;obtain⟨c,d,rfl,b,e,rfl⟩:=a;simpa using⟨b,e⟩
 ·rintro⟨a,b⟩;exact⟨[n],[cs],rfl,by simp only[bL];exact⟨cs,[],rfl,a,b,rfl⟩,s_⟩
theorem bW.wrap{f:aT}{u:ay}{n:Nat}{t i:AV}{r j:Heap}{args:List AV}{v:AV}(q:dL P u=some [n])(a:∀T,jS T (.agg u)=true)(F:∀T,jS T (ad t)=true)(G:∀(w:a4)(aa:Nat->Prop)(β:Bd)(H:Heap)(cs:List a3),bp P w aa β H i cs->cs.length=n)
 (h:bW P f (.box false t::r) (.ptr 0 []::args) (.box false i::j) v):bW P f (.box false (.st u [t])::r) (.ptr 0 [(u,0)]::args) (.box false (.st u [i])::j) v:=by
 refine⟨h.1,fun w aa ah β N hr D y=>?_⟩;have J:b7 P w aa β (.box false t::r) ah:=hr.swap (fun cs h=>((Nl q).1 h).1) F (fun n h=>by simpa[aC,aR]using h);obtain⟨x,xs,rfl,h1,C⟩:=D;have E:br P w aa β (.box false t::r) (.ptr 0 []::args) (x::xs):=by
  refine⟨x,xs,rfl,?_,br.mono (fun _ x=>x) (fun _ _=>rfl) tq _ _ y.2 C⟩;obtain⟨q1,al,off,o,s,M,q4⟩:=h1;refine⟨q1,al,off,0,s,rfl,fun _=>?_⟩;have I:o=0:=by simpa[gG,q]using M.symm
  have:=q4 (.inl ⟨false,_,rfl⟩);rw[I]at this;exact this
 refine(h.2 w aa ah β (x::xs) J E ⟨⟨_,rfl,trivial⟩,aR.mono (fun _ h=>qV h) _ y.2⟩).mono ?_;rintro e w' ⟨B,aJ,aD,rfl,g,K,z⟩;refine⟨B,aJ,aD,rfl,⟨g.bX,g.fresh,g.ext,?_,?_,fun x hx=>qV (g.fG x (qV hx)),?_⟩,aw.mono (fun _ x=>x) (fun _ _=>rfl) tq _ _ z K,aC.mono (fun _ h=>qV h) _ z⟩
 ·have aI:=g.step;have m:=tq (β:=β) (t:=.st u [t]) (t':=t) (r:=r);have p:=tq (β:=aJ) (t:=i) (t':=.st u [i]) (r:=j);have d:∀x,aH (.box false (.st u [t])::r) x->aH (.box false t::r) x:=fun x h=>qV h;have l:∀x,aH (.box false t::r) x->aH (.box false i::j) x:=g.fG;refine⟨fun b a c=>?_,fun b a c=>?_,fun b a c=>?_,fun b aq ai k es a c=>?_,fun b a c=>?_⟩
  ·obtain⟨k1,k2⟩:=p.box b (l _ (d _ a)) c;obtain⟨k3,k4⟩:=aI.box b (d _ a) k1;exact⟨(m.box b a k3).1,k4⟩
  ·obtain⟨k1,k2⟩:=p.it b (l _ (d _ a)) c;obtain⟨k3,k4⟩:=aI.it b (d _ a) k1;exact⟨(m.it b a k3).1,k4⟩
  ·obtain⟨k1,k2⟩:=p.map b (l _ (d _ a)) c;obtain⟨k3,k4⟩:=aI.map b (d _ a) k1;exact⟨(m.map b a k3).1,k4⟩
  ·have k1:eA (.box false i::j) b aq ai k es:=by
    cases b with
    |zero=>simp[eA]at c
    |succ b=>exact c
   obtain⟨k0,gW,q1,s⟩:=aI.arr b aq ai k es (d _ a) k1;refine⟨k0,gW,?_,s⟩;cases b with
   |zero=>simp[eA]at q1
   |succ b=>exact q1
  ·obtain⟨k1,k2⟩:=p.loop b (l _ (d _ a)) c;obtain⟨k3,k4⟩:=aI.loop b (d _ a) k1;exact⟨(m.loop b a k3).1,k4⟩
 ·exact g.rel.swap (fun cs h=>(Nl q).2 ⟨h,G _ _ _ _ _ h⟩) a (fun n h=>by simpa[aC,aR]using h)
 ·rintro b ⟨L,c⟩;have k1:ie (.box false t::r) b:=by
   cases b with
   |zero=>simp at c
   |succ b=>exact⟨L,c⟩
  obtain⟨A,k2⟩:=g.loop b k1;cases b with
  |zero=>simp at k2
  |succ b=>exact⟨A,k2⟩
end
section
variable{P:a0}{w:a4}{aa ah:Nat->Prop}{β:Bd}
def uk(n:Nat):Heap:=bi n .dead
theorem nZ{n b:Nat}{o:Obj}(h:(uk n)[b]?=some o):o=.dead:=by
 simp only[uk,b5]at h
 split at h
 ·injection h with h;exact h.symm
 ·cases h
theorem bW.cut{f:aT}{H:Heap}{args:List AV}{n:Nat}{p:PV}(h:bW P f H args (uk n) (.p p)):bW P f H args (uk H.length) (.p p):=by
 refine⟨h.1,fun w aa ah β g hr q u=>(h.2 w aa ah β g hr q u).mono ?_⟩;rintro e w' ⟨i,aJ,aD,rfl,a,v,y⟩;have no:∀{m b:Nat}{o:Obj},(uk m)[b]?=some o->o.live->False:=fun h hl=>by rw[nZ h]at hl;exact hl
 refine⟨i,aJ,aD,rfl,⟨a.bX,a.fresh,a.ext,⟨?_,?_,?_,?_,?_⟩,⟨fun b o c=>by rw[nZ c];trivial,fun b b' o o' c _ hl=>(no c hl).elim,fun b o c=>by rw[nZ c];trivial,a.rel.bX,a.rel.eX,a.rel.jD⟩,?_,?_⟩,v,trivial⟩
 ·rintro b _ ⟨fz,t,h⟩;cases nZ h
 ·rintro b _ ⟨fz,t,h⟩;cases nZ h
 ·rintro b _ ⟨z,h,d⟩;rw[nZ h]at d;exact d.elim
 ·intro b aq ai k es _ h;cases nZ h
 ·rintro b _ ⟨L,h⟩;cases nZ h
 ·rintro x ⟨o,j,_⟩;have s:=(be.1 j).1;exact⟨.dead,by rw[uk,b5,if_pos s],trivial⟩
 ·intro b r;obtain⟨L,l⟩:=a.loop b r;cases nZ l
theorem bW.df{f:aT}{H H':Heap}{args:List AV}{v v':PV}(h:bW P f H args H' (.p v))(j:Wk v v'):bW P f H args H' (.p v'):=by
 refine⟨h.1,fun w aa ah β a hr d i=>(h.2 w aa ah β a hr d i).mono ?_⟩;rintro e w' ⟨b,aJ,aD,rfl,g,c,k⟩;exact⟨b,aJ,aD,rfl,g,aB.df _ _ _ j c,trivial⟩
end
section
variable{P:a0}
def Ap(P:a0)(a:List a1)(N:Nat)(Q:AV->Heap->Prop)(e:Tg (a,N,Q) bw)(s:Tg (a,N,Q) St):Prop:=
 (match e with
  | .exit _=>False
  |_=>True)/\∃vs,fS P s a=some vs/\∃H',Q (oneOf vs) H'/\(H'=St.heap s\/(bE N s ⟨[],H'⟩/\aC (aH H') (oneOf vs)))
theorem X6{a:List a1}{N:Nat}{Q:AV->Heap->Prop}{s:St}:Ap P a N Q .ret s=∃vs,fS P s a=some vs/\∃H',Q (oneOf vs) H'/\(H'=s.heap\/(bE N s ⟨[],H'⟩/\aC (aH H') (oneOf vs))):=by simp[Ap]
theorem VZ{a:List a1}{N:Nat}{Q:AV->Heap->Prop}{s:St}:Ap P a N Q .normal s=∃vs,fS P s a=some vs/\∃H',Q (oneOf vs) H'/\(H'=s.heap\/(bE N s ⟨[],H'⟩/\aC (aH H') (oneOf vs))):=by simp[Ap]
attribute [simp] X6 VZ
end
section
variable{P:a0}
theorem aA.heap{f:aT}{vs j:List PV}{v:PV}{H H1:Heap}{args:List AV}(h:aA P f vs v)(g:Enters P f)(o:nJ H args=some (j,H1))(l:bB j vs:=by first|exact bB.refl _|simp):bW P f H args H1 (.p v):=by
 refine⟨g,fun w aa ah β x u r q=>?_⟩;obtain⟨b,a,i⟩:=CF o u r q;rcases h.df l (Wk.refl _)with m|n
 ·intro cs;obtain⟨e,w',k,⟨c,aD,he,m1,m2,m3,m4,m5,m6,m7⟩,aI,s,t⟩:=m.2 w b _ a.rel.bX a.rel.jD i cs;subst he;exact⟨_,w',k,⟨c,β,aD,rfl,a.trans (a.rel.later m1 m2 m3 m4 m5 m6),by simpa[aw]using m7,by simp[aC]⟩,aI,s,t⟩
 ·obtain⟨c,d,_⟩:=n w b _ i;rw[g]at d;cases d
theorem HN{w:a4}{aa ah:Nat->Prop}{β:Bd}{H:Heap}{n:Nat}(e:b7 P w aa β H ah):∀{args:List AV}{vs:List PV}{c:List a3},jE (eD H n) args=some vs->aR (aH H) args->br P w aa β H args c->bm P w (Ae aa β H) vs c
 |[],vs,c,h,_,b=>by
  simp[jE]at h;subst h;simp only[br]at b;simpa[bm]using b
 |a::args,vs,c,h,d,b=>by
  simp only[jE]at h
  split at h
  case h_2=>simp at h
  rename_i y j f g;simp at h;subst h;simp only[br]at b;obtain⟨z,i,rfl,k1,k2⟩:=b;simp only[aR]at d;simp only[bm];exact⟨z,i,rfl,yC e n a y f d.1 z k1,HN e g d.2 k2⟩
end
section
variable{P:a0}{ag:aT->Bool}
theorem Ta{H J:Heap}{x:Nat×Nat}(h:aH H x):aH (H++J) x:=by
 obtain⟨o,a,b⟩:=h;exact⟨o,by rw[List.getElem?_append_left (be.1 a).1];exact a,b⟩
theorem eM.up{S T:Heap}(a:∀x,aH S x->aH T x):∀{h:Heap},eM S h->eM T h
 |[],_=>trivial
 |_::_,h=>⟨Obj.yR a h.1,eM.up a h.2⟩
theorem eM.app{H J:Heap}(h:eM H H)(a:eM (H++J) J):eM (H++J) (H++J):=by
 rw[Dm];exact⟨h.up fun _=>Ta,a⟩
end
def jn:Obj->Obj
 | .arr k aq z es=>bif k.gr&&es.isEmpty then .arr k aq z es else .arr .frozen aq z es
 |o=>o
def iH(H:Heap):Prop:=∀(b:Nat)(o:Obj),H[b]?=some o->∃(k:AK)(aq z:Nat)(a:List PV),o=.arr k aq z (a.map AV.p)
section
variable{P:a0}
theorem Hp{w:a4}{aa ah:Nat->Prop}{β:Bd}{H:Heap}(u:iH H)(x:b7 P w aa β H ah):∀k,k<=H.length->
 ∃aD,bZ P ah aa w β H aD w β ((H.take k).map jn++H.drop k)/\∀b o,b<k->H[b]?=some o->o.live->aD (β.al b)
 |0,_=>⟨aa,by simpa using bZ.refl x,fun b o m=>by omega⟩
 |k+1,hk=>by
  obtain⟨y,j,hi⟩:=Hp u x k o_;obtain⟨o,g⟩:∃o,H[k]?=some o:=⟨_,bb o_⟩
  obtain⟨i,aq,z,c,rfl⟩:=u k o g;have hl:((H.take k).map jn).length=k:=by simp;omega
  have q:((H.take k).map jn++H.drop k)[k]?=some (.arr i aq z (c.map AV.p)):=by
   rw[List.getElem?_append_right o_,hl,dg,List.getElem?_drop,Nat.add_zero,g]
  by_cases f:i.gr=true/\c.map AV.p=[]
  ·have aG:(H.take k).map jn++H.drop k=(H.take (k+1)).map jn++H.drop (k+1):=by
    rw[ce,g,b3,cx];congr 1;obtain⟨r,s⟩:=be.1 g;rw[b4 r,s];show _=jn _::_;have e:jn (.arr i aq z (c.map AV.p))=.arr i aq z (c.map AV.p):=by rw[jn,f.1,f.2];rfl
    rw[e];rfl
   rw[aG]at j;refine⟨y,j,fun b o m d l=>?_⟩
   by_cases e:b=k
   ·subst e;rw[g]at d;injection d with d
    subst d;exact(l f).elim
   ·exact hi b o o_ d l
  have aG:((H.take k).map jn++H.drop k).set k (.arr .frozen aq z (c.map AV.p))=(H.take (k+1)).map jn++H.drop (k+1):=by
   rw[List.set_append_right _ _ o_,hl,dg,ce,g,b3,cx];congr 1;obtain⟨r,s⟩:=be.1 g;rw[b4 r,s];have hf:(i.gr&&(c.map AV.p).isEmpty)=false:=by
    cases B:i.gr
    ·rfl
    ·cases n:(c.map AV.p).isEmpty
     ·rfl
     ·exact(f ⟨B,List.isEmpty_iff.1 n⟩).elim
   show _=jn _::_;have e:jn (.arr i aq z (c.map AV.p))=.arr .frozen aq z (c.map AV.p):=by rw[jn,hf];rfl
   rw[e];rfl
  have v:¬di .frozen (c.map AV.p):=fun h=>by cases h.1
  have aI:=qG (β:=β) q (.inr (.inl ⟨_,_,_,_,_,rfl,rfl,f,v⟩));rcases j.rel.cS k _ q with hold|⟨cs,T,A,rest,g1,g2,g3,g4,g5,g6,g7,g8⟩
  ·exact(f hold).elim
  obtain⟨aD,t,C⟩:=qK j.rel q f (o':=.arr .frozen aq z (c.map AV.p)) v (fun _ h=>h) (fun _ h=>by cases h) aI g7.rI
   (fun aD hi m=>.inr ⟨cs,T,A,rest,g1,bL.mono hi (fun _ _=>rfl) aI _ _ _ (j.rel.refs k _ q) g2,g3,g4,g5,(fun h=>by cases h),m,fun _ e n=>(by simp at n;obtain⟨a,_,rfl⟩:=n;trivial),fun h=>by cases h⟩)
   (jw _ _)
  rw[aG]at t;refine⟨aD,j.trans t,fun b o m d l=>?_⟩
  by_cases e:b=k
  ·subst e;exact C
  ·exact t.bX _ (hi b o o_ d l)
theorem aA.FA{f:aT}{vs:List PV}{v:PV}{H:Heap}{args:List AV}(n:Nat)(h:aA P f vs v)(g:Enters P f)(r:iH H)(u:lK H n args vs):bW P f H args (H.map jn) (.p v):=by
 obtain⟨qs,q,c⟩:=ri n (fun x v h=>pU n x v h) args vs u;refine⟨g,fun w aa ah β l i z y=>?_⟩;obtain⟨aD,a,B⟩:=Hp r i H.length (c9 _);rw[List.take_length,List.drop_length,List.append_nil]at a;have j:bm P w aD qs l:=bm.mono (by
  rintro x (hk|⟨b,o,q1,D,rfl⟩)
  ·exact a.bX _ hk
  ·exact B b o (be.1 q1).1 q1 D) (fun _ _=>rfl) _ _ (HN i q y z)
 rcases h.df c (Wk.refl _)with s|t
 ·intro cs;obtain⟨e,w',m,⟨d,k,he,m1,m2,m3,m4,m5,m6,m7⟩,aI,A,C⟩:=s.2 w _ _ a.rel.bX a.rel.jD j cs;subst he;exact⟨_,w',m,⟨d,β,k,rfl,a.trans (a.rel.later m1 m2 m3 m4 m5 m6),by simpa[aw]using m7,by simp[aC]⟩,aI,A,C⟩
 ·obtain⟨d,c,_⟩:=t w _ _ j;rw[g]at c;cases c
end
section
variable{P:a0}
theorem bW.I8{f:aT}{H0 H1 H':Heap}{args:List AV}{v:AV}(hf:bE 0 ⟨[],H0⟩ ⟨[],H1⟩)
 (hk:∀(b:Nat)(o:Obj),H0[b]?=some o->H1[b]?=some o\/∃x y:AV,o=.box false x/\H1[b]?=some (.box false y))(h:bW P f H1 args H' v):bW P f H0 args H' v:=by
 refine⟨h.1,fun w aa ah β p hr r n=>?_⟩;have hs:cU P 0 ah aa β ⟨[],H0⟩ #[] w:=⟨hr,fun x=>by simp[aN,aw,aB],fun x=>by simp[aN,aC],rfl⟩
 have l:b7 P w aa β H1 ah:=(hf.rel hs).heap;have fG:∀x,aH H0 x->aH H1 x:=by
  rintro x ⟨o,d,i⟩;rcases hk _ o d with e|⟨a,b,rfl,e⟩
  ·exact⟨o,e,i⟩
  ·exact⟨_,e,i⟩
 have aI:cm β H0 β H1:=by
  refine⟨fun b g c=>⟨?_,rfl⟩,fun b g c=>⟨?_,rfl⟩,fun b g c=>⟨?_,rfl⟩,fun b aq ai k es g c=>?_,fun b g c=>⟨?_,rfl⟩⟩
  ·obtain⟨o,d,i⟩:=g;obtain⟨fz,t,c⟩:=c;rcases hk b o d with e|⟨x,y,rfl,e⟩
   ·rw[c]at e;injection e with e;exact⟨fz,t,by rw[d,<-e]⟩
   ·exact⟨_,_,d⟩
  ·obtain⟨o,d,i⟩:=g;obtain⟨s,pos,c⟩:=c;rcases hk b o d with e|⟨x,y,rfl,e⟩
   ·rw[c]at e;injection e with e;exact⟨s,pos,by rw[d,<-e]⟩
   ·rw[c]at e;cases e
  ·obtain⟨o,d,i⟩:=g;obtain⟨m,c,j⟩:=c;rcases hk b o d with e|⟨x,y,rfl,e⟩
   ·rw[c]at e;injection e with e;exact⟨m,by rw[d,<-e],j⟩
   ·rw[c]at e;injection e with e;subst e;exact j.elim
  ·obtain⟨o,d,i⟩:=g;rcases hk b o d with e|⟨x,y,rfl,e⟩
   ·rw[eA]at c;rw[c]at e;injection e with e
    exact⟨k,es,by rw[eA,d,<-e],c9 _,Iff.rfl,fun _=>⟨rfl,rfl⟩⟩
   ·rw[eA]at c;rw[c]at e;cases e
  ·obtain⟨o,d,i⟩:=g;obtain⟨L,c⟩:=c;rcases hk b o d with e|⟨x,y,rfl,e⟩
   ·rw[c]at e;injection e with e;exact⟨L,by rw[d,<-e]⟩
   ·rw[c]at e;cases e
 have B:bZ P ah aa w β H0 aa w β H1:=⟨fun _ x=>x,fun _ x=>.inl x,Ext.refl _ _ _,aI,l,fG,by
  rintro b ⟨L,c⟩;rcases hk b _ c with e|⟨x,y,e,_⟩
  ·exact⟨L,e⟩
  ·cases e⟩
 refine(h.2 w aa ah β p l (br.mono (fun _ x=>x) (fun _ _=>rfl) aI _ _ n r) (aR.mono fG _ n)).mono ?_;rintro e w' ⟨q,aJ,aD,rfl,u,A,z⟩;exact⟨q,aJ,aD,rfl,B.trans u,A,z⟩
end
end Go.au
