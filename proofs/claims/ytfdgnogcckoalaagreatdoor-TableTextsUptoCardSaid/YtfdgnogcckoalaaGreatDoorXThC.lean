import Derived.Test.YtfdgnogcckoalaaGreatDoorXThB
/- Parts of a proof. -/
set_option linter.unusedSimpArgs false
set_option linter.unusedVariables false
set_option linter.unusedSectionVars false
open BitVec renaming ofInt->am
open Bool renaming cond_eq_ite->ao, and_eq_true->ap, false_eq_true->av
open Go renaming Operand->ax, TypeId->ay, FuncId->aT, Program->a0, ResultVar->a1, Value->a3, World->a4, IntKind->a5, BinOp->a6
open Int renaming natCast_nonneg->a7, ofNat_eq_natCast->a8, toNat_natCast->a9
open List renaming getElem?_eq_getElem->bb, getElem?_eq_some_iff->be, replicate->bi, mem_cons->bk, mem_iff_getElem->bl, mem_map->bo, map_cons->bv, range->b0, isEmpty_cons->b1, of_mem_zip->b2, map_append->b3, drop_eq_getElem_cons->b4, getElem?_replicate->b5, mem_of_getElem?->cb, map_id->cc, take_add_one->ce, mem_range'_1->ck, append_assoc->cx, getElem_mem->cy, nodup_cons->cE, mem_append->cN, nodup_nil->cR, rec->c6
open Nat renaming ble->c7, beq->c8, le_refl->c9, ble_eq_true_of_le->da, beq_refl->db, sub_self->dg, pow_succ->dk, mod_lt->dl
open Option renaming ite_none_right_eq_some->dp
open Option.some renaming injEq->dq
open Prod.mk renaming injEq->dz
namespace Go.aw
set_option linter.unusedSectionVars false
variable[Gl]
section
variable{P:a0}{ah:aT->Bool}
def sE:ju->ju->Bool
 | .leaf,.leaf=>true
 | .agg u,.agg v=>c8 u v
 |_,_=>false
theorem iK{a b:ju}(h:sE a b=true):a=b/\b≠.bad:=by
 cases a<;>cases b<;>simp_all [sE]
def kE:AK->AK->Bool
 | .exact,.exact| .grow,.grow| .frozen,.frozen| .bytes,.bytes=>true
 |_,_=>false
def vI:AK->Bool
 | .frozen=>false
 |_=>true
theorem CI{k:AK}(h:vI k=true):k≠.frozen:=by cases k<;>simp_all [vI]
def nU(k:AK)(a:List AV):Bool:=match k.gr,a with
 |true,[]=>false
 |_,_=>true
theorem u4{k:AK}{a:List AV}(h:nU k a=true):¬(k.gr=true/\a=[]):=by
 rintro⟨b,rfl⟩;simp[nU,b]at h
theorem dv{a b:Nat}(h:c8 a b=true):a=b:=Nat.eq_of_beq_eq_true h
theorem cW{a b:Nat}(h:c7 a b=true):a<=b:=Nat.le_of_ble_eq_true h
def Ol:a5->a5->Bool:=fun a b=>decide (a=b)
def u5(P:a0)(l:List Nat):List (Nat×AV)->Bool
 |[]=>true
 |(i,v)::r=>(match l[i]? with
  |some n=>c8 (bB P (ad v)) n&&(match ad v with
   | .bad=>false
   |_=>true)
  |none=>false)&&u5 P l r
theorem A9{l:List Nat}:∀{r:List (Nat×AV)},u5 P l r=true->lE P l r
 |[],_=>trivial
 |(i,v)::r,h=>by
  simp only[u5,ap]at h;refine⟨?_,A9 h.2⟩;have a:=h.1
  split at a
  ·rename_i n c;simp only[ap]at a;refine⟨n,c,dv a.1,fun b=>?_⟩;rw[b]at a;simp at a
  ·simp at a
def o9(P:a0)(sz:Nat):List AV->Bool
 |[]=>true
 |v::r=>(match ad v with
  | .bad=>false
  |s=>c8 (bB P s) sz)&&o9 P sz r
theorem sM{sz:Nat}:∀{r:List AV},o9 P sz r=true->fc P sz r
 |[],_=>trivial
 |v::r,h=>by
  simp only[o9,ap]at h;refine⟨?_,sM h.2⟩;have a:=h.1
  split at a
  ·simp at a
  ·rename_i b;exact⟨b,dv a⟩
def Dw(P:a0)(T:ay)(H:Heap)(a:AV):Option aU:=
 match a with
 | .ptr b path=>match H[b]? with
  |some (.box fz t)=>match eL t path with
   |some s=>bif sE (kindOf P T) (ad s)then some {v:=s,aj:=[(b,.box fz t)]}else none
   |none=>none
  |_=>none
 | .b6 b an ai i path=>match H[b]? with
  |some (.arr k d c es)=>bif c8 an d&&c8 ai c then match es[i]? with
   |some x=>match eL x path with
    |some s=>bif sE (kindOf P T) (ad s)then some {v:=s,aj:=[(b,.arr k d c es)]}else none
    |none=>none
   |none=>none
   else none
  |_=>none
 | .p (.cq t)=>bif sE (kindOf P T) (aL t)then some {v:=.p t}else none
 |_=>none
theorem VO{T:ay}{H:Heap}{a:AV}{e:aU}{K:aU->Prop}(h:Dw P T H a=some e)(hk:K e):nM P T H a K:=by
 unfold Dw at h;unfold nM
 split at h
 ·split at h
  ·split at h
   ·rename_i hs;simp only[ao,dp,dq]at h;rename_i c _ _;obtain⟨b,rfl⟩:=h;simp only[c,hs];exact⟨(iK b).1,hk⟩
   ·simp at h
  ·simp at h
 ·split at h
  ·rename_i c;simp only[ao,dp,ap]at h;obtain⟨⟨b,d⟩,h⟩:=h
   split at h
   ·rename_i hx
    split at h
    ·rename_i hs;simp only[dp,dq]at h;obtain⟨f,rfl⟩:=h;obtain⟨hi,rfl⟩:=be.1 hx;simp only[c];refine⟨dv b,dv d,hi,?_⟩;simp only[hs];exact⟨(iK f).1,hk⟩
    ·simp at h
   ·simp at h
  ·simp at h
 ·simp only[ao,dp,dq]at h;obtain⟨b,rfl⟩:=h;exact⟨(iK b).1,hk⟩
 ·simp at h
def Cz(P:a0)(T:ay)(H:Heap)(a x:AV):Option aU:=
 bif sE (kindOf P T) (ad x)then match a with
 | .ptr b path=>match H[b]? with
  |some (.box false t)=>match eL t path,fQ t path x with
   |some s,some d=>bif sE (ad s) (ad x)then some {v:=.p (.aE []),aj:=[(b,.box false t)],aG:=[(b,.box false d)]}else none
   |_,_=>none
  |_=>none
 | .b6 b an ai i path=>match H[b]? with
  |some (.arr k e c es)=>bif c8 an e&&(c8 ai c&&vI k)then match es[i]? with
   |some y=>match eL y path,fQ y path x with
    |some s,some d=>bif sE (ad s) (ad x)then some {v:=.p (.aE []),aj:=[(b,.arr k e c es)],aG:=[(b,.arr k e c (es.set i d))]}else none
    |_,_=>none
   |none=>none
   else none
  |_=>none
 |_=>none
 else none
theorem T4{T:ay}{H:Heap}{a x:AV}{e:aU}{K:aU->Prop}(h:Cz P T H a x=some e)(hk:K e):nA P T H a x K:=by
 unfold Cz at h;unfold nA;simp only[ao,dp]at h;obtain⟨f,h⟩:=h;refine⟨(iK f).1,(iK f).2,?_⟩
 split at h
 ·split at h
  ·rename_i c
   split at h
   ·rename_i hs d;simp only[dp,dq]at h;obtain⟨b,rfl⟩:=h;simp only[c,hs,d];exact⟨(iK b).1,hk⟩
   ·simp at h
  ·simp at h
 ·split at h
  ·rename_i c;simp only[dp,ap]at h;obtain⟨⟨b,g,i⟩,h⟩:=h
   split at h
   ·rename_i k
    split at h
    ·rename_i hs d;simp only[dp,dq]at h;obtain⟨j,rfl⟩:=h;obtain⟨hi,rfl⟩:=be.1 k;simp only[c];refine⟨dv b,dv g,CI i,hi,?_⟩;simp only[hs,d];exact⟨(iK j).1,hk⟩
    ·simp at h
   ·simp at h
  ·simp at h
 ·simp at h
def Dl(op:a6)(k:a5)(a b:Int):Option PV:=
 match op with
 | .add=>some (.int k (k.wrap (a+b)))
 | .sub=>some (.int k (k.wrap (a-b)))
 | .mul=>some (.int k (k.wrap (a*b)))
 | .quo=>match b with
  | .ofNat 0=>none
  |b=>some (.int k (k.wrap (a.tdiv b)))
 | .rem=>match b with
  | .ofNat 0=>none
  |b=>some (.int k (a.tmod b))
 | .and=>some (.int k (k.wrap (am k.bits a&&&am k.bits b).toNat))
 | .or=>some (.int k (k.wrap (am k.bits a|||am k.bits b).toNat))
 | .xor=>some (.int k (k.wrap (am k.bits a^^^am k.bits b).toNat))
 | .andNot=>some (.int k (k.wrap (am k.bits a&&&~~~am k.bits b).toNat))
 | .eql=>some (.bool (a==b))
 | .neq=>some (.bool (a !=b))
 | .lss=>some (.bool (decide (a<b)))
 | .leq=>some (.bool (decide (a<=b)))
 | .gtr=>some (.bool (decide (a>b)))
 | .geq=>some (.bool (decide (a>=b)))
 | .shl=>match b with
  | .ofNat _=>some (.int k (k.wrap (a*2^(min b.toNat k.bits))))
  |_=>none
 | .shr=>match b with
  | .ofNat _=>some (.int k (a.fdiv (2^(min b.toNat k.bits))))
  |_=>none
theorem YX{op:a6}{k:a5}{a b:Int}{v:PV}{K:PV->Prop}(h:Dl op k a b=some v)(hk:K v):o7 op k a b K:=by
 cases op<;>simp only[Dl]at h<;>simp only[o7]
 case quo|rem=>
  split at h
  ·simp at h
  ·rename_i d;simp only[dq]at h;subst h;exact⟨fun c=>d (by rw[c];rfl),hk⟩
 case shl|shr=>
  split at h
  ·simp only[dq]at h;subst h;exact⟨a7 _,hk⟩
  ·simp at h
 all_goals (simp only[dq]at h;subst h;exact hk)
def C5(P:a0)(op:a6)(T:ay)(c:Bool)(H:Heap)(x y:AV):Option PV:=
 match x,y with
 | .p (.int k a),.p (.int d b)=>bif Ol k d||(match op with
  | .shl| .shr=>true
  |_=>false)then Dl op k a b else none
 | .p (.str a),.p (.str b)=>match op with
  | .add=>bif c7 (a.length+b.length) 9223372036854775807 then some (.str (a++b))else none
  | .eql=>some (.bool (a==b))
  | .neq=>some (.bool (!(a==b)))
  | .lss=>some (.bool (jh a b))
  | .leq=>some (.bool (jh a b||a==b))
  | .gtr=>some (.bool (!(jh a b||a==b)))
  | .geq=>some (.bool (!(jh a b)))
  |_=>none
 | .p (.bool a),.p (.bool b)=>bif qm P T then match op with
  | .eql=>some (.bool (a==b))
  | .neq=>some (.bool (!(a==b)))
  |_=>none
  else none
 | .p (.st u fs),.p (.st u' gs)=>bif nR P T then match fu P 9 T (.st u fs) (.st u' gs),op with
  |some r,.eql=>some (.bool r)
  |some r,.neq=>some (.bool !r)
  |_,_=>none
  else none
 |x,y=>match dA P T c y with
  |some k=>match cV H k x,op with
   |some r,.eql=>some (.bool r)
   |some r,.neq=>some (.bool !r)
   |_,_=>none
  |none=>none
theorem WN{op:a6}{T:ay}{c:Bool}{H:Heap}{x y:AV}{v:PV}{K:PV->Prop}(h:C5 P op T c H x y=some v)(hk:K v):kj P op T c H x y K:=by
 unfold C5 at h;unfold kj
 split at h
 ·simp only[ao,dp,Bool.or_eq_true,Ol,decide_eq_true_eq]at h;refine⟨?_,YX h.2 hk⟩;rcases h.1 with b|b
  ·exact .inl b
  ·cases op<;>simp at b<;>simp
 ·split at h<;>simp only[o6]
  ·simp only[ao,dp,dq]at h;obtain⟨b,rfl⟩:=h;exact⟨by have:=cW b;omega,hk⟩
  ·simp only[dq]at h;subst h;exact hk
  ·simp only[dq]at h;subst h;exact hk
  ·simp only[dq]at h;subst h;exact hk
  ·simp only[dq]at h;subst h;exact hk
  ·simp only[dq]at h;subst h;exact hk
  ·simp only[dq]at h;subst h;exact hk
  ·simp at h
 ·simp only[ao,dp]at h;refine⟨h.1,?_⟩;have a:=h.2
  split at a
  ·simp only[dq]at a;subst a;exact hk
  ·simp only[dq]at a;subst a;exact hk
  ·simp at a
 ·simp only[ao,dp]at h;refine⟨h.1,?_⟩;have a:=h.2
  split at a
  ·rename_i d;simp only[dq]at a;subst a;simp only[d];exact hk
  ·rename_i d;simp only[dq]at a;subst a;simp only[d];exact hk
  ·simp at a
 ·split at h
  case h_2=>simp at h
  rename_i k f;show kj P op T c H x y _;rw[I1 f];obtain⟨r,e,d⟩:∃r,cV H k x=some r/\((op=.eql/\v=.bool r)\/(op=.neq/\v=.bool !r)):=by
   revert h;generalize cV H k x=q;intro h;cases q with
   |none=>simp at h
   |some r=>cases op<;>simp at h<;>exact⟨r,rfl,by simp[h]⟩
  rw[e];rcases d with⟨rfl,rfl⟩|⟨rfl,rfl⟩<;>exact hk
def A0(P:a0)(T:ay)(a:AV)(f:Nat):Option aU:=
 match fN P T with
 |some (u,n)=>bif c7 (f+1) n then match a with
  | .ptr b path=>some {v:=.ptr b (path++[(u,f)])}
  | .b6 b an ai i path=>some {v:=.b6 b an ai i (path++[(u,f)])}
  | .p (.cq t)=>bif sE (aL t) (.agg u)then match(cA t)[f]? with
   |some g=>some {v:=.p (.cq g)}
   |none=>none
   else none
  |_=>none
  else none
 |_=>none
theorem Rx{T:ay}{a:AV}{f:Nat}{e:aU}{K:aU->Prop}(h:A0 P T a f=some e)(hk:K e):ni P T a f K:=by
 unfold A0 at h;unfold ni
 split at h
 ·rename_i hs;simp only[ao,dp]at h;obtain⟨b,h⟩:=h;simp only[hs];refine⟨by have:=cW b;omega,?_⟩
  split at h
  ·simp only[dq]at h;subst h;exact hk
  ·simp only[dq]at h;subst h;exact hk
  ·simp only[dp]at h;obtain⟨c,h⟩:=h
   split at h
   ·rename_i d;simp only[dq]at h;subst h;simp only[d];exact⟨(iK c).1,hk⟩
   ·simp at h
  ·simp at h
 ·simp at h
def oE(a:Option Nat)(b:Nat):Bool:=match a with
 |some x=>c8 x b
 |none=>false
theorem vq{a:Option Nat}{b:Nat}(h:oE a b=true):a=some b:=by
 unfold oE at h;split at h
 ·rw[dv h]
 ·simp at h
def AX(P:a0)(T:ay)(H:Heap)(x i:AV):Option aU:=
 match i with
 | .p (.int _ (.ofNat i))=>match x with
  | .p (.bE _ es)=>match es[i]? with
   |some y=>bif oE (cQ P T) (bB P (aL y))then some {v:=.p (.cq y)}else none
   |none=>none
  | .p (.seq es)=>match es[i]? with
   |some y=>bif oE (cQ P T) (bB P (aL y))then some {v:=.p (.cq y)}else none
   |none=>none
  | .sl b an ai off len=>bif oE (cQ P T) ai&&c7 (i+1) len then match H[b]? with
   |some (.arr k c a es)=>bif c8 an c&&(c8 ai a&&nU k es)then some {v:=.b6 b an ai (off+i) [],aj:=[(b,.arr k c a es)]}else none
   |_=>none
   else none
  | .ptr b path=>match gU P T with
   |some (u,n)=>bif c7 (i+1) n then some {v:=.ptr b (path++[(u,i)])}else none
   |_=>none
  | .b6 b an ai j path=>match gU P T with
   |some (u,n)=>bif c7 (i+1) n then some {v:=.b6 b an ai j (path++[(u,i)])}else none
   |_=>none
  | .p (.cq t)=>match gU P T with
   |some (u,n)=>bif sE (aL t) (.agg u)&&c7 (i+1) n then match(cA t)[i]? with
    |some g=>some {v:=.p (.cq g)}
    |none=>none
    else none
   |_=>none
  |_=>none
 |_=>none
theorem RM{T:ay}{H:Heap}{x i:AV}{e:aU}{K:aU->Prop}(h:AX P T H x i=some e)(hk:K e):nh P T H x i K:=by
 unfold AX at h;unfold nh
 split at h
 case h_2=>simp at h
 rename_i i;refine⟨a7 _,?_⟩;simp only[a8,a9]
 split at h
 ·split at h
  ·rename_i y d;simp only[ao,dp,dq]at h;obtain⟨a,rfl⟩:=h;obtain⟨hi,rfl⟩:=be.1 d;exact⟨hi,vq a,hk⟩
  ·simp at h
 ·split at h
  ·rename_i y d;simp only[ao,dp,dq]at h;obtain⟨a,rfl⟩:=h;obtain⟨hi,rfl⟩:=be.1 d;exact⟨hi,vq a,hk⟩
  ·simp at h
 ·simp only[ao,dp,ap]at h;obtain⟨⟨a,c⟩,h⟩:=h;refine⟨vq a,by have:=cW c;omega,?_⟩
  split at h
  ·rename_i k;simp only[dp,dq]at h;obtain⟨⟨f,g,j⟩,rfl⟩:=h;simp only[k];exact⟨dv f,dv g,u4 j,hk⟩
  ·simp at h
 ·split at h
  ·rename_i b;simp only[ao,dp,dq]at h;obtain⟨a,rfl⟩:=h;simp only[b];exact⟨by have:=cW a;omega,hk⟩
  ·simp at h
 ·split at h
  ·rename_i b;simp only[ao,dp,dq]at h;obtain⟨a,rfl⟩:=h;simp only[b];exact⟨by have:=cW a;omega,hk⟩
  ·simp at h
 ·split at h
  ·rename_i b;simp only[ao,dp,ap]at h;obtain⟨⟨a,c⟩,h⟩:=h
   split at h
   ·rename_i l;simp only[dq]at h;subst h;simp only[b,l];exact⟨(iK a).1,by have:=cW c;omega,hk⟩
   ·simp at h
  ·simp at h
 ·simp at h
def Cq(P:a0)(T X:ay)(H:Heap)(s x:AV):Option aU:=
 match cQ P T,gI H x with
 |some sz,some xs=>bif iy P X&&((cG P (dU P T)).isSome&&o9 P sz xs)then
  match s with
  | .p .aK=>match xs with
   |[]=>some {v:=s,aj:=dB H x}
   |y::r=>bif c7 (y::r).length cF then some {v:=.sl H.length 0 sz 0 (y::r).length,aj:=dB H x,aS:=[.arr (gk P T) 0 sz (y::r)]}else none
  | .p (.bE full es)=>bif o9 P sz (es.map .p)then match xs with
   |[]=>some {v:=s,aj:=dB H x}
   |y::r=>bif full&&c7 (es.length+(y::r).length) cF then
    some {v:=.sl H.length 0 sz 0 (es.length+(y::r).length),aj:=dB H x,aS:=[.arr (gk P T) 0 sz (es.map .p++(y::r))]}else none
   else none
  | .sl b an ai off len=>match H[b]? with
   |some (.arr k c a es)=>bif c8 an c&&(c8 ai a&&(c8 ai sz&&c7 (off+len) es.length))then
    match xs with
    |[]=>some {v:=s,aj:=(b,.arr k c a es)::dB H x}
    |y::r=>bif c7 (es.length+(y::r).length) cF then match k with
     | .frozen=>none
     | .exact=>bif c7 (off+len+(y::r).length) es.length then
      some {v:=.sl b an ai off (len+(y::r).length),aj:=(b,.arr .exact c a es)::dB H x,aG:=[(b,.arr .exact an ai (es.take (off+len)++(y::r)++es.drop (off+len+(y::r).length)))]}
      else some {v:=.sl H.length 0 sz 0 (len+(y::r).length),aj:=(b,.arr .exact c a es)::dB H x,aS:=[.arr (gk P T) 0 sz ((es.drop off).take len++(y::r))]}
     | .grow=>bif c8 off 0 then some {v:=.sl b (an+1) ai 0 (len+(y::r).length),aj:=(b,.arr .grow c a es)::dB H x,aG:=[(b,.arr .grow (an+1) ai (es.take len++(y::r)))]}else none
     | .bytes=>bif c8 off 0&&c8 (dU P T) Gl.u8 then some {v:=.sl b (an+1) ai 0 (len+(y::r).length),aj:=(b,.arr .bytes c a es)::dB H x,aG:=[(b,.arr .bytes (an+1) ai (es.take len++(y::r)))]}else none
     else none
    else none
   |_=>none
  |_=>none
  else none
 |_,_=>none
theorem QE{T X:ay}{H:Heap}{s x:AV}{e:aU}{K:aU->Prop}(h:Cq P T X H s x=some e)(hk:K e):nq P T X H s x K:=by
 unfold Cq at h;unfold nq
 split at h
 case h_2=>simp at h
 rename_i sz r n p;simp only[ao,dp,ap]at h;obtain⟨⟨g,j,k⟩,h⟩:=h;simp only[n,p];refine⟨g,j,sM k,?_⟩
 split at h
 ·split at h
  ·simp only[dq]at h;subst h;simpa using hk
  ·simp only[dp,dq]at h;obtain⟨a,rfl⟩:=h;simp only[b1,av,if_false];exact⟨cW a,hk⟩
 ·simp only[dp]at h;obtain⟨a,h⟩:=h;refine⟨sM a,?_⟩
  split at h
  ·simp only[dq]at h;subst h;simpa using hk
  ·simp only[dp,dq]at h;obtain⟨⟨b,c⟩,rfl⟩:=h;simp only[b1,av,if_false];exact⟨b,cW c,hk⟩
 ·split at h
  case h_2=>simp at h
  rename_i o;simp only[dp]at h;obtain⟨⟨a,b,c,l⟩,h⟩:=h;simp only[o];refine⟨dv a,dv b,dv c,cW l,?_⟩
  split at h
  ·simp only[dq]at h;subst h;simpa using hk
  ·simp only[dp]at h;obtain⟨m,h⟩:=h;simp only[b1,av,if_false];refine⟨cW m,?_⟩
   split at h
   ·simp at h
   ·split at h
    ·rename_i f;simp only[dq]at h;subst h;simp only[cW f,if_true];exact hk
    ·rename_i f;simp only[dq]at h;subst h;rw[if_neg (fun q=>f (da q))];exact hk
   ·simp only[dp,dq]at h;obtain⟨d,rfl⟩:=h;exact⟨dv d,(fun h=>by cases h),hk⟩
   ·simp only[dp,dq]at h;obtain⟨⟨d,i⟩,rfl⟩:=h;exact⟨dv d,fun _=>dv i,hk⟩
 ·simp at h
end
section
variable{P:a0}{ah:aT->Bool}
def jD(x:Option AV)(d:Nat):Option Nat:=
 match x with
 |none=>some d
 |some (.p (.int _ (.ofNat i)))=>some i
 |_=>none
theorem ka{x:Option AV}{d n:Nat}{K:Nat->Prop}(h:jD x d=some n)(hk:K n):gB x d K:=by
 unfold jD at h;unfold gB
 split at h
 ·simp only[dq]at h;subst h;exact hk
 ·simp only[dq]at h;subst h;exact⟨a7 _,hk⟩
 ·simp at h
def CB(P:a0)(T:ay)(H:Heap)(x:AV)(lo hi e:Option AV):Option aU:=
 match e with
 |some _=>none
 |none=>match x with
  | .p (.str s)=>match jD hi s.length,jD lo 0 with
   |some h,some l=>bif iu P T&&(c7 h s.length&&c7 l h)then some {v:=.p (.str ((s.take h).drop l))}else none
   |_,_=>none
  | .p .aK=>match jD hi 0,jD lo 0 with
   |some h,some l=>bif (cQ P T).isSome&&(c7 h 0&&c7 l h)then some {v:=x}else none
   |_,_=>none
  | .p (.bE full es)=>match jD hi es.length,jD lo 0,cQ P T with
   |some h,some l,some sz=>bif c7 h es.length&&(c7 l h&&o9 P sz (es.map .p))then some {v:=.p (.bE (full&&h==es.length) ((es.take h).drop l))}else none
   |_,_,_=>none
  | .p (.seq es)=>match jD hi es.length,jD lo 0,cQ P T with
   |some h,some l,some sz=>bif c7 h es.length&&(c7 l h&&o9 P sz (es.map .p))then some {v:=.p (.seq ((es.take h).drop l))}else none
   |_,_,_=>none
  | .sl b an ai off len=>match H[b]? with
   |some (.arr k c a es)=>match jD hi len,jD lo 0 with
    |some h,some l=>bif c8 an c&&(c8 ai a&&(oE (cQ P T) ai&&(nU k es&&(c7 (off+len) es.length&&(c7 (off+h) es.length&&c7 l h)))))then
     match l with
     |0=>some {v:=.sl b an ai off h,aj:=[(b,.arr k c a es)]}
     |d+1=>bif c8 (d+1) h then some {v:=.p (.bE false []),aj:=[(b,.arr k c a es)]}else some {v:=.sl b an ai (off+(d+1)) (h-(d+1)),aj:=[(b,.arr k c a es)]}
     else none
    |_,_=>none
   |_=>none
  |_=>none
theorem T7{T:ay}{H:Heap}{x:AV}{lo hi i:Option AV}{e:aU}{K:aU->Prop}(h:CB P T H x lo hi i=some e)(hk:K e):nB P T H x lo hi i K:=by
 unfold CB at h;unfold nB
 split at h
 ·simp at h
 refine⟨rfl,?_⟩
 split at h
 ·split at h
  case h_2=>simp at h
  rename_i a b;simp only[ao,dp,ap,dq]at h;obtain⟨⟨c,d,f⟩,rfl⟩:=h;exact⟨c,ka a (ka b ⟨cW d,cW f,hk⟩)⟩
 ·split at h
  case h_2=>simp at h
  rename_i a b;simp only[ao,dp,ap,dq]at h;obtain⟨⟨c,d,f⟩,rfl⟩:=h;exact⟨c,ka a (ka b ⟨cW d,cW f,hk⟩)⟩
 ·split at h
  case h_2=>simp at h
  rename_i a b c;simp only[ao,dp,ap,dq]at h;obtain⟨⟨d,f,g⟩,rfl⟩:=h;refine ka a (ka b ⟨cW d,cW f,?_⟩);simp only[c];exact⟨sM g,hk⟩
 ·split at h
  case h_2=>simp at h
  rename_i a b c;simp only[ao,dp,ap,dq]at h;obtain⟨⟨d,f,g⟩,rfl⟩:=h;refine ka a (ka b ⟨cW d,cW f,?_⟩);simp only[c];exact⟨sM g,hk⟩
 ·split at h
  case h_2=>simp at h
  rename_i m
  split at h
  case h_2=>simp at h
  rename_i a b;simp only[ao,dp,ap]at h;obtain⟨⟨c,d,f,g,j,k,l⟩,h⟩:=h;simp only[m];refine⟨dv c,dv d,vq f,u4 g,cW j,ka a (ka b ⟨cW k,cW l,?_⟩)⟩
  split at h
  ·simp only[dq]at h;subst h;simpa using hk
  ·rw[if_neg o_]
   split at h
   ·rename_i hl;simp only[dq]at h;subst h;rw[if_pos (dv hl)];exact hk
   ·rename_i hl;simp only[dq]at h;subst h;rw[if_neg (fun e=>hl (by rw[<-e];exact db _))];exact hk
 ·simp at h
def BT(P:a0)(T:ay)(H:Heap)(x:AV)(lo hi:Option AV)(m:AV):Option aU:=
 match x with
 | .sl b an ai off len=>match H[b]? with
  |some (.arr k c a es)=>match jD hi len,jD lo 0,jD (some m) 0 with
   |some h,some l,some m=>bif c8 an c&&(c8 ai a&&((cQ P T).isSome&&(nU k es&&(c7 (off+len) es.length&&(hi.isSome&&(c7 (off+m) es.length&&(c7 h m&&c7 l h)))))))then
    some {v:=.p .undef,aj:=[(b,.arr k c a es)]}else none
   |_,_,_=>none
  |_=>none
 |_=>none
theorem TK{T:ay}{H:Heap}{x:AV}{lo hi:Option AV}{m:AV}{e:aU}{K:aU->Prop}(h:BT P T H x lo hi m=some e)(hk:K e):pT P T H x lo hi m K:=by
 unfold BT at h;unfold pT
 split at h
 case h_2=>simp at h
 split at h
 case h_2=>simp at h
 rename_i d
 split at h
 case h_2=>simp at h
 rename_i a b c;simp only[ao,dp,ap,dq]at h;obtain⟨⟨g1,g2,g3,g4,g5,g6,g7,g8,g9⟩,rfl⟩:=h;simp only[d];exact⟨dv g1,dv g2,g3,u4 g4,cW g5,g6,ka a (ka b (ka c ⟨cW g7,cW g8,cW g9,hk⟩))⟩
def yR(ok:Bool)(z:PV)(r:Option PV):PV:=
 match r with
 |some v=>bif ok then .aE [v,.bool true]else v
 |none=>bif ok then .aE [z,.bool false]else z
def az6(ok:Bool)(z:PV)(r:Option AV):AV:=
 match r with
 |some v=>bif ok then .aE [v,.p (.bool true)]else v
 |none=>.p (bif ok then .aE [z,.bool false]else z)
def KX(P:a0)(T:ay)(H:Heap)(x i:AV)(ok:Bool):Option aU:=
 match jk P T,i with
 |some (a,E),.p key=>match cG P E with
  |some z=>bif eO P a key then match x with
   | .p .fx=>some {v:=.p (yR ok z none)}
   | .p (.eS es)=>match fT P a es key with
    |some r=>some {v:=.p (yR ok z r)}
    |none=>none
   | .map b=>match H[b]? with
    |some (.map fz es)=>match fT P a es key with
     |some r=>some {v:=.p (yR ok z r),aj:=[(b,.map fz es)]}
     |none=>none
    |some (.cT ks vs)=>bif kS key then match jw P a ks vs key with
     |some r=>some {v:=az6 ok z r,aj:=[(b,.cT ks vs)]}
     |none=>none
     else none
    |_=>none
   |_=>none
   else none
  |none=>none
 |_,_=>none
def zp(P:a0)(c:ay)(b:Nat)(key:PV)(x:AV)(a:Obj):Option aU:=
 match oi a with
 |some (ks,vs)=>bif kS key then match jw P c ks vs key with
  |some none=>some {v:=.p (.aE []),aj:=[(b,a)],aG:=[(b,.cT (ks++[key]) (vs++[x]))]}
  |_=>none
  else none
 |none=>none
theorem z6{P:a0}{a:ay}{b:Nat}{key:PV}{x:AV}{c:Obj}{e:aU}{K:aU->Prop}(h:zp P a b key x c=some e)(hk:K e):mf P a b key x c K:=by
 unfold zp at h;unfold mf
 split at h
 ·rename_i ks vs f;simp only[ao,dp]at h;obtain⟨d,h⟩:=h
  split at h
  ·rename_i hl;simp only[dq]at h;subst h;simp only[f];exact⟨d,hl,hk⟩
  ·cases h
 ·cases h
def KS(P:a0)(T:ay)(H:Heap)(m k x:AV):Option aU:=
 match jk P T,m,k with
 |some (a,_),.map b,.p key=>bif eO P a key then match H[b]? with
  |some (.map false es)=>match x with
   | .p v=>match lM P a es key with
    |some _=>some {v:=.p (.aE []),aj:=[(b,.map false es)],aG:=[(b,.map false (gA es key v))]}
    |none=>none
   |x=>zp P a b key x (.map false es)
  |some (.cT ks vs)=>zp P a b key x (.cT ks vs)
  |_=>none
  else none
 |_,_,_=>none
def O2(H:Heap)(it:AV):Option aU:=
 match it with
 | .ptr b []=>match H[b]? with
  |some (.dx s pos)=>bif c7 (pos+1) s.length then
   some {v:=.p (.aE [.bool true,.int .i64 pos,.int .i32 (Utf8.decode (gu s) pos).1]),aj:=[(b,.dx s pos)],aG:=[(b,.dx s (pos+(Utf8.decode (gu s) pos).2))]}
   else some {v:=.p (.aE [.bool false]),aj:=[(b,.dx s pos)]}
  |_=>none
 |_=>none
def JM(P:a0)(H:Heap)(b:Builtin)(c:Array ay)(args:List AV):Option aU:=
 match b,args with
 | .len,[x]=>match lenOf H x with
  |some (n,aj)=>bif gQ P (c.getD 0 0) x&&c7 1 c.size then some {v:=.p (.int .i64 n),aj}else none
  |none=>none
 | .append,[s,x]=>bif c8 c.size 2 then Cq P (c.getD 0 0) (c.getD 1 0) H s x else none
 | .min,.p (.int k a)::r=>match lF k false r a with
  |some n=>some {v:=.p (.int k n)}
  |none=>none
 | .max,.p (.int k a)::r=>match lF k true r a with
  |some n=>some {v:=.p (.int k n)}
  |none=>none
 | .copy,[d,x]=>match cQ P (c.getD 0 0),d,gI H x with
  |some sz,.sl b an ai off len,some xs=>bif c8 ai sz&&(o9 P sz xs&&c8 c.size 2)then match H[b]? with
   |some (.arr k f e es)=>bif c8 an f&&(c8 ai e&&(vI k&&(c7 (off+len) es.length&&nU k es)))then
    some {v:=.p (.int .i64 (min xs.length len:Nat)),aj:=(b,.arr k f e es)::dB H x,aG:=[(b,.arr k f e (es.take off++xs.take (min xs.length len)++es.drop (off+min xs.length len)))]}
    else none
   |_=>none
   else none
  |_,_,_=>none
 | .cap,[x]=>match y9 H x with
  |some (n,aj)=>bif gQ P (c.getD 0 0) x&&c7 1 c.size then some {v:=.p (.int .i64 n),aj}else none
  |none=>none
 | .clear,[x]=>match x with
  | .p .aK=>bif gQ P (c.getD 0 0) x&&c7 1 c.size then some {v:=.p (.aE [])}else none
  | .sl b an ai off len=>match cQ P (c.getD 0 0),cG P (dU P (c.getD 0 0)),H[b]? with
   |some sz,some z,some (.arr k f e es)=>bif c8 an f&&(c8 ai e&&(c8 ai sz&&(c8 (bB P (aL z)) sz&&(vI k&&(c7 (off+len) es.length&&(nU k es&&(c7 1 c.size&&c7 1 len)))))))then
    some {v:=.p (.aE []),aj:=[(b,.arr k f e es)],aG:=[(b,.arr k f e (es.take off++bi len (.p z)++es.drop (off+len)))]}else none
   |_,_,_=>none
  |_=>none
 | .unsafeSliceData,[x]=>match x with
  | .p .aK=>some {v:=.p .dE}
  | .sl b an ai off len=>match H[b]? with
   |some (.arr k f e es)=>bif c8 an f&&c8 ai e then
    bif nU k es then(bif c7 1 len&&c7 (off+len) es.length then some {v:=.b6 b an ai off [],aj:=[(b,.arr k f e es)]}else none)
    else some {v:=.p .dE,aj:=[(b,.arr k f e es)]}
    else none
   |_=>none
  |_=>none
 | .unsafeString,[x,.p (.int .i64 (.ofNat n))]=>match x with
  | .p .dE=>bif c8 n 0&&c8 c.size 2 then some {v:=.p (.str [])}else none
  | .b6 b an ai i []=>match H[b]? with
   |some (.arr .bytes f e es)=>bif c8 an f&&(c8 ai e&&(c8 ai 1&&(c8 i 0&&(c7 1 n&&(c7 n es.length&&(c7 n 9223372036854775807&&(c8 c.size 2&&(oE (ptrTo P (c.getD 0 0)) Gl.u8&&c8 (P.cellsOf Gl.u8) 1))))))))then
    match bytesOf (es.take n)with
    |some l=>some {v:=.p (.str l),aj:=[(b,.arr .bytes f e es)],aG:=[(b,.dead)]}
    |none=>none
    else none
   |_=>none
  |_=>none
 |_,_=>none
def zx(P:a0)(ah:aT->Bool)(o:Oper)(ρ:ax->AV)(H:Heap):Option aU:=
 match o.op with
 | .move x| .assign x=>some {v:=ρ x}
 | .pick c a b=>match ρ c with
  | .p (.bool t)=>some {v:=bif t then ρ a else ρ b}
  |_=>none
 | .alloc T=>match cG P T with
  |some z=>bif sE (kindOf P T) (aL z)&&jn T (aL z)then some {v:=.ptr H.length [],aS:=[.box false (.p z)]}else none
  |none=>none
 | .box T x=>bif sE (kindOf P T) (ad (ρ x))&&jn T (ad (ρ x))then some {v:=.ptr H.length [],aS:=[.box false (ρ x)]}else none
 | .build T parts=>match kindOf P T,cG P T with
  | .agg u,some z=>match dF P u with
   |some l=>bif sE (aL z) (.agg u)&&u5 P l (parts.toList.map fun(i,x)=>(i,ρ x))then some {v:=gV u (ir ((cA z).map .p) (parts.toList.map fun(i,x)=>(i,ρ x)))}else none
   |none=>none
  |_,_=>none
 | .buildSlice T n parts=>match cQ P T,cG P (dU P T)with
  |some sz,some z=>bif c8 (bB P (aL z)) sz&&(c7 (n*sz) 1000000&&u5 P (bi n sz) (parts.toList.map fun(i,x)=>(i,ρ x)))then
   some {v:=.sl H.length 0 sz 0 n,aS:=[.arr .exact 0 sz (ir (bi n (.p z)) (parts.toList.map fun(i,x)=>(i,ρ x)))]}else none
  |_,_=>none
 | .load T a=>Dw P T H (ρ a)
 | .store T a x=>Cz P T H (ρ a) (ρ x)
 | .binOp op T x y _=>match C5 P op T (lX y) H (ρ x) (ρ y)with
  |some v=>some {v:=.p v,aj:=dB H (ρ x)}
  |none=>none
 | .unOp op _ x=>match op,ρ x with
  | .not,.p (.bool b)=>some {v:=.p (.bool (!b))}
  | .neg,.p (.int k n)=>some {v:=.p (.int k (k.wrap (0-n)))}
  | .xor,.p (.int k n)=>some {v:=.p (.int k (k.wrap (am k.bits (if k.signed then -1 else k.max)^^^am k.bits n).toNat))}
  |_,_=>none
 | .convert S D x=>match P.underlying S,P.underlying D,ρ x with
  |some _,some (.int k),.p (.int _ n)=>some {v:=.p (.int k (k.wrap n))}
  |some _,some .string,.p (.str s)=>some {v:=.p (.str s)}
  |_,_,_=>none
 | .extract t i=>match ρ t with
  | .p (.aE vs)=>match vs[i]? with
   |some v=>some {v:=.p v}
   |none=>none
  | .aE vs=>match vs[i]? with
   |some v=>some {v}
   |none=>none
  |_=>none
 | .fieldAddr T a f=>A0 P T (ρ a) f
 | .indexAddr T x i=>AX P T H (ρ x) (ρ i)
 | .field T x f=>match kindOf P T,P.underlying T,ρ x with
  | .agg u,some (.struct _),.p t=>match(cA t)[f]?,(jy P u)[f]? with
   |some g,some F=>bif sE (aL t) (.agg u)&&sE (kindOf P F) (aL g)then some {v:=.p g}else none
   |_,_=>none
  |_,_,_=>none
 | .index T x i=>match ρ x,ρ i with
  | .p (.str s),.p (.int _ (.ofNat i))=>match s[i]? with
   |some c=>bif iu P T then some {v:=.p (.int .u8 c)}else none
   |none=>none
  | .p (.st u es),.p (.int _ (.ofNat i))=>match gU P T,(jy P u)[i]?,es[i]? with
   |some (u',n),some F,some g=>bif c8 u' u&&(c7 (i+1) n&&sE (kindOf P F) (aL g))then some {v:=.p g}else none
   |_,_,_=>none
  |_,_=>none
 | .makeFunc (.func f) fi ca=>bif ah f then match fD H (fi.toList.map ρ),fD H (ca.toList.map ρ)with
   |some (a,[],[]),some (b,aj,aG)=>some {v:=.p (.func f a b),aj,aG}
   |_,_=>none
  else match eH (fi.toList.map ρ),eH (ca.toList.map ρ)with
   |some a,some b=>some {v:=.p (.func f a b)}
   |_,_=>some {v:=.func f (fi.toList.map ρ) (ca.toList.map ρ)}
 | .makeSlice T l c=>match cQ P T,cG P (dU P T),ρ l,ρ c with
  |some sz,some z,.p (.int .i64 (.ofNat l)),.p (.int .i64 (.ofNat c))=>bif c8 (bB P (aL z)) sz&&(c8 l c&&c7 l cF)then
   some {v:=.sl H.length 0 sz 0 l,aS:=[.arr .exact 0 sz (bi l (.p z))]}else none
  |_,_,_,_=>none
 | .slice T x lo hi d=>match d with
  |none=>CB P T H (ρ x) (lo.map ρ) (hi.map ρ) none
  |some m=>BT P T H (ρ x) (lo.map ρ) (hi.map ρ) (ρ m)
 | .makeMap _ none=>some {v:=.map H.length,aS:=[.map false []]}
 | .lookup T x i ok=>KX P T H (ρ x) (ρ i) ok
 | .mapUpdate T m k x| .insert T m k x=>KS P T H (ρ m) (ρ k) (ρ x)
 | .range T x=>match ρ x with
  | .p (.str s)=>bif iu P T then some {v:=.ptr H.length [],aS:=[.dx s 0]}else none
  |_=>none
 | .next it true=>O2 H (ρ it)
 | .nilCheck x=>match ρ x with
  | .ptr _ _| .b6 _ _ _ _ _| .p (.cq _)=>some {v:=ρ x}
  |_=>none
 | .call c=>match c.callee with
  | .builtin b=>JM P H b c.argTypes (c.args.toList.map ρ)
  |_=>none
 |_=>none
theorem MC{o:Oper}{ρ:ax->AV}{H:Heap}{e:aU}{K:aU->Prop}(h:zx P ah o ρ H=some e)(hk:K e):fy P ah o ρ H K:=by
 unfold zx at h;unfold fy;cases ac:o.op<;>simp only[ac]at h<;>simp only
 case move|assign=>simp only[dq]at h;subst h;exact hk
 case pick c a b=>
  split at h
  ·rename_i t hc;simp only[dq]at h;subst h;simp only[hc];cases t<;>exact hk
  ·simp at h
 case alloc T=>
  split at h
  ·rename_i z E;simp only[ao,dp,dq,ap]at h;obtain⟨⟨d,j⟩,rfl⟩:=h;simp only[E];exact⟨(iK d).1,(iK d).2,j,hk⟩
  ·simp at h
 case box T x=>
  simp only[ao,dp,dq,ap]at h;obtain⟨⟨d,j⟩,rfl⟩:=h;exact⟨(iK d).1,(iK d).2,j,hk⟩
 case build T parts=>
  split at h
  ·rename_i u z ad E
   split at h
   ·rename_i l hl;simp only[ao,dp,dq,ap]at h;obtain⟨⟨d,j⟩,rfl⟩:=h;simp only[ad,E,hl];exact⟨(iK d).1,A9 j,hk⟩
   ·simp at h
  ·simp at h
 case buildSlice T n parts=>
  split at h
  ·rename_i sz z I E;simp only[ao,dp,dq,ap]at h;obtain⟨⟨d,j,q⟩,rfl⟩:=h;simp only[I,E];exact⟨dv d,cW j,A9 q,hk⟩
  ·simp at h
 case load T a=>exact VO h hk
 case store T a x=>exact T4 h hk
 case binOp op T x y af=>
  split at h
  ·rename_i v L;simp only[dq]at h;subst h;exact WN (K:=fun v=>K {v:=.p v,aj:=dB H (ρ x)}) L hk
  ·simp at h
 case unOp op T x=>
  split at h
  all_goals first
   |(rename_i hx;simp only[dq]at h;subst h;simp only[hx];exact hk)
   |simp at h
 case convert S D x=>
  split at h
  ·rename_i d j q;simp only[dq]at h;subst h;simp only[d,j,q];exact hk
  ·rename_i d j q;simp only[dq]at h;subst h;simp only[d,j,q];exact hk
  ·simp at h
 case extract t i=>
  split at h
  ·rename_i R
   split at h
   ·rename_i L;simp only[dq]at h;subst h;simp only[R,L];exact hk
   ·simp at h
  ·rename_i R
   split at h
   ·rename_i L;simp only[dq]at h;subst h;simp only[R,L];exact hk
   ·simp at h
  ·simp at h
 case fieldAddr T a f=>exact Rx h hk
 case indexAddr T x i=>exact RM h hk
 case field T x f=>
  split at h
  ·rename_i d j q
   split at h
   ·rename_i A w;simp only[ao,dp,dq,ap]at h;obtain⟨⟨B,C⟩,rfl⟩:=h;simp only[d,j,q,A,w];exact⟨(iK B).1,(iK C).1,hk⟩
   ·simp at h
  ·simp at h
 case index T x i=>
  split at h
  ·rename_i d j
   split at h
   ·rename_i c hc;simp only[ao,dp,dq]at h;obtain⟨q,rfl⟩:=h;obtain⟨hi,rfl⟩:=be.1 hc;simp only[d,j];exact⟨q,a7 _,hi,hk⟩
   ·simp at h
  ·rename_i u V al i d j
   split at h
   ·rename_i u' n F g q A w;simp only[ao,dp,dq,ap]at h;obtain⟨⟨g1,g2,g3⟩,rfl⟩:=h;have e:(Int.ofNat i).toNat=i:=rfl;simp only[d,j,e,q,A,w];exact⟨dv g1,a7 _,cW g2,(iK g3).1,hk⟩
   ·simp at h
  ·simp at h
 case makeFunc fn fi ca=>
  cases fn<;>simp only at h<;>try (simp at h;done)
  rename_i f;simp only;simp only[ao]at h
  split at h
  ·rename_i hf;rw[if_pos hf]
   split at h
   ·rename_i d j;simp only[dq]at h;subst h;simp only[d,j];exact hk
   ·simp at h
  ·rename_i hf;rw[if_neg hf]
   split at h
   ·rename_i d j;simp only[dq]at h;subst h;simp only[d,j];exact hk
   ·rename_i ab;simp only[dq]at h;subst h
    split
    ·rename_i d j;exact(ab _ _ d j).elim
    ·exact hk
 case makeSlice T l c=>
  split at h
  ·rename_i d j q A;simp only[ao,dp,dq,ap]at h;obtain⟨⟨w,B,C⟩,rfl⟩:=h;have e:=dv B;simp only[d,j,q,A];refine⟨dv w,a7 _,by rw[e],?_,hk⟩;have:=cW C;show((_:Nat):Int)<=_
   exact_mod_cast this
  ·simp at h
 case slice T x lo hi ae=>
  cases ae with
  |none=>exact T7 h hk
  |some m=>exact TK h hk
 case makeMap T r=>
  cases r<;>simp only at h
  ·simp only[dq]at h;subst h;exact hk
  ·simp at h
 case lookup T x i ok=>
  unfold KX at h
  split at h
  case h_2=>simp at h
  rename_i d j
  split at h
  case h_2=>simp at h
  rename_i z E;simp only[ao,dp]at h;obtain⟨q,h⟩:=h;simp only[d,j,E];refine⟨q,?_⟩
  have M:∀r:Option PV,yR ok z r=match r with
    |some v=>if ok=true then .aE [v,.bool true]else v
    |none=>if ok=true then .aE [z,.bool false]else z:=by
   intro r;cases r<;>cases ok<;>rfl
  split at h
  ·rename_i hx;simp only[dq]at h;subst h;simp only[hx];rw[M]at hk;exact hk
  ·rename_i hx
   split at h
   ·rename_i r J;simp only[dq]at h;subst h;rw[M]at hk;simp only[hx,J];cases r<;>exact hk
   ·simp at h
  ·rename_i hx
   split at h
   ·rename_i s
    split at h
    ·rename_i r J;simp only[dq]at h;subst h;rw[M]at hk;simp only[hx,s,J];cases r<;>exact hk
    ·simp at h
   ·rename_i s;simp only[ao,dp]at h;obtain⟨Z,h⟩:=h
    split at h
    ·rename_i r J;simp only[dq]at h;subst h;simp only[hx,s,J];refine⟨Z,?_⟩;cases r<;>cases ok<;>exact hk
    ·simp at h
   ·simp at h
  ·simp at h
 case mapUpdate T m k x|insert T m k x=>
  unfold KS at h
  split at h
  case h_2=>simp at h
  rename_i d j q;simp only[ao,dp]at h;obtain⟨w,h⟩:=h;simp only[d,j,q];generalize ρ x=X at*
  split at h
  ·rename_i s;cases X with
   |p v=>
    simp only at h;refine⟨w,?_⟩
    split at h
    ·rename_i hl;simp only[dq]at h;subst h;simp only[s,hl];exact hk
    ·simp at h
   |_=>
    refine⟨w,?_⟩;simp only[s];exact z6 h hk
  ·rename_i s;cases X with
   |p v=>
    refine⟨w,?_⟩;simp only[s];exact z6 h hk
   |_=>
    refine⟨w,?_⟩;simp only[s];exact z6 h hk
  ·simp at h
 case range T x=>
  split at h
  ·rename_i hx;simp only[ao,dp,dq]at h;obtain⟨d,rfl⟩:=h;simp only[hx];exact⟨d,hk⟩
  ·simp at h
 case next it isStr=>
  cases isStr<;>simp only at h
  ·simp at h
  unfold O2 at h
  split at h
  ·rename_i hx
   split at h
   ·rename_i s;simp only[hx,s];simp only[ao]at h
    split at h
    ·rename_i Q;simp only[dq]at h;subst h;rw[if_pos (by have:=cW Q;omega)];exact hk
    ·rename_i Q;simp only[dq]at h;subst h;rw[if_neg (fun aa=>Q (da (Nat.succ_le_of_lt aa)))];exact hk
   ·simp at h
  ·simp at h
 case nilCheck x=>
  split at h
  all_goals first
   |(rename_i hx;simp only[dq]at h;subst h;simp only[hx]at hk⊢;exact hk)
   |simp at h
 case call c=>
  split at h
  case h_2=>simp at h
  rename_i b hc;simp only[hc];generalize c.args.toList.map ρ=args at*;generalize c.argTypes=ag at*;unfold JM at h
  split at h
  ·split at h
   ·rename_i hl;simp only[ao,dp,dq,ap]at h;obtain⟨⟨d,j⟩,rfl⟩:=h;simp only[hl];exact⟨d,cW j,hk⟩
   ·simp at h
  ·simp only[ao,dp]at h;exact⟨dv h.1,QE h.2 hk⟩
  ·split at h
   ·rename_i O;simp only[dq]at h;subst h;simp only[O];exact hk
   ·simp at h
  ·split at h
   ·rename_i O;simp only[dq]at h;subst h;simp only[O];exact hk
   ·simp at h
  ·split at h
   ·rename_i I Y;simp only[ao,dp,ap]at h;obtain⟨⟨d,j,q⟩,h⟩:=h;simp only[I,Y];refine⟨dv d,sM j,dv q,?_⟩
    split at h
    ·rename_i s;simp only[dp,dq]at h;obtain⟨⟨A,w,B,C,G⟩,rfl⟩:=h;simp only[s];exact⟨dv A,dv w,CI B,cW C,u4 G,hk⟩
    ·simp at h
   ·simp at h
  ·split at h
   ·rename_i hl;simp only[ao,dp,dq,ap]at h;obtain⟨⟨d,j⟩,rfl⟩:=h;simp only[hl];exact⟨d,cW j,hk⟩
   ·simp at h
  ·split at h
   ·simp only[ao,dp,dq,ap]at h;obtain⟨⟨d,j⟩,rfl⟩:=h;exact⟨d,cW j,hk⟩
   ·split at h
    ·rename_i I E s;simp only[ao,dp,dq,ap]at h;obtain⟨⟨d,j,q,A,w,B,C,G,N⟩,rfl⟩:=h;simp only[I,E,s];exact⟨dv d,dv j,dv q,dv A,CI w,cW B,u4 C,cW G,cW N,hk⟩
    ·simp at h
   ·simp at h
  ·split at h
   ·simp only[dq]at h;subst h;exact hk
   ·split at h
    ·rename_i s;simp only[ao,dp,ap]at h;obtain⟨⟨d,j⟩,h⟩:=h;simp only[s];refine⟨dv d,dv j,?_⟩
     split at h
     ·simp only[dp,dq]at h;obtain⟨⟨A,w⟩,rfl⟩:=h;exact .inr ⟨cW A,cW w,hk⟩
     ·rename_i U;simp only[dq]at h;subst h;rename_i k _ _ V _ _;refine .inl ⟨?_,?_,hk⟩<;>(unfold nU at U;split at U<;>simp_all)
    ·simp at h
   ·simp at h
  ·split at h
   ·simp only[ao,dp,dq,ap]at h;obtain⟨⟨d,j⟩,rfl⟩:=h;exact⟨by rw[dv d];rfl,dv j,hk⟩
   ·split at h
    ·rename_i s;simp only[ao,dp,ap]at h;obtain⟨⟨d,j,q,A,w,B,C,G,N,W⟩,h⟩:=h;have ai:=cW w;have ak:=cW C;simp only[s];refine⟨dv d,dv j,dv q,dv A,by simp;omega,by simpa using cW B,by simp;omega,dv G,vq N,dv W,?_⟩;simp only[a8,a9]
     split at h
     ·rename_i hl;simp only[dq]at h;subst h;simp only[hl];exact hk
     ·simp at h
    ·simp at h
   ·simp at h
  ·simp at h
 all_goals simp at h
end
end Go.aw
namespace Go.aw
variable[Gl]
section
variable(σ:Nat->Nat)
mutual
def cK:AV->AV
 | .p v=>.p v
 | .ptr b path=>.ptr (σ b) path
 | .b6 b an ai i path=>.b6 (σ b) an ai i path
 | .sl b an ai off len=>.sl (σ b) an ai off len
 | .map b=>.map (σ b)
 | .func f fi ca=>.func f (cM fi) (cM ca)
 | .st u fs=>.st u (cM fs)
 | .aE vs=>.aE (cM vs)
def cM:List AV->List AV
 |[]=>[]
 |v::vs=>cK v::cM vs
end
def sS:Env->Env
 |[]=>[]
 |(x,v)::r=>(x,cK σ v)::sS r
def cX:Obj->Obj
 | .box fz t=>.box fz (cK σ t)
 | .arr k an ai es=>.arr k an ai (cM σ es)
 | .cT ks vs=>.cT ks (cM σ vs)
 | .loop L=>.loop {L with env:=sS σ L.env}
 |o=>o
end
section
variable{σ:Nat->Nat}
theorem BM:∀(e:Env)(x:Nat),aO (sS σ e) x=cK σ (aO e x)
 |[],_=>rfl
 |(y,v)::r,x=>by
  simp only[sS,aO]
  split
  ·rfl
  ·exact BM r x
theorem rO:∀l:List AV,(cM σ l).length=l.length
 |[]=>rfl
 |_::r=>by simp[cM,rO r]
theorem V1{l:List AV}:cM σ l=[]↔l=[]:=by cases l<;>simp[cM]
theorem nC{k:AK}{a:List AV}:dc k (cM σ a)↔dc k a:=by simp[dc,V1]
theorem Lt{v:AV}:(cK σ v).rj↔v.rj:=by cases v<;>simp[cK,AV.rj]
theorem U3{v:AV}:ad (cK σ v)=ad v:=by cases v<;>rfl
theorem Kl:∀{l:List AV},(∀e∈cM σ l,e.rj)↔∀e∈l,e.rj
 |[]=>by simp[cM]
 |v::r=>by simp[cM,Lt,Kl (l:=r)]
theorem pV{o:Obj}:(cX σ o).live↔o.live:=by cases o<;>simp[cX,Obj.live,nC]
theorem Lz{o:Obj}{v:Nat}:(cX σ o).has v↔o.has v:=by cases o<;>simp[cX,Obj.has]
theorem Vt{o:Obj}:cX σ o=.hole↔o=.hole:=by cases o<;>simp[cX]
mutual
theorem Bt{S:Nat×Nat->Prop}:∀(v:AV),aB S (cK σ v)↔aB (fun x=>S (σ x.1,x.2)) v
 | .p _=>by simp[cK,aB]
 | .ptr _ _| .b6 _ _ _ _ _| .sl _ _ _ _ _| .map _=>by simp[cK,aB]
 | .func _ fi ca=>by simp only[cK,aB];rw[rY fi,rY ca]
 | .st _ fs=>by simp only[cK,aB];exact rY fs
 | .aE vs=>by simp only[cK,aB];exact rY vs
theorem rY{S:Nat×Nat->Prop}:∀(l:List AV),aR S (cM σ l)↔aR (fun x=>S (σ x.1,x.2)) l
 |[]=>by simp[cM,aR]
 |v::r=>by simp only[cM,aR];rw[Bt v,rY r]
end
theorem Uq{S:Nat×Nat->Prop}{o:Obj}:(cX σ o).refs S↔o.refs (fun x=>S (σ x.1,x.2)):=by
 cases o<;>simp only[cX,Obj.refs,Bt,rY,BM]
theorem Obj.refs.mono{S T:Nat×Nat->Prop}(h:∀x,S x->T x){o:Obj}(a:o.refs S):o.refs T:=by
 cases o with
 |box fz t=>exact aB.mono h _ a
 |arr k an ai es=>exact aR.mono h _ a
 |cT ks vs=>exact aR.mono h _ a
 |loop L=>exact fun x=>aB.mono h _ (a x)
 |_=>trivial
structure dN(σ:Nat->Nat)(dM:Bd)(H0:Heap)(β:Bd)(H:Heap):Prop where
 obj:∀(b:Nat)(o:Obj),H0[b]?=some o->H[σ b]?=some (cX σ o)
 ak:∀b,b<H0.length->β.ak (σ b)=dM.ak b/\β.cap (σ b)=dM.cap b
section
variable{P:a0}{w:a4}{aa:Nat->Prop}{dM β:Bd}{H0 H:Heap}
theorem dN.box(h:dN σ dM H0 β H){b:Nat}(a:b<H0.length):mr H (σ b)↔mr H0 b:=by
 have c:=h.obj b _ (bb a);have d:=bb a;unfold mr;rw[c,d];cases H0[b]<;>simp[cX]
theorem dN.it(h:dN σ dM H0 β H){b:Nat}(a:b<H0.length):mu H (σ b)↔mu H0 b:=by
 have c:=h.obj b _ (bb a);have d:=bb a;unfold mu;rw[c,d];cases H0[b]<;>simp[cX]
theorem dN.map(h:dN σ dM H0 β H){b:Nat}(a:b<H0.length):nG H (σ b)↔nG H0 b:=by
 have h1:=h.obj b _ (bb a);have c:=bb a;unfold nG;rw[h1,c];cases H0[b]<;>simp[cX,Obj.tS]
theorem dN.loop(h:dN σ dM H0 β H){b:Nat}(a:b<H0.length):gK H (σ b)↔gK H0 b:=by
 have c:=h.obj b _ (bb a);have d:=bb a;unfold gK;rw[c,d];cases H0[b]<;>simp[cX]
theorem dN.arr(h:dN σ dM H0 β H){b an ai:Nat}{k:AK}{es:List AV}(a:b<H0.length):dT H (σ b) an ai k es↔∃gE,dT H0 b an ai k gE/\es=cM σ gE:=by
 have c:=h.obj b _ (bb a);have d:=bb a;unfold dT;rw[c,d];cases H0[b]<;>simp[cX];constructor
 ·rintro⟨rfl,rfl,rfl,rfl⟩;exact⟨_,⟨rfl,rfl,rfl,rfl⟩,rfl⟩
 ·rintro⟨_,⟨rfl,rfl,rfl,rfl⟩,rfl⟩;exact⟨rfl,rfl,rfl,rfl⟩
theorem dN.Dk(h:dN σ dM H0 β H){x:Nat×Nat}(a:x.1<H0.length):aH H (σ x.1,x.2)↔aH H0 x:=by
 have b:=h.obj x.1 _ (bb a);have c:=bb a;unfold aH;rw[b,c];simp[Lz]
def Small(n:Nat):Nat×Nat->Prop:=fun x=>x.1<n
theorem dN.pA(h:dN σ dM H0 β H):∀{a:AV}{v:a3},aB (Small H0.length) a->(bP P β H (cK σ a) v↔bP P dM H0 a v)
 | .p _,_,_| .func _ _ _,_,_| .st _ _,_,_| .aE _,_,_=>by simp[cK,bP]
 | .ptr b path,v,c=>by
  simp only[aB,Small]at c;simp only[cK,bP,h.box c,h.it c,(h.ak b c).1]
 | .b6 b an ai i path,v,c=>by
  simp only[aB,Small]at c;simp only[cK,bP,h.arr c,(h.ak b c).1];constructor
  ·rintro⟨ak,off,o,e,f,g⟩;exact⟨ak,off,o,e,f,fun k d hl l=>g k _ ⟨d,hl,rfl⟩ (by rwa [nC])⟩
  ·rintro⟨ak,off,o,e,f,g⟩;refine⟨ak,off,o,e,f,?_⟩;rintro k _ ⟨d,hl,rfl⟩ l;exact g k d hl (by rwa [nC]at l)
 | .sl b an ai off len,v,c=>by
  simp only[aB,Small]at c;simp only[cK,bP,h.arr c,(h.ak b c).1,(h.ak b c).2];constructor
  ·intro j k d hl;have:=j k _ ⟨d,hl,rfl⟩;simpa only[rO,nC]using this
  ·rintro j k _ ⟨d,hl,rfl⟩;have:=j k d hl;simpa only[rO,nC]using this
 | .map b,v,c=>by
  simp only[aB,Small]at c;simp only[cK,bP,h.map c,h.loop c,(h.ak b c).1]
mutual
theorem dN.LQ(h:dN σ dM H0 β H):∀(a:AV)(cs:List a3),aB (Small H0.length) a->(bg P w aa β H (cK σ a) cs↔bg P w aa dM H0 a cs)
 | .p _,_,_=>by simp[cK,bg]
 | .aE _,_,_=>by simp[cK,bg]
 | .st u fs,cs,d=>by
  simp only[aB]at d;simp only[cK,bg];exact exists_congr fun l=>exists_congr fun e=>and_congr_right fun _=>and_congr_left fun _=>dN.yU h l fs e d
 | .func f fi ca,cs,d=>by
  simp only[aB]at d;simp only[cK,bg];exact exists_congr fun l=>exists_congr fun e=>and_congr (dN.ph h fi l d.1) (and_congr_left fun _=>dN.ph h ca e d.2)
 | .ptr b path,cs,d=>by
  have:=fun v=>h.pA (P:=P) (a:=.ptr b path) (v:=v) d;simp only[cK,bg,bH]at this⊢;simp only[this]
 | .b6 b an ai i path,cs,d=>by
  have:=fun v=>h.pA (P:=P) (a:=.b6 b an ai i path) (v:=v) d;simp only[cK,bg,bH]at this⊢;simp only[this]
 | .sl b an ai off len,cs,d=>by
  have:=fun v=>h.pA (P:=P) (a:=.sl b an ai off len) (v:=v) d;simp only[cK,bg,bH]at this⊢;simp only[this]
 | .map b,cs,d=>by
  have:=fun v=>h.pA (P:=P) (a:=.map b) (v:=v) d;simp only[cK,bg,bH]at this⊢;simp only[this]
theorem dN.yU(h:dN σ dM H0 β H):∀(g:List Nat)(l:List AV)(e:List (List a3)),aR (Small H0.length) l->(bG P w aa β H g (cM σ l) e↔bG P w aa dM H0 g l e)
 |[],[],e,_=>by simp[cM,bG]
 |[],_::_,e,_=>by simp[cM,bG]
 |_::_,[],e,_=>by simp[cM,bG]
 |n::g,v::vs,e,d=>by
  simp only[aR]at d;simp only[cM,bG];exact exists_congr fun c=>exists_congr fun cs=>and_congr_right fun _=>and_congr (dN.LQ h v c d.1) (and_congr_right fun _=>dN.yU h g vs cs d.2)
theorem dN.C0(h:dN σ dM H0 β H):∀(a:AV)(v:a3),aB (Small H0.length) a->(ar P w aa β H (cK σ a) v↔ar P w aa dM H0 a v)
 | .p _,_,_=>by simp[cK,ar]
 | .aE vs,_,d=>by
  simp only[aB]at d;simp only[cK,ar];exact exists_congr fun l=>and_congr_left fun _=>dN.ph h vs l d
 | .st u fs,cs,d=>by
  simp only[aB]at d;simp only[cK,ar];exact exists_congr fun l=>exists_congr fun e=>and_congr_right fun _=>and_congr_left fun _=>dN.yU h l fs e d
 | .func f fi ca,cs,d=>by
  simp only[aB]at d;simp only[cK,ar];exact exists_congr fun l=>exists_congr fun e=>and_congr (dN.ph h fi l d.1) (and_congr_left fun _=>dN.ph h ca e d.2)
 | .ptr b path,v,d=>by
  have:=h.pA (P:=P) (a:=.ptr b path) (v:=v) d;simp only[cK,ar,bH]at this⊢;simp only[this]
 | .b6 b an ai i path,v,d=>by
  have:=h.pA (P:=P) (a:=.b6 b an ai i path) (v:=v) d;simp only[cK,ar,bH]at this⊢;simp only[this]
 | .sl b an ai off len,v,d=>by
  have:=h.pA (P:=P) (a:=.sl b an ai off len) (v:=v) d;simp only[cK,ar,bH]at this⊢;simp only[this]
 | .map b,v,d=>by
  have:=h.pA (P:=P) (a:=.map b) (v:=v) d;simp only[cK,ar,bH]at this⊢;simp only[this]
theorem dN.ph(h:dN σ dM H0 β H):∀(l:List AV)(vs:List a3),aR (Small H0.length) l->(bh P w aa β H (cM σ l) vs↔bh P w aa dM H0 l vs)
 |[],vs,_=>by simp[cM,bh]
 |a::l,vs,d=>by
  simp only[aR]at d;simp only[cM,bh];exact exists_congr fun y=>exists_congr fun j=>and_congr_right fun _=>and_congr (dN.C0 h a y d.1) (dN.ph h l j d.2)
end
theorem dN.O8(h:dN σ dM H0 β H){ag Prot0:Nat->Prop}{b:Nat}{o:Obj}(f:H0[b]?=some o)(c:o.refs (Small H0.length))(a:o.live->∀fz,cw aa dM Prot0 fz b↔cw aa β ag fz (σ b)):
 ft P w aa β H ag (σ b) (cX σ o)↔ft P w aa dM H0 Prot0 b o:=by
 have g:b<H0.length:=(be.1 f).1;obtain⟨k1,k2⟩:=h.ak b g;cases o with
 |hole=>simp[cX,ft]
 |dead=>simp[cX,ft]
 |box fz t=>
  simp only[cX,ft,k1,<-a trivial,h.LQ t _ c,Lt,U3]
 |arr k an ai es=>
  simp only[cX,ft,k1,k2,nC,rO,Kl]
  by_cases e:dc k es
  ·simp[e]
  ·simp only[e,false_or,<-a e,h.yU _ es _ c]
 |map fz es=>
  simp only[cX,ft,k1,<-a trivial]
 |cT ks vs=>
  simp only[cX,ft,k1,<-a trivial,h.ph vs _ c]
 |dx s pos=>
  simp only[cX,ft,k1,<-a trivial]
 |loop L=>
  simp only[cX,ft,k1,<-a trivial,BM];exact exists_congr fun t=>exists_congr fun d=>exists_congr fun fn=>and_congr_right fun _=>and_congr_right fun _=>and_congr_left fun _=>forall_congr' fun x=>h.C0 _ _ (c x)
end
end
end Go.aw
namespace Go.aw
variable[Gl]
def sig(bs:List Nat)(a i:Nat):Nat:=match bs[i]? with
 |some b=>b
 |none=>a+(i-bs.length)
theorem sy{bs:List Nat}{a i:Nat}(h:i<bs.length):sig bs a i=bs[i]:=by simp[sig,h]
theorem sA{bs:List Nat}{a i:Nat}(h:bs.length<=i):sig bs a i=a+(i-bs.length):=by simp[sig,h]
theorem aDn{bs:List Nat}{a:Nat}(e:bs.Nodup)(d:∀b∈bs,b<a){i j:Nat}(h:sig bs a i=sig bs a j):i=j:=by
 by_cases hi:i<bs.length<;>by_cases c:j<bs.length
 ·rw[sy hi,sy c]at h;exact(List.getElem_inj e).1 h
 ·rw[sy hi,sA o_]at h;have:=d _ (cy hi);omega
 ·rw[sA o_,sy c]at h;have:=d _ (cy c);omega
 ·rw[sA o_,sA o_]at h;omega
theorem AH:∀{l:List (Nat×Obj)}{H:Heap}{x:Nat},(∀p∈l,p.1≠x)->(aX H l)[x]?=H[x]?
 |[],_,_,_=>rfl
 |(b,o)::r,H,x,h=>by
  simp only[aX];rw[AH (fun p a=>h p (by simp[a])),List.getElem?_set_ne (h (b,o) s_)]
theorem Bh:∀{l:List (Nat×Obj)}{H:Heap},(l.map (·.1)).Nodup->∀p∈l,p.1<H.length->(aX H l)[p.1]?=some p.2
 |[],_,_,_,h,_=>by simp at h
 |(b,o)::r,H,a,p,c,hl=>by
  simp only[bv,cE]at a;simp only[aX];rcases bk.1 c with rfl|c
  ·rw[AH (fun q hq d=>a.1 (bo.2 ⟨q,hq,d⟩)),List.getElem?_set_self hl]
  ·exact Bh a.2 p c (by simpa using hl)
theorem Bb(a:Nat):∀(l:List Obj),(newAt a l).map (·.1)=List.range' a l.length
 |[]=>rfl
 |o::r=>by simp[newAt,Bb (a+1) r,List.range'_succ]
theorem Ix:∀(l:List Obj)(a j:Nat)(h:j<l.length),(a+j,l[j])∈newAt a l
 |[],_,_,h=>by simp at h
 |o::r,a,0,h=>by simp[newAt]
 |o::r,a,j+1,h=>by
  have:=Ix r (a+1) j (by simpa using h);simp only[newAt,List.getElem_cons_succ,bk];right;have e:a+(j+1)=a+1+j:=o_
  rw[e];exact this
section
variable{P:a0}{w w':a4}{aa aD ag:Nat->Prop}{β aI:Bd}{H H':Heap}
theorem ft.mut{b:Nat}{o:Obj}(h:ft P w aa β H ag b o)(hl:o.live)(j:¬aa (β.ak b)):¬ag (β.ak b):=by
 have held:∀{fz},cw aa β ag fz b->¬ag (β.ak b):=by
  intro fz f;cases fz with
  |true=>exact(j (by simpa[cw]using f)).elim
  |false=>
   have:¬aa (β.ak b)/\¬ag (β.ak b):=by simpa[cw]using f
   exact this.2
 cases o with
 |hole=>exact hl.elim
 |dead=>exact hl.elim
 |box fz t=>
  obtain⟨cs,T,c,d,a,e⟩:=h;exact held a
 |arr k an ai es=>
  rcases h with h|⟨cs,T,l,rest,c,d,a,e,m,n,i,p⟩
  ·exact(hl h).elim
  ·exact held i
 |map fz es=>
  obtain⟨g,clock,c,d,a⟩:=h;exact held a
 |cT ks vs=>
  obtain⟨g,clock,c,d,a,e⟩:=h;exact held e
 |dx s pos=>
  obtain⟨bs,c,d,a⟩:=h;exact held a
 |loop L=>
  obtain⟨tmps,defers,fn,c,d,a,e⟩:=h;exact held e
theorem ft.carry(hi:∀k,aa k->aD k)(hs:∀k,aa k->w'.heap[k]?=w.heap[k]?)(aJ:cg β H aI H'){b:Nat}{o:Obj}(l:o.refs (aH H))
 (j:o.live->w'.heap[β.ak b]?=w.heap[β.ak b]?/\aI.ak b=β.ak b/\aI.cap b=β.cap b)(held:o.live->∀fz,cw aa β ag fz b->cw aD aI ag fz b)(h:ft P w aa β H ag b o):ft P w' aD aI H' ag b o:=by
 cases o with
 |hole=>trivial
 |dead=>trivial
 |box fz t=>
  obtain⟨cs,T,d,e,f,i⟩:=h;obtain⟨a,c,g⟩:=j trivial;exact⟨cs,T,by rw[c,a];exact d,bg.mono hi hs aJ _ _ l e,held trivial _ f,i⟩
 |arr k an ai es=>
  rcases h with h|⟨cs,T,n,rest,d,e,f,i,p,q,r,u⟩
  ·exact .inl h
  ·by_cases hl:dc k es
   ·exact .inl hl
   ·obtain⟨a,c,g⟩:=j hl;exact .inr ⟨cs,T,n,rest,by rw[c,a];exact d,bG.mono hi hs aJ _ _ _ l e,f,by rw[g];exact i,by rw[g];exact p,by rw[g];exact q,held hl _ r,u⟩
 |map fz es=>
  obtain⟨m,clock,d,e,f⟩:=h;obtain⟨a,c,g⟩:=j trivial;exact⟨m,clock,by rw[c,a];exact d,cz.mono hi hs _ _ e,held trivial _ f⟩
 |cT ks vs=>
  obtain⟨m,clock,d,e,f,i⟩:=h;obtain⟨a,c,g⟩:=j trivial;exact⟨m,clock,by rw[c,a];exact d,bf.mono hi hs _ _ e,bh.mono hi hs aJ _ _ l f,held trivial _ i⟩
 |dx s pos=>
  obtain⟨bs,d,e,f⟩:=h;obtain⟨a,c,g⟩:=j trivial;exact⟨bs,by rw[c,a];exact d,e,held trivial _ f⟩
 |loop L=>
  obtain⟨tmps,defers,fn,d,e,f,i⟩:=h;obtain⟨a,c,g⟩:=j trivial;exact⟨tmps,defers,fn,by rw[c,a];exact d,e,fun x=>ar.mono hi hs aJ _ _ (l x) (f x),held trivial _ i⟩
def dC(bs:List Nat)(a:Nat)(H0 bW:Heap)(b:AV):aU:=
 {v:=cK (sig bs a) b,aj:=bs.zip (H0.map (cX (sig bs a))),aG:=bs.zip ((bW.take H0.length).map (cX (sig bs a))),aS:=(bW.drop H0.length).map (cX (sig bs a))}
open Classical in
theorem H7{H0 bW:Heap}{fF:List AV}{v0:AV}(bs:List Nat)(base:Nat)(hlen:bs.length=H0.length)(hnd:bs.Nodup)(hlt:∀b∈bs,b<base)
 (hl:H0.length<=bW.length)(ha:aR (aH H0) fF)(ho:∀(b:Nat)(o:Obj),H0[b]?=some o->o.refs (aH H0))
 {H:Heap}{w:a4}{aa ag:Nat->Prop}{β:Bd}{cargs:List a3}(hr:bX P w aa β H ag)(hargs:bh P w aa β H (cM (sig bs base) fF) cargs)
 (aj:∀p∈(dC bs base H0 bW v0).aj,H[p.1]?=some p.2)(aS:∀i,i<(dC bs base H0 bW v0).aS.length->H[base+i]?=some .hole):
 ∃(dM:Bd)(Prot0:Nat->Prop),(∀b,dM.ak b=β.ak (sig bs base b))/\bX P w aa dM H0 Prot0/\bh P w aa dM H0 fF cargs/\(∀b,b<H0.length->(gK H (sig bs base b)↔gK H0 b))/\
  ∀(cv:a3)(w':a4)(β0':Bd)(aD:Nat->Prop),bV P Prot0 aa w dM H0 aD w' β0' bW->ar P w' aD β0' bW v0 cv->aB (aH bW) v0->
   ∃aI,bV P ag aa w β H aD w' aI (aX H ((dC bs base H0 bW v0).aG++newAt base (dC bs base H0 bW v0).aS))/\
    ar P w' aD aI (aX H ((dC bs base H0 bW v0).aG++newAt base (dC bs base H0 bW v0).aS)) (dC bs base H0 bW v0).v cv/\
    aB (aH (aX H ((dC bs base H0 bW v0).aG++newAt base (dC bs base H0 bW v0).aS))) (dC bs base H0 bW v0).v:=by
 obtain⟨σ,hσ⟩:∃σ,σ=sig bs base:=⟨_,rfl⟩
 have hinj:∀{i j},σ i=σ j->i=j:=fun{i j} h=>aDn hnd hlt (by rw[hσ]at h;exact h);have hold:∀{i}(hi:i<H0.length),σ i=bs[i]' o_:=fun hi=>by rw[hσ];exact sy _
 have hnw:∀{i},H0.length<=i->σ i=base+(i-H0.length):=fun hi=>by rw[hσ,sA o_,hlen]
 have hget:∀(b:Nat)(o:Obj),H0[b]?=some o->H[σ b]?=some (cX σ o):=by
  intro b o hb;obtain⟨hbl,rfl⟩:=be.1 hb;have:=aj (bs[b]' o_,cX (sig bs base) H0[b]) (by
   simp only[dC];rw[bl];exact⟨b,by simp;omega,s_⟩)
  rw[hold hbl,hσ];exact this
 have hnewH:∀i,H0.length<=i->i<bW.length->H[σ i]?=some .hole:=by
  intro i h1 h2;rw[hnw h1];exact aS (i-H0.length) (by simp[dC];omega)
 obtain⟨H2,hH2⟩:∃H2,H2=aX H ((dC bs base H0 bW v0).aG++newAt base (dC bs base H0 bW v0).aS):=⟨_,rfl⟩
 have hkeys:∀p∈(dC bs base H0 bW v0).aG++newAt base (dC bs base H0 bW v0).aS,∃i,i<bW.length/\p.1=σ i:=by
  intro p hp;rcases cN.1 hp with hp|hp
  ·simp only[dC]at hp;have hm:=(b2 hp).1;obtain⟨i,hi,he⟩:=bl.1 hm;exact⟨i,o_,by rw[hold o_];exact he.symm⟩
  ·have hm:p.1∈(newAt base (dC bs base H0 bW v0).aS).map (·.1):=List.mem_map_of_mem hp
   rw[Bb,ck]at hm;simp only[dC,List.length_map,List.length_drop]at hm;exact⟨H0.length+(p.1-base),o_,by rw[hnw o_];omega⟩
 have hndk:(((dC bs base H0 bW v0).aG++newAt base (dC bs base H0 bW v0).aS).map (·.1)).Nodup:=by
  rw[b3,Bb];have e:(dC bs base H0 bW v0).aG.map (·.1)=bs:=by
   simp only[dC];rw[List.map_fst_zip];simp;omega
  rw[e,List.nodup_append];refine⟨hnd,List.nodup_range',fun a h1 b h2 he=>?_⟩;subst he;have:=hlt _ h1;rw[ck]at h2;omega
 have hA:∀(i:Nat)(o:Obj),bW[i]?=some o->H2[σ i]?=some (cX σ o):=by
  intro i o hi;obtain⟨hil,rfl⟩:=be.1 hi
  by_cases hi0:i<H0.length
  ·have hm:(bs[i]' o_,cX (sig bs base) bW[i])∈(dC bs base H0 bW v0).aG++newAt base (dC bs base H0 bW v0).aS:=by
    refine List.mem_append_left _ ?_;simp only[dC];rw[bl];exact⟨i,by simp;omega,s_⟩
   have:=Bh (H:=H) hndk _ hm (by
    have:=hget i _ (bb hi0);rw[hold hi0]at this;exact(be.1 this).1)
   rw[hH2,hold hi0,this,hσ]
  ·have hm:(base+(i-H0.length),cX (sig bs base) bW[i])∈(dC bs base H0 bW v0).aG++newAt base (dC bs base H0 bW v0).aS:=by
    refine List.mem_append_right _ ?_;have:=Ix (dC bs base H0 bW v0).aS base (i-H0.length) (by simp[dC];omega);have e:(dC bs base H0 bW v0).aS[i-H0.length]'(by simp[dC];omega)=cX (sig bs base) bW[i]:=by
     simp only[dC,List.getElem_map,List.getElem_drop];congr 2;omega
    rw[e]at this;exact this
   have:=Bh (H:=H) hndk _ hm (by
    have:=hnewH i o_ hil;rw[hnw o_]at this;exact(be.1 this).1)
   rw[hH2,hnw o_,this,hσ]
 have hB:∀x,(∀i,i<bW.length->σ i≠x)->H2[x]?=H[x]?:=by
  intro x hx;rw[hH2];refine AH fun p hp=>?_;obtain⟨i,h1,h2⟩:=hkeys p hp;rw[h2];exact hx i h1
 let dM:Bd:=⟨fun b=>β.ak (σ b),fun b=>β.cap (σ b)⟩
 let Prot0:Nat->Prop:=fun k=>ag k\/∃x o,H[x]?=some o/\o.live/\(∀i,i<H0.length->σ i≠x)/\β.ak x=k
 have hemb:dN σ dM H0 β H:=⟨hget,fun b _=>⟨rfl,rfl⟩⟩
 have small:∀x:Nat×Nat,aH H0 x->Small H0.length x:=fun x⟨o,ho,_⟩=>(be.1 ho).1;have held0:∀{b:Nat}{o:Obj},H0[b]?=some o->o.live->∀fz,cw aa dM Prot0 fz b↔cw aa β ag fz (σ b):=by
  intro b o hb hlv fz;cases fz with
  |true=>simp[cw,dM]
  |false=>
   simp only[cw,av,if_false];refine and_congr_right fun hni=>⟨fun h hp=>h (.inl hp),fun h hp=>?_⟩
   rcases hp with hp|⟨x,o',h1,h2,h3,h4⟩
   ·exact h hp
   ·exact h3 b (be.1 hb).1 (hr.inj _ _ _ _ (hget b o hb) h1 (pV.2 hlv) h2 hni h4.symm)
 have hr0:bX P w aa dM H0 Prot0:=by
  refine⟨fun b o hb=>?_,fun b b' o o' h1 h2 l1 l2 hni he=>?_,ho,hr.bR,fun k hk=>?_,hr.ja⟩
  ·exact(hemb.O8 hb ((ho b o hb).mono small) (held0 hb)).1 (hr.cJ _ _ (hget b o hb))
  ·exact hinj (hr.inj _ _ _ _ (hget b o h1) (hget b' o' h2) (pV.2 l1) (pV.2 l2) hni he)
  ·rcases hk with hk|⟨x,o,h1,h2,_,rfl⟩
   ·exact hr.eE k hk
   ·exact hr.nF h1 h2
 have hargs0:bh P w aa dM H0 fF cargs:=by
  rw[<-hσ]at hargs;exact(hemb.ph _ _ (aR.mono small _ ha)).1 hargs
 refine⟨dM,Prot0,fun b=>by rw[<-hσ],hr0,hargs0,fun b hb=>by rw[<-hσ];exact hemb.loop hb,fun cv w' β0' aD hp hv hvr=>?_⟩
 let aI:Bd:=⟨fun x=>if h:∃i,i<bW.length/\σ i=x then β0'.ak h.choose else β.ak x,fun x=>if h:∃i,i<bW.length/\σ i=x then β0'.cap h.choose else β.cap x⟩
 have hβ:∀i,i<bW.length->aI.ak (σ i)=β0'.ak i/\aI.cap (σ i)=β0'.cap i:=by
  intro i hi;have hex:∃j,j<bW.length/\σ j=σ i:=⟨i,hi,rfl⟩
  have hc:hex.choose=i:=hinj hex.choose_spec.2;simp only[aI,dif_pos hex,hc,and_self]
 have hβn:∀x,(∀i,i<bW.length->σ i≠x)->aI.ak x=β.ak x/\aI.cap x=β.cap x:=by
  intro x hx;have hnex:¬∃i,i<bW.length/\σ i=x:=fun⟨i,h1,h2⟩=>hx i h1 h2;simp only[aI,dif_neg hnex,and_self]
 have hemb':dN σ β0' bW aI H2:=⟨hA,fun b hb=>hβ b hb⟩
 have small':∀x:Nat×Nat,aH bW x->Small bW.length x:=fun x⟨o,ho,_⟩=>(be.1 ho).1;have split:∀x,(∃i,i<bW.length/\σ i=x)\/∀i,i<bW.length->σ i≠x:=by
  intro x
  by_cases hx:∃i,i<bW.length/\σ i=x
  ·exact .inl hx
  ·exact .inr fun i h1 h2=>hx ⟨i,h1,h2⟩
 have inOld:∀{i v},i<bW.length->aH H (σ i,v)->aH H0 (i,v)/\i<H0.length:=by
  intro i v hi ⟨o,h1,h2⟩
  by_cases hi0:i<H0.length
  ·refine⟨?_,hi0⟩;have:=hget i _ (bb hi0);simp only at h1;rw[this]at h1;cases h1;exact⟨_,bb hi0,Lz.1 h2⟩
  ·have:=hnewH i o_ hi;simp only at h1;rw[this]at h1;cases h1;exact h2.elim
 have gR:cg β H aI H2:=by
  refine⟨?_,?_,?_,?_,?_⟩
  ·intro b hb hlv;rcases split b with⟨i,hi,rfl⟩|hx
   ·obtain⟨k1,k2⟩:=inOld hi hb;obtain⟨g1,g2⟩:=hp.step.box i k1 ((hemb'.box hi).1 hlv);exact⟨(hemb.box k2).2 g1,(hβ i hi).1.trans g2⟩
   ·unfold mr at hlv⊢;rw[hB b hx]at hlv;exact⟨hlv,(hβn b hx).1⟩
  ·intro b hb hlv;rcases split b with⟨i,hi,rfl⟩|hx
   ·obtain⟨k1,k2⟩:=inOld hi hb;obtain⟨g1,g2⟩:=hp.step.it i k1 ((hemb'.it hi).1 hlv);exact⟨(hemb.it k2).2 g1,(hβ i hi).1.trans g2⟩
   ·unfold mu at hlv⊢;rw[hB b hx]at hlv;exact⟨hlv,(hβn b hx).1⟩
  ·intro b hb hlv;rcases split b with⟨i,hi,rfl⟩|hx
   ·obtain⟨k1,k2⟩:=inOld hi hb;obtain⟨g1,g2⟩:=hp.step.map i k1 ((hemb'.map hi).1 hlv);exact⟨(hemb.map k2).2 g1,(hβ i hi).1.trans g2⟩
   ·unfold nG at hlv⊢;rw[hB b hx]at hlv;exact⟨hlv,(hβn b hx).1⟩
  ·intro b an ai k es hb hlv;rcases split b with⟨i,hi,rfl⟩|hx
   ·obtain⟨k1,k2⟩:=inOld hi hb;obtain⟨gE,g0,rfl⟩:=(hemb'.arr hi).1 hlv;obtain⟨k0,es1,g1,g2,g3,g4⟩:=hp.step.arr i an ai k gE k1 g0;refine⟨k0,cM σ es1,(hemb.arr k2).2 ⟨_,g1,rfl⟩,by rw[rO,rO];exact g2,by rw[nC,nC];exact g3,fun hn=>?_⟩;rw[nC]at hn;rw[(hβ i hi).1,(hβ i hi).2];exact g4 hn
   ·unfold dT at hlv⊢;rw[hB b hx]at hlv;exact⟨k,es,hlv,c9 _,Iff.rfl,fun _=>hβn b hx⟩
  ·intro b hb hlv;rcases split b with⟨i,hi,rfl⟩|hx
   ·obtain⟨k1,k2⟩:=inOld hi hb;obtain⟨g1,g2⟩:=hp.step.loop i k1 ((hemb'.loop hi).1 hlv);exact⟨(hemb.loop k2).2 g1,(hβ i hi).1.trans g2⟩
   ·unfold gK at hlv⊢;rw[hB b hx]at hlv;exact⟨hlv,(hβn b hx).1⟩
 have hinn:∀x,aH H x->aH H2 x:=by
  rintro⟨b,v⟩ hb;rcases split b with⟨i,hi,rfl⟩|hx
  ·obtain⟨k1,_⟩:=inOld hi hb;exact(hemb'.Dk (x:=(i,v)) hi).2 (hp.fp _ k1)
  ·obtain⟨o,h1,h2⟩:=hb;exact⟨o,by simp only;rw[hB b hx];exact h1,h2⟩
 have prot0:∀{x:Nat}{o:Obj},(∀i,i<bW.length->σ i≠x)->H[x]?=some o->o.live->Prot0 (β.ak x):=by
  intro x o hx h1 h2;exact .inr ⟨x,o,h1,h2,fun i hi=>hx i o_,rfl⟩
 have mut':∀{i:Nat}{o:Obj},bW[i]?=some o->o.live->¬aD (β0'.ak i)->¬Prot0 (β0'.ak i):=by
  intro i o h1 h2 h3;exact(hp.rel.cJ i o h1).mut h2 h3
 have hrel:bX P w' aD aI H2 ag:=by
  refine⟨fun x o hx=>?_,fun x x' o o' h1 h2 l1 l2 hni he=>?_,fun x o hx=>?_,hp.rel.bR,fun k hk=>hp.rel.eE k (.inl hk),hp.rel.ja⟩
  ·rcases split x with⟨i,hi,rfl⟩|hn
   ·have hg:=hA i _ (bb hi);rw[hg]at hx;cases hx;refine(hemb'.O8 (Prot0:=Prot0) (bb hi) ((hp.rel.refs i _ (bb hi)).mono small') (fun hlv fz=>?_)).2 (hp.rel.cJ i _ (bb hi));cases fz with
    |true=>simp[cw,(hβ i hi).1]
    |false=>
     simp only[cw,av,if_false,(hβ i hi).1];exact⟨fun h=>⟨h.1,fun hp=>h.2 (.inl hp)⟩,fun h=>⟨h.1,mut' (bb hi) hlv h.1⟩⟩
   ·rw[hB x hn]at hx;refine ft.carry hp.bR (fun k hk=>hp.ext.same k (.inr hk)) gR (hr.refs x o hx) (fun hlv=>⟨hp.ext.same _ (.inl (prot0 hn hx hlv)),hβn x hn⟩) (fun hlv fz hh=>?_) (hr.cJ x o hx);have hp0:=prot0 hn hx hlv;cases fz with
    |true=>
     simp only[cw,if_true]at hh⊢;rw[(hβn x hn).1];exact hp.bR _ hh
    |false=>
     simp only[cw,av,if_false]at hh⊢;rw[(hβn x hn).1];exact⟨fun hi=>(hp.fresh _ hi).elim hh.1 (fun h=>h hp0),hh.2⟩
  ·rcases split x with⟨i,hi,rfl⟩|hn<;>rcases split x' with⟨j,hj,rfl⟩|hn'
   ·have g1:=hA i _ (bb hi);have g2:=hA j _ (bb hj);rw[g1]at h1;cases h1;rw[g2]at h2;cases h2;rw[(hβ i hi).1,(hβ j hj).1]at he;rw[(hβ i hi).1]at hni;rw[hp.rel.inj i j _ _ (bb hi) (bb hj) (pV.1 l1) (pV.1 l2) hni he]
   ·have g1:=hA i _ (bb hi);rw[g1]at h1;cases h1;rw[hB x' hn']at h2;rw[(hβ i hi).1,(hβn x' hn').1]at he;rw[(hβ i hi).1]at hni;exact(mut' (bb hi) (pV.1 l1) hni (he▸prot0 hn' h2 l2)).elim
   ·have g2:=hA j _ (bb hj);rw[g2]at h2;cases h2;rw[hB x hn]at h1;rw[(hβ j hj).1,(hβn x hn).1]at he;rw[(hβn x hn).1]at hni;exact(mut' (bb hj) (pV.1 l2) (he▸hni) (he▸prot0 hn h1 l1)).elim
   ·rw[hB x hn]at h1;rw[hB x' hn']at h2;rw[(hβn x hn).1,(hβn x' hn').1]at he;rw[(hβn x hn).1]at hni;exact hr.inj _ _ _ _ h1 h2 l1 l2 (fun hi=>hni (hp.bR _ hi)) he
  ·rcases split x with⟨i,hi,rfl⟩|hn
   ·have hg:=hA i _ (bb hi);rw[hg]at hx;cases hx;rw[Uq];exact(hp.rel.refs i _ (bb hi)).mono (fun y hy=>(hemb'.Dk (small' y hy)).2 hy)
   ·rw[hB x hn]at hx;exact(hr.refs x o hx).mono hinn
 refine⟨aI,?_,?_,?_⟩
 ·rw[<-hH2];refine⟨hp.bR,fun k hk=>(hp.fresh k hk).imp id (fun h h'=>h (.inl h')),⟨hp.ext.size,fun k hk=>hp.ext.same k (hk.imp .inl id),hp.ext.io⟩,gR,hrel,hinn,fun b hb=>?_⟩;rcases split b with⟨i,hi,rfl⟩|hx
  ·by_cases hi0:i<H0.length
   ·exact(hemb'.loop hi).2 (hp.loop i ((hemb.loop hi0).1 hb))
   ·obtain⟨L,hL⟩:=hb;rw[hnewH i o_ hi]at hL;cases hL
  ·unfold gK at hb⊢;rw[hB b hx];exact hb
 ·rw[<-hH2];show ar P w' aD aI H2 (cK (sig bs base) v0) cv;rw[<-hσ];exact(hemb'.C0 _ _ (aB.mono small' _ hvr)).2 hv
 ·rw[<-hH2];show aB (aH H2) (cK (sig bs base) v0);rw[<-hσ,Bt];exact aB.mono (fun y hy=>(hemb'.Dk (small' y hy)).2 hy) _ hvr
theorem cm.frame{f:aT}{H0 bW:Heap}{fF:List AV}{g:AV}(h:cm P f H0 fF bW g)(bs:List Nat)(a:Nat)(q:bs.length=H0.length)(s:bs.Nodup)(r:∀b∈bs,b<a)
 (hl:H0.length<=bW.length)(d:aR (aH H0) fF)(t:∀(b:Nat)(o:Obj),H0[b]?=some o->o.refs (aH H0)):
 q9 P f (cM (sig bs a) fF) a (dC bs a H0 bW g):=by
 refine⟨h.1,fun H w aa ag β m hr n _ aj aS=>?_⟩;obtain⟨dM,i,-,v,p,-,back⟩:=H7 bs a q s r hl d t hr n aj aS;refine(h.2 w aa i dM m v p d).mono ?_;rintro e w' ⟨c,z,aD,rfl,u,x,y⟩;obtain⟨aI,j,k,l⟩:=back c w' z aD u x y;exact⟨c,aI,aD,rfl,j,k,l⟩
theorem iw.frame{b:Nat}{H0 bW:Heap}{fF:List AV}{i:AV}(h:iw P b H0 fF bW i)(bs:List Nat)(a:Nat)(v:bs.length=H0.length)(z:bs.Nodup)(y:∀b∈bs,b<a)
 (hl:H0.length<=bW.length)(g:aR (aH H0) fF)(A:∀(b:Nat)(o:Obj),H0[b]?=some o->o.refs (aH H0)):
 sP P (sig bs a b) (cM (sig bs a) fF) a (dC bs a H0 bW i):=by
 intro H w aa ag β p C r _ aj aS;obtain⟨dM,j,t,D,s,x,back⟩:=H7 bs a v z y hl g A C r aj aS;have u:b<H0.length:=by
  obtain⟨L,q⟩:=h.1;exact(be.1 q).1
 refine⟨(x b u).2 h.1,?_⟩;obtain⟨f,tmps,assign,body,d,e⟩:=h.2 w aa j dM p D s g;rw[t]at d e;refine⟨f,tmps,assign,body,d,fun n G=>?_⟩;obtain⟨c,w',I,aD,g1,B,E,F⟩:=e n G;obtain⟨aI,k,l,m⟩:=back c w' I aD B E F;exact⟨c,w',aI,aD,g1,k,l,m⟩
end
end Go.aw
namespace Go.aw
variable[Gl]
def kA(b:Nat):List Nat->Nat->Option Nat
 |[],_=>none
 |x::r,i=>bif c8 x b then some i else kA b r (i+1)
theorem Ko{b:Nat}:∀{l:List Nat}{i j:Nat},kA b l i=some j->i<=j/\l[j-i]?=some b
 |[],_,_,h=>by simp[kA]at h
 |x::r,i,j,h=>by
  simp only[kA]at h;cases a:c8 x b
  ·simp only[a,cond_false]at h;obtain⟨d,c⟩:=Ko h;refine⟨o_,?_⟩;have e:j-i=(j-(i+1))+1:=by omega
   rw[e,List.getElem?_cons_succ];exact c
  ·simp only[a,cond_true,dq]at h;subst h;simp[dv a]
section
variable(bs:List Nat)
mutual
def lQ:AV->Option AV
 | .p v=>some (.p v)
 | .ptr b path=>match kA b bs 0 with
  |some i=>some (.ptr i path)
  |none=>none
 | .b6 b an ai i path=>match kA b bs 0 with
  |some j=>some (.b6 j an ai i path)
  |none=>none
 | .sl b an ai off len=>match kA b bs 0 with
  |some j=>some (.sl j an ai off len)
  |none=>none
 | .map b=>match kA b bs 0 with
  |some j=>some (.map j)
  |none=>none
 | .func f fi ca=>match lK fi,lK ca with
  |some a,some b=>some (.func f a b)
  |_,_=>none
 | .st u fs=>match lK fs with
  |some a=>some (.st u a)
  |none=>none
 | .aE vs=>match lK vs with
  |some a=>some (.aE a)
  |none=>none
def lK:List AV->Option (List AV)
 |[]=>some []
 |v::r=>match lQ v,lK r with
  |some a,some b=>some (a::b)
  |_,_=>none
end
def Cw:Obj->Option Obj
 | .box fz t=>match lQ bs t with
  |some a=>some (.box fz a)
  |none=>none
 | .arr k an ai es=>match lK bs es with
  |some a=>some (.arr k an ai a)
  |none=>none
 | .map fz es=>some (.map fz es)
 | .cT ks vs=>match lK bs vs with
  |some a=>some (.cT ks a)
  |none=>none
 | .dx s n=>some (.dx s n)
 | .dead=>some .dead
 |_=>none
def uY(H:Heap):List Nat->Option Heap
 |[]=>some []
 |b::r=>match H[b]? with
  |some o=>match Cw bs o,uY H r with
   |some a,some t=>some (a::t)
   |_,_=>none
  |none=>none
end
section
variable{bs:List Nat}{base:Nat}
theorem xX{b i:Nat}(h:kA b bs 0=some i):sig bs base i=b:=by
 have:=(Ko h).2;simp only[Nat.sub_zero]at this;simp[sig,this]
mutual
theorem Js:∀{a c:AV},lQ bs a=some c->cK (sig bs base) c=a
 | .p v,c,h=>by simp only[lQ,dq]at h;subst h;rfl
 | .ptr b path,c,h=>by
  simp only[lQ]at h
  split at h
  ·rename_i i hi;simp only[dq]at h;subst h;simp only[cK,xX hi]
  ·simp at h
 | .b6 b an ai i path,c,h=>by
  simp only[lQ]at h
  split at h
  ·rename_i i hi;simp only[dq]at h;subst h;simp only[cK,xX hi]
  ·simp at h
 | .sl b an ai off len,c,h=>by
  simp only[lQ]at h
  split at h
  ·rename_i i hi;simp only[dq]at h;subst h;simp only[cK,xX hi]
  ·simp at h
 | .map b,c,h=>by
  simp only[lQ]at h
  split at h
  ·rename_i i hi;simp only[dq]at h;subst h;simp only[cK,xX hi]
  ·simp at h
 | .func f fi ca,c,h=>by
  simp only[lQ]at h
  split at h
  ·rename_i a b d g;simp only[dq]at h;subst h;simp only[cK,oF d,oF g]
  ·simp at h
 | .st u fs,c,h=>by
  simp only[lQ]at h
  split at h
  ·rename_i a d;simp only[dq]at h;subst h;simp only[cK,oF d]
  ·simp at h
 | .aE vs,c,h=>by
  simp only[lQ]at h
  split at h
  ·rename_i a d;simp only[dq]at h;subst h;simp only[cK,oF d]
  ·simp at h
theorem oF:∀{l e:List AV},lK bs l=some e->cM (sig bs base) e=l
 |[],e,h=>by simp only[lK,dq]at h;subst h;rfl
 |v::r,e,h=>by
  simp only[lK]at h
  split at h
  ·rename_i a b d g;simp only[dq]at h;subst h;simp only[cM,Js d,oF g]
  ·simp at h
end
theorem TZ{o c:Obj}(h:Cw bs o=some c):cX (sig bs base) c=o:=by
 cases o<;>simp only[Cw]at h
 case box fz t=>
  split at h
  ·rename_i a b;simp only[dq]at h;subst h;simp only[cX,Js b]
  ·simp at h
 case arr k an ai es=>
  split at h
  ·rename_i a b;simp only[dq]at h;subst h;simp only[cX,oF b]
  ·simp at h
 case cT ks vs=>
  split at h
  ·rename_i a b;simp only[dq]at h;subst h;simp only[cX,oF b]
  ·simp at h
 case hole=>simp at h
 case loop=>simp at h
 all_goals (simp only[dq]at h;subst h;rfl)
theorem Ib{H:Heap}:∀{l:List Nat}{H0:Heap},uY bs H l=some H0->H0.length=l.length/\∀p∈l.zip (H0.map (cX (sig bs base))),H[p.1]?=some p.2
 |[],H0,h=>by simp only[uY,dq]at h;subst h;simp
 |b::r,H0,h=>by
  simp only[uY]at h
  split at h
  case h_2=>simp at h
  rename_i o f
  split at h
  case h_2=>simp at h
  rename_i a t d e;simp only[dq]at h;subst h;obtain⟨i1,i2⟩:=Ib e;refine⟨by simp[i1],fun p c=>?_⟩;simp only[bv,List.zip_cons_cons,bk]at c;rcases c with rfl|c
  ·simp only[TZ d];exact f
  ·exact i2 p c
end
mutual
def Ok:AV->List Nat->List Nat
 | .p _,acc=>acc
 | .ptr b _,acc| .b6 b _ _ _ _,acc| .sl b _ _ _ _,acc| .map b,acc=>b::acc
 | .func _ fi ca,acc=>tx fi (tx ca acc)
 | .st _ fs,acc| .aE fs,acc=>tx fs acc
def tx:List AV->List Nat->List Nat
 |[],acc=>acc
 |v::r,acc=>Ok v (tx r acc)
end
def YT:Obj->List Nat
 | .box _ t=>Ok t []
 | .arr _ _ _ es=>tx es []
 |_=>[]
def CK(H:Heap):Nat->List Nat->List Nat->List Nat
 |0,_,acc=>acc
 |_,[],acc=>acc
 |n+1,b::r,acc=>match kA b acc 0 with
  |some _=>CK H n r acc
  |none=>CK H n (match H[b]? with
   |some o=>YT o++r
   |none=>r) (b::acc)
def nodupB:List Nat->Bool
 |[]=>true
 |x::r=>(match kA x r 0 with
  |some _=>false
  |none=>true)&&nodupB r
theorem Il{b:Nat}:∀{l:List Nat}{i:Nat},kA b l i=none->b∉l
 |[],_,_=>by simp
 |x::r,i,h=>by
  simp only[kA]at h;cases a:c8 x b
  ·simp only[a,cond_false]at h;have:=Il h;simp only[bk,not_or];refine⟨fun e=>?_,this⟩;subst e;rw[db]at a;cases a
  ·simp[a]at h
theorem Iu:∀{l:List Nat},nodupB l=true->l.Nodup
 |[],_=>cR
 |x::r,h=>by
  simp only[nodupB,ap]at h;rw[cE];refine⟨?_,Iu h.2⟩;have a:=h.1
  split at a
  ·simp at a
  ·rename_i b;exact Il b
def zo(H:Heap)(b v:Nat):Bool:=match H[b]? with
 |some .hole|none=>false
 |some (.arr _ an _ _)=>c7 v an
 |some _=>true
theorem YV{H:Heap}{b v:Nat}(h:zo H b v=true):aH H (b,v):=by
 unfold zo at h
 split at h
 ·simp at h
 ·simp at h
 ·rename_i k an ai c a;exact⟨_,a,cW h⟩
 ·rename_i o d e a;refine⟨o,a,?_⟩;cases o with
  |hole=>exact(d rfl).elim
  |arr k an ai c=>exact(e _ _ _ _ rfl).elim
  |_=>trivial
mutual
def qO(H:Heap):AV->Bool
 | .p _=>true
 | .ptr b _| .map b=>zo H b 0
 | .b6 b an _ _ _| .sl b an _ _ _=>zo H b an
 | .func _ fi ca=>my H fi&&my H ca
 | .st _ fs| .aE fs=>my H fs
def my(H:Heap):List AV->Bool
 |[]=>true
 |v::r=>qO H v&&my H r
end
mutual
theorem Bu{H:Heap}:∀{a:AV},qO H a=true->aB (aH H) a
 | .p _,_=>by simp[aB]
 | .ptr _ _,h| .map _,h| .b6 _ _ _ _ _,h| .sl _ _ _ _ _,h=>by
  simp only[qO]at h;simp only[aB];exact YV h
 | .func _ fi ca,h=>by
  simp only[qO,ap]at h;simp only[aB];exact⟨oG h.1,oG h.2⟩
 | .st _ _,h| .aE _,h=>by
  simp only[qO]at h;simp only[aB];exact oG h
theorem oG{H:Heap}:∀{l:List AV},my H l=true->aR (aH H) l
 |[],_=>by simp[aR]
 |v::r,h=>by
  simp only[my,ap]at h;simp only[aR];exact⟨Bu h.1,oG h.2⟩
end
def yp(H:Heap):Obj->Bool
 | .box _ t=>qO H t
 | .arr _ _ _ es=>my H es
 | .cT _ vs=>my H vs
 | .loop _=>false
 |_=>true
theorem Iq{H:Heap}{o:Obj}(h:yp H o=true):o.refs (aH H):=by
 cases o<;>simp only[yp]at h<;>simp only[Obj.refs]
 ·exact Bu h
 ·exact oG h
 ·exact oG h
 ·simp at h
def qG(p:Obj->Bool):List Obj->Bool
 |[]=>true
 |o::r=>p o&&qG p r
theorem uS{p:Obj->Bool}:∀{l:List Obj},qG p l=true->∀o∈l,p o=true
 |[],_,o,h=>by simp at h
 |a::r,h,o,b=>by
  simp only[qG,ap]at h;rcases bk.1 b with rfl|b
  ·exact h.1
  ·exact uS h.2 o b
def yj(n:Nat):List Nat->Bool
 |[]=>true
 |x::r=>c7 (x+1) n&&yj n r
theorem Cr{n:Nat}:∀{l:List Nat},yj n l=true->∀x∈l,x<n
 |[],_,o,h=>by simp at h
 |a::r,h,o,b=>by
  simp only[yj,ap]at h;rcases bk.1 b with rfl|b
  ·exact cW h.1
  ·exact Cr h.2 o b
def yg:Obj->Bool
 | .hole=>false
 |_=>true
def vh(run:List AV->Heap->Option (AV×Heap))(args:List AV)(H:Heap):Option aU:=
 let bs:=CK H 1000 (tx args []) []
 match lK bs args,uY bs H bs with
 |some fF,some H0=>bif nodupB bs&&(yj H.length bs&&(my H0 fF&&qG (yp H0) H0))then
  match run fF H0 with
  |some (v0,H1)=>bif c7 H0.length H1.length&&(qG yg (H1.take H0.length))then some (dC bs H.length H0 H1 v0)else none
  |none=>none
  else none
 |_,_=>none
theorem Bm{P:a0}{f:aT}{run:List AV->Heap->Option (AV×Heap)}(n:∀args H v H',run args H=some (v,H')->cm P f H args H' v){args:List AV}{H:Heap}{e:aU}(h:vh run args H=some e):
 q9 P f args H.length e/\pc H e:=by
 unfold vh at h;dsimp only at h
 split at h
 case h_2=>simp at h
 rename_i fF H0 g i;simp only[ao,dp,ap]at h;obtain⟨⟨g1,g2,g3,g4⟩,h⟩:=h
 split at h
 case h_2=>simp at h
 rename_i q H1 j;simp only[dp,dq]at h;obtain⟨⟨g5,g7⟩,rfl⟩:=h;obtain⟨k1,k2⟩:=Ib (base:=H.length) i;have hf:=(n _ _ _ _ j).frame _ H.length k1.symm (Iu g1) (Cr g2) (cW g5) (oG g3) (fun b o k=>Iq (uS g4 o (cb k)));rw[oF g]at hf;refine⟨hf,k2,fun p d=>?_⟩;simp only[dC]at d;have c:=b2 d;refine⟨Cr g2 _ c.1,fun l=>?_⟩;obtain⟨o,m,a⟩:=bo.1 c.2;rw[l]at a;have:=uS g7 o m;rw[Vt.1 a]at this;simp[yg]at this
mutual
theorem yn:∀v:AV,cK (fun i=>i) v=v
 | .p _| .sl .. | .b6 .. | .ptr .. | .map _=>rfl
 | .st u vs=>by simp only[cK,pZ vs]
 | .aE vs=>by simp only[cK,pZ vs]
 | .func f a b=>by simp only[cK,pZ a,pZ b]
theorem pZ:∀l:List AV,cM (fun i=>i) l=l
 |[]=>rfl
 |v::l=>by simp only[cM,yn v,pZ l]
end
theorem IL:∀e:Env,sS (fun i=>i) e=e
 |[]=>rfl
 |(x,v)::r=>by simp only[sS,yn v,IL r]
theorem aCK(o:Obj):cX (fun i=>i) o=o:=by
 cases o<;>simp only[cX,yn,pZ,IL]
theorem LV(n:Nat):sig (b0 n) n=fun i=>i:=by
 funext i
 by_cases h:i<n
 ·rw[sy (by simpa using h)];simp
 ·rw[sA (by simpa using h)];simp;omega
def vF(H:Heap):List (Nat×Obj):=(b0 H.length).zip H
theorem YU{H:Heap}{p:Nat×Obj}(h:p∈vF H):H[p.1]?=some p.2:=by
 rw[vF,bl]at h;obtain⟨i,hi,a⟩:=h;rw[List.getElem_zip]at a;subst a;simp
def zh(H:Heap):Env->Bool
 |[]=>true
 |(_,v)::r=>qO H v&&zh H r
theorem Li{H:Heap}:∀{e:Env},zh H e=true->∀x,aB (aH H) (aO e x)
 |[],_,x=>by simp[aO,aB]
 |(y,v)::r,h,x=>by
  simp only[zh,ap]at h;simp only[aO]
  split
  ·exact Bu h.1
  ·exact Li h.2 x
def MB(H:Heap):Obj->Bool
 | .loop L=>zh H L.env
 |o=>yp H o
theorem Ur{H:Heap}{o:Obj}(h:MB H o=true):o.refs (aH H):=by
 cases o<;>first
  |exact Iq h
  |exact Li h
def Ca(run:Nat->Heap->List AV->Option (Heap×AV))(b:Nat)(args:List AV)(H:Heap):Option aU:=
 bif my H args&&qG (MB H) H then
  match run b H args with
  |some (H1,v)=>bif c7 H.length H1.length&&(qG yg (H1.take H.length))then some {v,aj:=vF H,aG:=(b0 H.length).zip (H1.take H.length),aS:=H1.drop H.length}else none
  |none=>none
 else none
theorem Ty{P:a0}{run:Nat->Heap->List AV->Option (Heap×AV)}(k:∀b H args H' v,run b H args=some (H',v)->iw P b H args H' v){b:Nat}{args:List AV}{H:Heap}{e:aU}(h:Ca run b args H=some e):
 sP P b args H.length e/\pc H e:=by
 unfold Ca at h;simp only[ao,dp,ap]at h;obtain⟨⟨g3,g4⟩,h⟩:=h
 split at h
 case h_2=>simp at h
 rename_i H1 f g;simp only[dp,dq]at h;obtain⟨⟨g5,g7⟩,rfl⟩:=h;have hf:=(k _ _ _ _ _ g).frame (b0 H.length) H.length s_ List.nodup_range (fun b a=>by simpa using a) (cW g5) (oG g3) (fun b o a=>Ur (uS g4 o (cb a)));have e:dC (b0 H.length) H.length H H1 f={v:=f,aj:=vF H,aG:=(b0 H.length).zip (H1.take H.length),aS:=H1.drop H.length}:=by
  simp only[dC,LV,yn];rw[show(cX fun i=>i)=id from funext aCK,cc,cc,cc,vF]
 rw[e,LV,pZ]at hf;refine⟨hf,fun p c=>YU c,fun p c=>?_⟩;have d:=b2 c;refine⟨by simpa using d.1,fun j=>?_⟩;have:=uS g7 p.2 d.2;rw[j]at this;simp[yg]at this
end Go.aw
namespace Go.aw
variable[Gl]
inductive RT where
 |lf
 |vl (v:AV)
 |nd (a b c d:RT)
inductive Q4 where|a|b|c|d
def q4(n:Nat):Q4:=match n with
 |0=>.a
 |1=>.b
 |2=>.c
 |_=>.d
def pathOf:Nat->Nat->List Q4
 |0,_=>[]
 |k+1,n=>q4 (n% 4)::pathOf k (n/4)
noncomputable def vr(p:List Q4):RT->AV:=
 c6 (motive:=fun _=>RT->AV) (fun R=>RT.rec (motive:=fun _=>AV) (.p .undef) (fun v=>v) (fun _ _ _ _ _ _ _ _=>.p .undef) R)
  (fun q _ e R=>RT.rec (motive:=fun _=>AV) (.p .undef) (fun _=>.p .undef) (fun a b c d _ _ _ _=>Q4.rec (motive:=fun _=>AV) (e a) (e b) (e c) (e d) q) R) p
noncomputable def DN(v:AV)(p:List Q4):RT->RT:=
 c6 (motive:=fun _=>RT->RT) (fun _=>.vl v)
  (fun q _ e R=>RT.rec (motive:=fun _=>RT)
   (Q4.rec (motive:=fun _=>RT) (.nd (e .lf) .lf .lf .lf) (.nd .lf (e .lf) .lf .lf) (.nd .lf .lf (e .lf) .lf) (.nd .lf .lf .lf (e .lf)) q)
   (fun _=>Q4.rec (motive:=fun _=>RT) (.nd (e .lf) .lf .lf .lf) (.nd .lf (e .lf) .lf .lf) (.nd .lf .lf (e .lf) .lf) (.nd .lf .lf .lf (e .lf)) q)
   (fun a b c d _ _ _ _=>Q4.rec (motive:=fun _=>RT) (.nd (e a) b c d) (.nd a (e b) c d) (.nd a b (e c) d) (.nd a b c (e d)) q) R) p
noncomputable def jS(k:Nat)(R:RT)(n:Nat):AV:=bif c7 (n+1) (4^k)then vr (pathOf k n) R else .p .undef
noncomputable def vN(k:Nat)(R:RT)(n:Nat)(v:AV):RT:=DN v (pathOf k n) R
theorem JD:∀(p:List Q4),vr p .lf=.p .undef
 |[]=>rfl
 |_::_=>rfl
theorem HV(v:AV):∀(p:List Q4)(R:RT),vr p (DN v p R)=v
 |[],_=>rfl
 |x::p,R=>by
  cases R<;>cases x<;>exact HV v p _
theorem GZ(v:AV):∀(p q:List Q4)(R:RT),p.length=q.length->p≠q->vr p (DN v q R)=vr p R
 |[],[],R,_,h=>(h rfl).elim
 |[],_::_,R,h,_=>by simp at h
 |_::_,[],R,h,_=>by simp at h
 |x::p,y::q,R,h,f=>by
  have g:=fun R(f:p≠q)=>GZ v p q R (by simpa using h) f;have i:=JD p;cases R with
  |nd a b c d=>
   cases x<;>cases y<;>first
    |rfl
    |exact g _ (fun e=>f (by rw[e]))
  |_=>
   cases x<;>cases y<;>first
    |exact i
    |exact(g _ (fun e=>f (by rw[e]))).trans i
theorem Au:∀k n,(pathOf k n).length=k
 |0,_=>rfl
 |k+1,n=>by simp[pathOf,Au k]
theorem aCu{m n:Nat}(a:m<4)(b:n<4)(h:q4 m=q4 n):m=n:=by
 have hc:∀n,n<4->n=0\/n=1\/n=2\/n=3:=o_
 rcases hc m a with rfl|rfl|rfl|rfl<;>rcases hc n b with rfl|rfl|rfl|rfl<;>simp[q4]at h<;>rfl
theorem HX:∀(k m n:Nat),m<4^k->n<4^k->pathOf k m=pathOf k n->m=n
 |0,m,n,a,b,_=>by simp at a b;omega
 |k+1,m,n,a,b,h=>by
  simp only[pathOf,List.cons.injEq]at h;have c:=aCu (dl _ o_) (dl _ o_) h.1;have d:=HX k (m/4) (n/4) (by rw[dk]at a;omega) (by rw[dk]at b;omega) h.2;omega
theorem K7(k n:Nat):jS k .lf n=.p .undef:=by
 simp[jS,JD]
theorem WO{a b:Nat}(h:a<=b):c7 a b=true:=da h
theorem LC{a b:Nat}(h:¬a<=b):c7 a b=false:=by
 cases c:c7 a b
 ·rfl
 ·exact(h (cW c)).elim
theorem A6(k:Nat)(R:RT)(d x:Nat)(v:AV)(h:d<4^k):jS k (vN k R d v) x=if x=d then v else jS k R x:=by
 unfold jS vN
 by_cases hx:x+1<=4^k
 ·simp only[WO hx,cond_true]
  by_cases a:x=d
  ·subst a;rw[HV,if_pos rfl]
  ·rw[if_neg a,GZ _ _ _ _ (by rw[Au,Au]) (fun e=>a (HX k x d o_ h e))]
 ·have:x≠d:=by omega
  simp only[LC hx,cond_false,this,if_false]
def Rel(k:Nat)(e:Env)(R:RT):Prop:=∀x,aO e x=jS k R x
noncomputable def kI(k:Nat)(d:Option Nat)(v:AV)(R:RT):Option RT:=
 match d with
 |none=>some R
 |some d=>bif c7 (d+1) (4^k)then some (vN k R d v)else none
theorem uE{k:Nat}{d:Option Nat}{v:AV}{R a:RT}{e:Env}(h:kI k d v R=some a)(b:Rel k e R):Rel k (put d v e) a:=by
 unfold kI at h
 split at h
 ·simp only[dq]at h;subst h;exact b
 ·simp only[ao,dp,dq]at h;obtain⟨c,rfl⟩:=h;intro x;rw[A6 _ _ _ _ _ (by have:=cW c;omega)];simp only[put,aO]
  split
  ·rfl
  ·exact b x
noncomputable def jO(k:Nat)(R:RT):ax->AV
 | .tmp t=>jS k R t
 | .const v=>.p (ofConst v)
 | .global g=>.p (Gl.g g)
 | .func f=>.p (.func f [] [])
theorem yE{k:Nat}{R:RT}{e:Env}(a:Rel k e R):jO k R=ev e:=by
 funext o;cases o<;>simp[jO,ev,a _]
def pf(H:Heap)(e:aU):Heap:=
 match e.aG,e.aS with
 |[],[]=>H
 |_,_=>aX H e.aG++e.aS
theorem JQ(H:Heap)(e:aU):pf H e=aX H e.aG++e.aS:=by
 unfold pf;split
 ·rename_i a b;simp[a,b,aX]
 ·rfl
structure jL where
 cP:aT->List AV->Heap->Option (AV×Heap)
 cD:aT->List AV->Heap->Option aU
 cY:Nat->Heap->List AV->Option (Heap×AV)
 cI:AV->Nat->Heap->Option Heap
 ze:Nat->List AV->Heap->Option aU
structure jU(P:a0)(B:jL):Prop where
 cP:∀f args H v H',B.cP f args H=some (v,H')->∀K:AV->Heap->Prop,K v H'->gM P false f args H K
 cD:∀f args H e,B.cD f args H=some e->∀K:aU->Prop,K e->gT P f args H K
 cY:∀b H args H' v,B.cY b H args=some (H',v)->iw P b H args H' v
 cI:∀it b H H',B.cI it b H=some H'->∀K:Heap->Prop,K H'->jM P it b H K
 ze:∀b args H e,B.ze b args H=some e->sP P b args H.length e/\pc H e
section
variable(P:a0)(ah:aT->Bool)(B:jL)(k:Nat)
noncomputable def vL(o:Oper)(R:RT)(H:Heap):Option (RT×Heap):=
 match o.op with
 | .call {callee:=.value f,args,.. }=>match(match jO k R f with
  | .p (.func g fi ca)=>B.cP g (fi.map .p++args.toList.map (jO k R)++ca.map .p) H
  | .func g fi ca=>B.cP g (fi++args.toList.map (jO k R)++ca) H
  | .map b=>match B.cY b H (args.toList.map (jO k R))with
   |some (H',v)=>some (v,H')
   |none=>none
  |_=>none)with
  |some (v,H')=>match kI k o.dst v R with
   |some a=>some (a,H')
   |none=>none
  |none=>none
 |_=>match zx P ah o (jO k R) H with
  |some e=>match kI k o.dst e.v R with
   |some a=>some (a,pf H e)
   |none=>none
  |none=>none
noncomputable def yC(a:Array Oper)(j:Nat)(R:RT):AV:=
 match(a[j]?).bind (·.dst)with
 |some d=>jS k R d
 |none=>.p (.aE [])
noncomputable def mL(b:Array Oper):List Oper->RT->Heap->Option (RT×Heap)
 |[],R,H=>some (R,H)
 |o::r,R,H=>match o.guard with
  |none=>match vL P ah B k o R H with
   |some (a,H')=>mL b r a H'
   |none=>none
  |some (j,want)=>match yC k b j R with
   | .p (.bool t)=>match t,want with
    |true,true|false,false=>match vL P ah B k o R H with
     |some (a,H')=>mL b r a H'
     |none=>none
    |_,_=>match kI k o.dst (.p (.aE [])) R with
     |some a=>mL b r a H
     |none=>none
   | .p (.aE [])=>match kI k o.dst (.p (.aE [])) R with
    |some a=>mL b r a H
    |none=>none
   |_=>none
noncomputable def vz(o:Oper)(R:RT)(H:Heap):Option aU:=
 match o.op with
 | .call {callee:=.value f,args,.. }=>match jO k R f with
  | .p (.func g fi ca)=>B.cD g (fi.map .p++args.toList.map (jO k R)++ca.map .p) H
  | .func g fi ca=>B.cD g (fi++args.toList.map (jO k R)++ca) H
  | .map b=>B.ze b (args.toList.map (jO k R)) H
  |_=>none
 |_=>zx P ah o (jO k R) H
noncomputable def mA(b:Array Oper):List Oper->Nat->List Touch->RT->Heap->Option (RT×Heap)
 |[],_,acc,R,H=>bif jZ b acc then some (R,H)else none
 |o::r,i,acc,R,H=>match o.guard with
  |none=>match vz P ah B k o R H with
   |some e=>match kI k o.dst e.v R with
    |some a=>mA b r (i+1) (gO i H.length e acc) a (pf H e)
    |none=>none
   |none=>none
  |some (j,want)=>match yC k b j R with
   | .p (.bool t)=>match t,want with
    |true,true|false,false=>match vz P ah B k o R H with
     |some e=>match kI k o.dst e.v R with
      |some a=>mA b r (i+1) (gO i H.length e acc) a (pf H e)
      |none=>none
     |none=>none
    |_,_=>match kI k o.dst (.p (.aE [])) R with
     |some a=>mA b r (i+1) acc a H
     |none=>none
   | .p (.aE [])=>match kI k o.dst (.p (.aE [])) R with
    |some a=>mA b r (i+1) acc a H
    |none=>none
   |_=>none
abbrev Out:=Option (bp×RT×Heap)
def vp(f:RT->Heap->Out):Nat->RT->Heap->Out
 |0,_,_=>none
 |n+1,R,H=>match f R H with
  |some (.normal,a,H')=>vp f n a H'
  |r=>r
noncomputable def tu(k:Nat)(R:RT):Nat->Env
 |0=>[]
 |n+1=>(n,jS k R n)::tu k R n
def VN:Nat:=100000
def yT(j:Option Code):Option bp:=
 match j with
 |none=>some .normal
 |some (.exit id)=>some (.exit id)
 |some .ret=>some .ret
 |_=>none
def DH(b:Nat)(R:RT)(H:Heap):Out:=
 match H[b]? with
 |some (.loop L)=>match L.st with
  | .busy=>none
  |_=>match yT L.pending with
   |some e=>some (e,R,H.set b (.loop {L with st:=.exhausted}))
   |none=>none
 |_=>none
noncomputable def gS(q:Cx):Code->RT->Heap->Out
 | .skip,R,H| .label _,R,H=>some (.normal,R,H)
 | .region _ ops draw,R,H=>bif draw then match mA P ah B k ops ops.toList 0 [] R H with
   |some (d,H')=>some (.normal,d,H')
   |none=>none
  else match mL P ah B k ops ops.toList R H with
   |some (d,H')=>some (.normal,d,H')
   |none=>none
 | .seq a b,R,H=>match gS q a R H with
  |some (.normal,d,H')=>gS q b d H'
  |r=>r
 | .cond c a b,R,H=>match jO k R c with
  | .p (.bool t)=>match t with
   |true=>gS q a R H
   |false=>gS q b R H
  |_=>none
 | .block id b,R,H=>match gS q b R H with
  |some (.exit i,d,H')=>bif c8 i id then some (.normal,d,H')else some (.exit i,d,H')
  |r=>r
 | .scope b,R,H=>gS q b R H
 | .loop b,R,H=>vp (fun R H=>gS q b R H) VN R H
 | .rangeFunc f e a b,R,H=>bif c7 q.2 H.length&&c7 q.1 (4^k)then match B.cI (jO k R f) H.length (H++[.loop ⟨.ready,none,q.1,e.toList,a,b,tu k R (4^k)⟩])with
   |some H'=>DH H.length R H'
   |none=>none
  else none
 | .exit id,R,H=>some (.exit id,R,H)
 | .ret,R,H=>some (.ret,R,H)
 |_,_,_=>none
end
section
variable{P:a0}{ah:aT->Bool}{B:jL}{k:Nat}
theorem I6(e:aU)(dst:Option Tmp)(env:Env)(H:Heap):e.app dst ⟨env,H⟩=⟨put dst e.v env,pf H e⟩:=by
 simp[aU.app,JQ]
theorem aAm(b:jU P B){o:Oper}{R i:RT}{H H':Heap}{env:Env}(h:vL P ah B k o R H=some (i,H'))(g:Rel k env R):
 ∃j,Rel k j i/\∀K:St->Prop,K ⟨j,H'⟩->jE P ah false o K ⟨env,H⟩:=by
 unfold vL at h;unfold jE;rw[yE g]at h
 split at h
 ·rename_i f args n c
  split at h
  case h_2=>simp at h
  rename_i v l hc
  split at h
  case h_2=>simp at h
  rename_i m d;simp only[dq,dz]at h;obtain⟨rfl,rfl⟩:=h;refine⟨_,uE d g,fun K a=>?_⟩;simp only[c]
  split at hc
  ·rename_i hf;simp only[hf];exact b.cP _ _ _ _ _ hc _ a
  ·rename_i hf;simp only[hf];exact b.cP _ _ _ _ _ hc _ a
  ·rename_i hf
   split at hc
   ·rename_i l s r;simp only[dq,dz]at hc;obtain⟨rfl,rfl⟩:=hc;simp only[hf];exact⟨_,_,b.cY _ _ _ _ _ r,a⟩
   ·simp at hc
  ·simp at hc
 ·rename_i q
  split at h
  case h_2=>simp at h
  rename_i e p
  split at h
  case h_2=>simp at h
  rename_i m d;simp only[dq,dz]at h;obtain⟨rfl,rfl⟩:=h;refine⟨_,uE d g,fun K a=>?_⟩
  split
  ·rename_i f args n c;exact(q _ _ _ c).elim
  ·exact MC p (by rw[I6];exact a)
theorem I7{a:Array Oper}{j:Nat}{R:RT}{env:Env}(b:Rel k env R):yC k a j R=guardOf a j env:=by
 unfold yC guardOf;split
 ·rename_i h;simp only[h];exact(b _).symm
 ·rename_i h;simp only[h]
theorem Cf(f:jU P B){c:Array Oper}:∀{l:List Oper}{R a:RT}{H H':Heap}{env:Env},mL P ah B k c l R H=some (a,H')->Rel k env R->
 ∃b,Rel k b a/\∀K:St->Prop,K ⟨b,H'⟩->gP P ah false c l K ⟨env,H⟩
 |[],R,a,H,H',env,h,d=>by
  simp only[mL,dq,dz]at h;obtain⟨rfl,rfl⟩:=h;exact⟨env,d,fun K g=>g⟩
 |o::l,R,a,H,H',env,h,d=>by
  have run:(match vL P ah B k o R H with
    |some (a,H')=>mL P ah B k c l a H'
    |none=>none)=some (a,H')->∃b,Rel k b a/\∀K:St->Prop,K ⟨b,H'⟩->jE P ah false o (gP P ah false c l K) ⟨env,H⟩:=by
   intro h
   split at h
   case h_2=>simp at h
   rename_i n H1 e;obtain⟨w,q,a2⟩:=aAm f e d;obtain⟨u,r,s⟩:=Cf f h q;exact⟨u,r,fun K g=>a2 _ (s K g)⟩
  have skip:(match kI k o.dst (.p (.aE [])) R with
    |some a=>mL P ah B k c l a H
    |none=>none)=some (a,H')->∃b,Rel k b a/\∀K:St->Prop,K ⟨b,H'⟩->gP P ah false c l K ⟨put o.dst (.p (.aE [])) env,H⟩:=by
   intro h
   split at h
   case h_2=>simp at h
   rename_i n e;exact Cf f h (uE e d)
  simp only[mL]at h;simp only[gP]
  split at h
  ·rename_i i;simp only[i];exact run h
  ·rename_i j v i;simp only[i];rw[I7 d]at h
   split at h
   ·rename_i t m;simp only[m];cases t<;>cases v
    ·simpa using run h
    ·simpa using skip h
    ·simpa using skip h
    ·simpa using run h
   ·rename_i m;simp only[m];exact skip h
   ·simp at h
theorem Yi(b:jU P B){o:Oper}{R:RT}{H:Heap}{e:aU}{env:Env}(h:vz P ah B k o R H=some e)(l:Rel k env R)(K:aU->Prop)(a:K e):jq P ah o ⟨env,H⟩ K:=by
 unfold vz at h;unfold jq;rw[yE l]at h
 split at h
 ·rename_i f args d c;simp only[c]
  split at h
  ·rename_i hf;simp only[hf];exact b.cD _ _ _ _ h _ a
  ·rename_i hf;simp only[hf];exact b.cD _ _ _ _ h _ a
  ·rename_i hf;simp only[hf];obtain⟨g,i⟩:=b.ze _ _ _ _ h;exact⟨e,g,i,a⟩
  ·simp at h
 ·rename_i j
  split
  ·rename_i f args d c;exact(j _ _ _ c).elim
  ·exact MC h a
theorem BF(m:jU P B){f:Array Oper}:∀{l:List Oper}{i:Nat}{b:List Touch}{R a:RT}{H H':Heap}{env:Env},mA P ah B k f l i b R H=some (a,H')->Rel k env R->
 ∃c,Rel k c a/\∀K:St->Prop,K ⟨c,H'⟩->gh P ah f l i b K ⟨env,H⟩
 |[],i,b,R,a,H,H',env,h,d=>by
  simp only[mA,ao,dp,dq,dz]at h;obtain⟨g,rfl,rfl⟩:=h;exact⟨env,d,fun K n=>⟨g,n⟩⟩
 |o::l,i,b,R,a,H,H',env,h,d=>by
  have run:(match vz P ah B k o R H with
    |some e=>match kI k o.dst e.v R with
     |some a=>mA P ah B k f l (i+1) (gO i H.length e b) a (pf H e)
     |none=>none
    |none=>none)=some (a,H')->∃c,Rel k c a/\∀K:St->Prop,K ⟨c,H'⟩->jq P ah o ⟨env,H⟩ (fun e=>gh P ah f l (i+1) (gO i H.length e b) K (e.app o.dst ⟨env,H⟩)):=by
   intro h
   split at h
   case h_2=>simp at h
   rename_i e y
   split at h
   case h_2=>simp at h
   rename_i s g;obtain⟨x,u,w⟩:=BF m h (uE g d);exact⟨x,u,fun K n=>Yi m y d _ (by rw[I6];exact w K n)⟩
  have skip:(match kI k o.dst (.p (.aE [])) R with
    |some a=>mA P ah B k f l (i+1) b a H
    |none=>none)=some (a,H')->∃c,Rel k c a/\∀K:St->Prop,K ⟨c,H'⟩->gh P ah f l (i+1) b K ⟨put o.dst (.p (.aE [])) env,H⟩:=by
   intro h
   split at h
   case h_2=>simp at h
   rename_i s g;exact BF m h (uE g d)
  simp only[mA]at h;simp only[gh]
  split at h
  ·rename_i q;simp only[q];exact run h
  ·rename_i j z q;simp only[q];rw[I7 d]at h
   split at h
   ·rename_i t r;simp only[r];cases t<;>cases z
    ·simpa using run h
    ·simpa using skip h
    ·simpa using skip h
    ·simpa using run h
   ·rename_i r;simp only[r];exact skip h
   ·simp at h
theorem JW(R:RT):∀(n:Nat),∀x,aO (tu k R n) x=if x<n then jS k R x else .p .undef
 |0,x=>by simp[tu,aO]
 |n+1,x=>by
  simp only[tu,aO,JW R n]
  by_cases h:x=n
  ·subst h;simp
  ·simp only[h,if_false]
   by_cases a:x<n
   ·simp[a,Nat.lt_succ_of_lt a]
   ·have:¬x<n+1:=by omega
    simp[a,this]
theorem V0(k:Nat)(R:RT)(n:Nat)(h:4^k<=n):jS k R n=.p .undef:=by
 unfold jS;rw[LC o_];rfl
theorem Yl{R:RT}{env:Env}(a:Rel k env R):∀x,aO (tu k R (4^k)) x=aO env x:=by
 intro x;rw[JW,a]
 split
 ·rfl
 ·rw[V0 k R x o_]
theorem VS{j:Option Code}{e:bp}(h:yT j=some e)(Q:bp->St->Prop)(s:St)(hq:Q e s):ki Q j s:=by
 unfold yT at h;unfold ki
 split at h<;>simp at h<;>subst h<;>exact hq
theorem Wg{b:Nat}{R a:RT}{H H':Heap}{e:bp}{env:Env}(h:DH b R H=some (e,a,H')):a=R/\∀Q:bp->St->Prop,Q e ⟨env,H'⟩->iT b env Q H:=by
 unfold DH at h
 split at h
 case h_2=>simp at h
 rename_i L c
 have go:(match yT L.pending with
   |some e=>some (e,R,H.set b (.loop {L with st:=.exhausted}))
   |none=>none)=some (e,a,H')->L.st≠.busy->a=R/\∀Q:bp->St->Prop,Q e ⟨env,H'⟩->iT b env Q H:=by
  intro h aJ
  split at h
  case h_2=>simp at h
  rename_i e' d;simp only[dq,dz]at h;obtain⟨rfl,rfl,rfl⟩:=h;exact⟨rfl,fun Q hq=>by unfold iT;simp only[c];exact⟨aJ,VS d Q _ hq⟩⟩
 split at h
 ·simp at h
 ·rename_i aJ;exact go h aJ
theorem Uj{q:Cx}{b:Code}{Q:bp->St->Prop}{s s':St}(f:∀c:bp->St->Prop,c .normal s'->b9 P ah q b c s)(d:b9 P ah q (.loop b) Q s'):b9 P ah q (.loop b) Q s:=by
 simp only[b9]at d⊢;obtain⟨I,⟨a,t0,hf,hI⟩,g⟩:=d;refine⟨fun n t=>I n t\/(n=a+1/\t=s),⟨a+1,s,.inl rfl,.inr ⟨rfl,rfl⟩⟩,?_⟩;rintro n t (h|⟨rfl,rfl⟩)
 ·obtain⟨e,u,k1,k2⟩:=mZ b t _ (g n t h);refine k2 _ ?_;cases e with
  |normal=>
   obtain⟨m,i,g1,g2,g3⟩:=k1;exact⟨m,i,g1,g2,.inl g3⟩
  |exit id=>exact k1
  |ret=>exact k1
 ·exact f _ ⟨a,t0,Nat.lt_succ_self _,hf,.inl hI⟩
theorem Ui{q:Cx}{b:Code}{Q:bp->St->Prop}{s s':St}{e:bp}(f:e≠.normal)(d:∀a:bp->St->Prop,a e s'->b9 P ah q b a s)(c:Q e s'):b9 P ah q (.loop b) Q s:=by
 simp only[b9];refine⟨fun n t=>n=0/\t=s,⟨0,s,.inl rfl,rfl,rfl⟩,?_⟩;rintro n t ⟨rfl,rfl⟩;refine d _ ?_;cases e with
 |normal=>exact(f rfl).elim
 |exit id=>exact c
 |ret=>exact c
theorem Ki{q:Cx}{b:Code}{f:RT->Heap->Out}(hf:∀{R a:RT}{H H':Heap}{e:bp}{env:Env},f R H=some (e,a,H')->Rel k env R->∃c,Rel k c a/\∀Q:bp->St->Prop,Q e ⟨c,H'⟩->b9 P ah q b Q ⟨env,H⟩):
 ∀(n:Nat){R a:RT}{H H':Heap}{e:bp}{env:Env},vp f n R H=some (e,a,H')->Rel k env R->∃c,Rel k c a/\∀Q:bp->St->Prop,Q e ⟨c,H'⟩->b9 P ah q (.loop b) Q ⟨env,H⟩
 |0,R,a,H,H',e,env,h,g=>by simp[vp]at h
 |n+1,R,a,H,H',e,env,h,g=>by
  simp only[vp]at h
  split at h
  ·rename_i r H1 o;obtain⟨i,d,a2⟩:=hf o g;obtain⟨m,j,l⟩:=Ki hf n h d;exact⟨m,j,fun Q hq=>Uj a2 (l Q hq)⟩
  ·rename_i p;obtain⟨i,d,a2⟩:=hf h g;refine⟨i,d,fun Q hq=>Ui ?_ a2 hq⟩;rintro rfl;exact p _ _ h
theorem kU(m:jU P B){q:Cx}:∀{c:Code}{R l:RT}{H H':Heap}{e:bp}{env:Env},gS P ah B k q c R H=some (e,l,H')->Rel k env R->
 ∃r,Rel k r l/\∀Q:bp->St->Prop,Q e ⟨r,H'⟩->b9 P ah q c Q ⟨env,H⟩
 | .skip,R,l,H,H',e,env,h,d| .label _,R,l,H,H',e,env,h,d| .exit _,R,l,H,H',e,env,h,d| .ret,R,l,H,H',e,env,h,d=>by
  simp only[gS,dq,dz]at h;obtain⟨rfl,rfl,rfl⟩:=h;exact⟨env,d,fun Q hq=>hq⟩
 | .region id ops draw,R,l,H,H',e,env,h,d=>by
  simp only[gS]at h;cases draw
  ·simp only[cond_false]at h
   split at h
   case h_2=>simp at h
   rename_i o H1 n;simp only[dq,dz]at h;obtain⟨rfl,rfl,rfl⟩:=h;obtain⟨j,g,a2⟩:=Cf m n d;exact⟨j,g,fun Q hq=>by simp only[b9];exact a2 _ hq⟩
  ·simp only[cond_true]at h
   split at h
   case h_2=>simp at h
   rename_i o H1 n;simp only[dq,dz]at h;obtain⟨rfl,rfl,rfl⟩:=h;obtain⟨j,g,a2⟩:=BF m n d;exact⟨j,g,fun Q hq=>by simp only[b9,if_true];exact a2 _ hq⟩
 | .seq a b,R,l,H,H',e,env,h,d=>by
  simp only[gS]at h
  split at h
  ·rename_i o H1 n;obtain⟨j,g,a2⟩:=kU m n d;obtain⟨w,u,v⟩:=kU m h g;exact⟨w,u,fun Q hq=>by simp only[b9];exact a2 _ (v Q hq)⟩
  ·rename_i p;obtain⟨j,g,a2⟩:=kU m h d;refine⟨j,g,fun Q hq=>by
    simp only[b9];refine a2 _ ?_;cases e with
    |normal=>exact(p _ _ h).elim
    |exit id=>exact hq
    |ret=>exact hq⟩
 | .cond c a b,R,l,H,H',e,env,h,d=>by
  simp only[gS,yE d]at h
  split at h
  case h_2=>simp at h
  rename_i t s;cases t
  ·obtain⟨j,g,a2⟩:=kU m h d;exact⟨j,g,fun Q hq=>by simp only[b9,s];exact a2 Q hq⟩
  ·obtain⟨j,g,a2⟩:=kU m h d;exact⟨j,g,fun Q hq=>by simp only[b9,s,if_true];exact a2 Q hq⟩
 | .block id b,R,l,H,H',e,env,h,d=>by
  simp only[gS]at h
  split at h
  ·rename_i i o H1 n;obtain⟨j,g,a2⟩:=kU m n d;cases hi:c8 i id
   ·simp only[hi,cond_false,dq,dz]at h;obtain⟨rfl,rfl,rfl⟩:=h;refine⟨j,g,fun Q hq=>by
     simp only[b9];refine a2 _ ?_;have:i≠id:=fun e=>by subst e;simp[db]at hi
     simp only[this,if_false];exact hq⟩
   ·simp only[hi,cond_true,dq,dz]at h;obtain⟨rfl,rfl,rfl⟩:=h;refine⟨j,g,fun Q hq=>by
     simp only[b9];refine a2 _ ?_;simp only[dv hi,if_true];exact hq⟩
  ·rename_i p;obtain⟨j,g,a2⟩:=kU m h d;refine⟨j,g,fun Q hq=>by
    simp only[b9];refine a2 _ ?_;cases e with
    |normal=>exact hq
    |exit id=>exact(p _ _ _ h).elim
    |ret=>exact hq⟩
 | .scope b,R,l,H,H',e,env,h,d=>by
  simp only[gS]at h;obtain⟨j,g,a2⟩:=kU m h d;exact⟨j,g,fun Q hq=>by simp only[b9];exact a2 Q hq⟩
 | .loop b,R,l,H,H',e,env,h,d=>by
  simp only[gS]at h;exact Ki (fun h d=>kU m h d) _ h d
 | .rangeFunc f z a b,R,l,H,H',e,env,h,d=>by
  simp only[gS,ao,dp,ap]at h;obtain⟨⟨n,y⟩,h⟩:=h
  split at h
  case h_2=>simp at h
  rename_i H1 hI;obtain⟨rfl,x⟩:=Wg (env:=env) h;refine⟨env,d,fun Q hq=>?_⟩;simp only[b9];rw[yE d]at hI;exact⟨cW n,_,Yl d,m.cI _ _ _ _ hI _ (x Q hq)⟩
 | .goto _,_,_,_,_,_,_,h,_=>by simp[gS]at h
 | .refuse _,_,_,_,_,_,_,h,_=>by simp[gS]at h
end
def rl(n:Nat):Nat:=
 match c7 n 16,c7 n 64,c7 n 256,c7 n 1024 with
 |true,_,_,_=>2
 |_,true,_,_=>3
 |_,_,true,_=>4
 |_,_,_,true=>5
 |_,_,_,_=>6
noncomputable def vk(k:Nat):Nat->List AV->RT
 |_,[]=>.lf
 |i,v::r=>vN k (vk k (i+1) r) i v
theorem Kt(k:Nat):∀(l:List AV)(i:Nat),i+l.length<=4^k->Rel k (iI i l) (vk k i l)
 |[],i,_=>fun x=>by simp[iI,vk,aO,K7]
 |v::r,i,h=>fun x=>by
  simp only[List.length_cons]at h;rw[vk,A6 _ _ _ _ _ o_];simp only[iI,aO]
  split
  ·rfl
  ·exact Kt k r (i+1) o_ x
noncomputable def vA(k:Nat):Env->Option RT
 |[]=>some .lf
 |(x,v)::r=>match vA k r with
  |some R=>bif c7 (x+1) (4^k)then some (vN k R x v)else none
  |none=>none
theorem JV(k:Nat):∀{e:Env}{R:RT},vA k e=some R->Rel k e R
 |[],R,h=>by
  simp only[vA,dq]at h;subst h;intro x;simp[aO,K7]
 |(y,v)::r,R,h=>by
  simp only[vA]at h
  split at h
  case h_2=>simp at h
  rename_i c a;simp only[ao,dp,dq]at h;obtain⟨b,rfl⟩:=h;intro x;rw[A6 _ _ _ _ _ (by have:=cW b;omega)];simp only[aO]
  split
  ·rfl
  ·exact JV k a x
noncomputable def zC(P:a0)(k:Nat)(R:RT)(H:Heap):List a1->Option (List AV)
 |[]=>some []
 |r::rs=>match(match r with
  | .tmp t=>some (jS k R t)
  | .cell a T=>match jS k R a with
   | .ptr b path=>match H[b]? with
    |some (.box _ t)=>match eL t path with
     |some v=>bif sE (kindOf P T) (ad v)then some v else none
     |none=>none
    |_=>none
   |_=>none),zC P k R H rs with
  |some v,some vs=>some (v::vs)
  |_,_=>none
theorem K8{P:a0}{k:Nat}{R:RT}{H:Heap}{env:Env}(d:Rel k env R):∀{e:List a1}{vs:List AV},zC P k R H e=some vs->fC P ⟨env,H⟩ e=some vs
 |[],vs,h=>h
 |r::e,vs,h=>by
  simp only[zC]at h
  split at h
  case h_2=>simp at h
  rename_i v o c f;simp only[dq]at h;subst h;have g:oW P ⟨env,H⟩ r=some v:=by
   cases r with
   |tmp t=>simp only[oW];rw[d];exact c
   |cell a T=>
    simp only[oW];dsimp only at c;rw[<-d]at c
    split at c
    case h_2=>simp at c
    rename_i b n j
    split at c
    case h_2=>simp at c
    rename_i fz t l
    split at c
    case h_2=>simp at c
    rename_i u m;simp only[ao,dp,dq]at c;obtain⟨i,rfl⟩:=c;rw[j];simp only[l,m,(iK i).1,if_true]
  simp only[fC,g,K8 d f]
section
variable(P:a0)(ah:aT->Bool)
noncomputable def yX(B:jL)(fn:Func)(args:List AV)(N:Nat)(H:Heap):Option (AV×Heap):=
 bif c7 args.length fn.ntmps&&c7 fn.ntmps (4^rl fn.ntmps)then
  match gS P ah B (rl fn.ntmps) (fn.ntmps,N) (fn.body.getD .skip) (vk (rl fn.ntmps) 0 args) H with
  |some (.exit _,_,_)=>none
  |some (_,R,H')=>match zC P (rl fn.ntmps) R H' fn.results.toList with
   |some vs=>some (oneOf vs,H')
   |none=>none
  |none=>none
 else none
structure mb where
 rG:aT->Option Func
 zm:aT->List PV->Option PV
 zn:aT->List AV->Heap->Option (AV×Heap)
 jR:aT->aT->Nat
 tv:aT->List AV->Heap->Option (List (Nat×Obj)×PV)
noncomputable def nW(pl:mb)(B:aT->jL)(f:aT)(vs:List PV):Option PV:=
 match pl.zm f vs with
 |some v=>some v
 |none=>match pl.rG f with
  |some fn=>match yX P ah (B f) fn (vs.map .p) 0 []with
   |some (v,H)=>dY H 9 v
   |none=>none
  |none=>none
noncomputable def nV(pl:mb)(B:aT->jL)(f:aT)(args:List AV)(H:Heap):Option (AV×Heap):=
 match pl.zn f args H with
 |some r=>some r
 |none=>match pl.rG f with
  |some fn=>yX P ah (B f) fn args H.length H
  |none=>none
noncomputable def yy(B:jL)(b:Nat)(H:Heap)(args:List AV):Option (Heap×AV):=
 match H[b]? with
 |some (.loop L)=>bif c8 args.length L.params.length&&(L.params.all (fun x=>decide (x<L.n))&&codeOk fit L.n L.assign&&codeOk fit L.n L.body)then
  match vA (rl L.n) (qt L.params args L.env)with
  |some R=>match gS P ah B (rl L.n) (L.n,H.length) L.assign R H with
   |some (.normal,f,H1)=>match H1[b]? with
    |some (.loop c)=>match c.st with
     | .ready=>match gS P ah B (rl L.n) (L.n,H.length) L.body f (H1.set b (.loop {c with st:=.busy}))with
      |some (e,_,a)=>match a[b]? with
       |some (.loop d)=>some (a.set b (.loop {d with st:=if(gL e).isNone then .ready else .done,pending:=gL e}),.p (.bool (gL e).isNone))
       |_=>none
      |none=>none
     |_=>none
    |_=>none
   |_=>none
  |none=>none
  else none
 |_=>none
noncomputable def Du(pl:mb)(B:aT->jL)(it:AV)(b:Nat)(H:Heap):Option Heap:=
 match it with
 | .p (.func g fi ca)=>match nV P ah pl B g (fi.map .p++[.map b]++ca.map .p) H with
  |some (_,H')=>some H'
  |none=>none
 | .func g fi ca=>match nV P ah pl B g (fi++[.map b]++ca) H with
  |some (_,H')=>some H'
  |none=>none
 |_=>none
noncomputable def C8(pl:mb)(B:aT->jL)(c f:aT)(args:List AV)(H:Heap):Option (AV×Heap):=
 match pl.tv f args H with
 |some (_,v)=>some (.p v,H)
 |none=>match pl.jR c f with
 |0=>match eH args with
  |some vs=>match nW P ah pl B f vs with
   |some v=>some (.p v,H)
   |none=>none
  |none=>nV P ah pl B f args H
 |1=>nV P ah pl B f args H
 |3=>match vh (nV P ah pl B f) args H with
  |some e=>some (e.v,pf H e)
  |none=>none
 |_=>match mM H args with
  |some (vs,H1)=>match nW P ah pl B f vs with
   |some v=>some (.p v,H1)
   |none=>none
  |none=>none
noncomputable def C7(pl:mb)(B:aT->jL)(c f:aT)(args:List AV)(H:Heap):Option aU:=
 match pl.tv f args H with
 |some (aj,v)=>some {v:=.p v,aj}
 |none=>match pl.jR c f with
 |3=>vh (nV P ah pl B f) args H
 |_=>match eH args with
 |some vs=>match nW P ah pl B f vs with
  |some v=>some {v:=.p v}
  |none=>none
 |none=>match nN H args with
  |some (vs,bs)=>match kW H bs with
   |some (aj,aG)=>match nW P ah pl B f vs with
    |some v=>some {v:=.p v,aj,aG}
    |none=>none
   |none=>none
  |none=>vh (nV P ah pl B f) args H
def sD:jL:=⟨fun _ _ _=>none,fun _ _ _=>none,fun _ _ _=>none,fun _ _ _=>none,fun _ _ _=>none⟩
noncomputable def jN(pl:mb):Nat->aT->jL
 |0,_=>sD
 |n+1,c=>⟨C8 P ah pl (jN pl n) c,C7 P ah pl (jN pl n) c,yy P ah (jN pl n c),Du P ah pl (jN pl n),Ca (yy P ah (jN pl n c))⟩
end
structure mv(P:a0)(pl:mb):Prop where
 mix:P.follows .mixedOrders=true
 rG:∀f fn,pl.rG f=some fn->al P f fn
 zm:∀f vs v,pl.zm f vs=some v->az P f vs v
 zn:∀f args H v H',pl.zn f args H=some (v,H')->cm P f H args H' v
 tv:∀f args H aj v,pl.tv f args H=some (aj,v)->CT P f args aj v/\∀p∈aj,H[p.1]?=some p.2
section
variable{P:a0}{ah:aT->Bool}{B1:jL}{B:aT->jL}{pl:mb}
theorem JN(f:jU P B1){fn:Func}{args:List AV}{N:Nat}{H H':Heap}{v:AV}(h:yX P ah B1 fn args N H=some (v,H')):
 args.length<=fn.ntmps/\∃e a vs,(match e with
  |bp.exit _=>False
  |_=>True)/\fC P ⟨a,H'⟩ fn.results.toList=some vs/\oneOf vs=v/\∀Q:bp->St->Prop,Q e ⟨a,H'⟩->b9 P ah (fn.ntmps,N) (fn.body.getD .skip) Q ⟨iI 0 args,H⟩:=by
 unfold yX at h;simp only[ao,dp,ap]at h;obtain⟨⟨b,c⟩,h⟩:=h;have b:=cW b;have c:=cW c;refine⟨b,?_⟩
 split at h
 ·simp at h
 ·rename_i e R k g hc
  split at h
  case h_2=>simp at h
  rename_i vs j;simp only[dq,dz]at h;obtain⟨rfl,rfl⟩:=h;obtain⟨a,d,a2⟩:=kU f hc (Kt _ args 0 o_);refine⟨e,a,vs,?_,K8 d j,rfl,a2⟩;cases e with
  |exit i=>exact g i rfl
  |_=>trivial
 ·simp at h
theorem uJ(a:mv P pl)(j:∀c,jU P (B c)){f:aT}{vs:List PV}{v:PV}(h:nW P ah pl B f vs=some v):az P f vs v:=by
 unfold nW at h
 split at h
 ·rename_i v' hk;simp only[dq]at h;subst h;exact a.zm _ _ _ hk
 ·split at h
  case h_2=>simp at h
  rename_i fn hf
  split at h
  case h_2=>simp at h
  rename_i v' H' k;obtain⟨b,e,m,l,d,g,rfl,i⟩:=JN (j _) k;exact zl ah (a.rG _ _ hf) a.mix (by simpa using b) (i _ ⟨d,l,g,h⟩)
theorem pY(a:mv P pl)(j:∀c,jU P (B c)){f:aT}{args:List AV}{H H':Heap}{v:AV}(h:nV P ah pl B f args H=some (v,H')):cm P f H args H' v:=by
 unfold nV at h
 split at h
 ·rename_i r hk;simp only[dq]at h;subst h;exact a.zn _ _ _ _ _ hk
 ·split at h
  case h_2=>simp at h
  rename_i fn hf;obtain⟨b,e,l,k,d,g,rfl,i⟩:=JN (j _) h;exact Of ah (a.rG _ _ hf) a.mix b (i _ ⟨d,k,g,rfl,.inl rfl⟩)
theorem I3{args:List AV}{vs:List PV}(h:eH args=some vs):args=vs.map .p:=lG h
theorem WE(b:mv P pl)(d:∀c,jU P (B c)){c f:aT}{args:List AV}{H H':Heap}{v:AV}(h:C8 P ah pl B c f args H=some (v,H'))(K:AV->Heap->Prop)(a:K v H'):gM P false f args H K:=by
 unfold C8 at h
 split at h
 ·rename_i aj v' hx;simp only[dq,dz]at h;obtain⟨rfl,rfl⟩:=h;obtain⟨i,j⟩:=b.tv _ _ _ _ _ hx;exact .inr ⟨rfl,.inr (.inr (.inr ⟨aj,v',i,j,a⟩))⟩
 split at h
 ·split at h
  ·rename_i vs m
   split at h
   case h_2=>simp at h
   rename_i v' g;simp only[dq,dz]at h;obtain⟨rfl,rfl⟩:=h;exact .inl ⟨vs,v',I3 m,uJ b d g,a⟩
  ·exact .inr ⟨rfl,.inr (.inl ⟨H',v,pY b d h,a⟩)⟩
 ·exact .inr ⟨rfl,.inr (.inl ⟨H',v,pY b d h,a⟩)⟩
 ·split at h
  case h_2=>simp at h
  rename_i e k;simp only[dq,dz]at h;obtain⟨rfl,rfl⟩:=h;obtain⟨i,j⟩:=Bm (fun args H v H' g=>pY b d g) k;exact .inr ⟨rfl,.inr (.inr (.inl ⟨e,i,j,by rw[<-JQ];exact a⟩))⟩
 ·split at h
  case h_2=>simp at h
  rename_i vs H1 l
  split at h
  case h_2=>simp at h
  rename_i v' g;simp only[dq,dz]at h;obtain⟨rfl,rfl⟩:=h;exact .inr ⟨rfl,.inl ⟨vs,H1,v',l,uJ b d g,a⟩⟩
theorem WG(i:mv P pl)(j:∀c,jU P (B c)){c f:aT}{args:List AV}{H:Heap}{e:aU}(h:C7 P ah pl B c f args H=some e)(K:aU->Prop)(g:K e):gT P f args H K:=by
 unfold C7 at h
 split at h
 ·rename_i aj v' hx;simp only[dq]at h;subst h;obtain⟨b,d⟩:=i.tv _ _ _ _ _ hx;exact .inr (.inr (.inr ⟨aj,v',b,d,g⟩))
 split at h
 ·obtain⟨b,d⟩:=Bm (fun args H v H' a=>pY i j a) h;exact .inr (.inr (.inl ⟨e,b,d,g⟩))
 split at h
 ·rename_i vs m
  split at h
  case h_2=>simp at h
  rename_i v' a;simp only[dq]at h;subst h;exact .inl ⟨vs,v',I3 m,uJ i j a,g⟩
 ·split at h
  case h_2=>
   obtain⟨b,d⟩:=Bm (fun args H v H' a=>pY i j a) h;exact .inr (.inr (.inl ⟨e,b,d,g⟩))
  rename_i vs bs l
  split at h
  case h_2=>simp at h
  rename_i aj aG k
  split at h
  case h_2=>simp at h
  rename_i v' a;simp only[dq]at h;subst h;exact .inr (.inl ⟨vs,bs,aj,aG,v',l,k,uJ i j a,g⟩)
theorem IK(o:mv P pl)(a:jU P B1){b:Nat}{H H':Heap}{args:List AV}{v:AV}(h:yy P ah B1 b H args=some (H',v)):iw P b H args H' v:=by
 unfold yy at h
 split at h
 case h_2=>simp at h
 rename_i L i;simp only[ao,dp,ap]at h;obtain⟨⟨f,g⟩,h⟩:=h
 split at h
 case h_2=>simp at h
 rename_i R l
 split at h
 case h_2=>simp at h
 rename_i s H1 m
 split at h
 case h_2=>simp at h
 rename_i q j
 split at h
 case h_2=>simp at h
 rename_i aJ
 split at h
 case h_2=>simp at h
 rename_i e t p n
 split at h
 case h_2=>simp at h
 rename_i r k;simp only[dq,dz]at h;obtain⟨rfl,rfl⟩:=h;obtain⟨w,c,a2⟩:=kU a m (JV _ l);obtain⟨x,u,d⟩:=kU a n c;refine Og ah o.mix i (dv f) (by simpa only[ap]using g) ?_;unfold xU;refine a2 _ ?_;simp only[xe,j];refine⟨aJ,d _ ?_⟩;simp only[sj,k];exact⟨trivial,.inl rfl⟩
theorem VT(g:mv P pl)(e:∀c,jU P (B c)){it:AV}{b:Nat}{H H':Heap}(h:Du P ah pl B it b H=some H')(K:Heap->Prop)(f:K H'):jM P it b H K:=by
 unfold Du at h
 split at h
 ·split at h
  case h_2=>simp at h
  rename_i v a d;simp only[dq]at h;subst h;exact⟨a,v,pY g e d,f⟩
 ·split at h
  case h_2=>simp at h
  rename_i v a d;simp only[dq]at h;subst h;exact⟨a,v,pY g e d,f⟩
 ·simp at h
theorem sd(a:mv P pl):∀n c,jU P (jN P ah pl n c)
 |0,_=>⟨fun _ _ _ _ _ h=>by simp[jN,sD]at h,fun _ _ _ _ h=>by simp[jN,sD]at h,fun _ _ _ _ _ h=>by simp[jN,sD]at h,fun _ _ _ _ h=>by simp[jN,sD]at h,fun _ _ _ _ h=>by simp[jN,sD]at h⟩
 |n+1,c=>⟨fun _ _ _ _ _ h=>WE a (sd a n) h,fun _ _ _ _ h=>WG a (sd a n) h,fun _ _ _ _ _ h=>IK a (sd a n c) h,fun _ _ _ _ h=>VT a (sd a n) h,fun _ _ _ _ h=>Ty (fun _ _ _ _ _ b=>IK a (sd a n c) b) h⟩
theorem reckon{f:aT}{vs:List PV}{v:PV}(n:Nat)(a:mv P pl)(h:nW P ah pl (jN P ah pl n) f vs=some v):az P f vs v:=uJ a (sd a n) h
end
section
variable{P:a0}{ah:aT->Bool}
theorem az.cZ{f:aT}{args d:List PV}{v v':PV}(h:az P f args v)(g:bu d args)(i:Wk v v'):az P f d v':=by
 rcases h with h|h
 ·refine .inl ⟨h.1,fun w aa a j k c=>(h.2 w aa a j k (bf.cZ _ _ _ g c)).mono ?_⟩;rintro e w' ⟨b,aD,k1,k2,k3,k4,k5,k6,l,k7⟩;exact⟨b,aD,k1,k2,k3,k4,k5,k6,l,aA.cZ _ _ _ i k7⟩
 ·refine .inr fun w aa a c=>?_;obtain⟨b,k1,k2⟩:=h w aa a (bf.cZ _ _ _ g c);exact⟨b,k1,aA.cZ _ _ _ i k2⟩
def y5(P:a0)(a:List a1)(v:PV)(e:bp)(s:St):Prop:=
 (match e with
  | .exit _=>False
  |_=>True)/\∃vs,fC P s a=some vs/\∃v',dY s.heap 9 (oneOf vs)=some v'/\Wk v' v
theorem UG{a:List a1}{v:PV}{s:St}:y5 P a v .ret s=∃vs,fC P s a=some vs/\∃v',dY s.heap 9 (oneOf vs)=some v'/\Wk v' v:=by simp[y5]
theorem Sr{a:List a1}{v:PV}{s:St}:y5 P a v .normal s=∃vs,fC P s a=some vs/\∃v',dY s.heap 9 (oneOf vs)=some v'/\Wk v' v:=by simp[y5]
theorem q8.cZ{f:aT}{args a:List PV}{v v':PV}(h:q8 P f args v)(j:bu a args)(k:Wk v v'):q8 P f a v':=by
 refine⟨h.1,fun w aa b d g i=>(h.2 w aa b d g (bf.cZ _ _ _ j i)).mono ?_⟩;rintro e w' ⟨c,aD,k1,k2,k3,k4,k5,k6,l,k7⟩;exact⟨c,aD,k1,k2,k3,k4,k5,k6,l,aA.cZ _ _ _ k k7⟩
theorem HZ{dst:Option Tmp}{h:Nat}{pos:String}{af:Array Edge}{g:Option (Nat×Bool)}{env:Env}{heap:Heap}{L:St->Prop}{f:aT}{fi ca:Array ax}(hf:ah f=false):
 dt P ah ⟨dst,.makeFunc (.func f) fi ca,h,pos,af,g⟩ L ⟨env,heap⟩=aZ (qK f (fi.toList.map (ev env)) (ca.toList.map (ev env))) (dW dst ⟨env,heap⟩ L):=by
 simp only[dt,kF,fy,hf,qK,av,if_false]
 split
 ·rename_i c d;simp only[c,d,aZ,true_and]
 ·rename_i c
  split
  ·rename_i a b d e;exact(c a b d e).elim
  ·simp only[aZ,true_and]
theorem HB{dst:Option Tmp}{h:Nat}{pos:String}{af:Array Edge}{g:Option (Nat×Bool)}{env:Env}{heap:Heap}{K:aU->Prop}{f:aT}{fi ca:Array ax}(hf:ah f=false):
 du P ah ⟨dst,.makeFunc (.func f) fi ca,h,pos,af,g⟩ ⟨env,heap⟩ K=aZ (qK f (fi.toList.map (ev env)) (ca.toList.map (ev env))) K:=by
 simp only[du,kF,fy,hf,qK,av,if_false]
 split
 ·rename_i c d;simp only[c,d,aZ,true_and]
 ·rename_i c
  split
  ·rename_i a b d e;exact(c a b d e).elim
  ·simp only[aZ,true_and]
section guards
variable{ops:Array Oper}{o:Oper}{r:List Oper}{K:St->Prop}{want t:Bool}{s:St}{i:Nat}{acc:List Touch}
theorem Hp:yB P ah ops o r K want s (.p (.bool t))=if t=want then dt P ah o (fW P ah ops r K) s else fW P ah ops r K ⟨put o.dst (.p (.aE [])) s.env,s.heap⟩:=(rfl)
theorem H6:yB P ah ops o r K want s (.p (.aE []))=fW P ah ops r K ⟨put o.dst (.p (.aE [])) s.env,s.heap⟩:=(rfl)
theorem GN:yi P ah ops o r i acc K want s (.p (.bool t))=if t=want then du P ah o s (vt P ah ops r i acc K o.dst s)else gn P ah ops r (i+1) acc K ⟨put o.dst (.p (.aE [])) s.env,s.heap⟩:=(rfl)
theorem Ho:yi P ah ops o r i acc K want s (.p (.aE []))=gn P ah ops r (i+1) acc K ⟨put o.dst (.p (.aE [])) s.env,s.heap⟩:=(rfl)
theorem Sp{l:List Oper}{j:Nat}{e:Env}:guardOf l.toArray j e=match(l[j]?).bind (·.dst)with
 |some d=>aO e d
 |none=>.p (.aE []):=by simp only[guardOf,List.getElem?_toArray];cases l[j]?.bind (·.dst)<;>rfl
end guards
section calls
variable{f:aT}{H H1:Heap}{K:AV->Heap->Prop}{L:aU->Prop}{v a b c d e a' b' c' d' e':PV}{dr:Bool}
theorem XM(h:az P f [] v)(hk:K (.p v) H):gM P dr f [] H K:=.inl ⟨[],v,rfl,h,hk⟩
theorem XN(h:az P f [a'] v)(hk:K (.p v) H)(b:Wk a a':=by first|exact Wk.refl _|simp[Wk,bu]):gM P dr f [.p a] H K:=.inl ⟨[a],v,rfl,h.cZ (by simp only[bu];exact⟨b,trivial⟩) (Wk.refl _),hk⟩
theorem XO(h:az P f [a',b'] v)(hk:K (.p v) H)(c:Wk a a':=by first|exact Wk.refl _|simp[Wk,bu])(d:Wk b b':=by first|exact Wk.refl _|simp[Wk,bu]):gM P dr f [.p a,.p b] H K:=
 .inl ⟨[a,b],v,rfl,h.cZ (by simp only[bu];exact⟨c,d,trivial⟩) (Wk.refl _),hk⟩
theorem XP(h:az P f [a',b',c'] v)(hk:K (.p v) H)(d:Wk a a':=by first|exact Wk.refl _|simp[Wk,bu])(e:Wk b b':=by first|exact Wk.refl _|simp[Wk,bu])(g:Wk c c':=by first|exact Wk.refl _|simp[Wk,bu]):gM P dr f [.p a,.p b,.p c] H K:=
 .inl ⟨[a,b,c],v,rfl,h.cZ (by simp only[bu];exact⟨d,e,g,trivial⟩) (Wk.refl _),hk⟩
theorem XQ(h:az P f [a',b',c',d'] v)(hk:K (.p v) H)(e:Wk a a':=by first|exact Wk.refl _|simp[Wk,bu])(g:Wk b b':=by first|exact Wk.refl _|simp[Wk,bu])(i:Wk c c':=by first|exact Wk.refl _|simp[Wk,bu])(j:Wk d d':=by first|exact Wk.refl _|simp[Wk,bu]):gM P dr f [.p a,.p b,.p c,.p d] H K:=
 .inl ⟨[a,b,c,d],v,rfl,h.cZ (by simp only[bu];exact⟨e,g,i,j,trivial⟩) (Wk.refl _),hk⟩
theorem XR(h:az P f [a',b',c',d',e'] v)(hk:K (.p v) H)(g:Wk a a':=by first|exact Wk.refl _|simp[Wk,bu])(i:Wk b b':=by first|exact Wk.refl _|simp[Wk,bu])(j:Wk c c':=by first|exact Wk.refl _|simp[Wk,bu])(k:Wk d d':=by first|exact Wk.refl _|simp[Wk,bu])(l:Wk e e':=by first|exact Wk.refl _|simp[Wk,bu]):gM P dr f [.p a,.p b,.p c,.p d,.p e] H K:=
 .inl ⟨[a,b,c,d,e],v,rfl,h.cZ (by simp only[bu];exact⟨g,i,j,k,l,trivial⟩) (Wk.refl _),hk⟩
theorem Xv(h:az P f [] v)(hk:L {v:=.p v}):gT P f [] H L:=.inl ⟨[],v,rfl,h,hk⟩
theorem Xw(h:az P f [a'] v)(hk:L {v:=.p v})(b:Wk a a':=by first|exact Wk.refl _|simp[Wk,bu]):gT P f [.p a] H L:=.inl ⟨[a],v,rfl,h.cZ (by simp only[bu];exact⟨b,trivial⟩) (Wk.refl _),hk⟩
theorem Xx(h:az P f [a',b'] v)(hk:L {v:=.p v})(c:Wk a a':=by first|exact Wk.refl _|simp[Wk,bu])(d:Wk b b':=by first|exact Wk.refl _|simp[Wk,bu]):gT P f [.p a,.p b] H L:=
 .inl ⟨[a,b],v,rfl,h.cZ (by simp only[bu];exact⟨c,d,trivial⟩) (Wk.refl _),hk⟩
theorem Xy(h:az P f [a',b',c'] v)(hk:L {v:=.p v})(d:Wk a a':=by first|exact Wk.refl _|simp[Wk,bu])(e:Wk b b':=by first|exact Wk.refl _|simp[Wk,bu])(g:Wk c c':=by first|exact Wk.refl _|simp[Wk,bu]):gT P f [.p a,.p b,.p c] H L:=
 .inl ⟨[a,b,c],v,rfl,h.cZ (by simp only[bu];exact⟨d,e,g,trivial⟩) (Wk.refl _),hk⟩
theorem Xz(h:az P f [a',b',c',d'] v)(hk:L {v:=.p v})(e:Wk a a':=by first|exact Wk.refl _|simp[Wk,bu])(g:Wk b b':=by first|exact Wk.refl _|simp[Wk,bu])(i:Wk c c':=by first|exact Wk.refl _|simp[Wk,bu])(j:Wk d d':=by first|exact Wk.refl _|simp[Wk,bu]):gT P f [.p a,.p b,.p c,.p d] H L:=
 .inl ⟨[a,b,c,d],v,rfl,h.cZ (by simp only[bu];exact⟨e,g,i,j,trivial⟩) (Wk.refl _),hk⟩
theorem XA(h:az P f [a',b',c',d',e'] v)(hk:L {v:=.p v})(g:Wk a a':=by first|exact Wk.refl _|simp[Wk,bu])(i:Wk b b':=by first|exact Wk.refl _|simp[Wk,bu])(j:Wk c c':=by first|exact Wk.refl _|simp[Wk,bu])(k:Wk d d':=by first|exact Wk.refl _|simp[Wk,bu])(l:Wk e e':=by first|exact Wk.refl _|simp[Wk,bu]):gT P f [.p a,.p b,.p c,.p d,.p e] H L:=
 .inl ⟨[a,b,c,d,e],v,rfl,h.cZ (by simp only[bu];exact⟨g,i,j,k,l,trivial⟩) (Wk.refl _),hk⟩
theorem XS{args:List AV}{vs a:List PV}(h:az P f a v)(c:mM H args=some (vs,H1))(hk:K (.p v) H1)(b:bu vs a:=by first|exact bu.refl _|simp[Wk,bu]):gM P false f args H K:=
 .inr ⟨rfl,.inl ⟨vs,H1,v,c,h.cZ b (Wk.refl _),hk⟩⟩
theorem XC{args:List AV}{vs a:List PV}{bs:List Nat}{aj aG:List (Nat×Obj)}(h:az P f a v)(c:nN H args=some (vs,bs))(hf:kW H bs=some (aj,aG))(hk:L {v:=.p v,aj,aG})(b:bu vs a:=by first|exact bu.refl _|simp[Wk,bu]):gT P f args H L:=
 .inr (.inl ⟨vs,bs,aj,aG,v,c,hf,h.cZ b (Wk.refl _),hk⟩)
end calls
def KV(T:Heap)(a v:AV):Prop:=a=v\/Gh T a v
theorem PS{T:Heap}{v:AV}:KV T v v=True:=by simp[KV]
theorem PQ{T:Heap}{b an ai off len:Nat}:KV T (.p .aK) (.sl b an ai off len)=(an=0/\off=0/\len=0/\∃k z,T[b]?=some (.arr k 0 z [])/\k.gr=true):=by simp[KV,Gh,fS]
theorem PT{T:Heap}{u u':ay}{fs:List PV}{a:List AV}:KV T (.p (.st u fs)) (.st u' a)=(u=u'/\kL T fs a):=by simp[KV,Gh,fS]
def lJ(T:Heap)(e:Env):Env->Prop
 |[]=>True
 |(x,v)::r=>KV T (aO e x) v/\lJ T e r
def KO(T:Heap)(o:Obj):Obj->Prop
 | .hole=>True
 | .box false v'=>match o with
  | .box false v=>KV T v v'
  |_=>False
 | .arr k an z es=>(o=.hole/\an=0/\es=[]/\k.gr=true)\/o=.arr k an z es
 |o'=>o=o'
def KN:Obj->Prop
 | .hole=>True
 | .arr k an _ es=>an=0/\es=[]/\k.gr=true
 |_=>False
def iU(T:Heap):Heap->Heap->Prop
 |_,[]=>True
 |[],o'::t=>KN o'/\iU T [] t
 |o::h,o'::t=>KO T o o'/\iU T h t
theorem lJ.get{T:Heap}{e:Env}:∀{t:Env},lJ T e t->∀x,aO t x=aO e x\/aO t x=.p .undef\/Gh T (aO e x) (aO t x)
 |[],_,x=>.inr (.inl rfl)
 |(y,v)::t,h,x=>by
  simp only[lJ]at h;simp only[aO]
  split
  ·rename_i hx;subst hx;rcases h.1 with h|h
   ·exact .inl h.symm
   ·exact .inr (.inr h)
  ·exact lJ.get h.2 x
theorem iU.get{T:Heap}:∀{h t:Heap},iU T h t->∀(b:Nat)(o:Obj),t[b]?=some o->
 o=.hole\/h[b]?=some o\/((h[b]?=none\/h[b]?=some .hole)/\∃k z,o=.arr k 0 z []/\k.gr=true)\/(∃v v',h[b]?=some (.box false v)/\o=.box false v'/\Gh T v v')
 |_,[],_,b,o,c=>by simp at c
 |[],o'::t,hk,b,o,c=>by
  simp only[iU]at hk;cases b with
  |zero=>
   simp at c;subst c;cases o'<;>have a:=hk.1<;>simp only[KN]at a
   ·exact .inl rfl
   ·obtain⟨rfl,rfl,d⟩:=a;exact .inr (.inr (.inl ⟨.inl rfl,_,_,rfl,d⟩))
  |succ b=>simpa using iU.get hk.2 b o (by simpa using c)
 |e::h,o'::t,hk,b,o,c=>by
  simp only[iU]at hk;cases b with
  |zero=>
   simp at c;subst c;have a:=hk.1;cases o' with
   |hole=>exact .inl rfl
   |dead=>simp only[KO]at a;subst a;exact .inr (.inl rfl)
   |map fz es=>simp only[KO]at a;subst a;exact .inr (.inl rfl)
   |cT ks vs=>simp only[KO]at a;subst a;exact .inr (.inl rfl)
   |dx s p=>simp only[KO]at a;subst a;exact .inr (.inl rfl)
   |loop L=>simp only[KO]at a;subst a;exact .inr (.inl rfl)
   |arr k an z es=>
    simp only[KO]at a;rcases a with⟨rfl,rfl,rfl,d⟩|rfl
    ·exact .inr (.inr (.inl ⟨.inr rfl,_,_,rfl,d⟩))
    ·exact .inr (.inl rfl)
   |box fz v'=>
    cases fz with
    |true=>simp only[KO]at a;subst a;exact .inr (.inl rfl)
    |false=>
     simp only[KO]at a
     split at a
     ·rcases a with rfl|a
      ·exact .inr (.inl rfl)
      ·exact .inr (.inr (.inr ⟨_,_,rfl,rfl,a⟩))
     ·exact a.elim
  |succ b=>simpa using iU.get hk.2 b o (by simpa using c)
theorem bC.og{N:Nat}{s t:St}(hn:t.heap.take N=s.heap.take N)(c:lJ t.heap s.env t.env)(hh:iU t.heap s.heap t.heap)(d:iL t.heap t.env)(e:ey t.heap t.heap):bC N s t:=by
 refine .inr ⟨⟨c.get,hh.get,d.get,e.get⟩,fun b a=>?_⟩;have:=congrArg (fun l:Heap=>l[b]?) hn;simpa[List.getElem?_take,a]using this
theorem LH{T:Heap}{o:Obj}:KO T o o=True:=by
 cases o with
 |box fz v=>cases fz<;>simp[KO,KV]
 |_=>simp[KO]
theorem PN{T:Heap}{o:Obj}:KO T o .hole=True:=by simp[KO]
theorem PM{T:Heap}{v v':AV}:KO T (.box false v) (.box false v')=KV T v v':=(rfl)
theorem PO{T:Heap}{k:AK}{an z:Nat}{a:List AV}:KO T .hole (.arr k an z a)=(an=0/\a=[]/\k.gr=true):=by simp[KO]
theorem PL:KN .hole=True:=(rfl)
theorem PK{k:AK}{an z:Nat}{a:List AV}:KN (.arr k an z a)=(an=0/\a=[]/\k.gr=true):=(rfl)
theorem PR{T:Heap}{x y:PV}:KV T (.p x) (.p y)=(x=y):=by
 have:Gh T (.p x) (.p y)↔x=y:=by cases x<;>simp[Gh,fS,eq_comm]
 simp[KV,this]
def tP{α:Type}(N:Nat)(mk:α->St)(ok:α->Prop)(m:α->Nat)(n:Nat)(s:St):Prop:=∃a',m a'<n/\ok a'/\bC N s (mk a')
def qL{α:Type}(N:Nat)(mk:α->St)(ok:α->Prop)(m:α->Nat)(n:Nat)(Q:bp->St->Prop)(e:bp)(s:St):Prop:=
 match e with
 | .normal=>tP N mk ok m n s
 |e=>Q e s
section
variable{α:Type}{N:Nat}{mk:α->St}{ok:α->Prop}{m:α->Nat}{n:Nat}{Q:bp->St->Prop}{s s':St}{q:Cx}
theorem R3:qL N mk ok m n Q .normal s=tP N mk ok m n s:=(rfl)
theorem Tq{id:Nat}:qL N mk ok m n Q (.exit id) s=Q (.exit id) s:=(rfl)
theorem Ul:qL N mk ok m n Q .ret s=Q .ret s:=(rfl)
theorem wl{b:Code}(mk:α->St)(ok:α->Prop)(m:α->Nat)(c:α)(l:ok c)(gR:∀a,ok a->dj P ah q b (qL q.2 mk ok m (m a) Q) (mk a))
 (k:(mk c).heap.take q.2=s.heap.take q.2:=by simp)(i:lJ (mk c).heap s.env (mk c).env:=by simp)(j:iU (mk c).heap s.heap (mk c).heap:=by simp)(o:iL (mk c).heap (mk c).env:=by simp)(p:ey (mk c).heap (mk c).heap:=by simp):
 dj P ah q (.loop b) Q s:=by
 simp only[dj];refine⟨fun n t=>∃a,ok a/\t=mk a/\n=m a,⟨m c,mk c,bC.og k i j o p,c,l,rfl,rfl⟩,?_⟩;rintro n t ⟨a,h,rfl,rfl⟩;have:qL q.2 mk ok m (m a) Q=sR q.2 (m a) (fun n t=>∃a,ok a/\t=mk a/\n=m a) Q:=by
  funext e s
  cases e with
  |normal=>
   simp only[qL,sR,tP,eq_iff_iff];constructor
   ·rintro⟨a',d,f,g⟩;exact⟨m a',mk a',d,g,a',f,rfl,rfl⟩
   ·rintro⟨_,_,d,g,a',f,rfl,rfl⟩;exact⟨a',d,f,g⟩
  |exit id=>rfl
  |ret=>rfl
 rw[<-this];exact gR a h
theorem rnd(a':α)(b:ok a')(a:m a'<n:=by omega)(e:(mk a').heap.take N=s.heap.take N:=by simp)(c:lJ (mk a').heap s.env (mk a').env:=by simp)(d:iU (mk a').heap s.heap (mk a').heap:=by simp)(f:iL (mk a').heap (mk a').env:=by simp)(g:ey (mk a').heap (mk a').heap:=by simp):
 tP N mk ok m n s:=⟨a',a,b,bC.og e c d f g⟩
end
theorem aN(n:Int)(h:-9223372036854775808<=n)(a:n<=9223372036854775807):IntKind.i64.wrap n=n:=IntWalk.i64_in n ⟨h,a⟩
theorem zQ(a b:Int):(a<b/\¬b<=a)\/(¬a<b/\b<=a):=o_
theorem b8{i:Nat}(h:i<4611686018427387904):IntKind.i64.wrap ((i:Int)+1)=(i:Int)+1:=aN _ o_ o_
attribute [simp] Wk bu aH Obj.has Hp H6 GN Ho Sp HZ HB qK R3 Tq Ul lJ iU PS PR PQ PT LH PN PM PO PL PK kL fS AK.gr iL ey aB Obj.refs
attribute [simp] UG Sr Wk.refl bu.refl
end
end Go.aw
namespace Go.aw
variable[Gl]
mutual
def dQ:PV->Prop
 | .str s=>∀c∈s,c<256
 | .cq t=>dQ t
 | .bE _ es| .seq es| .st _ es| .aE es=>lN es
 |_=>True
def lN:List PV->Prop
 |[]=>True
 |v::vs=>dQ v/\lN vs
end
section
variable{P:a0}{w:a4}{aa:Nat->Prop}
theorem JL(bs:ByteArray):∀c∈bs.data.toList.map (·.toNat),c<256:=by
 intro c hc;simp only[bo]at hc;obtain⟨b,_,rfl⟩:=hc;exact UInt8.toNat_lt b
mutual
theorem aV.dQ:∀(v:PV)(cs:List a3),aV P w aa v cs->dQ v
 | .str s,cs,h=>by simp only[aV]at h;obtain⟨bs,_,rfl⟩:=h;simp only[aw.dQ];exact JL bs
 | .cq t,cs,h=>by simp only[aV]at h;obtain⟨_,_,ts,a,_⟩:=h;simp only[aw.dQ];exact aV.dQ t ts a
 | .bE f b,cs,h=>by simp only[aV]at h;obtain⟨_,_,_,_,d,a,_⟩:=h;simp only[aw.dQ];exact bc.dQ _ b d a
 | .seq b,cs,h=>by
  simp only[aV]at h;simp only[aw.dQ];rcases h with⟨rfl,_⟩|⟨_,_,_,_,d,a,_⟩
  ·trivial
  ·exact bc.dQ _ b d a
 | .st u b,cs,h=>by simp only[aV]at h;obtain⟨l,d,_,a,_⟩:=h;simp only[aw.dQ];exact bc.dQ _ b d a
 | .aE b,cs,h=>by simp[aV]at h
 | .undef,_,_| .bool _,_,_| .int _ _,_,_| .dE,_,_| .aK,_,_| .fx,_,_| .gW,_,_| .fP,_,_| .eS _,_,_| .func _ _ _,_,_=>by simp[aw.dQ]
theorem bc.dQ:∀(l:List Nat)(b:List PV)(d:List (List a3)),bc P w aa l b d->lN b
 |_,[],_,_=>by simp[aw.lN]
 |[],_::_,_,h=>by simp[bc]at h
 |n::l,v::vs,d,h=>by
  simp only[bc]at h;obtain⟨c,cs,_,a,_,g⟩:=h;simp only[aw.lN];exact⟨aV.dQ v c a,bc.dQ l vs cs g⟩
theorem aA.dQ:∀(v:PV)(x:a3),aA P w aa v x->dQ v
 | .str s,cs,h=>by simp only[aA]at h;obtain⟨bs,_,rfl⟩:=h;simp only[aw.dQ];exact JL bs
 | .cq t,cs,h=>by simp only[aA]at h;obtain⟨_,_,ts,a,_⟩:=h;simp only[aw.dQ];exact aV.dQ t ts a
 | .bE f b,cs,h=>by simp only[aA]at h;obtain⟨_,_,_,_,d,a,_⟩:=h;simp only[aw.dQ];exact bc.dQ _ b d a
 | .seq b,cs,h=>by
  simp only[aA]at h;simp only[aw.dQ];rcases h with⟨rfl,_⟩|⟨_,_,_,_,d,a,_⟩
  ·trivial
  ·exact bc.dQ _ b d a
 | .st u b,cs,h=>by simp only[aA]at h;obtain⟨l,d,_,a,_⟩:=h;simp only[aw.dQ];exact bc.dQ _ b d a
 | .aE b,cs,h=>by simp only[aA]at h;obtain⟨e,a,_⟩:=h;simp only[aw.dQ];exact bf.dQ b e a
 | .undef,_,_| .bool _,_,_| .int _ _,_,_| .dE,_,_| .aK,_,_| .fx,_,_| .gW,_,_| .fP,_,_| .eS _,_,_| .func _ _ _,_,_=>by simp[aw.dQ]
theorem bf.dQ:∀(b:List PV)(e:List a3),bf P w aa b e->lN b
 |[],_,_=>by simp[aw.lN]
 |v::vs,e,h=>by
  simp only[bf]at h;obtain⟨y,i,_,a,g⟩:=h;simp only[aw.lN];exact⟨aA.dQ v y a,bf.dQ vs i g⟩
end
theorem Qv{f:aT}{args:List PV}{v:PV}(h:lN args->az P f args v):az P f args v:=by
 by_cases hs:lN args
 ·exact h hs
 ·exact .inr fun w aa b a=>(hs (bf.dQ _ _ a)).elim
end
end Go.aw
namespace Go.aw
variable[Gl]
@[reducible] def Tg{α:Type}(_:α)(β:Type):Type:=β
@[reducible] def Tg1{α:Type 1}(_:α)(β:Type):Type:=β
section
variable(P:a0)(ah:aT->Bool)
def eM(q:Cx)(c:Code)(Q:bp->St->Prop)(s:Tg (q,c,Q) St):Prop:=dj P ah q c Q s
def pz(a:Array Oper)(l:List Oper)(K:St->Prop)(s:Tg (a,l,K) St):Prop:=fW P ah a l K s
def qQ(b:Array Oper)(l:List Oper)(i:Nat)(a:List Touch)(K:St->Prop)(s:Tg (b,l,i,a,K) St):Prop:=gn P ah b l i a K s
def zE(K:St->Prop)(Q:bp->St->Prop)(e:Tg (K,Q) bp)(s:Tg (K,Q) St):Prop:=tH K Q e s
def qy(id:Nat)(Q:bp->St->Prop)(e:Tg (id,Q) bp)(s:Tg (id,Q) St):Prop:=nK id Q e s
def NQ(a b:St->Prop)(s:St)(v:Tg (a,b,s) AV):Prop:=sV v a b s
def CM(b:Array Oper)(r:List Oper)(i:Nat)(a:List Touch)(K:St->Prop)(dst:Option Tmp)(s:St)(e:Tg (b,r,i,a,K,dst,s) aU):Prop:=vt P ah b r i a K dst s e
def eA(dst:Option Tmp)(s:St)(K:St->Prop)(e:Tg (dst,s,K) aU):Prop:=dW dst s K e
def Pg(dst:Option Tmp)(s:St)(K:St->Prop)(v:Tg (dst,s,K) AV)(H:Tg (dst,s,K) Heap):Prop:=zz dst s K v H
def CR(a:Array Oper)(o:Oper)(r:List Oper)(K:St->Prop)(b:Bool)(s:St)(g:Tg (a,o,r,K,b,s) AV):Prop:=yB P ah a o r K b s g
def B9(b:Array Oper)(o:Oper)(r:List Oper)(i:Nat)(a:List Touch)(K:St->Prop)(c:Bool)(s:St)(g:Tg (b,o,r,i,a,K,c,s) AV):Prop:=yi P ah b o r i a K c s g
def dR(o:Oper)(K:St->Prop)(s:St)(_:Tg (o,K,s) Unit):Prop:=dt P ah o K s
def dO(o:Oper)(s:St)(K:aU->Prop)(_:Tg (o,K,s) Unit):Prop:=du P ah o s K
def cB(K:aU->Prop)(r:Tg K dZ):Prop:=aZ r K
def za(H:Heap)(K:AV->Heap->Prop)(f:Tg (H,K) AV)(args:Tg (H,K) (List AV)):Prop:=qJ P f args H K
def CU(H:Heap)(K:aU->Prop)(f:Tg (H,K) AV)(args:Tg (H,K) (List AV)):Prop:=qw P f args H K
def kn(d:Bool)(f:aT)(K:AV->Heap->Prop)(args:Tg K (List AV))(H:Tg K Heap):Prop:=gM P d f args H K
def mw(f:aT)(K:aU->Prop)(args:Tg K (List AV))(H:Tg K Heap):Prop:=gT P f args H K
def qY(R:AV->PV->Prop):List AV->List PV->Prop
 |[],vs=>vs=[]
 |x::xs,vs=>match vs with
  |v::vs=>R x v/\qY R xs vs
  |[]=>False
def gz(H:Heap):Nat->AV->PV->Prop
 |0=>fun x v=>match x with
  | .p a=>Wk a v
  |_=>False
 |n+1=>fun x v=>match x with
  | .p a=>Wk a v
  | .sl b an z off len=>match v with
   | .seq fs=>match H[b]? with
    |some (.arr _ e h es)=>an=e/\z=h/\off+len<=es.length/\qY (gz H n) ((es.drop off).take len) fs
    |_=>False
   |_=>False
  | .st u xs=>match v with
   | .st u' vs=>u=u'/\qY (gz H n) xs vs
   |_=>False
  | .aE xs=>match v with
   | .aE vs=>qY (gz H n) xs vs
   |_=>False
  | .ptr b path=>match v with
   | .cq t=>match H[b]? with
    |some (.box _ y)=>match eL y path with
     |some s=>gz H n s t
     |none=>False
    |_=>False
   |_=>False
  | .map b=>match v with
   | .eS es=>match H[b]? with
    |some (.map _ c)=>c=es
    |_=>False
   |_=>False
  | .func f xs g=>match v with
   | .func d vs us=>f=d/\qY (gz H n) xs vs/\qY (gz H n) g us
   |_=>False
  |_=>False
def kM(H:Heap)(n:Nat):List AV->List PV->Prop:=qY (gz H n)
def re(a:List a1)(v:PV)(e:Tg (a,v) bp)(s:Tg (a,v) St):Prop:=
 (match e with
  | .exit _=>False
  |_=>True)/\∃vs,fC P s a=some vs/\gz (St.heap s) 9 (oneOf vs) v
def yu(a:Array Oper)(l:Tg a (List Touch)):Bool:=jZ a l
def aCB(a:Array Oper)(i j:Tg a Nat):Bool:=reach a a.size i j
end
section
variable{P:a0}{ah:aT->Bool}{q:Cx}
theorem aE1{Q:bp->St->Prop}{s:St}:eM P ah q .skip Q s=Q .normal s:=L6
theorem Vd{l:Nat}{Q:bp->St->Prop}{s:St}:eM P ah q (.label l) Q s=Q .normal s:=KQ
theorem aEX{id:Nat}{Q:bp->St->Prop}{s:St}:eM P ah q (.exit id) Q s=Q (.exit id) s:=L7
theorem aE0{Q:bp->St->Prop}{s:St}:eM P ah q .ret Q s=Q .ret s:=PD
theorem Vb{b:Code}{Q:bp->St->Prop}{s:St}:eM P ah q (.scope b) Q s=eM P ah q b Q s:=KM
theorem aEV{id:Nat}{l:List Oper}{Q:bp->St->Prop}{s:St}:eM P ah q (.region id l.toArray true) Q s=qQ P ah l.toArray l 0 [] (Q .normal) s:=L8
theorem Vc{id:Nat}{l:List Oper}{Q:bp->St->Prop}{s:St}:eM P ah q (.region id l.toArray false) Q s=pz P ah l.toArray l (Q .normal) s:=KP
theorem bn{a b:Code}{Q:bp->St->Prop}{s:St}:eM P ah q (.seq a b) Q s=eM P ah q a (zE (eM P ah q b Q) Q) s:=PE
theorem JH{id:Nat}{b:Code}{Q:bp->St->Prop}{s:St}:eM P ah q (.block id b) Q s=eM P ah q b (qy id Q) s:=KR
theorem aEU{c:ax}{a b:Code}{Q:bp->St->Prop}{s:St}:eM P ah q (.cond c a b) Q s=NQ (eM P ah q a Q) (eM P ah q b Q) s (ev s.env c):=L9
theorem R6{K:St->Prop}{Q:bp->St->Prop}{s:St}:zE K Q .normal s=K s:=He
theorem TO{id:Nat}{K:St->Prop}{Q:bp->St->Prop}{s:St}:zE K Q (.exit id) s=Q (.exit id) s:=II
theorem TU{K:St->Prop}{Q:bp->St->Prop}{s:St}:zE K Q .ret s=Q .ret s:=JB
theorem SE{t:Bool}{a b:St->Prop}{s:St}:NQ a b s (.p (.bool t))=if t then a s else b s:=HE
theorem UD{b:Array Oper}{r:List Oper}{i:Nat}{a:List Touch}{K:St->Prop}{dst:Option Tmp}{env:Env}{heap:Heap}{v:AV}{aj aG:List (Nat×Obj)}{aS:List Obj}:CM P ah b r i a K dst ⟨env,heap⟩ ⟨v,aj,aG,aS⟩=qQ P ah b r (i+1) (gO i heap.length ⟨v,aj,aG,aS⟩ a) K ⟨put dst v env,aX heap aG++aS⟩:=J2
theorem Wp{dst:Option Tmp}{env:Env}{heap:Heap}{K:St->Prop}{v:AV}{aj aG:List (Nat×Obj)}{aS:List Obj}:eA dst ⟨env,heap⟩ K ⟨v,aj,aG,aS⟩=K ⟨put dst v env,aX heap aG++aS⟩:=LD
theorem V6{dst:Option Tmp}{env:Env}{heap H:Heap}{K:St->Prop}{v:AV}:Pg dst ⟨env,heap⟩ K v H=K ⟨put dst v env,H⟩:=Ld
theorem aE4{b:Array Oper}{i:Nat}{a:List Touch}{K:St->Prop}{s:St}:qQ P ah b [] i a K s=(yu b a=true/\K s):=L5
theorem Va{b:Array Oper}{i c:Nat}{pos:String}{a:List Touch}{K:St->Prop}{s:St}{dst:Option Tmp}{op:Op}{af:Array Edge}{r:List Oper}:qQ P ah b ({dst,op,type:=c,pos,after:=af,guard:=none}::r) i a K s=dO P ah {dst,op,type:=c,pos,after:=af,guard:=none} s (CM P ah b r i a K dst s) ():=KL
theorem Uh{a:Array Oper}{i d j:Nat}{b:Bool}{pos:String}{c:List Touch}{K:St->Prop}{s:St}{dst:Option Tmp}{op:Op}{af:Array Edge}{r:List Oper}:qQ P ah a ({dst,op,type:=d,pos,after:=af,guard:=some (j,b)}::r) i c K s=B9 P ah a {dst,op,type:=d,pos,after:=af,guard:=some (j,b)} r i c K b s (guardOf a j s.env):=JG
theorem aFe{a:Array Oper}{K:St->Prop}{s:St}:pz P ah a [] K s=K s:=L3
theorem U9{a:Array Oper}{b:Nat}{pos:String}{K:St->Prop}{s:St}{dst:Option Tmp}{op:Op}{af:Array Edge}{r:List Oper}:pz P ah a ({dst,op,type:=b,pos,after:=af,guard:=none}::r) K s=dR P ah {dst,op,type:=b,pos,after:=af,guard:=none} (pz P ah a r K) s ():=KJ
theorem Ug{a:Array Oper}{c j:Nat}{b:Bool}{pos:String}{K:St->Prop}{s:St}{dst:Option Tmp}{op:Op}{af:Array Edge}{r:List Oper}:pz P ah a ({dst,op,type:=c,pos,after:=af,guard:=some (j,b)}::r) K s=CR P ah a {dst,op,type:=c,pos,after:=af,guard:=some (j,b)} r K b s (guardOf a j s.env):=JF
section ops
variable{dst:Option Tmp}{ty:Nat}{pos:String}{af:Array Edge}{g:Option (Nat×Bool)}{env:Env}{heap:Heap}{K:aU->Prop}{L:St->Prop}
theorem X2{x:ax}:dO P ah ⟨dst,.move x,ty,pos,af,g⟩ ⟨env,heap⟩ K ()=K {v:=ev env x}:=Nd
theorem UM{x:ax}:dO P ah ⟨dst,.assign x,ty,pos,af,g⟩ ⟨env,heap⟩ K ()=K {v:=ev env x}:=J0
theorem X4{c a b:ax}:dO P ah ⟨dst,.pick c a b,ty,pos,af,g⟩ ⟨env,heap⟩ K ()=cB K (qP (ev env c) (ev env a) (ev env b)):=Nb
theorem WA{T:ay}:dO P ah ⟨dst,.alloc T,ty,pos,af,g⟩ ⟨env,heap⟩ K ()=cB K (qz P T heap.length):=Lq
theorem XU{T:ay}{x:ax}:dO P ah ⟨dst,.box T x,ty,pos,af,g⟩ ⟨env,heap⟩ K ()=cB K (tg P T heap.length (ev env x)):=NX
theorem Wz{T:ay}{a:Array (Nat×ax)}:dO P ah ⟨dst,.build T a,ty,pos,af,g⟩ ⟨env,heap⟩ K ()=cB K (qx P T (a.toList.map fun(i,x)=>(i,ev env x))):=Lp
theorem Rz{T:ay}{n:Nat}{a:Array (Nat×ax)}:dO P ah ⟨dst,.buildSlice T n a,ty,pos,af,g⟩ ⟨env,heap⟩ K ()=cB K (pK P T n (a.toList.map fun(i,x)=>(i,ev env x)) heap.length):=GP
theorem XZ{T:ay}{a:ax}:dO P ah ⟨dst,.load T a,ty,pos,af,g⟩ ⟨env,heap⟩ K ()=cB K (o8 P T heap (ev env a)):=MJ
theorem Wu{T:ay}{a x:ax}:dO P ah ⟨dst,.store T a x,ty,pos,af,g⟩ ⟨env,heap⟩ K ()=cB K (oT P T heap (ev env a) (ev env x)):=Lm
theorem XT{op:a6}{T a:ay}{x y:ax}:dO P ah ⟨dst,.binOp op T x y a,ty,pos,af,g⟩ ⟨env,heap⟩ K ()=cB K (jm P op T (lX y) heap (ev env x) (ev env y)):=NW
theorem X6{op:UnOp}{T:ay}{x:ax}:dO P ah ⟨dst,.unOp op T x,ty,pos,af,g⟩ ⟨env,heap⟩ K ()=cB K (rH op (ev env x)):=N2
theorem XW{S D:ay}{x:ax}:dO P ah ⟨dst,.convert S D x,ty,pos,af,g⟩ ⟨env,heap⟩ K ()=cB K (qI P S D heap (ev env x)):=ML
theorem S7{t:ax}{i:Nat}:dO P ah ⟨dst,.extract t i,ty,pos,af,g⟩ ⟨env,heap⟩ K ()=cB K (pW (ev env t) i):=Jd
theorem Sz{T:ay}{a:ax}{f:Nat}:dO P ah ⟨dst,.fieldAddr T a f,ty,pos,af,g⟩ ⟨env,heap⟩ K ()=cB K (oB P T (ev env a) f):=Hg
theorem Sy{T:ay}{x i:ax}:dO P ah ⟨dst,.indexAddr T x i,ty,pos,af,g⟩ ⟨env,heap⟩ K ()=cB K (oA P T heap (ev env x) (ev env i)):=Hf
theorem Wx{T:ay}{x i:ax}:dO P ah ⟨dst,.index T x i,ty,pos,af,g⟩ ⟨env,heap⟩ K ()=cB K (qB P T (ev env x) (ev env i)):=Fi
theorem XY{x:ax}{a:Array ay}:dO P ah ⟨dst,.call {callee:=.builtin .len,args:=#[x],argTypes:=a},ty,pos,af,g⟩ ⟨env,heap⟩ K ()=cB K (rp P (a.getD 0 0) a.size heap (ev env x)):=NY
theorem XV{f:ax}{args:List ax}{a:Array ay}:dO P ah ⟨dst,.call {callee:=.value f,args:=args.toArray,argTypes:=a},ty,pos,af,g⟩ ⟨env,heap⟩ K ()=CU P heap K (ev env f) (args.map (ev env)):=MM
theorem aAR{x:ax}:dR P ah ⟨dst,.move x,ty,pos,af,g⟩ L ⟨env,heap⟩ ()=eA dst ⟨env,heap⟩ L {v:=ev env x}:=Mw
theorem Uo{x:ax}:dR P ah ⟨dst,.assign x,ty,pos,af,g⟩ L ⟨env,heap⟩ ()=eA dst ⟨env,heap⟩ L {v:=ev env x}:=Jl
theorem aAU{c a b:ax}:dR P ah ⟨dst,.pick c a b,ty,pos,af,g⟩ L ⟨env,heap⟩ ()=cB (eA dst ⟨env,heap⟩ L) (qP (ev env c) (ev env a) (ev env b)):=Mu
theorem Wf{T:ay}:dR P ah ⟨dst,.alloc T,ty,pos,af,g⟩ L ⟨env,heap⟩ ()=cB (eA dst ⟨env,heap⟩ L) (qz P T heap.length):=K2
theorem aAB{T:ay}{x:ax}:dR P ah ⟨dst,.box T x,ty,pos,af,g⟩ L ⟨env,heap⟩ ()=cB (eA dst ⟨env,heap⟩ L) (tg P T heap.length (ev env x)):=Pa
theorem We{T:ay}{a:Array (Nat×ax)}:dR P ah ⟨dst,.build T a,ty,pos,af,g⟩ L ⟨env,heap⟩ ()=cB (eA dst ⟨env,heap⟩ L) (qx P T (a.toList.map fun(i,x)=>(i,ev env x))):=K1
theorem RI{T:ay}{n:Nat}{a:Array (Nat×ax)}:dR P ah ⟨dst,.buildSlice T n a,ty,pos,af,g⟩ L ⟨env,heap⟩ ()=cB (eA dst ⟨env,heap⟩ L) (pK P T n (a.toList.map fun(i,x)=>(i,ev env x)) heap.length):=GK
theorem aAL{T:ay}{a:ax}:dR P ah ⟨dst,.load T a,ty,pos,af,g⟩ L ⟨env,heap⟩ ()=cB (eA dst ⟨env,heap⟩ L) (o8 P T heap (ev env a)):=Mx
theorem V9{T:ay}{a x:ax}:dR P ah ⟨dst,.store T a x,ty,pos,af,g⟩ L ⟨env,heap⟩ ()=cB (eA dst ⟨env,heap⟩ L) (oT P T heap (ev env a) (ev env x)):=Lf
theorem aAz{op:a6}{T a:ay}{x y:ax}:dR P ah ⟨dst,.binOp op T x y a,ty,pos,af,g⟩ L ⟨env,heap⟩ ()=cB (eA dst ⟨env,heap⟩ L) (jm P op T (lX y) heap (ev env x) (ev env y)):=O9
theorem aAW{op:UnOp}{T:ay}{x:ax}:dR P ah ⟨dst,.unOp op T x,ty,pos,af,g⟩ L ⟨env,heap⟩ ()=cB (eA dst ⟨env,heap⟩ L) (rH op (ev env x)):=Pe
theorem aAD{S D:ay}{x:ax}:dR P ah ⟨dst,.convert S D x,ty,pos,af,g⟩ L ⟨env,heap⟩ ()=cB (eA dst ⟨env,heap⟩ L) (qI P S D heap (ev env x)):=Mz
theorem Ti{t:ax}{i:Nat}:dR P ah ⟨dst,.extract t i,ty,pos,af,g⟩ L ⟨env,heap⟩ ()=cB (eA dst ⟨env,heap⟩ L) (pW (ev env t) i):=Io
theorem RU{T:ay}{a:ax}{f:Nat}:dR P ah ⟨dst,.fieldAddr T a f,ty,pos,af,g⟩ L ⟨env,heap⟩ ()=cB (eA dst ⟨env,heap⟩ L) (oB P T (ev env a) f):=G7
theorem Sb{T:ay}{x i:ax}:dR P ah ⟨dst,.indexAddr T x i,ty,pos,af,g⟩ L ⟨env,heap⟩ ()=cB (eA dst ⟨env,heap⟩ L) (oA P T heap (ev env x) (ev env i)):=G6
theorem Wc{T:ay}{x i:ax}:dR P ah ⟨dst,.index T x i,ty,pos,af,g⟩ L ⟨env,heap⟩ ()=cB (eA dst ⟨env,heap⟩ L) (qB P T (ev env x) (ev env i)):=K0
theorem aAJ{x:ax}{a:Array ay}:dR P ah ⟨dst,.call {callee:=.builtin .len,args:=#[x],argTypes:=a},ty,pos,af,g⟩ L ⟨env,heap⟩ ()=cB (eA dst ⟨env,heap⟩ L) (rp P (a.getD 0 0) a.size heap (ev env x)):=Pb
theorem aAC{f:ax}{args:List ax}{a:Array ay}:dR P ah ⟨dst,.call {callee:=.value f,args:=args.toArray,argTypes:=a},ty,pos,af,g⟩ L ⟨env,heap⟩ ()=za P heap (Pg dst ⟨env,heap⟩ L) (ev env f) (args.map (ev env)):=MA
theorem Wv{T:ay}{x:ax}{lo hi:Option ax}:dO P ah ⟨dst,.slice T x lo hi none,ty,pos,af,g⟩ ⟨env,heap⟩ K ()=cB K (oV P T heap (ev env x) (lo.map (ev env)) (hi.map (ev env))):=Ln
theorem Wa{T:ay}{x:ax}{lo hi:Option ax}:dR P ah ⟨dst,.slice T x lo hi none,ty,pos,af,g⟩ L ⟨env,heap⟩ ()=cB (eA dst ⟨env,heap⟩ L) (oV P T heap (ev env x) (lo.map (ev env)) (hi.map (ev env))):=KY
theorem UK{T:ay}{x i:ax}{ok:Bool}:dO P ah ⟨dst,.lookup T x i ok,ty,pos,af,g⟩ ⟨env,heap⟩ K ()=cB K (qM P T heap (ev env x) (ev env i) ok):=JY
theorem Um{T:ay}{x i:ax}{ok:Bool}:dR P ah ⟨dst,.lookup T x i ok,ty,pos,af,g⟩ L ⟨env,heap⟩ ()=cB (eA dst ⟨env,heap⟩ L) (qM P T heap (ev env x) (ev env i) ok):=Jj
theorem Sw{T:ay}{m k x:ax}:dO P ah ⟨dst,.mapUpdate T m k x,ty,pos,af,g⟩ ⟨env,heap⟩ K ()=cB K (lW P T heap (ev env m) (ev env k) (ev env x)):=Hw
theorem R9{T:ay}{m k x:ax}:dR P ah ⟨dst,.mapUpdate T m k x,ty,pos,af,g⟩ L ⟨env,heap⟩ ()=cB (eA dst ⟨env,heap⟩ L) (lW P T heap (ev env m) (ev env k) (ev env x)):=G4
theorem UL{T:ay}{m k x:ax}:dO P ah ⟨dst,.insert T m k x,ty,pos,af,g⟩ ⟨env,heap⟩ K ()=cB K (lW P T heap (ev env m) (ev env k) (ev env x)):=JZ
theorem Un{T:ay}{m k x:ax}:dR P ah ⟨dst,.insert T m k x,ty,pos,af,g⟩ L ⟨env,heap⟩ ()=cB (eA dst ⟨env,heap⟩ L) (lW P T heap (ev env m) (ev env k) (ev env x)):=Jk
theorem Ww{T:ay}{x:ax}:dO P ah ⟨dst,.range T x,ty,pos,af,g⟩ ⟨env,heap⟩ K ()=cB K (qq P T heap.length (ev env x)):=Lo
theorem Wb{T:ay}{x:ax}:dR P ah ⟨dst,.range T x,ty,pos,af,g⟩ L ⟨env,heap⟩ ()=cB (eA dst ⟨env,heap⟩ L) (qq P T heap.length (ev env x)):=KZ
theorem X3{it:ax}:dO P ah ⟨dst,.next it true,ty,pos,af,g⟩ ⟨env,heap⟩ K ()=cB K (qU heap (ev env it)):=Nc
theorem aAS{it:ax}:dR P ah ⟨dst,.next it true,ty,pos,af,g⟩ L ⟨env,heap⟩ ()=cB (eA dst ⟨env,heap⟩ L) (qU heap (ev env it)):=Mv
theorem Sx{T:ay}{l c:ax}:dO P ah ⟨dst,.makeSlice T l c,ty,pos,af,g⟩ ⟨env,heap⟩ K ()=cB K (qW P T heap.length (ev env l) (ev env c)):=Hx
theorem Sa{T:ay}{l c:ax}:dR P ah ⟨dst,.makeSlice T l c,ty,pos,af,g⟩ L ⟨env,heap⟩ ()=cB (eA dst ⟨env,heap⟩ L) (qW P T heap.length (ev env l) (ev env c)):=G5
theorem SC{x:ax}:dO P ah ⟨dst,.nilCheck x,ty,pos,af,g⟩ ⟨env,heap⟩ K ()=cB K (qh (ev env x)):=HA
theorem SW{x:ax}:dR P ah ⟨dst,.nilCheck x,ty,pos,af,g⟩ L ⟨env,heap⟩ ()=cB (eA dst ⟨env,heap⟩ L) (qh (ev env x)):=HY
theorem X1{args:Array ax}{a:Array ay}:dO P ah ⟨dst,.call {callee:=.builtin .min,args,argTypes:=a},ty,pos,af,g⟩ ⟨env,heap⟩ K ()=cB K (kD false (args.toList.map (ev env))):=N1
theorem aAQ{args:Array ax}{a:Array ay}:dR P ah ⟨dst,.call {callee:=.builtin .min,args,argTypes:=a},ty,pos,af,g⟩ L ⟨env,heap⟩ ()=cB (eA dst ⟨env,heap⟩ L) (kD false (args.toList.map (ev env))):=Pd
theorem X0{args:Array ax}{a:Array ay}:dO P ah ⟨dst,.call {callee:=.builtin .max,args,argTypes:=a},ty,pos,af,g⟩ ⟨env,heap⟩ K ()=cB K (kD true (args.toList.map (ev env))):=NZ
theorem aAP{args:Array ax}{a:Array ay}:dR P ah ⟨dst,.call {callee:=.builtin .max,args,argTypes:=a},ty,pos,af,g⟩ L ⟨env,heap⟩ ()=cB (eA dst ⟨env,heap⟩ L) (kD true (args.toList.map (ev env))):=Pc
theorem S6{T:ay}:dO P ah ⟨dst,.makeMap T none,ty,pos,af,g⟩ ⟨env,heap⟩ K ()=K {v:=.map heap.length,aS:=[.map false []]}:=Jc
theorem Th{T:ay}:dR P ah ⟨dst,.makeMap T none,ty,pos,af,g⟩ L ⟨env,heap⟩ ()=eA dst ⟨env,heap⟩ L {v:=.map heap.length,aS:=[.map false []]}:=IY
theorem UN{s x:ax}{T X:ay}:dO P ah ⟨dst,.call {callee:=.builtin .append,args:=#[s,x],argTypes:=#[T,X]},ty,pos,af,g⟩ ⟨env,heap⟩ K ()=cB K (oS P T X heap (ev env s) (ev env x)):=J1
theorem Up{s x:ax}{T X:ay}:dR P ah ⟨dst,.call {callee:=.builtin .append,args:=#[s,x],argTypes:=#[T,X]},ty,pos,af,g⟩ L ⟨env,heap⟩ ()=cB (eA dst ⟨env,heap⟩ L) (oS P T X heap (ev env s) (ev env x)):=Jm
theorem XX{s x:ax}{T X:ay}:dO P ah ⟨dst,.call {callee:=.builtin .copy,args:=#[s,x],argTypes:=#[T,X]},ty,pos,af,g⟩ ⟨env,heap⟩ K ()=cB K (copyV P T heap (ev env s) (ev env x)):=MK
theorem aAE{s x:ax}{T X:ay}:dR P ah ⟨dst,.call {callee:=.builtin .copy,args:=#[s,x],argTypes:=#[T,X]},ty,pos,af,g⟩ L ⟨env,heap⟩ ()=cB (eA dst ⟨env,heap⟩ L) (copyV P T heap (ev env s) (ev env x)):=My
theorem XH{f:aT}{fi ca:List AV}{args:List AV}{M:AV->Heap->Prop}:za P heap M (.func f fi ca) args=kn P false f M (fi++args++ca) heap:=NR
theorem XK{f:aT}{fi ca:List AV}{args:List AV}:CU P heap K (.func f fi ca) args=mw P f K (fi++args++ca) heap:=MN
theorem XJ{f:aT}{fi ca:List PV}{args:List AV}{M:AV->Heap->Prop}:za P heap M (.p (.func f fi ca)) args=kn P false f M (fi.map .p++args++ca.map .p) heap:=NT
theorem XL{f:aT}{fi ca:List PV}{args:List AV}:CU P heap K (.p (.func f fi ca)) args=mw P f K (fi.map .p++args++ca.map .p) heap:=NU
end ops
section guards
variable{ops:Array Oper}{o:Oper}{r:List Oper}{K:St->Prop}{want t:Bool}{s:St}{i:Nat}{acc:List Touch}
theorem So:CR P ah ops o r K want s (.p (.bool t))=if t=want then dR P ah o (pz P ah ops r K) s ()else pz P ah ops r K ⟨put o.dst (.p (.aE [])) s.env,s.heap⟩:=Hp
theorem SR:CR P ah ops o r K want s (.p (.aE []))=pz P ah ops r K ⟨put o.dst (.p (.aE [])) s.env,s.heap⟩:=H6
theorem RN:B9 P ah ops o r i acc K want s (.p (.bool t))=if t=want then dO P ah o s (CM P ah ops r i acc K o.dst s) ()else qQ P ah ops r (i+1) acc K ⟨put o.dst (.p (.aE [])) s.env,s.heap⟩:=GN
theorem Sn:B9 P ah ops o r i acc K want s (.p (.aE []))=qQ P ah ops r (i+1) acc K ⟨put o.dst (.p (.aE [])) s.env,s.heap⟩:=Ho
end guards
theorem RE{id:Nat}{Q:bp->St->Prop}{s:St}:qy id Q .normal s=Q .normal s:=(rfl)
theorem S2{id i:Nat}{Q:bp->St->Prop}{s:St}:qy id Q (.exit i) s=if i=id then Q .normal s else Q (.exit i) s:=(rfl)
theorem Ua{id:Nat}{Q:bp->St->Prop}{s:St}:qy id Q .ret s=Q .ret s:=(rfl)
section makeFunc
variable{dst:Option Tmp}{ty:Nat}{pos:String}{af:Array Edge}{g:Option (Nat×Bool)}{env:Env}{heap:Heap}{L:St->Prop}{K:aU->Prop}{f:aT}{fi ca:Array ax}
theorem SX(hf:ah f=false):dR P ah ⟨dst,.makeFunc (.func f) fi ca,ty,pos,af,g⟩ L ⟨env,heap⟩ ()=cB (eA dst ⟨env,heap⟩ L) (qK f (fi.toList.map (ev env)) (ca.toList.map (ev env))):=HZ hf
theorem SD(hf:ah f=false):dO P ah ⟨dst,.makeFunc (.func f) fi ca,ty,pos,af,g⟩ ⟨env,heap⟩ K ()=cB K (qK f (fi.toList.map (ev env)) (ca.toList.map (ev env))):=HB hf
end makeFunc
theorem TW{p:Prop}{e:aU}{K:aU->Prop}:cB K (some (p,e))=(p/\K e):=(rfl)
theorem TX{K:aU->Prop}:cB K none=False:=(rfl)
theorem TF{a:Array Oper}:yu a []=true:=(rfl)
theorem Sl{a:Array Oper}{t:Touch}{r:List Touch}:yu a (t::r)=(r.all (fun u=>!jj u t||aCB a u.i t.i)&&yu a r):=(rfl)
theorem QV{a:List a1}{v:PV}{s:St}:re P a v .ret s=∃vs,fC P s a=some vs/\gz s.heap 9 (oneOf vs) v:=by simp[re]
theorem Ss{a:List a1}{v:PV}{s:St}:re P a v .normal s=∃vs,fC P s a=some vs/\gz s.heap 9 (oneOf vs) v:=by simp[re]
section pur
variable{H:Heap}
theorem DJ{n:Nat}{a v:PV}:gz H n (.p a) v=Wk a v:=by cases n<;>rfl
theorem LY{n b an z off len:Nat}{fs:List PV}:gz H (n+1) (.sl b an z off len) (.seq fs)=match H[b]? with
  |some (.arr _ a c es)=>an=a/\z=c/\off+len<=es.length/\kM H n ((es.drop off).take len) fs
  |_=>False:=(rfl)
theorem aCr{n:Nat}{u u':ay}{a:List AV}{vs:List PV}:gz H (n+1) (.st u a) (.st u' vs)=(u=u'/\kM H n a vs):=(rfl)
theorem aCs{n:Nat}{a:List AV}{vs:List PV}:gz H (n+1) (.aE a) (.aE vs)=kM H n a vs:=(rfl)
theorem Le{n b:Nat}{a:List (PV×PV)}:gz H (n+1) (.map b) (.eS a)=match H[b]? with
  |some (.map _ c)=>c=a
  |_=>False:=(rfl)
theorem aCq{n:Nat}{f a:aT}{c d:List AV}{vs b:List PV}:gz H (n+1) (.func f c d) (.func a vs b)=(f=a/\kM H n c vs/\kM H n d b):=(rfl)
theorem xD{n:Nat}{vs:List PV}:kM H n [] vs=(vs=[]):=(rfl)
theorem A7{n:Nat}{x:AV}{a:List AV}{v:PV}{vs:List PV}:kM H n (x::a) (v::vs)=(gz H n x v/\kM H n a vs):=(rfl)
theorem yo{α:Type}{n:Nat}{g:α->AV}{f:α->PV}:∀{l:List α},kM H n (l.map g) (l.map f)=∀x∈l,gz H n (g x) (f x)
 |[]=>by simp[xD]
 |a::l=>by simp[A7,yo (l:=l)]
theorem qg(n:Nat)(c:∀(x:AV)(v:PV),gz H n x v->∃v',dY H n x=some v'/\Wk v' v):∀(b:List AV)(vs:List PV),kM H n b vs->∃a,jb (dY H n) b=some a/\bu a vs
 |[],vs,h=>by rw[xD]at h;subst h;exact⟨[],rfl,by simp[bu]⟩
 |x::b,vs,h=>by
  cases vs with
  |nil=>exact h.elim
  |cons v vs=>
   rw[A7]at h;obtain⟨p,d,e⟩:=c x v h.1;obtain⟨a,f,g⟩:=qg n c b vs h.2;exact⟨p::a,by simp[jb,d,f],by simp only[bu];exact⟨e,g⟩⟩
theorem o5:∀(n:Nat)(x:AV)(v:PV),gz H n x v->∃v',dY H n x=some v'/\Wk v' v
 |0,x,v,h=>by
  cases x with
  |p a=>exact⟨_,rfl,h⟩
  |_=>exact h.elim
 |n+1,x,v,h=>by
  cases x with
  |p a=>rw[DJ]at h;exact⟨_,rfl,h⟩
  |sl b an z off len=>
   cases v with
   |seq fs=>
    rw[LY]at h
    split at h
    case h_2=>exact h.elim
    rename_i k C E j e;obtain⟨rfl,rfl,m,g⟩:=h;obtain⟨i,c,d⟩:=qg n (o5 n) _ _ g;simp only[dY,e,m,and_self,if_true]
    split
    ·rename_i r;rw[r.2]at g;simp only[List.drop_nil,List.take_nil,xD]at g;exact⟨_,rfl,by rw[g];simp[Wk]⟩
    ·rw[c];exact⟨_,rfl,by simp only[Wk];exact d⟩
   |_=>exact h.elim
  |st u xs=>
   cases v with
   |st u' vs=>
    obtain⟨rfl,h⟩:=h;obtain⟨i,c,d⟩:=qg n (o5 n) _ _ h;simp only[dY,c];exact⟨_,rfl,by simp only[Wk];exact⟨trivial,d⟩⟩
   |_=>exact h.elim
  |aE xs=>
   cases v with
   |aE vs=>
    obtain⟨i,c,d⟩:=qg n (o5 n) _ _ h;simp only[dY,c];exact⟨_,rfl,by simp only[Wk];exact d⟩
   |_=>exact h.elim
  |ptr b path=>
   cases v with
   |cq t=>
    change (match H[b]? with
     |some (.box _ y)=>match eL y path with
      |some s=>gz H n s t
      |none=>False
     |_=>False)at h
    split at h
    case h_2=>exact h.elim
    rename_i e
    split at h
    case h_2=>exact h.elim
    rename_i s hs;obtain⟨p,c,d⟩:=o5 n _ _ h;simp only[dY,e,hs,c];exact⟨_,rfl,by simp only[Wk];exact d⟩
   |_=>exact h.elim
  |b6 _ _ _ _ _=>exact h.elim
  |map b=>
   cases v with
   |eS j=>
    rw[Le]at h
    split at h
    case h_2=>exact h.elim
    rename_i fz w e;subst h;simp only[dY,e];exact⟨_,rfl,Wk.refl _⟩
   |_=>exact h.elim
  |func f xs D=>
   cases v with
   |func A vs us=>
    obtain⟨rfl,h,l⟩:=h;obtain⟨i,c,d⟩:=qg n (o5 n) _ _ h;obtain⟨B,o,q⟩:=qg n (o5 n) _ _ l;simp only[dY,c,o];exact⟨_,rfl,by simp only[Wk];exact⟨trivial,d,q⟩⟩
   |_=>exact h.elim
end pur
theorem Vv{f:aT}{fn:Func}(ah:aT->Bool)(h:al P f fn)(n:P.follows .mixedOrders=true){args:List PV}{v:PV}(o:args.length<=fn.ntmps)
 (d:eM P ah (fn.ntmps,0) (fn.body.getD .skip) (re P fn.results.toList v) ⟨iI 0 (args.map .p),[]⟩):q8 P f args v:=by
 have hs:=h.stat;simp only[ap,bne_iff_ne]at hs;have k:fn.body=some (fn.body.getD .skip):=by
  have a:=hs.1.1;clear d hs;cases l:fn.body with
  |none=>rw[l]at a;simp at a
  |some c=>rfl
 obtain⟨e,s,⟨a,vs,g,b⟩,j⟩:=mZ _ _ _ (lx (Q':=re P fn.results.toList v) _ (fun _ _ h=>h) d);obtain⟨v',b,i⟩:=o5 _ _ _ b;have m:q8 P f args v':=JR (ot ah) (xg (ot ah) n) h.enters h.func k hs.2 o (j (Ends P fn.results.toList v') ⟨by cases e<;>exact a,vs,g,b⟩);exact m.cZ (bu.refl _) i
theorem aP{f:aT}{fn:Func}(ah:aT->Bool)(h:al P f fn)(a:P.follows .mixedOrders=true){args:List PV}{v:PV}(b:args.length<=fn.ntmps)
 (c:eM P ah (fn.ntmps,0) (fn.body.getD .skip) (re P fn.results.toList v) ⟨iI 0 (args.map .p),[]⟩):az P f args v:=.inl (Vv ah h a b c)
theorem DL{α:Type}{N:Nat×Nat->Prop}{f:α->PV}{l:List α}:aR N (l.map fun x=>.p (f x))=True:=by
 rw[cH,eq_iff_iff,iff_true];intro v a;simp only[bo]at a;obtain⟨x,_,rfl⟩:=a;trivial
theorem aCW{α:Type}{N:Nat×Nat->Prop}{f:α->PV}{l:List α}{i:Nat}:aR N ((l.map fun x=>.p (f x)).take i)=True:=by
 rw[cH,eq_iff_iff,iff_true];intro v a;have a:=List.mem_of_mem_take a;simp only[bo]at a;obtain⟨x,_,rfl⟩:=a;trivial
theorem Uy{N:Nat×Nat->Prop}{a b:List AV}:aR N (a++b)=(aR N a/\aR N b):=by
 simp only[cH,cN,eq_iff_iff];exact⟨fun h=>⟨fun v c=>h v (.inl c),fun v c=>h v (.inr c)⟩,fun h v c=>c.elim (h.1 v) (h.2 v)⟩
theorem Ro{α:Type}{l:List α}{i:Nat}:(l.take i).take i=l.take i:=by simp[List.take_take]
theorem Rn{α β:Type}{f:α->β}{l:List α}:(l.map f).take l.length=l.map f:=List.take_of_length_le s_
section loops
variable{α:Type}(N:Nat)(mk:α->St)(ok:α->Prop)(m:α->Nat)(n:Nat)(Q:bp->St->Prop)
def DX(s:Tg (N,mk,ok,m,n) St):Prop:=tP N mk ok m n s
def yQ(e:Tg (N,mk,ok,m,n,Q) bp)(s:Tg (N,mk,ok,m,n,Q) St):Prop:=qL N mk ok m n Q e s
variable{N}{mk}{ok}{m}{n}{Q}{s s':St}
theorem R0:yQ N mk ok m n Q .normal s=DX N mk ok m n s:=(rfl)
theorem Tp{id:Nat}:yQ N mk ok m n Q (.exit id) s=Q (.exit id) s:=(rfl)
theorem Uk:yQ N mk ok m n Q .ret s=Q .ret s:=(rfl)
theorem lp{d:Nat}{b:Code}(mk:α->St)(ok:α->Prop)(m:α->Nat)(c:α)(e:ok c)(gR:∀a,ok a->eM P ah (d,N) b (yQ N mk ok m (m a) Q) (mk a))
 (hn:(mk c).heap.take N=s.heap.take N:=by simp)(he:lJ (mk c).heap s.env (mk c).env:=by simp)(hh:iU (mk c).heap s.heap (mk c).heap:=by simp)(hr:iL (mk c).heap (mk c).env:=by simp)(hr2:ey (mk c).heap (mk c).heap:=by simp):
 eM P ah (d,N) (.loop b) Q s:=wl (q:=(d,N)) mk ok m c e gR hn he hh hr hr2
theorem rd(a':α)(a:ok a')(h1:m a'<n:=by omega)(hn:(mk a').heap.take N=s.heap.take N:=by simp)(he:lJ (mk a').heap s.env (mk a').env:=by simp)(hh:iU (mk a').heap s.heap (mk a').heap:=by simp)(hr:iL (mk a').heap (mk a').env:=by simp)(hr2:ey (mk a').heap (mk a').heap:=by simp):
 DX N mk ok m n s:=rnd a' a h1 hn he hh hr hr2
end loops
section calls
variable{f:aT}{H H1:Heap}{K:AV->Heap->Prop}{L:aU->Prop}{v a b c d e a' b' c' d' e':PV}
theorem c0(h:az P f [] v)(hk:K (.p v) H):kn P false f K [] H:=XM h hk
theorem c1(h:az P f [a'] v)(hk:K (.p v) H)(h1:Wk a a':=by first|exact Wk.refl _|simp):kn P false f K [.p a] H:=XN h hk h1
theorem c2(h:az P f [a',b'] v)(hk:K (.p v) H)(h1:Wk a a':=by first|exact Wk.refl _|simp)(c:Wk b b':=by first|exact Wk.refl _|simp):kn P false f K [.p a,.p b] H:=XO h hk h1 c
theorem c3(h:az P f [a',b',c'] v)(hk:K (.p v) H)(h1:Wk a a':=by first|exact Wk.refl _|simp)(d:Wk b b':=by first|exact Wk.refl _|simp)(e:Wk c c':=by first|exact Wk.refl _|simp):kn P false f K [.p a,.p b,.p c] H:=XP h hk h1 d e
theorem c4(h:az P f [a',b',c',d'] v)(hk:K (.p v) H)(e:Wk a a':=by first|exact Wk.refl _|simp)(g:Wk b b':=by first|exact Wk.refl _|simp)(i:Wk c c':=by first|exact Wk.refl _|simp)(j:Wk d d':=by first|exact Wk.refl _|simp):kn P false f K [.p a,.p b,.p c,.p d] H:=XQ h hk e g i j
theorem c5(h:az P f [a',b',c',d',e'] v)(hk:K (.p v) H)(g:Wk a a':=by first|exact Wk.refl _|simp)(i:Wk b b':=by first|exact Wk.refl _|simp)(j:Wk c c':=by first|exact Wk.refl _|simp)(k:Wk d d':=by first|exact Wk.refl _|simp)(l:Wk e e':=by first|exact Wk.refl _|simp):kn P false f K [.p a,.p b,.p c,.p d,.p e] H:=XR h hk g i j k l
theorem e0(h:az P f [] v)(hk:L {v:=.p v}):mw P f L [] H:=Xv h hk
theorem e1(h:az P f [a'] v)(hk:L {v:=.p v})(h1:Wk a a':=by first|exact Wk.refl _|simp):mw P f L [.p a] H:=Xw h hk h1
theorem e2(h:az P f [a',b'] v)(hk:L {v:=.p v})(h1:Wk a a':=by first|exact Wk.refl _|simp)(c:Wk b b':=by first|exact Wk.refl _|simp):mw P f L [.p a,.p b] H:=Xx h hk h1 c
theorem e3(h:az P f [a',b',c'] v)(hk:L {v:=.p v})(h1:Wk a a':=by first|exact Wk.refl _|simp)(d:Wk b b':=by first|exact Wk.refl _|simp)(e:Wk c c':=by first|exact Wk.refl _|simp):mw P f L [.p a,.p b,.p c] H:=Xy h hk h1 d e
theorem e4(h:az P f [a',b',c',d'] v)(hk:L {v:=.p v})(e:Wk a a':=by first|exact Wk.refl _|simp)(g:Wk b b':=by first|exact Wk.refl _|simp)(i:Wk c c':=by first|exact Wk.refl _|simp)(j:Wk d d':=by first|exact Wk.refl _|simp):mw P f L [.p a,.p b,.p c,.p d] H:=Xz h hk e g i j
theorem e5(h:az P f [a',b',c',d',e'] v)(hk:L {v:=.p v})(g:Wk a a':=by first|exact Wk.refl _|simp)(i:Wk b b':=by first|exact Wk.refl _|simp)(j:Wk c c':=by first|exact Wk.refl _|simp)(k:Wk d d':=by first|exact Wk.refl _|simp)(l:Wk e e':=by first|exact Wk.refl _|simp):mw P f L [.p a,.p b,.p c,.p d,.p e] H:=XA h hk g i j k l
theorem cp{args:List AV}{vs a:List PV}(h:az P f a v)(b:mM H args=some (vs,H1))(hk:K (.p v) H1)(h1:bu vs a:=by first|exact bu.refl _|simp):kn P false f K args H:=XS h b hk h1
theorem ep{args:List AV}{vs a:List PV}{bs:List Nat}{aj aG:List (Nat×Obj)}(h:az P f a v)(b:nN H args=some (vs,bs))(hf:kW H bs=some (aj,aG))(hk:L {v:=.p v,aj,aG})(h1:bu vs a:=by first|exact bu.refl _|simp):mw P f L args H:=XC h b hf hk h1
theorem ci{args:List AV}{H':Heap}{v:AV}(h:cm P f H args H' v)(hk:K v H'):kn P false f K args H:=.inr ⟨rfl,.inr (.inl ⟨H',v,h,hk⟩)⟩
end calls
attribute [simp] DL aCW Uy Ro DJ LY aCr aCs Le aCq xD A7 yo Rn aR RE S2 Ua So SR RN Sn SX SD TW TX TF Sl QV Ss R0 Tp Uk mM kH nN l8 kW lT
 aE1 Vd aEX aE0 Vb aEV Vc bn JH aEU R6 TO TU SE UD Wp V6 aE4 Va Uh aFe U9 Ug X2 UM X4 WA XU Wz Rz XZ Wu XT X6 XW S7 Sz Sy Wx XY XV aAR Uo aAU Wf aAB We RI aAL V9 aAz aAW aAD Ti RU Sb Wc aAJ aAC Wv Wa UK Um Sw R9 UL Un Ww Wb X3 aAS Sx Sa SC SW X1 aAQ X0 aAP S6 Th UN Up XX aAE XH XK XJ XL
end
section
variable{P:a0}{ah:aT->Bool}{q:Cx}
theorem IJ{r:dZ}{K a:aU->Prop}(hk:∀e,K e->a e)(h:aZ r K):aZ r a:=by
 unfold aZ at h⊢
 split at h
 ·exact⟨h.1,hk _ h.2⟩
 ·exact h.elim
theorem Tn{o:Oper}{e:Env}{H:Heap}{K a:aU->Prop}(hk:∀e,K e->a e)(h:fy P ah o (ev e) H K):fy P ah o (ev e) H a:=by
 obtain⟨x,b,c⟩:=BU (ah:=ah) o (ev e) H K h;exact c a (hk x b)
theorem J8{o:Oper}{e:Env}{H:Heap}{K a:aU->Prop}(hk:∀e,K e->a e)(h:kF P ah o e H K):kF P ah o e H a:=by
 unfold kF at h⊢
 repeat' split at h
 all_goals first|exact hk _ h|exact IJ hk h|exact⟨h.1,IJ hk h.2⟩|exact Tn hk h|exact h.elim
theorem Hj{d:Bool}{f:aT}{args:List AV}{H:Heap}{K i:AV->Heap->Prop}(hk:∀v H,K v H->i v H)(h:gM P d f args H K):gM P d f args H i:=by
 rcases h with⟨vs,v,a,b,c⟩|⟨g,⟨vs,H1,v,a,b,c⟩|⟨H',v,a,b⟩|⟨e,a,b,c⟩|⟨aj,v,a,b,c⟩⟩
 ·exact .inl ⟨vs,v,a,b,hk _ _ c⟩
 ·exact .inr ⟨g,.inl ⟨vs,H1,v,a,b,hk _ _ c⟩⟩
 ·exact .inr ⟨g,.inr (.inl ⟨H',v,a,hk _ _ b⟩)⟩
 ·exact .inr ⟨g,.inr (.inr (.inl ⟨e,a,b,hk _ _ c⟩))⟩
 ·exact .inr ⟨g,.inr (.inr (.inr ⟨aj,v,a,b,hk _ _ c⟩))⟩
theorem HI{f:aT}{args:List AV}{H:Heap}{K d:aU->Prop}(hk:∀e,K e->d e)(h:gT P f args H K):gT P f args H d:=by
 rcases h with⟨vs,v,a,b,c⟩|⟨vs,bs,aj,aG,v,a,b,c,g⟩|⟨e,a,b,c⟩|⟨aj,v,a,b,c⟩
 ·exact .inl ⟨vs,v,a,b,hk _ c⟩
 ·exact .inr (.inl ⟨vs,bs,aj,aG,v,a,b,c,hk _ g⟩)
 ·exact .inr (.inr (.inl ⟨e,a,b,hk _ c⟩))
 ·exact .inr (.inr (.inr ⟨aj,v,a,b,hk _ c⟩))
theorem G1{o:Oper}{K b:St->Prop}{s:St}(hk:∀s,K s->b s)(h:dt P ah o K s):dt P ah o b s:=by
 unfold dt at h⊢
 split at h
 ·rename_i f args g i;unfold qJ at h⊢
  split at h
  ·exact Hj (fun v H a=>hk _ a) h
  ·exact Hj (fun v H a=>hk _ a) h
  ·obtain⟨H',v,c,d⟩:=h;exact⟨H',v,c,hk _ d⟩
  ·exact h.elim
 ·exact J8 (fun e a=>hk _ a) h
theorem Hr{o:Oper}{s:St}{K a:aU->Prop}(hk:∀e,K e->a e)(h:du P ah o s K):du P ah o s a:=by
 unfold du at h⊢
 split at h
 ·rename_i f args g i;unfold qw at h⊢
  split at h
  ·exact HI hk h
  ·exact HI hk h
  ·obtain⟨e,b,c,d⟩:=h;exact⟨e,b,c,hk _ d⟩
  ·exact h.elim
 ·exact J8 hk h
theorem uo{c:Array Oper}:∀(l:List Oper){K a:St->Prop}{s:St},(∀s,K s->a s)->fW P ah c l K s->fW P ah c l a s
 |[],K,a,s,hk,h=>hk s h
 |o::l,K,a,s,hk,h=>by
  simp only[fW]at h⊢
  split at h
  ·exact G1 (fun s hs=>uo l hk hs) h
  ·split at h
   ·split at h
    ·rename_i b;rw[if_pos b];exact G1 (fun s hs=>uo l hk hs) h
    ·rename_i b;rw[if_neg b];exact uo l hk h
   ·exact uo l hk h
   ·exact h.elim
theorem uj{d:Array Oper}:∀(l:List Oper){i:Nat}{b:List Touch}{K a:St->Prop}{s:St},(∀s,K s->a s)->gn P ah d l i b K s->gn P ah d l i b a s
 |[],i,b,K,a,s,hk,h=>⟨h.1,hk s h.2⟩
 |o::l,i,b,K,a,s,hk,h=>by
  simp only[gn]at h⊢
  split at h
  ·exact Hr (fun e hs=>uj l hk hs) h
  ·split at h
   ·split at h
    ·rename_i c;rw[if_pos c];exact Hr (fun e hs=>uj l hk hs) h
    ·rename_i c;rw[if_neg c];exact uj l hk h
   ·exact uj l hk h
   ·exact h.elim
theorem mY:∀(c:Code){Q g:bp->St->Prop}{s:St},(∀e s,Q e s->g e s)->dj P ah q c Q s->dj P ah q c g s
 | .skip,Q,g,s,hq,h=>hq _ _ h
 | .label _,Q,g,s,hq,h=>hq _ _ h
 | .exit _,Q,g,s,hq,h=>hq _ _ h
 | .ret,Q,g,s,hq,h=>hq _ _ h
 | .region _ ops draw,Q,g,s,hq,h=>by
  simp only[dj]at h⊢
  split at h
  ·rename_i j;rw[if_pos j];exact uj _ (fun s hs=>hq _ _ hs) h
  ·rename_i j;rw[if_neg j];exact uo _ (fun s hs=>hq _ _ hs) h
 | .seq a b,Q,g,s,hq,h=>by
  simp only[dj]at h⊢;refine mY a (fun e s d=>?_) h;cases e with
  |normal=>exact mY b hq d
  |exit i=>exact hq _ _ d
  |ret=>exact hq _ _ d
 | .cond c a b,Q,g,s,hq,h=>by
  simp only[dj]at h⊢;unfold sV at h⊢
  split at h
  ·split at h
   ·rename_i k;rw[if_pos k];exact mY a hq h
   ·rename_i k;rw[if_neg k];exact mY b hq h
  ·exact h.elim
 | .block id b,Q,g,s,hq,h=>by
  simp only[dj]at h⊢;refine mY b (fun e s d=>?_) h;cases e with
  |normal=>exact hq _ _ d
  |exit i=>
   simp only[nK]at d⊢
   by_cases hi:i=id
   ·simp only[hi,if_true]at d⊢;exact hq _ _ d
   ·simp only[hi,if_false]at d⊢;exact hq _ _ d
  |ret=>exact hq _ _ d
 | .scope b,Q,g,s,hq,h=>mY b hq h
 | .loop b,Q,g,s,hq,h=>by
  simp only[dj]at h⊢;obtain⟨I,l,m⟩:=h;refine⟨I,l,fun n t hI=>mY b (fun e s d=>?_) (m n t hI)⟩;cases e with
  |normal=>exact d
  |exit id=>exact hq _ _ d
  |ret=>exact hq _ _ d
 | .rangeFunc f o a b,Q,g,s,hq,h=>by
  simp only[dj]at h⊢;exact⟨h.1,Ij (fun H=>Ip hq) h.2⟩
 | .goto _,_,_,_,_,h=>h.elim
 | .refuse _,_,_,_,_,h=>h.elim
def qN(R:St->Prop)(Q:bp->St->Prop)(e:Tg (R,Q) bp)(s:Tg (R,Q) St):Prop:=match e with
 | .normal=>R s
 |e=>Q e s
theorem RR{R:St->Prop}{Q:bp->St->Prop}{s:St}:qN R Q .normal s=R s:=(rfl)
theorem Tw{R:St->Prop}{Q:bp->St->Prop}{id:Nat}{s:St}:qN R Q (.exit id) s=Q (.exit id) s:=(rfl)
theorem US{R:St->Prop}{Q:bp->St->Prop}{s:St}:qN R Q .ret s=Q .ret s:=(rfl)
theorem join{a b:Code}{Q:bp->St->Prop}{s:St}(R:St->Prop)(d:eM P ah q a (qN R Q) s)(f:∀s',R s'->eM P ah q b Q s'):eM P ah q (.seq a b) Q s:=by
 rw[bn];refine mY a (fun e s c=>?_) d;cases e with
 |normal=>exact f s c
 |exit i=>exact c
 |ret=>exact c
theorem Pm{α:Type}{N:Nat×Nat->Prop}{f:α->PV}{l:List α}:aR N (l.map (AV.p∘f))=True:=DL
attribute [simp] RR Tw US Pm
end
section
variable{P:a0}{ah:aT->Bool}
def vf(P:a0)(a:List a1)(N:Nat)(H':Heap)(v:AV)(e:Tg (a,N,H',v) bp)(s:Tg (a,N,H',v) St):Prop:=s9 P a N H' v e s
theorem TA{a:List a1}{N:Nat}{H':Heap}{v:AV}{s:St}:vf P a N H' v .ret s=∃vs,fC P s a=some vs/\oneOf vs=v/\(H'=s.heap\/(bC N s ⟨[],H'⟩/\aB (aH H') v)):=by simp[vf,s9]
theorem Ry{a:List a1}{N:Nat}{H':Heap}{v:AV}{s:St}:vf P a N H' v .normal s=∃vs,fC P s a=some vs/\oneOf vs=v/\(H'=s.heap\/(bC N s ⟨[],H'⟩/\aB (aH H') v)):=by simp[vf,s9]
theorem fU{f:aT}{fn:Func}(ah:aT->Bool)(h:al P f fn)(a:P.follows .mixedOrders=true){args:List AV}{H H':Heap}{v:AV}(b:args.length<=fn.ntmps)
 (c:eM P ah (fn.ntmps,H.length) (fn.body.getD .skip) (vf P fn.results.toList H.length H' v) ⟨iI 0 args,H⟩):cm P f H args H' v:=
 Of ah h a b (lx (Q':=s9 P fn.results.toList H.length H' v) _ (fun _ _ h=>h) c)
theorem aDo{n i:Nat}:sig [] n i=n+i:=by simp[sig]
theorem cn{f:aT}{H H':Heap}{K:AV->Heap->Prop}{v:AV}{args:List PV}(h:cm P f [] (args.map .p) H' v)(hk:K (cK (sig [] H.length) v) (H++H'.map (cX (sig [] H.length)))):kn P false f K (args.map .p) H:=by
 refine .inr ⟨rfl,.inr (.inr (.inl ⟨dC [] H.length [] H' v,?_,⟨by simp[dC],by simp[dC]⟩,?_⟩))⟩
 ·have b:aR (aH ([]:Heap)) (args.map .p):=by rw[cH];intro v c;obtain⟨x,_,rfl⟩:=bo.1 c;trivial
  have:=h.frame [] H.length rfl cR s_ s_ b s_;have e:cM (sig [] H.length) (args.map .p)=args.map .p:=by
   clear h b this hk
   induction args with
   |nil=>rfl
   |cons a r d=>simp only[bv,cM,cK,d]
  rwa [e]at this
 ·simpa[dC,aX]using hk
theorem NP{f:aT}{H H':Heap}{K:AV->Heap->Prop}{v:AV}{a b:PV}(h:cm P f [] [.p a,.p b] H' v)(hk:K (cK (sig [] H.length) v) (H++H'.map (cX (sig [] H.length)))):kn P false f K [.p a,.p b] H:=cn (args:=[a,b]) h hk
def M9(P:a0)(T:ay)(f:Nat):Option (ay×ju):=match kindOf P T,P.underlying T with
 | .agg u,some (.struct _)=>((jy P u)[f]?).map fun F=>(u,kindOf P F)
 |_,_=>none
def yD(P:a0)(T:ay)(f:Nat)(x:AV):dZ:=match M9 P T f,x with
 |some (u,k),.p t=>match(cA t)[f]? with
  |some g=>some (aL t=.agg u/\k=aL g,{v:=.p g})
  |none=>none
 |_,_=>none
theorem JU{T:ay}{x:AV}{f:Nat}{K:aU->Prop}:(match kindOf P T,P.underlying T,x with
  | .agg u,some (.struct _),.p t=>aL t=.agg u/\(match(cA t)[f]?,(jy P u)[f]? with
   |some g,some F=>kindOf P F=aL g/\K {v:=.p g}
   |_,_=>False)
  |_,_,_=>False)=aZ (yD P T f x) K:=by
 unfold yD M9;cases b:kindOf P T with
 |agg u=>cases c:P.underlying T with
  |none=>simp[aZ]
  |some d=>cases d with
   |struct fs=>cases x with
    |p t=>cases hc:(jy P u)[f]?<;>cases a:(cA t)[f]?<;>simp[aZ,a,hc,and_assoc]
    |_=>cases hc:(jy P u)[f]?<;>simp[aZ,hc]
   |_=>simp[aZ]
 |_=>simp[aZ]
section fields
variable{dst:Option Tmp}{ty:Nat}{pos:String}{af:Array Edge}{g:Option (Nat×Bool)}{env:Env}{heap:Heap}{L:St->Prop}{K:aU->Prop}{T:ay}{x:ax}{f:Nat}
theorem Wd:dR P ah ⟨dst,.field T x f,ty,pos,af,g⟩ L ⟨env,heap⟩ ()=cB (eA dst ⟨env,heap⟩ L) (yD P T f (ev env x)):=JU
theorem Wy:dO P ah ⟨dst,.field T x f,ty,pos,af,g⟩ ⟨env,heap⟩ K ()=cB K (yD P T f (ev env x)):=JU
end fields
theorem fE{σ:Nat->Nat}{α:Type}{f:α->PV}:∀{l:List α},cM σ (l.map (AV.p∘f))=l.map (AV.p∘f)
 |[]=>rfl
 |a::l=>by simp only[bv,cM,fE (l:=l)];rfl
theorem Uz{σ:Nat->Nat}{α β:Type}{f:β->PV}{g:α->β}{l:List α}:cM σ (l.map ((AV.p∘f)∘g))=l.map ((AV.p∘f)∘g):=fE (f:=f∘g)
theorem aCS{α β:Type}{N:Nat×Nat->Prop}{f:β->PV}{g:α->β}{l:List α}:aR N (l.map ((AV.p∘f)∘g))=True:=Pm (f:=f∘g)
attribute [simp] Wd Wy Uz aCS TA Ry aDo cK cM cX fE
end
section
variable{P:a0}{ah:aT->Bool}
theorem Kj{T:Heap}:∀{h:Heap},iU T h h=True
 |[]=>by simp[iU]
 |o::h=>by simp[iU,LH,Kj (h:=h)]
theorem BR{T:Heap}:∀{h k:Heap},ey T (h++k)=(ey T h/\ey T k)
 |[],k=>by simp[ey]
 |o::h,k=>by simp[ey,BR (h:=h),and_assoc]
theorem aCV{N:Nat×Nat->Prop}{n:Nat}{v:PV}:aR N (bi n (.p v))=True:=by
 rw[cH,eq_iff_iff,iff_true];intro x hx;rw[(List.mem_replicate.1 hx).2];trivial
theorem V3{σ:Nat->Nat}{α:Type}{f:α->PV}{l:List α}:cM σ (l.map fun x=>.p (f x))=l.map fun x=>.p (f x):=fE (f:=f)
theorem aCD{L:fo}{e:Env}{H:Heap}(h:L.env=e)(a:iL H e):∀x,aB (aH H) (aO L.env x):=by rw[h];exact a.get
def fo.bz(L:fo):fo:={L with st:=.busy}
def fo.dn(L:fo)(j:Code):fo:={L with st:=.done,pending:=some j}
def fo.xh(L:fo):fo:={L with st:=.exhausted}
def Stream(P:a0)(g:aT)(fi ca:List PV)(d:List (List PV)):Prop:=
 ∀(b k:Nat)(c:Nat->Heap)(H':Heap),k<=d.length->(∀i,i<=k->ey (c i) (c i)/\aB (aH (c i)) (.map b))->
  (∀i a,i<k->d[i]?=some a->iw P b (c i) (a.map .p) (c (i+1)) (.p (.bool true)))->
  (k=d.length/\H'=c k\/∃a,d[k]?=some a/\iw P b (c k) (a.map .p) H' (.p (.bool false)))->
  cm P g (c 0) (fi.map .p++[.map b]++ca.map .p) H' (.p (.aE []))
theorem XI{b:Nat}{args:List AV}{M:AV->Heap->Prop}{heap:Heap}:za P heap M (.map b) args=∃H' v,iw P b heap args H' v/\M v H':=(rfl)
def tF(b:Nat)(L:fo)(N:Nat)(H':Heap)(v:Bool)(e:Tg (b,L,N,H',v) bp)(s:Tg (b,L,N,H',v) St):Prop:=
 match e with
 | .normal=>v=true/\(St.heap s)[b]?=some (.loop L.bz)/\bC N ⟨[],(St.heap s).set b (.loop L)⟩ ⟨[],H'⟩
 | .exit id=>v=false/\(St.heap s)[b]?=some (.loop L.bz)/\bC N ⟨[],(St.heap s).set b (.loop (L.dn (.exit id)))⟩ ⟨[],H'⟩
 | .ret=>v=false/\(St.heap s)[b]?=some (.loop L.bz)/\bC N ⟨[],(St.heap s).set b (.loop (L.dn .ret))⟩ ⟨[],H'⟩
section
variable{b N:Nat}{L:fo}{H':Heap}{v:Bool}{s:St}
theorem TR:tF b L N H' v .normal s=(v=true/\s.heap[b]?=some (.loop L.bz)/\bC N ⟨[],s.heap.set b (.loop L)⟩ ⟨[],H'⟩):=(rfl)
theorem V5{id:Nat}:tF b L N H' v (.exit id) s=(v=false/\s.heap[b]?=some (.loop L.bz)/\bC N ⟨[],s.heap.set b (.loop (L.dn (.exit id)))⟩ ⟨[],H'⟩):=(rfl)
theorem aCw:tF b L N H' v .ret s=(v=false/\s.heap[b]?=some (.loop L.bz)/\bC N ⟨[],s.heap.set b (.loop (L.dn .ret))⟩ ⟨[],H'⟩):=(rfl)
end
def DK(P:a0)(ah:aT->Bool)(q:Cx)(b:Nat)(c:Code)(L:fo)(H':Heap)(v:Bool)(e:Tg (q,b,c,L,H',v) bp)(s:Tg (q,b,c,L,H',v) St):Prop:=
 match e with
 | .normal=>(St.heap s)[b]?=some (.loop L)/\eM P ah q c (tF b L q.2 H' v) ⟨St.env s,(St.heap s).set b (.loop L.bz)⟩
 |_=>False
theorem TS{q:Cx}{b:Nat}{c:Code}{L:fo}{H':Heap}{v:Bool}{s:St}:DK P ah q b c L H' v .normal s=(s.heap[b]?=some (.loop L)/\eM P ah q c (tF b L q.2 H' v) ⟨s.env,s.heap.set b (.loop L.bz)⟩):=(rfl)
theorem Ed(ah:aT->Bool)(r:P.follows .mixedOrders=true){b n:Nat}{L:fo}{H H':Heap}{args:List AV}{v:Bool}{j:List Tmp}{a c:Code}{env:Env}
 (d:L=⟨.ready,none,n,j,a,c,env⟩)(o:H[b]?=some (.loop L))(q:args.length=j.length)
 (t:(j.all (fun x=>decide (x<n))&&codeOk fit n a&&codeOk fit n c)=true)
 (u:eM P ah (n,H.length) a (DK P ah (n,H.length) b c L H' v) ⟨qt j args env,H⟩):iw P b H args H' (.p (.bool v)):=by
 refine Og ah r o (by rw[d];exact q) (by rw[d];exact t) ?_;unfold xU;have e1:L.n=n:=by rw[d]
 have e2:L.assign=a:=by rw[d]
 have e3:L.body=c:=by rw[d]
 have e4:L.params=j:=by rw[d]
 have e5:L.env=env:=by rw[d]
 have k:L.st=.ready:=by rw[d]
 rw[e1,e2,e3,e4,e5];refine lx (Q:=DK P ah (n,H.length) b c L H' v) _ (fun e s h=>?_) u;cases e with
 |normal=>
  obtain⟨l,m⟩:=h;simp only[xe,l];refine⟨k,lx (Q:=tF b L H.length H' v) _ (fun e s h=>?_) m⟩;cases e with
  |normal=>
   obtain⟨rfl,f,g⟩:=h;have i:s.heap[b]?=some (.loop L.bz):=f;simp only[sj,i,gL];refine⟨rfl,?_⟩;have:({L.bz with st:=LoopState.ready,pending:=none}:fo)=L:=by subst d;rfl
   simpa[this]using g
  |exit id=>
   obtain⟨rfl,f,g⟩:=h;have i:s.heap[b]?=some (.loop L.bz):=f;simp only[sj,i,gL];exact⟨rfl,g⟩
  |ret=>
   obtain⟨rfl,f,g⟩:=h;have i:s.heap[b]?=some (.loop L.bz):=f;simp only[sj,i,gL];exact⟨rfl,g⟩
 |exit id=>exact h.elim
 |ret=>exact h.elim
theorem rf{f:ax}{h:Array Tmp}{a c:Code}{Q:bp->St->Prop}{env:Env}{heap:Heap}{q:Cx}{g:aT}{fi ca:List PV}{n:List (List PV)}(aJ:Stream P g fi ca n)(hf:ev env f= .p (.func g fi ca))(hq:q.2<=heap.length)
 (X:fo->Nat->Heap)(k:Nat)(hk:k<=n.length)(u:∀L,X L 0=heap++[.loop L])
 (hx:∀L,L=⟨.ready,none,q.1,h.toList,a,c,env⟩->∀i,i<=k->(X L i)[heap.length]?=some (.loop L)/\iL (X L i) env/\(iL (X L i) env->(∀x,aB (aH (X L i)) (aO L.env x))->ey (X L i) (X L i)))
 (t:∀L,L=⟨.ready,none,q.1,h.toList,a,c,env⟩->∀i x,i<k->n[i]?=some x->iw P heap.length (X L i) (x.map .p) (X L (i+1)) (.p (.bool true)))
 (y:∀L,L=⟨.ready,none,q.1,h.toList,a,c,env⟩->(k=n.length/\Q .normal ⟨env,(X L k).set heap.length (.loop L.xh)⟩)\/
  ∃x j l,n[k]?=some x/\l[heap.length]?=some (.loop (L.dn j))/\iw P heap.length (X L k) (x.map .p) l (.p (.bool false))/\ki Q (some j) ⟨env,l.set heap.length (.loop (L.dn j).xh)⟩):
 eM P ah q (.rangeFunc f h a c) Q ⟨env,heap⟩:=by
 obtain⟨L,b⟩:∃L:fo,L=⟨.ready,none,q.1,h.toList,a,c,env⟩:=⟨_,rfl⟩
 have s:=aJ heap.length k (X L);refine⟨hq,?_⟩;show jM P (ev env f) heap.length (heap++[.loop ⟨.ready,none,q.1,h.toList,a,c,env⟩]) (iT heap.length env Q);rw[hf];simp only[jM];rw[<-b,<-u L];have r:∀i,i<=k->ey (X L i) (X L i)/\aB (aH (X L i)) (.map heap.length):=by
  intro i hi;obtain⟨m,d,o⟩:=hx L b i hi;have e5:L.env=env:=by rw[b]
  refine⟨o d (by rw[e5];exact d.get),?_⟩;simp only[aB,aH,m];exact⟨_,rfl,by simp[Obj.has]⟩
 rcases y L b with⟨m,d⟩|⟨x,j,l,m,d,o,v⟩
 ·refine⟨_,_,s (X L k) hk r (t L b) (.inl ⟨m,rfl⟩),?_⟩;have w:=(hx L b k (c9 k)).1;simp only[iT,w];refine⟨by rw[b];simp,?_⟩;have:L.pending=none:=by rw[b]
  simp only[this,ki];have e:L.xh={L with st:=.exhausted}:=rfl;rw[this]at e;rw[e]at d;exact d
 ·refine⟨_,_,s l hk r (t L b) (.inr ⟨x,m,o⟩),?_⟩;simp only[iT,d];exact⟨by simp[fo.dn],v⟩
section Yr
variable{f:aT}{H0 bW H:Heap}{fF args:List AV}{v0:AV}{K:AV->Heap->Prop}{L:aU->Prop}
theorem Fh(h:cm P f H0 fF bW v0)(bs:List Nat)(d:bs.length=H0.length)(g:bs.Nodup)(e:∀b∈bs,b<H.length)(hl:H0.length<=bW.length)(a:aR (aH H0) fF)(i:ey H0 H0)(c:cM (sig bs H.length) fF=args):
 q9 P f args H.length (dC bs H.length H0 bW v0):=by
 have:=h.frame bs H.length d g e hl a i.get
 rwa [c]at this
theorem cf(h:cm P f H0 fF bW v0)(bs:List Nat)(hk:K (cK (sig bs H.length) v0) (aX H (bs.zip ((bW.take H0.length).map (cX (sig bs H.length))))++(bW.drop H0.length).map (cX (sig bs H.length))))(aj:∀p∈bs.zip (H0.map (cX (sig bs H.length))),H[p.1]?=some p.2:=by simp[sig])(aG:∀p∈bs.zip ((bW.take H0.length).map (cX (sig bs H.length))),p.1<H.length/\p.2≠ .hole:=by simp[sig])
 (d:bs.length=H0.length:=by simp)(g:bs.Nodup:=by simp)(e:∀b∈bs,b<H.length:=by simp)(hl:H0.length<=bW.length:=by simp)(a:aR (aH H0) fF:=by simp)(hr:ey H0 H0:=by simp)(c:cM (sig bs H.length) fF=args:=by simp[sig]):kn P false f K args H:=
 .inr ⟨rfl,.inr (.inr (.inl ⟨_,Fh h bs d g e hl a hr c,⟨aj,aG⟩,hk⟩))⟩
theorem ef(h:cm P f H0 fF bW v0)(bs:List Nat)(hk:L {v:=cK (sig bs H.length) v0,aj:=bs.zip (H0.map (cX (sig bs H.length))),aG:=bs.zip ((bW.take H0.length).map (cX (sig bs H.length))),aS:=(bW.drop H0.length).map (cX (sig bs H.length))})(aj:∀p∈bs.zip (H0.map (cX (sig bs H.length))),H[p.1]?=some p.2:=by simp[sig])(aG:∀p∈bs.zip ((bW.take H0.length).map (cX (sig bs H.length))),p.1<H.length/\p.2≠ .hole:=by simp[sig])
 (d:bs.length=H0.length:=by simp)(g:bs.Nodup:=by simp)(e:∀b∈bs,b<H.length:=by simp)(hl:H0.length<=bW.length:=by simp)(a:aR (aH H0) fF:=by simp)(hr:ey H0 H0:=by simp)(c:cM (sig bs H.length) fF=args:=by simp[sig]):mw P f L args H:=
 .inr (.inr (.inl ⟨_,Fh h bs d g e hl a hr c,⟨aj,aG⟩,hk⟩))
end Yr
section bytes
variable{dst:Option Tmp}{ty:Nat}{pos:String}{af:Array Edge}{g:Option (Nat×Bool)}{env:Env}{heap:Heap}{L:St->Prop}{K:aU->Prop}
theorem X5{x:ax}{d:Array ay}{b an ai off len:Nat}{k:AK}{es:List AV}(hx:ev env x= .sl b an ai off len)(f:heap[b]?=some (.arr k an ai es))(e:0<len)(hl:off+len<=es.length)
 (hk:K {v:=.b6 b an ai off [],aj:=[(b,.arr k an ai es)]}):dO P ah ⟨dst,.call {callee:=.builtin .unsafeSliceData,args:=#[x],argTypes:=d},ty,pos,af,g⟩ ⟨env,heap⟩ K ():=by
 show(match ev env x with
   | .p .aK=>K {v:=.p .dE}
   | .sl b an ai off len=>(match heap[b]? with
    |some (.arr k c a es)=>an=c/\ai=a/\((k.gr=true/\es=[]/\K {v:=.p .dE,aj:=[(b,.arr k c a es)]})\/(0<len/\off+len<=es.length/\K {v:=.b6 b an ai off [],aj:=[(b,.arr k c a es)]}))
    |_=>False)
   |_=>False)
 rw[hx];simp only[f];exact⟨trivial,trivial,.inr ⟨e,hl,hk⟩⟩
theorem X7{x y:ax}{a:Array ay}{b an:Nat}{m:Int}{es:List AV}{l:List Nat}(hx:ev env x= .b6 b an 1 0 [])(n:ev env y= .p (.int .i64 m))(i:heap[b]?=some (.arr .bytes an 1 es))(c:0<m)(j:m.toNat<=es.length)(d:m<=9223372036854775807)
 (f:a.size=2)(e:ptrTo P (a.getD 0 0)=some Gl.u8)(k:P.cellsOf Gl.u8=1)(hl:bytesOf (es.take m.toNat)=some l)
 (hk:K {v:=.p (.str l),aj:=[(b,.arr .bytes an 1 es)],aG:=[(b,.dead)]}):dO P ah ⟨dst,.call {callee:=.builtin .unsafeString,args:=#[x,y],argTypes:=a},ty,pos,af,g⟩ ⟨env,heap⟩ K ():=by
 have h:fy P ah ⟨dst,.call {callee:=.builtin .unsafeString,args:=#[x,y],argTypes:=a},ty,pos,af,g⟩ (ev env) heap K:=by
  unfold fy;simp only[bv,List.map_nil,hx,n,i];exact⟨trivial,trivial,trivial,trivial,c,j,d,f,e,k,by rw[hl];exact hk⟩
 exact h
end bytes
theorem rf2{f:ax}{h:Array Tmp}{a c:Code}{Q:bp->St->Prop}{env:Env}{heap:Heap}{q:Cx}{g:aT}{fi ca:List PV}{b:List (List PV)}(aJ:Stream P g fi ca b)(hf:ev env f= .p (.func g fi ca))(hq:q.2<=heap.length)
 (X F:fo->Nat->Heap)(okB:Nat->Bool)(j:Code)(k:Nat)(hk:k<=b.length)(u:∀i,i<k->okB i=true)(r:k=b.length\/(k<b.length/\okB k=false))(m:∀L,X L 0=heap++[.loop L])
 (hx:∀L,L=⟨.ready,none,q.1,h.toList,a,c,env⟩->∀i,i<=k->(X L i)[heap.length]?=some (.loop L)/\iL (X L i) env/\(iL (X L i) env->(∀x,aB (aH (X L i)) (aO L.env x))->ey (X L i) (X L i)))
 (l:∀L,L=⟨.ready,none,q.1,h.toList,a,c,env⟩->∀i x,i<=k->b[i]?=some x->iw P heap.length (X L i) (x.map .p) (if okB i=true then X L (i+1)else F L (i+1)) (.p (.bool (okB i))))
 (n:∀L,(F L (k+1))[heap.length]?=some (.loop (L.dn j)))
 (s:k=b.length->∀L,Q .normal ⟨env,(X L k).set heap.length (.loop L.xh)⟩)
 (v:k<b.length->∀L,ki Q (some j) ⟨env,(F L (k+1)).set heap.length (.loop (L.dn j).xh)⟩):
 eM P ah q (.rangeFunc f h a c) Q ⟨env,heap⟩:=by
 refine rf aJ hf hq X k hk m hx (fun L e i x hi t=>?_) (fun L e=>?_)
 ·have:=l L e i x o_ t;rw[u i hi]at this;exact this
 ·rcases r with d|⟨d,o⟩
  ·exact .inl ⟨d,s d L⟩
  ·right;refine⟨b[k],j,F L (k+1),bb d,n L,?_,v d L⟩;have:=l L e k b[k] (c9 _) (bb d);rw[o]at this;exact this
attribute [simp] V3 aCV Kj BR TR V5 aCw TS XI qt
end
section
variable{P:a0}{ah:aT->Bool}{w:a4}{aa ag:Nat->Prop}{β:Bd}{H:Heap}
def aHw(K:Nat->Bool)(H:Heap):Heap:=H.mapIdx fun i o=>if K i then .dead else o
def aFj(K:Nat->Bool)(aa:Nat->Prop)(β:Bd)(H:Heap)(k:Nat):Prop:=aa k\/∃(b:Nat)(o:Obj),H[b]?=some o/\o.live/\K b=true/\β.ak b=k
theorem ft.held{b:Nat}{o:Obj}(h:ft P w aa β H ag b o)(hl:o.live):aa (β.ak b)\/¬ag (β.ak b):=by
 by_cases hi:aa (β.ak b)
 ·exact .inl hi
 ·exact .inr (h.mut hl hi)
end
section
variable{P:a0}{w:a4}{aa ag:Nat->Prop}{β:Bd}
theorem rX{t t':AV}{r:Heap}:cg β (.box false t::r) β (.box false t'::r):=by
 refine⟨fun b _ h=>⟨?_,rfl⟩,fun b _ h=>⟨?_,rfl⟩,fun b _ h=>⟨?_,rfl⟩,fun b an ai k c _ h=>⟨k,c,?_,c9 _,Iff.rfl,fun _=>⟨rfl,rfl⟩⟩,fun b _ h=>⟨?_,rfl⟩⟩
 ·cases b with
  |zero=>exact⟨false,t,rfl⟩
  |succ b=>exact h
 ·obtain⟨s,q,h⟩:=h;cases b with
  |zero=>simp at h
  |succ b=>exact⟨s,q,h⟩
 ·obtain⟨d,h,a⟩:=h;cases b with
  |zero=>simp at h;subst h;exact a.elim
  |succ b=>exact⟨d,h,a⟩
 ·cases b with
  |zero=>simp[dT]at h
  |succ b=>exact h
 ·obtain⟨L,h⟩:=h;cases b with
  |zero=>simp at h
  |succ b=>exact⟨L,h⟩
theorem pX{t t':AV}{r:Heap}{x:Nat×Nat}(h:aH (.box false t::r) x):aH (.box false t'::r) x:=by
 obtain⟨o,a,c⟩:=h;obtain⟨b,v⟩:=x;cases b with
 |zero=>exact⟨_,rfl,trivial⟩
 |succ b=>exact⟨o,a,c⟩
theorem bX.swap{t d:AV}{r:Heap}(c:bX P w aa β (.box false t::r) ag)(hc:∀cs,bg P w aa β (.box false t::r) t cs->bg P w aa β (.box false t::r) d cs)(k:∀T,jn T (ad d)=true)
 (f:∀n,aB n t->aB n d):bX P w aa β (.box false d::r) ag:=by
 refine⟨fun b o a=>?_,fun b b' o o' a q hl m p l=>?_,fun b o a=>?_,c.bR,c.eE,c.ja⟩
 ·cases b with
  |zero=>
   simp at a;subst a;obtain⟨cs,T,g,i,j,v,y⟩:=c.cJ 0 _ rfl;have s:=c.refs 0 _ rfl;exact⟨cs,T,g,bg.mono (fun _ x=>x) (fun _ _=>rfl) rX _ _ (f _ s) (hc _ i),j,(fun h=>absurd h s_),k T⟩
  |succ b=>exact ft.carry (fun _ x=>x) (fun _ _=>rfl) rX (c.refs (b+1) o a) (fun _=>⟨rfl,rfl,rfl⟩) (fun _ _ h=>h) (c.cJ (b+1) o a)
 ·have key:∀{b:Nat}{o:Obj},(Obj.box false d::r)[b]?=some o->o.live->∃e,(Obj.box false t::r)[b]?=some e/\e.live:=by
   intro b o a hl;cases b with
   |zero=>exact⟨_,rfl,trivial⟩
   |succ b=>exact⟨o,a,hl⟩
  obtain⟨e,k1,k2⟩:=key a hl;obtain⟨u,k3,k4⟩:=key q m;exact c.inj b b' e u k1 k3 k2 k4 p l
 ·cases b with
  |zero=>
   simp at a;subst a;exact aB.mono (fun _ h=>pX h) _ (f _ (c.refs 0 _ rfl))
  |succ b=>exact Obj.xA (fun _ h=>pX h) (c.refs (b+1) o a)
theorem Ks{H:Heap}{u:ay}{n:Nat}(f:dF P u=some [n]){t:AV}{cs:List a3}:bg P w aa β H (.st u [t]) cs↔bg P w aa β H t cs/\cs.length=n:=by
 simp only[bg,f,dq];constructor
 ·rintro⟨l,g,rfl,a,rfl⟩;simp only[bG]at a;obtain⟨c,d,rfl,b,e,rfl⟩:=a;simpa using⟨b,e⟩
 ·rintro⟨a,b⟩;exact⟨[n],[cs],rfl,by simp only[bG];exact⟨cs,[],rfl,a,b,rfl⟩,s_⟩
theorem cm.wrap{f:aT}{u:ay}{n:Nat}{t i:AV}{r j:Heap}{args:List AV}{v:AV}(q:dF P u=some [n])(a:∀T,jn T (.agg u)=true)(F:∀T,jn T (ad t)=true)(G:∀(w:a4)(aa:Nat->Prop)(β:Bd)(H:Heap)(cs:List a3),bg P w aa β H i cs->cs.length=n)
 (h:cm P f (.box false t::r) (.ptr 0 []::args) (.box false i::j) v):cm P f (.box false (.st u [t])::r) (.ptr 0 [(u,0)]::args) (.box false (.st u [i])::j) v:=by
 refine⟨h.1,fun w aa ag β N hr D y=>?_⟩;have J:bX P w aa β (.box false t::r) ag:=hr.swap (fun cs h=>((Ks q).1 h).1) F (fun n h=>by simpa[aB,aR]using h);obtain⟨x,xs,rfl,h1,C⟩:=D;have E:bh P w aa β (.box false t::r) (.ptr 0 []::args) (x::xs):=by
  refine⟨x,xs,rfl,?_,bh.mono (fun _ x=>x) (fun _ _=>rfl) rX _ _ y.2 C⟩;obtain⟨q1,ak,off,o,s,M,q4⟩:=h1;refine⟨q1,ak,off,0,s,rfl,fun _=>?_⟩;have I:o=0:=by simpa[gd,q]using M.symm
  have:=q4 (.inl ⟨false,_,rfl⟩);rw[I]at this;exact this
 refine(h.2 w aa ag β (x::xs) J E ⟨⟨_,rfl,trivial⟩,aR.mono (fun _ h=>pX h) _ y.2⟩).mono ?_;rintro e w' ⟨B,aI,aD,rfl,g,K,z⟩;refine⟨B,aI,aD,rfl,⟨g.bR,g.fresh,g.ext,?_,?_,fun x hx=>pX (g.fp x (pX hx)),?_⟩,ar.mono (fun _ x=>x) (fun _ _=>rfl) rX _ _ z K,aB.mono (fun _ h=>pX h) _ z⟩
 ·have aJ:=g.step;have m:=rX (β:=β) (t:=.st u [t]) (t':=t) (r:=r);have p:=rX (β:=aI) (t:=i) (t':=.st u [i]) (r:=j);have d:∀x,aH (.box false (.st u [t])::r) x->aH (.box false t::r) x:=fun x h=>pX h;have l:∀x,aH (.box false t::r) x->aH (.box false i::j) x:=g.fp;refine⟨fun b a c=>?_,fun b a c=>?_,fun b a c=>?_,fun b an ai k es a c=>?_,fun b a c=>?_⟩
  ·obtain⟨k1,k2⟩:=p.box b (l _ (d _ a)) c;obtain⟨k3,k4⟩:=aJ.box b (d _ a) k1;exact⟨(m.box b a k3).1,k4⟩
  ·obtain⟨k1,k2⟩:=p.it b (l _ (d _ a)) c;obtain⟨k3,k4⟩:=aJ.it b (d _ a) k1;exact⟨(m.it b a k3).1,k4⟩
  ·obtain⟨k1,k2⟩:=p.map b (l _ (d _ a)) c;obtain⟨k3,k4⟩:=aJ.map b (d _ a) k1;exact⟨(m.map b a k3).1,k4⟩
  ·have k1:dT (.box false i::j) b an ai k es:=by
    cases b with
    |zero=>simp[dT]at c
    |succ b=>exact c
   obtain⟨k0,gE,q1,s⟩:=aJ.arr b an ai k es (d _ a) k1;refine⟨k0,gE,?_,s⟩;cases b with
   |zero=>simp[dT]at q1
   |succ b=>exact q1
  ·obtain⟨k1,k2⟩:=p.loop b (l _ (d _ a)) c;obtain⟨k3,k4⟩:=aJ.loop b (d _ a) k1;exact⟨(m.loop b a k3).1,k4⟩
 ·exact g.rel.swap (fun cs h=>(Ks q).2 ⟨h,G _ _ _ _ _ h⟩) a (fun n h=>by simpa[aB,aR]using h)
 ·rintro b ⟨L,c⟩;have k1:gK (.box false t::r) b:=by
   cases b with
   |zero=>simp at c
   |succ b=>exact⟨L,c⟩
  obtain⟨A,k2⟩:=g.loop b k1;cases b with
  |zero=>simp at k2
  |succ b=>exact⟨A,k2⟩
end
section
variable{P:a0}{w:a4}{aa ag:Nat->Prop}{β:Bd}
def s8(n:Nat):Heap:=bi n .dead
theorem ng{n b:Nat}{o:Obj}(h:(s8 n)[b]?=some o):o=.dead:=by
 simp only[s8,b5]at h
 split at h
 ·injection h with h;exact h.symm
 ·cases h
theorem cm.cut{f:aT}{H:Heap}{args:List AV}{n:Nat}{p:PV}(h:cm P f H args (s8 n) (.p p)):cm P f H args (s8 H.length) (.p p):=by
 refine⟨h.1,fun w aa ag β g hr q u=>(h.2 w aa ag β g hr q u).mono ?_⟩;rintro e w' ⟨i,aI,aD,rfl,a,v,y⟩;have no:∀{m b:Nat}{o:Obj},(s8 m)[b]?=some o->o.live->False:=fun h hl=>by rw[ng h]at hl;exact hl
 refine⟨i,aI,aD,rfl,⟨a.bR,a.fresh,a.ext,⟨?_,?_,?_,?_,?_⟩,⟨fun b o c=>by rw[ng c];trivial,fun b b' o o' c _ hl=>(no c hl).elim,fun b o c=>by rw[ng c];trivial,a.rel.bR,a.rel.eE,a.rel.ja⟩,?_,?_⟩,v,trivial⟩
 ·rintro b _ ⟨fz,t,h⟩;cases ng h
 ·rintro b _ ⟨fz,t,h⟩;cases ng h
 ·rintro b _ ⟨z,h,d⟩;rw[ng h]at d;exact d.elim
 ·intro b an ai k es _ h;cases ng h
 ·rintro b _ ⟨L,h⟩;cases ng h
 ·rintro x ⟨o,j,_⟩;have s:=(be.1 j).1;exact⟨.dead,by rw[s8,b5,if_pos s],trivial⟩
 ·intro b r;obtain⟨L,l⟩:=a.loop b r;cases ng l
theorem cm.cZ{f:aT}{H H':Heap}{args:List AV}{v v':PV}(h:cm P f H args H' (.p v))(j:Wk v v'):cm P f H args H' (.p v'):=by
 refine⟨h.1,fun w aa ag β a hr d i=>(h.2 w aa ag β a hr d i).mono ?_⟩;rintro e w' ⟨b,aI,aD,rfl,g,c,k⟩;exact⟨b,aI,aD,rfl,g,aA.cZ _ _ _ j c,trivial⟩
end
section
variable{P:a0}
def y0(P:a0)(a:List a1)(N:Nat)(Q:AV->Heap->Prop)(e:Tg (a,N,Q) bp)(s:Tg (a,N,Q) St):Prop:=
 (match e with
  | .exit _=>False
  |_=>True)/\∃vs,fC P s a=some vs/\∃H',Q (oneOf vs) H'/\(H'=St.heap s\/(bC N s ⟨[],H'⟩/\aB (aH H') (oneOf vs)))
theorem UF{a:List a1}{N:Nat}{Q:AV->Heap->Prop}{s:St}:y0 P a N Q .ret s=∃vs,fC P s a=some vs/\∃H',Q (oneOf vs) H'/\(H'=s.heap\/(bC N s ⟨[],H'⟩/\aB (aH H') (oneOf vs))):=by simp[y0]
theorem Sq{a:List a1}{N:Nat}{Q:AV->Heap->Prop}{s:St}:y0 P a N Q .normal s=∃vs,fC P s a=some vs/\∃H',Q (oneOf vs) H'/\(H'=s.heap\/(bC N s ⟨[],H'⟩/\aB (aH H') (oneOf vs))):=by simp[y0]
attribute [simp] UF Sq
end
section
variable{P:a0}
theorem az.heap{f:aT}{vs j:List PV}{v:PV}{H H1:Heap}{args:List AV}(h:az P f vs v)(g:Enters P f)(o:mM H args=some (j,H1))(l:bu j vs:=by first|exact bu.refl _|simp):cm P f H args H1 (.p v):=by
 refine⟨g,fun w aa ag β x u r q=>?_⟩;obtain⟨b,a,i⟩:=A8 o u r q;rcases h.cZ l (Wk.refl _)with m|n
 ·intro cs;obtain⟨e,w',k,⟨c,aD,he,m1,m2,m3,m4,m5,m6,m7⟩,aJ,s,t⟩:=m.2 w b _ a.rel.bR a.rel.ja i cs;subst he;exact⟨_,w',k,⟨c,β,aD,rfl,a.trans (a.rel.later m1 m2 m3 m4 m5 m6),by simpa[ar]using m7,by simp[aB]⟩,aJ,s,t⟩
 ·obtain⟨c,d,_⟩:=n w b _ i;rw[g]at d;cases d
theorem E3{w:a4}{aa ag:Nat->Prop}{β:Bd}{H:Heap}{n:Nat}(e:bX P w aa β H ag):∀{args:List AV}{vs:List PV}{c:List a3},jb (dY H n) args=some vs->aR (aH H) args->bh P w aa β H args c->bf P w (yP aa β H) vs c
 |[],vs,c,h,_,b=>by
  simp[jb]at h;subst h;simp only[bh]at b;simpa[bf]using b
 |a::args,vs,c,h,d,b=>by
  simp only[jb]at h
  split at h
  case h_2=>simp at h
  rename_i y j f g;simp at h;subst h;simp only[bh]at b;obtain⟨z,i,rfl,k1,k2⟩:=b;simp only[aR]at d;simp only[bf];exact⟨z,i,rfl,xf e n a y f d.1 z k1,E3 e g d.2 k2⟩
end
section
variable{P:a0}{ah:aT->Bool}
theorem PJ{H J:Heap}{x:Nat×Nat}(h:aH H x):aH (H++J) x:=by
 obtain⟨o,a,b⟩:=h;exact⟨o,by rw[List.getElem?_append_left (be.1 a).1];exact a,b⟩
theorem ey.up{S T:Heap}(a:∀x,aH S x->aH T x):∀{h:Heap},ey S h->ey T h
 |[],_=>trivial
 |_::_,h=>⟨Obj.xA a h.1,ey.up a h.2⟩
theorem ey.app{H J:Heap}(h:ey H H)(a:ey (H++J) J):ey (H++J) (H++J):=by
 rw[BR];exact⟨h.up fun _=>PJ,a⟩
end
def iZ:Obj->Obj
 | .arr k an z es=>bif k.gr&&es.isEmpty then .arr k an z es else .arr .frozen an z es
 |o=>o
def il(H:Heap):Prop:=∀(b:Nat)(o:Obj),H[b]?=some o->∃(k:AK)(an z:Nat)(a:List PV),o=.arr k an z (a.map AV.p)
section
variable{P:a0}
theorem FU{w:a4}{aa ag:Nat->Prop}{β:Bd}{H:Heap}(u:il H)(x:bX P w aa β H ag):∀k,k<=H.length->
 ∃aD,bV P ag aa w β H aD w β ((H.take k).map iZ++H.drop k)/\∀b o,b<k->H[b]?=some o->o.live->aD (β.ak b)
 |0,_=>⟨aa,by simpa using bV.refl x,fun b o m=>by omega⟩
 |k+1,hk=>by
  obtain⟨y,j,hi⟩:=FU u x k o_;obtain⟨o,g⟩:∃o,H[k]?=some o:=⟨_,bb o_⟩
  obtain⟨i,an,z,c,rfl⟩:=u k o g;have hl:((H.take k).map iZ).length=k:=by simp;omega
  have q:((H.take k).map iZ++H.drop k)[k]?=some (.arr i an z (c.map AV.p)):=by
   rw[List.getElem?_append_right o_,hl,dg,List.getElem?_drop,Nat.add_zero,g]
  by_cases f:i.gr=true/\c.map AV.p=[]
  ·have aG:(H.take k).map iZ++H.drop k=(H.take (k+1)).map iZ++H.drop (k+1):=by
    rw[ce,g,b3,cx];congr 1;obtain⟨r,s⟩:=be.1 g;rw[b4 r,s];show _=iZ _::_;have e:iZ (.arr i an z (c.map AV.p))=.arr i an z (c.map AV.p):=by rw[iZ,f.1,f.2];rfl
    rw[e];rfl
   rw[aG]at j;refine⟨y,j,fun b o m d l=>?_⟩
   by_cases e:b=k
   ·subst e;rw[g]at d;injection d with d
    subst d;exact(l f).elim
   ·exact hi b o o_ d l
  have aG:((H.take k).map iZ++H.drop k).set k (.arr .frozen an z (c.map AV.p))=(H.take (k+1)).map iZ++H.drop (k+1):=by
   rw[List.set_append_right _ _ o_,hl,dg,ce,g,b3,cx];congr 1;obtain⟨r,s⟩:=be.1 g;rw[b4 r,s];have hf:(i.gr&&(c.map AV.p).isEmpty)=false:=by
    cases B:i.gr
    ·rfl
    ·cases n:(c.map AV.p).isEmpty
     ·rfl
     ·exact(f ⟨B,List.isEmpty_iff.1 n⟩).elim
   show _=iZ _::_;have e:iZ (.arr i an z (c.map AV.p))=.arr .frozen an z (c.map AV.p):=by rw[iZ,hf];rfl
   rw[e];rfl
  have v:¬dc .frozen (c.map AV.p):=fun h=>by cases h.1
  have aJ:=pJ (β:=β) q (.inr (.inl ⟨_,_,_,_,_,rfl,rfl,f,v⟩));rcases j.rel.cJ k _ q with hold|⟨cs,T,A,rest,g1,g2,g3,g4,g5,g6,g7,g8⟩
  ·exact(f hold).elim
  obtain⟨aD,t,C⟩:=pN j.rel q f (o':=.arr .frozen an z (c.map AV.p)) v (fun _ h=>h) (fun _ h=>by cases h) aJ g7.qE
   (fun aD hi m=>.inr ⟨cs,T,A,rest,g1,bG.mono hi (fun _ _=>rfl) aJ _ _ _ (j.rel.refs k _ q) g2,g3,g4,g5,(fun h=>by cases h),m,fun _ e n=>(by simp at n;obtain⟨a,_,rfl⟩:=n;trivial),fun h=>by cases h⟩)
   (iR _ _)
  rw[aG]at t;refine⟨aD,j.trans t,fun b o m d l=>?_⟩
  by_cases e:b=k
  ·subst e;exact C
  ·exact t.bR _ (hi b o o_ d l)
theorem az.OY{f:aT}{vs:List PV}{v:PV}{H:Heap}{args:List AV}(n:Nat)(h:az P f vs v)(g:Enters P f)(r:il H)(u:kM H n args vs):cm P f H args (H.map iZ) (.p v):=by
 obtain⟨qs,q,c⟩:=qg n (fun x v h=>o5 n x v h) args vs u;refine⟨g,fun w aa ag β l i z y=>?_⟩;obtain⟨aD,a,B⟩:=FU r i H.length (c9 _);rw[List.take_length,List.drop_length,List.append_nil]at a;have j:bf P w aD qs l:=bf.mono (by
  rintro x (hk|⟨b,o,q1,D,rfl⟩)
  ·exact a.bR _ hk
  ·exact B b o (be.1 q1).1 q1 D) (fun _ _=>rfl) _ _ (E3 i q y z)
 rcases h.cZ c (Wk.refl _)with s|t
 ·intro cs;obtain⟨e,w',m,⟨d,k,he,m1,m2,m3,m4,m5,m6,m7⟩,aJ,A,C⟩:=s.2 w _ _ a.rel.bR a.rel.ja j cs;subst he;exact⟨_,w',m,⟨d,β,k,rfl,a.trans (a.rel.later m1 m2 m3 m4 m5 m6),by simpa[ar]using m7,by simp[aB]⟩,aJ,A,C⟩
 ·obtain⟨d,c,_⟩:=t w _ _ j;rw[g]at c;cases c
end
section
variable{P:a0}
theorem cm.aCO{f:aT}{H0 H1 H':Heap}{args:List AV}{v:AV}(hf:bC 0 ⟨[],H0⟩ ⟨[],H1⟩)
 (hk:∀(b:Nat)(o:Obj),H0[b]?=some o->H1[b]?=some o\/∃x y:AV,o=.box false x/\H1[b]?=some (.box false y))(h:cm P f H1 args H' v):cm P f H0 args H' v:=by
 refine⟨h.1,fun w aa ag β p hr r n=>?_⟩;have hs:cL P 0 ag aa β ⟨[],H0⟩ #[] w:=⟨hr,fun x=>by simp[aO,ar,aA],fun x=>by simp[aO,aB],rfl⟩
 have l:bX P w aa β H1 ag:=(hf.rel hs).heap;have fp:∀x,aH H0 x->aH H1 x:=by
  rintro x ⟨o,d,i⟩;rcases hk _ o d with e|⟨a,b,rfl,e⟩
  ·exact⟨o,e,i⟩
  ·exact⟨_,e,i⟩
 have aJ:cg β H0 β H1:=by
  refine⟨fun b g c=>⟨?_,rfl⟩,fun b g c=>⟨?_,rfl⟩,fun b g c=>⟨?_,rfl⟩,fun b an ai k es g c=>?_,fun b g c=>⟨?_,rfl⟩⟩
  ·obtain⟨o,d,i⟩:=g;obtain⟨fz,t,c⟩:=c;rcases hk b o d with e|⟨x,y,rfl,e⟩
   ·rw[c]at e;injection e with e;exact⟨fz,t,by rw[d,<-e]⟩
   ·exact⟨_,_,d⟩
  ·obtain⟨o,d,i⟩:=g;obtain⟨s,pos,c⟩:=c;rcases hk b o d with e|⟨x,y,rfl,e⟩
   ·rw[c]at e;injection e with e;exact⟨s,pos,by rw[d,<-e]⟩
   ·rw[c]at e;cases e
  ·obtain⟨o,d,i⟩:=g;obtain⟨m,c,j⟩:=c;rcases hk b o d with e|⟨x,y,rfl,e⟩
   ·rw[c]at e;injection e with e;exact⟨m,by rw[d,<-e],j⟩
   ·rw[c]at e;injection e with e;subst e;exact j.elim
  ·obtain⟨o,d,i⟩:=g;rcases hk b o d with e|⟨x,y,rfl,e⟩
   ·rw[dT]at c;rw[c]at e;injection e with e
    exact⟨k,es,by rw[dT,d,<-e],c9 _,Iff.rfl,fun _=>⟨rfl,rfl⟩⟩
   ·rw[dT]at c;rw[c]at e;cases e
  ·obtain⟨o,d,i⟩:=g;obtain⟨L,c⟩:=c;rcases hk b o d with e|⟨x,y,rfl,e⟩
   ·rw[c]at e;injection e with e;exact⟨L,by rw[d,<-e]⟩
   ·rw[c]at e;cases e
 have B:bV P ag aa w β H0 aa w β H1:=⟨fun _ x=>x,fun _ x=>.inl x,Ext.refl _ _ _,aJ,l,fp,by
  rintro b ⟨L,c⟩;rcases hk b _ c with e|⟨x,y,e,_⟩
  ·exact⟨L,e⟩
  ·cases e⟩
 refine(h.2 w aa ag β p l (bh.mono (fun _ x=>x) (fun _ _=>rfl) aJ _ _ n r) (aR.mono fp _ n)).mono ?_;rintro e w' ⟨q,aI,aD,rfl,u,A,z⟩;exact⟨q,aI,aD,rfl,B.trans u,A,z⟩
end
end Go.aw
