import Derived.Test.YtfdgnogcckoalaaGreatDoorKThB
/- Parts of a proof. -/
set_option linter.unusedSimpArgs false
set_option linter.unusedVariables false
set_option linter.unusedSectionVars false
open BitVec renaming ofInt->am
open Bool renaming cond_eq_ite->ao, and_eq_true->ap, false_eq_true->av
open Go renaming Operand->ax, TypeId->ay, FuncId->aT, Program->a0, ResultVar->a1, Value->a3, World->a4, IntKind->a5, BinOp->a6
open Int renaming natCast_nonneg->a7, ofNat_eq_natCast->a8, toNat_natCast->a9
open List renaming getElem?_eq_getElem->bb, getElem?_eq_some_iff->be, replicate->bi, mem_cons->bk, mem_iff_getElem->bl, mem_map->bo, map_cons->br, range->bv, isEmpty_cons->b0, of_mem_zip->b1, getElem?_replicate->b2, mem_of_getElem?->b3, map_id->b4, mem_range'_1->b5, getElem_mem->cb, nodup_cons->cc, mem_append->ce, map_append->cr, nodup_nil->cx, rec->cy
open Nat renaming ble->c6, beq->c7, le_refl->c8, ble_eq_true_of_le->c9, beq_refl->da, sub_self->db, pow_succ->dg, mod_lt->dk
open Option renaming ite_none_right_eq_some->dl
open Option.some renaming injEq->dp
open Prod.mk renaming injEq->dq
namespace Go.an
set_option linter.unusedSectionVars false
variable[Gl]
section
variable{P:a0}{ah:aT->Bool}
def sE:jW->jW->Bool
 | .leaf,.leaf=>true
 | .agg u,.agg v=>c7 u v
 |_,_=>false
theorem jq{a b:jW}(h:sE a b=true):a=b/\b≠.bad:=by
 cases a<;>cases b<;>simp_all [sE]
def kE:AK->AK->Bool
 | .exact,.exact| .grow,.grow| .frozen,.frozen| .bytes,.bytes=>true
 |_,_=>false
def y0:AK->Bool
 | .frozen=>false
 |_=>true
theorem FQ{k:AK}(h:y0 k=true):k≠.frozen:=by cases k<;>simp_all [y0]
def pO(k:AK)(a:List AV):Bool:=match k.gr,a with
 |true,[]=>false
 |_,_=>true
theorem yl{k:AK}{a:List AV}(h:pO k a=true):¬(k.gr=true/\a=[]):=by
 rintro⟨b,rfl⟩;simp[pO,b]at h
theorem dL{a b:Nat}(h:c7 a b=true):a=b:=Nat.eq_of_beq_eq_true h
theorem dm{a b:Nat}(h:c6 a b=true):a<=b:=Nat.le_of_ble_eq_true h
def Tk:a5->a5->Bool:=fun a b=>decide (a=b)
def ym(P:a0)(l:List Nat):List (Nat×AV)->Bool
 |[]=>true
 |(i,v)::r=>(match l[i]? with
  |some n=>c7 (bO P (aa v)) n&&(match aa v with
   | .bad=>false
   |_=>true)
  |none=>false)&&ym P l r
theorem Eh{l:List Nat}:∀{r:List (Nat×AV)},ym P l r=true->mO P l r
 |[],_=>trivial
 |(i,v)::r,h=>by
  simp only[ym,ap]at h;refine⟨?_,Eh h.2⟩;have a:=h.1
  split at a
  ·rename_i n c;simp only[ap]at a;refine⟨n,c,dL a.1,fun b=>?_⟩;rw[b]at a;simp at a
  ·simp at a
def qZ(P:a0)(sz:Nat):List AV->Bool
 |[]=>true
 |v::r=>(match aa v with
  | .bad=>false
  |s=>c7 (bO P s) sz)&&qZ P sz r
theorem vf{sz:Nat}:∀{r:List AV},qZ P sz r=true->fh P sz r
 |[],_=>trivial
 |v::r,h=>by
  simp only[qZ,ap]at h;refine⟨?_,vf h.2⟩;have a:=h.1
  split at a
  ·simp at a
  ·rename_i b;exact⟨b,dL a⟩
def GR(P:a0)(T:ay)(H:Heap)(a:AV):Option aZ:=
 match a with
 | .ptr b path=>match H[b]? with
  |some (.box fz t)=>match fk t path with
   |some s=>bif sE (kindOf P T) (aa s)then some {v:=s,al:=[(b,.box fz t)]}else none
   |none=>none
  |_=>none
 | .ct b ar ak i path=>match H[b]? with
  |some (.arr k d c es)=>bif c7 ar d&&c7 ak c then match es[i]? with
   |some x=>match fk x path with
    |some s=>bif sE (kindOf P T) (aa s)then some {v:=s,al:=[(b,.arr k d c es)]}else none
    |none=>none
   |none=>none
   else none
  |_=>none
 | .p (.cG t)=>bif sE (kindOf P T) (aP t)then some {v:=.p t}else none
 |_=>none
theorem avQ{T:ay}{H:Heap}{a:AV}{e:aZ}{K:aZ->Prop}(h:GR P T H a=some e)(hk:K e):pF P T H a K:=by
 unfold GR at h;unfold pF
 split at h
 ·split at h
  ·split at h
   ·rename_i hs;simp only[ao,dl,dp]at h;rename_i c _ _;obtain⟨b,rfl⟩:=h;simp only[c,hs];exact⟨(jq b).1,hk⟩
   ·simp at h
  ·simp at h
 ·split at h
  ·rename_i c;simp only[ao,dl,ap]at h;obtain⟨⟨b,d⟩,h⟩:=h
   split at h
   ·rename_i hx
    split at h
    ·rename_i hs;simp only[dl,dp]at h;obtain⟨f,rfl⟩:=h;obtain⟨hi,rfl⟩:=be.1 hx;simp only[c];refine⟨dL b,dL d,hi,?_⟩;simp only[hs];exact⟨(jq f).1,hk⟩
    ·simp at h
   ·simp at h
  ·simp at h
 ·simp only[ao,dl,dp]at h;obtain⟨b,rfl⟩:=h;exact⟨(jq b).1,hk⟩
 ·simp at h
def FH(P:a0)(T:ay)(H:Heap)(a x:AV):Option aZ:=
 bif sE (kindOf P T) (aa x)then match a with
 | .ptr b path=>match H[b]? with
  |some (.box false t)=>match fk t path,gD t path x with
   |some s,some d=>bif sE (aa s) (aa x)then some {v:=.p (.aD []),al:=[(b,.box false t)],aM:=[(b,.box false d)]}else none
   |_,_=>none
  |_=>none
 | .ct b ar ak i path=>match H[b]? with
  |some (.arr k e c es)=>bif c7 ar e&&(c7 ak c&&y0 k)then match es[i]? with
   |some y=>match fk y path,gD y path x with
    |some s,some d=>bif sE (aa s) (aa x)then some {v:=.p (.aD []),al:=[(b,.arr k e c es)],aM:=[(b,.arr k e c (es.set i d))]}else none
    |_,_=>none
   |none=>none
   else none
  |_=>none
 |_=>none
 else none
theorem ZS{T:ay}{H:Heap}{a x:AV}{e:aZ}{K:aZ->Prop}(h:FH P T H a x=some e)(hk:K e):pg P T H a x K:=by
 unfold FH at h;unfold pg;simp only[ao,dl]at h;obtain⟨f,h⟩:=h;refine⟨(jq f).1,(jq f).2,?_⟩
 split at h
 ·split at h
  ·rename_i c
   split at h
   ·rename_i hs d;simp only[dl,dp]at h;obtain⟨b,rfl⟩:=h;simp only[c,hs,d];exact⟨(jq b).1,hk⟩
   ·simp at h
  ·simp at h
 ·split at h
  ·rename_i c;simp only[dl,ap]at h;obtain⟨⟨b,g,i⟩,h⟩:=h
   split at h
   ·rename_i k
    split at h
    ·rename_i hs d;simp only[dl,dp]at h;obtain⟨j,rfl⟩:=h;obtain⟨hi,rfl⟩:=be.1 k;simp only[c];refine⟨dL b,dL g,FQ i,hi,?_⟩;simp only[hs,d];exact⟨(jq j).1,hk⟩
    ·simp at h
   ·simp at h
  ·simp at h
 ·simp at h
def GD(op:a6)(k:a5)(a b:Int):Option PV:=
 match op with
 | .add=>some (.int k (k.wrap (a+b)))
 | .sub=>some (.int k (k.wrap (a-b)))
 | .mul=>some (.int k (k.wrap (a*b)))
 | .quo=>match b with
  | .ofNat 0=>none
  |b=>some (.int k (k.wrap (a.tdiv b)))
 | .rem=>match b with
  | .ofNat 0=>none
  |b=>some (.int k (a.tmod b))
 | .and=>some (.int k (k.wrap (am k.bits a&&&am k.bits b).toNat))
 | .or=>some (.int k (k.wrap (am k.bits a|||am k.bits b).toNat))
 | .xor=>some (.int k (k.wrap (am k.bits a^^^am k.bits b).toNat))
 | .andNot=>some (.int k (k.wrap (am k.bits a&&&~~~am k.bits b).toNat))
 | .eql=>some (.bool (a==b))
 | .neq=>some (.bool (a !=b))
 | .lss=>some (.bool (decide (a<b)))
 | .leq=>some (.bool (decide (a<=b)))
 | .gtr=>some (.bool (decide (a>b)))
 | .geq=>some (.bool (decide (a>=b)))
 | .shl=>match b with
  | .ofNat _=>some (.int k (k.wrap (a*2^(min b.toNat k.bits))))
  |_=>none
 | .shr=>match b with
  | .ofNat _=>some (.int k (a.fdiv (2^(min b.toNat k.bits))))
  |_=>none
theorem aLx{op:a6}{k:a5}{a b:Int}{v:PV}{K:PV->Prop}(h:GD op k a b=some v)(hk:K v):qX op k a b K:=by
 cases op<;>simp only[GD]at h<;>simp only[qX]
 case quo|rem=>
  split at h
  ·simp at h
  ·rename_i d;simp only[dp]at h;subst h;exact⟨fun c=>d (by rw[c];rfl),hk⟩
 case shl|shr=>
  split at h
  ·simp only[dp]at h;subst h;exact⟨a7 _,hk⟩
  ·simp at h
 all_goals (simp only[dp]at h;subst h;exact hk)
def Gi(P:a0)(op:a6)(T:ay)(c:Bool)(H:Heap)(x y:AV):Option PV:=
 match x,y with
 | .p (.int k a),.p (.int d b)=>bif Tk k d||(match op with
  | .shl| .shr=>true
  |_=>false)then GD op k a b else none
 | .p (.str a),.p (.str b)=>match op with
  | .add=>bif c6 (a.length+b.length) 9223372036854775807 then some (.str (a++b))else none
  | .eql=>some (.bool (a==b))
  | .neq=>some (.bool (!(a==b)))
  | .lss=>some (.bool (jN a b))
  | .leq=>some (.bool (jN a b||a==b))
  | .gtr=>some (.bool (!(jN a b||a==b)))
  | .geq=>some (.bool (!(jN a b)))
  |_=>none
 | .p (.bool a),.p (.bool b)=>bif sR P T then match op with
  | .eql=>some (.bool (a==b))
  | .neq=>some (.bool (!(a==b)))
  |_=>none
  else none
 | .p (.st u fs),.p (.st u' gs)=>bif lO P T then match eA P 9 T (.st u fs) (.st u' gs),op with
  |some r,.eql=>some (.bool r)
  |some r,.neq=>some (.bool !r)
  |_,_=>none
  else none
 |x,y=>match dy P T c y with
  |some k=>match cU H k x,op with
   |some r,.eql=>some (.bool r)
   |some r,.neq=>some (.bool !r)
   |_,_=>none
  |none=>none
theorem aAu{op:a6}{T:ay}{c:Bool}{H:Heap}{x y:AV}{v:PV}{K:PV->Prop}(h:Gi P op T c H x y=some v)(hk:K v):lI P op T c H x y K:=by
 unfold Gi at h;unfold lI
 split at h
 ·simp only[ao,dl,Bool.or_eq_true,Tk,decide_eq_true_eq]at h;refine⟨?_,aLx h.2 hk⟩;rcases h.1 with b|b
  ·exact .inl b
  ·cases op<;>simp at b<;>simp
 ·split at h<;>simp only[qW]
  ·simp only[ao,dl,dp]at h;obtain⟨b,rfl⟩:=h;exact⟨by have:=dm b;omega,hk⟩
  ·simp only[dp]at h;subst h;exact hk
  ·simp only[dp]at h;subst h;exact hk
  ·simp only[dp]at h;subst h;exact hk
  ·simp only[dp]at h;subst h;exact hk
  ·simp only[dp]at h;subst h;exact hk
  ·simp only[dp]at h;subst h;exact hk
  ·simp at h
 ·simp only[ao,dl]at h;refine⟨h.1,?_⟩;have a:=h.2
  split at a
  ·simp only[dp]at a;subst a;exact hk
  ·simp only[dp]at a;subst a;exact hk
  ·simp at a
 ·simp only[ao,dl]at h;refine⟨h.1,?_⟩;have a:=h.2
  split at a
  ·rename_i d;simp only[dp]at a;subst a;simp only[d];exact hk
  ·rename_i d;simp only[dp]at a;subst a;simp only[d];exact hk
  ·simp at a
 ·split at h
  case h_2=>simp at h
  rename_i k f;show lI P op T c H x y _;rw[NQ f];obtain⟨r,e,d⟩:∃r,cU H k x=some r/\((op=.eql/\v=.bool r)\/(op=.neq/\v=.bool !r)):=by
   revert h;generalize cU H k x=q;intro h;cases q with
   |none=>simp at h
   |some r=>cases op<;>simp at h<;>exact⟨r,rfl,by simp[h]⟩
  rw[e];rcases d with⟨rfl,rfl⟩|⟨rfl,rfl⟩<;>exact hk
def D9(P:a0)(T:ay)(a:AV)(f:Nat):Option aZ:=
 match fZ P T with
 |some (u,n)=>bif c6 (f+1) n then match a with
  | .ptr b path=>some {v:=.ptr b (path++[(u,f)])}
  | .ct b ar ak i path=>some {v:=.ct b ar ak i (path++[(u,f)])}
  | .p (.cG t)=>bif sE (aP t) (.agg u)then match(cS t)[f]? with
   |some g=>some {v:=.p (.cG g)}
   |none=>none
   else none
  |_=>none
  else none
 |_=>none
theorem Xx{T:ay}{a:AV}{f:Nat}{e:aZ}{K:aZ->Prop}(h:D9 P T a f=some e)(hk:K e):oV P T a f K:=by
 unfold D9 at h;unfold oV
 split at h
 ·rename_i hs;simp only[ao,dl]at h;obtain⟨b,h⟩:=h;simp only[hs];refine⟨by have:=dm b;omega,?_⟩
  split at h
  ·simp only[dp]at h;subst h;exact hk
  ·simp only[dp]at h;subst h;exact hk
  ·simp only[dl]at h;obtain⟨c,h⟩:=h
   split at h
   ·rename_i d;simp only[dp]at h;subst h;simp only[d];exact⟨(jq c).1,hk⟩
   ·simp at h
  ·simp at h
 ·simp at h
def oE(a:Option Nat)(b:Nat):Bool:=match a with
 |some x=>c7 x b
 |none=>false
theorem yG{a:Option Nat}{b:Nat}(h:oE a b=true):a=some b:=by
 unfold oE at h;split at h
 ·rw[dL h]
 ·simp at h
def D6(P:a0)(T:ay)(H:Heap)(x i:AV):Option aZ:=
 match i with
 | .p (.int _ (.ofNat i))=>match x with
  | .p (.bF _ es)=>match es[i]? with
   |some y=>bif oE (cV P T) (bO P (aP y))then some {v:=.p (.cG y)}else none
   |none=>none
  | .p (.seq es)=>match es[i]? with
   |some y=>bif oE (cV P T) (bO P (aP y))then some {v:=.p (.cG y)}else none
   |none=>none
  | .sl b ar ak off len=>bif oE (cV P T) ak&&c6 (i+1) len then match H[b]? with
   |some (.arr k c a es)=>bif c7 ar c&&(c7 ak a&&pO k es)then some {v:=.ct b ar ak (off+i) [],al:=[(b,.arr k c a es)]}else none
   |_=>none
   else none
  | .ptr b path=>match iQ P T with
   |some (u,n)=>bif c6 (i+1) n then some {v:=.ptr b (path++[(u,i)])}else none
   |_=>none
  | .ct b ar ak j path=>match iQ P T with
   |some (u,n)=>bif c6 (i+1) n then some {v:=.ct b ar ak j (path++[(u,i)])}else none
   |_=>none
  | .p (.cG t)=>match iQ P T with
   |some (u,n)=>bif sE (aP t) (.agg u)&&c6 (i+1) n then match(cS t)[i]? with
    |some g=>some {v:=.p (.cG g)}
    |none=>none
    else none
   |_=>none
  |_=>none
 |_=>none
theorem XJ{T:ay}{H:Heap}{x i:AV}{e:aZ}{K:aZ->Prop}(h:D6 P T H x i=some e)(hk:K e):oU P T H x i K:=by
 unfold D6 at h;unfold oU
 split at h
 case h_2=>simp at h
 rename_i i;refine⟨a7 _,?_⟩;simp only[a8,a9]
 split at h
 ·split at h
  ·rename_i y d;simp only[ao,dl,dp]at h;obtain⟨a,rfl⟩:=h;obtain⟨hi,rfl⟩:=be.1 d;exact⟨hi,yG a,hk⟩
  ·simp at h
 ·split at h
  ·rename_i y d;simp only[ao,dl,dp]at h;obtain⟨a,rfl⟩:=h;obtain⟨hi,rfl⟩:=be.1 d;exact⟨hi,yG a,hk⟩
  ·simp at h
 ·simp only[ao,dl,ap]at h;obtain⟨⟨a,c⟩,h⟩:=h;refine⟨yG a,by have:=dm c;omega,?_⟩
  split at h
  ·rename_i k;simp only[dl,dp]at h;obtain⟨⟨f,g,j⟩,rfl⟩:=h;simp only[k];exact⟨dL f,dL g,yl j,hk⟩
  ·simp at h
 ·split at h
  ·rename_i b;simp only[ao,dl,dp]at h;obtain⟨a,rfl⟩:=h;simp only[b];exact⟨by have:=dm a;omega,hk⟩
  ·simp at h
 ·split at h
  ·rename_i b;simp only[ao,dl,dp]at h;obtain⟨a,rfl⟩:=h;simp only[b];exact⟨by have:=dm a;omega,hk⟩
  ·simp at h
 ·split at h
  ·rename_i b;simp only[ao,dl,ap]at h;obtain⟨⟨a,c⟩,h⟩:=h
   split at h
   ·rename_i l;simp only[dp]at h;subst h;simp only[b,l];exact⟨(jq a).1,by have:=dm c;omega,hk⟩
   ·simp at h
  ·simp at h
 ·simp at h
def Fz(P:a0)(T X:ay)(H:Heap)(s x:AV):Option aZ:=
 match cV P T,iD H x with
 |some sz,some xs=>bif iu P X&&((cO P (ez P T)).isSome&&qZ P sz xs)then
  match s with
  | .p .aH=>match xs with
   |[]=>some {v:=s,al:=dR H x}
   |y::r=>bif c6 (y::r).length cJ then some {v:=.sl H.length 0 sz 0 (y::r).length,al:=dR H x,aX:=[.arr (gk P T) 0 sz (y::r)]}else none
  | .p (.bF full es)=>bif qZ P sz (es.map .p)then match xs with
   |[]=>some {v:=s,al:=dR H x}
   |y::r=>bif full&&c6 (es.length+(y::r).length) cJ then
    some {v:=.sl H.length 0 sz 0 (es.length+(y::r).length),al:=dR H x,aX:=[.arr (gk P T) 0 sz (es.map .p++(y::r))]}else none
   else none
  | .sl b ar ak off len=>match H[b]? with
   |some (.arr k c a es)=>bif c7 ar c&&(c7 ak a&&(c7 ak sz&&c6 (off+len) es.length))then
    match xs with
    |[]=>some {v:=s,al:=(b,.arr k c a es)::dR H x}
    |y::r=>bif c6 (es.length+(y::r).length) cJ then match k with
     | .frozen=>none
     | .exact=>bif c6 (off+len+(y::r).length) es.length then
      some {v:=.sl b ar ak off (len+(y::r).length),al:=(b,.arr .exact c a es)::dR H x,aM:=[(b,.arr .exact ar ak (es.take (off+len)++(y::r)++es.drop (off+len+(y::r).length)))]}
      else some {v:=.sl H.length 0 sz 0 (len+(y::r).length),al:=(b,.arr .exact c a es)::dR H x,aX:=[.arr (gk P T) 0 sz ((es.drop off).take len++(y::r))]}
     | .grow=>bif c7 off 0 then some {v:=.sl b (ar+1) ak 0 (len+(y::r).length),al:=(b,.arr .grow c a es)::dR H x,aM:=[(b,.arr .grow (ar+1) ak (es.take len++(y::r)))]}else none
     | .bytes=>bif c7 off 0&&c7 (ez P T) Gl.u8 then some {v:=.sl b (ar+1) ak 0 (len+(y::r).length),al:=(b,.arr .bytes c a es)::dR H x,aM:=[(b,.arr .bytes (ar+1) ak (es.take len++(y::r)))]}else none
     else none
    else none
   |_=>none
  |_=>none
  else none
 |_,_=>none
theorem Wj{T X:ay}{H:Heap}{s x:AV}{e:aZ}{K:aZ->Prop}(h:Fz P T X H s x=some e)(hk:K e):oZ P T X H s x K:=by
 unfold Fz at h;unfold oZ
 split at h
 case h_2=>simp at h
 rename_i sz r n p;simp only[ao,dl,ap]at h;obtain⟨⟨g,j,k⟩,h⟩:=h;simp only[n,p];refine⟨g,j,vf k,?_⟩
 split at h
 ·split at h
  ·simp only[dp]at h;subst h;simpa using hk
  ·simp only[dl,dp]at h;obtain⟨a,rfl⟩:=h;simp only[b0,av,if_false];exact⟨dm a,hk⟩
 ·simp only[dl]at h;obtain⟨a,h⟩:=h;refine⟨vf a,?_⟩
  split at h
  ·simp only[dp]at h;subst h;simpa using hk
  ·simp only[dl,dp]at h;obtain⟨⟨b,c⟩,rfl⟩:=h;simp only[b0,av,if_false];exact⟨b,dm c,hk⟩
 ·split at h
  case h_2=>simp at h
  rename_i o;simp only[dl]at h;obtain⟨⟨a,b,c,l⟩,h⟩:=h;simp only[o];refine⟨dL a,dL b,dL c,dm l,?_⟩
  split at h
  ·simp only[dp]at h;subst h;simpa using hk
  ·simp only[dl]at h;obtain⟨m,h⟩:=h;simp only[b0,av,if_false];refine⟨dm m,?_⟩
   split at h
   ·simp at h
   ·split at h
    ·rename_i f;simp only[dp]at h;subst h;simp only[dm f,if_true];exact hk
    ·rename_i f;simp only[dp]at h;subst h;rw[if_neg (fun q=>f (c9 q))];exact hk
   ·simp only[dl,dp]at h;obtain⟨d,rfl⟩:=h;exact⟨dL d,(fun h=>by cases h),hk⟩
   ·simp only[dl,dp]at h;obtain⟨⟨d,i⟩,rfl⟩:=h;exact⟨dL d,fun _=>dL i,hk⟩
 ·simp at h
end
section
variable{P:a0}{ah:aT->Bool}
def kn(x:Option AV)(d:Nat):Option Nat:=
 match x with
 |none=>some d
 |some (.p (.int _ (.ofNat i)))=>some i
 |_=>none
theorem lD{x:Option AV}{d n:Nat}{K:Nat->Prop}(h:kn x d=some n)(hk:K n):ir x d K:=by
 unfold kn at h;unfold ir
 split at h
 ·simp only[dp]at h;subst h;exact hk
 ·simp only[dp]at h;subst h;exact⟨a7 _,hk⟩
 ·simp at h
def FJ(P:a0)(T:ay)(H:Heap)(x:AV)(lo hi e:Option AV):Option aZ:=
 match e with
 |some _=>none
 |none=>match x with
  | .p (.str s)=>match kn hi s.length,kn lo 0 with
   |some h,some l=>bif je P T&&(c6 h s.length&&c6 l h)then some {v:=.p (.str ((s.take h).drop l))}else none
   |_,_=>none
  | .p .aH=>match kn hi 0,kn lo 0 with
   |some h,some l=>bif (cV P T).isSome&&(c6 h 0&&c6 l h)then some {v:=x}else none
   |_,_=>none
  | .p (.bF full es)=>match kn hi es.length,kn lo 0,cV P T with
   |some h,some l,some sz=>bif c6 h es.length&&(c6 l h&&qZ P sz (es.map .p))then some {v:=.p (.bF (full&&h==es.length) ((es.take h).drop l))}else none
   |_,_,_=>none
  | .p (.seq es)=>match kn hi es.length,kn lo 0,cV P T with
   |some h,some l,some sz=>bif c6 h es.length&&(c6 l h&&qZ P sz (es.map .p))then some {v:=.p (.seq ((es.take h).drop l))}else none
   |_,_,_=>none
  | .sl b ar ak off len=>match H[b]? with
   |some (.arr k c a es)=>match kn hi len,kn lo 0 with
    |some h,some l=>bif c7 ar c&&(c7 ak a&&(oE (cV P T) ak&&(pO k es&&(c6 (off+len) es.length&&(c6 (off+h) es.length&&c6 l h)))))then
     match l with
     |0=>some {v:=.sl b ar ak off h,al:=[(b,.arr k c a es)]}
     |d+1=>bif c7 (d+1) h then some {v:=.p (.bF false []),al:=[(b,.arr k c a es)]}else some {v:=.sl b ar ak (off+(d+1)) (h-(d+1)),al:=[(b,.arr k c a es)]}
     else none
    |_,_=>none
   |_=>none
  |_=>none
theorem ZV{T:ay}{H:Heap}{x:AV}{lo hi i:Option AV}{e:aZ}{K:aZ->Prop}(h:FJ P T H x lo hi i=some e)(hk:K e):ph P T H x lo hi i K:=by
 unfold FJ at h;unfold ph
 split at h
 ·simp at h
 refine⟨rfl,?_⟩
 split at h
 ·split at h
  case h_2=>simp at h
  rename_i a b;simp only[ao,dl,ap,dp]at h;obtain⟨⟨c,d,f⟩,rfl⟩:=h;exact⟨c,lD a (lD b ⟨dm d,dm f,hk⟩)⟩
 ·split at h
  case h_2=>simp at h
  rename_i a b;simp only[ao,dl,ap,dp]at h;obtain⟨⟨c,d,f⟩,rfl⟩:=h;exact⟨c,lD a (lD b ⟨dm d,dm f,hk⟩)⟩
 ·split at h
  case h_2=>simp at h
  rename_i a b c;simp only[ao,dl,ap,dp]at h;obtain⟨⟨d,f,g⟩,rfl⟩:=h;refine lD a (lD b ⟨dm d,dm f,?_⟩);simp only[c];exact⟨vf g,hk⟩
 ·split at h
  case h_2=>simp at h
  rename_i a b c;simp only[ao,dl,ap,dp]at h;obtain⟨⟨d,f,g⟩,rfl⟩:=h;refine lD a (lD b ⟨dm d,dm f,?_⟩);simp only[c];exact⟨vf g,hk⟩
 ·split at h
  case h_2=>simp at h
  rename_i m
  split at h
  case h_2=>simp at h
  rename_i a b;simp only[ao,dl,ap]at h;obtain⟨⟨c,d,f,g,j,k,l⟩,h⟩:=h;simp only[m];refine⟨dL c,dL d,yG f,yl g,dm j,lD a (lD b ⟨dm k,dm l,?_⟩)⟩
  split at h
  ·simp only[dp]at h;subst h;simpa using hk
  ·rw[if_neg o_]
   split at h
   ·rename_i hl;simp only[dp]at h;subst h;rw[if_pos (dL hl)];exact hk
   ·rename_i hl;simp only[dp]at h;subst h;rw[if_neg (fun e=>hl (by rw[<-e];exact da _))];exact hk
 ·simp at h
def E3(P:a0)(T:ay)(H:Heap)(x:AV)(lo hi:Option AV)(m:AV):Option aZ:=
 match x with
 | .sl b ar ak off len=>match H[b]? with
  |some (.arr k c a es)=>match kn hi len,kn lo 0,kn (some m) 0 with
   |some h,some l,some m=>bif c7 ar c&&(c7 ak a&&((cV P T).isSome&&(pO k es&&(c6 (off+len) es.length&&(hi.isSome&&(c6 (off+m) es.length&&(c6 h m&&c6 l h)))))))then
    some {v:=.p .undef,al:=[(b,.arr k c a es)]}else none
   |_,_,_=>none
  |_=>none
 |_=>none
theorem Zz{T:ay}{H:Heap}{x:AV}{lo hi:Option AV}{m:AV}{e:aZ}{K:aZ->Prop}(h:E3 P T H x lo hi m=some e)(hk:K e):sy P T H x lo hi m K:=by
 unfold E3 at h;unfold sy
 split at h
 case h_2=>simp at h
 split at h
 case h_2=>simp at h
 rename_i d
 split at h
 case h_2=>simp at h
 rename_i a b c;simp only[ao,dl,ap,dp]at h;obtain⟨⟨g1,g2,g3,g4,g5,g6,g7,g8,g9⟩,rfl⟩:=h;simp only[d];exact⟨dL g1,dL g2,g3,yl g4,dm g5,g6,lD a (lD b (lD c ⟨dm g7,dm g8,dm g9,hk⟩))⟩
def BM(ok:Bool)(z:PV)(r:Option PV):PV:=
 match r with
 |some v=>bif ok then .aD [v,.bool true]else v
 |none=>bif ok then .aD [z,.bool false]else z
def aOU(ok:Bool)(z:PV)(r:Option AV):AV:=
 match r with
 |some v=>bif ok then .aD [v,.p (.bool true)]else v
 |none=>.p (bif ok then .aD [z,.bool false]else z)
def PU(P:a0)(T:ay)(H:Heap)(x i:AV)(ok:Bool):Option aZ:=
 match jS P T,i with
 |some (a,E),.p key=>match cO P E with
  |some z=>bif fI P a key then match x with
   | .p .fM=>some {v:=.p (BM ok z none)}
   | .p (.fu es)=>match gI P a es key with
    |some r=>some {v:=.p (BM ok z r)}
    |none=>none
   | .map b=>match H[b]? with
    |some (.map fz es)=>match gI P a es key with
     |some r=>some {v:=.p (BM ok z r),al:=[(b,.map fz es)]}
     |none=>none
    |some (.dK ks vs)=>bif oK key then match me P a ks vs key with
     |some r=>some {v:=aOU ok z r,al:=[(b,.dK ks vs)]}
     |none=>none
     else none
    |_=>none
   |_=>none
   else none
  |none=>none
 |_,_=>none
def Co(P:a0)(c:ay)(b:Nat)(key:PV)(x:AV)(a:Obj):Option aZ:=
 match um a with
 |some (ks,vs)=>bif oK key then match me P c ks vs key with
  |some none=>some {v:=.p (.aD []),al:=[(b,a)],aM:=[(b,.dK (ks++[key]) (vs++[x]))]}
  |_=>none
  else none
 |none=>none
theorem Dq{P:a0}{a:ay}{b:Nat}{key:PV}{x:AV}{c:Obj}{e:aZ}{K:aZ->Prop}(h:Co P a b key x c=some e)(hk:K e):qc P a b key x c K:=by
 unfold Co at h;unfold qc
 split at h
 ·rename_i ks vs f;simp only[ao,dl]at h;obtain⟨d,h⟩:=h
  split at h
  ·rename_i hl;simp only[dp]at h;subst h;simp only[f];exact⟨d,hl,hk⟩
  ·cases h
 ·cases h
def PR(P:a0)(T:ay)(H:Heap)(m k x:AV):Option aZ:=
 match jS P T,m,k with
 |some (a,_),.map b,.p key=>bif fI P a key then match H[b]? with
  |some (.map false es)=>match x with
   | .p v=>match mV P a es key with
    |some _=>some {v:=.p (.aD []),al:=[(b,.map false es)],aM:=[(b,.map false (iq es key v))]}
    |none=>none
   |x=>Co P a b key x (.map false es)
  |some (.dK ks vs)=>Co P a b key x (.dK ks vs)
  |_=>none
  else none
 |_,_,_=>none
def Uj(H:Heap)(it:AV):Option aZ:=
 match it with
 | .ptr b []=>match H[b]? with
  |some (.dO s pos)=>bif c6 (pos+1) s.length then
   some {v:=.p (.aD [.bool true,.int .i64 pos,.int .i32 (Utf8.decode (ic s) pos).1]),al:=[(b,.dO s pos)],aM:=[(b,.dO s (pos+(Utf8.decode (ic s) pos).2))]}
   else some {v:=.p (.aD [.bool false]),al:=[(b,.dO s pos)]}
  |_=>none
 |_=>none
def OI(P:a0)(H:Heap)(b:Builtin)(c:Array ay)(args:List AV):Option aZ:=
 match b,args with
 | .len,[x]=>match lenOf H x with
  |some (n,al)=>bif iL P (c.getD 0 0) x&&c6 1 c.size then some {v:=.p (.int .i64 n),al}else none
  |none=>none
 | .append,[s,x]=>bif c7 c.size 2 then Fz P (c.getD 0 0) (c.getD 1 0) H s x else none
 | .min,.p (.int k a)::r=>match mP k false r a with
  |some n=>some {v:=.p (.int k n)}
  |none=>none
 | .max,.p (.int k a)::r=>match mP k true r a with
  |some n=>some {v:=.p (.int k n)}
  |none=>none
 | .copy,[d,x]=>match cV P (c.getD 0 0),d,iD H x with
  |some sz,.sl b ar ak off len,some xs=>bif c7 ak sz&&(qZ P sz xs&&c7 c.size 2)then match H[b]? with
   |some (.arr k f e es)=>bif c7 ar f&&(c7 ak e&&(y0 k&&(c6 (off+len) es.length&&pO k es)))then
    some {v:=.p (.int .i64 (min xs.length len:Nat)),al:=(b,.arr k f e es)::dR H x,aM:=[(b,.arr k f e (es.take off++xs.take (min xs.length len)++es.drop (off+min xs.length len)))]}
    else none
   |_=>none
   else none
  |_,_,_=>none
 | .cap,[x]=>match B2 H x with
  |some (n,al)=>bif iL P (c.getD 0 0) x&&c6 1 c.size then some {v:=.p (.int .i64 n),al}else none
  |none=>none
 | .clear,[x]=>match x with
  | .p .aH=>bif iL P (c.getD 0 0) x&&c6 1 c.size then some {v:=.p (.aD [])}else none
  | .sl b ar ak off len=>match cV P (c.getD 0 0),cO P (ez P (c.getD 0 0)),H[b]? with
   |some sz,some z,some (.arr k f e es)=>bif c7 ar f&&(c7 ak e&&(c7 ak sz&&(c7 (bO P (aP z)) sz&&(y0 k&&(c6 (off+len) es.length&&(pO k es&&(c6 1 c.size&&c6 1 len)))))))then
    some {v:=.p (.aD []),al:=[(b,.arr k f e es)],aM:=[(b,.arr k f e (es.take off++bi len (.p z)++es.drop (off+len)))]}else none
   |_,_,_=>none
  |_=>none
 | .unsafeSliceData,[x]=>match x with
  | .p .aH=>some {v:=.p .dX}
  | .sl b ar ak off len=>match H[b]? with
   |some (.arr k f e es)=>bif c7 ar f&&c7 ak e then
    bif pO k es then(bif c6 1 len&&c6 (off+len) es.length then some {v:=.ct b ar ak off [],al:=[(b,.arr k f e es)]}else none)
    else some {v:=.p .dX,al:=[(b,.arr k f e es)]}
    else none
   |_=>none
  |_=>none
 | .unsafeString,[x,.p (.int .i64 (.ofNat n))]=>match x with
  | .p .dX=>bif c7 n 0&&c7 c.size 2 then some {v:=.p (.str [])}else none
  | .ct b ar ak i []=>match H[b]? with
   |some (.arr .bytes f e es)=>bif c7 ar f&&(c7 ak e&&(c7 ak 1&&(c7 i 0&&(c6 1 n&&(c6 n es.length&&(c6 n 9223372036854775807&&(c7 c.size 2&&(oE (ptrTo P (c.getD 0 0)) Gl.u8&&c7 (P.cellsOf Gl.u8) 1))))))))then
    match bytesOf (es.take n)with
    |some l=>some {v:=.p (.str l),al:=[(b,.arr .bytes f e es)],aM:=[(b,.dead)]}
    |none=>none
    else none
   |_=>none
  |_=>none
 |_,_=>none
def Cs(P:a0)(ah:aT->Bool)(o:Oper)(ρ:ax->AV)(H:Heap):Option aZ:=
 match o.op with
 | .move x| .assign x=>some {v:=ρ x}
 | .pick c a b=>match ρ c with
  | .p (.bool t)=>some {v:=bif t then ρ a else ρ b}
  |_=>none
 | .alloc T=>match cO P T with
  |some z=>bif sE (kindOf P T) (aP z)&&jT T (aP z)then some {v:=.ptr H.length [],aX:=[.box false (.p z)]}else none
  |none=>none
 | .box T x=>bif sE (kindOf P T) (aa (ρ x))&&jT T (aa (ρ x))then some {v:=.ptr H.length [],aX:=[.box false (ρ x)]}else none
 | .build T parts=>match kindOf P T,cO P T with
  | .agg u,some z=>match dY P u with
   |some l=>bif sE (aP z) (.agg u)&&ym P l (parts.toList.map fun(i,x)=>(i,ρ x))then some {v:=iR u (jd ((cS z).map .p) (parts.toList.map fun(i,x)=>(i,ρ x)))}else none
   |none=>none
  |_,_=>none
 | .buildSlice T n parts=>match cV P T,cO P (ez P T)with
  |some sz,some z=>bif c7 (bO P (aP z)) sz&&(c6 (n*sz) 1000000&&ym P (bi n sz) (parts.toList.map fun(i,x)=>(i,ρ x)))then
   some {v:=.sl H.length 0 sz 0 n,aX:=[.arr .exact 0 sz (jd (bi n (.p z)) (parts.toList.map fun(i,x)=>(i,ρ x)))]}else none
  |_,_=>none
 | .load T a=>GR P T H (ρ a)
 | .store T a x=>FH P T H (ρ a) (ρ x)
 | .binOp op T x y _=>match Gi P op T (nr y) H (ρ x) (ρ y)with
  |some v=>some {v:=.p v,al:=dR H (ρ x)}
  |none=>none
 | .unOp op _ x=>match op,ρ x with
  | .not,.p (.bool b)=>some {v:=.p (.bool (!b))}
  | .neg,.p (.int k n)=>some {v:=.p (.int k (k.wrap (0-n)))}
  | .xor,.p (.int k n)=>some {v:=.p (.int k (k.wrap (am k.bits (if k.signed then -1 else k.max)^^^am k.bits n).toNat))}
  |_,_=>none
 | .convert S D x=>match P.underlying S,P.underlying D,ρ x with
  |some _,some (.int k),.p (.int _ n)=>some {v:=.p (.int k (k.wrap n))}
  |some _,some .string,.p (.str s)=>some {v:=.p (.str s)}
  |_,_,_=>none
 | .extract t i=>match ρ t with
  | .p (.aD vs)=>match vs[i]? with
   |some v=>some {v:=.p v}
   |none=>none
  | .aD vs=>match vs[i]? with
   |some v=>some {v}
   |none=>none
  |_=>none
 | .fieldAddr T a f=>D9 P T (ρ a) f
 | .indexAddr T x i=>D6 P T H (ρ x) (ρ i)
 | .field T x f=>match kindOf P T,P.underlying T,ρ x with
  | .agg u,some (.struct _),.p t=>match(cS t)[f]?,(j0 P u)[f]? with
   |some g,some F=>bif sE (aP t) (.agg u)&&sE (kindOf P F) (aP g)then some {v:=.p g}else none
   |_,_=>none
  |_,_,_=>none
 | .index T x i=>match ρ x,ρ i with
  | .p (.str s),.p (.int _ (.ofNat i))=>match s[i]? with
   |some c=>bif je P T then some {v:=.p (.int .u8 c)}else none
   |none=>none
  | .p (.st u es),.p (.int _ (.ofNat i))=>match iQ P T,(j0 P u)[i]?,es[i]? with
   |some (u',n),some F,some g=>bif c7 u' u&&(c6 (i+1) n&&sE (kindOf P F) (aP g))then some {v:=.p g}else none
   |_,_,_=>none
  |_,_=>none
 | .makeFunc (.func f) fi ca=>bif ah f then match fY H (fi.toList.map ρ),fY H (ca.toList.map ρ)with
   |some (a,[],[]),some (b,al,aM)=>some {v:=.p (.func f a b),al,aM}
   |_,_=>none
  else match fj (fi.toList.map ρ),fj (ca.toList.map ρ)with
   |some a,some b=>some {v:=.p (.func f a b)}
   |_,_=>some {v:=.func f (fi.toList.map ρ) (ca.toList.map ρ)}
 | .makeSlice T l c=>match cV P T,cO P (ez P T),ρ l,ρ c with
  |some sz,some z,.p (.int .i64 (.ofNat l)),.p (.int .i64 (.ofNat c))=>bif c7 (bO P (aP z)) sz&&(c7 l c&&c6 l cJ)then
   some {v:=.sl H.length 0 sz 0 l,aX:=[.arr .exact 0 sz (bi l (.p z))]}else none
  |_,_,_,_=>none
 | .slice T x lo hi d=>match d with
  |none=>FJ P T H (ρ x) (lo.map ρ) (hi.map ρ) none
  |some m=>E3 P T H (ρ x) (lo.map ρ) (hi.map ρ) (ρ m)
 | .makeMap _ none=>some {v:=.map H.length,aX:=[.map false []]}
 | .lookup T x i ok=>PU P T H (ρ x) (ρ i) ok
 | .mapUpdate T m k x| .insert T m k x=>PR P T H (ρ m) (ρ k) (ρ x)
 | .range T x=>match ρ x with
  | .p (.str s)=>bif je P T then some {v:=.ptr H.length [],aX:=[.dO s 0]}else none
  |_=>none
 | .next it true=>Uj H (ρ it)
 | .nilCheck x=>match ρ x with
  | .ptr _ _| .ct _ _ _ _ _| .p (.cG _)=>some {v:=ρ x}
  |_=>none
 | .call c=>match c.callee with
  | .builtin b=>OI P H b c.argTypes (c.args.toList.map ρ)
  |_=>none
 |_=>none
theorem Rw{o:Oper}{ρ:ax->AV}{H:Heap}{e:aZ}{K:aZ->Prop}(h:Cs P ah o ρ H=some e)(hk:K e):fR P ah o ρ H K:=by
 unfold Cs at h;unfold fR;cases ac:o.op<;>simp only[ac]at h<;>simp only
 case move|assign=>simp only[dp]at h;subst h;exact hk
 case pick c a b=>
  split at h
  ·rename_i t hc;simp only[dp]at h;subst h;simp only[hc];cases t<;>exact hk
  ·simp at h
 case alloc T=>
  split at h
  ·rename_i z E;simp only[ao,dl,dp,ap]at h;obtain⟨⟨d,j⟩,rfl⟩:=h;simp only[E];exact⟨(jq d).1,(jq d).2,j,hk⟩
  ·simp at h
 case box T x=>
  simp only[ao,dl,dp,ap]at h;obtain⟨⟨d,j⟩,rfl⟩:=h;exact⟨(jq d).1,(jq d).2,j,hk⟩
 case build T parts=>
  split at h
  ·rename_i u z ad E
   split at h
   ·rename_i l hl;simp only[ao,dl,dp,ap]at h;obtain⟨⟨d,j⟩,rfl⟩:=h;simp only[ad,E,hl];exact⟨(jq d).1,Eh j,hk⟩
   ·simp at h
  ·simp at h
 case buildSlice T n parts=>
  split at h
  ·rename_i sz z I E;simp only[ao,dl,dp,ap]at h;obtain⟨⟨d,j,q⟩,rfl⟩:=h;simp only[I,E];exact⟨dL d,dm j,Eh q,hk⟩
  ·simp at h
 case load T a=>exact avQ h hk
 case store T a x=>exact ZS h hk
 case binOp op T x y af=>
  split at h
  ·rename_i v L;simp only[dp]at h;subst h;exact aAu (K:=fun v=>K {v:=.p v,al:=dR H (ρ x)}) L hk
  ·simp at h
 case unOp op T x=>
  split at h
  all_goals first
   |(rename_i hx;simp only[dp]at h;subst h;simp only[hx];exact hk)
   |simp at h
 case convert S D x=>
  split at h
  ·rename_i d j q;simp only[dp]at h;subst h;simp only[d,j,q];exact hk
  ·rename_i d j q;simp only[dp]at h;subst h;simp only[d,j,q];exact hk
  ·simp at h
 case extract t i=>
  split at h
  ·rename_i R
   split at h
   ·rename_i L;simp only[dp]at h;subst h;simp only[R,L];exact hk
   ·simp at h
  ·rename_i R
   split at h
   ·rename_i L;simp only[dp]at h;subst h;simp only[R,L];exact hk
   ·simp at h
  ·simp at h
 case fieldAddr T a f=>exact Xx h hk
 case indexAddr T x i=>exact XJ h hk
 case field T x f=>
  split at h
  ·rename_i d j q
   split at h
   ·rename_i A w;simp only[ao,dl,dp,ap]at h;obtain⟨⟨B,C⟩,rfl⟩:=h;simp only[d,j,q,A,w];exact⟨(jq B).1,(jq C).1,hk⟩
   ·simp at h
  ·simp at h
 case index T x i=>
  split at h
  ·rename_i d j
   split at h
   ·rename_i c hc;simp only[ao,dl,dp]at h;obtain⟨q,rfl⟩:=h;obtain⟨hi,rfl⟩:=be.1 hc;simp only[d,j];exact⟨q,a7 _,hi,hk⟩
   ·simp at h
  ·rename_i u V ak i d j
   split at h
   ·rename_i u' n F g q A w;simp only[ao,dl,dp,ap]at h;obtain⟨⟨g1,g2,g3⟩,rfl⟩:=h;have e:(Int.ofNat i).toNat=i:=rfl;simp only[d,j,e,q,A,w];exact⟨dL g1,a7 _,dm g2,(jq g3).1,hk⟩
   ·simp at h
  ·simp at h
 case makeFunc fn fi ca=>
  cases fn<;>simp only at h<;>try (simp at h;done)
  rename_i f;simp only;simp only[ao]at h
  split at h
  ·rename_i hf;rw[if_pos hf]
   split at h
   ·rename_i d j;simp only[dp]at h;subst h;simp only[d,j];exact hk
   ·simp at h
  ·rename_i hf;rw[if_neg hf]
   split at h
   ·rename_i d j;simp only[dp]at h;subst h;simp only[d,j];exact hk
   ·rename_i ab;simp only[dp]at h;subst h
    split
    ·rename_i d j;exact(ab _ _ d j).elim
    ·exact hk
 case makeSlice T l c=>
  split at h
  ·rename_i d j q A;simp only[ao,dl,dp,ap]at h;obtain⟨⟨w,B,C⟩,rfl⟩:=h;have e:=dL B;simp only[d,j,q,A];refine⟨dL w,a7 _,by rw[e],?_,hk⟩;have:=dm C;show((_:Nat):Int)<=_
   exact_mod_cast this
  ·simp at h
 case slice T x lo hi ae=>
  cases ae with
  |none=>exact ZV h hk
  |some m=>exact Zz h hk
 case makeMap T r=>
  cases r<;>simp only at h
  ·simp only[dp]at h;subst h;exact hk
  ·simp at h
 case lookup T x i ok=>
  unfold PU at h
  split at h
  case h_2=>simp at h
  rename_i d j
  split at h
  case h_2=>simp at h
  rename_i z E;simp only[ao,dl]at h;obtain⟨q,h⟩:=h;simp only[d,j,E];refine⟨q,?_⟩
  have M:∀r:Option PV,BM ok z r=match r with
    |some v=>if ok=true then .aD [v,.bool true]else v
    |none=>if ok=true then .aD [z,.bool false]else z:=by
   intro r;cases r<;>cases ok<;>rfl
  split at h
  ·rename_i hx;simp only[dp]at h;subst h;simp only[hx];rw[M]at hk;exact hk
  ·rename_i hx
   split at h
   ·rename_i r J;simp only[dp]at h;subst h;rw[M]at hk;simp only[hx,J];cases r<;>exact hk
   ·simp at h
  ·rename_i hx
   split at h
   ·rename_i s
    split at h
    ·rename_i r J;simp only[dp]at h;subst h;rw[M]at hk;simp only[hx,s,J];cases r<;>exact hk
    ·simp at h
   ·rename_i s;simp only[ao,dl]at h;obtain⟨Z,h⟩:=h
    split at h
    ·rename_i r J;simp only[dp]at h;subst h;simp only[hx,s,J];refine⟨Z,?_⟩;cases r<;>cases ok<;>exact hk
    ·simp at h
   ·simp at h
  ·simp at h
 case mapUpdate T m k x|insert T m k x=>
  unfold PR at h
  split at h
  case h_2=>simp at h
  rename_i d j q;simp only[ao,dl]at h;obtain⟨w,h⟩:=h;simp only[d,j,q];generalize ρ x=X at*
  split at h
  ·rename_i s;cases X with
   |p v=>
    simp only at h;refine⟨w,?_⟩
    split at h
    ·rename_i hl;simp only[dp]at h;subst h;simp only[s,hl];exact hk
    ·simp at h
   |_=>
    refine⟨w,?_⟩;simp only[s];exact Dq h hk
  ·rename_i s;cases X with
   |p v=>
    refine⟨w,?_⟩;simp only[s];exact Dq h hk
   |_=>
    refine⟨w,?_⟩;simp only[s];exact Dq h hk
  ·simp at h
 case range T x=>
  split at h
  ·rename_i hx;simp only[ao,dl,dp]at h;obtain⟨d,rfl⟩:=h;simp only[hx];exact⟨d,hk⟩
  ·simp at h
 case next it isStr=>
  cases isStr<;>simp only at h
  ·simp at h
  unfold Uj at h
  split at h
  ·rename_i hx
   split at h
   ·rename_i s;simp only[hx,s];simp only[ao]at h
    split at h
    ·rename_i Q;simp only[dp]at h;subst h;rw[if_pos (by have:=dm Q;omega)];exact hk
    ·rename_i Q;simp only[dp]at h;subst h;rw[if_neg (fun aa=>Q (c9 (Nat.succ_le_of_lt aa)))];exact hk
   ·simp at h
  ·simp at h
 case nilCheck x=>
  split at h
  all_goals first
   |(rename_i hx;simp only[dp]at h;subst h;simp only[hx]at hk⊢;exact hk)
   |simp at h
 case call c=>
  split at h
  case h_2=>simp at h
  rename_i b hc;simp only[hc];generalize c.args.toList.map ρ=args at*;generalize c.argTypes=ag at*;unfold OI at h
  split at h
  ·split at h
   ·rename_i hl;simp only[ao,dl,dp,ap]at h;obtain⟨⟨d,j⟩,rfl⟩:=h;simp only[hl];exact⟨d,dm j,hk⟩
   ·simp at h
  ·simp only[ao,dl]at h;exact⟨dL h.1,Wj h.2 hk⟩
  ·split at h
   ·rename_i O;simp only[dp]at h;subst h;simp only[O];exact hk
   ·simp at h
  ·split at h
   ·rename_i O;simp only[dp]at h;subst h;simp only[O];exact hk
   ·simp at h
  ·split at h
   ·rename_i I Y;simp only[ao,dl,ap]at h;obtain⟨⟨d,j,q⟩,h⟩:=h;simp only[I,Y];refine⟨dL d,vf j,dL q,?_⟩
    split at h
    ·rename_i s;simp only[dl,dp]at h;obtain⟨⟨A,w,B,C,G⟩,rfl⟩:=h;simp only[s];exact⟨dL A,dL w,FQ B,dm C,yl G,hk⟩
    ·simp at h
   ·simp at h
  ·split at h
   ·rename_i hl;simp only[ao,dl,dp,ap]at h;obtain⟨⟨d,j⟩,rfl⟩:=h;simp only[hl];exact⟨d,dm j,hk⟩
   ·simp at h
  ·split at h
   ·simp only[ao,dl,dp,ap]at h;obtain⟨⟨d,j⟩,rfl⟩:=h;exact⟨d,dm j,hk⟩
   ·split at h
    ·rename_i I E s;simp only[ao,dl,dp,ap]at h;obtain⟨⟨d,j,q,A,w,B,C,G,N⟩,rfl⟩:=h;simp only[I,E,s];exact⟨dL d,dL j,dL q,dL A,FQ w,dm B,yl C,dm G,dm N,hk⟩
    ·simp at h
   ·simp at h
  ·split at h
   ·simp only[dp]at h;subst h;exact hk
   ·split at h
    ·rename_i s;simp only[ao,dl,ap]at h;obtain⟨⟨d,j⟩,h⟩:=h;simp only[s];refine⟨dL d,dL j,?_⟩
     split at h
     ·simp only[dl,dp]at h;obtain⟨⟨A,w⟩,rfl⟩:=h;exact .inr ⟨dm A,dm w,hk⟩
     ·rename_i U;simp only[dp]at h;subst h;rename_i k _ _ V _ _;refine .inl ⟨?_,?_,hk⟩<;>(unfold pO at U;split at U<;>simp_all)
    ·simp at h
   ·simp at h
  ·split at h
   ·simp only[ao,dl,dp,ap]at h;obtain⟨⟨d,j⟩,rfl⟩:=h;exact⟨by rw[dL d];rfl,dL j,hk⟩
   ·split at h
    ·rename_i s;simp only[ao,dl,ap]at h;obtain⟨⟨d,j,q,A,w,B,C,G,N,W⟩,h⟩:=h;have ai:=dm w;have aj:=dm C;simp only[s];refine⟨dL d,dL j,dL q,dL A,by simp;omega,by simpa using dm B,by simp;omega,dL G,yG N,dL W,?_⟩;simp only[a8,a9]
     split at h
     ·rename_i hl;simp only[dp]at h;subst h;simp only[hl];exact hk
     ·simp at h
    ·simp at h
   ·simp at h
  ·simp at h
 all_goals simp at h
end
end Go.an
namespace Go.an
variable[Gl]
section
variable(σ:Nat->Nat)
mutual
def cZ:AV->AV
 | .p v=>.p v
 | .ptr b path=>.ptr (σ b) path
 | .ct b ar ak i path=>.ct (σ b) ar ak i path
 | .sl b ar ak off len=>.sl (σ b) ar ak off len
 | .map b=>.map (σ b)
 | .func f fi ca=>.func f (cF fi) (cF ca)
 | .st u fs=>.st u (cF fs)
 | .aD vs=>.aD (cF vs)
def cF:List AV->List AV
 |[]=>[]
 |v::vs=>cZ v::cF vs
end
def vp:Env->Env
 |[]=>[]
 |(x,v)::r=>(x,cZ σ v)::vp r
def du:Obj->Obj
 | .box fz t=>.box fz (cZ σ t)
 | .arr k ar ak es=>.arr k ar ak (cF σ es)
 | .dK ks vs=>.dK ks (cF σ vs)
 | .loop L=>.loop {L with env:=vp σ L.env}
 |o=>o
end
section
variable{σ:Nat->Nat}
theorem EW:∀(e:Env)(x:Nat),aS (vp σ e) x=cZ σ (aS e x)
 |[],_=>rfl
 |(y,v)::r,x=>by
  simp only[vp,aS]
  split
  ·rfl
  ·exact EW r x
theorem uu:∀l:List AV,(cF σ l).length=l.length
 |[]=>rfl
 |_::r=>by simp[cF,uu r]
theorem avh{l:List AV}:cF σ l=[]↔l=[]:=by cases l<;>simp[cF]
theorem pn{k:AK}{a:List AV}:dA k (cF σ a)↔dA k a:=by simp[dA,avh]
theorem Qs{v:AV}:(cZ σ v).tQ↔v.tQ:=by cases v<;>simp[cZ,AV.tQ]
theorem au5{v:AV}:aa (cZ σ v)=aa v:=by cases v<;>rfl
theorem Pg:∀{l:List AV},(∀e∈cF σ l,e.tQ)↔∀e∈l,e.tQ
 |[]=>by simp[cF]
 |v::r=>by simp[cF,Qs,Pg (l:=r)]
theorem sB{o:Obj}:(du σ o).live↔o.live:=by cases o<;>simp[du,Obj.live,pn]
theorem Qx{o:Obj}{v:Nat}:(du σ o).has v↔o.has v:=by cases o<;>simp[du,Obj.has]
theorem av1{o:Obj}:du σ o=.hole↔o=.hole:=by cases o<;>simp[du]
mutual
theorem EB{S:Nat×Nat->Prop}:∀(v:AV),aE S (cZ σ v)↔aE (fun x=>S (σ x.1,x.2)) v
 | .p _=>by simp[cZ,aE]
 | .ptr _ _| .ct _ _ _ _ _| .sl _ _ _ _ _| .map _=>by simp[cZ,aE]
 | .func _ fi ca=>by simp only[cZ,aE];rw[uF fi,uF ca]
 | .st _ fs=>by simp only[cZ,aE];exact uF fs
 | .aD vs=>by simp only[cZ,aE];exact uF vs
theorem uF{S:Nat×Nat->Prop}:∀(l:List AV),aV S (cF σ l)↔aV (fun x=>S (σ x.1,x.2)) l
 |[]=>by simp[cF,aV]
 |v::r=>by simp only[cF,aV];rw[EB v,uF r]
end
theorem asJ{S:Nat×Nat->Prop}{o:Obj}:(du σ o).refs S↔o.refs (fun x=>S (σ x.1,x.2)):=by
 cases o<;>simp only[du,Obj.refs,EB,uF,EW]
theorem Obj.refs.mono{S T:Nat×Nat->Prop}(h:∀x,S x->T x){o:Obj}(a:o.refs S):o.refs T:=by
 cases o with
 |box fz t=>exact aE.mono h _ a
 |arr k ar ak es=>exact aV.mono h _ a
 |dK ks vs=>exact aV.mono h _ a
 |loop L=>exact fun x=>aE.mono h _ (a x)
 |_=>trivial
structure eC(σ:Nat->Nat)(eB:Bd)(H0:Heap)(β:Bd)(H:Heap):Prop where
 obj:∀(b:Nat)(o:Obj),H0[b]?=some o->H[σ b]?=some (du σ o)
 aq:∀b,b<H0.length->β.aq (σ b)=eB.aq b/\β.cap (σ b)=eB.cap b
section
variable{P:a0}{w:a4}{ad:Nat->Prop}{eB β:Bd}{H0 H:Heap}
theorem eC.box(h:eC σ eB H0 β H){b:Nat}(a:b<H0.length):nR H (σ b)↔nR H0 b:=by
 have c:=h.obj b _ (bb a);have d:=bb a;unfold nR;rw[c,d];cases H0[b]<;>simp[du]
theorem eC.it(h:eC σ eB H0 β H){b:Nat}(a:b<H0.length):nS H (σ b)↔nS H0 b:=by
 have c:=h.obj b _ (bb a);have d:=bb a;unfold nS;rw[c,d];cases H0[b]<;>simp[du]
theorem eC.map(h:eC σ eB H0 β H){b:Nat}(a:b<H0.length):pz H (σ b)↔pz H0 b:=by
 have h1:=h.obj b _ (bb a);have c:=bb a;unfold pz;rw[h1,c];cases H0[b]<;>simp[du,Obj.wT]
theorem eC.loop(h:eC σ eB H0 β H){b:Nat}(a:b<H0.length):iF H (σ b)↔iF H0 b:=by
 have c:=h.obj b _ (bb a);have d:=bb a;unfold iF;rw[c,d];cases H0[b]<;>simp[du]
theorem eC.arr(h:eC σ eB H0 β H){b ar ak:Nat}{k:AK}{es:List AV}(a:b<H0.length):fp H (σ b) ar ak k es↔∃iA,fp H0 b ar ak k iA/\es=cF σ iA:=by
 have c:=h.obj b _ (bb a);have d:=bb a;unfold fp;rw[c,d];cases H0[b]<;>simp[du];constructor
 ·rintro⟨rfl,rfl,rfl,rfl⟩;exact⟨_,⟨rfl,rfl,rfl,rfl⟩,rfl⟩
 ·rintro⟨_,⟨rfl,rfl,rfl,rfl⟩,rfl⟩;exact⟨rfl,rfl,rfl,rfl⟩
theorem eC.GC(h:eC σ eB H0 β H){x:Nat×Nat}(a:x.1<H0.length):aL H (σ x.1,x.2)↔aL H0 x:=by
 have b:=h.obj x.1 _ (bb a);have c:=bb a;unfold aL;rw[b,c];simp[Qx]
def Small(n:Nat):Nat×Nat->Prop:=fun x=>x.1<n
theorem eC.rJ(h:eC σ eB H0 β H):∀{a:AV}{v:a3},aE (Small H0.length) a->(b7 P β H (cZ σ a) v↔b7 P eB H0 a v)
 | .p _,_,_| .func _ _ _,_,_| .st _ _,_,_| .aD _,_,_=>by simp[cZ,b7]
 | .ptr b path,v,c=>by
  simp only[aE,Small]at c;simp only[cZ,b7,h.box c,h.it c,(h.aq b c).1]
 | .ct b ar ak i path,v,c=>by
  simp only[aE,Small]at c;simp only[cZ,b7,h.arr c,(h.aq b c).1];constructor
  ·rintro⟨aq,off,o,e,f,g⟩;exact⟨aq,off,o,e,f,fun k d hl l=>g k _ ⟨d,hl,rfl⟩ (by rwa [pn])⟩
  ·rintro⟨aq,off,o,e,f,g⟩;refine⟨aq,off,o,e,f,?_⟩;rintro k _ ⟨d,hl,rfl⟩ l;exact g k d hl (by rwa [pn]at l)
 | .sl b ar ak off len,v,c=>by
  simp only[aE,Small]at c;simp only[cZ,b7,h.arr c,(h.aq b c).1,(h.aq b c).2];constructor
  ·intro j k d hl;have:=j k _ ⟨d,hl,rfl⟩;simpa only[uu,pn]using this
  ·rintro j k _ ⟨d,hl,rfl⟩;have:=j k d hl;simpa only[uu,pn]using this
 | .map b,v,c=>by
  simp only[aE,Small]at c;simp only[cZ,b7,h.map c,h.loop c,(h.aq b c).1]
mutual
theorem eC.QO(h:eC σ eB H0 β H):∀(a:AV)(cs:List a3),aE (Small H0.length) a->(bw P w ad β H (cZ σ a) cs↔bw P w ad eB H0 a cs)
 | .p _,_,_=>by simp[cZ,bw]
 | .aD _,_,_=>by simp[cZ,bw]
 | .st u fs,cs,d=>by
  simp only[aE]at d;simp only[cZ,bw];exact exists_congr fun l=>exists_congr fun e=>and_congr_right fun _=>and_congr_left fun _=>eC.BP h l fs e d
 | .func f fi ca,cs,d=>by
  simp only[aE]at d;simp only[cZ,bw];exact exists_congr fun l=>exists_congr fun e=>and_congr (eC.rp h fi l d.1) (and_congr_left fun _=>eC.rp h ca e d.2)
 | .ptr b path,cs,d=>by
  have:=fun v=>h.rJ (P:=P) (a:=.ptr b path) (v:=v) d;simp only[cZ,bw,bY]at this⊢;simp only[this]
 | .ct b ar ak i path,cs,d=>by
  have:=fun v=>h.rJ (P:=P) (a:=.ct b ar ak i path) (v:=v) d;simp only[cZ,bw,bY]at this⊢;simp only[this]
 | .sl b ar ak off len,cs,d=>by
  have:=fun v=>h.rJ (P:=P) (a:=.sl b ar ak off len) (v:=v) d;simp only[cZ,bw,bY]at this⊢;simp only[this]
 | .map b,cs,d=>by
  have:=fun v=>h.rJ (P:=P) (a:=.map b) (v:=v) d;simp only[cZ,bw,bY]at this⊢;simp only[this]
theorem eC.BP(h:eC σ eB H0 β H):∀(g:List Nat)(l:List AV)(e:List (List a3)),aV (Small H0.length) l->(bX P w ad β H g (cF σ l) e↔bX P w ad eB H0 g l e)
 |[],[],e,_=>by simp[cF,bX]
 |[],_::_,e,_=>by simp[cF,bX]
 |_::_,[],e,_=>by simp[cF,bX]
 |n::g,v::vs,e,d=>by
  simp only[aV]at d;simp only[cF,bX];exact exists_congr fun c=>exists_congr fun cs=>and_congr_right fun _=>and_congr (eC.QO h v c d.1) (and_congr_right fun _=>eC.BP h g vs cs d.2)
theorem eC.F8(h:eC σ eB H0 β H):∀(a:AV)(v:a3),aE (Small H0.length) a->(aA P w ad β H (cZ σ a) v↔aA P w ad eB H0 a v)
 | .p _,_,_=>by simp[cZ,aA]
 | .aD vs,_,d=>by
  simp only[aE]at d;simp only[cZ,aA];exact exists_congr fun l=>and_congr_left fun _=>eC.rp h vs l d
 | .st u fs,cs,d=>by
  simp only[aE]at d;simp only[cZ,aA];exact exists_congr fun l=>exists_congr fun e=>and_congr_right fun _=>and_congr_left fun _=>eC.BP h l fs e d
 | .func f fi ca,cs,d=>by
  simp only[aE]at d;simp only[cZ,aA];exact exists_congr fun l=>exists_congr fun e=>and_congr (eC.rp h fi l d.1) (and_congr_left fun _=>eC.rp h ca e d.2)
 | .ptr b path,v,d=>by
  have:=h.rJ (P:=P) (a:=.ptr b path) (v:=v) d;simp only[cZ,aA,bY]at this⊢;simp only[this]
 | .ct b ar ak i path,v,d=>by
  have:=h.rJ (P:=P) (a:=.ct b ar ak i path) (v:=v) d;simp only[cZ,aA,bY]at this⊢;simp only[this]
 | .sl b ar ak off len,v,d=>by
  have:=h.rJ (P:=P) (a:=.sl b ar ak off len) (v:=v) d;simp only[cZ,aA,bY]at this⊢;simp only[this]
 | .map b,v,d=>by
  have:=h.rJ (P:=P) (a:=.map b) (v:=v) d;simp only[cZ,aA,bY]at this⊢;simp only[this]
theorem eC.rp(h:eC σ eB H0 β H):∀(l:List AV)(vs:List a3),aV (Small H0.length) l->(bC P w ad β H (cF σ l) vs↔bC P w ad eB H0 l vs)
 |[],vs,_=>by simp[cF,bC]
 |a::l,vs,d=>by
  simp only[aV]at d;simp only[cF,bC];exact exists_congr fun y=>exists_congr fun j=>and_congr_right fun _=>and_congr (eC.F8 h a y d.1) (eC.rp h l j d.2)
end
theorem eC.Uq(h:eC σ eB H0 β H){ai Prot0:Nat->Prop}{b:Nat}{o:Obj}(f:H0[b]?=some o)(c:o.refs (Small H0.length))(a:o.live->∀fz,cQ ad eB Prot0 fz b↔cQ ad β ai fz (σ b)):
 fH P w ad β H ai (σ b) (du σ o)↔fH P w ad eB H0 Prot0 b o:=by
 have g:b<H0.length:=(be.1 f).1;obtain⟨k1,k2⟩:=h.aq b g;cases o with
 |hole=>simp[du,fH]
 |dead=>simp[du,fH]
 |box fz t=>
  simp only[du,fH,k1,<-a trivial,h.QO t _ c,Qs,au5]
 |arr k ar ak es=>
  simp only[du,fH,k1,k2,pn,uu,Pg]
  by_cases e:dA k es
  ·simp[e]
  ·simp only[e,false_or,<-a e,h.BP _ es _ c]
 |map fz es=>
  simp only[du,fH,k1,<-a trivial]
 |dK ks vs=>
  simp only[du,fH,k1,<-a trivial,h.rp vs _ c]
 |dO s pos=>
  simp only[du,fH,k1,<-a trivial]
 |loop L=>
  simp only[du,fH,k1,<-a trivial,EW];exact exists_congr fun t=>exists_congr fun d=>exists_congr fun fn=>and_congr_right fun _=>and_congr_right fun _=>and_congr_left fun _=>forall_congr' fun x=>h.F8 _ _ (c x)
end
end
end Go.an
namespace Go.an
variable[Gl]
def sig(bs:List Nat)(a i:Nat):Nat:=match bs[i]? with
 |some b=>b
 |none=>a+(i-bs.length)
theorem uS{bs:List Nat}{a i:Nat}(h:i<bs.length):sig bs a i=bs[i]:=by simp[sig,h]
theorem uT{bs:List Nat}{a i:Nat}(h:bs.length<=i):sig bs a i=a+(i-bs.length):=by simp[sig,h]
theorem aQm{bs:List Nat}{a:Nat}(e:bs.Nodup)(d:∀b∈bs,b<a){i j:Nat}(h:sig bs a i=sig bs a j):i=j:=by
 by_cases hi:i<bs.length<;>by_cases c:j<bs.length
 ·rw[uS hi,uS c]at h;exact(List.getElem_inj e).1 h
 ·rw[uS hi,uT o_]at h;have:=d _ (cb hi);omega
 ·rw[uT o_,uS c]at h;have:=d _ (cb c);omega
 ·rw[uT o_,uT o_]at h;omega
theorem DV:∀{l:List (Nat×Obj)}{H:Heap}{x:Nat},(∀p∈l,p.1≠x)->(ba H l)[x]?=H[x]?
 |[],_,_,_=>rfl
 |(b,o)::r,H,x,h=>by
  simp only[ba];rw[DV (fun p a=>h p (by simp[a])),List.getElem?_set_ne (h (b,o) s_)]
theorem En:∀{l:List (Nat×Obj)}{H:Heap},(l.map (·.1)).Nodup->∀p∈l,p.1<H.length->(ba H l)[p.1]?=some p.2
 |[],_,_,_,h,_=>by simp at h
 |(b,o)::r,H,a,p,c,hl=>by
  simp only[br,cc]at a;simp only[ba];rcases bk.1 c with rfl|c
  ·rw[DV (fun q hq d=>a.1 (bo.2 ⟨q,hq,d⟩)),List.getElem?_set_self hl]
  ·exact En a.2 p c (by simpa using hl)
theorem Ei(a:Nat):∀(l:List Obj),(newAt a l).map (·.1)=List.range' a l.length
 |[]=>rfl
 |o::r=>by simp[newAt,Ei (a+1) r,List.range'_succ]
theorem Ng:∀(l:List Obj)(a j:Nat)(h:j<l.length),(a+j,l[j])∈newAt a l
 |[],_,_,h=>by simp at h
 |o::r,a,0,h=>by simp[newAt]
 |o::r,a,j+1,h=>by
  have:=Ng r (a+1) j (by simpa using h);simp only[newAt,List.getElem_cons_succ,bk];right;have e:a+(j+1)=a+1+j:=o_
  rw[e];exact this
section
variable{P:a0}{w w':a4}{ad aF ai:Nat->Prop}{β aO:Bd}{H H':Heap}
theorem fH.mut{b:Nat}{o:Obj}(h:fH P w ad β H ai b o)(hl:o.live)(j:¬ad (β.aq b)):¬ai (β.aq b):=by
 have held:∀{fz},cQ ad β ai fz b->¬ai (β.aq b):=by
  intro fz f;cases fz with
  |true=>exact(j (by simpa[cQ]using f)).elim
  |false=>
   have:¬ad (β.aq b)/\¬ai (β.aq b):=by simpa[cQ]using f
   exact this.2
 cases o with
 |hole=>exact hl.elim
 |dead=>exact hl.elim
 |box fz t=>
  obtain⟨cs,T,c,d,a,e⟩:=h;exact held a
 |arr k ar ak es=>
  rcases h with h|⟨cs,T,l,rest,c,d,a,e,m,n,i,p⟩
  ·exact(hl h).elim
  ·exact held i
 |map fz es=>
  obtain⟨g,clock,c,d,a⟩:=h;exact held a
 |dK ks vs=>
  obtain⟨g,clock,c,d,a,e⟩:=h;exact held e
 |dO s pos=>
  obtain⟨bs,c,d,a⟩:=h;exact held a
 |loop L=>
  obtain⟨tmps,defers,fn,c,d,a,e⟩:=h;exact held e
theorem fH.carry(hi:∀k,ad k->aF k)(hs:∀k,ad k->w'.heap[k]?=w.heap[k]?)(aN:cM β H aO H'){b:Nat}{o:Obj}(l:o.refs (aL H))
 (j:o.live->w'.heap[β.aq b]?=w.heap[β.aq b]?/\aO.aq b=β.aq b/\aO.cap b=β.cap b)(held:o.live->∀fz,cQ ad β ai fz b->cQ aF aO ai fz b)(h:fH P w ad β H ai b o):fH P w' aF aO H' ai b o:=by
 cases o with
 |hole=>trivial
 |dead=>trivial
 |box fz t=>
  obtain⟨cs,T,d,e,f,i⟩:=h;obtain⟨a,c,g⟩:=j trivial;exact⟨cs,T,by rw[c,a];exact d,bw.mono hi hs aN _ _ l e,held trivial _ f,i⟩
 |arr k ar ak es=>
  rcases h with h|⟨cs,T,n,rest,d,e,f,i,p,q,r,u⟩
  ·exact .inl h
  ·by_cases hl:dA k es
   ·exact .inl hl
   ·obtain⟨a,c,g⟩:=j hl;exact .inr ⟨cs,T,n,rest,by rw[c,a];exact d,bX.mono hi hs aN _ _ _ l e,f,by rw[g];exact i,by rw[g];exact p,by rw[g];exact q,held hl _ r,u⟩
 |map fz es=>
  obtain⟨m,clock,d,e,f⟩:=h;obtain⟨a,c,g⟩:=j trivial;exact⟨m,clock,by rw[c,a];exact d,cR.mono hi hs _ _ e,held trivial _ f⟩
 |dK ks vs=>
  obtain⟨m,clock,d,e,f,i⟩:=h;obtain⟨a,c,g⟩:=j trivial;exact⟨m,clock,by rw[c,a];exact d,bu.mono hi hs _ _ e,bC.mono hi hs aN _ _ l f,held trivial _ i⟩
 |dO s pos=>
  obtain⟨bs,d,e,f⟩:=h;obtain⟨a,c,g⟩:=j trivial;exact⟨bs,by rw[c,a];exact d,e,held trivial _ f⟩
 |loop L=>
  obtain⟨tmps,defers,fn,d,e,f,i⟩:=h;obtain⟨a,c,g⟩:=j trivial;exact⟨tmps,defers,fn,by rw[c,a];exact d,e,fun x=>aA.mono hi hs aN _ _ (l x) (f x),held trivial _ i⟩
def dT(bs:List Nat)(a:Nat)(H0 ch:Heap)(b:AV):aZ:=
 {v:=cZ (sig bs a) b,al:=bs.zip (H0.map (du (sig bs a))),aM:=bs.zip ((ch.take H0.length).map (du (sig bs a))),aX:=(ch.drop H0.length).map (du (sig bs a))}
open Classical in
theorem MR{H0 ch:Heap}{ga:List AV}{v0:AV}(bs:List Nat)(base:Nat)(hlen:bs.length=H0.length)(hnd:bs.Nodup)(hlt:∀b∈bs,b<base)
 (hl:H0.length<=ch.length)(ha:aV (aL H0) ga)(ho:∀(b:Nat)(o:Obj),H0[b]?=some o->o.refs (aL H0))
 {H:Heap}{w:a4}{ad ai:Nat->Prop}{β:Bd}{cargs:List a3}(hr:cm P w ad β H ai)(hargs:bC P w ad β H (cF (sig bs base) ga) cargs)
 (al:∀p∈(dT bs base H0 ch v0).al,H[p.1]?=some p.2)(aX:∀i,i<(dT bs base H0 ch v0).aX.length->H[base+i]?=some .hole):
 ∃(eB:Bd)(Prot0:Nat->Prop),(∀b,eB.aq b=β.aq (sig bs base b))/\cm P w ad eB H0 Prot0/\bC P w ad eB H0 ga cargs/\(∀b,b<H0.length->(iF H (sig bs base b)↔iF H0 b))/\
  ∀(cv:a3)(w':a4)(β0':Bd)(aF:Nat->Prop),cj P Prot0 ad w eB H0 aF w' β0' ch->aA P w' aF β0' ch v0 cv->aE (aL ch) v0->
   ∃aO,cj P ai ad w β H aF w' aO (ba H ((dT bs base H0 ch v0).aM++newAt base (dT bs base H0 ch v0).aX))/\
    aA P w' aF aO (ba H ((dT bs base H0 ch v0).aM++newAt base (dT bs base H0 ch v0).aX)) (dT bs base H0 ch v0).v cv/\
    aE (aL (ba H ((dT bs base H0 ch v0).aM++newAt base (dT bs base H0 ch v0).aX))) (dT bs base H0 ch v0).v:=by
 obtain⟨σ,hσ⟩:∃σ,σ=sig bs base:=⟨_,rfl⟩
 have hinj:∀{i j},σ i=σ j->i=j:=fun{i j} h=>aQm hnd hlt (by rw[hσ]at h;exact h);have hold:∀{i}(hi:i<H0.length),σ i=bs[i]' o_:=fun hi=>by rw[hσ];exact uS _
 have hnw:∀{i},H0.length<=i->σ i=base+(i-H0.length):=fun hi=>by rw[hσ,uT o_,hlen]
 have hget:∀(b:Nat)(o:Obj),H0[b]?=some o->H[σ b]?=some (du σ o):=by
  intro b o hb;obtain⟨hbl,rfl⟩:=be.1 hb;have:=al (bs[b]' o_,du (sig bs base) H0[b]) (by
   simp only[dT];rw[bl];exact⟨b,by simp;omega,s_⟩)
  rw[hold hbl,hσ];exact this
 have hnewH:∀i,H0.length<=i->i<ch.length->H[σ i]?=some .hole:=by
  intro i h1 h2;rw[hnw h1];exact aX (i-H0.length) (by simp[dT];omega)
 obtain⟨H2,hH2⟩:∃H2,H2=ba H ((dT bs base H0 ch v0).aM++newAt base (dT bs base H0 ch v0).aX):=⟨_,rfl⟩
 have hkeys:∀p∈(dT bs base H0 ch v0).aM++newAt base (dT bs base H0 ch v0).aX,∃i,i<ch.length/\p.1=σ i:=by
  intro p hp;rcases ce.1 hp with hp|hp
  ·simp only[dT]at hp;have hm:=(b1 hp).1;obtain⟨i,hi,he⟩:=bl.1 hm;exact⟨i,o_,by rw[hold o_];exact he.symm⟩
  ·have hm:p.1∈(newAt base (dT bs base H0 ch v0).aX).map (·.1):=List.mem_map_of_mem hp
   rw[Ei,b5]at hm;simp only[dT,List.length_map,List.length_drop]at hm;exact⟨H0.length+(p.1-base),o_,by rw[hnw o_];omega⟩
 have hndk:(((dT bs base H0 ch v0).aM++newAt base (dT bs base H0 ch v0).aX).map (·.1)).Nodup:=by
  rw[cr,Ei];have e:(dT bs base H0 ch v0).aM.map (·.1)=bs:=by
   simp only[dT];rw[List.map_fst_zip];simp;omega
  rw[e,List.nodup_append];refine⟨hnd,List.nodup_range',fun a h1 b h2 he=>?_⟩;subst he;have:=hlt _ h1;rw[b5]at h2;omega
 have hA:∀(i:Nat)(o:Obj),ch[i]?=some o->H2[σ i]?=some (du σ o):=by
  intro i o hi;obtain⟨hil,rfl⟩:=be.1 hi
  by_cases hi0:i<H0.length
  ·have hm:(bs[i]' o_,du (sig bs base) ch[i])∈(dT bs base H0 ch v0).aM++newAt base (dT bs base H0 ch v0).aX:=by
    refine List.mem_append_left _ ?_;simp only[dT];rw[bl];exact⟨i,by simp;omega,s_⟩
   have:=En (H:=H) hndk _ hm (by
    have:=hget i _ (bb hi0);rw[hold hi0]at this;exact(be.1 this).1)
   rw[hH2,hold hi0,this,hσ]
  ·have hm:(base+(i-H0.length),du (sig bs base) ch[i])∈(dT bs base H0 ch v0).aM++newAt base (dT bs base H0 ch v0).aX:=by
    refine List.mem_append_right _ ?_;have:=Ng (dT bs base H0 ch v0).aX base (i-H0.length) (by simp[dT];omega);have e:(dT bs base H0 ch v0).aX[i-H0.length]'(by simp[dT];omega)=du (sig bs base) ch[i]:=by
     simp only[dT,List.getElem_map,List.getElem_drop];congr 2;omega
    rw[e]at this;exact this
   have:=En (H:=H) hndk _ hm (by
    have:=hnewH i o_ hil;rw[hnw o_]at this;exact(be.1 this).1)
   rw[hH2,hnw o_,this,hσ]
 have hB:∀x,(∀i,i<ch.length->σ i≠x)->H2[x]?=H[x]?:=by
  intro x hx;rw[hH2];refine DV fun p hp=>?_;obtain⟨i,h1,h2⟩:=hkeys p hp;rw[h2];exact hx i h1
 let eB:Bd:=⟨fun b=>β.aq (σ b),fun b=>β.cap (σ b)⟩
 let Prot0:Nat->Prop:=fun k=>ai k\/∃x o,H[x]?=some o/\o.live/\(∀i,i<H0.length->σ i≠x)/\β.aq x=k
 have hemb:eC σ eB H0 β H:=⟨hget,fun b _=>⟨rfl,rfl⟩⟩
 have small:∀x:Nat×Nat,aL H0 x->Small H0.length x:=fun x⟨o,ho,_⟩=>(be.1 ho).1;have held0:∀{b:Nat}{o:Obj},H0[b]?=some o->o.live->∀fz,cQ ad eB Prot0 fz b↔cQ ad β ai fz (σ b):=by
  intro b o hb hlv fz;cases fz with
  |true=>simp[cQ,eB]
  |false=>
   simp only[cQ,av,if_false];refine and_congr_right fun hni=>⟨fun h hp=>h (.inl hp),fun h hp=>?_⟩
   rcases hp with hp|⟨x,o',h1,h2,h3,h4⟩
   ·exact h hp
   ·exact h3 b (be.1 hb).1 (hr.inj _ _ _ _ (hget b o hb) h1 (sB.2 hlv) h2 hni h4.symm)
 have hr0:cm P w ad eB H0 Prot0:=by
  refine⟨fun b o hb=>?_,fun b b' o o' h1 h2 l1 l2 hni he=>?_,ho,hr.cd,fun k hk=>?_,hr.jG⟩
  ·exact(hemb.Uq hb ((ho b o hb).mono small) (held0 hb)).1 (hr.cX _ _ (hget b o hb))
  ·exact hinj (hr.inj _ _ _ _ (hget b o h1) (hget b' o' h2) (sB.2 l1) (sB.2 l2) hni he)
  ·rcases hk with hk|⟨x,o,h1,h2,_,rfl⟩
   ·exact hr.fe k hk
   ·exact hr.pq h1 h2
 have hargs0:bC P w ad eB H0 ga cargs:=by
  rw[<-hσ]at hargs;exact(hemb.rp _ _ (aV.mono small _ ha)).1 hargs
 refine⟨eB,Prot0,fun b=>by rw[<-hσ],hr0,hargs0,fun b hb=>by rw[<-hσ];exact hemb.loop hb,fun cv w' β0' aF hp hv hvr=>?_⟩
 let aO:Bd:=⟨fun x=>if h:∃i,i<ch.length/\σ i=x then β0'.aq h.choose else β.aq x,fun x=>if h:∃i,i<ch.length/\σ i=x then β0'.cap h.choose else β.cap x⟩
 have hβ:∀i,i<ch.length->aO.aq (σ i)=β0'.aq i/\aO.cap (σ i)=β0'.cap i:=by
  intro i hi;have hex:∃j,j<ch.length/\σ j=σ i:=⟨i,hi,rfl⟩
  have hc:hex.choose=i:=hinj hex.choose_spec.2;simp only[aO,dif_pos hex,hc,and_self]
 have hβn:∀x,(∀i,i<ch.length->σ i≠x)->aO.aq x=β.aq x/\aO.cap x=β.cap x:=by
  intro x hx;have hnex:¬∃i,i<ch.length/\σ i=x:=fun⟨i,h1,h2⟩=>hx i h1 h2;simp only[aO,dif_neg hnex,and_self]
 have hemb':eC σ β0' ch aO H2:=⟨hA,fun b hb=>hβ b hb⟩
 have small':∀x:Nat×Nat,aL ch x->Small ch.length x:=fun x⟨o,ho,_⟩=>(be.1 ho).1;have split:∀x,(∃i,i<ch.length/\σ i=x)\/∀i,i<ch.length->σ i≠x:=by
  intro x
  by_cases hx:∃i,i<ch.length/\σ i=x
  ·exact .inl hx
  ·exact .inr fun i h1 h2=>hx ⟨i,h1,h2⟩
 have inOld:∀{i v},i<ch.length->aL H (σ i,v)->aL H0 (i,v)/\i<H0.length:=by
  intro i v hi ⟨o,h1,h2⟩
  by_cases hi0:i<H0.length
  ·refine⟨?_,hi0⟩;have:=hget i _ (bb hi0);simp only at h1;rw[this]at h1;cases h1;exact⟨_,bb hi0,Qx.1 h2⟩
  ·have:=hnewH i o_ hi;simp only at h1;rw[this]at h1;cases h1;exact h2.elim
 have iM:cM β H aO H2:=by
  refine⟨?_,?_,?_,?_,?_⟩
  ·intro b hb hlv;rcases split b with⟨i,hi,rfl⟩|hx
   ·obtain⟨k1,k2⟩:=inOld hi hb;obtain⟨g1,g2⟩:=hp.step.box i k1 ((hemb'.box hi).1 hlv);exact⟨(hemb.box k2).2 g1,(hβ i hi).1.trans g2⟩
   ·unfold nR at hlv⊢;rw[hB b hx]at hlv;exact⟨hlv,(hβn b hx).1⟩
  ·intro b hb hlv;rcases split b with⟨i,hi,rfl⟩|hx
   ·obtain⟨k1,k2⟩:=inOld hi hb;obtain⟨g1,g2⟩:=hp.step.it i k1 ((hemb'.it hi).1 hlv);exact⟨(hemb.it k2).2 g1,(hβ i hi).1.trans g2⟩
   ·unfold nS at hlv⊢;rw[hB b hx]at hlv;exact⟨hlv,(hβn b hx).1⟩
  ·intro b hb hlv;rcases split b with⟨i,hi,rfl⟩|hx
   ·obtain⟨k1,k2⟩:=inOld hi hb;obtain⟨g1,g2⟩:=hp.step.map i k1 ((hemb'.map hi).1 hlv);exact⟨(hemb.map k2).2 g1,(hβ i hi).1.trans g2⟩
   ·unfold pz at hlv⊢;rw[hB b hx]at hlv;exact⟨hlv,(hβn b hx).1⟩
  ·intro b ar ak k es hb hlv;rcases split b with⟨i,hi,rfl⟩|hx
   ·obtain⟨k1,k2⟩:=inOld hi hb;obtain⟨iA,g0,rfl⟩:=(hemb'.arr hi).1 hlv;obtain⟨k0,es1,g1,g2,g3,g4⟩:=hp.step.arr i ar ak k iA k1 g0;refine⟨k0,cF σ es1,(hemb.arr k2).2 ⟨_,g1,rfl⟩,by rw[uu,uu];exact g2,by rw[pn,pn];exact g3,fun hn=>?_⟩;rw[pn]at hn;rw[(hβ i hi).1,(hβ i hi).2];exact g4 hn
   ·unfold fp at hlv⊢;rw[hB b hx]at hlv;exact⟨k,es,hlv,c8 _,Iff.rfl,fun _=>hβn b hx⟩
  ·intro b hb hlv;rcases split b with⟨i,hi,rfl⟩|hx
   ·obtain⟨k1,k2⟩:=inOld hi hb;obtain⟨g1,g2⟩:=hp.step.loop i k1 ((hemb'.loop hi).1 hlv);exact⟨(hemb.loop k2).2 g1,(hβ i hi).1.trans g2⟩
   ·unfold iF at hlv⊢;rw[hB b hx]at hlv;exact⟨hlv,(hβn b hx).1⟩
 have hinn:∀x,aL H x->aL H2 x:=by
  rintro⟨b,v⟩ hb;rcases split b with⟨i,hi,rfl⟩|hx
  ·obtain⟨k1,_⟩:=inOld hi hb;exact(hemb'.GC (x:=(i,v)) hi).2 (hp.gh _ k1)
  ·obtain⟨o,h1,h2⟩:=hb;exact⟨o,by simp only;rw[hB b hx];exact h1,h2⟩
 have prot0:∀{x:Nat}{o:Obj},(∀i,i<ch.length->σ i≠x)->H[x]?=some o->o.live->Prot0 (β.aq x):=by
  intro x o hx h1 h2;exact .inr ⟨x,o,h1,h2,fun i hi=>hx i o_,rfl⟩
 have mut':∀{i:Nat}{o:Obj},ch[i]?=some o->o.live->¬aF (β0'.aq i)->¬Prot0 (β0'.aq i):=by
  intro i o h1 h2 h3;exact(hp.rel.cX i o h1).mut h2 h3
 have hrel:cm P w' aF aO H2 ai:=by
  refine⟨fun x o hx=>?_,fun x x' o o' h1 h2 l1 l2 hni he=>?_,fun x o hx=>?_,hp.rel.cd,fun k hk=>hp.rel.fe k (.inl hk),hp.rel.jG⟩
  ·rcases split x with⟨i,hi,rfl⟩|hn
   ·have hg:=hA i _ (bb hi);rw[hg]at hx;cases hx;refine(hemb'.Uq (Prot0:=Prot0) (bb hi) ((hp.rel.refs i _ (bb hi)).mono small') (fun hlv fz=>?_)).2 (hp.rel.cX i _ (bb hi));cases fz with
    |true=>simp[cQ,(hβ i hi).1]
    |false=>
     simp only[cQ,av,if_false,(hβ i hi).1];exact⟨fun h=>⟨h.1,fun hp=>h.2 (.inl hp)⟩,fun h=>⟨h.1,mut' (bb hi) hlv h.1⟩⟩
   ·rw[hB x hn]at hx;refine fH.carry hp.cd (fun k hk=>hp.ext.same k (.inr hk)) iM (hr.refs x o hx) (fun hlv=>⟨hp.ext.same _ (.inl (prot0 hn hx hlv)),hβn x hn⟩) (fun hlv fz hh=>?_) (hr.cX x o hx);have hp0:=prot0 hn hx hlv;cases fz with
    |true=>
     simp only[cQ,if_true]at hh⊢;rw[(hβn x hn).1];exact hp.cd _ hh
    |false=>
     simp only[cQ,av,if_false]at hh⊢;rw[(hβn x hn).1];exact⟨fun hi=>(hp.fresh _ hi).elim hh.1 (fun h=>h hp0),hh.2⟩
  ·rcases split x with⟨i,hi,rfl⟩|hn<;>rcases split x' with⟨j,hj,rfl⟩|hn'
   ·have g1:=hA i _ (bb hi);have g2:=hA j _ (bb hj);rw[g1]at h1;cases h1;rw[g2]at h2;cases h2;rw[(hβ i hi).1,(hβ j hj).1]at he;rw[(hβ i hi).1]at hni;rw[hp.rel.inj i j _ _ (bb hi) (bb hj) (sB.1 l1) (sB.1 l2) hni he]
   ·have g1:=hA i _ (bb hi);rw[g1]at h1;cases h1;rw[hB x' hn']at h2;rw[(hβ i hi).1,(hβn x' hn').1]at he;rw[(hβ i hi).1]at hni;exact(mut' (bb hi) (sB.1 l1) hni (he▸prot0 hn' h2 l2)).elim
   ·have g2:=hA j _ (bb hj);rw[g2]at h2;cases h2;rw[hB x hn]at h1;rw[(hβ j hj).1,(hβn x hn).1]at he;rw[(hβn x hn).1]at hni;exact(mut' (bb hj) (sB.1 l2) (he▸hni) (he▸prot0 hn h1 l1)).elim
   ·rw[hB x hn]at h1;rw[hB x' hn']at h2;rw[(hβn x hn).1,(hβn x' hn').1]at he;rw[(hβn x hn).1]at hni;exact hr.inj _ _ _ _ h1 h2 l1 l2 (fun hi=>hni (hp.cd _ hi)) he
  ·rcases split x with⟨i,hi,rfl⟩|hn
   ·have hg:=hA i _ (bb hi);rw[hg]at hx;cases hx;rw[asJ];exact(hp.rel.refs i _ (bb hi)).mono (fun y hy=>(hemb'.GC (small' y hy)).2 hy)
   ·rw[hB x hn]at hx;exact(hr.refs x o hx).mono hinn
 refine⟨aO,?_,?_,?_⟩
 ·rw[<-hH2];refine⟨hp.cd,fun k hk=>(hp.fresh k hk).imp id (fun h h'=>h (.inl h')),⟨hp.ext.size,fun k hk=>hp.ext.same k (hk.imp .inl id),hp.ext.io⟩,iM,hrel,hinn,fun b hb=>?_⟩;rcases split b with⟨i,hi,rfl⟩|hx
  ·by_cases hi0:i<H0.length
   ·exact(hemb'.loop hi).2 (hp.loop i ((hemb.loop hi0).1 hb))
   ·obtain⟨L,hL⟩:=hb;rw[hnewH i o_ hi]at hL;cases hL
  ·unfold iF at hb⊢;rw[hB b hx];exact hb
 ·rw[<-hH2];show aA P w' aF aO H2 (cZ (sig bs base) v0) cv;rw[<-hσ];exact(hemb'.F8 _ _ (aE.mono small' _ hvr)).2 hv
 ·rw[<-hH2];show aE (aL H2) (cZ (sig bs base) v0);rw[<-hσ,EB];exact aE.mono (fun y hy=>(hemb'.GC (small' y hy)).2 hy) _ hvr
theorem b8.frame{f:aT}{H0 ch:Heap}{ga:List AV}{g:AV}(h:b8 P f H0 ga ch g)(bs:List Nat)(a:Nat)(q:bs.length=H0.length)(s:bs.Nodup)(r:∀b∈bs,b<a)
 (hl:H0.length<=ch.length)(d:aV (aL H0) ga)(t:∀(b:Nat)(o:Obj),H0[b]?=some o->o.refs (aL H0)):
 tK P f (cF (sig bs a) ga) a (dT bs a H0 ch g):=by
 refine⟨h.1,fun H w ad ai β m v n _ al aX=>?_⟩;obtain⟨eB,i,-,x,p,-,back⟩:=MR bs a q s r hl d t v n al aX;refine(h.2 w ad i eB m x p d).mono ?_;rintro e w' ⟨c,A,aF,rfl,u,y,z⟩;obtain⟨aO,j,k,l⟩:=back c w' A aF u y z;exact⟨c,aO,aF,rfl,j,k,l⟩
theorem gX.frame{b:Nat}{H0 ch:Heap}{ga:List AV}{i:AV}(h:gX P b H0 ga ch i)(bs:List Nat)(a:Nat)(v:bs.length=H0.length)(z:bs.Nodup)(y:∀b∈bs,b<a)
 (hl:H0.length<=ch.length)(g:aV (aL H0) ga)(A:∀(b:Nat)(o:Obj),H0[b]?=some o->o.refs (aL H0)):
 vk P (sig bs a b) (cF (sig bs a) ga) a (dT bs a H0 ch i):=by
 intro H w ad ai β p C r _ al aX;obtain⟨eB,j,t,D,s,x,back⟩:=MR bs a v z y hl g A C r al aX;have u:b<H0.length:=by
  obtain⟨L,q⟩:=h.1;exact(be.1 q).1
 refine⟨(x b u).2 h.1,?_⟩;obtain⟨f,tmps,assign,body,d,e⟩:=h.2 w ad j eB p D s g;rw[t]at d e;refine⟨f,tmps,assign,body,d,fun n G=>?_⟩;obtain⟨c,w',I,aF,g1,B,E,F⟩:=e n G;obtain⟨aO,k,l,m⟩:=back c w' I aF B E F;exact⟨c,w',aO,aF,g1,k,l,m⟩
end
end Go.an
namespace Go.an
variable[Gl]
def lR(b:Nat):List Nat->Nat->Option Nat
 |[],_=>none
 |x::r,i=>bif c7 x b then some i else lR b r (i+1)
theorem Pk{b:Nat}:∀{l:List Nat}{i j:Nat},lR b l i=some j->i<=j/\l[j-i]?=some b
 |[],_,_,h=>by simp[lR]at h
 |x::r,i,j,h=>by
  simp only[lR]at h;cases a:c7 x b
  ·simp only[a,cond_false]at h;obtain⟨d,c⟩:=Pk h;refine⟨o_,?_⟩;have e:j-i=(j-(i+1))+1:=by omega
   rw[e,List.getElem?_cons_succ];exact c
  ·simp only[a,cond_true,dp]at h;subst h;simp[dL a]
section
variable(bs:List Nat)
mutual
def mZ:AV->Option AV
 | .p v=>some (.p v)
 | .ptr b path=>match lR b bs 0 with
  |some i=>some (.ptr i path)
  |none=>none
 | .ct b ar ak i path=>match lR b bs 0 with
  |some j=>some (.ct j ar ak i path)
  |none=>none
 | .sl b ar ak off len=>match lR b bs 0 with
  |some j=>some (.sl j ar ak off len)
  |none=>none
 | .map b=>match lR b bs 0 with
  |some j=>some (.map j)
  |none=>none
 | .func f fi ca=>match mU fi,mU ca with
  |some a,some b=>some (.func f a b)
  |_,_=>none
 | .st u fs=>match mU fs with
  |some a=>some (.st u a)
  |none=>none
 | .aD vs=>match mU vs with
  |some a=>some (.aD a)
  |none=>none
def mU:List AV->Option (List AV)
 |[]=>some []
 |v::r=>match mZ v,mU r with
  |some a,some b=>some (a::b)
  |_,_=>none
end
def FF:Obj->Option Obj
 | .box fz t=>match mZ bs t with
  |some a=>some (.box fz a)
  |none=>none
 | .arr k ar ak es=>match mU bs es with
  |some a=>some (.arr k ar ak a)
  |none=>none
 | .map fz es=>some (.map fz es)
 | .dK ks vs=>match mU bs vs with
  |some a=>some (.dK ks a)
  |none=>none
 | .dO s n=>some (.dO s n)
 | .dead=>some .dead
 |_=>none
def yf(H:Heap):List Nat->Option Heap
 |[]=>some []
 |b::r=>match H[b]? with
  |some o=>match FF bs o,yf H r with
   |some a,some t=>some (a::t)
   |_,_=>none
  |none=>none
end
section
variable{bs:List Nat}{base:Nat}
theorem A2{b i:Nat}(h:lR b bs 0=some i):sig bs base i=b:=by
 have:=(Pk h).2;simp only[Nat.sub_zero]at this;simp[sig,this]
mutual
theorem Oj:∀{a c:AV},mZ bs a=some c->cZ (sig bs base) c=a
 | .p v,c,h=>by simp only[mZ,dp]at h;subst h;rfl
 | .ptr b path,c,h=>by
  simp only[mZ]at h
  split at h
  ·rename_i i hi;simp only[dp]at h;subst h;simp only[cZ,A2 hi]
  ·simp at h
 | .ct b ar ak i path,c,h=>by
  simp only[mZ]at h
  split at h
  ·rename_i i hi;simp only[dp]at h;subst h;simp only[cZ,A2 hi]
  ·simp at h
 | .sl b ar ak off len,c,h=>by
  simp only[mZ]at h
  split at h
  ·rename_i i hi;simp only[dp]at h;subst h;simp only[cZ,A2 hi]
  ·simp at h
 | .map b,c,h=>by
  simp only[mZ]at h
  split at h
  ·rename_i i hi;simp only[dp]at h;subst h;simp only[cZ,A2 hi]
  ·simp at h
 | .func f fi ca,c,h=>by
  simp only[mZ]at h
  split at h
  ·rename_i a b d g;simp only[dp]at h;subst h;simp only[cZ,qt d,qt g]
  ·simp at h
 | .st u fs,c,h=>by
  simp only[mZ]at h
  split at h
  ·rename_i a d;simp only[dp]at h;subst h;simp only[cZ,qt d]
  ·simp at h
 | .aD vs,c,h=>by
  simp only[mZ]at h
  split at h
  ·rename_i a d;simp only[dp]at h;subst h;simp only[cZ,qt d]
  ·simp at h
theorem qt:∀{l e:List AV},mU bs l=some e->cF (sig bs base) e=l
 |[],e,h=>by simp only[mU,dp]at h;subst h;rfl
 |v::r,e,h=>by
  simp only[mU]at h
  split at h
  ·rename_i a b d g;simp only[dp]at h;subst h;simp only[cF,Oj d,qt g]
  ·simp at h
end
theorem ZP{o c:Obj}(h:FF bs o=some c):du (sig bs base) c=o:=by
 cases o<;>simp only[FF]at h
 case box fz t=>
  split at h
  ·rename_i a b;simp only[dp]at h;subst h;simp only[du,Oj b]
  ·simp at h
 case arr k ar ak es=>
  split at h
  ·rename_i a b;simp only[dp]at h;subst h;simp only[du,qt b]
  ·simp at h
 case dK ks vs=>
  split at h
  ·rename_i a b;simp only[dp]at h;subst h;simp only[du,qt b]
  ·simp at h
 case hole=>simp at h
 case loop=>simp at h
 all_goals (simp only[dp]at h;subst h;rfl)
theorem MU{H:Heap}:∀{l:List Nat}{H0:Heap},yf bs H l=some H0->H0.length=l.length/\∀p∈l.zip (H0.map (du (sig bs base))),H[p.1]?=some p.2
 |[],H0,h=>by simp only[yf,dp]at h;subst h;simp
 |b::r,H0,h=>by
  simp only[yf]at h
  split at h
  case h_2=>simp at h
  rename_i o f
  split at h
  case h_2=>simp at h
  rename_i a t d e;simp only[dp]at h;subst h;obtain⟨i1,i2⟩:=MU e;refine⟨by simp[i1],fun p c=>?_⟩;simp only[br,List.zip_cons_cons,bk]at c;rcases c with rfl|c
  ·simp only[ZP d];exact f
  ·exact i2 p c
end
mutual
def Tj:AV->List Nat->List Nat
 | .p _,acc=>acc
 | .ptr b _,acc| .ct b _ _ _ _,acc| .sl b _ _ _ _,acc| .map b,acc=>b::acc
 | .func _ fi ca,acc=>vQ fi (vQ ca acc)
 | .st _ fs,acc| .aD fs,acc=>vQ fs acc
def vQ:List AV->List Nat->List Nat
 |[],acc=>acc
 |v::r,acc=>Tj v (vQ r acc)
end
def aLr:Obj->List Nat
 | .box _ t=>Tj t []
 | .arr _ _ _ es=>vQ es []
 |_=>[]
def FT(H:Heap):Nat->List Nat->List Nat->List Nat
 |0,_,acc=>acc
 |_,[],acc=>acc
 |n+1,b::r,acc=>match lR b acc 0 with
  |some _=>FT H n r acc
  |none=>FT H n (match H[b]? with
   |some o=>aLr o++r
   |none=>r) (b::acc)
def nodupB:List Nat->Bool
 |[]=>true
 |x::r=>(match lR x r 0 with
  |some _=>false
  |none=>true)&&nodupB r
theorem M5{b:Nat}:∀{l:List Nat}{i:Nat},lR b l i=none->b∉l
 |[],_,_=>by simp
 |x::r,i,h=>by
  simp only[lR]at h;cases a:c7 x b
  ·simp only[a,cond_false]at h;have:=M5 h;simp only[bk,not_or];refine⟨fun e=>?_,this⟩;subst e;rw[da]at a;cases a
  ·simp[a]at h
theorem Nc:∀{l:List Nat},nodupB l=true->l.Nodup
 |[],_=>cx
 |x::r,h=>by
  simp only[nodupB,ap]at h;rw[cc];refine⟨?_,Nc h.2⟩;have a:=h.1
  split at a
  ·simp at a
  ·rename_i b;exact M5 b
def Cn(H:Heap)(b v:Nat):Bool:=match H[b]? with
 |some .hole|none=>false
 |some (.arr _ ar _ _)=>c6 v ar
 |some _=>true
theorem aLt{H:Heap}{b v:Nat}(h:Cn H b v=true):aL H (b,v):=by
 unfold Cn at h
 split at h
 ·simp at h
 ·simp at h
 ·rename_i k ar ak c a;exact⟨_,a,dm h⟩
 ·rename_i o d e a;refine⟨o,a,?_⟩;cases o with
  |hole=>exact(d rfl).elim
  |arr k ar ak c=>exact(e _ _ _ _ rfl).elim
  |_=>trivial
mutual
def tz(H:Heap):AV->Bool
 | .p _=>true
 | .ptr b _| .map b=>Cn H b 0
 | .ct b ar _ _ _| .sl b ar _ _ _=>Cn H b ar
 | .func _ fi ca=>nW H fi&&nW H ca
 | .st _ fs| .aD fs=>nW H fs
def nW(H:Heap):List AV->Bool
 |[]=>true
 |v::r=>tz H v&&nW H r
end
mutual
theorem EC{H:Heap}:∀{a:AV},tz H a=true->aE (aL H) a
 | .p _,_=>by simp[aE]
 | .ptr _ _,h| .map _,h| .ct _ _ _ _ _,h| .sl _ _ _ _ _,h=>by
  simp only[tz]at h;simp only[aE];exact aLt h
 | .func _ fi ca,h=>by
  simp only[tz,ap]at h;simp only[aE];exact⟨qu h.1,qu h.2⟩
 | .st _ _,h| .aD _,h=>by
  simp only[tz]at h;simp only[aE];exact qu h
theorem qu{H:Heap}:∀{l:List AV},nW H l=true->aV (aL H) l
 |[],_=>by simp[aV]
 |v::r,h=>by
  simp only[nW,ap]at h;simp only[aV];exact⟨EC h.1,qu h.2⟩
end
def Bn(H:Heap):Obj->Bool
 | .box _ t=>tz H t
 | .arr _ _ _ es=>nW H es
 | .dK _ vs=>nW H vs
 | .loop _=>false
 |_=>true
theorem M8{H:Heap}{o:Obj}(h:Bn H o=true):o.refs (aL H):=by
 cases o<;>simp only[Bn]at h<;>simp only[Obj.refs]
 ·exact EC h
 ·exact qu h
 ·exact qu h
 ·simp at h
def tg(p:Obj->Bool):List Obj->Bool
 |[]=>true
 |o::r=>p o&&tg p r
theorem xY{p:Obj->Bool}:∀{l:List Obj},tg p l=true->∀o∈l,p o=true
 |[],_,o,h=>by simp at h
 |a::r,h,o,b=>by
  simp only[tg,ap]at h;rcases bk.1 b with rfl|b
  ·exact h.1
  ·exact xY h.2 o b
def Bi(n:Nat):List Nat->Bool
 |[]=>true
 |x::r=>c6 (x+1) n&&Bi n r
theorem FA{n:Nat}:∀{l:List Nat},Bi n l=true->∀x∈l,x<n
 |[],_,o,h=>by simp at h
 |a::r,h,o,b=>by
  simp only[Bi,ap]at h;rcases bk.1 b with rfl|b
  ·exact dm h.1
  ·exact FA h.2 o b
def Bc:Obj->Bool
 | .hole=>false
 |_=>true
def yx(run:List AV->Heap->Option (AV×Heap))(args:List AV)(H:Heap):Option aZ:=
 let bs:=FT H 1000 (vQ args []) []
 match mU bs args,yf bs H bs with
 |some ga,some H0=>bif nodupB bs&&(Bi H.length bs&&(nW H0 ga&&tg (Bn H0) H0))then
  match run ga H0 with
  |some (v0,H1)=>bif c6 H0.length H1.length&&(tg Bc (H1.take H0.length))then some (dT bs H.length H0 H1 v0)else none
  |none=>none
  else none
 |_,_=>none
theorem Et{P:a0}{f:aT}{run:List AV->Heap->Option (AV×Heap)}(n:∀args H v H',run args H=some (v,H')->b8 P f H args H' v){args:List AV}{H:Heap}{e:aZ}(h:yx run args H=some e):
 tK P f args H.length e/\re H e:=by
 unfold yx at h;dsimp only at h
 split at h
 case h_2=>simp at h
 rename_i ga H0 g i;simp only[ao,dl,ap]at h;obtain⟨⟨g1,g2,g3,g4⟩,h⟩:=h
 split at h
 case h_2=>simp at h
 rename_i q H1 j;simp only[dl,dp]at h;obtain⟨⟨g5,g7⟩,rfl⟩:=h;obtain⟨k1,k2⟩:=MU (base:=H.length) i;have hf:=(n _ _ _ _ j).frame _ H.length k1.symm (Nc g1) (FA g2) (dm g5) (qu g3) (fun b o k=>M8 (xY g4 o (b3 k)));rw[qt g]at hf;refine⟨hf,k2,fun p d=>?_⟩;simp only[dT]at d;have c:=b1 d;refine⟨FA g2 _ c.1,fun l=>?_⟩;obtain⟨o,m,a⟩:=bo.1 c.2;rw[l]at a;have:=xY g7 o m;rw[av1.1 a]at this;simp[Bc]at this
mutual
theorem Bm:∀v:AV,cZ (fun i=>i) v=v
 | .p _| .sl .. | .ct .. | .ptr .. | .map _=>rfl
 | .st u vs=>by simp only[cZ,sH vs]
 | .aD vs=>by simp only[cZ,sH vs]
 | .func f a b=>by simp only[cZ,sH a,sH b]
theorem sH:∀l:List AV,cF (fun i=>i) l=l
 |[]=>rfl
 |v::l=>by simp only[cF,Bm v,sH l]
end
theorem Nw:∀e:Env,vp (fun i=>i) e=e
 |[]=>rfl
 |(x,v)::r=>by simp only[vp,Bm v,Nw r]
theorem aP2(o:Obj):du (fun i=>i) o=o:=by
 cases o<;>simp only[du,Bm,sH,Nw]
theorem QT(n:Nat):sig (bv n) n=fun i=>i:=by
 funext i
 by_cases h:i<n
 ·rw[uS (by simpa using h)];simp
 ·rw[uT (by simpa using h)];simp;omega
def vR(H:Heap):List (Nat×Obj):=(bv H.length).zip H
theorem aLs{H:Heap}{p:Nat×Obj}(h:p∈vR H):H[p.1]?=some p.2:=by
 rw[vR,bl]at h;obtain⟨i,hi,a⟩:=h;rw[List.getElem_zip]at a;subst a;simp
def Ce(H:Heap):Env->Bool
 |[]=>true
 |(_,v)::r=>tz H v&&Ce H r
theorem Qh{H:Heap}:∀{e:Env},Ce H e=true->∀x,aE (aL H) (aS e x)
 |[],_,x=>by simp[aS,aE]
 |(y,v)::r,h,x=>by
  simp only[Ce,ap]at h;simp only[aS]
  split
  ·exact EC h.1
  ·exact Qh h.2 x
def Rv(H:Heap):Obj->Bool
 | .loop L=>Ce H L.env
 |o=>Bn H o
theorem asK{H:Heap}{o:Obj}(h:Rv H o=true):o.refs (aL H):=by
 cases o<;>first
  |exact M8 h
  |exact Qh h
def Fh(run:Nat->Heap->List AV->Option (Heap×AV))(b:Nat)(args:List AV)(H:Heap):Option aZ:=
 bif nW H args&&tg (Rv H) H then
  match run b H args with
  |some (H1,v)=>bif c6 H.length H1.length&&(tg Bc (H1.take H.length))then some {v,al:=vR H,aM:=(bv H.length).zip (H1.take H.length),aX:=H1.drop H.length}else none
  |none=>none
 else none
theorem Zo{P:a0}{run:Nat->Heap->List AV->Option (Heap×AV)}(k:∀b H args H' v,run b H args=some (H',v)->gX P b H args H' v){b:Nat}{args:List AV}{H:Heap}{e:aZ}(h:Fh run b args H=some e):
 vk P b args H.length e/\re H e:=by
 unfold Fh at h;simp only[ao,dl,ap]at h;obtain⟨⟨g3,g4⟩,h⟩:=h
 split at h
 case h_2=>simp at h
 rename_i H1 f g;simp only[dl,dp]at h;obtain⟨⟨g5,g7⟩,rfl⟩:=h;have hf:=(k _ _ _ _ _ g).frame (bv H.length) H.length s_ List.nodup_range (fun b a=>by simpa using a) (dm g5) (qu g3) (fun b o a=>asK (xY g4 o (b3 a)));have e:dT (bv H.length) H.length H H1 f={v:=f,al:=vR H,aM:=(bv H.length).zip (H1.take H.length),aX:=H1.drop H.length}:=by
  simp only[dT,QT,Bm];rw[show(du fun i=>i)=id from funext aP2,b4,b4,b4,vR]
 rw[e,QT,sH]at hf;refine⟨hf,fun p c=>aLs c,fun p c=>?_⟩;have d:=b1 c;refine⟨by simpa using d.1,fun j=>?_⟩;have:=xY g7 p.2 d.2;rw[j]at this;simp[Bc]at this
end Go.an
namespace Go.an
variable[Gl]
inductive RT where
 |lf
 |vl (v:AV)
 |nd (a b c d:RT)
inductive Q4 where|a|b|c|d
def q4(n:Nat):Q4:=match n with
 |0=>.a
 |1=>.b
 |2=>.c
 |_=>.d
def pathOf:Nat->Nat->List Q4
 |0,_=>[]
 |k+1,n=>q4 (n% 4)::pathOf k (n/4)
noncomputable def yH(p:List Q4):RT->AV:=
 cy (motive:=fun _=>RT->AV) (fun R=>RT.rec (motive:=fun _=>AV) (.p .undef) (fun v=>v) (fun _ _ _ _ _ _ _ _=>.p .undef) R)
  (fun q _ e R=>RT.rec (motive:=fun _=>AV) (.p .undef) (fun _=>.p .undef) (fun a b c d _ _ _ _=>Q4.rec (motive:=fun _=>AV) (e a) (e b) (e c) (e d) q) R) p
noncomputable def G7(v:AV)(p:List Q4):RT->RT:=
 cy (motive:=fun _=>RT->RT) (fun _=>.vl v)
  (fun q _ e R=>RT.rec (motive:=fun _=>RT)
   (Q4.rec (motive:=fun _=>RT) (.nd (e .lf) .lf .lf .lf) (.nd .lf (e .lf) .lf .lf) (.nd .lf .lf (e .lf) .lf) (.nd .lf .lf .lf (e .lf)) q)
   (fun _=>Q4.rec (motive:=fun _=>RT) (.nd (e .lf) .lf .lf .lf) (.nd .lf (e .lf) .lf .lf) (.nd .lf .lf (e .lf) .lf) (.nd .lf .lf .lf (e .lf)) q)
   (fun a b c d _ _ _ _=>Q4.rec (motive:=fun _=>RT) (.nd (e a) b c d) (.nd a (e b) c d) (.nd a b (e c) d) (.nd a b c (e d)) q) R) p
noncomputable def lg(k:Nat)(R:RT)(n:Nat):AV:=bif c6 (n+1) (4^k)then yH (pathOf k n) R else .p .undef
noncomputable def za(k:Nat)(R:RT)(n:Nat)(v:AV):RT:=G7 v (pathOf k n) R
theorem Ox:∀(p:List Q4),yH p .lf=.p .undef
 |[]=>rfl
 |_::_=>rfl
theorem MI(v:AV):∀(p:List Q4)(R:RT),yH p (G7 v p R)=v
 |[],_=>rfl
 |x::p,R=>by
  cases R<;>cases x<;>exact MI v p _
theorem LN(v:AV):∀(p q:List Q4)(R:RT),p.length=q.length->p≠q->yH p (G7 v q R)=yH p R
 |[],[],R,_,h=>(h rfl).elim
 |[],_::_,R,h,_=>by simp at h
 |_::_,[],R,h,_=>by simp at h
 |x::p,y::q,R,h,f=>by
  have g:=fun R(f:p≠q)=>LN v p q R (by simpa using h) f;have i:=Ox p;cases R with
  |nd a b c d=>
   cases x<;>cases y<;>first
    |rfl
    |exact g _ (fun e=>f (by rw[e]))
  |_=>
   cases x<;>cases y<;>first
    |exact i
    |exact(g _ (fun e=>f (by rw[e]))).trans i
theorem DJ:∀k n,(pathOf k n).length=k
 |0,_=>rfl
 |k+1,n=>by simp[pathOf,DJ k]
theorem aPV{m n:Nat}(a:m<4)(b:n<4)(h:q4 m=q4 n):m=n:=by
 have hc:∀n,n<4->n=0\/n=1\/n=2\/n=3:=o_
 rcases hc m a with rfl|rfl|rfl|rfl<;>rcases hc n b with rfl|rfl|rfl|rfl<;>simp[q4]at h<;>rfl
theorem MK:∀(k m n:Nat),m<4^k->n<4^k->pathOf k m=pathOf k n->m=n
 |0,m,n,a,b,_=>by simp at a b;omega
 |k+1,m,n,a,b,h=>by
  simp only[pathOf,List.cons.injEq]at h;have c:=aPV (dk _ o_) (dk _ o_) h.1;have d:=MK k (m/4) (n/4) (by rw[dg]at a;omega) (by rw[dg]at b;omega) h.2;omega
theorem P6(k n:Nat):lg k .lf n=.p .undef:=by
 simp[lg,Ox]
theorem aAv{a b:Nat}(h:a<=b):c6 a b=true:=c9 h
theorem QB{a b:Nat}(h:¬a<=b):c6 a b=false:=by
 cases c:c6 a b
 ·rfl
 ·exact(h (dm c)).elim
theorem Ee(k:Nat)(R:RT)(d x:Nat)(v:AV)(h:d<4^k):lg k (za k R d v) x=if x=d then v else lg k R x:=by
 unfold lg za
 by_cases hx:x+1<=4^k
 ·simp only[aAv hx,cond_true]
  by_cases a:x=d
  ·subst a;rw[MI,if_pos rfl]
  ·rw[if_neg a,LN _ _ _ _ (by rw[DJ,DJ]) (fun e=>a (MK k x d o_ h e))]
 ·have:x≠d:=by omega
  simp only[QB hx,cond_false,this,if_false]
def Rel(k:Nat)(e:Env)(R:RT):Prop:=∀x,aS e x=lg k R x
noncomputable def lZ(k:Nat)(d:Option Nat)(v:AV)(R:RT):Option RT:=
 match d with
 |none=>some R
 |some d=>bif c6 (d+1) (4^k)then some (za k R d v)else none
theorem xK{k:Nat}{d:Option Nat}{v:AV}{R a:RT}{e:Env}(h:lZ k d v R=some a)(b:Rel k e R):Rel k (put d v e) a:=by
 unfold lZ at h
 split at h
 ·simp only[dp]at h;subst h;exact b
 ·simp only[ao,dl,dp]at h;obtain⟨c,rfl⟩:=h;intro x;rw[Ee _ _ _ _ _ (by have:=dm c;omega)];simp only[put,aS]
  split
  ·rfl
  ·exact b x
noncomputable def kO(k:Nat)(R:RT):ax->AV
 | .tmp t=>lg k R t
 | .const v=>.p (ofConst v)
 | .global g=>.p (Gl.g g)
 | .func f=>.p (.func f [] [])
theorem BA{k:Nat}{R:RT}{e:Env}(a:Rel k e R):kO k R=ev e:=by
 funext o;cases o<;>simp[kO,ev,a _]
def rh(H:Heap)(e:aZ):Heap:=
 match e.aM,e.aX with
 |[],[]=>H
 |_,_=>ba H e.aM++e.aX
theorem OM(H:Heap)(e:aZ):rh H e=ba H e.aM++e.aX:=by
 unfold rh;split
 ·rename_i a b;simp[a,b,ba]
 ·rfl
structure kH where
 cP:aT->List AV->Heap->Option (AV×Heap)
 cD:aT->List AV->Heap->Option aZ
 cY:Nat->Heap->List AV->Option (Heap×AV)
 cI:AV->Nat->Heap->Option Heap
 Cb:Nat->List AV->Heap->Option aZ
structure lh(P:a0)(B:kH):Prop where
 cP:∀f args H v H',B.cP f args H=some (v,H')->∀K:AV->Heap->Prop,K v H'->iH P false f args H K
 cD:∀f args H e,B.cD f args H=some e->∀K:aZ->Prop,K e->iO P f args H K
 cY:∀b H args H' v,B.cY b H args=some (H',v)->gX P b H args H' v
 cI:∀it b H H',B.cI it b H=some H'->∀K:Heap->Prop,K H'->jO P it b H K
 Cb:∀b args H e,B.Cb b args H=some e->vk P b args H.length e/\re H e
section
variable(P:a0)(ah:aT->Bool)(B:kH)(k:Nat)
noncomputable def y7(o:Oper)(R:RT)(H:Heap):Option (RT×Heap):=
 match o.op with
 | .call {callee:=.value f,args,.. }=>match(match kO k R f with
  | .p (.func g fi ca)=>B.cP g (fi.map .p++args.toList.map (kO k R)++ca.map .p) H
  | .func g fi ca=>B.cP g (fi++args.toList.map (kO k R)++ca) H
  | .map b=>match B.cY b H (args.toList.map (kO k R))with
   |some (H',v)=>some (v,H')
   |none=>none
  |_=>none)with
  |some (v,H')=>match lZ k o.dst v R with
   |some a=>some (a,H')
   |none=>none
  |none=>none
 |_=>match Cs P ah o (kO k R) H with
  |some e=>match lZ k o.dst e.v R with
   |some a=>some (a,rh H e)
   |none=>none
  |none=>none
noncomputable def Bx(a:Array Oper)(j:Nat)(R:RT):AV:=
 match(a[j]?).bind (·.dst)with
 |some d=>lg k R d
 |none=>.p (.aD [])
noncomputable def oD(b:Array Oper):List Oper->RT->Heap->Option (RT×Heap)
 |[],R,H=>some (R,H)
 |o::r,R,H=>match o.guard with
  |none=>match y7 P ah B k o R H with
   |some (a,H')=>oD b r a H'
   |none=>none
  |some (j,want)=>match Bx k b j R with
   | .p (.bool t)=>match t,want with
    |true,true|false,false=>match y7 P ah B k o R H with
     |some (a,H')=>oD b r a H'
     |none=>none
    |_,_=>match lZ k o.dst (.p (.aD [])) R with
     |some a=>oD b r a H
     |none=>none
   | .p (.aD [])=>match lZ k o.dst (.p (.aD [])) R with
    |some a=>oD b r a H
    |none=>none
   |_=>none
noncomputable def yR(o:Oper)(R:RT)(H:Heap):Option aZ:=
 match o.op with
 | .call {callee:=.value f,args,.. }=>match kO k R f with
  | .p (.func g fi ca)=>B.cD g (fi.map .p++args.toList.map (kO k R)++ca.map .p) H
  | .func g fi ca=>B.cD g (fi++args.toList.map (kO k R)++ca) H
  | .map b=>B.Cb b (args.toList.map (kO k R)) H
  |_=>none
 |_=>Cs P ah o (kO k R) H
noncomputable def nZ(b:Array Oper):List Oper->Nat->List Touch->RT->Heap->Option (RT×Heap)
 |[],_,acc,R,H=>bif lB b acc then some (R,H)else none
 |o::r,i,acc,R,H=>match o.guard with
  |none=>match yR P ah B k o R H with
   |some e=>match lZ k o.dst e.v R with
    |some a=>nZ b r (i+1) (iI i H.length e acc) a (rh H e)
    |none=>none
   |none=>none
  |some (j,want)=>match Bx k b j R with
   | .p (.bool t)=>match t,want with
    |true,true|false,false=>match yR P ah B k o R H with
     |some e=>match lZ k o.dst e.v R with
      |some a=>nZ b r (i+1) (iI i H.length e acc) a (rh H e)
      |none=>none
     |none=>none
    |_,_=>match lZ k o.dst (.p (.aD [])) R with
     |some a=>nZ b r (i+1) acc a H
     |none=>none
   | .p (.aD [])=>match lZ k o.dst (.p (.aD [])) R with
    |some a=>nZ b r (i+1) acc a H
    |none=>none
   |_=>none
abbrev Out:=Option (bD×RT×Heap)
def yF(f:RT->Heap->Out):Nat->RT->Heap->Out
 |0,_,_=>none
 |n+1,R,H=>match f R H with
  |some (.normal,a,H')=>yF f n a H'
  |r=>r
noncomputable def vL(k:Nat)(R:RT):Nat->Env
 |0=>[]
 |n+1=>(n,lg k R n)::vL k R n
def avO:Nat:=100000
def BO(j:Option Code):Option bD:=
 match j with
 |none=>some .normal
 |some (.exit id)=>some (.exit id)
 |some .ret=>some .ret
 |_=>none
def G5(b:Nat)(R:RT)(H:Heap):Out:=
 match H[b]? with
 |some (.loop L)=>match L.st with
  | .busy=>none
  |_=>match BO L.pending with
   |some e=>some (e,R,H.set b (.loop {L with st:=.exhausted}))
   |none=>none
 |_=>none
noncomputable def iN(q:Cx):Code->RT->Heap->Out
 | .skip,R,H| .label _,R,H=>some (.normal,R,H)
 | .region _ ops draw,R,H=>bif draw then match nZ P ah B k ops ops.toList 0 [] R H with
   |some (d,H')=>some (.normal,d,H')
   |none=>none
  else match oD P ah B k ops ops.toList R H with
   |some (d,H')=>some (.normal,d,H')
   |none=>none
 | .seq a b,R,H=>match iN q a R H with
  |some (.normal,d,H')=>iN q b d H'
  |r=>r
 | .cond c a b,R,H=>match kO k R c with
  | .p (.bool t)=>match t with
   |true=>iN q a R H
   |false=>iN q b R H
  |_=>none
 | .block id b,R,H=>match iN q b R H with
  |some (.exit i,d,H')=>bif c7 i id then some (.normal,d,H')else some (.exit i,d,H')
  |r=>r
 | .scope b,R,H=>iN q b R H
 | .loop b,R,H=>yF (fun R H=>iN q b R H) avO R H
 | .rangeFunc f e a b,R,H=>bif c6 q.2 H.length&&c6 q.1 (4^k)then match B.cI (kO k R f) H.length (H++[.loop ⟨.ready,none,q.1,e.toList,a,b,vL k R (4^k)⟩])with
   |some H'=>G5 H.length R H'
   |none=>none
  else none
 | .exit id,R,H=>some (.exit id,R,H)
 | .ret,R,H=>some (.ret,R,H)
 |_,_,_=>none
end
section
variable{P:a0}{ah:aT->Bool}{B:kH}{k:Nat}
theorem NX(e:aZ)(dst:Option Tmp)(env:Env)(H:Heap):e.app dst ⟨env,H⟩=⟨put dst e.v env,rh H e⟩:=by
 simp[aZ.app,OM]
theorem aPa(b:lh P B){o:Oper}{R i:RT}{H H':Heap}{env:Env}(h:y7 P ah B k o R H=some (i,H'))(g:Rel k env R):
 ∃j,Rel k j i/\∀K:St->Prop,K ⟨j,H'⟩->kr P ah false o K ⟨env,H⟩:=by
 unfold y7 at h;unfold kr;rw[BA g]at h
 split at h
 ·rename_i f args n c
  split at h
  case h_2=>simp at h
  rename_i v l hc
  split at h
  case h_2=>simp at h
  rename_i m d;simp only[dp,dq]at h;obtain⟨rfl,rfl⟩:=h;refine⟨_,xK d g,fun K a=>?_⟩;simp only[c]
  split at hc
  ·rename_i hf;simp only[hf];exact b.cP _ _ _ _ _ hc _ a
  ·rename_i hf;simp only[hf];exact b.cP _ _ _ _ _ hc _ a
  ·rename_i hf
   split at hc
   ·rename_i l s r;simp only[dp,dq]at hc;obtain⟨rfl,rfl⟩:=hc;simp only[hf];exact⟨_,_,b.cY _ _ _ _ _ r,a⟩
   ·simp at hc
  ·simp at hc
 ·rename_i q
  split at h
  case h_2=>simp at h
  rename_i e p
  split at h
  case h_2=>simp at h
  rename_i m d;simp only[dp,dq]at h;obtain⟨rfl,rfl⟩:=h;refine⟨_,xK d g,fun K a=>?_⟩
  split
  ·rename_i f args n c;exact(q _ _ _ c).elim
  ·exact Rw p (by rw[NX];exact a)
theorem NY{a:Array Oper}{j:Nat}{R:RT}{env:Env}(b:Rel k env R):Bx k a j R=guardOf a j env:=by
 unfold Bx guardOf;split
 ·rename_i h;simp only[h];exact(b _).symm
 ·rename_i h;simp only[h]
theorem Fm(f:lh P B){c:Array Oper}:∀{l:List Oper}{R a:RT}{H H':Heap}{env:Env},oD P ah B k c l R H=some (a,H')->Rel k env R->
 ∃b,Rel k b a/\∀K:St->Prop,K ⟨b,H'⟩->iJ P ah false c l K ⟨env,H⟩
 |[],R,a,H,H',env,h,d=>by
  simp only[oD,dp,dq]at h;obtain⟨rfl,rfl⟩:=h;exact⟨env,d,fun K g=>g⟩
 |o::l,R,a,H,H',env,h,d=>by
  have run:(match y7 P ah B k o R H with
    |some (a,H')=>oD P ah B k c l a H'
    |none=>none)=some (a,H')->∃b,Rel k b a/\∀K:St->Prop,K ⟨b,H'⟩->kr P ah false o (iJ P ah false c l K) ⟨env,H⟩:=by
   intro h
   split at h
   case h_2=>simp at h
   rename_i n H1 e;obtain⟨w,q,a2⟩:=aPa f e d;obtain⟨u,r,s⟩:=Fm f h q;exact⟨u,r,fun K g=>a2 _ (s K g)⟩
  have skip:(match lZ k o.dst (.p (.aD [])) R with
    |some a=>oD P ah B k c l a H
    |none=>none)=some (a,H')->∃b,Rel k b a/\∀K:St->Prop,K ⟨b,H'⟩->iJ P ah false c l K ⟨put o.dst (.p (.aD [])) env,H⟩:=by
   intro h
   split at h
   case h_2=>simp at h
   rename_i n e;exact Fm f h (xK e d)
  simp only[oD]at h;simp only[iJ]
  split at h
  ·rename_i i;simp only[i];exact run h
  ·rename_i j v i;simp only[i];rw[NY d]at h
   split at h
   ·rename_i t m;simp only[m];cases t<;>cases v
    ·simpa using run h
    ·simpa using skip h
    ·simpa using skip h
    ·simpa using run h
   ·rename_i m;simp only[m];exact skip h
   ·simp at h
theorem aKK(b:lh P B){o:Oper}{R:RT}{H:Heap}{e:aZ}{env:Env}(h:yR P ah B k o R H=some e)(l:Rel k env R)(K:aZ->Prop)(a:K e):jU P ah o ⟨env,H⟩ K:=by
 unfold yR at h;unfold jU;rw[BA l]at h
 split at h
 ·rename_i f args d c;simp only[c]
  split at h
  ·rename_i hf;simp only[hf];exact b.cD _ _ _ _ h _ a
  ·rename_i hf;simp only[hf];exact b.cD _ _ _ _ h _ a
  ·rename_i hf;simp only[hf];obtain⟨g,i⟩:=b.Cb _ _ _ _ h;exact⟨e,g,i,a⟩
  ·simp at h
 ·rename_i j
  split
  ·rename_i f args d c;exact(j _ _ _ c).elim
  ·exact Rw h a
theorem EP(m:lh P B){f:Array Oper}:∀{l:List Oper}{i:Nat}{b:List Touch}{R a:RT}{H H':Heap}{env:Env},nZ P ah B k f l i b R H=some (a,H')->Rel k env R->
 ∃c,Rel k c a/\∀K:St->Prop,K ⟨c,H'⟩->gV P ah f l i b K ⟨env,H⟩
 |[],i,b,R,a,H,H',env,h,d=>by
  simp only[nZ,ao,dl,dp,dq]at h;obtain⟨g,rfl,rfl⟩:=h;exact⟨env,d,fun K n=>⟨g,n⟩⟩
 |o::l,i,b,R,a,H,H',env,h,d=>by
  have run:(match yR P ah B k o R H with
    |some e=>match lZ k o.dst e.v R with
     |some a=>nZ P ah B k f l (i+1) (iI i H.length e b) a (rh H e)
     |none=>none
    |none=>none)=some (a,H')->∃c,Rel k c a/\∀K:St->Prop,K ⟨c,H'⟩->jU P ah o ⟨env,H⟩ (fun e=>gV P ah f l (i+1) (iI i H.length e b) K (e.app o.dst ⟨env,H⟩)):=by
   intro h
   split at h
   case h_2=>simp at h
   rename_i e y
   split at h
   case h_2=>simp at h
   rename_i s g;obtain⟨x,u,w⟩:=EP m h (xK g d);exact⟨x,u,fun K n=>aKK m y d _ (by rw[NX];exact w K n)⟩
  have skip:(match lZ k o.dst (.p (.aD [])) R with
    |some a=>nZ P ah B k f l (i+1) b a H
    |none=>none)=some (a,H')->∃c,Rel k c a/\∀K:St->Prop,K ⟨c,H'⟩->gV P ah f l (i+1) b K ⟨put o.dst (.p (.aD [])) env,H⟩:=by
   intro h
   split at h
   case h_2=>simp at h
   rename_i s g;exact EP m h (xK g d)
  simp only[nZ]at h;simp only[gV]
  split at h
  ·rename_i q;simp only[q];exact run h
  ·rename_i j z q;simp only[q];rw[NY d]at h
   split at h
   ·rename_i t r;simp only[r];cases t<;>cases z
    ·simpa using run h
    ·simpa using skip h
    ·simpa using skip h
    ·simpa using run h
   ·rename_i r;simp only[r];exact skip h
   ·simp at h
theorem OS(R:RT):∀(n:Nat),∀x,aS (vL k R n) x=if x<n then lg k R x else .p .undef
 |0,x=>by simp[vL,aS]
 |n+1,x=>by
  simp only[vL,aS,OS R n]
  by_cases h:x=n
  ·subst h;simp
  ·simp only[h,if_false]
   by_cases a:x<n
   ·simp[a,Nat.lt_succ_of_lt a]
   ·have:¬x<n+1:=by omega
    simp[a,this]
theorem avg(k:Nat)(R:RT)(n:Nat)(h:4^k<=n):lg k R n=.p .undef:=by
 unfold lg;rw[QB o_];rfl
theorem aKO{R:RT}{env:Env}(a:Rel k env R):∀x,aS (vL k R (4^k)) x=aS env x:=by
 intro x;rw[OS,a]
 split
 ·rfl
 ·rw[avg k R x o_]
theorem avW{j:Option Code}{e:bD}(h:BO j=some e)(Q:bD->St->Prop)(s:St)(hq:Q e s):kl Q j s:=by
 unfold BO at h;unfold kl
 split at h<;>simp at h<;>subst h<;>exact hq
theorem avx{b:Nat}{R a:RT}{H H':Heap}{e:bD}{env:Env}(h:G5 b R H=some (e,a,H')):a=R/\∀Q:bD->St->Prop,Q e ⟨env,H'⟩->iX b env Q H:=by
 unfold G5 at h
 split at h
 case h_2=>simp at h
 rename_i L c
 have go:(match BO L.pending with
   |some e=>some (e,R,H.set b (.loop {L with st:=.exhausted}))
   |none=>none)=some (e,a,H')->L.st≠.busy->a=R/\∀Q:bD->St->Prop,Q e ⟨env,H'⟩->iX b env Q H:=by
  intro h aN
  split at h
  case h_2=>simp at h
  rename_i e' d;simp only[dp,dq]at h;obtain⟨rfl,rfl,rfl⟩:=h;exact⟨rfl,fun Q hq=>by unfold iX;simp only[c];exact⟨aN,avW d Q _ hq⟩⟩
 split at h
 ·simp at h
 ·rename_i aN;exact go h aN
theorem Z8{q:Cx}{b:Code}{Q:bD->St->Prop}{s s':St}(f:∀c:bD->St->Prop,c .normal s'->cC P ah q b c s)(d:cC P ah q (.loop b) Q s'):cC P ah q (.loop b) Q s:=by
 simp only[cC]at d⊢;obtain⟨I,⟨a,t0,hf,hI⟩,g⟩:=d;refine⟨fun n t=>I n t\/(n=a+1/\t=s),⟨a+1,s,.inl rfl,.inr ⟨rfl,rfl⟩⟩,?_⟩;rintro n t (h|⟨rfl,rfl⟩)
 ·obtain⟨e,u,k1,k2⟩:=oR b t _ (g n t h);refine k2 _ ?_;cases e with
  |normal=>
   obtain⟨m,i,g1,g2,g3⟩:=k1;exact⟨m,i,g1,g2,.inl g3⟩
  |exit id=>exact k1
  |ret=>exact k1
 ·exact f _ ⟨a,t0,Nat.lt_succ_self _,hf,.inl hI⟩
theorem Z7{q:Cx}{b:Code}{Q:bD->St->Prop}{s s':St}{e:bD}(f:e≠.normal)(d:∀a:bD->St->Prop,a e s'->cC P ah q b a s)(c:Q e s'):cC P ah q (.loop b) Q s:=by
 simp only[cC];refine⟨fun n t=>n=0/\t=s,⟨0,s,.inl rfl,rfl,rfl⟩,?_⟩;rintro n t ⟨rfl,rfl⟩;refine d _ ?_;cases e with
 |normal=>exact(f rfl).elim
 |exit id=>exact c
 |ret=>exact c
theorem Pd{q:Cx}{b:Code}{f:RT->Heap->Out}(hf:∀{R a:RT}{H H':Heap}{e:bD}{env:Env},f R H=some (e,a,H')->Rel k env R->∃c,Rel k c a/\∀Q:bD->St->Prop,Q e ⟨c,H'⟩->cC P ah q b Q ⟨env,H⟩):
 ∀(n:Nat){R a:RT}{H H':Heap}{e:bD}{env:Env},yF f n R H=some (e,a,H')->Rel k env R->∃c,Rel k c a/\∀Q:bD->St->Prop,Q e ⟨c,H'⟩->cC P ah q (.loop b) Q ⟨env,H⟩
 |0,R,a,H,H',e,env,h,g=>by simp[yF]at h
 |n+1,R,a,H,H',e,env,h,g=>by
  simp only[yF]at h
  split at h
  ·rename_i r H1 o;obtain⟨i,d,a2⟩:=hf o g;obtain⟨m,j,l⟩:=Pd hf n h d;exact⟨m,j,fun Q hq=>Z8 a2 (l Q hq)⟩
  ·rename_i p;obtain⟨i,d,a2⟩:=hf h g;refine⟨i,d,fun Q hq=>Z7 ?_ a2 hq⟩;rintro rfl;exact p _ _ h
theorem mg(m:lh P B){q:Cx}:∀{c:Code}{R l:RT}{H H':Heap}{e:bD}{env:Env},iN P ah B k q c R H=some (e,l,H')->Rel k env R->
 ∃r,Rel k r l/\∀Q:bD->St->Prop,Q e ⟨r,H'⟩->cC P ah q c Q ⟨env,H⟩
 | .skip,R,l,H,H',e,env,h,d| .label _,R,l,H,H',e,env,h,d| .exit _,R,l,H,H',e,env,h,d| .ret,R,l,H,H',e,env,h,d=>by
  simp only[iN,dp,dq]at h;obtain⟨rfl,rfl,rfl⟩:=h;exact⟨env,d,fun Q hq=>hq⟩
 | .region id ops draw,R,l,H,H',e,env,h,d=>by
  simp only[iN]at h;cases draw
  ·simp only[cond_false]at h
   split at h
   case h_2=>simp at h
   rename_i o H1 n;simp only[dp,dq]at h;obtain⟨rfl,rfl,rfl⟩:=h;obtain⟨j,g,a2⟩:=Fm m n d;exact⟨j,g,fun Q hq=>by simp only[cC];exact a2 _ hq⟩
  ·simp only[cond_true]at h
   split at h
   case h_2=>simp at h
   rename_i o H1 n;simp only[dp,dq]at h;obtain⟨rfl,rfl,rfl⟩:=h;obtain⟨j,g,a2⟩:=EP m n d;exact⟨j,g,fun Q hq=>by simp only[cC,if_true];exact a2 _ hq⟩
 | .seq a b,R,l,H,H',e,env,h,d=>by
  simp only[iN]at h
  split at h
  ·rename_i o H1 n;obtain⟨j,g,a2⟩:=mg m n d;obtain⟨w,u,v⟩:=mg m h g;exact⟨w,u,fun Q hq=>by simp only[cC];exact a2 _ (v Q hq)⟩
  ·rename_i p;obtain⟨j,g,a2⟩:=mg m h d;refine⟨j,g,fun Q hq=>by
    simp only[cC];refine a2 _ ?_;cases e with
    |normal=>exact(p _ _ h).elim
    |exit id=>exact hq
    |ret=>exact hq⟩
 | .cond c a b,R,l,H,H',e,env,h,d=>by
  simp only[iN,BA d]at h
  split at h
  case h_2=>simp at h
  rename_i t s;cases t
  ·obtain⟨j,g,a2⟩:=mg m h d;exact⟨j,g,fun Q hq=>by simp only[cC,s];exact a2 Q hq⟩
  ·obtain⟨j,g,a2⟩:=mg m h d;exact⟨j,g,fun Q hq=>by simp only[cC,s,if_true];exact a2 Q hq⟩
 | .block id b,R,l,H,H',e,env,h,d=>by
  simp only[iN]at h
  split at h
  ·rename_i i o H1 n;obtain⟨j,g,a2⟩:=mg m n d;cases hi:c7 i id
   ·simp only[hi,cond_false,dp,dq]at h;obtain⟨rfl,rfl,rfl⟩:=h;refine⟨j,g,fun Q hq=>by
     simp only[cC];refine a2 _ ?_;have:i≠id:=fun e=>by subst e;simp[da]at hi
     simp only[this,if_false];exact hq⟩
   ·simp only[hi,cond_true,dp,dq]at h;obtain⟨rfl,rfl,rfl⟩:=h;refine⟨j,g,fun Q hq=>by
     simp only[cC];refine a2 _ ?_;simp only[dL hi,if_true];exact hq⟩
  ·rename_i p;obtain⟨j,g,a2⟩:=mg m h d;refine⟨j,g,fun Q hq=>by
    simp only[cC];refine a2 _ ?_;cases e with
    |normal=>exact hq
    |exit id=>exact(p _ _ _ h).elim
    |ret=>exact hq⟩
 | .scope b,R,l,H,H',e,env,h,d=>by
  simp only[iN]at h;obtain⟨j,g,a2⟩:=mg m h d;exact⟨j,g,fun Q hq=>by simp only[cC];exact a2 Q hq⟩
 | .loop b,R,l,H,H',e,env,h,d=>by
  simp only[iN]at h;exact Pd (fun h d=>mg m h d) _ h d
 | .rangeFunc f z a b,R,l,H,H',e,env,h,d=>by
  simp only[iN,ao,dl,ap]at h;obtain⟨⟨n,y⟩,h⟩:=h
  split at h
  case h_2=>simp at h
  rename_i H1 hI;obtain⟨rfl,x⟩:=avx (env:=env) h;refine⟨env,d,fun Q hq=>?_⟩;simp only[cC];rw[BA d]at hI;exact⟨dm n,_,aKO d,m.cI _ _ _ _ hI _ (x Q hq)⟩
 | .goto _,_,_,_,_,_,_,h,_=>by simp[iN]at h
 | .refuse _,_,_,_,_,_,_,h,_=>by simp[iN]at h
end
def tR(n:Nat):Nat:=
 match c6 n 16,c6 n 64,c6 n 256,c6 n 1024 with
 |true,_,_,_=>2
 |_,true,_,_=>3
 |_,_,true,_=>4
 |_,_,_,true=>5
 |_,_,_,_=>6
noncomputable def yD(k:Nat):Nat->List AV->RT
 |_,[]=>.lf
 |i,v::r=>za k (yD k (i+1) r) i v
theorem Pr(k:Nat):∀(l:List AV)(i:Nat),i+l.length<=4^k->Rel k (jo i l) (yD k i l)
 |[],i,_=>fun x=>by simp[jo,yD,aS,P6]
 |v::r,i,h=>fun x=>by
  simp only[List.length_cons]at h;rw[yD,Ee _ _ _ _ _ o_];simp only[jo,aS]
  split
  ·rfl
  ·exact Pr k r (i+1) o_ x
noncomputable def yS(k:Nat):Env->Option RT
 |[]=>some .lf
 |(x,v)::r=>match yS k r with
  |some R=>bif c6 (x+1) (4^k)then some (za k R x v)else none
  |none=>none
theorem OR(k:Nat):∀{e:Env}{R:RT},yS k e=some R->Rel k e R
 |[],R,h=>by
  simp only[yS,dp]at h;subst h;intro x;simp[aS,P6]
 |(y,v)::r,R,h=>by
  simp only[yS]at h
  split at h
  case h_2=>simp at h
  rename_i c a;simp only[ao,dl,dp]at h;obtain⟨b,rfl⟩:=h;intro x;rw[Ee _ _ _ _ _ (by have:=dm b;omega)];simp only[aS]
  split
  ·rfl
  ·exact OR k a x
noncomputable def Cz(P:a0)(k:Nat)(R:RT)(H:Heap):List a1->Option (List AV)
 |[]=>some []
 |r::rs=>match(match r with
  | .tmp t=>some (lg k R t)
  | .cell a T=>match lg k R a with
   | .ptr b path=>match H[b]? with
    |some (.box _ t)=>match fk t path with
     |some v=>bif sE (kindOf P T) (aa v)then some v else none
     |none=>none
    |_=>none
   |_=>none),Cz P k R H rs with
  |some v,some vs=>some (v::vs)
  |_,_=>none
theorem P7{P:a0}{k:Nat}{R:RT}{H:Heap}{env:Env}(d:Rel k env R):∀{e:List a1}{vs:List AV},Cz P k R H e=some vs->fX P ⟨env,H⟩ e=some vs
 |[],vs,h=>h
 |r::e,vs,h=>by
  simp only[Cz]at h
  split at h
  case h_2=>simp at h
  rename_i v o c f;simp only[dp]at h;subst h;have g:qP P ⟨env,H⟩ r=some v:=by
   cases r with
   |tmp t=>simp only[qP];rw[d];exact c
   |cell a T=>
    simp only[qP];dsimp only at c;rw[<-d]at c
    split at c
    case h_2=>simp at c
    rename_i b n j
    split at c
    case h_2=>simp at c
    rename_i fz t l
    split at c
    case h_2=>simp at c
    rename_i u m;simp only[ao,dl,dp]at c;obtain⟨i,rfl⟩:=c;rw[j];simp only[l,m,(jq i).1,if_true]
  simp only[fX,g,P7 d f]
section
variable(P:a0)(ah:aT->Bool)
noncomputable def BS(B:kH)(fn:Func)(args:List AV)(N:Nat)(H:Heap):Option (AV×Heap):=
 bif c6 args.length fn.ntmps&&c6 fn.ntmps (4^tR fn.ntmps)then
  match iN P ah B (tR fn.ntmps) (fn.ntmps,N) (fn.body.getD .skip) (yD (tR fn.ntmps) 0 args) H with
  |some (.exit _,_,_)=>none
  |some (_,R,H')=>match Cz P (tR fn.ntmps) R H' fn.results.toList with
   |some vs=>some (oneOf vs,H')
   |none=>none
  |none=>none
 else none
structure ny where
 ua:aT->Option Func
 Ck:aT->List PV->Option PV
 Cl:aT->List AV->Heap->Option (AV×Heap)
 kZ:aT->aT->Nat
 vO:aT->List AV->Heap->Option (List (Nat×Obj)×PV)
noncomputable def pR(pl:ny)(B:aT->kH)(f:aT)(vs:List PV):Option PV:=
 match pl.Ck f vs with
 |some v=>some v
 |none=>match pl.ua f with
  |some fn=>match BS P ah (B f) fn (vs.map .p) 0 []with
   |some (v,H)=>eQ H 9 v
   |none=>none
  |none=>none
noncomputable def pQ(pl:ny)(B:aT->kH)(f:aT)(args:List AV)(H:Heap):Option (AV×Heap):=
 match pl.Cl f args H with
 |some r=>some r
 |none=>match pl.ua f with
  |some fn=>BS P ah (B f) fn args H.length H
  |none=>none
noncomputable def Bu(B:kH)(b:Nat)(H:Heap)(args:List AV):Option (Heap×AV):=
 match H[b]? with
 |some (.loop L)=>bif c7 args.length L.params.length&&(L.params.all (fun x=>decide (x<L.n))&&codeOk fit L.n L.assign&&codeOk fit L.n L.body)then
  match yS (tR L.n) (sV L.params args L.env)with
  |some R=>match iN P ah B (tR L.n) (L.n,H.length) L.assign R H with
   |some (.normal,f,H1)=>match H1[b]? with
    |some (.loop c)=>match c.st with
     | .ready=>match iN P ah B (tR L.n) (L.n,H.length) L.body f (H1.set b (.loop {c with st:=.busy}))with
      |some (e,_,a)=>match a[b]? with
       |some (.loop d)=>some (a.set b (.loop {d with st:=if(iG e).isNone then .ready else .done,pending:=iG e}),.p (.bool (iG e).isNone))
       |_=>none
      |none=>none
     |_=>none
    |_=>none
   |_=>none
  |none=>none
  else none
 |_=>none
noncomputable def GO(pl:ny)(B:aT->kH)(it:AV)(b:Nat)(H:Heap):Option Heap:=
 match it with
 | .p (.func g fi ca)=>match pQ P ah pl B g (fi.map .p++[.map b]++ca.map .p) H with
  |some (_,H')=>some H'
  |none=>none
 | .func g fi ca=>match pQ P ah pl B g (fi++[.map b]++ca) H with
  |some (_,H')=>some H'
  |none=>none
 |_=>none
noncomputable def Gn(pl:ny)(B:aT->kH)(c f:aT)(args:List AV)(H:Heap):Option (AV×Heap):=
 match pl.vO f args H with
 |some (_,v)=>some (.p v,H)
 |none=>match pl.kZ c f with
 |0=>match fj args with
  |some vs=>match pR P ah pl B f vs with
   |some v=>some (.p v,H)
   |none=>none
  |none=>pQ P ah pl B f args H
 |1=>pQ P ah pl B f args H
 |3=>match yx (pQ P ah pl B f) args H with
  |some e=>some (e.v,rh H e)
  |none=>none
 |_=>match oG H args with
  |some (vs,H1)=>match pR P ah pl B f vs with
   |some v=>some (.p v,H1)
   |none=>none
  |none=>none
noncomputable def Gm(pl:ny)(B:aT->kH)(c f:aT)(args:List AV)(H:Heap):Option aZ:=
 match pl.vO f args H with
 |some (al,v)=>some {v:=.p v,al}
 |none=>match pl.kZ c f with
 |3=>yx (pQ P ah pl B f) args H
 |_=>match fj args with
 |some vs=>match pR P ah pl B f vs with
  |some v=>some {v:=.p v}
  |none=>none
 |none=>match pG H args with
  |some (vs,bs)=>match mh H bs with
   |some (al,aM)=>match pR P ah pl B f vs with
    |some v=>some {v:=.p v,al,aM}
    |none=>none
   |none=>none
  |none=>yx (pQ P ah pl B f) args H
def uX:kH:=⟨fun _ _ _=>none,fun _ _ _=>none,fun _ _ _=>none,fun _ _ _=>none,fun _ _ _=>none⟩
noncomputable def kI(pl:ny):Nat->aT->kH
 |0,_=>uX
 |n+1,c=>⟨Gn P ah pl (kI pl n) c,Gm P ah pl (kI pl n) c,Bu P ah (kI pl n c),GO P ah pl (kI pl n),Fh (Bu P ah (kI pl n c))⟩
end
structure nU(P:a0)(pl:ny):Prop where
 mix:P.follows .mixedOrders=true
 ua:∀f fn,pl.ua f=some fn->au P f fn
 Ck:∀f vs v,pl.Ck f vs=some v->az P f vs v
 Cl:∀f args H v H',pl.Cl f args H=some (v,H')->b8 P f H args H' v
 vO:∀f args H al v,pl.vO f args H=some (al,v)->F1 P f args al v/\∀p∈al,H[p.1]?=some p.2
section
variable{P:a0}{ah:aT->Bool}{B1:kH}{B:aT->kH}{pl:ny}
theorem OJ(f:lh P B1){fn:Func}{args:List AV}{N:Nat}{H H':Heap}{v:AV}(h:BS P ah B1 fn args N H=some (v,H')):
 args.length<=fn.ntmps/\∃e a vs,(match e with
  |bD.exit _=>False
  |_=>True)/\fX P ⟨a,H'⟩ fn.results.toList=some vs/\oneOf vs=v/\∀Q:bD->St->Prop,Q e ⟨a,H'⟩->cC P ah (fn.ntmps,N) (fn.body.getD .skip) Q ⟨jo 0 args,H⟩:=by
 unfold BS at h;simp only[ao,dl,ap]at h;obtain⟨⟨b,c⟩,h⟩:=h;have b:=dm b;have c:=dm c;refine⟨b,?_⟩
 split at h
 ·simp at h
 ·rename_i e R k g hc
  split at h
  case h_2=>simp at h
  rename_i vs j;simp only[dp,dq]at h;obtain⟨rfl,rfl⟩:=h;obtain⟨a,d,a2⟩:=mg f hc (Pr _ args 0 o_);refine⟨e,a,vs,?_,P7 d j,rfl,a2⟩;cases e with
  |exit i=>exact g i rfl
  |_=>trivial
 ·simp at h
theorem xO(a:nU P pl)(j:∀c,lh P (B c)){f:aT}{vs:List PV}{v:PV}(h:pR P ah pl B f vs=some v):az P f vs v:=by
 unfold pR at h
 split at h
 ·rename_i v' hk;simp only[dp]at h;subst h;exact a.Ck _ _ _ hk
 ·split at h
  case h_2=>simp at h
  rename_i fn hf
  split at h
  case h_2=>simp at h
  rename_i v' H' k;obtain⟨b,e,m,l,d,g,rfl,i⟩:=OJ (j _) k;exact Ci ah (a.ua _ _ hf) a.mix (by simpa using b) (i _ ⟨d,l,g,h⟩)
theorem sG(a:nU P pl)(j:∀c,lh P (B c)){f:aT}{args:List AV}{H H':Heap}{v:AV}(h:pQ P ah pl B f args H=some (v,H')):b8 P f H args H' v:=by
 unfold pQ at h
 split at h
 ·rename_i r hk;simp only[dp]at h;subst h;exact a.Cl _ _ _ _ _ hk
 ·split at h
  case h_2=>simp at h
  rename_i fn hf;obtain⟨b,e,l,k,d,g,rfl,i⟩:=OJ (j _) h;exact Td ah (a.ua _ _ hf) a.mix b (i _ ⟨d,k,g,rfl,.inl rfl⟩)
theorem NT{args:List AV}{vs:List PV}(h:fj args=some vs):args=vs.map .p:=mQ h
theorem awr(b:nU P pl)(d:∀c,lh P (B c)){c f:aT}{args:List AV}{H H':Heap}{v:AV}(h:Gn P ah pl B c f args H=some (v,H'))(K:AV->Heap->Prop)(a:K v H'):iH P false f args H K:=by
 unfold Gn at h
 split at h
 ·rename_i al v' hx;simp only[dp,dq]at h;obtain⟨rfl,rfl⟩:=h;obtain⟨i,j⟩:=b.vO _ _ _ _ _ hx;exact .inr ⟨rfl,.inr (.inr (.inr ⟨al,v',i,j,a⟩))⟩
 split at h
 ·split at h
  ·rename_i vs m
   split at h
   case h_2=>simp at h
   rename_i v' g;simp only[dp,dq]at h;obtain⟨rfl,rfl⟩:=h;exact .inl ⟨vs,v',NT m,xO b d g,a⟩
  ·exact .inr ⟨rfl,.inr (.inl ⟨H',v,sG b d h,a⟩)⟩
 ·exact .inr ⟨rfl,.inr (.inl ⟨H',v,sG b d h,a⟩)⟩
 ·split at h
  case h_2=>simp at h
  rename_i e k;simp only[dp,dq]at h;obtain⟨rfl,rfl⟩:=h;obtain⟨i,j⟩:=Et (fun args H v H' g=>sG b d g) k;exact .inr ⟨rfl,.inr (.inr (.inl ⟨e,i,j,by rw[<-OM];exact a⟩))⟩
 ·split at h
  case h_2=>simp at h
  rename_i vs H1 l
  split at h
  case h_2=>simp at h
  rename_i v' g;simp only[dp,dq]at h;obtain⟨rfl,rfl⟩:=h;exact .inr ⟨rfl,.inl ⟨vs,H1,v',l,xO b d g,a⟩⟩
theorem aws(i:nU P pl)(j:∀c,lh P (B c)){c f:aT}{args:List AV}{H:Heap}{e:aZ}(h:Gm P ah pl B c f args H=some e)(K:aZ->Prop)(g:K e):iO P f args H K:=by
 unfold Gm at h
 split at h
 ·rename_i al v' hx;simp only[dp]at h;subst h;obtain⟨b,d⟩:=i.vO _ _ _ _ _ hx;exact .inr (.inr (.inr ⟨al,v',b,d,g⟩))
 split at h
 ·obtain⟨b,d⟩:=Et (fun args H v H' a=>sG i j a) h;exact .inr (.inr (.inl ⟨e,b,d,g⟩))
 split at h
 ·rename_i vs m
  split at h
  case h_2=>simp at h
  rename_i v' a;simp only[dp]at h;subst h;exact .inl ⟨vs,v',NT m,xO i j a,g⟩
 ·split at h
  case h_2=>
   obtain⟨b,d⟩:=Et (fun args H v H' a=>sG i j a) h;exact .inr (.inr (.inl ⟨e,b,d,g⟩))
  rename_i vs bs l
  split at h
  case h_2=>simp at h
  rename_i al aM k
  split at h
  case h_2=>simp at h
  rename_i v' a;simp only[dp]at h;subst h;exact .inr (.inl ⟨vs,bs,al,aM,v',l,k,xO i j a,g⟩)
theorem Nv(o:nU P pl)(a:lh P B1){b:Nat}{H H':Heap}{args:List AV}{v:AV}(h:Bu P ah B1 b H args=some (H',v)):gX P b H args H' v:=by
 unfold Bu at h
 split at h
 case h_2=>simp at h
 rename_i L i;simp only[ao,dl,ap]at h;obtain⟨⟨f,g⟩,h⟩:=h
 split at h
 case h_2=>simp at h
 rename_i R l
 split at h
 case h_2=>simp at h
 rename_i s H1 m
 split at h
 case h_2=>simp at h
 rename_i q j
 split at h
 case h_2=>simp at h
 rename_i aN
 split at h
 case h_2=>simp at h
 rename_i e t p n
 split at h
 case h_2=>simp at h
 rename_i r k;simp only[dp,dq]at h;obtain⟨rfl,rfl⟩:=h;obtain⟨w,c,a2⟩:=mg a m (OR _ l);obtain⟨x,u,d⟩:=mg a n c;refine Te ah o.mix i (dL f) (by simpa only[ap]using g) ?_;unfold AY;refine a2 _ ?_;simp only[Ae,j];refine⟨aN,d _ ?_⟩;simp only[uL,k];exact⟨trivial,.inl rfl⟩
theorem avY(g:nU P pl)(e:∀c,lh P (B c)){it:AV}{b:Nat}{H H':Heap}(h:GO P ah pl B it b H=some H')(K:Heap->Prop)(f:K H'):jO P it b H K:=by
 unfold GO at h
 split at h
 ·split at h
  case h_2=>simp at h
  rename_i v a d;simp only[dp]at h;subst h;exact⟨a,v,sG g e d,f⟩
 ·split at h
  case h_2=>simp at h
  rename_i v a d;simp only[dp]at h;subst h;exact⟨a,v,sG g e d,f⟩
 ·simp at h
theorem uI(a:nU P pl):∀n c,lh P (kI P ah pl n c)
 |0,_=>⟨fun _ _ _ _ _ h=>by simp[kI,uX]at h,fun _ _ _ _ h=>by simp[kI,uX]at h,fun _ _ _ _ _ h=>by simp[kI,uX]at h,fun _ _ _ _ h=>by simp[kI,uX]at h,fun _ _ _ _ h=>by simp[kI,uX]at h⟩
 |n+1,c=>⟨fun _ _ _ _ _ h=>awr a (uI a n) h,fun _ _ _ _ h=>aws a (uI a n) h,fun _ _ _ _ _ h=>Nv a (uI a n c) h,fun _ _ _ _ h=>avY a (uI a n) h,fun _ _ _ _ h=>Zo (fun _ _ _ _ _ b=>Nv a (uI a n c) b) h⟩
theorem reckon{f:aT}{vs:List PV}{v:PV}(n:Nat)(a:nU P pl)(h:pR P ah pl (kI P ah pl n) f vs=some v):az P f vs v:=xO a (uI a n) h
end
section
variable{P:a0}{ah:aT->Bool}
theorem az.dw{f:aT}{args d:List PV}{v v':PV}(h:az P f args v)(g:bI d args)(i:Wk v v'):az P f d v':=by
 rcases h with h|h
 ·refine .inl ⟨h.1,fun w ad a j k c=>(h.2 w ad a j k (bu.dw _ _ _ g c)).mono ?_⟩;rintro e w' ⟨b,aF,k1,k2,k3,k4,k5,k6,l,k7⟩;exact⟨b,aF,k1,k2,k3,k4,k5,k6,l,aC.dw _ _ _ i k7⟩
 ·refine .inr fun w ad a c=>?_;obtain⟨b,k1,k2⟩:=h w ad a (bu.dw _ _ _ g c);exact⟨b,k1,aC.dw _ _ _ i k2⟩
def BW(P:a0)(a:List a1)(v:PV)(e:bD)(s:St):Prop:=
 (match e with
  | .exit _=>False
  |_=>True)/\∃vs,fX P s a=some vs/\∃v',eQ s.heap 9 (oneOf vs)=some v'/\Wk v' v
theorem atF{a:List a1}{v:PV}{s:St}:BW P a v .ret s=∃vs,fX P s a=some vs/\∃v',eQ s.heap 9 (oneOf vs)=some v'/\Wk v' v:=by simp[BW]
theorem Yl{a:List a1}{v:PV}{s:St}:BW P a v .normal s=∃vs,fX P s a=some vs/\∃v',eQ s.heap 9 (oneOf vs)=some v'/\Wk v' v:=by simp[BW]
theorem oc.dw{f:aT}{args a:List PV}{v v':PV}(h:oc P f args v)(j:bI a args)(k:Wk v v'):oc P f a v':=by
 refine⟨h.1,fun w ad b d g i=>(h.2 w ad b d g (bu.dw _ _ _ j i)).mono ?_⟩;rintro e w' ⟨c,aF,k1,k2,k3,k4,k5,k6,l,k7⟩;exact⟨c,aF,k1,k2,k3,k4,k5,k6,l,aC.dw _ _ _ k k7⟩
theorem MM{dst:Option Tmp}{h:Nat}{pos:String}{af:Array Edge}{g:Option (Nat×Bool)}{env:Env}{heap:Heap}{L:St->Prop}{f:aT}{fi ca:Array ax}(hf:ah f=false):
 dI P ah ⟨dst,.makeFunc (.func f) fi ca,h,pos,af,g⟩ L ⟨env,heap⟩=bp (tt f (fi.toList.map (ev env)) (ca.toList.map (ev env))) (eO dst ⟨env,heap⟩ L):=by
 simp only[dI,lV,fR,hf,tt,av,if_false]
 split
 ·rename_i c d;simp only[c,d,bp,true_and]
 ·rename_i c
  split
  ·rename_i a b d e;exact(c a b d e).elim
  ·simp only[bp,true_and]
theorem Mq{dst:Option Tmp}{h:Nat}{pos:String}{af:Array Edge}{g:Option (Nat×Bool)}{env:Env}{heap:Heap}{K:aZ->Prop}{f:aT}{fi ca:Array ax}(hf:ah f=false):
 dJ P ah ⟨dst,.makeFunc (.func f) fi ca,h,pos,af,g⟩ ⟨env,heap⟩ K=bp (tt f (fi.toList.map (ev env)) (ca.toList.map (ev env))) K:=by
 simp only[dJ,lV,fR,hf,tt,av,if_false]
 split
 ·rename_i c d;simp only[c,d,bp,true_and]
 ·rename_i c
  split
  ·rename_i a b d e;exact(c a b d e).elim
  ·simp only[bp,true_and]
section guards
variable{ops:Array Oper}{o:Oper}{r:List Oper}{K:St->Prop}{want t:Bool}{s:St}{i:Nat}{acc:List Touch}
theorem Mf:Bw P ah ops o r K want s (.p (.bool t))=if t=want then dI P ah o (gL P ah ops r K) s else gL P ah ops r K ⟨put o.dst (.p (.aD [])) s.env,s.heap⟩:=(rfl)
theorem MQ:Bw P ah ops o r K want s (.p (.aD []))=gL P ah ops r K ⟨put o.dst (.p (.aD [])) s.env,s.heap⟩:=(rfl)
theorem LB:Bg P ah ops o r i acc K want s (.p (.bool t))=if t=want then dJ P ah o s (yI P ah ops r i acc K o.dst s)else gW P ah ops r (i+1) acc K ⟨put o.dst (.p (.aD [])) s.env,s.heap⟩:=(rfl)
theorem Me:Bg P ah ops o r i acc K want s (.p (.aD []))=gW P ah ops r (i+1) acc K ⟨put o.dst (.p (.aD [])) s.env,s.heap⟩:=(rfl)
theorem Yj{l:List Oper}{j:Nat}{e:Env}:guardOf l.toArray j e=match(l[j]?).bind (·.dst)with
 |some d=>aS e d
 |none=>.p (.aD []):=by simp only[guardOf,List.getElem?_toArray];cases l[j]?.bind (·.dst)<;>rfl
end guards
section calls
variable{f:aT}{H H1:Heap}{K:AV->Heap->Prop}{L:aZ->Prop}{v a b c d e a' b' c' d' e':PV}{dr:Bool}
theorem cw0(h:az P f [] v)(hk:K (.p v) H):iH P dr f [] H K:=.inl ⟨[],v,rfl,h,hk⟩
theorem cw1(h:az P f [a'] v)(hk:K (.p v) H)(b:Wk a a':=by first|exact Wk.refl _|simp[Wk,bI]):iH P dr f [.p a] H K:=.inl ⟨[a],v,rfl,h.dw (by simp only[bI];exact⟨b,trivial⟩) (Wk.refl _),hk⟩
theorem cw2(h:az P f [a',b'] v)(hk:K (.p v) H)(c:Wk a a':=by first|exact Wk.refl _|simp[Wk,bI])(d:Wk b b':=by first|exact Wk.refl _|simp[Wk,bI]):iH P dr f [.p a,.p b] H K:=
 .inl ⟨[a,b],v,rfl,h.dw (by simp only[bI];exact⟨c,d,trivial⟩) (Wk.refl _),hk⟩
theorem cw3(h:az P f [a',b',c'] v)(hk:K (.p v) H)(d:Wk a a':=by first|exact Wk.refl _|simp[Wk,bI])(e:Wk b b':=by first|exact Wk.refl _|simp[Wk,bI])(g:Wk c c':=by first|exact Wk.refl _|simp[Wk,bI]):iH P dr f [.p a,.p b,.p c] H K:=
 .inl ⟨[a,b,c],v,rfl,h.dw (by simp only[bI];exact⟨d,e,g,trivial⟩) (Wk.refl _),hk⟩
theorem cw4(h:az P f [a',b',c',d'] v)(hk:K (.p v) H)(e:Wk a a':=by first|exact Wk.refl _|simp[Wk,bI])(g:Wk b b':=by first|exact Wk.refl _|simp[Wk,bI])(i:Wk c c':=by first|exact Wk.refl _|simp[Wk,bI])(j:Wk d d':=by first|exact Wk.refl _|simp[Wk,bI]):iH P dr f [.p a,.p b,.p c,.p d] H K:=
 .inl ⟨[a,b,c,d],v,rfl,h.dw (by simp only[bI];exact⟨e,g,i,j,trivial⟩) (Wk.refl _),hk⟩
theorem cw5(h:az P f [a',b',c',d',e'] v)(hk:K (.p v) H)(g:Wk a a':=by first|exact Wk.refl _|simp[Wk,bI])(i:Wk b b':=by first|exact Wk.refl _|simp[Wk,bI])(j:Wk c c':=by first|exact Wk.refl _|simp[Wk,bI])(k:Wk d d':=by first|exact Wk.refl _|simp[Wk,bI])(l:Wk e e':=by first|exact Wk.refl _|simp[Wk,bI]):iH P dr f [.p a,.p b,.p c,.p d,.p e] H K:=
 .inl ⟨[a,b,c,d,e],v,rfl,h.dw (by simp only[bI];exact⟨g,i,j,k,l,trivial⟩) (Wk.refl _),hk⟩
theorem ce0(h:az P f [] v)(hk:L {v:=.p v}):iO P f [] H L:=.inl ⟨[],v,rfl,h,hk⟩
theorem ce1(h:az P f [a'] v)(hk:L {v:=.p v})(b:Wk a a':=by first|exact Wk.refl _|simp[Wk,bI]):iO P f [.p a] H L:=.inl ⟨[a],v,rfl,h.dw (by simp only[bI];exact⟨b,trivial⟩) (Wk.refl _),hk⟩
theorem ce2(h:az P f [a',b'] v)(hk:L {v:=.p v})(c:Wk a a':=by first|exact Wk.refl _|simp[Wk,bI])(d:Wk b b':=by first|exact Wk.refl _|simp[Wk,bI]):iO P f [.p a,.p b] H L:=
 .inl ⟨[a,b],v,rfl,h.dw (by simp only[bI];exact⟨c,d,trivial⟩) (Wk.refl _),hk⟩
theorem ce3(h:az P f [a',b',c'] v)(hk:L {v:=.p v})(d:Wk a a':=by first|exact Wk.refl _|simp[Wk,bI])(e:Wk b b':=by first|exact Wk.refl _|simp[Wk,bI])(g:Wk c c':=by first|exact Wk.refl _|simp[Wk,bI]):iO P f [.p a,.p b,.p c] H L:=
 .inl ⟨[a,b,c],v,rfl,h.dw (by simp only[bI];exact⟨d,e,g,trivial⟩) (Wk.refl _),hk⟩
theorem ce4(h:az P f [a',b',c',d'] v)(hk:L {v:=.p v})(e:Wk a a':=by first|exact Wk.refl _|simp[Wk,bI])(g:Wk b b':=by first|exact Wk.refl _|simp[Wk,bI])(i:Wk c c':=by first|exact Wk.refl _|simp[Wk,bI])(j:Wk d d':=by first|exact Wk.refl _|simp[Wk,bI]):iO P f [.p a,.p b,.p c,.p d] H L:=
 .inl ⟨[a,b,c,d],v,rfl,h.dw (by simp only[bI];exact⟨e,g,i,j,trivial⟩) (Wk.refl _),hk⟩
theorem ce5(h:az P f [a',b',c',d',e'] v)(hk:L {v:=.p v})(g:Wk a a':=by first|exact Wk.refl _|simp[Wk,bI])(i:Wk b b':=by first|exact Wk.refl _|simp[Wk,bI])(j:Wk c c':=by first|exact Wk.refl _|simp[Wk,bI])(k:Wk d d':=by first|exact Wk.refl _|simp[Wk,bI])(l:Wk e e':=by first|exact Wk.refl _|simp[Wk,bI]):iO P f [.p a,.p b,.p c,.p d,.p e] H L:=
 .inl ⟨[a,b,c,d,e],v,rfl,h.dw (by simp only[bI];exact⟨g,i,j,k,l,trivial⟩) (Wk.refl _),hk⟩
theorem cwp{args:List AV}{vs a:List PV}(h:az P f a v)(c:oG H args=some (vs,H1))(hk:K (.p v) H1)(b:bI vs a:=by first|exact bI.refl _|simp[Wk,bI]):iH P false f args H K:=
 .inr ⟨rfl,.inl ⟨vs,H1,v,c,h.dw b (Wk.refl _),hk⟩⟩
theorem cep{args:List AV}{vs a:List PV}{bs:List Nat}{al aM:List (Nat×Obj)}(h:az P f a v)(c:pG H args=some (vs,bs))(hf:mh H bs=some (al,aM))(hk:L {v:=.p v,al,aM})(b:bI vs a:=by first|exact bI.refl _|simp[Wk,bI]):iO P f args H L:=
 .inr (.inl ⟨vs,bs,al,aM,v,c,hf,h.dw b (Wk.refl _),hk⟩)
end calls
theorem IV{f:aT}{pre post:List PV}{v:PV}(a:oc P f (pre++ .aH::post) v)(b:oc P f (pre++ .bF false []::post) v):oc P f (pre++ .seq []::post) v:=by
 have split:∀{w:a4}{ad:Nat->Prop}{c:List a3}{pre:List PV},bu P w ad (pre++ .seq []::post) c->bu P w ad (pre++ .aH::post) c\/bu P w ad (pre++ .bF false []::post) c:=by
  intro w ad c pre
  induction pre generalizing c with
  |nil=>
   intro h;simp only[List.nil_append,bu]at h⊢;obtain⟨y,d,e,a,b⟩:=h;rcases Vg.1 a with⟨_,h⟩|h
   ·exact .inl ⟨y,d,e,h,b⟩
   ·exact .inr ⟨y,d,e,h,b⟩
  |cons p pre i=>
   intro h;simp only[List.cons_append,bu]at h⊢;obtain⟨y,d,e,a,b⟩:=h;rcases i b with h|h
   ·exact .inl ⟨y,d,e,a,h⟩
   ·exact .inr ⟨y,d,e,a,h⟩
 refine⟨a.1,fun w ad g k1 k2 k3=>?_⟩;rcases split k3 with h|h
 ·exact a.2 w ad g k1 k2 h
 ·exact b.2 w ad g k1 k2 h
def KV(T:Heap)(a v:AV):Prop:=a=v\/Gh T a v
theorem Ve{T:Heap}{v:AV}:KV T v v=True:=by simp[KV]
theorem Vc{T:Heap}{b ar ak off len:Nat}:KV T (.p .aH) (.sl b ar ak off len)=(ar=0/\off=0/\len=0/\∃k z,T[b]?=some (.arr k 0 z [])/\k.gr=true):=by simp[KV,Gh,gE]
theorem Vf{T:Heap}{u u':ay}{fs:List PV}{a:List AV}:KV T (.p (.st u fs)) (.st u' a)=(u=u'/\l7 T fs a):=by simp[KV,Gh,gE]
def mT(T:Heap)(e:Env):Env->Prop
 |[]=>True
 |(x,v)::r=>KV T (aS e x) v/\mT T e r
def KO(T:Heap)(o:Obj):Obj->Prop
 | .hole=>True
 | .box false v'=>match o with
  | .box false v=>KV T v v'
  |_=>False
 | .arr k ar z es=>(o=.hole/\ar=0/\es=[]/\k.gr=true)\/o=.arr k ar z es
 |o'=>o=o'
def KN:Obj->Prop
 | .hole=>True
 | .arr k ar _ es=>ar=0/\es=[]/\k.gr=true
 |_=>False
def iK(T:Heap):Heap->Heap->Prop
 |_,[]=>True
 |[],o'::t=>KN o'/\iK T [] t
 |o::h,o'::t=>KO T o o'/\iK T h t
theorem mT.get{T:Heap}{e:Env}:∀{t:Env},mT T e t->∀x,aS t x=aS e x\/aS t x=.p .undef\/Gh T (aS e x) (aS t x)
 |[],_,x=>.inr (.inl rfl)
 |(y,v)::t,h,x=>by
  simp only[mT]at h;simp only[aS]
  split
  ·rename_i hx;subst hx;rcases h.1 with h|h
   ·exact .inl h.symm
   ·exact .inr (.inr h)
  ·exact mT.get h.2 x
theorem iK.get{T:Heap}:∀{h t:Heap},iK T h t->∀(b:Nat)(o:Obj),t[b]?=some o->
 o=.hole\/h[b]?=some o\/((h[b]?=none\/h[b]?=some .hole)/\∃k z,o=.arr k 0 z []/\k.gr=true)\/(∃v v',h[b]?=some (.box false v)/\o=.box false v'/\Gh T v v')
 |_,[],_,b,o,c=>by simp at c
 |[],o'::t,hk,b,o,c=>by
  simp only[iK]at hk;cases b with
  |zero=>
   simp at c;subst c;cases o'<;>have a:=hk.1<;>simp only[KN]at a
   ·exact .inl rfl
   ·obtain⟨rfl,rfl,d⟩:=a;exact .inr (.inr (.inl ⟨.inl rfl,_,_,rfl,d⟩))
  |succ b=>simpa using iK.get hk.2 b o (by simpa using c)
 |e::h,o'::t,hk,b,o,c=>by
  simp only[iK]at hk;cases b with
  |zero=>
   simp at c;subst c;have a:=hk.1;cases o' with
   |hole=>exact .inl rfl
   |dead=>simp only[KO]at a;subst a;exact .inr (.inl rfl)
   |map fz es=>simp only[KO]at a;subst a;exact .inr (.inl rfl)
   |dK ks vs=>simp only[KO]at a;subst a;exact .inr (.inl rfl)
   |dO s p=>simp only[KO]at a;subst a;exact .inr (.inl rfl)
   |loop L=>simp only[KO]at a;subst a;exact .inr (.inl rfl)
   |arr k ar z es=>
    simp only[KO]at a;rcases a with⟨rfl,rfl,rfl,d⟩|rfl
    ·exact .inr (.inr (.inl ⟨.inr rfl,_,_,rfl,d⟩))
    ·exact .inr (.inl rfl)
   |box fz v'=>
    cases fz with
    |true=>simp only[KO]at a;subst a;exact .inr (.inl rfl)
    |false=>
     simp only[KO]at a
     split at a
     ·rcases a with rfl|a
      ·exact .inr (.inl rfl)
      ·exact .inr (.inr (.inr ⟨_,_,rfl,rfl,a⟩))
     ·exact a.elim
  |succ b=>simpa using iK.get hk.2 b o (by simpa using c)
theorem cW.og{N:Nat}{s t:St}(d:t.heap.take N=s.heap.take N)(c:mT t.heap s.env t.env)(hh:iK t.heap s.heap t.heap)(hr:iZ t.heap t.env)(hr2:eg t.heap t.heap):cW N s t:=by
 refine .inr ⟨⟨c.get,hh.get,hr.get,hr2.get⟩,fun b a=>?_⟩;have:=congrArg (fun l:Heap=>l[b]?) d;simpa[List.getElem?_take,a]using this
theorem QF{T:Heap}{o:Obj}:KO T o o=True:=by
 cases o with
 |box fz v=>cases fz<;>simp[KO,KV]
 |_=>simp[KO]
theorem Va{T:Heap}{o:Obj}:KO T o .hole=True:=by simp[KO]
theorem U9{T:Heap}{v v':AV}:KO T (.box false v) (.box false v')=KV T v v':=(rfl)
theorem Vb{T:Heap}{k:AK}{ar z:Nat}{a:List AV}:KO T .hole (.arr k ar z a)=(ar=0/\a=[]/\k.gr=true):=by simp[KO]
theorem U8:KN .hole=True:=(rfl)
theorem U7{k:AK}{ar z:Nat}{a:List AV}:KN (.arr k ar z a)=(ar=0/\a=[]/\k.gr=true):=(rfl)
theorem Vd{T:Heap}{x y:PV}:KV T (.p x) (.p y)=(x=y):=by
 have:Gh T (.p x) (.p y)↔x=y:=by cases x<;>simp[Gh,gE,eq_comm]
 simp[KV,this]
def wz{α:Type}(N:Nat)(mk:α->St)(ok:α->Prop)(m:α->Nat)(n:Nat)(s:St):Prop:=∃a',m a'<n/\ok a'/\cW N s (mk a')
def tu{α:Type}(N:Nat)(mk:α->St)(ok:α->Prop)(m:α->Nat)(n:Nat)(Q:bD->St->Prop)(e:bD)(s:St):Prop:=
 match e with
 | .normal=>wz N mk ok m n s
 |e=>Q e s
section
variable{α:Type}{N:Nat}{mk:α->St}{ok:α->Prop}{m:α->Nat}{n:Nat}{Q:bD->St->Prop}{s s':St}{q:Cx}
theorem XX:tu N mk ok m n Q .normal s=wz N mk ok m n s:=(rfl)
theorem Zi{id:Nat}:tu N mk ok m n Q (.exit id) s=Q (.exit id) s:=(rfl)
theorem as8:tu N mk ok m n Q .ret s=Q .ret s:=(rfl)
theorem wl{b:Code}(mk:α->St)(ok:α->Prop)(m:α->Nat)(c:α)(l:ok c)(iM:∀a,ok a->dG P ah q b (tu q.2 mk ok m (m a) Q) (mk a))
 (k:(mk c).heap.take q.2=s.heap.take q.2:=by simp)(i:mT (mk c).heap s.env (mk c).env:=by simp)(j:iK (mk c).heap s.heap (mk c).heap:=by simp)(o:iZ (mk c).heap (mk c).env:=by simp)(p:eg (mk c).heap (mk c).heap:=by simp):
 dG P ah q (.loop b) Q s:=by
 simp only[dG];refine⟨fun n t=>∃a,ok a/\t=mk a/\n=m a,⟨m c,mk c,cW.og k i j o p,c,l,rfl,rfl⟩,?_⟩;rintro n t ⟨a,h,rfl,rfl⟩;have:tu q.2 mk ok m (m a) Q=vo q.2 (m a) (fun n t=>∃a,ok a/\t=mk a/\n=m a) Q:=by
  funext e s
  cases e with
  |normal=>
   simp only[tu,vo,wz,eq_iff_iff];constructor
   ·rintro⟨a',d,f,g⟩;exact⟨m a',mk a',d,g,a',f,rfl,rfl⟩
   ·rintro⟨_,_,d,g,a',f,rfl,rfl⟩;exact⟨a',d,f,g⟩
  |exit id=>rfl
  |ret=>rfl
 rw[<-this];exact iM a h
theorem rnd(a':α)(b:ok a')(a:m a'<n:=by omega)(e:(mk a').heap.take N=s.heap.take N:=by simp)(c:mT (mk a').heap s.env (mk a').env:=by simp)(d:iK (mk a').heap s.heap (mk a').heap:=by simp)(f:iZ (mk a').heap (mk a').env:=by simp)(g:eg (mk a').heap (mk a').heap:=by simp):
 wz N mk ok m n s:=⟨a',a,b,cW.og e c d f g⟩
end
theorem aK(n:Int)(h:-9223372036854775808<=n)(a:n<=9223372036854775807):IntKind.i64.wrap n=n:=IntWalk.i64_in n ⟨h,a⟩
theorem CO(a b:Int):(a<b/\¬b<=a)\/(¬a<b/\b<=a):=o_
theorem bS{i:Nat}(h:i<4611686018427387904):IntKind.i64.wrap ((i:Int)+1)=(i:Int)+1:=aK _ o_ o_
attribute [simp] Wk bI aL Obj.has Mf MQ LB Me Yj MM Mq tt XX Zi as8 mT iK Ve Vd Vc Vf QF Va U9 Vb U8 U7 l7 gE AK.gr iZ eg aE Obj.refs
attribute [simp] atF Yl Wk.refl bI.refl
end
end Go.an
namespace Go.an
variable[Gl]
mutual
def eE:PV->Prop
 | .str s=>∀c∈s,c<256
 | .cG t=>eE t
 | .bF _ es| .seq es| .st _ es| .aD es=>mW es
 |_=>True
def mW:List PV->Prop
 |[]=>True
 |v::vs=>eE v/\mW vs
end
section
variable{P:a0}{w:a4}{ad:Nat->Prop}
theorem OH(bs:ByteArray):∀c∈bs.data.toList.map (·.toNat),c<256:=by
 intro c hc;simp only[bo]at hc;obtain⟨b,_,rfl⟩:=hc;exact UInt8.toNat_lt b
mutual
theorem aY.eE:∀(v:PV)(cs:List a3),aY P w ad v cs->eE v
 | .str s,cs,h=>by simp only[aY]at h;obtain⟨bs,_,rfl⟩:=h;simp only[an.eE];exact OH bs
 | .cG t,cs,h=>by simp only[aY]at h;obtain⟨_,_,ts,a,_⟩:=h;simp only[an.eE];exact aY.eE t ts a
 | .bF f b,cs,h=>by simp only[aY]at h;obtain⟨_,_,_,_,d,a,_⟩:=h;simp only[an.eE];exact bm.eE _ b d a
 | .seq b,cs,h=>by
  simp only[aY]at h;simp only[an.eE];rcases h with⟨rfl,_⟩|⟨_,_,_,_,d,a,_⟩
  ·trivial
  ·exact bm.eE _ b d a
 | .st u b,cs,h=>by simp only[aY]at h;obtain⟨l,d,_,a,_⟩:=h;simp only[an.eE];exact bm.eE _ b d a
 | .aD b,cs,h=>by simp[aY]at h
 | .undef,_,_| .bool _,_,_| .int _ _,_,_| .dX,_,_| .aH,_,_| .fM,_,_| .jb,_,_| .gK,_,_| .fu _,_,_| .func _ _ _,_,_=>by simp[an.eE]
theorem bm.eE:∀(l:List Nat)(b:List PV)(d:List (List a3)),bm P w ad l b d->mW b
 |_,[],_,_=>by simp[an.mW]
 |[],_::_,_,h=>by simp[bm]at h
 |n::l,v::vs,d,h=>by
  simp only[bm]at h;obtain⟨c,cs,_,a,_,g⟩:=h;simp only[an.mW];exact⟨aY.eE v c a,bm.eE l vs cs g⟩
theorem aC.eE:∀(v:PV)(x:a3),aC P w ad v x->eE v
 | .str s,cs,h=>by simp only[aC]at h;obtain⟨bs,_,rfl⟩:=h;simp only[an.eE];exact OH bs
 | .cG t,cs,h=>by simp only[aC]at h;obtain⟨_,_,ts,a,_⟩:=h;simp only[an.eE];exact aY.eE t ts a
 | .bF f b,cs,h=>by simp only[aC]at h;obtain⟨_,_,_,_,d,a,_⟩:=h;simp only[an.eE];exact bm.eE _ b d a
 | .seq b,cs,h=>by
  simp only[aC]at h;simp only[an.eE];rcases h with⟨rfl,_⟩|⟨_,_,_,_,d,a,_⟩
  ·trivial
  ·exact bm.eE _ b d a
 | .st u b,cs,h=>by simp only[aC]at h;obtain⟨l,d,_,a,_⟩:=h;simp only[an.eE];exact bm.eE _ b d a
 | .aD b,cs,h=>by simp only[aC]at h;obtain⟨e,a,_⟩:=h;simp only[an.eE];exact bu.eE b e a
 | .undef,_,_| .bool _,_,_| .int _ _,_,_| .dX,_,_| .aH,_,_| .fM,_,_| .jb,_,_| .gK,_,_| .fu _,_,_| .func _ _ _,_,_=>by simp[an.eE]
theorem bu.eE:∀(b:List PV)(e:List a3),bu P w ad b e->mW b
 |[],_,_=>by simp[an.mW]
 |v::vs,e,h=>by
  simp only[bu]at h;obtain⟨y,i,_,a,g⟩:=h;simp only[an.mW];exact⟨aC.eE v y a,bu.eE vs i g⟩
end
theorem VO{f:aT}{args:List PV}{v:PV}(h:mW args->az P f args v):az P f args v:=by
 by_cases hs:mW args
 ·exact h hs
 ·exact .inr fun w ad b a=>(hs (bu.eE _ _ a)).elim
end
end Go.an
namespace Go.an
variable[Gl]
@[reducible] def Tg{α:Type}(_:α)(β:Type):Type:=β
@[reducible] def Tg1{α:Type 1}(_:α)(β:Type):Type:=β
section
variable(P:a0)(ah:aT->Bool)
def fg(q:Cx)(c:Code)(Q:bD->St->Prop)(s:Tg (q,c,Q) St):Prop:=dG P ah q c Q s
def rH(a:Array Oper)(l:List Oper)(K:St->Prop)(s:Tg (a,l,K) St):Prop:=gL P ah a l K s
def tC(b:Array Oper)(l:List Oper)(i:Nat)(a:List Touch)(K:St->Prop)(s:Tg (b,l,i,a,K) St):Prop:=gW P ah b l i a K s
def CA(K:St->Prop)(Q:bD->St->Prop)(e:Tg (K,Q) bD)(s:Tg (K,Q) St):Prop:=vW K Q e s
def sY(id:Nat)(Q:bD->St->Prop)(e:Tg (id,Q) bD)(s:Tg (id,Q) St):Prop:=pD id Q e s
def SP(a b:St->Prop)(s:St)(v:Tg (a,b,s) AV):Prop:=vu v a b s
def FV(b:Array Oper)(r:List Oper)(i:Nat)(a:List Touch)(K:St->Prop)(dst:Option Tmp)(s:St)(e:Tg (b,r,i,a,K,dst,s) aZ):Prop:=yI P ah b r i a K dst s e
def fa(dst:Option Tmp)(s:St)(K:St->Prop)(e:Tg (dst,s,K) aZ):Prop:=eO dst s K e
def Uz(dst:Option Tmp)(s:St)(K:St->Prop)(v:Tg (dst,s,K) AV)(H:Tg (dst,s,K) Heap):Prop:=Cv dst s K v H
def FZ(a:Array Oper)(o:Oper)(r:List Oper)(K:St->Prop)(b:Bool)(s:St)(g:Tg (a,o,r,K,b,s) AV):Prop:=Bw P ah a o r K b s g
def Fg(b:Array Oper)(o:Oper)(r:List Oper)(i:Nat)(a:List Touch)(K:St->Prop)(c:Bool)(s:St)(g:Tg (b,o,r,i,a,K,c,s) AV):Prop:=Bg P ah b o r i a K c s g
def eJ(o:Oper)(K:St->Prop)(s:St)(_:Tg (o,K,s) Unit):Prop:=dI P ah o K s
def eD(o:Oper)(s:St)(K:aZ->Prop)(_:Tg (o,K,s) Unit):Prop:=dJ P ah o s K
def cT(K:aZ->Prop)(r:Tg K ff):Prop:=bp r K
def B3(H:Heap)(K:AV->Heap->Prop)(f:Tg (H,K) AV)(args:Tg (H,K) (List AV)):Prop:=tq P f args H K
def F2(H:Heap)(K:aZ->Prop)(f:Tg (H,K) AV)(args:Tg (H,K) (List AV)):Prop:=sW P f args H K
def lK(d:Bool)(f:aT)(K:AV->Heap->Prop)(args:Tg K (List AV))(H:Tg K Heap):Prop:=iH P d f args H K
def nV(f:aT)(K:aZ->Prop)(args:Tg K (List AV))(H:Tg K Heap):Prop:=iO P f args H K
def tI(R:AV->PV->Prop):List AV->List PV->Prop
 |[],vs=>vs=[]
 |x::xs,vs=>match vs with
  |v::vs=>R x v/\tI R xs vs
  |[]=>False
def gQ(H:Heap):Nat->AV->PV->Prop
 |0=>fun x v=>match x with
  | .p a=>Wk a v
  |_=>False
 |n+1=>fun x v=>match x with
  | .p a=>Wk a v
  | .sl b ar z off len=>match v with
   | .seq fs=>match H[b]? with
    |some (.arr _ e h es)=>ar=e/\z=h/\off+len<=es.length/\tI (gQ H n) ((es.drop off).take len) fs
    |_=>False
   |_=>False
  | .st u xs=>match v with
   | .st u' vs=>u=u'/\tI (gQ H n) xs vs
   |_=>False
  | .aD xs=>match v with
   | .aD vs=>tI (gQ H n) xs vs
   |_=>False
  | .ptr b path=>match v with
   | .cG t=>match H[b]? with
    |some (.box _ y)=>match fk y path with
     |some s=>gQ H n s t
     |none=>False
    |_=>False
   |_=>False
  | .map b=>match v with
   | .fu es=>match H[b]? with
    |some (.map _ c)=>c=es
    |_=>False
   |_=>False
  | .func f xs g=>match v with
   | .func d vs us=>f=d/\tI (gQ H n) xs vs/\tI (gQ H n) g us
   |_=>False
  |_=>False
def ku(H:Heap)(n:Nat):List AV->List PV->Prop:=tI (gQ H n)
def tL(a:List a1)(v:PV)(e:Tg (a,v) bD)(s:Tg (a,v) St):Prop:=
 (match e with
  | .exit _=>False
  |_=>True)/\∃vs,fX P s a=some vs/\gQ (St.heap s) 9 (oneOf vs) v
def Bq(a:Array Oper)(l:Tg a (List Touch)):Bool:=lB a l
def aPZ(a:Array Oper)(i j:Tg a Nat):Bool:=reach a a.size i j
end
section
variable{P:a0}{ah:aT->Bool}{q:Cx}
theorem aRf{Q:bD->St->Prop}{s:St}:fg P ah q .skip Q s=Q .normal s:=Q0
theorem auS{l:Nat}{Q:bD->St->Prop}{s:St}:fg P ah q (.label l) Q s=Q .normal s:=PN
theorem aRd{id:Nat}{Q:bD->St->Prop}{s:St}:fg P ah q (.exit id) Q s=Q (.exit id) s:=Q1
theorem aRe{Q:bD->St->Prop}{s:St}:fg P ah q .ret Q s=Q .ret s:=U1
theorem auQ{b:Code}{Q:bD->St->Prop}{s:St}:fg P ah q (.scope b) Q s=fg P ah q b Q s:=PL
theorem aRc{id:Nat}{l:List Oper}{Q:bD->St->Prop}{s:St}:fg P ah q (.region id l.toArray true) Q s=tC P ah l.toArray l 0 [] (Q .normal) s:=Q2
theorem auR{id:Nat}{l:List Oper}{Q:bD->St->Prop}{s:St}:fg P ah q (.region id l.toArray false) Q s=rH P ah l.toArray l (Q .normal) s:=PM
theorem bB{a b:Code}{Q:bD->St->Prop}{s:St}:fg P ah q (.seq a b) Q s=fg P ah q a (CA (fg P ah q b Q) Q) s:=U2
theorem OC{id:Nat}{b:Code}{Q:bD->St->Prop}{s:St}:fg P ah q (.block id b) Q s=fg P ah q b (sY id Q) s:=PO
theorem aRb{c:ax}{a b:Code}{Q:bD->St->Prop}{s:St}:fg P ah q (.cond c a b) Q s=SP (fg P ah q a Q) (fg P ah q b Q) s (ev s.env c):=Q3
theorem X0{K:St->Prop}{Q:bD->St->Prop}{s:St}:CA K Q .normal s=K s:=L6
theorem ZE{id:Nat}{K:St->Prop}{Q:bD->St->Prop}{s:St}:CA K Q (.exit id) s=Q (.exit id) s:=Nt
theorem ZK{K:St->Prop}{Q:bD->St->Prop}{s:St}:CA K Q .ret s=Q .ret s:=Ov
theorem Yx{t:Bool}{a b:St->Prop}{s:St}:SP a b s (.p (.bool t))=if t then a s else b s:=Ms
theorem at5{b:Array Oper}{r:List Oper}{i:Nat}{a:List Touch}{K:St->Prop}{dst:Option Tmp}{env:Env}{heap:Heap}{v:AV}{al aM:List (Nat×Obj)}{aX:List Obj}:FV P ah b r i a K dst ⟨env,heap⟩ ⟨v,al,aM,aX⟩=tC P ah b r (i+1) (iI i heap.length ⟨v,al,aM,aX⟩ a) K ⟨put dst v env,ba heap aM++aX⟩:=OY
theorem awL{dst:Option Tmp}{env:Env}{heap:Heap}{K:St->Prop}{v:AV}{al aM:List (Nat×Obj)}{aX:List Obj}:fa dst ⟨env,heap⟩ K ⟨v,al,aM,aX⟩=K ⟨put dst v env,ba heap aM++aX⟩:=QC
theorem avl{dst:Option Tmp}{env:Env}{heap H:Heap}{K:St->Prop}{v:AV}:Uz dst ⟨env,heap⟩ K v H=K ⟨put dst v env,H⟩:=Qc
theorem aRg{b:Array Oper}{i:Nat}{a:List Touch}{K:St->Prop}{s:St}:tC P ah b [] i a K s=(Bq b a=true/\K s):=QZ
theorem auP{b:Array Oper}{i c:Nat}{pos:String}{a:List Touch}{K:St->Prop}{s:St}{dst:Option Tmp}{op:Op}{af:Array Edge}{r:List Oper}:tC P ah b ({dst,op,type:=c,pos,after:=af,guard:=none}::r) i a K s=eD P ah {dst,op,type:=c,pos,after:=af,guard:=none} s (FV P ah b r i a K dst s) ():=PK
theorem Z5{a:Array Oper}{i d j:Nat}{b:Bool}{pos:String}{c:List Touch}{K:St->Prop}{s:St}{dst:Option Tmp}{op:Op}{af:Array Edge}{r:List Oper}:tC P ah a ({dst,op,type:=d,pos,after:=af,guard:=some (j,b)}::r) i c K s=Fg P ah a {dst,op,type:=d,pos,after:=af,guard:=some (j,b)} r i c K b s (guardOf a j s.env):=OB
theorem aRm{a:Array Oper}{K:St->Prop}{s:St}:rH P ah a [] K s=K s:=QX
theorem auO{a:Array Oper}{b:Nat}{pos:String}{K:St->Prop}{s:St}{dst:Option Tmp}{op:Op}{af:Array Edge}{r:List Oper}:rH P ah a ({dst,op,type:=b,pos,after:=af,guard:=none}::r) K s=eJ P ah {dst,op,type:=b,pos,after:=af,guard:=none} (rH P ah a r K) s ():=PI
theorem Z4{a:Array Oper}{c j:Nat}{b:Bool}{pos:String}{K:St->Prop}{s:St}{dst:Option Tmp}{op:Op}{af:Array Edge}{r:List Oper}:rH P ah a ({dst,op,type:=c,pos,after:=af,guard:=some (j,b)}::r) K s=FZ P ah a {dst,op,type:=c,pos,after:=af,guard:=some (j,b)} r K b s (guardOf a j s.env):=OA
section ops
variable{dst:Option Tmp}{ty:Nat}{pos:String}{af:Array Edge}{g:Option (Nat×Bool)}{env:Env}{heap:Heap}{K:aZ->Prop}{L:St->Prop}
theorem aDQ{x:ax}:eD P ah ⟨dst,.move x,ty,pos,af,g⟩ ⟨env,heap⟩ K ()=K {v:=ev env x}:=R8
theorem atX{x:ax}:eD P ah ⟨dst,.assign x,ty,pos,af,g⟩ ⟨env,heap⟩ K ()=K {v:=ev env x}:=OW
theorem aDT{c a b:ax}:eD P ah ⟨dst,.pick c a b,ty,pos,af,g⟩ ⟨env,heap⟩ K ()=cT K (tA (ev env c) (ev env a) (ev env b)):=R6
theorem awj{T:ay}:eD P ah ⟨dst,.alloc T,ty,pos,af,g⟩ ⟨env,heap⟩ K ()=cT K (sZ P T heap.length):=Qp
theorem aDy{T:ay}{x:ax}:eD P ah ⟨dst,.box T x,ty,pos,af,g⟩ ⟨env,heap⟩ K ()=cT K (vI P T heap.length (ev env x)):=SV
theorem awi{T:ay}{a:Array (Nat×ax)}:eD P ah ⟨dst,.build T a,ty,pos,af,g⟩ ⟨env,heap⟩ K ()=cT K (sX P T (a.toList.map fun(i,x)=>(i,ev env x))):=Qo
theorem Xz{T:ay}{n:Nat}{a:Array (Nat×ax)}:eD P ah ⟨dst,.buildSlice T n a,ty,pos,af,g⟩ ⟨env,heap⟩ K ()=cT K (sf P T n (a.toList.map fun(i,x)=>(i,ev env x)) heap.length):=LD
theorem aDL{T:ay}{a:ax}:eD P ah ⟨dst,.load T a,ty,pos,af,g⟩ ⟨env,heap⟩ K ()=cT K (qY P T heap (ev env a)):=RE
theorem awd{T:ay}{a x:ax}:eD P ah ⟨dst,.store T a x,ty,pos,af,g⟩ ⟨env,heap⟩ K ()=cT K (qM P T heap (ev env a) (ev env x)):=Ql
theorem aDv{op:a6}{T a:ay}{x y:ax}:eD P ah ⟨dst,.binOp op T x y a,ty,pos,af,g⟩ ⟨env,heap⟩ K ()=cT K (fC P op T (nr y) heap (ev env x) (ev env y)):=SU
theorem aDV{op:UnOp}{T:ay}{x:ax}:eD P ah ⟨dst,.unOp op T x,ty,pos,af,g⟩ ⟨env,heap⟩ K ()=cT K (ub op (ev env x)):=SZ
theorem aDH{S D:ay}{x:ax}:eD P ah ⟨dst,.convert S D x,ty,pos,af,g⟩ ⟨env,heap⟩ K ()=cT K (tj P S D heap (ev env x)):=RG
theorem Y0{t:ax}{i:Nat}:eD P ah ⟨dst,.extract t i,ty,pos,af,g⟩ ⟨env,heap⟩ K ()=cT K (sC (ev env t) i):=N5
theorem Ys{T:ay}{a:ax}{f:Nat}:eD P ah ⟨dst,.fieldAddr T a f,ty,pos,af,g⟩ ⟨env,heap⟩ K ()=cT K (qo P T (ev env a) f):=L8
theorem Yr{T:ay}{x i:ax}:eD P ah ⟨dst,.indexAddr T x i,ty,pos,af,g⟩ ⟨env,heap⟩ K ()=cT K (qm P T heap (ev env x) (ev env i)):=L7
theorem awg{T:ay}{x i:ax}:eD P ah ⟨dst,.index T x i,ty,pos,af,g⟩ ⟨env,heap⟩ K ()=cT K (s9 P T (ev env x) (ev env i)):=JQ
theorem aDK{x:ax}{a:Array ay}:eD P ah ⟨dst,.call {callee:=.builtin .len,args:=#[x],argTypes:=a},ty,pos,af,g⟩ ⟨env,heap⟩ K ()=cT K (tS P (a.getD 0 0) a.size heap (ev env x)):=SW
theorem aDE{f:ax}{args:List ax}{a:Array ay}:eD P ah ⟨dst,.call {callee:=.value f,args:=args.toArray,argTypes:=a},ty,pos,af,g⟩ ⟨env,heap⟩ K ()=F2 P heap K (ev env f) (args.map (ev env)):=RH
theorem aPB{x:ax}:eJ P ah ⟨dst,.move x,ty,pos,af,g⟩ L ⟨env,heap⟩ ()=fa dst ⟨env,heap⟩ L {v:=ev env x}:=Rq
theorem asG{x:ax}:eJ P ah ⟨dst,.assign x,ty,pos,af,g⟩ L ⟨env,heap⟩ ()=fa dst ⟨env,heap⟩ L {v:=ev env x}:=Od
theorem aPE{c a b:ax}:eJ P ah ⟨dst,.pick c a b,ty,pos,af,g⟩ L ⟨env,heap⟩ ()=cT (fa dst ⟨env,heap⟩ L) (tA (ev env c) (ev env a) (ev env b)):=Ro
theorem avw{T:ay}:eJ P ah ⟨dst,.alloc T,ty,pos,af,g⟩ L ⟨env,heap⟩ ()=cT (fa dst ⟨env,heap⟩ L) (sZ P T heap.length):=P0
theorem aPo{T:ay}{x:ax}:eJ P ah ⟨dst,.box T x,ty,pos,af,g⟩ L ⟨env,heap⟩ ()=cT (fa dst ⟨env,heap⟩ L) (vI P T heap.length (ev env x)):=Us
theorem avu{T:ay}{a:Array (Nat×ax)}:eJ P ah ⟨dst,.build T a,ty,pos,af,g⟩ L ⟨env,heap⟩ ()=cT (fa dst ⟨env,heap⟩ L) (sX P T (a.toList.map fun(i,x)=>(i,ev env x))):=PZ
theorem XG{T:ay}{n:Nat}{a:Array (Nat×ax)}:eJ P ah ⟨dst,.buildSlice T n a,ty,pos,af,g⟩ L ⟨env,heap⟩ ()=cT (fa dst ⟨env,heap⟩ L) (sf P T n (a.toList.map fun(i,x)=>(i,ev env x)) heap.length):=Ly
theorem aPv{T:ay}{a:ax}:eJ P ah ⟨dst,.load T a,ty,pos,af,g⟩ L ⟨env,heap⟩ ()=cT (fa dst ⟨env,heap⟩ L) (qY P T heap (ev env a)):=Rr
theorem avo{T:ay}{a x:ax}:eJ P ah ⟨dst,.store T a x,ty,pos,af,g⟩ L ⟨env,heap⟩ ()=cT (fa dst ⟨env,heap⟩ L) (qM P T heap (ev env a) (ev env x)):=Qe
theorem aPn{op:a6}{T a:ay}{x y:ax}:eJ P ah ⟨dst,.binOp op T x y a,ty,pos,af,g⟩ L ⟨env,heap⟩ ()=cT (fa dst ⟨env,heap⟩ L) (fC P op T (nr y) heap (ev env x) (ev env y)):=Ur
theorem aPG{op:UnOp}{T:ay}{x:ax}:eJ P ah ⟨dst,.unOp op T x,ty,pos,af,g⟩ L ⟨env,heap⟩ ()=cT (fa dst ⟨env,heap⟩ L) (ub op (ev env x)):=Uw
theorem aPq{S D:ay}{x:ax}:eJ P ah ⟨dst,.convert S D x,ty,pos,af,g⟩ L ⟨env,heap⟩ ()=cT (fa dst ⟨env,heap⟩ L) (tj P S D heap (ev env x)):=Rt
theorem Za{t:ax}{i:Nat}:eJ P ah ⟨dst,.extract t i,ty,pos,af,g⟩ L ⟨env,heap⟩ ()=cT (fa dst ⟨env,heap⟩ L) (sC (ev env t) i):=M6
theorem XQ{T:ay}{a:ax}{f:Nat}:eJ P ah ⟨dst,.fieldAddr T a f,ty,pos,af,g⟩ L ⟨env,heap⟩ ()=cT (fa dst ⟨env,heap⟩ L) (qo P T (ev env a) f):=LW
theorem X5{T:ay}{x i:ax}:eJ P ah ⟨dst,.indexAddr T x i,ty,pos,af,g⟩ L ⟨env,heap⟩ ()=cT (fa dst ⟨env,heap⟩ L) (qm P T heap (ev env x) (ev env i)):=LV
theorem avr{T:ay}{x i:ax}:eJ P ah ⟨dst,.index T x i,ty,pos,af,g⟩ L ⟨env,heap⟩ ()=cT (fa dst ⟨env,heap⟩ L) (s9 P T (ev env x) (ev env i)):=PY
theorem aPt{x:ax}{a:Array ay}:eJ P ah ⟨dst,.call {callee:=.builtin .len,args:=#[x],argTypes:=a},ty,pos,af,g⟩ L ⟨env,heap⟩ ()=cT (fa dst ⟨env,heap⟩ L) (tS P (a.getD 0 0) a.size heap (ev env x)):=Ut
theorem aPp{f:ax}{args:List ax}{a:Array ay}:eJ P ah ⟨dst,.call {callee:=.value f,args:=args.toArray,argTypes:=a},ty,pos,af,g⟩ L ⟨env,heap⟩ ()=B3 P heap (Uz dst ⟨env,heap⟩ L) (ev env f) (args.map (ev env)):=Ru
theorem awe{T:ay}{x:ax}{lo hi:Option ax}:eD P ah ⟨dst,.slice T x lo hi none,ty,pos,af,g⟩ ⟨env,heap⟩ K ()=cT K (qO P T heap (ev env x) (lo.map (ev env)) (hi.map (ev env))):=Qm
theorem avp{T:ay}{x:ax}{lo hi:Option ax}:eJ P ah ⟨dst,.slice T x lo hi none,ty,pos,af,g⟩ L ⟨env,heap⟩ ()=cT (fa dst ⟨env,heap⟩ L) (qO P T heap (ev env x) (lo.map (ev env)) (hi.map (ev env))):=PW
theorem atT{T:ay}{x i:ax}{ok:Bool}:eD P ah ⟨dst,.lookup T x i ok,ty,pos,af,g⟩ ⟨env,heap⟩ K ()=cT K (tv P T heap (ev env x) (ev env i) ok):=OU
theorem asC{T:ay}{x i:ax}{ok:Bool}:eJ P ah ⟨dst,.lookup T x i ok,ty,pos,af,g⟩ L ⟨env,heap⟩ ()=cT (fa dst ⟨env,heap⟩ L) (tv P T heap (ev env x) (ev env i) ok):=Ob
theorem Yp{T:ay}{m k x:ax}:eD P ah ⟨dst,.mapUpdate T m k x,ty,pos,af,g⟩ ⟨env,heap⟩ K ()=cT K (nq P T heap (ev env m) (ev env k) (ev env x)):=Ml
theorem X3{T:ay}{m k x:ax}:eJ P ah ⟨dst,.mapUpdate T m k x,ty,pos,af,g⟩ L ⟨env,heap⟩ ()=cT (fa dst ⟨env,heap⟩ L) (nq P T heap (ev env m) (ev env k) (ev env x)):=LS
theorem atU{T:ay}{m k x:ax}:eD P ah ⟨dst,.insert T m k x,ty,pos,af,g⟩ ⟨env,heap⟩ K ()=cT K (nq P T heap (ev env m) (ev env k) (ev env x)):=OV
theorem asD{T:ay}{m k x:ax}:eJ P ah ⟨dst,.insert T m k x,ty,pos,af,g⟩ L ⟨env,heap⟩ ()=cT (fa dst ⟨env,heap⟩ L) (nq P T heap (ev env m) (ev env k) (ev env x)):=Oc
theorem awf{T:ay}{x:ax}:eD P ah ⟨dst,.range T x,ty,pos,af,g⟩ ⟨env,heap⟩ K ()=cT K (sU P T heap.length (ev env x)):=Qn
theorem avq{T:ay}{x:ax}:eJ P ah ⟨dst,.range T x,ty,pos,af,g⟩ L ⟨env,heap⟩ ()=cT (fa dst ⟨env,heap⟩ L) (sU P T heap.length (ev env x)):=PX
theorem aDR{it:ax}:eD P ah ⟨dst,.next it true,ty,pos,af,g⟩ ⟨env,heap⟩ K ()=cT K (tE heap (ev env it)):=R7
theorem aPC{it:ax}:eJ P ah ⟨dst,.next it true,ty,pos,af,g⟩ L ⟨env,heap⟩ ()=cT (fa dst ⟨env,heap⟩ L) (tE heap (ev env it)):=Rp
theorem Yq{T:ay}{l c:ax}:eD P ah ⟨dst,.makeSlice T l c,ty,pos,af,g⟩ ⟨env,heap⟩ K ()=cT K (tG P T heap.length (ev env l) (ev env c)):=Mm
theorem X4{T:ay}{l c:ax}:eJ P ah ⟨dst,.makeSlice T l c,ty,pos,af,g⟩ L ⟨env,heap⟩ ()=cT (fa dst ⟨env,heap⟩ L) (tG P T heap.length (ev env l) (ev env c)):=LU
theorem Yv{x:ax}:eD P ah ⟨dst,.nilCheck x,ty,pos,af,g⟩ ⟨env,heap⟩ K ()=cT K (sO (ev env x)):=Mp
theorem YP{x:ax}:eJ P ah ⟨dst,.nilCheck x,ty,pos,af,g⟩ L ⟨env,heap⟩ ()=cT (fa dst ⟨env,heap⟩ L) (sO (ev env x)):=ML
theorem aDO{args:Array ax}{a:Array ay}:eD P ah ⟨dst,.call {callee:=.builtin .min,args,argTypes:=a},ty,pos,af,g⟩ ⟨env,heap⟩ K ()=cT K (lT false (args.toList.map (ev env))):=SY
theorem aPA{args:Array ax}{a:Array ay}:eJ P ah ⟨dst,.call {callee:=.builtin .min,args,argTypes:=a},ty,pos,af,g⟩ L ⟨env,heap⟩ ()=cT (fa dst ⟨env,heap⟩ L) (lT false (args.toList.map (ev env))):=Uv
theorem aDM{args:Array ax}{a:Array ay}:eD P ah ⟨dst,.call {callee:=.builtin .max,args,argTypes:=a},ty,pos,af,g⟩ ⟨env,heap⟩ K ()=cT K (lT true (args.toList.map (ev env))):=SX
theorem aPz{args:Array ax}{a:Array ay}:eJ P ah ⟨dst,.call {callee:=.builtin .max,args,argTypes:=a},ty,pos,af,g⟩ L ⟨env,heap⟩ ()=cT (fa dst ⟨env,heap⟩ L) (lT true (args.toList.map (ev env))):=Uu
theorem YZ{T:ay}:eD P ah ⟨dst,.makeMap T none,ty,pos,af,g⟩ ⟨env,heap⟩ K ()=K {v:=.map heap.length,aX:=[.map false []]}:=N4
theorem Y9{T:ay}:eJ P ah ⟨dst,.makeMap T none,ty,pos,af,g⟩ L ⟨env,heap⟩ ()=fa dst ⟨env,heap⟩ L {v:=.map heap.length,aX:=[.map false []]}:=NL
theorem atY{s x:ax}{T X:ay}:eD P ah ⟨dst,.call {callee:=.builtin .append,args:=#[s,x],argTypes:=#[T,X]},ty,pos,af,g⟩ ⟨env,heap⟩ K ()=cT K (qL P T X heap (ev env s) (ev env x)):=OX
theorem asH{s x:ax}{T X:ay}:eJ P ah ⟨dst,.call {callee:=.builtin .append,args:=#[s,x],argTypes:=#[T,X]},ty,pos,af,g⟩ L ⟨env,heap⟩ ()=cT (fa dst ⟨env,heap⟩ L) (qL P T X heap (ev env s) (ev env x)):=Oe
theorem aDJ{s x:ax}{T X:ay}:eD P ah ⟨dst,.call {callee:=.builtin .copy,args:=#[s,x],argTypes:=#[T,X]},ty,pos,af,g⟩ ⟨env,heap⟩ K ()=cT K (copyV P T heap (ev env s) (ev env x)):=RF
theorem aPr{s x:ax}{T X:ay}:eJ P ah ⟨dst,.call {callee:=.builtin .copy,args:=#[s,x],argTypes:=#[T,X]},ty,pos,af,g⟩ L ⟨env,heap⟩ ()=cT (fa dst ⟨env,heap⟩ L) (copyV P T heap (ev env s) (ev env x)):=Rs
theorem aC2{f:aT}{fi ca:List AV}{args:List AV}{M:AV->Heap->Prop}:B3 P heap M (.func f fi ca) args=lK P false f M (fi++args++ca) heap:=SQ
theorem aC6{f:aT}{fi ca:List AV}{args:List AV}:F2 P heap K (.func f fi ca) args=nV P f K (fi++args++ca) heap:=RI
theorem aC4{f:aT}{fi ca:List PV}{args:List AV}{M:AV->Heap->Prop}:B3 P heap M (.p (.func f fi ca)) args=lK P false f M (fi.map .p++args++ca.map .p) heap:=SR
theorem aC8{f:aT}{fi ca:List PV}{args:List AV}:F2 P heap K (.p (.func f fi ca)) args=nV P f K (fi.map .p++args++ca.map .p) heap:=SS
end ops
section guards
variable{ops:Array Oper}{o:Oper}{r:List Oper}{K:St->Prop}{want t:Bool}{s:St}{i:Nat}{acc:List Touch}
theorem Yi:FZ P ah ops o r K want s (.p (.bool t))=if t=want then eJ P ah o (rH P ah ops r K) s ()else rH P ah ops r K ⟨put o.dst (.p (.aD [])) s.env,s.heap⟩:=Mf
theorem YL:FZ P ah ops o r K want s (.p (.aD []))=rH P ah ops r K ⟨put o.dst (.p (.aD [])) s.env,s.heap⟩:=MQ
theorem XK:Fg P ah ops o r i acc K want s (.p (.bool t))=if t=want then eD P ah o s (FV P ah ops r i acc K o.dst s) ()else tC P ah ops r (i+1) acc K ⟨put o.dst (.p (.aD [])) s.env,s.heap⟩:=LB
theorem Yh:Fg P ah ops o r i acc K want s (.p (.aD []))=tC P ah ops r (i+1) acc K ⟨put o.dst (.p (.aD [])) s.env,s.heap⟩:=Me
end guards
theorem XD{id:Nat}{Q:bD->St->Prop}{s:St}:sY id Q .normal s=Q .normal s:=(rfl)
theorem YW{id i:Nat}{Q:bD->St->Prop}{s:St}:sY id Q (.exit i) s=if i=id then Q .normal s else Q (.exit i) s:=(rfl)
theorem ZY{id:Nat}{Q:bD->St->Prop}{s:St}:sY id Q .ret s=Q .ret s:=(rfl)
section makeFunc
variable{dst:Option Tmp}{ty:Nat}{pos:String}{af:Array Edge}{g:Option (Nat×Bool)}{env:Env}{heap:Heap}{L:St->Prop}{K:aZ->Prop}{f:aT}{fi ca:Array ax}
theorem YQ(hf:ah f=false):eJ P ah ⟨dst,.makeFunc (.func f) fi ca,ty,pos,af,g⟩ L ⟨env,heap⟩ ()=cT (fa dst ⟨env,heap⟩ L) (tt f (fi.toList.map (ev env)) (ca.toList.map (ev env))):=MM hf
theorem Yw(hf:ah f=false):eD P ah ⟨dst,.makeFunc (.func f) fi ca,ty,pos,af,g⟩ ⟨env,heap⟩ K ()=cT K (tt f (fi.toList.map (ev env)) (ca.toList.map (ev env))):=Mq hf
end makeFunc
theorem ZM{p:Prop}{e:aZ}{K:aZ->Prop}:cT K (some (p,e))=(p/\K e):=(rfl)
theorem ZN{K:aZ->Prop}:cT K none=False:=(rfl)
theorem Zu{a:Array Oper}:Bq a []=true:=(rfl)
theorem Yf{a:Array Oper}{t:Touch}{r:List Touch}:Bq a (t::r)=(r.all (fun u=>!jQ u t||aPZ a u.i t.i)&&Bq a r):=(rfl)
theorem atG{a:List a1}{v:PV}{s:St}:tL P a v .ret s=∃vs,fX P s a=some vs/\gQ s.heap 9 (oneOf vs) v:=by simp[tL]
theorem Ym{a:List a1}{v:PV}{s:St}:tL P a v .normal s=∃vs,fX P s a=some vs/\gQ s.heap 9 (oneOf vs) v:=by simp[tL]
section pur
variable{H:Heap}
theorem zp{n:Nat}{a v:PV}:gQ H n (.p a) v=Wk a v:=by cases n<;>rfl
theorem QW{n b ar z off len:Nat}{fs:List PV}:gQ H (n+1) (.sl b ar z off len) (.seq fs)=match H[b]? with
  |some (.arr _ a c es)=>ar=a/\z=c/\off+len<=es.length/\ku H n ((es.drop off).take len) fs
  |_=>False:=(rfl)
theorem aPT{n:Nat}{u u':ay}{a:List AV}{vs:List PV}:gQ H (n+1) (.st u a) (.st u' vs)=(u=u'/\ku H n a vs):=(rfl)
theorem aPU{n:Nat}{a:List AV}{vs:List PV}:gQ H (n+1) (.aD a) (.aD vs)=ku H n a vs:=(rfl)
theorem Qd{n b:Nat}{a:List (PV×PV)}:gQ H (n+1) (.map b) (.fu a)=match H[b]? with
  |some (.map _ c)=>c=a
  |_=>False:=(rfl)
theorem aPS{n:Nat}{f a:aT}{c d:List AV}{vs b:List PV}:gQ H (n+1) (.func f c d) (.func a vs b)=(f=a/\ku H n c vs/\ku H n d b):=(rfl)
theorem Az{n:Nat}{vs:List PV}:ku H n [] vs=(vs=[]):=(rfl)
theorem Ef{n:Nat}{x:AV}{a:List AV}{v:PV}{vs:List PV}:ku H n (x::a) (v::vs)=(gQ H n x v/\ku H n a vs):=(rfl)
theorem ri{α:Type}{n:Nat}{g:α->AV}{f:α->PV}:∀{l:List α},ku H n (l.map g) (l.map f)=∀x∈l,gQ H n (g x) (f x)
 |[]=>by simp[Az]
 |a::l=>by simp[Ef,ri (l:=l)]
theorem sM(n:Nat)(c:∀(x:AV)(v:PV),gQ H n x v->∃v',eQ H n x=some v'/\Wk v' v):∀(b:List AV)(vs:List PV),ku H n b vs->∃a,jH (eQ H n) b=some a/\bI a vs
 |[],vs,h=>by rw[Az]at h;subst h;exact⟨[],rfl,by simp[bI]⟩
 |x::b,vs,h=>by
  cases vs with
  |nil=>exact h.elim
  |cons v vs=>
   rw[Ef]at h;obtain⟨p,d,e⟩:=c x v h.1;obtain⟨a,f,g⟩:=sM n c b vs h.2;exact⟨p::a,by simp[jH,d,f],by simp only[bI];exact⟨e,g⟩⟩
theorem qV:∀(n:Nat)(x:AV)(v:PV),gQ H n x v->∃v',eQ H n x=some v'/\Wk v' v
 |0,x,v,h=>by
  cases x with
  |p a=>exact⟨_,rfl,h⟩
  |_=>exact h.elim
 |n+1,x,v,h=>by
  cases x with
  |p a=>rw[zp]at h;exact⟨_,rfl,h⟩
  |sl b ar z off len=>
   cases v with
   |seq fs=>
    rw[QW]at h
    split at h
    case h_2=>exact h.elim
    rename_i k C E j e;obtain⟨rfl,rfl,m,g⟩:=h;obtain⟨i,c,d⟩:=sM n (qV n) _ _ g;simp only[eQ,e,m,and_self,if_true]
    split
    ·rename_i r;rw[r.2]at g;simp only[List.drop_nil,List.take_nil,Az]at g;exact⟨_,rfl,by rw[g];simp[Wk]⟩
    ·rw[c];exact⟨_,rfl,by simp only[Wk];exact d⟩
   |_=>exact h.elim
  |st u xs=>
   cases v with
   |st u' vs=>
    obtain⟨rfl,h⟩:=h;obtain⟨i,c,d⟩:=sM n (qV n) _ _ h;simp only[eQ,c];exact⟨_,rfl,by simp only[Wk];exact⟨trivial,d⟩⟩
   |_=>exact h.elim
  |aD xs=>
   cases v with
   |aD vs=>
    obtain⟨i,c,d⟩:=sM n (qV n) _ _ h;simp only[eQ,c];exact⟨_,rfl,by simp only[Wk];exact d⟩
   |_=>exact h.elim
  |ptr b path=>
   cases v with
   |cG t=>
    change (match H[b]? with
     |some (.box _ y)=>match fk y path with
      |some s=>gQ H n s t
      |none=>False
     |_=>False)at h
    split at h
    case h_2=>exact h.elim
    rename_i e
    split at h
    case h_2=>exact h.elim
    rename_i s hs;obtain⟨p,c,d⟩:=qV n _ _ h;simp only[eQ,e,hs,c];exact⟨_,rfl,by simp only[Wk];exact d⟩
   |_=>exact h.elim
  |ct _ _ _ _ _=>exact h.elim
  |map b=>
   cases v with
   |fu j=>
    rw[Qd]at h
    split at h
    case h_2=>exact h.elim
    rename_i fz w e;subst h;simp only[eQ,e];exact⟨_,rfl,Wk.refl _⟩
   |_=>exact h.elim
  |func f xs D=>
   cases v with
   |func A vs us=>
    obtain⟨rfl,h,l⟩:=h;obtain⟨i,c,d⟩:=sM n (qV n) _ _ h;obtain⟨B,o,q⟩:=sM n (qV n) _ _ l;simp only[eQ,c,o];exact⟨_,rfl,by simp only[Wk];exact⟨trivial,d,q⟩⟩
   |_=>exact h.elim
end pur
theorem yM{f:aT}{fn:Func}(ah:aT->Bool)(h:au P f fn)(n:P.follows .mixedOrders=true){args:List PV}{v:PV}(o:args.length<=fn.ntmps)
 (d:fg P ah (fn.ntmps,0) (fn.body.getD .skip) (tL P fn.results.toList v) ⟨jo 0 (args.map .p),[]⟩):oc P f args v:=by
 have hs:=h.stat;simp only[ap,bne_iff_ne]at hs;have k:fn.body=some (fn.body.getD .skip):=by
  have a:=hs.1.1;clear d hs;cases l:fn.body with
  |none=>rw[l]at a;simp at a
  |some c=>rfl
 obtain⟨e,s,⟨a,vs,g,b⟩,j⟩:=oR _ _ _ (mI (Q':=tL P fn.results.toList v) _ (fun _ _ h=>h) d);obtain⟨v',b,i⟩:=qV _ _ _ b;have m:oc P f args v':=ON (qg ah) (Ag (qg ah) n) h.enters h.func k hs.2 o (j (Ends P fn.results.toList v') ⟨by cases e<;>exact a,vs,g,b⟩);exact m.dw (bI.refl _) i
theorem aJ{f:aT}{fn:Func}(ah:aT->Bool)(h:au P f fn)(a:P.follows .mixedOrders=true){args:List PV}{v:PV}(b:args.length<=fn.ntmps)
 (c:fg P ah (fn.ntmps,0) (fn.body.getD .skip) (tL P fn.results.toList v) ⟨jo 0 (args.map .p),[]⟩):az P f args v:=.inl (yM ah h a b c)
theorem UE{α:Type}{N:Nat×Nat->Prop}{f:α->PV}{l:List α}:aV N (l.map fun x=>.p (f x))=True:=by
 rw[cB,eq_iff_iff,iff_true];intro v a;simp only[bo]at a;obtain⟨x,_,rfl⟩:=a;trivial
theorem aP8{α:Type}{N:Nat×Nat->Prop}{f:α->PV}{l:List α}{i:Nat}:aV N ((l.map fun x=>.p (f x)).take i)=True:=by
 rw[cB,eq_iff_iff,iff_true];intro v a;have a:=List.mem_of_mem_take a;simp only[bo]at a;obtain⟨x,_,rfl⟩:=a;trivial
theorem asg{N:Nat×Nat->Prop}{a b:List AV}:aV N (a++b)=(aV N a/\aV N b):=by
 simp only[cB,ce,eq_iff_iff];exact⟨fun h=>⟨fun v c=>h v (.inl c),fun v c=>h v (.inr c)⟩,fun h v c=>c.elim (h.1 v) (h.2 v)⟩
theorem Xm{α:Type}{l:List α}{i:Nat}:(l.take i).take i=l.take i:=by simp[List.take_take]
theorem Xl{α β:Type}{f:α->β}{l:List α}:(l.map f).take l.length=l.map f:=List.take_of_length_le s_
section loops
variable{α:Type}(N:Nat)(mk:α->St)(ok:α->Prop)(m:α->Nat)(n:Nat)(Q:bD->St->Prop)
def Ho(s:Tg (N,mk,ok,m,n) St):Prop:=wz N mk ok m n s
def od(e:Tg (N,mk,ok,m,n,Q) bD)(s:Tg (N,mk,ok,m,n,Q) St):Prop:=tu N mk ok m n Q e s
variable{N}{mk}{ok}{m}{n}{Q}{s s':St}
theorem XW:od N mk ok m n Q .normal s=Ho N mk ok m n s:=(rfl)
theorem Zh{id:Nat}:od N mk ok m n Q (.exit id) s=Q (.exit id) s:=(rfl)
theorem Z9:od N mk ok m n Q .ret s=Q .ret s:=(rfl)
theorem lp{d:Nat}{b:Code}(mk:α->St)(ok:α->Prop)(m:α->Nat)(c:α)(e:ok c)(iM:∀a,ok a->fg P ah (d,N) b (od N mk ok m (m a) Q) (mk a))
 (hn:(mk c).heap.take N=s.heap.take N:=by simp)(he:mT (mk c).heap s.env (mk c).env:=by simp)(hh:iK (mk c).heap s.heap (mk c).heap:=by simp)(hr:iZ (mk c).heap (mk c).env:=by simp)(hr2:eg (mk c).heap (mk c).heap:=by simp):
 fg P ah (d,N) (.loop b) Q s:=wl (q:=(d,N)) mk ok m c e iM hn he hh hr hr2
theorem rd(a':α)(a:ok a')(h1:m a'<n:=by omega)(hn:(mk a').heap.take N=s.heap.take N:=by simp)(he:mT (mk a').heap s.env (mk a').env:=by simp)(hh:iK (mk a').heap s.heap (mk a').heap:=by simp)(hr:iZ (mk a').heap (mk a').env:=by simp)(hr2:eg (mk a').heap (mk a').heap:=by simp):
 Ho N mk ok m n s:=rnd a' a h1 hn he hh hr hr2
end loops
section calls
variable{f:aT}{H H1:Heap}{K:AV->Heap->Prop}{L:aZ->Prop}{v a b c d e a' b' c' d' e':PV}
theorem c0(h:az P f [] v)(hk:K (.p v) H):lK P false f K [] H:=cw0 h hk
theorem c1(h:az P f [a'] v)(hk:K (.p v) H)(h1:Wk a a':=by first|exact Wk.refl _|simp):lK P false f K [.p a] H:=cw1 h hk h1
theorem c2(h:az P f [a',b'] v)(hk:K (.p v) H)(h1:Wk a a':=by first|exact Wk.refl _|simp)(c:Wk b b':=by first|exact Wk.refl _|simp):lK P false f K [.p a,.p b] H:=cw2 h hk h1 c
theorem c3(h:az P f [a',b',c'] v)(hk:K (.p v) H)(h1:Wk a a':=by first|exact Wk.refl _|simp)(d:Wk b b':=by first|exact Wk.refl _|simp)(e:Wk c c':=by first|exact Wk.refl _|simp):lK P false f K [.p a,.p b,.p c] H:=cw3 h hk h1 d e
theorem c4(h:az P f [a',b',c',d'] v)(hk:K (.p v) H)(e:Wk a a':=by first|exact Wk.refl _|simp)(g:Wk b b':=by first|exact Wk.refl _|simp)(i:Wk c c':=by first|exact Wk.refl _|simp)(j:Wk d d':=by first|exact Wk.refl _|simp):lK P false f K [.p a,.p b,.p c,.p d] H:=cw4 h hk e g i j
theorem c5(h:az P f [a',b',c',d',e'] v)(hk:K (.p v) H)(g:Wk a a':=by first|exact Wk.refl _|simp)(i:Wk b b':=by first|exact Wk.refl _|simp)(j:Wk c c':=by first|exact Wk.refl _|simp)(k:Wk d d':=by first|exact Wk.refl _|simp)(l:Wk e e':=by first|exact Wk.refl _|simp):lK P false f K [.p a,.p b,.p c,.p d,.p e] H:=cw5 h hk g i j k l
theorem e0(h:az P f [] v)(hk:L {v:=.p v}):nV P f L [] H:=ce0 h hk
theorem e1(h:az P f [a'] v)(hk:L {v:=.p v})(h1:Wk a a':=by first|exact Wk.refl _|simp):nV P f L [.p a] H:=ce1 h hk h1
theorem e2(h:az P f [a',b'] v)(hk:L {v:=.p v})(h1:Wk a a':=by first|exact Wk.refl _|simp)(c:Wk b b':=by first|exact Wk.refl _|simp):nV P f L [.p a,.p b] H:=ce2 h hk h1 c
theorem e3(h:az P f [a',b',c'] v)(hk:L {v:=.p v})(h1:Wk a a':=by first|exact Wk.refl _|simp)(d:Wk b b':=by first|exact Wk.refl _|simp)(e:Wk c c':=by first|exact Wk.refl _|simp):nV P f L [.p a,.p b,.p c] H:=ce3 h hk h1 d e
theorem e4(h:az P f [a',b',c',d'] v)(hk:L {v:=.p v})(e:Wk a a':=by first|exact Wk.refl _|simp)(g:Wk b b':=by first|exact Wk.refl _|simp)(i:Wk c c':=by first|exact Wk.refl _|simp)(j:Wk d d':=by first|exact Wk.refl _|simp):nV P f L [.p a,.p b,.p c,.p d] H:=ce4 h hk e g i j
theorem e5(h:az P f [a',b',c',d',e'] v)(hk:L {v:=.p v})(g:Wk a a':=by first|exact Wk.refl _|simp)(i:Wk b b':=by first|exact Wk.refl _|simp)(j:Wk c c':=by first|exact Wk.refl _|simp)(k:Wk d d':=by first|exact Wk.refl _|simp)(l:Wk e e':=by first|exact Wk.refl _|simp):nV P f L [.p a,.p b,.p c,.p d,.p e] H:=ce5 h hk g i j k l
theorem cp{args:List AV}{vs a:List PV}(h:az P f a v)(b:oG H args=some (vs,H1))(hk:K (.p v) H1)(h1:bI vs a:=by first|exact bI.refl _|simp):lK P false f K args H:=cwp h b hk h1
theorem ep{args:List AV}{vs a:List PV}{bs:List Nat}{al aM:List (Nat×Obj)}(h:az P f a v)(b:pG H args=some (vs,bs))(hf:mh H bs=some (al,aM))(hk:L {v:=.p v,al,aM})(h1:bI vs a:=by first|exact bI.refl _|simp):nV P f L args H:=cep h b hf hk h1
theorem ci{args:List AV}{H':Heap}{v:AV}(h:b8 P f H args H' v)(hk:K v H'):lK P false f K args H:=.inr ⟨rfl,.inr (.inl ⟨H',v,h,hk⟩)⟩
end calls
attribute [simp] UE aP8 asg Xm zp QW aPT aPU Qd aPS Az Ef ri Xl aV XD YW ZY Yi YL XK Yh YQ Yw ZM ZN Zu Yf atG Ym XW Zh Z9 oG lY pG nu mh ni
 aRf auS aRd aRe auQ aRc auR bB OC aRb X0 ZE ZK Yx at5 awL avl aRg auP Z5 aRm auO Z4 aDQ atX aDT awj aDy awi Xz aDL awd aDv aDV aDH Y0 Ys Yr awg aDK aDE aPB asG aPE avw aPo avu XG aPv avo aPn aPG aPq Za XQ X5 avr aPt aPp awe avp atT asC Yp X3 atU asD awf avq aDR aPC Yq X4 Yv YP aDO aPA aDM aPz YZ Y9 atY asH aDJ aPr aC2 aC6 aC4 aC8
end
section
variable{P:a0}{ah:aT->Bool}{q:Cx}
theorem Nu{r:ff}{K a:aZ->Prop}(hk:∀e,K e->a e)(h:bp r K):bp r a:=by
 unfold bp at h⊢
 split at h
 ·exact⟨h.1,hk _ h.2⟩
 ·exact h.elim
theorem Zf{o:Oper}{e:Env}{H:Heap}{K a:aZ->Prop}(hk:∀e,K e->a e)(h:fR P ah o (ev e) H K):fR P ah o (ev e) H a:=by
 obtain⟨x,b,c⟩:=E4 (ah:=ah) o (ev e) H K h;exact c a (hk x b)
theorem O3{o:Oper}{e:Env}{H:Heap}{K a:aZ->Prop}(hk:∀e,K e->a e)(h:lV P ah o e H K):lV P ah o e H a:=by
 unfold lV at h⊢
 repeat' split at h
 all_goals first|exact hk _ h|exact Nu hk h|exact⟨h.1,Nu hk h.2⟩|exact Zf hk h|exact h.elim
theorem Ma{d:Bool}{f:aT}{args:List AV}{H:Heap}{K i:AV->Heap->Prop}(hk:∀v H,K v H->i v H)(h:iH P d f args H K):iH P d f args H i:=by
 rcases h with⟨vs,v,a,b,c⟩|⟨g,⟨vs,H1,v,a,b,c⟩|⟨H',v,a,b⟩|⟨e,a,b,c⟩|⟨al,v,a,b,c⟩⟩
 ·exact .inl ⟨vs,v,a,b,hk _ _ c⟩
 ·exact .inr ⟨g,.inl ⟨vs,H1,v,a,b,hk _ _ c⟩⟩
 ·exact .inr ⟨g,.inr (.inl ⟨H',v,a,hk _ _ b⟩)⟩
 ·exact .inr ⟨g,.inr (.inr (.inl ⟨e,a,b,hk _ _ c⟩))⟩
 ·exact .inr ⟨g,.inr (.inr (.inr ⟨al,v,a,b,hk _ _ c⟩))⟩
theorem Mw{f:aT}{args:List AV}{H:Heap}{K d:aZ->Prop}(hk:∀e,K e->d e)(h:iO P f args H K):iO P f args H d:=by
 rcases h with⟨vs,v,a,b,c⟩|⟨vs,bs,al,aM,v,a,b,c,g⟩|⟨e,a,b,c⟩|⟨al,v,a,b,c⟩
 ·exact .inl ⟨vs,v,a,b,hk _ c⟩
 ·exact .inr (.inl ⟨vs,bs,al,aM,v,a,b,c,hk _ g⟩)
 ·exact .inr (.inr (.inl ⟨e,a,b,hk _ c⟩))
 ·exact .inr (.inr (.inr ⟨al,v,a,b,hk _ c⟩))
theorem LP{o:Oper}{K b:St->Prop}{s:St}(hk:∀s,K s->b s)(h:dI P ah o K s):dI P ah o b s:=by
 unfold dI at h⊢
 split at h
 ·rename_i f args g i;unfold tq at h⊢
  split at h
  ·exact Ma (fun v H a=>hk _ a) h
  ·exact Ma (fun v H a=>hk _ a) h
  ·obtain⟨H',v,c,d⟩:=h;exact⟨H',v,c,hk _ d⟩
  ·exact h.elim
 ·exact O3 (fun e a=>hk _ a) h
theorem Mh{o:Oper}{s:St}{K a:aZ->Prop}(hk:∀e,K e->a e)(h:dJ P ah o s K):dJ P ah o s a:=by
 unfold dJ at h⊢
 split at h
 ·rename_i f args g i;unfold sW at h⊢
  split at h
  ·exact Mw hk h
  ·exact Mw hk h
  ·obtain⟨e,b,c,d⟩:=h;exact⟨e,b,c,hk _ d⟩
  ·exact h.elim
 ·exact O3 hk h
theorem xA{c:Array Oper}:∀(l:List Oper){K a:St->Prop}{s:St},(∀s,K s->a s)->gL P ah c l K s->gL P ah c l a s
 |[],K,a,s,hk,h=>hk s h
 |o::l,K,a,s,hk,h=>by
  simp only[gL]at h⊢
  split at h
  ·exact LP (fun s hs=>xA l hk hs) h
  ·split at h
   ·split at h
    ·rename_i b;rw[if_pos b];exact LP (fun s hs=>xA l hk hs) h
    ·rename_i b;rw[if_neg b];exact xA l hk h
   ·exact xA l hk h
   ·exact h.elim
theorem xu{d:Array Oper}:∀(l:List Oper){i:Nat}{b:List Touch}{K a:St->Prop}{s:St},(∀s,K s->a s)->gW P ah d l i b K s->gW P ah d l i b a s
 |[],i,b,K,a,s,hk,h=>⟨h.1,hk s h.2⟩
 |o::l,i,b,K,a,s,hk,h=>by
  simp only[gW]at h⊢
  split at h
  ·exact Mh (fun e hs=>xu l hk hs) h
  ·split at h
   ·split at h
    ·rename_i c;rw[if_pos c];exact Mh (fun e hs=>xu l hk hs) h
    ·rename_i c;rw[if_neg c];exact xu l hk h
   ·exact xu l hk h
   ·exact h.elim
theorem oQ:∀(c:Code){Q g:bD->St->Prop}{s:St},(∀e s,Q e s->g e s)->dG P ah q c Q s->dG P ah q c g s
 | .skip,Q,g,s,hq,h=>hq _ _ h
 | .label _,Q,g,s,hq,h=>hq _ _ h
 | .exit _,Q,g,s,hq,h=>hq _ _ h
 | .ret,Q,g,s,hq,h=>hq _ _ h
 | .region _ ops draw,Q,g,s,hq,h=>by
  simp only[dG]at h⊢
  split at h
  ·rename_i j;rw[if_pos j];exact xu _ (fun s hs=>hq _ _ hs) h
  ·rename_i j;rw[if_neg j];exact xA _ (fun s hs=>hq _ _ hs) h
 | .seq a b,Q,g,s,hq,h=>by
  simp only[dG]at h⊢;refine oQ a (fun e s d=>?_) h;cases e with
  |normal=>exact oQ b hq d
  |exit i=>exact hq _ _ d
  |ret=>exact hq _ _ d
 | .cond c a b,Q,g,s,hq,h=>by
  simp only[dG]at h⊢;unfold vu at h⊢
  split at h
  ·split at h
   ·rename_i k;rw[if_pos k];exact oQ a hq h
   ·rename_i k;rw[if_neg k];exact oQ b hq h
  ·exact h.elim
 | .block id b,Q,g,s,hq,h=>by
  simp only[dG]at h⊢;refine oQ b (fun e s d=>?_) h;cases e with
  |normal=>exact hq _ _ d
  |exit i=>
   simp only[pD]at d⊢
   by_cases hi:i=id
   ·simp only[hi,if_true]at d⊢;exact hq _ _ d
   ·simp only[hi,if_false]at d⊢;exact hq _ _ d
  |ret=>exact hq _ _ d
 | .scope b,Q,g,s,hq,h=>oQ b hq h
 | .loop b,Q,g,s,hq,h=>by
  simp only[dG]at h⊢;obtain⟨I,l,m⟩:=h;refine⟨I,l,fun n t hI=>oQ b (fun e s d=>?_) (m n t hI)⟩;cases e with
  |normal=>exact d
  |exit id=>exact hq _ _ d
  |ret=>exact hq _ _ d
 | .rangeFunc f o a b,Q,g,s,hq,h=>by
  simp only[dG]at h⊢;exact⟨h.1,MZ (fun H=>M7 hq) h.2⟩
 | .goto _,_,_,_,_,h=>h.elim
 | .refuse _,_,_,_,_,h=>h.elim
def tx(R:St->Prop)(Q:bD->St->Prop)(e:Tg (R,Q) bD)(s:Tg (R,Q) St):Prop:=match e with
 | .normal=>R s
 |e=>Q e s
theorem XO{R:St->Prop}{Q:bD->St->Prop}{s:St}:tx R Q .normal s=R s:=(rfl)
theorem Zm{R:St->Prop}{Q:bD->St->Prop}{id:Nat}{s:St}:tx R Q (.exit id) s=Q (.exit id) s:=(rfl)
theorem atg{R:St->Prop}{Q:bD->St->Prop}{s:St}:tx R Q .ret s=Q .ret s:=(rfl)
theorem join{a b:Code}{Q:bD->St->Prop}{s:St}(R:St->Prop)(d:fg P ah q a (tx R Q) s)(f:∀s',R s'->fg P ah q b Q s'):fg P ah q (.seq a b) Q s:=by
 rw[bB];refine oQ a (fun e s c=>?_) d;cases e with
 |normal=>exact f s c
 |exit i=>exact c
 |ret=>exact c
theorem UF{α:Type}{N:Nat×Nat->Prop}{f:α->PV}{l:List α}:aV N (l.map (AV.p∘f))=True:=UE
attribute [simp] XO Zm atg UF
end
section
variable{P:a0}{ah:aT->Bool}
def yv(P:a0)(a:List a1)(N:Nat)(H':Heap)(v:AV)(e:Tg (a,N,H',v) bD)(s:Tg (a,N,H',v) St):Prop:=vD P a N H' v e s
theorem Zq{a:List a1}{N:Nat}{H':Heap}{v:AV}{s:St}:yv P a N H' v .ret s=∃vs,fX P s a=some vs/\oneOf vs=v/\(H'=s.heap\/(cW N s ⟨[],H'⟩/\aE (aL H') v)):=by simp[yv,vD]
theorem Xy{a:List a1}{N:Nat}{H':Heap}{v:AV}{s:St}:yv P a N H' v .normal s=∃vs,fX P s a=some vs/\oneOf vs=v/\(H'=s.heap\/(cW N s ⟨[],H'⟩/\aE (aL H') v)):=by simp[yv,vD]
theorem dS{f:aT}{fn:Func}(ah:aT->Bool)(h:au P f fn)(a:P.follows .mixedOrders=true){args:List AV}{H H':Heap}{v:AV}(hn:args.length<=fn.ntmps)
 (b:fg P ah (fn.ntmps,H.length) (fn.body.getD .skip) (yv P fn.results.toList H.length H' v) ⟨jo 0 args,H⟩):b8 P f H args H' v:=
 Td ah h a hn (mI (Q':=vD P fn.results.toList H.length H' v) _ (fun _ _ h=>h) b)
theorem aQn{n i:Nat}:sig [] n i=n+i:=by simp[sig]
theorem cn{f:aT}{H H':Heap}{K:AV->Heap->Prop}{v:AV}{args:List PV}(h:b8 P f [] (args.map .p) H' v)(hk:K (cZ (sig [] H.length) v) (H++H'.map (du (sig [] H.length)))):lK P false f K (args.map .p) H:=by
 refine .inr ⟨rfl,.inr (.inr (.inl ⟨dT [] H.length [] H' v,?_,⟨by simp[dT],by simp[dT]⟩,?_⟩))⟩
 ·have b:aV (aL ([]:Heap)) (args.map .p):=by rw[cB];intro v c;obtain⟨x,_,rfl⟩:=bo.1 c;trivial
  have:=h.frame [] H.length rfl cx s_ s_ b s_;have e:cF (sig [] H.length) (args.map .p)=args.map .p:=by
   clear h b this hk
   induction args with
   |nil=>rfl
   |cons a r d=>simp only[br,cF,cZ,d]
  rwa [e]at this
 ·simpa[dT,ba]using hk
theorem Gq{f:aT}{H H':Heap}{K:AV->Heap->Prop}{v:AV}{a b:PV}(h:b8 P f [] [.p a,.p b] H' v)(hk:K (cZ (sig [] H.length) v) (H++H'.map (du (sig [] H.length)))):lK P false f K [.p a,.p b] H:=cn (args:=[a,b]) h hk
def R4(P:a0)(T:ay)(f:Nat):Option (ay×jW):=match kindOf P T,P.underlying T with
 | .agg u,some (.struct _)=>((j0 P u)[f]?).map fun F=>(u,kindOf P F)
 |_,_=>none
def Bz(P:a0)(T:ay)(f:Nat)(x:AV):ff:=match R4 P T f,x with
 |some (u,k),.p t=>match(cS t)[f]? with
  |some g=>some (aP t=.agg u/\k=aP g,{v:=.p g})
  |none=>none
 |_,_=>none
theorem OQ{T:ay}{x:AV}{f:Nat}{K:aZ->Prop}:(match kindOf P T,P.underlying T,x with
  | .agg u,some (.struct _),.p t=>aP t=.agg u/\(match(cS t)[f]?,(j0 P u)[f]? with
   |some g,some F=>kindOf P F=aP g/\K {v:=.p g}
   |_,_=>False)
  |_,_,_=>False)=bp (Bz P T f x) K:=by
 unfold Bz R4;cases b:kindOf P T with
 |agg u=>cases c:P.underlying T with
  |none=>simp[bp]
  |some d=>cases d with
   |struct fs=>cases x with
    |p t=>cases hc:(j0 P u)[f]?<;>cases a:(cS t)[f]?<;>simp[bp,a,hc,and_assoc]
    |_=>cases hc:(j0 P u)[f]?<;>simp[bp,hc]
   |_=>simp[bp]
 |_=>simp[bp]
section fields
variable{dst:Option Tmp}{ty:Nat}{pos:String}{af:Array Edge}{g:Option (Nat×Bool)}{env:Env}{heap:Heap}{L:St->Prop}{K:aZ->Prop}{T:ay}{x:ax}{f:Nat}
theorem avt:eJ P ah ⟨dst,.field T x f,ty,pos,af,g⟩ L ⟨env,heap⟩ ()=cT (fa dst ⟨env,heap⟩ L) (Bz P T f (ev env x)):=OQ
theorem awh:eD P ah ⟨dst,.field T x f,ty,pos,af,g⟩ ⟨env,heap⟩ K ()=cT K (Bz P T f (ev env x)):=OQ
end fields
theorem iv{σ:Nat->Nat}{α:Type}{f:α->PV}:∀{l:List α},cF σ (l.map (AV.p∘f))=l.map (AV.p∘f)
 |[]=>rfl
 |a::l=>by simp only[br,cF,iv (l:=l)];rfl
theorem asl{σ:Nat->Nat}{α β:Type}{f:β->PV}{g:α->β}{l:List α}:cF σ (l.map ((AV.p∘f)∘g))=l.map ((AV.p∘f)∘g):=iv (f:=f∘g)
theorem aP6{α β:Type}{N:Nat×Nat->Prop}{f:β->PV}{g:α->β}{l:List α}:aV N (l.map ((AV.p∘f)∘g))=True:=UF (f:=f∘g)
attribute [simp] avt awh asl aP6 Zq Xy aQn cZ cF du iv
end
section
variable{P:a0}{ah:aT->Bool}
theorem Pe{T:Heap}:∀{h:Heap},iK T h h=True
 |[]=>by simp[iK]
 |o::h=>by simp[iK,QF,Pe (h:=h)]
theorem E0{T:Heap}:∀{h k:Heap},eg T (h++k)=(eg T h/\eg T k)
 |[],k=>by simp[eg]
 |o::h,k=>by simp[eg,E0 (h:=h),and_assoc]
theorem aP7{N:Nat×Nat->Prop}{n:Nat}{v:PV}:aV N (bi n (.p v))=True:=by
 rw[cB,eq_iff_iff,iff_true];intro x hx;rw[(List.mem_replicate.1 hx).2];trivial
theorem avi{σ:Nat->Nat}{α:Type}{f:α->PV}{l:List α}:cF σ (l.map fun x=>.p (f x))=l.map fun x=>.p (f x):=iv (f:=f)
theorem uh{L:ey}{e:Env}{H:Heap}(h:L.env=e)(a:iZ H e):∀x,aE (aL H) (aS L.env x):=by rw[h];exact a.get
def ey.bz(L:ey):ey:={L with st:=.busy}
def ey.dn(L:ey)(j:Code):ey:={L with st:=.done,pending:=some j}
def ey.xh(L:ey):ey:={L with st:=.exhausted}
def Stream(P:a0)(g:aT)(fi ca:List PV)(d:List (List PV)):Prop:=
 ∀(b k:Nat)(c:Nat->Heap)(H':Heap),k<=d.length->(∀i,i<=k->eg (c i) (c i)/\aE (aL (c i)) (.map b))->
  (∀i a,i<k->d[i]?=some a->gX P b (c i) (a.map .p) (c (i+1)) (.p (.bool true)))->
  (k=d.length/\H'=c k\/∃a,d[k]?=some a/\gX P b (c k) (a.map .p) H' (.p (.bool false)))->
  b8 P g (c 0) (fi.map .p++[.map b]++ca.map .p) H' (.p (.aD []))
theorem aC3{b:Nat}{args:List AV}{M:AV->Heap->Prop}{heap:Heap}:B3 P heap M (.map b) args=∃H' v,gX P b heap args H' v/\M v H':=(rfl)
def vU(b:Nat)(L:ey)(N:Nat)(H':Heap)(v:Bool)(e:Tg (b,L,N,H',v) bD)(s:Tg (b,L,N,H',v) St):Prop:=
 match e with
 | .normal=>v=true/\(St.heap s)[b]?=some (.loop L.bz)/\cW N ⟨[],(St.heap s).set b (.loop L)⟩ ⟨[],H'⟩
 | .exit id=>v=false/\(St.heap s)[b]?=some (.loop L.bz)/\cW N ⟨[],(St.heap s).set b (.loop (L.dn (.exit id)))⟩ ⟨[],H'⟩
 | .ret=>v=false/\(St.heap s)[b]?=some (.loop L.bz)/\cW N ⟨[],(St.heap s).set b (.loop (L.dn .ret))⟩ ⟨[],H'⟩
section
variable{b N:Nat}{L:ey}{H':Heap}{v:Bool}{s:St}
theorem ZH:vU b L N H' v .normal s=(v=true/\s.heap[b]?=some (.loop L.bz)/\cW N ⟨[],s.heap.set b (.loop L)⟩ ⟨[],H'⟩):=(rfl)
theorem avk{id:Nat}:vU b L N H' v (.exit id) s=(v=false/\s.heap[b]?=some (.loop L.bz)/\cW N ⟨[],s.heap.set b (.loop (L.dn (.exit id)))⟩ ⟨[],H'⟩):=(rfl)
theorem aPY:vU b L N H' v .ret s=(v=false/\s.heap[b]?=some (.loop L.bz)/\cW N ⟨[],s.heap.set b (.loop (L.dn .ret))⟩ ⟨[],H'⟩):=(rfl)
end
def G6(P:a0)(ah:aT->Bool)(q:Cx)(b:Nat)(c:Code)(L:ey)(H':Heap)(v:Bool)(e:Tg (q,b,c,L,H',v) bD)(s:Tg (q,b,c,L,H',v) St):Prop:=
 match e with
 | .normal=>(St.heap s)[b]?=some (.loop L)/\fg P ah q c (vU b L q.2 H' v) ⟨St.env s,(St.heap s).set b (.loop L.bz)⟩
 |_=>False
theorem ZI{q:Cx}{b:Nat}{c:Code}{L:ey}{H':Heap}{v:Bool}{s:St}:G6 P ah q b c L H' v .normal s=(s.heap[b]?=some (.loop L)/\fg P ah q c (vU b L q.2 H' v) ⟨s.env,s.heap.set b (.loop L.bz)⟩):=(rfl)
theorem rP(ah:aT->Bool)(r:P.follows .mixedOrders=true){b n:Nat}{L:ey}{H H':Heap}{args:List AV}{v:Bool}{j:List Tmp}{a c:Code}{env:Env}
 (d:L=⟨.ready,none,n,j,a,c,env⟩)(o:H[b]?=some (.loop L))(q:args.length=j.length)
 (t:(j.all (fun x=>decide (x<n))&&codeOk fit n a&&codeOk fit n c)=true)
 (u:fg P ah (n,H.length) a (G6 P ah (n,H.length) b c L H' v) ⟨sV j args env,H⟩):gX P b H args H' (.p (.bool v)):=by
 refine Te ah r o (by rw[d];exact q) (by rw[d];exact t) ?_;unfold AY;have e1:L.n=n:=by rw[d]
 have e2:L.assign=a:=by rw[d]
 have e3:L.body=c:=by rw[d]
 have e4:L.params=j:=by rw[d]
 have e5:L.env=env:=by rw[d]
 have k:L.st=.ready:=by rw[d]
 rw[e1,e2,e3,e4,e5];refine mI (Q:=G6 P ah (n,H.length) b c L H' v) _ (fun e s h=>?_) u;cases e with
 |normal=>
  obtain⟨l,m⟩:=h;simp only[Ae,l];refine⟨k,mI (Q:=vU b L H.length H' v) _ (fun e s h=>?_) m⟩;cases e with
  |normal=>
   obtain⟨rfl,f,g⟩:=h;have i:s.heap[b]?=some (.loop L.bz):=f;simp only[uL,i,iG];refine⟨rfl,?_⟩;have:({L.bz with st:=LoopState.ready,pending:=none}:ey)=L:=by subst d;rfl
   simpa[this]using g
  |exit id=>
   obtain⟨rfl,f,g⟩:=h;have i:s.heap[b]?=some (.loop L.bz):=f;simp only[uL,i,iG];exact⟨rfl,g⟩
  |ret=>
   obtain⟨rfl,f,g⟩:=h;have i:s.heap[b]?=some (.loop L.bz):=f;simp only[uL,i,iG];exact⟨rfl,g⟩
 |exit id=>exact h.elim
 |ret=>exact h.elim
theorem rf{f:ax}{h:Array Tmp}{a c:Code}{Q:bD->St->Prop}{env:Env}{heap:Heap}{q:Cx}{g:aT}{fi ca:List PV}{n:List (List PV)}(aN:Stream P g fi ca n)(hf:ev env f= .p (.func g fi ca))(hq:q.2<=heap.length)
 (X:ey->Nat->Heap)(k:Nat)(hk:k<=n.length)(u:∀L,X L 0=heap++[.loop L])
 (hx:∀L,L=⟨.ready,none,q.1,h.toList,a,c,env⟩->∀i,i<=k->(X L i)[heap.length]?=some (.loop L)/\iZ (X L i) env/\(iZ (X L i) env->(∀x,aE (aL (X L i)) (aS L.env x))->eg (X L i) (X L i)))
 (t:∀L,L=⟨.ready,none,q.1,h.toList,a,c,env⟩->∀i x,i<k->n[i]?=some x->gX P heap.length (X L i) (x.map .p) (X L (i+1)) (.p (.bool true)))
 (y:∀L,L=⟨.ready,none,q.1,h.toList,a,c,env⟩->(k=n.length/\Q .normal ⟨env,(X L k).set heap.length (.loop L.xh)⟩)\/
  ∃x j l,n[k]?=some x/\l[heap.length]?=some (.loop (L.dn j))/\gX P heap.length (X L k) (x.map .p) l (.p (.bool false))/\kl Q (some j) ⟨env,l.set heap.length (.loop (L.dn j).xh)⟩):
 fg P ah q (.rangeFunc f h a c) Q ⟨env,heap⟩:=by
 obtain⟨L,b⟩:∃L:ey,L=⟨.ready,none,q.1,h.toList,a,c,env⟩:=⟨_,rfl⟩
 have s:=aN heap.length k (X L);refine⟨hq,?_⟩;show jO P (ev env f) heap.length (heap++[.loop ⟨.ready,none,q.1,h.toList,a,c,env⟩]) (iX heap.length env Q);rw[hf];simp only[jO];rw[<-b,<-u L];have r:∀i,i<=k->eg (X L i) (X L i)/\aE (aL (X L i)) (.map heap.length):=by
  intro i hi;obtain⟨m,d,o⟩:=hx L b i hi;have e5:L.env=env:=by rw[b]
  refine⟨o d (by rw[e5];exact d.get),?_⟩;simp only[aE,aL,m];exact⟨_,rfl,by simp[Obj.has]⟩
 rcases y L b with⟨m,d⟩|⟨x,j,l,m,d,o,v⟩
 ·refine⟨_,_,s (X L k) hk r (t L b) (.inl ⟨m,rfl⟩),?_⟩;have w:=(hx L b k (c8 k)).1;simp only[iX,w];refine⟨by rw[b];simp,?_⟩;have:L.pending=none:=by rw[b]
  simp only[this,kl];have e:L.xh={L with st:=.exhausted}:=rfl;rw[this]at e;rw[e]at d;exact d
 ·refine⟨_,_,s l hk r (t L b) (.inr ⟨x,m,o⟩),?_⟩;simp only[iX,d];exact⟨by simp[ey.dn],v⟩
section aKV
variable{f:aT}{H0 ch H:Heap}{ga args:List AV}{v0:AV}{K:AV->Heap->Prop}{L:aZ->Prop}
theorem JP(h:b8 P f H0 ga ch v0)(bs:List Nat)(d:bs.length=H0.length)(g:bs.Nodup)(e:∀b∈bs,b<H.length)(hl:H0.length<=ch.length)(a:aV (aL H0) ga)(i:eg H0 H0)(c:cF (sig bs H.length) ga=args):
 tK P f args H.length (dT bs H.length H0 ch v0):=by
 have:=h.frame bs H.length d g e hl a i.get
 rwa [c]at this
theorem cf(h:b8 P f H0 ga ch v0)(bs:List Nat)(hk:K (cZ (sig bs H.length) v0) (ba H (bs.zip ((ch.take H0.length).map (du (sig bs H.length))))++(ch.drop H0.length).map (du (sig bs H.length))))(al:∀p∈bs.zip (H0.map (du (sig bs H.length))),H[p.1]?=some p.2:=by simp[sig])(aM:∀p∈bs.zip ((ch.take H0.length).map (du (sig bs H.length))),p.1<H.length/\p.2≠ .hole:=by simp[sig])
 (c:bs.length=H0.length:=by simp)(e:bs.Nodup:=by simp)(d:∀b∈bs,b<H.length:=by simp)(hl:H0.length<=ch.length:=by simp)(a:aV (aL H0) ga:=by simp)(hr:eg H0 H0:=by simp)(hargs:cF (sig bs H.length) ga=args:=by simp[sig]):lK P false f K args H:=
 .inr ⟨rfl,.inr (.inr (.inl ⟨_,JP h bs c e d hl a hr hargs,⟨al,aM⟩,hk⟩))⟩
theorem ef(h:b8 P f H0 ga ch v0)(bs:List Nat)(hk:L {v:=cZ (sig bs H.length) v0,al:=bs.zip (H0.map (du (sig bs H.length))),aM:=bs.zip ((ch.take H0.length).map (du (sig bs H.length))),aX:=(ch.drop H0.length).map (du (sig bs H.length))})(al:∀p∈bs.zip (H0.map (du (sig bs H.length))),H[p.1]?=some p.2:=by simp[sig])(aM:∀p∈bs.zip ((ch.take H0.length).map (du (sig bs H.length))),p.1<H.length/\p.2≠ .hole:=by simp[sig])
 (d:bs.length=H0.length:=by simp)(g:bs.Nodup:=by simp)(e:∀b∈bs,b<H.length:=by simp)(hl:H0.length<=ch.length:=by simp)(a:aV (aL H0) ga:=by simp)(i:eg H0 H0:=by simp)(c:cF (sig bs H.length) ga=args:=by simp[sig]):nV P f L args H:=
 .inr (.inr (.inl ⟨_,JP h bs d g e hl a i c,⟨al,aM⟩,hk⟩))
end aKV
section bytes
variable{dst:Option Tmp}{ty:Nat}{pos:String}{af:Array Edge}{g:Option (Nat×Bool)}{env:Env}{heap:Heap}{L:St->Prop}{K:aZ->Prop}
theorem aDU{x:ax}{d:Array ay}{b ar ak off len:Nat}{k:AK}{es:List AV}(hx:ev env x= .sl b ar ak off len)(f:heap[b]?=some (.arr k ar ak es))(e:0<len)(hl:off+len<=es.length)
 (hk:K {v:=.ct b ar ak off [],al:=[(b,.arr k ar ak es)]}):eD P ah ⟨dst,.call {callee:=.builtin .unsafeSliceData,args:=#[x],argTypes:=d},ty,pos,af,g⟩ ⟨env,heap⟩ K ():=by
 show(match ev env x with
   | .p .aH=>K {v:=.p .dX}
   | .sl b ar ak off len=>(match heap[b]? with
    |some (.arr k c a es)=>ar=c/\ak=a/\((k.gr=true/\es=[]/\K {v:=.p .dX,al:=[(b,.arr k c a es)]})\/(0<len/\off+len<=es.length/\K {v:=.ct b ar ak off [],al:=[(b,.arr k c a es)]}))
    |_=>False)
   |_=>False)
 rw[hx];simp only[f];exact⟨trivial,trivial,.inr ⟨e,hl,hk⟩⟩
theorem aDW{x y:ax}{a:Array ay}{b ar:Nat}{m:Int}{es:List AV}{l:List Nat}(hx:ev env x= .ct b ar 1 0 [])(n:ev env y= .p (.int .i64 m))(i:heap[b]?=some (.arr .bytes ar 1 es))(c:0<m)(j:m.toNat<=es.length)(d:m<=9223372036854775807)
 (f:a.size=2)(e:ptrTo P (a.getD 0 0)=some Gl.u8)(k:P.cellsOf Gl.u8=1)(hl:bytesOf (es.take m.toNat)=some l)
 (hk:K {v:=.p (.str l),al:=[(b,.arr .bytes ar 1 es)],aM:=[(b,.dead)]}):eD P ah ⟨dst,.call {callee:=.builtin .unsafeString,args:=#[x,y],argTypes:=a},ty,pos,af,g⟩ ⟨env,heap⟩ K ():=by
 have h:fR P ah ⟨dst,.call {callee:=.builtin .unsafeString,args:=#[x,y],argTypes:=a},ty,pos,af,g⟩ (ev env) heap K:=by
  unfold fR;simp only[br,List.map_nil,hx,n,i];exact⟨trivial,trivial,trivial,trivial,c,j,d,f,e,k,by rw[hl];exact hk⟩
 exact h
end bytes
theorem rf2{f:ax}{h:Array Tmp}{a c:Code}{Q:bD->St->Prop}{env:Env}{heap:Heap}{q:Cx}{g:aT}{fi ca:List PV}{b:List (List PV)}(aN:Stream P g fi ca b)(hf:ev env f= .p (.func g fi ca))(hq:q.2<=heap.length)
 (X F:ey->Nat->Heap)(okB:Nat->Bool)(j:Code)(k:Nat)(hk:k<=b.length)(u:∀i,i<k->okB i=true)(r:k=b.length\/(k<b.length/\okB k=false))(m:∀L,X L 0=heap++[.loop L])
 (hx:∀L,L=⟨.ready,none,q.1,h.toList,a,c,env⟩->∀i,i<=k->(X L i)[heap.length]?=some (.loop L)/\iZ (X L i) env/\(iZ (X L i) env->(∀x,aE (aL (X L i)) (aS L.env x))->eg (X L i) (X L i)))
 (l:∀L,L=⟨.ready,none,q.1,h.toList,a,c,env⟩->∀i x,i<=k->b[i]?=some x->gX P heap.length (X L i) (x.map .p) (if okB i=true then X L (i+1)else F L (i+1)) (.p (.bool (okB i))))
 (n:∀L,(F L (k+1))[heap.length]?=some (.loop (L.dn j)))
 (s:k=b.length->∀L,Q .normal ⟨env,(X L k).set heap.length (.loop L.xh)⟩)
 (v:k<b.length->∀L,kl Q (some j) ⟨env,(F L (k+1)).set heap.length (.loop (L.dn j).xh)⟩):
 fg P ah q (.rangeFunc f h a c) Q ⟨env,heap⟩:=by
 refine rf aN hf hq X k hk m hx (fun L e i x hi t=>?_) (fun L e=>?_)
 ·have:=l L e i x o_ t;rw[u i hi]at this;exact this
 ·rcases r with d|⟨d,o⟩
  ·exact .inl ⟨d,s d L⟩
  ·right;refine⟨b[k],j,F L (k+1),bb d,n L,?_,v d L⟩;have:=l L e k b[k] (c8 _) (bb d);rw[o]at this;exact this
attribute [simp] avi aP7 Pe E0 ZH avk aPY ZI aC3 sV
end
section
variable{P:a0}{ah:aT->Bool}{w:a4}{ad ai:Nat->Prop}{β:Bd}{H:Heap}
def aTy(K:Nat->Bool)(H:Heap):Heap:=H.mapIdx fun i o=>if K i then .dead else o
def aRo(K:Nat->Bool)(ad:Nat->Prop)(β:Bd)(H:Heap)(k:Nat):Prop:=ad k\/∃(b:Nat)(o:Obj),H[b]?=some o/\o.live/\K b=true/\β.aq b=k
theorem fH.held{b:Nat}{o:Obj}(h:fH P w ad β H ai b o)(hl:o.live):ad (β.aq b)\/¬ai (β.aq b):=by
 by_cases hi:ad (β.aq b)
 ·exact .inl hi
 ·exact .inr (h.mut hl hi)
end
section
variable{P:a0}{w:a4}{ad ai:Nat->Prop}{β:Bd}
theorem uE{t t':AV}{r:Heap}:cM β (.box false t::r) β (.box false t'::r):=by
 refine⟨fun b _ h=>⟨?_,rfl⟩,fun b _ h=>⟨?_,rfl⟩,fun b _ h=>⟨?_,rfl⟩,fun b ar ak k c _ h=>⟨k,c,?_,c8 _,Iff.rfl,fun _=>⟨rfl,rfl⟩⟩,fun b _ h=>⟨?_,rfl⟩⟩
 ·cases b with
  |zero=>exact⟨false,t,rfl⟩
  |succ b=>exact h
 ·obtain⟨s,q,h⟩:=h;cases b with
  |zero=>simp at h
  |succ b=>exact⟨s,q,h⟩
 ·obtain⟨d,h,a⟩:=h;cases b with
  |zero=>simp at h;subst h;exact a.elim
  |succ b=>exact⟨d,h,a⟩
 ·cases b with
  |zero=>simp[fp]at h
  |succ b=>exact h
 ·obtain⟨L,h⟩:=h;cases b with
  |zero=>simp at h
  |succ b=>exact⟨L,h⟩
theorem sF{t t':AV}{r:Heap}{x:Nat×Nat}(h:aL (.box false t::r) x):aL (.box false t'::r) x:=by
 obtain⟨o,a,c⟩:=h;obtain⟨b,v⟩:=x;cases b with
 |zero=>exact⟨_,rfl,trivial⟩
 |succ b=>exact⟨o,a,c⟩
theorem cm.swap{t d:AV}{r:Heap}(c:cm P w ad β (.box false t::r) ai)(hc:∀cs,bw P w ad β (.box false t::r) t cs->bw P w ad β (.box false t::r) d cs)(k:∀T,jT T (aa d)=true)
 (f:∀n,aE n t->aE n d):cm P w ad β (.box false d::r) ai:=by
 refine⟨fun b o a=>?_,fun b b' o o' a q hl m p l=>?_,fun b o a=>?_,c.cd,c.fe,c.jG⟩
 ·cases b with
  |zero=>
   simp at a;subst a;obtain⟨cs,T,g,i,j,v,y⟩:=c.cX 0 _ rfl;have s:=c.refs 0 _ rfl;exact⟨cs,T,g,bw.mono (fun _ x=>x) (fun _ _=>rfl) uE _ _ (f _ s) (hc _ i),j,(fun h=>absurd h s_),k T⟩
  |succ b=>exact fH.carry (fun _ x=>x) (fun _ _=>rfl) uE (c.refs (b+1) o a) (fun _=>⟨rfl,rfl,rfl⟩) (fun _ _ h=>h) (c.cX (b+1) o a)
 ·have key:∀{b:Nat}{o:Obj},(Obj.box false d::r)[b]?=some o->o.live->∃e,(Obj.box false t::r)[b]?=some e/\e.live:=by
   intro b o a hl;cases b with
   |zero=>exact⟨_,rfl,trivial⟩
   |succ b=>exact⟨o,a,hl⟩
  obtain⟨e,k1,k2⟩:=key a hl;obtain⟨u,k3,k4⟩:=key q m;exact c.inj b b' e u k1 k3 k2 k4 p l
 ·cases b with
  |zero=>
   simp at a;subst a;exact aE.mono (fun _ h=>sF h) _ (f _ (c.refs 0 _ rfl))
  |succ b=>exact Obj.Aw (fun _ h=>sF h) (c.refs (b+1) o a)
theorem Pq{H:Heap}{u:ay}{n:Nat}(f:dY P u=some [n]){t:AV}{cs:List a3}:bw P w ad β H (.st u [t]) cs↔bw P w ad β H t cs/\cs.length=n:=by
 simp only[bw,f,dp];constructor
 ·rintro⟨l,g,rfl,a,rfl⟩;simp only[bX]at a;obtain⟨c,d,rfl,b,e,rfl⟩:=a;simpa using⟨b,e⟩
 ·rintro⟨a,b⟩;exact⟨[n],[cs],rfl,by simp only[bX];exact⟨cs,[],rfl,a,b,rfl⟩,s_⟩
theorem b8.wrap{f:aT}{u:ay}{n:Nat}{t i:AV}{r j:Heap}{args:List AV}{v:AV}(q:dY P u=some [n])(a:∀T,jT T (.agg u)=true)(F:∀T,jT T (aa t)=true)(G:∀(w:a4)(ad:Nat->Prop)(β:Bd)(H:Heap)(cs:List a3),bw P w ad β H i cs->cs.length=n)
 (h:b8 P f (.box false t::r) (.ptr 0 []::args) (.box false i::j) v):b8 P f (.box false (.st u [t])::r) (.ptr 0 [(u,0)]::args) (.box false (.st u [i])::j) v:=by
 refine⟨h.1,fun w ad ai β N hr D y=>?_⟩;have J:cm P w ad β (.box false t::r) ai:=hr.swap (fun cs h=>((Pq q).1 h).1) F (fun n h=>by simpa[aE,aV]using h);obtain⟨x,xs,rfl,h1,C⟩:=D;have E:bC P w ad β (.box false t::r) (.ptr 0 []::args) (x::xs):=by
  refine⟨x,xs,rfl,?_,bC.mono (fun _ x=>x) (fun _ _=>rfl) uE _ _ y.2 C⟩;obtain⟨q1,aq,off,o,s,M,q4⟩:=h1;refine⟨q1,aq,off,0,s,rfl,fun _=>?_⟩;have I:o=0:=by simpa[gT,q]using M.symm
  have:=q4 (.inl ⟨false,_,rfl⟩);rw[I]at this;exact this
 refine(h.2 w ad ai β (x::xs) J E ⟨⟨_,rfl,trivial⟩,aV.mono (fun _ h=>sF h) _ y.2⟩).mono ?_;rintro e w' ⟨B,aO,aF,rfl,g,K,z⟩;refine⟨B,aO,aF,rfl,⟨g.cd,g.fresh,g.ext,?_,?_,fun x hx=>sF (g.gh x (sF hx)),?_⟩,aA.mono (fun _ x=>x) (fun _ _=>rfl) uE _ _ z K,aE.mono (fun _ h=>sF h) _ z⟩
 ·have aN:=g.step;have m:=uE (β:=β) (t:=.st u [t]) (t':=t) (r:=r);have p:=uE (β:=aO) (t:=i) (t':=.st u [i]) (r:=j);have d:∀x,aL (.box false (.st u [t])::r) x->aL (.box false t::r) x:=fun x h=>sF h;have l:∀x,aL (.box false t::r) x->aL (.box false i::j) x:=g.gh;refine⟨fun b a c=>?_,fun b a c=>?_,fun b a c=>?_,fun b ar ak k es a c=>?_,fun b a c=>?_⟩
  ·obtain⟨k1,k2⟩:=p.box b (l _ (d _ a)) c;obtain⟨k3,k4⟩:=aN.box b (d _ a) k1;exact⟨(m.box b a k3).1,k4⟩
  ·obtain⟨k1,k2⟩:=p.it b (l _ (d _ a)) c;obtain⟨k3,k4⟩:=aN.it b (d _ a) k1;exact⟨(m.it b a k3).1,k4⟩
  ·obtain⟨k1,k2⟩:=p.map b (l _ (d _ a)) c;obtain⟨k3,k4⟩:=aN.map b (d _ a) k1;exact⟨(m.map b a k3).1,k4⟩
  ·have k1:fp (.box false i::j) b ar ak k es:=by
    cases b with
    |zero=>simp[fp]at c
    |succ b=>exact c
   obtain⟨k0,iA,q1,s⟩:=aN.arr b ar ak k es (d _ a) k1;refine⟨k0,iA,?_,s⟩;cases b with
   |zero=>simp[fp]at q1
   |succ b=>exact q1
  ·obtain⟨k1,k2⟩:=p.loop b (l _ (d _ a)) c;obtain⟨k3,k4⟩:=aN.loop b (d _ a) k1;exact⟨(m.loop b a k3).1,k4⟩
 ·exact g.rel.swap (fun cs h=>(Pq q).2 ⟨h,G _ _ _ _ _ h⟩) a (fun n h=>by simpa[aE,aV]using h)
 ·rintro b ⟨L,c⟩;have k1:iF (.box false t::r) b:=by
   cases b with
   |zero=>simp at c
   |succ b=>exact⟨L,c⟩
  obtain⟨A,k2⟩:=g.loop b k1;cases b with
  |zero=>simp at k2
  |succ b=>exact⟨A,k2⟩
end
section
variable{P:a0}{w:a4}{ad ai:Nat->Prop}{β:Bd}
def vC(n:Nat):Heap:=bi n .dead
theorem oT{n b:Nat}{o:Obj}(h:(vC n)[b]?=some o):o=.dead:=by
 simp only[vC,b2]at h
 split at h
 ·injection h with h;exact h.symm
 ·cases h
theorem b8.cut{f:aT}{H:Heap}{args:List AV}{n:Nat}{p:PV}(h:b8 P f H args (vC n) (.p p)):b8 P f H args (vC H.length) (.p p):=by
 refine⟨h.1,fun w ad ai β g u q v=>(h.2 w ad ai β g u q v).mono ?_⟩;rintro e w' ⟨i,aO,aF,rfl,a,y,z⟩;have no:∀{m b:Nat}{o:Obj},(vC m)[b]?=some o->o.live->False:=fun h hl=>by rw[oT h]at hl;exact hl
 refine⟨i,aO,aF,rfl,⟨a.cd,a.fresh,a.ext,⟨?_,?_,?_,?_,?_⟩,⟨fun b o c=>by rw[oT c];trivial,fun b b' o o' c _ hl=>(no c hl).elim,fun b o c=>by rw[oT c];trivial,a.rel.cd,a.rel.fe,a.rel.jG⟩,?_,?_⟩,y,trivial⟩
 ·rintro b _ ⟨fz,t,h⟩;cases oT h
 ·rintro b _ ⟨fz,t,h⟩;cases oT h
 ·rintro b _ ⟨A,h,d⟩;rw[oT h]at d;exact d.elim
 ·intro b ar ak k es _ h;cases oT h
 ·rintro b _ ⟨L,h⟩;cases oT h
 ·rintro x ⟨o,j,_⟩;have s:=(be.1 j).1;exact⟨.dead,by rw[vC,b2,if_pos s],trivial⟩
 ·intro b r;obtain⟨L,l⟩:=a.loop b r;cases oT l
theorem b8.dw{f:aT}{H H':Heap}{args:List AV}{v v':PV}(h:b8 P f H args H' (.p v))(k:Wk v v'):b8 P f H args H' (.p v'):=by
 refine⟨h.1,fun w ad ai β a i d j=>(h.2 w ad ai β a i d j).mono ?_⟩;rintro e w' ⟨b,aO,aF,rfl,g,c,l⟩;exact⟨b,aO,aF,rfl,g,aC.dw _ _ _ k c,trivial⟩
end
section
variable{P:a0}
def BV(P:a0)(a:List a1)(N:Nat)(Q:AV->Heap->Prop)(e:Tg (a,N,Q) bD)(s:Tg (a,N,Q) St):Prop:=
 (match e with
  | .exit _=>False
  |_=>True)/\∃vs,fX P s a=some vs/\∃H',Q (oneOf vs) H'/\(H'=St.heap s\/(cW N s ⟨[],H'⟩/\aE (aL H') (oneOf vs)))
theorem atE{a:List a1}{N:Nat}{Q:AV->Heap->Prop}{s:St}:BV P a N Q .ret s=∃vs,fX P s a=some vs/\∃H',Q (oneOf vs) H'/\(H'=s.heap\/(cW N s ⟨[],H'⟩/\aE (aL H') (oneOf vs))):=by simp[BV]
theorem Yk{a:List a1}{N:Nat}{Q:AV->Heap->Prop}{s:St}:BV P a N Q .normal s=∃vs,fX P s a=some vs/\∃H',Q (oneOf vs) H'/\(H'=s.heap\/(cW N s ⟨[],H'⟩/\aE (aL H') (oneOf vs))):=by simp[BV]
attribute [simp] atE Yk
end
section
variable{P:a0}
theorem az.heap{f:aT}{vs j:List PV}{v:PV}{H H1:Heap}{args:List AV}(h:az P f vs v)(g:Enters P f)(o:oG H args=some (j,H1))(l:bI j vs:=by first|exact bI.refl _|simp):b8 P f H args H1 (.p v):=by
 refine⟨g,fun w ad ai β x u r q=>?_⟩;obtain⟨b,a,i⟩:=Eg o u r q;rcases h.dw l (Wk.refl _)with m|n
 ·intro cs;obtain⟨e,w',k,⟨c,aF,he,m1,m2,m3,m4,m5,m6,m7⟩,aN,s,t⟩:=m.2 w b _ a.rel.cd a.rel.jG i cs;subst he;exact⟨_,w',k,⟨c,β,aF,rfl,a.trans (a.rel.later m1 m2 m3 m4 m5 m6),by simpa[aA]using m7,by simp[aE]⟩,aN,s,t⟩
 ·obtain⟨c,d,_⟩:=n w b _ i;rw[g]at d;cases d
theorem I4{w:a4}{ad ai:Nat->Prop}{β:Bd}{H:Heap}{n:Nat}(e:cm P w ad β H ai):∀{args:List AV}{vs:List PV}{c:List a3},jH (eQ H n) args=some vs->aV (aL H) args->bC P w ad β H args c->bu P w (BK ad β H) vs c
 |[],vs,c,h,_,b=>by
  simp[jH]at h;subst h;simp only[bC]at b;simpa[bu]using b
 |a::args,vs,c,h,d,b=>by
  simp only[jH]at h
  split at h
  case h_2=>simp at h
  rename_i y j f g;simp at h;subst h;simp only[bC]at b;obtain⟨z,i,rfl,k1,k2⟩:=b;simp only[aV]at d;simp only[bu];exact⟨z,i,rfl,Af e n a y f d.1 z k1,I4 e g d.2 k2⟩
end
section
variable{P:a0}{ah:aT->Bool}
open Classical in
noncomputable def Gp(H H2:Heap):List (Nat×Obj):=(vR (H2.take H.length)).filter fun p=>decide (H[p.1]?≠some p.2)
def HW(P:a0)(g:aT)(fi ca:List PV)(h:List (List PV))(d:Nat->Heap):Prop:=
 ∀(b k:Nat)(c f:Nat->Heap)(H':Heap),k<=h.length->(∀i,i<=k->eg (c i) (c i)/\aE (aL (c i)) (.map b))->
  (∀i a,i<k->h[i]?=some a->gX P b (c i++d i) (a.map .p) (f i) (.p (.bool true))/\(c i++d i).length<=(f i).length/\(∀j,j<(c i++d i).length->(f i)[j]?=some .hole->(c i++d i)[j]?=some .hole)/\
   (c (i+1)).take (c 0).length=(f i).take (c 0).length/\iK (c (i+1)) (f i) (c (i+1)))->
  (k=h.length/\H'=c k\/∃a e,h[k]?=some a/\gX P b (c k++d k) (a.map .p) e (.p (.bool false))/\(c k++d k).length<=e.length/\(∀j,j<(c k++d k).length->e[j]?=some .hole->(c k++d k)[j]?=some .hole)/\
   H'.take (c 0).length=e.take (c 0).length/\iK H' e H'/\eg H' H')->
  b8 P g (c 0) (fi.map .p++[.map b]++ca.map .p) H' (.p (.aD []))
theorem rfd{f:ax}{n:Array Tmp}{a c:Code}{Q:bD->St->Prop}{env:Env}{heap:Heap}{q:Cx}{g:aT}{fi ca:List PV}{r:List (List PV)}{h:Nat->Heap}(aN:HW P g fi ca r h)(hf:ev env f= .p (.func g fi ca))(hq:q.2<=heap.length)
 (X Y:ey->Nat->Heap)(k:Nat)(hk:k<=r.length)(u:∀L,X L 0=heap++[.loop L])
 (hx:∀L,L=⟨.ready,none,q.1,n.toList,a,c,env⟩->∀i,i<=k->(X L i)[heap.length]?=some (.loop L)/\iZ (X L i) env/\(iZ (X L i) env->(∀x,aE (aL (X L i)) (aS L.env x))->eg (X L i) (X L i)))
 (w:∀L,L=⟨.ready,none,q.1,n.toList,a,c,env⟩->∀i x,i<k->r[i]?=some x->gX P heap.length (X L i++h i) (x.map .p) (Y L i) (.p (.bool true))/\(X L i++h i).length<=(Y L i).length/\(∀j,j<(X L i++h i).length->(Y L i)[j]?=some .hole->(X L i++h i)[j]?=some .hole)/\
  (X L (i+1)).take (heap.length+1)=(Y L i).take (heap.length+1)/\iK (X L (i+1)) (Y L i) (X L (i+1)))
 (G:∀L,L=⟨.ready,none,q.1,n.toList,a,c,env⟩->(k=r.length/\Q .normal ⟨env,(X L k).set heap.length (.loop L.xh)⟩)\/
  ∃x j l b,r[k]?=some x/\b[heap.length]?=some (.loop (L.dn j))/\gX P heap.length (X L k++h k) (x.map .p) l (.p (.bool false))/\(X L k++h k).length<=l.length/\(∀i,i<(X L k++h k).length->l[i]?=some .hole->(X L k++h k)[i]?=some .hole)/\
  b.take (heap.length+1)=l.take (heap.length+1)/\iK b l b/\eg b b/\kl Q (some j) ⟨env,b.set heap.length (.loop (L.dn j).xh)⟩):
 fg P ah q (.rangeFunc f n a c) Q ⟨env,heap⟩:=by
 obtain⟨L,d⟩:∃L:ey,L=⟨.ready,none,q.1,n.toList,a,c,env⟩:=⟨_,rfl⟩
 have t:=aN heap.length k (X L) (Y L);refine⟨hq,?_⟩;show jO P (ev env f) heap.length (heap++[.loop ⟨.ready,none,q.1,n.toList,a,c,env⟩]) (iX heap.length env Q);rw[hf];simp only[jO];rw[<-d,<-u L];have y:(X L 0).length=heap.length+1:=by rw[u L];simp
 have v:∀i,i<=k->eg (X L i) (X L i)/\aE (aL (X L i)) (.map heap.length):=by
  intro i hi;obtain⟨o,m,s⟩:=hx L d i hi;have e5:L.env=env:=by rw[d]
  refine⟨s m (by rw[e5];exact m.get),?_⟩;simp only[aE,aL,o];exact⟨_,rfl,by simp[Obj.has]⟩
 rw[y]at t;rcases G L d with⟨o,m⟩|⟨x,j,l,b,o,m,s,z,A,B,C,D,E⟩
 ·refine⟨_,_,t (X L k) hk v (w L d) (.inl ⟨o,rfl⟩),?_⟩;have F:=(hx L d k (c8 k)).1;simp only[iX,F];refine⟨by rw[d];simp,?_⟩;have:L.pending=none:=by rw[d]
  simp only[this,kl];have e:L.xh={L with st:=.exhausted}:=rfl;rw[this]at e;rw[e]at m;exact m
 ·refine⟨_,_,t b hk v (w L d) (.inr ⟨x,l,o,s,z,A,B,C,D⟩),?_⟩;simp only[iX,m];exact⟨by simp[ey.dn],E⟩
theorem U6{H J:Heap}{x:Nat×Nat}(h:aL H x):aL (H++J) x:=by
 obtain⟨o,a,b⟩:=h;exact⟨o,by rw[List.getElem?_append_left (be.1 a).1];exact a,b⟩
theorem eg.up{S T:Heap}(a:∀x,aL S x->aL T x):∀{h:Heap},eg S h->eg T h
 |[],_=>trivial
 |_::_,h=>⟨Obj.Aw a h.1,eg.up a h.2⟩
theorem eg.app{H J:Heap}(h:eg H H)(a:eg (H++J) J):eg (H++J) (H++J):=by
 rw[E0];exact⟨h.up fun _=>U6,a⟩
end
def vM:Obj->Obj
 | .arr _ ar z es=>.arr .frozen ar z es
 |o=>o
def pV(H:Heap):Prop:=∀(b:Nat)(o:Obj),H[b]?=some o->∃(k:AK)(ar z:Nat)(a:List PV),o=.arr k ar z (a.map AV.p)/\¬(k.gr=true/\a.map AV.p=[])
section
variable{P:a0}
theorem IP{w:a4}{ad ai:Nat->Prop}{β:Bd}{H:Heap}(m:pV H)(r:cm P w ad β H ai):∀k,k<=H.length->
 ∃aF,cj P ai ad w β H aF w β ((H.take k).map vM++H.drop k)/\∀b,b<k->aF (β.aq b)
 |0,_=>⟨ad,by simpa using cj.refl r,fun b i=>by omega⟩
 |k+1,hk=>by
  obtain⟨y,f,hi⟩:=IP m r k o_;obtain⟨o,c⟩:∃o,H[k]?=some o:=⟨_,bb o_⟩
  obtain⟨x,ar,z,g,rfl,j⟩:=m k o c;have hl:((H.take k).map vM).length=k:=by simp;omega
  have d:((H.take k).map vM++H.drop k)[k]?=some (.arr x ar z (g.map AV.p)):=by
   rw[List.getElem?_append_right o_,hl,db,List.getElem?_drop,Nat.add_zero,c]
  have aM:((H.take k).map vM++H.drop k).set k (.arr .frozen ar z (g.map AV.p))=(H.take (k+1)).map vM++H.drop (k+1):=by
   rw[List.set_append_right _ _ o_,hl,db,List.take_add_one,c,cr,List.append_assoc];congr 1;obtain⟨u,v⟩:=be.1 c;rw[List.drop_eq_getElem_cons u,v];rfl
  have q:¬dA .frozen (g.map AV.p):=fun h=>by cases h.1
  have aN:=se (β:=β) d (.inr (.inl ⟨_,_,_,_,_,rfl,rfl,j,q⟩));rcases f.rel.cX k _ d with hold|⟨cs,T,s,rest,g1,g2,g3,g4,g5,g6,g7,g8⟩
  ·exact(j hold).elim
  obtain⟨aF,l,t⟩:=sq f.rel d j (o':=.arr .frozen ar z (g.map AV.p)) q (fun _ h=>h) (fun _ h=>by cases h) aN g7.tf
   (fun aF hi i=>.inr ⟨cs,T,s,rest,g1,bX.mono hi (fun _ _=>rfl) aN _ _ _ (f.rel.refs k _ d) g2,g3,g4,g5,(fun h=>by cases h),i,fun _ e n=>(by simp at n;obtain⟨a,_,rfl⟩:=n;trivial),fun h=>by cases h⟩)
   (jz _ _)
  rw[aM]at l;refine⟨aF,f.trans l,fun b i=>?_⟩
  by_cases e:b=k
  ·subst e;exact t
  ·exact l.cd _ (hi b o_)
theorem az.GP{f:aT}{vs:List PV}{v:PV}{H:Heap}{args:List AV}(n:Nat)(h:az P f vs v)(g:Enters P f)(r:pV H)(u:ku H n args vs):b8 P f H args (H.map vM) (.p v):=by
 obtain⟨qs,q,c⟩:=sM n (fun x v h=>qV n x v h) args vs u;refine⟨g,fun w ad ai β l i z y=>?_⟩;obtain⟨aF,a,B⟩:=IP r i H.length (c8 _);rw[List.take_length,List.drop_length,List.append_nil]at a;have j:bu P w aF qs l:=bu.mono (by
  rintro x (hk|⟨b,o,q1,D,rfl⟩)
  ·exact a.cd _ hk
  ·exact B b (be.1 q1).1) (fun _ _=>rfl) _ _ (I4 i q y z)
 rcases h.dw c (Wk.refl _)with s|t
 ·intro cs;obtain⟨e,w',m,⟨d,k,he,m1,m2,m3,m4,m5,m6,m7⟩,aN,A,C⟩:=s.2 w _ _ a.rel.cd a.rel.jG j cs;subst he;exact⟨_,w',m,⟨d,β,k,rfl,a.trans (a.rel.later m1 m2 m3 m4 m5 m6),by simpa[aA]using m7,by simp[aE]⟩,aN,A,C⟩
 ·obtain⟨d,c,_⟩:=t w _ _ j;rw[g]at c;cases c
end
end Go.an
